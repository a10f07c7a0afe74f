/-
  WHAT IS PROVED: parts of the proof, put together by a program out of smaller texts (AbsS; AbsS2). Conditions: none.
-/
import Derived.Test.YtgldgpdhblndkaaGreatDoorPkB12
namespace Go.Proofs.YtgldgpdhblndkaaGreatDoor
open Go
def goOn (K : PSt → Prop) (st : PSt) (dst : Option Tmp) (p : PVal) (ro : List (Nat × TypeId)) (H : List PBox) : Prop := K (putv st dst p ro H)
def goF (K : PSt → Prop) (st : PSt) (dst : Option Tmp) (p : PVal) (H : List PBox) : Prop := K (putv st dst p [] H)
inductive GRes where
  | no
  | other
  | is (t : Nat) (b : Bool)
def gres (t : Nat) : PVal → GRes
  | .bool b => .is t b
  | .undef => .no
  | .val (.bool _) => .no
  | _ => .other
def pguardT (ops : Array Oper) (tmps : List PVal) (j : Nat) : GRes :=
  match (ops[j]?).bind (·.dst) with
  | none => .other
  | some t => match tmps[t]? with
    | none => .other
    | some p => gres t p
def onGuard (g : GRes) (want : Bool) (yes no : PSt → Prop) (st : PSt) : Prop :=
  match g with
  | .no => False
  | .other => no st
  | .is t b => (b = want → yes { st with tmps := st.tmps.set t (.bool want) }) ∧ (b = !want → no { st with tmps := st.tmps.set t (.bool !want) })
def skipTo (dst : Option Tmp) (K : PSt → Prop) (st : PSt) : Prop := K (putv st dst (.val undef) [] st.boxes)
section
variable (P : Program) (GE : List (Nat × List PVal)) (A : List Nat) (ops : Array Oper)
def runT (K : PSt → Prop) : List Oper → Nat → PSt → Prop
  | [], _, st => K st
  | o :: rest, id, st => match o.guard with
    | none => pstep P GE A o id (runT K rest (id + if makesBox o.op then 1 else 0)) st
    | some (j, want) => onGuard (pguardT ops st.tmps j) want (pstep P GE A o id (runT K rest (id + if makesBox o.op then 1 else 0)))
        (skipTo o.dst (runT K rest (id + if makesBox o.op then 1 else 0))) st
def fstep (o : Oper) (id : Nat) (K : PSt → Prop) (st : PSt) : Prop := fdo P GE o.op id (opv GE st.tmps) st.boxes (goF K st o.dst)
def runF (K : PSt → Prop) : List Oper → Nat → PSt → Prop
  | [], _, st => K st
  | o :: rest, id, st => match o.guard with
    | none => fstep P GE o id (runF K rest (id + if makesBox o.op then 1 else 0)) st
    | some (j, want) => onGuard (pguardT ops st.tmps j) want (fstep P GE o id (runF K rest (id + if makesBox o.op then 1 else 0)))
        (skipTo o.dst (runF K rest (id + if makesBox o.op then 1 else 0))) st
theorem pguardT_spec {tmps : List PVal} {j : Nat} : match pguardT ops tmps j with
    | .no => True
    | .other => pguard ops tmps j = some none
    | .is t b => pguard ops tmps j = some (some b) ∧ tmps[t]? = some (.bool b) := by
  unfold pguardT pguard
  cases hd : (ops[j]?).bind (·.dst) with
  | none => simp
  | some t =>
    simp only
    cases ht : tmps[t]? with
    | none => simp
    | some p =>
      cases p <;> simp [gres, ht]
      rename_i v
      cases v <;> simp
theorem onGuard_to {st : PSt} {j : Nat} {want : Bool} {yes no : PSt → Prop} (h : onGuard (pguardT ops st.tmps j) want yes no st) :
    ∃ x, pguard ops st.tmps j = some x ∧ (x = some want → yes st) ∧ (x ≠ some want → no st) := by
  have hs := pguardT_spec ops (tmps := st.tmps) (j := j)
  cases hg : pguardT ops st.tmps j with
  | no => rw [hg] at h; exact h.elim
  | other => rw [hg] at h hs; exact ⟨none, hs, by simp, fun _ => h⟩
  | is t b =>
    rw [hg] at h hs
    obtain ⟨h1, h2⟩ := hs
    obtain ⟨k1, k2⟩ := h
    refine ⟨some b, h1, fun hb => ?_, fun hb => ?_⟩
    · have hb : b = want := by simpa using hb
      have := k1 hb
      rw [← hb, set_same h2] at this
      exact this
    · have hb : b = !want := by cases b <;> cases want <;> simp_all
      have := k2 hb
      rw [← hb, set_same h2] at this
      exact this
end
section
variable {P : Program} {GE : List (Nat × List PVal)} {A : List Nat} {ops : Array Oper}
theorem pdo_mono {op : Op} {id : Nat} {v : Operand → PVal} {H : List PBox} {K K' : PVal → List (Nat × TypeId) → List PBox → Prop} (h : pdo P GE op id v H K) (hk : ∀ p ro H, K p ro H → K' p ro H) : pdo P GE op id v H K' := by
  unfold pdo at *
  split at h
  · unfold pcallV at *
    split at h
    · rcases h with ⟨h1, r, ro, h2, h3⟩ | ⟨ρ, argsC, Hc, rc, ro, Hc', H', r, k1, k2, k3, k4, k5, k6, k7, k8, k9, h3⟩
      · exact .inl ⟨h1, r, ro, h2, hk _ _ _ h3⟩
      · exact .inr ⟨ρ, argsC, Hc, rc, ro, Hc', H', r, k1, k2, k3, k4, k5, k6, k7, k8, k9, hk _ _ _ h3⟩
    · exact h.elim
  · split at h
    · exact hk _ _ _ h
    · exact h.elim
theorem plain_mono {o : Oper} {id : Nat} {K K' : PSt → Prop} {st : PSt} (hk : ∀ st, K st → K' st) (h : callOk o st.tmps.length = true ∧ pdo P GE o.op id (opv GE st.tmps) st.boxes fun p ro H => K (putv st o.dst p ro H)) :
    callOk o st.tmps.length = true ∧ pdo P GE o.op id (opv GE st.tmps) st.boxes fun p ro H => K' (putv st o.dst p ro H) := ⟨h.1, pdo_mono h.2 fun _ _ _ h => hk _ h⟩
theorem pstep_mono {o : Oper} {id : Nat} {K K' : PSt → Prop} {st : PSt} (hk : ∀ st, K st → K' st) (h : pstep P GE A o id K st) : pstep P GE A o id K' st := by
  unfold pstep at *
  split at h
  case h_1 => exact ⟨h.1, hk _ h.2⟩
  case h_2 =>
    split at h
    · rename_i hA; simp only [if_pos hA]; exact ⟨h.1, hk _ h.2⟩
    · rename_i hA; simp only [if_neg hA]; exact plain_mono hk h
  case h_3 =>
    split at h
    · exact ⟨h.1, hk _ h.2⟩
    · exact plain_mono hk h
  case h_4 =>
    split at h
    · exact ⟨h.1, hk _ h.2⟩
    · exact plain_mono hk h
  case h_5 =>
    split at h
    · exact ⟨h.1, hk _ h.2⟩
    · exact h.elim
  case h_6 =>
    split at h
    · exact ⟨h.1, hk _ h.2⟩
    · exact h.elim
  case h_7 =>
    split at h
    · split at h
      · exact ⟨h.1, h.2.1, h.2.2.1, hk _ h.2.2.2⟩
      · exact h.elim
    · exact h.elim
  case h_8 =>
    split at h
    · rename_i hA
      simp only [if_pos hA]
      split at h
      · split at h
        · split at h
          · exact ⟨h.1, h.2.1, hk _ h.2.2⟩
          · exact h.elim
        · exact h.elim
      · exact h.elim
    · rename_i hA; simp only [if_neg hA]; exact plain_mono hk h
  case h_9 =>
    split at h
    · split at h
      · exact hk _ h
      · exact plain_mono hk h
    · exact plain_mono hk h
  case h_10 => exact plain_mono hk h
theorem runT_to {K : PSt → Prop} : ∀ (rest : List Oper) (id : Nat) (st : PSt), runT P GE A ops K rest id st → pregion P GE A ops K rest id st
  | [], _, _, h => h
  | o :: rest, id, st, h => by
    unfold runT at h
    unfold pregion
    split at h
    · rename_i hg
      simp only [hg]
      exact pstep_mono (fun st => runT_to rest _ st) h
    · rename_i hg
      obtain ⟨x, hx, h1, h2⟩ := onGuard_to ops h
      simp only [hg, hx]
      exact ⟨fun hw => pstep_mono (fun st => runT_to rest _ st) (h1 hw), fun hw => runT_to rest _ _ (h2 hw)⟩
theorem runF_to {K : PSt → Prop} : ∀ (rest : List Oper) (id : Nat) (st : PSt), runF P GE ops K rest id st → fregion P GE ops K rest id st
  | [], _, _, h => h
  | o :: rest, id, st, h => by
    unfold runF at h
    unfold fregion
    split at h
    · rename_i hg
      simp only [hg]
      exact fdo_mono h fun p H hq => runF_to rest _ _ hq
    · rename_i hg
      obtain ⟨x, hx, h1, h2⟩ := onGuard_to ops h
      simp only [hg, hx]
      exact ⟨fun hw => fdo_mono (h1 hw) fun p H hq => runF_to rest _ _ hq, fun hw => runF_to rest _ _ (h2 hw)⟩
def loopQ {α : Type} (m : Nat) (S : α → PSt) (I : α → Prop) (μ : α → Nat) (x : α) (Q : Exit → PSt → Prop) : Exit → PSt → Prop
  | .normal, st => ∃ y, I y ∧ μ y < μ x ∧ Less st (S y) ∧ m ≤ (S y).boxes.length
  | e, st => Q e st
def runW (P : Program) (GE : List (Nat × List PVal)) (A : List Nat) (m : Nat) : Code → (Exit → PSt → Prop) → PSt → Prop
  | .skip, Q, st => Q .normal st
  | .label _, Q, st => Q .normal st
  | .region _ ops draw, Q, st => match draw with
    | false => runT P GE A ops (Q .normal) ops.toList st.boxes.length { st with boxes := st.boxes ++ preBoxes P ops.toList }
    | true => drawOK P ops st.tmps.length = true ∧ runF P GE ops (Q .normal) ops.toList st.boxes.length { st with boxes := st.boxes ++ preBoxes P ops.toList, own := st.own.filter fun x => ops.toList.all fun o => o.dst != some x.1.1 }
  | .seq a b, Q, st => runW P GE A m a (thenP (runW P GE A m b Q) Q) st
  | .cond c a b, Q, st => match opv GE st.tmps c with
    | .bool t => (t = true → runW P GE A m a Q st) ∧ (t = false → runW P GE A m b Q st)
    | _ => False
  | .block id c, Q, st => runW P GE A m c (blockP id Q) st
  | .loop c, Q, st => ∃ (α : Type) (S : α → PSt) (I : α → Prop) (μ : α → Nat) (x0 : α), I x0 ∧ Less st (S x0) ∧ m ≤ (S x0).boxes.length ∧ ∀ x, I x → runW P GE A m c (loopQ m S I μ x Q) (S x)
  | .exit id, Q, st => Q (.exit id) st
  | .ret, Q, st => Q .ret st
  | _, _, _ => False
theorem pregion_mono {K K' : PSt → Prop} (hk : ∀ st, K st → K' st) : ∀ (rest : List Oper) (id : Nat) (st : PSt), pregion P GE A ops K rest id st → pregion P GE A ops K' rest id st
  | [], _, _, h => hk _ h
  | o :: rest, id, st, h => by
    unfold pregion at *
    split at h
    · exact pstep_mono (fun st => pregion_mono hk rest _ st) h
    · split at h
      · exact ⟨fun hw => pstep_mono (fun st => pregion_mono hk rest _ st) (h.1 hw), fun hw => pregion_mono hk rest _ _ (h.2 hw)⟩
      · exact h.elim
theorem fregion_mono {K K' : PSt → Prop} (hk : ∀ st, K st → K' st) : ∀ (rest : List Oper) (id : Nat) (st : PSt), fregion P GE ops K rest id st → fregion P GE ops K' rest id st
  | [], _, _, h => hk _ h
  | o :: rest, id, st, h => by
    unfold fregion at *
    split at h
    · exact fdo_mono h fun p H hq => fregion_mono hk rest _ _ hq
    · split at h
      · exact ⟨fun hw => fdo_mono (h.1 hw) fun p H hq => fregion_mono hk rest _ _ hq, fun hw => fregion_mono hk rest _ _ (h.2 hw)⟩
      · exact h.elim
theorem pw_mono {m : Nat} : ∀ (c : Code) {Q Q' : Exit → PSt → Prop} {st : PSt}, (∀ e st, Q e st → Q' e st) → pw P GE A m c Q st → pw P GE A m c Q' st
  | .skip, _, _, _, hq, h => hq _ _ h
  | .label _, _, _, _, hq, h => hq _ _ h
  | .region _ ops draw, _, _, _, hq, h => by
    cases draw with
    | false => exact pregion_mono (fun st => hq _ st) _ _ _ h
    | true => exact ⟨h.1, fregion_mono (fun st => hq _ st) _ _ _ h.2⟩
  | .seq a b, _, _, _, hq, h => pw_mono a (fun e st h => by
      cases e with
      | normal => exact pw_mono b hq h
      | exit id => exact hq _ _ h
      | goto l => exact hq _ _ h
      | ret => exact hq _ _ h
      | panic c => exact hq _ _ h
      | outgrown => exact hq _ _ h) h
  | .cond c a b, _, _, _, hq, h => by
    simp only [pw] at *
    split at h
    · exact ⟨fun ht => pw_mono a hq (h.1 ht), fun ht => pw_mono b hq (h.2 ht)⟩
    · exact h.elim
  | .block id c, _, _, _, hq, h => pw_mono c (fun e st h => by
      cases e with
      | exit id' =>
        simp only [blockP] at *
        split at h
        · rename_i hid; rw [if_pos hid]; exact hq _ _ h
        · rename_i hid; rw [if_neg hid]; exact hq _ _ h
      | normal => exact hq _ _ h
      | goto l => exact hq _ _ h
      | ret => exact hq _ _ h
      | panic c => exact hq _ _ h
      | outgrown => exact hq _ _ h) h
  | .loop c, Q, Q', _, hq, h => by
    obtain ⟨st0, n, h1, h2, h3⟩ := h
    refine ⟨st0, n, h1, h2, ?_⟩
    clear h1 h2
    induction n generalizing st0 with
    | zero => exact h3
    | succ n ih =>
      refine pw_mono c (fun e st' hs => ?_) h3
      cases e with
      | normal =>
        obtain ⟨st'', k1, k2, k3⟩ := hs
        exact ⟨st'', k1, k2, ih _ k3⟩
      | exit id => exact hq _ _ hs
      | goto l => exact hq _ _ hs
      | ret => exact hq _ _ hs
      | panic c => exact hq _ _ hs
      | outgrown => exact hq _ _ hs
  | .exit _, _, _, _, hq, h => hq _ _ h
  | .ret, _, _, _, hq, h => hq _ _ h
  | .rangeFunc .., _, _, _, _, h => by simp [pw] at h
  | .scope _, _, _, _, _, h => by simp [pw] at h
  | .goto _, _, _, _, _, h => by simp [pw] at h
  | .refuse _, _, _, _, _, h => by simp [pw] at h
theorem runW_to {m : Nat} : ∀ (c : Code) {Q : Exit → PSt → Prop} {st : PSt}, runW P GE A m c Q st → pw P GE A m c Q st
  | .skip, _, _, h => h
  | .label _, _, _, h => h
  | .region _ ops draw, _, _, h => by
    cases draw with
    | false => exact runT_to _ _ _ h
    | true => exact ⟨h.1, runF_to _ _ _ h.2⟩
  | .seq a b, _, _, h => pw_mono a (fun e st h => by
      cases e with
      | normal => exact runW_to b h
      | exit id => exact h
      | goto l => exact h
      | ret => exact h
      | panic c => exact h
      | outgrown => exact h) (runW_to a h)
  | .cond c a b, _, _, h => by
    simp only [pw, runW] at *
    split at h
    · rename_i t hc
      simp only [hc]
      exact ⟨fun ht => runW_to a (h.1 ht), fun ht => runW_to b (h.2 ht)⟩
    · exact h.elim
  | .block id c, _, _, h => runW_to c h
  | .loop c, Q, st, h => by
    obtain ⟨α, S, I, μ, x0, h0, h1, h2, h3⟩ := h
    refine ⟨S x0, μ x0 + 1, h1, h2, ?_⟩
    have key : ∀ (n : Nat) (x : α), I x → μ x < n → ploop n (pw P GE A m c) m Q (S x) := by
      intro n
      induction n with
      | zero => intro x _ hx; omega
      | succ n ih =>
        intro x hx hn
        refine pw_mono c (fun e st' hs => ?_) (runW_to c (h3 x hx))
        cases e with
        | normal =>
          obtain ⟨y, k1, k2, k3, k4⟩ := hs
          exact ⟨S y, k3, k4, ih y k1 (by omega)⟩
        | exit id => exact hs
        | goto l => exact hs
        | ret => exact hs
        | panic c => exact hs
        | outgrown => exact hs
    exact key _ x0 h0 (Nat.lt_succ_self _)
  | .exit _, _, _, h => h
  | .ret, _, _, h => h
  | .rangeFunc .., _, _, h => by simp [runW] at h
  | .scope _, _, _, h => by simp [runW] at h
  | .goto _, _, _, h => by simp [runW] at h
  | .refuse _, _, _, h => by simp [runW] at h
def fcall (P : Program) (GE : List (Nat × List PVal)) (g : FuncId) (args : List PVal) (H : List PBox) (K : PVal → List PBox → Prop) : Prop := clL 0 args ∧ ∃ r ro, C P GE g args [] [] r ro [] ∧ K r H
theorem pstep_def (P : Program) (GE : List (Nat × List PVal)) (A : List Nat) (o : Oper) (id : Nat) (K : PSt → Prop) (st : PSt) : pstep P GE A o id K st =
  (let plain := callOk o st.tmps.length = true ∧ pdo P GE o.op id (opv GE st.tmps) st.boxes (goOn K st o.dst)
  match o.op, o.dst with
  | .assign (.tmp t), some d => d < st.tmps.length ∧ K { st with tmps := st.tmps.set d (st.tmps.getD t .undef), own := renOwn d (fun x => if x.1 = t then (d, x.2) else x) st.own }
  | .move (.tmp t), some d =>
    if d ∈ A then d < st.tmps.length ∧ K { st with tmps := st.tmps.set d (st.tmps.getD t .undef), own := renOwn d (fun x => if x.1 = t then (d, x.2) else x) st.own } else plain
  | .assign (.const v), some d => match nilElem P o.type v with
    | some e => d < st.tmps.length ∧ K { st with tmps := st.tmps.set d (.slice []), own := ((d, 0), e) :: dropT d st.own }
    | none => plain
  | .move (.const v), some d => match nilElem P o.type v with
    | some e => d < st.tmps.length ∧ K { st with tmps := st.tmps.set d (.slice []), own := ((d, 0), e) :: dropT d st.own }
    | none => plain
  | .extract (.tmp t) i, some d => match pextract (st.tmps.getD t .undef) i with
    | some p => d < st.tmps.length ∧ K { st with tmps := st.tmps.set d p, own := renOwn d (fun x => if x = (t, i) then (d, 0) else x) st.own }
    | none => False
  | .buildSlice T len parts, some d => match pbuildSlice P T len (parts.toList.map fun x => (x.1, opv GE st.tmps x.2)), P.underlying T with
    | some p, some (.slice e) => d < st.tmps.length ∧ K { st with tmps := st.tmps.set d p, own := ((d, 0), e) :: dropT d st.own }
    | _, _ => False
  | .call { callee := .builtin .append, args := ⟨[.tmp t, y]⟩, argTypes := ⟨[T, T']⟩ }, some d => match P.underlying T, st.tmps.getD t .undef, opv GE st.tmps y with
    | some (.slice e), .slice es, .slice ns => match pappend P T es ns with
      | some p => T = T' ∧ d < st.tmps.length ∧ ((t, 0), e) ∈ st.own ∧ K { st with tmps := st.tmps.set d p, own := ((d, 0), e) :: dropT d (st.own.filter fun x => x.1 != (t, 0)) }
      | none => False
    | _, _, _ => False
  | .load T x, some d =>
    if d ∈ A then match opv GE st.tmps x, P.underlying T with
      | .bptr i off, some (.slice e) => match st.boxes[i]? with
        | some (.cells cs own) => match cs[off]? with
          | some p => d < st.tmps.length ∧ (off, e) ∈ own ∧ K { tmps := st.tmps.set d p, boxes := st.boxes.set i (.cells cs (own.filter fun x => x.1 != off)), own := ((d, 0), e) :: dropT d st.own }
          | none => False
        | _ => False
      | _, _ => False
    else plain
  | .store T x (.tmp t), _ => match st.own.find? (fun y => y.1 == (t, 0)), opv GE st.tmps x, pstore P T (opv GE st.tmps x) (st.tmps.getD t .undef) st.boxes with
    | some (_, e), .bptr i off, some H => match H[i]?, (st.tmps.getD t .undef).one with
      | some (.cells cs own), true => K (putv { st with own := st.own.filter fun x => x.1 != (t, 0) } o.dst (.val undef) [] (H.set i (.cells cs ((off, e) :: own))))
      | _, _ => plain
    | _, _, _ => plain
  | _, _ => plain) := rfl
theorem goOn_def (K : PSt → Prop) (tmps : List PVal) (boxes : List PBox) (own : List ((Nat × Nat) × TypeId)) (d : Tmp) (p : PVal) (ro : List (Nat × TypeId)) (H : List PBox) :
    goOn K ⟨tmps, boxes, own⟩ (some d) p ro H = K ⟨tmps.set d p, H, (ro.map fun x => ((d, x.1), x.2)) ++ dropT d own⟩ := rfl
theorem goOn_none (K : PSt → Prop) (tmps : List PVal) (boxes : List PBox) (own : List ((Nat × Nat) × TypeId)) (p : PVal) (ro : List (Nat × TypeId)) (H : List PBox) :
    goOn K ⟨tmps, boxes, own⟩ none p ro H = K ⟨tmps, H, own⟩ := rfl
theorem goF_def (K : PSt → Prop) (tmps : List PVal) (boxes : List PBox) (own : List ((Nat × Nat) × TypeId)) (d : Tmp) (p : PVal) (H : List PBox) :
    goF K ⟨tmps, boxes, own⟩ (some d) p H = K ⟨tmps.set d p, H, dropT d own⟩ := rfl
theorem fdo_call (P : Program) (GE : List (Nat × List PVal)) (g : FuncId) (args : Array Operand) (ats : Array TypeId) (id : Nat) (v : Operand → PVal) (H : List PBox) (K : PVal → List PBox → Prop) :
    fdo P GE (.call { callee := .value (.func g), args, argTypes := ats }) id v H K = fcall P GE g (args.toList.map v) H K := rfl
def onBool (p : PVal) (X Y : PSt → Prop) (st : PSt) : Prop := match p with
  | .bool t => (t = true → X st) ∧ (t = false → Y st)
  | _ => False
theorem onBool_true (X Y : PSt → Prop) (st : PSt) : onBool (.bool true) X Y st = X st := by simp [onBool]
theorem onBool_false (X Y : PSt → Prop) (st : PSt) : onBool (.bool false) X Y st = Y st := by simp [onBool]
theorem onGuard_tt (t : Nat) (yes no : PSt → Prop) (tmps : List PVal) (boxes : List PBox) (own : List ((Nat × Nat) × TypeId)) : onGuard (.is t true) true yes no ⟨tmps, boxes, own⟩ = yes ⟨tmps.set t (.bool true), boxes, own⟩ := by simp [onGuard]
theorem onGuard_ff (t : Nat) (yes no : PSt → Prop) (tmps : List PVal) (boxes : List PBox) (own : List ((Nat × Nat) × TypeId)) : onGuard (.is t false) false yes no ⟨tmps, boxes, own⟩ = yes ⟨tmps.set t (.bool false), boxes, own⟩ := by simp [onGuard]
theorem onGuard_tf (t : Nat) (yes no : PSt → Prop) (tmps : List PVal) (boxes : List PBox) (own : List ((Nat × Nat) × TypeId)) : onGuard (.is t true) false yes no ⟨tmps, boxes, own⟩ = no ⟨tmps.set t (.bool true), boxes, own⟩ := by simp [onGuard]
theorem onGuard_ft (t : Nat) (yes no : PSt → Prop) (tmps : List PVal) (boxes : List PBox) (own : List ((Nat × Nat) × TypeId)) : onGuard (.is t false) true yes no ⟨tmps, boxes, own⟩ = no ⟨tmps.set t (.bool false), boxes, own⟩ := by simp [onGuard]
theorem onGuard_other (want : Bool) (yes no : PSt → Prop) (st : PSt) : onGuard .other want yes no st = no st := rfl
section
variable (P : Program) (GE : List (Nat × List PVal)) (A : List Nat) (m : Nat) (Q : Exit → PSt → Prop) (st : PSt)
theorem runW_skip : runW P GE A m .skip Q st = Q .normal st := rfl
theorem runW_label (l : Nat) : runW P GE A m (.label l) Q st = Q .normal st := rfl
theorem runW_text (id : Nat) (ops : Array Oper) : runW P GE A m (.region id ops false) Q st = runT P GE A ops (Q .normal) ops.toList st.boxes.length { st with boxes := st.boxes ++ preBoxes P ops.toList } := rfl
theorem runW_seq (a b : Code) : runW P GE A m (.seq a b) Q st = runW P GE A m a (thenP (runW P GE A m b Q) Q) st := rfl
theorem runW_cond (c : Operand) (a b : Code) : runW P GE A m (.cond c a b) Q st = onBool (opv GE st.tmps c) (runW P GE A m a Q) (runW P GE A m b Q) st := rfl
theorem runW_block (id : Nat) (c : Code) : runW P GE A m (.block id c) Q st = runW P GE A m c (blockP id Q) st := rfl
theorem runW_exit (id : Nat) : runW P GE A m (.exit id) Q st = Q (.exit id) st := rfl
theorem runW_ret : runW P GE A m .ret Q st = Q .ret st := rfl
end
theorem loopQ_exit {α : Type} (m : Nat) (S : α → PSt) (I : α → Prop) (μ : α → Nat) (x : α) (Q : Exit → PSt → Prop) (id : Nat) (st : PSt) : loopQ m S I μ x Q (.exit id) st = Q (.exit id) st := rfl
theorem loopQ_ret {α : Type} (m : Nat) (S : α → PSt) (I : α → Prop) (μ : α → Nat) (x : α) (Q : Exit → PSt → Prop) (st : PSt) : loopQ m S I μ x Q .ret st = Q .ret st := rfl
theorem wrap64 {n : Int} (h1 : -9223372036854775808 ≤ n) (h2 : n < 9223372036854775808) : IntKind.i64.wrap n = n := by
  simp [IntKind.wrap, IntKind.bits, IntKind.signed]; omega
theorem C.run {f : FuncId} {fn : Func} {c : Code} {args : List PVal} {oa : List ((Nat × Nat) × TypeId)} {H : List PBox} {r : PVal} {ro : List (Nat × TypeId)} {H' : List PBox}
    (A : List Nat) (hcall : ∀ vs w, (callFunc f vs).run P w = .ok (.enter f vs) w) (hfn : P.funcs[f]? = some fn) (hb : fn.body = some c) (hm : P.follows .mixedOrders = true) (hH : H'.length = H.length)
    (hp : runW P GE A H.length c (retP P fn.results.toList r ro H') ⟨args ++ List.replicate (fn.ntmps - args.length) .undef, H, oa⟩) : C P GE f args oa H r ro H' :=
  C.intro A hcall hfn hb hm hH (runW_to c hp)
end
end Go.Proofs.YtgldgpdhblndkaaGreatDoor
namespace Go.Proofs.YtgldgpdhblndkaaGreatDoor
open Go
attribute [simp] runW_skip runW_label runW_text runW_seq runW_cond runW_block runW_exit runW_ret loopQ_exit loopQ_ret onBool_true onBool_false onGuard_tt onGuard_tf onGuard_ft onGuard_ff onGuard_other
attribute [simp] pguardT pstep_def fdo_call fdo pdo pev fev opv pint pstr pboolOp pun goOn_def goOn_none goF_def callOk nilElem absV absC thenP blockP dropT renOwn makesBox pextract lookupG
section
variable (P : Program) (GE : List (Nat × List PVal)) (A : List Nat) (ops : Array Oper) (K : PSt → Prop) (tmps : List PVal) (boxes : List PBox) (own : List ((Nat × Nat) × TypeId)) (id : Nat)
  (dst : Option Tmp) (op : Op) (ty : TypeId) (pos : String) (aft : Array Edge) (rest : List Oper)
def preOf (P : Program) : Op → List PBox
  | .alloc t => [match pzero P t with
    | some zs => .cells zs (pzown P t)
    | none => .dead]
  | .box .. => [.dead]
  | .makeMap .. => [.map []]
  | _ => []
attribute [simp] preOf
end
end Go.Proofs.YtgldgpdhblndkaaGreatDoor
