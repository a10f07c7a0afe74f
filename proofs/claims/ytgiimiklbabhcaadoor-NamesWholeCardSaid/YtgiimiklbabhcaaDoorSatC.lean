/-
  WHAT IS PROVED: an evaluator of code by a script, second part: operations with what they own, regions, whole code ('evC_sound'). No program in sight. Conditions: none.
-/
import Derived.Test.YtgiimiklbabhcaaDoorSatB
namespace Go.Proofs.YtgiimiklbabhcaaDoor
open Go

def putK (st : PSt) (dst : Option Tmp) (p : PVal) (ro : List (Nat × TypeId)) (H : List PBox) (K : PSt → Prop) : Prop :=
  match dst with
  | some d => setK st.tmps d p fun tm => forceK ((ro.map fun x => ((d, x.1), x.2)) ++ dropT d st.own) fun ow => K ⟨tm, H, ow⟩
  | none => K ⟨st.tmps, H, st.own⟩
theorem putK_eq (st : PSt) (dst : Option Tmp) (p : PVal) (ro : List (Nat × TypeId)) (H : List PBox) (K : PSt → Prop) : putK st dst p ro H K = K (putv st dst p ro H) := by
  cases dst with
  | none => rfl
  | some d => simp only [putK, setK_eq, forceK_eq, putv]

def evCall (P : Program) (GE : List (Nat × List PVal)) (f : Operand) (args : List Operand) (tmps : List PVal) (sc : List It) (K : PVal → List (Nat × TypeId) → List It → Prop) : Prop :=
  opK GE tmps f fun vf => match vf with
    | .func (.func g) first cap => opsK GE tmps args fun as => match sc with
      | .c r ro :: sc' => CC P GE g (first ++ as ++ cap) r ro ∧ K r ro sc'
      | _ => False
    | _ => False

/-- One operation, what it owns left aside (but for a call's result). -/
def evPlain (P : Program) (GE : List (Nat × List PVal)) (o : Oper) (id : Nat) (sc : List It) (st : PSt) (K : List It → PSt → Prop) : Prop :=
  match callOk o st.tmps.length with
  | false => False
  | true => match o.op with
    | .call { callee := .value f, args, .. } => evCall P GE f args.toList st.tmps sc fun r ro sc' => putK st o.dst r ro st.boxes fun st' => K sc' st'
    | .alloc t => match sc with
      | .x zs :: sc' => pzero P t = some zs ∧ forceK (pzown P t) fun ow => setK st.boxes id (.cells zs ow) fun H => putK st o.dst (.bptr id 0) [] H fun st' => K sc' st'
      | _ => False
    | .box _ x => opK GE st.tmps x fun vx => match sc with
      | .x cs :: sc' => pcells vx = some cs ∧ setK st.boxes id (.cells cs []) fun H => putK st o.dst (.bptr id 0) [] H fun st' => K sc' st'
      | _ => False
    | .makeMap _ none => setK st.boxes id (.map []) fun H => putK st o.dst (.mapr id) [] H fun st' => K sc st'
    | op => evVal P GE op st.tmps st.boxes sc fun p H sc' => putK st o.dst p [] H fun st' => K sc' st'

def inB (n d : Nat) (K : Prop) : Prop := match decide (d < n) with
  | true => K
  | false => False
theorem inB_ok {n d : Nat} {K : Prop} (h : inB n d K) : d < n ∧ K := by
  unfold inB at h
  split at h
  · rename_i hd; exact ⟨by simpa using hd, h⟩
  · exact h.elim

def evOwnStore (P : Program) (st : PSt) (T e : TypeId) (t : Nat) (dst : Option Tmp) (vx vt : PVal) (sc : List It) (K : List It → PSt → Prop) : Prop :=
  match vx with
  | .bptr i off => match pstore P T (.bptr i off) vt st.boxes with
    | some H => getBK H i fun B => match B with
      | .cells cs own => match vt.one with
        | true => forceK cs fun cs' => setK H i (.cells cs' ((off, e) :: own)) fun H' => putK { st with own := st.own.filter fun x => x.1 != (t, 0) } dst (.val undef) [] H' fun st' => K sc st'
        | false => False
      | _ => False
    | none => False
  | _ => False

def evStep (P : Program) (GE : List (Nat × List PVal)) (A : List Nat) (o : Oper) (id : Nat) (sc : List It) (st : PSt) (K : List It → PSt → Prop) : Prop :=
  match o.op, o.dst with
  | .assign (.tmp t), some d => inB st.tmps.length d (getK st.tmps t fun p => setK st.tmps d p fun tm => forceK (renOwn d (fun x => if x.1 = t then (d, x.2) else x) st.own) fun ow => K sc ⟨tm, st.boxes, ow⟩)
  | .move (.tmp t), some d => match decide (d ∈ A) with
    | true => inB st.tmps.length d (getK st.tmps t fun p => setK st.tmps d p fun tm => forceK (renOwn d (fun x => if x.1 = t then (d, x.2) else x) st.own) fun ow => K sc ⟨tm, st.boxes, ow⟩)
    | false => evPlain P GE o id sc st K
  | .assign (.const v), some d => match nilElem P o.type v with
    | some e => inB st.tmps.length d (setK st.tmps d (.slice []) fun tm => forceK (((d, 0), e) :: dropT d st.own) fun ow => K sc ⟨tm, st.boxes, ow⟩)
    | none => evPlain P GE o id sc st K
  | .move (.const v), some d => match nilElem P o.type v with
    | some e => inB st.tmps.length d (setK st.tmps d (.slice []) fun tm => forceK (((d, 0), e) :: dropT d st.own) fun ow => K sc ⟨tm, st.boxes, ow⟩)
    | none => evPlain P GE o id sc st K
  | .extract (.tmp t) i, some d => inB st.tmps.length d (getK st.tmps t fun vt => know (pextract vt i) fun p => setK st.tmps d p fun tm => forceK (renOwn d (fun x => if x = (t, i) then (d, 0) else x) st.own) fun ow => K sc ⟨tm, st.boxes, ow⟩)
  | .buildSlice T len parts, some d => inB st.tmps.length d (partsK GE st.tmps parts.toList fun ps => match sc, P.underlying T with
    | .v p :: sc', some (.slice e) => pbuildSlice P T len ps = some p ∧ setK st.tmps d p fun tm => forceK (((d, 0), e) :: dropT d st.own) fun ow => K sc' ⟨tm, st.boxes, ow⟩
    | _, _ => False)
  | .call { callee := .builtin .append, args := ⟨[.tmp t, y]⟩, argTypes := ⟨[T, T']⟩ }, some d => inB st.tmps.length d (getK st.tmps t fun ve => opK GE st.tmps y fun vn => match ve, vn, sc, P.underlying T with
    | .slice es, .slice ns, .v p :: sc', some (.slice e) => match decide (T = T') && decide (((t, 0), e) ∈ st.own) with
      | true => pappend P T es ns = some p ∧ setK st.tmps d p fun tm => forceK (((d, 0), e) :: dropT d (st.own.filter fun x => x.1 != (t, 0))) fun ow => K sc' ⟨tm, st.boxes, ow⟩
      | false => False
    | _, _, _, _ => False)
  | .load T x, some d => match decide (d ∈ A) with
    | true => inB st.tmps.length d (opK GE st.tmps x fun vx => match vx, P.underlying T with
      | .bptr i off, some (.slice e) => getBK st.boxes i fun B => match B with
        | .cells cs own => match decide ((off, e) ∈ own) && decide (off < cs.length) with
          | true => getK cs off fun p => setK st.tmps d p fun tm => forceK (own.filter fun x => x.1 != off) fun own' => setK st.boxes i (.cells cs own') fun H => forceK (((d, 0), e) :: dropT d st.own) fun ow => K sc ⟨tm, H, ow⟩
          | false => False
        | _ => False
      | _, _ => False)
    | false => evPlain P GE o id sc st K
  | .store T x (.tmp t), _ => match st.own.find? (fun y => y.1 == (t, 0)) with
    | some (_, e) => opK GE st.tmps x fun vx => getK st.tmps t fun vt => evOwnStore P st T e t o.dst vx vt sc K
    | none => evPlain P GE o id sc st K
  | _, _ => evPlain P GE o id sc st K

/-- One operation of a region whose order is drawn. -/
def evStepF (P : Program) (GE : List (Nat × List PVal)) (o : Oper) (id : Nat) (sc : List It) (st : PSt) (K : List It → PSt → Prop) : Prop :=
  match o.op with
  | .call { callee := .value (.func g), args, .. } => opsK GE st.tmps args.toList fun as => match sc with
    | .c r ro :: sc' => CC P GE g as r ro ∧ putK st o.dst r [] st.boxes fun st' => K sc' st'
    | _ => False
  | .call { callee := .value f, args, .. } => evCall P GE f args.toList st.tmps sc fun r _ sc' => putK st o.dst r [] st.boxes fun st' => K sc' st'
  | .alloc t => match (pzero P t).isSome with
    | true => putK st o.dst (.bptr id 0) [] st.boxes fun st' => K sc st'
    | false => False
  | .makeMap _ none => putK st o.dst (.mapr id) [] st.boxes fun st' => K sc st'
  | .makeMap .. => False
  | .box .. => False
  | op => evVal P GE op st.tmps st.boxes sc fun p H sc' => putK st o.dst p [] H fun st' => K sc' st'

def isB : Value → Bool
  | .bool _ => true
  | _ => false

def evGuard (ops : Array Oper) (j : Nat) (want : Bool) (pos : Nat) (sc : List It) (st : PSt) (go : Bool → List It → PSt → Prop) : Prop :=
  match (ops[j]?).bind (·.dst) with
  | none => False
  | some t => getK st.tmps t fun p => match p with
    | .bool x => match sc with
      | .g pos' b :: sc' => match pos' == pos with
        | true => x = b ∧ setK st.tmps t (.bool b) fun tm => go (b == want) sc' ⟨tm, st.boxes, st.own⟩
        | false => go (x == want) sc st
      | _ => go (x == want) sc st
    | .val v => match isB v with
      | true => False
      | false => go false sc st
    | _ => False

def evOps (P : Program) (GE : List (Nat × List PVal)) (A : List Nat) (ops : Array Oper) (draw : Bool) (K : List It → PSt → Prop) : List Oper → Nat → Nat → List It → PSt → Prop
  | [], _, _, sc, st => K sc st
  | o :: rest, pos, id, sc, st =>
    let step (sc : List It) (st : PSt) : Prop := match draw with
      | false => evStep P GE A o id sc st fun sc' st' => evOps P GE A ops draw K rest (pos + 1) (id + if makesBox o.op then 1 else 0) sc' st'
      | true => evStepF P GE o id sc st fun sc' st' => evOps P GE A ops draw K rest (pos + 1) (id + if makesBox o.op then 1 else 0) sc' st'
    match o.guard with
    | none => step sc st
    | some (j, want) => evGuard ops j want pos sc st fun b sc' st' => match b with
      | true => step sc' st'
      | false => putK st' o.dst (.val undef) [] st'.boxes fun st'' => evOps P GE A ops draw K rest (pos + 1) (id + if makesBox o.op then 1 else 0) sc' st''

section
variable {P : Program} {GE : List (Nat × List PVal)} {A : List Nat} {ops : Array Oper}

theorem evCall_sound {f : Operand} {args : List Operand} {tmps : List PVal} {H : List PBox} {sc : List It} {K : PVal → List (Nat × TypeId) → List It → Prop} (h : evCall P GE f args tmps sc K) :
    pcallV P GE (opv GE tmps f) (args.map (opv GE tmps)) H fun r ro H' => H' = H ∧ ∃ sc', K r ro sc' := by
  unfold evCall at h
  rw [opK_eq] at h
  split at h
  · rename_i g first cap hf
    rw [opsK_eq] at h
    split at h
    · rename_i r ro sc'
      rw [hf]
      exact .inl ⟨h.1.1, r, ro, h.1.2, rfl, sc', h.2⟩
    · exact h.elim
  · exact h.elim

theorem pdo_other {op : Op} {id : Nat} {v : Operand → PVal} {H H' : List PBox} {p : PVal} {K : PVal → List (Nat × TypeId) → List PBox → Prop} (hn : ∀ f args tys, op ≠ .call { callee := .value f, args, argTypes := tys })
    (h : pev P op id v H = some (p, H')) (hk : K p [] H') : pdo P GE op id v H K := by
  unfold pdo
  split
  · rename_i f args tys; exact absurd rfl (hn _ _ _)
  · rw [h]; exact hk

theorem evPlain_sound {o : Oper} {id : Nat} {sc : List It} {st : PSt} {K : List It → PSt → Prop} (h : evPlain P GE o id sc st K) :
    callOk o st.tmps.length = true ∧ pdo P GE o.op id (opv GE st.tmps) st.boxes fun p ro H => (fun st' => ∃ sc', K sc' st') (putv st o.dst p ro H) := by
  unfold evPlain at h
  split at h
  · exact h.elim
  · rename_i hc
    refine ⟨hc, ?_⟩
    split at h
    · rename_i f args tys ho
      have := evCall_sound (H := st.boxes) h
      unfold pdo
      simp only [ho]
      unfold pcallV at this ⊢
      split at this
      · rcases this with ⟨k1, r, ro, k2, _, sc', k3⟩ | ⟨ρ, argsC, Hc, rc, ro, Hc', H', r, k1, k2, k3, k4, k5, k6, k7, k8, k9, rfl, sc', k10⟩
        · rw [putK_eq] at k3; exact .inl ⟨k1, r, ro, k2, sc', k3⟩
        · rw [putK_eq] at k10; exact .inr ⟨ρ, argsC, Hc, rc, ro, Hc', _, r, k1, k2, k3, k4, k5, k6, k7, k8, k9, sc', k10⟩
      · exact this.elim
    · rename_i t ho
      split at h
      · rename_i zs sc'
        obtain ⟨h1, h2⟩ := h
        simp only [forceK_eq, setK_eq, putK_eq] at h2
        rw [ho]
        exact pdo_other (by simp) (by simp only [pev, h1, Option.map_some]) ⟨sc', h2⟩
      · exact h.elim
    · rename_i t x ho
      rw [opK_eq] at h
      split at h
      · rename_i cs sc'
        obtain ⟨h1, h2⟩ := h
        simp only [setK_eq, putK_eq] at h2
        rw [ho]
        exact pdo_other (by simp) (by simp only [pev, h1, Option.map_some]) ⟨sc', h2⟩
      · exact h.elim
    · rename_i t ho
      simp only [setK_eq, putK_eq] at h
      rw [ho]
      exact pdo_other (by simp) (by simp only [pev]) ⟨_, h⟩
    · rename_i n1 n2 n3 n4
      obtain ⟨p, H', sc', k1, k2, _⟩ := evVal_sound (id := id) h
      rw [putK_eq] at k2
      exact pdo_other (fun f args tys e => n1 f args tys e) k1 ⟨sc', k2⟩

theorem evStep_sound {o : Oper} {id : Nat} {sc : List It} {st : PSt} {K : List It → PSt → Prop} (h : evStep P GE A o id sc st K) : pstep P GE A o id (fun st' => ∃ sc', K sc' st') st := by
  unfold evStep at h
  unfold pstep
  split at h
  case h_1 t d ho hd =>
    obtain ⟨h1, h2⟩ := inB_ok h
    simp only [getK_eq, setK_eq, forceK_eq] at h2
    simp only [ho, hd]
    exact ⟨h1, _, h2⟩
  case h_2 t d ho hd =>
    simp only [ho, hd]
    split at h
    · rename_i hA
      obtain ⟨h1, h2⟩ := inB_ok h
      simp only [getK_eq, setK_eq, forceK_eq] at h2
      rw [if_pos (by simpa using hA)]
      exact ⟨h1, _, h2⟩
    · rename_i hA
      rw [if_neg (by simpa using hA)]
      have := evPlain_sound h
      rw [ho, hd] at this
      exact this
  case h_3 v d ho hd =>
    simp only [ho, hd]
    split at h
    · rename_i e he
      obtain ⟨h1, h2⟩ := inB_ok h
      simp only [setK_eq, forceK_eq] at h2
      simp only [he]
      exact ⟨h1, _, h2⟩
    · rename_i he
      simp only [he]
      have := evPlain_sound h
      rw [ho, hd] at this
      exact this
  case h_4 v d ho hd =>
    simp only [ho, hd]
    split at h
    · rename_i e he
      obtain ⟨h1, h2⟩ := inB_ok h
      simp only [setK_eq, forceK_eq] at h2
      simp only [he]
      exact ⟨h1, _, h2⟩
    · rename_i he
      simp only [he]
      have := evPlain_sound h
      rw [ho, hd] at this
      exact this
  case h_5 t i d ho hd =>
    obtain ⟨h1, h2⟩ := inB_ok h
    rw [getK_eq] at h2
    obtain ⟨p, h3, h4⟩ := know_ok h2
    simp only [setK_eq, forceK_eq] at h4
    simp only [ho, hd, h3]
    exact ⟨h1, _, h4⟩
  case h_6 T len parts d ho hd =>
    obtain ⟨h1, h2⟩ := inB_ok h
    rw [partsK_eq] at h2
    split at h2
    · rename_i p sc' e hu
      obtain ⟨h3, h4⟩ := h2
      simp only [setK_eq, forceK_eq] at h4
      simp only [ho, hd, h3, hu]
      exact ⟨h1, _, h4⟩
    · exact h2.elim
  case h_7 t y T T' d ho hd =>
    obtain ⟨h1, h2⟩ := inB_ok h
    rw [getK_eq, opK_eq] at h2
    split at h2
    · rename_i es ns p sc' e he hn hu
      split at h2
      · rename_i hc
        simp only [Bool.and_eq_true, decide_eq_true_eq] at hc
        obtain ⟨h3, h4⟩ := h2
        simp only [setK_eq, forceK_eq] at h4
        simp only [ho, hd, hu, he, hn, h3]
        exact ⟨hc.1, h1, hc.2, _, h4⟩
      · exact h2.elim
    · exact h2.elim
  case h_8 T x d ho hd =>
    simp only [ho, hd]
    split at h
    · rename_i hA
      obtain ⟨h1, h2⟩ := inB_ok h
      rw [opK_eq] at h2
      rw [if_pos (by simpa using hA)]
      split at h2
      · rename_i i off e hx hu
        obtain ⟨B, hB, h2⟩ := getBK_ok h2
        split at h2
        · rename_i cs own
          split at h2
          · rename_i hc
            simp only [Bool.and_eq_true, decide_eq_true_eq] at hc
            simp only [getK_eq, setK_eq, forceK_eq] at h2
            have hget : cs[off]? = some (cs.getD off .undef) := by
              rw [List.getD_eq_getElem?_getD, List.getElem?_eq_getElem hc.2]; rfl
            simp only [hx, hu, hB, hget]
            exact ⟨h1, hc.1, _, h2⟩
          · exact h2.elim
        · exact h2.elim
      · exact h2.elim
    · rename_i hA
      rw [if_neg (by simpa using hA)]
      have := evPlain_sound h
      rw [ho, hd] at this
      exact this
  case h_9 T x t ho =>
    simp only [ho]
    split at h
    · rename_i y e hf
      rw [opK_eq, getK_eq] at h
      simp only [hf]
      unfold evOwnStore at h
      split at h
      · rename_i i off hx
        split at h
        · rename_i H hst
          obtain ⟨B, hB, h⟩ := getBK_ok h
          split at h
          · rename_i cs own
            split at h
            · rename_i hone
              simp only [setK_eq, forceK_eq, putK_eq] at h
              simp only [hx, hst, hB, hone]
              exact ⟨_, h⟩
            · exact h.elim
          · exact h.elim
        · exact h.elim
      · exact h.elim
    · rename_i hf
      simp only [hf]
      have := evPlain_sound h
      rw [ho] at this
      exact this
  case h_10 =>
    have := evPlain_sound h
    split
    all_goals first
      | exact this
      | (exfalso; simp_all; done)
      | (exfalso; simp_all; rename_i hx h1 h2; exact hx _ _ _ _ rfl rfl rfl rfl)
      | (exfalso; simp_all; rename_i hx h1 h2; exact hx _ _ _ _ _ rfl rfl rfl rfl rfl)
      | (exfalso; simp_all; rename_i hx h1 h2; exact hx _ _ _ rfl rfl rfl)

theorem fdo_other {op : Op} {id : Nat} {v : Operand → PVal} {H H' : List PBox} {p : PVal} {K : PVal → List PBox → Prop} (hn : ∀ f args tys, op ≠ .call { callee := .value f, args, argTypes := tys })
    (h : fev P op id v H = some (p, H')) (hk : K p H') : fdo P GE op id v H K := by
  unfold fdo
  split
  · rename_i g args tys; exact absurd rfl (hn _ _ _)
  · rename_i f args tys _; exact absurd rfl (hn _ _ _)
  · rw [h]; exact hk

theorem evStepF_sound {o : Oper} {id : Nat} {sc : List It} {st : PSt} {K : List It → PSt → Prop} (h : evStepF P GE o id sc st K) :
    fdo P GE o.op id (opv GE st.tmps) st.boxes fun p H => (fun st' => ∃ sc', K sc' st') (putv st o.dst p [] H) := by
  unfold evStepF at h
  split at h
  · rename_i g args tys ho
    rw [opsK_eq] at h
    split at h
    · rename_i r ro sc'
      rw [putK_eq] at h
      rw [ho]
      unfold fdo
      exact ⟨h.1.1, r, ro, h.1.2, sc', h.2⟩
    · exact h.elim
  · rename_i f args tys hnf ho
    have := evCall_sound (H := st.boxes) h
    rw [ho]
    unfold fdo
    split
    · rename_i g args' tys' he; cases he; exact (hnf _ rfl).elim
    · rename_i f' args' tys' hn' he
      cases he
      unfold pcallV at this ⊢
      split at this
      · rcases this with ⟨k1, r, ro, k2, _, sc', k3⟩ | ⟨ρ, argsC, Hc, rc, ro, Hc', H', r, k1, k2, k3, k4, k5, k6, k7, k8, k9, rfl, sc', k10⟩
        · rw [putK_eq] at k3; exact .inl ⟨k1, r, ro, k2, sc', k3⟩
        · rw [putK_eq] at k10; exact .inr ⟨ρ, argsC, Hc, rc, ro, Hc', _, r, k1, k2, k3, k4, k5, k6, k7, k8, k9, sc', k10⟩
      · exact this.elim
    · rename_i h1 h2; exact absurd rfl (h2 _ _ _)
  · rename_i t ho
    split at h
    · rename_i hz
      obtain ⟨zs, hz⟩ := Option.isSome_iff_exists.1 hz
      rw [putK_eq] at h
      rw [ho]
      exact fdo_other (by simp) (by simp only [fev, hz, Option.map_some]) ⟨_, h⟩
    · exact h.elim
  · rename_i t ho
    rw [putK_eq] at h
    rw [ho]
    exact fdo_other (by simp) (by simp only [fev]) ⟨_, h⟩
  · exact h.elim
  · exact h.elim
  · rename_i n1 n2 n3 n4 n5 n6
    obtain ⟨p, H', sc', k1, k2, _⟩ := evVal_sound (id := id) h
    rw [putK_eq] at k2
    refine fdo_other (fun f args tys e => n2 f args tys e) ?_ ⟨sc', k2⟩
    unfold fev
    split
    · rename_i t ho; exact absurd ho (n3 _)
    · rename_i t ho; exact absurd ho (n4 _)
    · rename_i ho; exact absurd ho (n6 _ _)
    · rename_i ho; exact absurd ho (n5 _ _)
    · exact k1

theorem evGuard_sound {j : Nat} {want : Bool} {pos : Nat} {sc : List It} {st : PSt} {go : Bool → List It → PSt → Prop} (h : evGuard ops j want pos sc st go) :
    ∃ x, pguard ops st.tmps j = some x ∧ ((x = some want ∧ ∃ sc', go true sc' st) ∨ (x ≠ some want ∧ ∃ sc', go false sc' st)) := by
  unfold evGuard at h
  split at h
  · exact h.elim
  · rename_i t ht
    rw [getK_eq] at h
    have hget : ∀ {p}, st.tmps.getD t .undef = p → p ≠ .undef → st.tmps[t]? = some p := by
      intro p hp hne
      rw [List.getD_eq_getElem?_getD] at hp
      cases hx : st.tmps[t]? with
      | none => rw [hx] at hp; exact absurd hp.symm hne
      | some q => rw [hx] at hp; exact congrArg some hp
    have hfin : ∀ (x : Bool) sc', go (x == want) sc' st → (some x = some want ∧ ∃ sc', go true sc' st) ∨ (some x ≠ some want ∧ ∃ sc', go false sc' st) := by
      intro x sc' hg
      cases x <;> cases want <;> simp at hg ⊢ <;> exact ⟨sc', hg⟩
    split at h
    · rename_i x hp
      have hx := hget hp (by simp)
      have hg : pguard ops st.tmps j = some (some x) := by unfold pguard; simp only [ht, hx]
      refine ⟨_, hg, ?_⟩
      split at h
      · rename_i pos' b sc'
        split at h
        · obtain ⟨rfl, h⟩ := h
          rw [setK_eq, set_same hx] at h
          exact hfin x sc' h
        · exact hfin x _ h
      · exact hfin x _ h
    · rename_i v hp
      have hx := hget hp (by simp)
      split at h
      · exact h.elim
      · rename_i hb
        refine ⟨none, ?_, .inr ⟨by simp, _, h⟩⟩
        unfold pguard
        simp only [ht, hx]
        cases v <;> simp [isB] at hb <;> rfl
    · exact h.elim

theorem evOps_text {K : List It → PSt → Prop} : ∀ (rest : List Oper) (pos id : Nat) (sc : List It) (st : PSt), evOps P GE A ops false K rest pos id sc st → pregion P GE A ops (fun st => ∃ sc, K sc st) rest id st
  | [], _, _, sc, st, h => ⟨sc, h⟩
  | o :: rest, pos, id, sc, st, h => by
    simp only [evOps] at h
    have step : ∀ sc st, evStep P GE A o id sc st (fun sc' st' => evOps P GE A ops false K rest (pos + 1) (id + if makesBox o.op then 1 else 0) sc' st') → pstep P GE A o id (pregion P GE A ops (fun st => ∃ sc, K sc st) rest (id + if makesBox o.op then 1 else 0)) st :=
      fun sc st hs => pstep_mono (fun st' hx => by obtain ⟨sc', hx⟩ := hx; exact evOps_text rest _ _ sc' st' hx) (evStep_sound hs)
    unfold pregion
    split at h
    · rename_i hg; simp only [hg]; exact step _ _ h
    · rename_i j want hg
      obtain ⟨x, hx, hc⟩ := evGuard_sound h
      simp only [hg, hx]
      rcases hc with ⟨rfl, sc', hc⟩ | ⟨hne, sc', hc⟩
      · exact ⟨fun _ => step _ _ hc, fun hn => absurd rfl hn⟩
      · refine ⟨fun he => absurd he hne, fun _ => ?_⟩
        simp only [putK_eq] at hc
        exact evOps_text rest _ _ sc' _ hc

theorem evOps_draw {K : List It → PSt → Prop} : ∀ (rest : List Oper) (pos id : Nat) (sc : List It) (st : PSt), evOps P GE A ops true K rest pos id sc st → fregion P GE ops (fun st => ∃ sc, K sc st) rest id st
  | [], _, _, sc, st, h => ⟨sc, h⟩
  | o :: rest, pos, id, sc, st, h => by
    simp only [evOps] at h
    have step : ∀ sc st, evStepF P GE o id sc st (fun sc' st' => evOps P GE A ops true K rest (pos + 1) (id + if makesBox o.op then 1 else 0) sc' st') →
        fdo P GE o.op id (opv GE st.tmps) st.boxes fun p H => fregion P GE ops (fun st => ∃ sc, K sc st) rest (id + if makesBox o.op then 1 else 0) (putv st o.dst p [] H) :=
      fun sc st hs => fdo_mono (evStepF_sound hs) fun p H hx => by obtain ⟨sc', hx⟩ := hx; exact evOps_draw rest _ _ sc' _ hx
    unfold fregion
    split at h
    · rename_i hg; simp only [hg]; exact step _ _ h
    · rename_i j want hg
      obtain ⟨x, hx, hc⟩ := evGuard_sound h
      simp only [hg, hx]
      rcases hc with ⟨rfl, sc', hc⟩ | ⟨hne, sc', hc⟩
      · exact ⟨fun _ => step _ _ hc, fun hn => absurd rfl hn⟩
      · refine ⟨fun he => absurd he hne, fun _ => ?_⟩
        simp only [putK_eq] at hc
        exact evOps_draw rest _ _ sc' _ hc
end
end Go.Proofs.YtgiimiklbabhcaaDoor
