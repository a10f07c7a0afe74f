/-
  WHAT IS PROVED: a region whose order is drawn, in the abstract machine: where a check of the region's edges says yes, whatever order is drawn comes to what the order of the text comes to (first part: the trace in the order of the text). No program in sight. Conditions: none.
-/
import Derived.Test.YtgiimiklbabhcaaDoorAbsR
namespace Go.Proofs.YtgiimiklbabhcaaDoor
open Go

/-- One operation of a region that draws: nothing that is owned goes along with it, a named function is handed no box. -/
def fev (P : Program) (op : Op) (id : Nat) (v : Operand → PVal) (H : List PBox) : Option (PVal × List PBox) :=
  match op with
  | .alloc t => (pzero P t).map fun _ => (.bptr id 0, H)
  | .makeMap _ none => some (.mapr id, H)
  | .box .. => none
  | .makeMap .. => none
  | op => pev P op id v H

def fdo (P : Program) (GE : List (Nat × List PVal)) (op : Op) (id : Nat) (v : Operand → PVal) (H : List PBox) (K : PVal → List PBox → Prop) : Prop :=
  match op with
  | .call { callee := .value (.func g), args, .. } => clL 0 (args.toList.map v) ∧ ∃ r ro, C P GE g (args.toList.map v) [] [] r ro [] ∧ K r H
  | .call { callee := .value f, args, .. } => pcallV P GE (v f) (args.toList.map v) H fun p _ H' => K p H'
  | op => match fev P op id v H with
    | some (p, H') => K p H'
    | none => False

def fregion (P : Program) (GE : List (Nat × List PVal)) (ops : Array Oper) (K : PSt → Prop) : List Oper → Nat → PSt → Prop
  | [], _, st => K st
  | o :: rest, id, st =>
    match o.guard with
    | none => fdo P GE o.op id (opv GE st.tmps) st.boxes fun p H => fregion P GE ops K rest (id + if makesBox o.op then 1 else 0) (putv st o.dst p [] H)
    | some (j, want) => match pguard ops st.tmps j with
      | some x => (x = some want → fdo P GE o.op id (opv GE st.tmps) st.boxes fun p H => fregion P GE ops K rest (id + if makesBox o.op then 1 else 0) (putv st o.dst p [] H)) ∧
          (x ≠ some want → fregion P GE ops K rest (id + if makesBox o.op then 1 else 0) (putv st o.dst (.val undef) [] st.boxes))
      | none => False

/-- What an operation has to do with boxes: 0 nothing, 2 it looks, 3 it may write. -/
def boxClass (P : Program) : Op → Nat
  | .load .. | .lookup .. => 2
  | .store .. | .mapUpdate .. => 3
  | .call c => match c.callee with
    | .value (.func _) => 0
    | .value _ => 3
    | .builtin .len => match c.argTypes.toList with
      | [t] => (match P.underlying t with
        | some (.map ..) => 2
        | _ => 0)
      | _ => 0
    | _ => 0
  | _ => 0

/-- Which operations come before which, by the edges (bits of a number). -/
def ancStep (acc : List Nat) (o : Oper) : Nat := o.after.toList.foldl (fun s e => if Region.binds .any e then s ||| 2 ^ e.on ||| acc.getD e.on 0 else s) 0
def ancs (ops : List Oper) : List Nat := ops.foldl (fun acc o => acc ++ [ancStep acc o]) []

/-- The slots at which an operation looks. -/
def looks (ops : Array Oper) (o : Oper) : List Tmp :=
  (o.op.operands.toList.filterMap fun | .tmp t => some t | _ => none) ++ (match o.guard with
    | some (j, _) => ((ops[j]?).bind (·.dst)).toList
    | none => [])

def drawOK (P : Program) (ops : Array Oper) (n : Nat) : Bool :=
  let l := ops.toList
  let an := ancs l
  let before (i j : Nat) : Bool := (an.getD j 0).testBit i
  let idx := List.range l.length
  l.all (fun o => o.dst.any fun d => decide (d < n)) &&
  idx.all (fun j => (l.getD j default).after.all fun e => !Region.binds .any e || decide (e.on < j)) &&
  idx.all (fun j => idx.all fun i => i == j || (l.getD i default).dst != (l.getD j default).dst) &&
  idx.all (fun j => (looks ops (l.getD j default)).all fun t => idx.all fun i => i == j || (l.getD i default).dst != some t || (if i < j then before i j else before j i)) &&
  idx.all (fun j => idx.all fun i => !(decide (i < j)) || boxClass P (l.getD i default).op < 2 || boxClass P (l.getD j default).op < 2 || (boxClass P (l.getD i default).op != 3 && boxClass P (l.getD j default).op != 3) || before i j) &&
  (!(l.any fun o => makesBox o.op) || l.all fun o => match o.op with | .call { callee := .value (.func _), .. } => true | .call { callee := .value _, .. } => false | _ => true)

section
variable {P : Program} {GE : List (Nat × List PVal)}

theorem fdo_mono {op : Op} {id : Nat} {v : Operand → PVal} {H : List PBox} {K K' : PVal → List PBox → Prop} (h : fdo P GE op id v H K) (hk : ∀ p H', K p H' → K' p H') : fdo P GE op id v H K' := by
  unfold fdo at *
  split at h
  · exact ⟨h.1, h.2.imp fun r hr => hr.imp fun ro hro => ⟨hro.1, hk _ _ hro.2⟩⟩
  · unfold pcallV at *
    split at h
    · rcases h with ⟨h1, r, ro, h2, h3⟩ | ⟨ρ, argsC, Hc, rc, ro, Hc', H', r, h1, h2, h3, h4, h5, h6, h7, h8, h9, h10⟩
      · exact .inl ⟨h1, r, ro, h2, hk _ _ h3⟩
      · exact .inr ⟨ρ, argsC, Hc, rc, ro, Hc', H', r, h1, h2, h3, h4, h5, h6, h7, h8, h9, hk _ _ h10⟩
    · exact h.elim
  · split at h
    · rename_i p H' he
      exact hk _ _ h
    · exact h.elim

theorem fdo_pick {op : Op} {id : Nat} {v : Operand → PVal} {H : List PBox} {K : PVal → List PBox → Prop} (h : fdo P GE op id v H K) : ∃ p H', fdo P GE op id v H (fun q H2 => q = p ∧ H2 = H') ∧ K p H' := by
  unfold fdo at *
  split at h
  · obtain ⟨h1, r, ro, h2, h3⟩ := h
    exact ⟨r, H, ⟨h1, r, ro, h2, rfl, rfl⟩, h3⟩
  · unfold pcallV at *
    split at h
    · rcases h with ⟨h1, r, ro, h2, h3⟩ | ⟨ρ, argsC, Hc, rc, ro, Hc', H', r, h1, h2, h3, h4, h5, h6, h7, h8, h9, h10⟩
      · exact ⟨r, H, .inl ⟨h1, r, ro, h2, rfl, rfl⟩, h3⟩
      · exact ⟨r, H', .inr ⟨ρ, argsC, Hc, rc, ro, Hc', H', r, h1, h2, h3, h4, h5, h6, h7, h8, h9, rfl, rfl⟩, h10⟩
    · exact h.elim
  · split at h
    · rename_i p H' he
      exact ⟨p, H', ⟨rfl, rfl⟩, h⟩
    · exact h.elim

/-- One step in the order of the text. -/
def FStep (P : Program) (GE : List (Nat × List PVal)) (ops : Array Oper) (o : Oper) (id : Nat) (st st' : PSt) : Prop :=
  let run := ∃ p H, fdo P GE o.op id (opv GE st.tmps) st.boxes (fun q H2 => q = p ∧ H2 = H) ∧ st' = putv st o.dst p [] H
  match o.guard with
  | none => run
  | some (j, want) => ∃ x, pguard ops st.tmps j = some x ∧ (x = some want → run) ∧ (x ≠ some want → st' = putv st o.dst (.val undef) [] st.boxes)

theorem fregion_trace {ops : Array Oper} {K : PSt → Prop} : ∀ (rest : List Oper) (id : Nat) (st : PSt), fregion P GE ops K rest id st →
    ∃ T : Nat → PSt, T 0 = st ∧ K (T rest.length) ∧ ∀ (k : Nat) o, rest[k]? = some o → FStep P GE ops o (id + boxCount (rest.take k)) (T k) (T (k + 1))
  | [], id, st, h => ⟨fun _ => st, rfl, h, by simp⟩
  | o :: rest, id, st, h => by
    have hcnt : boxCount [o] = if makesBox o.op then 1 else 0 := by unfold boxCount; simp only [List.filter_cons, List.filter_nil]; split <;> rfl
    have fin : ∀ st', FStep P GE ops o id st st' → fregion P GE ops K rest (id + if makesBox o.op then 1 else 0) st' →
        ∃ T : Nat → PSt, T 0 = st ∧ K (T (rest.length + 1)) ∧ ∀ (k : Nat) o', (o :: rest)[k]? = some o' → FStep P GE ops o' (id + boxCount ((o :: rest).take k)) (T k) (T (k + 1)) := by
      intro st' h1 h2
      obtain ⟨T, t0, t1, t2⟩ := fregion_trace rest _ st' h2
      refine ⟨fun k => match k with | 0 => st | k + 1 => T k, rfl, t1, fun k o' ho' => ?_⟩
      cases k with
      | zero => simp at ho'; subst ho'; simp only; rw [t0]; simpa [boxCount] using h1
      | succ k =>
        have := t2 k o' (by simpa using ho')
        have he : id + (if makesBox o.op then 1 else 0) + boxCount (rest.take k) = id + boxCount ((o :: rest).take (k + 1)) := by
          simp only [List.take_succ_cons]
          have : boxCount (o :: rest.take k) = boxCount [o] + boxCount (rest.take k) := by
            unfold boxCount; simp only [List.filter_cons, List.filter_nil]; split <;> simp <;> omega
          rw [this, hcnt]; omega
        rw [he] at this
        exact this
    simp only [fregion] at h
    simp only [List.length_cons]
    split at h
    · rename_i hg
      obtain ⟨p, H, h1, h2⟩ := fdo_pick h
      exact fin _ (by unfold FStep; rw [hg]; exact ⟨p, H, h1, rfl⟩) h2
    · rename_i j want hg
      split at h
      · rename_i x hx
        by_cases hw : x = some want
        · obtain ⟨p, H, h1, h2⟩ := fdo_pick (h.1 hw)
          exact fin _ (by unfold FStep; rw [hg]; exact ⟨x, hx, fun _ => ⟨p, H, h1, rfl⟩, fun hn => absurd hw hn⟩) h2
        · exact fin _ (by unfold FStep; rw [hg]; exact ⟨x, hx, fun hy => absurd hy hw, fun _ => rfl⟩) (h.2 hw)
      · exact h.elim

/-- The edges' order, as it is reckoned. -/
theorem ancStep_spec {acc : List Nat} {o : Oper} {i : Nat} (h : (ancStep acc o).testBit i = true) : ∃ e ∈ o.after.toList, Region.binds .any e = true ∧ (e.on = i ∨ (acc.getD e.on 0).testBit i = true) := by
  unfold ancStep at h
  have key : ∀ (l : List Edge) (s : Nat), (l.foldl (fun s e => if Region.binds .any e then s ||| 2 ^ e.on ||| acc.getD e.on 0 else s) s).testBit i = true →
      s.testBit i = true ∨ ∃ e ∈ l, Region.binds .any e = true ∧ (e.on = i ∨ (acc.getD e.on 0).testBit i = true) := by
    intro l
    induction l with
    | nil => intro s hs; exact .inl hs
    | cons e l ih =>
      intro s hs
      simp only [List.foldl_cons] at hs
      rcases ih _ hs with hs' | ⟨e', h1, h2⟩
      · split at hs'
        · rename_i hb
          simp only [Nat.testBit_or, Bool.or_eq_true] at hs'
          rcases hs' with (hs' | hs') | hs'
          · exact .inl hs'
          · refine .inr ⟨e, by simp, hb, .inl ?_⟩
            rw [Nat.testBit_two_pow] at hs'
            simpa using hs'
          · exact .inr ⟨e, by simp, hb, .inr hs'⟩
        · exact .inl hs'
      · exact .inr ⟨e', by simp [h1], h2⟩
  rcases key _ 0 h with h0 | h0
  · simp at h0
  · exact h0

theorem ancs_spec (ops : List Oper) : (ancs ops).length = ops.length ∧ ∀ (j i : Nat), ((ancs ops).getD j 0).testBit i = true → ∃ o, ops[j]? = some o ∧ ∃ e ∈ o.after.toList, Region.binds .any e = true ∧ (e.on = i ∨ (e.on < j ∧ ((ancs ops).getD e.on 0).testBit i = true)) := by
  unfold ancs
  have key : ∀ (rest pre : List Oper) (acc : List Nat), acc.length = pre.length →
      (∀ (j i : Nat), (acc.getD j 0).testBit i = true → ∃ o, (pre ++ rest)[j]? = some o ∧ ∃ e ∈ o.after.toList, Region.binds .any e = true ∧ (e.on = i ∨ (e.on < j ∧ (acc.getD e.on 0).testBit i = true))) →
      (rest.foldl (fun acc o => acc ++ [ancStep acc o]) acc).length = (pre ++ rest).length ∧ ∀ (j i : Nat), ((rest.foldl (fun acc o => acc ++ [ancStep acc o]) acc).getD j 0).testBit i = true →
        ∃ o, (pre ++ rest)[j]? = some o ∧ ∃ e ∈ o.after.toList, Region.binds .any e = true ∧ (e.on = i ∨ (e.on < j ∧ ((rest.foldl (fun acc o => acc ++ [ancStep acc o]) acc).getD e.on 0).testBit i = true)) := by
    intro rest
    induction rest with
    | nil => intro pre acc hl h; exact ⟨by simpa using hl, by simpa using h⟩
    | cons o rest ih =>
      intro pre acc hl h
      simp only [List.foldl_cons]
      have hsplit : pre ++ o :: rest = (pre ++ [o]) ++ rest := by simp
      rw [hsplit]
      refine ih (pre ++ [o]) (acc ++ [ancStep acc o]) (by simp [hl]) (fun j i hb => ?_)
      have hlow : ∀ m, m < acc.length → (acc ++ [ancStep acc o]).getD m 0 = acc.getD m 0 := fun m hm => by
        rw [List.getD_eq_getElem?_getD, List.getD_eq_getElem?_getD, List.getElem?_append_left hm]
      by_cases hj : j < acc.length
      · rw [hlow j hj] at hb
        obtain ⟨o', h1, e, h2, h3, h4⟩ := h j i hb
        refine ⟨o', by rw [← hsplit]; exact h1, e, h2, h3, h4.imp id fun hx => ⟨hx.1, ?_⟩⟩
        rw [hlow _ (by omega)]; exact hx.2
      · by_cases hj2 : j = acc.length
        · subst hj2
          have : (acc ++ [ancStep acc o]).getD acc.length 0 = ancStep acc o := by
            rw [List.getD_eq_getElem?_getD, List.getElem?_append_right (Nat.le_refl _)]; simp
          rw [this] at hb
          obtain ⟨e, h1, h2, h3⟩ := ancStep_spec hb
          refine ⟨o, by rw [hl]; simp, e, h1, h2, ?_⟩
          rcases h3 with h3 | h3
          · exact .inl h3
          · have hlt : e.on < acc.length := by
              by_cases hlt : e.on < acc.length
              · exact hlt
              · rw [List.getD_eq_getElem?_getD, List.getElem?_eq_none (by omega)] at h3; simp at h3
            exact .inr ⟨hlt, by rw [hlow _ hlt]; exact h3⟩
        · rw [List.getD_eq_getElem?_getD, List.getElem?_eq_none (by simp; omega)] at hb; simp at hb
  have := key ops [] [] rfl (fun j i hb => by simp at hb)
  simpa using this

end
end Go.Proofs.YtgiimiklbabhcaaDoor
