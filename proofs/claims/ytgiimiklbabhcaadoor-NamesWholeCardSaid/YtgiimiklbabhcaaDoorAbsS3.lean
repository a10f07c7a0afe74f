/-
  WHAT IS PROVED: the check of a drawn region's edges, with the list of what comes before what given; more equations for runs. No program in sight. Conditions: none.
-/
import Derived.Test.YtgiimiklbabhcaaDoorAbsS2
namespace Go.Proofs.YtgiimiklbabhcaaDoor
open Go

/-- 'drawOK', the list of what comes before what being given. -/
def drawC (P : Program) (l : List Oper) (n : Nat) (an : List Nat) : Bool :=
  let before (i j : Nat) : Bool := (an.getD j 0).testBit i
  let idx := List.range l.length
  (an.length == l.length && idx.all fun j => ancStep an (l.getD j default) == an.getD j 0) &&
  (l.all (fun o => o.dst.any fun d => decide (d < n)) &&
  idx.all (fun j => (l.getD j default).after.all fun e => !Region.binds .any e || decide (e.on < j)) &&
  idx.all (fun j => idx.all fun i => i == j || (l.getD i default).dst != (l.getD j default).dst) &&
  idx.all (fun j => (looks l.toArray (l.getD j default)).all fun t => idx.all fun i => i == j || (l.getD i default).dst != some t || (if i < j then before i j else before j i)) &&
  idx.all (fun j => idx.all fun i => !(decide (i < j)) || boxClass P (l.getD i default).op < 2 || boxClass P (l.getD j default).op < 2 || (boxClass P (l.getD i default).op != 3 && boxClass P (l.getD j default).op != 3) || before i j) &&
  (!(l.any fun o => makesBox o.op) || l.all fun o => match o.op with | .call { callee := .value (.func _), .. } => true | .call { callee := .value _, .. } => false | _ => true))

theorem ancFold_cong {an an' : List Nat} : ∀ (l : List Edge) (s : Nat), (∀ e ∈ l, Region.binds .any e = true → an.getD e.on 0 = an'.getD e.on 0) →
    l.foldl (fun s e => if Region.binds .any e then s ||| 2 ^ e.on ||| an.getD e.on 0 else s) s = l.foldl (fun s e => if Region.binds .any e then s ||| 2 ^ e.on ||| an'.getD e.on 0 else s) s
  | [], _, _ => rfl
  | e :: l, s, h => by
    simp only [List.foldl_cons]
    rw [ancFold_cong l _ fun e he => h e (by simp [he])]
    by_cases hb : Region.binds .any e = true
    · rw [if_pos hb, if_pos hb, h e (by simp) hb]
    · rw [if_neg hb, if_neg hb]
theorem ancStep_cong {an an' : List Nat} {o : Oper} (h : ∀ e ∈ o.after.toList, Region.binds .any e = true → an.getD e.on 0 = an'.getD e.on 0) : ancStep an o = ancStep an' o := ancFold_cong _ _ h

theorem drawOK_of {P : Program} {l : List Oper} {n : Nat} (an : List Nat) (h : drawC P l n an = true) : drawOK P l.toArray n = true := by
  unfold drawC at h
  simp only [Bool.and_eq_true] at h
  obtain ⟨⟨ha1, ha2⟩, h2⟩ := h
  have hlen : an.length = l.length := by simpa using ha1
  have hedge : ∀ j, j < l.length → ∀ e ∈ (l.getD j default).after.toList, Region.binds .any e = true → e.on < j := by
    intro j hj e he hb
    have := h2.1.1.1.1.2
    simp only [List.all_eq_true, List.mem_range] at this
    have := this j hj
    rw [Array.all_eq_true_iff_forall_mem] at this
    have := this e (by simpa using he)
    simpa [hb] using this
  have key : ∀ k, k ≤ l.length → ancs (l.take k) = an.take k := by
    intro k
    induction k with
    | zero => intro _; simp [ancs]
    | succ k ih =>
      intro hk
      have ho : l[k]? = some (l.getD k default) := by simp [show k < l.length by omega]
      rw [List.take_add_one, ho]
      unfold ancs at ih ⊢
      rw [show (some (l.getD k default)).toList = [l.getD k default] from rfl, List.foldl_append, ih (by omega)]
      simp only [List.foldl_cons, List.foldl_nil]
      have h3 : ancStep an (l.getD k default) = an.getD k 0 := by
        simp only [List.all_eq_true, List.mem_range] at ha2
        simpa using ha2 k (by omega)
      rw [show ancStep (an.take k) (l.getD k default) = an.getD k 0 from by
        rw [← h3]
        refine ancStep_cong fun e he hb => ?_
        have := hedge k (by omega) e he hb
        simp [List.getD_eq_getElem?_getD, List.getElem?_take_of_lt this]]
      rw [List.take_add_one]
      simp [show k < an.length by omega]
  have hall : ancs l = an := by
    have := key l.length (Nat.le_refl _)
    rw [List.take_length, ← hlen, List.take_length] at this
    exact this
  unfold drawOK
  simp only [hall, Bool.and_eq_true]
  exact h2
theorem drawR_of {P : Program} {l : List Oper} {n : Nat} (an : List Nat) (h : drawC P l n an = true) : drawR P l.toArray n := drawOK_of an h

end Go.Proofs.YtgiimiklbabhcaaDoor
