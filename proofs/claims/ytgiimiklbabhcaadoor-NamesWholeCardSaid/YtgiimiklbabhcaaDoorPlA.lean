/-
  WHAT IS PROVED: plain laws of the functions that gen.py prints: numbers that don't wrap, lists, loops over a list. No program in sight. Conditions: none.
-/
import Derived.Test.YtgiimiklbabhcaaDoorSatE
namespace Go.Proofs.YtgiimiklbabhcaaDoor
open Go

theorem w64_eq {n : Int} (h1 : -9223372036854775808 ≤ n) (h2 : n < 9223372036854775808) : w64 n = n := wrap64 h1 h2
theorem idx_nat {α : Type} (l : List α) (i : Nat) (h : i < l.length) : idx l (i : Int) = some l[i] := by
  unfold idx
  rw [if_pos (by omega)]
  simp [h]
theorem idxS_nat (l : Str) (i : Nat) (h : i < l.length) : idxS l (i : Int) = some ((l[i].toNat : Int)) := by
  unfold idxS; rw [idx_nat l i h]; rfl
theorem idxS_zero (c : UInt8) (l : Str) : idxS (c :: l) 0 = some (c.toNat : Int) := by
  have := idxS_nat (c :: l) 0 (by simp)
  simpa using this
theorem idx_zero {α : Type} (c : α) (l : List α) : idx (c :: l) 0 = some c := by
  have := idx_nat (c :: l) 0 (by simp)
  simpa using this
theorem slc_to {α : Type} (l : List α) (i : Nat) (h : i ≤ l.length) : slc l none (some (i : Int)) = some (l.take i) := by
  simp [slc, bd, h]
theorem slc_from {α : Type} (l : List α) (i : Nat) (h : i ≤ l.length) : slc l (some (i : Int)) none = some (l.drop i) := by
  simp [slc, bd, h]
theorem slc_from' {α : Type} (l : List α) {i : Int} (h0 : 0 ≤ i) (h : i.toNat ≤ l.length) : slc l (some i) none = some (l.drop i.toNat) := by
  simp [slc, bd, h, h0]
theorem app_eq {α : Type} {l r : List α} (h : l.length + r.length ≤ 1073741824) : app l r = some (l ++ r) := if_pos h
theorem cat_eq {l r : Str} (h : l.length + r.length ≤ 4611686018427387904) : cat l r = some (l ++ r) := if_pos h

theorem loop_step {σ X : Type} {body : σ → Option (σ ⊕ X)} {s s' : σ} (h : body s = some (.inl s')) : loop body s = loop body s' := by rw [loop_eq, h]
theorem loop_done {σ X : Type} {body : σ → Option (σ ⊕ X)} {s : σ} {x : X} (h : body s = some (.inr x)) : loop body s = some x := by rw [loop_eq, h]

/-- A run over a list, with a state that may end it. -/
def runL {α σ X : Type} (f : Nat → α → σ → σ ⊕ X) (e : σ → X) : List α → Nat → σ → X
  | [], _, s => e s
  | x :: r, i, s => match f i x s with
    | .inl s' => runL f e r (i + 1) s'
    | .inr y => y

theorem loop_run {α σ τ X : Type} (l : List α) (hl : l.length < 9223372036854775808) (mk : Int → σ → τ) (body : τ → Option (τ ⊕ X)) (I : Nat → σ → Prop) (f : Nat → α → σ → σ ⊕ X) (e : σ → X)
    (hin : ∀ (i : Nat) (h : i < l.length) s, I i s → body (mk i s) = some (match f i l[i] s with | .inl s' => .inl (mk (w64 ((i : Int) + 1)) s') | .inr y => .inr y) ∧ ∀ s', f i l[i] s = .inl s' → I (i + 1) s')
    (hend : ∀ s, I l.length s → body (mk l.length s) = some (.inr (e s))) : ∀ (i : Nat) (s : σ), i ≤ l.length → I i s → loop body (mk i s) = some (runL f e (l.drop i) i s) := by
  intro i s hi hI
  obtain ⟨k, hk⟩ : ∃ k, k + i = l.length := ⟨l.length - i, by omega⟩
  induction k generalizing i s with
  | zero =>
    have : i = l.length := by omega
    subst this
    rw [loop_eq, hend s hI, List.drop_length]
    rfl
  | succ k ih =>
    have hlt : i < l.length := by omega
    obtain ⟨h1, h2⟩ := hin i hlt s hI
    rw [loop_eq, h1, List.drop_eq_getElem_cons hlt]
    unfold runL
    cases hf : f i l[i] s with
    | inl s' =>
      simp only
      rw [w64_eq (by omega) (by omega)]
      have := ih (i + 1) s' (by omega) (h2 s' hf) (by omega)
      rw [show ((i : Int) + 1) = ((i + 1 : Nat) : Int) by omega]
      exact this
    | inr y => rfl

/-- A run that looks for an element. -/
theorem runL_any {α X : Type} (p : α → Bool) (y e : X) : ∀ (l : List α) (i : Nat), runL (fun _ x (_ : Unit) => if p x = true then Sum.inr y else .inl ()) (fun _ => e) l i () = if l.any p = true then y else e
  | [], i => by simp [runL]
  | x :: l, i => by
    have ih := runL_any p y e l (i + 1)
    unfold runL
    by_cases h : p x = true
    · simp [h]
    · simp only [h, if_false, ih, List.any_cons, Bool.false_or, Bool.false_eq_true]

/-- A loop that looks for an element. -/
theorem loop_any {α X : Type} (l : List α) (hl : l.length < 9223372036854775808) (body : Int → Option (Int ⊕ X)) (p : α → Bool) (y e : X)
    (hin : ∀ (i : Nat) (h : i < l.length), body i = some (if p l[i] = true then .inr y else .inl (w64 ((i : Int) + 1)))) (hend : body l.length = some (.inr e)) (i : Nat) (hi : i ≤ l.length) :
    loop body (i : Int) = some (if (l.drop i).any p = true then y else e) := by
  have := loop_run l hl (fun i (_ : Unit) => i) body (fun _ _ => True) (fun _ x _ => if p x = true then Sum.inr y else .inl ()) (fun _ => e) (fun i h s _ => ⟨?_, fun _ _ => trivial⟩) (fun s _ => hend) i () hi trivial
  · rw [this, runL_any]
  · rw [hin i h]
    by_cases hp : p l[i] = true <;> simp [hp]

theorem runL_find {α X : Type} (p : α → Bool) (y : Nat → X) (e : X) : ∀ (l : List α) (i : Nat), runL (fun j x (_ : Unit) => if p x = true then Sum.inr (y j) else .inl ()) (fun _ => e) l i () = match l.findIdx? p with | some j => y (i + j) | none => e
  | [], i => by simp [runL]
  | x :: l, i => by
    have ih := runL_find p y e l (i + 1)
    unfold runL
    rw [List.findIdx?_cons]
    by_cases h : p x = true
    · simp [h]
    · simp only [h, if_false, ih, Bool.false_eq_true]
      cases l.findIdx? p with
      | none => rfl
      | some j => simp only [Option.map_some]; congr 1; omega

/-- A loop that looks for an element's place. -/
theorem loop_find {α X : Type} (l : List α) (hl : l.length < 9223372036854775808) (body : Int → Option (Int ⊕ X)) (p : α → Bool) (y : Nat → X) (e : X)
    (hin : ∀ (i : Nat) (h : i < l.length), body i = some (if p l[i] = true then .inr (y i) else .inl (w64 ((i : Int) + 1)))) (hend : body l.length = some (.inr e)) :
    loop body (0 : Int) = some (match l.findIdx? p with | some j => y j | none => e) := by
  have := loop_run l hl (fun i (_ : Unit) => i) body (fun _ _ => True) (fun j x _ => if p x = true then Sum.inr (y j) else .inl ()) (fun _ => e) (fun i h s _ => ⟨?_, fun _ _ => trivial⟩) (fun s _ => hend) 0 () (Nat.zero_le _) trivial
  · simp only [Int.ofNat_zero, List.drop_zero] at this
    have this2 := runL_find p y e l 0
    simp only [Nat.zero_add] at this2
    rw [← this2]
    exact this
  · rw [hin i h]
    by_cases hp : p l[i] = true <;> simp [hp]
end Go.Proofs.YtgiimiklbabhcaaDoor
