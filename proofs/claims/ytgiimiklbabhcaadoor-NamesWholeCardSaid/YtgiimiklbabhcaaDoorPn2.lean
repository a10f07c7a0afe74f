/-
  WHAT IS PROVED: what the plain functions about core names (names.Core, liquidcheckref04.Core and what they call) come to, and that they agree. Conditions: texts shorter than 2^62.
-/
import Derived.Test.YtgiimiklbabhcaaDoorPn1
namespace Go.Proofs.YtgiimiklbabhcaaDoor
open Go
set_option linter.unusedSimpArgs false
set_option linter.unusedVariables false

theorem dot_eq (b : UInt8) : ((b.toNat : Int) == 46) = (b == 46) := by
  rw [Bool.eq_iff_iff]
  simp only [beq_iff_eq]
  constructor
  · intro h
    have : b.toNat = 46 := by omega
    exact UInt8.toNat_inj.1 this
  · rintro rfl; rfl

def dots : Str → List Str
  | [] => [[]]
  | c :: r => if (c == 46) = true then [] :: dots r else match dots r with
    | [] => [[c]]
    | h :: t => (c :: h) :: t
def preD (p : Str) : List Str → List Str
  | [] => [p]
  | h :: t => (p ++ h) :: t
theorem dots_ne : ∀ (s : Str), dots s ≠ []
  | [] => by simp [dots]
  | c :: r => by
    unfold dots
    split
    · simp
    · split <;> simp
theorem dots_cons (c : UInt8) (r : Str) (h : ¬ (c == 46) = true) : dots (c :: r) = preD [c] (dots r) := by
  conv => lhs; unfold dots
  rw [if_neg h]
  cases dots r <;> rfl
theorem preD_preD (p q : Str) (l : List Str) : preD p (preD q l) = preD (p ++ q) l := by cases l <;> simp [preD]
theorem preD_nil {l : List Str} (h : l ≠ []) : preD [] l = l := by cases l with
  | nil => exact absurd rfl h
  | cons => rfl
theorem dots_app : ∀ (p s : Str), p.all (fun c => !(c == 46)) = true → dots (p ++ s) = preD p (dots s)
  | [], s, _ => (preD_nil (dots_ne s)).symm
  | c :: p, s, h => by
    rw [List.all_cons, Bool.and_eq_true] at h
    rw [List.cons_append, dots_cons _ _ (by simpa using h.1), dots_app p s h.2, preD_preD]
    rfl
theorem dots_len : ∀ (s : Str), (dots s).length ≤ s.length + 1 ∧ ∀ x ∈ dots s, x.length ≤ s.length
  | [] => by simp [dots]
  | c :: r => by
    obtain ⟨h1, h2⟩ := dots_len r
    by_cases h : (c == 46) = true
    · unfold dots
      rw [if_pos h]
      refine ⟨by simp; omega, fun x hx => ?_⟩
      rw [List.mem_cons] at hx
      rcases hx with rfl | hx
      · simp
      · have := h2 x hx; simp; omega
    · rw [dots_cons c r h]
      cases hd : dots r with
      | nil => exact absurd hd (dots_ne r)
      | cons a t =>
        rw [hd] at h1 h2
        refine ⟨by simpa [preD] using Nat.le_succ_of_le h1, fun x hx => ?_⟩
        simp only [preD, List.mem_cons] at hx
        rcases hx with rfl | hx
        · have := h2 a (by simp); simp; omega
        · have := h2 x (by simp [hx]); simp; omega

def cutS (s : Str) : Str × Str × Bool := match s.findIdx? (fun c => c == 46) with
  | some j => (s.take j, s.drop (j + 1), true)
  | none => (s, [], false)
theorem names_cut_eq (s : Str) (hs : Lim s) : names_cut s = some (cutS s) := by
  unfold names_cut names_cut_L1
  have := loop_find s hs (fun zz => names_cut_L1_b s zz) (fun c => c == 46) (fun j => Sum.inl (s.take j, s.drop (j + 1))) (Sum.inr ()) (fun i h => by
    simp only [names_cut_L1_b]
    rw [if_pos (by simp; omega), idxS_nat s i h]
    simp only [Option.bind_some, dot_eq]
    by_cases hd : (s[i] == 46) = true
    · rw [if_pos hd, if_pos hd, slc_to s i (by omega)]
      have hs' : s.length < 9223372036854775808 := hs
      have e : w64 ((i : Int) + 1) = ((i + 1 : Nat) : Int) := by rw [w64_eq (by omega) (by omega)]; omega
      rw [e]
      simp only [Option.bind_some, slc_from s (i + 1) (by omega)]
    · rw [if_neg hd, if_neg hd]) (by simp only [names_cut_L1_b]; rw [if_neg (by simp)])
  rw [this]
  unfold cutS
  cases s.findIdx? (fun c => c == 46) <;> rfl
theorem dots_cut (s : Str) : dots s = if (cutS s).2.2 = true then (cutS s).1 :: dots (cutS s).2.1 else [(cutS s).1] := by
  unfold cutS
  cases h : s.findIdx? (fun c => c == 46) with
  | none =>
    rw [List.findIdx?_eq_none_iff] at h
    have := dots_app s [] (by simp only [List.all_eq_true, Bool.not_eq_true']; exact h)
    rw [List.append_nil] at this
    simp only [Bool.false_eq_true, if_false]
    rw [this]
    simp [dots, preD]
  | some j =>
    rw [List.findIdx?_eq_some_iff_getElem] at h
    obtain ⟨hj, h1, h2⟩ := h
    have e : s = s.take j ++ s[j] :: s.drop (j + 1) := by
      conv => lhs; rw [← List.take_append_drop j s]
      rw [List.drop_eq_getElem_cons hj]
    have := dots_app (s.take j) (s[j] :: s.drop (j + 1)) (by
      simp only [List.all_eq_true, Bool.not_eq_true']
      intro x hx
      obtain ⟨i, hi, rfl⟩ := List.getElem_of_mem hx
      rw [List.getElem_take]
      have hi' : i < j := by simp at hi; omega
      simpa using h2 i hi')
    rw [← e] at this
    simp only [if_true]
    rw [this]
    conv => lhs; arg 2; unfold dots
    rw [if_pos h1]
    simp [preD]
theorem cutS_len (s : Str) : (cutS s).1.length ≤ s.length ∧ (cutS s).2.1.length ≤ s.length ∧ ((cutS s).2.2 = true → (cutS s).2.1.length < s.length) := by
  unfold cutS
  cases h : s.findIdx? (fun c => c == 46) with
  | none => simp
  | some j =>
    rw [List.findIdx?_eq_some_iff_getElem] at h
    obtain ⟨hj, _⟩ := h
    simp
    omega

/-! one part -/
def wordP (p : Str) : Bool := (p.isEmpty || headB isSmall p) && p.all wordB
def isPart (p : Str) : Bool := sized p && (p.all alnumB || wordP p)

theorem runL_anyI {α X : Type} (p : Nat → α → Bool) (q : α → Bool) (y e : X) (k : Nat) (h : ∀ i x, k ≤ i → p i x = q x) : ∀ (l : List α) (i : Nat), k ≤ i → runL (fun i x (_ : Unit) => if p i x = true then Sum.inr y else .inl ()) (fun _ => e) l i () = if l.any q = true then y else e
  | [], i, _ => by simp [runL]
  | x :: l, i, hk => by
    have ih := runL_anyI p q y e k h l (i + 1) (by omega)
    unfold runL
    rw [h i x hk]
    by_cases hq : q x = true
    · simp [hq]
    · simp only [hq, if_false, ih, List.any_cons, Bool.false_or, Bool.false_eq_true]

theorem names_word_J2_eq (s : Str) (i : Nat) (h : i < s.length) : names_word_J2 s i = some (if i = 0 then !isSmall s[i].toNat else !wordB s[i]) := by
  unfold names_word_J2 wordB
  simp only [idxS_nat s i h, Option.bind_some, names_small_eq, names_digit_eq]
  by_cases h0 : i = 0
  · subst h0
    cases isSmall ((s[0]).toNat : Int) <;> simp
  · have : ((i : Int) == 0) = false := by simp; omega
    simp only [this, if_neg h0]
    cases isSmall (s[i].toNat : Int) <;> cases isDig (s[i].toNat : Int) <;> simp [bne]
theorem names_word_eq (s : Str) (hs : Lim s) : names_word s = some (wordP s) := by
  unfold names_word names_word_L1
  have := loop_run s hs (fun i (_ : Unit) => i) (fun zz => names_word_L1_b s zz) (fun _ _ => True) (fun i x _ => if (if i = 0 then !isSmall x.toNat else !wordB x) = true then .inr (.inl ()) else .inl ()) (fun _ => .inr ()) (fun i h t _ => ⟨by
    simp only [names_word_L1_b]
    rw [if_pos (by simp; omega), names_word_J2_eq s i h]
    simp only [Option.bind_some]
    cases (if i = 0 then !isSmall s[i].toNat else !wordB s[i]) <;> rfl, fun _ _ => trivial⟩) (fun t _ => by simp only [names_word_L1_b]; rw [if_neg (by simp)]) 0 () (Nat.zero_le _) trivial
  simp only [Int.ofNat_zero, List.drop_zero] at this
  rw [this]
  cases s with
  | nil => rfl
  | cons c r =>
    unfold runL wordP headB
    simp only [if_true, List.isEmpty_cons, Bool.false_or, List.all_cons]
    by_cases hc : isSmall c.toNat = true
    · have := runL_anyI (X := Unit ⊕ Unit) (fun i (x : UInt8) => if i = 0 then !isSmall x.toNat else !wordB x) (fun x => !wordB x) (.inl ()) (.inr ()) 1 (fun i x hi => by rw [if_neg (by omega)]) r 1 (Nat.le_refl _)
      simp only [hc, Bool.not_true, Bool.false_eq_true, if_false, smallWord hc, Bool.true_and, Nat.zero_add]
      rw [this, List.any_eq_not_all_not]
      simp only [Bool.not_not]
      cases r.all wordB <;> rfl
    · simp [hc]

theorem names_Core_J3_eq (p : Str) (hs : Lim p) : names_Core_J3 p = some (!isPart p) := by
  unfold names_Core_J3 isPart
  rw [names_sized_eq, names_alphanumeric_eq p hs, names_word_eq p hs]
  cases sized p <;> cases p.all alnumB <;> simp

theorem names_Core_L2_false (r : Str) : names_Core_L2 r false = some (.inr ()) := loop_done rfl
theorem names_Core_L2_true : ∀ (k : Nat) (r : Str), r.length < k → Lim r → names_Core_L2 r true = some (if (!(dots r).all isPart) = true then .inl () else .inr ())
  | 0, r, hk, _ => absurd hk (by omega)
  | k + 1, r, hk, hs => by
    obtain ⟨c1, c2, c3⟩ := cutS_len r
    have hs' : r.length < 9223372036854775808 := hs
    have hb : names_Core_L2_b r true = some (if (!isPart (cutS r).1) = true then .inr (.inl ()) else .inl ((cutS r).2.1, (cutS r).2.2)) := by
      simp only [names_Core_L2_b, if_true, names_cut_eq r hs, Option.bind_some]
      rw [names_Core_J3_eq _ (show _ < _ by omega)]
      simp only [Option.bind_some]
      cases isPart (cutS r).1 <;> rfl
    rw [dots_cut r]
    unfold names_Core_L2
    by_cases hp : isPart (cutS r).1 = true
    · rw [hp] at hb
      refine (loop_step (body := fun zz : Str × Bool => names_Core_L2_b zz.1 zz.2) (s := (r, true)) (s' := ((cutS r).2.1, (cutS r).2.2)) hb).trans ?_
      cases hm : (cutS r).2.2 with
      | false =>
        have := names_Core_L2_false (cutS r).2.1
        unfold names_Core_L2 at this
        rw [this]
        simp [hp]
      | true =>
        have c4 := c3 hm
        have := names_Core_L2_true k (cutS r).2.1 (by omega) (show _ < _ by omega)
        unfold names_Core_L2 at this
        rw [this]
        simp [hp]
    · have hp' : isPart (cutS r).1 = false := by simpa using hp
      rw [hp'] at hb
      refine (loop_done (body := fun zz : Str × Bool => names_Core_L2_b zz.1 zz.2) (s := (r, true)) hb).trans ?_
      cases (cutS r).2.2 <;> simp [hp']
theorem names_Core_L2_eq (r : Str) (more : Bool) (hs : Lim r) : names_Core_L2 r more = some (if (more && !(dots r).all isPart) = true then .inl () else .inr ()) := by
  cases more with
  | false => exact names_Core_L2_false r
  | true => exact names_Core_L2_true (r.length + 1) r (by omega) hs

def isCore (s : Str) : Bool := decide (s.length ≤ 120) && match dots s with
  | [] => false
  | f :: r => (isName f || isTitle f || (f == [118] && !r.isEmpty)) && r.all isPart

theorem names_Core_J1_eq (f : Str) (hf : Lim f) (more : Bool) : names_Core_J1 f more = some (!(isName f || isTitle f || (f == [118] && more))) := by
  unfold names_Core_J1
  rw [names_name_eq f hf, names_title_eq f hf]
  simp only [Option.bind_some]
  cases isName f <;> cases isTitle f <;> cases (f == [118]) <;> simp
theorem names_Core_eq (s : Str) : names_Core s = some (errno (isCore s)) := by
  unfold names_Core isCore errno
  by_cases h : s.length ≤ 120
  · have h1 : ¬ ((s.length : Int) > 120) := by omega
    obtain ⟨c1, c2, c3⟩ := cutS_len s
    simp only [h1, h, decide_false, decide_true, Bool.false_eq_true, if_false, Bool.true_and, names_cut_eq s (show _ < _ by omega), Option.bind_some]
    rw [names_Core_J1_eq _ (show _ < _ by omega), names_Core_L2_eq _ _ (show _ < _ by omega), dots_cut s]
    simp only [Option.bind_some]
    cases hm : (cutS s).2.2 with
    | false => 
      by_cases hn : isName (cutS s).1 = true <;> by_cases ht : isTitle (cutS s).1 = true <;> simp [hn, ht]
    | true =>
      have : (dots (cutS s).2.1).isEmpty = false := by
        cases hd : dots (cutS s).2.1 with
        | nil => exact absurd hd (dots_ne _)
        | cons => rfl
      simp only [this, if_true, Bool.not_false, Bool.and_true, Bool.true_and]
      cases (isName (cutS s).1 || isTitle (cutS s).1 || (cutS s).1 == [118]) <;> cases (dots (cutS s).2.1).all isPart <;> simp
  · have h1 : ((s.length : Int) > 120) := by omega
    simp [h1, h]

/-! liquidcheckref04 -/
theorem R04_parts_run (s : Str) : ∀ (r : Str) (i b : Nat) (out o : List Str) (b' : Nat), s.drop i = r → i + r.length = s.length → b ≤ i → ((s.take i).drop b).all (fun c => !(c == 46)) = true →
    runL (fun i x (t : List Str × Nat) => if (x == 46) = true then (Sum.inl (t.1 ++ [(s.take i).drop t.2], i + 1) : (List Str × Nat) ⊕ (List Str × Nat)) else .inl t) (fun t => t) r i (out, b) = (o, b') →
    b' ≤ s.length ∧ o ++ [s.drop b'] = out ++ preD ((s.take i).drop b) (dots r)
  | [], i, b, out, o, b', h1, h2, h3, h4, h => by
    simp only [runL, Prod.mk.injEq] at h
    obtain ⟨rfl, rfl⟩ := h
    have : i = s.length := by simpa using h2
    subst this
    simp [dots, preD, h3]
  | c :: r, i, b, out, o, b', h1, h2, h3, h4, h => by
    have hi : i < s.length := by simp at h2; omega
    rw [List.drop_eq_getElem_cons hi] at h1
    injection h1 with h1a h1b
    unfold runL at h
    by_cases hc : (c == 46) = true
    · simp only [hc, if_true] at h
      have ih := R04_parts_run s r (i + 1) (i + 1) _ o b' h1b (by simp at h2; omega) (Nat.le_refl _) (by simp) h
      refine ⟨ih.1, ?_⟩
      rw [ih.2]
      have e : (s.take (i + 1)).drop (i + 1) = [] := by simp
      rw [e, preD_nil (dots_ne r)]
      conv => rhs; arg 2; arg 2; unfold dots
      rw [if_pos hc]
      simp [preD]
    · simp only [hc, if_false, Bool.false_eq_true] at h
      have e : (s.take (i + 1)).drop b = (s.take i).drop b ++ [c] := by
        rw [List.take_succ_eq_append_getElem hi, List.drop_append_of_le_length (by simp; omega), h1a]
      have ih := R04_parts_run s r (i + 1) b _ o b' h1b (by simp at h2; omega) (by omega) (by rw [e, List.all_append, h4]; simpa using hc) h
      refine ⟨ih.1, ?_⟩
      rw [ih.2, e, dots_cons c r hc, preD_preD]
theorem slc_mid {α : Type} (l : List α) (a b : Nat) (h : a ≤ b) (h2 : b ≤ l.length) : slc l (some (a : Int)) (some (b : Int)) = some ((l.take b).drop a) := by
  simp [slc, bd, h, h2]
theorem R04_parts_eq (s : Str) (hs : s.length ≤ 1000000) : R04_parts s = some (dots s) := by
  unfold R04_parts R04_parts_L1
  have := loop_run s (by omega) (fun i (t : List Str × Nat) => (t.1, (t.2 : Int), i)) (fun zz => R04_parts_L1_b s s.length zz.1 zz.2.1 zz.2.2) (fun i t => t.2 ≤ i ∧ t.1.length ≤ i)
    (fun i x (t : List Str × Nat) => if (x == 46) = true then (Sum.inl (t.1 ++ [(s.take i).drop t.2], i + 1) : (List Str × Nat) ⊕ (List Str × Int)) else .inl t) (fun t => (t.1, (t.2 : Int))) (fun i h t hI => by
      refine ⟨?_, fun t' ht => ?_⟩
      · simp only [R04_parts_L1_b]
        rw [if_pos (by simp; omega), idxS_nat s i h]
        simp only [Option.bind_some, dot_eq]
        by_cases hd : (s[i] == 46) = true
        · rw [if_pos hd, if_pos hd, slc_mid s _ _ hI.1 (by omega)]
          simp only [Option.bind_some]
          rw [app_eq (by simp; omega)]
          have e : w64 ((i : Int) + 1) = ((i + 1 : Nat) : Int) := by rw [w64_eq (by omega) (by omega)]; omega
          rw [e]
          rfl
        · rw [if_neg hd, if_neg hd]
      · by_cases hd : (s[i] == 46) = true
        · rw [if_pos hd] at ht; cases ht; simp; omega
        · rw [if_neg hd] at ht; cases ht; omega) (fun t _ => by simp only [R04_parts_L1_b]; rw [if_neg (by simp)]) 0 ([], 0) (Nat.zero_le _) ⟨Nat.le_refl _, Nat.le_refl _⟩
  simp only [Int.ofNat_zero, List.drop_zero] at this
  rw [this]
  obtain ⟨o, b', hr⟩ : ∃ o b', runL (fun i x (t : List Str × Nat) => if (x == 46) = true then (Sum.inl (t.1 ++ [(s.take i).drop t.2], i + 1) : (List Str × Nat) ⊕ (List Str × Nat)) else .inl t) (fun t => t) s 0 ([], 0) = (o, b') := ⟨_, _, rfl⟩
  have key : ∀ (l : Str) (i : Nat) (t : List Str × Nat), runL (fun i x (t : List Str × Nat) => if (x == 46) = true then (Sum.inl (t.1 ++ [(s.take i).drop t.2], i + 1) : (List Str × Nat) ⊕ (List Str × Int)) else .inl t) (fun t => (t.1, (t.2 : Int))) l i t =
      ((runL (fun i x (t : List Str × Nat) => if (x == 46) = true then (Sum.inl (t.1 ++ [(s.take i).drop t.2], i + 1) : (List Str × Nat) ⊕ (List Str × Nat)) else .inl t) (fun t => t) l i t).1,
        ((runL (fun i x (t : List Str × Nat) => if (x == 46) = true then (Sum.inl (t.1 ++ [(s.take i).drop t.2], i + 1) : (List Str × Nat) ⊕ (List Str × Nat)) else .inl t) (fun t => t) l i t).2 : Int)) := by
    intro l
    induction l with
    | nil => intro i t; rfl
    | cons x l ih =>
      intro i t
      unfold runL
      by_cases hx : (x == 46) = true
      · simp only [hx, if_true, ih]
      · simp only [hx, if_false, ih, Bool.false_eq_true]
  rw [key, hr]
  obtain ⟨h1, h2⟩ := R04_parts_run s s 0 0 [] o b' rfl (by simp) (Nat.le_refl _) (by simp) hr
  simp only [Option.bind_some]
  rw [slc_from s b' h1]
  simp only [Option.bind_some]
  have hd := (dots_len s).1
  have h3 : o ++ [s.drop b'] = dots s := by rw [h2]; simp [preD_nil (dots_ne s)]
  have h4 : o.length + 1 = (dots s).length := by rw [← h3]; simp
  rw [app_eq (by simp; omega), h3]
  rfl

theorem R04_part_J3_eq (p : Str) (plain : Bool) (i : Nat) (h : i < p.length) : R04_part_J3 p plain i = some (plain && alnumB p[i]) := by
  unfold R04_part_J3 alnumB
  simp only [idxS_nat p i h, Option.bind_some, R04_small_eq, R04_capital_eq, R04_digit_eq]
  cases plain <;> cases isSmall (p[i].toNat : Int) <;> cases isCap (p[i].toNat : Int) <;> simp
theorem R04_part_run : ∀ (l : Str) (i : Nat) (a b : Bool), runL (fun _ (x : UInt8) (t : Bool × Bool) => (Sum.inl (t.1 && alnumB x, t.2 && wordB x) : (Bool × Bool) ⊕ (Bool × Bool))) (fun t => t) l i (a, b) = (a && l.all alnumB, b && l.all wordB)
  | [], i, a, b => by simp [runL]
  | x :: l, i, a, b => by
    unfold runL
    simp only [R04_part_run l, List.all_cons, Bool.and_assoc]
theorem R04_part_L2_eq (p : Str) (hp : Lim p) (a b : Bool) : R04_part_L2 p p.length a b 0 = some (a && p.all alnumB, b && p.all wordB) := by
  unfold R04_part_L2
  have := loop_run p hp (fun i (t : Bool × Bool) => (t.1, t.2, i)) (fun zz => R04_part_L2_b p p.length zz.1 zz.2.1 zz.2.2) (fun _ _ => True) (fun _ x t => .inl (t.1 && alnumB x, t.2 && wordB x)) (fun t => t) (fun i h t _ => ⟨by
    simp only [R04_part_L2_b]
    rw [if_pos (by simp; omega), R04_part_J3_eq p _ i h]
    simp only [Option.bind_some, idxS_nat p i h, R04_small_eq, R04_digit_eq, wordB]
    cases t.2 <;> cases isSmall (p[i].toNat : Int) <;> cases isDig (p[i].toNat : Int) <;> simp, fun _ _ => trivial⟩) (fun t _ => by simp only [R04_part_L2_b]; rw [if_neg (by simp)]) 0 (a, b) (Nat.zero_le _) trivial
  simp only [Int.ofNat_zero, List.drop_zero] at this
  rw [this, R04_part_run]
theorem R04_part_eq (p : Str) (hp : Lim p) : R04_part p = some (isPart p) := by
  unfold R04_part R04_part_J1 isPart sized
  cases p with
  | nil => simp
  | cons c r =>
    have h1 : ¬ (((c :: r).length : Int) < 1) := by simp; omega
    have h2 : (((c :: r).length : Int) ≥ 1) := by omega
    simp only [h1, h2, decide_false, decide_true, Bool.true_and, Bool.false_eq_true, if_false, idxS_zero, Option.bind_some, R04_small_eq, R04_part_L2_eq _ hp, wordP, headB, List.isEmpty_cons, Bool.false_or]
    by_cases h : (((c :: r).length : Int) > 24)
    · have h' : ¬ (((c :: r).length : Int) ≤ 24) := by omega
      simp only [h, h', decide_true, decide_false, if_true]
      simp
    · have h' : (((c :: r).length : Int) ≤ 24) := by omega
      simp only [h, h', decide_true, decide_false, if_false, Bool.false_eq_true, Bool.true_and]
      cases (c :: r).all alnumB <;> simp
theorem R04_Core_J1_eq (f : Str) (r : List Str) (hf : Lim f) : R04_Core_J1 (f :: r) = some (!(isName f || isTitle f || (f == [118] && !r.isEmpty))) := by
  unfold R04_Core_J1
  simp only [idx_zero, Option.bind_some, R04_Check_eq f hf, R04_Title_eq f hf]
  have e : (((f :: r).length : Int) == 1) = r.isEmpty := by
    cases r with
    | nil => rfl
    | cons a r => simp; omega
  rw [e]
  unfold errno
  cases isName f <;> cases isTitle f <;> cases (f == [118]) <;> simp
theorem isCore_cons {s f : Str} {r : List Str} (h : s.length ≤ 120) (hd : dots s = f :: r) : isCore s = ((isName f || isTitle f || (f == [118] && !r.isEmpty)) && r.all fun x => isPart x) := by
  unfold isCore
  rw [hd]
  simp only [h, decide_true, Bool.true_and]
theorem R04_Core_eq (s : Str) : R04_Core s = some (errno (isCore s)) := by
  unfold R04_Core
  by_cases h : s.length ≤ 120
  · have h1 : ¬ ((s.length : Int) > 120) := by omega
    simp only [h1, h, decide_false, decide_true, Bool.false_eq_true, if_false, Bool.true_and, R04_parts_eq s (by omega), Option.bind_some]
    obtain ⟨d1, d2⟩ := dots_len s
    cases hd : dots s with
    | nil => exact absurd hd (dots_ne s)
    | cons f r =>
      rw [hd] at d1 d2
      rw [isCore_cons h hd]
      rw [R04_Core_J1_eq f r (show _ < _ by have := d2 f (by simp); omega)]
      have hl : r.length < 9223372036854775808 := by simp at d1; omega
      have := loop_any r hl (fun zz => R04_Core_L2_b r r.length zz) (fun x => !isPart x) (.inl ()) (.inr ()) (fun j hj => by
        simp only [R04_Core_L2_b]
        have hm : r[j] ∈ f :: r := by simp
        rw [if_pos (by simp; omega), idx_nat r j hj]
        simp only [Option.bind_some]
        rw [R04_part_eq _ (show _ < _ by have := d2 _ hm; omega)]
        simp only [Option.bind_some]
        split <;> simp_all) (by simp only [R04_Core_L2_b]; rw [if_neg (by simp)]) 0 (Nat.zero_le _)
      have e1 : slc (f :: r) (some 1) none = some r := by
        have := slc_from (f :: r) 1 (by simp)
        simpa using this
      simp only [Int.ofNat_zero, List.drop_zero] at this
      simp only [Option.bind_some, e1, R04_Core_L2, this, List.any_eq_not_all_not, Bool.not_not]
      unfold errno
      cases (isName f || isTitle f || (f == [118] && !r.isEmpty)) <;> cases r.all (fun x => isPart x) <;> rfl
  · have h1 : ((s.length : Int) > 120) := by omega
    have h2 : isCore s = false := by unfold isCore; simp [h]
    simp [h1, h2, errno]
end Go.Proofs.YtgiimiklbabhcaaDoor
