/-
  WHAT IS PROVED: what the plain functions of the packages names and liquidcheckref04 come to: keywords, kinds of bytes, names, titles, core names, and that the two packages agree on them. Conditions: texts shorter than 2^62.
-/
import Derived.Test.YtgiimiklbabhcaaDoorPlA
import Derived.Test.YtgiimiklbabhcaaDoorG5
namespace Go.Proofs.YtgiimiklbabhcaaDoor
open Go
set_option linter.unusedSimpArgs false
set_option linter.unusedVariables false

/-! kinds of bytes -/
def isSmall (c : Int) : Bool := decide (97 ≤ c) && decide (c ≤ 122)
def isCap (c : Int) : Bool := decide (65 ≤ c) && decide (c ≤ 90)
def isDig (c : Int) : Bool := decide (48 ≤ c) && decide (c ≤ 57)
theorem names_small_eq (c : Int) : names_small c = some (isSmall c) := by unfold names_small isSmall; split <;> simp_all <;> omega
theorem names_capital_eq (c : Int) : names_capital c = some (isCap c) := by unfold names_capital isCap; split <;> simp_all <;> omega
theorem names_digit_eq (c : Int) : names_digit c = some (isDig c) := by unfold names_digit isDig; split <;> simp_all <;> omega
theorem R04_small_eq (c : Int) : R04_small c = some (isSmall c) := by unfold R04_small isSmall; split <;> simp_all <;> omega
theorem R04_capital_eq (c : Int) : R04_capital c = some (isCap c) := by unfold R04_capital isCap; split <;> simp_all <;> omega
theorem R04_digit_eq (c : Int) : R04_digit c = some (isDig c) := by unfold R04_digit isDig; split <;> simp_all <;> omega

def wordB (b : UInt8) : Bool := isSmall b.toNat || isDig b.toNat || (b.toNat : Int) == 95
def alnumB (b : UInt8) : Bool := isSmall b.toNat || isCap b.toNat || isDig b.toNat
def sized (s : Str) : Bool := decide ((s.length : Int) ≥ 1) && decide ((s.length : Int) ≤ 24)
def kwd (s : Str) : Bool := names_keywords.any fun k => k == s
def headB (p : Int → Bool) (s : Str) : Bool := match s with | [] => false | c :: _ => p c.toNat

abbrev Lim (s : Str) : Prop := s.length < 9223372036854775808

theorem names_sized_eq (s : Str) : names_sized s = some (sized s) := by unfold names_sized sized; split <;> simp_all

theorem names_Keyword_eq (s : Str) : names_Keyword s = some (kwd s) := by
  unfold names_Keyword names_Keyword_L1
  have h42 : names_keywords.length = 42 := rfl
  have := loop_any names_keywords (by rw [h42]; omega) (fun zz => names_Keyword_L1_b s zz) (fun k => k == s) (Sum.inl ()) (Sum.inr ()) (fun i h => by
    rw [h42] at h
    simp only [names_Keyword_L1_b]
    rw [if_pos (by simp; omega), idx_nat _ i (by rw [h42]; omega)]
    simp only [Option.bind_some]
    split <;> simp_all) (by simp only [names_Keyword_L1_b]; rw [if_neg (by rw [h42]; simp)]) 0 (Nat.zero_le _)
  simp only [Int.ofNat_zero, List.drop_zero] at this
  rw [this]
  unfold kwd
  cases names_keywords.any (fun k => k == s) <;> rfl

def findI (l : List Str) (s : Str) : Int := match l.findIdx? (fun x => x == s) with | some j => (j : Int) | none => -1
theorem R04_Find_eq (l : List Str) (s : Str) (hl : l.length < 9223372036854775808) : R04_Find l s = some (findI l s) := by
  unfold R04_Find R04_Find_L1
  have := loop_find l hl (fun zz => R04_Find_L1_b l s l.length zz) (fun x => x == s) (fun j => Sum.inl (j : Int)) (Sum.inr ()) (fun i h => by
    simp only [R04_Find_L1_b]
    rw [if_pos (by simp; omega), idx_nat _ i h]
    simp only [Option.bind_some]
    split <;> simp_all) (by simp only [R04_Find_L1_b]; rw [if_neg (by simp)])
  rw [this]
  unfold findI
  cases l.findIdx? (fun x => x == s) <;> rfl
theorem names_Find_eq (l : List Str) (s : Str) (hl : l.length < 9223372036854775808) : names_Find l s = some (findI l s) := by
  unfold names_Find slices_Index slices_Index_L1
  have := loop_find l hl (fun zz => slices_Index_L1_b l s l.length zz) (fun x => x == s) (fun j => Sum.inl (j : Int)) (Sum.inr ()) (fun i h => by
    simp only [slices_Index_L1_b]
    rw [if_pos (by simp; omega), idx_nat _ i h]
    simp only [Option.bind_some, BEq.comm (a := s)]
    split <;> simp_all) (by simp only [slices_Index_L1_b]; rw [if_neg (by simp)])
  rw [this]
  unfold findI
  cases l.findIdx? (fun x => x == s) <;> rfl
theorem findI_nonneg (l : List Str) (s : Str) : decide (findI l s ≥ 0) = l.any fun k => k == s := by
  unfold findI
  cases h : l.findIdx? (fun x => x == s) with
  | none =>
    rw [List.findIdx?_eq_none_iff] at h
    symm
    simp only [List.any_eq_false]
    rw [show decide ((-1 : Int) ≥ 0) = false from rfl]
    simp only [List.any_eq_false, Bool.not_eq_true]
    exact h
  | some j =>
    have h2 : l.any (fun x => x == s) = true := by
      have := List.findIdx?_isSome (xs := l) (p := fun x => x == s)
      rw [h] at this
      exact this.symm
    rw [h2]
    simp
theorem findI_neg (l : List Str) (s : Str) : decide (findI l s < 0) = !l.any fun k => k == s := by
  rw [← findI_nonneg]
  rw [← decide_not]
  simp
theorem R04_keywords_eq : R04_keywords = some names_keywords := rfl
theorem R04_Keyword_eq (s : Str) : R04_Keyword s = some (kwd s) := by
  unfold R04_Keyword
  have h42 : names_keywords.length = 42 := rfl
  rw [R04_keywords_eq]
  simp only [Option.bind_some]
  rw [R04_Find_eq _ _ (by rw [h42]; omega)]
  simp only [Option.bind_some, findI_nonneg]
  rfl

/-! names -/
def isName (s : Str) : Bool := sized s && headB isSmall s && !kwd s && s.all wordB
def isTitle (s : Str) : Bool := sized s && headB isCap s && s.all alnumB && !(s == [73, 110, 116]) && !(s == [66, 111, 111, 108]) && !(s == [67, 101, 108, 108]) && !(s == [70, 117, 110])
def errno (b : Bool) : Int := if b then 0 else 3
theorem names_errno_eq (b : Bool) : names_errno b = some (errno b) := by unfold names_errno errno; cases b <;> rfl

theorem sized_pos {s : Str} (h : sized s = true) : ∃ c r, s = c :: r := by
  cases s with
  | nil => simp [sized] at h
  | cons c r => exact ⟨c, r, rfl⟩

theorem names_name_J3_eq (s : Str) (i : Nat) (h : i < s.length) : names_name_J3 s i = some (!wordB s[i]) := by
  unfold names_name_J3 wordB
  simp only [idxS_nat s i h, Option.bind_some, names_small_eq, names_digit_eq]
  cases isSmall (s[i].toNat : Int) <;> cases isDig (s[i].toNat : Int) <;> simp [bne]
theorem R04_Check_J3_eq (s : Str) (i : Nat) (h : i < s.length) : R04_Check_J3 s i = some (!wordB s[i]) := by
  unfold R04_Check_J3 wordB
  simp only [idxS_nat s i h, Option.bind_some, R04_small_eq, R04_digit_eq]
  cases isSmall (s[i].toNat : Int) <;> cases isDig (s[i].toNat : Int) <;> simp [bne]

theorem names_name_L2_eq (s : Str) (hs : Lim s) (i : Nat) (hi : i ≤ s.length) : names_name_L2 s i = some (if (s.drop i).any (fun b => !wordB b) = true then .inl () else .inr ()) := by
  unfold names_name_L2
  refine loop_any s hs _ (fun b => !wordB b) _ _ (fun j h => ?_) ?_ i hi
  · simp only [names_name_L2_b]
    rw [if_pos (by simp; omega), names_name_J3_eq s j h]
    simp only [Option.bind_some]
    split <;> simp_all
  · simp only [names_name_L2_b]; rw [if_neg (by simp)]
theorem R04_Check_L2_eq (s : Str) (hs : Lim s) : R04_Check_L2 s s.length 0 = some (if s.any (fun b => !wordB b) = true then .inl () else .inr ()) := by
  unfold R04_Check_L2
  have := loop_any s hs (fun zz => R04_Check_L2_b s s.length zz) (fun b => !wordB b) (.inl ()) (.inr ()) (fun j h => by
    simp only [R04_Check_L2_b]
    rw [if_pos (by simp; omega), R04_Check_J3_eq s j h]
    simp only [Option.bind_some]
    split <;> simp_all) (by simp only [R04_Check_L2_b]; rw [if_neg (by simp)]) 0 (Nat.zero_le _)
  simpa using this

theorem smallWord {b : UInt8} (h : isSmall b.toNat = true) : wordB b = true := by simp [wordB, h]
theorem capAlnum {b : UInt8} (h : isCap b.toNat = true) : alnumB b = true := by simp [alnumB, h]

theorem names_name_J1_eq (s : Str) : names_name_J1 s = some (!(sized s && headB isSmall s && !kwd s)) := by
  unfold names_name_J1
  rw [names_sized_eq]
  simp only [Option.bind_some]
  by_cases h : sized s = true
  · obtain ⟨c, r, rfl⟩ := sized_pos h
    simp only [h, idxS_zero, Option.bind_some, names_small_eq, names_Keyword_eq, headB]
    cases isSmall (c.toNat : Int) <;> simp
  · simp [h]
theorem names_name_eq (s : Str) (hs : Lim s) : names_name s = some (isName s) := by
  unfold names_name isName
  rw [names_name_J1_eq]
  simp only [Option.bind_some]
  by_cases h : (sized s && headB isSmall s && !kwd s) = true
  · have hs1 : sized s = true := by revert h; cases sized s <;> simp
    obtain ⟨c, r, rfl⟩ := sized_pos hs1
    have hc : isSmall (c.toNat : Int) = true := by revert h; simp [headB]; intro _ h _; exact h
    have hL := names_name_L2_eq (c :: r) hs 1 (by simp)
    simp only [Int.ofNat_one] at hL
    rw [h, hL]
    simp only [List.drop_succ_cons, List.drop_zero, List.all_cons, smallWord hc, Bool.true_and]
    rw [List.any_eq_not_all_not]
    simp only [Bool.not_not]
    cases r.all wordB <;> simp
  · simp [h]
theorem names_Check_eq (s : Str) (hs : Lim s) : names_Check s = some (errno (isName s)) := by
  unfold names_Check
  rw [names_name_eq s hs]
  simp [names_errno_eq]

theorem R04_Check_J1_eq (s : Str) : R04_Check_J1 s = some (!(sized s && headB isSmall s && !kwd s)) := by
  unfold R04_Check_J1 sized
  cases s with
  | nil => simp
  | cons c r =>
    have h1 : ¬ (((c :: r).length : Int) < 1) := by simp; omega
    have h2 : (((c :: r).length : Int) ≥ 1) := by omega
    simp only [h1, h2, decide_false, decide_true, Bool.true_and, Bool.false_eq_true, if_false, idxS_zero, Option.bind_some, R04_small_eq, R04_Keyword_eq, headB]
    by_cases h : (((c :: r).length : Int) > 24)
    · have h' : ¬ (((c :: r).length : Int) ≤ 24) := by omega
      simp only [h, h', decide_true, decide_false, if_true]
      simp
    · have h' : (((c :: r).length : Int) ≤ 24) := by omega
      simp only [h, h', decide_true, decide_false, if_false, Bool.false_eq_true]
      cases isSmall (c.toNat : Int) <;> simp
theorem R04_Check_eq (s : Str) (hs : Lim s) : R04_Check s = some (errno (isName s)) := by
  unfold R04_Check
  rw [R04_Check_J1_eq, R04_Check_L2_eq s hs]
  unfold isName errno
  cases (sized s && headB isSmall s && !kwd s) with
  | false => simp
  | true =>
    simp only [Option.bind_some, Bool.not_true, Bool.false_eq_true, if_false, Bool.true_and]
    rw [List.any_eq_not_all_not]
    simp only [Bool.not_not]
    cases s.all wordB <;> simp

/-! titles -/
theorem names_alphanumeric_J2_eq (s : Str) (i : Nat) (h : i < s.length) : names_alphanumeric_J2 s i = some (!alnumB s[i]) := by
  unfold names_alphanumeric_J2 alnumB
  simp only [idxS_nat s i h, Option.bind_some, names_small_eq, names_capital_eq, names_digit_eq]
  cases isSmall (s[i].toNat : Int) <;> cases isCap (s[i].toNat : Int) <;> simp
theorem R04_Title_J3_eq (s : Str) (i : Nat) (h : i < s.length) : R04_Title_J3 s i = some (!alnumB s[i]) := by
  unfold R04_Title_J3 alnumB
  simp only [idxS_nat s i h, Option.bind_some, R04_small_eq, R04_capital_eq, R04_digit_eq]
  cases isSmall (s[i].toNat : Int) <;> cases isCap (s[i].toNat : Int) <;> simp
theorem names_alphanumeric_eq (s : Str) (hs : Lim s) : names_alphanumeric s = some (s.all alnumB) := by
  unfold names_alphanumeric names_alphanumeric_L1
  have := loop_any s hs (fun zz => names_alphanumeric_L1_b s zz) (fun b => !alnumB b) (.inl ()) (.inr ()) (fun j h => by
    simp only [names_alphanumeric_L1_b]
    rw [if_pos (by simp; omega), names_alphanumeric_J2_eq s j h]
    simp only [Option.bind_some]
    split <;> simp_all) (by simp only [names_alphanumeric_L1_b]; rw [if_neg (by simp)]) 0 (Nat.zero_le _)
  simp only [Int.ofNat_zero, List.drop_zero] at this
  rw [this, List.any_eq_not_all_not]
  simp only [Bool.not_not]
  cases s.all alnumB <;> rfl
theorem names_title_J1_eq (s : Str) (hs : Lim s) : names_title_J1 s = some (!(sized s && headB isCap s && s.all alnumB)) := by
  unfold names_title_J1
  rw [names_sized_eq]
  simp only [Option.bind_some]
  by_cases h : sized s = true
  · obtain ⟨c, r, rfl⟩ := sized_pos h
    simp only [h, idxS_zero, Option.bind_some, names_capital_eq, names_alphanumeric_eq _ hs, headB]
    cases isCap (c.toNat : Int) <;> simp
  · simp [h]
theorem names_title_eq (s : Str) (hs : Lim s) : names_title s = some (isTitle s) := by
  unfold names_title isTitle
  rw [names_title_J1_eq s hs]
  simp only [Option.bind_some]
  cases (sized s && headB isCap s && s.all alnumB) <;> cases (s == [73, 110, 116]) <;> cases (s == [66, 111, 111, 108]) <;> cases (s == [67, 101, 108, 108]) <;> cases (s == [70, 117, 110]) <;> rfl
theorem names_Title_eq (s : Str) (hs : Lim s) : names_Title s = some (errno (isTitle s)) := by
  unfold names_Title
  rw [names_title_eq s hs]
  simp [names_errno_eq]
theorem R04_Title_J1_eq (s : Str) : R04_Title_J1 s = some (!(sized s && headB isCap s && !(s == [73, 110, 116]) && !(s == [66, 111, 111, 108]) && !(s == [67, 101, 108, 108]) && !(s == [70, 117, 110]))) := by
  unfold R04_Title_J1 sized
  cases s with
  | nil => simp
  | cons c r =>
    have h1 : ¬ (((c :: r).length : Int) < 1) := by simp; omega
    have h2 : (((c :: r).length : Int) ≥ 1) := by omega
    simp only [h1, h2, decide_false, decide_true, Bool.true_and, Bool.false_eq_true, if_false, idxS_zero, Option.bind_some, R04_capital_eq, headB]
    by_cases h : (((c :: r).length : Int) > 24)
    · have h' : ¬ (((c :: r).length : Int) ≤ 24) := by omega
      simp only [h, h', decide_true, decide_false, if_true]
      simp
    · have h' : (((c :: r).length : Int) ≤ 24) := by omega
      simp only [h, h', decide_true, decide_false, if_false, Bool.false_eq_true]
      cases isCap (c.toNat : Int) <;> cases (c :: r == [73, 110, 116]) <;> cases (c :: r == [66, 111, 111, 108]) <;> cases (c :: r == [67, 101, 108, 108]) <;> cases (c :: r == [70, 117, 110]) <;> rfl
theorem R04_Title_L2_eq (s : Str) (hs : Lim s) : R04_Title_L2 s s.length 0 = some (if s.any (fun b => !alnumB b) = true then .inl () else .inr ()) := by
  unfold R04_Title_L2
  have := loop_any s hs (fun zz => R04_Title_L2_b s s.length zz) (fun b => !alnumB b) (.inl ()) (.inr ()) (fun j h => by
    simp only [R04_Title_L2_b]
    rw [if_pos (by simp; omega), R04_Title_J3_eq s j h]
    simp only [Option.bind_some]
    split <;> simp_all) (by simp only [R04_Title_L2_b]; rw [if_neg (by simp)]) 0 (Nat.zero_le _)
  simpa using this
theorem R04_Title_eq (s : Str) (hs : Lim s) : R04_Title s = some (errno (isTitle s)) := by
  unfold R04_Title
  rw [R04_Title_J1_eq, R04_Title_L2_eq s hs]
  unfold isTitle errno
  rw [List.any_eq_not_all_not]
  simp only [Bool.not_not]
  cases (sized s && headB isCap s) <;> cases s.all alnumB <;> cases (s == [73, 110, 116]) <;> cases (s == [66, 111, 111, 108]) <;> cases (s == [67, 101, 108, 108]) <;> cases (s == [70, 117, 110]) <;> rfl
end Go.Proofs.YtgiimiklbabhcaaDoor
