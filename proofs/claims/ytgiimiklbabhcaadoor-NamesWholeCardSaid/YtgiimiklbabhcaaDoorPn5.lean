/-
  WHAT IS PROVED: the seat's six laws, as plain functions, answer true. Conditions: texts and lists of less than 2^63.
-/
import Derived.Test.YtgiimiklbabhcaaDoorPn4
namespace Go.Proofs.YtgiimiklbabhcaaDoor
open Go
set_option linter.unusedSimpArgs false
set_option linter.unusedVariables false

abbrev B63 (n : Nat) : Prop := n < 9223372036854775808

theorem law_Kinds (s : Str) (hs : B63 s.length) : W04_NamesKinds s = some true := by
  unfold W04_NamesKinds
  have hl : Lim s := show _ < _ by omega
  rw [alive_eq, names_Keyword_eq, R04_Keyword_eq, names_Check_eq s hl, R04_Check_eq s hl, names_Title_eq s hl, R04_Title_eq s hl, names_Core_eq, R04_Core_eq]
  simp

theorem law_Fresh (used : List Str) (base : Str) (h1 : B63 used.length) (h2 : base.length ≤ 4000000000000000000) : W04_NamesFresh used base = some true := by
  unfold W04_NamesFresh
  rw [alive_eq, W04_few_eq used (show _ < _ by omega)]
  simp only [Option.bind_some]
  by_cases hf : few used = true
  · obtain ⟨f1, f2, f3⟩ := Fresh_eq used base (few_len hf).1 (by omega)
    rw [f1, f2]
    have hn := names_Find_eq used (freshS used base) (by omega)
    simp only [hf, Bool.not_true, Bool.false_eq_true, if_false, Option.bind_some, beq_self_eq_true, if_true, hn]
    have : findI used (freshS used base) = -1 := by
      unfold findI
      have : used.findIdx? (fun x => x == freshS used base) = none := by
        rw [List.findIdx?_eq_none_iff]
        intro x hx
        rw [beq_eq_false_iff_ne]
        rintro rfl
        exact f3 hx
      rw [this]
    rw [this]
    rfl
  · simp [hf]

theorem law_Lists (a : List Str) (s : Str) (h1 : B63 a.length) : W04_NamesLists a s = some true := by
  unfold W04_NamesLists
  rw [alive_eq, W04_few_eq a (show _ < _ by omega), names_Find_eq a s (by omega), R04_Find_eq a s (by omega), names_Distinct_eq a (show _ < _ by omega), R04_Distinct_eq a (show _ < _ by omega)]
  cases few a <;> simp

theorem Union_J1_eq (a b : List Str) (ha : LimL a) (hb : LimL b) : W04_NamesUnion_J1 a b = some (!(few a && few b)) := by
  unfold W04_NamesUnion_J1
  rw [W04_few_eq a ha, W04_few_eq b hb]
  cases few a <;> simp
theorem turned_eq (a : List Str) (ha : a.length ≤ 1000) : W04_NamesUnion_L2 a a.length [] 0 = some a.reverse := by
  unfold W04_NamesUnion_L2
  have hr : a.reverse.length = a.length := List.length_reverse
  have := loop_run a.reverse (by omega) (fun i (out : List Str) => (out, i)) (fun zz => W04_NamesUnion_L2_b a a.length zz.1 zz.2) (fun i out => out.length = i) (fun _ x out => (Sum.inl (out ++ [x]) : List Str ⊕ List Str)) (fun o => o) (fun i hi out hI => by
    refine ⟨?_, fun s' hs' => by cases hs'; simp; omega⟩
    simp only [W04_NamesUnion_L2_b]
    have e : w64 (w64 ((a.length : Int) - 1) - (i : Int)) = ((a.length - 1 - i : Nat) : Int) := by
      rw [w64_eq (n := (a.length : Int) - 1) (by omega) (by omega), w64_eq (by omega) (by omega)]
      omega
    rw [if_pos (by simp; omega), e, idx_nat _ _ (by omega)]
    simp only [Option.bind_some]
    rw [app_eq (by simp; omega), List.getElem_reverse]
    rfl) (fun out _ => by simp only [W04_NamesUnion_L2_b]; rw [if_neg (by simp)]) 0 [] (Nat.zero_le _) rfl
  simp only [Int.ofNat_zero, List.drop_zero] at this
  rw [runL_fold (fun (o : List Str) x => o ++ [x])] at this
  rw [this]
  have : ∀ (l o : List Str), l.foldl (fun (o : List Str) x => o ++ [x]) o = o ++ l := by
    intro l
    induction l with
    | nil => simp
    | cons x l ih => intro o; simp [ih]
  rw [this]
  rfl
theorem law_Union (a b : List Str) (h1 : B63 a.length) (h2 : B63 b.length) : W04_NamesUnion a b = some true := by
  unfold W04_NamesUnion
  rw [alive_eq, Union_J1_eq a b (show _ < _ by omega) (show _ < _ by omega)]
  simp only [Option.bind_some]
  by_cases hf : (few a && few b) = true
  · simp only [Bool.and_eq_true] at hf
    have ha := (few_len hf.1).1
    have hb := (few_len hf.2).1
    have hr : a.reverse.length = a.length := List.length_reverse
    rw [names_Union_eq a b (by omega), turned_eq a (by omega), R04_Union_eq a b (by omega) (by omega)]
    obtain ⟨u1, u2⟩ := setU_facts a b
    obtain ⟨v1, v2⟩ := setU_facts b a.reverse
    have e : setU b a.reverse = setU a b := inc_unique v1 u1 fun x => by rw [u2, v2, List.mem_reverse, or_comm]
    have hl : (setU a b).length < 9223372036854775808 := by
      have h := compact_len (sortS (a ++ b))
      have h3 := sortS_length (a ++ b)
      simp only [List.length_append] at h3
      show (Lib.compact (sortS (a ++ b))).length < _
      omega
    have hs := R04_Same_eq (setU a b) (setU a b) hl
    have hu := names_Union_eq b a.reverse (by omega)
    simp only [hf.1, hf.2, Bool.and_self, Bool.not_true, Bool.false_eq_true, if_false, Option.bind_some, hs, hu, e, beq_self_eq_true, if_true]
  · have : (few a && few b) = false := by simpa using hf
    simp [this]

/-! NamesWhole -/
theorem Whole_J1_eq (a b : List Str) (ha : LimL a) (hb : LimL b) : W04_NamesWhole_J1 a b = some (!(few a && few b)) := by
  unfold W04_NamesWhole_J1
  rw [W04_few_eq a ha, W04_few_eq b hb]
  cases few a <;> simp
theorem find_in {l : List Str} {s : Str} (h : s ∈ l) : decide (findI l s < 0) = false := by
  rw [findI_neg]
  simp
  exact h
theorem Whole_J3_eq (a b u : List Str) (ha : LimL a) (hb : LimL b) (hu : Inc u) (hl : LimL u) (hm : ∀ x ∈ u, x ∈ a ∨ x ∈ b) (i : Nat) (hi : i < u.length) : W04_NamesWhole_J3 a b u i = some false := by
  unfold W04_NamesWhole_J3
  have hl' : u.length < 9223372036854775808 := hl
  have tail : ∀ {x : Str}, x ∈ u → ((some x).bind fun x13 => (names_Find a x13).bind fun r14 => if decide (r14 < 0) = true then (some x).bind fun x16 => (names_Find b x16).bind fun r17 => some (decide (r17 < 0)) else some false) = some false := by
    intro x hx
    have e1 := names_Find_eq a x ha
    have e2 := names_Find_eq b x hb
    simp only [Option.bind_some, e1, e2]
    rcases hm x hx with h | h
    · rw [find_in h]; rfl
    · rw [find_in h]; split <;> rfl
  have hx : u[i] ∈ u := List.getElem_mem hi
  by_cases h0 : (i : Int) > 0
  · have e : w64 ((i : Int) - 1) = ((i - 1 : Nat) : Int) := by rw [w64_eq (by omega) (by omega)]; omega
    have hlt : Op.bytesLess u[i - 1] u[i] = true := (List.pairwise_iff_getElem.1 hu) (i - 1) i (by omega) hi (by omega)
    rw [if_pos (by simpa using h0), e, idx_nat _ _ (show i - 1 < u.length by omega), idx_nat _ _ hi]
    have := tail hx
    simp only [Option.bind_some] at this
    simp only [Option.bind_some, hlt, Bool.not_true, Bool.false_eq_true, if_false]
    exact this
  · rw [if_neg (by simpa using h0), idx_nat _ _ hi]
    exact tail hx
theorem inc_nodup {l : List Str} (h : Inc l) : l.Nodup := by
  refine List.Pairwise.imp ?_ h
  rintro a b hab rfl
  unfold blt at hab
  rw [bl_irrefl] at hab
  cases hab
theorem law_Whole (a b : List Str) (h1 : B63 a.length) (h2 : B63 b.length) : W04_NamesWhole a b = some true := by
  unfold W04_NamesWhole
  rw [alive_eq, Whole_J1_eq a b (show _ < _ by omega) (show _ < _ by omega)]
  simp only [Option.bind_some]
  by_cases hf : (few a && few b) = true
  · have hf' := hf
    simp only [Bool.and_eq_true] at hf
    have ha := (few_len hf.1).1
    have hb := (few_len hf.2).1
    obtain ⟨u1, u2⟩ := setU_facts a b
    have hl : (setU a b).length < 9223372036854775808 := by
      have h := compact_len (sortS (a ++ b))
      have h3 := sortS_length (a ++ b)
      simp only [List.length_append] at h3
      show (Lib.compact (sortS (a ++ b))).length < _
      omega
    have t1 := loop_any (setU a b) hl (fun zz => W04_NamesWhole_L2_b a b (setU a b) (setU a b).length zz) (fun _ => false) (.inl ()) (.inr ()) (fun i hi => by
      simp only [W04_NamesWhole_L2_b]
      rw [if_pos (by simp; omega), Whole_J3_eq a b (setU a b) (show _ < _ by omega) (show _ < _ by omega) u1 hl (fun x hx => (u2 x).1 hx) i hi]
      rfl) (by simp only [W04_NamesWhole_L2_b]; rw [if_neg (by simp)]) 0 (Nat.zero_le _)
    have t2 := loop_any (a ++ b) (by simp; omega) (fun zz => W04_NamesWhole_L4_b (setU a b) (a ++ b) (a ++ b).length zz) (fun x => decide (findI (setU a b) x < 0)) (.inl ()) (.inr ()) (fun i hi => by
      simp only [W04_NamesWhole_L4_b]
      rw [if_pos (by simp; simp at hi; omega), idx_nat _ i hi]
      simp only [Option.bind_some, names_Find_eq _ _ hl]
      split <;> simp_all) (by simp only [W04_NamesWhole_L4_b]; rw [if_neg (by simp)]) 0 (Nat.zero_le _)
    have hany : ((a ++ b).any fun x => decide (findI (setU a b) x < 0)) = false := by
      rw [List.any_eq_false]
      intro x hx
      rw [find_in]
      · simp
      · rw [u2]; simpa using hx
    have hfalse : ((setU a b).any fun _ => false) = false := by rw [List.any_eq_false]; simp
    simp only [Int.ofNat_zero, List.drop_zero, hfalse, hany, Bool.false_eq_true, if_false] at t1 t2
    rw [hf', names_Union_eq a b (by omega), app_eq (by simp; omega)]
    unfold W04_NamesWhole_L2 W04_NamesWhole_L4
    have e3 : app a b = some (a ++ b) := app_eq (by omega)
    have e4 := names_Distinct_eq (setU a b) hl
    simp only [Bool.not_true, Bool.false_eq_true, if_false, Option.bind_some, t1, List.nil_append, e3, t2, e4, inc_nodup u1, decide_true, if_true]
  · have : (few a && few b) = false := by simpa using hf
    simp [this]

/-! NamesApart -/
theorem small_not_cap {c : Int} (h : isSmall c = true) : isCap c = false := by
  unfold isSmall at h
  unfold isCap
  simp only [Bool.and_eq_true, decide_eq_true_eq] at h
  simp
  omega
theorem name_not_title {s : Str} (h : isName s = true) : isTitle s = false := by
  unfold isName at h
  unfold isTitle
  cases s with
  | nil => simp [sized] at h
  | cons c r =>
    simp only [Bool.and_eq_true, headB] at h
    have := small_not_cap h.1.1.2
    simp [headB, this]
theorem kwd_apart {s : Str} (h : kwd s = true) : isName s = false ∧ isTitle s = false ∧ isCore s = false := by
  refine ⟨by unfold isName; simp [h], ?_⟩
  have hall : (names_keywords.all fun k => !isTitle k && !isCore k) = true := by kernel_rfl
  unfold kwd at h
  rw [List.any_eq_true] at h
  obtain ⟨k, hk, e⟩ := h
  have e' : k = s := by simpa using e
  subst e'
  have := List.all_eq_true.1 hall k hk
  simpa using this
theorem dots_one {s : Str} (h : s.all (fun c => !(c == 46)) = true) : dots s = [s] := by
  have := dots_app s [] h
  rw [List.append_nil] at this
  rw [this]
  simp [dots, preD]
theorem not_dot {p : UInt8 → Bool} (hp : p 46 = false) {s : Str} (h : s.all p = true) : s.all (fun c => !(c == 46)) = true := by
  rw [List.all_eq_true] at h ⊢
  intro c hc
  have := h c hc
  cases hd : (c == 46) with
  | false => rfl
  | true =>
    have e : c = 46 := by simpa using hd
    rw [e, hp] at this
    cases this
theorem sized_len {s : Str} (h : sized s = true) : s.length ≤ 120 := by
  unfold sized at h
  simp only [Bool.and_eq_true, decide_eq_true_eq] at h
  omega
theorem name_core {s : Str} (h : isName s = true) : isCore s = true := by
  have h' := h
  unfold isName at h'
  simp only [Bool.and_eq_true] at h'
  rw [isCore_cons (sized_len h'.1.1.1) (dots_one (not_dot (p := wordB) (by decide) h'.2)), h]
  rfl
theorem title_core {s : Str} (h : isTitle s = true) : isCore s = true := by
  have h' := h
  unfold isTitle at h'
  simp only [Bool.and_eq_true] at h'
  rw [isCore_cons (sized_len h'.1.1.1.1.1.1) (dots_one (not_dot (p := alnumB) (by decide) h'.1.1.1.1.2)), h]
  simp
theorem dots_glue : ∀ (s t : Str), dots (s ++ 46 :: t) = dots s ++ dots t
  | [], t => by
    rw [List.nil_append]
    conv => lhs; unfold dots
    simp [dots]
  | c :: s, t => by
    have ih := dots_glue s t
    rw [List.cons_append]
    by_cases h : (c == 46) = true
    · conv => lhs; unfold dots
      conv => rhs; arg 1; unfold dots
      rw [if_pos h, if_pos h, ih]
      rfl
    · rw [dots_cons _ _ h, dots_cons _ _ h, ih]
      cases hd : dots s with
      | nil => exact absurd hd (dots_ne s)
      | cons => rfl
theorem core_glue {s t : Str} (h : isCore s = true) (hl : s.length + t.length + 1 ≤ 120) : isCore (s ++ 46 :: t) = (dots t).all fun x => isPart x := by
  have hs : s.length ≤ 120 := by omega
  cases hd : dots s with
  | nil => exact absurd hd (dots_ne s)
  | cons f r =>
    rw [isCore_cons hs hd] at h
    have hd2 : dots (s ++ 46 :: t) = f :: (r ++ dots t) := by rw [dots_glue, hd]; rfl
    rw [isCore_cons (by simp; omega) hd2]
    have h1 : (isName f || isTitle f || (f == [118] && !r.isEmpty)) = true := by
      cases hb : (isName f || isTitle f || (f == [118] && !r.isEmpty)) with
      | true => rfl
      | false => rw [hb] at h; cases h
    simp only [Bool.and_eq_true] at h
    have he : (r ++ dots t).isEmpty = false := by
      cases ht : dots t with
      | nil => exact absurd ht (dots_ne t)
      | cons => simp
    rw [he, List.all_append, h.2]
    have : (isName f || isTitle f || f == [118] && !false) = true := by
      revert h1
      cases isName f <;> cases isTitle f <;> cases (f == [118]) <;> cases r.isEmpty <;> decide
    rw [this]
    simp
theorem law_Apart (s : Str) (hs : B63 s.length) : W04_NamesApart s = some true := by
  unfold W04_NamesApart
  have hl : Lim s := show _ < _ by omega
  rw [alive_eq, names_Check_eq s hl, names_Title_eq s hl, names_Core_eq]
  simp only [Option.bind_some]
  by_cases h : (s.length : Int) > 10000
  · simp [h]
  · have e0 : ∀ b, (errno b == 0) = b := by intro b; cases b <;> rfl
    have hj : W04_NamesApart_J1 s (isName s) (isTitle s) (isCore s) = some false := by
      unfold W04_NamesApart_J1
      rw [names_Keyword_eq]
      by_cases hk : kwd s = true
      · obtain ⟨k1, k2, k3⟩ := kwd_apart hk
        simp [k1, k2, k3, hk]
      · by_cases hn : isName s = true
        · simp [hn, name_not_title hn, name_core hn, hk]
        · by_cases ht : isTitle s = true
          · simp [hn, ht, title_core ht, hk]
          · simp [hn, ht, hk]
    simp only [h, decide_false, Bool.false_eq_true, if_false, e0, hj, Option.bind_some]
    by_cases hc : isCore s = true
    · simp only [hc, Bool.not_true, Bool.false_eq_true, if_false]
      by_cases h2 : (s.length : Int) > 118
      · simp [h2]
      · have c1 : cat s [46, 97] = some (s ++ [46, 97]) := cat_eq (by simp; omega)
        have c2 : cat s [46] = some (s ++ [46]) := cat_eq (by simp; omega)
        have c3 : cat s [46, 95] = some (s ++ [46, 95]) := cat_eq (by simp; omega)
        have g1 : isCore (s ++ [46, 97]) = true := by rw [core_glue (t := [97]) hc (by simp; omega)]; decide
        have g2 : isCore (s ++ [46]) = false := by rw [core_glue (t := []) hc (by simp; omega)]; decide
        have g3 : isCore (s ++ [46, 95]) = false := by rw [core_glue (t := [95]) hc (by simp; omega)]; decide
        simp only [h2, decide_false, Bool.false_eq_true, if_false, c1, c2, c3, Option.bind_some, names_Core_eq, g1, g2, g3]
        rfl
    · simp [hc]
end Go.Proofs.YtgiimiklbabhcaaDoor
