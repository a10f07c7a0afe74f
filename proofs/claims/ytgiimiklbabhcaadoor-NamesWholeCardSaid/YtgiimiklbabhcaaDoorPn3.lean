/-
  WHAT IS PROVED: what the plain functions about fresh names, lists of names and sets come to, and that names and liquidcheckref04 agree on them. Conditions: texts and lists of less than 2^30.
-/
import Derived.Test.YtgiimiklbabhcaaDoorPn2
namespace Go.Proofs.YtgiimiklbabhcaaDoor
open Go
set_option linter.unusedSimpArgs false
set_option linter.unusedVariables false

theorem mget_mput {α : Type} (k : Str) (v : α) (j : Str) : ∀ (m : List (Str × α)), mget (mput m k v) j = if (j == k) = true then some v else mget m j
  | [] => by
    simp only [mput, mget, List.find?_cons, List.find?_nil]
    cases (j == k) <;> rfl
  | e :: r => by
    have ih := mget_mput k v j r
    unfold mput
    by_cases h : (k == e.1) = true
    · have h' : k = e.1 := by simpa using h
      rw [if_pos h]
      unfold mget
      simp only [List.find?_cons]
      rw [← h']
      cases hj : (j == k) <;> simp
    · rw [if_neg h]
      unfold mget at ih ⊢
      simp only [List.find?_cons]
      cases hj : (j == e.1)
      · simpa using ih
      · have : ¬ (j == k) = true := fun hk => h (by have h1 : j = e.1 := by simpa using hj
                                                    have h2 : j = k := by simpa using hk
                                                    simp [← h1, ← h2])
        simp [this]
abbrev mhas (m : List (Str × Bool)) (k : Str) : Bool := (mget m k).getD false
theorem mhas_put (m : List (Str × Bool)) (k j : Str) : mhas (mput m k true) j = (j == k || mhas m j) := by
  unfold mhas
  rw [mget_mput]
  cases (j == k) <;> rfl

/-! few, Same, Distinct -/
def few (a : List Str) : Bool := !(a.any fun x => decide ((x.length : Int) > 300)) && decide ((a.length : Int) ≤ 300)
abbrev LimL (a : List Str) : Prop := a.length < 9223372036854775808
theorem W04_few_eq (a : List Str) (ha : LimL a) : W04_few a = some (few a) := by
  unfold W04_few W04_few_L1
  have := loop_any a ha (fun zz => W04_few_L1_b a a.length zz) (fun x => decide ((x.length : Int) > 300)) (.inl ()) (.inr ()) (fun i h => by
    simp only [W04_few_L1_b]
    rw [if_pos (by simp; omega), idx_nat _ i h]
    simp only [Option.bind_some]
    split <;> rfl) (by simp only [W04_few_L1_b]; rw [if_neg (by simp)]) 0 (Nat.zero_le _)
  simp only [Int.ofNat_zero, List.drop_zero] at this
  rw [this]
  unfold few
  cases (a.any fun x => decide ((x.length : Int) > 300)) <;> simp
theorem few_len {a : List Str} (h : few a = true) : a.length ≤ 300 ∧ ∀ x ∈ a, x.length ≤ 300 := by
  unfold few at h
  simp only [Bool.and_eq_true, Bool.not_eq_true', List.any_eq_false, decide_eq_true_eq] at h
  exact ⟨by omega, fun x hx => by have := h.1 x hx; omega⟩

theorem same_run : ∀ (b : List Str) (l : List Str) (i : Nat), i + l.length = b.length → runL (fun i x (_ : Unit) => if (!(x == b.getD i [])) = true then (Sum.inr (Sum.inl ()) : Unit ⊕ (Unit ⊕ Unit)) else .inl ()) (fun _ => .inr ()) l i () = if (l == b.drop i) = true then .inr () else .inl ()
  | b, [], i, h => by
    have : b.drop i = [] := by simp at h; simp; omega
    simp [runL, this]
  | b, x :: l, i, h => by
    have hi : i < b.length := by simp at h; omega
    have ih := same_run b l (i + 1) (by simp at h; omega)
    unfold runL
    rw [List.drop_eq_getElem_cons hi]
    have e : b.getD i [] = b[i] := by simp [List.getD_eq_getElem?_getD, hi]
    rw [e, show (x :: l == b[i] :: b.drop (i + 1)) = (x == b[i] && l == b.drop (i + 1)) from rfl]
    by_cases hx : (x == b[i]) = true
    · simp only [hx, Bool.not_true, Bool.false_eq_true, if_false, ih, Bool.true_and]
    · rw [Bool.not_eq_true] at hx
      simp only [hx, Bool.not_false, if_true, Bool.false_and, Bool.false_eq_true, if_false]
theorem R04_Same_eq (a b : List Str) (ha : LimL a) : R04_Same a b = some (a == b) := by
  unfold R04_Same R04_Same_L1
  by_cases h : a.length = b.length
  · have h1 : ((a.length : Int) != b.length) = false := by simp [h]
    rw [h1]
    have := loop_run a ha (fun i (_ : Unit) => i) (fun zz => R04_Same_L1_b a b a.length zz) (fun _ _ => True) (fun i x (_ : Unit) => if (!(x == b.getD i [])) = true then (Sum.inr (Sum.inl ()) : Unit ⊕ (Unit ⊕ Unit)) else .inl ()) (fun _ => .inr ()) (fun i hi t _ => ⟨by
      simp only [R04_Same_L1_b]
      rw [if_pos (by simp; omega), idx_nat _ i hi, idx_nat _ i (by omega)]
      have e : b.getD i [] = b[i]'(by omega) := by simp [List.getD_eq_getElem?_getD, (show i < b.length by omega)]
      simp only [Option.bind_some, e]
      split <;> rfl, fun _ _ => trivial⟩) (fun _ _ => by simp only [R04_Same_L1_b]; rw [if_neg (by simp)]) 0 () (Nat.zero_le _) trivial
    simp only [Int.ofNat_zero, List.drop_zero] at this
    simp only [Bool.false_eq_true, if_false, this]
    rw [same_run b a 0 (by omega), List.drop_zero]
    cases (a == b) <;> rfl
  · have h1 : ((a.length : Int) != b.length) = true := by simp; omega
    have h2 : (a == b) = false := by
      rw [beq_eq_false_iff_ne]
      rintro rfl
      exact h rfl
    simp [h1, h2]

theorem dist_run : ∀ (l : List Str) (i : Nat) (m : List (Str × Bool)) (pre : List Str), (∀ k, mhas m k = pre.contains k) → pre.Nodup →
    ∃ m', runL (fun _ x (m : List (Str × Bool)) => if mhas m x = true then (Sum.inr (Sum.inl m) : List (Str × Bool) ⊕ (List (Str × Bool) ⊕ List (Str × Bool))) else .inl (mput m x true)) (fun m => .inr m) l i m = if (pre ++ l).Nodup then .inr m' else .inl m'
  | [], i, m, pre, _, hn => ⟨m, by simp [runL, hn]⟩
  | x :: l, i, m, pre, hm, hn => by
    unfold runL
    by_cases hx : mhas m x = true
    · have hin : x ∈ pre := by rw [hm] at hx; simpa using hx
      have : ¬ (pre ++ x :: l).Nodup := by
        rw [List.nodup_append]
        intro h
        exact h.2.2 x hin x (by simp) rfl
      exact ⟨m, by simp [hx, this]⟩
    · have hout : ¬ x ∈ pre := by rw [hm] at hx; simpa using hx
      obtain ⟨m', hm'⟩ := dist_run l (i + 1) (mput m x true) (pre ++ [x]) (fun k => by
        rw [mhas_put, hm]
        rw [Bool.eq_iff_iff]
        simp [or_comm]) (by
        rw [List.nodup_append]
        refine ⟨hn, by simp, fun a ha b hb => ?_⟩
        simp at hb
        subst hb
        rintro rfl
        exact hout ha)
      rw [List.append_assoc] at hm'
      exact ⟨m', by simpa [hx] using hm'⟩
theorem names_Distinct_eq (a : List Str) (ha : LimL a) : names_Distinct a = some (decide a.Nodup) := by
  unfold names_Distinct names_Distinct_L1
  have := loop_run a ha (fun i (m : List (Str × Bool)) => (i, m)) (fun zz => names_Distinct_L1_b a a.length zz.1 zz.2) (fun _ _ => True) (fun _ x (m : List (Str × Bool)) => if mhas m x = true then (Sum.inr (Sum.inl m) : List (Str × Bool) ⊕ (List (Str × Bool) ⊕ List (Str × Bool))) else .inl (mput m x true)) (fun m => .inr m) (fun i hi t _ => ⟨by
      simp only [names_Distinct_L1_b]
      rw [if_pos (by simp; omega), idx_nat _ i hi]
      simp only [Option.bind_some]
      unfold mhas
      split <;> rfl, fun _ _ => trivial⟩) (fun _ _ => by simp only [names_Distinct_L1_b]; rw [if_neg (by simp)]) 0 [] (Nat.zero_le _) trivial
  simp only [Int.ofNat_zero, List.drop_zero] at this
  rw [this]
  obtain ⟨m', hm'⟩ := dist_run a 0 [] [] (fun k => by simp [mhas, mget]) (by simp)
  rw [List.nil_append] at hm'
  rw [hm']
  by_cases h : a.Nodup <;> simp [h]

theorem runL_allI {α X : Type} (p : Nat → α → Bool) (y e : X) : ∀ (l : List α) (i : Nat), runL (fun i x (_ : Unit) => if p i x = true then Sum.inr y else .inl ()) (fun _ => e) l i () = if (∀ (j : Nat) (h : j < l.length), p (i + j) l[j] = false) then e else y
  | [], i => by simp [runL]
  | x :: l, i => by
    have ih := runL_allI p y e l (i + 1)
    unfold runL
    by_cases h : p i x = true
    · rw [if_pos h]
      simp only
      rw [if_neg]
      intro h2
      have := h2 0 (by simp)
      simp [h] at this
    · rw [if_neg h]
      simp only [ih]
      congr 1
      rw [eq_iff_iff]
      constructor
      · intro h2 j hj
        cases j with
        | zero => simpa using h
        | succ j =>
          have := h2 j (by simpa using hj)
          rw [show i + (j + 1) = i + 1 + j by omega]
          simpa using this
      · intro h2 j hj
        have := h2 (j + 1) (by simpa using hj)
        rw [show i + (j + 1) = i + 1 + j by omega] at this
        simpa using this
theorem findI_first {l : List Str} {s : Str} {j : Nat} (h : findI l s = (j : Int)) : ∃ hj : j < l.length, l[j] = s ∧ ∀ i (hi : i < j), l[i] ≠ s := by
  unfold findI at h
  cases hf : l.findIdx? (fun x => x == s) with
  | none => rw [hf] at h; simp only at h; omega
  | some k =>
    rw [hf] at h
    have : k = j := by simp only at h; omega
    subst this
    rw [List.findIdx?_eq_some_iff_getElem] at hf
    obtain ⟨h1, h2, h3⟩ := hf
    exact ⟨h1, by simpa using h2, fun i hi => by simpa using h3 i hi⟩
theorem findI_of {l : List Str} {j : Nat} (hj : j < l.length) (h : ∀ i (hi : i < j), l[i] ≠ l[j]) : findI l l[j] = (j : Int) := by
  have : l.findIdx? (fun x => x == l[j]) = some j := by
    rw [List.findIdx?_eq_some_iff_getElem]
    exact ⟨hj, by simp, fun i hi => by simpa using h i hi⟩
  unfold findI
  rw [this]
theorem R04_Distinct_eq (a : List Str) (ha : LimL a) : R04_Distinct a = some (decide a.Nodup) := by
  unfold R04_Distinct R04_Distinct_L1
  have := loop_run a ha (fun i (_ : Unit) => i) (fun zz => R04_Distinct_L1_b a a.length zz) (fun _ _ => True) (fun i x (_ : Unit) => if (findI a x != (i : Int)) = true then (Sum.inr (Sum.inl ()) : Unit ⊕ (Unit ⊕ Unit)) else .inl ()) (fun _ => .inr ()) (fun i hi t _ => ⟨by
      simp only [R04_Distinct_L1_b]
      rw [if_pos (by simp; omega), idx_nat _ i hi]
      simp only [Option.bind_some, R04_Find_eq _ _ ha]
      split <;> rfl, fun _ _ => trivial⟩) (fun _ _ => by simp only [R04_Distinct_L1_b]; rw [if_neg (by simp)]) 0 () (Nat.zero_le _) trivial
  simp only [Int.ofNat_zero, List.drop_zero] at this
  rw [this, runL_allI]
  have key : (∀ (j : Nat) (h : j < a.length), (findI a a[j] != ((0 + j : Nat) : Int)) = false) ↔ a.Nodup := by
    simp only [Nat.zero_add, bne_eq_false_iff_eq]
    constructor
    · intro h
      unfold List.Nodup
      rw [List.pairwise_iff_getElem]
      intro i j hi hj hij e
      have h1 := h i hi
      have h2 := h j hj
      rw [e] at h1
      omega
    · intro h j hj
      refine findI_of hj fun i hi e => ?_
      have := (List.pairwise_iff_getElem.1 h) i j (by omega) hj hi
      exact this e
  by_cases h : a.Nodup
  · rw [if_pos (key.2 h)]; simp [h]
  · rw [if_neg (fun h2 => h (key.1 h2))]; simp [h]

/-! fresh names -/
def digVal (l : Str) : Nat := l.foldl (fun a c => 10 * a + (c.toNat - 48)) 0
theorem digVal_dec (u : Nat) : digVal (Lib.decDigits u) = u := by
  induction u using Nat.strongRecOn with
  | _ u ih =>
    rw [Lib.decDigits]
    by_cases h : u < 10
    · rw [dif_pos h]
      unfold digVal
      simp
      omega
    · rw [dif_neg h]
      have := ih (u / 10) (by omega)
      unfold digVal at this ⊢
      rw [List.foldl_append, this]
      simp
      omega
theorem dec_inj {u v : Nat} (h : Lib.decDigits u = Lib.decDigits v) : u = v := by rw [← digVal_dec u, ← digVal_dec v, h]
theorem dec_len (u : Nat) : (Lib.decDigits u).length ≤ u + 1 := by
  induction u using Nat.strongRecOn with
  | _ u ih =>
    rw [Lib.decDigits]
    by_cases h : u < 10
    · rw [dif_pos h]; simp
    · rw [dif_neg h]
      have := ih (u / 10) (by omega)
      simp
      omega

theorem text_loop : ∀ (k n : Nat) (acc : Str), n ≤ k → n ≤ 1000000 → acc.length ≤ 1000000 - n → R01_Text_L1 acc n = some (if n = 0 then acc else Lib.decDigits n ++ acc)
  | k, 0, acc, _, _, _ => by
    unfold R01_Text_L1
    exact loop_done rfl
  | 0, n + 1, _, h, _, _ => absurd h (by omega)
  | k + 1, n + 1, acc, hk, hn, ha => by
    have hb : R01_Text_L1_b acc ((n + 1 : Nat) : Int) = some (.inl (UInt8.ofNat (48 + (n + 1) % 10) :: acc, (((n + 1) / 10 : Nat) : Int))) := by
      simp only [R01_Text_L1_b]
      have h1 : (((n + 1 : Nat) : Int) != 0) = true := by simp; omega
      have h2 : re ((n + 1 : Nat) : Int) 10 = some (((n + 1) % 10 : Nat) : Int) := by
        simp only [re]
        have e : ((n + 1 : Nat) : Int) % 10 = (((n + 1) % 10 : Nat) : Int) := by omega
        rw [if_neg (by omega), Int.tmod_eq_emod_of_nonneg (by omega), e]
      have h3 : R01_Text_J2 (((n + 1) % 10 : Nat) : Int) = some (((n + 1) % 10 : Nat) : Int) := by
        simp only [R01_Text_J2]
        rw [if_neg (by simp; omega)]
      have h4 : IntKind.u8.wrap (w64 (48 + (((n + 1) % 10 : Nat) : Int))) = ((48 + (n + 1) % 10 : Nat) : Int) := by
        rw [w64_eq (by omega) (by omega)]
        have h5 : (48 : Int) + (((n + 1) % 10 : Nat) : Int) = ((48 + (n + 1) % 10 : Nat) : Int) := by omega
        rw [h5]
        generalize hq : 48 + (n + 1) % 10 = q
        have : q < 58 := by omega
        show ((q : Int) % 256) = q
        omega
      have h6 : bytesStr [((48 + (n + 1) % 10 : Nat) : Int)] = some [UInt8.ofNat (48 + (n + 1) % 10)] := by
        simp only [bytesStr]
        rw [if_pos (by omega)]
        rfl
      have h7 : qu .i64 ((n + 1 : Nat) : Int) 10 = some (((n + 1) / 10 : Nat) : Int) := by
        simp only [qu]
        rw [if_neg (by omega), Int.tdiv_eq_ediv_of_nonneg (by omega)]
        have e : ((n + 1 : Nat) : Int) / 10 = (((n + 1) / 10 : Nat) : Int) := by omega
        rw [e]
        exact congrArg some (w64_eq (by omega) (by omega))
      rw [h1]
      simp only [if_true, h2, Option.bind_some, h3, h4, h6]
      rw [cat_eq (by simp; omega), h7]
      rfl
    unfold R01_Text_L1
    refine (loop_step (body := fun zz : Str × Int => R01_Text_L1_b zz.1 zz.2) (s := (acc, ((n + 1 : Nat) : Int))) (s' := (UInt8.ofNat (48 + (n + 1) % 10) :: acc, (((n + 1) / 10 : Nat) : Int))) hb).trans ?_
    have ih := text_loop k ((n + 1) / 10) (UInt8.ofNat (48 + (n + 1) % 10) :: acc) (by omega) (by omega) (by simp; omega)
    unfold R01_Text_L1 at ih
    rw [ih, if_neg (by omega : ¬ n + 1 = 0)]
    conv => rhs; rw [Lib.decDigits]
    by_cases h : n + 1 < 10
    · rw [dif_pos h, if_pos (by omega), Nat.mod_eq_of_lt h]
      rfl
    · rw [dif_neg h, if_neg (by omega)]
      simp
theorem R01_Text_eq (n : Nat) (h0 : 1 ≤ n) (h : n ≤ 1000000) : R01_Text n = some (Lib.decDigits n) := by
  unfold R01_Text
  have h1 : ((n : Int) == 0) = false := by simp; omega
  rw [h1, text_loop n n [] (Nat.le_refl _) h (by simp)]
  have h2 : decide ((n : Int) < 0) = false := by simp
  simp only [Bool.false_eq_true, if_false, Option.bind_some, h2]
  rw [if_neg (by omega)]
  simp
theorem itoaF_eq (n : Nat) (h : n ≤ 1000000) : itoaF n = some (Lib.decDigits n) := by
  unfold itoaF Lib.itoa
  rw [if_pos (by simp; omega), if_neg (by omega)]
  rfl

theorem pigeon : ∀ (used L : List Str), L.Nodup → used.length < L.length → ∃ x ∈ L, x ∉ used
  | [], L, _, h => by
    cases L with
    | nil => simp at h
    | cons x L => exact ⟨x, by simp, by simp⟩
  | u :: us, L, hn, h => by
    obtain ⟨x, hx, hu⟩ := pigeon us (L.erase u) (hn.erase u) (by
      have := List.length_erase (a := u) (l := L)
      rw [this]
      simp at h
      split <;> omega)
    rw [hn.mem_erase_iff] at hx
    exact ⟨x, hx.2, by simp [hx.1, hu]⟩
theorem fresh_ex (used : List Str) (base : Str) : ∃ n, 1 ≤ n ∧ n ≤ used.length + 1 ∧ base ++ Lib.decDigits n ∉ used := by
  obtain ⟨x, hx, hu⟩ := pigeon used ((List.range (used.length + 1)).map fun i => base ++ Lib.decDigits (i + 1)) (by
    unfold List.Nodup
    rw [List.pairwise_map]
    refine List.Pairwise.imp ?_ (List.nodup_range (n := used.length + 1))
    intro a b hab e
    have := dec_inj (List.append_cancel_left e)
    omega) (by simp)
  simp only [List.mem_map, List.mem_range] at hx
  obtain ⟨i, hi, rfl⟩ := hx
  exact ⟨i + 1, by omega, by omega, hu⟩

/-- The first number that gives a fresh name. -/
def firstN (used : List Str) (base : Str) : Nat → Nat → Str
  | 0, _ => []
  | k + 1, n => if used.contains (base ++ Lib.decDigits n) = true then firstN used base k (n + 1) else base ++ Lib.decDigits n
def freshS (used : List Str) (base : Str) : Str := if used.contains base = true then firstN used base 301 1 else base

theorem names_Fresh_L1_eq (used : List Str) (hl : LimL used) : ∃ m, names_Fresh_L1 used used.length 0 [] = some m ∧ ∀ k, mhas m k = used.contains k := by
  unfold names_Fresh_L1
  have := loop_run used hl (fun i (m : List (Str × Bool)) => (i, m)) (fun zz => names_Fresh_L1_b used used.length zz.1 zz.2) (fun _ _ => True) (fun _ x m => .inl (mput m x true)) (fun m => m) (fun i hi t _ => ⟨by
      simp only [names_Fresh_L1_b]
      rw [if_pos (by simp; omega), idx_nat _ i hi]
      rfl, fun _ _ => trivial⟩) (fun _ _ => by simp only [names_Fresh_L1_b]; rw [if_neg (by simp)]) 0 [] (Nat.zero_le _) trivial
  simp only [Int.ofNat_zero, List.drop_zero] at this
  rw [this]
  refine ⟨_, rfl, ?_⟩
  have key : ∀ (l : List Str) (i : Nat) (m : List (Str × Bool)) k, mhas (runL (fun _ x (m : List (Str × Bool)) => (Sum.inl (mput m x true) : List (Str × Bool) ⊕ List (Str × Bool))) (fun m => m) l i m) k = (l.contains k || mhas m k) := by
    intro l
    induction l with
    | nil => intro i m k; simp [runL]
    | cons x l ih =>
      intro i m k
      unfold runL
      simp only [ih, mhas_put, List.contains_cons]
      cases (k == x) <;> cases l.contains k <;> simp
  intro k
  rw [key]
  simp [mhas, mget]

theorem fresh_loops (used : List Str) (base : Str) (m : List (Str × Bool)) (hm : ∀ k, mhas m k = used.contains k) (hl : used.length ≤ 300) (hb : base.length ≤ 4000000000000000000) (N : Nat) (hN : base ++ Lib.decDigits N ∉ used) (hN2 : N ≤ 301) :
    ∀ (k n : Nat), 1 ≤ n → n ≤ N → N < n + k → names_Fresh_L2 base m n = some (firstN used base k n) ∧ R04_Fresh_L1 used base (base ++ Lib.decDigits n) ((n + 1 : Nat) : Int) = some (firstN used base k n) ∧ firstN used base k n ∉ used
  | 0, n, _, h1, h2 => absurd h2 (by omega)
  | k + 1, n, h0, h1, h2 => by
    have hd := dec_len n
    have hd2 := dec_len (n + 1)
    have e1 : w64 ((n : Int) + 1) = ((n + 1 : Nat) : Int) := by rw [w64_eq (by omega) (by omega)]; omega
    have e2 : w64 (((n + 1 : Nat) : Int) + 1) = ((n + 2 : Nat) : Int) := by rw [w64_eq (by omega) (by omega)]; omega
    unfold firstN
    by_cases hc : used.contains (base ++ Lib.decDigits n) = true
    · rw [if_pos hc]
      have hne : n ≠ N := by
        rintro rfl
        exact hN (by simpa using hc)
      obtain ⟨i1, i2, i3⟩ := fresh_loops used base m hm hl hb N hN hN2 k (n + 1) (by omega) (by omega) (by omega)
      have hm' := hm (base ++ Lib.decDigits n)
      unfold mhas at hm'
      have b1 : names_Fresh_L2_b base m (n : Int) = some (.inl (((n + 1 : Nat) : Int))) := by
        simp only [names_Fresh_L2_b]
        rw [itoaF_eq n (by omega)]
        simp only [Option.bind_some]
        rw [cat_eq (by omega)]
        simp only [Option.bind_some, hm', hc, e1]
        rfl
      have b2 : R04_Fresh_L1_b used base (base ++ Lib.decDigits n) ((n + 1 : Nat) : Int) = some (.inl (base ++ Lib.decDigits (n + 1), ((n + 2 : Nat) : Int))) := by
        simp only [R04_Fresh_L1_b]
        rw [R04_Find_eq _ _ (by omega)]
        simp only [Option.bind_some, findI_nonneg]
        have : (used.any fun k => k == base ++ Lib.decDigits n) = true := by simpa [List.any_eq_true] using hc
        rw [this, if_pos rfl, R01_Text_eq (n + 1) (by omega) (by omega)]
        simp only [Option.bind_some]
        rw [cat_eq (by omega)]
        simp only [Option.bind_some, e2]
      refine ⟨?_, ?_, i3⟩
      · unfold names_Fresh_L2 at i1 ⊢
        exact (loop_step b1).trans i1
      · unfold R04_Fresh_L1 at i2 ⊢
        exact (loop_step (body := fun zz : Str × Int => R04_Fresh_L1_b used base zz.1 zz.2) (s := (base ++ Lib.decDigits n, ((n + 1 : Nat) : Int))) (s' := (base ++ Lib.decDigits (n + 1), ((n + 2 : Nat) : Int))) b2).trans i2
    · rw [if_neg hc]
      have hc' : used.contains (base ++ Lib.decDigits n) = false := by simpa using hc
      have hm' := hm (base ++ Lib.decDigits n)
      unfold mhas at hm'
      have b1 : names_Fresh_L2_b base m (n : Int) = some (.inr (base ++ Lib.decDigits n)) := by
        simp only [names_Fresh_L2_b]
        rw [itoaF_eq n (by omega)]
        simp only [Option.bind_some]
        rw [cat_eq (by omega)]
        simp only [Option.bind_some, hm', hc']
        rfl
      have b2 : R04_Fresh_L1_b used base (base ++ Lib.decDigits n) ((n + 1 : Nat) : Int) = some (.inr (base ++ Lib.decDigits n)) := by
        simp only [R04_Fresh_L1_b]
        rw [R04_Find_eq _ _ (by omega)]
        simp only [Option.bind_some, findI_nonneg]
        have : (used.any fun k => k == base ++ Lib.decDigits n) = false := by
          rw [Bool.eq_false_iff]
          intro h
          apply hc
          simpa [List.any_eq_true] using h
        rw [this]
        rfl
      refine ⟨?_, ?_, by simpa using hc⟩
      · unfold names_Fresh_L2
        exact loop_done b1
      · unfold R04_Fresh_L1
        exact loop_done (body := fun zz : Str × Int => R04_Fresh_L1_b used base zz.1 zz.2) (s := (base ++ Lib.decDigits n, ((n + 1 : Nat) : Int))) b2

theorem Fresh_eq (used : List Str) (base : Str) (hl : used.length ≤ 300) (hb : base.length ≤ 4000000000000000000) : names_Fresh used base = some (freshS used base) ∧ R04_Fresh used base = some (freshS used base) ∧ freshS used base ∉ used := by
  obtain ⟨m, hm1, hm⟩ := names_Fresh_L1_eq used (show _ < _ by omega)
  have hm' := hm base
  unfold mhas at hm'
  obtain ⟨N, h1, h2, h3⟩ := fresh_ex used base
  obtain ⟨i1, i2, i3⟩ := fresh_loops used base m hm hl hb N h3 (by omega) 301 1 (Nat.le_refl _) h1 (by omega)
  unfold names_Fresh R04_Fresh freshS
  rw [hm1]
  simp only [Option.bind_some, hm']
  have hd := dec_len 1
  by_cases hc : used.contains base = true
  · simp only [hc, Bool.not_true, Bool.false_eq_true, if_false, if_true]
    simp only [Int.ofNat_one] at i1
    rw [i1]
    have b2 : R04_Fresh_L1_b used base base 1 = some (.inl (base ++ Lib.decDigits 1, ((2 : Nat) : Int))) := by
      simp only [R04_Fresh_L1_b]
      rw [R04_Find_eq _ _ (by omega)]
      simp only [Option.bind_some, findI_nonneg]
      have : (used.any fun k => k == base) = true := by simpa [List.any_eq_true] using hc
      have ht := R01_Text_eq 1 (by omega) (by omega)
      simp only [Int.ofNat_one] at ht
      rw [this, if_pos rfl, ht]
      simp only [Option.bind_some]
      rw [cat_eq (by omega)]
      rfl
    unfold R04_Fresh_L1 at i2 ⊢
    have := (loop_step (body := fun zz : Str × Int => R04_Fresh_L1_b used base zz.1 zz.2) (s := (base, 1)) (s' := (base ++ Lib.decDigits 1, ((2 : Nat) : Int))) b2).trans i2
    rw [this]
    exact ⟨rfl, rfl, i3⟩
  · have hc' : used.contains base = false := by simpa using hc
    simp only [hc', Bool.not_false, if_true, Bool.false_eq_true, if_false]
    have b2 : R04_Fresh_L1_b used base base 1 = some (.inr base) := by
      simp only [R04_Fresh_L1_b]
      rw [R04_Find_eq _ _ (by omega)]
      simp only [Option.bind_some, findI_nonneg]
      have : (used.any fun k => k == base) = false := by
        rw [Bool.eq_false_iff]
        intro h
        apply hc
        simpa [List.any_eq_true] using h
      rw [this]
      rfl
    unfold R04_Fresh_L1
    have := loop_done (body := fun zz : Str × Int => R04_Fresh_L1_b used base zz.1 zz.2) (s := (base, 1)) b2
    rw [this]
    exact ⟨trivial, rfl, by simpa using hc⟩
end Go.Proofs.YtgiimiklbabhcaaDoor
