/-
  WHAT IS PROVED: sets of names as sorted lists: names.Union and liquidcheckref04.Union agree; the seat's six laws as plain functions answer true. Conditions: short lists.
-/
import Derived.Test.YtgiimiklbabhcaaDoorPn3
namespace Go.Proofs.YtgiimiklbabhcaaDoor
open Go
set_option linter.unusedSimpArgs false
set_option linter.unusedVariables false

abbrev blt (x y : Str) : Prop := Op.bytesLess x y = true
theorem bl_irrefl : ∀ (x : Str), Op.bytesLess x x = false
  | [] => rfl
  | a :: x => by
    unfold Op.bytesLess
    rw [bl_irrefl x]
    simp [UInt8.lt_irrefl]
theorem bl_trans : ∀ {x y z : Str}, blt x y → blt y z → blt x z
  | _, _, [], h1, h2 => by simp [blt, Op.bytesLess] at h2
  | _, [], _ :: _, h1, h2 => by simp [blt, Op.bytesLess] at h1
  | [], _ :: _, _ :: _, _, _ => rfl
  | a :: x, b :: y, c :: z, h1, h2 => by
    unfold blt Op.bytesLess at h1 h2 ⊢
    simp only [Bool.or_eq_true, decide_eq_true_eq, Bool.and_eq_true, beq_iff_eq] at h1 h2 ⊢
    rcases h1 with h1 | ⟨rfl, h1⟩
    · rcases h2 with h2 | ⟨rfl, h2⟩
      · exact .inl (UInt8.lt_trans h1 h2)
      · exact .inl h1
    · rcases h2 with h2 | ⟨rfl, h2⟩
      · exact .inl h2
      · exact .inr ⟨rfl, bl_trans h1 h2⟩
theorem bl_total : ∀ {x y : Str}, Op.bytesLess x y = false → Op.bytesLess y x = false → x = y
  | [], [], _, _ => rfl
  | [], _ :: _, h, _ => by simp [Op.bytesLess] at h
  | _ :: _, [], _, h => by simp [Op.bytesLess] at h
  | a :: x, b :: y, h1, h2 => by
    unfold Op.bytesLess at h1 h2
    simp only [Bool.or_eq_false_iff, decide_eq_false_iff_not, Bool.and_eq_false_imp, beq_iff_eq] at h1 h2
    have hab : a = b := by
      have k1 := UInt8.not_lt.1 h1.1
      have k2 := UInt8.not_lt.1 h2.1
      exact UInt8.le_antisymm k2 k1
    subst hab
    rw [bl_total (h1.2 rfl) (h2.2 rfl)]
theorem bl_eq : ∀ (x y : Str), Op.bytesLess x y = decide (x < y)
  | [], [] => by simp [Op.bytesLess]
  | _ :: _, [] => by simp [Op.bytesLess]
  | [], _ :: _ => by simp [Op.bytesLess]
  | a :: x, b :: y => by
    unfold Op.bytesLess
    rw [bl_eq x y, Bool.eq_iff_iff]
    simp [List.cons_lt_cons_iff]
theorem le_of (x y : Str) : decide (x ≤ y) = !Op.bytesLess y x := by
  rw [bl_eq]
  rw [← decide_not]
  rfl
abbrev Inc (l : List Str) : Prop := l.Pairwise blt

theorem inc_unique : ∀ {a b : List Str}, Inc a → Inc b → (∀ x, x ∈ a ↔ x ∈ b) → a = b
  | [], [], _, _, _ => rfl
  | [], y :: b, _, _, h => by have := (h y).2 (by simp); simp at this
  | x :: a, [], _, _, h => by have := (h x).1 (by simp); simp at this
  | x :: a, y :: b, ha, hb, h => by
    unfold Inc at ha hb
    rw [List.pairwise_cons] at ha hb
    have hxy : x = y := by
      have h1 := (h x).1 (by simp)
      have h2 := (h y).2 (by simp)
      rw [List.mem_cons] at h1 h2
      rcases h1 with h1 | h1
      · exact h1
      · rcases h2 with h2 | h2
        · exact h2.symm
        · have := bl_trans (hb.1 x h1) (ha.1 y h2)
          unfold blt at this
          rw [bl_irrefl] at this
          cases this
    subst hxy
    congr 1
    refine inc_unique ha.2 hb.2 fun z => ?_
    constructor
    · intro hz
      have := (h z).1 (by simp [hz])
      rw [List.mem_cons] at this
      rcases this with rfl | this
      · have := ha.1 _ hz; unfold blt at this; rw [bl_irrefl] at this; cases this
      · exact this
    · intro hz
      have := (h z).2 (by simp [hz])
      rw [List.mem_cons] at this
      rcases this with rfl | this
      · have := hb.1 _ hz; unfold blt at this; rw [bl_irrefl] at this; cases this
      · exact this

theorem sortS_sorted (l : List Str) : (sortS l).Pairwise fun x y => Op.bytesLess y x = false := by
  have := List.pairwise_mergeSort (le := fun x y : Str => decide (x ≤ y)) (fun a b c h1 h2 => by
    rw [le_of] at h1 h2 ⊢
    simp only [Bool.not_eq_true'] at h1 h2 ⊢
    cases h : Op.bytesLess c a with
    | false => rfl
    | true =>
      exfalso
      by_cases hb : Op.bytesLess a b = true
      · have := bl_trans h hb
        unfold blt at this
        rw [h2] at this
        cases this
      · have : a = b := bl_total (by simpa using hb) h1
        subst this
        rw [h2] at h
        cases h) (fun a b => by
    rw [le_of, le_of]
    cases h : Op.bytesLess b a with
    | false => rfl
    | true =>
      cases h' : Op.bytesLess a b with
      | false => rfl
      | true =>
        have := bl_trans h h'
        unfold blt at this
        rw [bl_irrefl] at this
        cases this) l
  refine List.Pairwise.imp ?_ this
  intro a b h
  rw [le_of] at h
  simpa using h
theorem sortS_mem (l : List Str) (x : Str) : x ∈ sortS l ↔ x ∈ l := List.mem_mergeSort

theorem compact_facts (d : List Str) (hs : d.Pairwise fun x y => Op.bytesLess y x = false) : ∀ m, m ≤ d.length → Inc (Lib.compactUpTo d.toArray m) ∧ ∀ x, x ∈ Lib.compactUpTo d.toArray m ↔ ∃ (j : Nat) (h : j < d.length), j < m ∧ d[j] = x
  | 0, _ => by
    refine ⟨by simp [Lib.compactUpTo, Inc], fun x => ?_⟩
    simp [Lib.compactUpTo]
  | m + 1, hm => by
    obtain ⟨h1, h2⟩ := compact_facts d hs m (by omega)
    have hg : ∀ j (h : j < d.length), d.toArray[j]! = d[j] := fun j h => by simp [h]
    rw [Lib.compactUpTo_succ]
    by_cases hk : Lib.keeps d.toArray m = true
    · rw [if_pos hk, hg m (by omega)]
      refine ⟨?_, fun x => ?_⟩
      · unfold Inc
        rw [List.pairwise_append]
        refine ⟨h1, by simp, fun x hx y hy => ?_⟩
        simp at hy
        subst hy
        obtain ⟨j, hj, hjm, rfl⟩ := (h2 x).1 hx
        have hne : d[m - 1] ≠ d[m] := by
          unfold Lib.keeps at hk
          simp only [decide_eq_true_eq] at hk
          rcases hk with hk | hk
          · omega
          · rw [hg m (by omega), hg (m - 1) (by omega)] at hk
            exact fun e => hk e.symm
        have hlt : Op.bytesLess d[m - 1] d[m] = true := by
          have k1 := (List.pairwise_iff_getElem.1 hs) (m - 1) m (by omega) (by omega) (by omega)
          cases h : Op.bytesLess d[m - 1] d[m] with
          | true => rfl
          | false => exact absurd (bl_total h k1) hne
        by_cases hj2 : j = m - 1
        · subst hj2; exact hlt
        · have k2 := (List.pairwise_iff_getElem.1 hs) j (m - 1) (by omega) (by omega) (by omega)
          cases h : Op.bytesLess d[j] d[m - 1] with
          | true => exact bl_trans h hlt
          | false => 
            have := bl_total h k2
            rw [this]; exact hlt
      · rw [List.mem_append, h2]
        constructor
        · rintro (⟨j, hj, hjm, rfl⟩ | hx)
          · exact ⟨j, hj, by omega, rfl⟩
          · simp at hx; exact ⟨m, by omega, by omega, hx.symm⟩
        · rintro ⟨j, hj, hjm, rfl⟩
          by_cases e : j = m
          · subst e; exact .inr (by simp)
          · exact .inl ⟨j, hj, by omega, rfl⟩
    · rw [if_neg hk, List.append_nil]
      refine ⟨h1, fun x => ?_⟩
      rw [h2]
      constructor
      · rintro ⟨j, hj, hjm, rfl⟩; exact ⟨j, hj, by omega, rfl⟩
      · rintro ⟨j, hj, hjm, rfl⟩
        by_cases e : j = m
        · subst e
          have : j ≠ 0 ∧ d.toArray[j]! = d.toArray[j - 1]! := by
            unfold Lib.keeps at hk
            simp only [decide_eq_true_eq, not_or, ne_eq, Decidable.not_not] at hk
            exact hk
          rw [hg j hj, hg (j - 1) (by omega)] at this
          exact ⟨j - 1, by omega, by omega, this.2.symm⟩
        · exact ⟨j, hj, by omega, rfl⟩

noncomputable def setU (a b : List Str) : List Str := Lib.compact (sortS (a ++ b))
theorem setU_facts (a b : List Str) : Inc (setU a b) ∧ ∀ x, x ∈ setU a b ↔ x ∈ a ∨ x ∈ b := by
  obtain ⟨h1, h2⟩ := compact_facts (sortS (a ++ b)) (sortS_sorted _) _ (Nat.le_refl _)
  refine ⟨h1, fun x => ?_⟩
  rw [show setU a b = Lib.compactUpTo (sortS (a ++ b)).toArray (sortS (a ++ b)).length from rfl, h2, ← List.mem_append, ← sortS_mem, List.mem_iff_getElem]
  constructor
  · rintro ⟨j, h, _, e⟩; exact ⟨j, h, e⟩
  · rintro ⟨j, h, e⟩; exact ⟨j, h, h, e⟩
theorem names_Union_eq (a b : List Str) (h : a.length + b.length ≤ 1073741824) : names_Union a b = some (setU a b) := by
  unfold names_Union
  rw [app_eq (by simp; omega)]
  simp only [Option.bind_some]
  rw [app_eq (by simp; omega)]
  rfl

/-! liquidcheckref04.Union -/
def ins (s : Str) : List Str → List Str
  | [] => [s]
  | x :: r => if Op.bytesLess x s = true then x :: ins s r else if (x == s) = true then s :: r else s :: x :: r
def kk (s : Str) : List Str → Nat
  | [] => 0
  | x :: r => if Op.bytesLess x s = true then kk s r + 1 else 0
theorem kk_le (s : Str) : ∀ l, kk s l ≤ l.length
  | [] => Nat.le_refl _
  | x :: r => by have := kk_le s r; unfold kk; split <;> simp <;> omega
theorem ins_eq (s : Str) : ∀ l, ins s l = l.take (kk s l) ++ s :: l.drop (kk s l + if (l[kk s l]? == some s) = true then 1 else 0)
  | [] => by simp [ins, kk]
  | x :: r => by
    have ih := ins_eq s r
    unfold ins kk
    by_cases h : Op.bytesLess x s = true
    · rw [if_pos h, if_pos h, ih]
      simp only [List.take_succ_cons, List.getElem?_cons_succ, List.cons_append]
      rw [show kk s r + 1 + (if (r[kk s r]? == some s) = true then 1 else 0) = (kk s r + if (r[kk s r]? == some s) = true then 1 else 0) + 1 by omega, List.drop_succ_cons]
    · rw [if_neg h, if_neg h]
      by_cases hx : (x == s) = true
      · have : x = s := by simpa using hx
        simp [this]
      · have : ¬ x = s := by simpa using hx
        simp [this]
theorem ins_len (s : Str) : ∀ l, (ins s l).length ≤ l.length + 1
  | [] => by simp [ins]
  | x :: r => by
    have := ins_len s r
    unfold ins
    split
    · simp; omega
    · split <;> simp
theorem ins_mem (s : Str) : ∀ l x, x ∈ ins s l ↔ x = s ∨ x ∈ l
  | [], x => by simp [ins]
  | y :: r, x => by
    have := ins_mem s r x
    unfold ins
    by_cases h : Op.bytesLess y s = true
    · rw [if_pos h, List.mem_cons, this, List.mem_cons]
      constructor
      · rintro (h | h | h) <;> simp [h]
      · rintro (h | h | h) <;> simp [h]
    · rw [if_neg h]
      by_cases hy : (y == s) = true
      · have e : y = s := by simpa using hy
        rw [if_pos hy, e]
        simp
      · rw [if_neg hy]
        simp
theorem ins_inc (s : Str) : ∀ {l}, Inc l → Inc (ins s l)
  | [], _ => by simp [ins, Inc]
  | x :: r, h => by
    unfold Inc at h ⊢
    rw [List.pairwise_cons] at h
    unfold ins
    by_cases hx : Op.bytesLess x s = true
    · rw [if_pos hx, List.pairwise_cons]
      refine ⟨fun y hy => ?_, ins_inc s h.2⟩
      rw [ins_mem] at hy
      rcases hy with rfl | hy
      · exact hx
      · exact h.1 y hy
    · rw [if_neg hx]
      by_cases he : (x == s) = true
      · have e : x = s := by simpa using he
        subst e
        rw [if_pos he, List.pairwise_cons]
        exact h
      · have hsx : blt s x := by
          cases hc : Op.bytesLess s x with
          | true => exact hc
          | false =>
            have := bl_total (by simpa using hx) hc
            simp [this] at he
        rw [if_neg he, List.pairwise_cons, List.pairwise_cons]
        refine ⟨fun y hy => ?_, h⟩
        rw [List.mem_cons] at hy
        rcases hy with rfl | hy
        · exact hsx
        · exact bl_trans hsx (h.1 y hy)

theorem put_run (s : Str) : ∀ (l : List Str) (i : Nat) (out : List Str), runL (fun i x (out : List Str) => if Op.bytesLess x s = true then (Sum.inl (out ++ [x]) : List Str ⊕ (List Str × Nat)) else .inr (out, i)) (fun out => (out, i + l.length)) l i out = (out ++ l.take (kk s l), i + kk s l)
  | [], i, out => by simp [runL, kk]
  | x :: l, i, out => by
    have ih := put_run s l (i + 1) (out ++ [x])
    unfold runL kk
    by_cases h : Op.bytesLess x s = true
    · simp only [h, if_true]
      rw [show i + (x :: l).length = i + 1 + l.length by simp; omega, ih]
      simp
      omega
    · simp [h]
theorem runL_map {α σ X Y : Type} (g : X → Y) (f : Nat → α → σ → σ ⊕ X) (e : σ → X) : ∀ (l : List α) (i : Nat) (s : σ), runL (fun i x s => Sum.map id g (f i x s)) (fun s => g (e s)) l i s = g (runL f e l i s)
  | [], i, s => rfl
  | x :: l, i, s => by
    unfold runL
    cases f i x s with
    | inl s' => exact runL_map g f e l (i + 1) s'
    | inr y => rfl
def natI {σ : Type} (y : σ × Nat) : σ × Int := (y.1, (y.2 : Int))
theorem R04_put_eq (a : List Str) (s : Str) (ha : a.length ≤ 1000000) : R04_put a s = some (ins s a) := by
  unfold R04_put R04_put_L1
  have := loop_run a (by omega) (fun i (out : List Str) => (out, i)) (fun zz => R04_put_L1_b a s zz.1 zz.2) (fun i out => out.length = i)
    (fun i x out => Sum.map id natI (if Op.bytesLess x s = true then (Sum.inl (out ++ [x]) : List Str ⊕ (List Str × Nat)) else .inr (out, i))) (fun out => natI (out, 0 + a.length)) (fun i hi out hI => by
      have hb : R04_put_J2 a s i = some (Op.bytesLess a[i] s) := by
        simp only [R04_put_J2]
        rw [if_pos (by simp; omega), idx_nat _ i hi]
        rfl
      refine ⟨?_, fun s' hs' => ?_⟩
      · simp only [R04_put_L1_b]
        rw [hb]
        simp only [Option.bind_some]
        by_cases hl : Op.bytesLess a[i] s = true
        · rw [if_pos hl, if_pos hl, idx_nat _ i hi]
          simp only [Option.bind_some]
          rw [app_eq (by simp; omega)]
          rfl
        · rw [if_neg hl, if_neg hl]
          rfl
      · by_cases hl : Op.bytesLess a[i] s = true
        · rw [if_pos hl] at hs'; cases hs'; simp; omega
        · rw [if_neg hl] at hs'; cases hs') (fun out _ => by
      have hb : R04_put_J2 a s a.length = some false := by
        simp only [R04_put_J2]
        rw [if_neg (by simp)]
      simp only [R04_put_L1_b]
      rw [hb]
      simp [natI]) 0 [] (Nat.zero_le _) rfl
  simp only [Int.ofNat_zero, List.drop_zero] at this
  have hm := runL_map natI (fun i x (out : List Str) => if Op.bytesLess x s = true then (Sum.inl (out ++ [x]) : List Str ⊕ (List Str × Nat)) else .inr (out, i)) (fun out => (out, 0 + a.length)) a 0 []
  rw [this.trans (congrArg some hm), put_run s a 0 []]
  simp only [List.nil_append, Nat.zero_add, Option.bind_some, natI]
  have hk := kk_le s a
  rw [app_eq (by simp; omega)]
  simp only [Option.bind_some]
  have hj : R04_put_J3 a s (kk s a) = some ((kk s a + if (a[kk s a]? == some s) = true then 1 else 0 : Nat) : Int) := by
    unfold R04_put_J3 R04_put_J4
    by_cases hlt : kk s a < a.length
    · rw [if_pos (by simp; omega), idx_nat _ _ hlt]
      simp only [Option.bind_some, List.getElem?_eq_getElem hlt]
      have e : (some a[kk s a] == some s) = (a[kk s a] == s) := rfl
      rw [e]
      by_cases h : (a[kk s a] == s) = true
      · rw [if_pos h, if_pos h, w64_eq (by omega) (by omega)]
        rfl
      · rw [if_neg h, if_neg h]
        rfl
    · have hn : a[kk s a]? = none := by simp; omega
      rw [if_neg (by simp; omega), hn]
      rfl
  rw [hj]
  simp only [Option.bind_some]
  have hle : kk s a + (if (a[kk s a]? == some s) = true then 1 else 0) ≤ a.length := by
    by_cases hlt : kk s a < a.length
    · split <;> omega
    · have hn : a[kk s a]? = none := by simp; omega
      rw [hn]
      simp
      omega
  rw [slc_from a _ hle]
  simp only [Option.bind_some]
  rw [app_eq (by simp; omega), ins_eq]
  simp

theorem runL_fold {α σ : Type} (g : σ → α → σ) : ∀ (l : List α) (i : Nat) (s : σ), runL (fun _ x s => (Sum.inl (g s x) : σ ⊕ σ)) (fun s => s) l i s = l.foldl g s
  | [], i, s => rfl
  | x :: l, i, s => runL_fold g l (i + 1) (g s x)
theorem fold_facts : ∀ (l out : List Str), Inc out → Inc (l.foldl (fun o x => ins x o) out) ∧ (∀ x, x ∈ l.foldl (fun o x => ins x o) out ↔ x ∈ out ∨ x ∈ l) ∧ (l.foldl (fun o x => ins x o) out).length ≤ out.length + l.length
  | [], out, h => ⟨h, by simp, by simp⟩
  | y :: l, out, h => by
    obtain ⟨h1, h2, h3⟩ := fold_facts l (ins y out) (ins_inc y h)
    have := ins_len y out
    refine ⟨h1, fun x => ?_, by simp only [List.foldl_cons, List.length_cons]; omega⟩
    rw [List.foldl_cons, h2, ins_mem, List.mem_cons]
    constructor
    · rintro ((h | h) | h) <;> simp [h]
    · rintro (h | h | h) <;> simp [h]
theorem R04_Union_eq (a b : List Str) (ha : a.length ≤ 1000) (hb : b.length ≤ 1000) : R04_Union a b = some (setU a b) := by
  unfold R04_Union R04_Union_L1 R04_Union_L2
  have t1 := loop_run a (by omega) (fun i (out : List Str) => (out, i)) (fun zz => R04_Union_L1_b a a.length zz.1 zz.2) (fun i out => out.length ≤ i) (fun _ x out => (Sum.inl (ins x out) : List Str ⊕ List Str)) (fun o => o) (fun i hi out hI => by
      refine ⟨?_, fun s' hs' => ?_⟩
      · simp only [R04_Union_L1_b]
        rw [if_pos (by simp; omega), idx_nat _ i hi]
        simp only [Option.bind_some]
        rw [R04_put_eq _ _ (by omega)]
        rfl
      · cases hs'
        have := ins_len a[i] out
        omega) (fun out _ => by simp only [R04_Union_L1_b]; rw [if_neg (by simp)]) 0 [] (Nat.zero_le _) (Nat.le_refl _)
  simp only [Int.ofNat_zero, List.drop_zero] at t1
  rw [runL_fold (fun o x => ins x o)] at t1
  obtain ⟨f1, f2, f3⟩ := fold_facts a [] (by simp [Inc])
  have t2 := loop_run b (by omega) (fun i (out : List Str) => (out, i)) (fun zz => R04_Union_L2_b b b.length zz.1 zz.2) (fun i out => out.length ≤ 1000 + i) (fun _ x out => (Sum.inl (ins x out) : List Str ⊕ List Str)) (fun o => o) (fun i hi out hI => by
      refine ⟨?_, fun s' hs' => ?_⟩
      · simp only [R04_Union_L2_b]
        rw [if_pos (by simp; omega), idx_nat _ i hi]
        simp only [Option.bind_some]
        rw [R04_put_eq _ _ (by omega)]
        rfl
      · cases hs'
        have := ins_len b[i] out
        omega) (fun out _ => by simp only [R04_Union_L2_b]; rw [if_neg (by simp)]) 0 (a.foldl (fun o x => ins x o) []) (Nat.zero_le _) (by simp at f3; omega)
  simp only [Int.ofNat_zero, List.drop_zero] at t2
  rw [runL_fold (fun o x => ins x o)] at t2
  rw [t1]
  simp only [Option.bind_some]
  rw [t2]
  simp only [Option.bind_some, Option.some.injEq]
  obtain ⟨g1, g2, _⟩ := fold_facts b _ f1
  obtain ⟨u1, u2⟩ := setU_facts a b
  refine inc_unique g1 u1 fun x => ?_
  rw [g2, f2, u2]
  simp

/-! the program is alive -/
theorem dec1 : Lib.decDigits 1 = [49] := by rw [Lib.decDigits]; rfl
theorem dec2 : Lib.decDigits 2 = [50] := by rw [Lib.decDigits]; rfl
theorem alive_eq : W04_alive = some true := by
  unfold W04_alive
  rw [names_Keyword_eq, names_Keyword_eq, names_Check_eq _ (by decide), names_Check_eq _ (by decide), names_Title_eq _ (by decide), names_Title_eq _ (by decide), names_Core_eq, names_Core_eq, names_Core_eq,
    (Fresh_eq _ _ (by decide) (by decide)).1, names_Union_eq _ _ (by decide), names_Find_eq _ _ (by decide)]
  have h1 : freshS [[120], [120, 49], [120, 51]] [120] = [120, 50] := by
    simp [freshS, firstN, dec1, dec2]
  have h2 : setU [[98], [97]] [[98]] = [[97], [98]] := by
    obtain ⟨u1, u2⟩ := setU_facts [[98], [97]] [[98]]
    refine inc_unique u1 (by decide) fun x => ?_
    rw [u2]
    simp
    constructor
    · rintro ((h | h) | h) <;> simp [h]
    · rintro (h | h) <;> simp [h]
  have h3 := R04_Same_eq [[97], [98]] [[97], [98]] (by decide)
  rw [h1, h2]
  simp only [Option.bind_some, h3]
  rfl
end Go.Proofs.YtgiimiklbabhcaaDoor
