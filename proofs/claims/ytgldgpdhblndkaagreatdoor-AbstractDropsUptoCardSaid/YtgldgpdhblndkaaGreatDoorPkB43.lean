/-
  WHAT IS PROVED: parts of the proof, put together by a program out of smaller texts (Pp1; Pp2; Pp3; Pp4; Pp5; Pp6). Conditions: none.
-/
import Derived.Test.YtgldgpdhblndkaaGreatDoorPkB42
import Derived.Test.YtgldgpdhblndkaaGreatDoorPkB26
namespace Go.Proofs.YtgldgpdhblndkaaGreatDoor
open Go
set_option linter.unusedVariables false
mutual
def nP : tPred → Nat
  | ⟨_, _, _, ks⟩ => nL ks + 1
def nL : List tPred → Nat
  | [] => 0
  | p :: ps => nP p + nL ps
end
theorem nP_eq (p : tPred) : nP p = nL p.Kids + 1 := by obtain ⟨o, n, k, ks⟩ := p; rw [nP]; rfl
theorem nP_pos (p : tPred) : 1 ≤ nP p := by rw [nP_eq]; omega
theorem nL_mem : ∀ {l : List tPred} {x : tPred}, x ∈ l → nP x ≤ nL l
  | y :: l, x, h => by
    rw [nL]
    rcases List.mem_cons.1 h with rfl | h
    · omega
    · have := nL_mem h; omega
theorem nL_len : ∀ (l : List tPred), l.length ≤ nL l
  | [] => by simp [nL]
  | p :: l => by rw [nL]; have := nL_len l; have := nP_pos p; simp only [List.length_cons]; omega
theorem kid_lt {p x : tPred} (h : x ∈ p.Kids) : nP x < nP p := by rw [nP_eq p]; have := nL_mem h; omega
theorem kids_len (p : tPred) : p.Kids.length < nP p := by rw [nP_eq]; have := nL_len p.Kids; omega
theorem nL_append : ∀ (a b : List tPred), nL (a ++ b) = nL a + nL b
  | [], b => by simp [nL]
  | p :: a, b => by rw [List.cons_append, nL, nL_append a b, nL]; omega
mutual
theorem nP_pm : ∀ (p : tPred), nP p ≤ pmL (c_tPred p)
  | ⟨o, n, k, ks⟩ => by
    have := nL_pm ks
    rw [nP, ex_tPred]
    simp only [pmL, pm, sl]
    show nL ks + 1 ≤ 1 + (n.length + 1 + (1 + (pmLL (ks.map c_tPred) + 1 + 0)))
    omega
theorem nL_pm : ∀ (l : List tPred), nL l ≤ pmLL (l.map c_tPred)
  | [] => by simp [nL]
  | p :: l => by
    have := nP_pm p
    have := nL_pm l
    rw [nL]
    simp only [List.map_cons, pmLL]
    omega
end
mutual
def eqP : tPred → tPred → Bool
  | ⟨o, n, k, ks⟩, ⟨o', n', k', ks'⟩ => (o == o') && ((n == n') && ((k == k') && eqL ks ks'))
def eqL : List tPred → List tPred → Bool
  | [], [] => true
  | x :: xs, y :: ys => eqP x y && eqL xs ys
  | _, _ => false
end
mutual
theorem eqP_iff : ∀ (a b : tPred), eqP a b = true ↔ a = b
  | ⟨o, n, k, ks⟩, ⟨o', n', k', ks'⟩ => by
    rw [eqP]
    have := eqL_iff ks ks'
    simp only [Bool.and_eq_true, beq_iff_eq, this, tPred.mk.injEq]
theorem eqL_iff : ∀ (a b : List tPred), eqL a b = true ↔ a = b
  | [], [] => by simp [eqL]
  | x :: xs, y :: ys => by
    rw [eqL]
    have h1 := eqP_iff x y
    have h2 := eqL_iff xs ys
    simp only [Bool.and_eq_true, h1, h2, List.cons.injEq]
  | [], y :: ys => by simp [eqL]
  | x :: xs, [] => by simp [eqL]
end
instance : DecidableEq tPred := fun a b => decidable_of_iff _ (eqP_iff a b)
theorem eta_tPred (p : tPred) : (⟨p.Op, p.Name, p.N, p.Kids⟩ : tPred) = p := by cases p; rfl
theorem tPred_ext {a b : tPred} : a = b ↔ a.Op = b.Op ∧ a.Name = b.Name ∧ a.N = b.N ∧ a.Kids = b.Kids := by
  cases a; cases b
  simp only [tPred.mk.injEq]
  rfl
theorem zip_any {α : Type} [DecidableEq α] : ∀ {a b : List α}, a.length = b.length → (a.zip b).any (fun x => decide (x.1 ≠ x.2)) = !decide (a = b)
  | [], [], _ => by simp
  | x :: a, y :: b, h => by
    have ih := zip_any (a := a) (b := b) (by simpa using h)
    rw [List.zip_cons_cons, List.any_cons, ih]
    by_cases h1 : x = y <;> by_cases h2 : a = b <;> simp [h1, h2]
theorem loop_zip {α X : Type} [DecidableEq α] {a b : List α} (hl : a.length = b.length) (ha : a.length < 9223372036854775808) (body : Int → Option (Int ⊕ X)) (y e : X)
    (hin : ∀ (i : Nat) (h : i < a.length) (h' : i < b.length), body i = some (if decide (a[i] = b[i]) = true then .inl (w64 ((i : Int) + 1)) else .inr y)) (hend : body a.length = some (.inr e)) : loop body 0 = some (if decide (a = b) = true then e else y) := by
  have hz : (a.zip b).length = a.length := by simp [hl]
  have := loop_any (a.zip b) (by omega) body (fun x => decide (x.1 ≠ x.2)) y e (fun i h => ?_) (by rw [hz]; exact hend) 0 (Nat.zero_le _)
  · rw [List.drop_zero, zip_any hl] at this
    rw [show ((0 : Nat) : Int) = 0 from rfl] at this
    rw [this]
    by_cases h : a = b <;> simp [h]
  · have h1 : i < a.length := by omega
    have h2 : i < b.length := by omega
    rw [hin i h1 h2]
    have hzi : (a.zip b)[i] = (a[i], b[i]) := by simp
    rw [hzi]
    by_cases h : a[i] = b[i] <;> simp [h]
abbrev bigN : Nat := 1073741824
theorem lt_big {n : Nat} (h : n ≤ bigN) : n < big := by have := big_gt; unfold bigN at h; omega
theorem equal_eq {R : tPred → tPred → Option Bool} {a b : List tPred} (ha : a.length ≤ bigN) (h : ∀ x ∈ a, ∀ y ∈ b, R x y = some (decide (x = y))) : pred_equal R a b = some (decide (a = b)) := by
  unfold pred_equal
  by_cases hl : a.length = b.length
  · rw [if_neg (by simp [hl])]
    unfold pred_equal_L1
    rw [loop_zip hl (by unfold bigN at ha; omega) (fun zz => pred_equal_L1_b R a b (a.length : Int) zz) (.inl ()) (.inr ()) (fun i h1 h2 => ?_) ?_]
    · by_cases he : a = b <;> simp [he]
    · unfold pred_equal_L1_b
      rw [if_neg (by simp)]
    · unfold pred_equal_L1_b
      rw [if_pos (by simp; omega), idx_nat a i h1]
      simp only [Option.bind_some]
      rw [idx_nat b i h2]
      simp only [Option.bind_some]
      rw [h _ (List.getElem_mem h1) _ (List.getElem_mem h2)]
      simp only [Option.bind_some]
      by_cases he : a[i] = b[i] <;> simp [he]
  · rw [if_pos (by simp; omega)]
    rw [decide_eq_false (fun he => hl (by rw [he]))]
theorem same_eq (a b : tPred) (ha : nP a ≤ bigN) : pred_Same a b = some (decide (a = b)) := by
  refine fixE_of (F := pred_Same_F) (fun x => nP x.1) (fun x => nP x.1 ≤ bigN) (fun x => decide (x.1 = x.2)) (fun R x hx ih => ?_) (a, b) ha (lt_big ha)
  obtain ⟨u, v⟩ := x
  have hx : nP u ≤ bigN := hx
  show pred_Same_B (fun a a2 => R (a, a2)) u v = some (decide (u = v))
  unfold pred_Same_B
  have hk := kids_len u
  by_cases h1 : u.Op = v.Op
  · by_cases h2 : u.Name = v.Name
    · by_cases h3 : u.N = v.N
      · rw [if_pos (by simpa using h1), if_pos (by simpa using h2), if_pos (by simpa using h3)]
        rw [equal_eq (a := u.Kids) (b := v.Kids) (by omega) (fun x hxa y hyb => ih (x, y) (kid_lt hxa) (Nat.le_of_lt (Nat.lt_of_lt_of_le (kid_lt hxa) hx)))]
        simp [tPred_ext (a := u) (b := v), h1, h2, h3]
      · rw [if_pos (by simpa using h1), if_pos (by simpa using h2), if_neg (by simpa using h3)]
        simp [tPred_ext (a := u) (b := v), h3]
    · rw [if_pos (by simpa using h1), if_neg (by simpa using h2)]
      simp [tPred_ext (a := u) (b := v), h2]
  · rw [if_neg (by simpa using h1)]
    simp [tPred_ext (a := u) (b := v), h1]
theorem copied_eq (p : tPred) (hp : nP p ≤ bigN) : pred_copied p = some p := by
  refine fixE_of (F := pred_copied_F) nP (fun x => nP x ≤ bigN) id (fun R x hx ih => ?_) p hp (lt_big hp)
  unfold pred_copied_F pred_copied_B pred_copied_L1
  have hlen := kids_len x
  rw [loop_map x.Kids (by unfold bigN at hx; omega) (fun i s => (i, s)) _ id id (fun i hi s hs => ?_) (fun s => ?_)]
  · simp [eta_tPred]
  · unfold pred_copied_L1_b
    rw [if_pos (by simp; omega), idx_nat x.Kids i hi]
    simp only [Option.bind_some]
    have hm := List.getElem_mem hi
    rw [ih _ (kid_lt hm) (Nat.le_of_lt (Nat.lt_of_lt_of_le (kid_lt hm) hx))]
    simp only [Option.bind_some]
    rw [app_eq (by unfold bigN at hx; simp; omega)]
    rfl
  · unfold pred_copied_L1_b
    rw [if_neg (by simp)]
    rfl
theorem rsame_eq (a b : tPred) (hb : nP b ≤ bigN) : R07_Same a b = some (decide (a = b)) := by
  refine fixE_of (F := R07_Same_F) (fun x => nP x.2) (fun x => nP x.2 ≤ bigN) (fun x => decide (x.1 = x.2)) (fun R x hx ih => ?_) (a, b) hb (lt_big hb)
  obtain ⟨u, v⟩ := x
  have hx : nP v ≤ bigN := hx
  show R07_Same_B (fun a a2 => R (a, a2)) u v = some (decide (u = v))
  unfold R07_Same_B R07_Same_J1
  have hk := kids_len v
  by_cases h1 : u.Op = v.Op
  · by_cases h2 : u.Name = v.Name
    · by_cases h3 : u.N = v.N
      · by_cases h4 : u.Kids.length = v.Kids.length
        · rw [if_neg (by simpa using h1), if_neg (by simpa using h2), if_neg (by simpa using h3)]
          simp only [h4, bne_self_eq_false, Option.bind_some, if_false, Bool.false_eq_true]
          unfold R07_Same_L2
          rw [← h4, loop_zip h4 (by unfold bigN at hx; omega) _ (.inl ()) (.inr ()) (fun i g1 g2 => ?_) ?_]
          · by_cases he : u.Kids = v.Kids <;> simp [he, tPred_ext (a := u) (b := v), h1, h2, h3]
          · unfold R07_Same_L2_b
            rw [if_neg (by simp)]
          · unfold R07_Same_L2_b
            rw [if_pos (by simp; omega), idx_nat u.Kids i g1]
            simp only [Option.bind_some]
            rw [idx_nat v.Kids i g2]
            simp only [Option.bind_some]
            have hm := List.getElem_mem g2
            rw [ih (u.Kids[i], v.Kids[i]) (kid_lt hm) (Nat.le_of_lt (Nat.lt_of_lt_of_le (kid_lt hm) hx))]
            by_cases he : u.Kids[i] = v.Kids[i] <;> simp [he]
        · have hne : u ≠ v := fun e => h4 (by rw [e])
          rw [if_neg (by simpa using h1), if_neg (by simpa using h2), if_neg (by simpa using h3)]
          have hb : ((u.Kids.length : Int) != (v.Kids.length : Int)) = true := by simp; omega
          simp [hb, hne]
      · have hne : u ≠ v := fun e => h3 (by rw [e])
        rw [if_neg (by simpa using h1), if_neg (by simpa using h2), if_pos (by simpa using h3)]
        simp [hne]
    · have hne : u ≠ v := fun e => h2 (by rw [e])
      rw [if_neg (by simpa using h1), if_pos (by simpa using h2)]
      simp [hne]
  · have hne : u ≠ v := fun e => h1 (by rw [e])
    rw [if_pos (by simpa using h1)]
    simp [hne]
def zeroP : tPred := ⟨0, [], 0, []⟩
def trueP : tPred := ⟨2, [], 1, []⟩
def falseP : tPred := ⟨2, [], 0, []⟩
def voidB (p : tPred) : Bool := decide (p = zeroP) || decide (p = trueP)
theorem void_eq (p : tPred) (hp : nP p ≤ bigN) : pred_void p = some (voidB p) := by
  have h1 : pred_Same p (⟨0, ([] : Str), 0, ([] : List tPred)⟩ : tPred) = some (decide (p = zeroP)) := same_eq p zeroP hp
  have h2 : pred_Same p (⟨2, ([] : Str), 1, ([] : List tPred)⟩ : tPred) = some (decide (p = trueP)) := same_eq p trueP hp
  unfold pred_void pred_constant voidB
  rw [h1]
  simp only [Option.bind_some, if_true, h2]
  cases decide (p = zeroP) <;> rfl
theorem nP_true : nP trueP ≤ bigN := by decide
theorem nP_zero : nP zeroP ≤ bigN := by decide
theorem nP_false : nP falseP ≤ bigN := by decide
theorem rvoid_eq (p : tPred) : R07_Void p = some (voidB p) := by
  have h1 : R07_Same p (⟨0, ([] : Str), 0, ([] : List tPred)⟩ : tPred) = some (decide (p = zeroP)) := rsame_eq p zeroP nP_zero
  have h2 : R07_Same p (⟨2, ([] : Str), 1, ([] : List tPred)⟩ : tPred) = some (decide (p = trueP)) := rsame_eq p trueP nP_true
  unfold R07_Void R07_True voidB
  simp only [Option.bind_some, h2, h1]
  cases decide (p = trueP) <;> cases decide (p = zeroP) <;> rfl
end Go.Proofs.YtgldgpdhblndkaaGreatDoor
namespace Go.Proofs.YtgldgpdhblndkaaGreatDoor
open Go
set_option linter.unusedVariables false
theorem runL_fold {α σ X : Type} (g : α → σ → σ) (e : σ → X) : ∀ (l : List α) (i : Nat) (s : σ), runL (fun _ x (s : σ) => (Sum.inl (g x s) : σ ⊕ X)) e l i s = e (l.foldl (fun s x => g x s) s)
  | [], i, s => by simp [runL]
  | x :: l, i, s => by
    unfold runL
    simp only
    rw [runL_fold g e l (i + 1) (g x s)]
    rfl
theorem loop_fold {α σ τ X : Type} (l : List α) (hl : l.length < 9223372036854775808) (mk : Int → σ → τ) (body : τ → Option (τ ⊕ X)) (I : Nat → σ → Prop) (g : α → σ → σ) (e : σ → X) (s0 : σ) (h0 : I 0 s0)
    (hin : ∀ (i : Nat) (h : i < l.length) s, I i s → body (mk i s) = some (.inl (mk (w64 ((i : Int) + 1)) (g l[i] s))) ∧ I (i + 1) (g l[i] s)) (hend : ∀ s, I l.length s → body (mk l.length s) = some (.inr (e s))) :
    loop body (mk 0 s0) = some (e (l.foldl (fun s x => g x s) s0)) := by
  have := loop_run l hl mk body I (fun _ x s => .inl (g x s)) e (fun i h s hs => ⟨(hin i h s hs).1, fun s' hs' => by cases hs'; exact (hin i h s hs).2⟩) (fun s hs => hend s hs) 0 s0 (Nat.zero_le _) h0
  rw [runL_fold] at this
  exact this
theorem nL_take (l : List tPred) (i : Nat) (h : i < l.length) : nL (l.take (i + 1)) = nL (l.take i) + nP l[i] := by
  rw [List.take_succ_eq_append_getElem h, nL_append]
  simp [nL]
theorem nL_take_le (l : List tPred) (i : Nat) : nL (l.take i) ≤ nL l := by
  have := nL_append (l.take i) (l.drop i)
  rw [List.take_append_drop] at this
  omega
theorem foldl_n : ∀ (l : List tPred) (a : Int), l.foldl (fun s x => s + (nP x : Int)) a = a + (nL l : Int)
  | [], a => by simp [nL]
  | x :: l, a => by rw [List.foldl_cons, foldl_n l, nL]; omega
theorem nodes_eq (p : tPred) (hp : nP p ≤ bigN) : R07_Nodes p = some (nP p : Int) := by
  refine fixE_of (F := R07_Nodes_F) nP (fun x => nP x ≤ bigN) (fun x => (nP x : Int)) (fun R x hx ih => ?_) p hp (lt_big hp)
  show R07_Nodes_B (fun p => R p) x = _
  unfold R07_Nodes_B R07_Nodes_L1
  have hlen := kids_len x
  have hn := nP_eq x
  rw [loop_fold x.Kids (by unfold bigN at hx; omega) (fun i s => (s, i)) _ (fun i s => s = 1 + (nL (x.Kids.take i) : Int)) (fun x s => s + (nP x : Int)) id 1 (by simp [nL]) (fun i hi s hs => ?_) (fun s _ => ?_)]
  · rw [foldl_n]
    simp only [id, Option.bind_some]
    rw [hn]; congr 1; omega
  · have hm := List.getElem_mem hi
    have hk := kid_lt hm
    refine ⟨?_, by rw [nL_take _ _ hi, hs]; omega⟩
    unfold R07_Nodes_L1_b
    rw [if_pos (by simp; omega), idx_nat x.Kids i hi]
    simp only [Option.bind_some]
    rw [ih _ hk (by omega)]
    simp only [Option.bind_some]
    have h1 := nL_take_le x.Kids i
    have h2 := nL_take_le x.Kids (i + 1)
    have h3 := nL_take x.Kids i hi
    unfold bigN at hx
    rw [w64_eq (n := s + _) (by omega) (by omega)]
  · unfold R07_Nodes_L1_b
    rw [if_neg (by simp)]
    rfl
theorem any_eq {α : Type} [DecidableEq α] (v : α) (l : List α) : l.any (fun x => decide (v = x)) = decide (v ∈ l) := by
  rw [Bool.eq_iff_iff]
  simp
theorem has_eq (l : List tPred) (v : tPred) (hv : nP v ≤ bigN) (hl : l.length < 9223372036854775808) : pred_has l v = some (decide (v ∈ l)) := by
  unfold pred_has pred_has_L1
  have h := loop_any l hl (fun zz => pred_has_L1_b v l (l.length : Int) zz) (fun x => decide (v = x)) (.inl ()) (.inr ()) (fun i hi => ?_) ?_ 0 (Nat.zero_le _)
  · rw [List.drop_zero, any_eq] at h
    rw [show ((0 : Nat) : Int) = 0 from rfl] at h
    rw [h]
    by_cases hm : v ∈ l <;> simp [hm]
  · show pred_has_L1_b v l (l.length : Int) (i : Int) = _
    unfold pred_has_L1_b
    rw [if_pos (by simp; omega), idx_nat l i hi]
    simp only [Option.bind_some]
    rw [same_eq v _ hv]
    by_cases he : v = l[i] <;> simp [he]
  · show pred_has_L1_b v l (l.length : Int) (l.length : Int) = _
    unfold pred_has_L1_b
    rw [if_neg (by simp)]
theorem rhas_eq (l : List tPred) (v : tPred) (hv : nP v ≤ bigN) (hl : l.length < 9223372036854775808) : R07_Has l v = some (decide (v ∈ l)) := by
  unfold R07_Has R07_Has_L1
  have h := loop_any l hl (fun zz => R07_Has_L1_b v l (l.length : Int) zz) (fun x => decide (v = x)) (.inl ()) (.inr ()) (fun i hi => ?_) ?_ 0 (Nat.zero_le _)
  · rw [List.drop_zero, any_eq] at h
    rw [show ((0 : Nat) : Int) = 0 from rfl] at h
    rw [h]
    by_cases hm : v ∈ l <;> simp [hm]
  · show R07_Has_L1_b v l (l.length : Int) (i : Int) = _
    unfold R07_Has_L1_b
    rw [if_pos (by simp; omega), idx_nat l i hi]
    simp only [Option.bind_some]
    rw [rsame_eq _ v hv]
    by_cases he : v = l[i]
    · simp [he]
    · have he' : ¬ l[i] = v := fun h => he h.symm
      simp [he, he']
  · show R07_Has_L1_b v l (l.length : Int) (l.length : Int) = _
    unfold R07_Has_L1_b
    rw [if_neg (by simp)]
mutual
def innP (op : Int) : tPred → List tPred → List tPred
  | ⟨o, n, k, ks⟩, a => let a' := innL op ks a
    if o = op ∧ (⟨o, n, k, ks⟩ : tPred) ∉ a' then a' ++ [⟨o, n, k, ks⟩] else a'
def innL (op : Int) : List tPred → List tPred → List tPred
  | [], a => a
  | p :: ps, a => innL op ps (innP op p a)
end
theorem innP_eq (op : Int) (p : tPred) (a : List tPred) : innP op p a = if p.Op = op ∧ p ∉ innL op p.Kids a then innL op p.Kids a ++ [p] else innL op p.Kids a := by
  obtain ⟨o, n, k, ks⟩ := p
  rw [innP]; rfl
theorem innL_fold (op : Int) : ∀ (l a : List tPred), l.foldl (fun s x => innP op x s) a = innL op l a
  | [], a => by rw [innL]; rfl
  | p :: l, a => by rw [List.foldl_cons, innL_fold op l, innL]
mutual
theorem innP_len (op : Int) : ∀ (p : tPred) (a : List tPred), (innP op p a).length ≤ a.length + nP p
  | ⟨o, n, k, ks⟩, a => by
    have := innL_len op ks a
    rw [innP, nP]
    show (if o = op ∧ (⟨o, n, k, ks⟩ : tPred) ∉ innL op ks a then innL op ks a ++ [⟨o, n, k, ks⟩] else innL op ks a).length ≤ a.length + (nL ks + 1)
    split
    · simp only [List.length_append, List.length_singleton]
      omega
    · omega
theorem innL_len (op : Int) : ∀ (l a : List tPred), (innL op l a).length ≤ a.length + nL l
  | [], a => by rw [innL, nL]; omega
  | p :: l, a => by
    have := innP_len op p a
    have := innL_len op l (innP op p a)
    rw [innL, nL]
    omega
end
theorem innL_take (op : Int) (l a : List tPred) (i : Nat) (h : i < l.length) : innL op (l.take (i + 1)) a = innP op l[i] (innL op (l.take i) a) := by
  rw [← innL_fold, ← innL_fold, List.take_succ_eq_append_getElem h, List.foldl_append]
  rfl
theorem inner_eq (p : tPred) (op : Int) (a : List tPred) (hp : nP p + a.length ≤ bigN) : pred_inner p op a = some (innP op p a) := by
  refine fixE_of (F := pred_inner_F) (fun x => nP x.1) (fun x => nP x.1 + x.2.2.length ≤ bigN) (fun x => innP x.2.1 x.1 x.2.2) (fun R x hx ih => ?_) (p, op, a) hp (lt_big (by show nP p ≤ bigN; omega))
  obtain ⟨p, op, a⟩ := x
  have hx : nP p + a.length ≤ bigN := hx
  show pred_inner_B (fun p op a => R (p, op, a)) p op a = some (innP op p a)
  unfold pred_inner_B pred_inner_L1
  have hlen := kids_len p
  have hn := nP_eq p
  rw [loop_fold p.Kids (by unfold bigN at hx; omega) (fun i s => (s, i)) _ (fun i s => s = innL op (p.Kids.take i) a) (fun x s => innP op x s) id a (by simp [innL]) (fun i hi s hs => ?_) (fun s _ => ?_)]
  · simp only [id, Option.bind_some]
    rw [innL_fold]
    have hl := innL_len op p.Kids a
    unfold pred_inner_J2
    rw [innP_eq]
    by_cases h1 : p.Op = op
    · rw [if_pos (by simpa using h1), has_eq _ p (by omega) (by unfold bigN at hx; omega)]
      simp only [Option.bind_some]
      by_cases h2 : p ∈ innL op p.Kids a
      · simp [h2]
      · simp only [h2, decide_false, Bool.not_false, if_true, copied_eq p (by omega), Option.bind_some, not_false_eq_true, and_true]
        rw [app_eq (by unfold bigN at hx; simp; omega)]
        simp [h1]
    · rw [if_neg (by simpa using h1)]
      simp [h1]
  · have hm := List.getElem_mem hi
    have hk := kid_lt hm
    refine ⟨?_, by rw [innL_take _ _ _ _ hi, hs]⟩
    unfold pred_inner_L1_b
    rw [if_pos (by simp; omega), idx_nat p.Kids i hi]
    simp only [Option.bind_some]
    have h1 := innL_len op (p.Kids.take i) a
    have h2 := nL_take_le p.Kids (i + 1)
    have h3 := nL_take p.Kids i hi
    rw [ih (p.Kids[i], op, s) hk (by show nP p.Kids[i] + s.length ≤ bigN; rw [hs]; omega)]
    rfl
  · unfold pred_inner_L1_b
    rw [if_neg (by simp)]
    rfl
theorem collect_eq (p : tPred) (op : Int) (a : List tPred) (hp : nP p + a.length ≤ bigN) : R07_collect p op a = some (innP op p a) := by
  refine fixE_of (F := R07_collect_F) (fun x => nP x.1) (fun x => nP x.1 + x.2.2.length ≤ bigN) (fun x => innP x.2.1 x.1 x.2.2) (fun R x hx ih => ?_) (p, op, a) hp (lt_big (by show nP p ≤ bigN; omega))
  obtain ⟨p, op, a⟩ := x
  have hx : nP p + a.length ≤ bigN := hx
  show R07_collect_B (fun p op a => R (p, op, a)) p op a = some (innP op p a)
  unfold R07_collect_B R07_collect_L1
  have hlen := kids_len p
  have hn := nP_eq p
  rw [loop_fold p.Kids (by unfold bigN at hx; omega) (fun i s => (s, i)) _ (fun i s => s = innL op (p.Kids.take i) a) (fun x s => innP op x s) id a (by simp [innL]) (fun i hi s hs => ?_) (fun s _ => ?_)]
  · simp only [id, Option.bind_some]
    rw [innL_fold]
    have hl := innL_len op p.Kids a
    unfold R07_collect_J2
    rw [innP_eq]
    by_cases h1 : p.Op = op
    · rw [if_pos (by simpa using h1), rhas_eq _ p (by omega) (by unfold bigN at hx; omega)]
      simp only [Option.bind_some]
      by_cases h2 : p ∈ innL op p.Kids a
      · simp [h2]
      · simp only [h2, decide_false, Bool.not_false, if_true, not_false_eq_true, and_true]
        rw [app_eq (by unfold bigN at hx; simp; omega)]
        simp [h1]
    · rw [if_neg (by simpa using h1)]
      simp [h1]
  · have hm := List.getElem_mem hi
    have hk := kid_lt hm
    refine ⟨?_, by rw [innL_take _ _ _ _ hi, hs]⟩
    unfold R07_collect_L1_b
    rw [if_pos (by simp; omega), idx_nat p.Kids i hi]
    simp only [Option.bind_some]
    have h1 := innL_len op (p.Kids.take i) a
    have h2 := nL_take_le p.Kids (i + 1)
    have h3 := nL_take p.Kids i hi
    rw [ih (p.Kids[i], op, s) hk (by show nP p.Kids[i] + s.length ≤ bigN; rw [hs]; omega)]
    rfl
  · unfold R07_collect_L1_b
    rw [if_neg (by simp)]
    rfl
end Go.Proofs.YtgldgpdhblndkaaGreatDoor
namespace Go.Proofs.YtgldgpdhblndkaaGreatDoor
open Go
set_option linter.unusedVariables false
mutual
def splitP : tPred → List tPred
  | ⟨o, n, k, ks⟩ => if o = 15 ∧ ks.length = 2 then splitL ks else if voidB ⟨o, n, k, ks⟩ = true then [] else [⟨o, n, k, ks⟩]
def splitL : List tPred → List tPred
  | [] => []
  | p :: ps => splitP p ++ splitL ps
end
theorem splitP_eq (p : tPred) : splitP p = if p.Op = 15 ∧ p.Kids.length = 2 then splitL p.Kids else if voidB p = true then [] else [p] := by
  obtain ⟨o, n, k, ks⟩ := p
  rw [splitP]; rfl
mutual
theorem splitP_n : ∀ (p : tPred), nL (splitP p) ≤ nP p
  | ⟨o, n, k, ks⟩ => by
    have := splitL_n ks
    rw [splitP, nP]
    split
    · omega
    · split
      · simp [nL]
      · simp only [nL, nP]; omega
theorem splitL_n : ∀ (l : List tPred), nL (splitL l) ≤ nL l
  | [] => by simp [splitL]
  | p :: l => by
    have := splitP_n p
    have := splitL_n l
    rw [splitL, nL_append, nL]
    omega
end
theorem split_eq (p : tPred) (hp : nP p ≤ bigN) : pred_Split p = some (splitP p) := by
  refine fixE_of (F := pred_Split_F) nP (fun x => nP x ≤ bigN) splitP (fun R x hx ih => ?_) p hp (lt_big hp)
  show pred_Split_B (fun p => R p) x = _
  unfold pred_Split_B pred_Split_J1
  rw [splitP_eq]
  have two : x.Op = 15 → x.Kids.length = 2 → ∃ a b, x.Kids = [a, b] := fun _ h => by
    match x.Kids, h with
    | [a, b], _ => exact ⟨a, b, rfl⟩
  by_cases h1 : x.Op = 15
  · rw [if_pos (by simpa using h1)]
    by_cases h2 : x.Kids.length = 2
    · obtain ⟨a, b, hk⟩ := two h1 h2
      have ha : a ∈ x.Kids := by rw [hk]; simp
      have hb : b ∈ x.Kids := by rw [hk]; simp
      have ka := kid_lt ha
      have kb := kid_lt hb
      rw [if_pos ⟨h1, h2⟩]
      simp only [h2, Option.bind_some]
      rw [if_pos (by simp), hk]
      rw [show idx [a, b] 0 = some a from rfl, show idx [a, b] 1 = some b from rfl]
      simp only [Option.bind_some]
      rw [ih a ka (by omega), ih b kb (by omega)]
      simp only [Option.bind_some]
      have l1 := nL_len (splitP a)
      have l2 := nL_len (splitP b)
      have l3 := splitP_n a
      have l4 := splitP_n b
      have hs : nP a + nP b < nP x := by rw [nP_eq x, hk]; simp only [nL]; omega
      rw [app_eq (by unfold bigN at hx; omega)]
      simp [splitL]
    · simp only [Option.bind_some]
      rw [if_neg (by simp; omega), if_neg (fun h => h2 h.2), void_eq x hx]
      simp only [Option.bind_some, copied_eq x hx]
      by_cases hv : voidB x = true <;> simp [hv]
  · rw [if_neg (by simpa using h1)]
    simp only [Option.bind_some, Bool.false_eq_true, if_false]
    rw [if_neg (fun h => h1 h.1), void_eq x hx]
    simp only [Option.bind_some, copied_eq x hx]
    by_cases hv : voidB x = true <;> simp [hv]
theorem rsplit_eq (p : tPred) (hp : nP p ≤ bigN) : R07_Split p = some (splitP p) := by
  refine fixE_of (F := R07_Split_F) nP (fun x => nP x ≤ bigN) splitP (fun R x hx ih => ?_) p hp (lt_big hp)
  show R07_Split_B (fun p => R p) x = _
  unfold R07_Split_B R07_Split_J1
  rw [splitP_eq]
  have two : x.Kids.length = 2 → ∃ a b, x.Kids = [a, b] := fun h => by
    match x.Kids, h with
    | [a, b], _ => exact ⟨a, b, rfl⟩
  by_cases h1 : x.Op = 15
  · rw [if_pos (by simpa using h1)]
    by_cases h2 : x.Kids.length = 2
    · obtain ⟨a, b, hk⟩ := two h2
      have ha : a ∈ x.Kids := by rw [hk]; simp
      have hb : b ∈ x.Kids := by rw [hk]; simp
      have ka := kid_lt ha
      have kb := kid_lt hb
      rw [if_pos ⟨h1, h2⟩]
      simp only [h2, Option.bind_some]
      rw [if_pos (by simp), hk]
      rw [show idx [a, b] 0 = some a from rfl, show idx [a, b] 1 = some b from rfl]
      simp only [Option.bind_some]
      have l1 := nL_len (splitP a)
      have l2 := nL_len (splitP b)
      have l3 := splitP_n a
      have l4 := splitP_n b
      have hs : nP a + nP b < nP x := by rw [nP_eq x, hk]; simp only [nL]; omega
      rw [ih a ka (by omega), ih b kb (by omega)]
      simp only [Option.bind_some]
      rw [app_eq (by unfold bigN at hx; simp; omega)]
      simp only [Option.bind_some, List.nil_append]
      rw [app_eq (by unfold bigN at hx; omega)]
      simp [splitL]
    · simp only [Option.bind_some]
      rw [if_neg (by simp; omega), if_neg (fun h => h2 h.2), rvoid_eq x]
      simp only [Option.bind_some]
      by_cases hv : voidB x = true <;> simp [hv]
  · rw [if_neg (by simpa using h1)]
    simp only [Option.bind_some, Bool.false_eq_true, if_false]
    rw [if_neg (fun h => h1 h.1), rvoid_eq x]
    simp only [Option.bind_some]
    by_cases hv : voidB x = true <;> simp [hv]
end Go.Proofs.YtgldgpdhblndkaaGreatDoor
namespace Go.Proofs.YtgldgpdhblndkaaGreatDoor
open Go
set_option linter.unusedVariables false
set_option linter.unusedSimpArgs false
def andS (s : Option tPred) (x : tPred) : tPred := match s with
  | none => x
  | some q => ⟨15, [], 0, [q, x]⟩
def andR : List tPred → Option tPred → tPred
  | [], s => s.getD trueP
  | x :: l, s => if voidB x = true then andR l s else if x = falseP then falseP else andR l (some (andS s x))
abbrev T8 : Type := Int × Str × Int × List tPred × Int × Str × Int × List tPred
def t8 (a b : tPred) : T8 := (a.Op, a.Name, a.N, a.Kids, b.Op, b.Name, b.N, b.Kids)
def andPost : T8 ⊕ T8 → tPred
  | .inl o => ⟨o.1, o.2.1, o.2.2.1, o.2.2.2.1⟩
  | .inr o => ⟨o.2.2.2.2.1, o.2.2.2.2.2.1, o.2.2.2.2.2.2.1, o.2.2.2.2.2.2.2⟩
def andF (x : tPred) (s : Option tPred) : Option tPred ⊕ (T8 ⊕ T8) :=
  if voidB x = true then .inl s else if x = falseP then .inr (.inl (t8 falseP (s.getD trueP))) else .inl (some (andS s x))
theorem andR_run : ∀ (l : List tPred) (i : Nat) (s : Option tPred), andPost (runL (fun _ x s => andF x s) (fun s => .inr (t8 zeroP (s.getD trueP))) l i s) = andR l s
  | [], i, s => by simp [runL, andR, andPost, t8, eta_tPred]
  | x :: l, i, s => by
    unfold runL andR andF
    by_cases h1 : voidB x = true
    · simp only [h1, if_true]
      exact andR_run l (i + 1) s
    · by_cases h2 : x = falseP
      · simp only [h1, h2, if_true]
        rfl
      · simp only [h1, h2, if_false]
        exact andR_run l (i + 1) _
theorem void_false : voidB falseP = false := by decide
theorem void_and (q x : tPred) : voidB ⟨15, [], 0, [q, x]⟩ = false := by
  unfold voidB
  simp [zeroP, trueP]
theorem void_true : voidB trueP = true := by decide
theorem and_eq (l : List tPred) (hl : ∀ x ∈ l, nP x ≤ bigN) (hn : l.length < 9223372036854775808) : pred_And l = some (andR l none) := by
  unfold pred_And pred_And_L1
  have h := loop_run l hn (fun i (s : Option tPred) => (s.isSome, i, (0 : Int), ([] : Str), (0 : Int), ([] : List tPred), (s.getD trueP).Op, (s.getD trueP).Name, (s.getD trueP).N, (s.getD trueP).Kids))
    (fun zz => pred_And_L1_b l (l.length : Int) zz.1 zz.2.1 zz.2.2.1 zz.2.2.2.1 zz.2.2.2.2.1 zz.2.2.2.2.2.1 zz.2.2.2.2.2.2.1 zz.2.2.2.2.2.2.2.1 zz.2.2.2.2.2.2.2.2.1 zz.2.2.2.2.2.2.2.2.2) (fun _ _ => True) (fun _ x s => andF x s) (fun s => .inr (t8 zeroP (s.getD trueP)))
    (fun i hi s _ => ⟨?_, fun _ _ => trivial⟩) (fun s _ => ?_) 0 none (Nat.zero_le _) trivial
  · have hr := andR_run l 0 none
    rw [List.drop_zero] at h
    have hc : pred_constant true = some trueP := rfl
    rw [hc]
    simp only [Option.bind_some]
    have h' : loop (fun (zz : Bool × Int × Int × Str × Int × (List tPred) × Int × Str × Int × (List tPred)) => pred_And_L1_b l (l.length : Int) zz.1 zz.2.1 zz.2.2.1 zz.2.2.2.1 zz.2.2.2.2.1 zz.2.2.2.2.2.1 zz.2.2.2.2.2.2.1 zz.2.2.2.2.2.2.2.1 zz.2.2.2.2.2.2.2.2.1 zz.2.2.2.2.2.2.2.2.2) (false, 0, 0, ([] : Str), 0, ([] : List tPred), trueP.Op, trueP.Name, trueP.N, trueP.Kids) = _ := h
    rw [h']
    simp only [Option.bind_some]
    rw [← hr]
    cases runL (fun _ x s => andF x s) (fun s => Sum.inr (t8 zeroP (s.getD trueP))) l 0 none <;> rfl
  · show pred_And_L1_b l (l.length : Int) s.isSome (i : Int) 0 [] 0 [] _ _ _ _ = _
    unfold pred_And_L1_b andF
    have hx := hl _ (List.getElem_mem hi)
    rw [if_pos (by simp; omega), idx_nat l i hi]
    simp only [Option.bind_some]
    generalize l[i] = x at hx
    rw [void_eq x hx]
    simp only [Option.bind_some]
    by_cases h1 : voidB x = true
    · simp only [h1, if_true]
    · have hc : pred_constant false = some falseP := rfl
      simp only [h1, if_false, hc, Option.bind_some, same_eq x falseP hx]
      by_cases h2 : x = falseP
      · simp only [h2, decide_true, if_true]
        rfl
      · simp only [h2, decide_false, if_false, Bool.false_eq_true, copied_eq x hx, Option.bind_some]
        cases s with
        | none => simp [andS]
        | some q =>
          simp [andS, eta_tPred]
          exact ⟨rfl, rfl, rfl, rfl⟩
  · show pred_And_L1_b l (l.length : Int) s.isSome (l.length : Int) 0 [] 0 [] _ _ _ _ = _
    unfold pred_And_L1_b
    rw [if_neg (by simp)]
    rfl
end Go.Proofs.YtgldgpdhblndkaaGreatDoor
namespace Go.Proofs.YtgldgpdhblndkaaGreatDoor
open Go
set_option linter.unusedVariables false
set_option linter.unusedSimpArgs false
theorem rand_eq (l : List tPred) (hn : l.length < 9223372036854775808) : R07_And l = some (andR l none) := by
  unfold R07_And R07_And_L1
  have h := loop_run l hn (fun i (s : Option tPred) => (i, (0 : Int), ([] : Str), (0 : Int), ([] : List tPred), (s.getD trueP).Op, (s.getD trueP).Name, (s.getD trueP).N, (s.getD trueP).Kids))
    (fun zz => R07_And_L1_b l (l.length : Int) zz.1 zz.2.1 zz.2.2.1 zz.2.2.2.1 zz.2.2.2.2.1 zz.2.2.2.2.2.1 zz.2.2.2.2.2.2.1 zz.2.2.2.2.2.2.2.1 zz.2.2.2.2.2.2.2.2) (fun _ s => ∀ q, s = some q → voidB q = false) (fun _ x s => andF x s) (fun s => .inr (t8 zeroP (s.getD trueP)))
    (fun i hi s hs => ⟨?_, fun s' hs' => ?_⟩) (fun s _ => ?_) 0 none (Nat.zero_le _) (fun q hq => by cases hq)
  · have hr := andR_run l 0 none
    rw [List.drop_zero] at h
    have hc : R07_True = some trueP := rfl
    rw [hc]
    simp only [Option.bind_some]
    have h' : loop (fun (zz : Int × Int × Str × Int × (List tPred) × Int × Str × Int × (List tPred)) => R07_And_L1_b l (l.length : Int) zz.1 zz.2.1 zz.2.2.1 zz.2.2.2.1 zz.2.2.2.2.1 zz.2.2.2.2.2.1 zz.2.2.2.2.2.2.1 zz.2.2.2.2.2.2.2.1 zz.2.2.2.2.2.2.2.2) (0, 0, ([] : Str), 0, ([] : List tPred), trueP.Op, trueP.Name, trueP.N, trueP.Kids) = _ := h
    rw [h']
    simp only [Option.bind_some]
    rw [← hr]
    cases runL (fun _ x s => andF x s) (fun s => Sum.inr (t8 zeroP (s.getD trueP))) l 0 none <;> rfl
  · show R07_And_L1_b l (l.length : Int) (i : Int) 0 [] 0 [] _ _ _ _ = _
    unfold R07_And_L1_b andF
    rw [if_pos (by simp; omega), idx_nat l i hi]
    simp only [Option.bind_some]
    generalize l[i] = x
    have hc : R07_False = some falseP := rfl
    rw [hc]
    simp only [Option.bind_some, rsame_eq x falseP nP_false]
    by_cases h2 : x = falseP
    · subst h2
      simp only [decide_true, if_true, void_false, Bool.false_eq_true, if_false]
      rfl
    · simp only [h2, decide_false, if_false, Bool.false_eq_true, rvoid_eq, Option.bind_some]
      by_cases h1 : voidB x = true
      · simp only [h1, if_true]
      · simp only [h1, if_false, eta_tPred, Bool.false_eq_true]
        cases s with
        | none => simp [andS, void_true]
        | some q =>
          have hq := hs q rfl
          simp [andS, hq]
          exact ⟨rfl, rfl, rfl, rfl⟩
  · unfold andF at hs'
    intro q hq
    split at hs'
    · cases hs'; exact hs q hq
    · split at hs'
      · cases hs'
      · rename_i h1 _
        cases hs'
        cases hq
        cases s with
        | none => simpa [andS] using h1
        | some q' => exact void_and _ _
  · show R07_And_L1_b l (l.length : Int) (l.length : Int) 0 [] 0 [] _ _ _ _ = _
    unfold R07_And_L1_b
    rw [if_neg (by simp)]
    rfl
end Go.Proofs.YtgldgpdhblndkaaGreatDoor
namespace Go.Proofs.YtgldgpdhblndkaaGreatDoor
open Go
set_option linter.unusedVariables false
set_option linter.unusedSimpArgs false
theorem find_mem {l : List Str} {v : Str} : (match l.findIdx? (fun x => x == v) with | some j => (j : Int) | none => -1) ≥ 0 ↔ v ∈ l := by
  cases h : l.findIdx? (fun x => x == v) with
  | none =>
    rw [List.findIdx?_eq_none_iff] at h
    simp only
    constructor
    · intro h'; omega
    · intro hm; have := h v hm; simp at this
  | some j =>
    obtain ⟨hj, h1, _⟩ := List.findIdx?_eq_some_iff_getElem.1 h
    simp only
    constructor
    · intro _
      have : l[j] = v := by simpa using h1
      exact this ▸ List.getElem_mem hj
    · intro _; omega
theorem rfind_eq (l : List Str) (v : Str) (hl : l.length < 9223372036854775808) : R04_Find l v = some (match l.findIdx? (fun x => x == v) with | some j => (j : Int) | none => -1) := by
  unfold R04_Find R04_Find_L1
  have h := loop_find l hl (fun zz => R04_Find_L1_b l v (l.length : Int) zz) (fun x => x == v) (fun j => Sum.inl (j : Int)) (.inr ()) (fun i hi => ?_) ?_
  · rw [h]
    simp only [Option.bind_some]
    cases l.findIdx? (fun x => x == v) <;> rfl
  · show R04_Find_L1_b l v (l.length : Int) (i : Int) = _
    unfold R04_Find_L1_b
    rw [if_pos (by simp; omega), idx_nat l i hi]
    simp only [Option.bind_some]
    by_cases he : (l[i] == v) = true <;> simp [he]
  · show R04_Find_L1_b l v (l.length : Int) (l.length : Int) = _
    unfold R04_Find_L1_b
    rw [if_neg (by simp)]
theorem index_eq (l : List Str) (v : Str) (hl : l.length < 9223372036854775808) : slices_Index l v = some (match l.findIdx? (fun x => x == v) with | some j => (j : Int) | none => -1) := by
  unfold slices_Index slices_Index_L1
  have h := loop_find l hl (fun zz => slices_Index_L1_b l v (l.length : Int) zz) (fun x => x == v) (fun j => Sum.inl (j : Int)) (.inr ()) (fun i hi => ?_) ?_
  · rw [h]
    simp only [Option.bind_some]
    cases l.findIdx? (fun x => x == v) <;> rfl
  · show slices_Index_L1_b l v (l.length : Int) (i : Int) = _
    unfold slices_Index_L1_b
    rw [if_pos (by simp; omega), idx_nat l i hi]
    simp only [Option.bind_some]
    by_cases he : v = l[i]
    · subst he; simp
    · have he' : ¬ l[i] = v := fun h => he h.symm
      simp [he, he']
  · show slices_Index_L1_b l v (l.length : Int) (l.length : Int) = _
    unfold slices_Index_L1_b
    rw [if_neg (by simp)]
theorem contains_eq (l : List Str) (v : Str) (hl : l.length < 9223372036854775808) : slices_Contains l v = some (decide (v ∈ l)) := by
  unfold slices_Contains
  rw [index_eq l v hl]
  simp only [Option.bind_some]
  congr 1
  exact decide_eq_decide.2 find_mem
end Go.Proofs.YtgldgpdhblndkaaGreatDoor
