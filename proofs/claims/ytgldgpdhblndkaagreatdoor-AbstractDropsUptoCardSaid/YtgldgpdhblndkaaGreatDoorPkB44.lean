/-
  WHAT IS PROVED: parts of the proof, put together by a program out of smaller texts (LawDrops; Pal; PdA; Pp7; Pp8; Pp9). Conditions: none.
-/
import Derived.Test.YtgldgpdhblndkaaGreatDoorPkB43
import Derived.Test.YtgldgpdhblndkaaGreatDoorPkB42
import Derived.Test.YtgldgpdhblndkaaGreatDoorCards
import Derived.Test.YtgldgpdhblndkaaGreatDoorTie
import Derived.Test.YtgldgpdhblndkaaGreatDoorPkB26
import Derived.Test.YtgldgpdhblndkaaGreatDoorPkB30
import Derived.Deep.DeepHandedRow
import Derived.SizedLaws
namespace Go.Proofs.YtgldgpdhblndkaaGreatDoor
open Go
set_option linter.unusedVariables false
set_option linter.unusedSimpArgs false
def appliesB (p : tPred) (names : List Str) : Bool := (innP 4 p []).any (fun x => decide (x.Name ∈ names))
theorem rapplies_eq (p : tPred) (names : List Str) (hp : nP p ≤ bigN) (hl : names.length < 9223372036854775808) : R35_applies p names = some (appliesB p names) := by
  unfold R35_applies R07_Apps
  rw [collect_eq p 4 [] (by simpa using hp)]
  simp only [Option.bind_some]
  have hlen : (innP 4 p []).length < 9223372036854775808 := by
    have := innP_len 4 p []
    simp at this
    unfold bigN at hp
    omega
  unfold R35_applies_L1 appliesB
  generalize innP 4 p [] = r at hlen
  have h := loop_any r hlen (fun zz => R35_applies_L1_b names r (r.length : Int) zz) (fun x => decide (x.Name ∈ names)) (.inl ()) (.inr ()) (fun i hi => ?_) ?_ 0 (Nat.zero_le _)
  · rw [List.drop_zero] at h
    rw [show ((0 : Nat) : Int) = 0 from rfl] at h
    rw [h]
    cases r.any (fun x => decide (x.Name ∈ names)) <;> rfl
  · show R35_applies_L1_b names r (r.length : Int) (i : Int) = _
    unfold R35_applies_L1_b
    rw [if_pos (by simp; omega), idx_nat r i hi]
    simp only [Option.bind_some]
    rw [rfind_eq names _ hl]
    simp only [Option.bind_some]
    by_cases he : r[i].Name ∈ names
    · rw [if_pos (decide_eq_true (find_mem.2 he))]; simp [he]
    · rw [if_neg (fun h => he (find_mem.1 (of_decide_eq_true h)))]; simp [he]
  · show R35_applies_L1_b names r (r.length : Int) (r.length : Int) = _
    unfold R35_applies_L1_b
    rw [if_neg (by simp)]
end Go.Proofs.YtgldgpdhblndkaaGreatDoor
namespace Go.Proofs.YtgldgpdhblndkaaGreatDoor
open Go
set_option linter.unusedVariables false
set_option linter.unusedSimpArgs false
theorem containsFunc_eq (r : List tPred) (names : List Str) (hr : r.length < 9223372036854775808) (hl : names.length < 9223372036854775808) : slices_ContainsFunc r names = some (r.any (fun x => decide (x.Name ∈ names))) := by
  unfold slices_ContainsFunc slices_IndexFunc_3 slices_IndexFunc_3_L1
  have h := loop_find r hr (fun zz => slices_IndexFunc_3_L1_b r names (r.length : Int) zz) (fun x => decide (x.Name ∈ names)) (fun j => Sum.inl (j : Int)) (.inr ()) (fun i hi => ?_) ?_
  · rw [h]
    simp only [Option.bind_some]
    cases hf : r.findIdx? (fun x => decide (x.Name ∈ names)) with
    | none =>
      rw [List.findIdx?_eq_none_iff] at hf
      have : r.any (fun x => decide (x.Name ∈ names)) = false := by
        rw [List.any_eq_false]
        intro x hx; simp [hf x hx]
      rw [this]; rfl
    | some j =>
      obtain ⟨hj, h1, _⟩ := List.findIdx?_eq_some_iff_getElem.1 hf
      have : r.any (fun x => decide (x.Name ∈ names)) = true := List.any_eq_true.2 ⟨_, List.getElem_mem hj, h1⟩
      rw [this]
      simp only [Option.bind_some]
      rw [decide_eq_true (by omega)]
  · show slices_IndexFunc_3_L1_b r names (r.length : Int) (i : Int) = _
    unfold slices_IndexFunc_3_L1_b abstract_Drop_1
    rw [if_pos (by simp; omega), idx_nat r i hi]
    simp only [Option.bind_some]
    rw [contains_eq names _ hl]
    by_cases he : r[i].Name ∈ names <;> simp [he]
  · show slices_IndexFunc_3_L1_b r names (r.length : Int) (r.length : Int) = _
    unfold slices_IndexFunc_3_L1_b
    rw [if_neg (by simp)]
theorem fold_filter (f : tPred → Bool) : ∀ (l a : List tPred), l.foldl (fun s x => if f x = true then s else s ++ [x]) a = a ++ l.filter (fun x => !f x)
  | [], a => by simp
  | x :: l, a => by
    rw [List.foldl_cons, fold_filter f l]
    by_cases h : f x = true <;> simp [h]
theorem drop_eq (p : tPred) (names : List Str) (hp : nP p ≤ bigN) (hl : names.length < 9223372036854775808) : abstract_Drop p names = some (andR ((splitP p).filter (fun x => !appliesB x names)) none) := by
  unfold abstract_Drop
  rw [split_eq p hp]
  simp only [Option.bind_some]
  have hn := splitP_n p
  have hlen := nL_len (splitP p)
  have hmem : ∀ x ∈ splitP p, nP x ≤ bigN := fun x hx => by have := nL_mem hx; omega
  unfold abstract_Drop_L1
  rw [loop_fold (splitP p) (by unfold bigN at hp; omega) (fun i s => (s, i)) _ (fun i s => s.length ≤ i) (fun x s => if appliesB x names = true then s else s ++ [x]) id [] (by simp) (fun i hi s hs => ?_) (fun s _ => ?_)]
  · simp only [id, Option.bind_some]
    rw [fold_filter, List.nil_append]
    rw [and_eq _ (fun x hx => hmem x (List.mem_filter.1 hx).1) (by
      have := List.length_filter_le (fun x => !appliesB x names) (splitP p)
      unfold bigN at hp; omega)]
    rfl
  · have hx := hmem _ (List.getElem_mem hi)
    refine ⟨?_, ?_⟩
    rotate_left
    · show (if appliesB (splitP p)[i] names = true then s else s ++ [(splitP p)[i]]).length ≤ i + 1
      split
      · omega
      · rw [List.length_append, List.length_singleton]; omega
    unfold abstract_Drop_L1_b
    rw [if_pos (by simp; omega), idx_nat (splitP p) i hi]
    simp only [Option.bind_some]
    generalize (splitP p)[i] = x at hx
    unfold pred_Apps
    rw [inner_eq x 4 [] (by simpa using hx)]
    simp only [Option.bind_some]
    have h4 := innP_len 4 x []
    simp at h4
    rw [containsFunc_eq _ names (by unfold bigN at hx; omega) hl]
    simp only [Option.bind_some]
    show (if (!appliesB x names) = true then _ else _) = _
    by_cases he : appliesB x names = true
    · simp [he]
    · simp only [he, Bool.not_false, if_true, if_false, Bool.false_eq_true]
      rw [app_eq (by unfold bigN at hp; simp; omega)]
      rfl
  · unfold abstract_Drop_L1_b
    rw [if_neg (by simp)]
    rfl
theorem rdrop_eq (p : tPred) (names : List Str) (hp : nP p ≤ bigN) (hl : names.length < 9223372036854775808) : R35_Drop p names = some (andR ((splitP p).filter (fun x => !appliesB x names)) none) := by
  unfold R35_Drop
  rw [rsplit_eq p hp]
  simp only [Option.bind_some]
  have hn := splitP_n p
  have hlen := nL_len (splitP p)
  have hmem : ∀ x ∈ splitP p, nP x ≤ bigN := fun x hx => by have := nL_mem hx; omega
  unfold R35_Drop_L1
  rw [loop_fold (splitP p) (by unfold bigN at hp; omega) (fun i s => (s, i)) _ (fun i s => s.length ≤ i) (fun x s => if appliesB x names = true then s else s ++ [x]) id [] (by simp) (fun i hi s hs => ?_) (fun s _ => ?_)]
  · simp only [id, Option.bind_some]
    rw [fold_filter, List.nil_append]
    rw [rand_eq _ (by
      have := List.length_filter_le (fun x => !appliesB x names) (splitP p)
      unfold bigN at hp; omega)]
    rfl
  · have hx := hmem _ (List.getElem_mem hi)
    refine ⟨?_, ?_⟩
    rotate_left
    · show (if appliesB (splitP p)[i] names = true then s else s ++ [(splitP p)[i]]).length ≤ i + 1
      split
      · omega
      · rw [List.length_append, List.length_singleton]; omega
    unfold R35_Drop_L1_b
    rw [if_pos (by simp; omega), idx_nat (splitP p) i hi]
    simp only [Option.bind_some]
    generalize (splitP p)[i] = x at hx
    rw [rapplies_eq x names hx hl]
    simp only [Option.bind_some]
    by_cases he : appliesB x names = true
    · simp [he]
    · simp only [he, Bool.not_false, if_true, if_false, Bool.false_eq_true]
      rw [app_eq (by unfold bigN at hp; simp; omega)]
      rfl
  · unfold R35_Drop_L1_b
    rw [if_neg (by simp)]
    rfl
end Go.Proofs.YtgldgpdhblndkaaGreatDoor
namespace Go.Proofs.YtgldgpdhblndkaaGreatDoor
open Go
set_option linter.unusedVariables false
set_option linter.unusedSimpArgs false
mutual
def subP (x : tPred) : tPred → Prop
  | ⟨o, n, k, ks⟩ => x = ⟨o, n, k, ks⟩ ∨ subL x ks
def subL (x : tPred) : List tPred → Prop
  | [] => False
  | p :: ps => subP x p ∨ subL x ps
end
theorem subP_eq (x p : tPred) : subP x p ↔ x = p ∨ subL x p.Kids := by
  obtain ⟨o, n, k, ks⟩ := p
  rw [subP]
  rfl
theorem subL_iff (x : tPred) : ∀ (l : List tPred), subL x l ↔ ∃ p ∈ l, subP x p
  | [] => by simp [subL]
  | p :: l => by rw [subL, subL_iff x l]; simp
mutual
theorem innP_mem (op : Int) (x : tPred) : ∀ (p : tPred) (a : List tPred), x ∈ innP op p a ↔ x ∈ a ∨ (x.Op = op ∧ subP x p)
  | ⟨o, n, k, ks⟩, a => by
    have ih := innL_mem op x ks a
    rw [innP, subP]
    show x ∈ (if o = op ∧ (⟨o, n, k, ks⟩ : tPred) ∉ innL op ks a then innL op ks a ++ [⟨o, n, k, ks⟩] else innL op ks a) ↔ _
    by_cases h1 : o = op
    · by_cases h2 : (⟨o, n, k, ks⟩ : tPred) ∈ innL op ks a
      · rw [if_neg (fun h => h.2 h2), ih]
        constructor
        · rintro (h | ⟨h, h'⟩)
          · exact .inl h
          · exact .inr ⟨h, .inr h'⟩
        · rintro (h | ⟨h, h' | h'⟩)
          · exact .inl h
          · subst h'; exact ih.1 h2
          · exact .inr ⟨h, h'⟩
      · rw [if_pos ⟨h1, h2⟩, List.mem_append, ih, List.mem_singleton]
        constructor
        · rintro ((h | ⟨h, h'⟩) | h)
          · exact .inl h
          · exact .inr ⟨h, .inr h'⟩
          · exact .inr ⟨by rw [h]; exact h1, .inl h⟩
        · rintro (h | ⟨h, h' | h'⟩)
          · exact .inl (.inl h)
          · exact .inr h'
          · exact .inl (.inr ⟨h, h'⟩)
    · rw [if_neg (fun h => h1 h.1), ih]
      constructor
      · rintro (h | ⟨h, h'⟩)
        · exact .inl h
        · exact .inr ⟨h, .inr h'⟩
      · rintro (h | ⟨h, h' | h'⟩)
        · exact .inl h
        · subst h'; exact absurd h h1
        · exact .inr ⟨h, h'⟩
theorem innL_mem (op : Int) (x : tPred) : ∀ (l a : List tPred), x ∈ innL op l a ↔ x ∈ a ∨ (x.Op = op ∧ subL x l)
  | [], a => by rw [innL, subL]; simp
  | p :: l, a => by
    have h1 := innP_mem op x p a
    have h2 := innL_mem op x l (innP op p a)
    rw [innL, subL, h2, h1]
    constructor
    · rintro ((h | ⟨h, h'⟩) | ⟨h, h'⟩)
      · exact .inl h
      · exact .inr ⟨h, .inl h'⟩
      · exact .inr ⟨h, .inr h'⟩
    · rintro (h | ⟨h, h' | h'⟩)
      · exact .inl (.inl h)
      · exact .inl (.inr ⟨h, h'⟩)
      · exact .inr ⟨h, h'⟩
end
theorem sub_true {x : tPred} (h : subP x trueP) : x.Op ≠ 4 := by
  rw [subP_eq] at h
  rcases h with rfl | h
  · decide
  · have h : subL x [] := h
    rw [subL] at h
    exact h.elim
theorem sub_false {x : tPred} (h : subP x falseP) : x.Op ≠ 4 := by
  rw [subP_eq] at h
  rcases h with rfl | h
  · decide
  · have h : subL x [] := h
    rw [subL] at h
    exact h.elim
theorem sub_and {x : tPred} : ∀ {l : List tPred} {s : Option tPred}, x.Op = 4 → subP x (andR l s) → (∃ p ∈ l, subP x p) ∨ ∃ q, s = some q ∧ subP x q
  | [], none, ho, h => absurd ho (sub_true h)
  | [], some q, ho, h => .inr ⟨q, rfl, h⟩
  | p :: l, s, ho, h => by
    rw [andR] at h
    split at h
    · rcases sub_and ho h with ⟨y, hy, h'⟩ | h'
      · exact .inl ⟨y, List.mem_cons_of_mem _ hy, h'⟩
      · exact .inr h'
    · split at h
      · exact absurd ho (sub_false h)
      · rcases sub_and ho h with ⟨y, hy, h'⟩ | ⟨q, hq, h'⟩
        · exact .inl ⟨y, List.mem_cons_of_mem _ hy, h'⟩
        · cases hq
          cases s with
          | none => exact .inl ⟨p, List.mem_cons_self, h'⟩
          | some q =>
            have h' : subP x (⟨15, [], 0, [q, p]⟩ : tPred) := h'
            rw [subP] at h'
            rcases h' with h' | h'
            · rw [h'] at ho
              exact absurd (show (15 : Int) = 4 from ho) (by decide)
            · rw [subL_iff] at h'
              obtain ⟨y, hy, h2⟩ := h'
              simp only [List.mem_cons, List.not_mem_nil, or_false] at hy
              rcases hy with rfl | rfl
              · exact .inr ⟨_, rfl, h2⟩
              · exact .inl ⟨_, List.mem_cons_self, h2⟩
theorem applies_iff (p : tPred) (names : List Str) : appliesB p names = true ↔ ∃ x, x.Op = 4 ∧ subP x p ∧ x.Name ∈ names := by
  unfold appliesB
  rw [List.any_eq_true]
  constructor
  · rintro ⟨x, hx, h⟩
    rw [innP_mem] at hx
    rcases hx with hx | ⟨h1, h2⟩
    · cases hx
    · exact ⟨x, h1, h2, of_decide_eq_true h⟩
  · rintro ⟨x, h1, h2, h3⟩
    exact ⟨x, (innP_mem 4 x p []).2 (.inr ⟨h1, h2⟩), decide_eq_true h3⟩
theorem applies_and (l : List tPred) (names : List Str) (h : ∀ p ∈ l, appliesB p names = false) : appliesB (andR l none) names = false := by
  rw [Bool.eq_false_iff]
  intro he
  obtain ⟨x, h1, h2, h3⟩ := (applies_iff _ _).1 he
  rcases sub_and h1 h2 with ⟨p, hp, h4⟩ | ⟨q, hq, _⟩
  · have := h p hp
    rw [(applies_iff p names).2 ⟨x, h1, h4, h3⟩] at this
    cases this
  · cases hq
theorem andR_n : ∀ (l : List tPred) (s : Option tPred), nP (andR l s) ≤ 2 * nL l + (s.elim 1 nP)
  | [], none => by simp [andR, nP, nL, trueP]
  | [], some q => by simp [andR, nL]
  | p :: l, s => by
    rw [andR, nL]
    have h1 := andR_n l s
    have h2 := andR_n l (some (andS s p))
    have h3 := nP_pos p
    have h4 : (s.elim 1 nP) ≥ 1 := by cases s with | none => simp | some q => exact nP_pos q
    split
    · omega
    · split
      · simp [falseP, nP, nL]; omega
      · refine Nat.le_trans h2 ?_
        cases s with
        | none => simp [andS]; omega
        | some q => simp [andS, nP, nL]; omega
end Go.Proofs.YtgldgpdhblndkaaGreatDoor
namespace Go.Proofs.YtgldgpdhblndkaaGreatDoor
open Go
theorem alive_true : W35_alive = some true := by kernel_rfl
end Go.Proofs.YtgldgpdhblndkaaGreatDoor
namespace Go.Proofs.YtgldgpdhblndkaaGreatDoor
open Go
set_option linter.unusedVariables false
set_option linter.unusedSimpArgs false
theorem names_le (l : List Str) : l.length ≤ pm (sl cS l) := by
  have h := pmLL_len (l.map cS) (fun x hx => by
    obtain ⟨s, _, rfl⟩ := List.mem_map.1 hx
    simp only [cS, pmL, pm]; omega)
  rw [List.length_map] at h
  simp only [sl, pm]
  omega
theorem nL_filter (f : tPred → Bool) : ∀ (l : List tPred), nL (l.filter f) ≤ nL l
  | [] => by simp [nL]
  | x :: l => by
    have := nL_filter f l
    rw [List.filter_cons]
    split
    · rw [nL, nL]; omega
    · rw [nL]; omega
theorem plainDrops (p : tPred) (names : List Str) (h : pmL (c_tPred p) + (pm (sl cS names) + 0) ≤ 1048576) : W35_AbstractDrops p names = some true := by
  have h1 := nP_pm p
  have h2 := names_le names
  have hp : nP p ≤ bigN := by unfold bigN; omega
  have hl : names.length < 9223372036854775808 := by omega
  unfold W35_AbstractDrops W35_AbstractDrops_J1
  rw [nodes_eq p hp]
  simp only [Option.bind_some]
  by_cases h3 : decide ((nP p : Int) > 600) = true
  · simp only [h3, if_true, Option.bind_some, alive_true]
  · simp only [h3, if_false, Option.bind_some, Bool.false_eq_true]
    by_cases h4 : decide ((names.length : Int) > 20) = true
    · simp only [h4, if_true, alive_true, Option.bind_some]
    · simp only [h4, if_false, Bool.false_eq_true]
      rw [drop_eq p names hp hl, rdrop_eq p names hp hl]
      simp only [Option.bind_some]
      have hn : nP (andR ((splitP p).filter (fun x => !appliesB x names)) none) ≤ 3000000 := by
        have g1 := andR_n ((splitP p).filter (fun x => !appliesB x names)) none
        have g2 := nL_filter (fun x => !appliesB x names) (splitP p)
        have g3 := splitP_n p
        simp only [Option.elim] at g1
        omega
      have ha := applies_and ((splitP p).filter (fun x => !appliesB x names)) names (fun q hq => by
        have := (List.mem_filter.1 hq).2
        simpa using this)
      generalize andR ((splitP p).filter (fun x => !appliesB x names)) none = q at hn ha
      have hq : nP q ≤ bigN := by unfold bigN; omega
      rw [rsame_eq q q hq]
      simp only [Option.bind_some, decide_true, Bool.not_true, if_false, Bool.false_eq_true]
      unfold R07_Apps
      rw [collect_eq q 4 [] (by simpa using hq)]
      simp only [Option.bind_some]
      have h5 := innP_len 4 q []
      unfold appliesB at ha
      generalize innP 4 q [] = r at h5 ha
      rw [List.length_nil] at h5
      unfold W35_AbstractDrops_L2
      have hloop := loop_all r (by omega) (fun zz => W35_AbstractDrops_L2_b names r (r.length : Int) zz) (Sum.inr () : Unit ⊕ Unit) (fun i hi => ?_) ?_
      · rw [hloop]
        simp only [Option.bind_some, alive_true]
      · show W35_AbstractDrops_L2_b names r (r.length : Int) (i : Int) = _
        unfold W35_AbstractDrops_L2_b
        rw [if_pos (by simp; omega), idx_nat r i hi]
        simp only [Option.bind_some]
        rw [rfind_eq names _ hl]
        simp only [Option.bind_some]
        have he : r[i].Name ∉ names := by
          rw [List.any_eq_false] at ha
          have := ha _ (List.getElem_mem hi)
          simpa using this
        rw [if_neg (fun h => he (find_mem.1 (of_decide_eq_true h)))]
      · show W35_AbstractDrops_L2_b names r (r.length : Int) (r.length : Int) = _
        unfold W35_AbstractDrops_L2_b
        rw [if_neg (by simp)]
end Go.Proofs.YtgldgpdhblndkaaGreatDoor
namespace Go.Proofs.YtgldgpdhblndkaaGreatDoor.lawAbstractDrops
open Go Go.ChangeShapes Go.WideShapes Go.ChangeAt Go.RowKit
set_option maxRecDepth 100000
set_option linter.unusedVariables false
theorem own : ownKnob Tryz.prog.godebug = none := by kernel_rfl
theorem lo : laidOutB Tryz.prog = true := by kernel_rfl
theorem flat : Flat Tryz.prog [31, 28, 9, 3, 29, 22] := flat_of (by kernel_rfl)
theorem rd : ∀ t ∈ Tryz.f6.params.toList, Tryz.prog.readableRec t = true ∧ t < Tryz.prog.types.size := by
  rw [Tryz.params6]
  intro t ht
  simp at ht
  rcases ht with rfl | rfl
  all_goals exact ⟨by kernel_rfl, of_decide_eq_true (by kernel_rfl)⟩
theorem tabs {W : World} (h : laidMet Tryz.prog Rows.abstractDropsUptoRow.laid W) : ∀ x ∈ GE, GOk W x := by
  intro x hx
  simp only [GE, List.mem_cons, List.not_mem_nil, or_false] at hx
  rcases hx with rfl | rfl | rfl
  · exact gok_ints (name := "internal/strconv.uint64pow10") h (.tail _ <| .tail _ <| .head _) (by kernel_rfl) (by kernel_rfl) (by kernel_rfl) Tryz.underlying202 Tryz.underlying182 co182 co202
  · exact gok_ints (name := "math/bits.deBruijn32tab") h (.head _) (by kernel_rfl) (by kernel_rfl) (by kernel_rfl) Tryz.underlying208 Tryz.underlying5 co5 co208
  · exact gok_ints (name := "math/bits.deBruijn64tab") h (.tail _ <| .head _) (by kernel_rfl) (by kernel_rfl) (by kernel_rfl) Tryz.underlying209 Tryz.underlying5 co5 co209
theorem contract (H : Type) (enc : TypeId × Value → H) (W : World) (base : Nat) (args : Array Value) (ds gs : List (DataW H)) (before : List MemPlace)
    (hval : ∀ (j : Nat) t v, Tryz.f6.params[j]? = some t → args[j]? = some v → Value.okWide Tryz.prog W .any base t v)
    (hW : DataW.Whole enc Tryz.prog Tryz.f6.params.toList Rows.abstractDropsSpec.vars false W args.toList ds gs before) (hL : laidMet Tryz.prog Rows.abstractDropsUptoRow.laid W) (hb : Rows.uptoBulkAll (ds ++ gs) ≤ 1048576) :
    Calls Tryz.prog 6 args W fun e W' => ∃ v, e = .returned v ∧ Rows.abstractDropsSpec.post enc Tryz.prog Tryz.f6 false true false false W args v W' := by
  have hW' := hW
  obtain ⟨p, q, hA0, hV, rfl, hfz, hnd⟩ := hW
  have hA : DataW.TrodAll enc Tryz.prog W 0 (fun _ => true) true Tryz.f6.params.toList args.toList ds p := hA0
  obtain ⟨rfl, rfl⟩ := trodVars_none hV
  rw [Tryz.params6] at hA hval
  obtain ⟨v0, vs0, d0, ds0, p0, q0, hargs0, rfl, rfl, h0, r0⟩ := trodAll_cons hA
  obtain ⟨v1, vs1, d1, ds1, p1, q1, hargs1, rfl, rfl, h1, r1⟩ := trodAll_cons r0
  obtain ⟨rfl, rfl, rfl⟩ := trodAll_nil r1
  subst hargs1
  obtain rfl : args = #[v0, v1] := by cases args; simp_all
  obtain ⟨n0, l0, e0, s0, k0⟩ := in_struct flat (by decide) Tryz.underlying31 h0 (hval 0 31 v0 rfl rfl)
  obtain ⟨x0, rfl⟩ := in_tPred n0 l0 s0
  obtain ⟨n1, l1, e1, s1, k1⟩ := in_slice flat (by decide) Tryz.underlying22 h1 (hval 1 22 v1 rfl rfl)
  obtain ⟨x1, z1⟩ := (in_l Tryz.underlying22 (in_s Tryz.underlying9)) n1 _ s1
  obtain rfl := one_of (f := sl cS) rfl z1
  have hs := plainDrops x0 x1 (by simp only [List.append_nil, Rows.uptoBulkAll] at hb; omega)
  refine (start_calls (pargs := [.agg (c_tPred x0), sl cS x1]) (W35_AbstractDrops_ok hs).2 rfl (fun i p v hp hv => ?_) (tabs hL)).mono fun e W' he => ?_
  · match i, hp, hv with
    | 0, hp, hv => cases hp; cases hv; exact e0
    | 1, hp, hv => cases hp; cases hv; exact e1
    | i + 2, hp, hv => simp at hp
  · exact ⟨_, he.1, law_post (t := 4) lo (by kernel_rfl) Tryz.underlying4 rfl ⟨rfl, rfl, rfl⟩ rd hW' he.2⟩
noncomputable def laidWorld (os : Os) : World := layAt (World.holding Tryz.prog os ⟨#[], #[], []⟩) (tabsOf GE)
theorem laid_met (os : Os) : laidMet Tryz.prog Rows.abstractDropsUptoRow.laid ((laidWorld os).forCall (fun _ _ => 0) ⟨#[], #[.agg #[.int .i64 0, .string ⟨#[]⟩, .int .i64 0, .slice none 0 0], .slice none 0 0], []⟩).memory :=
  laidMet_of_run' 8 (by kernel_rfl) (by kernel_rfl)
theorem reads (os : Os) {H : Type} (enc : TypeId × Value → H) : ∃ places, DataW.whole enc Tryz.prog ((laidWorld os).forCall (fun _ _ => 0) ⟨#[], #[.agg #[.int .i64 0, .string ⟨#[]⟩, .int .i64 0, .slice none 0 0], .slice none 0 0], []⟩).memory Tryz.f6.params.toList Rows.abstractDropsSpec.vars false (#[.agg #[.int .i64 0, .string ⟨#[]⟩, .int .i64 0, .slice none 0 0], .slice none 0 0] : Array Value).toList 8 = some ([.agg [.lit (.int .i64 0), .lit (.string []), .lit (.int .i64 0), .nil], .nil], [], places) :=
  ⟨[], by kernel_rfl⟩
theorem lifted (os : Os) (started : os.Started) (H : Type) (enc : TypeId × Value → H) (F : Stop.Interp) :
    ReturnsInHanded {} Tryz.checked os 6 .any ((Rows.OpenSpec.upto Rows.abstractDropsSpec).preRow enc Tryz.prog Tryz.f6 Rows.abstractDropsUptoRow.domain false Rows.abstractDropsUptoRow.laid) (((Rows.OpenSpec.upto Rows.abstractDropsSpec).at F).post enc Tryz.prog Tryz.f6 false true false false) := by
  obtain ⟨places, hx⟩ := reads os enc
  refine returnsInHanded_of_row (C := Tryz.checked) (s := Rows.OpenSpec.upto Rows.abstractDropsSpec) own started (by kernel_rfl) Tryz.func6
    (witness_row_at (enc := enc) (C := Tryz.checked) false (laidWorld os) #[.agg #[.int .i64 0, .string ⟨#[]⟩, .int .i64 0, .slice none 0 0], .slice none 0 0] rfl (by kernel_rfl) (by kernel_rfl) (by kernel_rfl)
      (OpenSpec.preRow_of_cond 8 hx (by kernel_rfl) (fun k hk => by cases hk; kernel_rfl) (by kernel_rfl) (laid_met os))) ?_
  intro W base args ds gs before hval hW _ hk _ hL _ _
  exact contract H enc W base args ds gs before hval hW hL (of_decide_eq_true (hk _ rfl))
theorem said : Rows.AbstractDropsUptoSaid :=
  OpenClaim.holds_of_cond 6 Tryz.f6 rfl rfl rfl rfl rfl rfl rfl ⟨rfl, rfl, rfl, rfl, rfl⟩ rfl rfl rfl rfl rfl (by kernel_rfl) Tryz.func6 (by kernel_rfl)
    (of_decide_eq_true (by kernel_rfl)) (by unfold Func.isWrapper; first | (rw [if_pos (by decide +kernel)]; kernel_rfl) | (rw [if_neg (by decide +kernel)]; exact ⟨rfl, rfl⟩))
    (fun os started H enc _ F => by rw [OpenClaim.pre_eq_preRow]; exact lifted os started H enc F)
theorem plain (f : FuncId) (fn : Func) (hf : Tryz.pinned.checked.prog.funcNamed "liquidcheck/liquidchecklaw35.AbstractDrops" = some f) (hfn : Tryz.pinned.checked.prog.funcs[f]? = some fn) :
    false = Tryz.pinned.checked.prog.looks [] ∧ ∀ (j : Nat) t, fn.params[j]? = some t → Tryz.pinned.checked.prog.wantsStandIn t = false := by
  obtain rfl : f = 6 := Option.some.inj ((show Tryz.prog.funcNamed "liquidcheck/liquidchecklaw35.AbstractDrops" = some 6 by kernel_rfl).symm.trans hf) |>.symm
  obtain rfl : fn = Tryz.f6 := (Option.some.inj (Tryz.func6.symm.trans hfn)).symm
  refine ⟨by kernel_rfl, fun j t ht => ?_⟩
  rw [Tryz.params6] at ht
  have hm := Array.mem_of_getElem? ht
  simp at hm
  rcases hm with rfl | rfl
  all_goals exact (show Tryz.prog.wantsStandIn _ = false by kernel_rfl)
theorem card : Rows.AbstractDropsUptoCardSaid :=
  Claim7.holds_tied_plain_at .later [] _ _ _ _ said (fun _ h => by cases h) (by kernel_rfl) (fun _ h => by cases h) abstractDropsUpto_row_tie rfl ⟨rfl, rfl⟩ (by kernel_rfl) rfl plain (by kernel_rfl)
end Go.Proofs.YtgldgpdhblndkaaGreatDoor.lawAbstractDrops
