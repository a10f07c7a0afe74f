/-
  WHAT IS PROVED: what strconv.Itoa, slices.Sort and slices.Compact at texts, and names.Union come to, as functions of plain data; the library's contracts are the kit's. Conditions: none.
-/
import Derived.Test.YtgiimiklbabhcaaDoorSatF
import Derived.Test.YtgiimiklbabhcaaDoorGT
import Derived.Test.YtgiimiklbabhcaaDoorSh
import Derived.Shelf.Strconv.Itoa3
import Derived.Shelf.Sort.Plain
import Derived.Shelf.Slices.In.CompactS
import Derived.Shelf.Slices.In.SortNone
namespace Go.Proofs.YtgiimiklbabhcaaDoor
open Go Go.Sort
set_option maxRecDepth 100000

noncomputable def itoaF (n : Int) : Option Str := if (decide (-9223372036854775808 ≤ n) && decide (n ≤ 9223372036854775807)) = true then some (Lib.itoa n) else none
theorem pow10_eq : internal_strconv_uint64pow10 = Lib.pow10Tab := by kernel_rfl
theorem itoa_ok {n : Int} {r : Str} (h : itoaF n = some r) : CC Pg GE 41 [.int .i64 n] (.str r) [] := by
  rcases ifs h with ⟨b, h⟩ | ⟨b, h⟩
  · obtain rfl := lf h
    simp only [Bool.and_eq_true, decide_eq_true_eq] at b
    refine CC.grownIS Tryd.call41 fun E Γ bs ow w a st hE hS => ?_
    have htab : Lib.TabIs Pg w "internal/strconv.uint64pow10" .u64 Lib.pow10Tab := tab_of hS (g := 1) (by rw [hE, ← pow10_eq]; simp [GE]) (by kernel_rfl)
    refine (Any.strconv_Itoa Tryd.laysM171 n b.1 b.2 w htab).mono fun e w' he => ?_
    obtain ⟨rfl, k, os, rfl⟩ := he
    exact ⟨rfl, .of_grow _ _ _⟩
  · cases h

noncomputable def sortS (l : List Str) : List Str := l.mergeSort fun x y => decide (x ≤ y)

theorem holds_of {w : World} {b : Nat} {cur : Array Value} {e : TypeId} {l : List Str} (hh : w.heap[b]? = some (.cells cur e (0, 0))) (ht : cur.toList.take l.length = l.map fun s => Value.string ⟨s.toArray⟩) : Holds encStr w b 0 l.toArray := by
  intro j hj
  have hj' : j < l.length := by simpa using hj
  rw [Nat.zero_add]
  refine ⟨?_, frozen_of_row w b j cur e hh⟩
  rw [cell_of_row w b j cur e _ hh]
  have h1 : (cur.toList.take l.length)[j]? = (l.map fun s => Value.string ⟨s.toArray⟩)[j]? := by rw [ht]
  rw [List.getElem?_take_of_lt hj'] at h1
  simp only [Array.getElem?_toList, List.getElem?_map, List.getElem?_eq_getElem hj', Option.map_some] at h1
  rw [h1, getElem!_pos _ j hj]
  simp [encStr]

theorem row_after {w : World} {b n : Nat} {cur : Array Value} {e : TypeId} {os : Array Obj} (d l : List Str) (hh : w.heap[b]? = some (.cells cur e (0, 0))) (hd : d.length ≤ cur.size) (hl : d.take l.length = l) :
    (∀ b', b' < w.heap.size → b' ≠ b → (grow (putRow encStr (Sort.ahead w n) b 0 d.toArray) os).heap[b']? = w.heap[b']?) ∧ w.heap.size ≤ (grow (putRow encStr (Sort.ahead w n) b 0 d.toArray) os).heap.size ∧
      ∃ cur', (grow (putRow encStr (Sort.ahead w n) b 0 d.toArray) os).heap[b]? = some (.cells cur' e (0, 0)) ∧ cur'.size = cur.size ∧ cur'.toList.take l.length = l.map fun s => Value.string ⟨s.toArray⟩ := by
  have hb : b < w.heap.size := (Array.getElem?_eq_some_iff.1 hh).1
  have hsz : (putRow encStr (Sort.ahead w n) b 0 d.toArray).heap.size = w.heap.size := by simp [putRow, mapBlock, Sort.ahead]
  refine ⟨fun b' h1 h2 => ?_, ?_, putCells encStr 0 d.toArray cur, ?_, by simp [putCells], ?_⟩
  · show ((putRow encStr (Sort.ahead w n) b 0 d.toArray).heap ++ os)[b']? = _
    rw [Array.getElem?_append_left (by rw [hsz]; exact h1)]
    show (w.heap.modify b (onCells _))[b']? = _
    rw [Array.getElem?_modify, if_neg (fun e => h2 e.symm)]
  · show _ ≤ ((putRow encStr (Sort.ahead w n) b 0 d.toArray).heap ++ os).size
    rw [Array.size_append, hsz]; omega
  · show ((putRow encStr (Sort.ahead w n) b 0 d.toArray).heap ++ os)[b]? = _
    rw [Array.getElem?_append_left (by rw [hsz]; exact hb)]
    show (w.heap.modify b (onCells _))[b]? = _
    rw [Array.getElem?_modify, if_pos rfl, hh]
    rfl
  · have hll : l.length ≤ d.length := by have h0 := congrArg List.length hl; rw [List.length_take] at h0; omega
    refine List.ext_getElem? fun i => ?_
    by_cases hi : i < l.length
    · have hdl : i < d.length := by omega
      have hdi : d[i] = l[i] := by
        have h1 : (d.take l.length)[i]? = l[i]? := by rw [hl]
        rw [List.getElem?_take_of_lt hi, List.getElem?_eq_getElem hdl, List.getElem?_eq_getElem hi] at h1
        exact Option.some.inj h1
      rw [List.getElem?_take_of_lt hi]
      simp only [Array.getElem?_toList, putCells, Array.getElem?_mapIdx, List.getElem?_map, List.getElem?_eq_getElem hi, Option.map_some]
      have hc : cur[i]? = some (cur[i]'(by omega)) := Array.getElem?_eq_getElem (by omega)
      rw [hc]
      simp only [Option.map_some]
      rw [if_pos ⟨Nat.zero_le _, by simp; omega⟩, Nat.sub_zero, getElem!_pos _ i (by simpa using hdl)]
      simp [encStr, hdi]
    · rw [List.getElem?_eq_none (by simp [putCells]; omega), List.getElem?_eq_none (by simp; omega)]

theorem sortS_length (l : List Str) : (sortS l).length = l.length := by unfold sortS; exact List.length_mergeSort _
theorem app_lt {n : Nat} (h : n ≤ appMax) : n < 4611686018427387904 := by unfold appMax at h; omega

theorem sort_in : InPl Pg 44 9 (fun s => Value.string ⟨s.toArray⟩) sortS (fun _ _ _ => .tuple #[]) := {
  call := Tryd.call44
  row := fun w b cap cur l hh hc hl hm hla ht => by
    have hlen := app_lt hla
    refine (Any.slices_Sort_string Tryd.lays190 b 0 cap l w (holds_of hh ht) ((Array.getElem?_eq_some_iff.1 hh).1) hlen).mono fun r w' hr => ?_
    obtain ⟨rfl, n, os, rfl⟩ := hr
    obtain ⟨k1, k2, cur', k3, k4, k5⟩ := row_after (n := n) (os := os) (sortS l) (sortS l) hh (by rw [sortS_length]; omega) (List.take_length)
    exact ⟨rfl, by rw [sortS_length]; exact hl, rfl, rfl, rfl, k2, k1, cur', k3, by omega, k5⟩
  none := fun w => ⟨by simp [sortS], Any.slices_Sort_string_none Tryd.lays190 Option.none 0 w⟩ }

theorem compact_take (l : List Str) : (Lib.compact l ++ List.replicate (l.length - (Lib.compact l).length) []).take (Lib.compact l).length = Lib.compact l := by simp
theorem compact_len (l : List Str) : (Lib.compact l).length ≤ l.length := by
  unfold Lib.compact Lib.compactUpTo
  rw [List.length_map]
  exact Nat.le_trans (List.length_filter_le _ _) (by simp)

theorem compact_in : InPl Pg 45 9 (fun s => Value.string ⟨s.toArray⟩) Lib.compact (fun x k c => .slice x k c) := {
  call := Tryd.call45
  row := fun w b cap cur l hh hc hl hm hla ht => by
    have hlen := app_lt hla
    refine (calls_of_every_depth fun D => AnyS.slices_Compact_string_in Tryd.lays194 D b 0 cap l w (holds_of hh ht) (by omega) hl).mono fun r w' hr => ?_
    obtain ⟨rfl, q, rfl⟩ := hr
    have hcl := compact_len l
    obtain ⟨k1, k2, cur', k3, k4, k5⟩ := row_after (n := q) (os := #[]) (Lib.compact l ++ List.replicate (l.length - (Lib.compact l).length) []) (Lib.compact l) hh (by simp; omega) (compact_take l)
    rw [grow_empty] at k1 k2 k3
    exact ⟨rfl, by omega, rfl, rfl, rfl, k2, k1, cur', k3, by omega, k5⟩
  none := fun w => ⟨by rfl, calls_of_every_depth fun D => AnyS.slices_Compact_string_empty_in Tryd.lays194 D Option.none 0 w⟩ }

/-! names.Union -/
noncomputable def names_Union (a b : List Str) : Option (List Str) := (app ([] : List Str) a).bind fun l => (app l b).bind fun l2 => some (Lib.compact (sortS l2))
noncomputable def bUnion : Code := Tryd.f22.body.getD .skip
theorem coS : Pg.cellsOf 9 = 1 := by kernel_rfl
theorem uUnion1 (l : List Str) (h : l.length ≤ appMax) : Sat Pg GE 0 (codeAt bUnion [true, true, false]) (EX .normal (own1 15 5 (sortS l) 9)) (own1 15 5 l 9) :=
  Sat.inplace (t := 5) (d1 := 11) (d2 := 12) sort_in coS h rfl rfl rfl rfl rfl rfl (by decide) (.inl ⟨rfl, sortS_length l⟩)
theorem uUnion2 (l : List Str) (h : l.length ≤ appMax) : Sat Pg GE 0 (codeAt bUnion [true, true, true, false]) (EX .normal (own1 15 4 (Lib.compact l) 9)) (own1 15 5 l 9) :=
  Sat.inplace3 (t := 5) (d1 := 13) (d2 := 14) compact_in coS h rfl rfl rfl rfl rfl rfl (by decide) (fun _ _ _ => rfl) rfl rfl rfl (by decide) (by decide)
theorem app_len {α : Type} {l r z : List α} (h : app l r = some z) : z.length ≤ appMax := by
  unfold app at h
  split at h
  · cases h; simpa using ‹_›
  · cases h
theorem names_Union_ok {a b : List Str} {r : List Str} (h : names_Union a b = some r) : CC Pg GE 22 [sl cS a, sl cS b] (sl cS r) [(0, 9)] := by
  obtain ⟨l, bl, h⟩ := bnd h
  obtain ⟨l2, bl2, h⟩ := bnd h
  obtain rfl := lf h
  have h2 := app_len bl2
  have h3 : (sortS l2).length ≤ appMax := by rw [sortS_length]; exact h2
  exact C.ev (A := [8, 10]) mixed Tryd.call22 Tryd.func22 (c := bUnion) rfl (aI (cl_sl clS a) <| aI (cl_sl clS b) trivial)
    [.v (sl cS ([] : List Str)), .v (sl cS l), .v (sl cS l2), .pa 0, .pc (own1 15 5 l2 9) .normal (own1 15 5 (sortS l2) 9), .pa 0, .pc (own1 15 5 (sortS l2) 9) .normal (own1 15 4 (Lib.compact (sortS l2)) 9)]
    (Eq.mp (by kernel_rfl) (aI (sT26.mk' (v := PVal.str) pcS ([] : List Str) 0 (by kernel_rfl)) <| aI (sT26.ap bl) <| aI (sT26.ap bl2) <| aI (fr (own1 15 5 l2 9)) <| aI (uUnion1 l2 h2) <|
      aI (fr (own1 15 5 (sortS l2) 9)) <| aI (uUnion2 (sortS l2) h3) <| aI (rP (sl cS (Lib.compact (sortS l2)))) (cl_sl clS (Lib.compact (sortS l2)))))
end Go.Proofs.YtgiimiklbabhcaaDoor
