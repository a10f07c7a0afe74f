/-
  WHAT IS PROVED: what a row's listed tables give the abstract machine: whole numbers and texts; a world for a row's witness that holds the tables. No program in sight. Conditions: none.
-/
import Derived.Test.YtgiimiklbabhcaaDoorBrA
import Derived.LaidLaws
namespace Go.Proofs.YtgiimiklbabhcaaDoor
open Go Go.RowKit Go.WideShapes Go.ChangeShapes Go.ChangeAt

section
variable {P : Program} {W : World}

theorem laid_mem : ∀ {laid : List (String × DataW Unit)} {ps : List MemPlace} {name : String} {d : DataW Unit}, DataW.LaidVars P W laid ps → (name, d) ∈ laid →
    ∃ g t cs fuel p, P.globalNamed name = some g ∧ (P.globals[g]?).map (·.type) = some t ∧ W.var? P name = some cs ∧ DataW.trod (fun _ => ()) P W 0 (fun _ => true) false fuel t cs.toList = some (d, p)
  | [], _, _, _, _, hm => by cases hm
  | (n, d') :: r, ps, name, d, ⟨g, t, cs, fuel, p, q, h1, h2, h3, h4, h5, _⟩, hm => by
    cases hm with
    | head => exact ⟨g, t, cs, fuel, p, h1, h2, h3, h4⟩
    | tail _ hm => exact laid_mem h5 hm

theorem var_heap {name : String} {g : Nat} {cs : Array Value} (hg : P.globalNamed name = some g) (h : W.var? P name = some cs) : ∃ t fr, W.heap[g]? = some (.cells cs t fr) := by
  unfold World.var? at h
  rw [hg] at h
  simp only [Option.bind_some] at h
  split at h
  · rename_i c t fr hh
    cases h
    exact ⟨t, fr, hh⟩
  · cases h

def strData {H : Type} (l : List Str) : DataW H := .agg (l.map fun s => .lit (.string s))

theorem cells_of_strs {H : Type} {enc : TypeId × Value → H} {base : Nat} {sp : Nat → Bool} {held : Bool} {fuel : Nat} {t e : TypeId} {n : Nat} {cs : List Value} {zs : List Str} {p : List MemPlace}
    (ht : P.underlying t = some (.array n e)) (he : P.underlying e = some .string) (hce : P.cellsOf e = 1) (hct : P.cellsOf t = n)
    (h : DataW.trod enc P W base sp held fuel t cs = some (strData zs, p)) : cs = zs.map fun z => Value.string ⟨z.toArray⟩ := by
  cases fuel with
  | zero => simp [DataW.trod] at h
  | succ fuel =>
    simp only [DataW.trod, ht, hce, hct, Nat.mul_one] at h
    split at h
    · rename_i hl
      obtain ⟨xs, hm, hx⟩ := Option.map_eq_some_iff.1 h
      have hxs : xs.map (·.1) = zs.map fun z => (DataW.lit (.string z) : DataW H) := by
        have := congrArg Prod.fst hx
        simpa [strData] using this
      have hxl : xs.length = n := by simpa using Lib.mapM_length hm
      have hzl : zs.length = n := by
        have := congrArg List.length hxs
        simp at this
        omega
      apply List.ext_getElem?
      intro i
      by_cases hi : i < n
      · obtain ⟨b, hb, hf⟩ := Lib.mapM_at hm i i (by simp [hi])
        obtain ⟨z, hc, rfl, _⟩ := DataW.trod_string he hf
        have h1 : cs[i]? = some (.string z) := by
          have := congrArg (·[0]?) hc
          simpa [List.getElem?_take, List.getElem?_drop] using this
        have h2 : (xs.map (·.1))[i]? = some (DataW.lit (.string z.data.toList) : DataW H) := by simp [hb]
        rw [hxs] at h2
        simp only [List.getElem?_map, Option.map_eq_some_iff, DataW.lit.injEq, Lit.string.injEq] at h2
        obtain ⟨z', hz', h3⟩ := h2
        simp only [h1, List.getElem?_map, hz', Option.map_some, h3]
      · rw [List.getElem?_eq_none (by omega), List.getElem?_eq_none (by simp; omega)]
    · cases h

theorem gok_of {x : Nat} {pv : List PVal} {cs : Array Value} {t : TypeId} {fr : Nat × Nat} (hh : W.heap[x]? = some (.cells cs t fr)) (hcl : clL 0 pv) (hs : cs.size = pv.length) (hv : ∀ (i : Nat) p v, pv[i]? = some p → cs[i]? = some v → VR (allG W) [] W p v) : GOk W (x, pv) :=
  ⟨hcl, cs, t, fr, hh, hs, hv⟩

theorem gok_ints {laid : List (String × DataW Unit)} {name : String} {d : DataW Unit} {g : Nat} {t e : TypeId} {n : Nat} {k : IntKind} {zs : List Int} (hL : laidMet P laid W) (hm : (name, d) ∈ laid) (hd : d = Lib.tabData k zs)
    (hg : P.globalNamed name = some g) (hty : (P.globals[g]?).map (·.type) = some t) (ht : P.underlying t = some (.array n e)) (he : P.underlying e = some (.int k)) (hce : P.cellsOf e = 1) (hct : P.cellsOf t = n) : GOk W (g, zs.map (PVal.int k)) := by
  obtain ⟨ps, hV, _⟩ := hL
  obtain ⟨g', t', cs, fuel, p, h1, h2, h3, h4⟩ := laid_mem hV hm
  obtain rfl := Option.some.inj (hg.symm.trans h1)
  obtain rfl := Option.some.inj (hty.symm.trans h2)
  subst hd
  have hc := Lib.cells_of_tab ht he hce hct h4
  obtain ⟨ty, fr, hh⟩ := var_heap hg h3
  refine gok_of hh (clL_of fun q hq => ?_) (by simpa using congrArg List.length hc) (fun i q v hq hv => ?_)
  · obtain ⟨z, _, rfl⟩ := List.mem_map.1 hq
    simp [PVal.cl]
  · rw [← Array.getElem?_toList, hc] at hv
    simp only [List.getElem?_map, Option.map_eq_some_iff] at hq hv
    obtain ⟨z, hz, rfl⟩ := hq
    obtain ⟨z', hz', rfl⟩ := hv
    cases hz.symm.trans hz'
    exact .int _ _

theorem gok_strs {laid : List (String × DataW Unit)} {name : String} {d : DataW Unit} {g : Nat} {t e : TypeId} {n : Nat} {zs : List Str} (hL : laidMet P laid W) (hm : (name, d) ∈ laid) (hd : d = strData zs)
    (hg : P.globalNamed name = some g) (hty : (P.globals[g]?).map (·.type) = some t) (ht : P.underlying t = some (.array n e)) (he : P.underlying e = some .string) (hce : P.cellsOf e = 1) (hct : P.cellsOf t = n) : GOk W (g, zs.map PVal.str) := by
  obtain ⟨ps, hV, _⟩ := hL
  obtain ⟨g', t', cs, fuel, p, h1, h2, h3, h4⟩ := laid_mem hV hm
  obtain rfl := Option.some.inj (hg.symm.trans h1)
  obtain rfl := Option.some.inj (hty.symm.trans h2)
  subst hd
  have hc := cells_of_strs ht he hce hct h4
  obtain ⟨ty, fr, hh⟩ := var_heap hg h3
  refine gok_of hh (clL_of fun q hq => ?_) (by simpa using congrArg List.length hc) (fun i q v hq hv => ?_)
  · obtain ⟨z, _, rfl⟩ := List.mem_map.1 hq
    simp [PVal.cl]
  · rw [← Array.getElem?_toList, hc] at hv
    simp only [List.getElem?_map, Option.map_eq_some_iff] at hq hv
    obtain ⟨z, hz, rfl⟩ := hq
    obtain ⟨z', hz', rfl⟩ := hv
    cases hz.symm.trans hz'
    exact .str _
end

/-- Tables laid into a world. -/
def layAt (w : World) (l : List (Nat × Array Value)) : World := { w with heap := l.foldl (fun h x => h.modify x.1 fun | .cells _ t fr => .cells x.2 t fr | o => o) w.heap }
def vof : PVal → Value
  | .int k n => .int k n
  | .str s => .string ⟨s.toArray⟩
  | .bool b => .bool b
  | _ => undef
def tabsOf (l : List (Nat × List PVal)) : List (Nat × Array Value) := l.map fun x => (x.1, (x.2.map vof).toArray)
end Go.Proofs.YtgiimiklbabhcaaDoor
