/-
  WHAT IS PROVED: new variables, structs and lists written out, maps, lengths, functions, appends in the abstract machine, and that the model's operations do the same. No program in sight. Conditions: none.
-/
import Derived.Test.YtgiimiklbabhcaaDoorAbsG
namespace Go.Proofs.YtgiimiklbabhcaaDoor
open Go

/-- A value's cells are laid over a row's, at each part's place. -/
def pfill (place : Nat → Option (Nat × Nat)) (cells : List PVal) : List (Nat × PVal) → Option (List PVal)
  | [] => some cells
  | (i, v) :: rest =>
    match place i, pcells v with
    | some (off, size), some vs => if vs.length = size ∧ off + vs.length ≤ cells.length then pfill place (cells.take off ++ vs ++ cells.drop (off + vs.length)) rest else none
    | _, _ => none

def pbuild (P : Program) (t : TypeId) (parts : List (Nat × PVal)) : Option PVal :=
  match P.underlying t, pzero P t with
  | some (.struct fs), some zs => if fs.all (fun f => (P.info? f.type).isSome) then (pfill (fun i => (fs[i]?).map fun f => (f.offset, P.cellsOf f.type)) zs parts).map .agg else none
  | some (.array _ e), some zs => if (P.info? e).isSome then (pfill (fun i => some (i * P.cellsOf e, P.cellsOf e)) zs parts).map .agg else none
  | _, _ => none

/-- The parts of a list that is written out, each in its place, none left out. -/
def pelems (sz : Nat) : Nat → List (Nat × PVal) → Option (List (List PVal))
  | _, [] => some []
  | k, (i, v) :: rest =>
    match pcells v, pelems sz (k + 1) rest with
    | some vs, some r => if i = k ∧ vs.length = sz then some (vs :: r) else none
    | _, _ => none

def pbuildSlice (P : Program) (t : TypeId) (len : Nat) (parts : List (Nat × PVal)) : Option PVal :=
  match P.underlying t with
  | some (.slice e) => match pelems (P.cellsOf e) 0 parts with
    | some es => if es.length = len ∧ (pzero P e).isSome ∧ 0 < P.cellsOf e ∧ len * P.cellsOf e ≤ 16777216 ∧ ((pzero P e).map (·.length)) = some (P.cellsOf e) then some (.slice es) else none
    | none => none
  | _ => none

def plen (P : Program) (t : TypeId) (x : PVal) (H : List PBox) : Option PVal :=
  match P.underlying t, x with
  | some .string, .str s => some (.int .i64 s.length)
  | some (.slice _), .slice es => some (.int .i64 es.length)
  | some (.array n _), _ => some (.int .i64 n)
  | some (.map _ _), .mapr i => match H[i]? with
    | some (.map es) => some (.int .i64 es.length)
    | _ => none
  | _, _ => none

def pmax2 : PVal → PVal → Option PVal
  | .int k x, .int _ y => some (.int k (if y > x then y else x))
  | _, _ => none
def pmin2 : PVal → PVal → Option PVal
  | .int k x, .int _ y => some (.int k (if y < x then y else x))
  | _, _ => none
def pfold (f : PVal → PVal → Option PVal) : PVal → List PVal → Option PVal
  | x, [] => some x
  | x, y :: r => match f x y with
    | some z => pfold f z r
    | none => none

section
variable {P : Program} {E : Ent} {Γ : Ghost} {bs : Boxes} {ow : Nat → Option Loc} {w : World} {a : Array Value} {st : PSt}

theorem run_zero_of {t : TypeId} {zs : List PVal} (h : pzero P t = some zs) : ∃ z, (zeroValue t).run P w = .ok z w ∧ zs = z.cells.toList.map absC ∧ (∃ i, P.info? t = some i ∧ i.zero = some z) := by
  unfold pzero at h
  simp only [Option.map_eq_some_iff, Option.bind_eq_some_iff] at h
  obtain ⟨z, ⟨i, hi, hz⟩, rfl⟩ := h
  exact ⟨z, by simp [zeroValue, run_typeInfo w hi, hz], rfl, i, hi, hz⟩

theorem zero_vr {z : Value} (j : Nat) (p : PVal) (v : Value) (hp : (z.cells.toList.map absC)[j]? = some p) (hv : z.cells[j]? = some v) : VR Γ bs w p v := by
  simp only [List.getElem?_map, Array.getElem?_toList, hv, Option.map_some, Option.some.injEq] at hp
  subst hp; exact .absC v

/-- A new variable with its zero value. -/
theorem palloc_run (h : SR P E Γ bs ow w a st) {t : TypeId} {id : Nat} {zs : List PVal} (hid : bs[id]? = some none) (hz : pzero P t = some zs) :
    ∃ v w', (Instr.alloc t true (.tuple #[])).run P w = .ok v w' ∧ SR P E Γ (bs.set id (some w.heap.size)) ow w' a { st with boxes := st.boxes.set id (.cells zs (pzown P t)) } ∧
      VR Γ (bs.set id (some w.heap.size)) w' (.bptr id 0) v ∧ bs.Sub (bs.set id (some w.heap.size)) ∧ Γ.Le w Γ w' := by
  obtain ⟨z, hr, rfl, i, hi, hz⟩ := run_zero_of (w := w) hz
  refine ⟨.pointer (some ⟨w.heap.size, 0, none⟩), w.alloc (.cells z.cells t), ?_, ?_, .bptr _ _ _ (List.getElem?_set_self (lt_of_get hid)), fun i b hb => set_none hid hb,
    fun b m hb => ⟨m, hb, Nat.le_refl _, fun o' _ => cell?_congr (alloc_old w _ (h.lt_of_ghost hb)) o'⟩⟩
  · simp [Instr.alloc, hr, newVar, newRow]
  · refine h.alloc_box hid _ _ (fun bs' _ => ⟨z.cells, t, alloc_same w _, by simp, fun j p v hp hv => zero_vr j p v hp hv⟩) fun cs own heq j e hj => ?_
    cases heq
    unfold pzown at hj
    split at hj
    · rename_i z' ts hz' hts
      have : z' = z := by simp [hi, hz] at hz'; exact hz'.symm
      subst this
      simp only [List.mem_filterMap, List.mem_range] at hj
      obtain ⟨j', hj', hj''⟩ := hj
      split at hj''
      · rename_i v' e' hv' he'
        split at hj''
        · rename_i hn
          cases hj''
          have : v' = .slice none 0 0 := by
            unfold isNilSlice at hn
            split at hn
            · rfl
            · cases hn
          subst this
          refine ⟨_, ?_, rfl, 0, [], World.ownsRow_nil _ _ _ _, fun b hb => by simp [Value.ownBlock] at hb⟩
          rw [cell_of_row _ _ _ _ t _ (alloc_same w _)]
          exact hv'
        · cases hj''
      · cases hj''
    · cases hj

/-- A new variable with a value. -/
theorem pbox_run (h : SR P E Γ bs ow w a st) {t : TypeId} {id : Nat} {x : PVal} {vx : Value} {cs : List PVal} (hid : bs[id]? = some none) (hx : VR Γ bs w x vx) (hc : pcells x = some cs) :
    ∃ v w', (Instr.box t vx).run P w = .ok v w' ∧ SR P E Γ (bs.set id (some w.heap.size)) ow w' a { st with boxes := st.boxes.set id (.cells cs []) } ∧
      VR Γ (bs.set id (some w.heap.size)) w' (.bptr id 0) v ∧ bs.Sub (bs.set id (some w.heap.size)) ∧ Γ.Le w Γ w' := by
  obtain ⟨k1, k2⟩ := hx.cells hc
  have hle : ∀ o, Γ.Le w Γ (w.alloc o) := fun o b m hb => ⟨m, hb, Nat.le_refl _, fun o' _ => cell?_congr (alloc_old w _ (h.lt_of_ghost hb)) o'⟩
  refine ⟨.pointer (some ⟨w.heap.size, 0, none⟩), w.alloc (.cells vx.cells t), ?_, ?_, .bptr _ _ _ (List.getElem?_set_self (lt_of_get hid)), fun i b hb => set_none hid hb, hle _⟩
  · simp [Instr.box, newVar, newRow]
  · exact h.alloc_box hid _ _ (fun bs' hs => ⟨vx.cells, t, alloc_same w _, k1, fun j p v hp hv => (k2 j p v hp hv).mono (hle _) hs⟩) fun cs own heq j e hj => by
      cases heq; simp at hj

/-- A new map. -/
theorem pmakeMap_run (h : SR P E Γ bs ow w a st) {t : TypeId} {id : Nat} (hid : bs[id]? = some none) :
    ∃ v w', (Instr.makeMap t none).run P w = .ok v w' ∧ SR P E Γ (bs.set id (some w.heap.size)) ow w' a { st with boxes := st.boxes.set id (.map []) } ∧
      VR Γ (bs.set id (some w.heap.size)) w' (.mapr id) v ∧ bs.Sub (bs.set id (some w.heap.size)) ∧ Γ.Le w Γ w' := by
  have hle : ∀ o, Γ.Le w Γ (w.alloc o) := fun o b m hb => ⟨m, hb, Nat.le_refl _, fun o' _ => cell?_congr (alloc_old w _ (h.lt_of_ghost hb)) o'⟩
  refine ⟨.map (some w.heap.size), w.alloc (.map #[] 0), ?_, ?_, .mapr _ _ (List.getElem?_set_self (lt_of_get hid)), fun i b hb => set_none hid hb, hle _⟩
  · simp [Instr.makeMap]
  · exact h.alloc_box hid _ _ (fun bs' hs => ⟨#[], 0, alloc_same w _, rfl, fun j k u x hp _ => by simp at hp⟩) fun cs own heq => by cases heq

theorem pfill_run {place place' : Nat → Option (Nat × Nat)} (hpl : ∀ i x, place i = some x → place' i = some x) : ∀ (parts : List (Nat × PVal)) (vs : List (Nat × Value)) (cells : List PVal) (cv : Array Value) {out : List PVal},
    parts.length = vs.length → (∀ (j : Nat) p v, parts[j]? = some p → vs[j]? = some v → p.1 = v.1 ∧ VR Γ bs w p.2 v.2) →
    cv.size = cells.length → (∀ (j : Nat) p v, cells[j]? = some p → cv[j]? = some v → VR Γ bs w p v) → pfill place cells parts = some out →
    ∃ ov, Instr.fill place' cv vs = some ov ∧ ov.size = out.length ∧ ∀ (j : Nat) p v, out[j]? = some p → ov[j]? = some v → VR Γ bs w p v
  | [], [], cells, cv, out, _, _, hs, hc, ho => by
    simp only [pfill, Option.some.injEq] at ho
    subst ho
    exact ⟨cv, rfl, hs, hc⟩
  | [], _ :: _, _, _, _, hl, _, _, _, _ => by simp at hl
  | _ :: _, [], _, _, _, hl, _, _, _, _ => by simp at hl
  | (i, p) :: rest, (i', v) :: vs, cells, cv, out, hl, hv, hs, hc, ho => by
    obtain ⟨rfl, hpv⟩ := hv 0 (i, p) (i', v) rfl rfl
    simp only [pfill] at ho
    split at ho
    · rename_i off size ps hpi hps
      split at ho
      · rename_i hh
        obtain ⟨h1, h2⟩ := hh
        obtain ⟨k1, k2⟩ := VR.cells hpv hps
        replace k1 : v.cells.size = ps.length := k1
        have hfold : ∀ (l : List Value) (k : Nat) (cv : Array Value), off + k + l.length ≤ cv.size →
            ((l.zipIdx k).foldl (fun cs (c, j) => cs.setIfInBounds (off + j) c) cv).toList = cv.toList.take (off + k) ++ l ++ cv.toList.drop (off + k + l.length) := by
          intro l
          induction l with
          | nil => intro k cv _; simp
          | cons u l ih =>
            intro k cv hle
            simp only [List.zipIdx_cons, List.foldl_cons]
            simp only [List.length_cons] at hle
            rw [ih (k + 1) _ (by simp; omega)]
            apply List.ext_getElem?
            intro j
            rw [show off + (k + 1) = off + k + 1 from by omega]
            have e1 := splice_get (cs := (cv.setIfInBounds (off + k) u).toList) (vs := l) (off := off + k + 1) (by simp; omega) j
            have e2 := splice_get (cs := cv.toList) (vs := u :: l) (off := off + k) (by simp; omega) j
            simp only [List.length_cons] at e2 ⊢
            rw [e1, e2]
            simp only [Array.toList_setIfInBounds, List.getElem?_set]
            by_cases c1 : j < off + k
            · rw [if_pos (by omega), if_pos c1, if_neg (by omega)]
            · by_cases c2 : j = off + k
              · subst c2
                have a1 : off + k < off + k + 1 := by omega
                have a2 : ¬ off + k < off + k := by omega
                have a3 : off + k < off + k + (l.length + 1) := by omega
                have a4 : off + k < cv.size := by omega
                simp [a1, a3, a4]
              · rw [if_neg (by omega), if_neg c1]
                by_cases c3 : j < off + k + 1 + l.length
                · rw [if_pos c3, if_pos (by omega), show j - (off + k) = (j - (off + k + 1)) + 1 from by omega]; simp
                · rw [if_neg c3, if_neg (by omega), if_neg (by omega)]
        have hcl : v.cells.toList.length = ps.length := by simpa using k1
        have hsize : (v.cells.zipIdx.foldl (fun cs (c, j) => cs.setIfInBounds (off + j) c) cv).size = (cells.take off ++ ps ++ cells.drop (off + ps.length)).length := by
          have := hfold v.cells.toList 0 cv (by simp; omega)
          have h3 := congrArg List.length this
          rw [← Array.foldl_toList]
          simp only [Array.toList_zipIdx]
          simp only [Array.length_toList] at h3
          rw [h3]
          simp
          omega
        have hcell : ∀ (j : Nat) q u, (cells.take off ++ ps ++ cells.drop (off + ps.length))[j]? = some q →
            (v.cells.zipIdx.foldl (fun cs (c, j) => cs.setIfInBounds (off + j) c) cv)[j]? = some u → VR Γ bs w q u := by
          intro j q u hq hu
          have := hfold v.cells.toList 0 cv (by simp; omega)
          rw [← Array.foldl_toList] at hu
          simp only [Array.toList_zipIdx] at hu
          rw [← Array.getElem?_toList, this] at hu
          simp only [Nat.add_zero] at hu
          rw [splice_get (by simp; omega)] at hu
          rw [splice_get h2] at hq
          simp only [hcl] at hu
          by_cases c1 : j < off
          · rw [if_pos c1] at hq hu; exact hc j q u hq (by simpa using hu)
          · rw [if_neg c1] at hq hu
            by_cases c2 : j < off + ps.length
            · rw [if_pos c2] at hq hu; exact k2 _ q u hq (by simpa using hu)
            · rw [if_neg c2] at hq hu; exact hc j q u hq (by simpa using hu)
        obtain ⟨ov, r1, r2, r3⟩ := pfill_run hpl rest vs _ _ (by simpa using hl) (fun j p v hp hv' => hv (j + 1) p v (by simpa using hp) (by simpa using hv')) hsize hcell ho
        refine ⟨ov, ?_, r2, r3⟩
        simp only [Instr.fill, hpl _ _ hpi]
        rw [if_neg (by simp; omega)]
        exact r1
      · cases ho
    · cases ho

end
end Go.Proofs.YtgiimiklbabhcaaDoor
