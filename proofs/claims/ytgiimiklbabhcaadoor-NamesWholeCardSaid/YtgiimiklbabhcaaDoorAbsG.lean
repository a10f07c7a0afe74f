/-
  WHAT IS PROVED: loads, stores, new variables in the abstract machine, and that the model's operations do the same. No program in sight. Conditions: none.
-/
import Derived.Test.YtgiimiklbabhcaaDoorAbsF
namespace Go.Proofs.YtgiimiklbabhcaaDoor
open Go

def pload (P : Program) (t : TypeId) (x : PVal) (H : List PBox) : Option PVal :=
  match x with
  | .eptr cs => plook P t cs
  | .bptr i off => match H[i]? with
    | some (.cells cs _) => plook P t (cs.drop off)
    | _ => none
  | _ => none

def pstore (P : Program) (t : TypeId) (x v : PVal) (H : List PBox) : Option (List PBox) :=
  match x, pcells v with
  | .bptr i off, some vs => match H[i]? with
    | some (.cells cs own) =>
      if vs.length = P.cellsOf t ∧ (P.info? t).isSome ∧ off + vs.length ≤ cs.length ∧ vs.all PVal.one then
        some (H.set i (.cells (cs.take off ++ vs ++ cs.drop (off + vs.length)) (own.filter fun y => y.1 < off || off + vs.length ≤ y.1)))
      else none
    | _ => none
  | _, _ => none

/-- The zero value's cells, and which of them are slices. -/
def pzero (P : Program) (t : TypeId) : Option (List PVal) := ((P.info? t).bind (·.zero)).map fun z => z.cells.toList.map absC

def isNilSlice : Value → Bool
  | .slice none 0 0 => true
  | _ => false
def pzown (P : Program) (t : TypeId) : List (Nat × TypeId) :=
  match (P.info? t).bind (·.zero), P.cellTypes P.depth t with
  | some z, some ts => (List.range z.cells.size).filterMap fun j =>
      match z.cells[j]?, (ts[j]?).bind P.underlying with
      | some v, some (.slice e) => if isNilSlice v then some (j, e) else none
      | _, _ => none
  | _, _ => []

section
variable {P : Program} {E : Ent} {Γ : Ghost} {bs : Boxes} {ow : Nat → Option Loc} {w : World} {a : Array Value} {st : PSt}

theorem SR.box_cells (h : SR P E Γ bs ow w a st) {i b : Nat} {cs : List PVal} {own : List (Nat × TypeId)} (hi : bs[i]? = some (some b)) (hB : st.boxes[i]? = some (.cells cs own)) :
    ∃ c t, w.heap[b]? = some (.cells c t (0, 0)) ∧ c.size = cs.length ∧ (∀ (j : Nat) p v, cs[j]? = some p → c[j]? = some v → VR Γ bs w p v) ∧ ∀ j, w.cell? ⟨b, j, none⟩ = c[j]? := by
  obtain ⟨_, _, c, t, h1, h2, h3⟩ := h.bx i b _ hi hB
  exact ⟨c, t, h1, h2, h3, fun j => cell_of_row w b j c t _ h1⟩

theorem pload_run (h : SR P E Γ bs ow w a st) {t : TypeId} {x p : PVal} {vx : Value} (hx : VR Γ bs w x vx) (hp : pload P t x st.boxes = some p) :
    ∃ v, (Instr.loadAt t vx).run P w = .ok v w ∧ VR Γ bs w p v := by
  unfold pload at hp
  split at hp
  · cases hx with
    | eptr cs b off n vals hg hn hc hv =>
      obtain ⟨v, hr, hv'⟩ := run_loadVar_of hp hc hv
      exact ⟨v, by simp [Instr.loadAt, Instr.sureAddr, hr], hv'⟩
  · rename_i i off
    split at hp
    · rename_i cs own hB
      cases hx with
      | bptr i off b hi =>
        obtain ⟨c, t', h1, h2, h3, h4⟩ := h.box_cells hi hB
        have hval : ∀ (k : Nat) q, (cs.drop off)[k]? = some q → w.cell? ⟨b, off + k, none⟩ = some (c.getD (off + k) undef) ∧ VR Γ bs w q (c.getD (off + k) undef) := by
          intro k q hq
          rw [List.getElem?_drop] at hq
          have hlt : off + k < c.size := by rw [h2]; exact lt_of_get hq
          have hc : c[off + k]? = some (c.getD (off + k) undef) := by simp [Array.getD_eq_getD_getElem?, hlt]
          exact ⟨(h4 _).trans hc, h3 _ _ _ hq hc⟩
        obtain ⟨v, hr, hv'⟩ := run_loadVar_of hp (vals := fun k => c.getD (off + k) undef) (fun k q hq => (hval k q hq).1) (fun k q hq => (hval k q hq).2)
        exact ⟨v, by simp [Instr.loadAt, Instr.sureAddr, hr], hv'⟩
    · cases hp
  · cases hp

theorem splice_get {α : Type} {cs vs : List α} {off : Nat} (h : off + vs.length ≤ cs.length) (j : Nat) :
    (cs.take off ++ vs ++ cs.drop (off + vs.length))[j]? = if j < off then cs[j]? else if j < off + vs.length then vs[j - off]? else cs[j]? := by
  have hlen : (cs.take off).length = off := by simp; omega
  by_cases h1 : j < off
  · rw [List.append_assoc, List.getElem?_append_left (by omega), List.getElem?_take_of_lt h1, if_pos h1]
  · rw [if_neg h1]
    by_cases h2 : j < off + vs.length
    · rw [if_pos h2, List.getElem?_append_left (by simp; omega), List.getElem?_append_right (by omega), hlen]
    · rw [if_neg h2, List.getElem?_append_right (by simp; omega), List.getElem?_drop]
      congr 1
      simp
      omega

theorem setRow_here (w : World) (g : Nat) (cur cs : Array Value) (t : TypeId) (fr : Nat × Nat) (h : w.heap[g]? = some (.cells cur t fr)) : (w.setRow g cs).heap[g]? = some (.cells cs t fr) := setRow_heap w g cur cs t fr h

/-- A store into a box. What the stored cell owns goes with it where 'src' says so. -/
theorem pstore_run (h : SR P E Γ bs ow w a st) {t : TypeId} {x v : PVal} {vx vv : Value} {H : List PBox} (hx : VR Γ bs w x vx) (hv : VR Γ bs w v vv) (hp : pstore P t x v st.boxes = some H) :
    ∃ w', (Instr.storeAt t vx vv).run P w = .ok () w' ∧ SR P E Γ bs ow w' a { st with boxes := H } ∧ Γ.Le w Γ w' := by
  unfold pstore at hp
  split at hp
  · rename_i i off vs hvs
    split at hp
    · rename_i cs own hB
      split at hp
      · rename_i hc
        obtain ⟨h1, hinf, h2, h3⟩ := hc
        obtain ⟨inf, hinf⟩ := Option.isSome_iff_exists.1 hinf
        cases hp
        cases hx with
        | bptr i off b hi =>
          obtain ⟨c, t', e1, e2, e3, e4⟩ := h.box_cells hi hB
          obtain ⟨k1, k2⟩ := hv.cells hvs
          have hone : ∀ u ∈ vv.cells.toList, u.oneCell' = true := by
            intro u hu
            obtain ⟨j, hj⟩ := List.mem_iff_getElem?.1 hu
            have hj' : vv.cells[j]? = some u := by simpa using hj
            have hlt : j < vs.length := by rw [← k1]; exact (Array.getElem?_eq_some_iff.1 hj').1
            exact VR.one (k2 j _ u (List.getElem?_eq_getElem hlt) hj') (List.all_eq_true.1 h3 _ (List.getElem_mem hlt))
          have hst := run_storeCells_at P b off t' vv.cells.toList 0 c w e1 (by simp; omega) hone
          simp only [Nat.add_zero, Array.length_toList] at hst
          have hsz : vv.cells.size = P.cellsOf t := by omega
          refine ⟨w.setRow b (c.toList.take off ++ vv.cells.toList ++ c.toList.drop (off + vv.cells.size)).toArray, ?_, ?_, ?_⟩
          · simp [Instr.storeAt, Instr.sureAddr, storeVar, run_sizeOf w hinf, hsz, hst]
          · have hheap := setRow_here w b c (c.toList.take off ++ vv.cells.toList ++ c.toList.drop (off + vv.cells.size)).toArray t' (0, 0) e1
            refine h.box_write hi rfl rfl rfl (by simp) (fun b' hb' => setRow_other w b b' _ hb') ?_ (fun b' L hL _ => hL) h.on ?_
            · refine ⟨_, t', hheap, ?_, fun j p u hp hu => ?_⟩
              · simp only [List.size_toArray, List.length_append, List.length_take, List.length_drop, Array.length_toList]; omega
              · have hu' : (c.toList.take off ++ vv.cells.toList ++ c.toList.drop (off + vv.cells.toList.length))[j]? = some u := by simpa using hu
                rw [splice_get h2] at hp
                rw [splice_get (by simp; omega)] at hu'
                have hmono : ∀ {q u}, VR Γ bs w q u → VR Γ bs (w.setRow b (c.toList.take off ++ vv.cells.toList ++ c.toList.drop (off + vv.cells.size)).toArray) q u := fun hq =>
                  hq.mono (fun b' m hb' => ⟨m, hb', Nat.le_refl _, fun o _ => cell?_congr (setRow_other w b b' _ (fun e => by subst e; have := (h.bx i b' _ hi hB).1; rw [this] at hb'; cases hb')) o⟩) (.refl _)
                by_cases hj : j < off
                · rw [if_pos hj] at hp hu'
                  exact hmono (e3 j p u hp (by simpa using hu'))
                · rw [if_neg hj] at hp hu'
                  by_cases hj2 : j < off + vs.length
                  · rw [if_pos hj2] at hp
                    rw [if_pos (by simp; omega)] at hu'
                    exact hmono (k2 _ p u hp (by simpa using hu'))
                  · rw [if_neg hj2] at hp
                    rw [if_neg (by simp; omega)] at hu'
                    exact hmono (e3 j p u hp (by simpa using hu'))
            · intro cs' own' heq j e hj
              cases heq
              obtain ⟨hj, hj2⟩ := mem_of_filter hj
              simp only [Bool.or_eq_true, decide_eq_true_eq] at hj2
              obtain ⟨v', r1, r2, r3⟩ := h.ob i j e cs own b hB hj hi
              refine ⟨v', ?_, r2.same fun b' hb' => ⟨setRow_other w b b' _ (fun e => ?_), rfl⟩, r3⟩
              · rw [cell_of_row _ b j _ t' _ hheap]
                have := splice_get (cs := c.toList) (vs := vv.cells.toList) (off := off) (by simp; omega) j
                simp only [Array.length_toList] at this
                simp only [List.getElem?_toArray]
                rw [this]
                rw [e4] at r1
                split
                · simpa using r1
                · rw [if_neg (by omega)]; simpa using r1
              · subst e
                obtain ⟨n, xs, o1, o2⟩ := r2
                have := (h.bx i b' _ hi hB).1
                rw [o2 b' hb'] at this; cases this
          · exact fun b' m hb' => ⟨m, hb', Nat.le_refl _, fun o _ => cell?_congr (setRow_other w b b' _ (fun e => by subst e; have := (h.bx i b' _ hi hB).1; rw [this] at hb'; cases hb')) o⟩
      · cases hp
    · cases hp
  · cases hp

end
end Go.Proofs.YtgiimiklbabhcaaDoor
