/-
  WHAT IS PROVED: what each operation that calls nothing does in the abstract machine ('pev'), and that the model's operation does the same (first part: values, loads, addresses). No program in sight. Conditions: none.
-/
import Derived.Test.YtgiimiklbabhcaaDoorAbsC
namespace Go.Proofs.YtgiimiklbabhcaaDoor
open Go

def absC : Value → PVal
  | .int k n => .int k n
  | .bool b => .bool b
  | .string s => .str s.data.toList
  | .slice none 0 0 => .slice []
  | v => .val v
def absV : Value → PVal
  | .agg cs => .agg (cs.toList.map absC)
  | v => absC v

theorem VR.absC {Γ : Ghost} {bs : Boxes} {w : World} (v : Value) : VR Γ bs w (absC v) v := by
  unfold Go.Proofs.YtgiimiklbabhcaaDoor.absC
  split
  · exact .int _ _
  · exact .bool _
  · rename_i s; exact .str s.data.toList
  · exact .sliceNil
  · exact .val _
theorem VR.absV {Γ : Ghost} {bs : Boxes} {w : World} (v : Value) : VR Γ bs w (absV v) v := by
  unfold Go.Proofs.YtgiimiklbabhcaaDoor.absV
  split
  · rename_i cs
    refine .agg _ cs (by simp) fun i p v hp hv => ?_
    simp only [List.getElem?_map, Array.getElem?_toList, hv, Option.map_some, Option.some.injEq] at hp
    subst hp; exact .absC v
  · exact .absC v

def lookupG : List (Nat × List PVal) → Nat → PVal
  | [], _ => .undef
  | (g, cs) :: r, x => if g = x then .eptr cs else lookupG r x

/-- An operand's value. -/
def opv (GE : List (Nat × List PVal)) (tmps : List PVal) : Operand → PVal
  | .tmp t => tmps.getD t .undef
  | .const v => absV v
  | .global g => lookupG GE g
  | .func f => .func (.func f) [] []

theorem lookupG_spec {GE : List (Nat × List PVal)} {g : Nat} : lookupG GE g = .undef ∨ ∃ cs, (g, cs) ∈ GE ∧ lookupG GE g = .eptr cs := by
  induction GE with
  | nil => exact .inl rfl
  | cons x r ih =>
    obtain ⟨h, cs⟩ := x
    simp only [lookupG]
    split
    · rename_i e; subst e; exact .inr ⟨cs, by simp, rfl⟩
    · rcases ih with ih | ⟨cs', h1, h2⟩
      · exact .inl ih
      · exact .inr ⟨cs', by simp [h1], h2⟩

section
variable {P : Program} {E : Ent} {Γ : Ghost} {bs : Boxes} {ow : Nat → Option Loc} {w : World} {a : Array Value} {st : PSt}

theorem SR.opv (h : SR P E Γ bs ow w a st) (ds : List Deferred) (x : Operand) : VR Γ bs w (opv E.GE st.tmps x) ((Act.mk a ds).eval x) := by
  cases x with
  | tmp t =>
    show VR Γ bs w (st.tmps.getD t .undef) (a.getD t undef)
    by_cases ht : t < a.size
    · have h1 : st.tmps[t]? = some (st.tmps[t]'(by rw [← h.sz]; exact ht)) := by simp
      have h2 : a[t]? = some a[t] := by simp [ht]
      have := h.tm t _ _ h1 h2
      rw [List.getD_eq_getElem?_getD, h1]
      simpa [Array.getD_eq_getD_getElem?, ht] using this
    · have : st.tmps[t]? = none := List.getElem?_eq_none (by rw [← h.sz]; exact Nat.le_of_not_lt ht)
      rw [List.getD_eq_getElem?_getD, this]
      exact .undef _
  | const v => exact .absV v
  | global g =>
    show VR Γ bs w (lookupG E.GE g) _
    rcases lookupG_spec (GE := E.GE) (g := g) with h1 | ⟨cs, h1, h2⟩
    · rw [h1]; exact .undef _
    · rw [h2]; exact h.gl g cs h1
  | func f => exact .func _ [] [] #[] #[] rfl rfl (fun i p v hp _ => by simp at hp) (fun i p v hp _ => by simp at hp)

/-- One cell's value, surely. -/
def _root_.Go.Proofs.YtgiimiklbabhcaaDoor.PVal.one : PVal → Bool
  | .undef | .agg _ | .tuple _ => false
  | .val v => v.oneCell'
  | _ => true
theorem VR.one {p : PVal} {v : Value} (h : VR Γ bs w p v) (hp : p.one = true) : v.oneCell' = true := by
  cases h <;> first | rfl | (simp [PVal.one] at hp; done) | exact hp

theorem cellsOf_one {v : Value} (h : v.oneCell' = true) : v.cells = #[v] := by
  cases v <;> simp [Value.oneCell'] at h <;> rfl

/-- The cells of a value, if it is known how many. -/
def pcells : PVal → Option (List PVal)
  | .agg cs => some cs
  | p => if p.one then some [p] else none

theorem VR.cells {p : PVal} {v : Value} {cs : List PVal} (h : VR Γ bs w p v) (hp : pcells p = some cs) :
    v.cells.size = cs.length ∧ ∀ (i : Nat) q u, cs[i]? = some q → v.cells[i]? = some u → VR Γ bs w q u := by
  have hone : ∀ {p : PVal} {v : Value}, VR Γ bs w p v → p.one = true → v.cells.size = [p].length ∧ ∀ (i : Nat) q u, [p][i]? = some q → v.cells[i]? = some u → VR Γ bs w q u := by
    intro p v h ho
    rw [cellsOf_one (VR.one h ho)]
    refine ⟨rfl, fun i q u hq hu => ?_⟩
    match i, hq, hu with
    | 0, hq, hu =>
      simp at hq hu
      subst hq; subst hu; exact h
  unfold pcells at hp
  split at hp
  · cases hp
    cases h with
    | agg cs vs hl h => exact ⟨hl, h⟩
  · split at hp
    · rename_i ho
      cases hp
      exact hone h ho
    · cases hp

/-- A list's part, as a value of a type: the whole struct, or one cell. -/
def plook (P : Program) (t : TypeId) (cs : List PVal) : Option PVal :=
  match P.underlying t with
  | some (.struct _) | some (.array _ _) => if P.cellsOf t ≤ cs.length then some (.agg (cs.take (P.cellsOf t))) else none
  | some _ => cs.head?
  | none => none

theorem info_of_underlying {t : TypeId} {d : TypeDesc} (h : P.underlying t = some d) : ∃ i, P.info? t = some i := by
  unfold Program.underlying at h
  cases hi : P.info? t with
  | some i => exact ⟨i, rfl⟩
  | none => simp [hi] at h

/-- What is read at an address where these cells stand. -/
theorem run_loadVar_of {t : TypeId} {b off : Nat} {cs : List PVal} {vals : Nat → Value} {p : PVal} (hp : plook P t cs = some p)
    (hc : ∀ (k : Nat) q, cs[k]? = some q → w.cell? ⟨b, off + k, none⟩ = some (vals k)) (hv : ∀ (k : Nat) q, cs[k]? = some q → VR Γ bs w q (vals k)) :
    ∃ v, (loadVar t ⟨b, off, none⟩).run P w = .ok v w ∧ VR Γ bs w p v := by
  have hagg : ∀ {d}, P.underlying t = some d → (match d with | .struct _ | .array _ _ => True | _ => False) → P.cellsOf t ≤ cs.length →
      ∃ v, (loadVar t ⟨b, off, none⟩).run P w = .ok v w ∧ VR Γ bs w (.agg (cs.take (P.cellsOf t))) v := by
    intro d hd hm hl
    obtain ⟨i, hi⟩ := info_of_underlying hd
    have hrun := run_loadCells (P := P) w ⟨b, off, none⟩ (P.cellsOf t) vals (fun j hj => by
      rw [Addr.add_lit]
      exact hc j _ (List.getElem?_eq_getElem (by omega)))
    refine ⟨.agg ((List.range (P.cellsOf t)).map vals).toArray, ?_, .agg _ _ (by simp; omega) fun k q u hq hu => ?_⟩
    · cases d <;> simp at hm <;> simp [loadVar, isAgg, run_underlying hd, run_sizeOf w hi, hrun]
    · have hk : k < P.cellsOf t := by have := lt_of_get hq; simp at this; omega
      rw [List.getElem?_take_of_lt hk] at hq
      simp [hk] at hu
      subst hu
      exact hv k q hq
  unfold plook at hp
  split at hp
  · rename_i fs hd
    split at hp
    · cases hp; exact hagg hd trivial ‹_›
    · cases hp
  · rename_i n e hd
    split at hp
    · cases hp; exact hagg hd trivial ‹_›
    · cases hp
  · rename_i d hns hna hd
    cases cs with
    | nil => simp at hp
    | cons q cs =>
      simp at hp; subst hp
      have h0 := hc 0 q rfl
      simp only [Nat.add_zero] at h0
      refine ⟨vals 0, ?_, hv 0 q rfl⟩
      cases d <;> simp at hns hna <;> simp [loadVar, isAgg, run_underlying hd, h0]
  · cases hp

end
end Go.Proofs.YtgiimiklbabhcaaDoor
