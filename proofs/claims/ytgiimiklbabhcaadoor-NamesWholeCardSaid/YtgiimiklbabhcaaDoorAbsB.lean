/-
  WHAT IS PROVED: the state of the abstract machine, how a frame and a world of the model's stand for it ('SR'), and how that lasts when a slot is written, a block is made, a box is written. No program in sight. Conditions: none.
-/
import Derived.Test.YtgiimiklbabhcaaDoorAbsA
namespace Go.Proofs.YtgiimiklbabhcaaDoor
open Go

/-- A box: cells that are written (with those that hold a slice that is this state's own to append to, and its element's type); a map; or forgotten. -/
inductive PBox where
  | cells (cs : List PVal) (own : List (Nat × TypeId))
  | map (es : List (PVal × PVal))
  | dead
  deriving Inhabited

structure PSt where
  tmps : List PVal
  boxes : List PBox
  own : List ((Nat × Nat) × TypeId)

/-- A place that owns a slice's tail. -/
inductive Loc where
  | tmp (t k : Nat)
  | box (i j : Nat)
  deriving DecidableEq

/-- Where a call began: what the listed variables hold, the ghost, the world, the blocks that the call may write. -/
structure Ent where
  GE : List (Nat × List PVal)
  Γ : Ghost
  w : World
  T : Nat → Prop

def partV : Value → Nat → Option Value
  | .tuple vs, k => vs[k]?
  | .agg vs, k => vs[k]?
  | v, k => if k = 0 then some v else none

def Owned (P : Program) (Γ : Ghost) (w : World) (v : Value) (e : TypeId) : Prop :=
  ∃ n xs, w.ownsRow 0 e (P.cellsOf e) v n xs ∧ ∀ b, v.ownBlock = some b → Γ b = some (n * P.cellsOf e)

def BR (Γ : Ghost) (bs : Boxes) (w : World) : PBox → Nat → Prop
  | .cells cs _, b => ∃ c t, w.heap[b]? = some (.cells c t (0, 0)) ∧ c.size = cs.length ∧ ∀ (j : Nat) p v, cs[j]? = some p → c[j]? = some v → VR Γ bs w p v
  | .map es, b => ∃ ents clock, w.heap[b]? = some (.map ents clock) ∧ ents.size = es.length ∧
      ∀ (j : Nat) k u x, es[j]? = some (k, u) → ents[j]? = some x → VR Γ bs w k x.key ∧ VR Γ bs w u x.val
  | .dead, _ => True

structure Step (E : Ent) (Γ : Ghost) (w : World) : Prop where
  os : w.os = E.w.os
  tape : w.tape = E.w.tape
  output : w.output = E.w.output
  size : E.w.heap.size ≤ w.heap.size
  keep : ∀ b, b < E.w.heap.size → ¬ E.T b → w.heap[b]? = E.w.heap[b]? ∧ Γ b = E.Γ b
  le : E.Γ.Le E.w Γ w

structure SR (P : Program) (E : Ent) (Γ : Ghost) (bs : Boxes) (ow : Nat → Option Loc) (w : World) (a : Array Value) (st : PSt) : Prop where
  wi : ∀ b n, Γ b = some n → ∃ c t fr, w.heap[b]? = some (.cells c t fr) ∧ n ≤ c.size
  sz : a.size = st.tmps.length
  tm : ∀ (t : Nat) p v, st.tmps[t]? = some p → a[t]? = some v → VR Γ bs w p v
  bl : bs.length = st.boxes.length
  bx : ∀ (i b : Nat) B, bs[i]? = some (some b) → st.boxes[i]? = some B → Γ b = none ∧ b < w.heap.size ∧ BR Γ bs w B b
  inj : ∀ (i j b : Nat), bs[i]? = some (some b) → bs[j]? = some (some b) → i = j
  bn : ∀ (i b : Nat), bs[i]? = some (some b) → E.T b ∨ E.w.heap.size ≤ b
  on : ∀ b L, ow b = some L → b < w.heap.size ∧ (E.T b ∨ E.w.heap.size ≤ b)
  ot : ∀ t k e, ((t, k), e) ∈ st.own → ∃ u v, a[t]? = some u ∧ partV u k = some v ∧ Owned P Γ w v e ∧ ∀ b, v.ownBlock = some b → ow b = some (.tmp t k)
  ob : ∀ (i j : Nat) e cs own (b : Nat), st.boxes[i]? = some (.cells cs own) → (j, e) ∈ own → bs[i]? = some (some b) →
    ∃ v, w.cell? ⟨b, j, none⟩ = some v ∧ Owned P Γ w v e ∧ ∀ b', v.ownBlock = some b' → ow b' = some (.box i j)
  gl : ∀ g cs, (g, cs) ∈ E.GE → VR Γ bs w (.eptr cs) (.pointer (some ⟨g, 0, none⟩))
  gc : ∀ g cs, (g, cs) ∈ E.GE → clL 0 cs
  gx : ∀ g cs, (g, cs) ∈ E.GE → g < E.w.heap.size ∧ ¬ E.T g ∧ ∃ c t fr, E.w.heap[g]? = some (.cells c t fr) ∧ c.size = cs.length
  step : Step E Γ w

theorem BR.mono {Γ Γ' : Ghost} {bs bs' : Boxes} {w w' : World} {B : PBox} {b : Nat} (h : BR Γ bs w B b) (hle : Γ.Le w Γ' w') (hb : bs.Sub bs')
    (hh : w'.heap[b]? = w.heap[b]?) : BR Γ' bs' w' B b := by
  cases B with
  | cells cs own =>
    obtain ⟨c, t, h1, h2, h3⟩ := h
    exact ⟨c, t, hh.trans h1, h2, fun j p v hp hv => (h3 j p v hp hv).mono hle hb⟩
  | map es =>
    obtain ⟨c, t, h1, h2, h3⟩ := h
    exact ⟨c, t, hh.trans h1, h2, fun j k u x hp hv => ⟨(h3 j k u x hp hv).1.mono hle hb, (h3 j k u x hp hv).2.mono hle hb⟩⟩
  | dead => trivial

theorem ownsRow_same {w w' : World} {base : Nat} {e : TypeId} {size : Nat} {v : Value} {n : Nat} {xs : List Value} (h : w.ownsRow base e size v n xs)
    (hb : ∀ b, v.ownBlock = some b → w'.heap[b]? = w.heap[b]?) : w'.ownsRow base e size v n xs := by
  obtain ⟨h1, h2⟩ := h
  refine ⟨h1, ?_⟩
  rcases h2 with h2 | ⟨g, cap, cur, rfl, hg, hh, r⟩
  · exact .inl h2
  · exact .inr ⟨g, cap, cur, rfl, hg, (hb g rfl).trans hh, r⟩

theorem Owned.same {P : Program} {Γ Γ' : Ghost} {w w' : World} {v : Value} {e : TypeId} (h : Owned P Γ w v e)
    (hb : ∀ b, v.ownBlock = some b → w'.heap[b]? = w.heap[b]? ∧ Γ' b = Γ b) : Owned P Γ' w' v e := by
  obtain ⟨n, xs, h1, h2⟩ := h
  exact ⟨n, xs, ownsRow_same h1 fun b h => (hb b h).1, fun b h => (hb b h).2.trans (h2 b h)⟩

theorem Owned.lt {P : Program} {Γ : Ghost} {w : World} {v : Value} {e : TypeId} (h : Owned P Γ w v e) {b : Nat} (hb : v.ownBlock = some b) : b < w.heap.size := by
  obtain ⟨n, xs, h1, _⟩ := h
  exact (h1.lt b hb).2

theorem cell?_congr {w w' : World} {b : Nat} (h : w'.heap[b]? = w.heap[b]?) (o : Nat) : w'.cell? ⟨b, o, none⟩ = w.cell? ⟨b, o, none⟩ := World.cell?_of_block (a := ⟨b, o, none⟩) h

section
variable {P : Program} {E : Ent} {Γ : Ghost} {bs : Boxes} {ow : Nat → Option Loc} {w : World} {a : Array Value} {st : PSt}

/-- The world moves on; of the blocks that were there, only some may have turned, none of them a box or somebody's own. -/
theorem SR.world (h : SR P E Γ bs ow w a st) {Γ' : Ghost} {w' : World} (M : Nat → Prop) (hle : Γ.Le w Γ' w')
    (hwi : ∀ b n, Γ' b = some n → ∃ c t fr, w'.heap[b]? = some (.cells c t fr) ∧ n ≤ c.size)
    (hos : w'.os = w.os) (htp : w'.tape = w.tape) (hout : w'.output = w.output) (hsz : w.heap.size ≤ w'.heap.size)
    (hk : ∀ b, b < w.heap.size → ¬ M b → w'.heap[b]? = w.heap[b]? ∧ Γ' b = Γ b)
    (hM : ∀ b, M b → E.T b ∨ E.w.heap.size ≤ b) (hMb : ∀ (i b : Nat), bs[i]? = some (some b) → ¬ M b) (hMo : ∀ b L, ow b = some L → ¬ M b) :
    SR P E Γ' bs ow w' a st := {
  wi := hwi
  sz := h.sz
  tm := fun t p v hp hv => (h.tm t p v hp hv).mono hle (.refl _)
  bl := h.bl
  bx := fun i b B hb hB => by
    obtain ⟨h1, h2, h3⟩ := h.bx i b B hb hB
    have hm := hk b h2 (hMb i b hb)
    exact ⟨hm.2.trans h1, by omega, h3.mono hle (.refl _) hm.1⟩
  inj := h.inj
  bn := h.bn
  on := fun b L hL => ⟨Nat.lt_of_lt_of_le (h.on b L hL).1 hsz, (h.on b L hL).2⟩
  ot := fun t k e he => by
    obtain ⟨u, v, h1, h2, h3, h4⟩ := h.ot t k e he
    exact ⟨u, v, h1, h2, h3.same fun b hb => hk b (h3.lt hb) (hMo b _ (h4 b hb)), h4⟩
  ob := fun i j e cs own b hB hj hb => by
    obtain ⟨v, h1, h3, h4⟩ := h.ob i j e cs own b hB hj hb
    have hbl := (h.bx i b _ hb hB).2.1
    exact ⟨v, (cell?_congr (hk b hbl (hMb i b hb)).1 j).trans h1, h3.same fun b hb => hk b (h3.lt hb) (hMo b _ (h4 b hb)), h4⟩
  gl := fun g cs hg => (h.gl g cs hg).mono hle (.refl _)
  gc := h.gc
  gx := h.gx
  step := {
    os := hos.trans h.step.os
    tape := htp.trans h.step.tape
    output := hout.trans h.step.output
    size := Nat.le_trans h.step.size hsz
    keep := fun b hb hT => by
      have hnM : ¬ M b := fun hm => (hM b hm).elim hT (fun hx => by omega)
      have hlt : b < w.heap.size := Nat.lt_of_lt_of_le hb h.step.size
      obtain ⟨k1, k2⟩ := h.step.keep b hb hT
      exact ⟨(hk b hlt hnM).1.trans k1, (hk b hlt hnM).2.trans k2⟩
    le := h.step.le.trans hle } }

/-- The listed variables' blocks stand as they stood when the call began. -/
theorem SR.gnow (h : SR P E Γ bs ow w a st) {g : Nat} {cs : List PVal} (hg : (g, cs) ∈ E.GE) : g < w.heap.size ∧ (∀ i b : Nat, bs[i]? = some (some b) → g ≠ b) ∧ ow g = none ∧ ∃ c t fr, w.heap[g]? = some (.cells c t fr) ∧ c.size = cs.length := by
  obtain ⟨h1, h2, c, t, fr, h3, h4⟩ := h.gx g cs hg
  refine ⟨Nat.lt_of_lt_of_le h1 h.step.size, fun i b hb e => ?_, ?_, c, t, fr, ((h.step.keep g h1 h2).1).trans h3, h4⟩
  · subst e
    rcases h.bn i g hb with h5 | h5
    · exact h2 h5
    · omega
  · cases hL : ow g with
    | none => rfl
    | some L =>
      rcases (h.on g L hL).2 with h5 | h5
      · exact absurd h5 h2
      · omega

theorem mem_of_filter {α : Type} {p : α → Bool} {l : List α} {x : α} (h : x ∈ l.filter p) : x ∈ l ∧ p x = true := by simpa using h

/-- What is said of ownership may be forgotten. -/
theorem SR.less (h : SR P E Γ bs ow w a st) {own : List ((Nat × Nat) × TypeId)} (hs : ∀ x ∈ own, x ∈ st.own) : SR P E Γ bs ow w a { st with own := own } :=
  { h with ot := fun t k e he => h.ot t k e (hs _ he), tm := h.tm, bx := h.bx, ob := h.ob, sz := h.sz, bl := h.bl }

theorem SR.ow_drop (h : SR P E Γ bs ow w a st) {ow' : Nat → Option Loc} (hs : ∀ b L, ow' b = some L → ow b = some L)
    (ht : ∀ t k e, ((t, k), e) ∈ st.own → ∀ b, ow b = some (.tmp t k) → ow' b = some (.tmp t k))
    (hb : ∀ (i j : Nat) e cs own, st.boxes[i]? = some (.cells cs own) → (j, e) ∈ own → ∀ b, ow b = some (.box i j) → ow' b = some (.box i j)) :
    SR P E Γ bs ow' w a st :=
  { h with
    on := fun b L hL => h.on b L (hs b L hL)
    ot := fun t k e he => by
      obtain ⟨u, v, h1, h2, h3, h4⟩ := h.ot t k e he
      exact ⟨u, v, h1, h2, h3, fun b hb' => ht t k e he b (h4 b hb')⟩
    ob := fun i j e cs own b hB hj hbb => by
      obtain ⟨v, h1, h3, h4⟩ := h.ob i j e cs own b hB hj hbb
      exact ⟨v, h1, h3, fun b' hb' => hb i j e cs own hB hj b' (h4 b' hb')⟩ }

def dropT (d : Nat) (own : List ((Nat × Nat) × TypeId)) : List ((Nat × Nat) × TypeId) := own.filter fun x => x.1.1 != d
theorem mem_dropT {d : Nat} {own : List ((Nat × Nat) × TypeId)} {x : (Nat × Nat) × TypeId} (h : x ∈ dropT d own) : x ∈ own ∧ x.1.1 ≠ d := by
  simpa [dropT] using h

/-- A slot is written. -/
theorem SR.set (h : SR P E Γ bs ow w a st) {d : Nat} {p : PVal} {v : Value} (hv : VR Γ bs w p v) :
    SR P E Γ bs ow w (a.setIfInBounds d v) { st with tmps := st.tmps.set d p, own := dropT d st.own } :=
  { h with
    sz := by simp [h.sz]
    tm := fun t q u hq hu => by
      simp only [List.getElem?_set] at hq
      rw [Array.getElem?_setIfInBounds] at hu
      by_cases hdt : d = t
      · subst hdt
        simp only [if_true] at hq hu
        split at hu
        · split at hq
          · cases hu; cases hq; exact hv
          · cases hq
        · cases hu
      · simp only [hdt, if_false] at hq hu
        exact h.tm t q u hq hu
    ot := fun t k e he => by
      obtain ⟨he, hd⟩ := mem_dropT he
      obtain ⟨u, v', h1, h2, h3, h4⟩ := h.ot t k e he
      refine ⟨u, v', ?_, h2, h3, h4⟩
      rw [Array.getElem?_setIfInBounds_ne (fun e => hd e.symm)]
      exact h1 }

end
end Go.Proofs.YtgiimiklbabhcaaDoor
