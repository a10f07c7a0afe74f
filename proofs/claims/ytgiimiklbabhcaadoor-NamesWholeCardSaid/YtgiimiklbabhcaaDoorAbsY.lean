/-
  WHAT IS PROVED: whole bodies of functions in the abstract machine ('pw'), and how a contract follows from a body ('C.intro'). No program in sight. Conditions: none.
-/
import Derived.Test.YtgiimiklbabhcaaDoorAbsX
namespace Go.Proofs.YtgiimiklbabhcaaDoor
open Go

/-- A state that says less: some slots are forgotten, and the boxes from n on; what stays doesn't lead to these. -/
def tmpsLess (n : Nat) : List PVal → List PVal → Prop
  | [], [] => True
  | p :: ps, q :: qs => (q = .undef ∨ (p = q ∧ q.cl n)) ∧ tmpsLess n ps qs
  | _, _ => False
def boxLess (n : Nat) : PBox → PBox → Prop
  | _, .dead => True
  | .cells cs own, .cells cs' own' => cs = cs' ∧ clL n cs ∧ ∀ x ∈ own', x ∈ own
  | .map es, .map es' => es = es' ∧ (∀ x ∈ es, x.1.cl n ∧ x.2.cl n)
  | _, _ => False
def boxesLess (n : Nat) : List PBox → List PBox → Prop
  | _, [] => True
  | B :: l, B' :: l' => boxLess n B B' ∧ boxesLess n l l'
  | [], _ :: _ => False
structure Less (st st' : PSt) : Prop where
  tmps : tmpsLess st'.boxes.length st.tmps st'.tmps
  boxes : boxesLess st'.boxes.length st.boxes st'.boxes
  own : ∀ x ∈ st'.own, x ∈ st.own

def ploop : Nat → ((Exit → PSt → Prop) → PSt → Prop) → Nat → (Exit → PSt → Prop) → PSt → Prop
  | 0, _, _, _, _ => False
  | n + 1, F, m, Q, st => F (fun e st' => match e with
    | .normal => ∃ st'', Less st' st'' ∧ m ≤ st''.boxes.length ∧ ploop n F m Q st''
    | e => Q e st') st

def thenP (next : PSt → Prop) (Q : Exit → PSt → Prop) : Exit → PSt → Prop
  | .normal, st => next st
  | e, st => Q e st
def blockP (id : Nat) (Q : Exit → PSt → Prop) : Exit → PSt → Prop
  | .exit id', st => if id' = id then Q .normal st else Q (.exit id') st
  | e, st => Q e st

/-- What a body comes to. 'A': the slots into which a slice's tail goes along; 'm': so many boxes are the caller's. -/
def pw (P : Program) (GE : List (Nat × List PVal)) (A : List Nat) (m : Nat) : Code → (Exit → PSt → Prop) → PSt → Prop
  | .skip, Q, st => Q .normal st
  | .label _, Q, st => Q .normal st
  | .region _ ops draw, Q, st => match draw with
    | false => pregion P GE A ops (Q .normal) ops.toList st.boxes.length { st with boxes := st.boxes ++ preBoxes P ops.toList }
    | true => pdraw P GE ops (Q .normal) st
  | .seq a b, Q, st => pw P GE A m a (thenP (pw P GE A m b Q) Q) st
  | .cond c a b, Q, st => match opv GE st.tmps c with
    | .bool t => (t = true → pw P GE A m a Q st) ∧ (t = false → pw P GE A m b Q st)
    | _ => False
  | .block id c, Q, st => pw P GE A m c (blockP id Q) st
  | .loop c, Q, st => ∃ st0 n, Less st st0 ∧ m ≤ st0.boxes.length ∧ ploop n (pw P GE A m c) m Q st0
  | .exit id, Q, st => Q (.exit id) st
  | .ret, Q, st => Q .ret st
  | _, _, _ => False

section
variable {P : Program} {E : Ent} {bs0 : Boxes}

theorem tmpsLess_get {n : Nat} : ∀ {l l' : List PVal}, tmpsLess n l l' → l.length = l'.length ∧ ∀ (i : Nat) q, l'[i]? = some q → q = .undef ∨ (l[i]? = some q ∧ q.cl n)
  | [], [], _ => ⟨rfl, by simp⟩
  | [], _ :: _, h => by simp [tmpsLess] at h
  | _ :: _, [], h => by simp [tmpsLess] at h
  | p :: l, q :: l', h => by
    simp only [tmpsLess] at h
    obtain ⟨h1, h2⟩ := tmpsLess_get h.2
    refine ⟨by simp [h1], fun i x hx => ?_⟩
    cases i with
    | zero =>
      simp at hx; subst hx
      rcases h.1 with h3 | ⟨rfl, h3⟩
      · exact .inl h3
      · exact .inr ⟨rfl, h3⟩
    | succ i => simpa using h2 i x (by simpa using hx)

theorem boxesLess_get {n : Nat} : ∀ {l l' : List PBox}, boxesLess n l l' → l'.length ≤ l.length ∧ ∀ (i : Nat) B', l'[i]? = some B' → ∃ B, l[i]? = some B ∧ boxLess n B B'
  | _, [], _ => ⟨by simp, by simp⟩
  | [], _ :: _, h => by simp [boxesLess] at h
  | B :: l, B' :: l', h => by
    simp only [boxesLess] at h
    obtain ⟨h1, h2⟩ := boxesLess_get h.2
    refine ⟨by simpa using h1, fun i x hx => ?_⟩
    cases i with
    | zero => simp at hx; subst hx; exact ⟨B, rfl, h.1⟩
    | succ i => simpa using h2 i x (by simpa using hx)

/-- A state that says less stands as well. -/
theorem Rel.less {st st' : PSt} {a : Act} {w : World} (hR : Rel P E bs0 st a w) (hl : Less st st') (hm : bs0.length ≤ st'.boxes.length) : Rel P E bs0 st' a w := by
  obtain ⟨Γ, bs, ow, h, hk⟩ := hR
  obtain ⟨h1, h2⟩ := tmpsLess_get hl.tmps
  obtain ⟨h3, h4⟩ := boxesLess_get hl.boxes
  have hbl : st'.boxes.length ≤ bs.length := by rw [h.bl]; exact h3
  have hget : ∀ {i b : Nat}, (bs.take st'.boxes.length)[i]? = some (some b) → i < st'.boxes.length ∧ bs[i]? = some (some b) := by
    intro i b hi
    have hlt : i < st'.boxes.length := by have := lt_of_get hi; simp at this; omega
    rw [List.getElem?_take_of_lt hlt] at hi
    exact ⟨hlt, hi⟩
  have hres : ∀ (i b : Nat), i < st'.boxes.length → bs[i]? = some (some b) → (bs.take st'.boxes.length)[i]? = some (some b) := fun i b hi hb => by
    rw [List.getElem?_take_of_lt hi]; exact hb
  refine ⟨Γ, bs.take st'.boxes.length, ow, ?_, fun i hi => ?_⟩
  · exact {
      wi := h.wi
      sz := by rw [h.sz, h1]
      tm := fun t p v hp hv => by
        rcases h2 t p hp with rfl | ⟨h5, h6⟩
        · exact .undef v
        · exact (h.tm t p v h5 hv).restrict h6 hres
      bl := by simp; omega
      bx := fun i b B hb hB => by
        obtain ⟨hlt, hb⟩ := hget hb
        obtain ⟨B0, hB0, hx⟩ := h4 i B hB
        obtain ⟨k1, k2, k3⟩ := h.bx i b B0 hb hB0
        refine ⟨k1, k2, ?_⟩
        cases B with
        | dead => trivial
        | cells cs own =>
          cases B0 <;> simp only [boxLess] at hx
          obtain ⟨rfl, hcl, _⟩ := hx
          obtain ⟨c, t, e1, e2, e3⟩ := k3
          exact ⟨c, t, e1, e2, fun j p v hp hv => (e3 j p v hp hv).restrict (clL_get hcl hp) hres⟩
        | map es =>
          cases B0 <;> simp only [boxLess] at hx
          obtain ⟨rfl, hcl⟩ := hx
          obtain ⟨c, t, e1, e2, e3⟩ := k3
          refine ⟨c, t, e1, e2, fun j k u x hp hv => ?_⟩
          obtain ⟨q1, q2⟩ := hcl _ (List.mem_of_getElem? hp)
          exact ⟨(e3 j k u x hp hv).1.restrict q1 hres, (e3 j k u x hp hv).2.restrict q2 hres⟩
      inj := fun i j b hi hj => h.inj i j b (hget hi).2 (hget hj).2
      bn := fun i b hb => h.bn i b (hget hb).2
      on := h.on
      ot := fun t k e he => h.ot t k e (hl.own _ he)
      ob := fun i j e cs own b hB hj hb => by
        obtain ⟨hlt, hb⟩ := hget hb
        obtain ⟨B0, hB0, hx⟩ := h4 i _ hB
        cases B0 <;> simp only [boxLess] at hx
        exact h.ob i j e _ _ b hB0 (hx.2.2 _ hj) hb
      gl := fun g cs hg => (h.gl g cs hg).restrict (n := 0) (by simp only [PVal.cl]; exact h.gc g cs hg) (fun i b hi _ => absurd hi (Nat.not_lt_zero _))
      gc := h.gc
      gx := h.gx
      step := h.step }
  · rw [List.getElem?_take_of_lt (by omega)]; exact hk i hi

/-- What the model's code comes to, by what the abstract machine's comes to. -/
def Post (P : Program) (E : Ent) (bs0 : Boxes) (ds : List Deferred) (Q : Exit → PSt → Prop) : Exit → Act → World → Prop :=
  fun e a w => a.defers = ds ∧ ∃ st, Rel P E bs0 st a w ∧ bs0.length ≤ st.boxes.length ∧ Q e st

theorem putv_boxes (st : PSt) (dst : Option Tmp) (p : PVal) (ro : List (Nat × TypeId)) (H : List PBox) : (putv st dst p ro H).boxes = H := by cases dst <;> rfl

end
end Go.Proofs.YtgiimiklbabhcaaDoor
