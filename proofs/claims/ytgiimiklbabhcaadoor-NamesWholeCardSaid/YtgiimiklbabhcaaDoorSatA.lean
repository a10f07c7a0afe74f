/-
  WHAT IS PROVED: rules of a semantic triple for code in the abstract machine ('Sat'): what a piece of code comes to, from any state; a loop by a function of plain data ('loop'). No program in sight. Conditions: none.
-/
import Derived.Test.YtgiimiklbabhcaaDoorAbsS3
namespace Go.Proofs.YtgiimiklbabhcaaDoor
open Go

section plain
variable {σ X : Type}

/-- A loop of plain data, at most n rounds. -/
def loopN (body : σ → Option (σ ⊕ X)) : Nat → σ → Option X
  | 0, _ => none
  | n + 1, s => match body s with
    | none => none
    | some (.inl s') => loopN body n s'
    | some (.inr x) => some x

theorem loopN_up {body : σ → Option (σ ⊕ X)} : ∀ {n : Nat} {s : σ} {x : X}, loopN body n s = some x → ∀ k, loopN body (n + k) s = some x
  | 0, _, _, h, _ => by cases h
  | n + 1, s, x, h, k => by
    rw [Nat.add_right_comm]
    unfold loopN at h ⊢
    split at h
    · cases h
    · exact loopN_up h k
    · exact h

theorem loopN_det {body : σ → Option (σ ⊕ X)} {n m : Nat} {s : σ} {x y : X} (h1 : loopN body n s = some x) (h2 : loopN body m s = some y) : x = y := by
  have h3 := loopN_up h1 m
  have h4 := loopN_up h2 n
  rw [Nat.add_comm] at h4
  exact Option.some.inj (h3.symm.trans h4)

open Classical in
/-- A loop of plain data: none if it doesn't end. -/
noncomputable def loop (body : σ → Option (σ ⊕ X)) (s : σ) : Option X := if h : ∃ x n, loopN body n s = some x then some h.choose else none

theorem loop_some {body : σ → Option (σ ⊕ X)} {s : σ} {x : X} : loop body s = some x ↔ ∃ n, loopN body n s = some x := by
  unfold loop
  constructor
  · intro h
    split at h
    · rename_i he; cases h; exact he.choose_spec
    · cases h
  · rintro ⟨n, h⟩
    have he : ∃ x n, loopN body n s = some x := ⟨x, n, h⟩
    rw [dif_pos he]
    obtain ⟨m, hm⟩ := he.choose_spec
    rw [loopN_det hm h]

theorem loop_eq (body : σ → Option (σ ⊕ X)) (s : σ) : loop body s = match body s with
    | none => none
    | some (.inl s') => loop body s'
    | some (.inr x) => some x := by
  have key : ∀ y, loop body s = some y ↔ (match body s with
    | none => none
    | some (.inl s') => loop body s'
    | some (.inr x) => some x) = some y := by
    intro y
    rw [loop_some]
    constructor
    · rintro ⟨n, h⟩
      cases n with
      | zero => cases h
      | succ n =>
        unfold loopN at h
        cases hb : body s with
        | none => rw [hb] at h; cases h
        | some v =>
          cases v with
          | inl s' => rw [hb] at h; exact loop_some.2 ⟨n, h⟩
          | inr x => rw [hb] at h; exact h
    · intro h
      cases hb : body s with
      | none => rw [hb] at h; cases h
      | some v =>
        cases v with
        | inl s' =>
          rw [hb] at h
          obtain ⟨n, hn⟩ := loop_some.1 h
          exact ⟨n + 1, by unfold loopN; rw [hb]; exact hn⟩
        | inr x => rw [hb] at h; exact ⟨1, by unfold loopN; rw [hb]; exact h⟩
  cases h1 : loop body s with
  | none =>
    cases h2 : (match body s with
      | none => none
      | some (.inl s') => loop body s'
      | some (.inr x) => some x) with
    | none => rfl
    | some y => rw [(key y).2 h2] at h1; cases h1
  | some y => exact ((key y).1 h1).symm

/-- A list's element. -/
def idx {α : Type} (l : List α) (i : Int) : Option α := if 0 ≤ i then l[i.toNat]? else none

theorem bnd {α β : Type} {o : Option α} {k : α → Option β} {x : β} (h : o.bind k = some x) : ∃ a, o = some a ∧ k a = some x := by
  cases o with
  | none => cases h
  | some a => exact ⟨a, rfl, h⟩
theorem ifs {β : Type} {b : Bool} {x y : Option β} {z : β} (h : (if b = true then x else y) = some z) : (b = true ∧ x = some z) ∨ (b = false ∧ y = some z) := by
  cases b
  · exact .inr ⟨rfl, h⟩
  · exact .inl ⟨rfl, h⟩
end plain

/-- A call's beginning: its listed variables; what never changes lies in blocks that were there; where it is handed no box, it may write no block that was there. -/
structure EGood (GE : List (Nat × List PVal)) (m : Nat) (E : Ent) : Prop where
  ge : E.GE = GE
  low : ∀ b n, E.Γ b = some n → b < E.w.heap.size
  nt : m = 0 → ∀ b, ¬ E.T b
  gl : ∀ g cs, (g, cs) ∈ GE → VR E.Γ [] E.w (.eptr cs) (.pointer (some ⟨g, 0, none⟩))

/-- WHAT CODE COMES TO, FROM A STATE. -/
def Sat (P : Program) (GE : List (Nat × List PVal)) (m : Nat) (c : Code) (Q : Exit → PSt → Prop) (st : PSt) : Prop :=
  ∀ (E : Ent) (bs0 : Boxes) (a : Act) (w : World), EGood GE m E → bs0.length = m → Rel P E bs0 st a w → c.wp P (PostR P E bs0 a.defers Q) a w

/-- Just this end, in just this state. -/
def EX (e : Exit) (st : PSt) : Exit → PSt → Prop := fun e' st' => e' = e ∧ st' = st

/-- A state stands for less. -/
def Weak (P : Program) (m : Nat) (st st' : PSt) : Prop := ∀ (E : Ent) (bs0 : Boxes) (a : Act) (w : World), bs0.length = m → Rel P E bs0 st a w → Rel P E bs0 st' a w

section
variable {P : Program} {GE : List (Nat × List PVal)} {m : Nat}

theorem Weak.refl (st : PSt) : Weak P m st st := fun _ _ _ _ _ h => h
theorem Weak.trans {a b c : PSt} (h : Weak P m a b) (h' : Weak P m b c) : Weak P m a c := fun E bs0 x w hb h0 => h' E bs0 x w hb (h E bs0 x w hb h0)
theorem Weak.of_less {st st' : PSt} (h : Less st st') (hm : m ≤ st'.boxes.length) : Weak P m st st' := fun _ _ _ _ hb hR => hR.less h (by rw [hb]; exact hm)

theorem Sat.mono {c : Code} {Q Q' : Exit → PSt → Prop} {st : PSt} (h : Sat P GE m c Q st) (hq : ∀ e st, Q e st → ∃ st', Weak P m st st' ∧ Q' e st') : Sat P GE m c Q' st :=
  fun E bs0 a w hE hb hR => wp_mono (h E bs0 a w hE hb hR) fun e a' w' hP => by
    obtain ⟨hd, st1, hR1, hQ⟩ := hP
    obtain ⟨st2, hw, hQ2⟩ := hq e st1 hQ
    exact ⟨hd, st2, hw E bs0 a' w' hb hR1, hQ2⟩
theorem Sat.imp {c : Code} {Q Q' : Exit → PSt → Prop} {st : PSt} (h : Sat P GE m c Q st) (hq : ∀ e st, Q e st → Q' e st) : Sat P GE m c Q' st := h.mono fun e st hQ => ⟨st, .refl st, hq e st hQ⟩
theorem Sat.weak {c : Code} {Q : Exit → PSt → Prop} {st st' : PSt} (hw : Weak P m st st') (h : Sat P GE m c Q st') : Sat P GE m c Q st :=
  fun E bs0 a w hE hb hR => h E bs0 a w hE hb (hw E bs0 a w hb hR)

theorem Sat.skip {Q : Exit → PSt → Prop} {st : PSt} (h : Q .normal st) : Sat P GE m .skip Q st := fun _ _ _ _ _ _ hR => wp_skip ⟨rfl, st, hR, h⟩
theorem Sat.label {l : Nat} {Q : Exit → PSt → Prop} {st : PSt} (h : Q .normal st) : Sat P GE m (.label l) Q st := fun _ _ _ _ _ _ hR => wp_label ⟨rfl, st, hR, h⟩
theorem Sat.exit {id : Nat} {Q : Exit → PSt → Prop} {st : PSt} (h : Q (.exit id) st) : Sat P GE m (.exit id) Q st := fun _ _ _ _ _ _ hR => wp_exit ⟨rfl, st, hR, h⟩
theorem Sat.ret {Q : Exit → PSt → Prop} {st : PSt} (h : Q .ret st) : Sat P GE m .ret Q st := fun _ _ _ _ _ _ hR => wp_ret ⟨rfl, st, hR, h⟩

theorem Sat.seq {x y : Code} {Q : Exit → PSt → Prop} {st : PSt} (h : Sat P GE m x (fun e st' => match e with | .normal => Sat P GE m y Q st' | e => Q e st') st) : Sat P GE m (.seq x y) Q st := by
  intro E bs0 a w hE hb hR
  refine wp_seq (wp_mono (h E bs0 a w hE hb hR) fun e a' w' hq => ?_)
  obtain ⟨hd, st', hR', hq⟩ := hq
  cases e with
  | normal =>
    have := hq E bs0 a' w' hE hb hR'
    rw [hd] at this
    exact this
  | exit id => exact ⟨hd, st', hR', hq⟩
  | goto l => exact ⟨hd, st', hR', hq⟩
  | ret => exact ⟨hd, st', hR', hq⟩
  | panic c => exact ⟨hd, st', hR', hq⟩
  | outgrown => exact ⟨hd, st', hR', hq⟩

theorem Sat.cond {c : Operand} {x y : Code} {Q : Exit → PSt → Prop} {st : PSt} {t : Bool} (hv : opv GE st.tmps c = .bool t) (h1 : t = true → Sat P GE m x Q st) (h2 : t = false → Sat P GE m y Q st) : Sat P GE m (.cond c x y) Q st := by
  intro E bs0 a w hE hb hR
  obtain ⟨Γ, bs, ow, h, hk⟩ := hR
  have hv' := h.opv a.defers c
  rw [hE.ge, hv] at hv'
  generalize hc : (Act.mk a.tmps a.defers).eval c = vc at hv'
  cases hv'
  exact wp_cond_split (t := t) hc (fun ht => h1 ht E bs0 a w hE hb ⟨Γ, bs, ow, h, hk⟩) (fun ht => h2 ht E bs0 a w hE hb ⟨Γ, bs, ow, h, hk⟩)

theorem Sat.block {id : Nat} {c : Code} {Q : Exit → PSt → Prop} {st : PSt} (h : Sat P GE m c (blockP id Q) st) : Sat P GE m (.block id c) Q st := by
  intro E bs0 a w hE hb hR
  refine wp_block (wp_mono (h E bs0 a w hE hb hR) fun e a' w' hq => ?_)
  obtain ⟨hd, st', hR', hq⟩ := hq
  cases e with
  | exit id' =>
    simp only [blockP] at hq
    simp only [Exit.inBlock]
    split at hq
    · rename_i hid; rw [if_pos hid]; exact ⟨hd, st', hR', hq⟩
    · rename_i hid; rw [if_neg hid]; exact ⟨hd, st', hR', hq⟩
  | normal => exact ⟨hd, st', hR', hq⟩
  | goto l => exact ⟨hd, st', hR', hq⟩
  | ret => exact ⟨hd, st', hR', hq⟩
  | panic c => exact ⟨hd, st', hR', hq⟩
  | outgrown => exact ⟨hd, st', hR', hq⟩

theorem Sat.text {A : List Nat} {id : Nat} {ops : Array Oper} {Q : Exit → PSt → Prop} {st : PSt}
    (h : pregion P GE A ops (Q .normal) ops.toList st.boxes.length { st with boxes := st.boxes ++ preBoxes P ops.toList }) : Sat P GE m (.region id ops false) Q st := by
  intro E bs0 a w hE hb hR
  obtain ⟨rfl, _, _, _⟩ := hE
  exact pregion_text hR hR.len (fun a' w' st' hd hR' hK => ⟨hd, st', hR', hK⟩) h
theorem Sat.draw (hf : P.follows .mixedOrders = true) {id : Nat} {ops : Array Oper} {Q : Exit → PSt → Prop} {st : PSt} (h : pdraw P GE ops (Q .normal) st) : Sat P GE m (.region id ops true) Q st := by
  intro E bs0 a w hE hb hR
  obtain ⟨rfl, _, _, _⟩ := hE
  exact fregion_draw hf hR hR.len (fun a' w' st' hd hR' hK => ⟨hd, st', hR', hK⟩) h

/-- How a round of a loop ends: the next state, or an end of the loop. -/
def LQ {σ X : Type} (S : σ → PSt) (ex : X → Exit) (so : X → PSt) : σ ⊕ X → Exit → PSt → Prop
  | .inl s, e, st => e = .normal ∧ st = S s
  | .inr x, e, st => e ≠ .normal ∧ e = ex x ∧ st = so x

theorem Sat.loop {σ X : Type} {S : σ → PSt} {ex : X → Exit} {so : X → PSt} {body : σ → Option (σ ⊕ X)} {c : Code} {s : σ} {x : X} (h : loop body s = some x)
    (hb : ∀ s y, body s = some y → Sat P GE m c (LQ S ex so y) (S s)) : Sat P GE m (.loop c) (EX (ex x) (so x)) (S s) := by
  obtain ⟨n, hn⟩ := loop_some.1 h
  intro E bs0 a w hE hb0 hR
  refine wp_loop_ghost (fun k a' w' => a'.defers = a.defers ∧ ∃ s', Rel P E bs0 (S s') a' w' ∧ loopN body k s' = some x) n ⟨rfl, s, hR, hn⟩ ?_
  intro k a1 w1 hI
  obtain ⟨hd1, s1, hR1, hl⟩ := hI
  cases k with
  | zero => cases hl
  | succ k =>
    unfold loopN at hl
    split at hl
    · cases hl
    · rename_i s2 hs2
      refine wp_mono (hb s1 _ hs2 E bs0 a1 w1 hE hb0 hR1) fun e a' w' hq => ?_
      obtain ⟨hd, st', hR', rfl, rfl⟩ := hq
      exact ⟨k, Nat.lt_succ_self k, hd.trans hd1, s2, hR', hl⟩
    · rename_i x2 hs2
      cases hl
      refine wp_mono (hb s1 _ hs2 E bs0 a1 w1 hE hb0 hR1) fun e a' w' hq => ?_
      obtain ⟨hd, st', hR', hne, rfl, rfl⟩ := hq
      have hd' := hd.trans hd1
      cases hex : ex x with
      | normal => exact absurd hex hne
      | exit id => exact ⟨hd', _, hR', rfl, rfl⟩
      | goto l => exact ⟨hd', _, hR', rfl, rfl⟩
      | ret => exact ⟨hd', _, hR', rfl, rfl⟩
      | panic c => exact ⟨hd', _, hR', rfl, rfl⟩
      | outgrown => exact ⟨hd', _, hR', rfl, rfl⟩

/-- Slots and boxes are forgotten, where a state that is wanted says nothing. -/
def fgT : List PVal → List PVal → List PVal
  | [], _ => []
  | _ :: ps, [] => .undef :: fgT ps []
  | _ :: ps, .undef :: qs => .undef :: fgT ps qs
  | p :: ps, _ :: qs => p :: fgT ps qs
def fgB : List PBox → List PBox → List PBox
  | [], _ => []
  | _ :: ps, .dead :: qs => .dead :: fgB ps qs
  | p :: ps, [] => p :: fgB ps []
  | p :: ps, _ :: qs => p :: fgB ps qs

theorem fgT_cons (p : PVal) (ps qs : List PVal) : ∃ q r, fgT (p :: ps) qs = q :: fgT ps r ∧ (q = .undef ∨ q = p) := by
  cases qs with
  | nil => exact ⟨_, [], by simp [fgT], .inl rfl⟩
  | cons q qs => cases q <;> first | (refine ⟨p, qs, ?_, .inr rfl⟩; simp only [fgT]; done) | (refine ⟨.undef, qs, ?_, .inl rfl⟩; simp only [fgT]; done)
theorem fgB_cons (p : PBox) (ps qs : List PBox) : ∃ q r, fgB (p :: ps) qs = q :: fgB ps r ∧ (q = .dead ∨ q = p) := by
  cases qs with
  | nil => exact ⟨p, [], by simp only [fgB], .inr rfl⟩
  | cons q qs => cases q <;> first | (refine ⟨p, qs, ?_, .inr rfl⟩; simp only [fgB]; done) | (refine ⟨.dead, qs, ?_, .inl rfl⟩; simp only [fgB]; done)
theorem fgT_get : ∀ {l bs : List PVal} {i : Nat} {p : PVal}, (fgT l bs)[i]? = some p → p = .undef ∨ l[i]? = some p
  | [], bs, i, p, h => by simp [fgT] at h
  | q :: l, bs, i, p, h => by
    obtain ⟨q', r, h1, h2⟩ := fgT_cons q l bs
    rw [h1] at h
    cases i with
    | zero => simp at h; subst h; rcases h2 with h2 | h2 <;> simp [h2]
    | succ i => simpa using fgT_get (by simpa using h)
theorem fgT_len : ∀ {l bs : List PVal}, (fgT l bs).length = l.length
  | [], bs => by simp [fgT]
  | q :: l, bs => by obtain ⟨q', r, h1, h2⟩ := fgT_cons q l bs; rw [h1]; simp [fgT_len]
theorem fgB_get : ∀ {l bs : List PBox} {i : Nat} {B : PBox}, (fgB l bs)[i]? = some B → ∃ B', l[i]? = some B' ∧ (B = .dead ∨ B = B')
  | [], bs, i, p, h => by simp [fgB] at h
  | q :: l, bs, i, p, h => by
    obtain ⟨q', r, h1, h2⟩ := fgB_cons q l bs
    rw [h1] at h
    cases i with
    | zero => simp at h; subst h; exact ⟨q, rfl, h2⟩
    | succ i => simpa using fgB_get (by simpa using h)
theorem fgB_len : ∀ {l bs : List PBox}, (fgB l bs).length = l.length
  | [], bs => by simp [fgB]
  | q :: l, bs => by obtain ⟨q', r, h1, h2⟩ := fgB_cons q l bs; rw [h1]; simp [fgB_len]

theorem Weak.forget {st : PSt} (bt : List PVal) (bb : List PBox) (own : List ((Nat × Nat) × TypeId)) (ho : ∀ x ∈ own, x ∈ st.own) : Weak P m st ⟨fgT st.tmps bt, fgB st.boxes bb, own⟩ := by
  intro E bs0 a w hb hR
  obtain ⟨Γ, bs, ow, h, hk⟩ := hR
  refine ⟨Γ, bs, ow, ?_, hk⟩
  exact { h with
    sz := by rw [h.sz]; exact fgT_len.symm
    tm := fun t p v hp hv => by
      rcases fgT_get hp with rfl | hp'
      · exact .undef v
      · exact h.tm t p v hp' hv
    bl := by rw [h.bl]; exact fgB_len.symm
    bx := fun i b B hib hB => by
      obtain ⟨B', hB', hx⟩ := fgB_get hB
      obtain ⟨k1, k2, k3⟩ := h.bx i b B' hib hB'
      rcases hx with rfl | rfl
      · exact ⟨k1, k2, trivial⟩
      · exact ⟨k1, k2, k3⟩
    ot := fun t k e he => h.ot t k e (ho _ he)
    ob := fun i j e cs own' b hB hj hib => by
      obtain ⟨B', hB', hx⟩ := fgB_get hB
      rcases hx with hx | rfl
      · cases hx
      · exact h.ob i j e cs own' b hB' hj hib }

theorem EX.of {c : Code} {e : Exit} {st st0 : PSt} {Q : Exit → PSt → Prop} (h : Sat P GE m c (EX e st0) st) (hq : Q e st0) : Sat P GE m c Q st :=
  h.imp fun e' st' hx => by obtain ⟨rfl, rfl⟩ := hx; exact hq
end
end Go.Proofs.YtgiimiklbabhcaaDoor
