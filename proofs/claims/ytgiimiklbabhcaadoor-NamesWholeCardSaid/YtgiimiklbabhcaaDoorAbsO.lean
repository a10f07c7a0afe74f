/-
  WHAT IS PROVED: what it means that a call of a function comes to a result in the abstract machine ('C'), and how a caller's state goes on behind such a call. No program in sight. Conditions: none.
-/
import Derived.Test.YtgiimiklbabhcaaDoorAbsN
namespace Go.Proofs.YtgiimiklbabhcaaDoor
open Go

/-- Which blocks a call may write: its boxes, and the tails of what it owns. -/
def touches (bs : Boxes) (ow : Nat → Option Loc) (b : Nat) : Prop := (∃ i : Nat, bs[i]? = some (some b)) ∨ ow b ≠ none

/-- WHAT A CALL OF FUNCTION f COMES TO: 'args', the boxes H before it, what the arguments own ('oa'); the result r, what of it is its own ('ro': part and element's type), the boxes behind it. -/
def C (P : Program) (GE : List (Nat × List PVal)) (f : FuncId) (args : List PVal) (oa : List ((Nat × Nat) × TypeId)) (H : List PBox) (r : PVal) (ro : List (Nat × TypeId)) (H' : List PBox) : Prop :=
  (∀ vs w, (callFunc f vs).run P w = .ok (.enter f vs) w) ∧
  ∀ (Γ : Ghost) (bs : Boxes) (ow : Nat → Option Loc) (w : World) (vs : Array Value),
    SR P ⟨GE, Γ, w, touches bs ow⟩ Γ bs ow w vs ⟨args, H, oa⟩ →
    Calls P f vs w fun e w' => ∃ v Γ' ow', e = .returned v ∧ SR P ⟨GE, Γ, w, touches bs ow⟩ Γ' bs ow' w' #[v] ⟨[r], H', ro.map fun x => ((0, x.1), x.2)⟩

section
variable {P : Program} {E : Ent} {Γ : Ghost} {bs : Boxes} {ow : Nat → Option Loc} {w : World} {a : Array Value} {st : PSt}

theorem Step.refl (GE : List (Nat × List PVal)) (Γ : Ghost) (w : World) (T : Nat → Prop) : Step ⟨GE, Γ, w, T⟩ Γ w :=
  ⟨rfl, rfl, rfl, Nat.le_refl _, fun _ _ _ => ⟨rfl, rfl⟩, .refl _ _⟩

def newOw (d : Nat) (owC ow : Nat → Option Loc) : Nat → Option Loc := fun b =>
  match owC b with
  | some (.tmp _ k) => some (.tmp d k)
  | _ => ow b

/-- A result goes into a slot, with what it owns. -/
theorem SR.setResult (h : SR P E Γ bs ow w a st) {d : Nat} {r : PVal} {v : Value} (hd : d < a.size) (hv : VR Γ bs w r v) {owC : Nat → Option Loc} {ro : List (Nat × TypeId)}
    (hro : ∀ k e, (k, e) ∈ ro → ∃ v', partV v k = some v' ∧ Owned P Γ w v' e ∧ ∀ b, v'.ownBlock = some b → owC b = some (.tmp 0 k))
    (hfree : ∀ b t k, owC b = some (.tmp t k) → ow b = none ∧ b < w.heap.size ∧ (E.T b ∨ E.w.heap.size ≤ b)) :
    SR P E Γ bs (newOw d owC ow) w (a.setIfInBounds d v) { st with tmps := st.tmps.set d r, own := (ro.map fun x => ((d, x.1), x.2)) ++ dropT d st.own } := by
  have hs := h.set (d := d) (p := r) hv
  have hkeep : ∀ b L, ow b = some L → newOw d owC ow b = some L := fun b L hL => by
    unfold newOw
    split
    · rename_i t k hb; rw [(hfree b _ _ hb).1] at hL; cases hL
    · exact hL
  exact { hs with
    on := fun b L hL => by
      unfold newOw at hL
      split at hL
      · rename_i t k hb; exact (hfree b _ _ hb).2
      · exact h.on b L hL
    ot := fun t k e he => by
      rcases List.mem_append.1 he with he | he
      · simp only [List.mem_map, Prod.mk.injEq] at he
        obtain ⟨⟨k', e'⟩, hm, ⟨rfl, rfl⟩, rfl⟩ := he
        obtain ⟨v', h1, h2, h3⟩ := hro k' e' hm
        refine ⟨v, v', by simp [hd], h1, h2, fun b hb => ?_⟩
        have := h3 b hb
        simp [newOw, this]
      · obtain ⟨u, v', h1, h2, h3, h4⟩ := hs.ot t k e he
        exact ⟨u, v', h1, h2, h3, fun b hb => hkeep b _ (h4 b hb)⟩
    ob := fun i j e cs own b hB hj hb => by
      obtain ⟨v', h1, h3, h4⟩ := h.ob i j e cs own b hB hj hb
      exact ⟨v', h1, h3, fun b' hb' => hkeep b' _ (h4 b' hb')⟩ }

/-- A call that is handed no box. -/
theorem call_pure (h : SR P E Γ bs ow w a st) {g : FuncId} {args : List PVal} {r : PVal} {ro : List (Nat × TypeId)} {vs : Array Value} {d : Nat} (hd : d < a.size) (hC : C P E.GE g args [] [] r ro [])
    (hl : vs.size = args.length) (hv : ∀ (i : Nat) p v, args[i]? = some p → vs[i]? = some v → VR Γ bs w p v) (hcl : clL 0 args) :
    Calls P g vs w fun e w' => ∃ v Γ' ow', e = .returned v ∧ SR P E Γ' bs ow' w' (a.setIfInBounds d v) { st with tmps := st.tmps.set d r, own := (ro.map fun x => ((d, x.1), x.2)) ++ dropT d st.own } ∧ Γ.Le w Γ' w' := by
  have hpre : SR P ⟨E.GE, Γ, w, touches [] fun _ => none⟩ Γ [] (fun _ => none) w vs ⟨args, [], []⟩ := {
    wi := h.wi
    sz := hl
    tm := fun t p v hp hv' => (hv t p v hp hv').restrict (n := 0) (clL_get hcl hp) (fun i b hi _ => absurd hi (Nat.not_lt_zero _))
    bl := rfl
    bx := fun i b B hb => by simp at hb
    inj := fun i j b hb => by simp at hb
    bn := fun i b hb => by simp at hb
    on := fun b L hL => by cases hL
    ot := fun t k e he => by simp at he
    ob := fun i j e cs own b hB => by simp at hB
    gl := fun g cs hg => (h.gl g cs hg).restrict (n := 0) (by simp only [PVal.cl]; exact h.gc g cs hg) (fun i b hi _ => absurd hi (Nat.not_lt_zero _))
    gc := h.gc
    gx := fun g cs hg => by
      obtain ⟨k1, _, _, k4⟩ := h.gnow hg
      exact ⟨k1, fun hT => hT.elim (fun hx => by obtain ⟨i, hi⟩ := hx; simp at hi) (fun hx => hx rfl), k4⟩
    step := .refl _ _ _ _ }
  refine (hC.2 Γ [] (fun _ => none) w vs hpre).mono fun e w' he => ?_
  obtain ⟨v, Γ', owC, rfl, hS⟩ := he
  have hT : ∀ b, ¬ touches [] (fun _ => none) b := fun b hb => by
    rcases hb with ⟨i, hi⟩ | hb
    · simp at hi
    · exact hb rfl
  have hle : Γ.Le w Γ' w' := hS.step.le
  have hw := h.world (fun _ => False) hle hS.wi hS.step.os hS.step.tape hS.step.output hS.step.size (fun b hb _ => hS.step.keep b hb (hT b)) (fun _ hx => hx.elim) (fun _ _ _ hx => hx) (fun _ _ _ hx => hx)
  have hr : VR Γ' bs w' r v := (hS.tm 0 r v rfl rfl).mono (.refl _ _) (fun i b hb => by simp at hb)
  refine ⟨v, Γ', newOw d owC ow, rfl, hw.setResult hd hr (fun k e hm => ?_) (fun b t k hb => ?_), hle⟩
  · obtain ⟨u, v', h1, h2, h3, h4⟩ := hS.ot 0 k e (List.mem_map.2 ⟨(k, e), hm, rfl⟩)
    simp at h1; subst h1
    exact ⟨v', h2, h3, h4⟩
  · obtain ⟨k1, k2⟩ := hS.on b _ hb
    have hge : w.heap.size ≤ b := k2.resolve_left (hT b)
    refine ⟨?_, k1, .inr (Nat.le_trans h.step.size hge)⟩
    cases hL : ow b with
    | none => rfl
    | some L => have := (h.on b L hL).1; omega

end
end Go.Proofs.YtgiimiklbabhcaaDoor
