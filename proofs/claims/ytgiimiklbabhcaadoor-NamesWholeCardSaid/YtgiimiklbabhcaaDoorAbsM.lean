/-
  WHAT IS PROVED: how the right to append to a slice goes from place to place in the abstract machine's state. No program in sight. Conditions: none.
-/
import Derived.Test.YtgiimiklbabhcaaDoorAbsL
namespace Go.Proofs.YtgiimiklbabhcaaDoor
open Go

section
variable {P : Program} {E : Ent} {Γ : Ghost} {bs : Boxes} {ow : Nat → Option Loc} {w : World} {a : Array Value} {st : PSt}

def renOwn (d : Nat) (f : Nat × Nat → Nat × Nat) (own : List ((Nat × Nat) × TypeId)) : List ((Nat × Nat) × TypeId) := (dropT d own).map fun x => (f x.1, x.2)
def renOw (d : Nat) (f : Nat × Nat → Nat × Nat) (ow : Nat → Option Loc) : Nat → Option Loc := fun b =>
  match ow b with
  | some (.tmp t k) => if t = d then none else some (.tmp (f (t, k)).1 (f (t, k)).2)
  | x => x

/-- A slot is written; what other slots own may become its own. -/
theorem SR.setRen (h : SR P E Γ bs ow w a st) {d : Nat} {p : PVal} {v : Value} (hv : VR Γ bs w p v) (f : Nat × Nat → Nat × Nat) (hd : d < a.size)
    (hf : ∀ t k e, ((t, k), e) ∈ st.own → t ≠ d → f (t, k) = (t, k) ∨ ∃ k', f (t, k) = (d, k') ∧ ∀ u v', a[t]? = some u → partV u k = some v' → Owned P Γ w v' e → partV v k' = some v') :
    SR P E Γ bs (renOw d f ow) w (a.setIfInBounds d v) { st with tmps := st.tmps.set d p, own := renOwn d f st.own } := by
  have hs := h.set (d := d) (p := p) hv
  exact { hs with
    on := fun b L hL => by
      unfold renOw at hL
      split at hL
      · rename_i t k hb
        exact h.on b _ hb
      · exact h.on b L hL
    ot := fun t' k' e he => by
      simp only [renOwn, List.mem_map] at he
      obtain ⟨⟨⟨t, k⟩, e0⟩, hx, he⟩ := he
      simp only [Prod.mk.injEq] at he
      obtain ⟨he, rfl⟩ := he
      obtain ⟨hx, htd⟩ := mem_dropT hx
      obtain ⟨u, v', h1, h2, h3, h4⟩ := h.ot t k e0 hx
      have how : ∀ b, v'.ownBlock = some b → renOw d f ow b = some (.tmp t' k') := fun b hb => by
        have := h4 b hb
        simp only [renOw, this]
        rw [if_neg htd, he]
      rcases hf t k e0 hx htd with hk | ⟨k2, hk, hp⟩
      · rw [hk] at he; cases he
        exact ⟨u, v', by rw [Array.getElem?_setIfInBounds_ne (fun e => htd e.symm)]; exact h1, h2, h3, how⟩
      · rw [hk] at he; cases he
        exact ⟨v, v', by simp [hd], hp u v' h1 h2 h3, h3, how⟩
    ob := fun i j e cs own b hB hj hb => by
      obtain ⟨v', h1, h3, h4⟩ := h.ob i j e cs own b hB hj hb
      exact ⟨v', h1, h3, fun b' hb' => by have := h4 b' hb'; simp only [renOw, this]⟩ }

/-- A box's cell gives its ownership up. -/
theorem SR.freeB (h : SR P E Γ bs ow w a st) {i j : Nat} {cs : List PVal} {own : List (Nat × TypeId)} (hB : st.boxes[i]? = some (.cells cs own)) :
    SR P E Γ bs (fun b => if ow b = some (.box i j) then none else ow b) w a { st with boxes := st.boxes.set i (.cells cs (own.filter fun x => x.1 != j)) } := by
  have hilt : i < bs.length := by rw [h.bl]; exact lt_of_get hB
  cases hb : bs[i]'hilt with
  | none =>
    have hi : bs[i]? = some none := by rw [List.getElem?_eq_getElem hilt, hb]
    have hbox : ∀ {k : Nat} {B : PBox}, k ≠ i → (st.boxes.set i (.cells cs (own.filter fun x => x.1 != j)))[k]? = some B → st.boxes[k]? = some B := by
      intro k B hk hB'
      rwa [List.getElem?_set_ne (fun e => hk e.symm)] at hB'
    have hne : ∀ {k b : Nat}, bs[k]? = some (some b) → k ≠ i := fun hk e => by subst e; rw [hi] at hk; cases hk
    exact { h with
      bl := by simp [h.bl]
      bx := fun k b B hk hB' => h.bx k b B hk (hbox (hne hk) hB')
      on := fun b L hL => by
        split at hL
        · cases hL
        · exact h.on b L hL
      ot := fun t k e he => by
        obtain ⟨u, v, h1, h2, h3, h4⟩ := h.ot t k e he
        exact ⟨u, v, h1, h2, h3, fun b hb' => by rw [if_neg (by rw [h4 b hb']; intro hx; cases hx)]; exact h4 b hb'⟩
      ob := fun k q e cs' own' b hB' hj hk => by
        obtain ⟨v, h1, h3, h4⟩ := h.ob k q e cs' own' b (hbox (hne hk) hB') hj hk
        exact ⟨v, h1, h3, fun b' hb' => by rw [if_neg (by rw [h4 b' hb']; intro hx; cases hx; exact hne hk rfl)]; exact h4 b' hb'⟩ }
  | some b =>
    have hi : bs[i]? = some (some b) := by rw [List.getElem?_eq_getElem hilt, hb]
    refine h.box_write hi rfl rfl rfl rfl (fun _ _ => rfl) ?_ (fun b' L hL hne => ?_) (fun b' L hL => ?_) (fun cs' own' he q e hq => ?_)
    · obtain ⟨_, _, c, t, h1, h2, h3⟩ := h.bx i b _ hi hB
      exact ⟨c, t, h1, h2, h3⟩
    · rw [if_neg (by rw [hL]; intro hx; cases hx; exact hne j rfl)]; exact hL
    · split at hL
      · cases hL
      · exact h.on b' L hL
    · cases he
      obtain ⟨hq, hqj⟩ := mem_of_filter hq
      obtain ⟨v, h1, h3, h4⟩ := h.ob i q e cs own b hB hq hi
      refine ⟨v, h1, h3, fun b' hb' => ?_⟩
      rw [if_neg (by rw [h4 b' hb']; intro hx; cases hx; simp at hqj)]
      exact h4 b' hb'

/-- A box's cell owns a slice, of which nobody else is known to own the tail. -/
theorem SR.addOwnB (h : SR P E Γ bs ow w a st) {i b j : Nat} {e : TypeId} {v : Value} {cs : List PVal} {own : List (Nat × TypeId)} (hi : bs[i]? = some (some b)) (hB : st.boxes[i]? = some (.cells cs own))
    (hv : w.cell? ⟨b, j, none⟩ = some v) (ho : Owned P Γ w v e) (hf : ∀ b', v.ownBlock = some b' → ow b' = none ∧ (E.T b' ∨ E.w.heap.size ≤ b')) :
    SR P E Γ bs (fun b' => if v.ownBlock = some b' then some (.box i j) else ow b') w a { st with boxes := st.boxes.set i (.cells cs ((j, e) :: own)) } := by
  refine h.box_write hi rfl rfl rfl rfl (fun _ _ => rfl) ?_ (fun b' L hL hne => ?_) (fun b' L hL => ?_) (fun cs' own' he q e' hq => ?_)
  · obtain ⟨_, _, c, t, h1, h2, h3⟩ := h.bx i b _ hi hB
    exact ⟨c, t, h1, h2, h3⟩
  · rw [if_neg (fun hx => by have := (hf b' hx).1; rw [this] at hL; cases hL)]; exact hL
  · by_cases hx : v.ownBlock = some b'
    · exact ⟨ho.lt hx, (hf b' hx).2⟩
    · rw [if_neg hx] at hL; exact h.on b' L hL
  · cases he
    rcases List.mem_cons.1 hq with hq | hq
    · cases hq
      exact ⟨v, hv, ho, fun b' hb' => by rw [if_pos hb']⟩
    · obtain ⟨v', h1, h3, h4⟩ := h.ob i q e' cs own b hB hq hi
      refine ⟨v', h1, h3, fun b' hb' => ?_⟩
      rw [if_neg (fun hx => by have := (hf b' hx).1; rw [h4 b' hb'] at this; cases this)]
      exact h4 b' hb'

end
end Go.Proofs.YtgiimiklbabhcaaDoor
