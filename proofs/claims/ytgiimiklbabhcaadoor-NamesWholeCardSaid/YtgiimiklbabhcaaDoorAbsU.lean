/-
  WHAT IS PROVED: a region whose order is drawn, in the abstract machine (second part: whatever order is drawn comes to what the order of the text comes to). No program in sight. Conditions: none.
-/
import Derived.Test.YtgiimiklbabhcaaDoorAbsT
namespace Go.Proofs.YtgiimiklbabhcaaDoor
open Go

section
variable {P : Program} {GE : List (Nat × List PVal)}

theorem pev_still {op : Op} {id : Nat} {v : Operand → PVal} {H H' : List PBox} {p : PVal} (hc : boxClass P op ≠ 3) (hm : makesBox op = false) (h : pev P op id v H = some (p, H')) : H' = H := by
  unfold pev at h
  split at h
  all_goals first
    | (cases h; done)
    | (cases h; rfl)
    | (obtain ⟨q, _, he⟩ := opt_map h; cases he; rfl)
    | (exact absurd rfl hc)
    | (simp [makesBox] at hm; done)
    | (split at h <;> first | (cases h; rfl) | cases h)

theorem fev_still {op : Op} {id : Nat} {v : Operand → PVal} {H H' : List PBox} {p : PVal} (hc : boxClass P op ≠ 3) (h : fev P op id v H = some (p, H')) : H' = H := by
  unfold fev at h
  split at h
  · obtain ⟨q, _, he⟩ := opt_map h; cases he; rfl
  · cases h; rfl
  · cases h
  · cases h
  · rename_i h1 h2 h3 h4
    refine pev_still hc ?_ h
    cases op <;> simp [makesBox] at *

theorem fdo_still {op : Op} {id : Nat} {v : Operand → PVal} {H H' : List PBox} {p : PVal} (hc : boxClass P op ≠ 3) (h : fdo P GE op id v H fun q H2 => q = p ∧ H2 = H') : H' = H := by
  unfold fdo at h
  split at h
  · obtain ⟨_, r, ro, _, _, h3⟩ := h; exact h3.symm
  · rename_i f args tys hf
    exfalso
    apply hc
    cases f with
    | func g => exact absurd rfl (hf g)
    | tmp t => rfl
    | const v => rfl
    | global g => rfl
  · split at h
    · rename_i q H2 he
      obtain ⟨_, h2⟩ := h
      subst h2
      exact fev_still hc he
    · exact h.elim

/-- Where an operation doesn't look at boxes, they are nothing to it. -/
theorem pev_any {op : Op} {id : Nat} {v : Operand → PVal} {H : List PBox} {p : PVal} (hc : boxClass P op < 2) (hm : makesBox op = false) (h : pev P op id v H = some (p, H)) (H2 : List PBox) : pev P op id v H2 = some (p, H2) := by
  unfold pev at h ⊢
  split at h
  case h_24 x t =>
    obtain ⟨q, hq, he⟩ := opt_map h
    cases he
    simp only [boxClass] at hc
    have : plen P t (v x) H2 = plen P t (v x) H := by
      unfold plen
      split <;> first | rfl | skip
      rename_i hu _
      simp [hu] at hc
    rw [this, hq]; rfl
  all_goals first
    | (cases h; done)
    | (cases h; rfl)
    | (obtain ⟨q, hq, he⟩ := opt_map h; cases he; simp only [hq, Option.map_some]; done)
    | (simp [boxClass] at hc; done)
    | (simp [makesBox] at hm; done)
    | (split at h <;> first | (cases h; done) | (cases h; rfl) | (rename_i hv; cases h; simp only [hv]; done))

theorem fdo_any {op : Op} {id : Nat} {v : Operand → PVal} {H : List PBox} {p : PVal} (hc : boxClass P op < 2) (h : fdo P GE op id v H fun q H2 => q = p ∧ H2 = H) (H2 : List PBox) : fdo P GE op id v H2 fun q H3 => q = p ∧ H3 = H2 := by
  unfold fdo at h ⊢
  split at h
  · obtain ⟨h1, r, ro, h2, h3, _⟩ := h
    exact ⟨h1, r, ro, h2, h3, rfl⟩
  · rename_i f args tys hf
    exfalso
    have : boxClass P (.call { callee := .value f, args, argTypes := tys }) = 3 := by
      cases f with
      | func g => exact absurd rfl (hf g)
      | tmp t => rfl
      | const v => rfl
      | global g => rfl
    omega
  · rename_i hn1 hn2
    split at h
    · rename_i q H3 he
      obtain ⟨rfl, rfl⟩ := h
      have : fev P op id v H2 = some (q, H2) := by
        unfold fev at he ⊢
        split at he
        · obtain ⟨z, hz, hq⟩ := opt_map he; cases hq; simp only [hz, Option.map_some]
        · cases he; rfl
        · cases he
        · cases he
        · rename_i h1 h2 h3 h4
          exact pev_any hc (by cases op <;> simp [makesBox] at *) he H2
      rw [this]
      exact ⟨rfl, rfl⟩
    · exact h.elim

theorem map_cong {l : List Operand} {v v' : Operand → PVal} (h : ∀ x ∈ l, v x = v' x) : l.map v = l.map v' := List.map_congr_left h

/-- An operation looks at its operands alone. -/
theorem pev_cong {op : Op} {id : Nat} {v v' : Operand → PVal} {H : List PBox} (h : ∀ x ∈ op.operands.toList, v x = v' x) : pev P op id v H = pev P op id v' H := by
  unfold pev
  split
  all_goals (simp only [Op.operands, Call.operands] at h)
  all_goals first
    | (simp at h; simp [h]; done)
    | skip
  case h_7 t parts =>
    rw [List.map_congr_left (f := fun x : Nat × Operand => (x.1, v x.2)) (g := fun x => (x.1, v' x.2)) fun x hx => by rw [h x.2 (List.mem_map.2 ⟨x, hx, rfl⟩)]]
  case h_8 t len parts =>
    rw [List.map_congr_left (f := fun x : Nat × Operand => (x.1, v x.2)) (g := fun x => (x.1, v' x.2)) fun x hx => by rw [h x.2 (List.mem_map.2 ⟨x, hx, rfl⟩)]]
  case h_15 fn first cap =>
    rw [map_cong fun x hx => h x (by simp at hx ⊢; exact .inl hx), map_cong fun x hx => h x (by simp at hx ⊢; exact .inr hx)]
  case h_16 t x lo hi =>
    have h1 : v x = v' x := h x (by simp)
    have h2 : lo.map v = lo.map v' := by
      cases lo with
      | none => rfl
      | some y => simp only [Option.map_some]; rw [h y (by simp)]
    have h3 : hi.map v = hi.map v' := by
      cases hi with
      | none => rfl
      | some y => simp only [Option.map_some]; rw [h y (by simp)]
    rw [h1, h2, h3]
  case h_25 x r tys =>
    rw [h x (by simp), map_cong fun y hy => h y (by simp [hy])]
  case h_26 x r tys =>
    rw [h x (by simp), map_cong fun y hy => h y (by simp [hy])]

theorem fev_cong {op : Op} {id : Nat} {v v' : Operand → PVal} {H : List PBox} (h : ∀ x ∈ op.operands.toList, v x = v' x) : fev P op id v H = fev P op id v' H := by
  unfold fev
  split <;> first | rfl | exact pev_cong h

theorem fdo_cong {op : Op} {id : Nat} {v v' : Operand → PVal} {H : List PBox} {K : PVal → List PBox → Prop} (h : ∀ x ∈ op.operands.toList, v x = v' x) (hp : fdo P GE op id v H K) : fdo P GE op id v' H K := by
  unfold fdo at hp ⊢
  split at hp
  · rename_i g args tys
    rw [map_cong fun x hx => h x (by simp [Op.operands, Call.operands] at hx ⊢; exact .inr hx)] at hp
    exact hp
  · rename_i f args tys _
    rw [map_cong fun x hx => h x (by simp [Op.operands, Call.operands] at hx ⊢; exact .inr hx), h f (by simp [Op.operands, Call.operands])] at hp
    exact hp
  · rw [fev_cong h] at hp
    exact hp

section
variable {E : Ent} {Γ : Ghost} {bs : Boxes} {ow : Nat → Option Loc} {w : World} {a : Act} {st : PSt}

/-- A box that isn't made yet stays as it was. -/
theorem pev_unmade (h : SR P E Γ bs ow w a.tmps st) {op : Op} {id : Nat} {p : PVal} {H : List PBox} (hm : makesBox op = false) (he : pev P op id (opv E.GE st.tmps) st.boxes = some (p, H)) {i : Nat} (hi : bs[i]? = some none) : H[i]? = st.boxes[i]? := by
  by_cases hc : boxClass P op = 3
  · have hρ : ∀ x, VR Γ bs w (opv E.GE st.tmps x) (a.eval x) := fun x => h.opv a.defers x
    unfold pev at he
    split at he
    case h_10 t x y =>
      obtain ⟨q, hq, hh⟩ := opt_map he
      cases hh
      have hx := hρ x
      generalize a.eval x = vx at hx
      unfold pstore at hq
      split at hq
      · rename_i j off vs hj _
        rw [hj] at hx
        cases hx with
        | bptr _ _ b hb =>
          have hne : j ≠ i := fun e => by subst e; rw [hi] at hb; cases hb
          split at hq
          · split at hq
            · cases hq; rw [List.getElem?_set_ne hne]
            · cases hq
          · cases hq
      · cases hq
    case h_22 t m k x =>
      obtain ⟨q, hq, hh⟩ := opt_map he
      cases hh
      have hx := hρ m
      generalize a.eval m = vx at hx
      unfold pmapUpdate at hq
      split at hq
      · rename_i kt e j _ hj
        rw [hj] at hx
        cases hx with
        | mapr _ b hb =>
          have hne : j ≠ i := fun e => by subst e; rw [hi] at hb; cases hb
          split at hq
          · split at hq
            · split at hq
              · cases hq; rw [List.getElem?_set_ne hne]
              · cases hq; rw [List.getElem?_set_ne hne]
              · cases hq
            · cases hq
          · cases hq
      · cases hq
    all_goals first
      | (simp [boxClass] at hc; done)
      | (cases he; done)
      | (obtain ⟨q, _, hh⟩ := opt_map he; cases hh; rfl)
  · rw [pev_still hc hm he]

end
end
end Go.Proofs.YtgiimiklbabhcaaDoor
