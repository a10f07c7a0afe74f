/-
  WHAT IS PROVED: a region of operations in the abstract machine, in the order of the text. No program in sight. Conditions: none.
-/
import Derived.Test.YtgiimiklbabhcaaDoorAbsQ
namespace Go.Proofs.YtgiimiklbabhcaaDoor
open Go

/-- What a guard's operation has said: nothing known; no truth value; a truth value. -/
def pguard (ops : Array Oper) (tmps : List PVal) (j : Nat) : Option (Option Bool) :=
  match (ops[j]?).bind (·.dst) with
  | none => some none
  | some t => match tmps[t]? with
    | none => some none
    | some (.bool b) => some (some b)
    | some .undef => none
    | some (.val (.bool b)) => some (some b)
    | some _ => some none

def pregion (P : Program) (GE : List (Nat × List PVal)) (A : List Nat) (ops : Array Oper) (K : PSt → Prop) : List Oper → Nat → PSt → Prop
  | [], _, st => K st
  | o :: rest, id, st =>
    match o.guard with
    | none => pstep P GE A o id (pregion P GE A ops K rest (id + if makesBox o.op then 1 else 0)) st
    | some (j, want) => match pguard ops st.tmps j with
      | some x => (x = some want → pstep P GE A o id (pregion P GE A ops K rest (id + if makesBox o.op then 1 else 0)) st) ∧
          (x ≠ some want → pregion P GE A ops K rest (id + if makesBox o.op then 1 else 0) (putv st o.dst (.val undef) [] st.boxes))
      | none => False

/-- The boxes that a region will make, before it does. -/
def preBox (P : Program) (o : Oper) : Option PBox :=
  match o.op with
  | .alloc t => some (match pzero P t with
    | some zs => .cells zs (pzown P t)
    | none => .dead)
  | .box .. => some .dead
  | .makeMap .. => some (.map [])
  | _ => none
def preBoxes (P : Program) (ops : List Oper) : List PBox := ops.filterMap (preBox P)

section
variable {P : Program} {E : Ent} {Γ : Ghost} {bs : Boxes} {ow : Nat → Option Loc} {w : World} {a : Act} {st : PSt}

theorem pstep_sound (h : SR P E Γ bs ow w a.tmps st) {A : List Nat} {o : Oper} {id : Nat} (hid : makesBox o.op = true → bs[id]? = some none) {K : PSt → Prop} (hp : pstep P E.GE A o id K st) (Q : Exit → Act → World → Prop) :
    o.wp P a w (After P E bs id (makesBox o.op) a.defers K) Q := by
  unfold pstep at hp
  split at hp
  case h_1 t d ho hd => exact move_sound h (.inl ho) hd hp.1 hp.2 Q
  case h_2 t d ho hd =>
    split at hp
    · exact move_sound h (.inr ho) hd hp.1 hp.2 Q
    · exact After.of h hid hp.1 hp.2 Q
  case h_3 v d ho hd =>
    split at hp
    · rename_i e he; exact nil_sound h (.inl ho) hd hp.1 he hp.2 Q
    · exact After.of h hid hp.1 hp.2 Q
  case h_4 v d ho hd =>
    split at hp
    · rename_i e he; exact nil_sound h (.inr ho) hd hp.1 he hp.2 Q
    · exact After.of h hid hp.1 hp.2 Q
  case h_5 t i d ho hd =>
    split at hp
    · rename_i p he; exact extract_sound h ho hd hp.1 he hp.2 Q
    · exact hp.elim
  case h_6 T len parts d ho hd =>
    split at hp
    · rename_i p e he hT; exact buildSlice_sound h ho hd hp.1 hT he hp.2 Q
    · exact hp.elim
  case h_7 t y T T' d ho hd =>
    split at hp
    · rename_i e es ns hT he hn
      split at hp
      · rename_i p hap
        obtain ⟨rfl, h1, h2, h3⟩ := hp
        exact append_sound h ho hd h1 hT he hn hap h2 h3 Q
      · exact hp.elim
    · exact hp.elim
  case h_8 T x d ho hd =>
    split at hp
    · split at hp
      · rename_i i off e hx hT
        split at hp
        · rename_i cs own hB
          split at hp
          · rename_i p hc
            exact loadOwn_sound h ho hd hp.1 hT hx hB hc hp.2.1 hp.2.2 Q
          · exact hp.elim
        · exact hp.elim
      · exact hp.elim
    · exact After.of h hid hp.1 hp.2 Q
  case h_9 T x t ho =>
    split at hp
    · rename_i y e i off H hf hx hst
      split at hp
      · rename_i cs own hB hone
        have hmem : ((t, 0), e) ∈ st.own := by
          have h1 := List.mem_of_find?_eq_some hf
          have h2 := List.find?_some hf
          simp only [beq_iff_eq] at h2
          subst h2; exact h1
        exact storeOwn_sound h ho hx hst hB hone hmem hp Q
      · exact After.of h hid hp.1 hp.2 Q
    · exact After.of h hid hp.1 hp.2 Q
  case h_10 => exact After.of h hid hp.1 hp.2 Q

theorem pguard_spec (h : SR P E Γ bs ow w a.tmps st) {ops : Array Oper} {j : Nat} {x : Option Bool} (hg : pguard ops st.tmps j = some x) : yielded ops a.tmps j = x := by
  unfold pguard at hg
  unfold yielded
  cases hd : (ops[j]?).bind (·.dst) with
  | none => rw [hd] at hg; cases hg; rfl
  | some t =>
    rw [hd] at hg
    simp only [Option.bind_some]
    simp only at hg
    cases hp : st.tmps[t]? with
    | none =>
      rw [hp] at hg; cases hg
      have : a.tmps[t]? = none := by
        rw [List.getElem?_eq_none_iff] at hp
        rw [Array.getElem?_eq_none_iff, h.sz]; exact hp
      rw [this]
    | some p =>
      have hlt : t < a.tmps.size := by rw [h.sz]; exact lt_of_get hp
      have hat : a.tmps[t]? = some a.tmps[t] := by simp [hlt]
      have hv := h.tm t p _ hp hat
      rw [hp] at hg
      rw [hat]
      generalize a.tmps[t] = v at hv
      cases p <;> (try simp only at hg)
      case undef => cases hg
      case bool b => cases hg; cases hv; rfl
      case val u =>
        cases hv
        cases v <;> (try simp only at hg) <;> cases hg <;> rfl
      all_goals (cases hg; cases hv <;> rfl)

/-- The state has more boxes, not yet made. -/
theorem SR.extend (h : SR P E Γ bs ow w a.tmps st) (X : List PBox) : SR P E Γ (bs ++ List.replicate X.length none) ow w a.tmps { st with boxes := st.boxes ++ X } := by
  have hget : ∀ {i b : Nat}, (bs ++ List.replicate X.length none)[i]? = some (some b) → bs[i]? = some (some b) := by
    intro i b hi
    by_cases hlt : i < bs.length
    · rwa [List.getElem?_append_left hlt] at hi
    · rw [List.getElem?_append_right (by omega), List.getElem?_replicate] at hi
      split at hi <;> cases hi
  have hsub : bs.Sub (bs ++ List.replicate X.length none) := fun i b hi => by rw [List.getElem?_append_left (lt_of_get hi)]; exact hi
  have hbox : ∀ {i b : Nat} {B : PBox}, bs[i]? = some (some b) → (st.boxes ++ X)[i]? = some B → st.boxes[i]? = some B := by
    intro i b B hi hB
    rwa [List.getElem?_append_left (by rw [← h.bl]; exact lt_of_get hi)] at hB
  exact { h with
    tm := fun t p v hp hv => (h.tm t p v hp hv).mono (.refl _ _) hsub
    bl := by simp [h.bl]
    bx := fun i b B hi hB => by
      obtain ⟨h1, h2, h3⟩ := h.bx i b B (hget hi) (hbox (hget hi) hB)
      exact ⟨h1, h2, h3.mono (.refl _ _) hsub rfl⟩
    inj := fun i j b hi hj => h.inj i j b (hget hi) (hget hj)
    bn := fun i b hi => h.bn i b (hget hi)
    ob := fun i j e cs own b hB hj hi => h.ob i j e cs own b (hbox (hget hi) hB) hj (hget hi)
    gl := fun g cs hg => (h.gl g cs hg).mono (.refl _ _) hsub }

/-- The first boxes are those that the call was handed. -/
def Keeps (bs0 bs : Boxes) : Prop := ∀ i : Nat, i < bs0.length → bs[i]? = bs0[i]?

/-- A frame and a world stand for a state. -/
def Rel (P : Program) (E : Ent) (bs0 : Boxes) (st : PSt) (a : Act) (w : World) : Prop := ∃ Γ bs ow, SR P E Γ bs ow w a.tmps st ∧ Keeps bs0 bs

def boxCount (ops : List Oper) : Nat := (ops.filter fun o => makesBox o.op).length

theorem preBoxes_length (P : Program) (ops : List Oper) : (preBoxes P ops).length = boxCount ops := by
  unfold preBoxes boxCount
  induction ops with
  | nil => rfl
  | cons o ops ih =>
    simp only [List.filterMap_cons, List.filter_cons]
    cases ho : o.op <;> simp [preBox, makesBox, ho, ih]

theorem pregion_ops {bs0 : Boxes} {ds : List Deferred} {A : List Nat} {ops : Array Oper} {K : PSt → Prop} {Q : Exit → Act → World → Prop}
    (hQ : ∀ a w st, a.defers = ds → Rel P E bs0 st a w → K st → Q .normal a w) :
    ∀ (rest : List Oper) (k id : Nat) (Γ : Ghost) (bs : Boxes) (ow : Nat → Option Loc) (a : Act) (w : World) (st : PSt), (∀ j, rest[j]? = ops[k + j]?) → SR P E Γ bs ow w a.tmps st → a.defers = ds → Keeps bs0 bs → bs0.length ≤ id →
      (∀ m, id ≤ m → m < id + boxCount rest → bs[m]? = some none) → pregion P E.GE A ops K rest id st → wpOps P ops Q ((List.range ops.size).drop k) a w
  | [], k, id, Γ, bs, ow, a, w, st, hr, h, hd, hk, _, _, hp => by
    have hsz : ops.size ≤ k := by
      have := hr 0
      simp only [List.getElem?_nil, Nat.add_zero] at this
      exact Array.getElem?_eq_none_iff.1 this.symm
    rw [List.drop_eq_nil_of_le (by simpa using hsz)]
    exact hQ a w st hd ⟨Γ, bs, ow, h, hk⟩ hp
  | o :: rest, k, id, Γ, bs, ow, a, w, st, hr, h, hd, hk, hid, hfree, hp => by
    have hok : ops[k]? = some o := by have := hr 0; simpa using this.symm
    have hlt : k < ops.size := (Array.getElem?_eq_some_iff.1 hok).1
    have hcons : (List.range ops.size).drop k = k :: (List.range ops.size).drop (k + 1) := by
      rw [List.drop_eq_getElem_cons (by simpa using hlt)]; simp
    rw [hcons, wpOps_cons]
    unfold wpOp
    rw [hok]
    simp only
    have hcnt : boxCount (o :: rest) = (if makesBox o.op then 1 else 0) + boxCount rest := by
      unfold boxCount
      simp only [List.filter_cons]
      split <;> simp <;> omega
    have hrest : ∀ j, rest[j]? = ops[k + 1 + j]? := fun j => by
      have := hr (j + 1)
      simpa [Nat.add_assoc, Nat.add_comm 1 j] using this
    have hmk : makesBox o.op = true → bs[id]? = some none := fun hm => hfree id (Nat.le_refl _) (by rw [hcnt, hm]; simp; omega)
    -- the step itself
    have step : pstep P E.GE A o id (pregion P E.GE A ops K rest (id + if makesBox o.op then 1 else 0)) st → o.wp P a w (wpOps P ops Q ((List.range ops.size).drop (k + 1))) Q := by
      intro hs
      refine Oper.wp_mono (fun a' w' hA => ?_) (pstep_sound h hmk hs Q)
      obtain ⟨hd', Γ', bs', ow', st', h1, h2, h3⟩ := hA
      refine pregion_ops hQ rest (k + 1) _ Γ' bs' ow' a' w' st' hrest h1 (hd'.trans hd) ?_ (by omega) ?_ h2
      · rcases h3 with rfl | ⟨hm, b, rfl⟩
        · exact hk
        · intro i hi
          rw [List.getElem?_set_ne (by omega)]
          exact hk i hi
      · intro m hm1 hm2
        have hb := hfree m (by omega) (by rw [hcnt]; omega)
        rcases h3 with rfl | ⟨hm, b, rfl⟩
        · exact hb
        · rw [hm] at hm1
          simp only [if_true] at hm1
          rw [List.getElem?_set_ne (by omega)]
          exact hb
    have skip : pregion P E.GE A ops K rest (id + if makesBox o.op then 1 else 0) (putv st o.dst (.val undef) [] st.boxes) → wpOps P ops Q ((List.range ops.size).drop (k + 1)) (a.put o.dst undef) w := by
      intro hs
      refine pregion_ops hQ rest (k + 1) _ Γ bs ow (a.put o.dst undef) w _ hrest (h.putv_nil (.val undef) o.dst rfl) ((put_defers _ _ _).trans hd) hk (by omega) (fun m hm1 hm2 => hfree m (by omega) (by rw [hcnt]; omega)) hs
    simp only [pregion] at hp
    have hgo : (Region.wanted o (yielded ops a.tmps) = true → o.wp P a w (wpOps P ops Q ((List.range ops.size).drop (k + 1))) Q) ∧ (¬ Region.wanted o (yielded ops a.tmps) = true → wpOps P ops Q ((List.range ops.size).drop (k + 1)) (a.put o.dst undef) w) := by
      split at hp
      · rename_i hg
        exact ⟨fun _ => step hp, fun hn => absurd (by simp [Region.wanted, hg]) hn⟩
      · rename_i j want hg
        split at hp
        · rename_i x hx
          have hw : Region.wanted o (yielded ops a.tmps) = (x == some want) := by simp [Region.wanted, hg, pguard_spec h hx]
          rw [hw]
          exact ⟨fun hx => step (hp.1 (by simpa using hx)), fun hx => skip (hp.2 (by simpa using hx))⟩
        · exact hp.elim
    by_cases hw : Region.wanted o (yielded ops a.tmps) = true
    · rw [if_pos hw]; exact .inl (hgo.1 hw)
    · rw [if_neg hw]; exact hgo.2 hw

/-- A region in the order of the text. -/
theorem pregion_text {bs0 : Boxes} {A : List Nat} {id : Nat} {ops : Array Oper} {K : PSt → Prop} {Q : Exit → Act → World → Prop} (hR : Rel P E bs0 st a w) (hl : bs0.length ≤ st.boxes.length)
    (hQ : ∀ a' w' st', a'.defers = a.defers → Rel P E bs0 st' a' w' → K st' → Q .normal a' w') (hp : pregion P E.GE A ops K ops.toList st.boxes.length { st with boxes := st.boxes ++ preBoxes P ops.toList }) :
    (Code.region id ops false).wp P Q a w := by
  obtain ⟨Γ, bs, ow, h, hk⟩ := hR
  have hext := h.extend (preBoxes P ops.toList)
  refine wp_region ?_
  have hlen := preBoxes_length P ops.toList
  have := pregion_ops (P := P) (E := E) (bs0 := bs0) (ds := a.defers) hQ ops.toList 0 st.boxes.length Γ _ ow a w _ (fun j => by simp) hext rfl (fun i hi => ?_) hl (fun m hm1 hm2 => ?_) hp
  · simpa using this
  · rw [List.getElem?_append_left (by rw [h.bl]; omega)]; exact hk i hi
  · rw [List.getElem?_append_right (by rw [h.bl]; omega), List.getElem?_replicate, if_pos (by rw [h.bl]; omega)]

end
end Go.Proofs.YtgiimiklbabhcaaDoor
