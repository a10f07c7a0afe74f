/-
  WHAT IS PROVED: the steps of the abstract machine's state: what a slot owns; a new block that never changes; a new box; a box that is written; an append. No program in sight. Conditions: none.
-/
import Derived.Test.YtgiimiklbabhcaaDoorAbsB
namespace Go.Proofs.YtgiimiklbabhcaaDoor
open Go

section
variable {P : Program} {E : Ent} {Γ : Ghost} {bs : Boxes} {ow : Nat → Option Loc} {w : World} {a : Array Value} {st : PSt}

/-- A part of a slot owns a slice. -/
theorem SR.addOwn (h : SR P E Γ bs ow w a st) {d k : Nat} {e : TypeId} {u v : Value} (hu : a[d]? = some u) (hv : partV u k = some v) (ho : Owned P Γ w v e)
    (hf : ∀ b, v.ownBlock = some b → ow b = none ∧ (E.T b ∨ E.w.heap.size ≤ b)) :
    SR P E Γ bs (fun b => if v.ownBlock = some b then some (.tmp d k) else ow b) w a { st with own := ((d, k), e) :: st.own } :=
  { h with
    on := fun b L hL => by
      by_cases hb : v.ownBlock = some b
      · exact ⟨ho.lt hb, (hf b hb).2⟩
      · simp only [hb, if_false] at hL; exact h.on b L hL
    ot := fun t k' e' he => by
      simp only [List.mem_cons] at he
      rcases he with he | he
      · cases he
        exact ⟨u, v, hu, hv, ho, fun b hb => by simp [hb]⟩
      · obtain ⟨u', v', h1, h2, h3, h4⟩ := h.ot t k' e' he
        refine ⟨u', v', h1, h2, h3, fun b hb => ?_⟩
        have hne : v.ownBlock ≠ some b := fun hx => by have := (hf b hx).1; rw [h4 b hb] at this; cases this
        simp only [hne, if_false]; exact h4 b hb
    ob := fun i j e' cs own b hB hj hb => by
      obtain ⟨v', h1, h3, h4⟩ := h.ob i j e' cs own b hB hj hb
      refine ⟨v', h1, h3, fun b' hb' => ?_⟩
      have hne : v.ownBlock ≠ some b' := fun hx => by have := (hf b' hx).1; rw [h4 b' hb'] at this; cases this
      simp only [hne, if_false]; exact h4 b' hb' }

/-- A slot's part gives its ownership up. -/
theorem SR.freeT (h : SR P E Γ bs ow w a st) (t k : Nat) :
    SR P E Γ bs (fun b => if ow b = some (.tmp t k) then none else ow b) w a { st with own := st.own.filter fun x => x.1 != (t, k) } := by
  have h' := h.less (own := st.own.filter fun x => x.1 != (t, k)) (fun x hx => (mem_of_filter hx).1)
  refine h'.ow_drop (fun b L hL => ?_) (fun t' k' e he b hb => ?_) (fun i j e cs own hB hj b hb => ?_)
  · split at hL
    · cases hL
    · exact hL
  · have := (mem_of_filter he).2
    have hne : ¬ (t' = t ∧ k' = k) := fun ⟨x, y⟩ => by subst x; subst y; simp at this
    rw [if_neg]
    · exact hb
    · rw [hb]; intro hx; cases hx; exact hne ⟨rfl, rfl⟩
  · rw [if_neg]
    · exact hb
    · rw [hb]; intro hx; cases hx

theorem set_none {bs : Boxes} {id i b : Nat} {x : Option Nat} (hid : bs[id]? = some none) (h : bs[i]? = some (some b)) : (bs.set id x)[i]? = some (some b) := by
  rw [List.getElem?_set_ne]
  · exact h
  · intro e; subst e; rw [hid] at h; cases h

def Ghost.put (Γ : Ghost) (b n : Nat) : Ghost := fun x => if x = b then some n else Γ x
theorem Ghost.put_same (Γ : Ghost) (b n : Nat) : Γ.put b n b = some n := by simp [Ghost.put]
theorem Ghost.put_other (Γ : Ghost) {b n x : Nat} (h : x ≠ b) : Γ.put b n x = Γ x := by simp [Ghost.put, h]

theorem SR.lt_of_ghost (h : SR P E Γ bs ow w a st) {b n : Nat} (hb : Γ b = some n) : b < w.heap.size := by
  obtain ⟨c, t, fr, h1, _⟩ := h.wi b n hb
  exact (Array.getElem?_eq_some_iff.1 h1).1

theorem alloc_same (w : World) (o : Obj) : (w.alloc o).heap[w.heap.size]? = some o := heap_alloc_new w o
theorem alloc_old (w : World) (o : Obj) {b : Nat} (h : b < w.heap.size) : (w.alloc o).heap[b]? = w.heap[b]? := by
  show (w.heap.push o)[b]? = _
  rw [Array.getElem?_push, if_neg (by omega)]

/-- A new block, n of whose cells never change. -/
theorem SR.alloc_imm (h : SR P E Γ bs ow w a st) (c : Array Value) (t : TypeId) (n : Nat) (hn : n ≤ c.size) :
    SR P E (Γ.put w.heap.size n) bs ow (w.alloc (.cells c t)) a st ∧ Γ.Le w (Γ.put w.heap.size n) (w.alloc (.cells c t)) := by
  have hle : Γ.Le w (Γ.put w.heap.size n) (w.alloc (.cells c t)) := fun b m hb => by
    have hlt := h.lt_of_ghost hb
    exact ⟨m, (Γ.put_other (by omega)).trans hb, Nat.le_refl _, fun o _ => cell?_congr (alloc_old w _ hlt) o⟩
  refine ⟨h.world (fun _ => False) hle (fun b m hb => ?_) rfl rfl rfl (by simp) (fun b hb _ => ⟨alloc_old w _ hb, Γ.put_other (by omega)⟩) (fun _ hx => hx.elim) (fun _ _ _ hx => hx) (fun _ _ _ hx => hx), hle⟩
  by_cases hbb : b = w.heap.size
  · subst hbb
    rw [Γ.put_same] at hb
    cases hb
    exact ⟨c, t, (0, 0), alloc_same w _, hn⟩
  · rw [Γ.put_other hbb] at hb
    obtain ⟨c', t', fr, h1, h2⟩ := h.wi b m hb
    exact ⟨c', t', fr, (alloc_old w _ (h.lt_of_ghost hb)).trans h1, h2⟩

/-- A draw. -/
theorem SR.drew (h : SR P E Γ bs ow w a st) : SR P E Γ bs ow w.drew a st :=
  h.world (fun _ => False) (fun _ m hb => ⟨m, hb, Nat.le_refl _, fun _ _ => rfl⟩) h.wi rfl rfl rfl (Nat.le_refl _) (fun _ _ _ => ⟨rfl, rfl⟩) (fun _ hx => hx.elim) (fun _ _ _ hx => hx) (fun _ _ _ hx => hx)

/-- A new box. -/
theorem SR.alloc_box (h : SR P E Γ bs ow w a st) {id : Nat} (hid : bs[id]? = some none) (o : Obj) (B : PBox)
    (hB : ∀ bs' : Boxes, bs.Sub bs' → BR Γ bs' (w.alloc o) B w.heap.size) (hcell : ∀ cs own, B = .cells cs own → ∀ j e, (j, e) ∈ own → ∃ v, (w.alloc o).cell? ⟨w.heap.size, j, none⟩ = some v ∧ v.ownBlock = none ∧ Owned P Γ (w.alloc o) v e) :
    SR P E Γ (bs.set id (some w.heap.size)) ow (w.alloc o) a { st with boxes := st.boxes.set id B } := by
  have hle : Γ.Le w Γ (w.alloc o) := fun _ m hb => ⟨m, hb, Nat.le_refl _, fun o' _ => cell?_congr (alloc_old w _ (h.lt_of_ghost hb)) o'⟩
  have hsub : bs.Sub (bs.set id (some w.heap.size)) := fun i b hb => set_none hid hb
  have hw := h.world (fun _ => False) (Γ' := Γ) (w' := w.alloc o) hle (fun b m hb => by
    obtain ⟨c', t', fr, h1, h2⟩ := h.wi b m hb
    exact ⟨c', t', fr, (alloc_old w _ (h.lt_of_ghost hb)).trans h1, h2⟩) rfl rfl rfl (by simp) (fun b hb _ => ⟨alloc_old w _ hb, rfl⟩) (fun _ hx => hx.elim) (fun _ _ _ hx => hx) (fun _ _ _ hx => hx)
  have hidlt : id < bs.length := lt_of_get hid
  have hcase : ∀ {i b : Nat}, (bs.set id (some w.heap.size))[i]? = some (some b) → (i = id ∧ b = w.heap.size) ∨ (i ≠ id ∧ bs[i]? = some (some b)) := by
    intro i b hb
    by_cases hi : i = id
    · subst hi
      rw [List.getElem?_set_self hidlt] at hb
      cases hb; exact .inl ⟨rfl, rfl⟩
    · rw [List.getElem?_set_ne (fun e => hi e.symm)] at hb
      exact .inr ⟨hi, hb⟩
  have hbox : ∀ {i : Nat} {B' : PBox}, i ≠ id → (st.boxes.set id B)[i]? = some B' → st.boxes[i]? = some B' := by
    intro i B' hi hB'
    rwa [List.getElem?_set_ne (fun e => hi e.symm)] at hB'
  have hself : ∀ {B' : PBox}, (st.boxes.set id B)[id]? = some B' → B' = B := by
    intro B' hB'
    rw [List.getElem?_set_self (by rw [← h.bl]; exact hidlt)] at hB'
    cases hB'; rfl
  exact {
    wi := hw.wi
    sz := hw.sz
    tm := fun t p v hp hv => (hw.tm t p v hp hv).mono (.refl _ _) hsub
    bl := by simp [h.bl]
    bx := fun i b B' hb hB' => by
      rcases hcase hb with ⟨rfl, rfl⟩ | ⟨hi, hb⟩
      · have := hself hB'; subst this
        refine ⟨?_, by simp, hB _ hsub⟩
        cases hg : Γ w.heap.size with
        | none => rfl
        | some m => exact absurd (h.lt_of_ghost hg) (Nat.lt_irrefl _)
      · obtain ⟨h1, h2, h3⟩ := hw.bx i b B' hb (hbox hi hB')
        exact ⟨h1, h2, h3.mono (.refl _ _) hsub rfl⟩
    inj := fun i j b hi hj => by
      rcases hcase hi with ⟨rfl, rfl⟩ | ⟨hi', hb⟩ <;> rcases hcase hj with ⟨rfl, hb'⟩ | ⟨hj', hb''⟩
      · rfl
      · have := (hw.bx j _ (st.boxes[j]'(by rw [← h.bl]; exact lt_of_get hb'')) hb'' (by simp)).2.1
        have := (h.bx j _ (st.boxes[j]'(by rw [← h.bl]; exact lt_of_get hb'')) hb'' (by simp)).2.1
        omega
      · have := (h.bx i _ (st.boxes[i]'(by rw [← h.bl]; exact lt_of_get hb)) hb (by simp)).2.1
        omega
      · exact h.inj i j b hb hb''
    bn := fun i b hb => by
      rcases hcase hb with ⟨rfl, rfl⟩ | ⟨hi, hb⟩
      · exact .inr h.step.size
      · exact h.bn i b hb
    on := hw.on
    ot := hw.ot
    ob := fun i j e cs own b hB' hj hb => by
      rcases hcase hb with ⟨rfl, rfl⟩ | ⟨hi, hb⟩
      · have := hself hB'; subst this
        obtain ⟨v, h1, h2, h3⟩ := hcell cs own rfl j e hj
        exact ⟨v, h1, h3, fun b' hb' => by rw [h2] at hb'; cases hb'⟩
      · exact hw.ob i j e cs own b (hbox hi hB') hj hb
    gl := fun g cs hg => (hw.gl g cs hg).mono (.refl _ _) hsub
    gc := h.gc
    gx := h.gx
    step := hw.step }

/-- A box is written. -/
theorem SR.box_write (h : SR P E Γ bs ow w a st) {i b : Nat} (hi : bs[i]? = some (some b)) {w' : World} {B : PBox} {ow' : Nat → Option Loc}
    (hos : w'.os = w.os) (htp : w'.tape = w.tape) (hout : w'.output = w.output) (hsz : w'.heap.size = w.heap.size)
    (hk : ∀ b', b' ≠ b → w'.heap[b']? = w.heap[b']?) (hB : BR Γ bs w' B b)
    (hsame : ∀ b' L, ow b' = some L → (∀ j, L ≠ .box i j) → ow' b' = some L) (hon : ∀ b' L, ow' b' = some L → b' < w.heap.size ∧ (E.T b' ∨ E.w.heap.size ≤ b'))
    (hown : ∀ cs own, B = .cells cs own → ∀ j e, (j, e) ∈ own → ∃ v, w'.cell? ⟨b, j, none⟩ = some v ∧ Owned P Γ w' v e ∧ ∀ b', v.ownBlock = some b' → ow' b' = some (.box i j)) :
    SR P E Γ bs ow' w' a { st with boxes := st.boxes.set i B } := by
  have hilt : i < st.boxes.length := by rw [← h.bl]; exact lt_of_get hi
  have hg : Γ b = none := (h.bx i b (st.boxes[i]'hilt) hi (by simp)).1
  have hne : ∀ {b' n}, Γ b' = some n → b' ≠ b := fun hb e => by subst e; rw [hg] at hb; cases hb
  have hle : Γ.Le w Γ w' := fun b' m hb => ⟨m, hb, Nat.le_refl _, fun o' _ => cell?_congr (hk b' (hne hb)) o'⟩
  have hos' : ∀ {v e}, Owned P Γ w v e → Owned P Γ w' v e := fun {v e} ho => ho.same fun b' hb' => by
    obtain ⟨n, xs, h1, h2⟩ := ho
    exact ⟨hk b' (hne (h2 b' hb')), rfl⟩
  have hbox : ∀ {j : Nat} {B' : PBox}, j ≠ i → (st.boxes.set i B)[j]? = some B' → st.boxes[j]? = some B' := by
    intro j B' hj hB'
    rwa [List.getElem?_set_ne (fun e => hj e.symm)] at hB'
  have hself : ∀ {B' : PBox}, (st.boxes.set i B)[i]? = some B' → B' = B := by
    intro B' hB'
    rw [List.getElem?_set_self hilt] at hB'
    cases hB'; rfl
  have hbne : ∀ {j b' : Nat}, bs[j]? = some (some b') → j ≠ i → b' ≠ b := fun hj hji e => by subst e; exact hji (h.inj _ _ _ hj hi)
  exact {
    wi := fun b' n hb' => by
      obtain ⟨c, t, fr, h1, h2⟩ := h.wi b' n hb'
      exact ⟨c, t, fr, (hk b' (hne hb')).trans h1, h2⟩
    sz := h.sz
    tm := fun t p v hp hv => (h.tm t p v hp hv).mono hle (.refl _)
    bl := by simp [h.bl]
    bx := fun j b' B' hb' hB' => by
      by_cases hj : j = i
      · subst hj
        have := hself hB'; subst this
        have : b' = b := by rw [hi] at hb'; cases hb'; rfl
        subst this
        exact ⟨hg, by rw [hsz]; exact (h.bx j b' (st.boxes[j]'hilt) hi (by simp)).2.1, hB⟩
      · obtain ⟨h1, h2, h3⟩ := h.bx j b' B' hb' (hbox hj hB')
        exact ⟨h1, by rw [hsz]; exact h2, h3.mono hle (.refl _) (hk b' (hbne hb' hj))⟩
    inj := h.inj
    bn := h.bn
    on := fun b' L hL => ⟨by rw [hsz]; exact (hon b' L hL).1, (hon b' L hL).2⟩
    ot := fun t k e he => by
      obtain ⟨u, v, h1, h2, h3, h4⟩ := h.ot t k e he
      exact ⟨u, v, h1, h2, hos' h3, fun b' hb' => hsame b' _ (h4 b' hb') (fun j hx => by cases hx)⟩
    ob := fun j k e cs own b' hB' hj hb' => by
      by_cases hji : j = i
      · subst hji
        have := hself hB'; subst this
        have : b' = b := by rw [hi] at hb'; cases hb'; rfl
        subst this
        exact hown cs own rfl k e hj
      · obtain ⟨v, h1, h3, h4⟩ := h.ob j k e cs own b' (hbox hji hB') hj hb'
        exact ⟨v, (cell?_congr (hk b' (hbne hb' hji)) k).trans h1, hos' h3, fun x hx => hsame x _ (h4 x hx) (fun y hy => by cases hy; exact hji rfl)⟩
    gl := fun g cs hg => (h.gl g cs hg).mono hle (.refl _)
    gc := h.gc
    gx := h.gx
    step := {
      os := hos.trans h.step.os
      tape := htp.trans h.step.tape
      output := hout.trans h.step.output
      size := by rw [hsz]; exact h.step.size
      keep := fun b' hb' hT => by
        have hbb : b' ≠ b := fun e => by subst e; exact (h.bn i b' hi).elim hT (fun hx => by omega)
        obtain ⟨k1, k2⟩ := h.step.keep b' hb' hT
        exact ⟨(hk b' hbb).trans k1, k2⟩
      le := h.step.le.trans hle } }

end
end Go.Proofs.YtgiimiklbabhcaaDoor
