/-
  WHAT IS PROVED: one operation that calls nothing: what it does in the abstract machine ('pev'), and that the model's operation does the same ('pev_sound'). No program in sight. Conditions: none.
-/
import Derived.Test.YtgiimiklbabhcaaDoorAbsM
namespace Go.Proofs.YtgiimiklbabhcaaDoor
open Go

/-- One operation that calls nothing: its value and the boxes behind it, by its operands' values. 'id': the box that it makes. -/
def pev (P : Program) (op : Op) (id : Nat) (v : Operand → PVal) (H : List PBox) : Option (PVal × List PBox) :=
  match op with
  | .move x => some (v x, H)
  | .assign x => some (v x, H)
  | .pick c x y => match v c with
    | .bool true => some (v x, H)
    | .bool false => some (v y, H)
    | _ => none
  | .alloc t => (pzero P t).map fun zs => (.bptr id 0, H.set id (.cells zs (pzown P t)))
  | .box _ x => (pcells (v x)).map fun cs => (.bptr id 0, H.set id (.cells cs []))
  | .makeMap _ none => some (.mapr id, H.set id (.map []))
  | .build t parts => (pbuild P t (parts.toList.map fun x => (x.1, v x.2))).map fun p => (p, H)
  | .buildSlice t len parts => (pbuildSlice P t len (parts.toList.map fun x => (x.1, v x.2))).map fun p => (p, H)
  | .load t x => (pload P t (v x) H).map fun p => (p, H)
  | .store t x y => (pstore P t (v x) (v y) H).map fun H' => (.val undef, H')
  | .nilCheck x => match v x with
    | .eptr cs => some (.eptr cs, H)
    | .bptr i off => some (.bptr i off, H)
    | .func (.func f) first cap => some (.func (.func f) first cap, H)
    | _ => none
  | .binOp op T x y _ => (pbin P op T (v x) (v y)).map fun p => (p, H)
  | .unOp op _ x => (pun op (v x)).map fun p => (p, H)
  | .convert s d x => (pconv P s d (v x)).map fun p => (p, H)
  | .makeFunc fn first cap => some (.func fn (first.toList.map v) (cap.toList.map v), H)
  | .slice t x lo hi none => (pslice P t (v x) (lo.map v) (hi.map v) none).map fun p => (p, H)
  | .fieldAddr s x f => (pfieldAddr P s (v x) f).map fun p => (p, H)
  | .field t x f => (pfield P t (v x) f).map fun p => (p, H)
  | .indexAddr t x i => (pindexAddr P t (v x) (v i)).map fun p => (p, H)
  | .index t x i => (pindex P t (v x) (v i)).map fun p => (p, H)
  | .lookup t m k ok => (plookup P t (v m) (v k) ok H).map fun p => (p, H)
  | .mapUpdate t m k x => (pmapUpdate P t (v m) (v k) (v x) H).map fun H' => (.val undef, H')
  | .extract t i => (pextract (v t) i).map fun p => (p, H)
  | .call { callee := .builtin .len, args := ⟨[x]⟩, argTypes := ⟨[t]⟩ } => (plen P t (v x) H).map fun p => (p, H)
  | .call { callee := .builtin .max, args := ⟨x :: r⟩, .. } => (pfold pmax2 (v x) (r.map v)).map fun p => (p, H)
  | .call { callee := .builtin .min, args := ⟨x :: r⟩, .. } => (pfold pmin2 (v x) (r.map v)).map fun p => (p, H)
  | _ => none

/-- Does the operation make a box? -/
def makesBox : Op → Bool
  | .alloc _ | .box .. | .makeMap .. => true
  | _ => false

section
variable {P : Program} {E : Ent} {Γ : Ghost} {bs : Boxes} {ow : Nat → Option Loc} {w : World} {a : Array Value} {st : PSt}

/-- What an operation that calls nothing comes to. -/
def Effect (P : Program) (E : Ent) (Γ : Ghost) (bs : Boxes) (ow : Nat → Option Loc) (w : World) (a : Array Value) (st : PSt) (id : Nat) (mk : Bool) (s : Sem Next) (p : PVal) (H : List PBox) : Prop :=
  ∃ r v w' Γ' bs', s.run P w = .ok r w' ∧ (r = .value v ∨ (r = .skip ∧ v = undef)) ∧ SR P E Γ' bs' ow w' a { st with boxes := H } ∧ VR Γ' bs' w' p v ∧
    Γ.Le w Γ' w' ∧ (bs' = bs ∨ (mk = true ∧ bs' = bs.set id (some w.heap.size))) ∧ bs.Sub bs'

theorem Effect.quiet (h : SR P E Γ bs ow w a st) {id : Nat} {mk : Bool} {s : Sem Next} {p : PVal} (hs : ∃ v, s.run P w = .ok (.value v) w ∧ VR Γ bs w p v) : Effect P E Γ bs ow w a st id mk s p st.boxes := by
  obtain ⟨v, h1, h2⟩ := hs
  exact ⟨_, v, w, Γ, bs, h1, .inl rfl, h, h2, .refl _ _, .inl rfl, .refl _⟩

theorem opt_map {α β : Type} {f : α → β} {x : Option α} {y : β} (h : x.map f = some y) : ∃ z, x = some z ∧ f z = y := by simpa using h

theorem parts_ok {ρ : Operand → Value} {v : Operand → PVal} (hρ : ∀ x, VR Γ bs w (v x) (ρ x)) (parts : List (Nat × Operand)) :
    (parts.map fun x => (x.1, v x.2)).length = (parts.map fun x => (x.1, ρ x.2)).length ∧
    ∀ (j : Nat) p u, (parts.map fun x => (x.1, v x.2))[j]? = some p → (parts.map fun x => (x.1, ρ x.2))[j]? = some u → p.1 = u.1 ∧ VR Γ bs w p.2 u.2 := by
  refine ⟨by simp, fun j p u hp hu => ?_⟩
  simp only [List.getElem?_map] at hp hu
  cases hx : parts[j]? with
  | none => simp [hx] at hp
  | some x =>
    simp only [hx, Option.map_some, Option.some.injEq] at hp hu
    subst hp; subst hu
    exact ⟨rfl, hρ _⟩

theorem list_ok {ρ : Operand → Value} {v : Operand → PVal} (hρ : ∀ x, VR Γ bs w (v x) (ρ x)) (l : List Operand) (j : Nat) (p : PVal) (u : Value) (hp : (l.map v)[j]? = some p) (hu : (l.map ρ)[j]? = some u) : VR Γ bs w p u := by
  simp only [List.getElem?_map] at hp hu
  cases hx : l[j]? with
  | none => simp [hx] at hp
  | some x =>
    simp only [hx, Option.map_some, Option.some.injEq] at hp hu
    subst hp; subst hu
    exact hρ _

theorem pev_sound (h : SR P E Γ bs ow w a st) (ds : List Deferred) {o : Oper} {id : Nat} {p : PVal} {H : List PBox} (hid : makesBox o.op = true → bs[id]? = some none)
    (hp : pev P o.op id (opv E.GE st.tmps) st.boxes = some (p, H)) : Effect P E Γ bs ow w a st id (makesBox o.op) (execOp (Act.mk a ds).eval o) p H := by
  have hρ : ∀ x, VR Γ bs w (opv E.GE st.tmps x) ((Act.mk a ds).eval x) := fun x => h.opv ds x
  unfold pev at hp
  split at hp
  case h_1 x ho => cases hp; exact .quiet h ⟨_, by simp [execOp, ho], hρ x⟩
  case h_2 x ho => cases hp; exact .quiet h ⟨_, by simp [execOp, ho], hρ x⟩
  case h_3 c x y ho =>
    have hc := hρ c
    split at hp
    · rename_i hb; rw [hb] at hc; cases hp
      generalize hv : (Act.mk a ds).eval c = vc at hc
      cases hc
      exact .quiet h ⟨_, by simp [execOp, ho, hv, asBool], hρ x⟩
    · rename_i hb; rw [hb] at hc; cases hp
      generalize hv : (Act.mk a ds).eval c = vc at hc
      cases hc
      exact .quiet h ⟨_, by simp [execOp, ho, hv, asBool], hρ y⟩
    · cases hp
  case h_4 t ho =>
    obtain ⟨zs, hz, he⟩ := opt_map hp
    cases he
    obtain ⟨v, w', h1, h2, h3, h4, h5⟩ := palloc_run h (hid (by simp [ho, makesBox])) hz
    exact ⟨_, v, w', Γ, _, by simp [execOp, ho, h1], .inl rfl, h2, h3, h5, .inr ⟨by simp [ho, makesBox], rfl⟩, h4⟩
  case h_5 t x ho =>
    obtain ⟨cs, hc, he⟩ := opt_map hp
    cases he
    obtain ⟨v, w', h1, h2, h3, h4, h5⟩ := pbox_run (t := t) h (hid (by simp [ho, makesBox])) (hρ x) hc
    exact ⟨_, v, w', Γ, _, by simp [execOp, ho, h1], .inl rfl, h2, h3, h5, .inr ⟨by simp [ho, makesBox], rfl⟩, h4⟩
  case h_6 t ho =>
    cases hp
    obtain ⟨v, w', h1, h2, h3, h4, h5⟩ := pmakeMap_run (t := t) h (hid (by simp [ho, makesBox]))
    exact ⟨_, v, w', Γ, _, by simp [execOp, ho, h1], .inl rfl, h2, h3, h5, .inr ⟨by simp [ho, makesBox], rfl⟩, h4⟩
  case h_7 t parts ho =>
    obtain ⟨q, hq, he⟩ := opt_map hp
    cases he
    obtain ⟨k1, k2⟩ := parts_ok hρ parts.toList
    obtain ⟨v, h1, h2⟩ := pbuild_run k1 k2 hq
    refine .quiet h ⟨v, ?_, h2⟩
    have : (parts.map fun x => (x.1, (Act.mk a ds).eval x.2)) = (parts.toList.map fun x => (x.1, (Act.mk a ds).eval x.2)).toArray := by apply Array.ext'; simp
    simp only [execOp, ho]
    rw [this]
    simp [h1]
  case h_8 t len parts ho =>
    obtain ⟨q, hq, he⟩ := opt_map hp
    cases he
    obtain ⟨k1, k2⟩ := parts_ok hρ parts.toList
    obtain ⟨v, w', Γ', h1, h2, h3, h4, _, _⟩ := pbuildSlice_run h k1 k2 hq
    refine ⟨_, v, w', Γ', bs, ?_, .inl rfl, h2, h4, h3, .inl rfl, .refl _⟩
    have : (parts.map fun x => (x.1, (Act.mk a ds).eval x.2)) = (parts.toList.map fun x => (x.1, (Act.mk a ds).eval x.2)).toArray := by apply Array.ext'; simp
    simp only [execOp, ho]
    rw [this]
    simp [h1]
  case h_9 t x ho =>
    obtain ⟨q, hq, he⟩ := opt_map hp
    cases he
    obtain ⟨v, h1, h2⟩ := pload_run h (hρ x) hq
    exact .quiet h ⟨v, by simp [execOp, ho, h1], h2⟩
  case h_10 t x y ho =>
    obtain ⟨q, hq, he⟩ := opt_map hp
    cases he
    obtain ⟨w', h1, h2, h3⟩ := pstore_run h (hρ x) (hρ y) hq
    exact ⟨.skip, undef, w', Γ, bs, by simp [execOp, ho, h1], .inr ⟨rfl, rfl⟩, h2, .val _, h3, .inl rfl, .refl _⟩
  case h_11 x ho =>
    have hx := hρ x
    split at hp
    · rename_i cs hc; rw [hc] at hx; cases hp
      generalize hv : (Act.mk a ds).eval x = vx at hx
      refine .quiet h ⟨vx, ?_, hx⟩
      cases hx; simp [execOp, ho, hv]
    · rename_i i off hc; rw [hc] at hx; cases hp
      generalize hv : (Act.mk a ds).eval x = vx at hx
      refine .quiet h ⟨vx, ?_, hx⟩
      cases hx; simp [execOp, ho, hv]
    · rename_i f first cap hc; rw [hc] at hx; cases hp
      generalize hv : (Act.mk a ds).eval x = vx at hx
      refine .quiet h ⟨vx, ?_, hx⟩
      cases hx; simp [execOp, ho, hv]
    · cases hp
  case h_12 op T x y yT ho =>
    obtain ⟨q, hq, he⟩ := opt_map hp
    cases he
    obtain ⟨v, h1, h2⟩ := pbin_run (P := P) (hρ x) (hρ y) x y hq
    refine .quiet h ⟨v, ?_, h2⟩
    simp only [execOp, ho, Sem.run_bind] at h1 ⊢
    rw [h1]; rfl
  case h_13 op T x ho =>
    obtain ⟨q, hq, he⟩ := opt_map hp
    cases he
    obtain ⟨v, h1, h2⟩ := pun_run (P := P) (hρ x) hq
    exact .quiet h ⟨v, by simp [execOp, ho, h1], h2⟩
  case h_14 s d x ho =>
    obtain ⟨q, hq, he⟩ := opt_map hp
    cases he
    obtain ⟨v, h1, h2⟩ := pconv_run (P := P) (hρ x) hq
    exact .quiet h ⟨v, by simp [execOp, ho, h1], h2⟩
  case h_15 fn first cap ho =>
    cases hp
    refine .quiet h ⟨.func fn (first.map (Act.mk a ds).eval) (cap.map (Act.mk a ds).eval), by simp [execOp, ho, Instr.makeFunc], .func fn _ _ _ _ (by simp) (by simp) (fun i p v hp hv => ?_) (fun i p v hp hv => ?_)⟩
    · exact list_ok hρ first.toList i p v hp (by simpa using hv)
    · exact list_ok hρ cap.toList i p v hp (by simpa using hv)
  case h_16 t x lo hi ho =>
    obtain ⟨q, hq, he⟩ := opt_map hp
    cases he
    obtain ⟨v, h1, h2⟩ := pslice_run (P := P) (hρ x) (lo := lo.map (opv E.GE st.tmps)) (hi := hi.map (opv E.GE st.tmps)) (vlo := lo.map (Act.mk a ds).eval) (vhi := hi.map (Act.mk a ds).eval)
      (fun p hp => by cases lo <;> simp at hp; subst hp; exact ⟨_, rfl, hρ _⟩) (fun hn => by cases lo <;> simp at hn ⊢) (fun p hp => by cases hi <;> simp at hp; subst hp; exact ⟨_, rfl, hρ _⟩) (fun hn => by cases hi <;> simp at hn ⊢) hq
    exact .quiet h ⟨v, by simp [execOp, ho, h1], h2⟩
  case h_17 s x f ho =>
    obtain ⟨q, hq, he⟩ := opt_map hp
    cases he
    obtain ⟨v, h1, h2⟩ := pfieldAddr_run (P := P) (hρ x) hq
    exact .quiet h ⟨v, by simp [execOp, ho, h1], h2⟩
  case h_18 t x f ho =>
    obtain ⟨q, hq, he⟩ := opt_map hp
    cases he
    obtain ⟨v, h1, h2⟩ := pfield_run (P := P) (hρ x) hq
    exact .quiet h ⟨v, by simp [execOp, ho, h1], h2⟩
  case h_19 t x i ho =>
    obtain ⟨q, hq, he⟩ := opt_map hp
    cases he
    obtain ⟨v, h1, h2⟩ := pindexAddr_run (P := P) (hρ x) (hρ i) hq
    exact .quiet h ⟨v, by simp [execOp, ho, h1], h2⟩
  case h_20 t x i ho =>
    obtain ⟨q, hq, he⟩ := opt_map hp
    cases he
    obtain ⟨v, h1, h2⟩ := pindex_run (P := P) (hρ x) (hρ i) hq
    exact .quiet h ⟨v, by simp [execOp, ho, h1], h2⟩
  case h_21 t m k ok ho =>
    obtain ⟨q, hq, he⟩ := opt_map hp
    cases he
    obtain ⟨v, h1, h2⟩ := plookup_run h (hρ m) (hρ k) hq
    exact .quiet h ⟨v, by simp [execOp, ho, h1], h2⟩
  case h_22 t m k x ho =>
    obtain ⟨q, hq, he⟩ := opt_map hp
    cases he
    obtain ⟨w', h1, h2, h3⟩ := pmapUpdate_run h (hρ m) (hρ k) (hρ x) hq
    exact ⟨.skip, undef, w', Γ, bs, by simp [execOp, ho, h1], .inr ⟨rfl, rfl⟩, h2, .val _, h3, .inl rfl, .refl _⟩
  case h_23 t i ho =>
    obtain ⟨q, hq, he⟩ := opt_map hp
    cases he
    obtain ⟨v, h1, h2⟩ := pextract_run (P := P) (hρ t) hq
    exact .quiet h ⟨v, by simp [execOp, ho, h1], h2⟩
  case h_24 x t ho =>
    obtain ⟨q, hq, he⟩ := opt_map hp
    cases he
    obtain ⟨v, h1, h2⟩ := plen_run (ty := o.type) h (hρ x) hq
    exact .quiet h ⟨v, by simp [execOp, ho, resolve, invoke, builtin, h1], h2⟩
  case h_25 x r tys ho =>
    obtain ⟨q, hq, he⟩ := opt_map hp
    cases he
    obtain ⟨v, h1, h2⟩ := pfold_run (P := P) pmax2_run (r.map (opv E.GE st.tmps)) (r.map (Act.mk a ds).eval) _ _ (by simp) (hρ x) (list_ok hρ r) hq
    exact .quiet h ⟨v, by simp [execOp, ho, resolve, invoke, builtin, Builtin.max_, h1], h2⟩
  case h_26 x r tys ho =>
    obtain ⟨q, hq, he⟩ := opt_map hp
    cases he
    obtain ⟨v, h1, h2⟩ := pfold_run (P := P) pmin2_run (r.map (opv E.GE st.tmps)) (r.map (Act.mk a ds).eval) _ _ (by simp) (hρ x) (list_ok hρ r) hq
    exact .quiet h ⟨v, by simp [execOp, ho, resolve, invoke, builtin, Builtin.min_, h1], h2⟩
  case h_27 => cases hp

end
end Go.Proofs.YtgiimiklbabhcaaDoor
