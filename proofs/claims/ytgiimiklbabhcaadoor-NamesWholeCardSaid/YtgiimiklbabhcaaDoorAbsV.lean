/-
  WHAT IS PROVED: a region whose order is drawn, in the abstract machine (third part: 'fregion_draw'). No program in sight. Conditions: none.
-/
import Derived.Test.YtgiimiklbabhcaaDoorAbsU
namespace Go.Proofs.YtgiimiklbabhcaaDoor
open Go

section
variable {P : Program} {E : Ent} {Γ : Ghost} {bs : Boxes} {ow : Nat → Option Loc} {w : World} {a : Act} {st : PSt}

theorem set_same {α : Type} : ∀ {l : List α} {i : Nat} {x : α}, l[i]? = some x → l.set i x = l
  | [], _, _, h => by simp at h
  | _ :: _, 0, _, h => by simp at h; subst h; rfl
  | y :: l, i + 1, x, h => by simp only [List.set_cons_succ]; rw [set_same (by simpa using h)]

/-- One operation of a region that draws, done by the model. -/
theorem fdo_sound (h : SR P E Γ bs ow w a.tmps st) {o : Oper} {id : Nat} (hid : makesBox o.op = true → bs[id]? = some none ∧ st.boxes[id]? = preBox P o) {K : PVal → List PBox → Prop}
    (hp : fdo P E.GE o.op id (opv E.GE st.tmps) st.boxes K) (hd : ∃ d, o.dst = some d ∧ d < st.tmps.length) (Q : Exit → Act → World → Prop) :
    o.wp P a w (fun a' w' => a'.defers = a.defers ∧ ∃ p H Γ' bs' ow', K p H ∧ SR P E Γ' bs' ow' w' a'.tmps (putv st o.dst p [] H) ∧ (bs' = bs ∨ (makesBox o.op = true ∧ ∃ b, bs' = bs.set id (some b))) ∧
      ((match o.op with | .call { callee := .value (.func _), .. } => true | .call { callee := .value _, .. } => false | _ => true) = true → ∀ i : Nat, bs[i]? = some none → H[i]? = st.boxes[i]?)) Q := by
  have hcall : ∀ f args tys, o.op = .call { callee := .value f, args, argTypes := tys } → ∃ d, o.dst = some d ∧ d < st.tmps.length := fun _ _ _ _ => hd
  have hless : ∀ {Γ' bs' ow' w' v p ro H}, SR P E Γ' bs' ow' w' (a.put o.dst v).tmps (putv st o.dst p ro H) → SR P E Γ' bs' ow' w' (a.put o.dst v).tmps (putv st o.dst p [] H) := by
    intro Γ' bs' ow' w' v p ro H hS
    obtain ⟨d, hd, _⟩ := hd
    rw [hd] at hS ⊢
    exact hS.less (own := [].map (fun x : Nat × TypeId => ((d, x.1), x.2)) ++ dropT d st.own) fun x hx => List.mem_append_right _ (by simpa using hx)
  unfold fdo at hp
  split at hp
  · rename_i g args tys ho
    obtain ⟨h1, r, ro, h2, h3⟩ := hp
    have hp' : pdo P E.GE o.op id (opv E.GE st.tmps) st.boxes fun p ro' H => p = r ∧ H = st.boxes := by
      unfold pdo
      rw [ho]
      refine .inl ⟨?_, r, ro, ?_, rfl, rfl⟩
      · simpa using h1
      · simpa using h2
    refine pdo_sound h (fun hm => (hid hm).1) hp' _ Q hcall fun v Γ' bs' ow' w' p ro' H hK hS hb => ?_
    obtain ⟨rfl, rfl⟩ := hK
    exact ⟨put_defers _ _ _, _, _, Γ', bs', ow', h3, hless hS, hb, fun _ _ _ => rfl⟩
  · rename_i f args tys hf ho
    have hp' : pdo P E.GE o.op id (opv E.GE st.tmps) st.boxes fun p _ H => K p H := by
      unfold pdo
      rw [ho]
      exact hp
    refine pdo_sound h (fun hm => (hid hm).1) hp' _ Q hcall fun v Γ' bs' ow' w' p ro' H hK hS hb => ?_
    refine ⟨put_defers _ _ _, _, _, Γ', bs', ow', hK, hless hS, hb, fun hx => ?_⟩
    exfalso
    rw [ho] at hx
    cases f with
    | func g => exact absurd rfl (hf g)
    | tmp t => cases hx
    | const v => cases hx
    | global g => cases hx
  · rename_i hn1 hn2
    split at hp
    · rename_i p H he
      have hpev : pev P o.op id (opv E.GE st.tmps) st.boxes = some (p, H) ∧ ∀ i : Nat, bs[i]? = some none → H[i]? = st.boxes[i]? := by
        unfold fev at he
        split at he
        · rename_i t ho
          obtain ⟨zs, hz, hq⟩ := opt_map he
          cases hq
          have hpre := (hid (by rw [ho]; rfl)).2
          unfold preBox at hpre
          rw [ho] at hpre
          simp only [hz] at hpre
          refine ⟨?_, fun _ _ => rfl⟩
          rw [ho]
          simp only [pev, hz, Option.map_some, set_same hpre]
        · rename_i t ho
          cases he
          have hpre := (hid (by rw [ho]; rfl)).2
          unfold preBox at hpre
          rw [ho] at hpre
          refine ⟨?_, fun _ _ => rfl⟩
          rw [ho]
          simp only [pev, set_same hpre]
        · cases he
        · cases he
        · rename_i k1 k2 k3 k4
          have hm : makesBox o.op = false := by
            cases ho : o.op <;> simp [makesBox, ho] at *
          exact ⟨he, fun i hi => pev_unmade h hm he hi⟩
      have hp' : pdo P E.GE o.op id (opv E.GE st.tmps) st.boxes fun q _ H' => q = p ∧ H' = H := by
        unfold pdo
        split
        · rename_i f args tys ho
          cases f with
          | func g => exact absurd ho (hn1 g args tys)
          | tmp t => exact absurd ho (hn2 _ args tys)
          | const v => exact absurd ho (hn2 _ args tys)
          | global g => exact absurd ho (hn2 _ args tys)
        · rw [hpev.1]; exact ⟨rfl, rfl⟩
      refine pdo_sound h (fun hm => (hid hm).1) hp' _ Q hcall fun v Γ' bs' ow' w' p' ro' H' hK hS hb => ?_
      obtain ⟨rfl, rfl⟩ := hK
      exact ⟨put_defers _ _ _, _, _, Γ', bs', ow', hp, hless hS, hb, fun _ => hpev.2⟩
    · exact hp.elim

end
end Go.Proofs.YtgiimiklbabhcaaDoor
