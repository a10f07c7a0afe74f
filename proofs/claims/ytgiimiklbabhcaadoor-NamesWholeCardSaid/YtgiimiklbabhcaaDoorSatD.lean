/-
  WHAT IS PROVED: an evaluator of code by a script, third part: whole code ('evC_sound'), pieces of code, loops' rounds, functions ('C.ev'). No program in sight. Conditions: none.
-/
import Derived.Test.YtgiimiklbabhcaaDoorSatC
namespace Go.Proofs.YtgiimiklbabhcaaDoor
open Go

/-- A state, slots and boxes of which may be forgotten, is that one. -/
def FG (st st0 : PSt) : Prop := fgT st.tmps st0.tmps = st0.tmps ∧ fgB st.boxes st0.boxes = st0.boxes ∧ (st0.own.all fun x => decide (x ∈ st.own)) = true
theorem fr (st : PSt) : st.tmps = st.tmps ∧ st.boxes = st.boxes ∧ true = true := ⟨rfl, rfl, rfl⟩
theorem FG.weak {P : Program} {m : Nat} {st st0 : PSt} (h : FG st st0) : Weak P m st st0 := by
  obtain ⟨h1, h2, h3⟩ := h
  have := Weak.forget (P := P) (m := m) (st := st) st0.tmps st0.boxes st0.own (fun x hx => by simpa using List.all_eq_true.1 h3 x hx)
  rw [h1, h2] at this
  exact this

def appK (l : List PBox) (r : List PBox) (k : List PBox → Prop) : Prop := forceK (l ++ r) k

def evC (P : Program) (GE : List (Nat × List PVal)) (A : List Nat) (m : Nat) : Code → List It → PSt → (Exit → List It → PSt → Prop) → Prop
  | .skip, sc, st, K => K .normal sc st
  | .label _, sc, st, K => K .normal sc st
  | .region _ ops draw, sc, st, K => appK st.boxes (preBoxes P ops.toList) fun H => match draw with
    | false => evOps P GE A ops false (K .normal) ops.toList 0 st.boxes.length sc ⟨st.tmps, H, st.own⟩
    | true => match sc with
      | .dr an :: sc' => match drawC P ops.toList st.tmps.length an with
        | true => forceK (st.own.filter fun x => ops.toList.all fun o => o.dst != some x.1.1) fun ow => evOps P GE A ops true (K .normal) ops.toList 0 st.boxes.length sc' ⟨st.tmps, H, ow⟩
        | false => False
      | _ => False
  | .seq a b, sc, st, K =>
    let after (e : Exit) (sc : List It) (st : PSt) : Prop := match e with
      | .normal => evC P GE A m b sc st K
      | e => K e sc st
    match sc with
    | .pa 0 :: .pc st0 e st1 :: sc' => FG st st0 ∧ Sat P GE m a (EX e st1) st0 ∧ after e sc' st1
    | .pa (n + 1) :: sc' => evC P GE A m a (.pa n :: sc') st after
    | sc => evC P GE A m a sc st after
  | .cond c a b, sc, st, K => opK GE st.tmps c fun v => match v with
    | .bool t => match sc with
      | .k :: sc' => match t with
        | true => evC P GE A m a sc' st K
        | false => evC P GE A m b sc' st K
      | .g _ x :: sc' => t = x ∧ match x with
        | true => evC P GE A m a sc' st K
        | false => evC P GE A m b sc' st K
      | _ => False
    | _ => False
  | .block id c, sc, st, K => evC P GE A m c sc st fun e sc st => match e with
    | .exit id' => if id' = id then K .normal sc st else K (.exit id') sc st
    | e => K e sc st
  | .exit id, sc, st, K => K (.exit id) sc st
  | .ret, sc, st, K => K .ret sc st
  | .loop c, sc, st, K => match sc with
    | .pc st0 e st1 :: sc' => FG st st0 ∧ Sat P GE m (.loop c) (EX e st1) st0 ∧ K e sc' st1
    | _ => False
  | _, _, _, _ => False

section
variable {P : Program} {GE : List (Nat × List PVal)} {A : List Nat} {m : Nat}

theorem evC_sound (hf : P.follows .mixedOrders = true) : ∀ (c : Code) (sc : List It) (st : PSt) (K : Exit → List It → PSt → Prop), evC P GE A m c sc st K → Sat P GE m c (fun e st' => ∃ sc', K e sc' st') st
  | .skip, sc, st, K, h => Sat.skip ⟨sc, h⟩
  | .label _, sc, st, K, h => Sat.label ⟨sc, h⟩
  | .region id ops draw, sc, st, K, h => by
    simp only [evC, appK, forceK_eq] at h
    cases draw with
    | false => exact Sat.text (evOps_text _ _ _ _ _ h)
    | true =>
      simp only at h
      split at h
      · rename_i an sc'
        split at h
        · rename_i hd
          exact Sat.draw hf ⟨drawOK_of an hd, evOps_draw _ _ _ _ _ h⟩
        · exact h.elim
      · exact h.elim
  | .seq a b, sc, st, K, h => by
    have aft : ∀ (e : Exit) (sc' : List It) (st' : PSt), (match e with | .normal => evC P GE A m b sc' st' K | e => K e sc' st') → (match e with | .normal => Sat P GE m b (fun e st' => ∃ sc', K e sc' st') st' | e => ∃ sc', K e sc' st') := by
      intro e sc' st' hx
      cases e with
      | normal => exact evC_sound hf b sc' st' K hx
      | exit id => exact ⟨_, hx⟩
      | goto l => exact ⟨_, hx⟩
      | ret => exact ⟨_, hx⟩
      | panic c => exact ⟨_, hx⟩
      | outgrown => exact ⟨_, hx⟩
    simp only [evC] at h
    refine Sat.seq ?_
    split at h
    · rename_i st0 e st1 sc'
      obtain ⟨h1, h2, h3⟩ := h
      refine Sat.weak h1.weak (EX.of h2 ?_)
      have := aft e sc' st1 h3
      cases e <;> exact this
    · exact (evC_sound hf a _ st _ h).imp fun e st' hx => by
        obtain ⟨sc', hx⟩ := hx
        have := aft e sc' st' hx
        cases e <;> exact this
    · exact (evC_sound hf a _ st _ h).imp fun e st' hx => by
        obtain ⟨sc', hx⟩ := hx
        have := aft e sc' st' hx
        cases e <;> exact this
  | .cond c a b, sc, st, K, h => by
    simp only [evC, opK_eq] at h
    split at h
    · rename_i t ht
      split at h
      · rename_i sc'
        refine Sat.cond ht (fun h1 => ?_) (fun h1 => ?_)
        · subst h1; exact evC_sound hf a _ st K h
        · subst h1; exact evC_sound hf b _ st K h
      · rename_i j x sc'
        obtain ⟨rfl, h⟩ := h
        refine Sat.cond ht (fun h1 => ?_) (fun h1 => ?_)
        · subst h1; exact evC_sound hf a _ st K h
        · subst h1; exact evC_sound hf b _ st K h
      · exact h.elim
    · exact h.elim
  | .block id c, sc, st, K, h => by
    simp only [evC] at h
    refine Sat.block ((evC_sound hf c _ st _ h).imp fun e st' hx => ?_)
    obtain ⟨sc', hx⟩ := hx
    cases e with
    | exit id' =>
      simp only [blockP]
      simp only at hx
      split at hx
      · rename_i hid; rw [if_pos hid]; exact ⟨sc', hx⟩
      · rename_i hid; rw [if_neg hid]; exact ⟨sc', hx⟩
    | normal => exact ⟨sc', hx⟩
    | goto l => exact ⟨sc', hx⟩
    | ret => exact ⟨sc', hx⟩
    | panic c => exact ⟨sc', hx⟩
    | outgrown => exact ⟨sc', hx⟩
  | .exit id, sc, st, K, h => Sat.exit ⟨sc, h⟩
  | .ret, sc, st, K, h => Sat.ret ⟨sc, h⟩
  | .loop c, sc, st, K, h => by
    simp only [evC] at h
    split at h
    · rename_i st0 e st1 sc'
      obtain ⟨h1, h2, h3⟩ := h
      exact Sat.weak h1.weak (EX.of h2 ⟨sc', h3⟩)
    · exact h.elim
  | .rangeFunc .., _, _, _, h => by simp [evC] at h
  | .scope _, _, _, _, h => by simp [evC] at h
  | .goto _, _, _, _, h => by simp [evC] at h
  | .refuse _, _, _, _, h => by simp [evC] at h

/-- The end of a piece: just this end, in just this state. -/
def FN (e0 : Exit) (st0 : PSt) : Exit → List It → PSt → Prop := fun e _ st => e0 = e ∧ FG st st0

theorem piece (hf : P.follows .mixedOrders = true) {c : Code} {e0 : Exit} {st0 st : PSt} (sc : List It) (h : evC P GE A m c sc st (FN e0 st0)) : Sat P GE m c (EX e0 st0) st :=
  (evC_sound hf c sc st _ h).mono fun _ _ hx => by
    obtain ⟨_, hx⟩ := hx
    exact ⟨st0, hx.2.weak, hx.1.symm, rfl⟩

theorem next (hf : P.follows .mixedOrders = true) {σ X : Type} {S : σ → PSt} {ex : X → Exit} {so : X → PSt} {c : Code} {s : σ} {st : PSt} (sc : List It) (h : evC P GE A m c sc st (FN .normal (S s))) : Sat P GE m c (LQ S ex so (.inl s)) st :=
  (piece hf sc h).imp fun _ _ hx => ⟨hx.1, hx.2⟩
theorem over (hf : P.follows .mixedOrders = true) {σ X : Type} {S : σ → PSt} {ex : X → Exit} {so : X → PSt} {c : Code} {x : X} {st : PSt} (sc : List It) (hn : ex x ≠ .normal) (h : evC P GE A m c sc st (FN (ex x) (so x))) : Sat P GE m c (LQ S ex so (.inr x)) st :=
  (piece hf sc h).imp fun _ _ hx => ⟨by rw [hx.1]; exact hn, hx.1, hx.2⟩

def retOwnB (rs : List ResultVar) (ro : List (Nat × TypeId)) (st : PSt) : Bool :=
  ro.all (fun x => decide ((retSrc rs x.1, x.2) ∈ st.own) && (match rs with
    | [.tmp _] => true
    | [.tmp t, .tmp u] => decide (x.1 < 2) && (st.tmps.getD (if x.1 = 0 then t else u) .undef).isSlice
    | [.tmp t, .tmp u, .tmp y] => decide (x.1 < 3) && (st.tmps.getD (if x.1 = 0 then t else if x.1 = 1 then u else y) .undef).isSlice
    | _ => false)) && ro.all (fun x => ro.all fun y => !decide (retSrc rs x.1 = retSrc rs y.1) || decide (x.1 = y.1))

/-- What a body returns, its values explicit. -/
def FRs (rs : List ResultVar) (r : PVal) (ro : List (Nat × TypeId)) (st : PSt) : Prop := match retV st rs with
  | some p => match retOwnB rs ro st with
    | true => p = r ∧ r.cl 0
    | false => False
  | none => False
def FR (rs : List ResultVar) (r : PVal) (ro : List (Nat × TypeId)) : Exit → List It → PSt → Prop := fun e _ st => match e with
  | .normal => FRs rs r ro st
  | .ret => FRs rs r ro st
  | _ => False

/-- A function that is handed no box and owns nothing of its arguments. -/
theorem C.ofSat {f : FuncId} {fn : Func} {c : Code} {args : List PVal} {r : PVal} {ro : List (Nat × TypeId)}
    (hcall : ∀ vs w, (callFunc f vs).run P w = .ok (.enter f vs) w) (hfn : P.funcs[f]? = some fn) (hb : fn.body = some c)
    (hp : Sat P GE 0 c (retP fn.results.toList r ro []) ⟨args ++ List.replicate (fn.ntmps - args.length) .undef, [], []⟩) : C P GE f args [] [] r ro [] := by
  refine ⟨hcall, fun Γ bs ow w vs h => calls_of_wp hfn hb ?_⟩
  have hbl : bs.length = 0 := h.bl
  obtain rfl : bs = [] := List.eq_nil_of_length_eq_zero hbl
  have h0 : SR P ⟨GE, Γ, w, fun _ => False⟩ Γ [] (fun _ => none) w (vs ++ Array.replicate (fn.ntmps - vs.size) undef) ⟨args ++ List.replicate (fn.ntmps - args.length) .undef, [], []⟩ := by
    have hsz : vs.size = args.length := h.sz
    exact {
      wi := h.wi
      sz := by simp [hsz]
      tm := fun t p v hp hv => by
        simp only at hp
        by_cases ht : t < args.length
        · rw [List.getElem?_append_left ht] at hp
          rw [Array.getElem?_append_left (by omega)] at hv
          exact h.tm t p v hp hv
        · rw [List.getElem?_append_right (by omega), List.getElem?_replicate] at hp
          split at hp <;> cases hp
          exact .undef v
      bl := rfl
      bx := fun i b B hi => by simp at hi
      inj := fun i j b hi => by simp at hi
      bn := fun i b hi => by simp at hi
      on := fun b L hL => by cases hL
      ot := fun t k e he => by simp at he
      ob := fun i j e cs own b hB => by simp at hB
      gl := h.gl
      gc := h.gc
      gx := fun g cs hg => ⟨(h.gx g cs hg).1, fun hx => hx, (h.gx g cs hg).2.2⟩
      step := .refl _ _ _ _ }
  have hE : EGood GE 0 ⟨GE, Γ, w, fun _ => False⟩ := {
    ge := rfl
    low := fun b n hb => h.lt_of_ghost hb
    nt := fun _ _ hx => hx
    gl := h.gl }
  have hwp := hp ⟨GE, Γ, w, fun _ => False⟩ [] ⟨vs ++ Array.replicate (fn.ntmps - vs.size) undef, []⟩ w hE rfl ⟨Γ, [], _, h0, fun i _ => rfl⟩
  refine wp_mono hwp fun e a w' hq => ?_
  obtain ⟨hd, st, ⟨Γ1, bs1, ow1, hS0, hk⟩, hQ⟩ := hq
  have hS : SR P ⟨GE, Γ, w, touches [] ow⟩ Γ1 bs1 ow1 w' a.tmps st := { hS0 with
    bn := fun i b hb => (hS0.bn i b hb).elim False.elim .inr
    on := fun b L hL => ⟨(hS0.on b L hL).1, (hS0.on b L hL).2.elim False.elim .inr⟩
    gx := h.gx
    step := { hS0.step with keep := fun b hb _ => hS0.step.keep b hb (fun hx => hx) } }
  have key : (retV st fn.results.toList = some r ∧ r.cl 0 ∧ boxesLess 0 st.boxes [] ∧ (∀ x ∈ ro, (retSrc fn.results.toList x.1, x.2) ∈ st.own ∧ retPart st fn.results.toList x.1) ∧
      (∀ x ∈ ro, ∀ y ∈ ro, retSrc fn.results.toList x.1 = retSrc fn.results.toList y.1 → x.1 = y.1)) →
      a.defers = [] ∧ ∃ v, (results fn a.tmps).run P w' = .ok v w' ∧ ∃ v' Γ' ow', Ending.returned v = .returned v' ∧ SR P ⟨GE, Γ, w, touches [] ow⟩ Γ' [] ow' w' #[v'] ⟨[r], [], ro.map fun x => ((0, x.1), x.2)⟩ := by
    rintro ⟨k1, k2, k3, k4, k5⟩
    obtain ⟨v, e1, e2, e3⟩ := retV_run hS k1
    refine ⟨hd, v, e1, v, Γ1, finOw (retSrc fn.results.toList) ro ow1, rfl, ?_⟩
    have hf := hS.finish (H' := []) (src := retSrc fn.results.toList) (ro := ro) e2 k2 k3 (fun x hx => ⟨(k4 x hx).1, fun u v' => e3 x.1 u v' (k4 x hx).2⟩) k5
    simpa using hf
  cases e with
  | normal => exact key hQ
  | ret => exact key hQ
  | exit id => exact hQ.elim
  | goto l => exact hQ.elim
  | panic c => exact hQ.elim
  | outgrown => exact hQ.elim

theorem FRs.to {rs : List ResultVar} {r : PVal} {ro : List (Nat × TypeId)} {st : PSt} (h : FRs rs r ro st) : retV st rs = some r ∧ r.cl 0 ∧ boxesLess 0 st.boxes [] ∧ (∀ x ∈ ro, (retSrc rs x.1, x.2) ∈ st.own ∧ retPart st rs x.1) ∧
      (∀ x ∈ ro, ∀ y ∈ ro, retSrc rs x.1 = retSrc rs y.1 → x.1 = y.1) := by
  unfold FRs at h
  split at h
  · rename_i p hp
    split at h
    · rename_i hc
      obtain ⟨rfl, hcl⟩ := h
      unfold retOwnB at hc
      rw [Bool.and_eq_true] at hc
      obtain ⟨c1, c2⟩ := hc
      refine ⟨hp, hcl, by unfold boxesLess; cases st.boxes <;> trivial, fun x hx => ?_, fun x hx y hy hxy => ?_⟩
      · have := List.all_eq_true.1 c1 x hx
        rw [Bool.and_eq_true] at this
        refine ⟨by simpa using this.1, ?_⟩
        have h2 := this.2
        unfold retPart
        split at h2
        · trivial
        · simpa using h2
        · simpa using h2
        · cases h2
      · have := List.all_eq_true.1 (List.all_eq_true.1 c2 x hx) y hy
        simpa [hxy] using this
    · exact h.elim
  · exact h.elim
theorem FR.to {rs : List ResultVar} {r : PVal} {ro : List (Nat × TypeId)} {e : Exit} {sc : List It} {st : PSt} (h : FR rs r ro e sc st) : retP rs r ro [] e st := by
  unfold FR at h
  split at h
  · exact h.to
  · exact h.to
  · exact h.elim

/-- A FUNCTION THAT IS HANDED NO BOX. -/
theorem C.ev (hf : P.follows .mixedOrders = true) {f : FuncId} {fn : Func} {c : Code} {args : List PVal} {r : PVal} {ro : List (Nat × TypeId)}
    (hcall : ∀ vs w, (callFunc f vs).run P w = .ok (.enter f vs) w) (hfn : P.funcs[f]? = some fn) (hb : fn.body = some c) (hcl : clL 0 args) (sc : List It)
    (h : evC P GE A 0 c sc ⟨args ++ List.replicate (fn.ntmps - args.length) .undef, [], []⟩ (FR fn.results.toList r ro)) : CC P GE f args r ro :=
  ⟨hcl, C.ofSat hcall hfn hb ((evC_sound hf c sc _ _ h).imp fun e st hx => by obtain ⟨sc', hx⟩ := hx; exact hx.to)⟩
end
end Go.Proofs.YtgiimiklbabhcaaDoor
