/-
  WHAT IS PROVED: 'pw_sound': what a body comes to in the abstract machine, the model's code comes to; 'C.intro': a function's contract out of its body. No program in sight. Conditions: none.
-/
import Derived.Test.YtgiimiklbabhcaaDoorAbsY
import Derived.Deep.LoopGhost
namespace Go.Proofs.YtgiimiklbabhcaaDoor
open Go

section
variable {P : Program} {E : Ent} {bs0 : Boxes}

theorem Rel.len {st : PSt} {a : Act} {w : World} (h : Rel P E bs0 st a w) : bs0.length ≤ st.boxes.length := by
  obtain ⟨Γ, bs, ow, h, hk⟩ := h
  rw [← h.bl]
  by_cases hl : bs0.length ≤ bs.length
  · exact hl
  · have h1 := hk bs.length (by omega)
    rw [List.getElem?_eq_none (Nat.le_refl _), List.getElem?_eq_getElem (by omega)] at h1
    cases h1

/-- What the model's code comes to, by what the abstract machine's comes to. -/
def PostR (P : Program) (E : Ent) (bs0 : Boxes) (ds : List Deferred) (Q : Exit → PSt → Prop) : Exit → Act → World → Prop :=
  fun e a w => a.defers = ds ∧ ∃ st, Rel P E bs0 st a w ∧ Q e st

theorem pw_sound (hf : P.follows .mixedOrders = true) {A : List Nat} : ∀ (c : Code) (Q : Exit → PSt → Prop) (st : PSt) (a : Act) (w : World), pw P E.GE A bs0.length c Q st → Rel P E bs0 st a w → c.wp P (PostR P E bs0 a.defers Q) a w
  | .skip, Q, st, a, w, hp, hR => wp_skip ⟨rfl, st, hR, hp⟩
  | .label l, Q, st, a, w, hp, hR => wp_label ⟨rfl, st, hR, hp⟩
  | .region id ops draw, Q, st, a, w, hp, hR => by
    cases draw with
    | false => exact pregion_text hR hR.len (fun a' w' st' hd hR' hK => ⟨hd, st', hR', hK⟩) hp
    | true => exact fregion_draw hf hR hR.len (fun a' w' st' hd hR' hK => ⟨hd, st', hR', hK⟩) hp
  | .seq x y, Q, st, a, w, hp, hR => by
    refine wp_seq (wp_mono (pw_sound hf x _ st a w hp hR) fun e a' w' hq => ?_)
    obtain ⟨hd, st', hR', hq⟩ := hq
    cases e with
    | normal =>
      have := pw_sound hf y Q st' a' w' hq hR'
      rw [hd] at this
      exact this
    | exit id => exact ⟨hd, st', hR', hq⟩
    | goto l => exact ⟨hd, st', hR', hq⟩
    | ret => exact ⟨hd, st', hR', hq⟩
    | panic c => exact ⟨hd, st', hR', hq⟩
    | outgrown => exact ⟨hd, st', hR', hq⟩
  | .cond c x y, Q, st, a, w, hp, hR => by
    simp only [pw] at hp
    obtain ⟨Γ, bs, ow, h, hk⟩ := hR
    have hv := h.opv a.defers c
    split at hp
    · rename_i t ht
      rw [ht] at hv
      generalize hc : (Act.mk a.tmps a.defers).eval c = vc at hv
      cases hv
      exact wp_cond_split (t := t) hc (fun h1 => pw_sound hf x Q st a w (hp.1 h1) ⟨Γ, bs, ow, h, hk⟩) (fun h1 => pw_sound hf y Q st a w (hp.2 h1) ⟨Γ, bs, ow, h, hk⟩)
    · exact hp.elim
  | .block id c, Q, st, a, w, hp, hR => by
    refine wp_block (wp_mono (pw_sound hf c _ st a w hp hR) fun e a' w' hq => ?_)
    obtain ⟨hd, st', hR', hq⟩ := hq
    cases e with
    | exit id' =>
      simp only [blockP] at hq
      simp only [Exit.inBlock]
      split at hq
      · rename_i hid; rw [if_pos hid]; exact ⟨hd, st', hR', hq⟩
      · rename_i hid; rw [if_neg hid]; exact ⟨hd, st', hR', hq⟩
    | normal => exact ⟨hd, st', hR', hq⟩
    | goto l => exact ⟨hd, st', hR', hq⟩
    | ret => exact ⟨hd, st', hR', hq⟩
    | panic c => exact ⟨hd, st', hR', hq⟩
    | outgrown => exact ⟨hd, st', hR', hq⟩
  | .loop c, Q, st, a, w, hp, hR => by
    obtain ⟨st0, n, hls, hm0, hn⟩ := hp
    refine wp_loop_ghost (fun k a' w' => a'.defers = a.defers ∧ ∃ st', Rel P E bs0 st' a' w' ∧ ploop k (pw P E.GE A bs0.length c) bs0.length Q st') n ⟨rfl, st0, hR.less hls hm0, hn⟩ ?_
    intro k a1 w1 hI
    obtain ⟨hd1, st1, hR1, hl⟩ := hI
    cases k with
    | zero => exact hl.elim
    | succ k =>
      refine wp_mono (pw_sound hf c _ st1 a1 w1 hl hR1) fun e a' w' hq => ?_
      obtain ⟨hd, st', hR', hq⟩ := hq
      have hd' := hd.trans hd1
      cases e with
      | normal =>
        obtain ⟨st'', hless, hm, hq⟩ := hq
        exact ⟨k, Nat.lt_succ_self k, hd', st'', hR'.less hless hm, hq⟩
      | exit id => exact ⟨hd', st', hR', hq⟩
      | goto l => exact ⟨hd', st', hR', hq⟩
      | ret => exact ⟨hd', st', hR', hq⟩
      | panic c => exact ⟨hd', st', hR', hq⟩
      | outgrown => exact ⟨hd', st', hR', hq⟩
  | .exit id, Q, st, a, w, hp, hR => wp_exit ⟨rfl, st, hR, hp⟩
  | .ret, Q, st, a, w, hp, hR => wp_ret ⟨rfl, st, hR, hp⟩
  | .rangeFunc .., _, _, _, _, hp, _ => by simp [pw] at hp
  | .scope _, _, _, _, _, hp, _ => by simp [pw] at hp
  | .goto _, _, _, _, _, hp, _ => by simp [pw] at hp
  | .refuse _, _, _, _, _, hp, _ => by simp [pw] at hp

end

/-- What a body returns, by its slots. -/
def retV (st : PSt) : List ResultVar → Option PVal
  | [.tmp t] => some (st.tmps.getD t .undef)
  | [.tmp t, .tmp u] => some (.tuple [st.tmps.getD t .undef, st.tmps.getD u .undef])
  | [.tmp t, .tmp u, .tmp x] => some (.tuple [st.tmps.getD t .undef, st.tmps.getD u .undef, st.tmps.getD x .undef])
  | [] => some (.tuple [])
  | _ => none
/-- Where a part of the result owns from. -/
def retSrc : List ResultVar → Nat → Nat × Nat
  | [.tmp t], k => (t, k)
  | [.tmp t, .tmp u], k => if k = 0 then (t, 0) else (u, 0)
  | [.tmp t, .tmp u, .tmp x], k => if k = 0 then (t, 0) else if k = 1 then (u, 0) else (x, 0)
  | _, _ => (0, 0)
def PVal.isSlice : PVal → Bool
  | .slice _ => true
  | _ => false
/-- Which parts of a result may be owned. -/
def retPart (st : PSt) : List ResultVar → Nat → Prop
  | [.tmp _], _ => True
  | [.tmp t, .tmp u], k => k < 2 ∧ (st.tmps.getD (if k = 0 then t else u) .undef).isSlice = true
  | [.tmp t, .tmp u, .tmp x], k => k < 3 ∧ (st.tmps.getD (if k = 0 then t else if k = 1 then u else x) .undef).isSlice = true
  | _, _ => False

/-- The end of a body: the result, what of it is its own, the boxes behind it. -/
def retP (rs : List ResultVar) (r : PVal) (ro : List (Nat × TypeId)) (H' : List PBox) : Exit → PSt → Prop
  | .normal, st | .ret, st => retV st rs = some r ∧ r.cl H'.length ∧ boxesLess H'.length st.boxes H' ∧ (∀ x ∈ ro, (retSrc rs x.1, x.2) ∈ st.own ∧ retPart st rs x.1) ∧
      (∀ x ∈ ro, ∀ y ∈ ro, retSrc rs x.1 = retSrc rs y.1 → x.1 = y.1)
  | _, _ => False

section
variable {P : Program} {E : Ent} {Γ : Ghost} {bs : Boxes} {ow : Nat → Option Loc} {w : World} {a : Array Value} {st : PSt}

def finOw (src : Nat → Nat × Nat) (ro : List (Nat × TypeId)) (ow : Nat → Option Loc) : Nat → Option Loc := fun b =>
  match ow b with
  | some (.tmp t j) => (ro.find? fun x => src x.1 == (t, j)).map fun x => .tmp 0 x.1
  | L => L

theorem SR.finish (h : SR P E Γ bs ow w a st) {H' : List PBox} {v : Value} {r : PVal} (hv : VR Γ bs w r v) (hcl : r.cl H'.length) (hB : boxesLess H'.length st.boxes H') {src : Nat → Nat × Nat} {ro : List (Nat × TypeId)}
    (hro : ∀ x ∈ ro, (src x.1, x.2) ∈ st.own ∧ ∀ u v', a[(src x.1).1]? = some u → partV u (src x.1).2 = some v' → partV v x.1 = some v')
    (hinj : ∀ x ∈ ro, ∀ y ∈ ro, src x.1 = src y.1 → x.1 = y.1) :
    SR P E Γ (bs.take H'.length) (finOw src ro ow) w #[v] ⟨[r], H', ro.map fun x => ((0, x.1), x.2)⟩ := by
  have hR : Rel P E [] st ⟨a, []⟩ w := ⟨Γ, bs, ow, h, fun i hi => absurd hi (Nat.not_lt_zero _)⟩
  obtain ⟨h3, h4⟩ := boxesLess_get hB
  have hget : ∀ {i b : Nat}, (bs.take H'.length)[i]? = some (some b) → i < H'.length ∧ bs[i]? = some (some b) := by
    intro i b hi
    have hlt : i < H'.length := by have := lt_of_get hi; simp at this; omega
    rw [List.getElem?_take_of_lt hlt] at hi
    exact ⟨hlt, hi⟩
  have hres : ∀ (i b : Nat), i < H'.length → bs[i]? = some (some b) → (bs.take H'.length)[i]? = some (some b) := fun i b hi hb => by
    rw [List.getElem?_take_of_lt hi]; exact hb
  clear hR
  exact {
    wi := h.wi
    sz := rfl
    tm := fun t p v' hp hv' => by
      cases t with
      | zero => simp at hp hv'; subst hp; subst hv'; exact hv.restrict hcl hres
      | succ t => simp at hp
    bl := by simp [h.bl]; omega
    bx := fun i b B hb hB => by
      obtain ⟨hlt, hb⟩ := hget hb
      obtain ⟨B0, hB0, hx⟩ := h4 i B hB
      obtain ⟨k1, k2, k3⟩ := h.bx i b B0 hb hB0
      refine ⟨k1, k2, ?_⟩
      cases B with
      | dead => trivial
      | cells cs own =>
        cases B0 <;> simp only [boxLess] at hx
        obtain ⟨rfl, hcl, _⟩ := hx
        obtain ⟨c, t, e1, e2, e3⟩ := k3
        exact ⟨c, t, e1, e2, fun j p v hp hv => (e3 j p v hp hv).restrict (clL_get hcl hp) hres⟩
      | map es =>
        cases B0 <;> simp only [boxLess] at hx
        obtain ⟨rfl, hcl⟩ := hx
        obtain ⟨c, t, e1, e2, e3⟩ := k3
        refine ⟨c, t, e1, e2, fun j k u x hp hv => ?_⟩
        obtain ⟨q1, q2⟩ := hcl _ (List.mem_of_getElem? hp)
        exact ⟨(e3 j k u x hp hv).1.restrict q1 hres, (e3 j k u x hp hv).2.restrict q2 hres⟩
    inj := fun i j b hi hj => h.inj i j b (hget hi).2 (hget hj).2
    bn := fun i b hb => h.bn i b (hget hb).2
    on := fun b L hL => by
      unfold finOw at hL
      cases hb : ow b with
      | none => rw [hb] at hL; cases hL
      | some L' => exact h.on b L' hb
    ot := fun t k e he => by
      simp only [List.mem_map, Prod.mk.injEq] at he
      obtain ⟨⟨k', e'⟩, hm, ⟨rfl, rfl⟩, rfl⟩ := he
      obtain ⟨h1, h2⟩ := hro _ hm
      obtain ⟨u, v', e1, e2, e3, e4⟩ := h.ot _ _ _ h1
      refine ⟨v, v', rfl, h2 u v' e1 e2, e3, fun b hb => ?_⟩
      have := e4 b hb
      simp only [finOw, this]
      cases hf : ro.find? fun x => src x.1 == src k' with
      | none =>
        have := List.find?_eq_none.1 hf _ hm
        simp at this
      | some x =>
        have hx := List.mem_of_find?_eq_some hf
        have hx2 := List.find?_some hf
        simp only [beq_iff_eq] at hx2
        have := hinj x hx _ hm hx2
        simp only at this
        simp [this]
    ob := fun i j e cs own b hB hj hb => by
      obtain ⟨hlt, hb⟩ := hget hb
      obtain ⟨B0, hB0, hx⟩ := h4 i _ hB
      cases B0 <;> simp only [boxLess] at hx
      obtain ⟨v', e1, e2, e3⟩ := h.ob i j e _ _ b hB0 (hx.2.2 _ hj) hb
      exact ⟨v', e1, e2, fun b' hb' => by simp [finOw, e3 b' hb']⟩
    gl := fun g cs hg => (h.gl g cs hg).restrict (n := 0) (by simp only [PVal.cl]; exact h.gc g cs hg) (fun i b hi _ => absurd hi (Nat.not_lt_zero _))
    gc := h.gc
    gx := h.gx
    step := h.step }

theorem SR.getD (h : SR P E Γ bs ow w a st) (t : Nat) : VR Γ bs w (st.tmps.getD t .undef) (a.getD t undef) := by
  have := h.opv [] (.tmp t)
  exact this

theorem isSlice_part {p : PVal} {v : Value} (hv : VR Γ bs w p v) (hp : p.isSlice = true) : partV v 0 = some v := by
  cases p <;> simp [PVal.isSlice] at hp
  cases hv <;> rfl

theorem retV_run (h : SR P E Γ bs ow w a st) {fn : Func} {r : PVal} (hr : retV st fn.results.toList = some r) :
    ∃ v, (results fn a).run P w = .ok v w ∧ VR Γ bs w r v ∧ ∀ k u v', retPart st fn.results.toList k → a[(retSrc fn.results.toList k).1]? = some u → partV u (retSrc fn.results.toList k).2 = some v' → partV v k = some v' := by
  have hres : fn.results = ⟨fn.results.toList⟩ := rfl
  generalize fn.results.toList = rs at hr hres
  have hsl : ∀ (t : Nat) u v', (st.tmps.getD t .undef).isSlice = true → a[t]? = some u → partV u 0 = some v' → a.getD t undef = v' := by
    intro t u v' hp hu hv'
    have h1 := h.getD t
    have h2 : a.getD t undef = u := by rw [Array.getD_eq_getD_getElem?, hu]; rfl
    rw [h2] at h1 ⊢
    rw [isSlice_part h1 hp] at hv'
    exact (Option.some.injEq _ _).mp hv'
  unfold retV at hr
  split at hr <;> cases hr
  · rename_i t
    refine ⟨a.getD t undef, results_tmp hres _ _ _, h.getD t, fun k u v' _ hu hv' => ?_⟩
    simp only [retSrc] at hu hv'
    rw [Array.getD_eq_getD_getElem?, hu]; exact hv'
  · rename_i t u
    refine ⟨.tuple #[a.getD t undef, a.getD u undef], results_tmp2 hres _ _ _, .tuple _ _ rfl fun i p v hp hv => ?_, fun k x v' hk hu hv' => ?_⟩
    · match i with
      | 0 => cases hp; cases hv; exact h.getD t
      | 1 => cases hp; cases hv; exact h.getD u
      | i + 2 => simp at hp
    · simp only [retPart] at hk
      match k with
      | 0 => simp [retSrc] at hu hv' hk; exact congrArg some (hsl t x v' hk hu hv')
      | 1 => simp [retSrc] at hu hv' hk; exact congrArg some (hsl u x v' hk hu hv')
      | k + 2 => omega
  · rename_i t u y
    refine ⟨.tuple #[a.getD t undef, a.getD u undef, a.getD y undef], ?_, .tuple _ _ rfl fun i p v hp hv => ?_, fun k x v' hk hu hv' => ?_⟩
    · simp [results, hres]
    · match i with
      | 0 => cases hp; cases hv; exact h.getD t
      | 1 => cases hp; cases hv; exact h.getD u
      | 2 => cases hp; cases hv; exact h.getD y
      | i + 3 => simp at hp
    · simp only [retPart] at hk
      match k with
      | 0 => simp [retSrc] at hu hv' hk; exact congrArg some (hsl t x v' hk hu hv')
      | 1 => simp [retSrc] at hu hv' hk; exact congrArg some (hsl u x v' hk hu hv')
      | 2 => simp [retSrc] at hu hv' hk; exact congrArg some (hsl y x v' hk hu hv')
      | k + 3 => omega
  · refine ⟨.tuple #[], results_none hres _ _ _, .tuple _ _ rfl (by simp), fun k x v' hk => hk.elim⟩

end

/-- A function's contract, out of its body. -/
theorem C.intro {P : Program} {GE : List (Nat × List PVal)} {f : FuncId} {fn : Func} {c : Code} {args : List PVal} {oa : List ((Nat × Nat) × TypeId)} {H : List PBox} {r : PVal} {ro : List (Nat × TypeId)} {H' : List PBox}
    (A : List Nat) (hcall : ∀ vs w, (callFunc f vs).run P w = .ok (.enter f vs) w) (hfn : P.funcs[f]? = some fn) (hb : fn.body = some c) (hm : P.follows .mixedOrders = true) (hH : H'.length = H.length)
    (hp : pw P GE A H.length c (retP fn.results.toList r ro H') ⟨args ++ List.replicate (fn.ntmps - args.length) .undef, H, oa⟩) : C P GE f args oa H r ro H' := by
  refine ⟨hcall, fun Γ bs ow w vs h => calls_of_wp hfn hb ?_⟩
  have hbl : bs.length = H.length := h.bl
  have h0 : SR P ⟨GE, Γ, w, touches bs ow⟩ Γ bs ow w (vs ++ Array.replicate (fn.ntmps - vs.size) undef) ⟨args ++ List.replicate (fn.ntmps - args.length) .undef, H, oa⟩ := by
    have hsz : vs.size = args.length := h.sz
    exact { h with
      sz := by simp [hsz]
      tm := fun t p v hp hv => by
        simp only at hp
        by_cases ht : t < args.length
        · rw [List.getElem?_append_left ht] at hp
          rw [Array.getElem?_append_left (by omega)] at hv
          exact h.tm t p v hp hv
        · rw [List.getElem?_append_right (by omega), List.getElem?_replicate] at hp
          split at hp <;> cases hp
          exact .undef v
      ot := fun t k e he => by
        obtain ⟨u, v, h1, h2⟩ := h.ot t k e he
        exact ⟨u, v, by rw [Array.getElem?_append_left (Array.getElem?_eq_some_iff.1 h1).1]; exact h1, h2⟩ }
  have hwp := pw_sound (E := ⟨GE, Γ, w, touches bs ow⟩) (bs0 := bs) hm (A := A) c _ _ ⟨vs ++ Array.replicate (fn.ntmps - vs.size) undef, []⟩ w (by rw [hbl]; exact hp) ⟨Γ, bs, ow, h0, fun i _ => rfl⟩
  refine wp_mono hwp fun e a w' hq => ?_
  obtain ⟨hd, st, ⟨Γ1, bs1, ow1, hS, hk⟩, hQ⟩ := hq
  have key : (retV st fn.results.toList = some r ∧ r.cl H'.length ∧ boxesLess H'.length st.boxes H' ∧ (∀ x ∈ ro, (retSrc fn.results.toList x.1, x.2) ∈ st.own ∧ retPart st fn.results.toList x.1) ∧
      (∀ x ∈ ro, ∀ y ∈ ro, retSrc fn.results.toList x.1 = retSrc fn.results.toList y.1 → x.1 = y.1)) →
      a.defers = [] ∧ ∃ v, (results fn a.tmps).run P w' = .ok v w' ∧ ∃ v' Γ' ow', Ending.returned v = .returned v' ∧ SR P ⟨GE, Γ, w, touches bs ow⟩ Γ' bs ow' w' #[v'] ⟨[r], H', ro.map fun x => ((0, x.1), x.2)⟩ := by
    rintro ⟨k1, k2, k3, k4, k5⟩
    obtain ⟨v, e1, e2, e3⟩ := retV_run hS k1
    refine ⟨hd, v, e1, v, Γ1, finOw (retSrc fn.results.toList) ro ow1, rfl, ?_⟩
    have hf := hS.finish (H' := H') (src := retSrc fn.results.toList) (ro := ro) e2 k2 k3 (fun x hx => ⟨(k4 x hx).1, fun u v' => e3 x.1 u v' (k4 x hx).2⟩) k5
    have : bs1.take H'.length = bs := by
      obtain ⟨hl, _⟩ := boxesLess_get k3
      have hl1 : H'.length ≤ bs1.length := by rw [hS.bl]; exact hl
      refine List.ext_getElem? fun i => ?_
      by_cases hi : i < H'.length
      · rw [List.getElem?_take_of_lt hi]; exact hk i (by omega)
      · rw [List.getElem?_take_eq_none (by omega), List.getElem?_eq_none (by omega)]
    rw [this] at hf
    exact hf
  cases e with
  | normal => exact key hQ
  | ret => exact key hQ
  | exit id => exact hQ.elim
  | goto l => exact hQ.elim
  | panic c => exact hQ.elim
  | outgrown => exact hQ.elim

end Go.Proofs.YtgiimiklbabhcaaDoor
