/-
  WHAT IS PROVED: functions of Go's library, whose contracts the kit has, in the abstract machine: a call in a world that only grows ('CC.grown'), a slice of the call's own that is turned in place ('Sat.inplace'). No program in sight. Conditions: none.
-/
import Derived.Test.YtgiimiklbabhcaaDoorSatE
import Derived.Deep.Draws
import Derived.Sort.Grow
import Derived.Lib.LaidTab
namespace Go.Proofs.YtgiimiklbabhcaaDoor
open Go

/-- Blocks are new; nothing that was there has changed. -/
structure Grew (w w' : World) : Prop where
  os : w'.os = w.os
  tape : w'.tape = w.tape
  output : w'.output = w.output
  size : w.heap.size ≤ w'.heap.size
  keep : ∀ b, b < w.heap.size → w'.heap[b]? = w.heap[b]?

theorem Grew.of_grow (w : World) (k : Nat) (os : Array Obj) : Grew w (Sort.grow (w.drewN k) os) := {
  os := rfl
  tape := rfl
  output := rfl
  size := by show w.heap.size ≤ (w.heap ++ os).size; simp
  keep := fun b hb => by show (w.heap ++ os)[b]? = _; rw [Array.getElem?_append_left hb] }

section
variable {P : Program} {GE : List (Nat × List PVal)}

/-- A table of the list is what the shelf's contracts call a table. -/
theorem tab_of {E : Ent} {Γ : Ghost} {bs : Boxes} {ow : Nat → Option Loc} {w : World} {a : Array Value} {st : PSt} (h : SR P E Γ bs ow w a st) {g : Nat} {k : IntKind} {zs : List Int} {name : String}
    (hg : (g, zs.map (PVal.int k)) ∈ E.GE) (hn : P.globalNamed name = some g) : Lib.TabIs P w name k zs := by
  obtain ⟨_, _, _, c, t, fr, h1, h2⟩ := h.gnow hg
  have hv := h.gl g _ hg
  unfold Lib.TabIs World.var?
  rw [hn]
  simp only [Option.bind_some, h1]
  congr 1
  refine Array.ext_getElem? fun i => ?_
  cases hv with
  | eptr _ _ _ n vals hg' hn' hc hvv =>
    by_cases hi : i < zs.length
    · have h3 := hc i _ (by simp [hi] : (zs.map (PVal.int k))[i]? = some (.int k zs[i]))
      have h4 := hvv i _ (by simp [hi] : (zs.map (PVal.int k))[i]? = some (.int k zs[i]))
      rw [Nat.zero_add] at h3
      have h5 : w.cell? ⟨g, i, none⟩ = c[i]? := cell_of_row w g i c t fr h1
      rw [h5] at h3
      rw [h3]
      generalize vals i = vi at h4
      cases h4
      simp [hi]
    · rw [List.length_map] at h2
      rw [Array.getElem?_eq_none (by omega), Array.getElem?_eq_none (by simp; omega)]

/-- A call of one number, that answers a text in a world that has only grown. -/
theorem CC.grownIS {f : FuncId} {n : Int} {s : Str} {k : IntKind} (hcall : ∀ vs w, (callFunc f vs).run P w = .ok (.enter f vs) w)
    (h : ∀ E Γ bs ow w a st, E.GE = GE → SR P E Γ bs ow w a st → Calls P f #[.int k n] w fun e w' => e = .returned (.string ⟨s.toArray⟩) ∧ Grew w w') : CC P GE f [.int k n] (.str s) [] := by
  refine ⟨⟨trivial, trivial⟩, hcall, fun Γ bs ow w vs hS => ?_⟩
  have hvs : vs = #[.int k n] := by
    have h1 := hS.sz
    simp at h1
    have h2 : vs[0]? = some vs[0] := by simp [h1]
    have h3 := hS.tm 0 _ _ rfl h2
    refine Array.ext (by simp [h1]) fun i hi hi2 => ?_
    have : i = 0 := by simp at hi2; omega
    subst this
    generalize vs[0] = v at h3
    cases h3
    rfl
  subst hvs
  refine (h _ Γ bs ow w _ _ rfl hS).mono fun e w' he => ?_
  obtain ⟨rfl, hg⟩ := he
  have hbl : bs.length = 0 := hS.bl
  obtain rfl : bs = [] := List.eq_nil_of_length_eq_zero hbl
  have hW := hS.world (Γ' := Γ) (w' := w') (fun _ => False) (fun b m hb => ⟨m, hb, Nat.le_refl _, fun o _ => cell?_congr (hg.keep b (hS.lt_of_ghost hb)) o⟩)
    (fun b m hb => by
      obtain ⟨c, t, fr, h1, h2⟩ := hS.wi b m hb
      exact ⟨c, t, fr, (hg.keep b (hS.lt_of_ghost hb)).trans h1, h2⟩) hg.os hg.tape hg.output hg.size (fun b hb _ => ⟨hg.keep b hb, rfl⟩) (fun _ hx => hx.elim) (fun _ _ _ hx => hx) (fun _ _ _ hx => hx)
  refine ⟨_, Γ, ow, rfl, { hW with
    sz := rfl
    tm := fun t p v hp hv => by
      cases t with
      | zero => simp at hp hv; subst hp; subst hv; exact .str s
      | succ t => simp at hp
    ot := fun t k e he => by simp at he }⟩

/-- A function that turns a row of one-celled values in place: its cells become those of 'f l', and it answers 'R' of the row's cells left; nothing else that was there changes. -/
structure InPl (P : Program) (g : FuncId) (e : TypeId) (enc : Str → Value) (f : List Str → List Str) (R : Option Addr → Nat → Nat → Value) : Prop where
  call : ∀ vs w, (callFunc g vs).run P w = .ok (.enter g vs) w
  row : ∀ (w : World) (b cap : Nat) (cur : Array Value) (l : List Str), w.heap[b]? = some (.cells cur e (0, 0)) → cur.size = cap → l.length ≤ cap → cap ≤ maxLen → l.length ≤ appMax → cur.toList.take l.length = l.map enc →
    Calls P g #[.slice (some ⟨b, 0, none⟩) l.length cap] w fun r w' => r = .returned (R (some ⟨b, 0, none⟩) (f l).length cap) ∧ (f l).length ≤ cap ∧ w'.os = w.os ∧ w'.tape = w.tape ∧ w'.output = w.output ∧ w.heap.size ≤ w'.heap.size ∧
      (∀ b', b' < w.heap.size → b' ≠ b → w'.heap[b']? = w.heap[b']?) ∧ ∃ cur', w'.heap[b]? = some (.cells cur' e (0, 0)) ∧ cur'.size = cap ∧ cur'.toList.take (f l).length = (f l).map enc
  none : ∀ w : World, f [] = [] ∧ Calls P g #[.slice none 0 0] w fun r w' => r = .returned (R none 0 0) ∧ w' = w

theorem fgT_eq : ∀ {l l' : List PVal}, l.length = l'.length → (∀ (i : Nat) q, l'[i]? = some q → q = .undef ∨ l[i]? = some q) → fgT l l' = l'
  | [], [], _, _ => rfl
  | [], _ :: _, h, _ => by simp at h
  | _ :: _, [], h, _ => by simp at h
  | p :: l, q :: l', h, hq => by
    have ih := fgT_eq (l := l) (l' := l') (by simpa using h) fun i x hx => by simpa using hq (i + 1) x (by simpa using hx)
    have h0 := hq 0 q rfl
    simp only [List.getElem?_cons_zero, Option.some.injEq] at h0
    rcases h0 with rfl | rfl
    · simp only [fgT, ih]
    · cases p <;> simp only [fgT, ih]

/-- The state in which nothing is known but one slot, a slice of the call's own. -/
def own1 (n t : Nat) (l : List Str) (e : TypeId) : PSt := ⟨(List.replicate n .undef).set t (sl cS l), [], [((t, 0), e)]⟩

theorem own1_get {n t : Nat} {p : PVal} {i : Nat} {l : List Str} (h : ((List.replicate n .undef).set t (sl cS l))[i]? = some p) : p = .undef ∨ (i = t ∧ p = sl cS l) := by
  rw [List.getElem?_set] at h
  split at h
  · rename_i hti
    split at h
    · cases h; exact .inr ⟨hti.symm, rfl⟩
    · cases h
  · rw [List.getElem?_replicate] at h
    split at h
    · cases h; exact .inl rfl
    · cases h

/-- The state behind: the row is in slot 'ts', and the call's own. -/
theorem one_state {E : Ent} {Γ : Ghost} {bs : Boxes} {ow : Nat → Option Loc} {w w' : World} {a : Array Value} {st : PSt} (h : SR P E Γ bs ow w a st) (hE : EGood GE 0 E) (hbs : bs = []) {e : TypeId} (he : P.cellsOf e = 1) {n t ts : Nat} {a' : Array Value} (hn : a'.size = n) (hts : ts < n)
    {f : List Str} {v : Value} (hv : a'[ts]? = some v) (hos : w'.os = w.os) (htp : w'.tape = w.tape) (hout : w'.output = w.output) (hsz : w.heap.size ≤ w'.heap.size)
    (hval : (v = .slice none 0 0 ∧ f = [] ∧ w' = w) ∨ ∃ b cap cur', v = .slice (some ⟨b, 0, none⟩) f.length cap ∧ ow b = some (.tmp t 0) ∧ f.length ≤ cap ∧ cap ≤ maxLen ∧ (∀ b', b' < w.heap.size → b' ≠ b → w'.heap[b']? = w.heap[b']?) ∧ w'.heap[b]? = some (.cells cur' e (0, 0)) ∧ cur'.size = cap ∧ cur'.toList.take f.length = f.map fun s => Value.string ⟨s.toArray⟩) :
    ∃ Γ' ow', SR P E Γ' [] ow' w' a' (own1 n ts f e) := by
  subst hbs
  rcases hval with ⟨rfl, rfl, rfl⟩ | ⟨b, cap, cur', rfl, hob, hfc, hcm, hkeep, hcur, hcs, htake⟩
  · refine ⟨Γ, fun _ => .none, { h with
      sz := by simp [own1, hn]
      tm := fun i p u hp hu => by
        rcases own1_get hp with rfl | ⟨rfl, rfl⟩
        · exact .undef u
        · rw [hv] at hu; cases hu; exact .sliceNil
      bl := rfl
      bx := fun i b B hi => by simp at hi
      inj := fun i j b hi => by simp at hi
      bn := fun i b hi => by simp at hi
      on := fun b L hL => by cases hL
      ot := fun t' k e' he' => by
        simp [own1] at he'
        obtain ⟨⟨rfl, rfl⟩, rfl⟩ := he'
        exact ⟨_, _, hv, rfl, ⟨0, [], World.ownsRow_nil _ _ _ _, fun b hb => by simp [Value.ownBlock] at hb⟩, fun b hb => by simp [Value.ownBlock] at hb⟩
      ob := fun i j e' cs own b hB => by simp [own1] at hB }⟩
  · have hlo := (h.on b _ hob)
    have hblt := hlo.1
    have hbe : E.w.heap.size ≤ b := hlo.2.resolve_left (hE.nt rfl b)
    have hlen : cur'.toList.length = cap := by simpa using hcs
    have hget : ∀ i, i < f.length → cur'[i]? = some (.string ⟨(f[i]!).toArray⟩) := by
      intro i hi
      have h1 : (cur'.toList.take f.length)[i]? = (f.map fun s => Value.string ⟨s.toArray⟩)[i]? := by rw [htake]
      rw [List.getElem?_take_of_lt hi] at h1
      simp only [Array.getElem?_toList, List.getElem?_map] at h1
      rw [h1]
      simp [hi]
    have hle : E.Γ.Le E.w (Γ.put b f.length) w' := fun x m hx => by
      obtain ⟨m', h1, h2, h3⟩ := h.step.le x m hx
      have hne : x ≠ b := fun hxb => by have := hE.low x m hx; omega
      refine ⟨m', (Γ.put_other hne).trans h1, h2, fun o ho => ?_⟩
      rw [← h3 o ho]
      exact cell?_congr (hkeep x (h.lt_of_ghost h1) hne) o
    refine ⟨Γ.put b f.length, fun x => if x = b then some (.tmp ts 0) else Option.none, {
      wi := fun x m hx => by
        by_cases hxb : x = b
        · subst hxb; rw [Γ.put_same] at hx; cases hx; exact ⟨cur', e, (0, 0), hcur, by omega⟩
        · rw [Γ.put_other hxb] at hx
          obtain ⟨c, t', fr, h1, h2⟩ := h.wi x m hx
          exact ⟨c, t', fr, (hkeep x (h.lt_of_ghost hx) hxb).trans h1, h2⟩
      sz := by simp [own1, hn]
      tm := fun i p u hp hu => by
        rcases own1_get hp with rfl | ⟨rfl, rfl⟩
        · exact .undef u
        · rw [hv] at hu; cases hu
          have := VR.slice (Γ := Γ.put b f.length) (bs := []) (w := w') (f.map cS) b 0 cap f.length 1 (fun i _ => .string ⟨(f[i]!).toArray⟩) (by simpa using hfc) (Γ.put_same _ _) (by simp)
            (fun i x hx => by rw [List.getElem?_map] at hx; cases hf : f[i]? with
              | none => rw [hf] at hx; cases hx
              | some s => rw [hf] at hx; cases hx; rfl)
            (fun i x k q hx hq => by
              rw [List.getElem?_map] at hx
              cases hf : f[i]? with
              | none => rw [hf] at hx; cases hx
              | some s =>
                rw [hf] at hx; cases hx
                have hil := lt_of_get hf
                have hk : k = 0 := by have := lt_of_get hq; simp [cS] at this; exact this
                subst hk
                rw [show 0 + i * 1 + 0 = i by omega, cell_of_row w' b i cur' e _ hcur]
                exact hget i hil)
            (fun i x k q hx hq => by
              rw [List.getElem?_map] at hx
              cases hf : f[i]? with
              | none => rw [hf] at hx; cases hx
              | some s =>
                rw [hf] at hx; cases hx
                have hk : k = 0 := by have := lt_of_get hq; simp [cS] at this; exact this
                subst hk
                simp [cS] at hq; subst hq
                have : f[i]! = s := by rw [List.getElem!_eq_getElem?_getD, hf]; rfl
                rw [this]
                exact .str s)
          rw [List.length_map] at this
          exact this
      bl := rfl
      bx := fun i b B hi => by simp at hi
      inj := fun i j b hi => by simp at hi
      bn := fun i b hi => by simp at hi
      on := fun x L hL => by
        split at hL
        · rename_i hxb; subst hxb; exact ⟨Nat.lt_of_lt_of_le hblt hsz, .inr hbe⟩
        · cases hL
      ot := fun t' k e' he' => by
        simp [own1] at he'
        obtain ⟨⟨rfl, rfl⟩, rfl⟩ := he'
        refine ⟨_, _, hv, rfl, ⟨f.length, f.map fun s => Value.string ⟨s.toArray⟩, ⟨by simp [he], .inr ⟨b, cap, cur', rfl, Nat.zero_le _, hcur, hfc, hcm, by rw [he]; omega, by rw [he, Nat.mul_one]; exact htake⟩⟩, fun x hx => ?_⟩, fun x hx => ?_⟩
        · simp [Value.ownBlock] at hx; subst hx; rw [he, Nat.mul_one]; exact Γ.put_same _ _
        · simp [Value.ownBlock] at hx; subst hx; simp
      ob := fun i j e' cs own b hB => by simp [own1] at hB
      gl := fun g cs hg => (hE.gl g cs (by rw [← hE.ge]; exact hg)).mono hle (.refl _)
      gc := h.gc
      gx := h.gx
      step := {
        os := hos.trans h.step.os
        tape := htp.trans h.step.tape
        output := hout.trans h.step.output
        size := Nat.le_trans h.step.size hsz
        keep := fun x hx hT => by
          have hne : x ≠ b := fun hxb => by omega
          obtain ⟨k1, k2⟩ := h.step.keep x hx hT
          exact ⟨(hkeep x (Nat.lt_of_lt_of_le hx h.step.size) hne).trans k1, (Γ.put_other hne).trans k2⟩
        le := hle } }⟩

theorem partV_slice (x : Option Addr) (n c : Nat) : partV (.slice x n c) 0 = some (.slice x n c) := rfl

/-- Two operations that hand the call's own slice to a function that turns it in place, at the beginning of a region. -/
theorem inplace_core {g : FuncId} {e : TypeId} {f : List Str → List Str} {R : Option Addr → Nat → Nat → Value} (hI : InPl P g e (fun s => Value.string ⟨s.toArray⟩) f R) (he : P.cellsOf e = 1) {ops : Array Oper} {rest : List Nat} {o1 o2 : Oper} {n t d1 d2 ts : Nat} {l : List Str} {tys : Array TypeId}
    (hla : l.length ≤ appMax) (ho1 : ops[0]? = some o1) (ho2 : ops[1]? = some o2)
    (h1 : o1.op = .move (.tmp t)) (h1d : o1.dst = some d1) (h1g : o1.guard = none) (h2 : o2.op = .call { callee := .value (.func g), args := #[.tmp d1], argTypes := tys }) (h2d : o2.dst = some d2) (h2g : o2.guard = none)
    (hn : t < n ∧ d1 < n ∧ d2 < n ∧ t ≠ d1 ∧ t ≠ d2 ∧ d1 ≠ d2) (hts : (ts = t ∧ (f l).length = l.length) ∨ (ts = d2 ∧ ∀ x k c, R x k c = .slice x k c))
    {E : Ent} {a : Act} {w : World} {Q : Exit → Act → World → Prop} (hE : EGood GE 0 E) (hR : Rel P E [] (own1 n t l e) a w)
    (hfin : ∀ a' w', a'.defers = a.defers → (∃ Γ' ow', SR P E Γ' [] ow' w' a'.tmps (own1 n ts (f l) e)) → wpOps P ops Q rest a' w') : wpOps P ops Q (0 :: 1 :: rest) a w := by
  obtain ⟨n1, n2, n3, n4, n5, n6⟩ := hn
  obtain ⟨Γ, bs, ow, h, hk⟩ := hR
  have hbs : bs = [] := List.eq_nil_of_length_eq_zero h.bl
  have hsz : a.tmps.size = n := by rw [h.sz]; simp [own1]
  obtain ⟨u, v, hu, hpv, hown, hob⟩ := h.ot t 0 e (by simp [own1])
  have hvr := h.tm t (sl cS l) u (by simp [own1, n1]) hu
  have hu0 : a.eval (.tmp t) = u := eval_tmp hu
  rw [wpOps_cons]
  unfold wpOp
  rw [ho1]
  simp only
  rw [if_pos (by simp [Region.wanted, h1g])]
  refine .inl ?_
  unfold Oper.wp
  rw [show (execOp a.eval o1).run P w = .ok (.value u) w by simp [execOp, h1, hu0], Oper.upon_value]
  rw [wpOps_cons]
  unfold wpOp
  rw [ho2]
  simp only
  rw [if_pos (by simp [Region.wanted, h2g])]
  refine .inl ?_
  unfold Oper.wp
  have hu1 : (a.put o1.dst u).eval (.tmp d1) = u := by
    refine eval_tmp ?_
    rw [h1d]
    show (a.tmps.setIfInBounds d1 u)[d1]? = some u
    simp [hsz, n2]
  rw [show (execOp (a.put o1.dst u).eval o2).run P w = .ok (.enter g #[u]) w by
    simp only [execOp, h2]
    simp [resolve, Act.eval, Deferred.ofValue, invoke, hI.call]
    have hu2 : (a.put o1.dst u).tmps.getD d1 undef = u := hu1
    rw [Array.getD_eq_getD_getElem?] at hu2
    exact hu2, Oper.upon_enter]
  have hget : ∀ r : Value, (((a.put o1.dst u).put o2.dst r).tmps)[t]? = some u ∧ (((a.put o1.dst u).put o2.dst r).tmps)[d2]? = some r ∧ (((a.put o1.dst u).put o2.dst r).tmps).size = n := by
    intro r
    rw [h1d, h2d]
    show ((a.tmps.setIfInBounds d1 u).setIfInBounds d2 r)[t]? = some u ∧ ((a.tmps.setIfInBounds d1 u).setIfInBounds d2 r)[d2]? = some r ∧ ((a.tmps.setIfInBounds d1 u).setIfInBounds d2 r).size = n
    refine ⟨?_, ?_, by simp [hsz]⟩
    · rw [Array.getElem?_setIfInBounds_ne n5.symm, Array.getElem?_setIfInBounds_ne n4.symm]; exact hu
    · rw [Array.getElem?_setIfInBounds_self_of_lt (by simp [hsz, n3])]
  have hdef : ∀ r : Value, ((a.put o1.dst u).put o2.dst r).defers = a.defers := fun r => (put_defers _ _ _).trans (put_defers _ _ _)
  have fin : ∀ (r : Value) (w' : World), (∃ Γ' ow', SR P E Γ' [] ow' w' ((a.put o1.dst u).put o2.dst r).tmps (own1 n ts (f l) e)) → wpOps P ops Q rest ((a.put o1.dst u).put o2.dst r) w' :=
    fun r w' hS => hfin _ _ (hdef r) hS
  have hlt : ts < n := by rcases hts with ⟨rfl, _⟩ | ⟨rfl, _⟩ <;> assumption
  unfold sl at hvr
  generalize hes : l.map cS = es at hvr
  cases hvr with
  | sliceNil =>
    have hl : l = [] := by cases l with
      | nil => rfl
      | cons x l => simp at hes
    subst hl
    refine (hI.none w).2.mono fun r w' hr => ?_
    obtain ⟨rfl, rfl⟩ := hr
    refine fin _ _ (one_state h hE hbs he (t := t) (hget _).2.2 hlt (v := .slice none 0 0) ?_ rfl rfl rfl (Nat.le_refl _) (.inl ⟨rfl, (hI.none w').1, rfl⟩))
    rcases hts with ⟨rfl, _⟩ | ⟨rfl, hR⟩
    · exact (hget _).1
    · rw [(hget _).2.1, hR]
  | sliceE x cap =>
    have hl : l = [] := by cases l with
      | nil => rfl
      | cons x l => simp at hes
    subst hl
    rw [partV_slice] at hpv
    cases hpv
    obtain ⟨k, xs, ⟨hx1, hx2⟩, hx3⟩ := hown
    rcases hx2 with ⟨hx2, _⟩ | ⟨g', cap', cur, hx2, _, hheap, hkc, hcm, hcs, htake⟩
    · cases hx2
    · cases hx2
      rw [he, Nat.mul_one] at hcs
      have hcall := hI.row w g' cap cur [] hheap hcs (Nat.zero_le _) hcm hla (by simp)
      refine hcall.mono fun r w' hr => ?_
      obtain ⟨rfl, q1, q2, q3, q4, q5, q6, cur', q7, q8, q9⟩ := hr
      refine fin _ _ (one_state h hE hbs he (t := t) (hget _).2.2 hlt (v := .slice (some ⟨g', 0, none⟩) (f []).length cap) ?_ q2 q3 q4 q5 (.inr ⟨g', cap, cur', rfl, hob g' rfl, q1, hcm, q6, q7, q8, q9⟩))
      rcases hts with ⟨rfl, hfl⟩ | ⟨rfl, hR⟩
      · rw [(hget _).1, hfl]; rfl
      · rw [(hget _).2.1, hR]
  | slice _ b off cap m sz vals hcap hg hm hszs hc hv =>
    rw [partV_slice] at hpv
    cases hpv
    obtain ⟨k, xs, ⟨hx1, hx2⟩, hx3⟩ := hown
    rcases hx2 with ⟨hx2, _⟩ | ⟨g', cap', cur, hx2, _, hheap, hkc, hcm, hcs, htake⟩
    · cases hx2
    · cases hx2
      rw [he, Nat.mul_one] at hcs htake
      have hlen : es.length = l.length := by rw [← hes]; simp
      have hrow : cur.toList.take l.length = l.map fun s => Value.string ⟨s.toArray⟩ := by
        refine List.ext_getElem? fun i => ?_
        by_cases hi : i < l.length
        · rw [List.getElem?_take_of_lt hi]
          simp only [Array.getElem?_toList, List.getElem?_map, List.getElem?_eq_getElem hi, Option.map_some]
          have hx : es[i]? = some (cS l[i]) := by rw [← hes]; simp [hi]
          have hs1 : sz = 1 := by have := hszs i _ hx; simp [cS] at this; exact this.symm
          subst hs1
          have e1 := hc i _ 0 (.str l[i]) hx rfl
          have e2 := hv i _ 0 (.str l[i]) hx rfl
          rw [show 0 + i * 1 + 0 = i by omega, cell_of_row w b i cur e _ hheap] at e1
          rw [e1]
          generalize vals i 0 = q at e2
          cases e2
          rfl
        · rw [List.getElem?_eq_none (by simp; omega), List.getElem?_eq_none (by simp; omega)]
      have hcall := hI.row w b cap cur l hheap hcs (by omega) hcm hla hrow
      rw [← hlen] at hcall
      refine hcall.mono fun r w' hr => ?_
      obtain ⟨rfl, q1, q2, q3, q4, q5, q6, cur', q7, q8, q9⟩ := hr
      refine fin _ _ (one_state h hE hbs he (t := t) (hget _).2.2 hlt (v := .slice (some ⟨b, 0, none⟩) (f l).length cap) ?_ q2 q3 q4 q5 (.inr ⟨b, cap, cur', rfl, hob b rfl, q1, hcm, q6, q7, q8, q9⟩))
      rcases hts with ⟨rfl, hfl⟩ | ⟨rfl, hR⟩
      · rw [(hget _).1, hfl, hlen]
      · rw [(hget _).2.1, hR]

section
variable {g : FuncId} {e : TypeId} {f : List Str → List Str} {R : Option Addr → Nat → Nat → Value} {id : Nat} {o1 o2 o3 : Oper} {n t d1 d2 d3 ts : Nat} {l : List Str} {tys : Array TypeId}

/-- A region of the two operations alone. -/
theorem Sat.inplace (hI : InPl P g e (fun s => Value.string ⟨s.toArray⟩) f R) (he : P.cellsOf e = 1) (hla : l.length ≤ appMax)
    (h1 : o1.op = .move (.tmp t)) (h1d : o1.dst = some d1) (h1g : o1.guard = none) (h2 : o2.op = .call { callee := .value (.func g), args := #[.tmp d1], argTypes := tys }) (h2d : o2.dst = some d2) (h2g : o2.guard = none)
    (hn : t < n ∧ d1 < n ∧ d2 < n ∧ t ≠ d1 ∧ t ≠ d2 ∧ d1 ≠ d2) (hts : (ts = t ∧ (f l).length = l.length) ∨ (ts = d2 ∧ ∀ x k c, R x k c = .slice x k c)) :
    Sat P GE 0 (.region id #[o1, o2] false) (EX .normal (own1 n ts (f l) e)) (own1 n t l e) := by
  intro E bs0 a w hE hb hR
  have hb0 : bs0 = [] := List.eq_nil_of_length_eq_zero hb
  subst hb0
  refine wp_region ?_
  show wpOps P #[o1, o2] _ [0, 1] a w
  refine inplace_core (ts := ts) hI he hla rfl rfl h1 h1d h1g h2 h2d h2g hn hts hE hR fun a' w' hd hS => ?_
  obtain ⟨Γ', ow', hS⟩ := hS
  exact ⟨hd, _, ⟨Γ', [], ow', hS, fun i hi => absurd hi (Nat.not_lt_zero _)⟩, rfl, rfl⟩

/-- The same, and the answer goes on into a slot. -/
theorem Sat.inplace3 (hI : InPl P g e (fun s => Value.string ⟨s.toArray⟩) f R) (he : P.cellsOf e = 1) (hla : l.length ≤ appMax)
    (h1 : o1.op = .move (.tmp t)) (h1d : o1.dst = some d1) (h1g : o1.guard = none) (h2 : o2.op = .call { callee := .value (.func g), args := #[.tmp d1], argTypes := tys }) (h2d : o2.dst = some d2) (h2g : o2.guard = none)
    (hn : t < n ∧ d1 < n ∧ d2 < n ∧ t ≠ d1 ∧ t ≠ d2 ∧ d1 ≠ d2) (hR' : ∀ x k c, R x k c = .slice x k c) (h3 : o3.op = .assign (.tmp d2)) (h3d : o3.dst = some d3) (h3g : o3.guard = none) (hn3 : d3 < n) (hdd : d3 ≠ d2) :
    Sat P GE 0 (.region id #[o1, o2, o3] false) (EX .normal (own1 n d3 (f l) e)) (own1 n t l e) := by
  intro E bs0 a w hE hb hR
  have hb0 : bs0 = [] := List.eq_nil_of_length_eq_zero hb
  subst hb0
  refine wp_region ?_
  show wpOps P #[o1, o2, o3] _ [0, 1, 2] a w
  refine inplace_core (ts := d2) hI he hla rfl rfl h1 h1d h1g h2 h2d h2g hn (.inr ⟨rfl, hR'⟩) hE hR fun a' w' hd hS => ?_
  obtain ⟨Γ', ow', hS⟩ := hS
  rw [wpOps_cons]
  unfold wpOp
  rw [show (#[o1, o2, o3] : Array Oper)[2]? = some o3 from rfl]
  simp only
  rw [if_pos (by simp [Region.wanted, h3g])]
  refine .inl ?_
  refine Oper.wp_mono (fun a2 w2 hA => ?_) (move_sound (id := 0) (bs := []) (K := fun st => Weak P 0 st (own1 n d3 (f l) e)) hS (.inl h3) h3d (by simpa [own1] using hn3) ?_ _)
  · obtain ⟨hd2, Γ2, bs2, ow2, st2, hS2, hW, hbs2⟩ := hA
    have : bs2 = [] := by
      rcases hbs2 with rfl | ⟨hm, _⟩
      · rfl
      · simp [h3, makesBox] at hm
    subst this
    have hrel := hW E [] a2 w2 rfl ⟨Γ2, [], ow2, hS2, fun i hi => absurd hi (Nat.not_lt_zero _)⟩
    exact ⟨hd2.trans hd, _, hrel, rfl, rfl⟩
  · have hg : (own1 n d2 (f l) e).tmps.getD d2 .undef = sl cS (f l) := by
      simp [own1, List.getD_eq_getElem?_getD, hn.2.2.1]
    rw [hg]
    refine Weak.trans (Weak.forget (own1 n d3 (f l) e).tmps [] [((d3, 0), e)] ?_) ?_
    · intro x hx
      simp at hx
      subst hx
      simp [own1, renOwn, dropT, Ne.symm hdd]
    · have hfg : fgT ((own1 n d2 (f l) e).tmps.set d3 (sl cS (f l))) (own1 n d3 (f l) e).tmps = (own1 n d3 (f l) e).tmps := by
        refine fgT_eq (by simp [own1]) fun i q hq => ?_
        rcases own1_get hq with rfl | ⟨rfl, rfl⟩
        · exact .inl rfl
        · exact .inr (by simp [own1, hn3])
      show Weak P 0 ⟨fgT ((own1 n d2 (f l) e).tmps.set d3 (sl cS (f l))) (own1 n d3 (f l) e).tmps, fgB [] [], _⟩ _
      rw [hfg]
      exact .refl _
end
end
end Go.Proofs.YtgiimiklbabhcaaDoor
