/-
  WHAT IS PROVED: parts of the proof, put together by a program out of smaller texts, their own names made short (PlA; VisA; VisB). Conditions: none.
-/
import Derived.Test.YtgldgpdhblndkaaGreatDoorPkD27
import Derived.RangeFuncRecord
import Derived.RangeFuncSeq
import Derived.Test.YtgldgpdhblndkaaGreatDoorPkD28
import Derived.Test.YtgldgpdhblndkaaGreatDoorPkD23
namespace Go.Proofs.YtgldgpdhblndkaaGreatDoor
open Go
set_option linter.unusedVariables false
abbrev asd (GE:List (Nat×List PVal)) (Γ:qa0) (w:World):Ent:=⟨GE,Γ,w,fun _ => False⟩
structure Base (GE:List (Nat×List PVal)) (Γ:qa0) (w:World):Prop where
  wi:∀ b n,Γ b = some n→∃ c t fr,w.heap[b]? = some (.cells c t fr)∧n ≤ c.size
  gl:∀ g cs,(g,cs) ∈ GE→VR Γ [] w (.eptr cs) (.pointer (some ⟨g,0,none⟩))
  gc:∀ g cs,(g,cs) ∈ GE→clL 0 cs
  gx:∀ g cs,(g,cs) ∈ GE→g < w.heap.size∧∃ c t fr,w.heap[g]? = some (.cells c t fr)∧c.size = cs.length
theorem VR.clo {Γ:qa0} {bs bs':qbn} {w:World} {p:PVal} {v:Value} (h:VR Γ bs w p v) (hc:p.cl 0):VR Γ bs' w p v:=h.restrict (n:=0) hc fun i b hi _ => absurd hi (Nat.not_lt_zero _)
section
variable {P:Program} {E:Ent} {Γ:qa0} {bs:qbn} {ow:Nat→Option Loc} {w:World} {a:Array Value} {st:PSt}
theorem SR.base (h:SR P E Γ bs ow w a st):Base E.GE Γ w where
  wi:=h.wi
  gl:=fun g cs hg => (h.gl g cs hg).clo (by simp only [PVal.cl]; exact h.gc g cs hg)
  gc:=h.gc
  gx:=fun g cs hg => ⟨(h.gnow hg).1,(h.gnow hg).2.2.2⟩
theorem Base.good {GE:List (Nat×List PVal)} (hB:Base GE Γ w):EGood GE 0 (asd GE Γ w) where
  ge:=rfl
  low:=fun b n h => by obtain ⟨c,t,fr,h1,_⟩:=hB.wi b n h; exact (Array.getElem?_eq_some_iff.1 h1).1
  nt:=fun _ _ hb => hb
  gl:=hB.gl
theorem Base.fresh {GE:List (Nat×List PVal)} (hB:Base GE Γ w) (k:Nat) {tmps:List PVal} (hs:a.size = tmps.length) (hv:∀ (t:Nat) p v,tmps[t]? = some p→a[t]? = some v→VR Γ [] w p v) :
    SR P (asd GE Γ w) Γ (List.replicate k none) (fun _ => none) w a ⟨tmps,List.replicate k .dead,[]⟩:=by
  have hno:∀ (i b:Nat),(List.replicate k (none:Option Nat))[i]? = some (some b)→False:=fun i b h => by
    rw [List.getElem?_replicate] at h
    split at h <;> simp at h
  exact {
    wi:=hB.wi
    sz:=hs
    tm:=fun t p v hp hv' => (hv t p v hp hv').mono (.refl _ _) (fun i b h => by simp at h)
    bl:=by simp
    bx:=fun i b B hb => (hno i b hb).elim
    inj:=fun i j b hb => (hno i b hb).elim
    bn:=fun i b hb => (hno i b hb).elim
    on:=fun b L hL => by cases hL
    ot:=fun t k e he => by simp at he
    ob:=fun i j e cs own b _ _ hb => (hno i b hb).elim
    gl:=fun g cs hg => (hB.gl g cs hg).mono (.refl _ _) (fun i b h => by simp at h)
    gc:=hB.gc
    gx:=fun g cs hg => ⟨(hB.gx g cs hg).1,fun h => h,(hB.gx g cs hg).2⟩
    step := .refl _ _ _ _ }
theorem SR.again (h:SR P E Γ bs ow w a st) (hc:clL 0 st.tmps) {GE:List (Nat×List PVal)} {Γ':qa0} {w':World} (hB:Base GE Γ' w') (hle:Γ.Le w Γ' w') (k:Nat) :
    SR P (asd GE Γ' w') Γ' (List.replicate k none) (fun _ => none) w' a ⟨st.tmps,List.replicate k .dead,[]⟩ :=
  hB.fresh k h.sz fun t p v hp hv => ((h.tm t p v hp hv).clo (qjB hc hp)).mono hle (.refl _)
theorem SR.aside (h:SR P E Γ bs ow w a st) {GE:List (Nat×List PVal)} {Γ':qa0} {bs':qbn} {ow':Nat→Option Loc} {w':World} {a':Array Value} {st':PSt} (h':SR P (asd GE Γ w) Γ' bs' ow' w' a' st'):SR P E Γ' bs ow w' a st :=
  h.world (fun _ => False) h'.step.le h'.wi h'.step.os h'.step.tape h'.step.output h'.step.size (fun b hb _ => h'.step.keep b hb id) (fun _ hx => hx.elim) (fun _ _ _ hx => hx) (fun _ _ _ hx => hx)
theorem SR.putOther (h:SR P E Γ bs ow w a st) {l:Nat} {o:Obj} (hT:¬ qbi bs ow l) (hE:E.T l∨E.w.heap.size ≤ l) (ho:∀ c t fr,w.heap[l]? ≠ some (.cells c t fr)):SR P E Γ bs ow (w.putObj l o) a st∧Γ.Le w Γ (w.putObj l o):=by
  have hg:∀ b n,Γ b = some n→b ≠ l:=fun b n hb e => by
    obtain ⟨c,t,fr,h1,_⟩:=h.wi b n hb
    exact ho c t fr (e ▸ h1)
  have hle:Γ.Le w Γ (w.putObj l o):=fun b n hb _ => ⟨n,hb,Nat.le_refl _,fun k _ => qbh (World.putObj_heap_other (hg b n hb)) k⟩
  refine ⟨h.world (fun b => b = l) hle (fun b n hb => ?_) rfl rfl rfl (by simp) (fun b _ hb => ⟨World.putObj_heap_other hb,rfl⟩) (fun b hb => hb ▸ hE) (fun i b hb e => hT (.inl ⟨i,e ▸ hb⟩)) (fun b L hL e => hT (.inr (by rw [← e,hL]; simp))),hle⟩
  obtain ⟨c,t,fr,h1,h2⟩:=h.wi b n hb
  exact ⟨c,t,fr,(World.putObj_heap_other (hg b n hb)).trans h1,h2⟩
theorem SR.rebase (h:SR P E Γ bs ow w a st):SR P ⟨E.GE,Γ,w,qbi bs ow⟩ Γ bs ow w a st :=
  { h with
    bn:=fun i b hb => .inl (.inl ⟨i,hb⟩)
    on:=fun b L hL => ⟨(h.on b L hL).1,.inl (.inr (by rw [hL]; simp))⟩
    gx:=fun g cs hg => by
      obtain ⟨k1,k2,k3,k4⟩:=h.gnow hg
      refine ⟨k1,fun hT => ?_,k4⟩
      rcases hT with ⟨i,hi⟩ | hT
      · exact k2 i g hi rfl
      · exact hT k3
    step := .refl _ _ _ _ }
theorem SR.touchE (h:SR P E Γ bs ow w a st) {b:Nat} (hb:qbi bs ow b):E.T b∨E.w.heap.size ≤ b:=by
  rcases hb with ⟨i,hi⟩ | hb
  · exact h.bn i b hi
  · cases hL:ow b with
    | none => exact absurd hL hb
    | some L => exact (h.on b L hL).2
theorem SR.unbase (h:SR P E Γ bs ow w a st) {Γ':qa0} {bs':qbn} {ow':Nat→Option Loc} {w':World} {a':Array Value} {st':PSt} (h':SR P ⟨E.GE,Γ,w,qbi bs ow⟩ Γ' bs' ow' w' a' st'):SR P E Γ' bs' ow' w' a' st':=by
  have hT:∀ b,qbi bs ow b∨w.heap.size ≤ b→E.T b∨E.w.heap.size ≤ b:=fun b hb => hb.elim h.touchE fun hb => .inr (Nat.le_trans h.step.size hb)
  exact { h' with
    bn:=fun i b hb => hT b (h'.bn i b hb)
    on:=fun b L hL => ⟨(h'.on b L hL).1,hT b (h'.on b L hL).2⟩
    gx:=h.gx
    step:={
      os:=h'.step.os.trans h.step.os
      tape:=h'.step.tape.trans h.step.tape
      output:=h'.step.output.trans h.step.output
      size:=Nat.le_trans h.step.size h'.step.size
      keep:=fun b hb hTb => by
        have hlt:b < w.heap.size:=Nat.lt_of_lt_of_le hb h.step.size
        have hn:¬ qbi bs ow b:=fun hx => (h.touchE hx).elim hTb fun hx => absurd hx (Nat.not_le.2 hb)
        obtain ⟨k1,k2⟩:=h'.step.keep b hlt hn
        obtain ⟨q1,q2⟩:=h.step.keep b hb hTb
        exact ⟨k1.trans q1,k2.trans q2⟩
      le:=h.step.le.trans h'.step.le } }
theorem Sat.on {m:Nat} {c:Code} {Q:Exit→PSt→Prop} (hS:Sat P E.GE m c Q st) (hm:m ≠ 0) (h:SR P E Γ bs ow w a st) (hl:m % 1000 ≤ bs.length) (ro:Option Nat) (ds:List Deferred) :
    cwp ro P c (fun e a' w' => a'.defers = ds∧∃ Γ' bs' ow' st',SR P E Γ' bs' ow' w' a'.tmps st'∧Q e st'∧(∀ i:Nat,i < m % 1000→bs'[i]? = bs[i]?)∧Γ.Le w Γ' w'∧w.heap.size ≤ w'.heap.size ∧
      ∀ b,b < w.heap.size→¬ qbi bs ow b→w'.heap[b]? = w.heap[b]?∧¬ qbi bs' ow' b) ⟨a,ds⟩ w:=by
  have hE:EGood E.GE m ⟨E.GE,Γ,w,qbi bs ow⟩:={
    ge:=rfl
    low:=fun b n hb => h.lt_of_ghost hb
    nt:=fun h0 => absurd h0 hm
    gl:=h.base.gl }
  have hlen:(bs.take (m % 1000)).length = m % 1000:=by simp; omega
  refine qke (hS ro ⟨E.GE,Γ,w,qbi bs ow⟩ (bs.take (m % 1000)) ⟨a,ds⟩ w hE hlen ⟨Γ,bs,ow,h.rebase,fun i hi => ?_⟩) fun e a' w' hq => ?_
  · rw [List.getElem?_take_of_lt (by omega)]
  obtain ⟨hd,st',⟨Γ',bs',ow',h',hk⟩,hQ⟩:=hq
  refine ⟨hd,Γ',bs',ow',st',h.unbase h',hQ,fun i hi => ?_,h'.step.le,h'.step.size,fun b hb hT => ⟨(h'.step.keep b hb hT).1,fun hx => ?_⟩⟩
  · rw [hk i (by omega),List.getElem?_take_of_lt hi]
  · exact (h'.touchE hx).elim hT fun hx => absurd hx (Nat.not_le.2 hb)
theorem Sat.wide {GE:List (Nat×List PVal)} {c:Code} {Q:Exit→PSt→Prop} {st0:PSt} (hS:Sat P GE 0 c Q st0) (hB:Base GE Γ w) {ow:Nat→Option Loc} {bs:qbn} (h:SR P (asd GE Γ w) Γ bs ow w a st0) (n:Nat) (ds:List Deferred) :
    c.wpIn Fence.wide n P (fun e a' w' => a'.defers = ds∧∃ Γ' bs' ow' st',SR P (asd GE Γ w) Γ' bs' ow' w' a'.tmps st'∧Q e st') ⟨a,ds⟩ w :=
  wpIn_wide.2 (wp_mono (hS none (asd GE Γ w) [] ⟨a,ds⟩ w hB.good rfl ⟨Γ,bs,ow,h,fun i hi => absurd hi (Nat.not_lt_zero _)⟩) fun e a' w' hq => by
    obtain ⟨hd,st',⟨Γ',bs',ow',h',_⟩,hQ⟩:=hq
    exact ⟨hd,Γ',bs',ow',st',h',hQ⟩)
theorem Sat.wideE {GE:List (Nat×List PVal)} {c:Code} {Q:Exit→PSt→Prop} (hS:Sat P GE 0 c Q st) (hE:EGood GE 0 E) (h:SR P E Γ bs ow w a st) (n:Nat) (ds:List Deferred) :
    c.wpIn Fence.wide n P (fun e a' w' => a'.defers = ds∧∃ Γ' bs' ow' st',SR P E Γ' bs' ow' w' a'.tmps st'∧Q e st') ⟨a,ds⟩ w :=
  wpIn_wide.2 (wp_mono (hS none E [] ⟨a,ds⟩ w hE rfl ⟨Γ,bs,ow,h,fun i hi => absurd hi (Nat.not_lt_zero _)⟩) fun e a' w' hq => by
    obtain ⟨hd,st',⟨Γ',bs',ow',h',_⟩,hQ⟩:=hq
    exact ⟨hd,Γ',bs',ow',st',h',hQ⟩)
theorem SR.allocO (h:SR P E Γ bs ow w a st) (o:Obj):SR P E Γ bs ow (w.alloc o) a st∧Γ.Le w Γ (w.alloc o):=by
  have hlt:∀ b n,Γ b = some n→b < w.heap.size:=fun b n hb => h.lt_of_ghost hb
  have hle:Γ.Le w Γ (w.alloc o):=fun b n hb _ => ⟨n,hb,Nat.le_refl _,fun k _ => qbh (qcQ w o (hlt b n hb)) k⟩
  refine ⟨h.world (fun _ => False) hle (fun b n hb => ?_) rfl rfl rfl (by simp [World.size_alloc]) (fun b hb _ => ⟨qcQ w o hb,rfl⟩) (fun _ hx => hx.elim) (fun _ _ _ hx => hx) (fun _ _ _ hx => hx),hle⟩
  obtain ⟨c,t,fr,h1,h2⟩:=h.wi b n hb
  exact ⟨c,t,fr,(qcQ w o (hlt b n hb)).trans h1,h2⟩
theorem SR.forgetT (h:SR P E Γ bs ow w a st) {tm:List PVal} (hf:fgT st.tmps tm = tm):SR P E Γ bs ow w a { st with tmps:=tm } :=
  { h with
    sz:=by rw [h.sz,← qxl (l:=st.tmps) (bs:=tm),hf]
    tm:=fun t p v hp hv => by
      rw [← hf] at hp
      rcases qw1 hp with rfl | hp'
      · exact .undef v
      · exact h.tm t p v hp' hv }
theorem SR.back (h:SR P E Γ bs ow w a st) (ho:st.own = []) {Γ':qa0} {bs':qbn} {ow':Nat→Option Loc} {w':World} {a':Array Value} {st':PSt} {H':List PBox} (h':SR P E Γ' bs' ow' w' a' st') (hle:Γ.Le w Γ' w')
    (hbs:∀ i:Nat,i < bs.length→bs'[i]? = bs[i]?) (hH:qbZ H'.length st'.boxes H') (hl:H'.length = bs.length) :
    ∃ ow'',SR P E Γ' bs ow'' w' a { st with boxes:=H' }∧∀ b,qbi bs ow'' b→qbi bs' ow' b:=by
  have hf:=h'.finish (H':=H') (v:=undef) (r := .undef) (src:=fun k => (0,k)) (ro:=[]) (.undef _) trivial hH (fun x hx => by simp at hx) (fun x hx => by simp at hx)
  have hb:bs'.take H'.length = bs:=by
    obtain ⟨h1,_⟩:=qfB hH
    have h2:H'.length ≤ bs'.length:=by rw [h'.bl]; exact h1
    refine List.ext_getElem? fun i => ?_
    by_cases hi:i < H'.length
    · rw [List.getElem?_take_of_lt hi]; exact hbs i (by omega)
    · rw [List.getElem?_take_eq_none (by omega),List.getElem?_eq_none (by omega)]
  rw [hb] at hf
  refine ⟨_,{ hf with
    sz:=h.sz
    tm:=fun t p v hp hv => (h.tm t p v hp hv).mono hle (.refl _)
    ot:=fun t k e he => by simp only [ho] at he; simp at he },fun b hb => ?_⟩
  rcases hb with ⟨i,hi⟩ | hb
  · exact .inl ⟨i,(hbs i (qae hi)).trans hi⟩
  · refine .inr fun e => hb ?_
    simp [qsI,e]
end
section
variable {P:Program} {n:Nat} {a:Act} {w:World} {next:Act→World→Prop} {Q:Exit→Act→World→Prop}
theorem qzJ {o:Oper} (hd:qd7 o = true) (h:o.wp P a w next Q):o.wpIn Fence.wide n P a w next Q:=by
  refine ⟨fun _ _ => trivial,?_⟩
  have hs:o.semAt (Fence.wide).round a.eval = execOp a.eval o:=Oper.semAt_eq _ _ _ fun c hc => by unfold qd7 at hd; rw [hc] at hd; cases hd
  rw [hs]
  unfold Oper.wp at h
  generalize (execOp a.eval o).run P w = r at *
  have hdep:(Fence.wide).depth.isSome = true→1 ≤ n:=fun h => by simp [Fence.wide] at h
  cases r with
  | ok x w' =>
    cases x <;> simp only [Oper.upon] at h <;> simp only [Oper.uponIn] <;> first
      | exact h.elim
      | exact h
      | exact ⟨hdep,callsIn_wide.2 h⟩
      | exact ⟨hdep,fun c cs _ => by
          obtain ⟨v,w',r,s⟩:=h c cs
          exact ⟨v,w',r,stepsIn_wide.2 s⟩⟩
  | halt x w' => cases x <;> simp only [Oper.upon] at h <;> simp only [Oper.uponIn] <;> exact h
theorem qAc {o:Oper} {f:Operand} {args:Array Operand} {tys:Array TypeId} (ho:o.op = .call { callee := .value f,args:=args,argTypes:=tys }) {g:FuncId} {fs cs:Array Value} (hf:a.eval f = .func (.func g) fs cs)
    (hc:∀ vs w,(callFunc g vs).run P w = .ok (.enter g vs) w) {R:Ending→World→Prop} (h:CallsIn Fence.wide (n - 1) P g (fs ++ args.map a.eval ++ cs) w R) (hR:∀ e w',R e w'→∃ v,e = .returned v∧next (a.put o.dst v) w'):o.wpIn Fence.wide n P a w next Q:=by
  refine ⟨fun _ _ => trivial,?_⟩
  have hs:o.semAt (Fence.wide).round a.eval = execOp a.eval o:=Oper.semAt_eq _ _ _ fun c hc => by rw [ho] at hc; cases hc
  have hrun:(execOp a.eval o).run P w = .ok (.enter g (fs ++ args.map a.eval ++ cs)) w:=by
    simp [execOp,ho,resolve,hf,Deferred.ofValue,invoke,hc]
  rw [hs,hrun,Oper.uponIn_enter]
  refine ⟨fun h => by simp [Fence.wide] at h,h.mono fun e w' hr => ?_⟩
  obtain ⟨v,rfl,hx⟩:=hR e w' hr
  exact hx
theorem qyD {o:Oper} {f:Operand} {args:Array Operand} {tys:Array TypeId} (ho:o.op = .call { callee := .value f,args:=args,argTypes:=tys }) {l:Nat} (hf:a.eval f = .func (.yield l) #[] #[])
    {R:Ending→World→Prop} (h:YieldAt Fence.wide (n - 1) P l (args.map a.eval) w R) (hR:∀ e w',R e w'→∃ v,e = .returned v∧next (a.put o.dst v) w'):o.wpIn Fence.wide n P a w next Q:=by
  refine ⟨fun _ _ => trivial,?_⟩
  have hs:o.semAt (Fence.wide).round a.eval = execOp a.eval o:=Oper.semAt_eq _ _ _ fun c hc => by rw [ho] at hc; cases hc
  obtain ⟨fn,tmps,assign,body,hy,hr⟩:=h
  have hrun:(execOp a.eval o).run P w = .ok (.round l fn tmps assign body) w:=by
    simp [execOp,ho,resolve,hf,Deferred.ofValue,invoke,hy]
  rw [hs,hrun,Oper.uponIn_round]
  refine ⟨fun h => by simp [Fence.wide] at h,hr.mono fun e w' hr => ?_⟩
  obtain ⟨v,rfl,hx⟩:=hR e w' hr
  exact hx
theorem qq5 {ops:Array Oper} {i:Nat} {rest:List Nat} {o:Oper} (ho:ops[i]? = some o) (hg:o.guard = none) (h:o.wpIn Fence.wide n P a w (wpOpsIn Fence.wide n P ops Q rest) Q):wpOpsIn Fence.wide n P ops Q (i :: rest) a w:=by
  unfold wpOpsIn
  simp only [ho,Region.wanted,hg,if_true]
  exact h
theorem qqR {E:Ent} {A:List Nat} {ops:Array Oper} {K:PSt→Prop} {rest:List Nat} {ds:List Deferred}
    (hK:∀ Γ bs ow a w st,SR P E Γ bs ow w a st→K st→wpOpsIn Fence.wide n P ops Q rest ⟨a,ds⟩ w) :
    ∀ (L:List Oper) (is:List Nat) (Γ:qa0) (bs:qbn) (ow:Nat→Option Loc) (a:Array Value) (w:World) (st:PSt),is.map (fun i => ops[i]?) = L.map some →
      (∀ o ∈ L,o.guard = none∧qd7 o = true∧qai o.op = false)→SR P E Γ bs ow w a st→qb4 P E.GE A ops K L 0 st→wpOpsIn Fence.wide n P ops Q (is ++ rest) ⟨a,ds⟩ w
  | [],[],Γ,bs,ow,a,w,st,_,_,h,hp => hK Γ bs ow a w st h hp
  | o :: L,i :: is,Γ,bs,ow,a,w,st,hi,hg,h,hp => by
    obtain ⟨g1,g2,g3⟩:=hg o (by simp)
    unfold qb4 at hp
    simp only [g1] at hp
    simp only [List.map_cons,List.cons.injEq] at hi
    refine qq5 hi.1 g1 (qzJ g2 (Oper.wp_mono (fun a' w' hA => ?_) (qrK (a:=⟨a,ds⟩) h (fun hm => by rw [g3] at hm; cases hm) hp Q)))
    obtain ⟨hd,Γ',bs',ow',st',h1,h2,_⟩:=hA
    obtain ⟨a1,ds1⟩:=a'
    simp only at hd h1
    subst hd
    refine qqR (A:=A) hK L is Γ' bs' ow' a1 w' st' hi.2 (fun o ho => hg o (List.mem_cons_of_mem _ ho)) h1 ?_
    rw [g3] at h2
    exact h2
end
end Go.Proofs.YtgldgpdhblndkaaGreatDoor
namespace Go.Proofs.YtgldgpdhblndkaaGreatDoor
open Go
set_option linter.unusedVariables false
set_option maxRecDepth 100000
def opsA:Code→Array Oper
  | .region _ ops _ => ops
  | _ => #[]
def idA:Code→Nat
  | .region id _ _ => id
  | _ => 0
def opA (c:Code) (i:Nat):Oper:=(opsA c)[i]?.getD default
def tysA (o:Oper):Array TypeId:=match o.op with
  | .call c => c.argTypes
  | _ => #[]
def qwh (o:Oper):Bool:=o.guard.isNone && qd7 o && !qai o.op
theorem qtl {L:List Oper} (h:L.all qwh = true):∀ o ∈ L,o.guard = none∧qd7 o = true∧qai o.op = false:=fun o ho => by
  have:=List.all_eq_true.1 h o ho
  simpa [qwh,and_assoc] using this
theorem qje {P:Program} {GE:List (Nat×List PVal)} {A:List Nat} {ops:Array Oper} {K K':PSt→Prop} (hK:∀ st,K st→K' st):∀ (L:List Oper) (id:Nat) (st:PSt),qb4 P GE A ops K L id st→qb4 P GE A ops K' L id st
  | [],_,st,h => hK st h
  | o :: L,id,st,h => by
    unfold qb4 at h ⊢
    split at h
    · exact qpe (fun st hx => qje hK L _ st hx) h
    · split at h
      · exact ⟨fun hx => qpe (fun st hx => qje hK L _ st hx) (h.1 hx),fun hx => qje hK L _ _ (h.2 hx)⟩
      · exact h
theorem fzW {P:Program} {m:Nat} {sc:List It} {F:Prop} {st st0:PSt} (h:PS sc F) (he:F = fzK m sc st (fun _ st' => FG st' st0)):Weak P m st st0:=by
  obtain ⟨_,st',hw,hf⟩:=qx7 (P:=P) (Eq.mp he h)
  exact hw.trans hf.weak
theorem Sat.thenW {P:Program} {GE:List (Nat×List PVal)} {m:Nat} {c:Code} {e:Exit} {st0 st1 st2:PSt} (h:Sat P GE m c (EX e st1) st0) (hw:Weak P m st1 st2):Sat P GE m c (EX e st2) st0 :=
  h.mono fun e' st' hx => ⟨st2,hx.2 ▸ hw,hx.1,rfl⟩
theorem qs7 {P:Program} {GE:List (Nat×List PVal)} {A:List Nat} {ops:Array Oper} {L:List Oper} {st st0:PSt} {sc:List It} {F:Prop} (h:PS sc F) (he:F = qxh P GE A ops (fun _ st => FG st st0) L 0 0 sc st):qb4 P GE A ops (fun st => FG st st0) L 0 st :=
  qje (fun st ⟨_,hx⟩ => hx) L 0 st (qoi L 0 0 sc st (Eq.mp he h))
theorem FG.sr {P:Program} {E:Ent} {Γ:qa0} {bs:qbn} {ow:Nat→Option Loc} {w:World} {a:Array Value} {st st0:PSt} (h:SR P E Γ bs ow w a st) (hf:FG st st0):∃ Γ' bs' ow',SR P E Γ' bs' ow' w a st0:=by
  obtain ⟨Γ',bs',ow',h',_⟩:=(hf.weak (P:=P) (m:=0)) E [] ⟨a,[]⟩ w rfl ⟨Γ,bs,ow,h,fun i hi => absurd hi (Nat.not_lt_zero _)⟩
  exact ⟨Γ',bs',ow',h'⟩
structure Yd (P:Program) (GE:List (Nat×List PVal)) (l:Nat) {S α:Type} (c:α→List PVal) (step:S→α→Option (Bool×S)) (J:Bool→S→qa0→World→Prop):Prop where
  base:∀ b s Γ w,J b s Γ w→Base GE Γ w
  side:∀ b s Γ w,J b s Γ w→∀ Γ' bs' ow' w' a' st',SR P (asd GE Γ w) Γ' bs' ow' w' a' st'→J b s Γ' w'
  yield:∀ s Γ w x v n r,J true s Γ w→VR Γ [] w (.agg (c x)) v→step s x = some r→YieldAt Fence.wide n P l #[v] w fun e w' => ∃ Γ',e = .returned (.bool r.1)∧Γ.Le w Γ' w'∧J r.1 r.2 Γ' w'
section
variable {S:Type} (step:S→tPred→Option (Bool×S))
mutual
def visP:tPred→S→Option (Bool×S)
  | ⟨o,n,k,ks⟩,s => (step s ⟨o,n,k,ks⟩).bind fun r => match r.1 with
    | false => some (false,r.2)
    | true => if ks.length < 4611686018427387904 then visL ks r.2 else none
def visL:List tPred→S→Option (Bool×S)
  | [],s => some (true,s)
  | p :: ps,s => (visP p s).bind fun r => match r.1 with
    | false => some (false,r.2)
    | true => visL ps r.2
end
theorem qB2 (p:tPred) (s:S):visP step p s = (step s p).bind fun r => match r.1 with
    | false => some (false,r.2)
    | true => if p.Kids.length < 4611686018427387904 then visL step p.Kids r.2 else none:=by
  obtain ⟨o,n,k,ks⟩:=p
  rw [visP]; rfl
end
abbrev fV:Nat:=150
noncomputable def bV:Code:=Tryz.f150.body.getD .skip
noncomputable abbrev vR0:Code:=qev bV [false]
noncomputable abbrev vR1:Code:=qev bV [true,false,false]
noncomputable abbrev vR2:Code:=qev bV [true,false,true,false,false]
noncomputable abbrev vR3:Code:=qev bV [true,true,false,false]
noncomputable abbrev vL:Code:=qev bV [true,true,false,true,false,false]
noncomputable abbrev vR4:Code:=qev bV [true,true,false,true,false,false,false]
noncomputable abbrev vR5:Code:=qev bV [true,true,false,true,false,false,true,true,false,false,false]
noncomputable abbrev vR6:Code:=qev bV [true,true,false,true,false,false,true,true,false,false,true,false]
noncomputable abbrev vR7:Code:=qev bV [true,true,false,true,false,false,true,true,false,false,true,true,false,false]
noncomputable abbrev vR8:Code:=qev bV [true,true,false,true,false,false,true,true,true]
noncomputable abbrev vR9:Code:=qev bV [true,true,true,false]
theorem qDc:bV = .seq vR0 (.seq (.seq vR1 (.cond (.tmp 10) (.seq vR2 .ret) .skip)) (.seq (.seq vR3 (.block 0 (.loop vL))) (.seq vR9 .ret))):=by kernel_rfl
theorem qDi:vL = .seq vR4 (.seq (.cond (.tmp 15) .skip (.exit 0)) (.seq (.block 1 (.seq vR5 (.seq vR6 (.cond (.tmp 21) (.seq vR7 .ret) .skip)))) vR8)):=by kernel_rfl
abbrev yv (l:Nat):PVal := .val (.func (.yield l) #[] #[])
abbrev xpr (p:tPred):List PVal:=[.int .i64 p.Op,.str p.Name,.int .i64 p.N,sl qaa p.Kids]
theorem clx (p:tPred):clL 0 (xpr p):=by have:=qab p; rwa [qam] at this
abbrev vS1 (p:tPred) (l:Nat):PSt:=stt 23 [(1,yv l),(2,.eptr (qaa p))] [.dead] []
abbrev vS3 (l:Nat) (ks:List tPred) (i:Int):PSt:=stt 23 [(1,yv l),(12,sl qaa ks),(13,.int .i64 (ks.length:Int)),(14,.int .i64 i)] [.dead] []
abbrev vS5 (l:Nat) (ks:List tPred) (i:Int) (x:tPred):PSt:=stt 23 [(1,yv l),(6,.eptr (qaa x)),(12,sl qaa ks),(13,.int .i64 (ks.length:Int)),(14,.int .i64 i)] [.dead,.dead] []
theorem v_0 (p:tPred) (l:Nat):Sat Pg GE 0 vR0 (EX .normal (vS1 p l)) (stt 23 [(0,.agg (qaa p)),(1,yv l)] [] []):=by
  have z:=sx (qan p) <| eF .normal (stt 23 [(1,yv l),(2,.bptr 0 0)] [.cells (xpr p) []] [])
  have h1:Sat Pg GE 0 vR0 (EX .normal (stt 23 [(1,yv l),(2,.bptr 0 0)] [.cells (xpr p) []] [])) (stt 23 [(0,.agg (qaa p)),(1,yv l)] [] []):=qaR (A:=[]) mixed z (by kernel_rfl)
  have z2:=sfz 0 [xpr p] [1,2] [] (fb1 (m:=0) (b:=0) rfl (xpr p) rfl) (fb2 0 (clx p)) (fb3 (l:=xpr p) (r:=xpr p) rfl) <| en (fr (stt 23 [(1,yv l),(2,.eptr (xpr p))] [.dead] []))
  have h2:=h1.thenW (st2:=stt 23 [(1,yv l),(2,.eptr (xpr p))] [.dead] []) (fzW z2 (by kernel_rfl))
  unfold vS1
  rw [qam]
  rw [qam] at h2
  exact h2
theorem v_1 (p:tPred) (l:Nat):qb4 Pg GE [] (opsA vR1) (fun st => FG st (stt 23 [(1,yv l),(2,.eptr (qaa p)),(7,yv l),(8,.agg (qaa p))] [.dead] [])) ((opsA vR1).toList.take 2) 0 (vS1 p l):=by
  have z:=sv (qaj p) <| en (fr (stt 23 [(1,yv l),(2,.eptr (qaa p)),(7,yv l),(8,.agg (qaa p))] [.dead] []))
  exact qs7 z (by kernel_rfl)
theorem v_1b (p:tPred) (l:Nat) (b:Bool):qb4 Pg GE [] (opsA vR1) (fun st => FG st (stt 23 [(1,yv l),(2,.eptr (qaa p)),(10,.bool (!b))] [.dead] [])) ((opsA vR1).toList.drop 3) 0 (stt 23 [(1,yv l),(2,.eptr (qaa p)),(7,yv l),(8,.agg (qaa p)),(9,.bool b)] [.dead] []):=by
  have z:=en (fr (stt 23 [(1,yv l),(2,.eptr (qaa p)),(10,.bool (!b))] [.dead] []))
  exact qs7 z (by kernel_rfl)
abbrev vE (H:List PBox) (b:Bool):PSt:=stt 23 [(4,.bool b)] H []
theorem v_2 (p:tPred) (l:Nat):Sat Pg GE 0 (.seq vR2 .ret) (EX .ret (vE [.dead] false)) (stt 23 [(1,yv l),(2,.eptr (qaa p)),(10,.bool true)] [.dead] []):=by
  have z:=eF .ret (vE [.dead] false)
  exact qaR (A:=[]) mixed z (by kernel_rfl)
theorem v_3 (p:tPred) (l:Nat):Sat Pg GE 0 vR3 (EX .normal (vS3 l p.Kids 0)) (stt 23 [(1,yv l),(2,.eptr (qaa p)),(10,.bool false)] [.dead] []):=by
  have z:=sv (qas p) <| sv (qar p) <| svn (sT29.ln p.Kids) <| eF .normal (vS3 l p.Kids 0)
  exact qaR (A:=[]) mixed z (by kernel_rfl)
abbrev vS4 (l:Nat) (ks:List tPred) (i:Int):PSt:=stt 23 [(1,yv l),(12,sl qaa ks),(13,.int .i64 (ks.length:Int)),(14,.int .i64 i),(15,.bool (decide (i < (ks.length:Int))))] [.dead] []
theorem v_4 (l:Nat) (ks:List tPred) (i:Int):Sat Pg GE 0 vR4 (EX .normal (vS4 l ks i)) (vS3 l ks i):=by
  have z:=eF .normal (vS4 l ks i)
  exact qaR (A:=[]) mixed z (by kernel_rfl)
theorem v_5 (l:Nat) (ks:List tPred) (i:Int) (x:tPred) (hx:idx ks i = some x):Sat Pg GE 0 vR5 (EX .normal (vS5 l ks i x)) (vS4 l ks i):=by
  have z:=sv (sT29.ia (k := .i64) hx) <| sv (qaj x) <| sx pz31 <| sx (qan x) <| eF .normal (stt 23 [(1,yv l),(6,.bptr 1 0),(12,sl qaa ks),(13,.int .i64 (ks.length:Int)),(14,.int .i64 i)] [.dead,.cells (xpr x) []] [])
  have h1:Sat Pg GE 0 vR5 (EX .normal (stt 23 [(1,yv l),(6,.bptr 1 0),(12,sl qaa ks),(13,.int .i64 (ks.length:Int)),(14,.int .i64 i)] [.dead,.cells (xpr x) []] [])) (vS4 l ks i):=qaR (A:=[]) mixed z (by kernel_rfl)
  have z2:=sfz 1 [xpr x] [1,6,12,13,14] [] (fb1 (m:=0) (b:=1) rfl (xpr x) rfl) (fb2 1 (clx x)) (fb3 (l:=xpr x) (r:=xpr x) rfl) <| sf (nof 1 (p:=sl qaa ks) (qad qab ks)) <| en (fr (stt 23 [(1,yv l),(6,.eptr (xpr x)),(12,sl qaa ks),(13,.int .i64 (ks.length:Int)),(14,.int .i64 i)] [.dead,.dead] []))
  have h2:=h1.thenW (st2:=stt 23 [(1,yv l),(6,.eptr (xpr x)),(12,sl qaa ks),(13,.int .i64 (ks.length:Int)),(14,.int .i64 i)] [.dead,.dead] []) (fzW z2 (by kernel_rfl))
  unfold vS5
  rw [qam]
  exact h2
theorem v_6 (l:Nat) (ks:List tPred) (i:Int) (x:tPred):qb4 Pg GE [] (opsA vR6) (fun st => FG st (stt 23 [(1,yv l),(12,sl qaa ks),(13,.int .i64 (ks.length:Int)),(14,.int .i64 i),(18,.agg (qaa x)),(19,yv l)] [.dead,.dead] [])) ((opsA vR6).toList.take 2) 0 (vS5 l ks i x):=by
  have z:=sv (qaj x) <| en (fr (stt 23 [(1,yv l),(12,sl qaa ks),(13,.int .i64 (ks.length:Int)),(14,.int .i64 i),(18,.agg (qaa x)),(19,yv l)] [.dead,.dead] []))
  exact qs7 z (by kernel_rfl)
abbrev vS6 (l:Nat) (ks:List tPred) (i:Int) (x:tPred) (b:Bool):PSt:=stt 23 [(1,yv l),(12,sl qaa ks),(13,.int .i64 (ks.length:Int)),(14,.int .i64 i),(18,.agg (qaa x)),(19,yv l),(20,.bool b)] [.dead,.dead] []
abbrev vS7 (l:Nat) (ks:List tPred) (i:Int) (b:Bool):PSt:=stt 23 [(1,yv l),(12,sl qaa ks),(13,.int .i64 (ks.length:Int)),(14,.int .i64 i),(21,.bool (!b))] [.dead,.dead] []
theorem v_6b (l:Nat) (ks:List tPred) (i:Int) (x:tPred) (b:Bool):qb4 Pg GE [] (opsA vR6) (fun st => FG st (vS7 l ks i b)) ((opsA vR6).toList.drop 3) 0 (vS6 l ks i x b):=by
  have z:=en (fr (vS7 l ks i b))
  exact qs7 z (by kernel_rfl)
theorem v_7 (l:Nat) (ks:List tPred) (i:Int):Sat Pg GE 0 (.seq vR7 .ret) (EX .ret (vE [.dead,.dead] false)) (vS7 l ks i false):=by
  have z:=eF .ret (vE [.dead,.dead] false)
  exact qaR (A:=[]) mixed z (by kernel_rfl)
theorem v_8 (l:Nat) (ks:List tPred) (i:Int):Sat Pg GE 0 vR8 (EX .normal (⟨(vS3 l ks (w64 (i + 1))).tmps,[.dead,.dead],[]⟩)) (vS7 l ks i true):=by
  have z:=eF .normal (⟨(vS3 l ks (w64 (i + 1))).tmps,[.dead,.dead],[]⟩)
  exact qaR (A:=[]) mixed z (by kernel_rfl)
theorem v_9 (l:Nat) (ks:List tPred) (i:Int):Sat Pg GE 0 (.seq vR9 .ret) (EX .ret (vE [.dead] true)) (vS4 l ks i):=by
  have z:=eF .ret (vE [.dead] true)
  exact qaR (A:=[]) mixed z (by kernel_rfl)
end Go.Proofs.YtgldgpdhblndkaaGreatDoor
namespace Go.Proofs.YtgldgpdhblndkaaGreatDoor
open Go
theorem qsR {n:Int} (h1 : -9223372036854775808 ≤ n) (h2:n < 9223372036854775808):w64 n = n:=qCX h1 h2
theorem qcO {α:Type} (l:List α) (i:Nat) (h:i < l.length):idx l (i:Int) = some l[i]:=by
  unfold idx
  rw [if_pos (by omega)]
  simp [h]
theorem qxU {α:Type} {l r:List α} (h:l.length + r.length ≤ 1073741824):app l r = some (l ++ r):=if_pos h
def runL {α σ X:Type} (f:Nat→α→σ→σ⊕X) (e:σ→X):List α→Nat→σ→X
  | [],_,s => e s
  | x :: r,i,s => match f i x s with
    | .inl s' => runL f e r (i + 1) s'
    | .inr y => y
theorem qqC {α σ τ X:Type} (l:List α) (hl:l.length < 9223372036854775808) (mk:Int→σ→τ) (body:τ→Option (τ⊕X)) (I:Nat→σ→Prop) (f:Nat→α→σ→σ⊕X) (e:σ→X)
    (hin:∀ (i:Nat) (h:i < l.length) s,I i s→body (mk i s) = some (match f i l[i] s with | .inl s' => .inl (mk (w64 ((i:Int) + 1)) s') | .inr y => .inr y)∧∀ s',f i l[i] s = .inl s'→I (i + 1) s')
    (hend:∀ s,I l.length s→body (mk l.length s) = some (.inr (e s))):∀ (i:Nat) (s:σ),i ≤ l.length→I i s→loop body (mk i s) = some (runL f e (l.drop i) i s):=by
  intro i s hi hI
  obtain ⟨k,hk⟩:∃ k,k + i = l.length:=⟨l.length - i,by omega⟩
  induction k generalizing i s with
  | zero =>
    have:i = l.length:=by omega
    subst this
    rw [qlP,hend s hI,List.drop_length]
    rfl
  | succ k ih =>
    have hlt:i < l.length:=by omega
    obtain ⟨h1,h2⟩:=hin i hlt s hI
    rw [qlP,h1,List.drop_eq_getElem_cons hlt]
    unfold runL
    cases hf:f i l[i] s with
    | inl s' =>
      simp only
      rw [qsR (by omega) (by omega)]
      have:=ih (i + 1) s' (by omega) (h2 s' hf) (by omega)
      rw [show ((i:Int) + 1) = ((i + 1:Nat):Int) by omega]
      exact this
    | inr y => rfl
theorem qx0 {α X:Type} (p:α→Bool) (y e:X):∀ (l:List α) (i:Nat),runL (fun _ x (_:Unit) => if p x = true then Sum.inr y else .inl ()) (fun _ => e) l i () = if l.any p = true then y else e
  | [],i => by simp [runL]
  | x :: l,i => by
    have ih:=qx0 p y e l (i + 1)
    unfold runL
    by_cases h:p x = true
    · simp [h]
    · simp only [h,if_false,ih,List.any_cons,Bool.false_or,Bool.false_eq_true]
theorem qx3 {α X:Type} (l:List α) (hl:l.length < 9223372036854775808) (body:Int→Option (Int⊕X)) (p:α→Bool) (y e:X)
    (hin:∀ (i:Nat) (h:i < l.length),body i = some (if p l[i] = true then .inr y else .inl (w64 ((i:Int) + 1)))) (hend:body l.length = some (.inr e)) (i:Nat) (hi:i ≤ l.length) :
    loop body (i:Int) = some (if (l.drop i).any p = true then y else e):=by
  have:=qqC l hl (fun i (_:Unit) => i) body (fun _ _ => True) (fun _ x _ => if p x = true then Sum.inr y else .inl ()) (fun _ => e) (fun i h s _ => ⟨?_,fun _ _ => trivial⟩) (fun s _ => hend) i () hi trivial
  · rw [this,qx0]
  · rw [hin i h]
    by_cases hp:p l[i] = true <;> simp [hp]
theorem qwG {α X:Type} (p:α→Bool) (y:Nat→X) (e:X):∀ (l:List α) (i:Nat),runL (fun j x (_:Unit) => if p x = true then Sum.inr (y j) else .inl ()) (fun _ => e) l i () = match l.findIdx? p with | some j => y (i + j) | none => e
  | [],i => by simp [runL]
  | x :: l,i => by
    have ih:=qwG p y e l (i + 1)
    unfold runL
    rw [List.findIdx?_cons]
    by_cases h:p x = true
    · simp [h]
    · simp only [h,if_false,ih,Bool.false_eq_true]
      cases l.findIdx? p with
      | none => rfl
      | some j => simp only [Option.map_some]; congr 1; omega
theorem qvx {α X:Type} (l:List α) (hl:l.length < 9223372036854775808) (body:Int→Option (Int⊕X)) (p:α→Bool) (y:Nat→X) (e:X)
    (hin:∀ (i:Nat) (h:i < l.length),body i = some (if p l[i] = true then .inr (y i) else .inl (w64 ((i:Int) + 1)))) (hend:body l.length = some (.inr e)) :
    loop body (0:Int) = some (match l.findIdx? p with | some j => y j | none => e):=by
  have:=qqC l hl (fun i (_:Unit) => i) body (fun _ _ => True) (fun j x _ => if p x = true then Sum.inr (y j) else .inl ()) (fun _ => e) (fun i h s _ => ⟨?_,fun _ _ => trivial⟩) (fun s _ => hend) 0 () (Nat.zero_le _) trivial
  · simp only [Int.ofNat_zero,List.drop_zero] at this
    have this2:=qwG p y e l 0
    simp only [Nat.zero_add] at this2
    rw [← this2]
    exact this
  · rw [hin i h]
    by_cases hp:p l[i] = true <;> simp [hp]
end Go.Proofs.YtgldgpdhblndkaaGreatDoor
