/- PROVED: a part of the proof. Conditions: none. -/
import Derived.Test.YtggeppllafbidaaGreatDoorPkB9
import Derived.RangeFuncRecord
import Derived.RangeFuncSeq
import Derived.Test.YtggeppllafbidaaGreatDoorPkB8
import Derived.Test.YtggeppllafbidaaGreatDoorProg
import Derived.Ground.SlgnProg
import Derived.Shelf.Lays
import Derived.Shelf.LaysM
import Derived.Shelf.SlGeneric
import Derived.Shelf.SlLaysE0
import Derived.Shelf.Strconv.Itoa3
import Derived.Shelf.Sort.Plain
import Derived.Shelf.Slices.In.CompactS
import Derived.Shelf.Slices.In.SortNone
noncomputable section
namespace Go.Proofs.YtggeppllafbidaaGreatDoor
open Go
set_option linter.unusedVariables false
abbrev BH(GE:List (Nat×List PVal))(Γ:aK)(w:World):ma:=⟨GE,Γ,w,fun _=>False⟩
structure Du(GE:List (Nat×List PVal))(Γ:aK)(w:World):Prop where
 wi:∀b n,Γ b=some n->∃c t fr,w.heap[b]? =some (.cells c t fr)/\n<=c.size
 gl:∀g cs,(g,cs)∈GE->VR Γ [] w (.eptr cs) (.pointer (some ⟨g,0,none⟩))
 gc:∀g cs,(g,cs)∈GE->hX 0 cs
 gx:∀g cs,(g,cs)∈GE->g<w.heap.size/\∃c t fr,w.heap[g]? =some (.cells c t fr)/\c.size=cs.length
theorem VR.clo{Γ:aK}{bs bs':ba}{w:World}{p:PVal}{v:Value}(h:VR Γ bs w p v)(hc:p.cl 0):VR Γ bs' w p v:=h.restrict (n:=0) hc fun i b hi _=>absurd hi (vaK _)
section
variable{P:Program}{E:ma}{Γ:aK}{bs:ba}{ow:Nat->Option iD}{w:World}{a:Array Value}{st:aq}
theorem SR.base(h:SR P E Γ bs ow w a st):Du E.GE Γ w where
 wi:=h.wi
 gl:=fun g cs hg=>(h.gl g cs hg).clo (by simp only[PVal.cl];exact h.gc g cs hg)
 gc:=h.gc
 gx:=fun g cs hg=>⟨(h.gnow hg).1,(h.gnow hg).2.2.2⟩
theorem Du.good{GE:List (Nat×List PVal)}(hB:Du GE Γ w):xw GE 0 (BH GE Γ w) where
 ge:=rfl
 low:=fun b n h=>by obtain⟨c,t,fr,h1,_⟩:=hB.wi b n h;exact(vam.1 h1).1
 nt:=fun _ _ hb=>hb
 gl:=hB.gl
theorem Du.fresh{GE:List (Nat×List PVal)}(hB:Du GE Γ w)(k:Nat){tmps:List PVal}(hs:a.size=tmps.length)(hv:∀(t:Nat) p v,tmps[t]? =some p->a[t]? =some v->VR Γ [] w p v):SR P (BH GE Γ w) Γ (List.replicate k none) (fun _=>none) w a ⟨tmps,List.replicate k .dead,[]⟩:=by
 have hno:∀(i b:Nat),(List.replicate k (none:Option Nat))[i]? =some (some b)->False:=fun i b h=>by
  rw[vaH]at h
  split at h<;>simp at h
 exact{
  wi:=hB.wi
  sz:=hs
  tm:=fun t p v hp hv'=>(hv t p v hp hv').mono (.refl _ _) (fun i b h=>by simp at h)
  bl:=by simp
  bx:=fun i b B hb=>(hno i b hb).elim
  inj:=fun i j b hb=>(hno i b hb).elim
  bn:=fun i b hb=>(hno i b hb).elim
  on:=fun b L hL=>by cases hL
  ot:=fun t k e he=>by simp at he
  ob:=fun i j e cs own b _ _ hb=>(hno i b hb).elim
  gl:=fun g cs hg=>(hB.gl g cs hg).mono (.refl _ _) (fun i b h=>by simp at h)
  gc:=hB.gc
  gx:=fun g cs hg=>⟨(hB.gx g cs hg).1,fun h=>h,(hB.gx g cs hg).2⟩
  step:=.refl _ _ _ _}
theorem SR.again(h:SR P E Γ bs ow w a st)(hc:hX 0 st.tmps){GE:List (Nat×List PVal)}{Γ':aK}{w':World}(hB:Du GE Γ' w')(hle:Γ.Le w Γ' w')(k:Nat):SR P (BH GE Γ' w') Γ' (List.replicate k none) (fun _=>none) w' a ⟨st.tmps,List.replicate k .dead,[]⟩:=
 hB.fresh k h.sz fun t p v hp hv=>((h.tm t p v hp hv).clo (kg hc hp)).mono hle (.refl _)
theorem SR.aside(h:SR P E Γ bs ow w a st){GE:List (Nat×List PVal)}{Γ':aK}{bs':ba}{ow':Nat->Option iD}{w':World}{a':Array Value}{st':aq}(h':SR P (BH GE Γ w) Γ' bs' ow' w' a' st'):SR P E Γ' bs ow w' a st:=
 h.world (fun _=>False) h'.step.le h'.wi h'.step.os h'.step.tape h'.step.output h'.step.size (fun b hb _=>h'.step.keep b hb id) (fun _ hx=>hx.elim) (fun _ _ _ hx=>hx) (fun _ _ _ hx=>hx)
theorem SR.putOther(h:SR P E Γ bs ow w a st){l:Nat}{o:Obj}(hT:¬bJ bs ow l)(hE:E.T l\/E.w.heap.size<=l)(ho:∀c t fr,w.heap[l]? ≠some (.cells c t fr)):SR P E Γ bs ow (w.putObj l o) a st/\Γ.Le w Γ (w.putObj l o):=by
 have hg:∀b n,Γ b=some n->b≠l:=fun b n hb e=>by
  obtain⟨c,t,fr,h1,_⟩:=h.wi b n hb
  exact ho c t fr (e▸h1)
 have hle:Γ.Le w Γ (w.putObj l o):=fun b n hb _=>⟨n,hb,vaq _,fun k _=>bH (World.putObj_heap_other (hg b n hb)) k⟩
 refine⟨h.world (fun b=>b=l) hle (fun b n hb=>?_) rfl rfl rfl (by simp) (fun b _ hb=>⟨World.putObj_heap_other hb,rfl⟩) (fun b hb=>hb▸hE) (fun i b hb e=>hT (.inl ⟨i,e▸hb⟩)) (fun b L hL e=>hT (.inr (by rw[<-e,hL];simp))),hle⟩
 obtain⟨c,t,fr,h1,h2⟩:=h.wi b n hb
 exact⟨c,t,fr,(World.putObj_heap_other (hg b n hb)).trans h1,h2⟩
theorem SR.rebase(h:SR P E Γ bs ow w a st):SR P ⟨E.GE,Γ,w,bJ bs ow⟩ Γ bs ow w a st:=
 { h with
  bn:=fun i b hb=>.inl (.inl ⟨i,hb⟩)
  on:=fun b L hL=>⟨(h.on b L hL).1,.inl (.inr (by rw[hL];simp))⟩
  gx:=fun g cs hg=>by
   obtain⟨k1,k2,k3,k4⟩:=h.gnow hg
   refine⟨k1,fun hT=>?_,k4⟩
   rcases hT with⟨i,hi⟩|hT
   ·exact k2 i g hi rfl
   ·exact hT k3
  step:=.refl _ _ _ _}
theorem SR.touchE(h:SR P E Γ bs ow w a st){b:Nat}(hb:bJ bs ow b):E.T b\/E.w.heap.size<=b:=by
 rcases hb with⟨i,hi⟩|hb
 ·exact h.bn i b hi
 ·cases hL:ow b with
  |none=>exact absurd hL hb
  |some L=>exact(h.on b L hL).2
theorem SR.unbase(h:SR P E Γ bs ow w a st){Γ':aK}{bs':ba}{ow':Nat->Option iD}{w':World}{a':Array Value}{st':aq}(h':SR P ⟨E.GE,Γ,w,bJ bs ow⟩ Γ' bs' ow' w' a' st'):SR P E Γ' bs' ow' w' a' st':=by
 have hT:∀b,bJ bs ow b\/w.heap.size<=b->E.T b\/E.w.heap.size<=b:=fun b hb=>hb.elim h.touchE fun hb=>.inr (vaI h.step.size hb)
 exact{h' with
  bn:=fun i b hb=>hT b (h'.bn i b hb)
  on:=fun b L hL=>⟨(h'.on b L hL).1,hT b (h'.on b L hL).2⟩
  gx:=h.gx
  step:={
   os:=h'.step.os.trans h.step.os
   tape:=h'.step.tape.trans h.step.tape
   output:=h'.step.output.trans h.step.output
   size:=vaI h.step.size h'.step.size
   keep:=fun b hb hTb=>by
    have hlt:b<w.heap.size:=vay hb h.step.size
    have hn:¬bJ bs ow b:=fun hx=>(h.touchE hx).elim hTb fun hx=>absurd hx (vb3.2 hb)
    obtain⟨k1,k2⟩:=h'.step.keep b hlt hn
    obtain⟨q1,q2⟩:=h.step.keep b hb hTb
    exact⟨k1.trans q1,k2.trans q2⟩
   le:=h.step.le.trans h'.step.le}}
theorem aC.on{m:Nat}{c:Code}{Q:Exit->aq->Prop}(hS:aC P E.GE m c Q st)(hm:m≠0)(h:SR P E Γ bs ow w a st)(hl:m % 1000<=bs.length)(ro:Option Nat)(ds:List Deferred):Eg ro P c (fun e a' w'=>a'.defers=ds/\∃Γ' bs' ow' st',SR P E Γ' bs' ow' w' a'.tmps st'/\Q e st'/\(∀i:Nat,i<m % 1000->bs'[i]? =bs[i]?)/\Γ.Le w Γ' w'/\w.heap.size<=w'.heap.size/\
   ∀b,b<w.heap.size->¬bJ bs ow b->w'.heap[b]? =w.heap[b]?/\¬bJ bs' ow' b) ⟨a,ds⟩ w:=by
 have hE:xw E.GE m ⟨E.GE,Γ,w,bJ bs ow⟩:={
  ge:=rfl
  low:=fun b n hb=>h.lt_of_ghost hb
  nt:=fun h0=>absurd h0 hm
  gl:=h.base.gl}
 have hlen:(bs.take (m % 1000)).length=m % 1000:=by simp;omega
 refine lS (hS ro ⟨E.GE,Γ,w,bJ bs ow⟩ (bs.take (m % 1000)) ⟨a,ds⟩ w hE hlen ⟨Γ,bs,ow,h.rebase,fun i hi=>?_⟩) fun e a' w' hq=>?_
 ·rw[vak (by omega)]
 obtain⟨hd,st',⟨Γ',bs',ow',h',hk⟩,hQ⟩:=hq
 refine⟨hd,Γ',bs',ow',st',h.unbase h',hQ,fun i hi=>?_,h'.step.le,h'.step.size,fun b hb hT=>⟨(h'.step.keep b hb hT).1,fun hx=>?_⟩⟩
 ·rw[hk i (by omega),vak hi]
 ·exact(h'.touchE hx).elim hT fun hx=>absurd hx (vb3.2 hb)
theorem aC.wide{GE:List (Nat×List PVal)}{c:Code}{Q:Exit->aq->Prop}{st0:aq}(hS:aC P GE 0 c Q st0)(hB:Du GE Γ w){ow:Nat->Option iD}{bs:ba}(h:SR P (BH GE Γ w) Γ bs ow w a st0)(n:Nat)(ds:List Deferred):c.wpIn Fence.wide n P (fun e a' w'=>a'.defers=ds/\∃Γ' bs' ow' st',SR P (BH GE Γ w) Γ' bs' ow' w' a'.tmps st'/\Q e st') ⟨a,ds⟩ w:=
 wpIn_wide.2 (wp_mono (hS none (BH GE Γ w) [] ⟨a,ds⟩ w hB.good rfl ⟨Γ,bs,ow,h,fun i hi=>absurd hi (vaK _)⟩) fun e a' w' hq=>by
  obtain⟨hd,st',⟨Γ',bs',ow',h',_⟩,hQ⟩:=hq
  exact⟨hd,Γ',bs',ow',st',h',hQ⟩)
theorem aC.wideE{GE:List (Nat×List PVal)}{c:Code}{Q:Exit->aq->Prop}(hS:aC P GE 0 c Q st)(hE:xw GE 0 E)(h:SR P E Γ bs ow w a st)(n:Nat)(ds:List Deferred):c.wpIn Fence.wide n P (fun e a' w'=>a'.defers=ds/\∃Γ' bs' ow' st',SR P E Γ' bs' ow' w' a'.tmps st'/\Q e st') ⟨a,ds⟩ w:=
 wpIn_wide.2 (wp_mono (hS none E [] ⟨a,ds⟩ w hE rfl ⟨Γ,bs,ow,h,fun i hi=>absurd hi (vaK _)⟩) fun e a' w' hq=>by
  obtain⟨hd,st',⟨Γ',bs',ow',h',_⟩,hQ⟩:=hq
  exact⟨hd,Γ',bs',ow',st',h',hQ⟩)
theorem SR.allocO(h:SR P E Γ bs ow w a st)(o:Obj):SR P E Γ bs ow (w.alloc o) a st/\Γ.Le w Γ (w.alloc o):=by
 have hlt:∀b n,Γ b=some n->b<w.heap.size:=fun b n hb=>h.lt_of_ghost hb
 have hle:Γ.Le w Γ (w.alloc o):=fun b n hb _=>⟨n,hb,vaq _,fun k _=>bH (cK w o (hlt b n hb)) k⟩
 refine⟨h.world (fun _=>False) hle (fun b n hb=>?_) rfl rfl rfl (by simp[World.size_alloc]) (fun b hb _=>⟨cK w o hb,rfl⟩) (fun _ hx=>hx.elim) (fun _ _ _ hx=>hx) (fun _ _ _ hx=>hx),hle⟩
 obtain⟨c,t,fr,h1,h2⟩:=h.wi b n hb
 exact⟨c,t,fr,(cK w o (hlt b n hb)).trans h1,h2⟩
theorem SR.forgetT(h:SR P E Γ bs ow w a st){tm:List PVal}(hf:A2 st.tmps tm=tm):SR P E Γ bs ow w a {st with tmps:=tm}:=
 { h with
  sz:=by rw[h.sz,<-E9 (l:=st.tmps) (bs:=tm),hf]
  tm:=fun t p v hp hv=>by
   rw[<-hf]at hp
   rcases E8 hp with rfl|hp'
   ·exact .undef v
   ·exact h.tm t p v hp' hv}
theorem SR.back(h:SR P E Γ bs ow w a st)(ho:st.own=[]){Γ':aK}{bs':ba}{ow':Nat->Option iD}{w':World}{a':Array Value}{st':aq}{H':List aw}(h':SR P E Γ' bs' ow' w' a' st')(hle:Γ.Le w Γ' w')
  (hbs:∀i:Nat,i<bs.length->bs'[i]? =bs[i]?) (hH:dW H'.length st'.boxes H') (hl:H'.length=bs.length):
  ∃ow'',SR P E Γ' bs ow'' w' a {st with boxes:=H'}/\∀b,bJ bs ow'' b->bJ bs' ow' b:=by
 have hf:=h'.finish (H':=H') (v:=undef) (r:=.undef) (src:=fun k=>(0,k)) (ro:=[]) (.undef _) trivial hH (fun x hx=>by simp at hx) (fun x hx=>by simp at hx)
 have hb:bs'.take H'.length=bs:=by
  obtain⟨h1,_⟩:=lI hH
  have h2:H'.length<=bs'.length:=by rw[h'.bl];exact h1
  refine va5 fun i=>?_
  by_cases hi:i<H'.length
  ·rw[vak hi];exact hbs i (by omega)
  ·rw[List.getElem?_take_eq_none (by omega),vax (by omega)]
 rw[hb]at hf
 refine⟨_,{hf with
  sz:=h.sz
  tm:=fun t p v hp hv=>(h.tm t p v hp hv).mono hle (.refl _)
  ot:=fun t k e he=>by simp only[ho]at he;simp at he},fun b hb=>?_⟩
 rcases hb with⟨i,hi⟩|hb
 ·exact .inl ⟨i,(hbs i (aj hi)).trans hi⟩
 ·refine .inr fun e=>hb ?_
  simp[xM,e]
end
section
variable{P:Program}{n:Nat}{a:Act}{w:World}{jh:Act->World->Prop}{Q:Exit->Act->World->Prop}
theorem I6{o:Oper}(hd:dZ o=true)(h:o.wp P a w jh Q):o.wpIn Fence.wide n P a w jh Q:=by
 refine⟨fun _ _=>trivial,?_⟩
 have hs:o.semAt (Fence.wide).round a.eval=execOp a.eval o:=Oper.semAt_eq _ _ _ fun c hc=>by unfold dZ at hd;rw[hc]at hd;cases hd
 rw[hs]
 unfold Oper.wp at h
 generalize (execOp a.eval o).run P w=r at *
 have hdep:(Fence.wide).depth.isSome=true->1<=n:=fun h=>by simp[Fence.wide]at h
 cases r with
 | ok x w' =>
  cases x<;>simp only[Oper.upon]at h<;>simp only[Oper.uponIn]<;>first
   |exact h.elim
   |exact h
   |exact⟨hdep,callsIn_wide.2 h⟩
   | exact ⟨hdep,fun c cs _ => by
     obtain⟨v,w',r,s⟩:=h c cs
     exact⟨v,w',r,stepsIn_wide.2 s⟩⟩
 |halt x w'=>cases x<;>simp only[Oper.upon]at h<;>simp only[Oper.uponIn]<;>exact h
theorem IC{o:Oper}{f:Operand}{args:Array Operand}{tys:Array TypeId}(ho:o.op=.call {callee:=.value f,args:=args,argTypes:=tys}){g:FuncId}{fs cs:Array Value}(hf:a.eval f=.func (.func g) fs cs)
  (hc:∀vs w,(callFunc g vs).run P w=.ok (.enter g vs) w) {R:Ending->World->Prop} (h:CallsIn Fence.wide (n - 1) P g (fs++args.map a.eval++cs) w R) (hR:∀e w',R e w'->∃v,e=.returned v/\jh (a.put o.dst v) w'):o.wpIn Fence.wide n P a w jh Q:=by
 refine⟨fun _ _=>trivial,?_⟩
 have hs:o.semAt (Fence.wide).round a.eval=execOp a.eval o:=Oper.semAt_eq _ _ _ fun c hc=>by rw[ho]at hc;cases hc
 have hrun:(execOp a.eval o).run P w=.ok (.enter g (fs++args.map a.eval++cs)) w:=by
  simp[execOp,ho,resolve,hf,Deferred.ofValue,invoke,hc]
 rw[hs,hrun,Oper.uponIn_enter]
 refine⟨fun h=>by simp[Fence.wide]at h,h.mono fun e w' hr=>?_⟩
 obtain⟨v,rfl,hx⟩:=hR e w' hr
 exact hx
theorem HM{o:Oper}{f:Operand}{args:Array Operand}{tys:Array TypeId}(ho:o.op=.call {callee:=.value f,args:=args,argTypes:=tys}){l:Nat}(hf:a.eval f=.func (.yield l) #[] #[])
  {R:Ending->World->Prop} (h:YieldAt Fence.wide (n - 1) P l (args.map a.eval) w R) (hR:∀e w',R e w'->∃v,e=.returned v/\jh (a.put o.dst v) w'):o.wpIn Fence.wide n P a w jh Q:=by
 refine⟨fun _ _=>trivial,?_⟩
 have hs:o.semAt (Fence.wide).round a.eval=execOp a.eval o:=Oper.semAt_eq _ _ _ fun c hc=>by rw[ho]at hc;cases hc
 obtain⟨fn,tmps,assign,body,hy,hr⟩:=h
 have hrun:(execOp a.eval o).run P w=.ok (.round l fn tmps assign body) w:=by
  simp[execOp,ho,resolve,hf,Deferred.ofValue,invoke,hy]
 rw[hs,hrun,Oper.uponIn_round]
 refine⟨fun h=>by simp[Fence.wide]at h,hr.mono fun e w' hr=>?_⟩
 obtain⟨v,rfl,hx⟩:=hR e w' hr
 exact hx
theorem wQ{ops:Array Oper}{i:Nat}{rest:List Nat}{o:Oper}(ho:ops[i]? =some o)(hg:o.guard=none)(h:o.wpIn Fence.wide n P a w (wpOpsIn Fence.wide n P ops Q rest) Q):wpOpsIn Fence.wide n P ops Q (i::rest) a w:=by
 unfold wpOpsIn
 simp only[ho,Region.wanted,hg,if_true]
 exact h
theorem uE{E:ma}{A:List Nat}{ops:Array Oper}{K:aq->Prop}{rest:List Nat}{ds:List Deferred}
  (hK:∀Γ bs ow a w st,SR P E Γ bs ow w a st->K st->wpOpsIn Fence.wide n P ops Q rest ⟨a,ds⟩ w):
  ∀(L:List Oper) (is:List Nat) (Γ:aK) (bs:ba) (ow:Nat->Option iD) (a:Array Value) (w:World) (st:aq),is.map (fun i=>ops[i]?)=L.map some->
   (∀o∈L,o.guard=none/\dZ o=true/\au o.op=false)->SR P E Γ bs ow w a st->cr P E.GE A ops K L 0 st->wpOpsIn Fence.wide n P ops Q (is++rest) ⟨a,ds⟩ w
 |[],[],Γ,bs,ow,a,w,st,_,_,h,hp=>hK Γ bs ow a w st h hp
 |o::L,i::is,Γ,bs,ow,a,w,st,hi,hg,h,hp=>by
  obtain⟨g1,g2,g3⟩:=hg o (by simp)
  unfold cr at hp
  simp only[g1]at hp
  simp only[vaQ,vbl]at hi
  refine wQ hi.1 g1 (I6 g2 (Oper.wp_mono (fun a' w' hA=>?_) (yL (a:=⟨a,ds⟩) h (fun hm=>by rw[g3]at hm;cases hm) hp Q)))
  obtain⟨hd,Γ',bs',ow',st',h1,h2,_⟩:=hA
  obtain⟨a1,ds1⟩:=a'
  simp only at hd h1
  subst hd
  refine uE (A:=A) hK L is Γ' bs' ow' a1 w' st' hi.2 (fun o ho=>hg o (vaM _ ho)) h1 ?_
  rw[g3]at h2
  exact h2
end
open Go Go.Proofs.Tryz
set_option maxRecDepth 100000
def ji:Code->Array Oper
 |.region _ ops _=>ops
 |_=>#[]
def Ox:Code->Nat
 |.region id _ _=>id
 |_=>0
def Ig(c:Code)(i:Nat):Oper:=(ji c)[i]?.getD default
def M0(o:Oper):Array TypeId:=match o.op with
 |.call c=>c.argTypes
 |_=>#[]
def CN(o:Oper):Bool:=o.guard.isNone&&dZ o&&!au o.op
theorem zL{L:List Oper}(h:L.all CN=true):∀o∈L,o.guard=none/\dZ o=true/\au o.op=false:=fun o ho=>by
 have:=vau.1 h o ho
 simpa[CN,and_assoc]using this
theorem lL{P:Program}{GE:List (Nat×List PVal)}{A:List Nat}{ops:Array Oper}{K K':aq->Prop}(hK:∀st,K st->K' st):∀(L:List Oper) (id:Nat) (st:aq),cr P GE A ops K L id st->cr P GE A ops K' L id st
 |[],_,st,h=>hK st h
 | o :: L,id,st,h => by
  unfold cr at h ⊢
  split at h
  ·exact tV (fun st hx=>lL hK L _ st hx) h
  ·split at h
   ·exact⟨fun hx=>tV (fun st hx=>lL hK L _ st hx) (h.1 hx),fun hx=>lL hK L _ _ (h.2 hx)⟩
   ·exact h
theorem PP{P:Program}{m:Nat}{sc:List It}{F:Prop}{st st0:aq}(h:PS sc F)(he:F=Jr m sc st (fun _ st'=>FG st' st0)):mO P m st st0:=by
 obtain⟨_,st',hw,hf⟩:=Fa (P:=P) (Eq.mp he h)
 exact hw.trans hf.weak
theorem aC.thenW{P:Program}{GE:List (Nat×List PVal)}{m:Nat}{c:Code}{e:Exit}{st0 st1 st2:aq}(h:aC P GE m c (EX e st1) st0)(hw:mO P m st1 st2):aC P GE m c (EX e st2) st0:=
 h.mono fun e' st' hx=>⟨st2,hx.2▸hw,hx.1,rfl⟩
theorem yk{P:Program}{GE:List (Nat×List PVal)}{A:List Nat}{ops:Array Oper}{L:List Oper}{st st0:aq}{sc:List It}{F:Prop}(h:PS sc F)(he:F=Cd P GE A ops (fun _ st=>FG st st0) L 0 0 sc st):cr P GE A ops (fun st=>FG st st0) L 0 st:=
 lL (fun st ⟨_,hx⟩=>hx) L 0 st (rl L 0 0 sc st (Eq.mp he h))
theorem FG.sr{P:Program}{E:ma}{Γ:aK}{bs:ba}{ow:Nat->Option iD}{w:World}{a:Array Value}{st st0:aq}(h:SR P E Γ bs ow w a st)(hf:FG st st0):∃Γ' bs' ow',SR P E Γ' bs' ow' w a st0:=by
 obtain⟨Γ',bs',ow',h',_⟩:=(hf.weak (P:=P) (m:=0)) E [] ⟨a,[]⟩ w rfl ⟨Γ,bs,ow,h,fun i hi=>absurd hi (vaK _)⟩
 exact⟨Γ',bs',ow',h'⟩
structure Yd(P:Program)(GE:List (Nat×List PVal))(l:Nat){S α:Type}(c:α->List PVal)(step:S->α->Option (Bool×S))(J:Bool->S->aK->World->Prop):Prop where
 base:∀b s Γ w,J b s Γ w->Du GE Γ w
 side:∀b s Γ w,J b s Γ w->∀Γ' bs' ow' w' a' st',SR P (BH GE Γ w) Γ' bs' ow' w' a' st'->J b s Γ' w'
 yield:∀s Γ w x v n r,J true s Γ w->VR Γ [] w (.agg (c x)) v->step s x=some r->YieldAt Fence.wide n P l #[v] w fun e w'=>∃Γ',e=.returned (.bool r.1)/\Γ.Le w Γ' w'/\J r.1 r.2 Γ' w'
section
variable{S:Type}(step:S->aa->Option (Bool×S))
mutual
def GS:aa->S->Option (Bool×S)
 |⟨o,n,k,ks⟩,s=>(step s ⟨o,n,k,ks⟩).bind fun r=>match r.1 with
  |false=>some (false,r.2)
  |true=>if ks.length<4611686018427387904 then Jp ks r.2 else none
def Jp:List aa->S->Option (Bool×S)
 |[],s=>some (true,s)
 |p::ps,s=>(GS p s).bind fun r=>match r.1 with
  |false=>some (false,r.2)
  |true=>Jp ps r.2
end
theorem LP(p:aa)(s:S):GS step p s=(step s p).bind fun r=>match r.1 with
  |false=>some (false,r.2)
  |true=>if p.Kids.length<4611686018427387904 then Jp step p.Kids r.2 else none:=by
 obtain⟨o,n,k,ks⟩:=p
 rw[GS];rfl
end
abbrev fV:Nat:=130
noncomputable def bV:Code:=f130.body.getD .skip
abbrev Pl:Code:=cT bV [false]
abbrev LN:Code:=cT bV [true,false,false]
abbrev P0:Code:=cT bV [true,false,true,false,false]
abbrev P1:Code:=cT bV [true,true,false,false]
abbrev vL:Code:=cT bV [true,true,false,true,false,false]
abbrev P2:Code:=cT bV [true,true,false,true,false,false,false]
abbrev Pm:Code:=cT bV [true,true,false,true,false,false,true,true,false,false,false]
abbrev LO:Code:=cT bV [true,true,false,true,false,false,true,true,false,false,true,false]
abbrev P3:Code:=cT bV [true,true,false,true,false,false,true,true,false,false,true,true,false,false]
abbrev P4:Code:=cT bV [true,true,false,true,false,false,true,true,true]
abbrev P5:Code:=cT bV [true,true,true,false]
theorem NL:bV=.seq Pl (.seq (.seq LN (.cond (.tmp 10) (.seq P0 .ret) .skip)) (.seq (.seq P1 (.block 0 (.loop vL))) (.seq P5 .ret))):=by kernel_rfl
theorem Od:vL=.seq P2 (.seq (.cond (.tmp 15) .skip (.exit 0)) (.seq (.block 1 (.seq Pm (.seq LO (.cond (.tmp 21) (.seq P3 .ret) .skip)))) P4)):=by kernel_rfl
abbrev yv(l:Nat):PVal:=.val (.func (.yield l) #[] #[])
abbrev FC(p:aa):List PVal:=[.int .i64 p.Op,.str p.Name,.int .i64 p.N,sl ac p.Kids]
theorem PJ(p:aa):hX 0 (FC p):=by have:=ag p;rwa[ax]at this
abbrev Pn(p:aa)(l:Nat):aq:=aP 23 [(1,yv l),(2,.eptr (ac p))] [.dead] []
abbrev Md(l:Nat)(ks:List aa)(i:Int):aq:=aP 23 [(1,yv l),(12,sl ac ks),(13,.int .i64 (ks.length:Int)),(14,.int .i64 i)] [.dead] []
abbrev Po(l:Nat)(ks:List aa)(i:Int)(x:aa):aq:=aP 23 [(1,yv l),(6,.eptr (ac x)),(12,sl ac ks),(13,.int .i64 (ks.length:Int)),(14,.int .i64 i)] [.dead,.dead] []
theorem QX(p:aa)(l:Nat):aC Pg GE 0 Pl (EX .normal (Pn p l)) (aP 23 [(0,.agg (ac p)),(1,yv l)] [] []):=by
 have z:=sx (aW p)<|eF .normal (aP 23 [(1,yv l),(2,.bptr 0 0)] [.cells (FC p) []] [])
 have h1:aC Pg GE 0 Pl (EX .normal (aP 23 [(1,yv l),(2,.bptr 0 0)] [.cells (FC p) []] [])) (aP 23 [(0,.agg (ac p)),(1,yv l)] [] []):=dH (A:=[]) mixed z (by kernel_rfl)
 have z2:=Pe 0 [FC p] [1,2] [] (PM (m:=0) (b:=0) rfl (FC p) rfl) (PN 0 (PJ p)) (PO (l:=FC p) (r:=FC p) rfl)<|en (fr (aP 23 [(1,yv l),(2,.eptr (FC p))] [.dead] []))
 have h2:=h1.thenW (st2:=aP 23 [(1,yv l),(2,.eptr (FC p))] [.dead] []) (PP z2 (by kernel_rfl))
 unfold Pn
 rw[ax]
 rw[ax]at h2
 exact h2
theorem QY(p:aa)(l:Nat):cr Pg GE [] (ji LN) (fun st=>FG st (aP 23 [(1,yv l),(2,.eptr (ac p)),(7,yv l),(8,.agg (ac p))] [.dead] [])) ((ji LN).toList.take 2) 0 (Pn p l):=by
 have z:=sv (aB p)<|en (fr (aP 23 [(1,yv l),(2,.eptr (ac p)),(7,yv l),(8,.agg (ac p))] [.dead] []))
 exact yk z (by kernel_rfl)
theorem Pp(p:aa)(l:Nat)(b:Bool):cr Pg GE [] (ji LN) (fun st=>FG st (aP 23 [(1,yv l),(2,.eptr (ac p)),(10,.bool (!b))] [.dead] [])) ((ji LN).toList.drop 3) 0 (aP 23 [(1,yv l),(2,.eptr (ac p)),(7,yv l),(8,.agg (ac p)),(9,.bool b)] [.dead] []):=by
 have z:=en (fr (aP 23 [(1,yv l),(2,.eptr (ac p)),(10,.bool (!b))] [.dead] []))
 exact yk z (by kernel_rfl)
abbrev vE(H:List aw)(b:Bool):aq:=aP 23 [(4,.bool b)] H []
theorem QZ(p:aa)(l:Nat):aC Pg GE 0 (.seq P0 .ret) (EX .ret (vE [.dead] false)) (aP 23 [(1,yv l),(2,.eptr (ac p)),(10,.bool true)] [.dead] []):=by
 have z:=eF .ret (vE [.dead] false)
 exact dH (A:=[]) mixed z (by kernel_rfl)
theorem Q0(p:aa)(l:Nat):aC Pg GE 0 P1 (EX .normal (Md l p.Kids 0)) (aP 23 [(1,yv l),(2,.eptr (ac p)),(10,.bool false)] [.dead] []):=by
 have z:=sv (ay p)<|sv (az p)<|cx (aQ.ln p.Kids)<|eF .normal (Md l p.Kids 0)
 exact dH (A:=[]) mixed z (by kernel_rfl)
abbrev Ng(l:Nat)(ks:List aa)(i:Int):aq:=aP 23 [(1,yv l),(12,sl ac ks),(13,.int .i64 (ks.length:Int)),(14,.int .i64 i),(15,.bool (decide (i<(ks.length:Int))))] [.dead] []
theorem Q1(l:Nat)(ks:List aa)(i:Int):aC Pg GE 0 P2 (EX .normal (Ng l ks i)) (Md l ks i):=by
 have z:=eF .normal (Ng l ks i)
 exact dH (A:=[]) mixed z (by kernel_rfl)
theorem Q2(l:Nat)(ks:List aa)(i:Int)(x:aa)(hx:eh ks i=some x):aC Pg GE 0 Pm (EX .normal (Po l ks i x)) (Ng l ks i):=by
 have z:=sv (aQ.ia (k:=.i64) hx)<|sv (aB x)<|sx dB<|sx (aW x)<|eF .normal (aP 23 [(1,yv l),(6,.bptr 1 0),(12,sl ac ks),(13,.int .i64 (ks.length:Int)),(14,.int .i64 i)] [.dead,.cells (FC x) []] [])
 have h1:aC Pg GE 0 Pm (EX .normal (aP 23 [(1,yv l),(6,.bptr 1 0),(12,sl ac ks),(13,.int .i64 (ks.length:Int)),(14,.int .i64 i)] [.dead,.cells (FC x) []] [])) (Ng l ks i):=dH (A:=[]) mixed z (by kernel_rfl)
 have z2:=Pe 1 [FC x] [1,6,12,13,14] [] (PM (m:=0) (b:=1) rfl (FC x) rfl) (PN 1 (PJ x)) (PO (l:=FC x) (r:=FC x) rfl)<|sf (Js 1 (p:=sl ac ks) (ak ag ks))<|en (fr (aP 23 [(1,yv l),(6,.eptr (FC x)),(12,sl ac ks),(13,.int .i64 (ks.length:Int)),(14,.int .i64 i)] [.dead,.dead] []))
 have h2:=h1.thenW (st2:=aP 23 [(1,yv l),(6,.eptr (FC x)),(12,sl ac ks),(13,.int .i64 (ks.length:Int)),(14,.int .i64 i)] [.dead,.dead] []) (PP z2 (by kernel_rfl))
 unfold Po
 rw[ax]
 exact h2
theorem Q3(l:Nat)(ks:List aa)(i:Int)(x:aa):cr Pg GE [] (ji LO) (fun st=>FG st (aP 23 [(1,yv l),(12,sl ac ks),(13,.int .i64 (ks.length:Int)),(14,.int .i64 i),(18,.agg (ac x)),(19,yv l)] [.dead,.dead] [])) ((ji LO).toList.take 2) 0 (Po l ks i x):=by
 have z:=sv (aB x)<|en (fr (aP 23 [(1,yv l),(12,sl ac ks),(13,.int .i64 (ks.length:Int)),(14,.int .i64 i),(18,.agg (ac x)),(19,yv l)] [.dead,.dead] []))
 exact yk z (by kernel_rfl)
abbrev P6(l:Nat)(ks:List aa)(i:Int)(x:aa)(b:Bool):aq:=aP 23 [(1,yv l),(12,sl ac ks),(13,.int .i64 (ks.length:Int)),(14,.int .i64 i),(18,.agg (ac x)),(19,yv l),(20,.bool b)] [.dead,.dead] []
abbrev Og(l:Nat)(ks:List aa)(i:Int)(b:Bool):aq:=aP 23 [(1,yv l),(12,sl ac ks),(13,.int .i64 (ks.length:Int)),(14,.int .i64 i),(21,.bool (!b))] [.dead,.dead] []
theorem Pq(l:Nat)(ks:List aa)(i:Int)(x:aa)(b:Bool):cr Pg GE [] (ji LO) (fun st=>FG st (Og l ks i b)) ((ji LO).toList.drop 3) 0 (P6 l ks i x b):=by
 have z:=en (fr (Og l ks i b))
 exact yk z (by kernel_rfl)
theorem Q4(l:Nat)(ks:List aa)(i:Int):aC Pg GE 0 (.seq P3 .ret) (EX .ret (vE [.dead,.dead] false)) (Og l ks i false):=by
 have z:=eF .ret (vE [.dead,.dead] false)
 exact dH (A:=[]) mixed z (by kernel_rfl)
theorem Q5(l:Nat)(ks:List aa)(i:Int):aC Pg GE 0 P4 (EX .normal (⟨(Md l ks (cf (i+1))).tmps,[.dead,.dead],[]⟩)) (Og l ks i true):=by
 have z:=eF .normal (⟨(Md l ks (cf (i+1))).tmps,[.dead,.dead],[]⟩)
 exact dH (A:=[]) mixed z (by kernel_rfl)
theorem Q6(l:Nat)(ks:List aa)(i:Int):aC Pg GE 0 (.seq P5 .ret) (EX .ret (vE [.dead] true)) (Ng l ks i):=by
 have z:=eF .ret (vE [.dead] true)
 exact dH (A:=[]) mixed z (by kernel_rfl)
theorem Ah{n:Int}(h1: -9223372036854775808<=n)(h2:n<9223372036854775808):cf n=n:=M4 h1 h2
theorem dX{α:Type}(l:List α)(i:Nat)(h:i<l.length):eh l (i:Int)=some l[i]:=by
 unfold eh
 rw[var (by omega)]
 simp[h]
theorem G1{α:Type}{l r:List α}(h:l.length+r.length<=1073741824):app l r=some (l++r):=var h
def ud{α σ X:Type}(f:Nat->α->σ->σ⊕X)(e:σ->X):List α->Nat->σ->X
 |[],_,s=>e s
 |x::r,i,s=>match f i x s with
  |.inl s'=>ud f e r (i+1) s'
  |.inr y=>y
theorem tC{α σ τ X:Type}(l:List α)(hl:l.length<9223372036854775808)(mk:Int->σ->τ)(body:τ->Option (τ⊕X))(I:Nat->σ->Prop)(f:Nat->α->σ->σ⊕X)(e:σ->X)
  (hin:∀(i:Nat) (h:i<l.length) s,I i s->body (mk i s)=some (match f i l[i] s with|.inl s'=>.inl (mk (cf ((i:Int)+1)) s')|.inr y=>.inr y)/\∀s',f i l[i] s=.inl s'->I (i+1) s')
  (hend:∀s,I l.length s->body (mk l.length s)=some (.inr (e s))):∀(i:Nat) (s:σ),i<=l.length->I i s->loop body (mk i s)=some (ud f e (l.drop i) i s):=by
 intro i s hi hI
 obtain⟨k,hk⟩:∃k,k+i=l.length:=⟨l.length - i,by omega⟩
 induction k generalizing i s with
 |zero=>
  have:i=l.length:=by omega
  subst this
  rw[uC,hend s hI,vcA]
  rfl
 | succ k ih =>
  have hlt:i<l.length:=by omega
  obtain⟨h1,h2⟩:=hin i hlt s hI
  rw[uC,h1,vbb hlt]
  unfold ud
  cases hf:f i l[i] s with
  |inl s'=>
   simp only
   rw[Ah (by omega) (by omega)]
   have:=ih (i+1) s' (by omega) (h2 s' hf) (by omega)
   rw[show((i:Int)+1)=((i+1:Nat):Int) by omega]
   exact this
  |inr y=>rfl
theorem GK{α X:Type}(p:α->Bool)(y e:X):∀(l:List α) (i:Nat),ud (fun _ x (_:Unit)=>if p x=true then Sum.inr y else .inl ()) (fun _=>e) l i ()=if l.any p=true then y else e
 |[],i=>by simp[ud]
 | x :: l,i => by
  have ih:=GK p y e l (i+1)
  unfold ud
  by_cases h:p x=true
  ·simp[h]
  ·simp only[h,if_false,ih,List.any_cons,Bool.false_or,va9]
theorem Gj{α X:Type}(l:List α)(hl:l.length<9223372036854775808)(body:Int->Option (Int⊕X))(p:α->Bool)(y e:X)
  (hin:∀(i:Nat) (h:i<l.length),body i=some (if p l[i]=true then .inr y else .inl (cf ((i:Int)+1)))) (hend:body l.length=some (.inr e)) (i:Nat) (hi:i<=l.length):
  loop body (i:Int)=some (if(l.drop i).any p=true then y else e):=by
 have:=tC l hl (fun i (_:Unit)=>i) body (fun _ _=>True) (fun _ x _=>if p x=true then Sum.inr y else .inl ()) (fun _=>e) (fun i h s _=>⟨?_,fun _ _=>trivial⟩) (fun s _=>hend) i () hi trivial
 ·rw[this,GK]
 ·rw[hin i h]
  by_cases hp:p l[i]=true<;>simp[hp]
theorem EC{α X:Type}(p:α->Bool)(y:Nat->X)(e:X):∀(l:List α) (i:Nat),ud (fun j x (_:Unit)=>if p x=true then Sum.inr (y j)else .inl ()) (fun _=>e) l i ()=match l.findIdx? p with|some j=>y (i+j)|none=>e
 |[],i=>by simp[ud]
 | x :: l,i => by
  have ih:=EC p y e l (i+1)
  unfold ud
  rw[vcv]
  by_cases h:p x=true
  ·simp[h]
  ·simp only[h,if_false,ih,va9]
   cases l.findIdx? p with
   |none=>rfl
   |some j=>simp only[vad];congr 1;omega
theorem Eo{α X:Type}(l:List α)(hl:l.length<9223372036854775808)(body:Int->Option (Int⊕X))(p:α->Bool)(y:Nat->X)(e:X)
  (hin:∀(i:Nat) (h:i<l.length),body i=some (if p l[i]=true then .inr (y i)else .inl (cf ((i:Int)+1)))) (hend:body l.length=some (.inr e)):
  loop body (0:Int)=some (match l.findIdx? p with|some j=>y j|none=>e):=by
 have:=tC l hl (fun i (_:Unit)=>i) body (fun _ _=>True) (fun j x _=>if p x=true then Sum.inr (y j)else .inl ()) (fun _=>e) (fun i h s _=>⟨?_,fun _ _=>trivial⟩) (fun s _=>hend) 0 () (vaL _) trivial
 ·simp only[Int.ofNat_zero,vby]at this
  have this2:=EC p y e l 0
  simp only[vaB]at this2
  rw[<-this2]
  exact this
 ·rw[hin i h]
  by_cases hp:p l[i]=true<;>simp[hp]
def VF{S:Type}(J:Bool->S->aK->World->Prop)(Γ0:aK)(w0:World)(b:Bool)(s:S)(st:aq)(a:Array Value)(w:World):Prop:=∃Γ,J b s Γ w/\Γ0.Le w0 Γ w/\∃E bs ow,SR Pg E Γ bs ow w a st
structure Dd(st:aq)(k:Nat):Prop where
 c:hX 0 st.tmps
 b:st.boxes=List.replicate k .dead
 o:st.own=[]
structure R4(c:Code):Prop where
 eq:c=.region (Ox c) (ji c) false
 rg:List.range (ji c).size=[0,1]++2::([3]++[])
 p1:[0,1].map (fun i=>(ji c)[i]?)=((ji c).toList.take 2).map some
 p2:((ji c).toList.take 2).all CN=true
 o:(ji c)[2]? =some (Ig c 2)
 g:(Ig c 2).guard=none
 q1:[3].map (fun i=>(ji c)[i]?)=((ji c).toList.drop 3).map some
 q2:((ji c).toList.drop 3).all CN=true
theorem Pb:R4 LN:=⟨by kernel_rfl,by kernel_rfl,by kernel_rfl,by kernel_rfl,by kernel_rfl,by kernel_rfl,by kernel_rfl,by kernel_rfl⟩
theorem Pc:R4 LO:=⟨by kernel_rfl,by kernel_rfl,by kernel_rfl,by kernel_rfl,by kernel_rfl,by kernel_rfl,by kernel_rfl,by kernel_rfl⟩
theorem M1:(Ig LN 2).op=.call {callee:=.value (.tmp 7),args:=#[.tmp 8],argTypes:=M0 (Ig LN 2)}:=by kernel_rfl
theorem Oe:(Ig LN 2).dst=some 9:=by kernel_rfl
theorem M2:(Ig LO 2).op=.call {callee:=.value (.func fV),args:=#[.tmp 18,.tmp 19],argTypes:=M0 (Ig LO 2)}:=by kernel_rfl
theorem Of:(Ig LO 2).dst=some 20:=by kernel_rfl
section
variable{S:Type}{step:S->aa->Option (Bool×S)}{J:Bool->S->aK->World->Prop}{l:Nat}{Γ0:aK}{w0:World}{b:Bool}{s:S}{st0 st1 stA stB:aq}{k kA kB:Nat}{a:Array Value}{w:World}{n:Nat}{ds:List Deferred}
theorem VF.again(hY:Yd Pg GE l ac step J)(hD:Dd st0 k)(h:VF J Γ0 w0 b s st0 a w):∃Γ,J b s Γ w/\Γ0.Le w0 Γ w/\SR Pg (BH GE Γ w) Γ (List.replicate k none) (fun _=>none) w a st0:=by
 obtain⟨Γ,hJ,hle,E,bs,ow,hS⟩:=h
 obtain⟨tm,H,own⟩:=st0
 have hb:H=_:=hD.b
 have ho:own=[]:=hD.o
 subst hb;subst ho
 exact⟨Γ,hJ,hle,hS.again hD.c (hY.base _ _ _ _ hJ) (.refl _ _) k⟩
theorem VF.redo(hY:Yd Pg GE l ac step J)(hD:Dd st0 k)(h:VF J Γ0 w0 b s st0 a w)(k':Nat):VF J Γ0 w0 b s ⟨st0.tmps,List.replicate k' .dead,[]⟩ a w:=by
 obtain⟨Γ,hJ,hle,hS⟩:=h.again hY hD
 exact⟨Γ,hJ,hle,_,_,_,hS.again hD.c (hY.base _ _ _ _ hJ) (.refl _ _) k'⟩
theorem VF.piece(hY:Yd Pg GE l ac step J){c:Code}{e:Exit}(hS:aC Pg GE 0 c (EX e st1) st0)(hD:Dd st0 k)(h:VF J Γ0 w0 b s st0 a w):c.wpIn Fence.wide n Pg (fun e' a' w'=>e'=e/\a'.defers=ds/\VF J Γ0 w0 b s st1 a'.tmps w') ⟨a,ds⟩ w:=by
 obtain⟨Γ,hJ,hle,hR⟩:=h.again hY hD
 refine wpIn_mono (hS.wide (hY.base _ _ _ _ hJ) hR n ds) ?_
 rintro e' a' w' ⟨hd,Γ',bs',ow',st',h',rfl,rfl⟩
 exact⟨rfl,hd,Γ',hY.side _ _ _ _ hJ _ _ _ _ _ _ h',hle.trans h'.step.le,_,_,_,h'⟩
theorem VF.reg(hY:Yd Pg GE l ac step J){c:Code}(hR:R4 c)(hD:Dd st0 k)(hDB:Dd stB kB)(hpre:cr Pg GE [] (ji c) (fun st=>FG st stA) ((ji c).toList.take 2) 0 st0)(hsuf:cr Pg GE [] (ji c) (fun st=>FG st st1) ((ji c).toList.drop 3) 0 stB){r:Bool×S}
  (hcall:∀a w (jh:Act->World->Prop) (Q:Exit->Act->World->Prop),VF J Γ0 w0 b s stA a w->(∀a' w',VF J Γ0 w0 r.1 r.2 stB a' w'->jh ⟨a',ds⟩ w')->(Ig c 2).wpIn Fence.wide n Pg ⟨a,ds⟩ w jh Q)
  (h:VF J Γ0 w0 b s st0 a w):c.wpIn Fence.wide n Pg (fun e' a' w'=>e'=.normal/\a'.defers=ds/\VF J Γ0 w0 r.1 r.2 st1 a'.tmps w') ⟨a,ds⟩ w:=by
 have key:(Code.region (Ox c) (ji c) false).wpIn Fence.wide n Pg (fun e' a' w'=>e'=.normal/\a'.defers=ds/\VF J Γ0 w0 r.1 r.2 st1 a'.tmps w') ⟨a,ds⟩ w:=by
  refine wpIn_region ?_
  rw[hR.rg]
  obtain⟨Γ,hJ,hle,hS⟩:=h.again hY hD
  refine uE (A:=[]) (K:=fun st=>FG st stA) (fun Γ' bs' ow' a' w' st hS' hK=>?_) _ _ Γ _ _ a w st0 hR.p1 (zL hR.p2) hS hpre
  obtain⟨Γ2,bs2,ow2,hS2⟩:=FG.sr hS' hK
  refine wQ hR.o hR.g (hcall a' w' _ _ ⟨Γ2,hY.side _ _ _ _ hJ _ _ _ _ _ _ hS2,hle.trans hS2.step.le,_,_,_,hS2⟩ fun a3 w3 h3=>?_)
  obtain⟨Γ3,hJ3,hle3,hS3⟩:=h3.again hY hDB
  refine uE (A:=[]) (K:=fun st=>FG st st1) (fun Γ' bs' ow' a' w' st hS' hK=>?_) _ _ Γ3 _ _ a3 w3 stB hR.q1 (zL hR.q2) hS3 hsuf
  obtain⟨Γ4,bs4,ow4,hS4⟩:=FG.sr hS' hK
  exact⟨rfl,rfl,Γ4,hY.side _ _ _ _ hJ3 _ _ _ _ _ _ hS4,hle3.trans hS4.step.le,_,_,_,hS4⟩
 rw[<-hR.eq]at key
 exact key
theorem VF.ev(h:VF J Γ0 w0 b s st0 a w){t:Nat}{x:Bool}(ht:st0.tmps.getD t .undef=.bool x):(Act.mk a ds).eval (.tmp t)=.bool x:=by
 obtain⟨Γ,hJ,hle,E,bs,ow,hS⟩:=h
 have h1:=hS.opv ds (.tmp t)
 have e1:opv E.GE st0.tmps (.tmp t)=.bool x:=ht
 rw[e1]at h1
 generalize (Act.mk a ds).eval (.tmp t)=v at h1
 cases h1
 rfl
theorem VF.put(hY:Yd Pg GE l ac step J)(hD:Dd stA kA){Γ Γ':aK}{w':World}{E:ma}{bs:ba}{ow:Nat->Option iD}(hS:SR Pg E Γ bs ow w a stA)(hle:Γ0.Le w0 Γ w)(hle':Γ.Le w Γ' w'){r:Bool×S}(hJ':J r.1 r.2 Γ' w'){d:Nat}(hB:stB=⟨stA.tmps.set d (.bool r.1),List.replicate kA .dead,[]⟩):VF J Γ0 w0 r.1 r.2 stB (a.setIfInBounds d (.bool r.1)) w':=by
 have hS':=(hS.again hD.c (hY.base _ _ _ _ hJ') hle' kA).set (d:=d) (p:=.bool r.1) (v:=.bool r.1) (.bool _)
 exact⟨Γ',hJ',hle.trans hle',_,_,_,hB▸hS'⟩
theorem VF.yieldc(hY:Yd Pg GE l ac step J)(hD:Dd stA kA){p:aa}{r:Bool×S}(hr:step s p=some r){o:Oper}{f x d:Nat}{tys:Array TypeId}(h7:stA.tmps.getD f .undef=yv l)(h8:stA.tmps.getD x .undef=.agg (ac p))
  (ho:o.op=.call {callee:=.value (.tmp f),args:=#[.tmp x],argTypes:=tys}) (hd:o.dst=some d) (hB:stB=⟨stA.tmps.set d (.bool r.1),List.replicate kA .dead,[]⟩)
  {jh:Act->World->Prop} {Q:Exit->Act->World->Prop} (h:VF J Γ0 w0 true s stA a w) (hn:∀a' w',VF J Γ0 w0 r.1 r.2 stB a' w'->jh ⟨a',ds⟩ w'):o.wpIn Fence.wide n Pg ⟨a,ds⟩ w jh Q:=by
 obtain⟨Γ,hJ,hle,hS⟩:=h.again hY hD
 have h1:=hS.opv ds (.tmp f)
 have h2:=hS.opv ds (.tmp x)
 have e1:opv (BH GE Γ w).GE stA.tmps (.tmp f)=yv l:=h7
 have e2:opv (BH GE Γ w).GE stA.tmps (.tmp x)=.agg (ac p):=h8
 rw[e1]at h1;rw[e2]at h2
 have hev:(Act.mk a ds).eval (.tmp f)=.func (.yield l) #[] #[]:=by
  generalize (Act.mk a ds).eval (.tmp f)=v at h1
  cases h1;rfl
 refine HM ho hev (R:=fun e w'=>∃Γ',e=.returned (.bool r.1)/\Γ.Le w Γ' w'/\J r.1 r.2 Γ' w') ?_ ?_
 ·have:=hY.yield s Γ w p _ (n - 1) r hJ (h2.clo (by simp only[PVal.cl];exact ag p)) hr
  simpa using this
 ·rintro e w' ⟨Γ',rfl,hle',hJ'⟩
  refine⟨_,rfl,?_⟩
  rw[hd]
  exact hn _ _ (VF.put hY hD hS hle hle' hJ' hB)
def Ny(step:S->aa->Option (Bool×S))(J:Bool->S->aK->World->Prop)(l:Nat)(p:aa):Prop:=∀s r Γ w v n,GS step p s=some r->J true s Γ w->VR Γ [] w (.agg (ac p)) v->
 CallsIn Fence.wide n Pg fV #[v,.func (.yield l) #[] #[]] w fun e w'=>∃Γ',e=.returned (.bool r.1)/\Γ.Le w Γ' w'/\J r.1 r.2 Γ' w'
theorem VF.visitc(hY:Yd Pg GE l ac step J)(hD:Dd stA kA){p:aa}(hp:Ny step J l p){r:Bool×S}(hr:GS step p s=some r){o:Oper}{x y d:Nat}{tys:Array TypeId}(h7:stA.tmps.getD y .undef=yv l)(h8:stA.tmps.getD x .undef=.agg (ac p))
  (ho:o.op=.call {callee:=.value (.func fV),args:=#[.tmp x,.tmp y],argTypes:=tys}) (hd:o.dst=some d) (hB:stB=⟨stA.tmps.set d (.bool r.1),List.replicate kA .dead,[]⟩)
  {jh:Act->World->Prop} {Q:Exit->Act->World->Prop} (h:VF J Γ0 w0 true s stA a w) (hn:∀a' w',VF J Γ0 w0 r.1 r.2 stB a' w'->jh ⟨a',ds⟩ w'):o.wpIn Fence.wide n Pg ⟨a,ds⟩ w jh Q:=by
 obtain⟨Γ,hJ,hle,hS⟩:=h.again hY hD
 have h1:=hS.opv ds (.tmp y)
 have h2:=hS.opv ds (.tmp x)
 have e1:opv (BH GE Γ w).GE stA.tmps (.tmp y)=yv l:=h7
 have e2:opv (BH GE Γ w).GE stA.tmps (.tmp x)=.agg (ac p):=h8
 rw[e1]at h1;rw[e2]at h2
 have hev:(Act.mk a ds).eval (.tmp y)=.func (.yield l) #[] #[]:=by
  generalize (Act.mk a ds).eval (.tmp y)=v at h1
  cases h1;rfl
 refine IC ho (g:=fV) (fs:=#[]) (cs:=#[]) rfl call130 (R:=fun e w'=>∃Γ',e=.returned (.bool r.1)/\Γ.Le w Γ' w'/\J r.1 r.2 Γ' w') ?_ ?_
 ·have:=hp s r Γ w _ (n - 1) hr hJ (h2.clo (by simp only[PVal.cl];exact ag p))
  simpa[hev]using this
 ·rintro e w' ⟨Γ',rfl,hle',hJ'⟩
  refine⟨_,rfl,?_⟩
  rw[hd]
  exact hn _ _ (VF.put hY hD hS hle hle' hJ' hB)
theorem VF.fin{x:Bool}{H:List aw}(h:VF J Γ0 w0 b s (vE H x) a w):(results f130 a).run Pg w=.ok (.bool x) w:=by
 obtain⟨Γ,hJ,hle,E,bs,ow,hS⟩:=h
 obtain⟨v,h1,h2,_⟩:=qy hS (fn:=f130) (r:=.bool x) (by kernel_rfl)
 cases h2
 exact h1
theorem IL{N:Nat}{L:List (Nat×PVal)}(h:ME 0 L)(k:Nat){H:List aw}(hH:H=List.replicate k .dead):Dd (aP N L H []) k:=⟨bS h,hH,rfl⟩
theorem IG(ks:List aa):(sl ac ks).cl 0:=ak ag ks
theorem LZ(l:Nat)(ks:List aa)(i:Int):Dd (Md l ks i) 1:=IL (by exact aI trivial<|aI (IG ks)<|aI trivial<|aI trivial trivial) 1 rfl
theorem L0(l:Nat)(ks:List aa)(i:Int):Dd (Ng l ks i) 1:=IL (by exact aI trivial<|aI (IG ks)<|aI trivial<|aI trivial<|aI trivial trivial) 1 rfl
theorem L1(l:Nat)(ks:List aa)(i:Int)(b:Bool):Dd (Og l ks i b) 2:=IL (by exact aI trivial<|aI (IG ks)<|aI trivial<|aI trivial<|aI trivial trivial) 2 rfl
theorem HL(hY:Yd Pg GE l ac step J)(p:aa)(hk:∀x∈p.Kids,Ny step J l x):Ny step J l p:=by
 intro s r Γ w v n hv hJ hvr
 refine callsIn_of_wp func130 (c:=bV) rfl trivial ?_
 have h0:VF J Γ w true s (aP 23 [(0,.agg (ac p)),(1,yv l)] [] []) (#[v,.func (.yield l) #[] #[]]++Array.replicate 21 undef) w:=by
  refine⟨Γ,hJ,.refl _ _,_,_,_,(hY.base _ _ _ _ hJ).fresh 0 (tmps:=[.agg (ac p),yv l]++List.replicate 21 .undef) (by simp) fun t q u hq hu=>?_⟩
  by_cases ht:t<2
  ·rw[vac (by simpa using ht)]at hq
   rw[vaE (by simpa using ht)]at hu
   match t,ht with
   |0,_=>simp at hq hu;subst hq;subst hu;exact hvr
   |1,_=>simp at hq hu;subst hq;subst hu;exact .val _
  ·rw[vae (by simpa using ht),vaH]at hq
   split at hq<;>cases hq
   exact .undef u
 show bV.wpIn Fence.wide n Pg _ ⟨_,[]⟩ w
 rw[LP]at hv
 obtain⟨q,hq,hv⟩:=av hv
 have hb:Pg.funcs.size=Pg.funcs.size:=rfl
 have hret:∀{b:Bool} {s:S} {x:Bool} {H:List aw} {a':Act} {w':World},a'.defers=[]->VF J Γ w b s (vE H x) a'.tmps w'->b=r.1->s=r.2->x=r.1->
   bodyPost Pg f130 (fun e w'=>∃Γ',e=.returned (.bool r.1)/\Γ.Le w Γ' w'/\J r.1 r.2 Γ' w') .ret a' w':=by
  rintro b s x H a' w' hd h rfl rfl rfl
  refine⟨hd,.bool r.1,h.fin,?_⟩
  obtain⟨Γ',hJ',hle,_⟩:=h
  exact⟨Γ',rfl,hle,hJ'⟩
 rw[NL]
 refine wpIn_seq (wpIn_mono (VF.piece hY (QX p l) (k:=0) (IL (by exact aI (ag p)<|aI trivial trivial) 0 rfl) h0) ?_)
 rintro e ⟨a1,ds1⟩ w1 ⟨rfl,rfl,h1⟩
 have d2:(PVal.eptr (ac p)).cl 0:=by simp only[PVal.cl];exact ag p
 have d3:(PVal.agg (ac p)).cl 0:=by simp only[PVal.cl];exact ag p
 refine wpIn_seq (wpIn_seq (wpIn_mono (VF.reg hY Pb (k:=1) (kB:=1) (r:=q) (stB:=aP 23 [(1,yv l),(2,.eptr (ac p)),(7,yv l),(8,.agg (ac p)),(9,.bool q.1)] [.dead] []) (IL (by exact aI trivial<|aI d2 trivial) 1 rfl) (IL (by exact aI trivial<|aI d2<|aI trivial<|aI d3<|aI trivial trivial) 1 rfl) (QY p l) (Pp p l q.1)
  (fun a w jh Q h hn=>VF.yieldc hY (kA:=1) (IL (by exact aI trivial<|aI d2<|aI trivial<|aI d3 trivial) 1 rfl) hq (f:=7) (x:=8) (d:=9) rfl rfl M1 Oe rfl h hn) h1) ?_))
 rintro e ⟨a2,ds2⟩ w2 ⟨rfl,rfl,h2⟩
 refine wpIn_cond (h2.ev (t:=10) (x:=!q.1) rfl) ?_
 have dS2:∀b:Bool,Dd (aP 23 [(1,yv l),(2,.eptr (ac p)),(10,.bool b)] [.dead] []) 1:=fun b=>IL (by exact aI trivial<|aI d2<|aI trivial trivial) 1 rfl
 obtain⟨q1,q2⟩:=q
 cases q1 with
 |false=>
  cases hv
  refine wpIn_mono (VF.piece hY (QZ p l) (dS2 true) h2) ?_
  rintro e ⟨a3,ds3⟩ w3 ⟨rfl,rfl,h3⟩
  exact hret rfl h3 rfl rfl rfl
 | true =>
  simp only at hv
  split at hv
  case isFalse=>cases hv
  rename_i hlen
  refine wpIn_skip ?_
  refine wpIn_seq (wpIn_seq (wpIn_mono (VF.piece hY (Q0 p l) (dS2 false) h2) ?_))
  rintro e ⟨a3,ds3⟩ w3 ⟨rfl,rfl,h3⟩
  refine wpIn_block (wpIn_loop_ghost (fun k a w'=>a.defers=[]/\∃(i:Nat) (s':S),k=p.Kids.length - i/\i<=p.Kids.length/\Jp step (p.Kids.drop i) s'=some r/\VF J Γ w true s' (Md l p.Kids (i:Int)) a.tmps w') (p.Kids.length)
   ⟨rfl,0,q2,rfl,vaL _,hv,h3⟩ ?_)
  rintro k ⟨a4,ds4⟩ w4 ⟨hd4,i,s',rfl,hi,hvl,h4⟩
  simp only at hd4;subst hd4
  rw[Od]
  refine wpIn_seq (wpIn_mono (VF.piece hY (Q1 l p.Kids i) (LZ _ _ _) h4) ?_)
  rintro e ⟨a5,ds5⟩ w5 ⟨rfl,rfl,h5⟩
  refine wpIn_seq (wpIn_cond (h5.ev (t:=15) (x:=decide ((i:Int)<(p.Kids.length:Int))) rfl) ?_)
  by_cases hlt:i<p.Kids.length
  ·rw[va1 (by omega)]
   refine wpIn_skip ?_
   have hdrop:p.Kids.drop i=p.Kids[i]::p.Kids.drop (i+1):=vbb hlt
   rw[hdrop,Jp]at hvl
   obtain⟨q',hq',hvl⟩:=av hvl
   have hx:eh p.Kids (i:Int)=some p.Kids[i]:=dX _ _ hlt
   generalize hxx:p.Kids[i]=x at *
   have hxm:x∈p.Kids:=hxx▸vaC hlt
   have e2:(PVal.eptr (ac x)).cl 0:=by simp only[PVal.cl];exact ag x
   have e3:(PVal.agg (ac x)).cl 0:=by simp only[PVal.cl];exact ag x
   refine wpIn_seq (wpIn_block (wpIn_seq (wpIn_mono (VF.piece hY (Q2 l p.Kids i x hx) (L0 _ _ _) h5) ?_)))
   rintro e ⟨a6,ds6⟩ w6 ⟨rfl,rfl,h6⟩
   refine wpIn_seq (wpIn_mono (VF.reg hY Pc (k:=2) (kB:=2) (r:=q') (stB:=P6 l p.Kids i x q'.1) (IL (by exact aI trivial<|aI e2<|aI (IG _)<|aI trivial<|aI trivial trivial) 2 rfl) (IL (by exact aI trivial<|aI (IG _)<|aI trivial<|aI trivial<|aI e3<|aI trivial<|aI trivial trivial) 2 rfl) (Q3 l p.Kids i x) (Pq l p.Kids i x q'.1)
    (fun a w jh Q h hn=>VF.visitc hY (kA:=2) (IL (by exact aI trivial<|aI (IG _)<|aI trivial<|aI trivial<|aI e3<|aI trivial trivial) 2 rfl) (hk x hxm) hq' (y:=19) (x:=18) (d:=20) rfl rfl M2 Of rfl h hn) h6) ?_)
   rintro e ⟨a7,ds7⟩ w7 ⟨rfl,rfl,h7⟩
   refine wpIn_cond (h7.ev (t:=21) (x:=!q'.1) rfl) ?_
   obtain⟨q1,q2⟩:=q'
   cases q1 with
   |false=>
    cases hvl
    refine wpIn_mono (VF.piece hY (Q4 l p.Kids i) (L1 _ _ _ _) h7) ?_
    rintro e ⟨a8,ds8⟩ w8 ⟨rfl,rfl,h8⟩
    exact hret rfl h8 rfl rfl rfl
   |true=>
    refine wpIn_skip ?_
    refine wpIn_mono (VF.piece hY (Q5 l p.Kids i) (L1 _ _ _ _) h7) ?_
    rintro e ⟨a8,ds8⟩ w8 ⟨rfl,rfl,h8⟩
    refine⟨p.Kids.length - (i+1),by omega,rfl,i+1,q2,rfl,hlt,hvl,?_⟩
    have e:cf ((i:Int)+1)=((i+1:Nat):Int):=by rw[Ah (by omega) (by omega)];omega
    rw[e]at h8
    exact VF.redo (st0:=⟨(Md l p.Kids ((i+1:Nat):Int)).tmps,[.dead,.dead],[]⟩) hY (k:=2) ⟨(LZ l p.Kids _).c,rfl,rfl⟩ h8 1
  ·rw[decide_eq_false (by omega)]
   refine wpIn_exit ?_
   have hi':i=p.Kids.length:=by omega
   rw[vcc (by omega),Jp]at hvl
   cases hvl
   refine wpIn_mono (VF.piece hY (Q6 l p.Kids i) (L0 _ _ _) h5) ?_
   rintro e ⟨a6,ds6⟩ w6 ⟨rfl,rfl,h6⟩
   exact hret rfl h6 rfl rfl rfl
mutual
theorem GT(hY:Yd Pg GE l ac step J):∀p:aa,Ny step J l p
 |⟨o,n,k,ks⟩=>HL hY ⟨o,n,k,ks⟩ (EG hY ks)
theorem EG(hY:Yd Pg GE l ac step J):∀ks:List aa,∀x∈ks,Ny step J l x
 |[],x,hx=>by simp at hx
 | y :: ks,x,hx => by
  rcases vaD.1 hx with h|h
  ·exact h▸GT hY y
  ·exact EG hY ks x h
end
end
set_option linter.unusedSimpArgs false
def l8(l:List ai):List ai:=l.mergeSort fun x y=>decide (x<=y)
abbrev KL(x y:ai):Prop:=Op.bytesLess x y=true
theorem zk:∀(x:ai),Op.bytesLess x x=false
 |[]=>rfl
 |a::x=>by
  unfold Op.bytesLess
  rw[zk x]
  simp[UInt8.lt_irrefl]
theorem tx:∀{x y z:ai},KL x y->KL y z->KL x z
 |_,_,[],h1,h2=>by simp[KL,Op.bytesLess]at h2
 |_,[],_::_,h1,h2=>by simp[KL,Op.bytesLess]at h1
 |[],_::_,_::_,_,_=>rfl
 | a :: x,b :: y,c :: z,h1,h2 => by
  unfold KL Op.bytesLess at h1 h2 ⊢
  simp only[vaU,vap,vah,vaP]at h1 h2 ⊢
  rcases h1 with h1|⟨rfl,h1⟩
  ·rcases h2 with h2|⟨rfl,h2⟩
   ·exact .inl (UInt8.lt_trans h1 h2)
   ·exact .inl h1
  ·rcases h2 with h2|⟨rfl,h2⟩
   ·exact .inl h2
   ·exact .inr ⟨rfl,tx h1 h2⟩
theorem xG:∀{x y:ai},Op.bytesLess x y=false->Op.bytesLess y x=false->x=y
 |[],[],_,_=>rfl
 |[],_::_,h,_=>by simp[Op.bytesLess]at h
 |_::_,[],_,h=>by simp[Op.bytesLess]at h
 | a :: x,b :: y,h1,h2 => by
  unfold Op.bytesLess at h1 h2
  simp only[Bool.or_eq_false_iff,vbn,Bool.and_eq_false_imp,vaP]at h1 h2
  have hab:a=b:=by
   have k1:=UInt8.not_lt.1 h1.1
   have k2:=UInt8.not_lt.1 h2.1
   exact UInt8.le_antisymm k2 k1
  subst hab
  rw[xG (h1.2 rfl) (h2.2 rfl)]
theorem LV:∀(x y:ai),Op.bytesLess x y=decide (x<y)
 |[],[]=>by simp[Op.bytesLess]
 |_::_,[]=>by simp[Op.bytesLess]
 |[],_::_=>by simp[Op.bytesLess]
 |a::x,b::y=>by
  unfold Op.bytesLess
  rw[LV x y,Bool.eq_iff_iff]
  simp[List.cons_lt_cons_iff]
theorem H8(x y:ai):decide (x<=y)= !Op.bytesLess y x:=by
 rw[LV]
 rw[<-decide_not]
 rfl
theorem FA(l:List ai):(l8 l).Pairwise fun x y=>Op.bytesLess y x=false:=by
 have:=List.pairwise_mergeSort (le:=fun x y:ai=>decide (x<=y)) (fun a b c h1 h2=>by
  rw[H8]at h1 h2 ⊢
  simp only[vaW]at h1 h2 ⊢
  cases h:Op.bytesLess c a with
  |false=>rfl
  | true =>
   exfalso
   by_cases hb:Op.bytesLess a b=true
   ·have:=tx h hb
    unfold KL at this
    rw[h2]at this
    cases this
   ·have:a=b:=xG (by simpa using hb) h1
    subst this
    rw[h2]at h
    cases h) (fun a b=>by
  rw[H8,H8]
  cases h:Op.bytesLess b a with
  |false=>rfl
  | true =>
   cases h':Op.bytesLess a b with
   |false=>rfl
   |true=>
    have:=tx h h'
    unfold KL at this
    rw[zk]at this
    cases this) l
 refine List.Pairwise.imp ?_ this
 intro a b h
 rw[H8]at h
 simpa using h
def Hq(x:ai):List ai->List ai
 |[]=>[x]
 |y::r=>if Op.bytesLess y x=true then y::Hq x r else x::y::r
def Co:List ai->List ai
 |[]=>[]
 |x::r=>Hq x (Co r)
theorem zn(x:ai):∀l,(Hq x l).Perm (x::l)
 |[]=>.refl _
 | y :: r => by
  unfold Hq
  split
  ·exact((zn x r).cons y).trans (List.Perm.swap x y r)
  ·exact .refl _
theorem Cp:∀l,(Co l).Perm l
 |[]=>.refl _
 |x::r=>(zn x (Co r)).trans ((Cp r).cons x)
abbrev KW(l:List ai):Prop:=l.Pairwise fun x y=>Op.bytesLess y x=false
theorem As(x:ai):∀{l},KW l->KW (Hq x l)
 |[],_=>by simp[Hq,KW]
 | y :: r,h => by
  unfold KW at h ⊢
  have h':=vbs.1 h
  unfold Hq
  split
  ·rename_i hy
   rw[vbs]
   refine⟨fun z hz=>?_,As x h'.2⟩
   rcases vaD.1 ((zn x r).mem_iff.1 hz)with rfl|hz
   ·cases hc:Op.bytesLess z y with
    |false=>rfl
    |true=>have:=tx hy hc;unfold KL at this;rw[zk]at this;cases this
   ·exact h'.1 z hz
  ·rename_i hy
   have hy:Op.bytesLess y x=false:=by simpa using hy
   rw[vbs]
   refine⟨fun z hz=>?_,h⟩
   rcases vaD.1 hz with rfl|hz
   ·exact hy
   ·have hz:=h'.1 z hz
    cases hc:Op.bytesLess z x with
    |false=>rfl
    | true =>
     exfalso
     by_cases hxy:Op.bytesLess x y=true
     ·have:=tx hc hxy
      unfold KL at this
      rw[hz]at this;cases this
     ·have:x=y:=xG (by simpa using hxy) hy
      subst this
      rw[hz]at hc;cases hc
theorem xR:∀l,KW (Co l)
 |[]=>by simp[Co,KW]
 |x::r=>As x (xR r)
theorem Dk:∀{a b:List ai},KW a->KW b->a.Perm b->a=b
 |[],b,_,_,h=>(List.Perm.nil_eq h)
 |x::a,[],_,_,h=>by have:=h.length_eq;simp at this
 | x :: a,y :: b,ha,hb,h => by
  unfold KW at ha hb
  have ha':=vbs.1 ha
  have hb':=vbs.1 hb
  have hxy:x=y:=by
   rcases vaD.1 (h.mem_iff.1 (vbZ:x∈x::a))with hx|hx
   ·exact hx
   ·rcases vaD.1 (h.mem_iff.2 (vbZ:y∈y::b))with hy|hy
    ·exact hy.symm
    ·exact xG (hb'.1 x hx) (ha'.1 y hy)
  subst hxy
  congr 1
  exact Dk ha'.2 hb'.2 (List.Perm.cons_inv h)
theorem Ka(l:List ai):Co l=l8 l:=Dk (xR l) (FA l) ((Cp l).trans (List.mergeSort_perm l _).symm)
end Go.Proofs.YtggeppllafbidaaGreatDoor
namespace Go.Proofs
open Go.Shelf
noncomputable def Tryz.laysM171_ren : Go.Shelf.Ren := ⟨fun | 171 => 140 | 243 => 168 | 246 => 185 | 283 => 194 | 284 => 195 | 285 => 196 | 286 => 197 | 129 => 156 | 317 => 199 | 318 => 200 | 319 => 201 | 320 => 202 | 337 => 203 | 338 => 204 | n => n, fun | 3 => 3 | 9 => 9 | 2 => 2 | 4 => 4 | 171 => 159 | 0 => 0 | 53 => 138 | 37 => 122 | 5 => 5 | 173 => 161 | 212 => 165 | 51 => 136 | 20 => 20 | 213 => 166 | 46 => 116 | 232 => 167 | 233 => 168 | n => n, fun | 17 => 1 | 18 => 2 | 19 => 3 | n => n⟩
theorem Tryz.laysM171 : Go.Proofs.LaysM.n171 Tryz.prog Tryz.laysM171_ren := {
 mixed := by kernel_rfl
 f129 := Tryz.func156.trans (congrArg some (by kernel_rfl))
 f171 := Tryz.func140.trans (congrArg some (by kernel_rfl))
 f243 := Tryz.func168.trans (congrArg some (by kernel_rfl))
 f246 := Tryz.func185.trans (congrArg some (by kernel_rfl))
 f283 := Tryz.func194.trans (congrArg some (by kernel_rfl))
 f284 := Tryz.func195.trans (congrArg some (by kernel_rfl))
 f285 := Tryz.func196.trans (congrArg some (by kernel_rfl))
 f286 := Tryz.func197.trans (congrArg some (by kernel_rfl))
 f317 := Tryz.func199.trans (congrArg some (by kernel_rfl))
 f318 := Tryz.func200.trans (congrArg some (by kernel_rfl))
 f319 := Tryz.func201.trans (congrArg some (by kernel_rfl))
 f320 := Tryz.func202.trans (congrArg some (by kernel_rfl))
 f337 := Tryz.func203.trans (congrArg some (by kernel_rfl))
 f338 := Tryz.func204.trans (congrArg some (by kernel_rfl))
 t0 := Tryz.underlying0
 a0 := Tryz.isAgg0
 z0 := Tryz.sizeOf0
 v0 := Tryz.zeroValue0
 t2 := Tryz.underlying2
 a2 := Tryz.isAgg2
 z2 := Tryz.sizeOf2
 v2 := Tryz.zeroValue2
 t3 := Tryz.underlying3
 a3 := Tryz.isAgg3
 z3 := Tryz.sizeOf3
 v3 := Tryz.zeroValue3
 t4 := Tryz.underlying4
 a4 := Tryz.isAgg4
 z4 := Tryz.sizeOf4
 v4 := Tryz.zeroValue4
 t5 := Tryz.underlying5
 a5 := Tryz.isAgg5
 z5 := Tryz.sizeOf5
 v5 := Tryz.zeroValue5
 t9 := Tryz.underlying9
 a9 := Tryz.isAgg9
 z9 := Tryz.sizeOf9
 v9 := Tryz.zeroValue9
 t20 := Tryz.underlying20
 a20 := Tryz.isAgg20
 z20 := Tryz.sizeOf20
 v20 := Tryz.zeroValue20
 t37 := Tryz.underlying122
 a37 := Tryz.isAgg122
 z37 := Tryz.sizeOf122
 v37 := Tryz.zeroValue122
 t46 := Tryz.underlying116
 a46 := Tryz.isAgg116
 z46 := Tryz.sizeOf116
 v46 := Tryz.zeroValue116
 t51 := Tryz.underlying136
 a51 := Tryz.isAgg136
 z51 := Tryz.sizeOf136
 v51 := Tryz.zeroValue136
 t53 := Tryz.underlying138
 a53 := Tryz.isAgg138
 z53 := Tryz.sizeOf138
 v53 := Tryz.zeroValue138
 t171 := Tryz.underlying159
 a171 := Tryz.isAgg159
 z171 := Tryz.sizeOf159
 v171 := Tryz.zeroValue159
 t173 := Tryz.underlying161
 a173 := Tryz.isAgg161
 z173 := Tryz.sizeOf161
 v173 := Tryz.zeroValue161
 t212 := Tryz.underlying165
 a212 := Tryz.isAgg165
 z212 := Tryz.sizeOf165
 v212 := Tryz.zeroValue165
 t213 := Tryz.underlying166
 a213 := Tryz.isAgg166
 z213 := Tryz.sizeOf166
 t232 := Tryz.underlying167
 a232 := Tryz.isAgg167
 z232 := Tryz.sizeOf167
 v232 := Tryz.zeroValue167
 t233 := Tryz.underlying168
 a233 := Tryz.isAgg168
 z233 := Tryz.sizeOf168
 v233 := Tryz.zeroValue168
 g17 := by kernel_rfl
 g18 := by kernel_rfl
 g19 := by kernel_rfl
 i0 := by kernel_rfl
 i2 := by kernel_rfl
 i3 := by kernel_rfl
 i4 := by kernel_rfl
 i5 := by kernel_rfl
 i9 := by kernel_rfl
 i20 := by kernel_rfl
 i37 := by kernel_rfl
 i46 := by kernel_rfl
 i51 := by kernel_rfl
 i53 := by kernel_rfl
 i171 := by kernel_rfl
 i173 := by kernel_rfl
 i212 := by kernel_rfl
 i232 := by kernel_rfl
 i233 := by kernel_rfl
 m17 := by kernel_rfl
 m18 := by kernel_rfl
 m19 := by kernel_rfl }
noncomputable def Tryz.lays190_ren : Go.Shelf.Ren := ⟨fun | 190 => 107 | 125 => 132 | 258 => 131 | 128 => 155 | 129 => 156 | 302 => 146 | 303 => 147 | 304 => 148 | 305 => 149 | 306 => 150 | 307 => 151 | 308 => 152 | 309 => 153 | 310 => 154 | 333 => 172 | 329 => 173 | 330 => 174 | 334 => 175 | 335 => 176 | 336 => 177 | 344 => 193 | n => n, fun | 31 => 24 | 9 => 9 | 3 => 3 | 46 => 116 | 0 => 0 | 51 => 136 | 53 => 138 | 4 => 4 | 183 => 128 | 182 => 127 | 131 => 133 | 5 => 5 | 218 => 143 | 222 => 147 | 228 => 156 | 229 => 149 | n => n, fun | n => n⟩
theorem Tryz.lays190 : Go.Proofs.Lays.n190 Tryz.prog Tryz.lays190_ren := {
 mixed := by kernel_rfl
 f125 := Tryz.func132.trans (congrArg some (by kernel_rfl))
 f128 := Tryz.func155.trans (congrArg some (by kernel_rfl))
 f129 := Tryz.func156.trans (congrArg some (by kernel_rfl))
 f190 := Tryz.func107.trans (congrArg some (by kernel_rfl))
 f258 := Tryz.func131.trans (congrArg some (by kernel_rfl))
 f302 := Tryz.func146.trans (congrArg some (by kernel_rfl))
 f303 := Tryz.func147.trans (congrArg some (by kernel_rfl))
 f304 := Tryz.func148.trans (congrArg some (by kernel_rfl))
 f305 := Tryz.func149.trans (congrArg some (by kernel_rfl))
 f306 := Tryz.func150.trans (congrArg some (by kernel_rfl))
 f307 := Tryz.func151.trans (congrArg some (by kernel_rfl))
 f308 := Tryz.func152.trans (congrArg some (by kernel_rfl))
 f309 := Tryz.func153.trans (congrArg some (by kernel_rfl))
 f310 := Tryz.func154.trans (congrArg some (by kernel_rfl))
 f329 := Tryz.func173.trans (congrArg some (by kernel_rfl))
 f330 := Tryz.func174.trans (congrArg some (by kernel_rfl))
 f333 := Tryz.func172.trans (congrArg some (by kernel_rfl))
 f334 := Tryz.func175.trans (congrArg some (by kernel_rfl))
 f335 := Tryz.func176.trans (congrArg some (by kernel_rfl))
 f336 := Tryz.func177.trans (congrArg some (by kernel_rfl))
 f344 := Tryz.func193.trans (congrArg some (by kernel_rfl))
 t0 := Tryz.underlying0
 a0 := Tryz.isAgg0
 z0 := Tryz.sizeOf0
 v0 := Tryz.zeroValue0
 t3 := Tryz.underlying3
 a3 := Tryz.isAgg3
 z3 := Tryz.sizeOf3
 v3 := Tryz.zeroValue3
 t4 := Tryz.underlying4
 a4 := Tryz.isAgg4
 z4 := Tryz.sizeOf4
 v4 := Tryz.zeroValue4
 t5 := Tryz.underlying5
 a5 := Tryz.isAgg5
 z5 := Tryz.sizeOf5
 v5 := Tryz.zeroValue5
 t9 := Tryz.underlying9
 a9 := Tryz.isAgg9
 z9 := Tryz.sizeOf9
 v9 := Tryz.zeroValue9
 t31 := Tryz.underlying24
 a31 := Tryz.isAgg24
 z31 := Tryz.sizeOf24
 v31 := Tryz.zeroValue24
 t46 := Tryz.underlying116
 a46 := Tryz.isAgg116
 z46 := Tryz.sizeOf116
 v46 := Tryz.zeroValue116
 t51 := Tryz.underlying136
 a51 := Tryz.isAgg136
 z51 := Tryz.sizeOf136
 v51 := Tryz.zeroValue136
 t53 := Tryz.underlying138
 a53 := Tryz.isAgg138
 z53 := Tryz.sizeOf138
 v53 := Tryz.zeroValue138
 t131 := Tryz.underlying133
 a131 := Tryz.isAgg133
 z131 := Tryz.sizeOf133
 v131 := Tryz.zeroValue133
 t182 := Tryz.underlying127
 a182 := Tryz.isAgg127
 z182 := Tryz.sizeOf127
 v182 := Tryz.zeroValue127
 t183 := Tryz.underlying128
 a183 := Tryz.isAgg128
 z183 := Tryz.sizeOf128
 v183 := Tryz.zeroValue128
 t218 := Tryz.underlying143
 a218 := Tryz.isAgg143
 z218 := Tryz.sizeOf143
 v218 := Tryz.zeroValue143
 t222 := Tryz.underlying147
 a222 := Tryz.isAgg147
 z222 := Tryz.sizeOf147
 v222 := Tryz.zeroValue147
 t228 := Tryz.underlying156
 a228 := Tryz.isAgg156
 z228 := Tryz.sizeOf156
 v228 := Tryz.zeroValue156
 t229 := Tryz.underlying149
 a229 := Tryz.isAgg149
 z229 := Tryz.sizeOf149
 v229 := Tryz.zeroValue149 }
noncomputable def Tryz.lays194_ren : Go.Shelf.Ren := ⟨fun | 194 => 108 | n => n, fun | 31 => 24 | 9 => 9 | 3 => 3 | 4 => 4 | 0 => 0 | n => n, fun | n => n⟩
theorem Tryz.lays194 : Go.Proofs.Lays.n194 Tryz.prog Tryz.lays194_ren := {
 mixed := by kernel_rfl
 f194 := Tryz.func108.trans (congrArg some (by kernel_rfl))
 t0 := Tryz.underlying0
 a0 := Tryz.isAgg0
 z0 := Tryz.sizeOf0
 v0 := Tryz.zeroValue0
 t3 := Tryz.underlying3
 a3 := Tryz.isAgg3
 z3 := Tryz.sizeOf3
 v3 := Tryz.zeroValue3
 t4 := Tryz.underlying4
 a4 := Tryz.isAgg4
 z4 := Tryz.sizeOf4
 v4 := Tryz.zeroValue4
 t9 := Tryz.underlying9
 a9 := Tryz.isAgg9
 z9 := Tryz.sizeOf9
 v9 := Tryz.zeroValue9
 t31 := Tryz.underlying24
 a31 := Tryz.isAgg24
 z31 := Tryz.sizeOf24
 v31 := Tryz.zeroValue24 }
noncomputable def Tryz.lc72_ren : Go.Shelf.Ren := ⟨fun | 41 => 72 | n => n, fun | 22 => 24 | 23 => 9 | 4 => 4 | n => n, fun | n => n⟩
theorem Tryz.lc72 : Go.Proofs.SlLaysE0.n41 Tryz.prog Tryz.lc72_ren := {
 mixed := by kernel_rfl
 f41 := ⟨Tryz.f72.name, by decide, Tryz.func72.trans (congrArg some (by kernel_rfl))⟩
 t4 := Tryz.underlying4
 a4 := Tryz.isAgg4
 z4 := Tryz.sizeOf4
 v4 := Tryz.zeroValue4
 t22 := Tryz.underlying24
 a22 := Tryz.isAgg24
 z22 := Tryz.sizeOf24
 v22 := Tryz.zeroValue24 }
end Go.Proofs
namespace Go.Proofs.YtggeppllafbidaaGreatDoor
open Go Go.Sort Go.Proofs.Tryz
set_option maxRecDepth 100000
def L5(n:Int):Option ai:=if(decide (-9223372036854775808<=n)&&decide (n<=9223372036854775807))=true then some (Lib.itoa n)else none
theorem Kw:gn=Lib.pow10Tab:=by kernel_rfl
theorem Lq{n:Int}{r:ai}(h:L5 n=some r):CC Pg GE 140 [.int .i64 n] (.str r) []:=by
 rcases aT h with⟨b,h⟩|⟨b,h⟩
 ·obtain rfl:=lf h
  simp only[vah,vap]at b
  refine CC.grownIS call140 fun E Γ bs ow w a st hE hS=>?_
  have htab:Lib.TabIs Pg w "internal/strconv.uint64pow10" .u64 Lib.pow10Tab:=MX hS (g:=1) (by rw[hE,←Kw];simp[GE]) (by kernel_rfl)
  refine(Any.strconv_Itoa Tryz.laysM171 n b.1 b.2 w htab).mono fun e w' he=>?_
  obtain⟨rfl,k,os,rfl⟩:=he
  exact⟨rfl,.of_grow _ _ _⟩
 ·cases h
theorem Gc{w:World}{b:Nat}{cur:Array Value}{e:TypeId}{l:List ai}(hh:w.heap[b]? =some (.cells cur e (0,0)))(ht:cur.toList.take l.length=l.map fun s=>Value.string ⟨s.toArray⟩):Holds encStr w b 0 l.toArray:=by
 intro j hj
 have hj':j<l.length:=by simpa using hj
 rw[vaB]
 refine⟨?_,frozen_of_row w b j cur e hh⟩
 rw[cell_of_row w b j cur e _ hh]
 have h1:(cur.toList.take l.length)[j]? =(l.map fun s=>Value.string ⟨s.toArray⟩)[j]?:=by rw[ht]
 rw[vak hj']at h1
 simp only[vaJ,vat,vaa hj',vad]at h1
 rw[h1,getElem!_pos _ j hj]
 simp[encStr]
theorem EA{w:World}{b n:Nat}{cur:Array Value}{e:TypeId}{os:Array Obj}(d l:List ai)(hh:w.heap[b]? =some (.cells cur e (0,0)))(hd:d.length<=cur.size)(hl:d.take l.length=l):(∀b',b'<w.heap.size->b'≠b->(grow (putRow encStr (Sort.ahead w n) b 0 d.toArray) os).heap[b']? =w.heap[b']?)/\w.heap.size<=(grow (putRow encStr (Sort.ahead w n) b 0 d.toArray) os).heap.size/\
   ∃cur',(grow (putRow encStr (Sort.ahead w n) b 0 d.toArray) os).heap[b]? =some (.cells cur' e (0,0))/\cur'.size=cur.size/\cur'.toList.take l.length=l.map fun s=>Value.string ⟨s.toArray⟩:=by
 have hb:b<w.heap.size:=(vam.1 hh).1
 have hsz:(putRow encStr (Sort.ahead w n) b 0 d.toArray).heap.size=w.heap.size:=by simp[putRow,mapBlock,Sort.ahead]
 refine⟨fun b' h1 h2=>?_,?_,putCells encStr 0 d.toArray cur,?_,by simp[putCells],?_⟩
 ·show((putRow encStr (Sort.ahead w n) b 0 d.toArray).heap++os)[b']? =_
  rw[vaE (by rw[hsz];exact h1)]
  show(w.heap.modify b (onCells _))[b']? =_
  rw[vbM,vav (fun e=>h2 e.symm)]
 ·show _<=((putRow encStr (Sort.ahead w n) b 0 d.toArray).heap++os).size
  rw[Array.size_append,hsz];omega
 ·show((putRow encStr (Sort.ahead w n) b 0 d.toArray).heap++os)[b]? =_
  rw[vaE (by rw[hsz];exact hb)]
  show(w.heap.modify b (onCells _))[b]? =_
  rw[vbM,var rfl,hh]
  rfl
 ·have hll:l.length<=d.length:=by have h0:=vbe List.length hl;rw[vbf]at h0;omega
  refine va5 fun i=>?_
  by_cases hi:i<l.length
  ·have hdl:i<d.length:=by omega
   have hdi:d[i]=l[i]:=by
    have h1:(d.take l.length)[i]? =l[i]?:=by rw[hl]
    rw[vak hi,vaa hdl,vaa hi]at h1
    exact vbd h1
   rw[vak hi]
   simp only[vaJ,putCells,Array.getElem?_mapIdx,vat,vaa hi,vad]
   have hc:cur[i]? =some (cur[i]'(by omega)):=vaV (by omega)
   rw[hc]
   simp only[vad]
   rw[var ⟨vaL _,by simp;omega⟩,Nat.sub_zero,getElem!_pos _ i (by simpa using hdl)]
   simp[encStr,hdi]
  ·rw[vax (by simp[putCells];omega),vax (by simp;omega)]
theorem nc(l:List ai):(l8 l).length=l.length:=by unfold l8;exact List.length_mergeSort _
theorem JH{n:Nat}(h:n<=di):n<4611686018427387904:=by unfold di at h;omega
theorem LH:Jz Pg 107 9 (fun s=>Value.string ⟨s.toArray⟩) l8 (fun _ _ _=>.tuple #[]):={
 call:=call107
 row:=fun w b cap cur l hh hc hl hm hla ht=>by
  have hlen:=JH hla
  refine(Any.slices_Sort_string Tryz.lays190 b 0 cap l w (Gc hh ht) ((vam.1 hh).1) hlen).mono fun r w' hr=>?_
  obtain⟨rfl,n,os,rfl⟩:=hr
  obtain⟨k1,k2,cur',k3,k4,k5⟩:=EA (n:=n) (os:=os) (l8 l) (l8 l) hh (by rw[nc];omega) (vbQ)
  exact⟨rfl,by rw[nc];exact hl,rfl,rfl,rfl,k2,k1,cur',k3,by omega,k5⟩
 none:=fun w=>⟨by simp[l8],Any.slices_Sort_string_none Tryz.lays190 Option.none 0 w⟩}
theorem E3(l:List ai):(Lib.compact l++List.replicate (l.length - (Lib.compact l).length) []).take (Lib.compact l).length=Lib.compact l:=by simp
theorem F4(l:List ai):(Lib.compact l).length<=l.length:=by
 unfold Lib.compact Lib.compactUpTo
 rw[va8]
 exact vaI (vcl _ _) (by simp)
theorem Hg:Jz Pg 108 9 (fun s=>Value.string ⟨s.toArray⟩) Lib.compact (fun x k c=>.slice x k c):={
 call:=call108
 row:=fun w b cap cur l hh hc hl hm hla ht=>by
  have hlen:=JH hla
  refine(calls_of_every_depth fun D=>AnyS.slices_Compact_string_in Tryz.lays194 D b 0 cap l w (Gc hh ht) (by omega) hl).mono fun r w' hr=>?_
  obtain⟨rfl,q,rfl⟩:=hr
  have hcl:=F4 l
  obtain⟨k1,k2,cur',k3,k4,k5⟩:=EA (n:=q) (os:=#[]) (Lib.compact l++List.replicate (l.length - (Lib.compact l).length) []) (Lib.compact l) hh (by simp;omega) (E3 l)
  rw[grow_empty]at k1 k2 k3
  exact⟨rfl,by omega,rfl,rfl,rfl,k2,k1,cur',k3,by omega,k5⟩
 none:=fun w=>⟨by rfl,calls_of_every_depth fun D=>AnyS.slices_Compact_string_empty_in Tryz.lays194 D Option.none 0 w⟩}
def oO(a b:List ai):Option (List ai):=(app ([]:List ai) a).bind fun l=>(app l b).bind fun l2=>some (Lib.compact (Co l2))
noncomputable def G4:Code:=f67.body.getD .skip
theorem PL:Pg.cellsOf 9=1:=by kernel_rfl
theorem LL(l:List ai)(h:l.length<=di):aC Pg GE 0 (cT G4 [true,true,false]) (EX .normal (eR 15 5 (l8 l) 9)) (eR 15 5 l 9):=
 aC.inplace (t:=5) (d1:=11) (d2:=12) LH PL h rfl rfl rfl rfl rfl rfl (by decide) (.inl ⟨rfl,nc l⟩)
theorem LM(l:List ai)(h:l.length<=di):aC Pg GE 0 (cT G4 [true,true,true,false]) (EX .normal (eR 15 4 (Lib.compact l) 9)) (eR 15 5 l 9):=
 aC.inplace3 (t:=5) (d1:=13) (d2:=14) Hg PL h rfl rfl rfl rfl rfl rfl (by decide) (fun _ _ _=>rfl) rfl rfl rfl (by decide) (by decide)
theorem K2{α:Type}{l r z:List α}(h:app l r=some z):z.length<=di:=by
 unfold app at h
 split at h
 ·cases h;simpa using ‹_›
 ·cases h
theorem tI{a b:List ai}{r:List ai}(h:oO a b=some r):CC Pg GE 67 [sl cS a,sl cS b] (sl cS r) [(0,9)]:=by
 obtain⟨l,bl,h⟩:=av h
 obtain⟨l2,bl2,h⟩:=av h
 obtain rfl:=lf h
 rw[Ka]
 have h2:=K2 bl2
 have h3:(l8 l2).length<=di:=by rw[nc];exact h2
 exact C.ev (A:=[8,10]) mixed call67 func67 (c:=G4) rfl (aI (ak hZ a)<|aI (ak hZ b) trivial)
  [.v (sl cS ([]:List ai)),.v (sl cS l),.v (sl cS l2),.pa 0,.pc (eR 15 5 l2 9) .normal (eR 15 5 (l8 l2) 9),.pa 0,.pc (eR 15 5 (l8 l2) 9) .normal (eR 15 4 (Lib.compact (l8 l2)) 9)]
  (Eq.mp (by kernel_rfl) (aI (cn.mk' (v:=PVal.str) FF ([]:List ai) 0 (by kernel_rfl))<|aI (cn.ap bl)<|aI (cn.ap bl2)<|aI (fr (eR 15 5 l2 9))<|aI (LL l2 h2)<|
   aI (fr (eR 15 5 (l8 l2) 9))<|aI (LM (l8 l2) h3)<|aI (rP (sl cS (Lib.compact (l8 l2)))) (ak hZ (Lib.compact (l8 l2)))))
abbrev fB:Nat:=105
abbrev fW:Nat:=129
noncomputable def bW:Code:=f129.body.getD .skip
noncomputable def bB:Code:=f105.body.getD .skip
theorem D9(p:aa):CC Pg GE fB [.agg (ac p)] (.func (.func fW) [] [.eptr (ac p)]) []:=by
 have z:=se (bj p)<|en (aI (rP (.func (.func fW) [] [.eptr (ac p)]))<|(aI trivial (aI (show hX 0 (ac p)from ag p) trivial)))
 exact C.evp (A:=[]) mixed call105 func105 (c:=bB) rfl (aI (ag p) trivial) z (by kernel_rfl)
theorem NM:bW=.region (Ox bW) (ji bW) false:=by kernel_rfl
theorem NQ:List.range (ji bW).size=[0,1]++2::([]:List Nat):=by kernel_rfl
theorem NO:[0,1].map (fun i=>(ji bW)[i]?)=((ji bW).toList.take 2).map some:=by kernel_rfl
theorem NP:((ji bW).toList.take 2).all CN=true:=by kernel_rfl
theorem OX:(ji bW)[2]? =some (Ig bW 2):=by kernel_rfl
theorem OW:(Ig bW 2).guard=none:=by kernel_rfl
theorem NN:(Ig bW 2).op=.call {callee:=.value (.func fV),args:=#[.tmp 3,.tmp 4],argTypes:=M0 (Ig bW 2)}:=by kernel_rfl
theorem OV:(Ig bW 2).dst=some 5:=by kernel_rfl
theorem MB(p:aa)(l:Nat):cr Pg GE [] (ji bW) (fun st=>FG st (aP 6 [(3,.agg (ac p)),(4,yv l)] [] [])) ((ji bW).toList.take 2) 0 (aP 6 [(0,yv l),(1,.eptr (ac p))] [] []):=by
 have z:=sv (aB p)<|en (fr (aP 6 [(3,.agg (ac p)),(4,yv l)] [] []))
 exact yk z (by kernel_rfl)
section
variable{S:Type}{step:S->aa->Option (Bool×S)}{J:Bool->S->aK->World->Prop}{l:Nat}
theorem JL(hY:Yd Pg GE l ac step J)(p:aa){s:S}{r:Bool×S}{Γ:aK}{w:World}{v:Value}{n:Nat}(hv:GS step p s=some r)(hJ:J true s Γ w)(hvr:VR Γ [] w (.eptr (ac p)) v):CallsIn Fence.wide n Pg fW #[.func (.yield l) #[] #[],v] w fun e w'=>(∃u,e=.returned u)/\∃Γ',Γ.Le w Γ' w'/\J r.1 r.2 Γ' w':=by
 refine callsIn_of_wp func129 (c:=bW) rfl trivial ?_
 have h0:VF J Γ w true s (aP 6 [(0,yv l),(1,.eptr (ac p))] [] []) (#[.func (.yield l) #[] #[],v]++Array.replicate 4 undef) w:=by
  refine⟨Γ,hJ,.refl _ _,_,_,_,(hY.base _ _ _ _ hJ).fresh 0 (tmps:=[yv l,.eptr (ac p)]++List.replicate 4 .undef) (by simp) fun t q u hq hu=>?_⟩
  by_cases ht:t<2
  ·rw[vac (by simpa using ht)]at hq
   rw[vaE (by simpa using ht)]at hu
   match t,ht with
   |0,_=>simp at hq hu;subst hq;subst hu;exact .val _
   |1,_=>simp at hq hu;subst hq;subst hu;exact hvr
  ·rw[vae (by simpa using ht),vaH]at hq
   split at hq<;>cases hq
   exact .undef u
 show bW.wpIn Fence.wide n Pg _ ⟨_,[]⟩ w
 have d2:(PVal.eptr (ac p)).cl 0:=ag p
 have d3:(PVal.agg (ac p)).cl 0:=ag p
 have key:(Code.region (Ox bW) (ji bW) false).wpIn Fence.wide n Pg (bodyPost Pg f129 fun e w'=>(∃u,e=.returned u)/\∃Γ',Γ.Le w Γ' w'/\J r.1 r.2 Γ' w') ⟨#[.func (.yield l) #[] #[],v]++Array.replicate 4 undef,[]⟩ w:=by
  refine wpIn_region ?_
  rw[NQ]
  obtain⟨Γ1,hJ1,hle1,hS⟩:=VF.again hY (k:=0) (IL (L:=[(0,yv l),(1,.eptr (ac p))]) (by exact aI trivial<|aI d2 trivial) 0 rfl) h0
  refine uE (A:=[]) (K:=fun st=>FG st (aP 6 [(3,.agg (ac p)),(4,yv l)] [] [])) (fun Γ' bs' ow' a' w' st hS' hK=>?_) _ _ Γ1 _ _ _ w _ NO (zL NP) hS (MB p l)
  obtain⟨Γ2,bs2,ow2,hS2⟩:=FG.sr hS' hK
  refine wQ OX OW (VF.visitc hY (kA:=0) (stB:=aP 6 [(3,.agg (ac p)),(4,yv l),(5,.bool r.1)] [] []) (IL (by exact aI d3<|aI trivial trivial) 0 rfl) (GT hY p) hv (y:=4) (x:=3) (d:=5) rfl rfl NN OV rfl ⟨Γ2,hY.side _ _ _ _ hJ1 _ _ _ _ _ _ hS2,hle1.trans hS2.step.le,_,_,_,hS2⟩ fun a3 w3 h3=>?_)
  obtain⟨Γ3,hJ3,hle3,E,bs3,ow3,hS3⟩:=h3
  obtain⟨u,e1,_⟩:=qy hS3 (fn:=f129) (r:=.tuple []) (by kernel_rfl)
  exact⟨rfl,u,e1,⟨u,rfl⟩,Γ3,hle3,hJ3⟩
 rw[<-NM]at key
 exact key
end
abbrev QG:Nat:=64
noncomputable def LT:Code:=f64.body.getD .skip
def KQ:Code->Code
 |.rangeFunc _ _ a _=>a
 |_=>.skip
def KR:Code->Code
 |.rangeFunc _ _ _ b=>b
 |_=>.skip
abbrev PU:Code:=cT LT [false]
abbrev PV:Code:=cT LT [true,false]
abbrev PW:Code:=cT LT [true,true,false,false]
abbrev KP:Code:=cT LT [true,true,false,true,false]
abbrev O7:Code:=cT LT [true,true,true,false]
theorem MA:LT=.seq PU (.seq PV (.seq (.seq PW (.block 0 (.rangeFunc (.tmp 6) #[7] (KQ KP) (KR KP)))) (.seq O7 .ret))):=by kernel_rfl
def xN(s:List ai)(x:aa):Option (Bool×List ai):=if(x.Op==3)=true then(app s [x.Name]).bind fun l=>some (true,l)else some (true,s)
def zQ(p:aa):Option (List ai):=(GS xN p []).bind fun q=>(oO q.2 []).bind fun r=>some r
abbrev KM(s:List ai):List aw:=[.dead,.cells [sl cS s] [(0,9)]]
abbrev Pf(s:List ai):aq:=aP 18 [(3,.bptr 1 0)] (KM s) []
theorem QO(p:aa):aC Pg GE 0 PU (EX .normal (aP 18 [(1,.eptr (ac p))] [.dead] [])) (aP 18 [(0,.agg (ac p))] [] []):=by
 have z:=se (bj p)<|eF .normal (aP 18 [(1,.eptr (ac p))] [.dead] [])
 exact dH (A:=[]) mixed z (by kernel_rfl)
theorem QP(p:aa):aC Pg GE 0 PV (EX .normal (aP 18 [(1,.eptr (ac p)),(3,.bptr 1 0)] (KM []) [])) (aP 18 [(1,.eptr (ac p))] [.dead] []):=by
 have z:=sx (show gI Pg 24=some [sl cS ([]:List ai)] by kernel_rfl)<|eF .normal (aP 18 [(1,.eptr (ac p)),(3,.bptr 1 0)] (KM []) [])
 exact dH (A:=[]) mixed z (by kernel_rfl)
abbrev stR(p:aa):aq:=aP 18 [(3,.bptr 1 0),(6,.func (.func fW) [] [.eptr (ac p)])] (KM []) []
theorem QQ(p:aa):aC Pg GE 0 PW (EX .normal (stR p)) (aP 18 [(1,.eptr (ac p)),(3,.bptr 1 0)] (KM []) []):=by
 have z:=sv (aB p)<|bg (D9 p)<|eF .normal (stR p)
 exact dH (A:=[]) mixed z (by kernel_rfl)
abbrev Ph(s:List ai)(x:aa):aq:=aP 18 [(3,.bptr 1 0),(4,.bptr 2 0)] (KM s++[.cells (FC x) []]) []
theorem QR(s:List ai)(x:aa):aC Pg GE 2 (KQ KP) (EX .normal (Ph s x)) (aP 18 [(3,.bptr 1 0),(7,.agg (ac x))] (KM s) []):=by
 have z:=sx dB<|sx (aW x)<|eF .normal (Ph s x)
 exact dH (A:=[]) mixed z (by kernel_rfl)
abbrev Pj(r:List ai):aq:=aP 18 [(3,.bptr 1 0)] (KM r++[.dead]) []
theorem QS(s:List ai)(x:aa){r:Bool×List ai}(h:xN s x=some r):r.1=true/\aC Pg GE 2 (KR KP) (EX .normal (Pj r.2)) (Ph s x):=by
 unfold xN at h
 rcases aT h with⟨c1,h⟩|⟨c1,h⟩
 ·obtain⟨l,bl,h⟩:=av h
  cases h
  refine⟨rfl,?_⟩
  have z:=ss<|sg 0 c1<|ss<|sv (cn.mk' (v:=PVal.str) FF ([x.Name]:List ai) 1 (by kernel_rfl))<|sv (cn.ap bl)<|eF .normal (Pj l)
  exact dH (A:=[11]) mixed z (by kernel_rfl)
 ·cases h
  refine⟨rfl,?_⟩
  have z:=ss<|sg 0 c1<|eF .normal (Pj s)
  exact dH (A:=[11]) mixed z (by kernel_rfl)
abbrev Pk(r:List ai):aq:=aP 18 [(2,sl cS r)] [.dead,.dead] [((2,0),9)]
theorem QT(s:List ai){r:List ai}(h:oO s []=some r):aC Pg GE 2 (.seq O7 .ret) (EX .ret (Pk r)) (Pf s):=by
 have z:=sv (show ch Pg 24 [sl cS s]=some (sl cS s) by kernel_rfl)<|bg (tI h)<|eF .ret (Pk r)
 exact dH (A:=[]) mixed z (by kernel_rfl)
end Go.Proofs.YtggeppllafbidaaGreatDoor
