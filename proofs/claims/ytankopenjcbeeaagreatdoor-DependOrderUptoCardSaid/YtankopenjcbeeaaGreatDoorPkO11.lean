/- PROVED: a part of the proof. Conditions: none. -/
import Derived.Test.YtankopenjcbeeaaGreatDoorPkO9
import Derived.RangeFuncRecord
import Derived.RangeFuncSeq
import Derived.Test.YtankopenjcbeeaaGreatDoorPkO10
import Derived.Test.YtankopenjcbeeaaGreatDoorProg
import Derived.Ground.SlgfProg
import Derived.Ground.SlgnProg
import Derived.Shelf.Lays
import Derived.Shelf.LaysM
import Derived.Shelf.SlGeneric
import Derived.Shelf.SlLaysE
import Derived.Shelf.SlLaysE0
import Derived.Shelf.SlLaysH
import Derived.Test.YtankopenjcbeeaaGreatDoorPkO8
import Derived.Shelf.Strconv.Itoa3
import Derived.Shelf.Sort.Plain
import Derived.Shelf.Slices.In.SortNone
import Derived.Shelf.Slices.In.CompactS
import Derived.Test.YtankopenjcbeeaaGreatDoorPkO4
import Derived.Maps.RangeRun
set_option linter.unusedSimpArgs false set_option linter.defProp false
set_option linter.unusedVariables false
noncomputable section
namespace Go.Proofs.YtankopenjcbeeaaGreatDoor
open Go
open Option renaming some→O,none→N
open Go renaming TypeId→G,Value→D,Program→I,Oper→M,World→J,Code→W
open Bool renaming true→T,false→Z
open Decidable renaming decide→Y
open YtankopenjcbeeaaGreatDoor renaming PVal→U
abbrev wU(GE:V (Nat×V U))(Γ:aS)(w:J):qy:=⟨GE,Γ,w,λ_=>False⟩
structure zb(GE:List (Nat×List PVal))(Γ:aS)(w:World):Prop where
 wi:∀b n,Γ b=some n->∃c t fr,w.heap[b]? =some (.cells c t fr)/\n<=c.size
 gl:∀g cs,(g,cs)∈GE->VR Γ [] w (.eptr cs) (.pointer (some ⟨g,0,none⟩))
 gc:∀g cs,(g,cs)∈GE->ie 0 cs
 gx:∀g cs,(g,cs)∈GE->g<w.heap.size/\∃c t fr,w.heap[g]? =some (.cells c t fr)/\c.size=cs.length
def VR.clo{Γ:aS}{c a:bC}{w:J}{p:U}{v:D}(h:VR Γ c w p v)(d:p.cl 0):VR Γ a w p v:=h.restrict (n:=0) d λi b e _=>absurd e (w0 _)
section
variable{P:I}{E:qy}{Γ:aS}{bs:bC}{d:Nat->Q kg}{w:J}{a:Array D}{st:az}
def SR.base(h:SR P E Γ bs d w a st):zb E.GE Γ w where
 wi:=h.wi
 gl:=λg c b=>(h.gl g c b).clo (by simp only[PVal.cl];exact h.gc g c b)
 gc:=h.gc
 gx:=λg c b=>⟨(h.gnow b).1,(h.gnow b).2.2.2⟩
def zb.good{GE:V (Nat×V U)}(e:zb GE Γ w):th GE 0 (wU GE Γ w) where
 ge:=rfl
 low:=λb n h=>by let⟨c,t,fr,m,_⟩:=e.wi b n h;grind
 nt:=λ_ _ i=>i
 gl:=e.gl
def zb.fresh{GE:V (Nat×V U)}(q:zb GE Γ w)(k:Nat){tmps:V U}(y:a.size=tmps.length)(z:∀(t:Nat) p v,tmps[t]? =O p->a[t]? =O v->VR Γ [] w p v):SR P (wU GE Γ w) Γ (List.replicate k N) (λ_=>N) w a ⟨tmps,List.replicate k .dead,[]⟩:=by
 have c:∀(i b:Nat),(List.replicate k (N:Q Nat))[i]? =O (O b)->False:=λi b h=>by grind
 exact{
  wi:=q.wi
  sz:=y
  tm:=λt p v x s=>(z t p v x s).mono (.refl _ _) (λi b h=>by grind)
  bl:=by simp
  bx:=λi b B m=>(c i b m).elim
  inj:=λi j b m=>(c i b m).elim
  bn:=λi b m=>(c i b m).elim
  on:=λb L A=>by grind
  ot:=λt k e F=>by simp_all
  ob:=λi j e o own b _ _ m=>(c i b m).elim
  gl:=λg o r=>(q.gl g o r).mono (.refl _ _) (λi b h=>by grind)
  gc:=q.gc
  gx:=λg o r=>⟨(q.gx g o r).1,λh=>h,(q.gx g o r).2⟩
  step:=.refl _ _ _ _}
def SR.again(h:SR P E Γ bs d w a st)(m:ie 0 st.tmps){GE:V (Nat×V U)}{b:aS}{w':J}(i:zb GE b w')(c:Γ.Le w b w')(k:Nat):SR P (wU GE b w') b (List.replicate k N) (λ_=>N) w' a ⟨st.tmps,List.replicate k .dead,[]⟩:=i.fresh k h.sz λt p v e o=>((h.tm t p v e o).clo (qj m e)).mono c (.refl _)
def SR.aside(h:SR P E Γ bs d w a st){GE:V (Nat×V U)}{i:aS}{m:bC}{ow':Nat->Q kg}{w':J}{o:Array D}{st':az}(c:SR P (wU GE Γ w) i m ow' w' o st'):SR P E i bs d w' a st:=h.world (λ_=>False) c.step.le c.wi c.step.os c.step.tape c.step.output c.step.size (λb p _=>c.step.keep b p id) (λ_ e=>e.elim) (λ_ _ _ e=>e) (λ_ _ _ e=>e) c.step.drawn
def SR.putOther(h:SR P E Γ bs d w a st){l:Nat}{o:Obj}(r:¬aV bs d l)(y:E.T l\/E.w.heap.size<=l)(A:∀c t fr,w.heap[l]? ≠O (.cells c t fr)):SR P E Γ bs d (w.putObj l o) a st/\Γ.Le w Γ (w.putObj l o):=by
 have s:∀b n,Γ b=O n->b≠l:=λb n m e=>by let⟨c,t,fr,q,_⟩:=h.wi b n m;simp_all
 have p:Γ.Le w Γ (w.putObj l o):=λb n m _=>⟨n,m,l8 _,λk _=>bE (World.putObj_heap_other (s b n m)) k⟩
 refine⟨h.world (λb=>b=l) p (λb n m=>?_) rfl rfl rfl (by simp) (λb _ m=>⟨World.putObj_heap_other m,rfl⟩) (λb m=>m▸y) (λi b m e=>r (.inl ⟨i,e▸m⟩)) (λb L z e=>r (.inr (by simp_all))),p⟩;let⟨c,t,fr,q,x⟩:=h.wi b n m;exact⟨c,t,fr,(World.putObj_heap_other (s b n m)).trans q,x⟩
def SR.rebase(h:SR P E Γ bs d w a st):SR P ⟨E.GE,Γ,w,aV bs d⟩ Γ bs d w a st:=
 { h with
  bn:=λi b m=>.inl (.inl ⟨i,m⟩)
  on:=λb L e=>⟨(h.on b L e).1,.inl (.inr (by simp_all))⟩
  gx:=λg r o=>by
   let⟨p,t,x,q⟩:=h.gnow o;refine⟨p,λc=>?_,q⟩;rcases c with⟨i,s⟩|c;.grind
   simp_all
  step:=.refl _ _ _ _}
def SR.touchE(h:SR P E Γ bs d w a st){b:Nat}(c:aV bs d b):E.T b\/E.w.heap.size<=b:=by
 rcases c with⟨i,m⟩|c;.exact h.bn i b m
 .cases e:d b with|none=>simp_all|some L=>exact(h.on b L e).2
def SR.unbase(h:SR P E Γ bs d w a st){p:aS}{m:bC}{ow':Nat->Q kg}{w':J}{s:Array D}{st':az}(c:SR P ⟨E.GE,Γ,w,aV bs d⟩ p m ow' w' s st'):SR P E p m ow' w' s st':=by
 have x:∀b,aV bs d b\/w.heap.size<=b->E.T b\/E.w.heap.size<=b:=λb e=>e.elim h.touchE λe=>.inr (m0 h.step.size e);exact{c with
  bn:=λi b e=>x b (c.bn i b e)
  on:=λb L t=>⟨(c.on b L t).1,x b (c.on b L t).2⟩
  gx:=h.gx
  step:={
   os:=c.step.os.trans h.step.os
   tape:=c.step.tape.trans h.step.tape
   output:=c.step.output.trans h.step.output
   size:=m0 h.step.size c.step.size
   drawn:=m0 h.step.drawn c.step.drawn
   keep:=λb e o=>by have q:b<w.heap.size:=R3 e h.step.size;have y:¬aV bs d b:=λr=>(h.touchE r).elim o λr=>absurd r (vcN.2 e);let⟨z,A⟩:=c.step.keep b q y;let⟨B,F⟩:=h.step.keep b e o;simp_all
   le:=h.step.le.trans c.step.le}}
def dz.on{m:Nat}{c:W}{a0:Exit->az->Prop}(hS:dz P E.GE m c a0 st)(hm:m≠0)(h:SR P E Γ bs d w a st)(hl:m % 1000<=bs.length)(L:Q Nat)(A:V Deferred):MC L P c (λe z x=>z.defers=A/\∃r o p q,SR P E r o p x z.tmps q/\a0 e q/\(∀i:Nat,i<m % 1000->o[i]? =bs[i]?)/\Γ.Le w r x/\w.heap.size<=x.heap.size/\
   ∀b,b<w.heap.size->¬aV bs d b->x.heap[b]? =w.heap[b]?/\¬aV o p b) ⟨a,A⟩ w:=by
 have S:th E.GE m ⟨E.GE,Γ,w,aV bs d⟩:={
  ge:=rfl
  low:=λb n y=>h.lt_of_ghost y
  nt:=λR=>absurd R hm
  gl:=h.base.gl}
 have t:(bs.take (m % 1000)).length=m % 1000:=by simp_all
 refine gD (hS L ⟨E.GE,Γ,w,aV bs d⟩ (bs.take (m % 1000)) ⟨a,A⟩ w S t ⟨Γ,bs,d,h.rebase,λi H=>?_⟩) λe z x hq=>?_
 .simp_all
 let⟨hd,q,⟨r,o,p,s,hk⟩,X⟩:=hq
 refine⟨hd,r,o,p,q,h.unbase s,X,λi H=>?_,s.step.le,s.step.size,λb y F=>⟨(s.step.keep b y F).1,λB=>?_⟩⟩
 .rw[hk i (by omega),vay H]
 .exact(s.touchE B).elim F λB=>absurd B (vcN.2 y)
def dz.wide{GE:V (Nat×V U)}{c:W}{L:Exit->az->Prop}{p:az}(y:dz P GE 0 c L p)(x:zb GE Γ w){d:Nat->Q kg}{bs:bC}(h:SR P (wU GE Γ w) Γ bs d w a p)(n:Nat)(s:V Deferred):c.wpIn Fence.wide n P (λe r t=>r.defers=s/\∃q m o b,SR P (wU GE Γ w) q m o t r.tmps b/\L e b) ⟨a,s⟩ w:=
 wpIn_wide.2 (wp_mono (y N (wU GE Γ w) [] ⟨a,s⟩ w x.good rfl ⟨Γ,bs,d,h,λi z=>absurd z (w0 _)⟩) λe r t A=>by
  let⟨H,b,⟨q,m,o,B,_⟩,F⟩:=A;grind)
def dz.wideE{GE:V (Nat×V U)}{c:W}{H:Exit->az->Prop}(x:dz P GE 0 c H st)(t:th GE 0 E)(h:SR P E Γ bs d w a st)(n:Nat)(r:V Deferred):c.wpIn Fence.wide n P (λe q s=>q.defers=r/\∃p m o b,SR P E p m o s q.tmps b/\H e b) ⟨a,r⟩ w:=
 wpIn_wide.2 (wp_mono (x N E [] ⟨a,r⟩ w t rfl ⟨Γ,bs,d,h,λi y=>absurd y (w0 _)⟩) λe q s z=>by
  let⟨F,b,⟨p,m,o,A,_⟩,B⟩:=z;grind)
def SR.allocO(h:SR P E Γ bs d w a st)(o:Obj):SR P E Γ bs d (w.alloc o) a st/\Γ.Le w Γ (w.alloc o):=by
 have m:∀b n,Γ b=O n->b<w.heap.size:=λb n e=>h.lt_of_ghost e;have i:Γ.Le w Γ (w.alloc o):=λb n e _=>⟨n,e,l8 _,λk _=>bE (alloc_old w o (m b n e)) k⟩
 refine⟨h.world (λ_=>False) i (λb n e=>?_) rfl rfl rfl (by simp) (λb e _=>⟨alloc_old w o e,rfl⟩) (λ_ p=>p.elim) (λ_ _ _ p=>p) (λ_ _ _ p=>p),i⟩;let⟨c,t,fr,q,r⟩:=h.wi b n e;exact⟨c,t,fr,(alloc_old w o (m b n e)).trans q,r⟩
def SR.forgetT(h:SR P E Γ bs d w a st){tm:V U}(b:Vq st.tmps tm=tm):SR P E Γ bs d w a {st with tmps:=tm}:=
 { h with
  sz:=by rw[h.sz,<-ZH (l:=st.tmps) (bs:=tm),b]
  tm:=λt p v c e=>by
   rw[<-b]at c;rcases ZG c with rfl|hp';.exact .undef v
   .exact h.tm t p v hp' e}
def SR.back(h:SR P E Γ bs d w a st)(ho:st.own=[]){m:aS}{bs':bC}{ow':Nat->Q kg}{w':J}{B:Array D}{st':az}{H':V ay}(F:SR P E m bs' ow' w' B st')(s:Γ.Le w m w')
  (q:∀i:Nat,i<bs.length->bs'[i]? =bs[i]?) (y:eu H'.length st'.boxes H') (hl:H'.length=bs.length):
  ∃c,SR P E m bs c w' a {st with boxes:=H'}/\∀b,aV bs c b->aV bs' ow' b:=by
 have z:=F.finish (H':=H') (v:=undef) (r:=.undef) (src:=λk=>(0,k)) (ro:=[]) (.undef _) trivial y (λx R=>by simp_all) (λx R=>by simp)
 have o:bs'.take H'.length=bs:=by
  let⟨S,_⟩:=rt y;have X:H'.length<=bs'.length:=by grind
  refine va2 λi=>?_;grind
 rw[o]at z
 refine⟨_,{z with
  sz:=h.sz
  tm:=λt p v H L=>(h.tm t p v H L).mono s (.refl _)
  ot:=λt k e he=>by simp_all},λb o=>?_⟩
 rcases o with⟨i,A⟩|o
 .exact .inl ⟨i,(q i (aq A)).trans A⟩
 .refine .inr λe=>o ?_
  grind [B3]
end
section
variable{P:I}{n:Nat}{a:Act}{w:J}{next:Act->J->Prop}{Q:Exit->Act->J->Prop}
def qgK{o:M}(p:eD o=T)(h:o.wp P a w next Q):o.wpIn Fence.wide n P a w next Q:=by
 refine⟨λ_ _=>trivial,?_⟩;have i:o.semAt (Fence.wide).round a.eval=execOp a.eval o:=Oper.semAt_eq _ _ _ λc m=>by simp_all[eD]
 rw[i];unfold Oper.wp at h;generalize (execOp a.eval o).run P w=r at *;have b:(Fence.wide).depth.isSome=T->1<=n:=λh=>by simp[Fence.wide]at h
 cases r with
 | ok x d =>
  cases x<;>simp only[Oper.upon]at h<;>simp only[Oper.uponIn]<;>first
   |omega
   |omega
   |exact⟨b,callsIn_wide.2 h⟩
   | exact ⟨b,fun c e _ => by
     let⟨v,d,r,s⟩:=h c e;exact⟨v,d,r,stepsIn_wide.2 s⟩⟩
 |halt x d=>cases x<;>simp only[Oper.upon]at h<;>simp only[Oper.uponIn]<;>exact h
def qfR{o:M}{f:Operand}{args:Array Operand}{d:Array G}(r:o.op=.call {callee:=.value f,args:=args,argTypes:=d}){g:FuncId}{fs cs:Array D}(q:a.eval f=.func (.func g) fs cs)
  (m:∀p w,(callFunc g p).run P w=.ok (.enter g p) w) {R:Ending->J->Prop} (h:CallsIn Fence.wide (n - 1) P g (fs++args.map a.eval++cs) w R) (t:∀e i,R e i->∃v,e=.returned v/\next (a.put o.dst v) i):o.wpIn Fence.wide n P a w next Q:=by
 refine⟨λ_ _=>trivial,?_⟩
 have s:o.semAt (Fence.wide).round a.eval=execOp a.eval o:=Oper.semAt_eq _ _ _ λc m=>by simp_all
 have b:(execOp a.eval o).run P w=.ok (.enter g (fs++args.map a.eval++cs)) w:=by simp[execOp,r,resolve,q,Deferred.ofValue,invoke,m]
 rw[s,b,Oper.uponIn_enter]
 refine⟨λh=>by simp[Fence.wide]at h,h.mono λe i x=>?_⟩
 grind
def qel{o:M}{f:Operand}{args:Array Operand}{p:Array G}(t:o.op=.call {callee:=.value f,args:=args,argTypes:=p}){l:Nat}(s:a.eval f=.func (.yield l) #[] #[])
  {R:Ending->J->Prop} (h:YieldAt Fence.wide (n - 1) P l (args.map a.eval) w R) (z:∀e q,R e q->∃v,e=.returned v/\next (a.put o.dst v) q):o.wpIn Fence.wide n P a w next Q:=by
 refine⟨λ_ _=>trivial,?_⟩
 have x:o.semAt (Fence.wide).round a.eval=execOp a.eval o:=Oper.semAt_eq _ _ _ λc A=>by simp_all
 let⟨fn,m,b,d,y,r⟩:=h
 have i:(execOp a.eval o).run P w=.ok (.round l fn m b d) w:=by simp[execOp,t,resolve,s,Deferred.ofValue,invoke,y]
 rw[x,i,Oper.uponIn_round]
 refine⟨λh=>by simp[Fence.wide]at h,r.mono λe q r=>?_⟩
 grind
def Ou{c:Array M}{i:Nat}{b:V Nat}{o:M}(e:c[i]? =O o)(d:o.guard=N)(h:o.wpIn Fence.wide n P a w (wpOpsIn Fence.wide n P c Q b) Q):wpOpsIn Fence.wide n P c Q (i::b) a w:=by unfold wpOpsIn;simp only[e,Region.wanted,d,if_true];omega
def Ml{E:qy}{A:List Nat}{b:Array M}{K:az->Prop}{c:List Nat}{q:List Deferred}
  (z:∀Γ e m a w d,SR P E Γ e m w a d->K d->wpOpsIn Fence.wide n P b Q c ⟨a,q⟩ w):
  ∀(L:List M)(is:List Nat)(Γ:aS)(e:bC)(m:Nat->Option kg)(a:Array D)(w:J)(d:az),is.map (λi=>b[i]?)=L.map O->
   (∀o∈L,o.guard=N/\eD o=T/\aD o.op=Z)->SR P E Γ e m w a d->cK P E.GE A b K L 0 d->wpOpsIn Fence.wide n P b Q (is++c) ⟨a,q⟩ w
 |[],[],Γ,e,m,a,w,d,_,_,h,hp=>z Γ e m a w d h hp
 |o::L,i::is,Γ,e,m,a,w,d,hi,hg,h,hp=>by let⟨x,S,g3⟩:=hg o (by simp);unfold cK at hp;simp only[x]at hp;simp only[ox,vbQ]at hi;refine Ou hi.1 x (qgK S (Oper.wp_mono (λF w' X=>?_) (IM (a:=⟨a,q⟩) h (λhm=>by simp_all) hp Q)));let⟨B,t,p,r,s,y,h2,_⟩:=X;let⟨H,R⟩:=F;simp only at B y;subst B;refine Ml (A:=A) z L is t p r H w' s hi.2 (λo ho=>hg o (vaQ _ ho)) y ?_;simp_all
end
def kP:W->Array M|.region _ ops _=>ops|_=>#[]
def qaI:W->Nat|.region id _ _=>id|_=>0
def JO(c:W)(i:Nat):M:=(kP c)[i]?.getD default
def XF(o:M):Array G:=match o.op with|.call c=>c.argTypes|_=>#[]
def Ox(o:M):K:=o.guard.isNone&&eD o&&!aD o.op
def xi{L:V M}(h:L.all Ox=T):∀o∈L,o.guard=N/\eD o=T/\aD o.op=false:=λo a=>by simp_all[Ox,and_assoc]
def rF{P:I}{GE:List (Nat×List U)}{A:List Nat}{c:Array M}{i e:az->Prop}(d:∀a,i a->e a):∀(L:List M)(id:Nat)(a:az),cK P GE A c i L id a->cK P GE A c e L id a
 |[],_,a,h=>d a h
 | o :: L,id,a,h => by
  unfold cK at h ⊢;split at h;.exact yV (λa b=>rF d L _ a b) h
  .split at h;.exact⟨λb=>yV (λa b=>rF d L _ a b) (h.1 b),λb=>rF d L _ _ (h.2 b)⟩
   omega
def qvv{P:I}{m:Nat}{sc:V It}{F:Prop}{b st0:az}(h:PS sc F)(c:F=qdt m sc b (λ_ a=>FG a st0)):yA P m b st0:=by let⟨_,a,e,d⟩:=Og (P:=P) (Eq.mp c h);exact e.trans d.weak
def dz.thenW{P:I}{GE:V (Nat×V U)}{m:Nat}{c:W}{e:Exit}{st0 a st2:az}(h:dz P GE m c (EX e a) st0)(d:yA P m a st2):dz P GE m c (EX e st2) st0:=h.mono λo i b=>⟨st2,b.2▸d,b.1,rfl⟩
def Qw{P:I}{GE:V (Nat×V U)}{A:V Nat}{a:Array M}{L:V M}{st b:az}{sc:V It}{F:Prop}(h:PS sc F)(c:F=PQ P GE A a (λ_ st=>FG st b) L 0 0 sc st):cK P GE A a (λst=>FG st b) L 0 st:=rF (λst ⟨_,d⟩=>d) L 0 st (w9 L 0 0 sc st (Eq.mp c h))
def FG.sr{P:I}{E:qy}{Γ:aS}{e:bC}{o:Nat->Q kg}{w:J}{a:Array D}{p st0:az}(h:SR P E Γ e o w a p)(q:FG p st0):∃d b c,SR P E d b c w a st0:=by let⟨d,b,c,s,_⟩:=(q.weak (P:=P) (m:=0)) E [] ⟨a,[]⟩ w rfl ⟨Γ,e,o,h,λi r=>absurd r (w0 _)⟩;grind
def qre:W->W|.rangeFunc _ _ a _=>a|_=>.skip
def qrf:W->W|.rangeFunc _ _ _ b=>b|_=>.skip
def gM{w:J}{b:Nat}{o:Obj}(h:w.heap[b]? =O o):b<w.heap.size:=(vh.1 h).1
open Go Go.Proofs.Tryz
set_option maxRecDepth 100000
structure Yd(P:Program)(GE:List (Nat×List PVal))(l:Nat){S α:Type}(c:α->List PVal)(step:S->α->Option (Bool×S))(J:Bool->S->aS->World->Prop):Prop where
 base:∀b s Γ w,J b s Γ w->zb GE Γ w
 side:∀b s Γ w,J b s Γ w->∀Γ' bs' ow' w' a' st',SR P (wU GE Γ w) Γ' bs' ow' w' a' st'->J b s Γ' w'
 yield:∀s Γ w x v n r,J true s Γ w->VR Γ [] w (.agg (c x)) v->step s x=some r->YieldAt Fence.wide n P l #[v] w λe w'=>∃Γ',e=.returned (.bool r.1)/\Γ.Le w Γ' w'/\J r.1 r.2 Γ' w'
section
variable{S:Type}(a:S->ag->Q (K×S))
mutual
def WO:ag->S->Q (K×S)|⟨o,n,k,ks⟩,s=>(a s ⟨o,n,k,ks⟩).bind λr=>match r.1 with|false=>O (Z,r.2)|true=>if ks.length<4611686018427387904 then Hl ks r.2 else N
def Hl:List ag->S->Q (K×S)|[],s=>O (T,s)|p::ps,s=>(WO p s).bind λr=>match r.1 with|false=>O (Z,r.2)|true=>Hl ps r.2
end
def qaE(p:ag)(s:S):WO a p s=(a s p).bind λr=>match r.1 with
  |false=>O (Z,r.2)
  |true=>if p.Kids.length<4611686018427387904 then Hl a p.Kids r.2 else N:=by
 let⟨o,n,k,ks⟩:=p
 rw[WO];rfl
end
abbrev fV:Nat:=318
noncomputable def bV:W:=f318.body.getD .skip
abbrev quL:W:=aE bV [Z]
abbrev qmf:W:=aE bV [T,Z,Z]
abbrev qvM:W:=aE bV [T,Z,T,Z,Z]
abbrev qvN:W:=aE bV [T,T,Z,Z]
abbrev vL:W:=aE bV [T,T,Z,T,Z,Z]
abbrev qvO:W:=aE bV [T,T,Z,T,Z,Z,Z]
abbrev quM:W:=aE bV [T,T,Z,T,Z,Z,T,T,Z,Z,Z]
abbrev qmg:W:=aE bV [T,T,Z,T,Z,Z,T,T,Z,Z,T,Z]
abbrev qvP:W:=aE bV [T,T,Z,T,Z,Z,T,T,Z,Z,T,T,Z,Z]
abbrev qvQ:W:=aE bV [T,T,Z,T,Z,Z,T,T,T]
abbrev qvR:W:=aE bV [T,T,T,Z]
def qp7:bV=.seq quL (.seq (.seq qmf (.cond (.tmp 10) (.seq qvM .ret) .skip)) (.seq (.seq qvN (.block 0 (.loop vL))) (.seq qvR .ret))):=by kernel_rfl
def qrm:vL=.seq qvO (.seq (.cond (.tmp 15) .skip (.exit 0)) (.seq (.block 1 (.seq quM (.seq qmg (.cond (.tmp 21) (.seq qvP .ret) .skip)))) qvQ)):=by kernel_rfl
abbrev yv(l:Nat):U:=.val (.func (.yield l) #[] #[])
abbrev qaL(p:ag):V U:=[.int .i64 p.Op,.str p.Name,.int .i64 p.N,sl af p.Kids]
def qvl(p:ag):ie 0 (qaL p):=by have:=dn p;rwa[cH]at this
abbrev quN(p:ag)(l:Nat):az:=aR 23 [(1,yv l),(2,.eptr (af p))] [.dead] []
abbrev qmS(l:Nat)(ks:V ag)(i:Int):az:=aR 23 [(1,yv l),(12,sl af ks),(13,.int .i64 (ks.length:Int)),(14,.int .i64 i)] [.dead] []
abbrev quO(l:Nat)(ks:V ag)(i:Int)(x:ag):az:=aR 23 [(1,yv l),(6,.eptr (af x)),(12,sl af ks),(13,.int .i64 (ks.length:Int)),(14,.int .i64 i)] [.dead,.dead] []
def qwY(p:ag)(l:Nat):dz Pg GE 0 quL (EX .normal (quN p l)) (aR 23 [(0,.agg (af p)),(1,yv l)] [] []):=by have z:=qwW (tX p) rfl<|eF .normal (aR 23 [(1,yv l),(2,.bptr 0 0)] [.cells (qaL p) []] []);have c:dz Pg GE 0 quL (EX .normal (aR 23 [(1,yv l),(2,.bptr 0 0)] [.cells (qaL p) []] [])) (aR 23 [(0,.agg (af p)),(1,yv l)] [] []):=fU (A:=[]) mixed z (by kernel_rfl);have d:=qvI 0 [qaL p] [1,2] [] (qvs (m:=0) (b:=0) rfl (qaL p) rfl) (qvt 0 (qvl p)) (qvu (l:=qaL p) (r:=qaL p) rfl)<|en (fr (aR 23 [(1,yv l),(2,.eptr (qaL p))] [.dead] []));have a:=c.thenW (st2:=aR 23 [(1,yv l),(2,.eptr (qaL p))] [.dead] []) (qvv d (by kernel_rfl));unfold quN;rw[cH];rw[cH]at a;exact a
def qwZ(p:ag)(l:Nat):cK Pg GE [] (kP qmf) (λa=>FG a (aR 23 [(1,yv l),(2,.eptr (af p)),(7,yv l),(8,.agg (af p))] [.dead] [])) ((kP qmf).toList.take 2) 0 (quN p l):=by have z:=sv (db p)<|en (fr (aR 23 [(1,yv l),(2,.eptr (af p)),(7,yv l),(8,.agg (af p))] [.dead] []));exact Qw z (by kernel_rfl)
def quP(p:ag)(l:Nat)(b:K):cK Pg GE [] (kP qmf) (λa=>FG a (aR 23 [(1,yv l),(2,.eptr (af p)),(10,.bool (!b))] [.dead] [])) ((kP qmf).toList.drop 3) 0 (aR 23 [(1,yv l),(2,.eptr (af p)),(7,yv l),(8,.agg (af p)),(9,.bool b)] [.dead] []):=by have z:=en (fr (aR 23 [(1,yv l),(2,.eptr (af p)),(10,.bool (!b))] [.dead] []));exact Qw z (by kernel_rfl)
abbrev vE(H:V ay)(b:K):az:=aR 23 [(4,.bool b)] H []
def qw0(p:ag)(l:Nat):dz Pg GE 0 (.seq qvM .ret) (EX .ret (vE [.dead] Z)) (aR 23 [(1,yv l),(2,.eptr (af p)),(10,.bool T)] [.dead] []):=by have z:=eF .ret (vE [.dead] Z);exact fU (A:=[]) mixed z (by kernel_rfl)
def qw1(p:ag)(l:Nat):dz Pg GE 0 qvN (EX .normal (qmS l p.Kids 0)) (aR 23 [(1,yv l),(2,.eptr (af p)),(10,.bool Z)] [.dead] []):=by have z:=sv (Xc p)<|sv (Xh p)<|qvK (je.ln p.Kids)<|eF .normal (qmS l p.Kids 0);exact fU (A:=[]) mixed z (by kernel_rfl)
abbrev qo5(l:Nat)(ks:V ag)(i:Int):az:=aR 23 [(1,yv l),(12,sl af ks),(13,.int .i64 (ks.length:Int)),(14,.int .i64 i),(15,.bool (Y (i<(ks.length:Int))))] [.dead] []
def qw2(l:Nat)(ks:V ag)(i:Int):dz Pg GE 0 qvO (EX .normal (qo5 l ks i)) (qmS l ks i):=by have z:=eF .normal (qo5 l ks i);exact fU (A:=[]) mixed z (by kernel_rfl)
def qw3(l:Nat)(ks:V ag)(i:Int)(x:ag)(d:cJ ks i=O x):dz Pg GE 0 quM (EX .normal (quO l ks i x)) (qo5 l ks i):=by have z:=sv (je.ia d)<|sv (db x)<|sx qd7<|sx (tX x)<|eF .normal (aR 23 [(1,yv l),(6,.bptr 1 0),(12,sl af ks),(13,.int .i64 (ks.length:Int)),(14,.int .i64 i)] [.dead,.cells (qaL x) []] []);have a:dz Pg GE 0 quM (EX .normal (aR 23 [(1,yv l),(6,.bptr 1 0),(12,sl af ks),(13,.int .i64 (ks.length:Int)),(14,.int .i64 i)] [.dead,.cells (qaL x) []] [])) (qo5 l ks i):=fU (A:=[]) mixed z (by kernel_rfl);have e:=qvI 1 [qaL x] [1,6,12,13,14] [] (qvs (m:=0) (b:=1) rfl (qaL x) rfl) (qvt 1 (qvl x)) (qvu (l:=qaL x) (r:=qaL x) rfl)<|sf (qwI 1 (p:=sl af ks) (cw dn ks))<|en (fr (aR 23 [(1,yv l),(6,.eptr (qaL x)),(12,sl af ks),(13,.int .i64 (ks.length:Int)),(14,.int .i64 i)] [.dead,.dead] []));have c:=a.thenW (st2:=aR 23 [(1,yv l),(6,.eptr (qaL x)),(12,sl af ks),(13,.int .i64 (ks.length:Int)),(14,.int .i64 i)] [.dead,.dead] []) (qvv e (by kernel_rfl));unfold quO;rw[cH];exact c
def qw4(l:Nat)(ks:V ag)(i:Int)(x:ag):cK Pg GE [] (kP qmg) (λa=>FG a (aR 23 [(1,yv l),(12,sl af ks),(13,.int .i64 (ks.length:Int)),(14,.int .i64 i),(18,.agg (af x)),(19,yv l)] [.dead,.dead] [])) ((kP qmg).toList.take 2) 0 (quO l ks i x):=by have z:=sv (db x)<|en (fr (aR 23 [(1,yv l),(12,sl af ks),(13,.int .i64 (ks.length:Int)),(14,.int .i64 i),(18,.agg (af x)),(19,yv l)] [.dead,.dead] []));exact Qw z (by kernel_rfl)
abbrev qvS(l:Nat)(ks:V ag)(i:Int)(x:ag)(b:K):az:=aR 23 [(1,yv l),(12,sl af ks),(13,.int .i64 (ks.length:Int)),(14,.int .i64 i),(18,.agg (af x)),(19,yv l),(20,.bool b)] [.dead,.dead] []
abbrev qrp(l:Nat)(ks:V ag)(i:Int)(b:K):az:=aR 23 [(1,yv l),(12,sl af ks),(13,.int .i64 (ks.length:Int)),(14,.int .i64 i),(21,.bool (!b))] [.dead,.dead] []
def quQ(l:Nat)(ks:V ag)(i:Int)(x:ag)(b:K):cK Pg GE [] (kP qmg) (λa=>FG a (qrp l ks i b)) ((kP qmg).toList.drop 3) 0 (qvS l ks i x b):=by have z:=en (fr (qrp l ks i b));exact Qw z (by kernel_rfl)
def qw5(l:Nat)(ks:V ag)(i:Int):dz Pg GE 0 (.seq qvP .ret) (EX .ret (vE [.dead,.dead] Z)) (qrp l ks i Z):=by have z:=eF .ret (vE [.dead,.dead] Z);exact fU (A:=[]) mixed z (by kernel_rfl)
def qw6(l:Nat)(ks:V ag)(i:Int):dz Pg GE 0 qvQ (EX .normal (⟨(qmS l ks (dc (i+1))).tmps,[.dead,.dead],[]⟩)) (qrp l ks i T):=by have z:=eF .normal (⟨(qmS l ks (dc (i+1))).tmps,[.dead,.dead],[]⟩);exact fU (A:=[]) mixed z (by kernel_rfl)
def qw7(l:Nat)(ks:V ag)(i:Int):dz Pg GE 0 (.seq qvR .ret) (EX .ret (vE [.dead] T)) (qo5 l ks i):=by have z:=eF .ret (vE [.dead] T);exact fU (A:=[]) mixed z (by kernel_rfl)
def VF{S:Type}(m:K->S->aS->J->Prop)(c:aS)(i:J)(b:K)(s:S)(h:az)(a:Array D)(w:J):Prop:=∃Γ,m b s Γ w/\c.Le i Γ w/\∃E d e,SR Pg E Γ d e w a h
structure Dd(st:az)(k:Nat):Prop where
 c:ie 0 st.tmps
 b:st.boxes=List.replicate k .dead
 o:st.own=[]
structure R4(c:Code):Prop where
 eq:c=.region (qaI c) (kP c) false
 rg:List.range (kP c).size=[0,1]++2::([3]++[])
 p1:[0,1].map (λi=>(kP c)[i]?)=((kP c).toList.take 2).map some
 p2:((kP c).toList.take 2).all Ox=true
 o:(kP c)[2]? =some (JO c 2)
 g:(JO c 2).guard=none
 q1:[3].map (λi=>(kP c)[i]?)=((kP c).toList.drop 3).map some
 q2:((kP c).toList.drop 3).all Ox=true
def quE:R4 qmf:=⟨by kernel_rfl,by kernel_rfl,by kernel_rfl,by kernel_rfl,by kernel_rfl,by kernel_rfl,by kernel_rfl,by kernel_rfl⟩
def quF:R4 qmg:=⟨by kernel_rfl,by kernel_rfl,by kernel_rfl,by kernel_rfl,by kernel_rfl,by kernel_rfl,by kernel_rfl,by kernel_rfl⟩
def qoN:(JO qmf 2).op=.call {callee:=.value (.tmp 7),args:=#[.tmp 8],argTypes:=XF (JO qmf 2)}:=by kernel_rfl
def qrn:(JO qmf 2).dst=O 9:=by kernel_rfl
def qoO:(JO qmg 2).op=.call {callee:=.value (.func fV),args:=#[.tmp 18,.tmp 19],argTypes:=XF (JO qmg 2)}:=by kernel_rfl
def qro:(JO qmg 2).dst=O 20:=by kernel_rfl
section
variable{S:Type}{m:S->ag->Q (K×S)}{P:K->S->aS->J->Prop}{l:Nat}{B:aS}{F:J}{b:K}{s:S}{st0 st1 z stB:az}{k kA kB:Nat}{a:Array D}{w:J}{n:Nat}{ds:V Deferred}
def VF.again(o:Yd Pg GE l af m P)(c:Dd st0 k)(h:VF P B F b s st0 a w):∃Γ,P b s Γ w/\B.Le F Γ w/\SR Pg (wU GE Γ w) Γ (List.replicate k N) (λ_=>N) w a st0:=by let⟨Γ,e,d,E,r,t,i⟩:=h;let⟨tm,H,own⟩:=st0;have p:H=_:=c.b;have q:own=[]:=c.o;subst p;subst q;exact⟨Γ,e,d,i.again c.c (o.base _ _ _ _ e) (.refl _ _) k⟩
def VF.redo(i:Yd Pg GE l af m P)(d:Dd st0 k)(h:VF P B F b s st0 a w)(o:Nat):VF P B F b s ⟨st0.tmps,List.replicate o .dead,[]⟩ a w:=by let⟨Γ,e,c,p⟩:=h.again i d;exact⟨Γ,e,c,_,_,_,p.again d.c (i.base _ _ _ _ e) (.refl _ _) o⟩
def VF.piece(o:Yd Pg GE l af m P){c:W}{e:Exit}(H:dz Pg GE 0 c (EX e st1) st0)(A:Dd st0 k)(h:VF P B F b s st0 a w):c.wpIn Fence.wide n Pg (λr d x=>r=e/\d.defers=ds/\VF P B F b s st1 d.tmps x) ⟨a,ds⟩ w:=by let⟨Γ,t,p,E⟩:=h.again o A;refine wpIn_mono (H.wide (o.base _ _ _ _ t) E n ds) ?_;rintro r d x ⟨L,q,y,R,X,i,rfl,rfl⟩;exact⟨rfl,L,q,o.side _ _ _ _ t _ _ _ _ _ _ i,p.trans i.step.le,_,_,_,i⟩
def VF.reg(R:Yd Pg GE l af m P){c:W}(o:R4 c)(hD:Dd st0 k)(a0:Dd stB kB)(E:cK Pg GE [] (kP c) (λe=>FG e z) ((kP c).toList.take 2) 0 st0)(H:cK Pg GE [] (kP c) (λe=>FG e st1) ((kP c).toList.drop 3) 0 stB){r:Bool×S}
  (x:∀a w (next:Act->J->Prop) (ar:Exit->Act->J->Prop),VF P B F b s z a w->(∀d i,VF P B F r.1 r.2 stB d i->next ⟨d,ds⟩ i)->(JO c 2).wpIn Fence.wide n Pg ⟨a,ds⟩ w next ar)
  (h:VF P B F b s st0 a w):c.wpIn Fence.wide n Pg (λe' d i=>e'=.normal/\d.defers=ds/\VF P B F r.1 r.2 st1 d.tmps i) ⟨a,ds⟩ w:=by
 have L:(Code.region (qaI c) (kP c) Z).wpIn Fence.wide n Pg (λe' d i=>e'=.normal/\d.defers=ds/\VF P B F r.1 r.2 st1 d.tmps i) ⟨a,ds⟩ w:=by refine wpIn_region ?_;rw[o.rg];let⟨Γ,hJ,a4,hS⟩:=h.again R hD;refine Ml (A:=[]) (K:=λe=>FG e z) (λa6 X a5 d i e p hK=>?_) _ _ Γ _ _ a w st0 o.p1 (xi o.p2) hS E;let⟨a7,ab,an,q⟩:=FG.sr p hK;refine Ou o.o o.g (x d i _ _ ⟨a7,R.side _ _ _ _ hJ _ _ _ _ _ _ q,a4.trans q.step.le,_,_,_,q⟩ λa3 w3 h3=>?_);let⟨a8,a1,y,a2⟩:=h3.again R a0;refine Ml (A:=[]) (K:=λe=>FG e st1) (λa6 X a5 d i e p hK=>?_) _ _ a8 _ _ a3 w3 stB o.q1 (xi o.q2) a2 H;let⟨a9,ad,ao,t⟩:=FG.sr p hK;exact⟨rfl,rfl,a9,R.side _ _ _ _ a1 _ _ _ _ _ _ t,y.trans t.step.le,_,_,_,t⟩
 rw[<-o.eq]at L
 exact L
def VF.ev(h:VF P B F b s st0 a w){t:Nat}{x:K}(o:st0.tmps.getD t .undef=.bool x):(Act.mk a ds).eval (.tmp t)=.bool x:=by let⟨Γ,q,i,E,p,r,e⟩:=h;have c:=e.opv ds (.tmp t);have d:opv E.GE st0.tmps (.tmp t)=.bool x:=o;rw[d]at c;generalize (Act.mk a ds).eval (.tmp t)=v at c;cases c;rfl
def VF.put(A:Yd Pg GE l af m P)(x:Dd z kA){Γ e:aS}{w':J}{E:qy}{q:bC}{H:Nat->Q kg}(y:SR Pg E Γ q H w a z)(o:B.Le F Γ w)(c:Γ.Le w e w'){r:K×S}(h:P r.1 r.2 e w'){d:Nat}(t:stB=⟨z.tmps.set d (.bool r.1),List.replicate kA .dead,[]⟩):VF P B F r.1 r.2 stB (a.setIfInBounds d (.bool r.1)) w':=by have i:=(y.again x.c (A.base _ _ _ _ h) c kA).set (d:=d) (p:=.bool r.1) (v:=.bool r.1) (.bool _);exact⟨e,h,o.trans c,_,_,_,t▸i⟩
def VF.yieldc(E:Yd Pg GE l af m P)(hD:Dd z kA){p:ag}{r:K×S}(hr:m s p=O r){o:M}{f x d:Nat}{X:Array G}(h7:z.tmps.getD f .undef=yv l)(h8:z.tmps.getD x .undef=.agg (af p))
  (ho:o.op=.call {callee:=.value (.tmp f),args:=#[.tmp x],argTypes:=X}) (hd:o.dst=O d) (hB:stB=⟨z.tmps.set d (.bool r.1),List.replicate kA .dead,[]⟩)
  {next:Act->J->Prop} {Q:Exit->Act->J->Prop} (h:VF P B F T s z a w) (hn:∀a' i,VF P B F r.1 r.2 stB a' i->next ⟨a',ds⟩ i):o.wpIn Fence.wide n Pg ⟨a,ds⟩ w next Q:=by
 let⟨Γ,hJ,L,A⟩:=h.again E hD
 have t:=A.opv ds (.tmp f)
 have h2:=A.opv ds (.tmp x)
 have e1:opv (wU GE Γ w).GE z.tmps (.tmp f)=yv l:=h7
 have e2:opv (wU GE Γ w).GE z.tmps (.tmp x)=.agg (af p):=h8
 rw[e1]at t;rw[e2]at h2
 have H:(Act.mk a ds).eval (.tmp f)=.func (.yield l) #[] #[]:=by generalize (Act.mk a ds).eval (.tmp f)=v at t;cases t;rfl
 refine qel ho H (R:=λe i=>∃c,e=.returned (.bool r.1)/\Γ.Le w c i/\P r.1 r.2 c i) ?_ ?_
 .have:=E.yield s Γ w p _ (n - 1) r hJ (h2.clo (by simp only[PVal.cl];exact dn p)) hr
  simpa using this
 .rintro e i ⟨c,rfl,q,y⟩
  refine⟨_,rfl,?_⟩
  rw[hd]
  exact hn _ _ (VF.put E hD A L q y hB)
def qpg(m:S->ag->Q (K×S))(P:K->S->aS->J->Prop)(l:Nat)(p:ag):Prop:=∀s r Γ w v n,WO m p s=O r->P T s Γ w->VR Γ [] w (.agg (af p)) v-> CallsIn Fence.wide n Pg fV #[v,.func (.yield l) #[] #[]] w λe d=>∃c,e=.returned (.bool r.1)/\Γ.Le w c d/\P r.1 r.2 c d
def VF.visitc(hY:Yd Pg GE l af m P)(hD:Dd z kA){p:ag}(hp:qpg m P l p){r:K×S}(hr:WO m p s=O r){o:M}{x y d:Nat}{X:Array G}(h7:z.tmps.getD y .undef=yv l)(h8:z.tmps.getD x .undef=.agg (af p))
  (ho:o.op=.call {callee:=.value (.func fV),args:=#[.tmp x,.tmp y],argTypes:=X}) (hd:o.dst=O d) (hB:stB=⟨z.tmps.set d (.bool r.1),List.replicate kA .dead,[]⟩)
  {next:Act->J->Prop} {Q:Exit->Act->J->Prop} (h:VF P B F T s z a w) (hn:∀a' i,VF P B F r.1 r.2 stB a' i->next ⟨a',ds⟩ i):o.wpIn Fence.wide n Pg ⟨a,ds⟩ w next Q:=by
 let⟨Γ,hJ,L,E⟩:=h.again hY hD
 have t:=E.opv ds (.tmp y)
 have h2:=E.opv ds (.tmp x)
 have e1:opv (wU GE Γ w).GE z.tmps (.tmp y)=yv l:=h7
 have e2:opv (wU GE Γ w).GE z.tmps (.tmp x)=.agg (af p):=h8
 rw[e1]at t;rw[e2]at h2
 have H:(Act.mk a ds).eval (.tmp y)=.func (.yield l) #[] #[]:=by generalize (Act.mk a ds).eval (.tmp y)=v at t;cases t;rfl
 refine qfR ho (g:=fV) (fs:=#[]) (cs:=#[]) rfl call318 (R:=λe i=>∃c,e=.returned (.bool r.1)/\Γ.Le w c i/\P r.1 r.2 c i) ?_ ?_
 .have:=hp s r Γ w _ (n - 1) hr hJ (h2.clo (by simp only[PVal.cl];exact dn p))
  simpa[H]using this
 .rintro e i ⟨c,rfl,q,A⟩
  refine⟨_,rfl,?_⟩
  rw[hd]
  exact hn _ _ (VF.put hY hD E L q A hB)
def VF.fin{x:K}{H:V ay}(h:VF P B F b s (vE H x) a w):(results f318 a).run Pg w=.ok (.bool x) w:=by let⟨Γ,p,i,E,o,q,e⟩:=h;let⟨v,c,d,_⟩:=p7 e (fn:=f318) (r:=.bool x) (by kernel_rfl);cases d;exact c
def qf1{N:Nat}{L:V (Nat×U)}(h:qkZ 0 L)(k:Nat){H:V ay}(c:H=List.replicate k .dead):Dd (aR N L H []) k:=⟨I6 h,c,rfl⟩
def qfW(ks:V ag):(sl af ks).cl 0:=cw dn ks
def qmv(l:Nat)(ks:V ag)(i:Int):Dd (qmS l ks i) 1:=qf1 (by exact aI hV<|aI (qfW ks)<|aI hV<|aI hV hV) 1 rfl
def qmw(l:Nat)(ks:V ag)(i:Int):Dd (qo5 l ks i) 1:=qf1 (by exact aI hV<|aI (qfW ks)<|aI hV<|aI hV<|aI hV hV) 1 rfl
def qmx(l:Nat)(ks:V ag)(i:Int)(b:K):Dd (qrp l ks i b) 2:=qf1 (by exact aI hV<|aI (qfW ks)<|aI hV<|aI hV<|aI hV hV) 2 rfl
def qej(A:Yd Pg GE l af m P)(p:ag)(hk:∀x∈p.Kids,qpg m P l x):qpg m P l p:=by
 intro s r Γ w v n hv hJ b2;refine callsIn_of_wp func318 (c:=bV) rfl hV ?_;have h0:VF P Γ w T s (aR 23 [(0,.agg (af p)),(1,yv l)] [] []) (#[v,.func (.yield l) #[] #[]]++Array.replicate 21 undef) w:=by
  refine⟨Γ,hJ,.refl _ _,_,_,_,(A.base _ _ _ _ hJ).fresh 0 (tmps:=[.agg (af p),yv l]++List.replicate 21 .undef) (by simp) λt q u L hu=>?_⟩;by_cases ht:t<2;.rw[B2 (by simpa using ht)]at L;rw[va3 (by simpa using ht)]at hu;match t,ht with|0,_=>simp at L hu;subst L;subst hu;exact b2|1,_=>simp at L hu;subst L;subst hu;exact .val _
  .rw[Lf (by simpa using ht),vaW]at L;split at L<;>cases L;exact .undef u
 show bV.wpIn Fence.wide n Pg _ ⟨_,[]⟩ w;rw[qaE]at hv;let⟨q,L,hv⟩:=L0 hv;have hb:Pg.funcs.size=Pg.funcs.size:=rfl
 have E:∀{b:K}{s:S}{x:K}{H:V ay}{a':Act}{w':J},a'.defers=[]->VF P Γ w b s (vE H x) a'.tmps w'->b=r.1->s=r.2->x=r.1->
   bodyPost Pg f318 (λe w'=>∃X,e=.returned (.bool r.1)/\Γ.Le w X w'/\P r.1 r.2 X w') .ret a' w':=by
  rintro b s x H a' w' hd h rfl rfl rfl
  refine⟨hd,.bool r.1,h.fin,?_⟩
  let⟨X,ar,b0,_⟩:=h
  exact⟨X,rfl,b0,ar⟩
 rw[qp7];refine wpIn_seq (wpIn_mono (VF.piece A (qwY p l) (k:=0) (qf1 (by exact aI (dn p)<|aI hV hV) 0 rfl) h0) ?_);rintro e ⟨a1,b7⟩ w1 ⟨rfl,rfl,h1⟩;have d2:(PVal.eptr (af p)).cl 0:=by simp only[PVal.cl];exact dn p
 have d3:(PVal.agg (af p)).cl 0:=by simp only[PVal.cl];exact dn p
 refine wpIn_seq (wpIn_seq (wpIn_mono (VF.reg A quE (k:=1) (kB:=1) (r:=q) (stB:=aR 23 [(1,yv l),(2,.eptr (af p)),(7,yv l),(8,.agg (af p)),(9,.bool q.1)] [.dead] []) (qf1 (by exact aI hV<|aI d2 hV) 1 rfl) (qf1 (by exact aI hV<|aI d2<|aI hV<|aI d3<|aI hV hV) 1 rfl) (qwZ p l) (quP p l q.1)
  (λa w next bl h hn=>VF.yieldc A (kA:=1) (qf1 (by exact aI hV<|aI d2<|aI hV<|aI d3 hV) 1 rfl) L (f:=7) (x:=8) (d:=9) rfl rfl qoN qrn rfl h hn) h1) ?_))
 rintro e ⟨a2,bb⟩ w2 ⟨rfl,rfl,h2⟩;refine wpIn_cond (h2.ev (t:=10) (x:=!q.1) rfl) ?_;have a9:∀b:K,Dd (aR 23 [(1,yv l),(2,.eptr (af p)),(10,.bool b)] [.dead] []) 1:=λb=>qf1 (by exact aI hV<|aI d2<|aI hV hV) 1 rfl;let⟨q1,q2⟩:=q;cases q1 with
 |false=>cases hv;refine wpIn_mono (VF.piece A (qw0 p l) (a9 T) h2) ?_;rintro e ⟨a3,ad⟩ w3 ⟨rfl,rfl,h3⟩;exact E rfl h3 rfl rfl rfl
 | true =>
  simp only at hv;split at hv;case isFalse=>cases hv
  rename_i b5;refine wpIn_skip ?_;refine wpIn_seq (wpIn_seq (wpIn_mono (VF.piece A (qw1 p l) (a9 Z) h2) ?_));rintro e ⟨a3,ad⟩ w3 ⟨rfl,rfl,h3⟩
  refine wpIn_block (wpIn_loop_ghost (λk a w'=>a.defers=[]/\∃(i:Nat)(s':S),k=p.Kids.length - i/\i<=p.Kids.length/\Hl m (p.Kids.drop i) s'=O r/\VF P Γ w T s' (qmS l p.Kids (i:Int)) a.tmps w') (p.Kids.length)
   ⟨rfl,0,q2,rfl,s5 _,hv,h3⟩ ?_)
  rintro k ⟨a4,bc⟩ w4 ⟨ab,i,s',rfl,hi,o,h4⟩;simp only at ab;subst ab;rw[qrm];refine wpIn_seq (wpIn_mono (VF.piece A (qw2 l p.Kids i) (qmv _ _ _) h4) ?_);rintro e ⟨a5,be⟩ w5 ⟨rfl,rfl,h5⟩;refine wpIn_seq (wpIn_cond (h5.ev (t:=15) (x:=Y ((i:Int)<(p.Kids.length:Int))) rfl) ?_);by_cases R:i<p.Kids.length
  .rw[vaY (by omega)];refine wpIn_skip ?_;have a0:p.Kids.drop i=p.Kids[i]::p.Kids.drop (i+1):=vaN R;rw[a0,Hl]at o;let⟨q',b1,o⟩:=L0 o;have hx:cJ p.Kids (i:Int)=O p.Kids[i]:=aC _ _ R;generalize b4:p.Kids[i]=x at *;have b3:x∈p.Kids:=b4▸mx R;have e2:(PVal.eptr (af x)).cl 0:=by simp only[PVal.cl];exact dn x
   have e3:(PVal.agg (af x)).cl 0:=by simp only[PVal.cl];exact dn x
   refine wpIn_seq (wpIn_block (wpIn_seq (wpIn_mono (VF.piece A (qw3 l p.Kids i x hx) (qmw _ _ _) h5) ?_)));rintro e ⟨a6,an⟩ w6 ⟨rfl,rfl,h6⟩
   refine wpIn_seq (wpIn_mono (VF.reg A quF (k:=2) (kB:=2) (r:=q') (stB:=qvS l p.Kids i x q'.1) (qf1 (by exact aI hV<|aI e2<|aI (qfW _)<|aI hV<|aI hV hV) 2 rfl) (qf1 (by exact aI hV<|aI (qfW _)<|aI hV<|aI hV<|aI e3<|aI hV<|aI hV hV) 2 rfl) (qw4 l p.Kids i x) (quQ l p.Kids i x q'.1)
    (λa w next bl h hn=>VF.visitc A (kA:=2) (qf1 (by exact aI hV<|aI (qfW _)<|aI hV<|aI hV<|aI e3<|aI hV hV) 2 rfl) (hk x b3) b1 (y:=19) (x:=18) (d:=20) rfl rfl qoO qro rfl h hn) h6) ?_)
   rintro e ⟨a7,bg⟩ w7 ⟨rfl,rfl,h7⟩;refine wpIn_cond (h7.ev (t:=21) (x:=!q'.1) rfl) ?_;let⟨q1,q2⟩:=q';cases q1 with
   |false=>cases o;refine wpIn_mono (VF.piece A (qw5 l p.Kids i) (qmx _ _ _ _) h7) ?_;rintro e ⟨a8,ao⟩ w8 ⟨rfl,rfl,h8⟩;exact E rfl h8 rfl rfl rfl
   |true=>
    refine wpIn_skip ?_;refine wpIn_mono (VF.piece A (qw6 l p.Kids i) (qmx _ _ _ _) h7) ?_;rintro e ⟨a8,ao⟩ w8 ⟨rfl,rfl,h8⟩;refine⟨p.Kids.length - (i+1),by omega,rfl,i+1,q2,rfl,R,o,?_⟩;have e:dc ((i:Int)+1)=((i+1:Nat):Int):=by rw[ch (by omega) (by omega)];omega
    rw[e]at h8;exact VF.redo (st0:=⟨(qmS l p.Kids ((i+1:Nat):Int)).tmps,[.dead,.dead],[]⟩) A (k:=2) ⟨(qmv l p.Kids _).c,rfl,rfl⟩ h8 1
  .rw[decide_eq_false (by omega)];refine wpIn_exit ?_;have bi:i=p.Kids.length:=by omega
   rw[vb7 (by omega),Hl]at o;cases o;refine wpIn_mono (VF.piece A (qw7 l p.Kids i) (qmw _ _ _) h5) ?_;rintro e ⟨a6,an⟩ w6 ⟨rfl,rfl,h6⟩;exact E rfl h6 rfl rfl rfl
mutual
def qcC(c:Yd Pg GE l af m P):∀p:ag,qpg m P l p|⟨o,n,k,ks⟩=>qej c ⟨o,n,k,ks⟩ (YR c ks)
def YR(c:Yd Pg GE l af m P):∀ks:List ag,∀x∈ks,qpg m P l x
 |[],x,hx=>by simp at hx
 | y :: ks,x,hx => by
  rcases x8.1 hx with h|h;.exact h▸qcC c y
  .exact YR c ks x h
end
end
end Go.Proofs.YtankopenjcbeeaaGreatDoor
namespace Go.Proofs
open Go.Shelf
open Option renaming some→O,none→N
open Go renaming TypeId→G,Value→D,Program→I,Oper→M,World→J,Code→W
open Bool renaming true→T,false→Z
open Decidable renaming decide→Y
open YtankopenjcbeeaaGreatDoor renaming PVal→U
noncomputable def Tryz.laysM171_ren : Go.Shelf.Ren := ⟨fun | 171 => 202 | 243 => 244 | 246 => 284 | 283 => 309 | 284 => 310 | 285 => 311 | 286 => 312 | 129 => 101 | 317 => 322 | 318 => 323 | 319 => 324 | 320 => 325 | 337 => 333 | 338 => 334 | n => n, fun | 3 => 3 | 9 => 9 | 2 => 2 | 4 => 4 | 171 => 272 | 0 => 0 | 53 => 152 | 37 => 104 | 5 => 5 | 173 => 274 | 212 => 287 | 51 => 78 | 20 => 20 | 213 => 288 | 46 => 129 | 232 => 293 | 233 => 294 | n => n, fun | 17 => 2 | 18 => 4 | 19 => 5 | n => n⟩
def Tryz.laysM171 : Go.Proofs.LaysM.n171 Tryz.prog Tryz.laysM171_ren := {
 mixed := by kernel_rfl
 f129 := Tryz.func101.trans (congrArg O (by kernel_rfl))
 f171 := Tryz.func202.trans (congrArg O (by kernel_rfl))
 f243 := Tryz.func244.trans (congrArg O (by kernel_rfl))
 f246 := Tryz.func284.trans (congrArg O (by kernel_rfl))
 f283 := Tryz.func309.trans (congrArg O (by kernel_rfl))
 f284 := Tryz.func310.trans (congrArg O (by kernel_rfl))
 f285 := Tryz.func311.trans (congrArg O (by kernel_rfl))
 f286 := Tryz.func312.trans (congrArg O (by kernel_rfl))
 f317 := Tryz.func322.trans (congrArg O (by kernel_rfl))
 f318 := Tryz.func323.trans (congrArg O (by kernel_rfl))
 f319 := Tryz.func324.trans (congrArg O (by kernel_rfl))
 f320 := Tryz.func325.trans (congrArg O (by kernel_rfl))
 f337 := Tryz.func333.trans (congrArg O (by kernel_rfl))
 f338 := Tryz.func334.trans (congrArg O (by kernel_rfl))
 t0 := Tryz.underlying0
 a0 := Tryz.isAgg0
 z0 := Tryz.sizeOf0
 v0 := Tryz.zeroValue0
 t2 := Tryz.underlying2
 a2 := Tryz.isAgg2
 z2 := Tryz.sizeOf2
 v2 := Tryz.zeroValue2
 t3 := Tryz.underlying3
 a3 := Tryz.isAgg3
 z3 := Tryz.sizeOf3
 v3 := Tryz.zeroValue3
 t4 := Tryz.underlying4
 a4 := Tryz.isAgg4
 z4 := Tryz.sizeOf4
 v4 := Tryz.zeroValue4
 t5 := Tryz.underlying5
 a5 := Tryz.isAgg5
 z5 := Tryz.sizeOf5
 v5 := Tryz.zeroValue5
 t9 := Tryz.underlying9
 a9 := Tryz.isAgg9
 z9 := Tryz.sizeOf9
 v9 := Tryz.zeroValue9
 t20 := Tryz.underlying20
 a20 := Tryz.isAgg20
 z20 := Tryz.sizeOf20
 v20 := Tryz.zeroValue20
 t37 := Tryz.underlying104
 a37 := Tryz.isAgg104
 z37 := Tryz.sizeOf104
 v37 := Tryz.zeroValue104
 t46 := Tryz.underlying129
 a46 := Tryz.isAgg129
 z46 := Tryz.sizeOf129
 v46 := Tryz.zeroValue129
 t51 := Tryz.underlying78
 a51 := Tryz.isAgg78
 z51 := Tryz.sizeOf78
 v51 := Tryz.zeroValue78
 t53 := Tryz.underlying152
 a53 := Tryz.isAgg152
 z53 := Tryz.sizeOf152
 v53 := Tryz.zeroValue152
 t171 := Tryz.underlying272
 a171 := Tryz.isAgg272
 z171 := Tryz.sizeOf272
 v171 := Tryz.zeroValue272
 t173 := Tryz.underlying274
 a173 := Tryz.isAgg274
 z173 := Tryz.sizeOf274
 v173 := Tryz.zeroValue274
 t212 := Tryz.underlying287
 a212 := Tryz.isAgg287
 z212 := Tryz.sizeOf287
 v212 := Tryz.zeroValue287
 t213 := Tryz.underlying288
 a213 := Tryz.isAgg288
 z213 := Tryz.sizeOf288
 t232 := Tryz.underlying293
 a232 := Tryz.isAgg293
 z232 := Tryz.sizeOf293
 v232 := Tryz.zeroValue293
 t233 := Tryz.underlying294
 a233 := Tryz.isAgg294
 z233 := Tryz.sizeOf294
 v233 := Tryz.zeroValue294
 g17 := by kernel_rfl
 g18 := by kernel_rfl
 g19 := by kernel_rfl
 i0 := by kernel_rfl
 i2 := by kernel_rfl
 i3 := by kernel_rfl
 i4 := by kernel_rfl
 i5 := by kernel_rfl
 i9 := by kernel_rfl
 i20 := by kernel_rfl
 i37 := by kernel_rfl
 i46 := by kernel_rfl
 i51 := by kernel_rfl
 i53 := by kernel_rfl
 i171 := by kernel_rfl
 i173 := by kernel_rfl
 i212 := by kernel_rfl
 i232 := by kernel_rfl
 i233 := by kernel_rfl
 m17 := by kernel_rfl
 m18 := by kernel_rfl
 m19 := by kernel_rfl }
noncomputable def Tryz.lays156_ren : Go.Shelf.Ren := ⟨fun | 156 => 273 | 165 => 306 | 166 => 67 | 169 => 68 | 240 => 85 | 241 => 321 | 276 => 118 | 277 => 332 | n => n, fun | 31 => 32 | 9 => 9 | 3 => 3 | 4 => 4 | 0 => 0 | 20 => 20 | 72 => 106 | 76 => 109 | 70 => 103 | 37 => 104 | 75 => 108 | 127 => 138 | 164 => 159 | 5 => 5 | 80 => 111 | n => n, fun | n => n⟩
def Tryz.lays156 : Go.Proofs.Lays.n156 Tryz.prog Tryz.lays156_ren := {
 mixed := by kernel_rfl
 f156 := Tryz.func273.trans (congrArg O (by kernel_rfl))
 f165 := Tryz.func306.trans (congrArg O (by kernel_rfl))
 f166 := Tryz.func67.trans (congrArg O (by kernel_rfl))
 f169 := Tryz.func68.trans (congrArg O (by kernel_rfl))
 f240 := Tryz.func85.trans (congrArg O (by kernel_rfl))
 f241 := Tryz.func321.trans (congrArg O (by kernel_rfl))
 f276 := Tryz.func118.trans (congrArg O (by kernel_rfl))
 f277 := Tryz.func332.trans (congrArg O (by kernel_rfl))
 t0 := Tryz.underlying0
 a0 := Tryz.isAgg0
 z0 := Tryz.sizeOf0
 v0 := Tryz.zeroValue0
 t3 := Tryz.underlying3
 a3 := Tryz.isAgg3
 z3 := Tryz.sizeOf3
 v3 := Tryz.zeroValue3
 t4 := Tryz.underlying4
 a4 := Tryz.isAgg4
 z4 := Tryz.sizeOf4
 v4 := Tryz.zeroValue4
 t9 := Tryz.underlying9
 a9 := Tryz.isAgg9
 z9 := Tryz.sizeOf9
 v9 := Tryz.zeroValue9
 t20 := Tryz.underlying20
 a20 := Tryz.isAgg20
 z20 := Tryz.sizeOf20
 v20 := Tryz.zeroValue20
 t31 := Tryz.underlying32
 a31 := Tryz.isAgg32
 z31 := Tryz.sizeOf32
 v31 := Tryz.zeroValue32
 t37 := Tryz.underlying104
 a37 := Tryz.isAgg104
 z37 := Tryz.sizeOf104
 v37 := Tryz.zeroValue104
 t70 := Tryz.underlying103
 a70 := Tryz.isAgg103
 z70 := Tryz.sizeOf103
 v70 := Tryz.zeroValue103
 t72 := Tryz.underlying106
 a72 := Tryz.isAgg106
 z72 := Tryz.sizeOf106
 v72 := Tryz.zeroValue106
 t75 := Tryz.underlying108
 a75 := Tryz.isAgg108
 z75 := Tryz.sizeOf108
 v75 := Tryz.zeroValue108
 t76 := Tryz.underlying109
 a76 := Tryz.isAgg109
 z76 := Tryz.sizeOf109
 v76 := Tryz.zeroValue109
 t127 := Tryz.underlying138
 a127 := Tryz.isAgg138
 z127 := Tryz.sizeOf138
 v127 := Tryz.zeroValue138
 t164 := Tryz.underlying159
 a164 := Tryz.isAgg159
 z164 := Tryz.sizeOf159
 v164 := Tryz.zeroValue159 }
noncomputable def Tryz.lays169_ren : Go.Shelf.Ren := ⟨fun | 169 => 68 | n => n, fun | 70 => 103 | 9 => 9 | 0 => 0 | 72 => 106 | 37 => 104 | 127 => 138 | 3 => 3 | 5 => 5 | n => n, fun | n => n⟩
def Tryz.lays169 : Go.Proofs.Lays.n169 Tryz.prog Tryz.lays169_ren := {
 mixed := by kernel_rfl
 f169 := Tryz.func68.trans (congrArg O (by kernel_rfl))
 t0 := Tryz.underlying0
 a0 := Tryz.isAgg0
 z0 := Tryz.sizeOf0
 v0 := Tryz.zeroValue0
 t3 := Tryz.underlying3
 a3 := Tryz.isAgg3
 z3 := Tryz.sizeOf3
 v3 := Tryz.zeroValue3
 t9 := Tryz.underlying9
 a9 := Tryz.isAgg9
 z9 := Tryz.sizeOf9
 v9 := Tryz.zeroValue9
 t37 := Tryz.underlying104
 a37 := Tryz.isAgg104
 z37 := Tryz.sizeOf104
 v37 := Tryz.zeroValue104
 t70 := Tryz.underlying103
 a70 := Tryz.isAgg103
 z70 := Tryz.sizeOf103
 v70 := Tryz.zeroValue103
 t72 := Tryz.underlying106
 a72 := Tryz.isAgg106
 z72 := Tryz.sizeOf106
 v72 := Tryz.zeroValue106
 t127 := Tryz.underlying138
 a127 := Tryz.isAgg138
 z127 := Tryz.sizeOf138
 v127 := Tryz.zeroValue138 }
noncomputable def Tryz.lays190_ren : Go.Shelf.Ren := ⟨fun | 190 => 52 | 125 => 75 | 258 => 74 | 128 => 100 | 129 => 101 | 302 => 91 | 303 => 92 | 304 => 93 | 305 => 94 | 306 => 95 | 307 => 96 | 308 => 97 | 309 => 98 | 310 => 99 | 333 => 132 | 329 => 133 | 330 => 134 | 334 => 135 | 335 => 136 | 336 => 137 | 344 => 185 | n => n, fun | 31 => 32 | 9 => 9 | 3 => 3 | 46 => 129 | 0 => 0 | 51 => 78 | 53 => 152 | 4 => 4 | 183 => 144 | 182 => 143 | 131 => 80 | 5 => 5 | 218 => 173 | 222 => 177 | 228 => 215 | 229 => 216 | n => n, fun | n => n⟩
def Tryz.lays190 : Go.Proofs.Lays.n190 Tryz.prog Tryz.lays190_ren := {
 mixed := by kernel_rfl
 f125 := Tryz.func75.trans (congrArg O (by kernel_rfl))
 f128 := Tryz.func100.trans (congrArg O (by kernel_rfl))
 f129 := Tryz.func101.trans (congrArg O (by kernel_rfl))
 f190 := Tryz.func52.trans (congrArg O (by kernel_rfl))
 f258 := Tryz.func74.trans (congrArg O (by kernel_rfl))
 f302 := Tryz.func91.trans (congrArg O (by kernel_rfl))
 f303 := Tryz.func92.trans (congrArg O (by kernel_rfl))
 f304 := Tryz.func93.trans (congrArg O (by kernel_rfl))
 f305 := Tryz.func94.trans (congrArg O (by kernel_rfl))
 f306 := Tryz.func95.trans (congrArg O (by kernel_rfl))
 f307 := Tryz.func96.trans (congrArg O (by kernel_rfl))
 f308 := Tryz.func97.trans (congrArg O (by kernel_rfl))
 f309 := Tryz.func98.trans (congrArg O (by kernel_rfl))
 f310 := Tryz.func99.trans (congrArg O (by kernel_rfl))
 f329 := Tryz.func133.trans (congrArg O (by kernel_rfl))
 f330 := Tryz.func134.trans (congrArg O (by kernel_rfl))
 f333 := Tryz.func132.trans (congrArg O (by kernel_rfl))
 f334 := Tryz.func135.trans (congrArg O (by kernel_rfl))
 f335 := Tryz.func136.trans (congrArg O (by kernel_rfl))
 f336 := Tryz.func137.trans (congrArg O (by kernel_rfl))
 f344 := Tryz.func185.trans (congrArg O (by kernel_rfl))
 t0 := Tryz.underlying0
 a0 := Tryz.isAgg0
 z0 := Tryz.sizeOf0
 v0 := Tryz.zeroValue0
 t3 := Tryz.underlying3
 a3 := Tryz.isAgg3
 z3 := Tryz.sizeOf3
 v3 := Tryz.zeroValue3
 t4 := Tryz.underlying4
 a4 := Tryz.isAgg4
 z4 := Tryz.sizeOf4
 v4 := Tryz.zeroValue4
 t5 := Tryz.underlying5
 a5 := Tryz.isAgg5
 z5 := Tryz.sizeOf5
 v5 := Tryz.zeroValue5
 t9 := Tryz.underlying9
 a9 := Tryz.isAgg9
 z9 := Tryz.sizeOf9
 v9 := Tryz.zeroValue9
 t31 := Tryz.underlying32
 a31 := Tryz.isAgg32
 z31 := Tryz.sizeOf32
 v31 := Tryz.zeroValue32
 t46 := Tryz.underlying129
 a46 := Tryz.isAgg129
 z46 := Tryz.sizeOf129
 v46 := Tryz.zeroValue129
 t51 := Tryz.underlying78
 a51 := Tryz.isAgg78
 z51 := Tryz.sizeOf78
 v51 := Tryz.zeroValue78
 t53 := Tryz.underlying152
 a53 := Tryz.isAgg152
 z53 := Tryz.sizeOf152
 v53 := Tryz.zeroValue152
 t131 := Tryz.underlying80
 a131 := Tryz.isAgg80
 z131 := Tryz.sizeOf80
 v131 := Tryz.zeroValue80
 t182 := Tryz.underlying143
 a182 := Tryz.isAgg143
 z182 := Tryz.sizeOf143
 v182 := Tryz.zeroValue143
 t183 := Tryz.underlying144
 a183 := Tryz.isAgg144
 z183 := Tryz.sizeOf144
 v183 := Tryz.zeroValue144
 t218 := Tryz.underlying173
 a218 := Tryz.isAgg173
 z218 := Tryz.sizeOf173
 v218 := Tryz.zeroValue173
 t222 := Tryz.underlying177
 a222 := Tryz.isAgg177
 z222 := Tryz.sizeOf177
 v222 := Tryz.zeroValue177
 t228 := Tryz.underlying215
 a228 := Tryz.isAgg215
 z228 := Tryz.sizeOf215
 v228 := Tryz.zeroValue215
 t229 := Tryz.underlying216
 a229 := Tryz.isAgg216
 z229 := Tryz.sizeOf216
 v229 := Tryz.zeroValue216 }
noncomputable def Tryz.lays194_ren : Go.Shelf.Ren := ⟨fun | 194 => 53 | n => n, fun | 31 => 32 | 9 => 9 | 3 => 3 | 4 => 4 | 0 => 0 | n => n, fun | n => n⟩
def Tryz.lays194 : Go.Proofs.Lays.n194 Tryz.prog Tryz.lays194_ren := {
 mixed := by kernel_rfl
 f194 := Tryz.func53.trans (congrArg O (by kernel_rfl))
 t0 := Tryz.underlying0
 a0 := Tryz.isAgg0
 z0 := Tryz.sizeOf0
 v0 := Tryz.zeroValue0
 t3 := Tryz.underlying3
 a3 := Tryz.isAgg3
 z3 := Tryz.sizeOf3
 v3 := Tryz.zeroValue3
 t4 := Tryz.underlying4
 a4 := Tryz.isAgg4
 z4 := Tryz.sizeOf4
 v4 := Tryz.zeroValue4
 t9 := Tryz.underlying9
 a9 := Tryz.isAgg9
 z9 := Tryz.sizeOf9
 v9 := Tryz.zeroValue9
 t31 := Tryz.underlying32
 a31 := Tryz.isAgg32
 z31 := Tryz.sizeOf32
 v31 := Tryz.zeroValue32 }
noncomputable def Tryz.lc130_ren : Go.Shelf.Ren := ⟨fun | 41 => 130 | n => n, fun | 22 => 32 | 23 => 9 | 4 => 4 | n => n, fun | n => n⟩
def Tryz.lc130 : Go.Proofs.SlLaysE0.n41 Tryz.prog Tryz.lc130_ren := {
 mixed := by kernel_rfl
 f41 := ⟨Tryz.f130.name, by decide, Tryz.func130.trans (congrArg O (by kernel_rfl))⟩
 t4 := Tryz.underlying4
 a4 := Tryz.isAgg4
 z4 := Tryz.sizeOf4
 v4 := Tryz.zeroValue4
 t22 := Tryz.underlying32
 a22 := Tryz.isAgg32
 z22 := Tryz.sizeOf32
 v22 := Tryz.zeroValue32 }
noncomputable def Tryz.ix90_ren : Go.Shelf.Ren := ⟨fun | 29 => 90 | n => n, fun | 22 => 32 | 23 => 9 | 3 => 3 | 0 => 0 | 4 => 4 | n => n, fun | n => n⟩
def Tryz.ix90 : Go.Proofs.SlLaysE.n29 Tryz.prog Tryz.ix90_ren := {
 mixed := by kernel_rfl
 f29 := ⟨Tryz.f90.name, by decide, Tryz.func90.trans (congrArg O (by kernel_rfl))⟩
 t0 := Tryz.underlying0
 a0 := Tryz.isAgg0
 z0 := Tryz.sizeOf0
 v0 := Tryz.zeroValue0
 t3 := Tryz.underlying3
 a3 := Tryz.isAgg3
 z3 := Tryz.sizeOf3
 v3 := Tryz.zeroValue3
 t4 := Tryz.underlying4
 a4 := Tryz.isAgg4
 z4 := Tryz.sizeOf4
 v4 := Tryz.zeroValue4
 t22 := Tryz.underlying32
 a22 := Tryz.isAgg32
 z22 := Tryz.sizeOf32
 v22 := Tryz.zeroValue32
 a23 := Tryz.isAgg9
 z23 := Tryz.sizeOf9 }
noncomputable def Tryz.df31_ren : Go.Shelf.Ren := ⟨fun | 10 => 31 | 6 => 51 | n => n, fun | 22 => 32 | 23 => 9 | 25 => 40 | 3 => 3 | 4 => 4 | 0 => 0 | n => n, fun | n => n⟩
def Tryz.df31 : Go.Proofs.SlLaysH.n10 Tryz.prog Tryz.df31_ren := {
 mixed := by kernel_rfl
 f6 := ⟨Tryz.f51.name, by decide, Tryz.func51.trans (congrArg O (by kernel_rfl))⟩
 f10 := ⟨Tryz.f31.name, by decide, Tryz.func31.trans (congrArg O (by kernel_rfl))⟩
 t0 := Tryz.underlying0
 a0 := Tryz.isAgg0
 z0 := Tryz.sizeOf0
 v0 := Tryz.zeroValue0
 t3 := Tryz.underlying3
 a3 := Tryz.isAgg3
 z3 := Tryz.sizeOf3
 v3 := Tryz.zeroValue3
 t4 := Tryz.underlying4
 a4 := Tryz.isAgg4
 z4 := Tryz.sizeOf4
 v4 := Tryz.zeroValue4
 t22 := Tryz.underlying32
 a22 := Tryz.isAgg32
 z22 := Tryz.sizeOf32
 v22 := Tryz.zeroValue32
 a23 := Tryz.isAgg9
 z23 := Tryz.sizeOf9
 t25 := Tryz.underlying40
 a25 := Tryz.isAgg40
 z25 := Tryz.sizeOf40
 v25 := Tryz.zeroValue40 }
end Go.Proofs
namespace Go.Proofs.YtankopenjcbeeaaGreatDoor
open Go Go.Proofs.Tryz
open Option renaming some→O,none→N
open Go renaming TypeId→G,Value→D,Program→I,Oper→M,World→J,Code→W
open Bool renaming true→T,false→Z
open Decidable renaming decide→Y
open YtankopenjcbeeaaGreatDoor renaming PVal→U
set_option maxRecDepth 100000
def VC(n:Int):Q aa:=if(Y (-9223372036854775808<=n)&&Y (n<=9223372036854775807))then O (Lib.itoa n)else N
def qjQ:nJ=Lib.pow10Tab:=by kernel_rfl
def Us{n:Int}{r:aa}(h:VC n=O r):CC Pg GE 202 [.int .i64 n] (.str r) []:=by
 rcases Hr h with⟨b,h⟩|⟨b,h⟩;.obtain rfl:=lf h;simp only[ne,oy]at b;refine CC.grownIS call202 λE Γ o q w a s d i=>?_;have c:Lib.TabIs Pg w "internal/strconv.uint64pow10" .u64 Lib.pow10Tab:=qoI i (g:=2) (by rw[d,←qjQ];simp[GE]) (by kernel_rfl);refine(Any.strconv_Itoa Tryz.laysM171 n b.1 b.2 w c).mono λe t m=>?_;obtain⟨rfl,k,p,rfl⟩:=m;exact⟨rfl,.of_grow _ _ _⟩
 .cases h
abbrev fB:Nat:=304
abbrev fW:Nat:=317
noncomputable def bW:W:=f317.body.getD .skip
noncomputable def bB:W:=f304.body.getD .skip
def qfJ(p:ag):CC Pg GE fB [.agg (af p)] (.func (.func fW) [] [.eptr (af p)]) []:=by have z:=se (jL p)<|en (aI (rP (.func (.func fW) [] [.eptr (af p)]))<|(aI hV (aI (show ie 0 (af p)from dn p) trivial)));exact C.evp (A:=[]) mixed call304 func304 (c:=bB) rfl (aI (dn p) trivial) z (by kernel_rfl)
def qp8:bW=.region (qaI bW) (kP bW) false:=by kernel_rfl
def qqc:List.range (kP bW).size=[0,1]++2::([]:V Nat):=by kernel_rfl
def qqa:[0,1].map (λi=>(kP bW)[i]?)=((kP bW).toList.take 2).map O:=by kernel_rfl
def qqb:((kP bW).toList.take 2).all Ox=true:=by kernel_rfl
def qtS:(kP bW)[2]? =O (JO bW 2):=by kernel_rfl
def qtR:(JO bW 2).guard=N:=by kernel_rfl
def qp9:(JO bW 2).op=.call {callee:=.value (.func fV),args:=#[.tmp 3,.tmp 4],argTypes:=XF (JO bW 2)}:=by kernel_rfl
def qtQ:(JO bW 2).dst=O 5:=by kernel_rfl
def qnA(p:ag)(l:Nat):cK Pg GE [] (kP bW) (λa=>FG a (aR 6 [(3,.agg (af p)),(4,yv l)] [] [])) ((kP bW).toList.take 2) 0 (aR 6 [(0,yv l),(1,.eptr (af p))] [] []):=by have z:=sv (db p)<|en (fr (aR 6 [(3,.agg (af p)),(4,yv l)] [] []));exact Qw z (by kernel_rfl)
section
variable{S:Type}{a:S->ag->Q (K×S)}{b:K->S->aS->J->Prop}{l:Nat}
def qnB(o:Yd Pg GE l af a b)(p:ag){s:S}{r:Bool×S}{Γ:aS}{w:J}{v:D}{n:Nat}(hv:WO a p s=O r)(hJ:b T s Γ w)(a2:VR Γ [] w (.eptr (af p)) v):CallsIn Fence.wide n Pg fW #[.func (.yield l) #[] #[],v] w λe w'=>(∃u,e=.returned u)/\∃h,Γ.Le w h w'/\b r.1 r.2 h w':=by
 refine callsIn_of_wp func317 (c:=bW) rfl hV ?_;have h0:VF b Γ w T s (aR 6 [(0,yv l),(1,.eptr (af p))] [] []) (#[.func (.yield l) #[] #[],v]++Array.replicate 4 undef) w:=by
  refine⟨Γ,hJ,.refl _ _,_,_,_,(o.base _ _ _ _ hJ).fresh 0 (tmps:=[yv l,.eptr (af p)]++List.replicate 4 .undef) (by simp) λt q u i F=>?_⟩;by_cases P:t<2;.rw[B2 (by simpa using P)]at i;rw[va3 (by simpa using P)]at F;match t,P with|0,_=>simp at i F;subst i;subst F;exact .val _|1,_=>simp at i F;subst i;subst F;exact a2
  .rw[Lf (by simpa using P),vaW]at i;split at i<;>cases i;exact .undef u
 show bW.wpIn Fence.wide n Pg _ ⟨_,[]⟩ w;have d2:(PVal.eptr (af p)).cl 0:=dn p;have d3:(PVal.agg (af p)).cl 0:=dn p;have H:(Code.region (qaI bW) (kP bW) Z).wpIn Fence.wide n Pg (bodyPost Pg f317 λe w'=>(∃u,e=.returned u)/\∃h,Γ.Le w h w'/\b r.1 r.2 h w') ⟨#[.func (.yield l) #[] #[],v]++Array.replicate 4 undef,[]⟩ w:=by refine wpIn_region ?_;rw[qqc];let⟨a4,R,z,hS⟩:=VF.again o (k:=0) (qf1 (L:=[(0,yv l),(1,.eptr (af p))]) (by exact aI hV<|aI d2 hV) 0 rfl) h0;refine Ml (A:=[]) (K:=λst=>FG st (aR 6 [(3,.agg (af p)),(4,yv l)] [] [])) (λh a7 ab a' w' st a0 hK=>?_) _ _ a4 _ _ _ w _ qqa (xi qqb) hS (qnA p l);let⟨a5,a8,ad,m⟩:=FG.sr a0 hK;refine Ou qtS qtR (VF.visitc o (kA:=0) (stB:=aR 6 [(3,.agg (af p)),(4,yv l),(5,.bool r.1)] [] []) (qf1 (by exact aI d3<|aI hV hV) 0 rfl) (qcC o p) hv (y:=4) (x:=3) (d:=5) rfl rfl qp9 qtQ rfl ⟨a5,o.side _ _ _ _ R _ _ _ _ _ _ m,z.trans m.step.le,_,_,_,m⟩ λa3 w3 h3=>?_);let⟨a6,X,B,E,a9,an,a1⟩:=h3;let⟨u,e1,_⟩:=p7 a1 (fn:=f317) (r:=.tuple []) (by kernel_rfl);exact⟨rfl,u,e1,⟨u,rfl⟩,a6,B,X⟩
 rw[<-qp8]at H;exact H
end
set_option linter.defProp false
def qdb:BF Pg 130 9:=qfU Tryz.lc130 rfl rfl (by kernel_rfl) call130
def DL{l r:V aa}(h:HM l=O r):CC Pg GE 130 [sl cS l] (sl cS r) [(0,9)]:=cT.cloneCC qdb h
open Go
def nW(l:V aa):V aa:=l.mergeSort λx y=>Y (x<=y)
abbrev qcV(x y:aa):Prop:=Op.bytesLess x y=T
def wV:∀(x:aa),Op.bytesLess x x=Z
 |[]=>rfl
 |a::x=>by unfold Op.bytesLess;rw[wV x];simp[UInt8.lt_irrefl]
def FV:∀{x y z:aa},qcV x y->qcV y z->qcV x z
 |_,_,[],e,d=>by simp[qcV,Op.bytesLess]at d
 |_,[],_::_,e,d=>by simp[qcV,Op.bytesLess]at e
 |[],_::_,_::_,_,_=>rfl
 | a :: x,b :: y,c :: z,e,d => by
  unfold qcV Op.bytesLess at e d ⊢;simp only[vbh,oy,ne,vbf]at e d ⊢;rcases e with e|⟨rfl,e⟩
  .rcases d with d|⟨rfl,d⟩;.exact .inl (UInt8.lt_trans e d)
   .exact .inl e
  .rcases d with d|⟨rfl,d⟩;.exact .inl d
   .exact .inr ⟨rfl,FV e d⟩
def Ky:∀{x y:aa},Op.bytesLess x y=Z->Op.bytesLess y x=Z->x=y
 |[],[],_,_=>rfl
 |[],_::_,h,_=>by simp[Op.bytesLess]at h
 |_::_,[],_,h=>by simp[Op.bytesLess]at h
 | a :: x,b :: y,h1,h2 => by
  unfold Op.bytesLess at h1 h2;simp only[vcQ,vbn,Bool.and_eq_false_imp,vbf]at h1 h2;have c:a=b:=by have d:=UInt8.not_lt.1 h1.1;have e:=UInt8.not_lt.1 h2.1;exact UInt8.le_antisymm e d
  subst c;rw[Ky (h1.2 rfl) (h2.2 rfl)]
def qmk:∀(x y:aa),Op.bytesLess x y=Y (x<y)
 |[],[]=>by simp[Op.bytesLess]
 |_::_,[]=>by simp[Op.bytesLess]
 |[],_::_=>by simp[Op.bytesLess]
 |a::x,b::y=>by unfold Op.bytesLess;rw[qmk x y,vbK];simp[List.cons_lt_cons_iff]
def qeW(x y:aa):Y (x<=y)= !Op.bytesLess y x:=by rw[qmk];rw[<-decide_not];rfl
def qay(l:V aa):(nW l).Pairwise λx y=>Op.bytesLess y x=false:=by
 have:=List.pairwise_mergeSort (le:=λx y:aa=>Y (x<=y)) (λa b c e d=>by
  rw[qeW]at e d ⊢;simp only[va4]at e d ⊢;cases h:Op.bytesLess c a with
  |false=>rfl
  | true =>
   exfalso;by_cases i:Op.bytesLess a b=T;.have:=FV h i;unfold qcV at this;rw[d]at this;cases this
   .have:a=b:=Ky (by simpa using i) e;subst this;rw[d]at h;cases h) (λa b=>by
  rw[qeW,qeW];cases h:Op.bytesLess b a with
  |false=>rfl
  | true =>
   cases m:Op.bytesLess a b with
   |false=>rfl
   |true=>have:=FV h m;unfold qcV at this;rw[wV]at this;cases this) l
 refine vc6 ?_ this;intro a b h;rw[qeW]at h;simpa using h
def qdz(x:aa):List aa->List aa|[]=>[x]|y::r=>if Op.bytesLess y x then y::qdz x r else x::y::r
def uK:List aa->List aa|[]=>[]|x::r=>qdz x (uK r)
def RC(x:aa):∀l,(qdz x l).Perm (x::l)
 |[]=>.refl _
 | y :: r => by
  unfold qdz;split;.exact((RC x r).cons y).trans (List.Perm.swap x y r)
  .exact .refl _
def gd:∀l,(uK l).Perm l|[]=>.refl _|x::r=>(RC x (uK r)).trans ((gd r).cons x)
abbrev qky(l:V aa):Prop:=l.Pairwise λx y=>Op.bytesLess y x=Z
def S6(x:aa):∀{l},qky l->qky (qdz x l)
 |[],_=>by simp[qdz,qky]
 | y :: r,h => by
  unfold qky at h ⊢;have e:=vbM.1 h;unfold qdz;split
  .rename_i b;rw[vbM];refine⟨λz a=>?_,S6 x e.2⟩;rcases x8.1 ((RC x r).mem_iff.1 a)with rfl|a;.cases c:Op.bytesLess z y with|false=>rfl|true=>have:=FV b c;unfold qcV at this;rw[wV]at this;cases this
   .exact e.1 z a
  .rename_i b;have b:Op.bytesLess y x=false:=by simpa using b
   rw[vbM];refine⟨λz a=>?_,h⟩;rcases x8.1 a with rfl|a;.exact b
   .have a:=e.1 z a;cases c:Op.bytesLess z x with
    |false=>rfl
    | true =>
     exfalso;by_cases d:Op.bytesLess x y=T;.have:=FV c d;unfold qcV at this;rw[a]at this;cases this
     .have:x=y:=Ky (by simpa using d) b;subst this;rw[a]at c;cases c
def jf:∀l,qky (uK l)
 |[]=>by simp[uK,qky]
 |x::r=>S6 x (jf r)
def CH:∀{a b:List aa},qky a->qky b->a.Perm b->a=b
 |[],b,_,_,h=>(List.Perm.nil_eq h)
 |x::a,[],_,_,h=>by have:=h.length_eq;simp at this
 | x :: a,y :: b,ha,hb,h => by
  unfold qky at ha hb;have c:=vbM.1 ha;have d:=vbM.1 hb;have i:x=y:=by
   rcases x8.1 (h.mem_iff.1 (vcp:x∈x::a))with e|e;.exact e
   .rcases x8.1 (h.mem_iff.2 (vcp:y∈y::b))with m|m;.exact m.symm
    .exact Ky (d.1 x e) (c.1 y m)
  subst i;congr 1;exact CH c.2 d.2 (List.Perm.cons_inv h)
def P3(l:V aa):uK l=nW l:=CH (jf l) (qay l) ((gd l).trans (List.mergeSort_perm l _).symm)
open Go Go.Sort Go.Proofs.Tryz
def P1{w:J}{b:Nat}{a:Array D}{e:G}{l:V aa}(h:w.heap[b]? =O (.cells a e (0,0)))(m:a.toList.take l.length=l.map λs=>Value.string ⟨s.toArray⟩):Holds encStr w b 0 l.toArray:=by
 intro j i;have c:j<l.length:=by simpa using i
 rw[s7];refine⟨?_,frozen_of_row w b j a e h⟩;rw[cell_of_row w b j a e _ h];have d:(a.toList.take l.length)[j]? =(l.map λs=>Value.string ⟨s.toArray⟩)[j]?:=by rw[m]
 rw[vay c]at d;simp only[vaK,o8,m3 c,or]at d;rw[d,getElem!_pos _ j i];simp[encStr]
def BD{w:J}{b n:Nat}{a:Array D}{e:G}{os:Array Obj}(d l:V aa)(t:w.heap[b]? =O (.cells a e (0,0)))(F:d.length<=a.size)(x:d.take l.length=l):(∀h,h<w.heap.size->h≠b->(grow (putRow encStr (Sort.ahead w n) b 0 d.toArray) os).heap[h]? =w.heap[h]?)/\w.heap.size<=(grow (putRow encStr (Sort.ahead w n) b 0 d.toArray) os).heap.size/\
   ∃c,(grow (putRow encStr (Sort.ahead w n) b 0 d.toArray) os).heap[b]? =O (.cells c e (0,0))/\c.size=a.size/\c.toList.take l.length=l.map λs=>Value.string ⟨s.toArray⟩:=by
 have A:b<w.heap.size:=(vh.1 t).1
 have m:(putRow encStr (Sort.ahead w n) b 0 d.toArray).heap.size=w.heap.size:=by simp[putRow,mapBlock,Sort.ahead]
 refine⟨λh p z=>?_,?_,putCells encStr 0 d.toArray a,?_,by simp[putCells],?_⟩
 .show((putRow encStr (Sort.ahead w n) b 0 d.toArray).heap++os)[h]? =_
  rw[va3 (by rw[m];exact p)]
  show(w.heap.modify b (onCells _))[h]? =_
  rw[vbW,hG (λe=>z e.symm)]
 .show _<=((putRow encStr (Sort.ahead w n) b 0 d.toArray).heap++os).size
  rw[Array.size_append,m];omega
 .show((putRow encStr (Sort.ahead w n) b 0 d.toArray).heap++os)[b]? =_
  rw[va3 (by rw[m];exact A)]
  show(w.heap.modify b (onCells _))[b]? =_
  rw[vbW,l7 rfl,t]
  rfl
 .have E:l.length<=d.length:=by have y:=m4 List.length x;rw[vbb]at y;omega
  refine va2 λi=>?_
  by_cases q:i<l.length
  .have o:i<d.length:=by omega
   have r:d[i]=l[i]:=by
    have p:(d.take l.length)[i]? =l[i]?:=by rw[x]
    rw[vay q,m3 o,m3 q]at p;exact vbp p
   rw[vay q]
   simp only[vaK,putCells,Array.getElem?_mapIdx,o8,m3 q,or]
   have B:a[i]? =O (a[i]'(by omega)):=vaM (by omega)
   rw[B]
   simp only[or]
   rw[l7 ⟨s5 _,by simp;omega⟩,Nat.sub_zero,getElem!_pos _ i (by simpa using o)]
   simp[encStr,r]
  .rw[vaU (by simp[putCells];omega),vaU (by simp;omega)]
def nD(l:V aa):(nW l).length=l.length:=by unfold nW;exact List.length_mergeSort _
def qhR{n:Nat}(h:n<=bO):n<4611686018427387904:=by unfold bO at h;omega
theorem UD:qhI Pg 52 9 (λs=>Value.string ⟨s.toArray⟩) nW (λ_ _ _=>.tuple #[]):={
 call:=call52
 row:=λw b d i l e z m A h p=>by have c:=qhR h;refine(Any.slices_Sort_string Tryz.lays190 b 0 d l w (P1 e p) ((vh.1 e).1) c).mono λr E o=>?_;obtain⟨rfl,n,os,rfl⟩:=o;obtain⟨q,t,a,x,B,y⟩:=BD (n:=n) (os:=os) (nW l) (nW l) e (by rw[nD];omega) vaR;exact⟨rfl,by rw[nD];exact m,rfl,rfl,rfl,⟨t,vbq _ _⟩,q,a,x,by omega,y⟩
 none:=λw=>⟨by simp[nW],Any.slices_Sort_string_none Tryz.lays190 Option.none 0 w⟩}
def qnN:Pg.cellsOf 9=1:=by kernel_rfl
def Zp(l:V aa):(Lib.compact l++List.replicate (l.length - (Lib.compact l).length) []).take (Lib.compact l).length=Lib.compact l:=by simp
def qa8(l:V aa):(Lib.compact l).length<=l.length:=by unfold Lib.compact Lib.compactUpTo;rw[va0];exact m0 (va8 _ _) (by simp)
theorem qdf:qhI Pg 53 9 (λs=>Value.string ⟨s.toArray⟩) Lib.compact (λx k c=>.slice x k c):={
 call:=call53
 row:=λw b d t l h F z H e B=>by have i:=qhR e;refine(calls_of_every_depth λR=>AnyS.slices_Compact_string_in Tryz.lays194 R b 0 d l w (P1 h B) (by omega) z).mono λr P A=>?_;obtain⟨rfl,q,rfl⟩:=A;have y:=qa8 l;obtain⟨m,o,a,p,L,E⟩:=BD (n:=q) (os:=#[]) (Lib.compact l++List.replicate (l.length - (Lib.compact l).length) []) (Lib.compact l) h (by simp;omega) (Zp l);rw[grow_empty]at m o p;exact⟨rfl,by omega,rfl,rfl,rfl,⟨o,vbq _ _⟩,m,a,p,by omega,E⟩
 none:=λw=>⟨by rfl,calls_of_every_depth λR=>AnyS.slices_Compact_string_empty_in Tryz.lays194 R Option.none 0 w⟩}
def K9(a b:V aa):Q (V aa):=(app ([]:V aa) a).bind λl=>(app l b).bind λc=>O (Lib.compact (uK c))
noncomputable def qcU:W:=f33.body.getD .skip
def qmd(l:V aa)(h:l.length<=bO):dz Pg GE 0 (aE qcU [T,T,Z]) (EX .normal (fJ 15 5 (nW l) 9)) (fJ 15 5 l 9):=
 dz.inplace (t:=5) (d1:=11) (d2:=12) UD qnN h rfl rfl rfl rfl rfl rfl (by decide) (.inl ⟨rfl,nD l⟩)
def qme(l:V aa)(h:l.length<=bO):dz Pg GE 0 (aE qcU [T,T,T,Z]) (EX .normal (fJ 15 4 (Lib.compact l) 9)) (fJ 15 5 l 9):=
 dz.inplace3 (t:=5) (d1:=13) (d2:=14) qdf qnN h rfl rfl rfl rfl rfl rfl (by decide) (λ_ _ _=>rfl) rfl rfl rfl (by decide) (by decide)
def qkM{α:Type}{l r z:V α}(h:app l r=O z):z.length<=bO:=by
 unfold app at h;split at h;.cases h;simpa using ‹_›
 .cases h
def VX{a b r:V aa}(h:K9 a b=O r):CC Pg GE 33 [sl cS a,sl cS b] (sl cS r) [(0,9)]:=by
 let⟨l,m,h⟩:=L0 h;let⟨d,e,h⟩:=L0 h;obtain rfl:=lf h;rw[P3];have i:=qkM e;have o:(nW d).length<=bO:=by rw[nD];exact i
 exact C.ev (A:=[8,10]) mixed call33 func33 (c:=qcU) rfl (aI (cw J3 a)<|aI (cw J3 b) trivial)
  [.v (sl cS ([]:V aa)),.v (sl cS l),.v (sl cS d),.pa 0,.pc (fJ 15 5 d 9) .normal (fJ 15 5 (nW d) 9),.pa 0,.pc (fJ 15 5 (nW d) 9) .normal (fJ 15 4 (Lib.compact (nW d)) 9)]
  (Eq.mp (by kernel_rfl) (aI (cT.mk' (v:=PVal.str) qon ([]:V aa) 0 (by kernel_rfl))<|aI (cT.ap m)<|aI (cT.ap e)<|aI (fr (fJ 15 5 d 9))<|aI (qmd d i)<|
   aI (fr (fJ 15 5 (nW d) 9))<|aI (qme (nW d) o)<|aI (rP (sl cS (Lib.compact (nW d)))) (cw J3 (Lib.compact (nW d)))))
section
variable{P:I}{E:qy}{Γ:aS}{bs:bC}{d:Nat->Q kg}{w:J}{a:Array D}{st:az}
def SR.unown(h:SR P E Γ bs d w a st){r s c:Nat}{m:Q Nat}{z:Array Nat}(hr:w.heap[r]? =O (.mapIter m s z c)):Γ r=N/\SR P E Γ bs (λb=>if b=r then N else d b) w a st:=by
 have H:Γ r=N:=by cases F:Γ r with|none=>rfl|some n=>let⟨c',t,fr,o,_⟩:=h.wi r n F;rw[hr]at o;cases o
 have y:∀{v:D}{e:G}{b:Nat},eI P Γ w v e->v.ownBlock=O b->b≠r:=λ{v e b} ho p F=>by let⟨n,xs,_,o2⟩:=ho;have:=o2 b p;rw[F,H]at this;cases this
 refine⟨H,{h with
  on:=λb L B=>?_
  ot:=λt k e he=>?_
  ob:=λi j e S own b hB hj p=>?_}⟩
 .split at B;.cases B
  .exact h.on b L B
 .let⟨u,v,o,X,q,A⟩:=h.ot t k e he;exact⟨u,v,o,X,q,λb p=>by rw[hG (y q p)];exact A b p⟩
 .let⟨v,o,q,A⟩:=h.ob i j e S own b hB hj p;exact⟨v,o,q,λR x=>by rw[hG (y q x)];exact A R x⟩
def SR.asEntry(h:SR P E Γ bs d w a st):SR P ⟨E.GE,Γ,w,aV bs d⟩ Γ bs d w a st:={h with
 bn:=λi b m=>.inl (.inl ⟨i,m⟩)
 on:=λb L c=>⟨(h.on b L c).1,.inl (.inr (by rw[c];simp))⟩
 gx:=λg y o=>by let⟨r,s,t,x⟩:=h.gnow o;exact⟨r,λe=>e.elim (λ⟨i,p⟩=>s i g p rfl) (λq=>q t),x⟩
 step:=.refl _ _ _ _}
def SR.rebaseE(h:SR P E Γ bs d w a st){q:aS}{o:bC}{ow':Nat->Q kg}{w':J}{t:Array D}{st':az}(c:SR P ⟨E.GE,Γ,w,aV bs d⟩ q o ow' w' t st'):SR P E q o ow' w' t st':=by
 have m:∀b,aV bs d b\/w.heap.size<=b->E.T b\/E.w.heap.size<=b:=λb e=>by
  rcases e with(⟨i,y⟩|e)|e;.exact h.bn i b y
  .cases p:d b with|none=>exact absurd p e|some L=>exact(h.on b L p).2
  .exact .inr (m0 h.step.size e)
 exact{c with
  bn:=λi b e=>m b (c.bn i b e)
  on:=λb L p=>⟨(c.on b L p).1,m b (c.on b L p).2⟩
  gx:=h.gx
  step:={
   os:=c.step.os.trans h.step.os
   tape:=c.step.tape.trans h.step.tape
   output:=c.step.output.trans h.step.output
   size:=m0 h.step.size c.step.size
   drawn:=m0 h.step.drawn c.step.drawn
   keep:=λb e x=>by have r:¬aV bs d b:=λs=>(m b (.inl s)).elim x λs=>absurd e (vc5.2 s);let⟨z,A⟩:=h.step.keep b e x;let⟨B,F⟩:=c.step.keep b (R3 e h.step.size) r;exact⟨B.trans z,F.trans A⟩
   le:=h.step.le.trans c.step.le}}
end
def da{P:I}{a:Act}{w w':J}{m:Exit->Act->J->Prop}{b:Array M}{L:V Nat}{i:Nat}{o:M}{v:D}(e:b[i]? =O o)(d:o.guard=N)(c:(execOp a.eval o).run P w=.ok (.value v) w')
  (h:wpOps P b m L (a.put o.dst v) w'):wpOps P b m (i::L) a w:=by
 rw[wpOps_cons]
 unfold wpOp
 rw[e]
 simp only
 rw[l7 (by simp[Region.wanted,d])]
 refine .inl ?_
 unfold Oper.wp
 rw[c,Oper.upon_value]
 exact h
def kS(e:G)(l:V aa)(iv:D)(x:U):az:=⟨[.undef,.undef,.undef,sl cS l,x,.undef,.undef,.undef,.undef,.val iv,.undef,.undef,.undef,.undef,.undef,.undef,.undef,.undef,.undef,.undef,.undef],[],[((3,0),e)]⟩
def ki(x:MapEntry):aa:=match x.key with|.string s=>s.data.toList|_=>[]
section
variable{P:I}{GE:V (Nat×V U)}{E:qy}{e:G}{es:Array MapEntry}{A B r:Nat}
abbrev JM(r:Nat):D:=.pointer (O ⟨r,0,N⟩)
structure qrN(es:Array MapEntry)(vis:List MapEntry):Prop where
 sub:∀x∈vis,x∈es.toList
 nd:(vis.map (·.born)).Nodup
structure Pq(P:Program)(E:qy)(e:TypeId)(es:Array MapEntry)(A B r:Nat)(vis:List MapEntry)(x:PVal)(a:Act)(w:World):Prop where
 it:w.heap[r]? =some (.mapIter (some B) A (vis.map (·.born)).toArray A)
 ex:∃Γ ow,SR P E Γ [] ow w a.tmps (kS e (vis.map ki) (JM r) x)
def Pq.map(d:th GE 0 E)(b:E.w.heap[B]? =O (.map es A)){c:V MapEntry}{x:U}{a:Act}{w:J}(h:Pq P E e es A B r c x a w):w.heap[B]? =O (.map es A):=by let⟨Γ,m,i⟩:=h.ex;rw[(i.step.keep B (vh.1 b).1 (d.nt rfl B)).1];exact b
def Pq.iv{b:V MapEntry}{x:U}{a:Act}{w:J}(h:Pq P E e es A B r b x a w):a.eval (.tmp 9)=JM r:=by let⟨Γ,i,d⟩:=h.ex;have c:VR Γ [] w (.val (JM r)) (a.eval (.tmp 9)):=d.opv a.defers (.tmp 9);generalize a.eval (.tmp 9)=u at c;cases c;rfl
def Pq.size{b:V MapEntry}{x:U}{a:Act}{w:J}(h:Pq P E e es A B r b x a w):a.tmps.size=21:=by let⟨Γ,d,c⟩:=h.ex;exact c.sz
def Pq.put{b:V MapEntry}{x:U}{a:Act}{w:J}(h:Pq P E e es A B r b x a w){d:Nat}{v:D}(i:d=10\/d=11\/d=12\/d=13):Pq P E e es A B r b x (a.put (O d) v) w:=by let⟨Γ,m,c⟩:=h.ex;refine⟨h.it,Γ,m,?_⟩;have:=c.set (d:=d) (p:=.undef) (v:=v) (.undef v);rcases i with rfl|rfl|rfl|rfl<;>exact this
def qbU(hE:th GE 0 E)(a5:E.w.heap[B]? =O (.map es A))(s:Jy es A)(hr:E.w.heap.size<=r){ro:Q Nat}{i3:Nat}{p z:M}
  (h1:p.op=.next (.tmp 9) Z) (H:p.dst=O 10) (a2:p.guard=N) (h2:z.op=.extract (.tmp 10) 0) (X:z.dst=O 11) (a3:z.guard=N) {F:V MapEntry} {x:U} {a:Act} {w:J} (h:Pq P E e es A B r F x a w):
  MC ro P (.region i3 #[p,z] Z) (λq a' w'=>q=.normal/\a'.defers=a.defers/\((a'.eval (.tmp 11)=.bool Z/\(leftOf es (F.map (·.born)).toArray).size=0/\Pq P E e es A B r F x a' w')\/
   (a'.eval (.tmp 11)=.bool T/\∃y∈(leftOf es (F.map (·.born)).toArray).toList,(w'.heap[r]? =O (.mapIter (O B) A ((F.map (·.born)).toArray.push y.born) A)/\∃Γ ow,SR P E Γ [] ow w' a'.tmps (kS e (F.map ki) (JM r) x))))) a w:=by
 refine nc (by simp[eD,h1,h2]) (by rintro⟨_,_,hx,_⟩;cases hx) ?_
 show wpOps P #[p,z] _ [0,1] a w
 have hm:=h.map hE a5
 have a1:=h.size
 have a0:∀(v:D)(w':J),(∃l:Array D,∃b,v=.tuple l/\l[0]? =O (.bool b))->((execOp ((a.put p.dst v).eval) z).run P w'=.ok (.value (match v with|.tuple l=>l.getD 0 undef|_=>undef)) w'):=by
  rintro v w' ⟨l,b,rfl,hl⟩;have:(a.put p.dst (.tuple l)).eval (.tmp 10)=.tuple l:=by refine bu ?_;rw[H];show(a.tmps.setIfInBounds 10 _)[10]? =_;simp[a1]
  simp[execOp,h2,this,Instr.extract,hl]
 rcases run_next_at (P:=P) w p.type r B A A _ es A h.it hm s.2 (l8 _)with⟨hz,S⟩|⟨y,hy,w1,hw1,S⟩
 .refine da (o:=p) rfl a2 (v:=.tuple #[.bool Z]) (w':=w) (by simp[execOp,h1,h.iv,S]) ?_
  refine da (o:=z) rfl a3 (a0 _ _ ⟨_,_,rfl,rfl⟩) ?_
  refine⟨rfl,by rw[aW,aW],.inl ⟨?_,hz,?_⟩⟩
  .refine bu ?_
   rw[H,X]
   show((a.tmps.setIfInBounds 10 _).setIfInBounds 11 _)[11]? =_
   simp[a1]
  .rw[H,X];exact(h.put (.inl rfl)).put (.inr (.inl rfl))
 .refine da (o:=p) rfl a2 (v:=.tuple #[.bool T,y.key,y.val]) (w':=Go.ChangeMaps.setBlock w1 r (.mapIter (O B) A ((F.map (·.born)).toArray.push y.born) A)) (by simp[execOp,h1,h.iv,S]) ?_
  refine da (o:=z) rfl a3 (a0 _ _ ⟨_,_,rfl,rfl⟩) ?_
  have a6:r<w.heap.size:=(vh.1 h.it).1
  have a4:w1.heap=w.heap/\w1.os=w.os/\w1.tape=w.tape/\w1.output=w.output/\w.drawn<=w1.drawn:=by
   rcases hw1 with rfl|rfl;.exact⟨rfl,rfl,rfl,rfl,l8 _⟩
   .exact⟨rfl,rfl,rfl,rfl,vch _⟩
  let⟨k1,k2,k3,k4,k5⟩:=a4
  refine⟨rfl,by rw[aW,aW],.inr ⟨?_,y,hy,?_,?_⟩⟩
  .refine bu ?_
   rw[H,X]
   show((a.tmps.setIfInBounds 10 _).setIfInBounds 11 _)[11]? =_
   simp[a1]
  .show(w1.heap.setIfInBounds r _)[r]? =_
   rw[k1];simp[a6]
  .have h':=(h.put (v:=.tuple #[.bool T,y.key,y.val]) (.inl rfl)).put (d:=11) (v:=.bool T) (.inr (.inl rfl))
   let⟨Γ,ow,hS⟩:=h'.ex
   let⟨hg,hS⟩:=hS.unown h.it
   have R:∀b,b≠r->(Go.ChangeMaps.setBlock w1 r (.mapIter (O B) A ((F.map (·.born)).toArray.push y.born) A)).heap[b]? =w.heap[b]?:=λb s=>by show(w1.heap.setIfInBounds r _)[b]? =_;rw[k1,vaI (λx=>s x.symm)]
   refine⟨Γ,λb=>if b=r then N else ow b,?_⟩
   rw[H,X]
   refine hS.world (λb=>b=r) (λb m s a7=>⟨m,s,l8 _,λo _=>bE (R b λx=>by rw[x,hg]at s;cases s) o⟩) (λb m s=>?_) k2 k3 k4 ?_ (λb _ s=>⟨R b s,rfl⟩) (λb s=>by subst s;exact .inr hr) (λi b s=>by simp at s) (λb L hL hx=>?_) (DY k5)
   .let⟨c,t,fr,q1,q2⟩:=hS.wi b m s
    exact⟨c,t,fr,(R b λx=>by rw[x,hg]at s;cases s).trans q1,q2⟩
   .show _<=(w1.heap.setIfInBounds r _).size
    rw[k1];simp
   .subst hx;simp at hL
def Zt(hE:th GE 0 E)(z:E.w.heap[B]? =O (.map es A))(hb:Jy es A){ro:Q Nat}{i4:Nat}{b c s:M}
  (h1:b.op=.entry (.tmp 9)) (i:b.dst=O 12) (a1:b.guard=N) (h2:c.op=.extract (.tmp 12) 0) (t:c.dst=O 13) (a2:c.guard=N) (h3:s.op=.assign (.tmp 13)) (a3:s.dst=O 4) (a4:s.guard=N)
  {m:V MapEntry} {x:U} {y:MapEntry} (hy:y∈es.toList) (hk:y.key=.string ⟨(ki y).toArray⟩) {a:Act} {w:J} (a5:w.heap[r]? =O (.mapIter (O B) A ((m.map (·.born)).toArray.push y.born) A)) (h:∃Γ L,SR P E Γ [] L w a.tmps (kS e (m.map ki) (JM r) x)):
  MC ro P (.region i4 #[b,c,s] Z) (λq a' w'=>q=.normal/\a'.defers=a.defers/\w'=w/\∃Γ L,SR P E Γ [] L w a'.tmps (kS e (m.map ki) (JM r) (.str (ki y)))) a w:=by
 refine nc (by simp[eD,h1,h2,h3]) (by rintro⟨_,_,hx,_⟩;cases hx) ?_
 show wpOps P #[b,c,s] _ [0,1,2] a w
 let⟨Γ,L,S⟩:=h
 have hm:w.heap[B]? =O (.map es A):=by rw[(S.step.keep B (vh.1 z).1 (hE.nt rfl B)).1];exact z
 have H:a.tmps.size=21:=S.sz
 have R:a.eval (.tmp 9)=JM r:=by have R:VR Γ [] w (.val (JM r)) (a.eval (.tmp 9)):=S.opv a.defers (.tmp 9);generalize a.eval (.tmp 9)=u at R;cases R;rfl
 have F:=run_entry_at (P:=P) w r B A _ es A y a5 hm hy hb.1
 refine da (o:=b) rfl a1 (v:=.tuple #[y.key,y.val]) (w':=w) (by simp[execOp,h1,R,F]) ?_
 have X:(a.put b.dst (.tuple #[y.key,y.val])).eval (.tmp 12)=.tuple #[y.key,y.val]:=by refine bu ?_;rw[i];show(a.tmps.setIfInBounds 12 _)[12]? =_;simp[H]
 refine da (o:=c) rfl a2 (v:=y.key) (w':=w) (by simp[execOp,h2,X,Instr.extract]) ?_
 have a0:((a.put b.dst (.tuple #[y.key,y.val])).put c.dst y.key).eval (.tmp 13)=y.key:=by refine bu ?_;rw[i,t];show((a.tmps.setIfInBounds 12 _).setIfInBounds 13 _)[13]? =_;simp[H]
 refine da (o:=s) rfl a4 (v:=y.key) (w':=w) (by simp[execOp,h3,a0]) ?_
 refine⟨rfl,by rw[aW,aW,aW],rfl,Γ,L,?_⟩
 rw[i,t,a3]
 have k1:=S.set (d:=12) (p:=.undef) (v:=.tuple #[y.key,y.val]) (.undef _)
 have k2:=k1.set (d:=13) (p:=.undef) (v:=y.key) (.undef _)
 have k3:=k2.set (d:=4) (p:=.str (ki y)) (v:=y.key) (by rw[hk];exact .str _)
 exact k3
def qaZ:∀{l:List MapEntry},(l.map (·.born)).Nodup->∀{x y:MapEntry},x∈l->y∈l->x.born=y.born->x=y
 |[],_,x,y,hx,_,_=>by cases hx
 | z :: l,h,x,y,hx,hy,he => by
  rw[ox,vbI]at h;rcases x8.1 hx with a|a<;>rcases x8.1 hy with b|b;.rw[a,b]
  .exact absurd (l9.2 ⟨y,b,by rw[<-he,a]⟩) h.1
  .exact absurd (l9.2 ⟨x,a,by rw[he,b]⟩) h.1
  .exact qaZ h.2 a b he
def nk{α β:Type}(f:α->β):∀{l:List α},(l.map f).Nodup->l.Nodup
 |[],_=>by simp
 |x::l,h=>by rw[ox,vbI]at h;exact vbI.2 ⟨λa=>h.1 (l9.2 ⟨x,a,rfl⟩),nk f h.2⟩
def qbG{a:V MapEntry}{y:MapEntry}(b:y∈(leftOf es (a.map (·.born)).toArray).toList):y∈es.toList/\y.born∉a.map (·.born):=by unfold leftOf at b;simp only[vcU,vaX,va4]at b;refine⟨b.1,λc=>?_⟩;have:=b.2;rw[<-vcd]at this;exact this (by simpa using c)
def Yh{a:V MapEntry}(h:Jy es A)(d:qrN es a)(s:(leftOf es (a.map (·.born)).toArray).size=0):a.Perm es.toList:=by
 refine(vcl (nk _ d.nd) (nk _ h.1)).2 λx=>⟨d.sub x,λi=>?_⟩
 have c:x.born∈a.map (·.born):=Classical.byContradiction λq=>by
  have:x∈(leftOf es (a.map (·.born)).toArray).toList:=by unfold leftOf;simp only[vcU,vaX,va4];refine⟨i,?_⟩;rw[<-vcd];exact λo=>q (by simpa using o)
  have m:(leftOf es (a.map (·.born)).toArray).toList.length=0:=by simpa using s
  rw[vcD.1 m]at this;cases this
 let⟨v,b,p⟩:=l9.1 c;rw[<-qaZ h.1 (d.sub v b) i p];exact b
def qgl(hE:th GE 0 E)(R:E.w.heap[B]? =O (.map es A))(L:Jy es A)(hr:E.w.heap.size<=r)(hk:∀y∈es.toList,y.key=.string ⟨(ki y).toArray⟩){ro:Q Nat}{i3 i4:Nat}{o10 o11 o12 o13 o4:M}{c5:W}
  (h1:o10.op=.next (.tmp 9) Z) (a6:o10.dst=O 10) (a7:o10.guard=N) (h2:o11.op=.extract (.tmp 10) 0) (a8:o11.dst=O 11) (a9:o11.guard=N)
  (h3:o12.op=.entry (.tmp 9)) (ab:o12.dst=O 12) (ad:o12.guard=N) (h4:o13.op=.extract (.tmp 12) 0) (an:o13.dst=O 13) (ao:o13.guard=N) (h5:o4.op=.assign (.tmp 13)) (ar:o4.dst=O 4) (b0:o4.guard=N)
  (h6:∀(l:V aa)(s:aa),l.length<es.size->dz P GE 1000 c5 (EX .normal (kS e (l++[s]) (JM r) .undef)) (kS e l (JM r) (.str s))) {a:Act} {w:J} (h:Pq P E e es A B r [] .undef a w):
  MC ro P (.loop (.seq (.region i3 #[o10,o11] Z) (.seq (.cond (.tmp 11) .skip (.exit 0)) (.block 1 (.seq (.region i4 #[o12,o13,o4] Z) c5)))))
   (λq H w'=>q=.exit 0/\H.defers=a.defers/\∃c:V MapEntry,c.Perm es.toList/\∃Γ ow,SR P E Γ [] ow w' H.tmps (kS e (c.map ki) (JM r) .undef)) a w:=by
 refine BU (λk H w'=>H.defers=a.defers/\∃c,qrN es c/\c.length+k=es.size+1/\Pq P E e es A B r c .undef H w') (es.size+1) ⟨rfl,[],⟨by simp,by simp⟩,by simp,h⟩ ?_
 rintro k a1 w1 ⟨S,c,hv,bl,hR⟩
 refine xQ (gD (qbU hE R L hr h1 a6 a7 h2 a8 a9 hR) λq a2 w2 o=>?_)
 obtain⟨rfl,X,hc⟩:=o
 show MC ro P (.seq _ _) _ a2 w2
 rcases hc with⟨hf,hz,b2⟩|⟨ht,y,hy,hit,hS⟩
 .refine xQ (KM hf (λm=>by cases m) λ_=>Ve ?_)
  exact⟨rfl,X.trans S,c,Yh L hv hz,b2.ex⟩
 .let⟨F,be⟩:=qbG hy
  refine xQ (KM ht (λ_=>Vf ?_) λm=>by cases m)
  show MC ro P (.block 1 _) _ a2 w2
  refine L5 (xQ (gD (Zt hE R L h3 ab ad h4 an ao h5 ar b0 F (hk y F) hit hS) λq a3 w3 o=>?_))
  obtain⟨rfl,b4,rfl,Γ,ow,d⟩:=o
  show MC ro P c5 _ a3 w3
  have a0:((c++[y]).map (·.born)).Nodup:=by rw[va5,vbw];exact⟨hv.nd,by simp,λp hp q o bb=>by simp at o;subst o;subst bb;exact be hp⟩
  have t:∀x∈c++[y],x∈es.toList:=λx m=>by
   rcases vz.1 m with m|m;.exact hv.sub x m
   .rw[va1.1 m];exact F
  have b7:c.length<es.size:=by have:=(nk _ a0).length_le_of_subset t;simp at this;omega
  let⟨hg,d⟩:=d.unown hit
  have b1:th GE 1000 ⟨E.GE,Γ,w3,aV [] λb=>if b=r then N else ow b⟩:={
   ge:=hE.ge
   low:=λb n L=>d.lt_of_ghost L
   nt:=λh0=>by cases h0
   gl:=λg cs hg=>(d.gl g cs (by rw[hE.ge];exact hg))}
  have h7:=h6 (c.map ki) (ki y) (by simpa using b7) ro _ [] a3 w3 b1 rfl ⟨Γ,[],_,d.asEntry,λi _=>rfl⟩
  refine gD h7 λq a4 w4 o=>?_
  obtain⟨b5,st,⟨bi,a5,bg,z,_⟩,rfl,rfl⟩:=o
  have b3:a5=[]:=IO z.bl
  subst b3
  show ∃n',n'<k/\_
  refine⟨k - 1,by omega,((b5.trans b4).trans X).trans S,c++[y],⟨t,a0⟩,by simp;omega,?_,bi,bg,?_⟩
  .have bc:=(vh.1 hit).1
   rw[(z.step.keep r bc λhT=>hT.elim (λ⟨i,hi⟩=>by simp at hi) (λm=>m (by simp))).1]
   simpa using hit
  .have:=d.rebaseE z
   simpa using this
end
end Go.Proofs.YtankopenjcbeeaaGreatDoor
