/- PROVED: a part of the proof. Conditions: none. -/
import Derived.Test.YtankopenjcbeeaaGreatDoorPkO13
set_option linter.unusedSimpArgs false set_option linter.defProp false
set_option linter.unusedVariables false
noncomputable section
namespace Go.Proofs.YtankopenjcbeeaaGreatDoor
open Go Go.Proofs.Tryz
open Option renaming some→O,none→N
open Go renaming TypeId→G,Value→D,Program→I,Oper→M,World→J,Code→W
open Bool renaming true→T,false→Z
open Decidable renaming decide→Y
open YtankopenjcbeeaaGreatDoor renaming PVal→U
set_option maxRecDepth 100000
abbrev IN(fn:FuncId)(a:Array D)(c:Nat)(b:K):Loop:={state:=if b then .ready else .done,pending:=if b then N else O .ret,fn:=fn,tmps:=a,params:=#[13],assign:=qre qkv,body:=qrf qkv,defers:=c}
def JC(e:aS)(h:J)(c:bC)(a:Array D)(fn:FuncId)(l i:Nat)(b:K)(s:Int)(Γ:aS)(w:J):Prop:=∃d,SR Pg (wU GE e h) Γ c d w a (qcK s)/\¬aV c d l/\¬aV c d i/\w.heap[l]? =O (.loop (IN fn a i b))/\w.heap[i]? =O (.deferred (O []))
def qpc{Γe:aS}{we:J}{bs:bC}{a:Array Value}{fn:FuncId}{l D:Nat}(hl:we.heap.size<=l)(hD:we.heap.size<=D)(a7:D≠l)(hb:bs.length=2):Yd Pg GE l af eE (JC Γe we bs a fn l D) where
 base:=λb s Γ w ⟨ow,h,_⟩=>h.base
 side:=λb s Γ w ⟨ow,h,a5,a4,m,A⟩ br b5 be w' a' bl h'=>
  ⟨ow,h.aside h',a5,a4,(h'.step.keep l (gM m) id).1.trans m,(h'.step.keep D (gM A) id).1.trans A⟩
 yield:=λs Γ w x v n r ⟨ow,h,a5,a4,m,A⟩ hv hr=>by
  have ar:=qwG s x hr;refine⟨_,_,_,_,run_yield m rfl,?_⟩;have hz:(((#[13]:Array Tmp).zip #[v]).foldl (λL (t,a)=>L.setIfInBounds t a) a)=a.setIfInBounds 13 v:=by simp
  show RoundIn Fence.wide n Pg l fn (((#[13]:Array Tmp).zip #[v]).foldl (λL (t,a)=>L.setIfInBounds t a) a) (qre qkv) (qrf qkv) w _;rw[hz];have h7:SR Pg (wU GE Γe we) Γ bs ow w (a.setIfInBounds 13 v) (aR 19 [(2,.bptr 1 0),(13,.agg (af x))] (qkX s) []):=h.set (d:=13) (p:=.agg (af x)) (hv.mono (.refl _ _) (λi b hi=>by simp at hi));refine roundIn_of_wpIn hV (wpIn_mono (dz.on (qwF s x) (by decide) h7 (by rw[hb];decide) (O l) [] n) ?_);rintro e ⟨a1,bb⟩ w1 ⟨rfl,bt,bs1,bg,bm,h1,⟨rfl,rfl⟩,R,a0,b3,a9⟩;let⟨k1,t1⟩:=a9 l (gM m) a5;let⟨b1,b2⟩:=a9 D (gM A) a4;have a6:=k1.trans m;refine⟨_,run_beginRound a6 rfl,?_⟩;let⟨ao,E⟩:=h1.putOther (l:=l) (o:=.loop {IN fn a D T with state:=.busy}) t1 (.inr hl) (λc t fr e=>by rw[a6]at e;cases e);have b0:2<=bs1.length:=by have:=h1.bl;rw[this];exact vaL rfl
  let⟨bq,s'⟩:=r;refine wpIn_mono (dz.on ar (by decide) ao b0 (O l) [] n) ?_;rintro e ⟨a2,bc⟩ w2 ⟨rfl,P,b7,bi,bn,h2,⟨rfl,rfl⟩,S,a3,b4,ab⟩;have X:(w1.putObj l (.loop {IN fn a D T with state:=.busy})).heap[l]? =O (.loop {IN fn a D T with state:=.busy}):=World.putObj_heap_same (gM a6);have y:(w1.putObj l (.loop {IN fn a D T with state:=.busy})).heap[D]? =O (.deferred (O [])):=(World.putObj_heap_other a7).trans (b1.trans A);let⟨k2,t2⟩:=ab l (gM X) t1;let⟨ad,an⟩:=ab D (gM y) b2;have q:=k2.trans X;cases bq with|true=>refine⟨_,_,run_endRound N q,?_⟩;let⟨h3,F⟩:=h2.putOther (l:=l) (o:=.loop {{IN fn a D T with state:=.busy}with state:=if(N:Q W).isNone then .ready else .done,pending:=N}) t2 (.inr hl) (λc t fr e=>by rw[q]at e;cases e);have B:Γ.Le w P (w2.putObj l (.loop {{IN fn a D T with state:=.busy}with state:=if(N:Q W).isNone then .ready else .done,pending:=N})):=((a0.trans E).trans a3).trans F;let⟨a8,h4,z⟩:=h.back rfl h3 B (H':=qkX s') (λi hi=>(S i (by omega)).trans (R i (by omega))) ⟨hV,⟨rfl,aI hV hV,λx H=>H⟩,hV⟩ hb.symm;exact⟨P,rfl,B,a8,h4,λH=>t2 (z l H),λH=>an (z D H),World.putObj_heap_same (gM q),(World.putObj_heap_other a7).trans (ad.trans y)⟩|false=>refine⟨_,_,run_endRound (O .ret) q,?_⟩;let⟨h3,F⟩:=h2.putOther (l:=l) (o:=.loop {{IN fn a D T with state:=.busy}with state:=if(O Code.ret:Q W).isNone then .ready else .done,pending:=O .ret}) t2 (.inr hl) (λc t fr e=>by rw[q]at e;cases e);have B:Γ.Le w P (w2.putObj l (.loop {{IN fn a D T with state:=.busy}with state:=if(O Code.ret:Q W).isNone then .ready else .done,pending:=O .ret})):=((a0.trans E).trans a3).trans F;let⟨a8,h4,z⟩:=h.back rfl h3 B (H':=qkX s') (λi hi=>(S i (by omega)).trans (R i (by omega))) ⟨hV,⟨rfl,aI hV hV,λx H=>H⟩,hV⟩ hb.symm;exact⟨P,rfl,B,a8,h4,λH=>t2 (z l H),λH=>an (z D H),World.putObj_heap_same (gM q),(World.putObj_heap_other a7).trans (ad.trans y)⟩
def Xw{p:ag}{r:Int}(h:xk p=O r):CC Pg GE qwx [.agg (af p)] (.int .i64 r) []:=by
 refine⟨aI (dn p) trivial,call270,λΓ bs ow w vs hS=>(callsIn_wide (n:=0)).1 (callsIn_of_wp_marks func270 (c:=qkV) rfl hV ?_)⟩;obtain rfl:bs=[]:=IO hS.bl;obtain⟨v,rfl⟩:∃v,vs=#[v]:=vbN.1 hS.sz;have hB:zb GE Γ w:=hS.base;have hE:th GE 0 (wU GE Γ w):=hB.good;have be:VR Γ [] w (.agg (af p)) v:=hS.tm 0 _ _ rfl rfl;have h0:SR Pg (wU GE Γ w) Γ [] (λ_=>N) w (#[v]++Array.replicate 18 undef) (aR 19 [(0,.agg (af p))] [] []):=by
  refine hB.fresh (a:=#[v]++Array.replicate 18 undef) 0 (tmps:=[.agg (af p)]++List.replicate 18 .undef) (by simp) λt q u P hu=>?_;by_cases ht:t<1;.rw[B2 (by simpa using ht)]at P;rw[va3 (by simpa using ht)]at hu;match t,ht with|0,_=>simp at P hu;subst P;subst hu;exact be
  .rw[Lf (by show 1<=t;omega),vaW]at P;split at P<;>cases P;exact .undef u
 have bg:∀R:Ending->J->Prop,(∀{A:aS}{B:bC}{z:Nat->Q kg}{a6:Array Value}{w6:J},SR Pg (wU GE Γ w) A B z w6 a6 (qcK r)->LeavesInM Fence.wide 0 Pg f270 a6 R [] .returning w6)->
   qkV.wpIn Fence.wide 0 Pg (bodyPostM Fence.wide 0 Pg f270 R) ⟨#[v]++Array.replicate 18 undef,[]⟩ w:=λR y=>by
  unfold xk at h
  let⟨n1,b1,h⟩:=L0 h
  rw[qnu]
  refine wpIn_seq (wpIn_mono (dz.wideE (qwD p) hE h0 0 []) ?_)
  rintro e ⟨a1,d1⟩ w1 ⟨rfl,de,d0,d3,d5,h1,rfl,rfl⟩
  rcases Hr h with⟨c1,h⟩|⟨c1,h⟩
  .cases h
   refine wpIn_seq (wpIn_mono (dz.wideE (que p b1 c1) hE h1 0 []) ?_)
   rintro e ⟨a2,ar⟩ w2 ⟨rfl,bt,ao,bi,bl,h2,rfl,rfl⟩
   exact y h2
  refine wpIn_seq (wpIn_mono (dz.wideE (quf p b1 c1) hE h1 0 []) ?_)
  rintro e ⟨a2,ar⟩ w2 ⟨rfl,bt,ao,bi,bl,h2,rfl,rfl⟩
  let⟨n2,b2,h⟩:=L0 h
  rcases Hr h with⟨c2,h⟩|⟨c2,h⟩
  .cases h
   refine wpIn_seq (wpIn_mono (dz.wideE (qug p b2 c2) hE h2 0 []) ?_)
   rintro e ⟨d,b0⟩ w3 ⟨rfl,a4,s,F,bm,E,rfl,rfl⟩
   exact y E
  refine wpIn_seq (wpIn_mono (dz.wideE (quh p b2 c2) hE h2 0 []) ?_)
  rintro e ⟨cn,c4⟩ dd ⟨rfl,ci,c0,cd,cg,b3,rfl,rfl⟩
  let⟨q,P,h⟩:=L0 h
  refine wpIn_seq (wpIn_seq (wpIn_mono (dz.wideE (qwE p) hE b3 0 []) ?_))
  rintro e ⟨d,b0⟩ w3 ⟨rfl,a4,s,F,bm,E,rfl,rfl⟩
  have h6:=E.opv [] (.tmp 12)
  have e6:opv (wU GE Γ w).GE (ql6 p).tmps (.tmp 12)=.func (.func fW) [] [.eptr (af p)]:=rfl
  rw[e6]at h6
  have a8:s.length=2:=E.bl
  refine wpIn_block (wpIn_rangeFunc λfn _=>?_)
  let⟨g1,l1⟩:=E.allocO (.deferred (O []))
  let⟨g2,l2⟩:=g1.allocO (.loop (IN fn d w3.heap.size T))
  have gF:=g2.forgetT (tm:=(qcK 0).tmps) rfl
  have S:w.heap.size<=w3.heap.size:=E.step.size
  have ad:∀b,w3.heap.size<=b->¬aV s F b:=λb hb m=>by
   rcases m with⟨i,hi⟩|m
   .have b7:i<(ql6 p).boxes.length:=by rw[<-E.bl];exact aq hi
    have:=(E.bx i b _ hi (m3 b7)).2.1;omega
   .cases hL:F b with|none=>exact m hL|some L=>have:=(E.on b L hL).1;omega
  generalize bc:(Act.mk d []).eval (.tmp 12)=vf at h6
  cases h6 with
  |func _ _ _ fs cs hl1 hl2 hf hc=>
  obtain rfl:fs=#[]:=vbd hl1
  obtain⟨cv,rfl⟩:∃v,cs=#[v]:=vbN.1 hl2
  have b5:VR a4 s w3 (.eptr (af p)) cv:=hc 0 _ _ rfl rfl
  have hJ:JC Γ w s d fn (w3.heap.size+1) w3.heap.size T 0 a4 ((w3.alloc (.deferred (O []))).alloc (.loop (IN fn d w3.heap.size T))):=by
   refine⟨F,gF,ad _ (by omega),ad _ (l8 _),?_,?_⟩;.have:=World.alloc_heap_new (w3.alloc (.deferred (O []))) (.loop (IN fn d w3.heap.size T));rwa[World.size_alloc]at this
   .rw[alloc_old _ _ (by rw[World.size_alloc];omega)];exact World.alloc_heap_new w3 _
  have hY:=qpc (Γe:=Γ) (we:=w) (bs:=s) (a:=d) (fn:=fn) (l:=w3.heap.size+1) (D:=w3.heap.size) (by omega) S (by omega) a8
  refine⟨_,_,_,{target:=.fn (.func fW) #[cv],args:=#[.func (.yield (w3.heap.size+1)) #[] #[]]},(w3.alloc (.deferred (O []))).alloc (.loop (IN fn d w3.heap.size T)),fW,#[.func (.yield (w3.heap.size+1)) #[] #[],cv],(w3.alloc (.deferred (O []))).alloc (.loop (IN fn d w3.heap.size T)),run_enterLoop_outer fn d #[13] (qre qkv) (qrf qkv),?_,λ_ _=>trivial,?_,λm=>by simp[Fence.wide]at m,?_⟩
  .have an:(Act.mk d []).eval (.tmp 12)=.func (.func fW) #[] #[cv]:=bc
   simp only[resolve,an,Deferred.ofValue]
   simp[Act.eval]
   rfl
  .simp[invoke,call317]
  .refine(qnB hY p (n:=0 - 1) P hJ (((b5.mono l1 (.refl _)).mono l2 (.refl _)).clo (show ie 0 (af p)from dn p))).mono ?_
   rintro e w4 ⟨⟨u,rfl⟩,dk,c6,d4,h4,br,bq,a9,b4⟩
   refine⟨_,_,run_endLoop a9 (by cases q.1<;>simp),?_⟩
   let⟨h5,ab⟩:=h4.putOther (l:=w3.heap.size+1) (o:=.loop {IN fn d w3.heap.size q.1 with state:=.exhausted}) br (.inr (show w.heap.size<=_ by omega)) (λc t fr e=>by rw[a9]at e;cases e)
   have a0:(w4.putObj (w3.heap.size+1) (.loop {IN fn d w3.heap.size q.1 with state:=.exhausted})).heap[w3.heap.size]? =O (.deferred (O [])):=(World.putObj_heap_other (by omega)).trans b4
   generalize w4.putObj (w3.heap.size+1) (.loop {IN fn d w3.heap.size q.1 with state:=.exhausted})=w5 at h5 ab a0
   have X:∀c:W,dz Pg GE 2 c (EX .ret (qcK r)) (qcK q.2)->∀dl:Exit->Act->J->Prop,(∀a w,bodyPostM Fence.wide 0 Pg f270 R .ret a w->dl .ret a w)->c.wpIn Fence.wide 0 Pg dl ⟨d,[{target:=.collected w3.heap.size,args:=#[]}]⟩ w5:=λc hc dl hQ=>by refine wpIn_mono (wpIn_wide.2 (dz.on hc (by decide) h5 (by rw[a8];decide) N [{target:=.collected w3.heap.size,args:=#[]}])) ?_;rintro e ⟨a6,d2⟩ w6 ⟨rfl,A,B,z,d6,h6,⟨rfl,rfl⟩,c5,c7,c9,bb⟩;let⟨k6,t6⟩:=bb _ (gM a0) bq;have a5:=k6.trans a0;let⟨H,c8⟩:=h6.putOther (l:=w3.heap.size) (o:=.deferred N) t6 (.inr S) (λc t fr e=>by rw[a5]at e;cases e);exact hQ _ _ ⟨by simp,.inl ⟨w3.heap.size,_,rfl,run_takeDeferred a5,y H⟩⟩
   rcases Hr h with⟨c3,h⟩|⟨c3,h⟩
   .cases h
    have e3:(IN fn d w3.heap.size q.1).pending=N:=by show(if q.1 then N else O Code.ret)=N;rw[c3];rfl
    rw[e3]
    exact X (.seq qn0 .ret) (qud q.2) _ (λ_ _ m=>m)
   .cases h
    have e3:(IN fn d w3.heap.size q.1).pending=O .ret:=by show(if q.1 then N else O Code.ret)=O .ret;rw[c3];rfl
    rw[e3]
    exact X .ret (qqD q.2) _ (λ_ _ m=>m)
 refine bg _ λ{A B z a6 w6} H=>?_;have a7:SR Pg ⟨GE,Γ,w,aV [] ow⟩ A B z w6 a6 (qcK r):={H with
  bn:=λi b hb=>(H.bn i b hb).elim False.elim .inr
  on:=λb L hL=>⟨(H.on b L hL).1,(H.on b L hL).2.elim False.elim .inr⟩
  gx:=hS.gx
  step:={H.step with keep:=λb hb _=>H.step.keep b hb (λm=>m)}}
 let⟨vr,e1,e2,e3⟩:=p7 a7 (fn:=f270) (r:=.int .i64 r) (by kernel_rfl);refine⟨vr,e1,vr,A,B3 (dX f270.results.toList) [] z,rfl,?_⟩;have hf:=a7.finish (H':=[]) (src:=dX f270.results.toList) (ro:=[]) e2 hV hV (λx m=>by cases m) (λx m=>by cases m);simpa using hf
set_option linter.defProp false
abbrev iA:=(ag->Int->Q aa)
abbrev oI(R:iA):Prop:=∀(p:ag)(a:Int),OG 274 [.agg (af p),.i6 a,.bptr 0 0,.bptr 1 0] [] [.cells [.func (.func 274) [] [.bptr 0 0,.bptr 1 0]] [],.cells [.func (.func 271) [] [.bptr 0 0]] []] (R p a) (λr=>.str r) [] (λr=>[.cells [.func (.func 274) [] [.bptr 0 0,.bptr 1 0]] [],.cells [.func (.func 271) [] [.bptr 0 0]] []])
noncomputable def qtC:W:=f276.body.getD .skip
def qsC:ZF Pg [] 276 f276 qtC:=zf call276 func276 rfl mixed
def uU(a:Int):Q (aH×K):=if(a==18)then O ((⟨1,1,2,za⟩:aH),T) else if(a==17)then O ((⟨2,3,2,LO⟩:aH),T) else if(a==16)then O ((⟨3,3,4,Hp⟩:aH),T) else if(a==15)then O ((⟨4,4,5,Hn⟩:aH),T) else if(a==10)then O ((⟨6,7,7,qcE⟩:aH),T) else if(a==11)then O ((⟨6,7,7,CY⟩:aH),T) else if(a==12)then O ((⟨6,7,7,Tp⟩:aH),T) else if(a==13)then O ((⟨6,7,7,Ho⟩:aH),T) else if(a==6)then O ((⟨7,7,8,YV⟩:aH),T) else if(a==7)then O ((⟨7,7,8,ER⟩:aH),T) else if(a==8)then O ((⟨8,8,9,YU⟩:aH),T) else O ((⟨0,0,0,[]⟩:aH),Z)
def Ei{a:Int}:OV 276 [.i6 a] (uU a) (λr=>.tuple [.agg (fq r.1),.bool r.2]) []:=qsC.v<|tx qjU<|tF (tv (bQ 1 1 2 za)<|tx (cy (⟨1,1,2,za⟩:aH))<|QZ λq=>aI (m4 PVal.tuple (ej (dm (⟨1,1,2,za⟩:aH)) (ej (rP (.bool T)) (rfl:([]:V U)=[])))) q.2)<|tF (tv (bQ 2 3 2 LO)<|tx (cy (⟨2,3,2,LO⟩:aH))<|QZ λq=>aI (m4 PVal.tuple (ej (dm (⟨2,3,2,LO⟩:aH)) (ej (rP (.bool T)) (rfl:([]:V U)=[])))) q.2)<|tF (tv (bQ 3 3 4 Hp)<|tx (cy (⟨3,3,4,Hp⟩:aH))<|QZ λq=>aI (m4 PVal.tuple (ej (dm (⟨3,3,4,Hp⟩:aH)) (ej (rP (.bool T)) (rfl:([]:V U)=[])))) q.2)<|tF (tv (bQ 4 4 5 Hn)<|tx (cy (⟨4,4,5,Hn⟩:aH))<|QZ λq=>aI (m4 PVal.tuple (ej (dm (⟨4,4,5,Hn⟩:aH)) (ej (rP (.bool T)) (rfl:([]:V U)=[])))) q.2)<|tF (tv (bQ 6 7 7 qcE)<|tx (cy (⟨6,7,7,qcE⟩:aH))<|QZ λq=>aI (m4 PVal.tuple (ej (dm (⟨6,7,7,qcE⟩:aH)) (ej (rP (.bool T)) (rfl:([]:V U)=[])))) q.2)<|tF (tv (bQ 6 7 7 CY)<|tx (cy (⟨6,7,7,CY⟩:aH))<|QZ λq=>aI (m4 PVal.tuple (ej (dm (⟨6,7,7,CY⟩:aH)) (ej (rP (.bool T)) (rfl:([]:V U)=[])))) q.2)<|tF (tv (bQ 6 7 7 Tp)<|tx (cy (⟨6,7,7,Tp⟩:aH))<|QZ λq=>aI (m4 PVal.tuple (ej (dm (⟨6,7,7,Tp⟩:aH)) (ej (rP (.bool T)) (rfl:([]:V U)=[])))) q.2)<|tF (tv (bQ 6 7 7 Ho)<|tx (cy (⟨6,7,7,Ho⟩:aH))<|QZ λq=>aI (m4 PVal.tuple (ej (dm (⟨6,7,7,Ho⟩:aH)) (ej (rP (.bool T)) (rfl:([]:V U)=[])))) q.2)<|tF (tv (bQ 7 7 8 YV)<|tx (cy (⟨7,7,8,YV⟩:aH))<|QZ λq=>aI (m4 PVal.tuple (ej (dm (⟨7,7,8,YV⟩:aH)) (ej (rP (.bool T)) (rfl:([]:V U)=[])))) q.2)<|tF (tv (bQ 7 7 8 ER)<|tx (cy (⟨7,7,8,ER⟩:aH))<|QZ λq=>aI (m4 PVal.tuple (ej (dm (⟨7,7,8,ER⟩:aH)) (ej (rP (.bool T)) (rfl:([]:V U)=[])))) q.2)<|tF (tv (bQ 8 8 9 YU)<|tx (cy (⟨8,8,9,YU⟩:aH))<|QZ λq=>aI (m4 PVal.tuple (ej (dm (⟨8,8,9,YU⟩:aH)) (ej (rP (.bool T)) (rfl:([]:V U)=[])))) q.2)<|tv (NU)<|tx (cy (⟨0,0,0,[]⟩:aH))<|QZ λq=>aI (m4 PVal.tuple (ej (dm (⟨0,0,0,[]⟩:aH)) (ej (rP (.bool Z)) (rfl:([]:V U)=[])))) q.2
noncomputable def qtB:W:=f275.body.getD .skip
def qsB:ZF Pg [] 275 f275 qtB:=zf call275 func275 rfl mixed
def Ck(p:ag):Q Int:=if(p.Op==14)then O 5 else if(p.Op==9)then O 9 else (uU p.Op).bind λa=>if a.2 then O a.1.level else O 10
def QD{p:ag}:OV 275 [.agg (af p)] (Ck p) (λr=>.i6 r) []:=qsB.v<|te (jL p)<|tw (aP p)<|tF tE<|tF tE<|tb λb a=>tw (aP p)<|cP (Ei _ a)<|tx qjU<|tx (cy b.1)<|tF (ts<|tE)<|tE
noncomputable def qtz:W:=f272.body.getD .skip
def qsz:ZF Pg [] 272 f272 qtz:=zf call272 func272 rfl mixed
def eC(a:waA):Q aa:=(Yb a ([]:aa)).bind λb=>O b
def eX{a:waA}:OV 272 [sl cS a] (eC a) (λr=>.str r) []:=qsz.v<|tb λc b=>cP (qbC b)<|tE
noncomputable def qtu:W:=f245.body.getD .skip
def qsu:ZF Pg [] 245 f245 qtu:=zf call245 func245 rfl mixed
def fN(a:K):Q aa:=if a then O ([116,114,117,101]:aa) else O ([102,97,108,115,101]:aa)
def xd{a:K}:OV 245 [.bool a] (fN a) (λr=>.str r) []:=qsu.v<|tF tE<|tE
noncomputable def qtf:W:=f203.body.getD .skip
def qsg:ZF Pg [] 203 f203 qtf:=zf call203 func203 rfl mixed
def gS(a:K):Q aa:=(fN a).bind λb=>O b
def wQ{a:K}:OV 203 [.bool a] (gS a) (λr=>.str r) []:=qsg.v<|tb λc b=>cP (xd _ b)<|tE
noncomputable def qp0:W:=f271.body.getD .skip
def qpD:ZF Pg [13] 271 f271 qp0:=zf call271 func271 rfl mixed
section
variable(b:iA)(d:m6)(e:Int)(a:waA)(c:Int)
def pB:az:=aR 24 [(1,.bptr 0 0),(4,sl cS a),(7,sl af d),(8,.i6 e),(9,.i6 c)] [.cells [.func (.func 274) [] [.bptr 0 0,.bptr 1 0]] [],.cells [.func (.func 271) [] [.bptr 0 0]] []] [((4,0),9)]
def yN(o:waA):az:=aR 24 [(4,sl cS o)] [.cells [.func (.func 274) [] [.bptr 0 0,.bptr 1 0]] [],.cells [.func (.func 271) [] [.bptr 0 0]] []] [((4,0),9)]
instance qxU:KS 2 (pB d e a c):=ks 2 rfl
instance qxS{o:waA}:KS 2 (yN o):=ks 2 rfl
def ik:Q ((waA×Int)⊕(waA)):=if Y (c<e)then (cJ d c).bind λm=>(b m 1).bind λi=>(app a ([i]:V aa)).bind λh=>O (.inl (h,dc (c+1))) else O (.inr a)
def sY:Q waA:=loop (λ(h:waA×Int)=>ik b d e h.1 h.2) (a,c)
def Ip(h:oI b):OL 2 (cA qp0 119) (ik b d e a c) (λ(q:waA×Int)=>pB d e q.1 q.2) (λ_=>.exit 0) yN (pB d e a c):=qpD.lx<|tF (tb λp o=>tb λr m=>tb λs i=>tv (je.ia o)<|tv (db p)<|tx qd7<|tx (tX p)<|ts<|tv (mo p [])<|tc [0,1] (h _ _ _ m)<|tv (bG [r] 1 rfl)<|tv (cT.ap i)<|tE)<|tE
def JP(h:oI b):=ug (s:=(a,c)) λi=>Ip b d e i.1 i.2 h
end
def nQ(b:iA)(a:m6):Q aa:=(sY b a (a.length:Int) ([]:V aa) 0).bind λc=>(Yb c dI).bind λd=>(eC ([lj,d,jA]:V aa)).bind λe=>O e
def Cj(b:iA)(c:oI b){a:m6}:OG 271 [sl af a,.bptr 0 0] [] [.cells [.func (.func 274) [] [.bptr 0 0,.bptr 1 0]] [],.cells [.func (.func 271) [] [.bptr 0 0]] []] (nQ b a) (λr=>.str r) [] (λr=>[.cells [.func (.func 274) [] [.bptr 0 0,.bptr 1 0]] [],.cells [.func (.func 271) [] [.bptr 0 0]] []]):=qpD.g 2<|tb λm d=>tb λi e=>tb λo h=>ca (je.ln a)<|cM (JP b a (a.length:Int) ([]:V aa) 0 c _ d)<|cP (qbC e)<|tv (bG [lj,i,jA] 3 rfl)<|cP (eX _ h)<|tE
noncomputable def qtA:W:=f274.body.getD .skip
def qsA:ZF Pg [] 274 f274 qtA:=zf call274 func274 rfl mixed
def oT(a:iA)(p:ag)(b:Int):Q aa:=(Ck p).bind λE=>if Y (E<b)then (a p 1).bind λF=>(eC ([lj,F,jA]:V aa)).bind λH=>O H else (uU p.Op).bind λc=>if c.2 then (cJ p.Kids 0).bind λP=>(a P c.1.left).bind λL=>(cJ p.Kids 1).bind λR=>(a R c.1.right).bind λd=>(eC ([L,lM,c.1.sign,lM,d]:V aa)).bind λe=>O e else if(p.Op==1)then if Y (p.N<0)then (VC p.N).bind λh=>(eC ([lj,h,jA]:V aa)).bind λi=>O i else (VC p.N).bind λm=>O m else if(p.Op==2)then (gS (p.N==1)).bind λo=>O o else if(p.Op==3)then O p.Name else if(p.Op==4)then (nQ a p.Kids).bind λq=>(eC ([p.Name,q]:V aa)).bind λr=>O r else if(p.Op==5)then (nQ a p.Kids).bind λs=>(eC ([Ts,p.Name,s]:V aa)).bind λt=>O t else if(p.Op==14)then (cJ p.Kids 0).bind λA=>(a A 5).bind λw=>(eC ([Tn,w]:V aa)).bind λx=>O x else (cJ p.Kids 0).bind λB=>(a B 9).bind λy=>(eC ([ER,y]:V aa)).bind λz=>O z
def MR(c:iA)(a:oI c){p:ag}{b:Int}:OG 274 [.agg (af p),.i6 b,.bptr 0 0,.bptr 1 0] [] [.cells [.func (.func 274) [] [.bptr 0 0,.bptr 1 0]] [],.cells [.func (.func 271) [] [.bptr 0 0]] []] (oT c p b) (λr=>.str r) [] (λr=>[.cells [.func (.func 274) [] [.bptr 0 0,.bptr 1 0]] [],.cells [.func (.func 271) [] [.bptr 0 0]] []]):=qsA.g 2<|tb λr1 F=>te (jL p)<|tv (db p)<|cP (QD _ F)<|tF (tb λr3 H=>tb λr4 L=>ts<|tv (db p)<|tc [0,1] (a _ _ _ H)<|tv (bG [lj,r3,jA] 3 rfl)<|cP (eX _ L)<|tE)<|tb λr5 P=>tw (aP p)<|cP (Ei _ P)<|tx qjU<|tx (cy r5.1)<|tF (tb λx7 S=>tb λr8 R=>tb λx9 X=>tb λa0 d=>tb λa8 e=>FD (.dx [0,0,2,6,14,0,32,127,0,256,0,0,2048,6144,14336,0,32768,130303,262143,524287,1048575] [] [] [0,2,3,11,263,301,317,343])<|ts<|tw (aQ p)<|tv (je.ia S)<|tv (db x7)<|ts<|qvL [0,1] (a _ _ _ R)<|ts<|ts<|tw (aQ p)<|tv (je.ia X)<|tv (db x9)<|ts<|qvL [0,1] (a _ _ _ d)<|tv (bG [r8,lM,r5.1.sign,lM,a0] 5 rfl)<|cP (eX _ e)<|tE)<|tw (aP p)<|tF (tw (cx p)<|tF (tb λa1 h=>tb λa9 i=>tw (cx p)<|cP (Us h)<|tv (bG [lj,a1,jA] 3 rfl)<|cP (eX _ i)<|tE)<|tb λab m=>tw (cx p)<|cP (Us m)<|tE)<|tF (tb λad o=>tw (cx p)<|cP (wQ _ o)<|tE)<|tF (tw (eo p)<|tE)<|tF (tb λa2 q=>tb λan s=>FD (.dx [0,1,0,0,8,28,63,127,255] [] [] [3,11,589,617])<|tw (eo p)<|ts<|tw (aQ p)<|tc [0,1] (Cj c a _ q)<|tv (bG [p.Name,a2] 2 rfl)<|cP (eX _ s)<|tE)<|tF (tb λa3 t=>tb λao w=>FD (.dx [0,1,0,0,8,28,63,127,255] [] [] [3,11,669,697])<|tw (eo p)<|ts<|tw (aQ p)<|tc [0,1] (Cj c a _ t)<|tv (bG [Ts,p.Name,a3] 3 rfl)<|cP (eX _ w)<|tE)<|tF (tb λa6 B=>tb λa4 x=>tb λar y=>FD (.dx [0,0,2,6,14,31,63,127,255] [] [] [3,11,777])<|ts<|tw (aQ p)<|tv (je.ia B)<|tv (db a6)<|tc [0,1] (a _ _ _ x)<|tv (bG [Tn,a4] 2 rfl)<|cP (eX _ y)<|tE)<|tb λa7 E=>tb λa5 z=>tb λb0 A=>FD (.dx [0,0,2,6,14,31,63,127,255] [] [] [3,11,841])<|ts<|tw (aQ p)<|tv (je.ia E)<|tv (db a7)<|tc [0,1] (a _ _ _ z)<|tv (bG [ER,a5] 2 rfl)<|cP (eX _ A)<|tE
def uT:((ag×Int)->Q aa)->(ag×Int)->Q aa:=λ(rec:(ag×Int)->Q aa) (x:ag×Int)=>oT (λp a=>rec (p,a)) x.1 x.2
def zw(p:ag)(a:Int):Q aa:=sQ uT (p,a)
def OC{p:ag}{a:Int}:OG 274 [.agg (af p),.i6 a,.bptr 0 0,.bptr 1 0] [] [.cells [.func (.func 274) [] [.bptr 0 0,.bptr 1 0]] [],.cells [.func (.func 271) [] [.bptr 0 0]] []] (zw p a) (λr=>.str r) [] (λr=>[.cells [.func (.func 274) [] [.bptr 0 0,.bptr 1 0]] [],.cells [.func (.func 271) [] [.bptr 0 0]] []]):=qaJ λ_ h=>ij (F:=uT) (M:=λ(x:ag×Int) (r:aa)=>C Pg GE 274 [.agg (af x.1),.i6 x.2,.bptr 0 0,.bptr 1 0] [] [.cells [.func (.func 274) [] [.bptr 0 0,.bptr 1 0]] [],.cells [.func (.func 271) [] [.bptr 0 0]] []] (.str r) [] [.cells [.func (.func 274) [] [.bptr 0 0,.bptr 1 0]] [],.cells [.func (.func 271) [] [.bptr 0 0]] []]) (λrec b x r h=>MR _ (λp a=>qaJ λr h=>b (p,a) r h) _ h) h
noncomputable def qtk:W:=f229.body.getD .skip
def qsl:ZF Pg [11] 229 f229 qtk:=zf call229 func229 rfl mixed
def yc(p:ag):Q (aa×Int):=(xk p).bind λa=>if(a !=0)then O (([]:aa),a) else (zw p 1).bind λb=>O (b,0)
def Su{p:ag}:OV 229 [.agg (af p)] (yc p) (λr=>.tuple [.str r.1,.i6 r.2]) []:=qsl.v<|tb λc a=>te (jL p)<|tv (db p)<|cP (Xw a)<|tF tE<|tb λd b=>tx qra<|tx qrb<|ts<|ts<|ts<|tv (db p)<|tc [1,2] (OC _ b)<|tE
noncomputable def qpV:W:=f179.body.getD .skip
def qpu:ZF Pg [] 179 f179 qpV:=zf call179 func179 rfl mixed
section
variable(s:aa)(e:Int)(m:V Int)(a:K)
def lb:Q K:=if a then O T else O (e !=0)
def GU:OJ 1 (cA qpV 14) (lb e a) .normal (λo=>aR 26 [(0,.bptr 0 0),(4,.str s)] [ce 0 m o,.dead] []) (aR 26 [(0,.bptr 0 0),(4,.str s),(5,.i6 e)] [ce 0 m a,.dead] []):=qpu.j<|tf (λb=>ts<|tg 6 b<|ts<|tE) λb=>ts<|tg 6 b<|ts<|tE
end
def dj(p:ag)(d:V Int)(a:K):Q (V Int×K):=(yc p).bind λc=>(lb c.2 a).bind λb=>(ae ([c.1]:V aa) d b).bind λe=>O (e,b)
def eY{p:ag}{e:V Int}{a:K}:OG 179 [.bptr 0 0,.agg (af p)] [] [ce 0 e a] (dj p e a) (λr=>.tuple []) [] (λr=>[ce 0 r.1 r.2]):=qpu.g 1<|tb λh c=>tb λi b=>tb λm d=>te (jL p)<|tv (db p)<|cP (Su _ c)<|jC 0<|cM (GU h.1 h.2 e a _ b)<|tv (bG [h.1] 1 rfl)<|tc [0] (ac _ d)<|tE
noncomputable def qs2:W:=f155.body.getD .skip
def qr3:ZF Pg [] 155 f155 qs2:=zf call155 func155 rfl mixed
def fD(p:ag)(b:V Int)(a:K):Q (V Int×K):=(nB p).bind λd=>if d then (ae ([I2]:V aa) b a).bind λe=>O (e,a) else (dj p b a).bind λc=>O (c.1,c.2)
def oB{p:ag}{e:V Int}{a:K}:OG 155 [.bptr 0 0,.agg (af p)] [] [ce 0 e a] (fD p e a) (λr=>.tuple []) [] (λr=>[ce 0 r.1 r.2]):=qr3.g 1<|tb λh b=>te (jL p)<|tv (db p)<|cP (n9 _ b)<|tF (tb λi c=>tv (bG [I2] 1 rfl)<|tc [0] (ac _ c)<|tE)<|tb λm d=>tv (db p)<|tc [0] (eY _ d)<|tE
noncomputable def qs3:W:=f156.body.getD .skip
def qr4:ZF Pg [] 156 f156 qs3:=zf call156 func156 rfl mixed
def Ew(p:ag):Q K:=if (p.Op == 9) = T then if((p.Kids.length:Int)==1)then (cJ p.Kids 0).bind λa=>if(a.Op==1)then (cJ p.Kids 0).bind λb=>O (Y (b.N>=0)) else O Z else O Z else O Z
def Wq{p:ag}:OV 156 [.agg (af p)] (Ew p) (λr=>.bool r) []:=qr4.v<|
 te (jL p)<|have a:=λ{X s t} (r:PV _ X s t)=>tw (aP p)<|r;tf (λh=>have b:=λ{X s t} (r:PV _ X s t)=>a<|tg 4 h<|tw (aQ p)<|ca (je.ln p.Kids)<|r;tf (λi=>tb λo d=>have c:=λ{X s t} (r:PV _ X s t)=>b<|tg 10 i<|tw (aQ p)<|tv (je.ia d)<|tw (aP o)<|r;tf (λm=>tb λq e=>c<|tg 18 m<|tw (aQ p)<|tv (je.ia e)<|tw (cx q)<|tE) λm=>c<|tg 18 m<|tE) λi=>b<|tg 10 i<|tE) λh=>a<|tg 4 h<|tE
abbrev xO:=(ai->Q Int)
abbrev ES(R:xO):Prop:=∀(t:ai),OV 227 [.agg (aj t)] (R t) (λr=>.i6 r) []
noncomputable def qpY:W:=f227.body.getD .skip
def qpz:ZF Pg [] 227 f227 qpY:=zf call227 func227 rfl mixed
section
variable(a:xO)(c:md)(d n b:Int)
def xJ:az:=aR 20 [(3,.i6 n),(7,sl aj c),(8,.i6 d),(9,.i6 b)] [.dead] []
def Hh(o:Int):az:=aR 20 [(3,.i6 o)] [.dead] []
instance qyK:KS 0 (xJ c d n b):=ks 1 rfl
instance qyF{o:Int}:KS 0 (Hh o):=ks 1 rfl
def Hg:Q ((Int×Int)⊕(Int)):=if Y (b<d)then (cJ c b).bind λh=>(a h).bind λe=>O (.inl ((if e>n then e else n),dc (b+1))) else O (.inr n)
def WL:Q Int:=loop (λ(e:Int×Int)=>Hg a c d e.1 e.2) (n,b)
def Pb(e:ES a):OL 0 (cA qpY 119) (Hg a c d n b) (λ(o:Int×Int)=>xJ c d o.1 o.2) (λ_=>.exit 0) Hh (xJ c d n b):=qpz.lx<|tF (tb λm i=>tb λp h=>tv (ff.ia i)<|tv (fp m)<|tx qhb<|tx (BC m)<|tv (tL m [])<|cP (e _ _ h)<|tE)<|tE
def Q3(e:ES a):=ug (s:=(n,b)) λh=>Pb a c d h.1 h.2 e
end
def NJ(a:xO)(t:ai):Q Int:=(WL a t.Args (t.Args.length:Int) 0 0).bind λb=>O (dc (b+1))
def Ue(a:xO)(b:ES a){t:ai}:OV 227 [.agg (aj t)] (NJ a t) (λr=>.i6 r) []:=qpz.v<|tb λd c=>te (nN t)<|tw (bN t)<|ca (ff.ln t.Args)<|cM (Q3 a t.Args (t.Args.length:Int) 0 0 b _ c)<|tE
def FE:(ai->Q Int)->(ai)->Q Int:=λ(rec:ai->Q Int) (x:ai)=>NJ (λt=>rec t) x
def EO(t:ai):Q Int:=sQ FE t
def WM{t:ai}:OV 227 [.agg (aj t)] (EO t) (λr=>.i6 r) []:=qaK λ_ h=>ij (F:=FE) (M:=λ(x:ai) (r:Int)=>CC Pg GE 227 [.agg (aj x)] (.i6 r) []) (λrec a x r h=>Ue _ (λt=>qaK λr h=>a t r h) _ h) h
abbrev AI:=(ai->Q Int)
abbrev Hu(R:AI):Prop:=∀(t:ai),OV 228 [.agg (aj t)] (R t) (λr=>.i6 r) []
noncomputable def qpZ:W:=f269.body.getD .skip
def qpC:ZF Pg [] 269 f269 qpZ:=zf call269 func269 rfl mixed
section
variable(t:ai)
def CV:Q K:=if Y ((t.Args.length:Int)<2)then O T else if Y ((t.Args.length:Int)>7)then O T else if((t.Names.length:Int)!=0)then O ((t.Names.length:Int)!=(dc ((t.Args.length:Int) - 1))) else O Z
def Q2:OU 0 (cA qpZ 892) (CV t) .normal (λo=>[(1,.undef),(38,.bool o)]) (aR 39 [(1,.eptr (aj t))] [.dead] []):=qpC.j<|
 have a:=λ{X i m} (r:PV _ X i m)=>tw (bN t)<|ca (ff.ln t.Args)<|r;tf (λd=>a<|tg 5 d<|tE) λd=>have b:=λ{X i m} (r:PV _ X i m)=>a<|tg 5 d<|tw (bN t)<|ca (ff.ln t.Args)<|r;tf (λe=>b<|tg 11 e<|tE) λe=>have c:=λ{X i m} (r:PV _ X i m)=>b<|tg 11 e<|tw (dp t)<|ca (cT.ln t.Names)<|r;tf (λh=>c<|tg 16 h<|tw (dp t)<|ca (cT.ln t.Names)<|tw (bN t)<|ca (ff.ln t.Args)<|tE) λh=>c<|tg 16 h<|tE
end
def EN(t:ai):Q Int:=if(t.Op==4)then if Y ((t.Args.length:Int)>6)then O 13 else O 0 else if(t.Op==6)then (CV t).bind λa=>if a then O 13 else O 0 else O 0
def WK{t:ai}:OV 269 [.agg (aj t)] (EN t) (λr=>.i6 r) []:=qpC.v<|te (nN t)<|tw (bo t)<|tF (tw (bN t)<|ca (ff.ln t.Args)<|tF tE<|tE)<|tF (tb λb a=>jC 0<|cM (Q2 t _ a)<|tF tE<|tE)<|tE
noncomputable def qaY:W:=f228.body.getD .skip
def qcR:ZF Pg [68,100] 228 f228 qaY:=zf call228 func228 rfl mixed
section
variable(t:ai)
def yk:Q K:=if(t.Op==4)then O T else O (t.Op==5)
def SL:OU 0 (cA qaY 6) (yk t) .normal (λo=>[(3,.bool o)]) (aR 102 [(1,.eptr (aj t))] [.dead] []):=qcR.j<|
 have a:=λ{X c d} (r:PV _ X c d)=>tw (bo t)<|r;tf (λb=>a<|tg 4 b<|tE) λb=>a<|tg 4 b<|tw (bo t)<|tE
end
section
variable(t:ai)(a:K)
def yl:Q K:=if(t.Op==4)then O T else O (t.Op==6)
def SM:OU 0 (cA qaY 14) (yl t) .normal (λo=>[(4,.bool o)]) (aR 102 [(1,.eptr (aj t)),(3,.bool a)] [.dead] []):=qcR.j<|
 have b:=λ{X d e} (r:PV _ X d e)=>tw (bo t)<|r;tf (λc=>b<|tg 4 c<|tE) λc=>b<|tg 4 c<|tw (bo t)<|tE
end
section
variable(t:ai)(b a:K)
def ym:Q K:=if Y (t.Op<1)then O T else if Y (t.Op>6)then O T else if(!(t.Name==([]:aa)))then if(!b)then O T else if Y ((t.Args.length:Int)>0)then if(!a)then O T else if Y ((t.Names.length:Int)>0)then O (t.Op !=6) else O Z else if Y ((t.Names.length:Int)>0)then O (t.Op !=6) else O Z else if Y ((t.Args.length:Int)>0)then if(!a)then O T else if Y ((t.Names.length:Int)>0)then O (t.Op !=6) else O Z else if Y ((t.Names.length:Int)>0)then O (t.Op !=6) else O Z
def SN:OU 0 (cA qaY 60) (ym t b a) .normal (λo=>[(4,.undef),(63,.bool o)]) (aR 102 [(1,.eptr (aj t)),(3,.bool b),(4,.bool a)] [.dead] []):=qcR.j<|
 have S:=λ{X a0 a1} (r:PV _ X a0 a1)=>tw (bo t)<|r;tf (λc7=>S<|tg 4 c7<|tE) λc7=>have c:=λ{X a0 a1} (r:PV _ X a0 a1)=>S<|tg 4 c7<|tw (bo t)<|r;tf (λc9=>c<|tg 9 c9<|tE) λc9=>have d:=λ{X a0 a1} (r:PV _ X a0 a1)=>c<|tg 9 c9<|tw (eM t)<|r;tf (λy=>have e:=λ{X a0 a1} (r:PV _ X a0 a1)=>d<|tg 13 y<|r;tf (λz=>e<|tg 18 z<|tE) λz=>have h:=λ{X a0 a1} (r:PV _ X a0 a1)=>e<|tg 18 z<|tw (bN t)<|ca (ff.ln t.Args)<|r;tf (λA=>have i:=λ{X a0 a1} (r:PV _ X a0 a1)=>h<|tg 23 A<|r;tf (λB=>i<|tg 28 B<|tE) λB=>have m:=λ{X a0 a1} (r:PV _ X a0 a1)=>i<|tg 28 B<|tw (dp t)<|ca (cT.ln t.Names)<|r;tf (λE=>m<|tg 33 E<|tw (bo t)<|tE) λE=>m<|tg 33 E<|tE) λA=>have p:=λ{X a0 a1} (r:PV _ X a0 a1)=>h<|tg 23 A<|tw (dp t)<|ca (cT.ln t.Names)<|r;tf (λF=>p<|tg 33 F<|tw (bo t)<|tE) λF=>p<|tg 33 F<|tE) λy=>have q:=λ{X a0 a1} (r:PV _ X a0 a1)=>d<|tg 13 y<|tw (bN t)<|ca (ff.ln t.Args)<|r;tf (λH=>have s:=λ{X a0 a1} (r:PV _ X a0 a1)=>q<|tg 23 H<|r;tf (λL=>s<|tg 28 L<|tE) λL=>have w:=λ{X a0 a1} (r:PV _ X a0 a1)=>s<|tg 28 L<|tw (dp t)<|ca (cT.ln t.Names)<|r;tf (λP=>w<|tg 33 P<|tw (bo t)<|tE) λP=>w<|tg 33 P<|tE) λH=>have x:=λ{X a0 a1} (r:PV _ X a0 a1)=>q<|tg 23 H<|tw (dp t)<|ca (cT.ln t.Names)<|r;tf (λR=>x<|tg 33 R<|tw (bo t)<|tE) λR=>x<|tg 33 R<|tE
end
section
variable(t:ai)
def yo:Q K:=(lO t.Name 0).bind λa=>if Y (a>=65)then (lO t.Name 0).bind λb=>O (Y (b<=90)) else O Z
def SO:OU 0 (cA qaY 2026) (yo t) .normal (λo=>[(6,.bool o)]) (aR 102 [(1,.eptr (aj t))] [.dead] []):=qcR.j<|
 tb λe c=>have a:=λ{X i m} (r:PV _ X i m)=>tw (eM t)<|tv (wP underlying9 c)<|r;tf (λb=>tb λh d=>a<|tg 5 b<|tw (eM t)<|tv (wP underlying9 d)<|tE) λb=>a<|tg 5 b<|tE
end
section
variable(t:ai)(a:K)
def Uf(o:Unit⊕(Unit)):Exit:=match o with|(.inl _)=>.ret|(.inr _)=>.normal
def Ug(o:Unit⊕(Unit)):az:=match o with|(.inl o)=>aR 102 [(2,.i6 3)] [.dead] []|(.inr o)=>aR 102 [(1,.eptr (aj t))] [.dead] []
def yn:Q (Unit⊕(Unit)):=if a then (nj t.Name).bind λc=>if(c !=0)then O (.inl ()) else (yo t).bind λb=>if(!(b==(t.Op==4)))then O (.inl ()) else O (.inr ()) else O (.inr ())
def Hi:OK 0 (cA qaY 126) (yn t a) Uf (Ug t) (aR 102 [(1,.eptr (aj t)),(3,.bool a)] [.dead] []):=qcR.k<|tF (tb λe c=>tw (eM t)<|cP (jy _ c)<|tF tE<|tb λd b=>jC 0<|cM (SO t _ b)<|tw (bo t)<|tF tE<|tE)<|tE
end
section
variable(d:AI)(b:md)(c a:Int)
def sK:az:=aR 102 [(90,sl aj b),(91,.i6 c),(92,.i6 a)] [.dead] []
def Jx(o:Int⊕(Unit)):Exit:=match o with|(.inl _)=>.ret|(.inr _)=>.exit 0
def Ag(o:Int⊕(Unit)):az:=match o with|(.inl o)=>aR 102 [(2,.i6 o)] [.dead] []|(.inr o)=>aR 102 [] [.dead] []
instance qyT:KS 0 (sK b c a):=ks 1 rfl
instance qyP{o:Int⊕(Unit)}:KS 0 (Ag o):=match o with|(.inl o)=>ks 1 rfl|(.inr o)=>ks 1 rfl
def Jw:Q (Int⊕(Int⊕(Unit))):=if Y (a<c)then (cJ b a).bind λh=>(d h).bind λe=>if(e !=0)then O (.inr (.inl e)) else O (.inl (dc (a+1))) else O (.inr (.inr ()))
def FF:Q (Int⊕(Unit)):=loop (λ(e:Int)=>Jw d b c e) a
def Q4(m:Hu d):OL 0 (cA qaY 2039) (Jw d b c a) (λ(p:Int)=>sK b c p) Jx Ag (sK b c a):=qcR.lx<|tF (tb λe i=>tb λo h=>tv (ff.ia i)<|tv (fp e)<|tx qhb<|tx (BC e)<|tv (tL e [])<|cP (m _ _ h)<|tF tE<|tE)<|tE
def Hj(e:Hu d):OK 0 (.loop (cA qaY 2039)) (FF d b c a) Jx Ag (sK b c a):=NA λ_=>Q4 _ _ _ _ e
end
def Bw(d:AI)(t:ai):Q Int:=(yk t).bind λh=>(yl t).bind λi=>(ym t h i).bind λe=>if e then O 1 else (EN t).bind λc=>if(c !=0)then O c else (yn t h).bind λb=>match b with|(.inl b)=>O 3| (.inr b) =>(FF d t.Args (t.Args.length:Int) 0).bind λa=>match a with|(.inl a)=>O a|(.inr a)=>O 0
def WN(c:AI)(d:Hu c){t:ai}:OV 228 [.agg (aj t)] (Bw c t) (λr=>.i6 r) []:=qcR.v<|tb λi m=>tb λw o=>tb λs e=>te (nN t)<|jC 0<|cM (SL t _ m)<|jC 0<|cM (SM t i _ o)<|jC 1<|cM (SN t i w _ e)<|tF tE<|tb λx h=>tv (fp t)<|cP (WK _ h)<|tF tE<|t2 (λp a=>jC 0<|cM (Hi t i _ a)<|tE) λp a=>jC 0<|cM (Hi t i _ a)<|tw (bN t)<|ca (ff.ln t.Args)<|t2 (λq b=>cM (Hj c t.Args (t.Args.length:Int) 0 d _ b)<|tE) λq b=>cM (Hj c t.Args (t.Args.length:Int) 0 d _ b)<|tE
def IZ:(ai->Q Int)->(ai)->Q Int:=λ(rec:ai->Q Int) (x:ai)=>Bw (λt=>rec t) x
def IY(t:ai):Q Int:=sQ IZ t
def XE{t:ai}:OV 228 [.agg (aj t)] (IY t) (λr=>.i6 r) []:=qaK λ_ h=>ij (F:=IZ) (M:=λ(x:ai) (r:Int)=>CC Pg GE 228 [.agg (aj x)] (.i6 r) []) (λrec a x r h=>WN _ (λt=>qaK λr h=>a t r h) _ h) h
noncomputable def qs8:W:=f177.body.getD .skip
def qr9:ZF Pg [] 177 f177 qs8:=zf call177 func177 rfl mixed
def qa(t:ai):Q Int:=(EO t).bind λa=>if Y (a>40)then O 8 else (IY t).bind λb=>O b
def CU{t:ai}:OV 177 [.agg (aj t)] (qa t) (λr=>.i6 r) []:=qr9.v<|tb λc a=>te (nN t)<|tv (fp t)<|cP (WM _ a)<|tF tE<|tb λd b=>tv (fp t)<|cP (XE _ b)<|tE
abbrev cb:=(ai->V Int->K->Q (K×V Int))
abbrev dJ(R:cb):Prop:=∀(t:ai)(b:V Int)(a:K),OG 196 [.bptr 0 0,.agg (aj t)] [] [ce 0 b a] (R t b a) (λr=>.tuple []) [] (λr=>[ce 0 r.2 r.1])
noncomputable def qpU:W:=f178.body.getD .skip
def qpt:ZF Pg [] 178 f178 qpU:=zf call178 func178 rfl mixed
section
variable(t:ai)(m:V Int)(a:K)
def j9:Q K:=(nB t.Pred).bind λb=>if b then if(t.Op==6)then O T else if Y ((t.Args.length:Int)>0)then O T else O (Y ((t.Preds.length:Int)>0)) else O Z
def Fw:OU 1 (cA qpU 12) (j9 t) .normal (λo=>[(23,.bool o)]) (aR 36 [(0,.bptr 0 0),(3,.eptr (aj t))] [ce 0 m a,.dead] []):=qpt.j<|
 tb λq e=>have b:=λ{X s w} (r:PV _ X s w)=>tw (fA t)<|cP (n9 _ e)<|r;tf (λh=>have c:=λ{X s w} (r:PV _ X s w)=>b<|tg 4 h<|tw (bo t)<|r;tf (λi=>c<|tg 8 i<|tE) λi=>have d:=λ{X s w} (r:PV _ X s w)=>c<|tg 8 i<|tw (bN t)<|ca (ff.ln t.Args)<|r;tf (λp=>d<|tg 14 p<|tE) λp=>d<|tg 14 p<|tw (dK t)<|ca (je.ln t.Preds)<|tE) λh=>b<|tg 4 h<|tE
end
def nv(c:cb)(t:ai)(i:V Int)(a:K):Q (V Int×K):=(j9 t).bind λm=>if m then (ae ([lj]:V aa) i a).bind λe=>(c t e a).bind λb=>(ae ([jA]:V aa) b.2 b.1).bind λh=>O (h,b.1) else (c t i a).bind λd=>O (d.2,d.1)
def JV(c:cb)(a:dJ c){t:ai}{o:V Int}{b:K}:OG 178 [.bptr 0 0,.agg (aj t)] [] [ce 0 o b] (nv c t o b) (λr=>.tuple []) [] (λr=>[ce 0 r.1 r.2]):=qpt.g 1<|tb λx m=>te (nN t)<|jC 1<|cM (Fw t o b _ m)<|tF (tb λp d=>tb λq e=>tb λs h=>tv (bG [lj] 1 rfl)<|tc [0] (ac _ d)<|tv (fp t)<|tc [0] (a _ _ _ _ e)<|tv (bG [jA] 1 rfl)<|tc [0] (ac _ h)<|tE)<|tb λw i=>tv (fp t)<|tc [0] (a _ _ _ _ i)<|tE
noncomputable def qto:W:=f236.body.getD .skip
def qsp:ZF Pg [] 236 f236 qto:=zf call236 func236 rfl mixed
def s8(i:Int)(a:ai)(d:V Int)(b:K):Q (V Int×K):=(ae ([YZ]:V aa) d b).bind λe=>(cJ a.Preds i).bind λh=>(fD h e b).bind λc=>O (c.1,c.2)
def JZ{i:Int}{a:ai}{h:V Int}{b:K}:OG 236 [.i6 i,.bptr 0 0,.eptr (aj a)] [] [.cells [.bptr 1 0] [],ce 1 h b] (s8 i a h b) (λr=>.tuple []) [] (λr=>[.cells [.bptr 1 0] [],ce 1 r.1 r.2]):=qsp.g 2<|tb λo c=>tb λm e=>tb λp d=>ts<|tv (bG [YZ] 1 rfl)<|tc [1] (ac _ c)<|tk<|FD (.dx [0,0,2,0,14,30] [] [] [])<|ts<|tw (dK a)<|tv (je.ia e)<|tv (db m)<|tc [1] (oB _ d)<|tE
section
variable(v:ai)(i b:Int)(m:V Int)(a:K)
def rO:Q (V Int):=if Y (i>0)then (ae ([dI]:V aa) m a).bind λc=>O c else O m
def Bb:OJ 2 (cA BS 1014) (rO i m a) .normal (λo=>aR 20 [(0,.bptr 0 0),(2,.func (.func 236) [] [.bptr 1 0,.eptr (aj v)]),(6,.i6 i),(7,.i6 b),(8,.i6 i)] [ce 0 o a,.cells [.bptr 0 0] []] []) (aR 20 [(0,.bptr 0 0),(2,.func (.func 236) [] [.bptr 1 0,.eptr (aj v)]),(6,.i6 i),(7,.i6 b),(8,.i6 i)] [ce 0 m a,.cells [.bptr 0 0] []] []):=qO.j<|tF (tb λd c=>tv (bG [dI] 1 rfl)<|tc [0] (ac _ c)<|tE)<|tE
end
section
variable(v:ai)(c a:Int)(m:V Int)(b:K)
def pJ:az:=aR 20 [(0,.bptr 0 0),(2,.func (.func 236) [] [.bptr 1 0,.eptr (aj v)]),(7,.i6 c),(8,.i6 a)] [ce 0 m b,.cells [.bptr 0 0] []] []
def Cq(o:V Int×K):az:=aR 20 [] [ce 0 o.1 o.2,.cells [.bptr 0 0] []] []
def pK:Q ((Int×V Int×K)⊕(V Int×K)):=if Y (a<c)then (rO a m b).bind λe=>(s8 a v e b).bind λd=>O (.inl (dc (a+1),d.1,d.2)) else O (.inr (m,b))
def rQ:Q (V Int×K):=loop (λ(d:Int×V Int×K)=>pK v c d.1 d.2.1 d.2.2) (a,m,b)
def zL:OL 2 (cA BS 15) (pK v c a m b) (λ(h:Int×V Int×K)=>pJ v c h.1 h.2.1 h.2.2) (λ_=>.exit 0) Cq (pJ v c a m b):=qO.l<|tF (tb λi d=>tb λo e=>jC 2<|cM (Bb v a c m b _ d)<|tc [1,0] (JZ _ e)<|tE)<|tE
def Bd:=ug (s:=(a,m,b)) λd=>zL v c d.1 d.2.1 d.2.2
end
def j5(n:Int)(c:ai)(d:V Int)(a:K):Q (V Int×K):=(rQ c n 0 d a).bind λb=>O (b.1,b.2)
def Fk{n:Int}{c:ai}{d:V Int}{a:K}:OG 149 [.bptr 0 0,.i6 n,.func (.func 236) [] [.bptr 1 0,.eptr (aj c)]] [] [ce 0 d a,.cells [.bptr 0 0] []] (j5 n c d a) (λr=>.tuple []) [] (λr=>[ce 0 r.1 r.2,.cells [.bptr 0 0] []]):=qO.g 2<|tb λe b=>cM (Bd c n 0 d a _ b)<|tE
noncomputable def qp1:W:=f277.body.getD .skip
def qpE:ZF Pg [] 277 f277 qp1:=zf call277 func277 rfl mixed
section
variable(i:Int)(a:ai)(m:V Int)(b:K)
def gh:Q (V Int×K):=if Y ((a.Names.length:Int)>0)then (cJ a.Names i).bind λe=>(aZ e m b).bind λc=>(ae ([d7]:V aa) c.2 c.1).bind λd=>O (d,c.1) else O (m,b)
def yU:OJ 2 (cA qp1 2) (gh i a m b) .normal (λo=>aR 25 [(0,.i6 i),(1,.eptr (aj a)),(2,.bptr 0 0)] [.cells [.bptr 1 0] [],ce 1 o.1 o.2] []) (aR 25 [(0,.i6 i),(1,.eptr (aj a)),(2,.bptr 0 0)] [.cells [.bptr 1 0] [],ce 1 m b] []):=qpE.j<|tw (dp a)<|ca (cT.ln a.Names)<|tF (tb λh e=>tb λp c=>tb λq d=>tk<|FD (.dx [0,0,2,0,14,30] [] [] [])<|ts<|tw (dp a)<|tv (cT.ia e)<|tv (cX OR (.str h) [])<|tc [1] (bh _ c)<|ts<|tv (bG [d7] 1 rfl)<|tc [1] (ac _ d)<|tE)<|tE
end
def fL(b:cb)(i:Int)(a:ai)(h:V Int)(c:K):Q (V Int×K):=(gh i a h c).bind λd=>(cJ a.Args i).bind λm=>(b m d.1 d.2).bind λe=>O (e.2,e.1)
def Cw(c:cb)(d:dJ c){i:Int}{a:ai}{o:V Int}{b:K}:OG 277 [.i6 i,.eptr (aj a),.bptr 0 0] [] [.cells [.bptr 1 0] [],ce 1 o b] (fL c i a o b) (λr=>.tuple []) [] (λr=>[.cells [.bptr 1 0] [],ce 1 r.1 r.2]):=qpE.g 2<|tb λq e=>tb λp m=>tb λs h=>jC 0<|cM (yU i a o b _ e)<|tk<|FD (.dx [0,0,2,0,14,30] [] [] [])<|ts<|tw (bN a)<|tv (ff.ia m)<|tv (fp p)<|tc [1] (d _ _ _ _ h)<|tE
section
variable(v:ai)(i b:Int)(m:V Int)(a:K)
def lr:Q (V Int):=if Y (i>0)then (ae ([dI]:V aa) m a).bind λc=>O c else O m
def Be:OJ 2 (cA BS 1014) (lr i m a) .normal (λo=>aR 20 [(0,.bptr 0 0),(2,.func (.func 277) [] [.eptr (aj v),.bptr 1 0]),(6,.i6 i),(7,.i6 b),(8,.i6 i)] [ce 0 o a,.cells [.bptr 0 0] []] []) (aR 20 [(0,.bptr 0 0),(2,.func (.func 277) [] [.eptr (aj v),.bptr 1 0]),(6,.i6 i),(7,.i6 b),(8,.i6 i)] [ce 0 m a,.cells [.bptr 0 0] []] []):=qO.j<|tF (tb λd c=>tv (bG [dI] 1 rfl)<|tc [0] (ac _ c)<|tE)<|tE
end
section
variable(a:cb)(v:ai)(d b:Int)(m:V Int)(c:K)
def pL:az:=aR 20 [(0,.bptr 0 0),(2,.func (.func 277) [] [.eptr (aj v),.bptr 1 0]),(7,.i6 d),(8,.i6 b)] [ce 0 m c,.cells [.bptr 0 0] []] []
def Cr(o:V Int×K):az:=aR 20 [] [ce 0 o.1 o.2,.cells [.bptr 0 0] []] []
def pM:Q ((Int×V Int×K)⊕(V Int×K)):=if Y (b<d)then (lr b m c).bind λh=>(fL a b v h c).bind λe=>O (.inl (dc (b+1),e.1,e.2)) else O (.inr (m,c))
def rR:Q (V Int×K):=loop (λ(e:Int×V Int×K)=>pM a v d e.1 e.2.1 e.2.2) (b,m,c)
def zM(e:dJ a):OL 2 (cA BS 15) (pM a v d b m c) (λ(o:Int×V Int×K)=>pL v d o.1 o.2.1 o.2.2) (λ_=>.exit 0) Cr (pL v d b m c):=qO.l<|tF (tb λp h=>tb λq i=>jC 2<|cM (Be v b d m c _ h)<|tc [1,0] (Cw a e _ i)<|tE)<|tE
def Bf(e:dJ a):=ug (s:=(b,m,c)) λh=>zM a v d h.1 h.2.1 h.2.2 e
end
def j6(a:cb)(n:Int)(c:ai)(e:V Int)(b:K):Q (V Int×K):=(rR a c n 0 e b).bind λd=>O (d.1,d.2)
def Fl(a:cb)(d:dJ a){n:Int}{c:ai}{h:V Int}{b:K}:OG 149 [.bptr 0 0,.i6 n,.func (.func 277) [] [.eptr (aj c),.bptr 1 0]] [] [ce 0 h b,.cells [.bptr 0 0] []] (j6 a n c h b) (λr=>.tuple []) [] (λr=>[ce 0 r.1 r.2,.cells [.bptr 0 0] []]):=qO.g 2<|tb λi e=>cM (Bf a c n 0 h b d _ e)<|tE
noncomputable def qtp:W:=f237.body.getD .skip
def qsq:ZF Pg [] 237 f237 qtp:=zf call237 func237 rfl mixed
def j8(a:cb)(t:ai)(e:V Int)(b:K):Q (V Int×K):=(ae ([lj]:V aa) e b).bind λh=>(j6 a (dc ((t.Args.length:Int) - 1)) t h b).bind λc=>(ae ([pd]:V aa) c.1 c.2).bind λi=>(cJ t.Args (dc ((t.Args.length:Int) - 1))).bind λm=>(a m i c.2).bind λd=>O (d.2,d.1)
def Fu(b:cb)(a:dJ b){t:ai}{o:V Int}{c:K}:OG 237 [.bptr 0 0,.agg (aj t)] [] [ce 0 o c] (j8 b t o c) (λr=>.tuple []) [] (λr=>[ce 0 r.1 r.2]):=qsq.g 1<|tb λq d=>tb λs e=>tb λw h=>tb λp m=>tb λx i=>qkj (rfl:bF (.bptr 0 0)=O [.bptr 0 0]) rfl<|te (nN t)<|tw (bN t)<|ca (ff.ln t.Args)<|ts<|tv (bG [lj] 1 rfl)<|tc [0] (ac _ d)<|ts<|tc [0,1] (Fl b a _ e)<|ts<|tv (bG [pd] 1 rfl)<|tc [0] (ac _ h)<|tk<|FD (.dx [0,0,2,0,14,30] [] [] [])<|ts<|tw (bN t)<|tv (ff.ia m)<|tv (fp p)<|tc [0] (a _ _ _ _ i)<|tE
end Go.Proofs.YtankopenjcbeeaaGreatDoor
