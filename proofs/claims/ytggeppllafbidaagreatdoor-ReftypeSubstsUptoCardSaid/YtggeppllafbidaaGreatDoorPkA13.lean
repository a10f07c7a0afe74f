/- PROVED: a part of the proof. Conditions: none. -/
import Derived.Test.YtggeppllafbidaaGreatDoorPkA9
import Derived.Test.YtggeppllafbidaaGreatDoorPkA12
noncomputable section
namespace Go.Proofs.YtggeppllafbidaaGreatDoor
open Go Go.Proofs.Tryz
set_option linter.unusedVariables false
set_option maxRecDepth 100000
abbrev UY:Nat:=137
noncomputable def Pl:Code:=f137.body.getD .skip
abbrev Uc:Code:=dj Pl [false]
abbrev Tl:Code:=dj Pl [true,false]
abbrev Tm:Code:=dj Pl [true,true,false]
abbrev Ud:Code:=dj Pl [true,true,true,false,false]
abbrev OT:Code:=dj Pl [true,true,true,false,true,false]
abbrev QU:Code:=dj Pl [true,true,true,true,false]
theorem QG:Pl=.seq Uc (.seq Tl (.seq Tm (.seq (.seq Ud (.block 0 (.rangeFunc (.tmp 12) #[13] (OV OT) (OW OT)))) (.seq QU .ret)))):=by kernel_rfl
def wx(s:Int)(x:aa):Option (Bool×Int):=(Hm x).bind fun e=>if(e !=0)=true then some (false,e)else some (true,s)
def y3(p:aa):Option Int:=
 (tJ p).bind fun n=>if decide (n>400)=true then some 7 else
 (tI p).bind fun d=>if decide (d>40)=true then some 8 else
 (GQ wx p 0).bind fun q=>if q.1=true then some 0 else some q.2
abbrev Pm(s:Int):List ax:=[.dead,.cells [.int .i64 s] []]
abbrev Kh(s:Int):av:=aN 19 [(2,.bptr 1 0)] (Pm s) []
abbrev FX(p:aa):av:=aN 19 [(1,.eptr (ac p)),(2,.bptr 1 0)] (Pm 0) []
theorem U1(p:aa):aB Pg GE 0 Uc (EX .normal (FX p)) (aN 19 [(0,.agg (ac p))] [] []):=by
 have z:=se (bM p)<|sx (show iV Pg 40=some [.int .i64 0] by kernel_rfl)<|eF .normal (FX p)
 exact dU (A:=[]) mixed z (by kernel_rfl)
theorem To(p:aa){n:Int}(h:tJ p=some n)(c:decide (n>400)=true):aB Pg GE 0 Tl (EX .ret (Kh 7)) (FX p):=by
 have z:=sv (az p)<|ba (xK h)<|sg 0 c<|ss<|eF .ret (Kh 7)
 exact dU (A:=[]) mixed z (by kernel_rfl)
theorem Tp(p:aa){n:Int}(h:tJ p=some n)(c:decide (n>400)=false):aB Pg GE 0 Tl (EX .normal (FX p)) (FX p):=by
 have z:=sv (az p)<|ba (xK h)<|sg 0 c<|eF .normal (FX p)
 exact dU (A:=[]) mixed z (by kernel_rfl)
theorem Tq(p:aa){n:Int}(h:tI p=some n)(c:decide (n>40)=true):aB Pg GE 0 Tm (EX .ret (Kh 8)) (FX p):=by
 have z:=sv (az p)<|ba (xI h)<|sg 0 c<|ss<|eF .ret (Kh 8)
 exact dU (A:=[]) mixed z (by kernel_rfl)
theorem Tr(p:aa){n:Int}(h:tI p=some n)(c:decide (n>40)=false):aB Pg GE 0 Tm (EX .normal (FX p)) (FX p):=by
 have z:=sv (az p)<|ba (xI h)<|sg 0 c<|eF .normal (FX p)
 exact dU (A:=[]) mixed z (by kernel_rfl)
abbrev PQ(p:aa):av:=aN 19 [(2,.bptr 1 0),(12,.func (.func fW) [] [.eptr (ac p)])] (Pm 0) []
theorem U2(p:aa):aB Pg GE 0 Ud (EX .normal (PQ p)) (FX p):=by
 have z:=sv (az p)<|ba (GY p)<|eF .normal (PQ p)
 exact dU (A:=[]) mixed z (by kernel_rfl)
abbrev QY(s:Int)(x:aa):av:=aN 19 [(2,.bptr 1 0),(3,.bptr 2 0)] (Pm s++[.cells (IU x) []]) []
theorem U3(s:Int)(x:aa):aB Pg GE 2 (OV OT) (EX .normal (QY s x)) (aN 19 [(2,.bptr 1 0),(13,.agg (ac x))] (Pm s) []):=by
 have z:=sx eX<|sx (bv x)<|eF .normal (QY s x)
 exact dU (A:=[]) mixed z (by kernel_rfl)
abbrev QZ(r:Int):av:=aN 19 [(2,.bptr 1 0)] (Pm r++[.dead]) []
theorem U4(s:Int)(x:aa){r:Bool×Int}(h:wx s x=some r):aB Pg GE 2 (OW OT) (EX (if r.1=true then .normal else .ret) (QZ r.2)) (QY s x):=by
 unfold wx at h
 obtain⟨e,be,h⟩:=aw h
 rcases aT h with⟨c1,h⟩|⟨c1,h⟩
 ·cases h
  have z:=sv (aX x [])<|ba (AJ be)<|sg 0 c1<|ss<|eF .ret (QZ e)
  exact dU (A:=[]) mixed z (by kernel_rfl)
 ·cases h
  have z:=sv (aX x [])<|ba (AJ be)<|sg 0 c1<|eF .normal (QZ s)
  exact dU (A:=[]) mixed z (by kernel_rfl)
theorem Tn(s:Int):aB Pg GE 2 (.seq QU .ret) (EX .ret (Kh 0)) (Kh s):=by
 have z:=ss<|eF .ret (Kh 0)
 exact dU (A:=[]) mixed z (by kernel_rfl)
theorem Sg(s:Int):aB Pg GE 2 .ret (EX .ret (Kh s)) (Kh s):=by
 have z:=eF .ret (Kh s)
 exact dU (A:=[]) mixed z (by kernel_rfl)
abbrev tM(fn:FuncId)(a:Array Value)(D:Nat)(b:Bool):Loop:={state:=if b then .ready else .done,pending:=if b then none else some .ret,fn:=fn,tmps:=a,params:=#[13],assign:=OV OT,body:=OW OT,defers:=D}
def JC(Γe:aO)(we:World)(bs:bg)(a:Array Value)(fn:FuncId)(l D:Nat)(b:Bool)(s:Int)(Γ:aO)(w:World):Prop:=
 ∃ow,SR Pg (DN GE Γe we) Γ bs ow w a (Kh s)/\¬bu bs ow l/\¬bu bs ow D/\w.heap[l]? =some (.loop (tM fn a D b))/\w.heap[D]? =some (.deferred (some []))
theorem RE{Γe:aO}{we:World}{bs:bg}{a:Array Value}{fn:FuncId}{l D:Nat}(hl:we.heap.size<=l)(hD:we.heap.size<=D)(hne:D≠l)(hb:bs.length=2):Yd Pg GE l ac wx (JC Γe we bs a fn l D) where
 base:=fun b s Γ w ⟨ow,h,_⟩=>h.base
 side:=fun b s Γ w ⟨ow,h,hTl,hTD,hhl,hhD⟩ Γ' bs' ow' w' a' st' h'=>
  ⟨ow,h.aside h',hTl,hTD,(h'.step.keep l (cx hhl) id).1.trans hhl,(h'.step.keep D (cx hhD) id).1.trans hhD⟩
 yield:=fun s Γ w x v n r ⟨ow,h,hTl,hTD,hhl,hhD⟩ hv hr=>by
  have hS4:=U4 s x hr
  refine⟨_,_,_,_,run_yield hhl rfl,?_⟩
  have hz:(((#[13]:Array Tmp).zip #[v]).foldl (fun tmps (t,a)=>tmps.setIfInBounds t a) a)=a.setIfInBounds 13 v:=by simp
  show RoundIn Fence.wide n Pg l fn (((#[13]:Array Tmp).zip #[v]).foldl (fun tmps (t,a)=>tmps.setIfInBounds t a) a) (OV OT) (OW OT) w _
  rw[hz]
  have h7:SR Pg (DN GE Γe we) Γ bs ow w (a.setIfInBounds 13 v) (aN 19 [(2,.bptr 1 0),(13,.agg (ac x))] (Pm s) []):=h.set (d:=13) (p:=.agg (ac x)) (hv.mono (.refl _ _) (fun i b hi=>by simp at hi))
  refine roundIn_of_wpIn trivial (wpIn_mono (aB.on (U3 s x) (by decide) h7 (by rw[hb];decide) (some l) [] n) ?_)
  rintro e ⟨a1,ds1⟩ w1 ⟨rfl,Γ1,bs1,ow1,st1,h1,⟨rfl,rfl⟩,hbs1,hle1,hsz1,hk1⟩
  obtain⟨k1,t1⟩:=hk1 l (cx hhl) hTl
  obtain⟨k1D,t1D⟩:=hk1 D (cx hhD) hTD
  have hl1:=k1.trans hhl
  refine⟨_,run_beginRound hl1 rfl,?_⟩
  obtain⟨h1',hle1'⟩:=h1.putOther (l:=l) (o:=.loop {tM fn a D true with state:=.busy}) t1 (.inr hl) (fun c t fr e=>by rw[hl1]at e;cases e)
  have hb1:2<=bs1.length:=by have:=h1.bl;rw[this];exact vcz rfl
  obtain⟨bq,s'⟩:=r
  refine wpIn_mono (aB.on hS4 (by decide) h1' hb1 (some l) [] n) ?_
  rintro e ⟨a2,ds2⟩ w2 ⟨rfl,Γ2,bs2,ow2,st2,h2,⟨rfl,rfl⟩,hbs2,hle2,hsz2,hk2⟩
  have hl1':(w1.putObj l (.loop {tM fn a D true with state:=.busy})).heap[l]? =some (.loop {tM fn a D true with state:=.busy}):=World.putObj_heap_same (cx hl1)
  have hD1':(w1.putObj l (.loop {tM fn a D true with state:=.busy})).heap[D]? =some (.deferred (some [])):=(World.putObj_heap_other hne).trans (k1D.trans hhD)
  obtain⟨k2,t2⟩:=hk2 l (cx hl1') t1
  obtain⟨k2D,t2D⟩:=hk2 D (cx hD1') t1D
  have hl2:=k2.trans hl1'
  cases bq with
  |true=>
   refine⟨_,_,run_endRound none hl2,?_⟩
   obtain⟨h3,hle3⟩:=h2.putOther (l:=l) (o:=.loop {{tM fn a D true with state:=.busy}with state:=if(none:Option Code).isNone then .ready else .done,pending:=none}) t2 (.inr hl) (fun c t fr e=>by rw[hl2]at e;cases e)
   have hle:Γ.Le w Γ2 (w2.putObj l (.loop {{tM fn a D true with state:=.busy}with state:=if(none:Option Code).isNone then .ready else .done,pending:=none})):=((hle1.trans hle1').trans hle2).trans hle3
   obtain⟨ow3,h4,hT4⟩:=h.back rfl h3 hle (H':=Pm s') (fun i hi=>(hbs2 i (by omega)).trans (hbs1 i (by omega))) ⟨trivial,⟨rfl,aI trivial trivial,fun x hx=>hx⟩,trivial⟩ hb.symm
   exact⟨Γ2,rfl,hle,ow3,h4,fun hx=>t2 (hT4 l hx),fun hx=>t2D (hT4 D hx),World.putObj_heap_same (cx hl2),(World.putObj_heap_other hne).trans (k2D.trans hD1')⟩
  |false=>
   refine⟨_,_,run_endRound (some .ret) hl2,?_⟩
   obtain⟨h3,hle3⟩:=h2.putOther (l:=l) (o:=.loop {{tM fn a D true with state:=.busy}with state:=if(some Code.ret:Option Code).isNone then .ready else .done,pending:=some .ret}) t2 (.inr hl) (fun c t fr e=>by rw[hl2]at e;cases e)
   have hle:Γ.Le w Γ2 (w2.putObj l (.loop {{tM fn a D true with state:=.busy}with state:=if(some Code.ret:Option Code).isNone then .ready else .done,pending:=some .ret})):=((hle1.trans hle1').trans hle2).trans hle3
   obtain⟨ow3,h4,hT4⟩:=h.back rfl h3 hle (H':=Pm s') (fun i hi=>(hbs2 i (by omega)).trans (hbs1 i (by omega))) ⟨trivial,⟨rfl,aI trivial trivial,fun x hx=>hx⟩,trivial⟩ hb.symm
   exact⟨Γ2,rfl,hle,ow3,h4,fun hx=>t2 (hT4 l hx),fun hx=>t2D (hT4 D hx),World.putObj_heap_same (cx hl2),(World.putObj_heap_other hne).trans (k2D.trans hD1')⟩
theorem GI{p:aa}{r:Int}(h:y3 p=some r):CC Pg GE UY [.agg (ac p)] (.int .i64 r) []:=by
 refine⟨aI (ah p) trivial,call137,fun Γ bs ow w vs hS=>(callsIn_wide (n:=0)).1 (callsIn_of_wp_marks func137 (c:=Pl) rfl trivial ?_)⟩
 obtain rfl:bs=[]:=vam hS.bl
 obtain⟨v,rfl⟩:∃v,vs=#[v]:=vbH.1 hS.sz
 have hB:F9 GE Γ w:=hS.base
 have hE:xg GE 0 (DN GE Γ w):=hB.good
 have hvr:VR Γ [] w (.agg (ac p)) v:=hS.tm 0 _ _ rfl rfl
 have h0:SR Pg (DN GE Γ w) Γ [] (fun _=>none) w (#[v]++Array.replicate 18 undef) (aN 19 [(0,.agg (ac p))] [] []):=by
  refine hB.fresh (a:=#[v]++Array.replicate 18 undef) 0 (tmps:=[.agg (ac p)]++List.replicate 18 .undef) (by simp) fun t q u hq hu=>?_
  by_cases ht:t<1
  ·rw[vac (by simpa using ht)]at hq
   rw[vaH (by simpa using ht)]at hu
   match t,ht with
   |0,_=>simp at hq hu;subst hq;subst hu;exact hvr
  ·rw[vad (by show 1<=t;omega),vaL]at hq
   split at hq<;>cases hq
   exact .undef u
 have key:∀R:Ending->World->Prop,(∀{Γ6:aO} {bs6:bg} {ow6:Nat->Option jk} {a6:Array Value} {w6:World},SR Pg (DN GE Γ w) Γ6 bs6 ow6 w6 a6 (Kh r)->LeavesInM Fence.wide 0 Pg f137 a6 R [] .returning w6)->
   Pl.wpIn Fence.wide 0 Pg (bodyPostM Fence.wide 0 Pg f137 R) ⟨#[v]++Array.replicate 18 undef,[]⟩ w:=fun R hfin=>by
  unfold y3 at h
  obtain⟨n1,b1,h⟩:=aw h
  rw[QG]
  refine wpIn_seq (wpIn_mono (aB.wideE (U1 p) hE h0 0 []) ?_)
  rintro e ⟨a1,ds1⟩ w1 ⟨rfl,Γ1,bs1,ow1,st1,h1,rfl,rfl⟩
  rcases aT h with⟨c1,h⟩|⟨c1,h⟩
  ·cases h
   refine wpIn_seq (wpIn_mono (aB.wideE (To p b1 c1) hE h1 0 []) ?_)
   rintro e ⟨a2,ds2⟩ w2 ⟨rfl,Γ2,bs2,ow2,st2,h2,rfl,rfl⟩
   exact hfin h2
  refine wpIn_seq (wpIn_mono (aB.wideE (Tp p b1 c1) hE h1 0 []) ?_)
  rintro e ⟨a2,ds2⟩ w2 ⟨rfl,Γ2,bs2,ow2,st2,h2,rfl,rfl⟩
  obtain⟨n2,b2,h⟩:=aw h
  rcases aT h with⟨c2,h⟩|⟨c2,h⟩
  ·cases h
   refine wpIn_seq (wpIn_mono (aB.wideE (Tq p b2 c2) hE h2 0 []) ?_)
   rintro e ⟨a3,ds3⟩ w3 ⟨rfl,Γ3,bs3,ow3,st3,h3,rfl,rfl⟩
   exact hfin h3
  refine wpIn_seq (wpIn_mono (aB.wideE (Tr p b2 c2) hE h2 0 []) ?_)
  rintro e ⟨a22,ds22⟩ w22 ⟨rfl,Γ22,bs22,ow22,st22,h22,rfl,rfl⟩
  obtain⟨q,hq,h⟩:=aw h
  refine wpIn_seq (wpIn_seq (wpIn_mono (aB.wideE (U2 p) hE h22 0 []) ?_))
  rintro e ⟨a3,ds3⟩ w3 ⟨rfl,Γ3,bs3,ow3,st3,h3,rfl,rfl⟩
  have h6:=h3.opv [] (.tmp 12)
  have e6:opv (DN GE Γ w).GE (PQ p).tmps (.tmp 12)=.func (.func fW) [] [.eptr (ac p)]:=rfl
  rw[e6]at h6
  have hbl:bs3.length=2:=h3.bl
  refine wpIn_block (wpIn_rangeFunc fun fn _=>?_)
  obtain⟨g1,l1⟩:=h3.allocO (.deferred (some []))
  obtain⟨g2,l2⟩:=g1.allocO (.loop (tM fn a3 w3.heap.size true))
  have gF:=g2.forgetT (tm:=(Kh 0).tmps) rfl
  have hsz3:w.heap.size<=w3.heap.size:=h3.step.size
  have htl:∀b,w3.heap.size<=b->¬bu bs3 ow3 b:=fun b hb hx=>by
   rcases hx with⟨i,hi⟩|hx
   ·have hil:i<(PQ p).boxes.length:=by rw[<-h3.bl];exact ak hi
    have:=(h3.bx i b _ hi (vab hil)).2.1
    omega
   ·cases hL:ow3 b with
    |none=>exact hx hL
    |some L=>have:=(h3.on b L hL).1;omega
  generalize hvf:(Act.mk a3 []).eval (.tmp 12)=vf at h6
  cases h6 with
  |func _ _ _ fs cs hl1 hl2 hf hc=>
  obtain rfl:fs=#[]:=vaY hl1
  obtain⟨cv,rfl⟩:∃v,cs=#[v]:=vbH.1 hl2
  have hcv:VR Γ3 bs3 w3 (.eptr (ac p)) cv:=hc 0 _ _ rfl rfl
  have hJ:JC Γ w bs3 a3 fn (w3.heap.size+1) w3.heap.size true 0 Γ3 ((w3.alloc (.deferred (some []))).alloc (.loop (tM fn a3 w3.heap.size true))):=by
   refine⟨ow3,gF,htl _ (by omega),htl _ (var _),?_,?_⟩
   ·have:=World.alloc_heap_new (w3.alloc (.deferred (some []))) (.loop (tM fn a3 w3.heap.size true))
    rwa[World.size_alloc]at this
   ·rw[da _ _ (by rw[World.size_alloc];omega)]
    exact World.alloc_heap_new w3 _
  have hY:=RE (Γe:=Γ) (we:=w) (bs:=bs3) (a:=a3) (fn:=fn) (l:=w3.heap.size+1) (D:=w3.heap.size) (by omega) hsz3 (by omega) hbl
  refine⟨_,_,_,{target:=.fn (.func fW) #[cv],args:=#[.func (.yield (w3.heap.size+1)) #[] #[]]},(w3.alloc (.deferred (some []))).alloc (.loop (tM fn a3 w3.heap.size true)),fW,#[.func (.yield (w3.heap.size+1)) #[] #[],cv],(w3.alloc (.deferred (some []))).alloc (.loop (tM fn a3 w3.heap.size true)),run_enterLoop_outer fn a3 #[13] (OV OT) (OW OT),?_,fun _ _=>trivial,?_,fun hx=>by simp[Fence.wide]at hx,?_⟩
  ·have hvf':(Act.mk a3 []).eval (.tmp 12)=.func (.func fW) #[] #[cv]:=hvf
   simp only[resolve,hvf',Deferred.ofValue]
   simp[Act.eval]
   rfl
  ·simp[invoke,call129]
  ·refine(Nv hY p (n:=0 - 1) hq hJ (((hcv.mono l1 (.refl _)).mono l2 (.refl _)).clo (show iB 0 (ac p)from ah p))).mono ?_
   rintro e w4 ⟨⟨u,rfl⟩,Γ4,hle4,ow4,h4,tl4,tD4,hl4,hD4⟩
   refine⟨_,_,run_endLoop hl4 (by cases q.1<;>simp),?_⟩
   obtain⟨h5,hle5⟩:=h4.putOther (l:=w3.heap.size+1) (o:=.loop {tM fn a3 w3.heap.size q.1 with state:=.exhausted}) tl4 (.inr (show w.heap.size<=_ by omega)) (fun c t fr e=>by rw[hl4]at e;cases e)
   have hD5:(w4.putObj (w3.heap.size+1) (.loop {tM fn a3 w3.heap.size q.1 with state:=.exhausted})).heap[w3.heap.size]? =some (.deferred (some [])):=(World.putObj_heap_other (by omega)).trans hD4
   generalize w4.putObj (w3.heap.size+1) (.loop {tM fn a3 w3.heap.size q.1 with state:=.exhausted})=w5 at h5 hle5 hD5
   have last:∀c:Code,aB Pg GE 2 c (EX .ret (Kh r)) (Kh q.2)->∀Q:Exit->Act->World->Prop,(∀a w,bodyPostM Fence.wide 0 Pg f137 R .ret a w->Q .ret a w)->c.wpIn Fence.wide 0 Pg Q ⟨a3,[{target:=.collected w3.heap.size,args:=#[]}]⟩ w5:=fun c hc Q hQ=>by
    refine wpIn_mono (wpIn_wide.2 (aB.on hc (by decide) h5 (by rw[hbl];decide) none [{target:=.collected w3.heap.size,args:=#[]}])) ?_
    rintro e ⟨a6,ds6⟩ w6 ⟨rfl,Γ6,bs6,ow6,st6,h6,⟨rfl,rfl⟩,hbs6,hle6,hsz6,hk6⟩
    obtain⟨k6,t6⟩:=hk6 _ (cx hD5) tD4
    have hD6:=k6.trans hD5
    obtain⟨h7,hle7⟩:=h6.putOther (l:=w3.heap.size) (o:=.deferred none) t6 (.inr hsz3) (fun c t fr e=>by rw[hD6]at e;cases e)
    exact hQ _ _ ⟨by simp,.inl ⟨w3.heap.size,_,rfl,run_takeDeferred hD6,hfin h7⟩⟩
   rcases aT h with⟨c3,h⟩|⟨c3,h⟩
   ·cases h
    have e3:(tM fn a3 w3.heap.size q.1).pending=none:=by show(if q.1=true then none else some Code.ret)=none;rw[c3];rfl
    rw[e3]
    exact last (.seq QU .ret) (Tn q.2) _ (fun _ _ hx=>hx)
   ·cases h
    have e3:(tM fn a3 w3.heap.size q.1).pending=some .ret:=by show(if q.1=true then none else some Code.ret)=some .ret;rw[c3];rfl
    rw[e3]
    exact last .ret (Sg q.2) _ (fun _ _ hx=>hx)
 refine key _ fun{Γ6 bs6 ow6 a6 w6} h7=>?_
 have hS7:SR Pg ⟨GE,Γ,w,bu [] ow⟩ Γ6 bs6 ow6 w6 a6 (Kh r):={h7 with
  bn:=fun i b hb=>(h7.bn i b hb).elim False.elim .inr
  on:=fun b L hL=>⟨(h7.on b L hL).1,(h7.on b L hL).2.elim False.elim .inr⟩
  gx:=hS.gx
  step:={h7.step with keep:=fun b hb _=>h7.step.keep b hb (fun hx=>hx)}}
 obtain⟨vr,e1,e2,e3⟩:=nl hS7 (fn:=f137) (r:=.int .i64 r) (by kernel_rfl)
 refine⟨vr,e1,vr,Γ6,vp (cZ f137.results.toList) [] ow6,rfl,?_⟩
 have hf:=hS7.finish (H':=[]) (src:=cZ f137.results.toList) (ro:=[]) e2 trivial trivial (fun x hx=>by cases hx) (fun x hx=>by cases hx)
 simpa using hf
noncomputable def Gs:Code:=f114.body.getD .skip
def uu:List Nat:=[66]
section
variable(t:ae)
def AR:av:=aN 68 [(1,.eptr (af t))] [.dead] []
def dE(o:Bool):av:=aN 68 [(1,.eptr (af t)),(33,.bool o)] [.dead] []
def ui:Option Bool:=
 if (t.Op == 6) = true then
  (oz t.Pred).bind fun r3=>
  if(!r3)=true then
   some true
  else
   if(decide ((t.Preds.length:Int)>0))=true then
    some true
   else
    if(t.Op !=4)=true then
     some (decide ((t.Preds.length:Int)>0))
    else
     some false
 else
  if(t.Op !=4)=true then
   some (decide ((t.Preds.length:Int)>0))
  else
   some false
theorem zf{x:Bool}(h:ui t=some x):aB Pg GE 0 (cA Gs 12) (EX .normal (dE t x)) (AR t):=by
 have p2:=fun{sc F} (r:PS sc F)=>sv (aG t)<|sv (aJ t)<|r
 rcases aT h with⟨c1,h⟩|⟨c1,h⟩
 ·obtain⟨r3,br3,h⟩:=aw h
  have p5:=fun{sc F} (r:PS sc F)=>p2<|sg 4 c1<|sv (bU t)<|sv (bX t)<|ba (nE br3)<|r
  rcases aT h with⟨c4,h⟩|⟨c4,h⟩
  ·obtain rfl:=lf h
   exact co uu (p5<|sg 9 c4<|eF .normal (dE t true))<|by kernel_rfl
  ·have p7:=fun{sc F} (r:PS sc F)=>p5<|sg 9 c4<|sv (bN t)<|sv (bO t)<|cD (aR.ln t.Preds)<|r
   rcases aT h with⟨c6,h⟩|⟨c6,h⟩
   ·obtain rfl:=lf h
    exact co uu (p7<|sg 16 c6<|eF .normal (dE t true))<|by kernel_rfl
   ·have p9:=fun{sc F} (r:PS sc F)=>p7<|sg 16 c6<|sv (aG t)<|sv (aJ t)<|r
    rcases aT h with⟨c8,h⟩|⟨c8,h⟩
    ·obtain rfl:=lf h
     exact co uu (p9<|sg 20 c8<|sv (bN t)<|sv (bO t)<|cD (aR.ln t.Preds)<|eF .normal (dE t (decide ((t.Preds.length:Int)>0))))<|by kernel_rfl
    ·obtain rfl:=lf h
     exact co uu (p9<|sg 20 c8<|eF .normal (dE t false))<|by kernel_rfl
 ·have p11:=fun{sc F} (r:PS sc F)=>p2<|sg 4 c1<|sv (aG t)<|sv (aJ t)<|r
  rcases aT h with⟨c10,h⟩|⟨c10,h⟩
  ·obtain rfl:=lf h
   exact co uu (p11<|sg 20 c10<|sv (bN t)<|sv (bO t)<|cD (aR.ln t.Preds)<|eF .normal (dE t (decide ((t.Preds.length:Int)>0))))<|by kernel_rfl
  ·obtain rfl:=lf h
   exact co uu (p11<|sg 20 c10<|eF .normal (dE t false))<|by kernel_rfl
end
section
variable(t:ae)(t35:waA)(t36:Int)(t37:Int)
def fA:av:=aN 68 [(1,.eptr (af t)),(35,sl cS t35),(36,.int .i64 t36),(37,.int .i64 t37)] [.dead] []
def fC(o:Unit⊕(Unit)):Exit:=match o with
 |(.inl _)=>.ret
 |(.inr _)=>.exit 0
def eh(o:Unit⊕(Unit)):av:=match o with
 |(.inl o)=>aN 68 [(2,.int .i64 3)] [.dead] []
 |(.inr o)=>aN 68 [(1,.eptr (af t))] [.dead] []
def qy:Option (Int⊕(Unit⊕(Unit))):=
 if(decide (t37<t36))=true then
  (dv t35 t37).bind fun x16=>
  (Cz x16).bind fun r17=>
  if(r17 !=0)=true then
   some (.inr (.inl ()))
  else
   some (.inl (bA (t37+1)))
 else
  some (.inr (.inr ()))
def uj:Option (Unit⊕(Unit)):=loop (fun(zz:Int)=>qy t35 t36 zz) t37
theorem xc{y:Int⊕(Unit⊕(Unit))}(h:qy t35 t36 t37=some y):aB Pg GE 0 (cA Gs 119) (LQ (fun(zz:Int)=>fA t t35 t36 zz) fC (eh t) y) (fA t t35 t36 t37):=by
 rcases aT h with⟨c15,h⟩|⟨c15,h⟩
 ·obtain⟨x16,bx16,h⟩:=aw h
  obtain⟨r17,br17,h⟩:=aw h
  have p19:=fun{sc F} (r:PS sc F)=>sg 0 c15<|sv (aW.ia (k:=.i64) bx16)<|sv (cP xe (.str x16) [])<|ba (E0 br17)<|r
  rcases aT h with⟨c18,h⟩|⟨c18,h⟩
  ·obtain rfl:=lf h
   have z:=p19<|sg 0 c18<|eF (fC (.inl ())) (eh t (.inl ()))
   exact gf uu (by intro hx;cases hx) z<|by kernel_rfl
  ·obtain rfl:=lf h
   exact rY uu (p19<|sg 0 c18<|eF .normal (fA t t35 t36 (bA (t37+1))))<|by kernel_rfl
 ·obtain rfl:=lf h
  have z:=sg 0 c15<|eF (fC (.inr ())) (eh t (.inr ()))
  exact gf uu (by intro hx;cases hx) z<|by kernel_rfl
theorem pH{x:Unit⊕(Unit)}(h:uj t35 t36 t37=some x):aB Pg GE 0 (.loop (cA Gs 119)) (EX (fC x) (eh t x)) (fA t t35 t36 t37):=
 aB.loop (S:=fun(zz:Int)=>fA t t35 t36 zz) (ex:=fC) (s:=t37) h fun zz y hy=>xc t t35 t36 zz hy
end
section
variable(t54:waB)(t55:Int)(t56:Int)
def ei:av:=aN 68 [(54,sl ac t54),(55,.int .i64 t55),(56,.int .i64 t56)] [.dead] [((54,0),28)]
def fD(o:Int⊕(Unit)):Exit:=match o with
 |(.inl _)=>.ret
 |(.inr _)=>.exit 2
def ej(o:Int⊕(Unit)):av:=match o with
 |(.inl o)=>aN 68 [(2,.int .i64 o)] [.dead] []
 |(.inr o)=>aN 68 [] [.dead] []
def qz:Option (Int⊕(Int⊕(Unit))):=
 if (decide (t56 < t55)) = true then
  (dv t54 t56).bind fun x26=>
  (oz x26).bind fun r27=>
  if r27=true then
   some (.inl (bA (t56+1)))
  else
   (y3 x26).bind fun r30=>
   if(r30 !=0)=true then
    some (.inr (.inl r30))
   else
    some (.inl (bA (t56+1)))
 else
  some (.inr (.inr ()))
def uk:Option (Int⊕(Unit)):=loop (fun(zz:Int)=>qz t54 t55 zz) t56
theorem xd{y:Int⊕(Int⊕(Unit))}(h:qz t54 t55 t56=some y):aB Pg GE 0 (cA Gs 503) (LQ (fun(zz:Int)=>ei t54 t55 zz) fD ej y) (ei t54 t55 t56):=by
 rcases aT h with⟨c25,h⟩|⟨c25,h⟩
 ·obtain⟨x26,bx26,h⟩:=aw h
  obtain⟨r27,br27,h⟩:=aw h
  have p29:=fun{sc F} (r:PS sc F)=>sg 0 c25<|sv (aR.ia (k:=.i64) bx26)<|sv (az x26)<|sx eX<|sx (bv x26)<|sv (aX x26 [])<|ba (nE br27)<|r
  rcases aT h with⟨c28,h⟩|⟨c28,h⟩
  ·obtain rfl:=lf h
   have z:=p29<|sg 0 c28<|pg 0 .normal (ei t54 t55 (bA (t56+1))) rfl (cF (aI (up (am ah t54)) (aI trivial (aI trivial trivial)))) (aI trivial trivial)
   exact cz (A:=uu) mixed z<|by kernel_rfl
  ·obtain⟨r30,br30,h⟩:=aw h
   have p32:=fun{sc F} (r:PS sc F)=>p29<|sg 0 c28<|sv (aX x26 [])<|ba (GI br30)<|r
   rcases aT h with⟨c31,h⟩|⟨c31,h⟩
   ·obtain rfl:=lf h
    have z:=p32<|sg 0 c31<|pg 0 (fD (.inl r30)) (ej (.inl r30)) rfl (cF (aI trivial trivial)) (aI trivial trivial)
    exact tE (A:=uu) mixed (by intro hx;cases hx) z<|by kernel_rfl
   ·obtain rfl:=lf h
    have z:=p32<|sg 0 c31<|pg 0 .normal (ei t54 t55 (bA (t56+1))) rfl (cF (aI (up (am ah t54)) (aI trivial (aI trivial trivial)))) (aI trivial trivial)
    exact cz (A:=uu) mixed z<|by kernel_rfl
 ·obtain rfl:=lf h
  have z:=sg 0 c25<|eF (fD (.inr ())) (ej (.inr ()))
  exact gf uu (by intro hx;cases hx) z<|by kernel_rfl
theorem pI{x:Int⊕(Unit)}(h:uk t54 t55 t56=some x):aB Pg GE 0 (.loop (cA Gs 503)) (EX (fD x) (ej x)) (ei t54 t55 t56):=
 aB.loop (S:=fun(zz:Int)=>ei t54 t55 zz) (ex:=fD) (s:=t56) h fun zz y hy=>xd t54 t55 zz hy
end
def AQ(t:ae):Option Int:=
 (ui t).bind fun o12=>
 if o12=true then
  some 1
 else
  (uj t.Names (t.Names.length:Int) 0).bind fun o20=>match o20 with
  |(.inl o20)=>
   some 3
  | (.inr o20) =>
   (vw t.Names).bind fun r21=>
   if(!r21)=true then
    some 4
   else
    (app ([t.Pred]:List aa) t.Preds).bind fun l24=>
    (uk l24 (l24.length:Int) 0).bind fun o33=>match o33 with
    |(.inl o33)=>
     some o33
    |(.inr o33)=>
     some 0
theorem DD{t:ae}{r:Int}(h:AQ t=some r):CC Pg GE 114 [.agg (af t)] (.int .i64 r) []:=by
 obtain⟨o12,bo12,h⟩:=aw h
 have p14:=fun{sc F} (r:PS sc F)=>se (bQ t)<|kK 1<|cC (zf t bo12)<|r
 rcases aT h with⟨c13,h⟩|⟨c13,h⟩
 ·obtain rfl:=lf h
  have z:=p14<|sg 0 c13<|en (aI (rP (.int .i64 1))<|trivial)
  exact b7 uu call114 func114 (c:=Gs) rfl (aI (al t) trivial) z<|by kernel_rfl
 ·obtain⟨o20,bo20,h⟩:=aw h
  rcases o20 with o20|o20
  ·obtain rfl:=lf h
   have z:=p14<|sg 0 c13<|sv (aC t)<|sv (aD t)<|cD (aW.ln t.Names)<|cC (e:=.ret) (s1:=eh t (.inl o20)) (pH t t.Names (t.Names.length:Int) 0 bo20)<|en (aI (rP (.int .i64 3))<|trivial)
   exact b7 uu call114 func114 (c:=Gs) rfl (aI (al t) trivial) z<|by kernel_rfl
  ·obtain⟨r21,br21,h⟩:=aw h
   have p23:=fun{sc F} (r:PS sc F)=>p14<|sg 0 c13<|sv (aC t)<|sv (aD t)<|cD (aW.ln t.Names)<|cC (e:=.exit 0) (s1:=eh t (.inr o20)) (pH t t.Names (t.Names.length:Int) 0 bo20)<|sv (aC t)<|sv (aD t)<|ba (z6 br21)<|r
   rcases aT h with⟨c22,h⟩|⟨c22,h⟩
   ·obtain rfl:=lf h
    have z:=p23<|sg 0 c22<|en (aI (rP (.int .i64 4))<|trivial)
    exact b7 uu call114 func114 (c:=Gs) rfl (aI (al t) trivial) z<|by kernel_rfl
   ·obtain⟨l24,bl24,h⟩:=aw h
    obtain⟨o33,bo33,h⟩:=aw h
    rcases o33 with o33|o33
    ·obtain rfl:=lf h
     have z:=p23<|sg 0 c22<|sv (bU t)<|sv (bX t)<|sv (aR.mk' (v:=ce) aY ([t.Pred]:List aa) 1 (by kernel_rfl))<|sv (bN t)<|sv (bO t)<|sv (aR.ap bl24)<|cD (aR.ln l24)<|cC (e:=.ret) (s1:=ej (.inl o33)) (pI l24 (l24.length:Int) 0 bo33)<|en (aI (rP (.int .i64 o33))<|trivial)
     exact b7 uu call114 func114 (c:=Gs) rfl (aI (al t) trivial) z<|by kernel_rfl
    ·obtain rfl:=lf h
     have z:=p23<|sg 0 c22<|sv (bU t)<|sv (bX t)<|sv (aR.mk' (v:=ce) aY ([t.Pred]:List aa) 1 (by kernel_rfl))<|sv (bN t)<|sv (bO t)<|sv (aR.ap bl24)<|cD (aR.ln l24)<|cC (e:=.exit 2) (s1:=ej (.inr o33)) (pI l24 (l24.length:Int) 0 bo33)<|en (aI (rP (.int .i64 0))<|trivial)
     exact b7 uu call114 func114 (c:=Gs) rfl (aI (al t) trivial) z<|by kernel_rfl
noncomputable def RS:Code:=f78.body.getD .skip
def Rd:List Nat:=[11,23]
section
variable(R59:j2)(t13:waC)(t14:Int)(t15:Int)
def eY:av:=aN 25 [(13,sl af t13),(14,.int .i64 t14),(15,.int .i64 t15)] [.dead] []
def eZ(o:Int⊕(Unit)):Exit:=match o with
 |(.inl _)=>.ret
 |(.inr _)=>.exit 0
def dY(o:Int⊕(Unit)):av:=match o with
 |(.inl o)=>aN 25 [(2,.int .i64 o)] [.dead] []
 |(.inr o)=>aN 25 [] [.dead] []
def pJ:Option (Int⊕(Int⊕(Unit))):=
 if(decide (t15<t14))=true then
  (dv t13 t15).bind fun x5=>
  (R59 x5).bind fun r6=>
  if(r6 !=0)=true then
   some (.inr (.inl r6))
  else
   some (.inl (bA (t15+1)))
 else
  some (.inr (.inr ()))
def sq:Option (Int⊕(Unit)):=loop (fun(zz:Int)=>pJ R59 t13 t14 zz) t15
theorem vV(hR59:np R59){y:Int⊕(Int⊕(Unit))}(h:pJ R59 t13 t14 t15=some y):aB Pg GE 0 (cA RS 119) (LQ (fun(zz:Int)=>eY t13 t14 zz) eZ dY y) (eY t13 t14 t15):=by
 rcases aT h with⟨c4,h⟩|⟨c4,h⟩
 ·obtain⟨x5,bx5,h⟩:=aw h
  obtain⟨r6,br6,h⟩:=aw h
  have p8:=fun{sc F} (r:PS sc F)=>sg 0 c4<|sv (d5.ia (k:=.i64) bx5)<|sv (bh x5)<|sx jh<|sx (db x5)<|sv (bz x5 [])<|ba (hR59 _ _ br6)<|r
  rcases aT h with⟨c7,h⟩|⟨c7,h⟩
  ·obtain rfl:=lf h
   have z:=p8<|sg 0 c7<|pg 0 (eZ (.inl r6)) (dY (.inl r6)) rfl (cF (aI trivial trivial)) (aI trivial trivial)
   exact tE (A:=Rd) mixed (by intro hx;cases hx) z<|by kernel_rfl
  ·obtain rfl:=lf h
   have z:=p8<|sg 0 c7<|pg 0 .normal (eY t13 t14 (bA (t15+1))) rfl (cF (aI (up (am al t13)) (aI trivial (aI trivial trivial)))) (aI trivial trivial)
   exact cz (A:=Rd) mixed z<|by kernel_rfl
 ·obtain rfl:=lf h
  have z:=sg 0 c4<|eF (eZ (.inr ())) (dY (.inr ()))
  exact gf Rd (by intro hx;cases hx) z<|by kernel_rfl
theorem nT(hR59:np R59){x:Int⊕(Unit)}(h:sq R59 t13 t14 t15=some x):aB Pg GE 0 (.loop (cA RS 119)) (EX (eZ x) (dY x)) (eY t13 t14 t15):=
 aB.loop (S:=fun(zz:Int)=>eY t13 t14 zz) (ex:=eZ) (s:=t15) h fun zz y hy=>vV R59 t13 t14 zz hR59 hy
end
def ul(R59:j2)(t:ae):Option Int:=
 (AQ t).bind fun r1=>
 if(r1 !=0)=true then
  some r1
 else
  (sq R59 t.Args (t.Args.length:Int) 0).bind fun o9=>match o9 with
  |(.inl o9)=>
   some o9
  |(.inr o9)=>
   some 0
theorem AS(R59:j2)(hR59:np R59){t:ae}{r:Int}(h:ul R59 t=some r):CC Pg GE 78 [.agg (af t)] (.int .i64 r) []:=by
 obtain⟨r1,br1,h⟩:=aw h
 have p3:=fun{sc F} (r:PS sc F)=>se (bQ t)<|sv (bh t)<|ba (DD br1)<|r
 rcases aT h with⟨c2,h⟩|⟨c2,h⟩
 ·obtain rfl:=lf h
  have z:=p3<|sg 0 c2<|en (aI (rP (.int .i64 r1))<|trivial)
  exact b7 Rd call78 func78 (c:=RS) rfl (aI (al t) trivial) z<|by kernel_rfl
 ·obtain⟨o9,bo9,h⟩:=aw h
  rcases o9 with o9|o9
  ·obtain rfl:=lf h
   have z:=p3<|sg 0 c2<|sv (aK t)<|sv (aL t)<|cD (d5.ln t.Args)<|cC (e:=.ret) (s1:=dY (.inl o9)) (nT R59 t.Args (t.Args.length:Int) 0 hR59 bo9)<|en (aI (rP (.int .i64 o9))<|trivial)
   exact b7 Rd call78 func78 (c:=RS) rfl (aI (al t) trivial) z<|by kernel_rfl
  ·obtain rfl:=lf h
   have z:=p3<|sg 0 c2<|sv (aK t)<|sv (aL t)<|cD (d5.ln t.Args)<|cC (e:=.exit 0) (s1:=dY (.inr o9)) (nT R59 t.Args (t.Args.length:Int) 0 hR59 bo9)<|en (aI (rP (.int .i64 0))<|trivial)
   exact b7 Rd call78 func78 (c:=RS) rfl (aI (al t) trivial) z<|by kernel_rfl
def um:(ae->Option Int)->(ae)->Option Int:=fun(rec:ae->Option Int) (x:ae)=>ul (fun t=>rec t) x
def xQ(t:ae):Option Int:=nw um t
theorem B9{t:ae}{r:Int}(h:xQ t=some r):CC Pg GE 78 [.agg (af t)] (.int .i64 r) []:=
 cT (F:=um) (M:=fun(x:ae) (r:Int)=>CC Pg GE 78 [.agg (af x)] (.int .i64 r) []) (fun rec hrec x r h=>AS _ (fun t r h=>hrec t r h) h) h
noncomputable def TW:Code:=f37.body.getD .skip
def TN:List Nat:=[8]
def xP(t:ae):Option Int:=
 (CP t).bind fun r1=>
 if(r1 !=0)=true then
  some r1
 else
  (xQ t).bind fun r4=>
  some r4
theorem B7{t:ae}{r:Int}(h:xP t=some r):CC Pg GE 37 [.agg (af t)] (.int .i64 r) []:=by
 obtain⟨r1,br1,h⟩:=aw h
 have p3:=fun{sc F} (r:PS sc F)=>se (bQ t)<|sv (bh t)<|ba (F0 br1)<|r
 rcases aT h with⟨c2,h⟩|⟨c2,h⟩
 ·obtain rfl:=lf h
  have z:=p3<|sg 0 c2<|en (aI (rP (.int .i64 r1))<|trivial)
  exact b7 TN call37 func37 (c:=TW) rfl (aI (al t) trivial) z<|by kernel_rfl
 ·obtain⟨r4,br4,h⟩:=aw h
  obtain rfl:=lf h
  have z:=p3<|sg 0 c2<|sv (bh t)<|ba (B9 br4)<|en (aI (rP (.int .i64 r4))<|trivial)
  exact b7 TN call37 func37 (c:=TW) rfl (aI (al t) trivial) z<|by kernel_rfl
abbrev tc:=(ae->ae->Option Bool)
abbrev yj(R:tc):Prop:=∀(a:ae) (a2:ae) (r:Bool),R a a2=some r->CC Pg GE 12 [.agg (af a),.agg (af a2)] (.bool r) []
noncomputable def RR:Code:=f32.body.getD .skip
def Rb:List Nat:=[15]
section
variable(v:waA)(v2:waA)(t12:Int)(t13:Int)
def jx:av:=aN 26 [(0,sl cS v),(1,sl cS v2),(12,.int .i64 t12),(13,.int .i64 t13)] [] []
def jy(o:Unit⊕(Unit)):Exit:=match o with
 |(.inl _)=>.ret
 |(.inr _)=>.exit 0
def ig(o:Unit⊕(Unit)):av:=match o with
 |(.inl o)=>aN 26 [(4,.bool false)] [] []
 |(.inr o)=>aN 26 [] [] []
def qI:Option (Int⊕(Unit⊕(Unit))):=
 if(decide (t13<t12))=true then
  (dv v t13).bind fun x4=>
  (dv v2 t13).bind fun x5=>
  if(!(x4==x5))=true then
   some (.inr (.inl ()))
  else
   some (.inl (bA (t13+1)))
 else
  some (.inr (.inr ()))
def uJ:Option (Unit⊕(Unit)):=loop (fun(zz:Int)=>qI v v2 t12 zz) t13
theorem CY{y:Int⊕(Unit⊕(Unit))}(h:qI v v2 t12 t13=some y):aB Pg GE 0 (cA RR 119) (LQ (fun(zz:Int)=>jx v v2 t12 zz) jy ig y) (jx v v2 t12 t13):=by
 rcases aT h with⟨c3,h⟩|⟨c3,h⟩
 ·obtain⟨x4,bx4,h⟩:=aw h
  obtain⟨x5,bx5,h⟩:=aw h
  have p7:=fun{sc F} (r:PS sc F)=>sg 0 c3<|rp [0,0,3,7,0,0,48,112,255]<|sv (aW.ia (k:=.i64) bx4)<|sv (cP xe (.str x4) [])<|sv (aW.ia (k:=.i64) bx5)<|sv (cP xe (.str x5) [])<|r
  rcases aT h with⟨c6,h⟩|⟨c6,h⟩
  ·obtain rfl:=lf h
   have z:=p7<|sg 0 c6<|eF (jy (.inl ())) (ig (.inl ()))
   exact gf Rb (by intro hx;cases hx) z<|by kernel_rfl
  ·obtain rfl:=lf h
   exact rY Rb (p7<|sg 0 c6<|eF .normal (jx v v2 t12 (bA (t13+1))))<|by kernel_rfl
 ·obtain rfl:=lf h
  have z:=sg 0 c3<|eF (jy (.inr ())) (ig (.inr ()))
  exact gf Rb (by intro hx;cases hx) z<|by kernel_rfl
theorem uK{x:Unit⊕(Unit)}(h:uJ v v2 t12 t13=some x):aB Pg GE 0 (.loop (cA RR 119)) (EX (jy x) (ig x)) (jx v v2 t12 t13):=
 aB.loop (S:=fun(zz:Int)=>jx v v2 t12 zz) (ex:=jy) (s:=t13) h fun zz y hy=>CY v v2 t12 zz hy
end
def uI(a:waA)(a2:waA):Option Bool:=
 if((a.length:Int)!=(a2.length:Int))=true then
  some false
 else
  (uJ a a2 (a.length:Int) 0).bind fun o8=>match o8 with
  |(.inl o8)=>
   some false
  |(.inr o8)=>
   some true
theorem Cn{a:waA}{a2:waA}{r:Bool}(h:uI a a2=some r):CC Pg GE 32 [sl cS a,sl cS a2] (.bool r) []:=by
 have p2:=fun{sc F} (r:PS sc F)=>cD (aW.ln a)<|cD (aW.ln a2)<|r
 rcases aT h with⟨c1,h⟩|⟨c1,h⟩
 ·obtain rfl:=lf h
  have z:=p2<|sg 0 c1<|en (aI (rP (.bool false))<|trivial)
  exact b7 Rb call32 func32 (c:=RR) rfl (aI (am dS a) (aI (am dS a2) trivial)) z<|by kernel_rfl
 ·obtain⟨o8,bo8,h⟩:=aw h
  rcases o8 with o8|o8
  ·obtain rfl:=lf h
   have z:=p2<|sg 0 c1<|cD (aW.ln a)<|cC (e:=.ret) (s1:=ig (.inl o8)) (uK a a2 (a.length:Int) 0 bo8)<|en (aI (rP (.bool false))<|trivial)
   exact b7 Rb call32 func32 (c:=RR) rfl (aI (am dS a) (aI (am dS a2) trivial)) z<|by kernel_rfl
  ·obtain rfl:=lf h
   have z:=p2<|sg 0 c1<|cD (aW.ln a)<|cC (e:=.exit 0) (s1:=ig (.inr o8)) (uK a a2 (a.length:Int) 0 bo8)<|en (aI (rP (.bool true))<|trivial)
   exact b7 Rb call32 func32 (c:=RR) rfl (aI (am dS a) (aI (am dS a2) trivial)) z<|by kernel_rfl
noncomputable def US:Code:=f59.body.getD .skip
def UD:List Nat:=[]
def D9:Option aa:=
 some (⟨2,([]:ag),1,([]:List aa)⟩:aa)
theorem I2{r:aa}(h:D9=some r):CC Pg GE 59 [] (.agg (ac r)) [(3,28)]:=by
 obtain rfl:=lf h
 have z:=sx eX<|sb (od 2 1) (n8 2 1)<|sy (aE (⟨2,([]:ag),1,([]:List aa)⟩:aa))<|en (aI (cQ (⟨2,([]:ag),1,([]:List aa)⟩:aa))<|aI (ah (⟨2,([]:ag),1,([]:List aa)⟩:aa))<|rT)
 exact b7 UD call59 func59 (c:=US) rfl trivial z<|by kernel_rfl
abbrev ta:=(aa->aa->Option Bool)
abbrev yh(R:ta):Prop:=∀(a:aa) (a2:aa) (r:Bool),R a a2=some r->CC Pg GE 22 [.agg (ac a),.agg (ac a2)] (.bool r) []
noncomputable def Rf:Code:=f22.body.getD .skip
def ON:List Nat:=[39]
section
variable(v:aa)(v2:aa)
def Gi:av:=aN 53 [(2,.eptr (ac v)),(3,.eptr (ac v2))] [.dead,.dead] []
def jB(o:Bool):av:=aN 53 [(2,.eptr (ac v)),(3,.eptr (ac v2)),(33,.bool o)] [.dead,.dead] []
def uP:Option Bool:=
 if(v.Op !=v2.Op)=true then
  some true
 else
  if(!(v.Name==v2.Name))=true then
   some true
  else
   if(v.N !=v2.N)=true then
    some true
   else
    some ((v.Kids.length:Int)!=(v2.Kids.length:Int))
theorem D8{x:Bool}(h:uP v v2=some x):aB Pg GE 0 (cA Rf 12) (EX .normal (jB v v2 x)) (Gi v v2):=by
 have p2:=fun{sc F} (r:PS sc F)=>sv (aP v)<|sv (aQ v)<|sv (aP v2)<|sv (aQ v2)<|r
 rcases aT h with⟨c1,h⟩|⟨c1,h⟩
 ·obtain rfl:=lf h
  exact co ON (p2<|sg 6 c1<|eF .normal (jB v v2 true))<|by kernel_rfl
 ·have p4:=fun{sc F} (r:PS sc F)=>p2<|sg 6 c1<|sv (bT v)<|sv (cm v)<|sv (bT v2)<|sv (cm v2)<|r
  rcases aT h with⟨c3,h⟩|⟨c3,h⟩
  ·obtain rfl:=lf h
   exact co ON (p4<|sg 13 c3<|eF .normal (jB v v2 true))<|by kernel_rfl
  ·have p6:=fun{sc F} (r:PS sc F)=>p4<|sg 13 c3<|sv (cf v)<|sv (cp v)<|sv (cf v2)<|sv (cp v2)<|r
   rcases aT h with⟨c5,h⟩|⟨c5,h⟩
   ·obtain rfl:=lf h
    exact co ON (p6<|sg 20 c5<|eF .normal (jB v v2 true))<|by kernel_rfl
   ·obtain rfl:=lf h
    exact co ON (p6<|sg 20 c5<|sv (aF v)<|sv (aH v)<|cD (aR.ln v.Kids)<|sv (aF v2)<|sv (aH v2)<|cD (aR.ln v2.Kids)<|eF .normal (jB v v2 ((v.Kids.length:Int)!=(v2.Kids.length:Int))))<|by kernel_rfl
end
section
variable(R76:ta)(v:aa)(v2:aa)(t36:Int)(t37:Int)
def jC:av:=aN 53 [(2,.eptr (ac v)),(3,.eptr (ac v2)),(36,.int .i64 t36),(37,.int .i64 t37)] [.dead,.dead] []
def jD(o:Unit⊕(Unit)):Exit:=match o with
 |(.inl _)=>.ret
 |(.inr _)=>.exit 0
def ii(o:Unit⊕(Unit)):av:=match o with
 |(.inl o)=>aN 53 [(4,.bool false)] [.dead,.dead] []
 |(.inr o)=>aN 53 [] [.dead,.dead] []
def mI:Option (Int⊕(Unit⊕(Unit))):=
 if(decide (t37<t36))=true then
  (dv v.Kids t37).bind fun x11=>
  (dv v2.Kids t37).bind fun x12=>
  (R76 x11 x12).bind fun r13=>
  if(!r13)=true then
   some (.inr (.inl ()))
  else
   some (.inl (bA (t37+1)))
 else
  some (.inr (.inr ()))
def uQ:Option (Unit⊕(Unit)):=loop (fun(zz:Int)=>mI R76 v v2 t36 zz) t37
theorem C3(hR76:yh R76){y:Int⊕(Unit⊕(Unit))}(h:mI R76 v v2 t36 t37=some y):aB Pg GE 0 (cA Rf 119) (LQ (fun(zz:Int)=>jC v v2 t36 zz) jD ii y) (jC v v2 t36 t37):=by
 rcases aT h with⟨c10,h⟩|⟨c10,h⟩
 ·obtain⟨x11,bx11,h⟩:=aw h
  obtain⟨x12,bx12,h⟩:=aw h
  obtain⟨r13,br13,h⟩:=aw h
  have p15:=fun{sc F} (r:PS sc F)=>sg 0 c10<|rp [0,1,0,7,15,0,32,0,224,480,1023,2047]<|sv (aF v)<|sv (aH v)<|sv (aR.ia (k:=.i64) bx11)<|sv (az x11)<|sv (aF v2)<|sv (aH v2)<|sv (aR.ia (k:=.i64) bx12)<|sv (az x12)<|ba (hR76 _ _ _ br13)<|r
  rcases aT h with⟨c14,h⟩|⟨c14,h⟩
  ·obtain rfl:=lf h
   have z:=p15<|sg 0 c14<|eF (jD (.inl ())) (ii (.inl ()))
   exact gf ON (by intro hx;cases hx) z<|by kernel_rfl
  ·obtain rfl:=lf h
   exact rY ON (p15<|sg 0 c14<|eF .normal (jC v v2 t36 (bA (t37+1))))<|by kernel_rfl
 ·obtain rfl:=lf h
  have z:=sg 0 c10<|eF (jD (.inr ())) (ii (.inr ()))
  exact gf ON (by intro hx;cases hx) z<|by kernel_rfl
theorem uR(hR76:yh R76){x:Unit⊕(Unit)}(h:uQ R76 v v2 t36 t37=some x):aB Pg GE 0 (.loop (cA Rf 119)) (EX (jD x) (ii x)) (jC v v2 t36 t37):=
 aB.loop (S:=fun(zz:Int)=>jC v v2 t36 zz) (ex:=jD) (s:=t37) h fun zz y hy=>C3 R76 v v2 t36 zz hR76 hy
end
def sW(R76:ta)(a:aa)(a2:aa):Option Bool:=
 (uP a a2).bind fun o7=>
 if o7=true then
  some false
 else
  (uQ R76 a a2 (a.Kids.length:Int) 0).bind fun o16=>match o16 with
  |(.inl o16)=>
   some false
  |(.inr o16)=>
   some true
theorem HN(R76:ta)(hR76:yh R76){a:aa}{a2:aa}{r:Bool}(h:sW R76 a a2=some r):CC Pg GE 22 [.agg (ac a),.agg (ac a2)] (.bool r) []:=by
 obtain⟨o7,bo7,h⟩:=aw h
 have p9:=fun{sc F} (r:PS sc F)=>se (bM a)<|se (bM a2)<|kK 1<|cC (D8 a a2 bo7)<|r
 rcases aT h with⟨c8,h⟩|⟨c8,h⟩
 ·obtain rfl:=lf h
  have z:=p9<|sg 0 c8<|en (aI (rP (.bool false))<|trivial)
  exact b7 ON call22 func22 (c:=Rf) rfl (aI (ah a) (aI (ah a2) trivial)) z<|by kernel_rfl
 ·obtain⟨o16,bo16,h⟩:=aw h
  rcases o16 with o16|o16
  ·obtain rfl:=lf h
   have z:=p9<|sg 0 c8<|sv (aF a)<|sv (aH a)<|cD (aR.ln a.Kids)<|cC (e:=.ret) (s1:=ii (.inl o16)) (uR R76 a a2 (a.Kids.length:Int) 0 hR76 bo16)<|en (aI (rP (.bool false))<|trivial)
   exact b7 ON call22 func22 (c:=Rf) rfl (aI (ah a) (aI (ah a2) trivial)) z<|by kernel_rfl
  ·obtain rfl:=lf h
   have z:=p9<|sg 0 c8<|sv (aF a)<|sv (aH a)<|cD (aR.ln a.Kids)<|cC (e:=.exit 0) (s1:=ii (.inr o16)) (uR R76 a a2 (a.Kids.length:Int) 0 hR76 bo16)<|en (aI (rP (.bool true))<|trivial)
   exact b7 ON call22 func22 (c:=Rf) rfl (aI (ah a) (aI (ah a2) trivial)) z<|by kernel_rfl
def yp:((aa×aa)->Option Bool)->(aa×aa)->Option Bool:=fun(rec:(aa×aa)->Option Bool) (x:aa×aa)=>sW (fun a a2=>rec (a,a2)) x.1 x.2
def jA(a:aa)(a2:aa):Option Bool:=nw yp (a,a2)
theorem ky{a:aa}{a2:aa}{r:Bool}(h:jA a a2=some r):CC Pg GE 22 [.agg (ac a),.agg (ac a2)] (.bool r) []:=
 cT (F:=yp) (M:=fun(x:aa×aa) (r:Bool)=>CC Pg GE 22 [.agg (ac x.1),.agg (ac x.2)] (.bool r) []) (fun rec hrec x r h=>HN _ (fun a a2 r h=>hrec (a,a2) r h) h) h
noncomputable def T0:Code:=f87.body.getD .skip
def TR:List Nat:=[]
def uS(p:aa):Option Bool:=
 D9.bind fun r1=>
 (jA p r1).bind fun r2=>
 if r2=true then
  some true
 else
  (jA p (⟨0,([]:ag),0,([]:List aa)⟩:aa)).bind fun r5=>
  some r5
theorem Co{p:aa}{r:Bool}(h:uS p=some r):CC Pg GE 87 [.agg (ac p)] (.bool r) []:=by
 obtain⟨r1,br1,h⟩:=aw h
 obtain⟨r2,br2,h⟩:=aw h
 have p4:=fun{sc F} (r:PS sc F)=>se (bM p)<|rp [0,0,3,7,15,15,63,127,255]<|sv (az p)<|ba (I2 br1)<|ba (ky br2)<|r
 rcases aT h with⟨c3,h⟩|⟨c3,h⟩
 ·obtain rfl:=lf h
  have z:=p4<|sg 4 c3<|en (aI (rP (.bool true))<|trivial)
  exact b7 TR call87 func87 (c:=T0) rfl (aI (ah p) trivial) z<|by kernel_rfl
 ·obtain⟨r5,br5,h⟩:=aw h
  obtain rfl:=lf h
  have z:=p4<|sg 4 c3<|sv (az p)<|sb (tn) (tk)<|ba (ky br5)<|en (aI (rP (.bool r5))<|trivial)
  exact b7 TR call87 func87 (c:=T0) rfl (aI (ah p) trivial) z<|by kernel_rfl
noncomputable def S8:Code:=f48.body.getD .skip
def SS:List Nat:=[]
def ru(a:aa)(a2:aa):Option Bool:=
 (uS a).bind fun r1=>
 if r1=true then
  (uS a2).bind fun r4=>
  if r4=true then
   some true
  else
   (jA a a2).bind fun r7=>
   some r7
 else
  (jA a a2).bind fun r8=>
  some r8
theorem Cp{a:aa}{a2:aa}{r:Bool}(h:ru a a2=some r):CC Pg GE 48 [.agg (ac a),.agg (ac a2)] (.bool r) []:=by
 obtain⟨r1,br1,h⟩:=aw h
 have p3:=fun{sc F} (r:PS sc F)=>se (bM a)<|se (bM a2)<|sv (az a)<|ba (Co br1)<|r
 rcases aT h with⟨c2,h⟩|⟨c2,h⟩
 ·obtain⟨r4,br4,h⟩:=aw h
  have p6:=fun{sc F} (r:PS sc F)=>p3<|sg 3 c2<|sv (az a2)<|ba (Co br4)<|r
  rcases aT h with⟨c5,h⟩|⟨c5,h⟩
  ·obtain rfl:=lf h
   have z:=p6<|sg 7 c5<|en (aI (rP (.bool true))<|trivial)
   exact b7 SS call48 func48 (c:=S8) rfl (aI (ah a) (aI (ah a2) trivial)) z<|by kernel_rfl
  ·obtain⟨r7,br7,h⟩:=aw h
   obtain rfl:=lf h
   have z:=p6<|sg 7 c5<|sv (az a)<|sv (az a2)<|ba (ky br7)<|en (aI (rP (.bool r7))<|trivial)
   exact b7 SS call48 func48 (c:=S8) rfl (aI (ah a) (aI (ah a2) trivial)) z<|by kernel_rfl
 ·obtain⟨r8,br8,h⟩:=aw h
  obtain rfl:=lf h
  have z:=p3<|sg 3 c2<|sv (az a)<|sv (az a2)<|ba (ky br8)<|en (aI (rP (.bool r8))<|trivial)
  exact b7 SS call48 func48 (c:=S8) rfl (aI (ah a) (aI (ah a2) trivial)) z<|by kernel_rfl
noncomputable def Pc:Code:=f12.body.getD .skip
def Ke:List Nat:=[58,77]
section
variable(v:ae)(v2:ae)
def Gk:av:=aN 91 [(2,.eptr (af v)),(3,.eptr (af v2))] [.dead,.dead] []
def fG(o:Bool):av:=aN 91 [(2,.eptr (af v)),(3,.eptr (af v2)),(52,.bool o)] [.dead,.dead] []
def uV:Option Bool:=
 if(v.Op !=v2.Op)=true then
  some true
 else
  if(!(v.Name==v2.Name))=true then
   some true
  else
   if((v.Args.length:Int)!=(v2.Args.length:Int))=true then
    some true
   else
    if((v.Preds.length:Int)!=(v2.Preds.length:Int))=true then
     some true
    else
     (uI v.Names v2.Names).bind fun r9=>
     if(!r9)=true then
      some true
     else
      (ru v.Pred v2.Pred).bind fun r12=>
      some (!r12)
theorem Ee{x:Bool}(h:uV v v2=some x):aB Pg GE 0 (cA Pc 12) (EX .normal (fG v v2 x)) (Gk v v2):=by
 have p2:=fun{sc F} (r:PS sc F)=>sv (aG v)<|sv (aJ v)<|sv (aG v2)<|sv (aJ v2)<|r
 rcases aT h with⟨c1,h⟩|⟨c1,h⟩
 ·obtain rfl:=lf h
  exact co Ke (p2<|sg 6 c1<|eF .normal (fG v v2 true))<|by kernel_rfl
 ·have p4:=fun{sc F} (r:PS sc F)=>p2<|sg 6 c1<|sv (dc v)<|sv (dC v)<|sv (dc v2)<|sv (dC v2)<|r
  rcases aT h with⟨c3,h⟩|⟨c3,h⟩
  ·obtain rfl:=lf h
   exact co Ke (p4<|sg 13 c3<|eF .normal (fG v v2 true))<|by kernel_rfl
  ·have p6:=fun{sc F} (r:PS sc F)=>p4<|sg 13 c3<|sv (aK v)<|sv (aL v)<|cD (d5.ln v.Args)<|sv (aK v2)<|sv (aL v2)<|cD (d5.ln v2.Args)<|r
   rcases aT h with⟨c5,h⟩|⟨c5,h⟩
   ·obtain rfl:=lf h
    exact co Ke (p6<|sg 22 c5<|eF .normal (fG v v2 true))<|by kernel_rfl
   ·have p8:=fun{sc F} (r:PS sc F)=>p6<|sg 22 c5<|sv (bN v)<|sv (bO v)<|cD (aR.ln v.Preds)<|sv (bN v2)<|sv (bO v2)<|cD (aR.ln v2.Preds)<|r
    rcases aT h with⟨c7,h⟩|⟨c7,h⟩
    ·obtain rfl:=lf h
     exact co Ke (p8<|sg 31 c7<|eF .normal (fG v v2 true))<|by kernel_rfl
    ·obtain⟨r9,br9,h⟩:=aw h
     have p11:=fun{sc F} (r:PS sc F)=>p8<|sg 31 c7<|sv (aC v)<|sv (aD v)<|sv (aC v2)<|sv (aD v2)<|ba (Cn br9)<|r
     rcases aT h with⟨c10,h⟩|⟨c10,h⟩
     ·obtain rfl:=lf h
      exact co Ke (p11<|sg 39 c10<|eF .normal (fG v v2 true))<|by kernel_rfl
     ·obtain⟨r12,br12,h⟩:=aw h
      obtain rfl:=lf h
      exact co Ke (p11<|sg 39 c10<|sv (bU v)<|sv (bX v)<|sv (bU v2)<|sv (bX v2)<|ba (Cp br12)<|eF .normal (fG v v2 (!r12)))<|by kernel_rfl
end
section
variable(v:ae)(v2:ae)(t55:Int)(t56:Int)
def jH:av:=aN 91 [(2,.eptr (af v)),(3,.eptr (af v2)),(55,.int .i64 t55),(56,.int .i64 t56)] [.dead,.dead] []
def jI(o:Unit⊕(Unit)):Exit:=match o with
 |(.inl _)=>.ret
 |(.inr _)=>.exit 0
def fH(o:Unit⊕(Unit)):av:=match o with
 |(.inl o)=>aN 91 [(4,.bool false)] [.dead,.dead] []
 |(.inr o)=>aN 91 [(2,.eptr (af v)),(3,.eptr (af v2))] [.dead,.dead] []
def qO:Option (Int⊕(Unit⊕(Unit))):=
 if(decide (t56<t55))=true then
  (dv v.Preds t56).bind fun x17=>
  (dv v2.Preds t56).bind fun x18=>
  (ru x17 x18).bind fun r19=>
  if(!r19)=true then
   some (.inr (.inl ()))
  else
   some (.inl (bA (t56+1)))
 else
  some (.inr (.inr ()))
def uW:Option (Unit⊕(Unit)):=loop (fun(zz:Int)=>qO v v2 t55 zz) t56
theorem C6{y:Int⊕(Unit⊕(Unit))}(h:qO v v2 t55 t56=some y):aB Pg GE 0 (cA Pc 119) (LQ (fun(zz:Int)=>jH v v2 t55 zz) jI (fH v v2) y) (jH v v2 t55 t56):=by
 rcases aT h with⟨c16,h⟩|⟨c16,h⟩
 ·obtain⟨x17,bx17,h⟩:=aw h
  obtain⟨x18,bx18,h⟩:=aw h
  obtain⟨r19,br19,h⟩:=aw h
  have p21:=fun{sc F} (r:PS sc F)=>sg 0 c16<|rp [0,1,0,7,15,0,32,0,224,480,1023,2047]<|sv (bN v)<|sv (bO v)<|sv (aR.ia (k:=.i64) bx17)<|sv (az x17)<|sv (bN v2)<|sv (bO v2)<|sv (aR.ia (k:=.i64) bx18)<|sv (az x18)<|ba (Cp br19)<|r
  rcases aT h with⟨c20,h⟩|⟨c20,h⟩
  ·obtain rfl:=lf h
   have z:=p21<|sg 0 c20<|eF (jI (.inl ())) (fH v v2 (.inl ()))
   exact gf Ke (by intro hx;cases hx) z<|by kernel_rfl
  ·obtain rfl:=lf h
   exact rY Ke (p21<|sg 0 c20<|eF .normal (jH v v2 t55 (bA (t56+1))))<|by kernel_rfl
 ·obtain rfl:=lf h
  have z:=sg 0 c16<|eF (jI (.inr ())) (fH v v2 (.inr ()))
  exact gf Ke (by intro hx;cases hx) z<|by kernel_rfl
theorem oS{x:Unit⊕(Unit)}(h:uW v v2 t55 t56=some x):aB Pg GE 0 (.loop (cA Pc 119)) (EX (jI x) (fH v v2 x)) (jH v v2 t55 t56):=
 aB.loop (S:=fun(zz:Int)=>jH v v2 t55 zz) (ex:=jI) (s:=t56) h fun zz y hy=>C6 v v2 t55 zz hy
end
section
variable(R71:tc)(v:ae)(v2:ae)(t74:Int)(t75:Int)
def jJ:av:=aN 91 [(2,.eptr (af v)),(3,.eptr (af v2)),(74,.int .i64 t74),(75,.int .i64 t75)] [.dead,.dead] []
def jK(o:Unit⊕(Unit)):Exit:=match o with
 |(.inl _)=>.ret
 |(.inr _)=>.exit 2
def ij(o:Unit⊕(Unit)):av:=match o with
 |(.inl o)=>aN 91 [(4,.bool false)] [.dead,.dead] []
 |(.inr o)=>aN 91 [] [.dead,.dead] []
def qP:Option (Int⊕(Unit⊕(Unit))):=
 if(decide (t75<t74))=true then
  (dv v.Args t75).bind fun x24=>
  (dv v2.Args t75).bind fun x25=>
  (R71 x24 x25).bind fun r26=>
  if(!r26)=true then
   some (.inr (.inl ()))
  else
   some (.inl (bA (t75+1)))
 else
  some (.inr (.inr ()))
def uX:Option (Unit⊕(Unit)):=loop (fun(zz:Int)=>qP R71 v v2 t74 zz) t75
theorem C7(hR71:yj R71){y:Int⊕(Unit⊕(Unit))}(h:qP R71 v v2 t74 t75=some y):aB Pg GE 0 (cA Pc 247) (LQ (fun(zz:Int)=>jJ v v2 t74 zz) jK ij y) (jJ v v2 t74 t75):=by
 rcases aT h with⟨c23,h⟩|⟨c23,h⟩
 ·obtain⟨x24,bx24,h⟩:=aw h
  obtain⟨x25,bx25,h⟩:=aw h
  obtain⟨r26,br26,h⟩:=aw h
  have p28:=fun{sc F} (r:PS sc F)=>sg 0 c23<|rp [0,1,0,7,15,0,32,0,224,480,1023,2047]<|sv (aK v)<|sv (aL v)<|sv (d5.ia (k:=.i64) bx24)<|sv (bh x24)<|sv (aK v2)<|sv (aL v2)<|sv (d5.ia (k:=.i64) bx25)<|sv (bh x25)<|ba (hR71 _ _ _ br26)<|r
  rcases aT h with⟨c27,h⟩|⟨c27,h⟩
  ·obtain rfl:=lf h
   have z:=p28<|sg 0 c27<|eF (jK (.inl ())) (ij (.inl ()))
   exact gf Ke (by intro hx;cases hx) z<|by kernel_rfl
  ·obtain rfl:=lf h
   exact rY Ke (p28<|sg 0 c27<|eF .normal (jJ v v2 t74 (bA (t75+1))))<|by kernel_rfl
 ·obtain rfl:=lf h
  have z:=sg 0 c23<|eF (jK (.inr ())) (ij (.inr ()))
  exact gf Ke (by intro hx;cases hx) z<|by kernel_rfl
theorem uY(hR71:yj R71){x:Unit⊕(Unit)}(h:uX R71 v v2 t74 t75=some x):aB Pg GE 0 (.loop (cA Pc 247)) (EX (jK x) (ij x)) (jJ v v2 t74 t75):=
 aB.loop (S:=fun(zz:Int)=>jJ v v2 t74 zz) (ex:=jK) (s:=t75) h fun zz y hy=>C7 R71 v v2 t74 zz hR71 hy
end
def sY(R71:tc)(a:ae)(a2:ae):Option Bool:=
 (uV a a2).bind fun o13=>
 if o13=true then
  some false
 else
  (uW a a2 (a.Preds.length:Int) 0).bind fun o22=>match o22 with
  |(.inl o22)=>
   some false
  | (.inr o22) =>
   (uX R71 a a2 (a.Args.length:Int) 0).bind fun o29=>match o29 with
   |(.inl o29)=>
    some false
   |(.inr o29)=>
    some true
theorem HP(R71:tc)(hR71:yj R71){a:ae}{a2:ae}{r:Bool}(h:sY R71 a a2=some r):CC Pg GE 12 [.agg (af a),.agg (af a2)] (.bool r) []:=by
 obtain⟨o13,bo13,h⟩:=aw h
 have p15:=fun{sc F} (r:PS sc F)=>se (bQ a)<|se (bQ a2)<|kK 1<|cC (Ee a a2 bo13)<|r
 rcases aT h with⟨c14,h⟩|⟨c14,h⟩
 ·obtain rfl:=lf h
  have z:=p15<|sg 0 c14<|en (aI (rP (.bool false))<|trivial)
  exact b7 Ke call12 func12 (c:=Pc) rfl (aI (al a) (aI (al a2) trivial)) z<|by kernel_rfl
 ·obtain⟨o22,bo22,h⟩:=aw h
  rcases o22 with o22|o22
  ·obtain rfl:=lf h
   have z:=p15<|sg 0 c14<|sv (bN a)<|sv (bO a)<|cD (aR.ln a.Preds)<|cC (e:=.ret) (s1:=fH a a2 (.inl o22)) (oS a a2 (a.Preds.length:Int) 0 bo22)<|en (aI (rP (.bool false))<|trivial)
   exact b7 Ke call12 func12 (c:=Pc) rfl (aI (al a) (aI (al a2) trivial)) z<|by kernel_rfl
  ·obtain⟨o29,bo29,h⟩:=aw h
   rcases o29 with o29|o29
   ·obtain rfl:=lf h
    have z:=p15<|sg 0 c14<|sv (bN a)<|sv (bO a)<|cD (aR.ln a.Preds)<|cC (e:=.exit 0) (s1:=fH a a2 (.inr o22)) (oS a a2 (a.Preds.length:Int) 0 bo22)<|sv (aK a)<|sv (aL a)<|cD (d5.ln a.Args)<|cC (e:=.ret) (s1:=ij (.inl o29)) (uY R71 a a2 (a.Args.length:Int) 0 hR71 bo29)<|en (aI (rP (.bool false))<|trivial)
    exact b7 Ke call12 func12 (c:=Pc) rfl (aI (al a) (aI (al a2) trivial)) z<|by kernel_rfl
   ·obtain rfl:=lf h
    have z:=p15<|sg 0 c14<|sv (bN a)<|sv (bO a)<|cD (aR.ln a.Preds)<|cC (e:=.exit 0) (s1:=fH a a2 (.inr o22)) (oS a a2 (a.Preds.length:Int) 0 bo22)<|sv (aK a)<|sv (aL a)<|cD (d5.ln a.Args)<|cC (e:=.exit 2) (s1:=ij (.inr o29)) (uY R71 a a2 (a.Args.length:Int) 0 hR71 bo29)<|en (aI (rP (.bool true))<|trivial)
    exact b7 Ke call12 func12 (c:=Pc) rfl (aI (al a) (aI (al a2) trivial)) z<|by kernel_rfl
def yu:((ae×ae)->Option Bool)->(ae×ae)->Option Bool:=fun(rec:(ae×ae)->Option Bool) (x:ae×ae)=>sY (fun a a2=>rec (a,a2)) x.1 x.2
def jG(a:ae)(a2:ae):Option Bool:=nw yu (a,a2)
theorem kz{a:ae}{a2:ae}{r:Bool}(h:jG a a2=some r):CC Pg GE 12 [.agg (af a),.agg (af a2)] (.bool r) []:=
 cT (F:=yu) (M:=fun(x:ae×ae) (r:Bool)=>CC Pg GE 12 [.agg (af x.1),.agg (af x.2)] (.bool r) []) (fun rec hrec x r h=>HP _ (fun a a2 r h=>hrec (a,a2) r h) h) h
noncomputable def UR:Code:=f57.body.getD .skip
def UC:List Nat:=[]
def Fp(p:aa)(name:ag)(a:aa):Option aa:=
 (mP p ([name]:List ag) ([a]:List aa)).bind fun r1=>
 some r1
theorem GK{p:aa}{name:ag}{a:aa}{r:aa}(h:Fp p name a=some r):CC Pg GE 57 [.agg (ac p),.str name,.agg (ac a)] (.agg (ac r)) [(3,28)]:=by
 obtain⟨r1,br1,h⟩:=aw h
 obtain rfl:=lf h
 have z:=se (bM p)<|se (bM a)<|sx eX<|sv (az p)<|sv (aW.mk' (v:=PVal.str) CE ([name]:List ag) 1 (by kernel_rfl))<|sv (az a)<|sv (aR.mk' (v:=ce) aY ([a]:List aa) 1 (by kernel_rfl))<|ba (sh br1)<|sy (aE r1)<|en (aI (cQ r1)<|aI (ah r1)<|rT)
 exact b7 UC call57 func57 (c:=UR) rfl (aI (ah p) (aI trivial (aI (ah a) trivial))) z<|by kernel_rfl
noncomputable def S6:Code:=f23.body.getD .skip
def Su:List Nat:=[]
section
variable(t:ae)(v:aa)(m:waB)
def DB:av:=aN 18 [(2,.eptr (af t)),(3,.eptr (ac v)),(4,.bptr 2 0)] [.dead,.dead,.cells [.int .i64 0,.str ([]:ag),.int .i64 0,sl ac m] [(3,28)]] []
def nA(o:Bool):av:=aN 18 [(2,.eptr (af t)),(3,.eptr (ac v)),(4,.bptr 2 0),(12,.bool o)] [.dead,.dead,.cells [.int .i64 0,.str ([]:ag),.int .i64 0,sl ac m] [(3,28)]] []
def xO:Option Bool:=
 if(t.Op==6)=true then
  some true
 else
  (oz t.Pred).bind fun r3=>
  some r3
theorem B6{x:Bool}(h:xO t=some x):aB Pg GE 0 (cA S6 12) (EX .normal (nA t v m x)) (DB t v m):=by
 have p2:=fun{sc F} (r:PS sc F)=>sv (aG t)<|sv (aJ t)<|r
 rcases aT h with⟨c1,h⟩|⟨c1,h⟩
 ·obtain rfl:=lf h
  exact co Su (p2<|sg 4 c1<|eF .normal (nA t v m true))<|by kernel_rfl
 ·obtain⟨r3,br3,h⟩:=aw h
  obtain rfl:=lf h
  exact co Su (p2<|sg 4 c1<|sv (bU t)<|sv (bX t)<|ba (nE br3)<|eF .normal (nA t v m r3))<|by kernel_rfl
end
def FI(t:ae)(a:aa):Option aa:=
 (xO t).bind fun o4=>
 if o4=true then
  some (⟨2,([]:ag),1,([]:List aa)⟩:aa)
 else
  (Fp t.Pred ([118]:ag) a).bind fun r7=>
  some r7
theorem GO{t:ae}{a:aa}{r:aa}(h:FI t a=some r):CC Pg GE 23 [.agg (af t),.agg (ac a)] (.agg (ac r)) [(3,28)]:=by
 obtain⟨o4,bo4,h⟩:=aw h
 have p6:=fun{sc F} (r:PS sc F)=>se (bQ t)<|se (bM a)<|sx eX<|kK 1<|cC (B6 t a ([]:List aa) bo4)<|r
 rcases aT h with⟨c5,h⟩|⟨c5,h⟩
 ·obtain rfl:=lf h
  have z:=p6<|sg 0 c5<|sb (od 2 1) (n8 2 1)<|sy (aE (⟨2,([]:ag),1,([]:List aa)⟩:aa))<|en (aI (cQ (⟨2,([]:ag),1,([]:List aa)⟩:aa))<|aI (ah (⟨2,([]:ag),1,([]:List aa)⟩:aa))<|rT)
  exact b7 Su call23 func23 (c:=S6) rfl (aI (al t) (aI (ah a) trivial)) z<|by kernel_rfl
 ·obtain⟨r7,br7,h⟩:=aw h
  obtain rfl:=lf h
  have z:=p6<|sg 0 c5<|sv (bU t)<|sv (bX t)<|sv (az a)<|ba (GK br7)<|sy (aE r7)<|en (aI (cQ r7)<|aI (ah r7)<|rT)
  exact b7 Su call23 func23 (c:=S6) rfl (aI (al t) (aI (ah a) trivial)) z<|by kernel_rfl
end Go.Proofs.YtggeppllafbidaaGreatDoor
