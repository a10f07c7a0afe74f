/- PROVED: a part of the proof. Conditions: none. -/
import Derived.Test.YtggeppllafbidaaGreatDoorPkC9
import Derived.Test.YtggeppllafbidaaGreatDoorPkC12
noncomputable section
namespace Go.Proofs.YtggeppllafbidaaGreatDoor
open Go Go.Proofs.Tryz
set_option linter.unusedVariables false
set_option maxRecDepth 100000
abbrev WO:Nat:=137
noncomputable def QN:Code:=f137.body.getD .skip
abbrev V0:Code:=dj QN [false]
abbrev U3:Code:=dj QN [true,false]
abbrev U4:Code:=dj QN [true,true,false]
abbrev V1:Code:=dj QN [true,true,true,false,false]
abbrev Qm:Code:=dj QN [true,true,true,false,true,false]
abbrev Sx:Code:=dj QN [true,true,true,true,false]
theorem Sj:QN=.seq V0 (.seq U3 (.seq U4 (.seq (.seq V1 (.block 0 (.rangeFunc (.tmp 12) #[13] (Qo Qm) (Qp Qm)))) (.seq Sx .ret)))):=by kernel_rfl
def xx(s:Int)(x:aa):Option (Bool×Int):=(Iy x).bind fun e=>if(e !=0)=true then some (false,e)else some (true,s)
def zP(p:aa):Option Int:=
 (uK p).bind fun n=>if decide (n>400)=true then some 7 else
 (uJ p).bind fun d=>if decide (d>40)=true then some 8 else
 (HW xx p 0).bind fun q=>if q.1=true then some 0 else some q.2
abbrev QO(s:Int):List ax:=[.dead,.cells [.int .i64 s] []]
abbrev Ly(s:Int):av:=aM 19 [(2,.bptr 1 0)] (QO s) []
abbrev G3(p:aa):av:=aM 19 [(1,.eptr (ac p)),(2,.bptr 1 0)] (QO 0) []
theorem WR(p:aa):aF Pg GE 0 V0 (EX .normal (G3 p)) (aM 19 [(0,.agg (ac p))] [] []):=by
 have z:=se (bz p)<|sx (show jq Pg 40=some [.int .i64 0] by kernel_rfl)<|eF .normal (G3 p)
 exact dU (A:=[]) mixed z (by kernel_rfl)
theorem U6(p:aa){n:Int}(h:uK p=some n)(c:decide (n>400)=true):aF Pg GE 0 U3 (EX .ret (Ly 7)) (G3 p):=by
 have z:=sv (az p)<|bg (yM h)<|sg 0 c<|ss<|eF .ret (Ly 7)
 exact dU (A:=[]) mixed z (by kernel_rfl)
theorem U7(p:aa){n:Int}(h:uK p=some n)(c:decide (n>400)=false):aF Pg GE 0 U3 (EX .normal (G3 p)) (G3 p):=by
 have z:=sv (az p)<|bg (yM h)<|sg 0 c<|eF .normal (G3 p)
 exact dU (A:=[]) mixed z (by kernel_rfl)
theorem U8(p:aa){n:Int}(h:uJ p=some n)(c:decide (n>40)=true):aF Pg GE 0 U4 (EX .ret (Ly 8)) (G3 p):=by
 have z:=sv (az p)<|bg (yK h)<|sg 0 c<|ss<|eF .ret (Ly 8)
 exact dU (A:=[]) mixed z (by kernel_rfl)
theorem U9(p:aa){n:Int}(h:uJ p=some n)(c:decide (n>40)=false):aF Pg GE 0 U4 (EX .normal (G3 p)) (G3 p):=by
 have z:=sv (az p)<|bg (yK h)<|sg 0 c<|eF .normal (G3 p)
 exact dU (A:=[]) mixed z (by kernel_rfl)
abbrev Rl(p:aa):av:=aM 19 [(2,.bptr 1 0),(12,.func (.func fW) [] [.eptr (ac p)])] (QO 0) []
theorem WS(p:aa):aF Pg GE 0 V1 (EX .normal (Rl p)) (G3 p):=by
 have z:=sv (az p)<|bg (H6 p)<|eF .normal (Rl p)
 exact dU (A:=[]) mixed z (by kernel_rfl)
abbrev SC(s:Int)(x:aa):av:=aM 19 [(2,.bptr 1 0),(3,.bptr 2 0)] (QO s++[.cells (J5 x) []]) []
theorem WT(s:Int)(x:aa):aF Pg GE 2 (Qo Qm) (EX .normal (SC s x)) (aM 19 [(2,.bptr 1 0),(13,.agg (ac x))] (QO s) []):=by
 have z:=sx dW<|sx (aZ x)<|eF .normal (SC s x)
 exact dU (A:=[]) mixed z (by kernel_rfl)
abbrev SD(r:Int):av:=aM 19 [(2,.bptr 1 0)] (QO r++[.dead]) []
theorem WU(s:Int)(x:aa){r:Bool×Int}(h:xx s x=some r):aF Pg GE 2 (Qp Qm) (EX (if r.1=true then .normal else .ret) (SD r.2)) (SC s x):=by
 unfold xx at h
 obtain⟨e,be,h⟩:=aw h
 rcases aU h with⟨c1,h⟩|⟨c1,h⟩
 ·cases h
  have z:=sv (aO x [])<|bg (BM be)<|sg 0 c1<|ss<|eF .ret (SD e)
  exact dU (A:=[]) mixed z (by kernel_rfl)
 ·cases h
  have z:=sv (aO x [])<|bg (BM be)<|sg 0 c1<|eF .normal (SD s)
  exact dU (A:=[]) mixed z (by kernel_rfl)
theorem U5(s:Int):aF Pg GE 2 (.seq Sx .ret) (EX .ret (Ly 0)) (Ly s):=by
 have z:=ss<|eF .ret (Ly 0)
 exact dU (A:=[]) mixed z (by kernel_rfl)
theorem TS(s:Int):aF Pg GE 2 .ret (EX .ret (Ly s)) (Ly s):=by
 have z:=eF .ret (Ly s)
 exact dU (A:=[]) mixed z (by kernel_rfl)
abbrev uP(fn:FuncId)(a:Array Value)(D:Nat)(b:Bool):Loop:={state:=if b then .ready else .done,pending:=if b then none else some .ret,fn:=fn,tmps:=a,params:=#[13],assign:=Qo Qm,body:=Qp Qm,defers:=D}
def JC(Γe:aQ)(we:World)(bs:bm)(a:Array Value)(fn:FuncId)(l D:Nat)(b:Bool)(s:Int)(Γ:aQ)(w:World):Prop:=
 ∃ow,SR Pg (EK GE Γe we) Γ bs ow w a (Ly s)/\¬bA bs ow l/\¬bA bs ow D/\w.heap[l]? =some (.loop (uP fn a D b))/\w.heap[D]? =some (.deferred (some []))
theorem Tl{Γe:aQ}{we:World}{bs:bm}{a:Array Value}{fn:FuncId}{l D:Nat}(hl:we.heap.size<=l)(hD:we.heap.size<=D)(hne:D≠l)(hb:bs.length=2):Yd Pg GE l ac xx (JC Γe we bs a fn l D) where
 base:=fun b s Γ w ⟨ow,h,_⟩=>h.base
 side:=fun b s Γ w ⟨ow,h,hTl,hTD,hhl,hhD⟩ Γ' bs' ow' w' a' st' h'=>
  ⟨ow,h.aside h',hTl,hTD,(h'.step.keep l (cD hhl) id).1.trans hhl,(h'.step.keep D (cD hhD) id).1.trans hhD⟩
 yield:=fun s Γ w x v n r ⟨ow,h,hTl,hTD,hhl,hhD⟩ hv hr=>by
  have hS4:=WU s x hr
  refine⟨_,_,_,_,run_yield hhl rfl,?_⟩
  have hz:(((#[13]:Array Tmp).zip #[v]).foldl (fun tmps (t,a)=>tmps.setIfInBounds t a) a)=a.setIfInBounds 13 v:=by simp
  show RoundIn Fence.wide n Pg l fn (((#[13]:Array Tmp).zip #[v]).foldl (fun tmps (t,a)=>tmps.setIfInBounds t a) a) (Qo Qm) (Qp Qm) w _
  rw[hz]
  have h7:SR Pg (EK GE Γe we) Γ bs ow w (a.setIfInBounds 13 v) (aM 19 [(2,.bptr 1 0),(13,.agg (ac x))] (QO s) []):=h.set (d:=13) (p:=.agg (ac x)) (hv.mono (.refl _ _) (fun i b hi=>by simp at hi))
  refine roundIn_of_wpIn trivial (wpIn_mono (aF.on (WT s x) (by decide) h7 (by rw[hb];decide) (some l) [] n) ?_)
  rintro e ⟨a1,ds1⟩ w1 ⟨rfl,Γ1,bs1,ow1,st1,h1,⟨rfl,rfl⟩,hbs1,hle1,hsz1,hk1⟩
  obtain⟨k1,t1⟩:=hk1 l (cD hhl) hTl
  obtain⟨k1D,t1D⟩:=hk1 D (cD hhD) hTD
  have hl1:=k1.trans hhl
  refine⟨_,run_beginRound hl1 rfl,?_⟩
  obtain⟨h1',hle1'⟩:=h1.putOther (l:=l) (o:=.loop {uP fn a D true with state:=.busy}) t1 (.inr hl) (fun c t fr e=>by rw[hl1]at e;cases e)
  have hb1:2<=bs1.length:=by have:=h1.bl;rw[this];exact vcH rfl
  obtain⟨bq,s'⟩:=r
  refine wpIn_mono (aF.on hS4 (by decide) h1' hb1 (some l) [] n) ?_
  rintro e ⟨a2,ds2⟩ w2 ⟨rfl,Γ2,bs2,ow2,st2,h2,⟨rfl,rfl⟩,hbs2,hle2,hsz2,hk2⟩
  have hl1':(w1.putObj l (.loop {uP fn a D true with state:=.busy})).heap[l]? =some (.loop {uP fn a D true with state:=.busy}):=World.putObj_heap_same (cD hl1)
  have hD1':(w1.putObj l (.loop {uP fn a D true with state:=.busy})).heap[D]? =some (.deferred (some [])):=(World.putObj_heap_other hne).trans (k1D.trans hhD)
  obtain⟨k2,t2⟩:=hk2 l (cD hl1') t1
  obtain⟨k2D,t2D⟩:=hk2 D (cD hD1') t1D
  have hl2:=k2.trans hl1'
  cases bq with
  |true=>
   refine⟨_,_,run_endRound none hl2,?_⟩
   obtain⟨h3,hle3⟩:=h2.putOther (l:=l) (o:=.loop {{uP fn a D true with state:=.busy}with state:=if(none:Option Code).isNone then .ready else .done,pending:=none}) t2 (.inr hl) (fun c t fr e=>by rw[hl2]at e;cases e)
   have hle:Γ.Le w Γ2 (w2.putObj l (.loop {{uP fn a D true with state:=.busy}with state:=if(none:Option Code).isNone then .ready else .done,pending:=none})):=((hle1.trans hle1').trans hle2).trans hle3
   obtain⟨ow3,h4,hT4⟩:=h.back rfl h3 hle (H':=QO s') (fun i hi=>(hbs2 i (by omega)).trans (hbs1 i (by omega))) ⟨trivial,⟨rfl,aI trivial trivial,fun x hx=>hx⟩,trivial⟩ hb.symm
   exact⟨Γ2,rfl,hle,ow3,h4,fun hx=>t2 (hT4 l hx),fun hx=>t2D (hT4 D hx),World.putObj_heap_same (cD hl2),(World.putObj_heap_other hne).trans (k2D.trans hD1')⟩
  |false=>
   refine⟨_,_,run_endRound (some .ret) hl2,?_⟩
   obtain⟨h3,hle3⟩:=h2.putOther (l:=l) (o:=.loop {{uP fn a D true with state:=.busy}with state:=if(some Code.ret:Option Code).isNone then .ready else .done,pending:=some .ret}) t2 (.inr hl) (fun c t fr e=>by rw[hl2]at e;cases e)
   have hle:Γ.Le w Γ2 (w2.putObj l (.loop {{uP fn a D true with state:=.busy}with state:=if(some Code.ret:Option Code).isNone then .ready else .done,pending:=some .ret})):=((hle1.trans hle1').trans hle2).trans hle3
   obtain⟨ow3,h4,hT4⟩:=h.back rfl h3 hle (H':=QO s') (fun i hi=>(hbs2 i (by omega)).trans (hbs1 i (by omega))) ⟨trivial,⟨rfl,aI trivial trivial,fun x hx=>hx⟩,trivial⟩ hb.symm
   exact⟨Γ2,rfl,hle,ow3,h4,fun hx=>t2 (hT4 l hx),fun hx=>t2D (hT4 D hx),World.putObj_heap_same (cD hl2),(World.putObj_heap_other hne).trans (k2D.trans hD1')⟩
theorem HP{p:aa}{r:Int}(h:zP p=some r):CC Pg GE WO [.agg (ac p)] (.int .i64 r) []:=by
 refine⟨aI (ah p) trivial,call137,fun Γ bs ow w vs hS=>(callsIn_wide (n:=0)).1 (callsIn_of_wp_marks func137 (c:=QN) rfl trivial ?_)⟩
 obtain rfl:bs=[]:=van hS.bl
 obtain⟨v,rfl⟩:∃v,vs=#[v]:=vbN.1 hS.sz
 have hB:Hh GE Γ w:=hS.base
 have hE:yi GE 0 (EK GE Γ w):=hB.good
 have hvr:VR Γ [] w (.agg (ac p)) v:=hS.tm 0 _ _ rfl rfl
 have h0:SR Pg (EK GE Γ w) Γ [] (fun _=>none) w (#[v]++Array.replicate 18 undef) (aM 19 [(0,.agg (ac p))] [] []):=by
  refine hB.fresh (a:=#[v]++Array.replicate 18 undef) 0 (tmps:=[.agg (ac p)]++List.replicate 18 .undef) (by simp) fun t q u hq hu=>?_
  by_cases ht:t<1
  ·rw[vac (by simpa using ht)]at hq
   rw[vaI (by simpa using ht)]at hu
   match t,ht with
   |0,_=>simp at hq hu;subst hq;subst hu;exact hvr
  ·rw[vae (by show 1<=t;omega),vaO]at hq
   split at hq<;>cases hq
   exact .undef u
 have key:∀R:Ending->World->Prop,(∀{Γ6:aQ} {bs6:bm} {ow6:Nat->Option jO} {a6:Array Value} {w6:World},SR Pg (EK GE Γ w) Γ6 bs6 ow6 w6 a6 (Ly r)->LeavesInM Fence.wide 0 Pg f137 a6 R [] .returning w6)->
   QN.wpIn Fence.wide 0 Pg (bodyPostM Fence.wide 0 Pg f137 R) ⟨#[v]++Array.replicate 18 undef,[]⟩ w:=fun R hfin=>by
  unfold zP at h
  obtain⟨n1,b1,h⟩:=aw h
  rw[Sj]
  refine wpIn_seq (wpIn_mono (aF.wideE (WR p) hE h0 0 []) ?_)
  rintro e ⟨a1,ds1⟩ w1 ⟨rfl,Γ1,bs1,ow1,st1,h1,rfl,rfl⟩
  rcases aU h with⟨c1,h⟩|⟨c1,h⟩
  ·cases h
   refine wpIn_seq (wpIn_mono (aF.wideE (U6 p b1 c1) hE h1 0 []) ?_)
   rintro e ⟨a2,ds2⟩ w2 ⟨rfl,Γ2,bs2,ow2,st2,h2,rfl,rfl⟩
   exact hfin h2
  refine wpIn_seq (wpIn_mono (aF.wideE (U7 p b1 c1) hE h1 0 []) ?_)
  rintro e ⟨a2,ds2⟩ w2 ⟨rfl,Γ2,bs2,ow2,st2,h2,rfl,rfl⟩
  obtain⟨n2,b2,h⟩:=aw h
  rcases aU h with⟨c2,h⟩|⟨c2,h⟩
  ·cases h
   refine wpIn_seq (wpIn_mono (aF.wideE (U8 p b2 c2) hE h2 0 []) ?_)
   rintro e ⟨a3,ds3⟩ w3 ⟨rfl,Γ3,bs3,ow3,st3,h3,rfl,rfl⟩
   exact hfin h3
  refine wpIn_seq (wpIn_mono (aF.wideE (U9 p b2 c2) hE h2 0 []) ?_)
  rintro e ⟨a22,ds22⟩ w22 ⟨rfl,Γ22,bs22,ow22,st22,h22,rfl,rfl⟩
  obtain⟨q,hq,h⟩:=aw h
  refine wpIn_seq (wpIn_seq (wpIn_mono (aF.wideE (WS p) hE h22 0 []) ?_))
  rintro e ⟨a3,ds3⟩ w3 ⟨rfl,Γ3,bs3,ow3,st3,h3,rfl,rfl⟩
  have h6:=h3.opv [] (.tmp 12)
  have e6:opv (EK GE Γ w).GE (Rl p).tmps (.tmp 12)=.func (.func fW) [] [.eptr (ac p)]:=rfl
  rw[e6]at h6
  have hbl:bs3.length=2:=h3.bl
  refine wpIn_block (wpIn_rangeFunc fun fn _=>?_)
  obtain⟨g1,l1⟩:=h3.allocO (.deferred (some []))
  obtain⟨g2,l2⟩:=g1.allocO (.loop (uP fn a3 w3.heap.size true))
  have gF:=g2.forgetT (tm:=(Ly 0).tmps) rfl
  have hsz3:w.heap.size<=w3.heap.size:=h3.step.size
  have htl:∀b,w3.heap.size<=b->¬bA bs3 ow3 b:=fun b hb hx=>by
   rcases hx with⟨i,hi⟩|hx
   ·have hil:i<(Rl p).boxes.length:=by rw[<-h3.bl];exact al hi
    have:=(h3.bx i b _ hi (vab hil)).2.1
    omega
   ·cases hL:ow3 b with
    |none=>exact hx hL
    |some L=>have:=(h3.on b L hL).1;omega
  generalize hvf:(Act.mk a3 []).eval (.tmp 12)=vf at h6
  cases h6 with
  |func _ _ _ fs cs hl1 hl2 hf hc=>
  obtain rfl:fs=#[]:=vaY hl1
  obtain⟨cv,rfl⟩:∃v,cs=#[v]:=vbN.1 hl2
  have hcv:VR Γ3 bs3 w3 (.eptr (ac p)) cv:=hc 0 _ _ rfl rfl
  have hJ:JC Γ w bs3 a3 fn (w3.heap.size+1) w3.heap.size true 0 Γ3 ((w3.alloc (.deferred (some []))).alloc (.loop (uP fn a3 w3.heap.size true))):=by
   refine⟨ow3,gF,htl _ (by omega),htl _ (var _),?_,?_⟩
   ·have:=World.alloc_heap_new (w3.alloc (.deferred (some []))) (.loop (uP fn a3 w3.heap.size true))
    rwa[World.size_alloc]at this
   ·rw[db _ _ (by rw[World.size_alloc];omega)]
    exact World.alloc_heap_new w3 _
  have hY:=Tl (Γe:=Γ) (we:=w) (bs:=bs3) (a:=a3) (fn:=fn) (l:=w3.heap.size+1) (D:=w3.heap.size) (by omega) hsz3 (by omega) hbl
  refine⟨_,_,_,{target:=.fn (.func fW) #[cv],args:=#[.func (.yield (w3.heap.size+1)) #[] #[]]},(w3.alloc (.deferred (some []))).alloc (.loop (uP fn a3 w3.heap.size true)),fW,#[.func (.yield (w3.heap.size+1)) #[] #[],cv],(w3.alloc (.deferred (some []))).alloc (.loop (uP fn a3 w3.heap.size true)),run_enterLoop_outer fn a3 #[13] (Qo Qm) (Qp Qm),?_,fun _ _=>trivial,?_,fun hx=>by simp[Fence.wide]at hx,?_⟩
  ·have hvf':(Act.mk a3 []).eval (.tmp 12)=.func (.func fW) #[] #[cv]:=hvf
   simp only[resolve,hvf',Deferred.ofValue]
   simp[Act.eval]
   rfl
  ·simp[invoke,call129]
  ·refine(OU hY p (n:=0 - 1) hq hJ (((hcv.mono l1 (.refl _)).mono l2 (.refl _)).clo (show iW 0 (ac p)from ah p))).mono ?_
   rintro e w4 ⟨⟨u,rfl⟩,Γ4,hle4,ow4,h4,tl4,tD4,hl4,hD4⟩
   refine⟨_,_,run_endLoop hl4 (by cases q.1<;>simp),?_⟩
   obtain⟨h5,hle5⟩:=h4.putOther (l:=w3.heap.size+1) (o:=.loop {uP fn a3 w3.heap.size q.1 with state:=.exhausted}) tl4 (.inr (show w.heap.size<=_ by omega)) (fun c t fr e=>by rw[hl4]at e;cases e)
   have hD5:(w4.putObj (w3.heap.size+1) (.loop {uP fn a3 w3.heap.size q.1 with state:=.exhausted})).heap[w3.heap.size]? =some (.deferred (some [])):=(World.putObj_heap_other (by omega)).trans hD4
   generalize w4.putObj (w3.heap.size+1) (.loop {uP fn a3 w3.heap.size q.1 with state:=.exhausted})=w5 at h5 hle5 hD5
   have last:∀c:Code,aF Pg GE 2 c (EX .ret (Ly r)) (Ly q.2)->∀Q:Exit->Act->World->Prop,(∀a w,bodyPostM Fence.wide 0 Pg f137 R .ret a w->Q .ret a w)->c.wpIn Fence.wide 0 Pg Q ⟨a3,[{target:=.collected w3.heap.size,args:=#[]}]⟩ w5:=fun c hc Q hQ=>by
    refine wpIn_mono (wpIn_wide.2 (aF.on hc (by decide) h5 (by rw[hbl];decide) none [{target:=.collected w3.heap.size,args:=#[]}])) ?_
    rintro e ⟨a6,ds6⟩ w6 ⟨rfl,Γ6,bs6,ow6,st6,h6,⟨rfl,rfl⟩,hbs6,hle6,hsz6,hk6⟩
    obtain⟨k6,t6⟩:=hk6 _ (cD hD5) tD4
    have hD6:=k6.trans hD5
    obtain⟨h7,hle7⟩:=h6.putOther (l:=w3.heap.size) (o:=.deferred none) t6 (.inr hsz3) (fun c t fr e=>by rw[hD6]at e;cases e)
    exact hQ _ _ ⟨by simp,.inl ⟨w3.heap.size,_,rfl,run_takeDeferred hD6,hfin h7⟩⟩
   rcases aU h with⟨c3,h⟩|⟨c3,h⟩
   ·cases h
    have e3:(uP fn a3 w3.heap.size q.1).pending=none:=by show(if q.1=true then none else some Code.ret)=none;rw[c3];rfl
    rw[e3]
    exact last (.seq Sx .ret) (U5 q.2) _ (fun _ _ hx=>hx)
   ·cases h
    have e3:(uP fn a3 w3.heap.size q.1).pending=some .ret:=by show(if q.1=true then none else some Code.ret)=some .ret;rw[c3];rfl
    rw[e3]
    exact last .ret (TS q.2) _ (fun _ _ hx=>hx)
 refine key _ fun{Γ6 bs6 ow6 a6 w6} h7=>?_
 have hS7:SR Pg ⟨GE,Γ,w,bA [] ow⟩ Γ6 bs6 ow6 w6 a6 (Ly r):={h7 with
  bn:=fun i b hb=>(h7.bn i b hb).elim False.elim .inr
  on:=fun b L hL=>⟨(h7.on b L hL).1,(h7.on b L hL).2.elim False.elim .inr⟩
  gx:=hS.gx
  step:={h7.step with keep:=fun b hb _=>h7.step.keep b hb (fun hx=>hx)}}
 obtain⟨vr,e1,e2,e3⟩:=n9 hS7 (fn:=f137) (r:=.int .i64 r) (by kernel_rfl)
 refine⟨vr,e1,vr,Γ6,wz (da f137.results.toList) [] ow6,rfl,?_⟩
 have hf:=hS7.finish (H':=[]) (src:=da f137.results.toList) (ro:=[]) e2 trivial trivial (fun x hx=>by cases hx) (fun x hx=>by cases hx)
 simpa using hf
noncomputable def HB:Code:=f114.body.getD .skip
def vB:List Nat:=[66]
section
variable(t:ae)
def BU:av:=aM 68 [(1,.eptr (af t))] [.dead] []
def dD(o:Bool):av:=aM 68 [(1,.eptr (af t)),(33,.bool o)] [.dead] []
def vd:Option Bool:=
 if (t.Op == 6) = true then
  (mj t.Pred).bind fun r3=>
  if(!r3)=true then
   some true
  else
   if(decide ((t.Preds.length:Int)>0))=true then
    some true
   else
    if(t.Op !=4)=true then
     some (decide ((t.Preds.length:Int)>0))
    else
     some false
 else
  if(t.Op !=4)=true then
   some (decide ((t.Preds.length:Int)>0))
  else
   some false
theorem z7{x:Bool}(h:vd t=some x):aF Pg GE 0 (cA HB 12) (EX .normal (dD t x)) (BU t):=by
 have p2:=fun{sc F} (r:PS sc F)=>sv (aA t)<|sv (aC t)<|r
 rcases aU h with⟨c1,h⟩|⟨c1,h⟩
 ·obtain⟨r3,br3,h⟩:=aw h
  have p5:=fun{sc F} (r:PS sc F)=>p2<|sg 4 c1<|sv (bF t)<|sv (bG t)<|bg (oK br3)<|r
  rcases aU h with⟨c4,h⟩|⟨c4,h⟩
  ·obtain rfl:=lf h
   exact cm vB (p5<|sg 9 c4<|eF .normal (dD t true))<|by kernel_rfl
  ·have p7:=fun{sc F} (r:PS sc F)=>p5<|sg 9 c4<|sv (bT t)<|sv (bU t)<|cG (aP.ln t.Preds)<|r
   rcases aU h with⟨c6,h⟩|⟨c6,h⟩
   ·obtain rfl:=lf h
    exact cm vB (p7<|sg 16 c6<|eF .normal (dD t true))<|by kernel_rfl
   ·have p9:=fun{sc F} (r:PS sc F)=>p7<|sg 16 c6<|sv (aA t)<|sv (aC t)<|r
    rcases aU h with⟨c8,h⟩|⟨c8,h⟩
    ·obtain rfl:=lf h
     exact cm vB (p9<|sg 20 c8<|sv (bT t)<|sv (bU t)<|cG (aP.ln t.Preds)<|eF .normal (dD t (decide ((t.Preds.length:Int)>0))))<|by kernel_rfl
    ·obtain rfl:=lf h
     exact cm vB (p9<|sg 20 c8<|eF .normal (dD t false))<|by kernel_rfl
 ·have p11:=fun{sc F} (r:PS sc F)=>p2<|sg 4 c1<|sv (aA t)<|sv (aC t)<|r
  rcases aU h with⟨c10,h⟩|⟨c10,h⟩
  ·obtain rfl:=lf h
   exact cm vB (p11<|sg 20 c10<|sv (bT t)<|sv (bU t)<|cG (aP.ln t.Preds)<|eF .normal (dD t (decide ((t.Preds.length:Int)>0))))<|by kernel_rfl
  ·obtain rfl:=lf h
   exact cm vB (p11<|sg 20 c10<|eF .normal (dD t false))<|by kernel_rfl
end
section
variable(t:ae)(t35:waA)(t36:Int)(t37:Int)
def fH:av:=aM 68 [(1,.eptr (af t)),(35,sl cS t35),(36,.int .i64 t36),(37,.int .i64 t37)] [.dead] []
def fI(o:Unit⊕(Unit)):Exit:=match o with
 |(.inl _)=>.ret
 |(.inr _)=>.exit 0
def ep(o:Unit⊕(Unit)):av:=match o with
 |(.inl o)=>aM 68 [(2,.int .i64 3)] [.dead] []
 |(.inr o)=>aM 68 [(1,.eptr (af t))] [.dead] []
def rJ:Option (Int⊕(Unit⊕(Unit))):=
 if(decide (t37<t36))=true then
  (dz t35 t37).bind fun x16=>
  (Dy x16).bind fun r17=>
  if(r17 !=0)=true then
   some (.inr (.inl ()))
  else
   some (.inl (bC (t37+1)))
 else
  some (.inr (.inr ()))
def vg:Option (Unit⊕(Unit)):=loop (fun(zz:Int)=>rJ t35 t36 zz) t37
theorem yf{y:Int⊕(Unit⊕(Unit))}(h:rJ t35 t36 t37=some y):aF Pg GE 0 (cA HB 119) (LQ (fun(zz:Int)=>fH t t35 t36 zz) fI (ep t) y) (fH t t35 t36 t37):=by
 rcases aU h with⟨c15,h⟩|⟨c15,h⟩
 ·obtain⟨x16,bx16,h⟩:=aw h
  obtain⟨r17,br17,h⟩:=aw h
  have p19:=fun{sc F} (r:PS sc F)=>sg 0 c15<|sv (ba.ia (k:=.i64) bx16)<|sv (cY yR (.str x16) [])<|bg (Gd br17)<|r
  rcases aU h with⟨c18,h⟩|⟨c18,h⟩
  ·obtain rfl:=lf h
   have z:=p19<|sg 0 c18<|eF (fI (.inl ())) (ep t (.inl ()))
   exact fX vB (by intro hx;cases hx) z<|by kernel_rfl
  ·obtain rfl:=lf h
   exact sT vB (p19<|sg 0 c18<|eF .normal (fH t t35 t36 (bC (t37+1))))<|by kernel_rfl
 ·obtain rfl:=lf h
  have z:=sg 0 c15<|eF (fI (.inr ())) (ep t (.inr ()))
  exact fX vB (by intro hx;cases hx) z<|by kernel_rfl
theorem qG{x:Unit⊕(Unit)}(h:vg t35 t36 t37=some x):aF Pg GE 0 (.loop (cA HB 119)) (EX (fI x) (ep t x)) (fH t t35 t36 t37):=
 aF.loop (S:=fun(zz:Int)=>fH t t35 t36 zz) (ex:=fI) (s:=t37) h fun zz y hy=>yf t t35 t36 zz hy
end
section
variable(t54:waB)(t55:Int)(t56:Int)
def er:av:=aM 68 [(54,sl ac t54),(55,.int .i64 t55),(56,.int .i64 t56)] [.dead] [((54,0),28)]
def fJ(o:Int⊕(Unit)):Exit:=match o with
 |(.inl _)=>.ret
 |(.inr _)=>.exit 2
def eu(o:Int⊕(Unit)):av:=match o with
 |(.inl o)=>aM 68 [(2,.int .i64 o)] [.dead] []
 |(.inr o)=>aM 68 [] [.dead] []
def rK:Option (Int⊕(Int⊕(Unit))):=
 if (decide (t56 < t55)) = true then
  (dz t54 t56).bind fun x26=>
  (mj x26).bind fun r27=>
  if r27=true then
   some (.inl (bC (t56+1)))
  else
   (zP x26).bind fun r30=>
   if(r30 !=0)=true then
    some (.inr (.inl r30))
   else
    some (.inl (bC (t56+1)))
 else
  some (.inr (.inr ()))
def vj:Option (Int⊕(Unit)):=loop (fun(zz:Int)=>rK t54 t55 zz) t56
theorem yg{y:Int⊕(Int⊕(Unit))}(h:rK t54 t55 t56=some y):aF Pg GE 0 (cA HB 503) (LQ (fun(zz:Int)=>er t54 t55 zz) fJ eu y) (er t54 t55 t56):=by
 rcases aU h with⟨c25,h⟩|⟨c25,h⟩
 ·obtain⟨x26,bx26,h⟩:=aw h
  obtain⟨r27,br27,h⟩:=aw h
  have p29:=fun{sc F} (r:PS sc F)=>sg 0 c25<|sv (aP.ia (k:=.i64) bx26)<|sv (az x26)<|sx dW<|sx (aZ x26)<|sv (aO x26 [])<|bg (oK br27)<|r
  rcases aU h with⟨c28,h⟩|⟨c28,h⟩
  ·obtain rfl:=lf h
   have z:=p29<|sg 0 c28<|oz 0 .normal (er t54 t55 (bC (t56+1))) rfl (cz (aI (up (am ah t54)) (aI trivial (aI trivial trivial)))) (aI trivial trivial)
   exact cw (A:=vB) mixed z<|by kernel_rfl
  ·obtain⟨r30,br30,h⟩:=aw h
   have p32:=fun{sc F} (r:PS sc F)=>p29<|sg 0 c28<|sv (aO x26 [])<|bg (HP br30)<|r
   rcases aU h with⟨c31,h⟩|⟨c31,h⟩
   ·obtain rfl:=lf h
    have z:=p32<|sg 0 c31<|oz 0 (fJ (.inl r30)) (eu (.inl r30)) rfl (cz (aI trivial trivial)) (aI trivial trivial)
    exact sI (A:=vB) mixed (by intro hx;cases hx) z<|by kernel_rfl
   ·obtain rfl:=lf h
    have z:=p32<|sg 0 c31<|oz 0 .normal (er t54 t55 (bC (t56+1))) rfl (cz (aI (up (am ah t54)) (aI trivial (aI trivial trivial)))) (aI trivial trivial)
    exact cw (A:=vB) mixed z<|by kernel_rfl
 ·obtain rfl:=lf h
  have z:=sg 0 c25<|eF (fJ (.inr ())) (eu (.inr ()))
  exact fX vB (by intro hx;cases hx) z<|by kernel_rfl
theorem qH{x:Int⊕(Unit)}(h:vj t54 t55 t56=some x):aF Pg GE 0 (.loop (cA HB 503)) (EX (fJ x) (eu x)) (er t54 t55 t56):=
 aF.loop (S:=fun(zz:Int)=>er t54 t55 zz) (ex:=fJ) (s:=t56) h fun zz y hy=>yg t54 t55 zz hy
end
def BT(t:ae):Option Int:=
 (vd t).bind fun o12=>
 if o12=true then
  some 1
 else
  (vg t.Names (t.Names.length:Int) 0).bind fun o20=>match o20 with
  |(.inl o20)=>
   some 3
  | (.inr o20) =>
   (wC t.Names).bind fun r21=>
   if(!r21)=true then
    some 4
   else
    (app ([t.Pred]:List aa) t.Preds).bind fun l24=>
    (vj l24 (l24.length:Int) 0).bind fun o33=>match o33 with
    |(.inl o33)=>
     some o33
    |(.inr o33)=>
     some 0
theorem EA{t:ae}{r:Int}(h:BT t=some r):CC Pg GE 114 [.agg (af t)] (.int .i64 r) []:=by
 obtain⟨o12,bo12,h⟩:=aw h
 have p14:=fun{sc F} (r:PS sc F)=>se (bE t)<|kq 1<|cC (z7 t bo12)<|r
 rcases aU h with⟨c13,h⟩|⟨c13,h⟩
 ·obtain rfl:=lf h
  have z:=p14<|sg 0 c13<|en (aI (rP (.int .i64 1))<|trivial)
  exact bS vB call114 func114 (c:=HB) rfl (aI (ak t) trivial) z<|by kernel_rfl
 ·obtain⟨o20,bo20,h⟩:=aw h
  rcases o20 with o20|o20
  ·obtain rfl:=lf h
   have z:=p14<|sg 0 c13<|sv (aB t)<|sv (aD t)<|cG (ba.ln t.Names)<|cC (e:=.ret) (s1:=ep t (.inl o20)) (qG t t.Names (t.Names.length:Int) 0 bo20)<|en (aI (rP (.int .i64 3))<|trivial)
   exact bS vB call114 func114 (c:=HB) rfl (aI (ak t) trivial) z<|by kernel_rfl
  ·obtain⟨r21,br21,h⟩:=aw h
   have p23:=fun{sc F} (r:PS sc F)=>p14<|sg 0 c13<|sv (aB t)<|sv (aD t)<|cG (ba.ln t.Names)<|cC (e:=.exit 0) (s1:=ep t (.inr o20)) (qG t t.Names (t.Names.length:Int) 0 bo20)<|sv (aB t)<|sv (aD t)<|bg (A1 br21)<|r
   rcases aU h with⟨c22,h⟩|⟨c22,h⟩
   ·obtain rfl:=lf h
    have z:=p23<|sg 0 c22<|en (aI (rP (.int .i64 4))<|trivial)
    exact bS vB call114 func114 (c:=HB) rfl (aI (ak t) trivial) z<|by kernel_rfl
   ·obtain⟨l24,bl24,h⟩:=aw h
    obtain⟨o33,bo33,h⟩:=aw h
    rcases o33 with o33|o33
    ·obtain rfl:=lf h
     have z:=p23<|sg 0 c22<|sv (bF t)<|sv (bG t)<|sv (aP.mk' (v:=bR) aY ([t.Pred]:List aa) 1 (by kernel_rfl))<|sv (bT t)<|sv (bU t)<|sv (aP.ap bl24)<|cG (aP.ln l24)<|cC (e:=.ret) (s1:=eu (.inl o33)) (qH l24 (l24.length:Int) 0 bo33)<|en (aI (rP (.int .i64 o33))<|trivial)
     exact bS vB call114 func114 (c:=HB) rfl (aI (ak t) trivial) z<|by kernel_rfl
    ·obtain rfl:=lf h
     have z:=p23<|sg 0 c22<|sv (bF t)<|sv (bG t)<|sv (aP.mk' (v:=bR) aY ([t.Pred]:List aa) 1 (by kernel_rfl))<|sv (bT t)<|sv (bU t)<|sv (aP.ap bl24)<|cG (aP.ln l24)<|cC (e:=.exit 2) (s1:=eu (.inr o33)) (qH l24 (l24.length:Int) 0 bo33)<|en (aI (rP (.int .i64 0))<|trivial)
     exact bS vB call114 func114 (c:=HB) rfl (aI (ak t) trivial) z<|by kernel_rfl
noncomputable def Tz:Code:=f78.body.getD .skip
def SS:List Nat:=[11,23]
section
variable(R59:kv)(t13:waC)(t14:Int)(t15:Int)
def fb:av:=aM 25 [(13,sl af t13),(14,.int .i64 t14),(15,.int .i64 t15)] [.dead] []
def fc(o:Int⊕(Unit)):Exit:=match o with
 |(.inl _)=>.ret
 |(.inr _)=>.exit 0
def dY(o:Int⊕(Unit)):av:=match o with
 |(.inl o)=>aM 25 [(2,.int .i64 o)] [.dead] []
 |(.inr o)=>aM 25 [] [.dead] []
def qI:Option (Int⊕(Int⊕(Unit))):=
 if(decide (t15<t14))=true then
  (dz t13 t15).bind fun x5=>
  (R59 x5).bind fun r6=>
  if(r6 !=0)=true then
   some (.inr (.inl r6))
  else
   some (.inl (bC (t15+1)))
 else
  some (.inr (.inr ()))
def tC:Option (Int⊕(Unit)):=loop (fun(zz:Int)=>qI R59 t13 t14 zz) t15
theorem wZ(hR59:oh R59){y:Int⊕(Int⊕(Unit))}(h:qI R59 t13 t14 t15=some y):aF Pg GE 0 (cA Tz 119) (LQ (fun(zz:Int)=>fb t13 t14 zz) fc dY y) (fb t13 t14 t15):=by
 rcases aU h with⟨c4,h⟩|⟨c4,h⟩
 ·obtain⟨x5,bx5,h⟩:=aw h
  obtain⟨r6,br6,h⟩:=aw h
  have p8:=fun{sc F} (r:PS sc F)=>sg 0 c4<|sv (dP.ia (k:=.i64) bx5)<|sv (aW x5)<|sx iq<|sx (cn x5)<|sv (bh x5 [])<|bg (hR59 _ _ br6)<|r
  rcases aU h with⟨c7,h⟩|⟨c7,h⟩
  ·obtain rfl:=lf h
   have z:=p8<|sg 0 c7<|oz 0 (fc (.inl r6)) (dY (.inl r6)) rfl (cz (aI trivial trivial)) (aI trivial trivial)
   exact sI (A:=SS) mixed (by intro hx;cases hx) z<|by kernel_rfl
  ·obtain rfl:=lf h
   have z:=p8<|sg 0 c7<|oz 0 .normal (fb t13 t14 (bC (t15+1))) rfl (cz (aI (up (am ak t13)) (aI trivial (aI trivial trivial)))) (aI trivial trivial)
   exact cw (A:=SS) mixed z<|by kernel_rfl
 ·obtain rfl:=lf h
  have z:=sg 0 c4<|eF (fc (.inr ())) (dY (.inr ()))
  exact fX SS (by intro hx;cases hx) z<|by kernel_rfl
theorem oX(hR59:oh R59){x:Int⊕(Unit)}(h:tC R59 t13 t14 t15=some x):aF Pg GE 0 (.loop (cA Tz 119)) (EX (fc x) (dY x)) (fb t13 t14 t15):=
 aF.loop (S:=fun(zz:Int)=>fb t13 t14 zz) (ex:=fc) (s:=t15) h fun zz y hy=>wZ R59 t13 t14 zz hR59 hy
end
def vo(R59:kv)(t:ae):Option Int:=
 (BT t).bind fun r1=>
 if(r1 !=0)=true then
  some r1
 else
  (tC R59 t.Args (t.Args.length:Int) 0).bind fun o9=>match o9 with
  |(.inl o9)=>
   some o9
  |(.inr o9)=>
   some 0
theorem BV(R59:kv)(hR59:oh R59){t:ae}{r:Int}(h:vo R59 t=some r):CC Pg GE 78 [.agg (af t)] (.int .i64 r) []:=by
 obtain⟨r1,br1,h⟩:=aw h
 have p3:=fun{sc F} (r:PS sc F)=>se (bE t)<|sv (aW t)<|bg (EA br1)<|r
 rcases aU h with⟨c2,h⟩|⟨c2,h⟩
 ·obtain rfl:=lf h
  have z:=p3<|sg 0 c2<|en (aI (rP (.int .i64 r1))<|trivial)
  exact bS SS call78 func78 (c:=Tz) rfl (aI (ak t) trivial) z<|by kernel_rfl
 ·obtain⟨o9,bo9,h⟩:=aw h
  rcases o9 with o9|o9
  ·obtain rfl:=lf h
   have z:=p3<|sg 0 c2<|sv (aH t)<|sv (aJ t)<|cG (dP.ln t.Args)<|cC (e:=.ret) (s1:=dY (.inl o9)) (oX R59 t.Args (t.Args.length:Int) 0 hR59 bo9)<|en (aI (rP (.int .i64 o9))<|trivial)
   exact bS SS call78 func78 (c:=Tz) rfl (aI (ak t) trivial) z<|by kernel_rfl
  ·obtain rfl:=lf h
   have z:=p3<|sg 0 c2<|sv (aH t)<|sv (aJ t)<|cG (dP.ln t.Args)<|cC (e:=.exit 0) (s1:=dY (.inr o9)) (oX R59 t.Args (t.Args.length:Int) 0 hR59 bo9)<|en (aI (rP (.int .i64 0))<|trivial)
   exact bS SS call78 func78 (c:=Tz) rfl (aI (ak t) trivial) z<|by kernel_rfl
def vp:(ae->Option Int)->(ae)->Option Int:=fun(rec:ae->Option Int) (x:ae)=>vo (fun t=>rec t) x
def yQ(t:ae):Option Int:=nS vp t
theorem C8{t:ae}{r:Int}(h:yQ t=some r):CC Pg GE 78 [.agg (af t)] (.int .i64 r) []:=
 cU (F:=vp) (M:=fun(x:ae) (r:Int)=>CC Pg GE 78 [.agg (af x)] (.int .i64 r) []) (fun rec hrec x r h=>BV _ (fun t r h=>hrec t r h) h) h
noncomputable def VI:Code:=f37.body.getD .skip
def Vw:List Nat:=[8]
def yP(t:ae):Option Int:=
 (DK t).bind fun r1=>
 if(r1 !=0)=true then
  some r1
 else
  (yQ t).bind fun r4=>
  some r4
theorem C6{t:ae}{r:Int}(h:yP t=some r):CC Pg GE 37 [.agg (af t)] (.int .i64 r) []:=by
 obtain⟨r1,br1,h⟩:=aw h
 have p3:=fun{sc F} (r:PS sc F)=>se (bE t)<|sv (aW t)<|bg (G5 br1)<|r
 rcases aU h with⟨c2,h⟩|⟨c2,h⟩
 ·obtain rfl:=lf h
  have z:=p3<|sg 0 c2<|en (aI (rP (.int .i64 r1))<|trivial)
  exact bS Vw call37 func37 (c:=VI) rfl (aI (ak t) trivial) z<|by kernel_rfl
 ·obtain⟨r4,br4,h⟩:=aw h
  obtain rfl:=lf h
  have z:=p3<|sg 0 c2<|sv (aW t)<|bg (C8 br4)<|en (aI (rP (.int .i64 r4))<|trivial)
  exact bS Vw call37 func37 (c:=VI) rfl (aI (ak t) trivial) z<|by kernel_rfl
abbrev uk:=(ae->ae->Option Bool)
abbrev y6(R:uk):Prop:=∀(a:ae) (a2:ae) (r:Bool),R a a2=some r->CC Pg GE 12 [.agg (af a),.agg (af a2)] (.bool r) []
noncomputable def Ty:Code:=f32.body.getD .skip
def SP:List Nat:=[15]
section
variable(v:waA)(v2:waA)(t12:Int)(t13:Int)
def jY:av:=aM 26 [(0,sl cS v),(1,sl cS v2),(12,.int .i64 t12),(13,.int .i64 t13)] [] []
def jZ(o:Unit⊕(Unit)):Exit:=match o with
 |(.inl _)=>.ret
 |(.inr _)=>.exit 0
def iD(o:Unit⊕(Unit)):av:=match o with
 |(.inl o)=>aM 26 [(4,.bool false)] [] []
 |(.inr o)=>aM 26 [] [] []
def rY:Option (Int⊕(Unit⊕(Unit))):=
 if(decide (t13<t12))=true then
  (dz v t13).bind fun x4=>
  (dz v2 t13).bind fun x5=>
  if(!(x4==x5))=true then
   some (.inr (.inl ()))
  else
   some (.inl (bC (t13+1)))
 else
  some (.inr (.inr ()))
def vU:Option (Unit⊕(Unit)):=loop (fun(zz:Int)=>rY v v2 t12 zz) t13
theorem DS{y:Int⊕(Unit⊕(Unit))}(h:rY v v2 t12 t13=some y):aF Pg GE 0 (cA Ty 119) (LQ (fun(zz:Int)=>jY v v2 t12 zz) jZ iD y) (jY v v2 t12 t13):=by
 rcases aU h with⟨c3,h⟩|⟨c3,h⟩
 ·obtain⟨x4,bx4,h⟩:=aw h
  obtain⟨x5,bx5,h⟩:=aw h
  have p7:=fun{sc F} (r:PS sc F)=>sg 0 c3<|sU [0,0,3,7,0,0,48,112,255]<|sv (ba.ia (k:=.i64) bx4)<|sv (cY yR (.str x4) [])<|sv (ba.ia (k:=.i64) bx5)<|sv (cY yR (.str x5) [])<|r
  rcases aU h with⟨c6,h⟩|⟨c6,h⟩
  ·obtain rfl:=lf h
   have z:=p7<|sg 0 c6<|eF (jZ (.inl ())) (iD (.inl ()))
   exact fX SP (by intro hx;cases hx) z<|by kernel_rfl
  ·obtain rfl:=lf h
   exact sT SP (p7<|sg 0 c6<|eF .normal (jY v v2 t12 (bC (t13+1))))<|by kernel_rfl
 ·obtain rfl:=lf h
  have z:=sg 0 c3<|eF (jZ (.inr ())) (iD (.inr ()))
  exact fX SP (by intro hx;cases hx) z<|by kernel_rfl
theorem vV{x:Unit⊕(Unit)}(h:vU v v2 t12 t13=some x):aF Pg GE 0 (.loop (cA Ty 119)) (EX (jZ x) (iD x)) (jY v v2 t12 t13):=
 aF.loop (S:=fun(zz:Int)=>jY v v2 t12 zz) (ex:=jZ) (s:=t13) h fun zz y hy=>DS v v2 t12 zz hy
end
def vS(a:waA)(a2:waA):Option Bool:=
 if((a.length:Int)!=(a2.length:Int))=true then
  some false
 else
  (vU a a2 (a.length:Int) 0).bind fun o8=>match o8 with
  |(.inl o8)=>
   some false
  |(.inr o8)=>
   some true
theorem Dm{a:waA}{a2:waA}{r:Bool}(h:vS a a2=some r):CC Pg GE 32 [sl cS a,sl cS a2] (.bool r) []:=by
 have p2:=fun{sc F} (r:PS sc F)=>cG (ba.ln a)<|cG (ba.ln a2)<|r
 rcases aU h with⟨c1,h⟩|⟨c1,h⟩
 ·obtain rfl:=lf h
  have z:=p2<|sg 0 c1<|en (aI (rP (.bool false))<|trivial)
  exact bS SP call32 func32 (c:=Ty) rfl (aI (am d7 a) (aI (am d7 a2) trivial)) z<|by kernel_rfl
 ·obtain⟨o8,bo8,h⟩:=aw h
  rcases o8 with o8|o8
  ·obtain rfl:=lf h
   have z:=p2<|sg 0 c1<|cG (ba.ln a)<|cC (e:=.ret) (s1:=iD (.inl o8)) (vV a a2 (a.length:Int) 0 bo8)<|en (aI (rP (.bool false))<|trivial)
   exact bS SP call32 func32 (c:=Ty) rfl (aI (am d7 a) (aI (am d7 a2) trivial)) z<|by kernel_rfl
  ·obtain rfl:=lf h
   have z:=p2<|sg 0 c1<|cG (ba.ln a)<|cC (e:=.exit 0) (s1:=iD (.inr o8)) (vV a a2 (a.length:Int) 0 bo8)<|en (aI (rP (.bool true))<|trivial)
   exact bS SP call32 func32 (c:=Ty) rfl (aI (am d7 a) (aI (am d7 a2) trivial)) z<|by kernel_rfl
noncomputable def WH:Code:=f59.body.getD .skip
def Wr:List Nat:=[]
def sW:Option aa:=
 some (⟨2,([]:ag),1,([]:List aa)⟩:aa)
theorem qX{r:aa}(h:sW=some r):CC Pg GE 59 [] (.agg (ac r)) [(3,28)]:=by
 obtain rfl:=lf h
 have z:=sx dW<|sb (pq 2 1) (pn 2 1)<|sy (aE (⟨2,([]:ag),1,([]:List aa)⟩:aa))<|en (aI (co (⟨2,([]:ag),1,([]:List aa)⟩:aa))<|aI (ah (⟨2,([]:ag),1,([]:List aa)⟩:aa))<|rT)
 exact bS Wr call59 func59 (c:=WH) rfl trivial z<|by kernel_rfl
abbrev ui:=(aa->aa->Option Bool)
abbrev y4(R:ui):Prop:=∀(a:aa) (a2:aa) (r:Bool),R a a2=some r->CC Pg GE 22 [.agg (ac a),.agg (ac a2)] (.bool r) []
noncomputable def SW:Code:=f22.body.getD .skip
def Qg:List Nat:=[39]
section
variable(v:aa)(v2:aa)
def Hq:av:=aM 53 [(2,.eptr (ac v)),(3,.eptr (ac v2))] [.dead,.dead] []
def j1(o:Bool):av:=aM 53 [(2,.eptr (ac v)),(3,.eptr (ac v2)),(33,.bool o)] [.dead,.dead] []
def v6:Option Bool:=
 if(v.Op !=v2.Op)=true then
  some true
 else
  if(!(v.Name==v2.Name))=true then
   some true
  else
   if(v.N !=v2.N)=true then
    some true
   else
    some ((v.Kids.length:Int)!=(v2.Kids.length:Int))
theorem E8{x:Bool}(h:v6 v v2=some x):aF Pg GE 0 (cA SW 12) (EX .normal (j1 v v2 x)) (Hq v v2):=by
 have p2:=fun{sc F} (r:PS sc F)=>sv (aR v)<|sv (aS v)<|sv (aR v2)<|sv (aS v2)<|r
 rcases aU h with⟨c1,h⟩|⟨c1,h⟩
 ·obtain rfl:=lf h
  exact cm Qg (p2<|sg 6 c1<|eF .normal (j1 v v2 true))<|by kernel_rfl
 ·have p4:=fun{sc F} (r:PS sc F)=>p2<|sg 6 c1<|sv (ca v)<|sv (cq v)<|sv (ca v2)<|sv (cq v2)<|r
  rcases aU h with⟨c3,h⟩|⟨c3,h⟩
  ·obtain rfl:=lf h
   exact cm Qg (p4<|sg 13 c3<|eF .normal (j1 v v2 true))<|by kernel_rfl
  ·have p6:=fun{sc F} (r:PS sc F)=>p4<|sg 13 c3<|sv (ch v)<|sv (ct v)<|sv (ch v2)<|sv (ct v2)<|r
   rcases aU h with⟨c5,h⟩|⟨c5,h⟩
   ·obtain rfl:=lf h
    exact cm Qg (p6<|sg 20 c5<|eF .normal (j1 v v2 true))<|by kernel_rfl
   ·obtain rfl:=lf h
    exact cm Qg (p6<|sg 20 c5<|sv (aK v)<|sv (aL v)<|cG (aP.ln v.Kids)<|sv (aK v2)<|sv (aL v2)<|cG (aP.ln v2.Kids)<|eF .normal (j1 v v2 ((v.Kids.length:Int)!=(v2.Kids.length:Int))))<|by kernel_rfl
end
section
variable(R76:ui)(v:aa)(v2:aa)(t36:Int)(t37:Int)
def j2:av:=aM 53 [(2,.eptr (ac v)),(3,.eptr (ac v2)),(36,.int .i64 t36),(37,.int .i64 t37)] [.dead,.dead] []
def j3(o:Unit⊕(Unit)):Exit:=match o with
 |(.inl _)=>.ret
 |(.inr _)=>.exit 0
def iE(o:Unit⊕(Unit)):av:=match o with
 |(.inl o)=>aM 53 [(4,.bool false)] [.dead,.dead] []
 |(.inr o)=>aM 53 [] [.dead,.dead] []
def np:Option (Int⊕(Unit⊕(Unit))):=
 if(decide (t37<t36))=true then
  (dz v.Kids t37).bind fun x11=>
  (dz v2.Kids t37).bind fun x12=>
  (R76 x11 x12).bind fun r13=>
  if(!r13)=true then
   some (.inr (.inl ()))
  else
   some (.inl (bC (t37+1)))
 else
  some (.inr (.inr ()))
def v7:Option (Unit⊕(Unit)):=loop (fun(zz:Int)=>np R76 v v2 t36 zz) t37
theorem DX(hR76:y4 R76){y:Int⊕(Unit⊕(Unit))}(h:np R76 v v2 t36 t37=some y):aF Pg GE 0 (cA SW 119) (LQ (fun(zz:Int)=>j2 v v2 t36 zz) j3 iE y) (j2 v v2 t36 t37):=by
 rcases aU h with⟨c10,h⟩|⟨c10,h⟩
 ·obtain⟨x11,bx11,h⟩:=aw h
  obtain⟨x12,bx12,h⟩:=aw h
  obtain⟨r13,br13,h⟩:=aw h
  have p15:=fun{sc F} (r:PS sc F)=>sg 0 c10<|sU [0,1,0,7,15,0,32,0,224,480,1023,2047]<|sv (aK v)<|sv (aL v)<|sv (aP.ia (k:=.i64) bx11)<|sv (az x11)<|sv (aK v2)<|sv (aL v2)<|sv (aP.ia (k:=.i64) bx12)<|sv (az x12)<|bg (hR76 _ _ _ br13)<|r
  rcases aU h with⟨c14,h⟩|⟨c14,h⟩
  ·obtain rfl:=lf h
   have z:=p15<|sg 0 c14<|eF (j3 (.inl ())) (iE (.inl ()))
   exact fX Qg (by intro hx;cases hx) z<|by kernel_rfl
  ·obtain rfl:=lf h
   exact sT Qg (p15<|sg 0 c14<|eF .normal (j2 v v2 t36 (bC (t37+1))))<|by kernel_rfl
 ·obtain rfl:=lf h
  have z:=sg 0 c10<|eF (j3 (.inr ())) (iE (.inr ()))
  exact fX Qg (by intro hx;cases hx) z<|by kernel_rfl
theorem v8(hR76:y4 R76){x:Unit⊕(Unit)}(h:v7 R76 v v2 t36 t37=some x):aF Pg GE 0 (.loop (cA SW 119)) (EX (j3 x) (iE x)) (j2 v v2 t36 t37):=
 aF.loop (S:=fun(zz:Int)=>j2 v v2 t36 zz) (ex:=j3) (s:=t37) h fun zz y hy=>DX R76 v v2 t36 zz hR76 hy
end
def ub(R76:ui)(a:aa)(a2:aa):Option Bool:=
 (v6 a a2).bind fun o7=>
 if o7=true then
  some false
 else
  (v7 R76 a a2 (a.Kids.length:Int) 0).bind fun o16=>match o16 with
  |(.inl o16)=>
   some false
  |(.inr o16)=>
   some true
theorem IY(R76:ui)(hR76:y4 R76){a:aa}{a2:aa}{r:Bool}(h:ub R76 a a2=some r):CC Pg GE 22 [.agg (ac a),.agg (ac a2)] (.bool r) []:=by
 obtain⟨o7,bo7,h⟩:=aw h
 have p9:=fun{sc F} (r:PS sc F)=>se (bz a)<|se (bz a2)<|kq 1<|cC (E8 a a2 bo7)<|r
 rcases aU h with⟨c8,h⟩|⟨c8,h⟩
 ·obtain rfl:=lf h
  have z:=p9<|sg 0 c8<|en (aI (rP (.bool false))<|trivial)
  exact bS Qg call22 func22 (c:=SW) rfl (aI (ah a) (aI (ah a2) trivial)) z<|by kernel_rfl
 ·obtain⟨o16,bo16,h⟩:=aw h
  rcases o16 with o16|o16
  ·obtain rfl:=lf h
   have z:=p9<|sg 0 c8<|sv (aK a)<|sv (aL a)<|cG (aP.ln a.Kids)<|cC (e:=.ret) (s1:=iE (.inl o16)) (v8 R76 a a2 (a.Kids.length:Int) 0 hR76 bo16)<|en (aI (rP (.bool false))<|trivial)
   exact bS Qg call22 func22 (c:=SW) rfl (aI (ah a) (aI (ah a2) trivial)) z<|by kernel_rfl
  ·obtain rfl:=lf h
   have z:=p9<|sg 0 c8<|sv (aK a)<|sv (aL a)<|cG (aP.ln a.Kids)<|cC (e:=.exit 0) (s1:=iE (.inr o16)) (v8 R76 a a2 (a.Kids.length:Int) 0 hR76 bo16)<|en (aI (rP (.bool true))<|trivial)
   exact bS Qg call22 func22 (c:=SW) rfl (aI (ah a) (aI (ah a2) trivial)) z<|by kernel_rfl
def zd:((aa×aa)->Option Bool)->(aa×aa)->Option Bool:=fun(rec:(aa×aa)->Option Bool) (x:aa×aa)=>ub (fun a a2=>rec (a,a2)) x.1 x.2
def fA(a:aa)(a2:aa):Option Bool:=nS zd (a,a2)
theorem fC{a:aa}{a2:aa}{r:Bool}(h:fA a a2=some r):CC Pg GE 22 [.agg (ac a),.agg (ac a2)] (.bool r) []:=
 cU (F:=zd) (M:=fun(x:aa×aa) (r:Bool)=>CC Pg GE 22 [.agg (ac x.1),.agg (ac x.2)] (.bool r) []) (fun rec hrec x r h=>IY _ (fun a a2 r h=>hrec (a,a2) r h) h) h
noncomputable def VN:Code:=f87.body.getD .skip
def VB:List Nat:=[]
def pS(p:aa):Option Bool:=
 sW.bind fun r1=>
 (fA p r1).bind fun r2=>
 if r2=true then
  some true
 else
  (fA p (⟨0,([]:ag),0,([]:List aa)⟩:aa)).bind fun r5=>
  some r5
theorem qY{p:aa}{r:Bool}(h:pS p=some r):CC Pg GE 87 [.agg (ac p)] (.bool r) []:=by
 obtain⟨r1,br1,h⟩:=aw h
 obtain⟨r2,br2,h⟩:=aw h
 have p4:=fun{sc F} (r:PS sc F)=>se (bz p)<|sU [0,0,3,7,15,15,63,127,255]<|sv (az p)<|bg (qX br1)<|bg (fC br2)<|r
 rcases aU h with⟨c3,h⟩|⟨c3,h⟩
 ·obtain rfl:=lf h
  have z:=p4<|sg 4 c3<|en (aI (rP (.bool true))<|trivial)
  exact bS VB call87 func87 (c:=VN) rfl (aI (ah p) trivial) z<|by kernel_rfl
 ·obtain⟨r5,br5,h⟩:=aw h
  obtain rfl:=lf h
  have z:=p4<|sg 4 c3<|sv (az p)<|sb (qh) (qf)<|bg (fC br5)<|en (aI (rP (.bool r5))<|trivial)
  exact bS VB call87 func87 (c:=VN) rfl (aI (ah p) trivial) z<|by kernel_rfl
noncomputable def UQ:Code:=f48.body.getD .skip
def Uy:List Nat:=[]
def sY(a:aa)(a2:aa):Option Bool:=
 (pS a).bind fun r1=>
 if r1=true then
  (pS a2).bind fun r4=>
  if r4=true then
   some true
  else
   (fA a a2).bind fun r7=>
   some r7
 else
  (fA a a2).bind fun r8=>
  some r8
theorem Dn{a:aa}{a2:aa}{r:Bool}(h:sY a a2=some r):CC Pg GE 48 [.agg (ac a),.agg (ac a2)] (.bool r) []:=by
 obtain⟨r1,br1,h⟩:=aw h
 have p3:=fun{sc F} (r:PS sc F)=>se (bz a)<|se (bz a2)<|sv (az a)<|bg (qY br1)<|r
 rcases aU h with⟨c2,h⟩|⟨c2,h⟩
 ·obtain⟨r4,br4,h⟩:=aw h
  have p6:=fun{sc F} (r:PS sc F)=>p3<|sg 3 c2<|sv (az a2)<|bg (qY br4)<|r
  rcases aU h with⟨c5,h⟩|⟨c5,h⟩
  ·obtain rfl:=lf h
   have z:=p6<|sg 7 c5<|en (aI (rP (.bool true))<|trivial)
   exact bS Uy call48 func48 (c:=UQ) rfl (aI (ah a) (aI (ah a2) trivial)) z<|by kernel_rfl
  ·obtain⟨r7,br7,h⟩:=aw h
   obtain rfl:=lf h
   have z:=p6<|sg 7 c5<|sv (az a)<|sv (az a2)<|bg (fC br7)<|en (aI (rP (.bool r7))<|trivial)
   exact bS Uy call48 func48 (c:=UQ) rfl (aI (ah a) (aI (ah a2) trivial)) z<|by kernel_rfl
 ·obtain⟨r8,br8,h⟩:=aw h
  obtain rfl:=lf h
  have z:=p3<|sg 3 c2<|sv (az a)<|sv (az a2)<|bg (fC br8)<|en (aI (rP (.bool r8))<|trivial)
  exact bS Uy call48 func48 (c:=UQ) rfl (aI (ah a) (aI (ah a2) trivial)) z<|by kernel_rfl
noncomputable def QG:Code:=f12.body.getD .skip
def Lv:List Nat:=[58,77]
section
variable(v:ae)(v2:ae)
def Hs:av:=aM 91 [(2,.eptr (af v)),(3,.eptr (af v2))] [.dead,.dead] []
def fM(o:Bool):av:=aM 91 [(2,.eptr (af v)),(3,.eptr (af v2)),(52,.bool o)] [.dead,.dead] []
def wd:Option Bool:=
 if(v.Op !=v2.Op)=true then
  some true
 else
  if(!(v.Name==v2.Name))=true then
   some true
  else
   if((v.Args.length:Int)!=(v2.Args.length:Int))=true then
    some true
   else
    if((v.Preds.length:Int)!=(v2.Preds.length:Int))=true then
     some true
    else
     (vS v.Names v2.Names).bind fun r9=>
     if(!r9)=true then
      some true
     else
      (sY v.Pred v2.Pred).bind fun r12=>
      some (!r12)
theorem Fg{x:Bool}(h:wd v v2=some x):aF Pg GE 0 (cA QG 12) (EX .normal (fM v v2 x)) (Hs v v2):=by
 have p2:=fun{sc F} (r:PS sc F)=>sv (aA v)<|sv (aC v)<|sv (aA v2)<|sv (aC v2)<|r
 rcases aU h with⟨c1,h⟩|⟨c1,h⟩
 ·obtain rfl:=lf h
  exact cm Lv (p2<|sg 6 c1<|eF .normal (fM v v2 true))<|by kernel_rfl
 ·have p4:=fun{sc F} (r:PS sc F)=>p2<|sg 6 c1<|sv (dc v)<|sv (dB v)<|sv (dc v2)<|sv (dB v2)<|r
  rcases aU h with⟨c3,h⟩|⟨c3,h⟩
  ·obtain rfl:=lf h
   exact cm Lv (p4<|sg 13 c3<|eF .normal (fM v v2 true))<|by kernel_rfl
  ·have p6:=fun{sc F} (r:PS sc F)=>p4<|sg 13 c3<|sv (aH v)<|sv (aJ v)<|cG (dP.ln v.Args)<|sv (aH v2)<|sv (aJ v2)<|cG (dP.ln v2.Args)<|r
   rcases aU h with⟨c5,h⟩|⟨c5,h⟩
   ·obtain rfl:=lf h
    exact cm Lv (p6<|sg 22 c5<|eF .normal (fM v v2 true))<|by kernel_rfl
   ·have p8:=fun{sc F} (r:PS sc F)=>p6<|sg 22 c5<|sv (bT v)<|sv (bU v)<|cG (aP.ln v.Preds)<|sv (bT v2)<|sv (bU v2)<|cG (aP.ln v2.Preds)<|r
    rcases aU h with⟨c7,h⟩|⟨c7,h⟩
    ·obtain rfl:=lf h
     exact cm Lv (p8<|sg 31 c7<|eF .normal (fM v v2 true))<|by kernel_rfl
    ·obtain⟨r9,br9,h⟩:=aw h
     have p11:=fun{sc F} (r:PS sc F)=>p8<|sg 31 c7<|sv (aB v)<|sv (aD v)<|sv (aB v2)<|sv (aD v2)<|bg (Dm br9)<|r
     rcases aU h with⟨c10,h⟩|⟨c10,h⟩
     ·obtain rfl:=lf h
      exact cm Lv (p11<|sg 39 c10<|eF .normal (fM v v2 true))<|by kernel_rfl
     ·obtain⟨r12,br12,h⟩:=aw h
      obtain rfl:=lf h
      exact cm Lv (p11<|sg 39 c10<|sv (bF v)<|sv (bG v)<|sv (bF v2)<|sv (bG v2)<|bg (Dn br12)<|eF .normal (fM v v2 (!r12)))<|by kernel_rfl
end
section
variable(v:ae)(v2:ae)(t55:Int)(t56:Int)
def j6:av:=aM 91 [(2,.eptr (af v)),(3,.eptr (af v2)),(55,.int .i64 t55),(56,.int .i64 t56)] [.dead,.dead] []
def j7(o:Unit⊕(Unit)):Exit:=match o with
 |(.inl _)=>.ret
 |(.inr _)=>.exit 0
def fN(o:Unit⊕(Unit)):av:=match o with
 |(.inl o)=>aM 91 [(4,.bool false)] [.dead,.dead] []
 |(.inr o)=>aM 91 [(2,.eptr (af v)),(3,.eptr (af v2))] [.dead,.dead] []
def sk:Option (Int⊕(Unit⊕(Unit))):=
 if(decide (t56<t55))=true then
  (dz v.Preds t56).bind fun x17=>
  (dz v2.Preds t56).bind fun x18=>
  (sY x17 x18).bind fun r19=>
  if(!r19)=true then
   some (.inr (.inl ()))
  else
   some (.inl (bC (t56+1)))
 else
  some (.inr (.inr ()))
def wg:Option (Unit⊕(Unit)):=loop (fun(zz:Int)=>sk v v2 t55 zz) t56
theorem D3{y:Int⊕(Unit⊕(Unit))}(h:sk v v2 t55 t56=some y):aF Pg GE 0 (cA QG 119) (LQ (fun(zz:Int)=>j6 v v2 t55 zz) j7 (fN v v2) y) (j6 v v2 t55 t56):=by
 rcases aU h with⟨c16,h⟩|⟨c16,h⟩
 ·obtain⟨x17,bx17,h⟩:=aw h
  obtain⟨x18,bx18,h⟩:=aw h
  obtain⟨r19,br19,h⟩:=aw h
  have p21:=fun{sc F} (r:PS sc F)=>sg 0 c16<|sU [0,1,0,7,15,0,32,0,224,480,1023,2047]<|sv (bT v)<|sv (bU v)<|sv (aP.ia (k:=.i64) bx17)<|sv (az x17)<|sv (bT v2)<|sv (bU v2)<|sv (aP.ia (k:=.i64) bx18)<|sv (az x18)<|bg (Dn br19)<|r
  rcases aU h with⟨c20,h⟩|⟨c20,h⟩
  ·obtain rfl:=lf h
   have z:=p21<|sg 0 c20<|eF (j7 (.inl ())) (fN v v2 (.inl ()))
   exact fX Lv (by intro hx;cases hx) z<|by kernel_rfl
  ·obtain rfl:=lf h
   exact sT Lv (p21<|sg 0 c20<|eF .normal (j6 v v2 t55 (bC (t56+1))))<|by kernel_rfl
 ·obtain rfl:=lf h
  have z:=sg 0 c16<|eF (j7 (.inr ())) (fN v v2 (.inr ()))
  exact fX Lv (by intro hx;cases hx) z<|by kernel_rfl
theorem pW{x:Unit⊕(Unit)}(h:wg v v2 t55 t56=some x):aF Pg GE 0 (.loop (cA QG 119)) (EX (j7 x) (fN v v2 x)) (j6 v v2 t55 t56):=
 aF.loop (S:=fun(zz:Int)=>j6 v v2 t55 zz) (ex:=j7) (s:=t56) h fun zz y hy=>D3 v v2 t55 zz hy
end
section
variable(R71:uk)(v:ae)(v2:ae)(t74:Int)(t75:Int)
def j8:av:=aM 91 [(2,.eptr (af v)),(3,.eptr (af v2)),(74,.int .i64 t74),(75,.int .i64 t75)] [.dead,.dead] []
def j9(o:Unit⊕(Unit)):Exit:=match o with
 |(.inl _)=>.ret
 |(.inr _)=>.exit 2
def iF(o:Unit⊕(Unit)):av:=match o with
 |(.inl o)=>aM 91 [(4,.bool false)] [.dead,.dead] []
 |(.inr o)=>aM 91 [] [.dead,.dead] []
def sm:Option (Int⊕(Unit⊕(Unit))):=
 if(decide (t75<t74))=true then
  (dz v.Args t75).bind fun x24=>
  (dz v2.Args t75).bind fun x25=>
  (R71 x24 x25).bind fun r26=>
  if(!r26)=true then
   some (.inr (.inl ()))
  else
   some (.inl (bC (t75+1)))
 else
  some (.inr (.inr ()))
def wh:Option (Unit⊕(Unit)):=loop (fun(zz:Int)=>sm R71 v v2 t74 zz) t75
theorem D4(hR71:y6 R71){y:Int⊕(Unit⊕(Unit))}(h:sm R71 v v2 t74 t75=some y):aF Pg GE 0 (cA QG 247) (LQ (fun(zz:Int)=>j8 v v2 t74 zz) j9 iF y) (j8 v v2 t74 t75):=by
 rcases aU h with⟨c23,h⟩|⟨c23,h⟩
 ·obtain⟨x24,bx24,h⟩:=aw h
  obtain⟨x25,bx25,h⟩:=aw h
  obtain⟨r26,br26,h⟩:=aw h
  have p28:=fun{sc F} (r:PS sc F)=>sg 0 c23<|sU [0,1,0,7,15,0,32,0,224,480,1023,2047]<|sv (aH v)<|sv (aJ v)<|sv (dP.ia (k:=.i64) bx24)<|sv (aW x24)<|sv (aH v2)<|sv (aJ v2)<|sv (dP.ia (k:=.i64) bx25)<|sv (aW x25)<|bg (hR71 _ _ _ br26)<|r
  rcases aU h with⟨c27,h⟩|⟨c27,h⟩
  ·obtain rfl:=lf h
   have z:=p28<|sg 0 c27<|eF (j9 (.inl ())) (iF (.inl ()))
   exact fX Lv (by intro hx;cases hx) z<|by kernel_rfl
  ·obtain rfl:=lf h
   exact sT Lv (p28<|sg 0 c27<|eF .normal (j8 v v2 t74 (bC (t75+1))))<|by kernel_rfl
 ·obtain rfl:=lf h
  have z:=sg 0 c23<|eF (j9 (.inr ())) (iF (.inr ()))
  exact fX Lv (by intro hx;cases hx) z<|by kernel_rfl
theorem wj(hR71:y6 R71){x:Unit⊕(Unit)}(h:wh R71 v v2 t74 t75=some x):aF Pg GE 0 (.loop (cA QG 247)) (EX (j9 x) (iF x)) (j8 v v2 t74 t75):=
 aF.loop (S:=fun(zz:Int)=>j8 v v2 t74 zz) (ex:=j9) (s:=t75) h fun zz y hy=>D4 R71 v v2 t74 zz hR71 hy
end
def ue(R71:uk)(a:ae)(a2:ae):Option Bool:=
 (wd a a2).bind fun o13=>
 if o13=true then
  some false
 else
  (wg a a2 (a.Preds.length:Int) 0).bind fun o22=>match o22 with
  |(.inl o22)=>
   some false
  | (.inr o22) =>
   (wh R71 a a2 (a.Args.length:Int) 0).bind fun o29=>match o29 with
   |(.inl o29)=>
    some false
   |(.inr o29)=>
    some true
theorem I4(R71:uk)(hR71:y6 R71){a:ae}{a2:ae}{r:Bool}(h:ue R71 a a2=some r):CC Pg GE 12 [.agg (af a),.agg (af a2)] (.bool r) []:=by
 obtain⟨o13,bo13,h⟩:=aw h
 have p15:=fun{sc F} (r:PS sc F)=>se (bE a)<|se (bE a2)<|kq 1<|cC (Fg a a2 bo13)<|r
 rcases aU h with⟨c14,h⟩|⟨c14,h⟩
 ·obtain rfl:=lf h
  have z:=p15<|sg 0 c14<|en (aI (rP (.bool false))<|trivial)
  exact bS Lv call12 func12 (c:=QG) rfl (aI (ak a) (aI (ak a2) trivial)) z<|by kernel_rfl
 ·obtain⟨o22,bo22,h⟩:=aw h
  rcases o22 with o22|o22
  ·obtain rfl:=lf h
   have z:=p15<|sg 0 c14<|sv (bT a)<|sv (bU a)<|cG (aP.ln a.Preds)<|cC (e:=.ret) (s1:=fN a a2 (.inl o22)) (pW a a2 (a.Preds.length:Int) 0 bo22)<|en (aI (rP (.bool false))<|trivial)
   exact bS Lv call12 func12 (c:=QG) rfl (aI (ak a) (aI (ak a2) trivial)) z<|by kernel_rfl
  ·obtain⟨o29,bo29,h⟩:=aw h
   rcases o29 with o29|o29
   ·obtain rfl:=lf h
    have z:=p15<|sg 0 c14<|sv (bT a)<|sv (bU a)<|cG (aP.ln a.Preds)<|cC (e:=.exit 0) (s1:=fN a a2 (.inr o22)) (pW a a2 (a.Preds.length:Int) 0 bo22)<|sv (aH a)<|sv (aJ a)<|cG (dP.ln a.Args)<|cC (e:=.ret) (s1:=iF (.inl o29)) (wj R71 a a2 (a.Args.length:Int) 0 hR71 bo29)<|en (aI (rP (.bool false))<|trivial)
    exact bS Lv call12 func12 (c:=QG) rfl (aI (ak a) (aI (ak a2) trivial)) z<|by kernel_rfl
   ·obtain rfl:=lf h
    have z:=p15<|sg 0 c14<|sv (bT a)<|sv (bU a)<|cG (aP.ln a.Preds)<|cC (e:=.exit 0) (s1:=fN a a2 (.inr o22)) (pW a a2 (a.Preds.length:Int) 0 bo22)<|sv (aH a)<|sv (aJ a)<|cG (dP.ln a.Args)<|cC (e:=.exit 2) (s1:=iF (.inr o29)) (wj R71 a a2 (a.Args.length:Int) 0 hR71 bo29)<|en (aI (rP (.bool true))<|trivial)
    exact bS Lv call12 func12 (c:=QG) rfl (aI (ak a) (aI (ak a2) trivial)) z<|by kernel_rfl
def zh:((ae×ae)->Option Bool)->(ae×ae)->Option Bool:=fun(rec:(ae×ae)->Option Bool) (x:ae×ae)=>ue (fun a a2=>rec (a,a2)) x.1 x.2
def f7(a:ae)(a2:ae):Option Bool:=nS zh (a,a2)
theorem ja{a:ae}{a2:ae}{r:Bool}(h:f7 a a2=some r):CC Pg GE 12 [.agg (af a),.agg (af a2)] (.bool r) []:=
 cU (F:=zh) (M:=fun(x:ae×ae) (r:Bool)=>CC Pg GE 12 [.agg (af x.1),.agg (af x.2)] (.bool r) []) (fun rec hrec x r h=>I4 _ (fun a a2 r h=>hrec (a,a2) r h) h) h
noncomputable def WF:Code:=f57.body.getD .skip
def Wp:List Nat:=[]
def uL(p:aa)(name:ag)(a:aa):Option aa:=
 (nz p ([name]:List ag) ([a]:List aa)).bind fun r1=>
 some r1
theorem HR{p:aa}{name:ag}{a:aa}{r:aa}(h:uL p name a=some r):CC Pg GE 57 [.agg (ac p),.str name,.agg (ac a)] (.agg (ac r)) [(3,28)]:=by
 obtain⟨r1,br1,h⟩:=aw h
 obtain rfl:=lf h
 have z:=se (bz p)<|se (bz a)<|sx dW<|sv (az p)<|sv (ba.mk' (v:=PVal.str) CW ([name]:List ag) 1 (by kernel_rfl))<|sv (az a)<|sv (aP.mk' (v:=bR) aY ([a]:List aa) 1 (by kernel_rfl))<|bg (tx br1)<|sy (aE r1)<|en (aI (co r1)<|aI (ah r1)<|rT)
 exact bS Wp call57 func57 (c:=WF) rfl (aI (ah p) (aI trivial (aI (ah a) trivial))) z<|by kernel_rfl
noncomputable def UM:Code:=f23.body.getD .skip
def T6:List Nat:=[]
section
variable(t:ae)(v:aa)(m:waB)
def Ez:av:=aM 18 [(2,.eptr (af t)),(3,.eptr (ac v)),(4,.bptr 2 0)] [.dead,.dead,.cells [.int .i64 0,.str ([]:ag),.int .i64 0,sl ac m] [(3,28)]] []
def oE(o:Bool):av:=aM 18 [(2,.eptr (af t)),(3,.eptr (ac v)),(4,.bptr 2 0),(12,.bool o)] [.dead,.dead,.cells [.int .i64 0,.str ([]:ag),.int .i64 0,sl ac m] [(3,28)]] []
def sP:Option Bool:=
 if(t.Op==6)=true then
  some true
 else
  (mj t.Pred).bind fun r3=>
  some r3
theorem C5{x:Bool}(h:sP t=some x):aF Pg GE 0 (cA UM 12) (EX .normal (oE t v m x)) (Ez t v m):=by
 have p2:=fun{sc F} (r:PS sc F)=>sv (aA t)<|sv (aC t)<|r
 rcases aU h with⟨c1,h⟩|⟨c1,h⟩
 ·obtain rfl:=lf h
  exact cm T6 (p2<|sg 4 c1<|eF .normal (oE t v m true))<|by kernel_rfl
 ·obtain⟨r3,br3,h⟩:=aw h
  obtain rfl:=lf h
  exact cm T6 (p2<|sg 4 c1<|sv (bF t)<|sv (bG t)<|bg (oK br3)<|eF .normal (oE t v m r3))<|by kernel_rfl
end
def qD(t:ae)(a:aa):Option aa:=
 (sP t).bind fun o4=>
 if o4=true then
  some (⟨2,([]:ag),1,([]:List aa)⟩:aa)
 else
  (uL t.Pred ([118]:ag) a).bind fun r7=>
  some r7
theorem yO{t:ae}{a:aa}{r:aa}(h:qD t a=some r):CC Pg GE 23 [.agg (af t),.agg (ac a)] (.agg (ac r)) [(3,28)]:=by
 obtain⟨o4,bo4,h⟩:=aw h
 have p6:=fun{sc F} (r:PS sc F)=>se (bE t)<|se (bz a)<|sx dW<|kq 1<|cC (C5 t a ([]:List aa) bo4)<|r
 rcases aU h with⟨c5,h⟩|⟨c5,h⟩
 ·obtain rfl:=lf h
  have z:=p6<|sg 0 c5<|sb (pq 2 1) (pn 2 1)<|sy (aE (⟨2,([]:ag),1,([]:List aa)⟩:aa))<|en (aI (co (⟨2,([]:ag),1,([]:List aa)⟩:aa))<|aI (ah (⟨2,([]:ag),1,([]:List aa)⟩:aa))<|rT)
  exact bS T6 call23 func23 (c:=UM) rfl (aI (ak t) (aI (ah a) trivial)) z<|by kernel_rfl
 ·obtain⟨r7,br7,h⟩:=aw h
  obtain rfl:=lf h
  have z:=p6<|sg 0 c5<|sv (bF t)<|sv (bG t)<|sv (az a)<|bg (HR br7)<|sy (aE r7)<|en (aI (co r7)<|aI (ah r7)<|rT)
  exact bS T6 call23 func23 (c:=UM) rfl (aI (ak t) (aI (ah a) trivial)) z<|by kernel_rfl
end Go.Proofs.YtggeppllafbidaaGreatDoor
