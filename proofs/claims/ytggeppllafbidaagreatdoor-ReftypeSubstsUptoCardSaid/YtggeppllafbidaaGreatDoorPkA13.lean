/- PROVED: parts of the proof (G1 GK VisD VisE VisF). Conditions: none. -/
import Derived.Test.YtggeppllafbidaaGreatDoorPkA12
import Derived.Test.YtggeppllafbidaaGreatDoorPkA11
noncomputable section
namespace Go.Proofs.YtggeppllafbidaaGreatDoor
open Go
set_option linter.unusedVariables false
set_option maxRecDepth 100000
abbrev fB:Nat:=105
abbrev fW:Nat:=129
def bW:Code:=Tryz.f129.body.getD .skip
def bB:Code:=Tryz.f105.body.getD .skip
theorem GY(p:aa):CC Pg GE fB [.agg (ac p)] (.func (.func fW) [] [.eptr (ac p)]) []:=by
 have z:=se (bM p)<|en (aI (rP (.func (.func fW) [] [.eptr (ac p)]))<|(aI trivial (aI (show iB 0 (ac p)from ah p) trivial)))
 exact C.evp (A:=[]) mixed Tryz.call105 Tryz.func105 (c:=bB) rfl (aI (ah p) trivial) z (by kernel_rfl)
theorem RU:bW=.region (SJ bW) (jS bW) false:=by kernel_rfl
theorem RY:List.range (jS bW).size=[0,1]++2::([]:List Nat):=by kernel_rfl
theorem RW:[0,1].map (fun i=>(jS bW)[i]?)=((jS bW).toList.take 2).map some:=by kernel_rfl
theorem RX:((jS bW).toList.take 2).all Ff=true:=by kernel_rfl
theorem Ti:(jS bW)[2]? =some (LJ bW 2):=by kernel_rfl
theorem Th:(LJ bW 2).guard=none:=by kernel_rfl
theorem RV:(LJ bW 2).op=.call {callee:=.value (.func fV),args:=#[.tmp 3,.tmp 4],argTypes:=Q5 (LJ bW 2)}:=by kernel_rfl
theorem Tg:(LJ bW 2).dst=some 5:=by kernel_rfl
theorem QI(p:aa)(l:Nat):cB Pg GE [] (jS bW) (fun st=>FG st (aN 6 [(3,.agg (ac p)),(4,yv l)] [] [])) ((jS bW).toList.take 2) 0 (aN 6 [(0,yv l),(1,.eptr (ac p))] [] []):=by
 have z:=sv (az p)<|en (fr (aN 6 [(3,.agg (ac p)),(4,yv l)] [] []))
 exact Am z (by kernel_rfl)
section
variable{S:Type}{step:S->aa->Option (Bool×S)}{J:Bool->S->aO->World->Prop}{l:Nat}
theorem Nv(hY:Yd Pg GE l ac step J)(p:aa){s:S}{r:Bool×S}{Γ:aO}{w:World}{v:Value}{n:Nat}(hv:GQ step p s=some r)(hJ:J true s Γ w)(hvr:VR Γ [] w (.eptr (ac p)) v):
  CallsIn Fence.wide n Pg fW #[.func (.yield l) #[] #[],v] w fun e w'=>(∃u,e=.returned u)/\∃Γ',Γ.Le w Γ' w'/\J r.1 r.2 Γ' w':=by
 refine callsIn_of_wp Tryz.func129 (c:=bW) rfl trivial ?_
 have h0:VF J Γ w true s (aN 6 [(0,yv l),(1,.eptr (ac p))] [] []) (#[.func (.yield l) #[] #[],v]++Array.replicate 4 undef) w:=by
  refine⟨Γ,hJ,.refl _ _,_,_,_,(hY.base _ _ _ _ hJ).fresh 0 (tmps:=[yv l,.eptr (ac p)]++List.replicate 4 .undef) (by simp) fun t q u hq hu=>?_⟩
  by_cases ht:t<2
  ·rw[vac (by simpa using ht)]at hq
   rw[vaH (by simpa using ht)]at hu
   match t,ht with
   |0,_=>simp at hq hu;subst hq;subst hu;exact .val _
   |1,_=>simp at hq hu;subst hq;subst hu;exact hvr
  ·rw[vad (by simpa using ht),vaL]at hq
   split at hq<;>cases hq
   exact .undef u
 show bW.wpIn Fence.wide n Pg _ ⟨_,[]⟩ w
 have d2:(PVal.eptr (ac p)).cl 0:=ah p
 have d3:(PVal.agg (ac p)).cl 0:=ah p
 have key:(Code.region (SJ bW) (jS bW) false).wpIn Fence.wide n Pg (bodyPost Pg Tryz.f129 fun e w'=>(∃u,e=.returned u)/\∃Γ',Γ.Le w Γ' w'/\J r.1 r.2 Γ' w') ⟨#[.func (.yield l) #[] #[],v]++Array.replicate 4 undef,[]⟩ w:=by
  refine wpIn_region ?_
  rw[RY]
  obtain⟨Γ1,hJ1,hle1,hS⟩:=VF.again hY (k:=0) (Mm (L:=[(0,yv l),(1,.eptr (ac p))]) (by exact aI trivial<|aI d2 trivial) 0 rfl) h0
  refine wF (A:=[]) (K:=fun st=>FG st (aN 6 [(3,.agg (ac p)),(4,yv l)] [] [])) (fun Γ' bs' ow' a' w' st hS' hK=>?_) _ _ Γ1 _ _ _ w _ RW (BV RX) hS (QI p l)
  obtain⟨Γ2,bs2,ow2,hS2⟩:=FG.sr hS' hK
  refine yX Ti Th (VF.visitc hY (kA:=0) (stB:=aN 6 [(3,.agg (ac p)),(4,yv l),(5,.bool r.1)] [] []) (Mm (by exact aI d3<|aI trivial trivial) 0 rfl) (Kb hY p) hv (y:=4) (x:=3) (d:=5) rfl rfl RV Tg rfl ⟨Γ2,hY.side _ _ _ _ hJ1 _ _ _ _ _ _ hS2,hle1.trans hS2.step.le,_,_,_,hS2⟩ fun a3 w3 h3=>?_)
  obtain⟨Γ3,hJ3,hle3,E,bs3,ow3,hS3⟩:=h3
  obtain⟨u,e1,_⟩:=nl hS3 (fn:=Tryz.f129) (r:=.tuple []) (by kernel_rfl)
  exact⟨rfl,u,e1,⟨u,rfl⟩,Γ3,hle3,hJ3⟩
 rw[<-RU]at key
 exact key
end
abbrev UZ:Nat:=64
def P2:Code:=Tryz.f64.body.getD .skip
def OV:Code->Code
 |.rangeFunc _ _ a _=>a
 |_=>.skip
def OW:Code->Code
 |.rangeFunc _ _ _ b=>b
 |_=>.skip
abbrev Ue:Code:=dj P2 [false]
abbrev Uf:Code:=dj P2 [true,false]
abbrev Ug:Code:=dj P2 [true,true,false,false]
abbrev OU:Code:=dj P2 [true,true,false,true,false]
abbrev Ts:Code:=dj P2 [true,true,true,false]
theorem QH:P2=.seq Ue (.seq Uf (.seq (.seq Ug (.block 0 (.rangeFunc (.tmp 6) #[7] (OV OU) (OW OU)))) (.seq Ts .ret))):=by kernel_rfl
def nf(s:List ag)(x:aa):Option (Bool×List ag):=if(x.Op==3)=true then(app s [x.Name]).bind fun l=>some (true,l)else some (true,s)
def mt(p:aa):Option (List ag):=(GQ nf p []).bind fun q=>(kF q.2 []).bind fun r=>some r
abbrev OR(s:List ag):List ax:=[.dead,.cells [sl cS s] [(0,9)]]
abbrev TA(s:List ag):av:=aN 18 [(3,.bptr 1 0)] (OR s) []
theorem U5(p:aa):aB Pg GE 0 Ue (EX .normal (aN 18 [(1,.eptr (ac p))] [.dead] [])) (aN 18 [(0,.agg (ac p))] [] []):=by
 have z:=se (bM p)<|eF .normal (aN 18 [(1,.eptr (ac p))] [.dead] [])
 exact dU (A:=[]) mixed z (by kernel_rfl)
theorem U6(p:aa):aB Pg GE 0 Uf (EX .normal (aN 18 [(1,.eptr (ac p)),(3,.bptr 1 0)] (OR []) [])) (aN 18 [(1,.eptr (ac p))] [.dead] []):=by
 have z:=sx (show iV Pg 24=some [sl cS ([]:List ag)] by kernel_rfl)<|eF .normal (aN 18 [(1,.eptr (ac p)),(3,.bptr 1 0)] (OR []) [])
 exact dU (A:=[]) mixed z (by kernel_rfl)
abbrev stR(p:aa):av:=aN 18 [(3,.bptr 1 0),(6,.func (.func fW) [] [.eptr (ac p)])] (OR []) []
theorem U7(p:aa):aB Pg GE 0 Ug (EX .normal (stR p)) (aN 18 [(1,.eptr (ac p)),(3,.bptr 1 0)] (OR []) []):=by
 have z:=sv (az p)<|ba (GY p)<|eF .normal (stR p)
 exact dU (A:=[]) mixed z (by kernel_rfl)
abbrev TB(s:List ag)(x:aa):av:=aN 18 [(3,.bptr 1 0),(4,.bptr 2 0)] (OR s++[.cells (IU x) []]) []
theorem U8(s:List ag)(x:aa):aB Pg GE 2 (OV OU) (EX .normal (TB s x)) (aN 18 [(3,.bptr 1 0),(7,.agg (ac x))] (OR s) []):=by
 have z:=sx eX<|sx (bv x)<|eF .normal (TB s x)
 exact dU (A:=[]) mixed z (by kernel_rfl)
abbrev TC(r:List ag):av:=aN 18 [(3,.bptr 1 0)] (OR r++[.dead]) []
theorem U9(s:List ag)(x:aa){r:Bool×List ag}(h:nf s x=some r):r.1=true/\aB Pg GE 2 (OW OU) (EX .normal (TC r.2)) (TB s x):=by
 unfold nf at h
 rcases aT h with⟨c1,h⟩|⟨c1,h⟩
 ·obtain⟨l,bl,h⟩:=aw h
  cases h
  refine⟨rfl,?_⟩
  have z:=ss<|sg 0 c1<|ss<|sv (aW.mk' (v:=PVal.str) CE ([x.Name]:List ag) 1 (by kernel_rfl))<|sv (aW.ap bl)<|eF .normal (TC l)
  exact dU (A:=[11]) mixed z (by kernel_rfl)
 ·cases h
  refine⟨rfl,?_⟩
  have z:=ss<|sg 0 c1<|eF .normal (TC s)
  exact dU (A:=[11]) mixed z (by kernel_rfl)
abbrev TD(r:List ag):av:=aN 18 [(2,sl cS r)] [.dead,.dead] [((2,0),9)]
theorem Va(s:List ag){r:List ag}(h:kF s []=some r):aB Pg GE 2 (.seq Ts .ret) (EX .ret (TD r)) (TA s):=by
 have z:=sv (show ch Pg 24 [sl cS s]=some (sl cS s) by kernel_rfl)<|ba (vC h)<|eF .ret (TD r)
 exact dU (A:=[]) mixed z (by kernel_rfl)
abbrev y8(fn:FuncId)(a:Array Value)(D:Nat):Loop:={state:=.ready,pending:=none,fn:=fn,tmps:=a,params:=#[7],assign:=OV OU,body:=OW OU,defers:=D}
def JF(Γe:aO)(we:World)(bs:bg)(a:Array Value)(fn:FuncId)(l D:Nat)(b:Bool)(s:List ag)(Γ:aO)(w:World):Prop:=
 b=true/\∃ow,SR Pg (DN GE Γe we) Γ bs ow w a (TA s)/\¬bu bs ow l/\¬bu bs ow D/\w.heap[l]? =some (.loop (y8 fn a D))/\w.heap[D]? =some (.deferred (some []))
theorem cx{w:World}{b:Nat}{o:Obj}(h:w.heap[b]? =some o):b<w.heap.size:=(vao.1 h).1
theorem RF{Γe:aO}{we:World}{bs:bg}{a:Array Value}{fn:FuncId}{l D:Nat}(hl:we.heap.size<=l)(hD:we.heap.size<=D)(hne:D≠l)(hb:bs.length=2):Yd Pg GE l ac nf (JF Γe we bs a fn l D) where
 base:=fun b s Γ w ⟨_,ow,h,_⟩=>h.base
 side:=fun b s Γ w ⟨h0,ow,h,hTl,hTD,hhl,hhD⟩ Γ' bs' ow' w' a' st' h'=>
  ⟨h0,ow,h.aside h',hTl,hTD,(h'.step.keep l (cx hhl) id).1.trans hhl,(h'.step.keep D (cx hhD) id).1.trans hhD⟩
 yield:=fun s Γ w x v n r ⟨h0,ow,h,hTl,hTD,hhl,hhD⟩ hv hr=>by
  obtain⟨hr1,hS4⟩:=U9 s x hr
  refine⟨_,_,_,_,run_yield hhl rfl,?_⟩
  have hz:(((#[7]:Array Tmp).zip #[v]).foldl (fun tmps (t,a)=>tmps.setIfInBounds t a) a)=a.setIfInBounds 7 v:=by simp
  show RoundIn Fence.wide n Pg l fn (((#[7]:Array Tmp).zip #[v]).foldl (fun tmps (t,a)=>tmps.setIfInBounds t a) a) (OV OU) (OW OU) w _
  rw[hz]
  have h7:SR Pg (DN GE Γe we) Γ bs ow w (a.setIfInBounds 7 v) (aN 18 [(3,.bptr 1 0),(7,.agg (ac x))] (OR s) []):=h.set (d:=7) (p:=.agg (ac x)) (hv.mono (.refl _ _) (fun i b hi=>by simp at hi))
  refine roundIn_of_wpIn trivial (wpIn_mono (aB.on (U8 s x) (by decide) h7 (by rw[hb];decide) (some l) [] n) ?_)
  rintro e ⟨a1,ds1⟩ w1 ⟨rfl,Γ1,bs1,ow1,st1,h1,⟨rfl,rfl⟩,hbs1,hle1,hsz1,hk1⟩
  obtain⟨k1,t1⟩:=hk1 l (cx hhl) hTl
  obtain⟨k1D,t1D⟩:=hk1 D (cx hhD) hTD
  have hl1:=k1.trans hhl
  refine⟨_,run_beginRound hl1 rfl,?_⟩
  obtain⟨h1',hle1'⟩:=h1.putOther (l:=l) (o:=.loop {y8 fn a D with state:=.busy}) t1 (.inr hl) (fun c t fr e=>by rw[hl1]at e;cases e)
  have hb1:2<=bs1.length:=by have:=h1.bl;rw[this];exact vcz rfl
  refine wpIn_mono (aB.on hS4 (by decide) h1' hb1 (some l) [] n) ?_
  rintro e ⟨a2,ds2⟩ w2 ⟨rfl,Γ2,bs2,ow2,st2,h2,⟨rfl,rfl⟩,hbs2,hle2,hsz2,hk2⟩
  have hl1':(w1.putObj l (.loop {y8 fn a D with state:=.busy})).heap[l]? =some (.loop {y8 fn a D with state:=.busy}):=World.putObj_heap_same (cx hl1)
  have hD1':(w1.putObj l (.loop {y8 fn a D with state:=.busy})).heap[D]? =some (.deferred (some [])):=(World.putObj_heap_other hne).trans (k1D.trans hhD)
  obtain⟨k2,t2⟩:=hk2 l (cx hl1') t1
  obtain⟨k2D,t2D⟩:=hk2 D (cx hD1') t1D
  have hl2:=k2.trans hl1'
  refine⟨_,_,run_endRound none hl2,?_⟩
  obtain⟨h3,hle3⟩:=h2.putOther (l:=l) (o:=.loop {{y8 fn a D with state:=.busy}with state:=if(none:Option Code).isNone then .ready else .done,pending:=none}) t2 (.inr hl) (fun c t fr e=>by rw[hl2]at e;cases e)
  have hle:Γ.Le w Γ2 (w2.putObj l (.loop {{y8 fn a D with state:=.busy}with state:=if(none:Option Code).isNone then .ready else .done,pending:=none})):=((hle1.trans hle1').trans hle2).trans hle3
  obtain⟨ow3,h4,hT4⟩:=h.back rfl h3 hle (H':=OR r.2) (fun i hi=>(hbs2 i (by omega)).trans (hbs1 i (by omega))) (by
   refine⟨trivial,⟨rfl,aI (up (am dS r.2)) trivial,fun x hx=>hx⟩,trivial⟩) hb.symm
  refine⟨Γ2,by rw[hr1];rfl,hle,hr1,ow3,h4,fun hx=>t2 (hT4 l hx),fun hx=>t2D (hT4 D hx),?_,?_⟩
  ·exact World.putObj_heap_same (cx hl2)
  ·exact(World.putObj_heap_other hne).trans (k2D.trans hD1')
theorem Aq{p:aa}{r:List ag}(h:mt p=some r):CC Pg GE UZ [.agg (ac p)] (sl cS r) [(0,9)]:=by
 obtain⟨q,hq,h⟩:=aw h
 obtain⟨r',hu,h⟩:=aw h
 cases h
 refine⟨aI (ah p) trivial,Tryz.call64,fun Γ bs ow w vs hS=>(callsIn_wide (n:=0)).1 (callsIn_of_wp_marks Tryz.func64 (c:=P2) rfl trivial ?_)⟩
 obtain rfl:bs=[]:=vam hS.bl
 obtain⟨v,rfl⟩:∃v,vs=#[v]:=vbH.1 hS.sz
 have hB:F9 GE Γ w:=hS.base
 have hE:xg GE 0 (DN GE Γ w):=hB.good
 have hvr:VR Γ [] w (.agg (ac p)) v:=hS.tm 0 _ _ rfl rfl
 have h0:SR Pg (DN GE Γ w) Γ [] (fun _=>none) w (#[v]++Array.replicate 17 undef) (aN 18 [(0,.agg (ac p))] [] []):=by
  refine hB.fresh (a:=#[v]++Array.replicate 17 undef) 0 (tmps:=[.agg (ac p)]++List.replicate 17 .undef) (by simp) fun t q u hq hu=>?_
  by_cases ht:t<1
  ·rw[vac (by simpa using ht)]at hq
   rw[vaH (by simpa using ht)]at hu
   match t,ht with
   |0,_=>simp at hq hu;subst hq;subst hu;exact hvr
  ·rw[vad (by show 1<=t;omega),vaL]at hq
   split at hq<;>cases hq
   exact .undef u
 show P2.wpIn Fence.wide 0 Pg _ ⟨#[v]++Array.replicate 17 undef,[]⟩ w
 rw[QH]
 refine wpIn_seq (wpIn_mono (aB.wideE (U5 p) hE h0 0 []) ?_)
 rintro e ⟨a1,ds1⟩ w1 ⟨rfl,Γ1,bs1,ow1,st1,h1,rfl,rfl⟩
 refine wpIn_seq (wpIn_mono (aB.wideE (U6 p) hE h1 0 []) ?_)
 rintro e ⟨a2,ds2⟩ w2 ⟨rfl,Γ2,bs2,ow2,st2,h2,rfl,rfl⟩
 refine wpIn_seq (wpIn_seq (wpIn_mono (aB.wideE (U7 p) hE h2 0 []) ?_))
 rintro e ⟨a3,ds3⟩ w3 ⟨rfl,Γ3,bs3,ow3,st3,h3,rfl,rfl⟩
 have h6:=h3.opv [] (.tmp 6)
 have e6:opv (DN GE Γ w).GE (stR p).tmps (.tmp 6)=.func (.func fW) [] [.eptr (ac p)]:=rfl
 rw[e6]at h6
 have hbl:bs3.length=2:=h3.bl
 refine wpIn_block (wpIn_rangeFunc fun fn _=>?_)
 obtain⟨g1,l1⟩:=h3.allocO (.deferred (some []))
 obtain⟨g2,l2⟩:=g1.allocO (.loop (y8 fn a3 w3.heap.size))
 have gF:=g2.forgetT (tm:=(TA []).tmps) rfl
 have hsz3:w.heap.size<=w3.heap.size:=h3.step.size
 have htl:∀b,w3.heap.size<=b->¬bu bs3 ow3 b:=fun b hb hx=>by
  rcases hx with⟨i,hi⟩|hx
  ·have hil:i<(stR p).boxes.length:=by rw[<-h3.bl];exact ak hi
   have:=(h3.bx i b _ hi (vab hil)).2.1
   omega
  ·cases hL:ow3 b with
   |none=>exact hx hL
   |some L=>have:=(h3.on b L hL).1;omega
 generalize hvf:(Act.mk a3 []).eval (.tmp 6)=vf at h6
 cases h6 with
 |func _ _ _ fs cs hl1 hl2 hf hc=>
 obtain rfl:fs=#[]:=vaY hl1
 obtain⟨cv,rfl⟩:∃v,cs=#[v]:=vbH.1 hl2
 have hcv:VR Γ3 bs3 w3 (.eptr (ac p)) cv:=hc 0 _ _ rfl rfl
 have hJ:JF Γ w bs3 a3 fn (w3.heap.size+1) w3.heap.size true [] Γ3 ((w3.alloc (.deferred (some []))).alloc (.loop (y8 fn a3 w3.heap.size))):=by
  refine⟨rfl,ow3,gF,htl _ (by omega),htl _ (var _),?_,?_⟩
  ·have:=World.alloc_heap_new (w3.alloc (.deferred (some []))) (.loop (y8 fn a3 w3.heap.size))
   rwa[World.size_alloc]at this
  ·rw[da _ _ (by rw[World.size_alloc];omega)]
   exact World.alloc_heap_new w3 _
 have hY:=RF (Γe:=Γ) (we:=w) (bs:=bs3) (a:=a3) (fn:=fn) (l:=w3.heap.size+1) (D:=w3.heap.size) (by omega) hsz3 (by omega) hbl
 refine⟨_,_,_,{target:=.fn (.func fW) #[cv],args:=#[.func (.yield (w3.heap.size+1)) #[] #[]]},(w3.alloc (.deferred (some []))).alloc (.loop (y8 fn a3 w3.heap.size)),fW,#[.func (.yield (w3.heap.size+1)) #[] #[],cv],(w3.alloc (.deferred (some []))).alloc (.loop (y8 fn a3 w3.heap.size)),run_enterLoop_outer fn a3 #[7] (OV OU) (OW OU),?_,fun _ _=>trivial,?_,fun hx=>by simp[Fence.wide]at hx,?_⟩
 ·have hvf':(Act.mk a3 []).eval (.tmp 6)=.func (.func fW) #[] #[cv]:=hvf
  simp only[resolve,hvf',Deferred.ofValue]
  simp[Act.eval]
 ·simp[invoke,Tryz.call129]
 ·refine(Nv hY p (n:=0 - 1) hq hJ (((hcv.mono l1 (.refl _)).mono l2 (.refl _)).clo (show iB 0 (ac p)from ah p))).mono ?_
  rintro e w4 ⟨⟨u,rfl⟩,Γ4,hle4,hq1,ow4,h4,tl4,tD4,hl4,hD4⟩
  refine⟨none,_,run_endLoop hl4 (by simp),?_⟩
  obtain⟨h5,hle5⟩:=h4.putOther (l:=w3.heap.size+1) (o:=.loop {y8 fn a3 w3.heap.size with state:=.exhausted}) tl4 (.inr (show w.heap.size<=_ by omega)) (fun c t fr e=>by rw[hl4]at e;cases e)
  have hD5:(w4.putObj (w3.heap.size+1) (.loop {y8 fn a3 w3.heap.size with state:=.exhausted})).heap[w3.heap.size]? =some (.deferred (some [])):=(World.putObj_heap_other (by omega)).trans hD4
  generalize w4.putObj (w3.heap.size+1) (.loop {y8 fn a3 w3.heap.size with state:=.exhausted})=w5 at h5 hle5 hD5
  show(Code.seq Ts .ret).wpIn Fence.wide 0 Pg _ ⟨a3,[{target:=.collected w3.heap.size,args:=#[]}]⟩ w5
  refine wpIn_mono (wpIn_wide.2 (aB.on (Va q.2 hu) (by decide) h5 (by rw[hbl];decide) none [{target:=.collected w3.heap.size,args:=#[]}])) ?_
  rintro e ⟨a6,ds6⟩ w6 ⟨rfl,Γ6,bs6,ow6,st6,h6,⟨rfl,rfl⟩,hbs6,hle6,hsz6,hk6⟩
  obtain⟨k6,t6⟩:=hk6 _ (cx hD5) tD4
  have hD6:=k6.trans hD5
  obtain⟨h7,hle7⟩:=h6.putOther (l:=w3.heap.size) (o:=.deferred none) t6 (.inr hsz3) (fun c t fr e=>by rw[hD6]at e;cases e)
  refine⟨by simp,.inl ⟨w3.heap.size,_,rfl,run_takeDeferred hD6,?_⟩⟩
  have hS7:SR Pg ⟨GE,Γ,w,bu [] ow⟩ Γ6 bs6 ow6 (w6.putObj w3.heap.size (.deferred none)) a6 (TD r):={h7 with
   bn:=fun i b hb=>(h7.bn i b hb).elim False.elim .inr
   on:=fun b L hL=>⟨(h7.on b L hL).1,(h7.on b L hL).2.elim False.elim .inr⟩
   gx:=hS.gx
   step:={h7.step with keep:=fun b hb _=>h7.step.keep b hb (fun hx=>hx)}}
  obtain⟨vr,e1,e2,e3⟩:=nl hS7 (fn:=Tryz.f64) (r:=sl cS r) (by kernel_rfl)
  refine⟨vr,e1,vr,Γ6,vp (cZ Tryz.f64.results.toList) [(0,9)] ow6,rfl,?_⟩
  have hrs:Tryz.f64.results.toList=[.tmp 2]:=by kernel_rfl
  have hf:=hS7.finish (H':=[]) (src:=cZ Tryz.f64.results.toList) (ro:=[(0,9)]) e2 (am dS r) trivial (fun x hx=>by
   simp only[vaV]at hx
   subst hx
   refine⟨?_,fun u v'=>e3 0 u v' ?_⟩
   ·rw[hrs];exact vaV.2 rfl
   ·rw[hrs];trivial) (fun x hx y hy _=>by
   simp only[vaV]at hx hy
   rw[hx,hy])
  simpa using hf
theorem G4:ma Pg 72 9:=Mf Tryz.lc72 rfl rfl (by kernel_rfl) Tryz.call72
theorem KA{l r:List ag}(h:vj l=some r):CC Pg GE 72 [sl cS l] (sl cS r) [(0,9)]:=aW.cloneCC G4 h
abbrev rx:=(waC->Option Bool)
abbrev wk(R:rx):Prop:=∀(a:waC) (r:Bool),R a=some r->CC Pg GE 8 [sl af a] (.bool r) []
abbrev qa:=(ae->Option Int)
abbrev uF(R:qa):Prop:=∀(t:ae) (r:Int),R t=some r->CC Pg GE 42 [.agg (af t)] (.int .i64 r) []
def S7:Code:=Tryz.f42.body.getD .skip
def SQ:List Nat:=[18]
section
variable(R3:qa)(t7:waC)(t8:Int)(k:Int)(t9:Int)
def iL:av:=aN 19 [(3,.int .i64 k),(7,sl af t7),(8,.int .i64 t8),(9,.int .i64 t9)] [.dead] []
def oY(o:Int):av:=aN 19 [(3,.int .i64 o)] [.dead] []
def va:Option ((Int×Int)⊕(Int)):=
 if(decide (t9<t8))=true then
  (dv t7 t9).bind fun x2=>
  (R3 x2).bind fun r3=>
  some (.inl (bA (k+r3),bA (t9+1)))
 else
  some (.inr k)
def tf:Option Int:=loop (fun(zz:Int×Int)=>va R3 t7 t8 zz.1 zz.2) (k,t9)
theorem Bp(hR3:uF R3){y:(Int×Int)⊕(Int)}(h:va R3 t7 t8 k t9=some y):
  aB Pg GE 0 (cA S7 119) (LQ (fun(zz:Int×Int)=>iL t7 t8 zz.1 zz.2) (fun _=>.exit 0) oY y) (iL t7 t8 k t9):=by
 rcases aT h with⟨c1,h⟩|⟨c1,h⟩
 ·obtain⟨x2,bx2,h⟩:=aw h
  obtain⟨r3,br3,h⟩:=aw h
  obtain rfl:=lf h
  have z:=sg 0 c1<|sv (d5.ia (k:=.i64) bx2)<|sv (bh x2)<|sx jh<|sx (db x2)<|sv (bz x2 [])<|ba (hR3 _ _ br3)<|pg 0 .normal (iL t7 t8 (bA (k+r3)) (bA (t9+1))) rfl (cF (aI trivial (aI (up (am al t7)) (aI trivial (aI trivial trivial))))) (aI trivial trivial)
  exact cz (A:=SQ) mixed z (by kernel_rfl)
 ·obtain rfl:=lf h
  have z:=sg 0 c1<|eF (.exit 0) (oY k)
  exact gf SQ (by intro hx;cases hx) z (by kernel_rfl)
theorem Db(hR3:uF R3){x:Int}(h:tf R3 t7 t8 k t9=some x):
  aB Pg GE 0 (.loop (cA S7 119)) (EX (.exit 0) (oY x)) (iL t7 t8 k t9):=
 aB.loop (S:=fun(zz:Int×Int)=>iL t7 t8 zz.1 zz.2) (ex:=(fun _=>.exit 0)) (s:=(k,t9)) h fun zz y hy=>Bp R3 t7 t8 zz.1 zz.2 hR3 hy
end
def qb(R3:qa)(t:ae):Option Int:=
 (tf R3 t.Args (t.Args.length:Int) 1 0).bind fun o4=>
 some o4
theorem Gn(R3:qa)(hR3:uF R3){t:ae}{r:Int}(h:qb R3 t=some r):CC Pg GE 42 [.agg (af t)] (.int .i64 r) []:=by
 obtain⟨o4,bo4,h⟩:=aw h
 obtain rfl:=lf h
 have z:=se (bQ t)<|sv (aK t)<|sv (aL t)<|cD (d5.ln t.Args)<|cC (Db R3 t.Args (t.Args.length:Int) 1 0 hR3 bo4)<|en (aI (rP (.int .i64 o4))<|trivial)
 exact b7 SQ Tryz.call42 Tryz.func42 (c:=S7) rfl (aI (al t) trivial) z (by kernel_rfl)
def u9:(ae->Option Int)->(ae)->Option Int:=fun(rec:ae->Option Int) (x:ae)=>qb (fun t=>rec t) x
def Bo(t:ae):Option Int:=nw u9 t
theorem HT{t:ae}{r:Int}(h:Bo t=some r):CC Pg GE 42 [.agg (af t)] (.int .i64 r) []:=
 cT (F:=u9) (M:=fun(x:ae) (r:Int)=>CC Pg GE 42 [.agg (af x)] (.int .i64 r) []) (fun rec hrec x r h=>Gn _ (fun t r h=>hrec t r h) h) h
abbrev pZ:=(aa->Option Int)
abbrev uE(R:pZ):Prop:=∀(p:aa) (r:Int),R p=some r->CC Pg GE 17 [.agg (ac p)] (.int .i64 r) []
def S5:Code:=Tryz.f17.body.getD .skip
def SP:List Nat:=[18]
section
variable(R4:pZ)(t7:waB)(t8:Int)(n:Int)(t9:Int)
def iG:av:=aN 19 [(3,.int .i64 n),(7,sl ac t7),(8,.int .i64 t8),(9,.int .i64 t9)] [.dead] []
def oP(o:Int):av:=aN 19 [(3,.int .i64 o)] [.dead] []
def kU:Option ((Int×Int)⊕(Int)):=
 if(decide (t9<t8))=true then
  (dv t7 t9).bind fun x2=>
  (R4 x2).bind fun r3=>
  some (.inl (bA (n+r3),bA (t9+1)))
 else
  some (.inr n)
def sU:Option Int:=loop (fun(zz:Int×Int)=>kU R4 t7 t8 zz.1 zz.2) (n,t9)
theorem Bj(hR4:uE R4){y:(Int×Int)⊕(Int)}(h:kU R4 t7 t8 n t9=some y):
  aB Pg GE 0 (cA S5 119) (LQ (fun(zz:Int×Int)=>iG t7 t8 zz.1 zz.2) (fun _=>.exit 0) oP y) (iG t7 t8 n t9):=by
 rcases aT h with⟨c1,h⟩|⟨c1,h⟩
 ·obtain⟨x2,bx2,h⟩:=aw h
  obtain⟨r3,br3,h⟩:=aw h
  obtain rfl:=lf h
  have z:=sg 0 c1<|sv (aR.ia (k:=.i64) bx2)<|sv (az x2)<|sx eX<|sx (bv x2)<|sv (aX x2 [])<|ba (hR4 _ _ br3)<|pg 0 .normal (iG t7 t8 (bA (n+r3)) (bA (t9+1))) rfl (cF (aI trivial (aI (up (am ah t7)) (aI trivial (aI trivial trivial))))) (aI trivial trivial)
  exact cz (A:=SP) mixed z (by kernel_rfl)
 ·obtain rfl:=lf h
  have z:=sg 0 c1<|eF (.exit 0) (oP n)
  exact gf SP (by intro hx;cases hx) z (by kernel_rfl)
theorem C2(hR4:uE R4){x:Int}(h:sU R4 t7 t8 n t9=some x):
  aB Pg GE 0 (.loop (cA S5 119)) (EX (.exit 0) (oP x)) (iG t7 t8 n t9):=
 aB.loop (S:=fun(zz:Int×Int)=>iG t7 t8 zz.1 zz.2) (ex:=(fun _=>.exit 0)) (s:=(n,t9)) h fun zz y hy=>Bj R4 t7 t8 zz.1 zz.2 hR4 hy
end
def pW(R4:pZ)(p:aa):Option Int:=
 (sU R4 p.Kids (p.Kids.length:Int) 1 0).bind fun o4=>
 some o4
theorem Gh(R4:pZ)(hR4:uE R4){p:aa}{r:Int}(h:pW R4 p=some r):CC Pg GE 17 [.agg (ac p)] (.int .i64 r) []:=by
 obtain⟨o4,bo4,h⟩:=aw h
 obtain rfl:=lf h
 have z:=se (bM p)<|sv (aF p)<|sv (aH p)<|cD (aR.ln p.Kids)<|cC (C2 R4 p.Kids (p.Kids.length:Int) 1 0 hR4 bo4)<|en (aI (rP (.int .i64 o4))<|trivial)
 exact b7 SP Tryz.call17 Tryz.func17 (c:=S5) rfl (aI (ah p) trivial) z (by kernel_rfl)
def uO:(aa->Option Int)->(aa)->Option Int:=fun(rec:aa->Option Int) (x:aa)=>pW (fun p=>rec p) x
def rr(p:aa):Option Int:=nw uO p
theorem sV{p:aa}{r:Int}(h:rr p=some r):CC Pg GE 17 [.agg (ac p)] (.int .i64 r) []:=
 cT (F:=uO) (M:=fun(x:aa) (r:Int)=>CC Pg GE 17 [.agg (ac x)] (.int .i64 r) []) (fun rec hrec x r h=>Gh _ (fun p r h=>hrec p r h) h) h
def b8:Code:=Tryz.f8.body.getD .skip
def A8:List Nat:=[]
section
variable(R2:rx)(t7:waC)(t8:Int)(t9:Int)(m:Int)(m2:ag)(m3:waC)(m4:waA)(m5:Int)(m6:ag)(m7:Int)(m8:waB)(m9:waB)
def HV:av:=aN 52 [(4,.bptr 0 0),(7,sl af t7),(8,.int .i64 t8),(9,.int .i64 t9)] [.cells [.int .i64 m,.str m2,sl af m3,sl cS m4,.int .i64 m5,.str m6,.int .i64 m7,sl ac m8,sl ac m9] []] []
def ja(o:Bool):av:=aN 52 [(4,.bptr 0 0),(7,sl af t7),(8,.int .i64 t8),(9,.int .i64 t9),(39,.bool o)] [.cells [.int .i64 m,.str m2,sl af m3,sl cS m4,.int .i64 m5,.str m6,.int .i64 m7,sl ac m8,sl ac m9] []] []
def yB:Option Bool:=
 (Bo (⟨m,m2,m3,m4,(⟨m5,m6,m7,m8⟩:aa),m9⟩:ae)).bind fun r3=>
 if(decide (r3>40))=true then
  some true
 else
  (rr (⟨m5,m6,m7,m8⟩:aa)).bind fun r6=>
  if(decide (r6>60))=true then
   some true
  else
   if(decide ((m4.length:Int)>20))=true then
    some true
   else
    if(decide ((m9.length:Int)>20))=true then
     some true
    else
     (R2 m3).bind fun r13=>
     some (!r13)
theorem Gp(hR2:wk R2){x:Bool}(h:yB R2 m m2 m3 m4 m5 m6 m7 m8 m9=some x):
  aB Pg GE 0 (cA b8 7148) (EX .normal (ja t7 t8 t9 m m2 m3 m4 m5 m6 m7 m8 m9 x)) (HV t7 t8 t9 m m2 m3 m4 m5 m6 m7 m8 m9):=by
 obtain⟨r3,br3,h⟩:=aw h
 have p5:=fun{sc F} (r:PS sc F)=>sv (bz (⟨m,m2,m3,m4,(⟨m5,m6,m7,m8⟩:aa),m9⟩:ae) [])<|ba (HT br3)<|r
 rcases aT h with⟨c4,h⟩|⟨c4,h⟩
 ·obtain rfl:=lf h
  exact co A8 (p5<|sg 4 c4<|eF .normal (ja t7 t8 t9 m m2 m3 m4 m5 m6 m7 m8 m9 true)) (by kernel_rfl)
 ·obtain⟨r6,br6,h⟩:=aw h
  have p8:=fun{sc F} (r:PS sc F)=>p5<|sg 4 c4<|sv (aX (⟨m5,m6,m7,m8⟩:aa) [sl ac m9])<|ba (sV br6)<|r
  rcases aT h with⟨c7,h⟩|⟨c7,h⟩
  ·obtain rfl:=lf h
   exact co A8 (p8<|sg 10 c7<|eF .normal (ja t7 t8 t9 m m2 m3 m4 m5 m6 m7 m8 m9 true)) (by kernel_rfl)
  ·have p10:=fun{sc F} (r:PS sc F)=>p8<|sg 10 c7<|ss<|cD (aW.ln m4)<|r
   rcases aT h with⟨c9,h⟩|⟨c9,h⟩
   ·obtain rfl:=lf h
    exact co A8 (p10<|sg 16 c9<|eF .normal (ja t7 t8 t9 m m2 m3 m4 m5 m6 m7 m8 m9 true)) (by kernel_rfl)
   ·have p12:=fun{sc F} (r:PS sc F)=>p10<|sg 16 c9<|ss<|cD (aR.ln m9)<|r
    rcases aT h with⟨c11,h⟩|⟨c11,h⟩
    ·obtain rfl:=lf h
     exact co A8 (p12<|sg 22 c11<|eF .normal (ja t7 t8 t9 m m2 m3 m4 m5 m6 m7 m8 m9 true)) (by kernel_rfl)
    ·obtain⟨r13,br13,h⟩:=aw h
     obtain rfl:=lf h
     exact co A8 (p12<|sg 22 c11<|ss<|ba (hR2 _ _ br13)<|eF .normal (ja t7 t8 t9 m m2 m3 m4 m5 m6 m7 m8 m9 (!r13))) (by kernel_rfl)
end
section
variable(t7:waC)(t8:Int)(t9:Int)(t41:waB)(t42:Int)(m:Int)(m2:ag)(m3:waC)(m4:waA)(m5:Int)(m6:ag)(m7:Int)(m8:waB)(t43:Int)
def lj:av:=aN 52 [(7,sl af t7),(8,.int .i64 t8),(9,.int .i64 t9),(41,sl ac t41),(42,.int .i64 t42),(43,.int .i64 t43)] [.cells [.int .i64 m,.str m2,sl af m3,sl cS m4,.int .i64 m5,.str m6,.int .i64 m7,sl ac m8,sl ac t41] []] []
def lk(o:Unit⊕(Unit)):Exit:=match o with
 |(.inl _)=>.ret
 |(.inr _)=>.exit 2
def jc(o:Unit⊕(Unit)):av:=match o with
 |(.inl o)=>aN 52 [(2,.bool false)] [.cells [.int .i64 m,.str m2,sl af m3,sl cS m4,.int .i64 m5,.str m6,.int .i64 m7,sl ac m8,sl ac t41] []] []
 |(.inr o)=>aN 52 [(7,sl af t7),(8,.int .i64 t8),(9,.int .i64 t9)] [.cells [.int .i64 m,.str m2,sl af m3,sl cS m4,.int .i64 m5,.str m6,.int .i64 m7,sl ac m8,sl ac t41] []] []
def zF:Option (Int⊕(Unit⊕(Unit))):=
 if(decide (t43<t42))=true then
  (dv t41 t43).bind fun x18=>
  (rr x18).bind fun r19=>
  if(decide (r19>60))=true then
   some (.inr (.inl ()))
  else
   some (.inl (bA (t43+1)))
 else
  some (.inr (.inr ()))
def yD:Option (Unit⊕(Unit)):=loop (fun(zz:Int)=>zF t41 t42 zz) t43
theorem Ej{y:Int⊕(Unit⊕(Unit))}(h:zF t41 t42 t43=some y):
  aB Pg GE 0 (cA b8 28607) (LQ (fun(zz:Int)=>lj t7 t8 t9 t41 t42 m m2 m3 m4 m5 m6 m7 m8 zz) lk (jc t7 t8 t9 t41 m m2 m3 m4 m5 m6 m7 m8) y) (lj t7 t8 t9 t41 t42 m m2 m3 m4 m5 m6 m7 m8 t43):=by
 rcases aT h with⟨c17,h⟩|⟨c17,h⟩
 ·obtain⟨x18,bx18,h⟩:=aw h
  obtain⟨r19,br19,h⟩:=aw h
  have p21:=fun{sc F} (r:PS sc F)=>sg 0 c17<|sv (aR.ia (k:=.i64) bx18)<|sv (az x18)<|sx eX<|sx (bv x18)<|sv (aX x18 [])<|ba (sV br19)<|r
  rcases aT h with⟨c20,h⟩|⟨c20,h⟩
  ·obtain rfl:=lf h
   have z:=p21<|sg 0 c20<|pg 0 (lk (.inl ())) (jc t7 t8 t9 t41 m m2 m3 m4 m5 m6 m7 m8 (.inl ())) rfl (cF (aI trivial trivial)) (aI (aI trivial (aI trivial (aI (up (am al m3)) (aI (up (am dS m4)) (aI trivial (aI trivial (aI trivial (aI (up (am ah m8)) (aI (up (am ah t41)) trivial))))))))) trivial)
   exact tE (A:=A8) mixed (by intro hx;cases hx) z (by kernel_rfl)
  ·obtain rfl:=lf h
   have z:=p21<|sg 0 c20<|pg 0 .normal (lj t7 t8 t9 t41 t42 m m2 m3 m4 m5 m6 m7 m8 (bA (t43+1))) rfl (cF (aI (up (am al t7)) (aI trivial (aI trivial (aI (up (am ah t41)) (aI trivial (aI trivial trivial))))))) (aI (aI trivial (aI trivial (aI (up (am al m3)) (aI (up (am dS m4)) (aI trivial (aI trivial (aI trivial (aI (up (am ah m8)) (aI (up (am ah t41)) trivial))))))))) trivial)
   exact cz (A:=A8) mixed z (by kernel_rfl)
 ·obtain rfl:=lf h
  have z:=sg 0 c17<|eF (lk (.inr ())) (jc t7 t8 t9 t41 m m2 m3 m4 m5 m6 m7 m8 (.inr ()))
  exact gf A8 (by intro hx;cases hx) z (by kernel_rfl)
theorem xl{x:Unit⊕(Unit)}(h:yD t41 t42 t43=some x):
  aB Pg GE 0 (.loop (cA b8 28607)) (EX (lk x) (jc t7 t8 t9 t41 m m2 m3 m4 m5 m6 m7 m8 x)) (lj t7 t8 t9 t41 t42 m m2 m3 m4 m5 m6 m7 m8 t43):=
 aB.loop (S:=fun(zz:Int)=>lj t7 t8 t9 t41 t42 m m2 m3 m4 m5 m6 m7 m8 zz) (ex:=lk) (s:=t43) h fun zz y hy=>Ej t7 t8 t9 t41 t42 m m2 m3 m4 m5 m6 m7 m8 zz hy
end
section
variable(R2:rx)(t7:waC)(t8:Int)(t9:Int)
def li:av:=aN 52 [(7,sl af t7),(8,.int .i64 t8),(9,.int .i64 t9)] [] []
def jb(o:Unit⊕(Unit)):Exit:=match o with
 |(.inl _)=>.ret
 |(.inr _)=>.exit 0
def gu(o:Unit⊕(Unit)):av:=match o with
 |(.inl o)=>aN 52 [(2,.bool false)] [] []
 |(.inr o)=>aN 52 [] [] []
def zE:Option (Int⊕(Unit⊕(Unit))):=
 if (decide (t9 < t8)) = true then
  (dv t7 t9).bind fun x2=>
  (yB R2 x2.Op x2.Name x2.Args x2.Names x2.Pred.Op x2.Pred.Name x2.Pred.N x2.Pred.Kids x2.Preds).bind fun o14=>
  if o14=true then
   some (.inr (.inl ()))
  else
   (yD x2.Preds (x2.Preds.length:Int) 0).bind fun o22=>match o22 with
   |(.inl o22)=>
    some (.inr (.inl ()))
   |(.inr o22)=>
    some (.inl (bA (t9+1)))
 else
  some (.inr (.inr ()))
def yC:Option (Unit⊕(Unit)):=loop (fun(zz:Int)=>zE R2 t7 t8 zz) t9
theorem Ei(hR2:wk R2){y:Int⊕(Unit⊕(Unit))}(h:zE R2 t7 t8 t9=some y):
  aB Pg GE 0 (cA b8 55) (LQ (fun(zz:Int)=>li t7 t8 zz) jb gu y) (li t7 t8 t9):=by
 rcases aT h with⟨c1,h⟩|⟨c1,h⟩
 ·obtain⟨x2,bx2,h⟩:=aw h
  obtain⟨o14,bo14,h⟩:=aw h
  have p16:=fun{sc F} (r:PS sc F)=>sg 0 c1<|sv (d5.ia (k:=.i64) bx2)<|sv (bh x2)<|sx jh<|sx (db x2)<|kK 1<|cC (Gp R2 t7 t8 t9 x2.Op x2.Name x2.Args x2.Names x2.Pred.Op x2.Pred.Name x2.Pred.N x2.Pred.Kids x2.Preds hR2 bo14)<|r
  rcases aT h with⟨c15,h⟩|⟨c15,h⟩
  ·obtain rfl:=lf h
   have z:=p16<|sg 0 c15<|pg 0 (jb (.inl ())) (gu (.inl ())) rfl (cF (aI trivial trivial)) trivial
   exact tE (A:=A8) mixed (by intro hx;cases hx) z (by kernel_rfl)
  ·obtain⟨o22,bo22,h⟩:=aw h
   rcases o22 with o22|o22
   ·obtain rfl:=lf h
    have z:=p16<|sg 0 c15<|ss<|cD (aR.ln x2.Preds)<|cC (e:=.ret) (s1:=jc t7 t8 t9 x2.Preds x2.Op x2.Name x2.Args x2.Names x2.Pred.Op x2.Pred.Name x2.Pred.N x2.Pred.Kids (.inl o22)) (xl t7 t8 t9 x2.Preds (x2.Preds.length:Int) x2.Op x2.Name x2.Args x2.Names x2.Pred.Op x2.Pred.Name x2.Pred.N x2.Pred.Kids 0 bo22)<|pg 0 (jb (.inl ())) (gu (.inl ())) rfl (cF (aI trivial trivial)) trivial
    exact tE (A:=A8) mixed (by intro hx;cases hx) z (by kernel_rfl)
   ·obtain rfl:=lf h
    have z:=p16<|sg 0 c15<|ss<|cD (aR.ln x2.Preds)<|cC (e:=.exit 2) (s1:=jc t7 t8 t9 x2.Preds x2.Op x2.Name x2.Args x2.Names x2.Pred.Op x2.Pred.Name x2.Pred.N x2.Pred.Kids (.inr o22)) (xl t7 t8 t9 x2.Preds (x2.Preds.length:Int) x2.Op x2.Name x2.Args x2.Names x2.Pred.Op x2.Pred.Name x2.Pred.N x2.Pred.Kids 0 bo22)<|pg 0 .normal (li t7 t8 (bA (t9+1))) rfl (cF (aI (up (am al t7)) (aI trivial (aI trivial trivial)))) trivial
    exact cz (A:=A8) mixed z (by kernel_rfl)
 ·obtain rfl:=lf h
  have z:=sg 0 c1<|eF (jb (.inr ())) (gu (.inr ()))
  exact gf A8 (by intro hx;cases hx) z (by kernel_rfl)
theorem xk(hR2:wk R2){x:Unit⊕(Unit)}(h:yC R2 t7 t8 t9=some x):
  aB Pg GE 0 (.loop (cA b8 55)) (EX (jb x) (gu x)) (li t7 t8 t9):=
 aB.loop (S:=fun(zz:Int)=>li t7 t8 zz) (ex:=jb) (s:=t9) h fun zz y hy=>Ei R2 t7 t8 zz hR2 hy
end
def wr(R2:rx)(a:waC):Option Bool:=
 (yC R2 a (a.length:Int) 0).bind fun o23=>match o23 with
 |(.inl o23)=>
  some false
 |(.inr o23)=>
  some true
theorem I7(R2:rx)(hR2:wk R2){a:waC}{r:Bool}(h:wr R2 a=some r):CC Pg GE 8 [sl af a] (.bool r) []:=by
 obtain⟨o23,bo23,h⟩:=aw h
 rcases o23 with o23|o23
 ·obtain rfl:=lf h
  have z:=cD (d5.ln a)<|cC (e:=.ret) (s1:=gu (.inl o23)) (xk R2 a (a.length:Int) 0 hR2 bo23)<|en (aI (rP (.bool false))<|trivial)
  exact b7 A8 Tryz.call8 Tryz.func8 (c:=b8) rfl (aI (am al a) trivial) z (by kernel_rfl)
 ·obtain rfl:=lf h
  have z:=cD (d5.ln a)<|cC (e:=.exit 0) (s1:=gu (.inr o23)) (xk R2 a (a.length:Int) 0 hR2 bo23)<|en (aI (rP (.bool true))<|trivial)
  exact b7 A8 Tryz.call8 Tryz.func8 (c:=b8) rfl (aI (am al a) trivial) z (by kernel_rfl)
def Bq:(waC->Option Bool)->(waC)->Option Bool:=fun(rec:waC->Option Bool) (x:waC)=>wr (fun a=>rec a) x
def HU(a:waC):Option Bool:=nw Bq a
theorem Kl{a:waC}{r:Bool}(h:HU a=some r):CC Pg GE 8 [sl af a] (.bool r) []:=
 cT (F:=Bq) (M:=fun(x:waC) (r:Bool)=>CC Pg GE 8 [sl af x] (.bool r) []) (fun rec hrec x r h=>I7 _ (fun a r h=>hrec a r h) h) h
abbrev nU:=(ae->Option Bool)
abbrev sI(R:nU):Prop:=∀(t:ae) (r:Bool),R t=some r->CC Pg GE 9 [.agg (af t)] (.bool r) []
def b9:Code:=Tryz.f9.body.getD .skip
def A9:List Nat:=[23,27,46]
section
variable(t:ae)(i:Int)(t20:Int)(t25:Int)
def gC:av:=aN 55 [(1,.eptr (af t)),(3,.int .i64 i),(20,.int .i64 t20),(21,.int .i64 i),(24,.int .i64 i),(25,.int .i64 t25)] [.dead] []
def gD(o:Unit⊕(Unit)):Exit:=match o with
 |(.inl _)=>.ret
 |(.inr _)=>.exit 2
def ff(o:Unit⊕(Unit)):av:=match o with
 |(.inl o)=>aN 55 [(2,.bool false)] [.dead] []
 |(.inr o)=>aN 55 [(1,.eptr (af t)),(20,.int .i64 t20),(21,.int .i64 i)] [.dead] []
def j4:Option (Int⊕(Unit⊕(Unit))):=
 if(decide (t25<i))=true then
  (dv t.Names i).bind fun x7=>
  (dv t.Names t25).bind fun x8=>
  if(x7==x8)=true then
   some (.inr (.inl ()))
  else
   some (.inl (bA (t25+1)))
 else
  some (.inr (.inr ()))
def qV:Option (Unit⊕(Unit)):=loop (fun(zz:Int)=>j4 t i zz) t25
theorem zH{y:Int⊕(Unit⊕(Unit))}(h:j4 t i t25=some y):
  aB Pg GE 0 (cA b9 110559) (LQ (fun(zz:Int)=>gC t i t20 zz) gD (ff t i t20) y) (gC t i t20 t25):=by
 rcases aT h with⟨c6,h⟩|⟨c6,h⟩
 ·obtain⟨x7,bx7,h⟩:=aw h
  obtain⟨x8,bx8,h⟩:=aw h
  have p10:=fun{sc F} (r:PS sc F)=>sg 0 c6<|rp [0,1,0,7,15,0,32,0,224,480,1023]<|sv (aC t)<|sv (aD t)<|sv (aW.ia (k:=.i64) bx7)<|sv (cP xe (.str x7) [])<|sv (aC t)<|sv (aD t)<|sv (aW.ia (k:=.i64) bx8)<|sv (cP xe (.str x8) [])<|r
  rcases aT h with⟨c9,h⟩|⟨c9,h⟩
  ·obtain rfl:=lf h
   have z:=p10<|sg 0 c9<|eF (gD (.inl ())) (ff t i t20 (.inl ()))
   exact gf A9 (by intro hx;cases hx) z (by kernel_rfl)
  ·obtain rfl:=lf h
   exact rY A9 (p10<|sg 0 c9<|eF .normal (gC t i t20 (bA (t25+1)))) (by kernel_rfl)
 ·obtain rfl:=lf h
  have z:=sg 0 c6<|eF (gD (.inr ())) (ff t i t20 (.inr ()))
  exact gf A9 (by intro hx;cases hx) z (by kernel_rfl)
theorem rD{x:Unit⊕(Unit)}(h:qV t i t25=some x):
  aB Pg GE 0 (.loop (cA b9 110559)) (EX (gD x) (ff t i t20 x)) (gC t i t20 t25):=
 aB.loop (S:=fun(zz:Int)=>gC t i t20 zz) (ex:=gD) (s:=t25) h fun zz y hy=>zH t i t20 zz hy
end
section
variable(t:ae)(t20:Int)(t21:Int)
def gA:av:=aN 55 [(1,.eptr (af t)),(20,.int .i64 t20),(21,.int .i64 t21)] [.dead] []
def gB(o:Unit⊕(Unit)):Exit:=match o with
 |(.inl _)=>.ret
 |(.inr _)=>.exit 0
def fe(o:Unit⊕(Unit)):av:=match o with
 |(.inl o)=>aN 55 [(2,.bool false)] [.dead] []
 |(.inr o)=>aN 55 [(1,.eptr (af t))] [.dead] []
def j3:Option (Int⊕(Unit⊕(Unit))):=
 if(decide (t21<t20))=true then
  (qV t t21 0).bind fun o11=>match o11 with
  |(.inl o11)=>
   some (.inr (.inl ()))
  |(.inr o11)=>
   some (.inl (bA (t21+1)))
 else
  some (.inr (.inr ()))
def qU:Option (Unit⊕(Unit)):=loop (fun(zz:Int)=>j3 t t20 zz) t21
theorem zG{y:Int⊕(Unit⊕(Unit))}(h:j3 t t20 t21=some y):
  aB Pg GE 0 (cA b9 431) (LQ (fun(zz:Int)=>gA t t20 zz) gB (fe t) y) (gA t t20 t21):=by
 rcases aT h with⟨c5,h⟩|⟨c5,h⟩
 ·obtain⟨o11,bo11,h⟩:=aw h
  rcases o11 with o11|o11
  ·obtain rfl:=lf h
   have z:=sg 0 c5<|cC (e:=.ret) (s1:=ff t t21 t20 (.inl o11)) (rD t t21 t20 0 bo11)<|eF (gB (.inl ())) (fe t (.inl ()))
   exact gf A9 (by intro hx;cases hx) z (by kernel_rfl)
  ·obtain rfl:=lf h
   exact rY A9 (sg 0 c5<|cC (e:=.exit 2) (s1:=ff t t21 t20 (.inr o11)) (rD t t21 t20 0 bo11)<|eF .normal (gA t t20 (bA (t21+1)))) (by kernel_rfl)
 ·obtain rfl:=lf h
  have z:=sg 0 c5<|eF (gB (.inr ())) (fe t (.inr ()))
  exact gf A9 (by intro hx;cases hx) z (by kernel_rfl)
theorem rC{x:Unit⊕(Unit)}(h:qU t t20 t21=some x):
  aB Pg GE 0 (.loop (cA b9 431)) (EX (gB x) (fe t x)) (gA t t20 t21):=
 aB.loop (S:=fun(zz:Int)=>gA t t20 zz) (ex:=gB) (s:=t21) h fun zz y hy=>zG t t20 zz hy
end
section
variable(t:ae)
def Dc:av:=aN 55 [(1,.eptr (af t))] [.dead] []
def gz(o:Unit⊕(Unit)):Exit:=match o with
 |(.inl _)=>.ret
 |(.inr _)=>.normal
def dK(o:Unit⊕(Unit)):av:=match o with
 |(.inl o)=>aN 55 [(2,.bool false)] [.dead] []
 |(.inr o)=>aN 55 [(1,.eptr (af t))] [.dead] []
def qT:Option (Unit⊕(Unit)):=
 if (t.Op == 6) = true then
  if(decide ((t.Names.length:Int)>(if 0>(bA ((t.Args.length:Int) - 1))then 0 else bA ((t.Args.length:Int) - 1))))=true then
   some (.inl ())
  else
   (qU t (t.Names.length:Int) 0).bind fun o12=>match o12 with
   |(.inl o12)=>
    some (.inl ())
   |(.inr o12)=>
    some (.inr ())
 else
  some (.inr ())
theorem ml{x:Unit⊕(Unit)}(h:qT t=some x):
  aB Pg GE 0 (cA b9 6) (EX (gz x) (dK t x)) (Dc t):=by
 have p2:=fun{sc F} (r:PS sc F)=>sv (aG t)<|sv (aJ t)<|r
 rcases aT h with⟨c1,h⟩|⟨c1,h⟩
 ·have p4:=fun{sc F} (r:PS sc F)=>p2<|sg 0 c1<|sv (aC t)<|sv (aD t)<|cD (aW.ln t.Names)<|sv (aK t)<|sv (aL t)<|cD (d5.ln t.Args)<|r
  rcases aT h with⟨c3,h⟩|⟨c3,h⟩
  ·obtain rfl:=lf h
   exact co A9 (p4<|sg 0 c3<|eF (gz (.inl ())) (dK t (.inl ()))) (by kernel_rfl)
  ·obtain⟨o12,bo12,h⟩:=aw h
   rcases o12 with o12|o12
   ·obtain rfl:=lf h
    exact co A9 (p4<|sg 0 c3<|sv (aC t)<|sv (aD t)<|cD (aW.ln t.Names)<|cC (e:=.ret) (s1:=fe t (.inl o12)) (rC t (t.Names.length:Int) 0 bo12)<|eF (gz (.inl ())) (dK t (.inl ()))) (by kernel_rfl)
   ·obtain rfl:=lf h
    exact co A9 (p4<|sg 0 c3<|sv (aC t)<|sv (aD t)<|cD (aW.ln t.Names)<|cC (e:=.exit 0) (s1:=fe t (.inr o12)) (rC t (t.Names.length:Int) 0 bo12)<|eF (gz (.inr ())) (dK t (.inr ()))) (by kernel_rfl)
 ·obtain rfl:=lf h
  exact co A9 (p2<|sg 0 c1<|eF (gz (.inr ())) (dK t (.inr ()))) (by kernel_rfl)
end
section
variable(R5:nU)(t:ae)(t43:Int)(t44:Int)
def gE:av:=aN 55 [(1,.eptr (af t)),(43,.int .i64 t43),(44,.int .i64 t44)] [.dead] []
def gG(o:Unit⊕(Unit)):Exit:=match o with
 |(.inl _)=>.ret
 |(.inr _)=>.exit 4
def fg(o:Unit⊕(Unit)):av:=match o with
 |(.inl o)=>aN 55 [(2,.bool false)] [.dead] []
 |(.inr o)=>aN 55 [] [.dead] []
def j5:Option (Int⊕(Unit⊕(Unit))):=
 if(decide (t44<t43))=true then
  (dv t.Args t44).bind fun x15=>
  (R5 x15).bind fun r16=>
  if(!r16)=true then
   some (.inr (.inl ()))
  else
   some (.inl (bA (t44+1)))
 else
  some (.inr (.inr ()))
def qW:Option (Unit⊕(Unit)):=loop (fun(zz:Int)=>j5 R5 t t43 zz) t44
theorem zI(hR5:sI R5){y:Int⊕(Unit⊕(Unit))}(h:j5 R5 t t43 t44=some y):
  aB Pg GE 0 (cA b9 119) (LQ (fun(zz:Int)=>gE t t43 zz) gG fg y) (gE t t43 t44):=by
 rcases aT h with⟨c14,h⟩|⟨c14,h⟩
 ·obtain⟨x15,bx15,h⟩:=aw h
  obtain⟨r16,br16,h⟩:=aw h
  have p18:=fun{sc F} (r:PS sc F)=>sg 0 c14<|sv (aK t)<|sv (aL t)<|sv (d5.ia (k:=.i64) bx15)<|sv (bh x15)<|ba (hR5 _ _ br16)<|r
  rcases aT h with⟨c17,h⟩|⟨c17,h⟩
  ·obtain rfl:=lf h
   have z:=p18<|sg 0 c17<|eF (gG (.inl ())) (fg (.inl ()))
   exact gf A9 (by intro hx;cases hx) z (by kernel_rfl)
  ·obtain rfl:=lf h
   exact rY A9 (p18<|sg 0 c17<|eF .normal (gE t t43 (bA (t44+1)))) (by kernel_rfl)
 ·obtain rfl:=lf h
  have z:=sg 0 c14<|eF (gG (.inr ())) (fg (.inr ()))
  exact gf A9 (by intro hx;cases hx) z (by kernel_rfl)
theorem rE(hR5:sI R5){x:Unit⊕(Unit)}(h:qW R5 t t43 t44=some x):
  aB Pg GE 0 (.loop (cA b9 119)) (EX (gG x) (fg x)) (gE t t43 t44):=
 aB.loop (S:=fun(zz:Int)=>gE t t43 zz) (ex:=gG) (s:=t44) h fun zz y hy=>zI R5 t t43 zz hR5 hy
end
def nZ(R5:nU)(t:ae):Option Bool:=
 (qT t).bind fun o13=>match o13 with
 |(.inl o13)=>
  some false
 | (.inr o13) =>
  (qW R5 t (t.Args.length:Int) 0).bind fun o19=>match o19 with
  |(.inl o19)=>
   some false
  |(.inr o19)=>
   some true
theorem El(R5:nU)(hR5:sI R5){t:ae}{r:Bool}(h:nZ R5 t=some r):CC Pg GE 9 [.agg (af t)] (.bool r) []:=by
 obtain⟨o13,bo13,h⟩:=aw h
 rcases o13 with o13|o13
 ·obtain rfl:=lf h
  have z:=se (bQ t)<|kK 0<|cC (e:=.ret) (s1:=dK t (.inl o13)) (ml t bo13)<|en (aI (rP (.bool false))<|trivial)
  exact b7 A9 Tryz.call9 Tryz.func9 (c:=b9) rfl (aI (al t) trivial) z (by kernel_rfl)
 ·obtain⟨o19,bo19,h⟩:=aw h
  rcases o19 with o19|o19
  ·obtain rfl:=lf h
   have z:=se (bQ t)<|kK 0<|cC (e:=.normal) (s1:=dK t (.inr o13)) (ml t bo13)<|sv (aK t)<|sv (aL t)<|cD (d5.ln t.Args)<|cC (e:=.ret) (s1:=fg (.inl o19)) (rE R5 t (t.Args.length:Int) 0 hR5 bo19)<|en (aI (rP (.bool false))<|trivial)
   exact b7 A9 Tryz.call9 Tryz.func9 (c:=b9) rfl (aI (al t) trivial) z (by kernel_rfl)
  ·obtain rfl:=lf h
   have z:=se (bQ t)<|kK 0<|cC (e:=.normal) (s1:=dK t (.inr o13)) (ml t bo13)<|sv (aK t)<|sv (aL t)<|cD (d5.ln t.Args)<|cC (e:=.exit 4) (s1:=fg (.inr o19)) (rE R5 t (t.Args.length:Int) 0 hR5 bo19)<|en (aI (rP (.bool true))<|trivial)
   exact b7 A9 Tryz.call9 Tryz.func9 (c:=b9) rfl (aI (al t) trivial) z (by kernel_rfl)
def tg:(ae->Option Bool)->(ae)->Option Bool:=fun(rec:ae->Option Bool) (x:ae)=>nZ (fun t=>rec t) x
def yF(t:ae):Option Bool:=nw tg t
theorem Gq{t:ae}{r:Bool}(h:yF t=some r):CC Pg GE 9 [.agg (af t)] (.bool r) []:=
 cT (F:=tg) (M:=fun(x:ae) (r:Bool)=>CC Pg GE 9 [.agg (af x)] (.bool r) []) (fun rec hrec x r h=>El _ (fun t r h=>hrec t r h) h) h
def Sx:Code:=Tryz.f10.body.getD .skip
def Rm:List Nat:=[]
section
variable(v:waB)(t6:Int)(t7:Int)
def iM:av:=aN 18 [(0,sl ac v),(5,sl ac v),(6,.int .i64 t6),(7,.int .i64 t7)] [] []
def iN(o:Unit⊕(Unit)):Exit:=match o with
 |(.inl _)=>.ret
 |(.inr _)=>.exit 0
def fY(o:Unit⊕(Unit)):av:=match o with
 |(.inl o)=>aN 18 [(2,.bool false)] [] []
 |(.inr o)=>aN 18 [(0,sl ac v)] [] []
def vb:Option (Int⊕(Unit⊕(Unit))):=
 if(decide (t7<t6))=true then
  (dv v t7).bind fun x2=>
  (rr x2).bind fun r3=>
  if(decide (r3>30))=true then
   some (.inr (.inl ()))
  else
   some (.inl (bA (t7+1)))
 else
  some (.inr (.inr ()))
def th:Option (Unit⊕(Unit)):=loop (fun(zz:Int)=>vb v t6 zz) t7
theorem Br{y:Int⊕(Unit⊕(Unit))}(h:vb v t6 t7=some y):
  aB Pg GE 0 (cA Sx 55) (LQ (fun(zz:Int)=>iM v t6 zz) iN (fY v) y) (iM v t6 t7):=by
 rcases aT h with⟨c1,h⟩|⟨c1,h⟩
 ·obtain⟨x2,bx2,h⟩:=aw h
  obtain⟨r3,br3,h⟩:=aw h
  have p5:=fun{sc F} (r:PS sc F)=>sg 0 c1<|sv (aR.ia (k:=.i64) bx2)<|sv (az x2)<|sx eX<|sx (bv x2)<|sv (aX x2 [])<|ba (sV br3)<|r
  rcases aT h with⟨c4,h⟩|⟨c4,h⟩
  ·obtain rfl:=lf h
   have z:=p5<|sg 0 c4<|pg 0 (iN (.inl ())) (fY v (.inl ())) rfl (cF (aI trivial trivial)) trivial
   exact tE (A:=Rm) mixed (by intro hx;cases hx) z (by kernel_rfl)
  ·obtain rfl:=lf h
   have z:=p5<|sg 0 c4<|pg 0 .normal (iM v t6 (bA (t7+1))) rfl (cF (aI (up (am ah v)) (aI (up (am ah v)) (aI trivial (aI trivial trivial))))) trivial
   exact cz (A:=Rm) mixed z (by kernel_rfl)
 ·obtain rfl:=lf h
  have z:=sg 0 c1<|eF (iN (.inr ())) (fY v (.inr ()))
  exact gf Rm (by intro hx;cases hx) z (by kernel_rfl)
theorem tV{x:Unit⊕(Unit)}(h:th v t6 t7=some x):
  aB Pg GE 0 (.loop (cA Sx 55)) (EX (iN x) (fY v x)) (iM v t6 t7):=
 aB.loop (S:=fun(zz:Int)=>iM v t6 zz) (ex:=iN) (s:=t7) h fun zz y hy=>Br v t6 zz hy
end
def ws(a:waB):Option Bool:=
 (th a (a.length:Int) 0).bind fun o6=>match o6 with
 |(.inl o6)=>
  some false
 |(.inr o6)=>
  some (decide ((a.length:Int)<=8))
theorem HW{a:waB}{r:Bool}(h:ws a=some r):CC Pg GE 10 [sl ac a] (.bool r) []:=by
 obtain⟨o6,bo6,h⟩:=aw h
 rcases o6 with o6|o6
 ·obtain rfl:=lf h
  have z:=cD (aR.ln a)<|cC (e:=.ret) (s1:=fY a (.inl o6)) (tV a (a.length:Int) 0 bo6)<|en (aI (rP (.bool false))<|trivial)
  exact b7 Rm Tryz.call10 Tryz.func10 (c:=Sx) rfl (aI (am ah a) trivial) z (by kernel_rfl)
 ·obtain rfl:=lf h
  have z:=cD (aR.ln a)<|cC (e:=.exit 0) (s1:=fY a (.inr o6)) (tV a (a.length:Int) 0 bo6)<|cD (aR.ln a)<|en (aI (rP (.bool (decide ((a.length:Int)<=8))))<|trivial)
  exact b7 Rm Tryz.call10 Tryz.func10 (c:=Sx) rfl (aI (am ah a) trivial) z (by kernel_rfl)
def UK:Code:=Tryz.f44.body.getD .skip
def Uv:List Nat:=[]
def mX(s:ag):Option aa:=
 some (⟨3,s,0,([]:List aa)⟩:aa)
theorem ey{s:ag}{r:aa}(h:mX s=some r):CC Pg GE 44 [.str s] (.agg (ac r)) [(3,28)]:=by
 obtain rfl:=lf h
 have z:=sx eX<|sb (lm 3 s) (ll 3 s)<|sy (aE (⟨3,s,0,([]:List aa)⟩:aa))<|en (aI (cQ (⟨3,s,0,([]:List aa)⟩:aa))<|aI (ah (⟨3,s,0,([]:List aa)⟩:aa))<|rT)
 exact b7 Uv Tryz.call44 Tryz.func44 (c:=UK) rfl (aI trivial trivial) z (by kernel_rfl)
def UL:Code:=Tryz.f45.body.getD .skip
def Uw:List Nat:=[]
def Ek(k:Int):Option aa:=
 some (⟨1,([]:ag),k,([]:List aa)⟩:aa)
theorem rA{k:Int}{r:aa}(h:Ek k=some r):CC Pg GE 45 [.int .i64 k] (.agg (ac r)) [(3,28)]:=by
 obtain rfl:=lf h
 have z:=sx eX<|sb (od 1 k) (n8 1 k)<|sy (aE (⟨1,([]:ag),k,([]:List aa)⟩:aa))<|en (aI (cQ (⟨1,([]:ag),k,([]:List aa)⟩:aa))<|aI (ah (⟨1,([]:ag),k,([]:List aa)⟩:aa))<|rT)
 exact b7 Uw Tryz.call45 Tryz.func45 (c:=UL) rfl (aI trivial trivial) z (by kernel_rfl)
def UJ:Code:=Tryz.f43.body.getD .skip
def Uu:List Nat:=[]
def mj(a:Int)(a2:waB):Option aa:=
 some (⟨a,([]:ag),0,a2⟩:aa)
theorem fc{a:Int}{a2:waB}{r:aa}(h:mj a a2=some r):CC Pg GE 43 [.int .i64 a,sl ac a2] (.agg (ac r)) []:=by
 obtain rfl:=lf h
 have z:=sx eX<|sv (oe a a2)<|sx (bv (⟨a,([]:ag),0,a2⟩:aa))<|en (aI (cQ (⟨a,([]:ag),0,a2⟩:aa))<|(ah (⟨a,([]:ag),0,a2⟩:aa)))
 exact b7 Uu Tryz.call43 Tryz.func43 (c:=UJ) rfl (aI trivial (aI (am ah a2) trivial)) z (by kernel_rfl)
def UM:Code:=Tryz.f46.body.getD .skip
def Ux:List Nat:=[]
def gp(p:aa):Option ae:=
 some (⟨1,([]:ag),([]:List ae),([]:List ag),p,([]:List aa)⟩:ae)
theorem eO{p:aa}{r:ae}(h:gp p=some r):CC Pg GE 46 [.agg (ac p)] (.agg (af r)) [(2,30),(3,9),(8,28)]:=by
 obtain rfl:=lf h
 have z:=se (bM p)<|sx jh<|sv (az p)<|sb (H1 1 p) (HZ 1 p)<|sy (aS (⟨1,([]:ag),([]:List ae),([]:List ag),p,([]:List aa)⟩:ae))<|en (aI (cR (⟨1,([]:ag),([]:List ae),([]:List ag),p,([]:List aa)⟩:ae))<|aI (al (⟨1,([]:ag),([]:List ae),([]:List ag),p,([]:List aa)⟩:ae))<|rT)
 exact b7 Ux Tryz.call46 Tryz.func46 (c:=UM) rfl (aI (ah p) trivial) z (by kernel_rfl)
def UN:Code:=Tryz.f47.body.getD .skip
def Uy:List Nat:=[]
def DM(name:ag)(result:ae):Option ae:=
 (gp (⟨0,([]:ag),0,([]:List aa)⟩:aa)).bind fun r1=>
 some (⟨6,([]:ag),([r1,result]:List ae),([name]:List ag),(⟨0,([]:ag),0,([]:List aa)⟩:aa),([]:List aa)⟩:ae)
theorem yE{name:ag}{result:ae}{r:ae}(h:DM name result=some r):CC Pg GE 47 [.str name,.agg (af result)] (.agg (af r)) [(7,28),(8,28)]:=by
 obtain⟨r1,br1,h⟩:=aw h
 obtain rfl:=lf h
 have z:=se (bQ result)<|sx jh<|rp [0,1,0,4,0,28,63,127]<|sv (aW.mk' (v:=PVal.str) CE ([name]:List ag) 1 (by kernel_rfl))<|sb (tn) (tk)<|ba (eO br1)<|sv (bh result)<|sv (d5.mk' (v:=tR) oH ([r1,result]:List ae) 2 (by kernel_rfl))<|sb (Eu 6 ([name]:List ag) ([r1,result]:List ae)) (Es 6 ([name]:List ag) ([r1,result]:List ae))<|OG (db (⟨6,([]:ag),([r1,result]:List ae),([name]:List ag),(⟨0,([]:ag),0,([]:List aa)⟩:aa),([]:List aa)⟩:ae))<|en (aI (cR (⟨6,([]:ag),([r1,result]:List ae),([name]:List ag),(⟨0,([]:ag),0,([]:List aa)⟩:aa),([]:List aa)⟩:ae))<|aI (al (⟨6,([]:ag),([r1,result]:List ae),([name]:List ag),(⟨0,([]:ag),0,([]:List aa)⟩:aa),([]:List aa)⟩:ae))<|rT)
 exact b7 Uy Tryz.call47 Tryz.func47 (c:=UN) rfl (aI trivial (aI (al result) trivial)) z (by kernel_rfl)
def Pa:Code:=Tryz.f106.body.getD .skip
def Nc:List Nat:=[10,17]
section
variable(s:waA)(v:ag)(t7:Int)(t8:Int)
def fE:av:=aN 19 [(0,sl cS s),(1,.str v),(7,.int .i64 t7),(8,.int .i64 t8)] [] []
def fF(o:Int⊕(Unit)):Exit:=match o with
 |(.inl _)=>.ret
 |(.inr _)=>.exit 0
def ek(o:Int⊕(Unit)):av:=match o with
 |(.inl o)=>aN 19 [(4,.int .i64 o)] [] []
 |(.inr o)=>aN 19 [] [] []
def dH:Option (Int⊕(Int⊕(Unit))):=
 if(decide (t8<t7))=true then
  (dv s t8).bind fun x2=>
  if(v==x2)=true then
   some (.inr (.inl t8))
  else
   some (.inl (bA (t8+1)))
 else
  some (.inr (.inr ()))
def nF:Option (Int⊕(Unit)):=loop (fun(zz:Int)=>dH s v t7 zz) t8
theorem xf{y:Int⊕(Int⊕(Unit))}(h:dH s v t7 t8=some y):
  aB Pg GE 0 (cA Pa 55) (LQ (fun(zz:Int)=>fE s v t7 zz) fF ek y) (fE s v t7 t8):=by
 rcases aT h with⟨c1,h⟩|⟨c1,h⟩
 ·obtain⟨x2,bx2,h⟩:=aw h
  have p4:=fun{sc F} (r:PS sc F)=>sg 0 c1<|sv (aW.ia (k:=.i64) bx2)<|sv (cP xe (.str x2) [])<|r
  rcases aT h with⟨c3,h⟩|⟨c3,h⟩
  ·obtain rfl:=lf h
   have z:=p4<|sg 0 c3<|eF (fF (.inl t8)) (ek (.inl t8))
   exact gf Nc (by intro hx;cases hx) z (by kernel_rfl)
  ·obtain rfl:=lf h
   exact rY Nc (p4<|sg 0 c3<|eF .normal (fE s v t7 (bA (t8+1)))) (by kernel_rfl)
 ·obtain rfl:=lf h
  have z:=sg 0 c1<|eF (fF (.inr ())) (ek (.inr ()))
  exact gf Nc (by intro hx;cases hx) z (by kernel_rfl)
theorem pK{x:Int⊕(Unit)}(h:nF s v t7 t8=some x):
  aB Pg GE 0 (.loop (cA Pa 55)) (EX (fF x) (ek x)) (fE s v t7 t8):=
 aB.loop (S:=fun(zz:Int)=>fE s v t7 zz) (ex:=fF) (s:=t8) h fun zz y hy=>xf s v t7 zz hy
end
def lQ(s:waA)(v:ag):Option Int:=
 (nF s v (s.length:Int) 0).bind fun o5=>match o5 with
 |(.inl o5)=>
  some o5
 |(.inr o5)=>
  some (-1)
theorem uo{s:waA}{v:ag}{r:Int}(h:lQ s v=some r):CC Pg GE 106 [sl cS s,.str v] (.int .i64 r) []:=by
 obtain⟨o5,bo5,h⟩:=aw h
 rcases o5 with o5|o5
 ·obtain rfl:=lf h
  have z:=cD (aW.ln s)<|cC (e:=.ret) (s1:=ek (.inl o5)) (pK s v (s.length:Int) 0 bo5)<|en (aI (rP (.int .i64 o5))<|trivial)
  exact b7 Nc Tryz.call106 Tryz.func106 (c:=Pa) rfl (aI (am dS s) (aI trivial trivial)) z (by kernel_rfl)
 ·obtain rfl:=lf h
  have z:=cD (aW.ln s)<|cC (e:=.exit 0) (s1:=ek (.inr o5)) (pK s v (s.length:Int) 0 bo5)<|en (aI (rP (.int .i64 (-1)))<|trivial)
  exact b7 Nc Tryz.call106 Tryz.func106 (c:=Pa) rfl (aI (am dS s) (aI trivial trivial)) z (by kernel_rfl)
def UT:Code:=Tryz.f66.body.getD .skip
def UE:List Nat:=[]
def dL(s:waA)(v:ag):Option Bool:=
 (lQ s v).bind fun r1=>
 some (decide (r1>=0))
theorem e8{s:waA}{v:ag}{r:Bool}(h:dL s v=some r):CC Pg GE 66 [sl cS s,.str v] (.bool r) []:=by
 obtain⟨r1,br1,h⟩:=aw h
 obtain rfl:=lf h
 have z:=ba (uo br1)<|en (aI (rP (.bool (decide (r1>=0))))<|trivial)
 exact b7 UE Tryz.call66 Tryz.func66 (c:=UT) rfl (aI (am dS s) (aI trivial trivial)) z (by kernel_rfl)
def SC:Code:=Tryz.f49.body.getD .skip
def Rc:List Nat:=[13,28,34]
section
variable(hidden:waA)(s:ai)(i:Int)(n:ag)(t9:waA)(t10:Int)(m:waB)(m2:waA)(m3:waB)
def kM:av:=aN 45 [(1,sl cS hidden),(2,.eptr (aq s)),(4,.bptr 1 0),(5,.bptr 2 0),(6,.int .i64 i),(7,.str n),(9,sl cS t9),(10,.int .i64 t10),(11,.int .i64 i)] [.dead,.cells [sl cS ([]:List ag),sl ac m] [(0,9),(1,28)],.cells [sl cS m2,sl ac m3] [(0,9),(1,28)]] []
def dw(o:Bool):av:=aN 45 [(1,sl cS hidden),(2,.eptr (aq s)),(4,.bptr 1 0),(5,.bptr 2 0),(6,.int .i64 i),(7,.str n),(9,sl cS t9),(10,.int .i64 t10),(11,.int .i64 i),(26,.bool o)] [.dead,.cells [sl cS ([]:List ag),sl ac m] [(0,9),(1,28)],.cells [sl cS m2,sl ac m3] [(0,9),(1,28)]] []
def dN:Option Bool:=
 (dL hidden n).bind fun r3=>
 if(!r3)=true then
  (dL m2 n).bind fun r5=>
  some (!r5)
 else
  some false
theorem kr{x:Bool}(h:dN hidden n m2=some x):
  aB Pg GE 0 (cA SC 7670) (EX .normal (dw hidden s i n t9 t10 m m2 m3 x)) (kM hidden s i n t9 t10 m m2 m3):=by
 obtain⟨r3,br3,h⟩:=aw h
 rcases aT h with⟨c4,h⟩|⟨c4,h⟩
 ·obtain⟨r5,br5,h⟩:=aw h
  obtain rfl:=lf h
  exact co Rc (ba (e8 br3)<|sg 5 c4<|ss<|ba (e8 br5)<|eF .normal (dw hidden s i n t9 t10 m m2 m3 (!r5))) (by kernel_rfl)
 ·obtain rfl:=lf h
  exact co Rc (ba (e8 br3)<|sg 5 c4<|eF .normal (dw hidden s i n t9 t10 m m2 m3 false)) (by kernel_rfl)
end
section
variable(hidden:waA)(s:ai)(t9:waA)(t10:Int)(m:waB)(t11:Int)(m2:waA)(m3:waB)
def bD:av:=aN 45 [(1,sl cS hidden),(2,.eptr (aq s)),(4,.bptr 1 0),(5,.bptr 2 0),(9,sl cS t9),(10,.int .i64 t10),(11,.int .i64 t11)] [.dead,.cells [sl cS ([]:List ag),sl ac m] [(0,9),(1,28)],.cells [sl cS m2,sl ac m3] [(0,9),(1,28)]] []
def dy(o:waA×waB):av:=aN 45 [(4,.bptr 1 0),(5,.bptr 2 0)] [.dead,.cells [sl cS ([]:List ag),sl ac m] [(0,9),(1,28)],.cells [sl cS o.1,sl ac o.2] [(0,9),(1,28)]] []
def bm:Option ((Int×waA×waB)⊕((waA×waB))):=
 if(decide (t11<t10))=true then
  (dv t9 t11).bind fun x2=>
  (dN hidden x2 m2).bind fun o6=>
  if o6=true then
   (app m2 ([x2]:List ag)).bind fun l9=>
   (dv s.by_ t11).bind fun x10=>
   (app m3 ([x10]:List aa)).bind fun l11=>
   some (.inl (bA (t11+1),l9,l11))
  else
   some (.inl (bA (t11+1),m2,m3))
 else
  some (.inr (m2,m3))
def dO:Option ((waA×waB)):=loop (fun(zz:Int×waA×waB)=>bm hidden s t9 t10 zz.1 zz.2.1 zz.2.2) (t11,m2,m3)
theorem jW{y:(Int×waA×waB)⊕((waA×waB))}(h:bm hidden s t9 t10 t11 m2 m3=some y):
  aB Pg GE 0 (cA SC 119) (LQ (fun(zz:Int×waA×waB)=>bD hidden s t9 t10 m zz.1 zz.2.1 zz.2.2) (fun _=>.exit 0) (dy m) y) (bD hidden s t9 t10 m t11 m2 m3):=by
 rcases aT h with⟨c1,h⟩|⟨c1,h⟩
 ·obtain⟨x2,bx2,h⟩:=aw h
  obtain⟨o6,bo6,h⟩:=aw h
  have p8:=fun{sc F} (r:PS sc F)=>sg 0 c1<|sv (aW.ia (k:=.i64) bx2)<|sv (cP xe (.str x2) [])<|kK 0<|cC (kr hidden s t11 x2 t9 t10 m m2 m3 bo6)<|r
  rcases aT h with⟨c7,h⟩|⟨c7,h⟩
  ·obtain⟨l9,bl9,h⟩:=aw h
   obtain⟨x10,bx10,h⟩:=aw h
   obtain⟨l11,bl11,h⟩:=aw h
   obtain rfl:=lf h
   exact rY Rc (p8<|sg 0 c7<|sv (aW.mk' (v:=PVal.str) CE ([x2]:List ag) 1 (by kernel_rfl))<|sv (aW.ap bl9)<|rp [0,1,0,4,0,28,60,124,255,511,1023]<|sv (ep s)<|sv (er s)<|sv (aR.ia (k:=.i64) bx10)<|sv (az x10)<|sv (aR.mk' (v:=ce) aY ([x10]:List aa) 1 (by kernel_rfl))<|sv (aR.ap bl11)<|M0 (rfl:bR (sl ac l11)=some [sl ac l11])<|eF .normal (bD hidden s t9 t10 m (bA (t11+1)) l9 l11)) (by kernel_rfl)
  ·obtain rfl:=lf h
   exact rY Rc (p8<|sg 0 c7<|eF .normal (bD hidden s t9 t10 m (bA (t11+1)) m2 m3)) (by kernel_rfl)
 ·obtain rfl:=lf h
  have z:=sg 0 c1<|eF (.exit 0) (dy m (m2,m3))
  exact gf Rc (by intro hx;cases hx) z (by kernel_rfl)
theorem ku{x:(waA×waB)}(h:dO hidden s t9 t10 t11 m2 m3=some x):
  aB Pg GE 0 (.loop (cA SC 119)) (EX (.exit 0) (dy m x)) (bD hidden s t9 t10 m t11 m2 m3):=
 aB.loop (S:=fun(zz:Int×waA×waB)=>bD hidden s t9 t10 m zz.1 zz.2.1 zz.2.2) (ex:=(fun _=>.exit 0)) (s:=(t11,m2,m3)) h fun zz y hy=>jW hidden s t9 t10 m zz.1 zz.2.1 zz.2.2 hy
end
def bw(s:ai)(hidden:waA):Option ai:=
 (dO hidden s s.names (s.names.length:Int) 0 ([]:List ag) ([]:List aa)).bind fun o12=>
 some (⟨o12.1,o12.2⟩:ai)
theorem dP{s:ai}{hidden:waA}{r:ai}(h:bw s hidden=some r):CC Pg GE 49 [.agg (aq s),sl cS hidden] (.agg (aq r)) [(0,9),(1,28)]:=by
 obtain⟨o12,bo12,h⟩:=aw h
 obtain rfl:=lf h
 have z:=se (cJ s)<|sx K3<|sx K3<|sv (gJ s)<|sv (gL s)<|cD (aW.ln s.names)<|cC (ku hidden s s.names (s.names.length:Int) ([]:List aa) 0 ([]:List ag) ([]:List aa) bo12)<|sz (bC (⟨o12.1,o12.2⟩:ai) [])<|sy (bK (⟨o12.1,o12.2⟩:ai))<|en (aI (jX (⟨o12.1,o12.2⟩:ai))<|aI (aU (⟨o12.1,o12.2⟩:ai))<|rT)
 exact b7 Rc Tryz.call49 Tryz.func49 (c:=SC) rfl (aI (aU s) (aI (am dS hidden) trivial)) z (by kernel_rfl)
abbrev bp:=(ai->ae->Option ae)
abbrev b6(R:bp):Prop:=∀(s:ai) (t:ae) (r:ae),R s t=some r->CC Pg GE 50 [.agg (aq s),.agg (af t)] (.agg (af r)) [(2,30)]
abbrev j1:=(aa->waA->waB->Option aa)
abbrev nn(R:j1):Prop:=∀(p:aa) (a:waA) (a2:waB) (r:aa),R p a a2=some r->CC Pg GE 101 [.agg (ac p),sl cS a,sl ac a2] (.agg (ac r)) [(3,28)]
def S2:Code:=Tryz.f121.body.getD .skip
def SN:List Nat:=[]
def tC(a:waA)(s:ag):Option Int:=
 (lQ a s).bind fun r1=>
 some r1
theorem xz{a:waA}{s:ag}{r:Int}(h:tC a s=some r):CC Pg GE 121 [sl cS a,.str s] (.int .i64 r) []:=by
 obtain⟨r1,br1,h⟩:=aw h
 obtain rfl:=lf h
 have z:=ba (uo br1)<|en (aI (rP (.int .i64 r1))<|trivial)
 exact b7 SN Tryz.call121 Tryz.func121 (c:=S2) rfl (aI (am dS a) (aI trivial trivial)) z (by kernel_rfl)
abbrev mL:=(aa->Option aa)
abbrev qE(R:mL):Prop:=∀(p:aa) (r:aa),R p=some r->CC Pg GE 99 [.agg (ac p)] (.agg (ac r)) [(3,28)]
end Go.Proofs.YtggeppllafbidaaGreatDoor
