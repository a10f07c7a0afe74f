/- PROVED: a part of the proof. Conditions: none. -/
import Derived.Test.YtggeppllafbidaaGreatDoorPkB10
import Derived.Test.YtggeppllafbidaaGreatDoorPkB9
noncomputable section
namespace Go.Proofs.YtggeppllafbidaaGreatDoor
open Go Go.Proofs.Tryz
set_option linter.unusedVariables false
set_option maxRecDepth 100000
abbrev xf(fn:FuncId)(a:Array Value)(D:Nat):Loop:={state:=.ready,pending:=none,fn:=fn,tmps:=a,params:=#[7],assign:=KQ KP,body:=KR KP,defers:=D}
def JF(Γe:aK)(we:World)(bs:ba)(a:Array Value)(fn:FuncId)(l D:Nat)(b:Bool)(s:List ai)(Γ:aK)(w:World):Prop:=
 b=true/\∃ow,SR Pg (BH GE Γe we) Γ bs ow w a (Pf s)/\¬bJ bs ow l/\¬bJ bs ow D/\w.heap[l]? =some (.loop (xf fn a D))/\w.heap[D]? =some (.deferred (some []))
theorem cq{w:World}{b:Nat}{o:Obj}(h:w.heap[b]? =some o):b<w.heap.size:=(vam.1 h).1
theorem Nw{Γe:aK}{we:World}{bs:ba}{a:Array Value}{fn:FuncId}{l D:Nat}(hl:we.heap.size<=l)(hD:we.heap.size<=D)(hne:D≠l)(hb:bs.length=2):Yd Pg GE l ac xN (JF Γe we bs a fn l D) where
 base:=fun b s Γ w ⟨_,ow,h,_⟩=>h.base
 side:=fun b s Γ w ⟨h0,ow,h,hTl,hTD,hhl,hhD⟩ Γ' bs' ow' w' a' st' h'=>
  ⟨h0,ow,h.aside h',hTl,hTD,(h'.step.keep l (cq hhl) id).1.trans hhl,(h'.step.keep D (cq hhD) id).1.trans hhD⟩
 yield:=fun s Γ w x v n r ⟨h0,ow,h,hTl,hTD,hhl,hhD⟩ hv hr=>by
  obtain⟨hr1,hS4⟩:=QS s x hr
  refine⟨_,_,_,_,run_yield hhl rfl,?_⟩
  have hz:(((#[7]:Array Tmp).zip #[v]).foldl (fun tmps (t,a)=>tmps.setIfInBounds t a) a)=a.setIfInBounds 7 v:=by simp
  show RoundIn Fence.wide n Pg l fn (((#[7]:Array Tmp).zip #[v]).foldl (fun tmps (t,a)=>tmps.setIfInBounds t a) a) (KQ KP) (KR KP) w _
  rw[hz]
  have h7:SR Pg (BH GE Γe we) Γ bs ow w (a.setIfInBounds 7 v) (aP 18 [(3,.bptr 1 0),(7,.agg (ac x))] (KM s) []):=h.set (d:=7) (p:=.agg (ac x)) (hv.mono (.refl _ _) (fun i b hi=>by simp at hi))
  refine roundIn_of_wpIn trivial (wpIn_mono (aC.on (QR s x) (by decide) h7 (by rw[hb];decide) (some l) [] n) ?_)
  rintro e ⟨a1,ds1⟩ w1 ⟨rfl,Γ1,bs1,ow1,st1,h1,⟨rfl,rfl⟩,hbs1,hle1,hsz1,hk1⟩
  obtain⟨k1,t1⟩:=hk1 l (cq hhl) hTl
  obtain⟨k1D,t1D⟩:=hk1 D (cq hhD) hTD
  have hl1:=k1.trans hhl
  refine⟨_,run_beginRound hl1 rfl,?_⟩
  obtain⟨h1',hle1'⟩:=h1.putOther (l:=l) (o:=.loop {xf fn a D with state:=.busy}) t1 (.inr hl) (fun c t fr e=>by rw[hl1]at e;cases e)
  have hb1:2<=bs1.length:=by have:=h1.bl;rw[this];exact vcm rfl
  refine wpIn_mono (aC.on hS4 (by decide) h1' hb1 (some l) [] n) ?_
  rintro e ⟨a2,ds2⟩ w2 ⟨rfl,Γ2,bs2,ow2,st2,h2,⟨rfl,rfl⟩,hbs2,hle2,hsz2,hk2⟩
  have hl1':(w1.putObj l (.loop {xf fn a D with state:=.busy})).heap[l]? =some (.loop {xf fn a D with state:=.busy}):=World.putObj_heap_same (cq hl1)
  have hD1':(w1.putObj l (.loop {xf fn a D with state:=.busy})).heap[D]? =some (.deferred (some [])):=(World.putObj_heap_other hne).trans (k1D.trans hhD)
  obtain⟨k2,t2⟩:=hk2 l (cq hl1') t1
  obtain⟨k2D,t2D⟩:=hk2 D (cq hD1') t1D
  have hl2:=k2.trans hl1'
  refine⟨_,_,run_endRound none hl2,?_⟩
  obtain⟨h3,hle3⟩:=h2.putOther (l:=l) (o:=.loop {{xf fn a D with state:=.busy}with state:=if(none:Option Code).isNone then .ready else .done,pending:=none}) t2 (.inr hl) (fun c t fr e=>by rw[hl2]at e;cases e)
  have hle:Γ.Le w Γ2 (w2.putObj l (.loop {{xf fn a D with state:=.busy}with state:=if(none:Option Code).isNone then .ready else .done,pending:=none})):=((hle1.trans hle1').trans hle2).trans hle3
  obtain⟨ow3,h4,hT4⟩:=h.back rfl h3 hle (H':=KM r.2) (fun i hi=>(hbs2 i (by omega)).trans (hbs1 i (by omega))) (by
   refine⟨trivial,⟨rfl,aI (up (ak hZ r.2)) trivial,fun x hx=>hx⟩,trivial⟩) hb.symm
  refine⟨Γ2,by rw[hr1];rfl,hle,hr1,ow3,h4,fun hx=>t2 (hT4 l hx),fun hx=>t2D (hT4 D hx),?_,?_⟩
  ·exact World.putObj_heap_same (cq hl2)
  ·exact(World.putObj_heap_other hne).trans (k2D.trans hD1')
theorem yo{p:aa}{r:List ai}(h:zQ p=some r):CC Pg GE QG [.agg (ac p)] (sl cS r) [(0,9)]:=by
 obtain⟨q,hq,h⟩:=av h
 obtain⟨r',hu,h⟩:=av h
 cases h
 refine⟨aI (ag p) trivial,call64,fun Γ bs ow w vs hS=>(callsIn_wide (n:=0)).1 (callsIn_of_wp_marks func64 (c:=LT) rfl trivial ?_)⟩
 obtain rfl:bs=[]:=vai hS.bl
 obtain⟨v,rfl⟩:∃v,vs=#[v]:=vbt.1 hS.sz
 have hB:Du GE Γ w:=hS.base
 have hE:xw GE 0 (BH GE Γ w):=hB.good
 have hvr:VR Γ [] w (.agg (ac p)) v:=hS.tm 0 _ _ rfl rfl
 have h0:SR Pg (BH GE Γ w) Γ [] (fun _=>none) w (#[v]++Array.replicate 17 undef) (aP 18 [(0,.agg (ac p))] [] []):=by
  refine hB.fresh (a:=#[v]++Array.replicate 17 undef) 0 (tmps:=[.agg (ac p)]++List.replicate 17 .undef) (by simp) fun t q u hq hu=>?_
  by_cases ht:t<1
  ·rw[vac (by simpa using ht)]at hq
   rw[vaE (by simpa using ht)]at hu
   match t,ht with
   |0,_=>simp at hq hu;subst hq;subst hu;exact hvr
  ·rw[vae (by show 1<=t;omega),vaH]at hq
   split at hq<;>cases hq
   exact .undef u
 show LT.wpIn Fence.wide 0 Pg _ ⟨#[v]++Array.replicate 17 undef,[]⟩ w
 rw[MA]
 refine wpIn_seq (wpIn_mono (aC.wideE (QO p) hE h0 0 []) ?_)
 rintro e ⟨a1,ds1⟩ w1 ⟨rfl,Γ1,bs1,ow1,st1,h1,rfl,rfl⟩
 refine wpIn_seq (wpIn_mono (aC.wideE (QP p) hE h1 0 []) ?_)
 rintro e ⟨a2,ds2⟩ w2 ⟨rfl,Γ2,bs2,ow2,st2,h2,rfl,rfl⟩
 refine wpIn_seq (wpIn_seq (wpIn_mono (aC.wideE (QQ p) hE h2 0 []) ?_))
 rintro e ⟨a3,ds3⟩ w3 ⟨rfl,Γ3,bs3,ow3,st3,h3,rfl,rfl⟩
 have h6:=h3.opv [] (.tmp 6)
 have e6:opv (BH GE Γ w).GE (stR p).tmps (.tmp 6)=.func (.func fW) [] [.eptr (ac p)]:=rfl
 rw[e6]at h6
 have hbl:bs3.length=2:=h3.bl
 refine wpIn_block (wpIn_rangeFunc fun fn _=>?_)
 obtain⟨g1,l1⟩:=h3.allocO (.deferred (some []))
 obtain⟨g2,l2⟩:=g1.allocO (.loop (xf fn a3 w3.heap.size))
 have gF:=g2.forgetT (tm:=(Pf []).tmps) rfl
 have hsz3:w.heap.size<=w3.heap.size:=h3.step.size
 have htl:∀b,w3.heap.size<=b->¬bJ bs3 ow3 b:=fun b hb hx=>by
  rcases hx with⟨i,hi⟩|hx
  ·have hil:i<(stR p).boxes.length:=by rw[<-h3.bl];exact aj hi
   have:=(h3.bx i b _ hi (vaa hil)).2.1
   omega
  ·cases hL:ow3 b with
   |none=>exact hx hL
   |some L=>have:=(h3.on b L hL).1;omega
 generalize hvf:(Act.mk a3 []).eval (.tmp 6)=vf at h6
 cases h6 with
 |func _ _ _ fs cs hl1 hl2 hf hc=>
 obtain rfl:fs=#[]:=vaO hl1
 obtain⟨cv,rfl⟩:∃v,cs=#[v]:=vbt.1 hl2
 have hcv:VR Γ3 bs3 w3 (.eptr (ac p)) cv:=hc 0 _ _ rfl rfl
 have hJ:JF Γ w bs3 a3 fn (w3.heap.size+1) w3.heap.size true [] Γ3 ((w3.alloc (.deferred (some []))).alloc (.loop (xf fn a3 w3.heap.size))):=by
  refine⟨rfl,ow3,gF,htl _ (by omega),htl _ (vaq _),?_,?_⟩
  ·have:=World.alloc_heap_new (w3.alloc (.deferred (some []))) (.loop (xf fn a3 w3.heap.size))
   rwa[World.size_alloc]at this
  ·rw[cK _ _ (by rw[World.size_alloc];omega)]
   exact World.alloc_heap_new w3 _
 have hY:=Nw (Γe:=Γ) (we:=w) (bs:=bs3) (a:=a3) (fn:=fn) (l:=w3.heap.size+1) (D:=w3.heap.size) (by omega) hsz3 (by omega) hbl
 refine⟨_,_,_,{target:=.fn (.func fW) #[cv],args:=#[.func (.yield (w3.heap.size+1)) #[] #[]]},(w3.alloc (.deferred (some []))).alloc (.loop (xf fn a3 w3.heap.size)),fW,#[.func (.yield (w3.heap.size+1)) #[] #[],cv],(w3.alloc (.deferred (some []))).alloc (.loop (xf fn a3 w3.heap.size)),run_enterLoop_outer fn a3 #[7] (KQ KP) (KR KP),?_,fun _ _=>trivial,?_,fun hx=>by simp[Fence.wide]at hx,?_⟩
 ·have hvf':(Act.mk a3 []).eval (.tmp 6)=.func (.func fW) #[] #[cv]:=hvf
  simp only[resolve,hvf',Deferred.ofValue]
  simp[Act.eval]
 ·simp[invoke,call129]
 ·refine(JL hY p (n:=0 - 1) hq hJ (((hcv.mono l1 (.refl _)).mono l2 (.refl _)).clo (show hX 0 (ac p)from ag p))).mono ?_
  rintro e w4 ⟨⟨u,rfl⟩,Γ4,hle4,hq1,ow4,h4,tl4,tD4,hl4,hD4⟩
  refine⟨none,_,run_endLoop hl4 (by simp),?_⟩
  obtain⟨h5,hle5⟩:=h4.putOther (l:=w3.heap.size+1) (o:=.loop {xf fn a3 w3.heap.size with state:=.exhausted}) tl4 (.inr (show w.heap.size<=_ by omega)) (fun c t fr e=>by rw[hl4]at e;cases e)
  have hD5:(w4.putObj (w3.heap.size+1) (.loop {xf fn a3 w3.heap.size with state:=.exhausted})).heap[w3.heap.size]? =some (.deferred (some [])):=(World.putObj_heap_other (by omega)).trans hD4
  generalize w4.putObj (w3.heap.size+1) (.loop {xf fn a3 w3.heap.size with state:=.exhausted})=w5 at h5 hle5 hD5
  show(Code.seq O7 .ret).wpIn Fence.wide 0 Pg _ ⟨a3,[{target:=.collected w3.heap.size,args:=#[]}]⟩ w5
  refine wpIn_mono (wpIn_wide.2 (aC.on (QT q.2 hu) (by decide) h5 (by rw[hbl];decide) none [{target:=.collected w3.heap.size,args:=#[]}])) ?_
  rintro e ⟨a6,ds6⟩ w6 ⟨rfl,Γ6,bs6,ow6,st6,h6,⟨rfl,rfl⟩,hbs6,hle6,hsz6,hk6⟩
  obtain⟨k6,t6⟩:=hk6 _ (cq hD5) tD4
  have hD6:=k6.trans hD5
  obtain⟨h7,hle7⟩:=h6.putOther (l:=w3.heap.size) (o:=.deferred none) t6 (.inr hsz3) (fun c t fr e=>by rw[hD6]at e;cases e)
  refine⟨by simp,.inl ⟨w3.heap.size,_,rfl,run_takeDeferred hD6,?_⟩⟩
  have hS7:SR Pg ⟨GE,Γ,w,bJ [] ow⟩ Γ6 bs6 ow6 (w6.putObj w3.heap.size (.deferred none)) a6 (Pk r):={h7 with
   bn:=fun i b hb=>(h7.bn i b hb).elim False.elim .inr
   on:=fun b L hL=>⟨(h7.on b L hL).1,(h7.on b L hL).2.elim False.elim .inr⟩
   gx:=hS.gx
   step:={h7.step with keep:=fun b hb _=>h7.step.keep b hb (fun hx=>hx)}}
  obtain⟨vr,e1,e2,e3⟩:=qy hS7 (fn:=f64) (r:=sl cS r) (by kernel_rfl)
  refine⟨vr,e1,vr,Γ6,xM (ee f64.results.toList) [(0,9)] ow6,rfl,?_⟩
  have hrs:f64.results.toList=[.tmp 2]:=by kernel_rfl
  have hf:=hS7.finish (H':=[]) (src:=ee f64.results.toList) (ro:=[(0,9)]) e2 (ak hZ r) trivial (fun x hx=>by
   simp only[vbh]at hx
   subst hx
   refine⟨?_,fun u v'=>e3 0 u v' ?_⟩
   ·rw[hrs];exact vbh.2 rfl
   ·rw[hrs];trivial) (fun x hx y hy _=>by
   simp only[vbh]at hx hy
   rw[hx,hy])
  simpa using hf
theorem Ef:kT Pg 72 9:=ID Tryz.lc72 rfl rfl (by kernel_rfl) call72
theorem B9{l r:List ai}(h:ri l=some r):CC Pg GE 72 [sl cS l] (sl cS r) [(0,9)]:=cn.cloneCC Ef h
abbrev pR:=(waC->Option Bool)
abbrev ur(R:pR):Prop:=∀(a:waC) (r:Bool),R a=some r->CC Pg GE 8 [sl af a] (.bool r) []
abbrev oE:=(ae->Option Int)
abbrev sS(R:oE):Prop:=∀(t:ae) (r:Int),R t=some r->CC Pg GE 42 [.agg (af t)] (.int .i64 r) []
noncomputable def OQ:Code:=f42.body.getD .skip
def OF:List Nat:=[18]
section
variable(R3:oE)(t7:waC)(t8:Int)(k:Int)(t9:Int)
def ie:aq:=aP 19 [(3,.int .i64 k),(7,sl af t7),(8,.int .i64 t8),(9,.int .i64 t9)] [.dead] []
def nw(o:Int):aq:=aP 19 [(3,.int .i64 o)] [.dead] []
def tq:Option ((Int×Int)⊕(Int)):=
 if(decide (t9<t8))=true then
  (eh t7 t9).bind fun x2=>
  (R3 x2).bind fun r3=>
  some (.inl (cf (k+r3),cf (t9+1)))
 else
  some (.inr k)
def rb:Option Int:=loop (fun(zz:Int×Int)=>tq R3 t7 t8 zz.1 zz.2) (k,t9)
theorem zi(hR3:sS R3){y:(Int×Int)⊕(Int)}(h:tq R3 t7 t8 k t9=some y):aC Pg GE 0 (cA OQ 119) (LQ (fun(zz:Int×Int)=>ie t7 t8 zz.1 zz.2) (fun _=>.exit 0) nw y) (ie t7 t8 k t9):=by
 rcases aT h with⟨c1,h⟩|⟨c1,h⟩
 ·obtain⟨x2,bx2,h⟩:=av h
  obtain⟨r3,br3,h⟩:=av h
  obtain rfl:=lf h
  have z:=sg 0 c1<|sv (dF.ia (k:=.i64) bx2)<|sv (bA x2)<|sx io<|sx (cB x2)<|sv (bk x2 [])<|bg (hR3 _ _ br3)<|jw 0 .normal (ie t7 t8 (cf (k+r3)) (cf (t9+1))) rfl (bS (aI trivial (aI (up (ak al t7)) (aI trivial (aI trivial trivial))))) (aI trivial trivial)
  exact cd (A:=OF) mixed z<|by kernel_rfl
 ·obtain rfl:=lf h
  have z:=sg 0 c1<|eF (.exit 0) (nw k)
  exact gZ OF (by intro hx;cases hx) z<|by kernel_rfl
theorem AX(hR3:sS R3){x:Int}(h:rb R3 t7 t8 k t9=some x):aC Pg GE 0 (.loop (cA OQ 119)) (EX (.exit 0) (nw x)) (ie t7 t8 k t9):=
 aC.loop (S:=fun(zz:Int×Int)=>ie t7 t8 zz.1 zz.2) (ex:=(fun _=>.exit 0)) (s:=(k,t9)) h fun zz y hy=>zi R3 t7 t8 zz.1 zz.2 hR3 hy
end
def oG(R3:oE)(t:ae):Option Int:=
 (rb R3 t.Args (t.Args.length:Int) 1 0).bind fun o4=>
 some o4
theorem DA(R3:oE)(hR3:sS R3){t:ae}{r:Int}(h:oG R3 t=some r):CC Pg GE 42 [.agg (af t)] (.int .i64 r) []:=by
 obtain⟨o4,bo4,h⟩:=av h
 obtain rfl:=lf h
 have z:=se (bY t)<|sv (aL t)<|sv (aM t)<|cx (dF.ln t.Args)<|cC (AX R3 t.Args (t.Args.length:Int) 1 0 hR3 bo4)<|en (aI (rP (.int .i64 o4))<|trivial)
 exact cb OF call42 func42 (c:=OQ) rfl (aI (al t) trivial) z<|by kernel_rfl
def tp:(ae->Option Int)->(ae)->Option Int:=fun(rec:ae->Option Int) (x:ae)=>oG (fun t=>rec t) x
def zh(t:ae):Option Int:=kY tp t
theorem ES{t:ae}{r:Int}(h:zh t=some r):CC Pg GE 42 [.agg (af t)] (.int .i64 r) []:=
 cw (F:=tp) (M:=fun(x:ae) (r:Int)=>CC Pg GE 42 [.agg (af x)] (.int .i64 r) []) (fun rec hrec x r h=>DA _ (fun t r h=>hrec t r h) h) h
abbrev oD:=(aa->Option Int)
abbrev sR(R:oD):Prop:=∀(p:aa) (r:Int),R p=some r->CC Pg GE 17 [.agg (ac p)] (.int .i64 r) []
noncomputable def OO:Code:=f17.body.getD .skip
def OE:List Nat:=[18]
section
variable(R4:oD)(t7:waA)(t8:Int)(n:Int)(t9:Int)
def ic:aq:=aP 19 [(3,.int .i64 n),(7,sl ac t7),(8,.int .i64 t8),(9,.int .i64 t9)] [.dead] []
def nm(o:Int):aq:=aP 19 [(3,.int .i64 o)] [.dead] []
def j1:Option ((Int×Int)⊕(Int)):=
 if(decide (t9<t8))=true then
  (eh t7 t9).bind fun x2=>
  (R4 x2).bind fun r3=>
  some (.inl (cf (n+r3),cf (t9+1)))
 else
  some (.inr n)
def qQ:Option Int:=loop (fun(zz:Int×Int)=>j1 R4 t7 t8 zz.1 zz.2) (n,t9)
theorem ze(hR4:sR R4){y:(Int×Int)⊕(Int)}(h:j1 R4 t7 t8 n t9=some y):aC Pg GE 0 (cA OO 119) (LQ (fun(zz:Int×Int)=>ic t7 t8 zz.1 zz.2) (fun _=>.exit 0) nm y) (ic t7 t8 n t9):=by
 rcases aT h with⟨c1,h⟩|⟨c1,h⟩
 ·obtain⟨x2,bx2,h⟩:=av h
  obtain⟨r3,br3,h⟩:=av h
  obtain rfl:=lf h
  have z:=sg 0 c1<|sv (aQ.ia (k:=.i64) bx2)<|sv (aB x2)<|sx dB<|sx (aW x2)<|sv (aD x2 [])<|bg (hR4 _ _ br3)<|jw 0 .normal (ic t7 t8 (cf (n+r3)) (cf (t9+1))) rfl (bS (aI trivial (aI (up (ak ag t7)) (aI trivial (aI trivial trivial))))) (aI trivial trivial)
  exact cd (A:=OE) mixed z<|by kernel_rfl
 ·obtain rfl:=lf h
  have z:=sg 0 c1<|eF (.exit 0) (nm n)
  exact gZ OE (by intro hx;cases hx) z<|by kernel_rfl
theorem AP(hR4:sR R4){x:Int}(h:qQ R4 t7 t8 n t9=some x):aC Pg GE 0 (.loop (cA OO 119)) (EX (.exit 0) (nm x)) (ic t7 t8 n t9):=
 aC.loop (S:=fun(zz:Int×Int)=>ic t7 t8 zz.1 zz.2) (ex:=(fun _=>.exit 0)) (s:=(n,t9)) h fun zz y hy=>ze R4 t7 t8 zz.1 zz.2 hR4 hy
end
def ou(R4:oD)(p:aa):Option Int:=
 (qQ R4 p.Kids (p.Kids.length:Int) 1 0).bind fun o4=>
 some o4
theorem Dx(R4:oD)(hR4:sR R4){p:aa}{r:Int}(h:ou R4 p=some r):CC Pg GE 17 [.agg (ac p)] (.int .i64 r) []:=by
 obtain⟨o4,bo4,h⟩:=av h
 obtain rfl:=lf h
 have z:=se (bj p)<|sv (ay p)<|sv (az p)<|cx (aQ.ln p.Kids)<|cC (AP R4 p.Kids (p.Kids.length:Int) 1 0 hR4 bo4)<|en (aI (rP (.int .i64 o4))<|trivial)
 exact cb OE call17 func17 (c:=OO) rfl (aI (ag p) trivial) z<|by kernel_rfl
def tb:(aa->Option Int)->(aa)->Option Int:=fun(rec:aa->Option Int) (x:aa)=>ou (fun p=>rec p) x
def nd(p:aa):Option Int:=kY tb p
theorem mH{p:aa}{r:Int}(h:nd p=some r):CC Pg GE 17 [.agg (ac p)] (.int .i64 r) []:=
 cw (F:=tb) (M:=fun(x:aa) (r:Int)=>CC Pg GE 17 [.agg (ac x)] (.int .i64 r) []) (fun rec hrec x r h=>Dx _ (fun p r h=>hrec p r h) h) h
noncomputable def b8:Code:=Tryz.f8.body.getD .skip
def A8:List Nat:=[]
section
variable(R2:pR)(t7:waC)(t8:Int)(t9:Int)(m:Int)(m2:ai)(m3:waC)(m4:waB)(m5:Int)(m6:ai)(m7:Int)(m8:waA)(m9:waA)
def EU:aq:=aP 52 [(4,.bptr 0 0),(7,sl af t7),(8,.int .i64 t8),(9,.int .i64 t9)] [.cells [.int .i64 m,.str m2,sl af m3,sl cS m4,.int .i64 m5,.str m6,.int .i64 m7,sl ac m8,sl ac m9] []] []
def it(o:Bool):aq:=aP 52 [(4,.bptr 0 0),(7,sl af t7),(8,.int .i64 t8),(9,.int .i64 t9),(39,.bool o)] [.cells [.int .i64 m,.str m2,sl af m3,sl cS m4,.int .i64 m5,.str m6,.int .i64 m7,sl ac m8,sl ac m9] []] []
def wA:Option Bool:=
 (zh (⟨m,m2,m3,m4,(⟨m5,m6,m7,m8⟩:aa),m9⟩:ae)).bind fun r3=>
 if(decide (r3>40))=true then
  some true
 else
  (nd (⟨m5,m6,m7,m8⟩:aa)).bind fun r6=>
  if(decide (r6>60))=true then
   some true
  else
   if(decide ((m4.length:Int)>20))=true then
    some true
   else
    if(decide ((m9.length:Int)>20))=true then
     some true
    else
     (R2 m3).bind fun r13=>
     some (!r13)
theorem DB(hR2:ur R2){x:Bool}(h:wA R2 m m2 m3 m4 m5 m6 m7 m8 m9=some x):aC Pg GE 0 (cA b8 7148) (EX .normal (it t7 t8 t9 m m2 m3 m4 m5 m6 m7 m8 m9 x)) (EU t7 t8 t9 m m2 m3 m4 m5 m6 m7 m8 m9):=by
 obtain⟨r3,br3,h⟩:=av h
 have p5:=fun{sc F} (r:PS sc F)=>sv (bk (⟨m,m2,m3,m4,(⟨m5,m6,m7,m8⟩:aa),m9⟩:ae) [])<|bg (ES br3)<|r
 rcases aT h with⟨c4,h⟩|⟨c4,h⟩
 ·obtain rfl:=lf h
  exact ct A8 (p5<|sg 4 c4<|eF .normal (it t7 t8 t9 m m2 m3 m4 m5 m6 m7 m8 m9 true))<|by kernel_rfl
 ·obtain⟨r6,br6,h⟩:=av h
  have p8:=fun{sc F} (r:PS sc F)=>p5<|sg 4 c4<|sv (aD (⟨m5,m6,m7,m8⟩:aa) [sl ac m9])<|bg (mH br6)<|r
  rcases aT h with⟨c7,h⟩|⟨c7,h⟩
  ·obtain rfl:=lf h
   exact ct A8 (p8<|sg 10 c7<|eF .normal (it t7 t8 t9 m m2 m3 m4 m5 m6 m7 m8 m9 true))<|by kernel_rfl
  ·have p10:=fun{sc F} (r:PS sc F)=>p8<|sg 10 c7<|ss<|cx (cn.ln m4)<|r
   rcases aT h with⟨c9,h⟩|⟨c9,h⟩
   ·obtain rfl:=lf h
    exact ct A8 (p10<|sg 16 c9<|eF .normal (it t7 t8 t9 m m2 m3 m4 m5 m6 m7 m8 m9 true))<|by kernel_rfl
   ·have p12:=fun{sc F} (r:PS sc F)=>p10<|sg 16 c9<|ss<|cx (aQ.ln m9)<|r
    rcases aT h with⟨c11,h⟩|⟨c11,h⟩
    ·obtain rfl:=lf h
     exact ct A8 (p12<|sg 22 c11<|eF .normal (it t7 t8 t9 m m2 m3 m4 m5 m6 m7 m8 m9 true))<|by kernel_rfl
    ·obtain⟨r13,br13,h⟩:=av h
     obtain rfl:=lf h
     exact ct A8 (p12<|sg 22 c11<|ss<|bg (hR2 _ _ br13)<|eF .normal (it t7 t8 t9 m m2 m3 m4 m5 m6 m7 m8 m9 (!r13)))<|by kernel_rfl
end
section
variable(t7:waC)(t8:Int)(t9:Int)(t41:waA)(t42:Int)(m:Int)(m2:ai)(m3:waC)(m4:waB)(m5:Int)(m6:ai)(m7:Int)(m8:waA)(t43:Int)
def ka:aq:=aP 52 [(7,sl af t7),(8,.int .i64 t8),(9,.int .i64 t9),(41,sl ac t41),(42,.int .i64 t42),(43,.int .i64 t43)] [.cells [.int .i64 m,.str m2,sl af m3,sl cS m4,.int .i64 m5,.str m6,.int .i64 m7,sl ac m8,sl ac t41] []] []
def kb(o:Unit⊕(Unit)):Exit:=match o with
 |(.inl _)=>.ret
 |(.inr _)=>.exit 2
def iv(o:Unit⊕(Unit)):aq:=match o with
 |(.inl o)=>aP 52 [(2,.bool false)] [.cells [.int .i64 m,.str m2,sl af m3,sl cS m4,.int .i64 m5,.str m6,.int .i64 m7,sl ac m8,sl ac t41] []] []
 |(.inr o)=>aP 52 [(7,sl af t7),(8,.int .i64 t8),(9,.int .i64 t9)] [.cells [.int .i64 m,.str m2,sl af m3,sl cS m4,.int .i64 m5,.str m6,.int .i64 m7,sl ac m8,sl ac t41] []] []
def xC:Option (Int⊕(Unit⊕(Unit))):=
 if(decide (t43<t42))=true then
  (eh t41 t43).bind fun x18=>
  (nd x18).bind fun r19=>
  if(decide (r19>60))=true then
   some (.inr (.inl ()))
  else
   some (.inl (cf (t43+1)))
 else
  some (.inr (.inr ()))
def wC:Option (Unit⊕(Unit)):=loop (fun(zz:Int)=>xC t41 t42 zz) t43
theorem BZ{y:Int⊕(Unit⊕(Unit))}(h:xC t41 t42 t43=some y):aC Pg GE 0 (cA b8 28607) (LQ (fun(zz:Int)=>ka t7 t8 t9 t41 t42 m m2 m3 m4 m5 m6 m7 m8 zz) kb (iv t7 t8 t9 t41 m m2 m3 m4 m5 m6 m7 m8) y) (ka t7 t8 t9 t41 t42 m m2 m3 m4 m5 m6 m7 m8 t43):=by
 rcases aT h with⟨c17,h⟩|⟨c17,h⟩
 ·obtain⟨x18,bx18,h⟩:=av h
  obtain⟨r19,br19,h⟩:=av h
  have p21:=fun{sc F} (r:PS sc F)=>sg 0 c17<|sv (aQ.ia (k:=.i64) bx18)<|sv (aB x18)<|sx dB<|sx (aW x18)<|sv (aD x18 [])<|bg (mH br19)<|r
  rcases aT h with⟨c20,h⟩|⟨c20,h⟩
  ·obtain rfl:=lf h
   have z:=p21<|sg 0 c20<|jw 0 (kb (.inl ())) (iv t7 t8 t9 t41 m m2 m3 m4 m5 m6 m7 m8 (.inl ())) rfl (bS (aI trivial trivial)) (aI (aI trivial (aI trivial (aI (up (ak al m3)) (aI (up (ak hZ m4)) (aI trivial (aI trivial (aI trivial (aI (up (ak ag m8)) (aI (up (ak ag t41)) trivial))))))))) trivial)
   exact gg (A:=A8) mixed (by intro hx;cases hx) z<|by kernel_rfl
  ·obtain rfl:=lf h
   have z:=p21<|sg 0 c20<|jw 0 .normal (ka t7 t8 t9 t41 t42 m m2 m3 m4 m5 m6 m7 m8 (cf (t43+1))) rfl (bS (aI (up (ak al t7)) (aI trivial (aI trivial (aI (up (ak ag t41)) (aI trivial (aI trivial trivial))))))) (aI (aI trivial (aI trivial (aI (up (ak al m3)) (aI (up (ak hZ m4)) (aI trivial (aI trivial (aI trivial (aI (up (ak ag m8)) (aI (up (ak ag t41)) trivial))))))))) trivial)
   exact cd (A:=A8) mixed z<|by kernel_rfl
 ·obtain rfl:=lf h
  have z:=sg 0 c17<|eF (kb (.inr ())) (iv t7 t8 t9 t41 m m2 m3 m4 m5 m6 m7 m8 (.inr ()))
  exact gZ A8 (by intro hx;cases hx) z<|by kernel_rfl
theorem vj{x:Unit⊕(Unit)}(h:wC t41 t42 t43=some x):aC Pg GE 0 (.loop (cA b8 28607)) (EX (kb x) (iv t7 t8 t9 t41 m m2 m3 m4 m5 m6 m7 m8 x)) (ka t7 t8 t9 t41 t42 m m2 m3 m4 m5 m6 m7 m8 t43):=
 aC.loop (S:=fun(zz:Int)=>ka t7 t8 t9 t41 t42 m m2 m3 m4 m5 m6 m7 m8 zz) (ex:=kb) (s:=t43) h fun zz y hy=>BZ t7 t8 t9 t41 t42 m m2 m3 m4 m5 m6 m7 m8 zz hy
end
section
variable(R2:pR)(t7:waC)(t8:Int)(t9:Int)
def j9:aq:=aP 52 [(7,sl af t7),(8,.int .i64 t8),(9,.int .i64 t9)] [] []
def iu(o:Unit⊕(Unit)):Exit:=match o with
 |(.inl _)=>.ret
 |(.inr _)=>.exit 0
def gd(o:Unit⊕(Unit)):aq:=match o with
 |(.inl o)=>aP 52 [(2,.bool false)] [] []
 |(.inr o)=>aP 52 [] [] []
def xB:Option (Int⊕(Unit⊕(Unit))):=
 if (decide (t9 < t8)) = true then
  (eh t7 t9).bind fun x2=>
  (wA R2 x2.Op x2.Name x2.Args x2.Names x2.Pred.Op x2.Pred.Name x2.Pred.N x2.Pred.Kids x2.Preds).bind fun o14=>
  if o14=true then
   some (.inr (.inl ()))
  else
   (wC x2.Preds (x2.Preds.length:Int) 0).bind fun o22=>match o22 with
   |(.inl o22)=>
    some (.inr (.inl ()))
   |(.inr o22)=>
    some (.inl (cf (t9+1)))
 else
  some (.inr (.inr ()))
def wB:Option (Unit⊕(Unit)):=loop (fun(zz:Int)=>xB R2 t7 t8 zz) t9
theorem BY(hR2:ur R2){y:Int⊕(Unit⊕(Unit))}(h:xB R2 t7 t8 t9=some y):aC Pg GE 0 (cA b8 55) (LQ (fun(zz:Int)=>j9 t7 t8 zz) iu gd y) (j9 t7 t8 t9):=by
 rcases aT h with⟨c1,h⟩|⟨c1,h⟩
 ·obtain⟨x2,bx2,h⟩:=av h
  obtain⟨o14,bo14,h⟩:=av h
  have p16:=fun{sc F} (r:PS sc F)=>sg 0 c1<|sv (dF.ia (k:=.i64) bx2)<|sv (bA x2)<|sx io<|sx (cB x2)<|mG 1<|cC (DB R2 t7 t8 t9 x2.Op x2.Name x2.Args x2.Names x2.Pred.Op x2.Pred.Name x2.Pred.N x2.Pred.Kids x2.Preds hR2 bo14)<|r
  rcases aT h with⟨c15,h⟩|⟨c15,h⟩
  ·obtain rfl:=lf h
   have z:=p16<|sg 0 c15<|jw 0 (iu (.inl ())) (gd (.inl ())) rfl (bS (aI trivial trivial)) trivial
   exact gg (A:=A8) mixed (by intro hx;cases hx) z<|by kernel_rfl
  ·obtain⟨o22,bo22,h⟩:=av h
   rcases o22 with o22|o22
   ·obtain rfl:=lf h
    have z:=p16<|sg 0 c15<|ss<|cx (aQ.ln x2.Preds)<|cC (e:=.ret) (s1:=iv t7 t8 t9 x2.Preds x2.Op x2.Name x2.Args x2.Names x2.Pred.Op x2.Pred.Name x2.Pred.N x2.Pred.Kids (.inl o22)) (vj t7 t8 t9 x2.Preds (x2.Preds.length:Int) x2.Op x2.Name x2.Args x2.Names x2.Pred.Op x2.Pred.Name x2.Pred.N x2.Pred.Kids 0 bo22)<|jw 0 (iu (.inl ())) (gd (.inl ())) rfl (bS (aI trivial trivial)) trivial
    exact gg (A:=A8) mixed (by intro hx;cases hx) z<|by kernel_rfl
   ·obtain rfl:=lf h
    have z:=p16<|sg 0 c15<|ss<|cx (aQ.ln x2.Preds)<|cC (e:=.exit 2) (s1:=iv t7 t8 t9 x2.Preds x2.Op x2.Name x2.Args x2.Names x2.Pred.Op x2.Pred.Name x2.Pred.N x2.Pred.Kids (.inr o22)) (vj t7 t8 t9 x2.Preds (x2.Preds.length:Int) x2.Op x2.Name x2.Args x2.Names x2.Pred.Op x2.Pred.Name x2.Pred.N x2.Pred.Kids 0 bo22)<|jw 0 .normal (j9 t7 t8 (cf (t9+1))) rfl (bS (aI (up (ak al t7)) (aI trivial (aI trivial trivial)))) trivial
    exact cd (A:=A8) mixed z<|by kernel_rfl
 ·obtain rfl:=lf h
  have z:=sg 0 c1<|eF (iu (.inr ())) (gd (.inr ()))
  exact gZ A8 (by intro hx;cases hx) z<|by kernel_rfl
theorem vg(hR2:ur R2){x:Unit⊕(Unit)}(h:wB R2 t7 t8 t9=some x):aC Pg GE 0 (.loop (cA b8 55)) (EX (iu x) (gd x)) (j9 t7 t8 t9):=
 aC.loop (S:=fun(zz:Int)=>j9 t7 t8 zz) (ex:=iu) (s:=t9) h fun zz y hy=>BY R2 t7 t8 zz hR2 hy
end
def ut(R2:pR)(a:waC):Option Bool:=
 (wB R2 a (a.length:Int) 0).bind fun o23=>match o23 with
 |(.inl o23)=>
  some false
 |(.inr o23)=>
  some true
theorem FM(R2:pR)(hR2:ur R2){a:waC}{r:Bool}(h:ut R2 a=some r):CC Pg GE 8 [sl af a] (.bool r) []:=by
 obtain⟨o23,bo23,h⟩:=av h
 rcases o23 with o23|o23
 ·obtain rfl:=lf h
  have z:=cx (dF.ln a)<|cC (e:=.ret) (s1:=gd (.inl o23)) (vg R2 a (a.length:Int) 0 hR2 bo23)<|en (aI (rP (.bool false))<|trivial)
  exact cb A8 call8 func8 (c:=b8) rfl (aI (ak al a) trivial) z<|by kernel_rfl
 ·obtain rfl:=lf h
  have z:=cx (dF.ln a)<|cC (e:=.exit 0) (s1:=gd (.inr o23)) (vg R2 a (a.length:Int) 0 hR2 bo23)<|en (aI (rP (.bool true))<|trivial)
  exact cb A8 call8 func8 (c:=b8) rfl (aI (ak al a) trivial) z<|by kernel_rfl
def zj:(waC->Option Bool)->(waC)->Option Bool:=fun(rec:waC->Option Bool) (x:waC)=>ut (fun a=>rec a) x
def ET(a:waC):Option Bool:=kY zj a
theorem G0{a:waC}{r:Bool}(h:ET a=some r):CC Pg GE 8 [sl af a] (.bool r) []:=
 cw (F:=zj) (M:=fun(x:waC) (r:Bool)=>CC Pg GE 8 [sl af x] (.bool r) []) (fun rec hrec x r h=>FM _ (fun a r h=>hrec a r h) h) h
noncomputable def Qs:Code:=f44.body.getD .skip
def Qb:List Nat:=[]
def lQ(s:ai):Option aa:=
 some (⟨3,s,0,([]:List aa)⟩:aa)
theorem ef{s:ai}{r:aa}(h:lQ s=some r):CC Pg GE 44 [.str s] (.agg (ac r)) [(3,28)]:=by
 obtain rfl:=lf h
 have z:=sx dB<|sb (mS 3 s) (mP 3 s)<|sy (ax (⟨3,s,0,([]:List aa)⟩:aa))<|en (aI (bR (⟨3,s,0,([]:List aa)⟩:aa))<|aI (ag (⟨3,s,0,([]:List aa)⟩:aa))<|rT)
 exact cb Qb call44 func44 (c:=Qs) rfl (aI trivial trivial) z<|by kernel_rfl
noncomputable def Qt:Code:=f45.body.getD .skip
def Qc:List Nat:=[]
def B5(k:Int):Option aa:=
 some (⟨1,([]:ai),k,([]:List aa)⟩:aa)
theorem pU{k:Int}{r:aa}(h:B5 k=some r):CC Pg GE 45 [.int .i64 k] (.agg (ac r)) [(3,28)]:=by
 obtain rfl:=lf h
 have z:=sx dB<|sb (mT 1 k) (mQ 1 k)<|sy (ax (⟨1,([]:ai),k,([]:List aa)⟩:aa))<|en (aI (bR (⟨1,([]:ai),k,([]:List aa)⟩:aa))<|aI (ag (⟨1,([]:ai),k,([]:List aa)⟩:aa))<|rT)
 exact cb Qc call45 func45 (c:=Qt) rfl (aI trivial trivial) z<|by kernel_rfl
noncomputable def Qr:Code:=f43.body.getD .skip
def Qa:List Nat:=[]
def kV(a:Int)(a2:waA):Option aa:=
 some (⟨a,([]:ai),0,a2⟩:aa)
theorem eU{a:Int}{a2:waA}{r:aa}(h:kV a a2=some r):CC Pg GE 43 [.int .i64 a,sl ac a2] (.agg (ac r)) []:=by
 obtain rfl:=lf h
 have z:=sx dB<|sv (mU a a2)<|sx (aW (⟨a,([]:ai),0,a2⟩:aa))<|en (aI (bR (⟨a,([]:ai),0,a2⟩:aa))<|(ag (⟨a,([]:ai),0,a2⟩:aa)))
 exact cb Qa call43 func43 (c:=Qr) rfl (aI trivial (aI (ak ag a2) trivial)) z<|by kernel_rfl
noncomputable def Qu:Code:=f46.body.getD .skip
def Qd:List Nat:=[]
def f9(p:aa):Option ae:=
 some (⟨1,([]:ai),([]:List ae),([]:List ai),p,([]:List aa)⟩:ae)
theorem eB{p:aa}{r:ae}(h:f9 p=some r):CC Pg GE 46 [.agg (ac p)] (.agg (af r)) [(2,30),(3,9),(8,28)]:=by
 obtain rfl:=lf h
 have z:=se (bj p)<|sx io<|sv (aB p)<|sb (E0 1 p) (EZ 1 p)<|sy (aO (⟨1,([]:ai),([]:List ae),([]:List ai),p,([]:List aa)⟩:ae))<|en (aI (cG (⟨1,([]:ai),([]:List ae),([]:List ai),p,([]:List aa)⟩:ae))<|aI (al (⟨1,([]:ai),([]:List ae),([]:List ai),p,([]:List aa)⟩:ae))<|rT)
 exact cb Qd call46 func46 (c:=Qu) rfl (aI (ag p) trivial) z<|by kernel_rfl
noncomputable def Qv:Code:=f47.body.getD .skip
def Qe:List Nat:=[]
def BG(name:ai)(result:ae):Option ae:=
 (f9 (⟨0,([]:ai),0,([]:List aa)⟩:aa)).bind fun r1=>
 some (⟨6,([]:ai),([r1,result]:List ae),([name]:List ai),(⟨0,([]:ai),0,([]:List aa)⟩:aa),([]:List aa)⟩:ae)
theorem wE{name:ai}{result:ae}{r:ae}(h:BG name result=some r):CC Pg GE 47 [.str name,.agg (af result)] (.agg (af r)) [(7,28),(8,28)]:=by
 obtain⟨r1,br1,h⟩:=av h
 obtain rfl:=lf h
 have z:=se (bY result)<|sx io<|ue [0,1,0,4,0,28,63,127]<|sv (cn.mk' (v:=PVal.str) FF ([name]:List ai) 1 (by kernel_rfl))<|sb (nA) (ny)<|bg (eB br1)<|sv (bA result)<|sv (dF.mk' (v:=pp) li ([r1,result]:List ae) 2 (by kernel_rfl))<|sb (B8 6 ([name]:List ai) ([r1,result]:List ae)) (B7 6 ([name]:List ai) ([r1,result]:List ae))<|KF (cB (⟨6,([]:ai),([r1,result]:List ae),([name]:List ai),(⟨0,([]:ai),0,([]:List aa)⟩:aa),([]:List aa)⟩:ae))<|en (aI (cG (⟨6,([]:ai),([r1,result]:List ae),([name]:List ai),(⟨0,([]:ai),0,([]:List aa)⟩:aa),([]:List aa)⟩:ae))<|aI (al (⟨6,([]:ai),([r1,result]:List ae),([name]:List ai),(⟨0,([]:ai),0,([]:List aa)⟩:aa),([]:List aa)⟩:ae))<|rT)
 exact cb Qe call47 func47 (c:=Qv) rfl (aI trivial (aI (al result) trivial)) z<|by kernel_rfl
noncomputable def K3:Code:=f106.body.getD .skip
def Jt:List Nat:=[10,17]
section
variable(s:waB)(v:ai)(t7:Int)(t8:Int)
def fl:aq:=aP 19 [(0,sl cS s),(1,.str v),(7,.int .i64 t7),(8,.int .i64 t8)] [] []
def fm(o:Int⊕(Unit)):Exit:=match o with
 |(.inl _)=>.ret
 |(.inr _)=>.exit 0
def ea(o:Int⊕(Unit)):aq:=match o with
 |(.inl o)=>aP 19 [(4,.int .i64 o)] [] []
 |(.inr o)=>aP 19 [] [] []
def dm:Option (Int⊕(Int⊕(Unit))):=
 if(decide (t8<t7))=true then
  (eh s t8).bind fun x2=>
  if(v==x2)=true then
   some (.inr (.inl t8))
  else
   some (.inl (cf (t8+1)))
 else
  some (.inr (.inr ()))
def mq:Option (Int⊕(Unit)):=loop (fun(zz:Int)=>dm s v t7 zz) t8
theorem u9{y:Int⊕(Int⊕(Unit))}(h:dm s v t7 t8=some y):aC Pg GE 0 (cA K3 55) (LQ (fun(zz:Int)=>fl s v t7 zz) fm ea y) (fl s v t7 t8):=by
 rcases aT h with⟨c1,h⟩|⟨c1,h⟩
 ·obtain⟨x2,bx2,h⟩:=av h
  have p4:=fun{sc F} (r:PS sc F)=>sg 0 c1<|sv (cn.ia (k:=.i64) bx2)<|sv (gh Iq (.str x2) [])<|r
  rcases aT h with⟨c3,h⟩|⟨c3,h⟩
  ·obtain rfl:=lf h
   have z:=p4<|sg 0 c3<|eF (fm (.inl t8)) (ea (.inl t8))
   exact gZ Jt (by intro hx;cases hx) z<|by kernel_rfl
  ·obtain rfl:=lf h
   exact Bd Jt (p4<|sg 0 c3<|eF .normal (fl s v t7 (cf (t8+1))))<|by kernel_rfl
 ·obtain rfl:=lf h
  have z:=sg 0 c1<|eF (fm (.inr ())) (ea (.inr ()))
  exact gZ Jt (by intro hx;cases hx) z<|by kernel_rfl
theorem od{x:Int⊕(Unit)}(h:mq s v t7 t8=some x):aC Pg GE 0 (.loop (cA K3 55)) (EX (fm x) (ea x)) (fl s v t7 t8):=
 aC.loop (S:=fun(zz:Int)=>fl s v t7 zz) (ex:=fm) (s:=t8) h fun zz y hy=>u9 s v t7 zz hy
end
def kI(s:waB)(v:ai):Option Int:=
 (mq s v (s.length:Int) 0).bind fun o5=>match o5 with
 |(.inl o5)=>
  some o5
 |(.inr o5)=>
  some (-1)
theorem sD{s:waB}{v:ai}{r:Int}(h:kI s v=some r):CC Pg GE 106 [sl cS s,.str v] (.int .i64 r) []:=by
 obtain⟨o5,bo5,h⟩:=av h
 rcases o5 with o5|o5
 ·obtain rfl:=lf h
  have z:=cx (cn.ln s)<|cC (e:=.ret) (s1:=ea (.inl o5)) (od s v (s.length:Int) 0 bo5)<|en (aI (rP (.int .i64 o5))<|trivial)
  exact cb Jt call106 func106 (c:=K3) rfl (aI (ak hZ s) (aI trivial trivial)) z<|by kernel_rfl
 ·obtain rfl:=lf h
  have z:=cx (cn.ln s)<|cC (e:=.exit 0) (s1:=ea (.inr o5)) (od s v (s.length:Int) 0 bo5)<|en (aI (rP (.int .i64 (-1)))<|trivial)
  exact cb Jt call106 func106 (c:=K3) rfl (aI (ak hZ s) (aI trivial trivial)) z<|by kernel_rfl
noncomputable def QB:Code:=f66.body.getD .skip
def Qk:List Nat:=[]
def gN(s:waB)(v:ai):Option Bool:=
 (kI s v).bind fun r1=>
 some (decide (r1>=0))
theorem eO{s:waB}{v:ai}{r:Bool}(h:gN s v=some r):CC Pg GE 66 [sl cS s,.str v] (.bool r) []:=by
 obtain⟨r1,br1,h⟩:=av h
 obtain rfl:=lf h
 have z:=bg (sD br1)<|en (aI (rP (.bool (decide (r1>=0))))<|trivial)
 exact cb Qk call66 func66 (c:=QB) rfl (aI (ak hZ s) (aI trivial trivial)) z<|by kernel_rfl
noncomputable def On:Code:=f49.body.getD .skip
def M6:List Nat:=[13,28,34]
section
variable(hidden:waB)(s:ah)(i:Int)(n:ai)(t9:waB)(t10:Int)(m:waA)(m2:waB)(m3:waA)
def jZ:aq:=aP 45 [(1,sl cS hidden),(2,.eptr (am s)),(4,.bptr 1 0),(5,.bptr 2 0),(6,.int .i64 i),(7,.str n),(9,sl cS t9),(10,.int .i64 t10),(11,.int .i64 i)] [.dead,.cells [sl cS ([]:List ai),sl ac m] [(0,9),(1,28)],.cells [sl cS m2,sl ac m3] [(0,9),(1,28)]] []
def de(o:Bool):aq:=aP 45 [(1,sl cS hidden),(2,.eptr (am s)),(4,.bptr 1 0),(5,.bptr 2 0),(6,.int .i64 i),(7,.str n),(9,sl cS t9),(10,.int .i64 t10),(11,.int .i64 i),(26,.bool o)] [.dead,.cells [sl cS ([]:List ai),sl ac m] [(0,9),(1,28)],.cells [sl cS m2,sl ac m3] [(0,9),(1,28)]] []
def fC:Option Bool:=
 (gN hidden n).bind fun r3=>
 if(!r3)=true then
  (gN m2 n).bind fun r5=>
  some (!r5)
 else
  some false
theorem jO{x:Bool}(h:fC hidden n m2=some x):aC Pg GE 0 (cA On 7670) (EX .normal (de hidden s i n t9 t10 m m2 m3 x)) (jZ hidden s i n t9 t10 m m2 m3):=by
 obtain⟨r3,br3,h⟩:=av h
 rcases aT h with⟨c4,h⟩|⟨c4,h⟩
 ·obtain⟨r5,br5,h⟩:=av h
  obtain rfl:=lf h
  exact ct M6 (bg (eO br3)<|sg 5 c4<|ss<|bg (eO br5)<|eF .normal (de hidden s i n t9 t10 m m2 m3 (!r5)))<|by kernel_rfl
 ·obtain rfl:=lf h
  exact ct M6 (bg (eO br3)<|sg 5 c4<|eF .normal (de hidden s i n t9 t10 m m2 m3 false))<|by kernel_rfl
end
section
variable(hidden:waB)(s:ah)(t9:waB)(t10:Int)(m:waA)(t11:Int)(m2:waB)(m3:waA)
def bF:aq:=aP 45 [(1,sl cS hidden),(2,.eptr (am s)),(4,.bptr 1 0),(5,.bptr 2 0),(9,sl cS t9),(10,.int .i64 t10),(11,.int .i64 t11)] [.dead,.cells [sl cS ([]:List ai),sl ac m] [(0,9),(1,28)],.cells [sl cS m2,sl ac m3] [(0,9),(1,28)]] []
def df(o:waB×waA):aq:=aP 45 [(4,.bptr 1 0),(5,.bptr 2 0)] [.dead,.cells [sl cS ([]:List ai),sl ac m] [(0,9),(1,28)],.cells [sl cS o.1,sl ac o.2] [(0,9),(1,28)]] []
def eQ:Option ((Int×waB×waA)⊕((waB×waA))):=
 if(decide (t11<t10))=true then
  (eh t9 t11).bind fun x2=>
  (fC hidden x2 m2).bind fun o6=>
  if o6=true then
   (app m2 ([x2]:List ai)).bind fun l9=>
   (eh s.by_ t11).bind fun x10=>
   (app m3 ([x10]:List aa)).bind fun l11=>
   some (.inl (cf (t11+1),l9,l11))
  else
   some (.inl (cf (t11+1),m2,m3))
 else
  some (.inr (m2,m3))
def fD:Option ((waB×waA)):=loop (fun(zz:Int×waB×waA)=>eQ hidden s t9 t10 zz.1 zz.2.1 zz.2.2) (t11,m2,m3)
theorem jn{y:(Int×waB×waA)⊕((waB×waA))}(h:eQ hidden s t9 t10 t11 m2 m3=some y):aC Pg GE 0 (cA On 119) (LQ (fun(zz:Int×waB×waA)=>bF hidden s t9 t10 m zz.1 zz.2.1 zz.2.2) (fun _=>.exit 0) (df m) y) (bF hidden s t9 t10 m t11 m2 m3):=by
 rcases aT h with⟨c1,h⟩|⟨c1,h⟩
 ·obtain⟨x2,bx2,h⟩:=av h
  obtain⟨o6,bo6,h⟩:=av h
  have p8:=fun{sc F} (r:PS sc F)=>sg 0 c1<|sv (cn.ia (k:=.i64) bx2)<|sv (gh Iq (.str x2) [])<|mG 0<|cC (jO hidden s t11 x2 t9 t10 m m2 m3 bo6)<|r
  rcases aT h with⟨c7,h⟩|⟨c7,h⟩
  ·obtain⟨l9,bl9,h⟩:=av h
   obtain⟨x10,bx10,h⟩:=av h
   obtain⟨l11,bl11,h⟩:=av h
   obtain rfl:=lf h
   exact Bd M6 (p8<|sg 0 c7<|sv (cn.mk' (v:=PVal.str) FF ([x2]:List ai) 1 (by kernel_rfl))<|sv (cn.ap bl9)<|ue [0,1,0,4,0,28,60,124,255,511,1023]<|sv (eb s)<|sv (ec s)<|sv (aQ.ia (k:=.i64) bx10)<|sv (aB x10)<|sv (aQ.mk' (v:=b9) aV ([x10]:List aa) 1 (by kernel_rfl))<|sv (aQ.ap bl11)<|KS (rfl:bZ (sl ac l11)=some [sl ac l11])<|eF .normal (bF hidden s t9 t10 m (cf (t11+1)) l9 l11))<|by kernel_rfl
  ·obtain rfl:=lf h
   exact Bd M6 (p8<|sg 0 c7<|eF .normal (bF hidden s t9 t10 m (cf (t11+1)) m2 m3))<|by kernel_rfl
 ·obtain rfl:=lf h
  have z:=sg 0 c1<|eF (.exit 0) (df m (m2,m3))
  exact gZ M6 (by intro hx;cases hx) z<|by kernel_rfl
theorem jP{x:(waB×waA)}(h:fD hidden s t9 t10 t11 m2 m3=some x):aC Pg GE 0 (.loop (cA On 119)) (EX (.exit 0) (df m x)) (bF hidden s t9 t10 m t11 m2 m3):=
 aC.loop (S:=fun(zz:Int×waB×waA)=>bF hidden s t9 t10 m zz.1 zz.2.1 zz.2.2) (ex:=(fun _=>.exit 0)) (s:=(t11,m2,m3)) h fun zz y hy=>jn hidden s t9 t10 m zz.1 zz.2.1 zz.2.2 hy
end
def cQ(s:ah)(hidden:waB):Option ah:=
 (fD hidden s s.names (s.names.length:Int) 0 ([]:List ai) ([]:List aa)).bind fun o12=>
 some (⟨o12.1,o12.2⟩:ah)
theorem dt{s:ah}{hidden:waB}{r:ah}(h:cQ s hidden=some r):CC Pg GE 49 [.agg (am s),sl cS hidden] (.agg (am r)) [(0,9),(1,28)]:=by
 obtain⟨o12,bo12,h⟩:=av h
 obtain rfl:=lf h
 have z:=se (cz s)<|sx HG<|sx HG<|sv (gm s)<|sv (gp s)<|cx (cn.ln s.names)<|cC (jP hidden s s.names (s.names.length:Int) ([]:List aa) 0 ([]:List ai) ([]:List aa) bo12)<|sz (bE (⟨o12.1,o12.2⟩:ah) [])<|sy (bM (⟨o12.1,o12.2⟩:ah))<|en (aI (jo (⟨o12.1,o12.2⟩:ah))<|aI (aR (⟨o12.1,o12.2⟩:ah))<|rT)
 exact cb M6 call49 func49 (c:=On) rfl (aI (aR s) (aI (ak hZ hidden) trivial)) z<|by kernel_rfl
abbrev bv:=(ah->ae->Option ae)
abbrev ca(R:bv):Prop:=∀(s:ah) (t:ae) (r:ae),R s t=some r->CC Pg GE 50 [.agg (am s),.agg (af t)] (.agg (af r)) [(2,30)]
abbrev jt:=(aa->waB->waA->Option aa)
abbrev mb(R:jt):Prop:=∀(p:aa) (a:waB) (a2:waA) (r:aa),R p a a2=some r->CC Pg GE 101 [.agg (ac p),sl cS a,sl ac a2] (.agg (ac r)) [(3,28)]
noncomputable def OM:Code:=f121.body.getD .skip
def OC:List Nat:=[]
def ru(a:waB)(s:ai):Option Int:=
 (kI a s).bind fun r1=>
 some r1
theorem vI{a:waB}{s:ai}{r:Int}(h:ru a s=some r):CC Pg GE 121 [sl cS a,.str s] (.int .i64 r) []:=by
 obtain⟨r1,br1,h⟩:=av h
 obtain rfl:=lf h
 have z:=bg (sD br1)<|en (aI (rP (.int .i64 r1))<|trivial)
 exact cb OC call121 func121 (c:=OM) rfl (aI (ak hZ a) (aI trivial trivial)) z<|by kernel_rfl
abbrev lF:=(aa->Option aa)
abbrev pq(R:lF):Prop:=∀(p:aa) (r:aa),R p=some r->CC Pg GE 99 [.agg (ac p)] (.agg (ac r)) [(3,28)]
end Go.Proofs.YtggeppllafbidaaGreatDoor
