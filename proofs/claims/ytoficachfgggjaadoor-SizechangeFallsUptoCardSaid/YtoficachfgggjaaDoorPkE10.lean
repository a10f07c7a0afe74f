/- PROVED: a part of the proof. Conditions: none. -/
import Derived.Test.YtoficachfgggjaaDoorPkE9
noncomputable section
namespace Go.Proofs.YtoficachfgggjaaDoor
open Go Go.Proofs.Tryd
set_option linter.unusedVariables false
set_option maxRecDepth 100000
noncomputable def DZ:Code:=f10.body.getD .skip
def Ar:List Nat:=[21]
section
variable(g:aa)
def oC:ak:=da 63 [(1,.eptr (ae g))] [.dead] []
def fI(o:Bool):ak:=da 63 [(1,.eptr (ae g)),(15,.bool o)] [.dead] []
def eB:Option Bool:=
 (kR g.Caller).bind fun r1=>
 if(r1 !=0)=true then
  some true
 else
  (kR g.Callee).bind fun r4=>
  some (r4 !=0)
theorem nV{x:Bool}(h:eB g=some x):aQ Pg GE 0 (cA DZ 12) (EX .normal (fI g x)) (oC g):=by
 obtain⟨r1,br1,h⟩:=aJ h
 have p3:=fun{sc F} (r:PS sc F)=>sv (bB g)<|sv (bR g)<|d7 (qn br1)<|r
 rcases bG h with⟨c2,h⟩|⟨c2,h⟩
 ·obtain rfl:=lf h
  exact jZ Ar (p3<|sg 5 c2<|eF .normal (fI g true))<|by kernel_rfl
 ·obtain⟨r4,br4,h⟩:=aJ h
  obtain rfl:=lf h
  exact jZ Ar (p3<|sg 5 c2<|sv (bP g)<|sv (cq g)<|d7 (qn br4)<|eF .normal (fI g (r4 !=0)))<|by kernel_rfl
end
section
variable(g:aa)(i:Int)(t17:waB)(t18:Int)(m1:kg)(m:Int)(m2:Int)(m3:Bool)
def oD:ak:=da 63 [(1,.eptr (ae g)),(3,.bptr 1 0),(4,.int .i64 i),(5,.bptr 2 0),(17,sl am t17),(18,.int .i64 t18),(19,.int .i64 i)] [.dead,.cells (j2 m1) [],.cells [.int .i64 m,.int .i64 m2,.bool m3] []] []
def fJ(o:Bool):ak:=da 63 [(1,.eptr (ae g)),(3,.bptr 1 0),(4,.int .i64 i),(5,.bptr 2 0),(17,sl am t17),(18,.int .i64 t18),(19,.int .i64 i),(24,.bool o)] [.dead,.cells (j2 m1) [],.cells [.int .i64 m,.int .i64 m2,.bool m3] []] []
def eC:Option Bool:=
 (e5 m).bind fun r10=>
 if(!r10)=true then
  some true
 else
  (e5 m2).bind fun r13=>
  some (!r13)
theorem nW{x:Bool}(h:eC m m2=some x):aQ Pg GE 0 (cA DZ 63450) (EX .normal (fJ g i t17 t18 m1 m m2 m3 x)) (oD g i t17 t18 m1 m m2 m3):=by
 obtain⟨r10,br10,h⟩:=aJ h
 have p12:=fun{sc F} (r:PS sc F)=>ss<|d7 (kb br10)<|r
 rcases bG h with⟨c11,h⟩|⟨c11,h⟩
 ·obtain rfl:=lf h
  exact jZ Ar (p12<|sg 5 c11<|eF .normal (fJ g i t17 t18 m1 m m2 m3 true))<|by kernel_rfl
 ·obtain⟨r13,br13,h⟩:=aJ h
  obtain rfl:=lf h
  exact jZ Ar (p12<|sg 5 c11<|ss<|d7 (kb br13)<|eF .normal (fJ g i t17 t18 m1 m m2 m3 (!r13)))<|by kernel_rfl
end
section
variable(g:aa)(i:Int)(t17:waB)(t18:Int)(m1:kg)(m:Int)(m2:Int)(m3:Bool)
def oE:ak:=da 63 [(1,.eptr (ae g)),(3,.bptr 1 0),(4,.int .i64 i),(5,.bptr 2 0),(17,sl am t17),(18,.int .i64 t18),(19,.int .i64 i)] [.dead,.cells (j2 m1) [],.cells [.int .i64 m,.int .i64 m2,.bool m3] []] []
def fK(o:Bool):ak:=da 63 [(1,.eptr (ae g)),(3,.bptr 1 0),(5,.bptr 2 0),(17,sl am t17),(18,.int .i64 t18),(19,.int .i64 i),(43,.bool o)] [.dead,.cells (j2 m1) [],.cells [.int .i64 m,.int .i64 m2,.bool m3] []] []
def eD:Option Bool:=
 if(decide (i>0))=true then
  (d9 g.Arcs (bN (i - 1))).bind fun x22=>
  (fV (⟨m,m2,m3⟩:ag) x22).bind fun r23=>
  some r23
 else
  some false
theorem nX{x:Bool}(h:eD g i m m2 m3=some x):aQ Pg GE 0 (cA DZ 1015230) (EX .normal (fK g i t17 t18 m1 m m2 m3 x)) (oE g i t17 t18 m1 m m2 m3):=by
 rcases bG h with⟨c21,h⟩|⟨c21,h⟩
 ·obtain⟨x22,bx22,h⟩:=aJ h
  obtain⟨r23,br23,h⟩:=aJ h
  obtain rfl:=lf h
  exact jZ Ar (Am [0,1,3,7,7,23,7,71,247,503,1023,2047,4095]<|sg 3 c21<|sv (uZ (⟨m,m2,m3⟩:ag) [])<|sv (ct g)<|sv (cu g)<|sv (gR.ia (k:=.i64) bx22)<|sv (jy x22)<|d7 (px br23)<|eF .normal (fK g i t17 t18 m1 m m2 m3 r23))<|by kernel_rfl
 ·obtain rfl:=lf h
  exact jZ Ar (Am [0,1,3,7,7,23,7,71,247,503,1023,2047,4095]<|sg 3 c21<|eF .normal (fK g i t17 t18 m1 m m2 m3 false))<|by kernel_rfl
end
section
variable(g:aa)(t17:waB)(t18:Int)(t19:Int)(m1:kg)
def cH:ak:=da 63 [(1,.eptr (ae g)),(3,.bptr 1 0),(17,sl am t17),(18,.int .i64 t18),(19,.int .i64 t19)] [.dead,.cells (j2 m1) []] []
def bj(o:(Int×kg)⊕(kg)):Exit:=match o with
 |(.inl _)=>.ret
 |(.inr _)=>.exit 0
def aR(o:(Int×kg)⊕(kg)):ak:=match o with
 |(.inl o)=>da 63 [(2,.int .i64 o.1)] [.dead,.cells (j2 o.2) []] []
 |(.inr o)=>da 63 [] [.dead,.cells (j2 o) []] []
def cJ:Option ((Int×kg)⊕((Int×kg)⊕(kg))):=
 if (decide (t19 < t18)) = true then
  (d9 t17 t19).bind fun x9=>
  (eC x9.From x9.To).bind fun o14=>
  if o14=true then
   some (.inr (.inl (2,m1)))
  else
   (oH 6 x9.From).bind fun i17=>
   (oH 6 x9.To).bind fun i18=>
   if(m1 (0+i17 * 6+i18 * 1))=true then
    some (.inr (.inl (4,m1)))
   else
    (eD g t19 x9.From x9.To x9.Strict).bind fun o24=>
    if o24=true then
     some (.inr (.inl (9,m1)))
    else
     (oH 6 x9.From).bind fun i27=>
     (oH 6 x9.To).bind fun i28=>
     some (.inl (bN (t19+1),gE m1 (0+i27 * 6+i28 * 1) true))
 else
  some (.inr (.inr m1))
def cC:Option ((Int×kg)⊕(kg)):=loop (fun(zz:Int×kg)=>cJ g t17 t18 zz.1 zz.2) (t19,m1)
theorem mV{y:(Int×kg)⊕((Int×kg)⊕(kg))}(h:cJ g t17 t18 t19 m1=some y):aQ Pg GE 0 (cA DZ 247) (LQ (fun(zz:Int×kg)=>cH g t17 t18 zz.1 zz.2) bj aR y) (cH g t17 t18 t19 m1):=by
 rcases bG h with⟨c8,h⟩|⟨c8,h⟩
 ·obtain⟨x9,bx9,h⟩:=aJ h
  obtain⟨o14,bo14,h⟩:=aJ h
  have p16:=fun{sc F} (r:PS sc F)=>sg 0 c8<|sv (gR.ia (k:=.i64) bx9)<|sv (jy x9)<|sx BP<|sx (mO x9)<|vY 1<|iw (nW g t19 t17 t18 m1 x9.From x9.To x9.Strict bo14)<|r
  rcases bG h with⟨c15,h⟩|⟨c15,h⟩
  ·obtain rfl:=lf h
   have z:=p16<|sg 0 c15<|tk 0 (bj (.inl (2,m1))) (aR (.inl (2,m1))) rfl (eG (aI trivial trivial)) (aI trivial (aI (nA (tV m1)) trivial))
   exact nN (A:=Ar) mixed (by intro hx;cases hx) z<|by kernel_rfl
  ·obtain⟨i17,bi17,h⟩:=aJ h
   obtain⟨i18,bi18,h⟩:=aJ h
   have p20:=fun{sc F} (r:PS sc F)=>p16<|sg 0 c15<|Am [0,1,0,4,3,31,63,127]<|ss<|ss<|sv (Fy (b:=1) (off:=0) (k:=.i64) bi17)<|sv (Fx (b:=1) (off:=0+i17 * 6) (k:=.i64) bi18)<|sv (Gs (x:=m1) (D5 bi17 bi18))<|r
   rcases bG h with⟨c19,h⟩|⟨c19,h⟩
   ·obtain rfl:=lf h
    have z:=p20<|sg 0 c19<|tk 0 (bj (.inl (4,m1))) (aR (.inl (4,m1))) rfl (eG (aI trivial trivial)) (aI trivial (aI (nA (tV m1)) trivial))
    exact nN (A:=Ar) mixed (by intro hx;cases hx) z<|by kernel_rfl
   ·obtain⟨o24,bo24,h⟩:=aJ h
    have p26:=fun{sc F} (r:PS sc F)=>p20<|sg 0 c19<|vY 0<|iw (nX g t19 t17 t18 m1 x9.From x9.To x9.Strict bo24)<|r
    rcases bG h with⟨c25,h⟩|⟨c25,h⟩
    ·obtain rfl:=lf h
     have z:=p26<|sg 0 c25<|tk 0 (bj (.inl (9,m1))) (aR (.inl (9,m1))) rfl (eG (aI trivial trivial)) (aI trivial (aI (nA (tV m1)) trivial))
     exact nN (A:=Ar) mixed (by intro hx;cases hx) z<|by kernel_rfl
    ·obtain⟨i27,bi27,h⟩:=aJ h
     obtain⟨i28,bi28,h⟩:=aJ h
     obtain rfl:=lf h
     have z:=p26<|sg 0 c25<|Ga (.dx [0,1,0,4,3,31,63] [] [] [1])<|ss<|ss<|sv (Fy (b:=1) (off:=0) (k:=.i64) bi27)<|sv (Fx (b:=1) (off:=0+i27 * 6) (k:=.i64) bi28)<|GP (Gt (x:=m1) (v:=true) (D5 bi27 bi28))<|tk 0 .normal (cH g t17 t18 (bN (t19+1)) (gE m1 (0+i27 * 6+i28 * 1) true)) rfl (eG (aI (nA (af g)) (aI (jU rfl) (aI (up (au aA t17)) (aI trivial (aI trivial trivial)))))) (aI trivial (aI (nA (tV (gE m1 (0+i27 * 6+i28 * 1) true))) trivial))
     exact gn (A:=Ar) mixed z<|by kernel_rfl
 ·obtain rfl:=lf h
  have z:=sg 0 c8<|eF (bj (.inr m1)) (aR (.inr m1))
  exact pO Ar (by intro hx;cases hx) z<|by kernel_rfl
theorem iV{x:(Int×kg)⊕(kg)}(h:cC g t17 t18 t19 m1=some x):aQ Pg GE 0 (.loop (cA DZ 247)) (EX (bj x) (aR x)) (cH g t17 t18 t19 m1):=
 aQ.loop (S:=fun(zz:Int×kg)=>cH g t17 t18 zz.1 zz.2) (ex:=bj) (s:=(t19,m1)) h fun zz y hy=>mV g t17 t18 zz.1 zz.2 hy
end
def ba(g:aa):Option Int:=
 (eB g).bind fun o5=>
 if o5=true then
  some 3
 else
  (cC g g.Arcs (g.Arcs.length:Int) 0 (qx false)).bind fun o29=>match o29 with
  |(.inl o29)=>
   some o29.1
  |(.inr o29)=>
   some 0
theorem cD{g:aa}{r:Int}(h:ba g=some r):CC Pg GE 10 [.agg (ae g)] (.int .i64 r) []:=by
 obtain⟨o5,bo5,h⟩:=aJ h
 have p7:=fun{sc F} (r:PS sc F)=>se (eK g)<|vY 1<|iw (nV g bo5)<|r
 rcases bG h with⟨c6,h⟩|⟨c6,h⟩
 ·obtain rfl:=lf h
  have z:=p7<|sg 0 c6<|en (aI (rP (.int .i64 3))<|trivial)
  exact cW Ar call10 func10 (c:=DZ) rfl (aI (af g) trivial) z<|by kernel_rfl
 ·obtain⟨o29,bo29,h⟩:=aJ h
  rcases o29 with o29|o29
  ·obtain rfl:=lf h
   have z:=p7<|sg 0 c6<|sx F5<|sv (ct g)<|sv (cu g)<|ke (gR.ln g.Arcs)<|iw (e:=.ret) (s1:=aR (.inl o29)) (iV g g.Arcs (g.Arcs.length:Int) 0 (qx false) bo29)<|en (aI (rP (.int .i64 o29.1))<|trivial)
   exact cW Ar call10 func10 (c:=DZ) rfl (aI (af g) trivial) z<|by kernel_rfl
  ·obtain rfl:=lf h
   have z:=p7<|sg 0 c6<|sx F5<|sv (ct g)<|sv (cu g)<|ke (gR.ln g.Arcs)<|iw (e:=.exit 0) (s1:=aR (.inr o29)) (iV g g.Arcs (g.Arcs.length:Int) 0 (qx false) bo29)<|en (aI (rP (.int .i64 0))<|trivial)
   exact cW Ar call10 func10 (c:=DZ) rfl (aI (af g) trivial) z<|by kernel_rfl
noncomputable def FC:Code:=f14.body.getD .skip
def Ed:List Nat:=[19,41]
section
variable(s:ah)(i:Int)(t15:waB)(t16:Int)(m:Int)(m2:Int)(m3:Bool)
def pu:ak:=da 42 [(3,.str s),(4,.int .i64 i),(5,.bptr 1 0),(15,sl am t15),(16,.int .i64 t16),(17,.int .i64 i)] [.dead,.cells [.int .i64 m,.int .i64 m2,.bool m3] []] []
def gp(o:ah):ak:=da 42 [(3,.str o),(5,.bptr 1 0),(15,sl am t15),(16,.int .i64 t16),(17,.int .i64 i)] [.dead,.cells [.int .i64 m,.int .i64 m2,.bool m3] []] []
def ff:Option ah:=
 if(decide (i>0))=true then
  (Co s ([44]:ah)).bind fun s7=>
  some s7
 else
  some s
theorem oz{x:ah}(h:ff s i=some x):aQ Pg GE 0 (cA FC 7670) (EX .normal (gp i t15 t16 m m2 m3 x)) (pu s i t15 t16 m m2 m3):=by
 rcases bG h with⟨c6,h⟩|⟨c6,h⟩
 ·obtain⟨s7,bs7,h⟩:=aJ h
  obtain rfl:=lf h
  exact jZ Ed (sg 0 c6<|sv (pA (P:=Pg) (t:=9) bs7)<|eF .normal (gp i t15 t16 m m2 m3 s7))<|by kernel_rfl
 ·obtain rfl:=lf h
  exact jZ Ed (sg 0 c6<|eF .normal (gp i t15 t16 m m2 m3 s))<|by kernel_rfl
end
section
variable(s:ah)(t15:waB)(t16:Int)(t17:Int)(m:Int)(m2:Int)(m3:Bool)
def pw:ak:=da 42 [(3,.str s),(5,.bptr 1 0),(6,.str ([32,62,61,32]:ah)),(15,sl am t15),(16,.int .i64 t16),(17,.int .i64 t17)] [.dead,.cells [.int .i64 m,.int .i64 m2,.bool m3] []] []
def gq(o:ah):ak:=da 42 [(3,.str s),(5,.bptr 1 0),(6,.str o),(15,sl am t15),(16,.int .i64 t16),(17,.int .i64 t17)] [.dead,.cells [.int .i64 m,.int .i64 m2,.bool m3] []] []
def fg:Option ah:=
 if m3=true then
  some ([32,62,32]:ah)
 else
  some ([32,62,61,32]:ah)
theorem oA{x:ah}(h:fg m3=some x):aQ Pg GE 0 (cA FC 30686) (EX .normal (gq s t15 t16 t17 m m2 m3 x)) (pw s t15 t16 t17 m m2 m3):=by
 rcases bG h with⟨c9,h⟩|⟨c9,h⟩
 ·obtain rfl:=lf h
  exact jZ Ed (ss<|sg 0 c9<|eF .normal (gq s t15 t16 t17 m m2 m3 ([32,62,32]:ah)))<|by kernel_rfl
 ·obtain rfl:=lf h
  exact jZ Ed (ss<|sg 0 c9<|eF .normal (gq s t15 t16 t17 m m2 m3 ([32,62,61,32]:ah)))<|by kernel_rfl
end
section
variable(t15:waB)(t16:Int)(s:ah)(t17:Int)
def de:ak:=da 42 [(3,.str s),(15,sl am t15),(16,.int .i64 t16),(17,.int .i64 t17)] [.dead] []
def gr(o:ah):ak:=da 42 [(3,.str o)] [.dead] []
def df:Option ((ah×Int)⊕(ah)):=
 if(decide (t17<t16))=true then
  (d9 t15 t17).bind fun x5=>
  (ff s t17).bind fun o8=>
  (fg x5.Strict).bind fun o10=>
  (AN x5.From).bind fun r11=>
  (Co ([32]:ah) r11).bind fun s12=>
  (Co s12 o10).bind fun s13=>
  (AN x5.To).bind fun r14=>
  (Co s13 r14).bind fun s15=>
  (Co o8 s15).bind fun s16=>
  some (.inl (s16,bN (t17+1)))
 else
  some (.inr s)
def cV:Option ah:=loop (fun(zz:ah×Int)=>df t15 t16 zz.1 zz.2) (s,t17)
theorem nU{y:(ah×Int)⊕(ah)}(h:df t15 t16 s t17=some y):aQ Pg GE 0 (cA FC 119) (LQ (fun(zz:ah×Int)=>de t15 t16 zz.1 zz.2) (fun _=>.exit 0) gr y) (de t15 t16 s t17):=by
 rcases bG h with⟨c4,h⟩|⟨c4,h⟩
 ·obtain⟨x5,bx5,h⟩:=aJ h
  obtain⟨o8,bo8,h⟩:=aJ h
  obtain⟨o10,bo10,h⟩:=aJ h
  obtain⟨r11,br11,h⟩:=aJ h
  obtain⟨s12,bs12,h⟩:=aJ h
  obtain⟨s13,bs13,h⟩:=aJ h
  obtain⟨r14,br14,h⟩:=aJ h
  obtain⟨s15,bs15,h⟩:=aJ h
  obtain⟨s16,bs16,h⟩:=aJ h
  obtain rfl:=lf h
  have z:=sg 0 c4<|sv (gR.ia (k:=.i64) bx5)<|sv (jy x5)<|sx BP<|sx (mO x5)<|vY 0<|iw (oz s t17 t15 t16 x5.From x5.To x5.Strict bo8)<|vY 1<|iw (oA o8 t15 t16 t17 x5.From x5.To x5.Strict bo10)<|Am [0,0,2,6,14,0,62,0,128,398,1022,2047,4095]<|ss<|d7 (AO br11)<|sv (pA (P:=Pg) (t:=9) bs12)<|sv (pA (P:=Pg) (t:=9) bs13)<|ss<|d7 (AO br14)<|sv (pA (P:=Pg) (t:=9) bs15)<|sv (pA (P:=Pg) (t:=9) bs16)<|tk 0 .normal (de t15 t16 s16 (bN (t17+1))) rfl (eG (aI trivial (aI (up (au aA t15)) (aI trivial (aI trivial trivial))))) (aI trivial trivial)
  exact gn (A:=Ed) mixed z<|by kernel_rfl
 ·obtain rfl:=lf h
  have z:=sg 0 c4<|eF (.exit 0) (gr s)
  exact pO Ed (by intro hx;cases hx) z<|by kernel_rfl
theorem oB{x:ah}(h:cV t15 t16 s t17=some x):aQ Pg GE 0 (.loop (cA FC 119)) (EX (.exit 0) (gr x)) (de t15 t16 s t17):=
 aQ.loop (S:=fun(zz:ah×Int)=>de t15 t16 zz.1 zz.2) (ex:=(fun _=>.exit 0)) (s:=(s,t17)) h fun zz y hy=>nU t15 t16 zz.1 zz.2 hy
end
def fC(g:aa):Option ah:=
 (Co g.Caller ([32,45,62,32]:ah)).bind fun s1=>
 (Co s1 g.Callee).bind fun s2=>
 (Co s2 ([58]:ah)).bind fun s3=>
 (cV g.Arcs (g.Arcs.length:Int) s3 0).bind fun o17=>
 some o17
theorem lj{g:aa}{r:ah}(h:fC g=some r):CC Pg GE 14 [.agg (ae g)] (.str r) []:=by
 obtain⟨s1,bs1,h⟩:=aJ h
 obtain⟨s2,bs2,h⟩:=aJ h
 obtain⟨s3,bs3,h⟩:=aJ h
 obtain⟨o17,bo17,h⟩:=aJ h
 obtain rfl:=lf h
 have z:=se (eK g)<|sv (bB g)<|sv (bR g)<|sv (pA (P:=Pg) (t:=9) bs1)<|sv (bP g)<|sv (cq g)<|sv (pA (P:=Pg) (t:=9) bs2)<|sv (pA (P:=Pg) (t:=9) bs3)<|sv (ct g)<|sv (cu g)<|ke (gR.ln g.Arcs)<|iw (oB g.Arcs (g.Arcs.length:Int) s3 0 bo17)<|en (aI (rP (.str o17))<|trivial)
 exact cW Ed call14 func14 (c:=FC) rfl (aI (af g) trivial) z<|by kernel_rfl
noncomputable def G1:Code:=f36.body.getD .skip
def GR:List Nat:=[17]
def bD(g:aa)(k1:(List (ah×Bool)))(k2:waA):Option ((List (ah×Bool))×waA):=
 (fC g).bind fun r1=>
 if(!((pf k1 r1).getD false))=true then
  (qA g.Arcs).bind fun r4=>
  (app k2 ([(⟨g.Caller,g.Callee,r4⟩:aa)]:List aa)).bind fun l5=>
  some (sw k1 r1 true,l5)
 else
  some (k1,k2)
theorem eO{g:aa}{k1:(List (ah×Bool))}{k2:waA}{r:(List (ah×Bool))×waA}(h:bD g k1 k2=some r):C Pg GE 36 [.agg (ae g),.bptr 0 0,.bptr 2 0] [] [.cells [.mapr 1] [],.map (dp PVal.bool k1),.cells [sl ae k2] [(0,24)]] (.tuple []) [] [.cells [.mapr 1] [],.map (dp PVal.bool r.1),.cells [sl ae r.2] [(0,24)]]:=by
 obtain⟨r1,br1,h⟩:=aJ h
 have p3:=fun{sc F} (r:PS sc F)=>sx (ig g)<|sv (cR g [])<|d7 (lj br1)<|ss<|sv (EH (f:=PVal.bool) underlying56 underlying9 Ht k1 r1)<|r
 rcases bG h with⟨c2,h⟩|⟨c2,h⟩
 ·obtain⟨r4,br4,h⟩:=aJ h
  obtain⟨l5,bl5,h⟩:=aJ h
  obtain rfl:=lf h
  have z:=p3<|sg 0 c2<|ss<|Hr (EI (f:=PVal.bool) underlying56 underlying9 k1 r1 true)<|ss<|d7 (zH br4)<|sv (cR (⟨g.Caller,g.Callee,r4⟩:aa) [])<|sv (fW.mk' (v:=pD) nP ([(⟨g.Caller,g.Callee,r4⟩:aa)]:List aa) 1 (by kernel_rfl))<|sv (fW.ap bl5)<|en (aI (rP (.tuple []))<|aI trivial<|aI (rL [.cells [.mapr 1] [],.map (dp PVal.bool (sw k1 r1 true)),.cells [sl ae l5] [(0,24)]])<|(aI (aI (jU (i:=1) (n:=3) rfl) trivial) (aI (Dv (n:=3) PVal.bool (fun x=>trivial) (sw k1 r1 true)) (aI (aI (up (n:=3) (au af l5)) trivial) trivial))))
  exact C.evGp (A:=GR) mixed (m:=3) (c:=G1) rfl call36 func36 rfl z<|by kernel_rfl
 ·obtain rfl:=lf h
  have z:=p3<|sg 0 c2<|en (aI (rP (.tuple []))<|aI trivial<|aI (rL [.cells [.mapr 1] [],.map (dp PVal.bool k1),.cells [sl ae k2] [(0,24)]])<|(aI (aI (jU (i:=1) (n:=3) rfl) trivial) (aI (Dv (n:=3) PVal.bool (fun x=>trivial) k1) (aI (aI (up (n:=3) (au af k2)) trivial) trivial))))
  exact C.evGp (A:=GR) mixed (m:=3) (c:=G1) rfl call36 func36 rfl z<|by kernel_rfl
noncomputable def Gx:Code:=f55.body.getD .skip
def Gd:List Nat:=[]
section
variable(t7:waB)(t8:Int)(t9:Int)(m2:iA)
def bK:ak:=da 29 [(2,.bptr 1 0),(3,.bptr 2 0),(7,sl am t7),(8,.int .i64 t8),(9,.int .i64 t9)] [.dead,.cells (bH (qx 0)) [],.cells (bH m2) []] []
def fN(o:iA):ak:=da 29 [(2,.bptr 1 0),(3,.bptr 2 0)] [.dead,.cells (bH (qx 0)) [],.cells (bH o) []] []
def fM:Option ((Int×iA)⊕(iA)):=
 if(decide (t9<t8))=true then
  (d9 t7 t9).bind fun x2=>
  (oH 6 x2.From).bind fun i3=>
  (oH 6 x2.To).bind fun i4=>
  if x2.Strict=true then
   (oH 6 x2.From).bind fun i7=>
   (oH 6 x2.To).bind fun i8=>
   some (.inl (bN (t9+1),gE (gE m2 (0+i3 * 6+i4 * 1) 1) (0+i7 * 6+i8 * 1) 2))
  else
   some (.inl (bN (t9+1),gE m2 (0+i3 * 6+i4 * 1) 1))
 else
  some (.inr m2)
def gS:Option iA:=loop (fun(zz:Int×iA)=>fM t7 t8 zz.1 zz.2) (t9,m2)
theorem mX{y:(Int×iA)⊕(iA)}(h:fM t7 t8 t9 m2=some y):aQ Pg GE 0 (cA Gx 119) (LQ (fun(zz:Int×iA)=>bK t7 t8 zz.1 zz.2) (fun _=>.exit 0) fN y) (bK t7 t8 t9 m2):=by
 rcases bG h with⟨c1,h⟩|⟨c1,h⟩
 ·obtain⟨x2,bx2,h⟩:=aJ h
  obtain⟨i3,bi3,h⟩:=aJ h
  obtain⟨i4,bi4,h⟩:=aJ h
  have p6:=fun{sc F} (r:PS sc F)=>sg 0 c1<|sv (gR.ia (k:=.i64) bx2)<|sv (jy x2)<|sx BP<|sx (mO x2)<|Ga (.dx [0,1,0,4,3,31,63] [] [] [2])<|ss<|ss<|sv (A7 (b:=2) (off:=0) (k:=.i64) bi3)<|sv (A6 (b:=2) (off:=0+i3 * 6) (k:=.i64) bi4)<|GP (FB (x:=m2) (v:=1) (D5 bi3 bi4))<|ss<|r
  rcases bG h with⟨c5,h⟩|⟨c5,h⟩
  ·obtain⟨i7,bi7,h⟩:=aJ h
   obtain⟨i8,bi8,h⟩:=aJ h
   obtain rfl:=lf h
   have z:=p6<|sg 0 c5<|Ga (.dx [0,1,0,4,3,31,63] [] [] [2])<|ss<|ss<|sv (A7 (b:=2) (off:=0) (k:=.i64) bi7)<|sv (A6 (b:=2) (off:=0+i7 * 6) (k:=.i64) bi8)<|GP (FB (x:=gE m2 (0+i3 * 6+i4 * 1) 1) (v:=2) (D5 bi7 bi8))<|tk 0 .normal (bK t7 t8 (bN (t9+1)) (gE (gE m2 (0+i3 * 6+i4 * 1) 1) (0+i7 * 6+i8 * 1) 2)) rfl (eG (aI (jU rfl) (aI (jU rfl) (aI (up (au aA t7)) (aI trivial (aI trivial trivial)))))) (aI trivial (aI (nA (rb (qx 0))) (aI (nA (rb (gE (gE m2 (0+i3 * 6+i4 * 1) 1) (0+i7 * 6+i8 * 1) 2))) trivial)))
   exact gn (A:=Gd) mixed z<|by kernel_rfl
  ·obtain rfl:=lf h
   have z:=p6<|sg 0 c5<|tk 0 .normal (bK t7 t8 (bN (t9+1)) (gE m2 (0+i3 * 6+i4 * 1) 1)) rfl (eG (aI (jU rfl) (aI (jU rfl) (aI (up (au aA t7)) (aI trivial (aI trivial trivial)))))) (aI trivial (aI (nA (rb (qx 0))) (aI (nA (rb (gE m2 (0+i3 * 6+i4 * 1) 1))) trivial)))
   exact gn (A:=Gd) mixed z<|by kernel_rfl
 ·obtain rfl:=lf h
  have z:=sg 0 c1<|eF (.exit 0) (fN m2)
  exact pO Gd (by intro hx;cases hx) z<|by kernel_rfl
theorem nY{x:iA}(h:gS t7 t8 t9 m2=some x):aQ Pg GE 0 (.loop (cA Gx 119)) (EX (.exit 0) (fN x)) (bK t7 t8 t9 m2):=
 aQ.loop (S:=fun(zz:Int×iA)=>bK t7 t8 zz.1 zz.2) (ex:=(fun _=>.exit 0)) (s:=(t9,m2)) h fun zz y hy=>mX t7 t8 zz.1 zz.2 hy
end
def e6(g:aa):Option iA:=
 (gS g.Arcs (g.Arcs.length:Int) 0 (qx 0)).bind fun o9=>
 some o9
theorem kc{g:aa}{r:iA}(h:e6 g=some r):CC Pg GE 55 [.agg (ae g)] (.agg (bH r)) []:=by
 obtain⟨o9,bo9,h⟩:=aJ h
 obtain rfl:=lf h
 have z:=se (eK g)<|sx F6<|sx F6<|sv (ct g)<|sv (cu g)<|ke (gR.ln g.Arcs)<|iw (nY g.Arcs (g.Arcs.length:Int) 0 (qx 0) bo9)<|sv (DG o9)<|sx (vo o9)<|en (aI (rP (.agg (bH o9)))<|(rb o9))
 exact cW Gd call55 func55 (c:=Gx) rfl (aI (af g) trivial) z<|by kernel_rfl
noncomputable def D1:Code:=f34.body.getD .skip
def B5:List Nat:=[23,26,29,60]
section
variable(v:Int)(to:Int)(best:Int)(m:Int)(m2:waB)(m3:iA)(m4:iA)(m5:ah)(m6:ah)(m7:waB)
def mW:ak:=da 72 [(4,.bptr 2 0),(5,.bptr 3 0),(6,.bptr 4 0),(7,.bptr 5 0),(8,.int .i64 v),(9,.int .i64 to),(10,.int .i64 best),(11,.int .i64 m),(21,.int .i64 v),(24,.int .i64 to),(27,.int .i64 m)] [.dead,.dead,.cells [.str ([]:ah),.str ([]:ah),sl am m2] [(2,43)],.cells (bH m3) [],.cells (bH m4) [],.cells [.str m5,.str m6,sl am m7] [(2,43)]] []
def eW(o:Bool):ak:=da 72 [(4,.bptr 2 0),(5,.bptr 3 0),(6,.bptr 4 0),(7,.bptr 5 0),(8,.int .i64 v),(9,.int .i64 to),(10,.int .i64 best),(11,.int .i64 m),(21,.int .i64 v),(24,.int .i64 to),(27,.int .i64 m),(43,.bool o)] [.dead,.dead,.cells [.str ([]:ah),.str ([]:ah),sl am m2] [(2,43)],.cells (bH m3) [],.cells (bH m4) [],.cells [.str m5,.str m6,sl am m7] [(2,43)]] []
def dZ:Option Bool:=
 (oH 6 v).bind fun i6=>
 (oH 6 m).bind fun i7=>
 if(decide ((m3 (0+i6 * 6+i7 * 1))>0))=true then
  (oH 6 m).bind fun i10=>
  (oH 6 to).bind fun i11=>
  some (decide ((m4 (0+i10 * 6+i11 * 1))>0))
 else
  some false
theorem mq{x:Bool}(h:dZ v to m m3 m4=some x):aQ Pg GE 0 (cA D1 4158643702) (EX .normal (eW v to best m m2 m3 m4 m5 m6 m7 x)) (mW v to best m m2 m3 m4 m5 m6 m7):=by
 obtain⟨i6,bi6,h⟩:=aJ h
 obtain⟨i7,bi7,h⟩:=aJ h
 have p9:=fun{sc F} (r:PS sc F)=>sv (A7 (b:=3) (off:=0) (k:=.i64) bi6)<|sv (A6 (b:=3) (off:=0+i6 * 6) (k:=.i64) bi7)<|sv (Ds (x:=m3) (D5 bi6 bi7))<|r
 rcases bG h with⟨c8,h⟩|⟨c8,h⟩
 ·obtain⟨i10,bi10,h⟩:=aJ h
  obtain⟨i11,bi11,h⟩:=aJ h
  obtain rfl:=lf h
  exact jZ B5 (p9<|sg 7 c8<|sv (A7 (b:=4) (off:=0) (k:=.i64) bi10)<|sv (A6 (b:=4) (off:=0+i10 * 6) (k:=.i64) bi11)<|sv (Ds (x:=m4) (D5 bi10 bi11))<|eF .normal (eW v to best m m2 m3 m4 m5 m6 m7 (decide ((m4 (0+i10 * 6+i11 * 1))>0))))<|by kernel_rfl
 ·obtain rfl:=lf h
  exact jZ B5 (p9<|sg 7 c8<|eF .normal (eW v to best m m2 m3 m4 m5 m6 m7 false))<|by kernel_rfl
end
section
variable(v:Int)(to:Int)(m:waB)(m3:iA)(m4:iA)(m2:ah)(m5:ah)(m6:waB)(best:Int)(t27:Int)
def bw:ak:=da 72 [(4,.bptr 2 0),(5,.bptr 3 0),(6,.bptr 4 0),(7,.bptr 5 0),(8,.int .i64 v),(9,.int .i64 to),(10,.int .i64 best),(21,.int .i64 v),(24,.int .i64 to),(27,.int .i64 t27)] [.dead,.dead,.cells [.str ([]:ah),.str ([]:ah),sl am m] [(2,43)],.cells (bH m3) [],.cells (bH m4) [],.cells [.str m2,.str m5,sl am m6] [(2,43)]] []
def eZ(o:Int):ak:=da 72 [(4,.bptr 2 0),(5,.bptr 3 0),(6,.bptr 4 0),(7,.bptr 5 0),(8,.int .i64 v),(9,.int .i64 to),(10,.int .i64 o),(21,.int .i64 v),(24,.int .i64 to)] [.dead,.dead,.cells [.str ([]:ah),.str ([]:ah),sl am m] [(2,43)],.cells (bH m3) [],.cells (bH m4) [],.cells [.str m2,.str m5,sl am m6] [(2,43)]] []
def dm:Option ((Int×Int)⊕(Int)):=
 if(decide (t27<6))=true then
  (dZ v to t27 m3 m4).bind fun o12=>
  if o12=true then
   (oH 6 v).bind fun i15=>
   (oH 6 t27).bind fun i16=>
   (oH 6 t27).bind fun i17=>
   (oH 6 to).bind fun i18=>
   some (.inl ((if(m4 (0+i17 * 6+i18 * 1))>(if(m3 (0+i15 * 6+i16 * 1))>best then m3 (0+i15 * 6+i16 * 1)else best)then m4 (0+i17 * 6+i18 * 1)else(if(m3 (0+i15 * 6+i16 * 1))>best then m3 (0+i15 * 6+i16 * 1)else best)),bN (t27+1)))
  else
   some (.inl (best,bN (t27+1)))
 else
  some (.inr best)
def d4:Option Int:=loop (fun(zz:Int×Int)=>dm v to m3 m4 zz.1 zz.2) (best,t27)
theorem lG{y:(Int×Int)⊕(Int)}(h:dm v to m3 m4 best t27=some y):aQ Pg GE 0 (cA D1 64978807) (LQ (fun(zz:Int×Int)=>bw v to m m3 m4 m2 m5 m6 zz.1 zz.2) (fun _=>.exit 4) (eZ v to m m3 m4 m2 m5 m6) y) (bw v to m m3 m4 m2 m5 m6 best t27):=by
 rcases bG h with⟨c5,h⟩|⟨c5,h⟩
 ·obtain⟨o12,bo12,h⟩:=aJ h
  have p14:=fun{sc F} (r:PS sc F)=>sg 0 c5<|vY 2<|iw (mq v to best t27 m m3 m4 m2 m5 m6 bo12)<|r
  rcases bG h with⟨c13,h⟩|⟨c13,h⟩
  ·obtain⟨i15,bi15,h⟩:=aJ h
   obtain⟨i16,bi16,h⟩:=aJ h
   obtain⟨i17,bi17,h⟩:=aJ h
   obtain⟨i18,bi18,h⟩:=aJ h
   obtain rfl:=lf h
   exact zA B5 (p14<|sg 0 c13<|Am [0,0,0,2,14,30,0,0,64,448,960,2047,4095]<|sv (A7 (b:=3) (off:=0) (k:=.i64) bi15)<|sv (A6 (b:=3) (off:=0+i15 * 6) (k:=.i64) bi16)<|sv (Ds (x:=m3) (D5 bi15 bi16))<|sv (A7 (b:=4) (off:=0) (k:=.i64) bi17)<|sv (A6 (b:=4) (off:=0+i17 * 6) (k:=.i64) bi18)<|sv (Ds (x:=m4) (D5 bi17 bi18))<|eF .normal (bw v to m m3 m4 m2 m5 m6 (if(m4 (0+i17 * 6+i18 * 1))>(if(m3 (0+i15 * 6+i16 * 1))>best then m3 (0+i15 * 6+i16 * 1)else best)then m4 (0+i17 * 6+i18 * 1)else(if(m3 (0+i15 * 6+i16 * 1))>best then m3 (0+i15 * 6+i16 * 1)else best)) (bN (t27+1))))<|by kernel_rfl
  ·obtain rfl:=lf h
   exact zA B5 (p14<|sg 0 c13<|eF .normal (bw v to m m3 m4 m2 m5 m6 best (bN (t27+1))))<|by kernel_rfl
 ·obtain rfl:=lf h
  have z:=sg 0 c5<|eF (.exit 4) (eZ v to m m3 m4 m2 m5 m6 best)
  exact pO B5 (by intro hx;cases hx) z<|by kernel_rfl
theorem mt{x:Int}(h:d4 v to m3 m4 best t27=some x):aQ Pg GE 0 (.loop (cA D1 64978807)) (EX (.exit 4) (eZ v to m m3 m4 m2 m5 m6 x)) (bw v to m m3 m4 m2 m5 m6 best t27):=
 aQ.loop (S:=fun(zz:Int×Int)=>bw v to m m3 m4 m2 m5 m6 zz.1 zz.2) (ex:=(fun _=>.exit 4)) (s:=(best,t27)) h fun zz y hy=>lG v to m m3 m4 m2 m5 m6 zz.1 zz.2 hy
end
section
variable(v:Int)(m:waB)(m3:iA)(m4:iA)(m2:ah)(m5:ah)(t24:Int)(m6:waB)
def bv:ak:=da 72 [(4,.bptr 2 0),(5,.bptr 3 0),(6,.bptr 4 0),(7,.bptr 5 0),(8,.int .i64 v),(21,.int .i64 v),(24,.int .i64 t24)] [.dead,.dead,.cells [.str ([]:ah),.str ([]:ah),sl am m] [(2,43)],.cells (bH m3) [],.cells (bH m4) [],.cells [.str m2,.str m5,sl am m6] [(2,43)]] []
def eY(o:waB):ak:=da 72 [(4,.bptr 2 0),(5,.bptr 3 0),(6,.bptr 4 0),(7,.bptr 5 0),(21,.int .i64 v)] [.dead,.dead,.cells [.str ([]:ah),.str ([]:ah),sl am m] [(2,43)],.cells (bH m3) [],.cells (bH m4) [],.cells [.str m2,.str m5,sl am o] [(2,43)]] []
def co:Option ((Int×waB)⊕(waB)):=
 if(decide (t24<6))=true then
  (d4 v t24 m3 m4 0 0).bind fun o19=>
  if(decide (o19>0))=true then
   (app m6 ([(⟨v,t24,o19==2⟩:ag)]:List ag)).bind fun l22=>
   some (.inl (bN (t24+1),l22))
  else
   some (.inl (bN (t24+1),m6))
 else
  some (.inr m6)
def je:Option waB:=loop (fun(zz:Int×waB)=>co v m3 m4 zz.1 zz.2) (t24,m6)
theorem lF{y:(Int×waB)⊕(waB)}(h:co v m3 m4 t24 m6=some y):aQ Pg GE 0 (cA D1 63455) (LQ (fun(zz:Int×waB)=>bv v m m3 m4 m2 m5 zz.1 zz.2) (fun _=>.exit 2) (eY v m m3 m4 m2 m5) y) (bv v m m3 m4 m2 m5 t24 m6):=by
 rcases bG h with⟨c4,h⟩|⟨c4,h⟩
 ·obtain⟨o19,bo19,h⟩:=aJ h
  have p21:=fun{sc F} (r:PS sc F)=>sg 0 c4<|iw (mt v t24 m m3 m4 m2 m5 m6 0 0 bo19)<|r
  rcases bG h with⟨c20,h⟩|⟨c20,h⟩
  ·obtain⟨l22,bl22,h⟩:=aJ h
   obtain rfl:=lf h
   exact zA B5 (p21<|sg 0 c20<|sv (qe v t24 (o19==2))<|sv (gR.mk' (v:=Ap) y8 ([(⟨v,t24,o19==2⟩:ag)]:List ag) 1 (by kernel_rfl))<|sv (gR.ap bl22)<|eF .normal (bv v m m3 m4 m2 m5 (bN (t24+1)) l22))<|by kernel_rfl
  ·obtain rfl:=lf h
   exact zA B5 (p21<|sg 0 c20<|eF .normal (bv v m m3 m4 m2 m5 (bN (t24+1)) m6))<|by kernel_rfl
 ·obtain rfl:=lf h
  have z:=sg 0 c4<|eF (.exit 2) (eY v m m3 m4 m2 m5 m6)
  exact pO B5 (by intro hx;cases hx) z<|by kernel_rfl
theorem ms{x:waB}(h:je v m3 m4 t24 m6=some x):aQ Pg GE 0 (.loop (cA D1 63455)) (EX (.exit 2) (eY v m m3 m4 m2 m5 x)) (bv v m m3 m4 m2 m5 t24 m6):=
 aQ.loop (S:=fun(zz:Int×waB)=>bv v m m3 m4 m2 m5 zz.1 zz.2) (ex:=(fun _=>.exit 2)) (s:=(t24,m6)) h fun zz y hy=>lF v m m3 m4 m2 m5 zz.1 zz.2 hy
end
section
variable(m:waB)(m3:iA)(m4:iA)(m2:ah)(m5:ah)(t21:Int)(m6:waB)
def cm:ak:=da 72 [(4,.bptr 2 0),(5,.bptr 3 0),(6,.bptr 4 0),(7,.bptr 5 0),(21,.int .i64 t21)] [.dead,.dead,.cells [.str ([]:ah),.str ([]:ah),sl am m] [(2,43)],.cells (bH m3) [],.cells (bH m4) [],.cells [.str m2,.str m5,sl am m6] [(2,43)]] []
def eX(o:waB):ak:=da 72 [(4,.bptr 2 0),(7,.bptr 5 0)] [.dead,.dead,.cells [.str ([]:ah),.str ([]:ah),sl am m] [(2,43)],.cells (bH m3) [],.cells (bH m4) [],.cells [.str m2,.str m5,sl am o] [(2,43)]] []
def cn:Option ((Int×waB)⊕(waB)):=
 if(decide (t21<6))=true then
  (je t21 m3 m4 0 m6).bind fun o23=>
  some (.inl (bN (t21+1),o23))
 else
  some (.inr m6)
def fL:Option waB:=loop (fun(zz:Int×waB)=>cn m3 m4 zz.1 zz.2) (t21,m6)
theorem lE{y:(Int×waB)⊕(waB)}(h:cn m3 m4 t21 m6=some y):aQ Pg GE 0 (cA D1 247) (LQ (fun(zz:Int×waB)=>cm m m3 m4 m2 m5 zz.1 zz.2) (fun _=>.exit 0) (eX m m3 m4 m2 m5) y) (cm m m3 m4 m2 m5 t21 m6):=by
 rcases bG h with⟨c3,h⟩|⟨c3,h⟩
 ·obtain⟨o23,bo23,h⟩:=aJ h
  obtain rfl:=lf h
  exact zA B5 (sg 0 c3<|iw (ms t21 m m3 m4 m2 m5 0 m6 bo23)<|eF .normal (cm m m3 m4 m2 m5 (bN (t21+1)) o23))<|by kernel_rfl
 ·obtain rfl:=lf h
  have z:=sg 0 c3<|eF (.exit 0) (eX m m3 m4 m2 m5 m6)
  exact pO B5 (by intro hx;cases hx) z<|by kernel_rfl
theorem mr{x:waB}(h:fL m3 m4 t21 m6=some x):aQ Pg GE 0 (.loop (cA D1 247)) (EX (.exit 0) (eX m m3 m4 m2 m5 x)) (cm m m3 m4 m2 m5 t21 m6):=
 aQ.loop (S:=fun(zz:Int×waB)=>cm m m3 m4 m2 m5 zz.1 zz.2) (ex:=(fun _=>.exit 0)) (s:=(t21,m6)) h fun zz y hy=>lE m m3 m4 m2 m5 zz.1 zz.2 hy
end
def bF(a:aa)(a2:aa):Option aa:=
 (e6 a).bind fun r1=>
 (e6 a2).bind fun r2=>
 (fL r1 r2 0 ([]:List ag)).bind fun o24=>
 some (⟨a.Caller,a2.Callee,o24⟩:aa)
theorem d5{a:aa}{a2:aa}{r:aa}(h:bF a a2=some r):CC Pg GE 34 [.agg (ae a),.agg (ae a2)] (.agg (ae r)) [(2,43)]:=by
 obtain⟨r1,br1,h⟩:=aJ h
 obtain⟨r2,br2,h⟩:=aJ h
 obtain⟨o24,bo24,h⟩:=aJ h
 obtain rfl:=lf h
 have z:=se (eK a)<|se (eK a2)<|sx vL<|Am [0,1,0,7,0,0,63,127]<|sv (cQ a)<|d7 (kc br1)<|sv (cQ a2)<|d7 (kc br2)<|sx (vo r1)<|sx (vo r2)<|sv (bB a)<|sv (bR a)<|sv (bP a2)<|sv (cq a2)<|sb (qf a.Caller a2.Callee) (qc a.Caller a2.Callee)<|sx vL<|sy (cP (⟨a.Caller,a2.Callee,([]:List ag)⟩:aa))<|iw (mr ([]:List ag) r1 r2 a.Caller a2.Callee 0 ([]:List ag) bo24)<|sz (cR (⟨a.Caller,a2.Callee,o24⟩:aa) [])<|sy (cP (⟨a.Caller,a2.Callee,o24⟩:aa))<|en (aI (jm (⟨a.Caller,a2.Callee,o24⟩:aa))<|aI (af (⟨a.Caller,a2.Callee,o24⟩:aa))<|rT)
 exact cW B5 call34 func34 (c:=D1) rfl (aI (af a) (aI (af a2) trivial)) z<|by kernel_rfl
noncomputable def Hm:Code:=f85.body.getD .skip
def Hi:List Nat:=[]
def pI(a:ah):Option Bool:=
 some (!(a==a))
theorem rf{a:ah}{r:Bool}(h:pI a=some r):CC Pg GE 85 [.str a] (.bool r) []:=by
 obtain rfl:=lf h
 have z:=en (aI (rP (.bool (!(a==a))))<|trivial)
 exact cW Hi call85 func85 (c:=Hm) rfl (aI trivial trivial) z<|by kernel_rfl
noncomputable def Fc:Code:=f59.body.getD .skip
def E8:List Nat:=[]
def jL(a:ah)(a2:ah):Option Int:=
 (pI a).bind fun r1=>
 (pI a2).bind fun r2=>
 if r1=true then
  if r2=true then
   some 0
  else
   some (-1)
 else
  if r2=true then
   some 1
  else
   if(Op.bytesLess a a2)=true then
    some (-1)
   else
    if(!(Op.bytesLess a a2||a==a2))=true then
     some 1
    else
     some 0
theorem oZ{a:ah}{a2:ah}{r:Int}(h:jL a a2=some r):CC Pg GE 59 [.str a,.str a2] (.int .i64 r) []:=by
 obtain⟨r1,br1,h⟩:=aJ h
 obtain⟨r2,br2,h⟩:=aJ h
 have p4:=fun{sc F} (r:PS sc F)=>d7 (rf br1)<|d7 (rf br2)<|r
 rcases bG h with⟨c3,h⟩|⟨c3,h⟩
 ·have p6:=fun{sc F} (r:PS sc F)=>p4<|sg 0 c3<|r
  rcases bG h with⟨c5,h⟩|⟨c5,h⟩
  ·obtain rfl:=lf h
   have z:=p6<|sg 0 c5<|en (aI (rP (.int .i64 0))<|trivial)
   exact cW E8 call59 func59 (c:=Fc) rfl (aI trivial (aI trivial trivial)) z<|by kernel_rfl
  ·obtain rfl:=lf h
   have z:=p6<|sg 0 c5<|en (aI (rP (.int .i64 (-1)))<|trivial)
   exact cW E8 call59 func59 (c:=Fc) rfl (aI trivial (aI trivial trivial)) z<|by kernel_rfl
 ·have p8:=fun{sc F} (r:PS sc F)=>p4<|sg 0 c3<|r
  rcases bG h with⟨c7,h⟩|⟨c7,h⟩
  ·obtain rfl:=lf h
   have z:=p8<|sg 0 c7<|en (aI (rP (.int .i64 1))<|trivial)
   exact cW E8 call59 func59 (c:=Fc) rfl (aI trivial (aI trivial trivial)) z<|by kernel_rfl
  ·have p10:=fun{sc F} (r:PS sc F)=>p8<|sg 0 c7<|r
   rcases bG h with⟨c9,h⟩|⟨c9,h⟩
   ·obtain rfl:=lf h
    have z:=p10<|sg 0 c9<|en (aI (rP (.int .i64 (-1)))<|trivial)
    exact cW E8 call59 func59 (c:=Fc) rfl (aI trivial (aI trivial trivial)) z<|by kernel_rfl
   ·have p12:=fun{sc F} (r:PS sc F)=>p10<|sg 0 c9<|r
    rcases bG h with⟨c11,h⟩|⟨c11,h⟩
    ·obtain rfl:=lf h
     have z:=p12<|sg 0 c11<|en (aI (rP (.int .i64 1))<|trivial)
     exact cW E8 call59 func59 (c:=Fc) rfl (aI trivial (aI trivial trivial)) z<|by kernel_rfl
    ·obtain rfl:=lf h
     have z:=p12<|sg 0 c11<|en (aI (rP (.int .i64 0))<|trivial)
     exact cW E8 call59 func59 (c:=Fc) rfl (aI trivial (aI trivial trivial)) z<|by kernel_rfl
noncomputable def Gg:Code:=f58.body.getD .skip
def Fh:List Nat:=[15,17]
section
variable(t6:(List Int))(t7:Int)(t8:Int)
def jM:ak:=da 18 [(3,.int .i64 0),(6,sl (cI .i64) t6),(7,.int .i64 t7),(8,.int .i64 t8)] [] []
def jO(o:Int⊕(Unit)):Exit:=match o with
 |(.inl _)=>.ret
 |(.inr _)=>.exit 0
def io(o:Int⊕(Unit)):ak:=match o with
 |(.inl o)=>da 18 [(2,.int .i64 o)] [] []
 |(.inr o)=>da 18 [(3,.int .i64 0)] [] []
def jN:Option (Int⊕(Int⊕(Unit))):=
 if(decide (t8<t7))=true then
  (d9 t6 t8).bind fun x2=>
  if(x2 !=0)=true then
   some (.inr (.inl x2))
  else
   some (.inl (bN (t8+1)))
 else
  some (.inr (.inr ()))
def kz:Option (Int⊕(Unit)):=loop (fun(zz:Int)=>jN t6 t7 zz) t8
theorem wd{y:Int⊕(Int⊕(Unit))}(h:jN t6 t7 t8=some y):aQ Pg GE 0 (cA Gg 119) (LQ (fun(zz:Int)=>jM t6 t7 zz) jO io y) (jM t6 t7 t8):=by
 rcases bG h with⟨c1,h⟩|⟨c1,h⟩
 ·obtain⟨x2,bx2,h⟩:=aJ h
  have p4:=fun{sc F} (r:PS sc F)=>sg 0 c1<|sv (zn.ia (k:=.i64) bx2)<|sv (xJ Hq (.int .i64 x2) [])<|r
  rcases bG h with⟨c3,h⟩|⟨c3,h⟩
  ·obtain rfl:=lf h
   have z:=p4<|sg 0 c3<|eF (jO (.inl x2)) (io (.inl x2))
   exact pO Fh (by intro hx;cases hx) z<|by kernel_rfl
  ·obtain rfl:=lf h
   exact zA Fh (p4<|sg 0 c3<|eF .normal (jM t6 t7 (bN (t8+1))))<|by kernel_rfl
 ·obtain rfl:=lf h
  have z:=sg 0 c1<|eF (jO (.inr ())) (io (.inr ()))
  exact pO Fh (by intro hx;cases hx) z<|by kernel_rfl
theorem re{x:Int⊕(Unit)}(h:kz t6 t7 t8=some x):aQ Pg GE 0 (.loop (cA Gg 119)) (EX (jO x) (io x)) (jM t6 t7 t8):=
 aQ.loop (S:=fun(zz:Int)=>jM t6 t7 zz) (ex:=jO) (s:=t8) h fun zz y hy=>wd t6 t7 zz hy
end
def uB(vals:(List Int)):Option Int:=
 (kz vals (vals.length:Int) 0).bind fun o5=>match o5 with
 |(.inl o5)=>
  some o5
 |(.inr o5)=>
  some 0
theorem wI{vals:(List Int)}{r:Int}(h:uB vals=some r):CC Pg GE 58 [sl (cI .i64) vals] (.int .i64 r) []:=by
 obtain⟨o5,bo5,h⟩:=aJ h
 rcases o5 with o5|o5
 ·obtain rfl:=lf h
  have z:=ke (zn.ln vals)<|iw (e:=.ret) (s1:=io (.inl o5)) (re vals (vals.length:Int) 0 bo5)<|en (aI (rP (.int .i64 o5))<|trivial)
  exact cW Fh call58 func58 (c:=Gg) rfl (aI (au (Gy .i64) vals) trivial) z<|by kernel_rfl
 ·obtain rfl:=lf h
  have z:=ke (zn.ln vals)<|iw (e:=.exit 0) (s1:=io (.inr o5)) (re vals (vals.length:Int) 0 bo5)<|en (aI (rP (.int .i64 0))<|trivial)
  exact cW Fh call58 func58 (c:=Gg) rfl (aI (au (Gy .i64) vals) trivial) z<|by kernel_rfl
noncomputable def Hn:Code:=f86.body.getD .skip
def Hj:List Nat:=[]
def lI(a:Int):Option Bool:=
 some (a !=a)
theorem o0{a:Int}{r:Bool}(h:lI a=some r):CC Pg GE 86 [.int .i64 a] (.bool r) []:=by
 obtain rfl:=lf h
 have z:=en (aI (rP (.bool (a !=a)))<|trivial)
 exact cW Hj call86 func86 (c:=Hn) rfl (aI trivial trivial) z<|by kernel_rfl
noncomputable def Fd:Code:=f62.body.getD .skip
def E9:List Nat:=[]
def fE(a:Int)(a2:Int):Option Int:=
 (lI a).bind fun r1=>
 (lI a2).bind fun r2=>
 if r1=true then
  if r2=true then
   some 0
  else
   some (-1)
 else
  if r2=true then
   some 1
  else
   if(decide (a<a2))=true then
    some (-1)
   else
    if(decide (a>a2))=true then
     some 1
    else
     some 0
theorem jk{a:Int}{a2:Int}{r:Int}(h:fE a a2=some r):CC Pg GE 62 [.int .i64 a,.int .i64 a2] (.int .i64 r) []:=by
 obtain⟨r1,br1,h⟩:=aJ h
 obtain⟨r2,br2,h⟩:=aJ h
 have p4:=fun{sc F} (r:PS sc F)=>d7 (o0 br1)<|d7 (o0 br2)<|r
 rcases bG h with⟨c3,h⟩|⟨c3,h⟩
 ·have p6:=fun{sc F} (r:PS sc F)=>p4<|sg 0 c3<|r
  rcases bG h with⟨c5,h⟩|⟨c5,h⟩
  ·obtain rfl:=lf h
   have z:=p6<|sg 0 c5<|en (aI (rP (.int .i64 0))<|trivial)
   exact cW E9 call62 func62 (c:=Fd) rfl (aI trivial (aI trivial trivial)) z<|by kernel_rfl
  ·obtain rfl:=lf h
   have z:=p6<|sg 0 c5<|en (aI (rP (.int .i64 (-1)))<|trivial)
   exact cW E9 call62 func62 (c:=Fd) rfl (aI trivial (aI trivial trivial)) z<|by kernel_rfl
 ·have p8:=fun{sc F} (r:PS sc F)=>p4<|sg 0 c3<|r
  rcases bG h with⟨c7,h⟩|⟨c7,h⟩
  ·obtain rfl:=lf h
   have z:=p8<|sg 0 c7<|en (aI (rP (.int .i64 1))<|trivial)
   exact cW E9 call62 func62 (c:=Fd) rfl (aI trivial (aI trivial trivial)) z<|by kernel_rfl
  ·have p10:=fun{sc F} (r:PS sc F)=>p8<|sg 0 c7<|r
   rcases bG h with⟨c9,h⟩|⟨c9,h⟩
   ·obtain rfl:=lf h
    have z:=p10<|sg 0 c9<|en (aI (rP (.int .i64 (-1)))<|trivial)
    exact cW E9 call62 func62 (c:=Fd) rfl (aI trivial (aI trivial trivial)) z<|by kernel_rfl
   ·have p12:=fun{sc F} (r:PS sc F)=>p10<|sg 0 c9<|r
    rcases bG h with⟨c11,h⟩|⟨c11,h⟩
    ·obtain rfl:=lf h
     have z:=p12<|sg 0 c11<|en (aI (rP (.int .i64 1))<|trivial)
     exact cW E9 call62 func62 (c:=Fd) rfl (aI trivial (aI trivial trivial)) z<|by kernel_rfl
    ·obtain rfl:=lf h
     have z:=p12<|sg 0 c11<|en (aI (rP (.int .i64 0))<|trivial)
     exact cW E9 call62 func62 (c:=Fd) rfl (aI trivial (aI trivial trivial)) z<|by kernel_rfl
noncomputable def G5:Code:=f63.body.getD .skip
def GV:List Nat:=[]
def gu(a:Bool):Option Int:=
 if a=true then
  some 1
 else
  some 0
theorem lU{a:Bool}{r:Int}(h:gu a=some r):CC Pg GE 63 [.bool a] (.int .i64 r) []:=by
 rcases bG h with⟨c1,h⟩|⟨c1,h⟩
 ·obtain rfl:=lf h
  have z:=sg 0 c1<|en (aI (rP (.int .i64 1))<|trivial)
  exact cW GV call63 func63 (c:=G5) rfl (aI trivial trivial) z<|by kernel_rfl
 ·obtain rfl:=lf h
  have z:=sg 0 c1<|en (aI (rP (.int .i64 0))<|trivial)
  exact cW GV call63 func63 (c:=G5) rfl (aI trivial trivial) z<|by kernel_rfl
noncomputable def Hl:Code:=f61.body.getD .skip
def Hh:List Nat:=[]
def fh(a:ag)(a2:ag):Option Int:=
 (fE a.From a2.From).bind fun r1=>
 (fE a.To a2.To).bind fun r2=>
 (gu a.Strict).bind fun r3=>
 (gu a2.Strict).bind fun r4=>
 (fE r3 r4).bind fun r5=>
 (uB ([r1,r2,r5]:List Int)).bind fun r6=>
 some r6
theorem oF{a:ag}{a2:ag}{r:Int}(h:fh a a2=some r):CC Pg GE 61 [.agg (am a),.agg (am a2)] (.int .i64 r) []:=by
 obtain⟨r1,br1,h⟩:=aJ h
 obtain⟨r2,br2,h⟩:=aJ h
 obtain⟨r3,br3,h⟩:=aJ h
 obtain⟨r4,br4,h⟩:=aJ h
 obtain⟨r5,br5,h⟩:=aJ h
 obtain⟨r6,br6,h⟩:=aJ h
 obtain rfl:=lf h
 have z:=se (rI a)<|se (rI a2)<|Am [0,1,0,4,15,0,32,0,128,511,0,1024,4095,0,8192,32767,65535,131071,262143,524287]<|sv (fb a)<|sv (gf a)<|sv (fb a2)<|sv (gf a2)<|d7 (jk br1)<|sv (iN a)<|sv (jS a)<|sv (iN a2)<|sv (jS a2)<|d7 (jk br2)<|sv (nE a)<|sv (pe a)<|d7 (lU br3)<|sv (nE a2)<|sv (pe a2)<|d7 (lU br4)<|d7 (jk br5)<|sv (zn.mk' (v:=(PVal.int .i64)) (Hf .i64) ([r1,r2,r5]:List Int) 3 (by kernel_rfl))<|d7 (wI br6)<|en (aI (rP (.int .i64 r6))<|trivial)
 exact cW Hh call61 func61 (c:=Hl) rfl (aI (aA a) (aI (aA a2) trivial)) z<|by kernel_rfl
noncomputable def FH:Code:=f60.body.getD .skip
def Ee:List Nat:=[15,32]
section
variable(s1:waB)(s2:waB)(t12:Int)(t13:Int)
def cp:ak:=da 39 [(0,sl am s1),(1,sl am s2),(2,.func (.func 61) [] []),(11,sl am s1),(12,.int .i64 t12),(13,.int .i64 t13)] [] []
def bA(o:Int⊕(Unit)):Exit:=match o with
 |(.inl _)=>.ret
 |(.inr _)=>.exit 0
def aX(o:Int⊕(Unit)):ak:=match o with
 |(.inl o)=>da 39 [(6,.int .i64 o)] [] []
 |(.inr o)=>da 39 [(0,sl am s1),(1,sl am s2)] [] []
def bz:Option (Int⊕(Int⊕(Unit))):=
 if (decide (t13 < t12)) = true then
  (d9 s1 t13).bind fun x2=>
  if(decide (t13>=(s2.length:Int)))=true then
   some (.inr (.inl 1))
  else
   (d9 s2 t13).bind fun x5=>
   (fh x2 x5).bind fun r6=>
   if(r6 !=0)=true then
    some (.inr (.inl r6))
   else
    some (.inl (bN (t13+1)))
 else
  some (.inr (.inr ()))
def bL:Option (Int⊕(Unit)):=loop (fun(zz:Int)=>bz s1 s2 t12 zz) t13
theorem lH{y:Int⊕(Int⊕(Unit))}(h:bz s1 s2 t12 t13=some y):aQ Pg GE 0 (cA FH 55) (LQ (fun(zz:Int)=>cp s1 s2 t12 zz) bA (aX s1 s2) y) (cp s1 s2 t12 t13):=by
 rcases bG h with⟨c1,h⟩|⟨c1,h⟩
 ·obtain⟨x2,bx2,h⟩:=aJ h
  have p4:=fun{sc F} (r:PS sc F)=>sg 0 c1<|sv (gR.ia (k:=.i64) bx2)<|sv (jy x2)<|sx BP<|sx (mO x2)<|ke (gR.ln s2)<|r
  rcases bG h with⟨c3,h⟩|⟨c3,h⟩
  ·obtain rfl:=lf h
   have z:=p4<|sg 0 c3<|tk 0 (bA (.inl 1)) (aX s1 s2 (.inl 1)) rfl (eG (aI trivial trivial)) trivial
   exact nN (A:=Ee) mixed (by intro hx;cases hx) z<|by kernel_rfl
  ·obtain⟨x5,bx5,h⟩:=aJ h
   obtain⟨r6,br6,h⟩:=aJ h
   have p8:=fun{sc F} (r:PS sc F)=>p4<|sg 0 c3<|sv (gR.ia (k:=.i64) bx5)<|sv (jy x5)<|sx BP<|sx (mO x5)<|sv (uZ x2 [])<|sv (uZ x5 [])<|d7 (oF br6)<|r
   rcases bG h with⟨c7,h⟩|⟨c7,h⟩
   ·obtain rfl:=lf h
    have z:=p8<|sg 0 c7<|tk 0 (bA (.inl r6)) (aX s1 s2 (.inl r6)) rfl (eG (aI trivial trivial)) trivial
    exact nN (A:=Ee) mixed (by intro hx;cases hx) z<|by kernel_rfl
   ·obtain rfl:=lf h
    have z:=p8<|sg 0 c7<|tk 0 .normal (cp s1 s2 t12 (bN (t13+1))) rfl (eG (aI (up (au aA s1)) (aI (up (au aA s2)) (aI (aI trivial trivial) (aI (up (au aA s1)) (aI trivial (aI trivial trivial))))))) trivial
    exact gn (A:=Ee) mixed z<|by kernel_rfl
 ·obtain rfl:=lf h
  have z:=sg 0 c1<|eF (bA (.inr ())) (aX s1 s2 (.inr ()))
  exact pO Ee (by intro hx;cases hx) z<|by kernel_rfl
theorem g4{x:Int⊕(Unit)}(h:bL s1 s2 t12 t13=some x):aQ Pg GE 0 (.loop (cA FH 55)) (EX (bA x) (aX s1 s2 x)) (cp s1 s2 t12 t13):=
 aQ.loop (S:=fun(zz:Int)=>cp s1 s2 t12 zz) (ex:=bA) (s:=t13) h fun zz y hy=>lH s1 s2 t12 zz hy
end
def fi(s1:waB)(s2:waB):Option Int:=
 (bL s1 s2 (s1.length:Int) 0).bind fun o9=>match o9 with
 |(.inl o9)=>
  some o9
 | (.inr o9) =>
  if(decide ((s1.length:Int)<(s2.length:Int)))=true then
   some (-1)
  else
   some 0
theorem oG{s1:waB}{s2:waB}{r:Int}(h:fi s1 s2=some r):CC Pg GE 60 [sl am s1,sl am s2,.func (.func 61) [] []] (.int .i64 r) []:=by
 obtain⟨o9,bo9,h⟩:=aJ h
 rcases o9 with o9|o9
 ·obtain rfl:=lf h
  have z:=ke (gR.ln s1)<|iw (e:=.ret) (s1:=aX s1 s2 (.inl o9)) (g4 s1 s2 (s1.length:Int) 0 bo9)<|en (aI (rP (.int .i64 o9))<|trivial)
  exact cW Ee call60 func60 (c:=FH) rfl (aI (au aA s1) (aI (au aA s2) (aI (aI trivial trivial) trivial))) z<|by kernel_rfl
 ·have p11:=fun{sc F} (r:PS sc F)=>ke (gR.ln s1)<|iw (e:=.exit 0) (s1:=aX s1 s2 (.inr o9)) (g4 s1 s2 (s1.length:Int) 0 bo9)<|ke (gR.ln s1)<|ke (gR.ln s2)<|r
  rcases bG h with⟨c10,h⟩|⟨c10,h⟩
  ·obtain rfl:=lf h
   have z:=p11<|sg 0 c10<|en (aI (rP (.int .i64 (-1)))<|trivial)
   exact cW Ee call60 func60 (c:=FH) rfl (aI (au aA s1) (aI (au aA s2) (aI (aI trivial trivial) trivial))) z<|by kernel_rfl
  ·obtain rfl:=lf h
   have z:=p11<|sg 0 c10<|en (aI (rP (.int .i64 0))<|trivial)
   exact cW Ee call60 func60 (c:=FH) rfl (aI (au aA s1) (aI (au aA s2) (aI (aI trivial trivial) trivial))) z<|by kernel_rfl
noncomputable def G2:Code:=f39.body.getD .skip
def GS:List Nat:=[20]
def be(a:aa)(a2:aa):Option Int:=
 (jL a.Caller a2.Caller).bind fun r1=>
 (jL a.Callee a2.Callee).bind fun r2=>
 (uB ([r1,r2]:List Int)).bind fun r3=>
 if(r3 !=0)=true then
  some r3
 else
  (fi a.Arcs a2.Arcs).bind fun r6=>
  some r6
theorem pX{a:aa}{a2:aa}{r:Int}(h:be a a2=some r):CC Pg GE 39 [.agg (ae a),.agg (ae a2)] (.int .i64 r) []:=by
 obtain⟨r1,br1,h⟩:=aJ h
 obtain⟨r2,br2,h⟩:=aJ h
 obtain⟨r3,br3,h⟩:=aJ h
 have p5:=fun{sc F} (r:PS sc F)=>se (eK a)<|se (eK a2)<|Am [0,1,0,4,15,0,32,0,128,511,1023,2047,4095]<|sv (bB a)<|sv (bR a)<|sv (bB a2)<|sv (bR a2)<|d7 (oZ br1)<|sv (bP a)<|sv (cq a)<|sv (bP a2)<|sv (cq a2)<|d7 (oZ br2)<|sv (zn.mk' (v:=(PVal.int .i64)) (Hf .i64) ([r1,r2]:List Int) 2 (by kernel_rfl))<|d7 (wI br3)<|r
 rcases bG h with⟨c4,h⟩|⟨c4,h⟩
 ·obtain rfl:=lf h
  have z:=p5<|sg 0 c4<|en (aI (rP (.int .i64 r3))<|trivial)
  exact cW GS call39 func39 (c:=G2) rfl (aI (af a) (aI (af a2) trivial)) z<|by kernel_rfl
 ·obtain⟨r6,br6,h⟩:=aJ h
  obtain rfl:=lf h
  have z:=p5<|sg 0 c4<|sv (ct a)<|sv (cu a)<|sv (ct a2)<|sv (cu a2)<|d7 (oG br6)<|en (aI (rP (.int .i64 r6))<|trivial)
  exact cW GS call39 func39 (c:=G2) rfl (aI (af a) (aI (af a2) trivial)) z<|by kernel_rfl
end Go.Proofs.YtoficachfgggjaaDoor
