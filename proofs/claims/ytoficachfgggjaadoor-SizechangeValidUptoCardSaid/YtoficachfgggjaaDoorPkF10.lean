/- PROVED: a part of the proof. Conditions: none. -/
import Derived.Test.YtoficachfgggjaaDoorPkF9
noncomputable section
namespace Go.Proofs.YtoficachfgggjaaDoor
open Go Go.Proofs.Tryd
set_option linter.unusedVariables false
set_option maxRecDepth 100000
noncomputable def Cr:Code:=f10.body.getD .skip
def zf:List Nat:=[21]
section
variable(g:ae)
def nq:aj:=a7 63 [(1,.eptr (ac g))] [.dead] []
def eL(o:Bool):aj:=a7 63 [(1,.eptr (ac g)),(15,.bool o)] [.dead] []
def dE:Option Bool:=
 (kl g.Caller).bind fun r1=>
 if(r1 !=0)=true then
  some true
 else
  (kl g.Callee).bind fun r4=>
  some (r4 !=0)
theorem mS{x:Bool}(h:dE g=some x):aE Pg GE 0 (cA Cr 12) (EX .normal (eL g x)) (nq g):=by
 obtain⟨r1,br1,h⟩:=au h
 have p3:=fun{sc F} (r:PS sc F)=>sv (aP g)<|sv (aX g)<|bY (pr br1)<|r
 rcases aM h with⟨c2,h⟩|⟨c2,h⟩
 ·obtain rfl:=lf h
  exact di zf (p3<|sg 5 c2<|eF .normal (eL g true))<|by kernel_rfl
 ·obtain⟨r4,br4,h⟩:=au h
  obtain rfl:=lf h
  exact di zf (p3<|sg 5 c2<|sv (aQ g)<|sv (aY g)<|bY (pr br4)<|eF .normal (eL g (r4 !=0)))<|by kernel_rfl
end
section
variable(g:ae)(i:Int)(t17:waA)(t18:Int)(m1:jF)(m:Int)(m2:Int)(m3:Bool)
def nr:aj:=a7 63 [(1,.eptr (ac g)),(3,.bptr 1 0),(4,.int .i64 i),(5,.bptr 2 0),(17,sl ak t17),(18,.int .i64 t18),(19,.int .i64 i)] [.dead,.cells (jr m1) [],.cells [.int .i64 m,.int .i64 m2,.bool m3] []] []
def eM(o:Bool):aj:=a7 63 [(1,.eptr (ac g)),(3,.bptr 1 0),(4,.int .i64 i),(5,.bptr 2 0),(17,sl ak t17),(18,.int .i64 t18),(19,.int .i64 i),(24,.bool o)] [.dead,.cells (jr m1) [],.cells [.int .i64 m,.int .i64 m2,.bool m3] []] []
def dF:Option Bool:=
 (d6 m).bind fun r10=>
 if(!r10)=true then
  some true
 else
  (d6 m2).bind fun r13=>
  some (!r13)
theorem mT{x:Bool}(h:dF m m2=some x):aE Pg GE 0 (cA Cr 63450) (EX .normal (eM g i t17 t18 m1 m m2 m3 x)) (nr g i t17 t18 m1 m m2 m3):=by
 obtain⟨r10,br10,h⟩:=au h
 have p12:=fun{sc F} (r:PS sc F)=>ss<|bY (jA br10)<|r
 rcases aM h with⟨c11,h⟩|⟨c11,h⟩
 ·obtain rfl:=lf h
  exact di zf (p12<|sg 5 c11<|eF .normal (eM g i t17 t18 m1 m m2 m3 true))<|by kernel_rfl
 ·obtain⟨r13,br13,h⟩:=au h
  obtain rfl:=lf h
  exact di zf (p12<|sg 5 c11<|ss<|bY (jA br13)<|eF .normal (eM g i t17 t18 m1 m m2 m3 (!r13)))<|by kernel_rfl
end
section
variable(g:ae)(i:Int)(t17:waA)(t18:Int)(m1:jF)(m:Int)(m2:Int)(m3:Bool)
def nu:aj:=a7 63 [(1,.eptr (ac g)),(3,.bptr 1 0),(4,.int .i64 i),(5,.bptr 2 0),(17,sl ak t17),(18,.int .i64 t18),(19,.int .i64 i)] [.dead,.cells (jr m1) [],.cells [.int .i64 m,.int .i64 m2,.bool m3] []] []
def eN(o:Bool):aj:=a7 63 [(1,.eptr (ac g)),(3,.bptr 1 0),(5,.bptr 2 0),(17,sl ak t17),(18,.int .i64 t18),(19,.int .i64 i),(43,.bool o)] [.dead,.cells (jr m1) [],.cells [.int .i64 m,.int .i64 m2,.bool m3] []] []
def dG:Option Bool:=
 if(decide (i>0))=true then
  (gk g.Arcs (cD (i - 1))).bind fun x22=>
  (eU (⟨m,m2,m3⟩:am) x22).bind fun r23=>
  some r23
 else
  some false
theorem mU{x:Bool}(h:dG g i m m2 m3=some x):aE Pg GE 0 (cA Cr 1015230) (EX .normal (eN g i t17 t18 m1 m m2 m3 x)) (nu g i t17 t18 m1 m m2 m3):=by
 rcases aM h with⟨c21,h⟩|⟨c21,h⟩
 ·obtain⟨x22,bx22,h⟩:=au h
  obtain⟨r23,br23,h⟩:=au h
  obtain rfl:=lf h
  exact di zf (xi [0,1,3,7,7,23,7,71,247,503,1023,2047,4095]<|sg 3 c21<|sv (qp (⟨m,m2,m3⟩:am) [])<|sv (av g)<|sv (aw g)<|sv (cW.ia (k:=.i64) bx22)<|sv (eb x22)<|bY (oA br23)<|eF .normal (eN g i t17 t18 m1 m m2 m3 r23))<|by kernel_rfl
 ·obtain rfl:=lf h
  exact di zf (xi [0,1,3,7,7,23,7,71,247,503,1023,2047,4095]<|sg 3 c21<|eF .normal (eN g i t17 t18 m1 m m2 m3 false))<|by kernel_rfl
end
section
variable(g:ae)(t17:waA)(t18:Int)(t19:Int)(m1:jF)
def b6:aj:=a7 63 [(1,.eptr (ac g)),(3,.bptr 1 0),(17,sl ak t17),(18,.int .i64 t18),(19,.int .i64 t19)] [.dead,.cells (jr m1) []] []
def a8(o:(Int×jF)⊕(jF)):Exit:=match o with
 |(.inl _)=>.ret
 |(.inr _)=>.exit 0
def aR(o:(Int×jF)⊕(jF)):aj:=match o with
 |(.inl o)=>a7 63 [(2,.int .i64 o.1)] [.dead,.cells (jr o.2) []] []
 |(.inr o)=>a7 63 [] [.dead,.cells (jr o) []] []
def b7:Option ((Int×jF)⊕((Int×jF)⊕(jF))):=
 if (decide (t19 < t18)) = true then
  (gk t17 t19).bind fun x9=>
  (dF x9.From x9.To).bind fun o14=>
  if o14=true then
   some (.inr (.inl (2,m1)))
  else
   (po 6 x9.From).bind fun i17=>
   (po 6 x9.To).bind fun i18=>
   if(m1 (0+i17 * 6+i18 * 1))=true then
    some (.inr (.inl (4,m1)))
   else
    (dG g t19 x9.From x9.To x9.Strict).bind fun o24=>
    if o24=true then
     some (.inr (.inl (9,m1)))
    else
     (po 6 x9.From).bind fun i27=>
     (po 6 x9.To).bind fun i28=>
     some (.inl (cD (t19+1),lA m1 (0+i27 * 6+i28 * 1) true))
 else
  some (.inr (.inr m1))
def bW:Option ((Int×jF)⊕(jF)):=loop (fun(zz:Int×jF)=>b7 g t17 t18 zz.1 zz.2) (t19,m1)
theorem ml{y:(Int×jF)⊕((Int×jF)⊕(jF))}(h:b7 g t17 t18 t19 m1=some y):aE Pg GE 0 (cA Cr 247) (LQ (fun(zz:Int×jF)=>b6 g t17 t18 zz.1 zz.2) a8 aR y) (b6 g t17 t18 t19 m1):=by
 rcases aM h with⟨c8,h⟩|⟨c8,h⟩
 ·obtain⟨x9,bx9,h⟩:=au h
  obtain⟨o14,bo14,h⟩:=au h
  have p16:=fun{sc F} (r:PS sc F)=>sg 0 c8<|sv (cW.ia (k:=.i64) bx9)<|sv (eb x9)<|sx yj<|sx (jm x9)<|oX 1<|dz (mT g t19 t17 t18 m1 x9.From x9.To x9.Strict bo14)<|r
  rcases aM h with⟨c15,h⟩|⟨c15,h⟩
  ·obtain rfl:=lf h
   have z:=p16<|sg 0 c15<|rK 0 (a8 (.inl (2,m1))) (aR (.inl (2,m1))) rfl (dL (aI trivial trivial)) (aI trivial (aI (kg (tc m1)) trivial))
   exact jt (A:=zf) mixed (by intro hx;cases hx) z<|by kernel_rfl
  ·obtain⟨i17,bi17,h⟩:=au h
   obtain⟨i18,bi18,h⟩:=au h
   have p20:=fun{sc F} (r:PS sc F)=>p16<|sg 0 c15<|xi [0,1,0,4,3,31,63,127]<|ss<|ss<|sv (DA (b:=1) (off:=0) (k:=.i64) bi17)<|sv (Dz (b:=1) (off:=0+i17 * 6) (k:=.i64) bi18)<|sv (Ey (x:=m1) (Cw bi17 bi18))<|r
   rcases aM h with⟨c19,h⟩|⟨c19,h⟩
   ·obtain rfl:=lf h
    have z:=p20<|sg 0 c19<|rK 0 (a8 (.inl (4,m1))) (aR (.inl (4,m1))) rfl (dL (aI trivial trivial)) (aI trivial (aI (kg (tc m1)) trivial))
    exact jt (A:=zf) mixed (by intro hx;cases hx) z<|by kernel_rfl
   ·obtain⟨o24,bo24,h⟩:=au h
    have p26:=fun{sc F} (r:PS sc F)=>p20<|sg 0 c19<|oX 0<|dz (mU g t19 t17 t18 m1 x9.From x9.To x9.Strict bo24)<|r
    rcases aM h with⟨c25,h⟩|⟨c25,h⟩
    ·obtain rfl:=lf h
     have z:=p26<|sg 0 c25<|rK 0 (a8 (.inl (9,m1))) (aR (.inl (9,m1))) rfl (dL (aI trivial trivial)) (aI trivial (aI (kg (tc m1)) trivial))
     exact jt (A:=zf) mixed (by intro hx;cases hx) z<|by kernel_rfl
    ·obtain⟨i27,bi27,h⟩:=au h
     obtain⟨i28,bi28,h⟩:=au h
     obtain rfl:=lf h
     have z:=p26<|sg 0 c25<|Ea (.dx [0,1,0,4,3,31,63] [] [] [1])<|ss<|ss<|sv (DA (b:=1) (off:=0) (k:=.i64) bi27)<|sv (Dz (b:=1) (off:=0+i27 * 6) (k:=.i64) bi28)<|EY (Ez (x:=m1) (v:=true) (Cw bi27 bi28))<|rK 0 .normal (b6 g t17 t18 (cD (t19+1)) (lA m1 (0+i27 * 6+i28 * 1) true)) rfl (dL (aI (kg (ag g)) (aI (lc rfl) (aI (up (aK aA t17)) (aI trivial (aI trivial trivial)))))) (aI trivial (aI (kg (tc (lA m1 (0+i27 * 6+i28 * 1) true))) trivial))
     exact h9 (A:=zf) mixed z<|by kernel_rfl
 ·obtain rfl:=lf h
  have z:=sg 0 c8<|eF (a8 (.inr m1)) (aR (.inr m1))
  exact j5 zf (by intro hx;cases hx) z<|by kernel_rfl
theorem ie{x:(Int×jF)⊕(jF)}(h:bW g t17 t18 t19 m1=some x):aE Pg GE 0 (.loop (cA Cr 247)) (EX (a8 x) (aR x)) (b6 g t17 t18 t19 m1):=
 aE.loop (S:=fun(zz:Int×jF)=>b6 g t17 t18 zz.1 zz.2) (ex:=a8) (s:=(t19,m1)) h fun zz y hy=>ml g t17 t18 zz.1 zz.2 hy
end
def bz(g:ae):Option Int:=
 (dE g).bind fun o5=>
 if o5=true then
  some 3
 else
  (bW g g.Arcs (g.Arcs.length:Int) 0 (qV false)).bind fun o29=>match o29 with
  |(.inl o29)=>
   some o29.1
  |(.inr o29)=>
   some 0
theorem bX{g:ae}{r:Int}(h:bz g=some r):CC Pg GE 10 [.agg (ac g)] (.int .i64 r) []:=by
 obtain⟨o5,bo5,h⟩:=au h
 have p7:=fun{sc F} (r:PS sc F)=>se (bK g)<|oX 1<|dz (mS g bo5)<|r
 rcases aM h with⟨c6,h⟩|⟨c6,h⟩
 ·obtain rfl:=lf h
  have z:=p7<|sg 0 c6<|en (aI (rP (.int .i64 3))<|trivial)
  exact bv zf call10 func10 (c:=Cr) rfl (aI (ag g) trivial) z<|by kernel_rfl
 ·obtain⟨o29,bo29,h⟩:=au h
  rcases o29 with o29|o29
  ·obtain rfl:=lf h
   have z:=p7<|sg 0 c6<|sx D4<|sv (av g)<|sv (aw g)<|eG (cW.ln g.Arcs)<|dz (e:=.ret) (s1:=aR (.inl o29)) (ie g g.Arcs (g.Arcs.length:Int) 0 (qV false) bo29)<|en (aI (rP (.int .i64 o29.1))<|trivial)
   exact bv zf call10 func10 (c:=Cr) rfl (aI (ag g) trivial) z<|by kernel_rfl
  ·obtain rfl:=lf h
   have z:=p7<|sg 0 c6<|sx D4<|sv (av g)<|sv (aw g)<|eG (cW.ln g.Arcs)<|dz (e:=.exit 0) (s1:=aR (.inr o29)) (ie g g.Arcs (g.Arcs.length:Int) 0 (qV false) bo29)<|en (aI (rP (.int .i64 0))<|trivial)
   exact bv zf call10 func10 (c:=Cr) rfl (aI (ag g) trivial) z<|by kernel_rfl
noncomputable def DD:Code:=f14.body.getD .skip
def Cz:List Nat:=[19,41]
section
variable(s:af)(i:Int)(t15:waA)(t16:Int)(m:Int)(m2:Int)(m3:Bool)
def ou:aj:=a7 42 [(3,.str s),(4,.int .i64 i),(5,.bptr 1 0),(15,sl ak t15),(16,.int .i64 t16),(17,.int .i64 i)] [.dead,.cells [.int .i64 m,.int .i64 m2,.bool m3] []] []
def fq(o:af):aj:=a7 42 [(3,.str o),(5,.bptr 1 0),(15,sl ak t15),(16,.int .i64 t16),(17,.int .i64 i)] [.dead,.cells [.int .i64 m,.int .i64 m2,.bool m3] []] []
def ee:Option af:=
 if(decide (i>0))=true then
  (vo s ([44]:af)).bind fun s7=>
  some s7
 else
  some s
theorem nm{x:af}(h:ee s i=some x):aE Pg GE 0 (cA DD 7670) (EX .normal (fq i t15 t16 m m2 m3 x)) (ou s i t15 t16 m m2 m3):=by
 rcases aM h with⟨c6,h⟩|⟨c6,h⟩
 ·obtain⟨s7,bs7,h⟩:=au h
  obtain rfl:=lf h
  exact di Cz (sg 0 c6<|sv (eP (P:=Pg) (t:=9) bs7)<|eF .normal (fq i t15 t16 m m2 m3 s7))<|by kernel_rfl
 ·obtain rfl:=lf h
  exact di Cz (sg 0 c6<|eF .normal (fq i t15 t16 m m2 m3 s))<|by kernel_rfl
end
section
variable(s:af)(t15:waA)(t16:Int)(t17:Int)(m:Int)(m2:Int)(m3:Bool)
def oz:aj:=a7 42 [(3,.str s),(5,.bptr 1 0),(6,.str ([32,62,61,32]:af)),(15,sl ak t15),(16,.int .i64 t16),(17,.int .i64 t17)] [.dead,.cells [.int .i64 m,.int .i64 m2,.bool m3] []] []
def ft(o:af):aj:=a7 42 [(3,.str s),(5,.bptr 1 0),(6,.str o),(15,sl ak t15),(16,.int .i64 t16),(17,.int .i64 t17)] [.dead,.cells [.int .i64 m,.int .i64 m2,.bool m3] []] []
def cY:Option af:=
 if m3=true then
  some ([32,62,32]:af)
 else
  some ([32,62,61,32]:af)
theorem nn{x:af}(h:cY m3=some x):aE Pg GE 0 (cA DD 30686) (EX .normal (ft s t15 t16 t17 m m2 m3 x)) (oz s t15 t16 t17 m m2 m3):=by
 rcases aM h with⟨c9,h⟩|⟨c9,h⟩
 ·obtain rfl:=lf h
  exact di Cz (ss<|sg 0 c9<|eF .normal (ft s t15 t16 t17 m m2 m3 ([32,62,32]:af)))<|by kernel_rfl
 ·obtain rfl:=lf h
  exact di Cz (ss<|sg 0 c9<|eF .normal (ft s t15 t16 t17 m m2 m3 ([32,62,61,32]:af)))<|by kernel_rfl
end
section
variable(t15:waA)(t16:Int)(s:af)(t17:Int)
def cq:aj:=a7 42 [(3,.str s),(15,sl ak t15),(16,.int .i64 t16),(17,.int .i64 t17)] [.dead] []
def fu(o:af):aj:=a7 42 [(3,.str o)] [.dead] []
def cr:Option ((af×Int)⊕(af)):=
 if(decide (t17<t16))=true then
  (gk t15 t17).bind fun x5=>
  (ee s t17).bind fun o8=>
  (cY x5.Strict).bind fun o10=>
  (xT x5.From).bind fun r11=>
  (vo ([32]:af) r11).bind fun s12=>
  (vo s12 o10).bind fun s13=>
  (xT x5.To).bind fun r14=>
  (vo s13 r14).bind fun s15=>
  (vo o8 s15).bind fun s16=>
  some (.inl (s16,cD (t17+1)))
 else
  some (.inr s)
def cj:Option af:=loop (fun(zz:af×Int)=>cr t15 t16 zz.1 zz.2) (s,t17)
theorem mR{y:(af×Int)⊕(af)}(h:cr t15 t16 s t17=some y):aE Pg GE 0 (cA DD 119) (LQ (fun(zz:af×Int)=>cq t15 t16 zz.1 zz.2) (fun _=>.exit 0) fu y) (cq t15 t16 s t17):=by
 rcases aM h with⟨c4,h⟩|⟨c4,h⟩
 ·obtain⟨x5,bx5,h⟩:=au h
  obtain⟨o8,bo8,h⟩:=au h
  obtain⟨o10,bo10,h⟩:=au h
  obtain⟨r11,br11,h⟩:=au h
  obtain⟨s12,bs12,h⟩:=au h
  obtain⟨s13,bs13,h⟩:=au h
  obtain⟨r14,br14,h⟩:=au h
  obtain⟨s15,bs15,h⟩:=au h
  obtain⟨s16,bs16,h⟩:=au h
  obtain rfl:=lf h
  have z:=sg 0 c4<|sv (cW.ia (k:=.i64) bx5)<|sv (eb x5)<|sx yj<|sx (jm x5)<|oX 0<|dz (nm s t17 t15 t16 x5.From x5.To x5.Strict bo8)<|oX 1<|dz (nn o8 t15 t16 t17 x5.From x5.To x5.Strict bo10)<|xi [0,0,2,6,14,0,62,0,128,398,1022,2047,4095]<|ss<|bY (zC br11)<|sv (eP (P:=Pg) (t:=9) bs12)<|sv (eP (P:=Pg) (t:=9) bs13)<|ss<|bY (zC br14)<|sv (eP (P:=Pg) (t:=9) bs15)<|sv (eP (P:=Pg) (t:=9) bs16)<|rK 0 .normal (cq t15 t16 s16 (cD (t17+1))) rfl (dL (aI trivial (aI (up (aK aA t15)) (aI trivial (aI trivial trivial))))) (aI trivial trivial)
  exact h9 (A:=Cz) mixed z<|by kernel_rfl
 ·obtain rfl:=lf h
  have z:=sg 0 c4<|eF (.exit 0) (fu s)
  exact j5 Cz (by intro hx;cases hx) z<|by kernel_rfl
theorem np{x:af}(h:cj t15 t16 s t17=some x):aE Pg GE 0 (.loop (cA DD 119)) (EX (.exit 0) (fu x)) (cq t15 t16 s t17):=
 aE.loop (S:=fun(zz:af×Int)=>cq t15 t16 zz.1 zz.2) (ex:=(fun _=>.exit 0)) (s:=(s,t17)) h fun zz y hy=>mR t15 t16 zz.1 zz.2 hy
end
def dq(g:ae):Option af:=
 (vo g.Caller ([32,45,62,32]:af)).bind fun s1=>
 (vo s1 g.Callee).bind fun s2=>
 (vo s2 ([58]:af)).bind fun s3=>
 (cj g.Arcs (g.Arcs.length:Int) s3 0).bind fun o17=>
 some o17
theorem gB{g:ae}{r:af}(h:dq g=some r):CC Pg GE 14 [.agg (ac g)] (.str r) []:=by
 obtain⟨s1,bs1,h⟩:=au h
 obtain⟨s2,bs2,h⟩:=au h
 obtain⟨s3,bs3,h⟩:=au h
 obtain⟨o17,bo17,h⟩:=au h
 obtain rfl:=lf h
 have z:=se (bK g)<|sv (aP g)<|sv (aX g)<|sv (eP (P:=Pg) (t:=9) bs1)<|sv (aQ g)<|sv (aY g)<|sv (eP (P:=Pg) (t:=9) bs2)<|sv (eP (P:=Pg) (t:=9) bs3)<|sv (av g)<|sv (aw g)<|eG (cW.ln g.Arcs)<|dz (np g.Arcs (g.Arcs.length:Int) s3 0 bo17)<|en (aI (rP (.str o17))<|trivial)
 exact bv Cz call14 func14 (c:=DD) rfl (aI (ag g) trivial) z<|by kernel_rfl
noncomputable def Fd:Code:=f36.body.getD .skip
def E0:List Nat:=[17]
def dv(g:ae)(k1:(List (af×Bool)))(k2:waB):Option ((List (af×Bool))×waB):=
 (dq g).bind fun r1=>
 if(!((vH k1 r1).getD false))=true then
  (tQ g.Arcs).bind fun r4=>
  (app k2 ([(⟨g.Caller,g.Callee,r4⟩:ae)]:List ae)).bind fun l5=>
  some (wW k1 r1 true,l5)
 else
  some (k1,k2)
theorem dR{g:ae}{k1:(List (af×Bool))}{k2:waB}{r:(List (af×Bool))×waB}(h:dv g k1 k2=some r):C Pg GE 36 [.agg (ac g),.bptr 0 0,.bptr 2 0] [] [.cells [.mapr 1] [],.map (cw PVal.bool k1),.cells [sl ac k2] [(0,24)]] (.tuple []) [] [.cells [.mapr 1] [],.map (cw PVal.bool r.1),.cells [sl ac r.2] [(0,24)]]:=by
 obtain⟨r1,br1,h⟩:=au h
 have p3:=fun{sc F} (r:PS sc F)=>sx (iK g)<|sv (cx g [])<|bY (gB br1)<|ss<|sv (CY (f:=PVal.bool) underlying56 underlying9 FM k1 r1)<|r
 rcases aM h with⟨c2,h⟩|⟨c2,h⟩
 ·obtain⟨r4,br4,h⟩:=au h
  obtain⟨l5,bl5,h⟩:=au h
  obtain rfl:=lf h
  have z:=p3<|sg 0 c2<|ss<|FK (CZ (f:=PVal.bool) underlying56 underlying9 k1 r1 true)<|ss<|bY (yF br4)<|sv (cx (⟨g.Caller,g.Callee,r4⟩:ae) [])<|sv (gd.mk' (v:=ms) kr ([(⟨g.Caller,g.Callee,r4⟩:ae)]:List ae) 1 (by kernel_rfl))<|sv (gd.ap bl5)<|en (aI (rP (.tuple []))<|aI trivial<|aI (rL [.cells [.mapr 1] [],.map (cw PVal.bool (wW k1 r1 true)),.cells [sl ac l5] [(0,24)]])<|(aI (aI (lc (i:=1) (n:=3) rfl) trivial) (aI (BZ (n:=3) PVal.bool (fun x=>trivial) (wW k1 r1 true)) (aI (aI (up (n:=3) (aK ag l5)) trivial) trivial))))
  exact C.evGp (A:=E0) mixed (m:=3) (c:=Fd) rfl call36 func36 rfl z<|by kernel_rfl
 ·obtain rfl:=lf h
  have z:=p3<|sg 0 c2<|en (aI (rP (.tuple []))<|aI trivial<|aI (rL [.cells [.mapr 1] [],.map (cw PVal.bool k1),.cells [sl ac k2] [(0,24)]])<|(aI (aI (lc (i:=1) (n:=3) rfl) trivial) (aI (BZ (n:=3) PVal.bool (fun x=>trivial) k1) (aI (aI (up (n:=3) (aK ag k2)) trivial) trivial))))
  exact C.evGp (A:=E0) mixed (m:=3) (c:=Fd) rfl call36 func36 rfl z<|by kernel_rfl
noncomputable def EF:Code:=f55.body.getD .skip
def Ef:List Nat:=[]
section
variable(t7:waA)(t8:Int)(t9:Int)(m2:gX)
def bB:aj:=a7 29 [(2,.bptr 1 0),(3,.bptr 2 0),(7,sl ak t7),(8,.int .i64 t8),(9,.int .i64 t9)] [.dead,.cells (bA (qV 0)) [],.cells (bA m2) []] []
def eO(o:gX):aj:=a7 29 [(2,.bptr 1 0),(3,.bptr 2 0)] [.dead,.cells (bA (qV 0)) [],.cells (bA o) []] []
def iC:Option ((Int×gX)⊕(gX)):=
 if(decide (t9<t8))=true then
  (gk t7 t9).bind fun x2=>
  (po 6 x2.From).bind fun i3=>
  (po 6 x2.To).bind fun i4=>
  if x2.Strict=true then
   (po 6 x2.From).bind fun i7=>
   (po 6 x2.To).bind fun i8=>
   some (.inl (cD (t9+1),lA (lA m2 (0+i3 * 6+i4 * 1) 1) (0+i7 * 6+i8 * 1) 2))
  else
   some (.inl (cD (t9+1),lA m2 (0+i3 * 6+i4 * 1) 1))
 else
  some (.inr m2)
def jB:Option gX:=loop (fun(zz:Int×gX)=>iC t7 t8 zz.1 zz.2) (t9,m2)
theorem mn{y:(Int×gX)⊕(gX)}(h:iC t7 t8 t9 m2=some y):aE Pg GE 0 (cA EF 119) (LQ (fun(zz:Int×gX)=>bB t7 t8 zz.1 zz.2) (fun _=>.exit 0) eO y) (bB t7 t8 t9 m2):=by
 rcases aM h with⟨c1,h⟩|⟨c1,h⟩
 ·obtain⟨x2,bx2,h⟩:=au h
  obtain⟨i3,bi3,h⟩:=au h
  obtain⟨i4,bi4,h⟩:=au h
  have p6:=fun{sc F} (r:PS sc F)=>sg 0 c1<|sv (cW.ia (k:=.i64) bx2)<|sv (eb x2)<|sx yj<|sx (jm x2)<|Ea (.dx [0,1,0,4,3,31,63] [] [] [2])<|ss<|ss<|sv (zU (b:=2) (off:=0) (k:=.i64) bi3)<|sv (zT (b:=2) (off:=0+i3 * 6) (k:=.i64) bi4)<|EY (DC (x:=m2) (v:=1) (Cw bi3 bi4))<|ss<|r
  rcases aM h with⟨c5,h⟩|⟨c5,h⟩
  ·obtain⟨i7,bi7,h⟩:=au h
   obtain⟨i8,bi8,h⟩:=au h
   obtain rfl:=lf h
   have z:=p6<|sg 0 c5<|Ea (.dx [0,1,0,4,3,31,63] [] [] [2])<|ss<|ss<|sv (zU (b:=2) (off:=0) (k:=.i64) bi7)<|sv (zT (b:=2) (off:=0+i7 * 6) (k:=.i64) bi8)<|EY (DC (x:=lA m2 (0+i3 * 6+i4 * 1) 1) (v:=2) (Cw bi7 bi8))<|rK 0 .normal (bB t7 t8 (cD (t9+1)) (lA (lA m2 (0+i3 * 6+i4 * 1) 1) (0+i7 * 6+i8 * 1) 2)) rfl (dL (aI (lc rfl) (aI (lc rfl) (aI (up (aK aA t7)) (aI trivial (aI trivial trivial)))))) (aI trivial (aI (kg (qd (qV 0))) (aI (kg (qd (lA (lA m2 (0+i3 * 6+i4 * 1) 1) (0+i7 * 6+i8 * 1) 2))) trivial)))
   exact h9 (A:=Ef) mixed z<|by kernel_rfl
  ·obtain rfl:=lf h
   have z:=p6<|sg 0 c5<|rK 0 .normal (bB t7 t8 (cD (t9+1)) (lA m2 (0+i3 * 6+i4 * 1) 1)) rfl (dL (aI (lc rfl) (aI (lc rfl) (aI (up (aK aA t7)) (aI trivial (aI trivial trivial)))))) (aI trivial (aI (kg (qd (qV 0))) (aI (kg (qd (lA m2 (0+i3 * 6+i4 * 1) 1))) trivial)))
   exact h9 (A:=Ef) mixed z<|by kernel_rfl
 ·obtain rfl:=lf h
  have z:=sg 0 c1<|eF (.exit 0) (eO m2)
  exact j5 Ef (by intro hx;cases hx) z<|by kernel_rfl
theorem mV{x:gX}(h:jB t7 t8 t9 m2=some x):aE Pg GE 0 (.loop (cA EF 119)) (EX (.exit 0) (eO x)) (bB t7 t8 t9 m2):=
 aE.loop (S:=fun(zz:Int×gX)=>bB t7 t8 zz.1 zz.2) (ex:=(fun _=>.exit 0)) (s:=(t9,m2)) h fun zz y hy=>mn t7 t8 zz.1 zz.2 hy
end
def iN(g:ae):Option gX:=
 (jB g.Arcs (g.Arcs.length:Int) 0 (qV 0)).bind fun o9=>
 some o9
theorem jC{g:ae}{r:gX}(h:iN g=some r):CC Pg GE 55 [.agg (ac g)] (.agg (bA r)) []:=by
 obtain⟨o9,bo9,h⟩:=au h
 obtain rfl:=lf h
 have z:=se (bK g)<|sx D5<|sx D5<|sv (av g)<|sv (aw g)<|eG (cW.ln g.Arcs)<|dz (mV g.Arcs (g.Arcs.length:Int) 0 (qV 0) bo9)<|sv (Cb o9)<|sx (uy o9)<|en (aI (rP (.agg (bA o9)))<|(qd o9))
 exact bv Ef call55 func55 (c:=EF) rfl (aI (ag g) trivial) z<|by kernel_rfl
noncomputable def Ct:Code:=f34.body.getD .skip
def AF:List Nat:=[23,26,29,60]
section
variable(v:Int)(to:Int)(best:Int)(m:Int)(m2:waA)(m3:gX)(m4:gX)(m5:af)(m6:af)(m7:waA)
def mm:aj:=a7 72 [(4,.bptr 2 0),(5,.bptr 3 0),(6,.bptr 4 0),(7,.bptr 5 0),(8,.int .i64 v),(9,.int .i64 to),(10,.int .i64 best),(11,.int .i64 m),(21,.int .i64 v),(24,.int .i64 to),(27,.int .i64 m)] [.dead,.dead,.cells [.str ([]:af),.str ([]:af),sl ak m2] [(2,43)],.cells (bA m3) [],.cells (bA m4) [],.cells [.str m5,.str m6,sl ak m7] [(2,43)]] []
def dZ(o:Bool):aj:=a7 72 [(4,.bptr 2 0),(5,.bptr 3 0),(6,.bptr 4 0),(7,.bptr 5 0),(8,.int .i64 v),(9,.int .i64 to),(10,.int .i64 best),(11,.int .i64 m),(21,.int .i64 v),(24,.int .i64 to),(27,.int .i64 m),(43,.bool o)] [.dead,.dead,.cells [.str ([]:af),.str ([]:af),sl ak m2] [(2,43)],.cells (bA m3) [],.cells (bA m4) [],.cells [.str m5,.str m6,sl ak m7] [(2,43)]] []
def iy:Option Bool:=
 (po 6 v).bind fun i6=>
 (po 6 m).bind fun i7=>
 if(decide ((m3 (0+i6 * 6+i7 * 1))>0))=true then
  (po 6 m).bind fun i10=>
  (po 6 to).bind fun i11=>
  some (decide ((m4 (0+i10 * 6+i11 * 1))>0))
 else
  some false
theorem lO{x:Bool}(h:iy v to m m3 m4=some x):aE Pg GE 0 (cA Ct 4158643702) (EX .normal (dZ v to best m m2 m3 m4 m5 m6 m7 x)) (mm v to best m m2 m3 m4 m5 m6 m7):=by
 obtain⟨i6,bi6,h⟩:=au h
 obtain⟨i7,bi7,h⟩:=au h
 have p9:=fun{sc F} (r:PS sc F)=>sv (zU (b:=3) (off:=0) (k:=.i64) bi6)<|sv (zT (b:=3) (off:=0+i6 * 6) (k:=.i64) bi7)<|sv (BW (x:=m3) (Cw bi6 bi7))<|r
 rcases aM h with⟨c8,h⟩|⟨c8,h⟩
 ·obtain⟨i10,bi10,h⟩:=au h
  obtain⟨i11,bi11,h⟩:=au h
  obtain rfl:=lf h
  exact di AF (p9<|sg 7 c8<|sv (zU (b:=4) (off:=0) (k:=.i64) bi10)<|sv (zT (b:=4) (off:=0+i10 * 6) (k:=.i64) bi11)<|sv (BW (x:=m4) (Cw bi10 bi11))<|eF .normal (dZ v to best m m2 m3 m4 m5 m6 m7 (decide ((m4 (0+i10 * 6+i11 * 1))>0))))<|by kernel_rfl
 ·obtain rfl:=lf h
  exact di AF (p9<|sg 7 c8<|eF .normal (dZ v to best m m2 m3 m4 m5 m6 m7 false))<|by kernel_rfl
end
section
variable(v:Int)(to:Int)(m:waA)(m3:gX)(m4:gX)(m2:af)(m5:af)(m6:waA)(best:Int)(t27:Int)
def bo:aj:=a7 72 [(4,.bptr 2 0),(5,.bptr 3 0),(6,.bptr 4 0),(7,.bptr 5 0),(8,.int .i64 v),(9,.int .i64 to),(10,.int .i64 best),(21,.int .i64 v),(24,.int .i64 to),(27,.int .i64 t27)] [.dead,.dead,.cells [.str ([]:af),.str ([]:af),sl ak m] [(2,43)],.cells (bA m3) [],.cells (bA m4) [],.cells [.str m2,.str m5,sl ak m6] [(2,43)]] []
def d5(o:Int):aj:=a7 72 [(4,.bptr 2 0),(5,.bptr 3 0),(6,.bptr 4 0),(7,.bptr 5 0),(8,.int .i64 v),(9,.int .i64 to),(10,.int .i64 o),(21,.int .i64 v),(24,.int .i64 to)] [.dead,.dead,.cells [.str ([]:af),.str ([]:af),sl ak m] [(2,43)],.cells (bA m3) [],.cells (bA m4) [],.cells [.str m2,.str m5,sl ak m6] [(2,43)]] []
def gT:Option ((Int×Int)⊕(Int)):=
 if(decide (t27<6))=true then
  (iy v to t27 m3 m4).bind fun o12=>
  if o12=true then
   (po 6 v).bind fun i15=>
   (po 6 t27).bind fun i16=>
   (po 6 t27).bind fun i17=>
   (po 6 to).bind fun i18=>
   some (.inl ((if(m4 (0+i17 * 6+i18 * 1))>(if(m3 (0+i15 * 6+i16 * 1))>best then m3 (0+i15 * 6+i16 * 1)else best)then m4 (0+i17 * 6+i18 * 1)else(if(m3 (0+i15 * 6+i16 * 1))>best then m3 (0+i15 * 6+i16 * 1)else best)),cD (t27+1)))
  else
   some (.inl (best,cD (t27+1)))
 else
  some (.inr best)
def iB:Option Int:=loop (fun(zz:Int×Int)=>gT v to m3 m4 zz.1 zz.2) (best,t27)
theorem kO{y:(Int×Int)⊕(Int)}(h:gT v to m3 m4 best t27=some y):aE Pg GE 0 (cA Ct 64978807) (LQ (fun(zz:Int×Int)=>bo v to m m3 m4 m2 m5 m6 zz.1 zz.2) (fun _=>.exit 4) (d5 v to m m3 m4 m2 m5 m6) y) (bo v to m m3 m4 m2 m5 m6 best t27):=by
 rcases aM h with⟨c5,h⟩|⟨c5,h⟩
 ·obtain⟨o12,bo12,h⟩:=au h
  have p14:=fun{sc F} (r:PS sc F)=>sg 0 c5<|oX 2<|dz (lO v to best t27 m m3 m4 m2 m5 m6 bo12)<|r
  rcases aM h with⟨c13,h⟩|⟨c13,h⟩
  ·obtain⟨i15,bi15,h⟩:=au h
   obtain⟨i16,bi16,h⟩:=au h
   obtain⟨i17,bi17,h⟩:=au h
   obtain⟨i18,bi18,h⟩:=au h
   obtain rfl:=lf h
   exact qO AF (p14<|sg 0 c13<|xi [0,0,0,2,14,30,0,0,64,448,960,2047,4095]<|sv (zU (b:=3) (off:=0) (k:=.i64) bi15)<|sv (zT (b:=3) (off:=0+i15 * 6) (k:=.i64) bi16)<|sv (BW (x:=m3) (Cw bi15 bi16))<|sv (zU (b:=4) (off:=0) (k:=.i64) bi17)<|sv (zT (b:=4) (off:=0+i17 * 6) (k:=.i64) bi18)<|sv (BW (x:=m4) (Cw bi17 bi18))<|eF .normal (bo v to m m3 m4 m2 m5 m6 (if(m4 (0+i17 * 6+i18 * 1))>(if(m3 (0+i15 * 6+i16 * 1))>best then m3 (0+i15 * 6+i16 * 1)else best)then m4 (0+i17 * 6+i18 * 1)else(if(m3 (0+i15 * 6+i16 * 1))>best then m3 (0+i15 * 6+i16 * 1)else best)) (cD (t27+1))))<|by kernel_rfl
  ·obtain rfl:=lf h
   exact qO AF (p14<|sg 0 c13<|eF .normal (bo v to m m3 m4 m2 m5 m6 best (cD (t27+1))))<|by kernel_rfl
 ·obtain rfl:=lf h
  have z:=sg 0 c5<|eF (.exit 4) (d5 v to m m3 m4 m2 m5 m6 best)
  exact j5 AF (by intro hx;cases hx) z<|by kernel_rfl
theorem lR{x:Int}(h:iB v to m3 m4 best t27=some x):aE Pg GE 0 (.loop (cA Ct 64978807)) (EX (.exit 4) (d5 v to m m3 m4 m2 m5 m6 x)) (bo v to m m3 m4 m2 m5 m6 best t27):=
 aE.loop (S:=fun(zz:Int×Int)=>bo v to m m3 m4 m2 m5 m6 zz.1 zz.2) (ex:=(fun _=>.exit 4)) (s:=(best,t27)) h fun zz y hy=>kO v to m m3 m4 m2 m5 m6 zz.1 zz.2 hy
end
section
variable(v:Int)(m:waA)(m3:gX)(m4:gX)(m2:af)(m5:af)(t24:Int)(m6:waA)
def bm:aj:=a7 72 [(4,.bptr 2 0),(5,.bptr 3 0),(6,.bptr 4 0),(7,.bptr 5 0),(8,.int .i64 v),(21,.int .i64 v),(24,.int .i64 t24)] [.dead,.dead,.cells [.str ([]:af),.str ([]:af),sl ak m] [(2,43)],.cells (bA m3) [],.cells (bA m4) [],.cells [.str m2,.str m5,sl ak m6] [(2,43)]] []
def d4(o:waA):aj:=a7 72 [(4,.bptr 2 0),(5,.bptr 3 0),(6,.bptr 4 0),(7,.bptr 5 0),(21,.int .i64 v)] [.dead,.dead,.cells [.str ([]:af),.str ([]:af),sl ak m] [(2,43)],.cells (bA m3) [],.cells (bA m4) [],.cells [.str m2,.str m5,sl ak o] [(2,43)]] []
def gS:Option ((Int×waA)⊕(waA)):=
 if(decide (t24<6))=true then
  (iB v t24 m3 m4 0 0).bind fun o19=>
  if(decide (o19>0))=true then
   (app m6 ([(⟨v,t24,o19==2⟩:am)]:List am)).bind fun l22=>
   some (.inl (cD (t24+1),l22))
  else
   some (.inl (cD (t24+1),m6))
 else
  some (.inr m6)
def iA:Option waA:=loop (fun(zz:Int×waA)=>gS v m3 m4 zz.1 zz.2) (t24,m6)
theorem kN{y:(Int×waA)⊕(waA)}(h:gS v m3 m4 t24 m6=some y):aE Pg GE 0 (cA Ct 63455) (LQ (fun(zz:Int×waA)=>bm v m m3 m4 m2 m5 zz.1 zz.2) (fun _=>.exit 2) (d4 v m m3 m4 m2 m5) y) (bm v m m3 m4 m2 m5 t24 m6):=by
 rcases aM h with⟨c4,h⟩|⟨c4,h⟩
 ·obtain⟨o19,bo19,h⟩:=au h
  have p21:=fun{sc F} (r:PS sc F)=>sg 0 c4<|dz (lR v t24 m m3 m4 m2 m5 m6 0 0 bo19)<|r
  rcases aM h with⟨c20,h⟩|⟨c20,h⟩
  ·obtain⟨l22,bl22,h⟩:=au h
   obtain rfl:=lf h
   exact qO AF (p21<|sg 0 c20<|sv (pe v t24 (o19==2))<|sv (cW.mk' (v:=zb) yd ([(⟨v,t24,o19==2⟩:am)]:List am) 1 (by kernel_rfl))<|sv (cW.ap bl22)<|eF .normal (bm v m m3 m4 m2 m5 (cD (t24+1)) l22))<|by kernel_rfl
  ·obtain rfl:=lf h
   exact qO AF (p21<|sg 0 c20<|eF .normal (bm v m m3 m4 m2 m5 (cD (t24+1)) m6))<|by kernel_rfl
 ·obtain rfl:=lf h
  have z:=sg 0 c4<|eF (.exit 2) (d4 v m m3 m4 m2 m5 m6)
  exact j5 AF (by intro hx;cases hx) z<|by kernel_rfl
theorem lQ{x:waA}(h:iA v m3 m4 t24 m6=some x):aE Pg GE 0 (.loop (cA Ct 63455)) (EX (.exit 2) (d4 v m m3 m4 m2 m5 x)) (bm v m m3 m4 m2 m5 t24 m6):=
 aE.loop (S:=fun(zz:Int×waA)=>bm v m m3 m4 m2 m5 zz.1 zz.2) (ex:=(fun _=>.exit 2)) (s:=(t24,m6)) h fun zz y hy=>kN v m m3 m4 m2 m5 zz.1 zz.2 hy
end
section
variable(m:waA)(m3:gX)(m4:gX)(m2:af)(m5:af)(t21:Int)(m6:waA)
def bQ:aj:=a7 72 [(4,.bptr 2 0),(5,.bptr 3 0),(6,.bptr 4 0),(7,.bptr 5 0),(21,.int .i64 t21)] [.dead,.dead,.cells [.str ([]:af),.str ([]:af),sl ak m] [(2,43)],.cells (bA m3) [],.cells (bA m4) [],.cells [.str m2,.str m5,sl ak m6] [(2,43)]] []
def d3(o:waA):aj:=a7 72 [(4,.bptr 2 0),(7,.bptr 5 0)] [.dead,.dead,.cells [.str ([]:af),.str ([]:af),sl ak m] [(2,43)],.cells (bA m3) [],.cells (bA m4) [],.cells [.str m2,.str m5,sl ak o] [(2,43)]] []
def gR:Option ((Int×waA)⊕(waA)):=
 if(decide (t21<6))=true then
  (iA t21 m3 m4 0 m6).bind fun o23=>
  some (.inl (cD (t21+1),o23))
 else
  some (.inr m6)
def iz:Option waA:=loop (fun(zz:Int×waA)=>gR m3 m4 zz.1 zz.2) (t21,m6)
theorem kM{y:(Int×waA)⊕(waA)}(h:gR m3 m4 t21 m6=some y):aE Pg GE 0 (cA Ct 247) (LQ (fun(zz:Int×waA)=>bQ m m3 m4 m2 m5 zz.1 zz.2) (fun _=>.exit 0) (d3 m m3 m4 m2 m5) y) (bQ m m3 m4 m2 m5 t21 m6):=by
 rcases aM h with⟨c3,h⟩|⟨c3,h⟩
 ·obtain⟨o23,bo23,h⟩:=au h
  obtain rfl:=lf h
  exact qO AF (sg 0 c3<|dz (lQ t21 m m3 m4 m2 m5 0 m6 bo23)<|eF .normal (bQ m m3 m4 m2 m5 (cD (t21+1)) o23))<|by kernel_rfl
 ·obtain rfl:=lf h
  have z:=sg 0 c3<|eF (.exit 0) (d3 m m3 m4 m2 m5 m6)
  exact j5 AF (by intro hx;cases hx) z<|by kernel_rfl
theorem lP{x:waA}(h:iz m3 m4 t21 m6=some x):aE Pg GE 0 (.loop (cA Ct 247)) (EX (.exit 0) (d3 m m3 m4 m2 m5 x)) (bQ m m3 m4 m2 m5 t21 m6):=
 aE.loop (S:=fun(zz:Int×waA)=>bQ m m3 m4 m2 m5 zz.1 zz.2) (ex:=(fun _=>.exit 0)) (s:=(t21,m6)) h fun zz y hy=>kM m m3 m4 m2 m5 zz.1 zz.2 hy
end
def cZ(a:ae)(a2:ae):Option ae:=
 (iN a).bind fun r1=>
 (iN a2).bind fun r2=>
 (iz r1 r2 0 ([]:List am)).bind fun o24=>
 some (⟨a.Caller,a2.Callee,o24⟩:ae)
theorem de{a:ae}{a2:ae}{r:ae}(h:cZ a a2=some r):CC Pg GE 34 [.agg (ac a),.agg (ac a2)] (.agg (ac r)) [(2,43)]:=by
 obtain⟨r1,br1,h⟩:=au h
 obtain⟨r2,br2,h⟩:=au h
 obtain⟨o24,bo24,h⟩:=au h
 obtain rfl:=lf h
 have z:=se (bK a)<|se (bK a2)<|sx vQ<|xi [0,1,0,7,0,0,63,127]<|sv (aN a)<|bY (jC br1)<|sv (aN a2)<|bY (jC br2)<|sx (uy r1)<|sx (uy r2)<|sv (aP a)<|sv (aX a)<|sv (aQ a2)<|sv (aY a2)<|sb (pf a.Caller a2.Callee) (pb a.Caller a2.Callee)<|sx vQ<|sy (cb (⟨a.Caller,a2.Callee,([]:List am)⟩:ae))<|dz (lP ([]:List am) r1 r2 a.Caller a2.Callee 0 ([]:List am) bo24)<|sz (cx (⟨a.Caller,a2.Callee,o24⟩:ae) [])<|sy (cb (⟨a.Caller,a2.Callee,o24⟩:ae))<|en (aI (iL (⟨a.Caller,a2.Callee,o24⟩:ae))<|aI (ag (⟨a.Caller,a2.Callee,o24⟩:ae))<|rT)
 exact bv AF call34 func34 (c:=Ct) rfl (aI (ag a) (aI (ag a2) trivial)) z<|by kernel_rfl
noncomputable def FC:Code:=f85.body.getD .skip
def Fv:List Nat:=[]
def qX(a:af):Option Bool:=
 some (!(a==a))
theorem qf{a:af}{r:Bool}(h:qX a=some r):CC Pg GE 85 [.str a] (.bool r) []:=by
 obtain rfl:=lf h
 have z:=en (aI (rP (.bool (!(a==a))))<|trivial)
 exact bv Fv call85 func85 (c:=FC) rfl (aI trivial trivial) z<|by kernel_rfl
noncomputable def Dl:Code:=f59.body.getD .skip
def De:List Nat:=[]
def nR(a:af)(a2:af):Option Int:=
 (qX a).bind fun r1=>
 (qX a2).bind fun r2=>
 if r1=true then
  if r2=true then
   some 0
  else
   some (-1)
 else
  if r2=true then
   some 1
  else
   if(Op.bytesLess a a2)=true then
    some (-1)
   else
    if(!(Op.bytesLess a a2||a==a2))=true then
     some 1
    else
     some 0
theorem nS{a:af}{a2:af}{r:Int}(h:nR a a2=some r):CC Pg GE 59 [.str a,.str a2] (.int .i64 r) []:=by
 obtain⟨r1,br1,h⟩:=au h
 obtain⟨r2,br2,h⟩:=au h
 have p4:=fun{sc F} (r:PS sc F)=>bY (qf br1)<|bY (qf br2)<|r
 rcases aM h with⟨c3,h⟩|⟨c3,h⟩
 ·have p6:=fun{sc F} (r:PS sc F)=>p4<|sg 0 c3<|r
  rcases aM h with⟨c5,h⟩|⟨c5,h⟩
  ·obtain rfl:=lf h
   have z:=p6<|sg 0 c5<|en (aI (rP (.int .i64 0))<|trivial)
   exact bv De call59 func59 (c:=Dl) rfl (aI trivial (aI trivial trivial)) z<|by kernel_rfl
  ·obtain rfl:=lf h
   have z:=p6<|sg 0 c5<|en (aI (rP (.int .i64 (-1)))<|trivial)
   exact bv De call59 func59 (c:=Dl) rfl (aI trivial (aI trivial trivial)) z<|by kernel_rfl
 ·have p8:=fun{sc F} (r:PS sc F)=>p4<|sg 0 c3<|r
  rcases aM h with⟨c7,h⟩|⟨c7,h⟩
  ·obtain rfl:=lf h
   have z:=p8<|sg 0 c7<|en (aI (rP (.int .i64 1))<|trivial)
   exact bv De call59 func59 (c:=Dl) rfl (aI trivial (aI trivial trivial)) z<|by kernel_rfl
  ·have p10:=fun{sc F} (r:PS sc F)=>p8<|sg 0 c7<|r
   rcases aM h with⟨c9,h⟩|⟨c9,h⟩
   ·obtain rfl:=lf h
    have z:=p10<|sg 0 c9<|en (aI (rP (.int .i64 (-1)))<|trivial)
    exact bv De call59 func59 (c:=Dl) rfl (aI trivial (aI trivial trivial)) z<|by kernel_rfl
   ·have p12:=fun{sc F} (r:PS sc F)=>p10<|sg 0 c9<|r
    rcases aM h with⟨c11,h⟩|⟨c11,h⟩
    ·obtain rfl:=lf h
     have z:=p12<|sg 0 c11<|en (aI (rP (.int .i64 1))<|trivial)
     exact bv De call59 func59 (c:=Dl) rfl (aI trivial (aI trivial trivial)) z<|by kernel_rfl
    ·obtain rfl:=lf h
     have z:=p12<|sg 0 c11<|en (aI (rP (.int .i64 0))<|trivial)
     exact bv De call59 func59 (c:=Dl) rfl (aI trivial (aI trivial trivial)) z<|by kernel_rfl
noncomputable def Ei:Code:=f58.body.getD .skip
def Dp:List Nat:=[15,17]
section
variable(t6:(List Int))(t7:Int)(t8:Int)
def jd:aj:=a7 18 [(3,.int .i64 0),(6,sl (cI .i64) t6),(7,.int .i64 t7),(8,.int .i64 t8)] [] []
def je(o:Int⊕(Unit)):Exit:=match o with
 |(.inl _)=>.ret
 |(.inr _)=>.exit 0
def gG(o:Int⊕(Unit)):aj:=match o with
 |(.inl o)=>a7 18 [(2,.int .i64 o)] [] []
 |(.inr o)=>a7 18 [(3,.int .i64 0)] [] []
def rI:Option (Int⊕(Int⊕(Unit))):=
 if(decide (t8<t7))=true then
  (gk t6 t8).bind fun x2=>
  if(x2 !=0)=true then
   some (.inr (.inl x2))
  else
   some (.inl (cD (t8+1)))
 else
  some (.inr (.inr ()))
def vY:Option (Int⊕(Unit)):=loop (fun(zz:Int)=>rI t6 t7 zz) t8
theorem vq{y:Int⊕(Int⊕(Unit))}(h:rI t6 t7 t8=some y):aE Pg GE 0 (cA Ei 119) (LQ (fun(zz:Int)=>jd t6 t7 zz) je gG y) (jd t6 t7 t8):=by
 rcases aM h with⟨c1,h⟩|⟨c1,h⟩
 ·obtain⟨x2,bx2,h⟩:=au h
  have p4:=fun{sc F} (r:PS sc F)=>sg 0 c1<|sv (yq.ia (k:=.i64) bx2)<|sv (mO FJ (.int .i64 x2) [])<|r
  rcases aM h with⟨c3,h⟩|⟨c3,h⟩
  ·obtain rfl:=lf h
   have z:=p4<|sg 0 c3<|eF (je (.inl x2)) (gG (.inl x2))
   exact j5 Dp (by intro hx;cases hx) z<|by kernel_rfl
  ·obtain rfl:=lf h
   exact qO Dp (p4<|sg 0 c3<|eF .normal (jd t6 t7 (cD (t8+1))))<|by kernel_rfl
 ·obtain rfl:=lf h
  have z:=sg 0 c1<|eF (je (.inr ())) (gG (.inr ()))
  exact j5 Dp (by intro hx;cases hx) z<|by kernel_rfl
theorem qe{x:Int⊕(Unit)}(h:vY t6 t7 t8=some x):aE Pg GE 0 (.loop (cA Ei 119)) (EX (je x) (gG x)) (jd t6 t7 t8):=
 aE.loop (S:=fun(zz:Int)=>jd t6 t7 zz) (ex:=je) (s:=t8) h fun zz y hy=>vq t6 t7 zz hy
end
def yJ(vals:(List Int)):Option Int:=
 (vY vals (vals.length:Int) 0).bind fun o5=>match o5 with
 |(.inl o5)=>
  some o5
 |(.inr o5)=>
  some 0
theorem vZ{vals:(List Int)}{r:Int}(h:yJ vals=some r):CC Pg GE 58 [sl (cI .i64) vals] (.int .i64 r) []:=by
 obtain⟨o5,bo5,h⟩:=au h
 rcases o5 with o5|o5
 ·obtain rfl:=lf h
  have z:=eG (yq.ln vals)<|dz (e:=.ret) (s1:=gG (.inl o5)) (qe vals (vals.length:Int) 0 bo5)<|en (aI (rP (.int .i64 o5))<|trivial)
  exact bv Dp call58 func58 (c:=Ei) rfl (aI (aK (Em .i64) vals) trivial) z<|by kernel_rfl
 ·obtain rfl:=lf h
  have z:=eG (yq.ln vals)<|dz (e:=.exit 0) (s1:=gG (.inr o5)) (qe vals (vals.length:Int) 0 bo5)<|en (aI (rP (.int .i64 0))<|trivial)
  exact bv Dp call58 func58 (c:=Ei) rfl (aI (aK (Em .i64) vals) trivial) z<|by kernel_rfl
noncomputable def FD:Code:=f86.body.getD .skip
def Fw:List Nat:=[]
def nT(a:Int):Option Bool:=
 some (a !=a)
theorem nU{a:Int}{r:Bool}(h:nT a=some r):CC Pg GE 86 [.int .i64 a] (.bool r) []:=by
 obtain rfl:=lf h
 have z:=en (aI (rP (.bool (a !=a)))<|trivial)
 exact bv Fw call86 func86 (c:=FD) rfl (aI trivial trivial) z<|by kernel_rfl
noncomputable def Dm:Code:=f62.body.getD .skip
def Df:List Nat:=[]
def iS(a:Int)(a2:Int):Option Int:=
 (nT a).bind fun r1=>
 (nT a2).bind fun r2=>
 if r1=true then
  if r2=true then
   some 0
  else
   some (-1)
 else
  if r2=true then
   some 1
  else
   if(decide (a<a2))=true then
    some (-1)
   else
    if(decide (a>a2))=true then
     some 1
    else
     some 0
theorem iH{a:Int}{a2:Int}{r:Int}(h:iS a a2=some r):CC Pg GE 62 [.int .i64 a,.int .i64 a2] (.int .i64 r) []:=by
 obtain⟨r1,br1,h⟩:=au h
 obtain⟨r2,br2,h⟩:=au h
 have p4:=fun{sc F} (r:PS sc F)=>bY (nU br1)<|bY (nU br2)<|r
 rcases aM h with⟨c3,h⟩|⟨c3,h⟩
 ·have p6:=fun{sc F} (r:PS sc F)=>p4<|sg 0 c3<|r
  rcases aM h with⟨c5,h⟩|⟨c5,h⟩
  ·obtain rfl:=lf h
   have z:=p6<|sg 0 c5<|en (aI (rP (.int .i64 0))<|trivial)
   exact bv Df call62 func62 (c:=Dm) rfl (aI trivial (aI trivial trivial)) z<|by kernel_rfl
  ·obtain rfl:=lf h
   have z:=p6<|sg 0 c5<|en (aI (rP (.int .i64 (-1)))<|trivial)
   exact bv Df call62 func62 (c:=Dm) rfl (aI trivial (aI trivial trivial)) z<|by kernel_rfl
 ·have p8:=fun{sc F} (r:PS sc F)=>p4<|sg 0 c3<|r
  rcases aM h with⟨c7,h⟩|⟨c7,h⟩
  ·obtain rfl:=lf h
   have z:=p8<|sg 0 c7<|en (aI (rP (.int .i64 1))<|trivial)
   exact bv Df call62 func62 (c:=Dm) rfl (aI trivial (aI trivial trivial)) z<|by kernel_rfl
  ·have p10:=fun{sc F} (r:PS sc F)=>p8<|sg 0 c7<|r
   rcases aM h with⟨c9,h⟩|⟨c9,h⟩
   ·obtain rfl:=lf h
    have z:=p10<|sg 0 c9<|en (aI (rP (.int .i64 (-1)))<|trivial)
    exact bv Df call62 func62 (c:=Dm) rfl (aI trivial (aI trivial trivial)) z<|by kernel_rfl
   ·have p12:=fun{sc F} (r:PS sc F)=>p10<|sg 0 c9<|r
    rcases aM h with⟨c11,h⟩|⟨c11,h⟩
    ·obtain rfl:=lf h
     have z:=p12<|sg 0 c11<|en (aI (rP (.int .i64 1))<|trivial)
     exact bv Df call62 func62 (c:=Dm) rfl (aI trivial (aI trivial trivial)) z<|by kernel_rfl
    ·obtain rfl:=lf h
     have z:=p12<|sg 0 c11<|en (aI (rP (.int .i64 0))<|trivial)
     exact bv Df call62 func62 (c:=Dm) rfl (aI trivial (aI trivial trivial)) z<|by kernel_rfl
noncomputable def Fh:Code:=f63.body.getD .skip
def E4:List Nat:=[]
def kz(a:Bool):Option Int:=
 if a=true then
  some 1
 else
  some 0
theorem ll{a:Bool}{r:Int}(h:kz a=some r):CC Pg GE 63 [.bool a] (.int .i64 r) []:=by
 rcases aM h with⟨c1,h⟩|⟨c1,h⟩
 ·obtain rfl:=lf h
  have z:=sg 0 c1<|en (aI (rP (.int .i64 1))<|trivial)
  exact bv E4 call63 func63 (c:=Fh) rfl (aI trivial trivial) z<|by kernel_rfl
 ·obtain rfl:=lf h
  have z:=sg 0 c1<|en (aI (rP (.int .i64 0))<|trivial)
  exact bv E4 call63 func63 (c:=Fh) rfl (aI trivial trivial) z<|by kernel_rfl
noncomputable def FA:Code:=f61.body.getD .skip
def Ft:List Nat:=[]
def kA(a:am)(a2:am):Option Int:=
 (iS a.From a2.From).bind fun r1=>
 (iS a.To a2.To).bind fun r2=>
 (kz a.Strict).bind fun r3=>
 (kz a2.Strict).bind fun r4=>
 (iS r3 r4).bind fun r5=>
 (yJ ([r1,r2,r5]:List Int)).bind fun r6=>
 some r6
theorem nv{a:am}{a2:am}{r:Int}(h:kA a a2=some r):CC Pg GE 61 [.agg (ak a),.agg (ak a2)] (.int .i64 r) []:=by
 obtain⟨r1,br1,h⟩:=au h
 obtain⟨r2,br2,h⟩:=au h
 obtain⟨r3,br3,h⟩:=au h
 obtain⟨r4,br4,h⟩:=au h
 obtain⟨r5,br5,h⟩:=au h
 obtain⟨r6,br6,h⟩:=au h
 obtain rfl:=lf h
 have z:=se (mM a)<|se (mM a2)<|xi [0,1,0,4,15,0,32,0,128,511,0,1024,4095,0,8192,32767,65535,131071,262143,524287]<|sv (bS a)<|sv (co a)<|sv (bS a2)<|sv (co a2)<|bY (iH br1)<|sv (d9 a)<|sv (fi a)<|sv (d9 a2)<|sv (fi a2)<|bY (iH br2)<|sv (mD a)<|sv (nX a)<|bY (ll br3)<|sv (mD a2)<|sv (nX a2)<|bY (ll br4)<|bY (iH br5)<|sv (yq.mk' (v:=(PVal.int .i64)) (EP .i64) ([r1,r2,r5]:List Int) 3 (by kernel_rfl))<|bY (vZ br6)<|en (aI (rP (.int .i64 r6))<|trivial)
 exact bv Ft call61 func61 (c:=FA) rfl (aI (aA a) (aI (aA a2) trivial)) z<|by kernel_rfl
noncomputable def DI:Code:=f60.body.getD .skip
def CD:List Nat:=[15,32]
section
variable(s1:waA)(s2:waA)(t12:Int)(t13:Int)
def bR:aj:=a7 39 [(0,sl ak s1),(1,sl ak s2),(2,.func (.func 61) [] []),(11,sl ak s1),(12,.int .i64 t12),(13,.int .i64 t13)] [] []
def bp(o:Int⊕(Unit)):Exit:=match o with
 |(.inl _)=>.ret
 |(.inr _)=>.exit 0
def aW(o:Int⊕(Unit)):aj:=match o with
 |(.inl o)=>a7 39 [(6,.int .i64 o)] [] []
 |(.inr o)=>a7 39 [(0,sl ak s1),(1,sl ak s2)] [] []
def gU:Option (Int⊕(Int⊕(Unit))):=
 if (decide (t13 < t12)) = true then
  (gk s1 t13).bind fun x2=>
  if(decide (t13>=(s2.length:Int)))=true then
   some (.inr (.inl 1))
  else
   (gk s2 t13).bind fun x5=>
   (kA x2 x5).bind fun r6=>
   if(r6 !=0)=true then
    some (.inr (.inl r6))
   else
    some (.inl (cD (t13+1)))
 else
  some (.inr (.inr ()))
def iD:Option (Int⊕(Unit)):=loop (fun(zz:Int)=>gU s1 s2 t12 zz) t13
theorem kP{y:Int⊕(Int⊕(Unit))}(h:gU s1 s2 t12 t13=some y):aE Pg GE 0 (cA DI 55) (LQ (fun(zz:Int)=>bR s1 s2 t12 zz) bp (aW s1 s2) y) (bR s1 s2 t12 t13):=by
 rcases aM h with⟨c1,h⟩|⟨c1,h⟩
 ·obtain⟨x2,bx2,h⟩:=au h
  have p4:=fun{sc F} (r:PS sc F)=>sg 0 c1<|sv (cW.ia (k:=.i64) bx2)<|sv (eb x2)<|sx yj<|sx (jm x2)<|eG (cW.ln s2)<|r
  rcases aM h with⟨c3,h⟩|⟨c3,h⟩
  ·obtain rfl:=lf h
   have z:=p4<|sg 0 c3<|rK 0 (bp (.inl 1)) (aW s1 s2 (.inl 1)) rfl (dL (aI trivial trivial)) trivial
   exact jt (A:=CD) mixed (by intro hx;cases hx) z<|by kernel_rfl
  ·obtain⟨x5,bx5,h⟩:=au h
   obtain⟨r6,br6,h⟩:=au h
   have p8:=fun{sc F} (r:PS sc F)=>p4<|sg 0 c3<|sv (cW.ia (k:=.i64) bx5)<|sv (eb x5)<|sx yj<|sx (jm x5)<|sv (qp x2 [])<|sv (qp x5 [])<|bY (nv br6)<|r
   rcases aM h with⟨c7,h⟩|⟨c7,h⟩
   ·obtain rfl:=lf h
    have z:=p8<|sg 0 c7<|rK 0 (bp (.inl r6)) (aW s1 s2 (.inl r6)) rfl (dL (aI trivial trivial)) trivial
    exact jt (A:=CD) mixed (by intro hx;cases hx) z<|by kernel_rfl
   ·obtain rfl:=lf h
    have z:=p8<|sg 0 c7<|rK 0 .normal (bR s1 s2 t12 (cD (t13+1))) rfl (dL (aI (up (aK aA s1)) (aI (up (aK aA s2)) (aI (aI trivial trivial) (aI (up (aK aA s1)) (aI trivial (aI trivial trivial))))))) trivial
    exact h9 (A:=CD) mixed z<|by kernel_rfl
 ·obtain rfl:=lf h
  have z:=sg 0 c1<|eF (bp (.inr ())) (aW s1 s2 (.inr ()))
  exact j5 CD (by intro hx;cases hx) z<|by kernel_rfl
theorem gj{x:Int⊕(Unit)}(h:iD s1 s2 t12 t13=some x):aE Pg GE 0 (.loop (cA DI 55)) (EX (bp x) (aW s1 s2 x)) (bR s1 s2 t12 t13):=
 aE.loop (S:=fun(zz:Int)=>bR s1 s2 t12 zz) (ex:=bp) (s:=t13) h fun zz y hy=>kP s1 s2 t12 zz hy
end
def kB(s1:waA)(s2:waA):Option Int:=
 (iD s1 s2 (s1.length:Int) 0).bind fun o9=>match o9 with
 |(.inl o9)=>
  some o9
 | (.inr o9) =>
  if(decide ((s1.length:Int)<(s2.length:Int)))=true then
   some (-1)
  else
   some 0
theorem nw{s1:waA}{s2:waA}{r:Int}(h:kB s1 s2=some r):CC Pg GE 60 [sl ak s1,sl ak s2,.func (.func 61) [] []] (.int .i64 r) []:=by
 obtain⟨o9,bo9,h⟩:=au h
 rcases o9 with o9|o9
 ·obtain rfl:=lf h
  have z:=eG (cW.ln s1)<|dz (e:=.ret) (s1:=aW s1 s2 (.inl o9)) (gj s1 s2 (s1.length:Int) 0 bo9)<|en (aI (rP (.int .i64 o9))<|trivial)
  exact bv CD call60 func60 (c:=DI) rfl (aI (aK aA s1) (aI (aK aA s2) (aI (aI trivial trivial) trivial))) z<|by kernel_rfl
 ·have p11:=fun{sc F} (r:PS sc F)=>eG (cW.ln s1)<|dz (e:=.exit 0) (s1:=aW s1 s2 (.inr o9)) (gj s1 s2 (s1.length:Int) 0 bo9)<|eG (cW.ln s1)<|eG (cW.ln s2)<|r
  rcases aM h with⟨c10,h⟩|⟨c10,h⟩
  ·obtain rfl:=lf h
   have z:=p11<|sg 0 c10<|en (aI (rP (.int .i64 (-1)))<|trivial)
   exact bv CD call60 func60 (c:=DI) rfl (aI (aK aA s1) (aI (aK aA s2) (aI (aI trivial trivial) trivial))) z<|by kernel_rfl
  ·obtain rfl:=lf h
   have z:=p11<|sg 0 c10<|en (aI (rP (.int .i64 0))<|trivial)
   exact bv CD call60 func60 (c:=DI) rfl (aI (aK aA s1) (aI (aK aA s2) (aI (aI trivial trivial) trivial))) z<|by kernel_rfl
noncomputable def Fe:Code:=f39.body.getD .skip
def E1:List Nat:=[20]
def iM(a:ae)(a2:ae):Option Int:=
 (nR a.Caller a2.Caller).bind fun r1=>
 (nR a.Callee a2.Callee).bind fun r2=>
 (yJ ([r1,r2]:List Int)).bind fun r3=>
 if(r3 !=0)=true then
  some r3
 else
  (kB a.Arcs a2.Arcs).bind fun r6=>
  some r6
theorem oY{a:ae}{a2:ae}{r:Int}(h:iM a a2=some r):CC Pg GE 39 [.agg (ac a),.agg (ac a2)] (.int .i64 r) []:=by
 obtain⟨r1,br1,h⟩:=au h
 obtain⟨r2,br2,h⟩:=au h
 obtain⟨r3,br3,h⟩:=au h
 have p5:=fun{sc F} (r:PS sc F)=>se (bK a)<|se (bK a2)<|xi [0,1,0,4,15,0,32,0,128,511,1023,2047,4095]<|sv (aP a)<|sv (aX a)<|sv (aP a2)<|sv (aX a2)<|bY (nS br1)<|sv (aQ a)<|sv (aY a)<|sv (aQ a2)<|sv (aY a2)<|bY (nS br2)<|sv (yq.mk' (v:=(PVal.int .i64)) (EP .i64) ([r1,r2]:List Int) 2 (by kernel_rfl))<|bY (vZ br3)<|r
 rcases aM h with⟨c4,h⟩|⟨c4,h⟩
 ·obtain rfl:=lf h
  have z:=p5<|sg 0 c4<|en (aI (rP (.int .i64 r3))<|trivial)
  exact bv E1 call39 func39 (c:=Fe) rfl (aI (ag a) (aI (ag a2) trivial)) z<|by kernel_rfl
 ·obtain⟨r6,br6,h⟩:=au h
  obtain rfl:=lf h
  have z:=p5<|sg 0 c4<|sv (av a)<|sv (aw a)<|sv (av a2)<|sv (aw a2)<|bY (nw br6)<|en (aI (rP (.int .i64 r6))<|trivial)
  exact bv E1 call39 func39 (c:=Fe) rfl (aI (ag a) (aI (ag a2) trivial)) z<|by kernel_rfl
end Go.Proofs.YtoficachfgggjaaDoor
