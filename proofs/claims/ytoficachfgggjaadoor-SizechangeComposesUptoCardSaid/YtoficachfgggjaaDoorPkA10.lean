/- PROVED: a part of the proof. Conditions: none. -/
import Derived.Test.YtoficachfgggjaaDoorPkA9
noncomputable section
namespace Go.Proofs.YtoficachfgggjaaDoor
open Go Go.Proofs.Tryd
set_option linter.unusedVariables false
set_option maxRecDepth 100000
noncomputable def CS:Code:=f10.body.getD .skip
def zI:List Nat:=[21]
section
variable(g:aa)
def nJ:al:=be 63 [(1,.eptr (ae g))] [.dead] []
def eX(o:Bool):al:=be 63 [(1,.eptr (ae g)),(15,.bool o)] [.dead] []
def dP:Option Bool:=
 (ku g.Caller).bind fun r1=>
 if(r1 !=0)=true then
  some true
 else
  (ku g.Callee).bind fun r4=>
  some (r4 !=0)
theorem nk{x:Bool}(h:dP g=some x):aE Pg GE 0 (cA CS 12) (EX .normal (eX g x)) (nJ g):=by
 obtain⟨r1,br1,h⟩:=av h
 have p3:=fun{sc F} (r:PS sc F)=>sv (aO g)<|sv (aT g)<|co (pE br1)<|r
 rcases aM h with⟨c2,h⟩|⟨c2,h⟩
 ·obtain rfl:=lf h
  exact dH zI (p3<|sg 5 c2<|eF .normal (eX g true))<|by kernel_rfl
 ·obtain⟨r4,br4,h⟩:=av h
  obtain rfl:=lf h
  exact dH zI (p3<|sg 5 c2<|sv (aQ g)<|sv (aU g)<|co (pE br4)<|eF .normal (eX g (r4 !=0)))<|by kernel_rfl
end
section
variable(g:aa)(i:Int)(t17:waA)(t18:Int)(m1:jQ)(m:Int)(m2:Int)(m3:Bool)
def nK:al:=be 63 [(1,.eptr (ae g)),(3,.bptr 1 0),(4,.int .i64 i),(5,.bptr 2 0),(17,sl aj t17),(18,.int .i64 t18),(19,.int .i64 i)] [.dead,.cells (jC m1) [],.cells [.int .i64 m,.int .i64 m2,.bool m3] []] []
def eY(o:Bool):al:=be 63 [(1,.eptr (ae g)),(3,.bptr 1 0),(4,.int .i64 i),(5,.bptr 2 0),(17,sl aj t17),(18,.int .i64 t18),(19,.int .i64 i),(24,.bool o)] [.dead,.cells (jC m1) [],.cells [.int .i64 m,.int .i64 m2,.bool m3] []] []
def dQ:Option Bool:=
 (er m).bind fun r10=>
 if(!r10)=true then
  some true
 else
  (er m2).bind fun r13=>
  some (!r13)
theorem nl{x:Bool}(h:dQ m m2=some x):aE Pg GE 0 (cA CS 63450) (EX .normal (eY g i t17 t18 m1 m m2 m3 x)) (nK g i t17 t18 m1 m m2 m3):=by
 obtain⟨r10,br10,h⟩:=av h
 have p12:=fun{sc F} (r:PS sc F)=>ss<|co (jL br10)<|r
 rcases aM h with⟨c11,h⟩|⟨c11,h⟩
 ·obtain rfl:=lf h
  exact dH zI (p12<|sg 5 c11<|eF .normal (eY g i t17 t18 m1 m m2 m3 true))<|by kernel_rfl
 ·obtain⟨r13,br13,h⟩:=av h
  obtain rfl:=lf h
  exact dH zI (p12<|sg 5 c11<|ss<|co (jL br13)<|eF .normal (eY g i t17 t18 m1 m m2 m3 (!r13)))<|by kernel_rfl
end
section
variable(g:aa)(i:Int)(t17:waA)(t18:Int)(m1:jQ)(m:Int)(m2:Int)(m3:Bool)
def nL:al:=be 63 [(1,.eptr (ae g)),(3,.bptr 1 0),(4,.int .i64 i),(5,.bptr 2 0),(17,sl aj t17),(18,.int .i64 t18),(19,.int .i64 i)] [.dead,.cells (jC m1) [],.cells [.int .i64 m,.int .i64 m2,.bool m3] []] []
def eZ(o:Bool):al:=be 63 [(1,.eptr (ae g)),(3,.bptr 1 0),(5,.bptr 2 0),(17,sl aj t17),(18,.int .i64 t18),(19,.int .i64 i),(43,.bool o)] [.dead,.cells (jC m1) [],.cells [.int .i64 m,.int .i64 m2,.bool m3] []] []
def dR:Option Bool:=
 if(decide (i>0))=true then
  (gz g.Arcs (b5 (i - 1))).bind fun x22=>
  (fc (⟨m,m2,m3⟩:ah) x22).bind fun r23=>
  some r23
 else
  some false
theorem nm{x:Bool}(h:dR g i m m2 m3=some x):aE Pg GE 0 (cA CS 1015230) (EX .normal (eZ g i t17 t18 m1 m m2 m3 x)) (nL g i t17 t18 m1 m m2 m3):=by
 rcases aM h with⟨c21,h⟩|⟨c21,h⟩
 ·obtain⟨x22,bx22,h⟩:=av h
  obtain⟨r23,br23,h⟩:=av h
  obtain rfl:=lf h
  exact dH zI (yP [0,1,3,7,7,23,7,71,247,503,1023,2047,4095]<|sg 3 c21<|sv (mf (⟨m,m2,m3⟩:ah) [])<|sv (aw g)<|sv (ax g)<|sv (cF.ia (k:=.i64) bx22)<|sv (dO x22)<|co (oN br23)<|eF .normal (eZ g i t17 t18 m1 m m2 m3 r23))<|by kernel_rfl
 ·obtain rfl:=lf h
  exact dH zI (yP [0,1,3,7,7,23,7,71,247,503,1023,2047,4095]<|sg 3 c21<|eF .normal (eZ g i t17 t18 m1 m m2 m3 false))<|by kernel_rfl
end
section
variable(g:aa)(t17:waA)(t18:Int)(t19:Int)(m1:jQ)
def cj:al:=be 63 [(1,.eptr (ae g)),(3,.bptr 1 0),(17,sl aj t17),(18,.int .i64 t18),(19,.int .i64 t19)] [.dead,.cells (jC m1) []] []
def bg(o:(Int×jQ)⊕(jQ)):Exit:=match o with
 |(.inl _)=>.ret
 |(.inr _)=>.exit 0
def aW(o:(Int×jQ)⊕(jQ)):al:=match o with
 |(.inl o)=>be 63 [(2,.int .i64 o.1)] [.dead,.cells (jC o.2) []] []
 |(.inr o)=>be 63 [] [.dead,.cells (jC o) []] []
def ck:Option ((Int×jQ)⊕((Int×jQ)⊕(jQ))):=
 if (decide (t19 < t18)) = true then
  (gz t17 t19).bind fun x9=>
  (dQ x9.From x9.To).bind fun o14=>
  if o14=true then
   some (.inr (.inl (2,m1)))
  else
   (nO 6 x9.From).bind fun i17=>
   (nO 6 x9.To).bind fun i18=>
   if(m1 (0+i17 * 6+i18 * 1))=true then
    some (.inr (.inl (4,m1)))
   else
    (dR g t19 x9.From x9.To x9.Strict).bind fun o24=>
    if o24=true then
     some (.inr (.inl (9,m1)))
    else
     (nO 6 x9.From).bind fun i27=>
     (nO 6 x9.To).bind fun i28=>
     some (.inl (b5 (t19+1),fR m1 (0+i27 * 6+i28 * 1) true))
 else
  some (.inr (.inr m1))
def cb:Option ((Int×jQ)⊕(jQ)):=loop (fun(zz:Int×jQ)=>ck g t17 t18 zz.1 zz.2) (t19,m1)
theorem mD{y:(Int×jQ)⊕((Int×jQ)⊕(jQ))}(h:ck g t17 t18 t19 m1=some y):aE Pg GE 0 (cA CS 247) (LQ (fun(zz:Int×jQ)=>cj g t17 t18 zz.1 zz.2) bg aW y) (cj g t17 t18 t19 m1):=by
 rcases aM h with⟨c8,h⟩|⟨c8,h⟩
 ·obtain⟨x9,bx9,h⟩:=av h
  obtain⟨o14,bo14,h⟩:=av h
  have p16:=fun{sc F} (r:PS sc F)=>sg 0 c8<|sv (cF.ia (k:=.i64) bx9)<|sv (dO x9)<|sx tk<|sx (eN x9)<|pH 1<|dG (nl g t19 t17 t18 m1 x9.From x9.To x9.Strict bo14)<|r
  rcases aM h with⟨c15,h⟩|⟨c15,h⟩
  ·obtain rfl:=lf h
   have z:=p16<|sg 0 c15<|pw 0 (bg (.inl (2,m1))) (aW (.inl (2,m1))) rfl (cG (aI trivial trivial)) (aI trivial (aI (dZ (tu m1)) trivial))
   exact jD (A:=zI) mixed (by intro hx;cases hx) z<|by kernel_rfl
  ·obtain⟨i17,bi17,h⟩:=av h
   obtain⟨i18,bi18,h⟩:=av h
   have p20:=fun{sc F} (r:PS sc F)=>p16<|sg 0 c15<|yP [0,1,0,4,3,31,63,127]<|ss<|ss<|sv (D9 (b:=1) (off:=0) (k:=.i64) bi17)<|sv (D8 (b:=1) (off:=0+i17 * 6) (k:=.i64) bi18)<|sv (E3 (x:=m1) (CY bi17 bi18))<|r
   rcases aM h with⟨c19,h⟩|⟨c19,h⟩
   ·obtain rfl:=lf h
    have z:=p20<|sg 0 c19<|pw 0 (bg (.inl (4,m1))) (aW (.inl (4,m1))) rfl (cG (aI trivial trivial)) (aI trivial (aI (dZ (tu m1)) trivial))
    exact jD (A:=zI) mixed (by intro hx;cases hx) z<|by kernel_rfl
   ·obtain⟨o24,bo24,h⟩:=av h
    have p26:=fun{sc F} (r:PS sc F)=>p20<|sg 0 c19<|pH 0<|dG (nm g t19 t17 t18 m1 x9.From x9.To x9.Strict bo24)<|r
    rcases aM h with⟨c25,h⟩|⟨c25,h⟩
    ·obtain rfl:=lf h
     have z:=p26<|sg 0 c25<|pw 0 (bg (.inl (9,m1))) (aW (.inl (9,m1))) rfl (cG (aI trivial trivial)) (aI trivial (aI (dZ (tu m1)) trivial))
     exact jD (A:=zI) mixed (by intro hx;cases hx) z<|by kernel_rfl
    ·obtain⟨i27,bi27,h⟩:=av h
     obtain⟨i28,bi28,h⟩:=av h
     obtain rfl:=lf h
     have z:=p26<|sg 0 c25<|EH (.dx [0,1,0,4,3,31,63] [] [] [1])<|ss<|ss<|sv (D9 (b:=1) (off:=0) (k:=.i64) bi27)<|sv (D8 (b:=1) (off:=0+i27 * 6) (k:=.i64) bi28)<|Ft (E4 (x:=m1) (v:=true) (CY bi27 bi28))<|pw 0 .normal (cj g t17 t18 (b5 (t19+1)) (fR m1 (0+i27 * 6+i28 * 1) true)) rfl (cG (aI (dZ (af g)) (aI (cQ rfl) (aI (up (aB au t17)) (aI trivial (aI trivial trivial)))))) (aI trivial (aI (dZ (tu (fR m1 (0+i27 * 6+i28 * 1) true))) trivial))
     exact d6 (A:=zI) mixed z<|by kernel_rfl
 ·obtain rfl:=lf h
  have z:=sg 0 c8<|eF (bg (.inr m1)) (aW (.inr m1))
  exact jK zI (by intro hx;cases hx) z<|by kernel_rfl
theorem ir{x:(Int×jQ)⊕(jQ)}(h:cb g t17 t18 t19 m1=some x):aE Pg GE 0 (.loop (cA CS 247)) (EX (bg x) (aW x)) (cj g t17 t18 t19 m1):=
 aE.loop (S:=fun(zz:Int×jQ)=>cj g t17 t18 zz.1 zz.2) (ex:=bg) (s:=(t19,m1)) h fun zz y hy=>mD g t17 t18 zz.1 zz.2 hy
end
def bV(g:aa):Option Int:=
 (dP g).bind fun o5=>
 if o5=true then
  some 3
 else
  (cb g g.Arcs (g.Arcs.length:Int) 0 (pO false)).bind fun o29=>match o29 with
  |(.inl o29)=>
   some o29.1
  |(.inr o29)=>
   some 0
theorem cK{g:aa}{r:Int}(h:bV g=some r):CC Pg GE 10 [.agg (ae g)] (.int .i64 r) []:=by
 obtain⟨o5,bo5,h⟩:=av h
 have p7:=fun{sc F} (r:PS sc F)=>se (bq g)<|pH 1<|dG (nk g bo5)<|r
 rcases aM h with⟨c6,h⟩|⟨c6,h⟩
 ·obtain rfl:=lf h
  have z:=p7<|sg 0 c6<|en (aI (rP (.int .i64 3))<|trivial)
  exact bC zI call10 func10 (c:=CS) rfl (aI (af g) trivial) z<|by kernel_rfl
 ·obtain⟨o29,bo29,h⟩:=av h
  rcases o29 with o29|o29
  ·obtain rfl:=lf h
   have z:=p7<|sg 0 c6<|sx EB<|sv (aw g)<|sv (ax g)<|eP (cF.ln g.Arcs)<|dG (e:=.ret) (s1:=aW (.inl o29)) (ir g g.Arcs (g.Arcs.length:Int) 0 (pO false) bo29)<|en (aI (rP (.int .i64 o29.1))<|trivial)
   exact bC zI call10 func10 (c:=CS) rfl (aI (af g) trivial) z<|by kernel_rfl
  ·obtain rfl:=lf h
   have z:=p7<|sg 0 c6<|sx EB<|sv (aw g)<|sv (ax g)<|eP (cF.ln g.Arcs)<|dG (e:=.exit 0) (s1:=aW (.inr o29)) (ir g g.Arcs (g.Arcs.length:Int) 0 (pO false) bo29)<|en (aI (rP (.int .i64 0))<|trivial)
   exact bC zI call10 func10 (c:=CS) rfl (aI (af g) trivial) z<|by kernel_rfl
noncomputable def Ec:Code:=f14.body.getD .skip
def C3:List Nat:=[19,41]
section
variable(s:ag)(i:Int)(t15:waA)(t16:Int)(m:Int)(m2:Int)(m3:Bool)
def oL:al:=be 42 [(3,.str s),(4,.int .i64 i),(5,.bptr 1 0),(15,sl aj t15),(16,.int .i64 t16),(17,.int .i64 i)] [.dead,.cells [.int .i64 m,.int .i64 m2,.bool m3] []] []
def fH(o:ag):al:=be 42 [(3,.str o),(5,.bptr 1 0),(15,sl aj t15),(16,.int .i64 t16),(17,.int .i64 i)] [.dead,.cells [.int .i64 m,.int .i64 m2,.bool m3] []] []
def kH:Option ag:=
 if(decide (i>0))=true then
  (Cf s ([44]:ag)).bind fun s7=>
  some s7
 else
  some s
theorem nG{x:ag}(h:kH s i=some x):aE Pg GE 0 (cA Ec 7670) (EX .normal (fH i t15 t16 m m2 m3 x)) (oL s i t15 t16 m m2 m3):=by
 rcases aM h with⟨c6,h⟩|⟨c6,h⟩
 ·obtain⟨s7,bs7,h⟩:=av h
  obtain rfl:=lf h
  exact dH C3 (sg 0 c6<|sv (oP (P:=Pg) (t:=9) bs7)<|eF .normal (fH i t15 t16 m m2 m3 s7))<|by kernel_rfl
 ·obtain rfl:=lf h
  exact dH C3 (sg 0 c6<|eF .normal (fH i t15 t16 m m2 m3 s))<|by kernel_rfl
end
section
variable(s:ag)(t15:waA)(t16:Int)(t17:Int)(m:Int)(m2:Int)(m3:Bool)
def oM:al:=be 42 [(3,.str s),(5,.bptr 1 0),(6,.str ([32,62,61,32]:ag)),(15,sl aj t15),(16,.int .i64 t16),(17,.int .i64 t17)] [.dead,.cells [.int .i64 m,.int .i64 m2,.bool m3] []] []
def fI(o:ag):al:=be 42 [(3,.str s),(5,.bptr 1 0),(6,.str o),(15,sl aj t15),(16,.int .i64 t16),(17,.int .i64 t17)] [.dead,.cells [.int .i64 m,.int .i64 m2,.bool m3] []] []
def kI:Option ag:=
 if m3=true then
  some ([32,62,32]:ag)
 else
  some ([32,62,61,32]:ag)
theorem nH{x:ag}(h:kI m3=some x):aE Pg GE 0 (cA Ec 30686) (EX .normal (fI s t15 t16 t17 m m2 m3 x)) (oM s t15 t16 t17 m m2 m3):=by
 rcases aM h with⟨c9,h⟩|⟨c9,h⟩
 ·obtain rfl:=lf h
  exact dH C3 (ss<|sg 0 c9<|eF .normal (fI s t15 t16 t17 m m2 m3 ([32,62,32]:ag)))<|by kernel_rfl
 ·obtain rfl:=lf h
  exact dH C3 (ss<|sg 0 c9<|eF .normal (fI s t15 t16 t17 m m2 m3 ([32,62,61,32]:ag)))<|by kernel_rfl
end
section
variable(t15:waA)(t16:Int)(s:ag)(t17:Int)
def cy:al:=be 42 [(3,.str s),(15,sl aj t15),(16,.int .i64 t16),(17,.int .i64 t17)] [.dead] []
def fJ(o:ag):al:=be 42 [(3,.str o)] [.dead] []
def jz:Option ((ag×Int)⊕(ag)):=
 if(decide (t17<t16))=true then
  (gz t15 t17).bind fun x5=>
  (kH s t17).bind fun o8=>
  (kI x5.Strict).bind fun o10=>
  (BH x5.From).bind fun r11=>
  (Cf ([32]:ag) r11).bind fun s12=>
  (Cf s12 o10).bind fun s13=>
  (BH x5.To).bind fun r14=>
  (Cf s13 r14).bind fun s15=>
  (Cf o8 s15).bind fun s16=>
  some (.inl (s16,b5 (t17+1)))
 else
  some (.inr s)
def kJ:Option ag:=loop (fun(zz:ag×Int)=>jz t15 t16 zz.1 zz.2) (s,t17)
theorem nj{y:(ag×Int)⊕(ag)}(h:jz t15 t16 s t17=some y):aE Pg GE 0 (cA Ec 119) (LQ (fun(zz:ag×Int)=>cy t15 t16 zz.1 zz.2) (fun _=>.exit 0) fJ y) (cy t15 t16 s t17):=by
 rcases aM h with⟨c4,h⟩|⟨c4,h⟩
 ·obtain⟨x5,bx5,h⟩:=av h
  obtain⟨o8,bo8,h⟩:=av h
  obtain⟨o10,bo10,h⟩:=av h
  obtain⟨r11,br11,h⟩:=av h
  obtain⟨s12,bs12,h⟩:=av h
  obtain⟨s13,bs13,h⟩:=av h
  obtain⟨r14,br14,h⟩:=av h
  obtain⟨s15,bs15,h⟩:=av h
  obtain⟨s16,bs16,h⟩:=av h
  obtain rfl:=lf h
  have z:=sg 0 c4<|sv (cF.ia (k:=.i64) bx5)<|sv (dO x5)<|sx tk<|sx (eN x5)<|pH 0<|dG (nG s t17 t15 t16 x5.From x5.To x5.Strict bo8)<|pH 1<|dG (nH o8 t15 t16 t17 x5.From x5.To x5.Strict bo10)<|yP [0,0,2,6,14,0,62,0,128,398,1022,2047,4095]<|ss<|co (z8 br11)<|sv (oP (P:=Pg) (t:=9) bs12)<|sv (oP (P:=Pg) (t:=9) bs13)<|ss<|co (z8 br14)<|sv (oP (P:=Pg) (t:=9) bs15)<|sv (oP (P:=Pg) (t:=9) bs16)<|pw 0 .normal (cy t15 t16 s16 (b5 (t17+1))) rfl (cG (aI trivial (aI (up (aB au t15)) (aI trivial (aI trivial trivial))))) (aI trivial trivial)
  exact d6 (A:=C3) mixed z<|by kernel_rfl
 ·obtain rfl:=lf h
  have z:=sg 0 c4<|eF (.exit 0) (fJ s)
  exact jK C3 (by intro hx;cases hx) z<|by kernel_rfl
theorem nI{x:ag}(h:kJ t15 t16 s t17=some x):aE Pg GE 0 (.loop (cA Ec 119)) (EX (.exit 0) (fJ x)) (cy t15 t16 s t17):=
 aE.loop (S:=fun(zz:ag×Int)=>cy t15 t16 zz.1 zz.2) (ex:=(fun _=>.exit 0)) (s:=(s,t17)) h fun zz y hy=>nj t15 t16 zz.1 zz.2 hy
end
def jG(g:aa):Option ag:=
 (Cf g.Caller ([32,45,62,32]:ag)).bind fun s1=>
 (Cf s1 g.Callee).bind fun s2=>
 (Cf s2 ([58]:ag)).bind fun s3=>
 (kJ g.Arcs (g.Arcs.length:Int) s3 0).bind fun o17=>
 some o17
theorem kK{g:aa}{r:ag}(h:jG g=some r):CC Pg GE 14 [.agg (ae g)] (.str r) []:=by
 obtain⟨s1,bs1,h⟩:=av h
 obtain⟨s2,bs2,h⟩:=av h
 obtain⟨s3,bs3,h⟩:=av h
 obtain⟨o17,bo17,h⟩:=av h
 obtain rfl:=lf h
 have z:=se (bq g)<|sv (aO g)<|sv (aT g)<|sv (oP (P:=Pg) (t:=9) bs1)<|sv (aQ g)<|sv (aU g)<|sv (oP (P:=Pg) (t:=9) bs2)<|sv (oP (P:=Pg) (t:=9) bs3)<|sv (aw g)<|sv (ax g)<|eP (cF.ln g.Arcs)<|dG (nI g.Arcs (g.Arcs.length:Int) s3 0 bo17)<|en (aI (rP (.str o17))<|trivial)
 exact bC C3 call14 func14 (c:=Ec) rfl (aI (af g) trivial) z<|by kernel_rfl
noncomputable def FK:Code:=f36.body.getD .skip
def Fv:List Nat:=[17]
def dD(g:aa)(k1:(List (ag×Bool)))(k2:waB):Option ((List (ag×Bool))×waB):=
 (jG g).bind fun r1=>
 if(!((vR k1 r1).getD false))=true then
  (uc g.Arcs).bind fun r4=>
  (app k2 ([(⟨g.Caller,g.Callee,r4⟩:aa)]:List aa)).bind fun l5=>
  some (xe k1 r1 true,l5)
 else
  some (k1,k2)
theorem ea{g:aa}{k1:(List (ag×Bool))}{k2:waB}{r:(List (ag×Bool))×waB}(h:dD g k1 k2=some r):C Pg GE 36 [.agg (ae g),.bptr 0 0,.bptr 2 0] [] [.cells [.mapr 1] [],.map (cE PVal.bool k1),.cells [sl ae k2] [(0,24)]] (.tuple []) [] [.cells [.mapr 1] [],.map (cE PVal.bool r.1),.cells [sl ae r.2] [(0,24)]]:=by
 obtain⟨r1,br1,h⟩:=av h
 have p3:=fun{sc F} (r:PS sc F)=>sx (fF g)<|sv (bK g [])<|co (kK br1)<|ss<|sv (Du (f:=PVal.bool) underlying56 underlying9 Gm k1 r1)<|r
 rcases aM h with⟨c2,h⟩|⟨c2,h⟩
 ·obtain⟨r4,br4,h⟩:=av h
  obtain⟨l5,bl5,h⟩:=av h
  obtain rfl:=lf h
  have z:=p3<|sg 0 c2<|ss<|Gk (Dv (f:=PVal.bool) underlying56 underlying9 k1 r1 true)<|ss<|co (y8 br4)<|sv (bK (⟨g.Caller,g.Callee,r4⟩:aa) [])<|sv (gq.mk' (v:=mJ) kB ([(⟨g.Caller,g.Callee,r4⟩:aa)]:List aa) 1 (by kernel_rfl))<|sv (gq.ap bl5)<|en (aI (rP (.tuple []))<|aI trivial<|aI (rL [.cells [.mapr 1] [],.map (cE PVal.bool (xe k1 r1 true)),.cells [sl ae l5] [(0,24)]])<|(aI (aI (cQ (i:=1) (n:=3) rfl) trivial) (aI (Ct (n:=3) PVal.bool (fun x=>trivial) (xe k1 r1 true)) (aI (aI (up (n:=3) (aB af l5)) trivial) trivial))))
  exact C.evGp (A:=Fv) mixed (m:=3) (c:=FK) rfl call36 func36 rfl z<|by kernel_rfl
 ·obtain rfl:=lf h
  have z:=p3<|sg 0 c2<|en (aI (rP (.tuple []))<|aI trivial<|aI (rL [.cells [.mapr 1] [],.map (cE PVal.bool k1),.cells [sl ae k2] [(0,24)]])<|(aI (aI (cQ (i:=1) (n:=3) rfl) trivial) (aI (Ct (n:=3) PVal.bool (fun x=>trivial) k1) (aI (aI (up (n:=3) (aB af k2)) trivial) trivial))))
  exact C.evGp (A:=Fv) mixed (m:=3) (c:=FK) rfl call36 func36 rfl z<|by kernel_rfl
noncomputable def Fa:Code:=f55.body.getD .skip
def EL:List Nat:=[]
section
variable(t7:waA)(t8:Int)(t9:Int)(m2:g9)
def bF:al:=be 29 [(2,.bptr 1 0),(3,.bptr 2 0),(7,sl aj t7),(8,.int .i64 t8),(9,.int .i64 t9)] [.dead,.cells (bE (pO 0)) [],.cells (bE m2) []] []
def e7(o:g9):al:=be 29 [(2,.bptr 1 0),(3,.bptr 2 0)] [.dead,.cells (bE (pO 0)) [],.cells (bE o) []] []
def e6:Option ((Int×g9)⊕(g9)):=
 if(decide (t9<t8))=true then
  (gz t7 t9).bind fun x2=>
  (nO 6 x2.From).bind fun i3=>
  (nO 6 x2.To).bind fun i4=>
  if x2.Strict=true then
   (nO 6 x2.From).bind fun i7=>
   (nO 6 x2.To).bind fun i8=>
   some (.inl (b5 (t9+1),fR (fR m2 (0+i3 * 6+i4 * 1) 1) (0+i7 * 6+i8 * 1) 2))
  else
   some (.inl (b5 (t9+1),fR m2 (0+i3 * 6+i4 * 1) 1))
 else
  some (.inr m2)
def fZ:Option g9:=loop (fun(zz:Int×g9)=>e6 t7 t8 zz.1 zz.2) (t9,m2)
theorem mF{y:(Int×g9)⊕(g9)}(h:e6 t7 t8 t9 m2=some y):aE Pg GE 0 (cA Fa 119) (LQ (fun(zz:Int×g9)=>bF t7 t8 zz.1 zz.2) (fun _=>.exit 0) e7 y) (bF t7 t8 t9 m2):=by
 rcases aM h with⟨c1,h⟩|⟨c1,h⟩
 ·obtain⟨x2,bx2,h⟩:=av h
  obtain⟨i3,bi3,h⟩:=av h
  obtain⟨i4,bi4,h⟩:=av h
  have p6:=fun{sc F} (r:PS sc F)=>sg 0 c1<|sv (cF.ia (k:=.i64) bx2)<|sv (dO x2)<|sx tk<|sx (eN x2)<|EH (.dx [0,1,0,4,3,31,63] [] [] [2])<|ss<|ss<|sv (Au (b:=2) (off:=0) (k:=.i64) bi3)<|sv (At (b:=2) (off:=0+i3 * 6) (k:=.i64) bi4)<|Ft (Eb (x:=m2) (v:=1) (CY bi3 bi4))<|ss<|r
  rcases aM h with⟨c5,h⟩|⟨c5,h⟩
  ·obtain⟨i7,bi7,h⟩:=av h
   obtain⟨i8,bi8,h⟩:=av h
   obtain rfl:=lf h
   have z:=p6<|sg 0 c5<|EH (.dx [0,1,0,4,3,31,63] [] [] [2])<|ss<|ss<|sv (Au (b:=2) (off:=0) (k:=.i64) bi7)<|sv (At (b:=2) (off:=0+i7 * 6) (k:=.i64) bi8)<|Ft (Eb (x:=fR m2 (0+i3 * 6+i4 * 1) 1) (v:=2) (CY bi7 bi8))<|pw 0 .normal (bF t7 t8 (b5 (t9+1)) (fR (fR m2 (0+i3 * 6+i4 * 1) 1) (0+i7 * 6+i8 * 1) 2)) rfl (cG (aI (cQ rfl) (aI (cQ rfl) (aI (up (aB au t7)) (aI trivial (aI trivial trivial)))))) (aI trivial (aI (dZ (qx (pO 0))) (aI (dZ (qx (fR (fR m2 (0+i3 * 6+i4 * 1) 1) (0+i7 * 6+i8 * 1) 2))) trivial)))
   exact d6 (A:=EL) mixed z<|by kernel_rfl
  ·obtain rfl:=lf h
   have z:=p6<|sg 0 c5<|pw 0 .normal (bF t7 t8 (b5 (t9+1)) (fR m2 (0+i3 * 6+i4 * 1) 1)) rfl (cG (aI (cQ rfl) (aI (cQ rfl) (aI (up (aB au t7)) (aI trivial (aI trivial trivial)))))) (aI trivial (aI (dZ (qx (pO 0))) (aI (dZ (qx (fR m2 (0+i3 * 6+i4 * 1) 1))) trivial)))
   exact d6 (A:=EL) mixed z<|by kernel_rfl
 ·obtain rfl:=lf h
  have z:=sg 0 c1<|eF (.exit 0) (e7 m2)
  exact jK EL (by intro hx;cases hx) z<|by kernel_rfl
theorem nn{x:g9}(h:fZ t7 t8 t9 m2=some x):aE Pg GE 0 (.loop (cA Fa 119)) (EX (.exit 0) (e7 x)) (bF t7 t8 t9 m2):=
 aE.loop (S:=fun(zz:Int×g9)=>bF t7 t8 zz.1 zz.2) (ex:=(fun _=>.exit 0)) (s:=(t9,m2)) h fun zz y hy=>mF t7 t8 zz.1 zz.2 hy
end
def eu(g:aa):Option g9:=
 (fZ g.Arcs (g.Arcs.length:Int) 0 (pO 0)).bind fun o9=>
 some o9
theorem jM{g:aa}{r:g9}(h:eu g=some r):CC Pg GE 55 [.agg (ae g)] (.agg (bE r)) []:=by
 obtain⟨o9,bo9,h⟩:=av h
 obtain rfl:=lf h
 have z:=se (bq g)<|sx EC<|sx EC<|sv (aw g)<|sv (ax g)<|eP (cF.ln g.Arcs)<|dG (nn g.Arcs (g.Arcs.length:Int) 0 (pO 0) bo9)<|sv (CD o9)<|sx (uI o9)<|en (aI (rP (.agg (bE o9)))<|(qx o9))
 exact bC EL call55 func55 (c:=Fa) rfl (aI (af g) trivial) z<|by kernel_rfl
noncomputable def CV:Code:=f34.body.getD .skip
def Ba:List Nat:=[23,26,29,60]
section
variable(v:Int)(to:Int)(best:Int)(m:Int)(m2:waA)(m3:g9)(m4:g9)(m5:ag)(m6:ag)(m7:waA)
def mE:al:=be 72 [(4,.bptr 2 0),(5,.bptr 3 0),(6,.bptr 4 0),(7,.bptr 5 0),(8,.int .i64 v),(9,.int .i64 to),(10,.int .i64 best),(11,.int .i64 m),(21,.int .i64 v),(24,.int .i64 to),(27,.int .i64 m)] [.dead,.dead,.cells [.str ([]:ag),.str ([]:ag),sl aj m2] [(2,43)],.cells (bE m3) [],.cells (bE m4) [],.cells [.str m5,.str m6,sl aj m7] [(2,43)]] []
def ej(o:Bool):al:=be 72 [(4,.bptr 2 0),(5,.bptr 3 0),(6,.bptr 4 0),(7,.bptr 5 0),(8,.int .i64 v),(9,.int .i64 to),(10,.int .i64 best),(11,.int .i64 m),(21,.int .i64 v),(24,.int .i64 to),(27,.int .i64 m),(43,.bool o)] [.dead,.dead,.cells [.str ([]:ag),.str ([]:ag),sl aj m2] [(2,43)],.cells (bE m3) [],.cells (bE m4) [],.cells [.str m5,.str m6,sl aj m7] [(2,43)]] []
def dl:Option Bool:=
 (nO 6 v).bind fun i6=>
 (nO 6 m).bind fun i7=>
 if(decide ((m3 (0+i6 * 6+i7 * 1))>0))=true then
  (nO 6 m).bind fun i10=>
  (nO 6 to).bind fun i11=>
  some (decide ((m4 (0+i10 * 6+i11 * 1))>0))
 else
  some false
theorem lY{x:Bool}(h:dl v to m m3 m4=some x):aE Pg GE 0 (cA CV 4158643702) (EX .normal (ej v to best m m2 m3 m4 m5 m6 m7 x)) (mE v to best m m2 m3 m4 m5 m6 m7):=by
 obtain⟨i6,bi6,h⟩:=av h
 obtain⟨i7,bi7,h⟩:=av h
 have p9:=fun{sc F} (r:PS sc F)=>sv (Au (b:=3) (off:=0) (k:=.i64) bi6)<|sv (At (b:=3) (off:=0+i6 * 6) (k:=.i64) bi7)<|sv (Cr (x:=m3) (CY bi6 bi7))<|r
 rcases aM h with⟨c8,h⟩|⟨c8,h⟩
 ·obtain⟨i10,bi10,h⟩:=av h
  obtain⟨i11,bi11,h⟩:=av h
  obtain rfl:=lf h
  exact dH Ba (p9<|sg 7 c8<|sv (Au (b:=4) (off:=0) (k:=.i64) bi10)<|sv (At (b:=4) (off:=0+i10 * 6) (k:=.i64) bi11)<|sv (Cr (x:=m4) (CY bi10 bi11))<|eF .normal (ej v to best m m2 m3 m4 m5 m6 m7 (decide ((m4 (0+i10 * 6+i11 * 1))>0))))<|by kernel_rfl
 ·obtain rfl:=lf h
  exact dH Ba (p9<|sg 7 c8<|eF .normal (ej v to best m m2 m3 m4 m5 m6 m7 false))<|by kernel_rfl
end
section
variable(v:Int)(to:Int)(m:waA)(m3:g9)(m4:g9)(m2:ag)(m5:ag)(m6:waA)(best:Int)(t27:Int)
def bw:al:=be 72 [(4,.bptr 2 0),(5,.bptr 3 0),(6,.bptr 4 0),(7,.bptr 5 0),(8,.int .i64 v),(9,.int .i64 to),(10,.int .i64 best),(21,.int .i64 v),(24,.int .i64 to),(27,.int .i64 t27)] [.dead,.dead,.cells [.str ([]:ag),.str ([]:ag),sl aj m] [(2,43)],.cells (bE m3) [],.cells (bE m4) [],.cells [.str m2,.str m5,sl aj m6] [(2,43)]] []
def ep(o:Int):al:=be 72 [(4,.bptr 2 0),(5,.bptr 3 0),(6,.bptr 4 0),(7,.bptr 5 0),(8,.int .i64 v),(9,.int .i64 to),(10,.int .i64 o),(21,.int .i64 v),(24,.int .i64 to)] [.dead,.dead,.cells [.str ([]:ag),.str ([]:ag),sl aj m] [(2,43)],.cells (bE m3) [],.cells (bE m4) [],.cells [.str m2,.str m5,sl aj m6] [(2,43)]] []
def cC:Option ((Int×Int)⊕(Int)):=
 if(decide (t27<6))=true then
  (dl v to t27 m3 m4).bind fun o12=>
  if o12=true then
   (nO 6 v).bind fun i15=>
   (nO 6 t27).bind fun i16=>
   (nO 6 t27).bind fun i17=>
   (nO 6 to).bind fun i18=>
   some (.inl ((if(m4 (0+i17 * 6+i18 * 1))>(if(m3 (0+i15 * 6+i16 * 1))>best then m3 (0+i15 * 6+i16 * 1)else best)then m4 (0+i17 * 6+i18 * 1)else(if(m3 (0+i15 * 6+i16 * 1))>best then m3 (0+i15 * 6+i16 * 1)else best)),b5 (t27+1)))
  else
   some (.inl (best,b5 (t27+1)))
 else
  some (.inr best)
def dm:Option Int:=loop (fun(zz:Int×Int)=>cC v to m3 m4 zz.1 zz.2) (best,t27)
theorem lh{y:(Int×Int)⊕(Int)}(h:cC v to m3 m4 best t27=some y):aE Pg GE 0 (cA CV 64978807) (LQ (fun(zz:Int×Int)=>bw v to m m3 m4 m2 m5 m6 zz.1 zz.2) (fun _=>.exit 4) (ep v to m m3 m4 m2 m5 m6) y) (bw v to m m3 m4 m2 m5 m6 best t27):=by
 rcases aM h with⟨c5,h⟩|⟨c5,h⟩
 ·obtain⟨o12,bo12,h⟩:=av h
  have p14:=fun{sc F} (r:PS sc F)=>sg 0 c5<|pH 2<|dG (lY v to best t27 m m3 m4 m2 m5 m6 bo12)<|r
  rcases aM h with⟨c13,h⟩|⟨c13,h⟩
  ·obtain⟨i15,bi15,h⟩:=av h
   obtain⟨i16,bi16,h⟩:=av h
   obtain⟨i17,bi17,h⟩:=av h
   obtain⟨i18,bi18,h⟩:=av h
   obtain rfl:=lf h
   exact rf Ba (p14<|sg 0 c13<|yP [0,0,0,2,14,30,0,0,64,448,960,2047,4095]<|sv (Au (b:=3) (off:=0) (k:=.i64) bi15)<|sv (At (b:=3) (off:=0+i15 * 6) (k:=.i64) bi16)<|sv (Cr (x:=m3) (CY bi15 bi16))<|sv (Au (b:=4) (off:=0) (k:=.i64) bi17)<|sv (At (b:=4) (off:=0+i17 * 6) (k:=.i64) bi18)<|sv (Cr (x:=m4) (CY bi17 bi18))<|eF .normal (bw v to m m3 m4 m2 m5 m6 (if(m4 (0+i17 * 6+i18 * 1))>(if(m3 (0+i15 * 6+i16 * 1))>best then m3 (0+i15 * 6+i16 * 1)else best)then m4 (0+i17 * 6+i18 * 1)else(if(m3 (0+i15 * 6+i16 * 1))>best then m3 (0+i15 * 6+i16 * 1)else best)) (b5 (t27+1))))<|by kernel_rfl
  ·obtain rfl:=lf h
   exact rf Ba (p14<|sg 0 c13<|eF .normal (bw v to m m3 m4 m2 m5 m6 best (b5 (t27+1))))<|by kernel_rfl
 ·obtain rfl:=lf h
  have z:=sg 0 c5<|eF (.exit 4) (ep v to m m3 m4 m2 m5 m6 best)
  exact jK Ba (by intro hx;cases hx) z<|by kernel_rfl
theorem l8{x:Int}(h:dm v to m3 m4 best t27=some x):aE Pg GE 0 (.loop (cA CV 64978807)) (EX (.exit 4) (ep v to m m3 m4 m2 m5 m6 x)) (bw v to m m3 m4 m2 m5 m6 best t27):=
 aE.loop (S:=fun(zz:Int×Int)=>bw v to m m3 m4 m2 m5 m6 zz.1 zz.2) (ex:=(fun _=>.exit 4)) (s:=(best,t27)) h fun zz y hy=>lh v to m m3 m4 m2 m5 m6 zz.1 zz.2 hy
end
section
variable(v:Int)(m:waA)(m3:g9)(m4:g9)(m2:ag)(m5:ag)(t24:Int)(m6:waA)
def bv:al:=be 72 [(4,.bptr 2 0),(5,.bptr 3 0),(6,.bptr 4 0),(7,.bptr 5 0),(8,.int .i64 v),(21,.int .i64 v),(24,.int .i64 t24)] [.dead,.dead,.cells [.str ([]:ag),.str ([]:ag),sl aj m] [(2,43)],.cells (bE m3) [],.cells (bE m4) [],.cells [.str m2,.str m5,sl aj m6] [(2,43)]] []
def eo(o:waA):al:=be 72 [(4,.bptr 2 0),(5,.bptr 3 0),(6,.bptr 4 0),(7,.bptr 5 0),(21,.int .i64 v)] [.dead,.dead,.cells [.str ([]:ag),.str ([]:ag),sl aj m] [(2,43)],.cells (bE m3) [],.cells (bE m4) [],.cells [.str m2,.str m5,sl aj o] [(2,43)]] []
def bY:Option ((Int×waA)⊕(waA)):=
 if(decide (t24<6))=true then
  (dm v t24 m3 m4 0 0).bind fun o19=>
  if(decide (o19>0))=true then
   (app m6 ([(⟨v,t24,o19==2⟩:ah)]:List ah)).bind fun l22=>
   some (.inl (b5 (t24+1),l22))
  else
   some (.inl (b5 (t24+1),m6))
 else
  some (.inr m6)
def iJ:Option waA:=loop (fun(zz:Int×waA)=>bY v m3 m4 zz.1 zz.2) (t24,m6)
theorem lc{y:(Int×waA)⊕(waA)}(h:bY v m3 m4 t24 m6=some y):aE Pg GE 0 (cA CV 63455) (LQ (fun(zz:Int×waA)=>bv v m m3 m4 m2 m5 zz.1 zz.2) (fun _=>.exit 2) (eo v m m3 m4 m2 m5) y) (bv v m m3 m4 m2 m5 t24 m6):=by
 rcases aM h with⟨c4,h⟩|⟨c4,h⟩
 ·obtain⟨o19,bo19,h⟩:=av h
  have p21:=fun{sc F} (r:PS sc F)=>sg 0 c4<|dG (l8 v t24 m m3 m4 m2 m5 m6 0 0 bo19)<|r
  rcases aM h with⟨c20,h⟩|⟨c20,h⟩
  ·obtain⟨l22,bl22,h⟩:=av h
   obtain rfl:=lf h
   exact rf Ba (p21<|sg 0 c20<|sv (pr v t24 (o19==2))<|sv (cF.mk' (v:=xF) uJ ([(⟨v,t24,o19==2⟩:ah)]:List ah) 1 (by kernel_rfl))<|sv (cF.ap bl22)<|eF .normal (bv v m m3 m4 m2 m5 (b5 (t24+1)) l22))<|by kernel_rfl
  ·obtain rfl:=lf h
   exact rf Ba (p21<|sg 0 c20<|eF .normal (bv v m m3 m4 m2 m5 (b5 (t24+1)) m6))<|by kernel_rfl
 ·obtain rfl:=lf h
  have z:=sg 0 c4<|eF (.exit 2) (eo v m m3 m4 m2 m5 m6)
  exact jK Ba (by intro hx;cases hx) z<|by kernel_rfl
theorem l7{x:waA}(h:iJ v m3 m4 t24 m6=some x):aE Pg GE 0 (.loop (cA CV 63455)) (EX (.exit 2) (eo v m m3 m4 m2 m5 x)) (bv v m m3 m4 m2 m5 t24 m6):=
 aE.loop (S:=fun(zz:Int×waA)=>bv v m m3 m4 m2 m5 zz.1 zz.2) (ex:=(fun _=>.exit 2)) (s:=(t24,m6)) h fun zz y hy=>lc v m m3 m4 m2 m5 zz.1 zz.2 hy
end
section
variable(m:waA)(m3:g9)(m4:g9)(m2:ag)(m5:ag)(t21:Int)(m6:waA)
def bW:al:=be 72 [(4,.bptr 2 0),(5,.bptr 3 0),(6,.bptr 4 0),(7,.bptr 5 0),(21,.int .i64 t21)] [.dead,.dead,.cells [.str ([]:ag),.str ([]:ag),sl aj m] [(2,43)],.cells (bE m3) [],.cells (bE m4) [],.cells [.str m2,.str m5,sl aj m6] [(2,43)]] []
def ek(o:waA):al:=be 72 [(4,.bptr 2 0),(7,.bptr 5 0)] [.dead,.dead,.cells [.str ([]:ag),.str ([]:ag),sl aj m] [(2,43)],.cells (bE m3) [],.cells (bE m4) [],.cells [.str m2,.str m5,sl aj o] [(2,43)]] []
def bX:Option ((Int×waA)⊕(waA)):=
 if(decide (t21<6))=true then
  (iJ t21 m3 m4 0 m6).bind fun o23=>
  some (.inl (b5 (t21+1),o23))
 else
  some (.inr m6)
def e5:Option waA:=loop (fun(zz:Int×waA)=>bX m3 m4 zz.1 zz.2) (t21,m6)
theorem la{y:(Int×waA)⊕(waA)}(h:bX m3 m4 t21 m6=some y):aE Pg GE 0 (cA CV 247) (LQ (fun(zz:Int×waA)=>bW m m3 m4 m2 m5 zz.1 zz.2) (fun _=>.exit 0) (ek m m3 m4 m2 m5) y) (bW m m3 m4 m2 m5 t21 m6):=by
 rcases aM h with⟨c3,h⟩|⟨c3,h⟩
 ·obtain⟨o23,bo23,h⟩:=av h
  obtain rfl:=lf h
  exact rf Ba (sg 0 c3<|dG (l7 t21 m m3 m4 m2 m5 0 m6 bo23)<|eF .normal (bW m m3 m4 m2 m5 (b5 (t21+1)) o23))<|by kernel_rfl
 ·obtain rfl:=lf h
  have z:=sg 0 c3<|eF (.exit 0) (ek m m3 m4 m2 m5 m6)
  exact jK Ba (by intro hx;cases hx) z<|by kernel_rfl
theorem lZ{x:waA}(h:e5 m3 m4 t21 m6=some x):aE Pg GE 0 (.loop (cA CV 247)) (EX (.exit 0) (ek m m3 m4 m2 m5 x)) (bW m m3 m4 m2 m5 t21 m6):=
 aE.loop (S:=fun(zz:Int×waA)=>bW m m3 m4 m2 m5 zz.1 zz.2) (ex:=(fun _=>.exit 0)) (s:=(t21,m6)) h fun zz y hy=>la m m3 m4 m2 m5 zz.1 zz.2 hy
end
def bL(a:aa)(a2:aa):Option aa:=
 (eu a).bind fun r1=>
 (eu a2).bind fun r2=>
 (e5 r1 r2 0 ([]:List ah)).bind fun o24=>
 some (⟨a.Caller,a2.Callee,o24⟩:aa)
theorem dn{a:aa}{a2:aa}{r:aa}(h:bL a a2=some r):CC Pg GE 34 [.agg (ae a),.agg (ae a2)] (.agg (ae r)) [(2,43)]:=by
 obtain⟨r1,br1,h⟩:=av h
 obtain⟨r2,br2,h⟩:=av h
 obtain⟨o24,bo24,h⟩:=av h
 obtain rfl:=lf h
 have z:=se (bq a)<|se (bq a2)<|sx qY<|yP [0,1,0,7,0,0,63,127]<|sv (aV a)<|co (jM br1)<|sv (aV a2)<|co (jM br2)<|sx (uI r1)<|sx (uI r2)<|sv (aO a)<|sv (aT a)<|sv (aQ a2)<|sv (aU a2)<|sb (lK a.Caller a2.Callee) (lJ a.Caller a2.Callee)<|sx qY<|sy (bo (⟨a.Caller,a2.Callee,([]:List ah)⟩:aa))<|dG (lZ ([]:List ah) r1 r2 a.Caller a2.Callee 0 ([]:List ah) bo24)<|sz (bK (⟨a.Caller,a2.Callee,o24⟩:aa) [])<|sy (bo (⟨a.Caller,a2.Callee,o24⟩:aa))<|en (aI (dL (⟨a.Caller,a2.Callee,o24⟩:aa))<|aI (af (⟨a.Caller,a2.Callee,o24⟩:aa))<|rT)
 exact bC Ba call34 func34 (c:=CV) rfl (aI (af a) (aI (af a2) trivial)) z<|by kernel_rfl
noncomputable def Gd:Code:=f85.body.getD .skip
def F7:List Nat:=[]
def rq(a:ag):Option Bool:=
 some (!(a==a))
theorem qz{a:ag}{r:Bool}(h:rq a=some r):CC Pg GE 85 [.str a] (.bool r) []:=by
 obtain rfl:=lf h
 have z:=en (aI (rP (.bool (!(a==a))))<|trivial)
 exact bC F7 call85 func85 (c:=Gd) rfl (aI trivial trivial) z<|by kernel_rfl
noncomputable def DR:Code:=f59.body.getD .skip
def DL:List Nat:=[]
def og(a:ag)(a2:ag):Option Int:=
 (rq a).bind fun r1=>
 (rq a2).bind fun r2=>
 if r1=true then
  if r2=true then
   some 0
  else
   some (-1)
 else
  if r2=true then
   some 1
  else
   if(Op.bytesLess a a2)=true then
    some (-1)
   else
    if(!(Op.bytesLess a a2||a==a2))=true then
     some 1
    else
     some 0
theorem oh{a:ag}{a2:ag}{r:Int}(h:og a a2=some r):CC Pg GE 59 [.str a,.str a2] (.int .i64 r) []:=by
 obtain⟨r1,br1,h⟩:=av h
 obtain⟨r2,br2,h⟩:=av h
 have p4:=fun{sc F} (r:PS sc F)=>co (qz br1)<|co (qz br2)<|r
 rcases aM h with⟨c3,h⟩|⟨c3,h⟩
 ·have p6:=fun{sc F} (r:PS sc F)=>p4<|sg 0 c3<|r
  rcases aM h with⟨c5,h⟩|⟨c5,h⟩
  ·obtain rfl:=lf h
   have z:=p6<|sg 0 c5<|en (aI (rP (.int .i64 0))<|trivial)
   exact bC DL call59 func59 (c:=DR) rfl (aI trivial (aI trivial trivial)) z<|by kernel_rfl
  ·obtain rfl:=lf h
   have z:=p6<|sg 0 c5<|en (aI (rP (.int .i64 (-1)))<|trivial)
   exact bC DL call59 func59 (c:=DR) rfl (aI trivial (aI trivial trivial)) z<|by kernel_rfl
 ·have p8:=fun{sc F} (r:PS sc F)=>p4<|sg 0 c3<|r
  rcases aM h with⟨c7,h⟩|⟨c7,h⟩
  ·obtain rfl:=lf h
   have z:=p8<|sg 0 c7<|en (aI (rP (.int .i64 1))<|trivial)
   exact bC DL call59 func59 (c:=DR) rfl (aI trivial (aI trivial trivial)) z<|by kernel_rfl
  ·have p10:=fun{sc F} (r:PS sc F)=>p8<|sg 0 c7<|r
   rcases aM h with⟨c9,h⟩|⟨c9,h⟩
   ·obtain rfl:=lf h
    have z:=p10<|sg 0 c9<|en (aI (rP (.int .i64 (-1)))<|trivial)
    exact bC DL call59 func59 (c:=DR) rfl (aI trivial (aI trivial trivial)) z<|by kernel_rfl
   ·have p12:=fun{sc F} (r:PS sc F)=>p10<|sg 0 c9<|r
    rcases aM h with⟨c11,h⟩|⟨c11,h⟩
    ·obtain rfl:=lf h
     have z:=p12<|sg 0 c11<|en (aI (rP (.int .i64 1))<|trivial)
     exact bC DL call59 func59 (c:=DR) rfl (aI trivial (aI trivial trivial)) z<|by kernel_rfl
    ·obtain rfl:=lf h
     have z:=p12<|sg 0 c11<|en (aI (rP (.int .i64 0))<|trivial)
     exact bC DL call59 func59 (c:=DR) rfl (aI trivial (aI trivial trivial)) z<|by kernel_rfl
noncomputable def EO:Code:=f58.body.getD .skip
def DW:List Nat:=[15,17]
section
variable(t6:(List Int))(t7:Int)(t8:Int)
def jn:al:=be 18 [(3,.int .i64 0),(6,sl (cI .i64) t6),(7,.int .i64 t7),(8,.int .i64 t8)] [] []
def jo(o:Int⊕(Unit)):Exit:=match o with
 |(.inl _)=>.ret
 |(.inr _)=>.exit 0
def gQ(o:Int⊕(Unit)):al:=match o with
 |(.inl o)=>be 18 [(2,.int .i64 o)] [] []
 |(.inr o)=>be 18 [(3,.int .i64 0)] [] []
def sq:Option (Int⊕(Int⊕(Unit))):=
 if(decide (t8<t7))=true then
  (gz t6 t8).bind fun x2=>
  if(x2 !=0)=true then
   some (.inr (.inl x2))
  else
   some (.inl (b5 (t8+1)))
 else
  some (.inr (.inr ()))
def wh:Option (Int⊕(Unit)):=loop (fun(zz:Int)=>sq t6 t7 zz) t8
theorem vJ{y:Int⊕(Int⊕(Unit))}(h:sq t6 t7 t8=some y):aE Pg GE 0 (cA EO 119) (LQ (fun(zz:Int)=>jn t6 t7 zz) jo gQ y) (jn t6 t7 t8):=by
 rcases aM h with⟨c1,h⟩|⟨c1,h⟩
 ·obtain⟨x2,bx2,h⟩:=av h
  have p4:=fun{sc F} (r:PS sc F)=>sg 0 c1<|sv (yN.ia (k:=.i64) bx2)<|sv (ng Gj (.int .i64 x2) [])<|r
  rcases aM h with⟨c3,h⟩|⟨c3,h⟩
  ·obtain rfl:=lf h
   have z:=p4<|sg 0 c3<|eF (jo (.inl x2)) (gQ (.inl x2))
   exact jK DW (by intro hx;cases hx) z<|by kernel_rfl
  ·obtain rfl:=lf h
   exact rf DW (p4<|sg 0 c3<|eF .normal (jn t6 t7 (b5 (t8+1))))<|by kernel_rfl
 ·obtain rfl:=lf h
  have z:=sg 0 c1<|eF (jo (.inr ())) (gQ (.inr ()))
  exact jK DW (by intro hx;cases hx) z<|by kernel_rfl
theorem qy{x:Int⊕(Unit)}(h:wh t6 t7 t8=some x):aE Pg GE 0 (.loop (cA EO 119)) (EX (jo x) (gQ x)) (jn t6 t7 t8):=
 aE.loop (S:=fun(zz:Int)=>jn t6 t7 zz) (ex:=jo) (s:=t8) h fun zz y hy=>vJ t6 t7 zz hy
end
def zc(vals:(List Int)):Option Int:=
 (wh vals (vals.length:Int) 0).bind fun o5=>match o5 with
 |(.inl o5)=>
  some o5
 |(.inr o5)=>
  some 0
theorem wj{vals:(List Int)}{r:Int}(h:zc vals=some r):CC Pg GE 58 [sl (cI .i64) vals] (.int .i64 r) []:=by
 obtain⟨o5,bo5,h⟩:=av h
 rcases o5 with o5|o5
 ·obtain rfl:=lf h
  have z:=eP (yN.ln vals)<|dG (e:=.ret) (s1:=gQ (.inl o5)) (qy vals (vals.length:Int) 0 bo5)<|en (aI (rP (.int .i64 o5))<|trivial)
  exact bC DW call58 func58 (c:=EO) rfl (aI (aB (Fb .i64) vals) trivial) z<|by kernel_rfl
 ·obtain rfl:=lf h
  have z:=eP (yN.ln vals)<|dG (e:=.exit 0) (s1:=gQ (.inr o5)) (qy vals (vals.length:Int) 0 bo5)<|en (aI (rP (.int .i64 0))<|trivial)
  exact bC DW call58 func58 (c:=EO) rfl (aI (aB (Fb .i64) vals) trivial) z<|by kernel_rfl
noncomputable def Ge:Code:=f86.body.getD .skip
def F8:List Nat:=[]
def ol(a:Int):Option Bool:=
 some (a !=a)
theorem om{a:Int}{r:Bool}(h:ol a=some r):CC Pg GE 86 [.int .i64 a] (.bool r) []:=by
 obtain rfl:=lf h
 have z:=en (aI (rP (.bool (a !=a)))<|trivial)
 exact bC F8 call86 func86 (c:=Ge) rfl (aI trivial trivial) z<|by kernel_rfl
noncomputable def DS:Code:=f62.body.getD .skip
def DM:List Nat:=[]
def iZ(a:Int)(a2:Int):Option Int:=
 (ol a).bind fun r1=>
 (ol a2).bind fun r2=>
 if r1=true then
  if r2=true then
   some 0
  else
   some (-1)
 else
  if r2=true then
   some 1
  else
   if(decide (a<a2))=true then
    some (-1)
   else
    if(decide (a>a2))=true then
     some 1
    else
     some 0
theorem iQ{a:Int}{a2:Int}{r:Int}(h:iZ a a2=some r):CC Pg GE 62 [.int .i64 a,.int .i64 a2] (.int .i64 r) []:=by
 obtain⟨r1,br1,h⟩:=av h
 obtain⟨r2,br2,h⟩:=av h
 have p4:=fun{sc F} (r:PS sc F)=>co (om br1)<|co (om br2)<|r
 rcases aM h with⟨c3,h⟩|⟨c3,h⟩
 ·have p6:=fun{sc F} (r:PS sc F)=>p4<|sg 0 c3<|r
  rcases aM h with⟨c5,h⟩|⟨c5,h⟩
  ·obtain rfl:=lf h
   have z:=p6<|sg 0 c5<|en (aI (rP (.int .i64 0))<|trivial)
   exact bC DM call62 func62 (c:=DS) rfl (aI trivial (aI trivial trivial)) z<|by kernel_rfl
  ·obtain rfl:=lf h
   have z:=p6<|sg 0 c5<|en (aI (rP (.int .i64 (-1)))<|trivial)
   exact bC DM call62 func62 (c:=DS) rfl (aI trivial (aI trivial trivial)) z<|by kernel_rfl
 ·have p8:=fun{sc F} (r:PS sc F)=>p4<|sg 0 c3<|r
  rcases aM h with⟨c7,h⟩|⟨c7,h⟩
  ·obtain rfl:=lf h
   have z:=p8<|sg 0 c7<|en (aI (rP (.int .i64 1))<|trivial)
   exact bC DM call62 func62 (c:=DS) rfl (aI trivial (aI trivial trivial)) z<|by kernel_rfl
  ·have p10:=fun{sc F} (r:PS sc F)=>p8<|sg 0 c7<|r
   rcases aM h with⟨c9,h⟩|⟨c9,h⟩
   ·obtain rfl:=lf h
    have z:=p10<|sg 0 c9<|en (aI (rP (.int .i64 (-1)))<|trivial)
    exact bC DM call62 func62 (c:=DS) rfl (aI trivial (aI trivial trivial)) z<|by kernel_rfl
   ·have p12:=fun{sc F} (r:PS sc F)=>p10<|sg 0 c9<|r
    rcases aM h with⟨c11,h⟩|⟨c11,h⟩
    ·obtain rfl:=lf h
     have z:=p12<|sg 0 c11<|en (aI (rP (.int .i64 1))<|trivial)
     exact bC DM call62 func62 (c:=DS) rfl (aI trivial (aI trivial trivial)) z<|by kernel_rfl
    ·obtain rfl:=lf h
     have z:=p12<|sg 0 c11<|en (aI (rP (.int .i64 0))<|trivial)
     exact bC DM call62 func62 (c:=DS) rfl (aI trivial (aI trivial trivial)) z<|by kernel_rfl
noncomputable def FP:Code:=f63.body.getD .skip
def FA:List Nat:=[]
def kL(a:Bool):Option Int:=
 if a=true then
  some 1
 else
  some 0
theorem lC{a:Bool}{r:Int}(h:kL a=some r):CC Pg GE 63 [.bool a] (.int .i64 r) []:=by
 rcases aM h with⟨c1,h⟩|⟨c1,h⟩
 ·obtain rfl:=lf h
  have z:=sg 0 c1<|en (aI (rP (.int .i64 1))<|trivial)
  exact bC FA call63 func63 (c:=FP) rfl (aI trivial trivial) z<|by kernel_rfl
 ·obtain rfl:=lf h
  have z:=sg 0 c1<|en (aI (rP (.int .i64 0))<|trivial)
  exact bC FA call63 func63 (c:=FP) rfl (aI trivial trivial) z<|by kernel_rfl
noncomputable def Gb:Code:=f61.body.getD .skip
def F5:List Nat:=[]
def kM(a:ah)(a2:ah):Option Int:=
 (iZ a.From a2.From).bind fun r1=>
 (iZ a.To a2.To).bind fun r2=>
 (kL a.Strict).bind fun r3=>
 (kL a2.Strict).bind fun r4=>
 (iZ r3 r4).bind fun r5=>
 (zc ([r1,r2,r5]:List Int)).bind fun r6=>
 some r6
theorem nM{a:ah}{a2:ah}{r:Int}(h:kM a a2=some r):CC Pg GE 61 [.agg (aj a),.agg (aj a2)] (.int .i64 r) []:=by
 obtain⟨r1,br1,h⟩:=av h
 obtain⟨r2,br2,h⟩:=av h
 obtain⟨r3,br3,h⟩:=av h
 obtain⟨r4,br4,h⟩:=av h
 obtain⟨r5,br5,h⟩:=av h
 obtain⟨r6,br6,h⟩:=av h
 obtain rfl:=lf h
 have z:=se (nd a)<|se (nd a2)<|yP [0,1,0,4,15,0,32,0,128,511,0,1024,4095,0,8192,32767,65535,131071,262143,524287]<|sv (b6 a)<|sv (cw a)<|sv (b6 a2)<|sv (cw a2)<|co (iQ br1)<|sv (eA a)<|sv (fA a)<|sv (eA a2)<|sv (fA a2)<|co (iQ br2)<|sv (mW a)<|sv (ou a)<|co (lC br3)<|sv (mW a2)<|sv (ou a2)<|co (lC br4)<|co (iQ br5)<|sv (yN.mk' (v:=(PVal.int .i64)) (F3 .i64) ([r1,r2,r5]:List Int) 3 (by kernel_rfl))<|co (wj br6)<|en (aI (rP (.int .i64 r6))<|trivial)
 exact bC F5 call61 func61 (c:=Gb) rfl (aI (au a) (aI (au a2) trivial)) z<|by kernel_rfl
noncomputable def Eg:Code:=f60.body.getD .skip
def C4:List Nat:=[15,32]
section
variable(s1:waA)(s2:waA)(t12:Int)(t13:Int)
def bZ:al:=be 39 [(0,sl aj s1),(1,sl aj s2),(2,.func (.func 61) [] []),(11,sl aj s1),(12,.int .i64 t12),(13,.int .i64 t13)] [] []
def bz(o:Int⊕(Unit)):Exit:=match o with
 |(.inl _)=>.ret
 |(.inr _)=>.exit 0
def a8(o:Int⊕(Unit)):al:=match o with
 |(.inl o)=>be 39 [(6,.int .i64 o)] [] []
 |(.inr o)=>be 39 [(0,sl aj s1),(1,sl aj s2)] [] []
def g5:Option (Int⊕(Int⊕(Unit))):=
 if (decide (t13 < t12)) = true then
  (gz s1 t13).bind fun x2=>
  if(decide (t13>=(s2.length:Int)))=true then
   some (.inr (.inl 1))
  else
   (gz s2 t13).bind fun x5=>
   (kM x2 x5).bind fun r6=>
   if(r6 !=0)=true then
    some (.inr (.inl r6))
   else
    some (.inl (b5 (t13+1)))
 else
  some (.inr (.inr ()))
def iK:Option (Int⊕(Unit)):=loop (fun(zz:Int)=>g5 s1 s2 t12 zz) t13
theorem li{y:Int⊕(Int⊕(Unit))}(h:g5 s1 s2 t12 t13=some y):aE Pg GE 0 (cA Eg 55) (LQ (fun(zz:Int)=>bZ s1 s2 t12 zz) bz (a8 s1 s2) y) (bZ s1 s2 t12 t13):=by
 rcases aM h with⟨c1,h⟩|⟨c1,h⟩
 ·obtain⟨x2,bx2,h⟩:=av h
  have p4:=fun{sc F} (r:PS sc F)=>sg 0 c1<|sv (cF.ia (k:=.i64) bx2)<|sv (dO x2)<|sx tk<|sx (eN x2)<|eP (cF.ln s2)<|r
  rcases aM h with⟨c3,h⟩|⟨c3,h⟩
  ·obtain rfl:=lf h
   have z:=p4<|sg 0 c3<|pw 0 (bz (.inl 1)) (a8 s1 s2 (.inl 1)) rfl (cG (aI trivial trivial)) trivial
   exact jD (A:=C4) mixed (by intro hx;cases hx) z<|by kernel_rfl
  ·obtain⟨x5,bx5,h⟩:=av h
   obtain⟨r6,br6,h⟩:=av h
   have p8:=fun{sc F} (r:PS sc F)=>p4<|sg 0 c3<|sv (cF.ia (k:=.i64) bx5)<|sv (dO x5)<|sx tk<|sx (eN x5)<|sv (mf x2 [])<|sv (mf x5 [])<|co (nM br6)<|r
   rcases aM h with⟨c7,h⟩|⟨c7,h⟩
   ·obtain rfl:=lf h
    have z:=p8<|sg 0 c7<|pw 0 (bz (.inl r6)) (a8 s1 s2 (.inl r6)) rfl (cG (aI trivial trivial)) trivial
    exact jD (A:=C4) mixed (by intro hx;cases hx) z<|by kernel_rfl
   ·obtain rfl:=lf h
    have z:=p8<|sg 0 c7<|pw 0 .normal (bZ s1 s2 t12 (b5 (t13+1))) rfl (cG (aI (up (aB au s1)) (aI (up (aB au s2)) (aI (aI trivial trivial) (aI (up (aB au s1)) (aI trivial (aI trivial trivial))))))) trivial
    exact d6 (A:=C4) mixed z<|by kernel_rfl
 ·obtain rfl:=lf h
  have z:=sg 0 c1<|eF (bz (.inr ())) (a8 s1 s2 (.inr ()))
  exact jK C4 (by intro hx;cases hx) z<|by kernel_rfl
theorem gy{x:Int⊕(Unit)}(h:iK s1 s2 t12 t13=some x):aE Pg GE 0 (.loop (cA Eg 55)) (EX (bz x) (a8 s1 s2 x)) (bZ s1 s2 t12 t13):=
 aE.loop (S:=fun(zz:Int)=>bZ s1 s2 t12 zz) (ex:=bz) (s:=t13) h fun zz y hy=>li s1 s2 t12 zz hy
end
def kN(s1:waA)(s2:waA):Option Int:=
 (iK s1 s2 (s1.length:Int) 0).bind fun o9=>match o9 with
 |(.inl o9)=>
  some o9
 | (.inr o9) =>
  if(decide ((s1.length:Int)<(s2.length:Int)))=true then
   some (-1)
  else
   some 0
theorem nN{s1:waA}{s2:waA}{r:Int}(h:kN s1 s2=some r):CC Pg GE 60 [sl aj s1,sl aj s2,.func (.func 61) [] []] (.int .i64 r) []:=by
 obtain⟨o9,bo9,h⟩:=av h
 rcases o9 with o9|o9
 ·obtain rfl:=lf h
  have z:=eP (cF.ln s1)<|dG (e:=.ret) (s1:=a8 s1 s2 (.inl o9)) (gy s1 s2 (s1.length:Int) 0 bo9)<|en (aI (rP (.int .i64 o9))<|trivial)
  exact bC C4 call60 func60 (c:=Eg) rfl (aI (aB au s1) (aI (aB au s2) (aI (aI trivial trivial) trivial))) z<|by kernel_rfl
 ·have p11:=fun{sc F} (r:PS sc F)=>eP (cF.ln s1)<|dG (e:=.exit 0) (s1:=a8 s1 s2 (.inr o9)) (gy s1 s2 (s1.length:Int) 0 bo9)<|eP (cF.ln s1)<|eP (cF.ln s2)<|r
  rcases aM h with⟨c10,h⟩|⟨c10,h⟩
  ·obtain rfl:=lf h
   have z:=p11<|sg 0 c10<|en (aI (rP (.int .i64 (-1)))<|trivial)
   exact bC C4 call60 func60 (c:=Eg) rfl (aI (aB au s1) (aI (aB au s2) (aI (aI trivial trivial) trivial))) z<|by kernel_rfl
  ·obtain rfl:=lf h
   have z:=p11<|sg 0 c10<|en (aI (rP (.int .i64 0))<|trivial)
   exact bC C4 call60 func60 (c:=Eg) rfl (aI (aB au s1) (aI (aB au s2) (aI (aI trivial trivial) trivial))) z<|by kernel_rfl
noncomputable def FL:Code:=f39.body.getD .skip
def Fw:List Nat:=[20]
def iU(a:aa)(a2:aa):Option Int:=
 (og a.Caller a2.Caller).bind fun r1=>
 (og a.Callee a2.Callee).bind fun r2=>
 (zc ([r1,r2]:List Int)).bind fun r3=>
 if(r3 !=0)=true then
  some r3
 else
  (kN a.Arcs a2.Arcs).bind fun r6=>
  some r6
theorem pl{a:aa}{a2:aa}{r:Int}(h:iU a a2=some r):CC Pg GE 39 [.agg (ae a),.agg (ae a2)] (.int .i64 r) []:=by
 obtain⟨r1,br1,h⟩:=av h
 obtain⟨r2,br2,h⟩:=av h
 obtain⟨r3,br3,h⟩:=av h
 have p5:=fun{sc F} (r:PS sc F)=>se (bq a)<|se (bq a2)<|yP [0,1,0,4,15,0,32,0,128,511,1023,2047,4095]<|sv (aO a)<|sv (aT a)<|sv (aO a2)<|sv (aT a2)<|co (oh br1)<|sv (aQ a)<|sv (aU a)<|sv (aQ a2)<|sv (aU a2)<|co (oh br2)<|sv (yN.mk' (v:=(PVal.int .i64)) (F3 .i64) ([r1,r2]:List Int) 2 (by kernel_rfl))<|co (wj br3)<|r
 rcases aM h with⟨c4,h⟩|⟨c4,h⟩
 ·obtain rfl:=lf h
  have z:=p5<|sg 0 c4<|en (aI (rP (.int .i64 r3))<|trivial)
  exact bC Fw call39 func39 (c:=FL) rfl (aI (af a) (aI (af a2) trivial)) z<|by kernel_rfl
 ·obtain⟨r6,br6,h⟩:=av h
  obtain rfl:=lf h
  have z:=p5<|sg 0 c4<|sv (aw a)<|sv (ax a)<|sv (aw a2)<|sv (ax a2)<|co (nN br6)<|en (aI (rP (.int .i64 r6))<|trivial)
  exact bC Fw call39 func39 (c:=FL) rfl (aI (af a) (aI (af a2) trivial)) z<|by kernel_rfl
end Go.Proofs.YtoficachfgggjaaDoor
