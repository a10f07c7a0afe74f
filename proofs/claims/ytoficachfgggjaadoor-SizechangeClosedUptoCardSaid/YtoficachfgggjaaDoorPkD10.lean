/- PROVED: a part of the proof. Conditions: none. -/
import Derived.Test.YtoficachfgggjaaDoorPkD9
noncomputable section
namespace Go.Proofs.YtoficachfgggjaaDoor
open Go Go.Proofs.Tryd
set_option linter.unusedVariables false
set_option maxRecDepth 100000
noncomputable def Ez:Code:=f10.body.getD .skip
def A2:List Nat:=[21]
section
variable(g:aa)
def pf:ak:=cJ 63 [(1,.eptr (ac g))] [.dead] []
def fX(o:Bool):ak:=cJ 63 [(1,.eptr (ac g)),(15,.bool o)] [.dead] []
def eU:Option Bool:=
 (lC g.Caller).bind fun r1=>
 if(r1 !=0)=true then
  some true
 else
  (lC g.Callee).bind fun r4=>
  some (r4 !=0)
theorem oK{x:Bool}(h:eU g=some x):aL Pg GE 0 (cA Ez 12) (EX .normal (fX g x)) (pf g):=by
 obtain⟨r1,br1,h⟩:=aC h
 have p3:=fun{sc F} (r:PS sc F)=>sv (be g)<|sv (bI g)<|eb (qS br1)<|r
 rcases bC h with⟨c2,h⟩|⟨c2,h⟩
 ·obtain rfl:=lf h
  exact kj A2 (p3<|sg 5 c2<|eF .normal (fX g true))<|by kernel_rfl
 ·obtain⟨r4,br4,h⟩:=aC h
  obtain rfl:=lf h
  exact kj A2 (p3<|sg 5 c2<|sv (bg g)<|sv (bJ g)<|eb (qS br4)<|eF .normal (fX g (r4 !=0)))<|by kernel_rfl
end
section
variable(g:aa)(i:Int)(t17:waB)(t18:Int)(m1:kC)(m:Int)(m2:Int)(m3:Bool)
def pg:ak:=cJ 63 [(1,.eptr (ac g)),(3,.bptr 1 0),(4,.int .i64 i),(5,.bptr 2 0),(17,sl am t17),(18,.int .i64 t18),(19,.int .i64 i)] [.dead,.cells (kn m1) [],.cells [.int .i64 m,.int .i64 m2,.bool m3] []] []
def fY(o:Bool):ak:=cJ 63 [(1,.eptr (ac g)),(3,.bptr 1 0),(4,.int .i64 i),(5,.bptr 2 0),(17,sl am t17),(18,.int .i64 t18),(19,.int .i64 i),(24,.bool o)] [.dead,.cells (kn m1) [],.cells [.int .i64 m,.int .i64 m2,.bool m3] []] []
def eV:Option Bool:=
 (fq m).bind fun r10=>
 if(!r10)=true then
  some true
 else
  (fq m2).bind fun r13=>
  some (!r13)
theorem oL{x:Bool}(h:eV m m2=some x):aL Pg GE 0 (cA Ez 63450) (EX .normal (fY g i t17 t18 m1 m m2 m3 x)) (pg g i t17 t18 m1 m m2 m3):=by
 obtain⟨r10,br10,h⟩:=aC h
 have p12:=fun{sc F} (r:PS sc F)=>ss<|eb (kz br10)<|r
 rcases bC h with⟨c11,h⟩|⟨c11,h⟩
 ·obtain rfl:=lf h
  exact kj A2 (p12<|sg 5 c11<|eF .normal (fY g i t17 t18 m1 m m2 m3 true))<|by kernel_rfl
 ·obtain⟨r13,br13,h⟩:=aC h
  obtain rfl:=lf h
  exact kj A2 (p12<|sg 5 c11<|ss<|eb (kz br13)<|eF .normal (fY g i t17 t18 m1 m m2 m3 (!r13)))<|by kernel_rfl
end
section
variable(g:aa)(i:Int)(t17:waB)(t18:Int)(m1:kC)(m:Int)(m2:Int)(m3:Bool)
def ph:ak:=cJ 63 [(1,.eptr (ac g)),(3,.bptr 1 0),(4,.int .i64 i),(5,.bptr 2 0),(17,sl am t17),(18,.int .i64 t18),(19,.int .i64 i)] [.dead,.cells (kn m1) [],.cells [.int .i64 m,.int .i64 m2,.bool m3] []] []
def fZ(o:Bool):ak:=cJ 63 [(1,.eptr (ac g)),(3,.bptr 1 0),(5,.bptr 2 0),(17,sl am t17),(18,.int .i64 t18),(19,.int .i64 i),(43,.bool o)] [.dead,.cells (kn m1) [],.cells [.int .i64 m,.int .i64 m2,.bool m3] []] []
def eW:Option Bool:=
 if(decide (i>0))=true then
  (ep g.Arcs (bU (i - 1))).bind fun x22=>
  (gn (⟨m,m2,m3⟩:ag) x22).bind fun r23=>
  some r23
 else
  some false
theorem oM{x:Bool}(h:eW g i m m2 m3=some x):aL Pg GE 0 (cA Ez 1015230) (EX .normal (fZ g i t17 t18 m1 m m2 m3 x)) (ph g i t17 t18 m1 m m2 m3):=by
 rcases bC h with⟨c21,h⟩|⟨c21,h⟩
 ·obtain⟨x22,bx22,h⟩:=aC h
  obtain⟨r23,br23,h⟩:=aC h
  obtain rfl:=lf h
  exact kj A2 (Aj [0,1,3,7,7,23,7,71,247,503,1023,2047,4095]<|sg 3 c21<|sv (vW (⟨m,m2,m3⟩:ag) [])<|sv (aN g)<|sv (aO g)<|sv (gp.ia (k:=.i64) bx22)<|sv (jk x22)<|eb (qc br23)<|eF .normal (fZ g i t17 t18 m1 m m2 m3 r23))<|by kernel_rfl
 ·obtain rfl:=lf h
  exact kj A2 (Aj [0,1,3,7,7,23,7,71,247,503,1023,2047,4095]<|sg 3 c21<|eF .normal (fZ g i t17 t18 m1 m m2 m3 false))<|by kernel_rfl
end
section
variable(g:aa)(t17:waB)(t18:Int)(t19:Int)(m1:kC)
def cX:ak:=cJ 63 [(1,.eptr (ac g)),(3,.bptr 1 0),(17,sl am t17),(18,.int .i64 t18),(19,.int .i64 t19)] [.dead,.cells (kn m1) []] []
def bk(o:(Int×kC)⊕(kC)):Exit:=match o with
 |(.inl _)=>.ret
 |(.inr _)=>.exit 0
def aT(o:(Int×kC)⊕(kC)):ak:=match o with
 |(.inl o)=>cJ 63 [(2,.int .i64 o.1)] [.dead,.cells (kn o.2) []] []
 |(.inr o)=>cJ 63 [] [.dead,.cells (kn o) []] []
def cY:Option ((Int×kC)⊕((Int×kC)⊕(kC))):=
 if (decide (t19 < t18)) = true then
  (ep t17 t19).bind fun x9=>
  (eV x9.From x9.To).bind fun o14=>
  if o14=true then
   some (.inr (.inl (2,m1)))
  else
   (pl 6 x9.From).bind fun i17=>
   (pl 6 x9.To).bind fun i18=>
   if(m1 (0+i17 * 6+i18 * 1))=true then
    some (.inr (.inl (4,m1)))
   else
    (eW g t19 x9.From x9.To x9.Strict).bind fun o24=>
    if o24=true then
     some (.inr (.inl (9,m1)))
    else
     (pl 6 x9.From).bind fun i27=>
     (pl 6 x9.To).bind fun i28=>
     some (.inl (bU (t19+1),gV m1 (0+i27 * 6+i28 * 1) true))
 else
  some (.inr (.inr m1))
def cP:Option ((Int×kC)⊕(kC)):=loop (fun(zz:Int×kC)=>cY g t17 t18 zz.1 zz.2) (t19,m1)
theorem nH{y:(Int×kC)⊕((Int×kC)⊕(kC))}(h:cY g t17 t18 t19 m1=some y):aL Pg GE 0 (cA Ez 247) (LQ (fun(zz:Int×kC)=>cX g t17 t18 zz.1 zz.2) bk aT y) (cX g t17 t18 t19 m1):=by
 rcases bC h with⟨c8,h⟩|⟨c8,h⟩
 ·obtain⟨x9,bx9,h⟩:=aC h
  obtain⟨o14,bo14,h⟩:=aC h
  have p16:=fun{sc F} (r:PS sc F)=>sg 0 c8<|sv (gp.ia (k:=.i64) bx9)<|sv (jk x9)<|sx DH<|sx (pR x9)<|wJ 1<|gq (oL g t19 t17 t18 m1 x9.From x9.To x9.Strict bo14)<|r
  rcases bC h with⟨c15,h⟩|⟨c15,h⟩
  ·obtain rfl:=lf h
   have z:=p16<|sg 0 c15<|tc 0 (bk (.inl (2,m1))) (aT (.inl (2,m1))) rfl (eR (aI trivial trivial)) (aI trivial (aI (mH (uH m1)) trivial))
   exact kp (A:=A2) mixed (by intro hx;cases hx) z<|by kernel_rfl
  ·obtain⟨i17,bi17,h⟩:=aC h
   obtain⟨i18,bi18,h⟩:=aC h
   have p20:=fun{sc F} (r:PS sc F)=>p16<|sg 0 c15<|Aj [0,1,0,4,3,31,63,127]<|ss<|ss<|sv (Gi (b:=1) (off:=0) (k:=.i64) bi17)<|sv (Gh (b:=1) (off:=0+i17 * 6) (k:=.i64) bi18)<|sv (G9 (x:=m1) (EF bi17 bi18))<|r
   rcases bC h with⟨c19,h⟩|⟨c19,h⟩
   ·obtain rfl:=lf h
    have z:=p20<|sg 0 c19<|tc 0 (bk (.inl (4,m1))) (aT (.inl (4,m1))) rfl (eR (aI trivial trivial)) (aI trivial (aI (mH (uH m1)) trivial))
    exact kp (A:=A2) mixed (by intro hx;cases hx) z<|by kernel_rfl
   ·obtain⟨o24,bo24,h⟩:=aC h
    have p26:=fun{sc F} (r:PS sc F)=>p20<|sg 0 c19<|wJ 0<|gq (oM g t19 t17 t18 m1 x9.From x9.To x9.Strict bo24)<|r
    rcases bC h with⟨c25,h⟩|⟨c25,h⟩
    ·obtain rfl:=lf h
     have z:=p26<|sg 0 c25<|tc 0 (bk (.inl (9,m1))) (aT (.inl (9,m1))) rfl (eR (aI trivial trivial)) (aI trivial (aI (mH (uH m1)) trivial))
     exact kp (A:=A2) mixed (by intro hx;cases hx) z<|by kernel_rfl
    ·obtain⟨i27,bi27,h⟩:=aC h
     obtain⟨i28,bi28,h⟩:=aC h
     obtain rfl:=lf h
     have z:=p26<|sg 0 c25<|GR (.dx [0,1,0,4,3,31,63] [] [] [1])<|ss<|ss<|sv (Gi (b:=1) (off:=0) (k:=.i64) bi27)<|sv (Gh (b:=1) (off:=0+i27 * 6) (k:=.i64) bi28)<|Hv (Ha (x:=m1) (v:=true) (EF bi27 bi28))<|tc 0 .normal (cX g t17 t18 (bU (t19+1)) (gV m1 (0+i27 * 6+i28 * 1) true)) rfl (eR (aI (mH (af g)) (aI (mr rfl) (aI (up (aw aM t17)) (aI trivial (aI trivial trivial)))))) (aI trivial (aI (mH (uH (gV m1 (0+i27 * 6+i28 * 1) true))) trivial))
     exact iz (A:=A2) mixed z<|by kernel_rfl
 ·obtain rfl:=lf h
  have z:=sg 0 c8<|eF (bk (.inr m1)) (aT (.inr m1))
  exact ny A2 (by intro hx;cases hx) z<|by kernel_rfl
theorem jt{x:(Int×kC)⊕(kC)}(h:cP g t17 t18 t19 m1=some x):aL Pg GE 0 (.loop (cA Ez 247)) (EX (bk x) (aT x)) (cX g t17 t18 t19 m1):=
 aL.loop (S:=fun(zz:Int×kC)=>cX g t17 t18 zz.1 zz.2) (ex:=bk) (s:=(t19,m1)) h fun zz y hy=>nH g t17 t18 zz.1 zz.2 hy
end
def cD(g:aa):Option Int:=
 (eU g).bind fun o5=>
 if o5=true then
  some 3
 else
  (cP g g.Arcs (g.Arcs.length:Int) 0 (q7 false)).bind fun o29=>match o29 with
  |(.inl o29)=>
   some o29.1
  |(.inr o29)=>
   some 0
theorem dK{g:aa}{r:Int}(h:cD g=some r):CC Pg GE 10 [.agg (ac g)] (.int .i64 r) []:=by
 obtain⟨o5,bo5,h⟩:=aC h
 have p7:=fun{sc F} (r:PS sc F)=>se (df g)<|wJ 1<|gq (oK g bo5)<|r
 rcases bC h with⟨c6,h⟩|⟨c6,h⟩
 ·obtain rfl:=lf h
  have z:=p7<|sg 0 c6<|en (aI (rP (.int .i64 3))<|trivial)
  exact cT A2 call10 func10 (c:=Ez) rfl (aI (af g) trivial) z<|by kernel_rfl
 ·obtain⟨o29,bo29,h⟩:=aC h
  rcases o29 with o29|o29
  ·obtain rfl:=lf h
   have z:=p7<|sg 0 c6<|sx GM<|sv (aN g)<|sv (aO g)<|g8 (gp.ln g.Arcs)<|gq (e:=.ret) (s1:=aT (.inl o29)) (jt g g.Arcs (g.Arcs.length:Int) 0 (q7 false) bo29)<|en (aI (rP (.int .i64 o29.1))<|trivial)
   exact cT A2 call10 func10 (c:=Ez) rfl (aI (af g) trivial) z<|by kernel_rfl
  ·obtain rfl:=lf h
   have z:=p7<|sg 0 c6<|sx GM<|sv (aN g)<|sv (aO g)<|g8 (gp.ln g.Arcs)<|gq (e:=.exit 0) (s1:=aT (.inr o29)) (jt g g.Arcs (g.Arcs.length:Int) 0 (q7 false) bo29)<|en (aI (rP (.int .i64 0))<|trivial)
   exact cT A2 call10 func10 (c:=Ez) rfl (aI (af g) trivial) z<|by kernel_rfl
noncomputable def Gl:Code:=f14.body.getD .skip
def EN:List Nat:=[19,41]
section
variable(s:ah)(i:Int)(t15:waB)(t16:Int)(m:Int)(m2:Int)(m3:Bool)
def qa:ak:=cJ 42 [(3,.str s),(4,.int .i64 i),(5,.bptr 1 0),(15,sl am t15),(16,.int .i64 t16),(17,.int .i64 i)] [.dead,.cells [.int .i64 m,.int .i64 m2,.bool m3] []] []
def gJ(o:ah):ak:=cJ 42 [(3,.str o),(5,.bptr 1 0),(15,sl am t15),(16,.int .i64 t16),(17,.int .i64 i)] [.dead,.cells [.int .i64 m,.int .i64 m2,.bool m3] []] []
def fA:Option ah:=
 if(decide (i>0))=true then
  (CW s ([44]:ah)).bind fun s7=>
  some s7
 else
  some s
theorem pb{x:ah}(h:fA s i=some x):aL Pg GE 0 (cA Gl 7670) (EX .normal (gJ i t15 t16 m m2 m3 x)) (qa s i t15 t16 m m2 m3):=by
 rcases bC h with⟨c6,h⟩|⟨c6,h⟩
 ·obtain⟨s7,bs7,h⟩:=aC h
  obtain rfl:=lf h
  exact kj EN (sg 0 c6<|sv (qf (P:=Pg) (t:=9) bs7)<|eF .normal (gJ i t15 t16 m m2 m3 s7))<|by kernel_rfl
 ·obtain rfl:=lf h
  exact kj EN (sg 0 c6<|eF .normal (gJ i t15 t16 m m2 m3 s))<|by kernel_rfl
end
section
variable(s:ah)(t15:waB)(t16:Int)(t17:Int)(m:Int)(m2:Int)(m3:Bool)
def qb:ak:=cJ 42 [(3,.str s),(5,.bptr 1 0),(6,.str ([32,62,61,32]:ah)),(15,sl am t15),(16,.int .i64 t16),(17,.int .i64 t17)] [.dead,.cells [.int .i64 m,.int .i64 m2,.bool m3] []] []
def gK(o:ah):ak:=cJ 42 [(3,.str s),(5,.bptr 1 0),(6,.str o),(15,sl am t15),(16,.int .i64 t16),(17,.int .i64 t17)] [.dead,.cells [.int .i64 m,.int .i64 m2,.bool m3] []] []
def fB:Option ah:=
 if m3=true then
  some ([32,62,32]:ah)
 else
  some ([32,62,61,32]:ah)
theorem pd{x:ah}(h:fB m3=some x):aL Pg GE 0 (cA Gl 30686) (EX .normal (gK s t15 t16 t17 m m2 m3 x)) (qb s t15 t16 t17 m m2 m3):=by
 rcases bC h with⟨c9,h⟩|⟨c9,h⟩
 ·obtain rfl:=lf h
  exact kj EN (ss<|sg 0 c9<|eF .normal (gK s t15 t16 t17 m m2 m3 ([32,62,32]:ah)))<|by kernel_rfl
 ·obtain rfl:=lf h
  exact kj EN (ss<|sg 0 c9<|eF .normal (gK s t15 t16 t17 m m2 m3 ([32,62,61,32]:ah)))<|by kernel_rfl
end
section
variable(t15:waB)(t16:Int)(s:ah)(t17:Int)
def dp:ak:=cJ 42 [(3,.str s),(15,sl am t15),(16,.int .i64 t16),(17,.int .i64 t17)] [.dead] []
def gL(o:ah):ak:=cJ 42 [(3,.str o)] [.dead] []
def dq:Option ((ah×Int)⊕(ah)):=
 if(decide (t17<t16))=true then
  (ep t15 t17).bind fun x5=>
  (fA s t17).bind fun o8=>
  (fB x5.Strict).bind fun o10=>
  (Bt x5.From).bind fun r11=>
  (CW ([32]:ah) r11).bind fun s12=>
  (CW s12 o10).bind fun s13=>
  (Bt x5.To).bind fun r14=>
  (CW s13 r14).bind fun s15=>
  (CW o8 s15).bind fun s16=>
  some (.inl (s16,bU (t17+1)))
 else
  some (.inr s)
def di:Option ah:=loop (fun(zz:ah×Int)=>dq t15 t16 zz.1 zz.2) (s,t17)
theorem oJ{y:(ah×Int)⊕(ah)}(h:dq t15 t16 s t17=some y):aL Pg GE 0 (cA Gl 119) (LQ (fun(zz:ah×Int)=>dp t15 t16 zz.1 zz.2) (fun _=>.exit 0) gL y) (dp t15 t16 s t17):=by
 rcases bC h with⟨c4,h⟩|⟨c4,h⟩
 ·obtain⟨x5,bx5,h⟩:=aC h
  obtain⟨o8,bo8,h⟩:=aC h
  obtain⟨o10,bo10,h⟩:=aC h
  obtain⟨r11,br11,h⟩:=aC h
  obtain⟨s12,bs12,h⟩:=aC h
  obtain⟨s13,bs13,h⟩:=aC h
  obtain⟨r14,br14,h⟩:=aC h
  obtain⟨s15,bs15,h⟩:=aC h
  obtain⟨s16,bs16,h⟩:=aC h
  obtain rfl:=lf h
  have z:=sg 0 c4<|sv (gp.ia (k:=.i64) bx5)<|sv (jk x5)<|sx DH<|sx (pR x5)<|wJ 0<|gq (pb s t17 t15 t16 x5.From x5.To x5.Strict bo8)<|wJ 1<|gq (pd o8 t15 t16 t17 x5.From x5.To x5.Strict bo10)<|Aj [0,0,2,6,14,0,62,0,128,398,1022,2047,4095]<|ss<|eb (Bu br11)<|sv (qf (P:=Pg) (t:=9) bs12)<|sv (qf (P:=Pg) (t:=9) bs13)<|ss<|eb (Bu br14)<|sv (qf (P:=Pg) (t:=9) bs15)<|sv (qf (P:=Pg) (t:=9) bs16)<|tc 0 .normal (dp t15 t16 s16 (bU (t17+1))) rfl (eR (aI trivial (aI (up (aw aM t15)) (aI trivial (aI trivial trivial))))) (aI trivial trivial)
  exact iz (A:=EN) mixed z<|by kernel_rfl
 ·obtain rfl:=lf h
  have z:=sg 0 c4<|eF (.exit 0) (gL s)
  exact ny EN (by intro hx;cases hx) z<|by kernel_rfl
theorem pe{x:ah}(h:di t15 t16 s t17=some x):aL Pg GE 0 (.loop (cA Gl 119)) (EX (.exit 0) (gL x)) (dp t15 t16 s t17):=
 aL.loop (S:=fun(zz:ah×Int)=>dp t15 t16 zz.1 zz.2) (ex:=(fun _=>.exit 0)) (s:=(s,t17)) h fun zz y hy=>oJ t15 t16 zz.1 zz.2 hy
end
def fQ(g:aa):Option ah:=
 (CW g.Caller ([32,45,62,32]:ah)).bind fun s1=>
 (CW s1 g.Callee).bind fun s2=>
 (CW s2 ([58]:ah)).bind fun s3=>
 (di g.Arcs (g.Arcs.length:Int) s3 0).bind fun o17=>
 some o17
theorem lN{g:aa}{r:ah}(h:fQ g=some r):CC Pg GE 14 [.agg (ac g)] (.str r) []:=by
 obtain⟨s1,bs1,h⟩:=aC h
 obtain⟨s2,bs2,h⟩:=aC h
 obtain⟨s3,bs3,h⟩:=aC h
 obtain⟨o17,bo17,h⟩:=aC h
 obtain rfl:=lf h
 have z:=se (df g)<|sv (be g)<|sv (bI g)<|sv (qf (P:=Pg) (t:=9) bs1)<|sv (bg g)<|sv (bJ g)<|sv (qf (P:=Pg) (t:=9) bs2)<|sv (qf (P:=Pg) (t:=9) bs3)<|sv (aN g)<|sv (aO g)<|g8 (gp.ln g.Arcs)<|gq (pe g.Arcs (g.Arcs.length:Int) s3 0 bo17)<|en (aI (rP (.str o17))<|trivial)
 exact cT EN call14 func14 (c:=Gl) rfl (aI (af g) trivial) z<|by kernel_rfl
noncomputable def HH:Code:=f36.body.getD .skip
def Hx:List Nat:=[17]
def bF(g:aa)(k1:(List (ah×Bool)))(k2:waA):Option ((List (ah×Bool))×waA):=
 (fQ g).bind fun r1=>
 if(!((pP k1 r1).getD false))=true then
  (ra g.Arcs).bind fun r4=>
  (app k2 ([(⟨g.Caller,g.Callee,r4⟩:aa)]:List aa)).bind fun l5=>
  some (tg k1 r1 true,l5)
 else
  some (k1,k2)
theorem fb{g:aa}{k1:(List (ah×Bool))}{k2:waA}{r:(List (ah×Bool))×waA}(h:bF g k1 k2=some r):C Pg GE 36 [.agg (ac g),.bptr 0 0,.bptr 2 0] [] [.cells [.mapr 1] [],.map (dE PVal.bool k1),.cells [sl ac k2] [(0,24)]] (.tuple []) [] [.cells [.mapr 1] [],.map (dE PVal.bool r.1),.cells [sl ac r.2] [(0,24)]]:=by
 obtain⟨r1,br1,h⟩:=aC h
 have p3:=fun{sc F} (r:PS sc F)=>sx (dG g)<|sv (bD g [])<|eb (lN br1)<|ss<|sv (Fi (f:=PVal.bool) underlying56 underlying9 Ia k1 r1)<|r
 rcases bC h with⟨c2,h⟩|⟨c2,h⟩
 ·obtain⟨r4,br4,h⟩:=aC h
  obtain⟨l5,bl5,h⟩:=aC h
  obtain rfl:=lf h
  have z:=p3<|sg 0 c2<|ss<|H8 (Fj (f:=PVal.bool) underlying56 underlying9 k1 r1 true)<|ss<|eb (Ar br4)<|sv (bD (⟨g.Caller,g.Callee,r4⟩:aa) [])<|sv (cQ.mk' (v:=nO) lI ([(⟨g.Caller,g.Callee,r4⟩:aa)]:List aa) 1 (by kernel_rfl))<|sv (cQ.ap bl5)<|en (aI (rP (.tuple []))<|aI trivial<|aI (rL [.cells [.mapr 1] [],.map (dE PVal.bool (tg k1 r1 true)),.cells [sl ac l5] [(0,24)]])<|(aI (aI (mr (i:=1) (n:=3) rfl) trivial) (aI (D4 (n:=3) PVal.bool (fun x=>trivial) (tg k1 r1 true)) (aI (aI (up (n:=3) (aw af l5)) trivial) trivial))))
  exact C.evGp (A:=Hx) mixed (m:=3) (c:=HH) rfl call36 func36 rfl z<|by kernel_rfl
 ·obtain rfl:=lf h
  have z:=p3<|sg 0 c2<|en (aI (rP (.tuple []))<|aI trivial<|aI (rL [.cells [.mapr 1] [],.map (dE PVal.bool k1),.cells [sl ac k2] [(0,24)]])<|(aI (aI (mr (i:=1) (n:=3) rfl) trivial) (aI (D4 (n:=3) PVal.bool (fun x=>trivial) k1) (aI (aI (up (n:=3) (aw af k2)) trivial) trivial))))
  exact C.evGp (A:=Hx) mixed (m:=3) (c:=HH) rfl call36 func36 rfl z<|by kernel_rfl
noncomputable def Hf:Code:=f55.body.getD .skip
def GU:List Nat:=[]
section
variable(t7:waB)(t8:Int)(t9:Int)(m2:iQ)
def b5:ak:=cJ 29 [(2,.bptr 1 0),(3,.bptr 2 0),(7,sl am t7),(8,.int .i64 t8),(9,.int .i64 t9)] [.dead,.cells (bV (q7 0)) [],.cells (bV m2) []] []
def ga(o:iQ):ak:=cJ 29 [(2,.bptr 1 0),(3,.bptr 2 0)] [.dead,.cells (bV (q7 0)) [],.cells (bV o) []] []
def f8:Option ((Int×iQ)⊕(iQ)):=
 if(decide (t9<t8))=true then
  (ep t7 t9).bind fun x2=>
  (pl 6 x2.From).bind fun i3=>
  (pl 6 x2.To).bind fun i4=>
  if x2.Strict=true then
   (pl 6 x2.From).bind fun i7=>
   (pl 6 x2.To).bind fun i8=>
   some (.inl (bU (t9+1),gV (gV m2 (0+i3 * 6+i4 * 1) 1) (0+i7 * 6+i8 * 1) 2))
  else
   some (.inl (bU (t9+1),gV m2 (0+i3 * 6+i4 * 1) 1))
 else
  some (.inr m2)
def g6:Option iQ:=loop (fun(zz:Int×iQ)=>f8 t7 t8 zz.1 zz.2) (t9,m2)
theorem nJ{y:(Int×iQ)⊕(iQ)}(h:f8 t7 t8 t9 m2=some y):aL Pg GE 0 (cA Hf 119) (LQ (fun(zz:Int×iQ)=>b5 t7 t8 zz.1 zz.2) (fun _=>.exit 0) ga y) (b5 t7 t8 t9 m2):=by
 rcases bC h with⟨c1,h⟩|⟨c1,h⟩
 ·obtain⟨x2,bx2,h⟩:=aC h
  obtain⟨i3,bi3,h⟩:=aC h
  obtain⟨i4,bi4,h⟩:=aC h
  have p6:=fun{sc F} (r:PS sc F)=>sg 0 c1<|sv (gp.ia (k:=.i64) bx2)<|sv (jk x2)<|sx DH<|sx (pR x2)<|GR (.dx [0,1,0,4,3,31,63] [] [] [2])<|ss<|ss<|sv (BN (b:=2) (off:=0) (k:=.i64) bi3)<|sv (BM (b:=2) (off:=0+i3 * 6) (k:=.i64) bi4)<|Hv (Gk (x:=m2) (v:=1) (EF bi3 bi4))<|ss<|r
  rcases bC h with⟨c5,h⟩|⟨c5,h⟩
  ·obtain⟨i7,bi7,h⟩:=aC h
   obtain⟨i8,bi8,h⟩:=aC h
   obtain rfl:=lf h
   have z:=p6<|sg 0 c5<|GR (.dx [0,1,0,4,3,31,63] [] [] [2])<|ss<|ss<|sv (BN (b:=2) (off:=0) (k:=.i64) bi7)<|sv (BM (b:=2) (off:=0+i7 * 6) (k:=.i64) bi8)<|Hv (Gk (x:=gV m2 (0+i3 * 6+i4 * 1) 1) (v:=2) (EF bi7 bi8))<|tc 0 .normal (b5 t7 t8 (bU (t9+1)) (gV (gV m2 (0+i3 * 6+i4 * 1) 1) (0+i7 * 6+i8 * 1) 2)) rfl (eR (aI (mr rfl) (aI (mr rfl) (aI (up (aw aM t7)) (aI trivial (aI trivial trivial)))))) (aI trivial (aI (mH (rU (q7 0))) (aI (mH (rU (gV (gV m2 (0+i3 * 6+i4 * 1) 1) (0+i7 * 6+i8 * 1) 2))) trivial)))
   exact iz (A:=GU) mixed z<|by kernel_rfl
  ·obtain rfl:=lf h
   have z:=p6<|sg 0 c5<|tc 0 .normal (b5 t7 t8 (bU (t9+1)) (gV m2 (0+i3 * 6+i4 * 1) 1)) rfl (eR (aI (mr rfl) (aI (mr rfl) (aI (up (aw aM t7)) (aI trivial (aI trivial trivial)))))) (aI trivial (aI (mH (rU (q7 0))) (aI (mH (rU (gV m2 (0+i3 * 6+i4 * 1) 1))) trivial)))
   exact iz (A:=GU) mixed z<|by kernel_rfl
 ·obtain rfl:=lf h
  have z:=sg 0 c1<|eF (.exit 0) (ga m2)
  exact ny GU (by intro hx;cases hx) z<|by kernel_rfl
theorem oN{x:iQ}(h:g6 t7 t8 t9 m2=some x):aL Pg GE 0 (.loop (cA Hf 119)) (EX (.exit 0) (ga x)) (b5 t7 t8 t9 m2):=
 aL.loop (S:=fun(zz:Int×iQ)=>b5 t7 t8 zz.1 zz.2) (ex:=(fun _=>.exit 0)) (s:=(t9,m2)) h fun zz y hy=>nJ t7 t8 zz.1 zz.2 hy
end
def ft(g:aa):Option iQ:=
 (g6 g.Arcs (g.Arcs.length:Int) 0 (q7 0)).bind fun o9=>
 some o9
theorem kA{g:aa}{r:iQ}(h:ft g=some r):CC Pg GE 55 [.agg (ac g)] (.agg (bV r)) []:=by
 obtain⟨o9,bo9,h⟩:=aC h
 obtain rfl:=lf h
 have z:=se (df g)<|sx GN<|sx GN<|sv (aN g)<|sv (aO g)<|g8 (gp.ln g.Arcs)<|gq (oN g.Arcs (g.Arcs.length:Int) 0 (q7 0) bo9)<|sv (Ee o9)<|sx (wg o9)<|en (aI (rP (.agg (bV o9)))<|(rU o9))
 exact cT GU call55 func55 (c:=Hf) rfl (aI (af g) trivial) z<|by kernel_rfl
noncomputable def EB:Code:=f34.body.getD .skip
def CA:List Nat:=[23,26,29,60]
section
variable(v:Int)(to:Int)(best:Int)(m:Int)(m2:waB)(m3:iQ)(m4:iQ)(m5:ah)(m6:ah)(m7:waB)
def nI:ak:=cJ 72 [(4,.bptr 2 0),(5,.bptr 3 0),(6,.bptr 4 0),(7,.bptr 5 0),(8,.int .i64 v),(9,.int .i64 to),(10,.int .i64 best),(11,.int .i64 m),(21,.int .i64 v),(24,.int .i64 to),(27,.int .i64 m)] [.dead,.dead,.cells [.str ([]:ah),.str ([]:ah),sl am m2] [(2,43)],.cells (bV m3) [],.cells (bV m4) [],.cells [.str m5,.str m6,sl am m7] [(2,43)]] []
def fk(o:Bool):ak:=cJ 72 [(4,.bptr 2 0),(5,.bptr 3 0),(6,.bptr 4 0),(7,.bptr 5 0),(8,.int .i64 v),(9,.int .i64 to),(10,.int .i64 best),(11,.int .i64 m),(21,.int .i64 v),(24,.int .i64 to),(27,.int .i64 m),(43,.bool o)] [.dead,.dead,.cells [.str ([]:ah),.str ([]:ah),sl am m2] [(2,43)],.cells (bV m3) [],.cells (bV m4) [],.cells [.str m5,.str m6,sl am m7] [(2,43)]] []
def ei:Option Bool:=
 (pl 6 v).bind fun i6=>
 (pl 6 m).bind fun i7=>
 if(decide ((m3 (0+i6 * 6+i7 * 1))>0))=true then
  (pl 6 m).bind fun i10=>
  (pl 6 to).bind fun i11=>
  some (decide ((m4 (0+i10 * 6+i11 * 1))>0))
 else
  some false
theorem mW{x:Bool}(h:ei v to m m3 m4=some x):aL Pg GE 0 (cA EB 4158643702) (EX .normal (fk v to best m m2 m3 m4 m5 m6 m7 x)) (nI v to best m m2 m3 m4 m5 m6 m7):=by
 obtain⟨i6,bi6,h⟩:=aC h
 obtain⟨i7,bi7,h⟩:=aC h
 have p9:=fun{sc F} (r:PS sc F)=>sv (BN (b:=3) (off:=0) (k:=.i64) bi6)<|sv (BM (b:=3) (off:=0+i6 * 6) (k:=.i64) bi7)<|sv (D1 (x:=m3) (EF bi6 bi7))<|r
 rcases bC h with⟨c8,h⟩|⟨c8,h⟩
 ·obtain⟨i10,bi10,h⟩:=aC h
  obtain⟨i11,bi11,h⟩:=aC h
  obtain rfl:=lf h
  exact kj CA (p9<|sg 7 c8<|sv (BN (b:=4) (off:=0) (k:=.i64) bi10)<|sv (BM (b:=4) (off:=0+i10 * 6) (k:=.i64) bi11)<|sv (D1 (x:=m4) (EF bi10 bi11))<|eF .normal (fk v to best m m2 m3 m4 m5 m6 m7 (decide ((m4 (0+i10 * 6+i11 * 1))>0))))<|by kernel_rfl
 ·obtain rfl:=lf h
  exact kj CA (p9<|sg 7 c8<|eF .normal (fk v to best m m2 m3 m4 m5 m6 m7 false))<|by kernel_rfl
end
section
variable(v:Int)(to:Int)(m:waB)(m3:iQ)(m4:iQ)(m2:ah)(m5:ah)(m6:waB)(best:Int)(t27:Int)
def bz:ak:=cJ 72 [(4,.bptr 2 0),(5,.bptr 3 0),(6,.bptr 4 0),(7,.bptr 5 0),(8,.int .i64 v),(9,.int .i64 to),(10,.int .i64 best),(21,.int .i64 v),(24,.int .i64 to),(27,.int .i64 t27)] [.dead,.dead,.cells [.str ([]:ah),.str ([]:ah),sl am m] [(2,43)],.cells (bV m3) [],.cells (bV m4) [],.cells [.str m2,.str m5,sl am m6] [(2,43)]] []
def fp(o:Int):ak:=cJ 72 [(4,.bptr 2 0),(5,.bptr 3 0),(6,.bptr 4 0),(7,.bptr 5 0),(8,.int .i64 v),(9,.int .i64 to),(10,.int .i64 o),(21,.int .i64 v),(24,.int .i64 to)] [.dead,.dead,.cells [.str ([]:ah),.str ([]:ah),sl am m] [(2,43)],.cells (bV m3) [],.cells (bV m4) [],.cells [.str m2,.str m5,sl am m6] [(2,43)]] []
def dC:Option ((Int×Int)⊕(Int)):=
 if(decide (t27<6))=true then
  (ei v to t27 m3 m4).bind fun o12=>
  if o12=true then
   (pl 6 v).bind fun i15=>
   (pl 6 t27).bind fun i16=>
   (pl 6 t27).bind fun i17=>
   (pl 6 to).bind fun i18=>
   some (.inl ((if(m4 (0+i17 * 6+i18 * 1))>(if(m3 (0+i15 * 6+i16 * 1))>best then m3 (0+i15 * 6+i16 * 1)else best)then m4 (0+i17 * 6+i18 * 1)else(if(m3 (0+i15 * 6+i16 * 1))>best then m3 (0+i15 * 6+i16 * 1)else best)),bU (t27+1)))
  else
   some (.inl (best,bU (t27+1)))
 else
  some (.inr best)
def ej:Option Int:=loop (fun(zz:Int×Int)=>dC v to m3 m4 zz.1 zz.2) (best,t27)
theorem mc{y:(Int×Int)⊕(Int)}(h:dC v to m3 m4 best t27=some y):aL Pg GE 0 (cA EB 64978807) (LQ (fun(zz:Int×Int)=>bz v to m m3 m4 m2 m5 m6 zz.1 zz.2) (fun _=>.exit 4) (fp v to m m3 m4 m2 m5 m6) y) (bz v to m m3 m4 m2 m5 m6 best t27):=by
 rcases bC h with⟨c5,h⟩|⟨c5,h⟩
 ·obtain⟨o12,bo12,h⟩:=aC h
  have p14:=fun{sc F} (r:PS sc F)=>sg 0 c5<|wJ 2<|gq (mW v to best t27 m m3 m4 m2 m5 m6 bo12)<|r
  rcases bC h with⟨c13,h⟩|⟨c13,h⟩
  ·obtain⟨i15,bi15,h⟩:=aC h
   obtain⟨i16,bi16,h⟩:=aC h
   obtain⟨i17,bi17,h⟩:=aC h
   obtain⟨i18,bi18,h⟩:=aC h
   obtain rfl:=lf h
   exact yl CA (p14<|sg 0 c13<|Aj [0,0,0,2,14,30,0,0,64,448,960,2047,4095]<|sv (BN (b:=3) (off:=0) (k:=.i64) bi15)<|sv (BM (b:=3) (off:=0+i15 * 6) (k:=.i64) bi16)<|sv (D1 (x:=m3) (EF bi15 bi16))<|sv (BN (b:=4) (off:=0) (k:=.i64) bi17)<|sv (BM (b:=4) (off:=0+i17 * 6) (k:=.i64) bi18)<|sv (D1 (x:=m4) (EF bi17 bi18))<|eF .normal (bz v to m m3 m4 m2 m5 m6 (if(m4 (0+i17 * 6+i18 * 1))>(if(m3 (0+i15 * 6+i16 * 1))>best then m3 (0+i15 * 6+i16 * 1)else best)then m4 (0+i17 * 6+i18 * 1)else(if(m3 (0+i15 * 6+i16 * 1))>best then m3 (0+i15 * 6+i16 * 1)else best)) (bU (t27+1))))<|by kernel_rfl
  ·obtain rfl:=lf h
   exact yl CA (p14<|sg 0 c13<|eF .normal (bz v to m m3 m4 m2 m5 m6 best (bU (t27+1))))<|by kernel_rfl
 ·obtain rfl:=lf h
  have z:=sg 0 c5<|eF (.exit 4) (fp v to m m3 m4 m2 m5 m6 best)
  exact ny CA (by intro hx;cases hx) z<|by kernel_rfl
theorem mZ{x:Int}(h:ej v to m3 m4 best t27=some x):aL Pg GE 0 (.loop (cA EB 64978807)) (EX (.exit 4) (fp v to m m3 m4 m2 m5 m6 x)) (bz v to m m3 m4 m2 m5 m6 best t27):=
 aL.loop (S:=fun(zz:Int×Int)=>bz v to m m3 m4 m2 m5 m6 zz.1 zz.2) (ex:=(fun _=>.exit 4)) (s:=(best,t27)) h fun zz y hy=>mc v to m m3 m4 m2 m5 m6 zz.1 zz.2 hy
end
section
variable(v:Int)(m:waB)(m3:iQ)(m4:iQ)(m2:ah)(m5:ah)(t24:Int)(m6:waB)
def bw:ak:=cJ 72 [(4,.bptr 2 0),(5,.bptr 3 0),(6,.bptr 4 0),(7,.bptr 5 0),(8,.int .i64 v),(21,.int .i64 v),(24,.int .i64 t24)] [.dead,.dead,.cells [.str ([]:ah),.str ([]:ah),sl am m] [(2,43)],.cells (bV m3) [],.cells (bV m4) [],.cells [.str m2,.str m5,sl am m6] [(2,43)]] []
def fm(o:waB):ak:=cJ 72 [(4,.bptr 2 0),(5,.bptr 3 0),(6,.bptr 4 0),(7,.bptr 5 0),(21,.int .i64 v)] [.dead,.dead,.cells [.str ([]:ah),.str ([]:ah),sl am m] [(2,43)],.cells (bV m3) [],.cells (bV m4) [],.cells [.str m2,.str m5,sl am o] [(2,43)]] []
def cG:Option ((Int×waB)⊕(waB)):=
 if(decide (t24<6))=true then
  (ej v t24 m3 m4 0 0).bind fun o19=>
  if(decide (o19>0))=true then
   (app m6 ([(⟨v,t24,o19==2⟩:ag)]:List ag)).bind fun l22=>
   some (.inl (bU (t24+1),l22))
  else
   some (.inl (bU (t24+1),m6))
 else
  some (.inr m6)
def jC:Option waB:=loop (fun(zz:Int×waB)=>cG v m3 m4 zz.1 zz.2) (t24,m6)
theorem mb{y:(Int×waB)⊕(waB)}(h:cG v m3 m4 t24 m6=some y):aL Pg GE 0 (cA EB 63455) (LQ (fun(zz:Int×waB)=>bw v m m3 m4 m2 m5 zz.1 zz.2) (fun _=>.exit 2) (fm v m m3 m4 m2 m5) y) (bw v m m3 m4 m2 m5 t24 m6):=by
 rcases bC h with⟨c4,h⟩|⟨c4,h⟩
 ·obtain⟨o19,bo19,h⟩:=aC h
  have p21:=fun{sc F} (r:PS sc F)=>sg 0 c4<|gq (mZ v t24 m m3 m4 m2 m5 m6 0 0 bo19)<|r
  rcases bC h with⟨c20,h⟩|⟨c20,h⟩
  ·obtain⟨l22,bl22,h⟩:=aC h
   obtain rfl:=lf h
   exact yl CA (p21<|sg 0 c20<|sv (qJ v t24 (o19==2))<|sv (gp.mk' (v:=A0) zN ([(⟨v,t24,o19==2⟩:ag)]:List ag) 1 (by kernel_rfl))<|sv (gp.ap bl22)<|eF .normal (bw v m m3 m4 m2 m5 (bU (t24+1)) l22))<|by kernel_rfl
  ·obtain rfl:=lf h
   exact yl CA (p21<|sg 0 c20<|eF .normal (bw v m m3 m4 m2 m5 (bU (t24+1)) m6))<|by kernel_rfl
 ·obtain rfl:=lf h
  have z:=sg 0 c4<|eF (.exit 2) (fm v m m3 m4 m2 m5 m6)
  exact ny CA (by intro hx;cases hx) z<|by kernel_rfl
theorem mY{x:waB}(h:jC v m3 m4 t24 m6=some x):aL Pg GE 0 (.loop (cA EB 63455)) (EX (.exit 2) (fm v m m3 m4 m2 m5 x)) (bw v m m3 m4 m2 m5 t24 m6):=
 aL.loop (S:=fun(zz:Int×waB)=>bw v m m3 m4 m2 m5 zz.1 zz.2) (ex:=(fun _=>.exit 2)) (s:=(t24,m6)) h fun zz y hy=>mb v m m3 m4 m2 m5 zz.1 zz.2 hy
end
section
variable(m:waB)(m3:iQ)(m4:iQ)(m2:ah)(m5:ah)(t21:Int)(m6:waB)
def cE:ak:=cJ 72 [(4,.bptr 2 0),(5,.bptr 3 0),(6,.bptr 4 0),(7,.bptr 5 0),(21,.int .i64 t21)] [.dead,.dead,.cells [.str ([]:ah),.str ([]:ah),sl am m] [(2,43)],.cells (bV m3) [],.cells (bV m4) [],.cells [.str m2,.str m5,sl am m6] [(2,43)]] []
def fl(o:waB):ak:=cJ 72 [(4,.bptr 2 0),(7,.bptr 5 0)] [.dead,.dead,.cells [.str ([]:ah),.str ([]:ah),sl am m] [(2,43)],.cells (bV m3) [],.cells (bV m4) [],.cells [.str m2,.str m5,sl am o] [(2,43)]] []
def cF:Option ((Int×waB)⊕(waB)):=
 if(decide (t21<6))=true then
  (jC t21 m3 m4 0 m6).bind fun o23=>
  some (.inl (bU (t21+1),o23))
 else
  some (.inr m6)
def f0:Option waB:=loop (fun(zz:Int×waB)=>cF m3 m4 zz.1 zz.2) (t21,m6)
theorem ma{y:(Int×waB)⊕(waB)}(h:cF m3 m4 t21 m6=some y):aL Pg GE 0 (cA EB 247) (LQ (fun(zz:Int×waB)=>cE m m3 m4 m2 m5 zz.1 zz.2) (fun _=>.exit 0) (fl m m3 m4 m2 m5) y) (cE m m3 m4 m2 m5 t21 m6):=by
 rcases bC h with⟨c3,h⟩|⟨c3,h⟩
 ·obtain⟨o23,bo23,h⟩:=aC h
  obtain rfl:=lf h
  exact yl CA (sg 0 c3<|gq (mY t21 m m3 m4 m2 m5 0 m6 bo23)<|eF .normal (cE m m3 m4 m2 m5 (bU (t21+1)) o23))<|by kernel_rfl
 ·obtain rfl:=lf h
  have z:=sg 0 c3<|eF (.exit 0) (fl m m3 m4 m2 m5 m6)
  exact ny CA (by intro hx;cases hx) z<|by kernel_rfl
theorem mX{x:waB}(h:f0 m3 m4 t21 m6=some x):aL Pg GE 0 (.loop (cA EB 247)) (EX (.exit 0) (fl m m3 m4 m2 m5 x)) (cE m m3 m4 m2 m5 t21 m6):=
 aL.loop (S:=fun(zz:Int×waB)=>cE m m3 m4 m2 m5 zz.1 zz.2) (ex:=(fun _=>.exit 0)) (s:=(t21,m6)) h fun zz y hy=>ma m m3 m4 m2 m5 zz.1 zz.2 hy
end
def bH(a:aa)(a2:aa):Option aa:=
 (ft a).bind fun r1=>
 (ft a2).bind fun r2=>
 (f0 r1 r2 0 ([]:List ag)).bind fun o24=>
 some (⟨a.Caller,a2.Callee,o24⟩:aa)
theorem ek{a:aa}{a2:aa}{r:aa}(h:bH a a2=some r):CC Pg GE 34 [.agg (ac a),.agg (ac a2)] (.agg (ac r)) [(2,43)]:=by
 obtain⟨r1,br1,h⟩:=aC h
 obtain⟨r2,br2,h⟩:=aC h
 obtain⟨o24,bo24,h⟩:=aC h
 obtain rfl:=lf h
 have z:=se (df a)<|se (df a2)<|sx qB<|Aj [0,1,0,7,0,0,63,127]<|sv (aU a)<|eb (kA br1)<|sv (aU a2)<|eb (kA br2)<|sx (wg r1)<|sx (wg r2)<|sv (be a)<|sv (bI a)<|sv (bg a2)<|sv (bJ a2)<|sb (qK a.Caller a2.Callee) (qH a.Caller a2.Callee)<|sx qB<|sy (db (⟨a.Caller,a2.Callee,([]:List ag)⟩:aa))<|gq (mX ([]:List ag) r1 r2 a.Caller a2.Callee 0 ([]:List ag) bo24)<|sz (bD (⟨a.Caller,a2.Callee,o24⟩:aa) [])<|sy (db (⟨a.Caller,a2.Callee,o24⟩:aa))<|en (aI (jH (⟨a.Caller,a2.Callee,o24⟩:aa))<|aI (af (⟨a.Caller,a2.Callee,o24⟩:aa))<|rT)
 exact cT CA call34 func34 (c:=EB) rfl (aI (af a) (aI (af a2) trivial)) z<|by kernel_rfl
noncomputable def H3:Code:=f85.body.getD .skip
def HX:List Nat:=[]
def qm(a:ah):Option Bool:=
 some (!(a==a))
theorem rX{a:ah}{r:Bool}(h:qm a=some r):CC Pg GE 85 [.str a] (.bool r) []:=by
 obtain rfl:=lf h
 have z:=en (aI (rP (.bool (!(a==a))))<|trivial)
 exact cT HX call85 func85 (c:=H3) rfl (aI trivial trivial) z<|by kernel_rfl
noncomputable def FU:Code:=f59.body.getD .skip
def FM:List Nat:=[]
def j5(a:ah)(a2:ah):Option Int:=
 (qm a).bind fun r1=>
 (qm a2).bind fun r2=>
 if r1=true then
  if r2=true then
   some 0
  else
   some (-1)
 else
  if r2=true then
   some 1
  else
   if(Op.bytesLess a a2)=true then
    some (-1)
   else
    if(!(Op.bytesLess a a2||a==a2))=true then
     some 1
    else
     some 0
theorem pJ{a:ah}{a2:ah}{r:Int}(h:j5 a a2=some r):CC Pg GE 59 [.str a,.str a2] (.int .i64 r) []:=by
 obtain⟨r1,br1,h⟩:=aC h
 obtain⟨r2,br2,h⟩:=aC h
 have p4:=fun{sc F} (r:PS sc F)=>eb (rX br1)<|eb (rX br2)<|r
 rcases bC h with⟨c3,h⟩|⟨c3,h⟩
 ·have p6:=fun{sc F} (r:PS sc F)=>p4<|sg 0 c3<|r
  rcases bC h with⟨c5,h⟩|⟨c5,h⟩
  ·obtain rfl:=lf h
   have z:=p6<|sg 0 c5<|en (aI (rP (.int .i64 0))<|trivial)
   exact cT FM call59 func59 (c:=FU) rfl (aI trivial (aI trivial trivial)) z<|by kernel_rfl
  ·obtain rfl:=lf h
   have z:=p6<|sg 0 c5<|en (aI (rP (.int .i64 (-1)))<|trivial)
   exact cT FM call59 func59 (c:=FU) rfl (aI trivial (aI trivial trivial)) z<|by kernel_rfl
 ·have p8:=fun{sc F} (r:PS sc F)=>p4<|sg 0 c3<|r
  rcases bC h with⟨c7,h⟩|⟨c7,h⟩
  ·obtain rfl:=lf h
   have z:=p8<|sg 0 c7<|en (aI (rP (.int .i64 1))<|trivial)
   exact cT FM call59 func59 (c:=FU) rfl (aI trivial (aI trivial trivial)) z<|by kernel_rfl
  ·have p10:=fun{sc F} (r:PS sc F)=>p8<|sg 0 c7<|r
   rcases bC h with⟨c9,h⟩|⟨c9,h⟩
   ·obtain rfl:=lf h
    have z:=p10<|sg 0 c9<|en (aI (rP (.int .i64 (-1)))<|trivial)
    exact cT FM call59 func59 (c:=FU) rfl (aI trivial (aI trivial trivial)) z<|by kernel_rfl
   ·have p12:=fun{sc F} (r:PS sc F)=>p10<|sg 0 c9<|r
    rcases bC h with⟨c11,h⟩|⟨c11,h⟩
    ·obtain rfl:=lf h
     have z:=p12<|sg 0 c11<|en (aI (rP (.int .i64 1))<|trivial)
     exact cT FM call59 func59 (c:=FU) rfl (aI trivial (aI trivial trivial)) z<|by kernel_rfl
    ·obtain rfl:=lf h
     have z:=p12<|sg 0 c11<|en (aI (rP (.int .i64 0))<|trivial)
     exact cT FM call59 func59 (c:=FU) rfl (aI trivial (aI trivial trivial)) z<|by kernel_rfl
noncomputable def GY:Code:=f58.body.getD .skip
def F2:List Nat:=[15,17]
section
variable(t6:(List Int))(t7:Int)(t8:Int)
def j6:ak:=cJ 18 [(3,.int .i64 0),(6,sl (cI .i64) t6),(7,.int .i64 t7),(8,.int .i64 t8)] [] []
def j8(o:Int⊕(Unit)):Exit:=match o with
 |(.inl _)=>.ret
 |(.inr _)=>.exit 0
def iG(o:Int⊕(Unit)):ak:=match o with
 |(.inl o)=>cJ 18 [(2,.int .i64 o)] [] []
 |(.inr o)=>cJ 18 [(3,.int .i64 0)] [] []
def j7:Option (Int⊕(Int⊕(Unit))):=
 if(decide (t8<t7))=true then
  (ep t6 t8).bind fun x2=>
  if(x2 !=0)=true then
   some (.inr (.inl x2))
  else
   some (.inl (bU (t8+1)))
 else
  some (.inr (.inr ()))
def kY:Option (Int⊕(Unit)):=loop (fun(zz:Int)=>j7 t6 t7 zz) t8
theorem wS{y:Int⊕(Int⊕(Unit))}(h:j7 t6 t7 t8=some y):aL Pg GE 0 (cA GY 119) (LQ (fun(zz:Int)=>j6 t6 t7 zz) j8 iG y) (j6 t6 t7 t8):=by
 rcases bC h with⟨c1,h⟩|⟨c1,h⟩
 ·obtain⟨x2,bx2,h⟩:=aC h
  have p4:=fun{sc F} (r:PS sc F)=>sg 0 c1<|sv (z7.ia (k:=.i64) bx2)<|sv (yy H7 (.int .i64 x2) [])<|r
  rcases bC h with⟨c3,h⟩|⟨c3,h⟩
  ·obtain rfl:=lf h
   have z:=p4<|sg 0 c3<|eF (j8 (.inl x2)) (iG (.inl x2))
   exact ny F2 (by intro hx;cases hx) z<|by kernel_rfl
  ·obtain rfl:=lf h
   exact yl F2 (p4<|sg 0 c3<|eF .normal (j6 t6 t7 (bU (t8+1))))<|by kernel_rfl
 ·obtain rfl:=lf h
  have z:=sg 0 c1<|eF (j8 (.inr ())) (iG (.inr ()))
  exact ny F2 (by intro hx;cases hx) z<|by kernel_rfl
theorem rV{x:Int⊕(Unit)}(h:kY t6 t7 t8=some x):aL Pg GE 0 (.loop (cA GY 119)) (EX (j8 x) (iG x)) (j6 t6 t7 t8):=
 aL.loop (S:=fun(zz:Int)=>j6 t6 t7 zz) (ex:=j8) (s:=t8) h fun zz y hy=>wS t6 t7 zz hy
end
def vp(vals:(List Int)):Option Int:=
 (kY vals (vals.length:Int) 0).bind fun o5=>match o5 with
 |(.inl o5)=>
  some o5
 |(.inr o5)=>
  some 0
theorem xn{vals:(List Int)}{r:Int}(h:vp vals=some r):CC Pg GE 58 [sl (cI .i64) vals] (.int .i64 r) []:=by
 obtain⟨o5,bo5,h⟩:=aC h
 rcases o5 with o5|o5
 ·obtain rfl:=lf h
  have z:=g8 (z7.ln vals)<|gq (e:=.ret) (s1:=iG (.inl o5)) (rV vals (vals.length:Int) 0 bo5)<|en (aI (rP (.int .i64 o5))<|trivial)
  exact cT F2 call58 func58 (c:=GY) rfl (aI (aw (Hg .i64) vals) trivial) z<|by kernel_rfl
 ·obtain rfl:=lf h
  have z:=g8 (z7.ln vals)<|gq (e:=.exit 0) (s1:=iG (.inr o5)) (rV vals (vals.length:Int) 0 bo5)<|en (aI (rP (.int .i64 0))<|trivial)
  exact cT F2 call58 func58 (c:=GY) rfl (aI (aw (Hg .i64) vals) trivial) z<|by kernel_rfl
noncomputable def H4:Code:=f86.body.getD .skip
def HY:List Nat:=[]
def mi(a:Int):Option Bool:=
 some (a !=a)
theorem pK{a:Int}{r:Bool}(h:mi a=some r):CC Pg GE 86 [.int .i64 a] (.bool r) []:=by
 obtain rfl:=lf h
 have z:=en (aI (rP (.bool (a !=a)))<|trivial)
 exact cT HY call86 func86 (c:=H4) rfl (aI trivial trivial) z<|by kernel_rfl
noncomputable def FV:Code:=f62.body.getD .skip
def FO:List Nat:=[]
def fT(a:Int)(a2:Int):Option Int:=
 (mi a).bind fun r1=>
 (mi a2).bind fun r2=>
 if r1=true then
  if r2=true then
   some 0
  else
   some (-1)
 else
  if r2=true then
   some 1
  else
   if(decide (a<a2))=true then
    some (-1)
   else
    if(decide (a>a2))=true then
     some 1
    else
     some 0
theorem jF{a:Int}{a2:Int}{r:Int}(h:fT a a2=some r):CC Pg GE 62 [.int .i64 a,.int .i64 a2] (.int .i64 r) []:=by
 obtain⟨r1,br1,h⟩:=aC h
 obtain⟨r2,br2,h⟩:=aC h
 have p4:=fun{sc F} (r:PS sc F)=>eb (pK br1)<|eb (pK br2)<|r
 rcases bC h with⟨c3,h⟩|⟨c3,h⟩
 ·have p6:=fun{sc F} (r:PS sc F)=>p4<|sg 0 c3<|r
  rcases bC h with⟨c5,h⟩|⟨c5,h⟩
  ·obtain rfl:=lf h
   have z:=p6<|sg 0 c5<|en (aI (rP (.int .i64 0))<|trivial)
   exact cT FO call62 func62 (c:=FV) rfl (aI trivial (aI trivial trivial)) z<|by kernel_rfl
  ·obtain rfl:=lf h
   have z:=p6<|sg 0 c5<|en (aI (rP (.int .i64 (-1)))<|trivial)
   exact cT FO call62 func62 (c:=FV) rfl (aI trivial (aI trivial trivial)) z<|by kernel_rfl
 ·have p8:=fun{sc F} (r:PS sc F)=>p4<|sg 0 c3<|r
  rcases bC h with⟨c7,h⟩|⟨c7,h⟩
  ·obtain rfl:=lf h
   have z:=p8<|sg 0 c7<|en (aI (rP (.int .i64 1))<|trivial)
   exact cT FO call62 func62 (c:=FV) rfl (aI trivial (aI trivial trivial)) z<|by kernel_rfl
  ·have p10:=fun{sc F} (r:PS sc F)=>p8<|sg 0 c7<|r
   rcases bC h with⟨c9,h⟩|⟨c9,h⟩
   ·obtain rfl:=lf h
    have z:=p10<|sg 0 c9<|en (aI (rP (.int .i64 (-1)))<|trivial)
    exact cT FO call62 func62 (c:=FV) rfl (aI trivial (aI trivial trivial)) z<|by kernel_rfl
   ·have p12:=fun{sc F} (r:PS sc F)=>p10<|sg 0 c9<|r
    rcases bC h with⟨c11,h⟩|⟨c11,h⟩
    ·obtain rfl:=lf h
     have z:=p12<|sg 0 c11<|en (aI (rP (.int .i64 1))<|trivial)
     exact cT FO call62 func62 (c:=FV) rfl (aI trivial (aI trivial trivial)) z<|by kernel_rfl
    ·obtain rfl:=lf h
     have z:=p12<|sg 0 c11<|en (aI (rP (.int .i64 0))<|trivial)
     exact cT FO call62 func62 (c:=FV) rfl (aI trivial (aI trivial trivial)) z<|by kernel_rfl
noncomputable def HL:Code:=f63.body.getD .skip
def HB:List Nat:=[]
def gM(a:Bool):Option Int:=
 if a=true then
  some 1
 else
  some 0
theorem mB{a:Bool}{r:Int}(h:gM a=some r):CC Pg GE 63 [.bool a] (.int .i64 r) []:=by
 rcases bC h with⟨c1,h⟩|⟨c1,h⟩
 ·obtain rfl:=lf h
  have z:=sg 0 c1<|en (aI (rP (.int .i64 1))<|trivial)
  exact cT HB call63 func63 (c:=HL) rfl (aI trivial trivial) z<|by kernel_rfl
 ·obtain rfl:=lf h
  have z:=sg 0 c1<|en (aI (rP (.int .i64 0))<|trivial)
  exact cT HB call63 func63 (c:=HL) rfl (aI trivial trivial) z<|by kernel_rfl
noncomputable def H1:Code:=f61.body.getD .skip
def HW:List Nat:=[]
def fC(a:ag)(a2:ag):Option Int:=
 (fT a.From a2.From).bind fun r1=>
 (fT a.To a2.To).bind fun r2=>
 (gM a.Strict).bind fun r3=>
 (gM a2.Strict).bind fun r4=>
 (fT r3 r4).bind fun r5=>
 (vp ([r1,r2,r5]:List Int)).bind fun r6=>
 some r6
theorem pj{a:ag}{a2:ag}{r:Int}(h:fC a a2=some r):CC Pg GE 61 [.agg (am a),.agg (am a2)] (.int .i64 r) []:=by
 obtain⟨r1,br1,h⟩:=aC h
 obtain⟨r2,br2,h⟩:=aC h
 obtain⟨r3,br3,h⟩:=aC h
 obtain⟨r4,br4,h⟩:=aC h
 obtain⟨r5,br5,h⟩:=aC h
 obtain⟨r6,br6,h⟩:=aC h
 obtain rfl:=lf h
 have z:=se (sK a)<|se (sK a2)<|Aj [0,1,0,4,15,0,32,0,128,511,0,1024,4095,0,8192,32767,65535,131071,262143,524287]<|sv (fx a)<|sv (gE a)<|sv (fx a2)<|sv (gE a2)<|eb (jF br1)<|sv (jf a)<|sv (kc a)<|sv (jf a2)<|sv (kc a2)<|eb (jF br2)<|sv (oo a)<|sv (pO a)<|eb (mB br3)<|sv (oo a2)<|sv (pO a2)<|eb (mB br4)<|eb (jF br5)<|sv (z7.mk' (v:=(PVal.int .i64)) (HU .i64) ([r1,r2,r5]:List Int) 3 (by kernel_rfl))<|eb (xn br6)<|en (aI (rP (.int .i64 r6))<|trivial)
 exact cT HW call61 func61 (c:=H1) rfl (aI (aM a) (aI (aM a2) trivial)) z<|by kernel_rfl
noncomputable def Gr:Code:=f60.body.getD .skip
def EO:List Nat:=[15,32]
section
variable(s1:waB)(s2:waB)(t12:Int)(t13:Int)
def cH:ak:=cJ 39 [(0,sl am s1),(1,sl am s2),(2,.func (.func 61) [] []),(11,sl am s1),(12,.int .i64 t12),(13,.int .i64 t13)] [] []
def bB(o:Int⊕(Unit)):Exit:=match o with
 |(.inl _)=>.ret
 |(.inr _)=>.exit 0
def aZ(o:Int⊕(Unit)):ak:=match o with
 |(.inl o)=>cJ 39 [(6,.int .i64 o)] [] []
 |(.inr o)=>cJ 39 [(0,sl am s1),(1,sl am s2)] [] []
def bA:Option (Int⊕(Int⊕(Unit))):=
 if (decide (t13 < t12)) = true then
  (ep s1 t13).bind fun x2=>
  if(decide (t13>=(s2.length:Int)))=true then
   some (.inr (.inl 1))
  else
   (ep s2 t13).bind fun x5=>
   (fC x2 x5).bind fun r6=>
   if(r6 !=0)=true then
    some (.inr (.inl r6))
   else
    some (.inl (bU (t13+1)))
 else
  some (.inr (.inr ()))
def b6:Option (Int⊕(Unit)):=loop (fun(zz:Int)=>bA s1 s2 t12 zz) t13
theorem me{y:Int⊕(Int⊕(Unit))}(h:bA s1 s2 t12 t13=some y):aL Pg GE 0 (cA Gr 55) (LQ (fun(zz:Int)=>cH s1 s2 t12 zz) bB (aZ s1 s2) y) (cH s1 s2 t12 t13):=by
 rcases bC h with⟨c1,h⟩|⟨c1,h⟩
 ·obtain⟨x2,bx2,h⟩:=aC h
  have p4:=fun{sc F} (r:PS sc F)=>sg 0 c1<|sv (gp.ia (k:=.i64) bx2)<|sv (jk x2)<|sx DH<|sx (pR x2)<|g8 (gp.ln s2)<|r
  rcases bC h with⟨c3,h⟩|⟨c3,h⟩
  ·obtain rfl:=lf h
   have z:=p4<|sg 0 c3<|tc 0 (bB (.inl 1)) (aZ s1 s2 (.inl 1)) rfl (eR (aI trivial trivial)) trivial
   exact kp (A:=EO) mixed (by intro hx;cases hx) z<|by kernel_rfl
  ·obtain⟨x5,bx5,h⟩:=aC h
   obtain⟨r6,br6,h⟩:=aC h
   have p8:=fun{sc F} (r:PS sc F)=>p4<|sg 0 c3<|sv (gp.ia (k:=.i64) bx5)<|sv (jk x5)<|sx DH<|sx (pR x5)<|sv (vW x2 [])<|sv (vW x5 [])<|eb (pj br6)<|r
   rcases bC h with⟨c7,h⟩|⟨c7,h⟩
   ·obtain rfl:=lf h
    have z:=p8<|sg 0 c7<|tc 0 (bB (.inl r6)) (aZ s1 s2 (.inl r6)) rfl (eR (aI trivial trivial)) trivial
    exact kp (A:=EO) mixed (by intro hx;cases hx) z<|by kernel_rfl
   ·obtain rfl:=lf h
    have z:=p8<|sg 0 c7<|tc 0 .normal (cH s1 s2 t12 (bU (t13+1))) rfl (eR (aI (up (aw aM s1)) (aI (up (aw aM s2)) (aI (aI trivial trivial) (aI (up (aw aM s1)) (aI trivial (aI trivial trivial))))))) trivial
    exact iz (A:=EO) mixed z<|by kernel_rfl
 ·obtain rfl:=lf h
  have z:=sg 0 c1<|eF (bB (.inr ())) (aZ s1 s2 (.inr ()))
  exact ny EO (by intro hx;cases hx) z<|by kernel_rfl
theorem im{x:Int⊕(Unit)}(h:b6 s1 s2 t12 t13=some x):aL Pg GE 0 (.loop (cA Gr 55)) (EX (bB x) (aZ s1 s2 x)) (cH s1 s2 t12 t13):=
 aL.loop (S:=fun(zz:Int)=>cH s1 s2 t12 zz) (ex:=bB) (s:=t13) h fun zz y hy=>me s1 s2 t12 zz hy
end
def fD(s1:waB)(s2:waB):Option Int:=
 (b6 s1 s2 (s1.length:Int) 0).bind fun o9=>match o9 with
 |(.inl o9)=>
  some o9
 | (.inr o9) =>
  if(decide ((s1.length:Int)<(s2.length:Int)))=true then
   some (-1)
  else
   some 0
theorem pk{s1:waB}{s2:waB}{r:Int}(h:fD s1 s2=some r):CC Pg GE 60 [sl am s1,sl am s2,.func (.func 61) [] []] (.int .i64 r) []:=by
 obtain⟨o9,bo9,h⟩:=aC h
 rcases o9 with o9|o9
 ·obtain rfl:=lf h
  have z:=g8 (gp.ln s1)<|gq (e:=.ret) (s1:=aZ s1 s2 (.inl o9)) (im s1 s2 (s1.length:Int) 0 bo9)<|en (aI (rP (.int .i64 o9))<|trivial)
  exact cT EO call60 func60 (c:=Gr) rfl (aI (aw aM s1) (aI (aw aM s2) (aI (aI trivial trivial) trivial))) z<|by kernel_rfl
 ·have p11:=fun{sc F} (r:PS sc F)=>g8 (gp.ln s1)<|gq (e:=.exit 0) (s1:=aZ s1 s2 (.inr o9)) (im s1 s2 (s1.length:Int) 0 bo9)<|g8 (gp.ln s1)<|g8 (gp.ln s2)<|r
  rcases bC h with⟨c10,h⟩|⟨c10,h⟩
  ·obtain rfl:=lf h
   have z:=p11<|sg 0 c10<|en (aI (rP (.int .i64 (-1)))<|trivial)
   exact cT EO call60 func60 (c:=Gr) rfl (aI (aw aM s1) (aI (aw aM s2) (aI (aI trivial trivial) trivial))) z<|by kernel_rfl
  ·obtain rfl:=lf h
   have z:=p11<|sg 0 c10<|en (aI (rP (.int .i64 0))<|trivial)
   exact cT EO call60 func60 (c:=Gr) rfl (aI (aw aM s1) (aI (aw aM s2) (aI (aI trivial trivial) trivial))) z<|by kernel_rfl
noncomputable def HI:Code:=f39.body.getD .skip
def Hy:List Nat:=[20]
def bh(a:aa)(a2:aa):Option Int:=
 (j5 a.Caller a2.Caller).bind fun r1=>
 (j5 a.Callee a2.Callee).bind fun r2=>
 (vp ([r1,r2]:List Int)).bind fun r3=>
 if(r3 !=0)=true then
  some r3
 else
  (fD a.Arcs a2.Arcs).bind fun r6=>
  some r6
theorem qC{a:aa}{a2:aa}{r:Int}(h:bh a a2=some r):CC Pg GE 39 [.agg (ac a),.agg (ac a2)] (.int .i64 r) []:=by
 obtain⟨r1,br1,h⟩:=aC h
 obtain⟨r2,br2,h⟩:=aC h
 obtain⟨r3,br3,h⟩:=aC h
 have p5:=fun{sc F} (r:PS sc F)=>se (df a)<|se (df a2)<|Aj [0,1,0,4,15,0,32,0,128,511,1023,2047,4095]<|sv (be a)<|sv (bI a)<|sv (be a2)<|sv (bI a2)<|eb (pJ br1)<|sv (bg a)<|sv (bJ a)<|sv (bg a2)<|sv (bJ a2)<|eb (pJ br2)<|sv (z7.mk' (v:=(PVal.int .i64)) (HU .i64) ([r1,r2]:List Int) 2 (by kernel_rfl))<|eb (xn br3)<|r
 rcases bC h with⟨c4,h⟩|⟨c4,h⟩
 ·obtain rfl:=lf h
  have z:=p5<|sg 0 c4<|en (aI (rP (.int .i64 r3))<|trivial)
  exact cT Hy call39 func39 (c:=HI) rfl (aI (af a) (aI (af a2) trivial)) z<|by kernel_rfl
 ·obtain⟨r6,br6,h⟩:=aC h
  obtain rfl:=lf h
  have z:=p5<|sg 0 c4<|sv (aN a)<|sv (aO a)<|sv (aN a2)<|sv (aO a2)<|eb (pk br6)<|en (aI (rP (.int .i64 r6))<|trivial)
  exact cT Hy call39 func39 (c:=HI) rfl (aI (af a) (aI (af a2) trivial)) z<|by kernel_rfl
end Go.Proofs.YtoficachfgggjaaDoor
