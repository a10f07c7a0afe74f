/- PROVED: parts of the proof (G9). Conditions: none. -/
import Derived.Test.YtbaamopmfmpfaaaGreatDoorPkD22
noncomputable section
namespace Go.Proofs.YtbaamopmfmpfaaaGreatDoor
open Go
set_option linter.unusedVariables false
set_option maxRecDepth 100000
def qbW:Code:=Tryz.f79.body.getD .skip
def qax:List Nat:=[]
section
variable(name:ag)(t9:(List eV))(t10:Int)(t11:Int)(m:ag)(m2:waB)(m3:waF)(m4:waG)
def ja:az:=aW 22 [(1,.str name),(4,.bptr 1 0),(9,sl cj t9),(10,.int .i64 t10),(11,.int .i64 t11)] [.dead,.cells [.str m,sl cS m2,sl bA m3,sl eg m4] [(1,9),(2,102),(3,73)]] []
def jb(o:(ag×waB×waF×waG)⊕(ag×waB×waF×waG)):Exit:=match o with
 |(.inl _)=>.ret
 |(.inr _)=>.exit 0
def gj(o:(ag×waB×waF×waG)⊕(ag×waB×waF×waG)):az:=match o with
 |(.inl o)=>aW 22 [(4,.bptr 1 0),(5,.bool true)] [.dead,.cells [.str o.1,sl cS o.2.1,sl bA o.2.2.1,sl eg o.2.2.2] []] []
 |(.inr o)=>aW 22 [(4,.bptr 1 0)] [.dead,.cells [.str o.1,sl cS o.2.1,sl bA o.2.2.1,sl eg o.2.2.2] [(1,9),(2,102),(3,73)]] []
def fa:Option ((Int×ag×waB×waF×waG)⊕((ag×waB×waF×waG)⊕(ag×waB×waF×waG))):=
 if(decide (t11<t10))=true then
  (cH t9 t11).bind fun x2=>
  if(x2.Name==name)=true then
   some (.inr (.inl (x2.Name,x2.Vars,x2.Preds,x2.Cons)))
  else
   some (.inl (aO (t11+1),m,m2,m3,m4))
 else
  some (.inr (.inr (m,m2,m3,m4)))
def uk:Option ((ag×waB×waF×waG)⊕(ag×waB×waF×waG)):=loop (fun(zz:Int×ag×waB×waF×waG)=>fa name t9 t10 zz.1 zz.2.1 zz.2.2.1 zz.2.2.2.1 zz.2.2.2.2) (t11,m,m2,m3,m4)
theorem DQ{y:(Int×ag×waB×waF×waG)⊕((ag×waB×waF×waG)⊕(ag×waB×waF×waG))}(h:fa name t9 t10 t11 m m2 m3 m4=some y):
  aQ Pg GE 0 (cA qbW 55) (LQ (fun(zz:Int×ag×waB×waF×waG)=>ja name t9 t10 zz.1 zz.2.1 zz.2.2.1 zz.2.2.2.1 zz.2.2.2.2) jb gj y) (ja name t9 t10 t11 m m2 m3 m4):=by
 rcases aX h with⟨c1,h⟩|⟨c1,h⟩
 ·obtain⟨x2,bx2,h⟩:=aA h
  have p4:=fun{sc F} (r:PS sc F)=>sg 0 c1<|sv (KU.ia (k:=.i64) bx2)<|sv (V9 x2)<|sx X8<|sx (Gu x2)<|ss<|r
  rcases aX h with⟨c3,h⟩|⟨c3,h⟩
  ·obtain rfl:=lf h
   have z:=p4<|sg 0 c3<|sv (Ud x2 [])<|sx (Gu x2)<|y4 0 (jb (.inl (x2.Name,x2.Vars,x2.Preds,x2.Cons))) (gj (.inl (x2.Name,x2.Vars,x2.Preds,x2.Cons))) rfl (eh (aI (d7 rfl) (aI trivial trivial))) (aI trivial (aI (aI trivial (aI (up (aq iu x2.Vars)) (aI (up (aq lG x2.Preds)) (aI (up (aq Er x2.Cons)) trivial)))) trivial))
   exact Gs (A:=qax) mixed (by intro hx;cases hx) z (by kernel_rfl)
  ·obtain rfl:=lf h
   have z:=p4<|sg 0 c3<|y4 0 .normal (ja name t9 t10 (aO (t11+1)) m m2 m3 m4) rfl (eh (aI trivial (aI (d7 rfl) (aI (up (aq wE t9)) (aI trivial (aI trivial trivial)))))) (aI trivial (aI (aI trivial (aI (up (aq iu m2)) (aI (up (aq lG m3)) (aI (up (aq Er m4)) trivial)))) trivial))
   exact dV (A:=qax) mixed z (by kernel_rfl)
 ·obtain rfl:=lf h
  have z:=sg 0 c1<|eF (jb (.inr (m,m2,m3,m4))) (gj (.inr (m,m2,m3,m4)))
  exact iW qax (by intro hx;cases hx) z (by kernel_rfl)
theorem vw{x:(ag×waB×waF×waG)⊕(ag×waB×waF×waG)}(h:uk name t9 t10 t11 m m2 m3 m4=some x):
  aQ Pg GE 0 (.loop (cA qbW 55)) (EX (jb x) (gj x)) (ja name t9 t10 t11 m m2 m3 m4):=
 aQ.loop (S:=fun(zz:Int×ag×waB×waF×waG)=>ja name t9 t10 zz.1 zz.2.1 zz.2.2.1 zz.2.2.2.1 zz.2.2.2.2) (ex:=jb) (s:=(t11,m,m2,m3,m4)) h fun zz y hy=>DQ name t9 t10 zz.1 zz.2.1 zz.2.2.1 zz.2.2.2.1 zz.2.2.2.2 hy
end
def vq(m:aR)(name:ag):Option (eV×Bool):=
 (uk name m.Datas (m.Datas.length:Int) 0 ([]:ag) ([]:List ag) ([]:List dc) ([]:List iv)).bind fun o5=>match o5 with
 |(.inl o5)=>
  some ((⟨o5.1,o5.2.1,o5.2.2.1,o5.2.2.2⟩:eV),true)
 |(.inr o5)=>
  some ((⟨([]:ag),([]:List ag),([]:List dc),([]:List iv)⟩:eV),false)
theorem K0{m:aR}{name:ag}{r:eV×Bool}(h:vq m name=some r):CC Pg GE 79 [.agg (aC m),.str name] (.tuple [.agg (cj r.1),.bool r.2]) []:=by
 obtain⟨o5,bo5,h⟩:=aA h
 rcases o5 with o5|o5
 ·obtain rfl:=lf h
  have z:=se (tX m)<|sx X8<|sv (dw m)<|sv (dy m)<|cw (KU.ln m.Datas)<|di (e:=.ret) (s1:=gj (.inl o5)) (vw name m.Datas (m.Datas.length:Int) 0 ([]:ag) ([]:List ag) ([]:List dc) ([]:List iv) bo5)<|en (aI (vbp PVal.tuple (G5 (M8 (⟨o5.1,o5.2.1,o5.2.2.1,o5.2.2.2⟩:eV)) (G5 (rP (.bool true)) (rfl:([]:List PVal)=[]))))<|(aI (wE (⟨o5.1,o5.2.1,o5.2.2.1,o5.2.2.2⟩:eV)) (aI trivial trivial)))
  exact ck qax Tryz.call79 Tryz.func79 (c:=qbW) rfl (aI (ij m) (aI trivial trivial)) z (by kernel_rfl)
 ·obtain rfl:=lf h
  have z:=se (tX m)<|sx X8<|sv (dw m)<|sv (dy m)<|cw (KU.ln m.Datas)<|di (e:=.exit 0) (s1:=gj (.inr o5)) (vw name m.Datas (m.Datas.length:Int) 0 ([]:ag) ([]:List ag) ([]:List dc) ([]:List iv) bo5)<|sb (Rj) (Rf)<|sy (tO (⟨([]:ag),([]:List ag),([]:List dc),([]:List iv)⟩:eV))<|en (aI (vbp PVal.tuple (G5 (M8 (⟨([]:ag),([]:List ag),([]:List dc),([]:List iv)⟩:eV)) (G5 (rP (.bool false)) (rfl:([]:List PVal)=[]))))<|(aI (wE (⟨([]:ag),([]:List ag),([]:List dc),([]:List iv)⟩:eV)) (aI trivial trivial)))
  exact ck qax Tryz.call79 Tryz.func79 (c:=qbW) rfl (aI (ij m) (aI trivial trivial)) z (by kernel_rfl)
def qaL:Code:=Tryz.f108.body.getD .skip
def qam:List Nat:=[]
def gg(is:Bool):Option aa:=
 if is=true then
  some (⟨2,([]:ag),1,([]:List aa)⟩:aa)
 else
  some (⟨2,([]:ag),0,([]:List aa)⟩:aa)
theorem i6{is:Bool}{r:aa}(h:gg is=some r):CC Pg GE 108 [.bool is] (.agg (ac r)) [(3,36)]:=by
 rcases aX h with⟨c1,h⟩|⟨c1,h⟩
 ·obtain rfl:=lf h
  have z:=sx lM<|sg 0 c1<|sb (xT 2 1) (xQ 2 1)<|sy (aE (⟨2,([]:ag),1,([]:List aa)⟩:aa))<|en (aI (e9 (⟨2,([]:ag),1,([]:List aa)⟩:aa))<|aI (ah (⟨2,([]:ag),1,([]:List aa)⟩:aa))<|rT)
  exact ck qam Tryz.call108 Tryz.func108 (c:=qaL) rfl (aI trivial trivial) z (by kernel_rfl)
 ·obtain rfl:=lf h
  have z:=sx lM<|sg 0 c1<|sb (JI 2) (JG 2)<|sy (aE (⟨2,([]:ag),0,([]:List aa)⟩:aa))<|en (aI (e9 (⟨2,([]:ag),0,([]:List aa)⟩:aa))<|aI (ah (⟨2,([]:ag),0,([]:List aa)⟩:aa))<|rT)
  exact ck qam Tryz.call108 Tryz.func108 (c:=qaL) rfl (aI trivial trivial) z (by kernel_rfl)
def qc7:Code:=Tryz.f90.body.getD .skip
def qc1:List Nat:=[]
def wU(p:aa):Option Bool:=
 (iZ p (⟨0,([]:ag),0,([]:List aa)⟩:aa)).bind fun r1=>
 if r1=true then
  some true
 else
  (gg true).bind fun r4=>
  (iZ p r4).bind fun r5=>
  some r5
theorem E6{p:aa}{r:Bool}(h:wU p=some r):CC Pg GE 90 [.agg (ac p)] (.bool r) []:=by
 obtain⟨r1,br1,h⟩:=aA h
 have p3:=fun{sc F} (r:PS sc F)=>se (cf p)<|ra [0,0,3,7,15,15,63,127,255]<|sv (aY p)<|sb (tN) (tL)<|bP (oV br1)<|r
 rcases aX h with⟨c2,h⟩|⟨c2,h⟩
 ·obtain rfl:=lf h
  have z:=p3<|sg 4 c2<|en (aI (rP (.bool true))<|trivial)
  exact ck qc1 Tryz.call90 Tryz.func90 (c:=qc7) rfl (aI (ah p) trivial) z (by kernel_rfl)
 ·obtain⟨r4,br4,h⟩:=aA h
  obtain⟨r5,br5,h⟩:=aA h
  obtain rfl:=lf h
  have z:=p3<|sg 4 c2<|sv (aY p)<|bP (i6 br4)<|bP (oV br5)<|en (aI (rP (.bool r5))<|trivial)
  exact ck qc1 Tryz.call90 Tryz.func90 (c:=qc7) rfl (aI (ah p) trivial) z (by kernel_rfl)
def qb1:Code:=Tryz.f97.body.getD .skip
def Zb:List Nat:=[25]
section
variable(t8:waA)(t9:Int)(v:Bool)(t10:Int)(m:Int)(m2:ag)(m3:Int)(m4:waA)(m5:Int)(m6:ag)(m7:Int)(m8:waA)
def im:az:=aW 33 [(2,.bptr 0 0),(3,.bptr 1 0),(4,.bool v),(8,sl ac t8),(9,.int .i64 t9),(10,.int .i64 t10)] [.cells [.int .i64 m,.str m2,.int .i64 m3,sl ac m4] [(3,36)],.cells [.int .i64 m5,.str m6,.int .i64 m7,sl ac m8] []] []
def mT(o:(Int×ag×Int×waA×Int×ag×Int×waA)⊕(Int×ag×Int×waA×Int×ag×Int×waA)):Exit:=match o with
 |(.inl _)=>.ret
 |(.inr _)=>.exit 0
def j6(o:(Int×ag×Int×waA×Int×ag×Int×waA)⊕(Int×ag×Int×waA×Int×ag×Int×waA)):az:=match o with
 |(.inl o)=>aW 33 [(2,.bptr 0 0)] [.cells [.int .i64 o.1,.str o.2.1,.int .i64 o.2.2.1,sl ac o.2.2.2.1] [(3,36)],.cells [.int .i64 o.2.2.2.2.1,.str o.2.2.2.2.2.1,.int .i64 o.2.2.2.2.2.2.1,sl ac o.2.2.2.2.2.2.2] []] []
 |(.inr o)=>aW 33 [(2,.bptr 0 0),(3,.bptr 1 0)] [.cells [.int .i64 o.1,.str o.2.1,.int .i64 o.2.2.1,sl ac o.2.2.2.1] [(3,36)],.cells [.int .i64 o.2.2.2.2.1,.str o.2.2.2.2.2.1,.int .i64 o.2.2.2.2.2.2.1,sl ac o.2.2.2.2.2.2.2] []] []
def gf:Option ((Bool×Int×Int×ag×Int×waA×Int×ag×Int×waA)⊕((Int×ag×Int×waA×Int×ag×Int×waA)⊕(Int×ag×Int×waA×Int×ag×Int×waA))):=
 if (decide (t10 < t9)) = true then
  (cH t8 t10).bind fun x3=>
  (wU x3).bind fun r4=>
  if r4=true then
   some (.inl (v,aO (t10+1),m,m2,m3,m4,m5,m6,m7,m8))
  else
   (gg false).bind fun r7=>
   (iZ x3 r7).bind fun r8=>
   if r8=true then
    (gg false).bind fun r11=>
    some (.inr (.inl (r11.Op,r11.Name,r11.N,r11.Kids,m5,m6,m7,m8)))
   else
    if v=true then
     (nX x3).bind fun r14=>
     some (.inl (v,aO (t10+1),m,m2,m3,m4,15,([]:ag),0,([(⟨m5,m6,m7,m8⟩:aa),r14]:List aa)))
    else
     (nX x3).bind fun r15=>
     some (.inl (true,aO (t10+1),m,m2,m3,m4,r15.Op,r15.Name,r15.N,r15.Kids))
 else
  some (.inr (.inr (m,m2,m3,m4,m5,m6,m7,m8)))
def AX:Option ((Int×ag×Int×waA×Int×ag×Int×waA)⊕(Int×ag×Int×waA×Int×ag×Int×waA)):=loop (fun(zz:Bool×Int×Int×ag×Int×waA×Int×ag×Int×waA)=>gf t8 t9 zz.1 zz.2.1 zz.2.2.1 zz.2.2.2.1 zz.2.2.2.2.1 zz.2.2.2.2.2.1 zz.2.2.2.2.2.2.1 zz.2.2.2.2.2.2.2.1 zz.2.2.2.2.2.2.2.2.1 zz.2.2.2.2.2.2.2.2.2) (v,t10,m,m2,m3,m4,m5,m6,m7,m8)
theorem Io{y:(Bool×Int×Int×ag×Int×waA×Int×ag×Int×waA)⊕((Int×ag×Int×waA×Int×ag×Int×waA)⊕(Int×ag×Int×waA×Int×ag×Int×waA))}(h:gf t8 t9 v t10 m m2 m3 m4 m5 m6 m7 m8=some y):
  aQ Pg GE 0 (cA qb1 119) (LQ (fun(zz:Bool×Int×Int×ag×Int×waA×Int×ag×Int×waA)=>im t8 t9 zz.1 zz.2.1 zz.2.2.1 zz.2.2.2.1 zz.2.2.2.2.1 zz.2.2.2.2.2.1 zz.2.2.2.2.2.2.1 zz.2.2.2.2.2.2.2.1 zz.2.2.2.2.2.2.2.2.1 zz.2.2.2.2.2.2.2.2.2) mT j6 y) (im t8 t9 v t10 m m2 m3 m4 m5 m6 m7 m8):=by
 rcases aX h with⟨c2,h⟩|⟨c2,h⟩
 ·obtain⟨x3,bx3,h⟩:=aA h
  obtain⟨r4,br4,h⟩:=aA h
  have p6:=fun{sc F} (r:PS sc F)=>sg 0 c2<|sv (cd.ia (k:=.i64) bx3)<|sv (aY x3)<|sx lM<|sx (dn x3)<|sv (ch x3 [])<|bP (E6 br4)<|r
  rcases aX h with⟨c5,h⟩|⟨c5,h⟩
  ·obtain rfl:=lf h
   have z:=p6<|sg 0 c5<|y4 0 .normal (im t8 t9 v (aO (t10+1)) m m2 m3 m4 m5 m6 m7 m8) rfl (eh (aI (d7 rfl) (aI (d7 rfl) (aI trivial (aI (up (aq ah t8)) (aI trivial (aI trivial trivial))))))) (aI (aI trivial (aI trivial (aI trivial (aI (up (aq ah m4)) trivial)))) (aI (aI trivial (aI trivial (aI trivial (aI (up (aq ah m8)) trivial)))) trivial))
   exact dV (A:=Zb) mixed z (by kernel_rfl)
  ·obtain⟨r7,br7,h⟩:=aA h
   obtain⟨r8,br8,h⟩:=aA h
   have p10:=fun{sc F} (r:PS sc F)=>p6<|sg 0 c5<|ra [0,0,3,7]<|sv (ch x3 [])<|bP (i6 br7)<|bP (oV br8)<|r
   rcases aX h with⟨c9,h⟩|⟨c9,h⟩
   ·obtain⟨r11,br11,h⟩:=aA h
    obtain rfl:=lf h
    have z:=p10<|sg 0 c9<|bP (i6 br11)<|sy (aE r11)<|y4 0 (mT (.inl (r11.Op,r11.Name,r11.N,r11.Kids,m5,m6,m7,m8))) (j6 (.inl (r11.Op,r11.Name,r11.N,r11.Kids,m5,m6,m7,m8))) rfl (eh (aI (d7 rfl) trivial)) (aI (aI trivial (aI trivial (aI trivial (aI (up (aq ah r11.Kids)) trivial)))) (aI (aI trivial (aI trivial (aI trivial (aI (up (aq ah m8)) trivial)))) trivial))
    exact Gs (A:=Zb) mixed (by intro hx;cases hx) z (by kernel_rfl)
   ·have p13:=fun{sc F} (r:PS sc F)=>p10<|sg 0 c9<|r
    rcases aX h with⟨c12,h⟩|⟨c12,h⟩
    ·obtain⟨r14,br14,h⟩:=aA h
     obtain rfl:=lf h
     have z:=p13<|sg 0 c12<|ra [0,0,2,7,15,31]<|sv (ch (⟨m5,m6,m7,m8⟩:aa) [])<|sv (ch x3 [])<|bP (oW br14)<|sv (cd.mk' (v:=ff) dl ([(⟨m5,m6,m7,m8⟩:aa),r14]:List aa) 2 (by kernel_rfl))<|sv (Eo 15 ([(⟨m5,m6,m7,m8⟩:aa),r14]:List aa))<|sx (dn (⟨15,([]:ag),0,([(⟨m5,m6,m7,m8⟩:aa),r14]:List aa)⟩:aa))<|y4 0 .normal (im t8 t9 v (aO (t10+1)) m m2 m3 m4 15 ([]:ag) 0 ([(⟨m5,m6,m7,m8⟩:aa),r14]:List aa)) rfl (eh (aI (d7 rfl) (aI (d7 rfl) (aI trivial (aI (up (aq ah t8)) (aI trivial (aI trivial trivial))))))) (aI (aI trivial (aI trivial (aI trivial (aI (up (aq ah m4)) trivial)))) (aI (aI trivial (aI trivial (aI trivial (aI (up (aq ah ([(⟨m5,m6,m7,m8⟩:aa),r14]:List aa))) trivial)))) trivial))
     exact dV (A:=Zb) mixed z (by kernel_rfl)
    ·obtain⟨r15,br15,h⟩:=aA h
     obtain rfl:=lf h
     have z:=p13<|sg 0 c12<|sv (ch x3 [])<|bP (oW br15)<|sy (aE r15)<|y4 0 .normal (im t8 t9 true (aO (t10+1)) m m2 m3 m4 r15.Op r15.Name r15.N r15.Kids) rfl (eh (aI (d7 rfl) (aI (d7 rfl) (aI trivial (aI (up (aq ah t8)) (aI trivial (aI trivial trivial))))))) (aI (aI trivial (aI trivial (aI trivial (aI (up (aq ah m4)) trivial)))) (aI (aI trivial (aI trivial (aI trivial (aI (up (aq ah r15.Kids)) trivial)))) trivial))
     exact dV (A:=Zb) mixed z (by kernel_rfl)
 ·obtain rfl:=lf h
  have z:=sg 0 c2<|eF (mT (.inr (m,m2,m3,m4,m5,m6,m7,m8))) (j6 (.inr (m,m2,m3,m4,m5,m6,m7,m8)))
  exact iW Zb (by intro hx;cases hx) z (by kernel_rfl)
theorem AY{x:(Int×ag×Int×waA×Int×ag×Int×waA)⊕(Int×ag×Int×waA×Int×ag×Int×waA)}(h:AX t8 t9 v t10 m m2 m3 m4 m5 m6 m7 m8=some x):
  aQ Pg GE 0 (.loop (cA qb1 119)) (EX (mT x) (j6 x)) (im t8 t9 v t10 m m2 m3 m4 m5 m6 m7 m8):=
 aQ.loop (S:=fun(zz:Bool×Int×Int×ag×Int×waA×Int×ag×Int×waA)=>im t8 t9 zz.1 zz.2.1 zz.2.2.1 zz.2.2.2.1 zz.2.2.2.2.1 zz.2.2.2.2.2.1 zz.2.2.2.2.2.2.1 zz.2.2.2.2.2.2.2.1 zz.2.2.2.2.2.2.2.2.1 zz.2.2.2.2.2.2.2.2.2) (ex:=mT) (s:=(v,t10,m,m2,m3,m4,m5,m6,m7,m8)) h fun zz y hy=>Io t8 t9 zz.1 zz.2.1 zz.2.2.1 zz.2.2.2.1 zz.2.2.2.2.1 zz.2.2.2.2.2.1 zz.2.2.2.2.2.2.1 zz.2.2.2.2.2.2.2.1 zz.2.2.2.2.2.2.2.2.1 zz.2.2.2.2.2.2.2.2.2 hy
end
def E1(a:waA):Option aa:=
 (gg true).bind fun r1=>
 (AX a (a.length:Int) false 0 0 ([]:ag) 0 ([]:List aa) r1.Op r1.Name r1.N r1.Kids).bind fun o16=>match o16 with
 |(.inl o16)=>
  some (⟨o16.1,o16.2.1,o16.2.2.1,o16.2.2.2.1⟩:aa)
 |(.inr o16)=>
  some (⟨o16.2.2.2.2.1,o16.2.2.2.2.2.1,o16.2.2.2.2.2.2.1,o16.2.2.2.2.2.2.2⟩:aa)
theorem Qw{a:waA}{r:aa}(h:E1 a=some r):CC Pg GE 97 [sl ac a] (.agg (ac r)) []:=by
 obtain⟨r1,br1,h⟩:=aA h
 obtain⟨o16,bo16,h⟩:=aA h
 rcases o16 with o16|o16
 ·obtain rfl:=lf h
  have z:=sx lM<|bP (i6 br1)<|sx lM<|sy (aE r1)<|cw (cd.ln a)<|di (e:=.ret) (s1:=j6 (.inl o16)) (AY a (a.length:Int) false 0 0 ([]:ag) 0 ([]:List aa) r1.Op r1.Name r1.N r1.Kids bo16)<|en (aI (e9 (⟨o16.1,o16.2.1,o16.2.2.1,o16.2.2.2.1⟩:aa))<|(ah (⟨o16.1,o16.2.1,o16.2.2.1,o16.2.2.2.1⟩:aa)))
  exact ck Zb Tryz.call97 Tryz.func97 (c:=qb1) rfl (aI (aq ah a) trivial) z (by kernel_rfl)
 ·obtain rfl:=lf h
  have z:=sx lM<|bP (i6 br1)<|sx lM<|sy (aE r1)<|cw (cd.ln a)<|di (e:=.exit 0) (s1:=j6 (.inr o16)) (AY a (a.length:Int) false 0 0 ([]:ag) 0 ([]:List aa) r1.Op r1.Name r1.N r1.Kids bo16)<|sv (ch (⟨o16.2.2.2.2.1,o16.2.2.2.2.2.1,o16.2.2.2.2.2.2.1,o16.2.2.2.2.2.2.2⟩:aa) [])<|sx (dn (⟨o16.2.2.2.2.1,o16.2.2.2.2.2.1,o16.2.2.2.2.2.2.1,o16.2.2.2.2.2.2.2⟩:aa))<|en (aI (e9 (⟨o16.2.2.2.2.1,o16.2.2.2.2.2.1,o16.2.2.2.2.2.2.1,o16.2.2.2.2.2.2.2⟩:aa))<|(ah (⟨o16.2.2.2.2.1,o16.2.2.2.2.2.1,o16.2.2.2.2.2.2.1,o16.2.2.2.2.2.2.2⟩:aa)))
  exact ck Zb Tryz.call97 Tryz.func97 (c:=qb1) rfl (aI (aq ah a) trivial) z (by kernel_rfl)
def qcw:Code:=Tryz.f80.body.getD .skip
def qbI:List Nat:=[]
section
variable(v:waA)(i:Int)(v2:aa)(m:waA)
def Ix:az:=aW 26 [(0,sl ac v),(1,.int .i64 i),(5,.eptr (ac v2)),(6,.bptr 1 0)] [.dead,.cells [.int .i64 0,.str ([]:ag),.int .i64 0,sl ac m] [(3,36)]] []
def rQ(o:Bool):az:=aW 26 [(0,sl ac v),(1,.int .i64 i),(5,.eptr (ac v2)),(6,.bptr 1 0),(18,.bool o)] [.dead,.cells [.int .i64 0,.str ([]:ag),.int .i64 0,sl ac m] [(3,36)]] []
def wr:Option Bool:=
 if(decide (i>=(v.length:Int)))=true then
  some true
 else
  (cH v i).bind fun x2=>
  (iZ x2 (⟨0,([]:ag),0,([]:List aa)⟩:aa)).bind fun r3=>
  some r3
theorem GP{x:Bool}(h:wr v i=some x):
  aQ Pg GE 0 (cA qcw 12) (EX .normal (rQ v i v2 m x)) (Ix v i v2 m):=by
 rcases aX h with⟨c1,h⟩|⟨c1,h⟩
 ·obtain rfl:=lf h
  exact ct qbI (cw (cd.ln v)<|sg 5 c1<|eF .normal (rQ v i v2 m true)) (by kernel_rfl)
 ·obtain⟨x2,bx2,h⟩:=aA h
  obtain⟨r3,br3,h⟩:=aA h
  obtain rfl:=lf h
  exact ct qbI (cw (cd.ln v)<|sg 5 c1<|sv (cd.ia (k:=.i64) bx2)<|sv (aY x2)<|sb (tN) (tL)<|bP (oV br3)<|eF .normal (rQ v i v2 m r3)) (by kernel_rfl)
end
def uh(a:waA)(i:Int)(a2:aa):Option aa:=
 (wr a i).bind fun o4=>
 if o4=true then
  (E1 ([]:List aa)).bind fun r7=>
  some r7
 else
  (cH a i).bind fun x8=>
  (ub x8 ([118]:ag) a2).bind fun r9=>
  some r9
theorem CR{a:waA}{i:Int}{a2:aa}{r:aa}(h:uh a i a2=some r):CC Pg GE 80 [sl ac a,.int .i64 i,.agg (ac a2)] (.agg (ac r)) []:=by
 obtain⟨o4,bo4,h⟩:=aA h
 have p6:=fun{sc F} (r:PS sc F)=>se (cf a2)<|sx lM<|oe 1<|di (GP a i a2 ([]:List aa) bo4)<|r
 rcases aX h with⟨c5,h⟩|⟨c5,h⟩
 ·obtain⟨r7,br7,h⟩:=aA h
  obtain rfl:=lf h
  have z:=p6<|sg 0 c5<|bP (Qw br7)<|sx (dn r7)<|en (aI (e9 r7)<|(ah r7))
  exact ck qbI Tryz.call80 Tryz.func80 (c:=qcw) rfl (aI (aq ah a) (aI trivial (aI (ah a2) trivial))) z (by kernel_rfl)
 ·obtain⟨x8,bx8,h⟩:=aA h
  obtain⟨r9,br9,h⟩:=aA h
  obtain rfl:=lf h
  have z:=p6<|sg 0 c5<|ra [0,0,3,7,0,31,63]<|sv (cd.ia (k:=.i64) bx8)<|sv (aY x8)<|sv (aY a2)<|bP (CQ br9)<|Ym (dn r9)<|en (aI (e9 r9)<|(ah r9))
  exact ck qbI Tryz.call80 Tryz.func80 (c:=qcw) rfl (aI (aq ah a) (aI trivial (aI (ah a2) trivial))) z (by kernel_rfl)
def qbT:Code:=Tryz.f53.body.getD .skip
def qbH:List Nat:=[55,58]
section
variable(w:aM)(v:ae)(v2:ae)(name:ag)(t51:waF)(t52:Int)(m:waA)(m2:waD)(m3:ag)(m4:waB)(m5:waG)(v3:waD)(t53:Int)
def dR:az:=aW 82 [(4,.eptr (aL w)),(5,.eptr (af v)),(6,.eptr (af v2)),(8,.bptr 3 0),(9,.str name),(10,.bptr 4 0),(13,sl ax v3),(51,sl bA t51),(52,.int .i64 t52),(53,.int .i64 t53)] [.dead,.dead,.dead,.cells [.int .i64 0,.str ([]:ag),.str ([]:ag),.int .i64 0,.str ([]:ag),.int .i64 0,sl ac m,.int .i64 0,sl ax m2] [(6,36),(8,50)],.cells [.int .i64 3,.str name,.int .i64 0,sl ac m] [(3,36)],.cells [.str m3,sl cS m4,sl bA t51,sl eg m5] []] [((13,0),50)]
def ir(o:waD):az:=aW 82 [(8,.bptr 3 0),(13,sl ax o)] [.dead,.dead,.dead,.cells [.int .i64 0,.str ([]:ag),.str ([]:ag),.int .i64 0,.str ([]:ag),.int .i64 0,sl ac m,.int .i64 0,sl ax m2] [(6,36),(8,50)],.cells [.int .i64 3,.str name,.int .i64 0,sl ac m] [(3,36)],.cells [.str m3,sl cS m4,sl bA t51,sl eg m5] []] [((13,0),50)]
def dg:Option ((waD×Int)⊕(waD)):=
 if(decide (t53<t52))=true then
  (cH t51 t53).bind fun x11=>
  (uh v.Preds t53 (⟨3,name,0,m⟩:aa)).bind fun r12=>
  (uh v2.Preds t53 (⟨3,name,0,m⟩:aa)).bind fun r13=>
  (eD w name x11.Sort_ r12 r13).bind fun r14=>
  (app v3 ([r14]:List ak)).bind fun l15=>
  some (.inl (l15,aO (t53+1)))
 else
  some (.inr v3)
def jq:Option waD:=loop (fun(zz:waD×Int)=>dg w v v2 name t51 t52 m zz.1 zz.2) (v3,t53)
theorem ui{y:(waD×Int)⊕(waD)}(h:dg w v v2 name t51 t52 m v3 t53=some y):
  aQ Pg GE 0 (cA qbT 16215) (LQ (fun(zz:waD×Int)=>dR w v v2 name t51 t52 m m2 m3 m4 m5 zz.1 zz.2) (fun _=>.exit 0) (ir name t51 m m2 m3 m4 m5) y) (dR w v v2 name t51 t52 m m2 m3 m4 m5 v3 t53):=by
 rcases aX h with⟨c10,h⟩|⟨c10,h⟩
 ·obtain⟨x11,bx11,h⟩:=aA h
  obtain⟨r12,br12,h⟩:=aA h
  obtain⟨r13,br13,h⟩:=aA h
  obtain⟨r14,br14,h⟩:=aA h
  obtain⟨l15,bl15,h⟩:=aA h
  obtain rfl:=lf h
  have z:=sg 0 c10<|sv (GN.ia (k:=.i64) bx11)<|sv (XO x11)<|sx qbq<|sx (Wv x11)<|ra [0,0,0,0,8,0,32,0,0,480,0,1024,0,0,16352,32766,65534,131071,262143]<|sv (er w)<|ss<|sv (dN v)<|sv (dQ v)<|sv (ch (⟨3,name,0,m⟩:aa) [])<|bP (CR br12)<|sv (dN v2)<|sv (dQ v2)<|sv (ch (⟨3,name,0,m⟩:aa) [])<|bP (CR br13)<|bP (lR br14)<|sv (za.mk' (v:=vB) pU ([r14]:List ak) 1 (by kernel_rfl))<|sv (za.ap bl15)<|y4 0 .normal (dR w v v2 name t51 t52 m m2 m3 m4 m5 l15 (aO (t53+1))) rfl (eh (aI (oI (cF w)) (aI (oI (av v)) (aI (oI (av v2)) (aI (d7 rfl) (aI trivial (aI (d7 rfl) (aI (up (aq bJ l15)) (aI (up (aq lG t51)) (aI trivial (aI trivial trivial))))))))))) (aI trivial (aI trivial (aI trivial (aI (aI trivial (aI trivial (aI trivial (aI trivial (aI trivial (aI trivial (aI (up (aq ah m)) (aI trivial (aI (up (aq bJ m2)) trivial))))))))) (aI (aI trivial (aI trivial (aI trivial (aI (up (aq ah m)) trivial)))) (aI (aI trivial (aI (up (aq iu m4)) (aI (up (aq lG t51)) (aI (up (aq Er m5)) trivial)))) trivial))))))
  exact dV (A:=qbH) mixed z (by kernel_rfl)
 ·obtain rfl:=lf h
  have z:=sg 0 c10<|eF (.exit 0) (ir name t51 m m2 m3 m4 m5 v3)
  exact iW qbH (by intro hx;cases hx) z (by kernel_rfl)
theorem uw{x:waD}(h:jq w v v2 name t51 t52 m v3 t53=some x):
  aQ Pg GE 0 (.loop (cA qbT 16215)) (EX (.exit 0) (ir name t51 m m2 m3 m4 m5 x)) (dR w v v2 name t51 t52 m m2 m3 m4 m5 v3 t53):=
 aQ.loop (S:=fun(zz:waD×Int)=>dR w v v2 name t51 t52 m m2 m3 m4 m5 zz.1 zz.2) (ex:=(fun _=>.exit 0)) (s:=(v3,t53)) h fun zz y hy=>ui w v v2 name t51 t52 m m2 m3 m4 m5 zz.1 zz.2 hy
end
def iA(w:aM)(a:ae)(a2:ae)(used:waB):Option ak:=
 (kY used ([118,49]:ag)).bind fun r1=>
 (vA a).bind fun r2=>
 (BU r2).bind fun r3=>
 (qa a (⟨3,r1,0,([]:List aa)⟩:aa)).bind fun r4=>
 (qa a2 (⟨3,r1,0,([]:List aa)⟩:aa)).bind fun r5=>
 (eD w r1 r3.1 r4 r5).bind fun r6=>
 if(a.Op==4)=true then
  (vq w.m a.Name).bind fun r9=>
  (jq w a a2 r1 r9.1.Preds (r9.1.Preds.length:Int) ([]:List aa) ([r6]:List ak) 0).bind fun o16=>
  (oJ o16).bind fun r17=>
  some r17
 else
  (cH ([r6]:List ak) 0).bind fun x18=>
  some x18
theorem yy{w:aM}{a:ae}{a2:ae}{used:waB}{r:ak}(h:iA w a a2 used=some r):CC Pg GE 53 [.agg (aL w),.agg (af a),.agg (af a2),sl cS used] (.agg (ax r)) []:=by
 obtain⟨r1,br1,h⟩:=aA h
 obtain⟨r2,br2,h⟩:=aA h
 obtain⟨r3,br3,h⟩:=aA h
 obtain⟨r4,br4,h⟩:=aA h
 obtain⟨r5,br5,h⟩:=aA h
 obtain⟨r6,br6,h⟩:=aA h
 have p8:=fun{sc F} (r:PS sc F)=>se (g9 w)<|se (co a)<|se (co a2)<|sx y8<|bP (tV br1)<|sb (oG 3 r1) (oF 3 r1)<|sx lM<|sy (aE (⟨3,r1,0,([]:List aa)⟩:aa))<|sv (aZ a)<|bP (Bh br2)<|bP (KY br3)<|ra [0,0,0,0,0,24,0,0,248,511,1023,2047]<|sv (er w)<|sv (aZ a)<|sv (ch (⟨3,r1,0,([]:List aa)⟩:aa) [])<|bP (wq br4)<|sv (aZ a2)<|sv (ch (⟨3,r1,0,([]:List aa)⟩:aa) [])<|bP (wq br5)<|bP (lR br6)<|sv (za.mk' (v:=vB) pU ([r6]:List ak) 1 (by kernel_rfl))<|sv (aH a)<|sv (aJ a)<|r
 rcases aX h with⟨c7,h⟩|⟨c7,h⟩
 ·obtain⟨r9,br9,h⟩:=aA h
  obtain⟨o16,bo16,h⟩:=aA h
  obtain⟨r17,br17,h⟩:=aA h
  obtain rfl:=lf h
  have z:=p8<|sg 0 c7<|sv (wI w)<|sv (yf w)<|sv (df a)<|sv (dz a)<|bP (K0 br9)<|sx X8<|sx (Gu r9.1)<|ss<|cw (GN.ln r9.1.Preds)<|di (uw w a a2 r1 r9.1.Preds (r9.1.Preds.length:Int) ([]:List aa) ([]:List ak) r9.1.Name r9.1.Vars r9.1.Cons ([r6]:List ak) 0 bo16)<|bP (uV br17)<|sy (cz r17)<|en (aI (e8 r17)<|(bJ r17))
  exact ck qbH Tryz.call53 Tryz.func53 (c:=qbT) rfl (aI (cF w) (aI (av a) (aI (av a2) (aI (aq iu used) trivial)))) z (by kernel_rfl)
 ·obtain⟨x18,bx18,h⟩:=aA h
  obtain rfl:=lf h
  have z:=p8<|sg 0 c7<|sv (za.ia (k:=.i64) bx18)<|sv (qW x18)<|sx (dJ x18)<|en (aI (e8 x18)<|(bJ x18))
  exact ck qbH Tryz.call53 Tryz.func53 (c:=qbT) rfl (aI (cF w) (aI (av a) (aI (av a2) (aI (aq iu used) trivial)))) z (by kernel_rfl)
def qbP:Code:=Tryz.f35.body.getD .skip
def qbF:List Nat:=[]
def ib(R51:du)(w:aM)(a:ae)(a2:ae)(used:waB):Option ak:=
 if(a.Op==6)=true then
  if((a.Args.length:Int)==0)=true then
   some (⟨1,([]:ag),([]:ag),(⟨0,([]:ag),0,([]:List aa)⟩:aa),0,([]:List ak)⟩:ak)
  else
   (fH R51 w a a2 used).bind fun r5=>
   some r5
 else
  (jp a).bind fun r6=>
  if(!r6)=true then
   some (⟨1,([]:ag),([]:ag),(⟨0,([]:ag),0,([]:List aa)⟩:aa),0,([]:List ak)⟩:ak)
  else
   (iA w a a2 used).bind fun r9=>
   some r9
theorem yA(R51:du)(hR51:gU R51){w:aM}{a:ae}{a2:ae}{used:waB}{r:ak}(h:ib R51 w a a2 used=some r):CC Pg GE 35 [.agg (aL w),.agg (af a),.agg (af a2),sl cS used] (.agg (ax r)) []:=by
 have p2:=fun{sc F} (r:PS sc F)=>se (g9 w)<|se (co a)<|se (co a2)<|sx y8<|sv (er w)<|sv (aH a)<|sv (aJ a)<|r
 rcases aX h with⟨c1,h⟩|⟨c1,h⟩
 ·have p4:=fun{sc F} (r:PS sc F)=>p2<|sg 0 c1<|sv (aT a)<|sv (aU a)<|cw (cQ.ln a.Args)<|r
  rcases aX h with⟨c3,h⟩|⟨c3,h⟩
  ·obtain rfl:=lf h
   have z:=p4<|sg 0 c3<|sb (Dc 1) (Da 1)<|sy (cz (⟨1,([]:ag),([]:ag),(⟨0,([]:ag),0,([]:List aa)⟩:aa),0,([]:List ak)⟩:ak))<|en (aI (e8 (⟨1,([]:ag),([]:ag),(⟨0,([]:ag),0,([]:List aa)⟩:aa),0,([]:List ak)⟩:ak))<|(bJ (⟨1,([]:ag),([]:ag),(⟨0,([]:ag),0,([]:List aa)⟩:aa),0,([]:List ak)⟩:ak)))
   exact ck qbF Tryz.call35 Tryz.func35 (c:=qbP) rfl (aI (cF w) (aI (av a) (aI (av a2) (aI (aq iu used) trivial)))) z (by kernel_rfl)
  ·obtain⟨r5,br5,h⟩:=aA h
   obtain rfl:=lf h
   have z:=p4<|sg 0 c3<|sv (er w)<|sv (aZ a)<|sv (aZ a2)<|bP (uj R51 hR51 br5)<|sx (dJ r5)<|en (aI (e8 r5)<|(bJ r5))
   exact ck qbF Tryz.call35 Tryz.func35 (c:=qbP) rfl (aI (cF w) (aI (av a) (aI (av a2) (aI (aq iu used) trivial)))) z (by kernel_rfl)
 ·obtain⟨r6,br6,h⟩:=aA h
  have p8:=fun{sc F} (r:PS sc F)=>p2<|sg 0 c1<|sv (aZ a)<|bP (nm br6)<|r
  rcases aX h with⟨c7,h⟩|⟨c7,h⟩
  ·obtain rfl:=lf h
   have z:=p8<|sg 0 c7<|sb (Dc 1) (Da 1)<|sy (cz (⟨1,([]:ag),([]:ag),(⟨0,([]:ag),0,([]:List aa)⟩:aa),0,([]:List ak)⟩:ak))<|en (aI (e8 (⟨1,([]:ag),([]:ag),(⟨0,([]:ag),0,([]:List aa)⟩:aa),0,([]:List ak)⟩:ak))<|(bJ (⟨1,([]:ag),([]:ag),(⟨0,([]:ag),0,([]:List aa)⟩:aa),0,([]:List ak)⟩:ak)))
   exact ck qbF Tryz.call35 Tryz.func35 (c:=qbP) rfl (aI (cF w) (aI (av a) (aI (av a2) (aI (aq iu used) trivial)))) z (by kernel_rfl)
  ·obtain⟨r9,br9,h⟩:=aA h
   obtain rfl:=lf h
   have z:=p8<|sg 0 c7<|sv (aZ a)<|sv (aZ a2)<|bP (yy br9)<|sx (dJ r9)<|en (aI (e8 r9)<|(bJ r9))
   exact ck qbF Tryz.call35 Tryz.func35 (c:=qbP) rfl (aI (cF w) (aI (av a) (aI (av a2) (aI (aq iu used) trivial)))) z (by kernel_rfl)
def lm:((aM×ae×ae×waB)->Option ak)->(aM×ae×ae×waB)->Option ak:=fun(rec:(aM×ae×ae×waB)->Option ak) (x:aM×ae×ae×waB)=>ib (fun w a a2 used=>rec (w,a,a2,used)) x.1 x.2.1 x.2.2.1 x.2.2.2
def nI(w:aM)(a:ae)(a2:ae)(used:waB):Option ak:=oP lm (w,a,a2,used)
theorem zd{w:aM}{a:ae}{a2:ae}{used:waB}{r:ak}(h:nI w a a2 used=some r):CC Pg GE 35 [.agg (aL w),.agg (af a),.agg (af a2),sl cS used] (.agg (ax r)) []:=
 cR (F:=lm) (M:=fun(x:aM×ae×ae×waB) (r:ak)=>CC Pg GE 35 [.agg (aL x.1),.agg (af x.2.1),.agg (af x.2.2.1),sl cS x.2.2.2] (.agg (ax r)) []) (fun rec hrec x r h=>yA _ (fun w a a2 used r h=>hrec (w,a,a2,used) r h) h) h
def qc3:Code:=Tryz.f12.body.getD .skip
def qcX:List Nat:=[]
def ll(m:aR)(a:ae)(a2:ae)(tag:Int)(used:waB):Option (ak×Int):=
 (DT a a2).bind fun r1=>
 if(!r1)=true then
  some ((⟨0,([]:ag),([]:ag),(⟨0,([]:ag),0,([]:List aa)⟩:aa),0,([]:List ak)⟩:ak),12)
 else
  (nI (⟨m,tag⟩:aM) a a2 used).bind fun r4=>
  some (r4,0)
theorem pn{m:aR}{a:ae}{a2:ae}{tag:Int}{used:waB}{r:ak×Int}(h:ll m a a2 tag used=some r):CC Pg GE 12 [.agg (aC m),.agg (af a),.agg (af a2),.int .i64 tag,sl cS used] (.tuple [.agg (ax r.1),.int .i64 r.2]) []:=by
 obtain⟨r1,br1,h⟩:=aA h
 have p3:=fun{sc F} (r:PS sc F)=>se (tX m)<|se (co a)<|se (co a2)<|sx y8<|sv (aZ a)<|sv (aZ a2)<|bP (Mj br1)<|r
 rcases aX h with⟨c2,h⟩|⟨c2,h⟩
 ·obtain rfl:=lf h
  have z:=p3<|sg 0 c2<|sb (Ri) (Re)<|sy (cz (⟨0,([]:ag),([]:ag),(⟨0,([]:ag),0,([]:List aa)⟩:aa),0,([]:List ak)⟩:ak))<|en (aI (vbp PVal.tuple (G5 (e8 (⟨0,([]:ag),([]:ag),(⟨0,([]:ag),0,([]:List aa)⟩:aa),0,([]:List ak)⟩:ak)) (G5 (rP (.int .i64 12)) (rfl:([]:List PVal)=[]))))<|(aI (bJ (⟨0,([]:ag),([]:ag),(⟨0,([]:ag),0,([]:List aa)⟩:aa),0,([]:List ak)⟩:ak)) (aI trivial trivial)))
  exact ck qcX Tryz.call12 Tryz.func12 (c:=qc3) rfl (aI (ij m) (aI (av a) (aI (av a2) (aI trivial (aI (aq iu used) trivial))))) z (by kernel_rfl)
 ·obtain⟨r4,br4,h⟩:=aA h
  obtain rfl:=lf h
  have z:=p3<|sg 0 c2<|sv (Dt m)<|sv (yV m tag)<|sv (aZ a)<|sv (aZ a2)<|bP (zd br4)<|sx (dJ r4)<|en (aI (vbp PVal.tuple (G5 (e8 r4) (G5 (rP (.int .i64 0)) (rfl:([]:List PVal)=[]))))<|(aI (bJ r4) (aI trivial trivial)))
  exact ck qcX Tryz.call12 Tryz.func12 (c:=qc3) rfl (aI (ij m) (aI (av a) (aI (av a2) (aI trivial (aI (aq iu used) trivial))))) z (by kernel_rfl)
abbrev kf:=(ak->ay->waE->Option waE)
abbrev og(R:kf):Prop:=∀(c:ak) (above:ay) (a:waE) (r:waE),R c above a=some r->C Pg GE 41 [.agg (ax c),.agg (aD above),sl aD a] [((2,0),62)] [] (sl aD r) [(0,62)] []
abbrev xL:=(aa->Option waA)
abbrev Ns(R:xL):Prop:=∀(p:aa) (r:waA),R p=some r->CC Pg GE 63 [.agg (ac p)] (sl ac r) [(0,36)]
def qbU:Code:=Tryz.f63.body.getD .skip
def qav:List Nat:=[]
section
variable(p:aa)
def Ip:az:=aW 28 [(1,.eptr (ac p))] [.dead] []
def rG(o:Bool):az:=aW 28 [(1,.eptr (ac p)),(11,.bool o)] [.dead] []
def wk:Option Bool:=
 if(p.Op==15)=true then
  some ((p.Kids.length:Int)==2)
 else
  some false
theorem GA{x:Bool}(h:wk p=some x):
  aQ Pg GE 0 (cA qbU 12) (EX .normal (rG p x)) (Ip p):=by
 have p2:=fun{sc F} (r:PS sc F)=>sv (bq p)<|sv (bv p)<|r
 rcases aX h with⟨c1,h⟩|⟨c1,h⟩
 ·obtain rfl:=lf h
  exact ct qav (p2<|sg 4 c1<|sv (bu p)<|sv (bw p)<|cw (cd.ln p.Kids)<|eF .normal (rG p ((p.Kids.length:Int)==2))) (by kernel_rfl)
 ·obtain rfl:=lf h
  exact ct qav (p2<|sg 4 c1<|eF .normal (rG p false)) (by kernel_rfl)
end
def sO(R93:xL)(p:aa):Option waA:=
 (wk p).bind fun o3=>
 if o3=true then
  (cH p.Kids 0).bind fun x6=>
  (R93 x6).bind fun r7=>
  (cH p.Kids 1).bind fun x8=>
  (R93 x8).bind fun r9=>
  (app r7 r9).bind fun l10=>
  some l10
 else
  (wU p).bind fun r11=>
  if r11=true then
   some ([]:List aa)
  else
   (nX p).bind fun r14=>
   some ([r14]:List aa)
theorem KM(R93:xL)(hR93:Ns R93){p:aa}{r:waA}(h:sO R93 p=some r):CC Pg GE 63 [.agg (ac p)] (sl ac r) [(0,36)]:=by
 obtain⟨o3,bo3,h⟩:=aA h
 have p5:=fun{sc F} (r:PS sc F)=>se (cf p)<|oe 1<|di (GA p bo3)<|r
 rcases aX h with⟨c4,h⟩|⟨c4,h⟩
 ·obtain⟨x6,bx6,h⟩:=aA h
  obtain⟨r7,br7,h⟩:=aA h
  obtain⟨x8,bx8,h⟩:=aA h
  obtain⟨r9,br9,h⟩:=aA h
  obtain⟨l10,bl10,h⟩:=aA h
  obtain rfl:=lf h
  have z:=p5<|sg 0 c4<|ra [0,1,3,7,15,0,32,96,224,511,1023,2047]<|sv (bu p)<|sv (bw p)<|sv (cd.ia (k:=.i64) bx6)<|sv (aY x6)<|bP (hR93 _ _ br7)<|sv (bu p)<|sv (bw p)<|sv (cd.ia (k:=.i64) bx8)<|sv (aY x8)<|bP (hR93 _ _ br9)<|sv (cd.ap bl10)<|en (aI (rP (sl ac l10))<|(aq ah l10))
  exact ck qav Tryz.call63 Tryz.func63 (c:=qbU) rfl (aI (ah p) trivial) z (by kernel_rfl)
 ·obtain⟨r11,br11,h⟩:=aA h
  have p13:=fun{sc F} (r:PS sc F)=>p5<|sg 0 c4<|sv (aY p)<|bP (E6 br11)<|r
  rcases aX h with⟨c12,h⟩|⟨c12,h⟩
  ·obtain rfl:=lf h
   have z:=p13<|sg 0 c12<|en (aI (rP (sl ac ([]:List aa)))<|(aq ah ([]:List aa)))
   exact ck qav Tryz.call63 Tryz.func63 (c:=qbU) rfl (aI (ah p) trivial) z (by kernel_rfl)
  ·obtain⟨r14,br14,h⟩:=aA h
   obtain rfl:=lf h
   have z:=p13<|sg 0 c12<|sv (aY p)<|bP (oW br14)<|sv (cd.mk' (v:=ff) dl ([r14]:List aa) 1 (by kernel_rfl))<|en (aI (rP (sl ac ([r14]:List aa)))<|(aq ah ([r14]:List aa)))
   exact ck qav Tryz.call63 Tryz.func63 (c:=qbU) rfl (aI (ah p) trivial) z (by kernel_rfl)
def yl:(aa->Option waA)->(aa)->Option waA:=fun(rec:aa->Option waA) (x:aa)=>sO (fun p=>rec p) x
def yk(p:aa):Option waA:=oP yl p
theorem CP{p:aa}{r:waA}(h:yk p=some r):CC Pg GE 63 [.agg (ac p)] (sl ac r) [(0,36)]:=
 cR (F:=yl) (M:=fun(x:aa) (r:waA)=>CC Pg GE 63 [.agg (ac x)] (sl ac r) [(0,36)]) (fun rec hrec x r h=>KM _ (fun p r h=>hrec p r h) h) h
end Go.Proofs.YtbaamopmfmpfaaaGreatDoor
