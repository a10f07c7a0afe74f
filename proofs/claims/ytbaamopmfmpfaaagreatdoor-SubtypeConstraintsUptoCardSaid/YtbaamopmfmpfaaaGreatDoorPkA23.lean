/- PROVED: parts of the proof (G9). Conditions: none. -/
import Derived.Test.YtbaamopmfmpfaaaGreatDoorPkA22
noncomputable section
namespace Go.Proofs.YtbaamopmfmpfaaaGreatDoor
open Go
set_option linter.unusedVariables false
set_option maxRecDepth 100000
def qjl:Code:=Tryz.f79.body.getD .skip
def qhN:List Nat:=[]
section
variable(name:ag)(t9:(List d8))(t10:Int)(t11:Int)(m:ag)(m2:waA)(m3:waF)(m4:waG)
def j3:aA:=be 22 [(1,.str name),(4,.bptr 1 0),(9,sl cH t9),(10,.int .i64 t10),(11,.int .i64 t11)] [.dead,.cells [.str m,sl cS m2,sl bH m3,sl ec m4] [(1,9),(2,102),(3,73)]] []
def j4(o:(ag×waA×waF×waG)⊕(ag×waA×waF×waG)):Exit:=match o with
 |(.inl _)=>.ret
 |(.inr _)=>.exit 0
def hZ(o:(ag×waA×waF×waG)⊕(ag×waA×waF×waG)):aA:=match o with
 |(.inl o)=>be 22 [(4,.bptr 1 0),(5,.bool true)] [.dead,.cells [.str o.1,sl cS o.2.1,sl bH o.2.2.1,sl ec o.2.2.2] []] []
 |(.inr o)=>be 22 [(4,.bptr 1 0)] [.dead,.cells [.str o.1,sl cS o.2.1,sl bH o.2.2.1,sl ec o.2.2.2] [(1,9),(2,102),(3,73)]] []
def fN:Option ((Int×ag×waA×waF×waG)⊕((ag×waA×waF×waG)⊕(ag×waA×waF×waG))):=
 if(decide (t11<t10))=true then
  (cz t9 t11).bind fun x2=>
  if(x2.Name==name)=true then
   some (.inr (.inl (x2.Name,x2.Vars,x2.Preds,x2.Cons)))
  else
   some (.inl (aR (t11+1),m,m2,m3,m4))
 else
  some (.inr (.inr (m,m2,m3,m4)))
def yc:Option ((ag×waA×waF×waG)⊕(ag×waA×waF×waG)):=loop (fun(zz:Int×ag×waA×waF×waG)=>fN name t9 t10 zz.1 zz.2.1 zz.2.2.1 zz.2.2.2.1 zz.2.2.2.2) (t11,m,m2,m3,m4)
theorem II{y:(Int×ag×waA×waF×waG)⊕((ag×waA×waF×waG)⊕(ag×waA×waF×waG))}(h:fN name t9 t10 t11 m m2 m3 m4=some y):
  aU Pg GE 0 (cA qjl 55) (LQ (fun(zz:Int×ag×waA×waF×waG)=>j3 name t9 t10 zz.1 zz.2.1 zz.2.2.1 zz.2.2.2.1 zz.2.2.2.2) j4 hZ y) (j3 name t9 t10 t11 m m2 m3 m4):=by
 rcases bj h with⟨c1,h⟩|⟨c1,h⟩
 ·obtain⟨x2,bx2,h⟩:=ay h
  have p4:=fun{sc F} (r:PS sc F)=>sg 0 c1<|sv (Ky.ia (k:=.i64) bx2)<|sv (Xe x2)<|sx Zd<|sx (AP x2)<|ss<|r
  rcases bj h with⟨c3,h⟩|⟨c3,h⟩
  ·obtain rfl:=lf h
   have z:=p4<|sg 0 c3<|sv (qa9 x2 [])<|sx (AP x2)<|uz 0 (j4 (.inl (x2.Name,x2.Vars,x2.Preds,x2.Cons))) (hZ (.inl (x2.Name,x2.Vars,x2.Preds,x2.Cons))) rfl (dC (aI (cV rfl) (aI trivial trivial))) (aI trivial (aI (aI trivial (aI (up (aj dQ x2.Vars)) (aI (up (aj lT x2.Preds)) (aI (up (aj F1 x2.Cons)) trivial)))) trivial))
   exact Iq (A:=qhN) mixed (by intro hx;cases hx) z (by kernel_rfl)
  ·obtain rfl:=lf h
   have z:=p4<|sg 0 c3<|uz 0 .normal (j3 name t9 t10 (aR (t11+1)) m m2 m3 m4) rfl (dC (aI trivial (aI (cV rfl) (aI (up (aj ub t9)) (aI trivial (aI trivial trivial)))))) (aI trivial (aI (aI trivial (aI (up (aj dQ m2)) (aI (up (aj lT m3)) (aI (up (aj F1 m4)) trivial)))) trivial))
   exact df (A:=qhN) mixed z (by kernel_rfl)
 ·obtain rfl:=lf h
  have z:=sg 0 c1<|eF (j4 (.inr (m,m2,m3,m4))) (hZ (.inr (m,m2,m3,m4)))
  exact f6 qhN (by intro hx;cases hx) z (by kernel_rfl)
theorem ze{x:(ag×waA×waF×waG)⊕(ag×waA×waF×waG)}(h:yc name t9 t10 t11 m m2 m3 m4=some x):
  aU Pg GE 0 (.loop (cA qjl 55)) (EX (j4 x) (hZ x)) (j3 name t9 t10 t11 m m2 m3 m4):=
 aU.loop (S:=fun(zz:Int×ag×waA×waF×waG)=>j3 name t9 t10 zz.1 zz.2.1 zz.2.2.1 zz.2.2.2.1 zz.2.2.2.2) (ex:=j4) (s:=(t11,m,m2,m3,m4)) h fun zz y hy=>II name t9 t10 zz.1 zz.2.1 zz.2.2.1 zz.2.2.2.1 zz.2.2.2.2 hy
end
def zd(m:aH)(name:ag):Option (d8×Bool):=
 (yc name m.Datas (m.Datas.length:Int) 0 ([]:ag) ([]:List ag) ([]:List cG) ([]:List ee)).bind fun o5=>match o5 with
 |(.inl o5)=>
  some ((⟨o5.1,o5.2.1,o5.2.2.1,o5.2.2.2⟩:d8),true)
 |(.inr o5)=>
  some ((⟨([]:ag),([]:List ag),([]:List cG),([]:List ee)⟩:d8),false)
theorem Re{m:aH}{name:ag}{r:d8×Bool}(h:zd m name=some r):CC Pg GE 79 [.agg (aB m),.str name] (.tuple [.agg (cH r.1),.bool r.2]) []:=by
 obtain⟨o5,bo5,h⟩:=ay h
 rcases o5 with o5|o5
 ·obtain rfl:=lf h
  have z:=se (jm m)<|sx Zd<|sv (dh m)<|sv (di m)<|cm (Ky.ln m.Datas)<|cW (e:=.ret) (s1:=hZ (.inl o5)) (ze name m.Datas (m.Datas.length:Int) 0 ([]:ag) ([]:List ag) ([]:List cG) ([]:List ee) bo5)<|en (aI (va9 PVal.tuple (jv (Gj (⟨o5.1,o5.2.1,o5.2.2.1,o5.2.2.2⟩:d8)) (jv (rP (.bool true)) (rfl:([]:List PVal)=[]))))<|(aI (ub (⟨o5.1,o5.2.1,o5.2.2.1,o5.2.2.2⟩:d8)) (aI trivial trivial)))
  exact bN qhN Tryz.call79 Tryz.func79 (c:=qjl) rfl (aI (de m) (aI trivial trivial)) z (by kernel_rfl)
 ·obtain rfl:=lf h
  have z:=se (jm m)<|sx Zd<|sv (dh m)<|sv (di m)<|cm (Ky.ln m.Datas)<|cW (e:=.exit 0) (s1:=hZ (.inr o5)) (ze name m.Datas (m.Datas.length:Int) 0 ([]:ag) ([]:List ag) ([]:List cG) ([]:List ee) bo5)<|sb (PK) (PH)<|sy (ui (⟨([]:ag),([]:List ag),([]:List cG),([]:List ee)⟩:d8))<|en (aI (va9 PVal.tuple (jv (Gj (⟨([]:ag),([]:List ag),([]:List cG),([]:List ee)⟩:d8)) (jv (rP (.bool false)) (rfl:([]:List PVal)=[]))))<|(aI (ub (⟨([]:ag),([]:List ag),([]:List cG),([]:List ee)⟩:d8)) (aI trivial trivial)))
  exact bN qhN Tryz.call79 Tryz.func79 (c:=qjl) rfl (aI (de m) (aI trivial trivial)) z (by kernel_rfl)
def qh1:Code:=Tryz.f108.body.getD .skip
def qhB:List Nat:=[]
def gX(is:Bool):Option aa:=
 if is=true then
  some (⟨2,([]:ag),1,([]:List aa)⟩:aa)
 else
  some (⟨2,([]:ag),0,([]:List aa)⟩:aa)
theorem j0{is:Bool}{r:aa}(h:gX is=some r):CC Pg GE 108 [.bool is] (.agg (ac r)) [(3,36)]:=by
 rcases bj h with⟨c1,h⟩|⟨c1,h⟩
 ·obtain rfl:=lf h
  have z:=sx hO<|sg 0 c1<|sb (ri 2 1) (rh 2 1)<|sy (aJ (⟨2,([]:ag),1,([]:List aa)⟩:aa))<|en (aI (dj (⟨2,([]:ag),1,([]:List aa)⟩:aa))<|aI (ah (⟨2,([]:ag),1,([]:List aa)⟩:aa))<|rT)
  exact bN qhB Tryz.call108 Tryz.func108 (c:=qh1) rfl (aI trivial trivial) z (by kernel_rfl)
 ·obtain rfl:=lf h
  have z:=sx hO<|sg 0 c1<|sb (PL 2) (PI 2)<|sy (aJ (⟨2,([]:ag),0,([]:List aa)⟩:aa))<|en (aI (dj (⟨2,([]:ag),0,([]:List aa)⟩:aa))<|aI (ah (⟨2,([]:ag),0,([]:List aa)⟩:aa))<|rT)
  exact bN qhB Tryz.call108 Tryz.func108 (c:=qh1) rfl (aI trivial trivial) z (by kernel_rfl)
def qkO:Code:=Tryz.f90.body.getD .skip
def qkF:List Nat:=[]
def AU(p:aa):Option Bool:=
 (jZ p (⟨0,([]:ag),0,([]:List aa)⟩:aa)).bind fun r1=>
 if r1=true then
  some true
 else
  (gX true).bind fun r4=>
  (jZ p r4).bind fun r5=>
  some r5
theorem Kr{p:aa}{r:Bool}(h:AU p=some r):CC Pg GE 90 [.agg (ac p)] (.bool r) []:=by
 obtain⟨r1,br1,h⟩:=ay h
 have p3:=fun{sc F} (r:PS sc F)=>se (bS p)<|lY [0,0,3,7,15,15,63,127,255]<|sv (bh p)<|sb (sP) (sO)<|bz (rC br1)<|r
 rcases bj h with⟨c2,h⟩|⟨c2,h⟩
 ·obtain rfl:=lf h
  have z:=p3<|sg 4 c2<|en (aI (rP (.bool true))<|trivial)
  exact bN qkF Tryz.call90 Tryz.func90 (c:=qkO) rfl (aI (ah p) trivial) z (by kernel_rfl)
 ·obtain⟨r4,br4,h⟩:=ay h
  obtain⟨r5,br5,h⟩:=ay h
  obtain rfl:=lf h
  have z:=p3<|sg 4 c2<|sv (bh p)<|bz (j0 br4)<|bz (rC br5)<|en (aI (rP (.bool r5))<|trivial)
  exact bN qkF Tryz.call90 Tryz.func90 (c:=qkO) rfl (aI (ah p) trivial) z (by kernel_rfl)
def qjq:Code:=Tryz.f97.body.getD .skip
def qgh:List Nat:=[25]
section
variable(t8:waB)(t9:Int)(v:Bool)(t10:Int)(m:Int)(m2:ag)(m3:Int)(m4:waB)(m5:Int)(m6:ag)(m7:Int)(m8:waB)
def jo:aA:=be 33 [(2,.bptr 0 0),(3,.bptr 1 0),(4,.bool v),(8,sl ac t8),(9,.int .i64 t9),(10,.int .i64 t10)] [.cells [.int .i64 m,.str m2,.int .i64 m3,sl ac m4] [(3,36)],.cells [.int .i64 m5,.str m6,.int .i64 m7,sl ac m8] []] []
def po(o:(Int×ag×Int×waB×Int×ag×Int×waB)⊕(Int×ag×Int×waB×Int×ag×Int×waB)):Exit:=match o with
 |(.inl _)=>.ret
 |(.inr _)=>.exit 0
def lG(o:(Int×ag×Int×waB×Int×ag×Int×waB)⊕(Int×ag×Int×waB×Int×ag×Int×waB)):aA:=match o with
 |(.inl o)=>be 33 [(2,.bptr 0 0)] [.cells [.int .i64 o.1,.str o.2.1,.int .i64 o.2.2.1,sl ac o.2.2.2.1] [(3,36)],.cells [.int .i64 o.2.2.2.2.1,.str o.2.2.2.2.2.1,.int .i64 o.2.2.2.2.2.2.1,sl ac o.2.2.2.2.2.2.2] []] []
 |(.inr o)=>be 33 [(2,.bptr 0 0),(3,.bptr 1 0)] [.cells [.int .i64 o.1,.str o.2.1,.int .i64 o.2.2.1,sl ac o.2.2.2.1] [(3,36)],.cells [.int .i64 o.2.2.2.2.1,.str o.2.2.2.2.2.1,.int .i64 o.2.2.2.2.2.2.1,sl ac o.2.2.2.2.2.2.2] []] []
def gW:Option ((Bool×Int×Int×ag×Int×waB×Int×ag×Int×waB)⊕((Int×ag×Int×waB×Int×ag×Int×waB)⊕(Int×ag×Int×waB×Int×ag×Int×waB))):=
 if (decide (t10 < t9)) = true then
  (cz t8 t10).bind fun x3=>
  (AU x3).bind fun r4=>
  if r4=true then
   some (.inl (v,aR (t10+1),m,m2,m3,m4,m5,m6,m7,m8))
  else
   (gX false).bind fun r7=>
   (jZ x3 r7).bind fun r8=>
   if r8=true then
    (gX false).bind fun r11=>
    some (.inr (.inl (r11.Op,r11.Name,r11.N,r11.Kids,m5,m6,m7,m8)))
   else
    if v=true then
     (qp x3).bind fun r14=>
     some (.inl (v,aR (t10+1),m,m2,m3,m4,15,([]:ag),0,([(⟨m5,m6,m7,m8⟩:aa),r14]:List aa)))
    else
     (qp x3).bind fun r15=>
     some (.inl (true,aR (t10+1),m,m2,m3,m4,r15.Op,r15.Name,r15.N,r15.Kids))
 else
  some (.inr (.inr (m,m2,m3,m4,m5,m6,m7,m8)))
def Fg:Option ((Int×ag×Int×waB×Int×ag×Int×waB)⊕(Int×ag×Int×waB×Int×ag×Int×waB)):=loop (fun(zz:Bool×Int×Int×ag×Int×waB×Int×ag×Int×waB)=>gW t8 t9 zz.1 zz.2.1 zz.2.2.1 zz.2.2.2.1 zz.2.2.2.2.1 zz.2.2.2.2.2.1 zz.2.2.2.2.2.2.1 zz.2.2.2.2.2.2.2.1 zz.2.2.2.2.2.2.2.2.1 zz.2.2.2.2.2.2.2.2.2) (v,t10,m,m2,m3,m4,m5,m6,m7,m8)
theorem NV{y:(Bool×Int×Int×ag×Int×waB×Int×ag×Int×waB)⊕((Int×ag×Int×waB×Int×ag×Int×waB)⊕(Int×ag×Int×waB×Int×ag×Int×waB))}(h:gW t8 t9 v t10 m m2 m3 m4 m5 m6 m7 m8=some y):
  aU Pg GE 0 (cA qjq 119) (LQ (fun(zz:Bool×Int×Int×ag×Int×waB×Int×ag×Int×waB)=>jo t8 t9 zz.1 zz.2.1 zz.2.2.1 zz.2.2.2.1 zz.2.2.2.2.1 zz.2.2.2.2.2.1 zz.2.2.2.2.2.2.1 zz.2.2.2.2.2.2.2.1 zz.2.2.2.2.2.2.2.2.1 zz.2.2.2.2.2.2.2.2.2) po lG y) (jo t8 t9 v t10 m m2 m3 m4 m5 m6 m7 m8):=by
 rcases bj h with⟨c2,h⟩|⟨c2,h⟩
 ·obtain⟨x3,bx3,h⟩:=ay h
  obtain⟨r4,br4,h⟩:=ay h
  have p6:=fun{sc F} (r:PS sc F)=>sg 0 c2<|sv (bL.ia (k:=.i64) bx3)<|sv (bh x3)<|sx hO<|sx (cj x3)<|sv (bT x3 [])<|bz (Kr br4)<|r
  rcases bj h with⟨c5,h⟩|⟨c5,h⟩
  ·obtain rfl:=lf h
   have z:=p6<|sg 0 c5<|uz 0 .normal (jo t8 t9 v (aR (t10+1)) m m2 m3 m4 m5 m6 m7 m8) rfl (dC (aI (cV rfl) (aI (cV rfl) (aI trivial (aI (up (aj ah t8)) (aI trivial (aI trivial trivial))))))) (aI (aI trivial (aI trivial (aI trivial (aI (up (aj ah m4)) trivial)))) (aI (aI trivial (aI trivial (aI trivial (aI (up (aj ah m8)) trivial)))) trivial))
   exact df (A:=qgh) mixed z (by kernel_rfl)
  ·obtain⟨r7,br7,h⟩:=ay h
   obtain⟨r8,br8,h⟩:=ay h
   have p10:=fun{sc F} (r:PS sc F)=>p6<|sg 0 c5<|lY [0,0,3,7]<|sv (bT x3 [])<|bz (j0 br7)<|bz (rC br8)<|r
   rcases bj h with⟨c9,h⟩|⟨c9,h⟩
   ·obtain⟨r11,br11,h⟩:=ay h
    obtain rfl:=lf h
    have z:=p10<|sg 0 c9<|bz (j0 br11)<|sy (aJ r11)<|uz 0 (po (.inl (r11.Op,r11.Name,r11.N,r11.Kids,m5,m6,m7,m8))) (lG (.inl (r11.Op,r11.Name,r11.N,r11.Kids,m5,m6,m7,m8))) rfl (dC (aI (cV rfl) trivial)) (aI (aI trivial (aI trivial (aI trivial (aI (up (aj ah r11.Kids)) trivial)))) (aI (aI trivial (aI trivial (aI trivial (aI (up (aj ah m8)) trivial)))) trivial))
    exact Iq (A:=qgh) mixed (by intro hx;cases hx) z (by kernel_rfl)
   ·have p13:=fun{sc F} (r:PS sc F)=>p10<|sg 0 c9<|r
    rcases bj h with⟨c12,h⟩|⟨c12,h⟩
    ·obtain⟨r14,br14,h⟩:=ay h
     obtain rfl:=lf h
     have z:=p13<|sg 0 c12<|lY [0,0,2,7,15,31]<|sv (bT (⟨m5,m6,m7,m8⟩:aa) [])<|sv (bT x3 [])<|bz (rD br14)<|sv (bL.mk' (v:=dW) cK ([(⟨m5,m6,m7,m8⟩:aa),r14]:List aa) 2 (by kernel_rfl))<|sv (JG 15 ([(⟨m5,m6,m7,m8⟩:aa),r14]:List aa))<|sx (cj (⟨15,([]:ag),0,([(⟨m5,m6,m7,m8⟩:aa),r14]:List aa)⟩:aa))<|uz 0 .normal (jo t8 t9 v (aR (t10+1)) m m2 m3 m4 15 ([]:ag) 0 ([(⟨m5,m6,m7,m8⟩:aa),r14]:List aa)) rfl (dC (aI (cV rfl) (aI (cV rfl) (aI trivial (aI (up (aj ah t8)) (aI trivial (aI trivial trivial))))))) (aI (aI trivial (aI trivial (aI trivial (aI (up (aj ah m4)) trivial)))) (aI (aI trivial (aI trivial (aI trivial (aI (up (aj ah ([(⟨m5,m6,m7,m8⟩:aa),r14]:List aa))) trivial)))) trivial))
     exact df (A:=qgh) mixed z (by kernel_rfl)
    ·obtain⟨r15,br15,h⟩:=ay h
     obtain rfl:=lf h
     have z:=p13<|sg 0 c12<|sv (bT x3 [])<|bz (rD br15)<|sy (aJ r15)<|uz 0 .normal (jo t8 t9 true (aR (t10+1)) m m2 m3 m4 r15.Op r15.Name r15.N r15.Kids) rfl (dC (aI (cV rfl) (aI (cV rfl) (aI trivial (aI (up (aj ah t8)) (aI trivial (aI trivial trivial))))))) (aI (aI trivial (aI trivial (aI trivial (aI (up (aj ah m4)) trivial)))) (aI (aI trivial (aI trivial (aI trivial (aI (up (aj ah r15.Kids)) trivial)))) trivial))
     exact df (A:=qgh) mixed z (by kernel_rfl)
 ·obtain rfl:=lf h
  have z:=sg 0 c2<|eF (po (.inr (m,m2,m3,m4,m5,m6,m7,m8))) (lG (.inr (m,m2,m3,m4,m5,m6,m7,m8)))
  exact f6 qgh (by intro hx;cases hx) z (by kernel_rfl)
theorem Fh{x:(Int×ag×Int×waB×Int×ag×Int×waB)⊕(Int×ag×Int×waB×Int×ag×Int×waB)}(h:Fg t8 t9 v t10 m m2 m3 m4 m5 m6 m7 m8=some x):
  aU Pg GE 0 (.loop (cA qjq 119)) (EX (po x) (lG x)) (jo t8 t9 v t10 m m2 m3 m4 m5 m6 m7 m8):=
 aU.loop (S:=fun(zz:Bool×Int×Int×ag×Int×waB×Int×ag×Int×waB)=>jo t8 t9 zz.1 zz.2.1 zz.2.2.1 zz.2.2.2.1 zz.2.2.2.2.1 zz.2.2.2.2.2.1 zz.2.2.2.2.2.2.1 zz.2.2.2.2.2.2.2.1 zz.2.2.2.2.2.2.2.2.1 zz.2.2.2.2.2.2.2.2.2) (ex:=po) (s:=(v,t10,m,m2,m3,m4,m5,m6,m7,m8)) h fun zz y hy=>NV t8 t9 zz.1 zz.2.1 zz.2.2.1 zz.2.2.2.1 zz.2.2.2.2.1 zz.2.2.2.2.2.1 zz.2.2.2.2.2.2.1 zz.2.2.2.2.2.2.2.1 zz.2.2.2.2.2.2.2.2.1 zz.2.2.2.2.2.2.2.2.2 hy
end
def Kk(a:waB):Option aa:=
 (gX true).bind fun r1=>
 (Fg a (a.length:Int) false 0 0 ([]:ag) 0 ([]:List aa) r1.Op r1.Name r1.N r1.Kids).bind fun o16=>match o16 with
 |(.inl o16)=>
  some (⟨o16.1,o16.2.1,o16.2.2.1,o16.2.2.2.1⟩:aa)
 |(.inr o16)=>
  some (⟨o16.2.2.2.2.1,o16.2.2.2.2.2.1,o16.2.2.2.2.2.2.1,o16.2.2.2.2.2.2.2⟩:aa)
theorem XE{a:waB}{r:aa}(h:Kk a=some r):CC Pg GE 97 [sl ac a] (.agg (ac r)) []:=by
 obtain⟨r1,br1,h⟩:=ay h
 obtain⟨o16,bo16,h⟩:=ay h
 rcases o16 with o16|o16
 ·obtain rfl:=lf h
  have z:=sx hO<|bz (j0 br1)<|sx hO<|sy (aJ r1)<|cm (bL.ln a)<|cW (e:=.ret) (s1:=lG (.inl o16)) (Fh a (a.length:Int) false 0 0 ([]:ag) 0 ([]:List aa) r1.Op r1.Name r1.N r1.Kids bo16)<|en (aI (dj (⟨o16.1,o16.2.1,o16.2.2.1,o16.2.2.2.1⟩:aa))<|(ah (⟨o16.1,o16.2.1,o16.2.2.1,o16.2.2.2.1⟩:aa)))
  exact bN qgh Tryz.call97 Tryz.func97 (c:=qjq) rfl (aI (aj ah a) trivial) z (by kernel_rfl)
 ·obtain rfl:=lf h
  have z:=sx hO<|bz (j0 br1)<|sx hO<|sy (aJ r1)<|cm (bL.ln a)<|cW (e:=.exit 0) (s1:=lG (.inr o16)) (Fh a (a.length:Int) false 0 0 ([]:ag) 0 ([]:List aa) r1.Op r1.Name r1.N r1.Kids bo16)<|sv (bT (⟨o16.2.2.2.2.1,o16.2.2.2.2.2.1,o16.2.2.2.2.2.2.1,o16.2.2.2.2.2.2.2⟩:aa) [])<|sx (cj (⟨o16.2.2.2.2.1,o16.2.2.2.2.2.1,o16.2.2.2.2.2.2.1,o16.2.2.2.2.2.2.2⟩:aa))<|en (aI (dj (⟨o16.2.2.2.2.1,o16.2.2.2.2.2.1,o16.2.2.2.2.2.2.1,o16.2.2.2.2.2.2.2⟩:aa))<|(ah (⟨o16.2.2.2.2.1,o16.2.2.2.2.2.1,o16.2.2.2.2.2.2.1,o16.2.2.2.2.2.2.2⟩:aa)))
  exact bN qgh Tryz.call97 Tryz.func97 (c:=qjq) rfl (aI (aj ah a) trivial) z (by kernel_rfl)
def qj5:Code:=Tryz.f80.body.getD .skip
def qi4:List Nat:=[]
section
variable(v:waB)(i:Int)(v2:aa)(m:waB)
def N5:aA:=be 26 [(0,sl ac v),(1,.int .i64 i),(5,.eptr (ac v2)),(6,.bptr 1 0)] [.dead,.cells [.int .i64 0,.str ([]:ag),.int .i64 0,sl ac m] [(3,36)]] []
def vb(o:Bool):aA:=be 26 [(0,sl ac v),(1,.int .i64 i),(5,.eptr (ac v2)),(6,.bptr 1 0),(18,.bool o)] [.dead,.cells [.int .i64 0,.str ([]:ag),.int .i64 0,sl ac m] [(3,36)]] []
def Ag:Option Bool:=
 if(decide (i>=(v.length:Int)))=true then
  some true
 else
  (cz v i).bind fun x2=>
  (jZ x2 (⟨0,([]:ag),0,([]:List aa)⟩:aa)).bind fun r3=>
  some r3
theorem L6{x:Bool}(h:Ag v i=some x):
  aU Pg GE 0 (cA qj5 12) (EX .normal (vb v i v2 m x)) (N5 v i v2 m):=by
 rcases bj h with⟨c1,h⟩|⟨c1,h⟩
 ·obtain rfl:=lf h
  exact cd qi4 (cm (bL.ln v)<|sg 5 c1<|eF .normal (vb v i v2 m true)) (by kernel_rfl)
 ·obtain⟨x2,bx2,h⟩:=ay h
  obtain⟨r3,br3,h⟩:=ay h
  obtain rfl:=lf h
  exact cd qi4 (cm (bL.ln v)<|sg 5 c1<|sv (bL.ia (k:=.i64) bx2)<|sv (bh x2)<|sb (sP) (sO)<|bz (rC br3)<|eF .normal (vb v i v2 m r3)) (by kernel_rfl)
end
def xZ(a:waB)(i:Int)(a2:aa):Option aa:=
 (Ag a i).bind fun o4=>
 if o4=true then
  (Kk ([]:List aa)).bind fun r7=>
  some r7
 else
  (cz a i).bind fun x8=>
  (xT x8 ([118]:ag) a2).bind fun r9=>
  some r9
theorem Hm{a:waB}{i:Int}{a2:aa}{r:aa}(h:xZ a i a2=some r):CC Pg GE 80 [sl ac a,.int .i64 i,.agg (ac a2)] (.agg (ac r)) []:=by
 obtain⟨o4,bo4,h⟩:=ay h
 have p6:=fun{sc F} (r:PS sc F)=>se (bS a2)<|sx hO<|kr 1<|cW (L6 a i a2 ([]:List aa) bo4)<|r
 rcases bj h with⟨c5,h⟩|⟨c5,h⟩
 ·obtain⟨r7,br7,h⟩:=ay h
  obtain rfl:=lf h
  have z:=p6<|sg 0 c5<|bz (XE br7)<|sx (cj r7)<|en (aI (dj r7)<|(ah r7))
  exact bN qi4 Tryz.call80 Tryz.func80 (c:=qj5) rfl (aI (aj ah a) (aI trivial (aI (ah a2) trivial))) z (by kernel_rfl)
 ·obtain⟨x8,bx8,h⟩:=ay h
  obtain⟨r9,br9,h⟩:=ay h
  obtain rfl:=lf h
  have z:=p6<|sg 0 c5<|lY [0,0,3,7,0,31,63]<|sv (bL.ia (k:=.i64) bx8)<|sv (bh x8)<|sv (bh a2)<|bz (Hl br9)<|qb2 (cj r9)<|en (aI (dj r9)<|(ah r9))
  exact bN qi4 Tryz.call80 Tryz.func80 (c:=qj5) rfl (aI (aj ah a) (aI trivial (aI (ah a2) trivial))) z (by kernel_rfl)
def qjh:Code:=Tryz.f53.body.getD .skip
def qi2:List Nat:=[55,58]
section
variable(w:aY)(v:ae)(v2:ae)(name:ag)(t51:waF)(t52:Int)(m:waB)(m2:waD)(m3:ag)(m4:waA)(m5:waG)(v3:waD)(t53:Int)
def eC:aA:=be 82 [(4,.eptr (aW w)),(5,.eptr (af v)),(6,.eptr (af v2)),(8,.bptr 3 0),(9,.str name),(10,.bptr 4 0),(13,sl aw v3),(51,sl bH t51),(52,.int .i64 t52),(53,.int .i64 t53)] [.dead,.dead,.dead,.cells [.int .i64 0,.str ([]:ag),.str ([]:ag),.int .i64 0,.str ([]:ag),.int .i64 0,sl ac m,.int .i64 0,sl aw m2] [(6,36),(8,50)],.cells [.int .i64 3,.str name,.int .i64 0,sl ac m] [(3,36)],.cells [.str m3,sl cS m4,sl bH t51,sl ec m5] []] [((13,0),50)]
def jr(o:waD):aA:=be 82 [(8,.bptr 3 0),(13,sl aw o)] [.dead,.dead,.dead,.cells [.int .i64 0,.str ([]:ag),.str ([]:ag),.int .i64 0,.str ([]:ag),.int .i64 0,sl ac m,.int .i64 0,sl aw m2] [(6,36),(8,50)],.cells [.int .i64 3,.str name,.int .i64 0,sl ac m] [(3,36)],.cells [.str m3,sl cS m4,sl bH t51,sl ec m5] []] [((13,0),50)]
def dS:Option ((waD×Int)⊕(waD)):=
 if(decide (t53<t52))=true then
  (cz t51 t53).bind fun x11=>
  (xZ v.Preds t53 (⟨3,name,0,m⟩:aa)).bind fun r12=>
  (xZ v2.Preds t53 (⟨3,name,0,m⟩:aa)).bind fun r13=>
  (fh w name x11.Sort_ r12 r13).bind fun r14=>
  (app v3 ([r14]:List ai)).bind fun l15=>
  some (.inl (l15,aR (t53+1)))
 else
  some (.inr v3)
def kw:Option waD:=loop (fun(zz:waD×Int)=>dS w v v2 name t51 t52 m zz.1 zz.2) (v3,t53)
theorem ya{y:(waD×Int)⊕(waD)}(h:dS w v v2 name t51 t52 m v3 t53=some y):
  aU Pg GE 0 (cA qjh 16215) (LQ (fun(zz:waD×Int)=>eC w v v2 name t51 t52 m m2 m3 m4 m5 zz.1 zz.2) (fun _=>.exit 0) (jr name t51 m m2 m3 m4 m5) y) (eC w v v2 name t51 t52 m m2 m3 m4 m5 v3 t53):=by
 rcases bj h with⟨c10,h⟩|⟨c10,h⟩
 ·obtain⟨x11,bx11,h⟩:=ay h
  obtain⟨r12,br12,h⟩:=ay h
  obtain⟨r13,br13,h⟩:=ay h
  obtain⟨r14,br14,h⟩:=ay h
  obtain⟨l15,bl15,h⟩:=ay h
  obtain rfl:=lf h
  have z:=sg 0 c10<|sv (IG.ia (k:=.i64) bx11)<|sv (qeZ x11)<|sx qiI<|sx (qds x11)<|lY [0,0,0,0,8,0,32,0,0,480,0,1024,0,0,16352,32766,65534,131071,262143]<|sv (e9 w)<|ss<|sv (dq v)<|sv (dt v)<|sv (bT (⟨3,name,0,m⟩:aa) [])<|bz (Hm br12)<|sv (dq v2)<|sv (dt v2)<|sv (bT (⟨3,name,0,m⟩:aa) [])<|bz (Hm br13)<|bz (nI br14)<|sv (mX.mk' (v:=lZ) g9 ([r14]:List ai) 1 (by kernel_rfl))<|sv (mX.ap bl15)<|uz 0 .normal (eC w v v2 name t51 t52 m m2 m3 m4 m5 l15 (aR (t53+1))) rfl (dC (aI (ij (dn w)) (aI (ij (ak v)) (aI (ij (ak v2)) (aI (cV rfl) (aI trivial (aI (cV rfl) (aI (up (aj ba l15)) (aI (up (aj lT t51)) (aI trivial (aI trivial trivial))))))))))) (aI trivial (aI trivial (aI trivial (aI (aI trivial (aI trivial (aI trivial (aI trivial (aI trivial (aI trivial (aI (up (aj ah m)) (aI trivial (aI (up (aj ba m2)) trivial))))))))) (aI (aI trivial (aI trivial (aI trivial (aI (up (aj ah m)) trivial)))) (aI (aI trivial (aI (up (aj dQ m4)) (aI (up (aj lT t51)) (aI (up (aj F1 m5)) trivial)))) trivial))))))
  exact df (A:=qi2) mixed z (by kernel_rfl)
 ·obtain rfl:=lf h
  have z:=sg 0 c10<|eF (.exit 0) (jr name t51 m m2 m3 m4 m5 v3)
  exact f6 qi2 (by intro hx;cases hx) z (by kernel_rfl)
theorem yl{x:waD}(h:kw w v v2 name t51 t52 m v3 t53=some x):
  aU Pg GE 0 (.loop (cA qjh 16215)) (EX (.exit 0) (jr name t51 m m2 m3 m4 m5 x)) (eC w v v2 name t51 t52 m m2 m3 m4 m5 v3 t53):=
 aU.loop (S:=fun(zz:waD×Int)=>eC w v v2 name t51 t52 m m2 m3 m4 m5 zz.1 zz.2) (ex:=(fun _=>.exit 0)) (s:=(v3,t53)) h fun zz y hy=>ya w v v2 name t51 t52 m m2 m3 m4 m5 zz.1 zz.2 hy
end
def jA(w:aY)(a:ae)(a2:ae)(used:waA):Option ai:=
 (mR used ([118,49]:ag)).bind fun r1=>
 (zf a).bind fun r2=>
 (Gm r2).bind fun r3=>
 (te a (⟨3,r1,0,([]:List aa)⟩:aa)).bind fun r4=>
 (te a2 (⟨3,r1,0,([]:List aa)⟩:aa)).bind fun r5=>
 (fh w r1 r3.1 r4 r5).bind fun r6=>
 if(a.Op==4)=true then
  (zd w.m a.Name).bind fun r9=>
  (kw w a a2 r1 r9.1.Preds (r9.1.Preds.length:Int) ([]:List aa) ([r6]:List ai) 0).bind fun o16=>
  (rl o16).bind fun r17=>
  some r17
 else
  (cz ([r6]:List ai) 0).bind fun x18=>
  some x18
theorem CN{w:aY}{a:ae}{a2:ae}{used:waA}{r:ai}(h:jA w a a2 used=some r):CC Pg GE 53 [.agg (aW w),.agg (af a),.agg (af a2),sl cS used] (.agg (aw r)) []:=by
 obtain⟨r1,br1,h⟩:=ay h
 obtain⟨r2,br2,h⟩:=ay h
 obtain⟨r3,br3,h⟩:=ay h
 obtain⟨r4,br4,h⟩:=ay h
 obtain⟨r5,br5,h⟩:=ay h
 obtain⟨r6,br6,h⟩:=ay h
 have p8:=fun{sc F} (r:PS sc F)=>se (i6 w)<|se (bD a)<|se (bD a2)<|sx td<|bz (xM br1)<|sb (kj 3 r1) (kh 3 r1)<|sx hO<|sy (aJ (⟨3,r1,0,([]:List aa)⟩:aa))<|sv (aV a)<|bz (Fx br2)<|bz (Rd br3)<|lY [0,0,0,0,0,24,0,0,248,511,1023,2047]<|sv (e9 w)<|sv (aV a)<|sv (bT (⟨3,r1,0,([]:List aa)⟩:aa) [])<|bz (Af br4)<|sv (aV a2)<|sv (bT (⟨3,r1,0,([]:List aa)⟩:aa) [])<|bz (Af br5)<|bz (nI br6)<|sv (mX.mk' (v:=lZ) g9 ([r6]:List ai) 1 (by kernel_rfl))<|sv (aC a)<|sv (aD a)<|r
 rcases bj h with⟨c7,h⟩|⟨c7,h⟩
 ·obtain⟨r9,br9,h⟩:=ay h
  obtain⟨o16,bo16,h⟩:=ay h
  obtain⟨r17,br17,h⟩:=ay h
  obtain rfl:=lf h
  have z:=p8<|sg 0 c7<|sv (AG w)<|sv (Ct w)<|sv (cq a)<|sv (cP a)<|bz (Re br9)<|sx Zd<|sx (AP r9.1)<|ss<|cm (IG.ln r9.1.Preds)<|cW (yl w a a2 r1 r9.1.Preds (r9.1.Preds.length:Int) ([]:List aa) ([]:List ai) r9.1.Name r9.1.Vars r9.1.Cons ([r6]:List ai) 0 bo16)<|bz (yP br17)<|sy (cb r17)<|en (aI (cM r17)<|(ba r17))
  exact bN qi2 Tryz.call53 Tryz.func53 (c:=qjh) rfl (aI (dn w) (aI (ak a) (aI (ak a2) (aI (aj dQ used) trivial)))) z (by kernel_rfl)
 ·obtain⟨x18,bx18,h⟩:=ay h
  obtain rfl:=lf h
  have z:=p8<|sg 0 c7<|sv (mX.ia (k:=.i64) bx18)<|sv (iZ x18)<|sx (cF x18)<|en (aI (cM x18)<|(ba x18))
  exact bN qi2 Tryz.call53 Tryz.func53 (c:=qjh) rfl (aI (dn w) (aI (ak a) (aI (ak a2) (aI (aj dQ used) trivial)))) z (by kernel_rfl)
def qjc:Code:=Tryz.f35.body.getD .skip
def qiX:List Nat:=[]
def jc(R51:d4)(w:aY)(a:ae)(a2:ae)(used:waA):Option ai:=
 if(a.Op==6)=true then
  if((a.Args.length:Int)==0)=true then
   some (⟨1,([]:ag),([]:ag),(⟨0,([]:ag),0,([]:List aa)⟩:aa),0,([]:List ai)⟩:ai)
  else
   (gw R51 w a a2 used).bind fun r5=>
   some r5
 else
  (kv a).bind fun r6=>
  if(!r6)=true then
   some (⟨1,([]:ag),([]:ag),(⟨0,([]:ag),0,([]:List aa)⟩:aa),0,([]:List ai)⟩:ai)
  else
   (jA w a a2 used).bind fun r9=>
   some r9
theorem CP(R51:d4)(hR51:iO R51){w:aY}{a:ae}{a2:ae}{used:waA}{r:ai}(h:jc R51 w a a2 used=some r):CC Pg GE 35 [.agg (aW w),.agg (af a),.agg (af a2),sl cS used] (.agg (aw r)) []:=by
 have p2:=fun{sc F} (r:PS sc F)=>se (i6 w)<|se (bD a)<|se (bD a2)<|sx td<|sv (e9 w)<|sv (aC a)<|sv (aD a)<|r
 rcases bj h with⟨c1,h⟩|⟨c1,h⟩
 ·have p4:=fun{sc F} (r:PS sc F)=>p2<|sg 0 c1<|sv (aK a)<|sv (aL a)<|cm (ck.ln a.Args)<|r
  rcases bj h with⟨c3,h⟩|⟨c3,h⟩
  ·obtain rfl:=lf h
   have z:=p4<|sg 0 c3<|sb (xz 1) (xx 1)<|sy (cb (⟨1,([]:ag),([]:ag),(⟨0,([]:ag),0,([]:List aa)⟩:aa),0,([]:List ai)⟩:ai))<|en (aI (cM (⟨1,([]:ag),([]:ag),(⟨0,([]:ag),0,([]:List aa)⟩:aa),0,([]:List ai)⟩:ai))<|(ba (⟨1,([]:ag),([]:ag),(⟨0,([]:ag),0,([]:List aa)⟩:aa),0,([]:List ai)⟩:ai)))
   exact bN qiX Tryz.call35 Tryz.func35 (c:=qjc) rfl (aI (dn w) (aI (ak a) (aI (ak a2) (aI (aj dQ used) trivial)))) z (by kernel_rfl)
  ·obtain⟨r5,br5,h⟩:=ay h
   obtain rfl:=lf h
   have z:=p4<|sg 0 c3<|sv (e9 w)<|sv (aV a)<|sv (aV a2)<|bz (yb R51 hR51 br5)<|sx (cF r5)<|en (aI (cM r5)<|(ba r5))
   exact bN qiX Tryz.call35 Tryz.func35 (c:=qjc) rfl (aI (dn w) (aI (ak a) (aI (ak a2) (aI (aj dQ used) trivial)))) z (by kernel_rfl)
 ·obtain⟨r6,br6,h⟩:=ay h
  have p8:=fun{sc F} (r:PS sc F)=>p2<|sg 0 c1<|sv (aV a)<|bz (pK br6)<|r
  rcases bj h with⟨c7,h⟩|⟨c7,h⟩
  ·obtain rfl:=lf h
   have z:=p8<|sg 0 c7<|sb (xz 1) (xx 1)<|sy (cb (⟨1,([]:ag),([]:ag),(⟨0,([]:ag),0,([]:List aa)⟩:aa),0,([]:List ai)⟩:ai))<|en (aI (cM (⟨1,([]:ag),([]:ag),(⟨0,([]:ag),0,([]:List aa)⟩:aa),0,([]:List ai)⟩:ai))<|(ba (⟨1,([]:ag),([]:ag),(⟨0,([]:ag),0,([]:List aa)⟩:aa),0,([]:List ai)⟩:ai)))
   exact bN qiX Tryz.call35 Tryz.func35 (c:=qjc) rfl (aI (dn w) (aI (ak a) (aI (ak a2) (aI (aj dQ used) trivial)))) z (by kernel_rfl)
  ·obtain⟨r9,br9,h⟩:=ay h
   obtain rfl:=lf h
   have z:=p8<|sg 0 c7<|sv (aV a)<|sv (aV a2)<|bz (CN br9)<|sx (cF r9)<|en (aI (cM r9)<|(ba r9))
   exact bN qiX Tryz.call35 Tryz.func35 (c:=qjc) rfl (aI (dn w) (aI (ak a) (aI (ak a2) (aI (aj dQ used) trivial)))) z (by kernel_rfl)
def nf:((aY×ae×ae×waA)->Option ai)->(aY×ae×ae×waA)->Option ai:=fun(rec:(aY×ae×ae×waA)->Option ai) (x:aY×ae×ae×waA)=>jc (fun w a a2 used=>rec (w,a,a2,used)) x.1 x.2.1 x.2.2.1 x.2.2.2
def qb(w:aY)(a:ae)(a2:ae)(used:waA):Option ai:=kJ nf (w,a,a2,used)
theorem Dq{w:aY}{a:ae}{a2:ae}{used:waA}{r:ai}(h:qb w a a2 used=some r):CC Pg GE 35 [.agg (aW w),.agg (af a),.agg (af a2),sl cS used] (.agg (aw r)) []:=
 cy (F:=nf) (M:=fun(x:aY×ae×ae×waA) (r:ai)=>CC Pg GE 35 [.agg (aW x.1),.agg (af x.2.1),.agg (af x.2.2.1),sl cS x.2.2.2] (.agg (aw r)) []) (fun rec hrec x r h=>CP _ (fun w a a2 used r h=>hrec (w,a,a2,used) r h) h) h
def qkI:Code:=Tryz.f12.body.getD .skip
def qkz:List Nat:=[]
def nc(m:aH)(a:ae)(a2:ae)(tag:Int)(used:waA):Option (ai×Int):=
 (IL a a2).bind fun r1=>
 if(!r1)=true then
  some ((⟨0,([]:ag),([]:ag),(⟨0,([]:ag),0,([]:List aa)⟩:aa),0,([]:List ai)⟩:ai),12)
 else
  (qb (⟨m,tag⟩:aY) a a2 used).bind fun r4=>
  some (r4,0)
theorem rU{m:aH}{a:ae}{a2:ae}{tag:Int}{used:waA}{r:ai×Int}(h:nc m a a2 tag used=some r):CC Pg GE 12 [.agg (aB m),.agg (af a),.agg (af a2),.int .i64 tag,sl cS used] (.tuple [.agg (aw r.1),.int .i64 r.2]) []:=by
 obtain⟨r1,br1,h⟩:=ay h
 have p3:=fun{sc F} (r:PS sc F)=>se (jm m)<|se (bD a)<|se (bD a2)<|sx td<|sv (aV a)<|sv (aV a2)<|bz (SN br1)<|r
 rcases bj h with⟨c2,h⟩|⟨c2,h⟩
 ·obtain rfl:=lf h
  have z:=p3<|sg 0 c2<|sb (Cd) (Cb)<|sy (cb (⟨0,([]:ag),([]:ag),(⟨0,([]:ag),0,([]:List aa)⟩:aa),0,([]:List ai)⟩:ai))<|en (aI (va9 PVal.tuple (jv (cM (⟨0,([]:ag),([]:ag),(⟨0,([]:ag),0,([]:List aa)⟩:aa),0,([]:List ai)⟩:ai)) (jv (rP (.int .i64 12)) (rfl:([]:List PVal)=[]))))<|(aI (ba (⟨0,([]:ag),([]:ag),(⟨0,([]:ag),0,([]:List aa)⟩:aa),0,([]:List ai)⟩:ai)) (aI trivial trivial)))
  exact bN qkz Tryz.call12 Tryz.func12 (c:=qkI) rfl (aI (de m) (aI (ak a) (aI (ak a2) (aI trivial (aI (aj dQ used) trivial))))) z (by kernel_rfl)
 ·obtain⟨r4,br4,h⟩:=ay h
  obtain rfl:=lf h
  have z:=p3<|sg 0 c2<|sv (jl m)<|sv (Df m tag)<|sv (aV a)<|sv (aV a2)<|bz (Dq br4)<|sx (cF r4)<|en (aI (va9 PVal.tuple (jv (cM r4) (jv (rP (.int .i64 0)) (rfl:([]:List PVal)=[]))))<|(aI (ba r4) (aI trivial trivial)))
  exact bN qkz Tryz.call12 Tryz.func12 (c:=qkI) rfl (aI (de m) (aI (ak a) (aI (ak a2) (aI trivial (aI (aj dQ used) trivial))))) z (by kernel_rfl)
abbrev lS:=(ai->aM->waE->Option waE)
abbrev qz(R:lS):Prop:=∀(c:ai) (above:aM) (a:waE) (r:waE),R c above a=some r->C Pg GE 41 [.agg (aw c),.agg (aX above),sl aX a] [((2,0),62)] [] (sl aX r) [(0,62)] []
abbrev B8:=(aa->Option waB)
abbrev Ua(R:B8):Prop:=∀(p:aa) (r:waB),R p=some r->CC Pg GE 63 [.agg (ac p)] (sl ac r) [(0,36)]
def qjj:Code:=Tryz.f63.body.getD .skip
def qhL:List Nat:=[]
section
variable(p:aa)
def NW:aA:=be 28 [(1,.eptr (ac p))] [.dead] []
def uZ(o:Bool):aA:=be 28 [(1,.eptr (ac p)),(11,.bool o)] [.dead] []
def Hj:Option Bool:=
 if(p.Op==15)=true then
  some ((p.Kids.length:Int)==2)
 else
  some false
theorem LW{x:Bool}(h:Hj p=some x):
  aU Pg GE 0 (cA qjj 12) (EX .normal (uZ p x)) (NW p):=by
 have p2:=fun{sc F} (r:PS sc F)=>sv (bE p)<|sv (bF p)<|r
 rcases bj h with⟨c1,h⟩|⟨c1,h⟩
 ·obtain rfl:=lf h
  exact cd qhL (p2<|sg 4 c1<|sv (bA p)<|sv (bC p)<|cm (bL.ln p.Kids)<|eF .normal (uZ p ((p.Kids.length:Int)==2))) (by kernel_rfl)
 ·obtain rfl:=lf h
  exact cd qhL (p2<|sg 4 c1<|eF .normal (uZ p false)) (by kernel_rfl)
end
def Km(R93:B8)(p:aa):Option waB:=
 (Hj p).bind fun o3=>
 if o3=true then
  (cz p.Kids 0).bind fun x6=>
  (R93 x6).bind fun r7=>
  (cz p.Kids 1).bind fun x8=>
  (R93 x8).bind fun r9=>
  (app r7 r9).bind fun l10=>
  some l10
 else
  (AU p).bind fun r11=>
  if r11=true then
   some ([]:List aa)
  else
   (qp p).bind fun r14=>
   some ([r14]:List aa)
theorem QY(R93:B8)(hR93:Ua R93){p:aa}{r:waB}(h:Km R93 p=some r):CC Pg GE 63 [.agg (ac p)] (sl ac r) [(0,36)]:=by
 obtain⟨o3,bo3,h⟩:=ay h
 have p5:=fun{sc F} (r:PS sc F)=>se (bS p)<|kr 1<|cW (LW p bo3)<|r
 rcases bj h with⟨c4,h⟩|⟨c4,h⟩
 ·obtain⟨x6,bx6,h⟩:=ay h
  obtain⟨r7,br7,h⟩:=ay h
  obtain⟨x8,bx8,h⟩:=ay h
  obtain⟨r9,br9,h⟩:=ay h
  obtain⟨l10,bl10,h⟩:=ay h
  obtain rfl:=lf h
  have z:=p5<|sg 0 c4<|lY [0,1,3,7,15,0,32,96,224,511,1023,2047]<|sv (bA p)<|sv (bC p)<|sv (bL.ia (k:=.i64) bx6)<|sv (bh x6)<|bz (hR93 _ _ br7)<|sv (bA p)<|sv (bC p)<|sv (bL.ia (k:=.i64) bx8)<|sv (bh x8)<|bz (hR93 _ _ br9)<|sv (bL.ap bl10)<|en (aI (rP (sl ac l10))<|(aj ah l10))
  exact bN qhL Tryz.call63 Tryz.func63 (c:=qjj) rfl (aI (ah p) trivial) z (by kernel_rfl)
 ·obtain⟨r11,br11,h⟩:=ay h
  have p13:=fun{sc F} (r:PS sc F)=>p5<|sg 0 c4<|sv (bh p)<|bz (Kr br11)<|r
  rcases bj h with⟨c12,h⟩|⟨c12,h⟩
  ·obtain rfl:=lf h
   have z:=p13<|sg 0 c12<|en (aI (rP (sl ac ([]:List aa)))<|(aj ah ([]:List aa)))
   exact bN qhL Tryz.call63 Tryz.func63 (c:=qjj) rfl (aI (ah p) trivial) z (by kernel_rfl)
  ·obtain⟨r14,br14,h⟩:=ay h
   obtain rfl:=lf h
   have z:=p13<|sg 0 c12<|sv (bh p)<|bz (rD br14)<|sv (bL.mk' (v:=dW) cK ([r14]:List aa) 1 (by kernel_rfl))<|en (aI (rP (sl ac ([r14]:List aa)))<|(aj ah ([r14]:List aa)))
   exact bN qhL Tryz.call63 Tryz.func63 (c:=qjj) rfl (aI (ah p) trivial) z (by kernel_rfl)
def Kn:(aa->Option waB)->(aa)->Option waB:=fun(rec:aa->Option waB) (x:aa)=>Km (fun p=>rec p) x
def Iw(p:aa):Option waB:=kJ Kn p
theorem Hk{p:aa}{r:waB}(h:Iw p=some r):CC Pg GE 63 [.agg (ac p)] (sl ac r) [(0,36)]:=
 cy (F:=Kn) (M:=fun(x:aa) (r:waB)=>CC Pg GE 63 [.agg (ac x)] (sl ac r) [(0,36)]) (fun rec hrec x r h=>QY _ (fun p r h=>hrec p r h) h) h
end Go.Proofs.YtbaamopmfmpfaaaGreatDoor
