/- PROVED: parts of the proof (G9). Conditions: none. -/
import Derived.Test.YtbaamopmfmpfaaaGreatDoorPkC22
noncomputable section
namespace Go.Proofs.YtbaamopmfmpfaaaGreatDoor
open Go
set_option linter.unusedVariables false
set_option maxRecDepth 100000
def qb5:Code:=Tryz.f79.body.getD .skip
def qaH:List Nat:=[]
section
variable(name:ag)(t9:(List eS))(t10:Int)(t11:Int)(m:ag)(m2:waA)(m3:waF)(m4:waG)
def iY:az:=aY 22 [(1,.str name),(4,.bptr 1 0),(9,sl co t9),(10,.int .i64 t10),(11,.int .i64 t11)] [.dead,.cells [.str m,sl cS m2,sl bE m3,sl ef m4] [(1,9),(2,102),(3,73)]] []
def iZ(o:(ag×waA×waF×waG)⊕(ag×waA×waF×waG)):Exit:=match o with
 |(.inl _)=>.ret
 |(.inr _)=>.exit 0
def gn(o:(ag×waA×waF×waG)⊕(ag×waA×waF×waG)):az:=match o with
 |(.inl o)=>aY 22 [(4,.bptr 1 0),(5,.bool true)] [.dead,.cells [.str o.1,sl cS o.2.1,sl bE o.2.2.1,sl ef o.2.2.2] []] []
 |(.inr o)=>aY 22 [(4,.bptr 1 0)] [.dead,.cells [.str o.1,sl cS o.2.1,sl bE o.2.2.1,sl ef o.2.2.2] [(1,9),(2,102),(3,73)]] []
def e9:Option ((Int×ag×waA×waF×waG)⊕((ag×waA×waF×waG)⊕(ag×waA×waF×waG))):=
 if(decide (t11<t10))=true then
  (cR t9 t11).bind fun x2=>
  if(x2.Name==name)=true then
   some (.inr (.inl (x2.Name,x2.Vars,x2.Preds,x2.Cons)))
  else
   some (.inl (aR (t11+1),m,m2,m3,m4))
 else
  some (.inr (.inr (m,m2,m3,m4)))
def uk:Option ((ag×waA×waF×waG)⊕(ag×waA×waF×waG)):=loop (fun(zz:Int×ag×waA×waF×waG)=>e9 name t9 t10 zz.1 zz.2.1 zz.2.2.1 zz.2.2.2.1 zz.2.2.2.2) (t11,m,m2,m3,m4)
theorem DY{y:(Int×ag×waA×waF×waG)⊕((ag×waA×waF×waG)⊕(ag×waA×waF×waG))}(h:e9 name t9 t10 t11 m m2 m3 m4=some y):
  aT Pg GE 0 (cA qb5 55) (LQ (fun(zz:Int×ag×waA×waF×waG)=>iY name t9 t10 zz.1 zz.2.1 zz.2.2.1 zz.2.2.2.1 zz.2.2.2.2) iZ gn y) (iY name t9 t10 t11 m m2 m3 m4):=by
 rcases aZ h with⟨c1,h⟩|⟨c1,h⟩
 ·obtain⟨x2,bx2,h⟩:=aB h
  have p4:=fun{sc F} (r:PS sc F)=>sg 0 c1<|sv (K4.ia (k:=.i64) bx2)<|sv (Wl x2)<|sx Yl<|sx (Gz x2)<|ss<|r
  rcases aZ h with⟨c3,h⟩|⟨c3,h⟩
  ·obtain rfl:=lf h
   have z:=p4<|sg 0 c3<|sv (Ur x2 [])<|sx (Gz x2)<|zn 0 (iZ (.inl (x2.Name,x2.Vars,x2.Preds,x2.Cons))) (gn (.inl (x2.Name,x2.Vars,x2.Preds,x2.Cons))) rfl (eg (aI (d6 rfl) (aI trivial trivial))) (aI trivial (aI (aI trivial (aI (up (aq gG x2.Vars)) (aI (up (aq lu x2.Preds)) (aI (up (aq EC x2.Cons)) trivial)))) trivial))
   exact Gx (A:=qaH) mixed (by intro hx;cases hx) z (by kernel_rfl)
  ·obtain rfl:=lf h
   have z:=p4<|sg 0 c3<|zn 0 .normal (iY name t9 t10 (aR (t11+1)) m m2 m3 m4) rfl (eg (aI trivial (aI (d6 rfl) (aI (up (aq wO t9)) (aI trivial (aI trivial trivial)))))) (aI trivial (aI (aI trivial (aI (up (aq gG m2)) (aI (up (aq lu m3)) (aI (up (aq EC m4)) trivial)))) trivial))
   exact dS (A:=qaH) mixed z (by kernel_rfl)
 ·obtain rfl:=lf h
  have z:=sg 0 c1<|eF (iZ (.inr (m,m2,m3,m4))) (gn (.inr (m,m2,m3,m4)))
  exact i7 qaH (by intro hx;cases hx) z (by kernel_rfl)
theorem vo{x:(ag×waA×waF×waG)⊕(ag×waA×waF×waG)}(h:uk name t9 t10 t11 m m2 m3 m4=some x):
  aT Pg GE 0 (.loop (cA qb5 55)) (EX (iZ x) (gn x)) (iY name t9 t10 t11 m m2 m3 m4):=
 aT.loop (S:=fun(zz:Int×ag×waA×waF×waG)=>iY name t9 t10 zz.1 zz.2.1 zz.2.2.1 zz.2.2.2.1 zz.2.2.2.2) (ex:=iZ) (s:=(t11,m,m2,m3,m4)) h fun zz y hy=>DY name t9 t10 zz.1 zz.2.1 zz.2.2.1 zz.2.2.2.1 zz.2.2.2.2 hy
end
def vj(m:aQ)(name:ag):Option (eS×Bool):=
 (uk name m.Datas (m.Datas.length:Int) 0 ([]:ag) ([]:List ag) ([]:List dh) ([]:List iu)).bind fun o5=>match o5 with
 |(.inl o5)=>
  some ((⟨o5.1,o5.2.1,o5.2.2.1,o5.2.2.2⟩:eS),true)
 |(.inr o5)=>
  some ((⟨([]:ag),([]:List ag),([]:List dh),([]:List iu)⟩:eS),false)
theorem K9{m:aQ}{name:ag}{r:eS×Bool}(h:vj m name=some r):CC Pg GE 79 [.agg (aC m),.str name] (.tuple [.agg (co r.1),.bool r.2]) []:=by
 obtain⟨o5,bo5,h⟩:=aB h
 rcases o5 with o5|o5
 ·obtain rfl:=lf h
  have z:=se (tX m)<|sx Yl<|sv (dw m)<|sv (dy m)<|cz (K4.ln m.Datas)<|di (e:=.ret) (s1:=gn (.inl o5)) (vo name m.Datas (m.Datas.length:Int) 0 ([]:ag) ([]:List ag) ([]:List dh) ([]:List iu) bo5)<|en (aI (vbr PVal.tuple (Hd (Nk (⟨o5.1,o5.2.1,o5.2.2.1,o5.2.2.2⟩:eS)) (Hd (rP (.bool true)) (rfl:([]:List PVal)=[]))))<|(aI (wO (⟨o5.1,o5.2.1,o5.2.2.1,o5.2.2.2⟩:eS)) (aI trivial trivial)))
  exact cn qaH Tryz.call79 Tryz.func79 (c:=qb5) rfl (aI (eW m) (aI trivial trivial)) z (by kernel_rfl)
 ·obtain rfl:=lf h
  have z:=se (tX m)<|sx Yl<|sv (dw m)<|sv (dy m)<|cz (K4.ln m.Datas)<|di (e:=.exit 0) (s1:=gn (.inr o5)) (vo name m.Datas (m.Datas.length:Int) 0 ([]:ag) ([]:List ag) ([]:List dh) ([]:List iu) bo5)<|sb (Rv) (Rq)<|sy (tO (⟨([]:ag),([]:List ag),([]:List dh),([]:List iu)⟩:eS))<|en (aI (vbr PVal.tuple (Hd (Nk (⟨([]:ag),([]:List ag),([]:List dh),([]:List iu)⟩:eS)) (Hd (rP (.bool false)) (rfl:([]:List PVal)=[]))))<|(aI (wO (⟨([]:ag),([]:List ag),([]:List dh),([]:List iu)⟩:eS)) (aI trivial trivial)))
  exact cn qaH Tryz.call79 Tryz.func79 (c:=qb5) rfl (aI (eW m) (aI trivial trivial)) z (by kernel_rfl)
def qaV:Code:=Tryz.f108.body.getD .skip
def qaw:List Nat:=[]
def gj(is:Bool):Option aa:=
 if is=true then
  some (⟨2,([]:ag),1,([]:List aa)⟩:aa)
 else
  some (⟨2,([]:ag),0,([]:List aa)⟩:aa)
theorem iV{is:Bool}{r:aa}(h:gj is=some r):CC Pg GE 108 [.bool is] (.agg (ac r)) [(3,36)]:=by
 rcases aZ h with⟨c1,h⟩|⟨c1,h⟩
 ·obtain rfl:=lf h
  have z:=sx lC<|sg 0 c1<|sb (ym 2 1) (yk 2 1)<|sy (aF (⟨2,([]:ag),1,([]:List aa)⟩:aa))<|en (aI (e8 (⟨2,([]:ag),1,([]:List aa)⟩:aa))<|aI (ah (⟨2,([]:ag),1,([]:List aa)⟩:aa))<|rT)
  exact cn qaw Tryz.call108 Tryz.func108 (c:=qaV) rfl (aI trivial trivial) z (by kernel_rfl)
 ·obtain rfl:=lf h
  have z:=sx lC<|sg 0 c1<|sb (JV 2) (JT 2)<|sy (aF (⟨2,([]:ag),0,([]:List aa)⟩:aa))<|en (aI (e8 (⟨2,([]:ag),0,([]:List aa)⟩:aa))<|aI (ah (⟨2,([]:ag),0,([]:List aa)⟩:aa))<|rT)
  exact cn qaw Tryz.call108 Tryz.func108 (c:=qaV) rfl (aI trivial trivial) z (by kernel_rfl)
def qdh:Code:=Tryz.f90.body.getD .skip
def qda:List Nat:=[]
def xj(p:aa):Option Bool:=
 (iU p (⟨0,([]:ag),0,([]:List aa)⟩:aa)).bind fun r1=>
 if r1=true then
  some true
 else
  (gj true).bind fun r4=>
  (iU p r4).bind fun r5=>
  some r5
theorem Fi{p:aa}{r:Bool}(h:xj p=some r):CC Pg GE 90 [.agg (ac p)] (.bool r) []:=by
 obtain⟨r1,br1,h⟩:=aB h
 have p3:=fun{sc F} (r:PS sc F)=>se (cr p)<|qX [0,0,3,7,15,15,63,127,255]<|sv (be p)<|sb (tH) (tF)<|bT (oN br1)<|r
 rcases aZ h with⟨c2,h⟩|⟨c2,h⟩
 ·obtain rfl:=lf h
  have z:=p3<|sg 4 c2<|en (aI (rP (.bool true))<|trivial)
  exact cn qda Tryz.call90 Tryz.func90 (c:=qdh) rfl (aI (ah p) trivial) z (by kernel_rfl)
 ·obtain⟨r4,br4,h⟩:=aB h
  obtain⟨r5,br5,h⟩:=aB h
  obtain rfl:=lf h
  have z:=p3<|sg 4 c2<|sv (be p)<|bT (iV br4)<|bT (oN br5)<|en (aI (rP (.bool r5))<|trivial)
  exact cn qda Tryz.call90 Tryz.func90 (c:=qdh) rfl (aI (ah p) trivial) z (by kernel_rfl)
def qca:Code:=Tryz.f97.body.getD .skip
def Zn:List Nat:=[25]
section
variable(t8:waB)(t9:Int)(v:Bool)(t10:Int)(m:Int)(m2:ag)(m3:Int)(m4:waB)(m5:Int)(m6:ag)(m7:Int)(m8:waB)
def io:az:=aY 33 [(2,.bptr 0 0),(3,.bptr 1 0),(4,.bool v),(8,sl ac t8),(9,.int .i64 t9),(10,.int .i64 t10)] [.cells [.int .i64 m,.str m2,.int .i64 m3,sl ac m4] [(3,36)],.cells [.int .i64 m5,.str m6,.int .i64 m7,sl ac m8] []] []
def mQ(o:(Int×ag×Int×waB×Int×ag×Int×waB)⊕(Int×ag×Int×waB×Int×ag×Int×waB)):Exit:=match o with
 |(.inl _)=>.ret
 |(.inr _)=>.exit 0
def j4(o:(Int×ag×Int×waB×Int×ag×Int×waB)⊕(Int×ag×Int×waB×Int×ag×Int×waB)):az:=match o with
 |(.inl o)=>aY 33 [(2,.bptr 0 0)] [.cells [.int .i64 o.1,.str o.2.1,.int .i64 o.2.2.1,sl ac o.2.2.2.1] [(3,36)],.cells [.int .i64 o.2.2.2.2.1,.str o.2.2.2.2.2.1,.int .i64 o.2.2.2.2.2.2.1,sl ac o.2.2.2.2.2.2.2] []] []
 |(.inr o)=>aY 33 [(2,.bptr 0 0),(3,.bptr 1 0)] [.cells [.int .i64 o.1,.str o.2.1,.int .i64 o.2.2.1,sl ac o.2.2.2.1] [(3,36)],.cells [.int .i64 o.2.2.2.2.1,.str o.2.2.2.2.2.1,.int .i64 o.2.2.2.2.2.2.1,sl ac o.2.2.2.2.2.2.2] []] []
def gi:Option ((Bool×Int×Int×ag×Int×waB×Int×ag×Int×waB)⊕((Int×ag×Int×waB×Int×ag×Int×waB)⊕(Int×ag×Int×waB×Int×ag×Int×waB))):=
 if (decide (t10 < t9)) = true then
  (cR t8 t10).bind fun x3=>
  (xj x3).bind fun r4=>
  if r4=true then
   some (.inl (v,aR (t10+1),m,m2,m3,m4,m5,m6,m7,m8))
  else
   (gj false).bind fun r7=>
   (iU x3 r7).bind fun r8=>
   if r8=true then
    (gj false).bind fun r11=>
    some (.inr (.inl (r11.Op,r11.Name,r11.N,r11.Kids,m5,m6,m7,m8)))
   else
    if v=true then
     (nQ x3).bind fun r14=>
     some (.inl (v,aR (t10+1),m,m2,m3,m4,15,([]:ag),0,([(⟨m5,m6,m7,m8⟩:aa),r14]:List aa)))
    else
     (nQ x3).bind fun r15=>
     some (.inl (true,aR (t10+1),m,m2,m3,m4,r15.Op,r15.Name,r15.N,r15.Kids))
 else
  some (.inr (.inr (m,m2,m3,m4,m5,m6,m7,m8)))
def Bf:Option ((Int×ag×Int×waB×Int×ag×Int×waB)⊕(Int×ag×Int×waB×Int×ag×Int×waB)):=loop (fun(zz:Bool×Int×Int×ag×Int×waB×Int×ag×Int×waB)=>gi t8 t9 zz.1 zz.2.1 zz.2.2.1 zz.2.2.2.1 zz.2.2.2.2.1 zz.2.2.2.2.2.1 zz.2.2.2.2.2.2.1 zz.2.2.2.2.2.2.2.1 zz.2.2.2.2.2.2.2.2.1 zz.2.2.2.2.2.2.2.2.2) (v,t10,m,m2,m3,m4,m5,m6,m7,m8)
theorem IA{y:(Bool×Int×Int×ag×Int×waB×Int×ag×Int×waB)⊕((Int×ag×Int×waB×Int×ag×Int×waB)⊕(Int×ag×Int×waB×Int×ag×Int×waB))}(h:gi t8 t9 v t10 m m2 m3 m4 m5 m6 m7 m8=some y):
  aT Pg GE 0 (cA qca 119) (LQ (fun(zz:Bool×Int×Int×ag×Int×waB×Int×ag×Int×waB)=>io t8 t9 zz.1 zz.2.1 zz.2.2.1 zz.2.2.2.1 zz.2.2.2.2.1 zz.2.2.2.2.2.1 zz.2.2.2.2.2.2.1 zz.2.2.2.2.2.2.2.1 zz.2.2.2.2.2.2.2.2.1 zz.2.2.2.2.2.2.2.2.2) mQ j4 y) (io t8 t9 v t10 m m2 m3 m4 m5 m6 m7 m8):=by
 rcases aZ h with⟨c2,h⟩|⟨c2,h⟩
 ·obtain⟨x3,bx3,h⟩:=aB h
  obtain⟨r4,br4,h⟩:=aB h
  have p6:=fun{sc F} (r:PS sc F)=>sg 0 c2<|sv (ck.ia (k:=.i64) bx3)<|sv (be x3)<|sx lC<|sx (dn x3)<|sv (cm x3 [])<|bT (Fi br4)<|r
  rcases aZ h with⟨c5,h⟩|⟨c5,h⟩
  ·obtain rfl:=lf h
   have z:=p6<|sg 0 c5<|zn 0 .normal (io t8 t9 v (aR (t10+1)) m m2 m3 m4 m5 m6 m7 m8) rfl (eg (aI (d6 rfl) (aI (d6 rfl) (aI trivial (aI (up (aq ah t8)) (aI trivial (aI trivial trivial))))))) (aI (aI trivial (aI trivial (aI trivial (aI (up (aq ah m4)) trivial)))) (aI (aI trivial (aI trivial (aI trivial (aI (up (aq ah m8)) trivial)))) trivial))
   exact dS (A:=Zn) mixed z (by kernel_rfl)
  ·obtain⟨r7,br7,h⟩:=aB h
   obtain⟨r8,br8,h⟩:=aB h
   have p10:=fun{sc F} (r:PS sc F)=>p6<|sg 0 c5<|qX [0,0,3,7]<|sv (cm x3 [])<|bT (iV br7)<|bT (oN br8)<|r
   rcases aZ h with⟨c9,h⟩|⟨c9,h⟩
   ·obtain⟨r11,br11,h⟩:=aB h
    obtain rfl:=lf h
    have z:=p10<|sg 0 c9<|bT (iV br11)<|sy (aF r11)<|zn 0 (mQ (.inl (r11.Op,r11.Name,r11.N,r11.Kids,m5,m6,m7,m8))) (j4 (.inl (r11.Op,r11.Name,r11.N,r11.Kids,m5,m6,m7,m8))) rfl (eg (aI (d6 rfl) trivial)) (aI (aI trivial (aI trivial (aI trivial (aI (up (aq ah r11.Kids)) trivial)))) (aI (aI trivial (aI trivial (aI trivial (aI (up (aq ah m8)) trivial)))) trivial))
    exact Gx (A:=Zn) mixed (by intro hx;cases hx) z (by kernel_rfl)
   ·have p13:=fun{sc F} (r:PS sc F)=>p10<|sg 0 c9<|r
    rcases aZ h with⟨c12,h⟩|⟨c12,h⟩
    ·obtain⟨r14,br14,h⟩:=aB h
     obtain rfl:=lf h
     have z:=p13<|sg 0 c12<|qX [0,0,2,7,15,31]<|sv (cm (⟨m5,m6,m7,m8⟩:aa) [])<|sv (cm x3 [])<|bT (oO br14)<|sv (ck.mk' (v:=fe) dl ([(⟨m5,m6,m7,m8⟩:aa),r14]:List aa) 2 (by kernel_rfl))<|sv (EA 15 ([(⟨m5,m6,m7,m8⟩:aa),r14]:List aa))<|sx (dn (⟨15,([]:ag),0,([(⟨m5,m6,m7,m8⟩:aa),r14]:List aa)⟩:aa))<|zn 0 .normal (io t8 t9 v (aR (t10+1)) m m2 m3 m4 15 ([]:ag) 0 ([(⟨m5,m6,m7,m8⟩:aa),r14]:List aa)) rfl (eg (aI (d6 rfl) (aI (d6 rfl) (aI trivial (aI (up (aq ah t8)) (aI trivial (aI trivial trivial))))))) (aI (aI trivial (aI trivial (aI trivial (aI (up (aq ah m4)) trivial)))) (aI (aI trivial (aI trivial (aI trivial (aI (up (aq ah ([(⟨m5,m6,m7,m8⟩:aa),r14]:List aa))) trivial)))) trivial))
     exact dS (A:=Zn) mixed z (by kernel_rfl)
    ·obtain⟨r15,br15,h⟩:=aB h
     obtain rfl:=lf h
     have z:=p13<|sg 0 c12<|sv (cm x3 [])<|bT (oO br15)<|sy (aF r15)<|zn 0 .normal (io t8 t9 true (aR (t10+1)) m m2 m3 m4 r15.Op r15.Name r15.N r15.Kids) rfl (eg (aI (d6 rfl) (aI (d6 rfl) (aI trivial (aI (up (aq ah t8)) (aI trivial (aI trivial trivial))))))) (aI (aI trivial (aI trivial (aI trivial (aI (up (aq ah m4)) trivial)))) (aI (aI trivial (aI trivial (aI trivial (aI (up (aq ah r15.Kids)) trivial)))) trivial))
     exact dS (A:=Zn) mixed z (by kernel_rfl)
 ·obtain rfl:=lf h
  have z:=sg 0 c2<|eF (mQ (.inr (m,m2,m3,m4,m5,m6,m7,m8))) (j4 (.inr (m,m2,m3,m4,m5,m6,m7,m8)))
  exact i7 Zn (by intro hx;cases hx) z (by kernel_rfl)
theorem Bg{x:(Int×ag×Int×waB×Int×ag×Int×waB)⊕(Int×ag×Int×waB×Int×ag×Int×waB)}(h:Bf t8 t9 v t10 m m2 m3 m4 m5 m6 m7 m8=some x):
  aT Pg GE 0 (.loop (cA qca 119)) (EX (mQ x) (j4 x)) (io t8 t9 v t10 m m2 m3 m4 m5 m6 m7 m8):=
 aT.loop (S:=fun(zz:Bool×Int×Int×ag×Int×waB×Int×ag×Int×waB)=>io t8 t9 zz.1 zz.2.1 zz.2.2.1 zz.2.2.2.1 zz.2.2.2.2.1 zz.2.2.2.2.2.1 zz.2.2.2.2.2.2.1 zz.2.2.2.2.2.2.2.1 zz.2.2.2.2.2.2.2.2.1 zz.2.2.2.2.2.2.2.2.2) (ex:=mQ) (s:=(v,t10,m,m2,m3,m4,m5,m6,m7,m8)) h fun zz y hy=>IA t8 t9 zz.1 zz.2.1 zz.2.2.1 zz.2.2.2.1 zz.2.2.2.2.1 zz.2.2.2.2.2.1 zz.2.2.2.2.2.2.1 zz.2.2.2.2.2.2.2.1 zz.2.2.2.2.2.2.2.2.1 zz.2.2.2.2.2.2.2.2.2 hy
end
def Fb(a:waB):Option aa:=
 (gj true).bind fun r1=>
 (Bf a (a.length:Int) false 0 0 ([]:ag) 0 ([]:List aa) r1.Op r1.Name r1.N r1.Kids).bind fun o16=>match o16 with
 |(.inl o16)=>
  some (⟨o16.1,o16.2.1,o16.2.2.1,o16.2.2.2.1⟩:aa)
 |(.inr o16)=>
  some (⟨o16.2.2.2.2.1,o16.2.2.2.2.2.1,o16.2.2.2.2.2.2.1,o16.2.2.2.2.2.2.2⟩:aa)
theorem QI{a:waB}{r:aa}(h:Fb a=some r):CC Pg GE 97 [sl ac a] (.agg (ac r)) []:=by
 obtain⟨r1,br1,h⟩:=aB h
 obtain⟨o16,bo16,h⟩:=aB h
 rcases o16 with o16|o16
 ·obtain rfl:=lf h
  have z:=sx lC<|bT (iV br1)<|sx lC<|sy (aF r1)<|cz (ck.ln a)<|di (e:=.ret) (s1:=j4 (.inl o16)) (Bg a (a.length:Int) false 0 0 ([]:ag) 0 ([]:List aa) r1.Op r1.Name r1.N r1.Kids bo16)<|en (aI (e8 (⟨o16.1,o16.2.1,o16.2.2.1,o16.2.2.2.1⟩:aa))<|(ah (⟨o16.1,o16.2.1,o16.2.2.1,o16.2.2.2.1⟩:aa)))
  exact cn Zn Tryz.call97 Tryz.func97 (c:=qca) rfl (aI (aq ah a) trivial) z (by kernel_rfl)
 ·obtain rfl:=lf h
  have z:=sx lC<|bT (iV br1)<|sx lC<|sy (aF r1)<|cz (ck.ln a)<|di (e:=.exit 0) (s1:=j4 (.inr o16)) (Bg a (a.length:Int) false 0 0 ([]:ag) 0 ([]:List aa) r1.Op r1.Name r1.N r1.Kids bo16)<|sv (cm (⟨o16.2.2.2.2.1,o16.2.2.2.2.2.1,o16.2.2.2.2.2.2.1,o16.2.2.2.2.2.2.2⟩:aa) [])<|sx (dn (⟨o16.2.2.2.2.1,o16.2.2.2.2.2.1,o16.2.2.2.2.2.2.1,o16.2.2.2.2.2.2.2⟩:aa))<|en (aI (e8 (⟨o16.2.2.2.2.1,o16.2.2.2.2.2.1,o16.2.2.2.2.2.2.1,o16.2.2.2.2.2.2.2⟩:aa))<|(ah (⟨o16.2.2.2.2.1,o16.2.2.2.2.2.1,o16.2.2.2.2.2.2.1,o16.2.2.2.2.2.2.2⟩:aa)))
  exact cn Zn Tryz.call97 Tryz.func97 (c:=qca) rfl (aI (aq ah a) trivial) z (by kernel_rfl)
def qcD:Code:=Tryz.f80.body.getD .skip
def qbR:List Nat:=[]
section
variable(v:waB)(i:Int)(v2:aa)(m:waB)
def IJ:az:=aY 26 [(0,sl ac v),(1,.int .i64 i),(5,.eptr (ac v2)),(6,.bptr 1 0)] [.dead,.cells [.int .i64 0,.str ([]:ag),.int .i64 0,sl ac m] [(3,36)]] []
def rM(o:Bool):az:=aY 26 [(0,sl ac v),(1,.int .i64 i),(5,.eptr (ac v2)),(6,.bptr 1 0),(18,.bool o)] [.dead,.cells [.int .i64 0,.str ([]:ag),.int .i64 0,sl ac m] [(3,36)]] []
def wu:Option Bool:=
 if(decide (i>=(v.length:Int)))=true then
  some true
 else
  (cR v i).bind fun x2=>
  (iU x2 (⟨0,([]:ag),0,([]:List aa)⟩:aa)).bind fun r3=>
  some r3
theorem GW{x:Bool}(h:wu v i=some x):
  aT Pg GE 0 (cA qcD 12) (EX .normal (rM v i v2 m x)) (IJ v i v2 m):=by
 rcases aZ h with⟨c1,h⟩|⟨c1,h⟩
 ·obtain rfl:=lf h
  exact cw qbR (cz (ck.ln v)<|sg 5 c1<|eF .normal (rM v i v2 m true)) (by kernel_rfl)
 ·obtain⟨x2,bx2,h⟩:=aB h
  obtain⟨r3,br3,h⟩:=aB h
  obtain rfl:=lf h
  exact cw qbR (cz (ck.ln v)<|sg 5 c1<|sv (ck.ia (k:=.i64) bx2)<|sv (be x2)<|sb (tH) (tF)<|bT (oN br3)<|eF .normal (rM v i v2 m r3)) (by kernel_rfl)
end
def uh(a:waB)(i:Int)(a2:aa):Option aa:=
 (wu a i).bind fun o4=>
 if o4=true then
  (Fb ([]:List aa)).bind fun r7=>
  some r7
 else
  (cR a i).bind fun x8=>
  (ub x8 ([118]:ag) a2).bind fun r9=>
  some r9
theorem CX{a:waB}{i:Int}{a2:aa}{r:aa}(h:uh a i a2=some r):CC Pg GE 80 [sl ac a,.int .i64 i,.agg (ac a2)] (.agg (ac r)) []:=by
 obtain⟨o4,bo4,h⟩:=aB h
 have p6:=fun{sc F} (r:PS sc F)=>se (cr a2)<|sx lC<|nD 1<|di (GW a i a2 ([]:List aa) bo4)<|r
 rcases aZ h with⟨c5,h⟩|⟨c5,h⟩
 ·obtain⟨r7,br7,h⟩:=aB h
  obtain rfl:=lf h
  have z:=p6<|sg 0 c5<|bT (QI br7)<|sx (dn r7)<|en (aI (e8 r7)<|(ah r7))
  exact cn qbR Tryz.call80 Tryz.func80 (c:=qcD) rfl (aI (aq ah a) (aI trivial (aI (ah a2) trivial))) z (by kernel_rfl)
 ·obtain⟨x8,bx8,h⟩:=aB h
  obtain⟨r9,br9,h⟩:=aB h
  obtain rfl:=lf h
  have z:=p6<|sg 0 c5<|qX [0,0,3,7,0,31,63]<|sv (ck.ia (k:=.i64) bx8)<|sv (be x8)<|sv (be a2)<|bT (CW br9)<|Yw (dn r9)<|en (aI (e8 r9)<|(ah r9))
  exact cn qbR Tryz.call80 Tryz.func80 (c:=qcD) rfl (aI (aq ah a) (aI trivial (aI (ah a2) trivial))) z (by kernel_rfl)
def qb2:Code:=Tryz.f53.body.getD .skip
def qbQ:List Nat:=[55,58]
section
variable(w:aO)(v:ae)(v2:ae)(name:ag)(t51:waF)(t52:Int)(m:waB)(m2:waD)(m3:ag)(m4:waA)(m5:waG)(v3:waD)(t53:Int)
def dN:az:=aY 82 [(4,.eptr (aM w)),(5,.eptr (af v)),(6,.eptr (af v2)),(8,.bptr 3 0),(9,.str name),(10,.bptr 4 0),(13,sl ax v3),(51,sl bE t51),(52,.int .i64 t52),(53,.int .i64 t53)] [.dead,.dead,.dead,.cells [.int .i64 0,.str ([]:ag),.str ([]:ag),.int .i64 0,.str ([]:ag),.int .i64 0,sl ac m,.int .i64 0,sl ax m2] [(6,36),(8,50)],.cells [.int .i64 3,.str name,.int .i64 0,sl ac m] [(3,36)],.cells [.str m3,sl cS m4,sl bE t51,sl ef m5] []] [((13,0),50)]
def ir(o:waD):az:=aY 82 [(8,.bptr 3 0),(13,sl ax o)] [.dead,.dead,.dead,.cells [.int .i64 0,.str ([]:ag),.str ([]:ag),.int .i64 0,.str ([]:ag),.int .i64 0,sl ac m,.int .i64 0,sl ax m2] [(6,36),(8,50)],.cells [.int .i64 3,.str name,.int .i64 0,sl ac m] [(3,36)],.cells [.str m3,sl cS m4,sl bE t51,sl ef m5] []] [((13,0),50)]
def dg:Option ((waD×Int)⊕(waD)):=
 if(decide (t53<t52))=true then
  (cR t51 t53).bind fun x11=>
  (uh v.Preds t53 (⟨3,name,0,m⟩:aa)).bind fun r12=>
  (uh v2.Preds t53 (⟨3,name,0,m⟩:aa)).bind fun r13=>
  (eB w name x11.Sort_ r12 r13).bind fun r14=>
  (app v3 ([r14]:List ak)).bind fun l15=>
  some (.inl (l15,aR (t53+1)))
 else
  some (.inr v3)
def jl:Option waD:=loop (fun(zz:waD×Int)=>dg w v v2 name t51 t52 m zz.1 zz.2) (v3,t53)
theorem ui{y:(waD×Int)⊕(waD)}(h:dg w v v2 name t51 t52 m v3 t53=some y):
  aT Pg GE 0 (cA qb2 16215) (LQ (fun(zz:waD×Int)=>dN w v v2 name t51 t52 m m2 m3 m4 m5 zz.1 zz.2) (fun _=>.exit 0) (ir name t51 m m2 m3 m4 m5) y) (dN w v v2 name t51 t52 m m2 m3 m4 m5 v3 t53):=by
 rcases aZ h with⟨c10,h⟩|⟨c10,h⟩
 ·obtain⟨x11,bx11,h⟩:=aB h
  obtain⟨r12,br12,h⟩:=aB h
  obtain⟨r13,br13,h⟩:=aB h
  obtain⟨r14,br14,h⟩:=aB h
  obtain⟨l15,bl15,h⟩:=aB h
  obtain rfl:=lf h
  have z:=sg 0 c10<|sv (GT.ia (k:=.i64) bx11)<|sv (X1 x11)<|sx qbz<|sx (WE x11)<|qX [0,0,0,0,8,0,32,0,0,480,0,1024,0,0,16352,32766,65534,131071,262143]<|sv (eo w)<|ss<|sv (dJ v)<|sv (dM v)<|sv (cm (⟨3,name,0,m⟩:aa) [])<|bT (CX br12)<|sv (dJ v2)<|sv (dM v2)<|sv (cm (⟨3,name,0,m⟩:aa) [])<|bT (CX br13)<|bT (lH br14)<|sv (wt.mk' (v:=vq) pM ([r14]:List ak) 1 (by kernel_rfl))<|sv (wt.ap bl15)<|zn 0 .normal (dN w v v2 name t51 t52 m m2 m3 m4 m5 l15 (aR (t53+1))) rfl (eg (aI (oA (cK w)) (aI (oA (av v)) (aI (oA (av v2)) (aI (d6 rfl) (aI trivial (aI (d6 rfl) (aI (up (aq bA l15)) (aI (up (aq lu t51)) (aI trivial (aI trivial trivial))))))))))) (aI trivial (aI trivial (aI trivial (aI (aI trivial (aI trivial (aI trivial (aI trivial (aI trivial (aI trivial (aI (up (aq ah m)) (aI trivial (aI (up (aq bA m2)) trivial))))))))) (aI (aI trivial (aI trivial (aI trivial (aI (up (aq ah m)) trivial)))) (aI (aI trivial (aI (up (aq gG m4)) (aI (up (aq lu t51)) (aI (up (aq EC m5)) trivial)))) trivial))))))
  exact dS (A:=qbQ) mixed z (by kernel_rfl)
 ·obtain rfl:=lf h
  have z:=sg 0 c10<|eF (.exit 0) (ir name t51 m m2 m3 m4 m5 v3)
  exact i7 qbQ (by intro hx;cases hx) z (by kernel_rfl)
theorem ut{x:waD}(h:jl w v v2 name t51 t52 m v3 t53=some x):
  aT Pg GE 0 (.loop (cA qb2 16215)) (EX (.exit 0) (ir name t51 m m2 m3 m4 m5 x)) (dN w v v2 name t51 t52 m m2 m3 m4 m5 v3 t53):=
 aT.loop (S:=fun(zz:waD×Int)=>dN w v v2 name t51 t52 m m2 m3 m4 m5 zz.1 zz.2) (ex:=(fun _=>.exit 0)) (s:=(v3,t53)) h fun zz y hy=>ui w v v2 name t51 t52 m m2 m3 m4 m5 zz.1 zz.2 hy
end
def iz(w:aO)(a:ae)(a2:ae)(used:waA):Option ak:=
 (kO used ([118,49]:ag)).bind fun r1=>
 (vp a).bind fun r2=>
 (B3 r2).bind fun r3=>
 (pS a (⟨3,r1,0,([]:List aa)⟩:aa)).bind fun r4=>
 (pS a2 (⟨3,r1,0,([]:List aa)⟩:aa)).bind fun r5=>
 (eB w r1 r3.1 r4 r5).bind fun r6=>
 if(a.Op==4)=true then
  (vj w.m a.Name).bind fun r9=>
  (jl w a a2 r1 r9.1.Preds (r9.1.Preds.length:Int) ([]:List aa) ([r6]:List ak) 0).bind fun o16=>
  (oB o16).bind fun r17=>
  some r17
 else
  (cR ([r6]:List ak) 0).bind fun x18=>
  some x18
theorem yP{w:aO}{a:ae}{a2:ae}{used:waA}{r:ak}(h:iz w a a2 used=some r):CC Pg GE 53 [.agg (aM w),.agg (af a),.agg (af a2),sl cS used] (.agg (ax r)) []:=by
 obtain⟨r1,br1,h⟩:=aB h
 obtain⟨r2,br2,h⟩:=aB h
 obtain⟨r3,br3,h⟩:=aB h
 obtain⟨r4,br4,h⟩:=aB h
 obtain⟨r5,br5,h⟩:=aB h
 obtain⟨r6,br6,h⟩:=aB h
 have p8:=fun{sc F} (r:PS sc F)=>se (g8 w)<|se (cF a)<|se (cF a2)<|sx zq<|bT (tV br1)<|sb (ou 3 r1) (oq 3 r1)<|sx lC<|sy (aF (⟨3,r1,0,([]:List aa)⟩:aa))<|sv (bw a)<|bT (Bv br2)<|bT (K8 br3)<|qX [0,0,0,0,0,24,0,0,248,511,1023,2047]<|sv (eo w)<|sv (bw a)<|sv (cm (⟨3,r1,0,([]:List aa)⟩:aa) [])<|bT (ws br4)<|sv (bw a2)<|sv (cm (⟨3,r1,0,([]:List aa)⟩:aa) [])<|bT (ws br5)<|bT (lH br6)<|sv (wt.mk' (v:=vq) pM ([r6]:List ak) 1 (by kernel_rfl))<|sv (aK a)<|sv (aL a)<|r
 rcases aZ h with⟨c7,h⟩|⟨c7,h⟩
 ·obtain⟨r9,br9,h⟩:=aB h
  obtain⟨o16,bo16,h⟩:=aB h
  obtain⟨r17,br17,h⟩:=aB h
  obtain rfl:=lf h
  have z:=p8<|sg 0 c7<|sv (wU w)<|sv (yA w)<|sv (df a)<|sv (dA a)<|bT (K9 br9)<|sx Yl<|sx (Gz r9.1)<|ss<|cz (GT.ln r9.1.Preds)<|di (ut w a a2 r1 r9.1.Preds (r9.1.Preds.length:Int) ([]:List aa) ([]:List ak) r9.1.Name r9.1.Vars r9.1.Cons ([r6]:List ak) 0 bo16)<|bT (uQ br17)<|sy (cE r17)<|en (aI (e7 r17)<|(bA r17))
  exact cn qbQ Tryz.call53 Tryz.func53 (c:=qb2) rfl (aI (cK w) (aI (av a) (aI (av a2) (aI (aq gG used) trivial)))) z (by kernel_rfl)
 ·obtain⟨x18,bx18,h⟩:=aB h
  obtain rfl:=lf h
  have z:=p8<|sg 0 c7<|sv (wt.ia (k:=.i64) bx18)<|sv (oJ x18)<|sx (dG x18)<|en (aI (e7 x18)<|(bA x18))
  exact cn qbQ Tryz.call53 Tryz.func53 (c:=qb2) rfl (aI (cK w) (aI (av a) (aI (av a2) (aI (aq gG used) trivial)))) z (by kernel_rfl)
def qbY:Code:=Tryz.f35.body.getD .skip
def qbO:List Nat:=[]
def ib(R51:du)(w:aO)(a:ae)(a2:ae)(used:waA):Option ak:=
 if(a.Op==6)=true then
  if((a.Args.length:Int)==0)=true then
   some (⟨1,([]:ag),([]:ag),(⟨0,([]:ag),0,([]:List aa)⟩:aa),0,([]:List ak)⟩:ak)
  else
   (fH R51 w a a2 used).bind fun r5=>
   some r5
 else
  (jk a).bind fun r6=>
  if(!r6)=true then
   some (⟨1,([]:ag),([]:ag),(⟨0,([]:ag),0,([]:List aa)⟩:aa),0,([]:List ak)⟩:ak)
  else
   (iz w a a2 used).bind fun r9=>
   some r9
theorem yR(R51:du)(hR51:gU R51){w:aO}{a:ae}{a2:ae}{used:waA}{r:ak}(h:ib R51 w a a2 used=some r):CC Pg GE 35 [.agg (aM w),.agg (af a),.agg (af a2),sl cS used] (.agg (ax r)) []:=by
 have p2:=fun{sc F} (r:PS sc F)=>se (g8 w)<|se (cF a)<|se (cF a2)<|sx zq<|sv (eo w)<|sv (aK a)<|sv (aL a)<|r
 rcases aZ h with⟨c1,h⟩|⟨c1,h⟩
 ·have p4:=fun{sc F} (r:PS sc F)=>p2<|sg 0 c1<|sv (aW a)<|sv (aX a)<|cz (cX.ln a.Args)<|r
  rcases aZ h with⟨c3,h⟩|⟨c3,h⟩
  ·obtain rfl:=lf h
   have z:=p4<|sg 0 c3<|sb (Dm 1) (Dk 1)<|sy (cE (⟨1,([]:ag),([]:ag),(⟨0,([]:ag),0,([]:List aa)⟩:aa),0,([]:List ak)⟩:ak))<|en (aI (e7 (⟨1,([]:ag),([]:ag),(⟨0,([]:ag),0,([]:List aa)⟩:aa),0,([]:List ak)⟩:ak))<|(bA (⟨1,([]:ag),([]:ag),(⟨0,([]:ag),0,([]:List aa)⟩:aa),0,([]:List ak)⟩:ak)))
   exact cn qbO Tryz.call35 Tryz.func35 (c:=qbY) rfl (aI (cK w) (aI (av a) (aI (av a2) (aI (aq gG used) trivial)))) z (by kernel_rfl)
  ·obtain⟨r5,br5,h⟩:=aB h
   obtain rfl:=lf h
   have z:=p4<|sg 0 c3<|sv (eo w)<|sv (bw a)<|sv (bw a2)<|bT (uj R51 hR51 br5)<|sx (dG r5)<|en (aI (e7 r5)<|(bA r5))
   exact cn qbO Tryz.call35 Tryz.func35 (c:=qbY) rfl (aI (cK w) (aI (av a) (aI (av a2) (aI (aq gG used) trivial)))) z (by kernel_rfl)
 ·obtain⟨r6,br6,h⟩:=aB h
  have p8:=fun{sc F} (r:PS sc F)=>p2<|sg 0 c1<|sv (bw a)<|bT (nh br6)<|r
  rcases aZ h with⟨c7,h⟩|⟨c7,h⟩
  ·obtain rfl:=lf h
   have z:=p8<|sg 0 c7<|sb (Dm 1) (Dk 1)<|sy (cE (⟨1,([]:ag),([]:ag),(⟨0,([]:ag),0,([]:List aa)⟩:aa),0,([]:List ak)⟩:ak))<|en (aI (e7 (⟨1,([]:ag),([]:ag),(⟨0,([]:ag),0,([]:List aa)⟩:aa),0,([]:List ak)⟩:ak))<|(bA (⟨1,([]:ag),([]:ag),(⟨0,([]:ag),0,([]:List aa)⟩:aa),0,([]:List ak)⟩:ak)))
   exact cn qbO Tryz.call35 Tryz.func35 (c:=qbY) rfl (aI (cK w) (aI (av a) (aI (av a2) (aI (aq gG used) trivial)))) z (by kernel_rfl)
  ·obtain⟨r9,br9,h⟩:=aB h
   obtain rfl:=lf h
   have z:=p8<|sg 0 c7<|sv (bw a)<|sv (bw a2)<|bT (yP br9)<|sx (dG r9)<|en (aI (e7 r9)<|(bA r9))
   exact cn qbO Tryz.call35 Tryz.func35 (c:=qbY) rfl (aI (cK w) (aI (av a) (aI (av a2) (aI (aq gG used) trivial)))) z (by kernel_rfl)
def kX:((aO×ae×ae×waA)->Option ak)->(aO×ae×ae×waA)->Option ak:=fun(rec:(aO×ae×ae×waA)->Option ak) (x:aO×ae×ae×waA)=>ib (fun w a a2 used=>rec (w,a,a2,used)) x.1 x.2.1 x.2.2.1 x.2.2.2
def nE(w:aO)(a:ae)(a2:ae)(used:waA):Option ak:=oG kX (w,a,a2,used)
theorem zu{w:aO}{a:ae}{a2:ae}{used:waA}{r:ak}(h:nE w a a2 used=some r):CC Pg GE 35 [.agg (aM w),.agg (af a),.agg (af a2),sl cS used] (.agg (ax r)) []:=
 cU (F:=kX) (M:=fun(x:aO×ae×ae×waA) (r:ak)=>CC Pg GE 35 [.agg (aM x.1),.agg (af x.2.1),.agg (af x.2.2.1),sl cS x.2.2.2] (.agg (ax r)) []) (fun rec hrec x r h=>yR _ (fun w a a2 used r h=>hrec (w,a,a2,used) r h) h) h
def qdd:Code:=Tryz.f12.body.getD .skip
def qc6:List Nat:=[]
def kW(m:aQ)(a:ae)(a2:ae)(tag:Int)(used:waA):Option (ak×Int):=
 (D1 a a2).bind fun r1=>
 if(!r1)=true then
  some ((⟨0,([]:ag),([]:ag),(⟨0,([]:ag),0,([]:List aa)⟩:aa),0,([]:List ak)⟩:ak),12)
 else
  (nE (⟨m,tag⟩:aO) a a2 used).bind fun r4=>
  some (r4,0)
theorem o8{m:aQ}{a:ae}{a2:ae}{tag:Int}{used:waA}{r:ak×Int}(h:kW m a a2 tag used=some r):CC Pg GE 12 [.agg (aC m),.agg (af a),.agg (af a2),.int .i64 tag,sl cS used] (.tuple [.agg (ax r.1),.int .i64 r.2]) []:=by
 obtain⟨r1,br1,h⟩:=aB h
 have p3:=fun{sc F} (r:PS sc F)=>se (tX m)<|se (cF a)<|se (cF a2)<|sx zq<|sv (bw a)<|sv (bw a2)<|bT (Mr br1)<|r
 rcases aZ h with⟨c2,h⟩|⟨c2,h⟩
 ·obtain rfl:=lf h
  have z:=p3<|sg 0 c2<|sb (Ru) (Rp)<|sy (cE (⟨0,([]:ag),([]:ag),(⟨0,([]:ag),0,([]:List aa)⟩:aa),0,([]:List ak)⟩:ak))<|en (aI (vbr PVal.tuple (Hd (e7 (⟨0,([]:ag),([]:ag),(⟨0,([]:ag),0,([]:List aa)⟩:aa),0,([]:List ak)⟩:ak)) (Hd (rP (.int .i64 12)) (rfl:([]:List PVal)=[]))))<|(aI (bA (⟨0,([]:ag),([]:ag),(⟨0,([]:ag),0,([]:List aa)⟩:aa),0,([]:List ak)⟩:ak)) (aI trivial trivial)))
  exact cn qc6 Tryz.call12 Tryz.func12 (c:=qdd) rfl (aI (eW m) (aI (av a) (aI (av a2) (aI trivial (aI (aq gG used) trivial))))) z (by kernel_rfl)
 ·obtain⟨r4,br4,h⟩:=aB h
  obtain rfl:=lf h
  have z:=p3<|sg 0 c2<|sv (DB m)<|sv (zf m tag)<|sv (bw a)<|sv (bw a2)<|bT (zu br4)<|sx (dG r4)<|en (aI (vbr PVal.tuple (Hd (e7 r4) (Hd (rP (.int .i64 0)) (rfl:([]:List PVal)=[]))))<|(aI (bA r4) (aI trivial trivial)))
  exact cn qc6 Tryz.call12 Tryz.func12 (c:=qdd) rfl (aI (eW m) (aI (av a) (aI (av a2) (aI trivial (aI (aq gG used) trivial))))) z (by kernel_rfl)
abbrev kb:=(ak->aE->waE->Option waE)
abbrev nY(R:kb):Prop:=∀(c:ak) (above:aE) (a:waE) (r:waE),R c above a=some r->C Pg GE 41 [.agg (ax c),.agg (aN above),sl aN a] [((2,0),62)] [] (sl aN r) [(0,62)] []
abbrev ye:=(aa->Option waB)
abbrev ND(R:ye):Prop:=∀(p:aa) (r:waB),R p=some r->CC Pg GE 63 [.agg (ac p)] (sl ac r) [(0,36)]
def qb3:Code:=Tryz.f63.body.getD .skip
def qaF:List Nat:=[]
section
variable(p:aa)
def IB:az:=aY 28 [(1,.eptr (ac p))] [.dead] []
def rD(o:Bool):az:=aY 28 [(1,.eptr (ac p)),(11,.bool o)] [.dead] []
def CU:Option Bool:=
 if(p.Op==15)=true then
  some ((p.Kids.length:Int)==2)
 else
  some false
theorem GI{x:Bool}(h:CU p=some x):
  aT Pg GE 0 (cA qb3 12) (EX .normal (rD p x)) (IB p):=by
 have p2:=fun{sc F} (r:PS sc F)=>sv (bC p)<|sv (bD p)<|r
 rcases aZ h with⟨c1,h⟩|⟨c1,h⟩
 ·obtain rfl:=lf h
  exact cw qaF (p2<|sg 4 c1<|sv (bq p)<|sv (bu p)<|cz (ck.ln p.Kids)<|eF .normal (rD p ((p.Kids.length:Int)==2))) (by kernel_rfl)
 ·obtain rfl:=lf h
  exact cw qaF (p2<|sg 4 c1<|eF .normal (rD p false)) (by kernel_rfl)
end
def Fd(R93:ye)(p:aa):Option waB:=
 (CU p).bind fun o3=>
 if o3=true then
  (cR p.Kids 0).bind fun x6=>
  (R93 x6).bind fun r7=>
  (cR p.Kids 1).bind fun x8=>
  (R93 x8).bind fun r9=>
  (app r7 r9).bind fun l10=>
  some l10
 else
  (xj p).bind fun r11=>
  if r11=true then
   some ([]:List aa)
  else
   (nQ p).bind fun r14=>
   some ([r14]:List aa)
theorem KX(R93:ye)(hR93:ND R93){p:aa}{r:waB}(h:Fd R93 p=some r):CC Pg GE 63 [.agg (ac p)] (sl ac r) [(0,36)]:=by
 obtain⟨o3,bo3,h⟩:=aB h
 have p5:=fun{sc F} (r:PS sc F)=>se (cr p)<|nD 1<|di (GI p bo3)<|r
 rcases aZ h with⟨c4,h⟩|⟨c4,h⟩
 ·obtain⟨x6,bx6,h⟩:=aB h
  obtain⟨r7,br7,h⟩:=aB h
  obtain⟨x8,bx8,h⟩:=aB h
  obtain⟨r9,br9,h⟩:=aB h
  obtain⟨l10,bl10,h⟩:=aB h
  obtain rfl:=lf h
  have z:=p5<|sg 0 c4<|qX [0,1,3,7,15,0,32,96,224,511,1023,2047]<|sv (bq p)<|sv (bu p)<|sv (ck.ia (k:=.i64) bx6)<|sv (be x6)<|bT (hR93 _ _ br7)<|sv (bq p)<|sv (bu p)<|sv (ck.ia (k:=.i64) bx8)<|sv (be x8)<|bT (hR93 _ _ br9)<|sv (ck.ap bl10)<|en (aI (rP (sl ac l10))<|(aq ah l10))
  exact cn qaF Tryz.call63 Tryz.func63 (c:=qb3) rfl (aI (ah p) trivial) z (by kernel_rfl)
 ·obtain⟨r11,br11,h⟩:=aB h
  have p13:=fun{sc F} (r:PS sc F)=>p5<|sg 0 c4<|sv (be p)<|bT (Fi br11)<|r
  rcases aZ h with⟨c12,h⟩|⟨c12,h⟩
  ·obtain rfl:=lf h
   have z:=p13<|sg 0 c12<|en (aI (rP (sl ac ([]:List aa)))<|(aq ah ([]:List aa)))
   exact cn qaF Tryz.call63 Tryz.func63 (c:=qb3) rfl (aI (ah p) trivial) z (by kernel_rfl)
  ·obtain⟨r14,br14,h⟩:=aB h
   obtain rfl:=lf h
   have z:=p13<|sg 0 c12<|sv (be p)<|bT (oO br14)<|sv (ck.mk' (v:=fe) dl ([r14]:List aa) 1 (by kernel_rfl))<|en (aI (rP (sl ac ([r14]:List aa)))<|(aq ah ([r14]:List aa)))
   exact cn qaF Tryz.call63 Tryz.func63 (c:=qb3) rfl (aI (ah p) trivial) z (by kernel_rfl)
def Fe:(aa->Option waB)->(aa)->Option waB:=fun(rec:aa->Option waB) (x:aa)=>Fd (fun p=>rec p) x
def DN(p:aa):Option waB:=oG Fe p
theorem CV{p:aa}{r:waB}(h:DN p=some r):CC Pg GE 63 [.agg (ac p)] (sl ac r) [(0,36)]:=
 cU (F:=Fe) (M:=fun(x:aa) (r:waB)=>CC Pg GE 63 [.agg (ac x)] (sl ac r) [(0,36)]) (fun rec hrec x r h=>KX _ (fun p r h=>hrec p r h) h) h
end Go.Proofs.YtbaamopmfmpfaaaGreatDoor
