/- PROVED: a part of the proof. Conditions: none. -/
import Derived.Test.YtkdahfeiedaahaaGreatDoorPkD15
noncomputable section
namespace Go.Proofs.YtkdahfeiedaahaaGreatDoor
open Go Go.Proofs.Tryz
set_option linter.unusedVariables false
set_option maxRecDepth 100000
abbrev u7:=(ai->Option Int)
abbrev zN(R:u7):Prop:=∀(t:ai) (r:Int),R t=some r->CC Pg GE 145 [.agg (ah t)] (.int .i64 r) []
noncomputable def YN:Code:=f166.body.getD .skip
def Uj:List Nat:=[]
theorem Z166:ZF Uj 166 f166 YN:=⟨call166,func166,rfl⟩
section
variable(t:ai)
def IE:aB:=aS 39 [(1,.eptr (ah t))] [.dead] []
def kQ(o:Bool):aB:=aS 39 [(38,.bool o)] [.dead] []
def C8:Option Bool:=
 if(decide ((t.Args.length:Int)<2))=true then
  some true
 else
  if(decide ((t.Args.length:Int)>7))=true then
   some true
  else
   if((t.Names.length:Int)!=0)=true then
    some ((t.Names.length:Int)!=(bB ((t.Args.length:Int) - 1)))
   else
    some false
theorem Hp{x:Bool}(h:C8 t=some x):aW Pg GE 0 (cA YN 892) (EX .normal (kQ x)) (IE t):=by
 have p8:=fun{sc F} (r:PS sc F)=>sv (dA t)<|sv (dB t)<|bQ (ee.ln t.Args)<|r
 rcases aO h with⟨c7,h⟩|⟨c7,h⟩
 ·obtain rfl:=lf h
  exact bv Uj (p8<|sg 5 c7<|eF .normal (kQ true))<|by kernel_rfl
 ·have p10:=fun{sc F} (r:PS sc F)=>p8<|sg 5 c7<|sv (dA t)<|sv (dB t)<|bQ (ee.ln t.Args)<|r
  rcases aO h with⟨c9,h⟩|⟨c9,h⟩
  ·obtain rfl:=lf h
   exact bv Uj (p10<|sg 11 c9<|eF .normal (kQ true))<|by kernel_rfl
  ·have p12:=fun{sc F} (r:PS sc F)=>p10<|sg 11 c9<|sv (e9 t)<|sv (fb t)<|bQ (bN.ln t.Names)<|r
   rcases aO h with⟨c11,h⟩|⟨c11,h⟩
   ·obtain rfl:=lf h
    exact bv Uj (p12<|sg 16 c11<|sv (e9 t)<|sv (fb t)<|bQ (bN.ln t.Names)<|sv (dA t)<|sv (dB t)<|bQ (ee.ln t.Args)<|eF .normal (kQ ((t.Names.length:Int)!=(bB ((t.Args.length:Int) - 1)))))<|by kernel_rfl
   ·obtain rfl:=lf h
    exact bv Uj (p12<|sg 16 c11<|eF .normal (kQ false))<|by kernel_rfl
end
def Jm(t:ai):Option Int:=
 if(t.Op==4)=true then
  if(decide ((t.Args.length:Int)>6))=true then
   some 13
  else
   some 0
 else
  if(t.Op==6)=true then
   (C8 t).bind fun o13=>
   if o13=true then
    some 13
   else
    some 0
  else
   some 0
theorem Mo{t:ai}{r:Int}(h:Jm t=some r):CC Pg GE 166 [.agg (ah t)] (.int .i64 r) []:=by
 have p2:=fun{sc F} (r:PS sc F)=>se (qL t)<|sv (db t)<|sv (dc t)<|r
 rcases aO h with⟨c1,h⟩|⟨c1,h⟩
 ·have p4:=fun{sc F} (r:PS sc F)=>p2<|sg 0 c1<|sv (dA t)<|sv (dB t)<|bQ (ee.ln t.Args)<|r
  rcases aO h with⟨c3,h⟩|⟨c3,h⟩
  ·obtain rfl:=lf h
   have z:=p4<|sg 0 c3<|en (aI (rP (.int .i64 13))<|trivial)
   exact Z166.v (aI (aF t) trivial) z<|by kernel_rfl
  ·obtain rfl:=lf h
   have z:=p4<|sg 0 c3<|en (aI (rP (.int .i64 0))<|trivial)
   exact Z166.v (aI (aF t) trivial) z<|by kernel_rfl
 ·have p6:=fun{sc F} (r:PS sc F)=>p2<|sg 0 c1<|r
  rcases aO h with⟨c5,h⟩|⟨c5,h⟩
  ·obtain⟨o13,bo13,h⟩:=ck h
   have p15:=fun{sc F} (r:PS sc F)=>p6<|sg 0 c5<|nF 0<|cT (Hp t bo13)<|r
   rcases aO h with⟨c14,h⟩|⟨c14,h⟩
   ·obtain rfl:=lf h
    have z:=p15<|sg 0 c14<|en (aI (rP (.int .i64 13))<|trivial)
    exact Z166.v (aI (aF t) trivial) z<|by kernel_rfl
   ·obtain rfl:=lf h
    have z:=p15<|sg 0 c14<|en (aI (rP (.int .i64 0))<|trivial)
    exact Z166.v (aI (aF t) trivial) z<|by kernel_rfl
  ·obtain rfl:=lf h
   have z:=p6<|sg 0 c5<|en (aI (rP (.int .i64 0))<|trivial)
   exact Z166.v (aI (aF t) trivial) z<|by kernel_rfl
noncomputable def PP:Code:=f145.body.getD .skip
def sd:List Nat:=[68,100]
theorem Z145:ZF sd 145 f145 PP:=⟨call145,func145,rfl⟩
section
variable(t:ai)
def Kf:aB:=aS 102 [(1,.eptr (ah t))] [.dead] []
def uA(o:Bool):aB:=aS 102 [(1,.eptr (ah t)),(3,.bool o)] [.dead] []
def EK:Option Bool:=
 if(t.Op==4)=true then
  some true
 else
  some (t.Op==5)
theorem IF{x:Bool}(h:EK t=some x):aW Pg GE 0 (cA PP 6) (EX .normal (uA t x)) (Kf t):=by
 have p2:=fun{sc F} (r:PS sc F)=>sv (db t)<|sv (dc t)<|r
 rcases aO h with⟨c1,h⟩|⟨c1,h⟩
 ·obtain rfl:=lf h
  exact bv sd (p2<|sg 4 c1<|eF .normal (uA t true))<|by kernel_rfl
 ·obtain rfl:=lf h
  exact bv sd (p2<|sg 4 c1<|sv (db t)<|sv (dc t)<|eF .normal (uA t (t.Op==5)))<|by kernel_rfl
end
section
variable(t:ai)(named:Bool)
def Kg:aB:=aS 102 [(1,.eptr (ah t)),(3,.bool named)] [.dead] []
def uB(o:Bool):aB:=aS 102 [(1,.eptr (ah t)),(3,.bool named),(4,.bool o)] [.dead] []
def EL:Option Bool:=
 if(t.Op==4)=true then
  some true
 else
  some (t.Op==6)
theorem IG{x:Bool}(h:EL t=some x):aW Pg GE 0 (cA PP 14) (EX .normal (uB t named x)) (Kg t named):=by
 have p5:=fun{sc F} (r:PS sc F)=>sv (db t)<|sv (dc t)<|r
 rcases aO h with⟨c4,h⟩|⟨c4,h⟩
 ·obtain rfl:=lf h
  exact bv sd (p5<|sg 4 c4<|eF .normal (uB t named true))<|by kernel_rfl
 ·obtain rfl:=lf h
  exact bv sd (p5<|sg 4 c4<|sv (db t)<|sv (dc t)<|eF .normal (uB t named (t.Op==6)))<|by kernel_rfl
end
section
variable(t:ai)(named:Bool)(compound:Bool)
def Kh:aB:=aS 102 [(1,.eptr (ah t)),(3,.bool named),(4,.bool compound)] [.dead] []
def cV(o:Bool):aB:=aS 102 [(1,.eptr (ah t)),(3,.bool named),(63,.bool o)] [.dead] []
def EM:Option Bool:=
 if(decide (t.Op<1))=true then
  some true
 else
  if(decide (t.Op>6))=true then
   some true
  else
   if (!(t.Name == ([]:ae))) = true then
    if(!named)=true then
     some true
    else
     if (decide ((t.Args.length:Int) > 0)) = true then
      if(!compound)=true then
       some true
      else
       if(decide ((t.Names.length:Int)>0))=true then
        some (t.Op !=6)
       else
        some false
     else
      if(decide ((t.Names.length:Int)>0))=true then
       some (t.Op !=6)
      else
       some false
   else
    if (decide ((t.Args.length:Int) > 0)) = true then
     if(!compound)=true then
      some true
     else
      if(decide ((t.Names.length:Int)>0))=true then
       some (t.Op !=6)
      else
       some false
    else
     if(decide ((t.Names.length:Int)>0))=true then
      some (t.Op !=6)
     else
      some false
theorem IH{x:Bool}(h:EM t named compound=some x):aW Pg GE 0 (cA PP 60) (EX .normal (cV t named x)) (Kh t named compound):=by
 have p8:=fun{sc F} (r:PS sc F)=>sv (db t)<|sv (dc t)<|r
 rcases aO h with⟨c7,h⟩|⟨c7,h⟩
 ·obtain rfl:=lf h
  exact bv sd (p8<|sg 4 c7<|eF .normal (cV t named true))<|by kernel_rfl
 ·have p10:=fun{sc F} (r:PS sc F)=>p8<|sg 4 c7<|sv (db t)<|sv (dc t)<|r
  rcases aO h with⟨c9,h⟩|⟨c9,h⟩
  ·obtain rfl:=lf h
   exact bv sd (p10<|sg 9 c9<|eF .normal (cV t named true))<|by kernel_rfl
  ·have p12:=fun{sc F} (r:PS sc F)=>p10<|sg 9 c9<|sv (gH t)<|sv (iK t)<|r
   rcases aO h with⟨c11,h⟩|⟨c11,h⟩
   ·have p14:=fun{sc F} (r:PS sc F)=>p12<|sg 13 c11<|r
    rcases aO h with⟨c13,h⟩|⟨c13,h⟩
    ·obtain rfl:=lf h
     exact bv sd (p14<|sg 18 c13<|eF .normal (cV t named true))<|by kernel_rfl
    ·have p16:=fun{sc F} (r:PS sc F)=>p14<|sg 18 c13<|sv (dA t)<|sv (dB t)<|bQ (ee.ln t.Args)<|r
     rcases aO h with⟨c15,h⟩|⟨c15,h⟩
     ·have p18:=fun{sc F} (r:PS sc F)=>p16<|sg 23 c15<|r
      rcases aO h with⟨c17,h⟩|⟨c17,h⟩
      ·obtain rfl:=lf h
       exact bv sd (p18<|sg 28 c17<|eF .normal (cV t named true))<|by kernel_rfl
      ·have p20:=fun{sc F} (r:PS sc F)=>p18<|sg 28 c17<|sv (e9 t)<|sv (fb t)<|bQ (bN.ln t.Names)<|r
       rcases aO h with⟨c19,h⟩|⟨c19,h⟩
       ·obtain rfl:=lf h
        exact bv sd (p20<|sg 33 c19<|sv (db t)<|sv (dc t)<|eF .normal (cV t named (t.Op !=6)))<|by kernel_rfl
       ·obtain rfl:=lf h
        exact bv sd (p20<|sg 33 c19<|eF .normal (cV t named false))<|by kernel_rfl
     ·have p22:=fun{sc F} (r:PS sc F)=>p16<|sg 23 c15<|sv (e9 t)<|sv (fb t)<|bQ (bN.ln t.Names)<|r
      rcases aO h with⟨c21,h⟩|⟨c21,h⟩
      ·obtain rfl:=lf h
       exact bv sd (p22<|sg 33 c21<|sv (db t)<|sv (dc t)<|eF .normal (cV t named (t.Op !=6)))<|by kernel_rfl
      ·obtain rfl:=lf h
       exact bv sd (p22<|sg 33 c21<|eF .normal (cV t named false))<|by kernel_rfl
   ·have p24:=fun{sc F} (r:PS sc F)=>p12<|sg 13 c11<|sv (dA t)<|sv (dB t)<|bQ (ee.ln t.Args)<|r
    rcases aO h with⟨c23,h⟩|⟨c23,h⟩
    ·have p26:=fun{sc F} (r:PS sc F)=>p24<|sg 23 c23<|r
     rcases aO h with⟨c25,h⟩|⟨c25,h⟩
     ·obtain rfl:=lf h
      exact bv sd (p26<|sg 28 c25<|eF .normal (cV t named true))<|by kernel_rfl
     ·have p28:=fun{sc F} (r:PS sc F)=>p26<|sg 28 c25<|sv (e9 t)<|sv (fb t)<|bQ (bN.ln t.Names)<|r
      rcases aO h with⟨c27,h⟩|⟨c27,h⟩
      ·obtain rfl:=lf h
       exact bv sd (p28<|sg 33 c27<|sv (db t)<|sv (dc t)<|eF .normal (cV t named (t.Op !=6)))<|by kernel_rfl
      ·obtain rfl:=lf h
       exact bv sd (p28<|sg 33 c27<|eF .normal (cV t named false))<|by kernel_rfl
    ·have p30:=fun{sc F} (r:PS sc F)=>p24<|sg 23 c23<|sv (e9 t)<|sv (fb t)<|bQ (bN.ln t.Names)<|r
     rcases aO h with⟨c29,h⟩|⟨c29,h⟩
     ·obtain rfl:=lf h
      exact bv sd (p30<|sg 33 c29<|sv (db t)<|sv (dc t)<|eF .normal (cV t named (t.Op !=6)))<|by kernel_rfl
     ·obtain rfl:=lf h
      exact bv sd (p30<|sg 33 c29<|eF .normal (cV t named false))<|by kernel_rfl
end
section
variable(t:ai)
def Kj:aB:=aS 102 [(1,.eptr (ah t))] [.dead] []
def uC(o:Bool):aB:=aS 102 [(1,.eptr (ah t)),(6,.bool o)] [.dead] []
def EO:Option Bool:=
 (DJ t.Name 0).bind fun c41=>
 if(decide (c41>=65))=true then
  (DJ t.Name 0).bind fun c44=>
  some (decide (c44<=90))
 else
  some false
theorem II{x:Bool}(h:EO t=some x):aW Pg GE 0 (cA PP 2026) (EX .normal (uC t x)) (Kj t):=by
 obtain⟨c41,bc41,h⟩:=ck h
 have p43:=fun{sc F} (r:PS sc F)=>sv (gH t)<|sv (iK t)<|sv (ye (k:=.i64) underlying9 bc41)<|r
 rcases aO h with⟨c42,h⟩|⟨c42,h⟩
 ·obtain⟨c44,bc44,h⟩:=ck h
  obtain rfl:=lf h
  exact bv sd (p43<|sg 5 c42<|sv (gH t)<|sv (iK t)<|sv (ye (k:=.i64) underlying9 bc44)<|eF .normal (uC t (decide (c44<=90))))<|by kernel_rfl
 ·obtain rfl:=lf h
  exact bv sd (p43<|sg 5 c42<|eF .normal (uC t false))<|by kernel_rfl
end
section
variable(t:ai)(named:Bool)
def Ki:aB:=aS 102 [(1,.eptr (ah t)),(3,.bool named)] [.dead] []
def lW(o:Unit⊕(Unit)):Exit:=match o with
 |(.inl _)=>.ret
 |(.inr _)=>.normal
def fN(o:Unit⊕(Unit)):aB:=match o with
 |(.inl o)=>aS 102 [(2,.int .i64 3)] [.dead] []
 |(.inr o)=>aS 102 [(1,.eptr (ah t))] [.dead] []
def EN:Option (Unit⊕(Unit)):=
 if named=true then
  (Fg t.Name).bind fun r38=>
  if(r38 !=0)=true then
   some (.inl ())
  else
   (EO t).bind fun o45=>
   if(!(o45==(t.Op==4)))=true then
    some (.inl ())
   else
    some (.inr ())
 else
  some (.inr ())
theorem sX{x:Unit⊕(Unit)}(h:EN t named=some x):aW Pg GE 0 (cA PP 126) (EX (lW x) (fN t x)) (Ki t named):=by
 rcases aO h with⟨c37,h⟩|⟨c37,h⟩
 ·obtain⟨r38,br38,h⟩:=ck h
  have p40:=fun{sc F} (r:PS sc F)=>sg 0 c37<|sv (gH t)<|sv (iK t)<|cD (Es br38)<|r
  rcases aO h with⟨c39,h⟩|⟨c39,h⟩
  ·obtain rfl:=lf h
   exact bv sd (p40<|sg 0 c39<|eF (lW (.inl ())) (fN t (.inl ())))<|by kernel_rfl
  ·obtain⟨o45,bo45,h⟩:=ck h
   have p47:=fun{sc F} (r:PS sc F)=>p40<|sg 0 c39<|nF 0<|cT (II t bo45)<|sv (db t)<|sv (dc t)<|r
   rcases aO h with⟨c46,h⟩|⟨c46,h⟩
   ·obtain rfl:=lf h
    exact bv sd (p47<|sg 0 c46<|eF (lW (.inl ())) (fN t (.inl ())))<|by kernel_rfl
   ·obtain rfl:=lf h
    exact bv sd (p47<|sg 0 c46<|eF (lW (.inr ())) (fN t (.inr ())))<|by kernel_rfl
 ·obtain rfl:=lf h
  exact bv sd (sg 0 c37<|eF (lW (.inr ())) (fN t (.inr ())))<|by kernel_rfl
end
section
variable(R87:u7)(t90:waC)(t91:Int)(t92:Int)
def py:aB:=aS 102 [(90,sl ah t90),(91,.int .i64 t91),(92,.int .i64 t92)] [.dead] []
def pz(o:Int⊕(Unit)):Exit:=match o with
 |(.inl _)=>.ret
 |(.inr _)=>.exit 0
def jP(o:Int⊕(Unit)):aB:=match o with
 |(.inl o)=>aS 102 [(2,.int .i64 o)] [.dead] []
 |(.inr o)=>aS 102 [] [.dead] []
def Bm:Option (Int⊕(Int⊕(Unit))):=
 if(decide (t92<t91))=true then
  (eT t90 t92).bind fun x50=>
  (R87 x50).bind fun r51=>
  if(r51 !=0)=true then
   some (.inr (.inl r51))
  else
   some (.inl (bB (t92+1)))
 else
  some (.inr (.inr ()))
def EP:Option (Int⊕(Unit)):=loop (fun(zz:Int)=>Bm R87 t90 t91 zz) t92
theorem Ht(hR87:zN R87){y:Int⊕(Int⊕(Unit))}(h:Bm R87 t90 t91 t92=some y):aW Pg GE 0 (cA PP 2039) (LQ (fun(zz:Int)=>py t90 t91 zz) pz jP y) (py t90 t91 t92):=by
 rcases aO h with⟨c49,h⟩|⟨c49,h⟩
 ·obtain⟨x50,bx50,r51,br51,h⟩:=Zb2 h
  have p53:=fun{sc F} (r:PS sc F)=>sg 0 c49<|sv (ee.ia (k:=.i64) bx50)<|sv (lC x50)<|sx R2<|sx (sH x50)<|sv (kz x50 [])<|cD (hR87 _ _ br51)<|r
  rcases aO h with⟨c52,h⟩|⟨c52,h⟩
  ·obtain rfl:=lf h
   have z:=p53<|sg 0 c52<|tr 0 (pz (.inl r51)) (jP (.inl r51)) rfl (du (aI trivial trivial)) (aI trivial trivial)
   exact sF (A:=sd) mixed (Zn rfl) z<|by kernel_rfl
  ·obtain rfl:=lf h
   have z:=p53<|sg 0 c52<|tr 0 .normal (py t90 t91 (bB (t92+1))) rfl (du (aI (up (aj aF t90)) (aI trivial (aI trivial trivial)))) (aI trivial trivial)
   exact dy (A:=sd) mixed z<|by kernel_rfl
 ·obtain rfl:=lf h
  have z:=sg 0 c49<|eF (pz (.inr ())) (jP (.inr ()))
  exact hU sd (Zn rfl) z<|by kernel_rfl
theorem zL(hR87:zN R87){x:Int⊕(Unit)}(h:EP R87 t90 t91 t92=some x):aW Pg GE 0 (.loop (cA PP 2039)) (EX (pz x) (jP x)) (py t90 t91 t92):=
 ZL h fun _ _ hy=>Ht _ _ _ _ hR87 hy
end
def Hr(R87:u7)(t:ai):Option Int:=
 (EK t).bind fun o3=>
 (EL t).bind fun o6=>
 (EM t o3 o6).bind fun o31=>
 if o31=true then
  some 1
 else
  (Jm t).bind fun r34=>
  if(r34 !=0)=true then
   some r34
  else
   (EN t o3).bind fun o48=>match o48 with
   |(.inl o48)=>
    some 3
   | (.inr o48) =>
    (EP R87 t.Args (t.Args.length:Int) 0).bind fun o54=>match o54 with
    |(.inl o54)=>
     some o54
    |(.inr o54)=>
     some 0
theorem Mr(R87:u7)(hR87:zN R87){t:ai}{r:Int}(h:Hr R87 t=some r):CC Pg GE 145 [.agg (ah t)] (.int .i64 r) []:=by
 obtain⟨o3,bo3,o6,bo6,o31,bo31,h⟩:=Zb3 h
 have p33:=fun{sc F} (r:PS sc F)=>se (qL t)<|nF 0<|cT (IF t bo3)<|nF 0<|cT (IG t o3 bo6)<|nF 1<|cT (IH t o3 o6 bo31)<|r
 rcases aO h with⟨c32,h⟩|⟨c32,h⟩
 ·obtain rfl:=lf h
  have z:=p33<|sg 0 c32<|en (aI (rP (.int .i64 1))<|trivial)
  exact Z145.v (aI (aF t) trivial) z<|by kernel_rfl
 ·obtain⟨r34,br34,h⟩:=ck h
  have p36:=fun{sc F} (r:PS sc F)=>p33<|sg 0 c32<|sv (lC t)<|cD (Mo br34)<|r
  rcases aO h with⟨c35,h⟩|⟨c35,h⟩
  ·obtain rfl:=lf h
   have z:=p36<|sg 0 c35<|en (aI (rP (.int .i64 r34))<|trivial)
   exact Z145.v (aI (aF t) trivial) z<|by kernel_rfl
  ·obtain⟨o48,bo48,h⟩:=ck h
   rcases o48 with o48|o48
   ·obtain rfl:=lf h
    have z:=p36<|sg 0 c35<|nF 0<|cT (e:=.ret) (s1:=fN t (.inl o48)) (sX t o3 bo48)<|en (aI (rP (.int .i64 3))<|trivial)
    exact Z145.v (aI (aF t) trivial) z<|by kernel_rfl
   ·obtain⟨o54,bo54,h⟩:=ck h
    rcases o54 with o54|o54
    ·obtain rfl:=lf h
     have z:=p36<|sg 0 c35<|nF 0<|cT (e:=.normal) (s1:=fN t (.inr o48)) (sX t o3 bo48)<|sv (dA t)<|sv (dB t)<|bQ (ee.ln t.Args)<|cT (e:=.ret) (s1:=jP (.inl o54)) (zL R87 t.Args (t.Args.length:Int) 0 hR87 bo54)<|en (aI (rP (.int .i64 o54))<|trivial)
     exact Z145.v (aI (aF t) trivial) z<|by kernel_rfl
    ·obtain rfl:=lf h
     have z:=p36<|sg 0 c35<|nF 0<|cT (e:=.normal) (s1:=fN t (.inr o48)) (sX t o3 bo48)<|sv (dA t)<|sv (dB t)<|bQ (ee.ln t.Args)<|cT (e:=.exit 0) (s1:=jP (.inr o54)) (zL R87 t.Args (t.Args.length:Int) 0 hR87 bo54)<|en (aI (rP (.int .i64 0))<|trivial)
     exact Z145.v (aI (aF t) trivial) z<|by kernel_rfl
def Hs:(ai->Option Int)->(ai)->Option Int:=fun(rec:ai->Option Int) (x:ai)=>Hr (fun t=>rec t) x
def Mq(t:ai):Option Int:=rE Hs t
theorem Nk{t:ai}{r:Int}(h:Mq t=some r):CC Pg GE 145 [.agg (ah t)] (.int .i64 r) []:=
 ek (F:=Hs) (M:=fun(x:ai) (r:Int)=>CC Pg GE 145 [.agg (ah x)] (.int .i64 r) []) (fun rec hrec x r h=>Mr _ (fun t r h=>hrec t r h) h) h
noncomputable def qay:Code:=f120.body.getD .skip
def Z6:List Nat:=[]
theorem Z120:ZF Z6 120 f120 qay:=⟨call120,func120,rfl⟩
def C6(t:ai):Option Int:=
 (Jn t).bind fun r1=>
 if(decide (r1>40))=true then
  some 8
 else
  (Mq t).bind fun r4=>
  some r4
theorem C7{t:ai}{r:Int}(h:C6 t=some r):CC Pg GE 120 [.agg (ah t)] (.int .i64 r) []:=by
 obtain⟨r1,br1,h⟩:=ck h
 have p3:=fun{sc F} (r:PS sc F)=>se (qL t)<|sv (lC t)<|cD (Mp br1)<|r
 rcases aO h with⟨c2,h⟩|⟨c2,h⟩
 ·obtain rfl:=lf h
  have z:=p3<|sg 0 c2<|en (aI (rP (.int .i64 8))<|trivial)
  exact Z120.v (aI (aF t) trivial) z<|by kernel_rfl
 ·obtain⟨r4,br4,h⟩:=ck h
  obtain rfl:=lf h
  have z:=p3<|sg 0 c2<|sv (lC t)<|cD (Nk br4)<|en (aI (rP (.int .i64 r4))<|trivial)
  exact Z120.v (aI (aF t) trivial) z<|by kernel_rfl
abbrev ii:=(ai->ai->Option Bool)
abbrev ms(R:ii):Prop:=∀(a:ai) (a2:ai) (r:Bool),R a a2=some r->CC Pg GE 72 [.agg (ah a),.agg (ah a2)] (.bool r) []
noncomputable def qaU:Code:=f77.body.getD .skip
def ZM:List Nat:=[15]
theorem Z77:ZF ZM 77 f77 qaU:=⟨call77,func77,rfl⟩
section
variable(s1:waA)(s2:waA)(t12:Int)(t13:Int)
def mC:aB:=aS 26 [(0,sl cS s1),(1,sl cS s2),(12,.int .i64 t12),(13,.int .i64 t13)] [] []
def mD(o:Unit⊕(Unit)):Exit:=match o with
 |(.inl _)=>.ret
 |(.inr _)=>.exit 0
def io(o:Unit⊕(Unit)):aB:=match o with
 |(.inl o)=>aS 26 [(4,.bool false)] [] []
 |(.inr o)=>aS 26 [] [] []
def yd:Option (Int⊕(Unit⊕(Unit))):=
 if(decide (t13<t12))=true then
  (eT s1 t13).bind fun x4=>
  (eT s2 t13).bind fun x5=>
  if(!(x4==x5))=true then
   some (.inr (.inl ()))
  else
   some (.inl (bB (t13+1)))
 else
  some (.inr (.inr ()))
def Ba:Option (Unit⊕(Unit)):=loop (fun(zz:Int)=>yd s1 s2 t12 zz) t13
theorem DS{y:Int⊕(Unit⊕(Unit))}(h:yd s1 s2 t12 t13=some y):aW Pg GE 0 (cA qaU 119) (LQ (fun(zz:Int)=>mC s1 s2 t12 zz) mD io y) (mC s1 s2 t12 t13):=by
 rcases aO h with⟨c3,h⟩|⟨c3,h⟩
 ·obtain⟨x4,bx4,x5,bx5,h⟩:=Zb2 h
  have p7:=fun{sc F} (r:PS sc F)=>sg 0 c3<|G0 [0,0,3,7,0,0,48,112,255]<|sv (bN.ia (k:=.i64) bx4)<|sv (b8 AF (.str x4) [])<|sv (bN.ia (k:=.i64) bx5)<|sv (b8 AF (.str x5) [])<|r
  rcases aO h with⟨c6,h⟩|⟨c6,h⟩
  ·obtain rfl:=lf h
   have z:=p7<|sg 0 c6<|eF (mD (.inl ())) (io (.inl ()))
   exact hU ZM (Zn rfl) z<|by kernel_rfl
  ·obtain rfl:=lf h
   exact wJ ZM (p7<|sg 0 c6<|eF .normal (mC s1 s2 t12 (bB (t13+1))))<|by kernel_rfl
 ·obtain rfl:=lf h
  have z:=sg 0 c3<|eF (mD (.inr ())) (io (.inr ()))
  exact hU ZM (Zn rfl) z<|by kernel_rfl
theorem wM{x:Unit⊕(Unit)}(h:Ba s1 s2 t12 t13=some x):aW Pg GE 0 (.loop (cA qaU 119)) (EX (mD x) (io x)) (mC s1 s2 t12 t13):=
 ZL h fun _ _ hy=>DS _ _ _ _ hy
end
def G3(s1:waA)(s2:waA):Option Bool:=
 if((s1.length:Int)!=(s2.length:Int))=true then
  some false
 else
  (Ba s1 s2 (s1.length:Int) 0).bind fun o8=>match o8 with
  |(.inl o8)=>
   some false
  |(.inr o8)=>
   some true
theorem J9{s1:waA}{s2:waA}{r:Bool}(h:G3 s1 s2=some r):CC Pg GE 77 [sl cS s1,sl cS s2] (.bool r) []:=by
 have p2:=fun{sc F} (r:PS sc F)=>bQ (bN.ln s1)<|bQ (bN.ln s2)<|r
 rcases aO h with⟨c1,h⟩|⟨c1,h⟩
 ·obtain rfl:=lf h
  have z:=p2<|sg 0 c1<|en (aI (rP (.bool false))<|trivial)
  exact Z77.v (aI (aj bz s1) (aI (aj bz s2) trivial)) z<|by kernel_rfl
 ·obtain⟨o8,bo8,h⟩:=ck h
  rcases o8 with o8|o8
  ·obtain rfl:=lf h
   have z:=p2<|sg 0 c1<|bQ (bN.ln s1)<|cT (e:=.ret) (s1:=io (.inl o8)) (wM s1 s2 (s1.length:Int) 0 bo8)<|en (aI (rP (.bool false))<|trivial)
   exact Z77.v (aI (aj bz s1) (aI (aj bz s2) trivial)) z<|by kernel_rfl
  ·obtain rfl:=lf h
   have z:=p2<|sg 0 c1<|bQ (bN.ln s1)<|cT (e:=.exit 0) (s1:=io (.inr o8)) (wM s1 s2 (s1.length:Int) 0 bo8)<|en (aI (rP (.bool true))<|trivial)
   exact Z77.v (aI (aj bz s1) (aI (aj bz s2) trivial)) z<|by kernel_rfl
abbrev pN:=(am->am->Option Bool)
abbrev xt(R:pN):Prop:=∀(a:am) (a2:am) (r:Bool),R a a2=some r->CC Pg GE 123 [.agg (al a),.agg (al a2)] (.bool r) []
noncomputable def XD:Code:=f152.body.getD .skip
def VV:List Nat:=[17]
theorem Z152:ZF VV 152 f152 XD:=⟨call152,func152,rfl⟩
section
variable(R92:pN)(v:waB)(v2:waB)(t14:Int)(t15:Int)
def po:aB:=aS 30 [(0,sl al v),(1,sl al v2),(2,.func (.func 123) [] []),(14,.int .i64 t14),(15,.int .i64 t15)] [] []
def pp(o:Unit⊕(Unit)):Exit:=match o with
 |(.inl _)=>.ret
 |(.inr _)=>.exit 0
def jN(o:Unit⊕(Unit)):aB:=match o with
 |(.inl o)=>aS 30 [(6,.bool false)] [] []
 |(.inr o)=>aS 30 [] [] []
def A8:Option (Int⊕(Unit⊕(Unit))):=
 if(decide (t15<t14))=true then
  (eT v t15).bind fun x4=>
  (eT v2 t15).bind fun x5=>
  (R92 x4 x5).bind fun r6=>
  if(!r6)=true then
   some (.inr (.inl ()))
  else
   some (.inl (bB (t15+1)))
 else
  some (.inr (.inr ()))
def EB:Option (Unit⊕(Unit)):=loop (fun(zz:Int)=>A8 R92 v v2 t14 zz) t15
theorem GU(hR92:xt R92){y:Int⊕(Unit⊕(Unit))}(h:A8 R92 v v2 t14 t15=some y):aW Pg GE 0 (cA XD 119) (LQ (fun(zz:Int)=>po v v2 t14 zz) pp jN y) (po v v2 t14 t15):=by
 rcases aO h with⟨c3,h⟩|⟨c3,h⟩
 ·obtain⟨x4,bx4,x5,bx5,r6,br6,h⟩:=Zb3 h
  have p8:=fun{sc F} (r:PS sc F)=>sg 0 c3<|G0 [0,0,0,6,14,0,0,96,224,511,1023]<|sv (oh.ia (k:=.i64) bx4)<|sv (qH x4)<|sv (oh.ia (k:=.i64) bx5)<|sv (qH x5)<|cD (hR92 _ _ _ br6)<|r
  rcases aO h with⟨c7,h⟩|⟨c7,h⟩
  ·obtain rfl:=lf h
   have z:=p8<|sg 0 c7<|eF (pp (.inl ())) (jN (.inl ()))
   exact hU VV (Zn rfl) z<|by kernel_rfl
  ·obtain rfl:=lf h
   exact wJ VV (p8<|sg 0 c7<|eF .normal (po v v2 t14 (bB (t15+1))))<|by kernel_rfl
 ·obtain rfl:=lf h
  have z:=sg 0 c3<|eF (pp (.inr ())) (jN (.inr ()))
  exact hU VV (Zn rfl) z<|by kernel_rfl
theorem zq(hR92:xt R92){x:Unit⊕(Unit)}(h:EB R92 v v2 t14 t15=some x):aW Pg GE 0 (.loop (cA XD 119)) (EX (pp x) (jN x)) (po v v2 t14 t15):=
 ZL h fun _ _ hy=>GU _ _ _ _ _ hR92 hy
end
def L5(R92:pN)(a:waB)(a2:waB):Option Bool:=
 if((a.length:Int)!=(a2.length:Int))=true then
  some false
 else
  (EB R92 a a2 (a.length:Int) 0).bind fun o9=>match o9 with
  |(.inl o9)=>
   some false
  |(.inr o9)=>
   some true
theorem Ng(R92:pN)(hR92:xt R92){a:waB}{a2:waB}{r:Bool}(h:L5 R92 a a2=some r):CC Pg GE 152 [sl al a,sl al a2,.func (.func 123) [] []] (.bool r) []:=by
 have p2:=fun{sc F} (r:PS sc F)=>bQ (oh.ln a)<|bQ (oh.ln a2)<|r
 rcases aO h with⟨c1,h⟩|⟨c1,h⟩
 ·obtain rfl:=lf h
  have z:=p2<|sg 0 c1<|en (aI (rP (.bool false))<|trivial)
  exact Z152.v (aI (aj aQ a) (aI (aj aQ a2) (aI (aI trivial trivial) trivial))) z<|by kernel_rfl
 ·obtain⟨o9,bo9,h⟩:=ck h
  rcases o9 with o9|o9
  ·obtain rfl:=lf h
   have z:=p2<|sg 0 c1<|bQ (oh.ln a)<|cT (e:=.ret) (s1:=jN (.inl o9)) (zq R92 a a2 (a.length:Int) 0 hR92 bo9)<|en (aI (rP (.bool false))<|trivial)
   exact Z152.v (aI (aj aQ a) (aI (aj aQ a2) (aI (aI trivial trivial) trivial))) z<|by kernel_rfl
  ·obtain rfl:=lf h
   have z:=p2<|sg 0 c1<|bQ (oh.ln a)<|cT (e:=.exit 0) (s1:=jN (.inr o9)) (zq R92 a a2 (a.length:Int) 0 hR92 bo9)<|en (aI (rP (.bool true))<|trivial)
   exact Z152.v (aI (aj aQ a) (aI (aj aQ a2) (aI (aI trivial trivial) trivial))) z<|by kernel_rfl
noncomputable def qaA:Code:=f123.body.getD .skip
def Z8:List Nat:=[]
theorem Z123:ZF Z8 123 f123 qaA:=⟨call123,func123,rfl⟩
def Je(R92:pN)(a:am)(a2:am):Option Bool:=
 if (a.Op == a2.Op) = true then
  if(a.Name==a2.Name)=true then
   if(a.N==a2.N)=true then
    (L5 R92 a.Kids a2.Kids).bind fun r7=>
    some r7
   else
    some false
  else
   some false
 else
  some false
theorem Nf(R92:pN)(hR92:xt R92){a:am}{a2:am}{r:Bool}(h:Je R92 a a2=some r):CC Pg GE 123 [.agg (al a),.agg (al a2)] (.bool r) []:=by
 have p2:=fun{sc F} (r:PS sc F)=>se (GO a)<|se (GO a2)<|sv (tt a)<|sv (tw a)<|sv (tt a2)<|sv (tw a2)<|r
 rcases aO h with⟨c1,h⟩|⟨c1,h⟩
 ·have p4:=fun{sc F} (r:PS sc F)=>p2<|sg 6 c1<|sv (oF a)<|sv (qG a)<|sv (oF a2)<|sv (qG a2)<|r
  rcases aO h with⟨c3,h⟩|⟨c3,h⟩
  ·have p6:=fun{sc F} (r:PS sc F)=>p4<|sg 13 c3<|sv (tu a)<|sv (vC a)<|sv (tu a2)<|sv (vC a2)<|r
   rcases aO h with⟨c5,h⟩|⟨c5,h⟩
   ·obtain⟨r7,br7,h⟩:=ck h
    obtain rfl:=lf h
    have z:=p6<|sg 20 c5<|sv (gG a)<|sv (gI a)<|sv (gG a2)<|sv (gI a2)<|cD (Ng R92 hR92 br7)<|en (aI (rP (.bool r7))<|trivial)
    exact Z123.v (aI (aQ a) (aI (aQ a2) trivial)) z<|by kernel_rfl
   ·obtain rfl:=lf h
    have z:=p6<|sg 20 c5<|en (aI (rP (.bool false))<|trivial)
    exact Z123.v (aI (aQ a) (aI (aQ a2) trivial)) z<|by kernel_rfl
  ·obtain rfl:=lf h
   have z:=p4<|sg 13 c3<|en (aI (rP (.bool false))<|trivial)
   exact Z123.v (aI (aQ a) (aI (aQ a2) trivial)) z<|by kernel_rfl
 ·obtain rfl:=lf h
  have z:=p2<|sg 6 c1<|en (aI (rP (.bool false))<|trivial)
  exact Z123.v (aI (aQ a) (aI (aQ a2) trivial)) z<|by kernel_rfl
def Jf:((am×am)->Option Bool)->(am×am)->Option Bool:=fun(rec:(am×am)->Option Bool) (x:am×am)=>Je (fun a a2=>rec (a,a2)) x.1 x.2
def Im(a:am)(a2:am):Option Bool:=rE Jf (a,a2)
theorem GT{a:am}{a2:am}{r:Bool}(h:Im a a2=some r):CC Pg GE 123 [.agg (al a),.agg (al a2)] (.bool r) []:=
 ek (F:=Jf) (M:=fun(x:am×am) (r:Bool)=>CC Pg GE 123 [.agg (al x.1),.agg (al x.2)] (.bool r) []) (fun rec hrec x r h=>Nf _ (fun a a2 r h=>hrec (a,a2) r h) h) h
noncomputable def Xz:Code:=f124.body.getD .skip
def VT:List Nat:=[19]
theorem Z124:ZF VT 124 f124 Xz:=⟨call124,func124,rfl⟩
section
variable(s2:waB)(t15:waB)(t16:Int)(t17:Int)
def jo:aB:=aS 32 [(1,sl al s2),(2,.func (.func 123) [] []),(15,sl al t15),(16,.int .i64 t16),(17,.int .i64 t17)] [] []
def jp(o:Unit⊕(Unit)):Exit:=match o with
 |(.inl _)=>.ret
 |(.inr _)=>.exit 0
def e8(o:Unit⊕(Unit)):aB:=match o with
 |(.inl o)=>aS 32 [(6,.bool false)] [] []
 |(.inr o)=>aS 32 [] [] []
def rY:Option (Int⊕(Unit⊕(Unit))):=
 if(decide (t17<t16))=true then
  (eT t15 t17).bind fun x4=>
  (eT s2 t17).bind fun x5=>
  (Im x4 x5).bind fun r6=>
  if(!r6)=true then
   some (.inr (.inl ()))
  else
   some (.inl (bB (t17+1)))
 else
  some (.inr (.inr ()))
def uM:Option (Unit⊕(Unit)):=loop (fun(zz:Int)=>rY s2 t15 t16 zz) t17
theorem zu{y:Int⊕(Unit⊕(Unit))}(h:rY s2 t15 t16 t17=some y):aW Pg GE 0 (cA Xz 119) (LQ (fun(zz:Int)=>jo s2 t15 t16 zz) jp e8 y) (jo s2 t15 t16 t17):=by
 rcases aO h with⟨c3,h⟩|⟨c3,h⟩
 ·obtain⟨x4,bx4,x5,bx5,r6,br6,h⟩:=Zb3 h
  have p8:=fun{sc F} (r:PS sc F)=>sg 0 c3<|sv (oh.ia (k:=.i64) bx4)<|sv (qH x4)<|sx WU<|sx (Dx x4)<|sv (oh.ia (k:=.i64) bx5)<|sv (qH x5)<|sx WU<|sx (Dx x5)<|sv (za x4 [])<|sv (za x5 [])<|cD (GT br6)<|r
  rcases aO h with⟨c7,h⟩|⟨c7,h⟩
  ·obtain rfl:=lf h
   have z:=p8<|sg 0 c7<|tr 0 (jp (.inl ())) (e8 (.inl ())) rfl (du (aI trivial trivial)) trivial
   exact sF (A:=VT) mixed (Zn rfl) z<|by kernel_rfl
  ·obtain rfl:=lf h
   have z:=p8<|sg 0 c7<|tr 0 .normal (jo s2 t15 t16 (bB (t17+1))) rfl (du (aI (up (aj aQ s2)) (aI (aI trivial trivial) (aI (up (aj aQ t15)) (aI trivial (aI trivial trivial)))))) trivial
   exact dy (A:=VT) mixed z<|by kernel_rfl
 ·obtain rfl:=lf h
  have z:=sg 0 c3<|eF (jp (.inr ())) (e8 (.inr ()))
  exact hU VT (Zn rfl) z<|by kernel_rfl
theorem qS{x:Unit⊕(Unit)}(h:uM s2 t15 t16 t17=some x):aW Pg GE 0 (.loop (cA Xz 119)) (EX (jp x) (e8 x)) (jo s2 t15 t16 t17):=
 ZL h fun _ _ hy=>zu _ _ _ _ hy
end
def zt(s1:waB)(s2:waB):Option Bool:=
 if((s1.length:Int)!=(s2.length:Int))=true then
  some false
 else
  (uM s2 s1 (s1.length:Int) 0).bind fun o9=>match o9 with
  |(.inl o9)=>
   some false
  |(.inr o9)=>
   some true
theorem DR{s1:waB}{s2:waB}{r:Bool}(h:zt s1 s2=some r):CC Pg GE 124 [sl al s1,sl al s2,.func (.func 123) [] []] (.bool r) []:=by
 have p2:=fun{sc F} (r:PS sc F)=>bQ (oh.ln s1)<|bQ (oh.ln s2)<|r
 rcases aO h with⟨c1,h⟩|⟨c1,h⟩
 ·obtain rfl:=lf h
  have z:=p2<|sg 0 c1<|en (aI (rP (.bool false))<|trivial)
  exact Z124.v (aI (aj aQ s1) (aI (aj aQ s2) (aI (aI trivial trivial) trivial))) z<|by kernel_rfl
 ·obtain⟨o9,bo9,h⟩:=ck h
  rcases o9 with o9|o9
  ·obtain rfl:=lf h
   have z:=p2<|sg 0 c1<|bQ (oh.ln s1)<|cT (e:=.ret) (s1:=e8 (.inl o9)) (qS s2 s1 (s1.length:Int) 0 bo9)<|en (aI (rP (.bool false))<|trivial)
   exact Z124.v (aI (aj aQ s1) (aI (aj aQ s2) (aI (aI trivial trivial) trivial))) z<|by kernel_rfl
  ·obtain rfl:=lf h
   have z:=p2<|sg 0 c1<|bQ (oh.ln s1)<|cT (e:=.exit 0) (s1:=e8 (.inr o9)) (qS s2 s1 (s1.length:Int) 0 bo9)<|en (aI (rP (.bool true))<|trivial)
   exact Z124.v (aI (aj aQ s1) (aI (aj aQ s2) (aI (aI trivial trivial) trivial))) z<|by kernel_rfl
noncomputable def qaT:Code:=f71.body.getD .skip
def ZK:List Nat:=[19]
theorem Z71:ZF ZK 71 f71 qaT:=⟨call71,func71,rfl⟩
section
variable(R90:ii)(s2:waC)(t15:waC)(t16:Int)(t17:Int)
def eA:aB:=aS 32 [(1,sl ah s2),(2,.func (.func 72) [] []),(15,sl ah t15),(16,.int .i64 t16),(17,.int .i64 t17)] [] []
def eB(o:Unit⊕(Unit)):Exit:=match o with
 |(.inl _)=>.ret
 |(.inr _)=>.exit 0
def cP(o:Unit⊕(Unit)):aB:=match o with
 |(.inl o)=>aS 32 [(6,.bool false)] [] []
 |(.inr o)=>aS 32 [] [] []
def kH:Option (Int⊕(Unit⊕(Unit))):=
 if(decide (t17<t16))=true then
  (eT t15 t17).bind fun x4=>
  (eT s2 t17).bind fun x5=>
  (R90 x4 x5).bind fun r6=>
  if(!r6)=true then
   some (.inr (.inl ()))
  else
   some (.inl (bB (t17+1)))
 else
  some (.inr (.inr ()))
def lK:Option (Unit⊕(Unit)):=loop (fun(zz:Int)=>kH R90 s2 t15 t16 zz) t17
theorem qT(hR90:ms R90){y:Int⊕(Unit⊕(Unit))}(h:kH R90 s2 t15 t16 t17=some y):aW Pg GE 0 (cA qaT 119) (LQ (fun(zz:Int)=>eA s2 t15 t16 zz) eB cP y) (eA s2 t15 t16 t17):=by
 rcases aO h with⟨c3,h⟩|⟨c3,h⟩
 ·obtain⟨x4,bx4,x5,bx5,r6,br6,h⟩:=Zb3 h
  have p8:=fun{sc F} (r:PS sc F)=>sg 0 c3<|sv (ee.ia (k:=.i64) bx4)<|sv (lC x4)<|sx R2<|sx (sH x4)<|sv (ee.ia (k:=.i64) bx5)<|sv (lC x5)<|sx R2<|sx (sH x5)<|sv (kz x4 [])<|sv (kz x5 [])<|cD (hR90 _ _ _ br6)<|r
  rcases aO h with⟨c7,h⟩|⟨c7,h⟩
  ·obtain rfl:=lf h
   have z:=p8<|sg 0 c7<|tr 0 (eB (.inl ())) (cP (.inl ())) rfl (du (aI trivial trivial)) trivial
   exact sF (A:=ZK) mixed (Zn rfl) z<|by kernel_rfl
  ·obtain rfl:=lf h
   have z:=p8<|sg 0 c7<|tr 0 .normal (eA s2 t15 t16 (bB (t17+1))) rfl (du (aI (up (aj aF s2)) (aI (aI trivial trivial) (aI (up (aj aF t15)) (aI trivial (aI trivial trivial)))))) trivial
   exact dy (A:=ZK) mixed z<|by kernel_rfl
 ·obtain rfl:=lf h
  have z:=sg 0 c3<|eF (eB (.inr ())) (cP (.inr ()))
  exact hU ZK (Zn rfl) z<|by kernel_rfl
theorem kf(hR90:ms R90){x:Unit⊕(Unit)}(h:lK R90 s2 t15 t16 t17=some x):aW Pg GE 0 (.loop (cA qaT 119)) (EX (eB x) (cP x)) (eA s2 t15 t16 t17):=
 ZL h fun _ _ hy=>qT _ _ _ _ _ hR90 hy
end
def nU(R90:ii)(s1:waC)(s2:waC):Option Bool:=
 if((s1.length:Int)!=(s2.length:Int))=true then
  some false
 else
  (lK R90 s2 s1 (s1.length:Int) 0).bind fun o9=>match o9 with
  |(.inl o9)=>
   some false
  |(.inr o9)=>
   some true
theorem ui(R90:ii)(hR90:ms R90){s1:waC}{s2:waC}{r:Bool}(h:nU R90 s1 s2=some r):CC Pg GE 71 [sl ah s1,sl ah s2,.func (.func 72) [] []] (.bool r) []:=by
 have p2:=fun{sc F} (r:PS sc F)=>bQ (ee.ln s1)<|bQ (ee.ln s2)<|r
 rcases aO h with⟨c1,h⟩|⟨c1,h⟩
 ·obtain rfl:=lf h
  have z:=p2<|sg 0 c1<|en (aI (rP (.bool false))<|trivial)
  exact Z71.v (aI (aj aF s1) (aI (aj aF s2) (aI (aI trivial trivial) trivial))) z<|by kernel_rfl
 ·obtain⟨o9,bo9,h⟩:=ck h
  rcases o9 with o9|o9
  ·obtain rfl:=lf h
   have z:=p2<|sg 0 c1<|bQ (ee.ln s1)<|cT (e:=.ret) (s1:=cP (.inl o9)) (kf R90 s2 s1 (s1.length:Int) 0 hR90 bo9)<|en (aI (rP (.bool false))<|trivial)
   exact Z71.v (aI (aj aF s1) (aI (aj aF s2) (aI (aI trivial trivial) trivial))) z<|by kernel_rfl
  ·obtain rfl:=lf h
   have z:=p2<|sg 0 c1<|bQ (ee.ln s1)<|cT (e:=.exit 0) (s1:=cP (.inr o9)) (kf R90 s2 s1 (s1.length:Int) 0 hR90 bo9)<|en (aI (rP (.bool true))<|trivial)
   exact Z71.v (aI (aj aF s1) (aI (aj aF s2) (aI (aI trivial trivial) trivial))) z<|by kernel_rfl
noncomputable def qcC:Code:=f72.body.getD .skip
def qcc:List Nat:=[]
theorem Z72:ZF qcc 72 f72 qcC:=⟨call72,func72,rfl⟩
def yn(R90:ii)(a:ai)(a2:ai):Option Bool:=
 if (a.Op == a2.Op) = true then
  if (a.Name == a2.Name) = true then
   (G3 a.Names a2.Names).bind fun r5=>
   if r5=true then
    (Im a.Pred a2.Pred).bind fun r8=>
    if r8=true then
     (zt a.Preds a2.Preds).bind fun r11=>
     if r11=true then
      (nU R90 a.Args a2.Args).bind fun r14=>
      some r14
     else
      some false
    else
     some false
   else
    some false
  else
   some false
 else
  some false
theorem D3(R90:ii)(hR90:ms R90){a:ai}{a2:ai}{r:Bool}(h:yn R90 a a2=some r):CC Pg GE 72 [.agg (ah a),.agg (ah a2)] (.bool r) []:=by
 have p2:=fun{sc F} (r:PS sc F)=>se (qL a)<|se (qL a2)<|sv (db a)<|sv (dc a)<|sv (db a2)<|sv (dc a2)<|r
 rcases aO h with⟨c1,h⟩|⟨c1,h⟩
 ·have p4:=fun{sc F} (r:PS sc F)=>p2<|sg 6 c1<|sv (gH a)<|sv (iK a)<|sv (gH a2)<|sv (iK a2)<|r
  rcases aO h with⟨c3,h⟩|⟨c3,h⟩
  ·obtain⟨r5,br5,h⟩:=ck h
   have p7:=fun{sc F} (r:PS sc F)=>p4<|sg 13 c3<|sv (e9 a)<|sv (fb a)<|sv (e9 a2)<|sv (fb a2)<|cD (J9 br5)<|r
   rcases aO h with⟨c6,h⟩|⟨c6,h⟩
   ·obtain⟨r8,br8,h⟩:=ck h
    have p10:=fun{sc F} (r:PS sc F)=>p7<|sg 20 c6<|sv (oG a)<|sv (oH a)<|sv (oG a2)<|sv (oH a2)<|cD (GT br8)<|r
    rcases aO h with⟨c9,h⟩|⟨c9,h⟩
    ·obtain⟨r11,br11,h⟩:=ck h
     have p13:=fun{sc F} (r:PS sc F)=>p10<|sg 27 c9<|sv (iO a)<|sv (iQ a)<|sv (iO a2)<|sv (iQ a2)<|cD (DR br11)<|r
     rcases aO h with⟨c12,h⟩|⟨c12,h⟩
     ·obtain⟨r14,br14,h⟩:=ck h
      obtain rfl:=lf h
      have z:=p13<|sg 34 c12<|sv (dA a)<|sv (dB a)<|sv (dA a2)<|sv (dB a2)<|cD (ui R90 hR90 br14)<|en (aI (rP (.bool r14))<|trivial)
      exact Z72.v (aI (aF a) (aI (aF a2) trivial)) z<|by kernel_rfl
     ·obtain rfl:=lf h
      have z:=p13<|sg 34 c12<|en (aI (rP (.bool false))<|trivial)
      exact Z72.v (aI (aF a) (aI (aF a2) trivial)) z<|by kernel_rfl
    ·obtain rfl:=lf h
     have z:=p10<|sg 27 c9<|en (aI (rP (.bool false))<|trivial)
     exact Z72.v (aI (aF a) (aI (aF a2) trivial)) z<|by kernel_rfl
   ·obtain rfl:=lf h
    have z:=p7<|sg 20 c6<|en (aI (rP (.bool false))<|trivial)
    exact Z72.v (aI (aF a) (aI (aF a2) trivial)) z<|by kernel_rfl
  ·obtain rfl:=lf h
   have z:=p4<|sg 13 c3<|en (aI (rP (.bool false))<|trivial)
   exact Z72.v (aI (aF a) (aI (aF a2) trivial)) z<|by kernel_rfl
 ·obtain rfl:=lf h
  have z:=p2<|sg 6 c1<|en (aI (rP (.bool false))<|trivial)
  exact Z72.v (aI (aF a) (aI (aF a2) trivial)) z<|by kernel_rfl
def yo:((ai×ai)->Option Bool)->(ai×ai)->Option Bool:=fun(rec:(ai×ai)->Option Bool) (x:ai×ai)=>yn (fun a a2=>rec (a,a2)) x.1 x.2
def Bl(a:ai)(a2:ai):Option Bool:=rE yo (a,a2)
theorem FM{a:ai}{a2:ai}{r:Bool}(h:Bl a a2=some r):CC Pg GE 72 [.agg (ah a),.agg (ah a2)] (.bool r) []:=
 ek (F:=yo) (M:=fun(x:ai×ai) (r:Bool)=>CC Pg GE 72 [.agg (ah x.1),.agg (ah x.2)] (.bool r) []) (fun rec hrec x r h=>D3 _ (fun a a2 r h=>hrec (a,a2) r h) h) h
noncomputable def qaz:Code:=f121.body.getD .skip
def Z7:List Nat:=[]
theorem Z121:ZF Z7 121 f121 qaz:=⟨call121,func121,rfl⟩
def Jk(t:ai):Option Bool:=
 (Bl t (⟨0,([]:ae),([]:List ai),([]:List ae),(⟨0,([]:ae),0,([]:List am)⟩:am),([]:List am)⟩:ai)).bind fun r1=>
 some r1
theorem Ml{t:ai}{r:Bool}(h:Jk t=some r):CC Pg GE 121 [.agg (ah t)] (.bool r) []:=by
 obtain⟨r1,br1,h⟩:=ck h
 obtain rfl:=lf h
 have z:=se (qL t)<|sv (lC t)<|sb (Rm) (Rl)<|cD (FM br1)<|en (aI (rP (.bool r1))<|trivial)
 exact Z121.v (aI (aF t) trivial) z<|by kernel_rfl
end Go.Proofs.YtkdahfeiedaahaaGreatDoor
