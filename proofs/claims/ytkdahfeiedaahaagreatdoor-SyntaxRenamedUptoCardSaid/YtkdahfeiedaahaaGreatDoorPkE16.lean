/- PROVED: a part of the proof. Conditions: none. -/
import Derived.Test.YtkdahfeiedaahaaGreatDoorPkE15
noncomputable section
namespace Go.Proofs.YtkdahfeiedaahaaGreatDoor
open Go Go.Proofs.Tryz
set_option linter.unusedVariables false
set_option maxRecDepth 100000
abbrev tk:=(aj->Option Int)
abbrev xD(R:tk):Prop:=∀(t:aj) (r:Int),R t=some r->CC Pg GE 145 [.agg (ai t)] (.int .i64 r) []
noncomputable def Pu:Code:=f166.body.getD .skip
def KG:List Nat:=[]
section
variable(t:aj)
def Fx:aA:=bj 39 [(1,.eptr (ai t))] [.dead] []
def kN(o:Bool):aA:=bj 39 [(38,.bool o)] [.dead] []
def Ax:Option Bool:=
 if(decide ((t.Args.length:Int)<2))=true then
  some true
 else
  if(decide ((t.Args.length:Int)>7))=true then
   some true
  else
   if((t.Names.length:Int)!=0)=true then
    some ((t.Names.length:Int)!=(cp ((t.Args.length:Int) - 1)))
   else
    some false
theorem Eo{x:Bool}(h:Ax t=some x):aR Pg GE 0 (cA Pu 892) (EX .normal (kN x)) (Fx t):=by
 have p8:=fun{sc F} (r:PS sc F)=>sv (dG t)<|sv (dH t)<|cq (ee.ln t.Args)<|r
 rcases aP h with⟨c7,h⟩|⟨c7,h⟩
 ·obtain rfl:=lf h
  exact bJ KG (p8<|sg 5 c7<|eF .normal (kN true))<|by kernel_rfl
 ·have p10:=fun{sc F} (r:PS sc F)=>p8<|sg 5 c7<|sv (dG t)<|sv (dH t)<|cq (ee.ln t.Args)<|r
  rcases aP h with⟨c9,h⟩|⟨c9,h⟩
  ·obtain rfl:=lf h
   exact bJ KG (p10<|sg 11 c9<|eF .normal (kN true))<|by kernel_rfl
  ·have p12:=fun{sc F} (r:PS sc F)=>p10<|sg 11 c9<|sv (eL t)<|sv (eO t)<|cq (dK.ln t.Names)<|r
   rcases aP h with⟨c11,h⟩|⟨c11,h⟩
   ·obtain rfl:=lf h
    exact bJ KG (p12<|sg 16 c11<|sv (eL t)<|sv (eO t)<|cq (dK.ln t.Names)<|sv (dG t)<|sv (dH t)<|cq (ee.ln t.Args)<|eF .normal (kN ((t.Names.length:Int)!=(cp ((t.Args.length:Int) - 1)))))<|by kernel_rfl
   ·obtain rfl:=lf h
    exact bJ KG (p12<|sg 16 c11<|eF .normal (kN false))<|by kernel_rfl
end
def Gj(t:aj):Option Int:=
 if(t.Op==4)=true then
  if(decide ((t.Args.length:Int)>6))=true then
   some 13
  else
   some 0
 else
  if(t.Op==6)=true then
   (Ax t).bind fun o13=>
   if o13=true then
    some 13
   else
    some 0
  else
   some 0
theorem IV{t:aj}{r:Int}(h:Gj t=some r):CC Pg GE 166 [.agg (ai t)] (.int .i64 r) []:=by
 have p2:=fun{sc F} (r:PS sc F)=>se (pS t)<|sv (cO t)<|sv (cP t)<|r
 rcases aP h with⟨c1,h⟩|⟨c1,h⟩
 ·have p4:=fun{sc F} (r:PS sc F)=>p2<|sg 0 c1<|sv (dG t)<|sv (dH t)<|cq (ee.ln t.Args)<|r
  rcases aP h with⟨c3,h⟩|⟨c3,h⟩
  ·obtain rfl:=lf h
   have z:=p4<|sg 0 c3<|en (aI (rP (.int .i64 13))<|trivial)
   exact cR KG call166 func166 (c:=Pu) rfl (aI (aN t) trivial) z<|by kernel_rfl
  ·obtain rfl:=lf h
   have z:=p4<|sg 0 c3<|en (aI (rP (.int .i64 0))<|trivial)
   exact cR KG call166 func166 (c:=Pu) rfl (aI (aN t) trivial) z<|by kernel_rfl
 ·have p6:=fun{sc F} (r:PS sc F)=>p2<|sg 0 c1<|r
  rcases aP h with⟨c5,h⟩|⟨c5,h⟩
  ·obtain⟨o13,bo13,h⟩:=aJ h
   have p15:=fun{sc F} (r:PS sc F)=>p6<|sg 0 c5<|rN 0<|dS (Eo t bo13)<|r
   rcases aP h with⟨c14,h⟩|⟨c14,h⟩
   ·obtain rfl:=lf h
    have z:=p15<|sg 0 c14<|en (aI (rP (.int .i64 13))<|trivial)
    exact cR KG call166 func166 (c:=Pu) rfl (aI (aN t) trivial) z<|by kernel_rfl
   ·obtain rfl:=lf h
    have z:=p15<|sg 0 c14<|en (aI (rP (.int .i64 0))<|trivial)
    exact cR KG call166 func166 (c:=Pu) rfl (aI (aN t) trivial) z<|by kernel_rfl
  ·obtain rfl:=lf h
   have z:=p6<|sg 0 c5<|en (aI (rP (.int .i64 0))<|trivial)
   exact cR KG call166 func166 (c:=Pu) rfl (aI (aN t) trivial) z<|by kernel_rfl
noncomputable def GJ:Code:=f145.body.getD .skip
def oM:List Nat:=[68,100]
section
variable(t:aj)
def G0:aA:=bj 102 [(1,.eptr (ai t))] [.dead] []
def sV(o:Bool):aA:=bj 102 [(1,.eptr (ai t)),(3,.bool o)] [.dead] []
def Cb:Option Bool:=
 if(t.Op==4)=true then
  some true
 else
  some (t.Op==5)
theorem Fy{x:Bool}(h:Cb t=some x):aR Pg GE 0 (cA GJ 6) (EX .normal (sV t x)) (G0 t):=by
 have p2:=fun{sc F} (r:PS sc F)=>sv (cO t)<|sv (cP t)<|r
 rcases aP h with⟨c1,h⟩|⟨c1,h⟩
 ·obtain rfl:=lf h
  exact bJ oM (p2<|sg 4 c1<|eF .normal (sV t true))<|by kernel_rfl
 ·obtain rfl:=lf h
  exact bJ oM (p2<|sg 4 c1<|sv (cO t)<|sv (cP t)<|eF .normal (sV t (t.Op==5)))<|by kernel_rfl
end
section
variable(t:aj)(named:Bool)
def G1:aA:=bj 102 [(1,.eptr (ai t)),(3,.bool named)] [.dead] []
def sW(o:Bool):aA:=bj 102 [(1,.eptr (ai t)),(3,.bool named),(4,.bool o)] [.dead] []
def Cc:Option Bool:=
 if(t.Op==4)=true then
  some true
 else
  some (t.Op==6)
theorem FA{x:Bool}(h:Cc t=some x):aR Pg GE 0 (cA GJ 14) (EX .normal (sW t named x)) (G1 t named):=by
 have p5:=fun{sc F} (r:PS sc F)=>sv (cO t)<|sv (cP t)<|r
 rcases aP h with⟨c4,h⟩|⟨c4,h⟩
 ·obtain rfl:=lf h
  exact bJ oM (p5<|sg 4 c4<|eF .normal (sW t named true))<|by kernel_rfl
 ·obtain rfl:=lf h
  exact bJ oM (p5<|sg 4 c4<|sv (cO t)<|sv (cP t)<|eF .normal (sW t named (t.Op==6)))<|by kernel_rfl
end
section
variable(t:aj)(named:Bool)(compound:Bool)
def G2:aA:=bj 102 [(1,.eptr (ai t)),(3,.bool named),(4,.bool compound)] [.dead] []
def cH(o:Bool):aA:=bj 102 [(1,.eptr (ai t)),(3,.bool named),(63,.bool o)] [.dead] []
def Cd:Option Bool:=
 if(decide (t.Op<1))=true then
  some true
 else
  if(decide (t.Op>6))=true then
   some true
  else
   if (!(t.Name == ([]:ag))) = true then
    if(!named)=true then
     some true
    else
     if (decide ((t.Args.length:Int) > 0)) = true then
      if(!compound)=true then
       some true
      else
       if(decide ((t.Names.length:Int)>0))=true then
        some (t.Op !=6)
       else
        some false
     else
      if(decide ((t.Names.length:Int)>0))=true then
       some (t.Op !=6)
      else
       some false
   else
    if (decide ((t.Args.length:Int) > 0)) = true then
     if(!compound)=true then
      some true
     else
      if(decide ((t.Names.length:Int)>0))=true then
       some (t.Op !=6)
      else
       some false
    else
     if(decide ((t.Names.length:Int)>0))=true then
      some (t.Op !=6)
     else
      some false
theorem FB{x:Bool}(h:Cd t named compound=some x):aR Pg GE 0 (cA GJ 60) (EX .normal (cH t named x)) (G2 t named compound):=by
 have p8:=fun{sc F} (r:PS sc F)=>sv (cO t)<|sv (cP t)<|r
 rcases aP h with⟨c7,h⟩|⟨c7,h⟩
 ·obtain rfl:=lf h
  exact bJ oM (p8<|sg 4 c7<|eF .normal (cH t named true))<|by kernel_rfl
 ·have p10:=fun{sc F} (r:PS sc F)=>p8<|sg 4 c7<|sv (cO t)<|sv (cP t)<|r
  rcases aP h with⟨c9,h⟩|⟨c9,h⟩
  ·obtain rfl:=lf h
   exact bJ oM (p10<|sg 9 c9<|eF .normal (cH t named true))<|by kernel_rfl
  ·have p12:=fun{sc F} (r:PS sc F)=>p10<|sg 9 c9<|sv (gJ t)<|sv (iE t)<|r
   rcases aP h with⟨c11,h⟩|⟨c11,h⟩
   ·have p14:=fun{sc F} (r:PS sc F)=>p12<|sg 13 c11<|r
    rcases aP h with⟨c13,h⟩|⟨c13,h⟩
    ·obtain rfl:=lf h
     exact bJ oM (p14<|sg 18 c13<|eF .normal (cH t named true))<|by kernel_rfl
    ·have p16:=fun{sc F} (r:PS sc F)=>p14<|sg 18 c13<|sv (dG t)<|sv (dH t)<|cq (ee.ln t.Args)<|r
     rcases aP h with⟨c15,h⟩|⟨c15,h⟩
     ·have p18:=fun{sc F} (r:PS sc F)=>p16<|sg 23 c15<|r
      rcases aP h with⟨c17,h⟩|⟨c17,h⟩
      ·obtain rfl:=lf h
       exact bJ oM (p18<|sg 28 c17<|eF .normal (cH t named true))<|by kernel_rfl
      ·have p20:=fun{sc F} (r:PS sc F)=>p18<|sg 28 c17<|sv (eL t)<|sv (eO t)<|cq (dK.ln t.Names)<|r
       rcases aP h with⟨c19,h⟩|⟨c19,h⟩
       ·obtain rfl:=lf h
        exact bJ oM (p20<|sg 33 c19<|sv (cO t)<|sv (cP t)<|eF .normal (cH t named (t.Op !=6)))<|by kernel_rfl
       ·obtain rfl:=lf h
        exact bJ oM (p20<|sg 33 c19<|eF .normal (cH t named false))<|by kernel_rfl
     ·have p22:=fun{sc F} (r:PS sc F)=>p16<|sg 23 c15<|sv (eL t)<|sv (eO t)<|cq (dK.ln t.Names)<|r
      rcases aP h with⟨c21,h⟩|⟨c21,h⟩
      ·obtain rfl:=lf h
       exact bJ oM (p22<|sg 33 c21<|sv (cO t)<|sv (cP t)<|eF .normal (cH t named (t.Op !=6)))<|by kernel_rfl
      ·obtain rfl:=lf h
       exact bJ oM (p22<|sg 33 c21<|eF .normal (cH t named false))<|by kernel_rfl
   ·have p24:=fun{sc F} (r:PS sc F)=>p12<|sg 13 c11<|sv (dG t)<|sv (dH t)<|cq (ee.ln t.Args)<|r
    rcases aP h with⟨c23,h⟩|⟨c23,h⟩
    ·have p26:=fun{sc F} (r:PS sc F)=>p24<|sg 23 c23<|r
     rcases aP h with⟨c25,h⟩|⟨c25,h⟩
     ·obtain rfl:=lf h
      exact bJ oM (p26<|sg 28 c25<|eF .normal (cH t named true))<|by kernel_rfl
     ·have p28:=fun{sc F} (r:PS sc F)=>p26<|sg 28 c25<|sv (eL t)<|sv (eO t)<|cq (dK.ln t.Names)<|r
      rcases aP h with⟨c27,h⟩|⟨c27,h⟩
      ·obtain rfl:=lf h
       exact bJ oM (p28<|sg 33 c27<|sv (cO t)<|sv (cP t)<|eF .normal (cH t named (t.Op !=6)))<|by kernel_rfl
      ·obtain rfl:=lf h
       exact bJ oM (p28<|sg 33 c27<|eF .normal (cH t named false))<|by kernel_rfl
    ·have p30:=fun{sc F} (r:PS sc F)=>p24<|sg 23 c23<|sv (eL t)<|sv (eO t)<|cq (dK.ln t.Names)<|r
     rcases aP h with⟨c29,h⟩|⟨c29,h⟩
     ·obtain rfl:=lf h
      exact bJ oM (p30<|sg 33 c29<|sv (cO t)<|sv (cP t)<|eF .normal (cH t named (t.Op !=6)))<|by kernel_rfl
     ·obtain rfl:=lf h
      exact bJ oM (p30<|sg 33 c29<|eF .normal (cH t named false))<|by kernel_rfl
end
section
variable(t:aj)
def G4:aA:=bj 102 [(1,.eptr (ai t))] [.dead] []
def sX(o:Bool):aA:=bj 102 [(1,.eptr (ai t)),(6,.bool o)] [.dead] []
def Cf:Option Bool:=
 (Bh t.Name 0).bind fun c41=>
 if(decide (c41>=65))=true then
  (Bh t.Name 0).bind fun c44=>
  some (decide (c44<=90))
 else
  some false
theorem FC{x:Bool}(h:Cf t=some x):aR Pg GE 0 (cA GJ 2026) (EX .normal (sX t x)) (G4 t):=by
 obtain⟨c41,bc41,h⟩:=aJ h
 have p43:=fun{sc F} (r:PS sc F)=>sv (gJ t)<|sv (iE t)<|sv (wa (k:=.i64) underlying9 bc41)<|r
 rcases aP h with⟨c42,h⟩|⟨c42,h⟩
 ·obtain⟨c44,bc44,h⟩:=aJ h
  obtain rfl:=lf h
  exact bJ oM (p43<|sg 5 c42<|sv (gJ t)<|sv (iE t)<|sv (wa (k:=.i64) underlying9 bc44)<|eF .normal (sX t (decide (c44<=90))))<|by kernel_rfl
 ·obtain rfl:=lf h
  exact bJ oM (p43<|sg 5 c42<|eF .normal (sX t false))<|by kernel_rfl
end
section
variable(t:aj)(named:Bool)
def G3:aA:=bj 102 [(1,.eptr (ai t)),(3,.bool named)] [.dead] []
def lO(o:Unit⊕(Unit)):Exit:=match o with
 |(.inl _)=>.ret
 |(.inr _)=>.normal
def f7(o:Unit⊕(Unit)):aA:=match o with
 |(.inl o)=>bj 102 [(2,.int .i64 3)] [.dead] []
 |(.inr o)=>bj 102 [(1,.eptr (ai t))] [.dead] []
def Ce:Option (Unit⊕(Unit)):=
 if named=true then
  (Cx t.Name).bind fun r38=>
  if(r38 !=0)=true then
   some (.inl ())
  else
   (Cf t).bind fun o45=>
   if(!(o45==(t.Op==4)))=true then
    some (.inl ())
   else
    some (.inr ())
 else
  some (.inr ())
theorem rv{x:Unit⊕(Unit)}(h:Ce t named=some x):aR Pg GE 0 (cA GJ 126) (EX (lO x) (f7 t x)) (G3 t named):=by
 rcases aP h with⟨c37,h⟩|⟨c37,h⟩
 ·obtain⟨r38,br38,h⟩:=aJ h
  have p40:=fun{sc F} (r:PS sc F)=>sg 0 c37<|sv (gJ t)<|sv (iE t)<|cW (BT br38)<|r
  rcases aP h with⟨c39,h⟩|⟨c39,h⟩
  ·obtain rfl:=lf h
   exact bJ oM (p40<|sg 0 c39<|eF (lO (.inl ())) (f7 t (.inl ())))<|by kernel_rfl
  ·obtain⟨o45,bo45,h⟩:=aJ h
   have p47:=fun{sc F} (r:PS sc F)=>p40<|sg 0 c39<|rN 0<|dS (FC t bo45)<|sv (cO t)<|sv (cP t)<|r
   rcases aP h with⟨c46,h⟩|⟨c46,h⟩
   ·obtain rfl:=lf h
    exact bJ oM (p47<|sg 0 c46<|eF (lO (.inl ())) (f7 t (.inl ())))<|by kernel_rfl
   ·obtain rfl:=lf h
    exact bJ oM (p47<|sg 0 c46<|eF (lO (.inr ())) (f7 t (.inr ())))<|by kernel_rfl
 ·obtain rfl:=lf h
  exact bJ oM (sg 0 c37<|eF (lO (.inr ())) (f7 t (.inr ())))<|by kernel_rfl
end
section
variable(R87:tk)(t90:waB)(t91:Int)(t92:Int)
def lP:aA:=bj 102 [(90,sl ai t90),(91,.int .i64 t91),(92,.int .i64 t92)] [.dead] []
def lQ(o:Int⊕(Unit)):Exit:=match o with
 |(.inl _)=>.ret
 |(.inr _)=>.exit 0
def jC(o:Int⊕(Unit)):aA:=match o with
 |(.inl o)=>bj 102 [(2,.int .i64 o)] [.dead] []
 |(.inr o)=>bj 102 [] [.dead] []
def yL:Option (Int⊕(Int⊕(Unit))):=
 if(decide (t92<t91))=true then
  (gY t90 t92).bind fun x50=>
  (R87 x50).bind fun r51=>
  if(r51 !=0)=true then
   some (.inr (.inl r51))
  else
   some (.inl (cp (t92+1)))
 else
  some (.inr (.inr ()))
def Cg:Option (Int⊕(Unit)):=loop (fun(zz:Int)=>yL R87 t90 t91 zz) t92
theorem Et(hR87:xD R87){y:Int⊕(Int⊕(Unit))}(h:yL R87 t90 t91 t92=some y):aR Pg GE 0 (cA GJ 2039) (LQ (fun(zz:Int)=>lP t90 t91 zz) lQ jC y) (lP t90 t91 t92):=by
 rcases aP h with⟨c49,h⟩|⟨c49,h⟩
 ·obtain⟨x50,bx50,h⟩:=aJ h
  obtain⟨r51,br51,h⟩:=aJ h
  have p53:=fun{sc F} (r:PS sc F)=>sg 0 c49<|sv (ee.ia (k:=.i64) bx50)<|sv (lm x50)<|sx Ob<|sx (qX x50)<|sv (kn x50 [])<|cW (hR87 _ _ br51)<|r
  rcases aP h with⟨c52,h⟩|⟨c52,h⟩
  ·obtain rfl:=lf h
   have z:=p53<|sg 0 c52<|tN 0 (lQ (.inl r51)) (jC (.inl r51)) rfl (d5 (aI trivial trivial)) (aI trivial trivial)
   exact pR (A:=oM) mixed (by intro hx;cases hx) z<|by kernel_rfl
  ·obtain rfl:=lf h
   have z:=p53<|sg 0 c52<|tN 0 .normal (lP t90 t91 (cp (t92+1))) rfl (d5 (aI (up (au aN t90)) (aI trivial (aI trivial trivial)))) (aI trivial trivial)
   exact ez (A:=oM) mixed z<|by kernel_rfl
 ·obtain rfl:=lf h
  have z:=sg 0 c49<|eF (lQ (.inr ())) (jC (.inr ()))
  exact kc oM (by intro hx;cases hx) z<|by kernel_rfl
theorem xx(hR87:xD R87){x:Int⊕(Unit)}(h:Cg R87 t90 t91 t92=some x):aR Pg GE 0 (.loop (cA GJ 2039)) (EX (lQ x) (jC x)) (lP t90 t91 t92):=
 aR.loop (S:=fun(zz:Int)=>lP t90 t91 zz) (ex:=lQ) (s:=t92) h fun zz y hy=>Et R87 t90 t91 zz hR87 hy
end
def Er(R87:tk)(t:aj):Option Int:=
 (Cb t).bind fun o3=>
 (Cc t).bind fun o6=>
 (Cd t o3 o6).bind fun o31=>
 if o31=true then
  some 1
 else
  (Gj t).bind fun r34=>
  if(r34 !=0)=true then
   some r34
  else
   (Ce t o3).bind fun o48=>match o48 with
   |(.inl o48)=>
    some 3
   | (.inr o48) =>
    (Cg R87 t.Args (t.Args.length:Int) 0).bind fun o54=>match o54 with
    |(.inl o54)=>
     some o54
    |(.inr o54)=>
     some 0
theorem IY(R87:tk)(hR87:xD R87){t:aj}{r:Int}(h:Er R87 t=some r):CC Pg GE 145 [.agg (ai t)] (.int .i64 r) []:=by
 obtain⟨o3,bo3,h⟩:=aJ h
 obtain⟨o6,bo6,h⟩:=aJ h
 obtain⟨o31,bo31,h⟩:=aJ h
 have p33:=fun{sc F} (r:PS sc F)=>se (pS t)<|rN 0<|dS (Fy t bo3)<|rN 0<|dS (FA t o3 bo6)<|rN 1<|dS (FB t o3 o6 bo31)<|r
 rcases aP h with⟨c32,h⟩|⟨c32,h⟩
 ·obtain rfl:=lf h
  have z:=p33<|sg 0 c32<|en (aI (rP (.int .i64 1))<|trivial)
  exact cR oM call145 func145 (c:=GJ) rfl (aI (aN t) trivial) z<|by kernel_rfl
 ·obtain⟨r34,br34,h⟩:=aJ h
  have p36:=fun{sc F} (r:PS sc F)=>p33<|sg 0 c32<|sv (lm t)<|cW (IV br34)<|r
  rcases aP h with⟨c35,h⟩|⟨c35,h⟩
  ·obtain rfl:=lf h
   have z:=p36<|sg 0 c35<|en (aI (rP (.int .i64 r34))<|trivial)
   exact cR oM call145 func145 (c:=GJ) rfl (aI (aN t) trivial) z<|by kernel_rfl
  ·obtain⟨o48,bo48,h⟩:=aJ h
   rcases o48 with o48|o48
   ·obtain rfl:=lf h
    have z:=p36<|sg 0 c35<|rN 0<|dS (e:=.ret) (s1:=f7 t (.inl o48)) (rv t o3 bo48)<|en (aI (rP (.int .i64 3))<|trivial)
    exact cR oM call145 func145 (c:=GJ) rfl (aI (aN t) trivial) z<|by kernel_rfl
   ·obtain⟨o54,bo54,h⟩:=aJ h
    rcases o54 with o54|o54
    ·obtain rfl:=lf h
     have z:=p36<|sg 0 c35<|rN 0<|dS (e:=.normal) (s1:=f7 t (.inr o48)) (rv t o3 bo48)<|sv (dG t)<|sv (dH t)<|cq (ee.ln t.Args)<|dS (e:=.ret) (s1:=jC (.inl o54)) (xx R87 t.Args (t.Args.length:Int) 0 hR87 bo54)<|en (aI (rP (.int .i64 o54))<|trivial)
     exact cR oM call145 func145 (c:=GJ) rfl (aI (aN t) trivial) z<|by kernel_rfl
    ·obtain rfl:=lf h
     have z:=p36<|sg 0 c35<|rN 0<|dS (e:=.normal) (s1:=f7 t (.inr o48)) (rv t o3 bo48)<|sv (dG t)<|sv (dH t)<|cq (ee.ln t.Args)<|dS (e:=.exit 0) (s1:=jC (.inr o54)) (xx R87 t.Args (t.Args.length:Int) 0 hR87 bo54)<|en (aI (rP (.int .i64 0))<|trivial)
     exact cR oM call145 func145 (c:=GJ) rfl (aI (aN t) trivial) z<|by kernel_rfl
def Es:(aj->Option Int)->(aj)->Option Int:=fun(rec:aj->Option Int) (x:aj)=>Er (fun t=>rec t) x
def IX(t:aj):Option Int:=sd Es t
theorem JG{t:aj}{r:Int}(h:IX t=some r):CC Pg GE 145 [.agg (ai t)] (.int .i64 r) []:=
 eM (F:=Es) (M:=fun(x:aj) (r:Int)=>CC Pg GE 145 [.agg (ai x)] (.int .i64 r) []) (fun rec hrec x r h=>IY _ (fun t r h=>hrec t r h) h) h
noncomputable def VQ:Code:=f120.body.getD .skip
def Vt:List Nat:=[]
def Av(t:aj):Option Int:=
 (Gk t).bind fun r1=>
 if(decide (r1>40))=true then
  some 8
 else
  (IX t).bind fun r4=>
  some r4
theorem Aw{t:aj}{r:Int}(h:Av t=some r):CC Pg GE 120 [.agg (ai t)] (.int .i64 r) []:=by
 obtain⟨r1,br1,h⟩:=aJ h
 have p3:=fun{sc F} (r:PS sc F)=>se (pS t)<|sv (lm t)<|cW (IW br1)<|r
 rcases aP h with⟨c2,h⟩|⟨c2,h⟩
 ·obtain rfl:=lf h
  have z:=p3<|sg 0 c2<|en (aI (rP (.int .i64 8))<|trivial)
  exact cR Vt call120 func120 (c:=VQ) rfl (aI (aN t) trivial) z<|by kernel_rfl
 ·obtain⟨r4,br4,h⟩:=aJ h
  obtain rfl:=lf h
  have z:=p3<|sg 0 c2<|sv (lm t)<|cW (JG br4)<|en (aI (rP (.int .i64 r4))<|trivial)
  exact cR Vt call120 func120 (c:=VQ) rfl (aI (aN t) trivial) z<|by kernel_rfl
abbrev hZ:=(aj->aj->Option Bool)
abbrev mf(R:hZ):Prop:=∀(a:aj) (a2:aj) (r:Bool),R a a2=some r->CC Pg GE 72 [.agg (ai a),.agg (ai a2)] (.bool r) []
noncomputable def V0:Code:=f77.body.getD .skip
def Vd:List Nat:=[15]
section
variable(s1:waA)(s2:waA)(t12:Int)(t13:Int)
def jN:aA:=bj 26 [(0,sl cS s1),(1,sl cS s2),(12,.int .i64 t12),(13,.int .i64 t13)] [] []
def jO(o:Unit⊕(Unit)):Exit:=match o with
 |(.inl _)=>.ret
 |(.inr _)=>.exit 0
def ic(o:Unit⊕(Unit)):aA:=match o with
 |(.inl o)=>bj 26 [(4,.bool false)] [] []
 |(.inr o)=>bj 26 [] [] []
def vZ:Option (Int⊕(Unit⊕(Unit))):=
 if(decide (t13<t12))=true then
  (gY s1 t13).bind fun x4=>
  (gY s2 t13).bind fun x5=>
  if(!(x4==x5))=true then
   some (.inr (.inl ()))
  else
   some (.inl (cp (t13+1)))
 else
  some (.inr (.inr ()))
def yE:Option (Unit⊕(Unit)):=loop (fun(zz:Int)=>vZ s1 s2 t12 zz) t13
theorem Bq{y:Int⊕(Unit⊕(Unit))}(h:vZ s1 s2 t12 t13=some y):aR Pg GE 0 (cA V0 119) (LQ (fun(zz:Int)=>jN s1 s2 t12 zz) jO ic y) (jN s1 s2 t12 t13):=by
 rcases aP h with⟨c3,h⟩|⟨c3,h⟩
 ·obtain⟨x4,bx4,h⟩:=aJ h
  obtain⟨x5,bx5,h⟩:=aJ h
  have p7:=fun{sc F} (r:PS sc F)=>sg 0 c3<|I1 [0,0,3,7,0,0,48,112,255]<|sv (dK.ia (k:=.i64) bx4)<|sv (cZ Ge (.str x4) [])<|sv (dK.ia (k:=.i64) bx5)<|sv (cZ Ge (.str x5) [])<|r
  rcases aP h with⟨c6,h⟩|⟨c6,h⟩
  ·obtain rfl:=lf h
   have z:=p7<|sg 0 c6<|eF (jO (.inl ())) (ic (.inl ()))
   exact kc Vd (by intro hx;cases hx) z<|by kernel_rfl
  ·obtain rfl:=lf h
   exact AU Vd (p7<|sg 0 c6<|eF .normal (jN s1 s2 t12 (cp (t13+1))))<|by kernel_rfl
 ·obtain rfl:=lf h
  have z:=sg 0 c3<|eF (jO (.inr ())) (ic (.inr ()))
  exact kc Vd (by intro hx;cases hx) z<|by kernel_rfl
theorem uN{x:Unit⊕(Unit)}(h:yE s1 s2 t12 t13=some x):aR Pg GE 0 (.loop (cA V0 119)) (EX (jO x) (ic x)) (jN s1 s2 t12 t13):=
 aR.loop (S:=fun(zz:Int)=>jN s1 s2 t12 zz) (ex:=jO) (s:=t13) h fun zz y hy=>Bq s1 s2 t12 zz hy
end
def Ea(s1:waA)(s2:waA):Option Bool:=
 if((s1.length:Int)!=(s2.length:Int))=true then
  some false
 else
  (yE s1 s2 (s1.length:Int) 0).bind fun o8=>match o8 with
  |(.inl o8)=>
   some false
  |(.inr o8)=>
   some true
theorem GV{s1:waA}{s2:waA}{r:Bool}(h:Ea s1 s2=some r):CC Pg GE 77 [sl cS s1,sl cS s2] (.bool r) []:=by
 have p2:=fun{sc F} (r:PS sc F)=>cq (dK.ln s1)<|cq (dK.ln s2)<|r
 rcases aP h with⟨c1,h⟩|⟨c1,h⟩
 ·obtain rfl:=lf h
  have z:=p2<|sg 0 c1<|en (aI (rP (.bool false))<|trivial)
  exact cR Vd call77 func77 (c:=V0) rfl (aI (au cb s1) (aI (au cb s2) trivial)) z<|by kernel_rfl
 ·obtain⟨o8,bo8,h⟩:=aJ h
  rcases o8 with o8|o8
  ·obtain rfl:=lf h
   have z:=p2<|sg 0 c1<|cq (dK.ln s1)<|dS (e:=.ret) (s1:=ic (.inl o8)) (uN s1 s2 (s1.length:Int) 0 bo8)<|en (aI (rP (.bool false))<|trivial)
   exact cR Vd call77 func77 (c:=V0) rfl (aI (au cb s1) (aI (au cb s2) trivial)) z<|by kernel_rfl
  ·obtain rfl:=lf h
   have z:=p2<|sg 0 c1<|cq (dK.ln s1)<|dS (e:=.exit 0) (s1:=ic (.inr o8)) (uN s1 s2 (s1.length:Int) 0 bo8)<|en (aI (rP (.bool true))<|trivial)
   exact cR Vd call77 func77 (c:=V0) rfl (aI (au cb s1) (aI (au cb s2) trivial)) z<|by kernel_rfl
abbrev oZ:=(ax->ax->Option Bool)
abbrev vB(R:oZ):Prop:=∀(a:ax) (a2:ax) (r:Bool),R a a2=some r->CC Pg GE 123 [.agg (aw a),.agg (aw a2)] (.bool r) []
noncomputable def Rp:Code:=f152.body.getD .skip
def Pl:List Nat:=[17]
section
variable(R92:oZ)(v:waF)(v2:waF)(t14:Int)(t15:Int)
def lA:aA:=bj 30 [(0,sl aw v),(1,sl aw v2),(2,.func (.func 123) [] []),(14,.int .i64 t14),(15,.int .i64 t15)] [] []
def lB(o:Unit⊕(Unit)):Exit:=match o with
 |(.inl _)=>.ret
 |(.inr _)=>.exit 0
def jB(o:Unit⊕(Unit)):aA:=match o with
 |(.inl o)=>bj 30 [(6,.bool false)] [] []
 |(.inr o)=>bj 30 [] [] []
def yD:Option (Int⊕(Unit⊕(Unit))):=
 if(decide (t15<t14))=true then
  (gY v t15).bind fun x4=>
  (gY v2 t15).bind fun x5=>
  (R92 x4 x5).bind fun r6=>
  if(!r6)=true then
   some (.inr (.inl ()))
  else
   some (.inl (cp (t15+1)))
 else
  some (.inr (.inr ()))
def B4:Option (Unit⊕(Unit)):=loop (fun(zz:Int)=>yD R92 v v2 t14 zz) t15
theorem D2(hR92:vB R92){y:Int⊕(Unit⊕(Unit))}(h:yD R92 v v2 t14 t15=some y):aR Pg GE 0 (cA Rp 119) (LQ (fun(zz:Int)=>lA v v2 t14 zz) lB jB y) (lA v v2 t14 t15):=by
 rcases aP h with⟨c3,h⟩|⟨c3,h⟩
 ·obtain⟨x4,bx4,h⟩:=aJ h
  obtain⟨x5,bx5,h⟩:=aJ h
  obtain⟨r6,br6,h⟩:=aJ h
  have p8:=fun{sc F} (r:PS sc F)=>sg 0 c3<|I1 [0,0,0,6,14,0,0,96,224,511,1023]<|sv (nH.ia (k:=.i64) bx4)<|sv (pN x4)<|sv (nH.ia (k:=.i64) bx5)<|sv (pN x5)<|cW (hR92 _ _ _ br6)<|r
  rcases aP h with⟨c7,h⟩|⟨c7,h⟩
  ·obtain rfl:=lf h
   have z:=p8<|sg 0 c7<|eF (lB (.inl ())) (jB (.inl ()))
   exact kc Pl (by intro hx;cases hx) z<|by kernel_rfl
  ·obtain rfl:=lf h
   exact AU Pl (p8<|sg 0 c7<|eF .normal (lA v v2 t14 (cp (t15+1))))<|by kernel_rfl
 ·obtain rfl:=lf h
  have z:=sg 0 c3<|eF (lB (.inr ())) (jB (.inr ()))
  exact kc Pl (by intro hx;cases hx) z<|by kernel_rfl
theorem xi(hR92:vB R92){x:Unit⊕(Unit)}(h:B4 R92 v v2 t14 t15=some x):aR Pg GE 0 (.loop (cA Rp 119)) (EX (lB x) (jB x)) (lA v v2 t14 t15):=
 aR.loop (S:=fun(zz:Int)=>lA v v2 t14 zz) (ex:=lB) (s:=t15) h fun zz y hy=>D2 R92 v v2 t14 zz hR92 hy
end
def IC(R92:oZ)(a:waF)(a2:waF):Option Bool:=
 if((a.length:Int)!=(a2.length:Int))=true then
  some false
 else
  (B4 R92 a a2 (a.length:Int) 0).bind fun o9=>match o9 with
  |(.inl o9)=>
   some false
  |(.inr o9)=>
   some true
theorem JB(R92:oZ)(hR92:vB R92){a:waF}{a2:waF}{r:Bool}(h:IC R92 a a2=some r):CC Pg GE 152 [sl aw a,sl aw a2,.func (.func 123) [] []] (.bool r) []:=by
 have p2:=fun{sc F} (r:PS sc F)=>cq (nH.ln a)<|cq (nH.ln a2)<|r
 rcases aP h with⟨c1,h⟩|⟨c1,h⟩
 ·obtain rfl:=lf h
  have z:=p2<|sg 0 c1<|en (aI (rP (.bool false))<|trivial)
  exact cR Pl call152 func152 (c:=Rp) rfl (aI (au bO a) (aI (au bO a2) (aI (aI trivial trivial) trivial))) z<|by kernel_rfl
 ·obtain⟨o9,bo9,h⟩:=aJ h
  rcases o9 with o9|o9
  ·obtain rfl:=lf h
   have z:=p2<|sg 0 c1<|cq (nH.ln a)<|dS (e:=.ret) (s1:=jB (.inl o9)) (xi R92 a a2 (a.length:Int) 0 hR92 bo9)<|en (aI (rP (.bool false))<|trivial)
   exact cR Pl call152 func152 (c:=Rp) rfl (aI (au bO a) (aI (au bO a2) (aI (aI trivial trivial) trivial))) z<|by kernel_rfl
  ·obtain rfl:=lf h
   have z:=p2<|sg 0 c1<|cq (nH.ln a)<|dS (e:=.exit 0) (s1:=jB (.inr o9)) (xi R92 a a2 (a.length:Int) 0 hR92 bo9)<|en (aI (rP (.bool true))<|trivial)
   exact cR Pl call152 func152 (c:=Rp) rfl (aI (au bO a) (aI (au bO a2) (aI (aI trivial trivial) trivial))) z<|by kernel_rfl
noncomputable def S2:Code:=f123.body.getD .skip
def SO:List Nat:=[]
def Gb(R92:oZ)(a:ax)(a2:ax):Option Bool:=
 if (a.Op == a2.Op) = true then
  if(a.Name==a2.Name)=true then
   if(a.N==a2.N)=true then
    (IC R92 a.Kids a2.Kids).bind fun r7=>
    some r7
   else
    some false
  else
   some false
 else
  some false
theorem JA(R92:oZ)(hR92:vB R92){a:ax}{a2:ax}{r:Bool}(h:Gb R92 a a2=some r):CC Pg GE 123 [.agg (aw a),.agg (aw a2)] (.bool r) []:=by
 have p2:=fun{sc F} (r:PS sc F)=>se (DV a)<|se (DV a2)<|sv (rE a)<|sv (rH a)<|sv (rE a2)<|sv (rH a2)<|r
 rcases aP h with⟨c1,h⟩|⟨c1,h⟩
 ·have p4:=fun{sc F} (r:PS sc F)=>p2<|sg 6 c1<|sv (n8 a)<|sv (pM a)<|sv (n8 a2)<|sv (pM a2)<|r
  rcases aP h with⟨c3,h⟩|⟨c3,h⟩
  ·have p6:=fun{sc F} (r:PS sc F)=>p4<|sg 13 c3<|sv (rF a)<|sv (tB a)<|sv (rF a2)<|sv (tB a2)<|r
   rcases aP h with⟨c5,h⟩|⟨c5,h⟩
   ·obtain⟨r7,br7,h⟩:=aJ h
    obtain rfl:=lf h
    have z:=p6<|sg 20 c5<|sv (gI a)<|sv (gK a)<|sv (gI a2)<|sv (gK a2)<|cW (JB R92 hR92 br7)<|en (aI (rP (.bool r7))<|trivial)
    exact cR SO call123 func123 (c:=S2) rfl (aI (bO a) (aI (bO a2) trivial)) z<|by kernel_rfl
   ·obtain rfl:=lf h
    have z:=p6<|sg 20 c5<|en (aI (rP (.bool false))<|trivial)
    exact cR SO call123 func123 (c:=S2) rfl (aI (bO a) (aI (bO a2) trivial)) z<|by kernel_rfl
  ·obtain rfl:=lf h
   have z:=p4<|sg 13 c3<|en (aI (rP (.bool false))<|trivial)
   exact cR SO call123 func123 (c:=S2) rfl (aI (bO a) (aI (bO a2) trivial)) z<|by kernel_rfl
 ·obtain rfl:=lf h
  have z:=p2<|sg 6 c1<|en (aI (rP (.bool false))<|trivial)
  exact cR SO call123 func123 (c:=S2) rfl (aI (bO a) (aI (bO a2) trivial)) z<|by kernel_rfl
def Gc:((ax×ax)->Option Bool)->(ax×ax)->Option Bool:=fun(rec:(ax×ax)->Option Bool) (x:ax×ax)=>Gb (fun a a2=>rec (a,a2)) x.1 x.2
def Ff(a:ax)(a2:ax):Option Bool:=sd Gc (a,a2)
theorem D1{a:ax}{a2:ax}{r:Bool}(h:Ff a a2=some r):CC Pg GE 123 [.agg (aw a),.agg (aw a2)] (.bool r) []:=
 eM (F:=Gc) (M:=fun(x:ax×ax) (r:Bool)=>CC Pg GE 123 [.agg (aw x.1),.agg (aw x.2)] (.bool r) []) (fun rec hrec x r h=>JA _ (fun a a2 r h=>hrec (a,a2) r h) h) h
noncomputable def Ro:Code:=f124.body.getD .skip
def Pk:List Nat:=[19]
section
variable(s2:waF)(t15:waF)(t16:Int)(t17:Int)
def gh:aA:=bj 32 [(1,sl aw s2),(2,.func (.func 123) [] []),(15,sl aw t15),(16,.int .i64 t16),(17,.int .i64 t17)] [] []
def gi(o:Unit⊕(Unit)):Exit:=match o with
 |(.inl _)=>.ret
 |(.inr _)=>.exit 0
def eK(o:Unit⊕(Unit)):aA:=match o with
 |(.inl o)=>bj 32 [(6,.bool false)] [] []
 |(.inr o)=>bj 32 [] [] []
def qH:Option (Int⊕(Unit⊕(Unit))):=
 if(decide (t17<t16))=true then
  (gY t15 t17).bind fun x4=>
  (gY s2 t17).bind fun x5=>
  (Ff x4 x5).bind fun r6=>
  if(!r6)=true then
   some (.inr (.inl ()))
  else
   some (.inl (cp (t17+1)))
 else
  some (.inr (.inr ()))
def te:Option (Unit⊕(Unit)):=loop (fun(zz:Int)=>qH s2 t15 t16 zz) t17
theorem xk{y:Int⊕(Unit⊕(Unit))}(h:qH s2 t15 t16 t17=some y):aR Pg GE 0 (cA Ro 119) (LQ (fun(zz:Int)=>gh s2 t15 t16 zz) gi eK y) (gh s2 t15 t16 t17):=by
 rcases aP h with⟨c3,h⟩|⟨c3,h⟩
 ·obtain⟨x4,bx4,h⟩:=aJ h
  obtain⟨x5,bx5,h⟩:=aJ h
  obtain⟨r6,br6,h⟩:=aJ h
  have p8:=fun{sc F} (r:PS sc F)=>sg 0 c3<|sv (nH.ia (k:=.i64) bx4)<|sv (pN x4)<|sx TN<|sx (AW x4)<|sv (nH.ia (k:=.i64) bx5)<|sv (pN x5)<|sx TN<|sx (AW x5)<|sv (wV x4 [])<|sv (wV x5 [])<|cW (D1 br6)<|r
  rcases aP h with⟨c7,h⟩|⟨c7,h⟩
  ·obtain rfl:=lf h
   have z:=p8<|sg 0 c7<|tN 0 (gi (.inl ())) (eK (.inl ())) rfl (d5 (aI trivial trivial)) trivial
   exact pR (A:=Pk) mixed (by intro hx;cases hx) z<|by kernel_rfl
  ·obtain rfl:=lf h
   have z:=p8<|sg 0 c7<|tN 0 .normal (gh s2 t15 t16 (cp (t17+1))) rfl (d5 (aI (up (au bO s2)) (aI (aI trivial trivial) (aI (up (au bO t15)) (aI trivial (aI trivial trivial)))))) trivial
   exact ez (A:=Pk) mixed z<|by kernel_rfl
 ·obtain rfl:=lf h
  have z:=sg 0 c3<|eF (gi (.inr ())) (eK (.inr ()))
  exact kc Pk (by intro hx;cases hx) z<|by kernel_rfl
theorem pX{x:Unit⊕(Unit)}(h:te s2 t15 t16 t17=some x):aR Pg GE 0 (.loop (cA Ro 119)) (EX (gi x) (eK x)) (gh s2 t15 t16 t17):=
 aR.loop (S:=fun(zz:Int)=>gh s2 t15 t16 zz) (ex:=gi) (s:=t17) h fun zz y hy=>xk s2 t15 t16 zz hy
end
def xj(s1:waF)(s2:waF):Option Bool:=
 if((s1.length:Int)!=(s2.length:Int))=true then
  some false
 else
  (te s2 s1 (s1.length:Int) 0).bind fun o9=>match o9 with
  |(.inl o9)=>
   some false
  |(.inr o9)=>
   some true
theorem Bp{s1:waF}{s2:waF}{r:Bool}(h:xj s1 s2=some r):CC Pg GE 124 [sl aw s1,sl aw s2,.func (.func 123) [] []] (.bool r) []:=by
 have p2:=fun{sc F} (r:PS sc F)=>cq (nH.ln s1)<|cq (nH.ln s2)<|r
 rcases aP h with⟨c1,h⟩|⟨c1,h⟩
 ·obtain rfl:=lf h
  have z:=p2<|sg 0 c1<|en (aI (rP (.bool false))<|trivial)
  exact cR Pk call124 func124 (c:=Ro) rfl (aI (au bO s1) (aI (au bO s2) (aI (aI trivial trivial) trivial))) z<|by kernel_rfl
 ·obtain⟨o9,bo9,h⟩:=aJ h
  rcases o9 with o9|o9
  ·obtain rfl:=lf h
   have z:=p2<|sg 0 c1<|cq (nH.ln s1)<|dS (e:=.ret) (s1:=eK (.inl o9)) (pX s2 s1 (s1.length:Int) 0 bo9)<|en (aI (rP (.bool false))<|trivial)
   exact cR Pk call124 func124 (c:=Ro) rfl (aI (au bO s1) (aI (au bO s2) (aI (aI trivial trivial) trivial))) z<|by kernel_rfl
  ·obtain rfl:=lf h
   have z:=p2<|sg 0 c1<|cq (nH.ln s1)<|dS (e:=.exit 0) (s1:=eK (.inr o9)) (pX s2 s1 (s1.length:Int) 0 bo9)<|en (aI (rP (.bool true))<|trivial)
   exact cR Pk call124 func124 (c:=Ro) rfl (aI (au bO s1) (aI (au bO s2) (aI (aI trivial trivial) trivial))) z<|by kernel_rfl
noncomputable def VZ:Code:=f71.body.getD .skip
def Vb:List Nat:=[19]
section
variable(R90:hZ)(s2:waB)(t15:waB)(t16:Int)(t17:Int)
def dn:aA:=bj 32 [(1,sl ai s2),(2,.func (.func 72) [] []),(15,sl ai t15),(16,.int .i64 t16),(17,.int .i64 t17)] [] []
def dp(o:Unit⊕(Unit)):Exit:=match o with
 |(.inl _)=>.ret
 |(.inr _)=>.exit 0
def cE(o:Unit⊕(Unit)):aA:=match o with
 |(.inl o)=>bj 32 [(6,.bool false)] [] []
 |(.inr o)=>bj 32 [] [] []
def ky:Option (Int⊕(Unit⊕(Unit))):=
 if(decide (t17<t16))=true then
  (gY t15 t17).bind fun x4=>
  (gY s2 t17).bind fun x5=>
  (R90 x4 x5).bind fun r6=>
  if(!r6)=true then
   some (.inr (.inl ()))
  else
   some (.inl (cp (t17+1)))
 else
  some (.inr (.inr ()))
def lF:Option (Unit⊕(Unit)):=loop (fun(zz:Int)=>ky R90 s2 t15 t16 zz) t17
theorem pY(hR90:mf R90){y:Int⊕(Unit⊕(Unit))}(h:ky R90 s2 t15 t16 t17=some y):aR Pg GE 0 (cA VZ 119) (LQ (fun(zz:Int)=>dn s2 t15 t16 zz) dp cE y) (dn s2 t15 t16 t17):=by
 rcases aP h with⟨c3,h⟩|⟨c3,h⟩
 ·obtain⟨x4,bx4,h⟩:=aJ h
  obtain⟨x5,bx5,h⟩:=aJ h
  obtain⟨r6,br6,h⟩:=aJ h
  have p8:=fun{sc F} (r:PS sc F)=>sg 0 c3<|sv (ee.ia (k:=.i64) bx4)<|sv (lm x4)<|sx Ob<|sx (qX x4)<|sv (ee.ia (k:=.i64) bx5)<|sv (lm x5)<|sx Ob<|sx (qX x5)<|sv (kn x4 [])<|sv (kn x5 [])<|cW (hR90 _ _ _ br6)<|r
  rcases aP h with⟨c7,h⟩|⟨c7,h⟩
  ·obtain rfl:=lf h
   have z:=p8<|sg 0 c7<|tN 0 (dp (.inl ())) (cE (.inl ())) rfl (d5 (aI trivial trivial)) trivial
   exact pR (A:=Vb) mixed (by intro hx;cases hx) z<|by kernel_rfl
  ·obtain rfl:=lf h
   have z:=p8<|sg 0 c7<|tN 0 .normal (dn s2 t15 t16 (cp (t17+1))) rfl (d5 (aI (up (au aN s2)) (aI (aI trivial trivial) (aI (up (au aN t15)) (aI trivial (aI trivial trivial)))))) trivial
   exact ez (A:=Vb) mixed z<|by kernel_rfl
 ·obtain rfl:=lf h
  have z:=sg 0 c3<|eF (dp (.inr ())) (cE (.inr ()))
  exact kc Vb (by intro hx;cases hx) z<|by kernel_rfl
theorem j9(hR90:mf R90){x:Unit⊕(Unit)}(h:lF R90 s2 t15 t16 t17=some x):aR Pg GE 0 (.loop (cA VZ 119)) (EX (dp x) (cE x)) (dn s2 t15 t16 t17):=
 aR.loop (S:=fun(zz:Int)=>dn s2 t15 t16 zz) (ex:=dp) (s:=t17) h fun zz y hy=>pY R90 s2 t15 t16 zz hR90 hy
end
def nu(R90:hZ)(s1:waB)(s2:waB):Option Bool:=
 if((s1.length:Int)!=(s2.length:Int))=true then
  some false
 else
  (lF R90 s2 s1 (s1.length:Int) 0).bind fun o9=>match o9 with
  |(.inl o9)=>
   some false
  |(.inr o9)=>
   some true
theorem sN(R90:hZ)(hR90:mf R90){s1:waB}{s2:waB}{r:Bool}(h:nu R90 s1 s2=some r):CC Pg GE 71 [sl ai s1,sl ai s2,.func (.func 72) [] []] (.bool r) []:=by
 have p2:=fun{sc F} (r:PS sc F)=>cq (ee.ln s1)<|cq (ee.ln s2)<|r
 rcases aP h with⟨c1,h⟩|⟨c1,h⟩
 ·obtain rfl:=lf h
  have z:=p2<|sg 0 c1<|en (aI (rP (.bool false))<|trivial)
  exact cR Vb call71 func71 (c:=VZ) rfl (aI (au aN s1) (aI (au aN s2) (aI (aI trivial trivial) trivial))) z<|by kernel_rfl
 ·obtain⟨o9,bo9,h⟩:=aJ h
  rcases o9 with o9|o9
  ·obtain rfl:=lf h
   have z:=p2<|sg 0 c1<|cq (ee.ln s1)<|dS (e:=.ret) (s1:=cE (.inl o9)) (j9 R90 s2 s1 (s1.length:Int) 0 hR90 bo9)<|en (aI (rP (.bool false))<|trivial)
   exact cR Vb call71 func71 (c:=VZ) rfl (aI (au aN s1) (aI (au aN s2) (aI (aI trivial trivial) trivial))) z<|by kernel_rfl
  ·obtain rfl:=lf h
   have z:=p2<|sg 0 c1<|cq (ee.ln s1)<|dS (e:=.exit 0) (s1:=cE (.inr o9)) (j9 R90 s2 s1 (s1.length:Int) 0 hR90 bo9)<|en (aI (rP (.bool true))<|trivial)
   exact cR Vb call71 func71 (c:=VZ) rfl (aI (au aN s1) (aI (au aN s2) (aI (aI trivial trivial) trivial))) z<|by kernel_rfl
noncomputable def Vg:Code:=f72.body.getD .skip
def Vc:List Nat:=[]
def wh(R90:hZ)(a:aj)(a2:aj):Option Bool:=
 if (a.Op == a2.Op) = true then
  if (a.Name == a2.Name) = true then
   (Ea a.Names a2.Names).bind fun r5=>
   if r5=true then
    (Ff a.Pred a2.Pred).bind fun r8=>
    if r8=true then
     (xj a.Preds a2.Preds).bind fun r11=>
     if r11=true then
      (nu R90 a.Args a2.Args).bind fun r14=>
      some r14
     else
      some false
    else
     some false
   else
    some false
  else
   some false
 else
  some false
theorem BC(R90:hZ)(hR90:mf R90){a:aj}{a2:aj}{r:Bool}(h:wh R90 a a2=some r):CC Pg GE 72 [.agg (ai a),.agg (ai a2)] (.bool r) []:=by
 have p2:=fun{sc F} (r:PS sc F)=>se (pS a)<|se (pS a2)<|sv (cO a)<|sv (cP a)<|sv (cO a2)<|sv (cP a2)<|r
 rcases aP h with⟨c1,h⟩|⟨c1,h⟩
 ·have p4:=fun{sc F} (r:PS sc F)=>p2<|sg 6 c1<|sv (gJ a)<|sv (iE a)<|sv (gJ a2)<|sv (iE a2)<|r
  rcases aP h with⟨c3,h⟩|⟨c3,h⟩
  ·obtain⟨r5,br5,h⟩:=aJ h
   have p7:=fun{sc F} (r:PS sc F)=>p4<|sg 13 c3<|sv (eL a)<|sv (eO a)<|sv (eL a2)<|sv (eO a2)<|cW (GV br5)<|r
   rcases aP h with⟨c6,h⟩|⟨c6,h⟩
   ·obtain⟨r8,br8,h⟩:=aJ h
    have p10:=fun{sc F} (r:PS sc F)=>p7<|sg 20 c6<|sv (n9 a)<|sv (oc a)<|sv (n9 a2)<|sv (oc a2)<|cW (D1 br8)<|r
    rcases aP h with⟨c9,h⟩|⟨c9,h⟩
    ·obtain⟨r11,br11,h⟩:=aJ h
     have p13:=fun{sc F} (r:PS sc F)=>p10<|sg 27 c9<|sv (iJ a)<|sv (iL a)<|sv (iJ a2)<|sv (iL a2)<|cW (Bp br11)<|r
     rcases aP h with⟨c12,h⟩|⟨c12,h⟩
     ·obtain⟨r14,br14,h⟩:=aJ h
      obtain rfl:=lf h
      have z:=p13<|sg 34 c12<|sv (dG a)<|sv (dH a)<|sv (dG a2)<|sv (dH a2)<|cW (sN R90 hR90 br14)<|en (aI (rP (.bool r14))<|trivial)
      exact cR Vc call72 func72 (c:=Vg) rfl (aI (aN a) (aI (aN a2) trivial)) z<|by kernel_rfl
     ·obtain rfl:=lf h
      have z:=p13<|sg 34 c12<|en (aI (rP (.bool false))<|trivial)
      exact cR Vc call72 func72 (c:=Vg) rfl (aI (aN a) (aI (aN a2) trivial)) z<|by kernel_rfl
    ·obtain rfl:=lf h
     have z:=p10<|sg 27 c9<|en (aI (rP (.bool false))<|trivial)
     exact cR Vc call72 func72 (c:=Vg) rfl (aI (aN a) (aI (aN a2) trivial)) z<|by kernel_rfl
   ·obtain rfl:=lf h
    have z:=p7<|sg 20 c6<|en (aI (rP (.bool false))<|trivial)
    exact cR Vc call72 func72 (c:=Vg) rfl (aI (aN a) (aI (aN a2) trivial)) z<|by kernel_rfl
  ·obtain rfl:=lf h
   have z:=p4<|sg 13 c3<|en (aI (rP (.bool false))<|trivial)
   exact cR Vc call72 func72 (c:=Vg) rfl (aI (aN a) (aI (aN a2) trivial)) z<|by kernel_rfl
 ·obtain rfl:=lf h
  have z:=p2<|sg 6 c1<|en (aI (rP (.bool false))<|trivial)
  exact cR Vc call72 func72 (c:=Vg) rfl (aI (aN a) (aI (aN a2) trivial)) z<|by kernel_rfl
def wj:((aj×aj)->Option Bool)->(aj×aj)->Option Bool:=fun(rec:(aj×aj)->Option Bool) (x:aj×aj)=>wh (fun a a2=>rec (a,a2)) x.1 x.2
def yK(a:aj)(a2:aj):Option Bool:=sd wj (a,a2)
theorem CZ{a:aj}{a2:aj}{r:Bool}(h:yK a a2=some r):CC Pg GE 72 [.agg (ai a),.agg (ai a2)] (.bool r) []:=
 eM (F:=wj) (M:=fun(x:aj×aj) (r:Bool)=>CC Pg GE 72 [.agg (ai x.1),.agg (ai x.2)] (.bool r) []) (fun rec hrec x r h=>BC _ (fun a a2 r h=>hrec (a,a2) r h) h) h
noncomputable def Xc:Code:=f121.body.getD .skip
def WU:List Nat:=[]
def Gh(t:aj):Option Bool:=
 (yK t (⟨0,([]:ag),([]:List aj),([]:List ag),(⟨0,([]:ag),0,([]:List ax)⟩:ax),([]:List ax)⟩:aj)).bind fun r1=>
 some r1
theorem IS{t:aj}{r:Bool}(h:Gh t=some r):CC Pg GE 121 [.agg (ai t)] (.bool r) []:=by
 obtain⟨r1,br1,h⟩:=aJ h
 obtain rfl:=lf h
 have z:=se (pS t)<|sv (lm t)<|sb (NA) (Nz)<|cW (CZ br1)<|en (aI (rP (.bool r1))<|trivial)
 exact cR WU call121 func121 (c:=Xc) rfl (aI (aN t) trivial) z<|by kernel_rfl
end Go.Proofs.YtkdahfeiedaahaaGreatDoor
