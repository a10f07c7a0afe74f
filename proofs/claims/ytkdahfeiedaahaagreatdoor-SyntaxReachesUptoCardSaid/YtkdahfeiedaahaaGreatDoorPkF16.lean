/- PROVED: a part of the proof. Conditions: none. -/
import Derived.Test.YtkdahfeiedaahaaGreatDoorPkF15
noncomputable section
namespace Go.Proofs.YtkdahfeiedaahaaGreatDoor
open Go Go.Proofs.Tryz
set_option linter.unusedVariables false
set_option maxRecDepth 100000
abbrev uw:=(aj->Option Int)
abbrev yY(R:uw):Prop:=∀(t:aj) (r:Int),R t=some r->CC Pg GE 145 [.agg (ai t)] (.int .i64 r) []
noncomputable def X7:Code:=f166.body.getD .skip
def SX:List Nat:=[]
theorem Z166:ZF SX 166 f166 X7:=⟨call166,func166,rfl⟩
section
variable(t:aj)
def Hl:aB:=bg 39 [(1,.eptr (ai t))] [.dead] []
def lr(o:Bool):aB:=bg 39 [(38,.bool o)] [.dead] []
def B5:Option Bool:=
 if(decide ((t.Args.length:Int)<2))=true then
  some true
 else
  if(decide ((t.Args.length:Int)>7))=true then
   some true
  else
   if((t.Names.length:Int)!=0)=true then
    some ((t.Names.length:Int)!=(bV ((t.Args.length:Int) - 1)))
   else
    some false
theorem Gc{x:Bool}(h:B5 t=some x):bh Pg GE 0 (cA X7 892) (EX .normal (lr x)) (Hl t):=by
 have p8:=fun{sc F} (r:PS sc F)=>sv (dH t)<|sv (dI t)<|bW (er.ln t.Args)<|r
 rcases aQ h with⟨c7,h⟩|⟨c7,h⟩
 ·obtain rfl:=lf h
  exact bF SX (p8<|sg 5 c7<|eF .normal (lr true))<|by kernel_rfl
 ·have p10:=fun{sc F} (r:PS sc F)=>p8<|sg 5 c7<|sv (dH t)<|sv (dI t)<|bW (er.ln t.Args)<|r
  rcases aQ h with⟨c9,h⟩|⟨c9,h⟩
  ·obtain rfl:=lf h
   exact bF SX (p10<|sg 11 c9<|eF .normal (lr true))<|by kernel_rfl
  ·have p12:=fun{sc F} (r:PS sc F)=>p10<|sg 11 c9<|sv (fi t)<|sv (fl t)<|bW (dp.ln t.Names)<|r
   rcases aQ h with⟨c11,h⟩|⟨c11,h⟩
   ·obtain rfl:=lf h
    exact bF SX (p12<|sg 16 c11<|sv (fi t)<|sv (fl t)<|bW (dp.ln t.Names)<|sv (dH t)<|sv (dI t)<|bW (er.ln t.Args)<|eF .normal (lr ((t.Names.length:Int)!=(bV ((t.Args.length:Int) - 1)))))<|by kernel_rfl
   ·obtain rfl:=lf h
    exact bF SX (p12<|sg 16 c11<|eF .normal (lr false))<|by kernel_rfl
end
def H4(t:aj):Option Int:=
 if(t.Op==4)=true then
  if(decide ((t.Args.length:Int)>6))=true then
   some 13
  else
   some 0
 else
  if(t.Op==6)=true then
   (B5 t).bind fun o13=>
   if o13=true then
    some 13
   else
    some 0
  else
   some 0
theorem KD{t:aj}{r:Int}(h:H4 t=some r):CC Pg GE 166 [.agg (ai t)] (.int .i64 r) []:=by
 have p2:=fun{sc F} (r:PS sc F)=>se (qp t)<|sv (de t)<|sv (df t)<|r
 rcases aQ h with⟨c1,h⟩|⟨c1,h⟩
 ·have p4:=fun{sc F} (r:PS sc F)=>p2<|sg 0 c1<|sv (dH t)<|sv (dI t)<|bW (er.ln t.Args)<|r
  rcases aQ h with⟨c3,h⟩|⟨c3,h⟩
  ·obtain rfl:=lf h
   have z:=p4<|sg 0 c3<|en (aI (rP (.int .i64 13))<|trivial)
   exact Z166.v (aI (aE t) trivial) z<|by kernel_rfl
  ·obtain rfl:=lf h
   have z:=p4<|sg 0 c3<|en (aI (rP (.int .i64 0))<|trivial)
   exact Z166.v (aI (aE t) trivial) z<|by kernel_rfl
 ·have p6:=fun{sc F} (r:PS sc F)=>p2<|sg 0 c1<|r
  rcases aQ h with⟨c5,h⟩|⟨c5,h⟩
  ·obtain⟨o13,bo13,h⟩:=cP h
   have p15:=fun{sc F} (r:PS sc F)=>p6<|sg 0 c5<|rh 0<|du (Gc t bo13)<|r
   rcases aQ h with⟨c14,h⟩|⟨c14,h⟩
   ·obtain rfl:=lf h
    have z:=p15<|sg 0 c14<|en (aI (rP (.int .i64 13))<|trivial)
    exact Z166.v (aI (aE t) trivial) z<|by kernel_rfl
   ·obtain rfl:=lf h
    have z:=p15<|sg 0 c14<|en (aI (rP (.int .i64 0))<|trivial)
    exact Z166.v (aI (aE t) trivial) z<|by kernel_rfl
  ·obtain rfl:=lf h
   have z:=p6<|sg 0 c5<|en (aI (rP (.int .i64 0))<|trivial)
   exact Z166.v (aI (aE t) trivial) z<|by kernel_rfl
noncomputable def NY:Code:=f145.body.getD .skip
def rJ:List Nat:=[68,100]
theorem Z145:ZF rJ 145 f145 NY:=⟨call145,func145,rfl⟩
section
variable(t:aj)
def IG:aB:=bg 102 [(1,.eptr (ai t))] [.dead] []
def tX(o:Bool):aB:=bg 102 [(1,.eptr (ai t)),(3,.bool o)] [.dead] []
def DD:Option Bool:=
 if(t.Op==4)=true then
  some true
 else
  some (t.Op==5)
theorem Hm{x:Bool}(h:DD t=some x):bh Pg GE 0 (cA NY 6) (EX .normal (tX t x)) (IG t):=by
 have p2:=fun{sc F} (r:PS sc F)=>sv (de t)<|sv (df t)<|r
 rcases aQ h with⟨c1,h⟩|⟨c1,h⟩
 ·obtain rfl:=lf h
  exact bF rJ (p2<|sg 4 c1<|eF .normal (tX t true))<|by kernel_rfl
 ·obtain rfl:=lf h
  exact bF rJ (p2<|sg 4 c1<|sv (de t)<|sv (df t)<|eF .normal (tX t (t.Op==5)))<|by kernel_rfl
end
section
variable(t:aj)(named:Bool)
def IH:aB:=bg 102 [(1,.eptr (ai t)),(3,.bool named)] [.dead] []
def tY(o:Bool):aB:=bg 102 [(1,.eptr (ai t)),(3,.bool named),(4,.bool o)] [.dead] []
def DE:Option Bool:=
 if(t.Op==4)=true then
  some true
 else
  some (t.Op==6)
theorem Hn{x:Bool}(h:DE t=some x):bh Pg GE 0 (cA NY 14) (EX .normal (tY t named x)) (IH t named):=by
 have p5:=fun{sc F} (r:PS sc F)=>sv (de t)<|sv (df t)<|r
 rcases aQ h with⟨c4,h⟩|⟨c4,h⟩
 ·obtain rfl:=lf h
  exact bF rJ (p5<|sg 4 c4<|eF .normal (tY t named true))<|by kernel_rfl
 ·obtain rfl:=lf h
  exact bF rJ (p5<|sg 4 c4<|sv (de t)<|sv (df t)<|eF .normal (tY t named (t.Op==6)))<|by kernel_rfl
end
section
variable(t:aj)(named:Bool)(compound:Bool)
def II:aB:=bg 102 [(1,.eptr (ai t)),(3,.bool named),(4,.bool compound)] [.dead] []
def cW(o:Bool):aB:=bg 102 [(1,.eptr (ai t)),(3,.bool named),(63,.bool o)] [.dead] []
def DF:Option Bool:=
 if(decide (t.Op<1))=true then
  some true
 else
  if(decide (t.Op>6))=true then
   some true
  else
   if (!(t.Name == ([]:af))) = true then
    if(!named)=true then
     some true
    else
     if (decide ((t.Args.length:Int) > 0)) = true then
      if(!compound)=true then
       some true
      else
       if(decide ((t.Names.length:Int)>0))=true then
        some (t.Op !=6)
       else
        some false
     else
      if(decide ((t.Names.length:Int)>0))=true then
       some (t.Op !=6)
      else
       some false
   else
    if (decide ((t.Args.length:Int) > 0)) = true then
     if(!compound)=true then
      some true
     else
      if(decide ((t.Names.length:Int)>0))=true then
       some (t.Op !=6)
      else
       some false
    else
     if(decide ((t.Names.length:Int)>0))=true then
      some (t.Op !=6)
     else
      some false
theorem Ho{x:Bool}(h:DF t named compound=some x):bh Pg GE 0 (cA NY 60) (EX .normal (cW t named x)) (II t named compound):=by
 have p8:=fun{sc F} (r:PS sc F)=>sv (de t)<|sv (df t)<|r
 rcases aQ h with⟨c7,h⟩|⟨c7,h⟩
 ·obtain rfl:=lf h
  exact bF rJ (p8<|sg 4 c7<|eF .normal (cW t named true))<|by kernel_rfl
 ·have p10:=fun{sc F} (r:PS sc F)=>p8<|sg 4 c7<|sv (de t)<|sv (df t)<|r
  rcases aQ h with⟨c9,h⟩|⟨c9,h⟩
  ·obtain rfl:=lf h
   exact bF rJ (p10<|sg 9 c9<|eF .normal (cW t named true))<|by kernel_rfl
  ·have p12:=fun{sc F} (r:PS sc F)=>p10<|sg 9 c9<|sv (gZ t)<|sv (jb t)<|r
   rcases aQ h with⟨c11,h⟩|⟨c11,h⟩
   ·have p14:=fun{sc F} (r:PS sc F)=>p12<|sg 13 c11<|r
    rcases aQ h with⟨c13,h⟩|⟨c13,h⟩
    ·obtain rfl:=lf h
     exact bF rJ (p14<|sg 18 c13<|eF .normal (cW t named true))<|by kernel_rfl
    ·have p16:=fun{sc F} (r:PS sc F)=>p14<|sg 18 c13<|sv (dH t)<|sv (dI t)<|bW (er.ln t.Args)<|r
     rcases aQ h with⟨c15,h⟩|⟨c15,h⟩
     ·have p18:=fun{sc F} (r:PS sc F)=>p16<|sg 23 c15<|r
      rcases aQ h with⟨c17,h⟩|⟨c17,h⟩
      ·obtain rfl:=lf h
       exact bF rJ (p18<|sg 28 c17<|eF .normal (cW t named true))<|by kernel_rfl
      ·have p20:=fun{sc F} (r:PS sc F)=>p18<|sg 28 c17<|sv (fi t)<|sv (fl t)<|bW (dp.ln t.Names)<|r
       rcases aQ h with⟨c19,h⟩|⟨c19,h⟩
       ·obtain rfl:=lf h
        exact bF rJ (p20<|sg 33 c19<|sv (de t)<|sv (df t)<|eF .normal (cW t named (t.Op !=6)))<|by kernel_rfl
       ·obtain rfl:=lf h
        exact bF rJ (p20<|sg 33 c19<|eF .normal (cW t named false))<|by kernel_rfl
     ·have p22:=fun{sc F} (r:PS sc F)=>p16<|sg 23 c15<|sv (fi t)<|sv (fl t)<|bW (dp.ln t.Names)<|r
      rcases aQ h with⟨c21,h⟩|⟨c21,h⟩
      ·obtain rfl:=lf h
       exact bF rJ (p22<|sg 33 c21<|sv (de t)<|sv (df t)<|eF .normal (cW t named (t.Op !=6)))<|by kernel_rfl
      ·obtain rfl:=lf h
       exact bF rJ (p22<|sg 33 c21<|eF .normal (cW t named false))<|by kernel_rfl
   ·have p24:=fun{sc F} (r:PS sc F)=>p12<|sg 13 c11<|sv (dH t)<|sv (dI t)<|bW (er.ln t.Args)<|r
    rcases aQ h with⟨c23,h⟩|⟨c23,h⟩
    ·have p26:=fun{sc F} (r:PS sc F)=>p24<|sg 23 c23<|r
     rcases aQ h with⟨c25,h⟩|⟨c25,h⟩
     ·obtain rfl:=lf h
      exact bF rJ (p26<|sg 28 c25<|eF .normal (cW t named true))<|by kernel_rfl
     ·have p28:=fun{sc F} (r:PS sc F)=>p26<|sg 28 c25<|sv (fi t)<|sv (fl t)<|bW (dp.ln t.Names)<|r
      rcases aQ h with⟨c27,h⟩|⟨c27,h⟩
      ·obtain rfl:=lf h
       exact bF rJ (p28<|sg 33 c27<|sv (de t)<|sv (df t)<|eF .normal (cW t named (t.Op !=6)))<|by kernel_rfl
      ·obtain rfl:=lf h
       exact bF rJ (p28<|sg 33 c27<|eF .normal (cW t named false))<|by kernel_rfl
    ·have p30:=fun{sc F} (r:PS sc F)=>p24<|sg 23 c23<|sv (fi t)<|sv (fl t)<|bW (dp.ln t.Names)<|r
     rcases aQ h with⟨c29,h⟩|⟨c29,h⟩
     ·obtain rfl:=lf h
      exact bF rJ (p30<|sg 33 c29<|sv (de t)<|sv (df t)<|eF .normal (cW t named (t.Op !=6)))<|by kernel_rfl
     ·obtain rfl:=lf h
      exact bF rJ (p30<|sg 33 c29<|eF .normal (cW t named false))<|by kernel_rfl
end
section
variable(t:aj)
def IK:aB:=bg 102 [(1,.eptr (ai t))] [.dead] []
def tZ(o:Bool):aB:=bg 102 [(1,.eptr (ai t)),(6,.bool o)] [.dead] []
def DH:Option Bool:=
 (CF t.Name 0).bind fun c41=>
 if(decide (c41>=65))=true then
  (CF t.Name 0).bind fun c44=>
  some (decide (c44<=90))
 else
  some false
theorem Hp{x:Bool}(h:DH t=some x):bh Pg GE 0 (cA NY 2026) (EX .normal (tZ t x)) (IK t):=by
 obtain⟨c41,bc41,h⟩:=cP h
 have p43:=fun{sc F} (r:PS sc F)=>sv (gZ t)<|sv (jb t)<|sv (xm (k:=.i64) underlying9 bc41)<|r
 rcases aQ h with⟨c42,h⟩|⟨c42,h⟩
 ·obtain⟨c44,bc44,h⟩:=cP h
  obtain rfl:=lf h
  exact bF rJ (p43<|sg 5 c42<|sv (gZ t)<|sv (jb t)<|sv (xm (k:=.i64) underlying9 bc44)<|eF .normal (tZ t (decide (c44<=90))))<|by kernel_rfl
 ·obtain rfl:=lf h
  exact bF rJ (p43<|sg 5 c42<|eF .normal (tZ t false))<|by kernel_rfl
end
section
variable(t:aj)(named:Bool)
def IJ:aB:=bg 102 [(1,.eptr (ai t)),(3,.bool named)] [.dead] []
def mh(o:Unit⊕(Unit)):Exit:=match o with
 |(.inl _)=>.ret
 |(.inr _)=>.normal
def gb(o:Unit⊕(Unit)):aB:=match o with
 |(.inl o)=>bg 102 [(2,.int .i64 3)] [.dead] []
 |(.inr o)=>bg 102 [(1,.eptr (ai t))] [.dead] []
def DG:Option (Unit⊕(Unit)):=
 if named=true then
  (D5 t.Name).bind fun r38=>
  if(r38 !=0)=true then
   some (.inl ())
  else
   (DH t).bind fun o45=>
   if(!(o45==(t.Op==4)))=true then
    some (.inl ())
   else
    some (.inr ())
 else
  some (.inr ())
theorem sI{x:Unit⊕(Unit)}(h:DG t named=some x):bh Pg GE 0 (cA NY 126) (EX (mh x) (gb t x)) (IJ t named):=by
 rcases aQ h with⟨c37,h⟩|⟨c37,h⟩
 ·obtain⟨r38,br38,h⟩:=cP h
  have p40:=fun{sc F} (r:PS sc F)=>sg 0 c37<|sv (gZ t)<|sv (jb t)<|dj (Dn br38)<|r
  rcases aQ h with⟨c39,h⟩|⟨c39,h⟩
  ·obtain rfl:=lf h
   exact bF rJ (p40<|sg 0 c39<|eF (mh (.inl ())) (gb t (.inl ())))<|by kernel_rfl
  ·obtain⟨o45,bo45,h⟩:=cP h
   have p47:=fun{sc F} (r:PS sc F)=>p40<|sg 0 c39<|rh 0<|du (Hp t bo45)<|sv (de t)<|sv (df t)<|r
   rcases aQ h with⟨c46,h⟩|⟨c46,h⟩
   ·obtain rfl:=lf h
    exact bF rJ (p47<|sg 0 c46<|eF (mh (.inl ())) (gb t (.inl ())))<|by kernel_rfl
   ·obtain rfl:=lf h
    exact bF rJ (p47<|sg 0 c46<|eF (mh (.inr ())) (gb t (.inr ())))<|by kernel_rfl
 ·obtain rfl:=lf h
  exact bF rJ (sg 0 c37<|eF (mh (.inr ())) (gb t (.inr ())))<|by kernel_rfl
end
section
variable(R87:uw)(t90:waB)(t91:Int)(t92:Int)
def pu:aB:=bg 102 [(90,sl ai t90),(91,.int .i64 t91),(92,.int .i64 t92)] [.dead] []
def pw(o:Int⊕(Unit)):Exit:=match o with
 |(.inl _)=>.ret
 |(.inr _)=>.exit 0
def ka(o:Int⊕(Unit)):aB:=match o with
 |(.inl o)=>bg 102 [(2,.int .i64 o)] [.dead] []
 |(.inr o)=>bg 102 [] [.dead] []
def An:Option (Int⊕(Int⊕(Unit))):=
 if(decide (t92<t91))=true then
  (gn t90 t92).bind fun x50=>
  (R87 x50).bind fun r51=>
  if(r51 !=0)=true then
   some (.inr (.inl r51))
  else
   some (.inl (bV (t92+1)))
 else
  some (.inr (.inr ()))
def DI:Option (Int⊕(Unit)):=loop (fun(zz:Int)=>An R87 t90 t91 zz) t92
theorem Gg(hR87:yY R87){y:Int⊕(Int⊕(Unit))}(h:An R87 t90 t91 t92=some y):bh Pg GE 0 (cA NY 2039) (LQ (fun(zz:Int)=>pu t90 t91 zz) pw ka y) (pu t90 t91 t92):=by
 rcases aQ h with⟨c49,h⟩|⟨c49,h⟩
 ·obtain⟨x50,bx50,r51,br51,h⟩:=Zb2 h
  have p53:=fun{sc F} (r:PS sc F)=>sg 0 c49<|sv (er.ia (k:=.i64) bx50)<|sv (lT x50)<|sx Ql<|sx (sa x50)<|sv (kW x50 [])<|dj (hR87 _ _ br51)<|r
  rcases aQ h with⟨c52,h⟩|⟨c52,h⟩
  ·obtain rfl:=lf h
   have z:=p53<|sg 0 c52<|ue 0 (pw (.inl r51)) (ka (.inl r51)) rfl (dU (aI trivial trivial)) (aI trivial trivial)
   exact rY (A:=rJ) mixed (Zn rfl) z<|by kernel_rfl
  ·obtain rfl:=lf h
   have z:=p53<|sg 0 c52<|ue 0 .normal (pu t90 t91 (bV (t92+1))) rfl (dU (aI (up (ak aE t90)) (aI trivial (aI trivial trivial)))) (aI trivial trivial)
   exact ed (A:=rJ) mixed z<|by kernel_rfl
 ·obtain rfl:=lf h
  have z:=sg 0 c49<|eF (pw (.inr ())) (ka (.inr ()))
  exact jy rJ (Zn rfl) z<|by kernel_rfl
theorem yW(hR87:yY R87){x:Int⊕(Unit)}(h:DI R87 t90 t91 t92=some x):bh Pg GE 0 (.loop (cA NY 2039)) (EX (pw x) (ka x)) (pu t90 t91 t92):=
 ZL h fun _ _ hy=>Gg _ _ _ _ hR87 hy
end
def Ge(R87:uw)(t:aj):Option Int:=
 (DD t).bind fun o3=>
 (DE t).bind fun o6=>
 (DF t o3 o6).bind fun o31=>
 if o31=true then
  some 1
 else
  (H4 t).bind fun r34=>
  if(r34 !=0)=true then
   some r34
  else
   (DG t o3).bind fun o48=>match o48 with
   |(.inl o48)=>
    some 3
   | (.inr o48) =>
    (DI R87 t.Args (t.Args.length:Int) 0).bind fun o54=>match o54 with
    |(.inl o54)=>
     some o54
    |(.inr o54)=>
     some 0
theorem KG(R87:uw)(hR87:yY R87){t:aj}{r:Int}(h:Ge R87 t=some r):CC Pg GE 145 [.agg (ai t)] (.int .i64 r) []:=by
 obtain⟨o3,bo3,o6,bo6,o31,bo31,h⟩:=Zb3 h
 have p33:=fun{sc F} (r:PS sc F)=>se (qp t)<|rh 0<|du (Hm t bo3)<|rh 0<|du (Hn t o3 bo6)<|rh 1<|du (Ho t o3 o6 bo31)<|r
 rcases aQ h with⟨c32,h⟩|⟨c32,h⟩
 ·obtain rfl:=lf h
  have z:=p33<|sg 0 c32<|en (aI (rP (.int .i64 1))<|trivial)
  exact Z145.v (aI (aE t) trivial) z<|by kernel_rfl
 ·obtain⟨r34,br34,h⟩:=cP h
  have p36:=fun{sc F} (r:PS sc F)=>p33<|sg 0 c32<|sv (lT t)<|dj (KD br34)<|r
  rcases aQ h with⟨c35,h⟩|⟨c35,h⟩
  ·obtain rfl:=lf h
   have z:=p36<|sg 0 c35<|en (aI (rP (.int .i64 r34))<|trivial)
   exact Z145.v (aI (aE t) trivial) z<|by kernel_rfl
  ·obtain⟨o48,bo48,h⟩:=cP h
   rcases o48 with o48|o48
   ·obtain rfl:=lf h
    have z:=p36<|sg 0 c35<|rh 0<|du (e:=.ret) (s1:=gb t (.inl o48)) (sI t o3 bo48)<|en (aI (rP (.int .i64 3))<|trivial)
    exact Z145.v (aI (aE t) trivial) z<|by kernel_rfl
   ·obtain⟨o54,bo54,h⟩:=cP h
    rcases o54 with o54|o54
    ·obtain rfl:=lf h
     have z:=p36<|sg 0 c35<|rh 0<|du (e:=.normal) (s1:=gb t (.inr o48)) (sI t o3 bo48)<|sv (dH t)<|sv (dI t)<|bW (er.ln t.Args)<|du (e:=.ret) (s1:=ka (.inl o54)) (yW R87 t.Args (t.Args.length:Int) 0 hR87 bo54)<|en (aI (rP (.int .i64 o54))<|trivial)
     exact Z145.v (aI (aE t) trivial) z<|by kernel_rfl
    ·obtain rfl:=lf h
     have z:=p36<|sg 0 c35<|rh 0<|du (e:=.normal) (s1:=gb t (.inr o48)) (sI t o3 bo48)<|sv (dH t)<|sv (dI t)<|bW (er.ln t.Args)<|du (e:=.exit 0) (s1:=ka (.inr o54)) (yW R87 t.Args (t.Args.length:Int) 0 hR87 bo54)<|en (aI (rP (.int .i64 0))<|trivial)
     exact Z145.v (aI (aE t) trivial) z<|by kernel_rfl
def Gf:(aj->Option Int)->(aj)->Option Int:=fun(rec:aj->Option Int) (x:aj)=>Ge (fun t=>rec t) x
def KF(t:aj):Option Int:=tn Gf t
theorem Lp{t:aj}{r:Int}(h:KF t=some r):CC Pg GE 145 [.agg (ai t)] (.int .i64 r) []:=
 fj (F:=Gf) (M:=fun(x:aj) (r:Int)=>CC Pg GE 145 [.agg (ai x)] (.int .i64 r) []) (fun rec hrec x r h=>KG _ (fun t r h=>hrec t r h) h) h
noncomputable def ZK:Code:=f120.body.getD .skip
def Zi:List Nat:=[]
theorem Z120:ZF Zi 120 f120 ZK:=⟨call120,func120,rfl⟩
def B3(t:aj):Option Int:=
 (H5 t).bind fun r1=>
 if(decide (r1>40))=true then
  some 8
 else
  (KF t).bind fun r4=>
  some r4
theorem B4{t:aj}{r:Int}(h:B3 t=some r):CC Pg GE 120 [.agg (ai t)] (.int .i64 r) []:=by
 obtain⟨r1,br1,h⟩:=cP h
 have p3:=fun{sc F} (r:PS sc F)=>se (qp t)<|sv (lT t)<|dj (KE br1)<|r
 rcases aQ h with⟨c2,h⟩|⟨c2,h⟩
 ·obtain rfl:=lf h
  have z:=p3<|sg 0 c2<|en (aI (rP (.int .i64 8))<|trivial)
  exact Z120.v (aI (aE t) trivial) z<|by kernel_rfl
 ·obtain⟨r4,br4,h⟩:=cP h
  obtain rfl:=lf h
  have z:=p3<|sg 0 c2<|sv (lT t)<|dj (Lp br4)<|en (aI (rP (.int .i64 r4))<|trivial)
  exact Z120.v (aI (aE t) trivial) z<|by kernel_rfl
abbrev iD:=(aj->aj->Option Bool)
abbrev mB(R:iD):Prop:=∀(a:aj) (a2:aj) (r:Bool),R a a2=some r->CC Pg GE 72 [.agg (ai a),.agg (ai a2)] (.bool r) []
noncomputable def Z4:Code:=f77.body.getD .skip
def YX:List Nat:=[15]
theorem Z77:ZF YX 77 f77 Z4:=⟨call77,func77,rfl⟩
section
variable(s1:waA)(s2:waA)(t12:Int)(t13:Int)
def mK:aB:=bg 26 [(0,sl cS s1),(1,sl cS s2),(12,.int .i64 t12),(13,.int .i64 t13)] [] []
def mL(o:Unit⊕(Unit)):Exit:=match o with
 |(.inl _)=>.ret
 |(.inr _)=>.exit 0
def iH(o:Unit⊕(Unit)):aB:=match o with
 |(.inl o)=>bg 26 [(4,.bool false)] [] []
 |(.inr o)=>bg 26 [] [] []
def xl:Option (Int⊕(Unit⊕(Unit))):=
 if(decide (t13<t12))=true then
  (gn s1 t13).bind fun x4=>
  (gn s2 t13).bind fun x5=>
  if(!(x4==x5))=true then
   some (.inr (.inl ()))
  else
   some (.inl (bV (t13+1)))
 else
  some (.inr (.inr ()))
def Aa:Option (Unit⊕(Unit)):=loop (fun(zz:Int)=>xl s1 s2 t12 zz) t13
theorem CP{y:Int⊕(Unit⊕(Unit))}(h:xl s1 s2 t12 t13=some y):bh Pg GE 0 (cA Z4 119) (LQ (fun(zz:Int)=>mK s1 s2 t12 zz) mL iH y) (mK s1 s2 t12 t13):=by
 rcases aQ h with⟨c3,h⟩|⟨c3,h⟩
 ·obtain⟨x4,bx4,x5,bx5,h⟩:=Zb2 h
  have p7:=fun{sc F} (r:PS sc F)=>sg 0 c3<|Kw [0,0,3,7,0,0,48,112,255]<|sv (dp.ia (k:=.i64) bx4)<|sv (cY ED (.str x4) [])<|sv (dp.ia (k:=.i64) bx5)<|sv (cY ED (.str x5) [])<|r
  rcases aQ h with⟨c6,h⟩|⟨c6,h⟩
  ·obtain rfl:=lf h
   have z:=p7<|sg 0 c6<|eF (mL (.inl ())) (iH (.inl ()))
   exact jy YX (Zn rfl) z<|by kernel_rfl
  ·obtain rfl:=lf h
   exact AC YX (p7<|sg 0 c6<|eF .normal (mK s1 s2 t12 (bV (t13+1))))<|by kernel_rfl
 ·obtain rfl:=lf h
  have z:=sg 0 c3<|eF (mL (.inr ())) (iH (.inr ()))
  exact jy YX (Zn rfl) z<|by kernel_rfl
theorem vZ{x:Unit⊕(Unit)}(h:Aa s1 s2 t12 t13=some x):bh Pg GE 0 (.loop (cA Z4 119)) (EX (mL x) (iH x)) (mK s1 s2 t12 t13):=
 ZL h fun _ _ hy=>CP _ _ _ _ hy
end
def FO(s1:waA)(s2:waA):Option Bool:=
 if((s1.length:Int)!=(s2.length:Int))=true then
  some false
 else
  (Aa s1 s2 (s1.length:Int) 0).bind fun o8=>match o8 with
  |(.inl o8)=>
   some false
  |(.inr o8)=>
   some true
theorem Iz{s1:waA}{s2:waA}{r:Bool}(h:FO s1 s2=some r):CC Pg GE 77 [sl cS s1,sl cS s2] (.bool r) []:=by
 have p2:=fun{sc F} (r:PS sc F)=>bW (dp.ln s1)<|bW (dp.ln s2)<|r
 rcases aQ h with⟨c1,h⟩|⟨c1,h⟩
 ·obtain rfl:=lf h
  have z:=p2<|sg 0 c1<|en (aI (rP (.bool false))<|trivial)
  exact Z77.v (aI (ak bD s1) (aI (ak bD s2) trivial)) z<|by kernel_rfl
 ·obtain⟨o8,bo8,h⟩:=cP h
  rcases o8 with o8|o8
  ·obtain rfl:=lf h
   have z:=p2<|sg 0 c1<|bW (dp.ln s1)<|du (e:=.ret) (s1:=iH (.inl o8)) (vZ s1 s2 (s1.length:Int) 0 bo8)<|en (aI (rP (.bool false))<|trivial)
   exact Z77.v (aI (ak bD s1) (aI (ak bD s2) trivial)) z<|by kernel_rfl
  ·obtain rfl:=lf h
   have z:=p2<|sg 0 c1<|bW (dp.ln s1)<|du (e:=.exit 0) (s1:=iH (.inr o8)) (vZ s1 s2 (s1.length:Int) 0 bo8)<|en (aI (rP (.bool true))<|trivial)
   exact Z77.v (aI (ak bD s1) (aI (ak bD s2) trivial)) z<|by kernel_rfl
abbrev pI:=(am->am->Option Bool)
abbrev wH(R:pI):Prop:=∀(a:am) (a2:am) (r:Bool),R a a2=some r->CC Pg GE 123 [.agg (al a),.agg (al a2)] (.bool r) []
noncomputable def W5:Code:=f152.body.getD .skip
def U3:List Nat:=[17]
theorem Z152:ZF U3 152 f152 W5:=⟨call152,func152,rfl⟩
section
variable(R92:pI)(v:waC)(v2:waC)(t14:Int)(t15:Int)
def pl:aB:=bg 30 [(0,sl al v),(1,sl al v2),(2,.func (.func 123) [] []),(14,.int .i64 t14),(15,.int .i64 t15)] [] []
def pn(o:Unit⊕(Unit)):Exit:=match o with
 |(.inl _)=>.ret
 |(.inr _)=>.exit 0
def j8(o:Unit⊕(Unit)):aB:=match o with
 |(.inl o)=>bg 30 [(6,.bool false)] [] []
 |(.inr o)=>bg 30 [] [] []
def z8:Option (Int⊕(Unit⊕(Unit))):=
 if(decide (t15<t14))=true then
  (gn v t15).bind fun x4=>
  (gn v2 t15).bind fun x5=>
  (R92 x4 x5).bind fun r6=>
  if(!r6)=true then
   some (.inr (.inl ()))
  else
   some (.inl (bV (t15+1)))
 else
  some (.inr (.inr ()))
def Dv:Option (Unit⊕(Unit)):=loop (fun(zz:Int)=>z8 R92 v v2 t14 zz) t15
theorem FE(hR92:wH R92){y:Int⊕(Unit⊕(Unit))}(h:z8 R92 v v2 t14 t15=some y):bh Pg GE 0 (cA W5 119) (LQ (fun(zz:Int)=>pl v v2 t14 zz) pn j8 y) (pl v v2 t14 t15):=by
 rcases aQ h with⟨c3,h⟩|⟨c3,h⟩
 ·obtain⟨x4,bx4,x5,bx5,r6,br6,h⟩:=Zb3 h
  have p8:=fun{sc F} (r:PS sc F)=>sg 0 c3<|Kw [0,0,0,6,14,0,0,96,224,511,1023]<|sv (oo.ia (k:=.i64) bx4)<|sv (qj x4)<|sv (oo.ia (k:=.i64) bx5)<|sv (qj x5)<|dj (hR92 _ _ _ br6)<|r
  rcases aQ h with⟨c7,h⟩|⟨c7,h⟩
  ·obtain rfl:=lf h
   have z:=p8<|sg 0 c7<|eF (pn (.inl ())) (j8 (.inl ()))
   exact jy U3 (Zn rfl) z<|by kernel_rfl
  ·obtain rfl:=lf h
   exact AC U3 (p8<|sg 0 c7<|eF .normal (pl v v2 t14 (bV (t15+1))))<|by kernel_rfl
 ·obtain rfl:=lf h
  have z:=sg 0 c3<|eF (pn (.inr ())) (j8 (.inr ()))
  exact jy U3 (Zn rfl) z<|by kernel_rfl
theorem yF(hR92:wH R92){x:Unit⊕(Unit)}(h:Dv R92 v v2 t14 t15=some x):bh Pg GE 0 (.loop (cA W5 119)) (EX (pn x) (j8 x)) (pl v v2 t14 t15):=
 ZL h fun _ _ hy=>FE _ _ _ _ _ hR92 hy
end
def Kn(R92:pI)(a:waC)(a2:waC):Option Bool:=
 if((a.length:Int)!=(a2.length:Int))=true then
  some false
 else
  (Dv R92 a a2 (a.length:Int) 0).bind fun o9=>match o9 with
  |(.inl o9)=>
   some false
  |(.inr o9)=>
   some true
theorem Ll(R92:pI)(hR92:wH R92){a:waC}{a2:waC}{r:Bool}(h:Kn R92 a a2=some r):CC Pg GE 152 [sl al a,sl al a2,.func (.func 123) [] []] (.bool r) []:=by
 have p2:=fun{sc F} (r:PS sc F)=>bW (oo.ln a)<|bW (oo.ln a2)<|r
 rcases aQ h with⟨c1,h⟩|⟨c1,h⟩
 ·obtain rfl:=lf h
  have z:=p2<|sg 0 c1<|en (aI (rP (.bool false))<|trivial)
  exact Z152.v (aI (ak aR a) (aI (ak aR a2) (aI (aI trivial trivial) trivial))) z<|by kernel_rfl
 ·obtain⟨o9,bo9,h⟩:=cP h
  rcases o9 with o9|o9
  ·obtain rfl:=lf h
   have z:=p2<|sg 0 c1<|bW (oo.ln a)<|du (e:=.ret) (s1:=j8 (.inl o9)) (yF R92 a a2 (a.length:Int) 0 hR92 bo9)<|en (aI (rP (.bool false))<|trivial)
   exact Z152.v (aI (ak aR a) (aI (ak aR a2) (aI (aI trivial trivial) trivial))) z<|by kernel_rfl
  ·obtain rfl:=lf h
   have z:=p2<|sg 0 c1<|bW (oo.ln a)<|du (e:=.exit 0) (s1:=j8 (.inr o9)) (yF R92 a a2 (a.length:Int) 0 hR92 bo9)<|en (aI (rP (.bool true))<|trivial)
   exact Z152.v (aI (ak aR a) (aI (ak aR a2) (aI (aI trivial trivial) trivial))) z<|by kernel_rfl
noncomputable def ZN:Code:=f123.body.getD .skip
def Zk:List Nat:=[]
theorem Z123:ZF Zk 123 f123 ZN:=⟨call123,func123,rfl⟩
def HV(R92:pI)(a:am)(a2:am):Option Bool:=
 if (a.Op == a2.Op) = true then
  if(a.Name==a2.Name)=true then
   if(a.N==a2.N)=true then
    (Kn R92 a.Kids a2.Kids).bind fun r7=>
    some r7
   else
    some false
  else
   some false
 else
  some false
theorem Lk(R92:pI)(hR92:wH R92){a:am}{a2:am}{r:Bool}(h:HV R92 a a2=some r):CC Pg GE 123 [.agg (al a),.agg (al a2)] (.bool r) []:=by
 have p2:=fun{sc F} (r:PS sc F)=>se (Fx a)<|se (Fx a2)<|sv (sX a)<|sv (sZ a)<|sv (sX a2)<|sv (sZ a2)<|r
 rcases aQ h with⟨c1,h⟩|⟨c1,h⟩
 ·have p4:=fun{sc F} (r:PS sc F)=>p2<|sg 6 c1<|sv (oD a)<|sv (qi a)<|sv (oD a2)<|sv (qi a2)<|r
  rcases aQ h with⟨c3,h⟩|⟨c3,h⟩
  ·have p6:=fun{sc F} (r:PS sc F)=>p4<|sg 13 c3<|sv (sY a)<|sv (uO a)<|sv (sY a2)<|sv (uO a2)<|r
   rcases aQ h with⟨c5,h⟩|⟨c5,h⟩
   ·obtain⟨r7,br7,h⟩:=cP h
    obtain rfl:=lf h
    have z:=p6<|sg 20 c5<|sv (gY a)<|sv (g5 a)<|sv (gY a2)<|sv (g5 a2)<|dj (Ll R92 hR92 br7)<|en (aI (rP (.bool r7))<|trivial)
    exact Z123.v (aI (aR a) (aI (aR a2) trivial)) z<|by kernel_rfl
   ·obtain rfl:=lf h
    have z:=p6<|sg 20 c5<|en (aI (rP (.bool false))<|trivial)
    exact Z123.v (aI (aR a) (aI (aR a2) trivial)) z<|by kernel_rfl
  ·obtain rfl:=lf h
   have z:=p4<|sg 13 c3<|en (aI (rP (.bool false))<|trivial)
   exact Z123.v (aI (aR a) (aI (aR a2) trivial)) z<|by kernel_rfl
 ·obtain rfl:=lf h
  have z:=p2<|sg 6 c1<|en (aI (rP (.bool false))<|trivial)
  exact Z123.v (aI (aR a) (aI (aR a2) trivial)) z<|by kernel_rfl
def HW:((am×am)->Option Bool)->(am×am)->Option Bool:=fun(rec:(am×am)->Option Bool) (x:am×am)=>HV (fun a a2=>rec (a,a2)) x.1 x.2
def G2(a:am)(a2:am):Option Bool:=tn HW (a,a2)
theorem FD{a:am}{a2:am}{r:Bool}(h:G2 a a2=some r):CC Pg GE 123 [.agg (al a),.agg (al a2)] (.bool r) []:=
 fj (F:=HW) (M:=fun(x:am×am) (r:Bool)=>CC Pg GE 123 [.agg (al x.1),.agg (al x.2)] (.bool r) []) (fun rec hrec x r h=>Lk _ (fun a a2 r h=>hrec (a,a2) r h) h) h
noncomputable def W1:Code:=f124.body.getD .skip
def U1:List Nat:=[19]
theorem Z124:ZF U1 124 f124 W1:=⟨call124,func124,rfl⟩
section
variable(s2:waC)(t15:waC)(t16:Int)(t17:Int)
def jL:aB:=bg 32 [(1,sl al s2),(2,.func (.func 123) [] []),(15,sl al t15),(16,.int .i64 t16),(17,.int .i64 t17)] [] []
def jM(o:Unit⊕(Unit)):Exit:=match o with
 |(.inl _)=>.ret
 |(.inr _)=>.exit 0
def fh(o:Unit⊕(Unit)):aB:=match o with
 |(.inl o)=>bg 32 [(6,.bool false)] [] []
 |(.inr o)=>bg 32 [] [] []
def rE:Option (Int⊕(Unit⊕(Unit))):=
 if(decide (t17<t16))=true then
  (gn t15 t17).bind fun x4=>
  (gn s2 t17).bind fun x5=>
  (G2 x4 x5).bind fun r6=>
  if(!r6)=true then
   some (.inr (.inl ()))
  else
   some (.inl (bV (t17+1)))
 else
  some (.inr (.inr ()))
def uk:Option (Unit⊕(Unit)):=loop (fun(zz:Int)=>rE s2 t15 t16 zz) t17
theorem yH{y:Int⊕(Unit⊕(Unit))}(h:rE s2 t15 t16 t17=some y):bh Pg GE 0 (cA W1 119) (LQ (fun(zz:Int)=>jL s2 t15 t16 zz) jM fh y) (jL s2 t15 t16 t17):=by
 rcases aQ h with⟨c3,h⟩|⟨c3,h⟩
 ·obtain⟨x4,bx4,x5,bx5,r6,br6,h⟩:=Zb3 h
  have p8:=fun{sc F} (r:PS sc F)=>sg 0 c3<|sv (oo.ia (k:=.i64) bx4)<|sv (qj x4)<|sx Wd<|sx (Ct x4)<|sv (oo.ia (k:=.i64) bx5)<|sv (qj x5)<|sx Wd<|sx (Ct x5)<|sv (yr x4 [])<|sv (yr x5 [])<|dj (FD br6)<|r
  rcases aQ h with⟨c7,h⟩|⟨c7,h⟩
  ·obtain rfl:=lf h
   have z:=p8<|sg 0 c7<|ue 0 (jM (.inl ())) (fh (.inl ())) rfl (dU (aI trivial trivial)) trivial
   exact rY (A:=U1) mixed (Zn rfl) z<|by kernel_rfl
  ·obtain rfl:=lf h
   have z:=p8<|sg 0 c7<|ue 0 .normal (jL s2 t15 t16 (bV (t17+1))) rfl (dU (aI (up (ak aR s2)) (aI (aI trivial trivial) (aI (up (ak aR t15)) (aI trivial (aI trivial trivial)))))) trivial
   exact ed (A:=U1) mixed z<|by kernel_rfl
 ·obtain rfl:=lf h
  have z:=sg 0 c3<|eF (jM (.inr ())) (fh (.inr ()))
  exact jy U1 (Zn rfl) z<|by kernel_rfl
theorem qy{x:Unit⊕(Unit)}(h:uk s2 t15 t16 t17=some x):bh Pg GE 0 (.loop (cA W1 119)) (EX (jM x) (fh x)) (jL s2 t15 t16 t17):=
 ZL h fun _ _ hy=>yH _ _ _ _ hy
end
def yG(s1:waC)(s2:waC):Option Bool:=
 if((s1.length:Int)!=(s2.length:Int))=true then
  some false
 else
  (uk s2 s1 (s1.length:Int) 0).bind fun o9=>match o9 with
  |(.inl o9)=>
   some false
  |(.inr o9)=>
   some true
theorem CO{s1:waC}{s2:waC}{r:Bool}(h:yG s1 s2=some r):CC Pg GE 124 [sl al s1,sl al s2,.func (.func 123) [] []] (.bool r) []:=by
 have p2:=fun{sc F} (r:PS sc F)=>bW (oo.ln s1)<|bW (oo.ln s2)<|r
 rcases aQ h with⟨c1,h⟩|⟨c1,h⟩
 ·obtain rfl:=lf h
  have z:=p2<|sg 0 c1<|en (aI (rP (.bool false))<|trivial)
  exact Z124.v (aI (ak aR s1) (aI (ak aR s2) (aI (aI trivial trivial) trivial))) z<|by kernel_rfl
 ·obtain⟨o9,bo9,h⟩:=cP h
  rcases o9 with o9|o9
  ·obtain rfl:=lf h
   have z:=p2<|sg 0 c1<|bW (oo.ln s1)<|du (e:=.ret) (s1:=fh (.inl o9)) (qy s2 s1 (s1.length:Int) 0 bo9)<|en (aI (rP (.bool false))<|trivial)
   exact Z124.v (aI (ak aR s1) (aI (ak aR s2) (aI (aI trivial trivial) trivial))) z<|by kernel_rfl
  ·obtain rfl:=lf h
   have z:=p2<|sg 0 c1<|bW (oo.ln s1)<|du (e:=.exit 0) (s1:=fh (.inr o9)) (qy s2 s1 (s1.length:Int) 0 bo9)<|en (aI (rP (.bool true))<|trivial)
   exact Z124.v (aI (ak aR s1) (aI (ak aR s2) (aI (aI trivial trivial) trivial))) z<|by kernel_rfl
noncomputable def Z3:Code:=f71.body.getD .skip
def YW:List Nat:=[19]
theorem Z71:ZF YW 71 f71 Z3:=⟨call71,func71,rfl⟩
section
variable(R90:iD)(s2:waB)(t15:waB)(t16:Int)(t17:Int)
def eM:aB:=bg 32 [(1,sl ai s2),(2,.func (.func 72) [] []),(15,sl ai t15),(16,.int .i64 t16),(17,.int .i64 t17)] [] []
def eN(o:Unit⊕(Unit)):Exit:=match o with
 |(.inl _)=>.ret
 |(.inr _)=>.exit 0
def cR(o:Unit⊕(Unit)):aB:=match o with
 |(.inl o)=>bg 32 [(6,.bool false)] [] []
 |(.inr o)=>bg 32 [] [] []
def lh:Option (Int⊕(Unit⊕(Unit))):=
 if(decide (t17<t16))=true then
  (gn t15 t17).bind fun x4=>
  (gn s2 t17).bind fun x5=>
  (R90 x4 x5).bind fun r6=>
  if(!r6)=true then
   some (.inr (.inl ()))
  else
   some (.inl (bV (t17+1)))
 else
  some (.inr (.inr ()))
def lZ:Option (Unit⊕(Unit)):=loop (fun(zz:Int)=>lh R90 s2 t15 t16 zz) t17
theorem qz(hR90:mB R90){y:Int⊕(Unit⊕(Unit))}(h:lh R90 s2 t15 t16 t17=some y):bh Pg GE 0 (cA Z3 119) (LQ (fun(zz:Int)=>eM s2 t15 t16 zz) eN cR y) (eM s2 t15 t16 t17):=by
 rcases aQ h with⟨c3,h⟩|⟨c3,h⟩
 ·obtain⟨x4,bx4,x5,bx5,r6,br6,h⟩:=Zb3 h
  have p8:=fun{sc F} (r:PS sc F)=>sg 0 c3<|sv (er.ia (k:=.i64) bx4)<|sv (lT x4)<|sx Ql<|sx (sa x4)<|sv (er.ia (k:=.i64) bx5)<|sv (lT x5)<|sx Ql<|sx (sa x5)<|sv (kW x4 [])<|sv (kW x5 [])<|dj (hR90 _ _ _ br6)<|r
  rcases aQ h with⟨c7,h⟩|⟨c7,h⟩
  ·obtain rfl:=lf h
   have z:=p8<|sg 0 c7<|ue 0 (eN (.inl ())) (cR (.inl ())) rfl (dU (aI trivial trivial)) trivial
   exact rY (A:=YW) mixed (Zn rfl) z<|by kernel_rfl
  ·obtain rfl:=lf h
   have z:=p8<|sg 0 c7<|ue 0 .normal (eM s2 t15 t16 (bV (t17+1))) rfl (dU (aI (up (ak aE s2)) (aI (aI trivial trivial) (aI (up (ak aE t15)) (aI trivial (aI trivial trivial)))))) trivial
   exact ed (A:=YW) mixed z<|by kernel_rfl
 ·obtain rfl:=lf h
  have z:=sg 0 c3<|eF (eN (.inr ())) (cR (.inr ()))
  exact jy YW (Zn rfl) z<|by kernel_rfl
theorem kE(hR90:mB R90){x:Unit⊕(Unit)}(h:lZ R90 s2 t15 t16 t17=some x):bh Pg GE 0 (.loop (cA Z3 119)) (EX (eN x) (cR x)) (eM s2 t15 t16 t17):=
 ZL h fun _ _ hy=>qz _ _ _ _ _ hR90 hy
end
def n7(R90:iD)(s1:waB)(s2:waB):Option Bool:=
 if((s1.length:Int)!=(s2.length:Int))=true then
  some false
 else
  (lZ R90 s2 s1 (s1.length:Int) 0).bind fun o9=>match o9 with
  |(.inl o9)=>
   some false
  |(.inr o9)=>
   some true
theorem tL(R90:iD)(hR90:mB R90){s1:waB}{s2:waB}{r:Bool}(h:n7 R90 s1 s2=some r):CC Pg GE 71 [sl ai s1,sl ai s2,.func (.func 72) [] []] (.bool r) []:=by
 have p2:=fun{sc F} (r:PS sc F)=>bW (er.ln s1)<|bW (er.ln s2)<|r
 rcases aQ h with⟨c1,h⟩|⟨c1,h⟩
 ·obtain rfl:=lf h
  have z:=p2<|sg 0 c1<|en (aI (rP (.bool false))<|trivial)
  exact Z71.v (aI (ak aE s1) (aI (ak aE s2) (aI (aI trivial trivial) trivial))) z<|by kernel_rfl
 ·obtain⟨o9,bo9,h⟩:=cP h
  rcases o9 with o9|o9
  ·obtain rfl:=lf h
   have z:=p2<|sg 0 c1<|bW (er.ln s1)<|du (e:=.ret) (s1:=cR (.inl o9)) (kE R90 s2 s1 (s1.length:Int) 0 hR90 bo9)<|en (aI (rP (.bool false))<|trivial)
   exact Z71.v (aI (ak aE s1) (aI (ak aE s2) (aI (aI trivial trivial) trivial))) z<|by kernel_rfl
  ·obtain rfl:=lf h
   have z:=p2<|sg 0 c1<|bW (er.ln s1)<|du (e:=.exit 0) (s1:=cR (.inr o9)) (kE R90 s2 s1 (s1.length:Int) 0 hR90 bo9)<|en (aI (rP (.bool true))<|trivial)
   exact Z71.v (aI (ak aE s1) (aI (ak aE s2) (aI (aI trivial trivial) trivial))) z<|by kernel_rfl
noncomputable def qbC:Code:=f72.body.getD .skip
def qbg:List Nat:=[]
theorem Z72:ZF qbg 72 f72 qbC:=⟨call72,func72,rfl⟩
def xt(R90:iD)(a:aj)(a2:aj):Option Bool:=
 if (a.Op == a2.Op) = true then
  if (a.Name == a2.Name) = true then
   (FO a.Names a2.Names).bind fun r5=>
   if r5=true then
    (G2 a.Pred a2.Pred).bind fun r8=>
    if r8=true then
     (yG a.Preds a2.Preds).bind fun r11=>
     if r11=true then
      (n7 R90 a.Args a2.Args).bind fun r14=>
      some r14
     else
      some false
    else
     some false
   else
    some false
  else
   some false
 else
  some false
theorem CZ(R90:iD)(hR90:mB R90){a:aj}{a2:aj}{r:Bool}(h:xt R90 a a2=some r):CC Pg GE 72 [.agg (ai a),.agg (ai a2)] (.bool r) []:=by
 have p2:=fun{sc F} (r:PS sc F)=>se (qp a)<|se (qp a2)<|sv (de a)<|sv (df a)<|sv (de a2)<|sv (df a2)<|r
 rcases aQ h with⟨c1,h⟩|⟨c1,h⟩
 ·have p4:=fun{sc F} (r:PS sc F)=>p2<|sg 6 c1<|sv (gZ a)<|sv (jb a)<|sv (gZ a2)<|sv (jb a2)<|r
  rcases aQ h with⟨c3,h⟩|⟨c3,h⟩
  ·obtain⟨r5,br5,h⟩:=cP h
   have p7:=fun{sc F} (r:PS sc F)=>p4<|sg 13 c3<|sv (fi a)<|sv (fl a)<|sv (fi a2)<|sv (fl a2)<|dj (Iz br5)<|r
   rcases aQ h with⟨c6,h⟩|⟨c6,h⟩
   ·obtain⟨r8,br8,h⟩:=cP h
    have p10:=fun{sc F} (r:PS sc F)=>p7<|sg 20 c6<|sv (oE a)<|sv (oF a)<|sv (oE a2)<|sv (oF a2)<|dj (FD br8)<|r
    rcases aQ h with⟨c9,h⟩|⟨c9,h⟩
    ·obtain⟨r11,br11,h⟩:=cP h
     have p13:=fun{sc F} (r:PS sc F)=>p10<|sg 27 c9<|sv (jj a)<|sv (jl a)<|sv (jj a2)<|sv (jl a2)<|dj (CO br11)<|r
     rcases aQ h with⟨c12,h⟩|⟨c12,h⟩
     ·obtain⟨r14,br14,h⟩:=cP h
      obtain rfl:=lf h
      have z:=p13<|sg 34 c12<|sv (dH a)<|sv (dI a)<|sv (dH a2)<|sv (dI a2)<|dj (tL R90 hR90 br14)<|en (aI (rP (.bool r14))<|trivial)
      exact Z72.v (aI (aE a) (aI (aE a2) trivial)) z<|by kernel_rfl
     ·obtain rfl:=lf h
      have z:=p13<|sg 34 c12<|en (aI (rP (.bool false))<|trivial)
      exact Z72.v (aI (aE a) (aI (aE a2) trivial)) z<|by kernel_rfl
    ·obtain rfl:=lf h
     have z:=p10<|sg 27 c9<|en (aI (rP (.bool false))<|trivial)
     exact Z72.v (aI (aE a) (aI (aE a2) trivial)) z<|by kernel_rfl
   ·obtain rfl:=lf h
    have z:=p7<|sg 20 c6<|en (aI (rP (.bool false))<|trivial)
    exact Z72.v (aI (aE a) (aI (aE a2) trivial)) z<|by kernel_rfl
  ·obtain rfl:=lf h
   have z:=p4<|sg 13 c3<|en (aI (rP (.bool false))<|trivial)
   exact Z72.v (aI (aE a) (aI (aE a2) trivial)) z<|by kernel_rfl
 ·obtain rfl:=lf h
  have z:=p2<|sg 6 c1<|en (aI (rP (.bool false))<|trivial)
  exact Z72.v (aI (aE a) (aI (aE a2) trivial)) z<|by kernel_rfl
def xu:((aj×aj)->Option Bool)->(aj×aj)->Option Bool:=fun(rec:(aj×aj)->Option Bool) (x:aj×aj)=>xt (fun a a2=>rec (a,a2)) x.1 x.2
def Am(a:aj)(a2:aj):Option Bool:=tn xu (a,a2)
theorem Ex{a:aj}{a2:aj}{r:Bool}(h:Am a a2=some r):CC Pg GE 72 [.agg (ai a),.agg (ai a2)] (.bool r) []:=
 fj (F:=xu) (M:=fun(x:aj×aj) (r:Bool)=>CC Pg GE 72 [.agg (ai x.1),.agg (ai x.2)] (.bool r) []) (fun rec hrec x r h=>CZ _ (fun a a2 r h=>hrec (a,a2) r h) h) h
noncomputable def ZM:Code:=f121.body.getD .skip
def Zj:List Nat:=[]
theorem Z121:ZF Zj 121 f121 ZM:=⟨call121,func121,rfl⟩
def H1(t:aj):Option Bool:=
 (Am t (⟨0,([]:af),([]:List aj),([]:List af),(⟨0,([]:af),0,([]:List am)⟩:am),([]:List am)⟩:aj)).bind fun r1=>
 some r1
theorem KA{t:aj}{r:Bool}(h:H1 t=some r):CC Pg GE 121 [.agg (ai t)] (.bool r) []:=by
 obtain⟨r1,br1,h⟩:=cP h
 obtain rfl:=lf h
 have z:=se (qp t)<|sv (lT t)<|sb (PB) (PA)<|dj (Ex br1)<|en (aI (rP (.bool r1))<|trivial)
 exact Z121.v (aI (aE t) trivial) z<|by kernel_rfl
end Go.Proofs.YtkdahfeiedaahaaGreatDoor
