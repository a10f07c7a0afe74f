/- PROVED: a part of the proof. Conditions: none. -/
import Derived.Test.YtkdahfeiedaahaaGreatDoorPkB15
noncomputable section
namespace Go.Proofs.YtkdahfeiedaahaaGreatDoor
open Go Go.Proofs.Tryz
set_option linter.unusedVariables false
set_option maxRecDepth 100000
abbrev s4:=(am->Option Int)
abbrev xl(R:s4):Prop:=∀(t:am) (r:Int),R t=some r->CC Pg GE 145 [.agg (ai t)] (.int .i64 r) []
noncomputable def OH:Code:=f166.body.getD .skip
def KG:List Nat:=[]
section
variable(t:am)
def Fq:az:=aZ 39 [(1,.eptr (ai t))] [.dead] []
def ki(o:Bool):az:=aZ 39 [(38,.bool o)] [.dead] []
def Ak:Option Bool:=
 if(decide ((t.Args.length:Int)<2))=true then
  some true
 else
  if(decide ((t.Args.length:Int)>7))=true then
   some true
  else
   if((t.Names.length:Int)!=0)=true then
    some ((t.Names.length:Int)!=(bZ ((t.Args.length:Int) - 1)))
   else
    some false
theorem En{x:Bool}(h:Ak t=some x):aP Pg GE 0 (cA OH 892) (EX .normal (ki x)) (Fq t):=by
 have p8:=fun{sc F} (r:PS sc F)=>sv (du t)<|sv (dv t)<|bW (d4.ln t.Args)<|r
 rcases aN h with⟨c7,h⟩|⟨c7,h⟩
 ·obtain rfl:=lf h
  exact bk KG (p8<|sg 5 c7<|eF .normal (ki true))<|by kernel_rfl
 ·have p10:=fun{sc F} (r:PS sc F)=>p8<|sg 5 c7<|sv (du t)<|sv (dv t)<|bW (d4.ln t.Args)<|r
  rcases aN h with⟨c9,h⟩|⟨c9,h⟩
  ·obtain rfl:=lf h
   exact bk KG (p10<|sg 11 c9<|eF .normal (ki true))<|by kernel_rfl
  ·have p12:=fun{sc F} (r:PS sc F)=>p10<|sg 11 c9<|sv (ez t)<|sv (eB t)<|bW (ch.ln t.Names)<|r
   rcases aN h with⟨c11,h⟩|⟨c11,h⟩
   ·obtain rfl:=lf h
    exact bk KG (p12<|sg 16 c11<|sv (ez t)<|sv (eB t)<|bW (ch.ln t.Names)<|sv (du t)<|sv (dv t)<|bW (d4.ln t.Args)<|eF .normal (ki ((t.Names.length:Int)!=(bZ ((t.Args.length:Int) - 1)))))<|by kernel_rfl
   ·obtain rfl:=lf h
    exact bk KG (p12<|sg 16 c11<|eF .normal (ki false))<|by kernel_rfl
end
def Gc(t:am):Option Int:=
 if(t.Op==4)=true then
  if(decide ((t.Args.length:Int)>6))=true then
   some 13
  else
   some 0
 else
  if(t.Op==6)=true then
   (Ak t).bind fun o13=>
   if o13=true then
    some 13
   else
    some 0
  else
   some 0
theorem I2{t:am}{r:Int}(h:Gc t=some r):CC Pg GE 166 [.agg (ai t)] (.int .i64 r) []:=by
 have p2:=fun{sc F} (r:PS sc F)=>se (px t)<|sv (cJ t)<|sv (cK t)<|r
 rcases aN h with⟨c1,h⟩|⟨c1,h⟩
 ·have p4:=fun{sc F} (r:PS sc F)=>p2<|sg 0 c1<|sv (du t)<|sv (dv t)<|bW (d4.ln t.Args)<|r
  rcases aN h with⟨c3,h⟩|⟨c3,h⟩
  ·obtain rfl:=lf h
   have z:=p4<|sg 0 c3<|en (aI (rP (.int .i64 13))<|trivial)
   exact cC KG call166 func166 (c:=OH) rfl (aI (aL t) trivial) z<|by kernel_rfl
  ·obtain rfl:=lf h
   have z:=p4<|sg 0 c3<|en (aI (rP (.int .i64 0))<|trivial)
   exact cC KG call166 func166 (c:=OH) rfl (aI (aL t) trivial) z<|by kernel_rfl
 ·have p6:=fun{sc F} (r:PS sc F)=>p2<|sg 0 c1<|r
  rcases aN h with⟨c5,h⟩|⟨c5,h⟩
  ·obtain⟨o13,bo13,h⟩:=aG h
   have p15:=fun{sc F} (r:PS sc F)=>p6<|sg 0 c5<|oz 0<|cU (En t bo13)<|r
   rcases aN h with⟨c14,h⟩|⟨c14,h⟩
   ·obtain rfl:=lf h
    have z:=p15<|sg 0 c14<|en (aI (rP (.int .i64 13))<|trivial)
    exact cC KG call166 func166 (c:=OH) rfl (aI (aL t) trivial) z<|by kernel_rfl
   ·obtain rfl:=lf h
    have z:=p15<|sg 0 c14<|en (aI (rP (.int .i64 0))<|trivial)
    exact cC KG call166 func166 (c:=OH) rfl (aI (aL t) trivial) z<|by kernel_rfl
  ·obtain rfl:=lf h
   have z:=p6<|sg 0 c5<|en (aI (rP (.int .i64 0))<|trivial)
   exact cC KG call166 func166 (c:=OH) rfl (aI (aL t) trivial) z<|by kernel_rfl
noncomputable def GH:Code:=f145.body.getD .skip
def oh:List Nat:=[68,100]
section
variable(t:am)
def G0:az:=aZ 102 [(1,.eptr (ai t))] [.dead] []
def sB(o:Bool):az:=aZ 102 [(1,.eptr (ai t)),(3,.bool o)] [.dead] []
def B4:Option Bool:=
 if(t.Op==4)=true then
  some true
 else
  some (t.Op==5)
theorem Fr{x:Bool}(h:B4 t=some x):aP Pg GE 0 (cA GH 6) (EX .normal (sB t x)) (G0 t):=by
 have p2:=fun{sc F} (r:PS sc F)=>sv (cJ t)<|sv (cK t)<|r
 rcases aN h with⟨c1,h⟩|⟨c1,h⟩
 ·obtain rfl:=lf h
  exact bk oh (p2<|sg 4 c1<|eF .normal (sB t true))<|by kernel_rfl
 ·obtain rfl:=lf h
  exact bk oh (p2<|sg 4 c1<|sv (cJ t)<|sv (cK t)<|eF .normal (sB t (t.Op==5)))<|by kernel_rfl
end
section
variable(t:am)(named:Bool)
def G1:az:=aZ 102 [(1,.eptr (ai t)),(3,.bool named)] [.dead] []
def sC(o:Bool):az:=aZ 102 [(1,.eptr (ai t)),(3,.bool named),(4,.bool o)] [.dead] []
def B5:Option Bool:=
 if(t.Op==4)=true then
  some true
 else
  some (t.Op==6)
theorem Fs{x:Bool}(h:B5 t=some x):aP Pg GE 0 (cA GH 14) (EX .normal (sC t named x)) (G1 t named):=by
 have p5:=fun{sc F} (r:PS sc F)=>sv (cJ t)<|sv (cK t)<|r
 rcases aN h with⟨c4,h⟩|⟨c4,h⟩
 ·obtain rfl:=lf h
  exact bk oh (p5<|sg 4 c4<|eF .normal (sC t named true))<|by kernel_rfl
 ·obtain rfl:=lf h
  exact bk oh (p5<|sg 4 c4<|sv (cJ t)<|sv (cK t)<|eF .normal (sC t named (t.Op==6)))<|by kernel_rfl
end
section
variable(t:am)(named:Bool)(compound:Bool)
def G2:az:=aZ 102 [(1,.eptr (ai t)),(3,.bool named),(4,.bool compound)] [.dead] []
def cx(o:Bool):az:=aZ 102 [(1,.eptr (ai t)),(3,.bool named),(63,.bool o)] [.dead] []
def B6:Option Bool:=
 if(decide (t.Op<1))=true then
  some true
 else
  if(decide (t.Op>6))=true then
   some true
  else
   if (!(t.Name == ([]:ag))) = true then
    if(!named)=true then
     some true
    else
     if (decide ((t.Args.length:Int) > 0)) = true then
      if(!compound)=true then
       some true
      else
       if(decide ((t.Names.length:Int)>0))=true then
        some (t.Op !=6)
       else
        some false
     else
      if(decide ((t.Names.length:Int)>0))=true then
       some (t.Op !=6)
      else
       some false
   else
    if (decide ((t.Args.length:Int) > 0)) = true then
     if(!compound)=true then
      some true
     else
      if(decide ((t.Names.length:Int)>0))=true then
       some (t.Op !=6)
      else
       some false
    else
     if(decide ((t.Names.length:Int)>0))=true then
      some (t.Op !=6)
     else
      some false
theorem Ft{x:Bool}(h:B6 t named compound=some x):aP Pg GE 0 (cA GH 60) (EX .normal (cx t named x)) (G2 t named compound):=by
 have p8:=fun{sc F} (r:PS sc F)=>sv (cJ t)<|sv (cK t)<|r
 rcases aN h with⟨c7,h⟩|⟨c7,h⟩
 ·obtain rfl:=lf h
  exact bk oh (p8<|sg 4 c7<|eF .normal (cx t named true))<|by kernel_rfl
 ·have p10:=fun{sc F} (r:PS sc F)=>p8<|sg 4 c7<|sv (cJ t)<|sv (cK t)<|r
  rcases aN h with⟨c9,h⟩|⟨c9,h⟩
  ·obtain rfl:=lf h
   exact bk oh (p10<|sg 9 c9<|eF .normal (cx t named true))<|by kernel_rfl
  ·have p12:=fun{sc F} (r:PS sc F)=>p10<|sg 9 c9<|sv (gn t)<|sv (ik t)<|r
   rcases aN h with⟨c11,h⟩|⟨c11,h⟩
   ·have p14:=fun{sc F} (r:PS sc F)=>p12<|sg 13 c11<|r
    rcases aN h with⟨c13,h⟩|⟨c13,h⟩
    ·obtain rfl:=lf h
     exact bk oh (p14<|sg 18 c13<|eF .normal (cx t named true))<|by kernel_rfl
    ·have p16:=fun{sc F} (r:PS sc F)=>p14<|sg 18 c13<|sv (du t)<|sv (dv t)<|bW (d4.ln t.Args)<|r
     rcases aN h with⟨c15,h⟩|⟨c15,h⟩
     ·have p18:=fun{sc F} (r:PS sc F)=>p16<|sg 23 c15<|r
      rcases aN h with⟨c17,h⟩|⟨c17,h⟩
      ·obtain rfl:=lf h
       exact bk oh (p18<|sg 28 c17<|eF .normal (cx t named true))<|by kernel_rfl
      ·have p20:=fun{sc F} (r:PS sc F)=>p18<|sg 28 c17<|sv (ez t)<|sv (eB t)<|bW (ch.ln t.Names)<|r
       rcases aN h with⟨c19,h⟩|⟨c19,h⟩
       ·obtain rfl:=lf h
        exact bk oh (p20<|sg 33 c19<|sv (cJ t)<|sv (cK t)<|eF .normal (cx t named (t.Op !=6)))<|by kernel_rfl
       ·obtain rfl:=lf h
        exact bk oh (p20<|sg 33 c19<|eF .normal (cx t named false))<|by kernel_rfl
     ·have p22:=fun{sc F} (r:PS sc F)=>p16<|sg 23 c15<|sv (ez t)<|sv (eB t)<|bW (ch.ln t.Names)<|r
      rcases aN h with⟨c21,h⟩|⟨c21,h⟩
      ·obtain rfl:=lf h
       exact bk oh (p22<|sg 33 c21<|sv (cJ t)<|sv (cK t)<|eF .normal (cx t named (t.Op !=6)))<|by kernel_rfl
      ·obtain rfl:=lf h
       exact bk oh (p22<|sg 33 c21<|eF .normal (cx t named false))<|by kernel_rfl
   ·have p24:=fun{sc F} (r:PS sc F)=>p12<|sg 13 c11<|sv (du t)<|sv (dv t)<|bW (d4.ln t.Args)<|r
    rcases aN h with⟨c23,h⟩|⟨c23,h⟩
    ·have p26:=fun{sc F} (r:PS sc F)=>p24<|sg 23 c23<|r
     rcases aN h with⟨c25,h⟩|⟨c25,h⟩
     ·obtain rfl:=lf h
      exact bk oh (p26<|sg 28 c25<|eF .normal (cx t named true))<|by kernel_rfl
     ·have p28:=fun{sc F} (r:PS sc F)=>p26<|sg 28 c25<|sv (ez t)<|sv (eB t)<|bW (ch.ln t.Names)<|r
      rcases aN h with⟨c27,h⟩|⟨c27,h⟩
      ·obtain rfl:=lf h
       exact bk oh (p28<|sg 33 c27<|sv (cJ t)<|sv (cK t)<|eF .normal (cx t named (t.Op !=6)))<|by kernel_rfl
      ·obtain rfl:=lf h
       exact bk oh (p28<|sg 33 c27<|eF .normal (cx t named false))<|by kernel_rfl
    ·have p30:=fun{sc F} (r:PS sc F)=>p24<|sg 23 c23<|sv (ez t)<|sv (eB t)<|bW (ch.ln t.Names)<|r
     rcases aN h with⟨c29,h⟩|⟨c29,h⟩
     ·obtain rfl:=lf h
      exact bk oh (p30<|sg 33 c29<|sv (cJ t)<|sv (cK t)<|eF .normal (cx t named (t.Op !=6)))<|by kernel_rfl
     ·obtain rfl:=lf h
      exact bk oh (p30<|sg 33 c29<|eF .normal (cx t named false))<|by kernel_rfl
end
section
variable(t:am)
def G4:az:=aZ 102 [(1,.eptr (ai t))] [.dead] []
def sD(o:Bool):az:=aZ 102 [(1,.eptr (ai t)),(6,.bool o)] [.dead] []
def B8:Option Bool:=
 (AV t.Name 0).bind fun c41=>
 if(decide (c41>=65))=true then
  (AV t.Name 0).bind fun c44=>
  some (decide (c44<=90))
 else
  some false
theorem Fu{x:Bool}(h:B8 t=some x):aP Pg GE 0 (cA GH 2026) (EX .normal (sD t x)) (G4 t):=by
 obtain⟨c41,bc41,h⟩:=aG h
 have p43:=fun{sc F} (r:PS sc F)=>sv (gn t)<|sv (ik t)<|sv (vD (k:=.i64) underlying9 bc41)<|r
 rcases aN h with⟨c42,h⟩|⟨c42,h⟩
 ·obtain⟨c44,bc44,h⟩:=aG h
  obtain rfl:=lf h
  exact bk oh (p43<|sg 5 c42<|sv (gn t)<|sv (ik t)<|sv (vD (k:=.i64) underlying9 bc44)<|eF .normal (sD t (decide (c44<=90))))<|by kernel_rfl
 ·obtain rfl:=lf h
  exact bk oh (p43<|sg 5 c42<|eF .normal (sD t false))<|by kernel_rfl
end
section
variable(t:am)(named:Bool)
def G3:az:=aZ 102 [(1,.eptr (ai t)),(3,.bool named)] [.dead] []
def ll(o:Unit⊕(Unit)):Exit:=match o with
 |(.inl _)=>.ret
 |(.inr _)=>.normal
def fD(o:Unit⊕(Unit)):az:=match o with
 |(.inl o)=>aZ 102 [(2,.int .i64 3)] [.dead] []
 |(.inr o)=>aZ 102 [(1,.eptr (ai t))] [.dead] []
def B7:Option (Unit⊕(Unit)):=
 if named=true then
  (Cv t.Name).bind fun r38=>
  if(r38 !=0)=true then
   some (.inl ())
  else
   (B8 t).bind fun o45=>
   if(!(o45==(t.Op==4)))=true then
    some (.inl ())
   else
    some (.inr ())
 else
  some (.inr ())
theorem qZ{x:Unit⊕(Unit)}(h:B7 t named=some x):aP Pg GE 0 (cA GH 126) (EX (ll x) (fD t x)) (G3 t named):=by
 rcases aN h with⟨c37,h⟩|⟨c37,h⟩
 ·obtain⟨r38,br38,h⟩:=aG h
  have p40:=fun{sc F} (r:PS sc F)=>sg 0 c37<|sv (gn t)<|sv (ik t)<|cH (BK br38)<|r
  rcases aN h with⟨c39,h⟩|⟨c39,h⟩
  ·obtain rfl:=lf h
   exact bk oh (p40<|sg 0 c39<|eF (ll (.inl ())) (fD t (.inl ())))<|by kernel_rfl
  ·obtain⟨o45,bo45,h⟩:=aG h
   have p47:=fun{sc F} (r:PS sc F)=>p40<|sg 0 c39<|oz 0<|cU (Fu t bo45)<|sv (cJ t)<|sv (cK t)<|r
   rcases aN h with⟨c46,h⟩|⟨c46,h⟩
   ·obtain rfl:=lf h
    exact bk oh (p47<|sg 0 c46<|eF (ll (.inl ())) (fD t (.inl ())))<|by kernel_rfl
   ·obtain rfl:=lf h
    exact bk oh (p47<|sg 0 c46<|eF (ll (.inr ())) (fD t (.inr ())))<|by kernel_rfl
 ·obtain rfl:=lf h
  exact bk oh (sg 0 c37<|eF (ll (.inr ())) (fD t (.inr ())))<|by kernel_rfl
end
section
variable(R87:s4)(t90:waB)(t91:Int)(t92:Int)
def lm:az:=aZ 102 [(90,sl ai t90),(91,.int .i64 t91),(92,.int .i64 t92)] [.dead] []
def lp(o:Int⊕(Unit)):Exit:=match o with
 |(.inl _)=>.ret
 |(.inr _)=>.exit 0
def jl(o:Int⊕(Unit)):az:=match o with
 |(.inl o)=>aZ 102 [(2,.int .i64 o)] [.dead] []
 |(.inr o)=>aZ 102 [] [.dead] []
def yF:Option (Int⊕(Int⊕(Unit))):=
 if(decide (t92<t91))=true then
  (fO t90 t92).bind fun x50=>
  (R87 x50).bind fun r51=>
  if(r51 !=0)=true then
   some (.inr (.inl r51))
  else
   some (.inl (bZ (t92+1)))
 else
  some (.inr (.inr ()))
def B9:Option (Int⊕(Unit)):=loop (fun(zz:Int)=>yF R87 t90 t91 zz) t92
theorem Es(hR87:xl R87){y:Int⊕(Int⊕(Unit))}(h:yF R87 t90 t91 t92=some y):aP Pg GE 0 (cA GH 2039) (LQ (fun(zz:Int)=>lm t90 t91 zz) lp jl y) (lm t90 t91 t92):=by
 rcases aN h with⟨c49,h⟩|⟨c49,h⟩
 ·obtain⟨x50,bx50,h⟩:=aG h
  obtain⟨r51,br51,h⟩:=aG h
  have p53:=fun{sc F} (r:PS sc F)=>sg 0 c49<|sv (d4.ia (k:=.i64) bx50)<|sv (kG x50)<|sx NN<|sx (qK x50)<|sv (jZ x50 [])<|cH (hR87 _ _ br51)<|r
  rcases aN h with⟨c52,h⟩|⟨c52,h⟩
  ·obtain rfl:=lf h
   have z:=p53<|sg 0 c52<|sK 0 (lp (.inl r51)) (jl (.inl r51)) rfl (dF (aI trivial trivial)) (aI trivial trivial)
   exact pw (A:=oh) mixed (by intro hx;cases hx) z<|by kernel_rfl
  ·obtain rfl:=lf h
   have z:=p53<|sg 0 c52<|sK 0 .normal (lm t90 t91 (bZ (t92+1))) rfl (dF (aI (up (aj aL t90)) (aI trivial (aI trivial trivial)))) (aI trivial trivial)
   exact dZ (A:=oh) mixed z<|by kernel_rfl
 ·obtain rfl:=lf h
  have z:=sg 0 c49<|eF (lp (.inr ())) (jl (.inr ()))
  exact iZ oh (by intro hx;cases hx) z<|by kernel_rfl
theorem xh(hR87:xl R87){x:Int⊕(Unit)}(h:B9 R87 t90 t91 t92=some x):aP Pg GE 0 (.loop (cA GH 2039)) (EX (lp x) (jl x)) (lm t90 t91 t92):=
 aP.loop (S:=fun(zz:Int)=>lm t90 t91 zz) (ex:=lp) (s:=t92) h fun zz y hy=>Es R87 t90 t91 zz hR87 hy
end
def Ep(R87:s4)(t:am):Option Int:=
 (B4 t).bind fun o3=>
 (B5 t).bind fun o6=>
 (B6 t o3 o6).bind fun o31=>
 if o31=true then
  some 1
 else
  (Gc t).bind fun r34=>
  if(r34 !=0)=true then
   some r34
  else
   (B7 t o3).bind fun o48=>match o48 with
   |(.inl o48)=>
    some 3
   | (.inr o48) =>
    (B9 R87 t.Args (t.Args.length:Int) 0).bind fun o54=>match o54 with
    |(.inl o54)=>
     some o54
    |(.inr o54)=>
     some 0
theorem I5(R87:s4)(hR87:xl R87){t:am}{r:Int}(h:Ep R87 t=some r):CC Pg GE 145 [.agg (ai t)] (.int .i64 r) []:=by
 obtain⟨o3,bo3,h⟩:=aG h
 obtain⟨o6,bo6,h⟩:=aG h
 obtain⟨o31,bo31,h⟩:=aG h
 have p33:=fun{sc F} (r:PS sc F)=>se (px t)<|oz 0<|cU (Fr t bo3)<|oz 0<|cU (Fs t o3 bo6)<|oz 1<|cU (Ft t o3 o6 bo31)<|r
 rcases aN h with⟨c32,h⟩|⟨c32,h⟩
 ·obtain rfl:=lf h
  have z:=p33<|sg 0 c32<|en (aI (rP (.int .i64 1))<|trivial)
  exact cC oh call145 func145 (c:=GH) rfl (aI (aL t) trivial) z<|by kernel_rfl
 ·obtain⟨r34,br34,h⟩:=aG h
  have p36:=fun{sc F} (r:PS sc F)=>p33<|sg 0 c32<|sv (kG t)<|cH (I2 br34)<|r
  rcases aN h with⟨c35,h⟩|⟨c35,h⟩
  ·obtain rfl:=lf h
   have z:=p36<|sg 0 c35<|en (aI (rP (.int .i64 r34))<|trivial)
   exact cC oh call145 func145 (c:=GH) rfl (aI (aL t) trivial) z<|by kernel_rfl
  ·obtain⟨o48,bo48,h⟩:=aG h
   rcases o48 with o48|o48
   ·obtain rfl:=lf h
    have z:=p36<|sg 0 c35<|oz 0<|cU (e:=.ret) (s1:=fD t (.inl o48)) (qZ t o3 bo48)<|en (aI (rP (.int .i64 3))<|trivial)
    exact cC oh call145 func145 (c:=GH) rfl (aI (aL t) trivial) z<|by kernel_rfl
   ·obtain⟨o54,bo54,h⟩:=aG h
    rcases o54 with o54|o54
    ·obtain rfl:=lf h
     have z:=p36<|sg 0 c35<|oz 0<|cU (e:=.normal) (s1:=fD t (.inr o48)) (qZ t o3 bo48)<|sv (du t)<|sv (dv t)<|bW (d4.ln t.Args)<|cU (e:=.ret) (s1:=jl (.inl o54)) (xh R87 t.Args (t.Args.length:Int) 0 hR87 bo54)<|en (aI (rP (.int .i64 o54))<|trivial)
     exact cC oh call145 func145 (c:=GH) rfl (aI (aL t) trivial) z<|by kernel_rfl
    ·obtain rfl:=lf h
     have z:=p36<|sg 0 c35<|oz 0<|cU (e:=.normal) (s1:=fD t (.inr o48)) (qZ t o3 bo48)<|sv (du t)<|sv (dv t)<|bW (d4.ln t.Args)<|cU (e:=.exit 0) (s1:=jl (.inr o54)) (xh R87 t.Args (t.Args.length:Int) 0 hR87 bo54)<|en (aI (rP (.int .i64 0))<|trivial)
     exact cC oh call145 func145 (c:=GH) rfl (aI (aL t) trivial) z<|by kernel_rfl
def Er:(am->Option Int)->(am)->Option Int:=fun(rec:am->Option Int) (x:am)=>Ep (fun t=>rec t) x
def I4(t:am):Option Int:=qc Er t
theorem JU{t:am}{r:Int}(h:I4 t=some r):CC Pg GE 145 [.agg (ai t)] (.int .i64 r) []:=
 d9 (F:=Er) (M:=fun(x:am) (r:Int)=>CC Pg GE 145 [.agg (ai x)] (.int .i64 r) []) (fun rec hrec x r h=>I5 _ (fun t r h=>hrec t r h) h) h
noncomputable def TX:Code:=f120.body.getD .skip
def TD:List Nat:=[]
def Ai(t:am):Option Int:=
 (Gd t).bind fun r1=>
 if(decide (r1>40))=true then
  some 8
 else
  (I4 t).bind fun r4=>
  some r4
theorem Aj{t:am}{r:Int}(h:Ai t=some r):CC Pg GE 120 [.agg (ai t)] (.int .i64 r) []:=by
 obtain⟨r1,br1,h⟩:=aG h
 have p3:=fun{sc F} (r:PS sc F)=>se (px t)<|sv (kG t)<|cH (I3 br1)<|r
 rcases aN h with⟨c2,h⟩|⟨c2,h⟩
 ·obtain rfl:=lf h
  have z:=p3<|sg 0 c2<|en (aI (rP (.int .i64 8))<|trivial)
  exact cC TD call120 func120 (c:=TX) rfl (aI (aL t) trivial) z<|by kernel_rfl
 ·obtain⟨r4,br4,h⟩:=aG h
  obtain rfl:=lf h
  have z:=p3<|sg 0 c2<|sv (kG t)<|cH (JU br4)<|en (aI (rP (.int .i64 r4))<|trivial)
  exact cC TD call120 func120 (c:=TX) rfl (aI (aL t) trivial) z<|by kernel_rfl
abbrev gR:=(am->am->Option Bool)
abbrev lJ(R:gR):Prop:=∀(a:am) (a2:am) (r:Bool),R a a2=some r->CC Pg GE 72 [.agg (ai a),.agg (ai a2)] (.bool r) []
noncomputable def T6:Code:=f77.body.getD .skip
def Tn:List Nat:=[15]
section
variable(s1:waA)(s2:waA)(t12:Int)(t13:Int)
def jw:az:=aZ 26 [(0,sl cS s1),(1,sl cS s2),(12,.int .i64 t12),(13,.int .i64 t13)] [] []
def jx(o:Unit⊕(Unit)):Exit:=match o with
 |(.inl _)=>.ret
 |(.inr _)=>.exit 0
def gT(o:Unit⊕(Unit)):az:=match o with
 |(.inl o)=>aZ 26 [(4,.bool false)] [] []
 |(.inr o)=>aZ 26 [] [] []
def vC:Option (Int⊕(Unit⊕(Unit))):=
 if(decide (t13<t12))=true then
  (fO s1 t13).bind fun x4=>
  (fO s2 t13).bind fun x5=>
  if(!(x4==x5))=true then
   some (.inr (.inl ()))
  else
   some (.inl (bZ (t13+1)))
 else
  some (.inr (.inr ()))
def yu:Option (Unit⊕(Unit)):=loop (fun(zz:Int)=>vC s1 s2 t12 zz) t13
theorem Ba{y:Int⊕(Unit⊕(Unit))}(h:vC s1 s2 t12 t13=some y):aP Pg GE 0 (cA T6 119) (LQ (fun(zz:Int)=>jw s1 s2 t12 zz) jx gT y) (jw s1 s2 t12 t13):=by
 rcases aN h with⟨c3,h⟩|⟨c3,h⟩
 ·obtain⟨x4,bx4,h⟩:=aG h
  obtain⟨x5,bx5,h⟩:=aG h
  have p7:=fun{sc F} (r:PS sc F)=>sg 0 c3<|IS [0,0,3,7,0,0,48,112,255]<|sv (ch.ia (k:=.i64) bx4)<|sv (cy C2 (.str x4) [])<|sv (ch.ia (k:=.i64) bx5)<|sv (cy C2 (.str x5) [])<|r
  rcases aN h with⟨c6,h⟩|⟨c6,h⟩
  ·obtain rfl:=lf h
   have z:=p7<|sg 0 c6<|eF (jx (.inl ())) (gT (.inl ()))
   exact iZ Tn (by intro hx;cases hx) z<|by kernel_rfl
  ·obtain rfl:=lf h
   exact xO Tn (p7<|sg 0 c6<|eF .normal (jw s1 s2 t12 (bZ (t13+1))))<|by kernel_rfl
 ·obtain rfl:=lf h
  have z:=sg 0 c3<|eF (jx (.inr ())) (gT (.inr ()))
  exact iZ Tn (by intro hx;cases hx) z<|by kernel_rfl
theorem ud{x:Unit⊕(Unit)}(h:yu s1 s2 t12 t13=some x):aP Pg GE 0 (.loop (cA T6 119)) (EX (jx x) (gT x)) (jw s1 s2 t12 t13):=
 aP.loop (S:=fun(zz:Int)=>jw s1 s2 t12 zz) (ex:=jx) (s:=t13) h fun zz y hy=>Ba s1 s2 t12 zz hy
end
def D7(s1:waA)(s2:waA):Option Bool:=
 if((s1.length:Int)!=(s2.length:Int))=true then
  some false
 else
  (yu s1 s2 (s1.length:Int) 0).bind fun o8=>match o8 with
  |(.inl o8)=>
   some false
  |(.inr o8)=>
   some true
theorem GU{s1:waA}{s2:waA}{r:Bool}(h:D7 s1 s2=some r):CC Pg GE 77 [sl cS s1,sl cS s2] (.bool r) []:=by
 have p2:=fun{sc F} (r:PS sc F)=>bW (ch.ln s1)<|bW (ch.ln s2)<|r
 rcases aN h with⟨c1,h⟩|⟨c1,h⟩
 ·obtain rfl:=lf h
  have z:=p2<|sg 0 c1<|en (aI (rP (.bool false))<|trivial)
  exact cC Tn call77 func77 (c:=T6) rfl (aI (aj bD s1) (aI (aj bD s2) trivial)) z<|by kernel_rfl
 ·obtain⟨o8,bo8,h⟩:=aG h
  rcases o8 with o8|o8
  ·obtain rfl:=lf h
   have z:=p2<|sg 0 c1<|bW (ch.ln s1)<|cU (e:=.ret) (s1:=gT (.inl o8)) (ud s1 s2 (s1.length:Int) 0 bo8)<|en (aI (rP (.bool false))<|trivial)
   exact cC Tn call77 func77 (c:=T6) rfl (aI (aj bD s1) (aI (aj bD s2) trivial)) z<|by kernel_rfl
  ·obtain rfl:=lf h
   have z:=p2<|sg 0 c1<|bW (ch.ln s1)<|cU (e:=.exit 0) (s1:=gT (.inr o8)) (ud s1 s2 (s1.length:Int) 0 bo8)<|en (aI (rP (.bool true))<|trivial)
   exact cC Tn call77 func77 (c:=T6) rfl (aI (aj bD s1) (aI (aj bD s2) trivial)) z<|by kernel_rfl
abbrev oF:=(ax->ax->Option Bool)
abbrev uL(R:oF):Prop:=∀(a:ax) (a2:ax) (r:Bool),R a a2=some r->CC Pg GE 123 [.agg (aw a),.agg (aw a2)] (.bool r) []
noncomputable def P1:Code:=f152.body.getD .skip
def Ox:List Nat:=[17]
section
variable(R92:oF)(v:waF)(v2:waF)(t14:Int)(t15:Int)
def kR:az:=aZ 30 [(0,sl aw v),(1,sl aw v2),(2,.func (.func 123) [] []),(14,.int .i64 t14),(15,.int .i64 t15)] [] []
def kT(o:Unit⊕(Unit)):Exit:=match o with
 |(.inl _)=>.ret
 |(.inr _)=>.exit 0
def jk(o:Unit⊕(Unit)):az:=match o with
 |(.inl o)=>aZ 30 [(6,.bool false)] [] []
 |(.inr o)=>aZ 30 [] [] []
def yt:Option (Int⊕(Unit⊕(Unit))):=
 if(decide (t15<t14))=true then
  (fO v t15).bind fun x4=>
  (fO v2 t15).bind fun x5=>
  (R92 x4 x5).bind fun r6=>
  if(!r6)=true then
   some (.inr (.inl ()))
  else
   some (.inl (bZ (t15+1)))
 else
  some (.inr (.inr ()))
def BU:Option (Unit⊕(Unit)):=loop (fun(zz:Int)=>yt R92 v v2 t14 zz) t15
theorem DZ(hR92:uL R92){y:Int⊕(Unit⊕(Unit))}(h:yt R92 v v2 t14 t15=some y):aP Pg GE 0 (cA P1 119) (LQ (fun(zz:Int)=>kR v v2 t14 zz) kT jk y) (kR v v2 t14 t15):=by
 rcases aN h with⟨c3,h⟩|⟨c3,h⟩
 ·obtain⟨x4,bx4,h⟩:=aG h
  obtain⟨x5,bx5,h⟩:=aG h
  obtain⟨r6,br6,h⟩:=aG h
  have p8:=fun{sc F} (r:PS sc F)=>sg 0 c3<|IS [0,0,0,6,14,0,0,96,224,511,1023]<|sv (mX.ia (k:=.i64) bx4)<|sv (pq x4)<|sv (mX.ia (k:=.i64) bx5)<|sv (pq x5)<|cH (hR92 _ _ _ br6)<|r
  rcases aN h with⟨c7,h⟩|⟨c7,h⟩
  ·obtain rfl:=lf h
   have z:=p8<|sg 0 c7<|eF (kT (.inl ())) (jk (.inl ()))
   exact iZ Ox (by intro hx;cases hx) z<|by kernel_rfl
  ·obtain rfl:=lf h
   exact xO Ox (p8<|sg 0 c7<|eF .normal (kR v v2 t14 (bZ (t15+1))))<|by kernel_rfl
 ·obtain rfl:=lf h
  have z:=sg 0 c3<|eF (kT (.inr ())) (jk (.inr ()))
  exact iZ Ox (by intro hx;cases hx) z<|by kernel_rfl
theorem wQ(hR92:uL R92){x:Unit⊕(Unit)}(h:BU R92 v v2 t14 t15=some x):aP Pg GE 0 (.loop (cA P1 119)) (EX (kT x) (jk x)) (kR v v2 t14 t15):=
 aP.loop (S:=fun(zz:Int)=>kR v v2 t14 zz) (ex:=kT) (s:=t15) h fun zz y hy=>DZ R92 v v2 t14 zz hR92 hy
end
def IJ(R92:oF)(a:waF)(a2:waF):Option Bool:=
 if((a.length:Int)!=(a2.length:Int))=true then
  some false
 else
  (BU R92 a a2 (a.length:Int) 0).bind fun o9=>match o9 with
  |(.inl o9)=>
   some false
  |(.inr o9)=>
   some true
theorem JQ(R92:oF)(hR92:uL R92){a:waF}{a2:waF}{r:Bool}(h:IJ R92 a a2=some r):CC Pg GE 152 [sl aw a,sl aw a2,.func (.func 123) [] []] (.bool r) []:=by
 have p2:=fun{sc F} (r:PS sc F)=>bW (mX.ln a)<|bW (mX.ln a2)<|r
 rcases aN h with⟨c1,h⟩|⟨c1,h⟩
 ·obtain rfl:=lf h
  have z:=p2<|sg 0 c1<|en (aI (rP (.bool false))<|trivial)
  exact cC Ox call152 func152 (c:=P1) rfl (aI (aj bH a) (aI (aj bH a2) (aI (aI trivial trivial) trivial))) z<|by kernel_rfl
 ·obtain⟨o9,bo9,h⟩:=aG h
  rcases o9 with o9|o9
  ·obtain rfl:=lf h
   have z:=p2<|sg 0 c1<|bW (mX.ln a)<|cU (e:=.ret) (s1:=jk (.inl o9)) (wQ R92 a a2 (a.length:Int) 0 hR92 bo9)<|en (aI (rP (.bool false))<|trivial)
   exact cC Ox call152 func152 (c:=P1) rfl (aI (aj bH a) (aI (aj bH a2) (aI (aI trivial trivial) trivial))) z<|by kernel_rfl
  ·obtain rfl:=lf h
   have z:=p2<|sg 0 c1<|bW (mX.ln a)<|cU (e:=.exit 0) (s1:=jk (.inr o9)) (wQ R92 a a2 (a.length:Int) 0 hR92 bo9)<|en (aI (rP (.bool true))<|trivial)
   exact cC Ox call152 func152 (c:=P1) rfl (aI (aj bH a) (aI (aj bH a2) (aI (aI trivial trivial) trivial))) z<|by kernel_rfl
noncomputable def Rr:Code:=f123.body.getD .skip
def Rh:List Nat:=[]
def F5(R92:oF)(a:ax)(a2:ax):Option Bool:=
 if (a.Op == a2.Op) = true then
  if(a.Name==a2.Name)=true then
   if(a.N==a2.N)=true then
    (IJ R92 a.Kids a2.Kids).bind fun r7=>
    some r7
   else
    some false
  else
   some false
 else
  some false
theorem JP(R92:oF)(hR92:uL R92){a:ax}{a2:ax}{r:Bool}(h:F5 R92 a a2=some r):CC Pg GE 123 [.agg (aw a),.agg (aw a2)] (.bool r) []:=by
 have p2:=fun{sc F} (r:PS sc F)=>se (DT a)<|se (DT a2)<|sv (rf a)<|sv (rj a)<|sv (rf a2)<|sv (rj a2)<|r
 rcases aN h with⟨c1,h⟩|⟨c1,h⟩
 ·have p4:=fun{sc F} (r:PS sc F)=>p2<|sg 6 c1<|sv (nF a)<|sv (pp a)<|sv (nF a2)<|sv (pp a2)<|r
  rcases aN h with⟨c3,h⟩|⟨c3,h⟩
  ·have p6:=fun{sc F} (r:PS sc F)=>p4<|sg 13 c3<|sv (rh a)<|sv (tc a)<|sv (rh a2)<|sv (tc a2)<|r
   rcases aN h with⟨c5,h⟩|⟨c5,h⟩
   ·obtain⟨r7,br7,h⟩:=aG h
    obtain rfl:=lf h
    have z:=p6<|sg 20 c5<|sv (gm a)<|sv (gp a)<|sv (gm a2)<|sv (gp a2)<|cH (JQ R92 hR92 br7)<|en (aI (rP (.bool r7))<|trivial)
    exact cC Rh call123 func123 (c:=Rr) rfl (aI (bH a) (aI (bH a2) trivial)) z<|by kernel_rfl
   ·obtain rfl:=lf h
    have z:=p6<|sg 20 c5<|en (aI (rP (.bool false))<|trivial)
    exact cC Rh call123 func123 (c:=Rr) rfl (aI (bH a) (aI (bH a2) trivial)) z<|by kernel_rfl
  ·obtain rfl:=lf h
   have z:=p4<|sg 13 c3<|en (aI (rP (.bool false))<|trivial)
   exact cC Rh call123 func123 (c:=Rr) rfl (aI (bH a) (aI (bH a2) trivial)) z<|by kernel_rfl
 ·obtain rfl:=lf h
  have z:=p2<|sg 6 c1<|en (aI (rP (.bool false))<|trivial)
  exact cC Rh call123 func123 (c:=Rr) rfl (aI (bH a) (aI (bH a2) trivial)) z<|by kernel_rfl
def F6:((ax×ax)->Option Bool)->(ax×ax)->Option Bool:=fun(rec:(ax×ax)->Option Bool) (x:ax×ax)=>F5 (fun a a2=>rec (a,a2)) x.1 x.2
def Fa(a:ax)(a2:ax):Option Bool:=qc F6 (a,a2)
theorem DY{a:ax}{a2:ax}{r:Bool}(h:Fa a a2=some r):CC Pg GE 123 [.agg (aw a),.agg (aw a2)] (.bool r) []:=
 d9 (F:=F6) (M:=fun(x:ax×ax) (r:Bool)=>CC Pg GE 123 [.agg (aw x.1),.agg (aw x.2)] (.bool r) []) (fun rec hrec x r h=>JP _ (fun a a2 r h=>hrec (a,a2) r h) h) h
noncomputable def P0:Code:=f124.body.getD .skip
def Ow:List Nat:=[19]
section
variable(s2:waF)(t15:waF)(t16:Int)(t17:Int)
def fQ:az:=aZ 32 [(1,sl aw s2),(2,.func (.func 123) [] []),(15,sl aw t15),(16,.int .i64 t16),(17,.int .i64 t17)] [] []
def fR(o:Unit⊕(Unit)):Exit:=match o with
 |(.inl _)=>.ret
 |(.inr _)=>.exit 0
def ey(o:Unit⊕(Unit)):az:=match o with
 |(.inl o)=>aZ 32 [(6,.bool false)] [] []
 |(.inr o)=>aZ 32 [] [] []
def qr:Option (Int⊕(Unit⊕(Unit))):=
 if(decide (t17<t16))=true then
  (fO t15 t17).bind fun x4=>
  (fO s2 t17).bind fun x5=>
  (Fa x4 x5).bind fun r6=>
  if(!r6)=true then
   some (.inr (.inl ()))
  else
   some (.inl (bZ (t17+1)))
 else
  some (.inr (.inr ()))
def sQ:Option (Unit⊕(Unit)):=loop (fun(zz:Int)=>qr s2 t15 t16 zz) t17
theorem wV{y:Int⊕(Unit⊕(Unit))}(h:qr s2 t15 t16 t17=some y):aP Pg GE 0 (cA P0 119) (LQ (fun(zz:Int)=>fQ s2 t15 t16 zz) fR ey y) (fQ s2 t15 t16 t17):=by
 rcases aN h with⟨c3,h⟩|⟨c3,h⟩
 ·obtain⟨x4,bx4,h⟩:=aG h
  obtain⟨x5,bx5,h⟩:=aG h
  obtain⟨r6,br6,h⟩:=aG h
  have p8:=fun{sc F} (r:PS sc F)=>sg 0 c3<|sv (mX.ia (k:=.i64) bx4)<|sv (pq x4)<|sx R9<|sx (AJ x4)<|sv (mX.ia (k:=.i64) bx5)<|sv (pq x5)<|sx R9<|sx (AJ x5)<|sv (wB x4 [])<|sv (wB x5 [])<|cH (DY br6)<|r
  rcases aN h with⟨c7,h⟩|⟨c7,h⟩
  ·obtain rfl:=lf h
   have z:=p8<|sg 0 c7<|sK 0 (fR (.inl ())) (ey (.inl ())) rfl (dF (aI trivial trivial)) trivial
   exact pw (A:=Ow) mixed (by intro hx;cases hx) z<|by kernel_rfl
  ·obtain rfl:=lf h
   have z:=p8<|sg 0 c7<|sK 0 .normal (fQ s2 t15 t16 (bZ (t17+1))) rfl (dF (aI (up (aj bH s2)) (aI (aI trivial trivial) (aI (up (aj bH t15)) (aI trivial (aI trivial trivial)))))) trivial
   exact dZ (A:=Ow) mixed z<|by kernel_rfl
 ·obtain rfl:=lf h
  have z:=sg 0 c3<|eF (fR (.inr ())) (ey (.inr ()))
  exact iZ Ow (by intro hx;cases hx) z<|by kernel_rfl
theorem pC{x:Unit⊕(Unit)}(h:sQ s2 t15 t16 t17=some x):aP Pg GE 0 (.loop (cA P0 119)) (EX (fR x) (ey x)) (fQ s2 t15 t16 t17):=
 aP.loop (S:=fun(zz:Int)=>fQ s2 t15 t16 zz) (ex:=fR) (s:=t17) h fun zz y hy=>wV s2 t15 t16 zz hy
end
def wU(s1:waF)(s2:waF):Option Bool:=
 if((s1.length:Int)!=(s2.length:Int))=true then
  some false
 else
  (sQ s2 s1 (s1.length:Int) 0).bind fun o9=>match o9 with
  |(.inl o9)=>
   some false
  |(.inr o9)=>
   some true
theorem A9{s1:waF}{s2:waF}{r:Bool}(h:wU s1 s2=some r):CC Pg GE 124 [sl aw s1,sl aw s2,.func (.func 123) [] []] (.bool r) []:=by
 have p2:=fun{sc F} (r:PS sc F)=>bW (mX.ln s1)<|bW (mX.ln s2)<|r
 rcases aN h with⟨c1,h⟩|⟨c1,h⟩
 ·obtain rfl:=lf h
  have z:=p2<|sg 0 c1<|en (aI (rP (.bool false))<|trivial)
  exact cC Ow call124 func124 (c:=P0) rfl (aI (aj bH s1) (aI (aj bH s2) (aI (aI trivial trivial) trivial))) z<|by kernel_rfl
 ·obtain⟨o9,bo9,h⟩:=aG h
  rcases o9 with o9|o9
  ·obtain rfl:=lf h
   have z:=p2<|sg 0 c1<|bW (mX.ln s1)<|cU (e:=.ret) (s1:=ey (.inl o9)) (pC s2 s1 (s1.length:Int) 0 bo9)<|en (aI (rP (.bool false))<|trivial)
   exact cC Ow call124 func124 (c:=P0) rfl (aI (aj bH s1) (aI (aj bH s2) (aI (aI trivial trivial) trivial))) z<|by kernel_rfl
  ·obtain rfl:=lf h
   have z:=p2<|sg 0 c1<|bW (mX.ln s1)<|cU (e:=.exit 0) (s1:=ey (.inr o9)) (pC s2 s1 (s1.length:Int) 0 bo9)<|en (aI (rP (.bool true))<|trivial)
   exact cC Ow call124 func124 (c:=P0) rfl (aI (aj bH s1) (aI (aj bH s2) (aI (aI trivial trivial) trivial))) z<|by kernel_rfl
noncomputable def T5:Code:=f71.body.getD .skip
def Tl:List Nat:=[19]
section
variable(R90:gR)(s2:waB)(t15:waB)(t16:Int)(t17:Int)
def db:az:=aZ 32 [(1,sl ai s2),(2,.func (.func 72) [] []),(15,sl ai t15),(16,.int .i64 t16),(17,.int .i64 t17)] [] []
def dc(o:Unit⊕(Unit)):Exit:=match o with
 |(.inl _)=>.ret
 |(.inr _)=>.exit 0
def ct(o:Unit⊕(Unit)):az:=match o with
 |(.inl o)=>aZ 32 [(6,.bool false)] [] []
 |(.inr o)=>aZ 32 [] [] []
def j6:Option (Int⊕(Unit⊕(Unit))):=
 if(decide (t17<t16))=true then
  (fO t15 t17).bind fun x4=>
  (fO s2 t17).bind fun x5=>
  (R90 x4 x5).bind fun r6=>
  if(!r6)=true then
   some (.inr (.inl ()))
  else
   some (.inl (bZ (t17+1)))
 else
  some (.inr (.inr ()))
def kX:Option (Unit⊕(Unit)):=loop (fun(zz:Int)=>j6 R90 s2 t15 t16 zz) t17
theorem pD(hR90:lJ R90){y:Int⊕(Unit⊕(Unit))}(h:j6 R90 s2 t15 t16 t17=some y):aP Pg GE 0 (cA T5 119) (LQ (fun(zz:Int)=>db s2 t15 t16 zz) dc ct y) (db s2 t15 t16 t17):=by
 rcases aN h with⟨c3,h⟩|⟨c3,h⟩
 ·obtain⟨x4,bx4,h⟩:=aG h
  obtain⟨x5,bx5,h⟩:=aG h
  obtain⟨r6,br6,h⟩:=aG h
  have p8:=fun{sc F} (r:PS sc F)=>sg 0 c3<|sv (d4.ia (k:=.i64) bx4)<|sv (kG x4)<|sx NN<|sx (qK x4)<|sv (d4.ia (k:=.i64) bx5)<|sv (kG x5)<|sx NN<|sx (qK x5)<|sv (jZ x4 [])<|sv (jZ x5 [])<|cH (hR90 _ _ _ br6)<|r
  rcases aN h with⟨c7,h⟩|⟨c7,h⟩
  ·obtain rfl:=lf h
   have z:=p8<|sg 0 c7<|sK 0 (dc (.inl ())) (ct (.inl ())) rfl (dF (aI trivial trivial)) trivial
   exact pw (A:=Tl) mixed (by intro hx;cases hx) z<|by kernel_rfl
  ·obtain rfl:=lf h
   have z:=p8<|sg 0 c7<|sK 0 .normal (db s2 t15 t16 (bZ (t17+1))) rfl (dF (aI (up (aj aL s2)) (aI (aI trivial trivial) (aI (up (aj aL t15)) (aI trivial (aI trivial trivial)))))) trivial
   exact dZ (A:=Tl) mixed z<|by kernel_rfl
 ·obtain rfl:=lf h
  have z:=sg 0 c3<|eF (dc (.inr ())) (ct (.inr ()))
  exact iZ Tl (by intro hx;cases hx) z<|by kernel_rfl
theorem jQ(hR90:lJ R90){x:Unit⊕(Unit)}(h:kX R90 s2 t15 t16 t17=some x):aP Pg GE 0 (.loop (cA T5 119)) (EX (dc x) (ct x)) (db s2 t15 t16 t17):=
 aP.loop (S:=fun(zz:Int)=>db s2 t15 t16 zz) (ex:=dc) (s:=t17) h fun zz y hy=>pD R90 s2 t15 t16 zz hR90 hy
end
def mN(R90:gR)(s1:waB)(s2:waB):Option Bool:=
 if((s1.length:Int)!=(s2.length:Int))=true then
  some false
 else
  (kX R90 s2 s1 (s1.length:Int) 0).bind fun o9=>match o9 with
  |(.inl o9)=>
   some false
  |(.inr o9)=>
   some true
theorem sa(R90:gR)(hR90:lJ R90){s1:waB}{s2:waB}{r:Bool}(h:mN R90 s1 s2=some r):CC Pg GE 71 [sl ai s1,sl ai s2,.func (.func 72) [] []] (.bool r) []:=by
 have p2:=fun{sc F} (r:PS sc F)=>bW (d4.ln s1)<|bW (d4.ln s2)<|r
 rcases aN h with⟨c1,h⟩|⟨c1,h⟩
 ·obtain rfl:=lf h
  have z:=p2<|sg 0 c1<|en (aI (rP (.bool false))<|trivial)
  exact cC Tl call71 func71 (c:=T5) rfl (aI (aj aL s1) (aI (aj aL s2) (aI (aI trivial trivial) trivial))) z<|by kernel_rfl
 ·obtain⟨o9,bo9,h⟩:=aG h
  rcases o9 with o9|o9
  ·obtain rfl:=lf h
   have z:=p2<|sg 0 c1<|bW (d4.ln s1)<|cU (e:=.ret) (s1:=ct (.inl o9)) (jQ R90 s2 s1 (s1.length:Int) 0 hR90 bo9)<|en (aI (rP (.bool false))<|trivial)
   exact cC Tl call71 func71 (c:=T5) rfl (aI (aj aL s1) (aI (aj aL s2) (aI (aI trivial trivial) trivial))) z<|by kernel_rfl
  ·obtain rfl:=lf h
   have z:=p2<|sg 0 c1<|bW (d4.ln s1)<|cU (e:=.exit 0) (s1:=ct (.inr o9)) (jQ R90 s2 s1 (s1.length:Int) 0 hR90 bo9)<|en (aI (rP (.bool true))<|trivial)
   exact cC Tl call71 func71 (c:=T5) rfl (aI (aj aL s1) (aI (aj aL s2) (aI (aI trivial trivial) trivial))) z<|by kernel_rfl
noncomputable def Tq:Code:=f72.body.getD .skip
def Tm:List Nat:=[]
def vM(R90:gR)(a:am)(a2:am):Option Bool:=
 if (a.Op == a2.Op) = true then
  if (a.Name == a2.Name) = true then
   (D7 a.Names a2.Names).bind fun r5=>
   if r5=true then
    (Fa a.Pred a2.Pred).bind fun r8=>
    if r8=true then
     (wU a.Preds a2.Preds).bind fun r11=>
     if r11=true then
      (mN R90 a.Args a2.Args).bind fun r14=>
      some r14
     else
      some false
    else
     some false
   else
    some false
  else
   some false
 else
  some false
theorem Bm(R90:gR)(hR90:lJ R90){a:am}{a2:am}{r:Bool}(h:vM R90 a a2=some r):CC Pg GE 72 [.agg (ai a),.agg (ai a2)] (.bool r) []:=by
 have p2:=fun{sc F} (r:PS sc F)=>se (px a)<|se (px a2)<|sv (cJ a)<|sv (cK a)<|sv (cJ a2)<|sv (cK a2)<|r
 rcases aN h with⟨c1,h⟩|⟨c1,h⟩
 ·have p4:=fun{sc F} (r:PS sc F)=>p2<|sg 6 c1<|sv (gn a)<|sv (ik a)<|sv (gn a2)<|sv (ik a2)<|r
  rcases aN h with⟨c3,h⟩|⟨c3,h⟩
  ·obtain⟨r5,br5,h⟩:=aG h
   have p7:=fun{sc F} (r:PS sc F)=>p4<|sg 13 c3<|sv (ez a)<|sv (eB a)<|sv (ez a2)<|sv (eB a2)<|cH (GU br5)<|r
   rcases aN h with⟨c6,h⟩|⟨c6,h⟩
   ·obtain⟨r8,br8,h⟩:=aG h
    have p10:=fun{sc F} (r:PS sc F)=>p7<|sg 20 c6<|sv (nG a)<|sv (nH a)<|sv (nG a2)<|sv (nH a2)<|cH (DY br8)<|r
    rcases aN h with⟨c9,h⟩|⟨c9,h⟩
    ·obtain⟨r11,br11,h⟩:=aG h
     have p13:=fun{sc F} (r:PS sc F)=>p10<|sg 27 c9<|sv (ip a)<|sv (ir a)<|sv (ip a2)<|sv (ir a2)<|cH (A9 br11)<|r
     rcases aN h with⟨c12,h⟩|⟨c12,h⟩
     ·obtain⟨r14,br14,h⟩:=aG h
      obtain rfl:=lf h
      have z:=p13<|sg 34 c12<|sv (du a)<|sv (dv a)<|sv (du a2)<|sv (dv a2)<|cH (sa R90 hR90 br14)<|en (aI (rP (.bool r14))<|trivial)
      exact cC Tm call72 func72 (c:=Tq) rfl (aI (aL a) (aI (aL a2) trivial)) z<|by kernel_rfl
     ·obtain rfl:=lf h
      have z:=p13<|sg 34 c12<|en (aI (rP (.bool false))<|trivial)
      exact cC Tm call72 func72 (c:=Tq) rfl (aI (aL a) (aI (aL a2) trivial)) z<|by kernel_rfl
    ·obtain rfl:=lf h
     have z:=p10<|sg 27 c9<|en (aI (rP (.bool false))<|trivial)
     exact cC Tm call72 func72 (c:=Tq) rfl (aI (aL a) (aI (aL a2) trivial)) z<|by kernel_rfl
   ·obtain rfl:=lf h
    have z:=p7<|sg 20 c6<|en (aI (rP (.bool false))<|trivial)
    exact cC Tm call72 func72 (c:=Tq) rfl (aI (aL a) (aI (aL a2) trivial)) z<|by kernel_rfl
  ·obtain rfl:=lf h
   have z:=p4<|sg 13 c3<|en (aI (rP (.bool false))<|trivial)
   exact cC Tm call72 func72 (c:=Tq) rfl (aI (aL a) (aI (aL a2) trivial)) z<|by kernel_rfl
 ·obtain rfl:=lf h
  have z:=p2<|sg 6 c1<|en (aI (rP (.bool false))<|trivial)
  exact cC Tm call72 func72 (c:=Tq) rfl (aI (aL a) (aI (aL a2) trivial)) z<|by kernel_rfl
def vN:((am×am)->Option Bool)->(am×am)->Option Bool:=fun(rec:(am×am)->Option Bool) (x:am×am)=>vM (fun a a2=>rec (a,a2)) x.1 x.2
def yE(a:am)(a2:am):Option Bool:=qc vN (a,a2)
theorem CW{a:am}{a2:am}{r:Bool}(h:yE a a2=some r):CC Pg GE 72 [.agg (ai a),.agg (ai a2)] (.bool r) []:=
 d9 (F:=vN) (M:=fun(x:am×am) (r:Bool)=>CC Pg GE 72 [.agg (ai x.1),.agg (ai x.2)] (.bool r) []) (fun rec hrec x r h=>Bm _ (fun a a2 r h=>hrec (a,a2) r h) h) h
noncomputable def Vg:Code:=f121.body.getD .skip
def UZ:List Nat:=[]
def Ga(t:am):Option Bool:=
 (yE t (⟨0,([]:ag),([]:List am),([]:List ag),(⟨0,([]:ag),0,([]:List ax)⟩:ax),([]:List ax)⟩:am)).bind fun r1=>
 some r1
theorem IZ{t:am}{r:Bool}(h:Ga t=some r):CC Pg GE 121 [.agg (ai t)] (.bool r) []:=by
 obtain⟨r1,br1,h⟩:=aG h
 obtain rfl:=lf h
 have z:=se (px t)<|sv (kG t)<|sb (Nb) (Na)<|cH (CW br1)<|en (aI (rP (.bool r1))<|trivial)
 exact cC UZ call121 func121 (c:=Vg) rfl (aI (aL t) trivial) z<|by kernel_rfl
end Go.Proofs.YtkdahfeiedaahaaGreatDoor
