/- PROVED: a part of the proof. Conditions: none. -/
import Derived.Test.YtkdahfeiedaahaaGreatDoorPkC15
noncomputable section
namespace Go.Proofs.YtkdahfeiedaahaaGreatDoor
open Go Go.Proofs.Tryz
set_option linter.unusedVariables false
set_option maxRecDepth 100000
abbrev sG:=(ah->Option Int)
abbrev wK(R:sG):Prop:=∀(t:ah) (r:Int),R t=some r->CC Pg GE 145 [.agg (ai t)] (.int .i64 r) []
noncomputable def Of:Code:=f166.body.getD .skip
def JM:List Nat:=[]
section
variable(t:ah)
def E6:aA:=bg 39 [(1,.eptr (ai t))] [.dead] []
def ka(o:Bool):aA:=bg 39 [(38,.bool o)] [.dead] []
def Af:Option Bool:=
 if(decide ((t.Args.length:Int)<2))=true then
  some true
 else
  if(decide ((t.Args.length:Int)>7))=true then
   some true
  else
   if((t.Names.length:Int)!=0)=true then
    some ((t.Names.length:Int)!=(ca ((t.Args.length:Int) - 1)))
   else
    some false
theorem D9{x:Bool}(h:Af t=some x):aQ Pg GE 0 (cA Of 892) (EX .normal (ka x)) (E6 t):=by
 have p8:=fun{sc F} (r:PS sc F)=>sv (dy t)<|sv (dz t)<|bU (d5.ln t.Args)<|r
 rcases aN h with⟨c7,h⟩|⟨c7,h⟩
 ·obtain rfl:=lf h
  exact bA JM (p8<|sg 5 c7<|eF .normal (ka true))<|by kernel_rfl
 ·have p10:=fun{sc F} (r:PS sc F)=>p8<|sg 5 c7<|sv (dy t)<|sv (dz t)<|bU (d5.ln t.Args)<|r
  rcases aN h with⟨c9,h⟩|⟨c9,h⟩
  ·obtain rfl:=lf h
   exact bA JM (p10<|sg 11 c9<|eF .normal (ka true))<|by kernel_rfl
  ·have p12:=fun{sc F} (r:PS sc F)=>p10<|sg 11 c9<|sv (eA t)<|sv (eC t)<|bU (eu.ln t.Names)<|r
   rcases aN h with⟨c11,h⟩|⟨c11,h⟩
   ·obtain rfl:=lf h
    exact bA JM (p12<|sg 16 c11<|sv (eA t)<|sv (eC t)<|bU (eu.ln t.Names)<|sv (dy t)<|sv (dz t)<|bU (d5.ln t.Args)<|eF .normal (ka ((t.Names.length:Int)!=(ca ((t.Args.length:Int) - 1)))))<|by kernel_rfl
   ·obtain rfl:=lf h
    exact bA JM (p12<|sg 16 c11<|eF .normal (ka false))<|by kernel_rfl
end
def FC(t:ah):Option Int:=
 if(t.Op==4)=true then
  if(decide ((t.Args.length:Int)>6))=true then
   some 13
  else
   some 0
 else
  if(t.Op==6)=true then
   (Af t).bind fun o13=>
   if o13=true then
    some 13
   else
    some 0
  else
   some 0
theorem H8{t:ah}{r:Int}(h:FC t=some r):CC Pg GE 166 [.agg (ai t)] (.int .i64 r) []:=by
 have p2:=fun{sc F} (r:PS sc F)=>se (py t)<|sv (cN t)<|sv (cO t)<|r
 rcases aN h with⟨c1,h⟩|⟨c1,h⟩
 ·have p4:=fun{sc F} (r:PS sc F)=>p2<|sg 0 c1<|sv (dy t)<|sv (dz t)<|bU (d5.ln t.Args)<|r
  rcases aN h with⟨c3,h⟩|⟨c3,h⟩
  ·obtain rfl:=lf h
   have z:=p4<|sg 0 c3<|en (aI (rP (.int .i64 13))<|trivial)
   exact cH JM call166 func166 (c:=Of) rfl (aI (aE t) trivial) z<|by kernel_rfl
  ·obtain rfl:=lf h
   have z:=p4<|sg 0 c3<|en (aI (rP (.int .i64 0))<|trivial)
   exact cH JM call166 func166 (c:=Of) rfl (aI (aE t) trivial) z<|by kernel_rfl
 ·have p6:=fun{sc F} (r:PS sc F)=>p2<|sg 0 c1<|r
  rcases aN h with⟨c5,h⟩|⟨c5,h⟩
  ·obtain⟨o13,bo13,h⟩:=aG h
   have p15:=fun{sc F} (r:PS sc F)=>p6<|sg 0 c5<|qk 0<|cY (D9 t bo13)<|r
   rcases aN h with⟨c14,h⟩|⟨c14,h⟩
   ·obtain rfl:=lf h
    have z:=p15<|sg 0 c14<|en (aI (rP (.int .i64 13))<|trivial)
    exact cH JM call166 func166 (c:=Of) rfl (aI (aE t) trivial) z<|by kernel_rfl
   ·obtain rfl:=lf h
    have z:=p15<|sg 0 c14<|en (aI (rP (.int .i64 0))<|trivial)
    exact cH JM call166 func166 (c:=Of) rfl (aI (aE t) trivial) z<|by kernel_rfl
  ·obtain rfl:=lf h
   have z:=p6<|sg 0 c5<|en (aI (rP (.int .i64 0))<|trivial)
   exact cH JM call166 func166 (c:=Of) rfl (aI (aE t) trivial) z<|by kernel_rfl
noncomputable def FY:Code:=f145.body.getD .skip
def oe:List Nat:=[68,100]
section
variable(t:ah)
def Gk:aA:=bg 102 [(1,.eptr (ai t))] [.dead] []
def rR(o:Bool):aA:=bg 102 [(1,.eptr (ai t)),(3,.bool o)] [.dead] []
def BM:Option Bool:=
 if(t.Op==4)=true then
  some true
 else
  some (t.Op==5)
theorem E7{x:Bool}(h:BM t=some x):aQ Pg GE 0 (cA FY 6) (EX .normal (rR t x)) (Gk t):=by
 have p2:=fun{sc F} (r:PS sc F)=>sv (cN t)<|sv (cO t)<|r
 rcases aN h with⟨c1,h⟩|⟨c1,h⟩
 ·obtain rfl:=lf h
  exact bA oe (p2<|sg 4 c1<|eF .normal (rR t true))<|by kernel_rfl
 ·obtain rfl:=lf h
  exact bA oe (p2<|sg 4 c1<|sv (cN t)<|sv (cO t)<|eF .normal (rR t (t.Op==5)))<|by kernel_rfl
end
section
variable(t:ah)(named:Bool)
def Gl:aA:=bg 102 [(1,.eptr (ai t)),(3,.bool named)] [.dead] []
def rS(o:Bool):aA:=bg 102 [(1,.eptr (ai t)),(3,.bool named),(4,.bool o)] [.dead] []
def BN:Option Bool:=
 if(t.Op==4)=true then
  some true
 else
  some (t.Op==6)
theorem E8{x:Bool}(h:BN t=some x):aQ Pg GE 0 (cA FY 14) (EX .normal (rS t named x)) (Gl t named):=by
 have p5:=fun{sc F} (r:PS sc F)=>sv (cN t)<|sv (cO t)<|r
 rcases aN h with⟨c4,h⟩|⟨c4,h⟩
 ·obtain rfl:=lf h
  exact bA oe (p5<|sg 4 c4<|eF .normal (rS t named true))<|by kernel_rfl
 ·obtain rfl:=lf h
  exact bA oe (p5<|sg 4 c4<|sv (cN t)<|sv (cO t)<|eF .normal (rS t named (t.Op==6)))<|by kernel_rfl
end
section
variable(t:ah)(named:Bool)(compound:Bool)
def Gm:aA:=bg 102 [(1,.eptr (ai t)),(3,.bool named),(4,.bool compound)] [.dead] []
def cG(o:Bool):aA:=bg 102 [(1,.eptr (ai t)),(3,.bool named),(63,.bool o)] [.dead] []
def BO:Option Bool:=
 if(decide (t.Op<1))=true then
  some true
 else
  if(decide (t.Op>6))=true then
   some true
  else
   if (!(t.Name == ([]:ae))) = true then
    if(!named)=true then
     some true
    else
     if (decide ((t.Args.length:Int) > 0)) = true then
      if(!compound)=true then
       some true
      else
       if(decide ((t.Names.length:Int)>0))=true then
        some (t.Op !=6)
       else
        some false
     else
      if(decide ((t.Names.length:Int)>0))=true then
       some (t.Op !=6)
      else
       some false
   else
    if (decide ((t.Args.length:Int) > 0)) = true then
     if(!compound)=true then
      some true
     else
      if(decide ((t.Names.length:Int)>0))=true then
       some (t.Op !=6)
      else
       some false
    else
     if(decide ((t.Names.length:Int)>0))=true then
      some (t.Op !=6)
     else
      some false
theorem E9{x:Bool}(h:BO t named compound=some x):aQ Pg GE 0 (cA FY 60) (EX .normal (cG t named x)) (Gm t named compound):=by
 have p8:=fun{sc F} (r:PS sc F)=>sv (cN t)<|sv (cO t)<|r
 rcases aN h with⟨c7,h⟩|⟨c7,h⟩
 ·obtain rfl:=lf h
  exact bA oe (p8<|sg 4 c7<|eF .normal (cG t named true))<|by kernel_rfl
 ·have p10:=fun{sc F} (r:PS sc F)=>p8<|sg 4 c7<|sv (cN t)<|sv (cO t)<|r
  rcases aN h with⟨c9,h⟩|⟨c9,h⟩
  ·obtain rfl:=lf h
   exact bA oe (p10<|sg 9 c9<|eF .normal (cG t named true))<|by kernel_rfl
  ·have p12:=fun{sc F} (r:PS sc F)=>p10<|sg 9 c9<|sv (gi t)<|sv (g9 t)<|r
   rcases aN h with⟨c11,h⟩|⟨c11,h⟩
   ·have p14:=fun{sc F} (r:PS sc F)=>p12<|sg 13 c11<|r
    rcases aN h with⟨c13,h⟩|⟨c13,h⟩
    ·obtain rfl:=lf h
     exact bA oe (p14<|sg 18 c13<|eF .normal (cG t named true))<|by kernel_rfl
    ·have p16:=fun{sc F} (r:PS sc F)=>p14<|sg 18 c13<|sv (dy t)<|sv (dz t)<|bU (d5.ln t.Args)<|r
     rcases aN h with⟨c15,h⟩|⟨c15,h⟩
     ·have p18:=fun{sc F} (r:PS sc F)=>p16<|sg 23 c15<|r
      rcases aN h with⟨c17,h⟩|⟨c17,h⟩
      ·obtain rfl:=lf h
       exact bA oe (p18<|sg 28 c17<|eF .normal (cG t named true))<|by kernel_rfl
      ·have p20:=fun{sc F} (r:PS sc F)=>p18<|sg 28 c17<|sv (eA t)<|sv (eC t)<|bU (eu.ln t.Names)<|r
       rcases aN h with⟨c19,h⟩|⟨c19,h⟩
       ·obtain rfl:=lf h
        exact bA oe (p20<|sg 33 c19<|sv (cN t)<|sv (cO t)<|eF .normal (cG t named (t.Op !=6)))<|by kernel_rfl
       ·obtain rfl:=lf h
        exact bA oe (p20<|sg 33 c19<|eF .normal (cG t named false))<|by kernel_rfl
     ·have p22:=fun{sc F} (r:PS sc F)=>p16<|sg 23 c15<|sv (eA t)<|sv (eC t)<|bU (eu.ln t.Names)<|r
      rcases aN h with⟨c21,h⟩|⟨c21,h⟩
      ·obtain rfl:=lf h
       exact bA oe (p22<|sg 33 c21<|sv (cN t)<|sv (cO t)<|eF .normal (cG t named (t.Op !=6)))<|by kernel_rfl
      ·obtain rfl:=lf h
       exact bA oe (p22<|sg 33 c21<|eF .normal (cG t named false))<|by kernel_rfl
   ·have p24:=fun{sc F} (r:PS sc F)=>p12<|sg 13 c11<|sv (dy t)<|sv (dz t)<|bU (d5.ln t.Args)<|r
    rcases aN h with⟨c23,h⟩|⟨c23,h⟩
    ·have p26:=fun{sc F} (r:PS sc F)=>p24<|sg 23 c23<|r
     rcases aN h with⟨c25,h⟩|⟨c25,h⟩
     ·obtain rfl:=lf h
      exact bA oe (p26<|sg 28 c25<|eF .normal (cG t named true))<|by kernel_rfl
     ·have p28:=fun{sc F} (r:PS sc F)=>p26<|sg 28 c25<|sv (eA t)<|sv (eC t)<|bU (eu.ln t.Names)<|r
      rcases aN h with⟨c27,h⟩|⟨c27,h⟩
      ·obtain rfl:=lf h
       exact bA oe (p28<|sg 33 c27<|sv (cN t)<|sv (cO t)<|eF .normal (cG t named (t.Op !=6)))<|by kernel_rfl
      ·obtain rfl:=lf h
       exact bA oe (p28<|sg 33 c27<|eF .normal (cG t named false))<|by kernel_rfl
    ·have p30:=fun{sc F} (r:PS sc F)=>p24<|sg 23 c23<|sv (eA t)<|sv (eC t)<|bU (eu.ln t.Names)<|r
     rcases aN h with⟨c29,h⟩|⟨c29,h⟩
     ·obtain rfl:=lf h
      exact bA oe (p30<|sg 33 c29<|sv (cN t)<|sv (cO t)<|eF .normal (cG t named (t.Op !=6)))<|by kernel_rfl
     ·obtain rfl:=lf h
      exact bA oe (p30<|sg 33 c29<|eF .normal (cG t named false))<|by kernel_rfl
end
section
variable(t:ah)
def Gp:aA:=bg 102 [(1,.eptr (ai t))] [.dead] []
def rU(o:Bool):aA:=bg 102 [(1,.eptr (ai t)),(6,.bool o)] [.dead] []
def BQ:Option Bool:=
 (AJ t.Name 0).bind fun c41=>
 if(decide (c41>=65))=true then
  (AJ t.Name 0).bind fun c44=>
  some (decide (c44<=90))
 else
  some false
theorem Fa{x:Bool}(h:BQ t=some x):aQ Pg GE 0 (cA FY 2026) (EX .normal (rU t x)) (Gp t):=by
 obtain⟨c41,bc41,h⟩:=aG h
 have p43:=fun{sc F} (r:PS sc F)=>sv (gi t)<|sv (g9 t)<|sv (uP (k:=.i64) underlying9 bc41)<|r
 rcases aN h with⟨c42,h⟩|⟨c42,h⟩
 ·obtain⟨c44,bc44,h⟩:=aG h
  obtain rfl:=lf h
  exact bA oe (p43<|sg 5 c42<|sv (gi t)<|sv (g9 t)<|sv (uP (k:=.i64) underlying9 bc44)<|eF .normal (rU t (decide (c44<=90))))<|by kernel_rfl
 ·obtain rfl:=lf h
  exact bA oe (p43<|sg 5 c42<|eF .normal (rU t false))<|by kernel_rfl
end
section
variable(t:ah)(named:Bool)
def Gn:aA:=bg 102 [(1,.eptr (ai t)),(3,.bool named)] [.dead] []
def lj(o:Unit⊕(Unit)):Exit:=match o with
 |(.inl _)=>.ret
 |(.inr _)=>.normal
def fC(o:Unit⊕(Unit)):aA:=match o with
 |(.inl o)=>bg 102 [(2,.int .i64 3)] [.dead] []
 |(.inr o)=>bg 102 [(1,.eptr (ai t))] [.dead] []
def BP:Option (Unit⊕(Unit)):=
 if named=true then
  (Cl t.Name).bind fun r38=>
  if(r38 !=0)=true then
   some (.inl ())
  else
   (BQ t).bind fun o45=>
   if(!(o45==(t.Op==4)))=true then
    some (.inl ())
   else
    some (.inr ())
 else
  some (.inr ())
theorem qM{x:Unit⊕(Unit)}(h:BP t named=some x):aQ Pg GE 0 (cA FY 126) (EX (lj x) (fC t x)) (Gn t named):=by
 rcases aN h with⟨c37,h⟩|⟨c37,h⟩
 ·obtain⟨r38,br38,h⟩:=aG h
  have p40:=fun{sc F} (r:PS sc F)=>sg 0 c37<|sv (gi t)<|sv (g9 t)<|du (Bu br38)<|r
  rcases aN h with⟨c39,h⟩|⟨c39,h⟩
  ·obtain rfl:=lf h
   exact bA oe (p40<|sg 0 c39<|eF (lj (.inl ())) (fC t (.inl ())))<|by kernel_rfl
  ·obtain⟨o45,bo45,h⟩:=aG h
   have p47:=fun{sc F} (r:PS sc F)=>p40<|sg 0 c39<|qk 0<|cY (Fa t bo45)<|sv (cN t)<|sv (cO t)<|r
   rcases aN h with⟨c46,h⟩|⟨c46,h⟩
   ·obtain rfl:=lf h
    exact bA oe (p47<|sg 0 c46<|eF (lj (.inl ())) (fC t (.inl ())))<|by kernel_rfl
   ·obtain rfl:=lf h
    exact bA oe (p47<|sg 0 c46<|eF (lj (.inr ())) (fC t (.inr ())))<|by kernel_rfl
 ·obtain rfl:=lf h
  exact bA oe (sg 0 c37<|eF (lj (.inr ())) (fC t (.inr ())))<|by kernel_rfl
end
section
variable(R87:sG)(t90:waC)(t91:Int)(t92:Int)
def lk:aA:=bg 102 [(90,sl ai t90),(91,.int .i64 t91),(92,.int .i64 t92)] [.dead] []
def ll(o:Int⊕(Unit)):Exit:=match o with
 |(.inl _)=>.ret
 |(.inr _)=>.exit 0
def i8(o:Int⊕(Unit)):aA:=match o with
 |(.inl o)=>bg 102 [(2,.int .i64 o)] [.dead] []
 |(.inr o)=>bg 102 [] [.dead] []
def yg:Option (Int⊕(Int⊕(Unit))):=
 if(decide (t92<t91))=true then
  (fJ t90 t92).bind fun x50=>
  (R87 x50).bind fun r51=>
  if(r51 !=0)=true then
   some (.inr (.inl r51))
  else
   some (.inl (ca (t92+1)))
 else
  some (.inr (.inr ()))
def BS:Option (Int⊕(Unit)):=loop (fun(zz:Int)=>yg R87 t90 t91 zz) t92
theorem Ed(hR87:wK R87){y:Int⊕(Int⊕(Unit))}(h:yg R87 t90 t91 t92=some y):aQ Pg GE 0 (cA FY 2039) (LQ (fun(zz:Int)=>lk t90 t91 zz) ll i8 y) (lk t90 t91 t92):=by
 rcases aN h with⟨c49,h⟩|⟨c49,h⟩
 ·obtain⟨x50,bx50,h⟩:=aG h
  obtain⟨r51,br51,h⟩:=aG h
  have p53:=fun{sc F} (r:PS sc F)=>sg 0 c49<|sv (d5.ia (k:=.i64) bx50)<|sv (ku x50)<|sx Na<|sx (qB x50)<|sv (jO x50 [])<|du (hR87 _ _ br51)<|r
  rcases aN h with⟨c52,h⟩|⟨c52,h⟩
  ·obtain rfl:=lf h
   have z:=p53<|sg 0 c52<|rx 0 (ll (.inl r51)) (i8 (.inl r51)) rfl (dv (aI trivial trivial)) (aI trivial trivial)
   exact mZ (A:=oe) mixed (by intro hx;cases hx) z<|by kernel_rfl
  ·obtain rfl:=lf h
   have z:=p53<|sg 0 c52<|rx 0 .normal (lk t90 t91 (ca (t92+1))) rfl (dv (aI (up (am aE t90)) (aI trivial (aI trivial trivial)))) (aI trivial trivial)
   exact d4 (A:=oe) mixed z<|by kernel_rfl
 ·obtain rfl:=lf h
  have z:=sg 0 c49<|eF (ll (.inr ())) (i8 (.inr ()))
  exact iI oe (by intro hx;cases hx) z<|by kernel_rfl
theorem wH(hR87:wK R87){x:Int⊕(Unit)}(h:BS R87 t90 t91 t92=some x):aQ Pg GE 0 (.loop (cA FY 2039)) (EX (ll x) (i8 x)) (lk t90 t91 t92):=
 aQ.loop (S:=fun(zz:Int)=>lk t90 t91 zz) (ex:=ll) (s:=t92) h fun zz y hy=>Ed R87 t90 t91 zz hR87 hy
end
def Eb(R87:sG)(t:ah):Option Int:=
 (BM t).bind fun o3=>
 (BN t).bind fun o6=>
 (BO t o3 o6).bind fun o31=>
 if o31=true then
  some 1
 else
  (FC t).bind fun r34=>
  if(r34 !=0)=true then
   some r34
  else
   (BP t o3).bind fun o48=>match o48 with
   |(.inl o48)=>
    some 3
   | (.inr o48) =>
    (BS R87 t.Args (t.Args.length:Int) 0).bind fun o54=>match o54 with
    |(.inl o54)=>
     some o54
    |(.inr o54)=>
     some 0
theorem Ib(R87:sG)(hR87:wK R87){t:ah}{r:Int}(h:Eb R87 t=some r):CC Pg GE 145 [.agg (ai t)] (.int .i64 r) []:=by
 obtain⟨o3,bo3,h⟩:=aG h
 obtain⟨o6,bo6,h⟩:=aG h
 obtain⟨o31,bo31,h⟩:=aG h
 have p33:=fun{sc F} (r:PS sc F)=>se (py t)<|qk 0<|cY (E7 t bo3)<|qk 0<|cY (E8 t o3 bo6)<|qk 1<|cY (E9 t o3 o6 bo31)<|r
 rcases aN h with⟨c32,h⟩|⟨c32,h⟩
 ·obtain rfl:=lf h
  have z:=p33<|sg 0 c32<|en (aI (rP (.int .i64 1))<|trivial)
  exact cH oe call145 func145 (c:=FY) rfl (aI (aE t) trivial) z<|by kernel_rfl
 ·obtain⟨r34,br34,h⟩:=aG h
  have p36:=fun{sc F} (r:PS sc F)=>p33<|sg 0 c32<|sv (ku t)<|du (H8 br34)<|r
  rcases aN h with⟨c35,h⟩|⟨c35,h⟩
  ·obtain rfl:=lf h
   have z:=p36<|sg 0 c35<|en (aI (rP (.int .i64 r34))<|trivial)
   exact cH oe call145 func145 (c:=FY) rfl (aI (aE t) trivial) z<|by kernel_rfl
  ·obtain⟨o48,bo48,h⟩:=aG h
   rcases o48 with o48|o48
   ·obtain rfl:=lf h
    have z:=p36<|sg 0 c35<|qk 0<|cY (e:=.ret) (s1:=fC t (.inl o48)) (qM t o3 bo48)<|en (aI (rP (.int .i64 3))<|trivial)
    exact cH oe call145 func145 (c:=FY) rfl (aI (aE t) trivial) z<|by kernel_rfl
   ·obtain⟨o54,bo54,h⟩:=aG h
    rcases o54 with o54|o54
    ·obtain rfl:=lf h
     have z:=p36<|sg 0 c35<|qk 0<|cY (e:=.normal) (s1:=fC t (.inr o48)) (qM t o3 bo48)<|sv (dy t)<|sv (dz t)<|bU (d5.ln t.Args)<|cY (e:=.ret) (s1:=i8 (.inl o54)) (wH R87 t.Args (t.Args.length:Int) 0 hR87 bo54)<|en (aI (rP (.int .i64 o54))<|trivial)
     exact cH oe call145 func145 (c:=FY) rfl (aI (aE t) trivial) z<|by kernel_rfl
    ·obtain rfl:=lf h
     have z:=p36<|sg 0 c35<|qk 0<|cY (e:=.normal) (s1:=fC t (.inr o48)) (qM t o3 bo48)<|sv (dy t)<|sv (dz t)<|bU (d5.ln t.Args)<|cY (e:=.exit 0) (s1:=i8 (.inr o54)) (wH R87 t.Args (t.Args.length:Int) 0 hR87 bo54)<|en (aI (rP (.int .i64 0))<|trivial)
     exact cH oe call145 func145 (c:=FY) rfl (aI (aE t) trivial) z<|by kernel_rfl
def Ec:(ah->Option Int)->(ah)->Option Int:=fun(rec:ah->Option Int) (x:ah)=>Eb (fun t=>rec t) x
def Ia(t:ah):Option Int:=uc Ec t
theorem I2{t:ah}{r:Int}(h:Ia t=some r):CC Pg GE 145 [.agg (ai t)] (.int .i64 r) []:=
 fk (F:=Ec) (M:=fun(x:ah) (r:Int)=>CC Pg GE 145 [.agg (ai x)] (.int .i64 r) []) (fun rec hrec x r h=>Ib _ (fun t r h=>hrec t r h) h) h
noncomputable def TZ:Code:=f120.body.getD .skip
def TC:List Nat:=[]
def Ad(t:ah):Option Int:=
 (FD t).bind fun r1=>
 if(decide (r1>40))=true then
  some 8
 else
  (Ia t).bind fun r4=>
  some r4
theorem Ae{t:ah}{r:Int}(h:Ad t=some r):CC Pg GE 120 [.agg (ai t)] (.int .i64 r) []:=by
 obtain⟨r1,br1,h⟩:=aG h
 have p3:=fun{sc F} (r:PS sc F)=>se (py t)<|sv (ku t)<|du (H9 br1)<|r
 rcases aN h with⟨c2,h⟩|⟨c2,h⟩
 ·obtain rfl:=lf h
  have z:=p3<|sg 0 c2<|en (aI (rP (.int .i64 8))<|trivial)
  exact cH TC call120 func120 (c:=TZ) rfl (aI (aE t) trivial) z<|by kernel_rfl
 ·obtain⟨r4,br4,h⟩:=aG h
  obtain rfl:=lf h
  have z:=p3<|sg 0 c2<|sv (ku t)<|du (I2 br4)<|en (aI (rP (.int .i64 r4))<|trivial)
  exact cH TC call120 func120 (c:=TZ) rfl (aI (aE t) trivial) z<|by kernel_rfl
abbrev gK:=(ah->ah->Option Bool)
abbrev lH(R:gK):Prop:=∀(a:ah) (a2:ah) (r:Bool),R a a2=some r->CC Pg GE 72 [.agg (ai a),.agg (ai a2)] (.bool r) []
noncomputable def Ua:Code:=f77.body.getD .skip
def Tm:List Nat:=[15]
section
variable(s1:waA)(s2:waA)(t12:Int)(t13:Int)
def jj:aA:=bg 26 [(0,sl cS s1),(1,sl cS s2),(12,.int .i64 t12),(13,.int .i64 t13)] [] []
def jk(o:Unit⊕(Unit)):Exit:=match o with
 |(.inl _)=>.ret
 |(.inr _)=>.exit 0
def gM(o:Unit⊕(Unit)):aA:=match o with
 |(.inl o)=>bg 26 [(4,.bool false)] [] []
 |(.inr o)=>bg 26 [] [] []
def uN:Option (Int⊕(Unit⊕(Unit))):=
 if(decide (t13<t12))=true then
  (fJ s1 t13).bind fun x4=>
  (fJ s2 t13).bind fun x5=>
  if(!(x4==x5))=true then
   some (.inr (.inl ()))
  else
   some (.inl (ca (t13+1)))
 else
  some (.inr (.inr ()))
def xT:Option (Unit⊕(Unit)):=loop (fun(zz:Int)=>uN s1 s2 t12 zz) t13
theorem AS{y:Int⊕(Unit⊕(Unit))}(h:uN s1 s2 t12 t13=some y):aQ Pg GE 0 (cA Ua 119) (LQ (fun(zz:Int)=>jj s1 s2 t12 zz) jk gM y) (jj s1 s2 t12 t13):=by
 rcases aN h with⟨c3,h⟩|⟨c3,h⟩
 ·obtain⟨x4,bx4,h⟩:=aG h
  obtain⟨x5,bx5,h⟩:=aG h
  have p7:=fun{sc F} (r:PS sc F)=>sg 0 c3<|IY [0,0,3,7,0,0,48,112,255]<|sv (eu.ia (k:=.i64) bx4)<|sv (de GB (.str x4) [])<|sv (eu.ia (k:=.i64) bx5)<|sv (de GB (.str x5) [])<|r
  rcases aN h with⟨c6,h⟩|⟨c6,h⟩
  ·obtain rfl:=lf h
   have z:=p7<|sg 0 c6<|eF (jk (.inl ())) (gM (.inl ()))
   exact iI Tm (by intro hx;cases hx) z<|by kernel_rfl
  ·obtain rfl:=lf h
   exact yz Tm (p7<|sg 0 c6<|eF .normal (jj s1 s2 t12 (ca (t13+1))))<|by kernel_rfl
 ·obtain rfl:=lf h
  have z:=sg 0 c3<|eF (jk (.inr ())) (gM (.inr ()))
  exact iI Tm (by intro hx;cases hx) z<|by kernel_rfl
theorem tH{x:Unit⊕(Unit)}(h:xT s1 s2 t12 t13=some x):aQ Pg GE 0 (.loop (cA Ua 119)) (EX (jk x) (gM x)) (jj s1 s2 t12 t13):=
 aQ.loop (S:=fun(zz:Int)=>jj s1 s2 t12 zz) (ex:=jk) (s:=t13) h fun zz y hy=>AS s1 s2 t12 zz hy
end
def DQ(s1:waA)(s2:waA):Option Bool:=
 if((s1.length:Int)!=(s2.length:Int))=true then
  some false
 else
  (xT s1 s2 (s1.length:Int) 0).bind fun o8=>match o8 with
  |(.inl o8)=>
   some false
  |(.inr o8)=>
   some true
theorem Gf{s1:waA}{s2:waA}{r:Bool}(h:DQ s1 s2=some r):CC Pg GE 77 [sl cS s1,sl cS s2] (.bool r) []:=by
 have p2:=fun{sc F} (r:PS sc F)=>bU (eu.ln s1)<|bU (eu.ln s2)<|r
 rcases aN h with⟨c1,h⟩|⟨c1,h⟩
 ·obtain rfl:=lf h
  have z:=p2<|sg 0 c1<|en (aI (rP (.bool false))<|trivial)
  exact cH Tm call77 func77 (c:=Ua) rfl (aI (am bO s1) (aI (am bO s2) trivial)) z<|by kernel_rfl
 ·obtain⟨o8,bo8,h⟩:=aG h
  rcases o8 with o8|o8
  ·obtain rfl:=lf h
   have z:=p2<|sg 0 c1<|bU (eu.ln s1)<|cY (e:=.ret) (s1:=gM (.inl o8)) (tH s1 s2 (s1.length:Int) 0 bo8)<|en (aI (rP (.bool false))<|trivial)
   exact cH Tm call77 func77 (c:=Ua) rfl (aI (am bO s1) (aI (am bO s2) trivial)) z<|by kernel_rfl
  ·obtain rfl:=lf h
   have z:=p2<|sg 0 c1<|bU (eu.ln s1)<|cY (e:=.exit 0) (s1:=gM (.inr o8)) (tH s1 s2 (s1.length:Int) 0 bo8)<|en (aI (rP (.bool true))<|trivial)
   exact cH Tm call77 func77 (c:=Ua) rfl (aI (am bO s1) (aI (am bO s2) trivial)) z<|by kernel_rfl
abbrev oC:=(aj->aj->Option Bool)
abbrev ul(R:oC):Prop:=∀(a:aj) (a2:aj) (r:Bool),R a a2=some r->CC Pg GE 123 [.agg (al a),.agg (al a2)] (.bool r) []
noncomputable def PE:Code:=f152.body.getD .skip
def N4:List Nat:=[17]
section
variable(R92:oC)(v:waB)(v2:waB)(t14:Int)(t15:Int)
def kH:aA:=bg 30 [(0,sl al v),(1,sl al v2),(2,.func (.func 123) [] []),(14,.int .i64 t14),(15,.int .i64 t15)] [] []
def kI(o:Unit⊕(Unit)):Exit:=match o with
 |(.inl _)=>.ret
 |(.inr _)=>.exit 0
def iY(o:Unit⊕(Unit)):aA:=match o with
 |(.inl o)=>bg 30 [(6,.bool false)] [] []
 |(.inr o)=>bg 30 [] [] []
def xS:Option (Int⊕(Unit⊕(Unit))):=
 if(decide (t15<t14))=true then
  (fJ v t15).bind fun x4=>
  (fJ v2 t15).bind fun x5=>
  (R92 x4 x5).bind fun r6=>
  if(!r6)=true then
   some (.inr (.inl ()))
  else
   some (.inl (ca (t15+1)))
 else
  some (.inr (.inr ()))
def BC:Option (Unit⊕(Unit)):=loop (fun(zz:Int)=>xS R92 v v2 t14 zz) t15
theorem DI(hR92:ul R92){y:Int⊕(Unit⊕(Unit))}(h:xS R92 v v2 t14 t15=some y):aQ Pg GE 0 (cA PE 119) (LQ (fun(zz:Int)=>kH v v2 t14 zz) kI iY y) (kH v v2 t14 t15):=by
 rcases aN h with⟨c3,h⟩|⟨c3,h⟩
 ·obtain⟨x4,bx4,h⟩:=aG h
  obtain⟨x5,bx5,h⟩:=aG h
  obtain⟨r6,br6,h⟩:=aG h
  have p8:=fun{sc F} (r:PS sc F)=>sg 0 c3<|IY [0,0,0,6,14,0,0,96,224,511,1023]<|sv (nb.ia (k:=.i64) bx4)<|sv (pu x4)<|sv (nb.ia (k:=.i64) bx5)<|sv (pu x5)<|du (hR92 _ _ _ br6)<|r
  rcases aN h with⟨c7,h⟩|⟨c7,h⟩
  ·obtain rfl:=lf h
   have z:=p8<|sg 0 c7<|eF (kI (.inl ())) (iY (.inl ()))
   exact iI N4 (by intro hx;cases hx) z<|by kernel_rfl
  ·obtain rfl:=lf h
   exact yz N4 (p8<|sg 0 c7<|eF .normal (kH v v2 t14 (ca (t15+1))))<|by kernel_rfl
 ·obtain rfl:=lf h
  have z:=sg 0 c3<|eF (kI (.inr ())) (iY (.inr ()))
  exact iI N4 (by intro hx;cases hx) z<|by kernel_rfl
theorem wm(hR92:ul R92){x:Unit⊕(Unit)}(h:BC R92 v v2 t14 t15=some x):aQ Pg GE 0 (.loop (cA PE 119)) (EX (kI x) (iY x)) (kH v v2 t14 t15):=
 aQ.loop (S:=fun(zz:Int)=>kH v v2 t14 zz) (ex:=kI) (s:=t15) h fun zz y hy=>DI R92 v v2 t14 zz hR92 hy
end
def HP(R92:oC)(a:waB)(a2:waB):Option Bool:=
 if((a.length:Int)!=(a2.length:Int))=true then
  some false
 else
  (BC R92 a a2 (a.length:Int) 0).bind fun o9=>match o9 with
  |(.inl o9)=>
   some false
  |(.inr o9)=>
   some true
theorem IU(R92:oC)(hR92:ul R92){a:waB}{a2:waB}{r:Bool}(h:HP R92 a a2=some r):CC Pg GE 152 [sl al a,sl al a2,.func (.func 123) [] []] (.bool r) []:=by
 have p2:=fun{sc F} (r:PS sc F)=>bU (nb.ln a)<|bU (nb.ln a2)<|r
 rcases aN h with⟨c1,h⟩|⟨c1,h⟩
 ·obtain rfl:=lf h
  have z:=p2<|sg 0 c1<|en (aI (rP (.bool false))<|trivial)
  exact cH N4 call152 func152 (c:=PE) rfl (aI (am aS a) (aI (am aS a2) (aI (aI trivial trivial) trivial))) z<|by kernel_rfl
 ·obtain⟨o9,bo9,h⟩:=aG h
  rcases o9 with o9|o9
  ·obtain rfl:=lf h
   have z:=p2<|sg 0 c1<|bU (nb.ln a)<|cY (e:=.ret) (s1:=iY (.inl o9)) (wm R92 a a2 (a.length:Int) 0 hR92 bo9)<|en (aI (rP (.bool false))<|trivial)
   exact cH N4 call152 func152 (c:=PE) rfl (aI (am aS a) (aI (am aS a2) (aI (aI trivial trivial) trivial))) z<|by kernel_rfl
  ·obtain rfl:=lf h
   have z:=p2<|sg 0 c1<|bU (nb.ln a)<|cY (e:=.exit 0) (s1:=iY (.inr o9)) (wm R92 a a2 (a.length:Int) 0 hR92 bo9)<|en (aI (rP (.bool true))<|trivial)
   exact cH N4 call152 func152 (c:=PE) rfl (aI (am aS a) (aI (am aS a2) (aI (aI trivial trivial) trivial))) z<|by kernel_rfl
noncomputable def Re:Code:=f123.body.getD .skip
def Q4:List Nat:=[]
def Fu(R92:oC)(a:aj)(a2:aj):Option Bool:=
 if (a.Op == a2.Op) = true then
  if(a.Name==a2.Name)=true then
   if(a.N==a2.N)=true then
    (HP R92 a.Kids a2.Kids).bind fun r7=>
    some r7
   else
    some false
  else
   some false
 else
  some false
theorem IT(R92:oC)(hR92:ul R92){a:aj}{a2:aj}{r:Bool}(h:Fu R92 a a2=some r):CC Pg GE 123 [.agg (al a),.agg (al a2)] (.bool r) []:=by
 have p2:=fun{sc F} (r:PS sc F)=>se (DD a)<|se (DD a2)<|sv (qR a)<|sv (qT a)<|sv (qR a2)<|sv (qT a2)<|r
 rcases aN h with⟨c1,h⟩|⟨c1,h⟩
 ·have p4:=fun{sc F} (r:PS sc F)=>p2<|sg 6 c1<|sv (nC a)<|sv (pr a)<|sv (nC a2)<|sv (pr a2)<|r
  rcases aN h with⟨c3,h⟩|⟨c3,h⟩
  ·have p6:=fun{sc F} (r:PS sc F)=>p4<|sg 13 c3<|sv (qS a)<|sv (sP a)<|sv (qS a2)<|sv (sP a2)<|r
   rcases aN h with⟨c5,h⟩|⟨c5,h⟩
   ·obtain⟨r7,br7,h⟩:=aG h
    obtain rfl:=lf h
    have z:=p6<|sg 20 c5<|sv (gh a)<|sv (gk a)<|sv (gh a2)<|sv (gk a2)<|du (IU R92 hR92 br7)<|en (aI (rP (.bool r7))<|trivial)
    exact cH Q4 call123 func123 (c:=Re) rfl (aI (aS a) (aI (aS a2) trivial)) z<|by kernel_rfl
   ·obtain rfl:=lf h
    have z:=p6<|sg 20 c5<|en (aI (rP (.bool false))<|trivial)
    exact cH Q4 call123 func123 (c:=Re) rfl (aI (aS a) (aI (aS a2) trivial)) z<|by kernel_rfl
  ·obtain rfl:=lf h
   have z:=p4<|sg 13 c3<|en (aI (rP (.bool false))<|trivial)
   exact cH Q4 call123 func123 (c:=Re) rfl (aI (aS a) (aI (aS a2) trivial)) z<|by kernel_rfl
 ·obtain rfl:=lf h
  have z:=p2<|sg 6 c1<|en (aI (rP (.bool false))<|trivial)
  exact cH Q4 call123 func123 (c:=Re) rfl (aI (aS a) (aI (aS a2) trivial)) z<|by kernel_rfl
def Fv:((aj×aj)->Option Bool)->(aj×aj)->Option Bool:=fun(rec:(aj×aj)->Option Bool) (x:aj×aj)=>Fu (fun a a2=>rec (a,a2)) x.1 x.2
def EQ(a:aj)(a2:aj):Option Bool:=uc Fv (a,a2)
theorem DH{a:aj}{a2:aj}{r:Bool}(h:EQ a a2=some r):CC Pg GE 123 [.agg (al a),.agg (al a2)] (.bool r) []:=
 fk (F:=Fv) (M:=fun(x:aj×aj) (r:Bool)=>CC Pg GE 123 [.agg (al x.1),.agg (al x.2)] (.bool r) []) (fun rec hrec x r h=>IT _ (fun a a2 r h=>hrec (a,a2) r h) h) h
noncomputable def PD:Code:=f124.body.getD .skip
def N3:List Nat:=[19]
section
variable(s2:waB)(t15:waB)(t16:Int)(t17:Int)
def fL:aA:=bg 32 [(1,sl al s2),(2,.func (.func 123) [] []),(15,sl al t15),(16,.int .i64 t16),(17,.int .i64 t17)] [] []
def fM(o:Unit⊕(Unit)):Exit:=match o with
 |(.inl _)=>.ret
 |(.inr _)=>.exit 0
def ez(o:Unit⊕(Unit)):aA:=match o with
 |(.inl o)=>bg 32 [(6,.bool false)] [] []
 |(.inr o)=>bg 32 [] [] []
def qj:Option (Int⊕(Unit⊕(Unit))):=
 if(decide (t17<t16))=true then
  (fJ t15 t17).bind fun x4=>
  (fJ s2 t17).bind fun x5=>
  (EQ x4 x5).bind fun r6=>
  if(!r6)=true then
   some (.inr (.inl ()))
  else
   some (.inl (ca (t17+1)))
 else
  some (.inr (.inr ()))
def sn:Option (Unit⊕(Unit)):=loop (fun(zz:Int)=>qj s2 t15 t16 zz) t17
theorem wo{y:Int⊕(Unit⊕(Unit))}(h:qj s2 t15 t16 t17=some y):aQ Pg GE 0 (cA PD 119) (LQ (fun(zz:Int)=>fL s2 t15 t16 zz) fM ez y) (fL s2 t15 t16 t17):=by
 rcases aN h with⟨c3,h⟩|⟨c3,h⟩
 ·obtain⟨x4,bx4,h⟩:=aG h
  obtain⟨x5,bx5,h⟩:=aG h
  obtain⟨r6,br6,h⟩:=aG h
  have p8:=fun{sc F} (r:PS sc F)=>sg 0 c3<|sv (nb.ia (k:=.i64) bx4)<|sv (pu x4)<|sx R0<|sx (Aw x4)<|sv (nb.ia (k:=.i64) bx5)<|sv (pu x5)<|sx R0<|sx (Aw x5)<|sv (vV x4 [])<|sv (vV x5 [])<|du (DH br6)<|r
  rcases aN h with⟨c7,h⟩|⟨c7,h⟩
  ·obtain rfl:=lf h
   have z:=p8<|sg 0 c7<|rx 0 (fM (.inl ())) (ez (.inl ())) rfl (dv (aI trivial trivial)) trivial
   exact mZ (A:=N3) mixed (by intro hx;cases hx) z<|by kernel_rfl
  ·obtain rfl:=lf h
   have z:=p8<|sg 0 c7<|rx 0 .normal (fL s2 t15 t16 (ca (t17+1))) rfl (dv (aI (up (am aS s2)) (aI (aI trivial trivial) (aI (up (am aS t15)) (aI trivial (aI trivial trivial)))))) trivial
   exact d4 (A:=N3) mixed z<|by kernel_rfl
 ·obtain rfl:=lf h
  have z:=sg 0 c3<|eF (fM (.inr ())) (ez (.inr ()))
  exact iI N3 (by intro hx;cases hx) z<|by kernel_rfl
theorem pD{x:Unit⊕(Unit)}(h:sn s2 t15 t16 t17=some x):aQ Pg GE 0 (.loop (cA PD 119)) (EX (fM x) (ez x)) (fL s2 t15 t16 t17):=
 aQ.loop (S:=fun(zz:Int)=>fL s2 t15 t16 zz) (ex:=fM) (s:=t17) h fun zz y hy=>wo s2 t15 t16 zz hy
end
def wn(s1:waB)(s2:waB):Option Bool:=
 if((s1.length:Int)!=(s2.length:Int))=true then
  some false
 else
  (sn s2 s1 (s1.length:Int) 0).bind fun o9=>match o9 with
  |(.inl o9)=>
   some false
  |(.inr o9)=>
   some true
theorem AR{s1:waB}{s2:waB}{r:Bool}(h:wn s1 s2=some r):CC Pg GE 124 [sl al s1,sl al s2,.func (.func 123) [] []] (.bool r) []:=by
 have p2:=fun{sc F} (r:PS sc F)=>bU (nb.ln s1)<|bU (nb.ln s2)<|r
 rcases aN h with⟨c1,h⟩|⟨c1,h⟩
 ·obtain rfl:=lf h
  have z:=p2<|sg 0 c1<|en (aI (rP (.bool false))<|trivial)
  exact cH N3 call124 func124 (c:=PD) rfl (aI (am aS s1) (aI (am aS s2) (aI (aI trivial trivial) trivial))) z<|by kernel_rfl
 ·obtain⟨o9,bo9,h⟩:=aG h
  rcases o9 with o9|o9
  ·obtain rfl:=lf h
   have z:=p2<|sg 0 c1<|bU (nb.ln s1)<|cY (e:=.ret) (s1:=ez (.inl o9)) (pD s2 s1 (s1.length:Int) 0 bo9)<|en (aI (rP (.bool false))<|trivial)
   exact cH N3 call124 func124 (c:=PD) rfl (aI (am aS s1) (aI (am aS s2) (aI (aI trivial trivial) trivial))) z<|by kernel_rfl
  ·obtain rfl:=lf h
   have z:=p2<|sg 0 c1<|bU (nb.ln s1)<|cY (e:=.exit 0) (s1:=ez (.inr o9)) (pD s2 s1 (s1.length:Int) 0 bo9)<|en (aI (rP (.bool true))<|trivial)
   exact cH N3 call124 func124 (c:=PD) rfl (aI (am aS s1) (aI (am aS s2) (aI (aI trivial trivial) trivial))) z<|by kernel_rfl
noncomputable def T9:Code:=f71.body.getD .skip
def Tk:List Nat:=[19]
section
variable(R90:gK)(s2:waC)(t15:waC)(t16:Int)(t17:Int)
def df:aA:=bg 32 [(1,sl ai s2),(2,.func (.func 72) [] []),(15,sl ai t15),(16,.int .i64 t16),(17,.int .i64 t17)] [] []
def dg(o:Unit⊕(Unit)):Exit:=match o with
 |(.inl _)=>.ret
 |(.inr _)=>.exit 0
def cy(o:Unit⊕(Unit)):aA:=match o with
 |(.inl o)=>bg 32 [(6,.bool false)] [] []
 |(.inr o)=>bg 32 [] [] []
def jV:Option (Int⊕(Unit⊕(Unit))):=
 if(decide (t17<t16))=true then
  (fJ t15 t17).bind fun x4=>
  (fJ s2 t17).bind fun x5=>
  (R90 x4 x5).bind fun r6=>
  if(!r6)=true then
   some (.inr (.inl ()))
  else
   some (.inl (ca (t17+1)))
 else
  some (.inr (.inr ()))
def kL:Option (Unit⊕(Unit)):=loop (fun(zz:Int)=>jV R90 s2 t15 t16 zz) t17
theorem pE(hR90:lH R90){y:Int⊕(Unit⊕(Unit))}(h:jV R90 s2 t15 t16 t17=some y):aQ Pg GE 0 (cA T9 119) (LQ (fun(zz:Int)=>df s2 t15 t16 zz) dg cy y) (df s2 t15 t16 t17):=by
 rcases aN h with⟨c3,h⟩|⟨c3,h⟩
 ·obtain⟨x4,bx4,h⟩:=aG h
  obtain⟨x5,bx5,h⟩:=aG h
  obtain⟨r6,br6,h⟩:=aG h
  have p8:=fun{sc F} (r:PS sc F)=>sg 0 c3<|sv (d5.ia (k:=.i64) bx4)<|sv (ku x4)<|sx Na<|sx (qB x4)<|sv (d5.ia (k:=.i64) bx5)<|sv (ku x5)<|sx Na<|sx (qB x5)<|sv (jO x4 [])<|sv (jO x5 [])<|du (hR90 _ _ _ br6)<|r
  rcases aN h with⟨c7,h⟩|⟨c7,h⟩
  ·obtain rfl:=lf h
   have z:=p8<|sg 0 c7<|rx 0 (dg (.inl ())) (cy (.inl ())) rfl (dv (aI trivial trivial)) trivial
   exact mZ (A:=Tk) mixed (by intro hx;cases hx) z<|by kernel_rfl
  ·obtain rfl:=lf h
   have z:=p8<|sg 0 c7<|rx 0 .normal (df s2 t15 t16 (ca (t17+1))) rfl (dv (aI (up (am aE s2)) (aI (aI trivial trivial) (aI (up (am aE t15)) (aI trivial (aI trivial trivial)))))) trivial
   exact d4 (A:=Tk) mixed z<|by kernel_rfl
 ·obtain rfl:=lf h
  have z:=sg 0 c3<|eF (dg (.inr ())) (cy (.inr ()))
  exact iI Tk (by intro hx;cases hx) z<|by kernel_rfl
theorem jC(hR90:lH R90){x:Unit⊕(Unit)}(h:kL R90 s2 t15 t16 t17=some x):aQ Pg GE 0 (.loop (cA T9 119)) (EX (dg x) (cy x)) (df s2 t15 t16 t17):=
 aQ.loop (S:=fun(zz:Int)=>df s2 t15 t16 zz) (ex:=dg) (s:=t17) h fun zz y hy=>pE R90 s2 t15 t16 zz hR90 hy
end
def mP(R90:gK)(s1:waC)(s2:waC):Option Bool:=
 if((s1.length:Int)!=(s2.length:Int))=true then
  some false
 else
  (kL R90 s2 s1 (s1.length:Int) 0).bind fun o9=>match o9 with
  |(.inl o9)=>
   some false
  |(.inr o9)=>
   some true
theorem rG(R90:gK)(hR90:lH R90){s1:waC}{s2:waC}{r:Bool}(h:mP R90 s1 s2=some r):CC Pg GE 71 [sl ai s1,sl ai s2,.func (.func 72) [] []] (.bool r) []:=by
 have p2:=fun{sc F} (r:PS sc F)=>bU (d5.ln s1)<|bU (d5.ln s2)<|r
 rcases aN h with⟨c1,h⟩|⟨c1,h⟩
 ·obtain rfl:=lf h
  have z:=p2<|sg 0 c1<|en (aI (rP (.bool false))<|trivial)
  exact cH Tk call71 func71 (c:=T9) rfl (aI (am aE s1) (aI (am aE s2) (aI (aI trivial trivial) trivial))) z<|by kernel_rfl
 ·obtain⟨o9,bo9,h⟩:=aG h
  rcases o9 with o9|o9
  ·obtain rfl:=lf h
   have z:=p2<|sg 0 c1<|bU (d5.ln s1)<|cY (e:=.ret) (s1:=cy (.inl o9)) (jC R90 s2 s1 (s1.length:Int) 0 hR90 bo9)<|en (aI (rP (.bool false))<|trivial)
   exact cH Tk call71 func71 (c:=T9) rfl (aI (am aE s1) (aI (am aE s2) (aI (aI trivial trivial) trivial))) z<|by kernel_rfl
  ·obtain rfl:=lf h
   have z:=p2<|sg 0 c1<|bU (d5.ln s1)<|cY (e:=.exit 0) (s1:=cy (.inr o9)) (jC R90 s2 s1 (s1.length:Int) 0 hR90 bo9)<|en (aI (rP (.bool true))<|trivial)
   exact cH Tk call71 func71 (c:=T9) rfl (aI (am aE s1) (aI (am aE s2) (aI (aI trivial trivial) trivial))) z<|by kernel_rfl
noncomputable def Tr:Code:=f72.body.getD .skip
def Tl:List Nat:=[]
def u3(R90:gK)(a:ah)(a2:ah):Option Bool:=
 if (a.Op == a2.Op) = true then
  if (a.Name == a2.Name) = true then
   (DQ a.Names a2.Names).bind fun r5=>
   if r5=true then
    (EQ a.Pred a2.Pred).bind fun r8=>
    if r8=true then
     (wn a.Preds a2.Preds).bind fun r11=>
     if r11=true then
      (mP R90 a.Args a2.Args).bind fun r14=>
      some r14
     else
      some false
    else
     some false
   else
    some false
  else
   some false
 else
  some false
theorem A8(R90:gK)(hR90:lH R90){a:ah}{a2:ah}{r:Bool}(h:u3 R90 a a2=some r):CC Pg GE 72 [.agg (ai a),.agg (ai a2)] (.bool r) []:=by
 have p2:=fun{sc F} (r:PS sc F)=>se (py a)<|se (py a2)<|sv (cN a)<|sv (cO a)<|sv (cN a2)<|sv (cO a2)<|r
 rcases aN h with⟨c1,h⟩|⟨c1,h⟩
 ·have p4:=fun{sc F} (r:PS sc F)=>p2<|sg 6 c1<|sv (gi a)<|sv (g9 a)<|sv (gi a2)<|sv (g9 a2)<|r
  rcases aN h with⟨c3,h⟩|⟨c3,h⟩
  ·obtain⟨r5,br5,h⟩:=aG h
   have p7:=fun{sc F} (r:PS sc F)=>p4<|sg 13 c3<|sv (eA a)<|sv (eC a)<|sv (eA a2)<|sv (eC a2)<|du (Gf br5)<|r
   rcases aN h with⟨c6,h⟩|⟨c6,h⟩
   ·obtain⟨r8,br8,h⟩:=aG h
    have p10:=fun{sc F} (r:PS sc F)=>p7<|sg 20 c6<|sv (nD a)<|sv (nG a)<|sv (nD a2)<|sv (nG a2)<|du (DH br8)<|r
    rcases aN h with⟨c9,h⟩|⟨c9,h⟩
    ·obtain⟨r11,br11,h⟩:=aG h
     have p13:=fun{sc F} (r:PS sc F)=>p10<|sg 27 c9<|sv (hX a)<|sv (ib a)<|sv (hX a2)<|sv (ib a2)<|du (AR br11)<|r
     rcases aN h with⟨c12,h⟩|⟨c12,h⟩
     ·obtain⟨r14,br14,h⟩:=aG h
      obtain rfl:=lf h
      have z:=p13<|sg 34 c12<|sv (dy a)<|sv (dz a)<|sv (dy a2)<|sv (dz a2)<|du (rG R90 hR90 br14)<|en (aI (rP (.bool r14))<|trivial)
      exact cH Tl call72 func72 (c:=Tr) rfl (aI (aE a) (aI (aE a2) trivial)) z<|by kernel_rfl
     ·obtain rfl:=lf h
      have z:=p13<|sg 34 c12<|en (aI (rP (.bool false))<|trivial)
      exact cH Tl call72 func72 (c:=Tr) rfl (aI (aE a) (aI (aE a2) trivial)) z<|by kernel_rfl
    ·obtain rfl:=lf h
     have z:=p10<|sg 27 c9<|en (aI (rP (.bool false))<|trivial)
     exact cH Tl call72 func72 (c:=Tr) rfl (aI (aE a) (aI (aE a2) trivial)) z<|by kernel_rfl
   ·obtain rfl:=lf h
    have z:=p7<|sg 20 c6<|en (aI (rP (.bool false))<|trivial)
    exact cH Tl call72 func72 (c:=Tr) rfl (aI (aE a) (aI (aE a2) trivial)) z<|by kernel_rfl
  ·obtain rfl:=lf h
   have z:=p4<|sg 13 c3<|en (aI (rP (.bool false))<|trivial)
   exact cH Tl call72 func72 (c:=Tr) rfl (aI (aE a) (aI (aE a2) trivial)) z<|by kernel_rfl
 ·obtain rfl:=lf h
  have z:=p2<|sg 6 c1<|en (aI (rP (.bool false))<|trivial)
  exact cH Tl call72 func72 (c:=Tr) rfl (aI (aE a) (aI (aE a2) trivial)) z<|by kernel_rfl
def u4:((ah×ah)->Option Bool)->(ah×ah)->Option Bool:=fun(rec:(ah×ah)->Option Bool) (x:ah×ah)=>u3 (fun a a2=>rec (a,a2)) x.1 x.2
def yf(a:ah)(a2:ah):Option Bool:=uc u4 (a,a2)
theorem CM{a:ah}{a2:ah}{r:Bool}(h:yf a a2=some r):CC Pg GE 72 [.agg (ai a),.agg (ai a2)] (.bool r) []:=
 fk (F:=u4) (M:=fun(x:ah×ah) (r:Bool)=>CC Pg GE 72 [.agg (ai x.1),.agg (ai x.2)] (.bool r) []) (fun rec hrec x r h=>A8 _ (fun a a2 r h=>hrec (a,a2) r h) h) h
noncomputable def Vn:Code:=f121.body.getD .skip
def U8:List Nat:=[]
def FA(t:ah):Option Bool:=
 (yf t (⟨0,([]:ae),([]:List ah),([]:List ae),(⟨0,([]:ae),0,([]:List aj)⟩:aj),([]:List aj)⟩:ah)).bind fun r1=>
 some r1
theorem H4{t:ah}{r:Bool}(h:FA t=some r):CC Pg GE 121 [.agg (ai t)] (.bool r) []:=by
 obtain⟨r1,br1,h⟩:=aG h
 obtain rfl:=lf h
 have z:=se (py t)<|sv (ku t)<|sb (Mx) (Mw)<|du (CM br1)<|en (aI (rP (.bool r1))<|trivial)
 exact cH U8 call121 func121 (c:=Vn) rfl (aI (aE t) trivial) z<|by kernel_rfl
end Go.Proofs.YtkdahfeiedaahaaGreatDoor
