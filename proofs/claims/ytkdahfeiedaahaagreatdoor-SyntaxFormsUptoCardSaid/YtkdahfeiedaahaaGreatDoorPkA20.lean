/- PROVED: a part of the proof. Conditions: none. -/
import Derived.Test.YtkdahfeiedaahaaGreatDoorPkA19
import Derived.Test.YtkdahfeiedaahaaGreatDoorPkA9
import Derived.Test.YtkdahfeiedaahaaGreatDoorPkA8
noncomputable section
namespace Go.Proofs.YtkdahfeiedaahaaGreatDoor
open Go Go.Proofs.Tryz
set_option linter.unusedVariables false
set_option maxRecDepth 100000
noncomputable def Qe:Code:=f210.body.getD .skip
def lm:List Nat:=[]
section
variable(t:ak)
def NW:aB:=aZ 113 [(1,.eptr (aj t))] [.dead] []
def bJ(o:Bool):aB:=aZ 113 [(1,.eptr (aj t)),(52,.bool o)] [.dead] []
def ma:Option Bool:=
 if(decide (t.Op<1))=true then
  some true
 else
  if(decide (t.Op>6))=true then
   some true
  else
   if (!(t.Name == ([]:ah))) = true then
    if (t.Op != 4) = true then
     if(t.Op !=5)=true then
      some true
     else
      if (decide ((t.Args.length:Int) > 0)) = true then
       if (t.Op != 4) = true then
        if(t.Op !=6)=true then
         some true
        else
         if(decide ((t.Names.length:Int)>0))=true then
          some (t.Op !=6)
         else
          some false
       else
        if(decide ((t.Names.length:Int)>0))=true then
         some (t.Op !=6)
        else
         some false
      else
       if(decide ((t.Names.length:Int)>0))=true then
        some (t.Op !=6)
       else
        some false
    else
     if (decide ((t.Args.length:Int) > 0)) = true then
      if (t.Op != 4) = true then
       if(t.Op !=6)=true then
        some true
       else
        if(decide ((t.Names.length:Int)>0))=true then
         some (t.Op !=6)
        else
         some false
      else
       if(decide ((t.Names.length:Int)>0))=true then
        some (t.Op !=6)
       else
        some false
     else
      if(decide ((t.Names.length:Int)>0))=true then
       some (t.Op !=6)
      else
       some false
   else
    if (decide ((t.Args.length:Int) > 0)) = true then
     if (t.Op != 4) = true then
      if(t.Op !=6)=true then
       some true
      else
       if(decide ((t.Names.length:Int)>0))=true then
        some (t.Op !=6)
       else
        some false
     else
      if(decide ((t.Names.length:Int)>0))=true then
       some (t.Op !=6)
      else
       some false
    else
     if(decide ((t.Names.length:Int)>0))=true then
      some (t.Op !=6)
     else
      some false
theorem L9{x:Bool}(h:ma t=some x):aU Pg GE 0 (cA Qe 12) (EX .normal (bJ t x)) (NW t):=by
 have p2:=fun{sc F} (r:PS sc F)=>sv (aR t)<|sv (aS t)<|r
 rcases aH h with⟨c1,h⟩|⟨c1,h⟩
 ·obtain rfl:=lf h
  exact aY lm (p2<|sg 4 c1<|eF .normal (bJ t true))<|by kernel_rfl
 ·have p4:=fun{sc F} (r:PS sc F)=>p2<|sg 4 c1<|sv (aR t)<|sv (aS t)<|r
  rcases aH h with⟨c3,h⟩|⟨c3,h⟩
  ·obtain rfl:=lf h
   exact aY lm (p4<|sg 9 c3<|eF .normal (bJ t true))<|by kernel_rfl
  ·have p6:=fun{sc F} (r:PS sc F)=>p4<|sg 9 c3<|sv (er t)<|sv (e8 t)<|r
   rcases aH h with⟨c5,h⟩|⟨c5,h⟩
   ·have p8:=fun{sc F} (r:PS sc F)=>p6<|sg 13 c5<|sv (aR t)<|sv (aS t)<|r
    rcases aH h with⟨c7,h⟩|⟨c7,h⟩
    ·have p10:=fun{sc F} (r:PS sc F)=>p8<|sg 18 c7<|sv (aR t)<|sv (aS t)<|r
     rcases aH h with⟨c9,h⟩|⟨c9,h⟩
     ·obtain rfl:=lf h
      exact aY lm (p10<|sg 24 c9<|eF .normal (bJ t true))<|by kernel_rfl
     ·have p12:=fun{sc F} (r:PS sc F)=>p10<|sg 24 c9<|sv (bO t)<|sv (bP t)<|bF (db.ln t.Args)<|r
      rcases aH h with⟨c11,h⟩|⟨c11,h⟩
      ·have p14:=fun{sc F} (r:PS sc F)=>p12<|sg 29 c11<|sv (aR t)<|sv (aS t)<|r
       rcases aH h with⟨c13,h⟩|⟨c13,h⟩
       ·have p16:=fun{sc F} (r:PS sc F)=>p14<|sg 34 c13<|sv (aR t)<|sv (aS t)<|r
        rcases aH h with⟨c15,h⟩|⟨c15,h⟩
        ·obtain rfl:=lf h
         exact aY lm (p16<|sg 40 c15<|eF .normal (bJ t true))<|by kernel_rfl
        ·have p18:=fun{sc F} (r:PS sc F)=>p16<|sg 40 c15<|sv (b8 t)<|sv (b9 t)<|bF (cO.ln t.Names)<|r
         rcases aH h with⟨c17,h⟩|⟨c17,h⟩
         ·obtain rfl:=lf h
          exact aY lm (p18<|sg 45 c17<|sv (aR t)<|sv (aS t)<|eF .normal (bJ t (t.Op !=6)))<|by kernel_rfl
         ·obtain rfl:=lf h
          exact aY lm (p18<|sg 45 c17<|eF .normal (bJ t false))<|by kernel_rfl
       ·have p20:=fun{sc F} (r:PS sc F)=>p14<|sg 34 c13<|sv (b8 t)<|sv (b9 t)<|bF (cO.ln t.Names)<|r
        rcases aH h with⟨c19,h⟩|⟨c19,h⟩
        ·obtain rfl:=lf h
         exact aY lm (p20<|sg 45 c19<|sv (aR t)<|sv (aS t)<|eF .normal (bJ t (t.Op !=6)))<|by kernel_rfl
        ·obtain rfl:=lf h
         exact aY lm (p20<|sg 45 c19<|eF .normal (bJ t false))<|by kernel_rfl
      ·have p22:=fun{sc F} (r:PS sc F)=>p12<|sg 29 c11<|sv (b8 t)<|sv (b9 t)<|bF (cO.ln t.Names)<|r
       rcases aH h with⟨c21,h⟩|⟨c21,h⟩
       ·obtain rfl:=lf h
        exact aY lm (p22<|sg 45 c21<|sv (aR t)<|sv (aS t)<|eF .normal (bJ t (t.Op !=6)))<|by kernel_rfl
       ·obtain rfl:=lf h
        exact aY lm (p22<|sg 45 c21<|eF .normal (bJ t false))<|by kernel_rfl
    ·have p24:=fun{sc F} (r:PS sc F)=>p8<|sg 18 c7<|sv (bO t)<|sv (bP t)<|bF (db.ln t.Args)<|r
     rcases aH h with⟨c23,h⟩|⟨c23,h⟩
     ·have p26:=fun{sc F} (r:PS sc F)=>p24<|sg 29 c23<|sv (aR t)<|sv (aS t)<|r
      rcases aH h with⟨c25,h⟩|⟨c25,h⟩
      ·have p28:=fun{sc F} (r:PS sc F)=>p26<|sg 34 c25<|sv (aR t)<|sv (aS t)<|r
       rcases aH h with⟨c27,h⟩|⟨c27,h⟩
       ·obtain rfl:=lf h
        exact aY lm (p28<|sg 40 c27<|eF .normal (bJ t true))<|by kernel_rfl
       ·have p30:=fun{sc F} (r:PS sc F)=>p28<|sg 40 c27<|sv (b8 t)<|sv (b9 t)<|bF (cO.ln t.Names)<|r
        rcases aH h with⟨c29,h⟩|⟨c29,h⟩
        ·obtain rfl:=lf h
         exact aY lm (p30<|sg 45 c29<|sv (aR t)<|sv (aS t)<|eF .normal (bJ t (t.Op !=6)))<|by kernel_rfl
        ·obtain rfl:=lf h
         exact aY lm (p30<|sg 45 c29<|eF .normal (bJ t false))<|by kernel_rfl
      ·have p32:=fun{sc F} (r:PS sc F)=>p26<|sg 34 c25<|sv (b8 t)<|sv (b9 t)<|bF (cO.ln t.Names)<|r
       rcases aH h with⟨c31,h⟩|⟨c31,h⟩
       ·obtain rfl:=lf h
        exact aY lm (p32<|sg 45 c31<|sv (aR t)<|sv (aS t)<|eF .normal (bJ t (t.Op !=6)))<|by kernel_rfl
       ·obtain rfl:=lf h
        exact aY lm (p32<|sg 45 c31<|eF .normal (bJ t false))<|by kernel_rfl
     ·have p34:=fun{sc F} (r:PS sc F)=>p24<|sg 29 c23<|sv (b8 t)<|sv (b9 t)<|bF (cO.ln t.Names)<|r
      rcases aH h with⟨c33,h⟩|⟨c33,h⟩
      ·obtain rfl:=lf h
       exact aY lm (p34<|sg 45 c33<|sv (aR t)<|sv (aS t)<|eF .normal (bJ t (t.Op !=6)))<|by kernel_rfl
      ·obtain rfl:=lf h
       exact aY lm (p34<|sg 45 c33<|eF .normal (bJ t false))<|by kernel_rfl
   ·have p36:=fun{sc F} (r:PS sc F)=>p6<|sg 13 c5<|sv (bO t)<|sv (bP t)<|bF (db.ln t.Args)<|r
    rcases aH h with⟨c35,h⟩|⟨c35,h⟩
    ·have p38:=fun{sc F} (r:PS sc F)=>p36<|sg 29 c35<|sv (aR t)<|sv (aS t)<|r
     rcases aH h with⟨c37,h⟩|⟨c37,h⟩
     ·have p40:=fun{sc F} (r:PS sc F)=>p38<|sg 34 c37<|sv (aR t)<|sv (aS t)<|r
      rcases aH h with⟨c39,h⟩|⟨c39,h⟩
      ·obtain rfl:=lf h
       exact aY lm (p40<|sg 40 c39<|eF .normal (bJ t true))<|by kernel_rfl
      ·have p42:=fun{sc F} (r:PS sc F)=>p40<|sg 40 c39<|sv (b8 t)<|sv (b9 t)<|bF (cO.ln t.Names)<|r
       rcases aH h with⟨c41,h⟩|⟨c41,h⟩
       ·obtain rfl:=lf h
        exact aY lm (p42<|sg 45 c41<|sv (aR t)<|sv (aS t)<|eF .normal (bJ t (t.Op !=6)))<|by kernel_rfl
       ·obtain rfl:=lf h
        exact aY lm (p42<|sg 45 c41<|eF .normal (bJ t false))<|by kernel_rfl
     ·have p44:=fun{sc F} (r:PS sc F)=>p38<|sg 34 c37<|sv (b8 t)<|sv (b9 t)<|bF (cO.ln t.Names)<|r
      rcases aH h with⟨c43,h⟩|⟨c43,h⟩
      ·obtain rfl:=lf h
       exact aY lm (p44<|sg 45 c43<|sv (aR t)<|sv (aS t)<|eF .normal (bJ t (t.Op !=6)))<|by kernel_rfl
      ·obtain rfl:=lf h
       exact aY lm (p44<|sg 45 c43<|eF .normal (bJ t false))<|by kernel_rfl
    ·have p46:=fun{sc F} (r:PS sc F)=>p36<|sg 29 c35<|sv (b8 t)<|sv (b9 t)<|bF (cO.ln t.Names)<|r
     rcases aH h with⟨c45,h⟩|⟨c45,h⟩
     ·obtain rfl:=lf h
      exact aY lm (p46<|sg 45 c45<|sv (aR t)<|sv (aS t)<|eF .normal (bJ t (t.Op !=6)))<|by kernel_rfl
     ·obtain rfl:=lf h
      exact aY lm (p46<|sg 45 c45<|eF .normal (bJ t false))<|by kernel_rfl
end
section
variable(t:ak)
def NX:aB:=aZ 113 [(1,.eptr (aj t))] [.dead] []
def Az(o:Bool):aB:=aZ 113 [(1,.eptr (aj t)),(61,.bool o)] [.dead] []
def mb:Option Bool:=
 if(t.Op==4)=true then
  some (decide ((t.Args.length:Int)>6))
 else
  some false
theorem Ma{x:Bool}(h:mb t=some x):aU Pg GE 0 (cA Qe 28) (EX .normal (Az t x)) (NX t):=by
 have p51:=fun{sc F} (r:PS sc F)=>sv (aR t)<|sv (aS t)<|r
 rcases aH h with⟨c50,h⟩|⟨c50,h⟩
 ·obtain rfl:=lf h
  exact aY lm (p51<|sg 4 c50<|sv (bO t)<|sv (bP t)<|bF (db.ln t.Args)<|eF .normal (Az t (decide ((t.Args.length:Int)>6))))<|by kernel_rfl
 ·obtain rfl:=lf h
  exact aY lm (p51<|sg 4 c50<|eF .normal (Az t false))<|by kernel_rfl
end
section
variable(t:ak)
def NY:aB:=aZ 113 [(1,.eptr (aj t))] [.dead] []
def nB(o:Bool):aB:=aZ 113 [(1,.eptr (aj t)),(92,.bool o)] [.dead] []
def mc:Option Bool:=
 if (t.Op == 6) = true then
  if(decide ((t.Args.length:Int)<2))=true then
   some true
  else
   if(decide ((t.Args.length:Int)>7))=true then
    some true
   else
    if(decide ((t.Names.length:Int)>0))=true then
     some ((t.Names.length:Int)!=(bN ((t.Args.length:Int) - 1)))
    else
     some false
 else
  some false
theorem Mb{x:Bool}(h:mc t=some x):aU Pg GE 0 (cA Qe 60) (EX .normal (nB t x)) (NY t):=by
 have p56:=fun{sc F} (r:PS sc F)=>sv (aR t)<|sv (aS t)<|r
 rcases aH h with⟨c55,h⟩|⟨c55,h⟩
 ·have p58:=fun{sc F} (r:PS sc F)=>p56<|sg 4 c55<|sv (bO t)<|sv (bP t)<|bF (db.ln t.Args)<|r
  rcases aH h with⟨c57,h⟩|⟨c57,h⟩
  ·obtain rfl:=lf h
   exact aY lm (p58<|sg 9 c57<|eF .normal (nB t true))<|by kernel_rfl
  ·have p60:=fun{sc F} (r:PS sc F)=>p58<|sg 9 c57<|sv (bO t)<|sv (bP t)<|bF (db.ln t.Args)<|r
   rcases aH h with⟨c59,h⟩|⟨c59,h⟩
   ·obtain rfl:=lf h
    exact aY lm (p60<|sg 15 c59<|eF .normal (nB t true))<|by kernel_rfl
   ·have p62:=fun{sc F} (r:PS sc F)=>p60<|sg 15 c59<|sv (b8 t)<|sv (b9 t)<|bF (cO.ln t.Names)<|r
    rcases aH h with⟨c61,h⟩|⟨c61,h⟩
    ·obtain rfl:=lf h
     exact aY lm (p62<|sg 20 c61<|sv (b8 t)<|sv (b9 t)<|bF (cO.ln t.Names)<|sv (bO t)<|sv (bP t)<|bF (db.ln t.Args)<|eF .normal (nB t ((t.Names.length:Int)!=(bN ((t.Args.length:Int) - 1)))))<|by kernel_rfl
    ·obtain rfl:=lf h
     exact aY lm (p62<|sg 20 c61<|eF .normal (nB t false))<|by kernel_rfl
 ·obtain rfl:=lf h
  exact aY lm (p56<|sg 4 c55<|eF .normal (nB t false))<|by kernel_rfl
end
section
variable(t:ak)
def NZ:aB:=aZ 113 [(1,.eptr (aj t))] [.dead] []
def nC(o:Bool):aB:=aZ 113 [(112,.bool o)] [.dead] []
def me:Option Bool:=
 if (t.Op == 4) = true then
  (vT t.Name true).bind fun r68=>
  if(!r68)=true then
   some true
  else
   if(t.Op==5)=true then
    (vT t.Name false).bind fun r73=>
    some (!r73)
   else
    some false
 else
  if(t.Op==5)=true then
   (vT t.Name false).bind fun r76=>
   some (!r76)
  else
   some false
theorem Mc{x:Bool}(h:me t=some x):aU Pg GE 0 (cA Qe 124) (EX .normal (nC x)) (NZ t):=by
 have p67:=fun{sc F} (r:PS sc F)=>sv (aR t)<|sv (aS t)<|r
 rcases aH h with⟨c66,h⟩|⟨c66,h⟩
 ·obtain⟨r68,br68,h⟩:=aG h
  have p70:=fun{sc F} (r:PS sc F)=>p67<|sg 4 c66<|sv (er t)<|sv (e8 t)<|cm (Dy br68)<|r
  rcases aH h with⟨c69,h⟩|⟨c69,h⟩
  ·obtain rfl:=lf h
   exact aY lm (p70<|sg 10 c69<|eF .normal (nC true))<|by kernel_rfl
  ·have p72:=fun{sc F} (r:PS sc F)=>p70<|sg 10 c69<|sv (aR t)<|sv (aS t)<|r
   rcases aH h with⟨c71,h⟩|⟨c71,h⟩
   ·obtain⟨r73,br73,h⟩:=aG h
    obtain rfl:=lf h
    exact aY lm (p72<|sg 14 c71<|sv (er t)<|sv (e8 t)<|cm (Dy br73)<|eF .normal (nC (!r73)))<|by kernel_rfl
   ·obtain rfl:=lf h
    exact aY lm (p72<|sg 14 c71<|eF .normal (nC false))<|by kernel_rfl
 ·have p75:=fun{sc F} (r:PS sc F)=>p67<|sg 4 c66<|sv (aR t)<|sv (aS t)<|r
  rcases aH h with⟨c74,h⟩|⟨c74,h⟩
  ·obtain⟨r76,br76,h⟩:=aG h
   obtain rfl:=lf h
   exact aY lm (p75<|sg 14 c74<|sv (er t)<|sv (e8 t)<|cm (Dy br76)<|eF .normal (nC (!r76)))<|by kernel_rfl
  ·obtain rfl:=lf h
   exact aY lm (p75<|sg 14 c74<|eF .normal (nC false))<|by kernel_rfl
end
def DB(t:ak):Option Int:=
 (ma t).bind fun o47=>
 if o47=true then
  some 1
 else
  (mb t).bind fun o52=>
  if o52=true then
   some 13
  else
   (mc t).bind fun o63=>
   if o63=true then
    some 13
   else
    (me t).bind fun o77=>
    if o77=true then
     some 3
    else
     some 0
theorem Rm{t:ak}{r:Int}(h:DB t=some r):CC Pg GE 210 [.agg (aj t)] (.int .i64 r) []:=by
 obtain⟨o47,bo47,h⟩:=aG h
 have p49:=fun{sc F} (r:PS sc F)=>se (kF t)<|nN 1<|cK (L9 t bo47)<|r
 rcases aH h with⟨c48,h⟩|⟨c48,h⟩
 ·obtain rfl:=lf h
  have z:=p49<|sg 0 c48<|en (aI (rP (.int .i64 1))<|trivial)
  exact bI lm call210 func210 (c:=Qe) rfl (aI (aO t) trivial) z<|by kernel_rfl
 ·obtain⟨o52,bo52,h⟩:=aG h
  have p54:=fun{sc F} (r:PS sc F)=>p49<|sg 0 c48<|nN 1<|cK (Ma t bo52)<|r
  rcases aH h with⟨c53,h⟩|⟨c53,h⟩
  ·obtain rfl:=lf h
   have z:=p54<|sg 0 c53<|en (aI (rP (.int .i64 13))<|trivial)
   exact bI lm call210 func210 (c:=Qe) rfl (aI (aO t) trivial) z<|by kernel_rfl
  ·obtain⟨o63,bo63,h⟩:=aG h
   have p65:=fun{sc F} (r:PS sc F)=>p54<|sg 0 c53<|nN 1<|cK (Mb t bo63)<|r
   rcases aH h with⟨c64,h⟩|⟨c64,h⟩
   ·obtain rfl:=lf h
    have z:=p65<|sg 0 c64<|en (aI (rP (.int .i64 13))<|trivial)
    exact bI lm call210 func210 (c:=Qe) rfl (aI (aO t) trivial) z<|by kernel_rfl
   ·obtain⟨o77,bo77,h⟩:=aG h
    have p79:=fun{sc F} (r:PS sc F)=>p65<|sg 0 c64<|nN 1<|cK (Mc t bo77)<|r
    rcases aH h with⟨c78,h⟩|⟨c78,h⟩
    ·obtain rfl:=lf h
     have z:=p79<|sg 0 c78<|en (aI (rP (.int .i64 3))<|trivial)
     exact bI lm call210 func210 (c:=Qe) rfl (aI (aO t) trivial) z<|by kernel_rfl
    ·obtain rfl:=lf h
     have z:=p79<|sg 0 c78<|en (aI (rP (.int .i64 0))<|trivial)
     exact bI lm call210 func210 (c:=Qe) rfl (aI (aO t) trivial) z<|by kernel_rfl
noncomputable def We:Code:=f195.body.getD .skip
def UB:List Nat:=[11,23]
section
variable(R129:Ce)(t13:waB)(t14:Int)(t15:Int)
def qH:aB:=aZ 25 [(13,sl aj t13),(14,.int .i64 t14),(15,.int .i64 t15)] [.dead] []
def qI(o:Int⊕(Unit)):Exit:=match o with
 |(.inl _)=>.ret
 |(.inr _)=>.exit 0
def nz(o:Int⊕(Unit)):aB:=match o with
 |(.inl o)=>aZ 25 [(2,.int .i64 o)] [.dead] []
 |(.inr o)=>aZ 25 [] [.dead] []
def FX:Option (Int⊕(Int⊕(Unit))):=
 if(decide (t15<t14))=true then
  (fy t13 t15).bind fun x5=>
  (R129 x5).bind fun r6=>
  if(r6 !=0)=true then
   some (.inr (.inl r6))
  else
   some (.inl (bN (t15+1)))
 else
  some (.inr (.inr ()))
def zK:Option (Int⊕(Unit)):=loop (fun(zz:Int)=>FX R129 t13 t14 zz) t15
theorem KQ(hR129:Gn R129){y:Int⊕(Int⊕(Unit))}(h:FX R129 t13 t14 t15=some y):aU Pg GE 0 (cA We 119) (LQ (fun(zz:Int)=>qH t13 t14 zz) qI nz y) (qH t13 t14 t15):=by
 rcases aH h with⟨c4,h⟩|⟨c4,h⟩
 ·obtain⟨x5,bx5,h⟩:=aG h
  obtain⟨r6,br6,h⟩:=aG h
  have p8:=fun{sc F} (r:PS sc F)=>sg 0 c4<|sv (db.ia (k:=.i64) bx5)<|sv (fZ x5)<|sx QY<|sx (pR x5)<|sv (jr x5 [])<|cm (hR129 _ _ br6)<|r
  rcases aH h with⟨c7,h⟩|⟨c7,h⟩
  ·obtain rfl:=lf h
   have z:=p8<|sg 0 c7<|vY 0 (qI (.inl r6)) (nz (.inl r6)) rfl (dI (aI trivial trivial)) (aI trivial trivial)
   exact ql (A:=UB) mixed (by intro hx;cases hx) z<|by kernel_rfl
  ·obtain rfl:=lf h
   have z:=p8<|sg 0 c7<|vY 0 .normal (qH t13 t14 (bN (t15+1))) rfl (dI (aI (up (aw aO t13)) (aI trivial (aI trivial trivial)))) (aI trivial trivial)
   exact eA (A:=UB) mixed z<|by kernel_rfl
 ·obtain rfl:=lf h
  have z:=sg 0 c4<|eF (qI (.inr ())) (nz (.inr ()))
  exact gu UB (by intro hx;cases hx) z<|by kernel_rfl
theorem DA(hR129:Gn R129){x:Int⊕(Unit)}(h:zK R129 t13 t14 t15=some x):aU Pg GE 0 (.loop (cA We 119)) (EX (qI x) (nz x)) (qH t13 t14 t15):=
 aU.loop (S:=fun(zz:Int)=>qH t13 t14 zz) (ex:=qI) (s:=t15) h fun zz y hy=>KQ R129 t13 t14 zz hR129 hy
end
def uw(R129:Ce)(t:ak):Option Int:=
 (DB t).bind fun r1=>
 if(r1 !=0)=true then
  some r1
 else
  (zK R129 t.Args (t.Args.length:Int) 0).bind fun o9=>match o9 with
  |(.inl o9)=>
   some o9
  |(.inr o9)=>
   some 0
theorem P1(R129:Ce)(hR129:Gn R129){t:ak}{r:Int}(h:uw R129 t=some r):CC Pg GE 195 [.agg (aj t)] (.int .i64 r) []:=by
 obtain⟨r1,br1,h⟩:=aG h
 have p3:=fun{sc F} (r:PS sc F)=>se (kF t)<|sv (fZ t)<|cm (Rm br1)<|r
 rcases aH h with⟨c2,h⟩|⟨c2,h⟩
 ·obtain rfl:=lf h
  have z:=p3<|sg 0 c2<|en (aI (rP (.int .i64 r1))<|trivial)
  exact bI UB call195 func195 (c:=We) rfl (aI (aO t) trivial) z<|by kernel_rfl
 ·obtain⟨o9,bo9,h⟩:=aG h
  rcases o9 with o9|o9
  ·obtain rfl:=lf h
   have z:=p3<|sg 0 c2<|sv (bO t)<|sv (bP t)<|bF (db.ln t.Args)<|cK (e:=.ret) (s1:=nz (.inl o9)) (DA R129 t.Args (t.Args.length:Int) 0 hR129 bo9)<|en (aI (rP (.int .i64 o9))<|trivial)
   exact bI UB call195 func195 (c:=We) rfl (aI (aO t) trivial) z<|by kernel_rfl
  ·obtain rfl:=lf h
   have z:=p3<|sg 0 c2<|sv (bO t)<|sv (bP t)<|bF (db.ln t.Args)<|cK (e:=.exit 0) (s1:=nz (.inr o9)) (DA R129 t.Args (t.Args.length:Int) 0 hR129 bo9)<|en (aI (rP (.int .i64 0))<|trivial)
   exact bI UB call195 func195 (c:=We) rfl (aI (aO t) trivial) z<|by kernel_rfl
def B4:(ak->Option Int)->(ak)->Option Int:=fun(rec:ak->Option Int) (x:ak)=>uw (fun t=>rec t) x
def Dz(t:ak):Option Int:=sS B4 t
theorem Rl{t:ak}{r:Int}(h:Dz t=some r):CC Pg GE 195 [.agg (aj t)] (.int .i64 r) []:=
 eg (F:=B4) (M:=fun(x:ak) (r:Int)=>CC Pg GE 195 [.agg (aj x)] (.int .i64 r) []) (fun rec hrec x r h=>P1 _ (fun t r h=>hrec t r h) h) h
noncomputable def qaA:Code:=f169.body.getD .skip
def qab:List Nat:=[]
def uv(t:ak):Option Int:=
 (Ba t).bind fun r1=>
 if(decide (r1>40))=true then
  some 8
 else
  (Dz t).bind fun r4=>
  some r4
theorem Hl{t:ak}{r:Int}(h:uv t=some r):CC Pg GE 169 [.agg (aj t)] (.int .i64 r) []:=by
 obtain⟨r1,br1,h⟩:=aG h
 have p3:=fun{sc F} (r:PS sc F)=>se (kF t)<|sv (fZ t)<|cm (P0 br1)<|r
 rcases aH h with⟨c2,h⟩|⟨c2,h⟩
 ·obtain rfl:=lf h
  have z:=p3<|sg 0 c2<|en (aI (rP (.int .i64 8))<|trivial)
  exact bI qab call169 func169 (c:=qaA) rfl (aI (aO t) trivial) z<|by kernel_rfl
 ·obtain⟨r4,br4,h⟩:=aG h
  obtain rfl:=lf h
  have z:=p3<|sg 0 c2<|sv (fZ t)<|cm (Rl br4)<|en (aI (rP (.int .i64 r4))<|trivial)
  exact bI qab call169 func169 (c:=qaA) rfl (aI (aO t) trivial) z<|by kernel_rfl
noncomputable def qce:Code:=f170.body.getD .skip
def qbR:List Nat:=[]
def Hp(t:ak):Option Bool:=
 (mo t (⟨0,([]:ah),([]:List ak),([]:List ah),(⟨0,([]:ah),0,([]:List az)⟩:az),([]:List az)⟩:ak)).bind fun r1=>
 some r1
theorem Ro{t:ak}{r:Bool}(h:Hp t=some r):CC Pg GE 170 [.agg (aj t)] (.bool r) []:=by
 obtain⟨r1,br1,h⟩:=aG h
 obtain rfl:=lf h
 have z:=se (kF t)<|sv (fZ t)<|sb (MD) (MC)<|cm (wB br1)<|en (aI (rP (.bool r1))<|trivial)
 exact bI qbR call170 func170 (c:=qce) rfl (aI (aO t) trivial) z<|by kernel_rfl
noncomputable def Ry:Code:=f151.body.getD .skip
def Kw:List Nat:=[22,46]
section
variable(e:af)(i:Int)
def o0:aB:=aZ 47 [(1,.eptr (ac e)),(3,.int .i64 i)] [.dead] []
def pd(o:Int⊕(Unit)):Exit:=match o with
 |(.inl _)=>.ret
 |(.inr _)=>.exit 0
def jD(o:Int⊕(Unit)):aB:=match o with
 |(.inl o)=>aZ 47 [(2,.int .i64 o)] [.dead] []
 |(.inr o)=>aZ 47 [(1,.eptr (ac e))] [.dead] []
def pb:Option (Int⊕(Int⊕(Unit))):=
 if(decide (i<(e.Types.length:Int)))=true then
  (fy e.Types i).bind fun x3=>
  (uv x3).bind fun r4=>
  if(r4 !=0)=true then
   some (.inr (.inl r4))
  else
   some (.inl (bN (i+1)))
 else
  some (.inr (.inr ()))
def tf:Option (Int⊕(Unit)):=loop (fun(zz:Int)=>pb e zz) i
theorem I5{y:Int⊕(Int⊕(Unit))}(h:pb e i=some y):aU Pg GE 0 (cA Ry 55) (LQ (fun(zz:Int)=>o0 e zz) pd (jD e) y) (o0 e i):=by
 have p2:=fun{sc F} (r:PS sc F)=>sv (aJ e)<|sv (aK e)<|bF (db.ln e.Types)<|r
 rcases aH h with⟨c1,h⟩|⟨c1,h⟩
 ·obtain⟨x3,bx3,h⟩:=aG h
  obtain⟨r4,br4,h⟩:=aG h
  have p6:=fun{sc F} (r:PS sc F)=>p2<|sg 0 c1<|sv (aJ e)<|sv (aK e)<|sv (db.ia (k:=.i64) bx3)<|sv (fZ x3)<|cm (Hl br4)<|r
  rcases aH h with⟨c5,h⟩|⟨c5,h⟩
  ·obtain rfl:=lf h
   have z:=p6<|sg 0 c5<|eF (pd (.inl r4)) (jD e (.inl r4))
   exact gu Kw (by intro hx;cases hx) z<|by kernel_rfl
  ·obtain rfl:=lf h
   exact wv Kw (p6<|sg 0 c5<|eF .normal (o0 e (bN (i+1))))<|by kernel_rfl
 ·obtain rfl:=lf h
  have z:=p2<|sg 0 c1<|eF (pd (.inr ())) (jD e (.inr ()))
  exact gu Kw (by intro hx;cases hx) z<|by kernel_rfl
theorem wF{x:Int⊕(Unit)}(h:tf e i=some x):aU Pg GE 0 (.loop (cA Ry 55)) (EX (pd x) (jD e x)) (o0 e i):=
 aU.loop (S:=fun(zz:Int)=>o0 e zz) (ex:=pd) (s:=i) h fun zz y hy=>I5 e zz hy
end
section
variable(e:af)(i:Int)
def Mw:aB:=aZ 47 [(1,.eptr (ac e)),(5,.int .i64 i)] [.dead] []
def te(o:Unit⊕(Int)):Exit:=match o with
 |(.inl _)=>.normal
 |(.inr _)=>.ret
def lz(o:Unit⊕(Int)):aB:=match o with
 |(.inl o)=>aZ 47 [(1,.eptr (ac e)),(5,.int .i64 i)] [.dead] []
 |(.inr o)=>aZ 47 [(2,.int .i64 o)] [.dead] []
def xz:Option (Unit⊕(Int)):=
 (fy e.Params i).bind fun x10=>
 (Hp x10.Type_).bind fun r11=>
 if r11=true then
  some (.inl ())
 else
  (fy e.Params i).bind fun x14=>
  (uv x14.Type_).bind fun r15=>
  if(r15 !=0)=true then
   some (.inr r15)
  else
   some (.inl ())
theorem CQ{x:Unit⊕(Int)}(h:xz e i=some x):aU Pg GE 0 (cA Ry 478) (EX (te x) (lz e i x)) (Mw e i):=by
 obtain⟨x10,bx10,h⟩:=aG h
 obtain⟨r11,br11,h⟩:=aG h
 have p13:=fun{sc F} (r:PS sc F)=>sv (ba e)<|sv (bh e)<|sv (il.ia (k:=.i64) bx10)<|sv (jH x10)<|sv (jI x10)<|cm (Ro br11)<|r
 rcases aH h with⟨c12,h⟩|⟨c12,h⟩
 ·obtain rfl:=lf h
  exact aY Kw (p13<|sg 0 c12<|eF (te (.inl ())) (lz e i (.inl ())))<|by kernel_rfl
 ·obtain⟨x14,bx14,h⟩:=aG h
  obtain⟨r15,br15,h⟩:=aG h
  have p17:=fun{sc F} (r:PS sc F)=>p13<|sg 0 c12<|sv (ba e)<|sv (bh e)<|sv (il.ia (k:=.i64) bx14)<|sv (jH x14)<|sv (jI x14)<|cm (Hl br15)<|r
  rcases aH h with⟨c16,h⟩|⟨c16,h⟩
  ·obtain rfl:=lf h
   exact aY Kw (p17<|sg 0 c16<|eF (te (.inr r15)) (lz e i (.inr r15)))<|by kernel_rfl
  ·obtain rfl:=lf h
   exact aY Kw (p17<|sg 0 c16<|eF (te (.inl ())) (lz e i (.inl ())))<|by kernel_rfl
end
section
variable(e:af)(i:Int)
def pe:aB:=aZ 47 [(1,.eptr (ac e)),(5,.int .i64 i)] [.dead] []
def pf(o:Int⊕(Unit)):Exit:=match o with
 |(.inl _)=>.ret
 |(.inr _)=>.exit 2
def lA(o:Int⊕(Unit)):aB:=match o with
 |(.inl o)=>aZ 47 [(2,.int .i64 o)] [.dead] []
 |(.inr o)=>aZ 47 [] [.dead] []
def g9:Option (Int⊕(Int⊕(Unit))):=
 if(decide (i<(e.Params.length:Int)))=true then
  (xz e i).bind fun o18=>match o18 with
  |(.inl o18)=>
   some (.inl (bN (i+1)))
  |(.inr o18)=>
   some (.inr (.inl o18))
 else
  some (.inr (.inr ()))
def tg:Option (Int⊕(Unit)):=loop (fun(zz:Int)=>g9 e zz) i
theorem I6{y:Int⊕(Int⊕(Unit))}(h:g9 e i=some y):aU Pg GE 0 (cA Ry 119) (LQ (fun(zz:Int)=>pe e zz) pf lA y) (pe e i):=by
 have p9:=fun{sc F} (r:PS sc F)=>sv (ba e)<|sv (bh e)<|bF (il.ln e.Params)<|r
 rcases aH h with⟨c8,h⟩|⟨c8,h⟩
 ·obtain⟨o18,bo18,h⟩:=aG h
  rcases o18 with o18|o18
  ·obtain rfl:=lf h
   exact wv Kw (p9<|sg 0 c8<|nN 0<|cK (e:=.normal) (s1:=lz e i (.inl o18)) (CQ e i bo18)<|eF .normal (pe e (bN (i+1))))<|by kernel_rfl
  ·obtain rfl:=lf h
   have z:=p9<|sg 0 c8<|nN 0<|cK (e:=.ret) (s1:=lz e i (.inr o18)) (CQ e i bo18)<|eF (pf (.inl o18)) (lA (.inl o18))
   exact gu Kw (by intro hx;cases hx) z<|by kernel_rfl
 ·obtain rfl:=lf h
  have z:=p9<|sg 0 c8<|eF (pf (.inr ())) (lA (.inr ()))
  exact gu Kw (by intro hx;cases hx) z<|by kernel_rfl
theorem CR{x:Int⊕(Unit)}(h:tg e i=some x):aU Pg GE 0 (.loop (cA Ry 119)) (EX (pf x) (lA x)) (pe e i):=
 aU.loop (S:=fun(zz:Int)=>pe e zz) (ex:=pf) (s:=i) h fun zz y hy=>I6 e zz hy
end
def Bf(e:af):Option Int:=
 (tf e 0).bind fun o7=>match o7 with
 |(.inl o7)=>
  some o7
 | (.inr o7) =>
  (tg e 0).bind fun o19=>match o19 with
  |(.inl o19)=>
   some o19
  |(.inr o19)=>
   some 0
theorem P9{e:af}{r:Int}(h:Bf e=some r):CC Pg GE 151 [.agg (ac e)] (.int .i64 r) []:=by
 obtain⟨o7,bo7,h⟩:=aG h
 rcases o7 with o7|o7
 ·obtain rfl:=lf h
  have z:=se (bX e)<|cK (e:=.ret) (s1:=jD e (.inl o7)) (wF e 0 bo7)<|en (aI (rP (.int .i64 o7))<|trivial)
  exact bI Kw call151 func151 (c:=Ry) rfl (aI (al e) trivial) z<|by kernel_rfl
 ·obtain⟨o19,bo19,h⟩:=aG h
  rcases o19 with o19|o19
  ·obtain rfl:=lf h
   have z:=se (bX e)<|cK (e:=.exit 0) (s1:=jD e (.inr o7)) (wF e 0 bo7)<|cK (e:=.ret) (s1:=lA (.inl o19)) (CR e 0 bo19)<|en (aI (rP (.int .i64 o19))<|trivial)
   exact bI Kw call151 func151 (c:=Ry) rfl (aI (al e) trivial) z<|by kernel_rfl
  ·obtain rfl:=lf h
   have z:=se (bX e)<|cK (e:=.exit 0) (s1:=jD e (.inr o7)) (wF e 0 bo7)<|cK (e:=.exit 2) (s1:=lA (.inr o19)) (CR e 0 bo19)<|en (aI (rP (.int .i64 0))<|trivial)
   exact bI Kw call151 func151 (c:=Ry) rfl (aI (al e) trivial) z<|by kernel_rfl
noncomputable def Ok:Code:=f122.body.getD .skip
def nO:List Nat:=[]
section
variable(e:af)(m:Bool)(m2:Bool)(m3:Int)(m4:Int)(m5:Bool)(m6:Bool)(m7:Bool)(m8:Bool)(m9:Bool)
def Oa:aB:=aZ 115 [(1,.eptr (ac e)),(3,.bptr 1 0)] [.dead,.cells [.bool m,.bool m2,.int .i64 m3,.int .i64 m4,.bool m5,.bool m6,.bool m7,.bool m8,.bool m9] []] []
def eo(o:Bool):aB:=aZ 115 [(1,.eptr (ac e)),(3,.bptr 1 0),(7,.bool o)] [.dead,.cells [.bool m,.bool m2,.int .i64 m3,.int .i64 m4,.bool m5,.bool m6,.bool m7,.bool m8,.bool m9] []] []
def zQ:Option Bool:=
 if(!m9)=true then
  some true
 else
  if (!m) = true then
   if(e.N !=0)=true then
    some true
   else
    if (!m2) = true then
     if(!(e.Name==([]:ah)))=true then
      some true
     else
      if(m4==0)=true then
       some (decide ((e.Kids.length:Int)>0))
      else
       some false
    else
     if(m4==0)=true then
      some (decide ((e.Kids.length:Int)>0))
     else
      some false
  else
   if (!m2) = true then
    if(!(e.Name==([]:ah)))=true then
     some true
    else
     if(m4==0)=true then
      some (decide ((e.Kids.length:Int)>0))
     else
      some false
   else
    if(m4==0)=true then
     some (decide ((e.Kids.length:Int)>0))
    else
     some false
theorem Ms{x:Bool}(h:zQ e m m2 m4 m9=some x):aU Pg GE 0 (cA Ok 58) (EX .normal (eo e m m2 m3 m4 m5 m6 m7 m8 m9 x)) (Oa e m m2 m3 m4 m5 m6 m7 m8 m9):=by
 rcases aH h with⟨c2,h⟩|⟨c2,h⟩
 ·obtain rfl:=lf h
  exact aY nO (ss<|sg 4 c2<|eF .normal (eo e m m2 m3 m4 m5 m6 m7 m8 m9 true))<|by kernel_rfl
 ·have p4:=fun{sc F} (r:PS sc F)=>ss<|sg 4 c2<|ss<|r
  rcases aH h with⟨c3,h⟩|⟨c3,h⟩
  ·have p6:=fun{sc F} (r:PS sc F)=>p4<|sg 8 c3<|sv (dg e)<|sv (dH e)<|r
   rcases aH h with⟨c5,h⟩|⟨c5,h⟩
   ·obtain rfl:=lf h
    exact aY nO (p6<|sg 14 c5<|eF .normal (eo e m m2 m3 m4 m5 m6 m7 m8 m9 true))<|by kernel_rfl
   ·have p8:=fun{sc F} (r:PS sc F)=>p6<|sg 14 c5<|ss<|r
    rcases aH h with⟨c7,h⟩|⟨c7,h⟩
    ·have p10:=fun{sc F} (r:PS sc F)=>p8<|sg 18 c7<|sv (dq e)<|sv (d8 e)<|r
     rcases aH h with⟨c9,h⟩|⟨c9,h⟩
     ·obtain rfl:=lf h
      exact aY nO (p10<|sg 24 c9<|eF .normal (eo e m m2 m3 m4 m5 m6 m7 m8 m9 true))<|by kernel_rfl
     ·have p12:=fun{sc F} (r:PS sc F)=>p10<|sg 24 c9<|ss<|r
      rcases aH h with⟨c11,h⟩|⟨c11,h⟩
      ·obtain rfl:=lf h
       exact aY nO (p12<|sg 28 c11<|sv (a8 e)<|sv (be e)<|bF (eP.ln e.Kids)<|eF .normal (eo e m m2 m3 m4 m5 m6 m7 m8 m9 (decide ((e.Kids.length:Int)>0))))<|by kernel_rfl
      ·obtain rfl:=lf h
       exact aY nO (p12<|sg 28 c11<|eF .normal (eo e m m2 m3 m4 m5 m6 m7 m8 m9 false))<|by kernel_rfl
    ·have p14:=fun{sc F} (r:PS sc F)=>p8<|sg 18 c7<|ss<|r
     rcases aH h with⟨c13,h⟩|⟨c13,h⟩
     ·obtain rfl:=lf h
      exact aY nO (p14<|sg 28 c13<|sv (a8 e)<|sv (be e)<|bF (eP.ln e.Kids)<|eF .normal (eo e m m2 m3 m4 m5 m6 m7 m8 m9 (decide ((e.Kids.length:Int)>0))))<|by kernel_rfl
     ·obtain rfl:=lf h
      exact aY nO (p14<|sg 28 c13<|eF .normal (eo e m m2 m3 m4 m5 m6 m7 m8 m9 false))<|by kernel_rfl
  ·have p16:=fun{sc F} (r:PS sc F)=>p4<|sg 8 c3<|ss<|r
   rcases aH h with⟨c15,h⟩|⟨c15,h⟩
   ·have p18:=fun{sc F} (r:PS sc F)=>p16<|sg 18 c15<|sv (dq e)<|sv (d8 e)<|r
    rcases aH h with⟨c17,h⟩|⟨c17,h⟩
    ·obtain rfl:=lf h
     exact aY nO (p18<|sg 24 c17<|eF .normal (eo e m m2 m3 m4 m5 m6 m7 m8 m9 true))<|by kernel_rfl
    ·have p20:=fun{sc F} (r:PS sc F)=>p18<|sg 24 c17<|ss<|r
     rcases aH h with⟨c19,h⟩|⟨c19,h⟩
     ·obtain rfl:=lf h
      exact aY nO (p20<|sg 28 c19<|sv (a8 e)<|sv (be e)<|bF (eP.ln e.Kids)<|eF .normal (eo e m m2 m3 m4 m5 m6 m7 m8 m9 (decide ((e.Kids.length:Int)>0))))<|by kernel_rfl
     ·obtain rfl:=lf h
      exact aY nO (p20<|sg 28 c19<|eF .normal (eo e m m2 m3 m4 m5 m6 m7 m8 m9 false))<|by kernel_rfl
   ·have p22:=fun{sc F} (r:PS sc F)=>p16<|sg 18 c15<|ss<|r
    rcases aH h with⟨c21,h⟩|⟨c21,h⟩
    ·obtain rfl:=lf h
     exact aY nO (p22<|sg 28 c21<|sv (a8 e)<|sv (be e)<|bF (eP.ln e.Kids)<|eF .normal (eo e m m2 m3 m4 m5 m6 m7 m8 m9 (decide ((e.Kids.length:Int)>0))))<|by kernel_rfl
    ·obtain rfl:=lf h
     exact aY nO (p22<|sg 28 c21<|eF .normal (eo e m m2 m3 m4 m5 m6 m7 m8 m9 false))<|by kernel_rfl
end
section
variable(e:af)(m:Bool)(m2:Bool)(m3:Int)(m4:Int)(m5:Bool)(m6:Bool)(m7:Bool)(m8:Bool)(m9:Bool)
def Ob:aB:=aZ 115 [(1,.eptr (ac e)),(3,.bptr 1 0)] [.dead,.cells [.bool m,.bool m2,.int .i64 m3,.int .i64 m4,.bool m5,.bool m6,.bool m7,.bool m8,.bool m9] []] []
def eY(o:Bool):aB:=aZ 115 [(1,.eptr (ac e)),(3,.bptr 1 0),(42,.bool o)] [.dead,.cells [.bool m,.bool m2,.int .i64 m3,.int .i64 m4,.bool m5,.bool m6,.bool m7,.bool m8,.bool m9] []] []
def zR:Option Bool:=
 if (!m5) = true then
  if(decide ((e.Params.length:Int)>0))=true then
   some true
  else
   if (!m6) = true then
    if(decide ((e.Alts.length:Int)>0))=true then
     some true
    else
     if(!m7)=true then
      some (decide ((e.Types.length:Int)>0))
     else
      some false
   else
    if(!m7)=true then
     some (decide ((e.Types.length:Int)>0))
    else
     some false
 else
  if (!m6) = true then
   if(decide ((e.Alts.length:Int)>0))=true then
    some true
   else
    if(!m7)=true then
     some (decide ((e.Types.length:Int)>0))
    else
     some false
  else
   if(!m7)=true then
    some (decide ((e.Types.length:Int)>0))
   else
    some false
theorem Mt{x:Bool}(h:zR e m5 m6 m7=some x):aU Pg GE 0 (cA Ok 238) (EX .normal (eY e m m2 m3 m4 m5 m6 m7 m8 m9 x)) (Ob e m m2 m3 m4 m5 m6 m7 m8 m9):=by
 rcases aH h with⟨c26,h⟩|⟨c26,h⟩
 ·have p28:=fun{sc F} (r:PS sc F)=>ss<|sg 4 c26<|sv (ba e)<|sv (bh e)<|bF (il.ln e.Params)<|r
  rcases aH h with⟨c27,h⟩|⟨c27,h⟩
  ·obtain rfl:=lf h
   exact aY nO (p28<|sg 10 c27<|eF .normal (eY e m m2 m3 m4 m5 m6 m7 m8 m9 true))<|by kernel_rfl
  ·have p30:=fun{sc F} (r:PS sc F)=>p28<|sg 10 c27<|ss<|r
   rcases aH h with⟨c29,h⟩|⟨c29,h⟩
   ·have p32:=fun{sc F} (r:PS sc F)=>p30<|sg 14 c29<|sv (aD e)<|sv (aE e)<|bF (dZ.ln e.Alts)<|r
    rcases aH h with⟨c31,h⟩|⟨c31,h⟩
    ·obtain rfl:=lf h
     exact aY nO (p32<|sg 21 c31<|eF .normal (eY e m m2 m3 m4 m5 m6 m7 m8 m9 true))<|by kernel_rfl
    ·have p34:=fun{sc F} (r:PS sc F)=>p32<|sg 21 c31<|ss<|r
     rcases aH h with⟨c33,h⟩|⟨c33,h⟩
     ·obtain rfl:=lf h
      exact aY nO (p34<|sg 25 c33<|sv (aJ e)<|sv (aK e)<|bF (db.ln e.Types)<|eF .normal (eY e m m2 m3 m4 m5 m6 m7 m8 m9 (decide ((e.Types.length:Int)>0))))<|by kernel_rfl
     ·obtain rfl:=lf h
      exact aY nO (p34<|sg 25 c33<|eF .normal (eY e m m2 m3 m4 m5 m6 m7 m8 m9 false))<|by kernel_rfl
   ·have p36:=fun{sc F} (r:PS sc F)=>p30<|sg 14 c29<|ss<|r
    rcases aH h with⟨c35,h⟩|⟨c35,h⟩
    ·obtain rfl:=lf h
     exact aY nO (p36<|sg 25 c35<|sv (aJ e)<|sv (aK e)<|bF (db.ln e.Types)<|eF .normal (eY e m m2 m3 m4 m5 m6 m7 m8 m9 (decide ((e.Types.length:Int)>0))))<|by kernel_rfl
    ·obtain rfl:=lf h
     exact aY nO (p36<|sg 25 c35<|eF .normal (eY e m m2 m3 m4 m5 m6 m7 m8 m9 false))<|by kernel_rfl
 ·have p38:=fun{sc F} (r:PS sc F)=>ss<|sg 4 c26<|ss<|r
  rcases aH h with⟨c37,h⟩|⟨c37,h⟩
  ·have p40:=fun{sc F} (r:PS sc F)=>p38<|sg 14 c37<|sv (aD e)<|sv (aE e)<|bF (dZ.ln e.Alts)<|r
   rcases aH h with⟨c39,h⟩|⟨c39,h⟩
   ·obtain rfl:=lf h
    exact aY nO (p40<|sg 21 c39<|eF .normal (eY e m m2 m3 m4 m5 m6 m7 m8 m9 true))<|by kernel_rfl
   ·have p42:=fun{sc F} (r:PS sc F)=>p40<|sg 21 c39<|ss<|r
    rcases aH h with⟨c41,h⟩|⟨c41,h⟩
    ·obtain rfl:=lf h
     exact aY nO (p42<|sg 25 c41<|sv (aJ e)<|sv (aK e)<|bF (db.ln e.Types)<|eF .normal (eY e m m2 m3 m4 m5 m6 m7 m8 m9 (decide ((e.Types.length:Int)>0))))<|by kernel_rfl
    ·obtain rfl:=lf h
     exact aY nO (p42<|sg 25 c41<|eF .normal (eY e m m2 m3 m4 m5 m6 m7 m8 m9 false))<|by kernel_rfl
  ·have p44:=fun{sc F} (r:PS sc F)=>p38<|sg 14 c37<|ss<|r
   rcases aH h with⟨c43,h⟩|⟨c43,h⟩
   ·obtain rfl:=lf h
    exact aY nO (p44<|sg 25 c43<|sv (aJ e)<|sv (aK e)<|bF (db.ln e.Types)<|eF .normal (eY e m m2 m3 m4 m5 m6 m7 m8 m9 (decide ((e.Types.length:Int)>0))))<|by kernel_rfl
   ·obtain rfl:=lf h
    exact aY nO (p44<|sg 25 c43<|eF .normal (eY e m m2 m3 m4 m5 m6 m7 m8 m9 false))<|by kernel_rfl
end
section
variable(e:af)(m:Bool)(m2:Bool)(m3:Int)(m4:Int)(m5:Bool)(m6:Bool)(m7:Bool)(m8:Bool)(m9:Bool)
def Oc:aB:=aZ 115 [(1,.eptr (ac e)),(3,.bptr 1 0)] [.dead,.cells [.bool m,.bool m2,.int .i64 m3,.int .i64 m4,.bool m5,.bool m6,.bool m7,.bool m8,.bool m9] []] []
def jd(o:Bool):aB:=aZ 115 [(1,.eptr (ac e)),(3,.bptr 1 0),(79,.bool o)] [.dead,.cells [.bool m,.bool m2,.int .i64 m3,.int .i64 m4,.bool m5,.bool m6,.bool m7,.bool m8,.bool m9] []] []
def zS:Option Bool:=
 if (e.Op == 1) = true then
  (SQ e.N).bind fun r53=>
  if(!r53)=true then
   some true
  else
   if(e.Op==2)=true then
    if(e.N !=0)=true then
     some (e.N !=1)
    else
     some false
   else
    some false
 else
  if(e.Op==2)=true then
   if(e.N !=0)=true then
    some (e.N !=1)
   else
    some false
  else
   some false
theorem Mu{x:Bool}(h:zS e=some x):aU Pg GE 0 (cA Ok 3838) (EX .normal (jd e m m2 m3 m4 m5 m6 m7 m8 m9 x)) (Oc e m m2 m3 m4 m5 m6 m7 m8 m9):=by
 have p52:=fun{sc F} (r:PS sc F)=>sv (cp e)<|sv (cq e)<|r
 rcases aH h with⟨c51,h⟩|⟨c51,h⟩
 ·obtain⟨r53,br53,h⟩:=aG h
  have p55:=fun{sc F} (r:PS sc F)=>p52<|sg 4 c51<|sv (dg e)<|sv (dH e)<|cm (UE br53)<|r
  rcases aH h with⟨c54,h⟩|⟨c54,h⟩
  ·obtain rfl:=lf h
   exact aY nO (p55<|sg 10 c54<|eF .normal (jd e m m2 m3 m4 m5 m6 m7 m8 m9 true))<|by kernel_rfl
  ·have p57:=fun{sc F} (r:PS sc F)=>p55<|sg 10 c54<|sv (cp e)<|sv (cq e)<|r
   rcases aH h with⟨c56,h⟩|⟨c56,h⟩
   ·have p59:=fun{sc F} (r:PS sc F)=>p57<|sg 14 c56<|sv (dg e)<|sv (dH e)<|r
    rcases aH h with⟨c58,h⟩|⟨c58,h⟩
    ·obtain rfl:=lf h
     exact aY nO (p59<|sg 19 c58<|sv (dg e)<|sv (dH e)<|eF .normal (jd e m m2 m3 m4 m5 m6 m7 m8 m9 (e.N !=1)))<|by kernel_rfl
    ·obtain rfl:=lf h
     exact aY nO (p59<|sg 19 c58<|eF .normal (jd e m m2 m3 m4 m5 m6 m7 m8 m9 false))<|by kernel_rfl
   ·obtain rfl:=lf h
    exact aY nO (p57<|sg 14 c56<|eF .normal (jd e m m2 m3 m4 m5 m6 m7 m8 m9 false))<|by kernel_rfl
 ·have p61:=fun{sc F} (r:PS sc F)=>p52<|sg 4 c51<|sv (cp e)<|sv (cq e)<|r
  rcases aH h with⟨c60,h⟩|⟨c60,h⟩
  ·have p63:=fun{sc F} (r:PS sc F)=>p61<|sg 14 c60<|sv (dg e)<|sv (dH e)<|r
   rcases aH h with⟨c62,h⟩|⟨c62,h⟩
   ·obtain rfl:=lf h
    exact aY nO (p63<|sg 19 c62<|sv (dg e)<|sv (dH e)<|eF .normal (jd e m m2 m3 m4 m5 m6 m7 m8 m9 (e.N !=1)))<|by kernel_rfl
   ·obtain rfl:=lf h
    exact aY nO (p63<|sg 19 c62<|eF .normal (jd e m m2 m3 m4 m5 m6 m7 m8 m9 false))<|by kernel_rfl
  ·obtain rfl:=lf h
   exact aY nO (p61<|sg 14 c60<|eF .normal (jd e m m2 m3 m4 m5 m6 m7 m8 m9 false))<|by kernel_rfl
end
def Be (e:af):Option Int :=
 (DU e.Op).bind fun r1=>
 (zQ e r1.n r1.name r1.most r1.ok).bind fun o23=>
 if o23=true then
  some 1
 else
  (zR e r1.params r1.alts r1.types).bind fun o45=>
  if o45=true then
   some 1
  else
   (B7 e r1).bind fun r48=>
   if(!r48)=true then
    some 13
   else
    (zS e).bind fun o64=>
    if o64=true then
     some 2
    else
     (ET e r1).bind fun r67=>
     if(!r67)=true then
      some 3
     else
      (xt e).bind fun r70=>
      if(!r70)=true then
       some 4
      else
       (Bf e).bind fun r73=>
       some r73
theorem Rq{e:af}{r:Int}(h:Be e=some r):CC Pg GE 122 [.agg (ac e)] (.int .i64 r) []:=by
 obtain⟨r1,br1,h⟩:=aG h
 obtain⟨o23,bo23,h⟩:=aG h
 have p25:=fun{sc F} (r:PS sc F)=>se (bX e)<|sv (cp e)<|sv (cq e)<|cm (Rr br1)<|sx YL<|sx (bA r1)<|nN 1<|cK (Ms e r1.n r1.name r1.least r1.most r1.params r1.alts r1.types r1.exactly r1.ok bo23)<|r
 rcases aH h with⟨c24,h⟩|⟨c24,h⟩
 ·obtain rfl:=lf h
  have z:=p25<|sg 0 c24<|en (aI (rP (.int .i64 1))<|trivial)
  exact bI nO call122 func122 (c:=Ok) rfl (aI (al e) trivial) z<|by kernel_rfl
 ·obtain⟨o45,bo45,h⟩:=aG h
  have p47:=fun{sc F} (r:PS sc F)=>p25<|sg 0 c24<|nN 0<|cK (Mt e r1.n r1.name r1.least r1.most r1.params r1.alts r1.types r1.exactly r1.ok bo45)<|r
  rcases aH h with⟨c46,h⟩|⟨c46,h⟩
  ·obtain rfl:=lf h
   have z:=p47<|sg 0 c46<|en (aI (rP (.int .i64 1))<|trivial)
   exact bI nO call122 func122 (c:=Ok) rfl (aI (al e) trivial) z<|by kernel_rfl
  ·obtain⟨r48,br48,h⟩:=aG h
   have p50:=fun{sc F} (r:PS sc F)=>p47<|sg 0 c46<|sv (aX e)<|sv (qZ r1 [])<|cm (N8 br48)<|r
   rcases aH h with⟨c49,h⟩|⟨c49,h⟩
   ·obtain rfl:=lf h
    have z:=p50<|sg 0 c49<|en (aI (rP (.int .i64 13))<|trivial)
    exact bI nO call122 func122 (c:=Ok) rfl (aI (al e) trivial) z<|by kernel_rfl
   ·obtain⟨o64,bo64,h⟩:=aG h
    have p66:=fun{sc F} (r:PS sc F)=>p50<|sg 0 c49<|nN 0<|cK (Mu e r1.n r1.name r1.least r1.most r1.params r1.alts r1.types r1.exactly r1.ok bo64)<|r
    rcases aH h with⟨c65,h⟩|⟨c65,h⟩
    ·obtain rfl:=lf h
     have z:=p66<|sg 0 c65<|en (aI (rP (.int .i64 2))<|trivial)
     exact bI nO call122 func122 (c:=Ok) rfl (aI (al e) trivial) z<|by kernel_rfl
    ·obtain⟨r67,br67,h⟩:=aG h
     have p69:=fun{sc F} (r:PS sc F)=>p66<|sg 0 c65<|sv (aX e)<|sv (qZ r1 [])<|cm (P6 br67)<|r
     rcases aH h with⟨c68,h⟩|⟨c68,h⟩
     ·obtain rfl:=lf h
      have z:=p69<|sg 0 c68<|en (aI (rP (.int .i64 3))<|trivial)
      exact bI nO call122 func122 (c:=Ok) rfl (aI (al e) trivial) z<|by kernel_rfl
     ·obtain⟨r70,br70,h⟩:=aG h
      have p72:=fun{sc F} (r:PS sc F)=>p69<|sg 0 c68<|sv (aX e)<|cm (K1 br70)<|r
      rcases aH h with⟨c71,h⟩|⟨c71,h⟩
      ·obtain rfl:=lf h
       have z:=p72<|sg 0 c71<|en (aI (rP (.int .i64 4))<|trivial)
       exact bI nO call122 func122 (c:=Ok) rfl (aI (al e) trivial) z<|by kernel_rfl
      ·obtain⟨r73,br73,h⟩:=aG h
       obtain rfl:=lf h
       have z:=p72<|sg 0 c71<|sv (aX e)<|cm (P9 br73)<|en (aI (rP (.int .i64 r73))<|trivial)
       exact bI nO call122 func122 (c:=Ok) rfl (aI (al e) trivial) z<|by kernel_rfl
noncomputable def qby:Code:=f67.body.getD .skip
def qaj:List Nat:=[25]
section
variable(v:Int)(v2:waD)(i:Int)
def N9:aB:=aZ 26 [(3,.int .i64 v),(4,sl ac v2),(5,.int .i64 i)] [.dead] [((4,0),28)]
def AL(o:Bool):aB:=aZ 26 [(3,.int .i64 v),(4,sl ac v2),(5,.int .i64 i),(17,.bool o)] [.dead] [((4,0),28)]
def vU:Option Bool:=
 if(decide (i<(v2.length:Int)))=true then
  some (v==0)
 else
  some false
theorem Mo{x:Bool}(h:vU v v2 i=some x):aU Pg GE 0 (cA qby 988) (EX .normal (AL v v2 i x)) (N9 v v2 i):=by
 rcases aH h with⟨c3,h⟩|⟨c3,h⟩
 ·obtain rfl:=lf h
  exact aY qaj (bF (eP.ln v2)<|sg 5 c3<|eF .normal (AL v v2 i (v==0)))<|by kernel_rfl
 ·obtain rfl:=lf h
  exact aY qaj (bF (eP.ln v2)<|sg 5 c3<|eF .normal (AL v v2 i false))<|by kernel_rfl
end
section
variable(R108:Cf)(v2:waD)(v:Int)(i:Int)
def qS:aB:=aZ 26 [(3,.int .i64 v),(4,sl ac v2),(5,.int .i64 i)] [.dead] [((4,0),28)]
def AM(o:Int):aB:=aZ 26 [(3,.int .i64 o)] [.dead] []
def jc:Option ((Int×Int)⊕(Int)):=
 (vU v v2 i).bind fun o4=>
 if o4=true then
  (fy v2 i).bind fun x7=>
  (R108 x7).bind fun r8=>
  some (.inl (r8,bN (i+1)))
 else
  some (.inr v)
def sd:Option Int:=loop (fun(zz:Int×Int)=>jc R108 v2 zz.1 zz.2) (v,i)
theorem K2(hR108:Gp R108){y:(Int×Int)⊕(Int)}(h:jc R108 v2 v i=some y):aU Pg GE 0 (cA qby 247) (LQ (fun(zz:Int×Int)=>qS v2 zz.1 zz.2) (fun _=>.exit 0) AM y) (qS v2 v i):=by
 obtain⟨o4,bo4,h⟩:=aG h
 have p6:=fun{sc F} (r:PS sc F)=>nN 1<|cK (Mo v v2 i bo4)<|r
 rcases aH h with⟨c5,h⟩|⟨c5,h⟩
 ·obtain⟨x7,bx7,h⟩:=aG h
  obtain⟨r8,br8,h⟩:=aG h
  obtain rfl:=lf h
  exact wv qaj (p6<|sg 0 c5<|sv (eP.ia (k:=.i64) bx7)<|sv (aX x7)<|cm (hR108 _ _ br8)<|eF .normal (qS v2 r8 (bN (i+1))))<|by kernel_rfl
 ·obtain rfl:=lf h
  have z:=p6<|sg 0 c5<|eF (.exit 0) (AM v)
  exact gu qaj (by intro hx;cases hx) z<|by kernel_rfl
theorem Mp(hR108:Gp R108){x:Int}(h:sd R108 v2 v i=some x):aU Pg GE 0 (.loop (cA qby 247)) (EX (.exit 0) (AM x)) (qS v2 v i):=
 aU.loop (S:=fun(zz:Int×Int)=>qS v2 zz.1 zz.2) (ex:=(fun _=>.exit 0)) (s:=(v,i)) h fun zz y hy=>K2 R108 v2 zz.1 zz.2 hR108 hy
end
def B8(R108:Cf)(e:af):Option Int:=
 (Be e).bind fun r1=>
 (uB e).bind fun r2=>
 (sd R108 r2 r1 0).bind fun o9=>
 some o9
theorem P5(R108:Cf)(hR108:Gp R108){e:af}{r:Int}(h:B8 R108 e=some r):CC Pg GE 67 [.agg (ac e)] (.int .i64 r) []:=by
 obtain⟨r1,br1,h⟩:=aG h
 obtain⟨r2,br2,h⟩:=aG h
 obtain⟨o9,bo9,h⟩:=aG h
 obtain rfl:=lf h
 have z:=se (bX e)<|sv (aX e)<|cm (Rq br1)<|sv (aX e)<|cm (AH br2)<|cK (Mp R108 r2 r1 0 hR108 bo9)<|en (aI (rP (.int .i64 o9))<|trivial)
 exact bI qaj call67 func67 (c:=qby) rfl (aI (al e) trivial) z<|by kernel_rfl
def Gu:(af->Option Int)->(af)->Option Int:=fun(rec:af->Option Int) (x:af)=>B8 (fun e=>rec e) x
def Mn(e:af):Option Int:=sS Gu e
theorem Rp{e:af}{r:Int}(h:Mn e=some r):CC Pg GE 67 [.agg (ac e)] (.int .i64 r) []:=
 eg (F:=Gu) (M:=fun(x:af) (r:Int)=>CC Pg GE 67 [.agg (ac x)] (.int .i64 r) []) (fun rec hrec x r h=>P5 _ (fun e r h=>hrec e r h) h) h
noncomputable def qcf:Code:=f18.body.getD .skip
def qbS:List Nat:=[]
def EQ(e:af):Option Int:=
 (ES e).bind fun r1=>
 if(decide (r1>400))=true then
  some 7
 else
  (ER e).bind fun r4=>
  if(decide (r4>40))=true then
   some 8
  else
   (Mn e).bind fun r7=>
   some r7
theorem P3{e:af}{r:Int}(h:EQ e=some r):CC Pg GE 18 [.agg (ac e)] (.int .i64 r) []:=by
 obtain⟨r1,br1,h⟩:=aG h
 have p3:=fun{sc F} (r:PS sc F)=>se (bX e)<|sv (aX e)<|cm (Hn br1)<|r
 rcases aH h with⟨c2,h⟩|⟨c2,h⟩
 ·obtain rfl:=lf h
  have z:=p3<|sg 0 c2<|en (aI (rP (.int .i64 7))<|trivial)
  exact bI qbS call18 func18 (c:=qcf) rfl (aI (al e) trivial) z<|by kernel_rfl
 ·obtain⟨r4,br4,h⟩:=aG h
  have p6:=fun{sc F} (r:PS sc F)=>p3<|sg 0 c2<|sv (aX e)<|cm (Hm br4)<|r
  rcases aH h with⟨c5,h⟩|⟨c5,h⟩
  ·obtain rfl:=lf h
   have z:=p6<|sg 0 c5<|en (aI (rP (.int .i64 8))<|trivial)
   exact bI qbS call18 func18 (c:=qcf) rfl (aI (al e) trivial) z<|by kernel_rfl
  ·obtain⟨r7,br7,h⟩:=aG h
   obtain rfl:=lf h
   have z:=p6<|sg 0 c5<|sv (aX e)<|cm (Rp br7)<|en (aI (rP (.int .i64 r7))<|trivial)
   exact bI qbS call18 func18 (c:=qcf) rfl (aI (al e) trivial) z<|by kernel_rfl
abbrev fi:=(af->af->Option Bool)
abbrev ja(R:fi):Prop:=∀(a:af) (a2:af) (r:Bool),R a a2=some r->CC Pg GE 23 [.agg (ac a),.agg (ac a2)] (.bool r) []
noncomputable def qaK:Code:=f70.body.getD .skip
def ZN:List Nat:=[19]
section
variable(R133:fi)(s2:waD)(t15:waD)(t16:Int)(t17:Int)
def eQ:aB:=aZ 32 [(1,sl ac s2),(2,.func (.func 23) [] []),(15,sl ac t15),(16,.int .i64 t16),(17,.int .i64 t17)] [] []
def eR(o:Unit⊕(Unit)):Exit:=match o with
 |(.inl _)=>.ret
 |(.inr _)=>.exit 0
def dL(o:Unit⊕(Unit)):aB:=match o with
 |(.inl o)=>aZ 32 [(6,.bool false)] [] []
 |(.inr o)=>aZ 32 [] [] []
def dK:Option (Int⊕(Unit⊕(Unit))):=
 if(decide (t17<t16))=true then
  (fy t15 t17).bind fun x4=>
  (fy s2 t17).bind fun x5=>
  (R133 x4 x5).bind fun r6=>
  if(!r6)=true then
   some (.inr (.inl ()))
  else
   some (.inl (bN (t17+1)))
 else
  some (.inr (.inr ()))
def kY:Option (Unit⊕(Unit)):=loop (fun(zz:Int)=>dK R133 s2 t15 t16 zz) t17
theorem wL(hR133:ja R133){y:Int⊕(Unit⊕(Unit))}(h:dK R133 s2 t15 t16 t17=some y):aU Pg GE 0 (cA qaK 119) (LQ (fun(zz:Int)=>eQ s2 t15 t16 zz) eR dL y) (eQ s2 t15 t16 t17):=by
 rcases aH h with⟨c3,h⟩|⟨c3,h⟩
 ·obtain⟨x4,bx4,h⟩:=aG h
  obtain⟨x5,bx5,h⟩:=aG h
  obtain⟨r6,br6,h⟩:=aG h
  have p8:=fun{sc F} (r:PS sc F)=>sg 0 c3<|sv (eP.ia (k:=.i64) bx4)<|sv (aX x4)<|sx BJ<|sx (kl x4)<|sv (eP.ia (k:=.i64) bx5)<|sv (aX x5)<|sx BJ<|sx (kl x5)<|sv (cz x4 [])<|sv (cz x5 [])<|cm (hR133 _ _ _ br6)<|r
  rcases aH h with⟨c7,h⟩|⟨c7,h⟩
  ·obtain rfl:=lf h
   have z:=p8<|sg 0 c7<|vY 0 (eR (.inl ())) (dL (.inl ())) rfl (dI (aI trivial trivial)) trivial
   exact ql (A:=ZN) mixed (by intro hx;cases hx) z<|by kernel_rfl
  ·obtain rfl:=lf h
   have z:=p8<|sg 0 c7<|vY 0 .normal (eQ s2 t15 t16 (bN (t17+1))) rfl (dI (aI (up (aw al s2)) (aI (aI trivial trivial) (aI (up (aw al t15)) (aI trivial (aI trivial trivial)))))) trivial
   exact eA (A:=ZN) mixed z<|by kernel_rfl
 ·obtain rfl:=lf h
  have z:=sg 0 c3<|eF (eR (.inr ())) (dL (.inr ()))
  exact gu ZN (by intro hx;cases hx) z<|by kernel_rfl
theorem oh(hR133:ja R133){x:Unit⊕(Unit)}(h:kY R133 s2 t15 t16 t17=some x):aU Pg GE 0 (.loop (cA qaK 119)) (EX (eR x) (dL x)) (eQ s2 t15 t16 t17):=
 aU.loop (S:=fun(zz:Int)=>eQ s2 t15 t16 zz) (ex:=eR) (s:=t17) h fun zz y hy=>wL R133 s2 t15 t16 zz hR133 hy
end
def jZ(R133:fi)(s1:waD)(s2:waD):Option Bool:=
 if((s1.length:Int)!=(s2.length:Int))=true then
  some false
 else
  (kY R133 s2 s1 (s1.length:Int) 0).bind fun o9=>match o9 with
  |(.inl o9)=>
   some false
  |(.inr o9)=>
   some true
theorem AX(R133:fi)(hR133:ja R133){s1:waD}{s2:waD}{r:Bool}(h:jZ R133 s1 s2=some r):CC Pg GE 70 [sl ac s1,sl ac s2,.func (.func 23) [] []] (.bool r) []:=by
 have p2:=fun{sc F} (r:PS sc F)=>bF (eP.ln s1)<|bF (eP.ln s2)<|r
 rcases aH h with⟨c1,h⟩|⟨c1,h⟩
 ·obtain rfl:=lf h
  have z:=p2<|sg 0 c1<|en (aI (rP (.bool false))<|trivial)
  exact bI ZN call70 func70 (c:=qaK) rfl (aI (aw al s1) (aI (aw al s2) (aI (aI trivial trivial) trivial))) z<|by kernel_rfl
 ·obtain⟨o9,bo9,h⟩:=aG h
  rcases o9 with o9|o9
  ·obtain rfl:=lf h
   have z:=p2<|sg 0 c1<|bF (eP.ln s1)<|cK (e:=.ret) (s1:=dL (.inl o9)) (oh R133 s2 s1 (s1.length:Int) 0 hR133 bo9)<|en (aI (rP (.bool false))<|trivial)
   exact bI ZN call70 func70 (c:=qaK) rfl (aI (aw al s1) (aI (aw al s2) (aI (aI trivial trivial) trivial))) z<|by kernel_rfl
  ·obtain rfl:=lf h
   have z:=p2<|sg 0 c1<|bF (eP.ln s1)<|cK (e:=.exit 0) (s1:=dL (.inr o9)) (oh R133 s2 s1 (s1.length:Int) 0 hR133 bo9)<|en (aI (rP (.bool true))<|trivial)
   exact bI ZN call70 func70 (c:=qaK) rfl (aI (aw al s1) (aI (aw al s2) (aI (aI trivial trivial) trivial))) z<|by kernel_rfl
noncomputable def qc9:Code:=f74.body.getD .skip
def qcY:List Nat:=[]
def vI(a:aA)(a2:aA):Option Bool:=
 if(a.Name==a2.Name)=true then
  (iQ a.Type_ a2.Type_).bind fun r3=>
  some r3
 else
  some false
theorem JW{a:aA}{a2:aA}{r:Bool}(h:vI a a2=some r):CC Pg GE 74 [.agg (ax a),.agg (ax a2)] (.bool r) []:=by
 have p2:=fun{sc F} (r:PS sc F)=>se (Pt a)<|se (Pt a2)<|sv (jG a)<|sv (kU a)<|sv (jG a2)<|sv (kU a2)<|r
 rcases aH h with⟨c1,h⟩|⟨c1,h⟩
 ·obtain⟨r3,br3,h⟩:=aG h
  obtain rfl:=lf h
  have z:=p2<|sg 6 c1<|sv (jH a)<|sv (jI a)<|sv (jH a2)<|sv (jI a2)<|cm (rU br3)<|en (aI (rP (.bool r3))<|trivial)
  exact bI qcY call74 func74 (c:=qc9) rfl (aI (bj a) (aI (bj a2) trivial)) z<|by kernel_rfl
 ·obtain rfl:=lf h
  have z:=p2<|sg 6 c1<|en (aI (rP (.bool false))<|trivial)
  exact bI qcY call74 func74 (c:=qc9) rfl (aI (bj a) (aI (bj a2) trivial)) z<|by kernel_rfl
noncomputable def qaM:Code:=f73.body.getD .skip
def ZQ:List Nat:=[19]
section
variable(s2:waE)(t15:waE)(t16:Int)(t17:Int)
def eh:aB:=aZ 32 [(1,sl ax s2),(2,.func (.func 74) [] []),(15,sl ax t15),(16,.int .i64 t16),(17,.int .i64 t17)] [] []
def ei(o:Unit⊕(Unit)):Exit:=match o with
 |(.inl _)=>.ret
 |(.inr _)=>.exit 0
def dj(o:Unit⊕(Unit)):aB:=match o with
 |(.inl o)=>aZ 32 [(6,.bool false)] [] []
 |(.inr o)=>aZ 32 [] [] []
def di:Option (Int⊕(Unit⊕(Unit))):=
 if(decide (t17<t16))=true then
  (fy t15 t17).bind fun x4=>
  (fy s2 t17).bind fun x5=>
  (vI x4 x5).bind fun r6=>
  if(!r6)=true then
   some (.inr (.inl ()))
  else
   some (.inl (bN (t17+1)))
 else
  some (.inr (.inr ()))
def jO:Option (Unit⊕(Unit)):=loop (fun(zz:Int)=>di s2 t15 t16 zz) t17
theorem uP{y:Int⊕(Unit⊕(Unit))}(h:di s2 t15 t16 t17=some y):aU Pg GE 0 (cA qaM 119) (LQ (fun(zz:Int)=>eh s2 t15 t16 zz) ei dj y) (eh s2 t15 t16 t17):=by
 rcases aH h with⟨c3,h⟩|⟨c3,h⟩
 ·obtain⟨x4,bx4,h⟩:=aG h
  obtain⟨x5,bx5,h⟩:=aG h
  obtain⟨r6,br6,h⟩:=aG h
  have p8:=fun{sc F} (r:PS sc F)=>sg 0 c3<|sv (il.ia (k:=.i64) bx4)<|sv (ym x4)<|sx Sv<|sx (kW x4)<|sv (il.ia (k:=.i64) bx5)<|sv (ym x5)<|sx Sv<|sx (kW x5)<|sv (Cn x4 [])<|sv (Cn x5 [])<|cm (JW br6)<|r
  rcases aH h with⟨c7,h⟩|⟨c7,h⟩
  ·obtain rfl:=lf h
   have z:=p8<|sg 0 c7<|vY 0 (ei (.inl ())) (dj (.inl ())) rfl (dI (aI trivial trivial)) trivial
   exact ql (A:=ZQ) mixed (by intro hx;cases hx) z<|by kernel_rfl
  ·obtain rfl:=lf h
   have z:=p8<|sg 0 c7<|vY 0 .normal (eh s2 t15 t16 (bN (t17+1))) rfl (dI (aI (up (aw bj s2)) (aI (aI trivial trivial) (aI (up (aw bj t15)) (aI trivial (aI trivial trivial)))))) trivial
   exact eA (A:=ZQ) mixed z<|by kernel_rfl
 ·obtain rfl:=lf h
  have z:=sg 0 c3<|eF (ei (.inr ())) (dj (.inr ()))
  exact gu ZQ (by intro hx;cases hx) z<|by kernel_rfl
theorem mg{x:Unit⊕(Unit)}(h:jO s2 t15 t16 t17=some x):aU Pg GE 0 (.loop (cA qaM 119)) (EX (ei x) (dj x)) (eh s2 t15 t16 t17):=
 aU.loop (S:=fun(zz:Int)=>eh s2 t15 t16 zz) (ex:=ei) (s:=t17) h fun zz y hy=>uP s2 t15 t16 zz hy
end
def iD(s1:waE)(s2:waE):Option Bool:=
 if((s1.length:Int)!=(s2.length:Int))=true then
  some false
 else
  (jO s2 s1 (s1.length:Int) 0).bind fun o9=>match o9 with
  |(.inl o9)=>
   some false
  |(.inr o9)=>
   some true
theorem y4{s1:waE}{s2:waE}{r:Bool}(h:iD s1 s2=some r):CC Pg GE 73 [sl ax s1,sl ax s2,.func (.func 74) [] []] (.bool r) []:=by
 have p2:=fun{sc F} (r:PS sc F)=>bF (il.ln s1)<|bF (il.ln s2)<|r
 rcases aH h with⟨c1,h⟩|⟨c1,h⟩
 ·obtain rfl:=lf h
  have z:=p2<|sg 0 c1<|en (aI (rP (.bool false))<|trivial)
  exact bI ZQ call73 func73 (c:=qaM) rfl (aI (aw bj s1) (aI (aw bj s2) (aI (aI trivial trivial) trivial))) z<|by kernel_rfl
 ·obtain⟨o9,bo9,h⟩:=aG h
  rcases o9 with o9|o9
  ·obtain rfl:=lf h
   have z:=p2<|sg 0 c1<|bF (il.ln s1)<|cK (e:=.ret) (s1:=dj (.inl o9)) (mg s2 s1 (s1.length:Int) 0 bo9)<|en (aI (rP (.bool false))<|trivial)
   exact bI ZQ call73 func73 (c:=qaM) rfl (aI (aw bj s1) (aI (aw bj s2) (aI (aI trivial trivial) trivial))) z<|by kernel_rfl
  ·obtain rfl:=lf h
   have z:=p2<|sg 0 c1<|bF (il.ln s1)<|cK (e:=.exit 0) (s1:=dj (.inr o9)) (mg s2 s1 (s1.length:Int) 0 bo9)<|en (aI (rP (.bool true))<|trivial)
   exact bI ZQ call73 func73 (c:=qaM) rfl (aI (aw bj s1) (aI (aw bj s2) (aI (aI trivial trivial) trivial))) z<|by kernel_rfl
noncomputable def qcm:Code:=f76.body.getD .skip
def qbY:List Nat:=[]
def vJ(R133:fi)(a:aT)(a2:aT):Option Bool:=
 if(a.Con==a2.Con)=true then
  (tA a.Names a2.Names).bind fun r3=>
  if r3=true then
   (R133 a.Body a2.Body).bind fun r6=>
   some r6
  else
   some false
 else
  some false
theorem JX(R133:fi)(hR133:ja R133){a:aT}{a2:aT}{r:Bool}(h:vJ R133 a a2=some r):CC Pg GE 76 [.agg (aF a),.agg (aF a2)] (.bool r) []:=by
 have p2:=fun{sc F} (r:PS sc F)=>se (Id a)<|se (Id a2)<|sv (mr a)<|sv (po a)<|sv (mr a2)<|sv (po a2)<|r
 rcases aH h with⟨c1,h⟩|⟨c1,h⟩
 ·obtain⟨r3,br3,h⟩:=aG h
  have p5:=fun{sc F} (r:PS sc F)=>p2<|sg 6 c1<|sv (gX a)<|sv (gZ a)<|sv (gX a2)<|sv (gZ a2)<|cm (CY br3)<|r
  rcases aH h with⟨c4,h⟩|⟨c4,h⟩
  ·obtain⟨r6,br6,h⟩:=aG h
   obtain rfl:=lf h
   have z:=p5<|sg 13 c4<|sv (pM a)<|sv (pO a)<|sv (pM a2)<|sv (pO a2)<|cm (hR133 _ _ _ br6)<|en (aI (rP (.bool r6))<|trivial)
   exact bI qbY call76 func76 (c:=qcm) rfl (aI (bE a) (aI (bE a2) trivial)) z<|by kernel_rfl
  ·obtain rfl:=lf h
   have z:=p5<|sg 13 c4<|en (aI (rP (.bool false))<|trivial)
   exact bI qbY call76 func76 (c:=qcm) rfl (aI (bE a) (aI (bE a2) trivial)) z<|by kernel_rfl
 ·obtain rfl:=lf h
  have z:=p2<|sg 6 c1<|en (aI (rP (.bool false))<|trivial)
  exact bI qbY call76 func76 (c:=qcm) rfl (aI (bE a) (aI (bE a2) trivial)) z<|by kernel_rfl
noncomputable def qaN:Code:=f75.body.getD .skip
def ZR:List Nat:=[19]
section
variable(R133:fi)(s2:waC)(t15:waC)(t16:Int)(t17:Int)
def ej:aB:=aZ 32 [(1,sl aF s2),(2,.func (.func 76) [] []),(15,sl aF t15),(16,.int .i64 t16),(17,.int .i64 t17)] [] []
def ek(o:Unit⊕(Unit)):Exit:=match o with
 |(.inl _)=>.ret
 |(.inr _)=>.exit 0
def dm(o:Unit⊕(Unit)):aB:=match o with
 |(.inl o)=>aZ 32 [(6,.bool false)] [] []
 |(.inr o)=>aZ 32 [] [] []
def dl:Option (Int⊕(Unit⊕(Unit))):=
 if(decide (t17<t16))=true then
  (fy t15 t17).bind fun x4=>
  (fy s2 t17).bind fun x5=>
  (vJ R133 x4 x5).bind fun r6=>
  if(!r6)=true then
   some (.inr (.inl ()))
  else
   some (.inl (bN (t17+1)))
 else
  some (.inr (.inr ()))
def jP:Option (Unit⊕(Unit)):=loop (fun(zz:Int)=>dl R133 s2 t15 t16 zz) t17
theorem uQ(hR133:ja R133){y:Int⊕(Unit⊕(Unit))}(h:dl R133 s2 t15 t16 t17=some y):aU Pg GE 0 (cA qaN 119) (LQ (fun(zz:Int)=>ej s2 t15 t16 zz) ek dm y) (ej s2 t15 t16 t17):=by
 rcases aH h with⟨c3,h⟩|⟨c3,h⟩
 ·obtain⟨x4,bx4,h⟩:=aG h
  obtain⟨x5,bx5,h⟩:=aG h
  obtain⟨r6,br6,h⟩:=aG h
  have p8:=fun{sc F} (r:PS sc F)=>sg 0 c3<|sv (dZ.ia (k:=.i64) bx4)<|sv (mt x4)<|sx Ip<|sx (iV x4)<|sv (dZ.ia (k:=.i64) bx5)<|sv (mt x5)<|sx Ip<|sx (iV x5)<|sv (HT x4 [])<|sv (HT x5 [])<|cm (JX R133 hR133 br6)<|r
  rcases aH h with⟨c7,h⟩|⟨c7,h⟩
  ·obtain rfl:=lf h
   have z:=p8<|sg 0 c7<|vY 0 (ek (.inl ())) (dm (.inl ())) rfl (dI (aI trivial trivial)) trivial
   exact ql (A:=ZR) mixed (by intro hx;cases hx) z<|by kernel_rfl
  ·obtain rfl:=lf h
   have z:=p8<|sg 0 c7<|vY 0 .normal (ej s2 t15 t16 (bN (t17+1))) rfl (dI (aI (up (aw bE s2)) (aI (aI trivial trivial) (aI (up (aw bE t15)) (aI trivial (aI trivial trivial)))))) trivial
   exact eA (A:=ZR) mixed z<|by kernel_rfl
 ·obtain rfl:=lf h
  have z:=sg 0 c3<|eF (ek (.inr ())) (dm (.inr ()))
  exact gu ZR (by intro hx;cases hx) z<|by kernel_rfl
theorem mh(hR133:ja R133){x:Unit⊕(Unit)}(h:jP R133 s2 t15 t16 t17=some x):aU Pg GE 0 (.loop (cA qaN 119)) (EX (ek x) (dm x)) (ej s2 t15 t16 t17):=
 aU.loop (S:=fun(zz:Int)=>ej s2 t15 t16 zz) (ex:=ek) (s:=t17) h fun zz y hy=>uQ R133 s2 t15 t16 zz hR133 hy
end
def iE(R133:fi)(s1:waC)(s2:waC):Option Bool:=
 if((s1.length:Int)!=(s2.length:Int))=true then
  some false
 else
  (jP R133 s2 s1 (s1.length:Int) 0).bind fun o9=>match o9 with
  |(.inl o9)=>
   some false
  |(.inr o9)=>
   some true
theorem y5(R133:fi)(hR133:ja R133){s1:waC}{s2:waC}{r:Bool}(h:iE R133 s1 s2=some r):CC Pg GE 75 [sl aF s1,sl aF s2,.func (.func 76) [] []] (.bool r) []:=by
 have p2:=fun{sc F} (r:PS sc F)=>bF (dZ.ln s1)<|bF (dZ.ln s2)<|r
 rcases aH h with⟨c1,h⟩|⟨c1,h⟩
 ·obtain rfl:=lf h
  have z:=p2<|sg 0 c1<|en (aI (rP (.bool false))<|trivial)
  exact bI ZR call75 func75 (c:=qaN) rfl (aI (aw bE s1) (aI (aw bE s2) (aI (aI trivial trivial) trivial))) z<|by kernel_rfl
 ·obtain⟨o9,bo9,h⟩:=aG h
  rcases o9 with o9|o9
  ·obtain rfl:=lf h
   have z:=p2<|sg 0 c1<|bF (dZ.ln s1)<|cK (e:=.ret) (s1:=dm (.inl o9)) (mh R133 s2 s1 (s1.length:Int) 0 hR133 bo9)<|en (aI (rP (.bool false))<|trivial)
   exact bI ZR call75 func75 (c:=qaN) rfl (aI (aw bE s1) (aI (aw bE s2) (aI (aI trivial trivial) trivial))) z<|by kernel_rfl
  ·obtain rfl:=lf h
   have z:=p2<|sg 0 c1<|bF (dZ.ln s1)<|cK (e:=.exit 0) (s1:=dm (.inr o9)) (mh R133 s2 s1 (s1.length:Int) 0 hR133 bo9)<|en (aI (rP (.bool true))<|trivial)
   exact bI ZR call75 func75 (c:=qaN) rfl (aI (aw bE s1) (aI (aw bE s2) (aI (aI trivial trivial) trivial))) z<|by kernel_rfl
noncomputable def Zd:Code:=f23.body.getD .skip
def YV:List Nat:=[]
def vK (R133:fi) (a:af) (a2:af):Option Bool :=
 if (a.Op == a2.Op) = true then
  if (a.Name == a2.Name) = true then
   if (a.N == a2.N) = true then
    (jZ R133 a.Kids a2.Kids).bind fun r7=>
    if r7=true then
     (fc iQ a.Types a2.Types).bind fun r10=>
     if r10=true then
      (iD a.Params a2.Params).bind fun r13=>
      if r13=true then
       (iE R133 a.Alts a2.Alts).bind fun r16=>
       some r16
      else
       some false
     else
      some false
    else
     some false
   else
    some false
  else
   some false
 else
  some false
theorem Lq(R133:fi)(hR133:ja R133){a:af}{a2:af}{r:Bool}(h:vK R133 a a2=some r):CC Pg GE 23 [.agg (ac a),.agg (ac a2)] (.bool r) []:=by
 have p2:=fun{sc F} (r:PS sc F)=>se (bX a)<|se (bX a2)<|sv (cp a)<|sv (cq a)<|sv (cp a2)<|sv (cq a2)<|r
 rcases aH h with⟨c1,h⟩|⟨c1,h⟩
 ·have p4:=fun{sc F} (r:PS sc F)=>p2<|sg 6 c1<|sv (dq a)<|sv (d8 a)<|sv (dq a2)<|sv (d8 a2)<|r
  rcases aH h with⟨c3,h⟩|⟨c3,h⟩
  ·have p6:=fun{sc F} (r:PS sc F)=>p4<|sg 13 c3<|sv (dg a)<|sv (dH a)<|sv (dg a2)<|sv (dH a2)<|r
   rcases aH h with⟨c5,h⟩|⟨c5,h⟩
   ·obtain⟨r7,br7,h⟩:=aG h
    have p9:=fun{sc F} (r:PS sc F)=>p6<|sg 20 c5<|sv (a8 a)<|sv (be a)<|sv (a8 a2)<|sv (be a2)<|cm (AX R133 hR133 br7)<|r
    rcases aH h with⟨c8,h⟩|⟨c8,h⟩
    ·obtain⟨r10,br10,h⟩:=aG h
     have p12:=fun{sc F} (r:PS sc F)=>p9<|sg 27 c8<|sv (aJ a)<|sv (aK a)<|sv (aJ a2)<|sv (aK a2)<|cm (mZ iQ (fun _ _ _ h=>rU h) br10)<|r
     rcases aH h with⟨c11,h⟩|⟨c11,h⟩
     ·obtain⟨r13,br13,h⟩:=aG h
      have p15:=fun{sc F} (r:PS sc F)=>p12<|sg 34 c11<|sv (ba a)<|sv (bh a)<|sv (ba a2)<|sv (bh a2)<|cm (y4 br13)<|r
      rcases aH h with⟨c14,h⟩|⟨c14,h⟩
      ·obtain⟨r16,br16,h⟩:=aG h
       obtain rfl:=lf h
       have z:=p15<|sg 41 c14<|sv (aD a)<|sv (aE a)<|sv (aD a2)<|sv (aE a2)<|cm (y5 R133 hR133 br16)<|en (aI (rP (.bool r16))<|trivial)
       exact bI YV call23 func23 (c:=Zd) rfl (aI (al a) (aI (al a2) trivial)) z<|by kernel_rfl
      ·obtain rfl:=lf h
       have z:=p15<|sg 41 c14<|en (aI (rP (.bool false))<|trivial)
       exact bI YV call23 func23 (c:=Zd) rfl (aI (al a) (aI (al a2) trivial)) z<|by kernel_rfl
     ·obtain rfl:=lf h
      have z:=p12<|sg 34 c11<|en (aI (rP (.bool false))<|trivial)
      exact bI YV call23 func23 (c:=Zd) rfl (aI (al a) (aI (al a2) trivial)) z<|by kernel_rfl
    ·obtain rfl:=lf h
     have z:=p9<|sg 27 c8<|en (aI (rP (.bool false))<|trivial)
     exact bI YV call23 func23 (c:=Zd) rfl (aI (al a) (aI (al a2) trivial)) z<|by kernel_rfl
   ·obtain rfl:=lf h
    have z:=p6<|sg 20 c5<|en (aI (rP (.bool false))<|trivial)
    exact bI YV call23 func23 (c:=Zd) rfl (aI (al a) (aI (al a2) trivial)) z<|by kernel_rfl
  ·obtain rfl:=lf h
   have z:=p4<|sg 13 c3<|en (aI (rP (.bool false))<|trivial)
   exact bI YV call23 func23 (c:=Zd) rfl (aI (al a) (aI (al a2) trivial)) z<|by kernel_rfl
 ·obtain rfl:=lf h
  have z:=p2<|sg 6 c1<|en (aI (rP (.bool false))<|trivial)
  exact bI YV call23 func23 (c:=Zd) rfl (aI (al a) (aI (al a2) trivial)) z<|by kernel_rfl
def AY:((af×af)->Option Bool)->(af×af)->Option Bool:=fun(rec:(af×af)->Option Bool) (x:af×af)=>vK (fun a a2=>rec (a,a2)) x.1 x.2
def Am(a:af)(a2:af):Option Bool:=sS AY (a,a2)
theorem EG{a:af}{a2:af}{r:Bool}(h:Am a a2=some r):CC Pg GE 23 [.agg (ac a),.agg (ac a2)] (.bool r) []:=
 eg (F:=AY) (M:=fun(x:af×af) (r:Bool)=>CC Pg GE 23 [.agg (ac x.1),.agg (ac x.2)] (.bool r) []) (fun rec hrec x r h=>Lq _ (fun a a2 r h=>hrec (a,a2) r h) h) h
noncomputable def b4:Code:=Tryz.f4.body.getD .skip
def A4:List Nat:=[]
section
variable(v:af)(v2:af)
def DZ:aB:=aZ 50 [(2,.eptr (ac v)),(3,.eptr (ac v2))] [.dead,.dead] []
def pk(o:Bool):aB:=aZ 50 [(2,.eptr (ac v)),(3,.eptr (ac v2)),(12,.bool o)] [.dead,.dead] []
def rN:Option Bool:=
 (Bg v).bind fun r1=>
 if(!r1)=true then
  some true
 else
  (Bg v2).bind fun r4=>
  some (!r4)
theorem C2{x:Bool}(h:rN v v2=some x):aU Pg GE 0 (cA b4 12) (EX .normal (pk v v2 x)) (DZ v v2):=by
 obtain⟨r1,br1,h⟩:=aG h
 have p3:=fun{sc F} (r:PS sc F)=>sv (aX v)<|cm (Hw br1)<|r
 rcases aH h with⟨c2,h⟩|⟨c2,h⟩
 ·obtain rfl:=lf h
  exact aY A4 (p3<|sg 4 c2<|eF .normal (pk v v2 true))<|by kernel_rfl
 ·obtain⟨r4,br4,h⟩:=aG h
  obtain rfl:=lf h
  exact aY A4 (p3<|sg 4 c2<|sv (aX v2)<|cm (Hw br4)<|eF .normal (pk v v2 (!r4)))<|by kernel_rfl
end
def wG (a:af) (a2:af):Option Bool :=
 (rN a a2).bind fun o5=>
 if o5=true then
  EW.bind fun r8=>
  some r8
 else
  (pT a).bind fun r9=>
  (EQ a).bind fun r10=>
  if (r9 == r10) = true then
   (pU a).bind fun r13=>
   (ES a).bind fun r14=>
   if (r13 == r14) = true then
    (tE a).bind fun r17=>
    (ER a).bind fun r18=>
    if (r17 == r18) = true then
     (Am a a2).bind fun r21=>
     (DH a a2).bind fun r22=>
     if(r21==r22)=true then
      (Am a a).bind fun r25=>
      if r25=true then
       EW.bind fun r28=>
       some r28
      else
       some false
     else
      some false
    else
     some false
   else
    some false
  else
   some false
theorem Gv{a:af}{a2:af}{r:Bool}(h:wG a a2=some r):CC Pg GE 4 [.agg (ac a),.agg (ac a2)] (.bool r) []:=by
 obtain⟨o5,bo5,h⟩:=aG h
 have p7:=fun{sc F} (r:PS sc F)=>se (bX a)<|se (bX a2)<|nN 1<|cK (C2 a a2 bo5)<|r
 rcases aH h with⟨c6,h⟩|⟨c6,h⟩
 ·obtain⟨r8,br8,h⟩:=aG h
  obtain rfl:=lf h
  have z:=p7<|sg 0 c6<|cm (Hv br8)<|en (aI (rP (.bool r8))<|trivial)
  exact bI A4 call4 func4 (c:=b4) rfl (aI (al a) (aI (al a2) trivial)) z<|by kernel_rfl
 ·obtain⟨r9,br9,h⟩:=aG h
  obtain⟨r10,br10,h⟩:=aG h
  have p12:=fun{sc F} (r:PS sc F)=>p7<|sg 0 c6<|OO [0,1,0,7,15,31,63,127,63,511,1023,2047,4095,8191,16383,8191,65535,131071,262143,524287,1048575,1048575,4194303,1048575,1048575,33554431,67108863,134217727,268435455,536870911,536870911,2147483647,4294967295,8589934591,17179869183,34359738367,68719476735]<|sv (aX a)<|cm (wO br9)<|sv (aX a)<|cm (P3 br10)<|r
  rcases aH h with⟨c11,h⟩|⟨c11,h⟩
  ·obtain⟨r13,br13,h⟩:=aG h
   obtain⟨r14,br14,h⟩:=aG h
   have p16:=fun{sc F} (r:PS sc F)=>p12<|sg 6 c11<|sv (aX a)<|cm (wQ br13)<|sv (aX a)<|cm (Hn br14)<|r
   rcases aH h with⟨c15,h⟩|⟨c15,h⟩
   ·obtain⟨r17,br17,h⟩:=aG h
    obtain⟨r18,br18,h⟩:=aG h
    have p20:=fun{sc F} (r:PS sc F)=>p16<|sg 13 c15<|sv (aX a)<|cm (wP br17)<|sv (aX a)<|cm (Hm br18)<|r
    rcases aH h with⟨c19,h⟩|⟨c19,h⟩
    ·obtain⟨r21,br21,h⟩:=aG h
     obtain⟨r22,br22,h⟩:=aG h
     have p24:=fun{sc F} (r:PS sc F)=>p20<|sg 20 c19<|sv (aX a)<|sv (aX a2)<|cm (EG br21)<|sv (aX a)<|sv (aX a2)<|cm (DQ br22)<|r
     rcases aH h with⟨c23,h⟩|⟨c23,h⟩
     ·obtain⟨r25,br25,h⟩:=aG h
      have p27:=fun{sc F} (r:PS sc F)=>p24<|sg 29 c23<|sv (aX a)<|sv (aX a)<|cm (EG br25)<|r
      rcases aH h with⟨c26,h⟩|⟨c26,h⟩
      ·obtain⟨r28,br28,h⟩:=aG h
       obtain rfl:=lf h
       have z:=p27<|sg 34 c26<|cm (Hv br28)<|en (aI (rP (.bool r28))<|trivial)
       exact bI A4 call4 func4 (c:=b4) rfl (aI (al a) (aI (al a2) trivial)) z<|by kernel_rfl
      ·obtain rfl:=lf h
       have z:=p27<|sg 34 c26<|en (aI (rP (.bool false))<|trivial)
       exact bI A4 call4 func4 (c:=b4) rfl (aI (al a) (aI (al a2) trivial)) z<|by kernel_rfl
     ·obtain rfl:=lf h
      have z:=p24<|sg 29 c23<|en (aI (rP (.bool false))<|trivial)
      exact bI A4 call4 func4 (c:=b4) rfl (aI (al a) (aI (al a2) trivial)) z<|by kernel_rfl
    ·obtain rfl:=lf h
     have z:=p20<|sg 20 c19<|en (aI (rP (.bool false))<|trivial)
     exact bI A4 call4 func4 (c:=b4) rfl (aI (al a) (aI (al a2) trivial)) z<|by kernel_rfl
   ·obtain rfl:=lf h
    have z:=p16<|sg 13 c15<|en (aI (rP (.bool false))<|trivial)
    exact bI A4 call4 func4 (c:=b4) rfl (aI (al a) (aI (al a2) trivial)) z<|by kernel_rfl
  ·obtain rfl:=lf h
   have z:=p12<|sg 6 c11<|en (aI (rP (.bool false))<|trivial)
   exact bI A4 call4 func4 (c:=b4) rfl (aI (al a) (aI (al a2) trivial)) z<|by kernel_rfl
open Go
mutual
def nP:az->Nat
 |⟨_,_,_,ks⟩=>nL ks+1
def nL:List az->Nat
 |[]=>0
 |p::ps=>nP p+nL ps
end
theorem Sb(p:az):nP p=nL p.Kids+1:=by obtain⟨o,n,k,ks⟩:=p;rw[nP];rfl
theorem WS(p:az):1<=nP p:=by rw[Sb];omega
theorem WR:∀{l:List az} {x:az},x∈l->nP x<=nL l
 | y :: l,x,h => by
  rw[nL]
  rcases vaC.1 h with rfl|h
  ·omega
  ·have:=WR h;omega
theorem QI:∀(l:List az),l.length<=nL l
 |[]=>by simp[nL]
 |p::l=>by rw[nL];have:=QI l;have:=WS p;simp only[vaL];omega
theorem QB{p x:az}(h:x∈p.Kids):nP x<nP p:=by rw[Sb p];have:=WR h;omega
theorem R6(p:az):p.Kids.length<nP p:=by rw[Sb];have:=QI p.Kids;omega
theorem Pl:∀(a b:List az),nL (a++b)=nL a+nL b
 |[],b=>by simp[nL]
 |p::a,b=>by rw[va4,nL,Pl a b,nL];omega
mutual
theorem YJ:∀(p:az),nP p<=kX (ay p)
 |⟨o,n,k,ks⟩=>by
  have:=Ud ks
  rw[nP,fa]
  simp only[kX,pm,sl]
  show nL ks+1<=1+(n.length+1+(1+(cU (ks.map ay)+1+0)))
  omega
theorem Ud:∀(l:List az),nL l<=cU (l.map ay)
 |[]=>by simp[nL]
 |p::l=>by
  have:=YJ p
  have:=Ud l
  rw[nL]
  simp only[vaB,cU]
  omega
end
mutual
def qcy:az->az->Bool
 |⟨o,n,k,ks⟩,⟨o',n',k',ks'⟩=>(o==o')&&((n==n')&&((k==k')&&Zt ks ks'))
def Zt:List az->List az->Bool
 |[],[]=>true
 |x::xs,y::ys=>qcy x y&&Zt xs ys
 |_,_=>false
end
mutual
theorem TY:∀(a b:az),qcy a b=true↔a=b
 |⟨o,n,k,ks⟩,⟨o',n',k',ks'⟩=>by
  rw[qcy]
  have:=TX ks ks'
  simp only[vad,vaW,this,az.mk.injEq]
theorem TX:∀(a b:List az),Zt a b=true↔a=b
 |[],[]=>by simp[Zt]
 |x::xs,y::ys=>by
  rw[Zt]
  have h1:=TY x y
  have h2:=TX xs ys
  simp only[vad,h1,h2,vbB]
 |[],y::ys=>by simp[Zt]
 |x::xs,[]=>by simp[Zt]
end
instance:DecidableEq az:=fun a b=>decidable_of_iff _ (TY a b)
theorem UV(p:az):(⟨p.Op,p.Name,p.N,p.Kids⟩:az)=p:=by cases p;rfl
theorem BQ{a b:az}:a=b↔a.Op=b.Op/\a.Name=b.Name/\a.N=b.N/\a.Kids=b.Kids:=by
 cases a;cases b
 simp only[az.mk.injEq]
 rfl
theorem Uu{α:Type}[DecidableEq α]:∀{a b:List α},a.length=b.length->(a.zip b).any (fun x=>decide (x.1≠x.2))= !decide (a=b)
 |[],[],_=>by simp
 |x::a,y::b,h=>by
  have ih:=Uu (a:=a) (b:=b) (by simpa using h)
  rw[List.zip_cons_cons,List.any_cons,ih]
  by_cases h1:x=y<;>by_cases h2:a=b<;>simp[h1,h2]
theorem Br{α X:Type}[DecidableEq α]{a b:List α}(hl:a.length=b.length)(ha:a.length<9223372036854775808)(body:Int->Option (Int⊕X))(y e:X)
  (hin:∀(i:Nat) (h:i<a.length) (h':i<b.length),body i=some (if decide (a[i]=b[i])=true then .inl (bN ((i:Int)+1))else .inr y)) (hend:body a.length=some (.inr e)):loop body 0=some (if decide (a=b)=true then e else y):=by
 have hz:(a.zip b).length=a.length:=by simp[hl]
 have:=pp (a.zip b) (by omega) body (fun x=>decide (x.1≠x.2)) y e (fun i h=>?_) (by rw[hz];exact hend) 0 (vaN _)
 ·rw[vbi,Uu hl]at this
  rw[show((0:Nat):Int)=0 from rfl]at this
  rw[this]
  by_cases h:a=b<;>simp[h]
 ·have h1:i<a.length:=by omega
  have h2:i<b.length:=by omega
  rw[hin i h1 h2]
  have hzi:(a.zip b)[i]=(a[i],b[i]):=by simp
  rw[hzi]
  by_cases h:a[i]=b[i]<;>simp[h]
abbrev fB:Nat:=1073741824
theorem qk{n:Nat}(h:n<=fB):n<XX:=by have:=Zi;unfold fB at h;omega
theorem Wr{R:az->az->Option Bool}{a b:List az}(ha:a.length<=fB)(h:∀x∈a,∀y∈b,R x y=some (decide (x=y))):Cv R a b=some (decide (a=b)):=by
 unfold Cv
 by_cases hl:a.length=b.length
 ·rw[vas (by simp[hl])]
  unfold AV
  rw[Br hl (by unfold fB at ha;omega) (fun zz=>mW R a b (a.length:Int) zz) (.inl ()) (.inr ()) (fun i h1 h2=>?_) ?_]
  ·by_cases he:a=b<;>simp[he]
  ·unfold mW
   rw[vas (by simp)]
  ·unfold mW
   rw[vaq (by simp;omega),bo a i h1]
   simp only[vaa]
   rw[bo b i h2]
   simp only[vaa]
   rw[h _ (van h1) _ (van h2)]
   simp only[vaa]
   by_cases he:a[i]=b[i]<;>simp[he]
 ·rw[vaq (by simp;omega)]
  rw[decide_eq_false (fun he=>hl (by rw[he]))]
theorem Up(a b:az)(ha:nP a<=fB):Fh a b=some (decide (a=b)):=by
 refine vo (F:=Ew) (fun x=>nP x.1) (fun x=>nP x.1<=fB) (fun x=>decide (x.1=x.2)) (fun R x hx ih=>?_) (a,b) ha (qk ha)
 obtain⟨u,v⟩:=x
 have hx:nP u<=fB:=hx
 show Ai (fun a a2=>R (a,a2)) u v=some (decide (u=v))
 unfold Ai
 have hk:=R6 u
 by_cases h1:u.Op=v.Op
 ·by_cases h2:u.Name=v.Name
  ·by_cases h3:u.N=v.N
   ·rw[vaq (by simpa using h1),vaq (by simpa using h2),vaq (by simpa using h3)]
    rw[Wr (a:=u.Kids) (b:=v.Kids) (by omega) (fun x hxa y hyb=>ih (x,y) (QB hxa) (vbF (vaE (QB hxa) hx)))]
    simp[BQ (a:=u) (b:=v),h1,h2,h3]
   ·rw[vaq (by simpa using h1),vaq (by simpa using h2),vas (by simpa using h3)]
    simp[BQ (a:=u) (b:=v),h3]
  ·rw[vaq (by simpa using h1),vas (by simpa using h2)]
   simp[BQ (a:=u) (b:=v),h2]
 ·rw[vas (by simpa using h1)]
  simp[BQ (a:=u) (b:=v),h1]
theorem SB(a b:az)(hb:nP b<=fB):Hk a b=some (decide (a=b)):=by
 refine vo (F:=Gq) (fun x=>nP x.2) (fun x=>nP x.2<=fB) (fun x=>decide (x.1=x.2)) (fun R x hx ih=>?_) (a,b) hb (qk hb)
 obtain⟨u,v⟩:=x
 have hx:nP v<=fB:=hx
 show BZ (fun a a2=>R (a,a2)) u v=some (decide (u=v))
 unfold BZ Du
 have hk:=R6 v
 by_cases h1:u.Op=v.Op
 ·by_cases h2:u.Name=v.Name
  ·by_cases h3:u.N=v.N
   ·by_cases h4:u.Kids.length=v.Kids.length
    ·rw[vas (by simpa using h1),vas (by simpa using h2),vas (by simpa using h3)]
     simp only[h4,bne_self_eq_false,vaa,if_false,vaz]
     unfold Dv
     rw[<-h4,Br h4 (by unfold fB at hx;omega) _ (.inl ()) (.inr ()) (fun i g1 g2=>?_) ?_]
     ·by_cases he:u.Kids=v.Kids<;>simp[he,BQ (a:=u) (b:=v),h1,h2,h3]
     ·unfold u7
      rw[vas (by simp)]
     ·unfold u7
      rw[vaq (by simp;omega),bo u.Kids i g1]
      simp only[vaa]
      rw[bo v.Kids i g2]
      simp only[vaa]
      have hm:=van g2
      rw[ih (u.Kids[i],v.Kids[i]) (QB hm) (vbF (vaE (QB hm) hx))]
      by_cases he:u.Kids[i]=v.Kids[i]<;>simp[he]
    ·have hne:u≠v:=fun e=>h4 (by rw[e])
     rw[vas (by simpa using h1),vas (by simpa using h2),vas (by simpa using h3)]
     have hb:((u.Kids.length:Int)!=(v.Kids.length:Int))=true:=by simp;omega
     simp[hb,hne]
   ·have hne:u≠v:=fun e=>h3 (by rw[e])
    rw[vas (by simpa using h1),vas (by simpa using h2),vaq (by simpa using h3)]
    simp[hne]
  ·have hne:u≠v:=fun e=>h2 (by rw[e])
   rw[vas (by simpa using h1),vaq (by simpa using h2)]
   simp[hne]
 ·have hne:u≠v:=fun e=>h1 (by rw[e])
  rw[vaq (by simpa using h1)]
  simp[hne]
def qbw:az:=⟨0,[],0,[]⟩
theorem Yc:nP qbw<=fB:=by decide
theorem Yb(l:List az)(i:Nat)(h:i<l.length):nL (l.take (i+1))=nL (l.take i)+nP l[i]:=by
 rw[vav h,Pl]
 simp[nL]
def lW{α:Type}(o:Option α)(Q:α->Prop):Prop:=∃a,o=some a/\Q a
section
variable{α β σ τ X Y:Type}
theorem aC{a:α}{Q:α->Prop}(h:Q a):lW (some a) Q:=⟨a,rfl,h⟩
theorem Xr{o:Option α}{a:α}{Q:α->Prop}(e:o=some a)(h:Q a):lW o Q:=⟨a,e,h⟩
theorem aQ{o:Option α}{f:α->Option β}{R:α->Prop}{Q:β->Prop}(h:lW o R)(h':∀a,R a->lW (f a) Q):lW (o.bind f) Q:=by
 obtain⟨a,rfl,h⟩:=h
 exact h' a h
theorem jo{o:Option α}{a:α}{f:α->Option β}{Q:β->Prop}(e:o=some a)(h:lW (f a) Q):lW (o.bind f) Q:=by
 rw[e];exact h
theorem lW.mono{o:Option α}{Q R:α->Prop}(h:lW o Q)(h':∀a,Q a->R a):lW o R:=by
 obtain⟨a,e,h⟩:=h
 exact⟨a,e,h' a h⟩
theorem bL{c:Prop}[Decidable c]{a b:Option α}{Q:α->Prop}(h1:c->lW a Q)(h2:¬c->lW b Q):lW (if c then a else b) Q:=by
 by_cases h:c
 ·rw[vaq h];exact h1 h
 ·rw[vas h];exact h2 h
theorem Yz{o:Option α}{a:α}:lW o (fun x=>x=a)↔o=some a:=by
 constructor
 ·rintro⟨x,e,rfl⟩;exact e
 ·intro e;exact⟨a,e,rfl⟩
theorem EM{F:(X->Option Y)->X->Option Y}(μ:X->Nat)(P:X->Prop)(Q:X->Y->Prop)(h:∀(R:X->Option Y) x,P x->(∀y,μ y<μ x->P y->lW (R y) (Q y))->lW (F R x) (Q x))(x:X)(hx:P x)(hm:μ x<XX):lW (sS F x) (Q x):=by
 have key:∀n x,μ x<n->P x->lW (Z2 F n x) (Q x):=by
  intro n
  induction n with
  |zero=>intro x hx;omega
  |succ n ih=>intro x hx hq;exact h _ x hq fun y hy hqy=>ih y (by omega) hqy
 exact key _ x hm hx
theorem Fl(l:List α)(hl:l.length<9223372036854775808)(mk:Int->σ->τ){body:τ->Option (τ⊕X)}(I:Nat->σ->Prop){Q:X->Prop}
  (hin:∀(i:Nat) (h:i<l.length) s,I i s->lW (body (mk i s)) (fun r=>match r with|.inl t=>∃s',t=mk (bN ((i:Int)+1)) s'/\I (i+1) s'|.inr y=>Q y))
  (hend:∀s,I l.length s->lW (body (mk l.length s)) (fun r=>match r with|.inl _=>False|.inr y=>Q y)):∀s,I 0 s->lW (loop body (mk 0 s)) Q:=by
 have key:∀k i s,k+i=l.length->I i s->lW (loop body (mk (i:Int) s)) Q:=by
  intro k
  induction k with
  |zero=>
   intro i s hi hI
   have:i=l.length:=by omega
   subst this
   obtain⟨r,e,hr⟩:=hend s hI
   rw[jX,e]
   cases r with
   |inl _=>exact hr.elim
   |inr y=>exact⟨y,rfl,hr⟩
  | succ k ih =>
   intro i s hi hI
   obtain⟨r,e,hr⟩:=hin i (by omega) s hI
   rw[jX,e]
   cases r with
   |inl t=>
    obtain⟨s',rfl,hI'⟩:=hr
    simp only
    rw[cJ (by omega) (by omega),show((i:Int)+1)=((i+1:Nat):Int) by omega]
    exact ih (i+1) s' (by omega) hI'
   |inr y=>exact⟨y,rfl,hr⟩
 exact fun s hs=>key l.length 0 s (by omega) hs
end
section
variable{α β σ τ X Y:Type}
theorem PN(l:List α)(hl:l.length<9223372036854775808)(mk:Int->σ->τ){body:τ->Option (τ⊕X)}(k:Int->σ->α->Option (τ⊕X))(e:σ->X)(I:Nat->σ->Prop){Q:X->Prop}
  (hb:∀(i:Int) (s:σ),body (mk i s)=if decide (i<(l.length:Int))=true then(fy l i).bind (k i s)else some (.inr (e s)))
  (hin:∀(i:Nat) (h:i<l.length) s,I i s->lW (k i s l[i]) (fun r=>match r with|.inl t=>∃s',t=mk (bN ((i:Int)+1)) s'/\I (i+1) s'|.inr y=>Q y))
  (hend:∀s,I l.length s->Q (e s)):∀s,I 0 s->lW (loop body (mk 0 s)) Q:=
 Fl l hl mk I (fun i h s hs=>by
  rw[hb,vaq (by simp;omega),bo l i h]
  exact hin i h s hs) (fun s hs=>by
  rw[hb,vas (by simp)]
  exact⟨_,rfl,hend s hs⟩)
theorem VA(l:List α)(hl:l.length<9223372036854775808){body:Int->Option (Int⊕X)}(k:Int->α->Option (Int⊕X))(e:X)(I:Nat->Prop){Q:X->Prop}
  (hb:∀(i:Int),body i=if decide (i<(l.length:Int))=true then(fy l i).bind (k i)else some (.inr e))
  (hin:∀(i:Nat) (h:i<l.length),I i->lW (k i l[i]) (fun r=>match r with|.inl t=>t=bN ((i:Int)+1)/\I (i+1)|.inr y=>Q y))
  (hend:I l.length->Q e) (h0:I 0):lW (loop body 0) Q:=
 PN l hl (fun i (_:Unit)=>i) (fun i _=>k i) (fun _=>e) (fun i _=>I i) (fun i _=>hb i) (fun i h s hs=>(hin i h hs).mono fun r hr=>by
  cases r with
  |inl t=>exact⟨(),hr.1,hr.2⟩
  |inr y=>exact hr) (fun _ h=>hend h) () h0
end
set_option linter.unusedSimpArgs false
theorem UW(t:ak):(⟨t.Op,t.Name,t.Args,t.Names,t.Pred,t.Preds⟩:ak)=t:=by cases t;rfl
mutual
def xN:ak->Nat
 |⟨_,_,xs,ns,_,ps⟩=>mK xs+ns.length+ps.length+1
def mK:List ak->Nat
 |[]=>0
 |a::xs=>xN a+mK xs
end
theorem E8(t:ak):xN t=mK t.Args+t.Names.length+t.Preds.length+1:=by obtain⟨o,n,xs,ns,p,ps⟩:=t;rw[xN];rfl
theorem WL(t:ak):1<=xN t:=by rw[E8];omega
theorem Pf:∀{l:List ak} {x:ak},x∈l->xN x<=mK l
 | y :: l,x,h => by
  rw[mK]
  rcases vaC.1 h with rfl|h
  ·omega
  ·have:=Pf h;omega
theorem Pe:∀(l:List ak),l.length<=mK l
 |[]=>by simp[mK]
 |p::l=>by rw[mK];have:=Pe l;have:=WL p;simp only[vaL];omega
theorem Gx{t a:ak}(h:a∈t.Args):xN a<xN t:=by rw[E8 t];have:=Pf h;omega
theorem HB(t:ak):t.Args.length<xN t:=by rw[E8];have:=Pe t.Args;omega
theorem Pm(t:ak):t.Names.length<xN t:=by rw[E8];omega
theorem Pz(t:ak):t.Preds.length<xN t:=by rw[E8];omega
mutual
def Qb(Q:az->Prop):ak->Prop
 |⟨_,_,xs,_,p,ps⟩=>Q p/\(∀q∈ps,Q q)/\Kc Q xs
def Kc(Q:az->Prop):List ak->Prop
 |[]=>True
 |a::xs=>Qb Q a/\Kc Q xs
end
theorem Hx(Q:az->Prop)(t:ak):Qb Q t↔Q t.Pred/\(∀q∈t.Preds,Q q)/\Kc Q t.Args:=by obtain⟨o,n,xs,ns,p,ps⟩:=t;rw[Qb];rfl
theorem OU(Q:az->Prop):∀(l:List ak),Kc Q l↔∀t∈l,Qb Q t
 |[]=>by simp[Kc]
 |a::l=>by rw[Kc,OU Q l];simp
theorem V7{Q:az->Prop}{t a:ak}(h:Qb Q t)(ha:a∈t.Args):Qb Q a:=(OU Q _).1 ((Hx Q t).1 h).2.2 a ha
theorem YI(l:List az):l.length<=cU (l.map ay):=by
 have:=QI l
 have:=Ud l
 omega
theorem T6(l:List ah):l.length<=cU (l.map cS):=by
 have h:=Sp (l.map cS) (fun x hx=>by
  obtain⟨s,_,rfl⟩:=vah.1 hx
  simp only[cS,kX,pm];omega)
 rwa[vbD]at h
theorem Eu(t:ak):kX (aj t)=1+(pm (.str t.Name)+(pm (sl aj t.Args)+(pm (sl cS t.Names)+(1+(pm (.str t.Pred.Name)+(1+(pm (sl ay t.Pred.Kids)+(pm (sl ay t.Preds)+0)))))))):=by
 rw[ef];rfl
mutual
theorem T7:∀(t:ak),xN t<=kX (aj t)
 |⟨o,n,xs,ns,p,ps⟩=>by
  have h1:=R7 xs
  have h2:=YI ps
  have h3:=T6 ns
  rw[xN,Eu]
  show _<=1+(pm (.str n)+(pm (sl aj xs)+(pm (sl cS ns)+(1+(pm (.str p.Name)+(1+(pm (sl ay p.Kids)+(pm (sl ay ps)+0))))))))
  simp only[pm,sl]
  omega
theorem R7:∀(l:List ak),mK l<=cU (l.map aj)
 |[]=>by simp[mK]
 |a::l=>by
  have:=T7 a
  have:=R7 l
  rw[mK]
  simp only[vaB,cU]
  omega
end
theorem Yn(t:ak):nP t.Pred<=kX (aj t):=by
 have h:=Ud t.Pred.Kids
 rw[Sb,Eu]
 simp only[pm,sl]
 omega
mutual
theorem TS(B:Nat):∀(t:ak),kX (aj t)<=B->Qb (fun p=>nP p<=B) t
 |⟨o,n,xs,ns,p,ps⟩,h=>by
  have h0:=Yn ⟨o,n,xs,ns,p,ps⟩
  rw[Eu]at h h0
  have h:1+(pm (.str n)+(pm (sl aj xs)+(pm (sl cS ns)+(1+(pm (.str p.Name)+(1+(pm (sl ay p.Kids)+(pm (sl ay ps)+0))))))))<=B:=h
  have h0:nP p<=1+(pm (.str n)+(pm (sl aj xs)+(pm (sl cS ns)+(1+(pm (.str p.Name)+(1+(pm (sl ay p.Kids)+(pm (sl ay ps)+0)))))))):=h0
  simp only[pm,sl]at h h0
  rw[Qb]
  refine⟨by omega,fun q hq=>?_,Rv B xs (by omega)⟩
  have h1:=YJ q
  have h2:=Nm (vah.2 ⟨q,hq,rfl⟩:ay q∈ps.map ay)
  omega
theorem Rv(B:Nat):∀(l:List ak),cU (l.map aj)<=B->Kc (fun p=>nP p<=B) l
 |[],_=>trivial
 |a::xs,h=>by
  simp only[vaB,cU]at h
  rw[Kc]
  exact⟨TS B a (by omega),Rv B xs (by omega)⟩
end
end Go.Proofs.YtkdahfeiedaahaaGreatDoor
