/- PROVED: a part of the proof. Conditions: none. -/
import Derived.Test.YtkdahfeiedaahaaGreatDoorPkA16
noncomputable section
namespace Go.Proofs.YtkdahfeiedaahaaGreatDoor
open Go Go.Proofs.Tryz
set_option linter.unusedVariables false
set_option maxRecDepth 100000
noncomputable def S0:Code:=f66.body.getD .skip
def fT:List Nat:=[122,134,154]
section
variable(e:af)(ok:Bool)(m:Bool)(m2:Bool)(m3:Int)(m4:Int)(m5:Bool)(m6:Bool)(m7:Int)(m8:Int)(m9:Bool)
def J0:aB:=aZ 156 [(1,.eptr (ac e)),(3,.bptr 1 0),(4,.bool ok)] [.dead,.cells [.bool m,.bool m2,.int .i64 m3,.int .i64 m4,.bool m5,.bool m6,.int .i64 m7,.int .i64 m8,.bool m9] []] []
def ai(o:Bool):aB:=aZ 156 [(1,.eptr (ac e)),(3,.bptr 1 0),(4,.bool ok),(5,.bool o)] [.dead,.cells [.bool m,.bool m2,.int .i64 m3,.int .i64 m4,.bool m5,.bool m6,.int .i64 m7,.int .i64 m8,.bool m9] []] []
def tM:Option Bool:=
 if (!m) = true then
  if(e.N !=0)=true then
   some true
  else
   if (!m2) = true then
    if(!(e.Name==([]:ah)))=true then
     some true
    else
     if (m4 == 0) = true then
      if(decide ((e.Kids.length:Int)>0))=true then
       some true
      else
       if (!m5) = true then
        if(decide ((e.Params.length:Int)>0))=true then
         some true
        else
         if (!m6) = true then
          if(decide ((e.Alts.length:Int)>0))=true then
           some true
          else
           if(!m9)=true then
            some (decide ((e.Types.length:Int)>0))
           else
            some false
         else
          if(!m9)=true then
           some (decide ((e.Types.length:Int)>0))
          else
           some false
       else
        if (!m6) = true then
         if(decide ((e.Alts.length:Int)>0))=true then
          some true
         else
          if(!m9)=true then
           some (decide ((e.Types.length:Int)>0))
          else
           some false
        else
         if(!m9)=true then
          some (decide ((e.Types.length:Int)>0))
         else
          some false
     else
      if (!m5) = true then
       if(decide ((e.Params.length:Int)>0))=true then
        some true
       else
        if (!m6) = true then
         if(decide ((e.Alts.length:Int)>0))=true then
          some true
         else
          if(!m9)=true then
           some (decide ((e.Types.length:Int)>0))
          else
           some false
        else
         if(!m9)=true then
          some (decide ((e.Types.length:Int)>0))
         else
          some false
      else
       if (!m6) = true then
        if(decide ((e.Alts.length:Int)>0))=true then
         some true
        else
         if(!m9)=true then
          some (decide ((e.Types.length:Int)>0))
         else
          some false
       else
        if(!m9)=true then
         some (decide ((e.Types.length:Int)>0))
        else
         some false
   else
    if (m4 == 0) = true then
     if(decide ((e.Kids.length:Int)>0))=true then
      some true
     else
      if (!m5) = true then
       if(decide ((e.Params.length:Int)>0))=true then
        some true
       else
        if (!m6) = true then
         if(decide ((e.Alts.length:Int)>0))=true then
          some true
         else
          if(!m9)=true then
           some (decide ((e.Types.length:Int)>0))
          else
           some false
        else
         if(!m9)=true then
          some (decide ((e.Types.length:Int)>0))
         else
          some false
      else
       if (!m6) = true then
        if(decide ((e.Alts.length:Int)>0))=true then
         some true
        else
         if(!m9)=true then
          some (decide ((e.Types.length:Int)>0))
         else
          some false
       else
        if(!m9)=true then
         some (decide ((e.Types.length:Int)>0))
        else
         some false
    else
     if (!m5) = true then
      if(decide ((e.Params.length:Int)>0))=true then
       some true
      else
       if (!m6) = true then
        if(decide ((e.Alts.length:Int)>0))=true then
         some true
        else
         if(!m9)=true then
          some (decide ((e.Types.length:Int)>0))
         else
          some false
       else
        if(!m9)=true then
         some (decide ((e.Types.length:Int)>0))
        else
         some false
     else
      if (!m6) = true then
       if(decide ((e.Alts.length:Int)>0))=true then
        some true
       else
        if(!m9)=true then
         some (decide ((e.Types.length:Int)>0))
        else
         some false
      else
       if(!m9)=true then
        some (decide ((e.Types.length:Int)>0))
       else
        some false
 else
  if (!m2) = true then
   if(!(e.Name==([]:ah)))=true then
    some true
   else
    if (m4 == 0) = true then
     if(decide ((e.Kids.length:Int)>0))=true then
      some true
     else
      if (!m5) = true then
       if(decide ((e.Params.length:Int)>0))=true then
        some true
       else
        if (!m6) = true then
         if(decide ((e.Alts.length:Int)>0))=true then
          some true
         else
          if(!m9)=true then
           some (decide ((e.Types.length:Int)>0))
          else
           some false
        else
         if(!m9)=true then
          some (decide ((e.Types.length:Int)>0))
         else
          some false
      else
       if (!m6) = true then
        if(decide ((e.Alts.length:Int)>0))=true then
         some true
        else
         if(!m9)=true then
          some (decide ((e.Types.length:Int)>0))
         else
          some false
       else
        if(!m9)=true then
         some (decide ((e.Types.length:Int)>0))
        else
         some false
    else
     if (!m5) = true then
      if(decide ((e.Params.length:Int)>0))=true then
       some true
      else
       if (!m6) = true then
        if(decide ((e.Alts.length:Int)>0))=true then
         some true
        else
         if(!m9)=true then
          some (decide ((e.Types.length:Int)>0))
         else
          some false
       else
        if(!m9)=true then
         some (decide ((e.Types.length:Int)>0))
        else
         some false
     else
      if (!m6) = true then
       if(decide ((e.Alts.length:Int)>0))=true then
        some true
       else
        if(!m9)=true then
         some (decide ((e.Types.length:Int)>0))
        else
         some false
      else
       if(!m9)=true then
        some (decide ((e.Types.length:Int)>0))
       else
        some false
  else
   if (m4 == 0) = true then
    if(decide ((e.Kids.length:Int)>0))=true then
     some true
    else
     if (!m5) = true then
      if(decide ((e.Params.length:Int)>0))=true then
       some true
      else
       if (!m6) = true then
        if(decide ((e.Alts.length:Int)>0))=true then
         some true
        else
         if(!m9)=true then
          some (decide ((e.Types.length:Int)>0))
         else
          some false
       else
        if(!m9)=true then
         some (decide ((e.Types.length:Int)>0))
        else
         some false
     else
      if (!m6) = true then
       if(decide ((e.Alts.length:Int)>0))=true then
        some true
       else
        if(!m9)=true then
         some (decide ((e.Types.length:Int)>0))
        else
         some false
      else
       if(!m9)=true then
        some (decide ((e.Types.length:Int)>0))
       else
        some false
   else
    if (!m5) = true then
     if(decide ((e.Params.length:Int)>0))=true then
      some true
     else
      if (!m6) = true then
       if(decide ((e.Alts.length:Int)>0))=true then
        some true
       else
        if(!m9)=true then
         some (decide ((e.Types.length:Int)>0))
        else
         some false
      else
       if(!m9)=true then
        some (decide ((e.Types.length:Int)>0))
       else
        some false
    else
     if (!m6) = true then
      if(decide ((e.Alts.length:Int)>0))=true then
       some true
      else
       if(!m9)=true then
        some (decide ((e.Types.length:Int)>0))
       else
        some false
     else
      if(!m9)=true then
       some (decide ((e.Types.length:Int)>0))
      else
       some false
theorem ID {x:Bool} (h:tM e m m2 m4 m5 m6 m9 = some x) :aU Pg GE 0 (cA S0 14) (EX .normal (ai e ok m m2 m3 m4 m5 m6 m7 m8 m9 x)) (J0 e ok m m2 m3 m4 m5 m6 m7 m8 m9):=by
 rcases aH h with⟨c2,h⟩|⟨c2,h⟩
 ·have p4:=fun{sc F} (r:PS sc F)=>ss<|sg 4 c2<|sv (dg e)<|sv (dH e)<|r
  rcases aH h with⟨c3,h⟩|⟨c3,h⟩
  ·obtain rfl:=lf h
   exact aY fT (p4<|sg 9 c3<|eF .normal (ai e ok m m2 m3 m4 m5 m6 m7 m8 m9 true))<|by kernel_rfl
  ·have p6:=fun{sc F} (r:PS sc F)=>p4<|sg 9 c3<|ss<|r
   rcases aH h with⟨c5,h⟩|⟨c5,h⟩
   ·have p8:=fun{sc F} (r:PS sc F)=>p6<|sg 13 c5<|sv (dq e)<|sv (d8 e)<|r
    rcases aH h with⟨c7,h⟩|⟨c7,h⟩
    ·obtain rfl:=lf h
     exact aY fT (p8<|sg 19 c7<|eF .normal (ai e ok m m2 m3 m4 m5 m6 m7 m8 m9 true))<|by kernel_rfl
    ·have p10:=fun{sc F} (r:PS sc F)=>p8<|sg 19 c7<|ss<|r
     rcases aH h with⟨c9,h⟩|⟨c9,h⟩
     ·have p12:=fun{sc F} (r:PS sc F)=>p10<|sg 23 c9<|sv (a8 e)<|sv (be e)<|bF (eP.ln e.Kids)<|r
      rcases aH h with⟨c11,h⟩|⟨c11,h⟩
      ·obtain rfl:=lf h
       exact aY fT (p12<|sg 30 c11<|eF .normal (ai e ok m m2 m3 m4 m5 m6 m7 m8 m9 true))<|by kernel_rfl
      ·have p14:=fun{sc F} (r:PS sc F)=>p12<|sg 30 c11<|ss<|r
       rcases aH h with⟨c13,h⟩|⟨c13,h⟩
       ·have p16:=fun{sc F} (r:PS sc F)=>p14<|sg 34 c13<|sv (ba e)<|sv (bh e)<|bF (il.ln e.Params)<|r
        rcases aH h with⟨c15,h⟩|⟨c15,h⟩
        ·obtain rfl:=lf h
         exact aY fT (p16<|sg 41 c15<|eF .normal (ai e ok m m2 m3 m4 m5 m6 m7 m8 m9 true))<|by kernel_rfl
        ·have p18:=fun{sc F} (r:PS sc F)=>p16<|sg 41 c15<|ss<|r
         rcases aH h with⟨c17,h⟩|⟨c17,h⟩
         ·have p20:=fun{sc F} (r:PS sc F)=>p18<|sg 45 c17<|sv (aD e)<|sv (aE e)<|bF (dZ.ln e.Alts)<|r
          rcases aH h with⟨c19,h⟩|⟨c19,h⟩
          ·obtain rfl:=lf h
           exact aY fT (p20<|sg 52 c19<|eF .normal (ai e ok m m2 m3 m4 m5 m6 m7 m8 m9 true))<|by kernel_rfl
          ·have p22:=fun{sc F} (r:PS sc F)=>p20<|sg 52 c19<|ss<|r
           rcases aH h with⟨c21,h⟩|⟨c21,h⟩
           ·obtain rfl:=lf h
            exact aY fT (p22<|sg 56 c21<|sv (aJ e)<|sv (aK e)<|bF (db.ln e.Types)<|eF .normal (ai e ok m m2 m3 m4 m5 m6 m7 m8 m9 (decide ((e.Types.length:Int)>0))))<|by kernel_rfl
           ·obtain rfl:=lf h
            exact aY fT (p22<|sg 56 c21<|eF .normal (ai e ok m m2 m3 m4 m5 m6 m7 m8 m9 false))<|by kernel_rfl
         ·have p24:=fun{sc F} (r:PS sc F)=>p18<|sg 45 c17<|ss<|r
          rcases aH h with⟨c23,h⟩|⟨c23,h⟩
          ·obtain rfl:=lf h
           exact aY fT (p24<|sg 56 c23<|sv (aJ e)<|sv (aK e)<|bF (db.ln e.Types)<|eF .normal (ai e ok m m2 m3 m4 m5 m6 m7 m8 m9 (decide ((e.Types.length:Int)>0))))<|by kernel_rfl
          ·obtain rfl:=lf h
           exact aY fT (p24<|sg 56 c23<|eF .normal (ai e ok m m2 m3 m4 m5 m6 m7 m8 m9 false))<|by kernel_rfl
       ·have p26:=fun{sc F} (r:PS sc F)=>p14<|sg 34 c13<|ss<|r
        rcases aH h with⟨c25,h⟩|⟨c25,h⟩
        ·have p28:=fun{sc F} (r:PS sc F)=>p26<|sg 45 c25<|sv (aD e)<|sv (aE e)<|bF (dZ.ln e.Alts)<|r
         rcases aH h with⟨c27,h⟩|⟨c27,h⟩
         ·obtain rfl:=lf h
          exact aY fT (p28<|sg 52 c27<|eF .normal (ai e ok m m2 m3 m4 m5 m6 m7 m8 m9 true))<|by kernel_rfl
         ·have p30:=fun{sc F} (r:PS sc F)=>p28<|sg 52 c27<|ss<|r
          rcases aH h with⟨c29,h⟩|⟨c29,h⟩
          ·obtain rfl:=lf h
           exact aY fT (p30<|sg 56 c29<|sv (aJ e)<|sv (aK e)<|bF (db.ln e.Types)<|eF .normal (ai e ok m m2 m3 m4 m5 m6 m7 m8 m9 (decide ((e.Types.length:Int)>0))))<|by kernel_rfl
          ·obtain rfl:=lf h
           exact aY fT (p30<|sg 56 c29<|eF .normal (ai e ok m m2 m3 m4 m5 m6 m7 m8 m9 false))<|by kernel_rfl
        ·have p32:=fun{sc F} (r:PS sc F)=>p26<|sg 45 c25<|ss<|r
         rcases aH h with⟨c31,h⟩|⟨c31,h⟩
         ·obtain rfl:=lf h
          exact aY fT (p32<|sg 56 c31<|sv (aJ e)<|sv (aK e)<|bF (db.ln e.Types)<|eF .normal (ai e ok m m2 m3 m4 m5 m6 m7 m8 m9 (decide ((e.Types.length:Int)>0))))<|by kernel_rfl
         ·obtain rfl:=lf h
          exact aY fT (p32<|sg 56 c31<|eF .normal (ai e ok m m2 m3 m4 m5 m6 m7 m8 m9 false))<|by kernel_rfl
     ·have p34:=fun{sc F} (r:PS sc F)=>p10<|sg 23 c9<|ss<|r
      rcases aH h with⟨c33,h⟩|⟨c33,h⟩
      ·have p36:=fun{sc F} (r:PS sc F)=>p34<|sg 34 c33<|sv (ba e)<|sv (bh e)<|bF (il.ln e.Params)<|r
       rcases aH h with⟨c35,h⟩|⟨c35,h⟩
       ·obtain rfl:=lf h
        exact aY fT (p36<|sg 41 c35<|eF .normal (ai e ok m m2 m3 m4 m5 m6 m7 m8 m9 true))<|by kernel_rfl
       ·have p38:=fun{sc F} (r:PS sc F)=>p36<|sg 41 c35<|ss<|r
        rcases aH h with⟨c37,h⟩|⟨c37,h⟩
        ·have p40:=fun{sc F} (r:PS sc F)=>p38<|sg 45 c37<|sv (aD e)<|sv (aE e)<|bF (dZ.ln e.Alts)<|r
         rcases aH h with⟨c39,h⟩|⟨c39,h⟩
         ·obtain rfl:=lf h
          exact aY fT (p40<|sg 52 c39<|eF .normal (ai e ok m m2 m3 m4 m5 m6 m7 m8 m9 true))<|by kernel_rfl
         ·have p42:=fun{sc F} (r:PS sc F)=>p40<|sg 52 c39<|ss<|r
          rcases aH h with⟨c41,h⟩|⟨c41,h⟩
          ·obtain rfl:=lf h
           exact aY fT (p42<|sg 56 c41<|sv (aJ e)<|sv (aK e)<|bF (db.ln e.Types)<|eF .normal (ai e ok m m2 m3 m4 m5 m6 m7 m8 m9 (decide ((e.Types.length:Int)>0))))<|by kernel_rfl
          ·obtain rfl:=lf h
           exact aY fT (p42<|sg 56 c41<|eF .normal (ai e ok m m2 m3 m4 m5 m6 m7 m8 m9 false))<|by kernel_rfl
        ·have p44:=fun{sc F} (r:PS sc F)=>p38<|sg 45 c37<|ss<|r
         rcases aH h with⟨c43,h⟩|⟨c43,h⟩
         ·obtain rfl:=lf h
          exact aY fT (p44<|sg 56 c43<|sv (aJ e)<|sv (aK e)<|bF (db.ln e.Types)<|eF .normal (ai e ok m m2 m3 m4 m5 m6 m7 m8 m9 (decide ((e.Types.length:Int)>0))))<|by kernel_rfl
         ·obtain rfl:=lf h
          exact aY fT (p44<|sg 56 c43<|eF .normal (ai e ok m m2 m3 m4 m5 m6 m7 m8 m9 false))<|by kernel_rfl
      ·have p46:=fun{sc F} (r:PS sc F)=>p34<|sg 34 c33<|ss<|r
       rcases aH h with⟨c45,h⟩|⟨c45,h⟩
       ·have p48:=fun{sc F} (r:PS sc F)=>p46<|sg 45 c45<|sv (aD e)<|sv (aE e)<|bF (dZ.ln e.Alts)<|r
        rcases aH h with⟨c47,h⟩|⟨c47,h⟩
        ·obtain rfl:=lf h
         exact aY fT (p48<|sg 52 c47<|eF .normal (ai e ok m m2 m3 m4 m5 m6 m7 m8 m9 true))<|by kernel_rfl
        ·have p50:=fun{sc F} (r:PS sc F)=>p48<|sg 52 c47<|ss<|r
         rcases aH h with⟨c49,h⟩|⟨c49,h⟩
         ·obtain rfl:=lf h
          exact aY fT (p50<|sg 56 c49<|sv (aJ e)<|sv (aK e)<|bF (db.ln e.Types)<|eF .normal (ai e ok m m2 m3 m4 m5 m6 m7 m8 m9 (decide ((e.Types.length:Int)>0))))<|by kernel_rfl
         ·obtain rfl:=lf h
          exact aY fT (p50<|sg 56 c49<|eF .normal (ai e ok m m2 m3 m4 m5 m6 m7 m8 m9 false))<|by kernel_rfl
       ·have p52:=fun{sc F} (r:PS sc F)=>p46<|sg 45 c45<|ss<|r
        rcases aH h with⟨c51,h⟩|⟨c51,h⟩
        ·obtain rfl:=lf h
         exact aY fT (p52<|sg 56 c51<|sv (aJ e)<|sv (aK e)<|bF (db.ln e.Types)<|eF .normal (ai e ok m m2 m3 m4 m5 m6 m7 m8 m9 (decide ((e.Types.length:Int)>0))))<|by kernel_rfl
        ·obtain rfl:=lf h
         exact aY fT (p52<|sg 56 c51<|eF .normal (ai e ok m m2 m3 m4 m5 m6 m7 m8 m9 false))<|by kernel_rfl
   ·have p54:=fun{sc F} (r:PS sc F)=>p6<|sg 13 c5<|ss<|r
    rcases aH h with⟨c53,h⟩|⟨c53,h⟩
    ·have p56:=fun{sc F} (r:PS sc F)=>p54<|sg 23 c53<|sv (a8 e)<|sv (be e)<|bF (eP.ln e.Kids)<|r
     rcases aH h with⟨c55,h⟩|⟨c55,h⟩
     ·obtain rfl:=lf h
      exact aY fT (p56<|sg 30 c55<|eF .normal (ai e ok m m2 m3 m4 m5 m6 m7 m8 m9 true))<|by kernel_rfl
     ·have p58:=fun{sc F} (r:PS sc F)=>p56<|sg 30 c55<|ss<|r
      rcases aH h with⟨c57,h⟩|⟨c57,h⟩
      ·have p60:=fun{sc F} (r:PS sc F)=>p58<|sg 34 c57<|sv (ba e)<|sv (bh e)<|bF (il.ln e.Params)<|r
       rcases aH h with⟨c59,h⟩|⟨c59,h⟩
       ·obtain rfl:=lf h
        exact aY fT (p60<|sg 41 c59<|eF .normal (ai e ok m m2 m3 m4 m5 m6 m7 m8 m9 true))<|by kernel_rfl
       ·have p62:=fun{sc F} (r:PS sc F)=>p60<|sg 41 c59<|ss<|r
        rcases aH h with⟨c61,h⟩|⟨c61,h⟩
        ·have p64:=fun{sc F} (r:PS sc F)=>p62<|sg 45 c61<|sv (aD e)<|sv (aE e)<|bF (dZ.ln e.Alts)<|r
         rcases aH h with⟨c63,h⟩|⟨c63,h⟩
         ·obtain rfl:=lf h
          exact aY fT (p64<|sg 52 c63<|eF .normal (ai e ok m m2 m3 m4 m5 m6 m7 m8 m9 true))<|by kernel_rfl
         ·have p66:=fun{sc F} (r:PS sc F)=>p64<|sg 52 c63<|ss<|r
          rcases aH h with⟨c65,h⟩|⟨c65,h⟩
          ·obtain rfl:=lf h
           exact aY fT (p66<|sg 56 c65<|sv (aJ e)<|sv (aK e)<|bF (db.ln e.Types)<|eF .normal (ai e ok m m2 m3 m4 m5 m6 m7 m8 m9 (decide ((e.Types.length:Int)>0))))<|by kernel_rfl
          ·obtain rfl:=lf h
           exact aY fT (p66<|sg 56 c65<|eF .normal (ai e ok m m2 m3 m4 m5 m6 m7 m8 m9 false))<|by kernel_rfl
        ·have p68:=fun{sc F} (r:PS sc F)=>p62<|sg 45 c61<|ss<|r
         rcases aH h with⟨c67,h⟩|⟨c67,h⟩
         ·obtain rfl:=lf h
          exact aY fT (p68<|sg 56 c67<|sv (aJ e)<|sv (aK e)<|bF (db.ln e.Types)<|eF .normal (ai e ok m m2 m3 m4 m5 m6 m7 m8 m9 (decide ((e.Types.length:Int)>0))))<|by kernel_rfl
         ·obtain rfl:=lf h
          exact aY fT (p68<|sg 56 c67<|eF .normal (ai e ok m m2 m3 m4 m5 m6 m7 m8 m9 false))<|by kernel_rfl
      ·have p70:=fun{sc F} (r:PS sc F)=>p58<|sg 34 c57<|ss<|r
       rcases aH h with⟨c69,h⟩|⟨c69,h⟩
       ·have p72:=fun{sc F} (r:PS sc F)=>p70<|sg 45 c69<|sv (aD e)<|sv (aE e)<|bF (dZ.ln e.Alts)<|r
        rcases aH h with⟨c71,h⟩|⟨c71,h⟩
        ·obtain rfl:=lf h
         exact aY fT (p72<|sg 52 c71<|eF .normal (ai e ok m m2 m3 m4 m5 m6 m7 m8 m9 true))<|by kernel_rfl
        ·have p74:=fun{sc F} (r:PS sc F)=>p72<|sg 52 c71<|ss<|r
         rcases aH h with⟨c73,h⟩|⟨c73,h⟩
         ·obtain rfl:=lf h
          exact aY fT (p74<|sg 56 c73<|sv (aJ e)<|sv (aK e)<|bF (db.ln e.Types)<|eF .normal (ai e ok m m2 m3 m4 m5 m6 m7 m8 m9 (decide ((e.Types.length:Int)>0))))<|by kernel_rfl
         ·obtain rfl:=lf h
          exact aY fT (p74<|sg 56 c73<|eF .normal (ai e ok m m2 m3 m4 m5 m6 m7 m8 m9 false))<|by kernel_rfl
       ·have p76:=fun{sc F} (r:PS sc F)=>p70<|sg 45 c69<|ss<|r
        rcases aH h with⟨c75,h⟩|⟨c75,h⟩
        ·obtain rfl:=lf h
         exact aY fT (p76<|sg 56 c75<|sv (aJ e)<|sv (aK e)<|bF (db.ln e.Types)<|eF .normal (ai e ok m m2 m3 m4 m5 m6 m7 m8 m9 (decide ((e.Types.length:Int)>0))))<|by kernel_rfl
        ·obtain rfl:=lf h
         exact aY fT (p76<|sg 56 c75<|eF .normal (ai e ok m m2 m3 m4 m5 m6 m7 m8 m9 false))<|by kernel_rfl
    ·have p78:=fun{sc F} (r:PS sc F)=>p54<|sg 23 c53<|ss<|r
     rcases aH h with⟨c77,h⟩|⟨c77,h⟩
     ·have p80:=fun{sc F} (r:PS sc F)=>p78<|sg 34 c77<|sv (ba e)<|sv (bh e)<|bF (il.ln e.Params)<|r
      rcases aH h with⟨c79,h⟩|⟨c79,h⟩
      ·obtain rfl:=lf h
       exact aY fT (p80<|sg 41 c79<|eF .normal (ai e ok m m2 m3 m4 m5 m6 m7 m8 m9 true))<|by kernel_rfl
      ·have p82:=fun{sc F} (r:PS sc F)=>p80<|sg 41 c79<|ss<|r
       rcases aH h with⟨c81,h⟩|⟨c81,h⟩
       ·have p84:=fun{sc F} (r:PS sc F)=>p82<|sg 45 c81<|sv (aD e)<|sv (aE e)<|bF (dZ.ln e.Alts)<|r
        rcases aH h with⟨c83,h⟩|⟨c83,h⟩
        ·obtain rfl:=lf h
         exact aY fT (p84<|sg 52 c83<|eF .normal (ai e ok m m2 m3 m4 m5 m6 m7 m8 m9 true))<|by kernel_rfl
        ·have p86:=fun{sc F} (r:PS sc F)=>p84<|sg 52 c83<|ss<|r
         rcases aH h with⟨c85,h⟩|⟨c85,h⟩
         ·obtain rfl:=lf h
          exact aY fT (p86<|sg 56 c85<|sv (aJ e)<|sv (aK e)<|bF (db.ln e.Types)<|eF .normal (ai e ok m m2 m3 m4 m5 m6 m7 m8 m9 (decide ((e.Types.length:Int)>0))))<|by kernel_rfl
         ·obtain rfl:=lf h
          exact aY fT (p86<|sg 56 c85<|eF .normal (ai e ok m m2 m3 m4 m5 m6 m7 m8 m9 false))<|by kernel_rfl
       ·have p88:=fun{sc F} (r:PS sc F)=>p82<|sg 45 c81<|ss<|r
        rcases aH h with⟨c87,h⟩|⟨c87,h⟩
        ·obtain rfl:=lf h
         exact aY fT (p88<|sg 56 c87<|sv (aJ e)<|sv (aK e)<|bF (db.ln e.Types)<|eF .normal (ai e ok m m2 m3 m4 m5 m6 m7 m8 m9 (decide ((e.Types.length:Int)>0))))<|by kernel_rfl
        ·obtain rfl:=lf h
         exact aY fT (p88<|sg 56 c87<|eF .normal (ai e ok m m2 m3 m4 m5 m6 m7 m8 m9 false))<|by kernel_rfl
     ·have p90:=fun{sc F} (r:PS sc F)=>p78<|sg 34 c77<|ss<|r
      rcases aH h with⟨c89,h⟩|⟨c89,h⟩
      ·have p92:=fun{sc F} (r:PS sc F)=>p90<|sg 45 c89<|sv (aD e)<|sv (aE e)<|bF (dZ.ln e.Alts)<|r
       rcases aH h with⟨c91,h⟩|⟨c91,h⟩
       ·obtain rfl:=lf h
        exact aY fT (p92<|sg 52 c91<|eF .normal (ai e ok m m2 m3 m4 m5 m6 m7 m8 m9 true))<|by kernel_rfl
       ·have p94:=fun{sc F} (r:PS sc F)=>p92<|sg 52 c91<|ss<|r
        rcases aH h with⟨c93,h⟩|⟨c93,h⟩
        ·obtain rfl:=lf h
         exact aY fT (p94<|sg 56 c93<|sv (aJ e)<|sv (aK e)<|bF (db.ln e.Types)<|eF .normal (ai e ok m m2 m3 m4 m5 m6 m7 m8 m9 (decide ((e.Types.length:Int)>0))))<|by kernel_rfl
        ·obtain rfl:=lf h
         exact aY fT (p94<|sg 56 c93<|eF .normal (ai e ok m m2 m3 m4 m5 m6 m7 m8 m9 false))<|by kernel_rfl
      ·have p96:=fun{sc F} (r:PS sc F)=>p90<|sg 45 c89<|ss<|r
       rcases aH h with⟨c95,h⟩|⟨c95,h⟩
       ·obtain rfl:=lf h
        exact aY fT (p96<|sg 56 c95<|sv (aJ e)<|sv (aK e)<|bF (db.ln e.Types)<|eF .normal (ai e ok m m2 m3 m4 m5 m6 m7 m8 m9 (decide ((e.Types.length:Int)>0))))<|by kernel_rfl
       ·obtain rfl:=lf h
        exact aY fT (p96<|sg 56 c95<|eF .normal (ai e ok m m2 m3 m4 m5 m6 m7 m8 m9 false))<|by kernel_rfl
 ·have p98:=fun{sc F} (r:PS sc F)=>ss<|sg 4 c2<|ss<|r
  rcases aH h with⟨c97,h⟩|⟨c97,h⟩
  ·have p100:=fun{sc F} (r:PS sc F)=>p98<|sg 13 c97<|sv (dq e)<|sv (d8 e)<|r
   rcases aH h with⟨c99,h⟩|⟨c99,h⟩
   ·obtain rfl:=lf h
    exact aY fT (p100<|sg 19 c99<|eF .normal (ai e ok m m2 m3 m4 m5 m6 m7 m8 m9 true))<|by kernel_rfl
   ·have p102:=fun{sc F} (r:PS sc F)=>p100<|sg 19 c99<|ss<|r
    rcases aH h with⟨c101,h⟩|⟨c101,h⟩
    ·have p104:=fun{sc F} (r:PS sc F)=>p102<|sg 23 c101<|sv (a8 e)<|sv (be e)<|bF (eP.ln e.Kids)<|r
     rcases aH h with⟨c103,h⟩|⟨c103,h⟩
     ·obtain rfl:=lf h
      exact aY fT (p104<|sg 30 c103<|eF .normal (ai e ok m m2 m3 m4 m5 m6 m7 m8 m9 true))<|by kernel_rfl
     ·have p106:=fun{sc F} (r:PS sc F)=>p104<|sg 30 c103<|ss<|r
      rcases aH h with⟨c105,h⟩|⟨c105,h⟩
      ·have p108:=fun{sc F} (r:PS sc F)=>p106<|sg 34 c105<|sv (ba e)<|sv (bh e)<|bF (il.ln e.Params)<|r
       rcases aH h with⟨c107,h⟩|⟨c107,h⟩
       ·obtain rfl:=lf h
        exact aY fT (p108<|sg 41 c107<|eF .normal (ai e ok m m2 m3 m4 m5 m6 m7 m8 m9 true))<|by kernel_rfl
       ·have p110:=fun{sc F} (r:PS sc F)=>p108<|sg 41 c107<|ss<|r
        rcases aH h with⟨c109,h⟩|⟨c109,h⟩
        ·have p112:=fun{sc F} (r:PS sc F)=>p110<|sg 45 c109<|sv (aD e)<|sv (aE e)<|bF (dZ.ln e.Alts)<|r
         rcases aH h with⟨c111,h⟩|⟨c111,h⟩
         ·obtain rfl:=lf h
          exact aY fT (p112<|sg 52 c111<|eF .normal (ai e ok m m2 m3 m4 m5 m6 m7 m8 m9 true))<|by kernel_rfl
         ·have p114:=fun{sc F} (r:PS sc F)=>p112<|sg 52 c111<|ss<|r
          rcases aH h with⟨c113,h⟩|⟨c113,h⟩
          ·obtain rfl:=lf h
           exact aY fT (p114<|sg 56 c113<|sv (aJ e)<|sv (aK e)<|bF (db.ln e.Types)<|eF .normal (ai e ok m m2 m3 m4 m5 m6 m7 m8 m9 (decide ((e.Types.length:Int)>0))))<|by kernel_rfl
          ·obtain rfl:=lf h
           exact aY fT (p114<|sg 56 c113<|eF .normal (ai e ok m m2 m3 m4 m5 m6 m7 m8 m9 false))<|by kernel_rfl
        ·have p116:=fun{sc F} (r:PS sc F)=>p110<|sg 45 c109<|ss<|r
         rcases aH h with⟨c115,h⟩|⟨c115,h⟩
         ·obtain rfl:=lf h
          exact aY fT (p116<|sg 56 c115<|sv (aJ e)<|sv (aK e)<|bF (db.ln e.Types)<|eF .normal (ai e ok m m2 m3 m4 m5 m6 m7 m8 m9 (decide ((e.Types.length:Int)>0))))<|by kernel_rfl
         ·obtain rfl:=lf h
          exact aY fT (p116<|sg 56 c115<|eF .normal (ai e ok m m2 m3 m4 m5 m6 m7 m8 m9 false))<|by kernel_rfl
      ·have p118:=fun{sc F} (r:PS sc F)=>p106<|sg 34 c105<|ss<|r
       rcases aH h with⟨c117,h⟩|⟨c117,h⟩
       ·have p120:=fun{sc F} (r:PS sc F)=>p118<|sg 45 c117<|sv (aD e)<|sv (aE e)<|bF (dZ.ln e.Alts)<|r
        rcases aH h with⟨c119,h⟩|⟨c119,h⟩
        ·obtain rfl:=lf h
         exact aY fT (p120<|sg 52 c119<|eF .normal (ai e ok m m2 m3 m4 m5 m6 m7 m8 m9 true))<|by kernel_rfl
        ·have p122:=fun{sc F} (r:PS sc F)=>p120<|sg 52 c119<|ss<|r
         rcases aH h with⟨c121,h⟩|⟨c121,h⟩
         ·obtain rfl:=lf h
          exact aY fT (p122<|sg 56 c121<|sv (aJ e)<|sv (aK e)<|bF (db.ln e.Types)<|eF .normal (ai e ok m m2 m3 m4 m5 m6 m7 m8 m9 (decide ((e.Types.length:Int)>0))))<|by kernel_rfl
         ·obtain rfl:=lf h
          exact aY fT (p122<|sg 56 c121<|eF .normal (ai e ok m m2 m3 m4 m5 m6 m7 m8 m9 false))<|by kernel_rfl
       ·have p124:=fun{sc F} (r:PS sc F)=>p118<|sg 45 c117<|ss<|r
        rcases aH h with⟨c123,h⟩|⟨c123,h⟩
        ·obtain rfl:=lf h
         exact aY fT (p124<|sg 56 c123<|sv (aJ e)<|sv (aK e)<|bF (db.ln e.Types)<|eF .normal (ai e ok m m2 m3 m4 m5 m6 m7 m8 m9 (decide ((e.Types.length:Int)>0))))<|by kernel_rfl
        ·obtain rfl:=lf h
         exact aY fT (p124<|sg 56 c123<|eF .normal (ai e ok m m2 m3 m4 m5 m6 m7 m8 m9 false))<|by kernel_rfl
    ·have p126:=fun{sc F} (r:PS sc F)=>p102<|sg 23 c101<|ss<|r
     rcases aH h with⟨c125,h⟩|⟨c125,h⟩
     ·have p128:=fun{sc F} (r:PS sc F)=>p126<|sg 34 c125<|sv (ba e)<|sv (bh e)<|bF (il.ln e.Params)<|r
      rcases aH h with⟨c127,h⟩|⟨c127,h⟩
      ·obtain rfl:=lf h
       exact aY fT (p128<|sg 41 c127<|eF .normal (ai e ok m m2 m3 m4 m5 m6 m7 m8 m9 true))<|by kernel_rfl
      ·have p130:=fun{sc F} (r:PS sc F)=>p128<|sg 41 c127<|ss<|r
       rcases aH h with⟨c129,h⟩|⟨c129,h⟩
       ·have p132:=fun{sc F} (r:PS sc F)=>p130<|sg 45 c129<|sv (aD e)<|sv (aE e)<|bF (dZ.ln e.Alts)<|r
        rcases aH h with⟨c131,h⟩|⟨c131,h⟩
        ·obtain rfl:=lf h
         exact aY fT (p132<|sg 52 c131<|eF .normal (ai e ok m m2 m3 m4 m5 m6 m7 m8 m9 true))<|by kernel_rfl
        ·have p134:=fun{sc F} (r:PS sc F)=>p132<|sg 52 c131<|ss<|r
         rcases aH h with⟨c133,h⟩|⟨c133,h⟩
         ·obtain rfl:=lf h
          exact aY fT (p134<|sg 56 c133<|sv (aJ e)<|sv (aK e)<|bF (db.ln e.Types)<|eF .normal (ai e ok m m2 m3 m4 m5 m6 m7 m8 m9 (decide ((e.Types.length:Int)>0))))<|by kernel_rfl
         ·obtain rfl:=lf h
          exact aY fT (p134<|sg 56 c133<|eF .normal (ai e ok m m2 m3 m4 m5 m6 m7 m8 m9 false))<|by kernel_rfl
       ·have p136:=fun{sc F} (r:PS sc F)=>p130<|sg 45 c129<|ss<|r
        rcases aH h with⟨c135,h⟩|⟨c135,h⟩
        ·obtain rfl:=lf h
         exact aY fT (p136<|sg 56 c135<|sv (aJ e)<|sv (aK e)<|bF (db.ln e.Types)<|eF .normal (ai e ok m m2 m3 m4 m5 m6 m7 m8 m9 (decide ((e.Types.length:Int)>0))))<|by kernel_rfl
        ·obtain rfl:=lf h
         exact aY fT (p136<|sg 56 c135<|eF .normal (ai e ok m m2 m3 m4 m5 m6 m7 m8 m9 false))<|by kernel_rfl
     ·have p138:=fun{sc F} (r:PS sc F)=>p126<|sg 34 c125<|ss<|r
      rcases aH h with⟨c137,h⟩|⟨c137,h⟩
      ·have p140:=fun{sc F} (r:PS sc F)=>p138<|sg 45 c137<|sv (aD e)<|sv (aE e)<|bF (dZ.ln e.Alts)<|r
       rcases aH h with⟨c139,h⟩|⟨c139,h⟩
       ·obtain rfl:=lf h
        exact aY fT (p140<|sg 52 c139<|eF .normal (ai e ok m m2 m3 m4 m5 m6 m7 m8 m9 true))<|by kernel_rfl
       ·have p142:=fun{sc F} (r:PS sc F)=>p140<|sg 52 c139<|ss<|r
        rcases aH h with⟨c141,h⟩|⟨c141,h⟩
        ·obtain rfl:=lf h
         exact aY fT (p142<|sg 56 c141<|sv (aJ e)<|sv (aK e)<|bF (db.ln e.Types)<|eF .normal (ai e ok m m2 m3 m4 m5 m6 m7 m8 m9 (decide ((e.Types.length:Int)>0))))<|by kernel_rfl
        ·obtain rfl:=lf h
         exact aY fT (p142<|sg 56 c141<|eF .normal (ai e ok m m2 m3 m4 m5 m6 m7 m8 m9 false))<|by kernel_rfl
      ·have p144:=fun{sc F} (r:PS sc F)=>p138<|sg 45 c137<|ss<|r
       rcases aH h with⟨c143,h⟩|⟨c143,h⟩
       ·obtain rfl:=lf h
        exact aY fT (p144<|sg 56 c143<|sv (aJ e)<|sv (aK e)<|bF (db.ln e.Types)<|eF .normal (ai e ok m m2 m3 m4 m5 m6 m7 m8 m9 (decide ((e.Types.length:Int)>0))))<|by kernel_rfl
       ·obtain rfl:=lf h
        exact aY fT (p144<|sg 56 c143<|eF .normal (ai e ok m m2 m3 m4 m5 m6 m7 m8 m9 false))<|by kernel_rfl
  ·have p146:=fun{sc F} (r:PS sc F)=>p98<|sg 13 c97<|ss<|r
   rcases aH h with⟨c145,h⟩|⟨c145,h⟩
   ·have p148:=fun{sc F} (r:PS sc F)=>p146<|sg 23 c145<|sv (a8 e)<|sv (be e)<|bF (eP.ln e.Kids)<|r
    rcases aH h with⟨c147,h⟩|⟨c147,h⟩
    ·obtain rfl:=lf h
     exact aY fT (p148<|sg 30 c147<|eF .normal (ai e ok m m2 m3 m4 m5 m6 m7 m8 m9 true))<|by kernel_rfl
    ·have p150:=fun{sc F} (r:PS sc F)=>p148<|sg 30 c147<|ss<|r
     rcases aH h with⟨c149,h⟩|⟨c149,h⟩
     ·have p152:=fun{sc F} (r:PS sc F)=>p150<|sg 34 c149<|sv (ba e)<|sv (bh e)<|bF (il.ln e.Params)<|r
      rcases aH h with⟨c151,h⟩|⟨c151,h⟩
      ·obtain rfl:=lf h
       exact aY fT (p152<|sg 41 c151<|eF .normal (ai e ok m m2 m3 m4 m5 m6 m7 m8 m9 true))<|by kernel_rfl
      ·have p154:=fun{sc F} (r:PS sc F)=>p152<|sg 41 c151<|ss<|r
       rcases aH h with⟨c153,h⟩|⟨c153,h⟩
       ·have p156:=fun{sc F} (r:PS sc F)=>p154<|sg 45 c153<|sv (aD e)<|sv (aE e)<|bF (dZ.ln e.Alts)<|r
        rcases aH h with⟨c155,h⟩|⟨c155,h⟩
        ·obtain rfl:=lf h
         exact aY fT (p156<|sg 52 c155<|eF .normal (ai e ok m m2 m3 m4 m5 m6 m7 m8 m9 true))<|by kernel_rfl
        ·have p158:=fun{sc F} (r:PS sc F)=>p156<|sg 52 c155<|ss<|r
         rcases aH h with⟨c157,h⟩|⟨c157,h⟩
         ·obtain rfl:=lf h
          exact aY fT (p158<|sg 56 c157<|sv (aJ e)<|sv (aK e)<|bF (db.ln e.Types)<|eF .normal (ai e ok m m2 m3 m4 m5 m6 m7 m8 m9 (decide ((e.Types.length:Int)>0))))<|by kernel_rfl
         ·obtain rfl:=lf h
          exact aY fT (p158<|sg 56 c157<|eF .normal (ai e ok m m2 m3 m4 m5 m6 m7 m8 m9 false))<|by kernel_rfl
       ·have p160:=fun{sc F} (r:PS sc F)=>p154<|sg 45 c153<|ss<|r
        rcases aH h with⟨c159,h⟩|⟨c159,h⟩
        ·obtain rfl:=lf h
         exact aY fT (p160<|sg 56 c159<|sv (aJ e)<|sv (aK e)<|bF (db.ln e.Types)<|eF .normal (ai e ok m m2 m3 m4 m5 m6 m7 m8 m9 (decide ((e.Types.length:Int)>0))))<|by kernel_rfl
        ·obtain rfl:=lf h
         exact aY fT (p160<|sg 56 c159<|eF .normal (ai e ok m m2 m3 m4 m5 m6 m7 m8 m9 false))<|by kernel_rfl
     ·have p162:=fun{sc F} (r:PS sc F)=>p150<|sg 34 c149<|ss<|r
      rcases aH h with⟨c161,h⟩|⟨c161,h⟩
      ·have p164:=fun{sc F} (r:PS sc F)=>p162<|sg 45 c161<|sv (aD e)<|sv (aE e)<|bF (dZ.ln e.Alts)<|r
       rcases aH h with⟨c163,h⟩|⟨c163,h⟩
       ·obtain rfl:=lf h
        exact aY fT (p164<|sg 52 c163<|eF .normal (ai e ok m m2 m3 m4 m5 m6 m7 m8 m9 true))<|by kernel_rfl
       ·have p166:=fun{sc F} (r:PS sc F)=>p164<|sg 52 c163<|ss<|r
        rcases aH h with⟨c165,h⟩|⟨c165,h⟩
        ·obtain rfl:=lf h
         exact aY fT (p166<|sg 56 c165<|sv (aJ e)<|sv (aK e)<|bF (db.ln e.Types)<|eF .normal (ai e ok m m2 m3 m4 m5 m6 m7 m8 m9 (decide ((e.Types.length:Int)>0))))<|by kernel_rfl
        ·obtain rfl:=lf h
         exact aY fT (p166<|sg 56 c165<|eF .normal (ai e ok m m2 m3 m4 m5 m6 m7 m8 m9 false))<|by kernel_rfl
      ·have p168:=fun{sc F} (r:PS sc F)=>p162<|sg 45 c161<|ss<|r
       rcases aH h with⟨c167,h⟩|⟨c167,h⟩
       ·obtain rfl:=lf h
        exact aY fT (p168<|sg 56 c167<|sv (aJ e)<|sv (aK e)<|bF (db.ln e.Types)<|eF .normal (ai e ok m m2 m3 m4 m5 m6 m7 m8 m9 (decide ((e.Types.length:Int)>0))))<|by kernel_rfl
       ·obtain rfl:=lf h
        exact aY fT (p168<|sg 56 c167<|eF .normal (ai e ok m m2 m3 m4 m5 m6 m7 m8 m9 false))<|by kernel_rfl
   ·have p170:=fun{sc F} (r:PS sc F)=>p146<|sg 23 c145<|ss<|r
    rcases aH h with⟨c169,h⟩|⟨c169,h⟩
    ·have p172:=fun{sc F} (r:PS sc F)=>p170<|sg 34 c169<|sv (ba e)<|sv (bh e)<|bF (il.ln e.Params)<|r
     rcases aH h with⟨c171,h⟩|⟨c171,h⟩
     ·obtain rfl:=lf h
      exact aY fT (p172<|sg 41 c171<|eF .normal (ai e ok m m2 m3 m4 m5 m6 m7 m8 m9 true))<|by kernel_rfl
     ·have p174:=fun{sc F} (r:PS sc F)=>p172<|sg 41 c171<|ss<|r
      rcases aH h with⟨c173,h⟩|⟨c173,h⟩
      ·have p176:=fun{sc F} (r:PS sc F)=>p174<|sg 45 c173<|sv (aD e)<|sv (aE e)<|bF (dZ.ln e.Alts)<|r
       rcases aH h with⟨c175,h⟩|⟨c175,h⟩
       ·obtain rfl:=lf h
        exact aY fT (p176<|sg 52 c175<|eF .normal (ai e ok m m2 m3 m4 m5 m6 m7 m8 m9 true))<|by kernel_rfl
       ·have p178:=fun{sc F} (r:PS sc F)=>p176<|sg 52 c175<|ss<|r
        rcases aH h with⟨c177,h⟩|⟨c177,h⟩
        ·obtain rfl:=lf h
         exact aY fT (p178<|sg 56 c177<|sv (aJ e)<|sv (aK e)<|bF (db.ln e.Types)<|eF .normal (ai e ok m m2 m3 m4 m5 m6 m7 m8 m9 (decide ((e.Types.length:Int)>0))))<|by kernel_rfl
        ·obtain rfl:=lf h
         exact aY fT (p178<|sg 56 c177<|eF .normal (ai e ok m m2 m3 m4 m5 m6 m7 m8 m9 false))<|by kernel_rfl
      ·have p180:=fun{sc F} (r:PS sc F)=>p174<|sg 45 c173<|ss<|r
       rcases aH h with⟨c179,h⟩|⟨c179,h⟩
       ·obtain rfl:=lf h
        exact aY fT (p180<|sg 56 c179<|sv (aJ e)<|sv (aK e)<|bF (db.ln e.Types)<|eF .normal (ai e ok m m2 m3 m4 m5 m6 m7 m8 m9 (decide ((e.Types.length:Int)>0))))<|by kernel_rfl
       ·obtain rfl:=lf h
        exact aY fT (p180<|sg 56 c179<|eF .normal (ai e ok m m2 m3 m4 m5 m6 m7 m8 m9 false))<|by kernel_rfl
    ·have p182:=fun{sc F} (r:PS sc F)=>p170<|sg 34 c169<|ss<|r
     rcases aH h with⟨c181,h⟩|⟨c181,h⟩
     ·have p184:=fun{sc F} (r:PS sc F)=>p182<|sg 45 c181<|sv (aD e)<|sv (aE e)<|bF (dZ.ln e.Alts)<|r
      rcases aH h with⟨c183,h⟩|⟨c183,h⟩
      ·obtain rfl:=lf h
       exact aY fT (p184<|sg 52 c183<|eF .normal (ai e ok m m2 m3 m4 m5 m6 m7 m8 m9 true))<|by kernel_rfl
      ·have p186:=fun{sc F} (r:PS sc F)=>p184<|sg 52 c183<|ss<|r
       rcases aH h with⟨c185,h⟩|⟨c185,h⟩
       ·obtain rfl:=lf h
        exact aY fT (p186<|sg 56 c185<|sv (aJ e)<|sv (aK e)<|bF (db.ln e.Types)<|eF .normal (ai e ok m m2 m3 m4 m5 m6 m7 m8 m9 (decide ((e.Types.length:Int)>0))))<|by kernel_rfl
       ·obtain rfl:=lf h
        exact aY fT (p186<|sg 56 c185<|eF .normal (ai e ok m m2 m3 m4 m5 m6 m7 m8 m9 false))<|by kernel_rfl
     ·have p188:=fun{sc F} (r:PS sc F)=>p182<|sg 45 c181<|ss<|r
      rcases aH h with⟨c187,h⟩|⟨c187,h⟩
      ·obtain rfl:=lf h
       exact aY fT (p188<|sg 56 c187<|sv (aJ e)<|sv (aK e)<|bF (db.ln e.Types)<|eF .normal (ai e ok m m2 m3 m4 m5 m6 m7 m8 m9 (decide ((e.Types.length:Int)>0))))<|by kernel_rfl
      ·obtain rfl:=lf h
       exact aY fT (p188<|sg 56 c187<|eF .normal (ai e ok m m2 m3 m4 m5 m6 m7 m8 m9 false))<|by kernel_rfl
end
section
variable(e:af)(ok:Bool)(unused:Bool)(m:Bool)(m2:Bool)(m3:Int)(m4:Int)(m5:Bool)(m6:Bool)(m7:Int)(m8:Int)(m9:Bool)
def J1:aB:=aZ 156 [(1,.eptr (ac e)),(3,.bptr 1 0),(4,.bool ok),(5,.bool unused)] [.dead,.cells [.bool m,.bool m2,.int .i64 m3,.int .i64 m4,.bool m5,.bool m6,.int .i64 m7,.int .i64 m8,.bool m9] []] []
def uT(o:Bool):aB:=aZ 156 [(1,.eptr (ac e)),(3,.bptr 1 0),(81,.bool o)] [.dead,.cells [.bool m,.bool m2,.int .i64 m3,.int .i64 m4,.bool m5,.bool m6,.int .i64 m7,.int .i64 m8,.bool m9] []] []
def tN:Option Bool:=
 if(!ok)=true then
  some true
 else
  some unused
theorem IE{x:Bool}(h:tN ok unused=some x):aU Pg GE 0 (cA S0 122) (EX .normal (uT e m m2 m3 m4 m5 m6 m7 m8 m9 x)) (J1 e ok unused m m2 m3 m4 m5 m6 m7 m8 m9):=by
 rcases aH h with⟨c190,h⟩|⟨c190,h⟩
 ·obtain rfl:=lf h
  exact aY fT (sg 3 c190<|eF .normal (uT e m m2 m3 m4 m5 m6 m7 m8 m9 true))<|by kernel_rfl
 ·obtain rfl:=lf h
  exact aY fT (sg 3 c190<|eF .normal (uT e m m2 m3 m4 m5 m6 m7 m8 m9 unused))<|by kernel_rfl
end
section
variable(e:af)(m:Bool)(m2:Bool)(m3:Int)(m4:Int)(m5:Bool)(m6:Bool)(m7:Int)(m8:Int)(m9:Bool)
def J2:aB:=aZ 156 [(1,.eptr (ac e)),(3,.bptr 1 0)] [.dead,.cells [.bool m,.bool m2,.int .i64 m3,.int .i64 m4,.bool m5,.bool m6,.int .i64 m7,.int .i64 m8,.bool m9] []] []
def fN(o:Bool):aB:=aZ 156 [(1,.eptr (ac e)),(3,.bptr 1 0),(92,.bool o)] [.dead,.cells [.bool m,.bool m2,.int .i64 m3,.int .i64 m4,.bool m5,.bool m6,.int .i64 m7,.int .i64 m8,.bool m9] []] []
def tO:Option Bool:=
 if (e.Op == 1) = true then
  (Ts e.N).bind fun r199=>
  if(!r199)=true then
   some true
  else
   if(e.Op==2)=true then
    if(e.N !=0)=true then
     some (e.N !=1)
    else
     some false
   else
    some false
 else
  if(e.Op==2)=true then
   if(e.N !=0)=true then
    some (e.N !=1)
   else
    some false
  else
   some false
theorem IF{x:Bool}(h:tO e=some x):aU Pg GE 0 (cA S0 1982) (EX .normal (fN e m m2 m3 m4 m5 m6 m7 m8 m9 x)) (J2 e m m2 m3 m4 m5 m6 m7 m8 m9):=by
 have p198:=fun{sc F} (r:PS sc F)=>sv (cp e)<|sv (cq e)<|r
 rcases aH h with⟨c197,h⟩|⟨c197,h⟩
 ·obtain⟨r199,br199,h⟩:=aG h
  have p201:=fun{sc F} (r:PS sc F)=>p198<|sg 4 c197<|sv (dg e)<|sv (dH e)<|cm (U8 br199)<|r
  rcases aH h with⟨c200,h⟩|⟨c200,h⟩
  ·obtain rfl:=lf h
   exact aY fT (p201<|sg 10 c200<|eF .normal (fN e m m2 m3 m4 m5 m6 m7 m8 m9 true))<|by kernel_rfl
  ·have p203:=fun{sc F} (r:PS sc F)=>p201<|sg 10 c200<|sv (cp e)<|sv (cq e)<|r
   rcases aH h with⟨c202,h⟩|⟨c202,h⟩
   ·have p205:=fun{sc F} (r:PS sc F)=>p203<|sg 14 c202<|sv (dg e)<|sv (dH e)<|r
    rcases aH h with⟨c204,h⟩|⟨c204,h⟩
    ·obtain rfl:=lf h
     exact aY fT (p205<|sg 19 c204<|sv (dg e)<|sv (dH e)<|eF .normal (fN e m m2 m3 m4 m5 m6 m7 m8 m9 (e.N !=1)))<|by kernel_rfl
    ·obtain rfl:=lf h
     exact aY fT (p205<|sg 19 c204<|eF .normal (fN e m m2 m3 m4 m5 m6 m7 m8 m9 false))<|by kernel_rfl
   ·obtain rfl:=lf h
    exact aY fT (p203<|sg 14 c202<|eF .normal (fN e m m2 m3 m4 m5 m6 m7 m8 m9 false))<|by kernel_rfl
 ·have p207:=fun{sc F} (r:PS sc F)=>p198<|sg 4 c197<|sv (cp e)<|sv (cq e)<|r
  rcases aH h with⟨c206,h⟩|⟨c206,h⟩
  ·have p209:=fun{sc F} (r:PS sc F)=>p207<|sg 14 c206<|sv (dg e)<|sv (dH e)<|r
   rcases aH h with⟨c208,h⟩|⟨c208,h⟩
   ·obtain rfl:=lf h
    exact aY fT (p209<|sg 19 c208<|sv (dg e)<|sv (dH e)<|eF .normal (fN e m m2 m3 m4 m5 m6 m7 m8 m9 (e.N !=1)))<|by kernel_rfl
   ·obtain rfl:=lf h
    exact aY fT (p209<|sg 19 c208<|eF .normal (fN e m m2 m3 m4 m5 m6 m7 m8 m9 false))<|by kernel_rfl
  ·obtain rfl:=lf h
   exact aY fT (p207<|sg 14 c206<|eF .normal (fN e m m2 m3 m4 m5 m6 m7 m8 m9 false))<|by kernel_rfl
end
section
variable(e:af)(t124:waB)(t125:Int)(m:Bool)(m2:Bool)(m3:Int)(m4:Int)(m5:Bool)(m6:Bool)(m7:Int)(m8:Int)(m9:Bool)(t126:Int)
def lM:aB:=aZ 156 [(1,.eptr (ac e)),(124,sl aj t124),(125,.int .i64 t125),(126,.int .i64 t126)] [.dead,.cells [.bool m,.bool m2,.int .i64 m3,.int .i64 m4,.bool m5,.bool m6,.int .i64 m7,.int .i64 m8,.bool m9] []] []
def lN(o:Int⊕(Unit)):Exit:=match o with
 |(.inl _)=>.ret
 |(.inr _)=>.exit 1
def gO(o:Int⊕(Unit)):aB:=match o with
 |(.inl o)=>aZ 156 [(2,.int .i64 o)] [.dead,.cells [.bool m,.bool m2,.int .i64 m3,.int .i64 m4,.bool m5,.bool m6,.int .i64 m7,.int .i64 m8,.bool m9] []] []
 |(.inr o)=>aZ 156 [(1,.eptr (ac e))] [.dead,.cells [.bool m,.bool m2,.int .i64 m3,.int .i64 m4,.bool m5,.bool m6,.int .i64 m7,.int .i64 m8,.bool m9] []] []
def uV:Option (Int⊕(Int⊕(Unit))):=
 if(decide (t126<t125))=true then
  (fy t124 t126).bind fun x217=>
  (wu x217).bind fun r218=>
  if(r218 !=0)=true then
   some (.inr (.inl r218))
  else
   some (.inl (bN (t126+1)))
 else
  some (.inr (.inr ()))
def tP:Option (Int⊕(Unit)):=loop (fun(zz:Int)=>uV t124 t125 zz) t126
theorem G6{y:Int⊕(Int⊕(Unit))}(h:uV t124 t125 t126=some y):aU Pg GE 0 (cA S0 1015) (LQ (fun(zz:Int)=>lM e t124 t125 m m2 m3 m4 m5 m6 m7 m8 m9 zz) lN (gO e m m2 m3 m4 m5 m6 m7 m8 m9) y) (lM e t124 t125 m m2 m3 m4 m5 m6 m7 m8 m9 t126):=by
 rcases aH h with⟨c216,h⟩|⟨c216,h⟩
 ·obtain⟨x217,bx217,h⟩:=aG h
  obtain⟨r218,br218,h⟩:=aG h
  have p220:=fun{sc F} (r:PS sc F)=>sg 0 c216<|sv (db.ia (k:=.i64) bx217)<|sv (fZ x217)<|sx QY<|sx (pR x217)<|sv (jr x217 [])<|cm (EN br218)<|r
  rcases aH h with⟨c219,h⟩|⟨c219,h⟩
  ·obtain rfl:=lf h
   have z:=p220<|sg 0 c219<|vY 0 (lN (.inl r218)) (gO e m m2 m3 m4 m5 m6 m7 m8 m9 (.inl r218)) rfl (dI (aI trivial trivial)) (aI trivial (aI (aI trivial (aI trivial (aI trivial (aI trivial (aI trivial (aI trivial (aI trivial (aI trivial (aI trivial trivial))))))))) trivial))
   exact ql (A:=fT) mixed (by intro hx;cases hx) z<|by kernel_rfl
  ·obtain rfl:=lf h
   have z:=p220<|sg 0 c219<|vY 0 .normal (lM e t124 t125 m m2 m3 m4 m5 m6 m7 m8 m9 (bN (t126+1))) rfl (dI (aI (bH (al e)) (aI (up (aw aO t124)) (aI trivial (aI trivial trivial))))) (aI trivial (aI (aI trivial (aI trivial (aI trivial (aI trivial (aI trivial (aI trivial (aI trivial (aI trivial (aI trivial trivial))))))))) trivial))
   exact eA (A:=fT) mixed z<|by kernel_rfl
 ·obtain rfl:=lf h
  have z:=sg 0 c216<|eF (lN (.inr ())) (gO e m m2 m3 m4 m5 m6 m7 m8 m9 (.inr ()))
  exact gu fT (by intro hx;cases hx) z<|by kernel_rfl
theorem tQ{x:Int⊕(Unit)}(h:tP t124 t125 t126=some x):aU Pg GE 0 (.loop (cA S0 1015)) (EX (lN x) (gO e m m2 m3 m4 m5 m6 m7 m8 m9 x)) (lM e t124 t125 m m2 m3 m4 m5 m6 m7 m8 m9 t126):=
 aU.loop (S:=fun(zz:Int)=>lM e t124 t125 m m2 m3 m4 m5 m6 m7 m8 m9 zz) (ex:=lN) (s:=t126) h fun zz y hy=>G6 e t124 t125 m m2 m3 m4 m5 m6 m7 m8 m9 zz hy
end
section
variable(v:Int)(t137:waE)(t138:Int)(t139:Int)(m:Bool)(m2:Bool)(m3:Int)(m4:Int)(m5:Bool)(m6:Bool)(m7:Int)(m8:Int)(m9:Bool)(m10:ah)(m11:Int)(m12:ah)(m13:waB)(m14:waA)(m15:Int)(m16:ah)(m17:Int)(m18:waF)(m19:waF)
def J3:aB:=aZ 156 [(11,.bptr 2 0),(12,.int .i64 v),(137,sl ax t137),(138,.int .i64 t138),(139,.int .i64 t139)] [.dead,.cells [.bool m,.bool m2,.int .i64 m3,.int .i64 m4,.bool m5,.bool m6,.int .i64 m7,.int .i64 m8,.bool m9] [],.cells [.str m10,.int .i64 m11,.str m12,sl aj m13,sl cS m14,.int .i64 m15,.str m16,.int .i64 m17,sl ay m18,sl ay m19] []] []
def uU(o:Bool):aB:=aZ 156 [(12,.int .i64 v),(137,sl ax t137),(138,.int .i64 t138),(139,.int .i64 t139),(153,.bool o)] [.dead,.cells [.bool m,.bool m2,.int .i64 m3,.int .i64 m4,.bool m5,.bool m6,.int .i64 m7,.int .i64 m8,.bool m9] [],.cells [.str m10,.int .i64 m11,.str m12,sl aj m13,sl cS m14,.int .i64 m15,.str m16,.int .i64 m17,sl ay m18,sl ay m19] []] []
def zk:Option Bool:=
 if(v !=0)=true then
  (Ar (⟨m11,m12,m13,m14,(⟨m15,m16,m17,m18⟩:az),m19⟩:ak)).bind fun r226=>
  some (!r226)
 else
  some false
theorem IG{x:Bool}(h:zk v m11 m12 m13 m14 m15 m16 m17 m18 m19=some x):aU Pg GE 0 (cA S0 261102) (EX .normal (uU v t137 t138 t139 m m2 m3 m4 m5 m6 m7 m8 m9 m10 m11 m12 m13 m14 m15 m16 m17 m18 m19 x)) (J3 v t137 t138 t139 m m2 m3 m4 m5 m6 m7 m8 m9 m10 m11 m12 m13 m14 m15 m16 m17 m18 m19):=by
 rcases aH h with⟨c225,h⟩|⟨c225,h⟩
 ·obtain⟨r226,br226,h⟩:=aG h
  obtain rfl:=lf h
  exact aY fT (sg 3 c225<|sv (jr (⟨m11,m12,m13,m14,(⟨m15,m16,m17,m18⟩:az),m19⟩:ak) [])<|cm (NE br226)<|eF .normal (uU v t137 t138 t139 m m2 m3 m4 m5 m6 m7 m8 m9 m10 m11 m12 m13 m14 m15 m16 m17 m18 m19 (!r226)))<|by kernel_rfl
 ·obtain rfl:=lf h
  exact aY fT (sg 3 c225<|eF .normal (uU v t137 t138 t139 m m2 m3 m4 m5 m6 m7 m8 m9 m10 m11 m12 m13 m14 m15 m16 m17 m18 m19 false))<|by kernel_rfl
end
section
variable(t137:waE)(t138:Int)(m:Bool)(m2:Bool)(m3:Int)(m4:Int)(m5:Bool)(m6:Bool)(m7:Int)(m8:Int)(m9:Bool)(t139:Int)
def lO:aB:=aZ 156 [(137,sl ax t137),(138,.int .i64 t138),(139,.int .i64 t139)] [.dead,.cells [.bool m,.bool m2,.int .i64 m3,.int .i64 m4,.bool m5,.bool m6,.int .i64 m7,.int .i64 m8,.bool m9] []] []
def lQ(o:Int⊕(Unit)):Exit:=match o with
 |(.inl _)=>.ret
 |(.inr _)=>.exit 3
def jt(o:Int⊕(Unit)):aB:=match o with
 |(.inl o)=>aZ 156 [(2,.int .i64 o)] [.dead,.cells [.bool m,.bool m2,.int .i64 m3,.int .i64 m4,.bool m5,.bool m6,.int .i64 m7,.int .i64 m8,.bool m9] []] []
 |(.inr o)=>aZ 156 [] [.dead,.cells [.bool m,.bool m2,.int .i64 m3,.int .i64 m4,.bool m5,.bool m6,.int .i64 m7,.int .i64 m8,.bool m9] []] []
def lP:Option (Int⊕(Int⊕(Unit))):=
 if(decide (t139<t138))=true then
  (fy t137 t139).bind fun x223=>
  (wu x223.Type_).bind fun r224=>
  (zk r224 x223.Type_.Op x223.Type_.Name x223.Type_.Args x223.Type_.Names x223.Type_.Pred.Op x223.Type_.Pred.Name x223.Type_.Pred.N x223.Type_.Pred.Kids x223.Type_.Preds).bind fun o227=>
  if o227=true then
   some (.inr (.inl r224))
  else
   some (.inl (bN (t139+1)))
 else
  some (.inr (.inr ()))
def tR:Option (Int⊕(Unit)):=loop (fun(zz:Int)=>lP t137 t138 zz) t139
theorem G7{y:Int⊕(Int⊕(Unit))}(h:lP t137 t138 t139=some y):aU Pg GE 0 (cA S0 2039) (LQ (fun(zz:Int)=>lO t137 t138 m m2 m3 m4 m5 m6 m7 m8 m9 zz) lQ (jt m m2 m3 m4 m5 m6 m7 m8 m9) y) (lO t137 t138 m m2 m3 m4 m5 m6 m7 m8 m9 t139):=by
 rcases aH h with⟨c222,h⟩|⟨c222,h⟩
 ·obtain⟨x223,bx223,h⟩:=aG h
  obtain⟨r224,br224,h⟩:=aG h
  obtain⟨o227,bo227,h⟩:=aG h
  have p229:=fun{sc F} (r:PS sc F)=>sg 0 c222<|sv (il.ia (k:=.i64) bx223)<|sv (ym x223)<|sx Sv<|sx (kW x223)<|sv (jr x223.Type_ [])<|cm (EN br224)<|nN 0<|cK (IG r224 t137 t138 t139 m m2 m3 m4 m5 m6 m7 m8 m9 x223.Name x223.Type_.Op x223.Type_.Name x223.Type_.Args x223.Type_.Names x223.Type_.Pred.Op x223.Type_.Pred.Name x223.Type_.Pred.N x223.Type_.Pred.Kids x223.Type_.Preds bo227)<|r
  rcases aH h with⟨c228,h⟩|⟨c228,h⟩
  ·obtain rfl:=lf h
   have z:=p229<|sg 0 c228<|vY 0 (lQ (.inl r224)) (jt m m2 m3 m4 m5 m6 m7 m8 m9 (.inl r224)) rfl (dI (aI trivial trivial)) (aI trivial (aI (aI trivial (aI trivial (aI trivial (aI trivial (aI trivial (aI trivial (aI trivial (aI trivial (aI trivial trivial))))))))) trivial))
   exact ql (A:=fT) mixed (by intro hx;cases hx) z<|by kernel_rfl
  ·obtain rfl:=lf h
   have z:=p229<|sg 0 c228<|vY 0 .normal (lO t137 t138 m m2 m3 m4 m5 m6 m7 m8 m9 (bN (t139+1))) rfl (dI (aI (up (aw bj t137)) (aI trivial (aI trivial trivial)))) (aI trivial (aI (aI trivial (aI trivial (aI trivial (aI trivial (aI trivial (aI trivial (aI trivial (aI trivial (aI trivial trivial))))))))) trivial))
   exact eA (A:=fT) mixed z<|by kernel_rfl
 ·obtain rfl:=lf h
  have z:=sg 0 c222<|eF (lQ (.inr ())) (jt m m2 m3 m4 m5 m6 m7 m8 m9 (.inr ()))
  exact gu fT (by intro hx;cases hx) z<|by kernel_rfl
theorem Aq{x:Int⊕(Unit)}(h:tR t137 t138 t139=some x):aU Pg GE 0 (.loop (cA S0 2039)) (EX (lQ x) (jt m m2 m3 m4 m5 m6 m7 m8 m9 x)) (lO t137 t138 m m2 m3 m4 m5 m6 m7 m8 m9 t139):=
 aU.loop (S:=fun(zz:Int)=>lO t137 t138 m m2 m3 m4 m5 m6 m7 m8 m9 zz) (ex:=lQ) (s:=t139) h fun zz y hy=>G7 t137 t138 m m2 m3 m4 m5 m6 m7 m8 m9 zz hy
end
def wr (e:af):Option Int :=
 (ri e.Op).bind fun r1=>
 (tM e r1.1.n r1.1.name r1.1.most r1.1.params r1.1.alts r1.1.types).bind fun o189=>
 (tN r1.2 o189).bind fun o191=>
 if o191=true then
  some 1
 else
  (vL e r1.1).bind fun r194=>
  if(!r194)=true then
   some 13
  else
   (tO e).bind fun o210=>
   if o210=true then
    some 2
   else
    (ye e r1.1).bind fun r213=>
    if(r213 !=0)=true then
     some r213
    else
     (tP e.Types (e.Types.length:Int) 0).bind fun o221=>match o221 with
     |(.inl o221)=>
      some o221
     | (.inr o221) =>
      (tR e.Params (e.Params.length:Int) 0).bind fun o230=>match o230 with
      |(.inl o230)=>
       some o230
      |(.inr o230)=>
       some 0
theorem ND{e:af}{r:Int}(h:wr e=some r):CC Pg GE 66 [.agg (ac e)] (.int .i64 r) []:=by
 obtain⟨r1,br1,h⟩:=aG h
 obtain⟨o189,bo189,h⟩:=aG h
 obtain⟨o191,bo191,h⟩:=aG h
 have p193:=fun{sc F} (r:PS sc F)=>se (bX e)<|sv (cp e)<|sv (cq e)<|cm (J4 br1)<|sx YK<|sx (cN r1.1)<|nN 0<|cK (ID e r1.2 r1.1.n r1.1.name r1.1.least r1.1.most r1.1.params r1.1.alts r1.1.typesLeast r1.1.typesMost r1.1.types bo189)<|nN 1<|cK (IE e r1.2 o189 r1.1.n r1.1.name r1.1.least r1.1.most r1.1.params r1.1.alts r1.1.typesLeast r1.1.typesMost r1.1.types bo191)<|r
 rcases aH h with⟨c192,h⟩|⟨c192,h⟩
 ·obtain rfl:=lf h
  have z:=p193<|sg 0 c192<|en (aI (rP (.int .i64 1))<|trivial)
  exact bI fT call66 func66 (c:=S0) rfl (aI (al e) trivial) z<|by kernel_rfl
 ·obtain⟨r194,br194,h⟩:=aG h
  have p196:=fun{sc F} (r:PS sc F)=>p193<|sg 0 c192<|sv (aX e)<|sv (Bo r1.1 [])<|cm (JY br194)<|r
  rcases aH h with⟨c195,h⟩|⟨c195,h⟩
  ·obtain rfl:=lf h
   have z:=p196<|sg 0 c195<|en (aI (rP (.int .i64 13))<|trivial)
   exact bI fT call66 func66 (c:=S0) rfl (aI (al e) trivial) z<|by kernel_rfl
  ·obtain⟨o210,bo210,h⟩:=aG h
   have p212:=fun{sc F} (r:PS sc F)=>p196<|sg 0 c195<|nN 0<|cK (IF e r1.1.n r1.1.name r1.1.least r1.1.most r1.1.params r1.1.alts r1.1.typesLeast r1.1.typesMost r1.1.types bo210)<|r
   rcases aH h with⟨c211,h⟩|⟨c211,h⟩
   ·obtain rfl:=lf h
    have z:=p212<|sg 0 c211<|en (aI (rP (.int .i64 2))<|trivial)
    exact bI fT call66 func66 (c:=S0) rfl (aI (al e) trivial) z<|by kernel_rfl
   ·obtain⟨r213,br213,h⟩:=aG h
    have p215:=fun{sc F} (r:PS sc F)=>p212<|sg 0 c211<|sv (aX e)<|sv (Bo r1.1 [])<|cm (Ls br213)<|r
    rcases aH h with⟨c214,h⟩|⟨c214,h⟩
    ·obtain rfl:=lf h
     have z:=p215<|sg 0 c214<|en (aI (rP (.int .i64 r213))<|trivial)
     exact bI fT call66 func66 (c:=S0) rfl (aI (al e) trivial) z<|by kernel_rfl
    ·obtain⟨o221,bo221,h⟩:=aG h
     rcases o221 with o221|o221
     ·obtain rfl:=lf h
      have z:=p215<|sg 0 c214<|sv (aJ e)<|sv (aK e)<|bF (db.ln e.Types)<|cK (e:=.ret) (s1:=gO e r1.1.n r1.1.name r1.1.least r1.1.most r1.1.params r1.1.alts r1.1.typesLeast r1.1.typesMost r1.1.types (.inl o221)) (tQ e e.Types (e.Types.length:Int) r1.1.n r1.1.name r1.1.least r1.1.most r1.1.params r1.1.alts r1.1.typesLeast r1.1.typesMost r1.1.types 0 bo221)<|en (aI (rP (.int .i64 o221))<|trivial)
      exact bI fT call66 func66 (c:=S0) rfl (aI (al e) trivial) z<|by kernel_rfl
     ·obtain⟨o230,bo230,h⟩:=aG h
      rcases o230 with o230|o230
      ·obtain rfl:=lf h
       have z:=p215<|sg 0 c214<|sv (aJ e)<|sv (aK e)<|bF (db.ln e.Types)<|cK (e:=.exit 1) (s1:=gO e r1.1.n r1.1.name r1.1.least r1.1.most r1.1.params r1.1.alts r1.1.typesLeast r1.1.typesMost r1.1.types (.inr o221)) (tQ e e.Types (e.Types.length:Int) r1.1.n r1.1.name r1.1.least r1.1.most r1.1.params r1.1.alts r1.1.typesLeast r1.1.typesMost r1.1.types 0 bo221)<|sv (ba e)<|sv (bh e)<|bF (il.ln e.Params)<|cK (e:=.ret) (s1:=jt r1.1.n r1.1.name r1.1.least r1.1.most r1.1.params r1.1.alts r1.1.typesLeast r1.1.typesMost r1.1.types (.inl o230)) (Aq e.Params (e.Params.length:Int) r1.1.n r1.1.name r1.1.least r1.1.most r1.1.params r1.1.alts r1.1.typesLeast r1.1.typesMost r1.1.types 0 bo230)<|en (aI (rP (.int .i64 o230))<|trivial)
       exact bI fT call66 func66 (c:=S0) rfl (aI (al e) trivial) z<|by kernel_rfl
      ·obtain rfl:=lf h
       have z:=p215<|sg 0 c214<|sv (aJ e)<|sv (aK e)<|bF (db.ln e.Types)<|cK (e:=.exit 1) (s1:=gO e r1.1.n r1.1.name r1.1.least r1.1.most r1.1.params r1.1.alts r1.1.typesLeast r1.1.typesMost r1.1.types (.inr o221)) (tQ e e.Types (e.Types.length:Int) r1.1.n r1.1.name r1.1.least r1.1.most r1.1.params r1.1.alts r1.1.typesLeast r1.1.typesMost r1.1.types 0 bo221)<|sv (ba e)<|sv (bh e)<|bF (il.ln e.Params)<|cK (e:=.exit 3) (s1:=jt r1.1.n r1.1.name r1.1.least r1.1.most r1.1.params r1.1.alts r1.1.typesLeast r1.1.typesMost r1.1.types (.inr o230)) (Aq e.Params (e.Params.length:Int) r1.1.n r1.1.name r1.1.least r1.1.most r1.1.params r1.1.alts r1.1.typesLeast r1.1.typesMost r1.1.types 0 bo230)<|en (aI (rP (.int .i64 0))<|trivial)
       exact bI fT call66 func66 (c:=S0) rfl (aI (al e) trivial) z<|by kernel_rfl
end Go.Proofs.YtkdahfeiedaahaaGreatDoor
