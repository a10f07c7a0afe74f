/- PROVED: a part of the proof. Conditions: none. -/
import Derived.Test.YtkdahfeiedaahaaGreatDoorPkD16
noncomputable section
namespace Go.Proofs.YtkdahfeiedaahaaGreatDoor
open Go Go.Proofs.Tryz
set_option linter.unusedVariables false
set_option maxRecDepth 100000
noncomputable def Wh:Code:=f66.body.getD .skip
def fY:List Nat:=[122,134,154]
theorem Z66:ZF fY 66 f66 Wh:=⟨call66,func66,rfl⟩
section
variable(e:af)(ok:Bool)(m:Bool)(m2:Bool)(m3:Int)(m4:Int)(m5:Bool)(m6:Bool)(m7:Int)(m8:Int)(m9:Bool)
def Iz:aB:=aS 156 [(1,.eptr (ac e)),(3,.bptr 1 0),(4,.bool ok)] [.dead,.cells [.bool m,.bool m2,.int .i64 m3,.int .i64 m4,.bool m5,.bool m6,.int .i64 m7,.int .i64 m8,.bool m9] []] []
def ak(o:Bool):aB:=aS 156 [(1,.eptr (ac e)),(3,.bptr 1 0),(4,.bool ok),(5,.bool o)] [.dead,.cells [.bool m,.bool m2,.int .i64 m3,.int .i64 m4,.bool m5,.bool m6,.int .i64 m7,.int .i64 m8,.bool m9] []] []
def CY:Option Bool:=
 if (!m) = true then
  if(e.N !=0)=true then
   some true
  else
   if (!m2) = true then
    if(!(e.Name==([]:ae)))=true then
     some true
    else
     if (m4 == 0) = true then
      if(decide ((e.Kids.length:Int)>0))=true then
       some true
      else
       if (!m5) = true then
        if(decide ((e.Params.length:Int)>0))=true then
         some true
        else
         if (!m6) = true then
          if(decide ((e.Alts.length:Int)>0))=true then
           some true
          else
           if(!m9)=true then
            some (decide ((e.Types.length:Int)>0))
           else
            some false
         else
          if(!m9)=true then
           some (decide ((e.Types.length:Int)>0))
          else
           some false
       else
        if (!m6) = true then
         if(decide ((e.Alts.length:Int)>0))=true then
          some true
         else
          if(!m9)=true then
           some (decide ((e.Types.length:Int)>0))
          else
           some false
        else
         if(!m9)=true then
          some (decide ((e.Types.length:Int)>0))
         else
          some false
     else
      if (!m5) = true then
       if(decide ((e.Params.length:Int)>0))=true then
        some true
       else
        if (!m6) = true then
         if(decide ((e.Alts.length:Int)>0))=true then
          some true
         else
          if(!m9)=true then
           some (decide ((e.Types.length:Int)>0))
          else
           some false
        else
         if(!m9)=true then
          some (decide ((e.Types.length:Int)>0))
         else
          some false
      else
       if (!m6) = true then
        if(decide ((e.Alts.length:Int)>0))=true then
         some true
        else
         if(!m9)=true then
          some (decide ((e.Types.length:Int)>0))
         else
          some false
       else
        if(!m9)=true then
         some (decide ((e.Types.length:Int)>0))
        else
         some false
   else
    if (m4 == 0) = true then
     if(decide ((e.Kids.length:Int)>0))=true then
      some true
     else
      if (!m5) = true then
       if(decide ((e.Params.length:Int)>0))=true then
        some true
       else
        if (!m6) = true then
         if(decide ((e.Alts.length:Int)>0))=true then
          some true
         else
          if(!m9)=true then
           some (decide ((e.Types.length:Int)>0))
          else
           some false
        else
         if(!m9)=true then
          some (decide ((e.Types.length:Int)>0))
         else
          some false
      else
       if (!m6) = true then
        if(decide ((e.Alts.length:Int)>0))=true then
         some true
        else
         if(!m9)=true then
          some (decide ((e.Types.length:Int)>0))
         else
          some false
       else
        if(!m9)=true then
         some (decide ((e.Types.length:Int)>0))
        else
         some false
    else
     if (!m5) = true then
      if(decide ((e.Params.length:Int)>0))=true then
       some true
      else
       if (!m6) = true then
        if(decide ((e.Alts.length:Int)>0))=true then
         some true
        else
         if(!m9)=true then
          some (decide ((e.Types.length:Int)>0))
         else
          some false
       else
        if(!m9)=true then
         some (decide ((e.Types.length:Int)>0))
        else
         some false
     else
      if (!m6) = true then
       if(decide ((e.Alts.length:Int)>0))=true then
        some true
       else
        if(!m9)=true then
         some (decide ((e.Types.length:Int)>0))
        else
         some false
      else
       if(!m9)=true then
        some (decide ((e.Types.length:Int)>0))
       else
        some false
 else
  if (!m2) = true then
   if(!(e.Name==([]:ae)))=true then
    some true
   else
    if (m4 == 0) = true then
     if(decide ((e.Kids.length:Int)>0))=true then
      some true
     else
      if (!m5) = true then
       if(decide ((e.Params.length:Int)>0))=true then
        some true
       else
        if (!m6) = true then
         if(decide ((e.Alts.length:Int)>0))=true then
          some true
         else
          if(!m9)=true then
           some (decide ((e.Types.length:Int)>0))
          else
           some false
        else
         if(!m9)=true then
          some (decide ((e.Types.length:Int)>0))
         else
          some false
      else
       if (!m6) = true then
        if(decide ((e.Alts.length:Int)>0))=true then
         some true
        else
         if(!m9)=true then
          some (decide ((e.Types.length:Int)>0))
         else
          some false
       else
        if(!m9)=true then
         some (decide ((e.Types.length:Int)>0))
        else
         some false
    else
     if (!m5) = true then
      if(decide ((e.Params.length:Int)>0))=true then
       some true
      else
       if (!m6) = true then
        if(decide ((e.Alts.length:Int)>0))=true then
         some true
        else
         if(!m9)=true then
          some (decide ((e.Types.length:Int)>0))
         else
          some false
       else
        if(!m9)=true then
         some (decide ((e.Types.length:Int)>0))
        else
         some false
     else
      if (!m6) = true then
       if(decide ((e.Alts.length:Int)>0))=true then
        some true
       else
        if(!m9)=true then
         some (decide ((e.Types.length:Int)>0))
        else
         some false
      else
       if(!m9)=true then
        some (decide ((e.Types.length:Int)>0))
       else
        some false
  else
   if (m4 == 0) = true then
    if(decide ((e.Kids.length:Int)>0))=true then
     some true
    else
     if (!m5) = true then
      if(decide ((e.Params.length:Int)>0))=true then
       some true
      else
       if (!m6) = true then
        if(decide ((e.Alts.length:Int)>0))=true then
         some true
        else
         if(!m9)=true then
          some (decide ((e.Types.length:Int)>0))
         else
          some false
       else
        if(!m9)=true then
         some (decide ((e.Types.length:Int)>0))
        else
         some false
     else
      if (!m6) = true then
       if(decide ((e.Alts.length:Int)>0))=true then
        some true
       else
        if(!m9)=true then
         some (decide ((e.Types.length:Int)>0))
        else
         some false
      else
       if(!m9)=true then
        some (decide ((e.Types.length:Int)>0))
       else
        some false
   else
    if (!m5) = true then
     if(decide ((e.Params.length:Int)>0))=true then
      some true
     else
      if (!m6) = true then
       if(decide ((e.Alts.length:Int)>0))=true then
        some true
       else
        if(!m9)=true then
         some (decide ((e.Types.length:Int)>0))
        else
         some false
      else
       if(!m9)=true then
        some (decide ((e.Types.length:Int)>0))
       else
        some false
    else
     if (!m6) = true then
      if(decide ((e.Alts.length:Int)>0))=true then
       some true
      else
       if(!m9)=true then
        some (decide ((e.Types.length:Int)>0))
       else
        some false
     else
      if(!m9)=true then
       some (decide ((e.Types.length:Int)>0))
      else
       some false
theorem Hh {x:Bool} (h:CY e m m2 m4 m5 m6 m9 = some x) :aW Pg GE 0 (cA Wh 14) (EX .normal (ak e ok m m2 m3 m4 m5 m6 m7 m8 m9 x)) (Iz e ok m m2 m3 m4 m5 m6 m7 m8 m9):=by
 rcases aO h with⟨c2,h⟩|⟨c2,h⟩
 ·have p4:=fun{sc F} (r:PS sc F)=>ss<|sg 4 c2<|sv (iN e)<|sv (jU e)<|r
  rcases aO h with⟨c3,h⟩|⟨c3,h⟩
  ·obtain rfl:=lf h
   exact bv fY (p4<|sg 9 c3<|eF .normal (ak e ok m m2 m3 m4 m5 m6 m7 m8 m9 true))<|by kernel_rfl
  ·have p6:=fun{sc F} (r:PS sc F)=>p4<|sg 9 c3<|ss<|r
   rcases aO h with⟨c5,h⟩|⟨c5,h⟩
   ·have p8:=fun{sc F} (r:PS sc F)=>p6<|sg 13 c5<|sv (da e)<|sv (dv e)<|r
    rcases aO h with⟨c7,h⟩|⟨c7,h⟩
    ·obtain rfl:=lf h
     exact bv fY (p8<|sg 19 c7<|eF .normal (ak e ok m m2 m3 m4 m5 m6 m7 m8 m9 true))<|by kernel_rfl
    ·have p10:=fun{sc F} (r:PS sc F)=>p8<|sg 19 c7<|ss<|r
     rcases aO h with⟨c9,h⟩|⟨c9,h⟩
     ·have p12:=fun{sc F} (r:PS sc F)=>p10<|sg 23 c9<|sv (ba e)<|sv (be e)<|bQ (fQ.ln e.Kids)<|r
      rcases aO h with⟨c11,h⟩|⟨c11,h⟩
      ·obtain rfl:=lf h
       exact bv fY (p12<|sg 30 c11<|eF .normal (ak e ok m m2 m3 m4 m5 m6 m7 m8 m9 true))<|by kernel_rfl
      ·have p14:=fun{sc F} (r:PS sc F)=>p12<|sg 30 c11<|ss<|r
       rcases aO h with⟨c13,h⟩|⟨c13,h⟩
       ·have p16:=fun{sc F} (r:PS sc F)=>p14<|sg 34 c13<|sv (bH e)<|sv (bJ e)<|bQ (lH.ln e.Params)<|r
        rcases aO h with⟨c15,h⟩|⟨c15,h⟩
        ·obtain rfl:=lf h
         exact bv fY (p16<|sg 41 c15<|eF .normal (ak e ok m m2 m3 m4 m5 m6 m7 m8 m9 true))<|by kernel_rfl
        ·have p18:=fun{sc F} (r:PS sc F)=>p16<|sg 41 c15<|ss<|r
         rcases aO h with⟨c17,h⟩|⟨c17,h⟩
         ·have p20:=fun{sc F} (r:PS sc F)=>p18<|sg 45 c17<|sv (aG e)<|sv (aH e)<|bQ (eZ.ln e.Alts)<|r
          rcases aO h with⟨c19,h⟩|⟨c19,h⟩
          ·obtain rfl:=lf h
           exact bv fY (p20<|sg 52 c19<|eF .normal (ak e ok m m2 m3 m4 m5 m6 m7 m8 m9 true))<|by kernel_rfl
          ·have p22:=fun{sc F} (r:PS sc F)=>p20<|sg 52 c19<|ss<|r
           rcases aO h with⟨c21,h⟩|⟨c21,h⟩
           ·obtain rfl:=lf h
            exact bv fY (p22<|sg 56 c21<|sv (aM e)<|sv (aN e)<|bQ (ee.ln e.Types)<|eF .normal (ak e ok m m2 m3 m4 m5 m6 m7 m8 m9 (decide ((e.Types.length:Int)>0))))<|by kernel_rfl
           ·obtain rfl:=lf h
            exact bv fY (p22<|sg 56 c21<|eF .normal (ak e ok m m2 m3 m4 m5 m6 m7 m8 m9 false))<|by kernel_rfl
         ·have p24:=fun{sc F} (r:PS sc F)=>p18<|sg 45 c17<|ss<|r
          rcases aO h with⟨c23,h⟩|⟨c23,h⟩
          ·obtain rfl:=lf h
           exact bv fY (p24<|sg 56 c23<|sv (aM e)<|sv (aN e)<|bQ (ee.ln e.Types)<|eF .normal (ak e ok m m2 m3 m4 m5 m6 m7 m8 m9 (decide ((e.Types.length:Int)>0))))<|by kernel_rfl
          ·obtain rfl:=lf h
           exact bv fY (p24<|sg 56 c23<|eF .normal (ak e ok m m2 m3 m4 m5 m6 m7 m8 m9 false))<|by kernel_rfl
       ·have p26:=fun{sc F} (r:PS sc F)=>p14<|sg 34 c13<|ss<|r
        rcases aO h with⟨c25,h⟩|⟨c25,h⟩
        ·have p28:=fun{sc F} (r:PS sc F)=>p26<|sg 45 c25<|sv (aG e)<|sv (aH e)<|bQ (eZ.ln e.Alts)<|r
         rcases aO h with⟨c27,h⟩|⟨c27,h⟩
         ·obtain rfl:=lf h
          exact bv fY (p28<|sg 52 c27<|eF .normal (ak e ok m m2 m3 m4 m5 m6 m7 m8 m9 true))<|by kernel_rfl
         ·have p30:=fun{sc F} (r:PS sc F)=>p28<|sg 52 c27<|ss<|r
          rcases aO h with⟨c29,h⟩|⟨c29,h⟩
          ·obtain rfl:=lf h
           exact bv fY (p30<|sg 56 c29<|sv (aM e)<|sv (aN e)<|bQ (ee.ln e.Types)<|eF .normal (ak e ok m m2 m3 m4 m5 m6 m7 m8 m9 (decide ((e.Types.length:Int)>0))))<|by kernel_rfl
          ·obtain rfl:=lf h
           exact bv fY (p30<|sg 56 c29<|eF .normal (ak e ok m m2 m3 m4 m5 m6 m7 m8 m9 false))<|by kernel_rfl
        ·have p32:=fun{sc F} (r:PS sc F)=>p26<|sg 45 c25<|ss<|r
         rcases aO h with⟨c31,h⟩|⟨c31,h⟩
         ·obtain rfl:=lf h
          exact bv fY (p32<|sg 56 c31<|sv (aM e)<|sv (aN e)<|bQ (ee.ln e.Types)<|eF .normal (ak e ok m m2 m3 m4 m5 m6 m7 m8 m9 (decide ((e.Types.length:Int)>0))))<|by kernel_rfl
         ·obtain rfl:=lf h
          exact bv fY (p32<|sg 56 c31<|eF .normal (ak e ok m m2 m3 m4 m5 m6 m7 m8 m9 false))<|by kernel_rfl
     ·have p34:=fun{sc F} (r:PS sc F)=>p10<|sg 23 c9<|ss<|r
      rcases aO h with⟨c33,h⟩|⟨c33,h⟩
      ·have p36:=fun{sc F} (r:PS sc F)=>p34<|sg 34 c33<|sv (bH e)<|sv (bJ e)<|bQ (lH.ln e.Params)<|r
       rcases aO h with⟨c35,h⟩|⟨c35,h⟩
       ·obtain rfl:=lf h
        exact bv fY (p36<|sg 41 c35<|eF .normal (ak e ok m m2 m3 m4 m5 m6 m7 m8 m9 true))<|by kernel_rfl
       ·have p38:=fun{sc F} (r:PS sc F)=>p36<|sg 41 c35<|ss<|r
        rcases aO h with⟨c37,h⟩|⟨c37,h⟩
        ·have p40:=fun{sc F} (r:PS sc F)=>p38<|sg 45 c37<|sv (aG e)<|sv (aH e)<|bQ (eZ.ln e.Alts)<|r
         rcases aO h with⟨c39,h⟩|⟨c39,h⟩
         ·obtain rfl:=lf h
          exact bv fY (p40<|sg 52 c39<|eF .normal (ak e ok m m2 m3 m4 m5 m6 m7 m8 m9 true))<|by kernel_rfl
         ·have p42:=fun{sc F} (r:PS sc F)=>p40<|sg 52 c39<|ss<|r
          rcases aO h with⟨c41,h⟩|⟨c41,h⟩
          ·obtain rfl:=lf h
           exact bv fY (p42<|sg 56 c41<|sv (aM e)<|sv (aN e)<|bQ (ee.ln e.Types)<|eF .normal (ak e ok m m2 m3 m4 m5 m6 m7 m8 m9 (decide ((e.Types.length:Int)>0))))<|by kernel_rfl
          ·obtain rfl:=lf h
           exact bv fY (p42<|sg 56 c41<|eF .normal (ak e ok m m2 m3 m4 m5 m6 m7 m8 m9 false))<|by kernel_rfl
        ·have p44:=fun{sc F} (r:PS sc F)=>p38<|sg 45 c37<|ss<|r
         rcases aO h with⟨c43,h⟩|⟨c43,h⟩
         ·obtain rfl:=lf h
          exact bv fY (p44<|sg 56 c43<|sv (aM e)<|sv (aN e)<|bQ (ee.ln e.Types)<|eF .normal (ak e ok m m2 m3 m4 m5 m6 m7 m8 m9 (decide ((e.Types.length:Int)>0))))<|by kernel_rfl
         ·obtain rfl:=lf h
          exact bv fY (p44<|sg 56 c43<|eF .normal (ak e ok m m2 m3 m4 m5 m6 m7 m8 m9 false))<|by kernel_rfl
      ·have p46:=fun{sc F} (r:PS sc F)=>p34<|sg 34 c33<|ss<|r
       rcases aO h with⟨c45,h⟩|⟨c45,h⟩
       ·have p48:=fun{sc F} (r:PS sc F)=>p46<|sg 45 c45<|sv (aG e)<|sv (aH e)<|bQ (eZ.ln e.Alts)<|r
        rcases aO h with⟨c47,h⟩|⟨c47,h⟩
        ·obtain rfl:=lf h
         exact bv fY (p48<|sg 52 c47<|eF .normal (ak e ok m m2 m3 m4 m5 m6 m7 m8 m9 true))<|by kernel_rfl
        ·have p50:=fun{sc F} (r:PS sc F)=>p48<|sg 52 c47<|ss<|r
         rcases aO h with⟨c49,h⟩|⟨c49,h⟩
         ·obtain rfl:=lf h
          exact bv fY (p50<|sg 56 c49<|sv (aM e)<|sv (aN e)<|bQ (ee.ln e.Types)<|eF .normal (ak e ok m m2 m3 m4 m5 m6 m7 m8 m9 (decide ((e.Types.length:Int)>0))))<|by kernel_rfl
         ·obtain rfl:=lf h
          exact bv fY (p50<|sg 56 c49<|eF .normal (ak e ok m m2 m3 m4 m5 m6 m7 m8 m9 false))<|by kernel_rfl
       ·have p52:=fun{sc F} (r:PS sc F)=>p46<|sg 45 c45<|ss<|r
        rcases aO h with⟨c51,h⟩|⟨c51,h⟩
        ·obtain rfl:=lf h
         exact bv fY (p52<|sg 56 c51<|sv (aM e)<|sv (aN e)<|bQ (ee.ln e.Types)<|eF .normal (ak e ok m m2 m3 m4 m5 m6 m7 m8 m9 (decide ((e.Types.length:Int)>0))))<|by kernel_rfl
        ·obtain rfl:=lf h
         exact bv fY (p52<|sg 56 c51<|eF .normal (ak e ok m m2 m3 m4 m5 m6 m7 m8 m9 false))<|by kernel_rfl
   ·have p54:=fun{sc F} (r:PS sc F)=>p6<|sg 13 c5<|ss<|r
    rcases aO h with⟨c53,h⟩|⟨c53,h⟩
    ·have p56:=fun{sc F} (r:PS sc F)=>p54<|sg 23 c53<|sv (ba e)<|sv (be e)<|bQ (fQ.ln e.Kids)<|r
     rcases aO h with⟨c55,h⟩|⟨c55,h⟩
     ·obtain rfl:=lf h
      exact bv fY (p56<|sg 30 c55<|eF .normal (ak e ok m m2 m3 m4 m5 m6 m7 m8 m9 true))<|by kernel_rfl
     ·have p58:=fun{sc F} (r:PS sc F)=>p56<|sg 30 c55<|ss<|r
      rcases aO h with⟨c57,h⟩|⟨c57,h⟩
      ·have p60:=fun{sc F} (r:PS sc F)=>p58<|sg 34 c57<|sv (bH e)<|sv (bJ e)<|bQ (lH.ln e.Params)<|r
       rcases aO h with⟨c59,h⟩|⟨c59,h⟩
       ·obtain rfl:=lf h
        exact bv fY (p60<|sg 41 c59<|eF .normal (ak e ok m m2 m3 m4 m5 m6 m7 m8 m9 true))<|by kernel_rfl
       ·have p62:=fun{sc F} (r:PS sc F)=>p60<|sg 41 c59<|ss<|r
        rcases aO h with⟨c61,h⟩|⟨c61,h⟩
        ·have p64:=fun{sc F} (r:PS sc F)=>p62<|sg 45 c61<|sv (aG e)<|sv (aH e)<|bQ (eZ.ln e.Alts)<|r
         rcases aO h with⟨c63,h⟩|⟨c63,h⟩
         ·obtain rfl:=lf h
          exact bv fY (p64<|sg 52 c63<|eF .normal (ak e ok m m2 m3 m4 m5 m6 m7 m8 m9 true))<|by kernel_rfl
         ·have p66:=fun{sc F} (r:PS sc F)=>p64<|sg 52 c63<|ss<|r
          rcases aO h with⟨c65,h⟩|⟨c65,h⟩
          ·obtain rfl:=lf h
           exact bv fY (p66<|sg 56 c65<|sv (aM e)<|sv (aN e)<|bQ (ee.ln e.Types)<|eF .normal (ak e ok m m2 m3 m4 m5 m6 m7 m8 m9 (decide ((e.Types.length:Int)>0))))<|by kernel_rfl
          ·obtain rfl:=lf h
           exact bv fY (p66<|sg 56 c65<|eF .normal (ak e ok m m2 m3 m4 m5 m6 m7 m8 m9 false))<|by kernel_rfl
        ·have p68:=fun{sc F} (r:PS sc F)=>p62<|sg 45 c61<|ss<|r
         rcases aO h with⟨c67,h⟩|⟨c67,h⟩
         ·obtain rfl:=lf h
          exact bv fY (p68<|sg 56 c67<|sv (aM e)<|sv (aN e)<|bQ (ee.ln e.Types)<|eF .normal (ak e ok m m2 m3 m4 m5 m6 m7 m8 m9 (decide ((e.Types.length:Int)>0))))<|by kernel_rfl
         ·obtain rfl:=lf h
          exact bv fY (p68<|sg 56 c67<|eF .normal (ak e ok m m2 m3 m4 m5 m6 m7 m8 m9 false))<|by kernel_rfl
      ·have p70:=fun{sc F} (r:PS sc F)=>p58<|sg 34 c57<|ss<|r
       rcases aO h with⟨c69,h⟩|⟨c69,h⟩
       ·have p72:=fun{sc F} (r:PS sc F)=>p70<|sg 45 c69<|sv (aG e)<|sv (aH e)<|bQ (eZ.ln e.Alts)<|r
        rcases aO h with⟨c71,h⟩|⟨c71,h⟩
        ·obtain rfl:=lf h
         exact bv fY (p72<|sg 52 c71<|eF .normal (ak e ok m m2 m3 m4 m5 m6 m7 m8 m9 true))<|by kernel_rfl
        ·have p74:=fun{sc F} (r:PS sc F)=>p72<|sg 52 c71<|ss<|r
         rcases aO h with⟨c73,h⟩|⟨c73,h⟩
         ·obtain rfl:=lf h
          exact bv fY (p74<|sg 56 c73<|sv (aM e)<|sv (aN e)<|bQ (ee.ln e.Types)<|eF .normal (ak e ok m m2 m3 m4 m5 m6 m7 m8 m9 (decide ((e.Types.length:Int)>0))))<|by kernel_rfl
         ·obtain rfl:=lf h
          exact bv fY (p74<|sg 56 c73<|eF .normal (ak e ok m m2 m3 m4 m5 m6 m7 m8 m9 false))<|by kernel_rfl
       ·have p76:=fun{sc F} (r:PS sc F)=>p70<|sg 45 c69<|ss<|r
        rcases aO h with⟨c75,h⟩|⟨c75,h⟩
        ·obtain rfl:=lf h
         exact bv fY (p76<|sg 56 c75<|sv (aM e)<|sv (aN e)<|bQ (ee.ln e.Types)<|eF .normal (ak e ok m m2 m3 m4 m5 m6 m7 m8 m9 (decide ((e.Types.length:Int)>0))))<|by kernel_rfl
        ·obtain rfl:=lf h
         exact bv fY (p76<|sg 56 c75<|eF .normal (ak e ok m m2 m3 m4 m5 m6 m7 m8 m9 false))<|by kernel_rfl
    ·have p78:=fun{sc F} (r:PS sc F)=>p54<|sg 23 c53<|ss<|r
     rcases aO h with⟨c77,h⟩|⟨c77,h⟩
     ·have p80:=fun{sc F} (r:PS sc F)=>p78<|sg 34 c77<|sv (bH e)<|sv (bJ e)<|bQ (lH.ln e.Params)<|r
      rcases aO h with⟨c79,h⟩|⟨c79,h⟩
      ·obtain rfl:=lf h
       exact bv fY (p80<|sg 41 c79<|eF .normal (ak e ok m m2 m3 m4 m5 m6 m7 m8 m9 true))<|by kernel_rfl
      ·have p82:=fun{sc F} (r:PS sc F)=>p80<|sg 41 c79<|ss<|r
       rcases aO h with⟨c81,h⟩|⟨c81,h⟩
       ·have p84:=fun{sc F} (r:PS sc F)=>p82<|sg 45 c81<|sv (aG e)<|sv (aH e)<|bQ (eZ.ln e.Alts)<|r
        rcases aO h with⟨c83,h⟩|⟨c83,h⟩
        ·obtain rfl:=lf h
         exact bv fY (p84<|sg 52 c83<|eF .normal (ak e ok m m2 m3 m4 m5 m6 m7 m8 m9 true))<|by kernel_rfl
        ·have p86:=fun{sc F} (r:PS sc F)=>p84<|sg 52 c83<|ss<|r
         rcases aO h with⟨c85,h⟩|⟨c85,h⟩
         ·obtain rfl:=lf h
          exact bv fY (p86<|sg 56 c85<|sv (aM e)<|sv (aN e)<|bQ (ee.ln e.Types)<|eF .normal (ak e ok m m2 m3 m4 m5 m6 m7 m8 m9 (decide ((e.Types.length:Int)>0))))<|by kernel_rfl
         ·obtain rfl:=lf h
          exact bv fY (p86<|sg 56 c85<|eF .normal (ak e ok m m2 m3 m4 m5 m6 m7 m8 m9 false))<|by kernel_rfl
       ·have p88:=fun{sc F} (r:PS sc F)=>p82<|sg 45 c81<|ss<|r
        rcases aO h with⟨c87,h⟩|⟨c87,h⟩
        ·obtain rfl:=lf h
         exact bv fY (p88<|sg 56 c87<|sv (aM e)<|sv (aN e)<|bQ (ee.ln e.Types)<|eF .normal (ak e ok m m2 m3 m4 m5 m6 m7 m8 m9 (decide ((e.Types.length:Int)>0))))<|by kernel_rfl
        ·obtain rfl:=lf h
         exact bv fY (p88<|sg 56 c87<|eF .normal (ak e ok m m2 m3 m4 m5 m6 m7 m8 m9 false))<|by kernel_rfl
     ·have p90:=fun{sc F} (r:PS sc F)=>p78<|sg 34 c77<|ss<|r
      rcases aO h with⟨c89,h⟩|⟨c89,h⟩
      ·have p92:=fun{sc F} (r:PS sc F)=>p90<|sg 45 c89<|sv (aG e)<|sv (aH e)<|bQ (eZ.ln e.Alts)<|r
       rcases aO h with⟨c91,h⟩|⟨c91,h⟩
       ·obtain rfl:=lf h
        exact bv fY (p92<|sg 52 c91<|eF .normal (ak e ok m m2 m3 m4 m5 m6 m7 m8 m9 true))<|by kernel_rfl
       ·have p94:=fun{sc F} (r:PS sc F)=>p92<|sg 52 c91<|ss<|r
        rcases aO h with⟨c93,h⟩|⟨c93,h⟩
        ·obtain rfl:=lf h
         exact bv fY (p94<|sg 56 c93<|sv (aM e)<|sv (aN e)<|bQ (ee.ln e.Types)<|eF .normal (ak e ok m m2 m3 m4 m5 m6 m7 m8 m9 (decide ((e.Types.length:Int)>0))))<|by kernel_rfl
        ·obtain rfl:=lf h
         exact bv fY (p94<|sg 56 c93<|eF .normal (ak e ok m m2 m3 m4 m5 m6 m7 m8 m9 false))<|by kernel_rfl
      ·have p96:=fun{sc F} (r:PS sc F)=>p90<|sg 45 c89<|ss<|r
       rcases aO h with⟨c95,h⟩|⟨c95,h⟩
       ·obtain rfl:=lf h
        exact bv fY (p96<|sg 56 c95<|sv (aM e)<|sv (aN e)<|bQ (ee.ln e.Types)<|eF .normal (ak e ok m m2 m3 m4 m5 m6 m7 m8 m9 (decide ((e.Types.length:Int)>0))))<|by kernel_rfl
       ·obtain rfl:=lf h
        exact bv fY (p96<|sg 56 c95<|eF .normal (ak e ok m m2 m3 m4 m5 m6 m7 m8 m9 false))<|by kernel_rfl
 ·have p98:=fun{sc F} (r:PS sc F)=>ss<|sg 4 c2<|ss<|r
  rcases aO h with⟨c97,h⟩|⟨c97,h⟩
  ·have p100:=fun{sc F} (r:PS sc F)=>p98<|sg 13 c97<|sv (da e)<|sv (dv e)<|r
   rcases aO h with⟨c99,h⟩|⟨c99,h⟩
   ·obtain rfl:=lf h
    exact bv fY (p100<|sg 19 c99<|eF .normal (ak e ok m m2 m3 m4 m5 m6 m7 m8 m9 true))<|by kernel_rfl
   ·have p102:=fun{sc F} (r:PS sc F)=>p100<|sg 19 c99<|ss<|r
    rcases aO h with⟨c101,h⟩|⟨c101,h⟩
    ·have p104:=fun{sc F} (r:PS sc F)=>p102<|sg 23 c101<|sv (ba e)<|sv (be e)<|bQ (fQ.ln e.Kids)<|r
     rcases aO h with⟨c103,h⟩|⟨c103,h⟩
     ·obtain rfl:=lf h
      exact bv fY (p104<|sg 30 c103<|eF .normal (ak e ok m m2 m3 m4 m5 m6 m7 m8 m9 true))<|by kernel_rfl
     ·have p106:=fun{sc F} (r:PS sc F)=>p104<|sg 30 c103<|ss<|r
      rcases aO h with⟨c105,h⟩|⟨c105,h⟩
      ·have p108:=fun{sc F} (r:PS sc F)=>p106<|sg 34 c105<|sv (bH e)<|sv (bJ e)<|bQ (lH.ln e.Params)<|r
       rcases aO h with⟨c107,h⟩|⟨c107,h⟩
       ·obtain rfl:=lf h
        exact bv fY (p108<|sg 41 c107<|eF .normal (ak e ok m m2 m3 m4 m5 m6 m7 m8 m9 true))<|by kernel_rfl
       ·have p110:=fun{sc F} (r:PS sc F)=>p108<|sg 41 c107<|ss<|r
        rcases aO h with⟨c109,h⟩|⟨c109,h⟩
        ·have p112:=fun{sc F} (r:PS sc F)=>p110<|sg 45 c109<|sv (aG e)<|sv (aH e)<|bQ (eZ.ln e.Alts)<|r
         rcases aO h with⟨c111,h⟩|⟨c111,h⟩
         ·obtain rfl:=lf h
          exact bv fY (p112<|sg 52 c111<|eF .normal (ak e ok m m2 m3 m4 m5 m6 m7 m8 m9 true))<|by kernel_rfl
         ·have p114:=fun{sc F} (r:PS sc F)=>p112<|sg 52 c111<|ss<|r
          rcases aO h with⟨c113,h⟩|⟨c113,h⟩
          ·obtain rfl:=lf h
           exact bv fY (p114<|sg 56 c113<|sv (aM e)<|sv (aN e)<|bQ (ee.ln e.Types)<|eF .normal (ak e ok m m2 m3 m4 m5 m6 m7 m8 m9 (decide ((e.Types.length:Int)>0))))<|by kernel_rfl
          ·obtain rfl:=lf h
           exact bv fY (p114<|sg 56 c113<|eF .normal (ak e ok m m2 m3 m4 m5 m6 m7 m8 m9 false))<|by kernel_rfl
        ·have p116:=fun{sc F} (r:PS sc F)=>p110<|sg 45 c109<|ss<|r
         rcases aO h with⟨c115,h⟩|⟨c115,h⟩
         ·obtain rfl:=lf h
          exact bv fY (p116<|sg 56 c115<|sv (aM e)<|sv (aN e)<|bQ (ee.ln e.Types)<|eF .normal (ak e ok m m2 m3 m4 m5 m6 m7 m8 m9 (decide ((e.Types.length:Int)>0))))<|by kernel_rfl
         ·obtain rfl:=lf h
          exact bv fY (p116<|sg 56 c115<|eF .normal (ak e ok m m2 m3 m4 m5 m6 m7 m8 m9 false))<|by kernel_rfl
      ·have p118:=fun{sc F} (r:PS sc F)=>p106<|sg 34 c105<|ss<|r
       rcases aO h with⟨c117,h⟩|⟨c117,h⟩
       ·have p120:=fun{sc F} (r:PS sc F)=>p118<|sg 45 c117<|sv (aG e)<|sv (aH e)<|bQ (eZ.ln e.Alts)<|r
        rcases aO h with⟨c119,h⟩|⟨c119,h⟩
        ·obtain rfl:=lf h
         exact bv fY (p120<|sg 52 c119<|eF .normal (ak e ok m m2 m3 m4 m5 m6 m7 m8 m9 true))<|by kernel_rfl
        ·have p122:=fun{sc F} (r:PS sc F)=>p120<|sg 52 c119<|ss<|r
         rcases aO h with⟨c121,h⟩|⟨c121,h⟩
         ·obtain rfl:=lf h
          exact bv fY (p122<|sg 56 c121<|sv (aM e)<|sv (aN e)<|bQ (ee.ln e.Types)<|eF .normal (ak e ok m m2 m3 m4 m5 m6 m7 m8 m9 (decide ((e.Types.length:Int)>0))))<|by kernel_rfl
         ·obtain rfl:=lf h
          exact bv fY (p122<|sg 56 c121<|eF .normal (ak e ok m m2 m3 m4 m5 m6 m7 m8 m9 false))<|by kernel_rfl
       ·have p124:=fun{sc F} (r:PS sc F)=>p118<|sg 45 c117<|ss<|r
        rcases aO h with⟨c123,h⟩|⟨c123,h⟩
        ·obtain rfl:=lf h
         exact bv fY (p124<|sg 56 c123<|sv (aM e)<|sv (aN e)<|bQ (ee.ln e.Types)<|eF .normal (ak e ok m m2 m3 m4 m5 m6 m7 m8 m9 (decide ((e.Types.length:Int)>0))))<|by kernel_rfl
        ·obtain rfl:=lf h
         exact bv fY (p124<|sg 56 c123<|eF .normal (ak e ok m m2 m3 m4 m5 m6 m7 m8 m9 false))<|by kernel_rfl
    ·have p126:=fun{sc F} (r:PS sc F)=>p102<|sg 23 c101<|ss<|r
     rcases aO h with⟨c125,h⟩|⟨c125,h⟩
     ·have p128:=fun{sc F} (r:PS sc F)=>p126<|sg 34 c125<|sv (bH e)<|sv (bJ e)<|bQ (lH.ln e.Params)<|r
      rcases aO h with⟨c127,h⟩|⟨c127,h⟩
      ·obtain rfl:=lf h
       exact bv fY (p128<|sg 41 c127<|eF .normal (ak e ok m m2 m3 m4 m5 m6 m7 m8 m9 true))<|by kernel_rfl
      ·have p130:=fun{sc F} (r:PS sc F)=>p128<|sg 41 c127<|ss<|r
       rcases aO h with⟨c129,h⟩|⟨c129,h⟩
       ·have p132:=fun{sc F} (r:PS sc F)=>p130<|sg 45 c129<|sv (aG e)<|sv (aH e)<|bQ (eZ.ln e.Alts)<|r
        rcases aO h with⟨c131,h⟩|⟨c131,h⟩
        ·obtain rfl:=lf h
         exact bv fY (p132<|sg 52 c131<|eF .normal (ak e ok m m2 m3 m4 m5 m6 m7 m8 m9 true))<|by kernel_rfl
        ·have p134:=fun{sc F} (r:PS sc F)=>p132<|sg 52 c131<|ss<|r
         rcases aO h with⟨c133,h⟩|⟨c133,h⟩
         ·obtain rfl:=lf h
          exact bv fY (p134<|sg 56 c133<|sv (aM e)<|sv (aN e)<|bQ (ee.ln e.Types)<|eF .normal (ak e ok m m2 m3 m4 m5 m6 m7 m8 m9 (decide ((e.Types.length:Int)>0))))<|by kernel_rfl
         ·obtain rfl:=lf h
          exact bv fY (p134<|sg 56 c133<|eF .normal (ak e ok m m2 m3 m4 m5 m6 m7 m8 m9 false))<|by kernel_rfl
       ·have p136:=fun{sc F} (r:PS sc F)=>p130<|sg 45 c129<|ss<|r
        rcases aO h with⟨c135,h⟩|⟨c135,h⟩
        ·obtain rfl:=lf h
         exact bv fY (p136<|sg 56 c135<|sv (aM e)<|sv (aN e)<|bQ (ee.ln e.Types)<|eF .normal (ak e ok m m2 m3 m4 m5 m6 m7 m8 m9 (decide ((e.Types.length:Int)>0))))<|by kernel_rfl
        ·obtain rfl:=lf h
         exact bv fY (p136<|sg 56 c135<|eF .normal (ak e ok m m2 m3 m4 m5 m6 m7 m8 m9 false))<|by kernel_rfl
     ·have p138:=fun{sc F} (r:PS sc F)=>p126<|sg 34 c125<|ss<|r
      rcases aO h with⟨c137,h⟩|⟨c137,h⟩
      ·have p140:=fun{sc F} (r:PS sc F)=>p138<|sg 45 c137<|sv (aG e)<|sv (aH e)<|bQ (eZ.ln e.Alts)<|r
       rcases aO h with⟨c139,h⟩|⟨c139,h⟩
       ·obtain rfl:=lf h
        exact bv fY (p140<|sg 52 c139<|eF .normal (ak e ok m m2 m3 m4 m5 m6 m7 m8 m9 true))<|by kernel_rfl
       ·have p142:=fun{sc F} (r:PS sc F)=>p140<|sg 52 c139<|ss<|r
        rcases aO h with⟨c141,h⟩|⟨c141,h⟩
        ·obtain rfl:=lf h
         exact bv fY (p142<|sg 56 c141<|sv (aM e)<|sv (aN e)<|bQ (ee.ln e.Types)<|eF .normal (ak e ok m m2 m3 m4 m5 m6 m7 m8 m9 (decide ((e.Types.length:Int)>0))))<|by kernel_rfl
        ·obtain rfl:=lf h
         exact bv fY (p142<|sg 56 c141<|eF .normal (ak e ok m m2 m3 m4 m5 m6 m7 m8 m9 false))<|by kernel_rfl
      ·have p144:=fun{sc F} (r:PS sc F)=>p138<|sg 45 c137<|ss<|r
       rcases aO h with⟨c143,h⟩|⟨c143,h⟩
       ·obtain rfl:=lf h
        exact bv fY (p144<|sg 56 c143<|sv (aM e)<|sv (aN e)<|bQ (ee.ln e.Types)<|eF .normal (ak e ok m m2 m3 m4 m5 m6 m7 m8 m9 (decide ((e.Types.length:Int)>0))))<|by kernel_rfl
       ·obtain rfl:=lf h
        exact bv fY (p144<|sg 56 c143<|eF .normal (ak e ok m m2 m3 m4 m5 m6 m7 m8 m9 false))<|by kernel_rfl
  ·have p146:=fun{sc F} (r:PS sc F)=>p98<|sg 13 c97<|ss<|r
   rcases aO h with⟨c145,h⟩|⟨c145,h⟩
   ·have p148:=fun{sc F} (r:PS sc F)=>p146<|sg 23 c145<|sv (ba e)<|sv (be e)<|bQ (fQ.ln e.Kids)<|r
    rcases aO h with⟨c147,h⟩|⟨c147,h⟩
    ·obtain rfl:=lf h
     exact bv fY (p148<|sg 30 c147<|eF .normal (ak e ok m m2 m3 m4 m5 m6 m7 m8 m9 true))<|by kernel_rfl
    ·have p150:=fun{sc F} (r:PS sc F)=>p148<|sg 30 c147<|ss<|r
     rcases aO h with⟨c149,h⟩|⟨c149,h⟩
     ·have p152:=fun{sc F} (r:PS sc F)=>p150<|sg 34 c149<|sv (bH e)<|sv (bJ e)<|bQ (lH.ln e.Params)<|r
      rcases aO h with⟨c151,h⟩|⟨c151,h⟩
      ·obtain rfl:=lf h
       exact bv fY (p152<|sg 41 c151<|eF .normal (ak e ok m m2 m3 m4 m5 m6 m7 m8 m9 true))<|by kernel_rfl
      ·have p154:=fun{sc F} (r:PS sc F)=>p152<|sg 41 c151<|ss<|r
       rcases aO h with⟨c153,h⟩|⟨c153,h⟩
       ·have p156:=fun{sc F} (r:PS sc F)=>p154<|sg 45 c153<|sv (aG e)<|sv (aH e)<|bQ (eZ.ln e.Alts)<|r
        rcases aO h with⟨c155,h⟩|⟨c155,h⟩
        ·obtain rfl:=lf h
         exact bv fY (p156<|sg 52 c155<|eF .normal (ak e ok m m2 m3 m4 m5 m6 m7 m8 m9 true))<|by kernel_rfl
        ·have p158:=fun{sc F} (r:PS sc F)=>p156<|sg 52 c155<|ss<|r
         rcases aO h with⟨c157,h⟩|⟨c157,h⟩
         ·obtain rfl:=lf h
          exact bv fY (p158<|sg 56 c157<|sv (aM e)<|sv (aN e)<|bQ (ee.ln e.Types)<|eF .normal (ak e ok m m2 m3 m4 m5 m6 m7 m8 m9 (decide ((e.Types.length:Int)>0))))<|by kernel_rfl
         ·obtain rfl:=lf h
          exact bv fY (p158<|sg 56 c157<|eF .normal (ak e ok m m2 m3 m4 m5 m6 m7 m8 m9 false))<|by kernel_rfl
       ·have p160:=fun{sc F} (r:PS sc F)=>p154<|sg 45 c153<|ss<|r
        rcases aO h with⟨c159,h⟩|⟨c159,h⟩
        ·obtain rfl:=lf h
         exact bv fY (p160<|sg 56 c159<|sv (aM e)<|sv (aN e)<|bQ (ee.ln e.Types)<|eF .normal (ak e ok m m2 m3 m4 m5 m6 m7 m8 m9 (decide ((e.Types.length:Int)>0))))<|by kernel_rfl
        ·obtain rfl:=lf h
         exact bv fY (p160<|sg 56 c159<|eF .normal (ak e ok m m2 m3 m4 m5 m6 m7 m8 m9 false))<|by kernel_rfl
     ·have p162:=fun{sc F} (r:PS sc F)=>p150<|sg 34 c149<|ss<|r
      rcases aO h with⟨c161,h⟩|⟨c161,h⟩
      ·have p164:=fun{sc F} (r:PS sc F)=>p162<|sg 45 c161<|sv (aG e)<|sv (aH e)<|bQ (eZ.ln e.Alts)<|r
       rcases aO h with⟨c163,h⟩|⟨c163,h⟩
       ·obtain rfl:=lf h
        exact bv fY (p164<|sg 52 c163<|eF .normal (ak e ok m m2 m3 m4 m5 m6 m7 m8 m9 true))<|by kernel_rfl
       ·have p166:=fun{sc F} (r:PS sc F)=>p164<|sg 52 c163<|ss<|r
        rcases aO h with⟨c165,h⟩|⟨c165,h⟩
        ·obtain rfl:=lf h
         exact bv fY (p166<|sg 56 c165<|sv (aM e)<|sv (aN e)<|bQ (ee.ln e.Types)<|eF .normal (ak e ok m m2 m3 m4 m5 m6 m7 m8 m9 (decide ((e.Types.length:Int)>0))))<|by kernel_rfl
        ·obtain rfl:=lf h
         exact bv fY (p166<|sg 56 c165<|eF .normal (ak e ok m m2 m3 m4 m5 m6 m7 m8 m9 false))<|by kernel_rfl
      ·have p168:=fun{sc F} (r:PS sc F)=>p162<|sg 45 c161<|ss<|r
       rcases aO h with⟨c167,h⟩|⟨c167,h⟩
       ·obtain rfl:=lf h
        exact bv fY (p168<|sg 56 c167<|sv (aM e)<|sv (aN e)<|bQ (ee.ln e.Types)<|eF .normal (ak e ok m m2 m3 m4 m5 m6 m7 m8 m9 (decide ((e.Types.length:Int)>0))))<|by kernel_rfl
       ·obtain rfl:=lf h
        exact bv fY (p168<|sg 56 c167<|eF .normal (ak e ok m m2 m3 m4 m5 m6 m7 m8 m9 false))<|by kernel_rfl
   ·have p170:=fun{sc F} (r:PS sc F)=>p146<|sg 23 c145<|ss<|r
    rcases aO h with⟨c169,h⟩|⟨c169,h⟩
    ·have p172:=fun{sc F} (r:PS sc F)=>p170<|sg 34 c169<|sv (bH e)<|sv (bJ e)<|bQ (lH.ln e.Params)<|r
     rcases aO h with⟨c171,h⟩|⟨c171,h⟩
     ·obtain rfl:=lf h
      exact bv fY (p172<|sg 41 c171<|eF .normal (ak e ok m m2 m3 m4 m5 m6 m7 m8 m9 true))<|by kernel_rfl
     ·have p174:=fun{sc F} (r:PS sc F)=>p172<|sg 41 c171<|ss<|r
      rcases aO h with⟨c173,h⟩|⟨c173,h⟩
      ·have p176:=fun{sc F} (r:PS sc F)=>p174<|sg 45 c173<|sv (aG e)<|sv (aH e)<|bQ (eZ.ln e.Alts)<|r
       rcases aO h with⟨c175,h⟩|⟨c175,h⟩
       ·obtain rfl:=lf h
        exact bv fY (p176<|sg 52 c175<|eF .normal (ak e ok m m2 m3 m4 m5 m6 m7 m8 m9 true))<|by kernel_rfl
       ·have p178:=fun{sc F} (r:PS sc F)=>p176<|sg 52 c175<|ss<|r
        rcases aO h with⟨c177,h⟩|⟨c177,h⟩
        ·obtain rfl:=lf h
         exact bv fY (p178<|sg 56 c177<|sv (aM e)<|sv (aN e)<|bQ (ee.ln e.Types)<|eF .normal (ak e ok m m2 m3 m4 m5 m6 m7 m8 m9 (decide ((e.Types.length:Int)>0))))<|by kernel_rfl
        ·obtain rfl:=lf h
         exact bv fY (p178<|sg 56 c177<|eF .normal (ak e ok m m2 m3 m4 m5 m6 m7 m8 m9 false))<|by kernel_rfl
      ·have p180:=fun{sc F} (r:PS sc F)=>p174<|sg 45 c173<|ss<|r
       rcases aO h with⟨c179,h⟩|⟨c179,h⟩
       ·obtain rfl:=lf h
        exact bv fY (p180<|sg 56 c179<|sv (aM e)<|sv (aN e)<|bQ (ee.ln e.Types)<|eF .normal (ak e ok m m2 m3 m4 m5 m6 m7 m8 m9 (decide ((e.Types.length:Int)>0))))<|by kernel_rfl
       ·obtain rfl:=lf h
        exact bv fY (p180<|sg 56 c179<|eF .normal (ak e ok m m2 m3 m4 m5 m6 m7 m8 m9 false))<|by kernel_rfl
    ·have p182:=fun{sc F} (r:PS sc F)=>p170<|sg 34 c169<|ss<|r
     rcases aO h with⟨c181,h⟩|⟨c181,h⟩
     ·have p184:=fun{sc F} (r:PS sc F)=>p182<|sg 45 c181<|sv (aG e)<|sv (aH e)<|bQ (eZ.ln e.Alts)<|r
      rcases aO h with⟨c183,h⟩|⟨c183,h⟩
      ·obtain rfl:=lf h
       exact bv fY (p184<|sg 52 c183<|eF .normal (ak e ok m m2 m3 m4 m5 m6 m7 m8 m9 true))<|by kernel_rfl
      ·have p186:=fun{sc F} (r:PS sc F)=>p184<|sg 52 c183<|ss<|r
       rcases aO h with⟨c185,h⟩|⟨c185,h⟩
       ·obtain rfl:=lf h
        exact bv fY (p186<|sg 56 c185<|sv (aM e)<|sv (aN e)<|bQ (ee.ln e.Types)<|eF .normal (ak e ok m m2 m3 m4 m5 m6 m7 m8 m9 (decide ((e.Types.length:Int)>0))))<|by kernel_rfl
       ·obtain rfl:=lf h
        exact bv fY (p186<|sg 56 c185<|eF .normal (ak e ok m m2 m3 m4 m5 m6 m7 m8 m9 false))<|by kernel_rfl
     ·have p188:=fun{sc F} (r:PS sc F)=>p182<|sg 45 c181<|ss<|r
      rcases aO h with⟨c187,h⟩|⟨c187,h⟩
      ·obtain rfl:=lf h
       exact bv fY (p188<|sg 56 c187<|sv (aM e)<|sv (aN e)<|bQ (ee.ln e.Types)<|eF .normal (ak e ok m m2 m3 m4 m5 m6 m7 m8 m9 (decide ((e.Types.length:Int)>0))))<|by kernel_rfl
      ·obtain rfl:=lf h
       exact bv fY (p188<|sg 56 c187<|eF .normal (ak e ok m m2 m3 m4 m5 m6 m7 m8 m9 false))<|by kernel_rfl
end
section
variable(e:af)(ok:Bool)(unused:Bool)(m:Bool)(m2:Bool)(m3:Int)(m4:Int)(m5:Bool)(m6:Bool)(m7:Int)(m8:Int)(m9:Bool)
def IA:aB:=aS 156 [(1,.eptr (ac e)),(3,.bptr 1 0),(4,.bool ok),(5,.bool unused)] [.dead,.cells [.bool m,.bool m2,.int .i64 m3,.int .i64 m4,.bool m5,.bool m6,.int .i64 m7,.int .i64 m8,.bool m9] []] []
def sR(o:Bool):aB:=aS 156 [(1,.eptr (ac e)),(3,.bptr 1 0),(81,.bool o)] [.dead,.cells [.bool m,.bool m2,.int .i64 m3,.int .i64 m4,.bool m5,.bool m6,.int .i64 m7,.int .i64 m8,.bool m9] []] []
def CZ:Option Bool:=
 if(!ok)=true then
  some true
 else
  some unused
theorem Hi{x:Bool}(h:CZ ok unused=some x):aW Pg GE 0 (cA Wh 122) (EX .normal (sR e m m2 m3 m4 m5 m6 m7 m8 m9 x)) (IA e ok unused m m2 m3 m4 m5 m6 m7 m8 m9):=by
 rcases aO h with⟨c190,h⟩|⟨c190,h⟩
 ·obtain rfl:=lf h
  exact bv fY (sg 3 c190<|eF .normal (sR e m m2 m3 m4 m5 m6 m7 m8 m9 true))<|by kernel_rfl
 ·obtain rfl:=lf h
  exact bv fY (sg 3 c190<|eF .normal (sR e m m2 m3 m4 m5 m6 m7 m8 m9 unused))<|by kernel_rfl
end
section
variable(e:af)(m:Bool)(m2:Bool)(m3:Int)(m4:Int)(m5:Bool)(m6:Bool)(m7:Int)(m8:Int)(m9:Bool)
def IB:aB:=aS 156 [(1,.eptr (ac e)),(3,.bptr 1 0)] [.dead,.cells [.bool m,.bool m2,.int .i64 m3,.int .i64 m4,.bool m5,.bool m6,.int .i64 m7,.int .i64 m8,.bool m9] []] []
def fq(o:Bool):aB:=aS 156 [(1,.eptr (ac e)),(3,.bptr 1 0),(92,.bool o)] [.dead,.cells [.bool m,.bool m2,.int .i64 m3,.int .i64 m4,.bool m5,.bool m6,.int .i64 m7,.int .i64 m8,.bool m9] []] []
def C0:Option Bool:=
 if (e.Op == 1) = true then
  (Vc e.N).bind fun r199=>
  if(!r199)=true then
   some true
  else
   if(e.Op==2)=true then
    if(e.N !=0)=true then
     some (e.N !=1)
    else
     some false
   else
    some false
 else
  if(e.Op==2)=true then
   if(e.N !=0)=true then
    some (e.N !=1)
   else
    some false
  else
   some false
theorem Hj{x:Bool}(h:C0 e=some x):aW Pg GE 0 (cA Wh 1982) (EX .normal (fq e m m2 m3 m4 m5 m6 m7 m8 m9 x)) (IB e m m2 m3 m4 m5 m6 m7 m8 m9):=by
 have p198:=fun{sc F} (r:PS sc F)=>sv (cK e)<|sv (cM e)<|r
 rcases aO h with⟨c197,h⟩|⟨c197,h⟩
 ·obtain⟨r199,br199,h⟩:=ck h
  have p201:=fun{sc F} (r:PS sc F)=>p198<|sg 4 c197<|sv (iN e)<|sv (jU e)<|cD (TD br199)<|r
  rcases aO h with⟨c200,h⟩|⟨c200,h⟩
  ·obtain rfl:=lf h
   exact bv fY (p201<|sg 10 c200<|eF .normal (fq e m m2 m3 m4 m5 m6 m7 m8 m9 true))<|by kernel_rfl
  ·have p203:=fun{sc F} (r:PS sc F)=>p201<|sg 10 c200<|sv (cK e)<|sv (cM e)<|r
   rcases aO h with⟨c202,h⟩|⟨c202,h⟩
   ·have p205:=fun{sc F} (r:PS sc F)=>p203<|sg 14 c202<|sv (iN e)<|sv (jU e)<|r
    rcases aO h with⟨c204,h⟩|⟨c204,h⟩
    ·obtain rfl:=lf h
     exact bv fY (p205<|sg 19 c204<|sv (iN e)<|sv (jU e)<|eF .normal (fq e m m2 m3 m4 m5 m6 m7 m8 m9 (e.N !=1)))<|by kernel_rfl
    ·obtain rfl:=lf h
     exact bv fY (p205<|sg 19 c204<|eF .normal (fq e m m2 m3 m4 m5 m6 m7 m8 m9 false))<|by kernel_rfl
   ·obtain rfl:=lf h
    exact bv fY (p203<|sg 14 c202<|eF .normal (fq e m m2 m3 m4 m5 m6 m7 m8 m9 false))<|by kernel_rfl
 ·have p207:=fun{sc F} (r:PS sc F)=>p198<|sg 4 c197<|sv (cK e)<|sv (cM e)<|r
  rcases aO h with⟨c206,h⟩|⟨c206,h⟩
  ·have p209:=fun{sc F} (r:PS sc F)=>p207<|sg 14 c206<|sv (iN e)<|sv (jU e)<|r
   rcases aO h with⟨c208,h⟩|⟨c208,h⟩
   ·obtain rfl:=lf h
    exact bv fY (p209<|sg 19 c208<|sv (iN e)<|sv (jU e)<|eF .normal (fq e m m2 m3 m4 m5 m6 m7 m8 m9 (e.N !=1)))<|by kernel_rfl
   ·obtain rfl:=lf h
    exact bv fY (p209<|sg 19 c208<|eF .normal (fq e m m2 m3 m4 m5 m6 m7 m8 m9 false))<|by kernel_rfl
  ·obtain rfl:=lf h
   exact bv fY (p207<|sg 14 c206<|eF .normal (fq e m m2 m3 m4 m5 m6 m7 m8 m9 false))<|by kernel_rfl
end
section
variable(e:af)(t124:waC)(t125:Int)(m:Bool)(m2:Bool)(m3:Int)(m4:Int)(m5:Bool)(m6:Bool)(m7:Int)(m8:Int)(m9:Bool)(t126:Int)
def nM:aB:=aS 156 [(1,.eptr (ac e)),(124,sl ah t124),(125,.int .i64 t125),(126,.int .i64 t126)] [.dead,.cells [.bool m,.bool m2,.int .i64 m3,.int .i64 m4,.bool m5,.bool m6,.int .i64 m7,.int .i64 m8,.bool m9] []] []
def nN(o:Int⊕(Unit)):Exit:=match o with
 |(.inl _)=>.ret
 |(.inr _)=>.exit 1
def gy(o:Int⊕(Unit)):aB:=match o with
 |(.inl o)=>aS 156 [(2,.int .i64 o)] [.dead,.cells [.bool m,.bool m2,.int .i64 m3,.int .i64 m4,.bool m5,.bool m6,.int .i64 m7,.int .i64 m8,.bool m9] []] []
 |(.inr o)=>aS 156 [(1,.eptr (ac e))] [.dead,.cells [.bool m,.bool m2,.int .i64 m3,.int .i64 m4,.bool m5,.bool m6,.int .i64 m7,.int .i64 m8,.bool m9] []] []
def zC:Option (Int⊕(Int⊕(Unit))):=
 if(decide (t126<t125))=true then
  (eT t124 t126).bind fun x217=>
  (C6 x217).bind fun r218=>
  if(r218 !=0)=true then
   some (.inr (.inl r218))
  else
   some (.inl (bB (t126+1)))
 else
  some (.inr (.inr ()))
def C2:Option (Int⊕(Unit)):=loop (fun(zz:Int)=>zC t124 t125 zz) t126
theorem FK{y:Int⊕(Int⊕(Unit))}(h:zC t124 t125 t126=some y):aW Pg GE 0 (cA Wh 1015) (LQ (fun(zz:Int)=>nM e t124 t125 m m2 m3 m4 m5 m6 m7 m8 m9 zz) nN (gy e m m2 m3 m4 m5 m6 m7 m8 m9) y) (nM e t124 t125 m m2 m3 m4 m5 m6 m7 m8 m9 t126):=by
 rcases aO h with⟨c216,h⟩|⟨c216,h⟩
 ·obtain⟨x217,bx217,r218,br218,h⟩:=Zb2 h
  have p220:=fun{sc F} (r:PS sc F)=>sg 0 c216<|sv (ee.ia (k:=.i64) bx217)<|sv (lC x217)<|sx R2<|sx (sH x217)<|sv (kz x217 [])<|cD (C7 br218)<|r
  rcases aO h with⟨c219,h⟩|⟨c219,h⟩
  ·obtain rfl:=lf h
   have z:=p220<|sg 0 c219<|tr 0 (nN (.inl r218)) (gy e m m2 m3 m4 m5 m6 m7 m8 m9 (.inl r218)) rfl (du (aI trivial trivial)) (aI trivial (aI (aI trivial (aI trivial (aI trivial (aI trivial (aI trivial (aI trivial (aI trivial (aI trivial (aI trivial trivial))))))))) trivial))
   exact sF (A:=fY) mixed (Zn rfl) z<|by kernel_rfl
  ·obtain rfl:=lf h
   have z:=p220<|sg 0 c219<|tr 0 .normal (nM e t124 t125 m m2 m3 m4 m5 m6 m7 m8 m9 (bB (t126+1))) rfl (du (aI (a8 (az e)) (aI (up (aj aF t124)) (aI trivial (aI trivial trivial))))) (aI trivial (aI (aI trivial (aI trivial (aI trivial (aI trivial (aI trivial (aI trivial (aI trivial (aI trivial (aI trivial trivial))))))))) trivial))
   exact dy (A:=fY) mixed z<|by kernel_rfl
 ·obtain rfl:=lf h
  have z:=sg 0 c216<|eF (nN (.inr ())) (gy e m m2 m3 m4 m5 m6 m7 m8 m9 (.inr ()))
  exact hU fY (Zn rfl) z<|by kernel_rfl
theorem rh{x:Int⊕(Unit)}(h:C2 t124 t125 t126=some x):aW Pg GE 0 (.loop (cA Wh 1015)) (EX (nN x) (gy e m m2 m3 m4 m5 m6 m7 m8 m9 x)) (nM e t124 t125 m m2 m3 m4 m5 m6 m7 m8 m9 t126):=
 ZL h fun _ _ hy=>FK _ _ _ _ _ _ _ _ _ _ _ _ _ hy
end
section
variable(v:Int)(t137:waE)(t138:Int)(t139:Int)(m:Bool)(m2:Bool)(m3:Int)(m4:Int)(m5:Bool)(m6:Bool)(m7:Int)(m8:Int)(m9:Bool)(m10:ae)(m11:Int)(m12:ae)(m13:waC)(m14:waA)(m15:Int)(m16:ae)(m17:Int)(m18:waB)(m19:waB)
def IC:aB:=aS 156 [(11,.bptr 2 0),(12,.int .i64 v),(137,sl au t137),(138,.int .i64 t138),(139,.int .i64 t139)] [.dead,.cells [.bool m,.bool m2,.int .i64 m3,.int .i64 m4,.bool m5,.bool m6,.int .i64 m7,.int .i64 m8,.bool m9] [],.cells [.str m10,.int .i64 m11,.str m12,sl ah m13,sl cS m14,.int .i64 m15,.str m16,.int .i64 m17,sl al m18,sl al m19] []] []
def sS(o:Bool):aB:=aS 156 [(12,.int .i64 v),(137,sl au t137),(138,.int .i64 t138),(139,.int .i64 t139),(153,.bool o)] [.dead,.cells [.bool m,.bool m2,.int .i64 m3,.int .i64 m4,.bool m5,.bool m6,.int .i64 m7,.int .i64 m8,.bool m9] [],.cells [.str m10,.int .i64 m11,.str m12,sl ah m13,sl cS m14,.int .i64 m15,.str m16,.int .i64 m17,sl al m18,sl al m19] []] []
def C1:Option Bool:=
 if(v !=0)=true then
  (Jk (⟨m11,m12,m13,m14,(⟨m15,m16,m17,m18⟩:am),m19⟩:ai)).bind fun r226=>
  some (!r226)
 else
  some false
theorem Hk{x:Bool}(h:C1 v m11 m12 m13 m14 m15 m16 m17 m18 m19=some x):aW Pg GE 0 (cA Wh 261102) (EX .normal (sS v t137 t138 t139 m m2 m3 m4 m5 m6 m7 m8 m9 m10 m11 m12 m13 m14 m15 m16 m17 m18 m19 x)) (IC v t137 t138 t139 m m2 m3 m4 m5 m6 m7 m8 m9 m10 m11 m12 m13 m14 m15 m16 m17 m18 m19):=by
 rcases aO h with⟨c225,h⟩|⟨c225,h⟩
 ·obtain⟨r226,br226,h⟩:=ck h
  obtain rfl:=lf h
  exact bv fY (sg 3 c225<|sv (kz (⟨m11,m12,m13,m14,(⟨m15,m16,m17,m18⟩:am),m19⟩:ai) [])<|cD (Ml br226)<|eF .normal (sS v t137 t138 t139 m m2 m3 m4 m5 m6 m7 m8 m9 m10 m11 m12 m13 m14 m15 m16 m17 m18 m19 (!r226)))<|by kernel_rfl
 ·obtain rfl:=lf h
  exact bv fY (sg 3 c225<|eF .normal (sS v t137 t138 t139 m m2 m3 m4 m5 m6 m7 m8 m9 m10 m11 m12 m13 m14 m15 m16 m17 m18 m19 false))<|by kernel_rfl
end
section
variable(t137:waE)(t138:Int)(m:Bool)(m2:Bool)(m3:Int)(m4:Int)(m5:Bool)(m6:Bool)(m7:Int)(m8:Int)(m9:Bool)(t139:Int)
def nO:aB:=aS 156 [(137,sl au t137),(138,.int .i64 t138),(139,.int .i64 t139)] [.dead,.cells [.bool m,.bool m2,.int .i64 m3,.int .i64 m4,.bool m5,.bool m6,.int .i64 m7,.int .i64 m8,.bool m9] []] []
def nQ(o:Int⊕(Unit)):Exit:=match o with
 |(.inl _)=>.ret
 |(.inr _)=>.exit 3
def iX(o:Int⊕(Unit)):aB:=match o with
 |(.inl o)=>aS 156 [(2,.int .i64 o)] [.dead,.cells [.bool m,.bool m2,.int .i64 m3,.int .i64 m4,.bool m5,.bool m6,.int .i64 m7,.int .i64 m8,.bool m9] []] []
 |(.inr o)=>aS 156 [] [.dead,.cells [.bool m,.bool m2,.int .i64 m3,.int .i64 m4,.bool m5,.bool m6,.int .i64 m7,.int .i64 m8,.bool m9] []] []
def zD:Option (Int⊕(Int⊕(Unit))):=
 if(decide (t139<t138))=true then
  (eT t137 t139).bind fun x223=>
  (C6 x223.Type_).bind fun r224=>
  (C1 r224 x223.Type_.Op x223.Type_.Name x223.Type_.Args x223.Type_.Names x223.Type_.Pred.Op x223.Type_.Pred.Name x223.Type_.Pred.N x223.Type_.Pred.Kids x223.Type_.Preds).bind fun o227=>
  if o227=true then
   some (.inr (.inl r224))
  else
   some (.inl (bB (t139+1)))
 else
  some (.inr (.inr ()))
def C3:Option (Int⊕(Unit)):=loop (fun(zz:Int)=>zD t137 t138 zz) t139
theorem FL{y:Int⊕(Int⊕(Unit))}(h:zD t137 t138 t139=some y):aW Pg GE 0 (cA Wh 2039) (LQ (fun(zz:Int)=>nO t137 t138 m m2 m3 m4 m5 m6 m7 m8 m9 zz) nQ (iX m m2 m3 m4 m5 m6 m7 m8 m9) y) (nO t137 t138 m m2 m3 m4 m5 m6 m7 m8 m9 t139):=by
 rcases aO h with⟨c222,h⟩|⟨c222,h⟩
 ·obtain⟨x223,bx223,r224,br224,o227,bo227,h⟩:=Zb3 h
  have p229:=fun{sc F} (r:PS sc F)=>sg 0 c222<|sv (lH.ia (k:=.i64) bx223)<|sv (Dr x223)<|sx TU<|sx (nb x223)<|sv (kz x223.Type_ [])<|cD (C7 br224)<|nF 0<|cT (Hk r224 t137 t138 t139 m m2 m3 m4 m5 m6 m7 m8 m9 x223.Name x223.Type_.Op x223.Type_.Name x223.Type_.Args x223.Type_.Names x223.Type_.Pred.Op x223.Type_.Pred.Name x223.Type_.Pred.N x223.Type_.Pred.Kids x223.Type_.Preds bo227)<|r
  rcases aO h with⟨c228,h⟩|⟨c228,h⟩
  ·obtain rfl:=lf h
   have z:=p229<|sg 0 c228<|tr 0 (nQ (.inl r224)) (iX m m2 m3 m4 m5 m6 m7 m8 m9 (.inl r224)) rfl (du (aI trivial trivial)) (aI trivial (aI (aI trivial (aI trivial (aI trivial (aI trivial (aI trivial (aI trivial (aI trivial (aI trivial (aI trivial trivial))))))))) trivial))
   exact sF (A:=fY) mixed (Zn rfl) z<|by kernel_rfl
  ·obtain rfl:=lf h
   have z:=p229<|sg 0 c228<|tr 0 .normal (nO t137 t138 m m2 m3 m4 m5 m6 m7 m8 m9 (bB (t139+1))) rfl (du (aI (up (aj aZ t137)) (aI trivial (aI trivial trivial)))) (aI trivial (aI (aI trivial (aI trivial (aI trivial (aI trivial (aI trivial (aI trivial (aI trivial (aI trivial (aI trivial trivial))))))))) trivial))
   exact dy (A:=fY) mixed z<|by kernel_rfl
 ·obtain rfl:=lf h
  have z:=sg 0 c222<|eF (nQ (.inr ())) (iX m m2 m3 m4 m5 m6 m7 m8 m9 (.inr ()))
  exact hU fY (Zn rfl) z<|by kernel_rfl
theorem ym{x:Int⊕(Unit)}(h:C3 t137 t138 t139=some x):aW Pg GE 0 (.loop (cA Wh 2039)) (EX (nQ x) (iX m m2 m3 m4 m5 m6 m7 m8 m9 x)) (nO t137 t138 m m2 m3 m4 m5 m6 m7 m8 m9 t139):=
 ZL h fun _ _ hy=>FL _ _ _ _ _ _ _ _ _ _ _ _ hy
end
def Jj (e:af):Option Int :=
 (EH e.Op).bind fun r1=>
 (CY e r1.1.n r1.1.name r1.1.most r1.1.params r1.1.alts r1.1.types).bind fun o189=>
 (CZ r1.2 o189).bind fun o191=>
 if o191=true then
  some 1
 else
  (EG e r1.1).bind fun r194=>
  if(!r194)=true then
   some 13
  else
   (C0 e).bind fun o210=>
   if o210=true then
    some 2
   else
    (Hd e r1.1).bind fun r213=>
    if(r213 !=0)=true then
     some r213
    else
     (C2 e.Types (e.Types.length:Int) 0).bind fun o221=>match o221 with
     |(.inl o221)=>
      some o221
     | (.inr o221) =>
      (C3 e.Params (e.Params.length:Int) 0).bind fun o230=>match o230 with
      |(.inl o230)=>
       some o230
      |(.inr o230)=>
       some 0
theorem Mk{e:af}{r:Int}(h:Jj e=some r):CC Pg GE 66 [.agg (ac e)] (.int .i64 r) []:=by
 obtain⟨r1,br1,o189,bo189,o191,bo191,h⟩:=Zb3 h
 have p193:=fun{sc F} (r:PS sc F)=>se (cF e)<|sv (cK e)<|sv (cM e)<|cD (ID br1)<|sx Xc<|sx (cy r1.1)<|nF 0<|cT (Hh e r1.2 r1.1.n r1.1.name r1.1.least r1.1.most r1.1.params r1.1.alts r1.1.typesLeast r1.1.typesMost r1.1.types bo189)<|nF 1<|cT (Hi e r1.2 o189 r1.1.n r1.1.name r1.1.least r1.1.most r1.1.params r1.1.alts r1.1.typesLeast r1.1.typesMost r1.1.types bo191)<|r
 rcases aO h with⟨c192,h⟩|⟨c192,h⟩
 ·obtain rfl:=lf h
  have z:=p193<|sg 0 c192<|en (aI (rP (.int .i64 1))<|trivial)
  exact Z66.v (aI (az e) trivial) z<|by kernel_rfl
 ·obtain⟨r194,br194,h⟩:=ck h
  have p196:=fun{sc F} (r:PS sc F)=>p193<|sg 0 c192<|sv (bM e)<|sv (y8 r1.1 [])<|cD (Iy br194)<|r
  rcases aO h with⟨c195,h⟩|⟨c195,h⟩
  ·obtain rfl:=lf h
   have z:=p196<|sg 0 c195<|en (aI (rP (.int .i64 13))<|trivial)
   exact Z66.v (aI (az e) trivial) z<|by kernel_rfl
  ·obtain⟨o210,bo210,h⟩:=ck h
   have p212:=fun{sc F} (r:PS sc F)=>p196<|sg 0 c195<|nF 0<|cT (Hj e r1.1.n r1.1.name r1.1.least r1.1.most r1.1.params r1.1.alts r1.1.typesLeast r1.1.typesMost r1.1.types bo210)<|r
   rcases aO h with⟨c211,h⟩|⟨c211,h⟩
   ·obtain rfl:=lf h
    have z:=p212<|sg 0 c211<|en (aI (rP (.int .i64 2))<|trivial)
    exact Z66.v (aI (az e) trivial) z<|by kernel_rfl
   ·obtain⟨r213,br213,h⟩:=ck h
    have p215:=fun{sc F} (r:PS sc F)=>p212<|sg 0 c211<|sv (bM e)<|sv (y8 r1.1 [])<|cD (Kd br213)<|r
    rcases aO h with⟨c214,h⟩|⟨c214,h⟩
    ·obtain rfl:=lf h
     have z:=p215<|sg 0 c214<|en (aI (rP (.int .i64 r213))<|trivial)
     exact Z66.v (aI (az e) trivial) z<|by kernel_rfl
    ·obtain⟨o221,bo221,h⟩:=ck h
     rcases o221 with o221|o221
     ·obtain rfl:=lf h
      have z:=p215<|sg 0 c214<|sv (aM e)<|sv (aN e)<|bQ (ee.ln e.Types)<|cT (e:=.ret) (s1:=gy e r1.1.n r1.1.name r1.1.least r1.1.most r1.1.params r1.1.alts r1.1.typesLeast r1.1.typesMost r1.1.types (.inl o221)) (rh e e.Types (e.Types.length:Int) r1.1.n r1.1.name r1.1.least r1.1.most r1.1.params r1.1.alts r1.1.typesLeast r1.1.typesMost r1.1.types 0 bo221)<|en (aI (rP (.int .i64 o221))<|trivial)
      exact Z66.v (aI (az e) trivial) z<|by kernel_rfl
     ·obtain⟨o230,bo230,h⟩:=ck h
      rcases o230 with o230|o230
      ·obtain rfl:=lf h
       have z:=p215<|sg 0 c214<|sv (aM e)<|sv (aN e)<|bQ (ee.ln e.Types)<|cT (e:=.exit 1) (s1:=gy e r1.1.n r1.1.name r1.1.least r1.1.most r1.1.params r1.1.alts r1.1.typesLeast r1.1.typesMost r1.1.types (.inr o221)) (rh e e.Types (e.Types.length:Int) r1.1.n r1.1.name r1.1.least r1.1.most r1.1.params r1.1.alts r1.1.typesLeast r1.1.typesMost r1.1.types 0 bo221)<|sv (bH e)<|sv (bJ e)<|bQ (lH.ln e.Params)<|cT (e:=.ret) (s1:=iX r1.1.n r1.1.name r1.1.least r1.1.most r1.1.params r1.1.alts r1.1.typesLeast r1.1.typesMost r1.1.types (.inl o230)) (ym e.Params (e.Params.length:Int) r1.1.n r1.1.name r1.1.least r1.1.most r1.1.params r1.1.alts r1.1.typesLeast r1.1.typesMost r1.1.types 0 bo230)<|en (aI (rP (.int .i64 o230))<|trivial)
       exact Z66.v (aI (az e) trivial) z<|by kernel_rfl
      ·obtain rfl:=lf h
       have z:=p215<|sg 0 c214<|sv (aM e)<|sv (aN e)<|bQ (ee.ln e.Types)<|cT (e:=.exit 1) (s1:=gy e r1.1.n r1.1.name r1.1.least r1.1.most r1.1.params r1.1.alts r1.1.typesLeast r1.1.typesMost r1.1.types (.inr o221)) (rh e e.Types (e.Types.length:Int) r1.1.n r1.1.name r1.1.least r1.1.most r1.1.params r1.1.alts r1.1.typesLeast r1.1.typesMost r1.1.types 0 bo221)<|sv (bH e)<|sv (bJ e)<|bQ (lH.ln e.Params)<|cT (e:=.exit 3) (s1:=iX r1.1.n r1.1.name r1.1.least r1.1.most r1.1.params r1.1.alts r1.1.typesLeast r1.1.typesMost r1.1.types (.inr o230)) (ym e.Params (e.Params.length:Int) r1.1.n r1.1.name r1.1.least r1.1.most r1.1.params r1.1.alts r1.1.typesLeast r1.1.typesMost r1.1.types 0 bo230)<|en (aI (rP (.int .i64 0))<|trivial)
       exact Z66.v (aI (az e) trivial) z<|by kernel_rfl
noncomputable def qcA:Code:=f65.body.getD .skip
def qca:List Nat:=[]
theorem Z65:ZF qca 65 f65 qcA:=⟨call65,func65,rfl⟩
def CM(a:af)(k0:Int):Option (Bool×Int):=
 (Jj a).bind fun r1=>
 some (r1==0,r1)
theorem G6{a:af}{k0:Int}{r:Bool×Int}(h:CM a k0=some r):C Pg GE 65 [.agg (ac a),.bptr 0 0] [] [.cells [.int .i64 k0] []] (.bool r.1) [] [.cells [.int .i64 r.2] []]:=by
 obtain⟨r1,br1,h⟩:=ck h
 obtain rfl:=lf h
 have z:=se (cF a)<|sv (bM a)<|cD (Mk br1)<|ss<|ss<|en (aI (rP (.bool (r1==0)))<|aI trivial<|aI (rL [.cells [.int .i64 r1] []])<|(aI (aI trivial trivial) trivial))
 exact Z65.g (m:=1) rfl z<|by kernel_rfl
section
variable(R58:f8)(e:af)(t14:waF)(t15:Int)(t16:Int)(m:Int)
def gN:aB:=aS 38 [(1,.func (.func 65) [] [.bptr 0 0]),(2,.eptr (ac e)),(14,sl ac t14),(15,.int .i64 t15),(16,.int .i64 t16)] [.cells [.int .i64 m] [],.dead] []
def gO(o:Int⊕(Int)):Exit:=match o with
 |(.inl _)=>.ret
 |(.inr _)=>.exit 0
def dh(o:Int⊕(Int)):aB:=match o with
 |(.inl o)=>aS 38 [(4,.bool false)] [.cells [.int .i64 o] [],.dead] []
 |(.inr o)=>aS 38 [(1,.func (.func 65) [] [.bptr 0 0]),(2,.eptr (ac e))] [.cells [.int .i64 o] [],.dead] []
def oR:Option ((Int×Int)⊕(Int⊕(Int))):=
 if(decide (t16<t15))=true then
  (eT t14 t16).bind fun x5=>
  (R58 x5 m).bind fun r6=>
  if(!r6.1)=true then
   some (.inr (.inl r6.2))
  else
   some (.inl (bB (t16+1),r6.2))
 else
  some (.inr (.inr m))
def ru:Option (Int⊕(Int)):=loop (fun(zz:Int×Int)=>oR R58 t14 t15 zz.1 zz.2) (t16,m)
theorem w9(hR58:fZ R58){y:(Int×Int)⊕(Int⊕(Int))}(h:oR R58 t14 t15 t16 m=some y):aW Pg GE 1 (cA MR 119) (LQ (fun(zz:Int×Int)=>gN e t14 t15 zz.1 zz.2) gO (dh e) y) (gN e t14 t15 t16 m):=by
 rcases aO h with⟨c4,h⟩|⟨c4,h⟩
 ·obtain⟨x5,bx5,r6,br6,h⟩:=Zb2 h
  have p8:=fun{sc F} (r:PS sc F)=>sg 0 c4<|sv (fQ.ia (k:=.i64) bx5)<|sv (bM x5)<|sx AD<|sx (kF x5)<|sv (bW x5 [])<|si (.cg ⟨[0],[.agg (ac x5),.func (.func 65) [] [.bptr 0 0]],[],[.cells [.int .i64 m] []],[.cells [.int .i64 m] []],[.cells [.int .i64 r6.2] []],[.cells [.int .i64 r6.2] []],.bool r6.1,.bool r6.1,[]⟩) (hR58 _ _ _ br6)<|sf (aI (xR [0] (.agg (ac x5)) (az x5)) (aI (xF [0] (.func 65) [] [.bptr 0 0] [] [.bptr 0 0] trivial (aI (xB [0] 0 0 0 rfl) trivial)) trivial))<|sf (aI (aI (rB (.cells [.int .i64 m] [])) (aI (rW []) (aI (xR [0] (.int .i64 m) trivial) trivial))) trivial)<|sf (aI (aI (rW []) (aI (xR [0] (.int .i64 r6.2) trivial) trivial)) trivial)<|sf (xR [0] (.bool r6.1) trivial)<|r
  rcases aO h with⟨c7,h⟩|⟨c7,h⟩
  ·obtain rfl:=lf h
   have z:=p8<|sg 0 c7<|tr 1 (gO (.inl r6.2)) (dh e (.inl r6.2)) rfl (du (aI trivial trivial)) (aI (aI trivial trivial) (aI trivial trivial))
   exact sF (A:=Hv) mixed (Zn rfl) z<|by kernel_rfl
  ·obtain rfl:=lf h
   have z:=p8<|sg 0 c7<|tr 1 .normal (gN e t14 t15 (bB (t16+1)) r6.2) rfl (du (aI (aI trivial (aI (aT rfl) trivial)) (aI (a8 (az e)) (aI (up (aj az t14)) (aI trivial (aI trivial trivial)))))) (aI (aI trivial trivial) (aI trivial trivial))
   exact dy (A:=Hv) mixed z<|by kernel_rfl
 ·obtain rfl:=lf h
  have z:=sg 0 c4<|eF (gO (.inr m)) (dh e (.inr m))
  exact hU Hv (Zn rfl) z<|by kernel_rfl
theorem jG(hR58:fZ R58){x:Int⊕(Int)}(h:ru R58 t14 t15 t16 m=some x):aW Pg GE 1 (.loop (cA MR 119)) (EX (gO x) (dh e x)) (gN e t14 t15 t16 m):=
 ZL h fun _ _ hy=>w9 _ _ _ _ _ _ hR58 hy
end
section
variable(R58:f8)(t26:waD)(t27:Int)(t28:Int)(m:Int)
def gP:aB:=aS 38 [(1,.func (.func 65) [] [.bptr 0 0]),(26,sl aA t26),(27,.int .i64 t27),(28,.int .i64 t28)] [.cells [.int .i64 m] [],.dead] []
def gQ(o:Int⊕(Int)):Exit:=match o with
 |(.inl _)=>.ret
 |(.inr _)=>.exit 2
def dT(o:Int⊕(Int)):aB:=match o with
 |(.inl o)=>aS 38 [(4,.bool false)] [.cells [.int .i64 o] [],.dead] []
 |(.inr o)=>aS 38 [] [.cells [.int .i64 o] [],.dead] []
def oS:Option ((Int×Int)⊕(Int⊕(Int))):=
 if(decide (t28<t27))=true then
  (eT t26 t28).bind fun x11=>
  (R58 x11.Body m).bind fun r12=>
  if(!r12.1)=true then
   some (.inr (.inl r12.2))
  else
   some (.inl (bB (t28+1),r12.2))
 else
  some (.inr (.inr m))
def rv:Option (Int⊕(Int)):=loop (fun(zz:Int×Int)=>oS R58 t26 t27 zz.1 zz.2) (t28,m)
theorem xa(hR58:fZ R58){y:(Int×Int)⊕(Int⊕(Int))}(h:oS R58 t26 t27 t28 m=some y):aW Pg GE 1 (cA MR 247) (LQ (fun(zz:Int×Int)=>gP t26 t27 zz.1 zz.2) gQ dT y) (gP t26 t27 t28 m):=by
 rcases aO h with⟨c10,h⟩|⟨c10,h⟩
 ·obtain⟨x11,bx11,r12,br12,h⟩:=Zb2 h
  have p14:=fun{sc F} (r:PS sc F)=>sg 0 c10<|sv (eZ.ia (k:=.i64) bx11)<|sv (mA x11)<|sx Io<|sx (i7 x11)<|sv (bW x11.Body [])<|si (.cg ⟨[0],[.agg (ac x11.Body),.func (.func 65) [] [.bptr 0 0]],[],[.cells [.int .i64 m] []],[.cells [.int .i64 m] []],[.cells [.int .i64 r12.2] []],[.cells [.int .i64 r12.2] []],.bool r12.1,.bool r12.1,[]⟩) (hR58 _ _ _ br12)<|sf (aI (xR [0] (.agg (ac x11.Body)) (az x11.Body)) (aI (xF [0] (.func 65) [] [.bptr 0 0] [] [.bptr 0 0] trivial (aI (xB [0] 0 0 0 rfl) trivial)) trivial))<|sf (aI (aI (rB (.cells [.int .i64 m] [])) (aI (rW []) (aI (xR [0] (.int .i64 m) trivial) trivial))) trivial)<|sf (aI (aI (rW []) (aI (xR [0] (.int .i64 r12.2) trivial) trivial)) trivial)<|sf (xR [0] (.bool r12.1) trivial)<|r
  rcases aO h with⟨c13,h⟩|⟨c13,h⟩
  ·obtain rfl:=lf h
   have z:=p14<|sg 0 c13<|tr 1 (gQ (.inl r12.2)) (dT (.inl r12.2)) rfl (du (aI trivial trivial)) (aI (aI trivial trivial) (aI trivial trivial))
   exact sF (A:=Hv) mixed (Zn rfl) z<|by kernel_rfl
  ·obtain rfl:=lf h
   have z:=p14<|sg 0 c13<|tr 1 .normal (gP t26 t27 (bB (t28+1)) r12.2) rfl (du (aI (aI trivial (aI (aT rfl) trivial)) (aI (up (aj bF t26)) (aI trivial (aI trivial trivial))))) (aI (aI trivial trivial) (aI trivial trivial))
   exact dy (A:=Hv) mixed z<|by kernel_rfl
 ·obtain rfl:=lf h
  have z:=sg 0 c10<|eF (gQ (.inr m)) (dT (.inr m))
  exact hU Hv (Zn rfl) z<|by kernel_rfl
theorem nY(hR58:fZ R58){x:Int⊕(Int)}(h:rv R58 t26 t27 t28 m=some x):aW Pg GE 1 (.loop (cA MR 247)) (EX (gQ x) (dT x)) (gP t26 t27 t28 m):=
 ZL h fun _ _ hy=>xa _ _ _ _ _ hR58 hy
end
def rZ(R58:f8)(e:af)(k0:Int):Option (Bool×Int):=
 (CM e k0).bind fun r1=>
 if(!r1.1)=true then
  some (false,r1.2)
 else
  (ru R58 e.Kids (e.Kids.length:Int) 0 r1.2).bind fun o9=>match o9 with
  |(.inl o9)=>
   some (false,o9)
  | (.inr o9) =>
   (rv R58 e.Alts (e.Alts.length:Int) 0 o9).bind fun o15=>match o15 with
   |(.inl o15)=>
    some (false,o15)
   |(.inr o15)=>
    some (true,o15)
theorem zH(R58:f8)(hR58:fZ R58){e:af}{k0:Int}{r:Bool×Int}(h:rZ R58 e k0=some r):C Pg GE 64 [.agg (ac e),.func (.func 65) [] [.bptr 0 0]] [] [.cells [.int .i64 k0] []] (.bool r.1) [] [.cells [.int .i64 r.2] []]:=by
 obtain⟨r1,br1,h⟩:=ck h
 have p3:=fun{sc F} (r:PS sc F)=>se (cF e)<|sv (bM e)<|si (.cg ⟨[0],[.agg (ac e),.bptr 0 0],[],[.cells [.int .i64 k0] []],[.cells [.int .i64 k0] []],[.cells [.int .i64 r1.2] []],[.cells [.int .i64 r1.2] []],.bool r1.1,.bool r1.1,[]⟩) (G6 br1)<|sf (aI (xR [0] (.agg (ac e)) (az e)) (aI (xB [0] 0 0 0 rfl) trivial))<|sf (aI (aI (rB (.cells [.int .i64 k0] [])) (aI (rW []) (aI (xR [0] (.int .i64 k0) trivial) trivial))) trivial)<|sf (aI (aI (rW []) (aI (xR [0] (.int .i64 r1.2) trivial) trivial)) trivial)<|sf (xR [0] (.bool r1.1) trivial)<|r
 rcases aO h with⟨c2,h⟩|⟨c2,h⟩
 ·obtain rfl:=lf h
  have z:=p3<|sg 0 c2<|en (aI (rP (.bool false))<|aI trivial<|aI (rL [.cells [.int .i64 r1.2] []])<|(aI (aI trivial trivial) trivial))
  exact C.evGp (A:=Hv) mixed (m:=1) (c:=MR) rfl call64 func64 rfl z<|by kernel_rfl
 ·obtain⟨o9,bo9,h⟩:=ck h
  rcases o9 with o9|o9
  ·obtain rfl:=lf h
   have z:=p3<|sg 0 c2<|sv (ba e)<|sv (be e)<|bQ (fQ.ln e.Kids)<|cT (e:=.ret) (s1:=dh e (.inl o9)) (jG R58 e e.Kids (e.Kids.length:Int) 0 r1.2 hR58 bo9)<|en (aI (rP (.bool false))<|aI trivial<|aI (rL [.cells [.int .i64 o9] []])<|(aI (aI trivial trivial) trivial))
   exact C.evGp (A:=Hv) mixed (m:=1) (c:=MR) rfl call64 func64 rfl z<|by kernel_rfl
  ·obtain⟨o15,bo15,h⟩:=ck h
   rcases o15 with o15|o15
   ·obtain rfl:=lf h
    have z:=p3<|sg 0 c2<|sv (ba e)<|sv (be e)<|bQ (fQ.ln e.Kids)<|cT (e:=.exit 0) (s1:=dh e (.inr o9)) (jG R58 e e.Kids (e.Kids.length:Int) 0 r1.2 hR58 bo9)<|sv (aG e)<|sv (aH e)<|bQ (eZ.ln e.Alts)<|cT (e:=.ret) (s1:=dT (.inl o15)) (nY R58 e.Alts (e.Alts.length:Int) 0 o9 hR58 bo15)<|en (aI (rP (.bool false))<|aI trivial<|aI (rL [.cells [.int .i64 o15] []])<|(aI (aI trivial trivial) trivial))
    exact C.evGp (A:=Hv) mixed (m:=1) (c:=MR) rfl call64 func64 rfl z<|by kernel_rfl
   ·obtain rfl:=lf h
    have z:=p3<|sg 0 c2<|sv (ba e)<|sv (be e)<|bQ (fQ.ln e.Kids)<|cT (e:=.exit 0) (s1:=dh e (.inr o9)) (jG R58 e e.Kids (e.Kids.length:Int) 0 r1.2 hR58 bo9)<|sv (aG e)<|sv (aH e)<|bQ (eZ.ln e.Alts)<|cT (e:=.exit 2) (s1:=dT (.inr o15)) (nY R58 e.Alts (e.Alts.length:Int) 0 o9 hR58 bo15)<|en (aI (rP (.bool true))<|aI trivial<|aI (rL [.cells [.int .i64 o15] []])<|(aI (aI trivial trivial) trivial))
    exact C.evGp (A:=Hv) mixed (m:=1) (c:=MR) rfl call64 func64 rfl z<|by kernel_rfl
def sa:((af×Int)->Option (Bool×Int))->(af×Int)->Option (Bool×Int):=fun(rec:(af×Int)->Option (Bool×Int)) (x:af×Int)=>rZ (fun e k0=>rec (e,k0)) x.1 x.2
def uQ(e:af)(k0:Int):Option (Bool×Int):=rE sa (e,k0)
theorem AN{e:af}{k0:Int}{r:Bool×Int}(h:uQ e k0=some r):C Pg GE 64 [.agg (ac e),.func (.func 65) [] [.bptr 0 0]] [] [.cells [.int .i64 k0] []] (.bool r.1) [] [.cells [.int .i64 r.2] []]:=
 ek (F:=sa) (M:=fun(x:af×Int) (r:Bool×Int)=>C Pg GE 64 [.agg (ac x.1),.func (.func 65) [] [.bptr 0 0]] [] [.cells [.int .i64 x.2] []] (.bool r.1) [] [.cells [.int .i64 r.2] []]) (fun rec hrec x r h=>zH _ (fun e k0 r h=>hrec (e,k0) r h) h) h
noncomputable def qcl:Code:=f17.body.getD .skip
def qbV:List Nat:=[]
theorem Z17:ZF qbV 17 f17 qcl:=⟨call17,func17,rfl⟩
def AK(e:af):Option Int:=
 (lu e).bind fun r1=>
 if(decide (r1>400))=true then
  some 7
 else
  (AL e).bind fun r4=>
  if(decide (r4>40))=true then
   some 8
  else
   (uQ e 0).bind fun r7=>
   some r7.2
theorem Bb{e:af}{r:Int}(h:AK e=some r):CC Pg GE 17 [.agg (ac e)] (.int .i64 r) []:=by
 obtain⟨r1,br1,h⟩:=ck h
 have p3:=fun{sc F} (r:PS sc F)=>se (cF e)<|sv (bM e)<|cD (um br1)<|r
 rcases aO h with⟨c2,h⟩|⟨c2,h⟩
 ·obtain rfl:=lf h
  have z:=p3<|sg 0 c2<|en (aI (rP (.int .i64 7))<|trivial)
  exact Z17.v (aI (az e) trivial) z<|by kernel_rfl
 ·obtain⟨r4,br4,h⟩:=ck h
  have p6:=fun{sc F} (r:PS sc F)=>p3<|sg 0 c2<|sv (bM e)<|cD (Bf br4)<|r
  rcases aO h with⟨c5,h⟩|⟨c5,h⟩
  ·obtain rfl:=lf h
   have z:=p6<|sg 0 c5<|en (aI (rP (.int .i64 8))<|trivial)
   exact Z17.v (aI (az e) trivial) z<|by kernel_rfl
  ·obtain⟨r7,br7,h⟩:=ck h
   obtain rfl:=lf h
   have z:=p6<|sg 0 c5<|sx qbo<|ss<|sv (bM e)<|si (.cg ⟨[1],[.agg (ac e),.func (.func 65) [] [.bptr 0 0]],[],[.cells [.int .i64 0] []],[.cells [.int .i64 0] []],[.cells [.int .i64 r7.2] []],[.cells [.int .i64 r7.2] []],.bool r7.1,.bool r7.1,[]⟩) (AN br7)<|sf (aI (xR [1] (.agg (ac e)) (az e)) (aI (xF [1] (.func 65) [] [.bptr 1 0] [] [.bptr 0 0] trivial (aI (xB [1] 0 1 0 rfl) trivial)) trivial))<|sf (aI (aI (rB (.cells [.int .i64 0] [])) (aI (rW []) (aI (xR [1] (.int .i64 0) trivial) trivial))) trivial)<|sf (aI (aI (rW []) (aI (xR [1] (.int .i64 r7.2) trivial) trivial)) trivial)<|sf (xR [1] (.bool r7.1) trivial)<|ss<|en (aI (rP (.int .i64 r7.2))<|trivial)
   exact Z17.v (aI (az e) trivial) z<|by kernel_rfl
noncomputable def qci:Code:=f11.body.getD .skip
def qbS:List Nat:=[]
theorem Z11:ZF qbS 11 f11 qci:=⟨call11,func11,rfl⟩
def Dh:Option Bool:=
 (gE ([120]:ae)).bind fun r1=>
 (gE ([120]:ae)).bind fun r2=>
 (gE ([121]:ae)).bind fun r3=>
 (Di ([120]:ae) r1 (⟨5,([102]:ae),0,([r2,r3]:List af),([]:List aw),([]:List aJ),([]:List ai)⟩:af)).bind fun r4=>
 (gE ([120]:ae)).bind fun r5=>
 (gE ([120]:ae)).bind fun r6=>
 (Di ([120]:ae) r5 r6).bind fun r7=>
 (Di ([120]:ae) (⟨1,([]:ae),1,([]:List af),([]:List aw),([]:List aJ),([]:List ai)⟩:af) r7).bind fun r8=>
 (EF r8).bind fun r9=>
 (B8 ([120]:ae) ([121]:ae)).bind fun r10=>
 (B8 ([120,49]:ae) ([120]:ae)).bind fun r11=>
 (CQ (⟨r4.Op,r4.Name,r4.N,r4.Kids,r4.Params,r4.Alts,r4.Types⟩:af)).bind fun r12=>
 (j5 r12 ([([102]:ae),([120]:ae),([121]:ae)]:List ae)).bind fun r13=>
 if r13=true then
  (gE ([120]:ae)).bind fun r16=>
  (gE ([120,49]:ae)).bind fun r17=>
  (Di ([120,49]:ae) r16 r17).bind fun r18=>
  (Di ([120]:ae) (⟨1,([]:ae),1,([]:List af),([]:List aw),([]:List aJ),([]:List ai)⟩:af) r18).bind fun r19=>
  (KV r9 r19).bind fun r20=>
  if r20=true then
   (Ha (⟨6,([]:ae),0,([r10]:List af),([(⟨([120]:ae),(⟨0,([]:ae),([]:List ai),([]:List ae),(⟨0,([]:ae),0,([]:List am)⟩:am),([]:List am)⟩:ai)⟩:aw)]:List aw),([]:List aJ),([]:List ai)⟩:af) ([121]:ae) ([120]:ae)).bind fun r23=>
   (KV r23 (⟨6,([]:ae),0,([r11]:List af),([(⟨([120,49]:ae),(⟨0,([]:ae),([]:List ai),([]:List ae),(⟨0,([]:ae),0,([]:List am)⟩:am),([]:List am)⟩:ai)⟩:aw)]:List aw),([]:List aJ),([]:List ai)⟩:af)).bind fun r24=>
   if r24=true then
    (AK r4).bind fun r27=>
    if (r27 == 0) = true then
     (AK (⟨3,([105,102]:ae),0,([]:List af),([]:List aw),([]:List aJ),([]:List ai)⟩:af)).bind fun r30=>
     if(r30==3)=true then
      (lu r4).bind fun r33=>
      if(r33==5)=true then
       (AL r4).bind fun r36=>
       some (r36==3)
      else
       some false
     else
      some false
    else
     some false
   else
    some false
  else
   some false
 else
  some false
theorem F8{r:Bool}(h:Dh=some r):CC Pg GE 11 [] (.bool r) []:=by
 obtain⟨r1,br1,r2,br2,r3,br3,r4,br4,h⟩:=Zb4 h
 obtain⟨r5,br5,r6,br6,r7,br7,r8,br8,h⟩:=Zb4 h
 obtain⟨r9,br9,r10,br10,r11,br11,r12,br12,h⟩:=Zb4 h
 obtain⟨r13,br13,h⟩:=ck h
 have p15:=fun{sc F} (r:PS sc F)=>cD (fe br1)<|cD (fe br2)<|cD (fe br3)<|sv (fQ.mk' (v:=pA) kE ([r2,r3]:List af) 2 (by kernel_rfl))<|sb (Cc 5 ([102]:ae) ([r2,r3]:List af)) (Ca 5 ([102]:ae) ([r2,r3]:List af))<|cD (wz br4)<|sx AD<|sy (bE r4)<|sb (OB 1 1) (Ox 1 1)<|sx AD<|sy (bE (⟨1,([]:ae),1,([]:List af),([]:List aw),([]:List aJ),([]:List ai)⟩:af))<|G0 [0,0,2,6,15,31,0,127]<|sv (bW (⟨1,([]:ae),1,([]:List af),([]:List aw),([]:List aJ),([]:List ai)⟩:af) [])<|cD (fe br5)<|cD (fe br6)<|cD (wz br7)<|cD (wz br8)<|cD (Iw br9)<|qcT (kF r9)<|sb (IX ([120]:ae)) (IV ([120]:ae))<|sv (lH.mk' (v:=Da) AA ([(⟨([120]:ae),(⟨0,([]:ae),([]:List ai),([]:List ae),(⟨0,([]:ae),0,([]:List am)⟩:am),([]:List am)⟩:ai)⟩:aw)]:List aw) 1 (by kernel_rfl))<|cD (B9 br10)<|sv (fQ.mk' (v:=pA) kE ([r10]:List af) 1 (by kernel_rfl))<|sb (Cd 6 ([(⟨([120]:ae),(⟨0,([]:ae),([]:List ai),([]:List ae),(⟨0,([]:ae),0,([]:List am)⟩:am),([]:List am)⟩:ai)⟩:aw)]:List aw) ([r10]:List af)) (Cb 6 ([(⟨([120]:ae),(⟨0,([]:ae),([]:List ai),([]:List ae),(⟨0,([]:ae),0,([]:List am)⟩:am),([]:List am)⟩:ai)⟩:aw)]:List aw) ([r10]:List af))<|sx AD<|sy (bE (⟨6,([]:ae),0,([r10]:List af),([(⟨([120]:ae),(⟨0,([]:ae),([]:List ai),([]:List ae),(⟨0,([]:ae),0,([]:List am)⟩:am),([]:List am)⟩:ai)⟩:aw)]:List aw),([]:List aJ),([]:List ai)⟩:af))<|sb (IX ([120,49]:ae)) (IV ([120,49]:ae))<|sv (lH.mk' (v:=Da) AA ([(⟨([120,49]:ae),(⟨0,([]:ae),([]:List ai),([]:List ae),(⟨0,([]:ae),0,([]:List am)⟩:am),([]:List am)⟩:ai)⟩:aw)]:List aw) 1 (by kernel_rfl))<|cD (B9 br11)<|sv (fQ.mk' (v:=pA) kE ([r11]:List af) 1 (by kernel_rfl))<|sb (Cd 6 ([(⟨([120,49]:ae),(⟨0,([]:ae),([]:List ai),([]:List ae),(⟨0,([]:ae),0,([]:List am)⟩:am),([]:List am)⟩:ai)⟩:aw)]:List aw) ([r11]:List af)) (Cb 6 ([(⟨([120,49]:ae),(⟨0,([]:ae),([]:List ai),([]:List ae),(⟨0,([]:ae),0,([]:List am)⟩:am),([]:List am)⟩:ai)⟩:aw)]:List aw) ([r11]:List af))<|sx AD<|sy (bE (⟨6,([]:ae),0,([r11]:List af),([(⟨([120,49]:ae),(⟨0,([]:ae),([]:List ai),([]:List ae),(⟨0,([]:ae),0,([]:List am)⟩:am),([]:List am)⟩:ai)⟩:aw)]:List aw),([]:List aJ),([]:List ai)⟩:af))<|G0 [0,1,0,7,15,31,31,31,159,415,991,2047,4095,8191,16383,32767,16383,131071,262143,524287,1048575,2097151,4194303,8388607,16777215,33554431,67108863,134217727,268435455,536870911,1073741823,2147483647,4294967295,8589934591,17179869183,34359738367,68719476735,137438953471,274877906943,549755813887]<|sv (bW (⟨r4.Op,r4.Name,r4.N,r4.Kids,r4.Params,r4.Alts,r4.Types⟩:af) [])<|cD (CR br12)<|sv (bN.mk' (v:=PVal.str) Ij ([([102]:ae),([120]:ae),([121]:ae)]:List ae) 3 (by kernel_rfl))<|cD (nn br13)<|r
 rcases aO h with⟨c14,h⟩|⟨c14,h⟩
 ·obtain⟨r16,br16,r17,br17,r18,br18,r19,br19,h⟩:=Zb4 h
  obtain⟨r20,br20,h⟩:=ck h
  have p22:=fun{sc F} (r:PS sc F)=>p15<|sg 5 c14<|sv (bW r9 [])<|sv (bW (⟨1,([]:ae),1,([]:List af),([]:List aw),([]:List aJ),([]:List ai)⟩:af) [])<|cD (fe br16)<|cD (fe br17)<|cD (wz br18)<|cD (wz br19)<|cD (IT br20)<|r
  rcases aO h with⟨c21,h⟩|⟨c21,h⟩
  ·obtain⟨r23,br23,r24,br24,h⟩:=Zb2 h
   have p26:=fun{sc F} (r:PS sc F)=>p22<|sg 14 c21<|sv (bW (⟨6,([]:ae),0,([r10]:List af),([(⟨([120]:ae),(⟨0,([]:ae),([]:List ai),([]:List ae),(⟨0,([]:ae),0,([]:List am)⟩:am),([]:List am)⟩:ai)⟩:aw)]:List aw),([]:List aJ),([]:List ai)⟩:af) [])<|cD (Kc br23)<|sv (bW (⟨6,([]:ae),0,([r11]:List af),([(⟨([120,49]:ae),(⟨0,([]:ae),([]:List ai),([]:List ae),(⟨0,([]:ae),0,([]:List am)⟩:am),([]:List am)⟩:ai)⟩:aw)]:List aw),([]:List aJ),([]:List ai)⟩:af) [])<|cD (IT br24)<|r
   rcases aO h with⟨c25,h⟩|⟨c25,h⟩
   ·obtain⟨r27,br27,h⟩:=ck h
    have p29:=fun{sc F} (r:PS sc F)=>p26<|sg 20 c25<|sv (bW r4 [])<|cD (Bb br27)<|r
    rcases aO h with⟨c28,h⟩|⟨c28,h⟩
    ·obtain⟨r30,br30,h⟩:=ck h
     have p32:=fun{sc F} (r:PS sc F)=>p29<|sg 25 c28<|sb (Gh 3 ([105,102]:ae)) (Gc 3 ([105,102]:ae))<|cD (Bb br30)<|r
     rcases aO h with⟨c31,h⟩|⟨c31,h⟩
     ·obtain⟨r33,br33,h⟩:=ck h
      have p35:=fun{sc F} (r:PS sc F)=>p32<|sg 30 c31<|sv (bW r4 [])<|cD (um br33)<|r
      rcases aO h with⟨c34,h⟩|⟨c34,h⟩
      ·obtain⟨r36,br36,h⟩:=ck h
       obtain rfl:=lf h
       have z:=p35<|sg 35 c34<|sv (bW r4 [])<|cD (Bf br36)<|en (aI (rP (.bool (r36==3)))<|trivial)
       exact Z11.v trivial z<|by kernel_rfl
      ·obtain rfl:=lf h
       have z:=p35<|sg 35 c34<|en (aI (rP (.bool false))<|trivial)
       exact Z11.v trivial z<|by kernel_rfl
     ·obtain rfl:=lf h
      have z:=p32<|sg 30 c31<|en (aI (rP (.bool false))<|trivial)
      exact Z11.v trivial z<|by kernel_rfl
    ·obtain rfl:=lf h
     have z:=p29<|sg 25 c28<|en (aI (rP (.bool false))<|trivial)
     exact Z11.v trivial z<|by kernel_rfl
   ·obtain rfl:=lf h
    have z:=p26<|sg 20 c25<|en (aI (rP (.bool false))<|trivial)
    exact Z11.v trivial z<|by kernel_rfl
  ·obtain rfl:=lf h
   have z:=p22<|sg 14 c21<|en (aI (rP (.bool false))<|trivial)
   exact Z11.v trivial z<|by kernel_rfl
 ·obtain rfl:=lf h
  have z:=p15<|sg 5 c14<|en (aI (rP (.bool false))<|trivial)
  exact Z11.v trivial z<|by kernel_rfl
noncomputable def qaS:Code:=f69.body.getD .skip
def qao:List Nat:=[16,25]
theorem Z69:ZF qao 69 f69 qaS:=⟨call69,func69,rfl⟩
section
variable(e:af)(out:waF)(i:Int)
def oU:aB:=aS 26 [(1,.eptr (ac e)),(3,sl ac out),(4,.int .i64 i)] [.dead] [((3,0),28)]
def ua(o:waF):aB:=aS 26 [(3,sl ac o)] [.dead] [((3,0),28)]
def iz:Option ((waF×Int)⊕(waF)):=
 if(decide (i<(e.Alts.length:Int)))=true then
  (eT e.Alts i).bind fun x4=>
  (app out ([x4.Body]:List af)).bind fun l5=>
  some (.inl (l5,bB (i+1)))
 else
  some (.inr out)
def oC:Option waF:=loop (fun(zz:waF×Int)=>iz e zz.1 zz.2) (out,i)
theorem F2{y:(waF×Int)⊕(waF)}(h:iz e out i=some y):aW Pg GE 0 (cA qaS 119) (LQ (fun(zz:waF×Int)=>oU e zz.1 zz.2) (fun _=>.exit 0) ua y) (oU e out i):=by
 have p3:=fun{sc F} (r:PS sc F)=>sv (aG e)<|sv (aH e)<|bQ (eZ.ln e.Alts)<|r
 rcases aO h with⟨c2,h⟩|⟨c2,h⟩
 ·obtain⟨x4,bx4,l5,bl5,h⟩:=Zb2 h
  obtain rfl:=lf h
  exact wJ qao (p3<|sg 0 c2<|sv (aG e)<|sv (aH e)<|sv (eZ.ia (k:=.i64) bx4)<|sv (qz x4)<|sv (qF x4)<|sv (fQ.mk' (v:=pA) kE ([x4.Body]:List af) 1 (by kernel_rfl))<|sv (fQ.ap bl5)<|eF .normal (oU e l5 (bB (i+1))))<|by kernel_rfl
 ·obtain rfl:=lf h
  have z:=p3<|sg 0 c2<|eF (.exit 0) (ua out)
  exact hU qao (Zn rfl) z<|by kernel_rfl
theorem HE{x:waF}(h:oC e out i=some x):aW Pg GE 0 (.loop (cA qaS 119)) (EX (.exit 0) (ua x)) (oU e out i):=
 ZL h fun _ _ hy=>F2 _ _ _ hy
end
def z6(e:af):Option waF:=
 (app ([]:List af) e.Kids).bind fun l1=>
 (oC e l1 0).bind fun o6=>
 some o6
theorem MJ{e:af}{r:waF}(h:z6 e=some r):CC Pg GE 69 [.agg (ac e)] (sl ac r) [(0,28)]:=by
 obtain⟨l1,bl1,o6,bo6,h⟩:=Zb2 h
 obtain rfl:=lf h
 have z:=se (cF e)<|sv (fQ.mk' (v:=pA) kE ([]:List af) 0 (by kernel_rfl))<|sv (ba e)<|sv (be e)<|sv (fQ.ap bl1)<|cT (HE e l1 0 bo6)<|en (aI (rP (sl ac o6))<|(aj az o6))
 exact Z69.v (aI (az e) trivial) z<|by kernel_rfl
noncomputable def Xx:Code:=f111.body.getD .skip
def VS:List Nat:=[10,17]
theorem Z111:ZF VS 111 f111 Xx:=⟨call111,func111,rfl⟩
section
variable(v:waA)(s:ae)(t7:Int)(t8:Int)
def sY:aB:=aS 19 [(0,sl cS v),(1,.str s),(7,.int .i64 t7),(8,.int .i64 t8)] [] []
def sZ(o:Int⊕(Unit)):Exit:=match o with
 |(.inl _)=>.ret
 |(.inr _)=>.exit 0
def lY(o:Int⊕(Unit)):aB:=match o with
 |(.inl o)=>aS 19 [(4,.int .i64 o)] [] []
 |(.inr o)=>aS 19 [] [] []
def oz:Option (Int⊕(Int⊕(Unit))):=
 if(decide (t8<t7))=true then
  (eT v t8).bind fun x2=>
  if(x2==s)=true then
   some (.inr (.inl t8))
  else
   some (.inl (bB (t8+1)))
 else
  some (.inr (.inr ()))
def BI:Option (Int⊕(Unit)):=loop (fun(zz:Int)=>oz v s t7 zz) t8
theorem Jp{y:Int⊕(Int⊕(Unit))}(h:oz v s t7 t8=some y):aW Pg GE 0 (cA Xx 55) (LQ (fun(zz:Int)=>sY v s t7 zz) sZ lY y) (sY v s t7 t8):=by
 rcases aO h with⟨c1,h⟩|⟨c1,h⟩
 ·obtain⟨x2,bx2,h⟩:=ck h
  have p4:=fun{sc F} (r:PS sc F)=>sg 0 c1<|sv (bN.ia (k:=.i64) bx2)<|sv (b8 AF (.str x2) [])<|r
  rcases aO h with⟨c3,h⟩|⟨c3,h⟩
  ·obtain rfl:=lf h
   have z:=p4<|sg 0 c3<|eF (sZ (.inl t8)) (lY (.inl t8))
   exact hU VS (Zn rfl) z<|by kernel_rfl
  ·obtain rfl:=lf h
   exact wJ VS (p4<|sg 0 c3<|eF .normal (sY v s t7 (bB (t8+1))))<|by kernel_rfl
 ·obtain rfl:=lf h
  have z:=sg 0 c1<|eF (sZ (.inr ())) (lY (.inr ()))
  exact hU VS (Zn rfl) z<|by kernel_rfl
theorem BJ{x:Int⊕(Unit)}(h:BI v s t7 t8=some x):aW Pg GE 0 (.loop (cA Xx 55)) (EX (sZ x) (lY x)) (sY v s t7 t8):=
 ZL h fun _ _ hy=>Jp _ _ _ _ hy
end
def FW(a:waA)(s:ae):Option Int:=
 (BI a s (a.length:Int) 0).bind fun o5=>match o5 with
 |(.inl o5)=>
  some o5
 |(.inr o5)=>
  some (-1)
theorem PH{a:waA}{s:ae}{r:Int}(h:FW a s=some r):CC Pg GE 111 [sl cS a,.str s] (.int .i64 r) []:=by
 obtain⟨o5,bo5,h⟩:=ck h
 rcases o5 with o5|o5
 ·obtain rfl:=lf h
  have z:=bQ (bN.ln a)<|cT (e:=.ret) (s1:=lY (.inl o5)) (BJ a s (a.length:Int) 0 bo5)<|en (aI (rP (.int .i64 o5))<|trivial)
  exact Z111.v (aI (aj bz a) (aI trivial trivial)) z<|by kernel_rfl
 ·obtain rfl:=lf h
  have z:=bQ (bN.ln a)<|cT (e:=.exit 0) (s1:=lY (.inr o5)) (BJ a s (a.length:Int) 0 bo5)<|en (aI (rP (.int .i64 (-1)))<|trivial)
  exact Z111.v (aI (aj bz a) (aI trivial trivial)) z<|by kernel_rfl
abbrev xJ:=(af->Option Int)
abbrev BE(R:xJ):Prop:=∀(e:af) (r:Int),R e=some r->CC Pg GE 20 [.agg (ac e)] (.int .i64 r) []
noncomputable def qaM:Code:=f20.body.getD .skip
def qal:List Nat:=[21]
theorem Z20:ZF qal 20 f20 qaM:=⟨call20,func20,rfl⟩
section
variable(R106:xJ)(v:waF)(n:Int)(i:Int)
def qj:aB:=aS 22 [(3,.int .i64 n),(4,sl ac v),(5,.int .i64 i)] [.dead] [((4,0),28)]
def wa(o:Int):aB:=aS 22 [(3,.int .i64 o)] [.dead] []
def iY:Option ((Int×Int)⊕(Int)):=
 if(decide (i<(v.length:Int)))=true then
  (eT v i).bind fun x3=>
  (R106 x3).bind fun r4=>
  some (.inl (bB (n+r4),bB (i+1)))
 else
  some (.inr n)
def uU:Option Int:=loop (fun(zz:Int×Int)=>iY R106 v zz.1 zz.2) (n,i)
theorem HA(hR106:BE R106){y:(Int×Int)⊕(Int)}(h:iY R106 v n i=some y):aW Pg GE 0 (cA qaM 247) (LQ (fun(zz:Int×Int)=>qj v zz.1 zz.2) (fun _=>.exit 0) wa y) (qj v n i):=by
 rcases aO h with⟨c2,h⟩|⟨c2,h⟩
 ·obtain⟨x3,bx3,r4,br4,h⟩:=Zb2 h
  obtain rfl:=lf h
  exact wJ qal (bQ (fQ.ln v)<|sg 0 c2<|sv (fQ.ia (k:=.i64) bx3)<|sv (bM x3)<|cD (hR106 _ _ br4)<|eF .normal (qj v (bB (n+r4)) (bB (i+1))))<|by kernel_rfl
 ·obtain rfl:=lf h
  have z:=bQ (fQ.ln v)<|sg 0 c2<|eF (.exit 0) (wa n)
  exact hU qal (Zn rfl) z<|by kernel_rfl
theorem Jw(hR106:BE R106){x:Int}(h:uU R106 v n i=some x):aW Pg GE 0 (.loop (cA qaM 247)) (EX (.exit 0) (wa x)) (qj v n i):=
 ZL h fun _ _ hy=>HA _ _ _ _ hR106 hy
end
def xx(R106:xJ)(e:af):Option Int:=
 (z6 e).bind fun r1=>
 (uU R106 r1 1 0).bind fun o5=>
 some o5
theorem ME(R106:xJ)(hR106:BE R106){e:af}{r:Int}(h:xx R106 e=some r):CC Pg GE 20 [.agg (ac e)] (.int .i64 r) []:=by
 obtain⟨r1,br1,o5,bo5,h⟩:=Zb2 h
 obtain rfl:=lf h
 have z:=se (cF e)<|sv (bM e)<|cD (MJ br1)<|cT (Jw R106 r1 1 0 hR106 bo5)<|en (aI (rP (.int .i64 o5))<|trivial)
 exact Z20.v (aI (az e) trivial) z<|by kernel_rfl
def BO:(af->Option Int)->(af)->Option Int:=fun(rec:af->Option Int) (x:af)=>xx (fun e=>rec e) x
def Hz(e:af):Option Int:=rE BO e
theorem Oh{e:af}{r:Int}(h:Hz e=some r):CC Pg GE 20 [.agg (ac e)] (.int .i64 r) []:=
 ek (F:=BO) (M:=fun(x:af) (r:Int)=>CC Pg GE 20 [.agg (ac x)] (.int .i64 r) []) (fun rec hrec x r h=>ME _ (fun e r h=>hrec e r h) h) h
end Go.Proofs.YtkdahfeiedaahaaGreatDoor
