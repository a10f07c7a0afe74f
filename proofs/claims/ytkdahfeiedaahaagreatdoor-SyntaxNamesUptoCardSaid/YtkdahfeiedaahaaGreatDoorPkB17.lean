/- PROVED: a part of the proof. Conditions: none. -/
import Derived.Test.YtkdahfeiedaahaaGreatDoorPkB16
noncomputable section
namespace Go.Proofs.YtkdahfeiedaahaaGreatDoor
open Go Go.Proofs.Tryz
set_option linter.unusedVariables false
set_option maxRecDepth 100000
noncomputable def M6:Code:=f66.body.getD .skip
def fm:List Nat:=[122,134,154]
section
variable(e:af)(ok:Bool)(m:Bool)(m2:Bool)(m3:Int)(m4:Int)(m5:Bool)(m6:Bool)(m7:Int)(m8:Int)(m9:Bool)
def Fk:az:=aZ 156 [(1,.eptr (ac e)),(3,.bptr 1 0),(4,.bool ok)] [.dead,.cells [.bool m,.bool m2,.int .i64 m3,.int .i64 m4,.bool m5,.bool m6,.int .i64 m7,.int .i64 m8,.bool m9] []] []
def ah(o:Bool):az:=aZ 156 [(1,.eptr (ac e)),(3,.bptr 1 0),(4,.bool ok),(5,.bool o)] [.dead,.cells [.bool m,.bool m2,.int .i64 m3,.int .i64 m4,.bool m5,.bool m6,.int .i64 m7,.int .i64 m8,.bool m9] []] []
def Ab:Option Bool:=
 if (!m) = true then
  if(e.N !=0)=true then
   some true
  else
   if (!m2) = true then
    if(!(e.Name==([]:ag)))=true then
     some true
    else
     if (m4 == 0) = true then
      if(decide ((e.Kids.length:Int)>0))=true then
       some true
      else
       if (!m5) = true then
        if(decide ((e.Params.length:Int)>0))=true then
         some true
        else
         if (!m6) = true then
          if(decide ((e.Alts.length:Int)>0))=true then
           some true
          else
           if(!m9)=true then
            some (decide ((e.Types.length:Int)>0))
           else
            some false
         else
          if(!m9)=true then
           some (decide ((e.Types.length:Int)>0))
          else
           some false
       else
        if (!m6) = true then
         if(decide ((e.Alts.length:Int)>0))=true then
          some true
         else
          if(!m9)=true then
           some (decide ((e.Types.length:Int)>0))
          else
           some false
        else
         if(!m9)=true then
          some (decide ((e.Types.length:Int)>0))
         else
          some false
     else
      if (!m5) = true then
       if(decide ((e.Params.length:Int)>0))=true then
        some true
       else
        if (!m6) = true then
         if(decide ((e.Alts.length:Int)>0))=true then
          some true
         else
          if(!m9)=true then
           some (decide ((e.Types.length:Int)>0))
          else
           some false
        else
         if(!m9)=true then
          some (decide ((e.Types.length:Int)>0))
         else
          some false
      else
       if (!m6) = true then
        if(decide ((e.Alts.length:Int)>0))=true then
         some true
        else
         if(!m9)=true then
          some (decide ((e.Types.length:Int)>0))
         else
          some false
       else
        if(!m9)=true then
         some (decide ((e.Types.length:Int)>0))
        else
         some false
   else
    if (m4 == 0) = true then
     if(decide ((e.Kids.length:Int)>0))=true then
      some true
     else
      if (!m5) = true then
       if(decide ((e.Params.length:Int)>0))=true then
        some true
       else
        if (!m6) = true then
         if(decide ((e.Alts.length:Int)>0))=true then
          some true
         else
          if(!m9)=true then
           some (decide ((e.Types.length:Int)>0))
          else
           some false
        else
         if(!m9)=true then
          some (decide ((e.Types.length:Int)>0))
         else
          some false
      else
       if (!m6) = true then
        if(decide ((e.Alts.length:Int)>0))=true then
         some true
        else
         if(!m9)=true then
          some (decide ((e.Types.length:Int)>0))
         else
          some false
       else
        if(!m9)=true then
         some (decide ((e.Types.length:Int)>0))
        else
         some false
    else
     if (!m5) = true then
      if(decide ((e.Params.length:Int)>0))=true then
       some true
      else
       if (!m6) = true then
        if(decide ((e.Alts.length:Int)>0))=true then
         some true
        else
         if(!m9)=true then
          some (decide ((e.Types.length:Int)>0))
         else
          some false
       else
        if(!m9)=true then
         some (decide ((e.Types.length:Int)>0))
        else
         some false
     else
      if (!m6) = true then
       if(decide ((e.Alts.length:Int)>0))=true then
        some true
       else
        if(!m9)=true then
         some (decide ((e.Types.length:Int)>0))
        else
         some false
      else
       if(!m9)=true then
        some (decide ((e.Types.length:Int)>0))
       else
        some false
 else
  if (!m2) = true then
   if(!(e.Name==([]:ag)))=true then
    some true
   else
    if (m4 == 0) = true then
     if(decide ((e.Kids.length:Int)>0))=true then
      some true
     else
      if (!m5) = true then
       if(decide ((e.Params.length:Int)>0))=true then
        some true
       else
        if (!m6) = true then
         if(decide ((e.Alts.length:Int)>0))=true then
          some true
         else
          if(!m9)=true then
           some (decide ((e.Types.length:Int)>0))
          else
           some false
        else
         if(!m9)=true then
          some (decide ((e.Types.length:Int)>0))
         else
          some false
      else
       if (!m6) = true then
        if(decide ((e.Alts.length:Int)>0))=true then
         some true
        else
         if(!m9)=true then
          some (decide ((e.Types.length:Int)>0))
         else
          some false
       else
        if(!m9)=true then
         some (decide ((e.Types.length:Int)>0))
        else
         some false
    else
     if (!m5) = true then
      if(decide ((e.Params.length:Int)>0))=true then
       some true
      else
       if (!m6) = true then
        if(decide ((e.Alts.length:Int)>0))=true then
         some true
        else
         if(!m9)=true then
          some (decide ((e.Types.length:Int)>0))
         else
          some false
       else
        if(!m9)=true then
         some (decide ((e.Types.length:Int)>0))
        else
         some false
     else
      if (!m6) = true then
       if(decide ((e.Alts.length:Int)>0))=true then
        some true
       else
        if(!m9)=true then
         some (decide ((e.Types.length:Int)>0))
        else
         some false
      else
       if(!m9)=true then
        some (decide ((e.Types.length:Int)>0))
       else
        some false
  else
   if (m4 == 0) = true then
    if(decide ((e.Kids.length:Int)>0))=true then
     some true
    else
     if (!m5) = true then
      if(decide ((e.Params.length:Int)>0))=true then
       some true
      else
       if (!m6) = true then
        if(decide ((e.Alts.length:Int)>0))=true then
         some true
        else
         if(!m9)=true then
          some (decide ((e.Types.length:Int)>0))
         else
          some false
       else
        if(!m9)=true then
         some (decide ((e.Types.length:Int)>0))
        else
         some false
     else
      if (!m6) = true then
       if(decide ((e.Alts.length:Int)>0))=true then
        some true
       else
        if(!m9)=true then
         some (decide ((e.Types.length:Int)>0))
        else
         some false
      else
       if(!m9)=true then
        some (decide ((e.Types.length:Int)>0))
       else
        some false
   else
    if (!m5) = true then
     if(decide ((e.Params.length:Int)>0))=true then
      some true
     else
      if (!m6) = true then
       if(decide ((e.Alts.length:Int)>0))=true then
        some true
       else
        if(!m9)=true then
         some (decide ((e.Types.length:Int)>0))
        else
         some false
      else
       if(!m9)=true then
        some (decide ((e.Types.length:Int)>0))
       else
        some false
    else
     if (!m6) = true then
      if(decide ((e.Alts.length:Int)>0))=true then
       some true
      else
       if(!m9)=true then
        some (decide ((e.Types.length:Int)>0))
       else
        some false
     else
      if(!m9)=true then
       some (decide ((e.Types.length:Int)>0))
      else
       some false
theorem Ei {x:Bool} (h:Ab e m m2 m4 m5 m6 m9 = some x) :aP Pg GE 0 (cA M6 14) (EX .normal (ah e ok m m2 m3 m4 m5 m6 m7 m8 m9 x)) (Fk e ok m m2 m3 m4 m5 m6 m7 m8 m9):=by
 rcases aN h with⟨c2,h⟩|⟨c2,h⟩
 ·have p4:=fun{sc F} (r:PS sc F)=>ss<|sg 4 c2<|sv (io e)<|sv (jt e)<|r
  rcases aN h with⟨c3,h⟩|⟨c3,h⟩
  ·obtain rfl:=lf h
   exact bk fm (p4<|sg 9 c3<|eF .normal (ah e ok m m2 m3 m4 m5 m6 m7 m8 m9 true))<|by kernel_rfl
  ·have p6:=fun{sc F} (r:PS sc F)=>p4<|sg 9 c3<|ss<|r
   rcases aN h with⟨c5,h⟩|⟨c5,h⟩
   ·have p8:=fun{sc F} (r:PS sc F)=>p6<|sg 13 c5<|sv (cp e)<|sv (cz e)<|r
    rcases aN h with⟨c7,h⟩|⟨c7,h⟩
    ·obtain rfl:=lf h
     exact bk fm (p8<|sg 19 c7<|eF .normal (ah e ok m m2 m3 m4 m5 m6 m7 m8 m9 true))<|by kernel_rfl
    ·have p10:=fun{sc F} (r:PS sc F)=>p8<|sg 19 c7<|ss<|r
     rcases aN h with⟨c9,h⟩|⟨c9,h⟩
     ·have p12:=fun{sc F} (r:PS sc F)=>p10<|sg 23 c9<|sv (aR e)<|sv (aS e)<|bW (fi.ln e.Kids)<|r
      rcases aN h with⟨c11,h⟩|⟨c11,h⟩
      ·obtain rfl:=lf h
       exact bk fm (p12<|sg 30 c11<|eF .normal (ah e ok m m2 m3 m4 m5 m6 m7 m8 m9 true))<|by kernel_rfl
      ·have p14:=fun{sc F} (r:PS sc F)=>p12<|sg 30 c11<|ss<|r
       rcases aN h with⟨c13,h⟩|⟨c13,h⟩
       ·have p16:=fun{sc F} (r:PS sc F)=>p14<|sg 34 c13<|sv (bw e)<|sv (bA e)<|bW (kU.ln e.Params)<|r
        rcases aN h with⟨c15,h⟩|⟨c15,h⟩
        ·obtain rfl:=lf h
         exact bk fm (p16<|sg 41 c15<|eF .normal (ah e ok m m2 m3 m4 m5 m6 m7 m8 m9 true))<|by kernel_rfl
        ·have p18:=fun{sc F} (r:PS sc F)=>p16<|sg 41 c15<|ss<|r
         rcases aN h with⟨c17,h⟩|⟨c17,h⟩
         ·have p20:=fun{sc F} (r:PS sc F)=>p18<|sg 45 c17<|sv (aB e)<|sv (aC e)<|bW (ea.ln e.Alts)<|r
          rcases aN h with⟨c19,h⟩|⟨c19,h⟩
          ·obtain rfl:=lf h
           exact bk fm (p20<|sg 52 c19<|eF .normal (ah e ok m m2 m3 m4 m5 m6 m7 m8 m9 true))<|by kernel_rfl
          ·have p22:=fun{sc F} (r:PS sc F)=>p20<|sg 52 c19<|ss<|r
           rcases aN h with⟨c21,h⟩|⟨c21,h⟩
           ·obtain rfl:=lf h
            exact bk fm (p22<|sg 56 c21<|sv (aJ e)<|sv (aK e)<|bW (d4.ln e.Types)<|eF .normal (ah e ok m m2 m3 m4 m5 m6 m7 m8 m9 (decide ((e.Types.length:Int)>0))))<|by kernel_rfl
           ·obtain rfl:=lf h
            exact bk fm (p22<|sg 56 c21<|eF .normal (ah e ok m m2 m3 m4 m5 m6 m7 m8 m9 false))<|by kernel_rfl
         ·have p24:=fun{sc F} (r:PS sc F)=>p18<|sg 45 c17<|ss<|r
          rcases aN h with⟨c23,h⟩|⟨c23,h⟩
          ·obtain rfl:=lf h
           exact bk fm (p24<|sg 56 c23<|sv (aJ e)<|sv (aK e)<|bW (d4.ln e.Types)<|eF .normal (ah e ok m m2 m3 m4 m5 m6 m7 m8 m9 (decide ((e.Types.length:Int)>0))))<|by kernel_rfl
          ·obtain rfl:=lf h
           exact bk fm (p24<|sg 56 c23<|eF .normal (ah e ok m m2 m3 m4 m5 m6 m7 m8 m9 false))<|by kernel_rfl
       ·have p26:=fun{sc F} (r:PS sc F)=>p14<|sg 34 c13<|ss<|r
        rcases aN h with⟨c25,h⟩|⟨c25,h⟩
        ·have p28:=fun{sc F} (r:PS sc F)=>p26<|sg 45 c25<|sv (aB e)<|sv (aC e)<|bW (ea.ln e.Alts)<|r
         rcases aN h with⟨c27,h⟩|⟨c27,h⟩
         ·obtain rfl:=lf h
          exact bk fm (p28<|sg 52 c27<|eF .normal (ah e ok m m2 m3 m4 m5 m6 m7 m8 m9 true))<|by kernel_rfl
         ·have p30:=fun{sc F} (r:PS sc F)=>p28<|sg 52 c27<|ss<|r
          rcases aN h with⟨c29,h⟩|⟨c29,h⟩
          ·obtain rfl:=lf h
           exact bk fm (p30<|sg 56 c29<|sv (aJ e)<|sv (aK e)<|bW (d4.ln e.Types)<|eF .normal (ah e ok m m2 m3 m4 m5 m6 m7 m8 m9 (decide ((e.Types.length:Int)>0))))<|by kernel_rfl
          ·obtain rfl:=lf h
           exact bk fm (p30<|sg 56 c29<|eF .normal (ah e ok m m2 m3 m4 m5 m6 m7 m8 m9 false))<|by kernel_rfl
        ·have p32:=fun{sc F} (r:PS sc F)=>p26<|sg 45 c25<|ss<|r
         rcases aN h with⟨c31,h⟩|⟨c31,h⟩
         ·obtain rfl:=lf h
          exact bk fm (p32<|sg 56 c31<|sv (aJ e)<|sv (aK e)<|bW (d4.ln e.Types)<|eF .normal (ah e ok m m2 m3 m4 m5 m6 m7 m8 m9 (decide ((e.Types.length:Int)>0))))<|by kernel_rfl
         ·obtain rfl:=lf h
          exact bk fm (p32<|sg 56 c31<|eF .normal (ah e ok m m2 m3 m4 m5 m6 m7 m8 m9 false))<|by kernel_rfl
     ·have p34:=fun{sc F} (r:PS sc F)=>p10<|sg 23 c9<|ss<|r
      rcases aN h with⟨c33,h⟩|⟨c33,h⟩
      ·have p36:=fun{sc F} (r:PS sc F)=>p34<|sg 34 c33<|sv (bw e)<|sv (bA e)<|bW (kU.ln e.Params)<|r
       rcases aN h with⟨c35,h⟩|⟨c35,h⟩
       ·obtain rfl:=lf h
        exact bk fm (p36<|sg 41 c35<|eF .normal (ah e ok m m2 m3 m4 m5 m6 m7 m8 m9 true))<|by kernel_rfl
       ·have p38:=fun{sc F} (r:PS sc F)=>p36<|sg 41 c35<|ss<|r
        rcases aN h with⟨c37,h⟩|⟨c37,h⟩
        ·have p40:=fun{sc F} (r:PS sc F)=>p38<|sg 45 c37<|sv (aB e)<|sv (aC e)<|bW (ea.ln e.Alts)<|r
         rcases aN h with⟨c39,h⟩|⟨c39,h⟩
         ·obtain rfl:=lf h
          exact bk fm (p40<|sg 52 c39<|eF .normal (ah e ok m m2 m3 m4 m5 m6 m7 m8 m9 true))<|by kernel_rfl
         ·have p42:=fun{sc F} (r:PS sc F)=>p40<|sg 52 c39<|ss<|r
          rcases aN h with⟨c41,h⟩|⟨c41,h⟩
          ·obtain rfl:=lf h
           exact bk fm (p42<|sg 56 c41<|sv (aJ e)<|sv (aK e)<|bW (d4.ln e.Types)<|eF .normal (ah e ok m m2 m3 m4 m5 m6 m7 m8 m9 (decide ((e.Types.length:Int)>0))))<|by kernel_rfl
          ·obtain rfl:=lf h
           exact bk fm (p42<|sg 56 c41<|eF .normal (ah e ok m m2 m3 m4 m5 m6 m7 m8 m9 false))<|by kernel_rfl
        ·have p44:=fun{sc F} (r:PS sc F)=>p38<|sg 45 c37<|ss<|r
         rcases aN h with⟨c43,h⟩|⟨c43,h⟩
         ·obtain rfl:=lf h
          exact bk fm (p44<|sg 56 c43<|sv (aJ e)<|sv (aK e)<|bW (d4.ln e.Types)<|eF .normal (ah e ok m m2 m3 m4 m5 m6 m7 m8 m9 (decide ((e.Types.length:Int)>0))))<|by kernel_rfl
         ·obtain rfl:=lf h
          exact bk fm (p44<|sg 56 c43<|eF .normal (ah e ok m m2 m3 m4 m5 m6 m7 m8 m9 false))<|by kernel_rfl
      ·have p46:=fun{sc F} (r:PS sc F)=>p34<|sg 34 c33<|ss<|r
       rcases aN h with⟨c45,h⟩|⟨c45,h⟩
       ·have p48:=fun{sc F} (r:PS sc F)=>p46<|sg 45 c45<|sv (aB e)<|sv (aC e)<|bW (ea.ln e.Alts)<|r
        rcases aN h with⟨c47,h⟩|⟨c47,h⟩
        ·obtain rfl:=lf h
         exact bk fm (p48<|sg 52 c47<|eF .normal (ah e ok m m2 m3 m4 m5 m6 m7 m8 m9 true))<|by kernel_rfl
        ·have p50:=fun{sc F} (r:PS sc F)=>p48<|sg 52 c47<|ss<|r
         rcases aN h with⟨c49,h⟩|⟨c49,h⟩
         ·obtain rfl:=lf h
          exact bk fm (p50<|sg 56 c49<|sv (aJ e)<|sv (aK e)<|bW (d4.ln e.Types)<|eF .normal (ah e ok m m2 m3 m4 m5 m6 m7 m8 m9 (decide ((e.Types.length:Int)>0))))<|by kernel_rfl
         ·obtain rfl:=lf h
          exact bk fm (p50<|sg 56 c49<|eF .normal (ah e ok m m2 m3 m4 m5 m6 m7 m8 m9 false))<|by kernel_rfl
       ·have p52:=fun{sc F} (r:PS sc F)=>p46<|sg 45 c45<|ss<|r
        rcases aN h with⟨c51,h⟩|⟨c51,h⟩
        ·obtain rfl:=lf h
         exact bk fm (p52<|sg 56 c51<|sv (aJ e)<|sv (aK e)<|bW (d4.ln e.Types)<|eF .normal (ah e ok m m2 m3 m4 m5 m6 m7 m8 m9 (decide ((e.Types.length:Int)>0))))<|by kernel_rfl
        ·obtain rfl:=lf h
         exact bk fm (p52<|sg 56 c51<|eF .normal (ah e ok m m2 m3 m4 m5 m6 m7 m8 m9 false))<|by kernel_rfl
   ·have p54:=fun{sc F} (r:PS sc F)=>p6<|sg 13 c5<|ss<|r
    rcases aN h with⟨c53,h⟩|⟨c53,h⟩
    ·have p56:=fun{sc F} (r:PS sc F)=>p54<|sg 23 c53<|sv (aR e)<|sv (aS e)<|bW (fi.ln e.Kids)<|r
     rcases aN h with⟨c55,h⟩|⟨c55,h⟩
     ·obtain rfl:=lf h
      exact bk fm (p56<|sg 30 c55<|eF .normal (ah e ok m m2 m3 m4 m5 m6 m7 m8 m9 true))<|by kernel_rfl
     ·have p58:=fun{sc F} (r:PS sc F)=>p56<|sg 30 c55<|ss<|r
      rcases aN h with⟨c57,h⟩|⟨c57,h⟩
      ·have p60:=fun{sc F} (r:PS sc F)=>p58<|sg 34 c57<|sv (bw e)<|sv (bA e)<|bW (kU.ln e.Params)<|r
       rcases aN h with⟨c59,h⟩|⟨c59,h⟩
       ·obtain rfl:=lf h
        exact bk fm (p60<|sg 41 c59<|eF .normal (ah e ok m m2 m3 m4 m5 m6 m7 m8 m9 true))<|by kernel_rfl
       ·have p62:=fun{sc F} (r:PS sc F)=>p60<|sg 41 c59<|ss<|r
        rcases aN h with⟨c61,h⟩|⟨c61,h⟩
        ·have p64:=fun{sc F} (r:PS sc F)=>p62<|sg 45 c61<|sv (aB e)<|sv (aC e)<|bW (ea.ln e.Alts)<|r
         rcases aN h with⟨c63,h⟩|⟨c63,h⟩
         ·obtain rfl:=lf h
          exact bk fm (p64<|sg 52 c63<|eF .normal (ah e ok m m2 m3 m4 m5 m6 m7 m8 m9 true))<|by kernel_rfl
         ·have p66:=fun{sc F} (r:PS sc F)=>p64<|sg 52 c63<|ss<|r
          rcases aN h with⟨c65,h⟩|⟨c65,h⟩
          ·obtain rfl:=lf h
           exact bk fm (p66<|sg 56 c65<|sv (aJ e)<|sv (aK e)<|bW (d4.ln e.Types)<|eF .normal (ah e ok m m2 m3 m4 m5 m6 m7 m8 m9 (decide ((e.Types.length:Int)>0))))<|by kernel_rfl
          ·obtain rfl:=lf h
           exact bk fm (p66<|sg 56 c65<|eF .normal (ah e ok m m2 m3 m4 m5 m6 m7 m8 m9 false))<|by kernel_rfl
        ·have p68:=fun{sc F} (r:PS sc F)=>p62<|sg 45 c61<|ss<|r
         rcases aN h with⟨c67,h⟩|⟨c67,h⟩
         ·obtain rfl:=lf h
          exact bk fm (p68<|sg 56 c67<|sv (aJ e)<|sv (aK e)<|bW (d4.ln e.Types)<|eF .normal (ah e ok m m2 m3 m4 m5 m6 m7 m8 m9 (decide ((e.Types.length:Int)>0))))<|by kernel_rfl
         ·obtain rfl:=lf h
          exact bk fm (p68<|sg 56 c67<|eF .normal (ah e ok m m2 m3 m4 m5 m6 m7 m8 m9 false))<|by kernel_rfl
      ·have p70:=fun{sc F} (r:PS sc F)=>p58<|sg 34 c57<|ss<|r
       rcases aN h with⟨c69,h⟩|⟨c69,h⟩
       ·have p72:=fun{sc F} (r:PS sc F)=>p70<|sg 45 c69<|sv (aB e)<|sv (aC e)<|bW (ea.ln e.Alts)<|r
        rcases aN h with⟨c71,h⟩|⟨c71,h⟩
        ·obtain rfl:=lf h
         exact bk fm (p72<|sg 52 c71<|eF .normal (ah e ok m m2 m3 m4 m5 m6 m7 m8 m9 true))<|by kernel_rfl
        ·have p74:=fun{sc F} (r:PS sc F)=>p72<|sg 52 c71<|ss<|r
         rcases aN h with⟨c73,h⟩|⟨c73,h⟩
         ·obtain rfl:=lf h
          exact bk fm (p74<|sg 56 c73<|sv (aJ e)<|sv (aK e)<|bW (d4.ln e.Types)<|eF .normal (ah e ok m m2 m3 m4 m5 m6 m7 m8 m9 (decide ((e.Types.length:Int)>0))))<|by kernel_rfl
         ·obtain rfl:=lf h
          exact bk fm (p74<|sg 56 c73<|eF .normal (ah e ok m m2 m3 m4 m5 m6 m7 m8 m9 false))<|by kernel_rfl
       ·have p76:=fun{sc F} (r:PS sc F)=>p70<|sg 45 c69<|ss<|r
        rcases aN h with⟨c75,h⟩|⟨c75,h⟩
        ·obtain rfl:=lf h
         exact bk fm (p76<|sg 56 c75<|sv (aJ e)<|sv (aK e)<|bW (d4.ln e.Types)<|eF .normal (ah e ok m m2 m3 m4 m5 m6 m7 m8 m9 (decide ((e.Types.length:Int)>0))))<|by kernel_rfl
        ·obtain rfl:=lf h
         exact bk fm (p76<|sg 56 c75<|eF .normal (ah e ok m m2 m3 m4 m5 m6 m7 m8 m9 false))<|by kernel_rfl
    ·have p78:=fun{sc F} (r:PS sc F)=>p54<|sg 23 c53<|ss<|r
     rcases aN h with⟨c77,h⟩|⟨c77,h⟩
     ·have p80:=fun{sc F} (r:PS sc F)=>p78<|sg 34 c77<|sv (bw e)<|sv (bA e)<|bW (kU.ln e.Params)<|r
      rcases aN h with⟨c79,h⟩|⟨c79,h⟩
      ·obtain rfl:=lf h
       exact bk fm (p80<|sg 41 c79<|eF .normal (ah e ok m m2 m3 m4 m5 m6 m7 m8 m9 true))<|by kernel_rfl
      ·have p82:=fun{sc F} (r:PS sc F)=>p80<|sg 41 c79<|ss<|r
       rcases aN h with⟨c81,h⟩|⟨c81,h⟩
       ·have p84:=fun{sc F} (r:PS sc F)=>p82<|sg 45 c81<|sv (aB e)<|sv (aC e)<|bW (ea.ln e.Alts)<|r
        rcases aN h with⟨c83,h⟩|⟨c83,h⟩
        ·obtain rfl:=lf h
         exact bk fm (p84<|sg 52 c83<|eF .normal (ah e ok m m2 m3 m4 m5 m6 m7 m8 m9 true))<|by kernel_rfl
        ·have p86:=fun{sc F} (r:PS sc F)=>p84<|sg 52 c83<|ss<|r
         rcases aN h with⟨c85,h⟩|⟨c85,h⟩
         ·obtain rfl:=lf h
          exact bk fm (p86<|sg 56 c85<|sv (aJ e)<|sv (aK e)<|bW (d4.ln e.Types)<|eF .normal (ah e ok m m2 m3 m4 m5 m6 m7 m8 m9 (decide ((e.Types.length:Int)>0))))<|by kernel_rfl
         ·obtain rfl:=lf h
          exact bk fm (p86<|sg 56 c85<|eF .normal (ah e ok m m2 m3 m4 m5 m6 m7 m8 m9 false))<|by kernel_rfl
       ·have p88:=fun{sc F} (r:PS sc F)=>p82<|sg 45 c81<|ss<|r
        rcases aN h with⟨c87,h⟩|⟨c87,h⟩
        ·obtain rfl:=lf h
         exact bk fm (p88<|sg 56 c87<|sv (aJ e)<|sv (aK e)<|bW (d4.ln e.Types)<|eF .normal (ah e ok m m2 m3 m4 m5 m6 m7 m8 m9 (decide ((e.Types.length:Int)>0))))<|by kernel_rfl
        ·obtain rfl:=lf h
         exact bk fm (p88<|sg 56 c87<|eF .normal (ah e ok m m2 m3 m4 m5 m6 m7 m8 m9 false))<|by kernel_rfl
     ·have p90:=fun{sc F} (r:PS sc F)=>p78<|sg 34 c77<|ss<|r
      rcases aN h with⟨c89,h⟩|⟨c89,h⟩
      ·have p92:=fun{sc F} (r:PS sc F)=>p90<|sg 45 c89<|sv (aB e)<|sv (aC e)<|bW (ea.ln e.Alts)<|r
       rcases aN h with⟨c91,h⟩|⟨c91,h⟩
       ·obtain rfl:=lf h
        exact bk fm (p92<|sg 52 c91<|eF .normal (ah e ok m m2 m3 m4 m5 m6 m7 m8 m9 true))<|by kernel_rfl
       ·have p94:=fun{sc F} (r:PS sc F)=>p92<|sg 52 c91<|ss<|r
        rcases aN h with⟨c93,h⟩|⟨c93,h⟩
        ·obtain rfl:=lf h
         exact bk fm (p94<|sg 56 c93<|sv (aJ e)<|sv (aK e)<|bW (d4.ln e.Types)<|eF .normal (ah e ok m m2 m3 m4 m5 m6 m7 m8 m9 (decide ((e.Types.length:Int)>0))))<|by kernel_rfl
        ·obtain rfl:=lf h
         exact bk fm (p94<|sg 56 c93<|eF .normal (ah e ok m m2 m3 m4 m5 m6 m7 m8 m9 false))<|by kernel_rfl
      ·have p96:=fun{sc F} (r:PS sc F)=>p90<|sg 45 c89<|ss<|r
       rcases aN h with⟨c95,h⟩|⟨c95,h⟩
       ·obtain rfl:=lf h
        exact bk fm (p96<|sg 56 c95<|sv (aJ e)<|sv (aK e)<|bW (d4.ln e.Types)<|eF .normal (ah e ok m m2 m3 m4 m5 m6 m7 m8 m9 (decide ((e.Types.length:Int)>0))))<|by kernel_rfl
       ·obtain rfl:=lf h
        exact bk fm (p96<|sg 56 c95<|eF .normal (ah e ok m m2 m3 m4 m5 m6 m7 m8 m9 false))<|by kernel_rfl
 ·have p98:=fun{sc F} (r:PS sc F)=>ss<|sg 4 c2<|ss<|r
  rcases aN h with⟨c97,h⟩|⟨c97,h⟩
  ·have p100:=fun{sc F} (r:PS sc F)=>p98<|sg 13 c97<|sv (cp e)<|sv (cz e)<|r
   rcases aN h with⟨c99,h⟩|⟨c99,h⟩
   ·obtain rfl:=lf h
    exact bk fm (p100<|sg 19 c99<|eF .normal (ah e ok m m2 m3 m4 m5 m6 m7 m8 m9 true))<|by kernel_rfl
   ·have p102:=fun{sc F} (r:PS sc F)=>p100<|sg 19 c99<|ss<|r
    rcases aN h with⟨c101,h⟩|⟨c101,h⟩
    ·have p104:=fun{sc F} (r:PS sc F)=>p102<|sg 23 c101<|sv (aR e)<|sv (aS e)<|bW (fi.ln e.Kids)<|r
     rcases aN h with⟨c103,h⟩|⟨c103,h⟩
     ·obtain rfl:=lf h
      exact bk fm (p104<|sg 30 c103<|eF .normal (ah e ok m m2 m3 m4 m5 m6 m7 m8 m9 true))<|by kernel_rfl
     ·have p106:=fun{sc F} (r:PS sc F)=>p104<|sg 30 c103<|ss<|r
      rcases aN h with⟨c105,h⟩|⟨c105,h⟩
      ·have p108:=fun{sc F} (r:PS sc F)=>p106<|sg 34 c105<|sv (bw e)<|sv (bA e)<|bW (kU.ln e.Params)<|r
       rcases aN h with⟨c107,h⟩|⟨c107,h⟩
       ·obtain rfl:=lf h
        exact bk fm (p108<|sg 41 c107<|eF .normal (ah e ok m m2 m3 m4 m5 m6 m7 m8 m9 true))<|by kernel_rfl
       ·have p110:=fun{sc F} (r:PS sc F)=>p108<|sg 41 c107<|ss<|r
        rcases aN h with⟨c109,h⟩|⟨c109,h⟩
        ·have p112:=fun{sc F} (r:PS sc F)=>p110<|sg 45 c109<|sv (aB e)<|sv (aC e)<|bW (ea.ln e.Alts)<|r
         rcases aN h with⟨c111,h⟩|⟨c111,h⟩
         ·obtain rfl:=lf h
          exact bk fm (p112<|sg 52 c111<|eF .normal (ah e ok m m2 m3 m4 m5 m6 m7 m8 m9 true))<|by kernel_rfl
         ·have p114:=fun{sc F} (r:PS sc F)=>p112<|sg 52 c111<|ss<|r
          rcases aN h with⟨c113,h⟩|⟨c113,h⟩
          ·obtain rfl:=lf h
           exact bk fm (p114<|sg 56 c113<|sv (aJ e)<|sv (aK e)<|bW (d4.ln e.Types)<|eF .normal (ah e ok m m2 m3 m4 m5 m6 m7 m8 m9 (decide ((e.Types.length:Int)>0))))<|by kernel_rfl
          ·obtain rfl:=lf h
           exact bk fm (p114<|sg 56 c113<|eF .normal (ah e ok m m2 m3 m4 m5 m6 m7 m8 m9 false))<|by kernel_rfl
        ·have p116:=fun{sc F} (r:PS sc F)=>p110<|sg 45 c109<|ss<|r
         rcases aN h with⟨c115,h⟩|⟨c115,h⟩
         ·obtain rfl:=lf h
          exact bk fm (p116<|sg 56 c115<|sv (aJ e)<|sv (aK e)<|bW (d4.ln e.Types)<|eF .normal (ah e ok m m2 m3 m4 m5 m6 m7 m8 m9 (decide ((e.Types.length:Int)>0))))<|by kernel_rfl
         ·obtain rfl:=lf h
          exact bk fm (p116<|sg 56 c115<|eF .normal (ah e ok m m2 m3 m4 m5 m6 m7 m8 m9 false))<|by kernel_rfl
      ·have p118:=fun{sc F} (r:PS sc F)=>p106<|sg 34 c105<|ss<|r
       rcases aN h with⟨c117,h⟩|⟨c117,h⟩
       ·have p120:=fun{sc F} (r:PS sc F)=>p118<|sg 45 c117<|sv (aB e)<|sv (aC e)<|bW (ea.ln e.Alts)<|r
        rcases aN h with⟨c119,h⟩|⟨c119,h⟩
        ·obtain rfl:=lf h
         exact bk fm (p120<|sg 52 c119<|eF .normal (ah e ok m m2 m3 m4 m5 m6 m7 m8 m9 true))<|by kernel_rfl
        ·have p122:=fun{sc F} (r:PS sc F)=>p120<|sg 52 c119<|ss<|r
         rcases aN h with⟨c121,h⟩|⟨c121,h⟩
         ·obtain rfl:=lf h
          exact bk fm (p122<|sg 56 c121<|sv (aJ e)<|sv (aK e)<|bW (d4.ln e.Types)<|eF .normal (ah e ok m m2 m3 m4 m5 m6 m7 m8 m9 (decide ((e.Types.length:Int)>0))))<|by kernel_rfl
         ·obtain rfl:=lf h
          exact bk fm (p122<|sg 56 c121<|eF .normal (ah e ok m m2 m3 m4 m5 m6 m7 m8 m9 false))<|by kernel_rfl
       ·have p124:=fun{sc F} (r:PS sc F)=>p118<|sg 45 c117<|ss<|r
        rcases aN h with⟨c123,h⟩|⟨c123,h⟩
        ·obtain rfl:=lf h
         exact bk fm (p124<|sg 56 c123<|sv (aJ e)<|sv (aK e)<|bW (d4.ln e.Types)<|eF .normal (ah e ok m m2 m3 m4 m5 m6 m7 m8 m9 (decide ((e.Types.length:Int)>0))))<|by kernel_rfl
        ·obtain rfl:=lf h
         exact bk fm (p124<|sg 56 c123<|eF .normal (ah e ok m m2 m3 m4 m5 m6 m7 m8 m9 false))<|by kernel_rfl
    ·have p126:=fun{sc F} (r:PS sc F)=>p102<|sg 23 c101<|ss<|r
     rcases aN h with⟨c125,h⟩|⟨c125,h⟩
     ·have p128:=fun{sc F} (r:PS sc F)=>p126<|sg 34 c125<|sv (bw e)<|sv (bA e)<|bW (kU.ln e.Params)<|r
      rcases aN h with⟨c127,h⟩|⟨c127,h⟩
      ·obtain rfl:=lf h
       exact bk fm (p128<|sg 41 c127<|eF .normal (ah e ok m m2 m3 m4 m5 m6 m7 m8 m9 true))<|by kernel_rfl
      ·have p130:=fun{sc F} (r:PS sc F)=>p128<|sg 41 c127<|ss<|r
       rcases aN h with⟨c129,h⟩|⟨c129,h⟩
       ·have p132:=fun{sc F} (r:PS sc F)=>p130<|sg 45 c129<|sv (aB e)<|sv (aC e)<|bW (ea.ln e.Alts)<|r
        rcases aN h with⟨c131,h⟩|⟨c131,h⟩
        ·obtain rfl:=lf h
         exact bk fm (p132<|sg 52 c131<|eF .normal (ah e ok m m2 m3 m4 m5 m6 m7 m8 m9 true))<|by kernel_rfl
        ·have p134:=fun{sc F} (r:PS sc F)=>p132<|sg 52 c131<|ss<|r
         rcases aN h with⟨c133,h⟩|⟨c133,h⟩
         ·obtain rfl:=lf h
          exact bk fm (p134<|sg 56 c133<|sv (aJ e)<|sv (aK e)<|bW (d4.ln e.Types)<|eF .normal (ah e ok m m2 m3 m4 m5 m6 m7 m8 m9 (decide ((e.Types.length:Int)>0))))<|by kernel_rfl
         ·obtain rfl:=lf h
          exact bk fm (p134<|sg 56 c133<|eF .normal (ah e ok m m2 m3 m4 m5 m6 m7 m8 m9 false))<|by kernel_rfl
       ·have p136:=fun{sc F} (r:PS sc F)=>p130<|sg 45 c129<|ss<|r
        rcases aN h with⟨c135,h⟩|⟨c135,h⟩
        ·obtain rfl:=lf h
         exact bk fm (p136<|sg 56 c135<|sv (aJ e)<|sv (aK e)<|bW (d4.ln e.Types)<|eF .normal (ah e ok m m2 m3 m4 m5 m6 m7 m8 m9 (decide ((e.Types.length:Int)>0))))<|by kernel_rfl
        ·obtain rfl:=lf h
         exact bk fm (p136<|sg 56 c135<|eF .normal (ah e ok m m2 m3 m4 m5 m6 m7 m8 m9 false))<|by kernel_rfl
     ·have p138:=fun{sc F} (r:PS sc F)=>p126<|sg 34 c125<|ss<|r
      rcases aN h with⟨c137,h⟩|⟨c137,h⟩
      ·have p140:=fun{sc F} (r:PS sc F)=>p138<|sg 45 c137<|sv (aB e)<|sv (aC e)<|bW (ea.ln e.Alts)<|r
       rcases aN h with⟨c139,h⟩|⟨c139,h⟩
       ·obtain rfl:=lf h
        exact bk fm (p140<|sg 52 c139<|eF .normal (ah e ok m m2 m3 m4 m5 m6 m7 m8 m9 true))<|by kernel_rfl
       ·have p142:=fun{sc F} (r:PS sc F)=>p140<|sg 52 c139<|ss<|r
        rcases aN h with⟨c141,h⟩|⟨c141,h⟩
        ·obtain rfl:=lf h
         exact bk fm (p142<|sg 56 c141<|sv (aJ e)<|sv (aK e)<|bW (d4.ln e.Types)<|eF .normal (ah e ok m m2 m3 m4 m5 m6 m7 m8 m9 (decide ((e.Types.length:Int)>0))))<|by kernel_rfl
        ·obtain rfl:=lf h
         exact bk fm (p142<|sg 56 c141<|eF .normal (ah e ok m m2 m3 m4 m5 m6 m7 m8 m9 false))<|by kernel_rfl
      ·have p144:=fun{sc F} (r:PS sc F)=>p138<|sg 45 c137<|ss<|r
       rcases aN h with⟨c143,h⟩|⟨c143,h⟩
       ·obtain rfl:=lf h
        exact bk fm (p144<|sg 56 c143<|sv (aJ e)<|sv (aK e)<|bW (d4.ln e.Types)<|eF .normal (ah e ok m m2 m3 m4 m5 m6 m7 m8 m9 (decide ((e.Types.length:Int)>0))))<|by kernel_rfl
       ·obtain rfl:=lf h
        exact bk fm (p144<|sg 56 c143<|eF .normal (ah e ok m m2 m3 m4 m5 m6 m7 m8 m9 false))<|by kernel_rfl
  ·have p146:=fun{sc F} (r:PS sc F)=>p98<|sg 13 c97<|ss<|r
   rcases aN h with⟨c145,h⟩|⟨c145,h⟩
   ·have p148:=fun{sc F} (r:PS sc F)=>p146<|sg 23 c145<|sv (aR e)<|sv (aS e)<|bW (fi.ln e.Kids)<|r
    rcases aN h with⟨c147,h⟩|⟨c147,h⟩
    ·obtain rfl:=lf h
     exact bk fm (p148<|sg 30 c147<|eF .normal (ah e ok m m2 m3 m4 m5 m6 m7 m8 m9 true))<|by kernel_rfl
    ·have p150:=fun{sc F} (r:PS sc F)=>p148<|sg 30 c147<|ss<|r
     rcases aN h with⟨c149,h⟩|⟨c149,h⟩
     ·have p152:=fun{sc F} (r:PS sc F)=>p150<|sg 34 c149<|sv (bw e)<|sv (bA e)<|bW (kU.ln e.Params)<|r
      rcases aN h with⟨c151,h⟩|⟨c151,h⟩
      ·obtain rfl:=lf h
       exact bk fm (p152<|sg 41 c151<|eF .normal (ah e ok m m2 m3 m4 m5 m6 m7 m8 m9 true))<|by kernel_rfl
      ·have p154:=fun{sc F} (r:PS sc F)=>p152<|sg 41 c151<|ss<|r
       rcases aN h with⟨c153,h⟩|⟨c153,h⟩
       ·have p156:=fun{sc F} (r:PS sc F)=>p154<|sg 45 c153<|sv (aB e)<|sv (aC e)<|bW (ea.ln e.Alts)<|r
        rcases aN h with⟨c155,h⟩|⟨c155,h⟩
        ·obtain rfl:=lf h
         exact bk fm (p156<|sg 52 c155<|eF .normal (ah e ok m m2 m3 m4 m5 m6 m7 m8 m9 true))<|by kernel_rfl
        ·have p158:=fun{sc F} (r:PS sc F)=>p156<|sg 52 c155<|ss<|r
         rcases aN h with⟨c157,h⟩|⟨c157,h⟩
         ·obtain rfl:=lf h
          exact bk fm (p158<|sg 56 c157<|sv (aJ e)<|sv (aK e)<|bW (d4.ln e.Types)<|eF .normal (ah e ok m m2 m3 m4 m5 m6 m7 m8 m9 (decide ((e.Types.length:Int)>0))))<|by kernel_rfl
         ·obtain rfl:=lf h
          exact bk fm (p158<|sg 56 c157<|eF .normal (ah e ok m m2 m3 m4 m5 m6 m7 m8 m9 false))<|by kernel_rfl
       ·have p160:=fun{sc F} (r:PS sc F)=>p154<|sg 45 c153<|ss<|r
        rcases aN h with⟨c159,h⟩|⟨c159,h⟩
        ·obtain rfl:=lf h
         exact bk fm (p160<|sg 56 c159<|sv (aJ e)<|sv (aK e)<|bW (d4.ln e.Types)<|eF .normal (ah e ok m m2 m3 m4 m5 m6 m7 m8 m9 (decide ((e.Types.length:Int)>0))))<|by kernel_rfl
        ·obtain rfl:=lf h
         exact bk fm (p160<|sg 56 c159<|eF .normal (ah e ok m m2 m3 m4 m5 m6 m7 m8 m9 false))<|by kernel_rfl
     ·have p162:=fun{sc F} (r:PS sc F)=>p150<|sg 34 c149<|ss<|r
      rcases aN h with⟨c161,h⟩|⟨c161,h⟩
      ·have p164:=fun{sc F} (r:PS sc F)=>p162<|sg 45 c161<|sv (aB e)<|sv (aC e)<|bW (ea.ln e.Alts)<|r
       rcases aN h with⟨c163,h⟩|⟨c163,h⟩
       ·obtain rfl:=lf h
        exact bk fm (p164<|sg 52 c163<|eF .normal (ah e ok m m2 m3 m4 m5 m6 m7 m8 m9 true))<|by kernel_rfl
       ·have p166:=fun{sc F} (r:PS sc F)=>p164<|sg 52 c163<|ss<|r
        rcases aN h with⟨c165,h⟩|⟨c165,h⟩
        ·obtain rfl:=lf h
         exact bk fm (p166<|sg 56 c165<|sv (aJ e)<|sv (aK e)<|bW (d4.ln e.Types)<|eF .normal (ah e ok m m2 m3 m4 m5 m6 m7 m8 m9 (decide ((e.Types.length:Int)>0))))<|by kernel_rfl
        ·obtain rfl:=lf h
         exact bk fm (p166<|sg 56 c165<|eF .normal (ah e ok m m2 m3 m4 m5 m6 m7 m8 m9 false))<|by kernel_rfl
      ·have p168:=fun{sc F} (r:PS sc F)=>p162<|sg 45 c161<|ss<|r
       rcases aN h with⟨c167,h⟩|⟨c167,h⟩
       ·obtain rfl:=lf h
        exact bk fm (p168<|sg 56 c167<|sv (aJ e)<|sv (aK e)<|bW (d4.ln e.Types)<|eF .normal (ah e ok m m2 m3 m4 m5 m6 m7 m8 m9 (decide ((e.Types.length:Int)>0))))<|by kernel_rfl
       ·obtain rfl:=lf h
        exact bk fm (p168<|sg 56 c167<|eF .normal (ah e ok m m2 m3 m4 m5 m6 m7 m8 m9 false))<|by kernel_rfl
   ·have p170:=fun{sc F} (r:PS sc F)=>p146<|sg 23 c145<|ss<|r
    rcases aN h with⟨c169,h⟩|⟨c169,h⟩
    ·have p172:=fun{sc F} (r:PS sc F)=>p170<|sg 34 c169<|sv (bw e)<|sv (bA e)<|bW (kU.ln e.Params)<|r
     rcases aN h with⟨c171,h⟩|⟨c171,h⟩
     ·obtain rfl:=lf h
      exact bk fm (p172<|sg 41 c171<|eF .normal (ah e ok m m2 m3 m4 m5 m6 m7 m8 m9 true))<|by kernel_rfl
     ·have p174:=fun{sc F} (r:PS sc F)=>p172<|sg 41 c171<|ss<|r
      rcases aN h with⟨c173,h⟩|⟨c173,h⟩
      ·have p176:=fun{sc F} (r:PS sc F)=>p174<|sg 45 c173<|sv (aB e)<|sv (aC e)<|bW (ea.ln e.Alts)<|r
       rcases aN h with⟨c175,h⟩|⟨c175,h⟩
       ·obtain rfl:=lf h
        exact bk fm (p176<|sg 52 c175<|eF .normal (ah e ok m m2 m3 m4 m5 m6 m7 m8 m9 true))<|by kernel_rfl
       ·have p178:=fun{sc F} (r:PS sc F)=>p176<|sg 52 c175<|ss<|r
        rcases aN h with⟨c177,h⟩|⟨c177,h⟩
        ·obtain rfl:=lf h
         exact bk fm (p178<|sg 56 c177<|sv (aJ e)<|sv (aK e)<|bW (d4.ln e.Types)<|eF .normal (ah e ok m m2 m3 m4 m5 m6 m7 m8 m9 (decide ((e.Types.length:Int)>0))))<|by kernel_rfl
        ·obtain rfl:=lf h
         exact bk fm (p178<|sg 56 c177<|eF .normal (ah e ok m m2 m3 m4 m5 m6 m7 m8 m9 false))<|by kernel_rfl
      ·have p180:=fun{sc F} (r:PS sc F)=>p174<|sg 45 c173<|ss<|r
       rcases aN h with⟨c179,h⟩|⟨c179,h⟩
       ·obtain rfl:=lf h
        exact bk fm (p180<|sg 56 c179<|sv (aJ e)<|sv (aK e)<|bW (d4.ln e.Types)<|eF .normal (ah e ok m m2 m3 m4 m5 m6 m7 m8 m9 (decide ((e.Types.length:Int)>0))))<|by kernel_rfl
       ·obtain rfl:=lf h
        exact bk fm (p180<|sg 56 c179<|eF .normal (ah e ok m m2 m3 m4 m5 m6 m7 m8 m9 false))<|by kernel_rfl
    ·have p182:=fun{sc F} (r:PS sc F)=>p170<|sg 34 c169<|ss<|r
     rcases aN h with⟨c181,h⟩|⟨c181,h⟩
     ·have p184:=fun{sc F} (r:PS sc F)=>p182<|sg 45 c181<|sv (aB e)<|sv (aC e)<|bW (ea.ln e.Alts)<|r
      rcases aN h with⟨c183,h⟩|⟨c183,h⟩
      ·obtain rfl:=lf h
       exact bk fm (p184<|sg 52 c183<|eF .normal (ah e ok m m2 m3 m4 m5 m6 m7 m8 m9 true))<|by kernel_rfl
      ·have p186:=fun{sc F} (r:PS sc F)=>p184<|sg 52 c183<|ss<|r
       rcases aN h with⟨c185,h⟩|⟨c185,h⟩
       ·obtain rfl:=lf h
        exact bk fm (p186<|sg 56 c185<|sv (aJ e)<|sv (aK e)<|bW (d4.ln e.Types)<|eF .normal (ah e ok m m2 m3 m4 m5 m6 m7 m8 m9 (decide ((e.Types.length:Int)>0))))<|by kernel_rfl
       ·obtain rfl:=lf h
        exact bk fm (p186<|sg 56 c185<|eF .normal (ah e ok m m2 m3 m4 m5 m6 m7 m8 m9 false))<|by kernel_rfl
     ·have p188:=fun{sc F} (r:PS sc F)=>p182<|sg 45 c181<|ss<|r
      rcases aN h with⟨c187,h⟩|⟨c187,h⟩
      ·obtain rfl:=lf h
       exact bk fm (p188<|sg 56 c187<|sv (aJ e)<|sv (aK e)<|bW (d4.ln e.Types)<|eF .normal (ah e ok m m2 m3 m4 m5 m6 m7 m8 m9 (decide ((e.Types.length:Int)>0))))<|by kernel_rfl
      ·obtain rfl:=lf h
       exact bk fm (p188<|sg 56 c187<|eF .normal (ah e ok m m2 m3 m4 m5 m6 m7 m8 m9 false))<|by kernel_rfl
end
section
variable(e:af)(ok:Bool)(unused:Bool)(m:Bool)(m2:Bool)(m3:Int)(m4:Int)(m5:Bool)(m6:Bool)(m7:Int)(m8:Int)(m9:Bool)
def Fl:az:=aZ 156 [(1,.eptr (ac e)),(3,.bptr 1 0),(4,.bool ok),(5,.bool unused)] [.dead,.cells [.bool m,.bool m2,.int .i64 m3,.int .i64 m4,.bool m5,.bool m6,.int .i64 m7,.int .i64 m8,.bool m9] []] []
def qT(o:Bool):az:=aZ 156 [(1,.eptr (ac e)),(3,.bptr 1 0),(81,.bool o)] [.dead,.cells [.bool m,.bool m2,.int .i64 m3,.int .i64 m4,.bool m5,.bool m6,.int .i64 m7,.int .i64 m8,.bool m9] []] []
def Ac:Option Bool:=
 if(!ok)=true then
  some true
 else
  some unused
theorem Ej{x:Bool}(h:Ac ok unused=some x):aP Pg GE 0 (cA M6 122) (EX .normal (qT e m m2 m3 m4 m5 m6 m7 m8 m9 x)) (Fl e ok unused m m2 m3 m4 m5 m6 m7 m8 m9):=by
 rcases aN h with⟨c190,h⟩|⟨c190,h⟩
 ·obtain rfl:=lf h
  exact bk fm (sg 3 c190<|eF .normal (qT e m m2 m3 m4 m5 m6 m7 m8 m9 true))<|by kernel_rfl
 ·obtain rfl:=lf h
  exact bk fm (sg 3 c190<|eF .normal (qT e m m2 m3 m4 m5 m6 m7 m8 m9 unused))<|by kernel_rfl
end
section
variable(e:af)(m:Bool)(m2:Bool)(m3:Int)(m4:Int)(m5:Bool)(m6:Bool)(m7:Int)(m8:Int)(m9:Bool)
def Fm:az:=aZ 156 [(1,.eptr (ac e)),(3,.bptr 1 0)] [.dead,.cells [.bool m,.bool m2,.int .i64 m3,.int .i64 m4,.bool m5,.bool m6,.int .i64 m7,.int .i64 m8,.bool m9] []] []
def e9(o:Bool):az:=aZ 156 [(1,.eptr (ac e)),(3,.bptr 1 0),(92,.bool o)] [.dead,.cells [.bool m,.bool m2,.int .i64 m3,.int .i64 m4,.bool m5,.bool m6,.int .i64 m7,.int .i64 m8,.bool m9] []] []
def Ad:Option Bool:=
 if (e.Op == 1) = true then
  (QD e.N).bind fun r199=>
  if(!r199)=true then
   some true
  else
   if(e.Op==2)=true then
    if(e.N !=0)=true then
     some (e.N !=1)
    else
     some false
   else
    some false
 else
  if(e.Op==2)=true then
   if(e.N !=0)=true then
    some (e.N !=1)
   else
    some false
  else
   some false
theorem Ek{x:Bool}(h:Ad e=some x):aP Pg GE 0 (cA M6 1982) (EX .normal (e9 e m m2 m3 m4 m5 m6 m7 m8 m9 x)) (Fm e m m2 m3 m4 m5 m6 m7 m8 m9):=by
 have p198:=fun{sc F} (r:PS sc F)=>sv (cd e)<|sv (ce e)<|r
 rcases aN h with⟨c197,h⟩|⟨c197,h⟩
 ·obtain⟨r199,br199,h⟩:=aG h
  have p201:=fun{sc F} (r:PS sc F)=>p198<|sg 4 c197<|sv (io e)<|sv (jt e)<|cH (O3 br199)<|r
  rcases aN h with⟨c200,h⟩|⟨c200,h⟩
  ·obtain rfl:=lf h
   exact bk fm (p201<|sg 10 c200<|eF .normal (e9 e m m2 m3 m4 m5 m6 m7 m8 m9 true))<|by kernel_rfl
  ·have p203:=fun{sc F} (r:PS sc F)=>p201<|sg 10 c200<|sv (cd e)<|sv (ce e)<|r
   rcases aN h with⟨c202,h⟩|⟨c202,h⟩
   ·have p205:=fun{sc F} (r:PS sc F)=>p203<|sg 14 c202<|sv (io e)<|sv (jt e)<|r
    rcases aN h with⟨c204,h⟩|⟨c204,h⟩
    ·obtain rfl:=lf h
     exact bk fm (p205<|sg 19 c204<|sv (io e)<|sv (jt e)<|eF .normal (e9 e m m2 m3 m4 m5 m6 m7 m8 m9 (e.N !=1)))<|by kernel_rfl
    ·obtain rfl:=lf h
     exact bk fm (p205<|sg 19 c204<|eF .normal (e9 e m m2 m3 m4 m5 m6 m7 m8 m9 false))<|by kernel_rfl
   ·obtain rfl:=lf h
    exact bk fm (p203<|sg 14 c202<|eF .normal (e9 e m m2 m3 m4 m5 m6 m7 m8 m9 false))<|by kernel_rfl
 ·have p207:=fun{sc F} (r:PS sc F)=>p198<|sg 4 c197<|sv (cd e)<|sv (ce e)<|r
  rcases aN h with⟨c206,h⟩|⟨c206,h⟩
  ·have p209:=fun{sc F} (r:PS sc F)=>p207<|sg 14 c206<|sv (io e)<|sv (jt e)<|r
   rcases aN h with⟨c208,h⟩|⟨c208,h⟩
   ·obtain rfl:=lf h
    exact bk fm (p209<|sg 19 c208<|sv (io e)<|sv (jt e)<|eF .normal (e9 e m m2 m3 m4 m5 m6 m7 m8 m9 (e.N !=1)))<|by kernel_rfl
   ·obtain rfl:=lf h
    exact bk fm (p209<|sg 19 c208<|eF .normal (e9 e m m2 m3 m4 m5 m6 m7 m8 m9 false))<|by kernel_rfl
  ·obtain rfl:=lf h
   exact bk fm (p207<|sg 14 c206<|eF .normal (e9 e m m2 m3 m4 m5 m6 m7 m8 m9 false))<|by kernel_rfl
end
section
variable(e:af)(t124:waB)(t125:Int)(m:Bool)(m2:Bool)(m3:Int)(m4:Int)(m5:Bool)(m6:Bool)(m7:Int)(m8:Int)(m9:Bool)(t126:Int)
def ka:az:=aZ 156 [(1,.eptr (ac e)),(124,sl ai t124),(125,.int .i64 t125),(126,.int .i64 t126)] [.dead,.cells [.bool m,.bool m2,.int .i64 m3,.int .i64 m4,.bool m5,.bool m6,.int .i64 m7,.int .i64 m8,.bool m9] []] []
def kb(o:Int⊕(Unit)):Exit:=match o with
 |(.inl _)=>.ret
 |(.inr _)=>.exit 1
def gd(o:Int⊕(Unit)):az:=match o with
 |(.inl o)=>aZ 156 [(2,.int .i64 o)] [.dead,.cells [.bool m,.bool m2,.int .i64 m3,.int .i64 m4,.bool m5,.bool m6,.int .i64 m7,.int .i64 m8,.bool m9] []] []
 |(.inr o)=>aZ 156 [(1,.eptr (ac e))] [.dead,.cells [.bool m,.bool m2,.int .i64 m3,.int .i64 m4,.bool m5,.bool m6,.int .i64 m7,.int .i64 m8,.bool m9] []] []
def w8:Option (Int⊕(Int⊕(Unit))):=
 if(decide (t126<t125))=true then
  (fO t124 t126).bind fun x217=>
  (Ai x217).bind fun r218=>
  if(r218 !=0)=true then
   some (.inr (.inl r218))
  else
   some (.inl (bZ (t126+1)))
 else
  some (.inr (.inr ()))
def Af:Option (Int⊕(Unit)):=loop (fun(zz:Int)=>w8 t124 t125 zz) t126
theorem CU{y:Int⊕(Int⊕(Unit))}(h:w8 t124 t125 t126=some y):aP Pg GE 0 (cA M6 1015) (LQ (fun(zz:Int)=>ka e t124 t125 m m2 m3 m4 m5 m6 m7 m8 m9 zz) kb (gd e m m2 m3 m4 m5 m6 m7 m8 m9) y) (ka e t124 t125 m m2 m3 m4 m5 m6 m7 m8 m9 t126):=by
 rcases aN h with⟨c216,h⟩|⟨c216,h⟩
 ·obtain⟨x217,bx217,h⟩:=aG h
  obtain⟨r218,br218,h⟩:=aG h
  have p220:=fun{sc F} (r:PS sc F)=>sg 0 c216<|sv (d4.ia (k:=.i64) bx217)<|sv (kG x217)<|sx NN<|sx (qK x217)<|sv (jZ x217 [])<|cH (Aj br218)<|r
  rcases aN h with⟨c219,h⟩|⟨c219,h⟩
  ·obtain rfl:=lf h
   have z:=p220<|sg 0 c219<|sK 0 (kb (.inl r218)) (gd e m m2 m3 m4 m5 m6 m7 m8 m9 (.inl r218)) rfl (dF (aI trivial trivial)) (aI trivial (aI (aI trivial (aI trivial (aI trivial (aI trivial (aI trivial (aI trivial (aI trivial (aI trivial (aI trivial trivial))))))))) trivial))
   exact pw (A:=fm) mixed (by intro hx;cases hx) z<|by kernel_rfl
  ·obtain rfl:=lf h
   have z:=p220<|sg 0 c219<|sK 0 .normal (ka e t124 t125 m m2 m3 m4 m5 m6 m7 m8 m9 (bZ (t126+1))) rfl (dF (aI (ba (av e)) (aI (up (aj aL t124)) (aI trivial (aI trivial trivial))))) (aI trivial (aI (aI trivial (aI trivial (aI trivial (aI trivial (aI trivial (aI trivial (aI trivial (aI trivial (aI trivial trivial))))))))) trivial))
   exact dZ (A:=fm) mixed z<|by kernel_rfl
 ·obtain rfl:=lf h
  have z:=sg 0 c216<|eF (kb (.inr ())) (gd e m m2 m3 m4 m5 m6 m7 m8 m9 (.inr ()))
  exact iZ fm (by intro hx;cases hx) z<|by kernel_rfl
theorem pO{x:Int⊕(Unit)}(h:Af t124 t125 t126=some x):aP Pg GE 0 (.loop (cA M6 1015)) (EX (kb x) (gd e m m2 m3 m4 m5 m6 m7 m8 m9 x)) (ka e t124 t125 m m2 m3 m4 m5 m6 m7 m8 m9 t126):=
 aP.loop (S:=fun(zz:Int)=>ka e t124 t125 m m2 m3 m4 m5 m6 m7 m8 m9 zz) (ex:=kb) (s:=t126) h fun zz y hy=>CU e t124 t125 m m2 m3 m4 m5 m6 m7 m8 m9 zz hy
end
section
variable(v:Int)(t137:waD)(t138:Int)(t139:Int)(m:Bool)(m2:Bool)(m3:Int)(m4:Int)(m5:Bool)(m6:Bool)(m7:Int)(m8:Int)(m9:Bool)(m10:ag)(m11:Int)(m12:ag)(m13:waB)(m14:waA)(m15:Int)(m16:ag)(m17:Int)(m18:waF)(m19:waF)
def Fo:az:=aZ 156 [(11,.bptr 2 0),(12,.int .i64 v),(137,sl au t137),(138,.int .i64 t138),(139,.int .i64 t139)] [.dead,.cells [.bool m,.bool m2,.int .i64 m3,.int .i64 m4,.bool m5,.bool m6,.int .i64 m7,.int .i64 m8,.bool m9] [],.cells [.str m10,.int .i64 m11,.str m12,sl ai m13,sl cS m14,.int .i64 m15,.str m16,.int .i64 m17,sl aw m18,sl aw m19] []] []
def qU(o:Bool):az:=aZ 156 [(12,.int .i64 v),(137,sl au t137),(138,.int .i64 t138),(139,.int .i64 t139),(153,.bool o)] [.dead,.cells [.bool m,.bool m2,.int .i64 m3,.int .i64 m4,.bool m5,.bool m6,.int .i64 m7,.int .i64 m8,.bool m9] [],.cells [.str m10,.int .i64 m11,.str m12,sl ai m13,sl cS m14,.int .i64 m15,.str m16,.int .i64 m17,sl aw m18,sl aw m19] []] []
def Ae:Option Bool:=
 if(v !=0)=true then
  (Ga (⟨m11,m12,m13,m14,(⟨m15,m16,m17,m18⟩:ax),m19⟩:am)).bind fun r226=>
  some (!r226)
 else
  some false
theorem El{x:Bool}(h:Ae v m11 m12 m13 m14 m15 m16 m17 m18 m19=some x):aP Pg GE 0 (cA M6 261102) (EX .normal (qU v t137 t138 t139 m m2 m3 m4 m5 m6 m7 m8 m9 m10 m11 m12 m13 m14 m15 m16 m17 m18 m19 x)) (Fo v t137 t138 t139 m m2 m3 m4 m5 m6 m7 m8 m9 m10 m11 m12 m13 m14 m15 m16 m17 m18 m19):=by
 rcases aN h with⟨c225,h⟩|⟨c225,h⟩
 ·obtain⟨r226,br226,h⟩:=aG h
  obtain rfl:=lf h
  exact bk fm (sg 3 c225<|sv (jZ (⟨m11,m12,m13,m14,(⟨m15,m16,m17,m18⟩:ax),m19⟩:am) [])<|cH (IZ br226)<|eF .normal (qU v t137 t138 t139 m m2 m3 m4 m5 m6 m7 m8 m9 m10 m11 m12 m13 m14 m15 m16 m17 m18 m19 (!r226)))<|by kernel_rfl
 ·obtain rfl:=lf h
  exact bk fm (sg 3 c225<|eF .normal (qU v t137 t138 t139 m m2 m3 m4 m5 m6 m7 m8 m9 m10 m11 m12 m13 m14 m15 m16 m17 m18 m19 false))<|by kernel_rfl
end
section
variable(t137:waD)(t138:Int)(m:Bool)(m2:Bool)(m3:Int)(m4:Int)(m5:Bool)(m6:Bool)(m7:Int)(m8:Int)(m9:Bool)(t139:Int)
def kc:az:=aZ 156 [(137,sl au t137),(138,.int .i64 t138),(139,.int .i64 t139)] [.dead,.cells [.bool m,.bool m2,.int .i64 m3,.int .i64 m4,.bool m5,.bool m6,.int .i64 m7,.int .i64 m8,.bool m9] []] []
def ke(o:Int⊕(Unit)):Exit:=match o with
 |(.inl _)=>.ret
 |(.inr _)=>.exit 3
def iD(o:Int⊕(Unit)):az:=match o with
 |(.inl o)=>aZ 156 [(2,.int .i64 o)] [.dead,.cells [.bool m,.bool m2,.int .i64 m3,.int .i64 m4,.bool m5,.bool m6,.int .i64 m7,.int .i64 m8,.bool m9] []] []
 |(.inr o)=>aZ 156 [] [.dead,.cells [.bool m,.bool m2,.int .i64 m3,.int .i64 m4,.bool m5,.bool m6,.int .i64 m7,.int .i64 m8,.bool m9] []] []
def w9:Option (Int⊕(Int⊕(Unit))):=
 if(decide (t139<t138))=true then
  (fO t137 t139).bind fun x223=>
  (Ai x223.Type_).bind fun r224=>
  (Ae r224 x223.Type_.Op x223.Type_.Name x223.Type_.Args x223.Type_.Names x223.Type_.Pred.Op x223.Type_.Pred.Name x223.Type_.Pred.N x223.Type_.Pred.Kids x223.Type_.Preds).bind fun o227=>
  if o227=true then
   some (.inr (.inl r224))
  else
   some (.inl (bZ (t139+1)))
 else
  some (.inr (.inr ()))
def Ag:Option (Int⊕(Unit)):=loop (fun(zz:Int)=>w9 t137 t138 zz) t139
theorem CV{y:Int⊕(Int⊕(Unit))}(h:w9 t137 t138 t139=some y):aP Pg GE 0 (cA M6 2039) (LQ (fun(zz:Int)=>kc t137 t138 m m2 m3 m4 m5 m6 m7 m8 m9 zz) ke (iD m m2 m3 m4 m5 m6 m7 m8 m9) y) (kc t137 t138 m m2 m3 m4 m5 m6 m7 m8 m9 t139):=by
 rcases aN h with⟨c222,h⟩|⟨c222,h⟩
 ·obtain⟨x223,bx223,h⟩:=aG h
  obtain⟨r224,br224,h⟩:=aG h
  obtain⟨o227,bo227,h⟩:=aG h
  have p229:=fun{sc F} (r:PS sc F)=>sg 0 c222<|sv (kU.ia (k:=.i64) bx223)<|sv (AB x223)<|sx Pm<|sx (mr x223)<|sv (jZ x223.Type_ [])<|cH (Aj br224)<|oz 0<|cU (El r224 t137 t138 t139 m m2 m3 m4 m5 m6 m7 m8 m9 x223.Name x223.Type_.Op x223.Type_.Name x223.Type_.Args x223.Type_.Names x223.Type_.Pred.Op x223.Type_.Pred.Name x223.Type_.Pred.N x223.Type_.Pred.Kids x223.Type_.Preds bo227)<|r
  rcases aN h with⟨c228,h⟩|⟨c228,h⟩
  ·obtain rfl:=lf h
   have z:=p229<|sg 0 c228<|sK 0 (ke (.inl r224)) (iD m m2 m3 m4 m5 m6 m7 m8 m9 (.inl r224)) rfl (dF (aI trivial trivial)) (aI trivial (aI (aI trivial (aI trivial (aI trivial (aI trivial (aI trivial (aI trivial (aI trivial (aI trivial (aI trivial trivial))))))))) trivial))
   exact pw (A:=fm) mixed (by intro hx;cases hx) z<|by kernel_rfl
  ·obtain rfl:=lf h
   have z:=p229<|sg 0 c228<|sK 0 .normal (kc t137 t138 m m2 m3 m4 m5 m6 m7 m8 m9 (bZ (t139+1))) rfl (dF (aI (up (aj bh t137)) (aI trivial (aI trivial trivial)))) (aI trivial (aI (aI trivial (aI trivial (aI trivial (aI trivial (aI trivial (aI trivial (aI trivial (aI trivial (aI trivial trivial))))))))) trivial))
   exact dZ (A:=fm) mixed z<|by kernel_rfl
 ·obtain rfl:=lf h
  have z:=sg 0 c222<|eF (ke (.inr ())) (iD m m2 m3 m4 m5 m6 m7 m8 m9 (.inr ()))
  exact iZ fm (by intro hx;cases hx) z<|by kernel_rfl
theorem vL{x:Int⊕(Unit)}(h:Ag t137 t138 t139=some x):aP Pg GE 0 (.loop (cA M6 2039)) (EX (ke x) (iD m m2 m3 m4 m5 m6 m7 m8 m9 x)) (kc t137 t138 m m2 m3 m4 m5 m6 m7 m8 m9 t139):=
 aP.loop (S:=fun(zz:Int)=>kc t137 t138 m m2 m3 m4 m5 m6 m7 m8 m9 zz) (ex:=ke) (s:=t139) h fun zz y hy=>CV t137 t138 m m2 m3 m4 m5 m6 m7 m8 m9 zz hy
end
def F9 (e:af):Option Int :=
 (BY e.Op).bind fun r1=>
 (Ab e r1.1.n r1.1.name r1.1.most r1.1.params r1.1.alts r1.1.types).bind fun o189=>
 (Ac r1.2 o189).bind fun o191=>
 if o191=true then
  some 1
 else
  (BX e r1.1).bind fun r194=>
  if(!r194)=true then
   some 13
  else
   (Ad e).bind fun o210=>
   if o210=true then
    some 2
   else
    (Ee e r1.1).bind fun r213=>
    if(r213 !=0)=true then
     some r213
    else
     (Af e.Types (e.Types.length:Int) 0).bind fun o221=>match o221 with
     |(.inl o221)=>
      some o221
     | (.inr o221) =>
      (Ag e.Params (e.Params.length:Int) 0).bind fun o230=>match o230 with
      |(.inl o230)=>
       some o230
      |(.inr o230)=>
       some 0
theorem IY{e:af}{r:Int}(h:F9 e=some r):CC Pg GE 66 [.agg (ac e)] (.int .i64 r) []:=by
 obtain⟨r1,br1,h⟩:=aG h
 obtain⟨o189,bo189,h⟩:=aG h
 obtain⟨o191,bo191,h⟩:=aG h
 have p193:=fun{sc F} (r:PS sc F)=>se (bK e)<|sv (cd e)<|sv (ce e)<|cH (Fp br1)<|sx Ss<|sx (co r1.1)<|oz 0<|cU (Ei e r1.2 r1.1.n r1.1.name r1.1.least r1.1.most r1.1.params r1.1.alts r1.1.typesLeast r1.1.typesMost r1.1.types bo189)<|oz 1<|cU (Ej e r1.2 o189 r1.1.n r1.1.name r1.1.least r1.1.most r1.1.params r1.1.alts r1.1.typesLeast r1.1.typesMost r1.1.types bo191)<|r
 rcases aN h with⟨c192,h⟩|⟨c192,h⟩
 ·obtain rfl:=lf h
  have z:=p193<|sg 0 c192<|en (aI (rP (.int .i64 1))<|trivial)
  exact cC fm call66 func66 (c:=M6) rfl (aI (av e) trivial) z<|by kernel_rfl
 ·obtain⟨r194,br194,h⟩:=aG h
  have p196:=fun{sc F} (r:PS sc F)=>p193<|sg 0 c192<|sv (aW e)<|sv (wA r1.1 [])<|cH (Fj br194)<|r
  rcases aN h with⟨c195,h⟩|⟨c195,h⟩
  ·obtain rfl:=lf h
   have z:=p196<|sg 0 c195<|en (aI (rP (.int .i64 13))<|trivial)
   exact cC fm call66 func66 (c:=M6) rfl (aI (av e) trivial) z<|by kernel_rfl
  ·obtain⟨o210,bo210,h⟩:=aG h
   have p212:=fun{sc F} (r:PS sc F)=>p196<|sg 0 c195<|oz 0<|cU (Ek e r1.1.n r1.1.name r1.1.least r1.1.most r1.1.params r1.1.alts r1.1.typesLeast r1.1.typesMost r1.1.types bo210)<|r
   rcases aN h with⟨c211,h⟩|⟨c211,h⟩
   ·obtain rfl:=lf h
    have z:=p212<|sg 0 c211<|en (aI (rP (.int .i64 2))<|trivial)
    exact cC fm call66 func66 (c:=M6) rfl (aI (av e) trivial) z<|by kernel_rfl
   ·obtain⟨r213,br213,h⟩:=aG h
    have p215:=fun{sc F} (r:PS sc F)=>p212<|sg 0 c211<|sv (aW e)<|sv (wA r1.1 [])<|cH (GY br213)<|r
    rcases aN h with⟨c214,h⟩|⟨c214,h⟩
    ·obtain rfl:=lf h
     have z:=p215<|sg 0 c214<|en (aI (rP (.int .i64 r213))<|trivial)
     exact cC fm call66 func66 (c:=M6) rfl (aI (av e) trivial) z<|by kernel_rfl
    ·obtain⟨o221,bo221,h⟩:=aG h
     rcases o221 with o221|o221
     ·obtain rfl:=lf h
      have z:=p215<|sg 0 c214<|sv (aJ e)<|sv (aK e)<|bW (d4.ln e.Types)<|cU (e:=.ret) (s1:=gd e r1.1.n r1.1.name r1.1.least r1.1.most r1.1.params r1.1.alts r1.1.typesLeast r1.1.typesMost r1.1.types (.inl o221)) (pO e e.Types (e.Types.length:Int) r1.1.n r1.1.name r1.1.least r1.1.most r1.1.params r1.1.alts r1.1.typesLeast r1.1.typesMost r1.1.types 0 bo221)<|en (aI (rP (.int .i64 o221))<|trivial)
      exact cC fm call66 func66 (c:=M6) rfl (aI (av e) trivial) z<|by kernel_rfl
     ·obtain⟨o230,bo230,h⟩:=aG h
      rcases o230 with o230|o230
      ·obtain rfl:=lf h
       have z:=p215<|sg 0 c214<|sv (aJ e)<|sv (aK e)<|bW (d4.ln e.Types)<|cU (e:=.exit 1) (s1:=gd e r1.1.n r1.1.name r1.1.least r1.1.most r1.1.params r1.1.alts r1.1.typesLeast r1.1.typesMost r1.1.types (.inr o221)) (pO e e.Types (e.Types.length:Int) r1.1.n r1.1.name r1.1.least r1.1.most r1.1.params r1.1.alts r1.1.typesLeast r1.1.typesMost r1.1.types 0 bo221)<|sv (bw e)<|sv (bA e)<|bW (kU.ln e.Params)<|cU (e:=.ret) (s1:=iD r1.1.n r1.1.name r1.1.least r1.1.most r1.1.params r1.1.alts r1.1.typesLeast r1.1.typesMost r1.1.types (.inl o230)) (vL e.Params (e.Params.length:Int) r1.1.n r1.1.name r1.1.least r1.1.most r1.1.params r1.1.alts r1.1.typesLeast r1.1.typesMost r1.1.types 0 bo230)<|en (aI (rP (.int .i64 o230))<|trivial)
       exact cC fm call66 func66 (c:=M6) rfl (aI (av e) trivial) z<|by kernel_rfl
      ·obtain rfl:=lf h
       have z:=p215<|sg 0 c214<|sv (aJ e)<|sv (aK e)<|bW (d4.ln e.Types)<|cU (e:=.exit 1) (s1:=gd e r1.1.n r1.1.name r1.1.least r1.1.most r1.1.params r1.1.alts r1.1.typesLeast r1.1.typesMost r1.1.types (.inr o221)) (pO e e.Types (e.Types.length:Int) r1.1.n r1.1.name r1.1.least r1.1.most r1.1.params r1.1.alts r1.1.typesLeast r1.1.typesMost r1.1.types 0 bo221)<|sv (bw e)<|sv (bA e)<|bW (kU.ln e.Params)<|cU (e:=.exit 3) (s1:=iD r1.1.n r1.1.name r1.1.least r1.1.most r1.1.params r1.1.alts r1.1.typesLeast r1.1.typesMost r1.1.types (.inr o230)) (vL e.Params (e.Params.length:Int) r1.1.n r1.1.name r1.1.least r1.1.most r1.1.params r1.1.alts r1.1.typesLeast r1.1.typesMost r1.1.types 0 bo230)<|en (aI (rP (.int .i64 0))<|trivial)
       exact cC fm call66 func66 (c:=M6) rfl (aI (av e) trivial) z<|by kernel_rfl
noncomputable def WU:Code:=f65.body.getD .skip
def Wy:List Nat:=[]
def zV(a:af)(k0:Int):Option (Bool×Int):=
 (F9 a).bind fun r1=>
 some (r1==0,r1)
theorem Ea{a:af}{k0:Int}{r:Bool×Int}(h:zV a k0=some r):C Pg GE 65 [.agg (ac a),.bptr 0 0] [] [.cells [.int .i64 k0] []] (.bool r.1) [] [.cells [.int .i64 r.2] []]:=by
 obtain⟨r1,br1,h⟩:=aG h
 obtain rfl:=lf h
 have z:=se (bK a)<|sv (aW a)<|cH (IY br1)<|ss<|ss<|en (aI (rP (.bool (r1==0)))<|aI trivial<|aI (rL [.cells [.int .i64 r1] []])<|(aI (aI trivial trivial) trivial))
 exact C.evGp (A:=Wy) mixed (m:=1) (c:=WU) rfl call65 func65 rfl z<|by kernel_rfl
section
variable(R58:fM)(e:af)(t14:waE)(t15:Int)(t16:Int)(m:Int)
def eG:az:=aZ 38 [(1,.func (.func 65) [] [.bptr 0 0]),(2,.eptr (ac e)),(14,sl ac t14),(15,.int .i64 t15),(16,.int .i64 t16)] [.cells [.int .i64 m] [],.dead] []
def eH(o:Int⊕(Int)):Exit:=match o with
 |(.inl _)=>.ret
 |(.inr _)=>.exit 0
def cR(o:Int⊕(Int)):az:=match o with
 |(.inl o)=>aZ 38 [(4,.bool false)] [.cells [.int .i64 o] [],.dead] []
 |(.inr o)=>aZ 38 [(1,.func (.func 65) [] [.bptr 0 0]),(2,.eptr (ac e))] [.cells [.int .i64 o] [],.dead] []
def nQ:Option ((Int×Int)⊕(Int⊕(Int))):=
 if(decide (t16<t15))=true then
  (fO t14 t16).bind fun x5=>
  (R58 x5 m).bind fun r6=>
  if(!r6.1)=true then
   some (.inr (.inl r6.2))
  else
   some (.inl (bZ (t16+1),r6.2))
 else
  some (.inr (.inr m))
def pV:Option (Int⊕(Int)):=loop (fun(zz:Int×Int)=>nQ R58 t14 t15 zz.1 zz.2) (t16,m)
theorem ur(hR58:fK R58){y:(Int×Int)⊕(Int⊕(Int))}(h:nQ R58 t14 t15 t16 m=some y):aP Pg GE 1 (cA Bu 119) (LQ (fun(zz:Int×Int)=>eG e t14 t15 zz.1 zz.2) eH (cR e) y) (eG e t14 t15 t16 m):=by
 rcases aN h with⟨c4,h⟩|⟨c4,h⟩
 ·obtain⟨x5,bx5,h⟩:=aG h
  obtain⟨r6,br6,h⟩:=aG h
  have p8:=fun{sc F} (r:PS sc F)=>sg 0 c4<|sv (fi.ia (k:=.i64) bx5)<|sv (aW x5)<|sx wR<|sx (jj x5)<|sv (bQ x5 [])<|si (.cg ⟨[0],[.agg (ac x5),.func (.func 65) [] [.bptr 0 0]],[],[.cells [.int .i64 m] []],[.cells [.int .i64 m] []],[.cells [.int .i64 r6.2] []],[.cells [.int .i64 r6.2] []],.bool r6.1,.bool r6.1,[]⟩) (hR58 _ _ _ br6)<|sf (aI (xR [0] (.agg (ac x5)) (av x5)) (aI (xF [0] (.func 65) [] [.bptr 0 0] [] [.bptr 0 0] trivial (aI (xB [0] 0 0 0 rfl) trivial)) trivial))<|sf (aI (aI (rB (.cells [.int .i64 m] [])) (aI (rW []) (aI (xR [0] (.int .i64 m) trivial) trivial))) trivial)<|sf (aI (aI (rW []) (aI (xR [0] (.int .i64 r6.2) trivial) trivial)) trivial)<|sf (xR [0] (.bool r6.1) trivial)<|r
  rcases aN h with⟨c7,h⟩|⟨c7,h⟩
  ·obtain rfl:=lf h
   have z:=p8<|sg 0 c7<|sK 1 (eH (.inl r6.2)) (cR e (.inl r6.2)) rfl (dF (aI trivial trivial)) (aI (aI trivial trivial) (aI trivial trivial))
   exact pw (A:=xj) mixed (by intro hx;cases hx) z<|by kernel_rfl
  ·obtain rfl:=lf h
   have z:=p8<|sg 0 c7<|sK 1 .normal (eG e t14 t15 (bZ (t16+1)) r6.2) rfl (dF (aI (aI trivial (aI (aX rfl) trivial)) (aI (ba (av e)) (aI (up (aj av t14)) (aI trivial (aI trivial trivial)))))) (aI (aI trivial trivial) (aI trivial trivial))
   exact dZ (A:=xj) mixed z<|by kernel_rfl
 ·obtain rfl:=lf h
  have z:=sg 0 c4<|eF (eH (.inr m)) (cR e (.inr m))
  exact iZ xj (by intro hx;cases hx) z<|by kernel_rfl
theorem jd(hR58:fK R58){x:Int⊕(Int)}(h:pV R58 t14 t15 t16 m=some x):aP Pg GE 1 (.loop (cA Bu 119)) (EX (eH x) (cR e x)) (eG e t14 t15 t16 m):=
 aP.loop (S:=fun(zz:Int×Int)=>eG e t14 t15 zz.1 zz.2) (ex:=eH) (s:=(t16,m)) h fun zz y hy=>ur R58 e t14 t15 zz.1 zz.2 hR58 hy
end
section
variable(R58:fM)(t26:waC)(t27:Int)(t28:Int)(m:Int)
def eI:az:=aZ 38 [(1,.func (.func 65) [] [.bptr 0 0]),(26,sl aA t26),(27,.int .i64 t27),(28,.int .i64 t28)] [.cells [.int .i64 m] [],.dead] []
def eJ(o:Int⊕(Int)):Exit:=match o with
 |(.inl _)=>.ret
 |(.inr _)=>.exit 2
def dN(o:Int⊕(Int)):az:=match o with
 |(.inl o)=>aZ 38 [(4,.bool false)] [.cells [.int .i64 o] [],.dead] []
 |(.inr o)=>aZ 38 [] [.cells [.int .i64 o] [],.dead] []
def nR:Option ((Int×Int)⊕(Int⊕(Int))):=
 if(decide (t28<t27))=true then
  (fO t26 t28).bind fun x11=>
  (R58 x11.Body m).bind fun r12=>
  if(!r12.1)=true then
   some (.inr (.inl r12.2))
  else
   some (.inl (bZ (t28+1),r12.2))
 else
  some (.inr (.inr m))
def pW:Option (Int⊕(Int)):=loop (fun(zz:Int×Int)=>nR R58 t26 t27 zz.1 zz.2) (t28,m)
theorem ut(hR58:fK R58){y:(Int×Int)⊕(Int⊕(Int))}(h:nR R58 t26 t27 t28 m=some y):aP Pg GE 1 (cA Bu 247) (LQ (fun(zz:Int×Int)=>eI t26 t27 zz.1 zz.2) eJ dN y) (eI t26 t27 t28 m):=by
 rcases aN h with⟨c10,h⟩|⟨c10,h⟩
 ·obtain⟨x11,bx11,h⟩:=aG h
  obtain⟨r12,br12,h⟩:=aG h
  have p14:=fun{sc F} (r:PS sc F)=>sg 0 c10<|sv (ea.ia (k:=.i64) bx11)<|sv (ku x11)<|sx D2<|sx (hX x11)<|sv (bQ x11.Body [])<|si (.cg ⟨[0],[.agg (ac x11.Body),.func (.func 65) [] [.bptr 0 0]],[],[.cells [.int .i64 m] []],[.cells [.int .i64 m] []],[.cells [.int .i64 r12.2] []],[.cells [.int .i64 r12.2] []],.bool r12.1,.bool r12.1,[]⟩) (hR58 _ _ _ br12)<|sf (aI (xR [0] (.agg (ac x11.Body)) (av x11.Body)) (aI (xF [0] (.func 65) [] [.bptr 0 0] [] [.bptr 0 0] trivial (aI (xB [0] 0 0 0 rfl) trivial)) trivial))<|sf (aI (aI (rB (.cells [.int .i64 m] [])) (aI (rW []) (aI (xR [0] (.int .i64 m) trivial) trivial))) trivial)<|sf (aI (aI (rW []) (aI (xR [0] (.int .i64 r12.2) trivial) trivial)) trivial)<|sf (xR [0] (.bool r12.1) trivial)<|r
  rcases aN h with⟨c13,h⟩|⟨c13,h⟩
  ·obtain rfl:=lf h
   have z:=p14<|sg 0 c13<|sK 1 (eJ (.inl r12.2)) (dN (.inl r12.2)) rfl (dF (aI trivial trivial)) (aI (aI trivial trivial) (aI trivial trivial))
   exact pw (A:=xj) mixed (by intro hx;cases hx) z<|by kernel_rfl
  ·obtain rfl:=lf h
   have z:=p14<|sg 0 c13<|sK 1 .normal (eI t26 t27 (bZ (t28+1)) r12.2) rfl (dF (aI (aI trivial (aI (aX rfl) trivial)) (aI (up (aj bL t26)) (aI trivial (aI trivial trivial))))) (aI (aI trivial trivial) (aI trivial trivial))
   exact dZ (A:=xj) mixed z<|by kernel_rfl
 ·obtain rfl:=lf h
  have z:=sg 0 c10<|eF (eJ (.inr m)) (dN (.inr m))
  exact iZ xj (by intro hx;cases hx) z<|by kernel_rfl
theorem mQ(hR58:fK R58){x:Int⊕(Int)}(h:pW R58 t26 t27 t28 m=some x):aP Pg GE 1 (.loop (cA Bu 247)) (EX (eJ x) (dN x)) (eI t26 t27 t28 m):=
 aP.loop (S:=fun(zz:Int×Int)=>eI t26 t27 zz.1 zz.2) (ex:=eJ) (s:=(t28,m)) h fun zz y hy=>ut R58 t26 t27 zz.1 zz.2 hR58 hy
end
def qt(R58:fM)(e:af)(k0:Int):Option (Bool×Int):=
 (zV e k0).bind fun r1=>
 if(!r1.1)=true then
  some (false,r1.2)
 else
  (pV R58 e.Kids (e.Kids.length:Int) 0 r1.2).bind fun o9=>match o9 with
  |(.inl o9)=>
   some (false,o9)
  | (.inr o9) =>
   (pW R58 e.Alts (e.Alts.length:Int) 0 o9).bind fun o15=>match o15 with
   |(.inl o15)=>
    some (false,o15)
   |(.inr o15)=>
    some (true,o15)
theorem xe(R58:fM)(hR58:fK R58){e:af}{k0:Int}{r:Bool×Int}(h:qt R58 e k0=some r):C Pg GE 64 [.agg (ac e),.func (.func 65) [] [.bptr 0 0]] [] [.cells [.int .i64 k0] []] (.bool r.1) [] [.cells [.int .i64 r.2] []]:=by
 obtain⟨r1,br1,h⟩:=aG h
 have p3:=fun{sc F} (r:PS sc F)=>se (bK e)<|sv (aW e)<|si (.cg ⟨[0],[.agg (ac e),.bptr 0 0],[],[.cells [.int .i64 k0] []],[.cells [.int .i64 k0] []],[.cells [.int .i64 r1.2] []],[.cells [.int .i64 r1.2] []],.bool r1.1,.bool r1.1,[]⟩) (Ea br1)<|sf (aI (xR [0] (.agg (ac e)) (av e)) (aI (xB [0] 0 0 0 rfl) trivial))<|sf (aI (aI (rB (.cells [.int .i64 k0] [])) (aI (rW []) (aI (xR [0] (.int .i64 k0) trivial) trivial))) trivial)<|sf (aI (aI (rW []) (aI (xR [0] (.int .i64 r1.2) trivial) trivial)) trivial)<|sf (xR [0] (.bool r1.1) trivial)<|r
 rcases aN h with⟨c2,h⟩|⟨c2,h⟩
 ·obtain rfl:=lf h
  have z:=p3<|sg 0 c2<|en (aI (rP (.bool false))<|aI trivial<|aI (rL [.cells [.int .i64 r1.2] []])<|(aI (aI trivial trivial) trivial))
  exact C.evGp (A:=xj) mixed (m:=1) (c:=Bu) rfl call64 func64 rfl z<|by kernel_rfl
 ·obtain⟨o9,bo9,h⟩:=aG h
  rcases o9 with o9|o9
  ·obtain rfl:=lf h
   have z:=p3<|sg 0 c2<|sv (aR e)<|sv (aS e)<|bW (fi.ln e.Kids)<|cU (e:=.ret) (s1:=cR e (.inl o9)) (jd R58 e e.Kids (e.Kids.length:Int) 0 r1.2 hR58 bo9)<|en (aI (rP (.bool false))<|aI trivial<|aI (rL [.cells [.int .i64 o9] []])<|(aI (aI trivial trivial) trivial))
   exact C.evGp (A:=xj) mixed (m:=1) (c:=Bu) rfl call64 func64 rfl z<|by kernel_rfl
  ·obtain⟨o15,bo15,h⟩:=aG h
   rcases o15 with o15|o15
   ·obtain rfl:=lf h
    have z:=p3<|sg 0 c2<|sv (aR e)<|sv (aS e)<|bW (fi.ln e.Kids)<|cU (e:=.exit 0) (s1:=cR e (.inr o9)) (jd R58 e e.Kids (e.Kids.length:Int) 0 r1.2 hR58 bo9)<|sv (aB e)<|sv (aC e)<|bW (ea.ln e.Alts)<|cU (e:=.ret) (s1:=dN (.inl o15)) (mQ R58 e.Alts (e.Alts.length:Int) 0 o9 hR58 bo15)<|en (aI (rP (.bool false))<|aI trivial<|aI (rL [.cells [.int .i64 o15] []])<|(aI (aI trivial trivial) trivial))
    exact C.evGp (A:=xj) mixed (m:=1) (c:=Bu) rfl call64 func64 rfl z<|by kernel_rfl
   ·obtain rfl:=lf h
    have z:=p3<|sg 0 c2<|sv (aR e)<|sv (aS e)<|bW (fi.ln e.Kids)<|cU (e:=.exit 0) (s1:=cR e (.inr o9)) (jd R58 e e.Kids (e.Kids.length:Int) 0 r1.2 hR58 bo9)<|sv (aB e)<|sv (aC e)<|bW (ea.ln e.Alts)<|cU (e:=.exit 2) (s1:=dN (.inr o15)) (mQ R58 e.Alts (e.Alts.length:Int) 0 o9 hR58 bo15)<|en (aI (rP (.bool true))<|aI trivial<|aI (rL [.cells [.int .i64 o15] []])<|(aI (aI trivial trivial) trivial))
    exact C.evGp (A:=xj) mixed (m:=1) (c:=Bu) rfl call64 func64 rfl z<|by kernel_rfl
def qv:((af×Int)->Option (Bool×Int))->(af×Int)->Option (Bool×Int):=fun(rec:(af×Int)->Option (Bool×Int)) (x:af×Int)=>qt (fun e k0=>rec (e,k0)) x.1 x.2
def sT(e:af)(k0:Int):Option (Bool×Int):=qc qv (e,k0)
theorem ye{e:af}{k0:Int}{r:Bool×Int}(h:sT e k0=some r):C Pg GE 64 [.agg (ac e),.func (.func 65) [] [.bptr 0 0]] [] [.cells [.int .i64 k0] []] (.bool r.1) [] [.cells [.int .i64 r.2] []]:=
 d9 (F:=qv) (M:=fun(x:af×Int) (r:Bool×Int)=>C Pg GE 64 [.agg (ac x.1),.func (.func 65) [] [.bptr 0 0]] [] [.cells [.int .i64 x.2] []] (.bool r.1) [] [.cells [.int .i64 r.2] []]) (fun rec hrec x r h=>xe _ (fun e k0 r h=>hrec (e,k0) r h) h) h
noncomputable def Vn:Code:=f17.body.getD .skip
def U6:List Nat:=[]
def yb(e:af):Option Int:=
 (yd e).bind fun r1=>
 if(decide (r1>400))=true then
  some 7
 else
  (yc e).bind fun r4=>
  if(decide (r4>40))=true then
   some 8
  else
   (sT e 0).bind fun r7=>
   some r7.2
theorem yv{e:af}{r:Int}(h:yb e=some r):CC Pg GE 17 [.agg (ac e)] (.int .i64 r) []:=by
 obtain⟨r1,br1,h⟩:=aG h
 have p3:=fun{sc F} (r:PS sc F)=>se (bK e)<|sv (aW e)<|cH (yz br1)<|r
 rcases aN h with⟨c2,h⟩|⟨c2,h⟩
 ·obtain rfl:=lf h
  have z:=p3<|sg 0 c2<|en (aI (rP (.int .i64 7))<|trivial)
  exact cC U6 call17 func17 (c:=Vn) rfl (aI (av e) trivial) z<|by kernel_rfl
 ·obtain⟨r4,br4,h⟩:=aG h
  have p6:=fun{sc F} (r:PS sc F)=>p3<|sg 0 c2<|sv (aW e)<|cH (yy br4)<|r
  rcases aN h with⟨c5,h⟩|⟨c5,h⟩
  ·obtain rfl:=lf h
   have z:=p6<|sg 0 c5<|en (aI (rP (.int .i64 8))<|trivial)
   exact cC U6 call17 func17 (c:=Vn) rfl (aI (av e) trivial) z<|by kernel_rfl
  ·obtain⟨r7,br7,h⟩:=aG h
   obtain rfl:=lf h
   have z:=p6<|sg 0 c5<|sx VP<|ss<|sv (aW e)<|si (.cg ⟨[1],[.agg (ac e),.func (.func 65) [] [.bptr 0 0]],[],[.cells [.int .i64 0] []],[.cells [.int .i64 0] []],[.cells [.int .i64 r7.2] []],[.cells [.int .i64 r7.2] []],.bool r7.1,.bool r7.1,[]⟩) (ye br7)<|sf (aI (xR [1] (.agg (ac e)) (av e)) (aI (xF [1] (.func 65) [] [.bptr 1 0] [] [.bptr 0 0] trivial (aI (xB [1] 0 1 0 rfl) trivial)) trivial))<|sf (aI (aI (rB (.cells [.int .i64 0] [])) (aI (rW []) (aI (xR [1] (.int .i64 0) trivial) trivial))) trivial)<|sf (aI (aI (rW []) (aI (xR [1] (.int .i64 r7.2) trivial) trivial)) trivial)<|sf (xR [1] (.bool r7.1) trivial)<|ss<|en (aI (rP (.int .i64 r7.2))<|trivial)
   exact cC U6 call17 func17 (c:=Vn) rfl (aI (av e) trivial) z<|by kernel_rfl
noncomputable def SP:Code:=f11.body.getD .skip
def Sz:List Nat:=[]
def Ar:Option Bool:=
 (gk ([120]:ag)).bind fun r1=>
 (gk ([120]:ag)).bind fun r2=>
 (gk ([121]:ag)).bind fun r3=>
 (As ([120]:ag) r1 (⟨5,([102]:ag),0,([r2,r3]:List af),([]:List ay),([]:List aO),([]:List am)⟩:af)).bind fun r4=>
 (gk ([120]:ag)).bind fun r5=>
 (gk ([120]:ag)).bind fun r6=>
 (As ([120]:ag) r5 r6).bind fun r7=>
 (As ([120]:ag) (⟨1,([]:ag),1,([]:List af),([]:List ay),([]:List aO),([]:List am)⟩:af) r7).bind fun r8=>
 (BW r8).bind fun r9=>
 (zj ([120]:ag) ([121]:ag)).bind fun r10=>
 (zj ([120,49]:ag) ([120]:ag)).bind fun r11=>
 (oN (⟨r4.Op,r4.Name,r4.N,r4.Kids,r4.Params,r4.Alts,r4.Types⟩:af)).bind fun r12=>
 (gj r12 ([([102]:ag),([120]:ag),([121]:ag)]:List ag)).bind fun r13=>
 if r13=true then
  (gk ([120]:ag)).bind fun r16=>
  (gk ([120,49]:ag)).bind fun r17=>
  (As ([120,49]:ag) r16 r17).bind fun r18=>
  (As ([120]:ag) (⟨1,([]:ag),1,([]:List af),([]:List ay),([]:List aO),([]:List am)⟩:af) r18).bind fun r19=>
  (HA r9 r19).bind fun r20=>
  if r20=true then
   (Ec (⟨6,([]:ag),0,([r10]:List af),([(⟨([120]:ag),(⟨0,([]:ag),([]:List am),([]:List ag),(⟨0,([]:ag),0,([]:List ax)⟩:ax),([]:List ax)⟩:am)⟩:ay)]:List ay),([]:List aO),([]:List am)⟩:af) ([121]:ag) ([120]:ag)).bind fun r23=>
   (HA r23 (⟨6,([]:ag),0,([r11]:List af),([(⟨([120,49]:ag),(⟨0,([]:ag),([]:List am),([]:List ag),(⟨0,([]:ag),0,([]:List ax)⟩:ax),([]:List ax)⟩:am)⟩:ay)]:List ay),([]:List aO),([]:List am)⟩:af)).bind fun r24=>
   if r24=true then
    (yb r4).bind fun r27=>
    if (r27 == 0) = true then
     (yb (⟨3,([105,102]:ag),0,([]:List af),([]:List ay),([]:List aO),([]:List am)⟩:af)).bind fun r30=>
     if(r30==3)=true then
      (yd r4).bind fun r33=>
      if(r33==5)=true then
       (yc r4).bind fun r36=>
       some (r36==3)
      else
       some false
     else
      some false
    else
     some false
   else
    some false
  else
   some false
 else
  some false
theorem Di{r:Bool}(h:Ar=some r):CC Pg GE 11 [] (.bool r) []:=by
 obtain⟨r1,br1,h⟩:=aG h
 obtain⟨r2,br2,h⟩:=aG h
 obtain⟨r3,br3,h⟩:=aG h
 obtain⟨r4,br4,h⟩:=aG h
 obtain⟨r5,br5,h⟩:=aG h
 obtain⟨r6,br6,h⟩:=aG h
 obtain⟨r7,br7,h⟩:=aG h
 obtain⟨r8,br8,h⟩:=aG h
 obtain⟨r9,br9,h⟩:=aG h
 obtain⟨r10,br10,h⟩:=aG h
 obtain⟨r11,br11,h⟩:=aG h
 obtain⟨r12,br12,h⟩:=aG h
 obtain⟨r13,br13,h⟩:=aG h
 have p15:=fun{sc F} (r:PS sc F)=>cH (eO br1)<|cH (eO br2)<|cH (eO br3)<|sv (fi.mk' (v:=og) j4 ([r2,r3]:List af) 2 (by kernel_rfl))<|sb (zo 5 ([102]:ag) ([r2,r3]:List af)) (zm 5 ([102]:ag) ([r2,r3]:List af))<|cH (tQ br4)<|sx wR<|sy (bI r4)<|sb (K0 1 1) (KX 1 1)<|sx wR<|sy (bI (⟨1,([]:ag),1,([]:List af),([]:List ay),([]:List aO),([]:List am)⟩:af))<|IS [0,0,2,6,15,31,0,127]<|sv (bQ (⟨1,([]:ag),1,([]:List af),([]:List ay),([]:List aO),([]:List am)⟩:af) [])<|cH (eO br5)<|cH (eO br6)<|cH (tQ br7)<|cH (tQ br8)<|cH (Fi br9)<|Xc (jj r9)<|sb (FJ ([120]:ag)) (FH ([120]:ag))<|sv (kU.mk' (v:=Am) xQ ([(⟨([120]:ag),(⟨0,([]:ag),([]:List am),([]:List ag),(⟨0,([]:ag),0,([]:List ax)⟩:ax),([]:List ax)⟩:am)⟩:ay)]:List ay) 1 (by kernel_rfl))<|cH (zk br10)<|sv (fi.mk' (v:=og) j4 ([r10]:List af) 1 (by kernel_rfl))<|sb (zp 6 ([(⟨([120]:ag),(⟨0,([]:ag),([]:List am),([]:List ag),(⟨0,([]:ag),0,([]:List ax)⟩:ax),([]:List ax)⟩:am)⟩:ay)]:List ay) ([r10]:List af)) (zn 6 ([(⟨([120]:ag),(⟨0,([]:ag),([]:List am),([]:List ag),(⟨0,([]:ag),0,([]:List ax)⟩:ax),([]:List ax)⟩:am)⟩:ay)]:List ay) ([r10]:List af))<|sx wR<|sy (bI (⟨6,([]:ag),0,([r10]:List af),([(⟨([120]:ag),(⟨0,([]:ag),([]:List am),([]:List ag),(⟨0,([]:ag),0,([]:List ax)⟩:ax),([]:List ax)⟩:am)⟩:ay)]:List ay),([]:List aO),([]:List am)⟩:af))<|sb (FJ ([120,49]:ag)) (FH ([120,49]:ag))<|sv (kU.mk' (v:=Am) xQ ([(⟨([120,49]:ag),(⟨0,([]:ag),([]:List am),([]:List ag),(⟨0,([]:ag),0,([]:List ax)⟩:ax),([]:List ax)⟩:am)⟩:ay)]:List ay) 1 (by kernel_rfl))<|cH (zk br11)<|sv (fi.mk' (v:=og) j4 ([r11]:List af) 1 (by kernel_rfl))<|sb (zp 6 ([(⟨([120,49]:ag),(⟨0,([]:ag),([]:List am),([]:List ag),(⟨0,([]:ag),0,([]:List ax)⟩:ax),([]:List ax)⟩:am)⟩:ay)]:List ay) ([r11]:List af)) (zn 6 ([(⟨([120,49]:ag),(⟨0,([]:ag),([]:List am),([]:List ag),(⟨0,([]:ag),0,([]:List ax)⟩:ax),([]:List ax)⟩:am)⟩:ay)]:List ay) ([r11]:List af))<|sx wR<|sy (bI (⟨6,([]:ag),0,([r11]:List af),([(⟨([120,49]:ag),(⟨0,([]:ag),([]:List am),([]:List ag),(⟨0,([]:ag),0,([]:List ax)⟩:ax),([]:List ax)⟩:am)⟩:ay)]:List ay),([]:List aO),([]:List am)⟩:af))<|IS [0,1,0,7,15,31,31,31,159,415,991,2047,4095,8191,16383,32767,16383,131071,262143,524287,1048575,2097151,4194303,8388607,16777215,33554431,67108863,134217727,268435455,536870911,1073741823,2147483647,4294967295,8589934591,17179869183,34359738367,68719476735,137438953471,274877906943,549755813887]<|sv (bQ (⟨r4.Op,r4.Name,r4.N,r4.Kids,r4.Params,r4.Alts,r4.Types⟩:af) [])<|cH (uf br12)<|sv (ch.mk' (v:=PVal.str) E7 ([([102]:ag),([120]:ag),([121]:ag)]:List ag) 3 (by kernel_rfl))<|cH (iA br13)<|r
 rcases aN h with⟨c14,h⟩|⟨c14,h⟩
 ·obtain⟨r16,br16,h⟩:=aG h
  obtain⟨r17,br17,h⟩:=aG h
  obtain⟨r18,br18,h⟩:=aG h
  obtain⟨r19,br19,h⟩:=aG h
  obtain⟨r20,br20,h⟩:=aG h
  have p22:=fun{sc F} (r:PS sc F)=>p15<|sg 5 c14<|sv (bQ r9 [])<|sv (bQ (⟨1,([]:ag),1,([]:List af),([]:List ay),([]:List aO),([]:List am)⟩:af) [])<|cH (eO br16)<|cH (eO br17)<|cH (tQ br18)<|cH (tQ br19)<|cH (FE br20)<|r
  rcases aN h with⟨c21,h⟩|⟨c21,h⟩
  ·obtain⟨r23,br23,h⟩:=aG h
   obtain⟨r24,br24,h⟩:=aG h
   have p26:=fun{sc F} (r:PS sc F)=>p22<|sg 14 c21<|sv (bQ (⟨6,([]:ag),0,([r10]:List af),([(⟨([120]:ag),(⟨0,([]:ag),([]:List am),([]:List ag),(⟨0,([]:ag),0,([]:List ax)⟩:ax),([]:List ax)⟩:am)⟩:ay)]:List ay),([]:List aO),([]:List am)⟩:af) [])<|cH (GX br23)<|sv (bQ (⟨6,([]:ag),0,([r11]:List af),([(⟨([120,49]:ag),(⟨0,([]:ag),([]:List am),([]:List ag),(⟨0,([]:ag),0,([]:List ax)⟩:ax),([]:List ax)⟩:am)⟩:ay)]:List ay),([]:List aO),([]:List am)⟩:af) [])<|cH (FE br24)<|r
   rcases aN h with⟨c25,h⟩|⟨c25,h⟩
   ·obtain⟨r27,br27,h⟩:=aG h
    have p29:=fun{sc F} (r:PS sc F)=>p26<|sg 20 c25<|sv (bQ r4 [])<|cH (yv br27)<|r
    rcases aN h with⟨c28,h⟩|⟨c28,h⟩
    ·obtain⟨r30,br30,h⟩:=aG h
     have p32:=fun{sc F} (r:PS sc F)=>p29<|sg 25 c28<|sb (Dr 3 ([105,102]:ag)) (Dm 3 ([105,102]:ag))<|cH (yv br30)<|r
     rcases aN h with⟨c31,h⟩|⟨c31,h⟩
     ·obtain⟨r33,br33,h⟩:=aG h
      have p35:=fun{sc F} (r:PS sc F)=>p32<|sg 30 c31<|sv (bQ r4 [])<|cH (yz br33)<|r
      rcases aN h with⟨c34,h⟩|⟨c34,h⟩
      ·obtain⟨r36,br36,h⟩:=aG h
       obtain rfl:=lf h
       have z:=p35<|sg 35 c34<|sv (bQ r4 [])<|cH (yy br36)<|en (aI (rP (.bool (r36==3)))<|trivial)
       exact cC Sz call11 func11 (c:=SP) rfl trivial z<|by kernel_rfl
      ·obtain rfl:=lf h
       have z:=p35<|sg 35 c34<|en (aI (rP (.bool false))<|trivial)
       exact cC Sz call11 func11 (c:=SP) rfl trivial z<|by kernel_rfl
     ·obtain rfl:=lf h
      have z:=p32<|sg 30 c31<|en (aI (rP (.bool false))<|trivial)
      exact cC Sz call11 func11 (c:=SP) rfl trivial z<|by kernel_rfl
    ·obtain rfl:=lf h
     have z:=p29<|sg 25 c28<|en (aI (rP (.bool false))<|trivial)
     exact cC Sz call11 func11 (c:=SP) rfl trivial z<|by kernel_rfl
   ·obtain rfl:=lf h
    have z:=p26<|sg 20 c25<|en (aI (rP (.bool false))<|trivial)
    exact cC Sz call11 func11 (c:=SP) rfl trivial z<|by kernel_rfl
  ·obtain rfl:=lf h
   have z:=p22<|sg 14 c21<|en (aI (rP (.bool false))<|trivial)
   exact cC Sz call11 func11 (c:=SP) rfl trivial z<|by kernel_rfl
 ·obtain rfl:=lf h
  have z:=p15<|sg 5 c14<|en (aI (rP (.bool false))<|trivial)
  exact cC Sz call11 func11 (c:=SP) rfl trivial z<|by kernel_rfl
noncomputable def Vp:Code:=f69.body.getD .skip
def U7:List Nat:=[16,25]
section
variable(e:af)(out:waE)(i:Int)
def kC:az:=aZ 26 [(1,.eptr (ac e)),(3,sl ac out),(4,.int .i64 i)] [.dead] [((3,0),28)]
def rU(o:waE):az:=aZ 26 [(3,sl ac o)] [.dead] [((3,0),28)]
def gZ:Option ((waE×Int)⊕(waE)):=
 if(decide (i<(e.Alts.length:Int)))=true then
  (fO e.Alts i).bind fun x4=>
  (app out ([x4.Body]:List af)).bind fun l5=>
  some (.inl (l5,bZ (i+1)))
 else
  some (.inr out)
def nv:Option waE:=loop (fun(zz:waE×Int)=>gZ e zz.1 zz.2) (out,i)
theorem Dc{y:(waE×Int)⊕(waE)}(h:gZ e out i=some y):aP Pg GE 0 (cA Vp 119) (LQ (fun(zz:waE×Int)=>kC e zz.1 zz.2) (fun _=>.exit 0) rU y) (kC e out i):=by
 have p3:=fun{sc F} (r:PS sc F)=>sv (aB e)<|sv (aC e)<|bW (ea.ln e.Alts)<|r
 rcases aN h with⟨c2,h⟩|⟨c2,h⟩
 ·obtain⟨x4,bx4,h⟩:=aG h
  obtain⟨l5,bl5,h⟩:=aG h
  obtain rfl:=lf h
  exact xO U7 (p3<|sg 0 c2<|sv (aB e)<|sv (aC e)<|sv (ea.ia (k:=.i64) bx4)<|sv (ph x4)<|sv (po x4)<|sv (fi.mk' (v:=og) j4 ([x4.Body]:List af) 1 (by kernel_rfl))<|sv (fi.ap bl5)<|eF .normal (kC e l5 (bZ (i+1))))<|by kernel_rfl
 ·obtain rfl:=lf h
  have z:=p3<|sg 0 c2<|eF (.exit 0) (rU out)
  exact iZ U7 (by intro hx;cases hx) z<|by kernel_rfl
theorem Ez{x:waE}(h:nv e out i=some x):aP Pg GE 0 (.loop (cA Vp 119)) (EX (.exit 0) (rU x)) (kC e out i):=
 aP.loop (S:=fun(zz:waE×Int)=>kC e zz.1 zz.2) (ex:=(fun _=>.exit 0)) (s:=(out,i)) h fun zz y hy=>Dc e zz.1 zz.2 hy
end
def xv(e:af):Option waE:=
 (app ([]:List af) e.Kids).bind fun l1=>
 (nv e l1 0).bind fun o6=>
 some o6
theorem Jo{e:af}{r:waE}(h:xv e=some r):CC Pg GE 69 [.agg (ac e)] (sl ac r) [(0,28)]:=by
 obtain⟨l1,bl1,h⟩:=aG h
 obtain⟨o6,bo6,h⟩:=aG h
 obtain rfl:=lf h
 have z:=se (bK e)<|sv (fi.mk' (v:=og) j4 ([]:List af) 0 (by kernel_rfl))<|sv (aR e)<|sv (aS e)<|sv (fi.ap bl1)<|cU (Ez e l1 0 bo6)<|en (aI (rP (sl ac o6))<|(aj av o6))
 exact cC U7 call69 func69 (c:=Vp) rfl (aI (av e) trivial) z<|by kernel_rfl
noncomputable def Rq:Code:=f111.body.getD .skip
def PE:List Nat:=[10,17]
section
variable(v:waA)(s:ag)(t7:Int)(t8:Int)
def nc:az:=aZ 19 [(0,sl cS v),(1,.str s),(7,.int .i64 t7),(8,.int .i64 t8)] [] []
def ng(o:Int⊕(Unit)):Exit:=match o with
 |(.inl _)=>.ret
 |(.inr _)=>.exit 0
def lq(o:Int⊕(Unit)):az:=match o with
 |(.inl o)=>aZ 19 [(4,.int .i64 o)] [] []
 |(.inr o)=>aZ 19 [] [] []
def nf:Option (Int⊕(Int⊕(Unit))):=
 if(decide (t8<t7))=true then
  (fO v t8).bind fun x2=>
  if(x2==s)=true then
   some (.inr (.inl t8))
  else
   some (.inl (bZ (t8+1)))
 else
  some (.inr (.inr ()))
def yY:Option (Int⊕(Unit)):=loop (fun(zz:Int)=>nf v s t7 zz) t8
theorem Gf{y:Int⊕(Int⊕(Unit))}(h:nf v s t7 t8=some y):aP Pg GE 0 (cA Rq 55) (LQ (fun(zz:Int)=>nc v s t7 zz) ng lq y) (nc v s t7 t8):=by
 rcases aN h with⟨c1,h⟩|⟨c1,h⟩
 ·obtain⟨x2,bx2,h⟩:=aG h
  have p4:=fun{sc F} (r:PS sc F)=>sg 0 c1<|sv (ch.ia (k:=.i64) bx2)<|sv (cy C2 (.str x2) [])<|r
  rcases aN h with⟨c3,h⟩|⟨c3,h⟩
  ·obtain rfl:=lf h
   have z:=p4<|sg 0 c3<|eF (ng (.inl t8)) (lq (.inl t8))
   exact iZ PE (by intro hx;cases hx) z<|by kernel_rfl
  ·obtain rfl:=lf h
   exact xO PE (p4<|sg 0 c3<|eF .normal (nc v s t7 (bZ (t8+1))))<|by kernel_rfl
 ·obtain rfl:=lf h
  have z:=sg 0 c1<|eF (ng (.inr ())) (lq (.inr ()))
  exact iZ PE (by intro hx;cases hx) z<|by kernel_rfl
theorem yZ{x:Int⊕(Unit)}(h:yY v s t7 t8=some x):aP Pg GE 0 (.loop (cA Rq 55)) (EX (ng x) (lq x)) (nc v s t7 t8):=
 aP.loop (S:=fun(zz:Int)=>nc v s t7 zz) (ex:=ng) (s:=t8) h fun zz y hy=>Gf v s t7 zz hy
end
def C5(a:waA)(s:ag):Option Int:=
 (yY a s (a.length:Int) 0).bind fun o5=>match o5 with
 |(.inl o5)=>
  some o5
 |(.inr o5)=>
  some (-1)
theorem LO{a:waA}{s:ag}{r:Int}(h:C5 a s=some r):CC Pg GE 111 [sl cS a,.str s] (.int .i64 r) []:=by
 obtain⟨o5,bo5,h⟩:=aG h
 rcases o5 with o5|o5
 ·obtain rfl:=lf h
  have z:=bW (ch.ln a)<|cU (e:=.ret) (s1:=lq (.inl o5)) (yZ a s (a.length:Int) 0 bo5)<|en (aI (rP (.int .i64 o5))<|trivial)
  exact cC PE call111 func111 (c:=Rq) rfl (aI (aj bD a) (aI trivial trivial)) z<|by kernel_rfl
 ·obtain rfl:=lf h
  have z:=bW (ch.ln a)<|cU (e:=.exit 0) (s1:=lq (.inr o5)) (yZ a s (a.length:Int) 0 bo5)<|en (aI (rP (.int .i64 (-1)))<|trivial)
  exact cC PE call111 func111 (c:=Rq) rfl (aI (aj bD a) (aI trivial trivial)) z<|by kernel_rfl
abbrev gv:=(af->(List (ag×Bool))->Option (Bool×(List (ag×Bool))))
abbrev gu(R:gv):Prop:=∀(e:af) (k2:(List (ag×Bool))) (r:Bool×(List (ag×Bool))),R e k2=some r->C Pg GE 64 [.agg (ac e),.func (.func 83) [] [.bptr 0 0]] [] [.cells [.bptr 1 0] [],.cells [.mapr 2] [],.map (aF PVal.bool k2)] (.bool r.1) [] [.cells [.bptr 1 0] [],.cells [.mapr 2] [],.map (aF PVal.bool r.2)]
noncomputable def V5:Code:=f83.body.getD .skip
def U9:List Nat:=[]
section
variable(v:af)(m2:(List (ag×Bool)))
def CI:az:=aZ 17 [(1,.bptr 0 0),(2,.eptr (ac v))] [.cells [.bptr 1 0] [],.cells [.mapr 2] [],.map (aF PVal.bool m2),.dead] []
def oA(o:(List (ag×Bool))):az:=aZ 17 [(1,.bptr 0 0),(2,.eptr (ac v))] [.cells [.bptr 1 0] [],.cells [.mapr 2] [],.map (aF PVal.bool o),.dead] []
def qQ:Option (((List (ag×Bool)))):=
 if(v.Op==4)=true then
  (eE ([v.Name]:List ag) m2).bind fun r3=>
  some r3
 else
  some m2
theorem Bd{x:((List (ag×Bool)))}(h:qQ v m2=some x):aP Pg GE 3 (cA V5 6) (EX .normal (oA v x)) (CI v m2):=by
 have p2:=fun{sc F} (r:PS sc F)=>sv (cd v)<|sv (ce v)<|r
 rcases aN h with⟨c1,h⟩|⟨c1,h⟩
 ·obtain⟨r3,br3,h⟩:=aG h
  obtain rfl:=lf h
  exact bk U9 (p2<|sg 0 c1<|ss<|sv (cp v)<|sv (cz v)<|sv (ch.mk' (v:=PVal.str) E7 ([v.Name]:List ag) 1 (by kernel_rfl))<|si (.cg ⟨[1,2],[.bptr 0 0,sl cS ([v.Name]:List ag)],[],[.cells [.mapr 2] [],.map (aF PVal.bool m2)],[.cells [.mapr 1] [],.map (aF PVal.bool m2)],[.cells [.mapr 2] [],.map (aF PVal.bool r3)],[.cells [.mapr 1] [],.map (aF PVal.bool r3)],.tuple [],.tuple [],[]⟩) (fx br3)<|sf (aI (xB [1,2] 0 1 0 rfl) (aI (xR [1,2] (sl cS ([v.Name]:List ag)) (aj bD ([v.Name]:List ag))) trivial))<|sf (aI (aI (rB (.cells [.mapr 2] [])) (aI (rW []) (aI (xM [1,2] 1 2 rfl) trivial))) (aI (aI (rB (.map (aF PVal.bool m2))) (aI (rM (aF PVal.bool m2)) (lX (n:=0) PVal.bool (fun x=>trivial) m2))) trivial))<|sf (aI (aI (rW []) (aI (xM [1,2] 1 2 rfl) trivial)) (aI (aI (rM (aF PVal.bool r3)) (lX (n:=0) PVal.bool (fun x=>trivial) r3)) trivial))<|sf (xR [1,2] (.tuple []) trivial)<|eF .normal (oA v r3))<|by kernel_rfl
 ·obtain rfl:=lf h
  exact bk U9 (p2<|sg 0 c1<|eF .normal (oA v m2))<|by kernel_rfl
end
def lA(a:af)(k2:(List (ag×Bool))):Option (Bool×(List (ag×Bool))):=
 (qQ a k2).bind fun o4=>
 (hZ a.Alts).bind fun r5=>
 (eE r5 o4).bind fun r6=>
 some (true,r6)
theorem Ff{a:af}{k2:(List (ag×Bool))}{r:Bool×(List (ag×Bool))}(h:lA a k2=some r):C Pg GE 83 [.agg (ac a),.bptr 0 0] [] [.cells [.bptr 1 0] [],.cells [.mapr 2] [],.map (aF PVal.bool k2)] (.bool r.1) [] [.cells [.bptr 1 0] [],.cells [.mapr 2] [],.map (aF PVal.bool r.2)]:=by
 obtain⟨o4,bo4,h⟩:=aG h
 obtain⟨r5,br5,h⟩:=aG h
 obtain⟨r6,br6,h⟩:=aG h
 obtain rfl:=lf h
 have z:=se (bK a)<|oz 0<|cU (Bd a k2 bo4)<|sk<|Sv (.dx [0,0,2,6] [] [] [])<|ss<|sv (aB a)<|sv (aC a)<|cH (pK br5)<|si (.cg ⟨[1,2],[.bptr 0 0,sl cS r5],[],[.cells [.mapr 2] [],.map (aF PVal.bool o4)],[.cells [.mapr 1] [],.map (aF PVal.bool o4)],[.cells [.mapr 2] [],.map (aF PVal.bool r6)],[.cells [.mapr 1] [],.map (aF PVal.bool r6)],.tuple [],.tuple [],[]⟩) (fx br6)<|sf (aI (xB [1,2] 0 1 0 rfl) (aI (xR [1,2] (sl cS r5) (aj bD r5)) trivial))<|sf (aI (aI (rB (.cells [.mapr 2] [])) (aI (rW []) (aI (xM [1,2] 1 2 rfl) trivial))) (aI (aI (rB (.map (aF PVal.bool o4))) (aI (rM (aF PVal.bool o4)) (lX (n:=0) PVal.bool (fun x=>trivial) o4))) trivial))<|sf (aI (aI (rW []) (aI (xM [1,2] 1 2 rfl) trivial)) (aI (aI (rM (aF PVal.bool r6)) (lX (n:=0) PVal.bool (fun x=>trivial) r6)) trivial))<|sf (xR [1,2] (.tuple []) trivial)<|en (aI (rP (.bool true))<|aI trivial<|aI (rL [.cells [.bptr 1 0] [],.cells [.mapr 2] [],.map (aF PVal.bool r6)])<|(aI (aI (aX (i:=1) (n:=3) rfl) trivial) (aI (aI (aX (i:=2) (n:=3) rfl) trivial) (aI (lX (n:=3) PVal.bool (fun x=>trivial) r6) trivial))))
 exact C.evGp (A:=U9) mixed (m:=3) (c:=V5) rfl call83 func83 rfl z<|by kernel_rfl
end Go.Proofs.YtkdahfeiedaahaaGreatDoor
