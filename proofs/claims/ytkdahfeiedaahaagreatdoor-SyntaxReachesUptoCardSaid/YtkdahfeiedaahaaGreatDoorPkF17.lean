/- PROVED: a part of the proof. Conditions: none. -/
import Derived.Test.YtkdahfeiedaahaaGreatDoorPkF16
noncomputable section
namespace Go.Proofs.YtkdahfeiedaahaaGreatDoor
open Go Go.Proofs.Tryz
set_option linter.unusedVariables false
set_option maxRecDepth 100000
noncomputable def Vq:Code:=f66.body.getD .skip
def gq:List Nat:=[122,134,154]
theorem Z66:ZF gq 66 f66 Vq:=⟨call66,func66,rfl⟩
section
variable(e:ag)(ok:Bool)(m:Bool)(m2:Bool)(m3:Int)(m4:Int)(m5:Bool)(m6:Bool)(m7:Int)(m8:Int)(m9:Bool)
def Hg:aB:=bg 156 [(1,.eptr (ae e)),(3,.bptr 1 0),(4,.bool ok)] [.dead,.cells [.bool m,.bool m2,.int .i64 m3,.int .i64 m4,.bool m5,.bool m6,.int .i64 m7,.int .i64 m8,.bool m9] []] []
def ah(o:Bool):aB:=bg 156 [(1,.eptr (ae e)),(3,.bptr 1 0),(4,.bool ok),(5,.bool o)] [.dead,.cells [.bool m,.bool m2,.int .i64 m3,.int .i64 m4,.bool m5,.bool m6,.int .i64 m7,.int .i64 m8,.bool m9] []] []
def BS:Option Bool:=
 if (!m) = true then
  if(e.N !=0)=true then
   some true
  else
   if (!m2) = true then
    if(!(e.Name==([]:af)))=true then
     some true
    else
     if (m4 == 0) = true then
      if(decide ((e.Kids.length:Int)>0))=true then
       some true
      else
       if (!m5) = true then
        if(decide ((e.Params.length:Int)>0))=true then
         some true
        else
         if (!m6) = true then
          if(decide ((e.Alts.length:Int)>0))=true then
           some true
          else
           if(!m9)=true then
            some (decide ((e.Types.length:Int)>0))
           else
            some false
         else
          if(!m9)=true then
           some (decide ((e.Types.length:Int)>0))
          else
           some false
       else
        if (!m6) = true then
         if(decide ((e.Alts.length:Int)>0))=true then
          some true
         else
          if(!m9)=true then
           some (decide ((e.Types.length:Int)>0))
          else
           some false
        else
         if(!m9)=true then
          some (decide ((e.Types.length:Int)>0))
         else
          some false
     else
      if (!m5) = true then
       if(decide ((e.Params.length:Int)>0))=true then
        some true
       else
        if (!m6) = true then
         if(decide ((e.Alts.length:Int)>0))=true then
          some true
         else
          if(!m9)=true then
           some (decide ((e.Types.length:Int)>0))
          else
           some false
        else
         if(!m9)=true then
          some (decide ((e.Types.length:Int)>0))
         else
          some false
      else
       if (!m6) = true then
        if(decide ((e.Alts.length:Int)>0))=true then
         some true
        else
         if(!m9)=true then
          some (decide ((e.Types.length:Int)>0))
         else
          some false
       else
        if(!m9)=true then
         some (decide ((e.Types.length:Int)>0))
        else
         some false
   else
    if (m4 == 0) = true then
     if(decide ((e.Kids.length:Int)>0))=true then
      some true
     else
      if (!m5) = true then
       if(decide ((e.Params.length:Int)>0))=true then
        some true
       else
        if (!m6) = true then
         if(decide ((e.Alts.length:Int)>0))=true then
          some true
         else
          if(!m9)=true then
           some (decide ((e.Types.length:Int)>0))
          else
           some false
        else
         if(!m9)=true then
          some (decide ((e.Types.length:Int)>0))
         else
          some false
      else
       if (!m6) = true then
        if(decide ((e.Alts.length:Int)>0))=true then
         some true
        else
         if(!m9)=true then
          some (decide ((e.Types.length:Int)>0))
         else
          some false
       else
        if(!m9)=true then
         some (decide ((e.Types.length:Int)>0))
        else
         some false
    else
     if (!m5) = true then
      if(decide ((e.Params.length:Int)>0))=true then
       some true
      else
       if (!m6) = true then
        if(decide ((e.Alts.length:Int)>0))=true then
         some true
        else
         if(!m9)=true then
          some (decide ((e.Types.length:Int)>0))
         else
          some false
       else
        if(!m9)=true then
         some (decide ((e.Types.length:Int)>0))
        else
         some false
     else
      if (!m6) = true then
       if(decide ((e.Alts.length:Int)>0))=true then
        some true
       else
        if(!m9)=true then
         some (decide ((e.Types.length:Int)>0))
        else
         some false
      else
       if(!m9)=true then
        some (decide ((e.Types.length:Int)>0))
       else
        some false
 else
  if (!m2) = true then
   if(!(e.Name==([]:af)))=true then
    some true
   else
    if (m4 == 0) = true then
     if(decide ((e.Kids.length:Int)>0))=true then
      some true
     else
      if (!m5) = true then
       if(decide ((e.Params.length:Int)>0))=true then
        some true
       else
        if (!m6) = true then
         if(decide ((e.Alts.length:Int)>0))=true then
          some true
         else
          if(!m9)=true then
           some (decide ((e.Types.length:Int)>0))
          else
           some false
        else
         if(!m9)=true then
          some (decide ((e.Types.length:Int)>0))
         else
          some false
      else
       if (!m6) = true then
        if(decide ((e.Alts.length:Int)>0))=true then
         some true
        else
         if(!m9)=true then
          some (decide ((e.Types.length:Int)>0))
         else
          some false
       else
        if(!m9)=true then
         some (decide ((e.Types.length:Int)>0))
        else
         some false
    else
     if (!m5) = true then
      if(decide ((e.Params.length:Int)>0))=true then
       some true
      else
       if (!m6) = true then
        if(decide ((e.Alts.length:Int)>0))=true then
         some true
        else
         if(!m9)=true then
          some (decide ((e.Types.length:Int)>0))
         else
          some false
       else
        if(!m9)=true then
         some (decide ((e.Types.length:Int)>0))
        else
         some false
     else
      if (!m6) = true then
       if(decide ((e.Alts.length:Int)>0))=true then
        some true
       else
        if(!m9)=true then
         some (decide ((e.Types.length:Int)>0))
        else
         some false
      else
       if(!m9)=true then
        some (decide ((e.Types.length:Int)>0))
       else
        some false
  else
   if (m4 == 0) = true then
    if(decide ((e.Kids.length:Int)>0))=true then
     some true
    else
     if (!m5) = true then
      if(decide ((e.Params.length:Int)>0))=true then
       some true
      else
       if (!m6) = true then
        if(decide ((e.Alts.length:Int)>0))=true then
         some true
        else
         if(!m9)=true then
          some (decide ((e.Types.length:Int)>0))
         else
          some false
       else
        if(!m9)=true then
         some (decide ((e.Types.length:Int)>0))
        else
         some false
     else
      if (!m6) = true then
       if(decide ((e.Alts.length:Int)>0))=true then
        some true
       else
        if(!m9)=true then
         some (decide ((e.Types.length:Int)>0))
        else
         some false
      else
       if(!m9)=true then
        some (decide ((e.Types.length:Int)>0))
       else
        some false
   else
    if (!m5) = true then
     if(decide ((e.Params.length:Int)>0))=true then
      some true
     else
      if (!m6) = true then
       if(decide ((e.Alts.length:Int)>0))=true then
        some true
       else
        if(!m9)=true then
         some (decide ((e.Types.length:Int)>0))
        else
         some false
      else
       if(!m9)=true then
        some (decide ((e.Types.length:Int)>0))
       else
        some false
    else
     if (!m6) = true then
      if(decide ((e.Alts.length:Int)>0))=true then
       some true
      else
       if(!m9)=true then
        some (decide ((e.Types.length:Int)>0))
       else
        some false
     else
      if(!m9)=true then
       some (decide ((e.Types.length:Int)>0))
      else
       some false
theorem F2 {x:Bool} (h:BS e m m2 m4 m5 m6 m9 = some x) :bh Pg GE 0 (cA Vq 14) (EX .normal (ah e ok m m2 m3 m4 m5 m6 m7 m8 m9 x)) (Hg e ok m m2 m3 m4 m5 m6 m7 m8 m9):=by
 rcases aQ h with⟨c2,h⟩|⟨c2,h⟩
 ·have p4:=fun{sc F} (r:PS sc F)=>ss<|sg 4 c2<|sv (ji e)<|sv (kk e)<|r
  rcases aQ h with⟨c3,h⟩|⟨c3,h⟩
  ·obtain rfl:=lf h
   exact bF gq (p4<|sg 9 c3<|eF .normal (ah e ok m m2 m3 m4 m5 m6 m7 m8 m9 true))<|by kernel_rfl
  ·have p6:=fun{sc F} (r:PS sc F)=>p4<|sg 9 c3<|ss<|r
   rcases aQ h with⟨c5,h⟩|⟨c5,h⟩
   ·have p8:=fun{sc F} (r:PS sc F)=>p6<|sg 13 c5<|sv (eJ e)<|sv (ft e)<|r
    rcases aQ h with⟨c7,h⟩|⟨c7,h⟩
    ·obtain rfl:=lf h
     exact bF gq (p8<|sg 19 c7<|eF .normal (ah e ok m m2 m3 m4 m5 m6 m7 m8 m9 true))<|by kernel_rfl
    ·have p10:=fun{sc F} (r:PS sc F)=>p8<|sg 19 c7<|ss<|r
     rcases aQ h with⟨c9,h⟩|⟨c9,h⟩
     ·have p12:=fun{sc F} (r:PS sc F)=>p10<|sg 23 c9<|sv (bw e)<|sv (bz e)<|bW (jt.ln e.Kids)<|r
      rcases aQ h with⟨c11,h⟩|⟨c11,h⟩
      ·obtain rfl:=lf h
       exact bF gq (p12<|sg 30 c11<|eF .normal (ah e ok m m2 m3 m4 m5 m6 m7 m8 m9 true))<|by kernel_rfl
      ·have p14:=fun{sc F} (r:PS sc F)=>p12<|sg 30 c11<|ss<|r
       rcases aQ h with⟨c13,h⟩|⟨c13,h⟩
       ·have p16:=fun{sc F} (r:PS sc F)=>p14<|sg 34 c13<|sv (bP e)<|sv (bQ e)<|bW (mV.ln e.Params)<|r
        rcases aQ h with⟨c15,h⟩|⟨c15,h⟩
        ·obtain rfl:=lf h
         exact bF gq (p16<|sg 41 c15<|eF .normal (ah e ok m m2 m3 m4 m5 m6 m7 m8 m9 true))<|by kernel_rfl
        ·have p18:=fun{sc F} (r:PS sc F)=>p16<|sg 41 c15<|ss<|r
         rcases aQ h with⟨c17,h⟩|⟨c17,h⟩
         ·have p20:=fun{sc F} (r:PS sc F)=>p18<|sg 45 c17<|sv (aK e)<|sv (aL e)<|bW (fO.ln e.Alts)<|r
          rcases aQ h with⟨c19,h⟩|⟨c19,h⟩
          ·obtain rfl:=lf h
           exact bF gq (p20<|sg 52 c19<|eF .normal (ah e ok m m2 m3 m4 m5 m6 m7 m8 m9 true))<|by kernel_rfl
          ·have p22:=fun{sc F} (r:PS sc F)=>p20<|sg 52 c19<|ss<|r
           rcases aQ h with⟨c21,h⟩|⟨c21,h⟩
           ·obtain rfl:=lf h
            exact bF gq (p22<|sg 56 c21<|sv (aM e)<|sv (aN e)<|bW (er.ln e.Types)<|eF .normal (ah e ok m m2 m3 m4 m5 m6 m7 m8 m9 (decide ((e.Types.length:Int)>0))))<|by kernel_rfl
           ·obtain rfl:=lf h
            exact bF gq (p22<|sg 56 c21<|eF .normal (ah e ok m m2 m3 m4 m5 m6 m7 m8 m9 false))<|by kernel_rfl
         ·have p24:=fun{sc F} (r:PS sc F)=>p18<|sg 45 c17<|ss<|r
          rcases aQ h with⟨c23,h⟩|⟨c23,h⟩
          ·obtain rfl:=lf h
           exact bF gq (p24<|sg 56 c23<|sv (aM e)<|sv (aN e)<|bW (er.ln e.Types)<|eF .normal (ah e ok m m2 m3 m4 m5 m6 m7 m8 m9 (decide ((e.Types.length:Int)>0))))<|by kernel_rfl
          ·obtain rfl:=lf h
           exact bF gq (p24<|sg 56 c23<|eF .normal (ah e ok m m2 m3 m4 m5 m6 m7 m8 m9 false))<|by kernel_rfl
       ·have p26:=fun{sc F} (r:PS sc F)=>p14<|sg 34 c13<|ss<|r
        rcases aQ h with⟨c25,h⟩|⟨c25,h⟩
        ·have p28:=fun{sc F} (r:PS sc F)=>p26<|sg 45 c25<|sv (aK e)<|sv (aL e)<|bW (fO.ln e.Alts)<|r
         rcases aQ h with⟨c27,h⟩|⟨c27,h⟩
         ·obtain rfl:=lf h
          exact bF gq (p28<|sg 52 c27<|eF .normal (ah e ok m m2 m3 m4 m5 m6 m7 m8 m9 true))<|by kernel_rfl
         ·have p30:=fun{sc F} (r:PS sc F)=>p28<|sg 52 c27<|ss<|r
          rcases aQ h with⟨c29,h⟩|⟨c29,h⟩
          ·obtain rfl:=lf h
           exact bF gq (p30<|sg 56 c29<|sv (aM e)<|sv (aN e)<|bW (er.ln e.Types)<|eF .normal (ah e ok m m2 m3 m4 m5 m6 m7 m8 m9 (decide ((e.Types.length:Int)>0))))<|by kernel_rfl
          ·obtain rfl:=lf h
           exact bF gq (p30<|sg 56 c29<|eF .normal (ah e ok m m2 m3 m4 m5 m6 m7 m8 m9 false))<|by kernel_rfl
        ·have p32:=fun{sc F} (r:PS sc F)=>p26<|sg 45 c25<|ss<|r
         rcases aQ h with⟨c31,h⟩|⟨c31,h⟩
         ·obtain rfl:=lf h
          exact bF gq (p32<|sg 56 c31<|sv (aM e)<|sv (aN e)<|bW (er.ln e.Types)<|eF .normal (ah e ok m m2 m3 m4 m5 m6 m7 m8 m9 (decide ((e.Types.length:Int)>0))))<|by kernel_rfl
         ·obtain rfl:=lf h
          exact bF gq (p32<|sg 56 c31<|eF .normal (ah e ok m m2 m3 m4 m5 m6 m7 m8 m9 false))<|by kernel_rfl
     ·have p34:=fun{sc F} (r:PS sc F)=>p10<|sg 23 c9<|ss<|r
      rcases aQ h with⟨c33,h⟩|⟨c33,h⟩
      ·have p36:=fun{sc F} (r:PS sc F)=>p34<|sg 34 c33<|sv (bP e)<|sv (bQ e)<|bW (mV.ln e.Params)<|r
       rcases aQ h with⟨c35,h⟩|⟨c35,h⟩
       ·obtain rfl:=lf h
        exact bF gq (p36<|sg 41 c35<|eF .normal (ah e ok m m2 m3 m4 m5 m6 m7 m8 m9 true))<|by kernel_rfl
       ·have p38:=fun{sc F} (r:PS sc F)=>p36<|sg 41 c35<|ss<|r
        rcases aQ h with⟨c37,h⟩|⟨c37,h⟩
        ·have p40:=fun{sc F} (r:PS sc F)=>p38<|sg 45 c37<|sv (aK e)<|sv (aL e)<|bW (fO.ln e.Alts)<|r
         rcases aQ h with⟨c39,h⟩|⟨c39,h⟩
         ·obtain rfl:=lf h
          exact bF gq (p40<|sg 52 c39<|eF .normal (ah e ok m m2 m3 m4 m5 m6 m7 m8 m9 true))<|by kernel_rfl
         ·have p42:=fun{sc F} (r:PS sc F)=>p40<|sg 52 c39<|ss<|r
          rcases aQ h with⟨c41,h⟩|⟨c41,h⟩
          ·obtain rfl:=lf h
           exact bF gq (p42<|sg 56 c41<|sv (aM e)<|sv (aN e)<|bW (er.ln e.Types)<|eF .normal (ah e ok m m2 m3 m4 m5 m6 m7 m8 m9 (decide ((e.Types.length:Int)>0))))<|by kernel_rfl
          ·obtain rfl:=lf h
           exact bF gq (p42<|sg 56 c41<|eF .normal (ah e ok m m2 m3 m4 m5 m6 m7 m8 m9 false))<|by kernel_rfl
        ·have p44:=fun{sc F} (r:PS sc F)=>p38<|sg 45 c37<|ss<|r
         rcases aQ h with⟨c43,h⟩|⟨c43,h⟩
         ·obtain rfl:=lf h
          exact bF gq (p44<|sg 56 c43<|sv (aM e)<|sv (aN e)<|bW (er.ln e.Types)<|eF .normal (ah e ok m m2 m3 m4 m5 m6 m7 m8 m9 (decide ((e.Types.length:Int)>0))))<|by kernel_rfl
         ·obtain rfl:=lf h
          exact bF gq (p44<|sg 56 c43<|eF .normal (ah e ok m m2 m3 m4 m5 m6 m7 m8 m9 false))<|by kernel_rfl
      ·have p46:=fun{sc F} (r:PS sc F)=>p34<|sg 34 c33<|ss<|r
       rcases aQ h with⟨c45,h⟩|⟨c45,h⟩
       ·have p48:=fun{sc F} (r:PS sc F)=>p46<|sg 45 c45<|sv (aK e)<|sv (aL e)<|bW (fO.ln e.Alts)<|r
        rcases aQ h with⟨c47,h⟩|⟨c47,h⟩
        ·obtain rfl:=lf h
         exact bF gq (p48<|sg 52 c47<|eF .normal (ah e ok m m2 m3 m4 m5 m6 m7 m8 m9 true))<|by kernel_rfl
        ·have p50:=fun{sc F} (r:PS sc F)=>p48<|sg 52 c47<|ss<|r
         rcases aQ h with⟨c49,h⟩|⟨c49,h⟩
         ·obtain rfl:=lf h
          exact bF gq (p50<|sg 56 c49<|sv (aM e)<|sv (aN e)<|bW (er.ln e.Types)<|eF .normal (ah e ok m m2 m3 m4 m5 m6 m7 m8 m9 (decide ((e.Types.length:Int)>0))))<|by kernel_rfl
         ·obtain rfl:=lf h
          exact bF gq (p50<|sg 56 c49<|eF .normal (ah e ok m m2 m3 m4 m5 m6 m7 m8 m9 false))<|by kernel_rfl
       ·have p52:=fun{sc F} (r:PS sc F)=>p46<|sg 45 c45<|ss<|r
        rcases aQ h with⟨c51,h⟩|⟨c51,h⟩
        ·obtain rfl:=lf h
         exact bF gq (p52<|sg 56 c51<|sv (aM e)<|sv (aN e)<|bW (er.ln e.Types)<|eF .normal (ah e ok m m2 m3 m4 m5 m6 m7 m8 m9 (decide ((e.Types.length:Int)>0))))<|by kernel_rfl
        ·obtain rfl:=lf h
         exact bF gq (p52<|sg 56 c51<|eF .normal (ah e ok m m2 m3 m4 m5 m6 m7 m8 m9 false))<|by kernel_rfl
   ·have p54:=fun{sc F} (r:PS sc F)=>p6<|sg 13 c5<|ss<|r
    rcases aQ h with⟨c53,h⟩|⟨c53,h⟩
    ·have p56:=fun{sc F} (r:PS sc F)=>p54<|sg 23 c53<|sv (bw e)<|sv (bz e)<|bW (jt.ln e.Kids)<|r
     rcases aQ h with⟨c55,h⟩|⟨c55,h⟩
     ·obtain rfl:=lf h
      exact bF gq (p56<|sg 30 c55<|eF .normal (ah e ok m m2 m3 m4 m5 m6 m7 m8 m9 true))<|by kernel_rfl
     ·have p58:=fun{sc F} (r:PS sc F)=>p56<|sg 30 c55<|ss<|r
      rcases aQ h with⟨c57,h⟩|⟨c57,h⟩
      ·have p60:=fun{sc F} (r:PS sc F)=>p58<|sg 34 c57<|sv (bP e)<|sv (bQ e)<|bW (mV.ln e.Params)<|r
       rcases aQ h with⟨c59,h⟩|⟨c59,h⟩
       ·obtain rfl:=lf h
        exact bF gq (p60<|sg 41 c59<|eF .normal (ah e ok m m2 m3 m4 m5 m6 m7 m8 m9 true))<|by kernel_rfl
       ·have p62:=fun{sc F} (r:PS sc F)=>p60<|sg 41 c59<|ss<|r
        rcases aQ h with⟨c61,h⟩|⟨c61,h⟩
        ·have p64:=fun{sc F} (r:PS sc F)=>p62<|sg 45 c61<|sv (aK e)<|sv (aL e)<|bW (fO.ln e.Alts)<|r
         rcases aQ h with⟨c63,h⟩|⟨c63,h⟩
         ·obtain rfl:=lf h
          exact bF gq (p64<|sg 52 c63<|eF .normal (ah e ok m m2 m3 m4 m5 m6 m7 m8 m9 true))<|by kernel_rfl
         ·have p66:=fun{sc F} (r:PS sc F)=>p64<|sg 52 c63<|ss<|r
          rcases aQ h with⟨c65,h⟩|⟨c65,h⟩
          ·obtain rfl:=lf h
           exact bF gq (p66<|sg 56 c65<|sv (aM e)<|sv (aN e)<|bW (er.ln e.Types)<|eF .normal (ah e ok m m2 m3 m4 m5 m6 m7 m8 m9 (decide ((e.Types.length:Int)>0))))<|by kernel_rfl
          ·obtain rfl:=lf h
           exact bF gq (p66<|sg 56 c65<|eF .normal (ah e ok m m2 m3 m4 m5 m6 m7 m8 m9 false))<|by kernel_rfl
        ·have p68:=fun{sc F} (r:PS sc F)=>p62<|sg 45 c61<|ss<|r
         rcases aQ h with⟨c67,h⟩|⟨c67,h⟩
         ·obtain rfl:=lf h
          exact bF gq (p68<|sg 56 c67<|sv (aM e)<|sv (aN e)<|bW (er.ln e.Types)<|eF .normal (ah e ok m m2 m3 m4 m5 m6 m7 m8 m9 (decide ((e.Types.length:Int)>0))))<|by kernel_rfl
         ·obtain rfl:=lf h
          exact bF gq (p68<|sg 56 c67<|eF .normal (ah e ok m m2 m3 m4 m5 m6 m7 m8 m9 false))<|by kernel_rfl
      ·have p70:=fun{sc F} (r:PS sc F)=>p58<|sg 34 c57<|ss<|r
       rcases aQ h with⟨c69,h⟩|⟨c69,h⟩
       ·have p72:=fun{sc F} (r:PS sc F)=>p70<|sg 45 c69<|sv (aK e)<|sv (aL e)<|bW (fO.ln e.Alts)<|r
        rcases aQ h with⟨c71,h⟩|⟨c71,h⟩
        ·obtain rfl:=lf h
         exact bF gq (p72<|sg 52 c71<|eF .normal (ah e ok m m2 m3 m4 m5 m6 m7 m8 m9 true))<|by kernel_rfl
        ·have p74:=fun{sc F} (r:PS sc F)=>p72<|sg 52 c71<|ss<|r
         rcases aQ h with⟨c73,h⟩|⟨c73,h⟩
         ·obtain rfl:=lf h
          exact bF gq (p74<|sg 56 c73<|sv (aM e)<|sv (aN e)<|bW (er.ln e.Types)<|eF .normal (ah e ok m m2 m3 m4 m5 m6 m7 m8 m9 (decide ((e.Types.length:Int)>0))))<|by kernel_rfl
         ·obtain rfl:=lf h
          exact bF gq (p74<|sg 56 c73<|eF .normal (ah e ok m m2 m3 m4 m5 m6 m7 m8 m9 false))<|by kernel_rfl
       ·have p76:=fun{sc F} (r:PS sc F)=>p70<|sg 45 c69<|ss<|r
        rcases aQ h with⟨c75,h⟩|⟨c75,h⟩
        ·obtain rfl:=lf h
         exact bF gq (p76<|sg 56 c75<|sv (aM e)<|sv (aN e)<|bW (er.ln e.Types)<|eF .normal (ah e ok m m2 m3 m4 m5 m6 m7 m8 m9 (decide ((e.Types.length:Int)>0))))<|by kernel_rfl
        ·obtain rfl:=lf h
         exact bF gq (p76<|sg 56 c75<|eF .normal (ah e ok m m2 m3 m4 m5 m6 m7 m8 m9 false))<|by kernel_rfl
    ·have p78:=fun{sc F} (r:PS sc F)=>p54<|sg 23 c53<|ss<|r
     rcases aQ h with⟨c77,h⟩|⟨c77,h⟩
     ·have p80:=fun{sc F} (r:PS sc F)=>p78<|sg 34 c77<|sv (bP e)<|sv (bQ e)<|bW (mV.ln e.Params)<|r
      rcases aQ h with⟨c79,h⟩|⟨c79,h⟩
      ·obtain rfl:=lf h
       exact bF gq (p80<|sg 41 c79<|eF .normal (ah e ok m m2 m3 m4 m5 m6 m7 m8 m9 true))<|by kernel_rfl
      ·have p82:=fun{sc F} (r:PS sc F)=>p80<|sg 41 c79<|ss<|r
       rcases aQ h with⟨c81,h⟩|⟨c81,h⟩
       ·have p84:=fun{sc F} (r:PS sc F)=>p82<|sg 45 c81<|sv (aK e)<|sv (aL e)<|bW (fO.ln e.Alts)<|r
        rcases aQ h with⟨c83,h⟩|⟨c83,h⟩
        ·obtain rfl:=lf h
         exact bF gq (p84<|sg 52 c83<|eF .normal (ah e ok m m2 m3 m4 m5 m6 m7 m8 m9 true))<|by kernel_rfl
        ·have p86:=fun{sc F} (r:PS sc F)=>p84<|sg 52 c83<|ss<|r
         rcases aQ h with⟨c85,h⟩|⟨c85,h⟩
         ·obtain rfl:=lf h
          exact bF gq (p86<|sg 56 c85<|sv (aM e)<|sv (aN e)<|bW (er.ln e.Types)<|eF .normal (ah e ok m m2 m3 m4 m5 m6 m7 m8 m9 (decide ((e.Types.length:Int)>0))))<|by kernel_rfl
         ·obtain rfl:=lf h
          exact bF gq (p86<|sg 56 c85<|eF .normal (ah e ok m m2 m3 m4 m5 m6 m7 m8 m9 false))<|by kernel_rfl
       ·have p88:=fun{sc F} (r:PS sc F)=>p82<|sg 45 c81<|ss<|r
        rcases aQ h with⟨c87,h⟩|⟨c87,h⟩
        ·obtain rfl:=lf h
         exact bF gq (p88<|sg 56 c87<|sv (aM e)<|sv (aN e)<|bW (er.ln e.Types)<|eF .normal (ah e ok m m2 m3 m4 m5 m6 m7 m8 m9 (decide ((e.Types.length:Int)>0))))<|by kernel_rfl
        ·obtain rfl:=lf h
         exact bF gq (p88<|sg 56 c87<|eF .normal (ah e ok m m2 m3 m4 m5 m6 m7 m8 m9 false))<|by kernel_rfl
     ·have p90:=fun{sc F} (r:PS sc F)=>p78<|sg 34 c77<|ss<|r
      rcases aQ h with⟨c89,h⟩|⟨c89,h⟩
      ·have p92:=fun{sc F} (r:PS sc F)=>p90<|sg 45 c89<|sv (aK e)<|sv (aL e)<|bW (fO.ln e.Alts)<|r
       rcases aQ h with⟨c91,h⟩|⟨c91,h⟩
       ·obtain rfl:=lf h
        exact bF gq (p92<|sg 52 c91<|eF .normal (ah e ok m m2 m3 m4 m5 m6 m7 m8 m9 true))<|by kernel_rfl
       ·have p94:=fun{sc F} (r:PS sc F)=>p92<|sg 52 c91<|ss<|r
        rcases aQ h with⟨c93,h⟩|⟨c93,h⟩
        ·obtain rfl:=lf h
         exact bF gq (p94<|sg 56 c93<|sv (aM e)<|sv (aN e)<|bW (er.ln e.Types)<|eF .normal (ah e ok m m2 m3 m4 m5 m6 m7 m8 m9 (decide ((e.Types.length:Int)>0))))<|by kernel_rfl
        ·obtain rfl:=lf h
         exact bF gq (p94<|sg 56 c93<|eF .normal (ah e ok m m2 m3 m4 m5 m6 m7 m8 m9 false))<|by kernel_rfl
      ·have p96:=fun{sc F} (r:PS sc F)=>p90<|sg 45 c89<|ss<|r
       rcases aQ h with⟨c95,h⟩|⟨c95,h⟩
       ·obtain rfl:=lf h
        exact bF gq (p96<|sg 56 c95<|sv (aM e)<|sv (aN e)<|bW (er.ln e.Types)<|eF .normal (ah e ok m m2 m3 m4 m5 m6 m7 m8 m9 (decide ((e.Types.length:Int)>0))))<|by kernel_rfl
       ·obtain rfl:=lf h
        exact bF gq (p96<|sg 56 c95<|eF .normal (ah e ok m m2 m3 m4 m5 m6 m7 m8 m9 false))<|by kernel_rfl
 ·have p98:=fun{sc F} (r:PS sc F)=>ss<|sg 4 c2<|ss<|r
  rcases aQ h with⟨c97,h⟩|⟨c97,h⟩
  ·have p100:=fun{sc F} (r:PS sc F)=>p98<|sg 13 c97<|sv (eJ e)<|sv (ft e)<|r
   rcases aQ h with⟨c99,h⟩|⟨c99,h⟩
   ·obtain rfl:=lf h
    exact bF gq (p100<|sg 19 c99<|eF .normal (ah e ok m m2 m3 m4 m5 m6 m7 m8 m9 true))<|by kernel_rfl
   ·have p102:=fun{sc F} (r:PS sc F)=>p100<|sg 19 c99<|ss<|r
    rcases aQ h with⟨c101,h⟩|⟨c101,h⟩
    ·have p104:=fun{sc F} (r:PS sc F)=>p102<|sg 23 c101<|sv (bw e)<|sv (bz e)<|bW (jt.ln e.Kids)<|r
     rcases aQ h with⟨c103,h⟩|⟨c103,h⟩
     ·obtain rfl:=lf h
      exact bF gq (p104<|sg 30 c103<|eF .normal (ah e ok m m2 m3 m4 m5 m6 m7 m8 m9 true))<|by kernel_rfl
     ·have p106:=fun{sc F} (r:PS sc F)=>p104<|sg 30 c103<|ss<|r
      rcases aQ h with⟨c105,h⟩|⟨c105,h⟩
      ·have p108:=fun{sc F} (r:PS sc F)=>p106<|sg 34 c105<|sv (bP e)<|sv (bQ e)<|bW (mV.ln e.Params)<|r
       rcases aQ h with⟨c107,h⟩|⟨c107,h⟩
       ·obtain rfl:=lf h
        exact bF gq (p108<|sg 41 c107<|eF .normal (ah e ok m m2 m3 m4 m5 m6 m7 m8 m9 true))<|by kernel_rfl
       ·have p110:=fun{sc F} (r:PS sc F)=>p108<|sg 41 c107<|ss<|r
        rcases aQ h with⟨c109,h⟩|⟨c109,h⟩
        ·have p112:=fun{sc F} (r:PS sc F)=>p110<|sg 45 c109<|sv (aK e)<|sv (aL e)<|bW (fO.ln e.Alts)<|r
         rcases aQ h with⟨c111,h⟩|⟨c111,h⟩
         ·obtain rfl:=lf h
          exact bF gq (p112<|sg 52 c111<|eF .normal (ah e ok m m2 m3 m4 m5 m6 m7 m8 m9 true))<|by kernel_rfl
         ·have p114:=fun{sc F} (r:PS sc F)=>p112<|sg 52 c111<|ss<|r
          rcases aQ h with⟨c113,h⟩|⟨c113,h⟩
          ·obtain rfl:=lf h
           exact bF gq (p114<|sg 56 c113<|sv (aM e)<|sv (aN e)<|bW (er.ln e.Types)<|eF .normal (ah e ok m m2 m3 m4 m5 m6 m7 m8 m9 (decide ((e.Types.length:Int)>0))))<|by kernel_rfl
          ·obtain rfl:=lf h
           exact bF gq (p114<|sg 56 c113<|eF .normal (ah e ok m m2 m3 m4 m5 m6 m7 m8 m9 false))<|by kernel_rfl
        ·have p116:=fun{sc F} (r:PS sc F)=>p110<|sg 45 c109<|ss<|r
         rcases aQ h with⟨c115,h⟩|⟨c115,h⟩
         ·obtain rfl:=lf h
          exact bF gq (p116<|sg 56 c115<|sv (aM e)<|sv (aN e)<|bW (er.ln e.Types)<|eF .normal (ah e ok m m2 m3 m4 m5 m6 m7 m8 m9 (decide ((e.Types.length:Int)>0))))<|by kernel_rfl
         ·obtain rfl:=lf h
          exact bF gq (p116<|sg 56 c115<|eF .normal (ah e ok m m2 m3 m4 m5 m6 m7 m8 m9 false))<|by kernel_rfl
      ·have p118:=fun{sc F} (r:PS sc F)=>p106<|sg 34 c105<|ss<|r
       rcases aQ h with⟨c117,h⟩|⟨c117,h⟩
       ·have p120:=fun{sc F} (r:PS sc F)=>p118<|sg 45 c117<|sv (aK e)<|sv (aL e)<|bW (fO.ln e.Alts)<|r
        rcases aQ h with⟨c119,h⟩|⟨c119,h⟩
        ·obtain rfl:=lf h
         exact bF gq (p120<|sg 52 c119<|eF .normal (ah e ok m m2 m3 m4 m5 m6 m7 m8 m9 true))<|by kernel_rfl
        ·have p122:=fun{sc F} (r:PS sc F)=>p120<|sg 52 c119<|ss<|r
         rcases aQ h with⟨c121,h⟩|⟨c121,h⟩
         ·obtain rfl:=lf h
          exact bF gq (p122<|sg 56 c121<|sv (aM e)<|sv (aN e)<|bW (er.ln e.Types)<|eF .normal (ah e ok m m2 m3 m4 m5 m6 m7 m8 m9 (decide ((e.Types.length:Int)>0))))<|by kernel_rfl
         ·obtain rfl:=lf h
          exact bF gq (p122<|sg 56 c121<|eF .normal (ah e ok m m2 m3 m4 m5 m6 m7 m8 m9 false))<|by kernel_rfl
       ·have p124:=fun{sc F} (r:PS sc F)=>p118<|sg 45 c117<|ss<|r
        rcases aQ h with⟨c123,h⟩|⟨c123,h⟩
        ·obtain rfl:=lf h
         exact bF gq (p124<|sg 56 c123<|sv (aM e)<|sv (aN e)<|bW (er.ln e.Types)<|eF .normal (ah e ok m m2 m3 m4 m5 m6 m7 m8 m9 (decide ((e.Types.length:Int)>0))))<|by kernel_rfl
        ·obtain rfl:=lf h
         exact bF gq (p124<|sg 56 c123<|eF .normal (ah e ok m m2 m3 m4 m5 m6 m7 m8 m9 false))<|by kernel_rfl
    ·have p126:=fun{sc F} (r:PS sc F)=>p102<|sg 23 c101<|ss<|r
     rcases aQ h with⟨c125,h⟩|⟨c125,h⟩
     ·have p128:=fun{sc F} (r:PS sc F)=>p126<|sg 34 c125<|sv (bP e)<|sv (bQ e)<|bW (mV.ln e.Params)<|r
      rcases aQ h with⟨c127,h⟩|⟨c127,h⟩
      ·obtain rfl:=lf h
       exact bF gq (p128<|sg 41 c127<|eF .normal (ah e ok m m2 m3 m4 m5 m6 m7 m8 m9 true))<|by kernel_rfl
      ·have p130:=fun{sc F} (r:PS sc F)=>p128<|sg 41 c127<|ss<|r
       rcases aQ h with⟨c129,h⟩|⟨c129,h⟩
       ·have p132:=fun{sc F} (r:PS sc F)=>p130<|sg 45 c129<|sv (aK e)<|sv (aL e)<|bW (fO.ln e.Alts)<|r
        rcases aQ h with⟨c131,h⟩|⟨c131,h⟩
        ·obtain rfl:=lf h
         exact bF gq (p132<|sg 52 c131<|eF .normal (ah e ok m m2 m3 m4 m5 m6 m7 m8 m9 true))<|by kernel_rfl
        ·have p134:=fun{sc F} (r:PS sc F)=>p132<|sg 52 c131<|ss<|r
         rcases aQ h with⟨c133,h⟩|⟨c133,h⟩
         ·obtain rfl:=lf h
          exact bF gq (p134<|sg 56 c133<|sv (aM e)<|sv (aN e)<|bW (er.ln e.Types)<|eF .normal (ah e ok m m2 m3 m4 m5 m6 m7 m8 m9 (decide ((e.Types.length:Int)>0))))<|by kernel_rfl
         ·obtain rfl:=lf h
          exact bF gq (p134<|sg 56 c133<|eF .normal (ah e ok m m2 m3 m4 m5 m6 m7 m8 m9 false))<|by kernel_rfl
       ·have p136:=fun{sc F} (r:PS sc F)=>p130<|sg 45 c129<|ss<|r
        rcases aQ h with⟨c135,h⟩|⟨c135,h⟩
        ·obtain rfl:=lf h
         exact bF gq (p136<|sg 56 c135<|sv (aM e)<|sv (aN e)<|bW (er.ln e.Types)<|eF .normal (ah e ok m m2 m3 m4 m5 m6 m7 m8 m9 (decide ((e.Types.length:Int)>0))))<|by kernel_rfl
        ·obtain rfl:=lf h
         exact bF gq (p136<|sg 56 c135<|eF .normal (ah e ok m m2 m3 m4 m5 m6 m7 m8 m9 false))<|by kernel_rfl
     ·have p138:=fun{sc F} (r:PS sc F)=>p126<|sg 34 c125<|ss<|r
      rcases aQ h with⟨c137,h⟩|⟨c137,h⟩
      ·have p140:=fun{sc F} (r:PS sc F)=>p138<|sg 45 c137<|sv (aK e)<|sv (aL e)<|bW (fO.ln e.Alts)<|r
       rcases aQ h with⟨c139,h⟩|⟨c139,h⟩
       ·obtain rfl:=lf h
        exact bF gq (p140<|sg 52 c139<|eF .normal (ah e ok m m2 m3 m4 m5 m6 m7 m8 m9 true))<|by kernel_rfl
       ·have p142:=fun{sc F} (r:PS sc F)=>p140<|sg 52 c139<|ss<|r
        rcases aQ h with⟨c141,h⟩|⟨c141,h⟩
        ·obtain rfl:=lf h
         exact bF gq (p142<|sg 56 c141<|sv (aM e)<|sv (aN e)<|bW (er.ln e.Types)<|eF .normal (ah e ok m m2 m3 m4 m5 m6 m7 m8 m9 (decide ((e.Types.length:Int)>0))))<|by kernel_rfl
        ·obtain rfl:=lf h
         exact bF gq (p142<|sg 56 c141<|eF .normal (ah e ok m m2 m3 m4 m5 m6 m7 m8 m9 false))<|by kernel_rfl
      ·have p144:=fun{sc F} (r:PS sc F)=>p138<|sg 45 c137<|ss<|r
       rcases aQ h with⟨c143,h⟩|⟨c143,h⟩
       ·obtain rfl:=lf h
        exact bF gq (p144<|sg 56 c143<|sv (aM e)<|sv (aN e)<|bW (er.ln e.Types)<|eF .normal (ah e ok m m2 m3 m4 m5 m6 m7 m8 m9 (decide ((e.Types.length:Int)>0))))<|by kernel_rfl
       ·obtain rfl:=lf h
        exact bF gq (p144<|sg 56 c143<|eF .normal (ah e ok m m2 m3 m4 m5 m6 m7 m8 m9 false))<|by kernel_rfl
  ·have p146:=fun{sc F} (r:PS sc F)=>p98<|sg 13 c97<|ss<|r
   rcases aQ h with⟨c145,h⟩|⟨c145,h⟩
   ·have p148:=fun{sc F} (r:PS sc F)=>p146<|sg 23 c145<|sv (bw e)<|sv (bz e)<|bW (jt.ln e.Kids)<|r
    rcases aQ h with⟨c147,h⟩|⟨c147,h⟩
    ·obtain rfl:=lf h
     exact bF gq (p148<|sg 30 c147<|eF .normal (ah e ok m m2 m3 m4 m5 m6 m7 m8 m9 true))<|by kernel_rfl
    ·have p150:=fun{sc F} (r:PS sc F)=>p148<|sg 30 c147<|ss<|r
     rcases aQ h with⟨c149,h⟩|⟨c149,h⟩
     ·have p152:=fun{sc F} (r:PS sc F)=>p150<|sg 34 c149<|sv (bP e)<|sv (bQ e)<|bW (mV.ln e.Params)<|r
      rcases aQ h with⟨c151,h⟩|⟨c151,h⟩
      ·obtain rfl:=lf h
       exact bF gq (p152<|sg 41 c151<|eF .normal (ah e ok m m2 m3 m4 m5 m6 m7 m8 m9 true))<|by kernel_rfl
      ·have p154:=fun{sc F} (r:PS sc F)=>p152<|sg 41 c151<|ss<|r
       rcases aQ h with⟨c153,h⟩|⟨c153,h⟩
       ·have p156:=fun{sc F} (r:PS sc F)=>p154<|sg 45 c153<|sv (aK e)<|sv (aL e)<|bW (fO.ln e.Alts)<|r
        rcases aQ h with⟨c155,h⟩|⟨c155,h⟩
        ·obtain rfl:=lf h
         exact bF gq (p156<|sg 52 c155<|eF .normal (ah e ok m m2 m3 m4 m5 m6 m7 m8 m9 true))<|by kernel_rfl
        ·have p158:=fun{sc F} (r:PS sc F)=>p156<|sg 52 c155<|ss<|r
         rcases aQ h with⟨c157,h⟩|⟨c157,h⟩
         ·obtain rfl:=lf h
          exact bF gq (p158<|sg 56 c157<|sv (aM e)<|sv (aN e)<|bW (er.ln e.Types)<|eF .normal (ah e ok m m2 m3 m4 m5 m6 m7 m8 m9 (decide ((e.Types.length:Int)>0))))<|by kernel_rfl
         ·obtain rfl:=lf h
          exact bF gq (p158<|sg 56 c157<|eF .normal (ah e ok m m2 m3 m4 m5 m6 m7 m8 m9 false))<|by kernel_rfl
       ·have p160:=fun{sc F} (r:PS sc F)=>p154<|sg 45 c153<|ss<|r
        rcases aQ h with⟨c159,h⟩|⟨c159,h⟩
        ·obtain rfl:=lf h
         exact bF gq (p160<|sg 56 c159<|sv (aM e)<|sv (aN e)<|bW (er.ln e.Types)<|eF .normal (ah e ok m m2 m3 m4 m5 m6 m7 m8 m9 (decide ((e.Types.length:Int)>0))))<|by kernel_rfl
        ·obtain rfl:=lf h
         exact bF gq (p160<|sg 56 c159<|eF .normal (ah e ok m m2 m3 m4 m5 m6 m7 m8 m9 false))<|by kernel_rfl
     ·have p162:=fun{sc F} (r:PS sc F)=>p150<|sg 34 c149<|ss<|r
      rcases aQ h with⟨c161,h⟩|⟨c161,h⟩
      ·have p164:=fun{sc F} (r:PS sc F)=>p162<|sg 45 c161<|sv (aK e)<|sv (aL e)<|bW (fO.ln e.Alts)<|r
       rcases aQ h with⟨c163,h⟩|⟨c163,h⟩
       ·obtain rfl:=lf h
        exact bF gq (p164<|sg 52 c163<|eF .normal (ah e ok m m2 m3 m4 m5 m6 m7 m8 m9 true))<|by kernel_rfl
       ·have p166:=fun{sc F} (r:PS sc F)=>p164<|sg 52 c163<|ss<|r
        rcases aQ h with⟨c165,h⟩|⟨c165,h⟩
        ·obtain rfl:=lf h
         exact bF gq (p166<|sg 56 c165<|sv (aM e)<|sv (aN e)<|bW (er.ln e.Types)<|eF .normal (ah e ok m m2 m3 m4 m5 m6 m7 m8 m9 (decide ((e.Types.length:Int)>0))))<|by kernel_rfl
        ·obtain rfl:=lf h
         exact bF gq (p166<|sg 56 c165<|eF .normal (ah e ok m m2 m3 m4 m5 m6 m7 m8 m9 false))<|by kernel_rfl
      ·have p168:=fun{sc F} (r:PS sc F)=>p162<|sg 45 c161<|ss<|r
       rcases aQ h with⟨c167,h⟩|⟨c167,h⟩
       ·obtain rfl:=lf h
        exact bF gq (p168<|sg 56 c167<|sv (aM e)<|sv (aN e)<|bW (er.ln e.Types)<|eF .normal (ah e ok m m2 m3 m4 m5 m6 m7 m8 m9 (decide ((e.Types.length:Int)>0))))<|by kernel_rfl
       ·obtain rfl:=lf h
        exact bF gq (p168<|sg 56 c167<|eF .normal (ah e ok m m2 m3 m4 m5 m6 m7 m8 m9 false))<|by kernel_rfl
   ·have p170:=fun{sc F} (r:PS sc F)=>p146<|sg 23 c145<|ss<|r
    rcases aQ h with⟨c169,h⟩|⟨c169,h⟩
    ·have p172:=fun{sc F} (r:PS sc F)=>p170<|sg 34 c169<|sv (bP e)<|sv (bQ e)<|bW (mV.ln e.Params)<|r
     rcases aQ h with⟨c171,h⟩|⟨c171,h⟩
     ·obtain rfl:=lf h
      exact bF gq (p172<|sg 41 c171<|eF .normal (ah e ok m m2 m3 m4 m5 m6 m7 m8 m9 true))<|by kernel_rfl
     ·have p174:=fun{sc F} (r:PS sc F)=>p172<|sg 41 c171<|ss<|r
      rcases aQ h with⟨c173,h⟩|⟨c173,h⟩
      ·have p176:=fun{sc F} (r:PS sc F)=>p174<|sg 45 c173<|sv (aK e)<|sv (aL e)<|bW (fO.ln e.Alts)<|r
       rcases aQ h with⟨c175,h⟩|⟨c175,h⟩
       ·obtain rfl:=lf h
        exact bF gq (p176<|sg 52 c175<|eF .normal (ah e ok m m2 m3 m4 m5 m6 m7 m8 m9 true))<|by kernel_rfl
       ·have p178:=fun{sc F} (r:PS sc F)=>p176<|sg 52 c175<|ss<|r
        rcases aQ h with⟨c177,h⟩|⟨c177,h⟩
        ·obtain rfl:=lf h
         exact bF gq (p178<|sg 56 c177<|sv (aM e)<|sv (aN e)<|bW (er.ln e.Types)<|eF .normal (ah e ok m m2 m3 m4 m5 m6 m7 m8 m9 (decide ((e.Types.length:Int)>0))))<|by kernel_rfl
        ·obtain rfl:=lf h
         exact bF gq (p178<|sg 56 c177<|eF .normal (ah e ok m m2 m3 m4 m5 m6 m7 m8 m9 false))<|by kernel_rfl
      ·have p180:=fun{sc F} (r:PS sc F)=>p174<|sg 45 c173<|ss<|r
       rcases aQ h with⟨c179,h⟩|⟨c179,h⟩
       ·obtain rfl:=lf h
        exact bF gq (p180<|sg 56 c179<|sv (aM e)<|sv (aN e)<|bW (er.ln e.Types)<|eF .normal (ah e ok m m2 m3 m4 m5 m6 m7 m8 m9 (decide ((e.Types.length:Int)>0))))<|by kernel_rfl
       ·obtain rfl:=lf h
        exact bF gq (p180<|sg 56 c179<|eF .normal (ah e ok m m2 m3 m4 m5 m6 m7 m8 m9 false))<|by kernel_rfl
    ·have p182:=fun{sc F} (r:PS sc F)=>p170<|sg 34 c169<|ss<|r
     rcases aQ h with⟨c181,h⟩|⟨c181,h⟩
     ·have p184:=fun{sc F} (r:PS sc F)=>p182<|sg 45 c181<|sv (aK e)<|sv (aL e)<|bW (fO.ln e.Alts)<|r
      rcases aQ h with⟨c183,h⟩|⟨c183,h⟩
      ·obtain rfl:=lf h
       exact bF gq (p184<|sg 52 c183<|eF .normal (ah e ok m m2 m3 m4 m5 m6 m7 m8 m9 true))<|by kernel_rfl
      ·have p186:=fun{sc F} (r:PS sc F)=>p184<|sg 52 c183<|ss<|r
       rcases aQ h with⟨c185,h⟩|⟨c185,h⟩
       ·obtain rfl:=lf h
        exact bF gq (p186<|sg 56 c185<|sv (aM e)<|sv (aN e)<|bW (er.ln e.Types)<|eF .normal (ah e ok m m2 m3 m4 m5 m6 m7 m8 m9 (decide ((e.Types.length:Int)>0))))<|by kernel_rfl
       ·obtain rfl:=lf h
        exact bF gq (p186<|sg 56 c185<|eF .normal (ah e ok m m2 m3 m4 m5 m6 m7 m8 m9 false))<|by kernel_rfl
     ·have p188:=fun{sc F} (r:PS sc F)=>p182<|sg 45 c181<|ss<|r
      rcases aQ h with⟨c187,h⟩|⟨c187,h⟩
      ·obtain rfl:=lf h
       exact bF gq (p188<|sg 56 c187<|sv (aM e)<|sv (aN e)<|bW (er.ln e.Types)<|eF .normal (ah e ok m m2 m3 m4 m5 m6 m7 m8 m9 (decide ((e.Types.length:Int)>0))))<|by kernel_rfl
      ·obtain rfl:=lf h
       exact bF gq (p188<|sg 56 c187<|eF .normal (ah e ok m m2 m3 m4 m5 m6 m7 m8 m9 false))<|by kernel_rfl
end
section
variable(e:ag)(ok:Bool)(unused:Bool)(m:Bool)(m2:Bool)(m3:Int)(m4:Int)(m5:Bool)(m6:Bool)(m7:Int)(m8:Int)(m9:Bool)
def Hh:aB:=bg 156 [(1,.eptr (ae e)),(3,.bptr 1 0),(4,.bool ok),(5,.bool unused)] [.dead,.cells [.bool m,.bool m2,.int .i64 m3,.int .i64 m4,.bool m5,.bool m6,.int .i64 m7,.int .i64 m8,.bool m9] []] []
def sB(o:Bool):aB:=bg 156 [(1,.eptr (ae e)),(3,.bptr 1 0),(81,.bool o)] [.dead,.cells [.bool m,.bool m2,.int .i64 m3,.int .i64 m4,.bool m5,.bool m6,.int .i64 m7,.int .i64 m8,.bool m9] []] []
def BT:Option Bool:=
 if(!ok)=true then
  some true
 else
  some unused
theorem F4{x:Bool}(h:BT ok unused=some x):bh Pg GE 0 (cA Vq 122) (EX .normal (sB e m m2 m3 m4 m5 m6 m7 m8 m9 x)) (Hh e ok unused m m2 m3 m4 m5 m6 m7 m8 m9):=by
 rcases aQ h with⟨c190,h⟩|⟨c190,h⟩
 ·obtain rfl:=lf h
  exact bF gq (sg 3 c190<|eF .normal (sB e m m2 m3 m4 m5 m6 m7 m8 m9 true))<|by kernel_rfl
 ·obtain rfl:=lf h
  exact bF gq (sg 3 c190<|eF .normal (sB e m m2 m3 m4 m5 m6 m7 m8 m9 unused))<|by kernel_rfl
end
section
variable(e:ag)(m:Bool)(m2:Bool)(m3:Int)(m4:Int)(m5:Bool)(m6:Bool)(m7:Int)(m8:Int)(m9:Bool)
def Hi:aB:=bg 156 [(1,.eptr (ae e)),(3,.bptr 1 0)] [.dead,.cells [.bool m,.bool m2,.int .i64 m3,.int .i64 m4,.bool m5,.bool m6,.int .i64 m7,.int .i64 m8,.bool m9] []] []
def fJ(o:Bool):aB:=bg 156 [(1,.eptr (ae e)),(3,.bptr 1 0),(92,.bool o)] [.dead,.cells [.bool m,.bool m2,.int .i64 m3,.int .i64 m4,.bool m5,.bool m6,.int .i64 m7,.int .i64 m8,.bool m9] []] []
def BU:Option Bool:=
 if (e.Op == 1) = true then
  (Uo e.N).bind fun r199=>
  if(!r199)=true then
   some true
  else
   if(e.Op==2)=true then
    if(e.N !=0)=true then
     some (e.N !=1)
    else
     some false
   else
    some false
 else
  if(e.Op==2)=true then
   if(e.N !=0)=true then
    some (e.N !=1)
   else
    some false
  else
   some false
theorem F5{x:Bool}(h:BU e=some x):bh Pg GE 0 (cA Vq 1982) (EX .normal (fJ e m m2 m3 m4 m5 m6 m7 m8 m9 x)) (Hi e m m2 m3 m4 m5 m6 m7 m8 m9):=by
 have p198:=fun{sc F} (r:PS sc F)=>sv (dZ e)<|sv (d7 e)<|r
 rcases aQ h with⟨c197,h⟩|⟨c197,h⟩
 ·obtain⟨r199,br199,h⟩:=cP h
  have p201:=fun{sc F} (r:PS sc F)=>p198<|sg 4 c197<|sv (ji e)<|sv (kk e)<|dj (Sg br199)<|r
  rcases aQ h with⟨c200,h⟩|⟨c200,h⟩
  ·obtain rfl:=lf h
   exact bF gq (p201<|sg 10 c200<|eF .normal (fJ e m m2 m3 m4 m5 m6 m7 m8 m9 true))<|by kernel_rfl
  ·have p203:=fun{sc F} (r:PS sc F)=>p201<|sg 10 c200<|sv (dZ e)<|sv (d7 e)<|r
   rcases aQ h with⟨c202,h⟩|⟨c202,h⟩
   ·have p205:=fun{sc F} (r:PS sc F)=>p203<|sg 14 c202<|sv (ji e)<|sv (kk e)<|r
    rcases aQ h with⟨c204,h⟩|⟨c204,h⟩
    ·obtain rfl:=lf h
     exact bF gq (p205<|sg 19 c204<|sv (ji e)<|sv (kk e)<|eF .normal (fJ e m m2 m3 m4 m5 m6 m7 m8 m9 (e.N !=1)))<|by kernel_rfl
    ·obtain rfl:=lf h
     exact bF gq (p205<|sg 19 c204<|eF .normal (fJ e m m2 m3 m4 m5 m6 m7 m8 m9 false))<|by kernel_rfl
   ·obtain rfl:=lf h
    exact bF gq (p203<|sg 14 c202<|eF .normal (fJ e m m2 m3 m4 m5 m6 m7 m8 m9 false))<|by kernel_rfl
 ·have p207:=fun{sc F} (r:PS sc F)=>p198<|sg 4 c197<|sv (dZ e)<|sv (d7 e)<|r
  rcases aQ h with⟨c206,h⟩|⟨c206,h⟩
  ·have p209:=fun{sc F} (r:PS sc F)=>p207<|sg 14 c206<|sv (ji e)<|sv (kk e)<|r
   rcases aQ h with⟨c208,h⟩|⟨c208,h⟩
   ·obtain rfl:=lf h
    exact bF gq (p209<|sg 19 c208<|sv (ji e)<|sv (kk e)<|eF .normal (fJ e m m2 m3 m4 m5 m6 m7 m8 m9 (e.N !=1)))<|by kernel_rfl
   ·obtain rfl:=lf h
    exact bF gq (p209<|sg 19 c208<|eF .normal (fJ e m m2 m3 m4 m5 m6 m7 m8 m9 false))<|by kernel_rfl
  ·obtain rfl:=lf h
   exact bF gq (p207<|sg 14 c206<|eF .normal (fJ e m m2 m3 m4 m5 m6 m7 m8 m9 false))<|by kernel_rfl
end
section
variable(e:ag)(t124:waB)(t125:Int)(m:Bool)(m2:Bool)(m3:Int)(m4:Int)(m5:Bool)(m6:Bool)(m7:Int)(m8:Int)(m9:Bool)(t126:Int)
def nT:aB:=bg 156 [(1,.eptr (ae e)),(124,sl ai t124),(125,.int .i64 t125),(126,.int .i64 t126)] [.dead,.cells [.bool m,.bool m2,.int .i64 m3,.int .i64 m4,.bool m5,.bool m6,.int .i64 m7,.int .i64 m8,.bool m9] []] []
def nU(o:Int⊕(Unit)):Exit:=match o with
 |(.inl _)=>.ret
 |(.inr _)=>.exit 1
def gQ(o:Int⊕(Unit)):aB:=match o with
 |(.inl o)=>bg 156 [(2,.int .i64 o)] [.dead,.cells [.bool m,.bool m2,.int .i64 m3,.int .i64 m4,.bool m5,.bool m6,.int .i64 m7,.int .i64 m8,.bool m9] []] []
 |(.inr o)=>bg 156 [(1,.eptr (ae e))] [.dead,.cells [.bool m,.bool m2,.int .i64 m3,.int .i64 m4,.bool m5,.bool m6,.int .i64 m7,.int .i64 m8,.bool m9] []] []
def yN:Option (Int⊕(Int⊕(Unit))):=
 if(decide (t126<t125))=true then
  (gn t124 t126).bind fun x217=>
  (B3 x217).bind fun r218=>
  if(r218 !=0)=true then
   some (.inr (.inl r218))
  else
   some (.inl (bV (t126+1)))
 else
  some (.inr (.inr ()))
def BW:Option (Int⊕(Unit)):=loop (fun(zz:Int)=>yN t124 t125 zz) t126
theorem Ev{y:Int⊕(Int⊕(Unit))}(h:yN t124 t125 t126=some y):bh Pg GE 0 (cA Vq 1015) (LQ (fun(zz:Int)=>nT e t124 t125 m m2 m3 m4 m5 m6 m7 m8 m9 zz) nU (gQ e m m2 m3 m4 m5 m6 m7 m8 m9) y) (nT e t124 t125 m m2 m3 m4 m5 m6 m7 m8 m9 t126):=by
 rcases aQ h with⟨c216,h⟩|⟨c216,h⟩
 ·obtain⟨x217,bx217,r218,br218,h⟩:=Zb2 h
  have p220:=fun{sc F} (r:PS sc F)=>sg 0 c216<|sv (er.ia (k:=.i64) bx217)<|sv (lT x217)<|sx Ql<|sx (sa x217)<|sv (kW x217 [])<|dj (B4 br218)<|r
  rcases aQ h with⟨c219,h⟩|⟨c219,h⟩
  ·obtain rfl:=lf h
   have z:=p220<|sg 0 c219<|ue 0 (nU (.inl r218)) (gQ e m m2 m3 m4 m5 m6 m7 m8 m9 (.inl r218)) rfl (dU (aI trivial trivial)) (aI trivial (aI (aI trivial (aI trivial (aI trivial (aI trivial (aI trivial (aI trivial (aI trivial (aI trivial (aI trivial trivial))))))))) trivial))
   exact rY (A:=gq) mixed (Zn rfl) z<|by kernel_rfl
  ·obtain rfl:=lf h
   have z:=p220<|sg 0 c219<|ue 0 .normal (nT e t124 t125 m m2 m3 m4 m5 m6 m7 m8 m9 (bV (t126+1))) rfl (dU (aI (aZ (ay e)) (aI (up (ak aE t124)) (aI trivial (aI trivial trivial))))) (aI trivial (aI (aI trivial (aI trivial (aI trivial (aI trivial (aI trivial (aI trivial (aI trivial (aI trivial (aI trivial trivial))))))))) trivial))
   exact ed (A:=gq) mixed z<|by kernel_rfl
 ·obtain rfl:=lf h
  have z:=sg 0 c216<|eF (nU (.inr ())) (gQ e m m2 m3 m4 m5 m6 m7 m8 m9 (.inr ()))
  exact jy gq (Zn rfl) z<|by kernel_rfl
theorem qP{x:Int⊕(Unit)}(h:BW t124 t125 t126=some x):bh Pg GE 0 (.loop (cA Vq 1015)) (EX (nU x) (gQ e m m2 m3 m4 m5 m6 m7 m8 m9 x)) (nT e t124 t125 m m2 m3 m4 m5 m6 m7 m8 m9 t126):=
 ZL h fun _ _ hy=>Ev _ _ _ _ _ _ _ _ _ _ _ _ _ hy
end
section
variable(v:Int)(t137:waE)(t138:Int)(t139:Int)(m:Bool)(m2:Bool)(m3:Int)(m4:Int)(m5:Bool)(m6:Bool)(m7:Int)(m8:Int)(m9:Bool)(m10:af)(m11:Int)(m12:af)(m13:waB)(m14:waA)(m15:Int)(m16:af)(m17:Int)(m18:waC)(m19:waC)
def Hj:aB:=bg 156 [(11,.bptr 2 0),(12,.int .i64 v),(137,sl aw t137),(138,.int .i64 t138),(139,.int .i64 t139)] [.dead,.cells [.bool m,.bool m2,.int .i64 m3,.int .i64 m4,.bool m5,.bool m6,.int .i64 m7,.int .i64 m8,.bool m9] [],.cells [.str m10,.int .i64 m11,.str m12,sl ai m13,sl cS m14,.int .i64 m15,.str m16,.int .i64 m17,sl al m18,sl al m19] []] []
def sC(o:Bool):aB:=bg 156 [(12,.int .i64 v),(137,sl aw t137),(138,.int .i64 t138),(139,.int .i64 t139),(153,.bool o)] [.dead,.cells [.bool m,.bool m2,.int .i64 m3,.int .i64 m4,.bool m5,.bool m6,.int .i64 m7,.int .i64 m8,.bool m9] [],.cells [.str m10,.int .i64 m11,.str m12,sl ai m13,sl cS m14,.int .i64 m15,.str m16,.int .i64 m17,sl al m18,sl al m19] []] []
def BV:Option Bool:=
 if(v !=0)=true then
  (H1 (⟨m11,m12,m13,m14,(⟨m15,m16,m17,m18⟩:am),m19⟩:aj)).bind fun r226=>
  some (!r226)
 else
  some false
theorem F6{x:Bool}(h:BV v m11 m12 m13 m14 m15 m16 m17 m18 m19=some x):bh Pg GE 0 (cA Vq 261102) (EX .normal (sC v t137 t138 t139 m m2 m3 m4 m5 m6 m7 m8 m9 m10 m11 m12 m13 m14 m15 m16 m17 m18 m19 x)) (Hj v t137 t138 t139 m m2 m3 m4 m5 m6 m7 m8 m9 m10 m11 m12 m13 m14 m15 m16 m17 m18 m19):=by
 rcases aQ h with⟨c225,h⟩|⟨c225,h⟩
 ·obtain⟨r226,br226,h⟩:=cP h
  obtain rfl:=lf h
  exact bF gq (sg 3 c225<|sv (kW (⟨m11,m12,m13,m14,(⟨m15,m16,m17,m18⟩:am),m19⟩:aj) [])<|dj (KA br226)<|eF .normal (sC v t137 t138 t139 m m2 m3 m4 m5 m6 m7 m8 m9 m10 m11 m12 m13 m14 m15 m16 m17 m18 m19 (!r226)))<|by kernel_rfl
 ·obtain rfl:=lf h
  exact bF gq (sg 3 c225<|eF .normal (sC v t137 t138 t139 m m2 m3 m4 m5 m6 m7 m8 m9 m10 m11 m12 m13 m14 m15 m16 m17 m18 m19 false))<|by kernel_rfl
end
section
variable(t137:waE)(t138:Int)(m:Bool)(m2:Bool)(m3:Int)(m4:Int)(m5:Bool)(m6:Bool)(m7:Int)(m8:Int)(m9:Bool)(t139:Int)
def nV:aB:=bg 156 [(137,sl aw t137),(138,.int .i64 t138),(139,.int .i64 t139)] [.dead,.cells [.bool m,.bool m2,.int .i64 m3,.int .i64 m4,.bool m5,.bool m6,.int .i64 m7,.int .i64 m8,.bool m9] []] []
def nW(o:Int⊕(Unit)):Exit:=match o with
 |(.inl _)=>.ret
 |(.inr _)=>.exit 3
def jv(o:Int⊕(Unit)):aB:=match o with
 |(.inl o)=>bg 156 [(2,.int .i64 o)] [.dead,.cells [.bool m,.bool m2,.int .i64 m3,.int .i64 m4,.bool m5,.bool m6,.int .i64 m7,.int .i64 m8,.bool m9] []] []
 |(.inr o)=>bg 156 [] [.dead,.cells [.bool m,.bool m2,.int .i64 m3,.int .i64 m4,.bool m5,.bool m6,.int .i64 m7,.int .i64 m8,.bool m9] []] []
def yO:Option (Int⊕(Int⊕(Unit))):=
 if(decide (t139<t138))=true then
  (gn t137 t139).bind fun x223=>
  (B3 x223.Type_).bind fun r224=>
  (BV r224 x223.Type_.Op x223.Type_.Name x223.Type_.Args x223.Type_.Names x223.Type_.Pred.Op x223.Type_.Pred.Name x223.Type_.Pred.N x223.Type_.Pred.Kids x223.Type_.Preds).bind fun o227=>
  if o227=true then
   some (.inr (.inl r224))
  else
   some (.inl (bV (t139+1)))
 else
  some (.inr (.inr ()))
def BX:Option (Int⊕(Unit)):=loop (fun(zz:Int)=>yO t137 t138 zz) t139
theorem Ew{y:Int⊕(Int⊕(Unit))}(h:yO t137 t138 t139=some y):bh Pg GE 0 (cA Vq 2039) (LQ (fun(zz:Int)=>nV t137 t138 m m2 m3 m4 m5 m6 m7 m8 m9 zz) nW (jv m m2 m3 m4 m5 m6 m7 m8 m9) y) (nV t137 t138 m m2 m3 m4 m5 m6 m7 m8 m9 t139):=by
 rcases aQ h with⟨c222,h⟩|⟨c222,h⟩
 ·obtain⟨x223,bx223,r224,br224,o227,bo227,h⟩:=Zb3 h
  have p229:=fun{sc F} (r:PS sc F)=>sg 0 c222<|sv (mV.ia (k:=.i64) bx223)<|sv (Co x223)<|sx SC<|sx (nl x223)<|sv (kW x223.Type_ [])<|dj (B4 br224)<|rh 0<|du (F6 r224 t137 t138 t139 m m2 m3 m4 m5 m6 m7 m8 m9 x223.Name x223.Type_.Op x223.Type_.Name x223.Type_.Args x223.Type_.Names x223.Type_.Pred.Op x223.Type_.Pred.Name x223.Type_.Pred.N x223.Type_.Pred.Kids x223.Type_.Preds bo227)<|r
  rcases aQ h with⟨c228,h⟩|⟨c228,h⟩
  ·obtain rfl:=lf h
   have z:=p229<|sg 0 c228<|ue 0 (nW (.inl r224)) (jv m m2 m3 m4 m5 m6 m7 m8 m9 (.inl r224)) rfl (dU (aI trivial trivial)) (aI trivial (aI (aI trivial (aI trivial (aI trivial (aI trivial (aI trivial (aI trivial (aI trivial (aI trivial (aI trivial trivial))))))))) trivial))
   exact rY (A:=gq) mixed (Zn rfl) z<|by kernel_rfl
  ·obtain rfl:=lf h
   have z:=p229<|sg 0 c228<|ue 0 .normal (nV t137 t138 m m2 m3 m4 m5 m6 m7 m8 m9 (bV (t139+1))) rfl (dU (aI (up (ak aY t137)) (aI trivial (aI trivial trivial)))) (aI trivial (aI (aI trivial (aI trivial (aI trivial (aI trivial (aI trivial (aI trivial (aI trivial (aI trivial (aI trivial trivial))))))))) trivial))
   exact ed (A:=gq) mixed z<|by kernel_rfl
 ·obtain rfl:=lf h
  have z:=sg 0 c222<|eF (nW (.inr ())) (jv m m2 m3 m4 m5 m6 m7 m8 m9 (.inr ()))
  exact jy gq (Zn rfl) z<|by kernel_rfl
theorem xr{x:Int⊕(Unit)}(h:BX t137 t138 t139=some x):bh Pg GE 0 (.loop (cA Vq 2039)) (EX (nW x) (jv m m2 m3 m4 m5 m6 m7 m8 m9 x)) (nV t137 t138 m m2 m3 m4 m5 m6 m7 m8 m9 t139):=
 ZL h fun _ _ hy=>Ew _ _ _ _ _ _ _ _ _ _ _ _ hy
end
def HZ (e:ag):Option Int :=
 (DA e.Op).bind fun r1=>
 (BS e r1.1.n r1.1.name r1.1.most r1.1.params r1.1.alts r1.1.types).bind fun o189=>
 (BT r1.2 o189).bind fun o191=>
 if o191=true then
  some 1
 else
  (Dz e r1.1).bind fun r194=>
  if(!r194)=true then
   some 13
  else
   (BU e).bind fun o210=>
   if o210=true then
    some 2
   else
    (FW e r1.1).bind fun r213=>
    if(r213 !=0)=true then
     some r213
    else
     (BW e.Types (e.Types.length:Int) 0).bind fun o221=>match o221 with
     |(.inl o221)=>
      some o221
     | (.inr o221) =>
      (BX e.Params (e.Params.length:Int) 0).bind fun o230=>match o230 with
      |(.inl o230)=>
       some o230
      |(.inr o230)=>
       some 0
theorem Kz{e:ag}{r:Int}(h:HZ e=some r):CC Pg GE 66 [.agg (ae e)] (.int .i64 r) []:=by
 obtain⟨r1,br1,o189,bo189,o191,bo191,h⟩:=Zb3 h
 have p193:=fun{sc F} (r:PS sc F)=>se (dy e)<|sv (dZ e)<|sv (d7 e)<|dj (Hk br1)<|sx Wy<|sx (cD r1.1)<|rh 0<|du (F2 e r1.2 r1.1.n r1.1.name r1.1.least r1.1.most r1.1.params r1.1.alts r1.1.typesLeast r1.1.typesMost r1.1.types bo189)<|rh 1<|du (F4 e r1.2 o189 r1.1.n r1.1.name r1.1.least r1.1.most r1.1.params r1.1.alts r1.1.typesLeast r1.1.typesMost r1.1.types bo191)<|r
 rcases aQ h with⟨c192,h⟩|⟨c192,h⟩
 ·obtain rfl:=lf h
  have z:=p193<|sg 0 c192<|en (aI (rP (.int .i64 1))<|trivial)
  exact Z66.v (aI (ay e) trivial) z<|by kernel_rfl
 ·obtain⟨r194,br194,h⟩:=cP h
  have p196:=fun{sc F} (r:PS sc F)=>p193<|sg 0 c192<|sv (b9 e)<|sv (yq r1.1 [])<|dj (Hf br194)<|r
  rcases aQ h with⟨c195,h⟩|⟨c195,h⟩
  ·obtain rfl:=lf h
   have z:=p196<|sg 0 c195<|en (aI (rP (.int .i64 13))<|trivial)
   exact Z66.v (aI (ay e) trivial) z<|by kernel_rfl
  ·obtain⟨o210,bo210,h⟩:=cP h
   have p212:=fun{sc F} (r:PS sc F)=>p196<|sg 0 c195<|rh 0<|du (F5 e r1.1.n r1.1.name r1.1.least r1.1.most r1.1.params r1.1.alts r1.1.typesLeast r1.1.typesMost r1.1.types bo210)<|r
   rcases aQ h with⟨c211,h⟩|⟨c211,h⟩
   ·obtain rfl:=lf h
    have z:=p212<|sg 0 c211<|en (aI (rP (.int .i64 2))<|trivial)
    exact Z66.v (aI (ay e) trivial) z<|by kernel_rfl
   ·obtain⟨r213,br213,h⟩:=cP h
    have p215:=fun{sc F} (r:PS sc F)=>p212<|sg 0 c211<|sv (b9 e)<|sv (yq r1.1 [])<|dj (ID br213)<|r
    rcases aQ h with⟨c214,h⟩|⟨c214,h⟩
    ·obtain rfl:=lf h
     have z:=p215<|sg 0 c214<|en (aI (rP (.int .i64 r213))<|trivial)
     exact Z66.v (aI (ay e) trivial) z<|by kernel_rfl
    ·obtain⟨o221,bo221,h⟩:=cP h
     rcases o221 with o221|o221
     ·obtain rfl:=lf h
      have z:=p215<|sg 0 c214<|sv (aM e)<|sv (aN e)<|bW (er.ln e.Types)<|du (e:=.ret) (s1:=gQ e r1.1.n r1.1.name r1.1.least r1.1.most r1.1.params r1.1.alts r1.1.typesLeast r1.1.typesMost r1.1.types (.inl o221)) (qP e e.Types (e.Types.length:Int) r1.1.n r1.1.name r1.1.least r1.1.most r1.1.params r1.1.alts r1.1.typesLeast r1.1.typesMost r1.1.types 0 bo221)<|en (aI (rP (.int .i64 o221))<|trivial)
      exact Z66.v (aI (ay e) trivial) z<|by kernel_rfl
     ·obtain⟨o230,bo230,h⟩:=cP h
      rcases o230 with o230|o230
      ·obtain rfl:=lf h
       have z:=p215<|sg 0 c214<|sv (aM e)<|sv (aN e)<|bW (er.ln e.Types)<|du (e:=.exit 1) (s1:=gQ e r1.1.n r1.1.name r1.1.least r1.1.most r1.1.params r1.1.alts r1.1.typesLeast r1.1.typesMost r1.1.types (.inr o221)) (qP e e.Types (e.Types.length:Int) r1.1.n r1.1.name r1.1.least r1.1.most r1.1.params r1.1.alts r1.1.typesLeast r1.1.typesMost r1.1.types 0 bo221)<|sv (bP e)<|sv (bQ e)<|bW (mV.ln e.Params)<|du (e:=.ret) (s1:=jv r1.1.n r1.1.name r1.1.least r1.1.most r1.1.params r1.1.alts r1.1.typesLeast r1.1.typesMost r1.1.types (.inl o230)) (xr e.Params (e.Params.length:Int) r1.1.n r1.1.name r1.1.least r1.1.most r1.1.params r1.1.alts r1.1.typesLeast r1.1.typesMost r1.1.types 0 bo230)<|en (aI (rP (.int .i64 o230))<|trivial)
       exact Z66.v (aI (ay e) trivial) z<|by kernel_rfl
      ·obtain rfl:=lf h
       have z:=p215<|sg 0 c214<|sv (aM e)<|sv (aN e)<|bW (er.ln e.Types)<|du (e:=.exit 1) (s1:=gQ e r1.1.n r1.1.name r1.1.least r1.1.most r1.1.params r1.1.alts r1.1.typesLeast r1.1.typesMost r1.1.types (.inr o221)) (qP e e.Types (e.Types.length:Int) r1.1.n r1.1.name r1.1.least r1.1.most r1.1.params r1.1.alts r1.1.typesLeast r1.1.typesMost r1.1.types 0 bo221)<|sv (bP e)<|sv (bQ e)<|bW (mV.ln e.Params)<|du (e:=.exit 3) (s1:=jv r1.1.n r1.1.name r1.1.least r1.1.most r1.1.params r1.1.alts r1.1.typesLeast r1.1.typesMost r1.1.types (.inr o230)) (xr e.Params (e.Params.length:Int) r1.1.n r1.1.name r1.1.least r1.1.most r1.1.params r1.1.alts r1.1.typesLeast r1.1.typesMost r1.1.types 0 bo230)<|en (aI (rP (.int .i64 0))<|trivial)
       exact Z66.v (aI (ay e) trivial) z<|by kernel_rfl
noncomputable def qbA:Code:=f65.body.getD .skip
def qbe:List Nat:=[]
theorem Z65:ZF qbe 65 f65 qbA:=⟨call65,func65,rfl⟩
def BJ(a:ag)(k0:Int):Option (Bool×Int):=
 (HZ a).bind fun r1=>
 some (r1==0,r1)
theorem FQ{a:ag}{k0:Int}{r:Bool×Int}(h:BJ a k0=some r):C Pg GE 65 [.agg (ae a),.bptr 0 0] [] [.cells [.int .i64 k0] []] (.bool r.1) [] [.cells [.int .i64 r.2] []]:=by
 obtain⟨r1,br1,h⟩:=cP h
 obtain rfl:=lf h
 have z:=se (dy a)<|sv (b9 a)<|dj (Kz br1)<|ss<|ss<|en (aI (rP (.bool (r1==0)))<|aI trivial<|aI (rL [.cells [.int .i64 r1] []])<|(aI (aI trivial trivial) trivial))
 exact Z65.g (m:=1) rfl z<|by kernel_rfl
section
variable(R58:gv)(e:ag)(t14:waF)(t15:Int)(t16:Int)(m:Int)
def hO:aB:=bg 38 [(1,.func (.func 65) [] [.bptr 0 0]),(2,.eptr (ae e)),(14,sl ae t14),(15,.int .i64 t15),(16,.int .i64 t16)] [.cells [.int .i64 m] [],.dead] []
def hU(o:Int⊕(Int)):Exit:=match o with
 |(.inl _)=>.ret
 |(.inr _)=>.exit 0
def dq(o:Int⊕(Int)):aB:=match o with
 |(.inl o)=>bg 38 [(4,.bool false)] [.cells [.int .i64 o] [],.dead] []
 |(.inr o)=>bg 38 [(1,.func (.func 65) [] [.bptr 0 0]),(2,.eptr (ae e))] [.cells [.int .i64 o] [],.dead] []
def oN:Option ((Int×Int)⊕(Int⊕(Int))):=
 if(decide (t16<t15))=true then
  (gn t14 t16).bind fun x5=>
  (R58 x5 m).bind fun r6=>
  if(!r6.1)=true then
   some (.inr (.inl r6.2))
  else
   some (.inl (bV (t16+1),r6.2))
 else
  some (.inr (.inr m))
def qW:Option (Int⊕(Int)):=loop (fun(zz:Int×Int)=>oN R58 t14 t15 zz.1 zz.2) (t16,m)
theorem wn(hR58:gr R58){y:(Int×Int)⊕(Int⊕(Int))}(h:oN R58 t14 t15 t16 m=some y):bh Pg GE 1 (cA KW 119) (LQ (fun(zz:Int×Int)=>hO e t14 t15 zz.1 zz.2) hU (dq e) y) (hO e t14 t15 t16 m):=by
 rcases aQ h with⟨c4,h⟩|⟨c4,h⟩
 ·obtain⟨x5,bx5,r6,br6,h⟩:=Zb2 h
  have p8:=fun{sc F} (r:PS sc F)=>sg 0 c4<|sv (jt.ia (k:=.i64) bx5)<|sv (b9 x5)<|sx zB<|sx (lb x5)<|sv (ce x5 [])<|si (.cg ⟨[0],[.agg (ae x5),.func (.func 65) [] [.bptr 0 0]],[],[.cells [.int .i64 m] []],[.cells [.int .i64 m] []],[.cells [.int .i64 r6.2] []],[.cells [.int .i64 r6.2] []],.bool r6.1,.bool r6.1,[]⟩) (hR58 _ _ _ br6)<|sf (aI (xR [0] (.agg (ae x5)) (ay x5)) (aI (xF [0] (.func 65) [] [.bptr 0 0] [] [.bptr 0 0] trivial (aI (xB [0] 0 0 0 rfl) trivial)) trivial))<|sf (aI (aI (rB (.cells [.int .i64 m] [])) (aI (rW []) (aI (xR [0] (.int .i64 m) trivial) trivial))) trivial)<|sf (aI (aI (rW []) (aI (xR [0] (.int .i64 r6.2) trivial) trivial)) trivial)<|sf (xR [0] (.bool r6.1) trivial)<|r
  rcases aQ h with⟨c7,h⟩|⟨c7,h⟩
  ·obtain rfl:=lf h
   have z:=p8<|sg 0 c7<|ue 1 (hU (.inl r6.2)) (dq e (.inl r6.2)) rfl (dU (aI trivial trivial)) (aI (aI trivial trivial) (aI trivial trivial))
   exact rY (A:=Gj) mixed (Zn rfl) z<|by kernel_rfl
  ·obtain rfl:=lf h
   have z:=p8<|sg 0 c7<|ue 1 .normal (hO e t14 t15 (bV (t16+1)) r6.2) rfl (dU (aI (aI trivial (aI (aW rfl) trivial)) (aI (aZ (ay e)) (aI (up (ak ay t14)) (aI trivial (aI trivial trivial)))))) (aI (aI trivial trivial) (aI trivial trivial))
   exact ed (A:=Gj) mixed z<|by kernel_rfl
 ·obtain rfl:=lf h
  have z:=sg 0 c4<|eF (hU (.inr m)) (dq e (.inr m))
  exact jy Gj (Zn rfl) z<|by kernel_rfl
theorem j2(hR58:gr R58){x:Int⊕(Int)}(h:qW R58 t14 t15 t16 m=some x):bh Pg GE 1 (.loop (cA KW 119)) (EX (hU x) (dq e x)) (hO e t14 t15 t16 m):=
 ZL h fun _ _ hy=>wn _ _ _ _ _ _ hR58 hy
end
section
variable(R58:gv)(t26:waD)(t27:Int)(t28:Int)(m:Int)
def hX:aB:=bg 38 [(1,.func (.func 65) [] [.bptr 0 0]),(26,sl aA t26),(27,.int .i64 t27),(28,.int .i64 t28)] [.cells [.int .i64 m] [],.dead] []
def hZ(o:Int⊕(Int)):Exit:=match o with
 |(.inl _)=>.ret
 |(.inr _)=>.exit 2
def d9(o:Int⊕(Int)):aB:=match o with
 |(.inl o)=>bg 38 [(4,.bool false)] [.cells [.int .i64 o] [],.dead] []
 |(.inr o)=>bg 38 [] [.cells [.int .i64 o] [],.dead] []
def oO:Option ((Int×Int)⊕(Int⊕(Int))):=
 if(decide (t28<t27))=true then
  (gn t26 t28).bind fun x11=>
  (R58 x11.Body m).bind fun r12=>
  if(!r12.1)=true then
   some (.inr (.inl r12.2))
  else
   some (.inl (bV (t28+1),r12.2))
 else
  some (.inr (.inr m))
def qX:Option (Int⊕(Int)):=loop (fun(zz:Int×Int)=>oO R58 t26 t27 zz.1 zz.2) (t28,m)
theorem wo(hR58:gr R58){y:(Int×Int)⊕(Int⊕(Int))}(h:oO R58 t26 t27 t28 m=some y):bh Pg GE 1 (cA KW 247) (LQ (fun(zz:Int×Int)=>hX t26 t27 zz.1 zz.2) hZ d9 y) (hX t26 t27 t28 m):=by
 rcases aQ h with⟨c10,h⟩|⟨c10,h⟩
 ·obtain⟨x11,bx11,r12,br12,h⟩:=Zb2 h
  have p14:=fun{sc F} (r:PS sc F)=>sg 0 c10<|sv (fO.ia (k:=.i64) bx11)<|sv (mH x11)<|sx G4<|sx (jz x11)<|sv (ce x11.Body [])<|si (.cg ⟨[0],[.agg (ae x11.Body),.func (.func 65) [] [.bptr 0 0]],[],[.cells [.int .i64 m] []],[.cells [.int .i64 m] []],[.cells [.int .i64 r12.2] []],[.cells [.int .i64 r12.2] []],.bool r12.1,.bool r12.1,[]⟩) (hR58 _ _ _ br12)<|sf (aI (xR [0] (.agg (ae x11.Body)) (ay x11.Body)) (aI (xF [0] (.func 65) [] [.bptr 0 0] [] [.bptr 0 0] trivial (aI (xB [0] 0 0 0 rfl) trivial)) trivial))<|sf (aI (aI (rB (.cells [.int .i64 m] [])) (aI (rW []) (aI (xR [0] (.int .i64 m) trivial) trivial))) trivial)<|sf (aI (aI (rW []) (aI (xR [0] (.int .i64 r12.2) trivial) trivial)) trivial)<|sf (xR [0] (.bool r12.1) trivial)<|r
  rcases aQ h with⟨c13,h⟩|⟨c13,h⟩
  ·obtain rfl:=lf h
   have z:=p14<|sg 0 c13<|ue 1 (hZ (.inl r12.2)) (d9 (.inl r12.2)) rfl (dU (aI trivial trivial)) (aI (aI trivial trivial) (aI trivial trivial))
   exact rY (A:=Gj) mixed (Zn rfl) z<|by kernel_rfl
  ·obtain rfl:=lf h
   have z:=p14<|sg 0 c13<|ue 1 .normal (hX t26 t27 (bV (t28+1)) r12.2) rfl (dU (aI (aI trivial (aI (aW rfl) trivial)) (aI (up (ak bK t26)) (aI trivial (aI trivial trivial))))) (aI (aI trivial trivial) (aI trivial trivial))
   exact ed (A:=Gj) mixed z<|by kernel_rfl
 ·obtain rfl:=lf h
  have z:=sg 0 c10<|eF (hZ (.inr m)) (d9 (.inr m))
  exact jy Gj (Zn rfl) z<|by kernel_rfl
theorem n9(hR58:gr R58){x:Int⊕(Int)}(h:qX R58 t26 t27 t28 m=some x):bh Pg GE 1 (.loop (cA KW 247)) (EX (hZ x) (d9 x)) (hX t26 t27 t28 m):=
 ZL h fun _ _ hy=>wo _ _ _ _ _ hR58 hy
end
def rF(R58:gv)(e:ag)(k0:Int):Option (Bool×Int):=
 (BJ e k0).bind fun r1=>
 if(!r1.1)=true then
  some (false,r1.2)
 else
  (qW R58 e.Kids (e.Kids.length:Int) 0 r1.2).bind fun o9=>match o9 with
  |(.inl o9)=>
   some (false,o9)
  | (.inr o9) =>
   (qX R58 e.Alts (e.Alts.length:Int) 0 o9).bind fun o15=>match o15 with
   |(.inl o15)=>
    some (false,o15)
   |(.inr o15)=>
    some (true,o15)
theorem yS(R58:gv)(hR58:gr R58){e:ag}{k0:Int}{r:Bool×Int}(h:rF R58 e k0=some r):C Pg GE 64 [.agg (ae e),.func (.func 65) [] [.bptr 0 0]] [] [.cells [.int .i64 k0] []] (.bool r.1) [] [.cells [.int .i64 r.2] []]:=by
 obtain⟨r1,br1,h⟩:=cP h
 have p3:=fun{sc F} (r:PS sc F)=>se (dy e)<|sv (b9 e)<|si (.cg ⟨[0],[.agg (ae e),.bptr 0 0],[],[.cells [.int .i64 k0] []],[.cells [.int .i64 k0] []],[.cells [.int .i64 r1.2] []],[.cells [.int .i64 r1.2] []],.bool r1.1,.bool r1.1,[]⟩) (FQ br1)<|sf (aI (xR [0] (.agg (ae e)) (ay e)) (aI (xB [0] 0 0 0 rfl) trivial))<|sf (aI (aI (rB (.cells [.int .i64 k0] [])) (aI (rW []) (aI (xR [0] (.int .i64 k0) trivial) trivial))) trivial)<|sf (aI (aI (rW []) (aI (xR [0] (.int .i64 r1.2) trivial) trivial)) trivial)<|sf (xR [0] (.bool r1.1) trivial)<|r
 rcases aQ h with⟨c2,h⟩|⟨c2,h⟩
 ·obtain rfl:=lf h
  have z:=p3<|sg 0 c2<|en (aI (rP (.bool false))<|aI trivial<|aI (rL [.cells [.int .i64 r1.2] []])<|(aI (aI trivial trivial) trivial))
  exact C.evGp (A:=Gj) mixed (m:=1) (c:=KW) rfl call64 func64 rfl z<|by kernel_rfl
 ·obtain⟨o9,bo9,h⟩:=cP h
  rcases o9 with o9|o9
  ·obtain rfl:=lf h
   have z:=p3<|sg 0 c2<|sv (bw e)<|sv (bz e)<|bW (jt.ln e.Kids)<|du (e:=.ret) (s1:=dq e (.inl o9)) (j2 R58 e e.Kids (e.Kids.length:Int) 0 r1.2 hR58 bo9)<|en (aI (rP (.bool false))<|aI trivial<|aI (rL [.cells [.int .i64 o9] []])<|(aI (aI trivial trivial) trivial))
   exact C.evGp (A:=Gj) mixed (m:=1) (c:=KW) rfl call64 func64 rfl z<|by kernel_rfl
  ·obtain⟨o15,bo15,h⟩:=cP h
   rcases o15 with o15|o15
   ·obtain rfl:=lf h
    have z:=p3<|sg 0 c2<|sv (bw e)<|sv (bz e)<|bW (jt.ln e.Kids)<|du (e:=.exit 0) (s1:=dq e (.inr o9)) (j2 R58 e e.Kids (e.Kids.length:Int) 0 r1.2 hR58 bo9)<|sv (aK e)<|sv (aL e)<|bW (fO.ln e.Alts)<|du (e:=.ret) (s1:=d9 (.inl o15)) (n9 R58 e.Alts (e.Alts.length:Int) 0 o9 hR58 bo15)<|en (aI (rP (.bool false))<|aI trivial<|aI (rL [.cells [.int .i64 o15] []])<|(aI (aI trivial trivial) trivial))
    exact C.evGp (A:=Gj) mixed (m:=1) (c:=KW) rfl call64 func64 rfl z<|by kernel_rfl
   ·obtain rfl:=lf h
    have z:=p3<|sg 0 c2<|sv (bw e)<|sv (bz e)<|bW (jt.ln e.Kids)<|du (e:=.exit 0) (s1:=dq e (.inr o9)) (j2 R58 e e.Kids (e.Kids.length:Int) 0 r1.2 hR58 bo9)<|sv (aK e)<|sv (aL e)<|bW (fO.ln e.Alts)<|du (e:=.exit 2) (s1:=d9 (.inr o15)) (n9 R58 e.Alts (e.Alts.length:Int) 0 o9 hR58 bo15)<|en (aI (rP (.bool true))<|aI trivial<|aI (rL [.cells [.int .i64 o15] []])<|(aI (aI trivial trivial) trivial))
    exact C.evGp (A:=Gj) mixed (m:=1) (c:=KW) rfl call64 func64 rfl z<|by kernel_rfl
def rG:((ag×Int)->Option (Bool×Int))->(ag×Int)->Option (Bool×Int):=fun(rec:(ag×Int)->Option (Bool×Int)) (x:ag×Int)=>rF (fun e k0=>rec (e,k0)) x.1 x.2
def uo(e:ag)(k0:Int):Option (Bool×Int):=tn rG (e,k0)
theorem zN{e:ag}{k0:Int}{r:Bool×Int}(h:uo e k0=some r):C Pg GE 64 [.agg (ae e),.func (.func 65) [] [.bptr 0 0]] [] [.cells [.int .i64 k0] []] (.bool r.1) [] [.cells [.int .i64 r.2] []]:=
 fj (F:=rG) (M:=fun(x:ag×Int) (r:Bool×Int)=>C Pg GE 64 [.agg (ae x.1),.func (.func 65) [] [.bptr 0 0]] [] [.cells [.int .i64 x.2] []] (.bool r.1) [] [.cells [.int .i64 r.2] []]) (fun rec hrec x r h=>yS _ (fun e k0 r h=>hrec (e,k0) r h) h) h
noncomputable def qbo:Code:=f17.body.getD .skip
def qa2:List Nat:=[]
theorem Z17:ZF qa2 17 f17 qbo:=⟨call17,func17,rfl⟩
def zI(e:ag):Option Int:=
 (zK e).bind fun r1=>
 if(decide (r1>400))=true then
  some 7
 else
  (zJ e).bind fun r4=>
  if(decide (r4>40))=true then
   some 8
  else
   (uo e 0).bind fun r7=>
   some r7.2
theorem Ab{e:ag}{r:Int}(h:zI e=some r):CC Pg GE 17 [.agg (ae e)] (.int .i64 r) []:=by
 obtain⟨r1,br1,h⟩:=cP h
 have p3:=fun{sc F} (r:PS sc F)=>se (dy e)<|sv (b9 e)<|dj (Af br1)<|r
 rcases aQ h with⟨c2,h⟩|⟨c2,h⟩
 ·obtain rfl:=lf h
  have z:=p3<|sg 0 c2<|en (aI (rP (.int .i64 7))<|trivial)
  exact Z17.v (aI (ay e) trivial) z<|by kernel_rfl
 ·obtain⟨r4,br4,h⟩:=cP h
  have p6:=fun{sc F} (r:PS sc F)=>p3<|sg 0 c2<|sv (b9 e)<|dj (Ae br4)<|r
  rcases aQ h with⟨c5,h⟩|⟨c5,h⟩
  ·obtain rfl:=lf h
   have z:=p6<|sg 0 c5<|en (aI (rP (.int .i64 8))<|trivial)
   exact Z17.v (aI (ay e) trivial) z<|by kernel_rfl
  ·obtain⟨r7,br7,h⟩:=cP h
   obtain rfl:=lf h
   have z:=p6<|sg 0 c5<|sx qax<|ss<|sv (b9 e)<|si (.cg ⟨[1],[.agg (ae e),.func (.func 65) [] [.bptr 0 0]],[],[.cells [.int .i64 0] []],[.cells [.int .i64 0] []],[.cells [.int .i64 r7.2] []],[.cells [.int .i64 r7.2] []],.bool r7.1,.bool r7.1,[]⟩) (zN br7)<|sf (aI (xR [1] (.agg (ae e)) (ay e)) (aI (xF [1] (.func 65) [] [.bptr 1 0] [] [.bptr 0 0] trivial (aI (xB [1] 0 1 0 rfl) trivial)) trivial))<|sf (aI (aI (rB (.cells [.int .i64 0] [])) (aI (rW []) (aI (xR [1] (.int .i64 0) trivial) trivial))) trivial)<|sf (aI (aI (rW []) (aI (xR [1] (.int .i64 r7.2) trivial) trivial)) trivial)<|sf (xR [1] (.bool r7.1) trivial)<|ss<|en (aI (rP (.int .i64 r7.2))<|trivial)
   exact Z17.v (aI (ay e) trivial) z<|by kernel_rfl
noncomputable def qbl:Code:=f11.body.getD .skip
def qaZ:List Nat:=[]
theorem Z11:ZF qaZ 11 f11 qbl:=⟨call11,func11,rfl⟩
def Cb:Option Bool:=
 (gW ([120]:af)).bind fun r1=>
 (gW ([120]:af)).bind fun r2=>
 (gW ([121]:af)).bind fun r3=>
 (Cc ([120]:af) r1 (⟨5,([102]:af),0,([r2,r3]:List ag),([]:List ax),([]:List aG),([]:List aj)⟩:ag)).bind fun r4=>
 (gW ([120]:af)).bind fun r5=>
 (gW ([120]:af)).bind fun r6=>
 (Cc ([120]:af) r5 r6).bind fun r7=>
 (Cc ([120]:af) (⟨1,([]:af),1,([]:List ag),([]:List ax),([]:List aG),([]:List aj)⟩:ag) r7).bind fun r8=>
 (Dy r8).bind fun r9=>
 (AY ([120]:af) ([121]:af)).bind fun r10=>
 (AY ([120,49]:af) ([120]:af)).bind fun r11=>
 (np (⟨r4.Op,r4.Name,r4.N,r4.Kids,r4.Params,r4.Alts,r4.Types⟩:ag)).bind fun r12=>
 (kq r12 ([([102]:af),([120]:af),([121]:af)]:List af)).bind fun r13=>
 if r13=true then
  (gW ([120]:af)).bind fun r16=>
  (gW ([120,49]:af)).bind fun r17=>
  (Cc ([120,49]:af) r16 r17).bind fun r18=>
  (Cc ([120]:af) (⟨1,([]:af),1,([]:List ag),([]:List ax),([]:List aG),([]:List aj)⟩:ag) r18).bind fun r19=>
  (Jf r9 r19).bind fun r20=>
  if r20=true then
   (qH (⟨6,([]:af),0,([r10]:List ag),([(⟨([120]:af),(⟨0,([]:af),([]:List aj),([]:List af),(⟨0,([]:af),0,([]:List am)⟩:am),([]:List am)⟩:aj)⟩:ax)]:List ax),([]:List aG),([]:List aj)⟩:ag) ([121]:af) ([120]:af)).bind fun r23=>
   (Jf r23 (⟨6,([]:af),0,([r11]:List ag),([(⟨([120,49]:af),(⟨0,([]:af),([]:List aj),([]:List af),(⟨0,([]:af),0,([]:List am)⟩:am),([]:List am)⟩:aj)⟩:ax)]:List ax),([]:List aG),([]:List aj)⟩:ag)).bind fun r24=>
   if r24=true then
    (zI r4).bind fun r27=>
    if (r27 == 0) = true then
     (zI (⟨3,([105,102]:af),0,([]:List ag),([]:List ax),([]:List aG),([]:List aj)⟩:ag)).bind fun r30=>
     if(r30==3)=true then
      (zK r4).bind fun r33=>
      if(r33==5)=true then
       (zJ r4).bind fun r36=>
       some (r36==3)
      else
       some false
     else
      some false
    else
     some false
   else
    some false
  else
   some false
 else
  some false
theorem EJ{r:Bool}(h:Cb=some r):CC Pg GE 11 [] (.bool r) []:=by
 obtain⟨r1,br1,r2,br2,r3,br3,r4,br4,h⟩:=Zb4 h
 obtain⟨r5,br5,r6,br6,r7,br7,r8,br8,h⟩:=Zb4 h
 obtain⟨r9,br9,r10,br10,r11,br11,r12,br12,h⟩:=Zb4 h
 obtain⟨r13,br13,h⟩:=cP h
 have p15:=fun{sc F} (r:PS sc F)=>dj (fp br1)<|dj (fp br2)<|dj (fp br3)<|sv (jt.mk' (v:=td) nR ([r2,r3]:List ag) 2 (by kernel_rfl))<|sb (Ba 5 ([102]:af) ([r2,r3]:List ag)) (A7 5 ([102]:af) ([r2,r3]:List ag))<|dj (vF br4)<|sx zB<|sy (bE r4)<|sb (MH 1 1) (MF 1 1)<|sx zB<|sy (bE (⟨1,([]:af),1,([]:List ag),([]:List ax),([]:List aG),([]:List aj)⟩:ag))<|Kw [0,0,2,6,15,31,0,127]<|sv (ce (⟨1,([]:af),1,([]:List ag),([]:List ax),([]:List aG),([]:List aj)⟩:ag) [])<|dj (fp br5)<|dj (fp br6)<|dj (vF br7)<|dj (vF br8)<|dj (Hd br9)<|qbU (lb r9)<|sb (HF ([120]:af)) (HE ([120]:af))<|sv (mV.mk' (v:=B7) zw ([(⟨([120]:af),(⟨0,([]:af),([]:List aj),([]:List af),(⟨0,([]:af),0,([]:List am)⟩:am),([]:List am)⟩:aj)⟩:ax)]:List ax) 1 (by kernel_rfl))<|dj (AZ br10)<|sv (jt.mk' (v:=td) nR ([r10]:List ag) 1 (by kernel_rfl))<|sb (Bb 6 ([(⟨([120]:af),(⟨0,([]:af),([]:List aj),([]:List af),(⟨0,([]:af),0,([]:List am)⟩:am),([]:List am)⟩:aj)⟩:ax)]:List ax) ([r10]:List ag)) (A9 6 ([(⟨([120]:af),(⟨0,([]:af),([]:List aj),([]:List af),(⟨0,([]:af),0,([]:List am)⟩:am),([]:List am)⟩:aj)⟩:ax)]:List ax) ([r10]:List ag))<|sx zB<|sy (bE (⟨6,([]:af),0,([r10]:List ag),([(⟨([120]:af),(⟨0,([]:af),([]:List aj),([]:List af),(⟨0,([]:af),0,([]:List am)⟩:am),([]:List am)⟩:aj)⟩:ax)]:List ax),([]:List aG),([]:List aj)⟩:ag))<|sb (HF ([120,49]:af)) (HE ([120,49]:af))<|sv (mV.mk' (v:=B7) zw ([(⟨([120,49]:af),(⟨0,([]:af),([]:List aj),([]:List af),(⟨0,([]:af),0,([]:List am)⟩:am),([]:List am)⟩:aj)⟩:ax)]:List ax) 1 (by kernel_rfl))<|dj (AZ br11)<|sv (jt.mk' (v:=td) nR ([r11]:List ag) 1 (by kernel_rfl))<|sb (Bb 6 ([(⟨([120,49]:af),(⟨0,([]:af),([]:List aj),([]:List af),(⟨0,([]:af),0,([]:List am)⟩:am),([]:List am)⟩:aj)⟩:ax)]:List ax) ([r11]:List ag)) (A9 6 ([(⟨([120,49]:af),(⟨0,([]:af),([]:List aj),([]:List af),(⟨0,([]:af),0,([]:List am)⟩:am),([]:List am)⟩:aj)⟩:ax)]:List ax) ([r11]:List ag))<|sx zB<|sy (bE (⟨6,([]:af),0,([r11]:List ag),([(⟨([120,49]:af),(⟨0,([]:af),([]:List aj),([]:List af),(⟨0,([]:af),0,([]:List am)⟩:am),([]:List am)⟩:aj)⟩:ax)]:List ax),([]:List aG),([]:List aj)⟩:ag))<|Kw [0,1,0,7,15,31,31,31,159,415,991,2047,4095,8191,16383,32767,16383,131071,262143,524287,1048575,2097151,4194303,8388607,16777215,33554431,67108863,134217727,268435455,536870911,1073741823,2147483647,4294967295,8589934591,17179869183,34359738367,68719476735,137438953471,274877906943,549755813887]<|sv (ce (⟨r4.Op,r4.Name,r4.N,r4.Kids,r4.Params,r4.Alts,r4.Types⟩:ag) [])<|dj (qF br12)<|sv (dp.mk' (v:=PVal.str) NF ([([102]:af),([120]:af),([121]:af)]:List af) 3 (by kernel_rfl))<|dj (nz br13)<|r
 rcases aQ h with⟨c14,h⟩|⟨c14,h⟩
 ·obtain⟨r16,br16,r17,br17,r18,br18,r19,br19,h⟩:=Zb4 h
  obtain⟨r20,br20,h⟩:=cP h
  have p22:=fun{sc F} (r:PS sc F)=>p15<|sg 5 c14<|sv (ce r9 [])<|sv (ce (⟨1,([]:af),1,([]:List ag),([]:List ax),([]:List aG),([]:List aj)⟩:ag) [])<|dj (fp br16)<|dj (fp br17)<|dj (vF br18)<|dj (vF br19)<|dj (HA br20)<|r
  rcases aQ h with⟨c21,h⟩|⟨c21,h⟩
  ·obtain⟨r23,br23,r24,br24,h⟩:=Zb2 h
   have p26:=fun{sc F} (r:PS sc F)=>p22<|sg 14 c21<|sv (ce (⟨6,([]:af),0,([r10]:List ag),([(⟨([120]:af),(⟨0,([]:af),([]:List aj),([]:List af),(⟨0,([]:af),0,([]:List am)⟩:am),([]:List am)⟩:aj)⟩:ax)]:List ax),([]:List aG),([]:List aj)⟩:ag) [])<|dj (Ag br23)<|sv (ce (⟨6,([]:af),0,([r11]:List ag),([(⟨([120,49]:af),(⟨0,([]:af),([]:List aj),([]:List af),(⟨0,([]:af),0,([]:List am)⟩:am),([]:List am)⟩:aj)⟩:ax)]:List ax),([]:List aG),([]:List aj)⟩:ag) [])<|dj (HA br24)<|r
   rcases aQ h with⟨c25,h⟩|⟨c25,h⟩
   ·obtain⟨r27,br27,h⟩:=cP h
    have p29:=fun{sc F} (r:PS sc F)=>p26<|sg 20 c25<|sv (ce r4 [])<|dj (Ab br27)<|r
    rcases aQ h with⟨c28,h⟩|⟨c28,h⟩
    ·obtain⟨r30,br30,h⟩:=cP h
     have p32:=fun{sc F} (r:PS sc F)=>p29<|sg 25 c28<|sb (EU 3 ([105,102]:af)) (EP 3 ([105,102]:af))<|dj (Ab br30)<|r
     rcases aQ h with⟨c31,h⟩|⟨c31,h⟩
     ·obtain⟨r33,br33,h⟩:=cP h
      have p35:=fun{sc F} (r:PS sc F)=>p32<|sg 30 c31<|sv (ce r4 [])<|dj (Af br33)<|r
      rcases aQ h with⟨c34,h⟩|⟨c34,h⟩
      ·obtain⟨r36,br36,h⟩:=cP h
       obtain rfl:=lf h
       have z:=p35<|sg 35 c34<|sv (ce r4 [])<|dj (Ae br36)<|en (aI (rP (.bool (r36==3)))<|trivial)
       exact Z11.v trivial z<|by kernel_rfl
      ·obtain rfl:=lf h
       have z:=p35<|sg 35 c34<|en (aI (rP (.bool false))<|trivial)
       exact Z11.v trivial z<|by kernel_rfl
     ·obtain rfl:=lf h
      have z:=p32<|sg 30 c31<|en (aI (rP (.bool false))<|trivial)
      exact Z11.v trivial z<|by kernel_rfl
    ·obtain rfl:=lf h
     have z:=p29<|sg 25 c28<|en (aI (rP (.bool false))<|trivial)
     exact Z11.v trivial z<|by kernel_rfl
   ·obtain rfl:=lf h
    have z:=p26<|sg 20 c25<|en (aI (rP (.bool false))<|trivial)
    exact Z11.v trivial z<|by kernel_rfl
  ·obtain rfl:=lf h
   have z:=p22<|sg 14 c21<|en (aI (rP (.bool false))<|trivial)
   exact Z11.v trivial z<|by kernel_rfl
 ·obtain rfl:=lf h
  have z:=p15<|sg 5 c14<|en (aI (rP (.bool false))<|trivial)
  exact Z11.v trivial z<|by kernel_rfl
section
variable(v:waA)(s:af)(t7:Int)(t8:Int)
def sK:Option (Int⊕(Int⊕(Unit))):=
 if(decide (t8<t7))=true then
  (gn v t8).bind fun x2=>
  if(x2==s)=true then
   some (.inr (.inl t8))
  else
   some (.inl (bV (t8+1)))
 else
  some (.inr (.inr ()))
def Hr:Option (Int⊕(Unit)):=loop (fun(zz:Int)=>sK v s t7 zz) t8
end
def I3(a:waA)(s:af):Option Int:=
 (Hr a s (a.length:Int) 0).bind fun o5=>match o5 with
 |(.inl o5)=>
  some o5
 |(.inr o5)=>
  some (-1)
section
variable(n:Int)(s:af)(m:Int)(d:Int)
def AI:Option Int:=
 if(decide (d<0))=true then
  some (IntKind.i64.wrap (0 - d))
 else
  some d
end
section
variable(n:Int)(s:af)(m:Int)
def sJ:Option ((af×Int)⊕(af)):=
 if(m !=0)=true then
  (re m 10).bind fun q3=>
  (AI q3).bind fun o5=>
  (EV ([IntKind.u8.wrap (bV (48+o5))]:List Int)).bind fun s6=>
  (Xm s6 s).bind fun s7=>
  (qu .i64 m 10).bind fun q8=>
  some (.inl (s7,q8))
 else
  some (.inr s)
def tf:Option af:=loop (fun(zz:af×Int)=>sJ zz.1 zz.2) (s,m)
end
def I2(n:Int):Option af:=
 if(n==0)=true then
  some ([48]:af)
 else
  (tf ([]:af) n).bind fun o9=>
  if(decide (n<0))=true then
   (Xm ([45]:af) o9).bind fun s12=>
   some s12
  else
   some o9
section
variable(used:waA)(base:af)(s:af)(n:Int)
def dE:Option ((af×Int)⊕(af)):=
 (I3 used s).bind fun r1=>
 if(decide (r1>=0))=true then
  (I2 n).bind fun r3=>
  (Xm base r3).bind fun s4=>
  some (.inl (s4,bV (n+1)))
 else
  some (.inr s)
def ny:Option af:=loop (fun(zz:af×Int)=>dE used base zz.1 zz.2) (s,n)
end
def Ls(used:waA)(base:af):Option af:=
 (ny used base base 1).bind fun o5=>
 some o5
end Go.Proofs.YtkdahfeiedaahaaGreatDoor
