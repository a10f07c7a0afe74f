/- PROVED: a part of the proof. Conditions: none. -/
import Derived.Test.YtkdahfeiedaahaaGreatDoorPkC16
noncomputable section
namespace Go.Proofs.YtkdahfeiedaahaaGreatDoor
open Go Go.Proofs.Tryz
set_option linter.unusedVariables false
set_option maxRecDepth 100000
noncomputable def Mt:Code:=f66.body.getD .skip
def fh:List Nat:=[122,134,154]
section
variable(e:ag)(ok:Bool)(m:Bool)(m2:Bool)(m3:Int)(m4:Int)(m5:Bool)(m6:Bool)(m7:Int)(m8:Int)(m9:Bool)
def E1:aA:=bg 156 [(1,.eptr (af e)),(3,.bptr 1 0),(4,.bool ok)] [.dead,.cells [.bool m,.bool m2,.int .i64 m3,.int .i64 m4,.bool m5,.bool m6,.int .i64 m7,.int .i64 m8,.bool m9] []] []
def ak(o:Bool):aA:=bg 156 [(1,.eptr (af e)),(3,.bptr 1 0),(4,.bool ok),(5,.bool o)] [.dead,.cells [.bool m,.bool m2,.int .i64 m3,.int .i64 m4,.bool m5,.bool m6,.int .i64 m7,.int .i64 m8,.bool m9] []] []
def zY:Option Bool:=
 if (!m) = true then
  if(e.N !=0)=true then
   some true
  else
   if (!m2) = true then
    if(!(e.Name==([]:ae)))=true then
     some true
    else
     if (m4 == 0) = true then
      if(decide ((e.Kids.length:Int)>0))=true then
       some true
      else
       if (!m5) = true then
        if(decide ((e.Params.length:Int)>0))=true then
         some true
        else
         if (!m6) = true then
          if(decide ((e.Alts.length:Int)>0))=true then
           some true
          else
           if(!m9)=true then
            some (decide ((e.Types.length:Int)>0))
           else
            some false
         else
          if(!m9)=true then
           some (decide ((e.Types.length:Int)>0))
          else
           some false
       else
        if (!m6) = true then
         if(decide ((e.Alts.length:Int)>0))=true then
          some true
         else
          if(!m9)=true then
           some (decide ((e.Types.length:Int)>0))
          else
           some false
        else
         if(!m9)=true then
          some (decide ((e.Types.length:Int)>0))
         else
          some false
     else
      if (!m5) = true then
       if(decide ((e.Params.length:Int)>0))=true then
        some true
       else
        if (!m6) = true then
         if(decide ((e.Alts.length:Int)>0))=true then
          some true
         else
          if(!m9)=true then
           some (decide ((e.Types.length:Int)>0))
          else
           some false
        else
         if(!m9)=true then
          some (decide ((e.Types.length:Int)>0))
         else
          some false
      else
       if (!m6) = true then
        if(decide ((e.Alts.length:Int)>0))=true then
         some true
        else
         if(!m9)=true then
          some (decide ((e.Types.length:Int)>0))
         else
          some false
       else
        if(!m9)=true then
         some (decide ((e.Types.length:Int)>0))
        else
         some false
   else
    if (m4 == 0) = true then
     if(decide ((e.Kids.length:Int)>0))=true then
      some true
     else
      if (!m5) = true then
       if(decide ((e.Params.length:Int)>0))=true then
        some true
       else
        if (!m6) = true then
         if(decide ((e.Alts.length:Int)>0))=true then
          some true
         else
          if(!m9)=true then
           some (decide ((e.Types.length:Int)>0))
          else
           some false
        else
         if(!m9)=true then
          some (decide ((e.Types.length:Int)>0))
         else
          some false
      else
       if (!m6) = true then
        if(decide ((e.Alts.length:Int)>0))=true then
         some true
        else
         if(!m9)=true then
          some (decide ((e.Types.length:Int)>0))
         else
          some false
       else
        if(!m9)=true then
         some (decide ((e.Types.length:Int)>0))
        else
         some false
    else
     if (!m5) = true then
      if(decide ((e.Params.length:Int)>0))=true then
       some true
      else
       if (!m6) = true then
        if(decide ((e.Alts.length:Int)>0))=true then
         some true
        else
         if(!m9)=true then
          some (decide ((e.Types.length:Int)>0))
         else
          some false
       else
        if(!m9)=true then
         some (decide ((e.Types.length:Int)>0))
        else
         some false
     else
      if (!m6) = true then
       if(decide ((e.Alts.length:Int)>0))=true then
        some true
       else
        if(!m9)=true then
         some (decide ((e.Types.length:Int)>0))
        else
         some false
      else
       if(!m9)=true then
        some (decide ((e.Types.length:Int)>0))
       else
        some false
 else
  if (!m2) = true then
   if(!(e.Name==([]:ae)))=true then
    some true
   else
    if (m4 == 0) = true then
     if(decide ((e.Kids.length:Int)>0))=true then
      some true
     else
      if (!m5) = true then
       if(decide ((e.Params.length:Int)>0))=true then
        some true
       else
        if (!m6) = true then
         if(decide ((e.Alts.length:Int)>0))=true then
          some true
         else
          if(!m9)=true then
           some (decide ((e.Types.length:Int)>0))
          else
           some false
        else
         if(!m9)=true then
          some (decide ((e.Types.length:Int)>0))
         else
          some false
      else
       if (!m6) = true then
        if(decide ((e.Alts.length:Int)>0))=true then
         some true
        else
         if(!m9)=true then
          some (decide ((e.Types.length:Int)>0))
         else
          some false
       else
        if(!m9)=true then
         some (decide ((e.Types.length:Int)>0))
        else
         some false
    else
     if (!m5) = true then
      if(decide ((e.Params.length:Int)>0))=true then
       some true
      else
       if (!m6) = true then
        if(decide ((e.Alts.length:Int)>0))=true then
         some true
        else
         if(!m9)=true then
          some (decide ((e.Types.length:Int)>0))
         else
          some false
       else
        if(!m9)=true then
         some (decide ((e.Types.length:Int)>0))
        else
         some false
     else
      if (!m6) = true then
       if(decide ((e.Alts.length:Int)>0))=true then
        some true
       else
        if(!m9)=true then
         some (decide ((e.Types.length:Int)>0))
        else
         some false
      else
       if(!m9)=true then
        some (decide ((e.Types.length:Int)>0))
       else
        some false
  else
   if (m4 == 0) = true then
    if(decide ((e.Kids.length:Int)>0))=true then
     some true
    else
     if (!m5) = true then
      if(decide ((e.Params.length:Int)>0))=true then
       some true
      else
       if (!m6) = true then
        if(decide ((e.Alts.length:Int)>0))=true then
         some true
        else
         if(!m9)=true then
          some (decide ((e.Types.length:Int)>0))
         else
          some false
       else
        if(!m9)=true then
         some (decide ((e.Types.length:Int)>0))
        else
         some false
     else
      if (!m6) = true then
       if(decide ((e.Alts.length:Int)>0))=true then
        some true
       else
        if(!m9)=true then
         some (decide ((e.Types.length:Int)>0))
        else
         some false
      else
       if(!m9)=true then
        some (decide ((e.Types.length:Int)>0))
       else
        some false
   else
    if (!m5) = true then
     if(decide ((e.Params.length:Int)>0))=true then
      some true
     else
      if (!m6) = true then
       if(decide ((e.Alts.length:Int)>0))=true then
        some true
       else
        if(!m9)=true then
         some (decide ((e.Types.length:Int)>0))
        else
         some false
      else
       if(!m9)=true then
        some (decide ((e.Types.length:Int)>0))
       else
        some false
    else
     if (!m6) = true then
      if(decide ((e.Alts.length:Int)>0))=true then
       some true
      else
       if(!m9)=true then
        some (decide ((e.Types.length:Int)>0))
       else
        some false
     else
      if(!m9)=true then
       some (decide ((e.Types.length:Int)>0))
      else
       some false
theorem D3 {x:Bool} (h:zY e m m2 m4 m5 m6 m9 = some x) :aQ Pg GE 0 (cA Mt 14) (EX .normal (ak e ok m m2 m3 m4 m5 m6 m7 m8 m9 x)) (E1 e ok m m2 m3 m4 m5 m6 m7 m8 m9):=by
 rcases aN h with⟨c2,h⟩|⟨c2,h⟩
 ·have p4:=fun{sc F} (r:PS sc F)=>ss<|sg 4 c2<|sv (hU e)<|sv (jh e)<|r
  rcases aN h with⟨c3,h⟩|⟨c3,h⟩
  ·obtain rfl:=lf h
   exact bA fh (p4<|sg 9 c3<|eF .normal (ak e ok m m2 m3 m4 m5 m6 m7 m8 m9 true))<|by kernel_rfl
  ·have p6:=fun{sc F} (r:PS sc F)=>p4<|sg 9 c3<|ss<|r
   rcases aN h with⟨c5,h⟩|⟨c5,h⟩
   ·have p8:=fun{sc F} (r:PS sc F)=>p6<|sg 13 c5<|sv (fg e)<|sv (gj e)<|r
    rcases aN h with⟨c7,h⟩|⟨c7,h⟩
    ·obtain rfl:=lf h
     exact bA fh (p8<|sg 19 c7<|eF .normal (ak e ok m m2 m3 m4 m5 m6 m7 m8 m9 true))<|by kernel_rfl
    ·have p10:=fun{sc F} (r:PS sc F)=>p8<|sg 19 c7<|ss<|r
     rcases aN h with⟨c9,h⟩|⟨c9,h⟩
     ·have p12:=fun{sc F} (r:PS sc F)=>p10<|sg 23 c9<|sv (bu e)<|sv (bv e)<|bU (iJ.ln e.Kids)<|r
      rcases aN h with⟨c11,h⟩|⟨c11,h⟩
      ·obtain rfl:=lf h
       exact bA fh (p12<|sg 30 c11<|eF .normal (ak e ok m m2 m3 m4 m5 m6 m7 m8 m9 true))<|by kernel_rfl
      ·have p14:=fun{sc F} (r:PS sc F)=>p12<|sg 30 c11<|ss<|r
       rcases aN h with⟨c13,h⟩|⟨c13,h⟩
       ·have p16:=fun{sc F} (r:PS sc F)=>p14<|sg 34 c13<|sv (bM e)<|sv (bN e)<|bU (lT.ln e.Params)<|r
        rcases aN h with⟨c15,h⟩|⟨c15,h⟩
        ·obtain rfl:=lf h
         exact bA fh (p16<|sg 41 c15<|eF .normal (ak e ok m m2 m3 m4 m5 m6 m7 m8 m9 true))<|by kernel_rfl
        ·have p18:=fun{sc F} (r:PS sc F)=>p16<|sg 41 c15<|ss<|r
         rcases aN h with⟨c17,h⟩|⟨c17,h⟩
         ·have p20:=fun{sc F} (r:PS sc F)=>p18<|sg 45 c17<|sv (aH e)<|sv (aJ e)<|bU (fo.ln e.Alts)<|r
          rcases aN h with⟨c19,h⟩|⟨c19,h⟩
          ·obtain rfl:=lf h
           exact bA fh (p20<|sg 52 c19<|eF .normal (ak e ok m m2 m3 m4 m5 m6 m7 m8 m9 true))<|by kernel_rfl
          ·have p22:=fun{sc F} (r:PS sc F)=>p20<|sg 52 c19<|ss<|r
           rcases aN h with⟨c21,h⟩|⟨c21,h⟩
           ·obtain rfl:=lf h
            exact bA fh (p22<|sg 56 c21<|sv (aK e)<|sv (aL e)<|bU (d5.ln e.Types)<|eF .normal (ak e ok m m2 m3 m4 m5 m6 m7 m8 m9 (decide ((e.Types.length:Int)>0))))<|by kernel_rfl
           ·obtain rfl:=lf h
            exact bA fh (p22<|sg 56 c21<|eF .normal (ak e ok m m2 m3 m4 m5 m6 m7 m8 m9 false))<|by kernel_rfl
         ·have p24:=fun{sc F} (r:PS sc F)=>p18<|sg 45 c17<|ss<|r
          rcases aN h with⟨c23,h⟩|⟨c23,h⟩
          ·obtain rfl:=lf h
           exact bA fh (p24<|sg 56 c23<|sv (aK e)<|sv (aL e)<|bU (d5.ln e.Types)<|eF .normal (ak e ok m m2 m3 m4 m5 m6 m7 m8 m9 (decide ((e.Types.length:Int)>0))))<|by kernel_rfl
          ·obtain rfl:=lf h
           exact bA fh (p24<|sg 56 c23<|eF .normal (ak e ok m m2 m3 m4 m5 m6 m7 m8 m9 false))<|by kernel_rfl
       ·have p26:=fun{sc F} (r:PS sc F)=>p14<|sg 34 c13<|ss<|r
        rcases aN h with⟨c25,h⟩|⟨c25,h⟩
        ·have p28:=fun{sc F} (r:PS sc F)=>p26<|sg 45 c25<|sv (aH e)<|sv (aJ e)<|bU (fo.ln e.Alts)<|r
         rcases aN h with⟨c27,h⟩|⟨c27,h⟩
         ·obtain rfl:=lf h
          exact bA fh (p28<|sg 52 c27<|eF .normal (ak e ok m m2 m3 m4 m5 m6 m7 m8 m9 true))<|by kernel_rfl
         ·have p30:=fun{sc F} (r:PS sc F)=>p28<|sg 52 c27<|ss<|r
          rcases aN h with⟨c29,h⟩|⟨c29,h⟩
          ·obtain rfl:=lf h
           exact bA fh (p30<|sg 56 c29<|sv (aK e)<|sv (aL e)<|bU (d5.ln e.Types)<|eF .normal (ak e ok m m2 m3 m4 m5 m6 m7 m8 m9 (decide ((e.Types.length:Int)>0))))<|by kernel_rfl
          ·obtain rfl:=lf h
           exact bA fh (p30<|sg 56 c29<|eF .normal (ak e ok m m2 m3 m4 m5 m6 m7 m8 m9 false))<|by kernel_rfl
        ·have p32:=fun{sc F} (r:PS sc F)=>p26<|sg 45 c25<|ss<|r
         rcases aN h with⟨c31,h⟩|⟨c31,h⟩
         ·obtain rfl:=lf h
          exact bA fh (p32<|sg 56 c31<|sv (aK e)<|sv (aL e)<|bU (d5.ln e.Types)<|eF .normal (ak e ok m m2 m3 m4 m5 m6 m7 m8 m9 (decide ((e.Types.length:Int)>0))))<|by kernel_rfl
         ·obtain rfl:=lf h
          exact bA fh (p32<|sg 56 c31<|eF .normal (ak e ok m m2 m3 m4 m5 m6 m7 m8 m9 false))<|by kernel_rfl
     ·have p34:=fun{sc F} (r:PS sc F)=>p10<|sg 23 c9<|ss<|r
      rcases aN h with⟨c33,h⟩|⟨c33,h⟩
      ·have p36:=fun{sc F} (r:PS sc F)=>p34<|sg 34 c33<|sv (bM e)<|sv (bN e)<|bU (lT.ln e.Params)<|r
       rcases aN h with⟨c35,h⟩|⟨c35,h⟩
       ·obtain rfl:=lf h
        exact bA fh (p36<|sg 41 c35<|eF .normal (ak e ok m m2 m3 m4 m5 m6 m7 m8 m9 true))<|by kernel_rfl
       ·have p38:=fun{sc F} (r:PS sc F)=>p36<|sg 41 c35<|ss<|r
        rcases aN h with⟨c37,h⟩|⟨c37,h⟩
        ·have p40:=fun{sc F} (r:PS sc F)=>p38<|sg 45 c37<|sv (aH e)<|sv (aJ e)<|bU (fo.ln e.Alts)<|r
         rcases aN h with⟨c39,h⟩|⟨c39,h⟩
         ·obtain rfl:=lf h
          exact bA fh (p40<|sg 52 c39<|eF .normal (ak e ok m m2 m3 m4 m5 m6 m7 m8 m9 true))<|by kernel_rfl
         ·have p42:=fun{sc F} (r:PS sc F)=>p40<|sg 52 c39<|ss<|r
          rcases aN h with⟨c41,h⟩|⟨c41,h⟩
          ·obtain rfl:=lf h
           exact bA fh (p42<|sg 56 c41<|sv (aK e)<|sv (aL e)<|bU (d5.ln e.Types)<|eF .normal (ak e ok m m2 m3 m4 m5 m6 m7 m8 m9 (decide ((e.Types.length:Int)>0))))<|by kernel_rfl
          ·obtain rfl:=lf h
           exact bA fh (p42<|sg 56 c41<|eF .normal (ak e ok m m2 m3 m4 m5 m6 m7 m8 m9 false))<|by kernel_rfl
        ·have p44:=fun{sc F} (r:PS sc F)=>p38<|sg 45 c37<|ss<|r
         rcases aN h with⟨c43,h⟩|⟨c43,h⟩
         ·obtain rfl:=lf h
          exact bA fh (p44<|sg 56 c43<|sv (aK e)<|sv (aL e)<|bU (d5.ln e.Types)<|eF .normal (ak e ok m m2 m3 m4 m5 m6 m7 m8 m9 (decide ((e.Types.length:Int)>0))))<|by kernel_rfl
         ·obtain rfl:=lf h
          exact bA fh (p44<|sg 56 c43<|eF .normal (ak e ok m m2 m3 m4 m5 m6 m7 m8 m9 false))<|by kernel_rfl
      ·have p46:=fun{sc F} (r:PS sc F)=>p34<|sg 34 c33<|ss<|r
       rcases aN h with⟨c45,h⟩|⟨c45,h⟩
       ·have p48:=fun{sc F} (r:PS sc F)=>p46<|sg 45 c45<|sv (aH e)<|sv (aJ e)<|bU (fo.ln e.Alts)<|r
        rcases aN h with⟨c47,h⟩|⟨c47,h⟩
        ·obtain rfl:=lf h
         exact bA fh (p48<|sg 52 c47<|eF .normal (ak e ok m m2 m3 m4 m5 m6 m7 m8 m9 true))<|by kernel_rfl
        ·have p50:=fun{sc F} (r:PS sc F)=>p48<|sg 52 c47<|ss<|r
         rcases aN h with⟨c49,h⟩|⟨c49,h⟩
         ·obtain rfl:=lf h
          exact bA fh (p50<|sg 56 c49<|sv (aK e)<|sv (aL e)<|bU (d5.ln e.Types)<|eF .normal (ak e ok m m2 m3 m4 m5 m6 m7 m8 m9 (decide ((e.Types.length:Int)>0))))<|by kernel_rfl
         ·obtain rfl:=lf h
          exact bA fh (p50<|sg 56 c49<|eF .normal (ak e ok m m2 m3 m4 m5 m6 m7 m8 m9 false))<|by kernel_rfl
       ·have p52:=fun{sc F} (r:PS sc F)=>p46<|sg 45 c45<|ss<|r
        rcases aN h with⟨c51,h⟩|⟨c51,h⟩
        ·obtain rfl:=lf h
         exact bA fh (p52<|sg 56 c51<|sv (aK e)<|sv (aL e)<|bU (d5.ln e.Types)<|eF .normal (ak e ok m m2 m3 m4 m5 m6 m7 m8 m9 (decide ((e.Types.length:Int)>0))))<|by kernel_rfl
        ·obtain rfl:=lf h
         exact bA fh (p52<|sg 56 c51<|eF .normal (ak e ok m m2 m3 m4 m5 m6 m7 m8 m9 false))<|by kernel_rfl
   ·have p54:=fun{sc F} (r:PS sc F)=>p6<|sg 13 c5<|ss<|r
    rcases aN h with⟨c53,h⟩|⟨c53,h⟩
    ·have p56:=fun{sc F} (r:PS sc F)=>p54<|sg 23 c53<|sv (bu e)<|sv (bv e)<|bU (iJ.ln e.Kids)<|r
     rcases aN h with⟨c55,h⟩|⟨c55,h⟩
     ·obtain rfl:=lf h
      exact bA fh (p56<|sg 30 c55<|eF .normal (ak e ok m m2 m3 m4 m5 m6 m7 m8 m9 true))<|by kernel_rfl
     ·have p58:=fun{sc F} (r:PS sc F)=>p56<|sg 30 c55<|ss<|r
      rcases aN h with⟨c57,h⟩|⟨c57,h⟩
      ·have p60:=fun{sc F} (r:PS sc F)=>p58<|sg 34 c57<|sv (bM e)<|sv (bN e)<|bU (lT.ln e.Params)<|r
       rcases aN h with⟨c59,h⟩|⟨c59,h⟩
       ·obtain rfl:=lf h
        exact bA fh (p60<|sg 41 c59<|eF .normal (ak e ok m m2 m3 m4 m5 m6 m7 m8 m9 true))<|by kernel_rfl
       ·have p62:=fun{sc F} (r:PS sc F)=>p60<|sg 41 c59<|ss<|r
        rcases aN h with⟨c61,h⟩|⟨c61,h⟩
        ·have p64:=fun{sc F} (r:PS sc F)=>p62<|sg 45 c61<|sv (aH e)<|sv (aJ e)<|bU (fo.ln e.Alts)<|r
         rcases aN h with⟨c63,h⟩|⟨c63,h⟩
         ·obtain rfl:=lf h
          exact bA fh (p64<|sg 52 c63<|eF .normal (ak e ok m m2 m3 m4 m5 m6 m7 m8 m9 true))<|by kernel_rfl
         ·have p66:=fun{sc F} (r:PS sc F)=>p64<|sg 52 c63<|ss<|r
          rcases aN h with⟨c65,h⟩|⟨c65,h⟩
          ·obtain rfl:=lf h
           exact bA fh (p66<|sg 56 c65<|sv (aK e)<|sv (aL e)<|bU (d5.ln e.Types)<|eF .normal (ak e ok m m2 m3 m4 m5 m6 m7 m8 m9 (decide ((e.Types.length:Int)>0))))<|by kernel_rfl
          ·obtain rfl:=lf h
           exact bA fh (p66<|sg 56 c65<|eF .normal (ak e ok m m2 m3 m4 m5 m6 m7 m8 m9 false))<|by kernel_rfl
        ·have p68:=fun{sc F} (r:PS sc F)=>p62<|sg 45 c61<|ss<|r
         rcases aN h with⟨c67,h⟩|⟨c67,h⟩
         ·obtain rfl:=lf h
          exact bA fh (p68<|sg 56 c67<|sv (aK e)<|sv (aL e)<|bU (d5.ln e.Types)<|eF .normal (ak e ok m m2 m3 m4 m5 m6 m7 m8 m9 (decide ((e.Types.length:Int)>0))))<|by kernel_rfl
         ·obtain rfl:=lf h
          exact bA fh (p68<|sg 56 c67<|eF .normal (ak e ok m m2 m3 m4 m5 m6 m7 m8 m9 false))<|by kernel_rfl
      ·have p70:=fun{sc F} (r:PS sc F)=>p58<|sg 34 c57<|ss<|r
       rcases aN h with⟨c69,h⟩|⟨c69,h⟩
       ·have p72:=fun{sc F} (r:PS sc F)=>p70<|sg 45 c69<|sv (aH e)<|sv (aJ e)<|bU (fo.ln e.Alts)<|r
        rcases aN h with⟨c71,h⟩|⟨c71,h⟩
        ·obtain rfl:=lf h
         exact bA fh (p72<|sg 52 c71<|eF .normal (ak e ok m m2 m3 m4 m5 m6 m7 m8 m9 true))<|by kernel_rfl
        ·have p74:=fun{sc F} (r:PS sc F)=>p72<|sg 52 c71<|ss<|r
         rcases aN h with⟨c73,h⟩|⟨c73,h⟩
         ·obtain rfl:=lf h
          exact bA fh (p74<|sg 56 c73<|sv (aK e)<|sv (aL e)<|bU (d5.ln e.Types)<|eF .normal (ak e ok m m2 m3 m4 m5 m6 m7 m8 m9 (decide ((e.Types.length:Int)>0))))<|by kernel_rfl
         ·obtain rfl:=lf h
          exact bA fh (p74<|sg 56 c73<|eF .normal (ak e ok m m2 m3 m4 m5 m6 m7 m8 m9 false))<|by kernel_rfl
       ·have p76:=fun{sc F} (r:PS sc F)=>p70<|sg 45 c69<|ss<|r
        rcases aN h with⟨c75,h⟩|⟨c75,h⟩
        ·obtain rfl:=lf h
         exact bA fh (p76<|sg 56 c75<|sv (aK e)<|sv (aL e)<|bU (d5.ln e.Types)<|eF .normal (ak e ok m m2 m3 m4 m5 m6 m7 m8 m9 (decide ((e.Types.length:Int)>0))))<|by kernel_rfl
        ·obtain rfl:=lf h
         exact bA fh (p76<|sg 56 c75<|eF .normal (ak e ok m m2 m3 m4 m5 m6 m7 m8 m9 false))<|by kernel_rfl
    ·have p78:=fun{sc F} (r:PS sc F)=>p54<|sg 23 c53<|ss<|r
     rcases aN h with⟨c77,h⟩|⟨c77,h⟩
     ·have p80:=fun{sc F} (r:PS sc F)=>p78<|sg 34 c77<|sv (bM e)<|sv (bN e)<|bU (lT.ln e.Params)<|r
      rcases aN h with⟨c79,h⟩|⟨c79,h⟩
      ·obtain rfl:=lf h
       exact bA fh (p80<|sg 41 c79<|eF .normal (ak e ok m m2 m3 m4 m5 m6 m7 m8 m9 true))<|by kernel_rfl
      ·have p82:=fun{sc F} (r:PS sc F)=>p80<|sg 41 c79<|ss<|r
       rcases aN h with⟨c81,h⟩|⟨c81,h⟩
       ·have p84:=fun{sc F} (r:PS sc F)=>p82<|sg 45 c81<|sv (aH e)<|sv (aJ e)<|bU (fo.ln e.Alts)<|r
        rcases aN h with⟨c83,h⟩|⟨c83,h⟩
        ·obtain rfl:=lf h
         exact bA fh (p84<|sg 52 c83<|eF .normal (ak e ok m m2 m3 m4 m5 m6 m7 m8 m9 true))<|by kernel_rfl
        ·have p86:=fun{sc F} (r:PS sc F)=>p84<|sg 52 c83<|ss<|r
         rcases aN h with⟨c85,h⟩|⟨c85,h⟩
         ·obtain rfl:=lf h
          exact bA fh (p86<|sg 56 c85<|sv (aK e)<|sv (aL e)<|bU (d5.ln e.Types)<|eF .normal (ak e ok m m2 m3 m4 m5 m6 m7 m8 m9 (decide ((e.Types.length:Int)>0))))<|by kernel_rfl
         ·obtain rfl:=lf h
          exact bA fh (p86<|sg 56 c85<|eF .normal (ak e ok m m2 m3 m4 m5 m6 m7 m8 m9 false))<|by kernel_rfl
       ·have p88:=fun{sc F} (r:PS sc F)=>p82<|sg 45 c81<|ss<|r
        rcases aN h with⟨c87,h⟩|⟨c87,h⟩
        ·obtain rfl:=lf h
         exact bA fh (p88<|sg 56 c87<|sv (aK e)<|sv (aL e)<|bU (d5.ln e.Types)<|eF .normal (ak e ok m m2 m3 m4 m5 m6 m7 m8 m9 (decide ((e.Types.length:Int)>0))))<|by kernel_rfl
        ·obtain rfl:=lf h
         exact bA fh (p88<|sg 56 c87<|eF .normal (ak e ok m m2 m3 m4 m5 m6 m7 m8 m9 false))<|by kernel_rfl
     ·have p90:=fun{sc F} (r:PS sc F)=>p78<|sg 34 c77<|ss<|r
      rcases aN h with⟨c89,h⟩|⟨c89,h⟩
      ·have p92:=fun{sc F} (r:PS sc F)=>p90<|sg 45 c89<|sv (aH e)<|sv (aJ e)<|bU (fo.ln e.Alts)<|r
       rcases aN h with⟨c91,h⟩|⟨c91,h⟩
       ·obtain rfl:=lf h
        exact bA fh (p92<|sg 52 c91<|eF .normal (ak e ok m m2 m3 m4 m5 m6 m7 m8 m9 true))<|by kernel_rfl
       ·have p94:=fun{sc F} (r:PS sc F)=>p92<|sg 52 c91<|ss<|r
        rcases aN h with⟨c93,h⟩|⟨c93,h⟩
        ·obtain rfl:=lf h
         exact bA fh (p94<|sg 56 c93<|sv (aK e)<|sv (aL e)<|bU (d5.ln e.Types)<|eF .normal (ak e ok m m2 m3 m4 m5 m6 m7 m8 m9 (decide ((e.Types.length:Int)>0))))<|by kernel_rfl
        ·obtain rfl:=lf h
         exact bA fh (p94<|sg 56 c93<|eF .normal (ak e ok m m2 m3 m4 m5 m6 m7 m8 m9 false))<|by kernel_rfl
      ·have p96:=fun{sc F} (r:PS sc F)=>p90<|sg 45 c89<|ss<|r
       rcases aN h with⟨c95,h⟩|⟨c95,h⟩
       ·obtain rfl:=lf h
        exact bA fh (p96<|sg 56 c95<|sv (aK e)<|sv (aL e)<|bU (d5.ln e.Types)<|eF .normal (ak e ok m m2 m3 m4 m5 m6 m7 m8 m9 (decide ((e.Types.length:Int)>0))))<|by kernel_rfl
       ·obtain rfl:=lf h
        exact bA fh (p96<|sg 56 c95<|eF .normal (ak e ok m m2 m3 m4 m5 m6 m7 m8 m9 false))<|by kernel_rfl
 ·have p98:=fun{sc F} (r:PS sc F)=>ss<|sg 4 c2<|ss<|r
  rcases aN h with⟨c97,h⟩|⟨c97,h⟩
  ·have p100:=fun{sc F} (r:PS sc F)=>p98<|sg 13 c97<|sv (fg e)<|sv (gj e)<|r
   rcases aN h with⟨c99,h⟩|⟨c99,h⟩
   ·obtain rfl:=lf h
    exact bA fh (p100<|sg 19 c99<|eF .normal (ak e ok m m2 m3 m4 m5 m6 m7 m8 m9 true))<|by kernel_rfl
   ·have p102:=fun{sc F} (r:PS sc F)=>p100<|sg 19 c99<|ss<|r
    rcases aN h with⟨c101,h⟩|⟨c101,h⟩
    ·have p104:=fun{sc F} (r:PS sc F)=>p102<|sg 23 c101<|sv (bu e)<|sv (bv e)<|bU (iJ.ln e.Kids)<|r
     rcases aN h with⟨c103,h⟩|⟨c103,h⟩
     ·obtain rfl:=lf h
      exact bA fh (p104<|sg 30 c103<|eF .normal (ak e ok m m2 m3 m4 m5 m6 m7 m8 m9 true))<|by kernel_rfl
     ·have p106:=fun{sc F} (r:PS sc F)=>p104<|sg 30 c103<|ss<|r
      rcases aN h with⟨c105,h⟩|⟨c105,h⟩
      ·have p108:=fun{sc F} (r:PS sc F)=>p106<|sg 34 c105<|sv (bM e)<|sv (bN e)<|bU (lT.ln e.Params)<|r
       rcases aN h with⟨c107,h⟩|⟨c107,h⟩
       ·obtain rfl:=lf h
        exact bA fh (p108<|sg 41 c107<|eF .normal (ak e ok m m2 m3 m4 m5 m6 m7 m8 m9 true))<|by kernel_rfl
       ·have p110:=fun{sc F} (r:PS sc F)=>p108<|sg 41 c107<|ss<|r
        rcases aN h with⟨c109,h⟩|⟨c109,h⟩
        ·have p112:=fun{sc F} (r:PS sc F)=>p110<|sg 45 c109<|sv (aH e)<|sv (aJ e)<|bU (fo.ln e.Alts)<|r
         rcases aN h with⟨c111,h⟩|⟨c111,h⟩
         ·obtain rfl:=lf h
          exact bA fh (p112<|sg 52 c111<|eF .normal (ak e ok m m2 m3 m4 m5 m6 m7 m8 m9 true))<|by kernel_rfl
         ·have p114:=fun{sc F} (r:PS sc F)=>p112<|sg 52 c111<|ss<|r
          rcases aN h with⟨c113,h⟩|⟨c113,h⟩
          ·obtain rfl:=lf h
           exact bA fh (p114<|sg 56 c113<|sv (aK e)<|sv (aL e)<|bU (d5.ln e.Types)<|eF .normal (ak e ok m m2 m3 m4 m5 m6 m7 m8 m9 (decide ((e.Types.length:Int)>0))))<|by kernel_rfl
          ·obtain rfl:=lf h
           exact bA fh (p114<|sg 56 c113<|eF .normal (ak e ok m m2 m3 m4 m5 m6 m7 m8 m9 false))<|by kernel_rfl
        ·have p116:=fun{sc F} (r:PS sc F)=>p110<|sg 45 c109<|ss<|r
         rcases aN h with⟨c115,h⟩|⟨c115,h⟩
         ·obtain rfl:=lf h
          exact bA fh (p116<|sg 56 c115<|sv (aK e)<|sv (aL e)<|bU (d5.ln e.Types)<|eF .normal (ak e ok m m2 m3 m4 m5 m6 m7 m8 m9 (decide ((e.Types.length:Int)>0))))<|by kernel_rfl
         ·obtain rfl:=lf h
          exact bA fh (p116<|sg 56 c115<|eF .normal (ak e ok m m2 m3 m4 m5 m6 m7 m8 m9 false))<|by kernel_rfl
      ·have p118:=fun{sc F} (r:PS sc F)=>p106<|sg 34 c105<|ss<|r
       rcases aN h with⟨c117,h⟩|⟨c117,h⟩
       ·have p120:=fun{sc F} (r:PS sc F)=>p118<|sg 45 c117<|sv (aH e)<|sv (aJ e)<|bU (fo.ln e.Alts)<|r
        rcases aN h with⟨c119,h⟩|⟨c119,h⟩
        ·obtain rfl:=lf h
         exact bA fh (p120<|sg 52 c119<|eF .normal (ak e ok m m2 m3 m4 m5 m6 m7 m8 m9 true))<|by kernel_rfl
        ·have p122:=fun{sc F} (r:PS sc F)=>p120<|sg 52 c119<|ss<|r
         rcases aN h with⟨c121,h⟩|⟨c121,h⟩
         ·obtain rfl:=lf h
          exact bA fh (p122<|sg 56 c121<|sv (aK e)<|sv (aL e)<|bU (d5.ln e.Types)<|eF .normal (ak e ok m m2 m3 m4 m5 m6 m7 m8 m9 (decide ((e.Types.length:Int)>0))))<|by kernel_rfl
         ·obtain rfl:=lf h
          exact bA fh (p122<|sg 56 c121<|eF .normal (ak e ok m m2 m3 m4 m5 m6 m7 m8 m9 false))<|by kernel_rfl
       ·have p124:=fun{sc F} (r:PS sc F)=>p118<|sg 45 c117<|ss<|r
        rcases aN h with⟨c123,h⟩|⟨c123,h⟩
        ·obtain rfl:=lf h
         exact bA fh (p124<|sg 56 c123<|sv (aK e)<|sv (aL e)<|bU (d5.ln e.Types)<|eF .normal (ak e ok m m2 m3 m4 m5 m6 m7 m8 m9 (decide ((e.Types.length:Int)>0))))<|by kernel_rfl
        ·obtain rfl:=lf h
         exact bA fh (p124<|sg 56 c123<|eF .normal (ak e ok m m2 m3 m4 m5 m6 m7 m8 m9 false))<|by kernel_rfl
    ·have p126:=fun{sc F} (r:PS sc F)=>p102<|sg 23 c101<|ss<|r
     rcases aN h with⟨c125,h⟩|⟨c125,h⟩
     ·have p128:=fun{sc F} (r:PS sc F)=>p126<|sg 34 c125<|sv (bM e)<|sv (bN e)<|bU (lT.ln e.Params)<|r
      rcases aN h with⟨c127,h⟩|⟨c127,h⟩
      ·obtain rfl:=lf h
       exact bA fh (p128<|sg 41 c127<|eF .normal (ak e ok m m2 m3 m4 m5 m6 m7 m8 m9 true))<|by kernel_rfl
      ·have p130:=fun{sc F} (r:PS sc F)=>p128<|sg 41 c127<|ss<|r
       rcases aN h with⟨c129,h⟩|⟨c129,h⟩
       ·have p132:=fun{sc F} (r:PS sc F)=>p130<|sg 45 c129<|sv (aH e)<|sv (aJ e)<|bU (fo.ln e.Alts)<|r
        rcases aN h with⟨c131,h⟩|⟨c131,h⟩
        ·obtain rfl:=lf h
         exact bA fh (p132<|sg 52 c131<|eF .normal (ak e ok m m2 m3 m4 m5 m6 m7 m8 m9 true))<|by kernel_rfl
        ·have p134:=fun{sc F} (r:PS sc F)=>p132<|sg 52 c131<|ss<|r
         rcases aN h with⟨c133,h⟩|⟨c133,h⟩
         ·obtain rfl:=lf h
          exact bA fh (p134<|sg 56 c133<|sv (aK e)<|sv (aL e)<|bU (d5.ln e.Types)<|eF .normal (ak e ok m m2 m3 m4 m5 m6 m7 m8 m9 (decide ((e.Types.length:Int)>0))))<|by kernel_rfl
         ·obtain rfl:=lf h
          exact bA fh (p134<|sg 56 c133<|eF .normal (ak e ok m m2 m3 m4 m5 m6 m7 m8 m9 false))<|by kernel_rfl
       ·have p136:=fun{sc F} (r:PS sc F)=>p130<|sg 45 c129<|ss<|r
        rcases aN h with⟨c135,h⟩|⟨c135,h⟩
        ·obtain rfl:=lf h
         exact bA fh (p136<|sg 56 c135<|sv (aK e)<|sv (aL e)<|bU (d5.ln e.Types)<|eF .normal (ak e ok m m2 m3 m4 m5 m6 m7 m8 m9 (decide ((e.Types.length:Int)>0))))<|by kernel_rfl
        ·obtain rfl:=lf h
         exact bA fh (p136<|sg 56 c135<|eF .normal (ak e ok m m2 m3 m4 m5 m6 m7 m8 m9 false))<|by kernel_rfl
     ·have p138:=fun{sc F} (r:PS sc F)=>p126<|sg 34 c125<|ss<|r
      rcases aN h with⟨c137,h⟩|⟨c137,h⟩
      ·have p140:=fun{sc F} (r:PS sc F)=>p138<|sg 45 c137<|sv (aH e)<|sv (aJ e)<|bU (fo.ln e.Alts)<|r
       rcases aN h with⟨c139,h⟩|⟨c139,h⟩
       ·obtain rfl:=lf h
        exact bA fh (p140<|sg 52 c139<|eF .normal (ak e ok m m2 m3 m4 m5 m6 m7 m8 m9 true))<|by kernel_rfl
       ·have p142:=fun{sc F} (r:PS sc F)=>p140<|sg 52 c139<|ss<|r
        rcases aN h with⟨c141,h⟩|⟨c141,h⟩
        ·obtain rfl:=lf h
         exact bA fh (p142<|sg 56 c141<|sv (aK e)<|sv (aL e)<|bU (d5.ln e.Types)<|eF .normal (ak e ok m m2 m3 m4 m5 m6 m7 m8 m9 (decide ((e.Types.length:Int)>0))))<|by kernel_rfl
        ·obtain rfl:=lf h
         exact bA fh (p142<|sg 56 c141<|eF .normal (ak e ok m m2 m3 m4 m5 m6 m7 m8 m9 false))<|by kernel_rfl
      ·have p144:=fun{sc F} (r:PS sc F)=>p138<|sg 45 c137<|ss<|r
       rcases aN h with⟨c143,h⟩|⟨c143,h⟩
       ·obtain rfl:=lf h
        exact bA fh (p144<|sg 56 c143<|sv (aK e)<|sv (aL e)<|bU (d5.ln e.Types)<|eF .normal (ak e ok m m2 m3 m4 m5 m6 m7 m8 m9 (decide ((e.Types.length:Int)>0))))<|by kernel_rfl
       ·obtain rfl:=lf h
        exact bA fh (p144<|sg 56 c143<|eF .normal (ak e ok m m2 m3 m4 m5 m6 m7 m8 m9 false))<|by kernel_rfl
  ·have p146:=fun{sc F} (r:PS sc F)=>p98<|sg 13 c97<|ss<|r
   rcases aN h with⟨c145,h⟩|⟨c145,h⟩
   ·have p148:=fun{sc F} (r:PS sc F)=>p146<|sg 23 c145<|sv (bu e)<|sv (bv e)<|bU (iJ.ln e.Kids)<|r
    rcases aN h with⟨c147,h⟩|⟨c147,h⟩
    ·obtain rfl:=lf h
     exact bA fh (p148<|sg 30 c147<|eF .normal (ak e ok m m2 m3 m4 m5 m6 m7 m8 m9 true))<|by kernel_rfl
    ·have p150:=fun{sc F} (r:PS sc F)=>p148<|sg 30 c147<|ss<|r
     rcases aN h with⟨c149,h⟩|⟨c149,h⟩
     ·have p152:=fun{sc F} (r:PS sc F)=>p150<|sg 34 c149<|sv (bM e)<|sv (bN e)<|bU (lT.ln e.Params)<|r
      rcases aN h with⟨c151,h⟩|⟨c151,h⟩
      ·obtain rfl:=lf h
       exact bA fh (p152<|sg 41 c151<|eF .normal (ak e ok m m2 m3 m4 m5 m6 m7 m8 m9 true))<|by kernel_rfl
      ·have p154:=fun{sc F} (r:PS sc F)=>p152<|sg 41 c151<|ss<|r
       rcases aN h with⟨c153,h⟩|⟨c153,h⟩
       ·have p156:=fun{sc F} (r:PS sc F)=>p154<|sg 45 c153<|sv (aH e)<|sv (aJ e)<|bU (fo.ln e.Alts)<|r
        rcases aN h with⟨c155,h⟩|⟨c155,h⟩
        ·obtain rfl:=lf h
         exact bA fh (p156<|sg 52 c155<|eF .normal (ak e ok m m2 m3 m4 m5 m6 m7 m8 m9 true))<|by kernel_rfl
        ·have p158:=fun{sc F} (r:PS sc F)=>p156<|sg 52 c155<|ss<|r
         rcases aN h with⟨c157,h⟩|⟨c157,h⟩
         ·obtain rfl:=lf h
          exact bA fh (p158<|sg 56 c157<|sv (aK e)<|sv (aL e)<|bU (d5.ln e.Types)<|eF .normal (ak e ok m m2 m3 m4 m5 m6 m7 m8 m9 (decide ((e.Types.length:Int)>0))))<|by kernel_rfl
         ·obtain rfl:=lf h
          exact bA fh (p158<|sg 56 c157<|eF .normal (ak e ok m m2 m3 m4 m5 m6 m7 m8 m9 false))<|by kernel_rfl
       ·have p160:=fun{sc F} (r:PS sc F)=>p154<|sg 45 c153<|ss<|r
        rcases aN h with⟨c159,h⟩|⟨c159,h⟩
        ·obtain rfl:=lf h
         exact bA fh (p160<|sg 56 c159<|sv (aK e)<|sv (aL e)<|bU (d5.ln e.Types)<|eF .normal (ak e ok m m2 m3 m4 m5 m6 m7 m8 m9 (decide ((e.Types.length:Int)>0))))<|by kernel_rfl
        ·obtain rfl:=lf h
         exact bA fh (p160<|sg 56 c159<|eF .normal (ak e ok m m2 m3 m4 m5 m6 m7 m8 m9 false))<|by kernel_rfl
     ·have p162:=fun{sc F} (r:PS sc F)=>p150<|sg 34 c149<|ss<|r
      rcases aN h with⟨c161,h⟩|⟨c161,h⟩
      ·have p164:=fun{sc F} (r:PS sc F)=>p162<|sg 45 c161<|sv (aH e)<|sv (aJ e)<|bU (fo.ln e.Alts)<|r
       rcases aN h with⟨c163,h⟩|⟨c163,h⟩
       ·obtain rfl:=lf h
        exact bA fh (p164<|sg 52 c163<|eF .normal (ak e ok m m2 m3 m4 m5 m6 m7 m8 m9 true))<|by kernel_rfl
       ·have p166:=fun{sc F} (r:PS sc F)=>p164<|sg 52 c163<|ss<|r
        rcases aN h with⟨c165,h⟩|⟨c165,h⟩
        ·obtain rfl:=lf h
         exact bA fh (p166<|sg 56 c165<|sv (aK e)<|sv (aL e)<|bU (d5.ln e.Types)<|eF .normal (ak e ok m m2 m3 m4 m5 m6 m7 m8 m9 (decide ((e.Types.length:Int)>0))))<|by kernel_rfl
        ·obtain rfl:=lf h
         exact bA fh (p166<|sg 56 c165<|eF .normal (ak e ok m m2 m3 m4 m5 m6 m7 m8 m9 false))<|by kernel_rfl
      ·have p168:=fun{sc F} (r:PS sc F)=>p162<|sg 45 c161<|ss<|r
       rcases aN h with⟨c167,h⟩|⟨c167,h⟩
       ·obtain rfl:=lf h
        exact bA fh (p168<|sg 56 c167<|sv (aK e)<|sv (aL e)<|bU (d5.ln e.Types)<|eF .normal (ak e ok m m2 m3 m4 m5 m6 m7 m8 m9 (decide ((e.Types.length:Int)>0))))<|by kernel_rfl
       ·obtain rfl:=lf h
        exact bA fh (p168<|sg 56 c167<|eF .normal (ak e ok m m2 m3 m4 m5 m6 m7 m8 m9 false))<|by kernel_rfl
   ·have p170:=fun{sc F} (r:PS sc F)=>p146<|sg 23 c145<|ss<|r
    rcases aN h with⟨c169,h⟩|⟨c169,h⟩
    ·have p172:=fun{sc F} (r:PS sc F)=>p170<|sg 34 c169<|sv (bM e)<|sv (bN e)<|bU (lT.ln e.Params)<|r
     rcases aN h with⟨c171,h⟩|⟨c171,h⟩
     ·obtain rfl:=lf h
      exact bA fh (p172<|sg 41 c171<|eF .normal (ak e ok m m2 m3 m4 m5 m6 m7 m8 m9 true))<|by kernel_rfl
     ·have p174:=fun{sc F} (r:PS sc F)=>p172<|sg 41 c171<|ss<|r
      rcases aN h with⟨c173,h⟩|⟨c173,h⟩
      ·have p176:=fun{sc F} (r:PS sc F)=>p174<|sg 45 c173<|sv (aH e)<|sv (aJ e)<|bU (fo.ln e.Alts)<|r
       rcases aN h with⟨c175,h⟩|⟨c175,h⟩
       ·obtain rfl:=lf h
        exact bA fh (p176<|sg 52 c175<|eF .normal (ak e ok m m2 m3 m4 m5 m6 m7 m8 m9 true))<|by kernel_rfl
       ·have p178:=fun{sc F} (r:PS sc F)=>p176<|sg 52 c175<|ss<|r
        rcases aN h with⟨c177,h⟩|⟨c177,h⟩
        ·obtain rfl:=lf h
         exact bA fh (p178<|sg 56 c177<|sv (aK e)<|sv (aL e)<|bU (d5.ln e.Types)<|eF .normal (ak e ok m m2 m3 m4 m5 m6 m7 m8 m9 (decide ((e.Types.length:Int)>0))))<|by kernel_rfl
        ·obtain rfl:=lf h
         exact bA fh (p178<|sg 56 c177<|eF .normal (ak e ok m m2 m3 m4 m5 m6 m7 m8 m9 false))<|by kernel_rfl
      ·have p180:=fun{sc F} (r:PS sc F)=>p174<|sg 45 c173<|ss<|r
       rcases aN h with⟨c179,h⟩|⟨c179,h⟩
       ·obtain rfl:=lf h
        exact bA fh (p180<|sg 56 c179<|sv (aK e)<|sv (aL e)<|bU (d5.ln e.Types)<|eF .normal (ak e ok m m2 m3 m4 m5 m6 m7 m8 m9 (decide ((e.Types.length:Int)>0))))<|by kernel_rfl
       ·obtain rfl:=lf h
        exact bA fh (p180<|sg 56 c179<|eF .normal (ak e ok m m2 m3 m4 m5 m6 m7 m8 m9 false))<|by kernel_rfl
    ·have p182:=fun{sc F} (r:PS sc F)=>p170<|sg 34 c169<|ss<|r
     rcases aN h with⟨c181,h⟩|⟨c181,h⟩
     ·have p184:=fun{sc F} (r:PS sc F)=>p182<|sg 45 c181<|sv (aH e)<|sv (aJ e)<|bU (fo.ln e.Alts)<|r
      rcases aN h with⟨c183,h⟩|⟨c183,h⟩
      ·obtain rfl:=lf h
       exact bA fh (p184<|sg 52 c183<|eF .normal (ak e ok m m2 m3 m4 m5 m6 m7 m8 m9 true))<|by kernel_rfl
      ·have p186:=fun{sc F} (r:PS sc F)=>p184<|sg 52 c183<|ss<|r
       rcases aN h with⟨c185,h⟩|⟨c185,h⟩
       ·obtain rfl:=lf h
        exact bA fh (p186<|sg 56 c185<|sv (aK e)<|sv (aL e)<|bU (d5.ln e.Types)<|eF .normal (ak e ok m m2 m3 m4 m5 m6 m7 m8 m9 (decide ((e.Types.length:Int)>0))))<|by kernel_rfl
       ·obtain rfl:=lf h
        exact bA fh (p186<|sg 56 c185<|eF .normal (ak e ok m m2 m3 m4 m5 m6 m7 m8 m9 false))<|by kernel_rfl
     ·have p188:=fun{sc F} (r:PS sc F)=>p182<|sg 45 c181<|ss<|r
      rcases aN h with⟨c187,h⟩|⟨c187,h⟩
      ·obtain rfl:=lf h
       exact bA fh (p188<|sg 56 c187<|sv (aK e)<|sv (aL e)<|bU (d5.ln e.Types)<|eF .normal (ak e ok m m2 m3 m4 m5 m6 m7 m8 m9 (decide ((e.Types.length:Int)>0))))<|by kernel_rfl
      ·obtain rfl:=lf h
       exact bA fh (p188<|sg 56 c187<|eF .normal (ak e ok m m2 m3 m4 m5 m6 m7 m8 m9 false))<|by kernel_rfl
end
section
variable(e:ag)(ok:Bool)(unused:Bool)(m:Bool)(m2:Bool)(m3:Int)(m4:Int)(m5:Bool)(m6:Bool)(m7:Int)(m8:Int)(m9:Bool)
def E2:aA:=bg 156 [(1,.eptr (af e)),(3,.bptr 1 0),(4,.bool ok),(5,.bool unused)] [.dead,.cells [.bool m,.bool m2,.int .i64 m3,.int .i64 m4,.bool m5,.bool m6,.int .i64 m7,.int .i64 m8,.bool m9] []] []
def qH(o:Bool):aA:=bg 156 [(1,.eptr (af e)),(3,.bptr 1 0),(81,.bool o)] [.dead,.cells [.bool m,.bool m2,.int .i64 m3,.int .i64 m4,.bool m5,.bool m6,.int .i64 m7,.int .i64 m8,.bool m9] []] []
def zZ:Option Bool:=
 if(!ok)=true then
  some true
 else
  some unused
theorem D4{x:Bool}(h:zZ ok unused=some x):aQ Pg GE 0 (cA Mt 122) (EX .normal (qH e m m2 m3 m4 m5 m6 m7 m8 m9 x)) (E2 e ok unused m m2 m3 m4 m5 m6 m7 m8 m9):=by
 rcases aN h with⟨c190,h⟩|⟨c190,h⟩
 ·obtain rfl:=lf h
  exact bA fh (sg 3 c190<|eF .normal (qH e m m2 m3 m4 m5 m6 m7 m8 m9 true))<|by kernel_rfl
 ·obtain rfl:=lf h
  exact bA fh (sg 3 c190<|eF .normal (qH e m m2 m3 m4 m5 m6 m7 m8 m9 unused))<|by kernel_rfl
end
section
variable(e:ag)(m:Bool)(m2:Bool)(m3:Int)(m4:Int)(m5:Bool)(m6:Bool)(m7:Int)(m8:Int)(m9:Bool)
def E3:aA:=bg 156 [(1,.eptr (af e)),(3,.bptr 1 0)] [.dead,.cells [.bool m,.bool m2,.int .i64 m3,.int .i64 m4,.bool m5,.bool m6,.int .i64 m7,.int .i64 m8,.bool m9] []] []
def fa(o:Bool):aA:=bg 156 [(1,.eptr (af e)),(3,.bptr 1 0),(92,.bool o)] [.dead,.cells [.bool m,.bool m2,.int .i64 m3,.int .i64 m4,.bool m5,.bool m6,.int .i64 m7,.int .i64 m8,.bool m9] []] []
def z6:Option Bool:=
 if (e.Op == 1) = true then
  (Qo e.N).bind fun r199=>
  if(!r199)=true then
   some true
  else
   if(e.Op==2)=true then
    if(e.N !=0)=true then
     some (e.N !=1)
    else
     some false
   else
    some false
 else
  if(e.Op==2)=true then
   if(e.N !=0)=true then
    some (e.N !=1)
   else
    some false
  else
   some false
theorem D5{x:Bool}(h:z6 e=some x):aQ Pg GE 0 (cA Mt 1982) (EX .normal (fa e m m2 m3 m4 m5 m6 m7 m8 m9 x)) (E3 e m m2 m3 m4 m5 m6 m7 m8 m9):=by
 have p198:=fun{sc F} (r:PS sc F)=>sv (ei e)<|sv (ej e)<|r
 rcases aN h with⟨c197,h⟩|⟨c197,h⟩
 ·obtain⟨r199,br199,h⟩:=aG h
  have p201:=fun{sc F} (r:PS sc F)=>p198<|sg 4 c197<|sv (hU e)<|sv (jh e)<|du (OG br199)<|r
  rcases aN h with⟨c200,h⟩|⟨c200,h⟩
  ·obtain rfl:=lf h
   exact bA fh (p201<|sg 10 c200<|eF .normal (fa e m m2 m3 m4 m5 m6 m7 m8 m9 true))<|by kernel_rfl
  ·have p203:=fun{sc F} (r:PS sc F)=>p201<|sg 10 c200<|sv (ei e)<|sv (ej e)<|r
   rcases aN h with⟨c202,h⟩|⟨c202,h⟩
   ·have p205:=fun{sc F} (r:PS sc F)=>p203<|sg 14 c202<|sv (hU e)<|sv (jh e)<|r
    rcases aN h with⟨c204,h⟩|⟨c204,h⟩
    ·obtain rfl:=lf h
     exact bA fh (p205<|sg 19 c204<|sv (hU e)<|sv (jh e)<|eF .normal (fa e m m2 m3 m4 m5 m6 m7 m8 m9 (e.N !=1)))<|by kernel_rfl
    ·obtain rfl:=lf h
     exact bA fh (p205<|sg 19 c204<|eF .normal (fa e m m2 m3 m4 m5 m6 m7 m8 m9 false))<|by kernel_rfl
   ·obtain rfl:=lf h
    exact bA fh (p203<|sg 14 c202<|eF .normal (fa e m m2 m3 m4 m5 m6 m7 m8 m9 false))<|by kernel_rfl
 ·have p207:=fun{sc F} (r:PS sc F)=>p198<|sg 4 c197<|sv (ei e)<|sv (ej e)<|r
  rcases aN h with⟨c206,h⟩|⟨c206,h⟩
  ·have p209:=fun{sc F} (r:PS sc F)=>p207<|sg 14 c206<|sv (hU e)<|sv (jh e)<|r
   rcases aN h with⟨c208,h⟩|⟨c208,h⟩
   ·obtain rfl:=lf h
    exact bA fh (p209<|sg 19 c208<|sv (hU e)<|sv (jh e)<|eF .normal (fa e m m2 m3 m4 m5 m6 m7 m8 m9 (e.N !=1)))<|by kernel_rfl
   ·obtain rfl:=lf h
    exact bA fh (p209<|sg 19 c208<|eF .normal (fa e m m2 m3 m4 m5 m6 m7 m8 m9 false))<|by kernel_rfl
  ·obtain rfl:=lf h
   exact bA fh (p207<|sg 14 c206<|eF .normal (fa e m m2 m3 m4 m5 m6 m7 m8 m9 false))<|by kernel_rfl
end
section
variable(e:ag)(t124:waC)(t125:Int)(m:Bool)(m2:Bool)(m3:Int)(m4:Int)(m5:Bool)(m6:Bool)(m7:Int)(m8:Int)(m9:Bool)(t126:Int)
def j1:aA:=bg 156 [(1,.eptr (af e)),(124,sl ai t124),(125,.int .i64 t125),(126,.int .i64 t126)] [.dead,.cells [.bool m,.bool m2,.int .i64 m3,.int .i64 m4,.bool m5,.bool m6,.int .i64 m7,.int .i64 m8,.bool m9] []] []
def j2(o:Int⊕(Unit)):Exit:=match o with
 |(.inl _)=>.ret
 |(.inr _)=>.exit 1
def f9(o:Int⊕(Unit)):aA:=match o with
 |(.inl o)=>bg 156 [(2,.int .i64 o)] [.dead,.cells [.bool m,.bool m2,.int .i64 m3,.int .i64 m4,.bool m5,.bool m6,.int .i64 m7,.int .i64 m8,.bool m9] []] []
 |(.inr o)=>bg 156 [(1,.eptr (af e))] [.dead,.cells [.bool m,.bool m2,.int .i64 m3,.int .i64 m4,.bool m5,.bool m6,.int .i64 m7,.int .i64 m8,.bool m9] []] []
def wy:Option (Int⊕(Int⊕(Unit))):=
 if(decide (t126<t125))=true then
  (fJ t124 t126).bind fun x217=>
  (Ad x217).bind fun r218=>
  if(r218 !=0)=true then
   some (.inr (.inl r218))
  else
   some (.inl (ca (t126+1)))
 else
  some (.inr (.inr ()))
def z8:Option (Int⊕(Unit)):=loop (fun(zz:Int)=>wy t124 t125 zz) t126
theorem CK{y:Int⊕(Int⊕(Unit))}(h:wy t124 t125 t126=some y):aQ Pg GE 0 (cA Mt 1015) (LQ (fun(zz:Int)=>j1 e t124 t125 m m2 m3 m4 m5 m6 m7 m8 m9 zz) j2 (f9 e m m2 m3 m4 m5 m6 m7 m8 m9) y) (j1 e t124 t125 m m2 m3 m4 m5 m6 m7 m8 m9 t126):=by
 rcases aN h with⟨c216,h⟩|⟨c216,h⟩
 ·obtain⟨x217,bx217,h⟩:=aG h
  obtain⟨r218,br218,h⟩:=aG h
  have p220:=fun{sc F} (r:PS sc F)=>sg 0 c216<|sv (d5.ia (k:=.i64) bx217)<|sv (ku x217)<|sx Na<|sx (qB x217)<|sv (jO x217 [])<|du (Ae br218)<|r
  rcases aN h with⟨c219,h⟩|⟨c219,h⟩
  ·obtain rfl:=lf h
   have z:=p220<|sg 0 c219<|rx 0 (j2 (.inl r218)) (f9 e m m2 m3 m4 m5 m6 m7 m8 m9 (.inl r218)) rfl (dv (aI trivial trivial)) (aI trivial (aI (aI trivial (aI trivial (aI trivial (aI trivial (aI trivial (aI trivial (aI trivial (aI trivial (aI trivial trivial))))))))) trivial))
   exact mZ (A:=fh) mixed (by intro hx;cases hx) z<|by kernel_rfl
  ·obtain rfl:=lf h
   have z:=p220<|sg 0 c219<|rx 0 .normal (j1 e t124 t125 m m2 m3 m4 m5 m6 m7 m8 m9 (ca (t126+1))) rfl (dv (aI (bk (az e)) (aI (up (am aE t124)) (aI trivial (aI trivial trivial))))) (aI trivial (aI (aI trivial (aI trivial (aI trivial (aI trivial (aI trivial (aI trivial (aI trivial (aI trivial (aI trivial trivial))))))))) trivial))
   exact d4 (A:=fh) mixed z<|by kernel_rfl
 ·obtain rfl:=lf h
  have z:=sg 0 c216<|eF (j2 (.inr ())) (f9 e m m2 m3 m4 m5 m6 m7 m8 m9 (.inr ()))
  exact iI fh (by intro hx;cases hx) z<|by kernel_rfl
theorem pO{x:Int⊕(Unit)}(h:z8 t124 t125 t126=some x):aQ Pg GE 0 (.loop (cA Mt 1015)) (EX (j2 x) (f9 e m m2 m3 m4 m5 m6 m7 m8 m9 x)) (j1 e t124 t125 m m2 m3 m4 m5 m6 m7 m8 m9 t126):=
 aQ.loop (S:=fun(zz:Int)=>j1 e t124 t125 m m2 m3 m4 m5 m6 m7 m8 m9 zz) (ex:=j2) (s:=t126) h fun zz y hy=>CK e t124 t125 m m2 m3 m4 m5 m6 m7 m8 m9 zz hy
end
section
variable(v:Int)(t137:waG)(t138:Int)(t139:Int)(m:Bool)(m2:Bool)(m3:Int)(m4:Int)(m5:Bool)(m6:Bool)(m7:Int)(m8:Int)(m9:Bool)(m10:ae)(m11:Int)(m12:ae)(m13:waC)(m14:waA)(m15:Int)(m16:ae)(m17:Int)(m18:waB)(m19:waB)
def E4:aA:=bg 156 [(11,.bptr 2 0),(12,.int .i64 v),(137,sl av t137),(138,.int .i64 t138),(139,.int .i64 t139)] [.dead,.cells [.bool m,.bool m2,.int .i64 m3,.int .i64 m4,.bool m5,.bool m6,.int .i64 m7,.int .i64 m8,.bool m9] [],.cells [.str m10,.int .i64 m11,.str m12,sl ai m13,sl cS m14,.int .i64 m15,.str m16,.int .i64 m17,sl al m18,sl al m19] []] []
def qI(o:Bool):aA:=bg 156 [(12,.int .i64 v),(137,sl av t137),(138,.int .i64 t138),(139,.int .i64 t139),(153,.bool o)] [.dead,.cells [.bool m,.bool m2,.int .i64 m3,.int .i64 m4,.bool m5,.bool m6,.int .i64 m7,.int .i64 m8,.bool m9] [],.cells [.str m10,.int .i64 m11,.str m12,sl ai m13,sl cS m14,.int .i64 m15,.str m16,.int .i64 m17,sl al m18,sl al m19] []] []
def z7:Option Bool:=
 if(v !=0)=true then
  (FA (⟨m11,m12,m13,m14,(⟨m15,m16,m17,m18⟩:aj),m19⟩:ah)).bind fun r226=>
  some (!r226)
 else
  some false
theorem D6{x:Bool}(h:z7 v m11 m12 m13 m14 m15 m16 m17 m18 m19=some x):aQ Pg GE 0 (cA Mt 261102) (EX .normal (qI v t137 t138 t139 m m2 m3 m4 m5 m6 m7 m8 m9 m10 m11 m12 m13 m14 m15 m16 m17 m18 m19 x)) (E4 v t137 t138 t139 m m2 m3 m4 m5 m6 m7 m8 m9 m10 m11 m12 m13 m14 m15 m16 m17 m18 m19):=by
 rcases aN h with⟨c225,h⟩|⟨c225,h⟩
 ·obtain⟨r226,br226,h⟩:=aG h
  obtain rfl:=lf h
  exact bA fh (sg 3 c225<|sv (jO (⟨m11,m12,m13,m14,(⟨m15,m16,m17,m18⟩:aj),m19⟩:ah) [])<|du (H4 br226)<|eF .normal (qI v t137 t138 t139 m m2 m3 m4 m5 m6 m7 m8 m9 m10 m11 m12 m13 m14 m15 m16 m17 m18 m19 (!r226)))<|by kernel_rfl
 ·obtain rfl:=lf h
  exact bA fh (sg 3 c225<|eF .normal (qI v t137 t138 t139 m m2 m3 m4 m5 m6 m7 m8 m9 m10 m11 m12 m13 m14 m15 m16 m17 m18 m19 false))<|by kernel_rfl
end
section
variable(t137:waG)(t138:Int)(m:Bool)(m2:Bool)(m3:Int)(m4:Int)(m5:Bool)(m6:Bool)(m7:Int)(m8:Int)(m9:Bool)(t139:Int)
def j3:aA:=bg 156 [(137,sl av t137),(138,.int .i64 t138),(139,.int .i64 t139)] [.dead,.cells [.bool m,.bool m2,.int .i64 m3,.int .i64 m4,.bool m5,.bool m6,.int .i64 m7,.int .i64 m8,.bool m9] []] []
def j4(o:Int⊕(Unit)):Exit:=match o with
 |(.inl _)=>.ret
 |(.inr _)=>.exit 3
def im(o:Int⊕(Unit)):aA:=match o with
 |(.inl o)=>bg 156 [(2,.int .i64 o)] [.dead,.cells [.bool m,.bool m2,.int .i64 m3,.int .i64 m4,.bool m5,.bool m6,.int .i64 m7,.int .i64 m8,.bool m9] []] []
 |(.inr o)=>bg 156 [] [.dead,.cells [.bool m,.bool m2,.int .i64 m3,.int .i64 m4,.bool m5,.bool m6,.int .i64 m7,.int .i64 m8,.bool m9] []] []
def wz:Option (Int⊕(Int⊕(Unit))):=
 if(decide (t139<t138))=true then
  (fJ t137 t139).bind fun x223=>
  (Ad x223.Type_).bind fun r224=>
  (z7 r224 x223.Type_.Op x223.Type_.Name x223.Type_.Args x223.Type_.Names x223.Type_.Pred.Op x223.Type_.Pred.Name x223.Type_.Pred.N x223.Type_.Pred.Kids x223.Type_.Preds).bind fun o227=>
  if o227=true then
   some (.inr (.inl r224))
  else
   some (.inl (ca (t139+1)))
 else
  some (.inr (.inr ()))
def Aa:Option (Int⊕(Unit)):=loop (fun(zz:Int)=>wz t137 t138 zz) t139
theorem CL{y:Int⊕(Int⊕(Unit))}(h:wz t137 t138 t139=some y):aQ Pg GE 0 (cA Mt 2039) (LQ (fun(zz:Int)=>j3 t137 t138 m m2 m3 m4 m5 m6 m7 m8 m9 zz) j4 (im m m2 m3 m4 m5 m6 m7 m8 m9) y) (j3 t137 t138 m m2 m3 m4 m5 m6 m7 m8 m9 t139):=by
 rcases aN h with⟨c222,h⟩|⟨c222,h⟩
 ·obtain⟨x223,bx223,h⟩:=aG h
  obtain⟨r224,br224,h⟩:=aG h
  obtain⟨o227,bo227,h⟩:=aG h
  have p229:=fun{sc F} (r:PS sc F)=>sg 0 c222<|sv (lT.ia (k:=.i64) bx223)<|sv (As x223)<|sx OY<|sx (mi x223)<|sv (jO x223.Type_ [])<|du (Ae br224)<|qk 0<|cY (D6 r224 t137 t138 t139 m m2 m3 m4 m5 m6 m7 m8 m9 x223.Name x223.Type_.Op x223.Type_.Name x223.Type_.Args x223.Type_.Names x223.Type_.Pred.Op x223.Type_.Pred.Name x223.Type_.Pred.N x223.Type_.Pred.Kids x223.Type_.Preds bo227)<|r
  rcases aN h with⟨c228,h⟩|⟨c228,h⟩
  ·obtain rfl:=lf h
   have z:=p229<|sg 0 c228<|rx 0 (j4 (.inl r224)) (im m m2 m3 m4 m5 m6 m7 m8 m9 (.inl r224)) rfl (dv (aI trivial trivial)) (aI trivial (aI (aI trivial (aI trivial (aI trivial (aI trivial (aI trivial (aI trivial (aI trivial (aI trivial (aI trivial trivial))))))))) trivial))
   exact mZ (A:=fh) mixed (by intro hx;cases hx) z<|by kernel_rfl
  ·obtain rfl:=lf h
   have z:=p229<|sg 0 c228<|rx 0 .normal (j3 t137 t138 m m2 m3 m4 m5 m6 m7 m8 m9 (ca (t139+1))) rfl (dv (aI (up (am ba t137)) (aI trivial (aI trivial trivial)))) (aI trivial (aI (aI trivial (aI trivial (aI trivial (aI trivial (aI trivial (aI trivial (aI trivial (aI trivial (aI trivial trivial))))))))) trivial))
   exact d4 (A:=fh) mixed z<|by kernel_rfl
 ·obtain rfl:=lf h
  have z:=sg 0 c222<|eF (j4 (.inr ())) (im m m2 m3 m4 m5 m6 m7 m8 m9 (.inr ()))
  exact iI fh (by intro hx;cases hx) z<|by kernel_rfl
theorem uZ{x:Int⊕(Unit)}(h:Aa t137 t138 t139=some x):aQ Pg GE 0 (.loop (cA Mt 2039)) (EX (j4 x) (im m m2 m3 m4 m5 m6 m7 m8 m9 x)) (j3 t137 t138 m m2 m3 m4 m5 m6 m7 m8 m9 t139):=
 aQ.loop (S:=fun(zz:Int)=>j3 t137 t138 m m2 m3 m4 m5 m6 m7 m8 m9 zz) (ex:=j4) (s:=t139) h fun zz y hy=>CL t137 t138 m m2 m3 m4 m5 m6 m7 m8 m9 zz hy
end
def Fy (e:ag):Option Int :=
 (BJ e.Op).bind fun r1=>
 (zY e r1.1.n r1.1.name r1.1.most r1.1.params r1.1.alts r1.1.types).bind fun o189=>
 (zZ r1.2 o189).bind fun o191=>
 if o191=true then
  some 1
 else
  (BH e r1.1).bind fun r194=>
  if(!r194)=true then
   some 13
  else
   (z6 e).bind fun o210=>
   if o210=true then
    some 2
   else
    (DZ e r1.1).bind fun r213=>
    if(r213 !=0)=true then
     some r213
    else
     (z8 e.Types (e.Types.length:Int) 0).bind fun o221=>match o221 with
     |(.inl o221)=>
      some o221
     | (.inr o221) =>
      (Aa e.Params (e.Params.length:Int) 0).bind fun o230=>match o230 with
      |(.inl o230)=>
       some o230
      |(.inr o230)=>
       some 0
theorem H3{e:ag}{r:Int}(h:Fy e=some r):CC Pg GE 66 [.agg (af e)] (.int .i64 r) []:=by
 obtain⟨r1,br1,h⟩:=aG h
 obtain⟨o189,bo189,h⟩:=aG h
 obtain⟨o191,bo191,h⟩:=aG h
 have p193:=fun{sc F} (r:PS sc F)=>se (dM e)<|sv (ei e)<|sv (ej e)<|du (E5 br1)<|sx Sq<|sx (ck r1.1)<|qk 0<|cY (D3 e r1.2 r1.1.n r1.1.name r1.1.least r1.1.most r1.1.params r1.1.alts r1.1.typesLeast r1.1.typesMost r1.1.types bo189)<|qk 1<|cY (D4 e r1.2 o189 r1.1.n r1.1.name r1.1.least r1.1.most r1.1.params r1.1.alts r1.1.typesLeast r1.1.typesMost r1.1.types bo191)<|r
 rcases aN h with⟨c192,h⟩|⟨c192,h⟩
 ·obtain rfl:=lf h
  have z:=p193<|sg 0 c192<|en (aI (rP (.int .i64 1))<|trivial)
  exact cH fh call66 func66 (c:=Mt) rfl (aI (az e) trivial) z<|by kernel_rfl
 ·obtain⟨r194,br194,h⟩:=aG h
  have p196:=fun{sc F} (r:PS sc F)=>p193<|sg 0 c192<|sv (cu e)<|sv (vU r1.1 [])<|du (EZ br194)<|r
  rcases aN h with⟨c195,h⟩|⟨c195,h⟩
  ·obtain rfl:=lf h
   have z:=p196<|sg 0 c195<|en (aI (rP (.int .i64 13))<|trivial)
   exact cH fh call66 func66 (c:=Mt) rfl (aI (az e) trivial) z<|by kernel_rfl
  ·obtain⟨o210,bo210,h⟩:=aG h
   have p212:=fun{sc F} (r:PS sc F)=>p196<|sg 0 c195<|qk 0<|cY (D5 e r1.1.n r1.1.name r1.1.least r1.1.most r1.1.params r1.1.alts r1.1.typesLeast r1.1.typesMost r1.1.types bo210)<|r
   rcases aN h with⟨c211,h⟩|⟨c211,h⟩
   ·obtain rfl:=lf h
    have z:=p212<|sg 0 c211<|en (aI (rP (.int .i64 2))<|trivial)
    exact cH fh call66 func66 (c:=Mt) rfl (aI (az e) trivial) z<|by kernel_rfl
   ·obtain⟨r213,br213,h⟩:=aG h
    have p215:=fun{sc F} (r:PS sc F)=>p212<|sg 0 c211<|sv (cu e)<|sv (vU r1.1 [])<|du (Gi br213)<|r
    rcases aN h with⟨c214,h⟩|⟨c214,h⟩
    ·obtain rfl:=lf h
     have z:=p215<|sg 0 c214<|en (aI (rP (.int .i64 r213))<|trivial)
     exact cH fh call66 func66 (c:=Mt) rfl (aI (az e) trivial) z<|by kernel_rfl
    ·obtain⟨o221,bo221,h⟩:=aG h
     rcases o221 with o221|o221
     ·obtain rfl:=lf h
      have z:=p215<|sg 0 c214<|sv (aK e)<|sv (aL e)<|bU (d5.ln e.Types)<|cY (e:=.ret) (s1:=f9 e r1.1.n r1.1.name r1.1.least r1.1.most r1.1.params r1.1.alts r1.1.typesLeast r1.1.typesMost r1.1.types (.inl o221)) (pO e e.Types (e.Types.length:Int) r1.1.n r1.1.name r1.1.least r1.1.most r1.1.params r1.1.alts r1.1.typesLeast r1.1.typesMost r1.1.types 0 bo221)<|en (aI (rP (.int .i64 o221))<|trivial)
      exact cH fh call66 func66 (c:=Mt) rfl (aI (az e) trivial) z<|by kernel_rfl
     ·obtain⟨o230,bo230,h⟩:=aG h
      rcases o230 with o230|o230
      ·obtain rfl:=lf h
       have z:=p215<|sg 0 c214<|sv (aK e)<|sv (aL e)<|bU (d5.ln e.Types)<|cY (e:=.exit 1) (s1:=f9 e r1.1.n r1.1.name r1.1.least r1.1.most r1.1.params r1.1.alts r1.1.typesLeast r1.1.typesMost r1.1.types (.inr o221)) (pO e e.Types (e.Types.length:Int) r1.1.n r1.1.name r1.1.least r1.1.most r1.1.params r1.1.alts r1.1.typesLeast r1.1.typesMost r1.1.types 0 bo221)<|sv (bM e)<|sv (bN e)<|bU (lT.ln e.Params)<|cY (e:=.ret) (s1:=im r1.1.n r1.1.name r1.1.least r1.1.most r1.1.params r1.1.alts r1.1.typesLeast r1.1.typesMost r1.1.types (.inl o230)) (uZ e.Params (e.Params.length:Int) r1.1.n r1.1.name r1.1.least r1.1.most r1.1.params r1.1.alts r1.1.typesLeast r1.1.typesMost r1.1.types 0 bo230)<|en (aI (rP (.int .i64 o230))<|trivial)
       exact cH fh call66 func66 (c:=Mt) rfl (aI (az e) trivial) z<|by kernel_rfl
      ·obtain rfl:=lf h
       have z:=p215<|sg 0 c214<|sv (aK e)<|sv (aL e)<|bU (d5.ln e.Types)<|cY (e:=.exit 1) (s1:=f9 e r1.1.n r1.1.name r1.1.least r1.1.most r1.1.params r1.1.alts r1.1.typesLeast r1.1.typesMost r1.1.types (.inr o221)) (pO e e.Types (e.Types.length:Int) r1.1.n r1.1.name r1.1.least r1.1.most r1.1.params r1.1.alts r1.1.typesLeast r1.1.typesMost r1.1.types 0 bo221)<|sv (bM e)<|sv (bN e)<|bU (lT.ln e.Params)<|cY (e:=.exit 3) (s1:=im r1.1.n r1.1.name r1.1.least r1.1.most r1.1.params r1.1.alts r1.1.typesLeast r1.1.typesMost r1.1.types (.inr o230)) (uZ e.Params (e.Params.length:Int) r1.1.n r1.1.name r1.1.least r1.1.most r1.1.params r1.1.alts r1.1.typesLeast r1.1.typesMost r1.1.types 0 bo230)<|en (aI (rP (.int .i64 0))<|trivial)
       exact cH fh call66 func66 (c:=Mt) rfl (aI (az e) trivial) z<|by kernel_rfl
noncomputable def WO:Code:=f65.body.getD .skip
def Wz:List Nat:=[]
def zN(a:ag)(k0:Int):Option (Bool×Int):=
 (Fy a).bind fun r1=>
 some (r1==0,r1)
theorem DS{a:ag}{k0:Int}{r:Bool×Int}(h:zN a k0=some r):C Pg GE 65 [.agg (af a),.bptr 0 0] [] [.cells [.int .i64 k0] []] (.bool r.1) [] [.cells [.int .i64 r.2] []]:=by
 obtain⟨r1,br1,h⟩:=aG h
 obtain rfl:=lf h
 have z:=se (dM a)<|sv (cu a)<|du (H3 br1)<|ss<|ss<|en (aI (rP (.bool (r1==0)))<|aI trivial<|aI (rL [.cells [.int .i64 r1] []])<|(aI (aI trivial trivial) trivial))
 exact C.evGp (A:=Wz) mixed (m:=1) (c:=WO) rfl call65 func65 rfl z<|by kernel_rfl
section
variable(R58:fH)(e:ag)(t14:waH)(t15:Int)(t16:Int)(m:Int)
def eG:aA:=bg 38 [(1,.func (.func 65) [] [.bptr 0 0]),(2,.eptr (af e)),(14,sl af t14),(15,.int .i64 t15),(16,.int .i64 t16)] [.cells [.int .i64 m] [],.dead] []
def eH(o:Int⊕(Int)):Exit:=match o with
 |(.inl _)=>.ret
 |(.inr _)=>.exit 0
def cT(o:Int⊕(Int)):aA:=match o with
 |(.inl o)=>bg 38 [(4,.bool false)] [.cells [.int .i64 o] [],.dead] []
 |(.inr o)=>bg 38 [(1,.func (.func 65) [] [.bptr 0 0]),(2,.eptr (af e))] [.cells [.int .i64 o] [],.dead] []
def nO:Option ((Int×Int)⊕(Int⊕(Int))):=
 if(decide (t16<t15))=true then
  (fJ t14 t16).bind fun x5=>
  (R58 x5 m).bind fun r6=>
  if(!r6.1)=true then
   some (.inr (.inl r6.2))
  else
   some (.inl (ca (t16+1),r6.2))
 else
  some (.inr (.inr m))
def pR:Option (Int⊕(Int)):=loop (fun(zz:Int×Int)=>nO R58 t14 t15 zz.1 zz.2) (t16,m)
theorem tT(hR58:fF R58){y:(Int×Int)⊕(Int⊕(Int))}(h:nO R58 t14 t15 t16 m=some y):aQ Pg GE 1 (cA Gt 119) (LQ (fun(zz:Int×Int)=>eG e t14 t15 zz.1 zz.2) eH (cT e) y) (eG e t14 t15 t16 m):=by
 rcases aN h with⟨c4,h⟩|⟨c4,h⟩
 ·obtain⟨x5,bx5,h⟩:=aG h
  obtain⟨r6,br6,h⟩:=aG h
  have p8:=fun{sc F} (r:PS sc F)=>sg 0 c4<|sv (iJ.ia (k:=.i64) bx5)<|sv (cu x5)<|sx yx<|sx (ly x5)<|sv (b8 x5 [])<|si (.cg ⟨[0],[.agg (af x5),.func (.func 65) [] [.bptr 0 0]],[],[.cells [.int .i64 m] []],[.cells [.int .i64 m] []],[.cells [.int .i64 r6.2] []],[.cells [.int .i64 r6.2] []],.bool r6.1,.bool r6.1,[]⟩) (hR58 _ _ _ br6)<|sf (aI (xR [0] (.agg (af x5)) (az x5)) (aI (xF [0] (.func 65) [] [.bptr 0 0] [] [.bptr 0 0] trivial (aI (xB [0] 0 0 0 rfl) trivial)) trivial))<|sf (aI (aI (rB (.cells [.int .i64 m] [])) (aI (rW []) (aI (xR [0] (.int .i64 m) trivial) trivial))) trivial)<|sf (aI (aI (rW []) (aI (xR [0] (.int .i64 r6.2) trivial) trivial)) trivial)<|sf (xR [0] (.bool r6.1) trivial)<|r
  rcases aN h with⟨c7,h⟩|⟨c7,h⟩
  ·obtain rfl:=lf h
   have z:=p8<|sg 0 c7<|rx 1 (eH (.inl r6.2)) (cT e (.inl r6.2)) rfl (dv (aI trivial trivial)) (aI (aI trivial trivial) (aI trivial trivial))
   exact mZ (A:=CT) mixed (by intro hx;cases hx) z<|by kernel_rfl
  ·obtain rfl:=lf h
   have z:=p8<|sg 0 c7<|rx 1 .normal (eG e t14 t15 (ca (t16+1)) r6.2) rfl (dv (aI (aI trivial (aI (bh rfl) trivial)) (aI (bk (az e)) (aI (up (am az t14)) (aI trivial (aI trivial trivial)))))) (aI (aI trivial trivial) (aI trivial trivial))
   exact d4 (A:=CT) mixed z<|by kernel_rfl
 ·obtain rfl:=lf h
  have z:=sg 0 c4<|eF (eH (.inr m)) (cT e (.inr m))
  exact iI CT (by intro hx;cases hx) z<|by kernel_rfl
theorem iT(hR58:fF R58){x:Int⊕(Int)}(h:pR R58 t14 t15 t16 m=some x):aQ Pg GE 1 (.loop (cA Gt 119)) (EX (eH x) (cT e x)) (eG e t14 t15 t16 m):=
 aQ.loop (S:=fun(zz:Int×Int)=>eG e t14 t15 zz.1 zz.2) (ex:=eH) (s:=(t16,m)) h fun zz y hy=>tT R58 e t14 t15 zz.1 zz.2 hR58 hy
end
section
variable(R58:fH)(t26:waD)(t27:Int)(t28:Int)(m:Int)
def eI:aA:=bg 38 [(1,.func (.func 65) [] [.bptr 0 0]),(26,sl ay t26),(27,.int .i64 t27),(28,.int .i64 t28)] [.cells [.int .i64 m] [],.dead] []
def eJ(o:Int⊕(Int)):Exit:=match o with
 |(.inl _)=>.ret
 |(.inr _)=>.exit 2
def dO(o:Int⊕(Int)):aA:=match o with
 |(.inl o)=>bg 38 [(4,.bool false)] [.cells [.int .i64 o] [],.dead] []
 |(.inr o)=>bg 38 [] [.cells [.int .i64 o] [],.dead] []
def nQ:Option ((Int×Int)⊕(Int⊕(Int))):=
 if(decide (t28<t27))=true then
  (fJ t26 t28).bind fun x11=>
  (R58 x11.Body m).bind fun r12=>
  if(!r12.1)=true then
   some (.inr (.inl r12.2))
  else
   some (.inl (ca (t28+1),r12.2))
 else
  some (.inr (.inr m))
def pS:Option (Int⊕(Int)):=loop (fun(zz:Int×Int)=>nQ R58 t26 t27 zz.1 zz.2) (t28,m)
theorem tU(hR58:fF R58){y:(Int×Int)⊕(Int⊕(Int))}(h:nQ R58 t26 t27 t28 m=some y):aQ Pg GE 1 (cA Gt 247) (LQ (fun(zz:Int×Int)=>eI t26 t27 zz.1 zz.2) eJ dO y) (eI t26 t27 t28 m):=by
 rcases aN h with⟨c10,h⟩|⟨c10,h⟩
 ·obtain⟨x11,bx11,h⟩:=aG h
  obtain⟨r12,br12,h⟩:=aG h
  have p14:=fun{sc F} (r:PS sc F)=>sg 0 c10<|sv (fo.ia (k:=.i64) bx11)<|sv (mF x11)<|sx Gd<|sx (ji x11)<|sv (b8 x11.Body [])<|si (.cg ⟨[0],[.agg (af x11.Body),.func (.func 65) [] [.bptr 0 0]],[],[.cells [.int .i64 m] []],[.cells [.int .i64 m] []],[.cells [.int .i64 r12.2] []],[.cells [.int .i64 r12.2] []],.bool r12.1,.bool r12.1,[]⟩) (hR58 _ _ _ br12)<|sf (aI (xR [0] (.agg (af x11.Body)) (az x11.Body)) (aI (xF [0] (.func 65) [] [.bptr 0 0] [] [.bptr 0 0] trivial (aI (xB [0] 0 0 0 rfl) trivial)) trivial))<|sf (aI (aI (rB (.cells [.int .i64 m] [])) (aI (rW []) (aI (xR [0] (.int .i64 m) trivial) trivial))) trivial)<|sf (aI (aI (rW []) (aI (xR [0] (.int .i64 r12.2) trivial) trivial)) trivial)<|sf (xR [0] (.bool r12.1) trivial)<|r
  rcases aN h with⟨c13,h⟩|⟨c13,h⟩
  ·obtain rfl:=lf h
   have z:=p14<|sg 0 c13<|rx 1 (eJ (.inl r12.2)) (dO (.inl r12.2)) rfl (dv (aI trivial trivial)) (aI (aI trivial trivial) (aI trivial trivial))
   exact mZ (A:=CT) mixed (by intro hx;cases hx) z<|by kernel_rfl
  ·obtain rfl:=lf h
   have z:=p14<|sg 0 c13<|rx 1 .normal (eI t26 t27 (ca (t28+1)) r12.2) rfl (dv (aI (aI trivial (aI (bh rfl) trivial)) (aI (up (am bL t26)) (aI trivial (aI trivial trivial))))) (aI (aI trivial trivial) (aI trivial trivial))
   exact d4 (A:=CT) mixed z<|by kernel_rfl
 ·obtain rfl:=lf h
  have z:=sg 0 c10<|eF (eJ (.inr m)) (dO (.inr m))
  exact iI CT (by intro hx;cases hx) z<|by kernel_rfl
theorem mT(hR58:fF R58){x:Int⊕(Int)}(h:pS R58 t26 t27 t28 m=some x):aQ Pg GE 1 (.loop (cA Gt 247)) (EX (eJ x) (dO x)) (eI t26 t27 t28 m):=
 aQ.loop (S:=fun(zz:Int×Int)=>eI t26 t27 zz.1 zz.2) (ex:=eJ) (s:=(t28,m)) h fun zz y hy=>tU R58 t26 t27 zz.1 zz.2 hR58 hy
end
def ql(R58:fH)(e:ag)(k0:Int):Option (Bool×Int):=
 (zN e k0).bind fun r1=>
 if(!r1.1)=true then
  some (false,r1.2)
 else
  (pR R58 e.Kids (e.Kids.length:Int) 0 r1.2).bind fun o9=>match o9 with
  |(.inl o9)=>
   some (false,o9)
  | (.inr o9) =>
   (pS R58 e.Alts (e.Alts.length:Int) 0 o9).bind fun o15=>match o15 with
   |(.inl o15)=>
    some (false,o15)
   |(.inr o15)=>
    some (true,o15)
theorem wD(R58:fH)(hR58:fF R58){e:ag}{k0:Int}{r:Bool×Int}(h:ql R58 e k0=some r):C Pg GE 64 [.agg (af e),.func (.func 65) [] [.bptr 0 0]] [] [.cells [.int .i64 k0] []] (.bool r.1) [] [.cells [.int .i64 r.2] []]:=by
 obtain⟨r1,br1,h⟩:=aG h
 have p3:=fun{sc F} (r:PS sc F)=>se (dM e)<|sv (cu e)<|si (.cg ⟨[0],[.agg (af e),.bptr 0 0],[],[.cells [.int .i64 k0] []],[.cells [.int .i64 k0] []],[.cells [.int .i64 r1.2] []],[.cells [.int .i64 r1.2] []],.bool r1.1,.bool r1.1,[]⟩) (DS br1)<|sf (aI (xR [0] (.agg (af e)) (az e)) (aI (xB [0] 0 0 0 rfl) trivial))<|sf (aI (aI (rB (.cells [.int .i64 k0] [])) (aI (rW []) (aI (xR [0] (.int .i64 k0) trivial) trivial))) trivial)<|sf (aI (aI (rW []) (aI (xR [0] (.int .i64 r1.2) trivial) trivial)) trivial)<|sf (xR [0] (.bool r1.1) trivial)<|r
 rcases aN h with⟨c2,h⟩|⟨c2,h⟩
 ·obtain rfl:=lf h
  have z:=p3<|sg 0 c2<|en (aI (rP (.bool false))<|aI trivial<|aI (rL [.cells [.int .i64 r1.2] []])<|(aI (aI trivial trivial) trivial))
  exact C.evGp (A:=CT) mixed (m:=1) (c:=Gt) rfl call64 func64 rfl z<|by kernel_rfl
 ·obtain⟨o9,bo9,h⟩:=aG h
  rcases o9 with o9|o9
  ·obtain rfl:=lf h
   have z:=p3<|sg 0 c2<|sv (bu e)<|sv (bv e)<|bU (iJ.ln e.Kids)<|cY (e:=.ret) (s1:=cT e (.inl o9)) (iT R58 e e.Kids (e.Kids.length:Int) 0 r1.2 hR58 bo9)<|en (aI (rP (.bool false))<|aI trivial<|aI (rL [.cells [.int .i64 o9] []])<|(aI (aI trivial trivial) trivial))
   exact C.evGp (A:=CT) mixed (m:=1) (c:=Gt) rfl call64 func64 rfl z<|by kernel_rfl
  ·obtain⟨o15,bo15,h⟩:=aG h
   rcases o15 with o15|o15
   ·obtain rfl:=lf h
    have z:=p3<|sg 0 c2<|sv (bu e)<|sv (bv e)<|bU (iJ.ln e.Kids)<|cY (e:=.exit 0) (s1:=cT e (.inr o9)) (iT R58 e e.Kids (e.Kids.length:Int) 0 r1.2 hR58 bo9)<|sv (aH e)<|sv (aJ e)<|bU (fo.ln e.Alts)<|cY (e:=.ret) (s1:=dO (.inl o15)) (mT R58 e.Alts (e.Alts.length:Int) 0 o9 hR58 bo15)<|en (aI (rP (.bool false))<|aI trivial<|aI (rL [.cells [.int .i64 o15] []])<|(aI (aI trivial trivial) trivial))
    exact C.evGp (A:=CT) mixed (m:=1) (c:=Gt) rfl call64 func64 rfl z<|by kernel_rfl
   ·obtain rfl:=lf h
    have z:=p3<|sg 0 c2<|sv (bu e)<|sv (bv e)<|bU (iJ.ln e.Kids)<|cY (e:=.exit 0) (s1:=cT e (.inr o9)) (iT R58 e e.Kids (e.Kids.length:Int) 0 r1.2 hR58 bo9)<|sv (aH e)<|sv (aJ e)<|bU (fo.ln e.Alts)<|cY (e:=.exit 2) (s1:=dO (.inr o15)) (mT R58 e.Alts (e.Alts.length:Int) 0 o9 hR58 bo15)<|en (aI (rP (.bool true))<|aI trivial<|aI (rL [.cells [.int .i64 o15] []])<|(aI (aI trivial trivial) trivial))
    exact C.evGp (A:=CT) mixed (m:=1) (c:=Gt) rfl call64 func64 rfl z<|by kernel_rfl
def qm:((ag×Int)->Option (Bool×Int))->(ag×Int)->Option (Bool×Int):=fun(rec:(ag×Int)->Option (Bool×Int)) (x:ag×Int)=>ql (fun e k0=>rec (e,k0)) x.1 x.2
def sA(e:ag)(k0:Int):Option (Bool×Int):=uc qm (e,k0)
theorem xC{e:ag}{k0:Int}{r:Bool×Int}(h:sA e k0=some r):C Pg GE 64 [.agg (af e),.func (.func 65) [] [.bptr 0 0]] [] [.cells [.int .i64 k0] []] (.bool r.1) [] [.cells [.int .i64 r.2] []]:=
 fk (F:=qm) (M:=fun(x:ag×Int) (r:Bool×Int)=>C Pg GE 64 [.agg (af x.1),.func (.func 65) [] [.bptr 0 0]] [] [.cells [.int .i64 x.2] []] (.bool r.1) [] [.cells [.int .i64 r.2] []]) (fun rec hrec x r h=>wD _ (fun e k0 r h=>hrec (e,k0) r h) h) h
noncomputable def Vu:Code:=f17.body.getD .skip
def Vf:List Nat:=[]
def xu(e:ag):Option Int:=
 (xy e).bind fun r1=>
 if(decide (r1>400))=true then
  some 7
 else
  (xx e).bind fun r4=>
  if(decide (r4>40))=true then
   some 8
  else
   (sA e 0).bind fun r7=>
   some r7.2
theorem xV{e:ag}{r:Int}(h:xu e=some r):CC Pg GE 17 [.agg (af e)] (.int .i64 r) []:=by
 obtain⟨r1,br1,h⟩:=aG h
 have p3:=fun{sc F} (r:PS sc F)=>se (dM e)<|sv (cu e)<|du (xZ br1)<|r
 rcases aN h with⟨c2,h⟩|⟨c2,h⟩
 ·obtain rfl:=lf h
  have z:=p3<|sg 0 c2<|en (aI (rP (.int .i64 7))<|trivial)
  exact cH Vf call17 func17 (c:=Vu) rfl (aI (az e) trivial) z<|by kernel_rfl
 ·obtain⟨r4,br4,h⟩:=aG h
  have p6:=fun{sc F} (r:PS sc F)=>p3<|sg 0 c2<|sv (cu e)<|du (xY br4)<|r
  rcases aN h with⟨c5,h⟩|⟨c5,h⟩
  ·obtain rfl:=lf h
   have z:=p6<|sg 0 c5<|en (aI (rP (.int .i64 8))<|trivial)
   exact cH Vf call17 func17 (c:=Vu) rfl (aI (az e) trivial) z<|by kernel_rfl
  ·obtain⟨r7,br7,h⟩:=aG h
   obtain rfl:=lf h
   have z:=p6<|sg 0 c5<|sx VZ<|ss<|sv (cu e)<|si (.cg ⟨[1],[.agg (af e),.func (.func 65) [] [.bptr 0 0]],[],[.cells [.int .i64 0] []],[.cells [.int .i64 0] []],[.cells [.int .i64 r7.2] []],[.cells [.int .i64 r7.2] []],.bool r7.1,.bool r7.1,[]⟩) (xC br7)<|sf (aI (xR [1] (.agg (af e)) (az e)) (aI (xF [1] (.func 65) [] [.bptr 1 0] [] [.bptr 0 0] trivial (aI (xB [1] 0 1 0 rfl) trivial)) trivial))<|sf (aI (aI (rB (.cells [.int .i64 0] [])) (aI (rW []) (aI (xR [1] (.int .i64 0) trivial) trivial))) trivial)<|sf (aI (aI (rW []) (aI (xR [1] (.int .i64 r7.2) trivial) trivial)) trivial)<|sf (xR [1] (.bool r7.1) trivial)<|ss<|en (aI (rP (.int .i64 r7.2))<|trivial)
   exact cH Vf call17 func17 (c:=Vu) rfl (aI (az e) trivial) z<|by kernel_rfl
noncomputable def SK:Code:=f11.body.getD .skip
def Sw:List Nat:=[]
def Ak:Option Bool:=
 (gg ([120]:ae)).bind fun r1=>
 (gg ([120]:ae)).bind fun r2=>
 (gg ([121]:ae)).bind fun r3=>
 (Al ([120]:ae) r1 (⟨5,([102]:ae),0,([r2,r3]:List ag),([]:List aw),([]:List aF),([]:List ah)⟩:ag)).bind fun r4=>
 (gg ([120]:ae)).bind fun r5=>
 (gg ([120]:ae)).bind fun r6=>
 (Al ([120]:ae) r5 r6).bind fun r7=>
 (Al ([120]:ae) (⟨1,([]:ae),1,([]:List ag),([]:List aw),([]:List aF),([]:List ah)⟩:ag) r7).bind fun r8=>
 (BG r8).bind fun r9=>
 (y6 ([120]:ae) ([121]:ae)).bind fun r10=>
 (y6 ([120,49]:ae) ([120]:ae)).bind fun r11=>
 (zQ (⟨r4.Op,r4.Name,r4.N,r4.Kids,r4.Params,r4.Alts,r4.Types⟩:ag)).bind fun r12=>
 (hO r12 ([([102]:ae),([120]:ae),([121]:ae)]:List ae)).bind fun r13=>
 if r13=true then
  (gg ([120]:ae)).bind fun r16=>
  (gg ([120,49]:ae)).bind fun r17=>
  (Al ([120,49]:ae) r16 r17).bind fun r18=>
  (Al ([120]:ae) (⟨1,([]:ae),1,([]:List ag),([]:List aw),([]:List aF),([]:List ah)⟩:ag) r18).bind fun r19=>
  (yL r9 r19).bind fun r20=>
  if r20=true then
   (DX (⟨6,([]:ae),0,([r10]:List ag),([(⟨([120]:ae),(⟨0,([]:ae),([]:List ah),([]:List ae),(⟨0,([]:ae),0,([]:List aj)⟩:aj),([]:List aj)⟩:ah)⟩:aw)]:List aw),([]:List aF),([]:List ah)⟩:ag) ([121]:ae) ([120]:ae)).bind fun r23=>
   (yL r23 (⟨6,([]:ae),0,([r11]:List ag),([(⟨([120,49]:ae),(⟨0,([]:ae),([]:List ah),([]:List ae),(⟨0,([]:ae),0,([]:List aj)⟩:aj),([]:List aj)⟩:ah)⟩:aw)]:List aw),([]:List aF),([]:List ah)⟩:ag)).bind fun r24=>
   if r24=true then
    (xu r4).bind fun r27=>
    if (r27 == 0) = true then
     (xu (⟨3,([105,102]:ae),0,([]:List ag),([]:List aw),([]:List aF),([]:List ah)⟩:ag)).bind fun r30=>
     if(r30==3)=true then
      (xy r4).bind fun r33=>
      if(r33==5)=true then
       (xx r4).bind fun r36=>
       some (r36==3)
      else
       some false
     else
      some false
    else
     some false
   else
    some false
  else
   some false
 else
  some false
theorem C2{r:Bool}(h:Ak=some r):CC Pg GE 11 [] (.bool r) []:=by
 obtain⟨r1,br1,h⟩:=aG h
 obtain⟨r2,br2,h⟩:=aG h
 obtain⟨r3,br3,h⟩:=aG h
 obtain⟨r4,br4,h⟩:=aG h
 obtain⟨r5,br5,h⟩:=aG h
 obtain⟨r6,br6,h⟩:=aG h
 obtain⟨r7,br7,h⟩:=aG h
 obtain⟨r8,br8,h⟩:=aG h
 obtain⟨r9,br9,h⟩:=aG h
 obtain⟨r10,br10,h⟩:=aG h
 obtain⟨r11,br11,h⟩:=aG h
 obtain⟨r12,br12,h⟩:=aG h
 obtain⟨r13,br13,h⟩:=aG h
 have p15:=fun{sc F} (r:PS sc F)=>du (eO br1)<|du (eO br2)<|du (eO br3)<|sv (iJ.mk' (v:=qX) mJ ([r2,r3]:List ag) 2 (by kernel_rfl))<|sb (zc 5 ([102]:ae) ([r2,r3]:List ag)) (za 5 ([102]:ae) ([r2,r3]:List ag))<|du (tq br4)<|sx yx<|sy (bz r4)<|sb (J0 1 1) (JY 1 1)<|sx yx<|sy (bz (⟨1,([]:ae),1,([]:List ag),([]:List aw),([]:List aF),([]:List ah)⟩:ag))<|IY [0,0,2,6,15,31,0,127]<|sv (b8 (⟨1,([]:ae),1,([]:List ag),([]:List aw),([]:List aF),([]:List ah)⟩:ag) [])<|du (eO br5)<|du (eO br6)<|du (tq br7)<|du (tq br8)<|du (EY br9)<|W4 (ly r9)<|sb (Fe ([120]:ae)) (Fd ([120]:ae))<|sv (lT.mk' (v:=Ah) xj ([(⟨([120]:ae),(⟨0,([]:ae),([]:List ah),([]:List ae),(⟨0,([]:ae),0,([]:List aj)⟩:aj),([]:List aj)⟩:ah)⟩:aw)]:List aw) 1 (by kernel_rfl))<|du (y7 br10)<|sv (iJ.mk' (v:=qX) mJ ([r10]:List ag) 1 (by kernel_rfl))<|sb (zd 6 ([(⟨([120]:ae),(⟨0,([]:ae),([]:List ah),([]:List ae),(⟨0,([]:ae),0,([]:List aj)⟩:aj),([]:List aj)⟩:ah)⟩:aw)]:List aw) ([r10]:List ag)) (zb 6 ([(⟨([120]:ae),(⟨0,([]:ae),([]:List ah),([]:List ae),(⟨0,([]:ae),0,([]:List aj)⟩:aj),([]:List aj)⟩:ah)⟩:aw)]:List aw) ([r10]:List ag))<|sx yx<|sy (bz (⟨6,([]:ae),0,([r10]:List ag),([(⟨([120]:ae),(⟨0,([]:ae),([]:List ah),([]:List ae),(⟨0,([]:ae),0,([]:List aj)⟩:aj),([]:List aj)⟩:ah)⟩:aw)]:List aw),([]:List aF),([]:List ah)⟩:ag))<|sb (Fe ([120,49]:ae)) (Fd ([120,49]:ae))<|sv (lT.mk' (v:=Ah) xj ([(⟨([120,49]:ae),(⟨0,([]:ae),([]:List ah),([]:List ae),(⟨0,([]:ae),0,([]:List aj)⟩:aj),([]:List aj)⟩:ah)⟩:aw)]:List aw) 1 (by kernel_rfl))<|du (y7 br11)<|sv (iJ.mk' (v:=qX) mJ ([r11]:List ag) 1 (by kernel_rfl))<|sb (zd 6 ([(⟨([120,49]:ae),(⟨0,([]:ae),([]:List ah),([]:List ae),(⟨0,([]:ae),0,([]:List aj)⟩:aj),([]:List aj)⟩:ah)⟩:aw)]:List aw) ([r11]:List ag)) (zb 6 ([(⟨([120,49]:ae),(⟨0,([]:ae),([]:List ah),([]:List ae),(⟨0,([]:ae),0,([]:List aj)⟩:aj),([]:List aj)⟩:ah)⟩:aw)]:List aw) ([r11]:List ag))<|sx yx<|sy (bz (⟨6,([]:ae),0,([r11]:List ag),([(⟨([120,49]:ae),(⟨0,([]:ae),([]:List ah),([]:List ae),(⟨0,([]:ae),0,([]:List aj)⟩:aj),([]:List aj)⟩:ah)⟩:aw)]:List aw),([]:List aF),([]:List ah)⟩:ag))<|IY [0,1,0,7,15,31,31,31,159,415,991,2047,4095,8191,16383,32767,16383,131071,262143,524287,1048575,2097151,4194303,8388607,16777215,33554431,67108863,134217727,268435455,536870911,1073741823,2147483647,4294967295,8589934591,17179869183,34359738367,68719476735,137438953471,274877906943,549755813887]<|sv (b8 (⟨r4.Op,r4.Name,r4.N,r4.Kids,r4.Params,r4.Alts,r4.Types⟩:ag) [])<|du (zR br12)<|sv (eu.mk' (v:=PVal.str) Mj ([([102]:ae),([120]:ae),([121]:ae)]:List ae) 3 (by kernel_rfl))<|du (jH br13)<|r
 rcases aN h with⟨c14,h⟩|⟨c14,h⟩
 ·obtain⟨r16,br16,h⟩:=aG h
  obtain⟨r17,br17,h⟩:=aG h
  obtain⟨r18,br18,h⟩:=aG h
  obtain⟨r19,br19,h⟩:=aG h
  obtain⟨r20,br20,h⟩:=aG h
  have p22:=fun{sc F} (r:PS sc F)=>p15<|sg 5 c14<|sv (b8 r9 [])<|sv (b8 (⟨1,([]:ae),1,([]:List ag),([]:List aw),([]:List aF),([]:List ah)⟩:ag) [])<|du (eO br16)<|du (eO br17)<|du (tq br18)<|du (tq br19)<|du (yV br20)<|r
  rcases aN h with⟨c21,h⟩|⟨c21,h⟩
  ·obtain⟨r23,br23,h⟩:=aG h
   obtain⟨r24,br24,h⟩:=aG h
   have p26:=fun{sc F} (r:PS sc F)=>p22<|sg 14 c21<|sv (b8 (⟨6,([]:ae),0,([r10]:List ag),([(⟨([120]:ae),(⟨0,([]:ae),([]:List ah),([]:List ae),(⟨0,([]:ae),0,([]:List aj)⟩:aj),([]:List aj)⟩:ah)⟩:aw)]:List aw),([]:List aF),([]:List ah)⟩:ag) [])<|du (Gh br23)<|sv (b8 (⟨6,([]:ae),0,([r11]:List ag),([(⟨([120,49]:ae),(⟨0,([]:ae),([]:List ah),([]:List ae),(⟨0,([]:ae),0,([]:List aj)⟩:aj),([]:List aj)⟩:ah)⟩:aw)]:List aw),([]:List aF),([]:List ah)⟩:ag) [])<|du (yV br24)<|r
   rcases aN h with⟨c25,h⟩|⟨c25,h⟩
   ·obtain⟨r27,br27,h⟩:=aG h
    have p29:=fun{sc F} (r:PS sc F)=>p26<|sg 20 c25<|sv (b8 r4 [])<|du (xV br27)<|r
    rcases aN h with⟨c28,h⟩|⟨c28,h⟩
    ·obtain⟨r30,br30,h⟩:=aG h
     have p32:=fun{sc F} (r:PS sc F)=>p29<|sg 25 c28<|sb (Dc 3 ([105,102]:ae)) (C7 3 ([105,102]:ae))<|du (xV br30)<|r
     rcases aN h with⟨c31,h⟩|⟨c31,h⟩
     ·obtain⟨r33,br33,h⟩:=aG h
      have p35:=fun{sc F} (r:PS sc F)=>p32<|sg 30 c31<|sv (b8 r4 [])<|du (xZ br33)<|r
      rcases aN h with⟨c34,h⟩|⟨c34,h⟩
      ·obtain⟨r36,br36,h⟩:=aG h
       obtain rfl:=lf h
       have z:=p35<|sg 35 c34<|sv (b8 r4 [])<|du (xY br36)<|en (aI (rP (.bool (r36==3)))<|trivial)
       exact cH Sw call11 func11 (c:=SK) rfl trivial z<|by kernel_rfl
      ·obtain rfl:=lf h
       have z:=p35<|sg 35 c34<|en (aI (rP (.bool false))<|trivial)
       exact cH Sw call11 func11 (c:=SK) rfl trivial z<|by kernel_rfl
     ·obtain rfl:=lf h
      have z:=p32<|sg 30 c31<|en (aI (rP (.bool false))<|trivial)
      exact cH Sw call11 func11 (c:=SK) rfl trivial z<|by kernel_rfl
    ·obtain rfl:=lf h
     have z:=p29<|sg 25 c28<|en (aI (rP (.bool false))<|trivial)
     exact cH Sw call11 func11 (c:=SK) rfl trivial z<|by kernel_rfl
   ·obtain rfl:=lf h
    have z:=p26<|sg 20 c25<|en (aI (rP (.bool false))<|trivial)
    exact cH Sw call11 func11 (c:=SK) rfl trivial z<|by kernel_rfl
  ·obtain rfl:=lf h
   have z:=p22<|sg 14 c21<|en (aI (rP (.bool false))<|trivial)
   exact cH Sw call11 func11 (c:=SK) rfl trivial z<|by kernel_rfl
 ·obtain rfl:=lf h
  have z:=p15<|sg 5 c14<|en (aI (rP (.bool false))<|trivial)
  exact cH Sw call11 func11 (c:=SK) rfl trivial z<|by kernel_rfl
end Go.Proofs.YtkdahfeiedaahaaGreatDoor
