/- PROVED: a part of the proof. Conditions: none. -/
import Derived.Test.YtkdahfeiedaahaaGreatDoorPkE16
noncomputable section
namespace Go.Proofs.YtkdahfeiedaahaaGreatDoor
open Go Go.Proofs.Tryz
set_option linter.unusedVariables false
set_option maxRecDepth 100000
noncomputable def Nv:Code:=f66.body.getD .skip
def fG:List Nat:=[122,134,154]
section
variable(e:af)(ok:Bool)(m:Bool)(m2:Bool)(m3:Int)(m4:Int)(m5:Bool)(m6:Bool)(m7:Int)(m8:Int)(m9:Bool)
def Fs:aA:=bj 156 [(1,.eptr (ae e)),(3,.bptr 1 0),(4,.bool ok)] [.dead,.cells [.bool m,.bool m2,.int .i64 m3,.int .i64 m4,.bool m5,.bool m6,.int .i64 m7,.int .i64 m8,.bool m9] []] []
def ah(o:Bool):aA:=bj 156 [(1,.eptr (ae e)),(3,.bptr 1 0),(4,.bool ok),(5,.bool o)] [.dead,.cells [.bool m,.bool m2,.int .i64 m3,.int .i64 m4,.bool m5,.bool m6,.int .i64 m7,.int .i64 m8,.bool m9] []] []
def Ao:Option Bool:=
 if (!m) = true then
  if(e.N !=0)=true then
   some true
  else
   if (!m2) = true then
    if(!(e.Name==([]:ag)))=true then
     some true
    else
     if (m4 == 0) = true then
      if(decide ((e.Kids.length:Int)>0))=true then
       some true
      else
       if (!m5) = true then
        if(decide ((e.Params.length:Int)>0))=true then
         some true
        else
         if (!m6) = true then
          if(decide ((e.Alts.length:Int)>0))=true then
           some true
          else
           if(!m9)=true then
            some (decide ((e.Types.length:Int)>0))
           else
            some false
         else
          if(!m9)=true then
           some (decide ((e.Types.length:Int)>0))
          else
           some false
       else
        if (!m6) = true then
         if(decide ((e.Alts.length:Int)>0))=true then
          some true
         else
          if(!m9)=true then
           some (decide ((e.Types.length:Int)>0))
          else
           some false
        else
         if(!m9)=true then
          some (decide ((e.Types.length:Int)>0))
         else
          some false
     else
      if (!m5) = true then
       if(decide ((e.Params.length:Int)>0))=true then
        some true
       else
        if (!m6) = true then
         if(decide ((e.Alts.length:Int)>0))=true then
          some true
         else
          if(!m9)=true then
           some (decide ((e.Types.length:Int)>0))
          else
           some false
        else
         if(!m9)=true then
          some (decide ((e.Types.length:Int)>0))
         else
          some false
      else
       if (!m6) = true then
        if(decide ((e.Alts.length:Int)>0))=true then
         some true
        else
         if(!m9)=true then
          some (decide ((e.Types.length:Int)>0))
         else
          some false
       else
        if(!m9)=true then
         some (decide ((e.Types.length:Int)>0))
        else
         some false
   else
    if (m4 == 0) = true then
     if(decide ((e.Kids.length:Int)>0))=true then
      some true
     else
      if (!m5) = true then
       if(decide ((e.Params.length:Int)>0))=true then
        some true
       else
        if (!m6) = true then
         if(decide ((e.Alts.length:Int)>0))=true then
          some true
         else
          if(!m9)=true then
           some (decide ((e.Types.length:Int)>0))
          else
           some false
        else
         if(!m9)=true then
          some (decide ((e.Types.length:Int)>0))
         else
          some false
      else
       if (!m6) = true then
        if(decide ((e.Alts.length:Int)>0))=true then
         some true
        else
         if(!m9)=true then
          some (decide ((e.Types.length:Int)>0))
         else
          some false
       else
        if(!m9)=true then
         some (decide ((e.Types.length:Int)>0))
        else
         some false
    else
     if (!m5) = true then
      if(decide ((e.Params.length:Int)>0))=true then
       some true
      else
       if (!m6) = true then
        if(decide ((e.Alts.length:Int)>0))=true then
         some true
        else
         if(!m9)=true then
          some (decide ((e.Types.length:Int)>0))
         else
          some false
       else
        if(!m9)=true then
         some (decide ((e.Types.length:Int)>0))
        else
         some false
     else
      if (!m6) = true then
       if(decide ((e.Alts.length:Int)>0))=true then
        some true
       else
        if(!m9)=true then
         some (decide ((e.Types.length:Int)>0))
        else
         some false
      else
       if(!m9)=true then
        some (decide ((e.Types.length:Int)>0))
       else
        some false
 else
  if (!m2) = true then
   if(!(e.Name==([]:ag)))=true then
    some true
   else
    if (m4 == 0) = true then
     if(decide ((e.Kids.length:Int)>0))=true then
      some true
     else
      if (!m5) = true then
       if(decide ((e.Params.length:Int)>0))=true then
        some true
       else
        if (!m6) = true then
         if(decide ((e.Alts.length:Int)>0))=true then
          some true
         else
          if(!m9)=true then
           some (decide ((e.Types.length:Int)>0))
          else
           some false
        else
         if(!m9)=true then
          some (decide ((e.Types.length:Int)>0))
         else
          some false
      else
       if (!m6) = true then
        if(decide ((e.Alts.length:Int)>0))=true then
         some true
        else
         if(!m9)=true then
          some (decide ((e.Types.length:Int)>0))
         else
          some false
       else
        if(!m9)=true then
         some (decide ((e.Types.length:Int)>0))
        else
         some false
    else
     if (!m5) = true then
      if(decide ((e.Params.length:Int)>0))=true then
       some true
      else
       if (!m6) = true then
        if(decide ((e.Alts.length:Int)>0))=true then
         some true
        else
         if(!m9)=true then
          some (decide ((e.Types.length:Int)>0))
         else
          some false
       else
        if(!m9)=true then
         some (decide ((e.Types.length:Int)>0))
        else
         some false
     else
      if (!m6) = true then
       if(decide ((e.Alts.length:Int)>0))=true then
        some true
       else
        if(!m9)=true then
         some (decide ((e.Types.length:Int)>0))
        else
         some false
      else
       if(!m9)=true then
        some (decide ((e.Types.length:Int)>0))
       else
        some false
  else
   if (m4 == 0) = true then
    if(decide ((e.Kids.length:Int)>0))=true then
     some true
    else
     if (!m5) = true then
      if(decide ((e.Params.length:Int)>0))=true then
       some true
      else
       if (!m6) = true then
        if(decide ((e.Alts.length:Int)>0))=true then
         some true
        else
         if(!m9)=true then
          some (decide ((e.Types.length:Int)>0))
         else
          some false
       else
        if(!m9)=true then
         some (decide ((e.Types.length:Int)>0))
        else
         some false
     else
      if (!m6) = true then
       if(decide ((e.Alts.length:Int)>0))=true then
        some true
       else
        if(!m9)=true then
         some (decide ((e.Types.length:Int)>0))
        else
         some false
      else
       if(!m9)=true then
        some (decide ((e.Types.length:Int)>0))
       else
        some false
   else
    if (!m5) = true then
     if(decide ((e.Params.length:Int)>0))=true then
      some true
     else
      if (!m6) = true then
       if(decide ((e.Alts.length:Int)>0))=true then
        some true
       else
        if(!m9)=true then
         some (decide ((e.Types.length:Int)>0))
        else
         some false
      else
       if(!m9)=true then
        some (decide ((e.Types.length:Int)>0))
       else
        some false
    else
     if (!m6) = true then
      if(decide ((e.Alts.length:Int)>0))=true then
       some true
      else
       if(!m9)=true then
        some (decide ((e.Types.length:Int)>0))
       else
        some false
     else
      if(!m9)=true then
       some (decide ((e.Types.length:Int)>0))
      else
       some false
theorem Ej {x:Bool} (h:Ao e m m2 m4 m5 m6 m9 = some x) :aR Pg GE 0 (cA Nv 14) (EX .normal (ah e ok m m2 m3 m4 m5 m6 m7 m8 m9 x)) (Fs e ok m m2 m3 m4 m5 m6 m7 m8 m9):=by
 rcases aP h with⟨c2,h⟩|⟨c2,h⟩
 ·have p4:=fun{sc F} (r:PS sc F)=>ss<|sg 4 c2<|sv (iI e)<|sv (jM e)<|r
  rcases aP h with⟨c3,h⟩|⟨c3,h⟩
  ·obtain rfl:=lf h
   exact bJ fG (p4<|sg 9 c3<|eF .normal (ah e ok m m2 m3 m4 m5 m6 m7 m8 m9 true))<|by kernel_rfl
  ·have p6:=fun{sc F} (r:PS sc F)=>p4<|sg 9 c3<|ss<|r
   rcases aP h with⟨c5,h⟩|⟨c5,h⟩
   ·have p8:=fun{sc F} (r:PS sc F)=>p6<|sg 13 c5<|sv (eu e)<|sv (fc e)<|r
    rcases aP h with⟨c7,h⟩|⟨c7,h⟩
    ·obtain rfl:=lf h
     exact bJ fG (p8<|sg 19 c7<|eF .normal (ah e ok m m2 m3 m4 m5 m6 m7 m8 m9 true))<|by kernel_rfl
    ·have p10:=fun{sc F} (r:PS sc F)=>p8<|sg 19 c7<|ss<|r
     rcases aP h with⟨c9,h⟩|⟨c9,h⟩
     ·have p12:=fun{sc F} (r:PS sc F)=>p10<|sg 23 c9<|sv (aX e)<|sv (aY e)<|cq (g6.ln e.Kids)<|r
      rcases aP h with⟨c11,h⟩|⟨c11,h⟩
      ·obtain rfl:=lf h
       exact bJ fG (p12<|sg 30 c11<|eF .normal (ah e ok m m2 m3 m4 m5 m6 m7 m8 m9 true))<|by kernel_rfl
      ·have p14:=fun{sc F} (r:PS sc F)=>p12<|sg 30 c11<|ss<|r
       rcases aP h with⟨c13,h⟩|⟨c13,h⟩
       ·have p16:=fun{sc F} (r:PS sc F)=>p14<|sg 34 c13<|sv (bE e)<|sv (bG e)<|cq (lC.ln e.Params)<|r
        rcases aP h with⟨c15,h⟩|⟨c15,h⟩
        ·obtain rfl:=lf h
         exact bJ fG (p16<|sg 41 c15<|eF .normal (ah e ok m m2 m3 m4 m5 m6 m7 m8 m9 true))<|by kernel_rfl
        ·have p18:=fun{sc F} (r:PS sc F)=>p16<|sg 41 c15<|ss<|r
         rcases aP h with⟨c17,h⟩|⟨c17,h⟩
         ·have p20:=fun{sc F} (r:PS sc F)=>p18<|sg 45 c17<|sv (aE e)<|sv (aF e)<|cq (eQ.ln e.Alts)<|r
          rcases aP h with⟨c19,h⟩|⟨c19,h⟩
          ·obtain rfl:=lf h
           exact bJ fG (p20<|sg 52 c19<|eF .normal (ah e ok m m2 m3 m4 m5 m6 m7 m8 m9 true))<|by kernel_rfl
          ·have p22:=fun{sc F} (r:PS sc F)=>p20<|sg 52 c19<|ss<|r
           rcases aP h with⟨c21,h⟩|⟨c21,h⟩
           ·obtain rfl:=lf h
            exact bJ fG (p22<|sg 56 c21<|sv (aL e)<|sv (aM e)<|cq (ee.ln e.Types)<|eF .normal (ah e ok m m2 m3 m4 m5 m6 m7 m8 m9 (decide ((e.Types.length:Int)>0))))<|by kernel_rfl
           ·obtain rfl:=lf h
            exact bJ fG (p22<|sg 56 c21<|eF .normal (ah e ok m m2 m3 m4 m5 m6 m7 m8 m9 false))<|by kernel_rfl
         ·have p24:=fun{sc F} (r:PS sc F)=>p18<|sg 45 c17<|ss<|r
          rcases aP h with⟨c23,h⟩|⟨c23,h⟩
          ·obtain rfl:=lf h
           exact bJ fG (p24<|sg 56 c23<|sv (aL e)<|sv (aM e)<|cq (ee.ln e.Types)<|eF .normal (ah e ok m m2 m3 m4 m5 m6 m7 m8 m9 (decide ((e.Types.length:Int)>0))))<|by kernel_rfl
          ·obtain rfl:=lf h
           exact bJ fG (p24<|sg 56 c23<|eF .normal (ah e ok m m2 m3 m4 m5 m6 m7 m8 m9 false))<|by kernel_rfl
       ·have p26:=fun{sc F} (r:PS sc F)=>p14<|sg 34 c13<|ss<|r
        rcases aP h with⟨c25,h⟩|⟨c25,h⟩
        ·have p28:=fun{sc F} (r:PS sc F)=>p26<|sg 45 c25<|sv (aE e)<|sv (aF e)<|cq (eQ.ln e.Alts)<|r
         rcases aP h with⟨c27,h⟩|⟨c27,h⟩
         ·obtain rfl:=lf h
          exact bJ fG (p28<|sg 52 c27<|eF .normal (ah e ok m m2 m3 m4 m5 m6 m7 m8 m9 true))<|by kernel_rfl
         ·have p30:=fun{sc F} (r:PS sc F)=>p28<|sg 52 c27<|ss<|r
          rcases aP h with⟨c29,h⟩|⟨c29,h⟩
          ·obtain rfl:=lf h
           exact bJ fG (p30<|sg 56 c29<|sv (aL e)<|sv (aM e)<|cq (ee.ln e.Types)<|eF .normal (ah e ok m m2 m3 m4 m5 m6 m7 m8 m9 (decide ((e.Types.length:Int)>0))))<|by kernel_rfl
          ·obtain rfl:=lf h
           exact bJ fG (p30<|sg 56 c29<|eF .normal (ah e ok m m2 m3 m4 m5 m6 m7 m8 m9 false))<|by kernel_rfl
        ·have p32:=fun{sc F} (r:PS sc F)=>p26<|sg 45 c25<|ss<|r
         rcases aP h with⟨c31,h⟩|⟨c31,h⟩
         ·obtain rfl:=lf h
          exact bJ fG (p32<|sg 56 c31<|sv (aL e)<|sv (aM e)<|cq (ee.ln e.Types)<|eF .normal (ah e ok m m2 m3 m4 m5 m6 m7 m8 m9 (decide ((e.Types.length:Int)>0))))<|by kernel_rfl
         ·obtain rfl:=lf h
          exact bJ fG (p32<|sg 56 c31<|eF .normal (ah e ok m m2 m3 m4 m5 m6 m7 m8 m9 false))<|by kernel_rfl
     ·have p34:=fun{sc F} (r:PS sc F)=>p10<|sg 23 c9<|ss<|r
      rcases aP h with⟨c33,h⟩|⟨c33,h⟩
      ·have p36:=fun{sc F} (r:PS sc F)=>p34<|sg 34 c33<|sv (bE e)<|sv (bG e)<|cq (lC.ln e.Params)<|r
       rcases aP h with⟨c35,h⟩|⟨c35,h⟩
       ·obtain rfl:=lf h
        exact bJ fG (p36<|sg 41 c35<|eF .normal (ah e ok m m2 m3 m4 m5 m6 m7 m8 m9 true))<|by kernel_rfl
       ·have p38:=fun{sc F} (r:PS sc F)=>p36<|sg 41 c35<|ss<|r
        rcases aP h with⟨c37,h⟩|⟨c37,h⟩
        ·have p40:=fun{sc F} (r:PS sc F)=>p38<|sg 45 c37<|sv (aE e)<|sv (aF e)<|cq (eQ.ln e.Alts)<|r
         rcases aP h with⟨c39,h⟩|⟨c39,h⟩
         ·obtain rfl:=lf h
          exact bJ fG (p40<|sg 52 c39<|eF .normal (ah e ok m m2 m3 m4 m5 m6 m7 m8 m9 true))<|by kernel_rfl
         ·have p42:=fun{sc F} (r:PS sc F)=>p40<|sg 52 c39<|ss<|r
          rcases aP h with⟨c41,h⟩|⟨c41,h⟩
          ·obtain rfl:=lf h
           exact bJ fG (p42<|sg 56 c41<|sv (aL e)<|sv (aM e)<|cq (ee.ln e.Types)<|eF .normal (ah e ok m m2 m3 m4 m5 m6 m7 m8 m9 (decide ((e.Types.length:Int)>0))))<|by kernel_rfl
          ·obtain rfl:=lf h
           exact bJ fG (p42<|sg 56 c41<|eF .normal (ah e ok m m2 m3 m4 m5 m6 m7 m8 m9 false))<|by kernel_rfl
        ·have p44:=fun{sc F} (r:PS sc F)=>p38<|sg 45 c37<|ss<|r
         rcases aP h with⟨c43,h⟩|⟨c43,h⟩
         ·obtain rfl:=lf h
          exact bJ fG (p44<|sg 56 c43<|sv (aL e)<|sv (aM e)<|cq (ee.ln e.Types)<|eF .normal (ah e ok m m2 m3 m4 m5 m6 m7 m8 m9 (decide ((e.Types.length:Int)>0))))<|by kernel_rfl
         ·obtain rfl:=lf h
          exact bJ fG (p44<|sg 56 c43<|eF .normal (ah e ok m m2 m3 m4 m5 m6 m7 m8 m9 false))<|by kernel_rfl
      ·have p46:=fun{sc F} (r:PS sc F)=>p34<|sg 34 c33<|ss<|r
       rcases aP h with⟨c45,h⟩|⟨c45,h⟩
       ·have p48:=fun{sc F} (r:PS sc F)=>p46<|sg 45 c45<|sv (aE e)<|sv (aF e)<|cq (eQ.ln e.Alts)<|r
        rcases aP h with⟨c47,h⟩|⟨c47,h⟩
        ·obtain rfl:=lf h
         exact bJ fG (p48<|sg 52 c47<|eF .normal (ah e ok m m2 m3 m4 m5 m6 m7 m8 m9 true))<|by kernel_rfl
        ·have p50:=fun{sc F} (r:PS sc F)=>p48<|sg 52 c47<|ss<|r
         rcases aP h with⟨c49,h⟩|⟨c49,h⟩
         ·obtain rfl:=lf h
          exact bJ fG (p50<|sg 56 c49<|sv (aL e)<|sv (aM e)<|cq (ee.ln e.Types)<|eF .normal (ah e ok m m2 m3 m4 m5 m6 m7 m8 m9 (decide ((e.Types.length:Int)>0))))<|by kernel_rfl
         ·obtain rfl:=lf h
          exact bJ fG (p50<|sg 56 c49<|eF .normal (ah e ok m m2 m3 m4 m5 m6 m7 m8 m9 false))<|by kernel_rfl
       ·have p52:=fun{sc F} (r:PS sc F)=>p46<|sg 45 c45<|ss<|r
        rcases aP h with⟨c51,h⟩|⟨c51,h⟩
        ·obtain rfl:=lf h
         exact bJ fG (p52<|sg 56 c51<|sv (aL e)<|sv (aM e)<|cq (ee.ln e.Types)<|eF .normal (ah e ok m m2 m3 m4 m5 m6 m7 m8 m9 (decide ((e.Types.length:Int)>0))))<|by kernel_rfl
        ·obtain rfl:=lf h
         exact bJ fG (p52<|sg 56 c51<|eF .normal (ah e ok m m2 m3 m4 m5 m6 m7 m8 m9 false))<|by kernel_rfl
   ·have p54:=fun{sc F} (r:PS sc F)=>p6<|sg 13 c5<|ss<|r
    rcases aP h with⟨c53,h⟩|⟨c53,h⟩
    ·have p56:=fun{sc F} (r:PS sc F)=>p54<|sg 23 c53<|sv (aX e)<|sv (aY e)<|cq (g6.ln e.Kids)<|r
     rcases aP h with⟨c55,h⟩|⟨c55,h⟩
     ·obtain rfl:=lf h
      exact bJ fG (p56<|sg 30 c55<|eF .normal (ah e ok m m2 m3 m4 m5 m6 m7 m8 m9 true))<|by kernel_rfl
     ·have p58:=fun{sc F} (r:PS sc F)=>p56<|sg 30 c55<|ss<|r
      rcases aP h with⟨c57,h⟩|⟨c57,h⟩
      ·have p60:=fun{sc F} (r:PS sc F)=>p58<|sg 34 c57<|sv (bE e)<|sv (bG e)<|cq (lC.ln e.Params)<|r
       rcases aP h with⟨c59,h⟩|⟨c59,h⟩
       ·obtain rfl:=lf h
        exact bJ fG (p60<|sg 41 c59<|eF .normal (ah e ok m m2 m3 m4 m5 m6 m7 m8 m9 true))<|by kernel_rfl
       ·have p62:=fun{sc F} (r:PS sc F)=>p60<|sg 41 c59<|ss<|r
        rcases aP h with⟨c61,h⟩|⟨c61,h⟩
        ·have p64:=fun{sc F} (r:PS sc F)=>p62<|sg 45 c61<|sv (aE e)<|sv (aF e)<|cq (eQ.ln e.Alts)<|r
         rcases aP h with⟨c63,h⟩|⟨c63,h⟩
         ·obtain rfl:=lf h
          exact bJ fG (p64<|sg 52 c63<|eF .normal (ah e ok m m2 m3 m4 m5 m6 m7 m8 m9 true))<|by kernel_rfl
         ·have p66:=fun{sc F} (r:PS sc F)=>p64<|sg 52 c63<|ss<|r
          rcases aP h with⟨c65,h⟩|⟨c65,h⟩
          ·obtain rfl:=lf h
           exact bJ fG (p66<|sg 56 c65<|sv (aL e)<|sv (aM e)<|cq (ee.ln e.Types)<|eF .normal (ah e ok m m2 m3 m4 m5 m6 m7 m8 m9 (decide ((e.Types.length:Int)>0))))<|by kernel_rfl
          ·obtain rfl:=lf h
           exact bJ fG (p66<|sg 56 c65<|eF .normal (ah e ok m m2 m3 m4 m5 m6 m7 m8 m9 false))<|by kernel_rfl
        ·have p68:=fun{sc F} (r:PS sc F)=>p62<|sg 45 c61<|ss<|r
         rcases aP h with⟨c67,h⟩|⟨c67,h⟩
         ·obtain rfl:=lf h
          exact bJ fG (p68<|sg 56 c67<|sv (aL e)<|sv (aM e)<|cq (ee.ln e.Types)<|eF .normal (ah e ok m m2 m3 m4 m5 m6 m7 m8 m9 (decide ((e.Types.length:Int)>0))))<|by kernel_rfl
         ·obtain rfl:=lf h
          exact bJ fG (p68<|sg 56 c67<|eF .normal (ah e ok m m2 m3 m4 m5 m6 m7 m8 m9 false))<|by kernel_rfl
      ·have p70:=fun{sc F} (r:PS sc F)=>p58<|sg 34 c57<|ss<|r
       rcases aP h with⟨c69,h⟩|⟨c69,h⟩
       ·have p72:=fun{sc F} (r:PS sc F)=>p70<|sg 45 c69<|sv (aE e)<|sv (aF e)<|cq (eQ.ln e.Alts)<|r
        rcases aP h with⟨c71,h⟩|⟨c71,h⟩
        ·obtain rfl:=lf h
         exact bJ fG (p72<|sg 52 c71<|eF .normal (ah e ok m m2 m3 m4 m5 m6 m7 m8 m9 true))<|by kernel_rfl
        ·have p74:=fun{sc F} (r:PS sc F)=>p72<|sg 52 c71<|ss<|r
         rcases aP h with⟨c73,h⟩|⟨c73,h⟩
         ·obtain rfl:=lf h
          exact bJ fG (p74<|sg 56 c73<|sv (aL e)<|sv (aM e)<|cq (ee.ln e.Types)<|eF .normal (ah e ok m m2 m3 m4 m5 m6 m7 m8 m9 (decide ((e.Types.length:Int)>0))))<|by kernel_rfl
         ·obtain rfl:=lf h
          exact bJ fG (p74<|sg 56 c73<|eF .normal (ah e ok m m2 m3 m4 m5 m6 m7 m8 m9 false))<|by kernel_rfl
       ·have p76:=fun{sc F} (r:PS sc F)=>p70<|sg 45 c69<|ss<|r
        rcases aP h with⟨c75,h⟩|⟨c75,h⟩
        ·obtain rfl:=lf h
         exact bJ fG (p76<|sg 56 c75<|sv (aL e)<|sv (aM e)<|cq (ee.ln e.Types)<|eF .normal (ah e ok m m2 m3 m4 m5 m6 m7 m8 m9 (decide ((e.Types.length:Int)>0))))<|by kernel_rfl
        ·obtain rfl:=lf h
         exact bJ fG (p76<|sg 56 c75<|eF .normal (ah e ok m m2 m3 m4 m5 m6 m7 m8 m9 false))<|by kernel_rfl
    ·have p78:=fun{sc F} (r:PS sc F)=>p54<|sg 23 c53<|ss<|r
     rcases aP h with⟨c77,h⟩|⟨c77,h⟩
     ·have p80:=fun{sc F} (r:PS sc F)=>p78<|sg 34 c77<|sv (bE e)<|sv (bG e)<|cq (lC.ln e.Params)<|r
      rcases aP h with⟨c79,h⟩|⟨c79,h⟩
      ·obtain rfl:=lf h
       exact bJ fG (p80<|sg 41 c79<|eF .normal (ah e ok m m2 m3 m4 m5 m6 m7 m8 m9 true))<|by kernel_rfl
      ·have p82:=fun{sc F} (r:PS sc F)=>p80<|sg 41 c79<|ss<|r
       rcases aP h with⟨c81,h⟩|⟨c81,h⟩
       ·have p84:=fun{sc F} (r:PS sc F)=>p82<|sg 45 c81<|sv (aE e)<|sv (aF e)<|cq (eQ.ln e.Alts)<|r
        rcases aP h with⟨c83,h⟩|⟨c83,h⟩
        ·obtain rfl:=lf h
         exact bJ fG (p84<|sg 52 c83<|eF .normal (ah e ok m m2 m3 m4 m5 m6 m7 m8 m9 true))<|by kernel_rfl
        ·have p86:=fun{sc F} (r:PS sc F)=>p84<|sg 52 c83<|ss<|r
         rcases aP h with⟨c85,h⟩|⟨c85,h⟩
         ·obtain rfl:=lf h
          exact bJ fG (p86<|sg 56 c85<|sv (aL e)<|sv (aM e)<|cq (ee.ln e.Types)<|eF .normal (ah e ok m m2 m3 m4 m5 m6 m7 m8 m9 (decide ((e.Types.length:Int)>0))))<|by kernel_rfl
         ·obtain rfl:=lf h
          exact bJ fG (p86<|sg 56 c85<|eF .normal (ah e ok m m2 m3 m4 m5 m6 m7 m8 m9 false))<|by kernel_rfl
       ·have p88:=fun{sc F} (r:PS sc F)=>p82<|sg 45 c81<|ss<|r
        rcases aP h with⟨c87,h⟩|⟨c87,h⟩
        ·obtain rfl:=lf h
         exact bJ fG (p88<|sg 56 c87<|sv (aL e)<|sv (aM e)<|cq (ee.ln e.Types)<|eF .normal (ah e ok m m2 m3 m4 m5 m6 m7 m8 m9 (decide ((e.Types.length:Int)>0))))<|by kernel_rfl
        ·obtain rfl:=lf h
         exact bJ fG (p88<|sg 56 c87<|eF .normal (ah e ok m m2 m3 m4 m5 m6 m7 m8 m9 false))<|by kernel_rfl
     ·have p90:=fun{sc F} (r:PS sc F)=>p78<|sg 34 c77<|ss<|r
      rcases aP h with⟨c89,h⟩|⟨c89,h⟩
      ·have p92:=fun{sc F} (r:PS sc F)=>p90<|sg 45 c89<|sv (aE e)<|sv (aF e)<|cq (eQ.ln e.Alts)<|r
       rcases aP h with⟨c91,h⟩|⟨c91,h⟩
       ·obtain rfl:=lf h
        exact bJ fG (p92<|sg 52 c91<|eF .normal (ah e ok m m2 m3 m4 m5 m6 m7 m8 m9 true))<|by kernel_rfl
       ·have p94:=fun{sc F} (r:PS sc F)=>p92<|sg 52 c91<|ss<|r
        rcases aP h with⟨c93,h⟩|⟨c93,h⟩
        ·obtain rfl:=lf h
         exact bJ fG (p94<|sg 56 c93<|sv (aL e)<|sv (aM e)<|cq (ee.ln e.Types)<|eF .normal (ah e ok m m2 m3 m4 m5 m6 m7 m8 m9 (decide ((e.Types.length:Int)>0))))<|by kernel_rfl
        ·obtain rfl:=lf h
         exact bJ fG (p94<|sg 56 c93<|eF .normal (ah e ok m m2 m3 m4 m5 m6 m7 m8 m9 false))<|by kernel_rfl
      ·have p96:=fun{sc F} (r:PS sc F)=>p90<|sg 45 c89<|ss<|r
       rcases aP h with⟨c95,h⟩|⟨c95,h⟩
       ·obtain rfl:=lf h
        exact bJ fG (p96<|sg 56 c95<|sv (aL e)<|sv (aM e)<|cq (ee.ln e.Types)<|eF .normal (ah e ok m m2 m3 m4 m5 m6 m7 m8 m9 (decide ((e.Types.length:Int)>0))))<|by kernel_rfl
       ·obtain rfl:=lf h
        exact bJ fG (p96<|sg 56 c95<|eF .normal (ah e ok m m2 m3 m4 m5 m6 m7 m8 m9 false))<|by kernel_rfl
 ·have p98:=fun{sc F} (r:PS sc F)=>ss<|sg 4 c2<|ss<|r
  rcases aP h with⟨c97,h⟩|⟨c97,h⟩
  ·have p100:=fun{sc F} (r:PS sc F)=>p98<|sg 13 c97<|sv (eu e)<|sv (fc e)<|r
   rcases aP h with⟨c99,h⟩|⟨c99,h⟩
   ·obtain rfl:=lf h
    exact bJ fG (p100<|sg 19 c99<|eF .normal (ah e ok m m2 m3 m4 m5 m6 m7 m8 m9 true))<|by kernel_rfl
   ·have p102:=fun{sc F} (r:PS sc F)=>p100<|sg 19 c99<|ss<|r
    rcases aP h with⟨c101,h⟩|⟨c101,h⟩
    ·have p104:=fun{sc F} (r:PS sc F)=>p102<|sg 23 c101<|sv (aX e)<|sv (aY e)<|cq (g6.ln e.Kids)<|r
     rcases aP h with⟨c103,h⟩|⟨c103,h⟩
     ·obtain rfl:=lf h
      exact bJ fG (p104<|sg 30 c103<|eF .normal (ah e ok m m2 m3 m4 m5 m6 m7 m8 m9 true))<|by kernel_rfl
     ·have p106:=fun{sc F} (r:PS sc F)=>p104<|sg 30 c103<|ss<|r
      rcases aP h with⟨c105,h⟩|⟨c105,h⟩
      ·have p108:=fun{sc F} (r:PS sc F)=>p106<|sg 34 c105<|sv (bE e)<|sv (bG e)<|cq (lC.ln e.Params)<|r
       rcases aP h with⟨c107,h⟩|⟨c107,h⟩
       ·obtain rfl:=lf h
        exact bJ fG (p108<|sg 41 c107<|eF .normal (ah e ok m m2 m3 m4 m5 m6 m7 m8 m9 true))<|by kernel_rfl
       ·have p110:=fun{sc F} (r:PS sc F)=>p108<|sg 41 c107<|ss<|r
        rcases aP h with⟨c109,h⟩|⟨c109,h⟩
        ·have p112:=fun{sc F} (r:PS sc F)=>p110<|sg 45 c109<|sv (aE e)<|sv (aF e)<|cq (eQ.ln e.Alts)<|r
         rcases aP h with⟨c111,h⟩|⟨c111,h⟩
         ·obtain rfl:=lf h
          exact bJ fG (p112<|sg 52 c111<|eF .normal (ah e ok m m2 m3 m4 m5 m6 m7 m8 m9 true))<|by kernel_rfl
         ·have p114:=fun{sc F} (r:PS sc F)=>p112<|sg 52 c111<|ss<|r
          rcases aP h with⟨c113,h⟩|⟨c113,h⟩
          ·obtain rfl:=lf h
           exact bJ fG (p114<|sg 56 c113<|sv (aL e)<|sv (aM e)<|cq (ee.ln e.Types)<|eF .normal (ah e ok m m2 m3 m4 m5 m6 m7 m8 m9 (decide ((e.Types.length:Int)>0))))<|by kernel_rfl
          ·obtain rfl:=lf h
           exact bJ fG (p114<|sg 56 c113<|eF .normal (ah e ok m m2 m3 m4 m5 m6 m7 m8 m9 false))<|by kernel_rfl
        ·have p116:=fun{sc F} (r:PS sc F)=>p110<|sg 45 c109<|ss<|r
         rcases aP h with⟨c115,h⟩|⟨c115,h⟩
         ·obtain rfl:=lf h
          exact bJ fG (p116<|sg 56 c115<|sv (aL e)<|sv (aM e)<|cq (ee.ln e.Types)<|eF .normal (ah e ok m m2 m3 m4 m5 m6 m7 m8 m9 (decide ((e.Types.length:Int)>0))))<|by kernel_rfl
         ·obtain rfl:=lf h
          exact bJ fG (p116<|sg 56 c115<|eF .normal (ah e ok m m2 m3 m4 m5 m6 m7 m8 m9 false))<|by kernel_rfl
      ·have p118:=fun{sc F} (r:PS sc F)=>p106<|sg 34 c105<|ss<|r
       rcases aP h with⟨c117,h⟩|⟨c117,h⟩
       ·have p120:=fun{sc F} (r:PS sc F)=>p118<|sg 45 c117<|sv (aE e)<|sv (aF e)<|cq (eQ.ln e.Alts)<|r
        rcases aP h with⟨c119,h⟩|⟨c119,h⟩
        ·obtain rfl:=lf h
         exact bJ fG (p120<|sg 52 c119<|eF .normal (ah e ok m m2 m3 m4 m5 m6 m7 m8 m9 true))<|by kernel_rfl
        ·have p122:=fun{sc F} (r:PS sc F)=>p120<|sg 52 c119<|ss<|r
         rcases aP h with⟨c121,h⟩|⟨c121,h⟩
         ·obtain rfl:=lf h
          exact bJ fG (p122<|sg 56 c121<|sv (aL e)<|sv (aM e)<|cq (ee.ln e.Types)<|eF .normal (ah e ok m m2 m3 m4 m5 m6 m7 m8 m9 (decide ((e.Types.length:Int)>0))))<|by kernel_rfl
         ·obtain rfl:=lf h
          exact bJ fG (p122<|sg 56 c121<|eF .normal (ah e ok m m2 m3 m4 m5 m6 m7 m8 m9 false))<|by kernel_rfl
       ·have p124:=fun{sc F} (r:PS sc F)=>p118<|sg 45 c117<|ss<|r
        rcases aP h with⟨c123,h⟩|⟨c123,h⟩
        ·obtain rfl:=lf h
         exact bJ fG (p124<|sg 56 c123<|sv (aL e)<|sv (aM e)<|cq (ee.ln e.Types)<|eF .normal (ah e ok m m2 m3 m4 m5 m6 m7 m8 m9 (decide ((e.Types.length:Int)>0))))<|by kernel_rfl
        ·obtain rfl:=lf h
         exact bJ fG (p124<|sg 56 c123<|eF .normal (ah e ok m m2 m3 m4 m5 m6 m7 m8 m9 false))<|by kernel_rfl
    ·have p126:=fun{sc F} (r:PS sc F)=>p102<|sg 23 c101<|ss<|r
     rcases aP h with⟨c125,h⟩|⟨c125,h⟩
     ·have p128:=fun{sc F} (r:PS sc F)=>p126<|sg 34 c125<|sv (bE e)<|sv (bG e)<|cq (lC.ln e.Params)<|r
      rcases aP h with⟨c127,h⟩|⟨c127,h⟩
      ·obtain rfl:=lf h
       exact bJ fG (p128<|sg 41 c127<|eF .normal (ah e ok m m2 m3 m4 m5 m6 m7 m8 m9 true))<|by kernel_rfl
      ·have p130:=fun{sc F} (r:PS sc F)=>p128<|sg 41 c127<|ss<|r
       rcases aP h with⟨c129,h⟩|⟨c129,h⟩
       ·have p132:=fun{sc F} (r:PS sc F)=>p130<|sg 45 c129<|sv (aE e)<|sv (aF e)<|cq (eQ.ln e.Alts)<|r
        rcases aP h with⟨c131,h⟩|⟨c131,h⟩
        ·obtain rfl:=lf h
         exact bJ fG (p132<|sg 52 c131<|eF .normal (ah e ok m m2 m3 m4 m5 m6 m7 m8 m9 true))<|by kernel_rfl
        ·have p134:=fun{sc F} (r:PS sc F)=>p132<|sg 52 c131<|ss<|r
         rcases aP h with⟨c133,h⟩|⟨c133,h⟩
         ·obtain rfl:=lf h
          exact bJ fG (p134<|sg 56 c133<|sv (aL e)<|sv (aM e)<|cq (ee.ln e.Types)<|eF .normal (ah e ok m m2 m3 m4 m5 m6 m7 m8 m9 (decide ((e.Types.length:Int)>0))))<|by kernel_rfl
         ·obtain rfl:=lf h
          exact bJ fG (p134<|sg 56 c133<|eF .normal (ah e ok m m2 m3 m4 m5 m6 m7 m8 m9 false))<|by kernel_rfl
       ·have p136:=fun{sc F} (r:PS sc F)=>p130<|sg 45 c129<|ss<|r
        rcases aP h with⟨c135,h⟩|⟨c135,h⟩
        ·obtain rfl:=lf h
         exact bJ fG (p136<|sg 56 c135<|sv (aL e)<|sv (aM e)<|cq (ee.ln e.Types)<|eF .normal (ah e ok m m2 m3 m4 m5 m6 m7 m8 m9 (decide ((e.Types.length:Int)>0))))<|by kernel_rfl
        ·obtain rfl:=lf h
         exact bJ fG (p136<|sg 56 c135<|eF .normal (ah e ok m m2 m3 m4 m5 m6 m7 m8 m9 false))<|by kernel_rfl
     ·have p138:=fun{sc F} (r:PS sc F)=>p126<|sg 34 c125<|ss<|r
      rcases aP h with⟨c137,h⟩|⟨c137,h⟩
      ·have p140:=fun{sc F} (r:PS sc F)=>p138<|sg 45 c137<|sv (aE e)<|sv (aF e)<|cq (eQ.ln e.Alts)<|r
       rcases aP h with⟨c139,h⟩|⟨c139,h⟩
       ·obtain rfl:=lf h
        exact bJ fG (p140<|sg 52 c139<|eF .normal (ah e ok m m2 m3 m4 m5 m6 m7 m8 m9 true))<|by kernel_rfl
       ·have p142:=fun{sc F} (r:PS sc F)=>p140<|sg 52 c139<|ss<|r
        rcases aP h with⟨c141,h⟩|⟨c141,h⟩
        ·obtain rfl:=lf h
         exact bJ fG (p142<|sg 56 c141<|sv (aL e)<|sv (aM e)<|cq (ee.ln e.Types)<|eF .normal (ah e ok m m2 m3 m4 m5 m6 m7 m8 m9 (decide ((e.Types.length:Int)>0))))<|by kernel_rfl
        ·obtain rfl:=lf h
         exact bJ fG (p142<|sg 56 c141<|eF .normal (ah e ok m m2 m3 m4 m5 m6 m7 m8 m9 false))<|by kernel_rfl
      ·have p144:=fun{sc F} (r:PS sc F)=>p138<|sg 45 c137<|ss<|r
       rcases aP h with⟨c143,h⟩|⟨c143,h⟩
       ·obtain rfl:=lf h
        exact bJ fG (p144<|sg 56 c143<|sv (aL e)<|sv (aM e)<|cq (ee.ln e.Types)<|eF .normal (ah e ok m m2 m3 m4 m5 m6 m7 m8 m9 (decide ((e.Types.length:Int)>0))))<|by kernel_rfl
       ·obtain rfl:=lf h
        exact bJ fG (p144<|sg 56 c143<|eF .normal (ah e ok m m2 m3 m4 m5 m6 m7 m8 m9 false))<|by kernel_rfl
  ·have p146:=fun{sc F} (r:PS sc F)=>p98<|sg 13 c97<|ss<|r
   rcases aP h with⟨c145,h⟩|⟨c145,h⟩
   ·have p148:=fun{sc F} (r:PS sc F)=>p146<|sg 23 c145<|sv (aX e)<|sv (aY e)<|cq (g6.ln e.Kids)<|r
    rcases aP h with⟨c147,h⟩|⟨c147,h⟩
    ·obtain rfl:=lf h
     exact bJ fG (p148<|sg 30 c147<|eF .normal (ah e ok m m2 m3 m4 m5 m6 m7 m8 m9 true))<|by kernel_rfl
    ·have p150:=fun{sc F} (r:PS sc F)=>p148<|sg 30 c147<|ss<|r
     rcases aP h with⟨c149,h⟩|⟨c149,h⟩
     ·have p152:=fun{sc F} (r:PS sc F)=>p150<|sg 34 c149<|sv (bE e)<|sv (bG e)<|cq (lC.ln e.Params)<|r
      rcases aP h with⟨c151,h⟩|⟨c151,h⟩
      ·obtain rfl:=lf h
       exact bJ fG (p152<|sg 41 c151<|eF .normal (ah e ok m m2 m3 m4 m5 m6 m7 m8 m9 true))<|by kernel_rfl
      ·have p154:=fun{sc F} (r:PS sc F)=>p152<|sg 41 c151<|ss<|r
       rcases aP h with⟨c153,h⟩|⟨c153,h⟩
       ·have p156:=fun{sc F} (r:PS sc F)=>p154<|sg 45 c153<|sv (aE e)<|sv (aF e)<|cq (eQ.ln e.Alts)<|r
        rcases aP h with⟨c155,h⟩|⟨c155,h⟩
        ·obtain rfl:=lf h
         exact bJ fG (p156<|sg 52 c155<|eF .normal (ah e ok m m2 m3 m4 m5 m6 m7 m8 m9 true))<|by kernel_rfl
        ·have p158:=fun{sc F} (r:PS sc F)=>p156<|sg 52 c155<|ss<|r
         rcases aP h with⟨c157,h⟩|⟨c157,h⟩
         ·obtain rfl:=lf h
          exact bJ fG (p158<|sg 56 c157<|sv (aL e)<|sv (aM e)<|cq (ee.ln e.Types)<|eF .normal (ah e ok m m2 m3 m4 m5 m6 m7 m8 m9 (decide ((e.Types.length:Int)>0))))<|by kernel_rfl
         ·obtain rfl:=lf h
          exact bJ fG (p158<|sg 56 c157<|eF .normal (ah e ok m m2 m3 m4 m5 m6 m7 m8 m9 false))<|by kernel_rfl
       ·have p160:=fun{sc F} (r:PS sc F)=>p154<|sg 45 c153<|ss<|r
        rcases aP h with⟨c159,h⟩|⟨c159,h⟩
        ·obtain rfl:=lf h
         exact bJ fG (p160<|sg 56 c159<|sv (aL e)<|sv (aM e)<|cq (ee.ln e.Types)<|eF .normal (ah e ok m m2 m3 m4 m5 m6 m7 m8 m9 (decide ((e.Types.length:Int)>0))))<|by kernel_rfl
        ·obtain rfl:=lf h
         exact bJ fG (p160<|sg 56 c159<|eF .normal (ah e ok m m2 m3 m4 m5 m6 m7 m8 m9 false))<|by kernel_rfl
     ·have p162:=fun{sc F} (r:PS sc F)=>p150<|sg 34 c149<|ss<|r
      rcases aP h with⟨c161,h⟩|⟨c161,h⟩
      ·have p164:=fun{sc F} (r:PS sc F)=>p162<|sg 45 c161<|sv (aE e)<|sv (aF e)<|cq (eQ.ln e.Alts)<|r
       rcases aP h with⟨c163,h⟩|⟨c163,h⟩
       ·obtain rfl:=lf h
        exact bJ fG (p164<|sg 52 c163<|eF .normal (ah e ok m m2 m3 m4 m5 m6 m7 m8 m9 true))<|by kernel_rfl
       ·have p166:=fun{sc F} (r:PS sc F)=>p164<|sg 52 c163<|ss<|r
        rcases aP h with⟨c165,h⟩|⟨c165,h⟩
        ·obtain rfl:=lf h
         exact bJ fG (p166<|sg 56 c165<|sv (aL e)<|sv (aM e)<|cq (ee.ln e.Types)<|eF .normal (ah e ok m m2 m3 m4 m5 m6 m7 m8 m9 (decide ((e.Types.length:Int)>0))))<|by kernel_rfl
        ·obtain rfl:=lf h
         exact bJ fG (p166<|sg 56 c165<|eF .normal (ah e ok m m2 m3 m4 m5 m6 m7 m8 m9 false))<|by kernel_rfl
      ·have p168:=fun{sc F} (r:PS sc F)=>p162<|sg 45 c161<|ss<|r
       rcases aP h with⟨c167,h⟩|⟨c167,h⟩
       ·obtain rfl:=lf h
        exact bJ fG (p168<|sg 56 c167<|sv (aL e)<|sv (aM e)<|cq (ee.ln e.Types)<|eF .normal (ah e ok m m2 m3 m4 m5 m6 m7 m8 m9 (decide ((e.Types.length:Int)>0))))<|by kernel_rfl
       ·obtain rfl:=lf h
        exact bJ fG (p168<|sg 56 c167<|eF .normal (ah e ok m m2 m3 m4 m5 m6 m7 m8 m9 false))<|by kernel_rfl
   ·have p170:=fun{sc F} (r:PS sc F)=>p146<|sg 23 c145<|ss<|r
    rcases aP h with⟨c169,h⟩|⟨c169,h⟩
    ·have p172:=fun{sc F} (r:PS sc F)=>p170<|sg 34 c169<|sv (bE e)<|sv (bG e)<|cq (lC.ln e.Params)<|r
     rcases aP h with⟨c171,h⟩|⟨c171,h⟩
     ·obtain rfl:=lf h
      exact bJ fG (p172<|sg 41 c171<|eF .normal (ah e ok m m2 m3 m4 m5 m6 m7 m8 m9 true))<|by kernel_rfl
     ·have p174:=fun{sc F} (r:PS sc F)=>p172<|sg 41 c171<|ss<|r
      rcases aP h with⟨c173,h⟩|⟨c173,h⟩
      ·have p176:=fun{sc F} (r:PS sc F)=>p174<|sg 45 c173<|sv (aE e)<|sv (aF e)<|cq (eQ.ln e.Alts)<|r
       rcases aP h with⟨c175,h⟩|⟨c175,h⟩
       ·obtain rfl:=lf h
        exact bJ fG (p176<|sg 52 c175<|eF .normal (ah e ok m m2 m3 m4 m5 m6 m7 m8 m9 true))<|by kernel_rfl
       ·have p178:=fun{sc F} (r:PS sc F)=>p176<|sg 52 c175<|ss<|r
        rcases aP h with⟨c177,h⟩|⟨c177,h⟩
        ·obtain rfl:=lf h
         exact bJ fG (p178<|sg 56 c177<|sv (aL e)<|sv (aM e)<|cq (ee.ln e.Types)<|eF .normal (ah e ok m m2 m3 m4 m5 m6 m7 m8 m9 (decide ((e.Types.length:Int)>0))))<|by kernel_rfl
        ·obtain rfl:=lf h
         exact bJ fG (p178<|sg 56 c177<|eF .normal (ah e ok m m2 m3 m4 m5 m6 m7 m8 m9 false))<|by kernel_rfl
      ·have p180:=fun{sc F} (r:PS sc F)=>p174<|sg 45 c173<|ss<|r
       rcases aP h with⟨c179,h⟩|⟨c179,h⟩
       ·obtain rfl:=lf h
        exact bJ fG (p180<|sg 56 c179<|sv (aL e)<|sv (aM e)<|cq (ee.ln e.Types)<|eF .normal (ah e ok m m2 m3 m4 m5 m6 m7 m8 m9 (decide ((e.Types.length:Int)>0))))<|by kernel_rfl
       ·obtain rfl:=lf h
        exact bJ fG (p180<|sg 56 c179<|eF .normal (ah e ok m m2 m3 m4 m5 m6 m7 m8 m9 false))<|by kernel_rfl
    ·have p182:=fun{sc F} (r:PS sc F)=>p170<|sg 34 c169<|ss<|r
     rcases aP h with⟨c181,h⟩|⟨c181,h⟩
     ·have p184:=fun{sc F} (r:PS sc F)=>p182<|sg 45 c181<|sv (aE e)<|sv (aF e)<|cq (eQ.ln e.Alts)<|r
      rcases aP h with⟨c183,h⟩|⟨c183,h⟩
      ·obtain rfl:=lf h
       exact bJ fG (p184<|sg 52 c183<|eF .normal (ah e ok m m2 m3 m4 m5 m6 m7 m8 m9 true))<|by kernel_rfl
      ·have p186:=fun{sc F} (r:PS sc F)=>p184<|sg 52 c183<|ss<|r
       rcases aP h with⟨c185,h⟩|⟨c185,h⟩
       ·obtain rfl:=lf h
        exact bJ fG (p186<|sg 56 c185<|sv (aL e)<|sv (aM e)<|cq (ee.ln e.Types)<|eF .normal (ah e ok m m2 m3 m4 m5 m6 m7 m8 m9 (decide ((e.Types.length:Int)>0))))<|by kernel_rfl
       ·obtain rfl:=lf h
        exact bJ fG (p186<|sg 56 c185<|eF .normal (ah e ok m m2 m3 m4 m5 m6 m7 m8 m9 false))<|by kernel_rfl
     ·have p188:=fun{sc F} (r:PS sc F)=>p182<|sg 45 c181<|ss<|r
      rcases aP h with⟨c187,h⟩|⟨c187,h⟩
      ·obtain rfl:=lf h
       exact bJ fG (p188<|sg 56 c187<|sv (aL e)<|sv (aM e)<|cq (ee.ln e.Types)<|eF .normal (ah e ok m m2 m3 m4 m5 m6 m7 m8 m9 (decide ((e.Types.length:Int)>0))))<|by kernel_rfl
      ·obtain rfl:=lf h
       exact bJ fG (p188<|sg 56 c187<|eF .normal (ah e ok m m2 m3 m4 m5 m6 m7 m8 m9 false))<|by kernel_rfl
end
section
variable(e:af)(ok:Bool)(unused:Bool)(m:Bool)(m2:Bool)(m3:Int)(m4:Int)(m5:Bool)(m6:Bool)(m7:Int)(m8:Int)(m9:Bool)
def Ft:aA:=bj 156 [(1,.eptr (ae e)),(3,.bptr 1 0),(4,.bool ok),(5,.bool unused)] [.dead,.cells [.bool m,.bool m2,.int .i64 m3,.int .i64 m4,.bool m5,.bool m6,.int .i64 m7,.int .i64 m8,.bool m9] []] []
def rl(o:Bool):aA:=bj 156 [(1,.eptr (ae e)),(3,.bptr 1 0),(81,.bool o)] [.dead,.cells [.bool m,.bool m2,.int .i64 m3,.int .i64 m4,.bool m5,.bool m6,.int .i64 m7,.int .i64 m8,.bool m9] []] []
def Ap:Option Bool:=
 if(!ok)=true then
  some true
 else
  some unused
theorem Ek{x:Bool}(h:Ap ok unused=some x):aR Pg GE 0 (cA Nv 122) (EX .normal (rl e m m2 m3 m4 m5 m6 m7 m8 m9 x)) (Ft e ok unused m m2 m3 m4 m5 m6 m7 m8 m9):=by
 rcases aP h with⟨c190,h⟩|⟨c190,h⟩
 ·obtain rfl:=lf h
  exact bJ fG (sg 3 c190<|eF .normal (rl e m m2 m3 m4 m5 m6 m7 m8 m9 true))<|by kernel_rfl
 ·obtain rfl:=lf h
  exact bJ fG (sg 3 c190<|eF .normal (rl e m m2 m3 m4 m5 m6 m7 m8 m9 unused))<|by kernel_rfl
end
section
variable(e:af)(m:Bool)(m2:Bool)(m3:Int)(m4:Int)(m5:Bool)(m6:Bool)(m7:Int)(m8:Int)(m9:Bool)
def Fu:aA:=bj 156 [(1,.eptr (ae e)),(3,.bptr 1 0)] [.dead,.cells [.bool m,.bool m2,.int .i64 m3,.int .i64 m4,.bool m5,.bool m6,.int .i64 m7,.int .i64 m8,.bool m9] []] []
def ft(o:Bool):aA:=bj 156 [(1,.eptr (ae e)),(3,.bptr 1 0),(92,.bool o)] [.dead,.cells [.bool m,.bool m2,.int .i64 m3,.int .i64 m4,.bool m5,.bool m6,.int .i64 m7,.int .i64 m8,.bool m9] []] []
def Aq:Option Bool:=
 if (e.Op == 1) = true then
  (Sa e.N).bind fun r199=>
  if(!r199)=true then
   some true
  else
   if(e.Op==2)=true then
    if(e.N !=0)=true then
     some (e.N !=1)
    else
     some false
   else
    some false
 else
  if(e.Op==2)=true then
   if(e.N !=0)=true then
    some (e.N !=1)
   else
    some false
  else
   some false
theorem El{x:Bool}(h:Aq e=some x):aR Pg GE 0 (cA Nv 1982) (EX .normal (ft e m m2 m3 m4 m5 m6 m7 m8 m9 x)) (Fu e m m2 m3 m4 m5 m6 m7 m8 m9):=by
 have p198:=fun{sc F} (r:PS sc F)=>sv (cX e)<|sv (cY e)<|r
 rcases aP h with⟨c197,h⟩|⟨c197,h⟩
 ·obtain⟨r199,br199,h⟩:=aJ h
  have p201:=fun{sc F} (r:PS sc F)=>p198<|sg 4 c197<|sv (iI e)<|sv (jM e)<|cW (PW br199)<|r
  rcases aP h with⟨c200,h⟩|⟨c200,h⟩
  ·obtain rfl:=lf h
   exact bJ fG (p201<|sg 10 c200<|eF .normal (ft e m m2 m3 m4 m5 m6 m7 m8 m9 true))<|by kernel_rfl
  ·have p203:=fun{sc F} (r:PS sc F)=>p201<|sg 10 c200<|sv (cX e)<|sv (cY e)<|r
   rcases aP h with⟨c202,h⟩|⟨c202,h⟩
   ·have p205:=fun{sc F} (r:PS sc F)=>p203<|sg 14 c202<|sv (iI e)<|sv (jM e)<|r
    rcases aP h with⟨c204,h⟩|⟨c204,h⟩
    ·obtain rfl:=lf h
     exact bJ fG (p205<|sg 19 c204<|sv (iI e)<|sv (jM e)<|eF .normal (ft e m m2 m3 m4 m5 m6 m7 m8 m9 (e.N !=1)))<|by kernel_rfl
    ·obtain rfl:=lf h
     exact bJ fG (p205<|sg 19 c204<|eF .normal (ft e m m2 m3 m4 m5 m6 m7 m8 m9 false))<|by kernel_rfl
   ·obtain rfl:=lf h
    exact bJ fG (p203<|sg 14 c202<|eF .normal (ft e m m2 m3 m4 m5 m6 m7 m8 m9 false))<|by kernel_rfl
 ·have p207:=fun{sc F} (r:PS sc F)=>p198<|sg 4 c197<|sv (cX e)<|sv (cY e)<|r
  rcases aP h with⟨c206,h⟩|⟨c206,h⟩
  ·have p209:=fun{sc F} (r:PS sc F)=>p207<|sg 14 c206<|sv (iI e)<|sv (jM e)<|r
   rcases aP h with⟨c208,h⟩|⟨c208,h⟩
   ·obtain rfl:=lf h
    exact bJ fG (p209<|sg 19 c208<|sv (iI e)<|sv (jM e)<|eF .normal (ft e m m2 m3 m4 m5 m6 m7 m8 m9 (e.N !=1)))<|by kernel_rfl
   ·obtain rfl:=lf h
    exact bJ fG (p209<|sg 19 c208<|eF .normal (ft e m m2 m3 m4 m5 m6 m7 m8 m9 false))<|by kernel_rfl
  ·obtain rfl:=lf h
   exact bJ fG (p207<|sg 14 c206<|eF .normal (ft e m m2 m3 m4 m5 m6 m7 m8 m9 false))<|by kernel_rfl
end
section
variable(e:af)(t124:waB)(t125:Int)(m:Bool)(m2:Bool)(m3:Int)(m4:Int)(m5:Bool)(m6:Bool)(m7:Int)(m8:Int)(m9:Bool)(t126:Int)
def kG:aA:=bj 156 [(1,.eptr (ae e)),(124,sl ai t124),(125,.int .i64 t125),(126,.int .i64 t126)] [.dead,.cells [.bool m,.bool m2,.int .i64 m3,.int .i64 m4,.bool m5,.bool m6,.int .i64 m7,.int .i64 m8,.bool m9] []] []
def kH(o:Int⊕(Unit)):Exit:=match o with
 |(.inl _)=>.ret
 |(.inr _)=>.exit 1
def gB(o:Int⊕(Unit)):aA:=match o with
 |(.inl o)=>bj 156 [(2,.int .i64 o)] [.dead,.cells [.bool m,.bool m2,.int .i64 m3,.int .i64 m4,.bool m5,.bool m6,.int .i64 m7,.int .i64 m8,.bool m9] []] []
 |(.inr o)=>bj 156 [(1,.eptr (ae e))] [.dead,.cells [.bool m,.bool m2,.int .i64 m3,.int .i64 m4,.bool m5,.bool m6,.int .i64 m7,.int .i64 m8,.bool m9] []] []
def xo:Option (Int⊕(Int⊕(Unit))):=
 if(decide (t126<t125))=true then
  (gY t124 t126).bind fun x217=>
  (Av x217).bind fun r218=>
  if(r218 !=0)=true then
   some (.inr (.inl r218))
  else
   some (.inl (cp (t126+1)))
 else
  some (.inr (.inr ()))
def As:Option (Int⊕(Unit)):=loop (fun(zz:Int)=>xo t124 t125 zz) t126
theorem CX{y:Int⊕(Int⊕(Unit))}(h:xo t124 t125 t126=some y):aR Pg GE 0 (cA Nv 1015) (LQ (fun(zz:Int)=>kG e t124 t125 m m2 m3 m4 m5 m6 m7 m8 m9 zz) kH (gB e m m2 m3 m4 m5 m6 m7 m8 m9) y) (kG e t124 t125 m m2 m3 m4 m5 m6 m7 m8 m9 t126):=by
 rcases aP h with⟨c216,h⟩|⟨c216,h⟩
 ·obtain⟨x217,bx217,h⟩:=aJ h
  obtain⟨r218,br218,h⟩:=aJ h
  have p220:=fun{sc F} (r:PS sc F)=>sg 0 c216<|sv (ee.ia (k:=.i64) bx217)<|sv (lm x217)<|sx Ob<|sx (qX x217)<|sv (kn x217 [])<|cW (Aw br218)<|r
  rcases aP h with⟨c219,h⟩|⟨c219,h⟩
  ·obtain rfl:=lf h
   have z:=p220<|sg 0 c219<|tN 0 (kH (.inl r218)) (gB e m m2 m3 m4 m5 m6 m7 m8 m9 (.inl r218)) rfl (d5 (aI trivial trivial)) (aI trivial (aI (aI trivial (aI trivial (aI trivial (aI trivial (aI trivial (aI trivial (aI trivial (aI trivial (aI trivial trivial))))))))) trivial))
   exact pR (A:=fG) mixed (by intro hx;cases hx) z<|by kernel_rfl
  ·obtain rfl:=lf h
   have z:=p220<|sg 0 c219<|tN 0 .normal (kG e t124 t125 m m2 m3 m4 m5 m6 m7 m8 m9 (cp (t126+1))) rfl (d5 (aI (be (ay e)) (aI (up (au aN t124)) (aI trivial (aI trivial trivial))))) (aI trivial (aI (aI trivial (aI trivial (aI trivial (aI trivial (aI trivial (aI trivial (aI trivial (aI trivial (aI trivial trivial))))))))) trivial))
   exact ez (A:=fG) mixed z<|by kernel_rfl
 ·obtain rfl:=lf h
  have z:=sg 0 c216<|eF (kH (.inr ())) (gB e m m2 m3 m4 m5 m6 m7 m8 m9 (.inr ()))
  exact kc fG (by intro hx;cases hx) z<|by kernel_rfl
theorem qj{x:Int⊕(Unit)}(h:As t124 t125 t126=some x):aR Pg GE 0 (.loop (cA Nv 1015)) (EX (kH x) (gB e m m2 m3 m4 m5 m6 m7 m8 m9 x)) (kG e t124 t125 m m2 m3 m4 m5 m6 m7 m8 m9 t126):=
 aR.loop (S:=fun(zz:Int)=>kG e t124 t125 m m2 m3 m4 m5 m6 m7 m8 m9 zz) (ex:=kH) (s:=t126) h fun zz y hy=>CX e t124 t125 m m2 m3 m4 m5 m6 m7 m8 m9 zz hy
end
section
variable(v:Int)(t137:waD)(t138:Int)(t139:Int)(m:Bool)(m2:Bool)(m3:Int)(m4:Int)(m5:Bool)(m6:Bool)(m7:Int)(m8:Int)(m9:Bool)(m10:ag)(m11:Int)(m12:ag)(m13:waB)(m14:waA)(m15:Int)(m16:ag)(m17:Int)(m18:waF)(m19:waF)
def Fv:aA:=bj 156 [(11,.bptr 2 0),(12,.int .i64 v),(137,sl aq t137),(138,.int .i64 t138),(139,.int .i64 t139)] [.dead,.cells [.bool m,.bool m2,.int .i64 m3,.int .i64 m4,.bool m5,.bool m6,.int .i64 m7,.int .i64 m8,.bool m9] [],.cells [.str m10,.int .i64 m11,.str m12,sl ai m13,sl cS m14,.int .i64 m15,.str m16,.int .i64 m17,sl aw m18,sl aw m19] []] []
def rm(o:Bool):aA:=bj 156 [(12,.int .i64 v),(137,sl aq t137),(138,.int .i64 t138),(139,.int .i64 t139),(153,.bool o)] [.dead,.cells [.bool m,.bool m2,.int .i64 m3,.int .i64 m4,.bool m5,.bool m6,.int .i64 m7,.int .i64 m8,.bool m9] [],.cells [.str m10,.int .i64 m11,.str m12,sl ai m13,sl cS m14,.int .i64 m15,.str m16,.int .i64 m17,sl aw m18,sl aw m19] []] []
def Ar:Option Bool:=
 if(v !=0)=true then
  (Gh (⟨m11,m12,m13,m14,(⟨m15,m16,m17,m18⟩:ax),m19⟩:aj)).bind fun r226=>
  some (!r226)
 else
  some false
theorem Em{x:Bool}(h:Ar v m11 m12 m13 m14 m15 m16 m17 m18 m19=some x):aR Pg GE 0 (cA Nv 261102) (EX .normal (rm v t137 t138 t139 m m2 m3 m4 m5 m6 m7 m8 m9 m10 m11 m12 m13 m14 m15 m16 m17 m18 m19 x)) (Fv v t137 t138 t139 m m2 m3 m4 m5 m6 m7 m8 m9 m10 m11 m12 m13 m14 m15 m16 m17 m18 m19):=by
 rcases aP h with⟨c225,h⟩|⟨c225,h⟩
 ·obtain⟨r226,br226,h⟩:=aJ h
  obtain rfl:=lf h
  exact bJ fG (sg 3 c225<|sv (kn (⟨m11,m12,m13,m14,(⟨m15,m16,m17,m18⟩:ax),m19⟩:aj) [])<|cW (IS br226)<|eF .normal (rm v t137 t138 t139 m m2 m3 m4 m5 m6 m7 m8 m9 m10 m11 m12 m13 m14 m15 m16 m17 m18 m19 (!r226)))<|by kernel_rfl
 ·obtain rfl:=lf h
  exact bJ fG (sg 3 c225<|eF .normal (rm v t137 t138 t139 m m2 m3 m4 m5 m6 m7 m8 m9 m10 m11 m12 m13 m14 m15 m16 m17 m18 m19 false))<|by kernel_rfl
end
section
variable(t137:waD)(t138:Int)(m:Bool)(m2:Bool)(m3:Int)(m4:Int)(m5:Bool)(m6:Bool)(m7:Int)(m8:Int)(m9:Bool)(t139:Int)
def kI:aA:=bj 156 [(137,sl aq t137),(138,.int .i64 t138),(139,.int .i64 t139)] [.dead,.cells [.bool m,.bool m2,.int .i64 m3,.int .i64 m4,.bool m5,.bool m6,.int .i64 m7,.int .i64 m8,.bool m9] []] []
def kJ(o:Int⊕(Unit)):Exit:=match o with
 |(.inl _)=>.ret
 |(.inr _)=>.exit 3
def iQ(o:Int⊕(Unit)):aA:=match o with
 |(.inl o)=>bj 156 [(2,.int .i64 o)] [.dead,.cells [.bool m,.bool m2,.int .i64 m3,.int .i64 m4,.bool m5,.bool m6,.int .i64 m7,.int .i64 m8,.bool m9] []] []
 |(.inr o)=>bj 156 [] [.dead,.cells [.bool m,.bool m2,.int .i64 m3,.int .i64 m4,.bool m5,.bool m6,.int .i64 m7,.int .i64 m8,.bool m9] []] []
def xp:Option (Int⊕(Int⊕(Unit))):=
 if(decide (t139<t138))=true then
  (gY t137 t139).bind fun x223=>
  (Av x223.Type_).bind fun r224=>
  (Ar r224 x223.Type_.Op x223.Type_.Name x223.Type_.Args x223.Type_.Names x223.Type_.Pred.Op x223.Type_.Pred.Name x223.Type_.Pred.N x223.Type_.Pred.Kids x223.Type_.Preds).bind fun o227=>
  if o227=true then
   some (.inr (.inl r224))
  else
   some (.inl (cp (t139+1)))
 else
  some (.inr (.inr ()))
def At:Option (Int⊕(Unit)):=loop (fun(zz:Int)=>xp t137 t138 zz) t139
theorem CY{y:Int⊕(Int⊕(Unit))}(h:xp t137 t138 t139=some y):aR Pg GE 0 (cA Nv 2039) (LQ (fun(zz:Int)=>kI t137 t138 m m2 m3 m4 m5 m6 m7 m8 m9 zz) kJ (iQ m m2 m3 m4 m5 m6 m7 m8 m9) y) (kI t137 t138 m m2 m3 m4 m5 m6 m7 m8 m9 t139):=by
 rcases aP h with⟨c222,h⟩|⟨c222,h⟩
 ·obtain⟨x223,bx223,h⟩:=aJ h
  obtain⟨r224,br224,h⟩:=aJ h
  obtain⟨o227,bo227,h⟩:=aJ h
  have p229:=fun{sc F} (r:PS sc F)=>sg 0 c222<|sv (lC.ia (k:=.i64) bx223)<|sv (AQ x223)<|sx Qd<|sx (mQ x223)<|sv (kn x223.Type_ [])<|cW (Aw br224)<|rN 0<|dS (Em r224 t137 t138 t139 m m2 m3 m4 m5 m6 m7 m8 m9 x223.Name x223.Type_.Op x223.Type_.Name x223.Type_.Args x223.Type_.Names x223.Type_.Pred.Op x223.Type_.Pred.Name x223.Type_.Pred.N x223.Type_.Pred.Kids x223.Type_.Preds bo227)<|r
  rcases aP h with⟨c228,h⟩|⟨c228,h⟩
  ·obtain rfl:=lf h
   have z:=p229<|sg 0 c228<|tN 0 (kJ (.inl r224)) (iQ m m2 m3 m4 m5 m6 m7 m8 m9 (.inl r224)) rfl (d5 (aI trivial trivial)) (aI trivial (aI (aI trivial (aI trivial (aI trivial (aI trivial (aI trivial (aI trivial (aI trivial (aI trivial (aI trivial trivial))))))))) trivial))
   exact pR (A:=fG) mixed (by intro hx;cases hx) z<|by kernel_rfl
  ·obtain rfl:=lf h
   have z:=p229<|sg 0 c228<|tN 0 .normal (kI t137 t138 m m2 m3 m4 m5 m6 m7 m8 m9 (cp (t139+1))) rfl (d5 (aI (up (au bo t137)) (aI trivial (aI trivial trivial)))) (aI trivial (aI (aI trivial (aI trivial (aI trivial (aI trivial (aI trivial (aI trivial (aI trivial (aI trivial (aI trivial trivial))))))))) trivial))
   exact ez (A:=fG) mixed z<|by kernel_rfl
 ·obtain rfl:=lf h
  have z:=sg 0 c222<|eF (kJ (.inr ())) (iQ m m2 m3 m4 m5 m6 m7 m8 m9 (.inr ()))
  exact kc fG (by intro hx;cases hx) z<|by kernel_rfl
theorem wg{x:Int⊕(Unit)}(h:At t137 t138 t139=some x):aR Pg GE 0 (.loop (cA Nv 2039)) (EX (kJ x) (iQ m m2 m3 m4 m5 m6 m7 m8 m9 x)) (kI t137 t138 m m2 m3 m4 m5 m6 m7 m8 m9 t139):=
 aR.loop (S:=fun(zz:Int)=>kI t137 t138 m m2 m3 m4 m5 m6 m7 m8 m9 zz) (ex:=kJ) (s:=t139) h fun zz y hy=>CY t137 t138 m m2 m3 m4 m5 m6 m7 m8 m9 zz hy
end
def Gg (e:af):Option Int :=
 (B8 e.Op).bind fun r1=>
 (Ao e r1.1.n r1.1.name r1.1.most r1.1.params r1.1.alts r1.1.types).bind fun o189=>
 (Ap r1.2 o189).bind fun o191=>
 if o191=true then
  some 1
 else
  (B7 e r1.1).bind fun r194=>
  if(!r194)=true then
   some 13
  else
   (Aq e).bind fun o210=>
   if o210=true then
    some 2
   else
    (Ef e r1.1).bind fun r213=>
    if(r213 !=0)=true then
     some r213
    else
     (As e.Types (e.Types.length:Int) 0).bind fun o221=>match o221 with
     |(.inl o221)=>
      some o221
     | (.inr o221) =>
      (At e.Params (e.Params.length:Int) 0).bind fun o230=>match o230 with
      |(.inl o230)=>
       some o230
      |(.inr o230)=>
       some 0
theorem IR{e:af}{r:Int}(h:Gg e=some r):CC Pg GE 66 [.agg (ae e)] (.int .i64 r) []:=by
 obtain⟨r1,br1,h⟩:=aJ h
 obtain⟨o189,bo189,h⟩:=aJ h
 obtain⟨o191,bo191,h⟩:=aJ h
 have p193:=fun{sc F} (r:PS sc F)=>se (cJ e)<|sv (cX e)<|sv (cY e)<|cW (Fw br1)<|sx Ua<|sx (cu r1.1)<|rN 0<|dS (Ej e r1.2 r1.1.n r1.1.name r1.1.least r1.1.most r1.1.params r1.1.alts r1.1.typesLeast r1.1.typesMost r1.1.types bo189)<|rN 1<|dS (Ek e r1.2 o189 r1.1.n r1.1.name r1.1.least r1.1.most r1.1.params r1.1.alts r1.1.typesLeast r1.1.typesMost r1.1.types bo191)<|r
 rcases aP h with⟨c192,h⟩|⟨c192,h⟩
 ·obtain rfl:=lf h
  have z:=p193<|sg 0 c192<|en (aI (rP (.int .i64 1))<|trivial)
  exact cR fG call66 func66 (c:=Nv) rfl (aI (ay e) trivial) z<|by kernel_rfl
 ·obtain⟨r194,br194,h⟩:=aJ h
  have p196:=fun{sc F} (r:PS sc F)=>p193<|sg 0 c192<|sv (bv e)<|sv (wU r1.1 [])<|cW (Fq br194)<|r
  rcases aP h with⟨c195,h⟩|⟨c195,h⟩
  ·obtain rfl:=lf h
   have z:=p196<|sg 0 c195<|en (aI (rP (.int .i64 13))<|trivial)
   exact cR fG call66 func66 (c:=Nv) rfl (aI (ay e) trivial) z<|by kernel_rfl
  ·obtain⟨o210,bo210,h⟩:=aJ h
   have p212:=fun{sc F} (r:PS sc F)=>p196<|sg 0 c195<|rN 0<|dS (El e r1.1.n r1.1.name r1.1.least r1.1.most r1.1.params r1.1.alts r1.1.typesLeast r1.1.typesMost r1.1.types bo210)<|r
   rcases aP h with⟨c211,h⟩|⟨c211,h⟩
   ·obtain rfl:=lf h
    have z:=p212<|sg 0 c211<|en (aI (rP (.int .i64 2))<|trivial)
    exact cR fG call66 func66 (c:=Nv) rfl (aI (ay e) trivial) z<|by kernel_rfl
   ·obtain⟨r213,br213,h⟩:=aJ h
    have p215:=fun{sc F} (r:PS sc F)=>p212<|sg 0 c211<|sv (bv e)<|sv (wU r1.1 [])<|cW (GY br213)<|r
    rcases aP h with⟨c214,h⟩|⟨c214,h⟩
    ·obtain rfl:=lf h
     have z:=p215<|sg 0 c214<|en (aI (rP (.int .i64 r213))<|trivial)
     exact cR fG call66 func66 (c:=Nv) rfl (aI (ay e) trivial) z<|by kernel_rfl
    ·obtain⟨o221,bo221,h⟩:=aJ h
     rcases o221 with o221|o221
     ·obtain rfl:=lf h
      have z:=p215<|sg 0 c214<|sv (aL e)<|sv (aM e)<|cq (ee.ln e.Types)<|dS (e:=.ret) (s1:=gB e r1.1.n r1.1.name r1.1.least r1.1.most r1.1.params r1.1.alts r1.1.typesLeast r1.1.typesMost r1.1.types (.inl o221)) (qj e e.Types (e.Types.length:Int) r1.1.n r1.1.name r1.1.least r1.1.most r1.1.params r1.1.alts r1.1.typesLeast r1.1.typesMost r1.1.types 0 bo221)<|en (aI (rP (.int .i64 o221))<|trivial)
      exact cR fG call66 func66 (c:=Nv) rfl (aI (ay e) trivial) z<|by kernel_rfl
     ·obtain⟨o230,bo230,h⟩:=aJ h
      rcases o230 with o230|o230
      ·obtain rfl:=lf h
       have z:=p215<|sg 0 c214<|sv (aL e)<|sv (aM e)<|cq (ee.ln e.Types)<|dS (e:=.exit 1) (s1:=gB e r1.1.n r1.1.name r1.1.least r1.1.most r1.1.params r1.1.alts r1.1.typesLeast r1.1.typesMost r1.1.types (.inr o221)) (qj e e.Types (e.Types.length:Int) r1.1.n r1.1.name r1.1.least r1.1.most r1.1.params r1.1.alts r1.1.typesLeast r1.1.typesMost r1.1.types 0 bo221)<|sv (bE e)<|sv (bG e)<|cq (lC.ln e.Params)<|dS (e:=.ret) (s1:=iQ r1.1.n r1.1.name r1.1.least r1.1.most r1.1.params r1.1.alts r1.1.typesLeast r1.1.typesMost r1.1.types (.inl o230)) (wg e.Params (e.Params.length:Int) r1.1.n r1.1.name r1.1.least r1.1.most r1.1.params r1.1.alts r1.1.typesLeast r1.1.typesMost r1.1.types 0 bo230)<|en (aI (rP (.int .i64 o230))<|trivial)
       exact cR fG call66 func66 (c:=Nv) rfl (aI (ay e) trivial) z<|by kernel_rfl
      ·obtain rfl:=lf h
       have z:=p215<|sg 0 c214<|sv (aL e)<|sv (aM e)<|cq (ee.ln e.Types)<|dS (e:=.exit 1) (s1:=gB e r1.1.n r1.1.name r1.1.least r1.1.most r1.1.params r1.1.alts r1.1.typesLeast r1.1.typesMost r1.1.types (.inr o221)) (qj e e.Types (e.Types.length:Int) r1.1.n r1.1.name r1.1.least r1.1.most r1.1.params r1.1.alts r1.1.typesLeast r1.1.typesMost r1.1.types 0 bo221)<|sv (bE e)<|sv (bG e)<|cq (lC.ln e.Params)<|dS (e:=.exit 3) (s1:=iQ r1.1.n r1.1.name r1.1.least r1.1.most r1.1.params r1.1.alts r1.1.typesLeast r1.1.typesMost r1.1.types (.inr o230)) (wg e.Params (e.Params.length:Int) r1.1.n r1.1.name r1.1.least r1.1.most r1.1.params r1.1.alts r1.1.typesLeast r1.1.typesMost r1.1.types 0 bo230)<|en (aI (rP (.int .i64 0))<|trivial)
       exact cR fG call66 func66 (c:=Nv) rfl (aI (ay e) trivial) z<|by kernel_rfl
noncomputable def YE:Code:=f65.body.getD .skip
def Yn:List Nat:=[]
def Ah(a:af)(k0:Int):Option (Bool×Int):=
 (Gg a).bind fun r1=>
 some (r1==0,r1)
theorem Eb{a:af}{k0:Int}{r:Bool×Int}(h:Ah a k0=some r):C Pg GE 65 [.agg (ae a),.bptr 0 0] [] [.cells [.int .i64 k0] []] (.bool r.1) [] [.cells [.int .i64 r.2] []]:=by
 obtain⟨r1,br1,h⟩:=aJ h
 obtain rfl:=lf h
 have z:=se (cJ a)<|sv (bv a)<|cW (IR br1)<|ss<|ss<|en (aI (rP (.bool (r1==0)))<|aI trivial<|aI (rL [.cells [.int .i64 r1] []])<|(aI (aI trivial trivial) trivial))
 exact C.evGp (A:=Yn) mixed (m:=1) (c:=YE) rfl call65 func65 rfl z<|by kernel_rfl
section
variable(R58:gd)(e:af)(t14:waE)(t15:Int)(t16:Int)(m:Int)
def eV:aA:=bj 38 [(1,.func (.func 65) [] [.bptr 0 0]),(2,.eptr (ae e)),(14,sl ae t14),(15,.int .i64 t15),(16,.int .i64 t16)] [.cells [.int .i64 m] [],.dead] []
def eW(o:Int⊕(Int)):Exit:=match o with
 |(.inl _)=>.ret
 |(.inr _)=>.exit 0
def db(o:Int⊕(Int)):aA:=match o with
 |(.inl o)=>bj 38 [(4,.bool false)] [.cells [.int .i64 o] [],.dead] []
 |(.inr o)=>bj 38 [(1,.func (.func 65) [] [.bptr 0 0]),(2,.eptr (ae e))] [.cells [.int .i64 o] [],.dead] []
def oh:Option ((Int×Int)⊕(Int⊕(Int))):=
 if(decide (t16<t15))=true then
  (gY t14 t16).bind fun x5=>
  (R58 x5 m).bind fun r6=>
  if(!r6.1)=true then
   some (.inr (.inl r6.2))
  else
   some (.inl (cp (t16+1),r6.2))
 else
  some (.inr (.inr m))
def qm:Option (Int⊕(Int)):=loop (fun(zz:Int×Int)=>oh R58 t14 t15 zz.1 zz.2) (t16,m)
theorem uX(hR58:ga R58){y:(Int×Int)⊕(Int⊕(Int))}(h:oh R58 t14 t15 t16 m=some y):aR Pg GE 1 (cA BG 119) (LQ (fun(zz:Int×Int)=>eV e t14 t15 zz.1 zz.2) eW (db e) y) (eV e t14 t15 t16 m):=by
 rcases aP h with⟨c4,h⟩|⟨c4,h⟩
 ·obtain⟨x5,bx5,h⟩:=aJ h
  obtain⟨r6,br6,h⟩:=aJ h
  have p8:=fun{sc F} (r:PS sc F)=>sg 0 c4<|sv (g6.ia (k:=.i64) bx5)<|sv (bv x5)<|sx wG<|sx (kv x5)<|sv (bu x5 [])<|si (.cg ⟨[0],[.agg (ae x5),.func (.func 65) [] [.bptr 0 0]],[],[.cells [.int .i64 m] []],[.cells [.int .i64 m] []],[.cells [.int .i64 r6.2] []],[.cells [.int .i64 r6.2] []],.bool r6.1,.bool r6.1,[]⟩) (hR58 _ _ _ br6)<|sf (aI (xR [0] (.agg (ae x5)) (ay x5)) (aI (xF [0] (.func 65) [] [.bptr 0 0] [] [.bptr 0 0] trivial (aI (xB [0] 0 0 0 rfl) trivial)) trivial))<|sf (aI (aI (rB (.cells [.int .i64 m] [])) (aI (rW []) (aI (xR [0] (.int .i64 m) trivial) trivial))) trivial)<|sf (aI (aI (rW []) (aI (xR [0] (.int .i64 r6.2) trivial) trivial)) trivial)<|sf (xR [0] (.bool r6.1) trivial)<|r
  rcases aP h with⟨c7,h⟩|⟨c7,h⟩
  ·obtain rfl:=lf h
   have z:=p8<|sg 0 c7<|tN 1 (eW (.inl r6.2)) (db e (.inl r6.2)) rfl (d5 (aI trivial trivial)) (aI (aI trivial trivial) (aI trivial trivial))
   exact pR (A:=xz) mixed (by intro hx;cases hx) z<|by kernel_rfl
  ·obtain rfl:=lf h
   have z:=p8<|sg 0 c7<|tN 1 .normal (eV e t14 t15 (cp (t16+1)) r6.2) rfl (d5 (aI (aI trivial (aI (aZ rfl) trivial)) (aI (be (ay e)) (aI (up (au ay t14)) (aI trivial (aI trivial trivial)))))) (aI (aI trivial trivial) (aI trivial trivial))
   exact ez (A:=xz) mixed z<|by kernel_rfl
 ·obtain rfl:=lf h
  have z:=sg 0 c4<|eF (eW (.inr m)) (db e (.inr m))
  exact kc xz (by intro hx;cases hx) z<|by kernel_rfl
theorem jw(hR58:ga R58){x:Int⊕(Int)}(h:qm R58 t14 t15 t16 m=some x):aR Pg GE 1 (.loop (cA BG 119)) (EX (eW x) (db e x)) (eV e t14 t15 t16 m):=
 aR.loop (S:=fun(zz:Int×Int)=>eV e t14 t15 zz.1 zz.2) (ex:=eW) (s:=(t16,m)) h fun zz y hy=>uX R58 e t14 t15 zz.1 zz.2 hR58 hy
end
section
variable(R58:gd)(t26:waC)(t27:Int)(t28:Int)(m:Int)
def eX:aA:=bj 38 [(1,.func (.func 65) [] [.bptr 0 0]),(26,sl az t26),(27,.int .i64 t27),(28,.int .i64 t28)] [.cells [.int .i64 m] [],.dead] []
def eY(o:Int⊕(Int)):Exit:=match o with
 |(.inl _)=>.ret
 |(.inr _)=>.exit 2
def dZ(o:Int⊕(Int)):aA:=match o with
 |(.inl o)=>bj 38 [(4,.bool false)] [.cells [.int .i64 o] [],.dead] []
 |(.inr o)=>bj 38 [] [.cells [.int .i64 o] [],.dead] []
def ol:Option ((Int×Int)⊕(Int⊕(Int))):=
 if(decide (t28<t27))=true then
  (gY t26 t28).bind fun x11=>
  (R58 x11.Body m).bind fun r12=>
  if(!r12.1)=true then
   some (.inr (.inl r12.2))
  else
   some (.inl (cp (t28+1),r12.2))
 else
  some (.inr (.inr m))
def qn:Option (Int⊕(Int)):=loop (fun(zz:Int×Int)=>ol R58 t26 t27 zz.1 zz.2) (t28,m)
theorem uY(hR58:ga R58){y:(Int×Int)⊕(Int⊕(Int))}(h:ol R58 t26 t27 t28 m=some y):aR Pg GE 1 (cA BG 247) (LQ (fun(zz:Int×Int)=>eX t26 t27 zz.1 zz.2) eY dZ y) (eX t26 t27 t28 m):=by
 rcases aP h with⟨c10,h⟩|⟨c10,h⟩
 ·obtain⟨x11,bx11,h⟩:=aJ h
  obtain⟨r12,br12,h⟩:=aJ h
  have p14:=fun{sc F} (r:PS sc F)=>sg 0 c10<|sv (eQ.ia (k:=.i64) bx11)<|sv (mi x11)<|sx Fh<|sx (i8 x11)<|sv (bu x11.Body [])<|si (.cg ⟨[0],[.agg (ae x11.Body),.func (.func 65) [] [.bptr 0 0]],[],[.cells [.int .i64 m] []],[.cells [.int .i64 m] []],[.cells [.int .i64 r12.2] []],[.cells [.int .i64 r12.2] []],.bool r12.1,.bool r12.1,[]⟩) (hR58 _ _ _ br12)<|sf (aI (xR [0] (.agg (ae x11.Body)) (ay x11.Body)) (aI (xF [0] (.func 65) [] [.bptr 0 0] [] [.bptr 0 0] trivial (aI (xB [0] 0 0 0 rfl) trivial)) trivial))<|sf (aI (aI (rB (.cells [.int .i64 m] [])) (aI (rW []) (aI (xR [0] (.int .i64 m) trivial) trivial))) trivial)<|sf (aI (aI (rW []) (aI (xR [0] (.int .i64 r12.2) trivial) trivial)) trivial)<|sf (xR [0] (.bool r12.1) trivial)<|r
  rcases aP h with⟨c13,h⟩|⟨c13,h⟩
  ·obtain rfl:=lf h
   have z:=p14<|sg 0 c13<|tN 1 (eY (.inl r12.2)) (dZ (.inl r12.2)) rfl (d5 (aI trivial trivial)) (aI (aI trivial trivial) (aI trivial trivial))
   exact pR (A:=xz) mixed (by intro hx;cases hx) z<|by kernel_rfl
  ·obtain rfl:=lf h
   have z:=p14<|sg 0 c13<|tN 1 .normal (eX t26 t27 (cp (t28+1)) r12.2) rfl (d5 (aI (aI trivial (aI (aZ rfl) trivial)) (aI (up (au bW t26)) (aI trivial (aI trivial trivial))))) (aI (aI trivial trivial) (aI trivial trivial))
   exact ez (A:=xz) mixed z<|by kernel_rfl
 ·obtain rfl:=lf h
  have z:=sg 0 c10<|eF (eY (.inr m)) (dZ (.inr m))
  exact kc xz (by intro hx;cases hx) z<|by kernel_rfl
theorem ny(hR58:ga R58){x:Int⊕(Int)}(h:qn R58 t26 t27 t28 m=some x):aR Pg GE 1 (.loop (cA BG 247)) (EX (eY x) (dZ x)) (eX t26 t27 t28 m):=
 aR.loop (S:=fun(zz:Int×Int)=>eX t26 t27 zz.1 zz.2) (ex:=eY) (s:=(t28,m)) h fun zz y hy=>uY R58 t26 t27 zz.1 zz.2 hR58 hy
end
def qI(R58:gd)(e:af)(k0:Int):Option (Bool×Int):=
 (Ah e k0).bind fun r1=>
 if(!r1.1)=true then
  some (false,r1.2)
 else
  (qm R58 e.Kids (e.Kids.length:Int) 0 r1.2).bind fun o9=>match o9 with
  |(.inl o9)=>
   some (false,o9)
  | (.inr o9) =>
   (qn R58 e.Alts (e.Alts.length:Int) 0 o9).bind fun o15=>match o15 with
   |(.inl o15)=>
    some (false,o15)
   |(.inr o15)=>
    some (true,o15)
theorem xu(R58:gd)(hR58:ga R58){e:af}{k0:Int}{r:Bool×Int}(h:qI R58 e k0=some r):C Pg GE 64 [.agg (ae e),.func (.func 65) [] [.bptr 0 0]] [] [.cells [.int .i64 k0] []] (.bool r.1) [] [.cells [.int .i64 r.2] []]:=by
 obtain⟨r1,br1,h⟩:=aJ h
 have p3:=fun{sc F} (r:PS sc F)=>se (cJ e)<|sv (bv e)<|si (.cg ⟨[0],[.agg (ae e),.bptr 0 0],[],[.cells [.int .i64 k0] []],[.cells [.int .i64 k0] []],[.cells [.int .i64 r1.2] []],[.cells [.int .i64 r1.2] []],.bool r1.1,.bool r1.1,[]⟩) (Eb br1)<|sf (aI (xR [0] (.agg (ae e)) (ay e)) (aI (xB [0] 0 0 0 rfl) trivial))<|sf (aI (aI (rB (.cells [.int .i64 k0] [])) (aI (rW []) (aI (xR [0] (.int .i64 k0) trivial) trivial))) trivial)<|sf (aI (aI (rW []) (aI (xR [0] (.int .i64 r1.2) trivial) trivial)) trivial)<|sf (xR [0] (.bool r1.1) trivial)<|r
 rcases aP h with⟨c2,h⟩|⟨c2,h⟩
 ·obtain rfl:=lf h
  have z:=p3<|sg 0 c2<|en (aI (rP (.bool false))<|aI trivial<|aI (rL [.cells [.int .i64 r1.2] []])<|(aI (aI trivial trivial) trivial))
  exact C.evGp (A:=xz) mixed (m:=1) (c:=BG) rfl call64 func64 rfl z<|by kernel_rfl
 ·obtain⟨o9,bo9,h⟩:=aJ h
  rcases o9 with o9|o9
  ·obtain rfl:=lf h
   have z:=p3<|sg 0 c2<|sv (aX e)<|sv (aY e)<|cq (g6.ln e.Kids)<|dS (e:=.ret) (s1:=db e (.inl o9)) (jw R58 e e.Kids (e.Kids.length:Int) 0 r1.2 hR58 bo9)<|en (aI (rP (.bool false))<|aI trivial<|aI (rL [.cells [.int .i64 o9] []])<|(aI (aI trivial trivial) trivial))
   exact C.evGp (A:=xz) mixed (m:=1) (c:=BG) rfl call64 func64 rfl z<|by kernel_rfl
  ·obtain⟨o15,bo15,h⟩:=aJ h
   rcases o15 with o15|o15
   ·obtain rfl:=lf h
    have z:=p3<|sg 0 c2<|sv (aX e)<|sv (aY e)<|cq (g6.ln e.Kids)<|dS (e:=.exit 0) (s1:=db e (.inr o9)) (jw R58 e e.Kids (e.Kids.length:Int) 0 r1.2 hR58 bo9)<|sv (aE e)<|sv (aF e)<|cq (eQ.ln e.Alts)<|dS (e:=.ret) (s1:=dZ (.inl o15)) (ny R58 e.Alts (e.Alts.length:Int) 0 o9 hR58 bo15)<|en (aI (rP (.bool false))<|aI trivial<|aI (rL [.cells [.int .i64 o15] []])<|(aI (aI trivial trivial) trivial))
    exact C.evGp (A:=xz) mixed (m:=1) (c:=BG) rfl call64 func64 rfl z<|by kernel_rfl
   ·obtain rfl:=lf h
    have z:=p3<|sg 0 c2<|sv (aX e)<|sv (aY e)<|cq (g6.ln e.Kids)<|dS (e:=.exit 0) (s1:=db e (.inr o9)) (jw R58 e e.Kids (e.Kids.length:Int) 0 r1.2 hR58 bo9)<|sv (aE e)<|sv (aF e)<|cq (eQ.ln e.Alts)<|dS (e:=.exit 2) (s1:=dZ (.inr o15)) (ny R58 e.Alts (e.Alts.length:Int) 0 o9 hR58 bo15)<|en (aI (rP (.bool true))<|aI trivial<|aI (rL [.cells [.int .i64 o15] []])<|(aI (aI trivial trivial) trivial))
    exact C.evGp (A:=xz) mixed (m:=1) (c:=BG) rfl call64 func64 rfl z<|by kernel_rfl
def qJ:((af×Int)->Option (Bool×Int))->(af×Int)->Option (Bool×Int):=fun(rec:(af×Int)->Option (Bool×Int)) (x:af×Int)=>qI (fun e k0=>rec (e,k0)) x.1 x.2
def tg(e:af)(k0:Int):Option (Bool×Int):=sd qJ (e,k0)
theorem yp{e:af}{k0:Int}{r:Bool×Int}(h:tg e k0=some r):C Pg GE 64 [.agg (ae e),.func (.func 65) [] [.bptr 0 0]] [] [.cells [.int .i64 k0] []] (.bool r.1) [] [.cells [.int .i64 r.2] []]:=
 eM (F:=qJ) (M:=fun(x:af×Int) (r:Bool×Int)=>C Pg GE 64 [.agg (ae x.1),.func (.func 65) [] [.bptr 0 0]] [] [.cells [.int .i64 x.2] []] (.bool r.1) [] [.cells [.int .i64 r.2] []]) (fun rec hrec x r h=>xu _ (fun e k0 r h=>hrec (e,k0) r h) h) h
noncomputable def Xj:Code:=f17.body.getD .skip
def W1:List Nat:=[]
def yo(e:af):Option Int:=
 (kX e).bind fun r1=>
 if(decide (r1>400))=true then
  some 7
 else
  (nl e).bind fun r4=>
  if(decide (r4>40))=true then
   some 8
  else
   (tg e 0).bind fun r7=>
   some r7.2
theorem yF{e:af}{r:Int}(h:yo e=some r):CC Pg GE 17 [.agg (ae e)] (.int .i64 r) []:=by
 obtain⟨r1,br1,h⟩:=aJ h
 have p3:=fun{sc F} (r:PS sc F)=>se (cJ e)<|sv (bv e)<|cW (oJ br1)<|r
 rcases aP h with⟨c2,h⟩|⟨c2,h⟩
 ·obtain rfl:=lf h
  have z:=p3<|sg 0 c2<|en (aI (rP (.int .i64 7))<|trivial)
  exact cR W1 call17 func17 (c:=Xj) rfl (aI (ay e) trivial) z<|by kernel_rfl
 ·obtain⟨r4,br4,h⟩:=aJ h
  have p6:=fun{sc F} (r:PS sc F)=>p3<|sg 0 c2<|sv (bv e)<|cW (oI br4)<|r
  rcases aP h with⟨c5,h⟩|⟨c5,h⟩
  ·obtain rfl:=lf h
   have z:=p6<|sg 0 c5<|en (aI (rP (.int .i64 8))<|trivial)
   exact cR W1 call17 func17 (c:=Xj) rfl (aI (ay e) trivial) z<|by kernel_rfl
  ·obtain⟨r7,br7,h⟩:=aJ h
   obtain rfl:=lf h
   have z:=p6<|sg 0 c5<|sx XK<|ss<|sv (bv e)<|si (.cg ⟨[1],[.agg (ae e),.func (.func 65) [] [.bptr 0 0]],[],[.cells [.int .i64 0] []],[.cells [.int .i64 0] []],[.cells [.int .i64 r7.2] []],[.cells [.int .i64 r7.2] []],.bool r7.1,.bool r7.1,[]⟩) (yp br7)<|sf (aI (xR [1] (.agg (ae e)) (ay e)) (aI (xF [1] (.func 65) [] [.bptr 1 0] [] [.bptr 0 0] trivial (aI (xB [1] 0 1 0 rfl) trivial)) trivial))<|sf (aI (aI (rB (.cells [.int .i64 0] [])) (aI (rW []) (aI (xR [1] (.int .i64 0) trivial) trivial))) trivial)<|sf (aI (aI (rW []) (aI (xR [1] (.int .i64 r7.2) trivial) trivial)) trivial)<|sf (xR [1] (.bool r7.1) trivial)<|ss<|en (aI (rP (.int .i64 r7.2))<|trivial)
   exact cR W1 call17 func17 (c:=Xj) rfl (aI (ay e) trivial) z<|by kernel_rfl
noncomputable def UE:Code:=f11.body.getD .skip
def Ug:List Nat:=[]
def AC:Option Bool:=
 (gH ([120]:ag)).bind fun r1=>
 (gH ([120]:ag)).bind fun r2=>
 (gH ([121]:ag)).bind fun r3=>
 (AD ([120]:ag) r1 (⟨5,([102]:ag),0,([r2,r3]:List af),([]:List av),([]:List aH),([]:List aj)⟩:af)).bind fun r4=>
 (gH ([120]:ag)).bind fun r5=>
 (gH ([120]:ag)).bind fun r6=>
 (AD ([120]:ag) r5 r6).bind fun r7=>
 (AD ([120]:ag) (⟨1,([]:ag),1,([]:List af),([]:List av),([]:List aH),([]:List aj)⟩:af) r7).bind fun r8=>
 (gL r8).bind fun r9=>
 (zw ([120]:ag) ([121]:ag)).bind fun r10=>
 (zw ([120,49]:ag) ([120]:ag)).bind fun r11=>
 (mT (⟨r4.Op,r4.Name,r4.N,r4.Kids,r4.Params,r4.Alts,r4.Types⟩:af)).bind fun r12=>
 (iH r12 ([([102]:ag),([120]:ag),([121]:ag)]:List ag)).bind fun r13=>
 if r13=true then
  (gH ([120]:ag)).bind fun r16=>
  (gH ([120,49]:ag)).bind fun r17=>
  (AD ([120,49]:ag) r16 r17).bind fun r18=>
  (AD ([120]:ag) (⟨1,([]:ag),1,([]:List af),([]:List av),([]:List aH),([]:List aj)⟩:af) r18).bind fun r19=>
  (zg r9 r19).bind fun r20=>
  if r20=true then
   (Ed (⟨6,([]:ag),0,([r10]:List af),([(⟨([120]:ag),(⟨0,([]:ag),([]:List aj),([]:List ag),(⟨0,([]:ag),0,([]:List ax)⟩:ax),([]:List ax)⟩:aj)⟩:av)]:List av),([]:List aH),([]:List aj)⟩:af) ([121]:ag) ([120]:ag)).bind fun r23=>
   (zg r23 (⟨6,([]:ag),0,([r11]:List af),([(⟨([120,49]:ag),(⟨0,([]:ag),([]:List aj),([]:List ag),(⟨0,([]:ag),0,([]:List ax)⟩:ax),([]:List ax)⟩:aj)⟩:av)]:List av),([]:List aH),([]:List aj)⟩:af)).bind fun r24=>
   if r24=true then
    (yo r4).bind fun r27=>
    if (r27 == 0) = true then
     (yo (⟨3,([105,102]:ag),0,([]:List af),([]:List av),([]:List aH),([]:List aj)⟩:af)).bind fun r30=>
     if(r30==3)=true then
      (kX r4).bind fun r33=>
      if(r33==5)=true then
       (nl r4).bind fun r36=>
       some (r36==3)
      else
       some false
     else
      some false
    else
     some false
   else
    some false
  else
   some false
 else
  some false
theorem Dc{r:Bool}(h:AC=some r):CC Pg GE 11 [] (.bool r) []:=by
 obtain⟨r1,br1,h⟩:=aJ h
 obtain⟨r2,br2,h⟩:=aJ h
 obtain⟨r3,br3,h⟩:=aJ h
 obtain⟨r4,br4,h⟩:=aJ h
 obtain⟨r5,br5,h⟩:=aJ h
 obtain⟨r6,br6,h⟩:=aJ h
 obtain⟨r7,br7,h⟩:=aJ h
 obtain⟨r8,br8,h⟩:=aJ h
 obtain⟨r9,br9,h⟩:=aJ h
 obtain⟨r10,br10,h⟩:=aJ h
 obtain⟨r11,br11,h⟩:=aJ h
 obtain⟨r12,br12,h⟩:=aJ h
 obtain⟨r13,br13,h⟩:=aJ h
 have p15:=fun{sc F} (r:PS sc F)=>cW (fb br1)<|cW (fb br2)<|cW (fb br3)<|sv (g6.mk' (v:=rR) nk ([r2,r3]:List af) 2 (by kernel_rfl))<|sb (zF 5 ([102]:ag) ([r2,r3]:List af)) (zD 5 ([102]:ag) ([r2,r3]:List af))<|cW (ul br4)<|sx wG<|sy (bD r4)<|sb (KZ 1 1) (KW 1 1)<|sx wG<|sy (bD (⟨1,([]:ag),1,([]:List af),([]:List av),([]:List aH),([]:List aj)⟩:af))<|I1 [0,0,2,6,15,31,0,127]<|sv (bu (⟨1,([]:ag),1,([]:List af),([]:List av),([]:List aH),([]:List aj)⟩:af) [])<|cW (fb br5)<|cW (fb br6)<|cW (ul br7)<|cW (ul br8)<|cW (nn br9)<|YU (kv r9)<|sb (FL ([120]:ag)) (FK ([120]:ag))<|sv (lC.mk' (v:=Az) yc ([(⟨([120]:ag),(⟨0,([]:ag),([]:List aj),([]:List ag),(⟨0,([]:ag),0,([]:List ax)⟩:ax),([]:List ax)⟩:aj)⟩:av)]:List av) 1 (by kernel_rfl))<|cW (zx br10)<|sv (g6.mk' (v:=rR) nk ([r10]:List af) 1 (by kernel_rfl))<|sb (zG 6 ([(⟨([120]:ag),(⟨0,([]:ag),([]:List aj),([]:List ag),(⟨0,([]:ag),0,([]:List ax)⟩:ax),([]:List ax)⟩:aj)⟩:av)]:List av) ([r10]:List af)) (zE 6 ([(⟨([120]:ag),(⟨0,([]:ag),([]:List aj),([]:List ag),(⟨0,([]:ag),0,([]:List ax)⟩:ax),([]:List ax)⟩:aj)⟩:av)]:List av) ([r10]:List af))<|sx wG<|sy (bD (⟨6,([]:ag),0,([r10]:List af),([(⟨([120]:ag),(⟨0,([]:ag),([]:List aj),([]:List ag),(⟨0,([]:ag),0,([]:List ax)⟩:ax),([]:List ax)⟩:aj)⟩:av)]:List av),([]:List aH),([]:List aj)⟩:af))<|sb (FL ([120,49]:ag)) (FK ([120,49]:ag))<|sv (lC.mk' (v:=Az) yc ([(⟨([120,49]:ag),(⟨0,([]:ag),([]:List aj),([]:List ag),(⟨0,([]:ag),0,([]:List ax)⟩:ax),([]:List ax)⟩:aj)⟩:av)]:List av) 1 (by kernel_rfl))<|cW (zx br11)<|sv (g6.mk' (v:=rR) nk ([r11]:List af) 1 (by kernel_rfl))<|sb (zG 6 ([(⟨([120,49]:ag),(⟨0,([]:ag),([]:List aj),([]:List ag),(⟨0,([]:ag),0,([]:List ax)⟩:ax),([]:List ax)⟩:aj)⟩:av)]:List av) ([r11]:List af)) (zE 6 ([(⟨([120,49]:ag),(⟨0,([]:ag),([]:List aj),([]:List ag),(⟨0,([]:ag),0,([]:List ax)⟩:ax),([]:List ax)⟩:aj)⟩:av)]:List av) ([r11]:List af))<|sx wG<|sy (bD (⟨6,([]:ag),0,([r11]:List af),([(⟨([120,49]:ag),(⟨0,([]:ag),([]:List aj),([]:List ag),(⟨0,([]:ag),0,([]:List ax)⟩:ax),([]:List ax)⟩:aj)⟩:av)]:List av),([]:List aH),([]:List aj)⟩:af))<|I1 [0,1,0,7,15,31,31,31,159,415,991,2047,4095,8191,16383,32767,16383,131071,262143,524287,1048575,2097151,4194303,8388607,16777215,33554431,67108863,134217727,268435455,536870911,1073741823,2147483647,4294967295,8589934591,17179869183,34359738367,68719476735,137438953471,274877906943,549755813887]<|sv (bu (⟨r4.Op,r4.Name,r4.N,r4.Kids,r4.Params,r4.Alts,r4.Types⟩:af) [])<|cW (mU br12)<|sv (dK.mk' (v:=PVal.str) Lz ([([102]:ag),([120]:ag),([121]:ag)]:List ag) 3 (by kernel_rfl))<|cW (kf br13)<|r
 rcases aP h with⟨c14,h⟩|⟨c14,h⟩
 ·obtain⟨r16,br16,h⟩:=aJ h
  obtain⟨r17,br17,h⟩:=aJ h
  obtain⟨r18,br18,h⟩:=aJ h
  obtain⟨r19,br19,h⟩:=aJ h
  obtain⟨r20,br20,h⟩:=aJ h
  have p22:=fun{sc F} (r:PS sc F)=>p15<|sg 5 c14<|sv (bu r9 [])<|sv (bu (⟨1,([]:ag),1,([]:List af),([]:List av),([]:List aH),([]:List aj)⟩:af) [])<|cW (fb br16)<|cW (fb br17)<|cW (ul br18)<|cW (ul br19)<|cW (zp br20)<|r
  rcases aP h with⟨c21,h⟩|⟨c21,h⟩
  ·obtain⟨r23,br23,h⟩:=aJ h
   obtain⟨r24,br24,h⟩:=aJ h
   have p26:=fun{sc F} (r:PS sc F)=>p22<|sg 14 c21<|sv (bu (⟨6,([]:ag),0,([r10]:List af),([(⟨([120]:ag),(⟨0,([]:ag),([]:List aj),([]:List ag),(⟨0,([]:ag),0,([]:List ax)⟩:ax),([]:List ax)⟩:aj)⟩:av)]:List av),([]:List aH),([]:List aj)⟩:af) [])<|cW (GX br23)<|sv (bu (⟨6,([]:ag),0,([r11]:List af),([(⟨([120,49]:ag),(⟨0,([]:ag),([]:List aj),([]:List ag),(⟨0,([]:ag),0,([]:List ax)⟩:ax),([]:List ax)⟩:aj)⟩:av)]:List av),([]:List aH),([]:List aj)⟩:af) [])<|cW (zp br24)<|r
   rcases aP h with⟨c25,h⟩|⟨c25,h⟩
   ·obtain⟨r27,br27,h⟩:=aJ h
    have p29:=fun{sc F} (r:PS sc F)=>p26<|sg 20 c25<|sv (bu r4 [])<|cW (yF br27)<|r
    rcases aP h with⟨c28,h⟩|⟨c28,h⟩
    ·obtain⟨r30,br30,h⟩:=aJ h
     have p32:=fun{sc F} (r:PS sc F)=>p29<|sg 25 c28<|sb (Dp 3 ([105,102]:ag)) (Dk 3 ([105,102]:ag))<|cW (yF br30)<|r
     rcases aP h with⟨c31,h⟩|⟨c31,h⟩
     ·obtain⟨r33,br33,h⟩:=aJ h
      have p35:=fun{sc F} (r:PS sc F)=>p32<|sg 30 c31<|sv (bu r4 [])<|cW (oJ br33)<|r
      rcases aP h with⟨c34,h⟩|⟨c34,h⟩
      ·obtain⟨r36,br36,h⟩:=aJ h
       obtain rfl:=lf h
       have z:=p35<|sg 35 c34<|sv (bu r4 [])<|cW (oI br36)<|en (aI (rP (.bool (r36==3)))<|trivial)
       exact cR Ug call11 func11 (c:=UE) rfl trivial z<|by kernel_rfl
      ·obtain rfl:=lf h
       have z:=p35<|sg 35 c34<|en (aI (rP (.bool false))<|trivial)
       exact cR Ug call11 func11 (c:=UE) rfl trivial z<|by kernel_rfl
     ·obtain rfl:=lf h
      have z:=p32<|sg 30 c31<|en (aI (rP (.bool false))<|trivial)
      exact cR Ug call11 func11 (c:=UE) rfl trivial z<|by kernel_rfl
    ·obtain rfl:=lf h
     have z:=p29<|sg 25 c28<|en (aI (rP (.bool false))<|trivial)
     exact cR Ug call11 func11 (c:=UE) rfl trivial z<|by kernel_rfl
   ·obtain rfl:=lf h
    have z:=p26<|sg 20 c25<|en (aI (rP (.bool false))<|trivial)
    exact cR Ug call11 func11 (c:=UE) rfl trivial z<|by kernel_rfl
  ·obtain rfl:=lf h
   have z:=p22<|sg 14 c21<|en (aI (rP (.bool false))<|trivial)
   exact cR Ug call11 func11 (c:=UE) rfl trivial z<|by kernel_rfl
 ·obtain rfl:=lf h
  have z:=p15<|sg 5 c14<|en (aI (rP (.bool false))<|trivial)
  exact cR Ug call11 func11 (c:=UE) rfl trivial z<|by kernel_rfl
section
variable(v:waA)(s:ag)(t7:Int)(t8:Int)
def ry:Option (Int⊕(Int⊕(Unit))):=
 if(decide (t8<t7))=true then
  (gY v t8).bind fun x2=>
  if(x2==s)=true then
   some (.inr (.inl t8))
  else
   some (.inl (cp (t8+1)))
 else
  some (.inr (.inr ()))
def FE:Option (Int⊕(Unit)):=loop (fun(zz:Int)=>ry v s t7 zz) t8
end
def Hm(a:waA)(s:ag):Option Int:=
 (FE a s (a.length:Int) 0).bind fun o5=>match o5 with
 |(.inl o5)=>
  some o5
 |(.inr o5)=>
  some (-1)
section
variable(n:Int)(s:ag)(m:Int)(d:Int)
def y8:Option Int:=
 if(decide (d<0))=true then
  some (IntKind.i64.wrap (0 - d))
 else
  some d
end
section
variable(n:Int)(s:ag)(m:Int)
def rx:Option ((ag×Int)⊕(ag)):=
 if(m !=0)=true then
  (re m 10).bind fun q3=>
  (y8 q3).bind fun o5=>
  (Dq ([IntKind.u8.wrap (cp (48+o5))]:List Int)).bind fun s6=>
  (UT s6 s).bind fun s7=>
  (qu .i64 m 10).bind fun q8=>
  some (.inl (s7,q8))
 else
  some (.inr s)
def rU:Option ag:=loop (fun(zz:ag×Int)=>rx zz.1 zz.2) (s,m)
end
def Hl(n:Int):Option ag:=
 if(n==0)=true then
  some ([48]:ag)
 else
  (rU ([]:ag) n).bind fun o9=>
  if(decide (n<0))=true then
   (UT ([45]:ag) o9).bind fun s12=>
   some s12
  else
   some o9
section
variable(used:waA)(base:ag)(s:ag)(n:Int)
def dm:Option ((ag×Int)⊕(ag)):=
 (Hm used s).bind fun r1=>
 if(decide (r1>=0))=true then
  (Hl n).bind fun r3=>
  (UT base r3).bind fun s4=>
  some (.inl (s4,cp (n+1)))
 else
  some (.inr s)
def na:Option ag:=loop (fun(zz:ag×Int)=>dm used base zz.1 zz.2) (s,n)
end
def JJ(used:waA)(base:ag):Option ag:=
 (na used base base 1).bind fun o5=>
 some o5
end Go.Proofs.YtkdahfeiedaahaaGreatDoor
