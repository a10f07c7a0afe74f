/- PROVED: a part of the proof. Conditions: none. -/
import Derived.Test.YtkdahfeiedaahaaGreatDoorPkR14
import Derived.Test.YtkdahfeiedaahaaGreatDoorPkR10
import Derived.Test.YtkdahfeiedaahaaGreatDoorPkR8
set_option linter.unusedSimpArgs false
set_option linter.unusedVariables false
noncomputable section
namespace Go.Proofs.YtkdahfeiedaahaaGreatDoor
open Go Go.Proofs.Tryz
set_option linter.unusedVariables false
set_option linter.defProp false
set_option maxRecDepth 100000
noncomputable def X7:Code:=f66.body.getD .skip
theorem ZK:ZF Pg [122,134,154] 66 f66 X7:=zf call66 func66 rfl mixed
section
variable(e:ag)(ok:Bool)(m:Bool)(m2:Bool)(m3:Int)(m4:Int)(m5:Bool)(m6:Bool)(m7:Int)(m8:Int)(m9:Bool)
def A6:Option Bool:=
 if (!m) = true then
  if(e.N !=0)=true then
   some true
  else if(!m2)=true then
   if(!(e.Name==([]:ai)))=true then
    some true
   else if(m4==0)=true then
    if decide ((e.Kids.length:Int)>0)=true then
     some true
    else if(!m5)=true then
     if decide ((e.Params.length:Int)>0)=true then
      some true
     else if(!m6)=true then
      if decide ((e.Alts.length:Int)>0)=true then
       some true
      else if(!m9)=true then
       some (decide ((e.Types.length:Int)>0))
      else
       some false
     else if(!m9)=true then
      some (decide ((e.Types.length:Int)>0))
     else
      some false
    else if(!m6)=true then
     if decide ((e.Alts.length:Int)>0)=true then
      some true
     else if(!m9)=true then
      some (decide ((e.Types.length:Int)>0))
     else
      some false
    else if(!m9)=true then
     some (decide ((e.Types.length:Int)>0))
    else
     some false
   else if(!m5)=true then
    if decide ((e.Params.length:Int)>0)=true then
     some true
    else if(!m6)=true then
     if decide ((e.Alts.length:Int)>0)=true then
      some true
     else if(!m9)=true then
      some (decide ((e.Types.length:Int)>0))
     else
      some false
    else if(!m9)=true then
     some (decide ((e.Types.length:Int)>0))
    else
     some false
   else if(!m6)=true then
    if decide ((e.Alts.length:Int)>0)=true then
     some true
    else if(!m9)=true then
     some (decide ((e.Types.length:Int)>0))
    else
     some false
   else if(!m9)=true then
    some (decide ((e.Types.length:Int)>0))
   else
    some false
  else if(m4==0)=true then
   if decide ((e.Kids.length:Int)>0)=true then
    some true
   else if(!m5)=true then
    if decide ((e.Params.length:Int)>0)=true then
     some true
    else if(!m6)=true then
     if decide ((e.Alts.length:Int)>0)=true then
      some true
     else if(!m9)=true then
      some (decide ((e.Types.length:Int)>0))
     else
      some false
    else if(!m9)=true then
     some (decide ((e.Types.length:Int)>0))
    else
     some false
   else if(!m6)=true then
    if decide ((e.Alts.length:Int)>0)=true then
     some true
    else if(!m9)=true then
     some (decide ((e.Types.length:Int)>0))
    else
     some false
   else if(!m9)=true then
    some (decide ((e.Types.length:Int)>0))
   else
    some false
  else if(!m5)=true then
   if decide ((e.Params.length:Int)>0)=true then
    some true
   else if(!m6)=true then
    if decide ((e.Alts.length:Int)>0)=true then
     some true
    else if(!m9)=true then
     some (decide ((e.Types.length:Int)>0))
    else
     some false
   else if(!m9)=true then
    some (decide ((e.Types.length:Int)>0))
   else
    some false
  else if(!m6)=true then
   if decide ((e.Alts.length:Int)>0)=true then
    some true
   else if(!m9)=true then
    some (decide ((e.Types.length:Int)>0))
   else
    some false
  else if(!m9)=true then
   some (decide ((e.Types.length:Int)>0))
  else
   some false
 else if(!m2)=true then
  if(!(e.Name==([]:ai)))=true then
   some true
  else if(m4==0)=true then
   if decide ((e.Kids.length:Int)>0)=true then
    some true
   else if(!m5)=true then
    if decide ((e.Params.length:Int)>0)=true then
     some true
    else if(!m6)=true then
     if decide ((e.Alts.length:Int)>0)=true then
      some true
     else if(!m9)=true then
      some (decide ((e.Types.length:Int)>0))
     else
      some false
    else if(!m9)=true then
     some (decide ((e.Types.length:Int)>0))
    else
     some false
   else if(!m6)=true then
    if decide ((e.Alts.length:Int)>0)=true then
     some true
    else if(!m9)=true then
     some (decide ((e.Types.length:Int)>0))
    else
     some false
   else if(!m9)=true then
    some (decide ((e.Types.length:Int)>0))
   else
    some false
  else if(!m5)=true then
   if decide ((e.Params.length:Int)>0)=true then
    some true
   else if(!m6)=true then
    if decide ((e.Alts.length:Int)>0)=true then
     some true
    else if(!m9)=true then
     some (decide ((e.Types.length:Int)>0))
    else
     some false
   else if(!m9)=true then
    some (decide ((e.Types.length:Int)>0))
   else
    some false
  else if(!m6)=true then
   if decide ((e.Alts.length:Int)>0)=true then
    some true
   else if(!m9)=true then
    some (decide ((e.Types.length:Int)>0))
   else
    some false
  else if(!m9)=true then
   some (decide ((e.Types.length:Int)>0))
  else
   some false
 else if(m4==0)=true then
  if decide ((e.Kids.length:Int)>0)=true then
   some true
  else if(!m5)=true then
   if decide ((e.Params.length:Int)>0)=true then
    some true
   else if(!m6)=true then
    if decide ((e.Alts.length:Int)>0)=true then
     some true
    else if(!m9)=true then
     some (decide ((e.Types.length:Int)>0))
    else
     some false
   else if(!m9)=true then
    some (decide ((e.Types.length:Int)>0))
   else
    some false
  else if(!m6)=true then
   if decide ((e.Alts.length:Int)>0)=true then
    some true
   else if(!m9)=true then
    some (decide ((e.Types.length:Int)>0))
   else
    some false
  else if(!m9)=true then
   some (decide ((e.Types.length:Int)>0))
  else
   some false
 else if(!m5)=true then
  if decide ((e.Params.length:Int)>0)=true then
   some true
  else if(!m6)=true then
   if decide ((e.Alts.length:Int)>0)=true then
    some true
   else if(!m9)=true then
    some (decide ((e.Types.length:Int)>0))
   else
    some false
  else if(!m9)=true then
   some (decide ((e.Types.length:Int)>0))
  else
   some false
 else if(!m6)=true then
  if decide ((e.Alts.length:Int)>0)=true then
   some true
  else if(!m9)=true then
   some (decide ((e.Types.length:Int)>0))
  else
   some false
 else if(!m9)=true then
  some (decide ((e.Types.length:Int)>0))
 else
  some false
theorem Gb:OU 0 (cA X7 14) (A6 e m m2 m4 m5 m6 m9) .normal (λo=>[(5,.bool o)]) (aO 156 [(1,.eptr (ae e)),(3,.bptr 1 0),(4,.bool ok)] [.dead,.cells [.bool m,.bool m2,.int .i64 m3,.int .i64 m4,.bool m5,.bool m6,.int .i64 m7,.int .i64 m8,.bool m9] []] []):=ZK.j<|
 tf (λc2=>have pp4:=λ{X Y Z} (r:PV _ X Y Z)=>ts<|tg 4 c2<|tw (ea e)<|r;tf (λc3=>pp4<|tg 9 c3<|tE) λc3=>have pp6:=λ{X Y Z} (r:PV _ X Y Z)=>pp4<|tg 9 c3<|ts<|r;tf (λc5=>have pp8:=λ{X Y Z} (r:PV _ X Y Z)=>pp6<|tg 13 c5<|tw (bV e)<|r;tf (λc7=>pp8<|tg 19 c7<|tE) λc7=>have pp10:=λ{X Y Z} (r:PV _ X Y Z)=>pp8<|tg 19 c7<|ts<|r;tf (λc9=>have pp12:=λ{X Y Z} (r:PV _ X Y Z)=>pp10<|tg 23 c9<|tw (aR e)<|ct (cR.ln e.Kids)<|r;tf (λc11=>pp12<|tg 30 c11<|tE) λc11=>have pp14:=λ{X Y Z} (r:PV _ X Y Z)=>pp12<|tg 30 c11<|ts<|r;tf (λc13=>have pp16:=λ{X Y Z} (r:PV _ X Y Z)=>pp14<|tg 34 c13<|tw (aM e)<|ct (er.ln e.Params)<|r;tf (λc15=>pp16<|tg 41 c15<|tE) λc15=>have pp18:=λ{X Y Z} (r:PV _ X Y Z)=>pp16<|tg 41 c15<|ts<|r;tf (λc17=>have pp20:=λ{X Y Z} (r:PV _ X Y Z)=>pp18<|tg 45 c17<|tw (ay e)<|ct (dc.ln e.Alts)<|r;tf (λc19=>pp20<|tg 52 c19<|tE) λc19=>have pp22:=λ{X Y Z} (r:PV _ X Y Z)=>pp20<|tg 52 c19<|ts<|r;tf (λc21=>pp22<|tg 56 c21<|tw (aC e)<|ct (dZ.ln e.Types)<|tE) λc21=>pp22<|tg 56 c21<|tE) λc17=>have pp24:=λ{X Y Z} (r:PV _ X Y Z)=>pp18<|tg 45 c17<|ts<|r;tf (λc23=>pp24<|tg 56 c23<|tw (aC e)<|ct (dZ.ln e.Types)<|tE) λc23=>pp24<|tg 56 c23<|tE) λc13=>have pp26:=λ{X Y Z} (r:PV _ X Y Z)=>pp14<|tg 34 c13<|ts<|r;tf (λc25=>have pp28:=λ{X Y Z} (r:PV _ X Y Z)=>pp26<|tg 45 c25<|tw (ay e)<|ct (dc.ln e.Alts)<|r;tf (λc27=>pp28<|tg 52 c27<|tE) λc27=>have pp30:=λ{X Y Z} (r:PV _ X Y Z)=>pp28<|tg 52 c27<|ts<|r;tf (λc29=>pp30<|tg 56 c29<|tw (aC e)<|ct (dZ.ln e.Types)<|tE) λc29=>pp30<|tg 56 c29<|tE) λc25=>have pp32:=λ{X Y Z} (r:PV _ X Y Z)=>pp26<|tg 45 c25<|ts<|r;tf (λc31=>pp32<|tg 56 c31<|tw (aC e)<|ct (dZ.ln e.Types)<|tE) λc31=>pp32<|tg 56 c31<|tE) λc9=>have pp34:=λ{X Y Z} (r:PV _ X Y Z)=>pp10<|tg 23 c9<|ts<|r;tf (λc33=>have pp36:=λ{X Y Z} (r:PV _ X Y Z)=>pp34<|tg 34 c33<|tw (aM e)<|ct (er.ln e.Params)<|r;tf (λc35=>pp36<|tg 41 c35<|tE) λc35=>have pp38:=λ{X Y Z} (r:PV _ X Y Z)=>pp36<|tg 41 c35<|ts<|r;tf (λc37=>have pp40:=λ{X Y Z} (r:PV _ X Y Z)=>pp38<|tg 45 c37<|tw (ay e)<|ct (dc.ln e.Alts)<|r;tf (λc39=>pp40<|tg 52 c39<|tE) λc39=>have pp42:=λ{X Y Z} (r:PV _ X Y Z)=>pp40<|tg 52 c39<|ts<|r;tf (λc41=>pp42<|tg 56 c41<|tw (aC e)<|ct (dZ.ln e.Types)<|tE) λc41=>pp42<|tg 56 c41<|tE) λc37=>have pp44:=λ{X Y Z} (r:PV _ X Y Z)=>pp38<|tg 45 c37<|ts<|r;tf (λc43=>pp44<|tg 56 c43<|tw (aC e)<|ct (dZ.ln e.Types)<|tE) λc43=>pp44<|tg 56 c43<|tE) λc33=>have pp46:=λ{X Y Z} (r:PV _ X Y Z)=>pp34<|tg 34 c33<|ts<|r;tf (λc45=>have pp48:=λ{X Y Z} (r:PV _ X Y Z)=>pp46<|tg 45 c45<|tw (ay e)<|ct (dc.ln e.Alts)<|r;tf (λc47=>pp48<|tg 52 c47<|tE) λc47=>have pp50:=λ{X Y Z} (r:PV _ X Y Z)=>pp48<|tg 52 c47<|ts<|r;tf (λc49=>pp50<|tg 56 c49<|tw (aC e)<|ct (dZ.ln e.Types)<|tE) λc49=>pp50<|tg 56 c49<|tE) λc45=>have pp52:=λ{X Y Z} (r:PV _ X Y Z)=>pp46<|tg 45 c45<|ts<|r;tf (λc51=>pp52<|tg 56 c51<|tw (aC e)<|ct (dZ.ln e.Types)<|tE) λc51=>pp52<|tg 56 c51<|tE) λc5=>have pp54:=λ{X Y Z} (r:PV _ X Y Z)=>pp6<|tg 13 c5<|ts<|r;tf (λc53=>have pp56:=λ{X Y Z} (r:PV _ X Y Z)=>pp54<|tg 23 c53<|tw (aR e)<|ct (cR.ln e.Kids)<|r;tf (λc55=>pp56<|tg 30 c55<|tE) λc55=>have pp58:=λ{X Y Z} (r:PV _ X Y Z)=>pp56<|tg 30 c55<|ts<|r;tf (λc57=>have pp60:=λ{X Y Z} (r:PV _ X Y Z)=>pp58<|tg 34 c57<|tw (aM e)<|ct (er.ln e.Params)<|r;tf (λc59=>pp60<|tg 41 c59<|tE) λc59=>have pp62:=λ{X Y Z} (r:PV _ X Y Z)=>pp60<|tg 41 c59<|ts<|r;tf (λc61=>have pp64:=λ{X Y Z} (r:PV _ X Y Z)=>pp62<|tg 45 c61<|tw (ay e)<|ct (dc.ln e.Alts)<|r;tf (λc63=>pp64<|tg 52 c63<|tE) λc63=>have pp66:=λ{X Y Z} (r:PV _ X Y Z)=>pp64<|tg 52 c63<|ts<|r;tf (λc65=>pp66<|tg 56 c65<|tw (aC e)<|ct (dZ.ln e.Types)<|tE) λc65=>pp66<|tg 56 c65<|tE) λc61=>have pp68:=λ{X Y Z} (r:PV _ X Y Z)=>pp62<|tg 45 c61<|ts<|r;tf (λc67=>pp68<|tg 56 c67<|tw (aC e)<|ct (dZ.ln e.Types)<|tE) λc67=>pp68<|tg 56 c67<|tE) λc57=>have pp70:=λ{X Y Z} (r:PV _ X Y Z)=>pp58<|tg 34 c57<|ts<|r;tf (λc69=>have pp72:=λ{X Y Z} (r:PV _ X Y Z)=>pp70<|tg 45 c69<|tw (ay e)<|ct (dc.ln e.Alts)<|r;tf (λc71=>pp72<|tg 52 c71<|tE) λc71=>have pp74:=λ{X Y Z} (r:PV _ X Y Z)=>pp72<|tg 52 c71<|ts<|r;tf (λc73=>pp74<|tg 56 c73<|tw (aC e)<|ct (dZ.ln e.Types)<|tE) λc73=>pp74<|tg 56 c73<|tE) λc69=>have pp76:=λ{X Y Z} (r:PV _ X Y Z)=>pp70<|tg 45 c69<|ts<|r;tf (λc75=>pp76<|tg 56 c75<|tw (aC e)<|ct (dZ.ln e.Types)<|tE) λc75=>pp76<|tg 56 c75<|tE) λc53=>have pp78:=λ{X Y Z} (r:PV _ X Y Z)=>pp54<|tg 23 c53<|ts<|r;tf (λc77=>have pp80:=λ{X Y Z} (r:PV _ X Y Z)=>pp78<|tg 34 c77<|tw (aM e)<|ct (er.ln e.Params)<|r;tf (λc79=>pp80<|tg 41 c79<|tE) λc79=>have pp82:=λ{X Y Z} (r:PV _ X Y Z)=>pp80<|tg 41 c79<|ts<|r;tf (λc81=>have pp84:=λ{X Y Z} (r:PV _ X Y Z)=>pp82<|tg 45 c81<|tw (ay e)<|ct (dc.ln e.Alts)<|r;tf (λc83=>pp84<|tg 52 c83<|tE) λc83=>have pp86:=λ{X Y Z} (r:PV _ X Y Z)=>pp84<|tg 52 c83<|ts<|r;tf (λc85=>pp86<|tg 56 c85<|tw (aC e)<|ct (dZ.ln e.Types)<|tE) λc85=>pp86<|tg 56 c85<|tE) λc81=>have pp88:=λ{X Y Z} (r:PV _ X Y Z)=>pp82<|tg 45 c81<|ts<|r;tf (λc87=>pp88<|tg 56 c87<|tw (aC e)<|ct (dZ.ln e.Types)<|tE) λc87=>pp88<|tg 56 c87<|tE) λc77=>have pp90:=λ{X Y Z} (r:PV _ X Y Z)=>pp78<|tg 34 c77<|ts<|r;tf (λc89=>have pp92:=λ{X Y Z} (r:PV _ X Y Z)=>pp90<|tg 45 c89<|tw (ay e)<|ct (dc.ln e.Alts)<|r;tf (λc91=>pp92<|tg 52 c91<|tE) λc91=>have pp94:=λ{X Y Z} (r:PV _ X Y Z)=>pp92<|tg 52 c91<|ts<|r;tf (λc93=>pp94<|tg 56 c93<|tw (aC e)<|ct (dZ.ln e.Types)<|tE) λc93=>pp94<|tg 56 c93<|tE) λc89=>have pp96:=λ{X Y Z} (r:PV _ X Y Z)=>pp90<|tg 45 c89<|ts<|r;tf (λc95=>pp96<|tg 56 c95<|tw (aC e)<|ct (dZ.ln e.Types)<|tE) λc95=>pp96<|tg 56 c95<|tE) λc2=>have pp98:=λ{X Y Z} (r:PV _ X Y Z)=>ts<|tg 4 c2<|ts<|r;tf (λc97=>have pp100:=λ{X Y Z} (r:PV _ X Y Z)=>pp98<|tg 13 c97<|tw (bV e)<|r;tf (λc99=>pp100<|tg 19 c99<|tE) λc99=>have pp102:=λ{X Y Z} (r:PV _ X Y Z)=>pp100<|tg 19 c99<|ts<|r;tf (λc101=>have pp104:=λ{X Y Z} (r:PV _ X Y Z)=>pp102<|tg 23 c101<|tw (aR e)<|ct (cR.ln e.Kids)<|r;tf (λc103=>pp104<|tg 30 c103<|tE) λc103=>have pp106:=λ{X Y Z} (r:PV _ X Y Z)=>pp104<|tg 30 c103<|ts<|r;tf (λc105=>have pp108:=λ{X Y Z} (r:PV _ X Y Z)=>pp106<|tg 34 c105<|tw (aM e)<|ct (er.ln e.Params)<|r;tf (λc107=>pp108<|tg 41 c107<|tE) λc107=>have pp110:=λ{X Y Z} (r:PV _ X Y Z)=>pp108<|tg 41 c107<|ts<|r;tf (λc109=>have pp112:=λ{X Y Z} (r:PV _ X Y Z)=>pp110<|tg 45 c109<|tw (ay e)<|ct (dc.ln e.Alts)<|r;tf (λc111=>pp112<|tg 52 c111<|tE) λc111=>have pp114:=λ{X Y Z} (r:PV _ X Y Z)=>pp112<|tg 52 c111<|ts<|r;tf (λc113=>pp114<|tg 56 c113<|tw (aC e)<|ct (dZ.ln e.Types)<|tE) λc113=>pp114<|tg 56 c113<|tE) λc109=>have pp116:=λ{X Y Z} (r:PV _ X Y Z)=>pp110<|tg 45 c109<|ts<|r;tf (λc115=>pp116<|tg 56 c115<|tw (aC e)<|ct (dZ.ln e.Types)<|tE) λc115=>pp116<|tg 56 c115<|tE) λc105=>have pp118:=λ{X Y Z} (r:PV _ X Y Z)=>pp106<|tg 34 c105<|ts<|r;tf (λc117=>have pp120:=λ{X Y Z} (r:PV _ X Y Z)=>pp118<|tg 45 c117<|tw (ay e)<|ct (dc.ln e.Alts)<|r;tf (λc119=>pp120<|tg 52 c119<|tE) λc119=>have pp122:=λ{X Y Z} (r:PV _ X Y Z)=>pp120<|tg 52 c119<|ts<|r;tf (λc121=>pp122<|tg 56 c121<|tw (aC e)<|ct (dZ.ln e.Types)<|tE) λc121=>pp122<|tg 56 c121<|tE) λc117=>have pp124:=λ{X Y Z} (r:PV _ X Y Z)=>pp118<|tg 45 c117<|ts<|r;tf (λc123=>pp124<|tg 56 c123<|tw (aC e)<|ct (dZ.ln e.Types)<|tE) λc123=>pp124<|tg 56 c123<|tE) λc101=>have pp126:=λ{X Y Z} (r:PV _ X Y Z)=>pp102<|tg 23 c101<|ts<|r;tf (λc125=>have pp128:=λ{X Y Z} (r:PV _ X Y Z)=>pp126<|tg 34 c125<|tw (aM e)<|ct (er.ln e.Params)<|r;tf (λc127=>pp128<|tg 41 c127<|tE) λc127=>have pp130:=λ{X Y Z} (r:PV _ X Y Z)=>pp128<|tg 41 c127<|ts<|r;tf (λc129=>have pp132:=λ{X Y Z} (r:PV _ X Y Z)=>pp130<|tg 45 c129<|tw (ay e)<|ct (dc.ln e.Alts)<|r;tf (λc131=>pp132<|tg 52 c131<|tE) λc131=>have pp134:=λ{X Y Z} (r:PV _ X Y Z)=>pp132<|tg 52 c131<|ts<|r;tf (λc133=>pp134<|tg 56 c133<|tw (aC e)<|ct (dZ.ln e.Types)<|tE) λc133=>pp134<|tg 56 c133<|tE) λc129=>have pp136:=λ{X Y Z} (r:PV _ X Y Z)=>pp130<|tg 45 c129<|ts<|r;tf (λc135=>pp136<|tg 56 c135<|tw (aC e)<|ct (dZ.ln e.Types)<|tE) λc135=>pp136<|tg 56 c135<|tE) λc125=>have pp138:=λ{X Y Z} (r:PV _ X Y Z)=>pp126<|tg 34 c125<|ts<|r;tf (λc137=>have pp140:=λ{X Y Z} (r:PV _ X Y Z)=>pp138<|tg 45 c137<|tw (ay e)<|ct (dc.ln e.Alts)<|r;tf (λc139=>pp140<|tg 52 c139<|tE) λc139=>have pp142:=λ{X Y Z} (r:PV _ X Y Z)=>pp140<|tg 52 c139<|ts<|r;tf (λc141=>pp142<|tg 56 c141<|tw (aC e)<|ct (dZ.ln e.Types)<|tE) λc141=>pp142<|tg 56 c141<|tE) λc137=>have pp144:=λ{X Y Z} (r:PV _ X Y Z)=>pp138<|tg 45 c137<|ts<|r;tf (λc143=>pp144<|tg 56 c143<|tw (aC e)<|ct (dZ.ln e.Types)<|tE) λc143=>pp144<|tg 56 c143<|tE) λc97=>have pp146:=λ{X Y Z} (r:PV _ X Y Z)=>pp98<|tg 13 c97<|ts<|r;tf (λc145=>have pp148:=λ{X Y Z} (r:PV _ X Y Z)=>pp146<|tg 23 c145<|tw (aR e)<|ct (cR.ln e.Kids)<|r;tf (λc147=>pp148<|tg 30 c147<|tE) λc147=>have pp150:=λ{X Y Z} (r:PV _ X Y Z)=>pp148<|tg 30 c147<|ts<|r;tf (λc149=>have pp152:=λ{X Y Z} (r:PV _ X Y Z)=>pp150<|tg 34 c149<|tw (aM e)<|ct (er.ln e.Params)<|r;tf (λc151=>pp152<|tg 41 c151<|tE) λc151=>have pp154:=λ{X Y Z} (r:PV _ X Y Z)=>pp152<|tg 41 c151<|ts<|r;tf (λc153=>have pp156:=λ{X Y Z} (r:PV _ X Y Z)=>pp154<|tg 45 c153<|tw (ay e)<|ct (dc.ln e.Alts)<|r;tf (λc155=>pp156<|tg 52 c155<|tE) λc155=>have pp158:=λ{X Y Z} (r:PV _ X Y Z)=>pp156<|tg 52 c155<|ts<|r;tf (λc157=>pp158<|tg 56 c157<|tw (aC e)<|ct (dZ.ln e.Types)<|tE) λc157=>pp158<|tg 56 c157<|tE) λc153=>have pp160:=λ{X Y Z} (r:PV _ X Y Z)=>pp154<|tg 45 c153<|ts<|r;tf (λc159=>pp160<|tg 56 c159<|tw (aC e)<|ct (dZ.ln e.Types)<|tE) λc159=>pp160<|tg 56 c159<|tE) λc149=>have pp162:=λ{X Y Z} (r:PV _ X Y Z)=>pp150<|tg 34 c149<|ts<|r;tf (λc161=>have pp164:=λ{X Y Z} (r:PV _ X Y Z)=>pp162<|tg 45 c161<|tw (ay e)<|ct (dc.ln e.Alts)<|r;tf (λc163=>pp164<|tg 52 c163<|tE) λc163=>have pp166:=λ{X Y Z} (r:PV _ X Y Z)=>pp164<|tg 52 c163<|ts<|r;tf (λc165=>pp166<|tg 56 c165<|tw (aC e)<|ct (dZ.ln e.Types)<|tE) λc165=>pp166<|tg 56 c165<|tE) λc161=>have pp168:=λ{X Y Z} (r:PV _ X Y Z)=>pp162<|tg 45 c161<|ts<|r;tf (λc167=>pp168<|tg 56 c167<|tw (aC e)<|ct (dZ.ln e.Types)<|tE) λc167=>pp168<|tg 56 c167<|tE) λc145=>have pp170:=λ{X Y Z} (r:PV _ X Y Z)=>pp146<|tg 23 c145<|ts<|r;tf (λc169=>have pp172:=λ{X Y Z} (r:PV _ X Y Z)=>pp170<|tg 34 c169<|tw (aM e)<|ct (er.ln e.Params)<|r;tf (λc171=>pp172<|tg 41 c171<|tE) λc171=>have pp174:=λ{X Y Z} (r:PV _ X Y Z)=>pp172<|tg 41 c171<|ts<|r;tf (λc173=>have pp176:=λ{X Y Z} (r:PV _ X Y Z)=>pp174<|tg 45 c173<|tw (ay e)<|ct (dc.ln e.Alts)<|r;tf (λc175=>pp176<|tg 52 c175<|tE) λc175=>have pp178:=λ{X Y Z} (r:PV _ X Y Z)=>pp176<|tg 52 c175<|ts<|r;tf (λc177=>pp178<|tg 56 c177<|tw (aC e)<|ct (dZ.ln e.Types)<|tE) λc177=>pp178<|tg 56 c177<|tE) λc173=>have pp180:=λ{X Y Z} (r:PV _ X Y Z)=>pp174<|tg 45 c173<|ts<|r;tf (λc179=>pp180<|tg 56 c179<|tw (aC e)<|ct (dZ.ln e.Types)<|tE) λc179=>pp180<|tg 56 c179<|tE) λc169=>have pp182:=λ{X Y Z} (r:PV _ X Y Z)=>pp170<|tg 34 c169<|ts<|r;tf (λc181=>have pp184:=λ{X Y Z} (r:PV _ X Y Z)=>pp182<|tg 45 c181<|tw (ay e)<|ct (dc.ln e.Alts)<|r;tf (λc183=>pp184<|tg 52 c183<|tE) λc183=>have pp186:=λ{X Y Z} (r:PV _ X Y Z)=>pp184<|tg 52 c183<|ts<|r;tf (λc185=>pp186<|tg 56 c185<|tw (aC e)<|ct (dZ.ln e.Types)<|tE) λc185=>pp186<|tg 56 c185<|tE) λc181=>have pp188:=λ{X Y Z} (r:PV _ X Y Z)=>pp182<|tg 45 c181<|ts<|r;tf (λc187=>pp188<|tg 56 c187<|tw (aC e)<|ct (dZ.ln e.Types)<|tE) λc187=>pp188<|tg 56 c187<|tE
end
section
variable(e:ag)(ok:Bool)(unused:Bool)(m:Bool)(m2:Bool)(m3:Int)(m4:Int)(m5:Bool)(m6:Bool)(m7:Int)(m8:Int)(m9:Bool)
def A7:Option Bool:=
 if(!ok)=true then
  some true
 else
  some unused
theorem Gc:OU 0 (cA X7 122) (A7 ok unused) .normal (λo=>[(4,.undef),(5,.undef),(81,.bool o)]) (aO 156 [(1,.eptr (ae e)),(3,.bptr 1 0),(4,.bool ok),(5,.bool unused)] [.dead,.cells [.bool m,.bool m2,.int .i64 m3,.int .i64 m4,.bool m5,.bool m6,.int .i64 m7,.int .i64 m8,.bool m9] []] []):=ZK.j<|
 tf (λc190=>tg 3 c190<|tE) λc190=>tg 3 c190<|tE
end
section
variable(e:ag)(m:Bool)(m2:Bool)(m3:Int)(m4:Int)(m5:Bool)(m6:Bool)(m7:Int)(m8:Int)(m9:Bool)
def A8:Option Bool:=
 if (e.Op == 1) = true then
  (WR e.N).bind λr197=>
  if(!r197)=true then
   some true
  else if(e.Op==2)=true then
   if(e.N !=0)=true then
    some (e.N !=1)
   else
    some false
  else
   some false
 else if(e.Op==2)=true then
  if(e.N !=0)=true then
   some (e.N !=1)
  else
   some false
 else
  some false
theorem Gd:OU 0 (cA X7 1982) (A8 e) .normal (λo=>[(92,.bool o)]) (aO 156 [(1,.eptr (ae e)),(3,.bptr 1 0)] [.dead,.cells [.bool m,.bool m2,.int .i64 m3,.int .i64 m4,.bool m5,.bool m6,.int .i64 m7,.int .i64 m8,.bool m9] []] []):=ZK.j<|
 have pp196:=λ{X Y Z} (r:PV _ X Y Z)=>tw (aU e)<|r;tf (λc195=>tb λr197 br197=>have pp199:=λ{X Y Z} (r:PV _ X Y Z)=>pp196<|tg 4 c195<|tw (ea e)<|bM (UK _ br197)<|r;tf (λc198=>pp199<|tg 10 c198<|tE) λc198=>have pp201:=λ{X Y Z} (r:PV _ X Y Z)=>pp199<|tg 10 c198<|tw (aU e)<|r;tf (λc200=>have pp203:=λ{X Y Z} (r:PV _ X Y Z)=>pp201<|tg 14 c200<|tw (ea e)<|r;tf (λc202=>pp203<|tg 19 c202<|tw (ea e)<|tE) λc202=>pp203<|tg 19 c202<|tE) λc200=>pp201<|tg 14 c200<|tE) λc195=>have pp205:=λ{X Y Z} (r:PV _ X Y Z)=>pp196<|tg 4 c195<|tw (aU e)<|r;tf (λc204=>have pp207:=λ{X Y Z} (r:PV _ X Y Z)=>pp205<|tg 14 c204<|tw (ea e)<|r;tf (λc206=>pp207<|tg 19 c206<|tw (ea e)<|tE) λc206=>pp207<|tg 19 c206<|tE) λc204=>pp205<|tg 14 c204<|tE
end
section
variable(e:ag)(t124:waB)(t125:Int)(m:Bool)(m2:Bool)(m3:Int)(m4:Int)(m5:Bool)(m6:Bool)(m7:Int)(m8:Int)(m9:Bool)(t126:Int)
def ls:aB:=aO 156 [(1,.eptr (ae e)),(124,sl ah t124),(125,.int .i64 t125),(126,.int .i64 t126)] [.dead,.cells [.bool m,.bool m2,.int .i64 m3,.int .i64 m4,.bool m5,.bool m6,.int .i64 m7,.int .i64 m8,.bool m9] []] []
def xe(o:Int⊕(Unit)):Exit:=match o with
 |(.inl _)=>.ret
 |(.inr _)=>.exit 1
def py(o:Int⊕(Unit)):aB:=match o with
 |(.inl o)=>aO 156 [(2,.int .i64 o)] [.dead,.cells [.bool m,.bool m2,.int .i64 m3,.int .i64 m4,.bool m5,.bool m6,.int .i64 m7,.int .i64 m8,.bool m9] []] []
 |(.inr o)=>aO 156 [(1,.eptr (ae e))] [.dead,.cells [.bool m,.bool m2,.int .i64 m3,.int .i64 m4,.bool m5,.bool m6,.int .i64 m7,.int .i64 m8,.bool m9] []] []
instance iS_syntax_node_L4:KS 0 (ls e t124 t125 m m2 m3 m4 m5 m6 m7 m8 m9 t126):=ks 2 rfl
instance iO_syntax_node_L4{o:Int⊕(Unit)}:KS 0 (py e m m2 m3 m4 m5 m6 m7 m8 m9 o):=match o with
 |(.inl o)=>ks 2 rfl
 |(.inr o)=>ks 2 rfl
def xd:Option (Int⊕(Int⊕(Unit))):=
 if decide (t126<t125)=true then
  (ey t124 t126).bind λx213=>
  (Bf x213).bind λr214=>
  if(r214 !=0)=true then
   some (.inr (.inl r214))
  else
   some (.inl (dp (t126+1)))
 else
  some (.inr (.inr ()))
def Ba:Option (Int⊕(Unit)):=loop (λ(zz:Int)=>xd t124 t125 zz) t126
theorem Ed:OL 0 (cA X7 1015) (xd t124 t125 t126) (λ(zz:Int)=>ls e t124 t125 m m2 m3 m4 m5 m6 m7 m8 m9 zz) xe (py e m m2 m3 m4 m5 m6 m7 m8 m9) (ls e t124 t125 m m2 m3 m4 m5 m6 m7 m8 m9 t126):=ZK.lx<|
 tF (tb λx213 bx213=>tb λr214 br214=>tv (dZ.ia (k:=.i64) bx213)<|tv (jT x213)<|tx SP<|tx (po x213)<|tv (iT x213 [])<|bM (Bg _ br214)<|tF tE<|tE)<|tE
theorem vq:OK 0 (.loop (cA X7 1015)) (Ba t124 t125 t126) xe (py e m m2 m3 m4 m5 m6 m7 m8 m9) (ls e t124 t125 m m2 m3 m4 m5 m6 m7 m8 m9 t126):=C9 λ_=>Ed _ _ _ _ _ _ _ _ _ _ _ _ _
end
section
variable(v:Int)(t137:waC)(t138:Int)(t139:Int)(m:Bool)(m2:Bool)(m3:Int)(m4:Int)(m5:Bool)(m6:Bool)(m7:Int)(m8:Int)(m9:Bool)(m10:ai)(m11:Int)(m12:ai)(m13:waB)(m14:waA)(m15:Int)(m16:ai)(m17:Int)(m18:waF)(m19:waF)
def A9:Option Bool:=
 if(v !=0)=true then
  (IF (⟨m11,m12,m13,m14,(⟨m15,m16,m17,m18⟩:aw),m19⟩:al)).bind λr221=>
  some (!r221)
 else
  some false
theorem Ge:OU 0 (cA X7 261102) (A9 v m11 m12 m13 m14 m15 m16 m17 m18 m19) .normal (λo=>[(11,.undef),(153,.bool o)]) (aO 156 [(11,.bptr 2 0),(12,.int .i64 v),(137,sl aj t137),(138,.int .i64 t138),(139,.int .i64 t139)] [.dead,.cells [.bool m,.bool m2,.int .i64 m3,.int .i64 m4,.bool m5,.bool m6,.int .i64 m7,.int .i64 m8,.bool m9] [],.cells [.str m10,.int .i64 m11,.str m12,sl ah m13,sl cS m14,.int .i64 m15,.str m16,.int .i64 m17,sl av m18,sl av m19] []] []):=ZK.j<|
 tf (λc220=>tb λr221 br221=>tg 3 c220<|tv (iT (⟨m11,m12,m13,m14,(⟨m15,m16,m17,m18⟩:aw),m19⟩:al) [])<|bM (Mh _ br221)<|tE) λc220=>tg 3 c220<|tE
end
section
variable(t137:waC)(t138:Int)(m:Bool)(m2:Bool)(m3:Int)(m4:Int)(m5:Bool)(m6:Bool)(m7:Int)(m8:Int)(m9:Bool)(t139:Int)
def lu:aB:=aO 156 [(137,sl aj t137),(138,.int .i64 t138),(139,.int .i64 t139)] [.dead,.cells [.bool m,.bool m2,.int .i64 m3,.int .i64 m4,.bool m5,.bool m6,.int .i64 m7,.int .i64 m8,.bool m9] []] []
def xg(o:Int⊕(Unit)):Exit:=match o with
 |(.inl _)=>.ret
 |(.inr _)=>.exit 3
def pz(o:Int⊕(Unit)):aB:=match o with
 |(.inl o)=>aO 156 [(2,.int .i64 o)] [.dead,.cells [.bool m,.bool m2,.int .i64 m3,.int .i64 m4,.bool m5,.bool m6,.int .i64 m7,.int .i64 m8,.bool m9] []] []
 |(.inr o)=>aO 156 [] [.dead,.cells [.bool m,.bool m2,.int .i64 m3,.int .i64 m4,.bool m5,.bool m6,.int .i64 m7,.int .i64 m8,.bool m9] []] []
instance iS_syntax_node_L5:KS 0 (lu t137 t138 m m2 m3 m4 m5 m6 m7 m8 m9 t139):=ks 2 rfl
instance iO_syntax_node_L5{o:Int⊕(Unit)}:KS 0 (pz m m2 m3 m4 m5 m6 m7 m8 m9 o):=match o with
 |(.inl o)=>ks 2 rfl
 |(.inr o)=>ks 2 rfl
def xf:Option (Int⊕(Int⊕(Unit))):=
 if decide (t139<t138)=true then
  (ey t137 t139).bind λx218=>
  (Bf x218.Type_).bind λr219=>
  (A9 r219 x218.Type_.Op x218.Type_.Name x218.Type_.Args x218.Type_.Names x218.Type_.Pred.Op x218.Type_.Pred.Name x218.Type_.Pred.N x218.Type_.Pred.Kids x218.Type_.Preds).bind λo222=>
  if o222=true then
   some (.inr (.inl r219))
  else
   some (.inl (dp (t139+1)))
 else
  some (.inr (.inr ()))
def Bb:Option (Int⊕(Unit)):=loop (λ(zz:Int)=>xf t137 t138 zz) t139
theorem Ee:OL 0 (cA X7 2039) (xf t137 t138 t139) (λ(zz:Int)=>lu t137 t138 m m2 m3 m4 m5 m6 m7 m8 m9 zz) xg (pz m m2 m3 m4 m5 m6 m7 m8 m9) (lu t137 t138 m m2 m3 m4 m5 m6 m7 m8 m9 t139):=ZK.lx<|
 tF (tb λx218 bx218=>tb λr219 br219=>tb λo222 bo222=>tv (er.ia (k:=.i64) bx218)<|tv (BF x218)<|tx U1<|tx (kU x218)<|tv (iT x218.Type_ [])<|bM (Bg _ br219)<|jo 0<|cD (Ge r219 t137 t138 t139 m m2 m3 m4 m5 m6 m7 m8 m9 x218.Name x218.Type_.Op x218.Type_.Name x218.Type_.Args x218.Type_.Names x218.Type_.Pred.Op x218.Type_.Pred.Name x218.Type_.Pred.N x218.Type_.Pred.Kids x218.Type_.Preds _ bo222)<|tF tE<|tE)<|tE
theorem vw:OK 0 (.loop (cA X7 2039)) (Bb t137 t138 t139) xg (pz m m2 m3 m4 m5 m6 m7 m8 m9) (lu t137 t138 m m2 m3 m4 m5 m6 m7 m8 m9 t139):=C9 λ_=>Ee _ _ _ _ _ _ _ _ _ _ _ _
end
def IE (e:ag):Option Int :=
 (Df e.Op).bind λr1=>
 (A6 e r1.1.n r1.1.name r1.1.most r1.1.params r1.1.alts r1.1.types).bind λo189=>
 (A7 r1.2 o189).bind λo191=>
 if o191=true then
  some 1
 else
  (De e r1.1).bind λr193=>
  if(!r193)=true then
   some 13
  else
   (A8 e).bind λo208=>
   if o208=true then
    some 2
   else
    (F9 e r1.1).bind λr210=>
    if(r210 !=0)=true then
     some r210
    else
     (Ba e.Types (e.Types.length:Int) 0).bind λo216=>match o216 with
     |(.inl o216)=>
      some o216
     | (.inr o216) =>
      (Bb e.Params (e.Params.length:Int) 0).bind λo224=>match o224 with
      |(.inl o224)=>
       some o224
      |(.inr o224)=>
       some 0
theorem Mg{e:ag}:OV 66 [.agg (ae e)] (IE e) (λr=>.int .i64 r) []:=ZK.v<|
 tb λr1 br1=>tb λo189 bo189=>tb λo191 bo191=>te (cm e)<|tw (aU e)<|bM (HS _ br1)<|tx Zo<|tx (co r1.1)<|jo 0<|cD (Gb e r1.2 r1.1.n r1.1.name r1.1.least r1.1.most r1.1.params r1.1.alts r1.1.typesLeast r1.1.typesMost r1.1.types _ bo189)<|jo 1<|cD (Gc e r1.2 o189 r1.1.n r1.1.name r1.1.least r1.1.most r1.1.params r1.1.alts r1.1.typesLeast r1.1.typesMost r1.1.types _ bo191)<|tF tE<|tb λr193 br193=>tv (aX e)<|tv (wE r1.1 [])<|bM (HQ _ br193)<|tF tE<|tb λo208 bo208=>jo 0<|cD (Gd e r1.1.n r1.1.name r1.1.least r1.1.most r1.1.params r1.1.alts r1.1.typesLeast r1.1.typesMost r1.1.types _ bo208)<|tF tE<|tb λr210 br210=>tv (aX e)<|tv (wE r1.1 [])<|bM (JE _ br210)<|tF tE<|tw (aC e)<|ct (dZ.ln e.Types)<|t2 (λo216 bo216=>cD (vq e e.Types (e.Types.length:Int) r1.1.n r1.1.name r1.1.least r1.1.most r1.1.params r1.1.alts r1.1.typesLeast r1.1.typesMost r1.1.types 0 _ bo216)<|tE) λo216 bo216=>cD (vq e e.Types (e.Types.length:Int) r1.1.n r1.1.name r1.1.least r1.1.most r1.1.params r1.1.alts r1.1.typesLeast r1.1.typesMost r1.1.types 0 _ bo216)<|tw (aM e)<|ct (er.ln e.Params)<|t2 (λo224 bo224=>cD (vw e.Params (e.Params.length:Int) r1.1.n r1.1.name r1.1.least r1.1.most r1.1.params r1.1.alts r1.1.typesLeast r1.1.typesMost r1.1.types 0 _ bo224)<|tE) λo224 bo224=>cD (vw e.Params (e.Params.length:Int) r1.1.n r1.1.name r1.1.least r1.1.most r1.1.params r1.1.alts r1.1.typesLeast r1.1.typesMost r1.1.types 0 _ bo224)<|tE
noncomputable def qft:Code:=f65.body.getD .skip
theorem qe5:ZF Pg [] 65 f65 qft:=zf call65 func65 rfl mixed
def AT(a:ag)(k0:Int):Option (Bool×Int):=
 (IE a).bind λr1=>
 some (r1==0,r1)
theorem F2{a:ag}{k0:Int}:OG 65 [.agg (ae a),.bptr 0 0] [] [.cells [.int .i64 k0] []] (AT a k0) (λr=>.bool r.1) [] (λr=>[.cells [.int .i64 r.2] []]):=qe5.g 1<|
 tb λr1 br1=>te (cm a)<|tv (aX a)<|bM (Mg _ br1)<|ts<|ts<|tE
section
variable(R65:e9)(e:ag)(t14:waE)(t15:Int)(t16:Int)(m:Int)
def fD:aB:=aO 38 [(1,.func (.func 65) [] [.bptr 0 0]),(2,.eptr (ae e)),(14,sl ae t14),(15,.int .i64 t15),(16,.int .i64 t16)] [.cells [.int .i64 m] [],.dead] []
def mq(o:Int⊕(Int)):Exit:=match o with
 |(.inl _)=>.ret
 |(.inr _)=>.exit 0
def iy(o:Int⊕(Int)):aB:=match o with
 |(.inl o)=>aO 38 [(4,.bool false)] [.cells [.int .i64 o] [],.dead] []
 |(.inr o)=>aO 38 [(1,.func (.func 65) [] [.bptr 0 0]),(2,.eptr (ae e))] [.cells [.int .i64 o] [],.dead] []
instance iS_syntax_walk_Check_1_L1:KS 1 (fD e t14 t15 t16 m):=ks 2 rfl
instance iO_syntax_walk_Check_1_L1{o:Int⊕(Int)}:KS 1 (iy e o):=match o with
 |(.inl o)=>ks 2 rfl
 |(.inr o)=>ks 2 rfl
def mo:Option ((Int×Int)⊕(Int⊕(Int))):=
 if decide (t16<t15)=true then
  (ey t14 t16).bind λx4=>
  (R65 x4 m).bind λr5=>
  if(!r5.1)=true then
   some (.inr (.inl r5.2))
  else
   some (.inl (dp (t16+1),r5.2))
 else
  some (.inr (.inr m))
def oC:Option (Int⊕(Int)):=loop (λ(zz:Int×Int)=>mo R65 t14 t15 zz.1 zz.2) (t16,m)
theorem tJ(hR65:eZ R65):OL 1 (cA Ug 119) (mo R65 t14 t15 t16 m) (λ(zz:Int×Int)=>fD e t14 t15 zz.1 zz.2) mq (iy e) (fD e t14 t15 t16 m):=XT.lx<|
 tF (tb λx4 bx4=>tb λr5 br5=>tv (cR.ia (k:=.i64) bx4)<|tv (aX x4)<|tx rH<|tx (dn x4)<|tv (aK x4 [])<|tc [0] (hR65 _ _ _ br5)<|tF tE<|tE)<|tE
theorem lF(hR65:eZ R65):OK 1 (.loop (cA Ug 119)) (oC R65 t14 t15 t16 m) mq (iy e) (fD e t14 t15 t16 m):=C9 λ_=>tJ _ _ _ _ _ _ hR65
end
section
variable(R65:e9)(t26:waD)(t27:Int)(t28:Int)(m:Int)
def fE:aB:=aO 38 [(1,.func (.func 65) [] [.bptr 0 0]),(26,sl au t26),(27,.int .i64 t27),(28,.int .i64 t28)] [.cells [.int .i64 m] [],.dead] []
def ms(o:Int⊕(Int)):Exit:=match o with
 |(.inl _)=>.ret
 |(.inr _)=>.exit 2
def iz(o:Int⊕(Int)):aB:=match o with
 |(.inl o)=>aO 38 [(4,.bool false)] [.cells [.int .i64 o] [],.dead] []
 |(.inr o)=>aO 38 [] [.cells [.int .i64 o] [],.dead] []
instance iS_syntax_walk_Check_1_L2:KS 1 (fE t26 t27 t28 m):=ks 2 rfl
instance iO_syntax_walk_Check_1_L2{o:Int⊕(Int)}:KS 1 (iz o):=match o with
 |(.inl o)=>ks 2 rfl
 |(.inr o)=>ks 2 rfl
def mr:Option ((Int×Int)⊕(Int⊕(Int))):=
 if decide (t28<t27)=true then
  (ey t26 t28).bind λx9=>
  (R65 x9.Body m).bind λr10=>
  if(!r10.1)=true then
   some (.inr (.inl r10.2))
  else
   some (.inl (dp (t28+1),r10.2))
 else
  some (.inr (.inr m))
def oD:Option (Int⊕(Int)):=loop (λ(zz:Int×Int)=>mr R65 t26 t27 zz.1 zz.2) (t28,m)
theorem tK(hR65:eZ R65):OL 1 (cA Ug 247) (mr R65 t26 t27 t28 m) (λ(zz:Int×Int)=>fE t26 t27 zz.1 zz.2) ms iz (fE t26 t27 t28 m):=XT.lx<|
 tF (tb λx9 bx9=>tb λr10 br10=>tv (dc.ia (k:=.i64) bx9)<|tv (lp x9)<|tx Jv<|tx (hU x9)<|tv (aK x9.Body [])<|tc [0] (hR65 _ _ _ br10)<|tF tE<|tE)<|tE
theorem lG(hR65:eZ R65):OK 1 (.loop (cA Ug 247)) (oD R65 t26 t27 t28 m) ms iz (fE t26 t27 t28 m):=C9 λ_=>tK _ _ _ _ _ hR65
end
def oW(R65:e9)(e:ag)(k0:Int):Option (Bool×Int):=
 (AT e k0).bind λr1=>
 if(!r1.1)=true then
  some (false,r1.2)
 else
  (oC R65 e.Kids (e.Kids.length:Int) 0 r1.2).bind λo7=>match o7 with
  |(.inl o7)=>
   some (false,o7)
  | (.inr o7) =>
   (oD R65 e.Alts (e.Alts.length:Int) 0 o7).bind λo12=>match o12 with
   |(.inl o12)=>
    some (false,o12)
   |(.inr o12)=>
    some (true,o12)
theorem xk(R65:e9)(hR65:eZ R65){e:ag}{k0:Int}:OG 64 [.agg (ae e),.func (.func 65) [] [.bptr 0 0]] [] [.cells [.int .i64 k0] []] (oW R65 e k0) (λr=>.bool r.1) [] (λr=>[.cells [.int .i64 r.2] []]):=XT.g 1<|
 tb λr1 br1=>te (cm e)<|tv (aX e)<|tc [0] (F2 _ br1)<|tF tE<|tw (aR e)<|ct (cR.ln e.Kids)<|t2 (λo7 bo7=>cD (lF R65 e e.Kids (e.Kids.length:Int) 0 r1.2 hR65 _ bo7)<|tE) λo7 bo7=>cD (lF R65 e e.Kids (e.Kids.length:Int) 0 r1.2 hR65 _ bo7)<|tw (ay e)<|ct (dc.ln e.Alts)<|t2 (λo12 bo12=>cD (lG R65 e.Alts (e.Alts.length:Int) 0 o7 hR65 _ bo12)<|tE) λo12 bo12=>cD (lG R65 e.Alts (e.Alts.length:Int) 0 o7 hR65 _ bo12)<|tE
def oX:((ag×Int)->Option (Bool×Int))->(ag×Int)->Option (Bool×Int):=λ(rec:(ag×Int)->Option (Bool×Int)) (x:ag×Int)=>oW (λe k0=>rec (e,k0)) x.1 x.2
def qU(e:ag)(k0:Int):Option (Bool×Int):=pl oX (e,k0)
theorem yB{e:ag}{k0:Int}:OG 64 [.agg (ae e),.func (.func 65) [] [.bptr 0 0]] [] [.cells [.int .i64 k0] []] (qU e k0) (λr=>.bool r.1) [] (λr=>[.cells [.int .i64 r.2] []]):=XI λ_ h=>
 dY (F:=oX) (M:=λ(x:ag×Int) (r:Bool×Int)=>C Pg GE 64 [.agg (ae x.1),.func (.func 65) [] [.bptr 0 0]] [] [.cells [.int .i64 x.2] []] (.bool r.1) [] [.cells [.int .i64 r.2] []]) (λrec hrec x r h=>xk _ (λe k0=>XI λr h=>hrec (e,k0) r h) _ h) h
noncomputable def qfi:Code:=f17.body.getD .skip
theorem qeU:ZF Pg [] 17 f17 qfi:=zf call17 func17 rfl mixed
def yv(e:ag):Option Int:=
 (yx e).bind λr1=>
 if decide (r1>400)=true then
  some 7
 else
  (yw e).bind λr3=>
  if decide (r3>40)=true then
   some 8
  else
   (qU e 0).bind λr5=>
   some r5.2
theorem fZ{e:ag}:OV 17 [.agg (ae e)] (yv e) (λr=>.int .i64 r) []:=qeU.v<|
 tb λr1 br1=>te (cm e)<|tv (aX e)<|bM (qw _ br1)<|tF tE<|tb λr3 br3=>tv (aX e)<|bM (y8 _ br3)<|tF tE<|tb λr5 br5=>tx qd4<|ts<|tv (aX e)<|tc [1] (yB _ br5)<|ts<|tE
noncomputable def qfd:Code:=f11.body.getD .skip
theorem qeP:ZF Pg [] 11 f11 qfd:=zf call11 func11 rfl mixed
def Bp:Option Bool:=
 (fB ([120]:ai)).bind λr1=>
 (fB ([120]:ai)).bind λr2=>
 (fB ([121]:ai)).bind λr3=>
 (Bq ([120]:ai) r1 (⟨5,([102]:ai),0,([r2,r3]:List ag),([]:List am),([]:List az),([]:List al)⟩:ag)).bind λr4=>
 (fB ([120]:ai)).bind λr5=>
 (fB ([120]:ai)).bind λr6=>
 (Bq ([120]:ai) r5 r6).bind λr7=>
 (Bq ([120]:ai) (⟨1,([]:ai),1,([]:List ag),([]:List am),([]:List az),([]:List al)⟩:ag) r7).bind λr8=>
 (kl r8).bind λr9=>
 (Ad ([120]:ai) ([121]:ai)).bind λr10=>
 (Ad ([120,49]:ai) ([120]:ai)).bind λr11=>
 (qa (⟨r4.Op,r4.Name,r4.N,r4.Kids,r4.Params,r4.Alts,r4.Types⟩:ag)).bind λr12=>
 (kc r12 ([([102]:ai),([120]:ai),([121]:ai)]:List ai)).bind λr13=>
 if r13=true then
  (fB ([120]:ai)).bind λr15=>
  (fB ([120,49]:ai)).bind λr16=>
  (Bq ([120,49]:ai) r15 r16).bind λr17=>
  (Bq ([120]:ai) (⟨1,([]:ai),1,([]:List ag),([]:List am),([]:List az),([]:List al)⟩:ag) r17).bind λr18=>
  (wa r9 r18).bind λr19=>
  if r19=true then
   (oh (⟨6,([]:ai),0,([r10]:List ag),([(⟨([120]:ai),(⟨0,([]:ai),([]:List al),([]:List ai),(⟨0,([]:ai),0,([]:List aw)⟩:aw),([]:List aw)⟩:al)⟩:am)]:List am),([]:List az),([]:List al)⟩:ag) ([121]:ai) ([120]:ai)).bind λr21=>
   (wa r21 (⟨6,([]:ai),0,([r11]:List ag),([(⟨([120,49]:ai),(⟨0,([]:ai),([]:List al),([]:List ai),(⟨0,([]:ai),0,([]:List aw)⟩:aw),([]:List aw)⟩:al)⟩:am)]:List am),([]:List az),([]:List al)⟩:ag)).bind λr22=>
   if r22=true then
    (yv r4).bind λr24=>
    if (r24 == 0) = true then
     (yv (⟨3,([105,102]:ai),0,([]:List ag),([]:List am),([]:List az),([]:List al)⟩:ag)).bind λr26=>
     if(r26==3)=true then
      (yx r4).bind λr28=>
      if(r28==5)=true then
       (yw r4).bind λr30=>
       some (r30==3)
      else
       some false
     else
      some false
    else
     some false
   else
    some false
  else
   some false
 else
  some false
theorem EV:OV 11 [] Bp (λr=>.bool r) []:=qeP.v<|
 tb λr1 br1=>tb λr2 br2=>tb λr3 br3=>tb λr4 br4=>tb λr5 br5=>tb λr6 br6=>tb λr7 br7=>tb λr8 br8=>tb λr9 br9=>tb λr10 br10=>tb λr11 br11=>tb λr12 br12=>tb λr13 br13=>bM (bL _ br1)<|bM (bL _ br2)<|bM (bL _ br3)<|tv (cR.mk' (v:=ly) dR ([r2,r3]:List ag) 2 (by kernel_rfl))<|Vf (Aj 5 ([102]:ai) ([r2,r3]:List ag)) (Ah 5 ([102]:ai) ([r2,r3]:List ag))<|bM (ej _ br4)<|tx rH<|ty (bz r4)<|Vf (Pd 1 1) (O9 1 1)<|tx rH<|ty (bz (⟨1,([]:ai),1,([]:List ag),([]:List am),([]:List az),([]:List al)⟩:ag))<|Be [0,0,2,6,15,31,0,127]<|tv (aK (⟨1,([]:ai),1,([]:List ag),([]:List am),([]:List az),([]:List al)⟩:ag) [])<|bM (bL _ br5)<|bM (bL _ br6)<|bM (ej _ br7)<|bM (ej _ br8)<|bM (pw _ br9)<|qfS (dn r9)<|Vf (H8 ([120]:ai)) (H6 ([120]:ai))<|tv (er.mk' (v:=xr) th ([(⟨([120]:ai),(⟨0,([]:ai),([]:List al),([]:List ai),(⟨0,([]:ai),0,([]:List aw)⟩:aw),([]:List aw)⟩:al)⟩:am)]:List am) 1 (by kernel_rfl))<|bM (Ae _ br10)<|tv (cR.mk' (v:=ly) dR ([r10]:List ag) 1 (by kernel_rfl))<|Vf (Ak 6 ([(⟨([120]:ai),(⟨0,([]:ai),([]:List al),([]:List ai),(⟨0,([]:ai),0,([]:List aw)⟩:aw),([]:List aw)⟩:al)⟩:am)]:List am) ([r10]:List ag)) (Ai 6 ([(⟨([120]:ai),(⟨0,([]:ai),([]:List al),([]:List ai),(⟨0,([]:ai),0,([]:List aw)⟩:aw),([]:List aw)⟩:al)⟩:am)]:List am) ([r10]:List ag))<|tx rH<|ty (bz (⟨6,([]:ai),0,([r10]:List ag),([(⟨([120]:ai),(⟨0,([]:ai),([]:List al),([]:List ai),(⟨0,([]:ai),0,([]:List aw)⟩:aw),([]:List aw)⟩:al)⟩:am)]:List am),([]:List az),([]:List al)⟩:ag))<|Vf (H8 ([120,49]:ai)) (H6 ([120,49]:ai))<|tv (er.mk' (v:=xr) th ([(⟨([120,49]:ai),(⟨0,([]:ai),([]:List al),([]:List ai),(⟨0,([]:ai),0,([]:List aw)⟩:aw),([]:List aw)⟩:al)⟩:am)]:List am) 1 (by kernel_rfl))<|bM (Ae _ br11)<|tv (cR.mk' (v:=ly) dR ([r11]:List ag) 1 (by kernel_rfl))<|Vf (Ak 6 ([(⟨([120,49]:ai),(⟨0,([]:ai),([]:List al),([]:List ai),(⟨0,([]:ai),0,([]:List aw)⟩:aw),([]:List aw)⟩:al)⟩:am)]:List am) ([r11]:List ag)) (Ai 6 ([(⟨([120,49]:ai),(⟨0,([]:ai),([]:List al),([]:List ai),(⟨0,([]:ai),0,([]:List aw)⟩:aw),([]:List aw)⟩:al)⟩:am)]:List am) ([r11]:List ag))<|tx rH<|ty (bz (⟨6,([]:ai),0,([r11]:List ag),([(⟨([120,49]:ai),(⟨0,([]:ai),([]:List al),([]:List ai),(⟨0,([]:ai),0,([]:List aw)⟩:aw),([]:List aw)⟩:al)⟩:am)]:List am),([]:List az),([]:List al)⟩:ag))<|tf (λc14=>tb λr15 br15=>tb λr16 br16=>tb λr17 br17=>tb λr18 br18=>tb λr19 br19=>tf (λc20=>tb λr21 br21=>tb λr22 br22=>tf (λc23=>tb λr24 br24=>tf (λc25=>tb λr26 br26=>tf (λc27=>tb λr28 br28=>tf (λc29=>tb λr30 br30=>Be [0,1,0,7,15,31,31,31,159,415,991,2047,4095,8191,16383,32767,16383,131071,262143,524287,1048575,2097151,4194303,8388607,16777215,33554431,67108863,134217727,268435455,536870911,1073741823,2147483647,4294967295,8589934591,17179869183,34359738367,68719476735,137438953471,274877906943,549755813887]<|tv (aK (⟨r4.Op,r4.Name,r4.N,r4.Kids,r4.Params,r4.Alts,r4.Types⟩:ag) [])<|bM (fI _ br12)<|tv (gD [([102]:ai),([120]:ai),([121]:ai)] 3 rfl)<|bM (dQ _ br13)<|tg 5 c14<|tv (aK r9 [])<|tv (aK (⟨1,([]:ai),1,([]:List ag),([]:List am),([]:List az),([]:List al)⟩:ag) [])<|bM (bL _ br15)<|bM (bL _ br16)<|bM (ej _ br17)<|bM (ej _ br18)<|bM (dq _ br19)<|tg 14 c20<|tv (aK (⟨6,([]:ai),0,([r10]:List ag),([(⟨([120]:ai),(⟨0,([]:ai),([]:List al),([]:List ai),(⟨0,([]:ai),0,([]:List aw)⟩:aw),([]:List aw)⟩:al)⟩:am)]:List am),([]:List az),([]:List al)⟩:ag) [])<|bM (eW _ br21)<|tv (aK (⟨6,([]:ai),0,([r11]:List ag),([(⟨([120,49]:ai),(⟨0,([]:ai),([]:List al),([]:List ai),(⟨0,([]:ai),0,([]:List aw)⟩:aw),([]:List aw)⟩:al)⟩:am)]:List am),([]:List az),([]:List al)⟩:ag) [])<|bM (dq _ br22)<|tg 20 c23<|tv (aK r4 [])<|bM (fZ _ br24)<|tg 25 c25<|Vf (rl 3 ([105,102]:ai)) (rj 3 ([105,102]:ai))<|bM (fZ _ br26)<|tg 30 c27<|tv (aK r4 [])<|bM (qw _ br28)<|tg 35 c29<|tv (aK r4 [])<|bM (y8 _ br30)<|tE) λc29=>Be [0,1,0,7,15,31,31,31,159,415,991,2047,4095,8191,16383,32767,16383,131071,262143,524287,1048575,2097151,4194303,8388607,16777215,33554431,67108863,134217727,268435455,536870911,1073741823,2147483647,4294967295,8589934591,17179869183,34359738367,68719476735,137438953471,274877906943,549755813887]<|tv (aK (⟨r4.Op,r4.Name,r4.N,r4.Kids,r4.Params,r4.Alts,r4.Types⟩:ag) [])<|bM (fI _ br12)<|tv (gD [([102]:ai),([120]:ai),([121]:ai)] 3 rfl)<|bM (dQ _ br13)<|tg 5 c14<|tv (aK r9 [])<|tv (aK (⟨1,([]:ai),1,([]:List ag),([]:List am),([]:List az),([]:List al)⟩:ag) [])<|bM (bL _ br15)<|bM (bL _ br16)<|bM (ej _ br17)<|bM (ej _ br18)<|bM (dq _ br19)<|tg 14 c20<|tv (aK (⟨6,([]:ai),0,([r10]:List ag),([(⟨([120]:ai),(⟨0,([]:ai),([]:List al),([]:List ai),(⟨0,([]:ai),0,([]:List aw)⟩:aw),([]:List aw)⟩:al)⟩:am)]:List am),([]:List az),([]:List al)⟩:ag) [])<|bM (eW _ br21)<|tv (aK (⟨6,([]:ai),0,([r11]:List ag),([(⟨([120,49]:ai),(⟨0,([]:ai),([]:List al),([]:List ai),(⟨0,([]:ai),0,([]:List aw)⟩:aw),([]:List aw)⟩:al)⟩:am)]:List am),([]:List az),([]:List al)⟩:ag) [])<|bM (dq _ br22)<|tg 20 c23<|tv (aK r4 [])<|bM (fZ _ br24)<|tg 25 c25<|Vf (rl 3 ([105,102]:ai)) (rj 3 ([105,102]:ai))<|bM (fZ _ br26)<|tg 30 c27<|tv (aK r4 [])<|bM (qw _ br28)<|tg 35 c29<|tE) λc27=>Be [0,1,0,7,15,31,31,31,159,415,991,2047,4095,8191,16383,32767,16383,131071,262143,524287,1048575,2097151,4194303,8388607,16777215,33554431,67108863,134217727,268435455,536870911,1073741823,2147483647,4294967295,8589934591,17179869183,34359738367,68719476735,137438953471,274877906943,549755813887]<|tv (aK (⟨r4.Op,r4.Name,r4.N,r4.Kids,r4.Params,r4.Alts,r4.Types⟩:ag) [])<|bM (fI _ br12)<|tv (gD [([102]:ai),([120]:ai),([121]:ai)] 3 rfl)<|bM (dQ _ br13)<|tg 5 c14<|tv (aK r9 [])<|tv (aK (⟨1,([]:ai),1,([]:List ag),([]:List am),([]:List az),([]:List al)⟩:ag) [])<|bM (bL _ br15)<|bM (bL _ br16)<|bM (ej _ br17)<|bM (ej _ br18)<|bM (dq _ br19)<|tg 14 c20<|tv (aK (⟨6,([]:ai),0,([r10]:List ag),([(⟨([120]:ai),(⟨0,([]:ai),([]:List al),([]:List ai),(⟨0,([]:ai),0,([]:List aw)⟩:aw),([]:List aw)⟩:al)⟩:am)]:List am),([]:List az),([]:List al)⟩:ag) [])<|bM (eW _ br21)<|tv (aK (⟨6,([]:ai),0,([r11]:List ag),([(⟨([120,49]:ai),(⟨0,([]:ai),([]:List al),([]:List ai),(⟨0,([]:ai),0,([]:List aw)⟩:aw),([]:List aw)⟩:al)⟩:am)]:List am),([]:List az),([]:List al)⟩:ag) [])<|bM (dq _ br22)<|tg 20 c23<|tv (aK r4 [])<|bM (fZ _ br24)<|tg 25 c25<|Vf (rl 3 ([105,102]:ai)) (rj 3 ([105,102]:ai))<|bM (fZ _ br26)<|tg 30 c27<|tE) λc25=>Be [0,1,0,7,15,31,31,31,159,415,991,2047,4095,8191,16383,32767,16383,131071,262143,524287,1048575,2097151,4194303,8388607,16777215,33554431,67108863,134217727,268435455,536870911,1073741823,2147483647,4294967295,8589934591,17179869183,34359738367,68719476735,137438953471,274877906943,549755813887]<|tv (aK (⟨r4.Op,r4.Name,r4.N,r4.Kids,r4.Params,r4.Alts,r4.Types⟩:ag) [])<|bM (fI _ br12)<|tv (gD [([102]:ai),([120]:ai),([121]:ai)] 3 rfl)<|bM (dQ _ br13)<|tg 5 c14<|tv (aK r9 [])<|tv (aK (⟨1,([]:ai),1,([]:List ag),([]:List am),([]:List az),([]:List al)⟩:ag) [])<|bM (bL _ br15)<|bM (bL _ br16)<|bM (ej _ br17)<|bM (ej _ br18)<|bM (dq _ br19)<|tg 14 c20<|tv (aK (⟨6,([]:ai),0,([r10]:List ag),([(⟨([120]:ai),(⟨0,([]:ai),([]:List al),([]:List ai),(⟨0,([]:ai),0,([]:List aw)⟩:aw),([]:List aw)⟩:al)⟩:am)]:List am),([]:List az),([]:List al)⟩:ag) [])<|bM (eW _ br21)<|tv (aK (⟨6,([]:ai),0,([r11]:List ag),([(⟨([120,49]:ai),(⟨0,([]:ai),([]:List al),([]:List ai),(⟨0,([]:ai),0,([]:List aw)⟩:aw),([]:List aw)⟩:al)⟩:am)]:List am),([]:List az),([]:List al)⟩:ag) [])<|bM (dq _ br22)<|tg 20 c23<|tv (aK r4 [])<|bM (fZ _ br24)<|tg 25 c25<|tE) λc23=>Be [0,1,0,7,15,31,31,31,159,415,991,2047,4095,8191,16383,32767,16383,131071,262143,524287,1048575,2097151,4194303,8388607,16777215,33554431,67108863,134217727,268435455,536870911,1073741823,2147483647,4294967295,8589934591,17179869183,34359738367,68719476735,137438953471,274877906943,549755813887]<|tv (aK (⟨r4.Op,r4.Name,r4.N,r4.Kids,r4.Params,r4.Alts,r4.Types⟩:ag) [])<|bM (fI _ br12)<|tv (gD [([102]:ai),([120]:ai),([121]:ai)] 3 rfl)<|bM (dQ _ br13)<|tg 5 c14<|tv (aK r9 [])<|tv (aK (⟨1,([]:ai),1,([]:List ag),([]:List am),([]:List az),([]:List al)⟩:ag) [])<|bM (bL _ br15)<|bM (bL _ br16)<|bM (ej _ br17)<|bM (ej _ br18)<|bM (dq _ br19)<|tg 14 c20<|tv (aK (⟨6,([]:ai),0,([r10]:List ag),([(⟨([120]:ai),(⟨0,([]:ai),([]:List al),([]:List ai),(⟨0,([]:ai),0,([]:List aw)⟩:aw),([]:List aw)⟩:al)⟩:am)]:List am),([]:List az),([]:List al)⟩:ag) [])<|bM (eW _ br21)<|tv (aK (⟨6,([]:ai),0,([r11]:List ag),([(⟨([120,49]:ai),(⟨0,([]:ai),([]:List al),([]:List ai),(⟨0,([]:ai),0,([]:List aw)⟩:aw),([]:List aw)⟩:al)⟩:am)]:List am),([]:List az),([]:List al)⟩:ag) [])<|bM (dq _ br22)<|tg 20 c23<|tE) λc20=>Be [0,1,0,7,15,31,31,31,159,415,991,2047,4095,8191,16383,32767,16383,131071,262143,524287,1048575,2097151,4194303,8388607,16777215,33554431,67108863,134217727,268435455,536870911,1073741823,2147483647,4294967295,8589934591,17179869183,34359738367,68719476735,137438953471,274877906943,549755813887]<|tv (aK (⟨r4.Op,r4.Name,r4.N,r4.Kids,r4.Params,r4.Alts,r4.Types⟩:ag) [])<|bM (fI _ br12)<|tv (gD [([102]:ai),([120]:ai),([121]:ai)] 3 rfl)<|bM (dQ _ br13)<|tg 5 c14<|tv (aK r9 [])<|tv (aK (⟨1,([]:ai),1,([]:List ag),([]:List am),([]:List az),([]:List al)⟩:ag) [])<|bM (bL _ br15)<|bM (bL _ br16)<|bM (ej _ br17)<|bM (ej _ br18)<|bM (dq _ br19)<|tg 14 c20<|tE) λc14=>Be [0,1,0,7,15,31,31,31,159,415,991,2047,4095,8191,16383,32767,16383,131071,262143,524287,1048575,2097151,4194303,8388607,16777215,33554431,67108863,134217727,268435455,536870911,1073741823,2147483647,4294967295,8589934591,17179869183,34359738367,68719476735,137438953471,274877906943,549755813887]<|tv (aK (⟨r4.Op,r4.Name,r4.N,r4.Kids,r4.Params,r4.Alts,r4.Types⟩:ag) [])<|bM (fI _ br12)<|tv (gD [([102]:ai),([120]:ai),([121]:ai)] 3 rfl)<|bM (dQ _ br13)<|tg 5 c14<|tE
abbrev Bo:=(ag->Option waA)
abbrev Gq(R:Bo):Prop:=∀(e:ag),OV 58 [.agg (ae e)] (R e) (λr=>sl cS r) [(0,9)]
noncomputable def qew:Code:=f69.body.getD .skip
theorem qep:ZF Pg [16,25] 69 f69 qew:=zf call69 func69 rfl mixed
section
variable(e:ag)(out:waE)(i:Int)
def yH:aB:=aO 26 [(1,.eptr (ae e)),(3,sl ae out),(4,.int .i64 i)] [.dead] [((3,0),28)]
def I7(o:waE):aB:=aO 26 [(3,sl ae o)] [.dead] [((3,0),28)]
def fY:Option ((waE×Int)⊕(waE)):=
 if decide (i<(e.Alts.length:Int))=true then
  (ey e.Alts i).bind λx3=>
  (app out ([x3.Body]:List ag)).bind λl4=>
  some (.inl (l4,dp (i+1)))
 else
  some (.inr out)
def pD:Option waE:=loop (λ(zz:waE×Int)=>fY e zz.1 zz.2) (out,i)
theorem Ey:OL 0 (cA qew 119) (fY e out i) (λ(zz:waE×Int)=>yH e zz.1 zz.2) (λ_=>.exit 0) I7 (yH e out i):=qep.l<|
 tw (ay e)<|ct (dc.ln e.Alts)<|tF (tb λx3 bx3=>tb λl4 bl4=>tw (ay e)<|tv (dc.ia (k:=.i64) bx3)<|tw (fT x3)<|tv (cR.mk' (v:=ly) dR ([x3.Body]:List ag) 1 (by kernel_rfl))<|tv (cR.ap bl4)<|tE)<|tE
def GF:=rE (s:=(out,i)) λzz=>Ey e zz.1 zz.2
end
def xN(e:ag):Option waE:=
 (app ([]:List ag) e.Kids).bind λl1=>
 (pD e l1 0).bind λo5=>
 some o5
theorem ML{e:ag}:OV 69 [.agg (ae e)] (xN e) (λr=>sl ae r) [(0,28)]:=qep.v<|
 tb λl1 bl1=>tb λo5 bo5=>te (cm e)<|tv (cR.mk' (v:=ly) dR ([]:List ag) 0 (by kernel_rfl))<|tw (aR e)<|tv (cR.ap bl1)<|cD (GF e l1 0 _ bo5)<|tE
noncomputable def qaj:Code:=f58.body.getD .skip
theorem ZI:ZF Pg [21,38,54,70,77] 58 f58 qaj:=zf call58 func58 rfl mixed
section
variable(e:ag)
def xG:Option Bool:=
 if(e.Op==3)=true then
  some true
 else if(e.Op==5)=true then
  some true
 else
  some (e.Op==7)
theorem MF:OU 0 (cA qaj 28) (xG e) .normal (λo=>[(20,.bool o)]) (aO 78 [(1,.eptr (ae e)),(3,sl cS ([]:List ai))] [.dead] [((3,0),9)]):=ZI.j<|
 have pp2:=λ{X Y Z} (r:PV _ X Y Z)=>tw (aU e)<|r;tf (λc1=>pp2<|tg 4 c1<|tE) λc1=>have pp4:=λ{X Y Z} (r:PV _ X Y Z)=>pp2<|tg 4 c1<|tw (aU e)<|r;tf (λc3=>pp4<|tg 9 c3<|tE) λc3=>pp4<|tg 9 c3<|tw (aU e)<|tE
end
section
variable(e:ag)
def xE:Option waA:=
 (xG e).bind λo5=>
 if o5=true then
  (app ([]:List ai) ([e.Name]:List ai)).bind λl7=>
  some l7
 else
  some ([]:List ai)
theorem ME:OU 0 (cA qaj 14) (xE e) .normal (λo=>[(3,sl cS o)]) (aO 78 [(1,.eptr (ae e)),(3,sl cS ([]:List ai))] [.dead] [((3,0),9)]):=ZI.j<|
 tb λo5 bo5=>jo 0<|cD (MF e _ bo5)<|tF (tb λl7 bl7=>tw (bV e)<|tv (gD [e.Name] 1 rfl)<|tv (b8.ap bl7)<|tE)<|tE
end
section
variable(e:ag)(out:waA)(i:Int)
def sn:Option Bool:=
 if decide (i<(e.Params.length:Int))=true then
  some (e.Op==6)
 else
  some false
theorem MG:OU 0 (cA qaj 988) (sn e i) .normal (λo=>[(35,.bool o)]) (aO 78 [(1,.eptr (ae e)),(3,sl cS out),(4,.int .i64 i)] [.dead] [((3,0),9)]):=ZI.j<|
 have pp10:=λ{X Y Z} (r:PV _ X Y Z)=>tw (aM e)<|ct (er.ln e.Params)<|r;tf (λc9=>pp10<|tg 6 c9<|tw (aU e)<|tE) λc9=>pp10<|tg 6 c9<|tE
end
section
variable(e:ag)(out:waA)(i:Int)
def Eu:aB:=aO 78 [(1,.eptr (ae e)),(3,sl cS out),(4,.int .i64 i)] [.dead] [((3,0),9)]
def Oy(o:waA):aB:=aO 78 [(1,.eptr (ae e)),(3,sl cS o)] [.dead] [((3,0),9)]
def gg:Option ((waA×Int)⊕(waA)):=
 (sn e i).bind λo11=>
 if o11=true then
  (ey e.Params i).bind λx13=>
  (app out ([x13.Name]:List ai)).bind λl14=>
  some (.inl (l14,dp (i+1)))
 else
  some (.inr out)
def Dw:Option waA:=loop (λ(zz:waA×Int)=>gg e zz.1 zz.2) (out,i)
theorem Ko:OL 0 (cA qaj 247) (gg e out i) (λ(zz:waA×Int)=>Eu e zz.1 zz.2) (λ_=>.exit 0) (Oy e) (Eu e out i):=ZI.l<|
 tb λo11 bo11=>jo 1<|cD (MG e out i _ bo11)<|tF (tb λx13 bx13=>tb λl14 bl14=>tw (aM e)<|tv (er.ia (k:=.i64) bx13)<|tw (dG x13)<|tv (gD [x13.Name] 1 rfl)<|tv (b8.ap bl14)<|tE)<|tE
def MH:=rE (s:=(out,i)) λzz=>Ko e zz.1 zz.2
end
section
variable(e:ag)(out:waA)(i:Int)
def Ev:aB:=aO 78 [(1,.eptr (ae e)),(3,sl cS out),(5,.int .i64 i)] [.dead] [((3,0),9)]
def Oz(o:waA):aB:=aO 78 [(1,.eptr (ae e)),(3,sl cS o)] [.dead] [((3,0),9)]
def jE:Option ((waA×Int)⊕(waA)):=
 if decide (i<(e.Alts.length:Int))=true then
  (ey e.Alts i).bind λx17=>
  (app out x17.Names).bind λl18=>
  some (.inl (l18,dp (i+1)))
 else
  some (.inr out)
def Dx:Option waA:=loop (λ(zz:waA×Int)=>jE e zz.1 zz.2) (out,i)
theorem Kp:OL 0 (cA qaj 503) (jE e out i) (λ(zz:waA×Int)=>Ev e zz.1 zz.2) (λ_=>.exit 2) (Oz e) (Ev e out i):=ZI.l<|
 tw (ay e)<|ct (dc.ln e.Alts)<|tF (tb λx17 bx17=>tb λl18 bl18=>tw (ay e)<|tv (dc.ia (k:=.i64) bx17)<|tw (eK x17)<|tv (b8.ap bl18)<|tE)<|tE
def MI:=rE (s:=(out,i)) λzz=>Kp e zz.1 zz.2
end
section
variable(R98:Bo)(v:waE)(out:waA)(i:Int)
def Ew:aB:=aO 78 [(3,sl cS out),(6,sl ae v),(7,.int .i64 i)] [.dead] [((6,0),28),((3,0),9)]
def OB(o:waA):aB:=aO 78 [(3,sl cS o)] [.dead] [((3,0),9)]
def jF:Option ((waA×Int)⊕(waA)):=
 if decide (i<(v.length:Int))=true then
  (ey v i).bind λx22=>
  (R98 x22).bind λr23=>
  (app out r23).bind λl24=>
  some (.inl (l24,dp (i+1)))
 else
  some (.inr out)
def Dy:Option waA:=loop (λ(zz:waA×Int)=>jF R98 v zz.1 zz.2) (out,i)
theorem Kq(hR98:Gq R98):OL 0 (cA qaj 2039) (jF R98 v out i) (λ(zz:waA×Int)=>Ew v zz.1 zz.2) (λ_=>.exit 4) OB (Ew v out i):=ZI.l<|
 ct (cR.ln v)<|tF (tb λx22 bx22=>tb λr23 br23=>tb λl24 bl24=>tv (cR.ia (k:=.i64) bx22)<|tv (aX x22)<|bM (hR98 _ _ br23)<|tv (b8.ap bl24)<|tE)<|tE
def MJ(hR98:Gq R98):=rE (s:=(out,i)) λzz=>Kq R98 v zz.1 zz.2 hR98
end
def Bk(R98:Bo)(e:ag):Option waA:=
 (xE e).bind λo8=>
 (Dw e o8 0).bind λo15=>
 (Dx e o15 0).bind λo19=>
 (xN e).bind λr20=>
 (Dy R98 r20 o19 0).bind λo25=>
 some o25
theorem Qg(R98:Bo)(hR98:Gq R98){e:ag}:OV 58 [.agg (ae e)] (Bk R98 e) (λr=>sl cS r) [(0,9)]:=ZI.v<|
 tb λo8 bo8=>tb λo15 bo15=>tb λo19 bo19=>tb λr20 br20=>tb λo25 bo25=>te (cm e)<|jo 1<|cD (ME e _ bo8)<|cD (MH e o8 0 _ bo15)<|cD (MI e o15 0 _ bo19)<|tv (aX e)<|bM (ML _ br20)<|cD (MJ R98 r20 o19 0 hR98 _ bo25)<|tE
def Gv:(ag->Option waA)->(ag)->Option waA:=λ(rec:ag->Option waA) (x:ag)=>Bk (λe=>rec e) x
def Ox(e:ag):Option waA:=pl Gv e
theorem RP{e:ag}:OV 58 [.agg (ae e)] (Ox e) (λr=>sl cS r) [(0,9)]:=BN λ_ h=>
 dY (F:=Gv) (M:=λ(x:ag) (r:waA)=>CC Pg GE 58 [.agg (ae x)] (sl cS r) [(0,9)]) (λrec hrec x r h=>Qg _ (λe=>BN λr h=>hrec e r h) _ h) h
noncomputable def Z4:Code:=f111.body.getD .skip
theorem qbe:ZF Pg [10,17] 111 f111 Z4:=zf call111 func111 rfl mixed
section
variable(v:waA)(s:ai)(t7:Int)(t8:Int)
def vE:aB:=aO 19 [(0,sl cS v),(1,.str s),(7,.int .i64 t7),(8,.int .i64 t8)] [] []
def Cr(o:Int⊕(Unit)):Exit:=match o with
 |(.inl _)=>.ret
 |(.inr _)=>.exit 0
def Cs(o:Int⊕(Unit)):aB:=match o with
 |(.inl o)=>aO 19 [(4,.int .i64 o)] [] []
 |(.inr o)=>aO 19 [] [] []
def lV:Option (Int⊕(Int⊕(Unit))):=
 if decide (t8<t7)=true then
  (ey v t8).bind λx2=>
  if(x2==s)=true then
   some (.inr (.inl t8))
  else
   some (.inl (dp (t8+1)))
 else
  some (.inr (.inr ()))
def zu:Option (Int⊕(Unit)):=loop (λ(zz:Int)=>lV v s t7 zz) t8
theorem IL:OL 0 (cA Z4 55) (lV v s t7 t8) (λ(zz:Int)=>vE v s t7 zz) Cr Cs (vE v s t7 t8):=qbe.l<|
 tF (tb λx2 bx2=>tv (b8.ia (k:=.i64) bx2)<|tv (cw BZ (.str x2) [])<|tF tE<|tE)<|tE
theorem zv:OK 0 (.loop (cA Z4 55)) (zu v s t7 t8) Cr Cs (vE v s t7 t8):=C9 λ_=>IL _ _ _ _
end
def zt(a:waA)(s:ai):Option Int:=
 (zu a s (a.length:Int) 0).bind λo4=>match o4 with
 |(.inl o4)=>
  some o4
 |(.inr o4)=>
  some (-1)
theorem HY{a:waA}{s:ai}:OV 111 [sl cS a,.str s] (zt a s) (λr=>.int .i64 r) []:=qbe.v<|
 ct (b8.ln a)<|t2 (λo4 bo4=>cD (zv a s (a.length:Int) 0 _ bo4)<|tE) λo4 bo4=>cD (zv a s (a.length:Int) 0 _ bo4)<|tE
noncomputable def Z5:Code:=f112.body.getD .skip
theorem ZA:ZF Pg [8,30] 112 f112 Z5:=zf call112 func112 rfl mixed
section
variable(n:Int)(s:ai)(m:Int)(d:Int)
def ui:Option Int:=
 if decide (d<0)=true then
  some (IntKind.i64.wrap (0 - d))
 else
  some d
theorem J4:OU 0 (cA Z5 7926) (ui d) .normal (λo=>[(5,.int .i64 o)]) (aO 31 [(0,.int .i64 n),(3,.str s),(4,.int .i64 m),(5,.int .i64 d)] [] []):=ZA.j<|
 tF tE<|tE
end
section
variable(n:Int)(s:ai)(m:Int)
def Cq:aB:=aO 31 [(0,.int .i64 n),(3,.str s),(4,.int .i64 m)] [] []
def Mw(o:ai):aB:=aO 31 [(0,.int .i64 n),(3,.str o)] [] []
def lU:Option ((ai×Int)⊕(ai)):=
 if(m !=0)=true then
  (re m 10).bind λq3=>
  (ui q3).bind λo5=>
  (sI ([IntKind.u8.wrap (dp (48+o5))]:List Int)).bind λs6=>
  (qax s6 s).bind λs7=>
  (qu .i64 m 10).bind λq8=>
  some (.inl (s7,q8))
 else
  some (.inr s)
def pO:Option ai:=loop (λ(zz:ai×Int)=>lU zz.1 zz.2) (s,m)
theorem IK:OL 0 (cA Z5 247) (lU s m) (λ(zz:ai×Int)=>Cq n zz.1 zz.2) (λ_=>.exit 0) (Mw n) (Cq n s m):=ZA.l<|
 tF (tb λq3 bq3=>tb λo5 bo5=>tb λs6 bs6=>tb λs7 bs7=>tb λq8 bq8=>tv (qbP (P:=Pg) (t:=3) (k:=.i64) bq3)<|jo 0<|cD (J4 n s m q3 _ bo5)<|tv (qfE underlying3 underlying5 (dp (48+o5)))<|tv (qcs.mk' (v:=(PVal.int .u8)) (qfI .u8) ([IntKind.u8.wrap (dp (48+o5))]:List Int) 1 (by kernel_rfl))<|tv (qfD underlying169 underlying9 underlying5 bs6)<|tv (P7 (P:=Pg) (t:=9) bs7)<|tv (KZ (P:=Pg) (t:=3) bq8)<|tE)<|tE
def J5:=rE (s:=(s,m)) λzz=>IK n zz.1 zz.2
end
def Em(n:Int):Option ai:=
 if(n==0)=true then
  some ([48]:ai)
 else
  (pO ([]:ai) n).bind λo9=>
  if decide (n<0)=true then
   (qax ([45]:ai) o9).bind λs11=>
   some s11
  else
   some o9
theorem Qd{n:Int}:OV 112 [.int .i64 n] (Em n) (λr=>.str r) []:=ZA.v<|
 tF tE<|tb λo9 bo9=>cD (J5 n ([]:ai) n _ bo9)<|tF (tb λs11 bs11=>tv (P7 (P:=Pg) (t:=9) bs11)<|tE)<|tE
noncomputable def qev:Code:=f57.body.getD .skip
theorem qeo:ZF Pg [7,18] 57 f57 qev:=zf call57 func57 rfl mixed
section
variable(used:waA)(base:ai)(s:ai)(n:Int)
def zw:aB:=aO 19 [(0,sl cS used),(1,.str base),(5,.str s),(6,.int .i64 n)] [] []
def J6(o:ai):aB:=aO 19 [(5,.str o)] [] []
def cM:Option ((ai×Int)⊕(ai)):=
 (zt used s).bind λr1=>
 if decide (r1>=0)=true then
  (Em n).bind λr3=>
  (qax base r3).bind λs4=>
  some (.inl (s4,dp (n+1)))
 else
  some (.inr s)
def lj:Option ai:=loop (λ(zz:ai×Int)=>cM used base zz.1 zz.2) (s,n)
theorem Gr:OL 0 (cA qev 119) (cM used base s n) (λ(zz:ai×Int)=>zw used base zz.1 zz.2) (λ_=>.exit 0) J6 (zw used base s n):=qeo.l<|
 tb λr1 br1=>bM (HY _ br1)<|tF (tb λr3 br3=>tb λs4 bs4=>bM (Qd _ br3)<|tv (P7 (P:=Pg) (t:=9) bs4)<|tE)<|tE
def IM:=rE (s:=(s,n)) λzz=>Gr used base zz.1 zz.2
end
def mS(used:waA)(base:ai):Option ai:=
 (lj used base base 1).bind λo5=>
 some o5
theorem qW{used:waA}{base:ai}:OV 57 [sl cS used,.str base] (mS used base) (λr=>.str r) []:=qeo.v<|
 tb λo5 bo5=>cD (IM used base base 1 _ bo5)<|tE
abbrev jt:=(ag->ai->ai->Bool->Option ag)
abbrev mQ(R:jt):Prop:=∀(e:ag) (name:ai) (a:ai) (bound:Bool),OV 60 [.agg (ae e),.str name,.str a,.bool bound] (R e name a bound) (λr=>.agg (ae r)) []
open Go
abbrev Mv:=List (Value×List ai)
def Y8(w:World)(v:Value)(ns:List ai):Prop:=
 ∃x cap,v=.slice x ns.length cap/\ns.length<=cap/\(x=none->cap=0)/\(ns=[]\/∃g c t,x=some ⟨g,0,none⟩/\w.heap[g]? =some (.cells c t (0,0))/\ns.length<=c.size/\∀(j:Nat) s,ns[j]? =some s->c[j]? =some (.string ⟨s.toArray⟩))
def Zj:Value×List ai->Option Nat
 |(.slice (some a) _ _,_::_)=>some a.block
 |_=>none
theorem Y8.mv{w w':World}{x:Value×List ai}(h:Y8 w x.1 x.2)(hk:∀b,Zj x=some b->w'.heap[b]? =w.heap[b]?):Y8 w' x.1 x.2:=by
 obtain⟨v,ns⟩:=x
 have h:Y8 w v ns:=h
 show Y8 w' v ns
 obtain⟨x,cap,rfl,h1,h2,h3⟩:=h
 cases ns with
 |nil=>exact⟨x,cap,rfl,h1,h2,.inl rfl⟩
 | cons s ns =>
  rcases h3 with h3|⟨g,c,t,rfl,h4,h5,h6⟩
  ·cases h3
  ·exact⟨_,cap,rfl,h1,h2,.inr ⟨g,c,t,rfl,(hk g rfl).trans h4,h5,h6⟩⟩
structure Vy(E:lh)(Γ:aP)(bs:be)(ow:Nat->Option iL)(w:World)(N:Mv):Prop where
 nm:∀x∈N,Y8 w x.1 x.2
 off:∀x∈N,∀b,Zj x=some b->Γ b=none/\b<w.heap.size/\¬aN bs ow b/\(E.T b\/E.w.heap.size<=b)
 dis:(N.filterMap Zj).Nodup
def iI(P:Program)(E:lh)(bs0:be)(st:aB)(N:Mv)(a:Act)(w:World):Prop:=∃Γ bs ow,SR P E Γ bs ow w a.tmps st/\S8 bs0 bs/\Vy E Γ bs ow w N
def cy(P:Program)(GE:List (Nat×List PVal))(m:Nat)(c:Code)(Q:Exit->aB->Mv->Prop)(st:aB)(N:Mv):Prop:=
 ∀(ro:Option Nat) (E:lh) (bs0:be) (a:Act) (w:World),nj GE m E->bs0.length=m % 1000->iI P E bs0 st N a w->He ro P c (λe a' w'=>a'.defers=a.defers/\∃st' N',iI P E bs0 st' N' a' w'/\Q e st' N') a w
section
variable{P:Program}{E:lh}{Γ Γ':aP}{bs bs' bs0:be}{ow ow':Nat->Option iL}{w w':World}{st st':aB}{N:Mv}{GE:List (Nat×List PVal)}{m m':Nat}{a a':Array Value}{c:Code}
theorem Vy.nil:Vy E Γ bs ow w []:=⟨by simp,by simp,by simp⟩
theorem Vy.go(h:SR P E Γ bs ow w a st)(hp:Vy E Γ bs ow w N)(h':SR P ⟨E.GE,Γ,w,aN bs ow⟩ Γ' bs' ow' w' a' st'):Vy E Γ' bs' ow' w' N where
 nm:=λx hx=>(hp.nm x hx).mv λb hb=>(h'.step.keep b (hp.off x hx b hb).2.1 (hp.off x hx b hb).2.2.1).1
 off:=λx hx b hb=>by
  obtain⟨k1,k2,k3,k4⟩:=hp.off x hx b hb
  exact⟨(h'.step.keep b k2 k3).2.trans k1,vaM k2 h'.step.size,λht=>(h'.touchE ht).elim k3 λh=>absurd k2 (vcW.2 h),k4⟩
 dis:=hp.dis
theorem iI.weak{x:Act}(h:iI P E bs0 st N x w)(hW:sG P m st st')(hm:bs0.length=m % 1000):iI P E bs0 st' N x w:=by
 obtain⟨Γ,bs,ow,h,hk,hp⟩:=h
 obtain⟨Γ',bs',ow',h',hk'⟩:=hW ⟨E.GE,Γ,w,aN bs ow⟩ bs0 x w hm ⟨Γ,bs,ow,h.rebase,hk⟩
 exact⟨Γ',bs',ow',h.unbase h',hk',hp.go h h'⟩
theorem cy.frame{Q:Exit->aB->Prop}(hS:d8 P GE m' c Q st)(hm:m'≠0)(hmm:m' % 1000=m % 1000):cy P GE m c (λe st' N'=>Q e st'/\N'=N) st N:=by
 rintro ro E bs0 a w hE hb ⟨Γ,bs,ow,h,hk,hp⟩
 obtain rfl:=hE.ge
 have hE':nj E.GE m' ⟨E.GE,Γ,w,aN bs ow⟩:={
  ge:=rfl
  low:=λb n hb=>h.lt_of_ghost hb
  nt:=λh0=>absurd h0 hm
  gl:=h.base.gl}
 refine ek (hS ro ⟨E.GE,Γ,w,aN bs ow⟩ bs0 a w hE' (by rw[hb,hmm]) ⟨Γ,bs,ow,h.rebase,hk⟩) λe a' w' hq=>?_
 obtain⟨hd,st',⟨Γ',bs',ow',h',hk'⟩,hQ⟩:=hq
 exact⟨hd,st',N,⟨Γ',bs',ow',h.unbase h',hk',hp.go h h'⟩,hQ,rfl⟩
theorem cy.mono{Q Q':Exit->aB->Mv->Prop}(h:cy P GE m c Q st N)(hq:∀e st N,Q e st N->Q' e st N):cy P GE m c Q' st N:=λro E bs0 a w hE hb hR=>ek (h ro E bs0 a w hE hb hR) λe a' w' hP=>by
 obtain⟨hd,st1,N1,hR1,hQ⟩:=hP
 exact⟨hd,st1,N1,hR1,hq _ _ _ hQ⟩
theorem cy.monoR{Q Q':Exit->aB->Mv->Prop}(h:cy P GE m c Q st N)(hq:∀e st N,Q e st N->∃st' N',Q' e st' N'/\∀(E:lh) (bs0:be) (a:Act) (w:World),bs0.length=m % 1000->iI P E bs0 st N a w->iI P E bs0 st' N' a w):cy P GE m c Q' st N:=λro E bs0 a w hE hb hR=>ek (h ro E bs0 a w hE hb hR) λe a' w' hP=>by
 obtain⟨hd,st1,N1,hR1,hQ⟩:=hP
 obtain⟨st2,N2,h1,h2⟩:=hq _ _ _ hQ
 exact⟨hd,st2,N2,h2 E bs0 a' w' hb hR1,h1⟩
theorem cy.pre{Q:Exit->aB->Mv->Prop}{N':Mv}(h:cy P GE m c Q st' N')(hq:∀(E:lh) (bs0:be) (a:Act) (w:World),bs0.length=m % 1000->iI P E bs0 st N a w->iI P E bs0 st' N' a w):cy P GE m c Q st N:=λro E bs0 a w hE hb hR=>h ro E bs0 a w hE hb (hq E bs0 a w hb hR)
theorem cy.seq{x y:Code}{Q:Exit->aB->Mv->Prop}(h:cy P GE m x (λe st' N'=>match e with|.normal=>cy P GE m y Q st' N'|e=>Q e st' N') st N):cy P GE m (.seq x y) Q st N:=by
 intro ro E bs0 a w hE hb hR
 refine BC (ek (h ro E bs0 a w hE hb hR) λe a' w' hq=>?_)
 obtain⟨hd,st',N',hR',hq⟩:=hq
 cases e with
 |normal=>
  have:=hq ro E bs0 a' w' hE hb hR'
  rw[hd]at this
  exact this
 |exit id=>exact⟨hd,st',N',hR',hq⟩
 |goto l=>exact⟨hd,st',N',hR',hq⟩
 |ret=>exact⟨hd,st',N',hR',hq⟩
 |panic c=>exact⟨hd,st',N',hR',hq⟩
 |outgrown=>exact⟨hd,st',N',hR',hq⟩
end
def AF(z:Nat):aA->Prop
 |.cells cs _=>BI z cs
 |.map l=>∀x∈l,x.1.no z/\x.2.no z
 |.dead=>True
theorem BR.noi{Γ:aP}{bs bs':be}{w:World}{B:aA}{b n:Nat}(h:BR Γ bs w B b)(hc:AF n B)(hb:∀(i b:Nat),i≠n->bs[i]? =some (some b)->bs'[i]? =some (some b)):BR Γ bs' w B b:=by
 cases B with
 |cells cs own=>
  obtain⟨c,t,h1,h2,h3,h4⟩:=h
  exact⟨c,t,h1,h2,λj p v hp hv=>(h3 j p v hp hv).noi (gQ hc hp) hb,h4⟩
 |map es=>
  obtain⟨c,t,h1,h2,h3,h4⟩:=h
  exact⟨c,t,h1,h2,λj k u x hp hv=>⟨(h3 j k u x hp hv).1.noi (hc _ (vaA hp)).1 hb,(h3 j k u x hp hv).2.noi (hc _ (vaA hp)).2 hb⟩,h4⟩
 |dead=>trivial
theorem Tw{ns:List ai}{j:Nat}{p:PVal}(h:(aV cS ns)[j]? =some p):∃s,ns[j]? =some s/\p=.str s:=by
 induction ns generalizing j with
 |nil=>simp[aV]at h
 |cons s ns ih=>
  have e:aV cS (s::ns)=.str s::aV cS ns:=rfl
  rw[e]at h
  cases j with
  |zero=>simp at h;exact⟨s,rfl,h.symm⟩
  |succ j=>simp only[List.getElem?_cons_succ]at h ⊢;exact ih h
theorem Tx(ns:List ai):(aV cS ns).length=ns.length:=by
 induction ns with
 |nil=>rfl
 |cons s ns ih=>rw[show aV cS (s::ns)=.str s::aV cS ns from rfl,vau,ih];rfl
section
variable{P:Program}{E:lh}{bs0:be}{w:World}{st:aB}{N:Mv}{x:Act}
theorem iI.thaw{z r j:Nat}{v:Value}{ns:List ai}{cs:List PVal}(h:iI P E bs0 st ((v,ns)::N) x w)(hz:st.boxes[z]? =some .dead)(hbz:bs0.length<=z)(hrz:r≠z)(hr:st.boxes[r]? =some (.cells cs []))(hj:cs[j]? =some (.val v))(hnt:BI z st.tmps)(hnb:∀(i:Nat) B,st.boxes[i]? =some B->AF z B):iI P E bs0 ⟨st.tmps,(st.boxes.set r (.cells (cs.set j (.bsl z 0 ns.length)) [])).set z (.cells (aV cS ns) []),st.own⟩ N x w:=by
 obtain⟨Γ,bs,ow,h,hk,hp⟩:=h
 have hzl:z<bs.length:=by rw[h.bl];exact aq hz
 have hzl':z<st.boxes.length:=aq hz
 obtain⟨ad,cap,e0,hcap,hnil,hcase⟩:=show Y8 w v ns from hp.nm (v,ns) (by simp)
 obtain⟨ob,hob,hbl⟩:∃ob:Option Nat,(∀g,ob=some g->Zj (v,ns)=some g/\∃c t,w.heap[g]? =some (.cells c t (0,0))/\ns.length<=c.size/\∀(j:Nat) s,ns[j]? =some s->c[j]? =some (.string ⟨s.toArray⟩))/\(ns.length=0\/∃g,ad=some ⟨g,0,none⟩/\ob=some g):=by
  cases ns with
  |nil=>exact⟨none,λg hg=>(by cases hg),.inl rfl⟩
  | cons s ns =>
   rcases hcase with hc|⟨g,c,t,rfl,h4,h5,h6⟩
   ·cases hc
   ·refine⟨some g,λg' hg=>?_,.inr ⟨g,rfl,rfl⟩⟩
    cases hg
    exact⟨by rw[e0];rfl,c,t,h4,h5,h6⟩
 have hoff:∀g,ob=some g->Γ g=none/\g<w.heap.size/\¬aN bs ow g/\(E.T g\/E.w.heap.size<=g):=λg hg=>hp.off (v,ns) (by simp) g (hob g hg).1
 have hsub:∀(i b:Nat),i≠z->bs[i]? =some (some b)->(bs.set z ob)[i]? =some (some b):=λi b hi hb=>by rw[vai (λe=>hi e.symm)];exact hb
 have hback:∀{i b:Nat},(bs.set z ob)[i]? =some (some b)->(i=z/\ob=some b)\/(i≠z/\bs[i]? =some (some b)):=λ{i b} hb=>by
  by_cases hi:i=z
  ·subst hi
   rw[vae hzl]at hb
   exact .inl ⟨rfl,vbb hb⟩
  ·rw[vai (λe=>hi e.symm)]at hb
   exact .inr ⟨hi,hb⟩
 have hbox:∀{i:Nat} {B:aA},i≠z->((st.boxes.set r (.cells (cs.set j (.bsl z 0 ns.length)) [])).set z (.cells (aV cS ns) []))[i]? =some B->(i=r/\B=.cells (cs.set j (.bsl z 0 ns.length)) [])\/(i≠r/\st.boxes[i]? =some B):=λ{i B} hi hB=>by
  rw[vai (λe=>hi e.symm)]at hB
  by_cases hir:i=r
  ·subst hir
   rw[vae (aq hr)]at hB
   exact .inl ⟨rfl,(vbb hB).symm⟩
  ·rw[vai (λe=>hir e.symm)]at hB
   exact .inr ⟨hir,hB⟩
 have hbxz:((st.boxes.set r (.cells (cs.set j (.bsl z 0 ns.length)) [])).set z (.cells (aV cS ns) []))[z]? =some (.cells (aV cS ns) []):=vae (by simpa using hzl')
 have hvr:VR Γ (bs.set z ob) w (.bsl z 0 ns.length) v:=by
  rw[e0]
  refine .bsl z 0 ns.length ad cap hcap hnil ?_
  rcases hbl with h0|⟨g,h1,h2⟩
  ·exact .inl h0
  ·exact .inr ⟨g,h1,by rw[vae hzl,h2]⟩
 refine⟨Γ,bs.set z ob,ow,?_,λi hi=>?_,?_⟩
 ·exact {
   wi:=h.wi
   sz:=h.sz
   tm:=λt p u hp hu=>(h.tm t p u hp hu).noi (gQ hnt hp) hsub
   bl:=by simp[h.bl]
   bx:=λi b B hb hB=>by
    rcases hback hb with⟨rfl,hg⟩|⟨hi,hb⟩
    ·rw[hbxz]at hB
     cases hB
     obtain⟨k1,k2,k3,k4⟩:=hoff b hg
     obtain⟨_,c,t,e1,e2,e3⟩:=hob b hg
     refine⟨k1,k2,c,t,e1,by rw[Tx];exact e2,λq p u hp hu=>?_,λq i2 T2 hq=>?_⟩
     ·obtain⟨s,hs,rfl⟩:=Tw hp
      rw[e3 q s hs]at hu
      cases hu
      exact .str s
     ·obtain⟨s,hs,e⟩:=Tw hq
      cases e
    ·rcases hbox hi hB with⟨rfl,rfl⟩|⟨hir,hB⟩
     ·obtain⟨k1,k2,c,t,e1,e2,e3,e4⟩:=h.bx i b _ hb hr
      refine⟨k1,k2,c,t,e1,by simpa using e2,λq p u hp hu=>?_,λq i2 T2 hq=>?_⟩
      ·rw[vbc]at hp
       by_cases hqj:j=q
       ·subst hqj
        rw[vah rfl,vah (aq hj)]at hp
        cases hp
        have hx:=e3 j (.val v) u hj hu
        cases hx
        exact hvr
       ·rw[van hqj]at hp
        exact(e3 q p u hp hu).noi (gQ (hnb i _ hr) hp) hsub
      ·rw[vbc]at hq
       by_cases hqj:j=q
       ·subst hqj
        rw[vah rfl,vah (aq hj)]at hq
        cases hq
       ·rw[van hqj]at hq
        have:=e4 q i2 T2 hq
        exact⟨this.1,by simpa using this.2⟩
     ·obtain⟨k1,k2,k3⟩:=h.bx i b B hb hB
      exact⟨k1,k2,k3.noi (hnb i B hB) hsub⟩
   inj:=λi k b hi hk=>by
    rcases hback hi with⟨rfl,h1⟩|⟨h1,h2⟩<;>rcases hback hk with⟨rfl,h3⟩|⟨h3,h4⟩
    ·rfl
    ·exact absurd (.inl ⟨k,h4⟩) (hoff b h1).2.2.1
    ·exact absurd (.inl ⟨i,h2⟩) (hoff b h3).2.2.1
    ·exact h.inj i k b h2 h4
   bn:=λi b hb=>by
    rcases hback hb with⟨_,hg⟩|⟨_,hb⟩
    ·exact(hoff b hg).2.2.2
    ·exact h.bn i b hb
   on:=h.on
   ot:=h.ot
   ob:=λi q e cs' own b hB hm hb=>by
    by_cases hi:i=z
    ·subst hi
     rw[hbxz]at hB
     cases hB;cases hm
    ·rcases hbox hi hB with⟨rfl,hx⟩|⟨hir,hB⟩
     ·cases hx;cases hm
     ·rcases hback hb with⟨e,_⟩|⟨_,hb⟩
      ·exact absurd e hi
      ·exact h.ob i q e cs' own b hB hm hb
   gl:=λg cs hg=>(h.gl g cs hg).clo (by simp only[PVal.cl];exact h.gc g cs hg)
   gc:=h.gc
   gx:=h.gx
   step:=h.step}
 ·rw[vai (by omega)]
  exact hk i hi
 ·refine⟨λy hy=>hp.nm y (.tail _ hy),λy hy b hb=>?_,?_⟩
  ·obtain⟨k1,k2,k3,k4⟩:=hp.off y (.tail _ hy) b hb
   refine⟨k1,k2,λht=>?_,k4⟩
   rcases ht with⟨i,hi⟩|ht
   ·rcases hback hi with⟨_,hg⟩|⟨_,hi⟩
    ·have hd:=hp.dis
     rw[List.filterMap_cons,(hob b hg).1]at hd
     exact(vbu.1 hd).1 (vbA.2 ⟨y,hy,hb⟩)
    ·exact k3 (.inl ⟨i,hi⟩)
   ·exact k3 (.inr ht)
  ·have hd:=hp.dis
   rw[List.filterMap_cons]at hd
   split at hd
   ·exact hd
   ·exact(vbu.1 hd).2
theorem On.of{i:Nat}{es:List (List PVal)}:∀{l r:List PVal},l.length=r.length->(∀(j:Nat) p q,l[j]? =some p->r[j]? =some q->Fz i es p q)->On i es l r
 |[],[],_,_=>trivial
 |[],_::_,h,_=>by cases h
 |_::_,[],h,_=>by cases h
 |p::l,q::r,h,hx=>⟨hx 0 p q rfl rfl,On.of (by simpa using h) λj p' q' hp hq=>hx (j+1) p' q' (by simpa using hp) (by simpa using hq)⟩
theorem Ek.of{i:Nat}{es:List (List PVal)}:∀{l r:List aA},l.length=r.length->(∀(j:Nat) p q,l[j]? =some p->r[j]? =some q->XF i es p q)->Ek i es l r
 |[],[],_,_=>trivial
 |[],_::_,h,_=>by cases h
 |_::_,[],h,_=>by cases h
 |p::l,q::r,h,hx=>⟨hx 0 p q rfl rfl,Ek.of (by simpa using h) λj p' q' hp hq=>hx (j+1) p' q' (by simpa using hp) (by simpa using hq)⟩
theorem XF.no{i:Nat}{es:List (List PVal)}{B:aA}(h:AF i B):XF i es B B:=by
 cases B with
 |cells cs own=>exact .k cs own h
 |map l=>exact .m l h
 |dead=>exact .d _
theorem iI.freeze{z r j:Nat}{ns:List ai}{cs:List PVal}(h:iI P E bs0 st N x w)(hz:st.boxes[z]? =some (.cells (aV cS ns) []))(hbz:bs0.length<=z)(hbm:bs0.length<1000)(hrz:r≠z)(hr:st.boxes[r]? =some (.cells cs []))(hj:cs[j]? =some (.bsl z 0 ns.length))(hno:∀(k:Nat) p,k≠j->cs[k]? =some p->p.no z)(hnt:BI z st.tmps)(hnb:∀(i:Nat) B,i≠r->i≠z->st.boxes[i]? =some B->AF z B):iI P E bs0 ⟨st.tmps,(st.boxes.set r (.cells (cs.set j (sl cS ns)) [])).set z .dead,st.own⟩ N x w:=by
 refine h.weak (m:=bs0.length) (FZ.weak (i:=z) (es:=ns.map cS) ?_) (by rw[vbK hbm])
 have hfix:∀x∈ns.map cS,x.length=1:=λx hx=>by obtain⟨s,_,rfl⟩:=vag.1 hx;rfl
 refine⟨⟨by rw[vbK hbm];exact hbz,1,Nat.one_pos,hfix⟩,?_,⟨[],hz⟩,?_,?_,?_,λx hx=>hx⟩
 ·refine s9 z _ (JL λp hp=>?_)
  obtain⟨s,_,rfl⟩:=vag.1 hp
  exact⟨vzz,vzz⟩
 ·exact vae (by simpa using aq hz)
 ·exact On.of rfl λk p q hp hq=>by rw[hp]at hq;cases hq;exact .k p (gQ hnt hp)
 ·refine Ek.of (by simp) λk p q hp hq=>?_
  rw[vbc]at hq
  by_cases hkz:z=k
  ·subst hkz
   rw[vah rfl]at hq
   split at hq
   ·cases hq;exact .d _
   ·cases hq
  ·rw[van hkz,vbc]at hq
   by_cases hkr:r=k
   ·subst hkr
    rw[vah rfl,vah (aq hr)]at hq
    rw[hr]at hp
    cases hp;cases hq
    refine .c _ _ _ (On.of (by simp) λq p p' hp hp'=>?_)
    rw[vbc]at hp'
    by_cases hqj:j=q
    ·subst hqj
     rw[vah rfl,vah (aq hj)]at hp'
     rw[hj]at hp
     cases hp;cases hp'
     exact .s _ (by simp)
    ·rw[van hqj,hp]at hp'
     cases hp'
     exact .k p (hno q p (λe=>hqj e.symm) hp)
   ·rw[van hkr,hp]at hq
    cases hq
    exact .no (hnb k p (λe=>hkr e.symm) (λe=>hkz e.symm) hp)
end
def Ul:Nat->Code->Code
 |0,_=>.skip
 |k+1,.seq a b=>.seq a (Ul k b)
 |_+1,c=>c
def Ib:Nat->Code->Code
 |0,c=>c
 |k+1,.seq _ b=>Ib k b
 |_+1,c=>c
def YZ:Nat->Code->Bool
 |0,_=>true
 |k+1,.seq _ b=>YZ k b
 |_+1,_=>false
def KO(P:Program)(GE:List (Nat×List PVal))(m:Nat):Nat->Code->(aB->Prop)->aB->Prop
 |0,_,R,st=>R st
 |k+1,.seq a b,R,st=>d8 P GE m a (λe st'=>match e with|.normal=>∃st'',sG P m st' st''/\KO P GE m k b R st''|_=>False) st
 |_+1,_,_,_=>False
section
variable{P:Program}{GE:List (Nat×List PVal)}{A:List Nat}{m m':Nat}{R:Type}
theorem Tq(hf:P.follows .mixedOrders=true){r:R}:∀(k:Nat) (c:Code) (t:Tr R) (st:aB) (K:Exit->Tr R->aB->Prop),YZ k c=true->t.val=some r->(∀e t st,e≠.normal->t.val=some r->¬K e t st)->wx P GE A m (Ul k c) t st K->KO P GE m k c (λst'=>∃t':Tr R,t'.val=some r/\K .normal t' st') st
 |0,c,t,st,K,_,hv,_,h=>⟨t,hv,by simpa only[Ul,wx]using h⟩
 | k + 1,.seq a b,t,st,K,hs,hv,hK,h => by
  simp only[Ul,wx]at h
  obtain⟨t1,v1,h⟩:=Tr.go_ok hv h
  have aft:∀(e:Exit) (t':Tr R) (st':aB),t'.val=some r->(match e with|.normal=>t'.go (λt=>Lk m t st' λt st=>wx P GE A m (Ul k b) t st K)|e=>K e t' st')->(match e with|.normal=>∃st'',sG P m st' st''/\KO P GE m k b (λst'=>∃t':Tr R,t'.val=some r/\K .normal t' st') st''|_=>False):=by
   intro e t' st' hv' hx
   cases e with
   |normal=>
    obtain⟨t2,v2,hx⟩:=Tr.go_ok hv' hx
    obtain⟨t3,st3,v3,hw,hx⟩:=JS (P:=P) hx
    exact⟨st3,hw,Tq hf k b t3 st3 K hs (v3.trans v2) hK hx⟩
   |exit id=>exact hK _ _ _ (by simp) hv' hx
   |goto l=>exact hK _ _ _ (by simp) hv' hx
   |ret=>exact hK _ _ _ (by simp) hv' hx
   |panic c=>exact hK _ _ _ (by simp) hv' hx
   |outgrown=>exact hK _ _ _ (by simp) hv' hx
  show d8 P GE m a _ st
  split at h
  ·rename_i st0 e st1 t'
   obtain⟨h1,h2,h3⟩:=h
   refine d8.weak h1.weak (EX.of h2 ?_)
   have:=aft e t' st1 v1 h3
   cases e<;>exact this
  ·exact(eo hf a _ st _ (by exact v1) h).imp λe st' hx=>by
    obtain⟨t',hv',hx⟩:=hx
    have:=aft e t' st' hv' hx
    cases e<;>exact this
  ·exact(eo hf a _ st _ v1 h).imp λe st' hx=>by
    obtain⟨t',hv',hx⟩:=hx
    have:=aft e t' st' hv' hx
    cases e<;>exact this
theorem KO.mono:∀{k:Nat} {c:Code} {X Y:aB->Prop} {st:aB},KO P GE m k c X st->(∀st,X st->Y st)->KO P GE m k c Y st
 |0,_,_,_,_,h,hq=>hq _ h
 |k+1,.seq a b,X,Y,st,h,hq=>d8.imp (show d8 P GE m a _ st from h) λe st' hx=>by
  cases e with
  |normal=>obtain⟨st'',h1,h2⟩:=hx;exact⟨st'',h1,KO.mono h2 hq⟩
  |_=>exact hx
theorem KO.x(hm:m'≠0)(hmm:m' % 1000=m % 1000){Q:Exit->aB->Mv->Prop}{N:Mv}:∀{k:Nat} {c:Code} {X:aB->Prop} {st:aB},KO P GE m' k c X st->(∀st',X st'->cy P GE m (Ib k c) Q st' N)->cy P GE m c Q st N
 |0,_,_,_,h,hq=>hq _ h
 | k + 1,.seq a b,X,st,h,hq => cy.seq <| (cy.frame (m:=m) (N:=N) (show d8 P GE m' a _ st from h) hm hmm).mono fun e st' N' hx => by
  obtain⟨hx,rfl⟩:=hx
  cases e with
  |normal=>
   obtain⟨st'',h1,h2⟩:=hx
   exact(KO.x hm hmm h2 hq).pre λE bs0 a w hb hR=>hR.weak h1 (by rw[hb,hmm])
  |_=>exact hx.elim
end
def Y9(P:Program)(GE:List (Nat×List PVal))(m k:Nat)(c:Code){X:Type}(o:Option X)(so:X->aB)(st:aB):Prop:=∀x:X,o=some x->YZ k c=true/\KO P GE m k c (λst'=>sG P m st' (so x)) st
section
variable{P:Program}{A:List Nat}{f:FuncId}{fn:Func}{c0 c:Code}{m m':Nat}{st:aB}{X:Type}{so:X->aB}{F:Prop}{GE:List (Nat×List PVal)}{k:Nat}{o:Option X}
theorem ZF.cut(g:ZF P A f fn c0){t:Tr X}(z:PV (LJ (λ_=>.normal) so) o t F)(hs:YZ k c=true:=by kernel_rfl)(he:F=wx P GE A m (Ul k c) t st (KJ (λ_=>.normal) so):=by kernel_rfl):Y9 P GE m k c o so st:=λx h=>by
 have hF:=z.2 λr=>⟨rfl,Mt.ok _⟩
 rw[he]at hF
 refine⟨hs,(Tq g.2.2.2.1 k c t st _ hs (z.1.trans h) (λe t st hne hv hx=>?_) hF).mono λst' hx=>?_⟩
 ·exact hne (KJ.at hv hx).1.symm
 ·obtain⟨t',v',hx⟩:=hx
  exact(KJ.at v' hx).2.weak
theorem ZF.jf(g:ZF P A f fn c0){e:Exit}{t:Tr X}(z:PV (LJ (λ_=>e) so) o t F)(he:F=t.go λt=>Lk m t st λt st=>wx P GE A m c t st (KJ (λ_=>e) so):=by kernel_rfl):qaS P GE m c o e so st:=λx h=>by
 have hF:=z.2 λr=>⟨rfl,Mt.ok _⟩
 rw[he]at hF
 obtain⟨t1,v1,hF⟩:=Tr.go_ok (z.1.trans h) hF
 obtain⟨t2,st2,v2,hw,hF⟩:=JS (P:=P) hF
 exact d8.weak hw ((eo g.2.2.2.1 c t2 st2 _ (v2.trans v1) hF).mono λe st' hx=>by
  obtain⟨t',v',hx⟩:=hx
  have hx:=KJ.at v' hx
  exact⟨so x,hx.2.weak,hx.1.symm,rfl⟩)
theorem Y9.x(h:Y9 P GE m' k c o so st){x:X}(ho:o=some x)(hm:m'≠0)(hmm:m' % 1000=m % 1000){Q:Exit->aB->Mv->Prop}{N:Mv}(hn:cy P GE m (Ib k c) Q (so x) N):cy P GE m c Q st N:=
 (h x ho).2.x hm hmm λst' hw=>hn.pre λE bs0 a w hb hR=>hR.weak hw (by rw[hb,hmm])
end
structure pQ where
 Con:ai
 NV:Value
 Body:ag
def cQ(x:pQ):List PVal:=.str x.Con::.val x.NV::ae x.Body
theorem Bz(x:pQ):gZ 0 (cQ x):=⟨vzz,vzz,a8 x.Body⟩
structure dD where
 Con:ai
 NV:PVal
 Body:ag
def bp(x:dD):List PVal:=.str x.Con::x.NV::ae x.Body
def Vo(z:Nat):PVal->Option Nat
 |.bsl i 0 n=>if i=z then some n else none
 |_=>none
theorem V1{z n:Nat}{p:PVal}(h:Vo z p=some n):p=.bsl z 0 n:=by
 unfold Vo at h
 split at h
 ·split at h
  ·rename_i e;cases h;rw[e]
  ·cases h
 ·cases h
theorem BE(x:dD):(bp x).length=9:=by
 show(ae x.Body).length+1+1=9
 rw[kh]
theorem WA(x:dD):(bp x).length=Pg.cellsOf 89:=(BE x).trans (by kernel_rfl)
theorem gj:RI Pg 25 89 bp:=⟨underlying25,WA,by kernel_rfl⟩
theorem mK(x:dD):1<=(bp x).length:=by rw[BE];decide
theorem Lw(x:dD):2<=(bp x).length:=by rw[BE];decide
theorem Sx{x:dD}{n:Nat}(h:Vo 5 x.NV=some n)(r:List PVal):aY Pg 38 ((bp x).drop 1++r)=some (.bsl 5 0 n):=by
 show aY Pg 38 (x.NV::(ae x.Body++r))=_
 rw[V1 h]
 kernel_rfl
theorem CU(x:dD)(r:List PVal):aY Pg 28 ((bp x).drop 2++r)=some (.agg (ae x.Body)):=mW x.Body r
theorem Dd(x:dD)(v:ag):qba Pg bp 2 28 x (⟨x.Con,x.NV,v⟩:dD) (.agg (ae v)):=by
 refine⟨ae v,rfl,?_,by kernel_rfl,BM v,?_,?_⟩
 ·rw[kh];kernel_rfl
 ·show PVal.str x.Con::x.NV::ae v=_
  have e:(bp x).drop (2+(ae v).length)=[]:=vbJ (by rw[BE,kh];decide)
  rw[e]
  simp[bp]
 ·rw[BE,kh];decide
theorem WY{x:dD}(h:x.NV.one=true):∀q∈bp x,q.one=true:=λq hq=>by
 rcases vaB.1 hq with rfl|hq
 ·rfl
 ·rcases vaB.1 hq with rfl|hq
  ·exact h
  ·exact BM x.Body q hq
theorem RI.stR{P:Program}{T e:TypeId}{α:Type}{c:α->List PVal}(s:RI P T e c){l r:List α}{i:Int}{x:α}(ho:∀q∈c x,q.one=true)(h:IJ l i x=some r):di P e (.bptr 0 (kV P e i)) (.agg (c x)) [.cells (aV c l) []]=some [.cells (aV c r) []]:=by
 obtain⟨h0,h1,rfl⟩:=Mp h
 obtain⟨_,h2⟩:=rS (P:=P) (e:=e) s.hc (vab h1)
 have hlen:=s.flat_len l
 have hle:i.toNat * P.cellsOf e+P.cellsOf e<=l.length * P.cellsOf e:=by
  have:=vaY (P.cellsOf e) h1
  rw[vcT]at this;exact this
 unfold di
 simp only[show cj (.agg (c x))=some (c x)from rfl,List.getElem?_cons_zero,kV,vaI]
 rw[vah ⟨s.hc x,s.hi,by rw[s.hc x];omega,vas.2 ho⟩,h2,s.hc x]
 simp
theorem Ya(c:ai)(k n:Nat)(b:ag):dh Pg 89 [(0,.str c),(1,.bsl k 0 n),(2,.agg (ae b))]=some (.agg (bp ⟨c,.bsl k 0 n,b⟩)):=by
 show _=some (PVal.agg (.str c::.bsl k 0 n::ae b))
 rw[bz]
 kernel_rfl
def zB:dD:=⟨[],.slice [],⟨0,[],0,[],[],[],[]⟩⟩
def qch(n:Nat):Option Nat:=if n<=bo then some n else none
theorem Yx{m n:Nat}(h:qch m=some n):(Pg.underlying 25=some (.slice 89))/\((m:Int)=(n:Int)/\(m:Int)=(n:Int)/\n<=bo)/\aV bp (List.replicate n zB)=(List.replicate n [.str [],.slice [],.int .i64 0,.str [],.int .i64 0,.slice [],.slice [],.slice [],.slice []]).flatten:=by
 unfold qch at h
 split at h
 ·rename_i hn
  cases h
  refine⟨underlying25,⟨rfl,rfl,hn⟩,?_⟩
  unfold aV
  rw[List.map_replicate]
  have e:bp zB=[.str [],.slice [],.int .i64 0,.str [],.int .i64 0,.slice [],.slice [],.slice [],.slice []]:=by
   show PVal.str []::PVal.slice []::ae _=_
   rw[bz];rfl
  rw[e]
 ·cases h
end Go.Proofs.YtkdahfeiedaahaaGreatDoor
