/- PROVED: a part of the proof. Conditions: none. -/
import Derived.Test.YtankopenjcbeeaaGreatDoords15
set_option linter.unusedSimpArgs false
set_option linter.unusedVariables false
noncomputable section
namespace Go.Proofs.YtankopenjcbeeaaGreatDoor
open Go Go.Proofs.Tryz
set_option linter.unusedVariables false
set_option maxRecDepth 100000
noncomputable def Mp:Code:=f201.body.getD .skip
def YY:List Nat:=[122,134,154]
theorem OM:ZF Pg YY 201 f201 Mp:=zf call201 func201 rfl mixed
section
variable(e:am)(ok:Bool)(m:Bool)(m2:Bool)(m3:Int)(m4:Int)(m5:Bool)(m6:Bool)(m7:Int)(m8:Int)(m9:Bool)
def Cc:Option Bool:=
 if (!m) = true then
  if(e.N !=0)=true then
   some true
  else if(!m2)=true then
   if(!(e.Name==([]:ac)))=true then
    some true
   else if(m4==0)=true then
    if decide ((e.Kids.length:Int)>0)=true then
     some true
    else if(!m5)=true then
     if decide ((e.Params.length:Int)>0)=true then
      some true
     else if(!m6)=true then
      if decide ((e.Alts.length:Int)>0)=true then
       some true
      else if(!m9)=true then
       some (decide ((e.Types.length:Int)>0))
      else
       some false
     else if(!m9)=true then
      some (decide ((e.Types.length:Int)>0))
     else
      some false
    else if(!m6)=true then
     if decide ((e.Alts.length:Int)>0)=true then
      some true
     else if(!m9)=true then
      some (decide ((e.Types.length:Int)>0))
     else
      some false
    else if(!m9)=true then
     some (decide ((e.Types.length:Int)>0))
    else
     some false
   else if(!m5)=true then
    if decide ((e.Params.length:Int)>0)=true then
     some true
    else if(!m6)=true then
     if decide ((e.Alts.length:Int)>0)=true then
      some true
     else if(!m9)=true then
      some (decide ((e.Types.length:Int)>0))
     else
      some false
    else if(!m9)=true then
     some (decide ((e.Types.length:Int)>0))
    else
     some false
   else if(!m6)=true then
    if decide ((e.Alts.length:Int)>0)=true then
     some true
    else if(!m9)=true then
     some (decide ((e.Types.length:Int)>0))
    else
     some false
   else if(!m9)=true then
    some (decide ((e.Types.length:Int)>0))
   else
    some false
  else if(m4==0)=true then
   if decide ((e.Kids.length:Int)>0)=true then
    some true
   else if(!m5)=true then
    if decide ((e.Params.length:Int)>0)=true then
     some true
    else if(!m6)=true then
     if decide ((e.Alts.length:Int)>0)=true then
      some true
     else if(!m9)=true then
      some (decide ((e.Types.length:Int)>0))
     else
      some false
    else if(!m9)=true then
     some (decide ((e.Types.length:Int)>0))
    else
     some false
   else if(!m6)=true then
    if decide ((e.Alts.length:Int)>0)=true then
     some true
    else if(!m9)=true then
     some (decide ((e.Types.length:Int)>0))
    else
     some false
   else if(!m9)=true then
    some (decide ((e.Types.length:Int)>0))
   else
    some false
  else if(!m5)=true then
   if decide ((e.Params.length:Int)>0)=true then
    some true
   else if(!m6)=true then
    if decide ((e.Alts.length:Int)>0)=true then
     some true
    else if(!m9)=true then
     some (decide ((e.Types.length:Int)>0))
    else
     some false
   else if(!m9)=true then
    some (decide ((e.Types.length:Int)>0))
   else
    some false
  else if(!m6)=true then
   if decide ((e.Alts.length:Int)>0)=true then
    some true
   else if(!m9)=true then
    some (decide ((e.Types.length:Int)>0))
   else
    some false
  else if(!m9)=true then
   some (decide ((e.Types.length:Int)>0))
  else
   some false
 else if(!m2)=true then
  if(!(e.Name==([]:ac)))=true then
   some true
  else if(m4==0)=true then
   if decide ((e.Kids.length:Int)>0)=true then
    some true
   else if(!m5)=true then
    if decide ((e.Params.length:Int)>0)=true then
     some true
    else if(!m6)=true then
     if decide ((e.Alts.length:Int)>0)=true then
      some true
     else if(!m9)=true then
      some (decide ((e.Types.length:Int)>0))
     else
      some false
    else if(!m9)=true then
     some (decide ((e.Types.length:Int)>0))
    else
     some false
   else if(!m6)=true then
    if decide ((e.Alts.length:Int)>0)=true then
     some true
    else if(!m9)=true then
     some (decide ((e.Types.length:Int)>0))
    else
     some false
   else if(!m9)=true then
    some (decide ((e.Types.length:Int)>0))
   else
    some false
  else if(!m5)=true then
   if decide ((e.Params.length:Int)>0)=true then
    some true
   else if(!m6)=true then
    if decide ((e.Alts.length:Int)>0)=true then
     some true
    else if(!m9)=true then
     some (decide ((e.Types.length:Int)>0))
    else
     some false
   else if(!m9)=true then
    some (decide ((e.Types.length:Int)>0))
   else
    some false
  else if(!m6)=true then
   if decide ((e.Alts.length:Int)>0)=true then
    some true
   else if(!m9)=true then
    some (decide ((e.Types.length:Int)>0))
   else
    some false
  else if(!m9)=true then
   some (decide ((e.Types.length:Int)>0))
  else
   some false
 else if(m4==0)=true then
  if decide ((e.Kids.length:Int)>0)=true then
   some true
  else if(!m5)=true then
   if decide ((e.Params.length:Int)>0)=true then
    some true
   else if(!m6)=true then
    if decide ((e.Alts.length:Int)>0)=true then
     some true
    else if(!m9)=true then
     some (decide ((e.Types.length:Int)>0))
    else
     some false
   else if(!m9)=true then
    some (decide ((e.Types.length:Int)>0))
   else
    some false
  else if(!m6)=true then
   if decide ((e.Alts.length:Int)>0)=true then
    some true
   else if(!m9)=true then
    some (decide ((e.Types.length:Int)>0))
   else
    some false
  else if(!m9)=true then
   some (decide ((e.Types.length:Int)>0))
  else
   some false
 else if(!m5)=true then
  if decide ((e.Params.length:Int)>0)=true then
   some true
  else if(!m6)=true then
   if decide ((e.Alts.length:Int)>0)=true then
    some true
   else if(!m9)=true then
    some (decide ((e.Types.length:Int)>0))
   else
    some false
  else if(!m9)=true then
   some (decide ((e.Types.length:Int)>0))
  else
   some false
 else if(!m6)=true then
  if decide ((e.Alts.length:Int)>0)=true then
   some true
  else if(!m9)=true then
   some (decide ((e.Types.length:Int)>0))
  else
   some false
 else if(!m9)=true then
  some (decide ((e.Types.length:Int)>0))
 else
  some false
theorem GR:OJ 0 (cA Mp 14) (Cc e m m2 m4 m5 m6 m9) .normal (λo=>aM 156 [(1,.eptr (aj e)),(3,.bptr 1 0),(4,.bool ok),(5,.bool o)] [.dead,.cells [.bool m,.bool m2,.int .i64 m3,.int .i64 m4,.bool m5,.bool m6,.int .i64 m7,.int .i64 m8,.bool m9] []] []) (aM 156 [(1,.eptr (aj e)),(3,.bptr 1 0),(4,.bool ok)] [.dead,.cells [.bool m,.bool m2,.int .i64 m3,.int .i64 m4,.bool m5,.bool m6,.int .i64 m7,.int .i64 m8,.bool m9] []] []):=OM.j<|
 tf (λc2=>have pp4:=λ{X Y Z} (r:PV _ X Y Z)=>ts<|tg 4 c2<|tw (cq e)<|r;tf (λc3=>pp4<|tg 9 c3<|tE) λc3=>have pp6:=λ{X Y Z} (r:PV _ X Y Z)=>pp4<|tg 9 c3<|ts<|r;tf (λc5=>have pp8:=λ{X Y Z} (r:PV _ X Y Z)=>pp6<|tg 13 c5<|tw (bM e)<|r;tf (λc7=>pp8<|tg 19 c7<|tE) λc7=>have pp10:=λ{X Y Z} (r:PV _ X Y Z)=>pp8<|tg 19 c7<|ts<|r;tf (λc9=>have pp12:=λ{X Y Z} (r:PV _ X Y Z)=>pp10<|tg 23 c9<|tw (az e)<|cb (fU.ln e.Kids)<|r;tf (λc11=>pp12<|tg 30 c11<|tE) λc11=>have pp14:=λ{X Y Z} (r:PV _ X Y Z)=>pp12<|tg 30 c11<|ts<|r;tf (λc13=>have pp16:=λ{X Y Z} (r:PV _ X Y Z)=>pp14<|tg 34 c13<|tw (aW e)<|cb (tV.ln e.Params)<|r;tf (λc15=>pp16<|tg 41 c15<|tE) λc15=>have pp18:=λ{X Y Z} (r:PV _ X Y Z)=>pp16<|tg 41 c15<|ts<|r;tf (λc17=>have pp20:=λ{X Y Z} (r:PV _ X Y Z)=>pp18<|tg 45 c17<|tw (aE e)<|cb (gp.ln e.Alts)<|r;tf (λc19=>pp20<|tg 52 c19<|tE) λc19=>have pp22:=λ{X Y Z} (r:PV _ X Y Z)=>pp20<|tg 52 c19<|ts<|r;tf (λc21=>pp22<|tg 56 c21<|tw (av e)<|cb (dC.ln e.Types)<|tE) λc21=>pp22<|tg 56 c21<|tE) λc17=>have pp24:=λ{X Y Z} (r:PV _ X Y Z)=>pp18<|tg 45 c17<|ts<|r;tf (λc23=>pp24<|tg 56 c23<|tw (av e)<|cb (dC.ln e.Types)<|tE) λc23=>pp24<|tg 56 c23<|tE) λc13=>have pp26:=λ{X Y Z} (r:PV _ X Y Z)=>pp14<|tg 34 c13<|ts<|r;tf (λc25=>have pp28:=λ{X Y Z} (r:PV _ X Y Z)=>pp26<|tg 45 c25<|tw (aE e)<|cb (gp.ln e.Alts)<|r;tf (λc27=>pp28<|tg 52 c27<|tE) λc27=>have pp30:=λ{X Y Z} (r:PV _ X Y Z)=>pp28<|tg 52 c27<|ts<|r;tf (λc29=>pp30<|tg 56 c29<|tw (av e)<|cb (dC.ln e.Types)<|tE) λc29=>pp30<|tg 56 c29<|tE) λc25=>have pp32:=λ{X Y Z} (r:PV _ X Y Z)=>pp26<|tg 45 c25<|ts<|r;tf (λc31=>pp32<|tg 56 c31<|tw (av e)<|cb (dC.ln e.Types)<|tE) λc31=>pp32<|tg 56 c31<|tE) λc9=>have pp34:=λ{X Y Z} (r:PV _ X Y Z)=>pp10<|tg 23 c9<|ts<|r;tf (λc33=>have pp36:=λ{X Y Z} (r:PV _ X Y Z)=>pp34<|tg 34 c33<|tw (aW e)<|cb (tV.ln e.Params)<|r;tf (λc35=>pp36<|tg 41 c35<|tE) λc35=>have pp38:=λ{X Y Z} (r:PV _ X Y Z)=>pp36<|tg 41 c35<|ts<|r;tf (λc37=>have pp40:=λ{X Y Z} (r:PV _ X Y Z)=>pp38<|tg 45 c37<|tw (aE e)<|cb (gp.ln e.Alts)<|r;tf (λc39=>pp40<|tg 52 c39<|tE) λc39=>have pp42:=λ{X Y Z} (r:PV _ X Y Z)=>pp40<|tg 52 c39<|ts<|r;tf (λc41=>pp42<|tg 56 c41<|tw (av e)<|cb (dC.ln e.Types)<|tE) λc41=>pp42<|tg 56 c41<|tE) λc37=>have pp44:=λ{X Y Z} (r:PV _ X Y Z)=>pp38<|tg 45 c37<|ts<|r;tf (λc43=>pp44<|tg 56 c43<|tw (av e)<|cb (dC.ln e.Types)<|tE) λc43=>pp44<|tg 56 c43<|tE) λc33=>have pp46:=λ{X Y Z} (r:PV _ X Y Z)=>pp34<|tg 34 c33<|ts<|r;tf (λc45=>have pp48:=λ{X Y Z} (r:PV _ X Y Z)=>pp46<|tg 45 c45<|tw (aE e)<|cb (gp.ln e.Alts)<|r;tf (λc47=>pp48<|tg 52 c47<|tE) λc47=>have pp50:=λ{X Y Z} (r:PV _ X Y Z)=>pp48<|tg 52 c47<|ts<|r;tf (λc49=>pp50<|tg 56 c49<|tw (av e)<|cb (dC.ln e.Types)<|tE) λc49=>pp50<|tg 56 c49<|tE) λc45=>have pp52:=λ{X Y Z} (r:PV _ X Y Z)=>pp46<|tg 45 c45<|ts<|r;tf (λc51=>pp52<|tg 56 c51<|tw (av e)<|cb (dC.ln e.Types)<|tE) λc51=>pp52<|tg 56 c51<|tE) λc5=>have pp54:=λ{X Y Z} (r:PV _ X Y Z)=>pp6<|tg 13 c5<|ts<|r;tf (λc53=>have pp56:=λ{X Y Z} (r:PV _ X Y Z)=>pp54<|tg 23 c53<|tw (az e)<|cb (fU.ln e.Kids)<|r;tf (λc55=>pp56<|tg 30 c55<|tE) λc55=>have pp58:=λ{X Y Z} (r:PV _ X Y Z)=>pp56<|tg 30 c55<|ts<|r;tf (λc57=>have pp60:=λ{X Y Z} (r:PV _ X Y Z)=>pp58<|tg 34 c57<|tw (aW e)<|cb (tV.ln e.Params)<|r;tf (λc59=>pp60<|tg 41 c59<|tE) λc59=>have pp62:=λ{X Y Z} (r:PV _ X Y Z)=>pp60<|tg 41 c59<|ts<|r;tf (λc61=>have pp64:=λ{X Y Z} (r:PV _ X Y Z)=>pp62<|tg 45 c61<|tw (aE e)<|cb (gp.ln e.Alts)<|r;tf (λc63=>pp64<|tg 52 c63<|tE) λc63=>have pp66:=λ{X Y Z} (r:PV _ X Y Z)=>pp64<|tg 52 c63<|ts<|r;tf (λc65=>pp66<|tg 56 c65<|tw (av e)<|cb (dC.ln e.Types)<|tE) λc65=>pp66<|tg 56 c65<|tE) λc61=>have pp68:=λ{X Y Z} (r:PV _ X Y Z)=>pp62<|tg 45 c61<|ts<|r;tf (λc67=>pp68<|tg 56 c67<|tw (av e)<|cb (dC.ln e.Types)<|tE) λc67=>pp68<|tg 56 c67<|tE) λc57=>have pp70:=λ{X Y Z} (r:PV _ X Y Z)=>pp58<|tg 34 c57<|ts<|r;tf (λc69=>have pp72:=λ{X Y Z} (r:PV _ X Y Z)=>pp70<|tg 45 c69<|tw (aE e)<|cb (gp.ln e.Alts)<|r;tf (λc71=>pp72<|tg 52 c71<|tE) λc71=>have pp74:=λ{X Y Z} (r:PV _ X Y Z)=>pp72<|tg 52 c71<|ts<|r;tf (λc73=>pp74<|tg 56 c73<|tw (av e)<|cb (dC.ln e.Types)<|tE) λc73=>pp74<|tg 56 c73<|tE) λc69=>have pp76:=λ{X Y Z} (r:PV _ X Y Z)=>pp70<|tg 45 c69<|ts<|r;tf (λc75=>pp76<|tg 56 c75<|tw (av e)<|cb (dC.ln e.Types)<|tE) λc75=>pp76<|tg 56 c75<|tE) λc53=>have pp78:=λ{X Y Z} (r:PV _ X Y Z)=>pp54<|tg 23 c53<|ts<|r;tf (λc77=>have pp80:=λ{X Y Z} (r:PV _ X Y Z)=>pp78<|tg 34 c77<|tw (aW e)<|cb (tV.ln e.Params)<|r;tf (λc79=>pp80<|tg 41 c79<|tE) λc79=>have pp82:=λ{X Y Z} (r:PV _ X Y Z)=>pp80<|tg 41 c79<|ts<|r;tf (λc81=>have pp84:=λ{X Y Z} (r:PV _ X Y Z)=>pp82<|tg 45 c81<|tw (aE e)<|cb (gp.ln e.Alts)<|r;tf (λc83=>pp84<|tg 52 c83<|tE) λc83=>have pp86:=λ{X Y Z} (r:PV _ X Y Z)=>pp84<|tg 52 c83<|ts<|r;tf (λc85=>pp86<|tg 56 c85<|tw (av e)<|cb (dC.ln e.Types)<|tE) λc85=>pp86<|tg 56 c85<|tE) λc81=>have pp88:=λ{X Y Z} (r:PV _ X Y Z)=>pp82<|tg 45 c81<|ts<|r;tf (λc87=>pp88<|tg 56 c87<|tw (av e)<|cb (dC.ln e.Types)<|tE) λc87=>pp88<|tg 56 c87<|tE) λc77=>have pp90:=λ{X Y Z} (r:PV _ X Y Z)=>pp78<|tg 34 c77<|ts<|r;tf (λc89=>have pp92:=λ{X Y Z} (r:PV _ X Y Z)=>pp90<|tg 45 c89<|tw (aE e)<|cb (gp.ln e.Alts)<|r;tf (λc91=>pp92<|tg 52 c91<|tE) λc91=>have pp94:=λ{X Y Z} (r:PV _ X Y Z)=>pp92<|tg 52 c91<|ts<|r;tf (λc93=>pp94<|tg 56 c93<|tw (av e)<|cb (dC.ln e.Types)<|tE) λc93=>pp94<|tg 56 c93<|tE) λc89=>have pp96:=λ{X Y Z} (r:PV _ X Y Z)=>pp90<|tg 45 c89<|ts<|r;tf (λc95=>pp96<|tg 56 c95<|tw (av e)<|cb (dC.ln e.Types)<|tE) λc95=>pp96<|tg 56 c95<|tE) λc2=>have pp98:=λ{X Y Z} (r:PV _ X Y Z)=>ts<|tg 4 c2<|ts<|r;tf (λc97=>have pp100:=λ{X Y Z} (r:PV _ X Y Z)=>pp98<|tg 13 c97<|tw (bM e)<|r;tf (λc99=>pp100<|tg 19 c99<|tE) λc99=>have pp102:=λ{X Y Z} (r:PV _ X Y Z)=>pp100<|tg 19 c99<|ts<|r;tf (λc101=>have pp104:=λ{X Y Z} (r:PV _ X Y Z)=>pp102<|tg 23 c101<|tw (az e)<|cb (fU.ln e.Kids)<|r;tf (λc103=>pp104<|tg 30 c103<|tE) λc103=>have pp106:=λ{X Y Z} (r:PV _ X Y Z)=>pp104<|tg 30 c103<|ts<|r;tf (λc105=>have pp108:=λ{X Y Z} (r:PV _ X Y Z)=>pp106<|tg 34 c105<|tw (aW e)<|cb (tV.ln e.Params)<|r;tf (λc107=>pp108<|tg 41 c107<|tE) λc107=>have pp110:=λ{X Y Z} (r:PV _ X Y Z)=>pp108<|tg 41 c107<|ts<|r;tf (λc109=>have pp112:=λ{X Y Z} (r:PV _ X Y Z)=>pp110<|tg 45 c109<|tw (aE e)<|cb (gp.ln e.Alts)<|r;tf (λc111=>pp112<|tg 52 c111<|tE) λc111=>have pp114:=λ{X Y Z} (r:PV _ X Y Z)=>pp112<|tg 52 c111<|ts<|r;tf (λc113=>pp114<|tg 56 c113<|tw (av e)<|cb (dC.ln e.Types)<|tE) λc113=>pp114<|tg 56 c113<|tE) λc109=>have pp116:=λ{X Y Z} (r:PV _ X Y Z)=>pp110<|tg 45 c109<|ts<|r;tf (λc115=>pp116<|tg 56 c115<|tw (av e)<|cb (dC.ln e.Types)<|tE) λc115=>pp116<|tg 56 c115<|tE) λc105=>have pp118:=λ{X Y Z} (r:PV _ X Y Z)=>pp106<|tg 34 c105<|ts<|r;tf (λc117=>have pp120:=λ{X Y Z} (r:PV _ X Y Z)=>pp118<|tg 45 c117<|tw (aE e)<|cb (gp.ln e.Alts)<|r;tf (λc119=>pp120<|tg 52 c119<|tE) λc119=>have pp122:=λ{X Y Z} (r:PV _ X Y Z)=>pp120<|tg 52 c119<|ts<|r;tf (λc121=>pp122<|tg 56 c121<|tw (av e)<|cb (dC.ln e.Types)<|tE) λc121=>pp122<|tg 56 c121<|tE) λc117=>have pp124:=λ{X Y Z} (r:PV _ X Y Z)=>pp118<|tg 45 c117<|ts<|r;tf (λc123=>pp124<|tg 56 c123<|tw (av e)<|cb (dC.ln e.Types)<|tE) λc123=>pp124<|tg 56 c123<|tE) λc101=>have pp126:=λ{X Y Z} (r:PV _ X Y Z)=>pp102<|tg 23 c101<|ts<|r;tf (λc125=>have pp128:=λ{X Y Z} (r:PV _ X Y Z)=>pp126<|tg 34 c125<|tw (aW e)<|cb (tV.ln e.Params)<|r;tf (λc127=>pp128<|tg 41 c127<|tE) λc127=>have pp130:=λ{X Y Z} (r:PV _ X Y Z)=>pp128<|tg 41 c127<|ts<|r;tf (λc129=>have pp132:=λ{X Y Z} (r:PV _ X Y Z)=>pp130<|tg 45 c129<|tw (aE e)<|cb (gp.ln e.Alts)<|r;tf (λc131=>pp132<|tg 52 c131<|tE) λc131=>have pp134:=λ{X Y Z} (r:PV _ X Y Z)=>pp132<|tg 52 c131<|ts<|r;tf (λc133=>pp134<|tg 56 c133<|tw (av e)<|cb (dC.ln e.Types)<|tE) λc133=>pp134<|tg 56 c133<|tE) λc129=>have pp136:=λ{X Y Z} (r:PV _ X Y Z)=>pp130<|tg 45 c129<|ts<|r;tf (λc135=>pp136<|tg 56 c135<|tw (av e)<|cb (dC.ln e.Types)<|tE) λc135=>pp136<|tg 56 c135<|tE) λc125=>have pp138:=λ{X Y Z} (r:PV _ X Y Z)=>pp126<|tg 34 c125<|ts<|r;tf (λc137=>have pp140:=λ{X Y Z} (r:PV _ X Y Z)=>pp138<|tg 45 c137<|tw (aE e)<|cb (gp.ln e.Alts)<|r;tf (λc139=>pp140<|tg 52 c139<|tE) λc139=>have pp142:=λ{X Y Z} (r:PV _ X Y Z)=>pp140<|tg 52 c139<|ts<|r;tf (λc141=>pp142<|tg 56 c141<|tw (av e)<|cb (dC.ln e.Types)<|tE) λc141=>pp142<|tg 56 c141<|tE) λc137=>have pp144:=λ{X Y Z} (r:PV _ X Y Z)=>pp138<|tg 45 c137<|ts<|r;tf (λc143=>pp144<|tg 56 c143<|tw (av e)<|cb (dC.ln e.Types)<|tE) λc143=>pp144<|tg 56 c143<|tE) λc97=>have pp146:=λ{X Y Z} (r:PV _ X Y Z)=>pp98<|tg 13 c97<|ts<|r;tf (λc145=>have pp148:=λ{X Y Z} (r:PV _ X Y Z)=>pp146<|tg 23 c145<|tw (az e)<|cb (fU.ln e.Kids)<|r;tf (λc147=>pp148<|tg 30 c147<|tE) λc147=>have pp150:=λ{X Y Z} (r:PV _ X Y Z)=>pp148<|tg 30 c147<|ts<|r;tf (λc149=>have pp152:=λ{X Y Z} (r:PV _ X Y Z)=>pp150<|tg 34 c149<|tw (aW e)<|cb (tV.ln e.Params)<|r;tf (λc151=>pp152<|tg 41 c151<|tE) λc151=>have pp154:=λ{X Y Z} (r:PV _ X Y Z)=>pp152<|tg 41 c151<|ts<|r;tf (λc153=>have pp156:=λ{X Y Z} (r:PV _ X Y Z)=>pp154<|tg 45 c153<|tw (aE e)<|cb (gp.ln e.Alts)<|r;tf (λc155=>pp156<|tg 52 c155<|tE) λc155=>have pp158:=λ{X Y Z} (r:PV _ X Y Z)=>pp156<|tg 52 c155<|ts<|r;tf (λc157=>pp158<|tg 56 c157<|tw (av e)<|cb (dC.ln e.Types)<|tE) λc157=>pp158<|tg 56 c157<|tE) λc153=>have pp160:=λ{X Y Z} (r:PV _ X Y Z)=>pp154<|tg 45 c153<|ts<|r;tf (λc159=>pp160<|tg 56 c159<|tw (av e)<|cb (dC.ln e.Types)<|tE) λc159=>pp160<|tg 56 c159<|tE) λc149=>have pp162:=λ{X Y Z} (r:PV _ X Y Z)=>pp150<|tg 34 c149<|ts<|r;tf (λc161=>have pp164:=λ{X Y Z} (r:PV _ X Y Z)=>pp162<|tg 45 c161<|tw (aE e)<|cb (gp.ln e.Alts)<|r;tf (λc163=>pp164<|tg 52 c163<|tE) λc163=>have pp166:=λ{X Y Z} (r:PV _ X Y Z)=>pp164<|tg 52 c163<|ts<|r;tf (λc165=>pp166<|tg 56 c165<|tw (av e)<|cb (dC.ln e.Types)<|tE) λc165=>pp166<|tg 56 c165<|tE) λc161=>have pp168:=λ{X Y Z} (r:PV _ X Y Z)=>pp162<|tg 45 c161<|ts<|r;tf (λc167=>pp168<|tg 56 c167<|tw (av e)<|cb (dC.ln e.Types)<|tE) λc167=>pp168<|tg 56 c167<|tE) λc145=>have pp170:=λ{X Y Z} (r:PV _ X Y Z)=>pp146<|tg 23 c145<|ts<|r;tf (λc169=>have pp172:=λ{X Y Z} (r:PV _ X Y Z)=>pp170<|tg 34 c169<|tw (aW e)<|cb (tV.ln e.Params)<|r;tf (λc171=>pp172<|tg 41 c171<|tE) λc171=>have pp174:=λ{X Y Z} (r:PV _ X Y Z)=>pp172<|tg 41 c171<|ts<|r;tf (λc173=>have pp176:=λ{X Y Z} (r:PV _ X Y Z)=>pp174<|tg 45 c173<|tw (aE e)<|cb (gp.ln e.Alts)<|r;tf (λc175=>pp176<|tg 52 c175<|tE) λc175=>have pp178:=λ{X Y Z} (r:PV _ X Y Z)=>pp176<|tg 52 c175<|ts<|r;tf (λc177=>pp178<|tg 56 c177<|tw (av e)<|cb (dC.ln e.Types)<|tE) λc177=>pp178<|tg 56 c177<|tE) λc173=>have pp180:=λ{X Y Z} (r:PV _ X Y Z)=>pp174<|tg 45 c173<|ts<|r;tf (λc179=>pp180<|tg 56 c179<|tw (av e)<|cb (dC.ln e.Types)<|tE) λc179=>pp180<|tg 56 c179<|tE) λc169=>have pp182:=λ{X Y Z} (r:PV _ X Y Z)=>pp170<|tg 34 c169<|ts<|r;tf (λc181=>have pp184:=λ{X Y Z} (r:PV _ X Y Z)=>pp182<|tg 45 c181<|tw (aE e)<|cb (gp.ln e.Alts)<|r;tf (λc183=>pp184<|tg 52 c183<|tE) λc183=>have pp186:=λ{X Y Z} (r:PV _ X Y Z)=>pp184<|tg 52 c183<|ts<|r;tf (λc185=>pp186<|tg 56 c185<|tw (av e)<|cb (dC.ln e.Types)<|tE) λc185=>pp186<|tg 56 c185<|tE) λc181=>have pp188:=λ{X Y Z} (r:PV _ X Y Z)=>pp182<|tg 45 c181<|ts<|r;tf (λc187=>pp188<|tg 56 c187<|tw (av e)<|cb (dC.ln e.Types)<|tE) λc187=>pp188<|tg 56 c187<|tE
end
section
variable(e:am)(ok:Bool)(unused:Bool)(m:Bool)(m2:Bool)(m3:Int)(m4:Int)(m5:Bool)(m6:Bool)(m7:Int)(m8:Int)(m9:Bool)
def Cd:Option Bool:=
 if(!ok)=true then
  some true
 else
  some unused
theorem GS:OJ 0 (cA Mp 122) (Cd ok unused) .normal (λo=>aM 156 [(1,.eptr (aj e)),(3,.bptr 1 0),(81,.bool o)] [.dead,.cells [.bool m,.bool m2,.int .i64 m3,.int .i64 m4,.bool m5,.bool m6,.int .i64 m7,.int .i64 m8,.bool m9] []] []) (aM 156 [(1,.eptr (aj e)),(3,.bptr 1 0),(4,.bool ok),(5,.bool unused)] [.dead,.cells [.bool m,.bool m2,.int .i64 m3,.int .i64 m4,.bool m5,.bool m6,.int .i64 m7,.int .i64 m8,.bool m9] []] []):=OM.j<|
 tf (λc190=>tg 3 c190<|tE) λc190=>tg 3 c190<|tE
end
section
variable(e:am)(m:Bool)(m2:Bool)(m3:Int)(m4:Int)(m5:Bool)(m6:Bool)(m7:Int)(m8:Int)(m9:Bool)
def Ce:Option Bool:=
 if (e.Op == 1) = true then
  (Pk e.N).bind λr197=>
  if(!r197)=true then
   some true
  else if(e.Op==2)=true then
   if(e.N !=0)=true then
    some (e.N !=1)
   else
    some false
  else
   some false
 else if(e.Op==2)=true then
  if(e.N !=0)=true then
   some (e.N !=1)
  else
   some false
 else
  some false
theorem GT:OJ 0 (cA Mp 1982) (Ce e) .normal (λo=>aM 156 [(1,.eptr (aj e)),(3,.bptr 1 0),(92,.bool o)] [.dead,.cells [.bool m,.bool m2,.int .i64 m3,.int .i64 m4,.bool m5,.bool m6,.int .i64 m7,.int .i64 m8,.bool m9] []] []) (aM 156 [(1,.eptr (aj e)),(3,.bptr 1 0)] [.dead,.cells [.bool m,.bool m2,.int .i64 m3,.int .i64 m4,.bool m5,.bool m6,.int .i64 m7,.int .i64 m8,.bool m9] []] []):=OM.j<|
 have pp196:=λ{X Y Z} (r:PV _ X Y Z)=>tw (bu e)<|r;tf (λc195=>tb λr197 br197=>have pp199:=λ{X Y Z} (r:PV _ X Y Z)=>pp196<|tg 4 c195<|tw (cq e)<|ck (L5 _ br197)<|r;tf (λc198=>pp199<|tg 10 c198<|tE) λc198=>have pp201:=λ{X Y Z} (r:PV _ X Y Z)=>pp199<|tg 10 c198<|tw (bu e)<|r;tf (λc200=>have pp203:=λ{X Y Z} (r:PV _ X Y Z)=>pp201<|tg 14 c200<|tw (cq e)<|r;tf (λc202=>pp203<|tg 19 c202<|tw (cq e)<|tE) λc202=>pp203<|tg 19 c202<|tE) λc200=>pp201<|tg 14 c200<|tE) λc195=>have pp205:=λ{X Y Z} (r:PV _ X Y Z)=>pp196<|tg 4 c195<|tw (bu e)<|r;tf (λc204=>have pp207:=λ{X Y Z} (r:PV _ X Y Z)=>pp205<|tg 14 c204<|tw (cq e)<|r;tf (λc206=>pp207<|tg 19 c206<|tw (cq e)<|tE) λc206=>pp207<|tg 19 c206<|tE) λc204=>pp205<|tg 14 c204<|tE
end
section
variable(e:am)(t124:waC)(t125:Int)(m:Bool)(m2:Bool)(m3:Int)(m4:Int)(m5:Bool)(m6:Bool)(m7:Int)(m8:Int)(m9:Bool)(t126:Int)
def kj:ay:=aM 156 [(1,.eptr (aj e)),(124,sl ai t124),(125,.int .i64 t125),(126,.int .i64 t126)] [.dead,.cells [.bool m,.bool m2,.int .i64 m3,.int .i64 m4,.bool m5,.bool m6,.int .i64 m7,.int .i64 m8,.bool m9] []] []
def yl(o:Int⊕(Unit)):Exit:=match o with
 |(.inl _)=>.ret
 |(.inr _)=>.exit 1
def px(o:Int⊕(Unit)):ay:=match o with
 |(.inl o)=>aM 156 [(2,.int .i64 o)] [.dead,.cells [.bool m,.bool m2,.int .i64 m3,.int .i64 m4,.bool m5,.bool m6,.int .i64 m7,.int .i64 m8,.bool m9] []] []
 |(.inr o)=>aM 156 [(1,.eptr (aj e))] [.dead,.cells [.bool m,.bool m2,.int .i64 m3,.int .i64 m4,.bool m5,.bool m6,.int .i64 m7,.int .i64 m8,.bool m9] []] []
instance iS_syntax_node_L4:KS 0 (kj e t124 t125 m m2 m3 m4 m5 m6 m7 m8 m9 t126):=⟨rfl,(bk (aI (cT (b7 e)) (aI (up (ak bE t124)) (aI vzz (aI vzz vzz))))),(aI vzz (aI (aI vzz (aI vzz (aI vzz (aI vzz (aI vzz (aI vzz (aI vzz (aI vzz (aI vzz vzz))))))))) trivial))⟩
instance iO_syntax_node_L4{o:Int⊕(Unit)}:KS 0 (px e m m2 m3 m4 m5 m6 m7 m8 m9 o):=match o with
 |(.inl o)=>⟨rfl,(bk (aI vzz vzz)),(aI vzz (aI (aI vzz (aI vzz (aI vzz (aI vzz (aI vzz (aI vzz (aI vzz (aI vzz (aI vzz vzz))))))))) trivial))⟩
 |(.inr o)=>⟨rfl,(bk (aI (cT (b7 e)) trivial)),(aI vzz (aI (aI vzz (aI vzz (aI vzz (aI vzz (aI vzz (aI vzz (aI vzz (aI vzz (aI vzz vzz))))))))) trivial))⟩
def yk:Option (Int⊕(Int⊕(Unit))):=
 if decide (t126<t125)=true then
  (dw t124 t126).bind λx213=>
  (wz x213).bind λr214=>
  if(r214 !=0)=true then
   some (.inr (.inl r214))
  else
   some (.inl (fh (t126+1)))
 else
  some (.inr (.inr ()))
def Cg:Option (Int⊕(Unit)):=loop (λ(zz:Int)=>yk t124 t125 zz) t126
theorem EV:OL 0 (cA Mp 1015) (yk t124 t125 t126) (λ(zz:Int)=>kj e t124 t125 m m2 m3 m4 m5 m6 m7 m8 m9 zz) yl (px e m m2 m3 m4 m5 m6 m7 m8 m9) (kj e t124 t125 m m2 m3 m4 m5 m6 m7 m8 m9 t126):=OM.lx<|
 tF (tb λx213 bx213=>tb λr214 br214=>tv (dC.ia (k:=.i64) bx213)<|tv (dP x213)<|tx Rq<|tx (sR x213)<|tv (mm x213 [])<|ck (ul _ br214)<|tF tE<|tE)<|tE
theorem ww:OK 0 (.loop (cA Mp 1015)) (Cg t124 t125 t126) yl (px e m m2 m3 m4 m5 m6 m7 m8 m9) (kj e t124 t125 m m2 m3 m4 m5 m6 m7 m8 m9 t126):=HK λ_=>EV _ _ _ _ _ _ _ _ _ _ _ _ _
end
section
variable(v:Int)(t137:waF)(t138:Int)(t139:Int)(m:Bool)(m2:Bool)(m3:Int)(m4:Int)(m5:Bool)(m6:Bool)(m7:Int)(m8:Int)(m9:Bool)(m10:ac)(m11:Int)(m12:ac)(m13:waC)(m14:waA)(m15:Int)(m16:ac)(m17:Int)(m18:waB)(m19:waB)
def Cf:Option Bool:=
 if(v !=0)=true then
  (Iz (⟨m11,m12,m13,m14,(⟨m15,m16,m17,m18⟩:ag),m19⟩:al)).bind λr221=>
  some (!r221)
 else
  some false
theorem GU:OJ 0 (cA Mp 261102) (Cf v m11 m12 m13 m14 m15 m16 m17 m18 m19) .normal (λo=>aM 156 [(12,.int .i64 v),(137,sl aD t137),(138,.int .i64 t138),(139,.int .i64 t139),(153,.bool o)] [.dead,.cells [.bool m,.bool m2,.int .i64 m3,.int .i64 m4,.bool m5,.bool m6,.int .i64 m7,.int .i64 m8,.bool m9] [],.cells [.str m10,.int .i64 m11,.str m12,sl ai m13,sl cS m14,.int .i64 m15,.str m16,.int .i64 m17,sl aa m18,sl aa m19] []] []) (aM 156 [(11,.bptr 2 0),(12,.int .i64 v),(137,sl aD t137),(138,.int .i64 t138),(139,.int .i64 t139)] [.dead,.cells [.bool m,.bool m2,.int .i64 m3,.int .i64 m4,.bool m5,.bool m6,.int .i64 m7,.int .i64 m8,.bool m9] [],.cells [.str m10,.int .i64 m11,.str m12,sl ai m13,sl cS m14,.int .i64 m15,.str m16,.int .i64 m17,sl aa m18,sl aa m19] []] []):=OM.j<|
 tf (λc220=>tb λr221 br221=>tg 3 c220<|tv (mm (⟨m11,m12,m13,m14,(⟨m15,m16,m17,m18⟩:ag),m19⟩:al) [])<|ck (KP _ br221)<|tE) λc220=>tg 3 c220<|tE
end
section
variable(t137:waF)(t138:Int)(m:Bool)(m2:Bool)(m3:Int)(m4:Int)(m5:Bool)(m6:Bool)(m7:Int)(m8:Int)(m9:Bool)(t139:Int)
def kl:ay:=aM 156 [(137,sl aD t137),(138,.int .i64 t138),(139,.int .i64 t139)] [.dead,.cells [.bool m,.bool m2,.int .i64 m3,.int .i64 m4,.bool m5,.bool m6,.int .i64 m7,.int .i64 m8,.bool m9] []] []
def yn(o:Int⊕(Unit)):Exit:=match o with
 |(.inl _)=>.ret
 |(.inr _)=>.exit 3
def py(o:Int⊕(Unit)):ay:=match o with
 |(.inl o)=>aM 156 [(2,.int .i64 o)] [.dead,.cells [.bool m,.bool m2,.int .i64 m3,.int .i64 m4,.bool m5,.bool m6,.int .i64 m7,.int .i64 m8,.bool m9] []] []
 |(.inr o)=>aM 156 [] [.dead,.cells [.bool m,.bool m2,.int .i64 m3,.int .i64 m4,.bool m5,.bool m6,.int .i64 m7,.int .i64 m8,.bool m9] []] []
instance iS_syntax_node_L5:KS 0 (kl t137 t138 m m2 m3 m4 m5 m6 m7 m8 m9 t139):=⟨rfl,(bk (aI (up (ak dh t137)) (aI vzz (aI vzz vzz)))),(aI vzz (aI (aI vzz (aI vzz (aI vzz (aI vzz (aI vzz (aI vzz (aI vzz (aI vzz (aI vzz vzz))))))))) trivial))⟩
instance iO_syntax_node_L5{o:Int⊕(Unit)}:KS 0 (py m m2 m3 m4 m5 m6 m7 m8 m9 o):=match o with
 |(.inl o)=>⟨rfl,(bk (aI vzz vzz)),(aI vzz (aI (aI vzz (aI vzz (aI vzz (aI vzz (aI vzz (aI vzz (aI vzz (aI vzz (aI vzz vzz))))))))) trivial))⟩
 |(.inr o)=>⟨rfl,(bk vzz),(aI vzz (aI (aI vzz (aI vzz (aI vzz (aI vzz (aI vzz (aI vzz (aI vzz (aI vzz (aI vzz vzz))))))))) trivial))⟩
def ym:Option (Int⊕(Int⊕(Unit))):=
 if decide (t139<t138)=true then
  (dw t137 t139).bind λx218=>
  (wz x218.Type_).bind λr219=>
  (Cf r219 x218.Type_.Op x218.Type_.Name x218.Type_.Args x218.Type_.Names x218.Type_.Pred.Op x218.Type_.Pred.Name x218.Type_.Pred.N x218.Type_.Pred.Kids x218.Type_.Preds).bind λo222=>
  if o222=true then
   some (.inr (.inl r219))
  else
   some (.inl (fh (t139+1)))
 else
  some (.inr (.inr ()))
def Ch:Option (Int⊕(Unit)):=loop (λ(zz:Int)=>ym t137 t138 zz) t139
theorem EW:OL 0 (cA Mp 2039) (ym t137 t138 t139) (λ(zz:Int)=>kl t137 t138 m m2 m3 m4 m5 m6 m7 m8 m9 zz) yn (py m m2 m3 m4 m5 m6 m7 m8 m9) (kl t137 t138 m m2 m3 m4 m5 m6 m7 m8 m9 t139):=OM.lx<|
 tF (tb λx218 bx218=>tb λr219 br219=>tb λo222 bo222=>tv (tV.ia (k:=.i64) bx218)<|tv (Cz x218)<|tx Qg<|tx (yU x218)<|tv (mm x218.Type_ [])<|ck (ul _ br219)<|gz 0<|cu (GU r219 t137 t138 t139 m m2 m3 m4 m5 m6 m7 m8 m9 x218.Name x218.Type_.Op x218.Type_.Name x218.Type_.Args x218.Type_.Names x218.Type_.Pred.Op x218.Type_.Pred.Name x218.Type_.Pred.N x218.Type_.Pred.Kids x218.Type_.Preds _ bo222)<|tF tE<|tE)<|tE
theorem wx:OK 0 (.loop (cA Mp 2039)) (Ch t137 t138 t139) yn (py m m2 m3 m4 m5 m6 m7 m8 m9) (kl t137 t138 m m2 m3 m4 m5 m6 m7 m8 m9 t139):=HK λ_=>EW _ _ _ _ _ _ _ _ _ _ _ _
end
def Iy (e:am):Option Int :=
 (DX e.Op).bind λr1=>
 (Cc e r1.1.n r1.1.name r1.1.most r1.1.params r1.1.alts r1.1.types).bind λo189=>
 (Cd r1.2 o189).bind λo191=>
 if o191=true then
  some 1
 else
  (DW e r1.1).bind λr193=>
  if(!r193)=true then
   some 13
  else
   (Ce e).bind λo208=>
   if o208=true then
    some 2
   else
    (GP e r1.1).bind λr210=>
    if(r210 !=0)=true then
     some r210
    else
     (Cg e.Types (e.Types.length:Int) 0).bind λo216=>match o216 with
     |(.inl o216)=>
      some o216
     | (.inr o216) =>
      (Ch e.Params (e.Params.length:Int) 0).bind λo224=>match o224 with
      |(.inl o224)=>
       some o224
      |(.inr o224)=>
       some 0
theorem KO{e:am}:OV 201 [.agg (aj e)] (Iy e) (λr=>.int .i64 r) []:=OM.v<|
 tb λr1 br1=>tb λo189 bo189=>tb λo191 bo191=>te (cO e)<|tw (bu e)<|ck (HZ _ br1)<|tx Uo<|tx (cc r1.1)<|gz 0<|cu (GR e r1.2 r1.1.n r1.1.name r1.1.least r1.1.most r1.1.params r1.1.alts r1.1.typesLeast r1.1.typesMost r1.1.types _ bo189)<|gz 1<|cu (GS e r1.2 o189 r1.1.n r1.1.name r1.1.least r1.1.most r1.1.params r1.1.alts r1.1.typesLeast r1.1.typesMost r1.1.types _ bo191)<|tF tE<|tb λr193 br193=>tv (aY e)<|tv (xp r1.1 [])<|ck (HY _ br193)<|tF tE<|tb λo208 bo208=>gz 0<|cu (GT e r1.1.n r1.1.name r1.1.least r1.1.most r1.1.params r1.1.alts r1.1.typesLeast r1.1.typesMost r1.1.types _ bo208)<|tF tE<|tb λr210 br210=>tv (aY e)<|tv (xp r1.1 [])<|ck (Ja _ br210)<|tF tE<|tw (av e)<|cb (dC.ln e.Types)<|t2 (λo216 bo216=>cu (ww e e.Types (e.Types.length:Int) r1.1.n r1.1.name r1.1.least r1.1.most r1.1.params r1.1.alts r1.1.typesLeast r1.1.typesMost r1.1.types 0 _ bo216)<|tE) λo216 bo216=>cu (ww e e.Types (e.Types.length:Int) r1.1.n r1.1.name r1.1.least r1.1.most r1.1.params r1.1.alts r1.1.typesLeast r1.1.typesMost r1.1.types 0 _ bo216)<|tw (aW e)<|cb (tV.ln e.Params)<|t2 (λo224 bo224=>cu (wx e.Params (e.Params.length:Int) r1.1.n r1.1.name r1.1.least r1.1.most r1.1.params r1.1.alts r1.1.typesLeast r1.1.typesMost r1.1.types 0 _ bo224)<|tE) λo224 bo224=>cu (wx e.Params (e.Params.length:Int) r1.1.n r1.1.name r1.1.least r1.1.most r1.1.params r1.1.alts r1.1.typesLeast r1.1.typesMost r1.1.types 0 _ bo224)<|tE
noncomputable def qbj:Code:=f200.body.getD .skip
def YX:List Nat:=[]
theorem qak:ZF Pg YX 200 f200 qbj:=zf call200 func200 rfl mixed
def B5(a:am)(k0:Int):Option (Bool×Int):=
 (Iy a).bind λr1=>
 some (r1==0,r1)
theorem GJ{a:am}{k0:Int}:OG 200 [.agg (aj a),.bptr 0 0] [] [.cells [.int .i64 k0] []] (B5 a k0) (λr=>.bool r.1) [] (λr=>[.cells [.int .i64 r.2] []]):=qak.g 1<|
 tb λr1 br1=>te (cO a)<|tv (aY a)<|ck (KO _ br1)<|ts<|ts<|tE
section
variable(R93:er)(e:am)(t14:waE)(t15:Int)(t16:Int)(m:Int)
def eL:ay:=aM 38 [(1,.func (.func 200) [] [.bptr 0 0]),(2,.eptr (aj e)),(14,sl aj t14),(15,.int .i64 t15),(16,.int .i64 t16)] [.cells [.int .i64 m] [],.dead] []
def lG(o:Int⊕(Int)):Exit:=match o with
 |(.inl _)=>.ret
 |(.inr _)=>.exit 0
def gu(o:Int⊕(Int)):ay:=match o with
 |(.inl o)=>aM 38 [(4,.bool false)] [.cells [.int .i64 o] [],.dead] []
 |(.inr o)=>aM 38 [(1,.func (.func 200) [] [.bptr 0 0]),(2,.eptr (aj e))] [.cells [.int .i64 o] [],.dead] []
instance iS_syntax_walk_Check_1_L1:KS 1 (eL e t14 t15 t16 m):=⟨rfl,(bk (aI (aI vzz (aI (bH rfl) trivial)) (aI (cT (b7 e)) (aI (up (ak b7 t14)) (aI vzz (aI vzz vzz)))))),(aI (aI vzz vzz) (aI vzz vzz))⟩
instance iO_syntax_walk_Check_1_L1{o:Int⊕(Int)}:KS 1 (gu e o):=match o with
 |(.inl o)=>⟨rfl,(bk (aI vzz vzz)),(aI (aI vzz vzz) (aI vzz vzz))⟩
 |(.inr o)=>⟨rfl,(bk (aI (aI vzz (aI (bH rfl) trivial)) (aI (cT (b7 e)) trivial))),(aI (aI vzz vzz) (aI vzz vzz))⟩
def lF:Option ((Int×Int)⊕(Int⊕(Int))):=
 if decide (t16<t15)=true then
  (dw t14 t16).bind λx4=>
  (R93 x4 m).bind λr5=>
  if(!r5.1)=true then
   some (.inr (.inl r5.2))
  else
   some (.inl (fh (t16+1),r5.2))
 else
  some (.inr (.inr m))
def nM:Option (Int⊕(Int)):=loop (λ(zz:Int×Int)=>lF R93 t14 t15 zz.1 zz.2) (t16,m)
theorem uf(hR93:eo R93):OL 1 (cA Mo 119) (lF R93 t14 t15 t16 m) (λ(zz:Int×Int)=>eL e t14 t15 zz.1 zz.2) lG (gu e) (eL e t14 t15 t16 m):=Qw.lx<|
 tF (tb λx4 bx4=>tb λr5 br5=>tv (fU.ia (k:=.i64) bx4)<|tv (aY x4)<|tx Nk<|tx (ms x4)<|tv (eg x4 [])<|tc [0] (hR93 _ _ _ br5)<|tF tE<|tE)<|tE
theorem kD(hR93:eo R93):OK 1 (.loop (cA Mo 119)) (nM R93 t14 t15 t16 m) lG (gu e) (eL e t14 t15 t16 m):=HK λ_=>uf _ _ _ _ _ _ hR93
end
section
variable(R93:er)(t26:waD)(t27:Int)(t28:Int)(m:Int)
def eM:ay:=aM 38 [(1,.func (.func 200) [] [.bptr 0 0]),(26,sl aN t26),(27,.int .i64 t27),(28,.int .i64 t28)] [.cells [.int .i64 m] [],.dead] []
def lI(o:Int⊕(Int)):Exit:=match o with
 |(.inl _)=>.ret
 |(.inr _)=>.exit 2
def gv(o:Int⊕(Int)):ay:=match o with
 |(.inl o)=>aM 38 [(4,.bool false)] [.cells [.int .i64 o] [],.dead] []
 |(.inr o)=>aM 38 [] [.cells [.int .i64 o] [],.dead] []
instance iS_syntax_walk_Check_1_L2:KS 1 (eM t26 t27 t28 m):=⟨rfl,(bk (aI (aI vzz (aI (bH rfl) trivial)) (aI (up (ak dy t26)) (aI vzz (aI vzz vzz))))),(aI (aI vzz vzz) (aI vzz vzz))⟩
instance iO_syntax_walk_Check_1_L2{o:Int⊕(Int)}:KS 1 (gv o):=match o with
 |(.inl o)=>⟨rfl,(bk (aI vzz vzz)),(aI (aI vzz vzz) (aI vzz vzz))⟩
 |(.inr o)=>⟨rfl,(bk vzz),(aI (aI vzz vzz) (aI vzz vzz))⟩
def lH:Option ((Int×Int)⊕(Int⊕(Int))):=
 if decide (t28<t27)=true then
  (dw t26 t28).bind λx9=>
  (R93 x9.Body m).bind λr10=>
  if(!r10.1)=true then
   some (.inr (.inl r10.2))
  else
   some (.inl (fh (t28+1),r10.2))
 else
  some (.inr (.inr m))
def nN:Option (Int⊕(Int)):=loop (λ(zz:Int×Int)=>lH R93 t26 t27 zz.1 zz.2) (t28,m)
theorem ug(hR93:eo R93):OL 1 (cA Mo 247) (lH R93 t26 t27 t28 m) (λ(zz:Int×Int)=>eM t26 t27 zz.1 zz.2) lI gv (eM t26 t27 t28 m):=Qw.lx<|
 tF (tb λx9 bx9=>tb λr10 br10=>tv (gp.ia (k:=.i64) bx9)<|tv (mX x9)<|tx DN<|tx (kY x9)<|tv (eg x9.Body [])<|tc [0] (hR93 _ _ _ br10)<|tF tE<|tE)<|tE
theorem kE(hR93:eo R93):OK 1 (.loop (cA Mo 247)) (nN R93 t26 t27 t28 m) lI gv (eM t26 t27 t28 m):=HK λ_=>ug _ _ _ _ _ hR93
end
def oQ(R93:er)(e:am)(k0:Int):Option (Bool×Int):=
 (B5 e k0).bind λr1=>
 if(!r1.1)=true then
  some (false,r1.2)
 else
  (nM R93 e.Kids (e.Kids.length:Int) 0 r1.2).bind λo7=>match o7 with
  |(.inl o7)=>
   some (false,o7)
  | (.inr o7) =>
   (nN R93 e.Alts (e.Alts.length:Int) 0 o7).bind λo12=>match o12 with
   |(.inl o12)=>
    some (false,o12)
   |(.inr o12)=>
    some (true,o12)
theorem yr(R93:er)(hR93:eo R93){e:am}{k0:Int}:OG 199 [.agg (aj e),.func (.func 200) [] [.bptr 0 0]] [] [.cells [.int .i64 k0] []] (oQ R93 e k0) (λr=>.bool r.1) [] (λr=>[.cells [.int .i64 r.2] []]):=Qw.g 1<|
 tb λr1 br1=>te (cO e)<|tv (aY e)<|tc [0] (GJ _ br1)<|tF tE<|tw (az e)<|cb (fU.ln e.Kids)<|t2 (λo7 bo7=>cu (kD R93 e e.Kids (e.Kids.length:Int) 0 r1.2 hR93 _ bo7)<|tE) λo7 bo7=>cu (kD R93 e e.Kids (e.Kids.length:Int) 0 r1.2 hR93 _ bo7)<|tw (aE e)<|cb (gp.ln e.Alts)<|t2 (λo12 bo12=>cu (kE R93 e.Alts (e.Alts.length:Int) 0 o7 hR93 _ bo12)<|tE) λo12 bo12=>cu (kE R93 e.Alts (e.Alts.length:Int) 0 o7 hR93 _ bo12)<|tE
def oS:((am×Int)->Option (Bool×Int))->(am×Int)->Option (Bool×Int):=λ(rec:(am×Int)->Option (Bool×Int)) (x:am×Int)=>oQ (λe k0=>rec (e,k0)) x.1 x.2
def rR(e:am)(k0:Int):Option (Bool×Int):=Bq oS (e,k0)
theorem zC{e:am}{k0:Int}:OG 199 [.agg (aj e),.func (.func 200) [] [.bptr 0 0]] [] [.cells [.int .i64 k0] []] (rR e k0) (λr=>.bool r.1) [] (λr=>[.cells [.int .i64 r.2] []]):=N4 λ_ h=>
 fg (F:=oS) (M:=λ(x:am×Int) (r:Bool×Int)=>C Pg GE 199 [.agg (aj x.1),.func (.func 200) [] [.bptr 0 0]] [] [.cells [.int .i64 x.2] []] (.bool r.1) [] [.cells [.int .i64 r.2] []]) (λrec hrec x r h=>yr _ (λe k0=>N4 λr h=>hrec (e,k0) r h) _ h) h
noncomputable def qbc:Code:=f160.body.getD .skip
def YC:List Nat:=[]
theorem qae:ZF Pg YC 160 f160 qbc:=zf call160 func160 rfl mixed
def GI(e:am):Option Int:=
 (GM e).bind λr1=>
 if decide (r1>400)=true then
  some 7
 else
  (GL e).bind λr3=>
  if decide (r3>40)=true then
   some 8
  else
   (rR e 0).bind λr5=>
   some r5.2
theorem I5{e:am}:OV 160 [.agg (aj e)] (GI e) (λr=>.int .i64 r) []:=qae.v<|
 tb λr1 br1=>te (cO e)<|tv (aY e)<|ck (I7 _ br1)<|tF tE<|tb λr3 br3=>tv (aY e)<|ck (I6 _ br3)<|tF tE<|tb λr5 br5=>tx qcu<|ts<|tv (aY e)<|tc [1] (zC _ br5)<|ts<|tE
abbrev bh:=(am->(List Int)->Bool->Option ((List Int)×Bool))
abbrev ch(R:bh):Prop:=∀(e:am) (k0:(List Int)) (k02:Bool),OG 161 [.bptr 0 0,.agg (aj e)] [] [.cells [.nptr 0 132,sl (cI .u8) k0,.bool k02] [(1,5)]] (R e k0 k02) (λr=>.tuple []) [] (λr=>[.cells [.nptr 0 132,sl (cI .u8) r.1,.bool r.2] [(1,5)]])
noncomputable def qbA:Code:=f246.body.getD .skip
def Zp:List Nat:=[]
theorem qaA:ZF Pg Zp 246 f246 qbA:=zf call246 func246 rfl mixed
def qd(i:Int)(a:waC)(k1:(List Int))(k12:Bool):Option ((List Int)×Bool):=
 (dw a i).bind λx1=>
 (dT x1 k1 k12).bind λr2=>
 some (r2.2,r2.1)
theorem xZ{i:Int}{a:waC}{k1:(List Int)}{k12:Bool}:OG 246 [.int .i64 i,.bptr 0 0,.eptr ((cL ai) a)] [] [.cells [.bptr 1 0] [],.cells [.nptr 1 132,sl (cI .u8) k1,.bool k12] [(1,5)]] (qd i a k1 k12) (λr=>.tuple []) [] (λr=>[.cells [.bptr 1 0] [],.cells [.nptr 1 132,sl (cI .u8) r.1,.bool r.2] [(1,5)]]):=qaA.g 2<|
 tb λx1 bx1=>tb λr2 br2=>tk<|Av (.dx [0,0,0,6,14] [] [] [])<|ts<|tv (cH VI (sl ai a) [])<|tv (dC.ia (k:=.i64) bx1)<|tv (dP x1)<|tc [1] (dU _ br2)<|tE
section
variable(v:waC)(i:Int)(t7:Int)(m:(List Int))(m2:Bool)
def lq:Option (((List Int))):=
 if decide (i>0)=true then
  (af ([ee]:List ac) m m2).bind λr3=>
  some r3
 else
  some m
theorem sC:OJ 2 (cA nQ 1014) (lq i m m2) .normal (λo=>aM 20 [(0,.bptr 0 0),(2,.func (.func 246) [] [.bptr 1 0,.eptr ((cL ai) v)]),(6,.int .i64 i),(7,.int .i64 t7),(8,.int .i64 i)] [.cells [.nptr 0 132,sl (cI .u8) o,.bool m2] [(1,5)],.cells [.bptr 0 0] []] []) (aM 20 [(0,.bptr 0 0),(2,.func (.func 246) [] [.bptr 1 0,.eptr ((cL ai) v)]),(6,.int .i64 i),(7,.int .i64 t7),(8,.int .i64 i)] [.cells [.nptr 0 132,sl (cI .u8) m,.bool m2] [(1,5)],.cells [.bptr 0 0] []] []):=oV.j<|
 tF (tb λr3 br3=>tv (bK [ee] 1 rfl)<|tc [0] (ae _ br3)<|tE)<|tE
end
section
variable(v:waC)(t7:Int)(t8:Int)(m:(List Int))(m2:Bool)
def fH:ay:=aM 20 [(0,.bptr 0 0),(2,.func (.func 246) [] [.bptr 1 0,.eptr ((cL ai) v)]),(7,.int .i64 t7),(8,.int .i64 t8)] [.cells [.nptr 0 132,sl (cI .u8) m,.bool m2] [(1,5)],.cells [.bptr 0 0] []] []
def j1(o:(List Int)×Bool):ay:=aM 20 [] [.cells [.nptr 0 132,sl (cI .u8) o.1,.bool o.2] [(1,5)],.cells [.bptr 0 0] []] []
def j0:Option ((Int×(List Int)×Bool)⊕(((List Int)×Bool))):=
 if decide (t8<t7)=true then
  (lq t8 m m2).bind λo4=>
  (qd t8 v o4 m2).bind λr5=>
  some (.inl (fh (t8+1),r5.1,r5.2))
 else
  some (.inr (m,m2))
def lr:Option (((List Int)×Bool)):=loop (λ(zz:Int×(List Int)×Bool)=>j0 v t7 zz.1 zz.2.1 zz.2.2) (t8,m,m2)
theorem qF:OL 2 (cA nQ 15) (j0 v t7 t8 m m2) (λ(zz:Int×(List Int)×Bool)=>fH v t7 zz.1 zz.2.1 zz.2.2) (λ_=>.exit 0) j1 (fH v t7 t8 m m2):=oV.l<|
 tF (tb λo4 bo4=>tb λr5 br5=>gz 2<|cu (sC v t8 t7 m m2 _ bo4)<|tc [1,0] (xZ _ br5)<|tE)<|tE
theorem sD:OJ 2 (.loop (cA nQ 15)) (lr v t7 t8 m m2) (.exit 0) j1 (fH v t7 t8 m m2):=sQ λ_=>qF _ _ _ _ _
end
def ou(n:Int)(c:waC)(k0:(List Int))(k02:Bool):Option ((List Int)×Bool):=
 (lr c n 0 k0 k02).bind λo6=>
 some (o6.1,o6.2)
theorem wV{n:Int}{c:waC}{k0:(List Int)}{k02:Bool}:OG 149 [.bptr 0 0,.int .i64 n,.func (.func 246) [] [.bptr 1 0,.eptr ((cL ai) c)]] [] [.cells [.nptr 0 132,sl (cI .u8) k0,.bool k02] [(1,5)],.cells [.bptr 0 0] []] (ou n c k0 k02) (λr=>.tuple []) [] (λr=>[.cells [.nptr 0 132,sl (cI .u8) r.1,.bool r.2] [(1,5)],.cells [.bptr 0 0] []]):=oV.g 2<|
 tb λo6 bo6=>cu (sD c n 0 k0 k02 _ bo6)<|tE
noncomputable def qbl:Code:=f204.body.getD .skip
def Y0:List Nat:=[]
theorem qam:ZF Pg Y0 204 f204 qbl:=zf call204 func204 rfl mixed
def mg(a:waC)(k0:(List Int))(k02:Bool):Option ((List Int)×Bool):=
 if((a.length:Int)==0)=true then
  some (k0,k02)
 else
  (af ([Uv]:List ac) k0 k02).bind λr2=>
  (ou (a.length:Int) a r2 k02).bind λr3=>
  (af ([Uw]:List ac) r3.1 r3.2).bind λr4=>
  some (r4,r3.2)
theorem oL{a:waC}{k0:(List Int)}{k02:Bool}:OG 204 [.bptr 0 0,sl ai a] [] [.cells [.nptr 0 132,sl (cI .u8) k0,.bool k02] [(1,5)]] (mg a k0 k02) (λr=>.tuple []) [] (λr=>[.cells [.nptr 0 132,sl (cI .u8) r.1,.bool r.2] [(1,5)]]):=qam.g 1<|
 TV (rfl:bO (.bptr 0 0)=some [.bptr 0 0]) rfl<|te (X3 ai a)<|tv (cH VI (sl ai a) [])<|cb (dC.ln a)<|tF tE<|tb λr2 br2=>tb λr3 br3=>tb λr4 br4=>ts<|tv (bK [Uv] 1 rfl)<|tc [0] (ae _ br2)<|ts<|tv (cH VI (sl ai a) [])<|cb (dC.ln a)<|tc [0,1] (wV _ br3)<|ts<|tv (bK [Uw] 1 rfl)<|tc [0] (ae _ br4)<|tE
noncomputable def qbB:Code:=f247.body.getD .skip
def Zq:List Nat:=[]
theorem qaB:ZF Pg Zq 247 f247 qbB:=zf call247 func247 rfl mixed
def rn(R110:bh)(i:Int)(a:waE)(k1:(List Int))(k12:Bool):Option ((List Int)×Bool):=
 (dw a i).bind λx1=>
 (R110 x1 k1 k12).bind λr2=>
 some (r2.1,r2.2)
theorem y7(R110:bh)(hR110:ch R110){i:Int}{a:waE}{k1:(List Int)}{k12:Bool}:OG 247 [.int .i64 i,.bptr 0 0,.eptr ((cL aj) a)] [] [.cells [.bptr 1 0] [],.cells [.nptr 1 132,sl (cI .u8) k1,.bool k12] [(1,5)]] (rn R110 i a k1 k12) (λr=>.tuple []) [] (λr=>[.cells [.bptr 1 0] [],.cells [.nptr 1 132,sl (cI .u8) r.1,.bool r.2] [(1,5)]]):=qaB.g 2<|
 tb λx1 bx1=>tb λr2 br2=>tk<|Av (.dx [0,0,0,6,14] [] [] [])<|ts<|tv (cH XM (sl aj a) [])<|tv (fU.ia (k:=.i64) bx1)<|tv (aY x1)<|tc [1] (hR110 _ _ _ _ br2)<|tE
section
variable(v:waE)(i:Int)(t7:Int)(m:(List Int))(m2:Bool)
def ls:Option (((List Int))):=
 if decide (i>0)=true then
  (af ([ee]:List ac) m m2).bind λr3=>
  some r3
 else
  some m
theorem sF:OJ 2 (cA nQ 1014) (ls i m m2) .normal (λo=>aM 20 [(0,.bptr 0 0),(2,.func (.func 247) [] [.bptr 1 0,.eptr ((cL aj) v)]),(6,.int .i64 i),(7,.int .i64 t7),(8,.int .i64 i)] [.cells [.nptr 0 132,sl (cI .u8) o,.bool m2] [(1,5)],.cells [.bptr 0 0] []] []) (aM 20 [(0,.bptr 0 0),(2,.func (.func 247) [] [.bptr 1 0,.eptr ((cL aj) v)]),(6,.int .i64 i),(7,.int .i64 t7),(8,.int .i64 i)] [.cells [.nptr 0 132,sl (cI .u8) m,.bool m2] [(1,5)],.cells [.bptr 0 0] []] []):=oV.j<|
 tF (tb λr3 br3=>tv (bK [ee] 1 rfl)<|tc [0] (ae _ br3)<|tE)<|tE
end
section
variable(R110:bh)(v:waE)(t7:Int)(t8:Int)(m:(List Int))(m2:Bool)
def fI:ay:=aM 20 [(0,.bptr 0 0),(2,.func (.func 247) [] [.bptr 1 0,.eptr ((cL aj) v)]),(7,.int .i64 t7),(8,.int .i64 t8)] [.cells [.nptr 0 132,sl (cI .u8) m,.bool m2] [(1,5)],.cells [.bptr 0 0] []] []
def j3(o:(List Int)×Bool):ay:=aM 20 [] [.cells [.nptr 0 132,sl (cI .u8) o.1,.bool o.2] [(1,5)],.cells [.bptr 0 0] []] []
def j2:Option ((Int×(List Int)×Bool)⊕(((List Int)×Bool))):=
 if decide (t8<t7)=true then
  (ls t8 m m2).bind λo4=>
  (rn R110 t8 v o4 m2).bind λr5=>
  some (.inl (fh (t8+1),r5.1,r5.2))
 else
  some (.inr (m,m2))
def lu:Option (((List Int)×Bool)):=loop (λ(zz:Int×(List Int)×Bool)=>j2 R110 v t7 zz.1 zz.2.1 zz.2.2) (t8,m,m2)
theorem qG(hR110:ch R110):OL 2 (cA nQ 15) (j2 R110 v t7 t8 m m2) (λ(zz:Int×(List Int)×Bool)=>fI v t7 zz.1 zz.2.1 zz.2.2) (λ_=>.exit 0) j3 (fI v t7 t8 m m2):=oV.l<|
 tF (tb λo4 bo4=>tb λr5 br5=>gz 2<|cu (sF v t8 t7 m m2 _ bo4)<|tc [1,0] (y7 R110 hR110 _ br5)<|tE)<|tE
theorem sG(hR110:ch R110):OJ 2 (.loop (cA nQ 15)) (lu R110 v t7 t8 m m2) (.exit 0) j3 (fI v t7 t8 m m2):=sQ λ_=>qG _ _ _ _ _ _ hR110
end
def oz(R110:bh)(n:Int)(c:waE)(k0:(List Int))(k02:Bool):Option ((List Int)×Bool):=
 (lu R110 c n 0 k0 k02).bind λo6=>
 some (o6.1,o6.2)
theorem wW(R110:bh)(hR110:ch R110){n:Int}{c:waE}{k0:(List Int)}{k02:Bool}:OG 149 [.bptr 0 0,.int .i64 n,.func (.func 247) [] [.bptr 1 0,.eptr ((cL aj) c)]] [] [.cells [.nptr 0 132,sl (cI .u8) k0,.bool k02] [(1,5)],.cells [.bptr 0 0] []] (oz R110 n c k0 k02) (λr=>.tuple []) [] (λr=>[.cells [.nptr 0 132,sl (cI .u8) r.1,.bool r.2] [(1,5)],.cells [.bptr 0 0] []]):=oV.g 2<|
 tb λo6 bo6=>cu (sG R110 c n 0 k0 k02 hR110 _ bo6)<|tE
noncomputable def qbm:Code:=f205.body.getD .skip
def Y1:List Nat:=[]
theorem qan:ZF Pg Y1 205 f205 qbm:=zf call205 func205 rfl mixed
def ea(R110:bh)(a:waE)(k0:(List Int))(k02:Bool):Option ((List Int)×Bool):=
 (af ([mD]:List ac) k0 k02).bind λr1=>
 (oz R110 (a.length:Int) a r1 k02).bind λr2=>
 (af ([mE]:List ac) r2.1 r2.2).bind λr3=>
 some (r3,r2.2)
theorem dR(R110:bh)(hR110:ch R110){a:waE}{k0:(List Int)}{k02:Bool}:OG 205 [.bptr 0 0,sl aj a] [] [.cells [.nptr 0 132,sl (cI .u8) k0,.bool k02] [(1,5)]] (ea R110 a k0 k02) (λr=>.tuple []) [] (λr=>[.cells [.nptr 0 132,sl (cI .u8) r.1,.bool r.2] [(1,5)]]):=qan.g 1<|
 tb λr1 br1=>tb λr2 br2=>tb λr3 br3=>TV (rfl:bO (.bptr 0 0)=some [.bptr 0 0]) rfl<|te (X3 aj a)<|ts<|tv (bK [mD] 1 rfl)<|tc [0] (ae _ br1)<|ts<|tv (cH XM (sl aj a) [])<|cb (fU.ln a)<|tc [0,1] (wW R110 hR110 _ br2)<|ts<|tv (bK [mE] 1 rfl)<|tc [0] (ae _ br3)<|tE
end Go.Proofs.YtankopenjcbeeaaGreatDoor
