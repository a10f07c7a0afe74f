/- PROVED: a part of the proof. Conditions: none. -/
import Derived.Test.YtibglelmlnfojaaGreatDoorpt12
import Derived.Test.YtibglelmlnfojaaGreatDoorpt10
set_option linter.unusedSimpArgs false
set_option linter.unusedVariables false
noncomputable section
namespace Go.Proofs.YtibglelmlnfojaaGreatDoor
open Go Go.Proofs.Tryz
set_option linter.unusedVariables false
set_option maxRecDepth 100000
noncomputable def Wo:Code:=f106.body.getD .skip
def qmd:List Nat:=[122,134,154]
theorem ZP:ZF Pg qmd 106 f106 Wo:=zf call106 func106 rfl mixed
section
variable(e:ag)(ok:Bool)(m:Bool)(m2:Bool)(m3:Int)(m4:Int)(m5:Bool)(m6:Bool)(m7:Int)(m8:Int)(m9:Bool)
def sQ:Option Bool:=
 if (!m) = true then
  if(e.N !=0)=true then
   some true
  else if(!m2)=true then
   if(!(e.Name==([]:ae)))=true then
    some true
   else if(m4==0)=true then
    if decide ((e.Kids.length:Int)>0)=true then
     some true
    else if(!m5)=true then
     if decide ((e.Params.length:Int)>0)=true then
      some true
     else if(!m6)=true then
      if decide ((e.Alts.length:Int)>0)=true then
       some true
      else if(!m9)=true then
       some (decide ((e.Types.length:Int)>0))
      else
       some false
     else if(!m9)=true then
      some (decide ((e.Types.length:Int)>0))
     else
      some false
    else if(!m6)=true then
     if decide ((e.Alts.length:Int)>0)=true then
      some true
     else if(!m9)=true then
      some (decide ((e.Types.length:Int)>0))
     else
      some false
    else if(!m9)=true then
     some (decide ((e.Types.length:Int)>0))
    else
     some false
   else if(!m5)=true then
    if decide ((e.Params.length:Int)>0)=true then
     some true
    else if(!m6)=true then
     if decide ((e.Alts.length:Int)>0)=true then
      some true
     else if(!m9)=true then
      some (decide ((e.Types.length:Int)>0))
     else
      some false
    else if(!m9)=true then
     some (decide ((e.Types.length:Int)>0))
    else
     some false
   else if(!m6)=true then
    if decide ((e.Alts.length:Int)>0)=true then
     some true
    else if(!m9)=true then
     some (decide ((e.Types.length:Int)>0))
    else
     some false
   else if(!m9)=true then
    some (decide ((e.Types.length:Int)>0))
   else
    some false
  else if(m4==0)=true then
   if decide ((e.Kids.length:Int)>0)=true then
    some true
   else if(!m5)=true then
    if decide ((e.Params.length:Int)>0)=true then
     some true
    else if(!m6)=true then
     if decide ((e.Alts.length:Int)>0)=true then
      some true
     else if(!m9)=true then
      some (decide ((e.Types.length:Int)>0))
     else
      some false
    else if(!m9)=true then
     some (decide ((e.Types.length:Int)>0))
    else
     some false
   else if(!m6)=true then
    if decide ((e.Alts.length:Int)>0)=true then
     some true
    else if(!m9)=true then
     some (decide ((e.Types.length:Int)>0))
    else
     some false
   else if(!m9)=true then
    some (decide ((e.Types.length:Int)>0))
   else
    some false
  else if(!m5)=true then
   if decide ((e.Params.length:Int)>0)=true then
    some true
   else if(!m6)=true then
    if decide ((e.Alts.length:Int)>0)=true then
     some true
    else if(!m9)=true then
     some (decide ((e.Types.length:Int)>0))
    else
     some false
   else if(!m9)=true then
    some (decide ((e.Types.length:Int)>0))
   else
    some false
  else if(!m6)=true then
   if decide ((e.Alts.length:Int)>0)=true then
    some true
   else if(!m9)=true then
    some (decide ((e.Types.length:Int)>0))
   else
    some false
  else if(!m9)=true then
   some (decide ((e.Types.length:Int)>0))
  else
   some false
 else if(!m2)=true then
  if(!(e.Name==([]:ae)))=true then
   some true
  else if(m4==0)=true then
   if decide ((e.Kids.length:Int)>0)=true then
    some true
   else if(!m5)=true then
    if decide ((e.Params.length:Int)>0)=true then
     some true
    else if(!m6)=true then
     if decide ((e.Alts.length:Int)>0)=true then
      some true
     else if(!m9)=true then
      some (decide ((e.Types.length:Int)>0))
     else
      some false
    else if(!m9)=true then
     some (decide ((e.Types.length:Int)>0))
    else
     some false
   else if(!m6)=true then
    if decide ((e.Alts.length:Int)>0)=true then
     some true
    else if(!m9)=true then
     some (decide ((e.Types.length:Int)>0))
    else
     some false
   else if(!m9)=true then
    some (decide ((e.Types.length:Int)>0))
   else
    some false
  else if(!m5)=true then
   if decide ((e.Params.length:Int)>0)=true then
    some true
   else if(!m6)=true then
    if decide ((e.Alts.length:Int)>0)=true then
     some true
    else if(!m9)=true then
     some (decide ((e.Types.length:Int)>0))
    else
     some false
   else if(!m9)=true then
    some (decide ((e.Types.length:Int)>0))
   else
    some false
  else if(!m6)=true then
   if decide ((e.Alts.length:Int)>0)=true then
    some true
   else if(!m9)=true then
    some (decide ((e.Types.length:Int)>0))
   else
    some false
  else if(!m9)=true then
   some (decide ((e.Types.length:Int)>0))
  else
   some false
 else if(m4==0)=true then
  if decide ((e.Kids.length:Int)>0)=true then
   some true
  else if(!m5)=true then
   if decide ((e.Params.length:Int)>0)=true then
    some true
   else if(!m6)=true then
    if decide ((e.Alts.length:Int)>0)=true then
     some true
    else if(!m9)=true then
     some (decide ((e.Types.length:Int)>0))
    else
     some false
   else if(!m9)=true then
    some (decide ((e.Types.length:Int)>0))
   else
    some false
  else if(!m6)=true then
   if decide ((e.Alts.length:Int)>0)=true then
    some true
   else if(!m9)=true then
    some (decide ((e.Types.length:Int)>0))
   else
    some false
  else if(!m9)=true then
   some (decide ((e.Types.length:Int)>0))
  else
   some false
 else if(!m5)=true then
  if decide ((e.Params.length:Int)>0)=true then
   some true
  else if(!m6)=true then
   if decide ((e.Alts.length:Int)>0)=true then
    some true
   else if(!m9)=true then
    some (decide ((e.Types.length:Int)>0))
   else
    some false
  else if(!m9)=true then
   some (decide ((e.Types.length:Int)>0))
  else
   some false
 else if(!m6)=true then
  if decide ((e.Alts.length:Int)>0)=true then
   some true
  else if(!m9)=true then
   some (decide ((e.Types.length:Int)>0))
  else
   some false
 else if(!m9)=true then
  some (decide ((e.Types.length:Int)>0))
 else
  some false
theorem Ni:OJ 0 (cA Wo 14) (sQ e m m2 m4 m5 m6 m9) .normal (λo=>aQ 156 [(1,.eptr (ah e)),(3,.bptr 1 0),(4,.bool ok),(5,.bool o)] [.dead,.cells [.bool m,.bool m2,.int .i64 m3,.int .i64 m4,.bool m5,.bool m6,.int .i64 m7,.int .i64 m8,.bool m9] []] []) (aQ 156 [(1,.eptr (ah e)),(3,.bptr 1 0),(4,.bool ok)] [.dead,.cells [.bool m,.bool m2,.int .i64 m3,.int .i64 m4,.bool m5,.bool m6,.int .i64 m7,.int .i64 m8,.bool m9] []] []):=ZP.j<|
 tf (λc2=>have pp4:=λ{X Y Z} (r:PV _ X Y Z)=>ts<|tg 4 c2<|tw (bF e)<|r;tf (λc3=>pp4<|tg 9 c3<|tE) λc3=>have pp6:=λ{X Y Z} (r:PV _ X Y Z)=>pp4<|tg 9 c3<|ts<|r;tf (λc5=>have pp8:=λ{X Y Z} (r:PV _ X Y Z)=>pp6<|tg 13 c5<|tw (ch e)<|r;tf (λc7=>pp8<|tg 19 c7<|tE) λc7=>have pp10:=λ{X Y Z} (r:PV _ X Y Z)=>pp8<|tg 19 c7<|ts<|r;tf (λc9=>have pp12:=λ{X Y Z} (r:PV _ X Y Z)=>pp10<|tg 23 c9<|tw (aq e)<|bL (dJ.ln e.Kids)<|r;tf (λc11=>pp12<|tg 30 c11<|tE) λc11=>have pp14:=λ{X Y Z} (r:PV _ X Y Z)=>pp12<|tg 30 c11<|ts<|r;tf (λc13=>have pp16:=λ{X Y Z} (r:PV _ X Y Z)=>pp14<|tg 34 c13<|tw (aS e)<|bL (pj.ln e.Params)<|r;tf (λc15=>pp16<|tg 41 c15<|tE) λc15=>have pp18:=λ{X Y Z} (r:PV _ X Y Z)=>pp16<|tg 41 c15<|ts<|r;tf (λc17=>have pp20:=λ{X Y Z} (r:PV _ X Y Z)=>pp18<|tg 45 c17<|tw (aB e)<|bL (gz.ln e.Alts)<|r;tf (λc19=>pp20<|tg 52 c19<|tE) λc19=>have pp22:=λ{X Y Z} (r:PV _ X Y Z)=>pp20<|tg 52 c19<|ts<|r;tf (λc21=>pp22<|tg 56 c21<|tw (aw e)<|bL (cu.ln e.Types)<|tE) λc21=>pp22<|tg 56 c21<|tE) λc17=>have pp24:=λ{X Y Z} (r:PV _ X Y Z)=>pp18<|tg 45 c17<|ts<|r;tf (λc23=>pp24<|tg 56 c23<|tw (aw e)<|bL (cu.ln e.Types)<|tE) λc23=>pp24<|tg 56 c23<|tE) λc13=>have pp26:=λ{X Y Z} (r:PV _ X Y Z)=>pp14<|tg 34 c13<|ts<|r;tf (λc25=>have pp28:=λ{X Y Z} (r:PV _ X Y Z)=>pp26<|tg 45 c25<|tw (aB e)<|bL (gz.ln e.Alts)<|r;tf (λc27=>pp28<|tg 52 c27<|tE) λc27=>have pp30:=λ{X Y Z} (r:PV _ X Y Z)=>pp28<|tg 52 c27<|ts<|r;tf (λc29=>pp30<|tg 56 c29<|tw (aw e)<|bL (cu.ln e.Types)<|tE) λc29=>pp30<|tg 56 c29<|tE) λc25=>have pp32:=λ{X Y Z} (r:PV _ X Y Z)=>pp26<|tg 45 c25<|ts<|r;tf (λc31=>pp32<|tg 56 c31<|tw (aw e)<|bL (cu.ln e.Types)<|tE) λc31=>pp32<|tg 56 c31<|tE) λc9=>have pp34:=λ{X Y Z} (r:PV _ X Y Z)=>pp10<|tg 23 c9<|ts<|r;tf (λc33=>have pp36:=λ{X Y Z} (r:PV _ X Y Z)=>pp34<|tg 34 c33<|tw (aS e)<|bL (pj.ln e.Params)<|r;tf (λc35=>pp36<|tg 41 c35<|tE) λc35=>have pp38:=λ{X Y Z} (r:PV _ X Y Z)=>pp36<|tg 41 c35<|ts<|r;tf (λc37=>have pp40:=λ{X Y Z} (r:PV _ X Y Z)=>pp38<|tg 45 c37<|tw (aB e)<|bL (gz.ln e.Alts)<|r;tf (λc39=>pp40<|tg 52 c39<|tE) λc39=>have pp42:=λ{X Y Z} (r:PV _ X Y Z)=>pp40<|tg 52 c39<|ts<|r;tf (λc41=>pp42<|tg 56 c41<|tw (aw e)<|bL (cu.ln e.Types)<|tE) λc41=>pp42<|tg 56 c41<|tE) λc37=>have pp44:=λ{X Y Z} (r:PV _ X Y Z)=>pp38<|tg 45 c37<|ts<|r;tf (λc43=>pp44<|tg 56 c43<|tw (aw e)<|bL (cu.ln e.Types)<|tE) λc43=>pp44<|tg 56 c43<|tE) λc33=>have pp46:=λ{X Y Z} (r:PV _ X Y Z)=>pp34<|tg 34 c33<|ts<|r;tf (λc45=>have pp48:=λ{X Y Z} (r:PV _ X Y Z)=>pp46<|tg 45 c45<|tw (aB e)<|bL (gz.ln e.Alts)<|r;tf (λc47=>pp48<|tg 52 c47<|tE) λc47=>have pp50:=λ{X Y Z} (r:PV _ X Y Z)=>pp48<|tg 52 c47<|ts<|r;tf (λc49=>pp50<|tg 56 c49<|tw (aw e)<|bL (cu.ln e.Types)<|tE) λc49=>pp50<|tg 56 c49<|tE) λc45=>have pp52:=λ{X Y Z} (r:PV _ X Y Z)=>pp46<|tg 45 c45<|ts<|r;tf (λc51=>pp52<|tg 56 c51<|tw (aw e)<|bL (cu.ln e.Types)<|tE) λc51=>pp52<|tg 56 c51<|tE) λc5=>have pp54:=λ{X Y Z} (r:PV _ X Y Z)=>pp6<|tg 13 c5<|ts<|r;tf (λc53=>have pp56:=λ{X Y Z} (r:PV _ X Y Z)=>pp54<|tg 23 c53<|tw (aq e)<|bL (dJ.ln e.Kids)<|r;tf (λc55=>pp56<|tg 30 c55<|tE) λc55=>have pp58:=λ{X Y Z} (r:PV _ X Y Z)=>pp56<|tg 30 c55<|ts<|r;tf (λc57=>have pp60:=λ{X Y Z} (r:PV _ X Y Z)=>pp58<|tg 34 c57<|tw (aS e)<|bL (pj.ln e.Params)<|r;tf (λc59=>pp60<|tg 41 c59<|tE) λc59=>have pp62:=λ{X Y Z} (r:PV _ X Y Z)=>pp60<|tg 41 c59<|ts<|r;tf (λc61=>have pp64:=λ{X Y Z} (r:PV _ X Y Z)=>pp62<|tg 45 c61<|tw (aB e)<|bL (gz.ln e.Alts)<|r;tf (λc63=>pp64<|tg 52 c63<|tE) λc63=>have pp66:=λ{X Y Z} (r:PV _ X Y Z)=>pp64<|tg 52 c63<|ts<|r;tf (λc65=>pp66<|tg 56 c65<|tw (aw e)<|bL (cu.ln e.Types)<|tE) λc65=>pp66<|tg 56 c65<|tE) λc61=>have pp68:=λ{X Y Z} (r:PV _ X Y Z)=>pp62<|tg 45 c61<|ts<|r;tf (λc67=>pp68<|tg 56 c67<|tw (aw e)<|bL (cu.ln e.Types)<|tE) λc67=>pp68<|tg 56 c67<|tE) λc57=>have pp70:=λ{X Y Z} (r:PV _ X Y Z)=>pp58<|tg 34 c57<|ts<|r;tf (λc69=>have pp72:=λ{X Y Z} (r:PV _ X Y Z)=>pp70<|tg 45 c69<|tw (aB e)<|bL (gz.ln e.Alts)<|r;tf (λc71=>pp72<|tg 52 c71<|tE) λc71=>have pp74:=λ{X Y Z} (r:PV _ X Y Z)=>pp72<|tg 52 c71<|ts<|r;tf (λc73=>pp74<|tg 56 c73<|tw (aw e)<|bL (cu.ln e.Types)<|tE) λc73=>pp74<|tg 56 c73<|tE) λc69=>have pp76:=λ{X Y Z} (r:PV _ X Y Z)=>pp70<|tg 45 c69<|ts<|r;tf (λc75=>pp76<|tg 56 c75<|tw (aw e)<|bL (cu.ln e.Types)<|tE) λc75=>pp76<|tg 56 c75<|tE) λc53=>have pp78:=λ{X Y Z} (r:PV _ X Y Z)=>pp54<|tg 23 c53<|ts<|r;tf (λc77=>have pp80:=λ{X Y Z} (r:PV _ X Y Z)=>pp78<|tg 34 c77<|tw (aS e)<|bL (pj.ln e.Params)<|r;tf (λc79=>pp80<|tg 41 c79<|tE) λc79=>have pp82:=λ{X Y Z} (r:PV _ X Y Z)=>pp80<|tg 41 c79<|ts<|r;tf (λc81=>have pp84:=λ{X Y Z} (r:PV _ X Y Z)=>pp82<|tg 45 c81<|tw (aB e)<|bL (gz.ln e.Alts)<|r;tf (λc83=>pp84<|tg 52 c83<|tE) λc83=>have pp86:=λ{X Y Z} (r:PV _ X Y Z)=>pp84<|tg 52 c83<|ts<|r;tf (λc85=>pp86<|tg 56 c85<|tw (aw e)<|bL (cu.ln e.Types)<|tE) λc85=>pp86<|tg 56 c85<|tE) λc81=>have pp88:=λ{X Y Z} (r:PV _ X Y Z)=>pp82<|tg 45 c81<|ts<|r;tf (λc87=>pp88<|tg 56 c87<|tw (aw e)<|bL (cu.ln e.Types)<|tE) λc87=>pp88<|tg 56 c87<|tE) λc77=>have pp90:=λ{X Y Z} (r:PV _ X Y Z)=>pp78<|tg 34 c77<|ts<|r;tf (λc89=>have pp92:=λ{X Y Z} (r:PV _ X Y Z)=>pp90<|tg 45 c89<|tw (aB e)<|bL (gz.ln e.Alts)<|r;tf (λc91=>pp92<|tg 52 c91<|tE) λc91=>have pp94:=λ{X Y Z} (r:PV _ X Y Z)=>pp92<|tg 52 c91<|ts<|r;tf (λc93=>pp94<|tg 56 c93<|tw (aw e)<|bL (cu.ln e.Types)<|tE) λc93=>pp94<|tg 56 c93<|tE) λc89=>have pp96:=λ{X Y Z} (r:PV _ X Y Z)=>pp90<|tg 45 c89<|ts<|r;tf (λc95=>pp96<|tg 56 c95<|tw (aw e)<|bL (cu.ln e.Types)<|tE) λc95=>pp96<|tg 56 c95<|tE) λc2=>have pp98:=λ{X Y Z} (r:PV _ X Y Z)=>ts<|tg 4 c2<|ts<|r;tf (λc97=>have pp100:=λ{X Y Z} (r:PV _ X Y Z)=>pp98<|tg 13 c97<|tw (ch e)<|r;tf (λc99=>pp100<|tg 19 c99<|tE) λc99=>have pp102:=λ{X Y Z} (r:PV _ X Y Z)=>pp100<|tg 19 c99<|ts<|r;tf (λc101=>have pp104:=λ{X Y Z} (r:PV _ X Y Z)=>pp102<|tg 23 c101<|tw (aq e)<|bL (dJ.ln e.Kids)<|r;tf (λc103=>pp104<|tg 30 c103<|tE) λc103=>have pp106:=λ{X Y Z} (r:PV _ X Y Z)=>pp104<|tg 30 c103<|ts<|r;tf (λc105=>have pp108:=λ{X Y Z} (r:PV _ X Y Z)=>pp106<|tg 34 c105<|tw (aS e)<|bL (pj.ln e.Params)<|r;tf (λc107=>pp108<|tg 41 c107<|tE) λc107=>have pp110:=λ{X Y Z} (r:PV _ X Y Z)=>pp108<|tg 41 c107<|ts<|r;tf (λc109=>have pp112:=λ{X Y Z} (r:PV _ X Y Z)=>pp110<|tg 45 c109<|tw (aB e)<|bL (gz.ln e.Alts)<|r;tf (λc111=>pp112<|tg 52 c111<|tE) λc111=>have pp114:=λ{X Y Z} (r:PV _ X Y Z)=>pp112<|tg 52 c111<|ts<|r;tf (λc113=>pp114<|tg 56 c113<|tw (aw e)<|bL (cu.ln e.Types)<|tE) λc113=>pp114<|tg 56 c113<|tE) λc109=>have pp116:=λ{X Y Z} (r:PV _ X Y Z)=>pp110<|tg 45 c109<|ts<|r;tf (λc115=>pp116<|tg 56 c115<|tw (aw e)<|bL (cu.ln e.Types)<|tE) λc115=>pp116<|tg 56 c115<|tE) λc105=>have pp118:=λ{X Y Z} (r:PV _ X Y Z)=>pp106<|tg 34 c105<|ts<|r;tf (λc117=>have pp120:=λ{X Y Z} (r:PV _ X Y Z)=>pp118<|tg 45 c117<|tw (aB e)<|bL (gz.ln e.Alts)<|r;tf (λc119=>pp120<|tg 52 c119<|tE) λc119=>have pp122:=λ{X Y Z} (r:PV _ X Y Z)=>pp120<|tg 52 c119<|ts<|r;tf (λc121=>pp122<|tg 56 c121<|tw (aw e)<|bL (cu.ln e.Types)<|tE) λc121=>pp122<|tg 56 c121<|tE) λc117=>have pp124:=λ{X Y Z} (r:PV _ X Y Z)=>pp118<|tg 45 c117<|ts<|r;tf (λc123=>pp124<|tg 56 c123<|tw (aw e)<|bL (cu.ln e.Types)<|tE) λc123=>pp124<|tg 56 c123<|tE) λc101=>have pp126:=λ{X Y Z} (r:PV _ X Y Z)=>pp102<|tg 23 c101<|ts<|r;tf (λc125=>have pp128:=λ{X Y Z} (r:PV _ X Y Z)=>pp126<|tg 34 c125<|tw (aS e)<|bL (pj.ln e.Params)<|r;tf (λc127=>pp128<|tg 41 c127<|tE) λc127=>have pp130:=λ{X Y Z} (r:PV _ X Y Z)=>pp128<|tg 41 c127<|ts<|r;tf (λc129=>have pp132:=λ{X Y Z} (r:PV _ X Y Z)=>pp130<|tg 45 c129<|tw (aB e)<|bL (gz.ln e.Alts)<|r;tf (λc131=>pp132<|tg 52 c131<|tE) λc131=>have pp134:=λ{X Y Z} (r:PV _ X Y Z)=>pp132<|tg 52 c131<|ts<|r;tf (λc133=>pp134<|tg 56 c133<|tw (aw e)<|bL (cu.ln e.Types)<|tE) λc133=>pp134<|tg 56 c133<|tE) λc129=>have pp136:=λ{X Y Z} (r:PV _ X Y Z)=>pp130<|tg 45 c129<|ts<|r;tf (λc135=>pp136<|tg 56 c135<|tw (aw e)<|bL (cu.ln e.Types)<|tE) λc135=>pp136<|tg 56 c135<|tE) λc125=>have pp138:=λ{X Y Z} (r:PV _ X Y Z)=>pp126<|tg 34 c125<|ts<|r;tf (λc137=>have pp140:=λ{X Y Z} (r:PV _ X Y Z)=>pp138<|tg 45 c137<|tw (aB e)<|bL (gz.ln e.Alts)<|r;tf (λc139=>pp140<|tg 52 c139<|tE) λc139=>have pp142:=λ{X Y Z} (r:PV _ X Y Z)=>pp140<|tg 52 c139<|ts<|r;tf (λc141=>pp142<|tg 56 c141<|tw (aw e)<|bL (cu.ln e.Types)<|tE) λc141=>pp142<|tg 56 c141<|tE) λc137=>have pp144:=λ{X Y Z} (r:PV _ X Y Z)=>pp138<|tg 45 c137<|ts<|r;tf (λc143=>pp144<|tg 56 c143<|tw (aw e)<|bL (cu.ln e.Types)<|tE) λc143=>pp144<|tg 56 c143<|tE) λc97=>have pp146:=λ{X Y Z} (r:PV _ X Y Z)=>pp98<|tg 13 c97<|ts<|r;tf (λc145=>have pp148:=λ{X Y Z} (r:PV _ X Y Z)=>pp146<|tg 23 c145<|tw (aq e)<|bL (dJ.ln e.Kids)<|r;tf (λc147=>pp148<|tg 30 c147<|tE) λc147=>have pp150:=λ{X Y Z} (r:PV _ X Y Z)=>pp148<|tg 30 c147<|ts<|r;tf (λc149=>have pp152:=λ{X Y Z} (r:PV _ X Y Z)=>pp150<|tg 34 c149<|tw (aS e)<|bL (pj.ln e.Params)<|r;tf (λc151=>pp152<|tg 41 c151<|tE) λc151=>have pp154:=λ{X Y Z} (r:PV _ X Y Z)=>pp152<|tg 41 c151<|ts<|r;tf (λc153=>have pp156:=λ{X Y Z} (r:PV _ X Y Z)=>pp154<|tg 45 c153<|tw (aB e)<|bL (gz.ln e.Alts)<|r;tf (λc155=>pp156<|tg 52 c155<|tE) λc155=>have pp158:=λ{X Y Z} (r:PV _ X Y Z)=>pp156<|tg 52 c155<|ts<|r;tf (λc157=>pp158<|tg 56 c157<|tw (aw e)<|bL (cu.ln e.Types)<|tE) λc157=>pp158<|tg 56 c157<|tE) λc153=>have pp160:=λ{X Y Z} (r:PV _ X Y Z)=>pp154<|tg 45 c153<|ts<|r;tf (λc159=>pp160<|tg 56 c159<|tw (aw e)<|bL (cu.ln e.Types)<|tE) λc159=>pp160<|tg 56 c159<|tE) λc149=>have pp162:=λ{X Y Z} (r:PV _ X Y Z)=>pp150<|tg 34 c149<|ts<|r;tf (λc161=>have pp164:=λ{X Y Z} (r:PV _ X Y Z)=>pp162<|tg 45 c161<|tw (aB e)<|bL (gz.ln e.Alts)<|r;tf (λc163=>pp164<|tg 52 c163<|tE) λc163=>have pp166:=λ{X Y Z} (r:PV _ X Y Z)=>pp164<|tg 52 c163<|ts<|r;tf (λc165=>pp166<|tg 56 c165<|tw (aw e)<|bL (cu.ln e.Types)<|tE) λc165=>pp166<|tg 56 c165<|tE) λc161=>have pp168:=λ{X Y Z} (r:PV _ X Y Z)=>pp162<|tg 45 c161<|ts<|r;tf (λc167=>pp168<|tg 56 c167<|tw (aw e)<|bL (cu.ln e.Types)<|tE) λc167=>pp168<|tg 56 c167<|tE) λc145=>have pp170:=λ{X Y Z} (r:PV _ X Y Z)=>pp146<|tg 23 c145<|ts<|r;tf (λc169=>have pp172:=λ{X Y Z} (r:PV _ X Y Z)=>pp170<|tg 34 c169<|tw (aS e)<|bL (pj.ln e.Params)<|r;tf (λc171=>pp172<|tg 41 c171<|tE) λc171=>have pp174:=λ{X Y Z} (r:PV _ X Y Z)=>pp172<|tg 41 c171<|ts<|r;tf (λc173=>have pp176:=λ{X Y Z} (r:PV _ X Y Z)=>pp174<|tg 45 c173<|tw (aB e)<|bL (gz.ln e.Alts)<|r;tf (λc175=>pp176<|tg 52 c175<|tE) λc175=>have pp178:=λ{X Y Z} (r:PV _ X Y Z)=>pp176<|tg 52 c175<|ts<|r;tf (λc177=>pp178<|tg 56 c177<|tw (aw e)<|bL (cu.ln e.Types)<|tE) λc177=>pp178<|tg 56 c177<|tE) λc173=>have pp180:=λ{X Y Z} (r:PV _ X Y Z)=>pp174<|tg 45 c173<|ts<|r;tf (λc179=>pp180<|tg 56 c179<|tw (aw e)<|bL (cu.ln e.Types)<|tE) λc179=>pp180<|tg 56 c179<|tE) λc169=>have pp182:=λ{X Y Z} (r:PV _ X Y Z)=>pp170<|tg 34 c169<|ts<|r;tf (λc181=>have pp184:=λ{X Y Z} (r:PV _ X Y Z)=>pp182<|tg 45 c181<|tw (aB e)<|bL (gz.ln e.Alts)<|r;tf (λc183=>pp184<|tg 52 c183<|tE) λc183=>have pp186:=λ{X Y Z} (r:PV _ X Y Z)=>pp184<|tg 52 c183<|ts<|r;tf (λc185=>pp186<|tg 56 c185<|tw (aw e)<|bL (cu.ln e.Types)<|tE) λc185=>pp186<|tg 56 c185<|tE) λc181=>have pp188:=λ{X Y Z} (r:PV _ X Y Z)=>pp182<|tg 45 c181<|ts<|r;tf (λc187=>pp188<|tg 56 c187<|tw (aw e)<|bL (cu.ln e.Types)<|tE) λc187=>pp188<|tg 56 c187<|tE
end
section
variable(e:ag)(ok:Bool)(unused:Bool)(m:Bool)(m2:Bool)(m3:Int)(m4:Int)(m5:Bool)(m6:Bool)(m7:Int)(m8:Int)(m9:Bool)
def sR:Option Bool:=
 if(!ok)=true then
  some true
 else
  some unused
theorem Nj:OJ 0 (cA Wo 122) (sR ok unused) .normal (λo=>aQ 156 [(1,.eptr (ah e)),(3,.bptr 1 0),(81,.bool o)] [.dead,.cells [.bool m,.bool m2,.int .i64 m3,.int .i64 m4,.bool m5,.bool m6,.int .i64 m7,.int .i64 m8,.bool m9] []] []) (aQ 156 [(1,.eptr (ah e)),(3,.bptr 1 0),(4,.bool ok),(5,.bool unused)] [.dead,.cells [.bool m,.bool m2,.int .i64 m3,.int .i64 m4,.bool m5,.bool m6,.int .i64 m7,.int .i64 m8,.bool m9] []] []):=ZP.j<|
 tf (λc190=>tg 3 c190<|tE) λc190=>tg 3 c190<|tE
end
section
variable(e:ag)(m:Bool)(m2:Bool)(m3:Int)(m4:Int)(m5:Bool)(m6:Bool)(m7:Int)(m8:Int)(m9:Bool)
def sS:Option Bool:=
 if (e.Op == 1) = true then
  (Tb e.N).bind λr197=>
  if(!r197)=true then
   some true
  else if(e.Op==2)=true then
   if(e.N !=0)=true then
    some (e.N !=1)
   else
    some false
  else
   some false
 else if(e.Op==2)=true then
  if(e.N !=0)=true then
   some (e.N !=1)
  else
   some false
 else
  some false
theorem Nk:OJ 0 (cA Wo 1982) (sS e) .normal (λo=>aQ 156 [(1,.eptr (ah e)),(3,.bptr 1 0),(92,.bool o)] [.dead,.cells [.bool m,.bool m2,.int .i64 m3,.int .i64 m4,.bool m5,.bool m6,.int .i64 m7,.int .i64 m8,.bool m9] []] []) (aQ 156 [(1,.eptr (ah e)),(3,.bptr 1 0)] [.dead,.cells [.bool m,.bool m2,.int .i64 m3,.int .i64 m4,.bool m5,.bool m6,.int .i64 m7,.int .i64 m8,.bool m9] []] []):=ZP.j<|
 have pp196:=λ{X Y Z} (r:PV _ X Y Z)=>tw (bk e)<|r;tf (λc195=>tb λr197 br197=>have pp199:=λ{X Y Z} (r:PV _ X Y Z)=>pp196<|tg 4 c195<|tw (bF e)<|bG (Vn _ br197)<|r;tf (λc198=>pp199<|tg 10 c198<|tE) λc198=>have pp201:=λ{X Y Z} (r:PV _ X Y Z)=>pp199<|tg 10 c198<|tw (bk e)<|r;tf (λc200=>have pp203:=λ{X Y Z} (r:PV _ X Y Z)=>pp201<|tg 14 c200<|tw (bF e)<|r;tf (λc202=>pp203<|tg 19 c202<|tw (bF e)<|tE) λc202=>pp203<|tg 19 c202<|tE) λc200=>pp201<|tg 14 c200<|tE) λc195=>have pp205:=λ{X Y Z} (r:PV _ X Y Z)=>pp196<|tg 4 c195<|tw (bk e)<|r;tf (λc204=>have pp207:=λ{X Y Z} (r:PV _ X Y Z)=>pp205<|tg 14 c204<|tw (bF e)<|r;tf (λc206=>pp207<|tg 19 c206<|tw (bF e)<|tE) λc206=>pp207<|tg 19 c206<|tE) λc204=>pp205<|tg 14 c204<|tE
end
section
variable(e:ag)(t124:waB)(t125:Int)(m:Bool)(m2:Bool)(m3:Int)(m4:Int)(m5:Bool)(m6:Bool)(m7:Int)(m8:Int)(m9:Bool)(t126:Int)
def oz:aK:=aQ 156 [(1,.eptr (ah e)),(124,sl ai t124),(125,.int .i64 t125),(126,.int .i64 t126)] [.dead,.cells [.bool m,.bool m2,.int .i64 m3,.int .i64 m4,.bool m5,.bool m6,.int .i64 m7,.int .i64 m8,.bool m9] []] []
def DJ(o:Int⊕(Unit)):Exit:=match o with
 |(.inl _)=>.ret
 |(.inr _)=>.exit 1
def uC(o:Int⊕(Unit)):aK:=match o with
 |(.inl o)=>aQ 156 [(2,.int .i64 o)] [.dead,.cells [.bool m,.bool m2,.int .i64 m3,.int .i64 m4,.bool m5,.bool m6,.int .i64 m7,.int .i64 m8,.bool m9] []] []
 |(.inr o)=>aQ 156 [(1,.eptr (ah e))] [.dead,.cells [.bool m,.bool m2,.int .i64 m3,.int .i64 m4,.bool m5,.bool m6,.int .i64 m7,.int .i64 m8,.bool m9] []] []
instance iS_syntax_node_L4:KS 0 (oz e t124 t125 m m2 m3 m4 m5 m6 m7 m8 m9 t126):=⟨rfl,(bD (aI (eA (dM e)) (aI (up (aZ cJ t124)) (aI vzz (aI vzz vzz))))),(aI vzz (aI (aI vzz (aI vzz (aI vzz (aI vzz (aI vzz (aI vzz (aI vzz (aI vzz (aI vzz vzz))))))))) trivial))⟩
instance iO_syntax_node_L4{o:Int⊕(Unit)}:KS 0 (uC e m m2 m3 m4 m5 m6 m7 m8 m9 o):=match o with
 |(.inl o)=>⟨rfl,(bD (aI vzz vzz)),(aI vzz (aI (aI vzz (aI vzz (aI vzz (aI vzz (aI vzz (aI vzz (aI vzz (aI vzz (aI vzz vzz))))))))) trivial))⟩
 |(.inr o)=>⟨rfl,(bD (aI (eA (dM e)) trivial)),(aI vzz (aI (aI vzz (aI vzz (aI vzz (aI vzz (aI vzz (aI vzz (aI vzz (aI vzz (aI vzz vzz))))))))) trivial))⟩
def uB:Option (Int⊕(Int⊕(Unit))):=
 if decide (t126<t125)=true then
  (cX t124 t126).bind λx213=>
  (nO x213).bind λr214=>
  if(r214 !=0)=true then
   some (.inr (.inl r214))
  else
   some (.inl (dt (t126+1)))
 else
  some (.inr (.inr ()))
def sT:Option (Int⊕(Unit)):=loop (λ(zz:Int)=>uB t124 t125 zz) t126
theorem Ln:OL 0 (cA Wo 1015) (uB t124 t125 t126) (λ(zz:Int)=>oz e t124 t125 m m2 m3 m4 m5 m6 m7 m8 m9 zz) DJ (uC e m m2 m3 m4 m5 m6 m7 m8 m9) (oz e t124 t125 m m2 m3 m4 m5 m6 m7 m8 m9 t126):=ZP.lx<|
 tF (tb λx213 bx213=>tb λr214 br214=>tv (cu.ia (k:=.i64) bx213)<|tv (bo x213)<|tx K8<|tx (gJ x213)<|tv (ed x213 [])<|bG (Aw _ br214)<|tF tE<|tE)<|tE
theorem B8:OK 0 (.loop (cA Wo 1015)) (sT t124 t125 t126) DJ (uC e m m2 m3 m4 m5 m6 m7 m8 m9) (oz e t124 t125 m m2 m3 m4 m5 m6 m7 m8 m9 t126):=AN λ_=>Ln _ _ _ _ _ _ _ _ _ _ _ _ _
end
section
variable(v:Int)(t137:waF)(t138:Int)(t139:Int)(m:Bool)(m2:Bool)(m3:Int)(m4:Int)(m5:Bool)(m6:Bool)(m7:Int)(m8:Int)(m9:Bool)(m10:ae)(m11:Int)(m12:ae)(m13:waB)(m14:waA)(m15:Int)(m16:ae)(m17:Int)(m18:waC)(m19:waC)
def An:Option Bool:=
 if(v !=0)=true then
  (Ca (⟨m11,m12,m13,m14,(⟨m15,m16,m17,m18⟩:aa),m19⟩:af)).bind λr221=>
  some (!r221)
 else
  some false
theorem Nl:OJ 0 (cA Wo 261102) (An v m11 m12 m13 m14 m15 m16 m17 m18 m19) .normal (λo=>aQ 156 [(12,.int .i64 v),(137,sl bw t137),(138,.int .i64 t138),(139,.int .i64 t139),(153,.bool o)] [.dead,.cells [.bool m,.bool m2,.int .i64 m3,.int .i64 m4,.bool m5,.bool m6,.int .i64 m7,.int .i64 m8,.bool m9] [],.cells [.str m10,.int .i64 m11,.str m12,sl ai m13,sl cS m14,.int .i64 m15,.str m16,.int .i64 m17,sl ac m18,sl ac m19] []] []) (aQ 156 [(11,.bptr 2 0),(12,.int .i64 v),(137,sl bw t137),(138,.int .i64 t138),(139,.int .i64 t139)] [.dead,.cells [.bool m,.bool m2,.int .i64 m3,.int .i64 m4,.bool m5,.bool m6,.int .i64 m7,.int .i64 m8,.bool m9] [],.cells [.str m10,.int .i64 m11,.str m12,sl ai m13,sl cS m14,.int .i64 m15,.str m16,.int .i64 m17,sl ac m18,sl ac m19] []] []):=ZP.j<|
 tf (λc220=>tb λr221 br221=>tg 3 c220<|tv (ed (⟨m11,m12,m13,m14,(⟨m15,m16,m17,m18⟩:aa),m19⟩:af) [])<|bG (TQ _ br221)<|tE) λc220=>tg 3 c220<|tE
end
section
variable(t137:waF)(t138:Int)(m:Bool)(m2:Bool)(m3:Int)(m4:Int)(m5:Bool)(m6:Bool)(m7:Int)(m8:Int)(m9:Bool)(t139:Int)
def oA:aK:=aQ 156 [(137,sl bw t137),(138,.int .i64 t138),(139,.int .i64 t139)] [.dead,.cells [.bool m,.bool m2,.int .i64 m3,.int .i64 m4,.bool m5,.bool m6,.int .i64 m7,.int .i64 m8,.bool m9] []] []
def DK(o:Int⊕(Unit)):Exit:=match o with
 |(.inl _)=>.ret
 |(.inr _)=>.exit 3
def uD(o:Int⊕(Unit)):aK:=match o with
 |(.inl o)=>aQ 156 [(2,.int .i64 o)] [.dead,.cells [.bool m,.bool m2,.int .i64 m3,.int .i64 m4,.bool m5,.bool m6,.int .i64 m7,.int .i64 m8,.bool m9] []] []
 |(.inr o)=>aQ 156 [] [.dead,.cells [.bool m,.bool m2,.int .i64 m3,.int .i64 m4,.bool m5,.bool m6,.int .i64 m7,.int .i64 m8,.bool m9] []] []
instance iS_syntax_node_L5:KS 0 (oA t137 t138 m m2 m3 m4 m5 m6 m7 m8 m9 t139):=⟨rfl,(bD (aI (up (aZ qK t137)) (aI vzz (aI vzz vzz)))),(aI vzz (aI (aI vzz (aI vzz (aI vzz (aI vzz (aI vzz (aI vzz (aI vzz (aI vzz (aI vzz vzz))))))))) trivial))⟩
instance iO_syntax_node_L5{o:Int⊕(Unit)}:KS 0 (uD m m2 m3 m4 m5 m6 m7 m8 m9 o):=match o with
 |(.inl o)=>⟨rfl,(bD (aI vzz vzz)),(aI vzz (aI (aI vzz (aI vzz (aI vzz (aI vzz (aI vzz (aI vzz (aI vzz (aI vzz (aI vzz vzz))))))))) trivial))⟩
 |(.inr o)=>⟨rfl,(bD vzz),(aI vzz (aI (aI vzz (aI vzz (aI vzz (aI vzz (aI vzz (aI vzz (aI vzz (aI vzz (aI vzz vzz))))))))) trivial))⟩
def kN:Option (Int⊕(Int⊕(Unit))):=
 if decide (t139<t138)=true then
  (cX t137 t139).bind λx218=>
  (nO x218.Type_).bind λr219=>
  (An r219 x218.Type_.Op x218.Type_.Name x218.Type_.Args x218.Type_.Names x218.Type_.Pred.Op x218.Type_.Pred.Name x218.Type_.Pred.N x218.Type_.Pred.Kids x218.Type_.Preds).bind λo222=>
  if o222=true then
   some (.inr (.inl r219))
  else
   some (.inl (dt (t139+1)))
 else
  some (.inr (.inr ()))
def sU:Option (Int⊕(Unit)):=loop (λ(zz:Int)=>kN t137 t138 zz) t139
theorem Lo:OL 0 (cA Wo 2039) (kN t137 t138 t139) (λ(zz:Int)=>oA t137 t138 m m2 m3 m4 m5 m6 m7 m8 m9 zz) DK (uD m m2 m3 m4 m5 m6 m7 m8 m9) (oA t137 t138 m m2 m3 m4 m5 m6 m7 m8 m9 t139):=ZP.lx<|
 tF (tb λx218 bx218=>tb λr219 br219=>tb λo222 bo222=>tv (pj.ia (k:=.i64) bx218)<|tv (IJ x218)<|tx qbG<|tx (EF x218)<|tv (ed x218.Type_ [])<|bG (Aw _ br219)<|fc 0<|bT (Nl r219 t137 t138 t139 m m2 m3 m4 m5 m6 m7 m8 m9 x218.Name x218.Type_.Op x218.Type_.Name x218.Type_.Args x218.Type_.Names x218.Type_.Pred.Op x218.Type_.Pred.Name x218.Type_.Pred.N x218.Type_.Pred.Kids x218.Type_.Preds _ bo222)<|tF tE<|tE)<|tE
theorem B9:OK 0 (.loop (cA Wo 2039)) (sU t137 t138 t139) DK (uD m m2 m3 m4 m5 m6 m7 m8 m9) (oA t137 t138 m m2 m3 m4 m5 m6 m7 m8 m9 t139):=AN λ_=>Lo _ _ _ _ _ _ _ _ _ _ _ _
end
def wz (e:ag):Option Int :=
 (pO e.Op).bind λr1=>
 (sQ e r1.1.n r1.1.name r1.1.most r1.1.params r1.1.alts r1.1.types).bind λo189=>
 (sR r1.2 o189).bind λo191=>
 if o191=true then
  some 1
 else
  (vC e r1.1).bind λr193=>
  if(!r193)=true then
   some 13
  else
   (sS e).bind λo208=>
   if o208=true then
    some 2
   else
    (yM e r1.1).bind λr210=>
    if(r210 !=0)=true then
     some r210
    else
     (sT e.Types (e.Types.length:Int) 0).bind λo216=>match o216 with
     |(.inl o216)=>
      some o216
     | (.inr o216) =>
      (sU e.Params (e.Params.length:Int) 0).bind λo224=>match o224 with
      |(.inl o224)=>
       some o224
      |(.inr o224)=>
       some 0
theorem TP{e:ag}:OV 106 [.agg (ah e)] (wz e) (λr=>.int .i64 r) []:=ZP.v<|
 tb λr1 br1=>tb λo189 bo189=>tb λo191 bo191=>te (bQ e)<|tw (bk e)<|bG (O1 _ br1)<|tx qii<|tx (cF r1.1)<|fc 0<|bT (Ni e r1.2 r1.1.n r1.1.name r1.1.least r1.1.most r1.1.params r1.1.alts r1.1.typesLeast r1.1.typesMost r1.1.types _ bo189)<|fc 1<|bT (Nj e r1.2 o189 r1.1.n r1.1.name r1.1.least r1.1.most r1.1.params r1.1.alts r1.1.typesLeast r1.1.typesMost r1.1.types _ bo191)<|tF tE<|tb λr193 br193=>tv (aF e)<|tv (Df r1.1 [])<|bG (O0 _ br193)<|tF tE<|tb λo208 bo208=>fc 0<|bT (Nk e r1.1.n r1.1.name r1.1.least r1.1.most r1.1.params r1.1.alts r1.1.typesLeast r1.1.typesMost r1.1.types _ bo208)<|tF tE<|tb λr210 br210=>tv (aF e)<|tv (Df r1.1 [])<|bG (QS _ br210)<|tF tE<|tw (aw e)<|bL (cu.ln e.Types)<|t2 (λo216 bo216=>bT (B8 e e.Types (e.Types.length:Int) r1.1.n r1.1.name r1.1.least r1.1.most r1.1.params r1.1.alts r1.1.typesLeast r1.1.typesMost r1.1.types 0 _ bo216)<|tE) λo216 bo216=>bT (B8 e e.Types (e.Types.length:Int) r1.1.n r1.1.name r1.1.least r1.1.most r1.1.params r1.1.alts r1.1.typesLeast r1.1.typesMost r1.1.types 0 _ bo216)<|tw (aS e)<|bL (pj.ln e.Params)<|t2 (λo224 bo224=>bT (B9 e.Params (e.Params.length:Int) r1.1.n r1.1.name r1.1.least r1.1.most r1.1.params r1.1.alts r1.1.typesLeast r1.1.typesMost r1.1.types 0 _ bo224)<|tE) λo224 bo224=>bT (B9 e.Params (e.Params.length:Int) r1.1.n r1.1.name r1.1.least r1.1.most r1.1.params r1.1.alts r1.1.typesLeast r1.1.typesMost r1.1.types 0 _ bo224)<|tE
noncomputable def qpf:Code:=f105.body.getD .skip
def qmc:List Nat:=[]
theorem qof:ZF Pg qmc 105 f105 qpf:=zf call105 func105 rfl mixed
def iN(a:ag)(k0:Int):Option (Bool×Int):=
 (wz a).bind λr1=>
 some (r1==0,r1)
theorem Nf{a:ag}{k0:Int}:OG 105 [.agg (ah a),.bptr 0 0] [] [.cells [.int .i64 k0] []] (iN a k0) (λr=>.bool r.1) [] (λr=>[.cells [.int .i64 r.2] []]):=qof.g 1<|
 tb λr1 br1=>te (bQ a)<|tv (aF a)<|bG (TP _ br1)<|ts<|ts<|tE
section
variable(R94:fK)(e:ag)(t14:waD)(t15:Int)(t16:Int)(m:Int)
def gk:aK:=aQ 38 [(1,.func (.func 105) [] [.bptr 0 0]),(2,.eptr (ah e)),(14,sl ah t14),(15,.int .i64 t15),(16,.int .i64 t16)] [.cells [.int .i64 m] [],.dead] []
def pP(o:Int⊕(Int)):Exit:=match o with
 |(.inl _)=>.ret
 |(.inr _)=>.exit 0
def jX(o:Int⊕(Int)):aK:=match o with
 |(.inl o)=>aQ 38 [(4,.bool false)] [.cells [.int .i64 o] [],.dead] []
 |(.inr o)=>aQ 38 [(1,.func (.func 105) [] [.bptr 0 0]),(2,.eptr (ah e))] [.cells [.int .i64 o] [],.dead] []
instance iS_syntax_walk_Check_1_L1:KS 1 (gk e t14 t15 t16 m):=⟨rfl,(bD (aI (aI vzz (aI (cZ rfl) trivial)) (aI (eA (dM e)) (aI (up (aZ dM t14)) (aI vzz (aI vzz vzz)))))),(aI (aI vzz vzz) (aI vzz vzz))⟩
instance iO_syntax_walk_Check_1_L1{o:Int⊕(Int)}:KS 1 (jX e o):=match o with
 |(.inl o)=>⟨rfl,(bD (aI vzz vzz)),(aI (aI vzz vzz) (aI vzz vzz))⟩
 |(.inr o)=>⟨rfl,(bD (aI (aI vzz (aI (cZ rfl) trivial)) (aI (eA (dM e)) trivial))),(aI (aI vzz vzz) (aI vzz vzz))⟩
def dD:Option ((Int×Int)⊕(Int⊕(Int))):=
 if decide (t16<t15)=true then
  (cX t14 t16).bind λx4=>
  (R94 x4 m).bind λr5=>
  if(!r5.1)=true then
   some (.inr (.inl r5.2))
  else
   some (.inl (dt (t16+1),r5.2))
 else
  some (.inr (.inr m))
def sW:Option (Int⊕(Int)):=loop (λ(zz:Int×Int)=>dD R94 t14 t15 zz.1 zz.2) (t16,m)
theorem Ao(hR94:fI R94):OL 1 (cA Wn 119) (dD R94 t14 t15 t16 m) (λ(zz:Int×Int)=>gk e t14 t15 zz.1 zz.2) pP (jX e) (gk e t14 t15 t16 m):=qb3.lx<|
 tF (tb λx4 bx4=>tb λr5 br5=>tv (dJ.ia (k:=.i64) bx4)<|tv (aF x4)<|tx UO<|tx (y2 x4)<|tv (im x4 [])<|tc [0] (hR94 _ _ _ br5)<|tF tE<|tE)<|tE
theorem oI(hR94:fI R94):OK 1 (.loop (cA Wn 119)) (sW R94 t14 t15 t16 m) pP (jX e) (gk e t14 t15 t16 m):=AN λ_=>Ao _ _ _ _ _ _ hR94
end
section
variable(R94:fK)(t26:waE)(t27:Int)(t28:Int)(m:Int)
def gm:aK:=aQ 38 [(1,.func (.func 105) [] [.bptr 0 0]),(26,sl bE t26),(27,.int .i64 t27),(28,.int .i64 t28)] [.cells [.int .i64 m] [],.dead] []
def pQ(o:Int⊕(Int)):Exit:=match o with
 |(.inl _)=>.ret
 |(.inr _)=>.exit 2
def jY(o:Int⊕(Int)):aK:=match o with
 |(.inl o)=>aQ 38 [(4,.bool false)] [.cells [.int .i64 o] [],.dead] []
 |(.inr o)=>aQ 38 [] [.cells [.int .i64 o] [],.dead] []
instance iS_syntax_walk_Check_1_L2:KS 1 (gm t26 t27 t28 m):=⟨rfl,(bD (aI (aI vzz (aI (cZ rfl) trivial)) (aI (up (aZ oc t26)) (aI vzz (aI vzz vzz))))),(aI (aI vzz vzz) (aI vzz vzz))⟩
instance iO_syntax_walk_Check_1_L2{o:Int⊕(Int)}:KS 1 (jY o):=match o with
 |(.inl o)=>⟨rfl,(bD (aI vzz vzz)),(aI (aI vzz vzz) (aI vzz vzz))⟩
 |(.inr o)=>⟨rfl,(bD vzz),(aI (aI vzz vzz) (aI vzz vzz))⟩
def dF:Option ((Int×Int)⊕(Int⊕(Int))):=
 if decide (t28<t27)=true then
  (cX t26 t28).bind λx9=>
  (R94 x9.Body m).bind λr10=>
  if(!r10.1)=true then
   some (.inr (.inl r10.2))
  else
   some (.inl (dt (t28+1),r10.2))
 else
  some (.inr (.inr m))
def sX:Option (Int⊕(Int)):=loop (λ(zz:Int×Int)=>dF R94 t26 t27 zz.1 zz.2) (t28,m)
theorem Ap(hR94:fI R94):OL 1 (cA Wn 247) (dF R94 t26 t27 t28 m) (λ(zz:Int×Int)=>gm t26 t27 zz.1 zz.2) pQ jY (gm t26 t27 t28 m):=qb3.lx<|
 tF (tb λx9 bx9=>tb λr10 br10=>tv (gz.ia (k:=.i64) bx9)<|tv (yp x9)<|tx PF<|tx (wk x9)<|tv (im x9.Body [])<|tc [0] (hR94 _ _ _ br10)<|tF tE<|tE)<|tE
theorem oJ(hR94:fI R94):OK 1 (.loop (cA Wn 247)) (sX R94 t26 t27 t28 m) pQ jY (gm t26 t27 t28 m):=AN λ_=>Ap _ _ _ _ _ hR94
end
def i8(R94:fK)(e:ag)(k0:Int):Option (Bool×Int):=
 (iN e k0).bind λr1=>
 if(!r1.1)=true then
  some (false,r1.2)
 else
  (sW R94 e.Kids (e.Kids.length:Int) 0 r1.2).bind λo7=>match o7 with
  |(.inl o7)=>
   some (false,o7)
  | (.inr o7) =>
   (sX R94 e.Alts (e.Alts.length:Int) 0 o7).bind λo12=>match o12 with
   |(.inl o12)=>
    some (false,o12)
   |(.inr o12)=>
    some (true,o12)
theorem DL(R94:fK)(hR94:fI R94){e:ag}{k0:Int}:OG 104 [.agg (ah e),.func (.func 105) [] [.bptr 0 0]] [] [.cells [.int .i64 k0] []] (i8 R94 e k0) (λr=>.bool r.1) [] (λr=>[.cells [.int .i64 r.2] []]):=qb3.g 1<|
 tb λr1 br1=>te (bQ e)<|tv (aF e)<|tc [0] (Nf _ br1)<|tF tE<|tw (aq e)<|bL (dJ.ln e.Kids)<|t2 (λo7 bo7=>bT (oI R94 e e.Kids (e.Kids.length:Int) 0 r1.2 hR94 _ bo7)<|tE) λo7 bo7=>bT (oI R94 e e.Kids (e.Kids.length:Int) 0 r1.2 hR94 _ bo7)<|tw (aB e)<|bL (gz.ln e.Alts)<|t2 (λo12 bo12=>bT (oJ R94 e.Alts (e.Alts.length:Int) 0 o7 hR94 _ bo12)<|tE) λo12 bo12=>bT (oJ R94 e.Alts (e.Alts.length:Int) 0 o7 hR94 _ bo12)<|tE
def mn:((ag×Int)->Option (Bool×Int))->(ag×Int)->Option (Bool×Int):=λ(rec:(ag×Int)->Option (Bool×Int)) (x:ag×Int)=>i8 (λe k0=>rec (e,k0)) x.1 x.2
def km(e:ag)(k0:Int):Option (Bool×Int):=pA mn (e,k0)
theorem Ff{e:ag}{k0:Int}:OG 104 [.agg (ah e),.func (.func 105) [] [.bptr 0 0]] [] [.cells [.int .i64 k0] []] (km e k0) (λr=>.bool r.1) [] (λr=>[.cells [.int .i64 r.2] []]):=Vo λ_ h=>
 dN (F:=mn) (M:=λ(x:ag×Int) (r:Bool×Int)=>C Pg GE 104 [.agg (ah x.1),.func (.func 105) [] [.bptr 0 0]] [] [.cells [.int .i64 x.2] []] (.bool r.1) [] [.cells [.int .i64 r.2] []]) (λrec hrec x r h=>DL _ (λe k0=>Vo λr h=>hrec (e,k0) r h) _ h) h
noncomputable def qto:Code:=f63.body.getD .skip
def qsd:List Nat:=[]
theorem qsV:ZF Pg qsd 63 f63 qto:=zf call63 func63 rfl mixed
def yK(e:ag):Option Int:=
 (yL e).bind λr1=>
 if decide (r1>400)=true then
  some 7
 else
  (Fd e).bind λr3=>
  if decide (r3>40)=true then
   some 8
  else
   (km e 0).bind λr5=>
   some r5.2
theorem QP{e:ag}:OV 63 [.agg (ah e)] (yK e) (λr=>.int .i64 r) []:=qsV.v<|
 tb λr1 br1=>te (bQ e)<|tv (aF e)<|bG (QR _ br1)<|tF tE<|tb λr3 br3=>tv (aF e)<|bG (QQ _ br3)<|tF tE<|tb λr5 br5=>tx qqF<|ts<|tv (aF e)<|tc [1] (Ff _ br5)<|ts<|tE
abbrev bI:=(ag->(List Int)->Bool->Option ((List Int)×Bool))
abbrev cH(R:bI):Prop:=∀(e:ag) (k0:(List Int)) (k02:Bool),OG 64 [.bptr 0 0,.agg (ah e)] [] [.cells [.nptr 0 76,sl (cI .u8) k0,.bool k02] [(1,5)]] (R e k0 k02) (λr=>.tuple []) [] (λr=>[.cells [.nptr 0 76,sl (cI .u8) r.1,.bool r.2] [(1,5)]])
noncomputable def qpx:Code:=f162.body.getD .skip
def qmR:List Nat:=[]
theorem qox:ZF Pg qmR 162 f162 qpx:=zf call162 func162 rfl mixed
def e8(a:Bool):Option ae:=
 if a=true then
  some ([116,114,117,101]:ae)
 else
  some ([102,97,108,115,101]:ae)
theorem uh{a:Bool}:OV 162 [.bool a] (e8 a) (λr=>.str r) []:=qox.v<|
 tF tE<|tE
noncomputable def qpg:Code:=f108.body.getD .skip
def qme:List Nat:=[]
theorem qog:ZF Pg qme 108 f108 qpg:=zf call108 func108 rfl mixed
def gb(a:Bool):Option ae:=
 (e8 a).bind λr1=>
 some r1
theorem tR{a:Bool}:OV 108 [.bool a] (gb a) (λr=>.str r) []:=qog.v<|
 tb λr1 br1=>bG (uh _ br1)<|tE
noncomputable def qrg:Code:=f67.body.getD .skip
def qsh:List Nat:=[]
theorem qq6:ZF Pg qsh 67 f67 qrg:=zf call67 func67 rfl mixed
section
variable(s:ae)(m:(List Int))(m2:Bool)
def iZ:Option Bool:=
 (nv s).bind λr1=>
 if(r1 !=0)=true then
  some true
 else
  (pH s).bind λr3=>
  some (!r3)
theorem CO:OJ 1 (cA qrg 4) (iZ s) .normal (λo=>aQ 19 [(0,.bptr 0 0),(1,.str s),(11,.bool o)] [.cells [.nptr 0 76,sl (cI .u8) m,.bool m2] [(1,5)]] []) (aQ 19 [(0,.bptr 0 0),(1,.str s)] [.cells [.nptr 0 76,sl (cI .u8) m,.bool m2] [(1,5)]] []):=qq6.j<|
 tb λr1 br1=>tf (λc2=>bG (jO _ br1)<|tg 4 c2<|tE) λc2=>tb λr3 br3=>bG (jO _ br1)<|tg 4 c2<|bG (Dv _ br3)<|tE
end
def fY(s:ae)(k0:(List Int))(k02:Bool):Option (Bool×(List Int)):=
 (iZ s).bind λo4=>
 if o4=true then
  some (true,k0)
 else
  (al ([s]:List ae) k0 k02).bind λr6=>
  some (k02,r6)
theorem mj{s:ae}{k0:(List Int)}{k02:Bool}:OG 67 [.bptr 0 0,.str s] [] [.cells [.nptr 0 76,sl (cI .u8) k0,.bool k02] [(1,5)]] (fY s k0 k02) (λr=>.tuple []) [] (λr=>[.cells [.nptr 0 76,sl (cI .u8) r.2,.bool r.1] [(1,5)]]):=qq6.g 1<|
 tb λo4 bo4=>fc 1<|bT (CO s k0 k02 _ bo4)<|tF (ts<|tE)<|tb λr6 br6=>tv (bJ [s] 1 rfl)<|tc [0] (ak _ br6)<|tE
abbrev ce:=(af->(List Int)->Bool->Option (Bool×(List Int)))
abbrev du(R:ce):Prop:=∀(t:af) (k0:(List Int)) (k02:Bool),OG 53 [.bptr 0 0,.agg (ai t)] [] [.cells [.nptr 0 76,sl (cI .u8) k0,.bool k02] [(1,5)]] (R t k0 k02) (λr=>.tuple []) [] (λr=>[.cells [.nptr 0 76,sl (cI .u8) r.2,.bool r.1] [(1,5)]])
noncomputable def qtt:Code:=f79.body.getD .skip
def qso:List Nat:=[]
theorem qs0:ZF Pg qso 79 f79 qtt:=zf call79 func79 rfl mixed
def nK(p:aa):Option Bool:=
 (Ds p (⟨0,([]:ae),0,([]:List aa)⟩:aa)).bind λr1=>
 some r1
theorem pN{p:aa}:OV 79 [.agg (ac p)] (nK p) (λr=>.bool r) []:=qs0.v<|
 tb λr1 br1=>te (dQ p)<|tv (bu p)<|QT (Kx) (Ku)<|bG (EJ _ br1)<|tE
noncomputable def qri:Code:=f74.body.getD .skip
def qsl:List Nat:=[]
theorem qq8:ZF Pg qsl 74 f74 qri:=zf call74 func74 rfl mixed
section
variable(t:af)(m:(List Int))(m2:Bool)
def iY:Option Bool:=
 (nK t.Pred).bind λr1=>
 if r1=true then
  if(t.Op==6)=true then
   some true
  else if decide ((t.Args.length:Int)>0)=true then
   some true
  else
   some (decide ((t.Preds.length:Int)>0))
 else
  some false
theorem CN:OJ 1 (cA qri 12) (iY t) .normal (λo=>aQ 36 [(0,.bptr 0 0),(3,.eptr (ai t)),(23,.bool o)] [.cells [.nptr 0 76,sl (cI .u8) m,.bool m2] [(1,5)],.dead] []) (aQ 36 [(0,.bptr 0 0),(3,.eptr (ai t))] [.cells [.nptr 0 76,sl (cI .u8) m,.bool m2] [(1,5)],.dead] []):=qq8.j<|
 tb λr1 br1=>have pp3:=λ{X Y Z} (r:PV _ X Y Z)=>tw (cj t)<|bG (pN _ br1)<|r;tf (λc2=>have pp5:=λ{X Y Z} (r:PV _ X Y Z)=>pp3<|tg 4 c2<|tw (az t)<|r;tf (λc4=>pp5<|tg 8 c4<|tE) λc4=>have pp7:=λ{X Y Z} (r:PV _ X Y Z)=>pp5<|tg 8 c4<|tw (aM t)<|bL (cu.ln t.Args)<|r;tf (λc6=>pp7<|tg 14 c6<|tE) λc6=>pp7<|tg 14 c6<|tw (bm t)<|bL (dT.ln t.Preds)<|tE) λc2=>pp3<|tg 4 c2<|tE
end
def lA(R78:ce)(t:af)(k0:(List Int))(k02:Bool):Option ((List Int)×Bool):=
 (iY t).bind λo8=>
 if o8=true then
  (al ([cE]:List ae) k0 k02).bind λr10=>
  (R78 t r10 k02).bind λr11=>
  (al ([dI]:List ae) r11.2 r11.1).bind λr12=>
  some (r12,r11.1)
 else
  (R78 t k0 k02).bind λr13=>
  some (r13.2,r13.1)
theorem Gs(R78:ce)(hR78:du R78){t:af}{k0:(List Int)}{k02:Bool}:OG 74 [.bptr 0 0,.agg (ai t)] [] [.cells [.nptr 0 76,sl (cI .u8) k0,.bool k02] [(1,5)]] (lA R78 t k0 k02) (λr=>.tuple []) [] (λr=>[.cells [.nptr 0 76,sl (cI .u8) r.1,.bool r.2] [(1,5)]]):=qq8.g 1<|
 tb λo8 bo8=>te (dR t)<|fc 1<|bT (CN t k0 k02 _ bo8)<|tF (tb λr10 br10=>tb λr11 br11=>tb λr12 br12=>tv (bJ [cE] 1 rfl)<|tc [0] (ak _ br10)<|tv (bo t)<|tc [0] (hR78 _ _ _ _ br11)<|tv (bJ [dI] 1 rfl)<|tc [0] (ak _ br12)<|tE)<|tb λr13 br13=>tv (bo t)<|tc [0] (hR78 _ _ _ _ br13)<|tE
abbrev yh:=(aa->Option Int)
abbrev DZ(R:yh):Prop:=∀(p:aa),OV 226 [.agg (ac p)] (R p) (λr=>.int .i64 r) []
noncomputable def qi6:Code:=f226.body.getD .skip
def qnO:List Nat:=[18]
theorem qkA:ZF Pg qnO 226 f226 qi6:=zf call226 func226 rfl mixed
section
variable(R59:yh)(t7:waC)(t8:Int)(n:Int)(t9:Int)
def qa:aK:=aQ 19 [(3,.int .i64 n),(7,sl ac t7),(8,.int .i64 t8),(9,.int .i64 t9)] [.dead] []
def wV(o:Int):aK:=aQ 19 [(3,.int .i64 o)] [.dead] []
instance iS_pred_Nodes_L1:KS 0 (qa t7 t8 n t9):=⟨rfl,(bD (aI vzz (aI (up (aZ bK t7)) (aI vzz (aI vzz vzz))))),(aI vzz vzz)⟩
instance iO_pred_Nodes_L1{o:Int}:KS 0 (wV o):=⟨rfl,(bD (aI vzz vzz)),(aI vzz vzz)⟩
def FL:Option ((Int×Int)⊕(Int)):=
 if decide (t9<t8)=true then
  (cX t7 t9).bind λx2=>
  (R59 x2).bind λr3=>
  some (.inl (dt (n+r3),dt (t9+1)))
 else
  some (.inr n)
def J5:Option Int:=loop (λ(zz:Int×Int)=>FL R59 t7 t8 zz.1 zz.2) (n,t9)
theorem MP(hR59:DZ R59):OL 0 (cA qi6 119) (FL R59 t7 t8 n t9) (λ(zz:Int×Int)=>qa t7 t8 zz.1 zz.2) (λ_=>.exit 0) wV (qa t7 t8 n t9):=qkA.lx<|
 tF (tb λx2 bx2=>tb λr3 br3=>tv (dT.ia (k:=.i64) bx2)<|tv (bu x2)<|tx M0<|tx (fT x2)<|tv (fS x2 [])<|bG (hR59 _ _ br3)<|tE)<|tE
theorem OM(hR59:DZ R59):OJ 0 (.loop (cA qi6 119)) (J5 R59 t7 t8 n t9) (.exit 0) wV (qa t7 t8 n t9):=y1 λ_=>MP _ _ _ _ _ hR59
end
def MO(R59:yh)(p:aa):Option Int:=
 (J5 R59 p.Kids (p.Kids.length:Int) 1 0).bind λo4=>
 some o4
theorem Tw(R59:yh)(hR59:DZ R59){p:aa}:OV 226 [.agg (ac p)] (MO R59 p) (λr=>.int .i64 r) []:=qkA.v<|
 tb λo4 bo4=>te (dQ p)<|tw (aC p)<|bL (dT.ln p.Kids)<|bT (OM R59 p.Kids (p.Kids.length:Int) 1 0 hR59 _ bo4)<|tE
def EI:(aa->Option Int)->(aa)->Option Int:=λ(rec:aa->Option Int) (x:aa)=>MO (λp=>rec p) x
def ut(p:aa):Option Int:=pA EI p
theorem J6{p:aa}:OV 226 [.agg (ac p)] (ut p) (λr=>.int .i64 r) []:=Do λ_ h=>
 dN (F:=EI) (M:=λ(x:aa) (r:Int)=>CC Pg GE 226 [.agg (ac x)] (.int .i64 r) []) (λrec hrec x r h=>Tw _ (λp=>Do λr h=>hrec p r h) _ h) h
abbrev yg:=(aa->Option Int)
abbrev DY(R:yg):Prop:=∀(p:aa),OV 227 [.agg (ac p)] (R p) (λr=>.int .i64 r) []
noncomputable def qi7:Code:=f227.body.getD .skip
def qnP:List Nat:=[]
theorem qkB:ZF Pg qnP 227 f227 qi7:=zf call227 func227 rfl mixed
section
variable(R60:yg)(t7:waC)(t8:Int)(n:Int)(t9:Int)
def p9:aK:=aQ 20 [(3,.int .i64 n),(7,sl ac t7),(8,.int .i64 t8),(9,.int .i64 t9)] [.dead] []
def wU(o:Int):aK:=aQ 20 [(3,.int .i64 o)] [.dead] []
instance iS_pred_Depth_L1:KS 0 (p9 t7 t8 n t9):=⟨rfl,(bD (aI vzz (aI (up (aZ bK t7)) (aI vzz (aI vzz vzz))))),(aI vzz vzz)⟩
instance iO_pred_Depth_L1{o:Int}:KS 0 (wU o):=⟨rfl,(bD (aI vzz vzz)),(aI vzz vzz)⟩
def FK:Option ((Int×Int)⊕(Int)):=
 if decide (t9<t8)=true then
  (cX t7 t9).bind λx2=>
  (R60 x2).bind λr3=>
  some (.inl ((if r3>n then r3 else n),dt (t9+1)))
 else
  some (.inr n)
def J3:Option Int:=loop (λ(zz:Int×Int)=>FK R60 t7 t8 zz.1 zz.2) (n,t9)
theorem MN(hR60:DY R60):OL 0 (cA qi7 119) (FK R60 t7 t8 n t9) (λ(zz:Int×Int)=>p9 t7 t8 zz.1 zz.2) (λ_=>.exit 0) wU (p9 t7 t8 n t9):=qkB.lx<|
 tF (tb λx2 bx2=>tb λr3 br3=>tv (dT.ia (k:=.i64) bx2)<|tv (bu x2)<|tx M0<|tx (fT x2)<|tv (fS x2 [])<|bG (hR60 _ _ br3)<|tE)<|tE
theorem OI(hR60:DY R60):OJ 0 (.loop (cA qi7 119)) (J3 R60 t7 t8 n t9) (.exit 0) wU (p9 t7 t8 n t9):=y1 λ_=>MN _ _ _ _ _ hR60
end
def MM(R60:yg)(p:aa):Option Int:=
 (J3 R60 p.Kids (p.Kids.length:Int) 0 0).bind λo4=>
 some (dt (o4+1))
theorem Tv(R60:yg)(hR60:DY R60){p:aa}:OV 227 [.agg (ac p)] (MM R60 p) (λr=>.int .i64 r) []:=qkB.v<|
 tb λo4 bo4=>te (dQ p)<|tw (aC p)<|bL (dT.ln p.Kids)<|bT (OI R60 p.Kids (p.Kids.length:Int) 0 0 hR60 _ bo4)<|tE
def EH:(aa->Option Int)->(aa)->Option Int:=λ(rec:aa->Option Int) (x:aa)=>MM (λp=>rec p) x
def ur(p:aa):Option Int:=pA EH p
theorem J4{p:aa}:OV 227 [.agg (ac p)] (ur p) (λr=>.int .i64 r) []:=Do λ_ h=>
 dN (F:=EH) (M:=λ(x:aa) (r:Int)=>CC Pg GE 227 [.agg (ac x)] (.int .i64 r) []) (λrec hrec x r h=>Tv _ (λp=>Do λr h=>hrec p r h) _ h) h
noncomputable def qgH:Code:=f246.body.getD .skip
def qn0:List Nat:=[]
theorem qgo:ZF Pg qn0 246 f246 qgH:=zf call246 func246 rfl mixed
section
variable(t4:Int)
def EL:Option Bool:=
 if(t4==1)=true then
  some (t4==1)
 else if(t4==2)=true then
  some (t4==2)
 else
  some (t4==3)
theorem QC:OJ 0 (cA qgH 54) (EL t4) .normal (λo=>aQ 15 [(4,.int .i64 t4),(5,.bool o)] [] []) (aQ 15 [(4,.int .i64 t4)] [] []):=qgo.j<|
 tF tE<|tF tE<|tE
end
section
variable(t4:Int)
def EM:Option Bool:=
 if(t4==4)=true then
  some (t4==4)
 else
  some (t4==5)
theorem QD:OJ 0 (cA qgH 222) (EM t4) .normal (λo=>aQ 15 [(4,.int .i64 t4),(9,.bool o)] [] []) (aQ 15 [(4,.int .i64 t4)] [] []):=qgo.j<|
 tF tE<|tE
end
section
variable(t4:Int)
def EN:Option Bool:=
 if(t4==9)=true then
  some (t4==9)
 else
  some (t4==14)
theorem QE:OJ 0 (cA qgH 894) (EN t4) .normal (λo=>aQ 15 [(12,.bool o)] [] []) (aQ 15 [(4,.int .i64 t4)] [] []):=qgo.j<|
 tF tE<|tE
end
def IV(op:Int):Option (Int×Int):=
 (EL op).bind λo3=>
 if o3=true then
  some (0,0)
 else
  (EM op).bind λo6=>
  if o6=true then
   some (1,24)
  else
   (EN op).bind λo9=>
   if o9=true then
    some (1,1)
   else
    some (2,2)
theorem Xt{op:Int}:OV 246 [.int .i64 op] (IV op) (λr=>.tuple [.int .i64 r.1,.int .i64 r.2]) []:=qgo.v<|
 tb λo3 bo3=>fc 3<|bT (QC op _ bo3)<|tF tE<|tb λo6 bo6=>fc 0<|bT (QD op _ bo6)<|tF tE<|tb λo9 bo9=>fc 0<|bT (QE op _ bo9)<|tF tE<|tE
noncomputable def qp5:Code:=f247.body.getD .skip
def qn1:List Nat:=[]
theorem qo4:ZF Pg qn1 247 f247 qp5:=zf call247 func247 rfl mixed
def EO(op:Int):Option Bool:=
 if(op==3)=true then
  some true
 else if(op==4)=true then
  some true
 else
  some (op==5)
theorem J7{op:Int}:OV 247 [.int .i64 op] (EO op) (λr=>.bool r) []:=qo4.v<|
 tf (λc1=>tg 3 c1<|tE) λc1=>tf (λc2=>tg 3 c1<|tg 7 c2<|tE) λc2=>tg 3 c1<|tg 7 c2<|tE
noncomputable def Ue:Code:=f229.body.getD .skip
def qnQ:List Nat:=[]
theorem Ub:ZF Pg qnQ 229 f229 Ue:=zf call229 func229 rfl mixed
section
variable(p:aa)
def yu:Option Bool:=
 if decide (p.Op<1)=true then
  some true
 else
  some (decide (p.Op>18))
theorem QF:OJ 0 (cA Ue 12) (yu p) .normal (λo=>aQ 130 [(1,.eptr (ac p)),(14,.bool o)] [.dead] []) (aQ 130 [(1,.eptr (ac p))] [.dead] []):=Ub.j<|
 have pp2:=λ{X Y Z} (r:PV _ X Y Z)=>tw (aD p)<|r;tf (λc1=>pp2<|tg 4 c1<|tE) λc1=>pp2<|tg 4 c1<|tw (aD p)<|tE
end
section
variable(p:aa)(least:Int)(most:Int)
def yw:Option Bool:=
 (EO p.Op).bind λr6=>
 if (!r6) = true then
  if(!(p.Name==([]:ae)))=true then
   some true
  else if(p.Op !=1)=true then
   if(p.Op !=2)=true then
    if(p.N !=0)=true then
     some true
    else if decide ((p.Kids.length:Int)<least)=true then
     some true
    else
     some (decide ((p.Kids.length:Int)>most))
   else if decide ((p.Kids.length:Int)<least)=true then
    some true
   else
    some (decide ((p.Kids.length:Int)>most))
  else if decide ((p.Kids.length:Int)<least)=true then
   some true
  else
   some (decide ((p.Kids.length:Int)>most))
 else if(p.Op !=1)=true then
  if(p.Op !=2)=true then
   if(p.N !=0)=true then
    some true
   else if decide ((p.Kids.length:Int)<least)=true then
    some true
   else
    some (decide ((p.Kids.length:Int)>most))
  else if decide ((p.Kids.length:Int)<least)=true then
   some true
  else
   some (decide ((p.Kids.length:Int)>most))
 else if decide ((p.Kids.length:Int)<least)=true then
  some true
 else
  some (decide ((p.Kids.length:Int)>most))
theorem QG:OJ 0 (cA Ue 60) (yw p least most) .normal (λo=>aQ 130 [(1,.eptr (ac p)),(58,.bool o)] [.dead] []) (aQ 130 [(1,.eptr (ac p)),(3,.int .i64 least),(4,.int .i64 most)] [.dead] []):=Ub.j<|
 tb λr6 br6=>have pp8:=λ{X Y Z} (r:PV _ X Y Z)=>tw (aD p)<|bG (J7 _ br6)<|r;tf (λc7=>have pp10:=λ{X Y Z} (r:PV _ X Y Z)=>pp8<|tg 5 c7<|tw (bv p)<|r;tf (λc9=>pp10<|tg 10 c9<|tE) λc9=>have pp12:=λ{X Y Z} (r:PV _ X Y Z)=>pp10<|tg 10 c9<|tw (aD p)<|r;tf (λc11=>have pp14:=λ{X Y Z} (r:PV _ X Y Z)=>pp12<|tg 14 c11<|tw (aD p)<|r;tf (λc13=>have pp16:=λ{X Y Z} (r:PV _ X Y Z)=>pp14<|tg 19 c13<|tw (bh p)<|r;tf (λc15=>pp16<|tg 25 c15<|tE) λc15=>have pp18:=λ{X Y Z} (r:PV _ X Y Z)=>pp16<|tg 25 c15<|tw (aC p)<|bL (dT.ln p.Kids)<|r;tf (λc17=>pp18<|tg 32 c17<|tE) λc17=>pp18<|tg 32 c17<|tw (aC p)<|bL (dT.ln p.Kids)<|tE) λc13=>have pp20:=λ{X Y Z} (r:PV _ X Y Z)=>pp14<|tg 19 c13<|tw (aC p)<|bL (dT.ln p.Kids)<|r;tf (λc19=>pp20<|tg 32 c19<|tE) λc19=>pp20<|tg 32 c19<|tw (aC p)<|bL (dT.ln p.Kids)<|tE) λc11=>have pp22:=λ{X Y Z} (r:PV _ X Y Z)=>pp12<|tg 14 c11<|tw (aC p)<|bL (dT.ln p.Kids)<|r;tf (λc21=>pp22<|tg 32 c21<|tE) λc21=>pp22<|tg 32 c21<|tw (aC p)<|bL (dT.ln p.Kids)<|tE) λc7=>have pp24:=λ{X Y Z} (r:PV _ X Y Z)=>pp8<|tg 5 c7<|tw (aD p)<|r;tf (λc23=>have pp26:=λ{X Y Z} (r:PV _ X Y Z)=>pp24<|tg 14 c23<|tw (aD p)<|r;tf (λc25=>have pp28:=λ{X Y Z} (r:PV _ X Y Z)=>pp26<|tg 19 c25<|tw (bh p)<|r;tf (λc27=>pp28<|tg 25 c27<|tE) λc27=>have pp30:=λ{X Y Z} (r:PV _ X Y Z)=>pp28<|tg 25 c27<|tw (aC p)<|bL (dT.ln p.Kids)<|r;tf (λc29=>pp30<|tg 32 c29<|tE) λc29=>pp30<|tg 32 c29<|tw (aC p)<|bL (dT.ln p.Kids)<|tE) λc25=>have pp32:=λ{X Y Z} (r:PV _ X Y Z)=>pp26<|tg 19 c25<|tw (aC p)<|bL (dT.ln p.Kids)<|r;tf (λc31=>pp32<|tg 32 c31<|tE) λc31=>pp32<|tg 32 c31<|tw (aC p)<|bL (dT.ln p.Kids)<|tE) λc23=>have pp34:=λ{X Y Z} (r:PV _ X Y Z)=>pp24<|tg 14 c23<|tw (aC p)<|bL (dT.ln p.Kids)<|r;tf (λc33=>pp34<|tg 32 c33<|tE) λc33=>pp34<|tg 32 c33<|tw (aC p)<|bL (dT.ln p.Kids)<|tE
end
section
variable(p:aa)
def yx:Option Bool:=
 if (p.Op == 1) = true then
  (Tb p.N).bind λr39=>
  if(!r39)=true then
   some true
  else if(p.Op==2)=true then
   if(p.N !=0)=true then
    some (p.N !=1)
   else
    some false
  else
   some false
 else if(p.Op==2)=true then
  if(p.N !=0)=true then
   some (p.N !=1)
  else
   some false
 else
  some false
theorem QH:OJ 0 (cA Ue 124) (yx p) .normal (λo=>aQ 130 [(1,.eptr (ac p)),(82,.bool o)] [.dead] []) (aQ 130 [(1,.eptr (ac p))] [.dead] []):=Ub.j<|
 have pp38:=λ{X Y Z} (r:PV _ X Y Z)=>tw (aD p)<|r;tf (λc37=>tb λr39 br39=>have pp41:=λ{X Y Z} (r:PV _ X Y Z)=>pp38<|tg 4 c37<|tw (bh p)<|bG (Vn _ br39)<|r;tf (λc40=>pp41<|tg 10 c40<|tE) λc40=>have pp43:=λ{X Y Z} (r:PV _ X Y Z)=>pp41<|tg 10 c40<|tw (aD p)<|r;tf (λc42=>have pp45:=λ{X Y Z} (r:PV _ X Y Z)=>pp43<|tg 14 c42<|tw (bh p)<|r;tf (λc44=>pp45<|tg 19 c44<|tw (bh p)<|tE) λc44=>pp45<|tg 19 c44<|tE) λc42=>pp43<|tg 14 c42<|tE) λc37=>have pp47:=λ{X Y Z} (r:PV _ X Y Z)=>pp38<|tg 4 c37<|tw (aD p)<|r;tf (λc46=>have pp49:=λ{X Y Z} (r:PV _ X Y Z)=>pp47<|tg 14 c46<|tw (bh p)<|r;tf (λc48=>pp49<|tg 19 c48<|tw (bh p)<|tE) λc48=>pp49<|tg 19 c48<|tE) λc46=>pp47<|tg 14 c46<|tE
end
section
variable(p:aa)
def EP:Option Bool:=
 (EO p.Op).bind λr52=>
 if r52=true then
  (nv p.Name).bind λr55=>
  some (r55 !=0)
 else
  some false
theorem QI:OJ 0 (cA Ue 252) (EP p) .normal (λo=>aQ 130 [(1,.eptr (ac p)),(91,.bool o)] [.dead] []) (aQ 130 [(1,.eptr (ac p))] [.dead] []):=Ub.j<|
 tb λr52 br52=>have pp54:=λ{X Y Z} (r:PV _ X Y Z)=>tw (aD p)<|bG (J7 _ br52)<|r;tf (λc53=>tb λr55 br55=>pp54<|tg 4 c53<|tw (bv p)<|bG (jO _ br55)<|tE) λc53=>pp54<|tg 4 c53<|tE
end
section
variable(p:aa)
def EQ:Option Bool:=
 if(p.Op==3)=true then
  some (p.Name==([118]:ae))
 else
  some false
theorem QJ:OJ 0 (cA Ue 1012) (EQ p) .normal (λo=>aQ 130 [(1,.eptr (ac p)),(5,.bool o)] [.dead] []) (aQ 130 [(1,.eptr (ac p))] [.dead] []):=Ub.j<|
 have pp59:=λ{X Y Z} (r:PV _ X Y Z)=>tw (aD p)<|r;tf (λc58=>pp59<|tg 4 c58<|tw (bv p)<|tE) λc58=>pp59<|tg 4 c58<|tE
end
section
variable(p:aa)(v:Bool)
def ER:Option Bool:=
 if(p.Op==4)=true then
  if(p.Name==([116,97,103]:ae))=true then
   some true
  else
   some (p.Name==([118,97,108]:ae))
 else
  some false
theorem QK:OJ 0 (cA Ue 2026) (ER p) .normal (λo=>aQ 130 [(1,.eptr (ac p)),(5,.bool v),(6,.bool o)] [.dead] []) (aQ 130 [(1,.eptr (ac p)),(5,.bool v)] [.dead] []):=Ub.j<|
 have pp62:=λ{X Y Z} (r:PV _ X Y Z)=>tw (aD p)<|r;tf (λc61=>have pp64:=λ{X Y Z} (r:PV _ X Y Z)=>pp62<|tg 4 c61<|tw (bv p)<|r;tf (λc63=>pp64<|tg 8 c63<|tE) λc63=>pp64<|tg 8 c63<|tw (bv p)<|tE) λc61=>pp62<|tg 4 c61<|tE
end
section
variable(p:aa)(v:Bool)(symbol:Bool)
def ES:Option Bool:=
 if(!v)=true then
  some (!symbol)
 else
  some false
theorem QL:OJ 0 (cA Ue 4054) (ES v symbol) .normal (λo=>aQ 130 [(1,.eptr (ac p)),(118,.bool o)] [.dead] []) (aQ 130 [(1,.eptr (ac p)),(5,.bool v),(6,.bool symbol)] [.dead] []):=Ub.j<|
 tf (λc66=>tg 3 c66<|tE) λc66=>tg 3 c66<|tE
end
section
variable(p:aa)
def Tx(o:Unit⊕(Unit)):Exit:=match o with
 |(.inl _)=>.ret
 |(.inr _)=>.normal
def Ty(o:Unit⊕(Unit)):aK:=match o with
 |(.inl o)=>aQ 130 [(2,.int .i64 3)] [.dead] []
 |(.inr o)=>aQ 130 [(1,.eptr (ac p))] [.dead] []
def yy:Option (Unit⊕(Unit)):=
 (EP p).bind λo56=>
 if o56=true then
  (EQ p).bind λo60=>
  (ER p).bind λo65=>
  (ES o60 o65).bind λo67=>
  if o67=true then
   some (.inl ())
  else
   some (.inr ())
 else
  some (.inr ())
theorem FP:OK 0 (cA Ue 126) (yy p) Tx (Ty p) (aQ 130 [(1,.eptr (ac p))] [.dead] []):=Ub.k<|
 tb λo56 bo56=>fc 0<|bT (QI p _ bo56)<|tF (tb λo60 bo60=>tb λo65 bo65=>tb λo67 bo67=>fc 0<|bT (QJ p _ bo60)<|fc 0<|bT (QK p o60 _ bo65)<|fc 0<|bT (QL p o60 o65 _ bo67)<|tF tE<|tE)<|tE
end
section
variable(p:aa)
def ET:Option Bool:=
 if(p.Op==8)=true then
  (cX p.Kids 0).bind λx72=>
  some (x72.Op !=1)
 else
  some false
theorem QM:OJ 0 (cA Ue 508) (ET p) .normal (λo=>aQ 130 [(129,.bool o)] [.dead] []) (aQ 130 [(1,.eptr (ac p))] [.dead] []):=Ub.j<|
 have pp71:=λ{X Y Z} (r:PV _ X Y Z)=>tw (aD p)<|r;tf (λc70=>tb λx72 bx72=>pp71<|tg 4 c70<|tw (aC p)<|tv (dT.ia (k:=.i64) bx72)<|tw (aD x72)<|tE) λc70=>pp71<|tg 4 c70<|tE
end
def IW(p:aa):Option Int:=
 (yu p).bind λo3=>
 if o3=true then
  some 1
 else
  (IV p.Op).bind λr5=>
  (yw p r5.1 r5.2).bind λo35=>
  if o35=true then
   some 1
  else
   (yx p).bind λo50=>
   if o50=true then
    some 2
   else
    (yy p).bind λo69=>match o69 with
    |(.inl o69)=>
     some 3
    | (.inr o69) =>
     (ET p).bind λo73=>
     if o73=true then
      some 6
     else
      some 0
theorem MR{p:aa}:OV 229 [.agg (ac p)] (IW p) (λr=>.int .i64 r) []:=Ub.v<|
 tb λo3 bo3=>te (dQ p)<|fc 1<|bT (QF p _ bo3)<|tF tE<|tb λr5 br5=>tb λo35 bo35=>tw (aD p)<|bG (Xt _ br5)<|fc 1<|bT (QG p r5.1 r5.2 _ bo35)<|tF tE<|tb λo50 bo50=>fc 1<|bT (QH p _ bo50)<|tF tE<|t2 (λo69 bo69=>fc 0<|bT (FP p _ bo69)<|tE) λo69 bo69=>tb λo73 bo73=>fc 0<|bT (FP p _ bo69)<|fc 1<|bT (QM p _ bo73)<|tF tE<|tE
abbrev qtC:Nat:=184
noncomputable def qgJ:Code:=f184.body.getD .skip
abbrev qrs:Code:=gX qgJ [false]
abbrev qqq:Code:=gX qgJ [true,false]
abbrev qqr:Code:=gX qgJ [true,true,false]
abbrev qrt:Code:=gX qgJ [true,true,true,false,false]
abbrev qf9:Code:=gX qgJ [true,true,true,false,true,false]
abbrev qjr:Code:=gX qgJ [true,true,true,true,false]
theorem qjd:qgJ=.seq qrs (.seq qqq (.seq qqr (.seq (.seq qrt (.block 0 (.rangeFunc (.tmp 12) #[13] (qlF qf9) (qlG qf9)))) (.seq qjr .ret)))):=by kernel_rfl
def dY(s:Int)(x:aa):Option (Bool×Int):=(IW x).bind λe=>if(e !=0)=true then some (false,e)else some (true,s)
def uq(p:aa):Option Int:=
 (ut p).bind λn=>if decide (n>400)=true then some 7 else
 (ur p).bind λd=>if decide (d>40)=true then some 8 else
 (TY dY p 0).bind λq=>if q.1=true then some 0 else some q.2
abbrev qgK(s:Int):List aJ:=[.dead,.cells [.int .i64 s] []]
abbrev ZH(s:Int):aK:=aQ 19 [(2,.bptr 1 0)] (qgK s) []
abbrev TN(p:aa):aK:=aQ 19 [(1,.eptr (ac p)),(2,.bptr 1 0)] (qgK 0) []
theorem qtE(p:aa):eH Pg GE 0 qrs (EX .normal (TN p)) (aQ 19 [(0,.agg (ac p))] [] []):=by
 have z:=se (dQ p)<|sx (show fE Pg 61=some [.int .i64 0] by kernel_rfl)<|eF .normal (TN p)
 exact lq (A:=[]) mixed z (by kernel_rfl)
theorem qqt(p:aa){n:Int}(h:ut p=some n)(c:decide (n>400)=true):eH Pg GE 0 qqq (EX .ret (ZH 7)) (TN p):=by
 have z:=sv (bu p)<|qjJ (J6 _ h)<|sg 0 c<|ss<|eF .ret (ZH 7)
 exact lq (A:=[]) mixed z (by kernel_rfl)
theorem qqu(p:aa){n:Int}(h:ut p=some n)(c:decide (n>400)=false):eH Pg GE 0 qqq (EX .normal (TN p)) (TN p):=by
 have z:=sv (bu p)<|qjJ (J6 _ h)<|sg 0 c<|eF .normal (TN p)
 exact lq (A:=[]) mixed z (by kernel_rfl)
theorem qqv(p:aa){n:Int}(h:ur p=some n)(c:decide (n>40)=true):eH Pg GE 0 qqr (EX .ret (ZH 8)) (TN p):=by
 have z:=sv (bu p)<|qjJ (J4 _ h)<|sg 0 c<|ss<|eF .ret (ZH 8)
 exact lq (A:=[]) mixed z (by kernel_rfl)
theorem qqw(p:aa){n:Int}(h:ur p=some n)(c:decide (n>40)=false):eH Pg GE 0 qqr (EX .normal (TN p)) (TN p):=by
 have z:=sv (bu p)<|qjJ (J4 _ h)<|sg 0 c<|eF .normal (TN p)
 exact lq (A:=[]) mixed z (by kernel_rfl)
abbrev qhL(p:aa):aK:=aQ 19 [(2,.bptr 1 0),(12,.func (.func fW) [] [.eptr (ac p)])] (qgK 0) []
theorem qtF(p:aa):eH Pg GE 0 qrt (EX .normal (qhL p)) (TN p):=by
 have z:=sv (bu p)<|qjJ (qcb p)<|eF .normal (qhL p)
 exact lq (A:=[]) mixed z (by kernel_rfl)
abbrev qjK(s:Int)(x:aa):aK:=aQ 19 [(2,.bptr 1 0),(3,.bptr 2 0)] (qgK s++[.cells (XR x) []]) []
theorem qtG(s:Int)(x:aa):eH Pg GE 2 (qlF qf9) (EX .normal (qjK s x)) (aQ 19 [(2,.bptr 1 0),(13,.agg (ac x))] (qgK s) []):=by
 have z:=sx M0<|sx (fT x)<|eF .normal (qjK s x)
 exact lq (A:=[]) mixed z (by kernel_rfl)
abbrev qjL(r:Int):aK:=aQ 19 [(2,.bptr 1 0)] (qgK r++[.dead]) []
theorem qtH(s:Int)(x:aa){r:Bool×Int}(h:dY s x=some r):eH Pg GE 2 (qlG qf9) (EX (if r.1=true then .normal else .ret) (qjL r.2)) (qjK s x):=by
 unfold dY at h
 obtain⟨e,be,h⟩:=Uh h
 rcases Lt h with⟨c1,h⟩|⟨c1,h⟩
 ·cases h
  have z:=sv (fS x [])<|qjJ (MR _ be)<|sg 0 c1<|ss<|eF .ret (qjL e)
  exact lq (A:=[]) mixed z (by kernel_rfl)
 ·cases h
  have z:=sv (fS x [])<|qjJ (MR _ be)<|sg 0 c1<|eF .normal (qjL s)
  exact lq (A:=[]) mixed z (by kernel_rfl)
theorem qqs(s:Int):eH Pg GE 2 (.seq qjr .ret) (EX .ret (ZH 0)) (ZH s):=by
 have z:=ss<|eF .ret (ZH 0)
 exact lq (A:=[]) mixed z (by kernel_rfl)
theorem qlh(s:Int):eH Pg GE 2 .ret (EX .ret (ZH s)) (ZH s):=by
 have z:=eF .ret (ZH s)
 exact lq (A:=[]) mixed z (by kernel_rfl)
abbrev E8(fn:FuncId)(a:Array Value)(D:Nat)(b:Bool):Loop:={state:=if b then .ready else .done,pending:=if b then none else some .ret,fn:=fn,tmps:=a,params:=#[13],assign:=qlF qf9,body:=qlG qf9,defers:=D}
def JC(Γe:bN)(we:World)(bs:bZ)(a:Array Value)(fn:FuncId)(l D:Nat)(b:Bool)(s:Int)(Γ:bN)(w:World):Prop:=
 ∃ow,SR Pg (Wm GE Γe we) Γ bs ow w a (ZH s)/\¬cc bs ow l/\¬cc bs ow D/\w.heap[l]? =some (.loop (E8 fn a D b))/\w.heap[D]? =some (.deferred (some []))
theorem qj6{Γe:bN}{we:World}{bs:bZ}{a:Array Value}{fn:FuncId}{l D:Nat}(hl:we.heap.size<=l)(hD:we.heap.size<=D)(hne:D≠l)(hb:bs.length=2):Yd Pg GE l ac dY (JC Γe we bs a fn l D) where
 base:=λb s Γ w ⟨ow,h,_⟩=>h.base
 side:=λb s Γ w ⟨ow,h,hTl,hTD,hhl,hhD⟩ Γ' bs' ow' w' a' st' h'=>
  ⟨ow,h.aside h',hTl,hTD,(h'.step.keep l (jN hhl) id).1.trans hhl,(h'.step.keep D (jN hhD) id).1.trans hhD⟩
 yield:=λs Γ w x v n r ⟨ow,h,hTl,hTD,hhl,hhD⟩ hv hr=>by
  have hS4:=qtH s x hr
  refine⟨_,_,_,_,run_yield hhl rfl,?_⟩
  have hz:(((#[13]:Array Tmp).zip #[v]).foldl (λtmps (t,a)=>tmps.setIfInBounds t a) a)=a.setIfInBounds 13 v:=by simp
  show RoundIn Fence.wide n Pg l fn (((#[13]:Array Tmp).zip #[v]).foldl (λtmps (t,a)=>tmps.setIfInBounds t a) a) (qlF qf9) (qlG qf9) w _
  rw[hz]
  have h7:SR Pg (Wm GE Γe we) Γ bs ow w (a.setIfInBounds 13 v) (aQ 19 [(2,.bptr 1 0),(13,.agg (ac x))] (qgK s) []):=h.set (d:=13) (p:=.agg (ac x)) (hv.mono (.refl _ _) (λi b hi=>by simp at hi))
  refine roundIn_of_wpIn vzz (wpIn_mono (eH.on (qtG s x) (by decide) h7 (by rw[hb];decide) (some l) [] n) ?_)
  rintro e ⟨a1,ds1⟩ w1 ⟨rfl,Γ1,bs1,ow1,st1,h1,⟨rfl,rfl⟩,hbs1,hle1,hsz1,hk1⟩
  obtain⟨k1,t1⟩:=hk1 l (jN hhl) hTl
  obtain⟨k1D,t1D⟩:=hk1 D (jN hhD) hTD
  have hl1:=k1.trans hhl
  refine⟨_,run_beginRound hl1 rfl,?_⟩
  obtain⟨h1',hle1'⟩:=h1.putOther (l:=l) (o:=.loop {E8 fn a D true with state:=.busy}) t1 (.inr hl) (λc t fr e=>by rw[hl1]at e;cases e)
  have hb1:2<=bs1.length:=by have:=h1.bl;rw[this];exact Nat.le_of_ble_eq_true rfl
  obtain⟨bq,s'⟩:=r
  refine wpIn_mono (eH.on hS4 (by decide) h1' hb1 (some l) [] n) ?_
  rintro e ⟨a2,ds2⟩ w2 ⟨rfl,Γ2,bs2,ow2,st2,h2,⟨rfl,rfl⟩,hbs2,hle2,hsz2,hk2⟩
  have hl1':(w1.putObj l (.loop {E8 fn a D true with state:=.busy})).heap[l]? =some (.loop {E8 fn a D true with state:=.busy}):=World.putObj_heap_same (jN hl1)
  have hD1':(w1.putObj l (.loop {E8 fn a D true with state:=.busy})).heap[D]? =some (.deferred (some [])):=(World.putObj_heap_other hne).trans (k1D.trans hhD)
  obtain⟨k2,t2⟩:=hk2 l (jN hl1') t1
  obtain⟨k2D,t2D⟩:=hk2 D (jN hD1') t1D
  have hl2:=k2.trans hl1'
  cases bq with
  |true=>
   refine⟨_,_,run_endRound none hl2,?_⟩
   obtain⟨h3,hle3⟩:=h2.putOther (l:=l) (o:=.loop {{E8 fn a D true with state:=.busy}with state:=if(none:Option Code).isNone then .ready else .done,pending:=none}) t2 (.inr hl) (λc t fr e=>by rw[hl2]at e;cases e)
   have hle:Γ.Le w Γ2 (w2.putObj l (.loop {{E8 fn a D true with state:=.busy}with state:=if(none:Option Code).isNone then .ready else .done,pending:=none})):=((hle1.trans hle1').trans hle2).trans hle3
   obtain⟨ow3,h4,hT4⟩:=h.back rfl h3 hle (H':=qgK s') (λi hi=>(hbs2 i (by omega)).trans (hbs1 i (by omega))) ⟨vzz,⟨rfl,aI vzz vzz,λx hx=>hx⟩,vzz⟩ hb.symm
   exact⟨Γ2,rfl,hle,ow3,h4,λhx=>t2 (hT4 l hx),λhx=>t2D (hT4 D hx),World.putObj_heap_same (jN hl2),(World.putObj_heap_other hne).trans (k2D.trans hD1')⟩
  |false=>
   refine⟨_,_,run_endRound (some .ret) hl2,?_⟩
   obtain⟨h3,hle3⟩:=h2.putOther (l:=l) (o:=.loop {{E8 fn a D true with state:=.busy}with state:=if(some Code.ret:Option Code).isNone then .ready else .done,pending:=some .ret}) t2 (.inr hl) (λc t fr e=>by rw[hl2]at e;cases e)
   have hle:Γ.Le w Γ2 (w2.putObj l (.loop {{E8 fn a D true with state:=.busy}with state:=if(some Code.ret:Option Code).isNone then .ready else .done,pending:=some .ret})):=((hle1.trans hle1').trans hle2).trans hle3
   obtain⟨ow3,h4,hT4⟩:=h.back rfl h3 hle (H':=qgK s') (λi hi=>(hbs2 i (by omega)).trans (hbs1 i (by omega))) ⟨vzz,⟨rfl,aI vzz vzz,λx hx=>hx⟩,vzz⟩ hb.symm
   exact⟨Γ2,rfl,hle,ow3,h4,λhx=>t2 (hT4 l hx),λhx=>t2D (hT4 D hx),World.putObj_heap_same (jN hl2),(World.putObj_heap_other hne).trans (k2D.trans hD1')⟩
theorem UK{p:aa}{r:Int}(h:uq p=some r):CC Pg GE qtC [.agg (ac p)] (.int .i64 r) []:=by
 refine⟨aI (bK p) trivial,call184,λΓ bs ow w vs hS=>(callsIn_wide (n:=0)).1 (callsIn_of_wp_marks func184 (c:=qgJ) rfl vzz ?_)⟩
 obtain rfl:bs=[]:=vai hS.bl
 obtain⟨v,rfl⟩:∃v,vs=#[v]:=vcM.1 hS.sz
 have hB:VV GE Γ w:=hS.base
 have hE:Rj GE 0 (Wm GE Γ w):=hB.good
 have hvr:VR Γ [] w (.agg (ac p)) v:=hS.tm 0 _ _ rfl rfl
 have h0:SR Pg (Wm GE Γ w) Γ [] (λ_=>none) w (#[v]++Array.replicate 18 undef) (aQ 19 [(0,.agg (ac p))] [] []):=by
  refine hB.fresh (a:=#[v]++Array.replicate 18 undef) 0 (tmps:=[.agg (ac p)]++List.replicate 18 .undef) (by simp) λt q u hq hu=>?_
  by_cases ht:t<1
  ·rw[van (by simpa using ht)]at hq
   rw[va5 (by simpa using ht)]at hu
   match t,ht with
   |0,_=>simp at hq hu;subst hq;subst hu;exact hvr
  ·rw[vaw (by show 1<=t;omega),va6]at hq
   split at hq<;>cases hq
   exact .undef u
 have key:∀R:Ending->World->Prop,(∀{Γ6:bN} {bs6:bZ} {ow6:Nat->Option nS} {a6:Array Value} {w6:World},SR Pg (Wm GE Γ w) Γ6 bs6 ow6 w6 a6 (ZH r)->LeavesInM Fence.wide 0 Pg f184 a6 R [] .returning w6)->
   qgJ.wpIn Fence.wide 0 Pg (bodyPostM Fence.wide 0 Pg f184 R) ⟨#[v]++Array.replicate 18 undef,[]⟩ w:=λR hfin=>by
  unfold uq at h
  obtain⟨n1,b1,h⟩:=Uh h
  rw[qjd]
  refine wpIn_seq (wpIn_mono (eH.wideE (qtE p) hE h0 0 []) ?_)
  rintro e ⟨a1,ds1⟩ w1 ⟨rfl,Γ1,bs1,ow1,st1,h1,rfl,rfl⟩
  rcases Lt h with⟨c1,h⟩|⟨c1,h⟩
  ·cases h
   refine wpIn_seq (wpIn_mono (eH.wideE (qqt p b1 c1) hE h1 0 []) ?_)
   rintro e ⟨a2,ds2⟩ w2 ⟨rfl,Γ2,bs2,ow2,st2,h2,rfl,rfl⟩
   exact hfin h2
  refine wpIn_seq (wpIn_mono (eH.wideE (qqu p b1 c1) hE h1 0 []) ?_)
  rintro e ⟨a2,ds2⟩ w2 ⟨rfl,Γ2,bs2,ow2,st2,h2,rfl,rfl⟩
  obtain⟨n2,b2,h⟩:=Uh h
  rcases Lt h with⟨c2,h⟩|⟨c2,h⟩
  ·cases h
   refine wpIn_seq (wpIn_mono (eH.wideE (qqv p b2 c2) hE h2 0 []) ?_)
   rintro e ⟨a3,ds3⟩ w3 ⟨rfl,Γ3,bs3,ow3,st3,h3,rfl,rfl⟩
   exact hfin h3
  refine wpIn_seq (wpIn_mono (eH.wideE (qqw p b2 c2) hE h2 0 []) ?_)
  rintro e ⟨a22,ds22⟩ w22 ⟨rfl,Γ22,bs22,ow22,st22,h22,rfl,rfl⟩
  obtain⟨q,hq,h⟩:=Uh h
  refine wpIn_seq (wpIn_seq (wpIn_mono (eH.wideE (qtF p) hE h22 0 []) ?_))
  rintro e ⟨a3,ds3⟩ w3 ⟨rfl,Γ3,bs3,ow3,st3,h3,rfl,rfl⟩
  have h6:=h3.opv [] (.tmp 12)
  have e6:opv (Wm GE Γ w).GE (qhL p).tmps (.tmp 12)=.func (.func fW) [] [.eptr (ac p)]:=rfl
  rw[e6]at h6
  have hbl:bs3.length=2:=h3.bl
  refine wpIn_block (wpIn_rangeFunc λfn _=>?_)
  obtain⟨g1,l1⟩:=h3.allocO (.deferred (some []))
  obtain⟨g2,l2⟩:=g1.allocO (.loop (E8 fn a3 w3.heap.size true))
  have gF:=g2.forgetT (tm:=(ZH 0).tmps) rfl
  have hsz3:w.heap.size<=w3.heap.size:=h3.step.size
  have htl:∀b,w3.heap.size<=b->¬cc bs3 ow3 b:=λb hb hx=>by
   rcases hx with⟨i,hi⟩|hx
   ·have hil:i<(qhL p).boxes.length:=by rw[<-h3.bl];exact av hi
    have:=(h3.bx i b _ hi (vac hil)).2.1
    omega
   ·cases hL:ow3 b with
    |none=>exact hx hL
    |some L=>have:=(h3.on b L hL).1;omega
  generalize hvf:(Act.mk a3 []).eval (.tmp 12)=vf at h6
  cases h6 with
  |func _ _ _ fs cs hl1 hl2 hf hc=>
  obtain rfl:fs=#[]:=vb8 hl1
  obtain⟨cv,rfl⟩:∃v,cs=#[v]:=vcM.1 hl2
  have hcv:VR Γ3 bs3 w3 (.eptr (ac p)) cv:=hc 0 _ _ rfl rfl
  have hJ:JC Γ w bs3 a3 fn (w3.heap.size+1) w3.heap.size true 0 Γ3 ((w3.alloc (.deferred (some []))).alloc (.loop (E8 fn a3 w3.heap.size true))):=by
   refine⟨ow3,gF,htl _ (by omega),htl _ (vay _),?_,?_⟩
   ·have:=World.alloc_heap_new (w3.alloc (.deferred (some []))) (.loop (E8 fn a3 w3.heap.size true))
    rwa[World.size_alloc]at this
   ·rw[alloc_old _ _ (by rw[World.size_alloc];omega)]
    exact World.alloc_heap_new w3 _
  have hY:=qj6 (Γe:=Γ) (we:=w) (bs:=bs3) (a:=a3) (fn:=fn) (l:=w3.heap.size+1) (D:=w3.heap.size) (by omega) hsz3 (by omega) hbl
  refine⟨_,_,_,{target:=.fn (.func fW) #[cv],args:=#[.func (.yield (w3.heap.size+1)) #[] #[]]},(w3.alloc (.deferred (some []))).alloc (.loop (E8 fn a3 w3.heap.size true)),fW,#[.func (.yield (w3.heap.size+1)) #[] #[],cv],(w3.alloc (.deferred (some []))).alloc (.loop (E8 fn a3 w3.heap.size true)),run_enterLoop_outer fn a3 #[13] (qlF qf9) (qlG qf9),?_,λ_ _=>trivial,?_,λhx=>by simp[Fence.wide]at hx,?_⟩
  ·have hvf':(Act.mk a3 []).eval (.tmp 12)=.func (.func fW) #[] #[cv]:=hvf
   simp only[resolve,hvf',Deferred.ofValue]
   simp[Act.eval]
   rfl
  ·simp[invoke,call244]
  ·refine(qjf hY p (n:=0 - 1) hq hJ (((hcv.mono l1 (.refl _)).mono l2 (.refl _)).clo (show jl 0 (ac p)from bK p))).mono ?_
   rintro e w4 ⟨⟨u,rfl⟩,Γ4,hle4,ow4,h4,tl4,tD4,hl4,hD4⟩
   refine⟨_,_,run_endLoop hl4 (by cases q.1<;>simp),?_⟩
   obtain⟨h5,hle5⟩:=h4.putOther (l:=w3.heap.size+1) (o:=.loop {E8 fn a3 w3.heap.size q.1 with state:=.exhausted}) tl4 (.inr (show w.heap.size<=_ by omega)) (λc t fr e=>by rw[hl4]at e;cases e)
   have hD5:(w4.putObj (w3.heap.size+1) (.loop {E8 fn a3 w3.heap.size q.1 with state:=.exhausted})).heap[w3.heap.size]? =some (.deferred (some [])):=(World.putObj_heap_other (by omega)).trans hD4
   generalize w4.putObj (w3.heap.size+1) (.loop {E8 fn a3 w3.heap.size q.1 with state:=.exhausted})=w5 at h5 hle5 hD5
   have last:∀c:Code,eH Pg GE 2 c (EX .ret (ZH r)) (ZH q.2)->∀Q:Exit->Act->World->Prop,(∀a w,bodyPostM Fence.wide 0 Pg f184 R .ret a w->Q .ret a w)->c.wpIn Fence.wide 0 Pg Q ⟨a3,[{target:=.collected w3.heap.size,args:=#[]}]⟩ w5:=λc hc Q hQ=>by
    refine wpIn_mono (wpIn_wide.2 (eH.on hc (by decide) h5 (by rw[hbl];decide) none [{target:=.collected w3.heap.size,args:=#[]}])) ?_
    rintro e ⟨a6,ds6⟩ w6 ⟨rfl,Γ6,bs6,ow6,st6,h6,⟨rfl,rfl⟩,hbs6,hle6,hsz6,hk6⟩
    obtain⟨k6,t6⟩:=hk6 _ (jN hD5) tD4
    have hD6:=k6.trans hD5
    obtain⟨h7,hle7⟩:=h6.putOther (l:=w3.heap.size) (o:=.deferred none) t6 (.inr hsz3) (λc t fr e=>by rw[hD6]at e;cases e)
    exact hQ _ _ ⟨by simp,.inl ⟨w3.heap.size,_,rfl,run_takeDeferred hD6,hfin h7⟩⟩
   rcases Lt h with⟨c3,h⟩|⟨c3,h⟩
   ·cases h
    have e3:(E8 fn a3 w3.heap.size q.1).pending=none:=by show(if q.1=true then none else some Code.ret)=none;rw[c3];rfl
    rw[e3]
    exact last (.seq qjr .ret) (qqs q.2) _ (λ_ _ hx=>hx)
   ·cases h
    have e3:(E8 fn a3 w3.heap.size q.1).pending=some .ret:=by show(if q.1=true then none else some Code.ret)=some .ret;rw[c3];rfl
    rw[e3]
    exact last .ret (qlh q.2) _ (λ_ _ hx=>hx)
 refine key _ λ{Γ6 bs6 ow6 a6 w6} h7=>?_
 have hS7:SR Pg ⟨GE,Γ,w,cc [] ow⟩ Γ6 bs6 ow6 w6 a6 (ZH r):={h7 with
  bn:=λi b hb=>(h7.bn i b hb).elim False.elim .inr
  on:=λb L hL=>⟨(h7.on b L hL).1,(h7.on b L hL).2.elim False.elim .inr⟩
  gx:=hS.gx
  step:={h7.step with keep:=λb hb _=>h7.step.keep b hb (λhx=>hx)}}
 obtain⟨vr,e1,e2,e3⟩:=Ah hS7 (fn:=f184) (r:=.int .i64 r) (by kernel_rfl)
 refine⟨vr,e1,vr,Γ6,JW (eR f184.results.toList) [] ow6,rfl,?_⟩
 have hf:=hS7.finish (H':=[]) (src:=eR f184.results.toList) (ro:=[]) e2 vzz vzz (λx hx=>by cases hx) (λx hx=>by cases hx)
 simpa using hf
end Go.Proofs.YtibglelmlnfojaaGreatDoor
