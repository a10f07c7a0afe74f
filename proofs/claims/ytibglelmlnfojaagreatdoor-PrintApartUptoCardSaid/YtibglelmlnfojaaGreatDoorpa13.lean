/- PROVED: a part of the proof. Conditions: none. -/
import Derived.Test.YtibglelmlnfojaaGreatDoorpa12
import Derived.Test.YtibglelmlnfojaaGreatDoorpa10
set_option linter.unusedSimpArgs false
set_option linter.unusedVariables false
noncomputable section
namespace Go.Proofs.YtibglelmlnfojaaGreatDoor
open Go Go.Proofs.Tryz
set_option linter.unusedVariables false
set_option maxRecDepth 100000
noncomputable def QG:Code:=f106.body.getD .skip
def qgu:List Nat:=[122,134,154]
theorem Un:ZF Pg qgu 106 f106 QG:=zf call106 func106 rfl mixed
section
variable(e:af)(ok:Bool)(m:Bool)(m2:Bool)(m3:Int)(m4:Int)(m5:Bool)(m6:Bool)(m7:Int)(m8:Int)(m9:Bool)
def qG:Option Bool:=
 if (!m) = true then
  if(e.N !=0)=true then
   some true
  else if(!m2)=true then
   if(!(e.Name==([]:ah)))=true then
    some true
   else if(m4==0)=true then
    if decide ((e.Kids.length:Int)>0)=true then
     some true
    else if(!m5)=true then
     if decide ((e.Params.length:Int)>0)=true then
      some true
     else if(!m6)=true then
      if decide ((e.Alts.length:Int)>0)=true then
       some true
      else if(!m9)=true then
       some (decide ((e.Types.length:Int)>0))
      else
       some false
     else if(!m9)=true then
      some (decide ((e.Types.length:Int)>0))
     else
      some false
    else if(!m6)=true then
     if decide ((e.Alts.length:Int)>0)=true then
      some true
     else if(!m9)=true then
      some (decide ((e.Types.length:Int)>0))
     else
      some false
    else if(!m9)=true then
     some (decide ((e.Types.length:Int)>0))
    else
     some false
   else if(!m5)=true then
    if decide ((e.Params.length:Int)>0)=true then
     some true
    else if(!m6)=true then
     if decide ((e.Alts.length:Int)>0)=true then
      some true
     else if(!m9)=true then
      some (decide ((e.Types.length:Int)>0))
     else
      some false
    else if(!m9)=true then
     some (decide ((e.Types.length:Int)>0))
    else
     some false
   else if(!m6)=true then
    if decide ((e.Alts.length:Int)>0)=true then
     some true
    else if(!m9)=true then
     some (decide ((e.Types.length:Int)>0))
    else
     some false
   else if(!m9)=true then
    some (decide ((e.Types.length:Int)>0))
   else
    some false
  else if(m4==0)=true then
   if decide ((e.Kids.length:Int)>0)=true then
    some true
   else if(!m5)=true then
    if decide ((e.Params.length:Int)>0)=true then
     some true
    else if(!m6)=true then
     if decide ((e.Alts.length:Int)>0)=true then
      some true
     else if(!m9)=true then
      some (decide ((e.Types.length:Int)>0))
     else
      some false
    else if(!m9)=true then
     some (decide ((e.Types.length:Int)>0))
    else
     some false
   else if(!m6)=true then
    if decide ((e.Alts.length:Int)>0)=true then
     some true
    else if(!m9)=true then
     some (decide ((e.Types.length:Int)>0))
    else
     some false
   else if(!m9)=true then
    some (decide ((e.Types.length:Int)>0))
   else
    some false
  else if(!m5)=true then
   if decide ((e.Params.length:Int)>0)=true then
    some true
   else if(!m6)=true then
    if decide ((e.Alts.length:Int)>0)=true then
     some true
    else if(!m9)=true then
     some (decide ((e.Types.length:Int)>0))
    else
     some false
   else if(!m9)=true then
    some (decide ((e.Types.length:Int)>0))
   else
    some false
  else if(!m6)=true then
   if decide ((e.Alts.length:Int)>0)=true then
    some true
   else if(!m9)=true then
    some (decide ((e.Types.length:Int)>0))
   else
    some false
  else if(!m9)=true then
   some (decide ((e.Types.length:Int)>0))
  else
   some false
 else if(!m2)=true then
  if(!(e.Name==([]:ah)))=true then
   some true
  else if(m4==0)=true then
   if decide ((e.Kids.length:Int)>0)=true then
    some true
   else if(!m5)=true then
    if decide ((e.Params.length:Int)>0)=true then
     some true
    else if(!m6)=true then
     if decide ((e.Alts.length:Int)>0)=true then
      some true
     else if(!m9)=true then
      some (decide ((e.Types.length:Int)>0))
     else
      some false
    else if(!m9)=true then
     some (decide ((e.Types.length:Int)>0))
    else
     some false
   else if(!m6)=true then
    if decide ((e.Alts.length:Int)>0)=true then
     some true
    else if(!m9)=true then
     some (decide ((e.Types.length:Int)>0))
    else
     some false
   else if(!m9)=true then
    some (decide ((e.Types.length:Int)>0))
   else
    some false
  else if(!m5)=true then
   if decide ((e.Params.length:Int)>0)=true then
    some true
   else if(!m6)=true then
    if decide ((e.Alts.length:Int)>0)=true then
     some true
    else if(!m9)=true then
     some (decide ((e.Types.length:Int)>0))
    else
     some false
   else if(!m9)=true then
    some (decide ((e.Types.length:Int)>0))
   else
    some false
  else if(!m6)=true then
   if decide ((e.Alts.length:Int)>0)=true then
    some true
   else if(!m9)=true then
    some (decide ((e.Types.length:Int)>0))
   else
    some false
  else if(!m9)=true then
   some (decide ((e.Types.length:Int)>0))
  else
   some false
 else if(m4==0)=true then
  if decide ((e.Kids.length:Int)>0)=true then
   some true
  else if(!m5)=true then
   if decide ((e.Params.length:Int)>0)=true then
    some true
   else if(!m6)=true then
    if decide ((e.Alts.length:Int)>0)=true then
     some true
    else if(!m9)=true then
     some (decide ((e.Types.length:Int)>0))
    else
     some false
   else if(!m9)=true then
    some (decide ((e.Types.length:Int)>0))
   else
    some false
  else if(!m6)=true then
   if decide ((e.Alts.length:Int)>0)=true then
    some true
   else if(!m9)=true then
    some (decide ((e.Types.length:Int)>0))
   else
    some false
  else if(!m9)=true then
   some (decide ((e.Types.length:Int)>0))
  else
   some false
 else if(!m5)=true then
  if decide ((e.Params.length:Int)>0)=true then
   some true
  else if(!m6)=true then
   if decide ((e.Alts.length:Int)>0)=true then
    some true
   else if(!m9)=true then
    some (decide ((e.Types.length:Int)>0))
   else
    some false
  else if(!m9)=true then
   some (decide ((e.Types.length:Int)>0))
  else
   some false
 else if(!m6)=true then
  if decide ((e.Alts.length:Int)>0)=true then
   some true
  else if(!m9)=true then
   some (decide ((e.Types.length:Int)>0))
  else
   some false
 else if(!m9)=true then
  some (decide ((e.Types.length:Int)>0))
 else
  some false
theorem Jh:OJ 0 (cA QG 14) (qG e m m2 m4 m5 m6 m9) .normal (λo=>aZ 156 [(1,.eptr (ag e)),(3,.bptr 1 0),(4,.bool ok),(5,.bool o)] [.dead,.cells [.bool m,.bool m2,.int .i64 m3,.int .i64 m4,.bool m5,.bool m6,.int .i64 m7,.int .i64 m8,.bool m9] []] []) (aZ 156 [(1,.eptr (ag e)),(3,.bptr 1 0),(4,.bool ok)] [.dead,.cells [.bool m,.bool m2,.int .i64 m3,.int .i64 m4,.bool m5,.bool m6,.int .i64 m7,.int .i64 m8,.bool m9] []] []):=Un.j<|
 tf (λc2=>have pp4:=λ{X Y Z} (r:PV _ X Y Z)=>ts<|tg 4 c2<|tw (cx e)<|r;tf (λc3=>pp4<|tg 9 c3<|tE) λc3=>have pp6:=λ{X Y Z} (r:PV _ X Y Z)=>pp4<|tg 9 c3<|ts<|r;tf (λc5=>have pp8:=λ{X Y Z} (r:PV _ X Y Z)=>pp6<|tg 13 c5<|tw (dn e)<|r;tf (λc7=>pp8<|tg 19 c7<|tE) λc7=>have pp10:=λ{X Y Z} (r:PV _ X Y Z)=>pp8<|tg 19 c7<|ts<|r;tf (λc9=>have pp12:=λ{X Y Z} (r:PV _ X Y Z)=>pp10<|tg 23 c9<|tw (az e)<|cq (fj.ln e.Kids)<|r;tf (λc11=>pp12<|tg 30 c11<|tE) λc11=>have pp14:=λ{X Y Z} (r:PV _ X Y Z)=>pp12<|tg 30 c11<|ts<|r;tf (λc13=>have pp16:=λ{X Y Z} (r:PV _ X Y Z)=>pp14<|tg 34 c13<|tw (aL e)<|cq (pl.ln e.Params)<|r;tf (λc15=>pp16<|tg 41 c15<|tE) λc15=>have pp18:=λ{X Y Z} (r:PV _ X Y Z)=>pp16<|tg 41 c15<|ts<|r;tf (λc17=>have pp20:=λ{X Y Z} (r:PV _ X Y Z)=>pp18<|tg 45 c17<|tw (av e)<|cq (fJ.ln e.Alts)<|r;tf (λc19=>pp20<|tg 52 c19<|tE) λc19=>have pp22:=λ{X Y Z} (r:PV _ X Y Z)=>pp20<|tg 52 c19<|ts<|r;tf (λc21=>pp22<|tg 56 c21<|tw (aw e)<|cq (dy.ln e.Types)<|tE) λc21=>pp22<|tg 56 c21<|tE) λc17=>have pp24:=λ{X Y Z} (r:PV _ X Y Z)=>pp18<|tg 45 c17<|ts<|r;tf (λc23=>pp24<|tg 56 c23<|tw (aw e)<|cq (dy.ln e.Types)<|tE) λc23=>pp24<|tg 56 c23<|tE) λc13=>have pp26:=λ{X Y Z} (r:PV _ X Y Z)=>pp14<|tg 34 c13<|ts<|r;tf (λc25=>have pp28:=λ{X Y Z} (r:PV _ X Y Z)=>pp26<|tg 45 c25<|tw (av e)<|cq (fJ.ln e.Alts)<|r;tf (λc27=>pp28<|tg 52 c27<|tE) λc27=>have pp30:=λ{X Y Z} (r:PV _ X Y Z)=>pp28<|tg 52 c27<|ts<|r;tf (λc29=>pp30<|tg 56 c29<|tw (aw e)<|cq (dy.ln e.Types)<|tE) λc29=>pp30<|tg 56 c29<|tE) λc25=>have pp32:=λ{X Y Z} (r:PV _ X Y Z)=>pp26<|tg 45 c25<|ts<|r;tf (λc31=>pp32<|tg 56 c31<|tw (aw e)<|cq (dy.ln e.Types)<|tE) λc31=>pp32<|tg 56 c31<|tE) λc9=>have pp34:=λ{X Y Z} (r:PV _ X Y Z)=>pp10<|tg 23 c9<|ts<|r;tf (λc33=>have pp36:=λ{X Y Z} (r:PV _ X Y Z)=>pp34<|tg 34 c33<|tw (aL e)<|cq (pl.ln e.Params)<|r;tf (λc35=>pp36<|tg 41 c35<|tE) λc35=>have pp38:=λ{X Y Z} (r:PV _ X Y Z)=>pp36<|tg 41 c35<|ts<|r;tf (λc37=>have pp40:=λ{X Y Z} (r:PV _ X Y Z)=>pp38<|tg 45 c37<|tw (av e)<|cq (fJ.ln e.Alts)<|r;tf (λc39=>pp40<|tg 52 c39<|tE) λc39=>have pp42:=λ{X Y Z} (r:PV _ X Y Z)=>pp40<|tg 52 c39<|ts<|r;tf (λc41=>pp42<|tg 56 c41<|tw (aw e)<|cq (dy.ln e.Types)<|tE) λc41=>pp42<|tg 56 c41<|tE) λc37=>have pp44:=λ{X Y Z} (r:PV _ X Y Z)=>pp38<|tg 45 c37<|ts<|r;tf (λc43=>pp44<|tg 56 c43<|tw (aw e)<|cq (dy.ln e.Types)<|tE) λc43=>pp44<|tg 56 c43<|tE) λc33=>have pp46:=λ{X Y Z} (r:PV _ X Y Z)=>pp34<|tg 34 c33<|ts<|r;tf (λc45=>have pp48:=λ{X Y Z} (r:PV _ X Y Z)=>pp46<|tg 45 c45<|tw (av e)<|cq (fJ.ln e.Alts)<|r;tf (λc47=>pp48<|tg 52 c47<|tE) λc47=>have pp50:=λ{X Y Z} (r:PV _ X Y Z)=>pp48<|tg 52 c47<|ts<|r;tf (λc49=>pp50<|tg 56 c49<|tw (aw e)<|cq (dy.ln e.Types)<|tE) λc49=>pp50<|tg 56 c49<|tE) λc45=>have pp52:=λ{X Y Z} (r:PV _ X Y Z)=>pp46<|tg 45 c45<|ts<|r;tf (λc51=>pp52<|tg 56 c51<|tw (aw e)<|cq (dy.ln e.Types)<|tE) λc51=>pp52<|tg 56 c51<|tE) λc5=>have pp54:=λ{X Y Z} (r:PV _ X Y Z)=>pp6<|tg 13 c5<|ts<|r;tf (λc53=>have pp56:=λ{X Y Z} (r:PV _ X Y Z)=>pp54<|tg 23 c53<|tw (az e)<|cq (fj.ln e.Kids)<|r;tf (λc55=>pp56<|tg 30 c55<|tE) λc55=>have pp58:=λ{X Y Z} (r:PV _ X Y Z)=>pp56<|tg 30 c55<|ts<|r;tf (λc57=>have pp60:=λ{X Y Z} (r:PV _ X Y Z)=>pp58<|tg 34 c57<|tw (aL e)<|cq (pl.ln e.Params)<|r;tf (λc59=>pp60<|tg 41 c59<|tE) λc59=>have pp62:=λ{X Y Z} (r:PV _ X Y Z)=>pp60<|tg 41 c59<|ts<|r;tf (λc61=>have pp64:=λ{X Y Z} (r:PV _ X Y Z)=>pp62<|tg 45 c61<|tw (av e)<|cq (fJ.ln e.Alts)<|r;tf (λc63=>pp64<|tg 52 c63<|tE) λc63=>have pp66:=λ{X Y Z} (r:PV _ X Y Z)=>pp64<|tg 52 c63<|ts<|r;tf (λc65=>pp66<|tg 56 c65<|tw (aw e)<|cq (dy.ln e.Types)<|tE) λc65=>pp66<|tg 56 c65<|tE) λc61=>have pp68:=λ{X Y Z} (r:PV _ X Y Z)=>pp62<|tg 45 c61<|ts<|r;tf (λc67=>pp68<|tg 56 c67<|tw (aw e)<|cq (dy.ln e.Types)<|tE) λc67=>pp68<|tg 56 c67<|tE) λc57=>have pp70:=λ{X Y Z} (r:PV _ X Y Z)=>pp58<|tg 34 c57<|ts<|r;tf (λc69=>have pp72:=λ{X Y Z} (r:PV _ X Y Z)=>pp70<|tg 45 c69<|tw (av e)<|cq (fJ.ln e.Alts)<|r;tf (λc71=>pp72<|tg 52 c71<|tE) λc71=>have pp74:=λ{X Y Z} (r:PV _ X Y Z)=>pp72<|tg 52 c71<|ts<|r;tf (λc73=>pp74<|tg 56 c73<|tw (aw e)<|cq (dy.ln e.Types)<|tE) λc73=>pp74<|tg 56 c73<|tE) λc69=>have pp76:=λ{X Y Z} (r:PV _ X Y Z)=>pp70<|tg 45 c69<|ts<|r;tf (λc75=>pp76<|tg 56 c75<|tw (aw e)<|cq (dy.ln e.Types)<|tE) λc75=>pp76<|tg 56 c75<|tE) λc53=>have pp78:=λ{X Y Z} (r:PV _ X Y Z)=>pp54<|tg 23 c53<|ts<|r;tf (λc77=>have pp80:=λ{X Y Z} (r:PV _ X Y Z)=>pp78<|tg 34 c77<|tw (aL e)<|cq (pl.ln e.Params)<|r;tf (λc79=>pp80<|tg 41 c79<|tE) λc79=>have pp82:=λ{X Y Z} (r:PV _ X Y Z)=>pp80<|tg 41 c79<|ts<|r;tf (λc81=>have pp84:=λ{X Y Z} (r:PV _ X Y Z)=>pp82<|tg 45 c81<|tw (av e)<|cq (fJ.ln e.Alts)<|r;tf (λc83=>pp84<|tg 52 c83<|tE) λc83=>have pp86:=λ{X Y Z} (r:PV _ X Y Z)=>pp84<|tg 52 c83<|ts<|r;tf (λc85=>pp86<|tg 56 c85<|tw (aw e)<|cq (dy.ln e.Types)<|tE) λc85=>pp86<|tg 56 c85<|tE) λc81=>have pp88:=λ{X Y Z} (r:PV _ X Y Z)=>pp82<|tg 45 c81<|ts<|r;tf (λc87=>pp88<|tg 56 c87<|tw (aw e)<|cq (dy.ln e.Types)<|tE) λc87=>pp88<|tg 56 c87<|tE) λc77=>have pp90:=λ{X Y Z} (r:PV _ X Y Z)=>pp78<|tg 34 c77<|ts<|r;tf (λc89=>have pp92:=λ{X Y Z} (r:PV _ X Y Z)=>pp90<|tg 45 c89<|tw (av e)<|cq (fJ.ln e.Alts)<|r;tf (λc91=>pp92<|tg 52 c91<|tE) λc91=>have pp94:=λ{X Y Z} (r:PV _ X Y Z)=>pp92<|tg 52 c91<|ts<|r;tf (λc93=>pp94<|tg 56 c93<|tw (aw e)<|cq (dy.ln e.Types)<|tE) λc93=>pp94<|tg 56 c93<|tE) λc89=>have pp96:=λ{X Y Z} (r:PV _ X Y Z)=>pp90<|tg 45 c89<|ts<|r;tf (λc95=>pp96<|tg 56 c95<|tw (aw e)<|cq (dy.ln e.Types)<|tE) λc95=>pp96<|tg 56 c95<|tE) λc2=>have pp98:=λ{X Y Z} (r:PV _ X Y Z)=>ts<|tg 4 c2<|ts<|r;tf (λc97=>have pp100:=λ{X Y Z} (r:PV _ X Y Z)=>pp98<|tg 13 c97<|tw (dn e)<|r;tf (λc99=>pp100<|tg 19 c99<|tE) λc99=>have pp102:=λ{X Y Z} (r:PV _ X Y Z)=>pp100<|tg 19 c99<|ts<|r;tf (λc101=>have pp104:=λ{X Y Z} (r:PV _ X Y Z)=>pp102<|tg 23 c101<|tw (az e)<|cq (fj.ln e.Kids)<|r;tf (λc103=>pp104<|tg 30 c103<|tE) λc103=>have pp106:=λ{X Y Z} (r:PV _ X Y Z)=>pp104<|tg 30 c103<|ts<|r;tf (λc105=>have pp108:=λ{X Y Z} (r:PV _ X Y Z)=>pp106<|tg 34 c105<|tw (aL e)<|cq (pl.ln e.Params)<|r;tf (λc107=>pp108<|tg 41 c107<|tE) λc107=>have pp110:=λ{X Y Z} (r:PV _ X Y Z)=>pp108<|tg 41 c107<|ts<|r;tf (λc109=>have pp112:=λ{X Y Z} (r:PV _ X Y Z)=>pp110<|tg 45 c109<|tw (av e)<|cq (fJ.ln e.Alts)<|r;tf (λc111=>pp112<|tg 52 c111<|tE) λc111=>have pp114:=λ{X Y Z} (r:PV _ X Y Z)=>pp112<|tg 52 c111<|ts<|r;tf (λc113=>pp114<|tg 56 c113<|tw (aw e)<|cq (dy.ln e.Types)<|tE) λc113=>pp114<|tg 56 c113<|tE) λc109=>have pp116:=λ{X Y Z} (r:PV _ X Y Z)=>pp110<|tg 45 c109<|ts<|r;tf (λc115=>pp116<|tg 56 c115<|tw (aw e)<|cq (dy.ln e.Types)<|tE) λc115=>pp116<|tg 56 c115<|tE) λc105=>have pp118:=λ{X Y Z} (r:PV _ X Y Z)=>pp106<|tg 34 c105<|ts<|r;tf (λc117=>have pp120:=λ{X Y Z} (r:PV _ X Y Z)=>pp118<|tg 45 c117<|tw (av e)<|cq (fJ.ln e.Alts)<|r;tf (λc119=>pp120<|tg 52 c119<|tE) λc119=>have pp122:=λ{X Y Z} (r:PV _ X Y Z)=>pp120<|tg 52 c119<|ts<|r;tf (λc121=>pp122<|tg 56 c121<|tw (aw e)<|cq (dy.ln e.Types)<|tE) λc121=>pp122<|tg 56 c121<|tE) λc117=>have pp124:=λ{X Y Z} (r:PV _ X Y Z)=>pp118<|tg 45 c117<|ts<|r;tf (λc123=>pp124<|tg 56 c123<|tw (aw e)<|cq (dy.ln e.Types)<|tE) λc123=>pp124<|tg 56 c123<|tE) λc101=>have pp126:=λ{X Y Z} (r:PV _ X Y Z)=>pp102<|tg 23 c101<|ts<|r;tf (λc125=>have pp128:=λ{X Y Z} (r:PV _ X Y Z)=>pp126<|tg 34 c125<|tw (aL e)<|cq (pl.ln e.Params)<|r;tf (λc127=>pp128<|tg 41 c127<|tE) λc127=>have pp130:=λ{X Y Z} (r:PV _ X Y Z)=>pp128<|tg 41 c127<|ts<|r;tf (λc129=>have pp132:=λ{X Y Z} (r:PV _ X Y Z)=>pp130<|tg 45 c129<|tw (av e)<|cq (fJ.ln e.Alts)<|r;tf (λc131=>pp132<|tg 52 c131<|tE) λc131=>have pp134:=λ{X Y Z} (r:PV _ X Y Z)=>pp132<|tg 52 c131<|ts<|r;tf (λc133=>pp134<|tg 56 c133<|tw (aw e)<|cq (dy.ln e.Types)<|tE) λc133=>pp134<|tg 56 c133<|tE) λc129=>have pp136:=λ{X Y Z} (r:PV _ X Y Z)=>pp130<|tg 45 c129<|ts<|r;tf (λc135=>pp136<|tg 56 c135<|tw (aw e)<|cq (dy.ln e.Types)<|tE) λc135=>pp136<|tg 56 c135<|tE) λc125=>have pp138:=λ{X Y Z} (r:PV _ X Y Z)=>pp126<|tg 34 c125<|ts<|r;tf (λc137=>have pp140:=λ{X Y Z} (r:PV _ X Y Z)=>pp138<|tg 45 c137<|tw (av e)<|cq (fJ.ln e.Alts)<|r;tf (λc139=>pp140<|tg 52 c139<|tE) λc139=>have pp142:=λ{X Y Z} (r:PV _ X Y Z)=>pp140<|tg 52 c139<|ts<|r;tf (λc141=>pp142<|tg 56 c141<|tw (aw e)<|cq (dy.ln e.Types)<|tE) λc141=>pp142<|tg 56 c141<|tE) λc137=>have pp144:=λ{X Y Z} (r:PV _ X Y Z)=>pp138<|tg 45 c137<|ts<|r;tf (λc143=>pp144<|tg 56 c143<|tw (aw e)<|cq (dy.ln e.Types)<|tE) λc143=>pp144<|tg 56 c143<|tE) λc97=>have pp146:=λ{X Y Z} (r:PV _ X Y Z)=>pp98<|tg 13 c97<|ts<|r;tf (λc145=>have pp148:=λ{X Y Z} (r:PV _ X Y Z)=>pp146<|tg 23 c145<|tw (az e)<|cq (fj.ln e.Kids)<|r;tf (λc147=>pp148<|tg 30 c147<|tE) λc147=>have pp150:=λ{X Y Z} (r:PV _ X Y Z)=>pp148<|tg 30 c147<|ts<|r;tf (λc149=>have pp152:=λ{X Y Z} (r:PV _ X Y Z)=>pp150<|tg 34 c149<|tw (aL e)<|cq (pl.ln e.Params)<|r;tf (λc151=>pp152<|tg 41 c151<|tE) λc151=>have pp154:=λ{X Y Z} (r:PV _ X Y Z)=>pp152<|tg 41 c151<|ts<|r;tf (λc153=>have pp156:=λ{X Y Z} (r:PV _ X Y Z)=>pp154<|tg 45 c153<|tw (av e)<|cq (fJ.ln e.Alts)<|r;tf (λc155=>pp156<|tg 52 c155<|tE) λc155=>have pp158:=λ{X Y Z} (r:PV _ X Y Z)=>pp156<|tg 52 c155<|ts<|r;tf (λc157=>pp158<|tg 56 c157<|tw (aw e)<|cq (dy.ln e.Types)<|tE) λc157=>pp158<|tg 56 c157<|tE) λc153=>have pp160:=λ{X Y Z} (r:PV _ X Y Z)=>pp154<|tg 45 c153<|ts<|r;tf (λc159=>pp160<|tg 56 c159<|tw (aw e)<|cq (dy.ln e.Types)<|tE) λc159=>pp160<|tg 56 c159<|tE) λc149=>have pp162:=λ{X Y Z} (r:PV _ X Y Z)=>pp150<|tg 34 c149<|ts<|r;tf (λc161=>have pp164:=λ{X Y Z} (r:PV _ X Y Z)=>pp162<|tg 45 c161<|tw (av e)<|cq (fJ.ln e.Alts)<|r;tf (λc163=>pp164<|tg 52 c163<|tE) λc163=>have pp166:=λ{X Y Z} (r:PV _ X Y Z)=>pp164<|tg 52 c163<|ts<|r;tf (λc165=>pp166<|tg 56 c165<|tw (aw e)<|cq (dy.ln e.Types)<|tE) λc165=>pp166<|tg 56 c165<|tE) λc161=>have pp168:=λ{X Y Z} (r:PV _ X Y Z)=>pp162<|tg 45 c161<|ts<|r;tf (λc167=>pp168<|tg 56 c167<|tw (aw e)<|cq (dy.ln e.Types)<|tE) λc167=>pp168<|tg 56 c167<|tE) λc145=>have pp170:=λ{X Y Z} (r:PV _ X Y Z)=>pp146<|tg 23 c145<|ts<|r;tf (λc169=>have pp172:=λ{X Y Z} (r:PV _ X Y Z)=>pp170<|tg 34 c169<|tw (aL e)<|cq (pl.ln e.Params)<|r;tf (λc171=>pp172<|tg 41 c171<|tE) λc171=>have pp174:=λ{X Y Z} (r:PV _ X Y Z)=>pp172<|tg 41 c171<|ts<|r;tf (λc173=>have pp176:=λ{X Y Z} (r:PV _ X Y Z)=>pp174<|tg 45 c173<|tw (av e)<|cq (fJ.ln e.Alts)<|r;tf (λc175=>pp176<|tg 52 c175<|tE) λc175=>have pp178:=λ{X Y Z} (r:PV _ X Y Z)=>pp176<|tg 52 c175<|ts<|r;tf (λc177=>pp178<|tg 56 c177<|tw (aw e)<|cq (dy.ln e.Types)<|tE) λc177=>pp178<|tg 56 c177<|tE) λc173=>have pp180:=λ{X Y Z} (r:PV _ X Y Z)=>pp174<|tg 45 c173<|ts<|r;tf (λc179=>pp180<|tg 56 c179<|tw (aw e)<|cq (dy.ln e.Types)<|tE) λc179=>pp180<|tg 56 c179<|tE) λc169=>have pp182:=λ{X Y Z} (r:PV _ X Y Z)=>pp170<|tg 34 c169<|ts<|r;tf (λc181=>have pp184:=λ{X Y Z} (r:PV _ X Y Z)=>pp182<|tg 45 c181<|tw (av e)<|cq (fJ.ln e.Alts)<|r;tf (λc183=>pp184<|tg 52 c183<|tE) λc183=>have pp186:=λ{X Y Z} (r:PV _ X Y Z)=>pp184<|tg 52 c183<|ts<|r;tf (λc185=>pp186<|tg 56 c185<|tw (aw e)<|cq (dy.ln e.Types)<|tE) λc185=>pp186<|tg 56 c185<|tE) λc181=>have pp188:=λ{X Y Z} (r:PV _ X Y Z)=>pp182<|tg 45 c181<|ts<|r;tf (λc187=>pp188<|tg 56 c187<|tw (aw e)<|cq (dy.ln e.Types)<|tE) λc187=>pp188<|tg 56 c187<|tE
end
section
variable(e:af)(ok:Bool)(unused:Bool)(m:Bool)(m2:Bool)(m3:Int)(m4:Int)(m5:Bool)(m6:Bool)(m7:Int)(m8:Int)(m9:Bool)
def qH:Option Bool:=
 if(!ok)=true then
  some true
 else
  some unused
theorem Ji:OJ 0 (cA QG 122) (qH ok unused) .normal (λo=>aZ 156 [(1,.eptr (ag e)),(3,.bptr 1 0),(81,.bool o)] [.dead,.cells [.bool m,.bool m2,.int .i64 m3,.int .i64 m4,.bool m5,.bool m6,.int .i64 m7,.int .i64 m8,.bool m9] []] []) (aZ 156 [(1,.eptr (ag e)),(3,.bptr 1 0),(4,.bool ok),(5,.bool unused)] [.dead,.cells [.bool m,.bool m2,.int .i64 m3,.int .i64 m4,.bool m5,.bool m6,.int .i64 m7,.int .i64 m8,.bool m9] []] []):=Un.j<|
 tf (λc190=>tg 3 c190<|tE) λc190=>tg 3 c190<|tE
end
section
variable(e:af)(m:Bool)(m2:Bool)(m3:Int)(m4:Int)(m5:Bool)(m6:Bool)(m7:Int)(m8:Int)(m9:Bool)
def qI:Option Bool:=
 if (e.Op == 1) = true then
  (NJ e.N).bind λr197=>
  if(!r197)=true then
   some true
  else if(e.Op==2)=true then
   if(e.N !=0)=true then
    some (e.N !=1)
   else
    some false
  else
   some false
 else if(e.Op==2)=true then
  if(e.N !=0)=true then
   some (e.N !=1)
  else
   some false
 else
  some false
theorem Jj:OJ 0 (cA QG 1982) (qI e) .normal (λo=>aZ 156 [(1,.eptr (ag e)),(3,.bptr 1 0),(92,.bool o)] [.dead,.cells [.bool m,.bool m2,.int .i64 m3,.int .i64 m4,.bool m5,.bool m6,.int .i64 m7,.int .i64 m8,.bool m9] []] []) (aZ 156 [(1,.eptr (ag e)),(3,.bptr 1 0)] [.dead,.cells [.bool m,.bool m2,.int .i64 m3,.int .i64 m4,.bool m5,.bool m6,.int .i64 m7,.int .i64 m8,.bool m9] []] []):=Un.j<|
 have pp196:=λ{X Y Z} (r:PV _ X Y Z)=>tw (cj e)<|r;tf (λc195=>tb λr197 br197=>have pp199:=λ{X Y Z} (r:PV _ X Y Z)=>pp196<|tg 4 c195<|tw (cx e)<|cJ (P1 _ br197)<|r;tf (λc198=>pp199<|tg 10 c198<|tE) λc198=>have pp201:=λ{X Y Z} (r:PV _ X Y Z)=>pp199<|tg 10 c198<|tw (cj e)<|r;tf (λc200=>have pp203:=λ{X Y Z} (r:PV _ X Y Z)=>pp201<|tg 14 c200<|tw (cx e)<|r;tf (λc202=>pp203<|tg 19 c202<|tw (cx e)<|tE) λc202=>pp203<|tg 19 c202<|tE) λc200=>pp201<|tg 14 c200<|tE) λc195=>have pp205:=λ{X Y Z} (r:PV _ X Y Z)=>pp196<|tg 4 c195<|tw (cj e)<|r;tf (λc204=>have pp207:=λ{X Y Z} (r:PV _ X Y Z)=>pp205<|tg 14 c204<|tw (cx e)<|r;tf (λc206=>pp207<|tg 19 c206<|tw (cx e)<|tE) λc206=>pp207<|tg 19 c206<|tE) λc204=>pp205<|tg 14 c204<|tE
end
section
variable(e:af)(t124:waB)(t125:Int)(m:Bool)(m2:Bool)(m3:Int)(m4:Int)(m5:Bool)(m6:Bool)(m7:Int)(m8:Int)(m9:Bool)(t126:Int)
def mC:aF:=aZ 156 [(1,.eptr (ag e)),(124,sl aj t124),(125,.int .i64 t125),(126,.int .i64 t126)] [.dead,.cells [.bool m,.bool m2,.int .i64 m3,.int .i64 m4,.bool m5,.bool m6,.int .i64 m7,.int .i64 m8,.bool m9] []] []
def AW(o:Int⊕(Unit)):Exit:=match o with
 |(.inl _)=>.ret
 |(.inr _)=>.exit 1
def rO(o:Int⊕(Unit)):aF:=match o with
 |(.inl o)=>aZ 156 [(2,.int .i64 o)] [.dead,.cells [.bool m,.bool m2,.int .i64 m3,.int .i64 m4,.bool m5,.bool m6,.int .i64 m7,.int .i64 m8,.bool m9] []] []
 |(.inr o)=>aZ 156 [(1,.eptr (ag e))] [.dead,.cells [.bool m,.bool m2,.int .i64 m3,.int .i64 m4,.bool m5,.bool m6,.int .i64 m7,.int .i64 m8,.bool m9] []] []
instance iS_syntax_node_L4:KS 0 (mC e t124 t125 m m2 m3 m4 m5 m6 m7 m8 m9 t126):=⟨rfl,(bE (aI (eX (dN e)) (aI (up (aU dO t124)) (aI vzz (aI vzz vzz))))),(aI vzz (aI (aI vzz (aI vzz (aI vzz (aI vzz (aI vzz (aI vzz (aI vzz (aI vzz (aI vzz vzz))))))))) trivial))⟩
instance iO_syntax_node_L4{o:Int⊕(Unit)}:KS 0 (rO e m m2 m3 m4 m5 m6 m7 m8 m9 o):=match o with
 |(.inl o)=>⟨rfl,(bE (aI vzz vzz)),(aI vzz (aI (aI vzz (aI vzz (aI vzz (aI vzz (aI vzz (aI vzz (aI vzz (aI vzz (aI vzz vzz))))))))) trivial))⟩
 |(.inr o)=>⟨rfl,(bE (aI (eX (dN e)) trivial)),(aI vzz (aI (aI vzz (aI vzz (aI vzz (aI vzz (aI vzz (aI vzz (aI vzz (aI vzz (aI vzz vzz))))))))) trivial))⟩
def rN:Option (Int⊕(Int⊕(Unit))):=
 if decide (t126<t125)=true then
  (dh t124 t126).bind λx213=>
  (mf x213).bind λr214=>
  if(r214 !=0)=true then
   some (.inr (.inl r214))
  else
   some (.inl (dU (t126+1)))
 else
  some (.inr (.inr ()))
def qJ:Option (Int⊕(Unit)):=loop (λ(zz:Int)=>rN t124 t125 zz) t126
theorem Hu:OL 0 (cA QG 1015) (rN t124 t125 t126) (λ(zz:Int)=>mC e t124 t125 m m2 m3 m4 m5 m6 m7 m8 m9 zz) AW (rO e m m2 m3 m4 m5 m6 m7 m8 m9) (mC e t124 t125 m m2 m3 m4 m5 m6 m7 m8 m9 t126):=Un.lx<|
 tF (tb λx213 bx213=>tb λr214 br214=>tv (dy.ia (k:=.i64) bx213)<|tv (cC x213)<|tx RN<|tx (pf x213)<|tv (ij x213 [])<|cJ (xL _ br214)<|tF tE<|tE)<|tE
theorem zh:OK 0 (.loop (cA QG 1015)) (qJ t124 t125 t126) AW (rO e m m2 m3 m4 m5 m6 m7 m8 m9) (mC e t124 t125 m m2 m3 m4 m5 m6 m7 m8 m9 t126):=FA λ_=>Hu _ _ _ _ _ _ _ _ _ _ _ _ _
end
section
variable(v:Int)(t137:(List cc))(t138:Int)(t139:Int)(m:Bool)(m2:Bool)(m3:Int)(m4:Int)(m5:Bool)(m6:Bool)(m7:Int)(m8:Int)(m9:Bool)(m10:ah)(m11:Int)(m12:ah)(m13:waB)(m14:waA)(m15:Int)(m16:ah)(m17:Int)(m18:waD)(m19:waD)
def xC:Option Bool:=
 if(v !=0)=true then
  (zj (⟨m11,m12,m13,m14,(⟨m15,m16,m17,m18⟩:aa),m19⟩:ae)).bind λr221=>
  some (!r221)
 else
  some false
theorem Jk:OJ 0 (cA QG 261102) (xC v m11 m12 m13 m14 m15 m16 m17 m18 m19) .normal (λo=>aZ 156 [(12,.int .i64 v),(137,sl bj t137),(138,.int .i64 t138),(139,.int .i64 t139),(153,.bool o)] [.dead,.cells [.bool m,.bool m2,.int .i64 m3,.int .i64 m4,.bool m5,.bool m6,.int .i64 m7,.int .i64 m8,.bool m9] [],.cells [.str m10,.int .i64 m11,.str m12,sl aj m13,sl cS m14,.int .i64 m15,.str m16,.int .i64 m17,sl ac m18,sl ac m19] []] []) (aZ 156 [(11,.bptr 2 0),(12,.int .i64 v),(137,sl bj t137),(138,.int .i64 t138),(139,.int .i64 t139)] [.dead,.cells [.bool m,.bool m2,.int .i64 m3,.int .i64 m4,.bool m5,.bool m6,.int .i64 m7,.int .i64 m8,.bool m9] [],.cells [.str m10,.int .i64 m11,.str m12,sl aj m13,sl cS m14,.int .i64 m15,.str m16,.int .i64 m17,sl ac m18,sl ac m19] []] []):=Un.j<|
 tf (λc220=>tb λr221 br221=>tg 3 c220<|tv (ij (⟨m11,m12,m13,m14,(⟨m15,m16,m17,m18⟩:aa),m19⟩:ae) [])<|cJ (On _ br221)<|tE) λc220=>tg 3 c220<|tE
end
section
variable(t137:(List cc))(t138:Int)(m:Bool)(m2:Bool)(m3:Int)(m4:Int)(m5:Bool)(m6:Bool)(m7:Int)(m8:Int)(m9:Bool)(t139:Int)
def mD:aF:=aZ 156 [(137,sl bj t137),(138,.int .i64 t138),(139,.int .i64 t139)] [.dead,.cells [.bool m,.bool m2,.int .i64 m3,.int .i64 m4,.bool m5,.bool m6,.int .i64 m7,.int .i64 m8,.bool m9] []] []
def AX(o:Int⊕(Unit)):Exit:=match o with
 |(.inl _)=>.ret
 |(.inr _)=>.exit 3
def rQ(o:Int⊕(Unit)):aF:=match o with
 |(.inl o)=>aZ 156 [(2,.int .i64 o)] [.dead,.cells [.bool m,.bool m2,.int .i64 m3,.int .i64 m4,.bool m5,.bool m6,.int .i64 m7,.int .i64 m8,.bool m9] []] []
 |(.inr o)=>aZ 156 [] [.dead,.cells [.bool m,.bool m2,.int .i64 m3,.int .i64 m4,.bool m5,.bool m6,.int .i64 m7,.int .i64 m8,.bool m9] []] []
instance iS_syntax_node_L5:KS 0 (mD t137 t138 m m2 m3 m4 m5 m6 m7 m8 m9 t139):=⟨rfl,(bE (aI (up (aU rt t137)) (aI vzz (aI vzz vzz)))),(aI vzz (aI (aI vzz (aI vzz (aI vzz (aI vzz (aI vzz (aI vzz (aI vzz (aI vzz (aI vzz vzz))))))))) trivial))⟩
instance iO_syntax_node_L5{o:Int⊕(Unit)}:KS 0 (rQ m m2 m3 m4 m5 m6 m7 m8 m9 o):=match o with
 |(.inl o)=>⟨rfl,(bE (aI vzz vzz)),(aI vzz (aI (aI vzz (aI vzz (aI vzz (aI vzz (aI vzz (aI vzz (aI vzz (aI vzz (aI vzz vzz))))))))) trivial))⟩
 |(.inr o)=>⟨rfl,(bE vzz),(aI vzz (aI (aI vzz (aI vzz (aI vzz (aI vzz (aI vzz (aI vzz (aI vzz (aI vzz (aI vzz vzz))))))))) trivial))⟩
def jS:Option (Int⊕(Int⊕(Unit))):=
 if decide (t139<t138)=true then
  (dh t137 t139).bind λx218=>
  (mf x218.Type_).bind λr219=>
  (xC r219 x218.Type_.Op x218.Type_.Name x218.Type_.Args x218.Type_.Names x218.Type_.Pred.Op x218.Type_.Pred.Name x218.Type_.Pred.N x218.Type_.Pred.Kids x218.Type_.Preds).bind λo222=>
  if o222=true then
   some (.inr (.inl r219))
  else
   some (.inl (dU (t139+1)))
 else
  some (.inr (.inr ()))
def qK:Option (Int⊕(Unit)):=loop (λ(zz:Int)=>jS t137 t138 zz) t139
theorem Hv:OL 0 (cA QG 2039) (jS t137 t138 t139) (λ(zz:Int)=>mD t137 t138 m m2 m3 m4 m5 m6 m7 m8 m9 zz) AX (rQ m m2 m3 m4 m5 m6 m7 m8 m9) (mD t137 t138 m m2 m3 m4 m5 m6 m7 m8 m9 t139):=Un.lx<|
 tF (tb λx218 bx218=>tb λr219 br219=>tb λo222 bo222=>tv (pl.ia (k:=.i64) bx218)<|tv (JS x218)<|tx qar<|tx (G3 x218)<|tv (ij x218.Type_ [])<|cJ (xL _ br219)<|lB 0<|dm (Jk r219 t137 t138 t139 m m2 m3 m4 m5 m6 m7 m8 m9 x218.Name x218.Type_.Op x218.Type_.Name x218.Type_.Args x218.Type_.Names x218.Type_.Pred.Op x218.Type_.Pred.Name x218.Type_.Pred.N x218.Type_.Pred.Kids x218.Type_.Preds _ bo222)<|tF tE<|tE)<|tE
theorem zi:OK 0 (.loop (cA QG 2039)) (qK t137 t138 t139) AX (rQ m m2 m3 m4 m5 m6 m7 m8 m9) (mD t137 t138 m m2 m3 m4 m5 m6 m7 m8 m9 t139):=FA λ_=>Hv _ _ _ _ _ _ _ _ _ _ _ _
end
def tM (e:af):Option Int :=
 (nJ e.Op).bind λr1=>
 (qG e r1.1.n r1.1.name r1.1.most r1.1.params r1.1.alts r1.1.types).bind λo189=>
 (qH r1.2 o189).bind λo191=>
 if o191=true then
  some 1
 else
  (sH e r1.1).bind λr193=>
  if(!r193)=true then
   some 13
  else
   (qI e).bind λo208=>
   if o208=true then
    some 2
   else
    (wb e r1.1).bind λr210=>
    if(r210 !=0)=true then
     some r210
    else
     (qJ e.Types (e.Types.length:Int) 0).bind λo216=>match o216 with
     |(.inl o216)=>
      some o216
     | (.inr o216) =>
      (qK e.Params (e.Params.length:Int) 0).bind λo224=>match o224 with
      |(.inl o224)=>
       some o224
      |(.inr o224)=>
       some 0
theorem Om{e:af}:OV 106 [.agg (ag e)] (tM e) (λr=>.int .i64 r) []:=Un.v<|
 tb λr1 br1=>tb λo189 bo189=>tb λo191 bo191=>te (dq e)<|tw (cj e)<|cJ (Kx _ br1)<|tx qc9<|tx (ch r1.1)<|lB 0<|dm (Jh e r1.2 r1.1.n r1.1.name r1.1.least r1.1.most r1.1.params r1.1.alts r1.1.typesLeast r1.1.typesMost r1.1.types _ bo189)<|lB 1<|dm (Ji e r1.2 o189 r1.1.n r1.1.name r1.1.least r1.1.most r1.1.params r1.1.alts r1.1.typesLeast r1.1.typesMost r1.1.types _ bo191)<|tF tE<|tb λr193 br193=>tv (bh e)<|tv (Ao r1.1 [])<|cJ (Kw _ br193)<|tF tE<|tb λo208 bo208=>lB 0<|dm (Jj e r1.1.n r1.1.name r1.1.least r1.1.most r1.1.params r1.1.alts r1.1.typesLeast r1.1.typesMost r1.1.types _ bo208)<|tF tE<|tb λr210 br210=>tv (bh e)<|tv (Ao r1.1 [])<|cJ (L7 _ br210)<|tF tE<|tw (aw e)<|cq (dy.ln e.Types)<|t2 (λo216 bo216=>dm (zh e e.Types (e.Types.length:Int) r1.1.n r1.1.name r1.1.least r1.1.most r1.1.params r1.1.alts r1.1.typesLeast r1.1.typesMost r1.1.types 0 _ bo216)<|tE) λo216 bo216=>dm (zh e e.Types (e.Types.length:Int) r1.1.n r1.1.name r1.1.least r1.1.most r1.1.params r1.1.alts r1.1.typesLeast r1.1.typesMost r1.1.types 0 _ bo216)<|tw (aL e)<|cq (pl.ln e.Params)<|t2 (λo224 bo224=>dm (zi e.Params (e.Params.length:Int) r1.1.n r1.1.name r1.1.least r1.1.most r1.1.params r1.1.alts r1.1.typesLeast r1.1.typesMost r1.1.types 0 _ bo224)<|tE) λo224 bo224=>dm (zi e.Params (e.Params.length:Int) r1.1.n r1.1.name r1.1.least r1.1.most r1.1.params r1.1.alts r1.1.typesLeast r1.1.typesMost r1.1.types 0 _ bo224)<|tE
noncomputable def qid:Code:=f105.body.getD .skip
def qgt:List Nat:=[]
theorem qhB:ZF Pg qgt 105 f105 qid:=zf call105 func105 rfl mixed
def gP(a:af)(k0:Int):Option (Bool×Int):=
 (tM a).bind λr1=>
 some (r1==0,r1)
theorem Je{a:af}{k0:Int}:OG 105 [.agg (ag a),.bptr 0 0] [] [.cells [.int .i64 k0] []] (gP a k0) (λr=>.bool r.1) [] (λr=>[.cells [.int .i64 r.2] []]):=qhB.g 1<|
 tb λr1 br1=>te (dq a)<|tv (bh a)<|cJ (Om _ br1)<|ts<|ts<|tE
section
variable(R94:e8)(e:af)(t14:waC)(t15:Int)(t16:Int)(m:Int)
def fy:aF:=aZ 38 [(1,.func (.func 105) [] [.bptr 0 0]),(2,.eptr (ag e)),(14,sl ag t14),(15,.int .i64 t15),(16,.int .i64 t16)] [.cells [.int .i64 m] [],.dead] []
def nK(o:Int⊕(Int)):Exit:=match o with
 |(.inl _)=>.ret
 |(.inr _)=>.exit 0
def iV(o:Int⊕(Int)):aF:=match o with
 |(.inl o)=>aZ 38 [(4,.bool false)] [.cells [.int .i64 o] [],.dead] []
 |(.inr o)=>aZ 38 [(1,.func (.func 105) [] [.bptr 0 0]),(2,.eptr (ag e))] [.cells [.int .i64 o] [],.dead] []
instance iS_syntax_walk_Check_1_L1:KS 1 (fy e t14 t15 t16 m):=⟨rfl,(bE (aI (aI vzz (aI (dQ rfl) trivial)) (aI (eX (dN e)) (aI (up (aU dN t14)) (aI vzz (aI vzz vzz)))))),(aI (aI vzz vzz) (aI vzz vzz))⟩
instance iO_syntax_walk_Check_1_L1{o:Int⊕(Int)}:KS 1 (iV e o):=match o with
 |(.inl o)=>⟨rfl,(bE (aI vzz vzz)),(aI (aI vzz vzz) (aI vzz vzz))⟩
 |(.inr o)=>⟨rfl,(bE (aI (aI vzz (aI (dQ rfl) trivial)) (aI (eX (dN e)) trivial))),(aI (aI vzz vzz) (aI vzz vzz))⟩
def dc:Option ((Int×Int)⊕(Int⊕(Int))):=
 if decide (t16<t15)=true then
  (dh t14 t16).bind λx4=>
  (R94 x4 m).bind λr5=>
  if(!r5.1)=true then
   some (.inr (.inl r5.2))
  else
   some (.inl (dU (t16+1),r5.2))
 else
  some (.inr (.inr m))
def qM:Option (Int⊕(Int)):=loop (λ(zz:Int×Int)=>dc R94 t14 t15 zz.1 zz.2) (t16,m)
theorem xD(hR94:eZ R94):OL 1 (cA QF 119) (dc R94 t14 t15 t16 m) (λ(zz:Int×Int)=>fy e t14 t15 zz.1 zz.2) nK (iV e) (fy e t14 t15 t16 m):=WN.lx<|
 tF (tb λx4 bx4=>tb λr5 br5=>tv (fj.ia (k:=.i64) bx4)<|tv (bh x4)<|tx RO<|tx (Ay x4)<|tv (jG x4 [])<|tc [0] (hR94 _ _ _ br5)<|tF tE<|tE)<|tE
theorem mL(hR94:eZ R94):OK 1 (.loop (cA QF 119)) (qM R94 t14 t15 t16 m) nK (iV e) (fy e t14 t15 t16 m):=FA λ_=>xD _ _ _ _ _ _ hR94
end
section
variable(R94:e8)(t26:waE)(t27:Int)(t28:Int)(m:Int)
def fA:aF:=aZ 38 [(1,.func (.func 105) [] [.bptr 0 0]),(26,sl bw t26),(27,.int .i64 t27),(28,.int .i64 t28)] [.cells [.int .i64 m] [],.dead] []
def nM(o:Int⊕(Int)):Exit:=match o with
 |(.inl _)=>.ret
 |(.inr _)=>.exit 2
def iW(o:Int⊕(Int)):aF:=match o with
 |(.inl o)=>aZ 38 [(4,.bool false)] [.cells [.int .i64 o] [],.dead] []
 |(.inr o)=>aZ 38 [] [.cells [.int .i64 o] [],.dead] []
instance iS_syntax_walk_Check_1_L2:KS 1 (fA t26 t27 t28 m):=⟨rfl,(bE (aI (aI vzz (aI (dQ rfl) trivial)) (aI (up (aU n7 t26)) (aI vzz (aI vzz vzz))))),(aI (aI vzz vzz) (aI vzz vzz))⟩
instance iO_syntax_walk_Check_1_L2{o:Int⊕(Int)}:KS 1 (iW o):=match o with
 |(.inl o)=>⟨rfl,(bE (aI vzz vzz)),(aI (aI vzz vzz) (aI vzz vzz))⟩
 |(.inr o)=>⟨rfl,(bE vzz),(aI (aI vzz vzz) (aI vzz vzz))⟩
def de:Option ((Int×Int)⊕(Int⊕(Int))):=
 if decide (t28<t27)=true then
  (dh t26 t28).bind λx9=>
  (R94 x9.Body m).bind λr10=>
  if(!r10.1)=true then
   some (.inr (.inl r10.2))
  else
   some (.inl (dU (t28+1),r10.2))
 else
  some (.inr (.inr m))
def qN:Option (Int⊕(Int)):=loop (λ(zz:Int×Int)=>de R94 t26 t27 zz.1 zz.2) (t28,m)
theorem xE(hR94:eZ R94):OL 1 (cA QF 247) (de R94 t26 t27 t28 m) (λ(zz:Int×Int)=>fA t26 t27 zz.1 zz.2) nM iW (fA t26 t27 t28 m):=WN.lx<|
 tF (tb λx9 bx9=>tb λr10 br10=>tv (fJ.ia (k:=.i64) bx9)<|tv (y0 x9)<|tx N6<|tx (xg x9)<|tv (jG x9.Body [])<|tc [0] (hR94 _ _ _ br10)<|tF tE<|tE)<|tE
theorem mM(hR94:eZ R94):OK 1 (.loop (cA QF 247)) (qN R94 t26 t27 t28 m) nM iW (fA t26 t27 t28 m):=FA λ_=>xE _ _ _ _ _ hR94
end
def hZ(R94:e8)(e:af)(k0:Int):Option (Bool×Int):=
 (gP e k0).bind λr1=>
 if(!r1.1)=true then
  some (false,r1.2)
 else
  (qM R94 e.Kids (e.Kids.length:Int) 0 r1.2).bind λo7=>match o7 with
  |(.inl o7)=>
   some (false,o7)
  | (.inr o7) =>
   (qN R94 e.Alts (e.Alts.length:Int) 0 o7).bind λo12=>match o12 with
   |(.inl o12)=>
    some (false,o12)
   |(.inr o12)=>
    some (true,o12)
theorem AY(R94:e8)(hR94:eZ R94){e:af}{k0:Int}:OG 104 [.agg (ag e),.func (.func 105) [] [.bptr 0 0]] [] [.cells [.int .i64 k0] []] (hZ R94 e k0) (λr=>.bool r.1) [] (λr=>[.cells [.int .i64 r.2] []]):=WN.g 1<|
 tb λr1 br1=>te (dq e)<|tv (bh e)<|tc [0] (Je _ br1)<|tF tE<|tw (az e)<|cq (fj.ln e.Kids)<|t2 (λo7 bo7=>dm (mL R94 e e.Kids (e.Kids.length:Int) 0 r1.2 hR94 _ bo7)<|tE) λo7 bo7=>dm (mL R94 e e.Kids (e.Kids.length:Int) 0 r1.2 hR94 _ bo7)<|tw (av e)<|cq (fJ.ln e.Alts)<|t2 (λo12 bo12=>dm (mM R94 e.Alts (e.Alts.length:Int) 0 o7 hR94 _ bo12)<|tE) λo12 bo12=>dm (mM R94 e.Alts (e.Alts.length:Int) 0 o7 hR94 _ bo12)<|tE
def kS:((af×Int)->Option (Bool×Int))->(af×Int)->Option (Bool×Int):=λ(rec:(af×Int)->Option (Bool×Int)) (x:af×Int)=>hZ (λe k0=>rec (e,k0)) x.1 x.2
def jr(e:af)(k0:Int):Option (Bool×Int):=oE kS (e,k0)
theorem Co{e:af}{k0:Int}:OG 104 [.agg (ag e),.func (.func 105) [] [.bptr 0 0]] [] [.cells [.int .i64 k0] []] (jr e k0) (λr=>.bool r.1) [] (λr=>[.cells [.int .i64 r.2] []]):=Ug λ_ h=>
 eE (F:=kS) (M:=λ(x:af×Int) (r:Bool×Int)=>C Pg GE 104 [.agg (ag x.1),.func (.func 105) [] [.bptr 0 0]] [] [.cells [.int .i64 x.2] []] (.bool r.1) [] [.cells [.int .i64 r.2] []]) (λrec hrec x r h=>AY _ (λe k0=>Ug λr h=>hrec (e,k0) r h) _ h) h
noncomputable def qln:Code:=f63.body.getD .skip
def qkw:List Nat:=[]
theorem qk2:ZF Pg qkw 63 f63 qln:=zf call63 func63 rfl mixed
def v8(e:af):Option Int:=
 (wa e).bind λr1=>
 if decide (r1>400)=true then
  some 7
 else
  (Cm e).bind λr3=>
  if decide (r3>40)=true then
   some 8
  else
   (jr e 0).bind λr5=>
   some r5.2
theorem L4{e:af}:OV 63 [.agg (ag e)] (v8 e) (λr=>.int .i64 r) []:=qk2.v<|
 tb λr1 br1=>te (dq e)<|tv (bh e)<|cJ (L6 _ br1)<|tF tE<|tb λr3 br3=>tv (bh e)<|cJ (L5 _ br3)<|tF tE<|tb λr5 br5=>tx qjg<|ts<|tv (bh e)<|tc [1] (Co _ br5)<|ts<|tE
abbrev bk:=(af->(List Int)->Bool->Option ((List Int)×Bool))
abbrev co(R:bk):Prop:=∀(e:af) (k0:(List Int)) (k02:Bool),OG 64 [.bptr 0 0,.agg (ag e)] [] [.cells [.nptr 0 76,sl (cI .u8) k0,.bool k02] [(1,5)]] (R e k0 k02) (λr=>.tuple []) [] (λr=>[.cells [.nptr 0 76,sl (cI .u8) r.1,.bool r.2] [(1,5)]])
noncomputable def qis:Code:=f162.body.getD .skip
def qgT:List Nat:=[]
theorem qhQ:ZF Pg qgT 162 f162 qis:=zf call162 func162 rfl mixed
def ez(a:Bool):Option ah:=
 if a=true then
  some ([116,114,117,101]:ah)
 else
  some ([102,97,108,115,101]:ah)
theorem ru{a:Bool}:OV 162 [.bool a] (ez a) (λr=>.str r) []:=qhQ.v<|
 tF tE<|tE
noncomputable def qie:Code:=f108.body.getD .skip
def qgv:List Nat:=[]
theorem qhC:ZF Pg qgv 108 f108 qie:=zf call108 func108 rfl mixed
def fq(a:Bool):Option ah:=
 (ez a).bind λr1=>
 some r1
theorem rf{a:Bool}:OV 108 [.bool a] (fq a) (λr=>.str r) []:=qhC.v<|
 tb λr1 br1=>cJ (ru _ br1)<|tE
noncomputable def qjJ:Code:=f67.body.getD .skip
def qky:List Nat:=[]
theorem qjE:ZF Pg qky 67 f67 qjJ:=zf call67 func67 rfl mixed
section
variable(s:ah)(m:(List Int))(m2:Bool)
def g9:Option Bool:=
 (lQ s).bind λr1=>
 if(r1 !=0)=true then
  some true
 else
  (nz s).bind λr3=>
  some (!r3)
theorem zT:OJ 1 (cA qjJ 4) (g9 s) .normal (λo=>aZ 19 [(0,.bptr 0 0),(1,.str s),(11,.bool o)] [.cells [.nptr 0 76,sl (cI .u8) m,.bool m2] [(1,5)]] []) (aZ 19 [(0,.bptr 0 0),(1,.str s)] [.cells [.nptr 0 76,sl (cI .u8) m,.bool m2] [(1,5)]] []):=qjE.j<|
 tb λr1 br1=>tf (λc2=>cJ (iL _ br1)<|tg 4 c2<|tE) λc2=>tb λr3 br3=>cJ (iL _ br1)<|tg 4 c2<|cJ (AE _ br3)<|tE
end
def fm(s:ah)(k0:(List Int))(k02:Bool):Option (Bool×(List Int)):=
 (g9 s).bind λo4=>
 if o4=true then
  some (true,k0)
 else
  (ak ([s]:List ah) k0 k02).bind λr6=>
  some (k02,r6)
theorem kO{s:ah}{k0:(List Int)}{k02:Bool}:OG 67 [.bptr 0 0,.str s] [] [.cells [.nptr 0 76,sl (cI .u8) k0,.bool k02] [(1,5)]] (fm s k0 k02) (λr=>.tuple []) [] (λr=>[.cells [.nptr 0 76,sl (cI .u8) r.2,.bool r.1] [(1,5)]]):=qjE.g 1<|
 tb λo4 bo4=>lB 1<|dm (zT s k0 k02 _ bo4)<|tF (ts<|tE)<|tb λr6 br6=>tv (cU [s] 1 rfl)<|tc [0] (ai _ br6)<|tE
abbrev bL:=(ae->(List Int)->Bool->Option (Bool×(List Int)))
abbrev cY(R:bL):Prop:=∀(t:ae) (k0:(List Int)) (k02:Bool),OG 53 [.bptr 0 0,.agg (aj t)] [] [.cells [.nptr 0 76,sl (cI .u8) k0,.bool k02] [(1,5)]] (R t k0 k02) (λr=>.tuple []) [] (λr=>[.cells [.nptr 0 76,sl (cI .u8) r.2,.bool r.1] [(1,5)]])
noncomputable def qlq:Code:=f79.body.getD .skip
def qkF:List Nat:=[]
theorem qk5:ZF Pg qkF 79 f79 qlq:=zf call79 func79 rfl mixed
def mb(p:aa):Option Bool:=
 (AB p (⟨0,([]:ah),0,([]:List aa)⟩:aa)).bind λr1=>
 some r1
theorem nH{p:aa}:OV 79 [.agg (ac p)] (mb p) (λr=>.bool r) []:=qk5.v<|
 tb λr1 br1=>te (eI p)<|tv (bC p)<|Oq (MS) (MP)<|cJ (BN _ br1)<|tE
noncomputable def qjL:Code:=f74.body.getD .skip
def qkC:List Nat:=[]
theorem qjG:ZF Pg qkC 74 f74 qjL:=zf call74 func74 rfl mixed
section
variable(t:ae)(m:(List Int))(m2:Bool)
def g5:Option Bool:=
 (mb t.Pred).bind λr1=>
 if r1=true then
  if(t.Op==6)=true then
   some true
  else if decide ((t.Args.length:Int)>0)=true then
   some true
  else
   some (decide ((t.Preds.length:Int)>0))
 else
  some false
theorem zS:OJ 1 (cA qjL 12) (g5 t) .normal (λo=>aZ 36 [(0,.bptr 0 0),(3,.eptr (aj t)),(23,.bool o)] [.cells [.nptr 0 76,sl (cI .u8) m,.bool m2] [(1,5)],.dead] []) (aZ 36 [(0,.bptr 0 0),(3,.eptr (aj t))] [.cells [.nptr 0 76,sl (cI .u8) m,.bool m2] [(1,5)],.dead] []):=qjG.j<|
 tb λr1 br1=>have pp3:=λ{X Y Z} (r:PV _ X Y Z)=>tw (cZ t)<|cJ (nH _ br1)<|r;tf (λc2=>have pp5:=λ{X Y Z} (r:PV _ X Y Z)=>pp3<|tg 4 c2<|tw (aW t)<|r;tf (λc4=>pp5<|tg 8 c4<|tE) λc4=>have pp7:=λ{X Y Z} (r:PV _ X Y Z)=>pp5<|tg 8 c4<|tw (aX t)<|cq (dy.ln t.Args)<|r;tf (λc6=>pp7<|tg 14 c6<|tE) λc6=>pp7<|tg 14 c6<|tw (bu t)<|cq (eL.ln t.Preds)<|tE) λc2=>pp3<|tg 4 c2<|tE
end
def ki(R78:bL)(t:ae)(k0:(List Int))(k02:Bool):Option ((List Int)×Bool):=
 (g5 t).bind λo8=>
 if o8=true then
  (ak ([cd]:List ah) k0 k02).bind λr10=>
  (R78 t r10 k02).bind λr11=>
  (ak ([bA]:List ah) r11.2 r11.1).bind λr12=>
  some (r12,r11.1)
 else
  (R78 t k0 k02).bind λr13=>
  some (r13.2,r13.1)
theorem De(R78:bL)(hR78:cY R78){t:ae}{k0:(List Int)}{k02:Bool}:OG 74 [.bptr 0 0,.agg (aj t)] [] [.cells [.nptr 0 76,sl (cI .u8) k0,.bool k02] [(1,5)]] (ki R78 t k0 k02) (λr=>.tuple []) [] (λr=>[.cells [.nptr 0 76,sl (cI .u8) r.1,.bool r.2] [(1,5)]]):=qjG.g 1<|
 tb λo8 bo8=>te (fe t)<|lB 1<|dm (zS t k0 k02 _ bo8)<|tF (tb λr10 br10=>tb λr11 br11=>tb λr12 br12=>tv (cU [cd] 1 rfl)<|tc [0] (ai _ br10)<|tv (cC t)<|tc [0] (hR78 _ _ _ _ br11)<|tv (cU [bA] 1 rfl)<|tc [0] (ai _ br12)<|tE)<|tb λr13 br13=>tv (cC t)<|tc [0] (hR78 _ _ _ _ br13)<|tE
abbrev vC:=(aa->Option Int)
abbrev Bj(R:vC):Prop:=∀(p:aa),OV 226 [.agg (ac p)] (R p) (λr=>.int .i64 r) []
noncomputable def qdO:Code:=f226.body.getD .skip
def qhm:List Nat:=[18]
theorem qfb:ZF Pg qhm 226 f226 qdO:=zf call226 func226 rfl mixed
section
variable(R59:vC)(t7:waD)(t8:Int)(n:Int)(t9:Int)
def og:aF:=aZ 19 [(3,.int .i64 n),(7,sl ac t7),(8,.int .i64 t8),(9,.int .i64 t9)] [.dead] []
def uk(o:Int):aF:=aZ 19 [(3,.int .i64 o)] [.dead] []
instance iS_pred_Nodes_L1:KS 0 (og t7 t8 n t9):=⟨rfl,(bE (aI vzz (aI (up (aU bv t7)) (aI vzz (aI vzz vzz))))),(aI vzz vzz)⟩
instance iO_pred_Nodes_L1{o:Int}:KS 0 (uk o):=⟨rfl,(bE (aI vzz vzz)),(aI vzz vzz)⟩
def CM:Option ((Int×Int)⊕(Int)):=
 if decide (t9<t8)=true then
  (dh t7 t9).bind λx2=>
  (R59 x2).bind λr3=>
  some (.inl (dU (n+r3),dU (t9+1)))
 else
  some (.inr n)
def Gq:Option Int:=loop (λ(zz:Int×Int)=>CM R59 t7 t8 zz.1 zz.2) (n,t9)
theorem IT(hR59:Bj R59):OL 0 (cA qdO 119) (CM R59 t7 t8 n t9) (λ(zz:Int×Int)=>og t7 t8 zz.1 zz.2) (λ_=>.exit 0) uk (og t7 t8 n t9):=qfb.lx<|
 tF (tb λx2 bx2=>tb λr3 br3=>tv (eL.ia (k:=.i64) bx2)<|tv (bC x2)<|tx N7<|tx (jK x2)<|tv (kz x2 [])<|cJ (hR59 _ _ br3)<|tE)<|tE
theorem Kn(hR59:Bj R59):OJ 0 (.loop (cA qdO 119)) (Gq R59 t7 t8 n t9) (.exit 0) uk (og t7 t8 n t9):=Ke λ_=>IT _ _ _ _ _ hR59
end
def IS(R59:vC)(p:aa):Option Int:=
 (Gq R59 p.Kids (p.Kids.length:Int) 1 0).bind λo4=>
 some o4
theorem N2(R59:vC)(hR59:Bj R59){p:aa}:OV 226 [.agg (ac p)] (IS R59 p) (λr=>.int .i64 r) []:=qfb.v<|
 tb λo4 bo4=>te (eI p)<|tw (aK p)<|cq (eL.ln p.Kids)<|dm (Kn R59 p.Kids (p.Kids.length:Int) 1 0 hR59 _ bo4)<|tE
def BM:(aa->Option Int)->(aa)->Option Int:=λ(rec:aa->Option Int) (x:aa)=>IS (λp=>rec p) x
def rD(p:aa):Option Int:=oE BM p
theorem Gr{p:aa}:OV 226 [.agg (ac p)] (rD p) (λr=>.int .i64 r) []:=IJ λ_ h=>
 eE (F:=BM) (M:=λ(x:aa) (r:Int)=>CC Pg GE 226 [.agg (ac x)] (.int .i64 r) []) (λrec hrec x r h=>N2 _ (λp=>IJ λr h=>hrec p r h) _ h) h
abbrev vB:=(aa->Option Int)
abbrev Bi(R:vB):Prop:=∀(p:aa),OV 227 [.agg (ac p)] (R p) (λr=>.int .i64 r) []
noncomputable def qdP:Code:=f227.body.getD .skip
def qhn:List Nat:=[]
theorem qfc:ZF Pg qhn 227 f227 qdP:=zf call227 func227 rfl mixed
section
variable(R60:vB)(t7:waD)(t8:Int)(n:Int)(t9:Int)
def oe:aF:=aZ 20 [(3,.int .i64 n),(7,sl ac t7),(8,.int .i64 t8),(9,.int .i64 t9)] [.dead] []
def uj(o:Int):aF:=aZ 20 [(3,.int .i64 o)] [.dead] []
instance iS_pred_Depth_L1:KS 0 (oe t7 t8 n t9):=⟨rfl,(bE (aI vzz (aI (up (aU bv t7)) (aI vzz (aI vzz vzz))))),(aI vzz vzz)⟩
instance iO_pred_Depth_L1{o:Int}:KS 0 (uj o):=⟨rfl,(bE (aI vzz vzz)),(aI vzz vzz)⟩
def CL:Option ((Int×Int)⊕(Int)):=
 if decide (t9<t8)=true then
  (dh t7 t9).bind λx2=>
  (R60 x2).bind λr3=>
  some (.inl ((if r3>n then r3 else n),dU (t9+1)))
 else
  some (.inr n)
def Gn:Option Int:=loop (λ(zz:Int×Int)=>CL R60 t7 t8 zz.1 zz.2) (n,t9)
theorem IR(hR60:Bi R60):OL 0 (cA qdP 119) (CL R60 t7 t8 n t9) (λ(zz:Int×Int)=>oe t7 t8 zz.1 zz.2) (λ_=>.exit 0) uj (oe t7 t8 n t9):=qfc.lx<|
 tF (tb λx2 bx2=>tb λr3 br3=>tv (eL.ia (k:=.i64) bx2)<|tv (bC x2)<|tx N7<|tx (jK x2)<|tv (kz x2 [])<|cJ (hR60 _ _ br3)<|tE)<|tE
theorem Km(hR60:Bi R60):OJ 0 (.loop (cA qdP 119)) (Gn R60 t7 t8 n t9) (.exit 0) uj (oe t7 t8 n t9):=Ke λ_=>IR _ _ _ _ _ hR60
end
def IQ(R60:vB)(p:aa):Option Int:=
 (Gn R60 p.Kids (p.Kids.length:Int) 0 0).bind λo4=>
 some (dU (o4+1))
theorem N1(R60:vB)(hR60:Bi R60){p:aa}:OV 227 [.agg (ac p)] (IQ R60 p) (λr=>.int .i64 r) []:=qfc.v<|
 tb λo4 bo4=>te (eI p)<|tw (aK p)<|cq (eL.ln p.Kids)<|dm (Km R60 p.Kids (p.Kids.length:Int) 0 0 hR60 _ bo4)<|tE
def BL:(aa->Option Int)->(aa)->Option Int:=λ(rec:aa->Option Int) (x:aa)=>IQ (λp=>rec p) x
def rC(p:aa):Option Int:=oE BL p
theorem Gp{p:aa}:OV 227 [.agg (ac p)] (rC p) (λr=>.int .i64 r) []:=IJ λ_ h=>
 eE (F:=BL) (M:=λ(x:aa) (r:Int)=>CC Pg GE 227 [.agg (ac x)] (.int .i64 r) []) (λrec hrec x r h=>N1 _ (λp=>IJ λr h=>hrec p r h) _ h) h
noncomputable def qbl:Code:=f246.body.getD .skip
def qhs:List Nat:=[]
theorem qbc:ZF Pg qhs 246 f246 qbl:=zf call246 func246 rfl mixed
section
variable(t4:Int)
def BP:Option Bool:=
 if(t4==1)=true then
  some (t4==1)
 else if(t4==2)=true then
  some (t4==2)
 else
  some (t4==3)
theorem LM:OJ 0 (cA qbl 54) (BP t4) .normal (λo=>aZ 15 [(4,.int .i64 t4),(5,.bool o)] [] []) (aZ 15 [(4,.int .i64 t4)] [] []):=qbc.j<|
 tF tE<|tF tE<|tE
end
section
variable(t4:Int)
def BQ:Option Bool:=
 if(t4==4)=true then
  some (t4==4)
 else
  some (t4==5)
theorem LN:OJ 0 (cA qbl 222) (BQ t4) .normal (λo=>aZ 15 [(4,.int .i64 t4),(9,.bool o)] [] []) (aZ 15 [(4,.int .i64 t4)] [] []):=qbc.j<|
 tF tE<|tE
end
section
variable(t4:Int)
def BS:Option Bool:=
 if(t4==9)=true then
  some (t4==9)
 else
  some (t4==14)
theorem LO:OJ 0 (cA qbl 894) (BS t4) .normal (λo=>aZ 15 [(12,.bool o)] [] []) (aZ 15 [(4,.int .i64 t4)] [] []):=qbc.j<|
 tF tE<|tE
end
def Fh(op:Int):Option (Int×Int):=
 (BP op).bind λo3=>
 if o3=true then
  some (0,0)
 else
  (BQ op).bind λo6=>
  if o6=true then
   some (1,24)
  else
   (BS op).bind λo9=>
   if o9=true then
    some (1,1)
   else
    some (2,2)
theorem RL{op:Int}:OV 246 [.int .i64 op] (Fh op) (λr=>.tuple [.int .i64 r.1,.int .i64 r.2]) []:=qbc.v<|
 tb λo3 bo3=>lB 3<|dm (LM op _ bo3)<|tF tE<|tb λo6 bo6=>lB 0<|dm (LN op _ bo6)<|tF tE<|tb λo9 bo9=>lB 0<|dm (LO op _ bo9)<|tF tE<|tE
noncomputable def qiL:Code:=f247.body.getD .skip
def qht:List Nat:=[]
theorem qh9:ZF Pg qht 247 f247 qiL:=zf call247 func247 rfl mixed
def BT(op:Int):Option Bool:=
 if(op==3)=true then
  some true
 else if(op==4)=true then
  some true
 else
  some (op==5)
theorem Gs{op:Int}:OV 247 [.int .i64 op] (BT op) (λr=>.bool r) []:=qh9.v<|
 tf (λc1=>tg 3 c1<|tE) λc1=>tf (λc2=>tg 3 c1<|tg 7 c2<|tE) λc2=>tg 3 c1<|tg 7 c2<|tE
noncomputable def OP:Code:=f229.body.getD .skip
def qho:List Nat:=[]
theorem OI:ZF Pg qho 229 f229 OP:=zf call229 func229 rfl mixed
section
variable(p:aa)
def vN:Option Bool:=
 if decide (p.Op<1)=true then
  some true
 else
  some (decide (p.Op>18))
theorem LP:OJ 0 (cA OP 12) (vN p) .normal (λo=>aZ 130 [(1,.eptr (ac p)),(14,.bool o)] [.dead] []) (aZ 130 [(1,.eptr (ac p))] [.dead] []):=OI.j<|
 have pp2:=λ{X Y Z} (r:PV _ X Y Z)=>tw (aQ p)<|r;tf (λc1=>pp2<|tg 4 c1<|tE) λc1=>pp2<|tg 4 c1<|tw (aQ p)<|tE
end
section
variable(p:aa)(least:Int)(most:Int)
def vO:Option Bool:=
 (BT p.Op).bind λr6=>
 if (!r6) = true then
  if(!(p.Name==([]:ah)))=true then
   some true
  else if(p.Op !=1)=true then
   if(p.Op !=2)=true then
    if(p.N !=0)=true then
     some true
    else if decide ((p.Kids.length:Int)<least)=true then
     some true
    else
     some (decide ((p.Kids.length:Int)>most))
   else if decide ((p.Kids.length:Int)<least)=true then
    some true
   else
    some (decide ((p.Kids.length:Int)>most))
  else if decide ((p.Kids.length:Int)<least)=true then
   some true
  else
   some (decide ((p.Kids.length:Int)>most))
 else if(p.Op !=1)=true then
  if(p.Op !=2)=true then
   if(p.N !=0)=true then
    some true
   else if decide ((p.Kids.length:Int)<least)=true then
    some true
   else
    some (decide ((p.Kids.length:Int)>most))
  else if decide ((p.Kids.length:Int)<least)=true then
   some true
  else
   some (decide ((p.Kids.length:Int)>most))
 else if decide ((p.Kids.length:Int)<least)=true then
  some true
 else
  some (decide ((p.Kids.length:Int)>most))
theorem LR:OJ 0 (cA OP 60) (vO p least most) .normal (λo=>aZ 130 [(1,.eptr (ac p)),(58,.bool o)] [.dead] []) (aZ 130 [(1,.eptr (ac p)),(3,.int .i64 least),(4,.int .i64 most)] [.dead] []):=OI.j<|
 tb λr6 br6=>have pp8:=λ{X Y Z} (r:PV _ X Y Z)=>tw (aQ p)<|cJ (Gs _ br6)<|r;tf (λc7=>have pp10:=λ{X Y Z} (r:PV _ X Y Z)=>pp8<|tg 5 c7<|tw (cy p)<|r;tf (λc9=>pp10<|tg 10 c9<|tE) λc9=>have pp12:=λ{X Y Z} (r:PV _ X Y Z)=>pp10<|tg 10 c9<|tw (aQ p)<|r;tf (λc11=>have pp14:=λ{X Y Z} (r:PV _ X Y Z)=>pp12<|tg 14 c11<|tw (aQ p)<|r;tf (λc13=>have pp16:=λ{X Y Z} (r:PV _ X Y Z)=>pp14<|tg 19 c13<|tw (bM p)<|r;tf (λc15=>pp16<|tg 25 c15<|tE) λc15=>have pp18:=λ{X Y Z} (r:PV _ X Y Z)=>pp16<|tg 25 c15<|tw (aK p)<|cq (eL.ln p.Kids)<|r;tf (λc17=>pp18<|tg 32 c17<|tE) λc17=>pp18<|tg 32 c17<|tw (aK p)<|cq (eL.ln p.Kids)<|tE) λc13=>have pp20:=λ{X Y Z} (r:PV _ X Y Z)=>pp14<|tg 19 c13<|tw (aK p)<|cq (eL.ln p.Kids)<|r;tf (λc19=>pp20<|tg 32 c19<|tE) λc19=>pp20<|tg 32 c19<|tw (aK p)<|cq (eL.ln p.Kids)<|tE) λc11=>have pp22:=λ{X Y Z} (r:PV _ X Y Z)=>pp12<|tg 14 c11<|tw (aK p)<|cq (eL.ln p.Kids)<|r;tf (λc21=>pp22<|tg 32 c21<|tE) λc21=>pp22<|tg 32 c21<|tw (aK p)<|cq (eL.ln p.Kids)<|tE) λc7=>have pp24:=λ{X Y Z} (r:PV _ X Y Z)=>pp8<|tg 5 c7<|tw (aQ p)<|r;tf (λc23=>have pp26:=λ{X Y Z} (r:PV _ X Y Z)=>pp24<|tg 14 c23<|tw (aQ p)<|r;tf (λc25=>have pp28:=λ{X Y Z} (r:PV _ X Y Z)=>pp26<|tg 19 c25<|tw (bM p)<|r;tf (λc27=>pp28<|tg 25 c27<|tE) λc27=>have pp30:=λ{X Y Z} (r:PV _ X Y Z)=>pp28<|tg 25 c27<|tw (aK p)<|cq (eL.ln p.Kids)<|r;tf (λc29=>pp30<|tg 32 c29<|tE) λc29=>pp30<|tg 32 c29<|tw (aK p)<|cq (eL.ln p.Kids)<|tE) λc25=>have pp32:=λ{X Y Z} (r:PV _ X Y Z)=>pp26<|tg 19 c25<|tw (aK p)<|cq (eL.ln p.Kids)<|r;tf (λc31=>pp32<|tg 32 c31<|tE) λc31=>pp32<|tg 32 c31<|tw (aK p)<|cq (eL.ln p.Kids)<|tE) λc23=>have pp34:=λ{X Y Z} (r:PV _ X Y Z)=>pp24<|tg 14 c23<|tw (aK p)<|cq (eL.ln p.Kids)<|r;tf (λc33=>pp34<|tg 32 c33<|tE) λc33=>pp34<|tg 32 c33<|tw (aK p)<|cq (eL.ln p.Kids)<|tE
end
section
variable(p:aa)
def vP:Option Bool:=
 if (p.Op == 1) = true then
  (NJ p.N).bind λr39=>
  if(!r39)=true then
   some true
  else if(p.Op==2)=true then
   if(p.N !=0)=true then
    some (p.N !=1)
   else
    some false
  else
   some false
 else if(p.Op==2)=true then
  if(p.N !=0)=true then
   some (p.N !=1)
  else
   some false
 else
  some false
theorem LS:OJ 0 (cA OP 124) (vP p) .normal (λo=>aZ 130 [(1,.eptr (ac p)),(82,.bool o)] [.dead] []) (aZ 130 [(1,.eptr (ac p))] [.dead] []):=OI.j<|
 have pp38:=λ{X Y Z} (r:PV _ X Y Z)=>tw (aQ p)<|r;tf (λc37=>tb λr39 br39=>have pp41:=λ{X Y Z} (r:PV _ X Y Z)=>pp38<|tg 4 c37<|tw (bM p)<|cJ (P1 _ br39)<|r;tf (λc40=>pp41<|tg 10 c40<|tE) λc40=>have pp43:=λ{X Y Z} (r:PV _ X Y Z)=>pp41<|tg 10 c40<|tw (aQ p)<|r;tf (λc42=>have pp45:=λ{X Y Z} (r:PV _ X Y Z)=>pp43<|tg 14 c42<|tw (bM p)<|r;tf (λc44=>pp45<|tg 19 c44<|tw (bM p)<|tE) λc44=>pp45<|tg 19 c44<|tE) λc42=>pp43<|tg 14 c42<|tE) λc37=>have pp47:=λ{X Y Z} (r:PV _ X Y Z)=>pp38<|tg 4 c37<|tw (aQ p)<|r;tf (λc46=>have pp49:=λ{X Y Z} (r:PV _ X Y Z)=>pp47<|tg 14 c46<|tw (bM p)<|r;tf (λc48=>pp49<|tg 19 c48<|tw (bM p)<|tE) λc48=>pp49<|tg 19 c48<|tE) λc46=>pp47<|tg 14 c46<|tE
end
section
variable(p:aa)
def BU:Option Bool:=
 (BT p.Op).bind λr52=>
 if r52=true then
  (lQ p.Name).bind λr55=>
  some (r55 !=0)
 else
  some false
theorem LT:OJ 0 (cA OP 252) (BU p) .normal (λo=>aZ 130 [(1,.eptr (ac p)),(91,.bool o)] [.dead] []) (aZ 130 [(1,.eptr (ac p))] [.dead] []):=OI.j<|
 tb λr52 br52=>have pp54:=λ{X Y Z} (r:PV _ X Y Z)=>tw (aQ p)<|cJ (Gs _ br52)<|r;tf (λc53=>tb λr55 br55=>pp54<|tg 4 c53<|tw (cy p)<|cJ (iL _ br55)<|tE) λc53=>pp54<|tg 4 c53<|tE
end
section
variable(p:aa)
def BV:Option Bool:=
 if(p.Op==3)=true then
  some (p.Name==([118]:ah))
 else
  some false
theorem LU:OJ 0 (cA OP 1012) (BV p) .normal (λo=>aZ 130 [(1,.eptr (ac p)),(5,.bool o)] [.dead] []) (aZ 130 [(1,.eptr (ac p))] [.dead] []):=OI.j<|
 have pp59:=λ{X Y Z} (r:PV _ X Y Z)=>tw (aQ p)<|r;tf (λc58=>pp59<|tg 4 c58<|tw (cy p)<|tE) λc58=>pp59<|tg 4 c58<|tE
end
section
variable(p:aa)(v:Bool)
def BW:Option Bool:=
 if(p.Op==4)=true then
  if(p.Name==([116,97,103]:ah))=true then
   some true
  else
   some (p.Name==([118,97,108]:ah))
 else
  some false
theorem LW:OJ 0 (cA OP 2026) (BW p) .normal (λo=>aZ 130 [(1,.eptr (ac p)),(5,.bool v),(6,.bool o)] [.dead] []) (aZ 130 [(1,.eptr (ac p)),(5,.bool v)] [.dead] []):=OI.j<|
 have pp62:=λ{X Y Z} (r:PV _ X Y Z)=>tw (aQ p)<|r;tf (λc61=>have pp64:=λ{X Y Z} (r:PV _ X Y Z)=>pp62<|tg 4 c61<|tw (cy p)<|r;tf (λc63=>pp64<|tg 8 c63<|tE) λc63=>pp64<|tg 8 c63<|tw (cy p)<|tE) λc61=>pp62<|tg 4 c61<|tE
end
section
variable(p:aa)(v:Bool)(symbol:Bool)
def BX:Option Bool:=
 if(!v)=true then
  some (!symbol)
 else
  some false
theorem LX:OJ 0 (cA OP 4054) (BX v symbol) .normal (λo=>aZ 130 [(1,.eptr (ac p)),(118,.bool o)] [.dead] []) (aZ 130 [(1,.eptr (ac p)),(5,.bool v),(6,.bool symbol)] [.dead] []):=OI.j<|
 tf (λc66=>tg 3 c66<|tE) λc66=>tg 3 c66<|tE
end
section
variable(p:aa)
def N3(o:Unit⊕(Unit)):Exit:=match o with
 |(.inl _)=>.ret
 |(.inr _)=>.normal
def N4(o:Unit⊕(Unit)):aF:=match o with
 |(.inl o)=>aZ 130 [(2,.int .i64 3)] [.dead] []
 |(.inr o)=>aZ 130 [(1,.eptr (ac p))] [.dead] []
def vQ:Option (Unit⊕(Unit)):=
 (BU p).bind λo56=>
 if o56=true then
  (BV p).bind λo60=>
  (BW p).bind λo65=>
  (BX o60 o65).bind λo67=>
  if o67=true then
   some (.inl ())
  else
   some (.inr ())
 else
  some (.inr ())
theorem CP:OK 0 (cA OP 126) (vQ p) N3 (N4 p) (aZ 130 [(1,.eptr (ac p))] [.dead] []):=OI.k<|
 tb λo56 bo56=>lB 0<|dm (LT p _ bo56)<|tF (tb λo60 bo60=>tb λo65 bo65=>tb λo67 bo67=>lB 0<|dm (LU p _ bo60)<|lB 0<|dm (LW p o60 _ bo65)<|lB 0<|dm (LX p o60 o65 _ bo67)<|tF tE<|tE)<|tE
end
section
variable(p:aa)
def BY:Option Bool:=
 if(p.Op==8)=true then
  (dh p.Kids 0).bind λx72=>
  some (x72.Op !=1)
 else
  some false
theorem LY:OJ 0 (cA OP 508) (BY p) .normal (λo=>aZ 130 [(129,.bool o)] [.dead] []) (aZ 130 [(1,.eptr (ac p))] [.dead] []):=OI.j<|
 have pp71:=λ{X Y Z} (r:PV _ X Y Z)=>tw (aQ p)<|r;tf (λc70=>tb λx72 bx72=>pp71<|tg 4 c70<|tw (aK p)<|tv (eL.ia (k:=.i64) bx72)<|tw (aQ x72)<|tE) λc70=>pp71<|tg 4 c70<|tE
end
def Fi(p:aa):Option Int:=
 (vN p).bind λo3=>
 if o3=true then
  some 1
 else
  (Fh p.Op).bind λr5=>
  (vO p r5.1 r5.2).bind λo35=>
  if o35=true then
   some 1
  else
   (vP p).bind λo50=>
   if o50=true then
    some 2
   else
    (vQ p).bind λo69=>match o69 with
    |(.inl o69)=>
     some 3
    | (.inr o69) =>
     (BY p).bind λo73=>
     if o73=true then
      some 6
     else
      some 0
theorem IV{p:aa}:OV 229 [.agg (ac p)] (Fi p) (λr=>.int .i64 r) []:=OI.v<|
 tb λo3 bo3=>te (eI p)<|lB 1<|dm (LP p _ bo3)<|tF tE<|tb λr5 br5=>tb λo35 bo35=>tw (aQ p)<|cJ (RL _ br5)<|lB 1<|dm (LR p r5.1 r5.2 _ bo35)<|tF tE<|tb λo50 bo50=>lB 1<|dm (LS p _ bo50)<|tF tE<|t2 (λo69 bo69=>lB 0<|dm (CP p _ bo69)<|tE) λo69 bo69=>tb λo73 bo73=>lB 0<|dm (CP p _ bo69)<|lB 1<|dm (LY p _ bo73)<|tF tE<|tE
abbrev qlw:Nat:=184
noncomputable def qbm:Code:=f184.body.getD .skip
abbrev qjU:Code:=gf qbm [false]
abbrev qi0:Code:=gf qbm [true,false]
abbrev qi1:Code:=gf qbm [true,true,false]
abbrev qjV:Code:=gf qbm [true,true,true,false,false]
abbrev qa3:Code:=gf qbm [true,true,true,false,true,false]
abbrev qd5:Code:=gf qbm [true,true,true,true,false]
theorem qdT:qbm=.seq qjU (.seq qi0 (.seq qi1 (.seq (.seq qjV (.block 0 (.rangeFunc (.tmp 12) #[13] (qfY qa3) (qfZ qa3)))) (.seq qd5 .ret)))):=by kernel_rfl
def dF(s:Int)(x:aa):Option (Bool×Int):=(Fi x).bind λe=>if(e !=0)=true then some (false,e)else some (true,s)
def rB(p:aa):Option Int:=
 (rD p).bind λn=>if decide (n>400)=true then some 7 else
 (rC p).bind λd=>if decide (d>40)=true then some 8 else
 (Oy dF p 0).bind λq=>if q.1=true then some 0 else some q.2
abbrev qbo(s:Int):List aB:=[.dead,.cells [.int .i64 s] []]
abbrev Ui(s:Int):aF:=aZ 19 [(2,.bptr 1 0)] (qbo s) []
abbrev Ol(p:aa):aF:=aZ 19 [(1,.eptr (ac p)),(2,.bptr 1 0)] (qbo 0) []
theorem qlA(p:aa):d6 Pg GE 0 qjU (EX .normal (Ol p)) (aZ 19 [(0,.agg (ac p))] [] []):=by
 have z:=se (eI p)<|sx (show fu Pg 61=some [.int .i64 0] by kernel_rfl)<|eF .normal (Ol p)
 exact j9 (A:=[]) mixed z (by kernel_rfl)
theorem qi3(p:aa){n:Int}(h:rD p=some n)(c:decide (n>400)=true):d6 Pg GE 0 qi0 (EX .ret (Ui 7)) (Ol p):=by
 have z:=sv (bC p)<|qew (Gr _ h)<|sg 0 c<|ss<|eF .ret (Ui 7)
 exact j9 (A:=[]) mixed z (by kernel_rfl)
theorem qi4(p:aa){n:Int}(h:rD p=some n)(c:decide (n>400)=false):d6 Pg GE 0 qi0 (EX .normal (Ol p)) (Ol p):=by
 have z:=sv (bC p)<|qew (Gr _ h)<|sg 0 c<|eF .normal (Ol p)
 exact j9 (A:=[]) mixed z (by kernel_rfl)
theorem qi5(p:aa){n:Int}(h:rC p=some n)(c:decide (n>40)=true):d6 Pg GE 0 qi1 (EX .ret (Ui 8)) (Ol p):=by
 have z:=sv (bC p)<|qew (Gp _ h)<|sg 0 c<|ss<|eF .ret (Ui 8)
 exact j9 (A:=[]) mixed z (by kernel_rfl)
theorem qi6(p:aa){n:Int}(h:rC p=some n)(c:decide (n>40)=false):d6 Pg GE 0 qi1 (EX .normal (Ol p)) (Ol p):=by
 have z:=sv (bC p)<|qew (Gp _ h)<|sg 0 c<|eF .normal (Ol p)
 exact j9 (A:=[]) mixed z (by kernel_rfl)
abbrev qcB(p:aa):aF:=aZ 19 [(2,.bptr 1 0),(12,.func (.func fW) [] [.eptr (ac p)])] (qbo 0) []
theorem qlB(p:aa):d6 Pg GE 0 qjV (EX .normal (qcB p)) (Ol p):=by
 have z:=sv (bC p)<|qew (WS p)<|eF .normal (qcB p)
 exact j9 (A:=[]) mixed z (by kernel_rfl)
abbrev qex(s:Int)(x:aa):aF:=aZ 19 [(2,.bptr 1 0),(3,.bptr 2 0)] (qbo s++[.cells (Sr x) []]) []
theorem qlC(s:Int)(x:aa):d6 Pg GE 2 (qfY qa3) (EX .normal (qex s x)) (aZ 19 [(2,.bptr 1 0),(13,.agg (ac x))] (qbo s) []):=by
 have z:=sx N7<|sx (jK x)<|eF .normal (qex s x)
 exact j9 (A:=[]) mixed z (by kernel_rfl)
abbrev qey(r:Int):aF:=aZ 19 [(2,.bptr 1 0)] (qbo r++[.dead]) []
theorem qlD(s:Int)(x:aa){r:Bool×Int}(h:dF s x=some r):d6 Pg GE 2 (qfZ qa3) (EX (if r.1=true then .normal else .ret) (qey r.2)) (qex s x):=by
 unfold dF at h
 obtain⟨e,be,h⟩:=Gd h
 rcases n9 h with⟨c1,h⟩|⟨c1,h⟩
 ·cases h
  have z:=sv (kz x [])<|qew (IV _ be)<|sg 0 c1<|ss<|eF .ret (qey e)
  exact j9 (A:=[]) mixed z (by kernel_rfl)
 ·cases h
  have z:=sv (kz x [])<|qew (IV _ be)<|sg 0 c1<|eF .normal (qey s)
  exact j9 (A:=[]) mixed z (by kernel_rfl)
theorem qi2(s:Int):d6 Pg GE 2 (.seq qd5 .ret) (EX .ret (Ui 0)) (Ui s):=by
 have z:=ss<|eF .ret (Ui 0)
 exact j9 (A:=[]) mixed z (by kernel_rfl)
theorem qfI(s:Int):d6 Pg GE 2 .ret (EX .ret (Ui s)) (Ui s):=by
 have z:=eF .ret (Ui s)
 exact j9 (A:=[]) mixed z (by kernel_rfl)
abbrev Cg(fn:FuncId)(a:Array Value)(D:Nat)(b:Bool):Loop:={state:=if b then .ready else .done,pending:=if b then none else some .ret,fn:=fn,tmps:=a,params:=#[13],assign:=qfY qa3,body:=qfZ qa3,defers:=D}
def JC(Γe:bp)(we:World)(bs:bG)(a:Array Value)(fn:FuncId)(l D:Nat)(b:Bool)(s:Int)(Γ:bp)(w:World):Prop:=
 ∃ow,SR Pg (QE GE Γe we) Γ bs ow w a (Ui s)/\¬bJ bs ow l/\¬bJ bs ow D/\w.heap[l]? =some (.loop (Cg fn a D b))/\w.heap[D]? =some (.deferred (some []))
theorem qeU{Γe:bp}{we:World}{bs:bG}{a:Array Value}{fn:FuncId}{l D:Nat}(hl:we.heap.size<=l)(hD:we.heap.size<=D)(hne:D≠l)(hb:bs.length=2):Yd Pg GE l ac dF (JC Γe we bs a fn l D) where
 base:=λb s Γ w ⟨ow,h,_⟩=>h.base
 side:=λb s Γ w ⟨ow,h,hTl,hTD,hhl,hhD⟩ Γ' bs' ow' w' a' st' h'=>
  ⟨ow,h.aside h',hTl,hTD,(h'.step.keep l (iK hhl) id).1.trans hhl,(h'.step.keep D (iK hhD) id).1.trans hhD⟩
 yield:=λs Γ w x v n r ⟨ow,h,hTl,hTD,hhl,hhD⟩ hv hr=>by
  have hS4:=qlD s x hr
  refine⟨_,_,_,_,run_yield hhl rfl,?_⟩
  have hz:(((#[13]:Array Tmp).zip #[v]).foldl (λtmps (t,a)=>tmps.setIfInBounds t a) a)=a.setIfInBounds 13 v:=by simp
  show RoundIn Fence.wide n Pg l fn (((#[13]:Array Tmp).zip #[v]).foldl (λtmps (t,a)=>tmps.setIfInBounds t a) a) (qfY qa3) (qfZ qa3) w _
  rw[hz]
  have h7:SR Pg (QE GE Γe we) Γ bs ow w (a.setIfInBounds 13 v) (aZ 19 [(2,.bptr 1 0),(13,.agg (ac x))] (qbo s) []):=h.set (d:=13) (p:=.agg (ac x)) (hv.mono (.refl _ _) (λi b hi=>by simp at hi))
  refine roundIn_of_wpIn vzz (wpIn_mono (d6.on (qlC s x) (by decide) h7 (by rw[hb];decide) (some l) [] n) ?_)
  rintro e ⟨a1,ds1⟩ w1 ⟨rfl,Γ1,bs1,ow1,st1,h1,⟨rfl,rfl⟩,hbs1,hle1,hsz1,hk1⟩
  obtain⟨k1,t1⟩:=hk1 l (iK hhl) hTl
  obtain⟨k1D,t1D⟩:=hk1 D (iK hhD) hTD
  have hl1:=k1.trans hhl
  refine⟨_,run_beginRound hl1 rfl,?_⟩
  obtain⟨h1',hle1'⟩:=h1.putOther (l:=l) (o:=.loop {Cg fn a D true with state:=.busy}) t1 (.inr hl) (λc t fr e=>by rw[hl1]at e;cases e)
  have hb1:2<=bs1.length:=by have:=h1.bl;rw[this];exact Nat.le_of_ble_eq_true rfl
  obtain⟨bq,s'⟩:=r
  refine wpIn_mono (d6.on hS4 (by decide) h1' hb1 (some l) [] n) ?_
  rintro e ⟨a2,ds2⟩ w2 ⟨rfl,Γ2,bs2,ow2,st2,h2,⟨rfl,rfl⟩,hbs2,hle2,hsz2,hk2⟩
  have hl1':(w1.putObj l (.loop {Cg fn a D true with state:=.busy})).heap[l]? =some (.loop {Cg fn a D true with state:=.busy}):=World.putObj_heap_same (iK hl1)
  have hD1':(w1.putObj l (.loop {Cg fn a D true with state:=.busy})).heap[D]? =some (.deferred (some [])):=(World.putObj_heap_other hne).trans (k1D.trans hhD)
  obtain⟨k2,t2⟩:=hk2 l (iK hl1') t1
  obtain⟨k2D,t2D⟩:=hk2 D (iK hD1') t1D
  have hl2:=k2.trans hl1'
  cases bq with
  |true=>
   refine⟨_,_,run_endRound none hl2,?_⟩
   obtain⟨h3,hle3⟩:=h2.putOther (l:=l) (o:=.loop {{Cg fn a D true with state:=.busy}with state:=if(none:Option Code).isNone then .ready else .done,pending:=none}) t2 (.inr hl) (λc t fr e=>by rw[hl2]at e;cases e)
   have hle:Γ.Le w Γ2 (w2.putObj l (.loop {{Cg fn a D true with state:=.busy}with state:=if(none:Option Code).isNone then .ready else .done,pending:=none})):=((hle1.trans hle1').trans hle2).trans hle3
   obtain⟨ow3,h4,hT4⟩:=h.back rfl h3 hle (H':=qbo s') (λi hi=>(hbs2 i (by omega)).trans (hbs1 i (by omega))) ⟨vzz,⟨rfl,aI vzz vzz,λx hx=>hx⟩,vzz⟩ hb.symm
   exact⟨Γ2,rfl,hle,ow3,h4,λhx=>t2 (hT4 l hx),λhx=>t2D (hT4 D hx),World.putObj_heap_same (iK hl2),(World.putObj_heap_other hne).trans (k2D.trans hD1')⟩
  |false=>
   refine⟨_,_,run_endRound (some .ret) hl2,?_⟩
   obtain⟨h3,hle3⟩:=h2.putOther (l:=l) (o:=.loop {{Cg fn a D true with state:=.busy}with state:=if(some Code.ret:Option Code).isNone then .ready else .done,pending:=some .ret}) t2 (.inr hl) (λc t fr e=>by rw[hl2]at e;cases e)
   have hle:Γ.Le w Γ2 (w2.putObj l (.loop {{Cg fn a D true with state:=.busy}with state:=if(some Code.ret:Option Code).isNone then .ready else .done,pending:=some .ret})):=((hle1.trans hle1').trans hle2).trans hle3
   obtain⟨ow3,h4,hT4⟩:=h.back rfl h3 hle (H':=qbo s') (λi hi=>(hbs2 i (by omega)).trans (hbs1 i (by omega))) ⟨vzz,⟨rfl,aI vzz vzz,λx hx=>hx⟩,vzz⟩ hb.symm
   exact⟨Γ2,rfl,hle,ow3,h4,λhx=>t2 (hT4 l hx),λhx=>t2D (hT4 D hx),World.putObj_heap_same (iK hl2),(World.putObj_heap_other hne).trans (k2D.trans hD1')⟩
theorem Pm{p:aa}{r:Int}(h:rB p=some r):CC Pg GE qlw [.agg (ac p)] (.int .i64 r) []:=by
 refine⟨aI (bv p) trivial,call184,λΓ bs ow w vs hS=>(callsIn_wide (n:=0)).1 (callsIn_of_wp_marks func184 (c:=qbm) rfl vzz ?_)⟩
 obtain rfl:bs=[]:=vam hS.bl
 obtain⟨v,rfl⟩:∃v,vs=#[v]:=vcH.1 hS.sz
 have hB:Qw GE Γ w:=hS.base
 have hE:Mx GE 0 (QE GE Γ w):=hB.good
 have hvr:VR Γ [] w (.agg (ac p)) v:=hS.tm 0 _ _ rfl rfl
 have h0:SR Pg (QE GE Γ w) Γ [] (λ_=>none) w (#[v]++Array.replicate 18 undef) (aZ 19 [(0,.agg (ac p))] [] []):=by
  refine hB.fresh (a:=#[v]++Array.replicate 18 undef) 0 (tmps:=[.agg (ac p)]++List.replicate 18 .undef) (by simp) λt q u hq hu=>?_
  by_cases ht:t<1
  ·rw[van (by simpa using ht)]at hq
   rw[va7 (by simpa using ht)]at hu
   match t,ht with
   |0,_=>simp at hq hu;subst hq;subst hu;exact hvr
  ·rw[vav (by show 1<=t;omega),va8]at hq
   split at hq<;>cases hq
   exact .undef u
 have key:∀R:Ending->World->Prop,(∀{Γ6:bp} {bs6:bG} {ow6:Nat->Option mh} {a6:Array Value} {w6:World},SR Pg (QE GE Γ w) Γ6 bs6 ow6 w6 a6 (Ui r)->LeavesInM Fence.wide 0 Pg f184 a6 R [] .returning w6)->
   qbm.wpIn Fence.wide 0 Pg (bodyPostM Fence.wide 0 Pg f184 R) ⟨#[v]++Array.replicate 18 undef,[]⟩ w:=λR hfin=>by
  unfold rB at h
  obtain⟨n1,b1,h⟩:=Gd h
  rw[qdT]
  refine wpIn_seq (wpIn_mono (d6.wideE (qlA p) hE h0 0 []) ?_)
  rintro e ⟨a1,ds1⟩ w1 ⟨rfl,Γ1,bs1,ow1,st1,h1,rfl,rfl⟩
  rcases n9 h with⟨c1,h⟩|⟨c1,h⟩
  ·cases h
   refine wpIn_seq (wpIn_mono (d6.wideE (qi3 p b1 c1) hE h1 0 []) ?_)
   rintro e ⟨a2,ds2⟩ w2 ⟨rfl,Γ2,bs2,ow2,st2,h2,rfl,rfl⟩
   exact hfin h2
  refine wpIn_seq (wpIn_mono (d6.wideE (qi4 p b1 c1) hE h1 0 []) ?_)
  rintro e ⟨a2,ds2⟩ w2 ⟨rfl,Γ2,bs2,ow2,st2,h2,rfl,rfl⟩
  obtain⟨n2,b2,h⟩:=Gd h
  rcases n9 h with⟨c2,h⟩|⟨c2,h⟩
  ·cases h
   refine wpIn_seq (wpIn_mono (d6.wideE (qi5 p b2 c2) hE h2 0 []) ?_)
   rintro e ⟨a3,ds3⟩ w3 ⟨rfl,Γ3,bs3,ow3,st3,h3,rfl,rfl⟩
   exact hfin h3
  refine wpIn_seq (wpIn_mono (d6.wideE (qi6 p b2 c2) hE h2 0 []) ?_)
  rintro e ⟨a22,ds22⟩ w22 ⟨rfl,Γ22,bs22,ow22,st22,h22,rfl,rfl⟩
  obtain⟨q,hq,h⟩:=Gd h
  refine wpIn_seq (wpIn_seq (wpIn_mono (d6.wideE (qlB p) hE h22 0 []) ?_))
  rintro e ⟨a3,ds3⟩ w3 ⟨rfl,Γ3,bs3,ow3,st3,h3,rfl,rfl⟩
  have h6:=h3.opv [] (.tmp 12)
  have e6:opv (QE GE Γ w).GE (qcB p).tmps (.tmp 12)=.func (.func fW) [] [.eptr (ac p)]:=rfl
  rw[e6]at h6
  have hbl:bs3.length=2:=h3.bl
  refine wpIn_block (wpIn_rangeFunc λfn _=>?_)
  obtain⟨g1,l1⟩:=h3.allocO (.deferred (some []))
  obtain⟨g2,l2⟩:=g1.allocO (.loop (Cg fn a3 w3.heap.size true))
  have gF:=g2.forgetT (tm:=(Ui 0).tmps) rfl
  have hsz3:w.heap.size<=w3.heap.size:=h3.step.size
  have htl:∀b,w3.heap.size<=b->¬bJ bs3 ow3 b:=λb hb hx=>by
   rcases hx with⟨i,hi⟩|hx
   ·have hil:i<(qcB p).boxes.length:=by rw[<-h3.bl];exact aq hi
    have:=(h3.bx i b _ hi (vac hil)).2.1
    omega
   ·cases hL:ow3 b with
    |none=>exact hx hL
    |some L=>have:=(h3.on b L hL).1;omega
  generalize hvf:(Act.mk a3 []).eval (.tmp 12)=vf at h6
  cases h6 with
  |func _ _ _ fs cs hl1 hl2 hf hc=>
  obtain rfl:fs=#[]:=vb5 hl1
  obtain⟨cv,rfl⟩:∃v,cs=#[v]:=vcH.1 hl2
  have hcv:VR Γ3 bs3 w3 (.eptr (ac p)) cv:=hc 0 _ _ rfl rfl
  have hJ:JC Γ w bs3 a3 fn (w3.heap.size+1) w3.heap.size true 0 Γ3 ((w3.alloc (.deferred (some []))).alloc (.loop (Cg fn a3 w3.heap.size true))):=by
   refine⟨ow3,gF,htl _ (by omega),htl _ (vaw _),?_,?_⟩
   ·have:=World.alloc_heap_new (w3.alloc (.deferred (some []))) (.loop (Cg fn a3 w3.heap.size true))
    rwa[World.size_alloc]at this
   ·rw[alloc_old _ _ (by rw[World.size_alloc];omega)]
    exact World.alloc_heap_new w3 _
  have hY:=qeU (Γe:=Γ) (we:=w) (bs:=bs3) (a:=a3) (fn:=fn) (l:=w3.heap.size+1) (D:=w3.heap.size) (by omega) hsz3 (by omega) hbl
  refine⟨_,_,_,{target:=.fn (.func fW) #[cv],args:=#[.func (.yield (w3.heap.size+1)) #[] #[]]},(w3.alloc (.deferred (some []))).alloc (.loop (Cg fn a3 w3.heap.size true)),fW,#[.func (.yield (w3.heap.size+1)) #[] #[],cv],(w3.alloc (.deferred (some []))).alloc (.loop (Cg fn a3 w3.heap.size true)),run_enterLoop_outer fn a3 #[13] (qfY qa3) (qfZ qa3),?_,λ_ _=>trivial,?_,λhx=>by simp[Fence.wide]at hx,?_⟩
  ·have hvf':(Act.mk a3 []).eval (.tmp 12)=.func (.func fW) #[] #[cv]:=hvf
   simp only[resolve,hvf',Deferred.ofValue]
   simp[Act.eval]
   rfl
  ·simp[invoke,call244]
  ·refine(qdV hY p (n:=0 - 1) hq hJ (((hcv.mono l1 (.refl _)).mono l2 (.refl _)).clo (show iG 0 (ac p)from bv p))).mono ?_
   rintro e w4 ⟨⟨u,rfl⟩,Γ4,hle4,ow4,h4,tl4,tD4,hl4,hD4⟩
   refine⟨_,_,run_endLoop hl4 (by cases q.1<;>simp),?_⟩
   obtain⟨h5,hle5⟩:=h4.putOther (l:=w3.heap.size+1) (o:=.loop {Cg fn a3 w3.heap.size q.1 with state:=.exhausted}) tl4 (.inr (show w.heap.size<=_ by omega)) (λc t fr e=>by rw[hl4]at e;cases e)
   have hD5:(w4.putObj (w3.heap.size+1) (.loop {Cg fn a3 w3.heap.size q.1 with state:=.exhausted})).heap[w3.heap.size]? =some (.deferred (some [])):=(World.putObj_heap_other (by omega)).trans hD4
   generalize w4.putObj (w3.heap.size+1) (.loop {Cg fn a3 w3.heap.size q.1 with state:=.exhausted})=w5 at h5 hle5 hD5
   have last:∀c:Code,d6 Pg GE 2 c (EX .ret (Ui r)) (Ui q.2)->∀Q:Exit->Act->World->Prop,(∀a w,bodyPostM Fence.wide 0 Pg f184 R .ret a w->Q .ret a w)->c.wpIn Fence.wide 0 Pg Q ⟨a3,[{target:=.collected w3.heap.size,args:=#[]}]⟩ w5:=λc hc Q hQ=>by
    refine wpIn_mono (wpIn_wide.2 (d6.on hc (by decide) h5 (by rw[hbl];decide) none [{target:=.collected w3.heap.size,args:=#[]}])) ?_
    rintro e ⟨a6,ds6⟩ w6 ⟨rfl,Γ6,bs6,ow6,st6,h6,⟨rfl,rfl⟩,hbs6,hle6,hsz6,hk6⟩
    obtain⟨k6,t6⟩:=hk6 _ (iK hD5) tD4
    have hD6:=k6.trans hD5
    obtain⟨h7,hle7⟩:=h6.putOther (l:=w3.heap.size) (o:=.deferred none) t6 (.inr hsz3) (λc t fr e=>by rw[hD6]at e;cases e)
    exact hQ _ _ ⟨by simp,.inl ⟨w3.heap.size,_,rfl,run_takeDeferred hD6,hfin h7⟩⟩
   rcases n9 h with⟨c3,h⟩|⟨c3,h⟩
   ·cases h
    have e3:(Cg fn a3 w3.heap.size q.1).pending=none:=by show(if q.1=true then none else some Code.ret)=none;rw[c3];rfl
    rw[e3]
    exact last (.seq qd5 .ret) (qi2 q.2) _ (λ_ _ hx=>hx)
   ·cases h
    have e3:(Cg fn a3 w3.heap.size q.1).pending=some .ret:=by show(if q.1=true then none else some Code.ret)=some .ret;rw[c3];rfl
    rw[e3]
    exact last .ret (qfI q.2) _ (λ_ _ hx=>hx)
 refine key _ λ{Γ6 bs6 ow6 a6 w6} h7=>?_
 have hS7:SR Pg ⟨GE,Γ,w,bJ [] ow⟩ Γ6 bs6 ow6 w6 a6 (Ui r):={h7 with
  bn:=λi b hb=>(h7.bn i b hb).elim False.elim .inr
  on:=λb L hL=>⟨(h7.on b L hL).1,(h7.on b L hL).2.elim False.elim .inr⟩
  gx:=hS.gx
  step:={h7.step with keep:=λb hb _=>h7.step.keep b hb (λhx=>hx)}}
 obtain⟨vr,e1,e2,e3⟩:=xt hS7 (fn:=f184) (r:=.int .i64 r) (by kernel_rfl)
 refine⟨vr,e1,vr,Γ6,Gi (eo f184.results.toList) [] ow6,rfl,?_⟩
 have hf:=hS7.finish (H':=[]) (src:=eo f184.results.toList) (ro:=[]) e2 vzz vzz (λx hx=>by cases hx) (λx hx=>by cases hx)
 simpa using hf
end Go.Proofs.YtibglelmlnfojaaGreatDoor
