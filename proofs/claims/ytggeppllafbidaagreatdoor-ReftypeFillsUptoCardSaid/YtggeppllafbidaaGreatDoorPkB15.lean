/- PROVED: a part of the proof. Conditions: none. -/
import Derived.Test.YtggeppllafbidaaGreatDoorPkB14
import Derived.Test.YtggeppllafbidaaGreatDoorPkB11
noncomputable section
namespace Go.Proofs.YtggeppllafbidaaGreatDoor
open Go Go.Proofs.Tryz
set_option linter.unusedVariables false
set_option maxRecDepth 100000
noncomputable def wF:Code:=f166.body.getD .skip
def e5:List Nat:=[]
section
variable(p:aa)
def CZ:aq:=aP 130 [(1,.eptr (ac p))] [.dead] []
def nR(o:Bool):aq:=aP 130 [(1,.eptr (ac p)),(14,.bool o)] [.dead] []
def yB:Option Bool:=
 if(decide (p.Op<1))=true then
  some true
 else
  some (decide (p.Op>18))
theorem Bm{x:Bool}(h:yB p=some x):aC Pg GE 0 (cA wF 12) (EX .normal (nR p x)) (CZ p):=by
 have p2:=fun{sc F} (r:PS sc F)=>sv (aE p)<|sv (aF p)<|r
 rcases aT h with⟨c1,h⟩|⟨c1,h⟩
 ·obtain rfl:=lf h
  exact ct e5 (p2<|sg 4 c1<|eF .normal (nR p true))<|by kernel_rfl
 ·obtain rfl:=lf h
  exact ct e5 (p2<|sg 4 c1<|sv (aE p)<|sv (aF p)<|eF .normal (nR p (decide (p.Op>18))))<|by kernel_rfl
end
section
variable(p:aa)(least:Int)(most:Int)
def C0:aq:=aP 130 [(1,.eptr (ac p)),(3,.int .i64 least),(4,.int .i64 most)] [.dead] []
def bQ(o:Bool):aq:=aP 130 [(1,.eptr (ac p)),(58,.bool o)] [.dead] []
def yC:Option Bool:=
 (xe p.Op).bind fun r7=>
 if (!r7) = true then
  if(!(p.Name==([]:ai)))=true then
   some true
  else
   if (p.Op != 1) = true then
    if (p.Op != 2) = true then
     if(p.N !=0)=true then
      some true
     else
      if(decide ((p.Kids.length:Int)<least))=true then
       some true
      else
       some (decide ((p.Kids.length:Int)>most))
    else
     if(decide ((p.Kids.length:Int)<least))=true then
      some true
     else
      some (decide ((p.Kids.length:Int)>most))
   else
    if(decide ((p.Kids.length:Int)<least))=true then
     some true
    else
     some (decide ((p.Kids.length:Int)>most))
 else
  if (p.Op != 1) = true then
   if (p.Op != 2) = true then
    if(p.N !=0)=true then
     some true
    else
     if(decide ((p.Kids.length:Int)<least))=true then
      some true
     else
      some (decide ((p.Kids.length:Int)>most))
   else
    if(decide ((p.Kids.length:Int)<least))=true then
     some true
    else
     some (decide ((p.Kids.length:Int)>most))
  else
   if(decide ((p.Kids.length:Int)<least))=true then
    some true
   else
    some (decide ((p.Kids.length:Int)>most))
theorem Bn{x:Bool}(h:yC p least most=some x):aC Pg GE 0 (cA wF 60) (EX .normal (bQ p x)) (C0 p least most):=by
 obtain⟨r7,br7,h⟩:=av h
 have p9:=fun{sc F} (r:PS sc F)=>sv (aE p)<|sv (aF p)<|bg (vW br7)<|r
 rcases aT h with⟨c8,h⟩|⟨c8,h⟩
 ·have p11:=fun{sc F} (r:PS sc F)=>p9<|sg 5 c8<|sv (bo p)<|sv (bD p)<|r
  rcases aT h with⟨c10,h⟩|⟨c10,h⟩
  ·obtain rfl:=lf h
   exact ct e5 (p11<|sg 10 c10<|eF .normal (bQ p true))<|by kernel_rfl
  ·have p13:=fun{sc F} (r:PS sc F)=>p11<|sg 10 c10<|sv (aE p)<|sv (aF p)<|r
   rcases aT h with⟨c12,h⟩|⟨c12,h⟩
   ·have p15:=fun{sc F} (r:PS sc F)=>p13<|sg 14 c12<|sv (aE p)<|sv (aF p)<|r
    rcases aT h with⟨c14,h⟩|⟨c14,h⟩
    ·have p17:=fun{sc F} (r:PS sc F)=>p15<|sg 19 c14<|sv (bU p)<|sv (ce p)<|r
     rcases aT h with⟨c16,h⟩|⟨c16,h⟩
     ·obtain rfl:=lf h
      exact ct e5 (p17<|sg 25 c16<|eF .normal (bQ p true))<|by kernel_rfl
     ·have p19:=fun{sc F} (r:PS sc F)=>p17<|sg 25 c16<|sv (ay p)<|sv (az p)<|cx (aQ.ln p.Kids)<|r
      rcases aT h with⟨c18,h⟩|⟨c18,h⟩
      ·obtain rfl:=lf h
       exact ct e5 (p19<|sg 32 c18<|eF .normal (bQ p true))<|by kernel_rfl
      ·obtain rfl:=lf h
       exact ct e5 (p19<|sg 32 c18<|sv (ay p)<|sv (az p)<|cx (aQ.ln p.Kids)<|eF .normal (bQ p (decide ((p.Kids.length:Int)>most))))<|by kernel_rfl
    ·have p21:=fun{sc F} (r:PS sc F)=>p15<|sg 19 c14<|sv (ay p)<|sv (az p)<|cx (aQ.ln p.Kids)<|r
     rcases aT h with⟨c20,h⟩|⟨c20,h⟩
     ·obtain rfl:=lf h
      exact ct e5 (p21<|sg 32 c20<|eF .normal (bQ p true))<|by kernel_rfl
     ·obtain rfl:=lf h
      exact ct e5 (p21<|sg 32 c20<|sv (ay p)<|sv (az p)<|cx (aQ.ln p.Kids)<|eF .normal (bQ p (decide ((p.Kids.length:Int)>most))))<|by kernel_rfl
   ·have p23:=fun{sc F} (r:PS sc F)=>p13<|sg 14 c12<|sv (ay p)<|sv (az p)<|cx (aQ.ln p.Kids)<|r
    rcases aT h with⟨c22,h⟩|⟨c22,h⟩
    ·obtain rfl:=lf h
     exact ct e5 (p23<|sg 32 c22<|eF .normal (bQ p true))<|by kernel_rfl
    ·obtain rfl:=lf h
     exact ct e5 (p23<|sg 32 c22<|sv (ay p)<|sv (az p)<|cx (aQ.ln p.Kids)<|eF .normal (bQ p (decide ((p.Kids.length:Int)>most))))<|by kernel_rfl
 ·have p25:=fun{sc F} (r:PS sc F)=>p9<|sg 5 c8<|sv (aE p)<|sv (aF p)<|r
  rcases aT h with⟨c24,h⟩|⟨c24,h⟩
  ·have p27:=fun{sc F} (r:PS sc F)=>p25<|sg 14 c24<|sv (aE p)<|sv (aF p)<|r
   rcases aT h with⟨c26,h⟩|⟨c26,h⟩
   ·have p29:=fun{sc F} (r:PS sc F)=>p27<|sg 19 c26<|sv (bU p)<|sv (ce p)<|r
    rcases aT h with⟨c28,h⟩|⟨c28,h⟩
    ·obtain rfl:=lf h
     exact ct e5 (p29<|sg 25 c28<|eF .normal (bQ p true))<|by kernel_rfl
    ·have p31:=fun{sc F} (r:PS sc F)=>p29<|sg 25 c28<|sv (ay p)<|sv (az p)<|cx (aQ.ln p.Kids)<|r
     rcases aT h with⟨c30,h⟩|⟨c30,h⟩
     ·obtain rfl:=lf h
      exact ct e5 (p31<|sg 32 c30<|eF .normal (bQ p true))<|by kernel_rfl
     ·obtain rfl:=lf h
      exact ct e5 (p31<|sg 32 c30<|sv (ay p)<|sv (az p)<|cx (aQ.ln p.Kids)<|eF .normal (bQ p (decide ((p.Kids.length:Int)>most))))<|by kernel_rfl
   ·have p33:=fun{sc F} (r:PS sc F)=>p27<|sg 19 c26<|sv (ay p)<|sv (az p)<|cx (aQ.ln p.Kids)<|r
    rcases aT h with⟨c32,h⟩|⟨c32,h⟩
    ·obtain rfl:=lf h
     exact ct e5 (p33<|sg 32 c32<|eF .normal (bQ p true))<|by kernel_rfl
    ·obtain rfl:=lf h
     exact ct e5 (p33<|sg 32 c32<|sv (ay p)<|sv (az p)<|cx (aQ.ln p.Kids)<|eF .normal (bQ p (decide ((p.Kids.length:Int)>most))))<|by kernel_rfl
  ·have p35:=fun{sc F} (r:PS sc F)=>p25<|sg 14 c24<|sv (ay p)<|sv (az p)<|cx (aQ.ln p.Kids)<|r
   rcases aT h with⟨c34,h⟩|⟨c34,h⟩
   ·obtain rfl:=lf h
    exact ct e5 (p35<|sg 32 c34<|eF .normal (bQ p true))<|by kernel_rfl
   ·obtain rfl:=lf h
    exact ct e5 (p35<|sg 32 c34<|sv (ay p)<|sv (az p)<|cx (aQ.ln p.Kids)<|eF .normal (bQ p (decide ((p.Kids.length:Int)>most))))<|by kernel_rfl
end
section
variable(p:aa)
def C1:aq:=aP 130 [(1,.eptr (ac p))] [.dead] []
def dS(o:Bool):aq:=aP 130 [(1,.eptr (ac p)),(82,.bool o)] [.dead] []
def yD:Option Bool:=
 if (p.Op == 1) = true then
  (Kh p.N).bind fun r41=>
  if(!r41)=true then
   some true
  else
   if(p.Op==2)=true then
    if(p.N !=0)=true then
     some (p.N !=1)
    else
     some false
   else
    some false
 else
  if(p.Op==2)=true then
   if(p.N !=0)=true then
    some (p.N !=1)
   else
    some false
  else
   some false
theorem Bo{x:Bool}(h:yD p=some x):aC Pg GE 0 (cA wF 124) (EX .normal (dS p x)) (C1 p):=by
 have p40:=fun{sc F} (r:PS sc F)=>sv (aE p)<|sv (aF p)<|r
 rcases aT h with⟨c39,h⟩|⟨c39,h⟩
 ·obtain⟨r41,br41,h⟩:=av h
  have p43:=fun{sc F} (r:PS sc F)=>p40<|sg 4 c39<|sv (bU p)<|sv (ce p)<|bg (I0 br41)<|r
  rcases aT h with⟨c42,h⟩|⟨c42,h⟩
  ·obtain rfl:=lf h
   exact ct e5 (p43<|sg 10 c42<|eF .normal (dS p true))<|by kernel_rfl
  ·have p45:=fun{sc F} (r:PS sc F)=>p43<|sg 10 c42<|sv (aE p)<|sv (aF p)<|r
   rcases aT h with⟨c44,h⟩|⟨c44,h⟩
   ·have p47:=fun{sc F} (r:PS sc F)=>p45<|sg 14 c44<|sv (bU p)<|sv (ce p)<|r
    rcases aT h with⟨c46,h⟩|⟨c46,h⟩
    ·obtain rfl:=lf h
     exact ct e5 (p47<|sg 19 c46<|sv (bU p)<|sv (ce p)<|eF .normal (dS p (p.N !=1)))<|by kernel_rfl
    ·obtain rfl:=lf h
     exact ct e5 (p47<|sg 19 c46<|eF .normal (dS p false))<|by kernel_rfl
   ·obtain rfl:=lf h
    exact ct e5 (p45<|sg 14 c44<|eF .normal (dS p false))<|by kernel_rfl
 ·have p49:=fun{sc F} (r:PS sc F)=>p40<|sg 4 c39<|sv (aE p)<|sv (aF p)<|r
  rcases aT h with⟨c48,h⟩|⟨c48,h⟩
  ·have p51:=fun{sc F} (r:PS sc F)=>p49<|sg 14 c48<|sv (bU p)<|sv (ce p)<|r
   rcases aT h with⟨c50,h⟩|⟨c50,h⟩
   ·obtain rfl:=lf h
    exact ct e5 (p51<|sg 19 c50<|sv (bU p)<|sv (ce p)<|eF .normal (dS p (p.N !=1)))<|by kernel_rfl
   ·obtain rfl:=lf h
    exact ct e5 (p51<|sg 19 c50<|eF .normal (dS p false))<|by kernel_rfl
  ·obtain rfl:=lf h
   exact ct e5 (p49<|sg 14 c48<|eF .normal (dS p false))<|by kernel_rfl
end
section
variable(p:aa)
def C3:aq:=aP 130 [(1,.eptr (ac p))] [.dead] []
def nS(o:Bool):aq:=aP 130 [(1,.eptr (ac p)),(91,.bool o)] [.dead] []
def yF:Option Bool:=
 (xe p.Op).bind fun r55=>
 if r55=true then
  (wM p.Name).bind fun r58=>
  some (r58 !=0)
 else
  some false
theorem Bp{x:Bool}(h:yF p=some x):aC Pg GE 0 (cA wF 252) (EX .normal (nS p x)) (C3 p):=by
 obtain⟨r55,br55,h⟩:=av h
 have p57:=fun{sc F} (r:PS sc F)=>sv (aE p)<|sv (aF p)<|bg (vW br55)<|r
 rcases aT h with⟨c56,h⟩|⟨c56,h⟩
 ·obtain⟨r58,br58,h⟩:=av h
  obtain rfl:=lf h
  exact ct e5 (p57<|sg 4 c56<|sv (bo p)<|sv (bD p)<|bg (vH br58)<|eF .normal (nS p (r58 !=0)))<|by kernel_rfl
 ·obtain rfl:=lf h
  exact ct e5 (p57<|sg 4 c56<|eF .normal (nS p false))<|by kernel_rfl
end
section
variable(p:aa)
def C4:aq:=aP 130 [(1,.eptr (ac p))] [.dead] []
def nT(o:Bool):aq:=aP 130 [(1,.eptr (ac p)),(5,.bool o)] [.dead] []
def yG:Option Bool:=
 if(p.Op==3)=true then
  some (p.Name==([118]:ai))
 else
  some false
theorem Bq{x:Bool}(h:yG p=some x):aC Pg GE 0 (cA wF 1012) (EX .normal (nT p x)) (C4 p):=by
 have p63:=fun{sc F} (r:PS sc F)=>sv (aE p)<|sv (aF p)<|r
 rcases aT h with⟨c62,h⟩|⟨c62,h⟩
 ·obtain rfl:=lf h
  exact ct e5 (p63<|sg 4 c62<|sv (bo p)<|sv (bD p)<|eF .normal (nT p (p.Name==([118]:ai))))<|by kernel_rfl
 ·obtain rfl:=lf h
  exact ct e5 (p63<|sg 4 c62<|eF .normal (nT p false))<|by kernel_rfl
end
section
variable(p:aa)(v:Bool)
def C5:aq:=aP 130 [(1,.eptr (ac p)),(5,.bool v)] [.dead] []
def ku(o:Bool):aq:=aP 130 [(1,.eptr (ac p)),(5,.bool v),(6,.bool o)] [.dead] []
def yH:Option Bool:=
 if(p.Op==4)=true then
  if(p.Name==([116,97,103]:ai))=true then
   some true
  else
   some (p.Name==([118,97,108]:ai))
 else
  some false
theorem Br{x:Bool}(h:yH p=some x):aC Pg GE 0 (cA wF 2026) (EX .normal (ku p v x)) (C5 p v):=by
 have p66:=fun{sc F} (r:PS sc F)=>sv (aE p)<|sv (aF p)<|r
 rcases aT h with⟨c65,h⟩|⟨c65,h⟩
 ·have p68:=fun{sc F} (r:PS sc F)=>p66<|sg 4 c65<|sv (bo p)<|sv (bD p)<|r
  rcases aT h with⟨c67,h⟩|⟨c67,h⟩
  ·obtain rfl:=lf h
   exact ct e5 (p68<|sg 8 c67<|eF .normal (ku p v true))<|by kernel_rfl
  ·obtain rfl:=lf h
   exact ct e5 (p68<|sg 8 c67<|sv (bo p)<|sv (bD p)<|eF .normal (ku p v (p.Name==([118,97,108]:ai))))<|by kernel_rfl
 ·obtain rfl:=lf h
  exact ct e5 (p66<|sg 4 c65<|eF .normal (ku p v false))<|by kernel_rfl
end
section
variable(p:aa)(v:Bool)(symbol:Bool)
def C6:aq:=aP 130 [(1,.eptr (ac p)),(5,.bool v),(6,.bool symbol)] [.dead] []
def nU(o:Bool):aq:=aP 130 [(1,.eptr (ac p)),(118,.bool o)] [.dead] []
def yI:Option Bool:=
 if(!v)=true then
  some (!symbol)
 else
  some false
theorem Bt{x:Bool}(h:yI v symbol=some x):aC Pg GE 0 (cA wF 4054) (EX .normal (nU p x)) (C6 p v symbol):=by
 rcases aT h with⟨c70,h⟩|⟨c70,h⟩
 ·obtain rfl:=lf h
  exact ct e5 (sg 3 c70<|eF .normal (nU p (!symbol)))<|by kernel_rfl
 ·obtain rfl:=lf h
  exact ct e5 (sg 3 c70<|eF .normal (nU p false))<|by kernel_rfl
end
section
variable(p:aa)
def C2:aq:=aP 130 [(1,.eptr (ac p))] [.dead] []
def kr(o:Unit⊕(Unit)):Exit:=match o with
 |(.inl _)=>.ret
 |(.inr _)=>.normal
def fT(o:Unit⊕(Unit)):aq:=match o with
 |(.inl o)=>aP 130 [(2,.int .i64 3)] [.dead] []
 |(.inr o)=>aP 130 [(1,.eptr (ac p))] [.dead] []
def yE:Option (Unit⊕(Unit)):=
 (yF p).bind fun o59=>
 if o59=true then
  (yG p).bind fun o64=>
  (yH p).bind fun o69=>
  (yI o64 o69).bind fun o71=>
  if o71=true then
   some (.inl ())
  else
   some (.inr ())
 else
  some (.inr ())
theorem sd{x:Unit⊕(Unit)}(h:yE p=some x):aC Pg GE 0 (cA wF 126) (EX (kr x) (fT p x)) (C2 p):=by
 obtain⟨o59,bo59,h⟩:=av h
 have p61:=fun{sc F} (r:PS sc F)=>mG 0<|cC (Bp p bo59)<|r
 rcases aT h with⟨c60,h⟩|⟨c60,h⟩
 ·obtain⟨o64,bo64,h⟩:=av h
  obtain⟨o69,bo69,h⟩:=av h
  obtain⟨o71,bo71,h⟩:=av h
  have p73:=fun{sc F} (r:PS sc F)=>p61<|sg 0 c60<|mG 0<|cC (Bq p bo64)<|mG 0<|cC (Br p o64 bo69)<|mG 0<|cC (Bt p o64 o69 bo71)<|r
  rcases aT h with⟨c72,h⟩|⟨c72,h⟩
  ·obtain rfl:=lf h
   exact ct e5 (p73<|sg 0 c72<|eF (kr (.inl ())) (fT p (.inl ())))<|by kernel_rfl
  ·obtain rfl:=lf h
   exact ct e5 (p73<|sg 0 c72<|eF (kr (.inr ())) (fT p (.inr ())))<|by kernel_rfl
 ·obtain rfl:=lf h
  exact ct e5 (p61<|sg 0 c60<|eF (kr (.inr ())) (fT p (.inr ())))<|by kernel_rfl
end
section
variable(p:aa)
def C7:aq:=aP 130 [(1,.eptr (ac p))] [.dead] []
def nV(o:Bool):aq:=aP 130 [(129,.bool o)] [.dead] []
def yJ:Option Bool:=
 if(p.Op==8)=true then
  (eh p.Kids 0).bind fun x77=>
  some (x77.Op !=1)
 else
  some false
theorem Bu{x:Bool}(h:yJ p=some x):aC Pg GE 0 (cA wF 508) (EX .normal (nV x)) (C7 p):=by
 have p76:=fun{sc F} (r:PS sc F)=>sv (aE p)<|sv (aF p)<|r
 rcases aT h with⟨c75,h⟩|⟨c75,h⟩
 ·obtain⟨x77,bx77,h⟩:=av h
  obtain rfl:=lf h
  exact ct e5 (p76<|sg 4 c75<|sv (ay p)<|sv (az p)<|sv (aQ.ia (k:=.i64) bx77)<|sv (aE x77)<|sv (aF x77)<|eF .normal (nV (x77.Op !=1)))<|by kernel_rfl
 ·obtain rfl:=lf h
  exact ct e5 (p76<|sg 4 c75<|eF .normal (nV false))<|by kernel_rfl
end
def Ey(p:aa):Option Int:=
 (yB p).bind fun o3=>
 if o3=true then
  some 1
 else
  (Ex p.Op).bind fun r6=>
  (yC p r6.1 r6.2).bind fun o36=>
  if o36=true then
   some 1
  else
   (yD p).bind fun o52=>
   if o52=true then
    some 2
   else
    (yE p).bind fun o74=>match o74 with
    |(.inl o74)=>
     some 3
    | (.inr o74) =>
     (yJ p).bind fun o78=>
     if o78=true then
      some 6
     else
      some 0
theorem yK{p:aa}{r:Int}(h:Ey p=some r):CC Pg GE 166 [.agg (ac p)] (.int .i64 r) []:=by
 obtain⟨o3,bo3,h⟩:=av h
 have p5:=fun{sc F} (r:PS sc F)=>se (bj p)<|mG 1<|cC (Bm p bo3)<|r
 rcases aT h with⟨c4,h⟩|⟨c4,h⟩
 ·obtain rfl:=lf h
  have z:=p5<|sg 0 c4<|en (aI (rP (.int .i64 1))<|trivial)
  exact cb e5 call166 func166 (c:=wF) rfl (aI (ag p) trivial) z<|by kernel_rfl
 ·obtain⟨r6,br6,h⟩:=av h
  obtain⟨o36,bo36,h⟩:=av h
  have p38:=fun{sc F} (r:PS sc F)=>p5<|sg 0 c4<|sv (aE p)<|sv (aF p)<|bg (Ft br6)<|mG 1<|cC (Bn p r6.1 r6.2 bo36)<|r
  rcases aT h with⟨c37,h⟩|⟨c37,h⟩
  ·obtain rfl:=lf h
   have z:=p38<|sg 0 c37<|en (aI (rP (.int .i64 1))<|trivial)
   exact cb e5 call166 func166 (c:=wF) rfl (aI (ag p) trivial) z<|by kernel_rfl
  ·obtain⟨o52,bo52,h⟩:=av h
   have p54:=fun{sc F} (r:PS sc F)=>p38<|sg 0 c37<|mG 1<|cC (Bo p bo52)<|r
   rcases aT h with⟨c53,h⟩|⟨c53,h⟩
   ·obtain rfl:=lf h
    have z:=p54<|sg 0 c53<|en (aI (rP (.int .i64 2))<|trivial)
    exact cb e5 call166 func166 (c:=wF) rfl (aI (ag p) trivial) z<|by kernel_rfl
   ·obtain⟨o74,bo74,h⟩:=av h
    rcases o74 with o74|o74
    ·obtain rfl:=lf h
     have z:=p54<|sg 0 c53<|mG 0<|cC (e:=.ret) (s1:=fT p (.inl o74)) (sd p bo74)<|en (aI (rP (.int .i64 3))<|trivial)
     exact cb e5 call166 func166 (c:=wF) rfl (aI (ag p) trivial) z<|by kernel_rfl
    ·obtain⟨o78,bo78,h⟩:=av h
     have p80:=fun{sc F} (r:PS sc F)=>p54<|sg 0 c53<|mG 0<|cC (e:=.normal) (s1:=fT p (.inr o74)) (sd p bo74)<|mG 1<|cC (Bu p bo78)<|r
     rcases aT h with⟨c79,h⟩|⟨c79,h⟩
     ·obtain rfl:=lf h
      have z:=p80<|sg 0 c79<|en (aI (rP (.int .i64 6))<|trivial)
      exact cb e5 call166 func166 (c:=wF) rfl (aI (ag p) trivial) z<|by kernel_rfl
     ·obtain rfl:=lf h
      have z:=p80<|sg 0 c79<|en (aI (rP (.int .i64 0))<|trivial)
      exact cb e5 call166 func166 (c:=wF) rfl (aI (ag p) trivial) z<|by kernel_rfl
abbrev QF:Nat:=137
noncomputable def Lc:Code:=f137.body.getD .skip
abbrev PR:Code:=cT Lc [false]
abbrev O0:Code:=cT Lc [true,false]
abbrev O1:Code:=cT Lc [true,true,false]
abbrev PT:Code:=cT Lc [true,true,true,false,false]
abbrev KO:Code:=cT Lc [true,true,true,false,true,false]
abbrev ML:Code:=cT Lc [true,true,true,true,false]
theorem Mz:Lc=.seq PR (.seq O0 (.seq O1 (.seq (.seq PT (.block 0 (.rangeFunc (.tmp 12) #[13] (KQ KO) (KR KO)))) (.seq ML .ret)))):=by kernel_rfl
def uw(s:Int)(x:aa):Option (Bool×Int):=(Ey x).bind fun e=>if(e !=0)=true then some (false,e)else some (true,s)
def wX(p:aa):Option Int:=
 (rE p).bind fun n=>if decide (n>400)=true then some 7 else
 (rC p).bind fun d=>if decide (d>40)=true then some 8 else
 (GS uw p 0).bind fun q=>if q.1=true then some 0 else some q.2
abbrev Ld(s:Int):List aw:=[.dead,.cells [.int .i64 s] []]
abbrev GX(s:Int):aq:=aP 19 [(2,.bptr 1 0)] (Ld s) []
abbrev Dl(p:aa):aq:=aP 19 [(1,.eptr (ac p)),(2,.bptr 1 0)] (Ld 0) []
theorem QK(p:aa):aC Pg GE 0 PR (EX .normal (Dl p)) (aP 19 [(0,.agg (ac p))] [] []):=by
 have z:=se (bj p)<|sx (show gI Pg 40=some [.int .i64 0] by kernel_rfl)<|eF .normal (Dl p)
 exact dH (A:=[]) mixed z (by kernel_rfl)
theorem O3(p:aa){n:Int}(h:rE p=some n)(c:decide (n>400)=true):aC Pg GE 0 O0 (EX .ret (GX 7)) (Dl p):=by
 have z:=sv (aB p)<|bg (vV h)<|sg 0 c<|ss<|eF .ret (GX 7)
 exact dH (A:=[]) mixed z (by kernel_rfl)
theorem O4(p:aa){n:Int}(h:rE p=some n)(c:decide (n>400)=false):aC Pg GE 0 O0 (EX .normal (Dl p)) (Dl p):=by
 have z:=sv (aB p)<|bg (vV h)<|sg 0 c<|eF .normal (Dl p)
 exact dH (A:=[]) mixed z (by kernel_rfl)
theorem O5(p:aa){n:Int}(h:rC p=some n)(c:decide (n>40)=true):aC Pg GE 0 O1 (EX .ret (GX 8)) (Dl p):=by
 have z:=sv (aB p)<|bg (vT h)<|sg 0 c<|ss<|eF .ret (GX 8)
 exact dH (A:=[]) mixed z (by kernel_rfl)
theorem O6(p:aa){n:Int}(h:rC p=some n)(c:decide (n>40)=false):aC Pg GE 0 O1 (EX .normal (Dl p)) (Dl p):=by
 have z:=sv (aB p)<|bg (vT h)<|sg 0 c<|eF .normal (Dl p)
 exact dH (A:=[]) mixed z (by kernel_rfl)
abbrev LI(p:aa):aq:=aP 19 [(2,.bptr 1 0),(12,.func (.func fW) [] [.eptr (ac p)])] (Ld 0) []
theorem QL(p:aa):aC Pg GE 0 PT (EX .normal (LI p)) (Dl p):=by
 have z:=sv (aB p)<|bg (D9 p)<|eF .normal (LI p)
 exact dH (A:=[]) mixed z (by kernel_rfl)
abbrev MT(s:Int)(x:aa):aq:=aP 19 [(2,.bptr 1 0),(3,.bptr 2 0)] (Ld s++[.cells (FC x) []]) []
theorem QM(s:Int)(x:aa):aC Pg GE 2 (KQ KO) (EX .normal (MT s x)) (aP 19 [(2,.bptr 1 0),(13,.agg (ac x))] (Ld s) []):=by
 have z:=sx dB<|sx (aW x)<|eF .normal (MT s x)
 exact dH (A:=[]) mixed z (by kernel_rfl)
abbrev MU(r:Int):aq:=aP 19 [(2,.bptr 1 0)] (Ld r++[.dead]) []
theorem QN(s:Int)(x:aa){r:Bool×Int}(h:uw s x=some r):aC Pg GE 2 (KR KO) (EX (if r.1=true then .normal else .ret) (MU r.2)) (MT s x):=by
 unfold uw at h
 obtain⟨e,be,h⟩:=av h
 rcases aT h with⟨c1,h⟩|⟨c1,h⟩
 ·cases h
  have z:=sv (aD x [])<|bg (yK be)<|sg 0 c1<|ss<|eF .ret (MU e)
  exact dH (A:=[]) mixed z (by kernel_rfl)
 ·cases h
  have z:=sv (aD x [])<|bg (yK be)<|sg 0 c1<|eF .normal (MU s)
  exact dH (A:=[]) mixed z (by kernel_rfl)
theorem O2(s:Int):aC Pg GE 2 (.seq ML .ret) (EX .ret (GX 0)) (GX s):=by
 have z:=ss<|eF .ret (GX 0)
 exact dH (A:=[]) mixed z (by kernel_rfl)
theorem N1(s:Int):aC Pg GE 2 .ret (EX .ret (GX s)) (GX s):=by
 have z:=eF .ret (GX s)
 exact dH (A:=[]) mixed z (by kernel_rfl)
abbrev rI(fn:FuncId)(a:Array Value)(D:Nat)(b:Bool):Loop:={state:=if b then .ready else .done,pending:=if b then none else some .ret,fn:=fn,tmps:=a,params:=#[13],assign:=KQ KO,body:=KR KO,defers:=D}
def JC(Γe:aK)(we:World)(bs:ba)(a:Array Value)(fn:FuncId)(l D:Nat)(b:Bool)(s:Int)(Γ:aK)(w:World):Prop:=
 ∃ow,SR Pg (BH GE Γe we) Γ bs ow w a (GX s)/\¬bJ bs ow l/\¬bJ bs ow D/\w.heap[l]? =some (.loop (rI fn a D b))/\w.heap[D]? =some (.deferred (some []))
theorem Nv{Γe:aK}{we:World}{bs:ba}{a:Array Value}{fn:FuncId}{l D:Nat}(hl:we.heap.size<=l)(hD:we.heap.size<=D)(hne:D≠l)(hb:bs.length=2):Yd Pg GE l ac uw (JC Γe we bs a fn l D) where
 base:=fun b s Γ w ⟨ow,h,_⟩=>h.base
 side:=fun b s Γ w ⟨ow,h,hTl,hTD,hhl,hhD⟩ Γ' bs' ow' w' a' st' h'=>
  ⟨ow,h.aside h',hTl,hTD,(h'.step.keep l (cq hhl) id).1.trans hhl,(h'.step.keep D (cq hhD) id).1.trans hhD⟩
 yield:=fun s Γ w x v n r ⟨ow,h,hTl,hTD,hhl,hhD⟩ hv hr=>by
  have hS4:=QN s x hr
  refine⟨_,_,_,_,run_yield hhl rfl,?_⟩
  have hz:(((#[13]:Array Tmp).zip #[v]).foldl (fun tmps (t,a)=>tmps.setIfInBounds t a) a)=a.setIfInBounds 13 v:=by simp
  show RoundIn Fence.wide n Pg l fn (((#[13]:Array Tmp).zip #[v]).foldl (fun tmps (t,a)=>tmps.setIfInBounds t a) a) (KQ KO) (KR KO) w _
  rw[hz]
  have h7:SR Pg (BH GE Γe we) Γ bs ow w (a.setIfInBounds 13 v) (aP 19 [(2,.bptr 1 0),(13,.agg (ac x))] (Ld s) []):=h.set (d:=13) (p:=.agg (ac x)) (hv.mono (.refl _ _) (fun i b hi=>by simp at hi))
  refine roundIn_of_wpIn trivial (wpIn_mono (aC.on (QM s x) (by decide) h7 (by rw[hb];decide) (some l) [] n) ?_)
  rintro e ⟨a1,ds1⟩ w1 ⟨rfl,Γ1,bs1,ow1,st1,h1,⟨rfl,rfl⟩,hbs1,hle1,hsz1,hk1⟩
  obtain⟨k1,t1⟩:=hk1 l (cq hhl) hTl
  obtain⟨k1D,t1D⟩:=hk1 D (cq hhD) hTD
  have hl1:=k1.trans hhl
  refine⟨_,run_beginRound hl1 rfl,?_⟩
  obtain⟨h1',hle1'⟩:=h1.putOther (l:=l) (o:=.loop {rI fn a D true with state:=.busy}) t1 (.inr hl) (fun c t fr e=>by rw[hl1]at e;cases e)
  have hb1:2<=bs1.length:=by have:=h1.bl;rw[this];exact vcm rfl
  obtain⟨bq,s'⟩:=r
  refine wpIn_mono (aC.on hS4 (by decide) h1' hb1 (some l) [] n) ?_
  rintro e ⟨a2,ds2⟩ w2 ⟨rfl,Γ2,bs2,ow2,st2,h2,⟨rfl,rfl⟩,hbs2,hle2,hsz2,hk2⟩
  have hl1':(w1.putObj l (.loop {rI fn a D true with state:=.busy})).heap[l]? =some (.loop {rI fn a D true with state:=.busy}):=World.putObj_heap_same (cq hl1)
  have hD1':(w1.putObj l (.loop {rI fn a D true with state:=.busy})).heap[D]? =some (.deferred (some [])):=(World.putObj_heap_other hne).trans (k1D.trans hhD)
  obtain⟨k2,t2⟩:=hk2 l (cq hl1') t1
  obtain⟨k2D,t2D⟩:=hk2 D (cq hD1') t1D
  have hl2:=k2.trans hl1'
  cases bq with
  |true=>
   refine⟨_,_,run_endRound none hl2,?_⟩
   obtain⟨h3,hle3⟩:=h2.putOther (l:=l) (o:=.loop {{rI fn a D true with state:=.busy}with state:=if(none:Option Code).isNone then .ready else .done,pending:=none}) t2 (.inr hl) (fun c t fr e=>by rw[hl2]at e;cases e)
   have hle:Γ.Le w Γ2 (w2.putObj l (.loop {{rI fn a D true with state:=.busy}with state:=if(none:Option Code).isNone then .ready else .done,pending:=none})):=((hle1.trans hle1').trans hle2).trans hle3
   obtain⟨ow3,h4,hT4⟩:=h.back rfl h3 hle (H':=Ld s') (fun i hi=>(hbs2 i (by omega)).trans (hbs1 i (by omega))) ⟨trivial,⟨rfl,aI trivial trivial,fun x hx=>hx⟩,trivial⟩ hb.symm
   exact⟨Γ2,rfl,hle,ow3,h4,fun hx=>t2 (hT4 l hx),fun hx=>t2D (hT4 D hx),World.putObj_heap_same (cq hl2),(World.putObj_heap_other hne).trans (k2D.trans hD1')⟩
  |false=>
   refine⟨_,_,run_endRound (some .ret) hl2,?_⟩
   obtain⟨h3,hle3⟩:=h2.putOther (l:=l) (o:=.loop {{rI fn a D true with state:=.busy}with state:=if(some Code.ret:Option Code).isNone then .ready else .done,pending:=some .ret}) t2 (.inr hl) (fun c t fr e=>by rw[hl2]at e;cases e)
   have hle:Γ.Le w Γ2 (w2.putObj l (.loop {{rI fn a D true with state:=.busy}with state:=if(some Code.ret:Option Code).isNone then .ready else .done,pending:=some .ret})):=((hle1.trans hle1').trans hle2).trans hle3
   obtain⟨ow3,h4,hT4⟩:=h.back rfl h3 hle (H':=Ld s') (fun i hi=>(hbs2 i (by omega)).trans (hbs1 i (by omega))) ⟨trivial,⟨rfl,aI trivial trivial,fun x hx=>hx⟩,trivial⟩ hb.symm
   exact⟨Γ2,rfl,hle,ow3,h4,fun hx=>t2 (hT4 l hx),fun hx=>t2D (hT4 D hx),World.putObj_heap_same (cq hl2),(World.putObj_heap_other hne).trans (k2D.trans hD1')⟩
theorem DS{p:aa}{r:Int}(h:wX p=some r):CC Pg GE QF [.agg (ac p)] (.int .i64 r) []:=by
 refine⟨aI (ag p) trivial,call137,fun Γ bs ow w vs hS=>(callsIn_wide (n:=0)).1 (callsIn_of_wp_marks func137 (c:=Lc) rfl trivial ?_)⟩
 obtain rfl:bs=[]:=vai hS.bl
 obtain⟨v,rfl⟩:∃v,vs=#[v]:=vbt.1 hS.sz
 have hB:Du GE Γ w:=hS.base
 have hE:xw GE 0 (BH GE Γ w):=hB.good
 have hvr:VR Γ [] w (.agg (ac p)) v:=hS.tm 0 _ _ rfl rfl
 have h0:SR Pg (BH GE Γ w) Γ [] (fun _=>none) w (#[v]++Array.replicate 18 undef) (aP 19 [(0,.agg (ac p))] [] []):=by
  refine hB.fresh (a:=#[v]++Array.replicate 18 undef) 0 (tmps:=[.agg (ac p)]++List.replicate 18 .undef) (by simp) fun t q u hq hu=>?_
  by_cases ht:t<1
  ·rw[vac (by simpa using ht)]at hq
   rw[vaE (by simpa using ht)]at hu
   match t,ht with
   |0,_=>simp at hq hu;subst hq;subst hu;exact hvr
  ·rw[vae (by show 1<=t;omega),vaH]at hq
   split at hq<;>cases hq
   exact .undef u
 have key:∀R:Ending->World->Prop,(∀{Γ6:aK} {bs6:ba} {ow6:Nat->Option iD} {a6:Array Value} {w6:World},SR Pg (BH GE Γ w) Γ6 bs6 ow6 w6 a6 (GX r)->LeavesInM Fence.wide 0 Pg f137 a6 R [] .returning w6)->
   Lc.wpIn Fence.wide 0 Pg (bodyPostM Fence.wide 0 Pg f137 R) ⟨#[v]++Array.replicate 18 undef,[]⟩ w:=fun R hfin=>by
  unfold wX at h
  obtain⟨n1,b1,h⟩:=av h
  rw[Mz]
  refine wpIn_seq (wpIn_mono (aC.wideE (QK p) hE h0 0 []) ?_)
  rintro e ⟨a1,ds1⟩ w1 ⟨rfl,Γ1,bs1,ow1,st1,h1,rfl,rfl⟩
  rcases aT h with⟨c1,h⟩|⟨c1,h⟩
  ·cases h
   refine wpIn_seq (wpIn_mono (aC.wideE (O3 p b1 c1) hE h1 0 []) ?_)
   rintro e ⟨a2,ds2⟩ w2 ⟨rfl,Γ2,bs2,ow2,st2,h2,rfl,rfl⟩
   exact hfin h2
  refine wpIn_seq (wpIn_mono (aC.wideE (O4 p b1 c1) hE h1 0 []) ?_)
  rintro e ⟨a2,ds2⟩ w2 ⟨rfl,Γ2,bs2,ow2,st2,h2,rfl,rfl⟩
  obtain⟨n2,b2,h⟩:=av h
  rcases aT h with⟨c2,h⟩|⟨c2,h⟩
  ·cases h
   refine wpIn_seq (wpIn_mono (aC.wideE (O5 p b2 c2) hE h2 0 []) ?_)
   rintro e ⟨a3,ds3⟩ w3 ⟨rfl,Γ3,bs3,ow3,st3,h3,rfl,rfl⟩
   exact hfin h3
  refine wpIn_seq (wpIn_mono (aC.wideE (O6 p b2 c2) hE h2 0 []) ?_)
  rintro e ⟨a22,ds22⟩ w22 ⟨rfl,Γ22,bs22,ow22,st22,h22,rfl,rfl⟩
  obtain⟨q,hq,h⟩:=av h
  refine wpIn_seq (wpIn_seq (wpIn_mono (aC.wideE (QL p) hE h22 0 []) ?_))
  rintro e ⟨a3,ds3⟩ w3 ⟨rfl,Γ3,bs3,ow3,st3,h3,rfl,rfl⟩
  have h6:=h3.opv [] (.tmp 12)
  have e6:opv (BH GE Γ w).GE (LI p).tmps (.tmp 12)=.func (.func fW) [] [.eptr (ac p)]:=rfl
  rw[e6]at h6
  have hbl:bs3.length=2:=h3.bl
  refine wpIn_block (wpIn_rangeFunc fun fn _=>?_)
  obtain⟨g1,l1⟩:=h3.allocO (.deferred (some []))
  obtain⟨g2,l2⟩:=g1.allocO (.loop (rI fn a3 w3.heap.size true))
  have gF:=g2.forgetT (tm:=(GX 0).tmps) rfl
  have hsz3:w.heap.size<=w3.heap.size:=h3.step.size
  have htl:∀b,w3.heap.size<=b->¬bJ bs3 ow3 b:=fun b hb hx=>by
   rcases hx with⟨i,hi⟩|hx
   ·have hil:i<(LI p).boxes.length:=by rw[<-h3.bl];exact aj hi
    have:=(h3.bx i b _ hi (vaa hil)).2.1
    omega
   ·cases hL:ow3 b with
    |none=>exact hx hL
    |some L=>have:=(h3.on b L hL).1;omega
  generalize hvf:(Act.mk a3 []).eval (.tmp 12)=vf at h6
  cases h6 with
  |func _ _ _ fs cs hl1 hl2 hf hc=>
  obtain rfl:fs=#[]:=vaO hl1
  obtain⟨cv,rfl⟩:∃v,cs=#[v]:=vbt.1 hl2
  have hcv:VR Γ3 bs3 w3 (.eptr (ac p)) cv:=hc 0 _ _ rfl rfl
  have hJ:JC Γ w bs3 a3 fn (w3.heap.size+1) w3.heap.size true 0 Γ3 ((w3.alloc (.deferred (some []))).alloc (.loop (rI fn a3 w3.heap.size true))):=by
   refine⟨ow3,gF,htl _ (by omega),htl _ (vaq _),?_,?_⟩
   ·have:=World.alloc_heap_new (w3.alloc (.deferred (some []))) (.loop (rI fn a3 w3.heap.size true))
    rwa[World.size_alloc]at this
   ·rw[cK _ _ (by rw[World.size_alloc];omega)]
    exact World.alloc_heap_new w3 _
  have hY:=Nv (Γe:=Γ) (we:=w) (bs:=bs3) (a:=a3) (fn:=fn) (l:=w3.heap.size+1) (D:=w3.heap.size) (by omega) hsz3 (by omega) hbl
  refine⟨_,_,_,{target:=.fn (.func fW) #[cv],args:=#[.func (.yield (w3.heap.size+1)) #[] #[]]},(w3.alloc (.deferred (some []))).alloc (.loop (rI fn a3 w3.heap.size true)),fW,#[.func (.yield (w3.heap.size+1)) #[] #[],cv],(w3.alloc (.deferred (some []))).alloc (.loop (rI fn a3 w3.heap.size true)),run_enterLoop_outer fn a3 #[13] (KQ KO) (KR KO),?_,fun _ _=>trivial,?_,fun hx=>by simp[Fence.wide]at hx,?_⟩
  ·have hvf':(Act.mk a3 []).eval (.tmp 12)=.func (.func fW) #[] #[cv]:=hvf
   simp only[resolve,hvf',Deferred.ofValue]
   simp[Act.eval]
   rfl
  ·simp[invoke,call129]
  ·refine(JL hY p (n:=0 - 1) hq hJ (((hcv.mono l1 (.refl _)).mono l2 (.refl _)).clo (show hX 0 (ac p)from ag p))).mono ?_
   rintro e w4 ⟨⟨u,rfl⟩,Γ4,hle4,ow4,h4,tl4,tD4,hl4,hD4⟩
   refine⟨_,_,run_endLoop hl4 (by cases q.1<;>simp),?_⟩
   obtain⟨h5,hle5⟩:=h4.putOther (l:=w3.heap.size+1) (o:=.loop {rI fn a3 w3.heap.size q.1 with state:=.exhausted}) tl4 (.inr (show w.heap.size<=_ by omega)) (fun c t fr e=>by rw[hl4]at e;cases e)
   have hD5:(w4.putObj (w3.heap.size+1) (.loop {rI fn a3 w3.heap.size q.1 with state:=.exhausted})).heap[w3.heap.size]? =some (.deferred (some [])):=(World.putObj_heap_other (by omega)).trans hD4
   generalize w4.putObj (w3.heap.size+1) (.loop {rI fn a3 w3.heap.size q.1 with state:=.exhausted})=w5 at h5 hle5 hD5
   have last:∀c:Code,aC Pg GE 2 c (EX .ret (GX r)) (GX q.2)->∀Q:Exit->Act->World->Prop,(∀a w,bodyPostM Fence.wide 0 Pg f137 R .ret a w->Q .ret a w)->c.wpIn Fence.wide 0 Pg Q ⟨a3,[{target:=.collected w3.heap.size,args:=#[]}]⟩ w5:=fun c hc Q hQ=>by
    refine wpIn_mono (wpIn_wide.2 (aC.on hc (by decide) h5 (by rw[hbl];decide) none [{target:=.collected w3.heap.size,args:=#[]}])) ?_
    rintro e ⟨a6,ds6⟩ w6 ⟨rfl,Γ6,bs6,ow6,st6,h6,⟨rfl,rfl⟩,hbs6,hle6,hsz6,hk6⟩
    obtain⟨k6,t6⟩:=hk6 _ (cq hD5) tD4
    have hD6:=k6.trans hD5
    obtain⟨h7,hle7⟩:=h6.putOther (l:=w3.heap.size) (o:=.deferred none) t6 (.inr hsz3) (fun c t fr e=>by rw[hD6]at e;cases e)
    exact hQ _ _ ⟨by simp,.inl ⟨w3.heap.size,_,rfl,run_takeDeferred hD6,hfin h7⟩⟩
   rcases aT h with⟨c3,h⟩|⟨c3,h⟩
   ·cases h
    have e3:(rI fn a3 w3.heap.size q.1).pending=none:=by show(if q.1=true then none else some Code.ret)=none;rw[c3];rfl
    rw[e3]
    exact last (.seq ML .ret) (O2 q.2) _ (fun _ _ hx=>hx)
   ·cases h
    have e3:(rI fn a3 w3.heap.size q.1).pending=some .ret:=by show(if q.1=true then none else some Code.ret)=some .ret;rw[c3];rfl
    rw[e3]
    exact last .ret (N1 q.2) _ (fun _ _ hx=>hx)
 refine key _ fun{Γ6 bs6 ow6 a6 w6} h7=>?_
 have hS7:SR Pg ⟨GE,Γ,w,bJ [] ow⟩ Γ6 bs6 ow6 w6 a6 (GX r):={h7 with
  bn:=fun i b hb=>(h7.bn i b hb).elim False.elim .inr
  on:=fun b L hL=>⟨(h7.on b L hL).1,(h7.on b L hL).2.elim False.elim .inr⟩
  gx:=hS.gx
  step:={h7.step with keep:=fun b hb _=>h7.step.keep b hb (fun hx=>hx)}}
 obtain⟨vr,e1,e2,e3⟩:=qy hS7 (fn:=f137) (r:=.int .i64 r) (by kernel_rfl)
 refine⟨vr,e1,vr,Γ6,xM (ee f137.results.toList) [] ow6,rfl,?_⟩
 have hf:=hS7.finish (H':=[]) (src:=ee f137.results.toList) (ro:=[]) e2 trivial trivial (fun x hx=>by cases hx) (fun x hx=>by cases hx)
 simpa using hf
end Go.Proofs.YtggeppllafbidaaGreatDoor
