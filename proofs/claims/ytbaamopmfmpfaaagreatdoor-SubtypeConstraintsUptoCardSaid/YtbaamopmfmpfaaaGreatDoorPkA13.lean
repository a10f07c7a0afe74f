/- PROVED: a part of the proof. Conditions: none. -/
import Derived.Test.YtbaamopmfmpfaaaGreatDoorPkA12
noncomputable section
namespace Go.Proofs.YtbaamopmfmpfaaaGreatDoor
open Go Go.Proofs.Tryz
set_option linter.unusedVariables false
set_option maxRecDepth 100000
noncomputable def qgq:Code:=f106.body.getD .skip
def qga:List Nat:=[]
section
variable(R38:yJ)(t7:waB)(t8:Int)(n:Int)(t9:Int)
def ml:aA:=be 20 [(3,.int .i64 n),(7,sl ac t7),(8,.int .i64 t8),(9,.int .i64 t9)] [.dead] []
def wF(o:Int):aA:=be 20 [(3,.int .i64 o)] [.dead] []
def DH:Option ((Int×Int)⊕(Int)):=
 if(decide (t9<t8))=true then
  (cz t7 t9).bind fun x2=>
  (R38 x2).bind fun r3=>
  some (.inl ((if r3>n then r3 else n),aR (t9+1)))
 else
  some (.inr n)
def Bp:Option Int:=loop (fun(zz:Int×Int)=>DH R38 t7 t8 zz.1 zz.2) (n,t9)
theorem KP(hR38:Ds R38){y:(Int×Int)⊕(Int)}(h:DH R38 t7 t8 n t9=some y):aU Pg GE 0 (cA qgq 119) (LQ (fun(zz:Int×Int)=>ml t7 t8 zz.1 zz.2) (fun _=>.exit 0) wF y) (ml t7 t8 n t9):=by
 rcases bj h with⟨c1,h⟩|⟨c1,h⟩
 ·obtain⟨x2,bx2,h⟩:=ay h
  obtain⟨r3,br3,h⟩:=ay h
  obtain rfl:=lf h
  have z:=sg 0 c1<|sv (bL.ia (k:=.i64) bx2)<|sv (bh x2)<|sx hO<|sx (cj x2)<|sv (bT x2 [])<|bz (hR38 _ _ br3)<|uz 0 .normal (ml t7 t8 (if r3>n then r3 else n) (aR (t9+1))) rfl (dC (aI trivial (aI (up (aj ah t7)) (aI trivial (aI trivial trivial))))) (aI trivial trivial)
  exact df (A:=qga) mixed z<|by kernel_rfl
 ·obtain rfl:=lf h
  have z:=sg 0 c1<|eF (.exit 0) (wF n)
  exact f6 qga (by intro hx;cases hx) z<|by kernel_rfl
theorem MT(hR38:Ds R38){x:Int}(h:Bp R38 t7 t8 n t9=some x):aU Pg GE 0 (.loop (cA qgq 119)) (EX (.exit 0) (wF x)) (ml t7 t8 n t9):=
 aU.loop (S:=fun(zz:Int×Int)=>ml t7 t8 zz.1 zz.2) (ex:=(fun _=>.exit 0)) (s:=(n,t9)) h fun zz y hy=>KP R38 t7 t8 zz.1 zz.2 hR38 hy
end
def yx(R38:yJ)(p:aa):Option Int:=
 (Bp R38 p.Kids (p.Kids.length:Int) 0 0).bind fun o4=>
 some (aR (o4+1))
theorem Rr(R38:yJ)(hR38:Ds R38){p:aa}{r:Int}(h:yx R38 p=some r):CC Pg GE 106 [.agg (ac p)] (.int .i64 r) []:=by
 obtain⟨o4,bo4,h⟩:=ay h
 obtain rfl:=lf h
 have z:=se (bS p)<|sv (bA p)<|sv (bC p)<|cm (bL.ln p.Kids)<|cW (MT R38 p.Kids (p.Kids.length:Int) 0 0 hR38 bo4)<|en (aI (rP (.int .i64 (aR (o4+1))))<|trivial)
 exact bN qga call106 func106 (c:=qgq) rfl (aI (ah p) trivial) z<|by kernel_rfl
def DG:(aa->Option Int)->(aa)->Option Int:=fun(rec:aa->Option Int) (x:aa)=>yx (fun p=>rec p) x
def KO(p:aa):Option Int:=kJ DG p
theorem Ui{p:aa}{r:Int}(h:KO p=some r):CC Pg GE 106 [.agg (ac p)] (.int .i64 r) []:=
 cy (F:=DG) (M:=fun(x:aa) (r:Int)=>CC Pg GE 106 [.agg (ac x)] (.int .i64 r) []) (fun rec hrec x r h=>Rr _ (fun p r h=>hrec p r h) h) h
abbrev B3:=(aa->Option Int)
abbrev Hq(R:B3):Prop:=∀(p:aa) (r:Int),R p=some r->CC Pg GE 107 [.agg (ac p)] (.int .i64 r) []
noncomputable def qgt:Code:=f129.body.getD .skip
def qgc:List Nat:=[]
def FE(op:Int):Option Bool:=
 if(op==3)=true then
  some true
 else
  if(op==4)=true then
   some true
  else
   some (op==5)
theorem Un{op:Int}{r:Bool}(h:FE op=some r):CC Pg GE 129 [.int .i64 op] (.bool r) []:=by
 rcases bj h with⟨c1,h⟩|⟨c1,h⟩
 ·obtain rfl:=lf h
  have z:=sg 3 c1<|en (aI (rP (.bool true))<|trivial)
  exact bN qgc call129 func129 (c:=qgt) rfl (aI trivial trivial) z<|by kernel_rfl
 ·rcases bj h with⟨c2,h⟩|⟨c2,h⟩
  ·obtain rfl:=lf h
   have z:=sg 3 c1<|sg 7 c2<|en (aI (rP (.bool true))<|trivial)
   exact bN qgc call129 func129 (c:=qgt) rfl (aI trivial trivial) z<|by kernel_rfl
  ·obtain rfl:=lf h
   have z:=sg 3 c1<|sg 7 c2<|en (aI (rP (.bool (op==5)))<|trivial)
   exact bN qgc call129 func129 (c:=qgt) rfl (aI trivial trivial) z<|by kernel_rfl
noncomputable def WH:Code:=f130.body.getD .skip
def MD:List Nat:=[]
section
variable(n:Int)(t5:Int)
def Rx:aA:=be 28 [(1,.int .i64 n),(5,.int .i64 t5)] [] []
def tr(o:Bool):aA:=be 28 [(1,.int .i64 n),(5,.int .i64 t5),(6,.bool o)] [] []
def yA:Option Bool:=
 if(t5==1)=true then
  some (t5==1)
 else
  if(t5==2)=true then
   some (t5==2)
  else
   some (t5==3)
theorem OP{x:Bool}(h:yA t5=some x):aU Pg GE 0 (cA WH 54) (EX .normal (tr n t5 x)) (Rx n t5):=by
 rcases bj h with⟨c1,h⟩|⟨c1,h⟩
 ·obtain rfl:=lf h
  exact cd MD (sg 0 c1<|eF .normal (tr n t5 (t5==1)))<|by kernel_rfl
 ·rcases bj h with⟨c2,h⟩|⟨c2,h⟩
  ·obtain rfl:=lf h
   exact cd MD (sg 0 c1<|sg 0 c2<|eF .normal (tr n t5 (t5==2)))<|by kernel_rfl
  ·obtain rfl:=lf h
   exact cd MD (sg 0 c1<|sg 0 c2<|eF .normal (tr n t5 (t5==3)))<|by kernel_rfl
end
section
variable(n:Int)(t5:Int)
def Ry:aA:=be 28 [(1,.int .i64 n),(5,.int .i64 t5)] [] []
def zp(o:Bool):aA:=be 28 [(1,.int .i64 n),(5,.int .i64 t5),(12,.bool o)] [] []
def yB:Option Bool:=
 if(t5==4)=true then
  some (t5==4)
 else
  some (t5==5)
theorem OQ{x:Bool}(h:yB t5=some x):aU Pg GE 0 (cA WH 222) (EX .normal (zp n t5 x)) (Ry n t5):=by
 rcases bj h with⟨c6,h⟩|⟨c6,h⟩
 ·obtain rfl:=lf h
  exact cd MD (sg 0 c6<|eF .normal (zp n t5 (t5==4)))<|by kernel_rfl
 ·obtain rfl:=lf h
  exact cd MD (sg 0 c6<|eF .normal (zp n t5 (t5==5)))<|by kernel_rfl
end
section
variable(n:Int)(t5:Int)
def Rz:aA:=be 28 [(1,.int .i64 n),(5,.int .i64 t5)] [] []
def zq(o:Bool):aA:=be 28 [(1,.int .i64 n),(21,.bool o)] [] []
def yC:Option Bool:=
 if(t5==9)=true then
  some (t5==9)
 else
  some (t5==14)
theorem OR{x:Bool}(h:yC t5=some x):aU Pg GE 0 (cA WH 894) (EX .normal (zq n x)) (Rz n t5):=by
 rcases bj h with⟨c12,h⟩|⟨c12,h⟩
 ·obtain rfl:=lf h
  exact cd MD (sg 0 c12<|eF .normal (zq n (t5==9)))<|by kernel_rfl
 ·obtain rfl:=lf h
  exact cd MD (sg 0 c12<|eF .normal (zq n (t5==14)))<|by kernel_rfl
end
def qO(op:Int)(n:Int):Option Bool:=
 (yA op).bind fun o3=>
 if o3=true then
  some (n==0)
 else
  (yB op).bind fun o7=>
  if o7=true then
   if(decide (n>=1))=true then
    some (decide (n<=24))
   else
    some false
  else
   (yC op).bind fun o13=>
   if o13=true then
    some (n==1)
   else
    some (n==2)
theorem yD{op:Int}{n:Int}{r:Bool}(h:qO op n=some r):CC Pg GE 130 [.int .i64 op,.int .i64 n] (.bool r) []:=by
 obtain⟨o3,bo3,h⟩:=ay h
 have p5:=fun{sc F} (r:PS sc F)=>kr 3<|cW (OP n op bo3)<|r
 rcases bj h with⟨c4,h⟩|⟨c4,h⟩
 ·obtain rfl:=lf h
  have z:=p5<|sg 0 c4<|en (aI (rP (.bool (n==0)))<|trivial)
  exact bN MD call130 func130 (c:=WH) rfl (aI trivial (aI trivial trivial)) z<|by kernel_rfl
 ·obtain⟨o7,bo7,h⟩:=ay h
  have p9:=fun{sc F} (r:PS sc F)=>p5<|sg 0 c4<|kr 0<|cW (OQ n op bo7)<|r
  rcases bj h with⟨c8,h⟩|⟨c8,h⟩
  ·have p11:=fun{sc F} (r:PS sc F)=>p9<|sg 0 c8<|r
   rcases bj h with⟨c10,h⟩|⟨c10,h⟩
   ·obtain rfl:=lf h
    have z:=p11<|sg 3 c10<|en (aI (rP (.bool (decide (n<=24))))<|trivial)
    exact bN MD call130 func130 (c:=WH) rfl (aI trivial (aI trivial trivial)) z<|by kernel_rfl
   ·obtain rfl:=lf h
    have z:=p11<|sg 3 c10<|en (aI (rP (.bool false))<|trivial)
    exact bN MD call130 func130 (c:=WH) rfl (aI trivial (aI trivial trivial)) z<|by kernel_rfl
  ·obtain⟨o13,bo13,h⟩:=ay h
   have p15:=fun{sc F} (r:PS sc F)=>p9<|sg 0 c8<|kr 0<|cW (OR n op bo13)<|r
   rcases bj h with⟨c14,h⟩|⟨c14,h⟩
   ·obtain rfl:=lf h
    have z:=p15<|sg 0 c14<|en (aI (rP (.bool (n==1)))<|trivial)
    exact bN MD call130 func130 (c:=WH) rfl (aI trivial (aI trivial trivial)) z<|by kernel_rfl
   ·obtain rfl:=lf h
    have z:=p15<|sg 0 c14<|en (aI (rP (.bool (n==2)))<|trivial)
    exact bN MD call130 func130 (c:=WH) rfl (aI trivial (aI trivial trivial)) z<|by kernel_rfl
noncomputable def qh4:Code:=f131.body.getD .skip
def qhD:List Nat:=[]
def Ub(n:Int):Option Bool:=
 if(decide (n>=(-1000000000000)))=true then
  some (decide (n<=1000000000000))
 else
  some false
theorem qaA{n:Int}{r:Bool}(h:Ub n=some r):CC Pg GE 131 [.int .i64 n] (.bool r) []:=by
 rcases bj h with⟨c1,h⟩|⟨c1,h⟩
 ·obtain rfl:=lf h
  have z:=sg 3 c1<|en (aI (rP (.bool (decide (n<=1000000000000))))<|trivial)
  exact bN qhD call131 func131 (c:=qh4) rfl (aI trivial trivial) z<|by kernel_rfl
 ·obtain rfl:=lf h
  have z:=sg 3 c1<|en (aI (rP (.bool false))<|trivial)
  exact bN qhD call131 func131 (c:=qh4) rfl (aI trivial trivial) z<|by kernel_rfl
noncomputable def Yk:Code:=f132.body.getD .skip
def Yb:List Nat:=[]
def Bu(p:aa):Option Bool:=
 if(p.Op==3)=true then
  if(p.Name==([118]:ag))=true then
   some true
  else
   (tS p.Name).bind fun r5=>
   some (r5==0)
 else
  if (p.Op == 4) = true then
   if(p.Name==([116,97,103]:ag))=true then
    some true
   else
    if(p.Name==([118,97,108]:ag))=true then
     some true
    else
     (tS p.Name).bind fun r12=>
     some (r12==0)
  else
   if(p.Op==5)=true then
    (tS p.Name).bind fun r15=>
    some (r15==0)
   else
    some true
theorem Rw{p:aa}{r:Bool}(h:Bu p=some r):CC Pg GE 132 [.agg (ac p)] (.bool r) []:=by
 have p2:=fun{sc F} (r:PS sc F)=>se (bS p)<|sv (bE p)<|sv (bF p)<|r
 rcases bj h with⟨c1,h⟩|⟨c1,h⟩
 ·have p4:=fun{sc F} (r:PS sc F)=>p2<|sg 0 c1<|sv (cp p)<|sv (cO p)<|r
  rcases bj h with⟨c3,h⟩|⟨c3,h⟩
  ·obtain rfl:=lf h
   have z:=p4<|sg 4 c3<|en (aI (rP (.bool true))<|trivial)
   exact bN Yb call132 func132 (c:=Yk) rfl (aI (ah p) trivial) z<|by kernel_rfl
  ·obtain⟨r5,br5,h⟩:=ay h
   obtain rfl:=lf h
   have z:=p4<|sg 4 c3<|sv (cp p)<|sv (cO p)<|bz (tT br5)<|en (aI (rP (.bool (r5==0)))<|trivial)
   exact bN Yb call132 func132 (c:=Yk) rfl (aI (ah p) trivial) z<|by kernel_rfl
 ·have p7:=fun{sc F} (r:PS sc F)=>p2<|sg 0 c1<|r
  rcases bj h with⟨c6,h⟩|⟨c6,h⟩
  ·have p9:=fun{sc F} (r:PS sc F)=>p7<|sg 0 c6<|sv (cp p)<|sv (cO p)<|r
   rcases bj h with⟨c8,h⟩|⟨c8,h⟩
   ·obtain rfl:=lf h
    have z:=p9<|sg 4 c8<|en (aI (rP (.bool true))<|trivial)
    exact bN Yb call132 func132 (c:=Yk) rfl (aI (ah p) trivial) z<|by kernel_rfl
   ·have p11:=fun{sc F} (r:PS sc F)=>p9<|sg 4 c8<|sv (cp p)<|sv (cO p)<|r
    rcases bj h with⟨c10,h⟩|⟨c10,h⟩
    ·obtain rfl:=lf h
     have z:=p11<|sg 9 c10<|en (aI (rP (.bool true))<|trivial)
     exact bN Yb call132 func132 (c:=Yk) rfl (aI (ah p) trivial) z<|by kernel_rfl
    ·obtain⟨r12,br12,h⟩:=ay h
     obtain rfl:=lf h
     have z:=p11<|sg 9 c10<|sv (cp p)<|sv (cO p)<|bz (tT br12)<|en (aI (rP (.bool (r12==0)))<|trivial)
     exact bN Yb call132 func132 (c:=Yk) rfl (aI (ah p) trivial) z<|by kernel_rfl
  ·have p14:=fun{sc F} (r:PS sc F)=>p7<|sg 0 c6<|r
   rcases bj h with⟨c13,h⟩|⟨c13,h⟩
   ·obtain⟨r15,br15,h⟩:=ay h
    obtain rfl:=lf h
    have z:=p14<|sg 0 c13<|sv (cp p)<|sv (cO p)<|bz (tT br15)<|en (aI (rP (.bool (r15==0)))<|trivial)
    exact bN Yb call132 func132 (c:=Yk) rfl (aI (ah p) trivial) z<|by kernel_rfl
   ·obtain rfl:=lf h
    have z:=p14<|sg 0 c13<|en (aI (rP (.bool true))<|trivial)
    exact bN Yb call132 func132 (c:=Yk) rfl (aI (ah p) trivial) z<|by kernel_rfl
noncomputable def UJ:Code:=f117.body.getD .skip
def uB:List Nat:=[]
section
variable(p:aa)
def RA:aA:=be 87 [(1,.eptr (ac p))] [.dead] []
def zr(o:Bool):aA:=be 87 [(1,.eptr (ac p)),(3,.bool o)] [.dead] []
def DR:Option Bool:=
 if(p.Op==1)=true then
  some true
 else
  some (p.Op==2)
theorem OS{x:Bool}(h:DR p=some x):aU Pg GE 0 (cA UJ 6) (EX .normal (zr p x)) (RA p):=by
 have p2:=fun{sc F} (r:PS sc F)=>sv (bE p)<|sv (bF p)<|r
 rcases bj h with⟨c1,h⟩|⟨c1,h⟩
 ·obtain rfl:=lf h
  exact cd uB (p2<|sg 4 c1<|eF .normal (zr p true))<|by kernel_rfl
 ·obtain rfl:=lf h
  exact cd uB (p2<|sg 4 c1<|sv (bE p)<|sv (bF p)<|eF .normal (zr p (p.Op==2)))<|by kernel_rfl
end
section
variable(p:aa)(number:Bool)
def RB:aA:=be 87 [(1,.eptr (ac p)),(3,.bool number)] [.dead] []
def eU(o:Bool):aA:=be 87 [(1,.eptr (ac p)),(48,.bool o)] [.dead] []
def DS:Option Bool:=
 if(decide (p.Op<1))=true then
  some true
 else
  if(decide (p.Op>18))=true then
   some true
  else
   if (!(p.Name == ([]:ag))) = true then
    (FE p.Op).bind fun r10=>
    if(!r10)=true then
     some true
    else
     if(p.N !=0)=true then
      if(!number)=true then
       some true
      else
       (qO p.Op (p.Kids.length:Int)).bind fun r17=>
       some (!r17)
     else
      (qO p.Op (p.Kids.length:Int)).bind fun r18=>
      some (!r18)
   else
    if(p.N !=0)=true then
     if(!number)=true then
      some true
     else
      (qO p.Op (p.Kids.length:Int)).bind fun r23=>
      some (!r23)
    else
     (qO p.Op (p.Kids.length:Int)).bind fun r24=>
     some (!r24)
theorem OT{x:Bool}(h:DS p number=some x):aU Pg GE 0 (cA UJ 28) (EX .normal (eU p x)) (RB p number):=by
 have p5:=fun{sc F} (r:PS sc F)=>sv (bE p)<|sv (bF p)<|r
 rcases bj h with⟨c4,h⟩|⟨c4,h⟩
 ·obtain rfl:=lf h
  exact cd uB (p5<|sg 4 c4<|eF .normal (eU p true))<|by kernel_rfl
 ·have p7:=fun{sc F} (r:PS sc F)=>p5<|sg 4 c4<|sv (bE p)<|sv (bF p)<|r
  rcases bj h with⟨c6,h⟩|⟨c6,h⟩
  ·obtain rfl:=lf h
   exact cd uB (p7<|sg 9 c6<|eF .normal (eU p true))<|by kernel_rfl
  ·have p9:=fun{sc F} (r:PS sc F)=>p7<|sg 9 c6<|sv (cp p)<|sv (cO p)<|r
   rcases bj h with⟨c8,h⟩|⟨c8,h⟩
   ·obtain⟨r10,br10,h⟩:=ay h
    have p12:=fun{sc F} (r:PS sc F)=>p9<|sg 13 c8<|sv (bE p)<|sv (bF p)<|bz (Un br10)<|r
    rcases bj h with⟨c11,h⟩|⟨c11,h⟩
    ·obtain rfl:=lf h
     exact cd uB (p12<|sg 20 c11<|eF .normal (eU p true))<|by kernel_rfl
    ·have p14:=fun{sc F} (r:PS sc F)=>p12<|sg 20 c11<|sv (dD p)<|sv (dU p)<|r
     rcases bj h with⟨c13,h⟩|⟨c13,h⟩
     ·have p16:=fun{sc F} (r:PS sc F)=>p14<|sg 24 c13<|r
      rcases bj h with⟨c15,h⟩|⟨c15,h⟩
      ·obtain rfl:=lf h
       exact cd uB (p16<|sg 29 c15<|eF .normal (eU p true))<|by kernel_rfl
      ·obtain⟨r17,br17,h⟩:=ay h
       obtain rfl:=lf h
       exact cd uB (p16<|sg 29 c15<|sv (bE p)<|sv (bF p)<|sv (bA p)<|sv (bC p)<|cm (bL.ln p.Kids)<|bz (yD br17)<|eF .normal (eU p (!r17)))<|by kernel_rfl
     ·obtain⟨r18,br18,h⟩:=ay h
      obtain rfl:=lf h
      exact cd uB (p14<|sg 24 c13<|sv (bE p)<|sv (bF p)<|sv (bA p)<|sv (bC p)<|cm (bL.ln p.Kids)<|bz (yD br18)<|eF .normal (eU p (!r18)))<|by kernel_rfl
   ·have p20:=fun{sc F} (r:PS sc F)=>p9<|sg 13 c8<|sv (dD p)<|sv (dU p)<|r
    rcases bj h with⟨c19,h⟩|⟨c19,h⟩
    ·have p22:=fun{sc F} (r:PS sc F)=>p20<|sg 24 c19<|r
     rcases bj h with⟨c21,h⟩|⟨c21,h⟩
     ·obtain rfl:=lf h
      exact cd uB (p22<|sg 29 c21<|eF .normal (eU p true))<|by kernel_rfl
     ·obtain⟨r23,br23,h⟩:=ay h
      obtain rfl:=lf h
      exact cd uB (p22<|sg 29 c21<|sv (bE p)<|sv (bF p)<|sv (bA p)<|sv (bC p)<|cm (bL.ln p.Kids)<|bz (yD br23)<|eF .normal (eU p (!r23)))<|by kernel_rfl
    ·obtain⟨r24,br24,h⟩:=ay h
     obtain rfl:=lf h
     exact cd uB (p20<|sg 24 c19<|sv (bE p)<|sv (bF p)<|sv (bA p)<|sv (bC p)<|cm (bL.ln p.Kids)<|bz (yD br24)<|eF .normal (eU p (!r24)))<|by kernel_rfl
end
section
variable(p:aa)
def RC:aA:=be 87 [(1,.eptr (ac p))] [.dead] []
def gU(o:Bool):aA:=be 87 [(1,.eptr (ac p)),(72,.bool o)] [.dead] []
def DT:Option Bool:=
 if (p.Op == 1) = true then
  (Ub p.N).bind fun r30=>
  if(!r30)=true then
   some true
  else
   if(p.Op==2)=true then
    if(decide (p.N<0))=true then
     some true
    else
     some (decide (p.N>1))
   else
    some false
 else
  if(p.Op==2)=true then
   if(decide (p.N<0))=true then
    some true
   else
    some (decide (p.N>1))
  else
   some false
theorem OU{x:Bool}(h:DT p=some x):aU Pg GE 0 (cA UJ 60) (EX .normal (gU p x)) (RC p):=by
 have p29:=fun{sc F} (r:PS sc F)=>sv (bE p)<|sv (bF p)<|r
 rcases bj h with⟨c28,h⟩|⟨c28,h⟩
 ·obtain⟨r30,br30,h⟩:=ay h
  have p32:=fun{sc F} (r:PS sc F)=>p29<|sg 4 c28<|sv (dD p)<|sv (dU p)<|bz (qaA br30)<|r
  rcases bj h with⟨c31,h⟩|⟨c31,h⟩
  ·obtain rfl:=lf h
   exact cd uB (p32<|sg 10 c31<|eF .normal (gU p true))<|by kernel_rfl
  ·have p34:=fun{sc F} (r:PS sc F)=>p32<|sg 10 c31<|sv (bE p)<|sv (bF p)<|r
   rcases bj h with⟨c33,h⟩|⟨c33,h⟩
   ·have p36:=fun{sc F} (r:PS sc F)=>p34<|sg 14 c33<|sv (dD p)<|sv (dU p)<|r
    rcases bj h with⟨c35,h⟩|⟨c35,h⟩
    ·obtain rfl:=lf h
     exact cd uB (p36<|sg 18 c35<|eF .normal (gU p true))<|by kernel_rfl
    ·obtain rfl:=lf h
     exact cd uB (p36<|sg 18 c35<|sv (dD p)<|sv (dU p)<|eF .normal (gU p (decide (p.N>1))))<|by kernel_rfl
   ·obtain rfl:=lf h
    exact cd uB (p34<|sg 14 c33<|eF .normal (gU p false))<|by kernel_rfl
 ·have p38:=fun{sc F} (r:PS sc F)=>p29<|sg 4 c28<|sv (bE p)<|sv (bF p)<|r
  rcases bj h with⟨c37,h⟩|⟨c37,h⟩
  ·have p40:=fun{sc F} (r:PS sc F)=>p38<|sg 14 c37<|sv (dD p)<|sv (dU p)<|r
   rcases bj h with⟨c39,h⟩|⟨c39,h⟩
   ·obtain rfl:=lf h
    exact cd uB (p40<|sg 18 c39<|eF .normal (gU p true))<|by kernel_rfl
   ·obtain rfl:=lf h
    exact cd uB (p40<|sg 18 c39<|sv (dD p)<|sv (dU p)<|eF .normal (gU p (decide (p.N>1))))<|by kernel_rfl
  ·obtain rfl:=lf h
   exact cd uB (p38<|sg 14 c37<|eF .normal (gU p false))<|by kernel_rfl
end
section
variable(p:aa)
def RD:aA:=be 87 [(1,.eptr (ac p))] [.dead] []
def zu(o:Bool):aA:=be 87 [(86,.bool o)] [.dead] []
def DU:Option Bool:=
 if(p.Op==8)=true then
  (cz p.Kids 0).bind fun x49=>
  some (x49.Op !=1)
 else
  some false
theorem OV{x:Bool}(h:DU p=some x):aU Pg GE 0 (cA UJ 252) (EX .normal (zu x)) (RD p):=by
 have p48:=fun{sc F} (r:PS sc F)=>sv (bE p)<|sv (bF p)<|r
 rcases bj h with⟨c47,h⟩|⟨c47,h⟩
 ·obtain⟨x49,bx49,h⟩:=ay h
  obtain rfl:=lf h
  exact cd uB (p48<|sg 4 c47<|sv (bA p)<|sv (bC p)<|sv (bL.ia (k:=.i64) bx49)<|sv (bE x49)<|sv (bF x49)<|eF .normal (zu (x49.Op !=1)))<|by kernel_rfl
 ·obtain rfl:=lf h
  exact cd uB (p48<|sg 4 c47<|eF .normal (zu false))<|by kernel_rfl
end
def IZ(p:aa):Option Int:=
 (DR p).bind fun o3=>
 (DS p o3).bind fun o25=>
 if o25=true then
  some 1
 else
  (DT p).bind fun o41=>
  if o41=true then
   some 2
  else
   (Bu p).bind fun r44=>
   if(!r44)=true then
    some 3
   else
    (DU p).bind fun o50=>
    if o50=true then
     some 6
    else
     some 0
theorem Wh{p:aa}{r:Int}(h:IZ p=some r):CC Pg GE 117 [.agg (ac p)] (.int .i64 r) []:=by
 obtain⟨o3,bo3,h⟩:=ay h
 obtain⟨o25,bo25,h⟩:=ay h
 have p27:=fun{sc F} (r:PS sc F)=>se (bS p)<|kr 0<|cW (OS p bo3)<|kr 1<|cW (OT p o3 bo25)<|r
 rcases bj h with⟨c26,h⟩|⟨c26,h⟩
 ·obtain rfl:=lf h
  have z:=p27<|sg 0 c26<|en (aI (rP (.int .i64 1))<|trivial)
  exact bN uB call117 func117 (c:=UJ) rfl (aI (ah p) trivial) z<|by kernel_rfl
 ·obtain⟨o41,bo41,h⟩:=ay h
  have p43:=fun{sc F} (r:PS sc F)=>p27<|sg 0 c26<|kr 1<|cW (OU p bo41)<|r
  rcases bj h with⟨c42,h⟩|⟨c42,h⟩
  ·obtain rfl:=lf h
   have z:=p43<|sg 0 c42<|en (aI (rP (.int .i64 2))<|trivial)
   exact bN uB call117 func117 (c:=UJ) rfl (aI (ah p) trivial) z<|by kernel_rfl
  ·obtain⟨r44,br44,h⟩:=ay h
   have p46:=fun{sc F} (r:PS sc F)=>p43<|sg 0 c42<|sv (bh p)<|bz (Rw br44)<|r
   rcases bj h with⟨c45,h⟩|⟨c45,h⟩
   ·obtain rfl:=lf h
    have z:=p46<|sg 0 c45<|en (aI (rP (.int .i64 3))<|trivial)
    exact bN uB call117 func117 (c:=UJ) rfl (aI (ah p) trivial) z<|by kernel_rfl
   ·obtain⟨o50,bo50,h⟩:=ay h
    have p52:=fun{sc F} (r:PS sc F)=>p46<|sg 0 c45<|kr 1<|cW (OV p bo50)<|r
    rcases bj h with⟨c51,h⟩|⟨c51,h⟩
    ·obtain rfl:=lf h
     have z:=p52<|sg 0 c51<|en (aI (rP (.int .i64 6))<|trivial)
     exact bN uB call117 func117 (c:=UJ) rfl (aI (ah p) trivial) z<|by kernel_rfl
    ·obtain rfl:=lf h
     have z:=p52<|sg 0 c51<|en (aI (rP (.int .i64 0))<|trivial)
     exact bN uB call117 func117 (c:=UJ) rfl (aI (ah p) trivial) z<|by kernel_rfl
noncomputable def qcl:Code:=f107.body.getD .skip
def qar:List Nat:=[11,23]
section
variable(R39:B3)(t13:waB)(t14:Int)(t15:Int)
def oB:aA:=be 25 [(13,sl ac t13),(14,.int .i64 t14),(15,.int .i64 t15)] [.dead] []
def oC(o:Int⊕(Unit)):Exit:=match o with
 |(.inl _)=>.ret
 |(.inr _)=>.exit 0
def lk(o:Int⊕(Unit)):aA:=match o with
 |(.inl o)=>be 25 [(2,.int .i64 o)] [.dead] []
 |(.inr o)=>be 25 [] [.dead] []
def GQ:Option (Int⊕(Int⊕(Unit))):=
 if(decide (t15<t14))=true then
  (cz t13 t15).bind fun x5=>
  (R39 x5).bind fun r6=>
  if(r6 !=0)=true then
   some (.inr (.inl r6))
  else
   some (.inl (aR (t15+1)))
 else
  some (.inr (.inr ()))
def DP:Option (Int⊕(Unit)):=loop (fun(zz:Int)=>GQ R39 t13 t14 zz) t15
theorem MX(hR39:Hq R39){y:Int⊕(Int⊕(Unit))}(h:GQ R39 t13 t14 t15=some y):aU Pg GE 0 (cA qcl 119) (LQ (fun(zz:Int)=>oB t13 t14 zz) oC lk y) (oB t13 t14 t15):=by
 rcases bj h with⟨c4,h⟩|⟨c4,h⟩
 ·obtain⟨x5,bx5,h⟩:=ay h
  obtain⟨r6,br6,h⟩:=ay h
  have p8:=fun{sc F} (r:PS sc F)=>sg 0 c4<|sv (bL.ia (k:=.i64) bx5)<|sv (bh x5)<|sx hO<|sx (cj x5)<|sv (bT x5 [])<|bz (hR39 _ _ br6)<|r
  rcases bj h with⟨c7,h⟩|⟨c7,h⟩
  ·obtain rfl:=lf h
   have z:=p8<|sg 0 c7<|uz 0 (oC (.inl r6)) (lk (.inl r6)) rfl (dC (aI trivial trivial)) (aI trivial trivial)
   exact Iq (A:=qar) mixed (by intro hx;cases hx) z<|by kernel_rfl
  ·obtain rfl:=lf h
   have z:=p8<|sg 0 c7<|uz 0 .normal (oB t13 t14 (aR (t15+1))) rfl (dC (aI (up (aj ah t13)) (aI trivial (aI trivial trivial)))) (aI trivial trivial)
   exact df (A:=qar) mixed z<|by kernel_rfl
 ·obtain rfl:=lf h
  have z:=sg 0 c4<|eF (oC (.inr ())) (lk (.inr ()))
  exact f6 qar (by intro hx;cases hx) z<|by kernel_rfl
theorem DQ(hR39:Hq R39){x:Int⊕(Unit)}(h:DP R39 t13 t14 t15=some x):aU Pg GE 0 (.loop (cA qcl 119)) (EX (oC x) (lk x)) (oB t13 t14 t15):=
 aU.loop (S:=fun(zz:Int)=>oB t13 t14 zz) (ex:=oC) (s:=t15) h fun zz y hy=>MX R39 t13 t14 zz hR39 hy
end
def Bv(R39:B3)(p:aa):Option Int:=
 (IZ p).bind fun r1=>
 if(r1 !=0)=true then
  some r1
 else
  (DP R39 p.Kids (p.Kids.length:Int) 0).bind fun o9=>match o9 with
  |(.inl o9)=>
   some o9
  |(.inr o9)=>
   some 0
theorem Um(R39:B3)(hR39:Hq R39){p:aa}{r:Int}(h:Bv R39 p=some r):CC Pg GE 107 [.agg (ac p)] (.int .i64 r) []:=by
 obtain⟨r1,br1,h⟩:=ay h
 have p3:=fun{sc F} (r:PS sc F)=>se (bS p)<|sv (bh p)<|bz (Wh br1)<|r
 rcases bj h with⟨c2,h⟩|⟨c2,h⟩
 ·obtain rfl:=lf h
  have z:=p3<|sg 0 c2<|en (aI (rP (.int .i64 r1))<|trivial)
  exact bN qar call107 func107 (c:=qcl) rfl (aI (ah p) trivial) z<|by kernel_rfl
 ·obtain⟨o9,bo9,h⟩:=ay h
  rcases o9 with o9|o9
  ·obtain rfl:=lf h
   have z:=p3<|sg 0 c2<|sv (bA p)<|sv (bC p)<|cm (bL.ln p.Kids)<|cW (e:=.ret) (s1:=lk (.inl o9)) (DQ R39 p.Kids (p.Kids.length:Int) 0 hR39 bo9)<|en (aI (rP (.int .i64 o9))<|trivial)
   exact bN qar call107 func107 (c:=qcl) rfl (aI (ah p) trivial) z<|by kernel_rfl
  ·obtain rfl:=lf h
   have z:=p3<|sg 0 c2<|sv (bA p)<|sv (bC p)<|cm (bL.ln p.Kids)<|cW (e:=.exit 0) (s1:=lk (.inr o9)) (DQ R39 p.Kids (p.Kids.length:Int) 0 hR39 bo9)<|en (aI (rP (.int .i64 0))<|trivial)
   exact bN qar call107 func107 (c:=qcl) rfl (aI (ah p) trivial) z<|by kernel_rfl
def HD:(aa->Option Int)->(aa)->Option Int:=fun(rec:aa->Option Int) (x:aa)=>Bv (fun p=>rec p) x
def OO(p:aa):Option Int:=kJ HD p
theorem Wg{p:aa}{r:Int}(h:OO p=some r):CC Pg GE 107 [.agg (ac p)] (.int .i64 r) []:=
 cy (F:=HD) (M:=fun(x:aa) (r:Int)=>CC Pg GE 107 [.agg (ac x)] (.int .i64 r) []) (fun rec hrec x r h=>Um _ (fun p r h=>hrec p r h) h) h
noncomputable def qj6:Code:=f89.body.getD .skip
def qjJ:List Nat:=[]
def FD(p:aa):Option Int:=
 (KQ p).bind fun r1=>
 if(decide (r1>400))=true then
  some 7
 else
  (KO p).bind fun r4=>
  if(decide (r4>40))=true then
   some 8
  else
   (OO p).bind fun r7=>
   some r7
theorem Uh{p:aa}{r:Int}(h:FD p=some r):CC Pg GE 89 [.agg (ac p)] (.int .i64 r) []:=by
 obtain⟨r1,br1,h⟩:=ay h
 have p3:=fun{sc F} (r:PS sc F)=>se (bS p)<|sv (bh p)<|bz (Uk br1)<|r
 rcases bj h with⟨c2,h⟩|⟨c2,h⟩
 ·obtain rfl:=lf h
  have z:=p3<|sg 0 c2<|en (aI (rP (.int .i64 7))<|trivial)
  exact bN qjJ call89 func89 (c:=qj6) rfl (aI (ah p) trivial) z<|by kernel_rfl
 ·obtain⟨r4,br4,h⟩:=ay h
  have p6:=fun{sc F} (r:PS sc F)=>p3<|sg 0 c2<|sv (bh p)<|bz (Ui br4)<|r
  rcases bj h with⟨c5,h⟩|⟨c5,h⟩
  ·obtain rfl:=lf h
   have z:=p6<|sg 0 c5<|en (aI (rP (.int .i64 8))<|trivial)
   exact bN qjJ call89 func89 (c:=qj6) rfl (aI (ah p) trivial) z<|by kernel_rfl
  ·obtain⟨r7,br7,h⟩:=ay h
   obtain rfl:=lf h
   have z:=p6<|sg 0 c5<|sv (bh p)<|bz (Wg br7)<|en (aI (rP (.int .i64 r7))<|trivial)
   exact bN qjJ call89 func89 (c:=qj6) rfl (aI (ah p) trivial) z<|by kernel_rfl
noncomputable def qcn:Code:=f62.body.getD .skip
def V3:List Nat:=[63]
section
variable(t:ae)
def RT:aA:=be 65 [(1,.eptr (af t))] [.dead] []
def lw(o:Bool):aA:=be 65 [(1,.eptr (af t)),(27,.bool o)] [.dead] []
def Ev:Option Bool:=
 if (t.Op == 6) = true then
  (At t.Pred).bind fun r3=>
  if(!r3)=true then
   some true
  else
   if(t.Op !=4)=true then
    some (decide ((t.Preds.length:Int)>0))
   else
    some false
 else
  if(t.Op !=4)=true then
   some (decide ((t.Preds.length:Int)>0))
  else
   some false
theorem Pv{x:Bool}(h:Ev t=some x):aU Pg GE 0 (cA qcn 12) (EX .normal (lw t x)) (RT t):=by
 have p2:=fun{sc F} (r:PS sc F)=>sv (aC t)<|sv (aD t)<|r
 rcases bj h with⟨c1,h⟩|⟨c1,h⟩
 ·obtain⟨r3,br3,h⟩:=ay h
  have p5:=fun{sc F} (r:PS sc F)=>p2<|sg 4 c1<|sv (dE t)<|sv (dF t)<|bz (EC br3)<|r
  rcases bj h with⟨c4,h⟩|⟨c4,h⟩
  ·obtain rfl:=lf h
   exact cd V3 (p5<|sg 10 c4<|eF .normal (lw t true))<|by kernel_rfl
  ·have p7:=fun{sc F} (r:PS sc F)=>p5<|sg 10 c4<|sv (aC t)<|sv (aD t)<|r
   rcases bj h with⟨c6,h⟩|⟨c6,h⟩
   ·obtain rfl:=lf h
    exact cd V3 (p7<|sg 14 c6<|sv (dq t)<|sv (dt t)<|cm (bL.ln t.Preds)<|eF .normal (lw t (decide ((t.Preds.length:Int)>0))))<|by kernel_rfl
   ·obtain rfl:=lf h
    exact cd V3 (p7<|sg 14 c6<|eF .normal (lw t false))<|by kernel_rfl
 ·have p9:=fun{sc F} (r:PS sc F)=>p2<|sg 4 c1<|sv (aC t)<|sv (aD t)<|r
  rcases bj h with⟨c8,h⟩|⟨c8,h⟩
  ·obtain rfl:=lf h
   exact cd V3 (p9<|sg 14 c8<|sv (dq t)<|sv (dt t)<|cm (bL.ln t.Preds)<|eF .normal (lw t (decide ((t.Preds.length:Int)>0))))<|by kernel_rfl
  ·obtain rfl:=lf h
   exact cd V3 (p9<|sg 14 c8<|eF .normal (lw t false))<|by kernel_rfl
end
section
variable(t:ae)(t29:waA)(t30:Int)(t31:Int)
def oR:aA:=be 65 [(1,.eptr (af t)),(29,sl cS t29),(30,.int .i64 t30),(31,.int .i64 t31)] [.dead] []
def oS(o:Unit⊕(Unit)):Exit:=match o with
 |(.inl _)=>.ret
 |(.inr _)=>.exit 0
def lx(o:Unit⊕(Unit)):aA:=match o with
 |(.inl o)=>be 65 [(2,.int .i64 3)] [.dead] []
 |(.inr o)=>be 65 [(1,.eptr (af t))] [.dead] []
def GY:Option (Int⊕(Unit⊕(Unit))):=
 if(decide (t31<t30))=true then
  (cz t29 t31).bind fun x14=>
  (sw x14).bind fun r15=>
  if(r15 !=0)=true then
   some (.inr (.inl ()))
  else
   some (.inl (aR (t31+1)))
 else
  some (.inr (.inr ()))
def Ex:Option (Unit⊕(Unit)):=loop (fun(zz:Int)=>GY t29 t30 zz) t31
theorem ND{y:Int⊕(Unit⊕(Unit))}(h:GY t29 t30 t31=some y):aU Pg GE 0 (cA qcn 119) (LQ (fun(zz:Int)=>oR t t29 t30 zz) oS (lx t) y) (oR t t29 t30 t31):=by
 rcases bj h with⟨c13,h⟩|⟨c13,h⟩
 ·obtain⟨x14,bx14,h⟩:=ay h
  obtain⟨r15,br15,h⟩:=ay h
  have p17:=fun{sc F} (r:PS sc F)=>sg 0 c13<|sv (bp.ia (k:=.i64) bx14)<|sv (dH Ba (.str x14) [])<|bz (IR br15)<|r
  rcases bj h with⟨c16,h⟩|⟨c16,h⟩
  ·obtain rfl:=lf h
   have z:=p17<|sg 0 c16<|eF (oS (.inl ())) (lx t (.inl ()))
   exact f6 V3 (by intro hx;cases hx) z<|by kernel_rfl
  ·obtain rfl:=lf h
   exact n9 V3 (p17<|sg 0 c16<|eF .normal (oR t t29 t30 (aR (t31+1))))<|by kernel_rfl
 ·obtain rfl:=lf h
  have z:=sg 0 c13<|eF (oS (.inr ())) (lx t (.inr ()))
  exact f6 V3 (by intro hx;cases hx) z<|by kernel_rfl
theorem Ey{x:Unit⊕(Unit)}(h:Ex t29 t30 t31=some x):aU Pg GE 0 (.loop (cA qcn 119)) (EX (oS x) (lx t x)) (oR t t29 t30 t31):=
 aU.loop (S:=fun(zz:Int)=>oR t t29 t30 zz) (ex:=oS) (s:=t31) h fun zz y hy=>ND t t29 t30 zz hy
end
section
variable(e:Int)(t48:waB)(t49:Int)(t50:Int)(m:Int)(m2:ag)(m3:Int)(m4:waB)
def RU:aA:=be 65 [(6,.bptr 1 0),(7,.int .i64 e),(48,sl ac t48),(49,.int .i64 t49),(50,.int .i64 t50)] [.dead,.cells [.int .i64 m,.str m2,.int .i64 m3,sl ac m4] []] [((48,0),36)]
def zO(o:Bool):aA:=be 65 [(7,.int .i64 e),(48,sl ac t48),(49,.int .i64 t49),(50,.int .i64 t50),(62,.bool o)] [.dead,.cells [.int .i64 m,.str m2,.int .i64 m3,sl ac m4] []] [((48,0),36)]
def Ew:Option Bool:=
 (At (⟨m,m2,m3,m4⟩:aa)).bind fun r26=>
 if(!r26)=true then
  some (e !=0)
 else
  some false
theorem Pw{x:Bool}(h:Ew e m m2 m3 m4=some x):aU Pg GE 0 (cA qcn 64494) (EX .normal (zO e t48 t49 t50 m m2 m3 m4 x)) (RU e t48 t49 t50 m m2 m3 m4):=by
 obtain⟨r26,br26,h⟩:=ay h
 have p28:=fun{sc F} (r:PS sc F)=>sv (bT (⟨m,m2,m3,m4⟩:aa) [])<|bz (EC br26)<|r
 rcases bj h with⟨c27,h⟩|⟨c27,h⟩
 ·obtain rfl:=lf h
  exact cd V3 (p28<|sg 4 c27<|eF .normal (zO e t48 t49 t50 m m2 m3 m4 (e !=0)))<|by kernel_rfl
 ·obtain rfl:=lf h
  exact cd V3 (p28<|sg 4 c27<|eF .normal (zO e t48 t49 t50 m m2 m3 m4 false))<|by kernel_rfl
end
section
variable(t48:waB)(t49:Int)(t50:Int)
def oT:aA:=be 65 [(48,sl ac t48),(49,.int .i64 t49),(50,.int .i64 t50)] [.dead] [((48,0),36)]
def oU(o:Int⊕(Unit)):Exit:=match o with
 |(.inl _)=>.ret
 |(.inr _)=>.exit 2
def ly(o:Int⊕(Unit)):aA:=match o with
 |(.inl o)=>be 65 [(2,.int .i64 o)] [.dead] []
 |(.inr o)=>be 65 [] [.dead] []
def GZ:Option (Int⊕(Int⊕(Unit))):=
 if(decide (t50<t49))=true then
  (cz t48 t50).bind fun x24=>
  (FD x24).bind fun r25=>
  (Ew r25 x24.Op x24.Name x24.N x24.Kids).bind fun o29=>
  if o29=true then
   some (.inr (.inl r25))
  else
   some (.inl (aR (t50+1)))
 else
  some (.inr (.inr ()))
def Ez:Option (Int⊕(Unit)):=loop (fun(zz:Int)=>GZ t48 t49 zz) t50
theorem NE{y:Int⊕(Int⊕(Unit))}(h:GZ t48 t49 t50=some y):aU Pg GE 0 (cA qcn 503) (LQ (fun(zz:Int)=>oT t48 t49 zz) oU ly y) (oT t48 t49 t50):=by
 rcases bj h with⟨c23,h⟩|⟨c23,h⟩
 ·obtain⟨x24,bx24,h⟩:=ay h
  obtain⟨r25,br25,h⟩:=ay h
  obtain⟨o29,bo29,h⟩:=ay h
  have p31:=fun{sc F} (r:PS sc F)=>sg 0 c23<|sv (bL.ia (k:=.i64) bx24)<|sv (bh x24)<|sx hO<|sx (cj x24)<|sv (bT x24 [])<|bz (Uh br25)<|kr 0<|cW (Pw r25 t48 t49 t50 x24.Op x24.Name x24.N x24.Kids bo29)<|r
  rcases bj h with⟨c30,h⟩|⟨c30,h⟩
  ·obtain rfl:=lf h
   have z:=p31<|sg 0 c30<|uz 0 (oU (.inl r25)) (ly (.inl r25)) rfl (dC (aI trivial trivial)) (aI trivial trivial)
   exact Iq (A:=V3) mixed (by intro hx;cases hx) z<|by kernel_rfl
  ·obtain rfl:=lf h
   have z:=p31<|sg 0 c30<|uz 0 .normal (oT t48 t49 (aR (t50+1))) rfl (dC (aI (up (aj ah t48)) (aI trivial (aI trivial trivial)))) (aI trivial trivial)
   exact df (A:=V3) mixed z<|by kernel_rfl
 ·obtain rfl:=lf h
  have z:=sg 0 c23<|eF (oU (.inr ())) (ly (.inr ()))
  exact f6 V3 (by intro hx;cases hx) z<|by kernel_rfl
theorem EA{x:Int⊕(Unit)}(h:Ez t48 t49 t50=some x):aU Pg GE 0 (.loop (cA qcn 503)) (EX (oU x) (ly x)) (oT t48 t49 t50):=
 aU.loop (S:=fun(zz:Int)=>oT t48 t49 zz) (ex:=oU) (s:=t50) h fun zz y hy=>NE t48 t49 zz hy
end
def Jg(t:ae):Option Int:=
 (Ev t).bind fun o10=>
 if o10=true then
  some 1
 else
  (Ex t.Names (t.Names.length:Int) 0).bind fun o18=>match o18 with
  |(.inl o18)=>
   some 3
  | (.inr o18) =>
   (vF t.Names).bind fun r19=>
   if(!r19)=true then
    some 4
   else
    (app ([t.Pred]:List aa) t.Preds).bind fun l22=>
    (Ez l22 (l22.length:Int) 0).bind fun o32=>match o32 with
    |(.inl o32)=>
     some o32
    |(.inr o32)=>
     some 0
theorem Wt{t:ae}{r:Int}(h:Jg t=some r):CC Pg GE 62 [.agg (af t)] (.int .i64 r) []:=by
 obtain⟨o10,bo10,h⟩:=ay h
 have p12:=fun{sc F} (r:PS sc F)=>se (bD t)<|kr 1<|cW (Pv t bo10)<|r
 rcases bj h with⟨c11,h⟩|⟨c11,h⟩
 ·obtain rfl:=lf h
  have z:=p12<|sg 0 c11<|en (aI (rP (.int .i64 1))<|trivial)
  exact bN V3 call62 func62 (c:=qcn) rfl (aI (ak t) trivial) z<|by kernel_rfl
 ·obtain⟨o18,bo18,h⟩:=ay h
  rcases o18 with o18|o18
  ·obtain rfl:=lf h
   have z:=p12<|sg 0 c11<|sv (aO t)<|sv (aP t)<|cm (bp.ln t.Names)<|cW (e:=.ret) (s1:=lx t (.inl o18)) (Ey t t.Names (t.Names.length:Int) 0 bo18)<|en (aI (rP (.int .i64 3))<|trivial)
   exact bN V3 call62 func62 (c:=qcn) rfl (aI (ak t) trivial) z<|by kernel_rfl
  ·obtain⟨r19,br19,h⟩:=ay h
   have p21:=fun{sc F} (r:PS sc F)=>p12<|sg 0 c11<|sv (aO t)<|sv (aP t)<|cm (bp.ln t.Names)<|cW (e:=.exit 0) (s1:=lx t (.inr o18)) (Ey t t.Names (t.Names.length:Int) 0 bo18)<|sv (aO t)<|sv (aP t)<|bz (MJ br19)<|r
   rcases bj h with⟨c20,h⟩|⟨c20,h⟩
   ·obtain rfl:=lf h
    have z:=p21<|sg 0 c20<|en (aI (rP (.int .i64 4))<|trivial)
    exact bN V3 call62 func62 (c:=qcn) rfl (aI (ak t) trivial) z<|by kernel_rfl
   ·obtain⟨l22,bl22,h⟩:=ay h
    obtain⟨o32,bo32,h⟩:=ay h
    rcases o32 with o32|o32
    ·obtain rfl:=lf h
     have z:=p21<|sg 0 c20<|sv (dE t)<|sv (dF t)<|sv (bL.mk' (v:=dW) cK ([t.Pred]:List aa) 1 (by kernel_rfl))<|sv (dq t)<|sv (dt t)<|sv (bL.ap bl22)<|cm (bL.ln l22)<|cW (e:=.ret) (s1:=ly (.inl o32)) (EA l22 (l22.length:Int) 0 bo32)<|en (aI (rP (.int .i64 o32))<|trivial)
     exact bN V3 call62 func62 (c:=qcn) rfl (aI (ak t) trivial) z<|by kernel_rfl
    ·obtain rfl:=lf h
     have z:=p21<|sg 0 c20<|sv (dE t)<|sv (dF t)<|sv (bL.mk' (v:=dW) cK ([t.Pred]:List aa) 1 (by kernel_rfl))<|sv (dq t)<|sv (dt t)<|sv (bL.ap bl22)<|cm (bL.ln l22)<|cW (e:=.exit 2) (s1:=ly (.inr o32)) (EA l22 (l22.length:Int) 0 bo32)<|en (aI (rP (.int .i64 0))<|trivial)
     exact bN V3 call62 func62 (c:=qcn) rfl (aI (ak t) trivial) z<|by kernel_rfl
noncomputable def qh7:Code:=f40.body.getD .skip
def qhc:List Nat:=[11,23]
section
variable(R31:B7)(t13:waC)(t14:Int)(t15:Int)
def oP:aA:=be 25 [(13,sl af t13),(14,.int .i64 t14),(15,.int .i64 t15)] [.dead] []
def oQ(o:Int⊕(Unit)):Exit:=match o with
 |(.inl _)=>.ret
 |(.inr _)=>.exit 0
def lu(o:Int⊕(Unit)):aA:=match o with
 |(.inl o)=>be 25 [(2,.int .i64 o)] [.dead] []
 |(.inr o)=>be 25 [] [.dead] []
def GX:Option (Int⊕(Int⊕(Unit))):=
 if(decide (t15<t14))=true then
  (cz t13 t15).bind fun x5=>
  (R31 x5).bind fun r6=>
  if(r6 !=0)=true then
   some (.inr (.inl r6))
  else
   some (.inl (aR (t15+1)))
 else
  some (.inr (.inr ()))
def Es:Option (Int⊕(Unit)):=loop (fun(zz:Int)=>GX R31 t13 t14 zz) t15
theorem NB(hR31:Hu R31){y:Int⊕(Int⊕(Unit))}(h:GX R31 t13 t14 t15=some y):aU Pg GE 0 (cA qh7 119) (LQ (fun(zz:Int)=>oP t13 t14 zz) oQ lu y) (oP t13 t14 t15):=by
 rcases bj h with⟨c4,h⟩|⟨c4,h⟩
 ·obtain⟨x5,bx5,h⟩:=ay h
  obtain⟨r6,br6,h⟩:=ay h
  have p8:=fun{sc F} (r:PS sc F)=>sg 0 c4<|sv (ck.ia (k:=.i64) bx5)<|sv (aV x5)<|sx tc<|sx (ey x5)<|sv (cU x5 [])<|bz (hR31 _ _ br6)<|r
  rcases bj h with⟨c7,h⟩|⟨c7,h⟩
  ·obtain rfl:=lf h
   have z:=p8<|sg 0 c7<|uz 0 (oQ (.inl r6)) (lu (.inl r6)) rfl (dC (aI trivial trivial)) (aI trivial trivial)
   exact Iq (A:=qhc) mixed (by intro hx;cases hx) z<|by kernel_rfl
  ·obtain rfl:=lf h
   have z:=p8<|sg 0 c7<|uz 0 .normal (oP t13 t14 (aR (t15+1))) rfl (dC (aI (up (aj ak t13)) (aI trivial (aI trivial trivial)))) (aI trivial trivial)
   exact df (A:=qhc) mixed z<|by kernel_rfl
 ·obtain rfl:=lf h
  have z:=sg 0 c4<|eF (oQ (.inr ())) (lu (.inr ()))
  exact f6 qhc (by intro hx;cases hx) z<|by kernel_rfl
theorem Et(hR31:Hu R31){x:Int⊕(Unit)}(h:Es R31 t13 t14 t15=some x):aU Pg GE 0 (.loop (cA qh7 119)) (EX (oQ x) (lu x)) (oP t13 t14 t15):=
 aU.loop (S:=fun(zz:Int)=>oP t13 t14 zz) (ex:=oQ) (s:=t15) h fun zz y hy=>NB R31 t13 t14 zz hR31 hy
end
def BP(R31:B7)(t:ae):Option Int:=
 (Jg t).bind fun r1=>
 if(r1 !=0)=true then
  some r1
 else
  (Es R31 t.Args (t.Args.length:Int) 0).bind fun o9=>match o9 with
  |(.inl o9)=>
   some o9
  |(.inr o9)=>
   some 0
theorem UC(R31:B7)(hR31:Hu R31){t:ae}{r:Int}(h:BP R31 t=some r):CC Pg GE 40 [.agg (af t)] (.int .i64 r) []:=by
 obtain⟨r1,br1,h⟩:=ay h
 have p3:=fun{sc F} (r:PS sc F)=>se (bD t)<|sv (aV t)<|bz (Wt br1)<|r
 rcases bj h with⟨c2,h⟩|⟨c2,h⟩
 ·obtain rfl:=lf h
  have z:=p3<|sg 0 c2<|en (aI (rP (.int .i64 r1))<|trivial)
  exact bN qhc call40 func40 (c:=qh7) rfl (aI (ak t) trivial) z<|by kernel_rfl
 ·obtain⟨o9,bo9,h⟩:=ay h
  rcases o9 with o9|o9
  ·obtain rfl:=lf h
   have z:=p3<|sg 0 c2<|sv (aK t)<|sv (aL t)<|cm (ck.ln t.Args)<|cW (e:=.ret) (s1:=lu (.inl o9)) (Et R31 t.Args (t.Args.length:Int) 0 hR31 bo9)<|en (aI (rP (.int .i64 o9))<|trivial)
   exact bN qhc call40 func40 (c:=qh7) rfl (aI (ak t) trivial) z<|by kernel_rfl
  ·obtain rfl:=lf h
   have z:=p3<|sg 0 c2<|sv (aK t)<|sv (aL t)<|cm (ck.ln t.Args)<|cW (e:=.exit 0) (s1:=lu (.inr o9)) (Et R31 t.Args (t.Args.length:Int) 0 hR31 bo9)<|en (aI (rP (.int .i64 0))<|trivial)
   exact bN qhc call40 func40 (c:=qh7) rfl (aI (ak t) trivial) z<|by kernel_rfl
def HQ:(ae->Option Int)->(ae)->Option Int:=fun(rec:ae->Option Int) (x:ae)=>BP (fun t=>rec t) x
def Pu(t:ae):Option Int:=kJ HQ t
theorem Ws{t:ae}{r:Int}(h:Pu t=some r):CC Pg GE 40 [.agg (af t)] (.int .i64 r) []:=
 cy (F:=HQ) (M:=fun(x:ae) (r:Int)=>CC Pg GE 40 [.agg (af x)] (.int .i64 r) []) (fun rec hrec x r h=>UC _ (fun t r h=>hrec t r h) h) h
noncomputable def qkJ:Code:=f16.body.getD .skip
def qkA:List Nat:=[8]
def Aq(t:ae):Option Int:=
 (FF t).bind fun r1=>
 if(r1 !=0)=true then
  some r1
 else
  (Pu t).bind fun r4=>
  some r4
theorem Ja{t:ae}{r:Int}(h:Aq t=some r):CC Pg GE 16 [.agg (af t)] (.int .i64 r) []:=by
 obtain⟨r1,br1,h⟩:=ay h
 have p3:=fun{sc F} (r:PS sc F)=>se (bD t)<|sv (aV t)<|bz (Uo br1)<|r
 rcases bj h with⟨c2,h⟩|⟨c2,h⟩
 ·obtain rfl:=lf h
  have z:=p3<|sg 0 c2<|en (aI (rP (.int .i64 r1))<|trivial)
  exact bN qkA call16 func16 (c:=qkJ) rfl (aI (ak t) trivial) z<|by kernel_rfl
 ·obtain⟨r4,br4,h⟩:=ay h
  obtain rfl:=lf h
  have z:=p3<|sg 0 c2<|sv (aV t)<|bz (Ws br4)<|en (aI (rP (.int .i64 r4))<|trivial)
  exact bN qkA call16 func16 (c:=qkJ) rfl (aI (ak t) trivial) z<|by kernel_rfl
noncomputable def qkH:Code:=f10.body.getD .skip
def qky:List Nat:=[]
def FT(a:aQ):Option Bool:=
 (Aq a.A).bind fun r1=>
 if(r1==0)=true then
  (Aq a.B).bind fun r4=>
  some (r4==0)
 else
  some false
theorem UG{a:aQ}{r:Bool}(h:FT a=some r):CC Pg GE 10 [.agg (aE a)] (.bool r) []:=by
 obtain⟨r1,br1,h⟩:=ay h
 have p3:=fun{sc F} (r:PS sc F)=>se (pn a)<|sv (ek a)<|sv (er a)<|bz (Ja br1)<|r
 rcases bj h with⟨c2,h⟩|⟨c2,h⟩
 ·obtain⟨r4,br4,h⟩:=ay h
  obtain rfl:=lf h
  have z:=p3<|sg 5 c2<|sv (eo a)<|sv (eu a)<|bz (Ja br4)<|en (aI (rP (.bool (r4==0)))<|trivial)
  exact bN qky call10 func10 (c:=qkH) rfl (aI (dR a) trivial) z<|by kernel_rfl
 ·obtain rfl:=lf h
  have z:=p3<|sg 5 c2<|en (aI (rP (.bool false))<|trivial)
  exact bN qky call10 func10 (c:=qkH) rfl (aI (dR a) trivial) z<|by kernel_rfl
noncomputable def qlr:Code:=f33.body.getD .skip
def qlb:List Nat:=[]
def kg(s:ag):Option aa:=
 some (⟨3,s,0,([]:List aa)⟩:aa)
theorem iH{s:ag}{r:aa}(h:kg s=some r):CC Pg GE 33 [.str s] (.agg (ac r)) [(3,36)]:=by
 obtain rfl:=lf h
 have z:=sx hO<|sb (kj 3 s) (kh 3 s)<|sy (aJ (⟨3,s,0,([]:List aa)⟩:aa))<|en (aI (dj (⟨3,s,0,([]:List aa)⟩:aa))<|aI (ah (⟨3,s,0,([]:List aa)⟩:aa))<|rT)
 exact bN qlb call33 func33 (c:=qlr) rfl (aI trivial trivial) z<|by kernel_rfl
noncomputable def qlq:Code:=f32.body.getD .skip
def qla:List Nat:=[]
def FU(op:Int)(a:aa)(a2:aa):Option aa:=
 some (⟨op,([]:ag),0,([a,a2]:List aa)⟩:aa)
theorem xu{op:Int}{a:aa}{a2:aa}{r:aa}(h:FU op a a2=some r):CC Pg GE 32 [.int .i64 op,.agg (ac a),.agg (ac a2)] (.agg (ac r)) []:=by
 obtain rfl:=lf h
 have z:=se (bS a)<|se (bS a2)<|sx hO<|sv (bh a)<|sv (bh a2)<|sv (bL.mk' (v:=dW) cK ([a,a2]:List aa) 2 (by kernel_rfl))<|sv (JG op ([a,a2]:List aa))<|sx (cj (⟨op,([]:ag),0,([a,a2]:List aa)⟩:aa))<|en (aI (dj (⟨op,([]:ag),0,([a,a2]:List aa)⟩:aa))<|(ah (⟨op,([]:ag),0,([a,a2]:List aa)⟩:aa)))
 exact bN qla call32 func32 (c:=qlq) rfl (aI trivial (aI (ah a) (aI (ah a2) trivial))) z<|by kernel_rfl
noncomputable def qlp:Code:=f31.body.getD .skip
def qk9:List Nat:=[]
def tZ(p:aa):Option ae:=
 some (⟨1,([]:ag),([]:List ae),([]:List ag),p,([]:List aa)⟩:ae)
theorem rf{p:aa}{r:ae}(h:tZ p=some r):CC Pg GE 31 [.agg (ac p)] (.agg (af r)) [(2,38),(3,9),(8,36)]:=by
 obtain rfl:=lf h
 have z:=se (bS p)<|sx tc<|sv (bh p)<|sb (UO 1 p) (UM 1 p)<|sy (bu (⟨1,([]:ag),([]:List ae),([]:List ag),p,([]:List aa)⟩:ae))<|en (aI (hX (⟨1,([]:ag),([]:List ae),([]:List ag),p,([]:List aa)⟩:ae))<|aI (ak (⟨1,([]:ag),([]:List ae),([]:List ag),p,([]:List aa)⟩:ae))<|rT)
 exact bN qk9 call31 func31 (c:=qlp) rfl (aI (ah p) trivial) z<|by kernel_rfl
abbrev vR:=(ae->ae->Option Bool)
abbrev Bb(R:vR):Prop:=∀(a:ae) (a2:ae) (r:Bool),R a a2=some r->CC Pg GE 34 [.agg (af a),.agg (af a2)] (.bool r) []
noncomputable def qhl:Code:=f34.body.getD .skip
def qem:List Nat:=[32]
section
variable(v:ae)(v2:ae)
def N7:aA:=be 46 [(2,.eptr (af v)),(3,.eptr (af v2))] [.dead,.dead] []
def pL(o:Bool):aA:=be 46 [(2,.eptr (af v)),(3,.eptr (af v2)),(26,.bool o)] [.dead,.dead] []
def Ai:Option Bool:=
 if(v.Op !=v2.Op)=true then
  some true
 else
  if(!(v.Name==v2.Name))=true then
   some true
  else
   some ((v.Args.length:Int)!=(v2.Args.length:Int))
theorem L7{x:Bool}(h:Ai v v2=some x):aU Pg GE 0 (cA qhl 12) (EX .normal (pL v v2 x)) (N7 v v2):=by
 have p2:=fun{sc F} (r:PS sc F)=>sv (aC v)<|sv (aD v)<|sv (aC v2)<|sv (aD v2)<|r
 rcases bj h with⟨c1,h⟩|⟨c1,h⟩
 ·obtain rfl:=lf h
  exact cd qem (p2<|sg 6 c1<|eF .normal (pL v v2 true))<|by kernel_rfl
 ·have p4:=fun{sc F} (r:PS sc F)=>p2<|sg 6 c1<|sv (cq v)<|sv (cP v)<|sv (cq v2)<|sv (cP v2)<|r
  rcases bj h with⟨c3,h⟩|⟨c3,h⟩
  ·obtain rfl:=lf h
   exact cd qem (p4<|sg 13 c3<|eF .normal (pL v v2 true))<|by kernel_rfl
  ·obtain rfl:=lf h
   exact cd qem (p4<|sg 13 c3<|sv (aK v)<|sv (aL v)<|cm (ck.ln v.Args)<|sv (aK v2)<|sv (aL v2)<|cm (ck.ln v2.Args)<|eF .normal (pL v v2 ((v.Args.length:Int)!=(v2.Args.length:Int))))<|by kernel_rfl
end
section
variable(R50:vR)(v:ae)(v2:ae)(t29:Int)(t30:Int)
def kY:aA:=be 46 [(2,.eptr (af v)),(3,.eptr (af v2)),(29,.int .i64 t29),(30,.int .i64 t30)] [.dead,.dead] []
def kZ(o:Unit⊕(Unit)):Exit:=match o with
 |(.inl _)=>.ret
 |(.inr _)=>.exit 0
def iN(o:Unit⊕(Unit)):aA:=match o with
 |(.inl o)=>be 46 [(4,.bool false)] [.dead,.dead] []
 |(.inr o)=>be 46 [] [.dead,.dead] []
def vg:Option (Int⊕(Unit⊕(Unit))):=
 if(decide (t30<t29))=true then
  (cz v.Args t30).bind fun x9=>
  (cz v2.Args t30).bind fun x10=>
  (R50 x9 x10).bind fun r11=>
  if(!r11)=true then
   some (.inr (.inl ()))
  else
   some (.inl (aR (t30+1)))
 else
  some (.inr (.inr ()))
def Aj:Option (Unit⊕(Unit)):=loop (fun(zz:Int)=>vg R50 v v2 t29 zz) t30
theorem KE(hR50:Bb R50){y:Int⊕(Unit⊕(Unit))}(h:vg R50 v v2 t29 t30=some y):aU Pg GE 0 (cA qhl 119) (LQ (fun(zz:Int)=>kY v v2 t29 zz) kZ iN y) (kY v v2 t29 t30):=by
 rcases bj h with⟨c8,h⟩|⟨c8,h⟩
 ·obtain⟨x9,bx9,h⟩:=ay h
  obtain⟨x10,bx10,h⟩:=ay h
  obtain⟨r11,br11,h⟩:=ay h
  have p13:=fun{sc F} (r:PS sc F)=>sg 0 c8<|lY [0,1,0,7,15,0,32,0,224,480,1023,2047]<|sv (aK v)<|sv (aL v)<|sv (ck.ia (k:=.i64) bx9)<|sv (aV x9)<|sv (aK v2)<|sv (aL v2)<|sv (ck.ia (k:=.i64) bx10)<|sv (aV x10)<|bz (hR50 _ _ _ br11)<|r
  rcases bj h with⟨c12,h⟩|⟨c12,h⟩
  ·obtain rfl:=lf h
   have z:=p13<|sg 0 c12<|eF (kZ (.inl ())) (iN (.inl ()))
   exact f6 qem (by intro hx;cases hx) z<|by kernel_rfl
  ·obtain rfl:=lf h
   exact n9 qem (p13<|sg 0 c12<|eF .normal (kY v v2 t29 (aR (t30+1))))<|by kernel_rfl
 ·obtain rfl:=lf h
  have z:=sg 0 c8<|eF (kZ (.inr ())) (iN (.inr ()))
  exact f6 qem (by intro hx;cases hx) z<|by kernel_rfl
theorem A2(hR50:Bb R50){x:Unit⊕(Unit)}(h:Aj R50 v v2 t29 t30=some x):aU Pg GE 0 (.loop (cA qhl 119)) (EX (kZ x) (iN x)) (kY v v2 t29 t30):=
 aU.loop (S:=fun(zz:Int)=>kY v v2 t29 zz) (ex:=kZ) (s:=t30) h fun zz y hy=>KE R50 v v2 t29 zz hR50 hy
end
def wl(R50:vR)(a:ae)(a2:ae):Option Bool:=
 (Ai a a2).bind fun o5=>
 if o5=true then
  some false
 else
  (Aj R50 a a2 (a.Args.length:Int) 0).bind fun o14=>match o14 with
  |(.inl o14)=>
   some false
  |(.inr o14)=>
   some true
theorem Rf(R50:vR)(hR50:Bb R50){a:ae}{a2:ae}{r:Bool}(h:wl R50 a a2=some r):CC Pg GE 34 [.agg (af a),.agg (af a2)] (.bool r) []:=by
 obtain⟨o5,bo5,h⟩:=ay h
 have p7:=fun{sc F} (r:PS sc F)=>se (bD a)<|se (bD a2)<|kr 1<|cW (L7 a a2 bo5)<|r
 rcases bj h with⟨c6,h⟩|⟨c6,h⟩
 ·obtain rfl:=lf h
  have z:=p7<|sg 0 c6<|en (aI (rP (.bool false))<|trivial)
  exact bN qem call34 func34 (c:=qhl) rfl (aI (ak a) (aI (ak a2) trivial)) z<|by kernel_rfl
 ·obtain⟨o14,bo14,h⟩:=ay h
  rcases o14 with o14|o14
  ·obtain rfl:=lf h
   have z:=p7<|sg 0 c6<|sv (aK a)<|sv (aL a)<|cm (ck.ln a.Args)<|cW (e:=.ret) (s1:=iN (.inl o14)) (A2 R50 a a2 (a.Args.length:Int) 0 hR50 bo14)<|en (aI (rP (.bool false))<|trivial)
   exact bN qem call34 func34 (c:=qhl) rfl (aI (ak a) (aI (ak a2) trivial)) z<|by kernel_rfl
  ·obtain rfl:=lf h
   have z:=p7<|sg 0 c6<|sv (aK a)<|sv (aL a)<|cm (ck.ln a.Args)<|cW (e:=.exit 0) (s1:=iN (.inr o14)) (A2 R50 a a2 (a.Args.length:Int) 0 hR50 bo14)<|en (aI (rP (.bool true))<|trivial)
   exact bN qem call34 func34 (c:=qhl) rfl (aI (ak a) (aI (ak a2) trivial)) z<|by kernel_rfl
def CR:((ae×ae)->Option Bool)->(ae×ae)->Option Bool:=fun(rec:(ae×ae)->Option Bool) (x:ae×ae)=>wl (fun a a2=>rec (a,a2)) x.1 x.2
def IL(a:ae)(a2:ae):Option Bool:=kJ CR (a,a2)
theorem SN{a:ae}{a2:ae}{r:Bool}(h:IL a a2=some r):CC Pg GE 34 [.agg (af a),.agg (af a2)] (.bool r) []:=
 cy (F:=CR) (M:=fun(x:ae×ae) (r:Bool)=>CC Pg GE 34 [.agg (af x.1),.agg (af x.2)] (.bool r) []) (fun rec hrec x r h=>Rf _ (fun a a2 r h=>hrec (a,a2) r h) h) h
abbrev d4:=(aY->ae->ae->waA->Option ai)
abbrev iO(R:d4):Prop:=∀(w:aY) (a:ae) (a2:ae) (used:waA) (r:ai),R w a a2 used=some r->CC Pg GE 35 [.agg (aW w),.agg (af a),.agg (af a2),sl cS used] (.agg (aw r)) []
noncomputable def qi8:Code:=f23.body.getD .skip
def qiV:List Nat:=[]
def kv(t:ae):Option Bool:=
 if(t.Op==1)=true then
  some true
 else
  if(t.Op==2)=true then
   some true
  else
   if(t.Op==3)=true then
    some true
   else
    some (t.Op==4)
theorem pK{t:ae}{r:Bool}(h:kv t=some r):CC Pg GE 23 [.agg (af t)] (.bool r) []:=by
 have p2:=fun{sc F} (r:PS sc F)=>se (bD t)<|sv (aC t)<|sv (aD t)<|r
 rcases bj h with⟨c1,h⟩|⟨c1,h⟩
 ·obtain rfl:=lf h
  have z:=p2<|sg 4 c1<|en (aI (rP (.bool true))<|trivial)
  exact bN qiV call23 func23 (c:=qi8) rfl (aI (ak t) trivial) z<|by kernel_rfl
 ·have p4:=fun{sc F} (r:PS sc F)=>p2<|sg 4 c1<|sv (aC t)<|sv (aD t)<|r
  rcases bj h with⟨c3,h⟩|⟨c3,h⟩
  ·obtain rfl:=lf h
   have z:=p4<|sg 9 c3<|en (aI (rP (.bool true))<|trivial)
   exact bN qiV call23 func23 (c:=qi8) rfl (aI (ak t) trivial) z<|by kernel_rfl
  ·have p6:=fun{sc F} (r:PS sc F)=>p4<|sg 9 c3<|sv (aC t)<|sv (aD t)<|r
   rcases bj h with⟨c5,h⟩|⟨c5,h⟩
   ·obtain rfl:=lf h
    have z:=p6<|sg 14 c5<|en (aI (rP (.bool true))<|trivial)
    exact bN qiV call23 func23 (c:=qi8) rfl (aI (ak t) trivial) z<|by kernel_rfl
   ·obtain rfl:=lf h
    have z:=p6<|sg 14 c5<|sv (aC t)<|sv (aD t)<|en (aI (rP (.bool (t.Op==4)))<|trivial)
    exact bN qiV call23 func23 (c:=qi8) rfl (aI (ak t) trivial) z<|by kernel_rfl
noncomputable def qhr:Code:=f77.body.getD .skip
def qhi:List Nat:=[24,35]
section
variable(base:ag)(t11:waA)(t12:Int)(t13:Int)(m0:(List (ag×Bool)))
def jW:aA:=be 36 [(1,.str base),(5,.mapr 0),(11,sl cS t11),(12,.int .i64 t12),(13,.int .i64 t13)] [.map (Ic PVal.bool m0)] []
def sV(o:(List (ag×Bool))):aA:=be 36 [(1,.str base),(5,.mapr 0)] [.map (Ic PVal.bool o)] []
def jX:Option ((Int×(List (ag×Bool)))⊕(((List (ag×Bool))))):=
 if(decide (t13<t12))=true then
  (cz t11 t13).bind fun x2=>
  some (.inl (aR (t13+1),J7 m0 x2 true))
 else
  some (.inr m0)
def ry:Option (((List (ag×Bool)))):=loop (fun(zz:Int×(List (ag×Bool)))=>jX t11 t12 zz.1 zz.2) (t13,m0)
theorem Im{y:(Int×(List (ag×Bool)))⊕(((List (ag×Bool))))}(h:jX t11 t12 t13 m0=some y):aU Pg GE 0 (cA qhr 119) (LQ (fun(zz:Int×(List (ag×Bool)))=>jW base t11 t12 zz.1 zz.2) (fun _=>.exit 0) (sV base) y) (jW base t11 t12 t13 m0):=by
 rcases bj h with⟨c1,h⟩|⟨c1,h⟩
 ·obtain⟨x2,bx2,h⟩:=ay h
  obtain rfl:=lf h
  exact n9 qhi (sg 0 c1<|sv (bp.ia (k:=.i64) bx2)<|sv (dH Ba (.str x2) [])<|qlS (qgQ (f:=PVal.bool) underlying154 underlying9 m0 x2 true)<|eF .normal (jW base t11 t12 (aR (t13+1)) (J7 m0 x2 true)))<|by kernel_rfl
 ·obtain rfl:=lf h
  have z:=sg 0 c1<|eF (.exit 0) (sV base m0)
  exact f6 qhi (by intro hx;cases hx) z<|by kernel_rfl
theorem Ka{x:((List (ag×Bool)))}(h:ry t11 t12 t13 m0=some x):aU Pg GE 0 (.loop (cA qhr 119)) (EX (.exit 0) (sV base x)) (jW base t11 t12 t13 m0):=
 aU.loop (S:=fun(zz:Int×(List (ag×Bool)))=>jW base t11 t12 zz.1 zz.2) (ex:=(fun _=>.exit 0)) (s:=(t13,m0)) h fun zz y hy=>Im base t11 t12 zz.1 zz.2 hy
end
section
variable(base:ag)(m0:(List (ag×Bool)))(n:Int)
def jY:aA:=be 36 [(1,.str base),(5,.mapr 0),(8,.int .i64 n)] [.map (Ic PVal.bool m0)] []
def sW(o:ag):aA:=be 36 [(4,.str o)] [.map (Ic PVal.bool m0)] []
def g8:Option (Int⊕(ag)):=
 (ZU n).bind fun r6=>
 (qgH base r6).bind fun s7=>
 if(!((Do m0 s7).getD false))=true then
  some (.inr s7)
 else
  some (.inl (aR (n+1)))
def mS:Option ag:=loop (fun(zz:Int)=>g8 base m0 zz) n
theorem Io{y:Int⊕(ag)}(h:g8 base m0 n=some y):aU Pg GE 0 (cA qhr 255) (LQ (fun(zz:Int)=>jY base m0 zz) (fun _=>.ret) (sW m0) y) (jY base m0 n):=by
 obtain⟨r6,br6,h⟩:=ay h
 obtain⟨s7,bs7,h⟩:=ay h
 have p9:=fun{sc F} (r:PS sc F)=>bz (qeY br6)<|sv (VS (P:=Pg) (t:=9) bs7)<|sv (qda (f:=PVal.bool) underlying154 underlying9 qk7 m0 s7)<|r
 rcases bj h with⟨c8,h⟩|⟨c8,h⟩
 ·obtain rfl:=lf h
  have z:=p9<|sg 0 c8<|eF .ret (sW m0 s7)
  exact f6 qhi (by intro hx;cases hx) z<|by kernel_rfl
 ·obtain rfl:=lf h
  exact n9 qhi (p9<|sg 0 c8<|eF .normal (jY base m0 (aR (n+1))))<|by kernel_rfl
theorem Kb{x:ag}(h:mS base m0 n=some x):aU Pg GE 0 (.loop (cA qhr 255)) (EX .ret (sW m0 x)) (jY base m0 n):=
 aU.loop (S:=fun(zz:Int)=>jY base m0 zz) (ex:=(fun _=>.ret)) (s:=n) h fun zz y hy=>Io base m0 zz hy
end
def mR(used:waA)(base:ag):Option ag:=
 (ry used (used.length:Int) 0 ([]:List (ag×Bool))).bind fun o3=>
 if(!((Do o3 base).getD false))=true then
  some base
 else
  (mS base o3 1).bind fun o10=>
  some o10
theorem xM{used:waA}{base:ag}{r:ag}(h:mR used base=some r):CC Pg GE 77 [sl cS used,.str base] (.str r) []:=by
 obtain⟨o3,bo3,h⟩:=ay h
 have p5:=fun{sc F} (r:PS sc F)=>cm (bp.ln used)<|cW (Ka base used (used.length:Int) 0 ([]:List (ag×Bool)) bo3)<|sv (qda (f:=PVal.bool) underlying154 underlying9 qk7 o3 base)<|r
 rcases bj h with⟨c4,h⟩|⟨c4,h⟩
 ·obtain rfl:=lf h
  have z:=p5<|sg 0 c4<|en (aI (rP (.str base))<|trivial)
  exact bN qhi call77 func77 (c:=qhr) rfl (aI (aj dQ used) (aI trivial trivial)) z<|by kernel_rfl
 ·obtain⟨o10,bo10,h⟩:=ay h
  obtain rfl:=lf h
  have z:=p5<|sg 0 c4<|cW (Kb base o3 1 bo10)<|en (aI (rP (.str o10))<|trivial)
  exact bN qhi call77 func77 (c:=qhr) rfl (aI (aj dQ used) (aI trivial trivial)) z<|by kernel_rfl
noncomputable def qeB:Code:=f109.body.getD .skip
def qb3:List Nat:=[10,17]
section
variable(s:waA)(v:ag)(t7:Int)(t8:Int)
def ja:aA:=be 19 [(0,sl cS s),(1,.str v),(7,.int .i64 t7),(8,.int .i64 t8)] [] []
def jb(o:Int⊕(Unit)):Exit:=match o with
 |(.inl _)=>.ret
 |(.inr _)=>.exit 0
def gv(o:Int⊕(Unit)):aA:=match o with
 |(.inl o)=>be 19 [(4,.int .i64 o)] [] []
 |(.inr o)=>be 19 [] [] []
def fc:Option (Int⊕(Int⊕(Unit))):=
 if(decide (t8<t7))=true then
  (cz s t8).bind fun x2=>
  if(v==x2)=true then
   some (.inr (.inl t8))
  else
   some (.inl (aR (t8+1)))
 else
  some (.inr (.inr ()))
def va:Option (Int⊕(Unit)):=loop (fun(zz:Int)=>fc s v t7 zz) t8
theorem GN{y:Int⊕(Int⊕(Unit))}(h:fc s v t7 t8=some y):aU Pg GE 0 (cA qeB 55) (LQ (fun(zz:Int)=>ja s v t7 zz) jb gv y) (ja s v t7 t8):=by
 rcases bj h with⟨c1,h⟩|⟨c1,h⟩
 ·obtain⟨x2,bx2,h⟩:=ay h
  have p4:=fun{sc F} (r:PS sc F)=>sg 0 c1<|sv (bp.ia (k:=.i64) bx2)<|sv (dH Ba (.str x2) [])<|r
  rcases bj h with⟨c3,h⟩|⟨c3,h⟩
  ·obtain rfl:=lf h
   have z:=p4<|sg 0 c3<|eF (jb (.inl t8)) (gv (.inl t8))
   exact f6 qb3 (by intro hx;cases hx) z<|by kernel_rfl
  ·obtain rfl:=lf h
   exact n9 qb3 (p4<|sg 0 c3<|eF .normal (ja s v t7 (aR (t8+1))))<|by kernel_rfl
 ·obtain rfl:=lf h
  have z:=sg 0 c1<|eF (jb (.inr ())) (gv (.inr ()))
  exact f6 qb3 (by intro hx;cases hx) z<|by kernel_rfl
theorem xY{x:Int⊕(Unit)}(h:va s v t7 t8=some x):aU Pg GE 0 (.loop (cA qeB 55)) (EX (jb x) (gv x)) (ja s v t7 t8):=
 aU.loop (S:=fun(zz:Int)=>ja s v t7 zz) (ex:=jb) (s:=t8) h fun zz y hy=>GN s v t7 zz hy
end
def rQ(s:waA)(v:ag):Option Int:=
 (va s v (s.length:Int) 0).bind fun o5=>match o5 with
 |(.inl o5)=>
  some o5
 |(.inr o5)=>
  some (-1)
theorem C6{s:waA}{v:ag}{r:Int}(h:rQ s v=some r):CC Pg GE 109 [sl cS s,.str v] (.int .i64 r) []:=by
 obtain⟨o5,bo5,h⟩:=ay h
 rcases o5 with o5|o5
 ·obtain rfl:=lf h
  have z:=cm (bp.ln s)<|cW (e:=.ret) (s1:=gv (.inl o5)) (xY s v (s.length:Int) 0 bo5)<|en (aI (rP (.int .i64 o5))<|trivial)
  exact bN qb3 call109 func109 (c:=qeB) rfl (aI (aj dQ s) (aI trivial trivial)) z<|by kernel_rfl
 ·obtain rfl:=lf h
  have z:=cm (bp.ln s)<|cW (e:=.exit 0) (s1:=gv (.inr o5)) (xY s v (s.length:Int) 0 bo5)<|en (aI (rP (.int .i64 (-1)))<|trivial)
  exact bN qb3 call109 func109 (c:=qeB) rfl (aI (aj dQ s) (aI trivial trivial)) z<|by kernel_rfl
noncomputable def qjS:Code:=f137.body.getD .skip
def qjA:List Nat:=[]
def fm(s:waA)(v:ag):Option Bool:=
 (rQ s v).bind fun r1=>
 some (decide (r1>=0))
theorem ir{s:waA}{v:ag}{r:Bool}(h:fm s v=some r):CC Pg GE 137 [sl cS s,.str v] (.bool r) []:=by
 obtain⟨r1,br1,h⟩:=ay h
 obtain rfl:=lf h
 have z:=bz (C6 br1)<|en (aI (rP (.bool (decide (r1>=0))))<|trivial)
 exact bN qjA call137 func137 (c:=qjS) rfl (aI (aj dQ s) (aI trivial trivial)) z<|by kernel_rfl
noncomputable def qeC:Code:=f119.body.getD .skip
def qat:List Nat:=[13,28,34]
section
variable(hidden:waA)(s:am)(i:Int)(n:ag)(t9:waA)(t10:Int)(m:waB)(m2:waA)(m3:waB)
def qx:aA:=be 45 [(1,sl cS hidden),(2,.eptr (az s)),(4,.bptr 1 0),(5,.bptr 2 0),(6,.int .i64 i),(7,.str n),(9,sl cS t9),(10,.int .i64 t10),(11,.int .i64 i)] [.dead,.cells [sl cS ([]:List ag),sl ac m] [(0,9),(1,36)],.cells [sl cS m2,sl ac m3] [(0,9),(1,36)]] []
def eR(o:Bool):aA:=be 45 [(1,sl cS hidden),(2,.eptr (az s)),(4,.bptr 1 0),(5,.bptr 2 0),(6,.int .i64 i),(7,.str n),(9,sl cS t9),(10,.int .i64 t10),(11,.int .i64 i),(26,.bool o)] [.dead,.cells [sl cS ([]:List ag),sl ac m] [(0,9),(1,36)],.cells [sl cS m2,sl ac m3] [(0,9),(1,36)]] []
def fp:Option Bool:=
 (fm hidden n).bind fun r3=>
 if(!r3)=true then
  (fm m2 n).bind fun r5=>
  some (!r5)
 else
  some false
theorem pZ{x:Bool}(h:fp hidden n m2=some x):aU Pg GE 0 (cA qeC 7670) (EX .normal (eR hidden s i n t9 t10 m m2 m3 x)) (qx hidden s i n t9 t10 m m2 m3):=by
 obtain⟨r3,br3,h⟩:=ay h
 rcases bj h with⟨c4,h⟩|⟨c4,h⟩
 ·obtain⟨r5,br5,h⟩:=ay h
  obtain rfl:=lf h
  exact cd qat (bz (ir br3)<|sg 5 c4<|ss<|bz (ir br5)<|eF .normal (eR hidden s i n t9 t10 m m2 m3 (!r5)))<|by kernel_rfl
 ·obtain rfl:=lf h
  exact cd qat (bz (ir br3)<|sg 5 c4<|eF .normal (eR hidden s i n t9 t10 m m2 m3 false))<|by kernel_rfl
end
section
variable(hidden:waA)(s:am)(t9:waA)(t10:Int)(m:waB)(t11:Int)(m2:waA)(m3:waB)
def ct:aA:=be 45 [(1,sl cS hidden),(2,.eptr (az s)),(4,.bptr 1 0),(5,.bptr 2 0),(9,sl cS t9),(10,.int .i64 t10),(11,.int .i64 t11)] [.dead,.cells [sl cS ([]:List ag),sl ac m] [(0,9),(1,36)],.cells [sl cS m2,sl ac m3] [(0,9),(1,36)]] []
def eS(o:waA×waB):aA:=be 45 [(4,.bptr 1 0),(5,.bptr 2 0)] [.dead,.cells [sl cS ([]:List ag),sl ac m] [(0,9),(1,36)],.cells [sl cS o.1,sl ac o.2] [(0,9),(1,36)]] []
def bQ:Option ((Int×waA×waB)⊕((waA×waB))):=
 if(decide (t11<t10))=true then
  (cz t9 t11).bind fun x2=>
  (fp hidden x2 m2).bind fun o6=>
  if o6=true then
   (app m2 ([x2]:List ag)).bind fun l9=>
   (cz s.by_ t11).bind fun x10=>
   (app m3 ([x10]:List aa)).bind fun l11=>
   some (.inl (aR (t11+1),l9,l11))
  else
   some (.inl (aR (t11+1),m2,m3))
 else
  some (.inr (m2,m3))
def fq:Option ((waA×waB)):=loop (fun(zz:Int×waA×waB)=>bQ hidden s t9 t10 zz.1 zz.2.1 zz.2.2) (t11,m2,m3)
theorem pq{y:(Int×waA×waB)⊕((waA×waB))}(h:bQ hidden s t9 t10 t11 m2 m3=some y):aU Pg GE 0 (cA qeC 119) (LQ (fun(zz:Int×waA×waB)=>ct hidden s t9 t10 m zz.1 zz.2.1 zz.2.2) (fun _=>.exit 0) (eS m) y) (ct hidden s t9 t10 m t11 m2 m3):=by
 rcases bj h with⟨c1,h⟩|⟨c1,h⟩
 ·obtain⟨x2,bx2,h⟩:=ay h
  obtain⟨o6,bo6,h⟩:=ay h
  have p8:=fun{sc F} (r:PS sc F)=>sg 0 c1<|sv (bp.ia (k:=.i64) bx2)<|sv (dH Ba (.str x2) [])<|kr 0<|cW (pZ hidden s t11 x2 t9 t10 m m2 m3 bo6)<|r
  rcases bj h with⟨c7,h⟩|⟨c7,h⟩
  ·obtain⟨l9,bl9,h⟩:=ay h
   obtain⟨x10,bx10,h⟩:=ay h
   obtain⟨l11,bl11,h⟩:=ay h
   obtain rfl:=lf h
   exact n9 qat (p8<|sg 0 c7<|sv (bp.mk' (v:=PVal.str) E8 ([x2]:List ag) 1 (by kernel_rfl))<|sv (bp.ap bl9)<|lY [0,1,0,4,0,28,60,124,255,511,1023]<|sv (f0 s)<|sv (gA s)<|sv (bL.ia (k:=.i64) bx10)<|sv (bh x10)<|sv (bL.mk' (v:=dW) cK ([x10]:List aa) 1 (by kernel_rfl))<|sv (bL.ap bl11)<|VP (rfl:bK (sl ac l11)=some [sl ac l11])<|eF .normal (ct hidden s t9 t10 m (aR (t11+1)) l9 l11))<|by kernel_rfl
  ·obtain rfl:=lf h
   exact n9 qat (p8<|sg 0 c7<|eF .normal (ct hidden s t9 t10 m (aR (t11+1)) m2 m3))<|by kernel_rfl
 ·obtain rfl:=lf h
  have z:=sg 0 c1<|eF (.exit 0) (eS m (m2,m3))
  exact f6 qat (by intro hx;cases hx) z<|by kernel_rfl
theorem qa{x:(waA×waB)}(h:fq hidden s t9 t10 t11 m2 m3=some x):aU Pg GE 0 (.loop (cA qeC 119)) (EX (.exit 0) (eS m x)) (ct hidden s t9 t10 m t11 m2 m3):=
 aU.loop (S:=fun(zz:Int×waA×waB)=>ct hidden s t9 t10 m zz.1 zz.2.1 zz.2.2) (ex:=(fun _=>.exit 0)) (s:=(t11,m2,m3)) h fun zz y hy=>pq hidden s t9 t10 m zz.1 zz.2.1 zz.2.2 hy
end
def ce(s:am)(hidden:waA):Option am:=
 (fq hidden s s.names (s.names.length:Int) 0 ([]:List ag) ([]:List aa)).bind fun o12=>
 some (⟨o12.1,o12.2⟩:am)
theorem ft{s:am}{hidden:waA}{r:am}(h:ce s hidden=some r):CC Pg GE 119 [.agg (az s),sl cS hidden] (.agg (az r)) [(0,9),(1,36)]:=by
 obtain⟨o12,bo12,h⟩:=ay h
 obtain rfl:=lf h
 have z:=se (dX s)<|sx TG<|sx TG<|sv (j9 s)<|sv (kL s)<|cm (bp.ln s.names)<|cW (qa hidden s s.names (s.names.length:Int) ([]:List aa) 0 ([]:List ag) ([]:List aa) bo12)<|sz (cQ (⟨o12.1,o12.2⟩:am) [])<|sy (da (⟨o12.1,o12.2⟩:am))<|en (aI (pr (⟨o12.1,o12.2⟩:am))<|aI (bG (⟨o12.1,o12.2⟩:am))<|rT)
 exact bN qat call119 func119 (c:=qeC) rfl (aI (bG s) (aI (aj dQ hidden) trivial)) z<|by kernel_rfl
abbrev bY:=(am->ae->Option ae)
abbrev cX(R:bY):Prop:=∀(s:am) (t:ae) (r:ae),R s t=some r->CC Pg GE 120 [.agg (az s),.agg (af t)] (.agg (af r)) [(2,38)]
abbrev pB:=(aa->waA->waB->Option aa)
abbrev uC(R:pB):Prop:=∀(p:aa) (a:waA) (a2:waB) (r:aa),R p a a2=some r->CC Pg GE 65 [.agg (ac p),sl cS a,sl ac a2] (.agg (ac r)) [(3,36)]
noncomputable def qlB:Code:=f92.body.getD .skip
def qll:List Nat:=[]
def Il(a:waA)(s:ag):Option Int:=
 (rQ a s).bind fun r1=>
 some r1
theorem SB{a:waA}{s:ag}{r:Int}(h:Il a s=some r):CC Pg GE 92 [sl cS a,.str s] (.int .i64 r) []:=by
 obtain⟨r1,br1,h⟩:=ay h
 obtain rfl:=lf h
 have z:=bz (C6 br1)<|en (aI (rP (.int .i64 r1))<|trivial)
 exact bN qll call92 func92 (c:=qlB) rfl (aI (aj dQ a) (aI trivial trivial)) z<|by kernel_rfl
abbrev tB:=(aa->Option aa)
abbrev zh(R:tB):Prop:=∀(p:aa) (r:aa),R p=some r->CC Pg GE 91 [.agg (ac p)] (.agg (ac r)) [(3,36)]
noncomputable def qj7:Code:=f91.body.getD .skip
def qjK:List Nat:=[21]
section
variable(R66:tB)(t14:waB)(t15:Int)(m:waB)(m2:Int)(m3:ag)(m4:Int)(t16:Int)(m5:waB)
def j1:aA:=be 29 [(2,.bptr 1 0),(3,.bptr 2 0),(14,sl ac t14),(15,.int .i64 t15),(16,.int .i64 t16)] [.dead,.cells [.int .i64 0,.str ([]:ag),.int .i64 0,sl ac m] [(3,36)],.cells [.int .i64 m2,.str m3,.int .i64 m4,sl ac m5] [(3,36)]] []
def tb(o:waB):aA:=be 29 [(2,.bptr 1 0),(3,.bptr 2 0)] [.dead,.cells [.int .i64 0,.str ([]:ag),.int .i64 0,sl ac m] [(3,36)],.cells [.int .i64 m2,.str m3,.int .i64 m4,sl ac o] [(3,36)]] []
def nF:Option ((Int×waB)⊕(waB)):=
 if(decide (t16<t15))=true then
  (cz t14 t16).bind fun x2=>
  (R66 x2).bind fun r3=>
  (app m5 ([r3]:List aa)).bind fun l4=>
  some (.inl (aR (t16+1),l4))
 else
  some (.inr m5)
def xV:Option waB:=loop (fun(zz:Int×waB)=>nF R66 t14 t15 zz.1 zz.2) (t16,m5)
theorem Iz(hR66:zh R66){y:(Int×waB)⊕(waB)}(h:nF R66 t14 t15 t16 m5=some y):aU Pg GE 0 (cA qj7 119) (LQ (fun(zz:Int×waB)=>j1 t14 t15 m m2 m3 m4 zz.1 zz.2) (fun _=>.exit 0) (tb m m2 m3 m4) y) (j1 t14 t15 m m2 m3 m4 t16 m5):=by
 rcases bj h with⟨c1,h⟩|⟨c1,h⟩
 ·obtain⟨x2,bx2,h⟩:=ay h
  obtain⟨r3,br3,h⟩:=ay h
  obtain⟨l4,bl4,h⟩:=ay h
  obtain rfl:=lf h
  have z:=sg 0 c1<|sv (bL.ia (k:=.i64) bx2)<|sv (bh x2)<|sx hO<|sx (cj x2)<|lY [0,1,0,4,12,31,63,127]<|sv (bT x2 [])<|bz (hR66 _ _ br3)<|sv (bL.mk' (v:=dW) cK ([r3]:List aa) 1 (by kernel_rfl))<|sv (bL.ap bl4)<|VP (rfl:bK (sl ac l4)=some [sl ac l4])<|uz 0 .normal (j1 t14 t15 m m2 m3 m4 (aR (t16+1)) l4) rfl (dC (aI (cV rfl) (aI (cV rfl) (aI (up (aj ah t14)) (aI trivial (aI trivial trivial)))))) (aI trivial (aI (aI trivial (aI trivial (aI trivial (aI (up (aj ah m)) trivial)))) (aI (aI trivial (aI trivial (aI trivial (aI (up (aj ah l4)) trivial)))) trivial)))
  exact df (A:=qjK) mixed z<|by kernel_rfl
 ·obtain rfl:=lf h
  have z:=sg 0 c1<|eF (.exit 0) (tb m m2 m3 m4 m5)
  exact f6 qjK (by intro hx;cases hx) z<|by kernel_rfl
theorem Kp(hR66:zh R66){x:waB}(h:xV R66 t14 t15 t16 m5=some x):aU Pg GE 0 (.loop (cA qj7 119)) (EX (.exit 0) (tb m m2 m3 m4 x)) (j1 t14 t15 m m2 m3 m4 t16 m5):=
 aU.loop (S:=fun(zz:Int×waB)=>j1 t14 t15 m m2 m3 m4 zz.1 zz.2) (ex:=(fun _=>.exit 0)) (s:=(t16,m5)) h fun zz y hy=>Iz R66 t14 t15 m m2 m3 m4 zz.1 zz.2 hR66 hy
end
def Aa(R66:tB)(p:aa):Option aa:=
 (xV R66 p.Kids (p.Kids.length:Int) 0 ([]:List aa)).bind fun o5=>
 some (⟨p.Op,p.Name,p.N,o5⟩:aa)
theorem NX(R66:tB)(hR66:zh R66){p:aa}{r:aa}(h:Aa R66 p=some r):CC Pg GE 91 [.agg (ac p)] (.agg (ac r)) [(3,36)]:=by
 obtain⟨o5,bo5,h⟩:=ay h
 obtain rfl:=lf h
 have z:=se (bS p)<|sx hO<|sv (bE p)<|sv (bF p)<|sv (cp p)<|sv (cO p)<|sv (dD p)<|sv (dU p)<|sb (EK p.Op p.Name p.N) (EI p.Op p.Name p.N)<|sx hO<|sy (aJ (⟨p.Op,p.Name,p.N,([]:List aa)⟩:aa))<|sv (bA p)<|sv (bC p)<|cm (bL.ln p.Kids)<|cW (Kp R66 p.Kids (p.Kids.length:Int) ([]:List aa) p.Op p.Name p.N 0 ([]:List aa) hR66 bo5)<|sz (bT (⟨p.Op,p.Name,p.N,o5⟩:aa) [])<|sy (aJ (⟨p.Op,p.Name,p.N,o5⟩:aa))<|en (aI (dj (⟨p.Op,p.Name,p.N,o5⟩:aa))<|aI (ah (⟨p.Op,p.Name,p.N,o5⟩:aa))<|rT)
 exact bN qjK call91 func91 (c:=qj7) rfl (aI (ah p) trivial) z<|by kernel_rfl
def tL:(aa->Option aa)->(aa)->Option aa:=fun(rec:aa->Option aa) (x:aa)=>Aa (fun p=>rec p) x
def qp(p:aa):Option aa:=kJ tL p
theorem rD{p:aa}{r:aa}(h:qp p=some r):CC Pg GE 91 [.agg (ac p)] (.agg (ac r)) [(3,36)]:=
 cy (F:=tL) (M:=fun(x:aa) (r:aa)=>CC Pg GE 91 [.agg (ac x)] (.agg (ac r)) [(3,36)]) (fun rec hrec x r h=>NX _ (fun p r h=>hrec p r h) h) h
noncomputable def qhp:Code:=f65.body.getD .skip
def qep:List Nat:=[46]
section
variable(v:waA)(v2:waB)(p:aa)(i:Int)(m:waB)
def Iy:aA:=be 56 [(1,sl cS v),(2,sl ac v2),(3,.eptr (ac p)),(6,.bptr 1 0),(7,.int .i64 i)] [.dead,.cells [.int .i64 0,.str ([]:ag),.int .i64 0,sl ac m] [(3,36)]] []
def pX(o:Bool):aA:=be 56 [(1,sl cS v),(2,sl ac v2),(3,.eptr (ac p)),(6,.bptr 1 0),(7,.int .i64 i),(25,.bool o)] [.dead,.cells [.int .i64 0,.str ([]:ag),.int .i64 0,sl ac m] [(3,36)]] []
def s9:Option Bool:=
 if(decide (i>=0))=true then
  some (decide (i<(v2.length:Int)))
 else
  some false
theorem GD{x:Bool}(h:s9 v2 i=some x):aU Pg GE 0 (cA qhp 106) (EX .normal (pX v v2 p i m x)) (Iy v v2 p i m):=by
 rcases bj h with⟨c4,h⟩|⟨c4,h⟩
 ·obtain rfl:=lf h
  exact cd qep (sg 3 c4<|cm (bL.ln v2)<|eF .normal (pX v v2 p i m (decide (i<(v2.length:Int)))))<|by kernel_rfl
 ·obtain rfl:=lf h
  exact cd qep (sg 3 c4<|eF .normal (pX v v2 p i m false))<|by kernel_rfl
end
section
variable(v:waA)(v2:waB)(p:aa)(m:waB)
def Ix:aA:=be 56 [(1,sl cS v),(2,sl ac v2),(3,.eptr (ac p)),(6,.bptr 1 0)] [.dead,.cells [.int .i64 0,.str ([]:ag),.int .i64 0,sl ac m] [(3,36)]] []
def kp(o:(Int×ag×Int×waB)⊕(Unit)):Exit:=match o with
 |(.inl _)=>.ret
 |(.inr _)=>.normal
def fK(o:(Int×ag×Int×waB)⊕(Unit)):aA:=match o with
 |(.inl o)=>be 56 [(6,.bptr 1 0)] [.dead,.cells [.int .i64 o.1,.str o.2.1,.int .i64 o.2.2.1,sl ac o.2.2.2] [(3,36)]] []
 |(.inr o)=>be 56 [(1,sl cS v),(2,sl ac v2),(3,.eptr (ac p)),(6,.bptr 1 0)] [.dead,.cells [.int .i64 0,.str ([]:ag),.int .i64 0,sl ac m] [(3,36)]] []
def nD:Option ((Int×ag×Int×waB)⊕(Unit)):=
 if(p.Op==3)=true then
  (Il v p.Name).bind fun r3=>
  (s9 v2 r3).bind fun o5=>
  if o5=true then
   (cz v2 r3).bind fun x8=>
   (qp x8).bind fun r9=>
   some (.inl (r9.Op,r9.Name,r9.N,r9.Kids))
  else
   some (.inr ())
 else
  some (.inr ())
theorem vA{x:(Int×ag×Int×waB)⊕(Unit)}(h:nD v v2 p=some x):aU Pg GE 0 (cA qhp 6) (EX (kp x) (fK v v2 p m x)) (Ix v v2 p m):=by
 have p2:=fun{sc F} (r:PS sc F)=>sv (bE p)<|sv (bF p)<|r
 rcases bj h with⟨c1,h⟩|⟨c1,h⟩
 ·obtain⟨r3,br3,h⟩:=ay h
  obtain⟨o5,bo5,h⟩:=ay h
  have p7:=fun{sc F} (r:PS sc F)=>p2<|sg 0 c1<|sv (cp p)<|sv (cO p)<|bz (SB br3)<|kr 0<|cW (GD v v2 p r3 m bo5)<|r
  rcases bj h with⟨c6,h⟩|⟨c6,h⟩
  ·obtain⟨x8,bx8,h⟩:=ay h
   obtain⟨r9,br9,h⟩:=ay h
   obtain rfl:=lf h
   exact cd qep (p7<|sg 0 c6<|sv (bL.ia (k:=.i64) bx8)<|sv (bh x8)<|bz (rD br9)<|sy (aJ r9)<|eF (kp (.inl (r9.Op,r9.Name,r9.N,r9.Kids))) (fK v v2 p m (.inl (r9.Op,r9.Name,r9.N,r9.Kids))))<|by kernel_rfl
  ·obtain rfl:=lf h
   exact cd qep (p7<|sg 0 c6<|eF (kp (.inr ())) (fK v v2 p m (.inr ())))<|by kernel_rfl
 ·obtain rfl:=lf h
  exact cd qep (p2<|sg 0 c1<|eF (kp (.inr ())) (fK v v2 p m (.inr ())))<|by kernel_rfl
end
section
variable(R64:pB)(v:waA)(v2:waB)(t39:waB)(t40:Int)(m:waB)(m2:Int)(m3:ag)(m4:Int)(t41:Int)(m5:waB)
def ip:aA:=be 56 [(1,sl cS v),(2,sl ac v2),(6,.bptr 1 0),(8,.bptr 2 0),(39,sl ac t39),(40,.int .i64 t40),(41,.int .i64 t41)] [.dead,.cells [.int .i64 0,.str ([]:ag),.int .i64 0,sl ac m] [(3,36)],.cells [.int .i64 m2,.str m3,.int .i64 m4,sl ac m5] [(3,36)]] []
def pY(o:waB):aA:=be 56 [(6,.bptr 1 0),(8,.bptr 2 0)] [.dead,.cells [.int .i64 0,.str ([]:ag),.int .i64 0,sl ac m] [(3,36)],.cells [.int .i64 m2,.str m3,.int .i64 m4,sl ac o] [(3,36)]] []
def xU:Option ((Int×waB)⊕(waB)):=
 if(decide (t41<t40))=true then
  (cz t39 t41).bind fun x12=>
  (R64 x12 v v2).bind fun r13=>
  (app m5 ([r13]:List aa)).bind fun l14=>
  some (.inl (aR (t41+1),l14))
 else
  some (.inr m5)
def ta:Option waB:=loop (fun(zz:Int×waB)=>xU R64 v v2 t39 t40 zz.1 zz.2) (t41,m5)
theorem Fj(hR64:uC R64){y:(Int×waB)⊕(waB)}(h:xU R64 v v2 t39 t40 t41 m5=some y):aU Pg GE 0 (cA qhp 247) (LQ (fun(zz:Int×waB)=>ip v v2 t39 t40 m m2 m3 m4 zz.1 zz.2) (fun _=>.exit 0) (pY m m2 m3 m4) y) (ip v v2 t39 t40 m m2 m3 m4 t41 m5):=by
 rcases bj h with⟨c11,h⟩|⟨c11,h⟩
 ·obtain⟨x12,bx12,h⟩:=ay h
  obtain⟨r13,br13,h⟩:=ay h
  obtain⟨l14,bl14,h⟩:=ay h
  obtain rfl:=lf h
  have z:=sg 0 c11<|sv (bL.ia (k:=.i64) bx12)<|sv (bh x12)<|sx hO<|sx (cj x12)<|lY [0,1,0,0,0,28,60,127,255,511]<|sv (bT x12 [])<|bz (hR64 _ _ _ _ br13)<|sv (bL.mk' (v:=dW) cK ([r13]:List aa) 1 (by kernel_rfl))<|sv (bL.ap bl14)<|VP (rfl:bK (sl ac l14)=some [sl ac l14])<|uz 0 .normal (ip v v2 t39 t40 m m2 m3 m4 (aR (t41+1)) l14) rfl (dC (aI (up (aj dQ v)) (aI (up (aj ah v2)) (aI (cV rfl) (aI (cV rfl) (aI (up (aj ah t39)) (aI trivial (aI trivial trivial)))))))) (aI trivial (aI (aI trivial (aI trivial (aI trivial (aI (up (aj ah m)) trivial)))) (aI (aI trivial (aI trivial (aI trivial (aI (up (aj ah l14)) trivial)))) trivial)))
  exact df (A:=qep) mixed z<|by kernel_rfl
 ·obtain rfl:=lf h
  have z:=sg 0 c11<|eF (.exit 0) (pY m m2 m3 m4 m5)
  exact f6 qep (by intro hx;cases hx) z<|by kernel_rfl
theorem GF(hR64:uC R64){x:waB}(h:ta R64 v v2 t39 t40 t41 m5=some x):aU Pg GE 0 (.loop (cA qhp 247)) (EX (.exit 0) (pY m m2 m3 m4 x)) (ip v v2 t39 t40 m m2 m3 m4 t41 m5):=
 aU.loop (S:=fun(zz:Int×waB)=>ip v v2 t39 t40 m m2 m3 m4 zz.1 zz.2) (ex:=(fun _=>.exit 0)) (s:=(t41,m5)) h fun zz y hy=>Fj R64 v v2 t39 t40 m m2 m3 m4 zz.1 zz.2 hR64 hy
end
def pJ(R64:pB)(p:aa)(a:waA)(a2:waB):Option aa:=
 (nD a a2 p).bind fun o10=>match o10 with
 |(.inl o10)=>
  some (⟨o10.1,o10.2.1,o10.2.2.1,o10.2.2.2⟩:aa)
 |(.inr o10)=>
  (ta R64 a a2 p.Kids (p.Kids.length:Int) 0 ([]:List aa)).bind fun o15=>
  some (⟨p.Op,p.Name,p.N,o15⟩:aa)
theorem Ko(R64:pB)(hR64:uC R64){p:aa}{a:waA}{a2:waB}{r:aa}(h:pJ R64 p a a2=some r):CC Pg GE 65 [.agg (ac p),sl cS a,sl ac a2] (.agg (ac r)) [(3,36)]:=by
 obtain⟨o10,bo10,h⟩:=ay h
 rcases o10 with o10|o10
 ·obtain rfl:=lf h
  have z:=se (bS p)<|sx hO<|kr 0<|cW (e:=.ret) (s1:=fK a a2 p ([]:List aa) (.inl o10)) (vA a a2 p ([]:List aa) bo10)<|en (aI (dj (⟨o10.1,o10.2.1,o10.2.2.1,o10.2.2.2⟩:aa))<|aI (ah (⟨o10.1,o10.2.1,o10.2.2.1,o10.2.2.2⟩:aa))<|rT)
  exact bN qep call65 func65 (c:=qhp) rfl (aI (ah p) (aI (aj dQ a) (aI (aj ah a2) trivial))) z<|by kernel_rfl
 ·obtain⟨o15,bo15,h⟩:=ay h
  obtain rfl:=lf h
  have z:=se (bS p)<|sx hO<|kr 0<|cW (e:=.normal) (s1:=fK a a2 p ([]:List aa) (.inr o10)) (vA a a2 p ([]:List aa) bo10)<|sv (bE p)<|sv (bF p)<|sv (cp p)<|sv (cO p)<|sv (dD p)<|sv (dU p)<|sb (EK p.Op p.Name p.N) (EI p.Op p.Name p.N)<|sx hO<|sy (aJ (⟨p.Op,p.Name,p.N,([]:List aa)⟩:aa))<|sv (bA p)<|sv (bC p)<|cm (bL.ln p.Kids)<|cW (GF R64 a a2 p.Kids (p.Kids.length:Int) ([]:List aa) p.Op p.Name p.N 0 ([]:List aa) hR64 bo15)<|sz (bT (⟨p.Op,p.Name,p.N,o15⟩:aa) [])<|sy (aJ (⟨p.Op,p.Name,p.N,o15⟩:aa))<|en (aI (dj (⟨p.Op,p.Name,p.N,o15⟩:aa))<|aI (ah (⟨p.Op,p.Name,p.N,o15⟩:aa))<|rT)
  exact bN qep call65 func65 (c:=qhp) rfl (aI (ah p) (aI (aj dQ a) (aI (aj ah a2) trivial))) z<|by kernel_rfl
def u3:((aa×waA×waB)->Option aa)->(aa×waA×waB)->Option aa:=fun(rec:(aa×waA×waB)->Option aa) (x:aa×waA×waB)=>pJ (fun p a a2=>rec (p,a,a2)) x.1 x.2.1 x.2.2
def lH(p:aa)(a:waA)(a2:waB):Option aa:=kJ u3 (p,a,a2)
theorem nE{p:aa}{a:waA}{a2:waB}{r:aa}(h:lH p a a2=some r):CC Pg GE 65 [.agg (ac p),sl cS a,sl ac a2] (.agg (ac r)) [(3,36)]:=
 cy (F:=u3) (M:=fun(x:aa×waA×waB) (r:aa)=>CC Pg GE 65 [.agg (ac x.1),sl cS x.2.1,sl ac x.2.2] (.agg (ac r)) [(3,36)]) (fun rec hrec x r h=>Ko _ (fun p a a2 r h=>hrec (p,a,a2) r h) h) h
noncomputable def qjT:Code:=f139.body.getD .skip
def qjB:List Nat:=[]
def dg(s:am)(p:aa):Option aa:=
 (lH p s.names s.by_).bind fun r1=>
 some r1
theorem gC{s:am}{p:aa}{r:aa}(h:dg s p=some r):CC Pg GE 139 [.agg (az s),.agg (ac p)] (.agg (ac r)) [(3,36)]:=by
 obtain⟨r1,br1,h⟩:=ay h
 obtain rfl:=lf h
 have z:=se (dX s)<|se (bS p)<|sx hO<|sv (bh p)<|sv (j9 s)<|sv (kL s)<|sv (f0 s)<|sv (gA s)<|bz (nE br1)<|sy (aJ r1)<|en (aI (dj r1)<|aI (ah r1)<|rT)
 exact bN qjB call139 func139 (c:=qjT) rfl (aI (bG s) (aI (ah p) trivial)) z<|by kernel_rfl
noncomputable def qgv:Code:=f140.body.getD .skip
def qgd:List Nat:=[14,21]
section
variable(v:am)(t8:waB)(t9:Int)(out:waB)(t10:Int)
def gN:aA:=be 22 [(1,.func (.func 139) [.agg (az v)] []),(5,sl ac out),(8,sl ac t8),(9,.int .i64 t9),(10,.int .i64 t10)] [] [((5,0),36)]
def nZ(o:waB):aA:=be 22 [(5,sl ac o)] [] [((5,0),36)]
def vB:Option ((waB×Int)⊕(waB)):=
 if(decide (t10<t9))=true then
  (cz t8 t10).bind fun x2=>
  (dg v x2).bind fun r3=>
  (app out ([r3]:List aa)).bind fun l4=>
  some (.inl (l4,aR (t10+1)))
 else
  some (.inr out)
def rJ:Option waB:=loop (fun(zz:waB×Int)=>vB v t8 t9 zz.1 zz.2) (out,t10)
theorem Dp{y:(waB×Int)⊕(waB)}(h:vB v t8 t9 out t10=some y):aU Pg GE 0 (cA qgv 119) (LQ (fun(zz:waB×Int)=>gN v t8 t9 zz.1 zz.2) (fun _=>.exit 0) nZ y) (gN v t8 t9 out t10):=by
 rcases bj h with⟨c1,h⟩|⟨c1,h⟩
 ·obtain⟨x2,bx2,h⟩:=ay h
  obtain⟨r3,br3,h⟩:=ay h
  obtain⟨l4,bl4,h⟩:=ay h
  obtain rfl:=lf h
  have z:=sg 0 c1<|sv (bL.ia (k:=.i64) bx2)<|sv (bh x2)<|sx hO<|sx (cj x2)<|sv (bT x2 [])<|bz (gC br3)<|sv (bL.mk' (v:=dW) cK ([r3]:List aa) 1 (by kernel_rfl))<|sv (bL.ap bl4)<|uz 0 .normal (gN v t8 t9 l4 (aR (t10+1))) rfl (dC (aI (aI (aI (up (bG v)) trivial) trivial) (aI (up (aj ah l4)) (aI (up (aj ah t8)) (aI trivial (aI trivial trivial)))))) trivial
  exact df (A:=qgd) mixed z<|by kernel_rfl
 ·obtain rfl:=lf h
  have z:=sg 0 c1<|eF (.exit 0) (nZ out)
  exact f6 qgd (by intro hx;cases hx) z<|by kernel_rfl
theorem Fo{x:waB}(h:rJ v t8 t9 out t10=some x):aU Pg GE 0 (.loop (cA qgv 119)) (EX (.exit 0) (nZ x)) (gN v t8 t9 out t10):=
 aU.loop (S:=fun(zz:waB×Int)=>gN v t8 t9 zz.1 zz.2) (ex:=(fun _=>.exit 0)) (s:=(out,t10)) h fun zz y hy=>Dp v t8 t9 zz.1 zz.2 hy
end
def mU(a:waB)(c:am):Option waB:=
 (rJ c a (a.length:Int) ([]:List aa) 0).bind fun o5=>
 some o5
theorem zb{a:waB}{c:am}{r:waB}(h:mU a c=some r):CC Pg GE 140 [sl ac a,.func (.func 139) [.agg (az c)] []] (sl ac r) [(0,36)]:=by
 obtain⟨o5,bo5,h⟩:=ay h
 obtain rfl:=lf h
 have z:=cm (bL.ln a)<|cW (Fo c a (a.length:Int) ([]:List aa) 0 bo5)<|en (aI (rP (sl ac o5))<|(aj ah o5))
 exact bN qgd call140 func140 (c:=qgv) rfl (aI (aj ah a) (aI (aI (aI (bG c) trivial) trivial) trivial)) z<|by kernel_rfl
noncomputable def qgy:Code:=f151.body.getD .skip
def qgf:List Nat:=[13,18]
section
variable(t7:waB)(t8:Int)(out:waA)(t9:Int)
def dA:aA:=be 19 [(3,sl cS out),(7,sl ac t7),(8,.int .i64 t8),(9,.int .i64 t9)] [.dead] [((3,0),9)]
def fM(o:waA):aA:=be 19 [(3,sl cS o)] [.dead] [((3,0),9)]
def fL:Option ((waA×Int)⊕(waA)):=
 if(decide (t9<t8))=true then
  (cz t7 t9).bind fun x2=>
  (sZ x2).bind fun r3=>
  (app out r3).bind fun l4=>
  some (.inl (l4,aR (t9+1)))
 else
  some (.inr out)
def gB:Option waA:=loop (fun(zz:waA×Int)=>fL t7 t8 zz.1 zz.2) (out,t9)
theorem rK{y:(waA×Int)⊕(waA)}(h:fL t7 t8 out t9=some y):aU Pg GE 0 (cA qgy 119) (LQ (fun(zz:waA×Int)=>dA t7 t8 zz.1 zz.2) (fun _=>.exit 0) fM y) (dA t7 t8 out t9):=by
 rcases bj h with⟨c1,h⟩|⟨c1,h⟩
 ·obtain⟨x2,bx2,h⟩:=ay h
  obtain⟨r3,br3,h⟩:=ay h
  obtain⟨l4,bl4,h⟩:=ay h
  obtain rfl:=lf h
  have z:=sg 0 c1<|sv (bL.ia (k:=.i64) bx2)<|sv (bh x2)<|sx hO<|sx (cj x2)<|sv (bT x2 [])<|bz (Kl br3)<|sv (bp.ap bl4)<|uz 0 .normal (dA t7 t8 l4 (aR (t9+1))) rfl (dC (aI (up (aj dQ l4)) (aI (up (aj ah t7)) (aI trivial (aI trivial trivial))))) (aI trivial trivial)
  exact df (A:=qgf) mixed z<|by kernel_rfl
 ·obtain rfl:=lf h
  have z:=sg 0 c1<|eF (.exit 0) (fM out)
  exact f6 qgf (by intro hx;cases hx) z<|by kernel_rfl
theorem sa{x:waA}(h:gB t7 t8 out t9=some x):aU Pg GE 0 (.loop (cA qgy 119)) (EX (.exit 0) (fM x)) (dA t7 t8 out t9):=
 aU.loop (S:=fun(zz:waA×Int)=>dA t7 t8 zz.1 zz.2) (ex:=(fun _=>.exit 0)) (s:=(out,t9)) h fun zz y hy=>rK t7 t8 zz.1 zz.2 hy
end
def eg(s:am):Option waA:=
 (gB s.by_ (s.by_.length:Int) ([]:List ag) 0).bind fun o5=>
 some o5
theorem kW{s:am}{r:waA}(h:eg s=some r):CC Pg GE 151 [.agg (az s)] (sl cS r) [(0,9)]:=by
 obtain⟨o5,bo5,h⟩:=ay h
 obtain rfl:=lf h
 have z:=se (dX s)<|sv (f0 s)<|sv (gA s)<|cm (bL.ln s.by_)<|cW (sa s.by_ (s.by_.length:Int) ([]:List ag) 0 bo5)<|en (aI (rP (sl cS o5))<|(aj dQ o5))
 exact bN qgf call151 func151 (c:=qgy) rfl (aI (bG s) trivial) z<|by kernel_rfl
abbrev qZ:=(ae->Option waA)
abbrev wx(R:qZ):Prop:=∀(t:ae) (r:waA),R t=some r->CC Pg GE 152 [.agg (af t)] (sl cS r) [(0,9)]
noncomputable def qh6:Code:=f157.body.getD .skip
def qhF:List Nat:=[]
def mT(t:ae)(i:Int):Option waA:=
 if(t.Op !=6)=true then
  some ([]:List ag)
 else
  (N2 t.Names none (some (if(t.Names.length:Int)<i then(t.Names.length:Int)else i))).bind fun l3=>
  some l3
theorem Kv{t:ae}{i:Int}{r:waA}(h:mT t i=some r):CC Pg GE 157 [.agg (af t),.int .i64 i] (sl cS r) []:=by
 have p2:=fun{sc F} (r:PS sc F)=>se (bD t)<|sv (aC t)<|sv (aD t)<|r
 rcases bj h with⟨c1,h⟩|⟨c1,h⟩
 ·obtain rfl:=lf h
  have z:=p2<|sg 0 c1<|en (aI (rP (sl cS ([]:List ag)))<|(aj dQ ([]:List ag)))
  exact bN qhF call157 func157 (c:=qh6) rfl (aI (ak t) (aI trivial trivial)) z<|by kernel_rfl
 ·obtain⟨l3,bl3,h⟩:=ay h
  obtain rfl:=lf h
  have z:=p2<|sg 0 c1<|sv (aO t)<|sv (aP t)<|sv (aO t)<|sv (aP t)<|cm (bp.ln t.Names)<|sv (bp.sc bl3)<|en (aI (rP (sl cS l3))<|(aj dQ l3))
  exact bN qhF call157 func157 (c:=qh6) rfl (aI (ak t) (aI trivial trivial)) z<|by kernel_rfl
end Go.Proofs.YtbaamopmfmpfaaaGreatDoor
