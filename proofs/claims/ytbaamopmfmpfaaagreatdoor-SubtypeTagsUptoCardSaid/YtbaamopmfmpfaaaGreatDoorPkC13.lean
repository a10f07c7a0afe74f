/- PROVED: a part of the proof. Conditions: none. -/
import Derived.Test.YtbaamopmfmpfaaaGreatDoorPkC12
noncomputable section
namespace Go.Proofs.YtbaamopmfmpfaaaGreatDoor
open Go Go.Proofs.Tryz
set_option linter.unusedVariables false
set_option maxRecDepth 100000
noncomputable def Zw:Code:=f106.body.getD .skip
def Zi:List Nat:=[]
section
variable(R38:uK)(t7:waB)(t8:Int)(n:Int)(t9:Int)
def kl:az:=aY 20 [(3,.int .i64 n),(7,sl ac t7),(8,.int .i64 t8),(9,.int .i64 t9)] [.dead] []
def s9(o:Int):az:=aY 20 [(3,.int .i64 o)] [.dead] []
def zN:Option ((Int×Int)⊕(Int)):=
 if(decide (t9<t8))=true then
  (cR t7 t9).bind fun x2=>
  (R38 x2).bind fun r3=>
  some (.inl ((if r3>n then r3 else n),aR (t9+1)))
 else
  some (.inr n)
def xF:Option Int:=loop (fun(zz:Int×Int)=>zN R38 t7 t8 zz.1 zz.2) (n,t9)
theorem FJ(hR38:zw R38){y:(Int×Int)⊕(Int)}(h:zN R38 t7 t8 n t9=some y):aT Pg GE 0 (cA Zw 119) (LQ (fun(zz:Int×Int)=>kl t7 t8 zz.1 zz.2) (fun _=>.exit 0) s9 y) (kl t7 t8 n t9):=by
 rcases aZ h with⟨c1,h⟩|⟨c1,h⟩
 ·obtain⟨x2,bx2,h⟩:=aB h
  obtain⟨r3,br3,h⟩:=aB h
  obtain rfl:=lf h
  have z:=sg 0 c1<|sv (ck.ia (k:=.i64) bx2)<|sv (be x2)<|sx lC<|sx (dn x2)<|sv (cm x2 [])<|bT (hR38 _ _ br3)<|zn 0 .normal (kl t7 t8 (if r3>n then r3 else n) (aR (t9+1))) rfl (eg (aI trivial (aI (up (aq ah t7)) (aI trivial (aI trivial trivial))))) (aI trivial trivial)
  exact dS (A:=Zi) mixed z<|by kernel_rfl
 ·obtain rfl:=lf h
  have z:=sg 0 c1<|eF (.exit 0) (s9 n)
  exact i7 Zi (by intro hx;cases hx) z<|by kernel_rfl
theorem HG(hR38:zw R38){x:Int}(h:xF R38 t7 t8 n t9=some x):aT Pg GE 0 (.loop (cA Zw 119)) (EX (.exit 0) (s9 x)) (kl t7 t8 n t9):=
 aT.loop (S:=fun(zz:Int×Int)=>kl t7 t8 zz.1 zz.2) (ex:=(fun _=>.exit 0)) (s:=(n,t9)) h fun zz y hy=>FJ R38 t7 t8 zz.1 zz.2 hR38 hy
end
def uA(R38:uK)(p:aa):Option Int:=
 (xF R38 p.Kids (p.Kids.length:Int) 0 0).bind fun o4=>
 some (aR (o4+1))
theorem Lj(R38:uK)(hR38:zw R38){p:aa}{r:Int}(h:uA R38 p=some r):CC Pg GE 106 [.agg (ac p)] (.int .i64 r) []:=by
 obtain⟨o4,bo4,h⟩:=aB h
 obtain rfl:=lf h
 have z:=se (cr p)<|sv (bq p)<|sv (bu p)<|cz (ck.ln p.Kids)<|di (HG R38 p.Kids (p.Kids.length:Int) 0 0 hR38 bo4)<|en (aI (rP (.int .i64 (aR (o4+1))))<|trivial)
 exact cn Zi call106 func106 (c:=Zw) rfl (aI (ah p) trivial) z<|by kernel_rfl
def zM:(aa->Option Int)->(aa)->Option Int:=fun(rec:aa->Option Int) (x:aa)=>uA (fun p=>rec p) x
def FI(p:aa):Option Int:=oG zM p
theorem NI{p:aa}{r:Int}(h:FI p=some r):CC Pg GE 106 [.agg (ac p)] (.int .i64 r) []:=
 cU (F:=zM) (M:=fun(x:aa) (r:Int)=>CC Pg GE 106 [.agg (ac x)] (.int .i64 r) []) (fun rec hrec x r h=>Lj _ (fun p r h=>hrec p r h) h) h
abbrev ya:=(aa->Option Int)
abbrev C0(R:ya):Prop:=∀(p:aa) (r:Int),R p=some r->CC Pg GE 107 [.agg (ac p)] (.int .i64 r) []
noncomputable def Zy:Code:=f129.body.getD .skip
def Zj:List Nat:=[]
def Bz(op:Int):Option Bool:=
 if(op==3)=true then
  some true
 else
  if(op==4)=true then
   some true
  else
   some (op==5)
theorem NM{op:Int}{r:Bool}(h:Bz op=some r):CC Pg GE 129 [.int .i64 op] (.bool r) []:=by
 rcases aZ h with⟨c1,h⟩|⟨c1,h⟩
 ·obtain rfl:=lf h
  have z:=sg 3 c1<|en (aI (rP (.bool true))<|trivial)
  exact cn Zj call129 func129 (c:=Zy) rfl (aI trivial trivial) z<|by kernel_rfl
 ·rcases aZ h with⟨c2,h⟩|⟨c2,h⟩
  ·obtain rfl:=lf h
   have z:=sg 3 c1<|sg 7 c2<|en (aI (rP (.bool true))<|trivial)
   exact cn Zj call129 func129 (c:=Zy) rfl (aI trivial trivial) z<|by kernel_rfl
  ·obtain rfl:=lf h
   have z:=sg 3 c1<|sg 7 c2<|en (aI (rP (.bool (op==5)))<|trivial)
   exact cn Zj call129 func129 (c:=Zy) rfl (aI trivial trivial) z<|by kernel_rfl
noncomputable def PM:Code:=f130.body.getD .skip
def Hv:List Nat:=[]
section
variable(n:Int)(t5:Int)
def Ln:az:=aY 28 [(1,.int .i64 n),(5,.int .i64 t5)] [] []
def qd(o:Bool):az:=aY 28 [(1,.int .i64 n),(5,.int .i64 t5),(6,.bool o)] [] []
def uC:Option Bool:=
 if(t5==1)=true then
  some (t5==1)
 else
  if(t5==2)=true then
   some (t5==2)
  else
   some (t5==3)
theorem Je{x:Bool}(h:uC t5=some x):aT Pg GE 0 (cA PM 54) (EX .normal (qd n t5 x)) (Ln n t5):=by
 rcases aZ h with⟨c1,h⟩|⟨c1,h⟩
 ·obtain rfl:=lf h
  exact cw Hv (sg 0 c1<|eF .normal (qd n t5 (t5==1)))<|by kernel_rfl
 ·rcases aZ h with⟨c2,h⟩|⟨c2,h⟩
  ·obtain rfl:=lf h
   exact cw Hv (sg 0 c1<|sg 0 c2<|eF .normal (qd n t5 (t5==2)))<|by kernel_rfl
  ·obtain rfl:=lf h
   exact cw Hv (sg 0 c1<|sg 0 c2<|eF .normal (qd n t5 (t5==3)))<|by kernel_rfl
end
section
variable(n:Int)(t5:Int)
def Lo:az:=aY 28 [(1,.int .i64 n),(5,.int .i64 t5)] [] []
def vD(o:Bool):az:=aY 28 [(1,.int .i64 n),(5,.int .i64 t5),(12,.bool o)] [] []
def uD:Option Bool:=
 if(t5==4)=true then
  some (t5==4)
 else
  some (t5==5)
theorem Jf{x:Bool}(h:uD t5=some x):aT Pg GE 0 (cA PM 222) (EX .normal (vD n t5 x)) (Lo n t5):=by
 rcases aZ h with⟨c6,h⟩|⟨c6,h⟩
 ·obtain rfl:=lf h
  exact cw Hv (sg 0 c6<|eF .normal (vD n t5 (t5==4)))<|by kernel_rfl
 ·obtain rfl:=lf h
  exact cw Hv (sg 0 c6<|eF .normal (vD n t5 (t5==5)))<|by kernel_rfl
end
section
variable(n:Int)(t5:Int)
def Lp:az:=aY 28 [(1,.int .i64 n),(5,.int .i64 t5)] [] []
def vF(o:Bool):az:=aY 28 [(1,.int .i64 n),(21,.bool o)] [] []
def uE:Option Bool:=
 if(t5==9)=true then
  some (t5==9)
 else
  some (t5==14)
theorem Jg{x:Bool}(h:uE t5=some x):aT Pg GE 0 (cA PM 894) (EX .normal (vF n x)) (Lp n t5):=by
 rcases aZ h with⟨c12,h⟩|⟨c12,h⟩
 ·obtain rfl:=lf h
  exact cw Hv (sg 0 c12<|eF .normal (vF n (t5==9)))<|by kernel_rfl
 ·obtain rfl:=lf h
  exact cw Hv (sg 0 c12<|eF .normal (vF n (t5==14)))<|by kernel_rfl
end
def od(op:Int)(n:Int):Option Bool:=
 (uC op).bind fun o3=>
 if o3=true then
  some (n==0)
 else
  (uD op).bind fun o7=>
  if o7=true then
   if(decide (n>=1))=true then
    some (decide (n<=24))
   else
    some false
  else
   (uE op).bind fun o13=>
   if o13=true then
    some (n==1)
   else
    some (n==2)
theorem uF{op:Int}{n:Int}{r:Bool}(h:od op n=some r):CC Pg GE 130 [.int .i64 op,.int .i64 n] (.bool r) []:=by
 obtain⟨o3,bo3,h⟩:=aB h
 have p5:=fun{sc F} (r:PS sc F)=>nD 3<|di (Je n op bo3)<|r
 rcases aZ h with⟨c4,h⟩|⟨c4,h⟩
 ·obtain rfl:=lf h
  have z:=p5<|sg 0 c4<|en (aI (rP (.bool (n==0)))<|trivial)
  exact cn Hv call130 func130 (c:=PM) rfl (aI trivial (aI trivial trivial)) z<|by kernel_rfl
 ·obtain⟨o7,bo7,h⟩:=aB h
  have p9:=fun{sc F} (r:PS sc F)=>p5<|sg 0 c4<|nD 0<|di (Jf n op bo7)<|r
  rcases aZ h with⟨c8,h⟩|⟨c8,h⟩
  ·have p11:=fun{sc F} (r:PS sc F)=>p9<|sg 0 c8<|r
   rcases aZ h with⟨c10,h⟩|⟨c10,h⟩
   ·obtain rfl:=lf h
    have z:=p11<|sg 3 c10<|en (aI (rP (.bool (decide (n<=24))))<|trivial)
    exact cn Hv call130 func130 (c:=PM) rfl (aI trivial (aI trivial trivial)) z<|by kernel_rfl
   ·obtain rfl:=lf h
    have z:=p11<|sg 3 c10<|en (aI (rP (.bool false))<|trivial)
    exact cn Hv call130 func130 (c:=PM) rfl (aI trivial (aI trivial trivial)) z<|by kernel_rfl
  ·obtain⟨o13,bo13,h⟩:=aB h
   have p15:=fun{sc F} (r:PS sc F)=>p9<|sg 0 c8<|nD 0<|di (Jg n op bo13)<|r
   rcases aZ h with⟨c14,h⟩|⟨c14,h⟩
   ·obtain rfl:=lf h
    have z:=p15<|sg 0 c14<|en (aI (rP (.bool (n==1)))<|trivial)
    exact cn Hv call130 func130 (c:=PM) rfl (aI trivial (aI trivial trivial)) z<|by kernel_rfl
   ·obtain rfl:=lf h
    have z:=p15<|sg 0 c14<|en (aI (rP (.bool (n==2)))<|trivial)
    exact cn Hv call130 func130 (c:=PM) rfl (aI trivial (aI trivial trivial)) z<|by kernel_rfl
noncomputable def qaX:Code:=f131.body.getD .skip
def qay:List Nat:=[]
def NE(n:Int):Option Bool:=
 if(decide (n>=(-1000000000000)))=true then
  some (decide (n<=1000000000000))
 else
  some false
theorem TP{n:Int}{r:Bool}(h:NE n=some r):CC Pg GE 131 [.int .i64 n] (.bool r) []:=by
 rcases aZ h with⟨c1,h⟩|⟨c1,h⟩
 ·obtain rfl:=lf h
  have z:=sg 3 c1<|en (aI (rP (.bool (decide (n<=1000000000000))))<|trivial)
  exact cn qay call131 func131 (c:=qaX) rfl (aI trivial trivial) z<|by kernel_rfl
 ·obtain rfl:=lf h
  have z:=sg 3 c1<|en (aI (rP (.bool false))<|trivial)
  exact cn qay call131 func131 (c:=qaX) rfl (aI trivial trivial) z<|by kernel_rfl
noncomputable def Rm:Code:=f132.body.getD .skip
def Rd:List Nat:=[]
def xI(p:aa):Option Bool:=
 if(p.Op==3)=true then
  if(p.Name==([118]:ag))=true then
   some true
  else
   (qD p.Name).bind fun r5=>
   some (r5==0)
 else
  if (p.Op == 4) = true then
   if(p.Name==([116,97,103]:ag))=true then
    some true
   else
    if(p.Name==([118,97,108]:ag))=true then
     some true
    else
     (qD p.Name).bind fun r12=>
     some (r12==0)
  else
   if(p.Op==5)=true then
    (qD p.Name).bind fun r15=>
    some (r15==0)
   else
    some true
theorem Lm{p:aa}{r:Bool}(h:xI p=some r):CC Pg GE 132 [.agg (ac p)] (.bool r) []:=by
 have p2:=fun{sc F} (r:PS sc F)=>se (cr p)<|sv (bC p)<|sv (bD p)<|r
 rcases aZ h with⟨c1,h⟩|⟨c1,h⟩
 ·have p4:=fun{sc F} (r:PS sc F)=>p2<|sg 0 c1<|sv (cC p)<|sv (cN p)<|r
  rcases aZ h with⟨c3,h⟩|⟨c3,h⟩
  ·obtain rfl:=lf h
   have z:=p4<|sg 4 c3<|en (aI (rP (.bool true))<|trivial)
   exact cn Rd call132 func132 (c:=Rm) rfl (aI (ah p) trivial) z<|by kernel_rfl
  ·obtain⟨r5,br5,h⟩:=aB h
   obtain rfl:=lf h
   have z:=p4<|sg 4 c3<|sv (cC p)<|sv (cN p)<|bT (qE br5)<|en (aI (rP (.bool (r5==0)))<|trivial)
   exact cn Rd call132 func132 (c:=Rm) rfl (aI (ah p) trivial) z<|by kernel_rfl
 ·have p7:=fun{sc F} (r:PS sc F)=>p2<|sg 0 c1<|r
  rcases aZ h with⟨c6,h⟩|⟨c6,h⟩
  ·have p9:=fun{sc F} (r:PS sc F)=>p7<|sg 0 c6<|sv (cC p)<|sv (cN p)<|r
   rcases aZ h with⟨c8,h⟩|⟨c8,h⟩
   ·obtain rfl:=lf h
    have z:=p9<|sg 4 c8<|en (aI (rP (.bool true))<|trivial)
    exact cn Rd call132 func132 (c:=Rm) rfl (aI (ah p) trivial) z<|by kernel_rfl
   ·have p11:=fun{sc F} (r:PS sc F)=>p9<|sg 4 c8<|sv (cC p)<|sv (cN p)<|r
    rcases aZ h with⟨c10,h⟩|⟨c10,h⟩
    ·obtain rfl:=lf h
     have z:=p11<|sg 9 c10<|en (aI (rP (.bool true))<|trivial)
     exact cn Rd call132 func132 (c:=Rm) rfl (aI (ah p) trivial) z<|by kernel_rfl
    ·obtain⟨r12,br12,h⟩:=aB h
     obtain rfl:=lf h
     have z:=p11<|sg 9 c10<|sv (cC p)<|sv (cN p)<|bT (qE br12)<|en (aI (rP (.bool (r12==0)))<|trivial)
     exact cn Rd call132 func132 (c:=Rm) rfl (aI (ah p) trivial) z<|by kernel_rfl
  ·have p14:=fun{sc F} (r:PS sc F)=>p7<|sg 0 c6<|r
   rcases aZ h with⟨c13,h⟩|⟨c13,h⟩
   ·obtain⟨r15,br15,h⟩:=aB h
    obtain rfl:=lf h
    have z:=p14<|sg 0 c13<|sv (cC p)<|sv (cN p)<|bT (qE br15)<|en (aI (rP (.bool (r15==0)))<|trivial)
    exact cn Rd call132 func132 (c:=Rm) rfl (aI (ah p) trivial) z<|by kernel_rfl
   ·obtain rfl:=lf h
    have z:=p14<|sg 0 c13<|en (aI (rP (.bool true))<|trivial)
    exact cn Rd call132 func132 (c:=Rm) rfl (aI (ah p) trivial) z<|by kernel_rfl
noncomputable def N2:Code:=f117.body.getD .skip
def ri:List Nat:=[]
section
variable(p:aa)
def Lq:az:=aY 87 [(1,.eptr (ac p))] [.dead] []
def vG(o:Bool):az:=aY 87 [(1,.eptr (ac p)),(3,.bool o)] [.dead] []
def zV:Option Bool:=
 if(p.Op==1)=true then
  some true
 else
  some (p.Op==2)
theorem Jh{x:Bool}(h:zV p=some x):aT Pg GE 0 (cA N2 6) (EX .normal (vG p x)) (Lq p):=by
 have p2:=fun{sc F} (r:PS sc F)=>sv (bC p)<|sv (bD p)<|r
 rcases aZ h with⟨c1,h⟩|⟨c1,h⟩
 ·obtain rfl:=lf h
  exact cw ri (p2<|sg 4 c1<|eF .normal (vG p true))<|by kernel_rfl
 ·obtain rfl:=lf h
  exact cw ri (p2<|sg 4 c1<|sv (bC p)<|sv (bD p)<|eF .normal (vG p (p.Op==2)))<|by kernel_rfl
end
section
variable(p:aa)(number:Bool)
def Lr:az:=aY 87 [(1,.eptr (ac p)),(3,.bool number)] [.dead] []
def d7(o:Bool):az:=aY 87 [(1,.eptr (ac p)),(48,.bool o)] [.dead] []
def zW:Option Bool:=
 if(decide (p.Op<1))=true then
  some true
 else
  if(decide (p.Op>18))=true then
   some true
  else
   if (!(p.Name == ([]:ag))) = true then
    (Bz p.Op).bind fun r10=>
    if(!r10)=true then
     some true
    else
     if(p.N !=0)=true then
      if(!number)=true then
       some true
      else
       (od p.Op (p.Kids.length:Int)).bind fun r17=>
       some (!r17)
     else
      (od p.Op (p.Kids.length:Int)).bind fun r18=>
      some (!r18)
   else
    if(p.N !=0)=true then
     if(!number)=true then
      some true
     else
      (od p.Op (p.Kids.length:Int)).bind fun r23=>
      some (!r23)
    else
     (od p.Op (p.Kids.length:Int)).bind fun r24=>
     some (!r24)
theorem Ji{x:Bool}(h:zW p number=some x):aT Pg GE 0 (cA N2 28) (EX .normal (d7 p x)) (Lr p number):=by
 have p5:=fun{sc F} (r:PS sc F)=>sv (bC p)<|sv (bD p)<|r
 rcases aZ h with⟨c4,h⟩|⟨c4,h⟩
 ·obtain rfl:=lf h
  exact cw ri (p5<|sg 4 c4<|eF .normal (d7 p true))<|by kernel_rfl
 ·have p7:=fun{sc F} (r:PS sc F)=>p5<|sg 4 c4<|sv (bC p)<|sv (bD p)<|r
  rcases aZ h with⟨c6,h⟩|⟨c6,h⟩
  ·obtain rfl:=lf h
   exact cw ri (p7<|sg 9 c6<|eF .normal (d7 p true))<|by kernel_rfl
  ·have p9:=fun{sc F} (r:PS sc F)=>p7<|sg 9 c6<|sv (cC p)<|sv (cN p)<|r
   rcases aZ h with⟨c8,h⟩|⟨c8,h⟩
   ·obtain⟨r10,br10,h⟩:=aB h
    have p12:=fun{sc F} (r:PS sc F)=>p9<|sg 13 c8<|sv (bC p)<|sv (bD p)<|bT (NM br10)<|r
    rcases aZ h with⟨c11,h⟩|⟨c11,h⟩
    ·obtain rfl:=lf h
     exact cw ri (p12<|sg 20 c11<|eF .normal (d7 p true))<|by kernel_rfl
    ·have p14:=fun{sc F} (r:PS sc F)=>p12<|sg 20 c11<|sv (de p)<|sv (dz p)<|r
     rcases aZ h with⟨c13,h⟩|⟨c13,h⟩
     ·have p16:=fun{sc F} (r:PS sc F)=>p14<|sg 24 c13<|r
      rcases aZ h with⟨c15,h⟩|⟨c15,h⟩
      ·obtain rfl:=lf h
       exact cw ri (p16<|sg 29 c15<|eF .normal (d7 p true))<|by kernel_rfl
      ·obtain⟨r17,br17,h⟩:=aB h
       obtain rfl:=lf h
       exact cw ri (p16<|sg 29 c15<|sv (bC p)<|sv (bD p)<|sv (bq p)<|sv (bu p)<|cz (ck.ln p.Kids)<|bT (uF br17)<|eF .normal (d7 p (!r17)))<|by kernel_rfl
     ·obtain⟨r18,br18,h⟩:=aB h
      obtain rfl:=lf h
      exact cw ri (p14<|sg 24 c13<|sv (bC p)<|sv (bD p)<|sv (bq p)<|sv (bu p)<|cz (ck.ln p.Kids)<|bT (uF br18)<|eF .normal (d7 p (!r18)))<|by kernel_rfl
   ·have p20:=fun{sc F} (r:PS sc F)=>p9<|sg 13 c8<|sv (de p)<|sv (dz p)<|r
    rcases aZ h with⟨c19,h⟩|⟨c19,h⟩
    ·have p22:=fun{sc F} (r:PS sc F)=>p20<|sg 24 c19<|r
     rcases aZ h with⟨c21,h⟩|⟨c21,h⟩
     ·obtain rfl:=lf h
      exact cw ri (p22<|sg 29 c21<|eF .normal (d7 p true))<|by kernel_rfl
     ·obtain⟨r23,br23,h⟩:=aB h
      obtain rfl:=lf h
      exact cw ri (p22<|sg 29 c21<|sv (bC p)<|sv (bD p)<|sv (bq p)<|sv (bu p)<|cz (ck.ln p.Kids)<|bT (uF br23)<|eF .normal (d7 p (!r23)))<|by kernel_rfl
    ·obtain⟨r24,br24,h⟩:=aB h
     obtain rfl:=lf h
     exact cw ri (p20<|sg 24 c19<|sv (bC p)<|sv (bD p)<|sv (bq p)<|sv (bu p)<|cz (ck.ln p.Kids)<|bT (uF br24)<|eF .normal (d7 p (!r24)))<|by kernel_rfl
end
section
variable(p:aa)
def Ls:az:=aY 87 [(1,.eptr (ac p))] [.dead] []
def gg(o:Bool):az:=aY 87 [(1,.eptr (ac p)),(72,.bool o)] [.dead] []
def zX:Option Bool:=
 if (p.Op == 1) = true then
  (NE p.N).bind fun r30=>
  if(!r30)=true then
   some true
  else
   if(p.Op==2)=true then
    if(decide (p.N<0))=true then
     some true
    else
     some (decide (p.N>1))
   else
    some false
 else
  if(p.Op==2)=true then
   if(decide (p.N<0))=true then
    some true
   else
    some (decide (p.N>1))
  else
   some false
theorem Jj{x:Bool}(h:zX p=some x):aT Pg GE 0 (cA N2 60) (EX .normal (gg p x)) (Ls p):=by
 have p29:=fun{sc F} (r:PS sc F)=>sv (bC p)<|sv (bD p)<|r
 rcases aZ h with⟨c28,h⟩|⟨c28,h⟩
 ·obtain⟨r30,br30,h⟩:=aB h
  have p32:=fun{sc F} (r:PS sc F)=>p29<|sg 4 c28<|sv (de p)<|sv (dz p)<|bT (TP br30)<|r
  rcases aZ h with⟨c31,h⟩|⟨c31,h⟩
  ·obtain rfl:=lf h
   exact cw ri (p32<|sg 10 c31<|eF .normal (gg p true))<|by kernel_rfl
  ·have p34:=fun{sc F} (r:PS sc F)=>p32<|sg 10 c31<|sv (bC p)<|sv (bD p)<|r
   rcases aZ h with⟨c33,h⟩|⟨c33,h⟩
   ·have p36:=fun{sc F} (r:PS sc F)=>p34<|sg 14 c33<|sv (de p)<|sv (dz p)<|r
    rcases aZ h with⟨c35,h⟩|⟨c35,h⟩
    ·obtain rfl:=lf h
     exact cw ri (p36<|sg 18 c35<|eF .normal (gg p true))<|by kernel_rfl
    ·obtain rfl:=lf h
     exact cw ri (p36<|sg 18 c35<|sv (de p)<|sv (dz p)<|eF .normal (gg p (decide (p.N>1))))<|by kernel_rfl
   ·obtain rfl:=lf h
    exact cw ri (p34<|sg 14 c33<|eF .normal (gg p false))<|by kernel_rfl
 ·have p38:=fun{sc F} (r:PS sc F)=>p29<|sg 4 c28<|sv (bC p)<|sv (bD p)<|r
  rcases aZ h with⟨c37,h⟩|⟨c37,h⟩
  ·have p40:=fun{sc F} (r:PS sc F)=>p38<|sg 14 c37<|sv (de p)<|sv (dz p)<|r
   rcases aZ h with⟨c39,h⟩|⟨c39,h⟩
   ·obtain rfl:=lf h
    exact cw ri (p40<|sg 18 c39<|eF .normal (gg p true))<|by kernel_rfl
   ·obtain rfl:=lf h
    exact cw ri (p40<|sg 18 c39<|sv (de p)<|sv (dz p)<|eF .normal (gg p (decide (p.N>1))))<|by kernel_rfl
  ·obtain rfl:=lf h
   exact cw ri (p38<|sg 14 c37<|eF .normal (gg p false))<|by kernel_rfl
end
section
variable(p:aa)
def Lt:az:=aY 87 [(1,.eptr (ac p))] [.dead] []
def vH(o:Bool):az:=aY 87 [(86,.bool o)] [.dead] []
def zY:Option Bool:=
 if(p.Op==8)=true then
  (cR p.Kids 0).bind fun x49=>
  some (x49.Op !=1)
 else
  some false
theorem Jk{x:Bool}(h:zY p=some x):aT Pg GE 0 (cA N2 252) (EX .normal (vH x)) (Lt p):=by
 have p48:=fun{sc F} (r:PS sc F)=>sv (bC p)<|sv (bD p)<|r
 rcases aZ h with⟨c47,h⟩|⟨c47,h⟩
 ·obtain⟨x49,bx49,h⟩:=aB h
  obtain rfl:=lf h
  exact cw ri (p48<|sg 4 c47<|sv (bq p)<|sv (bu p)<|sv (ck.ia (k:=.i64) bx49)<|sv (bC x49)<|sv (bD x49)<|eF .normal (vH (x49.Op !=1)))<|by kernel_rfl
 ·obtain rfl:=lf h
  exact cw ri (p48<|sg 4 c47<|eF .normal (vH false))<|by kernel_rfl
end
def D8(p:aa):Option Int:=
 (zV p).bind fun o3=>
 (zW p o3).bind fun o25=>
 if o25=true then
  some 1
 else
  (zX p).bind fun o41=>
  if o41=true then
   some 2
  else
   (xI p).bind fun r44=>
   if(!r44)=true then
    some 3
   else
    (zY p).bind fun o50=>
    if o50=true then
     some 6
    else
     some 0
theorem Px{p:aa}{r:Int}(h:D8 p=some r):CC Pg GE 117 [.agg (ac p)] (.int .i64 r) []:=by
 obtain⟨o3,bo3,h⟩:=aB h
 obtain⟨o25,bo25,h⟩:=aB h
 have p27:=fun{sc F} (r:PS sc F)=>se (cr p)<|nD 0<|di (Jh p bo3)<|nD 1<|di (Ji p o3 bo25)<|r
 rcases aZ h with⟨c26,h⟩|⟨c26,h⟩
 ·obtain rfl:=lf h
  have z:=p27<|sg 0 c26<|en (aI (rP (.int .i64 1))<|trivial)
  exact cn ri call117 func117 (c:=N2) rfl (aI (ah p) trivial) z<|by kernel_rfl
 ·obtain⟨o41,bo41,h⟩:=aB h
  have p43:=fun{sc F} (r:PS sc F)=>p27<|sg 0 c26<|nD 1<|di (Jj p bo41)<|r
  rcases aZ h with⟨c42,h⟩|⟨c42,h⟩
  ·obtain rfl:=lf h
   have z:=p43<|sg 0 c42<|en (aI (rP (.int .i64 2))<|trivial)
   exact cn ri call117 func117 (c:=N2) rfl (aI (ah p) trivial) z<|by kernel_rfl
  ·obtain⟨r44,br44,h⟩:=aB h
   have p46:=fun{sc F} (r:PS sc F)=>p43<|sg 0 c42<|sv (be p)<|bT (Lm br44)<|r
   rcases aZ h with⟨c45,h⟩|⟨c45,h⟩
   ·obtain rfl:=lf h
    have z:=p46<|sg 0 c45<|en (aI (rP (.int .i64 3))<|trivial)
    exact cn ri call117 func117 (c:=N2) rfl (aI (ah p) trivial) z<|by kernel_rfl
   ·obtain⟨o50,bo50,h⟩:=aB h
    have p52:=fun{sc F} (r:PS sc F)=>p46<|sg 0 c45<|nD 1<|di (Jk p bo50)<|r
    rcases aZ h with⟨c51,h⟩|⟨c51,h⟩
    ·obtain rfl:=lf h
     have z:=p52<|sg 0 c51<|en (aI (rP (.int .i64 6))<|trivial)
     exact cn ri call117 func117 (c:=N2) rfl (aI (ah p) trivial) z<|by kernel_rfl
    ·obtain rfl:=lf h
     have z:=p52<|sg 0 c51<|en (aI (rP (.int .i64 0))<|trivial)
     exact cn ri call117 func117 (c:=N2) rfl (aI (ah p) trivial) z<|by kernel_rfl
noncomputable def Vu:Code:=f107.body.getD .skip
def TH:List Nat:=[11,23]
section
variable(R39:ya)(t13:waB)(t14:Int)(t15:Int)
def ml:az:=aY 25 [(13,sl ac t13),(14,.int .i64 t14),(15,.int .i64 t15)] [.dead] []
def mm(o:Int⊕(Unit)):Exit:=match o with
 |(.inl _)=>.ret
 |(.inr _)=>.exit 0
def jN(o:Int⊕(Unit)):az:=match o with
 |(.inl o)=>aY 25 [(2,.int .i64 o)] [.dead] []
 |(.inr o)=>aY 25 [] [.dead] []
def Cs:Option (Int⊕(Int⊕(Unit))):=
 if(decide (t15<t14))=true then
  (cR t13 t15).bind fun x5=>
  (R39 x5).bind fun r6=>
  if(r6 !=0)=true then
   some (.inr (.inl r6))
  else
   some (.inl (aR (t15+1)))
 else
  some (.inr (.inr ()))
def zT:Option (Int⊕(Unit)):=loop (fun(zz:Int)=>Cs R39 t13 t14 zz) t15
theorem HJ(hR39:C0 R39){y:Int⊕(Int⊕(Unit))}(h:Cs R39 t13 t14 t15=some y):aT Pg GE 0 (cA Vu 119) (LQ (fun(zz:Int)=>ml t13 t14 zz) mm jN y) (ml t13 t14 t15):=by
 rcases aZ h with⟨c4,h⟩|⟨c4,h⟩
 ·obtain⟨x5,bx5,h⟩:=aB h
  obtain⟨r6,br6,h⟩:=aB h
  have p8:=fun{sc F} (r:PS sc F)=>sg 0 c4<|sv (ck.ia (k:=.i64) bx5)<|sv (be x5)<|sx lC<|sx (dn x5)<|sv (cm x5 [])<|bT (hR39 _ _ br6)<|r
  rcases aZ h with⟨c7,h⟩|⟨c7,h⟩
  ·obtain rfl:=lf h
   have z:=p8<|sg 0 c7<|zn 0 (mm (.inl r6)) (jN (.inl r6)) rfl (eg (aI trivial trivial)) (aI trivial trivial)
   exact Gx (A:=TH) mixed (by intro hx;cases hx) z<|by kernel_rfl
  ·obtain rfl:=lf h
   have z:=p8<|sg 0 c7<|zn 0 .normal (ml t13 t14 (aR (t15+1))) rfl (eg (aI (up (aq ah t13)) (aI trivial (aI trivial trivial)))) (aI trivial trivial)
   exact dS (A:=TH) mixed z<|by kernel_rfl
 ·obtain rfl:=lf h
  have z:=sg 0 c4<|eF (mm (.inr ())) (jN (.inr ()))
  exact i7 TH (by intro hx;cases hx) z<|by kernel_rfl
theorem zU(hR39:C0 R39){x:Int⊕(Unit)}(h:zT R39 t13 t14 t15=some x):aT Pg GE 0 (.loop (cA Vu 119)) (EX (mm x) (jN x)) (ml t13 t14 t15):=
 aT.loop (S:=fun(zz:Int)=>ml t13 t14 zz) (ex:=mm) (s:=t15) h fun zz y hy=>HJ R39 t13 t14 zz hR39 hy
end
def xJ(R39:ya)(p:aa):Option Int:=
 (D8 p).bind fun r1=>
 if(r1 !=0)=true then
  some r1
 else
  (zT R39 p.Kids (p.Kids.length:Int) 0).bind fun o9=>match o9 with
  |(.inl o9)=>
   some o9
  |(.inr o9)=>
   some 0
theorem NL(R39:ya)(hR39:C0 R39){p:aa}{r:Int}(h:xJ R39 p=some r):CC Pg GE 107 [.agg (ac p)] (.int .i64 r) []:=by
 obtain⟨r1,br1,h⟩:=aB h
 have p3:=fun{sc F} (r:PS sc F)=>se (cr p)<|sv (be p)<|bT (Px br1)<|r
 rcases aZ h with⟨c2,h⟩|⟨c2,h⟩
 ·obtain rfl:=lf h
  have z:=p3<|sg 0 c2<|en (aI (rP (.int .i64 r1))<|trivial)
  exact cn TH call107 func107 (c:=Vu) rfl (aI (ah p) trivial) z<|by kernel_rfl
 ·obtain⟨o9,bo9,h⟩:=aB h
  rcases o9 with o9|o9
  ·obtain rfl:=lf h
   have z:=p3<|sg 0 c2<|sv (bq p)<|sv (bu p)<|cz (ck.ln p.Kids)<|di (e:=.ret) (s1:=jN (.inl o9)) (zU R39 p.Kids (p.Kids.length:Int) 0 hR39 bo9)<|en (aI (rP (.int .i64 o9))<|trivial)
   exact cn TH call107 func107 (c:=Vu) rfl (aI (ah p) trivial) z<|by kernel_rfl
  ·obtain rfl:=lf h
   have z:=p3<|sg 0 c2<|sv (bq p)<|sv (bu p)<|cz (ck.ln p.Kids)<|di (e:=.exit 0) (s1:=jN (.inr o9)) (zU R39 p.Kids (p.Kids.length:Int) 0 hR39 bo9)<|en (aI (rP (.int .i64 0))<|trivial)
   exact cn TH call107 func107 (c:=Vu) rfl (aI (ah p) trivial) z<|by kernel_rfl
def C5:(aa->Option Int)->(aa)->Option Int:=fun(rec:aa->Option Int) (x:aa)=>xJ (fun p=>rec p) x
def Jd(p:aa):Option Int:=oG C5 p
theorem Pw{p:aa}{r:Int}(h:Jd p=some r):CC Pg GE 107 [.agg (ac p)] (.int .i64 r) []:=
 cU (F:=C5) (M:=fun(x:aa) (r:Int)=>CC Pg GE 107 [.agg (ac x)] (.int .i64 r) []) (fun rec hrec x r h=>NL _ (fun p r h=>hrec p r h) h) h
noncomputable def qcE:Code:=f89.body.getD .skip
def qco:List Nat:=[]
def By(p:aa):Option Int:=
 (FK p).bind fun r1=>
 if(decide (r1>400))=true then
  some 7
 else
  (FI p).bind fun r4=>
  if(decide (r4>40))=true then
   some 8
  else
   (Jd p).bind fun r7=>
   some r7
theorem NH{p:aa}{r:Int}(h:By p=some r):CC Pg GE 89 [.agg (ac p)] (.int .i64 r) []:=by
 obtain⟨r1,br1,h⟩:=aB h
 have p3:=fun{sc F} (r:PS sc F)=>se (cr p)<|sv (be p)<|bT (NJ br1)<|r
 rcases aZ h with⟨c2,h⟩|⟨c2,h⟩
 ·obtain rfl:=lf h
  have z:=p3<|sg 0 c2<|en (aI (rP (.int .i64 7))<|trivial)
  exact cn qco call89 func89 (c:=qcE) rfl (aI (ah p) trivial) z<|by kernel_rfl
 ·obtain⟨r4,br4,h⟩:=aB h
  have p6:=fun{sc F} (r:PS sc F)=>p3<|sg 0 c2<|sv (be p)<|bT (NI br4)<|r
  rcases aZ h with⟨c5,h⟩|⟨c5,h⟩
  ·obtain rfl:=lf h
   have z:=p6<|sg 0 c5<|en (aI (rP (.int .i64 8))<|trivial)
   exact cn qco call89 func89 (c:=qcE) rfl (aI (ah p) trivial) z<|by kernel_rfl
  ·obtain⟨r7,br7,h⟩:=aB h
   obtain rfl:=lf h
   have z:=p6<|sg 0 c5<|sv (be p)<|bT (Pw br7)<|en (aI (rP (.int .i64 r7))<|trivial)
   exact cn qco call89 func89 (c:=qcE) rfl (aI (ah p) trivial) z<|by kernel_rfl
noncomputable def Vw:Code:=f62.body.getD .skip
def Pl:List Nat:=[63]
section
variable(t:ae)
def LF:az:=aY 65 [(1,.eptr (af t))] [.dead] []
def jS(o:Bool):az:=aY 65 [(1,.eptr (af t)),(27,.bool o)] [.dead] []
def Ar:Option Bool:=
 if (t.Op == 6) = true then
  (Ax t.Pred).bind fun r3=>
  if(!r3)=true then
   some true
  else
   if(t.Op !=4)=true then
    some (decide ((t.Preds.length:Int)>0))
   else
    some false
 else
  if(t.Op !=4)=true then
   some (decide ((t.Preds.length:Int)>0))
  else
   some false
theorem JJ{x:Bool}(h:Ar t=some x):aT Pg GE 0 (cA Vw 12) (EX .normal (jS t x)) (LF t):=by
 have p2:=fun{sc F} (r:PS sc F)=>sv (aK t)<|sv (aL t)<|r
 rcases aZ h with⟨c1,h⟩|⟨c1,h⟩
 ·obtain⟨r3,br3,h⟩:=aB h
  have p5:=fun{sc F} (r:PS sc F)=>p2<|sg 4 c1<|sv (d8 t)<|sv (d9 t)<|bT (G7 br3)<|r
  rcases aZ h with⟨c4,h⟩|⟨c4,h⟩
  ·obtain rfl:=lf h
   exact cw Pl (p5<|sg 10 c4<|eF .normal (jS t true))<|by kernel_rfl
  ·have p7:=fun{sc F} (r:PS sc F)=>p5<|sg 10 c4<|sv (aK t)<|sv (aL t)<|r
   rcases aZ h with⟨c6,h⟩|⟨c6,h⟩
   ·obtain rfl:=lf h
    exact cw Pl (p7<|sg 14 c6<|sv (dJ t)<|sv (dM t)<|cz (ck.ln t.Preds)<|eF .normal (jS t (decide ((t.Preds.length:Int)>0))))<|by kernel_rfl
   ·obtain rfl:=lf h
    exact cw Pl (p7<|sg 14 c6<|eF .normal (jS t false))<|by kernel_rfl
 ·have p9:=fun{sc F} (r:PS sc F)=>p2<|sg 4 c1<|sv (aK t)<|sv (aL t)<|r
  rcases aZ h with⟨c8,h⟩|⟨c8,h⟩
  ·obtain rfl:=lf h
   exact cw Pl (p9<|sg 14 c8<|sv (dJ t)<|sv (dM t)<|cz (ck.ln t.Preds)<|eF .normal (jS t (decide ((t.Preds.length:Int)>0))))<|by kernel_rfl
  ·obtain rfl:=lf h
   exact cw Pl (p9<|sg 14 c8<|eF .normal (jS t false))<|by kernel_rfl
end
section
variable(t:ae)(t29:waA)(t30:Int)(t31:Int)
def mz:az:=aY 65 [(1,.eptr (af t)),(29,sl cS t29),(30,.int .i64 t30),(31,.int .i64 t31)] [.dead] []
def mA(o:Unit⊕(Unit)):Exit:=match o with
 |(.inl _)=>.ret
 |(.inr _)=>.exit 0
def jT(o:Unit⊕(Unit)):az:=match o with
 |(.inl o)=>aY 65 [(2,.int .i64 3)] [.dead] []
 |(.inr o)=>aY 65 [(1,.eptr (af t))] [.dead] []
def Cy:Option (Int⊕(Unit⊕(Unit))):=
 if(decide (t31<t30))=true then
  (cR t29 t31).bind fun x14=>
  (pu x14).bind fun r15=>
  if(r15 !=0)=true then
   some (.inr (.inl ()))
  else
   some (.inl (aR (t31+1)))
 else
  some (.inr (.inr ()))
def At:Option (Unit⊕(Unit)):=loop (fun(zz:Int)=>Cy t29 t30 zz) t31
theorem Ih{y:Int⊕(Unit⊕(Unit))}(h:Cy t29 t30 t31=some y):aT Pg GE 0 (cA Vw 119) (LQ (fun(zz:Int)=>mz t t29 t30 zz) mA (jT t) y) (mz t t29 t30 t31):=by
 rcases aZ h with⟨c13,h⟩|⟨c13,h⟩
 ·obtain⟨x14,bx14,h⟩:=aB h
  obtain⟨r15,br15,h⟩:=aB h
  have p17:=fun{sc F} (r:PS sc F)=>sg 0 c13<|sv (bJ.ia (k:=.i64) bx14)<|sv (im Mo (.str x14) [])<|bT (D5 br15)<|r
  rcases aZ h with⟨c16,h⟩|⟨c16,h⟩
  ·obtain rfl:=lf h
   have z:=p17<|sg 0 c16<|eF (mA (.inl ())) (jT t (.inl ()))
   exact i7 Pl (by intro hx;cases hx) z<|by kernel_rfl
  ·obtain rfl:=lf h
   exact rU Pl (p17<|sg 0 c16<|eF .normal (mz t t29 t30 (aR (t31+1))))<|by kernel_rfl
 ·obtain rfl:=lf h
  have z:=sg 0 c13<|eF (mA (.inr ())) (jT t (.inr ()))
  exact i7 Pl (by intro hx;cases hx) z<|by kernel_rfl
theorem Au{x:Unit⊕(Unit)}(h:At t29 t30 t31=some x):aT Pg GE 0 (.loop (cA Vw 119)) (EX (mA x) (jT t x)) (mz t t29 t30 t31):=
 aT.loop (S:=fun(zz:Int)=>mz t t29 t30 zz) (ex:=mA) (s:=t31) h fun zz y hy=>Ih t t29 t30 zz hy
end
section
variable(e:Int)(t48:waB)(t49:Int)(t50:Int)(m:Int)(m2:ag)(m3:Int)(m4:waB)
def LG:az:=aY 65 [(6,.bptr 1 0),(7,.int .i64 e),(48,sl ac t48),(49,.int .i64 t49),(50,.int .i64 t50)] [.dead,.cells [.int .i64 m,.str m2,.int .i64 m3,sl ac m4] []] [((48,0),36)]
def vV(o:Bool):az:=aY 65 [(7,.int .i64 e),(48,sl ac t48),(49,.int .i64 t49),(50,.int .i64 t50),(62,.bool o)] [.dead,.cells [.int .i64 m,.str m2,.int .i64 m3,sl ac m4] []] [((48,0),36)]
def As:Option Bool:=
 (Ax (⟨m,m2,m3,m4⟩:aa)).bind fun r26=>
 if(!r26)=true then
  some (e !=0)
 else
  some false
theorem JK{x:Bool}(h:As e m m2 m3 m4=some x):aT Pg GE 0 (cA Vw 64494) (EX .normal (vV e t48 t49 t50 m m2 m3 m4 x)) (LG e t48 t49 t50 m m2 m3 m4):=by
 obtain⟨r26,br26,h⟩:=aB h
 have p28:=fun{sc F} (r:PS sc F)=>sv (cm (⟨m,m2,m3,m4⟩:aa) [])<|bT (G7 br26)<|r
 rcases aZ h with⟨c27,h⟩|⟨c27,h⟩
 ·obtain rfl:=lf h
  exact cw Pl (p28<|sg 4 c27<|eF .normal (vV e t48 t49 t50 m m2 m3 m4 (e !=0)))<|by kernel_rfl
 ·obtain rfl:=lf h
  exact cw Pl (p28<|sg 4 c27<|eF .normal (vV e t48 t49 t50 m m2 m3 m4 false))<|by kernel_rfl
end
section
variable(t48:waB)(t49:Int)(t50:Int)
def mB:az:=aY 65 [(48,sl ac t48),(49,.int .i64 t49),(50,.int .i64 t50)] [.dead] [((48,0),36)]
def mC(o:Int⊕(Unit)):Exit:=match o with
 |(.inl _)=>.ret
 |(.inr _)=>.exit 2
def jU(o:Int⊕(Unit)):az:=match o with
 |(.inl o)=>aY 65 [(2,.int .i64 o)] [.dead] []
 |(.inr o)=>aY 65 [] [.dead] []
def Cz:Option (Int⊕(Int⊕(Unit))):=
 if(decide (t50<t49))=true then
  (cR t48 t50).bind fun x24=>
  (By x24).bind fun r25=>
  (As r25 x24.Op x24.Name x24.N x24.Kids).bind fun o29=>
  if o29=true then
   some (.inr (.inl r25))
  else
   some (.inl (aR (t50+1)))
 else
  some (.inr (.inr ()))
def Av:Option (Int⊕(Unit)):=loop (fun(zz:Int)=>Cz t48 t49 zz) t50
theorem Ii{y:Int⊕(Int⊕(Unit))}(h:Cz t48 t49 t50=some y):aT Pg GE 0 (cA Vw 503) (LQ (fun(zz:Int)=>mB t48 t49 zz) mC jU y) (mB t48 t49 t50):=by
 rcases aZ h with⟨c23,h⟩|⟨c23,h⟩
 ·obtain⟨x24,bx24,h⟩:=aB h
  obtain⟨r25,br25,h⟩:=aB h
  obtain⟨o29,bo29,h⟩:=aB h
  have p31:=fun{sc F} (r:PS sc F)=>sg 0 c23<|sv (ck.ia (k:=.i64) bx24)<|sv (be x24)<|sx lC<|sx (dn x24)<|sv (cm x24 [])<|bT (NH br25)<|nD 0<|di (JK r25 t48 t49 t50 x24.Op x24.Name x24.N x24.Kids bo29)<|r
  rcases aZ h with⟨c30,h⟩|⟨c30,h⟩
  ·obtain rfl:=lf h
   have z:=p31<|sg 0 c30<|zn 0 (mC (.inl r25)) (jU (.inl r25)) rfl (eg (aI trivial trivial)) (aI trivial trivial)
   exact Gx (A:=Pl) mixed (by intro hx;cases hx) z<|by kernel_rfl
  ·obtain rfl:=lf h
   have z:=p31<|sg 0 c30<|zn 0 .normal (mB t48 t49 (aR (t50+1))) rfl (eg (aI (up (aq ah t48)) (aI trivial (aI trivial trivial)))) (aI trivial trivial)
   exact dS (A:=Pl) mixed z<|by kernel_rfl
 ·obtain rfl:=lf h
  have z:=sg 0 c23<|eF (mC (.inr ())) (jU (.inr ()))
  exact i7 Pl (by intro hx;cases hx) z<|by kernel_rfl
theorem Aw{x:Int⊕(Unit)}(h:Av t48 t49 t50=some x):aT Pg GE 0 (.loop (cA Vw 503)) (EX (mC x) (jU x)) (mB t48 t49 t50):=
 aT.loop (S:=fun(zz:Int)=>mB t48 t49 zz) (ex:=mC) (s:=t50) h fun zz y hy=>Ii t48 t49 zz hy
end
def Ej(t:ae):Option Int:=
 (Ar t).bind fun o10=>
 if o10=true then
  some 1
 else
  (At t.Names (t.Names.length:Int) 0).bind fun o18=>match o18 with
  |(.inl o18)=>
   some 3
  | (.inr o18) =>
   (rZ t.Names).bind fun r19=>
   if(!r19)=true then
    some 4
   else
    (app ([t.Pred]:List aa) t.Preds).bind fun l22=>
    (Av l22 (l22.length:Int) 0).bind fun o32=>match o32 with
    |(.inl o32)=>
     some o32
    |(.inr o32)=>
     some 0
theorem PC{t:ae}{r:Int}(h:Ej t=some r):CC Pg GE 62 [.agg (af t)] (.int .i64 r) []:=by
 obtain⟨o10,bo10,h⟩:=aB h
 have p12:=fun{sc F} (r:PS sc F)=>se (cF t)<|nD 1<|di (JJ t bo10)<|r
 rcases aZ h with⟨c11,h⟩|⟨c11,h⟩
 ·obtain rfl:=lf h
  have z:=p12<|sg 0 c11<|en (aI (rP (.int .i64 1))<|trivial)
  exact cn Pl call62 func62 (c:=Vw) rfl (aI (av t) trivial) z<|by kernel_rfl
 ·obtain⟨o18,bo18,h⟩:=aB h
  rcases o18 with o18|o18
  ·obtain rfl:=lf h
   have z:=p12<|sg 0 c11<|sv (bh t)<|sv (bj t)<|cz (bJ.ln t.Names)<|di (e:=.ret) (s1:=jT t (.inl o18)) (Au t t.Names (t.Names.length:Int) 0 bo18)<|en (aI (rP (.int .i64 3))<|trivial)
   exact cn Pl call62 func62 (c:=Vw) rfl (aI (av t) trivial) z<|by kernel_rfl
  ·obtain⟨r19,br19,h⟩:=aB h
   have p21:=fun{sc F} (r:PS sc F)=>p12<|sg 0 c11<|sv (bh t)<|sv (bj t)<|cz (bJ.ln t.Names)<|di (e:=.exit 0) (s1:=jT t (.inr o18)) (Au t t.Names (t.Names.length:Int) 0 bo18)<|sv (bh t)<|sv (bj t)<|bT (Hz br19)<|r
   rcases aZ h with⟨c20,h⟩|⟨c20,h⟩
   ·obtain rfl:=lf h
    have z:=p21<|sg 0 c20<|en (aI (rP (.int .i64 4))<|trivial)
    exact cn Pl call62 func62 (c:=Vw) rfl (aI (av t) trivial) z<|by kernel_rfl
   ·obtain⟨l22,bl22,h⟩:=aB h
    obtain⟨o32,bo32,h⟩:=aB h
    rcases o32 with o32|o32
    ·obtain rfl:=lf h
     have z:=p21<|sg 0 c20<|sv (d8 t)<|sv (d9 t)<|sv (ck.mk' (v:=fe) dl ([t.Pred]:List aa) 1 (by kernel_rfl))<|sv (dJ t)<|sv (dM t)<|sv (ck.ap bl22)<|cz (ck.ln l22)<|di (e:=.ret) (s1:=jU (.inl o32)) (Aw l22 (l22.length:Int) 0 bo32)<|en (aI (rP (.int .i64 o32))<|trivial)
     exact cn Pl call62 func62 (c:=Vw) rfl (aI (av t) trivial) z<|by kernel_rfl
    ·obtain rfl:=lf h
     have z:=p21<|sg 0 c20<|sv (d8 t)<|sv (d9 t)<|sv (ck.mk' (v:=fe) dl ([t.Pred]:List aa) 1 (by kernel_rfl))<|sv (dJ t)<|sv (dM t)<|sv (ck.ap bl22)<|cz (ck.ln l22)<|di (e:=.exit 2) (s1:=jU (.inr o32)) (Aw l22 (l22.length:Int) 0 bo32)<|en (aI (rP (.int .i64 0))<|trivial)
     exact cn Pl call62 func62 (c:=Vw) rfl (aI (av t) trivial) z<|by kernel_rfl
noncomputable def qa0:Code:=f40.body.getD .skip
def qai:List Nat:=[11,23]
section
variable(R31:yc)(t13:waC)(t14:Int)(t15:Int)
def mw:az:=aY 25 [(13,sl af t13),(14,.int .i64 t14),(15,.int .i64 t15)] [.dead] []
def my(o:Int⊕(Unit)):Exit:=match o with
 |(.inl _)=>.ret
 |(.inr _)=>.exit 0
def jR(o:Int⊕(Unit)):az:=match o with
 |(.inl o)=>aY 25 [(2,.int .i64 o)] [.dead] []
 |(.inr o)=>aY 25 [] [.dead] []
def Cx:Option (Int⊕(Int⊕(Unit))):=
 if(decide (t15<t14))=true then
  (cR t13 t15).bind fun x5=>
  (R31 x5).bind fun r6=>
  if(r6 !=0)=true then
   some (.inr (.inl r6))
  else
   some (.inl (aR (t15+1)))
 else
  some (.inr (.inr ()))
def Ap:Option (Int⊕(Unit)):=loop (fun(zz:Int)=>Cx R31 t13 t14 zz) t15
theorem Ig(hR31:C2 R31){y:Int⊕(Int⊕(Unit))}(h:Cx R31 t13 t14 t15=some y):aT Pg GE 0 (cA qa0 119) (LQ (fun(zz:Int)=>mw t13 t14 zz) my jR y) (mw t13 t14 t15):=by
 rcases aZ h with⟨c4,h⟩|⟨c4,h⟩
 ·obtain⟨x5,bx5,h⟩:=aB h
  obtain⟨r6,br6,h⟩:=aB h
  have p8:=fun{sc F} (r:PS sc F)=>sg 0 c4<|sv (cX.ia (k:=.i64) bx5)<|sv (bw x5)<|sx Bn<|sx (iT x5)<|sv (dj x5 [])<|bT (hR31 _ _ br6)<|r
  rcases aZ h with⟨c7,h⟩|⟨c7,h⟩
  ·obtain rfl:=lf h
   have z:=p8<|sg 0 c7<|zn 0 (my (.inl r6)) (jR (.inl r6)) rfl (eg (aI trivial trivial)) (aI trivial trivial)
   exact Gx (A:=qai) mixed (by intro hx;cases hx) z<|by kernel_rfl
  ·obtain rfl:=lf h
   have z:=p8<|sg 0 c7<|zn 0 .normal (mw t13 t14 (aR (t15+1))) rfl (eg (aI (up (aq av t13)) (aI trivial (aI trivial trivial)))) (aI trivial trivial)
   exact dS (A:=qai) mixed z<|by kernel_rfl
 ·obtain rfl:=lf h
  have z:=sg 0 c4<|eF (my (.inr ())) (jR (.inr ()))
  exact i7 qai (by intro hx;cases hx) z<|by kernel_rfl
theorem Aq(hR31:C2 R31){x:Int⊕(Unit)}(h:Ap R31 t13 t14 t15=some x):aT Pg GE 0 (.loop (cA qa0 119)) (EX (my x) (jR x)) (mw t13 t14 t15):=
 aT.loop (S:=fun(zz:Int)=>mw t13 t14 zz) (ex:=my) (s:=t15) h fun zz y hy=>Ig R31 t13 t14 zz hR31 hy
end
def xY(R31:yc)(t:ae):Option Int:=
 (Ej t).bind fun r1=>
 if(r1 !=0)=true then
  some r1
 else
  (Ap R31 t.Args (t.Args.length:Int) 0).bind fun o9=>match o9 with
  |(.inl o9)=>
   some o9
  |(.inr o9)=>
   some 0
theorem NV(R31:yc)(hR31:C2 R31){t:ae}{r:Int}(h:xY R31 t=some r):CC Pg GE 40 [.agg (af t)] (.int .i64 r) []:=by
 obtain⟨r1,br1,h⟩:=aB h
 have p3:=fun{sc F} (r:PS sc F)=>se (cF t)<|sv (bw t)<|bT (PC br1)<|r
 rcases aZ h with⟨c2,h⟩|⟨c2,h⟩
 ·obtain rfl:=lf h
  have z:=p3<|sg 0 c2<|en (aI (rP (.int .i64 r1))<|trivial)
  exact cn qai call40 func40 (c:=qa0) rfl (aI (av t) trivial) z<|by kernel_rfl
 ·obtain⟨o9,bo9,h⟩:=aB h
  rcases o9 with o9|o9
  ·obtain rfl:=lf h
   have z:=p3<|sg 0 c2<|sv (aW t)<|sv (aX t)<|cz (cX.ln t.Args)<|di (e:=.ret) (s1:=jR (.inl o9)) (Aq R31 t.Args (t.Args.length:Int) 0 hR31 bo9)<|en (aI (rP (.int .i64 o9))<|trivial)
   exact cn qai call40 func40 (c:=qa0) rfl (aI (av t) trivial) z<|by kernel_rfl
  ·obtain rfl:=lf h
   have z:=p3<|sg 0 c2<|sv (aW t)<|sv (aX t)<|cz (cX.ln t.Args)<|di (e:=.exit 0) (s1:=jR (.inr o9)) (Aq R31 t.Args (t.Args.length:Int) 0 hR31 bo9)<|en (aI (rP (.int .i64 0))<|trivial)
   exact cn qai call40 func40 (c:=qa0) rfl (aI (av t) trivial) z<|by kernel_rfl
def Dc:(ae->Option Int)->(ae)->Option Int:=fun(rec:ae->Option Int) (x:ae)=>xY (fun t=>rec t) x
def JI(t:ae):Option Int:=oG Dc t
theorem PB{t:ae}{r:Int}(h:JI t=some r):CC Pg GE 40 [.agg (af t)] (.int .i64 r) []:=
 cU (F:=Dc) (M:=fun(x:ae) (r:Int)=>CC Pg GE 40 [.agg (af x)] (.int .i64 r) []) (fun rec hrec x r h=>NV _ (fun t r h=>hrec t r h) h) h
noncomputable def qde:Code:=f16.body.getD .skip
def qc7:List Nat:=[8]
def wH(t:ae):Option Int:=
 (BA t).bind fun r1=>
 if(r1 !=0)=true then
  some r1
 else
  (JI t).bind fun r4=>
  some r4
theorem Ei{t:ae}{r:Int}(h:wH t=some r):CC Pg GE 16 [.agg (af t)] (.int .i64 r) []:=by
 obtain⟨r1,br1,h⟩:=aB h
 have p3:=fun{sc F} (r:PS sc F)=>se (cF t)<|sv (bw t)<|bT (NN br1)<|r
 rcases aZ h with⟨c2,h⟩|⟨c2,h⟩
 ·obtain rfl:=lf h
  have z:=p3<|sg 0 c2<|en (aI (rP (.int .i64 r1))<|trivial)
  exact cn qc7 call16 func16 (c:=qde) rfl (aI (av t) trivial) z<|by kernel_rfl
 ·obtain⟨r4,br4,h⟩:=aB h
  obtain rfl:=lf h
  have z:=p3<|sg 0 c2<|sv (bw t)<|bT (PB br4)<|en (aI (rP (.int .i64 r4))<|trivial)
  exact cn qc7 call16 func16 (c:=qde) rfl (aI (av t) trivial) z<|by kernel_rfl
noncomputable def qdc:Code:=f10.body.getD .skip
def qc5:List Nat:=[]
def wJ(a:aD):Option Bool:=
 (wH a.A).bind fun r1=>
 if(r1==0)=true then
  (wH a.B).bind fun r4=>
  some (r4==0)
 else
  some false
theorem NY{a:aD}{r:Bool}(h:wJ a=some r):CC Pg GE 10 [.agg (ay a)] (.bool r) []:=by
 obtain⟨r1,br1,h⟩:=aB h
 have p3:=fun{sc F} (r:PS sc F)=>se (mP a)<|sv (fm a)<|sv (ft a)<|bT (Ei br1)<|r
 rcases aZ h with⟨c2,h⟩|⟨c2,h⟩
 ·obtain⟨r4,br4,h⟩:=aB h
  obtain rfl:=lf h
  have z:=p3<|sg 5 c2<|sv (fo a)<|sv (fu a)<|bT (Ei br4)<|en (aI (rP (.bool (r4==0)))<|trivial)
  exact cn qc5 call10 func10 (c:=qdc) rfl (aI (bU a) trivial) z<|by kernel_rfl
 ·obtain rfl:=lf h
  have z:=p3<|sg 5 c2<|en (aI (rP (.bool false))<|trivial)
  exact cn qc5 call10 func10 (c:=qdc) rfl (aI (bU a) trivial) z<|by kernel_rfl
noncomputable def qdT:Code:=f33.body.getD .skip
def qdI:List Nat:=[]
def jd(s:ag):Option aa:=
 some (⟨3,s,0,([]:List aa)⟩:aa)
theorem gO{s:ag}{r:aa}(h:jd s=some r):CC Pg GE 33 [.str s] (.agg (ac r)) [(3,36)]:=by
 obtain rfl:=lf h
 have z:=sx lC<|sb (ou 3 s) (oq 3 s)<|sy (aF (⟨3,s,0,([]:List aa)⟩:aa))<|en (aI (e8 (⟨3,s,0,([]:List aa)⟩:aa))<|aI (ah (⟨3,s,0,([]:List aa)⟩:aa))<|rT)
 exact cn qdI call33 func33 (c:=qdT) rfl (aI trivial trivial) z<|by kernel_rfl
noncomputable def qdS:Code:=f32.body.getD .skip
def qdH:List Nat:=[]
def BC(op:Int)(a:aa)(a2:aa):Option aa:=
 some (⟨op,([]:ag),0,([a,a2]:List aa)⟩:aa)
theorem tE{op:Int}{a:aa}{a2:aa}{r:aa}(h:BC op a a2=some r):CC Pg GE 32 [.int .i64 op,.agg (ac a),.agg (ac a2)] (.agg (ac r)) []:=by
 obtain rfl:=lf h
 have z:=se (cr a)<|se (cr a2)<|sx lC<|sv (be a)<|sv (be a2)<|sv (ck.mk' (v:=fe) dl ([a,a2]:List aa) 2 (by kernel_rfl))<|sv (EA op ([a,a2]:List aa))<|sx (dn (⟨op,([]:ag),0,([a,a2]:List aa)⟩:aa))<|en (aI (e8 (⟨op,([]:ag),0,([a,a2]:List aa)⟩:aa))<|(ah (⟨op,([]:ag),0,([a,a2]:List aa)⟩:aa)))
 exact cn qdH call32 func32 (c:=qdS) rfl (aI trivial (aI (ah a) (aI (ah a2) trivial))) z<|by kernel_rfl
noncomputable def qdR:Code:=f31.body.getD .skip
def qdG:List Nat:=[]
def qH(p:aa):Option ae:=
 some (⟨1,([]:ag),([]:List ae),([]:List ag),p,([]:List aa)⟩:ae)
theorem oo{p:aa}{r:ae}(h:qH p=some r):CC Pg GE 31 [.agg (ac p)] (.agg (af r)) [(2,38),(3,9),(8,36)]:=by
 obtain rfl:=lf h
 have z:=se (cr p)<|sx Bn<|sv (be p)<|sb (N9 1 p) (N6 1 p)<|sy (bk (⟨1,([]:ag),([]:List ae),([]:List ag),p,([]:List aa)⟩:ae))<|en (aI (pV (⟨1,([]:ag),([]:List ae),([]:List ag),p,([]:List aa)⟩:ae))<|aI (av (⟨1,([]:ag),([]:List ae),([]:List ag),p,([]:List aa)⟩:ae))<|rT)
 exact cn qdG call31 func31 (c:=qdR) rfl (aI (ah p) trivial) z<|by kernel_rfl
abbrev sB:=(ae->ae->Option Bool)
abbrev xz(R:sB):Prop:=∀(a:ae) (a2:ae) (r:Bool),R a a2=some r->CC Pg GE 34 [.agg (af a),.agg (af a2)] (.bool r) []
noncomputable def qao:Code:=f34.body.getD .skip
def Xs:List Nat:=[32]
section
variable(v:ae)(v2:ae)
def IL:az:=aY 46 [(2,.eptr (af v)),(3,.eptr (af v2))] [.dead,.dead] []
def ni(o:Bool):az:=aY 46 [(2,.eptr (af v)),(3,.eptr (af v2)),(26,.bool o)] [.dead,.dead] []
def ww:Option Bool:=
 if(v.Op !=v2.Op)=true then
  some true
 else
  if(!(v.Name==v2.Name))=true then
   some true
  else
   some ((v.Args.length:Int)!=(v2.Args.length:Int))
theorem GX{x:Bool}(h:ww v v2=some x):aT Pg GE 0 (cA qao 12) (EX .normal (ni v v2 x)) (IL v v2):=by
 have p2:=fun{sc F} (r:PS sc F)=>sv (aK v)<|sv (aL v)<|sv (aK v2)<|sv (aL v2)<|r
 rcases aZ h with⟨c1,h⟩|⟨c1,h⟩
 ·obtain rfl:=lf h
  exact cw Xs (p2<|sg 6 c1<|eF .normal (ni v v2 true))<|by kernel_rfl
 ·have p4:=fun{sc F} (r:PS sc F)=>p2<|sg 6 c1<|sv (df v)<|sv (dA v)<|sv (df v2)<|sv (dA v2)<|r
  rcases aZ h with⟨c3,h⟩|⟨c3,h⟩
  ·obtain rfl:=lf h
   exact cw Xs (p4<|sg 13 c3<|eF .normal (ni v v2 true))<|by kernel_rfl
  ·obtain rfl:=lf h
   exact cw Xs (p4<|sg 13 c3<|sv (aW v)<|sv (aX v)<|cz (cX.ln v.Args)<|sv (aW v2)<|sv (aX v2)<|cz (cX.ln v2.Args)<|eF .normal (ni v v2 ((v.Args.length:Int)!=(v2.Args.length:Int))))<|by kernel_rfl
end
section
variable(R50:sB)(v:ae)(v2:ae)(t29:Int)(t30:Int)
def jH:az:=aY 46 [(2,.eptr (af v)),(3,.eptr (af v2)),(29,.int .i64 t29),(30,.int .i64 t30)] [.dead,.dead] []
def jI(o:Unit⊕(Unit)):Exit:=match o with
 |(.inl _)=>.ret
 |(.inr _)=>.exit 0
def gT(o:Unit⊕(Unit)):az:=match o with
 |(.inl o)=>aY 46 [(4,.bool false)] [.dead,.dead] []
 |(.inr o)=>aY 46 [] [.dead,.dead] []
def rO:Option (Int⊕(Unit⊕(Unit))):=
 if(decide (t30<t29))=true then
  (cR v.Args t30).bind fun x9=>
  (cR v2.Args t30).bind fun x10=>
  (R50 x9 x10).bind fun r11=>
  if(!r11)=true then
   some (.inr (.inl ()))
  else
   some (.inl (aR (t30+1)))
 else
  some (.inr (.inr ()))
def wx:Option (Unit⊕(Unit)):=loop (fun(zz:Int)=>rO R50 v v2 t29 zz) t30
theorem Fy(hR50:xz R50){y:Int⊕(Unit⊕(Unit))}(h:rO R50 v v2 t29 t30=some y):aT Pg GE 0 (cA qao 119) (LQ (fun(zz:Int)=>jH v v2 t29 zz) jI gT y) (jH v v2 t29 t30):=by
 rcases aZ h with⟨c8,h⟩|⟨c8,h⟩
 ·obtain⟨x9,bx9,h⟩:=aB h
  obtain⟨x10,bx10,h⟩:=aB h
  obtain⟨r11,br11,h⟩:=aB h
  have p13:=fun{sc F} (r:PS sc F)=>sg 0 c8<|qX [0,1,0,7,15,0,32,0,224,480,1023,2047]<|sv (aW v)<|sv (aX v)<|sv (cX.ia (k:=.i64) bx9)<|sv (bw x9)<|sv (aW v2)<|sv (aX v2)<|sv (cX.ia (k:=.i64) bx10)<|sv (bw x10)<|bT (hR50 _ _ _ br11)<|r
  rcases aZ h with⟨c12,h⟩|⟨c12,h⟩
  ·obtain rfl:=lf h
   have z:=p13<|sg 0 c12<|eF (jI (.inl ())) (gT (.inl ()))
   exact i7 Xs (by intro hx;cases hx) z<|by kernel_rfl
  ·obtain rfl:=lf h
   exact rU Xs (p13<|sg 0 c12<|eF .normal (jH v v2 t29 (aR (t30+1))))<|by kernel_rfl
 ·obtain rfl:=lf h
  have z:=sg 0 c8<|eF (jI (.inr ())) (gT (.inr ()))
  exact i7 Xs (by intro hx;cases hx) z<|by kernel_rfl
theorem xv(hR50:xz R50){x:Unit⊕(Unit)}(h:wx R50 v v2 t29 t30=some x):aT Pg GE 0 (.loop (cA qao 119)) (EX (jI x) (gT x)) (jH v v2 t29 t30):=
 aT.loop (S:=fun(zz:Int)=>jH v v2 t29 zz) (ex:=jI) (s:=t30) h fun zz y hy=>Fy R50 v v2 t29 zz hR50 hy
end
def sN(R50:sB)(a:ae)(a2:ae):Option Bool:=
 (ww a a2).bind fun o5=>
 if o5=true then
  some false
 else
  (wx R50 a a2 (a.Args.length:Int) 0).bind fun o14=>match o14 with
  |(.inl o14)=>
   some false
  |(.inr o14)=>
   some true
theorem Lb(R50:sB)(hR50:xz R50){a:ae}{a2:ae}{r:Bool}(h:sN R50 a a2=some r):CC Pg GE 34 [.agg (af a),.agg (af a2)] (.bool r) []:=by
 obtain⟨o5,bo5,h⟩:=aB h
 have p7:=fun{sc F} (r:PS sc F)=>se (cF a)<|se (cF a2)<|nD 1<|di (GX a a2 bo5)<|r
 rcases aZ h with⟨c6,h⟩|⟨c6,h⟩
 ·obtain rfl:=lf h
  have z:=p7<|sg 0 c6<|en (aI (rP (.bool false))<|trivial)
  exact cn Xs call34 func34 (c:=qao) rfl (aI (av a) (aI (av a2) trivial)) z<|by kernel_rfl
 ·obtain⟨o14,bo14,h⟩:=aB h
  rcases o14 with o14|o14
  ·obtain rfl:=lf h
   have z:=p7<|sg 0 c6<|sv (aW a)<|sv (aX a)<|cz (cX.ln a.Args)<|di (e:=.ret) (s1:=gT (.inl o14)) (xv R50 a a2 (a.Args.length:Int) 0 hR50 bo14)<|en (aI (rP (.bool false))<|trivial)
   exact cn Xs call34 func34 (c:=qao) rfl (aI (av a) (aI (av a2) trivial)) z<|by kernel_rfl
  ·obtain rfl:=lf h
   have z:=p7<|sg 0 c6<|sv (aW a)<|sv (aX a)<|cz (cX.ln a.Args)<|di (e:=.exit 0) (s1:=gT (.inr o14)) (xv R50 a a2 (a.Args.length:Int) 0 hR50 bo14)<|en (aI (rP (.bool true))<|trivial)
   exact cn Xs call34 func34 (c:=qao) rfl (aI (av a) (aI (av a2) trivial)) z<|by kernel_rfl
def yU:((ae×ae)->Option Bool)->(ae×ae)->Option Bool:=fun(rec:(ae×ae)->Option Bool) (x:ae×ae)=>sN (fun a a2=>rec (a,a2)) x.1 x.2
def D1(a:ae)(a2:ae):Option Bool:=oG yU (a,a2)
theorem Mr{a:ae}{a2:ae}{r:Bool}(h:D1 a a2=some r):CC Pg GE 34 [.agg (af a),.agg (af a2)] (.bool r) []:=
 cU (F:=yU) (M:=fun(x:ae×ae) (r:Bool)=>CC Pg GE 34 [.agg (af x.1),.agg (af x.2)] (.bool r) []) (fun rec hrec x r h=>Lb _ (fun a a2 r h=>hrec (a,a2) r h) h) h
abbrev du:=(aO->ae->ae->waA->Option ak)
abbrev gU(R:du):Prop:=∀(w:aO) (a:ae) (a2:ae) (used:waA) (r:ak),R w a a2 used=some r->CC Pg GE 35 [.agg (aM w),.agg (af a),.agg (af a2),sl cS used] (.agg (ax r)) []
noncomputable def qbV:Code:=f23.body.getD .skip
def qbN:List Nat:=[]
def jk(t:ae):Option Bool:=
 if(t.Op==1)=true then
  some true
 else
  if(t.Op==2)=true then
   some true
  else
   if(t.Op==3)=true then
    some true
   else
    some (t.Op==4)
theorem nh{t:ae}{r:Bool}(h:jk t=some r):CC Pg GE 23 [.agg (af t)] (.bool r) []:=by
 have p2:=fun{sc F} (r:PS sc F)=>se (cF t)<|sv (aK t)<|sv (aL t)<|r
 rcases aZ h with⟨c1,h⟩|⟨c1,h⟩
 ·obtain rfl:=lf h
  have z:=p2<|sg 4 c1<|en (aI (rP (.bool true))<|trivial)
  exact cn qbN call23 func23 (c:=qbV) rfl (aI (av t) trivial) z<|by kernel_rfl
 ·have p4:=fun{sc F} (r:PS sc F)=>p2<|sg 4 c1<|sv (aK t)<|sv (aL t)<|r
  rcases aZ h with⟨c3,h⟩|⟨c3,h⟩
  ·obtain rfl:=lf h
   have z:=p4<|sg 9 c3<|en (aI (rP (.bool true))<|trivial)
   exact cn qbN call23 func23 (c:=qbV) rfl (aI (av t) trivial) z<|by kernel_rfl
  ·have p6:=fun{sc F} (r:PS sc F)=>p4<|sg 9 c3<|sv (aK t)<|sv (aL t)<|r
   rcases aZ h with⟨c5,h⟩|⟨c5,h⟩
   ·obtain rfl:=lf h
    have z:=p6<|sg 14 c5<|en (aI (rP (.bool true))<|trivial)
    exact cn qbN call23 func23 (c:=qbV) rfl (aI (av t) trivial) z<|by kernel_rfl
   ·obtain rfl:=lf h
    have z:=p6<|sg 14 c5<|sv (aK t)<|sv (aL t)<|en (aI (rP (.bool (t.Op==4)))<|trivial)
    exact cn qbN call23 func23 (c:=qbV) rfl (aI (av t) trivial) z<|by kernel_rfl
noncomputable def qar:Code:=f77.body.getD .skip
def qam:List Nat:=[24,35]
section
variable(base:ag)(t11:waA)(t12:Int)(t13:Int)(m0:(List (ag×Bool)))
def iQ:az:=aY 36 [(1,.str base),(5,.mapr 0),(11,sl cS t11),(12,.int .i64 t12),(13,.int .i64 t13)] [.map (Du PVal.bool m0)] []
def pJ(o:(List (ag×Bool))):az:=aY 36 [(1,.str base),(5,.mapr 0)] [.map (Du PVal.bool o)] []
def iR:Option ((Int×(List (ag×Bool)))⊕(((List (ag×Bool))))):=
 if(decide (t13<t12))=true then
  (cR t11 t13).bind fun x2=>
  some (.inl (aR (t13+1),EY m0 x2 true))
 else
  some (.inr m0)
def oM:Option (((List (ag×Bool)))):=loop (fun(zz:Int×(List (ag×Bool)))=>iR t11 t12 zz.1 zz.2) (t13,m0)
theorem DG{y:(Int×(List (ag×Bool)))⊕(((List (ag×Bool))))}(h:iR t11 t12 t13 m0=some y):aT Pg GE 0 (cA qar 119) (LQ (fun(zz:Int×(List (ag×Bool)))=>iQ base t11 t12 zz.1 zz.2) (fun _=>.exit 0) (pJ base) y) (iQ base t11 t12 t13 m0):=by
 rcases aZ h with⟨c1,h⟩|⟨c1,h⟩
 ·obtain⟨x2,bx2,h⟩:=aB h
  obtain rfl:=lf h
  exact rU qam (sg 0 c1<|sv (bJ.ia (k:=.i64) bx2)<|sv (im Mo (.str x2) [])<|qeb (ZU (f:=PVal.bool) underlying154 underlying9 m0 x2 true)<|eF .normal (iQ base t11 t12 (aR (t13+1)) (EY m0 x2 true)))<|by kernel_rfl
 ·obtain rfl:=lf h
  have z:=sg 0 c1<|eF (.exit 0) (pJ base m0)
  exact i7 qam (by intro hx;cases hx) z<|by kernel_rfl
theorem E1{x:((List (ag×Bool)))}(h:oM t11 t12 t13 m0=some x):aT Pg GE 0 (.loop (cA qar 119)) (EX (.exit 0) (pJ base x)) (iQ base t11 t12 t13 m0):=
 aT.loop (S:=fun(zz:Int×(List (ag×Bool)))=>iQ base t11 t12 zz.1 zz.2) (ex:=(fun _=>.exit 0)) (s:=(t13,m0)) h fun zz y hy=>DG base t11 t12 zz.1 zz.2 hy
end
section
variable(base:ag)(m0:(List (ag×Bool)))(n:Int)
def iS:az:=aY 36 [(1,.str base),(5,.mapr 0),(8,.int .i64 n)] [.map (Du PVal.bool m0)] []
def pK(o:ag):az:=aY 36 [(4,.str o)] [.map (Du PVal.bool m0)] []
def gk:Option (Int⊕(ag)):=
 (S6 n).bind fun r6=>
 (ZL base r6).bind fun s7=>
 if(!((zp m0 s7).getD false))=true then
  some (.inr s7)
 else
  some (.inl (aR (n+1)))
def kP:Option ag:=loop (fun(zz:Int)=>gk base m0 zz) n
theorem DH{y:Int⊕(ag)}(h:gk base m0 n=some y):aT Pg GE 0 (cA qar 255) (LQ (fun(zz:Int)=>iS base m0 zz) (fun _=>.ret) (pK m0) y) (iS base m0 n):=by
 obtain⟨r6,br6,h⟩:=aB h
 obtain⟨s7,bs7,h⟩:=aB h
 have p9:=fun{sc F} (r:PS sc F)=>bT (X0 br6)<|sv (Z7 (P:=Pg) (t:=9) bs7)<|sv (Wp (f:=PVal.bool) underlying154 underlying9 qdE m0 s7)<|r
 rcases aZ h with⟨c8,h⟩|⟨c8,h⟩
 ·obtain rfl:=lf h
  have z:=p9<|sg 0 c8<|eF .ret (pK m0 s7)
  exact i7 qam (by intro hx;cases hx) z<|by kernel_rfl
 ·obtain rfl:=lf h
  exact rU qam (p9<|sg 0 c8<|eF .normal (iS base m0 (aR (n+1))))<|by kernel_rfl
theorem E2{x:ag}(h:kP base m0 n=some x):aT Pg GE 0 (.loop (cA qar 255)) (EX .ret (pK m0 x)) (iS base m0 n):=
 aT.loop (S:=fun(zz:Int)=>iS base m0 zz) (ex:=(fun _=>.ret)) (s:=n) h fun zz y hy=>DH base m0 zz hy
end
def kO(used:waA)(base:ag):Option ag:=
 (oM used (used.length:Int) 0 ([]:List (ag×Bool))).bind fun o3=>
 if(!((zp o3 base).getD false))=true then
  some base
 else
  (kP base o3 1).bind fun o10=>
  some o10
theorem tV{used:waA}{base:ag}{r:ag}(h:kO used base=some r):CC Pg GE 77 [sl cS used,.str base] (.str r) []:=by
 obtain⟨o3,bo3,h⟩:=aB h
 have p5:=fun{sc F} (r:PS sc F)=>cz (bJ.ln used)<|di (E1 base used (used.length:Int) 0 ([]:List (ag×Bool)) bo3)<|sv (Wp (f:=PVal.bool) underlying154 underlying9 qdE o3 base)<|r
 rcases aZ h with⟨c4,h⟩|⟨c4,h⟩
 ·obtain rfl:=lf h
  have z:=p5<|sg 0 c4<|en (aI (rP (.str base))<|trivial)
  exact cn qam call77 func77 (c:=qar) rfl (aI (aq gG used) (aI trivial trivial)) z<|by kernel_rfl
 ·obtain⟨o10,bo10,h⟩:=aB h
  obtain rfl:=lf h
  have z:=p5<|sg 0 c4<|di (E2 base o3 1 bo10)<|en (aI (rP (.str o10))<|trivial)
  exact cn qam call77 func77 (c:=qar) rfl (aI (aq gG used) (aI trivial trivial)) z<|by kernel_rfl
noncomputable def XE:Code:=f109.body.getD .skip
def Ve:List Nat:=[10,17]
section
variable(s:waA)(v:ag)(t7:Int)(t8:Int)
def hX:az:=aY 19 [(0,sl cS s),(1,.str v),(7,.int .i64 t7),(8,.int .i64 t8)] [] []
def hZ(o:Int⊕(Unit)):Exit:=match o with
 |(.inl _)=>.ret
 |(.inr _)=>.exit 0
def fG(o:Int⊕(Unit)):az:=match o with
 |(.inl o)=>aY 19 [(4,.int .i64 o)] [] []
 |(.inr o)=>aY 19 [] [] []
def ew:Option (Int⊕(Int⊕(Unit))):=
 if(decide (t8<t7))=true then
  (cR s t8).bind fun x2=>
  if(v==x2)=true then
   some (.inr (.inl t8))
  else
   some (.inl (aR (t8+1)))
 else
  some (.inr (.inr ()))
def rK:Option (Int⊕(Unit)):=loop (fun(zz:Int)=>ew s v t7 zz) t8
theorem Cq{y:Int⊕(Int⊕(Unit))}(h:ew s v t7 t8=some y):aT Pg GE 0 (cA XE 55) (LQ (fun(zz:Int)=>hX s v t7 zz) hZ fG y) (hX s v t7 t8):=by
 rcases aZ h with⟨c1,h⟩|⟨c1,h⟩
 ·obtain⟨x2,bx2,h⟩:=aB h
  have p4:=fun{sc F} (r:PS sc F)=>sg 0 c1<|sv (bJ.ia (k:=.i64) bx2)<|sv (im Mo (.str x2) [])<|r
  rcases aZ h with⟨c3,h⟩|⟨c3,h⟩
  ·obtain rfl:=lf h
   have z:=p4<|sg 0 c3<|eF (hZ (.inl t8)) (fG (.inl t8))
   exact i7 Ve (by intro hx;cases hx) z<|by kernel_rfl
  ·obtain rfl:=lf h
   exact rU Ve (p4<|sg 0 c3<|eF .normal (hX s v t7 (aR (t8+1))))<|by kernel_rfl
 ·obtain rfl:=lf h
  have z:=sg 0 c1<|eF (hZ (.inr ())) (fG (.inr ()))
  exact i7 Ve (by intro hx;cases hx) z<|by kernel_rfl
theorem ug{x:Int⊕(Unit)}(h:rK s v t7 t8=some x):aT Pg GE 0 (.loop (cA XE 55)) (EX (hZ x) (fG x)) (hX s v t7 t8):=
 aT.loop (S:=fun(zz:Int)=>hX s v t7 zz) (ex:=hZ) (s:=t8) h fun zz y hy=>Cq s v t7 zz hy
end
def oZ(s:waA)(v:ag):Option Int:=
 (rK s v (s.length:Int) 0).bind fun o5=>match o5 with
 |(.inl o5)=>
  some o5
 |(.inr o5)=>
  some (-1)
theorem y8{s:waA}{v:ag}{r:Int}(h:oZ s v=some r):CC Pg GE 109 [sl cS s,.str v] (.int .i64 r) []:=by
 obtain⟨o5,bo5,h⟩:=aB h
 rcases o5 with o5|o5
 ·obtain rfl:=lf h
  have z:=cz (bJ.ln s)<|di (e:=.ret) (s1:=fG (.inl o5)) (ug s v (s.length:Int) 0 bo5)<|en (aI (rP (.int .i64 o5))<|trivial)
  exact cn Ve call109 func109 (c:=XE) rfl (aI (aq gG s) (aI trivial trivial)) z<|by kernel_rfl
 ·obtain rfl:=lf h
  have z:=cz (bJ.ln s)<|di (e:=.exit 0) (s1:=fG (.inr o5)) (ug s v (s.length:Int) 0 bo5)<|en (aI (rP (.int .i64 (-1)))<|trivial)
  exact cn Ve call109 func109 (c:=XE) rfl (aI (aq gG s) (aI trivial trivial)) z<|by kernel_rfl
noncomputable def qcw:Code:=f137.body.getD .skip
def qci:List Nat:=[]
def eH(s:waA)(v:ag):Option Bool:=
 (oZ s v).bind fun r1=>
 some (decide (r1>=0))
theorem gB{s:waA}{v:ag}{r:Bool}(h:eH s v=some r):CC Pg GE 137 [sl cS s,.str v] (.bool r) []:=by
 obtain⟨r1,br1,h⟩:=aB h
 obtain rfl:=lf h
 have z:=bT (y8 br1)<|en (aI (rP (.bool (decide (r1>=0))))<|trivial)
 exact cn qci call137 func137 (c:=qcw) rfl (aI (aq gG s) (aI trivial trivial)) z<|by kernel_rfl
noncomputable def XF:Code:=f119.body.getD .skip
def TJ:List Nat:=[13,28,34]
section
variable(hidden:waA)(s:ai)(i:Int)(n:ag)(t9:waA)(t10:Int)(m:waB)(m2:waA)(m3:waB)
def nW:az:=aY 45 [(1,sl cS hidden),(2,.eptr (aw s)),(4,.bptr 1 0),(5,.bptr 2 0),(6,.int .i64 i),(7,.str n),(9,sl cS t9),(10,.int .i64 t10),(11,.int .i64 i)] [.dead,.cells [sl cS ([]:List ag),sl ac m] [(0,9),(1,36)],.cells [sl cS m2,sl ac m3] [(0,9),(1,36)]] []
def d4(o:Bool):az:=aY 45 [(1,sl cS hidden),(2,.eptr (aw s)),(4,.bptr 1 0),(5,.bptr 2 0),(6,.int .i64 i),(7,.str n),(9,sl cS t9),(10,.int .i64 t10),(11,.int .i64 i),(26,.bool o)] [.dead,.cells [sl cS ([]:List ag),sl ac m] [(0,9),(1,36)],.cells [sl cS m2,sl ac m3] [(0,9),(1,36)]] []
def eJ:Option Bool:=
 (eH hidden n).bind fun r3=>
 if(!r3)=true then
  (eH m2 n).bind fun r5=>
  some (!r5)
 else
  some false
theorem nz{x:Bool}(h:eJ hidden n m2=some x):aT Pg GE 0 (cA XF 7670) (EX .normal (d4 hidden s i n t9 t10 m m2 m3 x)) (nW hidden s i n t9 t10 m m2 m3):=by
 obtain⟨r3,br3,h⟩:=aB h
 rcases aZ h with⟨c4,h⟩|⟨c4,h⟩
 ·obtain⟨r5,br5,h⟩:=aB h
  obtain rfl:=lf h
  exact cw TJ (bT (gB br3)<|sg 5 c4<|ss<|bT (gB br5)<|eF .normal (d4 hidden s i n t9 t10 m m2 m3 (!r5)))<|by kernel_rfl
 ·obtain rfl:=lf h
  exact cw TJ (bT (gB br3)<|sg 5 c4<|eF .normal (d4 hidden s i n t9 t10 m m2 m3 false))<|by kernel_rfl
end
section
variable(hidden:waA)(s:ai)(t9:waA)(t10:Int)(m:waB)(t11:Int)(m2:waA)(m3:waB)
def bZ:az:=aY 45 [(1,sl cS hidden),(2,.eptr (aw s)),(4,.bptr 1 0),(5,.bptr 2 0),(9,sl cS t9),(10,.int .i64 t10),(11,.int .i64 t11)] [.dead,.cells [sl cS ([]:List ag),sl ac m] [(0,9),(1,36)],.cells [sl cS m2,sl ac m3] [(0,9),(1,36)]] []
def d5(o:waA×waB):az:=aY 45 [(4,.bptr 1 0),(5,.bptr 2 0)] [.dead,.cells [sl cS ([]:List ag),sl ac m] [(0,9),(1,36)],.cells [sl cS o.1,sl ac o.2] [(0,9),(1,36)]] []
def bH:Option ((Int×waA×waB)⊕((waA×waB))):=
 if(decide (t11<t10))=true then
  (cR t9 t11).bind fun x2=>
  (eJ hidden x2 m2).bind fun o6=>
  if o6=true then
   (app m2 ([x2]:List ag)).bind fun l9=>
   (cR s.by_ t11).bind fun x10=>
   (app m3 ([x10]:List aa)).bind fun l11=>
   some (.inl (aR (t11+1),l9,l11))
  else
   some (.inl (aR (t11+1),m2,m3))
 else
  some (.inr (m2,m3))
def eK:Option ((waA×waB)):=loop (fun(zz:Int×waA×waB)=>bH hidden s t9 t10 zz.1 zz.2.1 zz.2.2) (t11,m2,m3)
theorem mS{y:(Int×waA×waB)⊕((waA×waB))}(h:bH hidden s t9 t10 t11 m2 m3=some y):aT Pg GE 0 (cA XF 119) (LQ (fun(zz:Int×waA×waB)=>bZ hidden s t9 t10 m zz.1 zz.2.1 zz.2.2) (fun _=>.exit 0) (d5 m) y) (bZ hidden s t9 t10 m t11 m2 m3):=by
 rcases aZ h with⟨c1,h⟩|⟨c1,h⟩
 ·obtain⟨x2,bx2,h⟩:=aB h
  obtain⟨o6,bo6,h⟩:=aB h
  have p8:=fun{sc F} (r:PS sc F)=>sg 0 c1<|sv (bJ.ia (k:=.i64) bx2)<|sv (im Mo (.str x2) [])<|nD 0<|di (nz hidden s t11 x2 t9 t10 m m2 m3 bo6)<|r
  rcases aZ h with⟨c7,h⟩|⟨c7,h⟩
  ·obtain⟨l9,bl9,h⟩:=aB h
   obtain⟨x10,bx10,h⟩:=aB h
   obtain⟨l11,bl11,h⟩:=aB h
   obtain rfl:=lf h
   exact rU TJ (p8<|sg 0 c7<|sv (bJ.mk' (v:=PVal.str) KI ([x2]:List ag) 1 (by kernel_rfl))<|sv (bJ.ap bl9)<|qX [0,1,0,4,0,28,60,124,255,511,1023]<|sv (fp s)<|sv (fK s)<|sv (ck.ia (k:=.i64) bx10)<|sv (be x10)<|sv (ck.mk' (v:=fe) dl ([x10]:List aa) 1 (by kernel_rfl))<|sv (ck.ap bl11)<|W6 (rfl:bO (sl ac l11)=some [sl ac l11])<|eF .normal (bZ hidden s t9 t10 m (aR (t11+1)) l9 l11))<|by kernel_rfl
  ·obtain rfl:=lf h
   exact rU TJ (p8<|sg 0 c7<|eF .normal (bZ hidden s t9 t10 m (aR (t11+1)) m2 m3))<|by kernel_rfl
 ·obtain rfl:=lf h
  have z:=sg 0 c1<|eF (.exit 0) (d5 m (m2,m3))
  exact i7 TJ (by intro hx;cases hx) z<|by kernel_rfl
theorem nA{x:(waA×waB)}(h:eK hidden s t9 t10 t11 m2 m3=some x):aT Pg GE 0 (.loop (cA XF 119)) (EX (.exit 0) (d5 m x)) (bZ hidden s t9 t10 m t11 m2 m3):=
 aT.loop (S:=fun(zz:Int×waA×waB)=>bZ hidden s t9 t10 m zz.1 zz.2.1 zz.2.2) (ex:=(fun _=>.exit 0)) (s:=(t11,m2,m3)) h fun zz y hy=>mS hidden s t9 t10 m zz.1 zz.2.1 zz.2.2 hy
end
def bQ(s:ai)(hidden:waA):Option ai:=
 (eK hidden s s.names (s.names.length:Int) 0 ([]:List ag) ([]:List aa)).bind fun o12=>
 some (⟨o12.1,o12.2⟩:ai)
theorem eL{s:ai}{hidden:waA}{r:ai}(h:bQ s hidden=some r):CC Pg GE 119 [.agg (aw s),sl cS hidden] (.agg (aw r)) [(0,9),(1,36)]:=by
 obtain⟨o12,bo12,h⟩:=aB h
 obtain rfl:=lf h
 have z:=se (dm s)<|sx Ni<|sx Ni<|sv (jb s)<|sv (jv s)<|cz (bJ.ln s.names)<|di (nA hidden s s.names (s.names.length:Int) ([]:List aa) 0 ([]:List ag) ([]:List aa) bo12)<|sz (cp (⟨o12.1,o12.2⟩:ai) [])<|sy (cy (⟨o12.1,o12.2⟩:ai))<|en (aI (mT (⟨o12.1,o12.2⟩:ai))<|aI (bm (⟨o12.1,o12.2⟩:ai))<|rT)
 exact cn TJ call119 func119 (c:=XF) rfl (aI (bm s) (aI (aq gG hidden) trivial)) z<|by kernel_rfl
abbrev bN:=(ai->ae->Option ae)
abbrev cx(R:bN):Prop:=∀(s:ai) (t:ae) (r:ae),R s t=some r->CC Pg GE 120 [.agg (aw s),.agg (af t)] (.agg (af r)) [(2,38)]
abbrev mV:=(aa->waA->waB->Option aa)
abbrev rj(R:mV):Prop:=∀(p:aa) (a:waA) (a2:waB) (r:aa),R p a a2=some r->CC Pg GE 65 [.agg (ac p),sl cS a,sl ac a2] (.agg (ac r)) [(3,36)]
noncomputable def qdY:Code:=f92.body.getD .skip
def qdN:List Nat:=[]
def DF(a:waA)(s:ag):Option Int:=
 (oZ a s).bind fun r1=>
 some r1
theorem Me{a:waA}{s:ag}{r:Int}(h:DF a s=some r):CC Pg GE 92 [sl cS a,.str s] (.int .i64 r) []:=by
 obtain⟨r1,br1,h⟩:=aB h
 obtain rfl:=lf h
 have z:=bT (y8 br1)<|en (aI (rP (.int .i64 r1))<|trivial)
 exact cn qdN call92 func92 (c:=qdY) rfl (aI (aq gG a) (aI trivial trivial)) z<|by kernel_rfl
abbrev qi:=(aa->Option aa)
abbrev vw(R:qi):Prop:=∀(p:aa) (r:aa),R p=some r->CC Pg GE 91 [.agg (ac p)] (.agg (ac r)) [(3,36)]
noncomputable def qcF:Code:=f91.body.getD .skip
def qcp:List Nat:=[21]
section
variable(R66:qi)(t14:waB)(t15:Int)(m:waB)(m2:Int)(m3:ag)(m4:Int)(t16:Int)(m5:waB)
def iW:az:=aY 29 [(2,.bptr 1 0),(3,.bptr 2 0),(14,sl ac t14),(15,.int .i64 t15),(16,.int .i64 t16)] [.dead,.cells [.int .i64 0,.str ([]:ag),.int .i64 0,sl ac m] [(3,36)],.cells [.int .i64 m2,.str m3,.int .i64 m4,sl ac m5] [(3,36)]] []
def pR(o:waB):az:=aY 29 [(2,.bptr 1 0),(3,.bptr 2 0)] [.dead,.cells [.int .i64 0,.str ([]:ag),.int .i64 0,sl ac m] [(3,36)],.cells [.int .i64 m2,.str m3,.int .i64 m4,sl ac o] [(3,36)]] []
def lB:Option ((Int×waB)⊕(waB)):=
 if(decide (t16<t15))=true then
  (cR t14 t16).bind fun x2=>
  (R66 x2).bind fun r3=>
  (app m5 ([r3]:List aa)).bind fun l4=>
  some (.inl (aR (t16+1),l4))
 else
  some (.inr m5)
def ud:Option waB:=loop (fun(zz:Int×waB)=>lB R66 t14 t15 zz.1 zz.2) (t16,m5)
theorem DQ(hR66:vw R66){y:(Int×waB)⊕(waB)}(h:lB R66 t14 t15 t16 m5=some y):aT Pg GE 0 (cA qcF 119) (LQ (fun(zz:Int×waB)=>iW t14 t15 m m2 m3 m4 zz.1 zz.2) (fun _=>.exit 0) (pR m m2 m3 m4) y) (iW t14 t15 m m2 m3 m4 t16 m5):=by
 rcases aZ h with⟨c1,h⟩|⟨c1,h⟩
 ·obtain⟨x2,bx2,h⟩:=aB h
  obtain⟨r3,br3,h⟩:=aB h
  obtain⟨l4,bl4,h⟩:=aB h
  obtain rfl:=lf h
  have z:=sg 0 c1<|sv (ck.ia (k:=.i64) bx2)<|sv (be x2)<|sx lC<|sx (dn x2)<|qX [0,1,0,4,12,31,63,127]<|sv (cm x2 [])<|bT (hR66 _ _ br3)<|sv (ck.mk' (v:=fe) dl ([r3]:List aa) 1 (by kernel_rfl))<|sv (ck.ap bl4)<|W6 (rfl:bO (sl ac l4)=some [sl ac l4])<|zn 0 .normal (iW t14 t15 m m2 m3 m4 (aR (t16+1)) l4) rfl (eg (aI (d6 rfl) (aI (d6 rfl) (aI (up (aq ah t14)) (aI trivial (aI trivial trivial)))))) (aI trivial (aI (aI trivial (aI trivial (aI trivial (aI (up (aq ah m)) trivial)))) (aI (aI trivial (aI trivial (aI trivial (aI (up (aq ah l4)) trivial)))) trivial)))
  exact dS (A:=qcp) mixed z<|by kernel_rfl
 ·obtain rfl:=lf h
  have z:=sg 0 c1<|eF (.exit 0) (pR m m2 m3 m4 m5)
  exact i7 qcp (by intro hx;cases hx) z<|by kernel_rfl
theorem Fg(hR66:vw R66){x:waB}(h:ud R66 t14 t15 t16 m5=some x):aT Pg GE 0 (.loop (cA qcF 119)) (EX (.exit 0) (pR m m2 m3 m4 x)) (iW t14 t15 m m2 m3 m4 t16 m5):=
 aT.loop (S:=fun(zz:Int×waB)=>iW t14 t15 m m2 m3 m4 zz.1 zz.2) (ex:=(fun _=>.exit 0)) (s:=(t16,m5)) h fun zz y hy=>DQ R66 t14 t15 m m2 m3 m4 zz.1 zz.2 hR66 hy
end
def wn(R66:qi)(p:aa):Option aa:=
 (ud R66 p.Kids (p.Kids.length:Int) 0 ([]:List aa)).bind fun o5=>
 some (⟨p.Op,p.Name,p.N,o5⟩:aa)
theorem IC(R66:qi)(hR66:vw R66){p:aa}{r:aa}(h:wn R66 p=some r):CC Pg GE 91 [.agg (ac p)] (.agg (ac r)) [(3,36)]:=by
 obtain⟨o5,bo5,h⟩:=aB h
 obtain rfl:=lf h
 have z:=se (cr p)<|sx lC<|sv (bC p)<|sv (bD p)<|sv (cC p)<|sv (cN p)<|sv (de p)<|sv (dz p)<|sb (AJ p.Op p.Name p.N) (AH p.Op p.Name p.N)<|sx lC<|sy (aF (⟨p.Op,p.Name,p.N,([]:List aa)⟩:aa))<|sv (bq p)<|sv (bu p)<|cz (ck.ln p.Kids)<|di (Fg R66 p.Kids (p.Kids.length:Int) ([]:List aa) p.Op p.Name p.N 0 ([]:List aa) hR66 bo5)<|sz (cm (⟨p.Op,p.Name,p.N,o5⟩:aa) [])<|sy (aF (⟨p.Op,p.Name,p.N,o5⟩:aa))<|en (aI (e8 (⟨p.Op,p.Name,p.N,o5⟩:aa))<|aI (ah (⟨p.Op,p.Name,p.N,o5⟩:aa))<|rT)
 exact cn qcp call91 func91 (c:=qcF) rfl (aI (ah p) trivial) z<|by kernel_rfl
def qv:(aa->Option aa)->(aa)->Option aa:=fun(rec:aa->Option aa) (x:aa)=>wn (fun p=>rec p) x
def nQ(p:aa):Option aa:=oG qv p
theorem oO{p:aa}{r:aa}(h:nQ p=some r):CC Pg GE 91 [.agg (ac p)] (.agg (ac r)) [(3,36)]:=
 cU (F:=qv) (M:=fun(x:aa) (r:aa)=>CC Pg GE 91 [.agg (ac x)] (.agg (ac r)) [(3,36)]) (fun rec hrec x r h=>IC _ (fun p r h=>hrec p r h) h) h
noncomputable def qaq:Code:=f65.body.getD .skip
def Xu:List Nat:=[46]
section
variable(v:waA)(v2:waB)(p:aa)(i:Int)(m:waB)
def DP:az:=aY 56 [(1,sl cS v),(2,sl ac v2),(3,.eptr (ac p)),(6,.bptr 1 0),(7,.int .i64 i)] [.dead,.cells [.int .i64 0,.str ([]:ag),.int .i64 0,sl ac m] [(3,36)]] []
def nx(o:Bool):az:=aY 56 [(1,sl cS v),(2,sl ac v2),(3,.eptr (ac p)),(6,.bptr 1 0),(7,.int .i64 i),(25,.bool o)] [.dead,.cells [.int .i64 0,.str ([]:ag),.int .i64 0,sl ac m] [(3,36)]] []
def pP:Option Bool:=
 if(decide (i>=0))=true then
  some (decide (i<(v2.length:Int)))
 else
  some false
theorem Ci{x:Bool}(h:pP v2 i=some x):aT Pg GE 0 (cA qaq 106) (EX .normal (nx v v2 p i m x)) (DP v v2 p i m):=by
 rcases aZ h with⟨c4,h⟩|⟨c4,h⟩
 ·obtain rfl:=lf h
  exact cw Xu (sg 3 c4<|cz (ck.ln v2)<|eF .normal (nx v v2 p i m (decide (i<(v2.length:Int)))))<|by kernel_rfl
 ·obtain rfl:=lf h
  exact cw Xu (sg 3 c4<|eF .normal (nx v v2 p i m false))<|by kernel_rfl
end
section
variable(v:waA)(v2:waB)(p:aa)(m:waB)
def DO:az:=aY 56 [(1,sl cS v),(2,sl ac v2),(3,.eptr (ac p)),(6,.bptr 1 0)] [.dead,.cells [.int .i64 0,.str ([]:ag),.int .i64 0,sl ac m] [(3,36)]] []
def ji(o:(Int×ag×Int×waB)⊕(Unit)):Exit:=match o with
 |(.inl _)=>.ret
 |(.inr _)=>.normal
def eY(o:(Int×ag×Int×waB)⊕(Unit)):az:=match o with
 |(.inl o)=>aY 56 [(6,.bptr 1 0)] [.dead,.cells [.int .i64 o.1,.str o.2.1,.int .i64 o.2.2.1,sl ac o.2.2.2] [(3,36)]] []
 |(.inr o)=>aY 56 [(1,sl cS v),(2,sl ac v2),(3,.eptr (ac p)),(6,.bptr 1 0)] [.dead,.cells [.int .i64 0,.str ([]:ag),.int .i64 0,sl ac m] [(3,36)]] []
def ly:Option ((Int×ag×Int×waB)⊕(Unit)):=
 if(p.Op==3)=true then
  (DF v p.Name).bind fun r3=>
  (pP v2 r3).bind fun o5=>
  if o5=true then
   (cR v2 r3).bind fun x8=>
   (nQ x8).bind fun r9=>
   some (.inl (r9.Op,r9.Name,r9.N,r9.Kids))
  else
   some (.inr ())
 else
  some (.inr ())
theorem rV{x:(Int×ag×Int×waB)⊕(Unit)}(h:ly v v2 p=some x):aT Pg GE 0 (cA qaq 6) (EX (ji x) (eY v v2 p m x)) (DO v v2 p m):=by
 have p2:=fun{sc F} (r:PS sc F)=>sv (bC p)<|sv (bD p)<|r
 rcases aZ h with⟨c1,h⟩|⟨c1,h⟩
 ·obtain⟨r3,br3,h⟩:=aB h
  obtain⟨o5,bo5,h⟩:=aB h
  have p7:=fun{sc F} (r:PS sc F)=>p2<|sg 0 c1<|sv (cC p)<|sv (cN p)<|bT (Me br3)<|nD 0<|di (Ci v v2 p r3 m bo5)<|r
  rcases aZ h with⟨c6,h⟩|⟨c6,h⟩
  ·obtain⟨x8,bx8,h⟩:=aB h
   obtain⟨r9,br9,h⟩:=aB h
   obtain rfl:=lf h
   exact cw Xu (p7<|sg 0 c6<|sv (ck.ia (k:=.i64) bx8)<|sv (be x8)<|bT (oO br9)<|sy (aF r9)<|eF (ji (.inl (r9.Op,r9.Name,r9.N,r9.Kids))) (eY v v2 p m (.inl (r9.Op,r9.Name,r9.N,r9.Kids))))<|by kernel_rfl
  ·obtain rfl:=lf h
   exact cw Xu (p7<|sg 0 c6<|eF (ji (.inr ())) (eY v v2 p m (.inr ())))<|by kernel_rfl
 ·obtain rfl:=lf h
  exact cw Xu (p2<|sg 0 c1<|eF (ji (.inr ())) (eY v v2 p m (.inr ())))<|by kernel_rfl
end
section
variable(R64:mV)(v:waA)(v2:waB)(t39:waB)(t40:Int)(m:waB)(m2:Int)(m3:ag)(m4:Int)(t41:Int)(m5:waB)
def gz:az:=aY 56 [(1,sl cS v),(2,sl ac v2),(6,.bptr 1 0),(8,.bptr 2 0),(39,sl ac t39),(40,.int .i64 t40),(41,.int .i64 t41)] [.dead,.cells [.int .i64 0,.str ([]:ag),.int .i64 0,sl ac m] [(3,36)],.cells [.int .i64 m2,.str m3,.int .i64 m4,sl ac m5] [(3,36)]] []
def ny(o:waB):az:=aY 56 [(6,.bptr 1 0),(8,.bptr 2 0)] [.dead,.cells [.int .i64 0,.str ([]:ag),.int .i64 0,sl ac m] [(3,36)],.cells [.int .i64 m2,.str m3,.int .i64 m4,sl ac o] [(3,36)]] []
def uc:Option ((Int×waB)⊕(waB)):=
 if(decide (t41<t40))=true then
  (cR t39 t41).bind fun x12=>
  (R64 x12 v v2).bind fun r13=>
  (app m5 ([r13]:List aa)).bind fun l14=>
  some (.inl (aR (t41+1),l14))
 else
  some (.inr m5)
def pQ:Option waB:=loop (fun(zz:Int×waB)=>uc R64 v v2 t39 t40 zz.1 zz.2) (t41,m5)
theorem Bi(hR64:rj R64){y:(Int×waB)⊕(waB)}(h:uc R64 v v2 t39 t40 t41 m5=some y):aT Pg GE 0 (cA qaq 247) (LQ (fun(zz:Int×waB)=>gz v v2 t39 t40 m m2 m3 m4 zz.1 zz.2) (fun _=>.exit 0) (ny m m2 m3 m4) y) (gz v v2 t39 t40 m m2 m3 m4 t41 m5):=by
 rcases aZ h with⟨c11,h⟩|⟨c11,h⟩
 ·obtain⟨x12,bx12,h⟩:=aB h
  obtain⟨r13,br13,h⟩:=aB h
  obtain⟨l14,bl14,h⟩:=aB h
  obtain rfl:=lf h
  have z:=sg 0 c11<|sv (ck.ia (k:=.i64) bx12)<|sv (be x12)<|sx lC<|sx (dn x12)<|qX [0,1,0,0,0,28,60,127,255,511]<|sv (cm x12 [])<|bT (hR64 _ _ _ _ br13)<|sv (ck.mk' (v:=fe) dl ([r13]:List aa) 1 (by kernel_rfl))<|sv (ck.ap bl14)<|W6 (rfl:bO (sl ac l14)=some [sl ac l14])<|zn 0 .normal (gz v v2 t39 t40 m m2 m3 m4 (aR (t41+1)) l14) rfl (eg (aI (up (aq gG v)) (aI (up (aq ah v2)) (aI (d6 rfl) (aI (d6 rfl) (aI (up (aq ah t39)) (aI trivial (aI trivial trivial)))))))) (aI trivial (aI (aI trivial (aI trivial (aI trivial (aI (up (aq ah m)) trivial)))) (aI (aI trivial (aI trivial (aI trivial (aI (up (aq ah l14)) trivial)))) trivial)))
  exact dS (A:=Xu) mixed z<|by kernel_rfl
 ·obtain rfl:=lf h
  have z:=sg 0 c11<|eF (.exit 0) (ny m m2 m3 m4 m5)
  exact i7 Xu (by intro hx;cases hx) z<|by kernel_rfl
theorem Cj(hR64:rj R64){x:waB}(h:pQ R64 v v2 t39 t40 t41 m5=some x):aT Pg GE 0 (.loop (cA qaq 247)) (EX (.exit 0) (ny m m2 m3 m4 x)) (gz v v2 t39 t40 m m2 m3 m4 t41 m5):=
 aT.loop (S:=fun(zz:Int×waB)=>gz v v2 t39 t40 m m2 m3 m4 zz.1 zz.2) (ex:=(fun _=>.exit 0)) (s:=(t41,m5)) h fun zz y hy=>Bi R64 v v2 t39 t40 m m2 m3 m4 zz.1 zz.2 hR64 hy
end
def ng(R64:mV)(p:aa)(a:waA)(a2:waB):Option aa:=
 (ly a a2 p).bind fun o10=>match o10 with
 |(.inl o10)=>
  some (⟨o10.1,o10.2.1,o10.2.2.1,o10.2.2.2⟩:aa)
 |(.inr o10)=>
  (pQ R64 a a2 p.Kids (p.Kids.length:Int) 0 ([]:List aa)).bind fun o15=>
  some (⟨p.Op,p.Name,p.N,o15⟩:aa)
theorem Ff(R64:mV)(hR64:rj R64){p:aa}{a:waA}{a2:waB}{r:aa}(h:ng R64 p a a2=some r):CC Pg GE 65 [.agg (ac p),sl cS a,sl ac a2] (.agg (ac r)) [(3,36)]:=by
 obtain⟨o10,bo10,h⟩:=aB h
 rcases o10 with o10|o10
 ·obtain rfl:=lf h
  have z:=se (cr p)<|sx lC<|nD 0<|di (e:=.ret) (s1:=eY a a2 p ([]:List aa) (.inl o10)) (rV a a2 p ([]:List aa) bo10)<|en (aI (e8 (⟨o10.1,o10.2.1,o10.2.2.1,o10.2.2.2⟩:aa))<|aI (ah (⟨o10.1,o10.2.1,o10.2.2.1,o10.2.2.2⟩:aa))<|rT)
  exact cn Xu call65 func65 (c:=qaq) rfl (aI (ah p) (aI (aq gG a) (aI (aq ah a2) trivial))) z<|by kernel_rfl
 ·obtain⟨o15,bo15,h⟩:=aB h
  obtain rfl:=lf h
  have z:=se (cr p)<|sx lC<|nD 0<|di (e:=.normal) (s1:=eY a a2 p ([]:List aa) (.inr o10)) (rV a a2 p ([]:List aa) bo10)<|sv (bC p)<|sv (bD p)<|sv (cC p)<|sv (cN p)<|sv (de p)<|sv (dz p)<|sb (AJ p.Op p.Name p.N) (AH p.Op p.Name p.N)<|sx lC<|sy (aF (⟨p.Op,p.Name,p.N,([]:List aa)⟩:aa))<|sv (bq p)<|sv (bu p)<|cz (ck.ln p.Kids)<|di (Cj R64 a a2 p.Kids (p.Kids.length:Int) ([]:List aa) p.Op p.Name p.N 0 ([]:List aa) hR64 bo15)<|sz (cm (⟨p.Op,p.Name,p.N,o15⟩:aa) [])<|sy (aF (⟨p.Op,p.Name,p.N,o15⟩:aa))<|en (aI (e8 (⟨p.Op,p.Name,p.N,o15⟩:aa))<|aI (ah (⟨p.Op,p.Name,p.N,o15⟩:aa))<|rT)
  exact cn Xu call65 func65 (c:=qaq) rfl (aI (ah p) (aI (aq gG a) (aI (aq ah a2) trivial))) z<|by kernel_rfl
def rE:((aa×waA×waB)->Option aa)->(aa×waA×waB)->Option aa:=fun(rec:(aa×waA×waB)->Option aa) (x:aa×waA×waB)=>ng (fun p a a2=>rec (p,a,a2)) x.1 x.2.1 x.2.2
def j5(p:aa)(a:waA)(a2:waB):Option aa:=oG rE (p,a,a2)
theorem lz{p:aa}{a:waA}{a2:waB}{r:aa}(h:j5 p a a2=some r):CC Pg GE 65 [.agg (ac p),sl cS a,sl ac a2] (.agg (ac r)) [(3,36)]:=
 cU (F:=rE) (M:=fun(x:aa×waA×waB) (r:aa)=>CC Pg GE 65 [.agg (ac x.1),sl cS x.2.1,sl ac x.2.2] (.agg (ac r)) [(3,36)]) (fun rec hrec x r h=>Ff _ (fun p a a2 r h=>hrec (p,a,a2) r h) h) h
noncomputable def qcx:Code:=f139.body.getD .skip
def qcj:List Nat:=[]
def cH(s:ai)(p:aa):Option aa:=
 (j5 p s.names s.by_).bind fun r1=>
 some r1
theorem fM{s:ai}{p:aa}{r:aa}(h:cH s p=some r):CC Pg GE 139 [.agg (aw s),.agg (ac p)] (.agg (ac r)) [(3,36)]:=by
 obtain⟨r1,br1,h⟩:=aB h
 obtain rfl:=lf h
 have z:=se (dm s)<|se (cr p)<|sx lC<|sv (be p)<|sv (jb s)<|sv (jv s)<|sv (fp s)<|sv (fK s)<|bT (lz br1)<|sy (aF r1)<|en (aI (e8 r1)<|aI (ah r1)<|rT)
 exact cn qcj call139 func139 (c:=qcx) rfl (aI (bm s) (aI (ah p) trivial)) z<|by kernel_rfl
noncomputable def ZA:Code:=f140.body.getD .skip
def Zk:List Nat:=[14,21]
section
variable(v:ai)(t8:waB)(t9:Int)(out:waB)(t10:Int)
def fY:az:=aY 22 [(1,.func (.func 139) [.agg (aw v)] []),(5,sl ac out),(8,sl ac t8),(9,.int .i64 t9),(10,.int .i64 t10)] [] [((5,0),36)]
def lW(o:waB):az:=aY 22 [(5,sl ac o)] [] [((5,0),36)]
def rW:Option ((waB×Int)⊕(waB)):=
 if(decide (t10<t9))=true then
  (cR t8 t10).bind fun x2=>
  (cH v x2).bind fun r3=>
  (app out ([r3]:List aa)).bind fun l4=>
  some (.inl (l4,aR (t10+1)))
 else
  some (.inr out)
def oU:Option waB:=loop (fun(zz:waB×Int)=>rW v t8 t9 zz.1 zz.2) (out,t10)
theorem zr{y:(waB×Int)⊕(waB)}(h:rW v t8 t9 out t10=some y):aT Pg GE 0 (cA ZA 119) (LQ (fun(zz:waB×Int)=>fY v t8 t9 zz.1 zz.2) (fun _=>.exit 0) lW y) (fY v t8 t9 out t10):=by
 rcases aZ h with⟨c1,h⟩|⟨c1,h⟩
 ·obtain⟨x2,bx2,h⟩:=aB h
  obtain⟨r3,br3,h⟩:=aB h
  obtain⟨l4,bl4,h⟩:=aB h
  obtain rfl:=lf h
  have z:=sg 0 c1<|sv (ck.ia (k:=.i64) bx2)<|sv (be x2)<|sx lC<|sx (dn x2)<|sv (cm x2 [])<|bT (fM br3)<|sv (ck.mk' (v:=fe) dl ([r3]:List aa) 1 (by kernel_rfl))<|sv (ck.ap bl4)<|zn 0 .normal (fY v t8 t9 l4 (aR (t10+1))) rfl (eg (aI (aI (aI (up (bm v)) trivial) trivial) (aI (up (aq ah l4)) (aI (up (aq ah t8)) (aI trivial (aI trivial trivial)))))) trivial
  exact dS (A:=Zk) mixed z<|by kernel_rfl
 ·obtain rfl:=lf h
  have z:=sg 0 c1<|eF (.exit 0) (lW out)
  exact i7 Zk (by intro hx;cases hx) z<|by kernel_rfl
theorem Bo{x:waB}(h:oU v t8 t9 out t10=some x):aT Pg GE 0 (.loop (cA ZA 119)) (EX (.exit 0) (lW x)) (fY v t8 t9 out t10):=
 aT.loop (S:=fun(zz:waB×Int)=>fY v t8 t9 zz.1 zz.2) (ex:=(fun _=>.exit 0)) (s:=(out,t10)) h fun zz y hy=>zr v t8 t9 zz.1 zz.2 hy
end
def kT(a:waB)(c:ai):Option waB:=
 (oU c a (a.length:Int) ([]:List aa) 0).bind fun o5=>
 some o5
theorem vd{a:waB}{c:ai}{r:waB}(h:kT a c=some r):CC Pg GE 140 [sl ac a,.func (.func 139) [.agg (aw c)] []] (sl ac r) [(0,36)]:=by
 obtain⟨o5,bo5,h⟩:=aB h
 obtain rfl:=lf h
 have z:=cz (ck.ln a)<|di (Bo c a (a.length:Int) ([]:List aa) 0 bo5)<|en (aI (rP (sl ac o5))<|(aq ah o5))
 exact cn Zk call140 func140 (c:=ZA) rfl (aI (aq ah a) (aI (aI (aI (bm c) trivial) trivial) trivial)) z<|by kernel_rfl
noncomputable def ZC:Code:=f151.body.getD .skip
def Zm:List Nat:=[13,18]
section
variable(t7:waB)(t8:Int)(out:waA)(t9:Int)
def cQ:az:=aY 19 [(3,sl cS out),(7,sl ac t7),(8,.int .i64 t8),(9,.int .i64 t9)] [.dead] [((3,0),9)]
def e5(o:waA):az:=aY 19 [(3,sl cS o)] [.dead] [((3,0),9)]
def eZ:Option ((waA×Int)⊕(waA)):=
 if(decide (t9<t8))=true then
  (cR t7 t9).bind fun x2=>
  (pO x2).bind fun r3=>
  (app out r3).bind fun l4=>
  some (.inl (l4,aR (t9+1)))
 else
  some (.inr out)
def fL:Option waA:=loop (fun(zz:waA×Int)=>eZ t7 t8 zz.1 zz.2) (out,t9)
theorem oV{y:(waA×Int)⊕(waA)}(h:eZ t7 t8 out t9=some y):aT Pg GE 0 (cA ZC 119) (LQ (fun(zz:waA×Int)=>cQ t7 t8 zz.1 zz.2) (fun _=>.exit 0) e5 y) (cQ t7 t8 out t9):=by
 rcases aZ h with⟨c1,h⟩|⟨c1,h⟩
 ·obtain⟨x2,bx2,h⟩:=aB h
  obtain⟨r3,br3,h⟩:=aB h
  obtain⟨l4,bl4,h⟩:=aB h
  obtain rfl:=lf h
  have z:=sg 0 c1<|sv (ck.ia (k:=.i64) bx2)<|sv (be x2)<|sx lC<|sx (dn x2)<|sv (cm x2 [])<|bT (Fc br3)<|sv (bJ.ap bl4)<|zn 0 .normal (cQ t7 t8 l4 (aR (t9+1))) rfl (eg (aI (up (aq gG l4)) (aI (up (aq ah t7)) (aI trivial (aI trivial trivial))))) (aI trivial trivial)
  exact dS (A:=Zm) mixed z<|by kernel_rfl
 ·obtain rfl:=lf h
  have z:=sg 0 c1<|eF (.exit 0) (e5 out)
  exact i7 Zm (by intro hx;cases hx) z<|by kernel_rfl
theorem pg{x:waA}(h:fL t7 t8 out t9=some x):aT Pg GE 0 (.loop (cA ZC 119)) (EX (.exit 0) (e5 x)) (cQ t7 t8 out t9):=
 aT.loop (S:=fun(zz:waA×Int)=>cQ t7 t8 zz.1 zz.2) (ex:=(fun _=>.exit 0)) (s:=(out,t9)) h fun zz y hy=>oV t7 t8 zz.1 zz.2 hy
end
def dD(s:ai):Option waA:=
 (fL s.by_ (s.by_.length:Int) ([]:List ag) 0).bind fun o5=>
 some o5
theorem jF{s:ai}{r:waA}(h:dD s=some r):CC Pg GE 151 [.agg (aw s)] (sl cS r) [(0,9)]:=by
 obtain⟨o5,bo5,h⟩:=aB h
 obtain rfl:=lf h
 have z:=se (dm s)<|sv (fp s)<|sv (fK s)<|cz (ck.ln s.by_)<|di (pg s.by_ (s.by_.length:Int) ([]:List ag) 0 bo5)<|en (aI (rP (sl cS o5))<|(aq gG o5))
 exact cn Zm call151 func151 (c:=ZC) rfl (aI (bm s) trivial) z<|by kernel_rfl
abbrev oh:=(ae->Option waA)
abbrev sW(R:oh):Prop:=∀(t:ae) (r:waA),R t=some r->CC Pg GE 152 [.agg (af t)] (sl cS r) [(0,9)]
noncomputable def qaZ:Code:=f157.body.getD .skip
def qaA:List Nat:=[]
def kS(t:ae)(i:Int):Option waA:=
 if(t.Op !=6)=true then
  some ([]:List ag)
 else
  (Ld t.Names none (some (if(t.Names.length:Int)<i then(t.Names.length:Int)else i))).bind fun l3=>
  some l3
theorem Fm{t:ae}{i:Int}{r:waA}(h:kS t i=some r):CC Pg GE 157 [.agg (af t),.int .i64 i] (sl cS r) []:=by
 have p2:=fun{sc F} (r:PS sc F)=>se (cF t)<|sv (aK t)<|sv (aL t)<|r
 rcases aZ h with⟨c1,h⟩|⟨c1,h⟩
 ·obtain rfl:=lf h
  have z:=p2<|sg 0 c1<|en (aI (rP (sl cS ([]:List ag)))<|(aq gG ([]:List ag)))
  exact cn qaA call157 func157 (c:=qaZ) rfl (aI (av t) (aI trivial trivial)) z<|by kernel_rfl
 ·obtain⟨l3,bl3,h⟩:=aB h
  obtain rfl:=lf h
  have z:=p2<|sg 0 c1<|sv (bh t)<|sv (bj t)<|sv (bh t)<|sv (bj t)<|cz (bJ.ln t.Names)<|sv (bJ.sc bl3)<|en (aI (rP (sl cS l3))<|(aq gG l3))
  exact cn qaA call157 func157 (c:=qaZ) rfl (aI (av t) (aI trivial trivial)) z<|by kernel_rfl
end Go.Proofs.YtbaamopmfmpfaaaGreatDoor
