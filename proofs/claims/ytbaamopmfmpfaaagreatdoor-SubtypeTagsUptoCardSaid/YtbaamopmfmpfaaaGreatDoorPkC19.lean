/- PROVED: parts of the proof (G5). Conditions: none. -/
import Derived.Test.YtbaamopmfmpfaaaGreatDoorPkC18
noncomputable section
namespace Go.Proofs.YtbaamopmfmpfaaaGreatDoor
open Go
set_option linter.unusedVariables false
set_option maxRecDepth 100000
def Zw:Code:=Tryz.f106.body.getD .skip
def Zi:List Nat:=[]
section
variable(R38:uK)(t7:waB)(t8:Int)(n:Int)(t9:Int)
def kl:az:=aY 20 [(3,.int .i64 n),(7,sl ac t7),(8,.int .i64 t8),(9,.int .i64 t9)] [.dead] []
def s9(o:Int):az:=aY 20 [(3,.int .i64 o)] [.dead] []
def zN:Option ((Int×Int)⊕(Int)):=
 if(decide (t9<t8))=true then
  (cR t7 t9).bind fun x2=>
  (R38 x2).bind fun r3=>
  some (.inl ((if r3>n then r3 else n),aR (t9+1)))
 else
  some (.inr n)
def xF:Option Int:=loop (fun(zz:Int×Int)=>zN R38 t7 t8 zz.1 zz.2) (n,t9)
theorem FJ(hR38:zw R38){y:(Int×Int)⊕(Int)}(h:zN R38 t7 t8 n t9=some y):
  aT Pg GE 0 (cA Zw 119) (LQ (fun(zz:Int×Int)=>kl t7 t8 zz.1 zz.2) (fun _=>.exit 0) s9 y) (kl t7 t8 n t9):=by
 rcases aZ h with⟨c1,h⟩|⟨c1,h⟩
 ·obtain⟨x2,bx2,h⟩:=aB h
  obtain⟨r3,br3,h⟩:=aB h
  obtain rfl:=lf h
  have z:=sg 0 c1<|sv (ck.ia (k:=.i64) bx2)<|sv (be x2)<|sx lC<|sx (dn x2)<|sv (cm x2 [])<|bT (hR38 _ _ br3)<|zn 0 .normal (kl t7 t8 (if r3>n then r3 else n) (aR (t9+1))) rfl (eg (aI trivial (aI (up (aq ah t7)) (aI trivial (aI trivial trivial))))) (aI trivial trivial)
  exact dS (A:=Zi) mixed z (by kernel_rfl)
 ·obtain rfl:=lf h
  have z:=sg 0 c1<|eF (.exit 0) (s9 n)
  exact i7 Zi (by intro hx;cases hx) z (by kernel_rfl)
theorem HG(hR38:zw R38){x:Int}(h:xF R38 t7 t8 n t9=some x):
  aT Pg GE 0 (.loop (cA Zw 119)) (EX (.exit 0) (s9 x)) (kl t7 t8 n t9):=
 aT.loop (S:=fun(zz:Int×Int)=>kl t7 t8 zz.1 zz.2) (ex:=(fun _=>.exit 0)) (s:=(n,t9)) h fun zz y hy=>FJ R38 t7 t8 zz.1 zz.2 hR38 hy
end
def uA(R38:uK)(p:aa):Option Int:=
 (xF R38 p.Kids (p.Kids.length:Int) 0 0).bind fun o4=>
 some (aR (o4+1))
theorem Lj(R38:uK)(hR38:zw R38){p:aa}{r:Int}(h:uA R38 p=some r):CC Pg GE 106 [.agg (ac p)] (.int .i64 r) []:=by
 obtain⟨o4,bo4,h⟩:=aB h
 obtain rfl:=lf h
 have z:=se (cr p)<|sv (bq p)<|sv (bu p)<|cz (ck.ln p.Kids)<|di (HG R38 p.Kids (p.Kids.length:Int) 0 0 hR38 bo4)<|en (aI (rP (.int .i64 (aR (o4+1))))<|trivial)
 exact cn Zi Tryz.call106 Tryz.func106 (c:=Zw) rfl (aI (ah p) trivial) z (by kernel_rfl)
def zM:(aa->Option Int)->(aa)->Option Int:=fun(rec:aa->Option Int) (x:aa)=>uA (fun p=>rec p) x
def FI(p:aa):Option Int:=oG zM p
theorem NI{p:aa}{r:Int}(h:FI p=some r):CC Pg GE 106 [.agg (ac p)] (.int .i64 r) []:=
 cU (F:=zM) (M:=fun(x:aa) (r:Int)=>CC Pg GE 106 [.agg (ac x)] (.int .i64 r) []) (fun rec hrec x r h=>Lj _ (fun p r h=>hrec p r h) h) h
abbrev ya:=(aa->Option Int)
abbrev C0(R:ya):Prop:=∀(p:aa) (r:Int),R p=some r->CC Pg GE 107 [.agg (ac p)] (.int .i64 r) []
def Zy:Code:=Tryz.f129.body.getD .skip
def Zj:List Nat:=[]
def Bz(op:Int):Option Bool:=
 if(op==3)=true then
  some true
 else
  if(op==4)=true then
   some true
  else
   some (op==5)
theorem NM{op:Int}{r:Bool}(h:Bz op=some r):CC Pg GE 129 [.int .i64 op] (.bool r) []:=by
 rcases aZ h with⟨c1,h⟩|⟨c1,h⟩
 ·obtain rfl:=lf h
  have z:=sg 3 c1<|en (aI (rP (.bool true))<|trivial)
  exact cn Zj Tryz.call129 Tryz.func129 (c:=Zy) rfl (aI trivial trivial) z (by kernel_rfl)
 ·rcases aZ h with⟨c2,h⟩|⟨c2,h⟩
  ·obtain rfl:=lf h
   have z:=sg 3 c1<|sg 7 c2<|en (aI (rP (.bool true))<|trivial)
   exact cn Zj Tryz.call129 Tryz.func129 (c:=Zy) rfl (aI trivial trivial) z (by kernel_rfl)
  ·obtain rfl:=lf h
   have z:=sg 3 c1<|sg 7 c2<|en (aI (rP (.bool (op==5)))<|trivial)
   exact cn Zj Tryz.call129 Tryz.func129 (c:=Zy) rfl (aI trivial trivial) z (by kernel_rfl)
def PM:Code:=Tryz.f130.body.getD .skip
def Hv:List Nat:=[]
section
variable(n:Int)(t5:Int)
def Ln:az:=aY 28 [(1,.int .i64 n),(5,.int .i64 t5)] [] []
def qd(o:Bool):az:=aY 28 [(1,.int .i64 n),(5,.int .i64 t5),(6,.bool o)] [] []
def uC:Option Bool:=
 if(t5==1)=true then
  some (t5==1)
 else
  if(t5==2)=true then
   some (t5==2)
  else
   some (t5==3)
theorem Je{x:Bool}(h:uC t5=some x):
  aT Pg GE 0 (cA PM 54) (EX .normal (qd n t5 x)) (Ln n t5):=by
 rcases aZ h with⟨c1,h⟩|⟨c1,h⟩
 ·obtain rfl:=lf h
  exact cw Hv (sg 0 c1<|eF .normal (qd n t5 (t5==1))) (by kernel_rfl)
 ·rcases aZ h with⟨c2,h⟩|⟨c2,h⟩
  ·obtain rfl:=lf h
   exact cw Hv (sg 0 c1<|sg 0 c2<|eF .normal (qd n t5 (t5==2))) (by kernel_rfl)
  ·obtain rfl:=lf h
   exact cw Hv (sg 0 c1<|sg 0 c2<|eF .normal (qd n t5 (t5==3))) (by kernel_rfl)
end
section
variable(n:Int)(t5:Int)
def Lo:az:=aY 28 [(1,.int .i64 n),(5,.int .i64 t5)] [] []
def vD(o:Bool):az:=aY 28 [(1,.int .i64 n),(5,.int .i64 t5),(12,.bool o)] [] []
def uD:Option Bool:=
 if(t5==4)=true then
  some (t5==4)
 else
  some (t5==5)
theorem Jf{x:Bool}(h:uD t5=some x):
  aT Pg GE 0 (cA PM 222) (EX .normal (vD n t5 x)) (Lo n t5):=by
 rcases aZ h with⟨c6,h⟩|⟨c6,h⟩
 ·obtain rfl:=lf h
  exact cw Hv (sg 0 c6<|eF .normal (vD n t5 (t5==4))) (by kernel_rfl)
 ·obtain rfl:=lf h
  exact cw Hv (sg 0 c6<|eF .normal (vD n t5 (t5==5))) (by kernel_rfl)
end
section
variable(n:Int)(t5:Int)
def Lp:az:=aY 28 [(1,.int .i64 n),(5,.int .i64 t5)] [] []
def vF(o:Bool):az:=aY 28 [(1,.int .i64 n),(21,.bool o)] [] []
def uE:Option Bool:=
 if(t5==9)=true then
  some (t5==9)
 else
  some (t5==14)
theorem Jg{x:Bool}(h:uE t5=some x):
  aT Pg GE 0 (cA PM 894) (EX .normal (vF n x)) (Lp n t5):=by
 rcases aZ h with⟨c12,h⟩|⟨c12,h⟩
 ·obtain rfl:=lf h
  exact cw Hv (sg 0 c12<|eF .normal (vF n (t5==9))) (by kernel_rfl)
 ·obtain rfl:=lf h
  exact cw Hv (sg 0 c12<|eF .normal (vF n (t5==14))) (by kernel_rfl)
end
def od(op:Int)(n:Int):Option Bool:=
 (uC op).bind fun o3=>
 if o3=true then
  some (n==0)
 else
  (uD op).bind fun o7=>
  if o7=true then
   if(decide (n>=1))=true then
    some (decide (n<=24))
   else
    some false
  else
   (uE op).bind fun o13=>
   if o13=true then
    some (n==1)
   else
    some (n==2)
theorem uF{op:Int}{n:Int}{r:Bool}(h:od op n=some r):CC Pg GE 130 [.int .i64 op,.int .i64 n] (.bool r) []:=by
 obtain⟨o3,bo3,h⟩:=aB h
 have p5:=fun{sc F} (r:PS sc F)=>nD 3<|di (Je n op bo3)<|r
 rcases aZ h with⟨c4,h⟩|⟨c4,h⟩
 ·obtain rfl:=lf h
  have z:=p5<|sg 0 c4<|en (aI (rP (.bool (n==0)))<|trivial)
  exact cn Hv Tryz.call130 Tryz.func130 (c:=PM) rfl (aI trivial (aI trivial trivial)) z (by kernel_rfl)
 ·obtain⟨o7,bo7,h⟩:=aB h
  have p9:=fun{sc F} (r:PS sc F)=>p5<|sg 0 c4<|nD 0<|di (Jf n op bo7)<|r
  rcases aZ h with⟨c8,h⟩|⟨c8,h⟩
  ·have p11:=fun{sc F} (r:PS sc F)=>p9<|sg 0 c8<|r
   rcases aZ h with⟨c10,h⟩|⟨c10,h⟩
   ·obtain rfl:=lf h
    have z:=p11<|sg 3 c10<|en (aI (rP (.bool (decide (n<=24))))<|trivial)
    exact cn Hv Tryz.call130 Tryz.func130 (c:=PM) rfl (aI trivial (aI trivial trivial)) z (by kernel_rfl)
   ·obtain rfl:=lf h
    have z:=p11<|sg 3 c10<|en (aI (rP (.bool false))<|trivial)
    exact cn Hv Tryz.call130 Tryz.func130 (c:=PM) rfl (aI trivial (aI trivial trivial)) z (by kernel_rfl)
  ·obtain⟨o13,bo13,h⟩:=aB h
   have p15:=fun{sc F} (r:PS sc F)=>p9<|sg 0 c8<|nD 0<|di (Jg n op bo13)<|r
   rcases aZ h with⟨c14,h⟩|⟨c14,h⟩
   ·obtain rfl:=lf h
    have z:=p15<|sg 0 c14<|en (aI (rP (.bool (n==1)))<|trivial)
    exact cn Hv Tryz.call130 Tryz.func130 (c:=PM) rfl (aI trivial (aI trivial trivial)) z (by kernel_rfl)
   ·obtain rfl:=lf h
    have z:=p15<|sg 0 c14<|en (aI (rP (.bool (n==2)))<|trivial)
    exact cn Hv Tryz.call130 Tryz.func130 (c:=PM) rfl (aI trivial (aI trivial trivial)) z (by kernel_rfl)
def qaX:Code:=Tryz.f131.body.getD .skip
def qay:List Nat:=[]
def NE(n:Int):Option Bool:=
 if(decide (n>=(-1000000000000)))=true then
  some (decide (n<=1000000000000))
 else
  some false
theorem TP{n:Int}{r:Bool}(h:NE n=some r):CC Pg GE 131 [.int .i64 n] (.bool r) []:=by
 rcases aZ h with⟨c1,h⟩|⟨c1,h⟩
 ·obtain rfl:=lf h
  have z:=sg 3 c1<|en (aI (rP (.bool (decide (n<=1000000000000))))<|trivial)
  exact cn qay Tryz.call131 Tryz.func131 (c:=qaX) rfl (aI trivial trivial) z (by kernel_rfl)
 ·obtain rfl:=lf h
  have z:=sg 3 c1<|en (aI (rP (.bool false))<|trivial)
  exact cn qay Tryz.call131 Tryz.func131 (c:=qaX) rfl (aI trivial trivial) z (by kernel_rfl)
def Rm:Code:=Tryz.f132.body.getD .skip
def Rd:List Nat:=[]
def xI(p:aa):Option Bool:=
 if(p.Op==3)=true then
  if(p.Name==([118]:ag))=true then
   some true
  else
   (qD p.Name).bind fun r5=>
   some (r5==0)
 else
  if (p.Op == 4) = true then
   if(p.Name==([116,97,103]:ag))=true then
    some true
   else
    if(p.Name==([118,97,108]:ag))=true then
     some true
    else
     (qD p.Name).bind fun r12=>
     some (r12==0)
  else
   if(p.Op==5)=true then
    (qD p.Name).bind fun r15=>
    some (r15==0)
   else
    some true
theorem Lm{p:aa}{r:Bool}(h:xI p=some r):CC Pg GE 132 [.agg (ac p)] (.bool r) []:=by
 have p2:=fun{sc F} (r:PS sc F)=>se (cr p)<|sv (bC p)<|sv (bD p)<|r
 rcases aZ h with⟨c1,h⟩|⟨c1,h⟩
 ·have p4:=fun{sc F} (r:PS sc F)=>p2<|sg 0 c1<|sv (cC p)<|sv (cN p)<|r
  rcases aZ h with⟨c3,h⟩|⟨c3,h⟩
  ·obtain rfl:=lf h
   have z:=p4<|sg 4 c3<|en (aI (rP (.bool true))<|trivial)
   exact cn Rd Tryz.call132 Tryz.func132 (c:=Rm) rfl (aI (ah p) trivial) z (by kernel_rfl)
  ·obtain⟨r5,br5,h⟩:=aB h
   obtain rfl:=lf h
   have z:=p4<|sg 4 c3<|sv (cC p)<|sv (cN p)<|bT (qE br5)<|en (aI (rP (.bool (r5==0)))<|trivial)
   exact cn Rd Tryz.call132 Tryz.func132 (c:=Rm) rfl (aI (ah p) trivial) z (by kernel_rfl)
 ·have p7:=fun{sc F} (r:PS sc F)=>p2<|sg 0 c1<|r
  rcases aZ h with⟨c6,h⟩|⟨c6,h⟩
  ·have p9:=fun{sc F} (r:PS sc F)=>p7<|sg 0 c6<|sv (cC p)<|sv (cN p)<|r
   rcases aZ h with⟨c8,h⟩|⟨c8,h⟩
   ·obtain rfl:=lf h
    have z:=p9<|sg 4 c8<|en (aI (rP (.bool true))<|trivial)
    exact cn Rd Tryz.call132 Tryz.func132 (c:=Rm) rfl (aI (ah p) trivial) z (by kernel_rfl)
   ·have p11:=fun{sc F} (r:PS sc F)=>p9<|sg 4 c8<|sv (cC p)<|sv (cN p)<|r
    rcases aZ h with⟨c10,h⟩|⟨c10,h⟩
    ·obtain rfl:=lf h
     have z:=p11<|sg 9 c10<|en (aI (rP (.bool true))<|trivial)
     exact cn Rd Tryz.call132 Tryz.func132 (c:=Rm) rfl (aI (ah p) trivial) z (by kernel_rfl)
    ·obtain⟨r12,br12,h⟩:=aB h
     obtain rfl:=lf h
     have z:=p11<|sg 9 c10<|sv (cC p)<|sv (cN p)<|bT (qE br12)<|en (aI (rP (.bool (r12==0)))<|trivial)
     exact cn Rd Tryz.call132 Tryz.func132 (c:=Rm) rfl (aI (ah p) trivial) z (by kernel_rfl)
  ·have p14:=fun{sc F} (r:PS sc F)=>p7<|sg 0 c6<|r
   rcases aZ h with⟨c13,h⟩|⟨c13,h⟩
   ·obtain⟨r15,br15,h⟩:=aB h
    obtain rfl:=lf h
    have z:=p14<|sg 0 c13<|sv (cC p)<|sv (cN p)<|bT (qE br15)<|en (aI (rP (.bool (r15==0)))<|trivial)
    exact cn Rd Tryz.call132 Tryz.func132 (c:=Rm) rfl (aI (ah p) trivial) z (by kernel_rfl)
   ·obtain rfl:=lf h
    have z:=p14<|sg 0 c13<|en (aI (rP (.bool true))<|trivial)
    exact cn Rd Tryz.call132 Tryz.func132 (c:=Rm) rfl (aI (ah p) trivial) z (by kernel_rfl)
def N2:Code:=Tryz.f117.body.getD .skip
def ri:List Nat:=[]
section
variable(p:aa)
def Lq:az:=aY 87 [(1,.eptr (ac p))] [.dead] []
def vG(o:Bool):az:=aY 87 [(1,.eptr (ac p)),(3,.bool o)] [.dead] []
def zV:Option Bool:=
 if(p.Op==1)=true then
  some true
 else
  some (p.Op==2)
theorem Jh{x:Bool}(h:zV p=some x):
  aT Pg GE 0 (cA N2 6) (EX .normal (vG p x)) (Lq p):=by
 have p2:=fun{sc F} (r:PS sc F)=>sv (bC p)<|sv (bD p)<|r
 rcases aZ h with⟨c1,h⟩|⟨c1,h⟩
 ·obtain rfl:=lf h
  exact cw ri (p2<|sg 4 c1<|eF .normal (vG p true)) (by kernel_rfl)
 ·obtain rfl:=lf h
  exact cw ri (p2<|sg 4 c1<|sv (bC p)<|sv (bD p)<|eF .normal (vG p (p.Op==2))) (by kernel_rfl)
end
section
variable(p:aa)(number:Bool)
def Lr:az:=aY 87 [(1,.eptr (ac p)),(3,.bool number)] [.dead] []
def d7(o:Bool):az:=aY 87 [(1,.eptr (ac p)),(48,.bool o)] [.dead] []
def zW:Option Bool:=
 if(decide (p.Op<1))=true then
  some true
 else
  if(decide (p.Op>18))=true then
   some true
  else
   if (!(p.Name == ([]:ag))) = true then
    (Bz p.Op).bind fun r10=>
    if(!r10)=true then
     some true
    else
     if(p.N !=0)=true then
      if(!number)=true then
       some true
      else
       (od p.Op (p.Kids.length:Int)).bind fun r17=>
       some (!r17)
     else
      (od p.Op (p.Kids.length:Int)).bind fun r18=>
      some (!r18)
   else
    if(p.N !=0)=true then
     if(!number)=true then
      some true
     else
      (od p.Op (p.Kids.length:Int)).bind fun r23=>
      some (!r23)
    else
     (od p.Op (p.Kids.length:Int)).bind fun r24=>
     some (!r24)
theorem Ji{x:Bool}(h:zW p number=some x):
  aT Pg GE 0 (cA N2 28) (EX .normal (d7 p x)) (Lr p number):=by
 have p5:=fun{sc F} (r:PS sc F)=>sv (bC p)<|sv (bD p)<|r
 rcases aZ h with⟨c4,h⟩|⟨c4,h⟩
 ·obtain rfl:=lf h
  exact cw ri (p5<|sg 4 c4<|eF .normal (d7 p true)) (by kernel_rfl)
 ·have p7:=fun{sc F} (r:PS sc F)=>p5<|sg 4 c4<|sv (bC p)<|sv (bD p)<|r
  rcases aZ h with⟨c6,h⟩|⟨c6,h⟩
  ·obtain rfl:=lf h
   exact cw ri (p7<|sg 9 c6<|eF .normal (d7 p true)) (by kernel_rfl)
  ·have p9:=fun{sc F} (r:PS sc F)=>p7<|sg 9 c6<|sv (cC p)<|sv (cN p)<|r
   rcases aZ h with⟨c8,h⟩|⟨c8,h⟩
   ·obtain⟨r10,br10,h⟩:=aB h
    have p12:=fun{sc F} (r:PS sc F)=>p9<|sg 13 c8<|sv (bC p)<|sv (bD p)<|bT (NM br10)<|r
    rcases aZ h with⟨c11,h⟩|⟨c11,h⟩
    ·obtain rfl:=lf h
     exact cw ri (p12<|sg 20 c11<|eF .normal (d7 p true)) (by kernel_rfl)
    ·have p14:=fun{sc F} (r:PS sc F)=>p12<|sg 20 c11<|sv (de p)<|sv (dz p)<|r
     rcases aZ h with⟨c13,h⟩|⟨c13,h⟩
     ·have p16:=fun{sc F} (r:PS sc F)=>p14<|sg 24 c13<|r
      rcases aZ h with⟨c15,h⟩|⟨c15,h⟩
      ·obtain rfl:=lf h
       exact cw ri (p16<|sg 29 c15<|eF .normal (d7 p true)) (by kernel_rfl)
      ·obtain⟨r17,br17,h⟩:=aB h
       obtain rfl:=lf h
       exact cw ri (p16<|sg 29 c15<|sv (bC p)<|sv (bD p)<|sv (bq p)<|sv (bu p)<|cz (ck.ln p.Kids)<|bT (uF br17)<|eF .normal (d7 p (!r17))) (by kernel_rfl)
     ·obtain⟨r18,br18,h⟩:=aB h
      obtain rfl:=lf h
      exact cw ri (p14<|sg 24 c13<|sv (bC p)<|sv (bD p)<|sv (bq p)<|sv (bu p)<|cz (ck.ln p.Kids)<|bT (uF br18)<|eF .normal (d7 p (!r18))) (by kernel_rfl)
   ·have p20:=fun{sc F} (r:PS sc F)=>p9<|sg 13 c8<|sv (de p)<|sv (dz p)<|r
    rcases aZ h with⟨c19,h⟩|⟨c19,h⟩
    ·have p22:=fun{sc F} (r:PS sc F)=>p20<|sg 24 c19<|r
     rcases aZ h with⟨c21,h⟩|⟨c21,h⟩
     ·obtain rfl:=lf h
      exact cw ri (p22<|sg 29 c21<|eF .normal (d7 p true)) (by kernel_rfl)
     ·obtain⟨r23,br23,h⟩:=aB h
      obtain rfl:=lf h
      exact cw ri (p22<|sg 29 c21<|sv (bC p)<|sv (bD p)<|sv (bq p)<|sv (bu p)<|cz (ck.ln p.Kids)<|bT (uF br23)<|eF .normal (d7 p (!r23))) (by kernel_rfl)
    ·obtain⟨r24,br24,h⟩:=aB h
     obtain rfl:=lf h
     exact cw ri (p20<|sg 24 c19<|sv (bC p)<|sv (bD p)<|sv (bq p)<|sv (bu p)<|cz (ck.ln p.Kids)<|bT (uF br24)<|eF .normal (d7 p (!r24))) (by kernel_rfl)
end
section
variable(p:aa)
def Ls:az:=aY 87 [(1,.eptr (ac p))] [.dead] []
def gg(o:Bool):az:=aY 87 [(1,.eptr (ac p)),(72,.bool o)] [.dead] []
def zX:Option Bool:=
 if (p.Op == 1) = true then
  (NE p.N).bind fun r30=>
  if(!r30)=true then
   some true
  else
   if(p.Op==2)=true then
    if(decide (p.N<0))=true then
     some true
    else
     some (decide (p.N>1))
   else
    some false
 else
  if(p.Op==2)=true then
   if(decide (p.N<0))=true then
    some true
   else
    some (decide (p.N>1))
  else
   some false
theorem Jj{x:Bool}(h:zX p=some x):
  aT Pg GE 0 (cA N2 60) (EX .normal (gg p x)) (Ls p):=by
 have p29:=fun{sc F} (r:PS sc F)=>sv (bC p)<|sv (bD p)<|r
 rcases aZ h with⟨c28,h⟩|⟨c28,h⟩
 ·obtain⟨r30,br30,h⟩:=aB h
  have p32:=fun{sc F} (r:PS sc F)=>p29<|sg 4 c28<|sv (de p)<|sv (dz p)<|bT (TP br30)<|r
  rcases aZ h with⟨c31,h⟩|⟨c31,h⟩
  ·obtain rfl:=lf h
   exact cw ri (p32<|sg 10 c31<|eF .normal (gg p true)) (by kernel_rfl)
  ·have p34:=fun{sc F} (r:PS sc F)=>p32<|sg 10 c31<|sv (bC p)<|sv (bD p)<|r
   rcases aZ h with⟨c33,h⟩|⟨c33,h⟩
   ·have p36:=fun{sc F} (r:PS sc F)=>p34<|sg 14 c33<|sv (de p)<|sv (dz p)<|r
    rcases aZ h with⟨c35,h⟩|⟨c35,h⟩
    ·obtain rfl:=lf h
     exact cw ri (p36<|sg 18 c35<|eF .normal (gg p true)) (by kernel_rfl)
    ·obtain rfl:=lf h
     exact cw ri (p36<|sg 18 c35<|sv (de p)<|sv (dz p)<|eF .normal (gg p (decide (p.N>1)))) (by kernel_rfl)
   ·obtain rfl:=lf h
    exact cw ri (p34<|sg 14 c33<|eF .normal (gg p false)) (by kernel_rfl)
 ·have p38:=fun{sc F} (r:PS sc F)=>p29<|sg 4 c28<|sv (bC p)<|sv (bD p)<|r
  rcases aZ h with⟨c37,h⟩|⟨c37,h⟩
  ·have p40:=fun{sc F} (r:PS sc F)=>p38<|sg 14 c37<|sv (de p)<|sv (dz p)<|r
   rcases aZ h with⟨c39,h⟩|⟨c39,h⟩
   ·obtain rfl:=lf h
    exact cw ri (p40<|sg 18 c39<|eF .normal (gg p true)) (by kernel_rfl)
   ·obtain rfl:=lf h
    exact cw ri (p40<|sg 18 c39<|sv (de p)<|sv (dz p)<|eF .normal (gg p (decide (p.N>1)))) (by kernel_rfl)
  ·obtain rfl:=lf h
   exact cw ri (p38<|sg 14 c37<|eF .normal (gg p false)) (by kernel_rfl)
end
section
variable(p:aa)
def Lt:az:=aY 87 [(1,.eptr (ac p))] [.dead] []
def vH(o:Bool):az:=aY 87 [(86,.bool o)] [.dead] []
def zY:Option Bool:=
 if(p.Op==8)=true then
  (cR p.Kids 0).bind fun x49=>
  some (x49.Op !=1)
 else
  some false
theorem Jk{x:Bool}(h:zY p=some x):
  aT Pg GE 0 (cA N2 252) (EX .normal (vH x)) (Lt p):=by
 have p48:=fun{sc F} (r:PS sc F)=>sv (bC p)<|sv (bD p)<|r
 rcases aZ h with⟨c47,h⟩|⟨c47,h⟩
 ·obtain⟨x49,bx49,h⟩:=aB h
  obtain rfl:=lf h
  exact cw ri (p48<|sg 4 c47<|sv (bq p)<|sv (bu p)<|sv (ck.ia (k:=.i64) bx49)<|sv (bC x49)<|sv (bD x49)<|eF .normal (vH (x49.Op !=1))) (by kernel_rfl)
 ·obtain rfl:=lf h
  exact cw ri (p48<|sg 4 c47<|eF .normal (vH false)) (by kernel_rfl)
end
def D8(p:aa):Option Int:=
 (zV p).bind fun o3=>
 (zW p o3).bind fun o25=>
 if o25=true then
  some 1
 else
  (zX p).bind fun o41=>
  if o41=true then
   some 2
  else
   (xI p).bind fun r44=>
   if(!r44)=true then
    some 3
   else
    (zY p).bind fun o50=>
    if o50=true then
     some 6
    else
     some 0
theorem Px{p:aa}{r:Int}(h:D8 p=some r):CC Pg GE 117 [.agg (ac p)] (.int .i64 r) []:=by
 obtain⟨o3,bo3,h⟩:=aB h
 obtain⟨o25,bo25,h⟩:=aB h
 have p27:=fun{sc F} (r:PS sc F)=>se (cr p)<|nD 0<|di (Jh p bo3)<|nD 1<|di (Ji p o3 bo25)<|r
 rcases aZ h with⟨c26,h⟩|⟨c26,h⟩
 ·obtain rfl:=lf h
  have z:=p27<|sg 0 c26<|en (aI (rP (.int .i64 1))<|trivial)
  exact cn ri Tryz.call117 Tryz.func117 (c:=N2) rfl (aI (ah p) trivial) z (by kernel_rfl)
 ·obtain⟨o41,bo41,h⟩:=aB h
  have p43:=fun{sc F} (r:PS sc F)=>p27<|sg 0 c26<|nD 1<|di (Jj p bo41)<|r
  rcases aZ h with⟨c42,h⟩|⟨c42,h⟩
  ·obtain rfl:=lf h
   have z:=p43<|sg 0 c42<|en (aI (rP (.int .i64 2))<|trivial)
   exact cn ri Tryz.call117 Tryz.func117 (c:=N2) rfl (aI (ah p) trivial) z (by kernel_rfl)
  ·obtain⟨r44,br44,h⟩:=aB h
   have p46:=fun{sc F} (r:PS sc F)=>p43<|sg 0 c42<|sv (be p)<|bT (Lm br44)<|r
   rcases aZ h with⟨c45,h⟩|⟨c45,h⟩
   ·obtain rfl:=lf h
    have z:=p46<|sg 0 c45<|en (aI (rP (.int .i64 3))<|trivial)
    exact cn ri Tryz.call117 Tryz.func117 (c:=N2) rfl (aI (ah p) trivial) z (by kernel_rfl)
   ·obtain⟨o50,bo50,h⟩:=aB h
    have p52:=fun{sc F} (r:PS sc F)=>p46<|sg 0 c45<|nD 1<|di (Jk p bo50)<|r
    rcases aZ h with⟨c51,h⟩|⟨c51,h⟩
    ·obtain rfl:=lf h
     have z:=p52<|sg 0 c51<|en (aI (rP (.int .i64 6))<|trivial)
     exact cn ri Tryz.call117 Tryz.func117 (c:=N2) rfl (aI (ah p) trivial) z (by kernel_rfl)
    ·obtain rfl:=lf h
     have z:=p52<|sg 0 c51<|en (aI (rP (.int .i64 0))<|trivial)
     exact cn ri Tryz.call117 Tryz.func117 (c:=N2) rfl (aI (ah p) trivial) z (by kernel_rfl)
def Vu:Code:=Tryz.f107.body.getD .skip
def TH:List Nat:=[11,23]
section
variable(R39:ya)(t13:waB)(t14:Int)(t15:Int)
def ml:az:=aY 25 [(13,sl ac t13),(14,.int .i64 t14),(15,.int .i64 t15)] [.dead] []
def mm(o:Int⊕(Unit)):Exit:=match o with
 |(.inl _)=>.ret
 |(.inr _)=>.exit 0
def jN(o:Int⊕(Unit)):az:=match o with
 |(.inl o)=>aY 25 [(2,.int .i64 o)] [.dead] []
 |(.inr o)=>aY 25 [] [.dead] []
def Cs:Option (Int⊕(Int⊕(Unit))):=
 if(decide (t15<t14))=true then
  (cR t13 t15).bind fun x5=>
  (R39 x5).bind fun r6=>
  if(r6 !=0)=true then
   some (.inr (.inl r6))
  else
   some (.inl (aR (t15+1)))
 else
  some (.inr (.inr ()))
def zT:Option (Int⊕(Unit)):=loop (fun(zz:Int)=>Cs R39 t13 t14 zz) t15
theorem HJ(hR39:C0 R39){y:Int⊕(Int⊕(Unit))}(h:Cs R39 t13 t14 t15=some y):
  aT Pg GE 0 (cA Vu 119) (LQ (fun(zz:Int)=>ml t13 t14 zz) mm jN y) (ml t13 t14 t15):=by
 rcases aZ h with⟨c4,h⟩|⟨c4,h⟩
 ·obtain⟨x5,bx5,h⟩:=aB h
  obtain⟨r6,br6,h⟩:=aB h
  have p8:=fun{sc F} (r:PS sc F)=>sg 0 c4<|sv (ck.ia (k:=.i64) bx5)<|sv (be x5)<|sx lC<|sx (dn x5)<|sv (cm x5 [])<|bT (hR39 _ _ br6)<|r
  rcases aZ h with⟨c7,h⟩|⟨c7,h⟩
  ·obtain rfl:=lf h
   have z:=p8<|sg 0 c7<|zn 0 (mm (.inl r6)) (jN (.inl r6)) rfl (eg (aI trivial trivial)) (aI trivial trivial)
   exact Gx (A:=TH) mixed (by intro hx;cases hx) z (by kernel_rfl)
  ·obtain rfl:=lf h
   have z:=p8<|sg 0 c7<|zn 0 .normal (ml t13 t14 (aR (t15+1))) rfl (eg (aI (up (aq ah t13)) (aI trivial (aI trivial trivial)))) (aI trivial trivial)
   exact dS (A:=TH) mixed z (by kernel_rfl)
 ·obtain rfl:=lf h
  have z:=sg 0 c4<|eF (mm (.inr ())) (jN (.inr ()))
  exact i7 TH (by intro hx;cases hx) z (by kernel_rfl)
theorem zU(hR39:C0 R39){x:Int⊕(Unit)}(h:zT R39 t13 t14 t15=some x):
  aT Pg GE 0 (.loop (cA Vu 119)) (EX (mm x) (jN x)) (ml t13 t14 t15):=
 aT.loop (S:=fun(zz:Int)=>ml t13 t14 zz) (ex:=mm) (s:=t15) h fun zz y hy=>HJ R39 t13 t14 zz hR39 hy
end
def xJ(R39:ya)(p:aa):Option Int:=
 (D8 p).bind fun r1=>
 if(r1 !=0)=true then
  some r1
 else
  (zT R39 p.Kids (p.Kids.length:Int) 0).bind fun o9=>match o9 with
  |(.inl o9)=>
   some o9
  |(.inr o9)=>
   some 0
theorem NL(R39:ya)(hR39:C0 R39){p:aa}{r:Int}(h:xJ R39 p=some r):CC Pg GE 107 [.agg (ac p)] (.int .i64 r) []:=by
 obtain⟨r1,br1,h⟩:=aB h
 have p3:=fun{sc F} (r:PS sc F)=>se (cr p)<|sv (be p)<|bT (Px br1)<|r
 rcases aZ h with⟨c2,h⟩|⟨c2,h⟩
 ·obtain rfl:=lf h
  have z:=p3<|sg 0 c2<|en (aI (rP (.int .i64 r1))<|trivial)
  exact cn TH Tryz.call107 Tryz.func107 (c:=Vu) rfl (aI (ah p) trivial) z (by kernel_rfl)
 ·obtain⟨o9,bo9,h⟩:=aB h
  rcases o9 with o9|o9
  ·obtain rfl:=lf h
   have z:=p3<|sg 0 c2<|sv (bq p)<|sv (bu p)<|cz (ck.ln p.Kids)<|di (e:=.ret) (s1:=jN (.inl o9)) (zU R39 p.Kids (p.Kids.length:Int) 0 hR39 bo9)<|en (aI (rP (.int .i64 o9))<|trivial)
   exact cn TH Tryz.call107 Tryz.func107 (c:=Vu) rfl (aI (ah p) trivial) z (by kernel_rfl)
  ·obtain rfl:=lf h
   have z:=p3<|sg 0 c2<|sv (bq p)<|sv (bu p)<|cz (ck.ln p.Kids)<|di (e:=.exit 0) (s1:=jN (.inr o9)) (zU R39 p.Kids (p.Kids.length:Int) 0 hR39 bo9)<|en (aI (rP (.int .i64 0))<|trivial)
   exact cn TH Tryz.call107 Tryz.func107 (c:=Vu) rfl (aI (ah p) trivial) z (by kernel_rfl)
def C5:(aa->Option Int)->(aa)->Option Int:=fun(rec:aa->Option Int) (x:aa)=>xJ (fun p=>rec p) x
def Jd(p:aa):Option Int:=oG C5 p
theorem Pw{p:aa}{r:Int}(h:Jd p=some r):CC Pg GE 107 [.agg (ac p)] (.int .i64 r) []:=
 cU (F:=C5) (M:=fun(x:aa) (r:Int)=>CC Pg GE 107 [.agg (ac x)] (.int .i64 r) []) (fun rec hrec x r h=>NL _ (fun p r h=>hrec p r h) h) h
def qcE:Code:=Tryz.f89.body.getD .skip
def qco:List Nat:=[]
def By(p:aa):Option Int:=
 (FK p).bind fun r1=>
 if(decide (r1>400))=true then
  some 7
 else
  (FI p).bind fun r4=>
  if(decide (r4>40))=true then
   some 8
  else
   (Jd p).bind fun r7=>
   some r7
theorem NH{p:aa}{r:Int}(h:By p=some r):CC Pg GE 89 [.agg (ac p)] (.int .i64 r) []:=by
 obtain⟨r1,br1,h⟩:=aB h
 have p3:=fun{sc F} (r:PS sc F)=>se (cr p)<|sv (be p)<|bT (NJ br1)<|r
 rcases aZ h with⟨c2,h⟩|⟨c2,h⟩
 ·obtain rfl:=lf h
  have z:=p3<|sg 0 c2<|en (aI (rP (.int .i64 7))<|trivial)
  exact cn qco Tryz.call89 Tryz.func89 (c:=qcE) rfl (aI (ah p) trivial) z (by kernel_rfl)
 ·obtain⟨r4,br4,h⟩:=aB h
  have p6:=fun{sc F} (r:PS sc F)=>p3<|sg 0 c2<|sv (be p)<|bT (NI br4)<|r
  rcases aZ h with⟨c5,h⟩|⟨c5,h⟩
  ·obtain rfl:=lf h
   have z:=p6<|sg 0 c5<|en (aI (rP (.int .i64 8))<|trivial)
   exact cn qco Tryz.call89 Tryz.func89 (c:=qcE) rfl (aI (ah p) trivial) z (by kernel_rfl)
  ·obtain⟨r7,br7,h⟩:=aB h
   obtain rfl:=lf h
   have z:=p6<|sg 0 c5<|sv (be p)<|bT (Pw br7)<|en (aI (rP (.int .i64 r7))<|trivial)
   exact cn qco Tryz.call89 Tryz.func89 (c:=qcE) rfl (aI (ah p) trivial) z (by kernel_rfl)
def Vw:Code:=Tryz.f62.body.getD .skip
def Pl:List Nat:=[63]
section
variable(t:ae)
def LF:az:=aY 65 [(1,.eptr (af t))] [.dead] []
def jS(o:Bool):az:=aY 65 [(1,.eptr (af t)),(27,.bool o)] [.dead] []
def Ar:Option Bool:=
 if (t.Op == 6) = true then
  (Ax t.Pred).bind fun r3=>
  if(!r3)=true then
   some true
  else
   if(t.Op !=4)=true then
    some (decide ((t.Preds.length:Int)>0))
   else
    some false
 else
  if(t.Op !=4)=true then
   some (decide ((t.Preds.length:Int)>0))
  else
   some false
theorem JJ{x:Bool}(h:Ar t=some x):
  aT Pg GE 0 (cA Vw 12) (EX .normal (jS t x)) (LF t):=by
 have p2:=fun{sc F} (r:PS sc F)=>sv (aK t)<|sv (aL t)<|r
 rcases aZ h with⟨c1,h⟩|⟨c1,h⟩
 ·obtain⟨r3,br3,h⟩:=aB h
  have p5:=fun{sc F} (r:PS sc F)=>p2<|sg 4 c1<|sv (d8 t)<|sv (d9 t)<|bT (G7 br3)<|r
  rcases aZ h with⟨c4,h⟩|⟨c4,h⟩
  ·obtain rfl:=lf h
   exact cw Pl (p5<|sg 10 c4<|eF .normal (jS t true)) (by kernel_rfl)
  ·have p7:=fun{sc F} (r:PS sc F)=>p5<|sg 10 c4<|sv (aK t)<|sv (aL t)<|r
   rcases aZ h with⟨c6,h⟩|⟨c6,h⟩
   ·obtain rfl:=lf h
    exact cw Pl (p7<|sg 14 c6<|sv (dJ t)<|sv (dM t)<|cz (ck.ln t.Preds)<|eF .normal (jS t (decide ((t.Preds.length:Int)>0)))) (by kernel_rfl)
   ·obtain rfl:=lf h
    exact cw Pl (p7<|sg 14 c6<|eF .normal (jS t false)) (by kernel_rfl)
 ·have p9:=fun{sc F} (r:PS sc F)=>p2<|sg 4 c1<|sv (aK t)<|sv (aL t)<|r
  rcases aZ h with⟨c8,h⟩|⟨c8,h⟩
  ·obtain rfl:=lf h
   exact cw Pl (p9<|sg 14 c8<|sv (dJ t)<|sv (dM t)<|cz (ck.ln t.Preds)<|eF .normal (jS t (decide ((t.Preds.length:Int)>0)))) (by kernel_rfl)
  ·obtain rfl:=lf h
   exact cw Pl (p9<|sg 14 c8<|eF .normal (jS t false)) (by kernel_rfl)
end
section
variable(t:ae)(t29:waA)(t30:Int)(t31:Int)
def mz:az:=aY 65 [(1,.eptr (af t)),(29,sl cS t29),(30,.int .i64 t30),(31,.int .i64 t31)] [.dead] []
def mA(o:Unit⊕(Unit)):Exit:=match o with
 |(.inl _)=>.ret
 |(.inr _)=>.exit 0
def jT(o:Unit⊕(Unit)):az:=match o with
 |(.inl o)=>aY 65 [(2,.int .i64 3)] [.dead] []
 |(.inr o)=>aY 65 [(1,.eptr (af t))] [.dead] []
def Cy:Option (Int⊕(Unit⊕(Unit))):=
 if(decide (t31<t30))=true then
  (cR t29 t31).bind fun x14=>
  (pu x14).bind fun r15=>
  if(r15 !=0)=true then
   some (.inr (.inl ()))
  else
   some (.inl (aR (t31+1)))
 else
  some (.inr (.inr ()))
def At:Option (Unit⊕(Unit)):=loop (fun(zz:Int)=>Cy t29 t30 zz) t31
theorem Ih{y:Int⊕(Unit⊕(Unit))}(h:Cy t29 t30 t31=some y):
  aT Pg GE 0 (cA Vw 119) (LQ (fun(zz:Int)=>mz t t29 t30 zz) mA (jT t) y) (mz t t29 t30 t31):=by
 rcases aZ h with⟨c13,h⟩|⟨c13,h⟩
 ·obtain⟨x14,bx14,h⟩:=aB h
  obtain⟨r15,br15,h⟩:=aB h
  have p17:=fun{sc F} (r:PS sc F)=>sg 0 c13<|sv (bJ.ia (k:=.i64) bx14)<|sv (im Mo (.str x14) [])<|bT (D5 br15)<|r
  rcases aZ h with⟨c16,h⟩|⟨c16,h⟩
  ·obtain rfl:=lf h
   have z:=p17<|sg 0 c16<|eF (mA (.inl ())) (jT t (.inl ()))
   exact i7 Pl (by intro hx;cases hx) z (by kernel_rfl)
  ·obtain rfl:=lf h
   exact rU Pl (p17<|sg 0 c16<|eF .normal (mz t t29 t30 (aR (t31+1)))) (by kernel_rfl)
 ·obtain rfl:=lf h
  have z:=sg 0 c13<|eF (mA (.inr ())) (jT t (.inr ()))
  exact i7 Pl (by intro hx;cases hx) z (by kernel_rfl)
theorem Au{x:Unit⊕(Unit)}(h:At t29 t30 t31=some x):
  aT Pg GE 0 (.loop (cA Vw 119)) (EX (mA x) (jT t x)) (mz t t29 t30 t31):=
 aT.loop (S:=fun(zz:Int)=>mz t t29 t30 zz) (ex:=mA) (s:=t31) h fun zz y hy=>Ih t t29 t30 zz hy
end
section
variable(e:Int)(t48:waB)(t49:Int)(t50:Int)(m:Int)(m2:ag)(m3:Int)(m4:waB)
def LG:az:=aY 65 [(6,.bptr 1 0),(7,.int .i64 e),(48,sl ac t48),(49,.int .i64 t49),(50,.int .i64 t50)] [.dead,.cells [.int .i64 m,.str m2,.int .i64 m3,sl ac m4] []] [((48,0),36)]
def vV(o:Bool):az:=aY 65 [(7,.int .i64 e),(48,sl ac t48),(49,.int .i64 t49),(50,.int .i64 t50),(62,.bool o)] [.dead,.cells [.int .i64 m,.str m2,.int .i64 m3,sl ac m4] []] [((48,0),36)]
def As:Option Bool:=
 (Ax (⟨m,m2,m3,m4⟩:aa)).bind fun r26=>
 if(!r26)=true then
  some (e !=0)
 else
  some false
theorem JK{x:Bool}(h:As e m m2 m3 m4=some x):
  aT Pg GE 0 (cA Vw 64494) (EX .normal (vV e t48 t49 t50 m m2 m3 m4 x)) (LG e t48 t49 t50 m m2 m3 m4):=by
 obtain⟨r26,br26,h⟩:=aB h
 have p28:=fun{sc F} (r:PS sc F)=>sv (cm (⟨m,m2,m3,m4⟩:aa) [])<|bT (G7 br26)<|r
 rcases aZ h with⟨c27,h⟩|⟨c27,h⟩
 ·obtain rfl:=lf h
  exact cw Pl (p28<|sg 4 c27<|eF .normal (vV e t48 t49 t50 m m2 m3 m4 (e !=0))) (by kernel_rfl)
 ·obtain rfl:=lf h
  exact cw Pl (p28<|sg 4 c27<|eF .normal (vV e t48 t49 t50 m m2 m3 m4 false)) (by kernel_rfl)
end
section
variable(t48:waB)(t49:Int)(t50:Int)
def mB:az:=aY 65 [(48,sl ac t48),(49,.int .i64 t49),(50,.int .i64 t50)] [.dead] [((48,0),36)]
def mC(o:Int⊕(Unit)):Exit:=match o with
 |(.inl _)=>.ret
 |(.inr _)=>.exit 2
def jU(o:Int⊕(Unit)):az:=match o with
 |(.inl o)=>aY 65 [(2,.int .i64 o)] [.dead] []
 |(.inr o)=>aY 65 [] [.dead] []
def Cz:Option (Int⊕(Int⊕(Unit))):=
 if(decide (t50<t49))=true then
  (cR t48 t50).bind fun x24=>
  (By x24).bind fun r25=>
  (As r25 x24.Op x24.Name x24.N x24.Kids).bind fun o29=>
  if o29=true then
   some (.inr (.inl r25))
  else
   some (.inl (aR (t50+1)))
 else
  some (.inr (.inr ()))
def Av:Option (Int⊕(Unit)):=loop (fun(zz:Int)=>Cz t48 t49 zz) t50
theorem Ii{y:Int⊕(Int⊕(Unit))}(h:Cz t48 t49 t50=some y):
  aT Pg GE 0 (cA Vw 503) (LQ (fun(zz:Int)=>mB t48 t49 zz) mC jU y) (mB t48 t49 t50):=by
 rcases aZ h with⟨c23,h⟩|⟨c23,h⟩
 ·obtain⟨x24,bx24,h⟩:=aB h
  obtain⟨r25,br25,h⟩:=aB h
  obtain⟨o29,bo29,h⟩:=aB h
  have p31:=fun{sc F} (r:PS sc F)=>sg 0 c23<|sv (ck.ia (k:=.i64) bx24)<|sv (be x24)<|sx lC<|sx (dn x24)<|sv (cm x24 [])<|bT (NH br25)<|nD 0<|di (JK r25 t48 t49 t50 x24.Op x24.Name x24.N x24.Kids bo29)<|r
  rcases aZ h with⟨c30,h⟩|⟨c30,h⟩
  ·obtain rfl:=lf h
   have z:=p31<|sg 0 c30<|zn 0 (mC (.inl r25)) (jU (.inl r25)) rfl (eg (aI trivial trivial)) (aI trivial trivial)
   exact Gx (A:=Pl) mixed (by intro hx;cases hx) z (by kernel_rfl)
  ·obtain rfl:=lf h
   have z:=p31<|sg 0 c30<|zn 0 .normal (mB t48 t49 (aR (t50+1))) rfl (eg (aI (up (aq ah t48)) (aI trivial (aI trivial trivial)))) (aI trivial trivial)
   exact dS (A:=Pl) mixed z (by kernel_rfl)
 ·obtain rfl:=lf h
  have z:=sg 0 c23<|eF (mC (.inr ())) (jU (.inr ()))
  exact i7 Pl (by intro hx;cases hx) z (by kernel_rfl)
theorem Aw{x:Int⊕(Unit)}(h:Av t48 t49 t50=some x):
  aT Pg GE 0 (.loop (cA Vw 503)) (EX (mC x) (jU x)) (mB t48 t49 t50):=
 aT.loop (S:=fun(zz:Int)=>mB t48 t49 zz) (ex:=mC) (s:=t50) h fun zz y hy=>Ii t48 t49 zz hy
end
def Ej(t:ae):Option Int:=
 (Ar t).bind fun o10=>
 if o10=true then
  some 1
 else
  (At t.Names (t.Names.length:Int) 0).bind fun o18=>match o18 with
  |(.inl o18)=>
   some 3
  | (.inr o18) =>
   (rZ t.Names).bind fun r19=>
   if(!r19)=true then
    some 4
   else
    (app ([t.Pred]:List aa) t.Preds).bind fun l22=>
    (Av l22 (l22.length:Int) 0).bind fun o32=>match o32 with
    |(.inl o32)=>
     some o32
    |(.inr o32)=>
     some 0
theorem PC{t:ae}{r:Int}(h:Ej t=some r):CC Pg GE 62 [.agg (af t)] (.int .i64 r) []:=by
 obtain⟨o10,bo10,h⟩:=aB h
 have p12:=fun{sc F} (r:PS sc F)=>se (cF t)<|nD 1<|di (JJ t bo10)<|r
 rcases aZ h with⟨c11,h⟩|⟨c11,h⟩
 ·obtain rfl:=lf h
  have z:=p12<|sg 0 c11<|en (aI (rP (.int .i64 1))<|trivial)
  exact cn Pl Tryz.call62 Tryz.func62 (c:=Vw) rfl (aI (av t) trivial) z (by kernel_rfl)
 ·obtain⟨o18,bo18,h⟩:=aB h
  rcases o18 with o18|o18
  ·obtain rfl:=lf h
   have z:=p12<|sg 0 c11<|sv (bh t)<|sv (bj t)<|cz (bJ.ln t.Names)<|di (e:=.ret) (s1:=jT t (.inl o18)) (Au t t.Names (t.Names.length:Int) 0 bo18)<|en (aI (rP (.int .i64 3))<|trivial)
   exact cn Pl Tryz.call62 Tryz.func62 (c:=Vw) rfl (aI (av t) trivial) z (by kernel_rfl)
  ·obtain⟨r19,br19,h⟩:=aB h
   have p21:=fun{sc F} (r:PS sc F)=>p12<|sg 0 c11<|sv (bh t)<|sv (bj t)<|cz (bJ.ln t.Names)<|di (e:=.exit 0) (s1:=jT t (.inr o18)) (Au t t.Names (t.Names.length:Int) 0 bo18)<|sv (bh t)<|sv (bj t)<|bT (Hz br19)<|r
   rcases aZ h with⟨c20,h⟩|⟨c20,h⟩
   ·obtain rfl:=lf h
    have z:=p21<|sg 0 c20<|en (aI (rP (.int .i64 4))<|trivial)
    exact cn Pl Tryz.call62 Tryz.func62 (c:=Vw) rfl (aI (av t) trivial) z (by kernel_rfl)
   ·obtain⟨l22,bl22,h⟩:=aB h
    obtain⟨o32,bo32,h⟩:=aB h
    rcases o32 with o32|o32
    ·obtain rfl:=lf h
     have z:=p21<|sg 0 c20<|sv (d8 t)<|sv (d9 t)<|sv (ck.mk' (v:=fe) dl ([t.Pred]:List aa) 1 (by kernel_rfl))<|sv (dJ t)<|sv (dM t)<|sv (ck.ap bl22)<|cz (ck.ln l22)<|di (e:=.ret) (s1:=jU (.inl o32)) (Aw l22 (l22.length:Int) 0 bo32)<|en (aI (rP (.int .i64 o32))<|trivial)
     exact cn Pl Tryz.call62 Tryz.func62 (c:=Vw) rfl (aI (av t) trivial) z (by kernel_rfl)
    ·obtain rfl:=lf h
     have z:=p21<|sg 0 c20<|sv (d8 t)<|sv (d9 t)<|sv (ck.mk' (v:=fe) dl ([t.Pred]:List aa) 1 (by kernel_rfl))<|sv (dJ t)<|sv (dM t)<|sv (ck.ap bl22)<|cz (ck.ln l22)<|di (e:=.exit 2) (s1:=jU (.inr o32)) (Aw l22 (l22.length:Int) 0 bo32)<|en (aI (rP (.int .i64 0))<|trivial)
     exact cn Pl Tryz.call62 Tryz.func62 (c:=Vw) rfl (aI (av t) trivial) z (by kernel_rfl)
def qa0:Code:=Tryz.f40.body.getD .skip
def qai:List Nat:=[11,23]
section
variable(R31:yc)(t13:waC)(t14:Int)(t15:Int)
def mw:az:=aY 25 [(13,sl af t13),(14,.int .i64 t14),(15,.int .i64 t15)] [.dead] []
def my(o:Int⊕(Unit)):Exit:=match o with
 |(.inl _)=>.ret
 |(.inr _)=>.exit 0
def jR(o:Int⊕(Unit)):az:=match o with
 |(.inl o)=>aY 25 [(2,.int .i64 o)] [.dead] []
 |(.inr o)=>aY 25 [] [.dead] []
def Cx:Option (Int⊕(Int⊕(Unit))):=
 if(decide (t15<t14))=true then
  (cR t13 t15).bind fun x5=>
  (R31 x5).bind fun r6=>
  if(r6 !=0)=true then
   some (.inr (.inl r6))
  else
   some (.inl (aR (t15+1)))
 else
  some (.inr (.inr ()))
def Ap:Option (Int⊕(Unit)):=loop (fun(zz:Int)=>Cx R31 t13 t14 zz) t15
theorem Ig(hR31:C2 R31){y:Int⊕(Int⊕(Unit))}(h:Cx R31 t13 t14 t15=some y):
  aT Pg GE 0 (cA qa0 119) (LQ (fun(zz:Int)=>mw t13 t14 zz) my jR y) (mw t13 t14 t15):=by
 rcases aZ h with⟨c4,h⟩|⟨c4,h⟩
 ·obtain⟨x5,bx5,h⟩:=aB h
  obtain⟨r6,br6,h⟩:=aB h
  have p8:=fun{sc F} (r:PS sc F)=>sg 0 c4<|sv (cX.ia (k:=.i64) bx5)<|sv (bw x5)<|sx Bn<|sx (iT x5)<|sv (dj x5 [])<|bT (hR31 _ _ br6)<|r
  rcases aZ h with⟨c7,h⟩|⟨c7,h⟩
  ·obtain rfl:=lf h
   have z:=p8<|sg 0 c7<|zn 0 (my (.inl r6)) (jR (.inl r6)) rfl (eg (aI trivial trivial)) (aI trivial trivial)
   exact Gx (A:=qai) mixed (by intro hx;cases hx) z (by kernel_rfl)
  ·obtain rfl:=lf h
   have z:=p8<|sg 0 c7<|zn 0 .normal (mw t13 t14 (aR (t15+1))) rfl (eg (aI (up (aq av t13)) (aI trivial (aI trivial trivial)))) (aI trivial trivial)
   exact dS (A:=qai) mixed z (by kernel_rfl)
 ·obtain rfl:=lf h
  have z:=sg 0 c4<|eF (my (.inr ())) (jR (.inr ()))
  exact i7 qai (by intro hx;cases hx) z (by kernel_rfl)
theorem Aq(hR31:C2 R31){x:Int⊕(Unit)}(h:Ap R31 t13 t14 t15=some x):
  aT Pg GE 0 (.loop (cA qa0 119)) (EX (my x) (jR x)) (mw t13 t14 t15):=
 aT.loop (S:=fun(zz:Int)=>mw t13 t14 zz) (ex:=my) (s:=t15) h fun zz y hy=>Ig R31 t13 t14 zz hR31 hy
end
def xY(R31:yc)(t:ae):Option Int:=
 (Ej t).bind fun r1=>
 if(r1 !=0)=true then
  some r1
 else
  (Ap R31 t.Args (t.Args.length:Int) 0).bind fun o9=>match o9 with
  |(.inl o9)=>
   some o9
  |(.inr o9)=>
   some 0
theorem NV(R31:yc)(hR31:C2 R31){t:ae}{r:Int}(h:xY R31 t=some r):CC Pg GE 40 [.agg (af t)] (.int .i64 r) []:=by
 obtain⟨r1,br1,h⟩:=aB h
 have p3:=fun{sc F} (r:PS sc F)=>se (cF t)<|sv (bw t)<|bT (PC br1)<|r
 rcases aZ h with⟨c2,h⟩|⟨c2,h⟩
 ·obtain rfl:=lf h
  have z:=p3<|sg 0 c2<|en (aI (rP (.int .i64 r1))<|trivial)
  exact cn qai Tryz.call40 Tryz.func40 (c:=qa0) rfl (aI (av t) trivial) z (by kernel_rfl)
 ·obtain⟨o9,bo9,h⟩:=aB h
  rcases o9 with o9|o9
  ·obtain rfl:=lf h
   have z:=p3<|sg 0 c2<|sv (aW t)<|sv (aX t)<|cz (cX.ln t.Args)<|di (e:=.ret) (s1:=jR (.inl o9)) (Aq R31 t.Args (t.Args.length:Int) 0 hR31 bo9)<|en (aI (rP (.int .i64 o9))<|trivial)
   exact cn qai Tryz.call40 Tryz.func40 (c:=qa0) rfl (aI (av t) trivial) z (by kernel_rfl)
  ·obtain rfl:=lf h
   have z:=p3<|sg 0 c2<|sv (aW t)<|sv (aX t)<|cz (cX.ln t.Args)<|di (e:=.exit 0) (s1:=jR (.inr o9)) (Aq R31 t.Args (t.Args.length:Int) 0 hR31 bo9)<|en (aI (rP (.int .i64 0))<|trivial)
   exact cn qai Tryz.call40 Tryz.func40 (c:=qa0) rfl (aI (av t) trivial) z (by kernel_rfl)
def Dc:(ae->Option Int)->(ae)->Option Int:=fun(rec:ae->Option Int) (x:ae)=>xY (fun t=>rec t) x
def JI(t:ae):Option Int:=oG Dc t
theorem PB{t:ae}{r:Int}(h:JI t=some r):CC Pg GE 40 [.agg (af t)] (.int .i64 r) []:=
 cU (F:=Dc) (M:=fun(x:ae) (r:Int)=>CC Pg GE 40 [.agg (af x)] (.int .i64 r) []) (fun rec hrec x r h=>NV _ (fun t r h=>hrec t r h) h) h
def qde:Code:=Tryz.f16.body.getD .skip
def qc7:List Nat:=[8]
def wH(t:ae):Option Int:=
 (BA t).bind fun r1=>
 if(r1 !=0)=true then
  some r1
 else
  (JI t).bind fun r4=>
  some r4
theorem Ei{t:ae}{r:Int}(h:wH t=some r):CC Pg GE 16 [.agg (af t)] (.int .i64 r) []:=by
 obtain⟨r1,br1,h⟩:=aB h
 have p3:=fun{sc F} (r:PS sc F)=>se (cF t)<|sv (bw t)<|bT (NN br1)<|r
 rcases aZ h with⟨c2,h⟩|⟨c2,h⟩
 ·obtain rfl:=lf h
  have z:=p3<|sg 0 c2<|en (aI (rP (.int .i64 r1))<|trivial)
  exact cn qc7 Tryz.call16 Tryz.func16 (c:=qde) rfl (aI (av t) trivial) z (by kernel_rfl)
 ·obtain⟨r4,br4,h⟩:=aB h
  obtain rfl:=lf h
  have z:=p3<|sg 0 c2<|sv (bw t)<|bT (PB br4)<|en (aI (rP (.int .i64 r4))<|trivial)
  exact cn qc7 Tryz.call16 Tryz.func16 (c:=qde) rfl (aI (av t) trivial) z (by kernel_rfl)
def qdc:Code:=Tryz.f10.body.getD .skip
def qc5:List Nat:=[]
def wJ(a:aD):Option Bool:=
 (wH a.A).bind fun r1=>
 if(r1==0)=true then
  (wH a.B).bind fun r4=>
  some (r4==0)
 else
  some false
theorem NY{a:aD}{r:Bool}(h:wJ a=some r):CC Pg GE 10 [.agg (ay a)] (.bool r) []:=by
 obtain⟨r1,br1,h⟩:=aB h
 have p3:=fun{sc F} (r:PS sc F)=>se (mP a)<|sv (fm a)<|sv (ft a)<|bT (Ei br1)<|r
 rcases aZ h with⟨c2,h⟩|⟨c2,h⟩
 ·obtain⟨r4,br4,h⟩:=aB h
  obtain rfl:=lf h
  have z:=p3<|sg 5 c2<|sv (fo a)<|sv (fu a)<|bT (Ei br4)<|en (aI (rP (.bool (r4==0)))<|trivial)
  exact cn qc5 Tryz.call10 Tryz.func10 (c:=qdc) rfl (aI (bU a) trivial) z (by kernel_rfl)
 ·obtain rfl:=lf h
  have z:=p3<|sg 5 c2<|en (aI (rP (.bool false))<|trivial)
  exact cn qc5 Tryz.call10 Tryz.func10 (c:=qdc) rfl (aI (bU a) trivial) z (by kernel_rfl)
def qdT:Code:=Tryz.f33.body.getD .skip
def qdI:List Nat:=[]
def jd(s:ag):Option aa:=
 some (⟨3,s,0,([]:List aa)⟩:aa)
theorem gO{s:ag}{r:aa}(h:jd s=some r):CC Pg GE 33 [.str s] (.agg (ac r)) [(3,36)]:=by
 obtain rfl:=lf h
 have z:=sx lC<|sb (ou 3 s) (oq 3 s)<|sy (aF (⟨3,s,0,([]:List aa)⟩:aa))<|en (aI (e8 (⟨3,s,0,([]:List aa)⟩:aa))<|aI (ah (⟨3,s,0,([]:List aa)⟩:aa))<|rT)
 exact cn qdI Tryz.call33 Tryz.func33 (c:=qdT) rfl (aI trivial trivial) z (by kernel_rfl)
def qdS:Code:=Tryz.f32.body.getD .skip
def qdH:List Nat:=[]
def BC(op:Int)(a:aa)(a2:aa):Option aa:=
 some (⟨op,([]:ag),0,([a,a2]:List aa)⟩:aa)
theorem tE{op:Int}{a:aa}{a2:aa}{r:aa}(h:BC op a a2=some r):CC Pg GE 32 [.int .i64 op,.agg (ac a),.agg (ac a2)] (.agg (ac r)) []:=by
 obtain rfl:=lf h
 have z:=se (cr a)<|se (cr a2)<|sx lC<|sv (be a)<|sv (be a2)<|sv (ck.mk' (v:=fe) dl ([a,a2]:List aa) 2 (by kernel_rfl))<|sv (EA op ([a,a2]:List aa))<|sx (dn (⟨op,([]:ag),0,([a,a2]:List aa)⟩:aa))<|en (aI (e8 (⟨op,([]:ag),0,([a,a2]:List aa)⟩:aa))<|(ah (⟨op,([]:ag),0,([a,a2]:List aa)⟩:aa)))
 exact cn qdH Tryz.call32 Tryz.func32 (c:=qdS) rfl (aI trivial (aI (ah a) (aI (ah a2) trivial))) z (by kernel_rfl)
def qdR:Code:=Tryz.f31.body.getD .skip
def qdG:List Nat:=[]
def qH(p:aa):Option ae:=
 some (⟨1,([]:ag),([]:List ae),([]:List ag),p,([]:List aa)⟩:ae)
theorem oo{p:aa}{r:ae}(h:qH p=some r):CC Pg GE 31 [.agg (ac p)] (.agg (af r)) [(2,38),(3,9),(8,36)]:=by
 obtain rfl:=lf h
 have z:=se (cr p)<|sx Bn<|sv (be p)<|sb (N9 1 p) (N6 1 p)<|sy (bk (⟨1,([]:ag),([]:List ae),([]:List ag),p,([]:List aa)⟩:ae))<|en (aI (pV (⟨1,([]:ag),([]:List ae),([]:List ag),p,([]:List aa)⟩:ae))<|aI (av (⟨1,([]:ag),([]:List ae),([]:List ag),p,([]:List aa)⟩:ae))<|rT)
 exact cn qdG Tryz.call31 Tryz.func31 (c:=qdR) rfl (aI (ah p) trivial) z (by kernel_rfl)
abbrev sB:=(ae->ae->Option Bool)
abbrev xz(R:sB):Prop:=∀(a:ae) (a2:ae) (r:Bool),R a a2=some r->CC Pg GE 34 [.agg (af a),.agg (af a2)] (.bool r) []
end Go.Proofs.YtbaamopmfmpfaaaGreatDoor
