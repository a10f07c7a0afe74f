/- PROVED: a part of the proof. Conditions: none. -/
import Derived.Test.YtbaamopmfmpfaaaGreatDoorPkD12
noncomputable section
namespace Go.Proofs.YtbaamopmfmpfaaaGreatDoor
open Go Go.Proofs.Tryz
set_option linter.unusedVariables false
set_option maxRecDepth 100000
noncomputable def Zk:Code:=f106.body.getD .skip
def Y6:List Nat:=[]
section
variable(R38:uO)(t7:waA)(t8:Int)(n:Int)(t9:Int)
def ko:az:=aW 20 [(3,.int .i64 n),(7,sl ac t7),(8,.int .i64 t8),(9,.int .i64 t9)] [.dead] []
def td(o:Int):az:=aW 20 [(3,.int .i64 o)] [.dead] []
def zy:Option ((Int×Int)⊕(Int)):=
 if(decide (t9<t8))=true then
  (cH t7 t9).bind fun x2=>
  (R38 x2).bind fun r3=>
  some (.inl ((if r3>n then r3 else n),aO (t9+1)))
 else
  some (.inr n)
def xn:Option Int:=loop (fun(zz:Int×Int)=>zy R38 t7 t8 zz.1 zz.2) (n,t9)
theorem Fy(hR38:zf R38){y:(Int×Int)⊕(Int)}(h:zy R38 t7 t8 n t9=some y):aQ Pg GE 0 (cA Zk 119) (LQ (fun(zz:Int×Int)=>ko t7 t8 zz.1 zz.2) (fun _=>.exit 0) td y) (ko t7 t8 n t9):=by
 rcases aX h with⟨c1,h⟩|⟨c1,h⟩
 ·obtain⟨x2,bx2,h⟩:=aA h
  obtain⟨r3,br3,h⟩:=aA h
  obtain rfl:=lf h
  have z:=sg 0 c1<|sv (cd.ia (k:=.i64) bx2)<|sv (aY x2)<|sx lM<|sx (dn x2)<|sv (ch x2 [])<|bP (hR38 _ _ br3)<|y4 0 .normal (ko t7 t8 (if r3>n then r3 else n) (aO (t9+1))) rfl (eh (aI trivial (aI (up (aq ah t7)) (aI trivial (aI trivial trivial))))) (aI trivial trivial)
  exact dV (A:=Y6) mixed z<|by kernel_rfl
 ·obtain rfl:=lf h
  have z:=sg 0 c1<|eF (.exit 0) (td n)
  exact iW Y6 (by intro hx;cases hx) z<|by kernel_rfl
theorem Hx(hR38:zf R38){x:Int}(h:xn R38 t7 t8 n t9=some x):aQ Pg GE 0 (.loop (cA Zk 119)) (EX (.exit 0) (td x)) (ko t7 t8 n t9):=
 aQ.loop (S:=fun(zz:Int×Int)=>ko t7 t8 zz.1 zz.2) (ex:=(fun _=>.exit 0)) (s:=(n,t9)) h fun zz y hy=>Fy R38 t7 t8 zz.1 zz.2 hR38 hy
end
def uD(R38:uO)(p:aa):Option Int:=
 (xn R38 p.Kids (p.Kids.length:Int) 0 0).bind fun o4=>
 some (aO (o4+1))
theorem K8(R38:uO)(hR38:zf R38){p:aa}{r:Int}(h:uD R38 p=some r):CC Pg GE 106 [.agg (ac p)] (.int .i64 r) []:=by
 obtain⟨o4,bo4,h⟩:=aA h
 obtain rfl:=lf h
 have z:=se (cf p)<|sv (bu p)<|sv (bw p)<|cw (cd.ln p.Kids)<|di (Hx R38 p.Kids (p.Kids.length:Int) 0 0 hR38 bo4)<|en (aI (rP (.int .i64 (aO (o4+1))))<|trivial)
 exact ck Y6 call106 func106 (c:=Zk) rfl (aI (ah p) trivial) z<|by kernel_rfl
def zx:(aa->Option Int)->(aa)->Option Int:=fun(rec:aa->Option Int) (x:aa)=>uD (fun p=>rec p) x
def Fx(p:aa):Option Int:=oP zx p
theorem Nx{p:aa}{r:Int}(h:Fx p=some r):CC Pg GE 106 [.agg (ac p)] (.int .i64 r) []:=
 cR (F:=zx) (M:=fun(x:aa) (r:Int)=>CC Pg GE 106 [.agg (ac x)] (.int .i64 r) []) (fun rec hrec x r h=>K8 _ (fun p r h=>hrec p r h) h) h
abbrev xI:=(aa->Option Int)
abbrev CV(R:xI):Prop:=∀(p:aa) (r:Int),R p=some r->CC Pg GE 107 [.agg (ac p)] (.int .i64 r) []
noncomputable def Zm:Code:=f129.body.getD .skip
def Y7:List Nat:=[]
def Bl(op:Int):Option Bool:=
 if(op==3)=true then
  some true
 else
  if(op==4)=true then
   some true
  else
   some (op==5)
theorem NB{op:Int}{r:Bool}(h:Bl op=some r):CC Pg GE 129 [.int .i64 op] (.bool r) []:=by
 rcases aX h with⟨c1,h⟩|⟨c1,h⟩
 ·obtain rfl:=lf h
  have z:=sg 3 c1<|en (aI (rP (.bool true))<|trivial)
  exact ck Y7 call129 func129 (c:=Zm) rfl (aI trivial trivial) z<|by kernel_rfl
 ·rcases aX h with⟨c2,h⟩|⟨c2,h⟩
  ·obtain rfl:=lf h
   have z:=sg 3 c1<|sg 7 c2<|en (aI (rP (.bool true))<|trivial)
   exact ck Y7 call129 func129 (c:=Zm) rfl (aI trivial trivial) z<|by kernel_rfl
  ·obtain rfl:=lf h
   have z:=sg 3 c1<|sg 7 c2<|en (aI (rP (.bool (op==5)))<|trivial)
   exact ck Y7 call129 func129 (c:=Zm) rfl (aI trivial trivial) z<|by kernel_rfl
noncomputable def PC:Code:=f130.body.getD .skip
def Hm:List Nat:=[]
section
variable(n:Int)(t5:Int)
def Lc:az:=aW 28 [(1,.int .i64 n),(5,.int .i64 t5)] [] []
def qk(o:Bool):az:=aW 28 [(1,.int .i64 n),(5,.int .i64 t5),(6,.bool o)] [] []
def uG:Option Bool:=
 if(t5==1)=true then
  some (t5==1)
 else
  if(t5==2)=true then
   some (t5==2)
  else
   some (t5==3)
theorem I2{x:Bool}(h:uG t5=some x):aQ Pg GE 0 (cA PC 54) (EX .normal (qk n t5 x)) (Lc n t5):=by
 rcases aX h with⟨c1,h⟩|⟨c1,h⟩
 ·obtain rfl:=lf h
  exact ct Hm (sg 0 c1<|eF .normal (qk n t5 (t5==1)))<|by kernel_rfl
 ·rcases aX h with⟨c2,h⟩|⟨c2,h⟩
  ·obtain rfl:=lf h
   exact ct Hm (sg 0 c1<|sg 0 c2<|eF .normal (qk n t5 (t5==2)))<|by kernel_rfl
  ·obtain rfl:=lf h
   exact ct Hm (sg 0 c1<|sg 0 c2<|eF .normal (qk n t5 (t5==3)))<|by kernel_rfl
end
section
variable(n:Int)(t5:Int)
def Ld:az:=aW 28 [(1,.int .i64 n),(5,.int .i64 t5)] [] []
def vH(o:Bool):az:=aW 28 [(1,.int .i64 n),(5,.int .i64 t5),(12,.bool o)] [] []
def uH:Option Bool:=
 if(t5==4)=true then
  some (t5==4)
 else
  some (t5==5)
theorem I3{x:Bool}(h:uH t5=some x):aQ Pg GE 0 (cA PC 222) (EX .normal (vH n t5 x)) (Ld n t5):=by
 rcases aX h with⟨c6,h⟩|⟨c6,h⟩
 ·obtain rfl:=lf h
  exact ct Hm (sg 0 c6<|eF .normal (vH n t5 (t5==4)))<|by kernel_rfl
 ·obtain rfl:=lf h
  exact ct Hm (sg 0 c6<|eF .normal (vH n t5 (t5==5)))<|by kernel_rfl
end
section
variable(n:Int)(t5:Int)
def Lf:az:=aW 28 [(1,.int .i64 n),(5,.int .i64 t5)] [] []
def vI(o:Bool):az:=aW 28 [(1,.int .i64 n),(21,.bool o)] [] []
def uI:Option Bool:=
 if(t5==9)=true then
  some (t5==9)
 else
  some (t5==14)
theorem I4{x:Bool}(h:uI t5=some x):aQ Pg GE 0 (cA PC 894) (EX .normal (vI n x)) (Lf n t5):=by
 rcases aX h with⟨c12,h⟩|⟨c12,h⟩
 ·obtain rfl:=lf h
  exact ct Hm (sg 0 c12<|eF .normal (vI n (t5==9)))<|by kernel_rfl
 ·obtain rfl:=lf h
  exact ct Hm (sg 0 c12<|eF .normal (vI n (t5==14)))<|by kernel_rfl
end
def ou(op:Int)(n:Int):Option Bool:=
 (uG op).bind fun o3=>
 if o3=true then
  some (n==0)
 else
  (uH op).bind fun o7=>
  if o7=true then
   if(decide (n>=1))=true then
    some (decide (n<=24))
   else
    some false
  else
   (uI op).bind fun o13=>
   if o13=true then
    some (n==1)
   else
    some (n==2)
theorem uJ{op:Int}{n:Int}{r:Bool}(h:ou op n=some r):CC Pg GE 130 [.int .i64 op,.int .i64 n] (.bool r) []:=by
 obtain⟨o3,bo3,h⟩:=aA h
 have p5:=fun{sc F} (r:PS sc F)=>oe 3<|di (I2 n op bo3)<|r
 rcases aX h with⟨c4,h⟩|⟨c4,h⟩
 ·obtain rfl:=lf h
  have z:=p5<|sg 0 c4<|en (aI (rP (.bool (n==0)))<|trivial)
  exact ck Hm call130 func130 (c:=PC) rfl (aI trivial (aI trivial trivial)) z<|by kernel_rfl
 ·obtain⟨o7,bo7,h⟩:=aA h
  have p9:=fun{sc F} (r:PS sc F)=>p5<|sg 0 c4<|oe 0<|di (I3 n op bo7)<|r
  rcases aX h with⟨c8,h⟩|⟨c8,h⟩
  ·have p11:=fun{sc F} (r:PS sc F)=>p9<|sg 0 c8<|r
   rcases aX h with⟨c10,h⟩|⟨c10,h⟩
   ·obtain rfl:=lf h
    have z:=p11<|sg 3 c10<|en (aI (rP (.bool (decide (n<=24))))<|trivial)
    exact ck Hm call130 func130 (c:=PC) rfl (aI trivial (aI trivial trivial)) z<|by kernel_rfl
   ·obtain rfl:=lf h
    have z:=p11<|sg 3 c10<|en (aI (rP (.bool false))<|trivial)
    exact ck Hm call130 func130 (c:=PC) rfl (aI trivial (aI trivial trivial)) z<|by kernel_rfl
  ·obtain⟨o13,bo13,h⟩:=aA h
   have p15:=fun{sc F} (r:PS sc F)=>p9<|sg 0 c8<|oe 0<|di (I4 n op bo13)<|r
   rcases aX h with⟨c14,h⟩|⟨c14,h⟩
   ·obtain rfl:=lf h
    have z:=p15<|sg 0 c14<|en (aI (rP (.bool (n==1)))<|trivial)
    exact ck Hm call130 func130 (c:=PC) rfl (aI trivial (aI trivial trivial)) z<|by kernel_rfl
   ·obtain rfl:=lf h
    have z:=p15<|sg 0 c14<|en (aI (rP (.bool (n==2)))<|trivial)
    exact ck Hm call130 func130 (c:=PC) rfl (aI trivial (aI trivial trivial)) z<|by kernel_rfl
noncomputable def qaN:Code:=f131.body.getD .skip
def qao:List Nat:=[]
def Nt(n:Int):Option Bool:=
 if(decide (n>=(-1000000000000)))=true then
  some (decide (n<=1000000000000))
 else
  some false
theorem TB{n:Int}{r:Bool}(h:Nt n=some r):CC Pg GE 131 [.int .i64 n] (.bool r) []:=by
 rcases aX h with⟨c1,h⟩|⟨c1,h⟩
 ·obtain rfl:=lf h
  have z:=sg 3 c1<|en (aI (rP (.bool (decide (n<=1000000000000))))<|trivial)
  exact ck qao call131 func131 (c:=qaN) rfl (aI trivial trivial) z<|by kernel_rfl
 ·obtain rfl:=lf h
  have z:=sg 3 c1<|en (aI (rP (.bool false))<|trivial)
  exact ck qao call131 func131 (c:=qaN) rfl (aI trivial trivial) z<|by kernel_rfl
noncomputable def Ra:Code:=f132.body.getD .skip
def Q1:List Nat:=[]
def xq(p:aa):Option Bool:=
 if(p.Op==3)=true then
  if(p.Name==([118]:ag))=true then
   some true
  else
   (qH p.Name).bind fun r5=>
   some (r5==0)
 else
  if (p.Op == 4) = true then
   if(p.Name==([116,97,103]:ag))=true then
    some true
   else
    if(p.Name==([118,97,108]:ag))=true then
     some true
    else
     (qH p.Name).bind fun r12=>
     some (r12==0)
  else
   if(p.Op==5)=true then
    (qH p.Name).bind fun r15=>
    some (r15==0)
   else
    some true
theorem Lb{p:aa}{r:Bool}(h:xq p=some r):CC Pg GE 132 [.agg (ac p)] (.bool r) []:=by
 have p2:=fun{sc F} (r:PS sc F)=>se (cf p)<|sv (bq p)<|sv (bv p)<|r
 rcases aX h with⟨c1,h⟩|⟨c1,h⟩
 ·have p4:=fun{sc F} (r:PS sc F)=>p2<|sg 0 c1<|sv (cx p)<|sv (cJ p)<|r
  rcases aX h with⟨c3,h⟩|⟨c3,h⟩
  ·obtain rfl:=lf h
   have z:=p4<|sg 4 c3<|en (aI (rP (.bool true))<|trivial)
   exact ck Q1 call132 func132 (c:=Ra) rfl (aI (ah p) trivial) z<|by kernel_rfl
  ·obtain⟨r5,br5,h⟩:=aA h
   obtain rfl:=lf h
   have z:=p4<|sg 4 c3<|sv (cx p)<|sv (cJ p)<|bP (qI br5)<|en (aI (rP (.bool (r5==0)))<|trivial)
   exact ck Q1 call132 func132 (c:=Ra) rfl (aI (ah p) trivial) z<|by kernel_rfl
 ·have p7:=fun{sc F} (r:PS sc F)=>p2<|sg 0 c1<|r
  rcases aX h with⟨c6,h⟩|⟨c6,h⟩
  ·have p9:=fun{sc F} (r:PS sc F)=>p7<|sg 0 c6<|sv (cx p)<|sv (cJ p)<|r
   rcases aX h with⟨c8,h⟩|⟨c8,h⟩
   ·obtain rfl:=lf h
    have z:=p9<|sg 4 c8<|en (aI (rP (.bool true))<|trivial)
    exact ck Q1 call132 func132 (c:=Ra) rfl (aI (ah p) trivial) z<|by kernel_rfl
   ·have p11:=fun{sc F} (r:PS sc F)=>p9<|sg 4 c8<|sv (cx p)<|sv (cJ p)<|r
    rcases aX h with⟨c10,h⟩|⟨c10,h⟩
    ·obtain rfl:=lf h
     have z:=p11<|sg 9 c10<|en (aI (rP (.bool true))<|trivial)
     exact ck Q1 call132 func132 (c:=Ra) rfl (aI (ah p) trivial) z<|by kernel_rfl
    ·obtain⟨r12,br12,h⟩:=aA h
     obtain rfl:=lf h
     have z:=p11<|sg 9 c10<|sv (cx p)<|sv (cJ p)<|bP (qI br12)<|en (aI (rP (.bool (r12==0)))<|trivial)
     exact ck Q1 call132 func132 (c:=Ra) rfl (aI (ah p) trivial) z<|by kernel_rfl
  ·have p14:=fun{sc F} (r:PS sc F)=>p7<|sg 0 c6<|r
   rcases aX h with⟨c13,h⟩|⟨c13,h⟩
   ·obtain⟨r15,br15,h⟩:=aA h
    obtain rfl:=lf h
    have z:=p14<|sg 0 c13<|sv (cx p)<|sv (cJ p)<|bP (qI br15)<|en (aI (rP (.bool (r15==0)))<|trivial)
    exact ck Q1 call132 func132 (c:=Ra) rfl (aI (ah p) trivial) z<|by kernel_rfl
   ·obtain rfl:=lf h
    have z:=p14<|sg 0 c13<|en (aI (rP (.bool true))<|trivial)
    exact ck Q1 call132 func132 (c:=Ra) rfl (aI (ah p) trivial) z<|by kernel_rfl
noncomputable def NU:Code:=f117.body.getD .skip
def rm:List Nat:=[]
section
variable(p:aa)
def Lg:az:=aW 87 [(1,.eptr (ac p))] [.dead] []
def vJ(o:Bool):az:=aW 87 [(1,.eptr (ac p)),(3,.bool o)] [.dead] []
def zG:Option Bool:=
 if(p.Op==1)=true then
  some true
 else
  some (p.Op==2)
theorem I5{x:Bool}(h:zG p=some x):aQ Pg GE 0 (cA NU 6) (EX .normal (vJ p x)) (Lg p):=by
 have p2:=fun{sc F} (r:PS sc F)=>sv (bq p)<|sv (bv p)<|r
 rcases aX h with⟨c1,h⟩|⟨c1,h⟩
 ·obtain rfl:=lf h
  exact ct rm (p2<|sg 4 c1<|eF .normal (vJ p true))<|by kernel_rfl
 ·obtain rfl:=lf h
  exact ct rm (p2<|sg 4 c1<|sv (bq p)<|sv (bv p)<|eF .normal (vJ p (p.Op==2)))<|by kernel_rfl
end
section
variable(p:aa)(number:Bool)
def Lh:az:=aW 87 [(1,.eptr (ac p)),(3,.bool number)] [.dead] []
def d8(o:Bool):az:=aW 87 [(1,.eptr (ac p)),(48,.bool o)] [.dead] []
def zH:Option Bool:=
 if(decide (p.Op<1))=true then
  some true
 else
  if(decide (p.Op>18))=true then
   some true
  else
   if (!(p.Name == ([]:ag))) = true then
    (Bl p.Op).bind fun r10=>
    if(!r10)=true then
     some true
    else
     if(p.N !=0)=true then
      if(!number)=true then
       some true
      else
       (ou p.Op (p.Kids.length:Int)).bind fun r17=>
       some (!r17)
     else
      (ou p.Op (p.Kids.length:Int)).bind fun r18=>
      some (!r18)
   else
    if(p.N !=0)=true then
     if(!number)=true then
      some true
     else
      (ou p.Op (p.Kids.length:Int)).bind fun r23=>
      some (!r23)
    else
     (ou p.Op (p.Kids.length:Int)).bind fun r24=>
     some (!r24)
theorem I6{x:Bool}(h:zH p number=some x):aQ Pg GE 0 (cA NU 28) (EX .normal (d8 p x)) (Lh p number):=by
 have p5:=fun{sc F} (r:PS sc F)=>sv (bq p)<|sv (bv p)<|r
 rcases aX h with⟨c4,h⟩|⟨c4,h⟩
 ·obtain rfl:=lf h
  exact ct rm (p5<|sg 4 c4<|eF .normal (d8 p true))<|by kernel_rfl
 ·have p7:=fun{sc F} (r:PS sc F)=>p5<|sg 4 c4<|sv (bq p)<|sv (bv p)<|r
  rcases aX h with⟨c6,h⟩|⟨c6,h⟩
  ·obtain rfl:=lf h
   exact ct rm (p7<|sg 9 c6<|eF .normal (d8 p true))<|by kernel_rfl
  ·have p9:=fun{sc F} (r:PS sc F)=>p7<|sg 9 c6<|sv (cx p)<|sv (cJ p)<|r
   rcases aX h with⟨c8,h⟩|⟨c8,h⟩
   ·obtain⟨r10,br10,h⟩:=aA h
    have p12:=fun{sc F} (r:PS sc F)=>p9<|sg 13 c8<|sv (bq p)<|sv (bv p)<|bP (NB br10)<|r
    rcases aX h with⟨c11,h⟩|⟨c11,h⟩
    ·obtain rfl:=lf h
     exact ct rm (p12<|sg 20 c11<|eF .normal (d8 p true))<|by kernel_rfl
    ·have p14:=fun{sc F} (r:PS sc F)=>p12<|sg 20 c11<|sv (cO p)<|sv (dh p)<|r
     rcases aX h with⟨c13,h⟩|⟨c13,h⟩
     ·have p16:=fun{sc F} (r:PS sc F)=>p14<|sg 24 c13<|r
      rcases aX h with⟨c15,h⟩|⟨c15,h⟩
      ·obtain rfl:=lf h
       exact ct rm (p16<|sg 29 c15<|eF .normal (d8 p true))<|by kernel_rfl
      ·obtain⟨r17,br17,h⟩:=aA h
       obtain rfl:=lf h
       exact ct rm (p16<|sg 29 c15<|sv (bq p)<|sv (bv p)<|sv (bu p)<|sv (bw p)<|cw (cd.ln p.Kids)<|bP (uJ br17)<|eF .normal (d8 p (!r17)))<|by kernel_rfl
     ·obtain⟨r18,br18,h⟩:=aA h
      obtain rfl:=lf h
      exact ct rm (p14<|sg 24 c13<|sv (bq p)<|sv (bv p)<|sv (bu p)<|sv (bw p)<|cw (cd.ln p.Kids)<|bP (uJ br18)<|eF .normal (d8 p (!r18)))<|by kernel_rfl
   ·have p20:=fun{sc F} (r:PS sc F)=>p9<|sg 13 c8<|sv (cO p)<|sv (dh p)<|r
    rcases aX h with⟨c19,h⟩|⟨c19,h⟩
    ·have p22:=fun{sc F} (r:PS sc F)=>p20<|sg 24 c19<|r
     rcases aX h with⟨c21,h⟩|⟨c21,h⟩
     ·obtain rfl:=lf h
      exact ct rm (p22<|sg 29 c21<|eF .normal (d8 p true))<|by kernel_rfl
     ·obtain⟨r23,br23,h⟩:=aA h
      obtain rfl:=lf h
      exact ct rm (p22<|sg 29 c21<|sv (bq p)<|sv (bv p)<|sv (bu p)<|sv (bw p)<|cw (cd.ln p.Kids)<|bP (uJ br23)<|eF .normal (d8 p (!r23)))<|by kernel_rfl
    ·obtain⟨r24,br24,h⟩:=aA h
     obtain rfl:=lf h
     exact ct rm (p20<|sg 24 c19<|sv (bq p)<|sv (bv p)<|sv (bu p)<|sv (bw p)<|cw (cd.ln p.Kids)<|bP (uJ br24)<|eF .normal (d8 p (!r24)))<|by kernel_rfl
end
section
variable(p:aa)
def Li:az:=aW 87 [(1,.eptr (ac p))] [.dead] []
def gb(o:Bool):az:=aW 87 [(1,.eptr (ac p)),(72,.bool o)] [.dead] []
def zI:Option Bool:=
 if (p.Op == 1) = true then
  (Nt p.N).bind fun r30=>
  if(!r30)=true then
   some true
  else
   if(p.Op==2)=true then
    if(decide (p.N<0))=true then
     some true
    else
     some (decide (p.N>1))
   else
    some false
 else
  if(p.Op==2)=true then
   if(decide (p.N<0))=true then
    some true
   else
    some (decide (p.N>1))
  else
   some false
theorem I7{x:Bool}(h:zI p=some x):aQ Pg GE 0 (cA NU 60) (EX .normal (gb p x)) (Li p):=by
 have p29:=fun{sc F} (r:PS sc F)=>sv (bq p)<|sv (bv p)<|r
 rcases aX h with⟨c28,h⟩|⟨c28,h⟩
 ·obtain⟨r30,br30,h⟩:=aA h
  have p32:=fun{sc F} (r:PS sc F)=>p29<|sg 4 c28<|sv (cO p)<|sv (dh p)<|bP (TB br30)<|r
  rcases aX h with⟨c31,h⟩|⟨c31,h⟩
  ·obtain rfl:=lf h
   exact ct rm (p32<|sg 10 c31<|eF .normal (gb p true))<|by kernel_rfl
  ·have p34:=fun{sc F} (r:PS sc F)=>p32<|sg 10 c31<|sv (bq p)<|sv (bv p)<|r
   rcases aX h with⟨c33,h⟩|⟨c33,h⟩
   ·have p36:=fun{sc F} (r:PS sc F)=>p34<|sg 14 c33<|sv (cO p)<|sv (dh p)<|r
    rcases aX h with⟨c35,h⟩|⟨c35,h⟩
    ·obtain rfl:=lf h
     exact ct rm (p36<|sg 18 c35<|eF .normal (gb p true))<|by kernel_rfl
    ·obtain rfl:=lf h
     exact ct rm (p36<|sg 18 c35<|sv (cO p)<|sv (dh p)<|eF .normal (gb p (decide (p.N>1))))<|by kernel_rfl
   ·obtain rfl:=lf h
    exact ct rm (p34<|sg 14 c33<|eF .normal (gb p false))<|by kernel_rfl
 ·have p38:=fun{sc F} (r:PS sc F)=>p29<|sg 4 c28<|sv (bq p)<|sv (bv p)<|r
  rcases aX h with⟨c37,h⟩|⟨c37,h⟩
  ·have p40:=fun{sc F} (r:PS sc F)=>p38<|sg 14 c37<|sv (cO p)<|sv (dh p)<|r
   rcases aX h with⟨c39,h⟩|⟨c39,h⟩
   ·obtain rfl:=lf h
    exact ct rm (p40<|sg 18 c39<|eF .normal (gb p true))<|by kernel_rfl
   ·obtain rfl:=lf h
    exact ct rm (p40<|sg 18 c39<|sv (cO p)<|sv (dh p)<|eF .normal (gb p (decide (p.N>1))))<|by kernel_rfl
  ·obtain rfl:=lf h
   exact ct rm (p38<|sg 14 c37<|eF .normal (gb p false))<|by kernel_rfl
end
section
variable(p:aa)
def Lj:az:=aW 87 [(1,.eptr (ac p))] [.dead] []
def vK(o:Bool):az:=aW 87 [(86,.bool o)] [.dead] []
def zJ:Option Bool:=
 if(p.Op==8)=true then
  (cH p.Kids 0).bind fun x49=>
  some (x49.Op !=1)
 else
  some false
theorem I8{x:Bool}(h:zJ p=some x):aQ Pg GE 0 (cA NU 252) (EX .normal (vK x)) (Lj p):=by
 have p48:=fun{sc F} (r:PS sc F)=>sv (bq p)<|sv (bv p)<|r
 rcases aX h with⟨c47,h⟩|⟨c47,h⟩
 ·obtain⟨x49,bx49,h⟩:=aA h
  obtain rfl:=lf h
  exact ct rm (p48<|sg 4 c47<|sv (bu p)<|sv (bw p)<|sv (cd.ia (k:=.i64) bx49)<|sv (bq x49)<|sv (bv x49)<|eF .normal (vK (x49.Op !=1)))<|by kernel_rfl
 ·obtain rfl:=lf h
  exact ct rm (p48<|sg 4 c47<|eF .normal (vK false))<|by kernel_rfl
end
def D1(p:aa):Option Int:=
 (zG p).bind fun o3=>
 (zH p o3).bind fun o25=>
 if o25=true then
  some 1
 else
  (zI p).bind fun o41=>
  if o41=true then
   some 2
  else
   (xq p).bind fun r44=>
   if(!r44)=true then
    some 3
   else
    (zJ p).bind fun o50=>
    if o50=true then
     some 6
    else
     some 0
theorem Po{p:aa}{r:Int}(h:D1 p=some r):CC Pg GE 117 [.agg (ac p)] (.int .i64 r) []:=by
 obtain⟨o3,bo3,h⟩:=aA h
 obtain⟨o25,bo25,h⟩:=aA h
 have p27:=fun{sc F} (r:PS sc F)=>se (cf p)<|oe 0<|di (I5 p bo3)<|oe 1<|di (I6 p o3 bo25)<|r
 rcases aX h with⟨c26,h⟩|⟨c26,h⟩
 ·obtain rfl:=lf h
  have z:=p27<|sg 0 c26<|en (aI (rP (.int .i64 1))<|trivial)
  exact ck rm call117 func117 (c:=NU) rfl (aI (ah p) trivial) z<|by kernel_rfl
 ·obtain⟨o41,bo41,h⟩:=aA h
  have p43:=fun{sc F} (r:PS sc F)=>p27<|sg 0 c26<|oe 1<|di (I7 p bo41)<|r
  rcases aX h with⟨c42,h⟩|⟨c42,h⟩
  ·obtain rfl:=lf h
   have z:=p43<|sg 0 c42<|en (aI (rP (.int .i64 2))<|trivial)
   exact ck rm call117 func117 (c:=NU) rfl (aI (ah p) trivial) z<|by kernel_rfl
  ·obtain⟨r44,br44,h⟩:=aA h
   have p46:=fun{sc F} (r:PS sc F)=>p43<|sg 0 c42<|sv (aY p)<|bP (Lb br44)<|r
   rcases aX h with⟨c45,h⟩|⟨c45,h⟩
   ·obtain rfl:=lf h
    have z:=p46<|sg 0 c45<|en (aI (rP (.int .i64 3))<|trivial)
    exact ck rm call117 func117 (c:=NU) rfl (aI (ah p) trivial) z<|by kernel_rfl
   ·obtain⟨o50,bo50,h⟩:=aA h
    have p52:=fun{sc F} (r:PS sc F)=>p46<|sg 0 c45<|oe 1<|di (I8 p bo50)<|r
    rcases aX h with⟨c51,h⟩|⟨c51,h⟩
    ·obtain rfl:=lf h
     have z:=p52<|sg 0 c51<|en (aI (rP (.int .i64 6))<|trivial)
     exact ck rm call117 func117 (c:=NU) rfl (aI (ah p) trivial) z<|by kernel_rfl
    ·obtain rfl:=lf h
     have z:=p52<|sg 0 c51<|en (aI (rP (.int .i64 0))<|trivial)
     exact ck rm call117 func117 (c:=NU) rfl (aI (ah p) trivial) z<|by kernel_rfl
noncomputable def Vj:Code:=f107.body.getD .skip
def Tt:List Nat:=[11,23]
section
variable(R39:xI)(t13:waA)(t14:Int)(t15:Int)
def my:az:=aW 25 [(13,sl ac t13),(14,.int .i64 t14),(15,.int .i64 t15)] [.dead] []
def mz(o:Int⊕(Unit)):Exit:=match o with
 |(.inl _)=>.ret
 |(.inr _)=>.exit 0
def jT(o:Int⊕(Unit)):az:=match o with
 |(.inl o)=>aW 25 [(2,.int .i64 o)] [.dead] []
 |(.inr o)=>aW 25 [] [.dead] []
def Cl:Option (Int⊕(Int⊕(Unit))):=
 if(decide (t15<t14))=true then
  (cH t13 t15).bind fun x5=>
  (R39 x5).bind fun r6=>
  if(r6 !=0)=true then
   some (.inr (.inl r6))
  else
   some (.inl (aO (t15+1)))
 else
  some (.inr (.inr ()))
def zE:Option (Int⊕(Unit)):=loop (fun(zz:Int)=>Cl R39 t13 t14 zz) t15
theorem HA(hR39:CV R39){y:Int⊕(Int⊕(Unit))}(h:Cl R39 t13 t14 t15=some y):aQ Pg GE 0 (cA Vj 119) (LQ (fun(zz:Int)=>my t13 t14 zz) mz jT y) (my t13 t14 t15):=by
 rcases aX h with⟨c4,h⟩|⟨c4,h⟩
 ·obtain⟨x5,bx5,h⟩:=aA h
  obtain⟨r6,br6,h⟩:=aA h
  have p8:=fun{sc F} (r:PS sc F)=>sg 0 c4<|sv (cd.ia (k:=.i64) bx5)<|sv (aY x5)<|sx lM<|sx (dn x5)<|sv (ch x5 [])<|bP (hR39 _ _ br6)<|r
  rcases aX h with⟨c7,h⟩|⟨c7,h⟩
  ·obtain rfl:=lf h
   have z:=p8<|sg 0 c7<|y4 0 (mz (.inl r6)) (jT (.inl r6)) rfl (eh (aI trivial trivial)) (aI trivial trivial)
   exact Gs (A:=Tt) mixed (by intro hx;cases hx) z<|by kernel_rfl
  ·obtain rfl:=lf h
   have z:=p8<|sg 0 c7<|y4 0 .normal (my t13 t14 (aO (t15+1))) rfl (eh (aI (up (aq ah t13)) (aI trivial (aI trivial trivial)))) (aI trivial trivial)
   exact dV (A:=Tt) mixed z<|by kernel_rfl
 ·obtain rfl:=lf h
  have z:=sg 0 c4<|eF (mz (.inr ())) (jT (.inr ()))
  exact iW Tt (by intro hx;cases hx) z<|by kernel_rfl
theorem zF(hR39:CV R39){x:Int⊕(Unit)}(h:zE R39 t13 t14 t15=some x):aQ Pg GE 0 (.loop (cA Vj 119)) (EX (mz x) (jT x)) (my t13 t14 t15):=
 aQ.loop (S:=fun(zz:Int)=>my t13 t14 zz) (ex:=mz) (s:=t15) h fun zz y hy=>HA R39 t13 t14 zz hR39 hy
end
def xr(R39:xI)(p:aa):Option Int:=
 (D1 p).bind fun r1=>
 if(r1 !=0)=true then
  some r1
 else
  (zE R39 p.Kids (p.Kids.length:Int) 0).bind fun o9=>match o9 with
  |(.inl o9)=>
   some o9
  |(.inr o9)=>
   some 0
theorem NA(R39:xI)(hR39:CV R39){p:aa}{r:Int}(h:xr R39 p=some r):CC Pg GE 107 [.agg (ac p)] (.int .i64 r) []:=by
 obtain⟨r1,br1,h⟩:=aA h
 have p3:=fun{sc F} (r:PS sc F)=>se (cf p)<|sv (aY p)<|bP (Po br1)<|r
 rcases aX h with⟨c2,h⟩|⟨c2,h⟩
 ·obtain rfl:=lf h
  have z:=p3<|sg 0 c2<|en (aI (rP (.int .i64 r1))<|trivial)
  exact ck Tt call107 func107 (c:=Vj) rfl (aI (ah p) trivial) z<|by kernel_rfl
 ·obtain⟨o9,bo9,h⟩:=aA h
  rcases o9 with o9|o9
  ·obtain rfl:=lf h
   have z:=p3<|sg 0 c2<|sv (bu p)<|sv (bw p)<|cw (cd.ln p.Kids)<|di (e:=.ret) (s1:=jT (.inl o9)) (zF R39 p.Kids (p.Kids.length:Int) 0 hR39 bo9)<|en (aI (rP (.int .i64 o9))<|trivial)
   exact ck Tt call107 func107 (c:=Vj) rfl (aI (ah p) trivial) z<|by kernel_rfl
  ·obtain rfl:=lf h
   have z:=p3<|sg 0 c2<|sv (bu p)<|sv (bw p)<|cw (cd.ln p.Kids)<|di (e:=.exit 0) (s1:=jT (.inr o9)) (zF R39 p.Kids (p.Kids.length:Int) 0 hR39 bo9)<|en (aI (rP (.int .i64 0))<|trivial)
   exact ck Tt call107 func107 (c:=Vj) rfl (aI (ah p) trivial) z<|by kernel_rfl
def CZ:(aa->Option Int)->(aa)->Option Int:=fun(rec:aa->Option Int) (x:aa)=>xr (fun p=>rec p) x
def I1(p:aa):Option Int:=oP CZ p
theorem Pn{p:aa}{r:Int}(h:I1 p=some r):CC Pg GE 107 [.agg (ac p)] (.int .i64 r) []:=
 cR (F:=CZ) (M:=fun(x:aa) (r:Int)=>CC Pg GE 107 [.agg (ac x)] (.int .i64 r) []) (fun rec hrec x r h=>NA _ (fun p r h=>hrec p r h) h) h
noncomputable def qcx:Code:=f89.body.getD .skip
def qcg:List Nat:=[]
def Bk(p:aa):Option Int:=
 (FA p).bind fun r1=>
 if(decide (r1>400))=true then
  some 7
 else
  (Fx p).bind fun r4=>
  if(decide (r4>40))=true then
   some 8
  else
   (I1 p).bind fun r7=>
   some r7
theorem Nw{p:aa}{r:Int}(h:Bk p=some r):CC Pg GE 89 [.agg (ac p)] (.int .i64 r) []:=by
 obtain⟨r1,br1,h⟩:=aA h
 have p3:=fun{sc F} (r:PS sc F)=>se (cf p)<|sv (aY p)<|bP (Ny br1)<|r
 rcases aX h with⟨c2,h⟩|⟨c2,h⟩
 ·obtain rfl:=lf h
  have z:=p3<|sg 0 c2<|en (aI (rP (.int .i64 7))<|trivial)
  exact ck qcg call89 func89 (c:=qcx) rfl (aI (ah p) trivial) z<|by kernel_rfl
 ·obtain⟨r4,br4,h⟩:=aA h
  have p6:=fun{sc F} (r:PS sc F)=>p3<|sg 0 c2<|sv (aY p)<|bP (Nx br4)<|r
  rcases aX h with⟨c5,h⟩|⟨c5,h⟩
  ·obtain rfl:=lf h
   have z:=p6<|sg 0 c5<|en (aI (rP (.int .i64 8))<|trivial)
   exact ck qcg call89 func89 (c:=qcx) rfl (aI (ah p) trivial) z<|by kernel_rfl
  ·obtain⟨r7,br7,h⟩:=aA h
   obtain rfl:=lf h
   have z:=p6<|sg 0 c5<|sv (aY p)<|bP (Pn br7)<|en (aI (rP (.int .i64 r7))<|trivial)
   exact ck qcg call89 func89 (c:=qcx) rfl (aI (ah p) trivial) z<|by kernel_rfl
noncomputable def Vl:Code:=f62.body.getD .skip
def Pa:List Nat:=[63]
section
variable(t:ae)
def Lv:az:=aW 65 [(1,.eptr (af t))] [.dead] []
def jY(o:Bool):az:=aW 65 [(1,.eptr (af t)),(27,.bool o)] [.dead] []
def Ad:Option Bool:=
 if (t.Op == 6) = true then
  (Aj t.Pred).bind fun r3=>
  if(!r3)=true then
   some true
  else
   if(t.Op !=4)=true then
    some (decide ((t.Preds.length:Int)>0))
   else
    some false
 else
  if(t.Op !=4)=true then
   some (decide ((t.Preds.length:Int)>0))
  else
   some false
theorem Jw{x:Bool}(h:Ad t=some x):aQ Pg GE 0 (cA Vl 12) (EX .normal (jY t x)) (Lv t):=by
 have p2:=fun{sc F} (r:PS sc F)=>sv (aH t)<|sv (aJ t)<|r
 rcases aX h with⟨c1,h⟩|⟨c1,h⟩
 ·obtain⟨r3,br3,h⟩:=aA h
  have p5:=fun{sc F} (r:PS sc F)=>p2<|sg 4 c1<|sv (d9 t)<|sv (ec t)<|bP (G0 br3)<|r
  rcases aX h with⟨c4,h⟩|⟨c4,h⟩
  ·obtain rfl:=lf h
   exact ct Pa (p5<|sg 10 c4<|eF .normal (jY t true))<|by kernel_rfl
  ·have p7:=fun{sc F} (r:PS sc F)=>p5<|sg 10 c4<|sv (aH t)<|sv (aJ t)<|r
   rcases aX h with⟨c6,h⟩|⟨c6,h⟩
   ·obtain rfl:=lf h
    exact ct Pa (p7<|sg 14 c6<|sv (dN t)<|sv (dQ t)<|cw (cd.ln t.Preds)<|eF .normal (jY t (decide ((t.Preds.length:Int)>0))))<|by kernel_rfl
   ·obtain rfl:=lf h
    exact ct Pa (p7<|sg 14 c6<|eF .normal (jY t false))<|by kernel_rfl
 ·have p9:=fun{sc F} (r:PS sc F)=>p2<|sg 4 c1<|sv (aH t)<|sv (aJ t)<|r
  rcases aX h with⟨c8,h⟩|⟨c8,h⟩
  ·obtain rfl:=lf h
   exact ct Pa (p9<|sg 14 c8<|sv (dN t)<|sv (dQ t)<|cw (cd.ln t.Preds)<|eF .normal (jY t (decide ((t.Preds.length:Int)>0))))<|by kernel_rfl
  ·obtain rfl:=lf h
   exact ct Pa (p9<|sg 14 c8<|eF .normal (jY t false))<|by kernel_rfl
end
section
variable(t:ae)(t29:waB)(t30:Int)(t31:Int)
def mI:az:=aW 65 [(1,.eptr (af t)),(29,sl cS t29),(30,.int .i64 t30),(31,.int .i64 t31)] [.dead] []
def mJ(o:Unit⊕(Unit)):Exit:=match o with
 |(.inl _)=>.ret
 |(.inr _)=>.exit 0
def jZ(o:Unit⊕(Unit)):az:=match o with
 |(.inl o)=>aW 65 [(2,.int .i64 3)] [.dead] []
 |(.inr o)=>aW 65 [(1,.eptr (af t))] [.dead] []
def Cr:Option (Int⊕(Unit⊕(Unit))):=
 if(decide (t31<t30))=true then
  (cH t29 t31).bind fun x14=>
  (pD x14).bind fun r15=>
  if(r15 !=0)=true then
   some (.inr (.inl ()))
  else
   some (.inl (aO (t31+1)))
 else
  some (.inr (.inr ()))
def Af:Option (Unit⊕(Unit)):=loop (fun(zz:Int)=>Cr t29 t30 zz) t31
theorem H8{y:Int⊕(Unit⊕(Unit))}(h:Cr t29 t30 t31=some y):aQ Pg GE 0 (cA Vl 119) (LQ (fun(zz:Int)=>mI t t29 t30 zz) mJ (jZ t) y) (mI t t29 t30 t31):=by
 rcases aX h with⟨c13,h⟩|⟨c13,h⟩
 ·obtain⟨x14,bx14,h⟩:=aA h
  obtain⟨r15,br15,h⟩:=aA h
  have p17:=fun{sc F} (r:PS sc F)=>sg 0 c13<|sv (bR.ia (k:=.i64) bx14)<|sv (iY Nd (.str x14) [])<|bP (DY br15)<|r
  rcases aX h with⟨c16,h⟩|⟨c16,h⟩
  ·obtain rfl:=lf h
   have z:=p17<|sg 0 c16<|eF (mJ (.inl ())) (jZ t (.inl ()))
   exact iW Pa (by intro hx;cases hx) z<|by kernel_rfl
  ·obtain rfl:=lf h
   exact rF Pa (p17<|sg 0 c16<|eF .normal (mI t t29 t30 (aO (t31+1))))<|by kernel_rfl
 ·obtain rfl:=lf h
  have z:=sg 0 c13<|eF (mJ (.inr ())) (jZ t (.inr ()))
  exact iW Pa (by intro hx;cases hx) z<|by kernel_rfl
theorem Ag{x:Unit⊕(Unit)}(h:Af t29 t30 t31=some x):aQ Pg GE 0 (.loop (cA Vl 119)) (EX (mJ x) (jZ t x)) (mI t t29 t30 t31):=
 aQ.loop (S:=fun(zz:Int)=>mI t t29 t30 zz) (ex:=mJ) (s:=t31) h fun zz y hy=>H8 t t29 t30 zz hy
end
section
variable(e:Int)(t48:waA)(t49:Int)(t50:Int)(m:Int)(m2:ag)(m3:Int)(m4:waA)
def Lw:az:=aW 65 [(6,.bptr 1 0),(7,.int .i64 e),(48,sl ac t48),(49,.int .i64 t49),(50,.int .i64 t50)] [.dead,.cells [.int .i64 m,.str m2,.int .i64 m3,sl ac m4] []] [((48,0),36)]
def vY(o:Bool):az:=aW 65 [(7,.int .i64 e),(48,sl ac t48),(49,.int .i64 t49),(50,.int .i64 t50),(62,.bool o)] [.dead,.cells [.int .i64 m,.str m2,.int .i64 m3,sl ac m4] []] [((48,0),36)]
def Ae:Option Bool:=
 (Aj (⟨m,m2,m3,m4⟩:aa)).bind fun r26=>
 if(!r26)=true then
  some (e !=0)
 else
  some false
theorem Jx{x:Bool}(h:Ae e m m2 m3 m4=some x):aQ Pg GE 0 (cA Vl 64494) (EX .normal (vY e t48 t49 t50 m m2 m3 m4 x)) (Lw e t48 t49 t50 m m2 m3 m4):=by
 obtain⟨r26,br26,h⟩:=aA h
 have p28:=fun{sc F} (r:PS sc F)=>sv (ch (⟨m,m2,m3,m4⟩:aa) [])<|bP (G0 br26)<|r
 rcases aX h with⟨c27,h⟩|⟨c27,h⟩
 ·obtain rfl:=lf h
  exact ct Pa (p28<|sg 4 c27<|eF .normal (vY e t48 t49 t50 m m2 m3 m4 (e !=0)))<|by kernel_rfl
 ·obtain rfl:=lf h
  exact ct Pa (p28<|sg 4 c27<|eF .normal (vY e t48 t49 t50 m m2 m3 m4 false))<|by kernel_rfl
end
section
variable(t48:waA)(t49:Int)(t50:Int)
def mK:az:=aW 65 [(48,sl ac t48),(49,.int .i64 t49),(50,.int .i64 t50)] [.dead] [((48,0),36)]
def mL(o:Int⊕(Unit)):Exit:=match o with
 |(.inl _)=>.ret
 |(.inr _)=>.exit 2
def j0(o:Int⊕(Unit)):az:=match o with
 |(.inl o)=>aW 65 [(2,.int .i64 o)] [.dead] []
 |(.inr o)=>aW 65 [] [.dead] []
def Cs:Option (Int⊕(Int⊕(Unit))):=
 if(decide (t50<t49))=true then
  (cH t48 t50).bind fun x24=>
  (Bk x24).bind fun r25=>
  (Ae r25 x24.Op x24.Name x24.N x24.Kids).bind fun o29=>
  if o29=true then
   some (.inr (.inl r25))
  else
   some (.inl (aO (t50+1)))
 else
  some (.inr (.inr ()))
def Ah:Option (Int⊕(Unit)):=loop (fun(zz:Int)=>Cs t48 t49 zz) t50
theorem H9{y:Int⊕(Int⊕(Unit))}(h:Cs t48 t49 t50=some y):aQ Pg GE 0 (cA Vl 503) (LQ (fun(zz:Int)=>mK t48 t49 zz) mL j0 y) (mK t48 t49 t50):=by
 rcases aX h with⟨c23,h⟩|⟨c23,h⟩
 ·obtain⟨x24,bx24,h⟩:=aA h
  obtain⟨r25,br25,h⟩:=aA h
  obtain⟨o29,bo29,h⟩:=aA h
  have p31:=fun{sc F} (r:PS sc F)=>sg 0 c23<|sv (cd.ia (k:=.i64) bx24)<|sv (aY x24)<|sx lM<|sx (dn x24)<|sv (ch x24 [])<|bP (Nw br25)<|oe 0<|di (Jx r25 t48 t49 t50 x24.Op x24.Name x24.N x24.Kids bo29)<|r
  rcases aX h with⟨c30,h⟩|⟨c30,h⟩
  ·obtain rfl:=lf h
   have z:=p31<|sg 0 c30<|y4 0 (mL (.inl r25)) (j0 (.inl r25)) rfl (eh (aI trivial trivial)) (aI trivial trivial)
   exact Gs (A:=Pa) mixed (by intro hx;cases hx) z<|by kernel_rfl
  ·obtain rfl:=lf h
   have z:=p31<|sg 0 c30<|y4 0 .normal (mK t48 t49 (aO (t50+1))) rfl (eh (aI (up (aq ah t48)) (aI trivial (aI trivial trivial)))) (aI trivial trivial)
   exact dV (A:=Pa) mixed z<|by kernel_rfl
 ·obtain rfl:=lf h
  have z:=sg 0 c23<|eF (mL (.inr ())) (j0 (.inr ()))
  exact iW Pa (by intro hx;cases hx) z<|by kernel_rfl
theorem Ai{x:Int⊕(Unit)}(h:Ah t48 t49 t50=some x):aQ Pg GE 0 (.loop (cA Vl 503)) (EX (mL x) (j0 x)) (mK t48 t49 t50):=
 aQ.loop (S:=fun(zz:Int)=>mK t48 t49 zz) (ex:=mL) (s:=t50) h fun zz y hy=>H9 t48 t49 zz hy
end
def Eb(t:ae):Option Int:=
 (Ad t).bind fun o10=>
 if o10=true then
  some 1
 else
  (Af t.Names (t.Names.length:Int) 0).bind fun o18=>match o18 with
  |(.inl o18)=>
   some 3
  | (.inr o18) =>
   (sd t.Names).bind fun r19=>
   if(!r19)=true then
    some 4
   else
    (app ([t.Pred]:List aa) t.Preds).bind fun l22=>
    (Ah l22 (l22.length:Int) 0).bind fun o32=>match o32 with
    |(.inl o32)=>
     some o32
    |(.inr o32)=>
     some 0
theorem Pt{t:ae}{r:Int}(h:Eb t=some r):CC Pg GE 62 [.agg (af t)] (.int .i64 r) []:=by
 obtain⟨o10,bo10,h⟩:=aA h
 have p12:=fun{sc F} (r:PS sc F)=>se (co t)<|oe 1<|di (Jw t bo10)<|r
 rcases aX h with⟨c11,h⟩|⟨c11,h⟩
 ·obtain rfl:=lf h
  have z:=p12<|sg 0 c11<|en (aI (rP (.int .i64 1))<|trivial)
  exact ck Pa call62 func62 (c:=Vl) rfl (aI (av t) trivial) z<|by kernel_rfl
 ·obtain⟨o18,bo18,h⟩:=aA h
  rcases o18 with o18|o18
  ·obtain rfl:=lf h
   have z:=p12<|sg 0 c11<|sv (be t)<|sv (bh t)<|cw (bR.ln t.Names)<|di (e:=.ret) (s1:=jZ t (.inl o18)) (Ag t t.Names (t.Names.length:Int) 0 bo18)<|en (aI (rP (.int .i64 3))<|trivial)
   exact ck Pa call62 func62 (c:=Vl) rfl (aI (av t) trivial) z<|by kernel_rfl
  ·obtain⟨r19,br19,h⟩:=aA h
   have p21:=fun{sc F} (r:PS sc F)=>p12<|sg 0 c11<|sv (be t)<|sv (bh t)<|cw (bR.ln t.Names)<|di (e:=.exit 0) (s1:=jZ t (.inr o18)) (Ag t t.Names (t.Names.length:Int) 0 bo18)<|sv (be t)<|sv (bh t)<|bP (Hq br19)<|r
   rcases aX h with⟨c20,h⟩|⟨c20,h⟩
   ·obtain rfl:=lf h
    have z:=p21<|sg 0 c20<|en (aI (rP (.int .i64 4))<|trivial)
    exact ck Pa call62 func62 (c:=Vl) rfl (aI (av t) trivial) z<|by kernel_rfl
   ·obtain⟨l22,bl22,h⟩:=aA h
    obtain⟨o32,bo32,h⟩:=aA h
    rcases o32 with o32|o32
    ·obtain rfl:=lf h
     have z:=p21<|sg 0 c20<|sv (d9 t)<|sv (ec t)<|sv (cd.mk' (v:=ff) dl ([t.Pred]:List aa) 1 (by kernel_rfl))<|sv (dN t)<|sv (dQ t)<|sv (cd.ap bl22)<|cw (cd.ln l22)<|di (e:=.ret) (s1:=j0 (.inl o32)) (Ai l22 (l22.length:Int) 0 bo32)<|en (aI (rP (.int .i64 o32))<|trivial)
     exact ck Pa call62 func62 (c:=Vl) rfl (aI (av t) trivial) z<|by kernel_rfl
    ·obtain rfl:=lf h
     have z:=p21<|sg 0 c20<|sv (d9 t)<|sv (ec t)<|sv (cd.mk' (v:=ff) dl ([t.Pred]:List aa) 1 (by kernel_rfl))<|sv (dN t)<|sv (dQ t)<|sv (cd.ap bl22)<|cw (cd.ln l22)<|di (e:=.exit 2) (s1:=j0 (.inr o32)) (Ai l22 (l22.length:Int) 0 bo32)<|en (aI (rP (.int .i64 0))<|trivial)
     exact ck Pa call62 func62 (c:=Vl) rfl (aI (av t) trivial) z<|by kernel_rfl
noncomputable def qaR:Code:=f40.body.getD .skip
def Z8:List Nat:=[11,23]
section
variable(R31:xK)(t13:waC)(t14:Int)(t15:Int)
def mG:az:=aW 25 [(13,sl af t13),(14,.int .i64 t14),(15,.int .i64 t15)] [.dead] []
def mH(o:Int⊕(Unit)):Exit:=match o with
 |(.inl _)=>.ret
 |(.inr _)=>.exit 0
def jX(o:Int⊕(Unit)):az:=match o with
 |(.inl o)=>aW 25 [(2,.int .i64 o)] [.dead] []
 |(.inr o)=>aW 25 [] [.dead] []
def Cq:Option (Int⊕(Int⊕(Unit))):=
 if(decide (t15<t14))=true then
  (cH t13 t15).bind fun x5=>
  (R31 x5).bind fun r6=>
  if(r6 !=0)=true then
   some (.inr (.inl r6))
  else
   some (.inl (aO (t15+1)))
 else
  some (.inr (.inr ()))
def Aa:Option (Int⊕(Unit)):=loop (fun(zz:Int)=>Cq R31 t13 t14 zz) t15
theorem H7(hR31:CX R31){y:Int⊕(Int⊕(Unit))}(h:Cq R31 t13 t14 t15=some y):aQ Pg GE 0 (cA qaR 119) (LQ (fun(zz:Int)=>mG t13 t14 zz) mH jX y) (mG t13 t14 t15):=by
 rcases aX h with⟨c4,h⟩|⟨c4,h⟩
 ·obtain⟨x5,bx5,h⟩:=aA h
  obtain⟨r6,br6,h⟩:=aA h
  have p8:=fun{sc F} (r:PS sc F)=>sg 0 c4<|sv (cQ.ia (k:=.i64) bx5)<|sv (aZ x5)<|sx A6<|sx (iX x5)<|sv (dj x5 [])<|bP (hR31 _ _ br6)<|r
  rcases aX h with⟨c7,h⟩|⟨c7,h⟩
  ·obtain rfl:=lf h
   have z:=p8<|sg 0 c7<|y4 0 (mH (.inl r6)) (jX (.inl r6)) rfl (eh (aI trivial trivial)) (aI trivial trivial)
   exact Gs (A:=Z8) mixed (by intro hx;cases hx) z<|by kernel_rfl
  ·obtain rfl:=lf h
   have z:=p8<|sg 0 c7<|y4 0 .normal (mG t13 t14 (aO (t15+1))) rfl (eh (aI (up (aq av t13)) (aI trivial (aI trivial trivial)))) (aI trivial trivial)
   exact dV (A:=Z8) mixed z<|by kernel_rfl
 ·obtain rfl:=lf h
  have z:=sg 0 c4<|eF (mH (.inr ())) (jX (.inr ()))
  exact iW Z8 (by intro hx;cases hx) z<|by kernel_rfl
theorem Ac(hR31:CX R31){x:Int⊕(Unit)}(h:Aa R31 t13 t14 t15=some x):aQ Pg GE 0 (.loop (cA qaR 119)) (EX (mH x) (jX x)) (mG t13 t14 t15):=
 aQ.loop (S:=fun(zz:Int)=>mG t13 t14 zz) (ex:=mH) (s:=t15) h fun zz y hy=>H7 R31 t13 t14 zz hR31 hy
end
def xG(R31:xK)(t:ae):Option Int:=
 (Eb t).bind fun r1=>
 if(r1 !=0)=true then
  some r1
 else
  (Aa R31 t.Args (t.Args.length:Int) 0).bind fun o9=>match o9 with
  |(.inl o9)=>
   some o9
  |(.inr o9)=>
   some 0
theorem NL(R31:xK)(hR31:CX R31){t:ae}{r:Int}(h:xG R31 t=some r):CC Pg GE 40 [.agg (af t)] (.int .i64 r) []:=by
 obtain⟨r1,br1,h⟩:=aA h
 have p3:=fun{sc F} (r:PS sc F)=>se (co t)<|sv (aZ t)<|bP (Pt br1)<|r
 rcases aX h with⟨c2,h⟩|⟨c2,h⟩
 ·obtain rfl:=lf h
  have z:=p3<|sg 0 c2<|en (aI (rP (.int .i64 r1))<|trivial)
  exact ck Z8 call40 func40 (c:=qaR) rfl (aI (av t) trivial) z<|by kernel_rfl
 ·obtain⟨o9,bo9,h⟩:=aA h
  rcases o9 with o9|o9
  ·obtain rfl:=lf h
   have z:=p3<|sg 0 c2<|sv (aT t)<|sv (aU t)<|cw (cQ.ln t.Args)<|di (e:=.ret) (s1:=jX (.inl o9)) (Ac R31 t.Args (t.Args.length:Int) 0 hR31 bo9)<|en (aI (rP (.int .i64 o9))<|trivial)
   exact ck Z8 call40 func40 (c:=qaR) rfl (aI (av t) trivial) z<|by kernel_rfl
  ·obtain rfl:=lf h
   have z:=p3<|sg 0 c2<|sv (aT t)<|sv (aU t)<|cw (cQ.ln t.Args)<|di (e:=.exit 0) (s1:=jX (.inr o9)) (Ac R31 t.Args (t.Args.length:Int) 0 hR31 bo9)<|en (aI (rP (.int .i64 0))<|trivial)
   exact ck Z8 call40 func40 (c:=qaR) rfl (aI (av t) trivial) z<|by kernel_rfl
def C6:(ae->Option Int)->(ae)->Option Int:=fun(rec:ae->Option Int) (x:ae)=>xG (fun t=>rec t) x
def Jv(t:ae):Option Int:=oP C6 t
theorem Ps{t:ae}{r:Int}(h:Jv t=some r):CC Pg GE 40 [.agg (af t)] (.int .i64 r) []:=
 cR (F:=C6) (M:=fun(x:ae) (r:Int)=>CC Pg GE 40 [.agg (af x)] (.int .i64 r) []) (fun rec hrec x r h=>NL _ (fun t r h=>hrec t r h) h) h
noncomputable def qc4:Code:=f16.body.getD .skip
def qcY:List Nat:=[8]
def Bp(t:ae):Option Int:=
 (Bm t).bind fun r1=>
 if(r1 !=0)=true then
  some r1
 else
  (Jv t).bind fun r4=>
  some r4
theorem NK{t:ae}{r:Int}(h:Bp t=some r):CC Pg GE 16 [.agg (af t)] (.int .i64 r) []:=by
 obtain⟨r1,br1,h⟩:=aA h
 have p3:=fun{sc F} (r:PS sc F)=>se (co t)<|sv (aZ t)<|bP (NC br1)<|r
 rcases aX h with⟨c2,h⟩|⟨c2,h⟩
 ·obtain rfl:=lf h
  have z:=p3<|sg 0 c2<|en (aI (rP (.int .i64 r1))<|trivial)
  exact ck qcY call16 func16 (c:=qc4) rfl (aI (av t) trivial) z<|by kernel_rfl
 ·obtain⟨r4,br4,h⟩:=aA h
  obtain rfl:=lf h
  have z:=p3<|sg 0 c2<|sv (aZ t)<|bP (Ps br4)<|en (aI (rP (.int .i64 r4))<|trivial)
  exact ck qcY call16 func16 (c:=qc4) rfl (aI (av t) trivial) z<|by kernel_rfl
noncomputable def qdJ:Code:=f33.body.getD .skip
def qdy:List Nat:=[]
def jf(s:ag):Option aa:=
 some (⟨3,s,0,([]:List aa)⟩:aa)
theorem gO{s:ag}{r:aa}(h:jf s=some r):CC Pg GE 33 [.str s] (.agg (ac r)) [(3,36)]:=by
 obtain rfl:=lf h
 have z:=sx lM<|sb (oG 3 s) (oF 3 s)<|sy (aE (⟨3,s,0,([]:List aa)⟩:aa))<|en (aI (e9 (⟨3,s,0,([]:List aa)⟩:aa))<|aI (ah (⟨3,s,0,([]:List aa)⟩:aa))<|rT)
 exact ck qdy call33 func33 (c:=qdJ) rfl (aI trivial trivial) z<|by kernel_rfl
noncomputable def qdI:Code:=f32.body.getD .skip
def qdx:List Nat:=[]
def Bu(op:Int)(a:aa)(a2:aa):Option aa:=
 some (⟨op,([]:ag),0,([a,a2]:List aa)⟩:aa)
theorem tK{op:Int}{a:aa}{a2:aa}{r:aa}(h:Bu op a a2=some r):CC Pg GE 32 [.int .i64 op,.agg (ac a),.agg (ac a2)] (.agg (ac r)) []:=by
 obtain rfl:=lf h
 have z:=se (cf a)<|se (cf a2)<|sx lM<|sv (aY a)<|sv (aY a2)<|sv (cd.mk' (v:=ff) dl ([a,a2]:List aa) 2 (by kernel_rfl))<|sv (Eo op ([a,a2]:List aa))<|sx (dn (⟨op,([]:ag),0,([a,a2]:List aa)⟩:aa))<|en (aI (e9 (⟨op,([]:ag),0,([a,a2]:List aa)⟩:aa))<|(ah (⟨op,([]:ag),0,([a,a2]:List aa)⟩:aa)))
 exact ck qdx call32 func32 (c:=qdI) rfl (aI trivial (aI (ah a) (aI (ah a2) trivial))) z<|by kernel_rfl
noncomputable def qdH:Code:=f31.body.getD .skip
def qdw:List Nat:=[]
def qL(p:aa):Option ae:=
 some (⟨1,([]:ag),([]:List ae),([]:List ag),p,([]:List aa)⟩:ae)
theorem oE{p:aa}{r:ae}(h:qL p=some r):CC Pg GE 31 [.agg (ac p)] (.agg (af r)) [(2,38),(3,9),(8,36)]:=by
 obtain rfl:=lf h
 have z:=se (cf p)<|sx A6<|sv (aY p)<|sb (N1 1 p) (NY 1 p)<|sy (bz (⟨1,([]:ag),([]:List ae),([]:List ag),p,([]:List aa)⟩:ae))<|en (aI (qd (⟨1,([]:ag),([]:List ae),([]:List ag),p,([]:List aa)⟩:ae))<|aI (av (⟨1,([]:ag),([]:List ae),([]:List ag),p,([]:List aa)⟩:ae))<|rT)
 exact ck qdw call31 func31 (c:=qdH) rfl (aI (ah p) trivial) z<|by kernel_rfl
abbrev sD:=(ae->ae->Option Bool)
abbrev xh(R:sD):Prop:=∀(a:ae) (a2:ae) (r:Bool),R a a2=some r->CC Pg GE 34 [.agg (af a),.agg (af a2)] (.bool r) []
noncomputable def qae:Code:=f34.body.getD .skip
def Xh:List Nat:=[32]
section
variable(v:ae)(v2:ae)
def Iz:az:=aW 46 [(2,.eptr (af v)),(3,.eptr (af v2))] [.dead,.dead] []
def nn(o:Bool):az:=aW 46 [(2,.eptr (af v)),(3,.eptr (af v2)),(26,.bool o)] [.dead,.dead] []
def wt:Option Bool:=
 if(v.Op !=v2.Op)=true then
  some true
 else
  if(!(v.Name==v2.Name))=true then
   some true
  else
   some ((v.Args.length:Int)!=(v2.Args.length:Int))
theorem GQ{x:Bool}(h:wt v v2=some x):aQ Pg GE 0 (cA qae 12) (EX .normal (nn v v2 x)) (Iz v v2):=by
 have p2:=fun{sc F} (r:PS sc F)=>sv (aH v)<|sv (aJ v)<|sv (aH v2)<|sv (aJ v2)<|r
 rcases aX h with⟨c1,h⟩|⟨c1,h⟩
 ·obtain rfl:=lf h
  exact ct Xh (p2<|sg 6 c1<|eF .normal (nn v v2 true))<|by kernel_rfl
 ·have p4:=fun{sc F} (r:PS sc F)=>p2<|sg 6 c1<|sv (df v)<|sv (dz v)<|sv (df v2)<|sv (dz v2)<|r
  rcases aX h with⟨c3,h⟩|⟨c3,h⟩
  ·obtain rfl:=lf h
   exact ct Xh (p4<|sg 13 c3<|eF .normal (nn v v2 true))<|by kernel_rfl
  ·obtain rfl:=lf h
   exact ct Xh (p4<|sg 13 c3<|sv (aT v)<|sv (aU v)<|cw (cQ.ln v.Args)<|sv (aT v2)<|sv (aU v2)<|cw (cQ.ln v2.Args)<|eF .normal (nn v v2 ((v.Args.length:Int)!=(v2.Args.length:Int))))<|by kernel_rfl
end
section
variable(R50:sD)(v:ae)(v2:ae)(t29:Int)(t30:Int)
def jN:az:=aW 46 [(2,.eptr (af v)),(3,.eptr (af v2)),(29,.int .i64 t29),(30,.int .i64 t30)] [.dead,.dead] []
def jO(o:Unit⊕(Unit)):Exit:=match o with
 |(.inl _)=>.ret
 |(.inr _)=>.exit 0
def gT(o:Unit⊕(Unit)):az:=match o with
 |(.inl o)=>aW 46 [(4,.bool false)] [.dead,.dead] []
 |(.inr o)=>aW 46 [] [.dead,.dead] []
def rS:Option (Int⊕(Unit⊕(Unit))):=
 if(decide (t30<t29))=true then
  (cH v.Args t30).bind fun x9=>
  (cH v2.Args t30).bind fun x10=>
  (R50 x9 x10).bind fun r11=>
  if(!r11)=true then
   some (.inr (.inl ()))
  else
   some (.inl (aO (t30+1)))
 else
  some (.inr (.inr ()))
def wu:Option (Unit⊕(Unit)):=loop (fun(zz:Int)=>rS R50 v v2 t29 zz) t30
theorem Fm(hR50:xh R50){y:Int⊕(Unit⊕(Unit))}(h:rS R50 v v2 t29 t30=some y):aQ Pg GE 0 (cA qae 119) (LQ (fun(zz:Int)=>jN v v2 t29 zz) jO gT y) (jN v v2 t29 t30):=by
 rcases aX h with⟨c8,h⟩|⟨c8,h⟩
 ·obtain⟨x9,bx9,h⟩:=aA h
  obtain⟨x10,bx10,h⟩:=aA h
  obtain⟨r11,br11,h⟩:=aA h
  have p13:=fun{sc F} (r:PS sc F)=>sg 0 c8<|ra [0,1,0,7,15,0,32,0,224,480,1023,2047]<|sv (aT v)<|sv (aU v)<|sv (cQ.ia (k:=.i64) bx9)<|sv (aZ x9)<|sv (aT v2)<|sv (aU v2)<|sv (cQ.ia (k:=.i64) bx10)<|sv (aZ x10)<|bP (hR50 _ _ _ br11)<|r
  rcases aX h with⟨c12,h⟩|⟨c12,h⟩
  ·obtain rfl:=lf h
   have z:=p13<|sg 0 c12<|eF (jO (.inl ())) (gT (.inl ()))
   exact iW Xh (by intro hx;cases hx) z<|by kernel_rfl
  ·obtain rfl:=lf h
   exact rF Xh (p13<|sg 0 c12<|eF .normal (jN v v2 t29 (aO (t30+1))))<|by kernel_rfl
 ·obtain rfl:=lf h
  have z:=sg 0 c8<|eF (jO (.inr ())) (gT (.inr ()))
  exact iW Xh (by intro hx;cases hx) z<|by kernel_rfl
theorem xd(hR50:xh R50){x:Unit⊕(Unit)}(h:wu R50 v v2 t29 t30=some x):aQ Pg GE 0 (.loop (cA qae 119)) (EX (jO x) (gT x)) (jN v v2 t29 t30):=
 aQ.loop (S:=fun(zz:Int)=>jN v v2 t29 zz) (ex:=jO) (s:=t30) h fun zz y hy=>Fm R50 v v2 t29 zz hR50 hy
end
def sS(R50:sD)(a:ae)(a2:ae):Option Bool:=
 (wt a a2).bind fun o5=>
 if o5=true then
  some false
 else
  (wu R50 a a2 (a.Args.length:Int) 0).bind fun o14=>match o14 with
  |(.inl o14)=>
   some false
  |(.inr o14)=>
   some true
theorem K1(R50:sD)(hR50:xh R50){a:ae}{a2:ae}{r:Bool}(h:sS R50 a a2=some r):CC Pg GE 34 [.agg (af a),.agg (af a2)] (.bool r) []:=by
 obtain⟨o5,bo5,h⟩:=aA h
 have p7:=fun{sc F} (r:PS sc F)=>se (co a)<|se (co a2)<|oe 1<|di (GQ a a2 bo5)<|r
 rcases aX h with⟨c6,h⟩|⟨c6,h⟩
 ·obtain rfl:=lf h
  have z:=p7<|sg 0 c6<|en (aI (rP (.bool false))<|trivial)
  exact ck Xh call34 func34 (c:=qae) rfl (aI (av a) (aI (av a2) trivial)) z<|by kernel_rfl
 ·obtain⟨o14,bo14,h⟩:=aA h
  rcases o14 with o14|o14
  ·obtain rfl:=lf h
   have z:=p7<|sg 0 c6<|sv (aT a)<|sv (aU a)<|cw (cQ.ln a.Args)<|di (e:=.ret) (s1:=gT (.inl o14)) (xd R50 a a2 (a.Args.length:Int) 0 hR50 bo14)<|en (aI (rP (.bool false))<|trivial)
   exact ck Xh call34 func34 (c:=qae) rfl (aI (av a) (aI (av a2) trivial)) z<|by kernel_rfl
  ·obtain rfl:=lf h
   have z:=p7<|sg 0 c6<|sv (aT a)<|sv (aU a)<|cw (cQ.ln a.Args)<|di (e:=.exit 0) (s1:=gT (.inr o14)) (xd R50 a a2 (a.Args.length:Int) 0 hR50 bo14)<|en (aI (rP (.bool true))<|trivial)
   exact ck Xh call34 func34 (c:=qae) rfl (aI (av a) (aI (av a2) trivial)) z<|by kernel_rfl
def yC:((ae×ae)->Option Bool)->(ae×ae)->Option Bool:=fun(rec:(ae×ae)->Option Bool) (x:ae×ae)=>sS (fun a a2=>rec (a,a2)) x.1 x.2
def DT(a:ae)(a2:ae):Option Bool:=oP yC (a,a2)
theorem Mj{a:ae}{a2:ae}{r:Bool}(h:DT a a2=some r):CC Pg GE 34 [.agg (af a),.agg (af a2)] (.bool r) []:=
 cR (F:=yC) (M:=fun(x:ae×ae) (r:Bool)=>CC Pg GE 34 [.agg (af x.1),.agg (af x.2)] (.bool r) []) (fun rec hrec x r h=>K1 _ (fun a a2 r h=>hrec (a,a2) r h) h) h
abbrev du:=(aM->ae->ae->waB->Option ak)
abbrev gU(R:du):Prop:=∀(w:aM) (a:ae) (a2:ae) (used:waB) (r:ak),R w a a2 used=some r->CC Pg GE 35 [.agg (aL w),.agg (af a),.agg (af a2),sl cS used] (.agg (ax r)) []
noncomputable def qbM:Code:=f23.body.getD .skip
def qbE:List Nat:=[]
def jp(t:ae):Option Bool:=
 if(t.Op==1)=true then
  some true
 else
  if(t.Op==2)=true then
   some true
  else
   if(t.Op==3)=true then
    some true
   else
    some (t.Op==4)
theorem nm{t:ae}{r:Bool}(h:jp t=some r):CC Pg GE 23 [.agg (af t)] (.bool r) []:=by
 have p2:=fun{sc F} (r:PS sc F)=>se (co t)<|sv (aH t)<|sv (aJ t)<|r
 rcases aX h with⟨c1,h⟩|⟨c1,h⟩
 ·obtain rfl:=lf h
  have z:=p2<|sg 4 c1<|en (aI (rP (.bool true))<|trivial)
  exact ck qbE call23 func23 (c:=qbM) rfl (aI (av t) trivial) z<|by kernel_rfl
 ·have p4:=fun{sc F} (r:PS sc F)=>p2<|sg 4 c1<|sv (aH t)<|sv (aJ t)<|r
  rcases aX h with⟨c3,h⟩|⟨c3,h⟩
  ·obtain rfl:=lf h
   have z:=p4<|sg 9 c3<|en (aI (rP (.bool true))<|trivial)
   exact ck qbE call23 func23 (c:=qbM) rfl (aI (av t) trivial) z<|by kernel_rfl
  ·have p6:=fun{sc F} (r:PS sc F)=>p4<|sg 9 c3<|sv (aH t)<|sv (aJ t)<|r
   rcases aX h with⟨c5,h⟩|⟨c5,h⟩
   ·obtain rfl:=lf h
    have z:=p6<|sg 14 c5<|en (aI (rP (.bool true))<|trivial)
    exact ck qbE call23 func23 (c:=qbM) rfl (aI (av t) trivial) z<|by kernel_rfl
   ·obtain rfl:=lf h
    have z:=p6<|sg 14 c5<|sv (aH t)<|sv (aJ t)<|en (aI (rP (.bool (t.Op==4)))<|trivial)
    exact ck qbE call23 func23 (c:=qbM) rfl (aI (av t) trivial) z<|by kernel_rfl
noncomputable def qah:Code:=f77.body.getD .skip
def qac:List Nat:=[24,35]
section
variable(base:ag)(t11:waB)(t12:Int)(t13:Int)(m0:(List (ag×Bool)))
def iT:az:=aW 36 [(1,.str base),(5,.mapr 0),(11,sl cS t11),(12,.int .i64 t12),(13,.int .i64 t13)] [.map (Dl PVal.bool m0)] []
def pR(o:(List (ag×Bool))):az:=aW 36 [(1,.str base),(5,.mapr 0)] [.map (Dl PVal.bool o)] []
def iU:Option ((Int×(List (ag×Bool)))⊕(((List (ag×Bool))))):=
 if(decide (t13<t12))=true then
  (cH t11 t13).bind fun x2=>
  some (.inl (aO (t13+1),EM m0 x2 true))
 else
  some (.inr m0)
def oU:Option (((List (ag×Bool)))):=loop (fun(zz:Int×(List (ag×Bool)))=>iU t11 t12 zz.1 zz.2) (t13,m0)
theorem Dy{y:(Int×(List (ag×Bool)))⊕(((List (ag×Bool))))}(h:iU t11 t12 t13 m0=some y):aQ Pg GE 0 (cA qah 119) (LQ (fun(zz:Int×(List (ag×Bool)))=>iT base t11 t12 zz.1 zz.2) (fun _=>.exit 0) (pR base) y) (iT base t11 t12 t13 m0):=by
 rcases aX h with⟨c1,h⟩|⟨c1,h⟩
 ·obtain⟨x2,bx2,h⟩:=aA h
  obtain rfl:=lf h
  exact rF qac (sg 0 c1<|sv (bR.ia (k:=.i64) bx2)<|sv (iY Nd (.str x2) [])<|qd1 (ZJ (f:=PVal.bool) underlying154 underlying9 m0 x2 true)<|eF .normal (iT base t11 t12 (aO (t13+1)) (EM m0 x2 true)))<|by kernel_rfl
 ·obtain rfl:=lf h
  have z:=sg 0 c1<|eF (.exit 0) (pR base m0)
  exact iW qac (by intro hx;cases hx) z<|by kernel_rfl
theorem EQ{x:((List (ag×Bool)))}(h:oU t11 t12 t13 m0=some x):aQ Pg GE 0 (.loop (cA qah 119)) (EX (.exit 0) (pR base x)) (iT base t11 t12 t13 m0):=
 aQ.loop (S:=fun(zz:Int×(List (ag×Bool)))=>iT base t11 t12 zz.1 zz.2) (ex:=(fun _=>.exit 0)) (s:=(t13,m0)) h fun zz y hy=>Dy base t11 t12 zz.1 zz.2 hy
end
section
variable(base:ag)(m0:(List (ag×Bool)))(n:Int)
def iV:az:=aW 36 [(1,.str base),(5,.mapr 0),(8,.int .i64 n)] [.map (Dl PVal.bool m0)] []
def pS(o:ag):az:=aW 36 [(4,.str o)] [.map (Dl PVal.bool m0)] []
def gh:Option (Int⊕(ag)):=
 (SU n).bind fun r6=>
 (ZA base r6).bind fun s7=>
 if(!((y6 m0 s7).getD false))=true then
  some (.inr s7)
 else
  some (.inl (aO (n+1)))
def kZ:Option ag:=loop (fun(zz:Int)=>gh base m0 zz) n
theorem Dz{y:Int⊕(ag)}(h:gh base m0 n=some y):aQ Pg GE 0 (cA qah 255) (LQ (fun(zz:Int)=>iV base m0 zz) (fun _=>.ret) (pS m0) y) (iV base m0 n):=by
 obtain⟨r6,br6,h⟩:=aA h
 obtain⟨s7,bs7,h⟩:=aA h
 have p9:=fun{sc F} (r:PS sc F)=>bP (XN br6)<|sv (ZW (P:=Pg) (t:=9) bs7)<|sv (We (f:=PVal.bool) underlying154 underlying9 qdu m0 s7)<|r
 rcases aX h with⟨c8,h⟩|⟨c8,h⟩
 ·obtain rfl:=lf h
  have z:=p9<|sg 0 c8<|eF .ret (pS m0 s7)
  exact iW qac (by intro hx;cases hx) z<|by kernel_rfl
 ·obtain rfl:=lf h
  exact rF qac (p9<|sg 0 c8<|eF .normal (iV base m0 (aO (n+1))))<|by kernel_rfl
theorem ER{x:ag}(h:kZ base m0 n=some x):aQ Pg GE 0 (.loop (cA qah 255)) (EX .ret (pS m0 x)) (iV base m0 n):=
 aQ.loop (S:=fun(zz:Int)=>iV base m0 zz) (ex:=(fun _=>.ret)) (s:=n) h fun zz y hy=>Dz base m0 zz hy
end
def kY(used:waB)(base:ag):Option ag:=
 (oU used (used.length:Int) 0 ([]:List (ag×Bool))).bind fun o3=>
 if(!((y6 o3 base).getD false))=true then
  some base
 else
  (kZ base o3 1).bind fun o10=>
  some o10
theorem tV{used:waB}{base:ag}{r:ag}(h:kY used base=some r):CC Pg GE 77 [sl cS used,.str base] (.str r) []:=by
 obtain⟨o3,bo3,h⟩:=aA h
 have p5:=fun{sc F} (r:PS sc F)=>cw (bR.ln used)<|di (EQ base used (used.length:Int) 0 ([]:List (ag×Bool)) bo3)<|sv (We (f:=PVal.bool) underlying154 underlying9 qdu o3 base)<|r
 rcases aX h with⟨c4,h⟩|⟨c4,h⟩
 ·obtain rfl:=lf h
  have z:=p5<|sg 0 c4<|en (aI (rP (.str base))<|trivial)
  exact ck qac call77 func77 (c:=qah) rfl (aI (aq iu used) (aI trivial trivial)) z<|by kernel_rfl
 ·obtain⟨o10,bo10,h⟩:=aA h
  obtain rfl:=lf h
  have z:=p5<|sg 0 c4<|di (ER base o3 1 bo10)<|en (aI (rP (.str o10))<|trivial)
  exact ck qac call77 func77 (c:=qah) rfl (aI (aq iu used) (aI trivial trivial)) z<|by kernel_rfl
noncomputable def Xt:Code:=f109.body.getD .skip
def U3:List Nat:=[10,17]
section
variable(s:waB)(v:ag)(t7:Int)(t8:Int)
def hX:az:=aW 19 [(0,sl cS s),(1,.str v),(7,.int .i64 t7),(8,.int .i64 t8)] [] []
def hZ(o:Int⊕(Unit)):Exit:=match o with
 |(.inl _)=>.ret
 |(.inr _)=>.exit 0
def fG(o:Int⊕(Unit)):az:=match o with
 |(.inl o)=>aW 19 [(4,.int .i64 o)] [] []
 |(.inr o)=>aW 19 [] [] []
def ez:Option (Int⊕(Int⊕(Unit))):=
 if(decide (t8<t7))=true then
  (cH s t8).bind fun x2=>
  if(v==x2)=true then
   some (.inr (.inl t8))
  else
   some (.inl (aO (t8+1)))
 else
  some (.inr (.inr ()))
def rO:Option (Int⊕(Unit)):=loop (fun(zz:Int)=>ez s v t7 zz) t8
theorem Cj{y:Int⊕(Int⊕(Unit))}(h:ez s v t7 t8=some y):aQ Pg GE 0 (cA Xt 55) (LQ (fun(zz:Int)=>hX s v t7 zz) hZ fG y) (hX s v t7 t8):=by
 rcases aX h with⟨c1,h⟩|⟨c1,h⟩
 ·obtain⟨x2,bx2,h⟩:=aA h
  have p4:=fun{sc F} (r:PS sc F)=>sg 0 c1<|sv (bR.ia (k:=.i64) bx2)<|sv (iY Nd (.str x2) [])<|r
  rcases aX h with⟨c3,h⟩|⟨c3,h⟩
  ·obtain rfl:=lf h
   have z:=p4<|sg 0 c3<|eF (hZ (.inl t8)) (fG (.inl t8))
   exact iW U3 (by intro hx;cases hx) z<|by kernel_rfl
  ·obtain rfl:=lf h
   exact rF U3 (p4<|sg 0 c3<|eF .normal (hX s v t7 (aO (t8+1))))<|by kernel_rfl
 ·obtain rfl:=lf h
  have z:=sg 0 c1<|eF (hZ (.inr ())) (fG (.inr ()))
  exact iW U3 (by intro hx;cases hx) z<|by kernel_rfl
theorem ug{x:Int⊕(Unit)}(h:rO s v t7 t8=some x):aQ Pg GE 0 (.loop (cA Xt 55)) (EX (hZ x) (fG x)) (hX s v t7 t8):=
 aQ.loop (S:=fun(zz:Int)=>hX s v t7 zz) (ex:=hZ) (s:=t8) h fun zz y hy=>Cj s v t7 zz hy
end
def ph(s:waB)(v:ag):Option Int:=
 (rO s v (s.length:Int) 0).bind fun o5=>match o5 with
 |(.inl o5)=>
  some o5
 |(.inr o5)=>
  some (-1)
theorem yP{s:waB}{v:ag}{r:Int}(h:ph s v=some r):CC Pg GE 109 [sl cS s,.str v] (.int .i64 r) []:=by
 obtain⟨o5,bo5,h⟩:=aA h
 rcases o5 with o5|o5
 ·obtain rfl:=lf h
  have z:=cw (bR.ln s)<|di (e:=.ret) (s1:=fG (.inl o5)) (ug s v (s.length:Int) 0 bo5)<|en (aI (rP (.int .i64 o5))<|trivial)
  exact ck U3 call109 func109 (c:=Xt) rfl (aI (aq iu s) (aI trivial trivial)) z<|by kernel_rfl
 ·obtain rfl:=lf h
  have z:=cw (bR.ln s)<|di (e:=.exit 0) (s1:=fG (.inr o5)) (ug s v (s.length:Int) 0 bo5)<|en (aI (rP (.int .i64 (-1)))<|trivial)
  exact ck U3 call109 func109 (c:=Xt) rfl (aI (aq iu s) (aI trivial trivial)) z<|by kernel_rfl
noncomputable def qco:Code:=f137.body.getD .skip
def qb9:List Nat:=[]
def eJ(s:waB)(v:ag):Option Bool:=
 (ph s v).bind fun r1=>
 some (decide (r1>=0))
theorem gz{s:waB}{v:ag}{r:Bool}(h:eJ s v=some r):CC Pg GE 137 [sl cS s,.str v] (.bool r) []:=by
 obtain⟨r1,br1,h⟩:=aA h
 obtain rfl:=lf h
 have z:=bP (yP br1)<|en (aI (rP (.bool (decide (r1>=0))))<|trivial)
 exact ck qb9 call137 func137 (c:=qco) rfl (aI (aq iu s) (aI trivial trivial)) z<|by kernel_rfl
noncomputable def Xu:Code:=f119.body.getD .skip
def Tv:List Nat:=[13,28,34]
section
variable(hidden:waB)(s:ai)(i:Int)(n:ag)(t9:waB)(t10:Int)(m:waA)(m2:waB)(m3:waA)
def oc:az:=aW 45 [(1,sl cS hidden),(2,.eptr (aw s)),(4,.bptr 1 0),(5,.bptr 2 0),(6,.int .i64 i),(7,.str n),(9,sl cS t9),(10,.int .i64 t10),(11,.int .i64 i)] [.dead,.cells [sl cS ([]:List ag),sl ac m] [(0,9),(1,36)],.cells [sl cS m2,sl ac m3] [(0,9),(1,36)]] []
def d5(o:Bool):az:=aW 45 [(1,sl cS hidden),(2,.eptr (aw s)),(4,.bptr 1 0),(5,.bptr 2 0),(6,.int .i64 i),(7,.str n),(9,sl cS t9),(10,.int .i64 t10),(11,.int .i64 i),(26,.bool o)] [.dead,.cells [sl cS ([]:List ag),sl ac m] [(0,9),(1,36)],.cells [sl cS m2,sl ac m3] [(0,9),(1,36)]] []
def eM:Option Bool:=
 (eJ hidden n).bind fun r3=>
 if(!r3)=true then
  (eJ m2 n).bind fun r5=>
  some (!r5)
 else
  some false
theorem nG{x:Bool}(h:eM hidden n m2=some x):aQ Pg GE 0 (cA Xu 7670) (EX .normal (d5 hidden s i n t9 t10 m m2 m3 x)) (oc hidden s i n t9 t10 m m2 m3):=by
 obtain⟨r3,br3,h⟩:=aA h
 rcases aX h with⟨c4,h⟩|⟨c4,h⟩
 ·obtain⟨r5,br5,h⟩:=aA h
  obtain rfl:=lf h
  exact ct Tv (bP (gz br3)<|sg 5 c4<|ss<|bP (gz br5)<|eF .normal (d5 hidden s i n t9 t10 m m2 m3 (!r5)))<|by kernel_rfl
 ·obtain rfl:=lf h
  exact ct Tv (bP (gz br3)<|sg 5 c4<|eF .normal (d5 hidden s i n t9 t10 m m2 m3 false))<|by kernel_rfl
end
section
variable(hidden:waB)(s:ai)(t9:waB)(t10:Int)(m:waA)(t11:Int)(m2:waB)(m3:waA)
def bT:az:=aW 45 [(1,sl cS hidden),(2,.eptr (aw s)),(4,.bptr 1 0),(5,.bptr 2 0),(9,sl cS t9),(10,.int .i64 t10),(11,.int .i64 t11)] [.dead,.cells [sl cS ([]:List ag),sl ac m] [(0,9),(1,36)],.cells [sl cS m2,sl ac m3] [(0,9),(1,36)]] []
def d6(o:waB×waA):az:=aW 45 [(4,.bptr 1 0),(5,.bptr 2 0)] [.dead,.cells [sl cS ([]:List ag),sl ac m] [(0,9),(1,36)],.cells [sl cS o.1,sl ac o.2] [(0,9),(1,36)]] []
def bE:Option ((Int×waB×waA)⊕((waB×waA))):=
 if(decide (t11<t10))=true then
  (cH t9 t11).bind fun x2=>
  (eM hidden x2 m2).bind fun o6=>
  if o6=true then
   (app m2 ([x2]:List ag)).bind fun l9=>
   (cH s.by_ t11).bind fun x10=>
   (app m3 ([x10]:List aa)).bind fun l11=>
   some (.inl (aO (t11+1),l9,l11))
  else
   some (.inl (aO (t11+1),m2,m3))
 else
  some (.inr (m2,m3))
def eN:Option ((waB×waA)):=loop (fun(zz:Int×waB×waA)=>bE hidden s t9 t10 zz.1 zz.2.1 zz.2.2) (t11,m2,m3)
theorem mV{y:(Int×waB×waA)⊕((waB×waA))}(h:bE hidden s t9 t10 t11 m2 m3=some y):aQ Pg GE 0 (cA Xu 119) (LQ (fun(zz:Int×waB×waA)=>bT hidden s t9 t10 m zz.1 zz.2.1 zz.2.2) (fun _=>.exit 0) (d6 m) y) (bT hidden s t9 t10 m t11 m2 m3):=by
 rcases aX h with⟨c1,h⟩|⟨c1,h⟩
 ·obtain⟨x2,bx2,h⟩:=aA h
  obtain⟨o6,bo6,h⟩:=aA h
  have p8:=fun{sc F} (r:PS sc F)=>sg 0 c1<|sv (bR.ia (k:=.i64) bx2)<|sv (iY Nd (.str x2) [])<|oe 0<|di (nG hidden s t11 x2 t9 t10 m m2 m3 bo6)<|r
  rcases aX h with⟨c7,h⟩|⟨c7,h⟩
  ·obtain⟨l9,bl9,h⟩:=aA h
   obtain⟨x10,bx10,h⟩:=aA h
   obtain⟨l11,bl11,h⟩:=aA h
   obtain rfl:=lf h
   exact rF Tv (p8<|sg 0 c7<|sv (bR.mk' (v:=PVal.str) L9 ([x2]:List ag) 1 (by kernel_rfl))<|sv (bR.ap bl9)<|ra [0,1,0,4,0,28,60,124,255,511,1023]<|sv (fo s)<|sv (fJ s)<|sv (cd.ia (k:=.i64) bx10)<|sv (aY x10)<|sv (cd.mk' (v:=ff) dl ([x10]:List aa) 1 (by kernel_rfl))<|sv (cd.ap bl11)<|WY (rfl:bQ (sl ac l11)=some [sl ac l11])<|eF .normal (bT hidden s t9 t10 m (aO (t11+1)) l9 l11))<|by kernel_rfl
  ·obtain rfl:=lf h
   exact rF Tv (p8<|sg 0 c7<|eF .normal (bT hidden s t9 t10 m (aO (t11+1)) m2 m3))<|by kernel_rfl
 ·obtain rfl:=lf h
  have z:=sg 0 c1<|eF (.exit 0) (d6 m (m2,m3))
  exact iW Tv (by intro hx;cases hx) z<|by kernel_rfl
theorem nH{x:(waB×waA)}(h:eN hidden s t9 t10 t11 m2 m3=some x):aQ Pg GE 0 (.loop (cA Xu 119)) (EX (.exit 0) (d6 m x)) (bT hidden s t9 t10 m t11 m2 m3):=
 aQ.loop (S:=fun(zz:Int×waB×waA)=>bT hidden s t9 t10 m zz.1 zz.2.1 zz.2.2) (ex:=(fun _=>.exit 0)) (s:=(t11,m2,m3)) h fun zz y hy=>mV hidden s t9 t10 m zz.1 zz.2.1 zz.2.2 hy
end
def bM(s:ai)(hidden:waB):Option ai:=
 (eN hidden s s.names (s.names.length:Int) 0 ([]:List ag) ([]:List aa)).bind fun o12=>
 some (⟨o12.1,o12.2⟩:ai)
theorem eO{s:ai}{hidden:waB}{r:ai}(h:bM s hidden=some r):CC Pg GE 119 [.agg (aw s),sl cS hidden] (.agg (aw r)) [(0,9),(1,36)]:=by
 obtain⟨o12,bo12,h⟩:=aA h
 obtain rfl:=lf h
 have z:=se (dm s)<|sx M6<|sx M6<|sv (je s)<|sv (jB s)<|cw (bR.ln s.names)<|di (nH hidden s s.names (s.names.length:Int) ([]:List aa) 0 ([]:List ag) ([]:List aa) bo12)<|sz (cm (⟨o12.1,o12.2⟩:ai) [])<|sy (cu (⟨o12.1,o12.2⟩:ai))<|en (aI (mW (⟨o12.1,o12.2⟩:ai))<|aI (bm (⟨o12.1,o12.2⟩:ai))<|rT)
 exact ck Tv call119 func119 (c:=Xu) rfl (aI (bm s) (aI (aq iu hidden) trivial)) z<|by kernel_rfl
abbrev bI:=(ai->ae->Option ae)
abbrev cr(R:bI):Prop:=∀(s:ai) (t:ae) (r:ae),R s t=some r->CC Pg GE 120 [.agg (aw s),.agg (af t)] (.agg (af r)) [(2,38)]
abbrev mX:=(aa->waB->waA->Option aa)
abbrev rn(R:mX):Prop:=∀(p:aa) (a:waB) (a2:waA) (r:aa),R p a a2=some r->CC Pg GE 65 [.agg (ac p),sl cS a,sl ac a2] (.agg (ac r)) [(3,36)]
noncomputable def qdO:Code:=f92.body.getD .skip
def qdD:List Nat:=[]
def Dx(a:waB)(s:ag):Option Int:=
 (ph a s).bind fun r1=>
 some r1
theorem L6{a:waB}{s:ag}{r:Int}(h:Dx a s=some r):CC Pg GE 92 [sl cS a,.str s] (.int .i64 r) []:=by
 obtain⟨r1,br1,h⟩:=aA h
 obtain rfl:=lf h
 have z:=bP (yP br1)<|en (aI (rP (.int .i64 r1))<|trivial)
 exact ck qdD call92 func92 (c:=qdO) rfl (aI (aq iu a) (aI trivial trivial)) z<|by kernel_rfl
abbrev qp:=(aa->Option aa)
abbrev vC(R:qp):Prop:=∀(p:aa) (r:aa),R p=some r->CC Pg GE 91 [.agg (ac p)] (.agg (ac r)) [(3,36)]
noncomputable def qcy:Code:=f91.body.getD .skip
def qch:List Nat:=[21]
section
variable(R66:qp)(t14:waA)(t15:Int)(m:waA)(m2:Int)(m3:ag)(m4:Int)(t16:Int)(m5:waA)
def i7:az:=aW 29 [(2,.bptr 1 0),(3,.bptr 2 0),(14,sl ac t14),(15,.int .i64 t15),(16,.int .i64 t16)] [.dead,.cells [.int .i64 0,.str ([]:ag),.int .i64 0,sl ac m] [(3,36)],.cells [.int .i64 m2,.str m3,.int .i64 m4,sl ac m5] [(3,36)]] []
def pZ(o:waA):az:=aW 29 [(2,.bptr 1 0),(3,.bptr 2 0)] [.dead,.cells [.int .i64 0,.str ([]:ag),.int .i64 0,sl ac m] [(3,36)],.cells [.int .i64 m2,.str m3,.int .i64 m4,sl ac o] [(3,36)]] []
def lL:Option ((Int×waA)⊕(waA)):=
 if(decide (t16<t15))=true then
  (cH t14 t16).bind fun x2=>
  (R66 x2).bind fun r3=>
  (app m5 ([r3]:List aa)).bind fun l4=>
  some (.inl (aO (t16+1),l4))
 else
  some (.inr m5)
def ud:Option waA:=loop (fun(zz:Int×waA)=>lL R66 t14 t15 zz.1 zz.2) (t16,m5)
theorem DH(hR66:vC R66){y:(Int×waA)⊕(waA)}(h:lL R66 t14 t15 t16 m5=some y):aQ Pg GE 0 (cA qcy 119) (LQ (fun(zz:Int×waA)=>i7 t14 t15 m m2 m3 m4 zz.1 zz.2) (fun _=>.exit 0) (pZ m m2 m3 m4) y) (i7 t14 t15 m m2 m3 m4 t16 m5):=by
 rcases aX h with⟨c1,h⟩|⟨c1,h⟩
 ·obtain⟨x2,bx2,h⟩:=aA h
  obtain⟨r3,br3,h⟩:=aA h
  obtain⟨l4,bl4,h⟩:=aA h
  obtain rfl:=lf h
  have z:=sg 0 c1<|sv (cd.ia (k:=.i64) bx2)<|sv (aY x2)<|sx lM<|sx (dn x2)<|ra [0,1,0,4,12,31,63,127]<|sv (ch x2 [])<|bP (hR66 _ _ br3)<|sv (cd.mk' (v:=ff) dl ([r3]:List aa) 1 (by kernel_rfl))<|sv (cd.ap bl4)<|WY (rfl:bQ (sl ac l4)=some [sl ac l4])<|y4 0 .normal (i7 t14 t15 m m2 m3 m4 (aO (t16+1)) l4) rfl (eh (aI (d7 rfl) (aI (d7 rfl) (aI (up (aq ah t14)) (aI trivial (aI trivial trivial)))))) (aI trivial (aI (aI trivial (aI trivial (aI trivial (aI (up (aq ah m)) trivial)))) (aI (aI trivial (aI trivial (aI trivial (aI (up (aq ah l4)) trivial)))) trivial)))
  exact dV (A:=qch) mixed z<|by kernel_rfl
 ·obtain rfl:=lf h
  have z:=sg 0 c1<|eF (.exit 0) (pZ m m2 m3 m4 m5)
  exact iW qch (by intro hx;cases hx) z<|by kernel_rfl
theorem E4(hR66:vC R66){x:waA}(h:ud R66 t14 t15 t16 m5=some x):aQ Pg GE 0 (.loop (cA qcy 119)) (EX (.exit 0) (pZ m m2 m3 m4 x)) (i7 t14 t15 m m2 m3 m4 t16 m5):=
 aQ.loop (S:=fun(zz:Int×waA)=>i7 t14 t15 m m2 m3 m4 zz.1 zz.2) (ex:=(fun _=>.exit 0)) (s:=(t16,m5)) h fun zz y hy=>DH R66 t14 t15 m m2 m3 m4 zz.1 zz.2 hR66 hy
end
def wl(R66:qp)(p:aa):Option aa:=
 (ud R66 p.Kids (p.Kids.length:Int) 0 ([]:List aa)).bind fun o5=>
 some (⟨p.Op,p.Name,p.N,o5⟩:aa)
theorem Iq(R66:qp)(hR66:vC R66){p:aa}{r:aa}(h:wl R66 p=some r):CC Pg GE 91 [.agg (ac p)] (.agg (ac r)) [(3,36)]:=by
 obtain⟨o5,bo5,h⟩:=aA h
 obtain rfl:=lf h
 have z:=se (cf p)<|sx lM<|sv (bq p)<|sv (bv p)<|sv (cx p)<|sv (cJ p)<|sv (cO p)<|sv (dh p)<|sb (At p.Op p.Name p.N) (Ar p.Op p.Name p.N)<|sx lM<|sy (aE (⟨p.Op,p.Name,p.N,([]:List aa)⟩:aa))<|sv (bu p)<|sv (bw p)<|cw (cd.ln p.Kids)<|di (E4 R66 p.Kids (p.Kids.length:Int) ([]:List aa) p.Op p.Name p.N 0 ([]:List aa) hR66 bo5)<|sz (ch (⟨p.Op,p.Name,p.N,o5⟩:aa) [])<|sy (aE (⟨p.Op,p.Name,p.N,o5⟩:aa))<|en (aI (e9 (⟨p.Op,p.Name,p.N,o5⟩:aa))<|aI (ah (⟨p.Op,p.Name,p.N,o5⟩:aa))<|rT)
 exact ck qch call91 func91 (c:=qcy) rfl (aI (ah p) trivial) z<|by kernel_rfl
def qz:(aa->Option aa)->(aa)->Option aa:=fun(rec:aa->Option aa) (x:aa)=>wl (fun p=>rec p) x
def nX(p:aa):Option aa:=oP qz p
theorem oW{p:aa}{r:aa}(h:nX p=some r):CC Pg GE 91 [.agg (ac p)] (.agg (ac r)) [(3,36)]:=
 cR (F:=qz) (M:=fun(x:aa) (r:aa)=>CC Pg GE 91 [.agg (ac x)] (.agg (ac r)) [(3,36)]) (fun rec hrec x r h=>Iq _ (fun p r h=>hrec p r h) h) h
noncomputable def qag:Code:=f65.body.getD .skip
def Xj:List Nat:=[46]
section
variable(v:waB)(v2:waA)(p:aa)(i:Int)(m:waA)
def DG:az:=aW 56 [(1,sl cS v),(2,sl ac v2),(3,.eptr (ac p)),(6,.bptr 1 0),(7,.int .i64 i)] [.dead,.cells [.int .i64 0,.str ([]:ag),.int .i64 0,sl ac m] [(3,36)]] []
def nE(o:Bool):az:=aW 56 [(1,sl cS v),(2,sl ac v2),(3,.eptr (ac p)),(6,.bptr 1 0),(7,.int .i64 i),(25,.bool o)] [.dead,.cells [.int .i64 0,.str ([]:ag),.int .i64 0,sl ac m] [(3,36)]] []
def pX:Option Bool:=
 if(decide (i>=0))=true then
  some (decide (i<(v2.length:Int)))
 else
  some false
theorem Cb{x:Bool}(h:pX v2 i=some x):aQ Pg GE 0 (cA qag 106) (EX .normal (nE v v2 p i m x)) (DG v v2 p i m):=by
 rcases aX h with⟨c4,h⟩|⟨c4,h⟩
 ·obtain rfl:=lf h
  exact ct Xj (sg 3 c4<|cw (cd.ln v2)<|eF .normal (nE v v2 p i m (decide (i<(v2.length:Int)))))<|by kernel_rfl
 ·obtain rfl:=lf h
  exact ct Xj (sg 3 c4<|eF .normal (nE v v2 p i m false))<|by kernel_rfl
end
section
variable(v:waB)(v2:waA)(p:aa)(m:waA)
def DF:az:=aW 56 [(1,sl cS v),(2,sl ac v2),(3,.eptr (ac p)),(6,.bptr 1 0)] [.dead,.cells [.int .i64 0,.str ([]:ag),.int .i64 0,sl ac m] [(3,36)]] []
def jn(o:(Int×ag×Int×waA)⊕(Unit)):Exit:=match o with
 |(.inl _)=>.ret
 |(.inr _)=>.normal
def eZ(o:(Int×ag×Int×waA)⊕(Unit)):az:=match o with
 |(.inl o)=>aW 56 [(6,.bptr 1 0)] [.dead,.cells [.int .i64 o.1,.str o.2.1,.int .i64 o.2.2.1,sl ac o.2.2.2] [(3,36)]] []
 |(.inr o)=>aW 56 [(1,sl cS v),(2,sl ac v2),(3,.eptr (ac p)),(6,.bptr 1 0)] [.dead,.cells [.int .i64 0,.str ([]:ag),.int .i64 0,sl ac m] [(3,36)]] []
def lJ:Option ((Int×ag×Int×waA)⊕(Unit)):=
 if(p.Op==3)=true then
  (Dx v p.Name).bind fun r3=>
  (pX v2 r3).bind fun o5=>
  if o5=true then
   (cH v2 r3).bind fun x8=>
   (nX x8).bind fun r9=>
   some (.inl (r9.Op,r9.Name,r9.N,r9.Kids))
  else
   some (.inr ())
 else
  some (.inr ())
theorem rX{x:(Int×ag×Int×waA)⊕(Unit)}(h:lJ v v2 p=some x):aQ Pg GE 0 (cA qag 6) (EX (jn x) (eZ v v2 p m x)) (DF v v2 p m):=by
 have p2:=fun{sc F} (r:PS sc F)=>sv (bq p)<|sv (bv p)<|r
 rcases aX h with⟨c1,h⟩|⟨c1,h⟩
 ·obtain⟨r3,br3,h⟩:=aA h
  obtain⟨o5,bo5,h⟩:=aA h
  have p7:=fun{sc F} (r:PS sc F)=>p2<|sg 0 c1<|sv (cx p)<|sv (cJ p)<|bP (L6 br3)<|oe 0<|di (Cb v v2 p r3 m bo5)<|r
  rcases aX h with⟨c6,h⟩|⟨c6,h⟩
  ·obtain⟨x8,bx8,h⟩:=aA h
   obtain⟨r9,br9,h⟩:=aA h
   obtain rfl:=lf h
   exact ct Xj (p7<|sg 0 c6<|sv (cd.ia (k:=.i64) bx8)<|sv (aY x8)<|bP (oW br9)<|sy (aE r9)<|eF (jn (.inl (r9.Op,r9.Name,r9.N,r9.Kids))) (eZ v v2 p m (.inl (r9.Op,r9.Name,r9.N,r9.Kids))))<|by kernel_rfl
  ·obtain rfl:=lf h
   exact ct Xj (p7<|sg 0 c6<|eF (jn (.inr ())) (eZ v v2 p m (.inr ())))<|by kernel_rfl
 ·obtain rfl:=lf h
  exact ct Xj (p2<|sg 0 c1<|eF (jn (.inr ())) (eZ v v2 p m (.inr ())))<|by kernel_rfl
end
section
variable(R64:mX)(v:waB)(v2:waA)(t39:waA)(t40:Int)(m:waA)(m2:Int)(m3:ag)(m4:Int)(t41:Int)(m5:waA)
def gw:az:=aW 56 [(1,sl cS v),(2,sl ac v2),(6,.bptr 1 0),(8,.bptr 2 0),(39,sl ac t39),(40,.int .i64 t40),(41,.int .i64 t41)] [.dead,.cells [.int .i64 0,.str ([]:ag),.int .i64 0,sl ac m] [(3,36)],.cells [.int .i64 m2,.str m3,.int .i64 m4,sl ac m5] [(3,36)]] []
def nF(o:waA):az:=aW 56 [(6,.bptr 1 0),(8,.bptr 2 0)] [.dead,.cells [.int .i64 0,.str ([]:ag),.int .i64 0,sl ac m] [(3,36)],.cells [.int .i64 m2,.str m3,.int .i64 m4,sl ac o] [(3,36)]] []
def uc:Option ((Int×waA)⊕(waA)):=
 if(decide (t41<t40))=true then
  (cH t39 t41).bind fun x12=>
  (R64 x12 v v2).bind fun r13=>
  (app m5 ([r13]:List aa)).bind fun l14=>
  some (.inl (aO (t41+1),l14))
 else
  some (.inr m5)
def pY:Option waA:=loop (fun(zz:Int×waA)=>uc R64 v v2 t39 t40 zz.1 zz.2) (t41,m5)
theorem A0(hR64:rn R64){y:(Int×waA)⊕(waA)}(h:uc R64 v v2 t39 t40 t41 m5=some y):aQ Pg GE 0 (cA qag 247) (LQ (fun(zz:Int×waA)=>gw v v2 t39 t40 m m2 m3 m4 zz.1 zz.2) (fun _=>.exit 0) (nF m m2 m3 m4) y) (gw v v2 t39 t40 m m2 m3 m4 t41 m5):=by
 rcases aX h with⟨c11,h⟩|⟨c11,h⟩
 ·obtain⟨x12,bx12,h⟩:=aA h
  obtain⟨r13,br13,h⟩:=aA h
  obtain⟨l14,bl14,h⟩:=aA h
  obtain rfl:=lf h
  have z:=sg 0 c11<|sv (cd.ia (k:=.i64) bx12)<|sv (aY x12)<|sx lM<|sx (dn x12)<|ra [0,1,0,0,0,28,60,127,255,511]<|sv (ch x12 [])<|bP (hR64 _ _ _ _ br13)<|sv (cd.mk' (v:=ff) dl ([r13]:List aa) 1 (by kernel_rfl))<|sv (cd.ap bl14)<|WY (rfl:bQ (sl ac l14)=some [sl ac l14])<|y4 0 .normal (gw v v2 t39 t40 m m2 m3 m4 (aO (t41+1)) l14) rfl (eh (aI (up (aq iu v)) (aI (up (aq ah v2)) (aI (d7 rfl) (aI (d7 rfl) (aI (up (aq ah t39)) (aI trivial (aI trivial trivial)))))))) (aI trivial (aI (aI trivial (aI trivial (aI trivial (aI (up (aq ah m)) trivial)))) (aI (aI trivial (aI trivial (aI trivial (aI (up (aq ah l14)) trivial)))) trivial)))
  exact dV (A:=Xj) mixed z<|by kernel_rfl
 ·obtain rfl:=lf h
  have z:=sg 0 c11<|eF (.exit 0) (nF m m2 m3 m4 m5)
  exact iW Xj (by intro hx;cases hx) z<|by kernel_rfl
theorem Cc(hR64:rn R64){x:waA}(h:pY R64 v v2 t39 t40 t41 m5=some x):aQ Pg GE 0 (.loop (cA qag 247)) (EX (.exit 0) (nF m m2 m3 m4 x)) (gw v v2 t39 t40 m m2 m3 m4 t41 m5):=
 aQ.loop (S:=fun(zz:Int×waA)=>gw v v2 t39 t40 m m2 m3 m4 zz.1 zz.2) (ex:=(fun _=>.exit 0)) (s:=(t41,m5)) h fun zz y hy=>A0 R64 v v2 t39 t40 m m2 m3 m4 zz.1 zz.2 hR64 hy
end
def nk(R64:mX)(p:aa)(a:waB)(a2:waA):Option aa:=
 (lJ a a2 p).bind fun o10=>match o10 with
 |(.inl o10)=>
  some (⟨o10.1,o10.2.1,o10.2.2.1,o10.2.2.2⟩:aa)
 |(.inr o10)=>
  (pY R64 a a2 p.Kids (p.Kids.length:Int) 0 ([]:List aa)).bind fun o15=>
  some (⟨p.Op,p.Name,p.N,o15⟩:aa)
theorem E3(R64:mX)(hR64:rn R64){p:aa}{a:waB}{a2:waA}{r:aa}(h:nk R64 p a a2=some r):CC Pg GE 65 [.agg (ac p),sl cS a,sl ac a2] (.agg (ac r)) [(3,36)]:=by
 obtain⟨o10,bo10,h⟩:=aA h
 rcases o10 with o10|o10
 ·obtain rfl:=lf h
  have z:=se (cf p)<|sx lM<|oe 0<|di (e:=.ret) (s1:=eZ a a2 p ([]:List aa) (.inl o10)) (rX a a2 p ([]:List aa) bo10)<|en (aI (e9 (⟨o10.1,o10.2.1,o10.2.2.1,o10.2.2.2⟩:aa))<|aI (ah (⟨o10.1,o10.2.1,o10.2.2.1,o10.2.2.2⟩:aa))<|rT)
  exact ck Xj call65 func65 (c:=qag) rfl (aI (ah p) (aI (aq iu a) (aI (aq ah a2) trivial))) z<|by kernel_rfl
 ·obtain⟨o15,bo15,h⟩:=aA h
  obtain rfl:=lf h
  have z:=se (cf p)<|sx lM<|oe 0<|di (e:=.normal) (s1:=eZ a a2 p ([]:List aa) (.inr o10)) (rX a a2 p ([]:List aa) bo10)<|sv (bq p)<|sv (bv p)<|sv (cx p)<|sv (cJ p)<|sv (cO p)<|sv (dh p)<|sb (At p.Op p.Name p.N) (Ar p.Op p.Name p.N)<|sx lM<|sy (aE (⟨p.Op,p.Name,p.N,([]:List aa)⟩:aa))<|sv (bu p)<|sv (bw p)<|cw (cd.ln p.Kids)<|di (Cc R64 a a2 p.Kids (p.Kids.length:Int) ([]:List aa) p.Op p.Name p.N 0 ([]:List aa) hR64 bo15)<|sz (ch (⟨p.Op,p.Name,p.N,o15⟩:aa) [])<|sy (aE (⟨p.Op,p.Name,p.N,o15⟩:aa))<|en (aI (e9 (⟨p.Op,p.Name,p.N,o15⟩:aa))<|aI (ah (⟨p.Op,p.Name,p.N,o15⟩:aa))<|rT)
  exact ck Xj call65 func65 (c:=qag) rfl (aI (ah p) (aI (aq iu a) (aI (aq ah a2) trivial))) z<|by kernel_rfl
def rH:((aa×waB×waA)->Option aa)->(aa×waB×waA)->Option aa:=fun(rec:(aa×waB×waA)->Option aa) (x:aa×waB×waA)=>nk (fun p a a2=>rec (p,a,a2)) x.1 x.2.1 x.2.2
def io(p:aa)(a:waB)(a2:waA):Option aa:=oP rH (p,a,a2)
theorem lK{p:aa}{a:waB}{a2:waA}{r:aa}(h:io p a a2=some r):CC Pg GE 65 [.agg (ac p),sl cS a,sl ac a2] (.agg (ac r)) [(3,36)]:=
 cR (F:=rH) (M:=fun(x:aa×waB×waA) (r:aa)=>CC Pg GE 65 [.agg (ac x.1),sl cS x.2.1,sl ac x.2.2] (.agg (ac r)) [(3,36)]) (fun rec hrec x r h=>E3 _ (fun p a a2 r h=>hrec (p,a,a2) r h) h) h
noncomputable def qcp:Code:=f139.body.getD .skip
def qca:List Nat:=[]
def cD(s:ai)(p:aa):Option aa:=
 (io p s.names s.by_).bind fun r1=>
 some r1
theorem fL{s:ai}{p:aa}{r:aa}(h:cD s p=some r):CC Pg GE 139 [.agg (aw s),.agg (ac p)] (.agg (ac r)) [(3,36)]:=by
 obtain⟨r1,br1,h⟩:=aA h
 obtain rfl:=lf h
 have z:=se (dm s)<|se (cf p)<|sx lM<|sv (aY p)<|sv (je s)<|sv (jB s)<|sv (fo s)<|sv (fJ s)<|bP (lK br1)<|sy (aE r1)<|en (aI (e9 r1)<|aI (ah r1)<|rT)
 exact ck qca call139 func139 (c:=qcp) rfl (aI (bm s) (aI (ah p) trivial)) z<|by kernel_rfl
noncomputable def Zo:Code:=f140.body.getD .skip
def Y8:List Nat:=[14,21]
section
variable(v:ai)(t8:waA)(t9:Int)(out:waA)(t10:Int)
def fY:az:=aW 22 [(1,.func (.func 139) [.agg (aw v)] []),(5,sl ac out),(8,sl ac t8),(9,.int .i64 t9),(10,.int .i64 t10)] [] [((5,0),36)]
def mg(o:waA):az:=aW 22 [(5,sl ac o)] [] [((5,0),36)]
def rY:Option ((waA×Int)⊕(waA)):=
 if(decide (t10<t9))=true then
  (cH t8 t10).bind fun x2=>
  (cD v x2).bind fun r3=>
  (app out ([r3]:List aa)).bind fun l4=>
  some (.inl (l4,aO (t10+1)))
 else
  some (.inr out)
def pb:Option waA:=loop (fun(zz:waA×Int)=>rY v t8 t9 zz.1 zz.2) (out,t10)
theorem y9{y:(waA×Int)⊕(waA)}(h:rY v t8 t9 out t10=some y):aQ Pg GE 0 (cA Zo 119) (LQ (fun(zz:waA×Int)=>fY v t8 t9 zz.1 zz.2) (fun _=>.exit 0) mg y) (fY v t8 t9 out t10):=by
 rcases aX h with⟨c1,h⟩|⟨c1,h⟩
 ·obtain⟨x2,bx2,h⟩:=aA h
  obtain⟨r3,br3,h⟩:=aA h
  obtain⟨l4,bl4,h⟩:=aA h
  obtain rfl:=lf h
  have z:=sg 0 c1<|sv (cd.ia (k:=.i64) bx2)<|sv (aY x2)<|sx lM<|sx (dn x2)<|sv (ch x2 [])<|bP (fL br3)<|sv (cd.mk' (v:=ff) dl ([r3]:List aa) 1 (by kernel_rfl))<|sv (cd.ap bl4)<|y4 0 .normal (fY v t8 t9 l4 (aO (t10+1))) rfl (eh (aI (aI (aI (up (bm v)) trivial) trivial) (aI (up (aq ah l4)) (aI (up (aq ah t8)) (aI trivial (aI trivial trivial)))))) trivial
  exact dV (A:=Y8) mixed z<|by kernel_rfl
 ·obtain rfl:=lf h
  have z:=sg 0 c1<|eF (.exit 0) (mg out)
  exact iW Y8 (by intro hx;cases hx) z<|by kernel_rfl
theorem Ba{x:waA}(h:pb v t8 t9 out t10=some x):aQ Pg GE 0 (.loop (cA Zo 119)) (EX (.exit 0) (mg x)) (fY v t8 t9 out t10):=
 aQ.loop (S:=fun(zz:waA×Int)=>fY v t8 t9 zz.1 zz.2) (ex:=(fun _=>.exit 0)) (s:=(out,t10)) h fun zz y hy=>y9 v t8 t9 zz.1 zz.2 hy
end
def li(a:waA)(c:ai):Option waA:=
 (pb c a (a.length:Int) ([]:List aa) 0).bind fun o5=>
 some o5
theorem vo{a:waA}{c:ai}{r:waA}(h:li a c=some r):CC Pg GE 140 [sl ac a,.func (.func 139) [.agg (aw c)] []] (sl ac r) [(0,36)]:=by
 obtain⟨o5,bo5,h⟩:=aA h
 obtain rfl:=lf h
 have z:=cw (cd.ln a)<|di (Ba c a (a.length:Int) ([]:List aa) 0 bo5)<|en (aI (rP (sl ac o5))<|(aq ah o5))
 exact ck Y8 call140 func140 (c:=Zo) rfl (aI (aq ah a) (aI (aI (aI (bm c) trivial) trivial) trivial)) z<|by kernel_rfl
noncomputable def Zq:Code:=f151.body.getD .skip
def Za:List Nat:=[13,18]
section
variable(t7:waA)(t8:Int)(out:waB)(t9:Int)
def cN:az:=aW 19 [(3,sl cS out),(7,sl ac t7),(8,.int .i64 t8),(9,.int .i64 t9)] [.dead] [((3,0),9)]
def e7(o:waB):az:=aW 19 [(3,sl cS o)] [.dead] [((3,0),9)]
def e5:Option ((waB×Int)⊕(waB)):=
 if(decide (t9<t8))=true then
  (cH t7 t9).bind fun x2=>
  (pW x2).bind fun r3=>
  (app out r3).bind fun l4=>
  some (.inl (l4,aO (t9+1)))
 else
  some (.inr out)
def fK:Option waB:=loop (fun(zz:waB×Int)=>e5 t7 t8 zz.1 zz.2) (out,t9)
theorem pd{y:(waB×Int)⊕(waB)}(h:e5 t7 t8 out t9=some y):aQ Pg GE 0 (cA Zq 119) (LQ (fun(zz:waB×Int)=>cN t7 t8 zz.1 zz.2) (fun _=>.exit 0) e7 y) (cN t7 t8 out t9):=by
 rcases aX h with⟨c1,h⟩|⟨c1,h⟩
 ·obtain⟨x2,bx2,h⟩:=aA h
  obtain⟨r3,br3,h⟩:=aA h
  obtain⟨l4,bl4,h⟩:=aA h
  obtain rfl:=lf h
  have z:=sg 0 c1<|sv (cd.ia (k:=.i64) bx2)<|sv (aY x2)<|sx lM<|sx (dn x2)<|sv (ch x2 [])<|bP (E2 br3)<|sv (bR.ap bl4)<|y4 0 .normal (cN t7 t8 l4 (aO (t9+1))) rfl (eh (aI (up (aq iu l4)) (aI (up (aq ah t7)) (aI trivial (aI trivial trivial))))) (aI trivial trivial)
  exact dV (A:=Za) mixed z<|by kernel_rfl
 ·obtain rfl:=lf h
  have z:=sg 0 c1<|eF (.exit 0) (e7 out)
  exact iW Za (by intro hx;cases hx) z<|by kernel_rfl
theorem pq{x:waB}(h:fK t7 t8 out t9=some x):aQ Pg GE 0 (.loop (cA Zq 119)) (EX (.exit 0) (e7 x)) (cN t7 t8 out t9):=
 aQ.loop (S:=fun(zz:waB×Int)=>cN t7 t8 zz.1 zz.2) (ex:=(fun _=>.exit 0)) (s:=(out,t9)) h fun zz y hy=>pd t7 t8 zz.1 zz.2 hy
end
def dF(s:ai):Option waB:=
 (fK s.by_ (s.by_.length:Int) ([]:List ag) 0).bind fun o5=>
 some o5
theorem jL{s:ai}{r:waB}(h:dF s=some r):CC Pg GE 151 [.agg (aw s)] (sl cS r) [(0,9)]:=by
 obtain⟨o5,bo5,h⟩:=aA h
 obtain rfl:=lf h
 have z:=se (dm s)<|sv (fo s)<|sv (fJ s)<|cw (cd.ln s.by_)<|di (pq s.by_ (s.by_.length:Int) ([]:List ag) 0 bo5)<|en (aI (rP (sl cS o5))<|(aq iu o5))
 exact ck Za call151 func151 (c:=Zq) rfl (aI (bm s) trivial) z<|by kernel_rfl
abbrev oB:=(ae->Option waB)
abbrev s9(R:oB):Prop:=∀(t:ae) (r:waB),R t=some r->CC Pg GE 152 [.agg (af t)] (sl cS r) [(0,9)]
noncomputable def qaQ:Code:=f157.body.getD .skip
def qaq:List Nat:=[]
def lh(t:ae)(i:Int):Option waB:=
 if(t.Op !=6)=true then
  some ([]:List ag)
 else
  (K3 t.Names none (some (if(t.Names.length:Int)<i then(t.Names.length:Int)else i))).bind fun l3=>
  some l3
theorem Fa{t:ae}{i:Int}{r:waB}(h:lh t i=some r):CC Pg GE 157 [.agg (af t),.int .i64 i] (sl cS r) []:=by
 have p2:=fun{sc F} (r:PS sc F)=>se (co t)<|sv (aH t)<|sv (aJ t)<|r
 rcases aX h with⟨c1,h⟩|⟨c1,h⟩
 ·obtain rfl:=lf h
  have z:=p2<|sg 0 c1<|en (aI (rP (sl cS ([]:List ag)))<|(aq iu ([]:List ag)))
  exact ck qaq call157 func157 (c:=qaQ) rfl (aI (av t) (aI trivial trivial)) z<|by kernel_rfl
 ·obtain⟨l3,bl3,h⟩:=aA h
  obtain rfl:=lf h
  have z:=p2<|sg 0 c1<|sv (be t)<|sv (bh t)<|sv (be t)<|sv (bh t)<|cw (bR.ln t.Names)<|sv (bR.sc bl3)<|en (aI (rP (sl cS l3))<|(aq iu l3))
  exact ck qaq call157 func157 (c:=qaQ) rfl (aI (av t) (aI trivial trivial)) z<|by kernel_rfl
end Go.Proofs.YtbaamopmfmpfaaaGreatDoor
