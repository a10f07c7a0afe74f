/- PROVED: parts of the proof (G5). Conditions: none. -/
import Derived.Test.YtbaamopmfmpfaaaGreatDoorPkD18
noncomputable section
namespace Go.Proofs.YtbaamopmfmpfaaaGreatDoor
open Go
set_option linter.unusedVariables false
set_option maxRecDepth 100000
def Zk:Code:=Tryz.f106.body.getD .skip
def Y6:List Nat:=[]
section
variable(R38:uO)(t7:waA)(t8:Int)(n:Int)(t9:Int)
def ko:az:=aW 20 [(3,.int .i64 n),(7,sl ac t7),(8,.int .i64 t8),(9,.int .i64 t9)] [.dead] []
def td(o:Int):az:=aW 20 [(3,.int .i64 o)] [.dead] []
def zy:Option ((Int×Int)⊕(Int)):=
 if(decide (t9<t8))=true then
  (cH t7 t9).bind fun x2=>
  (R38 x2).bind fun r3=>
  some (.inl ((if r3>n then r3 else n),aO (t9+1)))
 else
  some (.inr n)
def xn:Option Int:=loop (fun(zz:Int×Int)=>zy R38 t7 t8 zz.1 zz.2) (n,t9)
theorem Fy(hR38:zf R38){y:(Int×Int)⊕(Int)}(h:zy R38 t7 t8 n t9=some y):
  aQ Pg GE 0 (cA Zk 119) (LQ (fun(zz:Int×Int)=>ko t7 t8 zz.1 zz.2) (fun _=>.exit 0) td y) (ko t7 t8 n t9):=by
 rcases aX h with⟨c1,h⟩|⟨c1,h⟩
 ·obtain⟨x2,bx2,h⟩:=aA h
  obtain⟨r3,br3,h⟩:=aA h
  obtain rfl:=lf h
  have z:=sg 0 c1<|sv (cd.ia (k:=.i64) bx2)<|sv (aY x2)<|sx lM<|sx (dn x2)<|sv (ch x2 [])<|bP (hR38 _ _ br3)<|y4 0 .normal (ko t7 t8 (if r3>n then r3 else n) (aO (t9+1))) rfl (eh (aI trivial (aI (up (aq ah t7)) (aI trivial (aI trivial trivial))))) (aI trivial trivial)
  exact dV (A:=Y6) mixed z (by kernel_rfl)
 ·obtain rfl:=lf h
  have z:=sg 0 c1<|eF (.exit 0) (td n)
  exact iW Y6 (by intro hx;cases hx) z (by kernel_rfl)
theorem Hx(hR38:zf R38){x:Int}(h:xn R38 t7 t8 n t9=some x):
  aQ Pg GE 0 (.loop (cA Zk 119)) (EX (.exit 0) (td x)) (ko t7 t8 n t9):=
 aQ.loop (S:=fun(zz:Int×Int)=>ko t7 t8 zz.1 zz.2) (ex:=(fun _=>.exit 0)) (s:=(n,t9)) h fun zz y hy=>Fy R38 t7 t8 zz.1 zz.2 hR38 hy
end
def uD(R38:uO)(p:aa):Option Int:=
 (xn R38 p.Kids (p.Kids.length:Int) 0 0).bind fun o4=>
 some (aO (o4+1))
theorem K8(R38:uO)(hR38:zf R38){p:aa}{r:Int}(h:uD R38 p=some r):CC Pg GE 106 [.agg (ac p)] (.int .i64 r) []:=by
 obtain⟨o4,bo4,h⟩:=aA h
 obtain rfl:=lf h
 have z:=se (cf p)<|sv (bu p)<|sv (bw p)<|cw (cd.ln p.Kids)<|di (Hx R38 p.Kids (p.Kids.length:Int) 0 0 hR38 bo4)<|en (aI (rP (.int .i64 (aO (o4+1))))<|trivial)
 exact ck Y6 Tryz.call106 Tryz.func106 (c:=Zk) rfl (aI (ah p) trivial) z (by kernel_rfl)
def zx:(aa->Option Int)->(aa)->Option Int:=fun(rec:aa->Option Int) (x:aa)=>uD (fun p=>rec p) x
def Fx(p:aa):Option Int:=oP zx p
theorem Nx{p:aa}{r:Int}(h:Fx p=some r):CC Pg GE 106 [.agg (ac p)] (.int .i64 r) []:=
 cR (F:=zx) (M:=fun(x:aa) (r:Int)=>CC Pg GE 106 [.agg (ac x)] (.int .i64 r) []) (fun rec hrec x r h=>K8 _ (fun p r h=>hrec p r h) h) h
abbrev xI:=(aa->Option Int)
abbrev CV(R:xI):Prop:=∀(p:aa) (r:Int),R p=some r->CC Pg GE 107 [.agg (ac p)] (.int .i64 r) []
def Zm:Code:=Tryz.f129.body.getD .skip
def Y7:List Nat:=[]
def Bl(op:Int):Option Bool:=
 if(op==3)=true then
  some true
 else
  if(op==4)=true then
   some true
  else
   some (op==5)
theorem NB{op:Int}{r:Bool}(h:Bl op=some r):CC Pg GE 129 [.int .i64 op] (.bool r) []:=by
 rcases aX h with⟨c1,h⟩|⟨c1,h⟩
 ·obtain rfl:=lf h
  have z:=sg 3 c1<|en (aI (rP (.bool true))<|trivial)
  exact ck Y7 Tryz.call129 Tryz.func129 (c:=Zm) rfl (aI trivial trivial) z (by kernel_rfl)
 ·rcases aX h with⟨c2,h⟩|⟨c2,h⟩
  ·obtain rfl:=lf h
   have z:=sg 3 c1<|sg 7 c2<|en (aI (rP (.bool true))<|trivial)
   exact ck Y7 Tryz.call129 Tryz.func129 (c:=Zm) rfl (aI trivial trivial) z (by kernel_rfl)
  ·obtain rfl:=lf h
   have z:=sg 3 c1<|sg 7 c2<|en (aI (rP (.bool (op==5)))<|trivial)
   exact ck Y7 Tryz.call129 Tryz.func129 (c:=Zm) rfl (aI trivial trivial) z (by kernel_rfl)
def PC:Code:=Tryz.f130.body.getD .skip
def Hm:List Nat:=[]
section
variable(n:Int)(t5:Int)
def Lc:az:=aW 28 [(1,.int .i64 n),(5,.int .i64 t5)] [] []
def qk(o:Bool):az:=aW 28 [(1,.int .i64 n),(5,.int .i64 t5),(6,.bool o)] [] []
def uG:Option Bool:=
 if(t5==1)=true then
  some (t5==1)
 else
  if(t5==2)=true then
   some (t5==2)
  else
   some (t5==3)
theorem I2{x:Bool}(h:uG t5=some x):
  aQ Pg GE 0 (cA PC 54) (EX .normal (qk n t5 x)) (Lc n t5):=by
 rcases aX h with⟨c1,h⟩|⟨c1,h⟩
 ·obtain rfl:=lf h
  exact ct Hm (sg 0 c1<|eF .normal (qk n t5 (t5==1))) (by kernel_rfl)
 ·rcases aX h with⟨c2,h⟩|⟨c2,h⟩
  ·obtain rfl:=lf h
   exact ct Hm (sg 0 c1<|sg 0 c2<|eF .normal (qk n t5 (t5==2))) (by kernel_rfl)
  ·obtain rfl:=lf h
   exact ct Hm (sg 0 c1<|sg 0 c2<|eF .normal (qk n t5 (t5==3))) (by kernel_rfl)
end
section
variable(n:Int)(t5:Int)
def Ld:az:=aW 28 [(1,.int .i64 n),(5,.int .i64 t5)] [] []
def vH(o:Bool):az:=aW 28 [(1,.int .i64 n),(5,.int .i64 t5),(12,.bool o)] [] []
def uH:Option Bool:=
 if(t5==4)=true then
  some (t5==4)
 else
  some (t5==5)
theorem I3{x:Bool}(h:uH t5=some x):
  aQ Pg GE 0 (cA PC 222) (EX .normal (vH n t5 x)) (Ld n t5):=by
 rcases aX h with⟨c6,h⟩|⟨c6,h⟩
 ·obtain rfl:=lf h
  exact ct Hm (sg 0 c6<|eF .normal (vH n t5 (t5==4))) (by kernel_rfl)
 ·obtain rfl:=lf h
  exact ct Hm (sg 0 c6<|eF .normal (vH n t5 (t5==5))) (by kernel_rfl)
end
section
variable(n:Int)(t5:Int)
def Lf:az:=aW 28 [(1,.int .i64 n),(5,.int .i64 t5)] [] []
def vI(o:Bool):az:=aW 28 [(1,.int .i64 n),(21,.bool o)] [] []
def uI:Option Bool:=
 if(t5==9)=true then
  some (t5==9)
 else
  some (t5==14)
theorem I4{x:Bool}(h:uI t5=some x):
  aQ Pg GE 0 (cA PC 894) (EX .normal (vI n x)) (Lf n t5):=by
 rcases aX h with⟨c12,h⟩|⟨c12,h⟩
 ·obtain rfl:=lf h
  exact ct Hm (sg 0 c12<|eF .normal (vI n (t5==9))) (by kernel_rfl)
 ·obtain rfl:=lf h
  exact ct Hm (sg 0 c12<|eF .normal (vI n (t5==14))) (by kernel_rfl)
end
def ou(op:Int)(n:Int):Option Bool:=
 (uG op).bind fun o3=>
 if o3=true then
  some (n==0)
 else
  (uH op).bind fun o7=>
  if o7=true then
   if(decide (n>=1))=true then
    some (decide (n<=24))
   else
    some false
  else
   (uI op).bind fun o13=>
   if o13=true then
    some (n==1)
   else
    some (n==2)
theorem uJ{op:Int}{n:Int}{r:Bool}(h:ou op n=some r):CC Pg GE 130 [.int .i64 op,.int .i64 n] (.bool r) []:=by
 obtain⟨o3,bo3,h⟩:=aA h
 have p5:=fun{sc F} (r:PS sc F)=>oe 3<|di (I2 n op bo3)<|r
 rcases aX h with⟨c4,h⟩|⟨c4,h⟩
 ·obtain rfl:=lf h
  have z:=p5<|sg 0 c4<|en (aI (rP (.bool (n==0)))<|trivial)
  exact ck Hm Tryz.call130 Tryz.func130 (c:=PC) rfl (aI trivial (aI trivial trivial)) z (by kernel_rfl)
 ·obtain⟨o7,bo7,h⟩:=aA h
  have p9:=fun{sc F} (r:PS sc F)=>p5<|sg 0 c4<|oe 0<|di (I3 n op bo7)<|r
  rcases aX h with⟨c8,h⟩|⟨c8,h⟩
  ·have p11:=fun{sc F} (r:PS sc F)=>p9<|sg 0 c8<|r
   rcases aX h with⟨c10,h⟩|⟨c10,h⟩
   ·obtain rfl:=lf h
    have z:=p11<|sg 3 c10<|en (aI (rP (.bool (decide (n<=24))))<|trivial)
    exact ck Hm Tryz.call130 Tryz.func130 (c:=PC) rfl (aI trivial (aI trivial trivial)) z (by kernel_rfl)
   ·obtain rfl:=lf h
    have z:=p11<|sg 3 c10<|en (aI (rP (.bool false))<|trivial)
    exact ck Hm Tryz.call130 Tryz.func130 (c:=PC) rfl (aI trivial (aI trivial trivial)) z (by kernel_rfl)
  ·obtain⟨o13,bo13,h⟩:=aA h
   have p15:=fun{sc F} (r:PS sc F)=>p9<|sg 0 c8<|oe 0<|di (I4 n op bo13)<|r
   rcases aX h with⟨c14,h⟩|⟨c14,h⟩
   ·obtain rfl:=lf h
    have z:=p15<|sg 0 c14<|en (aI (rP (.bool (n==1)))<|trivial)
    exact ck Hm Tryz.call130 Tryz.func130 (c:=PC) rfl (aI trivial (aI trivial trivial)) z (by kernel_rfl)
   ·obtain rfl:=lf h
    have z:=p15<|sg 0 c14<|en (aI (rP (.bool (n==2)))<|trivial)
    exact ck Hm Tryz.call130 Tryz.func130 (c:=PC) rfl (aI trivial (aI trivial trivial)) z (by kernel_rfl)
def qaN:Code:=Tryz.f131.body.getD .skip
def qao:List Nat:=[]
def Nt(n:Int):Option Bool:=
 if(decide (n>=(-1000000000000)))=true then
  some (decide (n<=1000000000000))
 else
  some false
theorem TB{n:Int}{r:Bool}(h:Nt n=some r):CC Pg GE 131 [.int .i64 n] (.bool r) []:=by
 rcases aX h with⟨c1,h⟩|⟨c1,h⟩
 ·obtain rfl:=lf h
  have z:=sg 3 c1<|en (aI (rP (.bool (decide (n<=1000000000000))))<|trivial)
  exact ck qao Tryz.call131 Tryz.func131 (c:=qaN) rfl (aI trivial trivial) z (by kernel_rfl)
 ·obtain rfl:=lf h
  have z:=sg 3 c1<|en (aI (rP (.bool false))<|trivial)
  exact ck qao Tryz.call131 Tryz.func131 (c:=qaN) rfl (aI trivial trivial) z (by kernel_rfl)
def Ra:Code:=Tryz.f132.body.getD .skip
def Q1:List Nat:=[]
def xq(p:aa):Option Bool:=
 if(p.Op==3)=true then
  if(p.Name==([118]:ag))=true then
   some true
  else
   (qH p.Name).bind fun r5=>
   some (r5==0)
 else
  if (p.Op == 4) = true then
   if(p.Name==([116,97,103]:ag))=true then
    some true
   else
    if(p.Name==([118,97,108]:ag))=true then
     some true
    else
     (qH p.Name).bind fun r12=>
     some (r12==0)
  else
   if(p.Op==5)=true then
    (qH p.Name).bind fun r15=>
    some (r15==0)
   else
    some true
theorem Lb{p:aa}{r:Bool}(h:xq p=some r):CC Pg GE 132 [.agg (ac p)] (.bool r) []:=by
 have p2:=fun{sc F} (r:PS sc F)=>se (cf p)<|sv (bq p)<|sv (bv p)<|r
 rcases aX h with⟨c1,h⟩|⟨c1,h⟩
 ·have p4:=fun{sc F} (r:PS sc F)=>p2<|sg 0 c1<|sv (cx p)<|sv (cJ p)<|r
  rcases aX h with⟨c3,h⟩|⟨c3,h⟩
  ·obtain rfl:=lf h
   have z:=p4<|sg 4 c3<|en (aI (rP (.bool true))<|trivial)
   exact ck Q1 Tryz.call132 Tryz.func132 (c:=Ra) rfl (aI (ah p) trivial) z (by kernel_rfl)
  ·obtain⟨r5,br5,h⟩:=aA h
   obtain rfl:=lf h
   have z:=p4<|sg 4 c3<|sv (cx p)<|sv (cJ p)<|bP (qI br5)<|en (aI (rP (.bool (r5==0)))<|trivial)
   exact ck Q1 Tryz.call132 Tryz.func132 (c:=Ra) rfl (aI (ah p) trivial) z (by kernel_rfl)
 ·have p7:=fun{sc F} (r:PS sc F)=>p2<|sg 0 c1<|r
  rcases aX h with⟨c6,h⟩|⟨c6,h⟩
  ·have p9:=fun{sc F} (r:PS sc F)=>p7<|sg 0 c6<|sv (cx p)<|sv (cJ p)<|r
   rcases aX h with⟨c8,h⟩|⟨c8,h⟩
   ·obtain rfl:=lf h
    have z:=p9<|sg 4 c8<|en (aI (rP (.bool true))<|trivial)
    exact ck Q1 Tryz.call132 Tryz.func132 (c:=Ra) rfl (aI (ah p) trivial) z (by kernel_rfl)
   ·have p11:=fun{sc F} (r:PS sc F)=>p9<|sg 4 c8<|sv (cx p)<|sv (cJ p)<|r
    rcases aX h with⟨c10,h⟩|⟨c10,h⟩
    ·obtain rfl:=lf h
     have z:=p11<|sg 9 c10<|en (aI (rP (.bool true))<|trivial)
     exact ck Q1 Tryz.call132 Tryz.func132 (c:=Ra) rfl (aI (ah p) trivial) z (by kernel_rfl)
    ·obtain⟨r12,br12,h⟩:=aA h
     obtain rfl:=lf h
     have z:=p11<|sg 9 c10<|sv (cx p)<|sv (cJ p)<|bP (qI br12)<|en (aI (rP (.bool (r12==0)))<|trivial)
     exact ck Q1 Tryz.call132 Tryz.func132 (c:=Ra) rfl (aI (ah p) trivial) z (by kernel_rfl)
  ·have p14:=fun{sc F} (r:PS sc F)=>p7<|sg 0 c6<|r
   rcases aX h with⟨c13,h⟩|⟨c13,h⟩
   ·obtain⟨r15,br15,h⟩:=aA h
    obtain rfl:=lf h
    have z:=p14<|sg 0 c13<|sv (cx p)<|sv (cJ p)<|bP (qI br15)<|en (aI (rP (.bool (r15==0)))<|trivial)
    exact ck Q1 Tryz.call132 Tryz.func132 (c:=Ra) rfl (aI (ah p) trivial) z (by kernel_rfl)
   ·obtain rfl:=lf h
    have z:=p14<|sg 0 c13<|en (aI (rP (.bool true))<|trivial)
    exact ck Q1 Tryz.call132 Tryz.func132 (c:=Ra) rfl (aI (ah p) trivial) z (by kernel_rfl)
def NU:Code:=Tryz.f117.body.getD .skip
def rm:List Nat:=[]
section
variable(p:aa)
def Lg:az:=aW 87 [(1,.eptr (ac p))] [.dead] []
def vJ(o:Bool):az:=aW 87 [(1,.eptr (ac p)),(3,.bool o)] [.dead] []
def zG:Option Bool:=
 if(p.Op==1)=true then
  some true
 else
  some (p.Op==2)
theorem I5{x:Bool}(h:zG p=some x):
  aQ Pg GE 0 (cA NU 6) (EX .normal (vJ p x)) (Lg p):=by
 have p2:=fun{sc F} (r:PS sc F)=>sv (bq p)<|sv (bv p)<|r
 rcases aX h with⟨c1,h⟩|⟨c1,h⟩
 ·obtain rfl:=lf h
  exact ct rm (p2<|sg 4 c1<|eF .normal (vJ p true)) (by kernel_rfl)
 ·obtain rfl:=lf h
  exact ct rm (p2<|sg 4 c1<|sv (bq p)<|sv (bv p)<|eF .normal (vJ p (p.Op==2))) (by kernel_rfl)
end
section
variable(p:aa)(number:Bool)
def Lh:az:=aW 87 [(1,.eptr (ac p)),(3,.bool number)] [.dead] []
def d8(o:Bool):az:=aW 87 [(1,.eptr (ac p)),(48,.bool o)] [.dead] []
def zH:Option Bool:=
 if(decide (p.Op<1))=true then
  some true
 else
  if(decide (p.Op>18))=true then
   some true
  else
   if (!(p.Name == ([]:ag))) = true then
    (Bl p.Op).bind fun r10=>
    if(!r10)=true then
     some true
    else
     if(p.N !=0)=true then
      if(!number)=true then
       some true
      else
       (ou p.Op (p.Kids.length:Int)).bind fun r17=>
       some (!r17)
     else
      (ou p.Op (p.Kids.length:Int)).bind fun r18=>
      some (!r18)
   else
    if(p.N !=0)=true then
     if(!number)=true then
      some true
     else
      (ou p.Op (p.Kids.length:Int)).bind fun r23=>
      some (!r23)
    else
     (ou p.Op (p.Kids.length:Int)).bind fun r24=>
     some (!r24)
theorem I6{x:Bool}(h:zH p number=some x):
  aQ Pg GE 0 (cA NU 28) (EX .normal (d8 p x)) (Lh p number):=by
 have p5:=fun{sc F} (r:PS sc F)=>sv (bq p)<|sv (bv p)<|r
 rcases aX h with⟨c4,h⟩|⟨c4,h⟩
 ·obtain rfl:=lf h
  exact ct rm (p5<|sg 4 c4<|eF .normal (d8 p true)) (by kernel_rfl)
 ·have p7:=fun{sc F} (r:PS sc F)=>p5<|sg 4 c4<|sv (bq p)<|sv (bv p)<|r
  rcases aX h with⟨c6,h⟩|⟨c6,h⟩
  ·obtain rfl:=lf h
   exact ct rm (p7<|sg 9 c6<|eF .normal (d8 p true)) (by kernel_rfl)
  ·have p9:=fun{sc F} (r:PS sc F)=>p7<|sg 9 c6<|sv (cx p)<|sv (cJ p)<|r
   rcases aX h with⟨c8,h⟩|⟨c8,h⟩
   ·obtain⟨r10,br10,h⟩:=aA h
    have p12:=fun{sc F} (r:PS sc F)=>p9<|sg 13 c8<|sv (bq p)<|sv (bv p)<|bP (NB br10)<|r
    rcases aX h with⟨c11,h⟩|⟨c11,h⟩
    ·obtain rfl:=lf h
     exact ct rm (p12<|sg 20 c11<|eF .normal (d8 p true)) (by kernel_rfl)
    ·have p14:=fun{sc F} (r:PS sc F)=>p12<|sg 20 c11<|sv (cO p)<|sv (dh p)<|r
     rcases aX h with⟨c13,h⟩|⟨c13,h⟩
     ·have p16:=fun{sc F} (r:PS sc F)=>p14<|sg 24 c13<|r
      rcases aX h with⟨c15,h⟩|⟨c15,h⟩
      ·obtain rfl:=lf h
       exact ct rm (p16<|sg 29 c15<|eF .normal (d8 p true)) (by kernel_rfl)
      ·obtain⟨r17,br17,h⟩:=aA h
       obtain rfl:=lf h
       exact ct rm (p16<|sg 29 c15<|sv (bq p)<|sv (bv p)<|sv (bu p)<|sv (bw p)<|cw (cd.ln p.Kids)<|bP (uJ br17)<|eF .normal (d8 p (!r17))) (by kernel_rfl)
     ·obtain⟨r18,br18,h⟩:=aA h
      obtain rfl:=lf h
      exact ct rm (p14<|sg 24 c13<|sv (bq p)<|sv (bv p)<|sv (bu p)<|sv (bw p)<|cw (cd.ln p.Kids)<|bP (uJ br18)<|eF .normal (d8 p (!r18))) (by kernel_rfl)
   ·have p20:=fun{sc F} (r:PS sc F)=>p9<|sg 13 c8<|sv (cO p)<|sv (dh p)<|r
    rcases aX h with⟨c19,h⟩|⟨c19,h⟩
    ·have p22:=fun{sc F} (r:PS sc F)=>p20<|sg 24 c19<|r
     rcases aX h with⟨c21,h⟩|⟨c21,h⟩
     ·obtain rfl:=lf h
      exact ct rm (p22<|sg 29 c21<|eF .normal (d8 p true)) (by kernel_rfl)
     ·obtain⟨r23,br23,h⟩:=aA h
      obtain rfl:=lf h
      exact ct rm (p22<|sg 29 c21<|sv (bq p)<|sv (bv p)<|sv (bu p)<|sv (bw p)<|cw (cd.ln p.Kids)<|bP (uJ br23)<|eF .normal (d8 p (!r23))) (by kernel_rfl)
    ·obtain⟨r24,br24,h⟩:=aA h
     obtain rfl:=lf h
     exact ct rm (p20<|sg 24 c19<|sv (bq p)<|sv (bv p)<|sv (bu p)<|sv (bw p)<|cw (cd.ln p.Kids)<|bP (uJ br24)<|eF .normal (d8 p (!r24))) (by kernel_rfl)
end
section
variable(p:aa)
def Li:az:=aW 87 [(1,.eptr (ac p))] [.dead] []
def gb(o:Bool):az:=aW 87 [(1,.eptr (ac p)),(72,.bool o)] [.dead] []
def zI:Option Bool:=
 if (p.Op == 1) = true then
  (Nt p.N).bind fun r30=>
  if(!r30)=true then
   some true
  else
   if(p.Op==2)=true then
    if(decide (p.N<0))=true then
     some true
    else
     some (decide (p.N>1))
   else
    some false
 else
  if(p.Op==2)=true then
   if(decide (p.N<0))=true then
    some true
   else
    some (decide (p.N>1))
  else
   some false
theorem I7{x:Bool}(h:zI p=some x):
  aQ Pg GE 0 (cA NU 60) (EX .normal (gb p x)) (Li p):=by
 have p29:=fun{sc F} (r:PS sc F)=>sv (bq p)<|sv (bv p)<|r
 rcases aX h with⟨c28,h⟩|⟨c28,h⟩
 ·obtain⟨r30,br30,h⟩:=aA h
  have p32:=fun{sc F} (r:PS sc F)=>p29<|sg 4 c28<|sv (cO p)<|sv (dh p)<|bP (TB br30)<|r
  rcases aX h with⟨c31,h⟩|⟨c31,h⟩
  ·obtain rfl:=lf h
   exact ct rm (p32<|sg 10 c31<|eF .normal (gb p true)) (by kernel_rfl)
  ·have p34:=fun{sc F} (r:PS sc F)=>p32<|sg 10 c31<|sv (bq p)<|sv (bv p)<|r
   rcases aX h with⟨c33,h⟩|⟨c33,h⟩
   ·have p36:=fun{sc F} (r:PS sc F)=>p34<|sg 14 c33<|sv (cO p)<|sv (dh p)<|r
    rcases aX h with⟨c35,h⟩|⟨c35,h⟩
    ·obtain rfl:=lf h
     exact ct rm (p36<|sg 18 c35<|eF .normal (gb p true)) (by kernel_rfl)
    ·obtain rfl:=lf h
     exact ct rm (p36<|sg 18 c35<|sv (cO p)<|sv (dh p)<|eF .normal (gb p (decide (p.N>1)))) (by kernel_rfl)
   ·obtain rfl:=lf h
    exact ct rm (p34<|sg 14 c33<|eF .normal (gb p false)) (by kernel_rfl)
 ·have p38:=fun{sc F} (r:PS sc F)=>p29<|sg 4 c28<|sv (bq p)<|sv (bv p)<|r
  rcases aX h with⟨c37,h⟩|⟨c37,h⟩
  ·have p40:=fun{sc F} (r:PS sc F)=>p38<|sg 14 c37<|sv (cO p)<|sv (dh p)<|r
   rcases aX h with⟨c39,h⟩|⟨c39,h⟩
   ·obtain rfl:=lf h
    exact ct rm (p40<|sg 18 c39<|eF .normal (gb p true)) (by kernel_rfl)
   ·obtain rfl:=lf h
    exact ct rm (p40<|sg 18 c39<|sv (cO p)<|sv (dh p)<|eF .normal (gb p (decide (p.N>1)))) (by kernel_rfl)
  ·obtain rfl:=lf h
   exact ct rm (p38<|sg 14 c37<|eF .normal (gb p false)) (by kernel_rfl)
end
section
variable(p:aa)
def Lj:az:=aW 87 [(1,.eptr (ac p))] [.dead] []
def vK(o:Bool):az:=aW 87 [(86,.bool o)] [.dead] []
def zJ:Option Bool:=
 if(p.Op==8)=true then
  (cH p.Kids 0).bind fun x49=>
  some (x49.Op !=1)
 else
  some false
theorem I8{x:Bool}(h:zJ p=some x):
  aQ Pg GE 0 (cA NU 252) (EX .normal (vK x)) (Lj p):=by
 have p48:=fun{sc F} (r:PS sc F)=>sv (bq p)<|sv (bv p)<|r
 rcases aX h with⟨c47,h⟩|⟨c47,h⟩
 ·obtain⟨x49,bx49,h⟩:=aA h
  obtain rfl:=lf h
  exact ct rm (p48<|sg 4 c47<|sv (bu p)<|sv (bw p)<|sv (cd.ia (k:=.i64) bx49)<|sv (bq x49)<|sv (bv x49)<|eF .normal (vK (x49.Op !=1))) (by kernel_rfl)
 ·obtain rfl:=lf h
  exact ct rm (p48<|sg 4 c47<|eF .normal (vK false)) (by kernel_rfl)
end
def D1(p:aa):Option Int:=
 (zG p).bind fun o3=>
 (zH p o3).bind fun o25=>
 if o25=true then
  some 1
 else
  (zI p).bind fun o41=>
  if o41=true then
   some 2
  else
   (xq p).bind fun r44=>
   if(!r44)=true then
    some 3
   else
    (zJ p).bind fun o50=>
    if o50=true then
     some 6
    else
     some 0
theorem Po{p:aa}{r:Int}(h:D1 p=some r):CC Pg GE 117 [.agg (ac p)] (.int .i64 r) []:=by
 obtain⟨o3,bo3,h⟩:=aA h
 obtain⟨o25,bo25,h⟩:=aA h
 have p27:=fun{sc F} (r:PS sc F)=>se (cf p)<|oe 0<|di (I5 p bo3)<|oe 1<|di (I6 p o3 bo25)<|r
 rcases aX h with⟨c26,h⟩|⟨c26,h⟩
 ·obtain rfl:=lf h
  have z:=p27<|sg 0 c26<|en (aI (rP (.int .i64 1))<|trivial)
  exact ck rm Tryz.call117 Tryz.func117 (c:=NU) rfl (aI (ah p) trivial) z (by kernel_rfl)
 ·obtain⟨o41,bo41,h⟩:=aA h
  have p43:=fun{sc F} (r:PS sc F)=>p27<|sg 0 c26<|oe 1<|di (I7 p bo41)<|r
  rcases aX h with⟨c42,h⟩|⟨c42,h⟩
  ·obtain rfl:=lf h
   have z:=p43<|sg 0 c42<|en (aI (rP (.int .i64 2))<|trivial)
   exact ck rm Tryz.call117 Tryz.func117 (c:=NU) rfl (aI (ah p) trivial) z (by kernel_rfl)
  ·obtain⟨r44,br44,h⟩:=aA h
   have p46:=fun{sc F} (r:PS sc F)=>p43<|sg 0 c42<|sv (aY p)<|bP (Lb br44)<|r
   rcases aX h with⟨c45,h⟩|⟨c45,h⟩
   ·obtain rfl:=lf h
    have z:=p46<|sg 0 c45<|en (aI (rP (.int .i64 3))<|trivial)
    exact ck rm Tryz.call117 Tryz.func117 (c:=NU) rfl (aI (ah p) trivial) z (by kernel_rfl)
   ·obtain⟨o50,bo50,h⟩:=aA h
    have p52:=fun{sc F} (r:PS sc F)=>p46<|sg 0 c45<|oe 1<|di (I8 p bo50)<|r
    rcases aX h with⟨c51,h⟩|⟨c51,h⟩
    ·obtain rfl:=lf h
     have z:=p52<|sg 0 c51<|en (aI (rP (.int .i64 6))<|trivial)
     exact ck rm Tryz.call117 Tryz.func117 (c:=NU) rfl (aI (ah p) trivial) z (by kernel_rfl)
    ·obtain rfl:=lf h
     have z:=p52<|sg 0 c51<|en (aI (rP (.int .i64 0))<|trivial)
     exact ck rm Tryz.call117 Tryz.func117 (c:=NU) rfl (aI (ah p) trivial) z (by kernel_rfl)
def Vj:Code:=Tryz.f107.body.getD .skip
def Tt:List Nat:=[11,23]
section
variable(R39:xI)(t13:waA)(t14:Int)(t15:Int)
def my:az:=aW 25 [(13,sl ac t13),(14,.int .i64 t14),(15,.int .i64 t15)] [.dead] []
def mz(o:Int⊕(Unit)):Exit:=match o with
 |(.inl _)=>.ret
 |(.inr _)=>.exit 0
def jT(o:Int⊕(Unit)):az:=match o with
 |(.inl o)=>aW 25 [(2,.int .i64 o)] [.dead] []
 |(.inr o)=>aW 25 [] [.dead] []
def Cl:Option (Int⊕(Int⊕(Unit))):=
 if(decide (t15<t14))=true then
  (cH t13 t15).bind fun x5=>
  (R39 x5).bind fun r6=>
  if(r6 !=0)=true then
   some (.inr (.inl r6))
  else
   some (.inl (aO (t15+1)))
 else
  some (.inr (.inr ()))
def zE:Option (Int⊕(Unit)):=loop (fun(zz:Int)=>Cl R39 t13 t14 zz) t15
theorem HA(hR39:CV R39){y:Int⊕(Int⊕(Unit))}(h:Cl R39 t13 t14 t15=some y):
  aQ Pg GE 0 (cA Vj 119) (LQ (fun(zz:Int)=>my t13 t14 zz) mz jT y) (my t13 t14 t15):=by
 rcases aX h with⟨c4,h⟩|⟨c4,h⟩
 ·obtain⟨x5,bx5,h⟩:=aA h
  obtain⟨r6,br6,h⟩:=aA h
  have p8:=fun{sc F} (r:PS sc F)=>sg 0 c4<|sv (cd.ia (k:=.i64) bx5)<|sv (aY x5)<|sx lM<|sx (dn x5)<|sv (ch x5 [])<|bP (hR39 _ _ br6)<|r
  rcases aX h with⟨c7,h⟩|⟨c7,h⟩
  ·obtain rfl:=lf h
   have z:=p8<|sg 0 c7<|y4 0 (mz (.inl r6)) (jT (.inl r6)) rfl (eh (aI trivial trivial)) (aI trivial trivial)
   exact Gs (A:=Tt) mixed (by intro hx;cases hx) z (by kernel_rfl)
  ·obtain rfl:=lf h
   have z:=p8<|sg 0 c7<|y4 0 .normal (my t13 t14 (aO (t15+1))) rfl (eh (aI (up (aq ah t13)) (aI trivial (aI trivial trivial)))) (aI trivial trivial)
   exact dV (A:=Tt) mixed z (by kernel_rfl)
 ·obtain rfl:=lf h
  have z:=sg 0 c4<|eF (mz (.inr ())) (jT (.inr ()))
  exact iW Tt (by intro hx;cases hx) z (by kernel_rfl)
theorem zF(hR39:CV R39){x:Int⊕(Unit)}(h:zE R39 t13 t14 t15=some x):
  aQ Pg GE 0 (.loop (cA Vj 119)) (EX (mz x) (jT x)) (my t13 t14 t15):=
 aQ.loop (S:=fun(zz:Int)=>my t13 t14 zz) (ex:=mz) (s:=t15) h fun zz y hy=>HA R39 t13 t14 zz hR39 hy
end
def xr(R39:xI)(p:aa):Option Int:=
 (D1 p).bind fun r1=>
 if(r1 !=0)=true then
  some r1
 else
  (zE R39 p.Kids (p.Kids.length:Int) 0).bind fun o9=>match o9 with
  |(.inl o9)=>
   some o9
  |(.inr o9)=>
   some 0
theorem NA(R39:xI)(hR39:CV R39){p:aa}{r:Int}(h:xr R39 p=some r):CC Pg GE 107 [.agg (ac p)] (.int .i64 r) []:=by
 obtain⟨r1,br1,h⟩:=aA h
 have p3:=fun{sc F} (r:PS sc F)=>se (cf p)<|sv (aY p)<|bP (Po br1)<|r
 rcases aX h with⟨c2,h⟩|⟨c2,h⟩
 ·obtain rfl:=lf h
  have z:=p3<|sg 0 c2<|en (aI (rP (.int .i64 r1))<|trivial)
  exact ck Tt Tryz.call107 Tryz.func107 (c:=Vj) rfl (aI (ah p) trivial) z (by kernel_rfl)
 ·obtain⟨o9,bo9,h⟩:=aA h
  rcases o9 with o9|o9
  ·obtain rfl:=lf h
   have z:=p3<|sg 0 c2<|sv (bu p)<|sv (bw p)<|cw (cd.ln p.Kids)<|di (e:=.ret) (s1:=jT (.inl o9)) (zF R39 p.Kids (p.Kids.length:Int) 0 hR39 bo9)<|en (aI (rP (.int .i64 o9))<|trivial)
   exact ck Tt Tryz.call107 Tryz.func107 (c:=Vj) rfl (aI (ah p) trivial) z (by kernel_rfl)
  ·obtain rfl:=lf h
   have z:=p3<|sg 0 c2<|sv (bu p)<|sv (bw p)<|cw (cd.ln p.Kids)<|di (e:=.exit 0) (s1:=jT (.inr o9)) (zF R39 p.Kids (p.Kids.length:Int) 0 hR39 bo9)<|en (aI (rP (.int .i64 0))<|trivial)
   exact ck Tt Tryz.call107 Tryz.func107 (c:=Vj) rfl (aI (ah p) trivial) z (by kernel_rfl)
def CZ:(aa->Option Int)->(aa)->Option Int:=fun(rec:aa->Option Int) (x:aa)=>xr (fun p=>rec p) x
def I1(p:aa):Option Int:=oP CZ p
theorem Pn{p:aa}{r:Int}(h:I1 p=some r):CC Pg GE 107 [.agg (ac p)] (.int .i64 r) []:=
 cR (F:=CZ) (M:=fun(x:aa) (r:Int)=>CC Pg GE 107 [.agg (ac x)] (.int .i64 r) []) (fun rec hrec x r h=>NA _ (fun p r h=>hrec p r h) h) h
def qcx:Code:=Tryz.f89.body.getD .skip
def qcg:List Nat:=[]
def Bk(p:aa):Option Int:=
 (FA p).bind fun r1=>
 if(decide (r1>400))=true then
  some 7
 else
  (Fx p).bind fun r4=>
  if(decide (r4>40))=true then
   some 8
  else
   (I1 p).bind fun r7=>
   some r7
theorem Nw{p:aa}{r:Int}(h:Bk p=some r):CC Pg GE 89 [.agg (ac p)] (.int .i64 r) []:=by
 obtain⟨r1,br1,h⟩:=aA h
 have p3:=fun{sc F} (r:PS sc F)=>se (cf p)<|sv (aY p)<|bP (Ny br1)<|r
 rcases aX h with⟨c2,h⟩|⟨c2,h⟩
 ·obtain rfl:=lf h
  have z:=p3<|sg 0 c2<|en (aI (rP (.int .i64 7))<|trivial)
  exact ck qcg Tryz.call89 Tryz.func89 (c:=qcx) rfl (aI (ah p) trivial) z (by kernel_rfl)
 ·obtain⟨r4,br4,h⟩:=aA h
  have p6:=fun{sc F} (r:PS sc F)=>p3<|sg 0 c2<|sv (aY p)<|bP (Nx br4)<|r
  rcases aX h with⟨c5,h⟩|⟨c5,h⟩
  ·obtain rfl:=lf h
   have z:=p6<|sg 0 c5<|en (aI (rP (.int .i64 8))<|trivial)
   exact ck qcg Tryz.call89 Tryz.func89 (c:=qcx) rfl (aI (ah p) trivial) z (by kernel_rfl)
  ·obtain⟨r7,br7,h⟩:=aA h
   obtain rfl:=lf h
   have z:=p6<|sg 0 c5<|sv (aY p)<|bP (Pn br7)<|en (aI (rP (.int .i64 r7))<|trivial)
   exact ck qcg Tryz.call89 Tryz.func89 (c:=qcx) rfl (aI (ah p) trivial) z (by kernel_rfl)
def Vl:Code:=Tryz.f62.body.getD .skip
def Pa:List Nat:=[63]
section
variable(t:ae)
def Lv:az:=aW 65 [(1,.eptr (af t))] [.dead] []
def jY(o:Bool):az:=aW 65 [(1,.eptr (af t)),(27,.bool o)] [.dead] []
def Ad:Option Bool:=
 if (t.Op == 6) = true then
  (Aj t.Pred).bind fun r3=>
  if(!r3)=true then
   some true
  else
   if(t.Op !=4)=true then
    some (decide ((t.Preds.length:Int)>0))
   else
    some false
 else
  if(t.Op !=4)=true then
   some (decide ((t.Preds.length:Int)>0))
  else
   some false
theorem Jw{x:Bool}(h:Ad t=some x):
  aQ Pg GE 0 (cA Vl 12) (EX .normal (jY t x)) (Lv t):=by
 have p2:=fun{sc F} (r:PS sc F)=>sv (aH t)<|sv (aJ t)<|r
 rcases aX h with⟨c1,h⟩|⟨c1,h⟩
 ·obtain⟨r3,br3,h⟩:=aA h
  have p5:=fun{sc F} (r:PS sc F)=>p2<|sg 4 c1<|sv (d9 t)<|sv (ec t)<|bP (G0 br3)<|r
  rcases aX h with⟨c4,h⟩|⟨c4,h⟩
  ·obtain rfl:=lf h
   exact ct Pa (p5<|sg 10 c4<|eF .normal (jY t true)) (by kernel_rfl)
  ·have p7:=fun{sc F} (r:PS sc F)=>p5<|sg 10 c4<|sv (aH t)<|sv (aJ t)<|r
   rcases aX h with⟨c6,h⟩|⟨c6,h⟩
   ·obtain rfl:=lf h
    exact ct Pa (p7<|sg 14 c6<|sv (dN t)<|sv (dQ t)<|cw (cd.ln t.Preds)<|eF .normal (jY t (decide ((t.Preds.length:Int)>0)))) (by kernel_rfl)
   ·obtain rfl:=lf h
    exact ct Pa (p7<|sg 14 c6<|eF .normal (jY t false)) (by kernel_rfl)
 ·have p9:=fun{sc F} (r:PS sc F)=>p2<|sg 4 c1<|sv (aH t)<|sv (aJ t)<|r
  rcases aX h with⟨c8,h⟩|⟨c8,h⟩
  ·obtain rfl:=lf h
   exact ct Pa (p9<|sg 14 c8<|sv (dN t)<|sv (dQ t)<|cw (cd.ln t.Preds)<|eF .normal (jY t (decide ((t.Preds.length:Int)>0)))) (by kernel_rfl)
  ·obtain rfl:=lf h
   exact ct Pa (p9<|sg 14 c8<|eF .normal (jY t false)) (by kernel_rfl)
end
section
variable(t:ae)(t29:waB)(t30:Int)(t31:Int)
def mI:az:=aW 65 [(1,.eptr (af t)),(29,sl cS t29),(30,.int .i64 t30),(31,.int .i64 t31)] [.dead] []
def mJ(o:Unit⊕(Unit)):Exit:=match o with
 |(.inl _)=>.ret
 |(.inr _)=>.exit 0
def jZ(o:Unit⊕(Unit)):az:=match o with
 |(.inl o)=>aW 65 [(2,.int .i64 3)] [.dead] []
 |(.inr o)=>aW 65 [(1,.eptr (af t))] [.dead] []
def Cr:Option (Int⊕(Unit⊕(Unit))):=
 if(decide (t31<t30))=true then
  (cH t29 t31).bind fun x14=>
  (pD x14).bind fun r15=>
  if(r15 !=0)=true then
   some (.inr (.inl ()))
  else
   some (.inl (aO (t31+1)))
 else
  some (.inr (.inr ()))
def Af:Option (Unit⊕(Unit)):=loop (fun(zz:Int)=>Cr t29 t30 zz) t31
theorem H8{y:Int⊕(Unit⊕(Unit))}(h:Cr t29 t30 t31=some y):
  aQ Pg GE 0 (cA Vl 119) (LQ (fun(zz:Int)=>mI t t29 t30 zz) mJ (jZ t) y) (mI t t29 t30 t31):=by
 rcases aX h with⟨c13,h⟩|⟨c13,h⟩
 ·obtain⟨x14,bx14,h⟩:=aA h
  obtain⟨r15,br15,h⟩:=aA h
  have p17:=fun{sc F} (r:PS sc F)=>sg 0 c13<|sv (bR.ia (k:=.i64) bx14)<|sv (iY Nd (.str x14) [])<|bP (DY br15)<|r
  rcases aX h with⟨c16,h⟩|⟨c16,h⟩
  ·obtain rfl:=lf h
   have z:=p17<|sg 0 c16<|eF (mJ (.inl ())) (jZ t (.inl ()))
   exact iW Pa (by intro hx;cases hx) z (by kernel_rfl)
  ·obtain rfl:=lf h
   exact rF Pa (p17<|sg 0 c16<|eF .normal (mI t t29 t30 (aO (t31+1)))) (by kernel_rfl)
 ·obtain rfl:=lf h
  have z:=sg 0 c13<|eF (mJ (.inr ())) (jZ t (.inr ()))
  exact iW Pa (by intro hx;cases hx) z (by kernel_rfl)
theorem Ag{x:Unit⊕(Unit)}(h:Af t29 t30 t31=some x):
  aQ Pg GE 0 (.loop (cA Vl 119)) (EX (mJ x) (jZ t x)) (mI t t29 t30 t31):=
 aQ.loop (S:=fun(zz:Int)=>mI t t29 t30 zz) (ex:=mJ) (s:=t31) h fun zz y hy=>H8 t t29 t30 zz hy
end
section
variable(e:Int)(t48:waA)(t49:Int)(t50:Int)(m:Int)(m2:ag)(m3:Int)(m4:waA)
def Lw:az:=aW 65 [(6,.bptr 1 0),(7,.int .i64 e),(48,sl ac t48),(49,.int .i64 t49),(50,.int .i64 t50)] [.dead,.cells [.int .i64 m,.str m2,.int .i64 m3,sl ac m4] []] [((48,0),36)]
def vY(o:Bool):az:=aW 65 [(7,.int .i64 e),(48,sl ac t48),(49,.int .i64 t49),(50,.int .i64 t50),(62,.bool o)] [.dead,.cells [.int .i64 m,.str m2,.int .i64 m3,sl ac m4] []] [((48,0),36)]
def Ae:Option Bool:=
 (Aj (⟨m,m2,m3,m4⟩:aa)).bind fun r26=>
 if(!r26)=true then
  some (e !=0)
 else
  some false
theorem Jx{x:Bool}(h:Ae e m m2 m3 m4=some x):
  aQ Pg GE 0 (cA Vl 64494) (EX .normal (vY e t48 t49 t50 m m2 m3 m4 x)) (Lw e t48 t49 t50 m m2 m3 m4):=by
 obtain⟨r26,br26,h⟩:=aA h
 have p28:=fun{sc F} (r:PS sc F)=>sv (ch (⟨m,m2,m3,m4⟩:aa) [])<|bP (G0 br26)<|r
 rcases aX h with⟨c27,h⟩|⟨c27,h⟩
 ·obtain rfl:=lf h
  exact ct Pa (p28<|sg 4 c27<|eF .normal (vY e t48 t49 t50 m m2 m3 m4 (e !=0))) (by kernel_rfl)
 ·obtain rfl:=lf h
  exact ct Pa (p28<|sg 4 c27<|eF .normal (vY e t48 t49 t50 m m2 m3 m4 false)) (by kernel_rfl)
end
section
variable(t48:waA)(t49:Int)(t50:Int)
def mK:az:=aW 65 [(48,sl ac t48),(49,.int .i64 t49),(50,.int .i64 t50)] [.dead] [((48,0),36)]
def mL(o:Int⊕(Unit)):Exit:=match o with
 |(.inl _)=>.ret
 |(.inr _)=>.exit 2
def j0(o:Int⊕(Unit)):az:=match o with
 |(.inl o)=>aW 65 [(2,.int .i64 o)] [.dead] []
 |(.inr o)=>aW 65 [] [.dead] []
def Cs:Option (Int⊕(Int⊕(Unit))):=
 if(decide (t50<t49))=true then
  (cH t48 t50).bind fun x24=>
  (Bk x24).bind fun r25=>
  (Ae r25 x24.Op x24.Name x24.N x24.Kids).bind fun o29=>
  if o29=true then
   some (.inr (.inl r25))
  else
   some (.inl (aO (t50+1)))
 else
  some (.inr (.inr ()))
def Ah:Option (Int⊕(Unit)):=loop (fun(zz:Int)=>Cs t48 t49 zz) t50
theorem H9{y:Int⊕(Int⊕(Unit))}(h:Cs t48 t49 t50=some y):
  aQ Pg GE 0 (cA Vl 503) (LQ (fun(zz:Int)=>mK t48 t49 zz) mL j0 y) (mK t48 t49 t50):=by
 rcases aX h with⟨c23,h⟩|⟨c23,h⟩
 ·obtain⟨x24,bx24,h⟩:=aA h
  obtain⟨r25,br25,h⟩:=aA h
  obtain⟨o29,bo29,h⟩:=aA h
  have p31:=fun{sc F} (r:PS sc F)=>sg 0 c23<|sv (cd.ia (k:=.i64) bx24)<|sv (aY x24)<|sx lM<|sx (dn x24)<|sv (ch x24 [])<|bP (Nw br25)<|oe 0<|di (Jx r25 t48 t49 t50 x24.Op x24.Name x24.N x24.Kids bo29)<|r
  rcases aX h with⟨c30,h⟩|⟨c30,h⟩
  ·obtain rfl:=lf h
   have z:=p31<|sg 0 c30<|y4 0 (mL (.inl r25)) (j0 (.inl r25)) rfl (eh (aI trivial trivial)) (aI trivial trivial)
   exact Gs (A:=Pa) mixed (by intro hx;cases hx) z (by kernel_rfl)
  ·obtain rfl:=lf h
   have z:=p31<|sg 0 c30<|y4 0 .normal (mK t48 t49 (aO (t50+1))) rfl (eh (aI (up (aq ah t48)) (aI trivial (aI trivial trivial)))) (aI trivial trivial)
   exact dV (A:=Pa) mixed z (by kernel_rfl)
 ·obtain rfl:=lf h
  have z:=sg 0 c23<|eF (mL (.inr ())) (j0 (.inr ()))
  exact iW Pa (by intro hx;cases hx) z (by kernel_rfl)
theorem Ai{x:Int⊕(Unit)}(h:Ah t48 t49 t50=some x):
  aQ Pg GE 0 (.loop (cA Vl 503)) (EX (mL x) (j0 x)) (mK t48 t49 t50):=
 aQ.loop (S:=fun(zz:Int)=>mK t48 t49 zz) (ex:=mL) (s:=t50) h fun zz y hy=>H9 t48 t49 zz hy
end
def Eb(t:ae):Option Int:=
 (Ad t).bind fun o10=>
 if o10=true then
  some 1
 else
  (Af t.Names (t.Names.length:Int) 0).bind fun o18=>match o18 with
  |(.inl o18)=>
   some 3
  | (.inr o18) =>
   (sd t.Names).bind fun r19=>
   if(!r19)=true then
    some 4
   else
    (app ([t.Pred]:List aa) t.Preds).bind fun l22=>
    (Ah l22 (l22.length:Int) 0).bind fun o32=>match o32 with
    |(.inl o32)=>
     some o32
    |(.inr o32)=>
     some 0
theorem Pt{t:ae}{r:Int}(h:Eb t=some r):CC Pg GE 62 [.agg (af t)] (.int .i64 r) []:=by
 obtain⟨o10,bo10,h⟩:=aA h
 have p12:=fun{sc F} (r:PS sc F)=>se (co t)<|oe 1<|di (Jw t bo10)<|r
 rcases aX h with⟨c11,h⟩|⟨c11,h⟩
 ·obtain rfl:=lf h
  have z:=p12<|sg 0 c11<|en (aI (rP (.int .i64 1))<|trivial)
  exact ck Pa Tryz.call62 Tryz.func62 (c:=Vl) rfl (aI (av t) trivial) z (by kernel_rfl)
 ·obtain⟨o18,bo18,h⟩:=aA h
  rcases o18 with o18|o18
  ·obtain rfl:=lf h
   have z:=p12<|sg 0 c11<|sv (be t)<|sv (bh t)<|cw (bR.ln t.Names)<|di (e:=.ret) (s1:=jZ t (.inl o18)) (Ag t t.Names (t.Names.length:Int) 0 bo18)<|en (aI (rP (.int .i64 3))<|trivial)
   exact ck Pa Tryz.call62 Tryz.func62 (c:=Vl) rfl (aI (av t) trivial) z (by kernel_rfl)
  ·obtain⟨r19,br19,h⟩:=aA h
   have p21:=fun{sc F} (r:PS sc F)=>p12<|sg 0 c11<|sv (be t)<|sv (bh t)<|cw (bR.ln t.Names)<|di (e:=.exit 0) (s1:=jZ t (.inr o18)) (Ag t t.Names (t.Names.length:Int) 0 bo18)<|sv (be t)<|sv (bh t)<|bP (Hq br19)<|r
   rcases aX h with⟨c20,h⟩|⟨c20,h⟩
   ·obtain rfl:=lf h
    have z:=p21<|sg 0 c20<|en (aI (rP (.int .i64 4))<|trivial)
    exact ck Pa Tryz.call62 Tryz.func62 (c:=Vl) rfl (aI (av t) trivial) z (by kernel_rfl)
   ·obtain⟨l22,bl22,h⟩:=aA h
    obtain⟨o32,bo32,h⟩:=aA h
    rcases o32 with o32|o32
    ·obtain rfl:=lf h
     have z:=p21<|sg 0 c20<|sv (d9 t)<|sv (ec t)<|sv (cd.mk' (v:=ff) dl ([t.Pred]:List aa) 1 (by kernel_rfl))<|sv (dN t)<|sv (dQ t)<|sv (cd.ap bl22)<|cw (cd.ln l22)<|di (e:=.ret) (s1:=j0 (.inl o32)) (Ai l22 (l22.length:Int) 0 bo32)<|en (aI (rP (.int .i64 o32))<|trivial)
     exact ck Pa Tryz.call62 Tryz.func62 (c:=Vl) rfl (aI (av t) trivial) z (by kernel_rfl)
    ·obtain rfl:=lf h
     have z:=p21<|sg 0 c20<|sv (d9 t)<|sv (ec t)<|sv (cd.mk' (v:=ff) dl ([t.Pred]:List aa) 1 (by kernel_rfl))<|sv (dN t)<|sv (dQ t)<|sv (cd.ap bl22)<|cw (cd.ln l22)<|di (e:=.exit 2) (s1:=j0 (.inr o32)) (Ai l22 (l22.length:Int) 0 bo32)<|en (aI (rP (.int .i64 0))<|trivial)
     exact ck Pa Tryz.call62 Tryz.func62 (c:=Vl) rfl (aI (av t) trivial) z (by kernel_rfl)
def qaR:Code:=Tryz.f40.body.getD .skip
def Z8:List Nat:=[11,23]
section
variable(R31:xK)(t13:waC)(t14:Int)(t15:Int)
def mG:az:=aW 25 [(13,sl af t13),(14,.int .i64 t14),(15,.int .i64 t15)] [.dead] []
def mH(o:Int⊕(Unit)):Exit:=match o with
 |(.inl _)=>.ret
 |(.inr _)=>.exit 0
def jX(o:Int⊕(Unit)):az:=match o with
 |(.inl o)=>aW 25 [(2,.int .i64 o)] [.dead] []
 |(.inr o)=>aW 25 [] [.dead] []
def Cq:Option (Int⊕(Int⊕(Unit))):=
 if(decide (t15<t14))=true then
  (cH t13 t15).bind fun x5=>
  (R31 x5).bind fun r6=>
  if(r6 !=0)=true then
   some (.inr (.inl r6))
  else
   some (.inl (aO (t15+1)))
 else
  some (.inr (.inr ()))
def Aa:Option (Int⊕(Unit)):=loop (fun(zz:Int)=>Cq R31 t13 t14 zz) t15
theorem H7(hR31:CX R31){y:Int⊕(Int⊕(Unit))}(h:Cq R31 t13 t14 t15=some y):
  aQ Pg GE 0 (cA qaR 119) (LQ (fun(zz:Int)=>mG t13 t14 zz) mH jX y) (mG t13 t14 t15):=by
 rcases aX h with⟨c4,h⟩|⟨c4,h⟩
 ·obtain⟨x5,bx5,h⟩:=aA h
  obtain⟨r6,br6,h⟩:=aA h
  have p8:=fun{sc F} (r:PS sc F)=>sg 0 c4<|sv (cQ.ia (k:=.i64) bx5)<|sv (aZ x5)<|sx A6<|sx (iX x5)<|sv (dj x5 [])<|bP (hR31 _ _ br6)<|r
  rcases aX h with⟨c7,h⟩|⟨c7,h⟩
  ·obtain rfl:=lf h
   have z:=p8<|sg 0 c7<|y4 0 (mH (.inl r6)) (jX (.inl r6)) rfl (eh (aI trivial trivial)) (aI trivial trivial)
   exact Gs (A:=Z8) mixed (by intro hx;cases hx) z (by kernel_rfl)
  ·obtain rfl:=lf h
   have z:=p8<|sg 0 c7<|y4 0 .normal (mG t13 t14 (aO (t15+1))) rfl (eh (aI (up (aq av t13)) (aI trivial (aI trivial trivial)))) (aI trivial trivial)
   exact dV (A:=Z8) mixed z (by kernel_rfl)
 ·obtain rfl:=lf h
  have z:=sg 0 c4<|eF (mH (.inr ())) (jX (.inr ()))
  exact iW Z8 (by intro hx;cases hx) z (by kernel_rfl)
theorem Ac(hR31:CX R31){x:Int⊕(Unit)}(h:Aa R31 t13 t14 t15=some x):
  aQ Pg GE 0 (.loop (cA qaR 119)) (EX (mH x) (jX x)) (mG t13 t14 t15):=
 aQ.loop (S:=fun(zz:Int)=>mG t13 t14 zz) (ex:=mH) (s:=t15) h fun zz y hy=>H7 R31 t13 t14 zz hR31 hy
end
def xG(R31:xK)(t:ae):Option Int:=
 (Eb t).bind fun r1=>
 if(r1 !=0)=true then
  some r1
 else
  (Aa R31 t.Args (t.Args.length:Int) 0).bind fun o9=>match o9 with
  |(.inl o9)=>
   some o9
  |(.inr o9)=>
   some 0
theorem NL(R31:xK)(hR31:CX R31){t:ae}{r:Int}(h:xG R31 t=some r):CC Pg GE 40 [.agg (af t)] (.int .i64 r) []:=by
 obtain⟨r1,br1,h⟩:=aA h
 have p3:=fun{sc F} (r:PS sc F)=>se (co t)<|sv (aZ t)<|bP (Pt br1)<|r
 rcases aX h with⟨c2,h⟩|⟨c2,h⟩
 ·obtain rfl:=lf h
  have z:=p3<|sg 0 c2<|en (aI (rP (.int .i64 r1))<|trivial)
  exact ck Z8 Tryz.call40 Tryz.func40 (c:=qaR) rfl (aI (av t) trivial) z (by kernel_rfl)
 ·obtain⟨o9,bo9,h⟩:=aA h
  rcases o9 with o9|o9
  ·obtain rfl:=lf h
   have z:=p3<|sg 0 c2<|sv (aT t)<|sv (aU t)<|cw (cQ.ln t.Args)<|di (e:=.ret) (s1:=jX (.inl o9)) (Ac R31 t.Args (t.Args.length:Int) 0 hR31 bo9)<|en (aI (rP (.int .i64 o9))<|trivial)
   exact ck Z8 Tryz.call40 Tryz.func40 (c:=qaR) rfl (aI (av t) trivial) z (by kernel_rfl)
  ·obtain rfl:=lf h
   have z:=p3<|sg 0 c2<|sv (aT t)<|sv (aU t)<|cw (cQ.ln t.Args)<|di (e:=.exit 0) (s1:=jX (.inr o9)) (Ac R31 t.Args (t.Args.length:Int) 0 hR31 bo9)<|en (aI (rP (.int .i64 0))<|trivial)
   exact ck Z8 Tryz.call40 Tryz.func40 (c:=qaR) rfl (aI (av t) trivial) z (by kernel_rfl)
def C6:(ae->Option Int)->(ae)->Option Int:=fun(rec:ae->Option Int) (x:ae)=>xG (fun t=>rec t) x
def Jv(t:ae):Option Int:=oP C6 t
theorem Ps{t:ae}{r:Int}(h:Jv t=some r):CC Pg GE 40 [.agg (af t)] (.int .i64 r) []:=
 cR (F:=C6) (M:=fun(x:ae) (r:Int)=>CC Pg GE 40 [.agg (af x)] (.int .i64 r) []) (fun rec hrec x r h=>NL _ (fun t r h=>hrec t r h) h) h
def qc4:Code:=Tryz.f16.body.getD .skip
def qcY:List Nat:=[8]
def Bp(t:ae):Option Int:=
 (Bm t).bind fun r1=>
 if(r1 !=0)=true then
  some r1
 else
  (Jv t).bind fun r4=>
  some r4
theorem NK{t:ae}{r:Int}(h:Bp t=some r):CC Pg GE 16 [.agg (af t)] (.int .i64 r) []:=by
 obtain⟨r1,br1,h⟩:=aA h
 have p3:=fun{sc F} (r:PS sc F)=>se (co t)<|sv (aZ t)<|bP (NC br1)<|r
 rcases aX h with⟨c2,h⟩|⟨c2,h⟩
 ·obtain rfl:=lf h
  have z:=p3<|sg 0 c2<|en (aI (rP (.int .i64 r1))<|trivial)
  exact ck qcY Tryz.call16 Tryz.func16 (c:=qc4) rfl (aI (av t) trivial) z (by kernel_rfl)
 ·obtain⟨r4,br4,h⟩:=aA h
  obtain rfl:=lf h
  have z:=p3<|sg 0 c2<|sv (aZ t)<|bP (Ps br4)<|en (aI (rP (.int .i64 r4))<|trivial)
  exact ck qcY Tryz.call16 Tryz.func16 (c:=qc4) rfl (aI (av t) trivial) z (by kernel_rfl)
def qdJ:Code:=Tryz.f33.body.getD .skip
def qdy:List Nat:=[]
def jf(s:ag):Option aa:=
 some (⟨3,s,0,([]:List aa)⟩:aa)
theorem gO{s:ag}{r:aa}(h:jf s=some r):CC Pg GE 33 [.str s] (.agg (ac r)) [(3,36)]:=by
 obtain rfl:=lf h
 have z:=sx lM<|sb (oG 3 s) (oF 3 s)<|sy (aE (⟨3,s,0,([]:List aa)⟩:aa))<|en (aI (e9 (⟨3,s,0,([]:List aa)⟩:aa))<|aI (ah (⟨3,s,0,([]:List aa)⟩:aa))<|rT)
 exact ck qdy Tryz.call33 Tryz.func33 (c:=qdJ) rfl (aI trivial trivial) z (by kernel_rfl)
def qdI:Code:=Tryz.f32.body.getD .skip
def qdx:List Nat:=[]
def Bu(op:Int)(a:aa)(a2:aa):Option aa:=
 some (⟨op,([]:ag),0,([a,a2]:List aa)⟩:aa)
theorem tK{op:Int}{a:aa}{a2:aa}{r:aa}(h:Bu op a a2=some r):CC Pg GE 32 [.int .i64 op,.agg (ac a),.agg (ac a2)] (.agg (ac r)) []:=by
 obtain rfl:=lf h
 have z:=se (cf a)<|se (cf a2)<|sx lM<|sv (aY a)<|sv (aY a2)<|sv (cd.mk' (v:=ff) dl ([a,a2]:List aa) 2 (by kernel_rfl))<|sv (Eo op ([a,a2]:List aa))<|sx (dn (⟨op,([]:ag),0,([a,a2]:List aa)⟩:aa))<|en (aI (e9 (⟨op,([]:ag),0,([a,a2]:List aa)⟩:aa))<|(ah (⟨op,([]:ag),0,([a,a2]:List aa)⟩:aa)))
 exact ck qdx Tryz.call32 Tryz.func32 (c:=qdI) rfl (aI trivial (aI (ah a) (aI (ah a2) trivial))) z (by kernel_rfl)
def qdH:Code:=Tryz.f31.body.getD .skip
def qdw:List Nat:=[]
def qL(p:aa):Option ae:=
 some (⟨1,([]:ag),([]:List ae),([]:List ag),p,([]:List aa)⟩:ae)
theorem oE{p:aa}{r:ae}(h:qL p=some r):CC Pg GE 31 [.agg (ac p)] (.agg (af r)) [(2,38),(3,9),(8,36)]:=by
 obtain rfl:=lf h
 have z:=se (cf p)<|sx A6<|sv (aY p)<|sb (N1 1 p) (NY 1 p)<|sy (bz (⟨1,([]:ag),([]:List ae),([]:List ag),p,([]:List aa)⟩:ae))<|en (aI (qd (⟨1,([]:ag),([]:List ae),([]:List ag),p,([]:List aa)⟩:ae))<|aI (av (⟨1,([]:ag),([]:List ae),([]:List ag),p,([]:List aa)⟩:ae))<|rT)
 exact ck qdw Tryz.call31 Tryz.func31 (c:=qdH) rfl (aI (ah p) trivial) z (by kernel_rfl)
abbrev sD:=(ae->ae->Option Bool)
abbrev xh(R:sD):Prop:=∀(a:ae) (a2:ae) (r:Bool),R a a2=some r->CC Pg GE 34 [.agg (af a),.agg (af a2)] (.bool r) []
end Go.Proofs.YtbaamopmfmpfaaaGreatDoor
