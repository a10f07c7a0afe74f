/- PROVED: parts of the proof (G5). Conditions: none. -/
import Derived.Test.YtbaamopmfmpfaaaGreatDoorPkA18
noncomputable section
namespace Go.Proofs.YtbaamopmfmpfaaaGreatDoor
open Go
set_option linter.unusedVariables false
set_option maxRecDepth 100000
def qgq:Code:=Tryz.f106.body.getD .skip
def qga:List Nat:=[]
section
variable(R38:yJ)(t7:waB)(t8:Int)(n:Int)(t9:Int)
def ml:aA:=be 20 [(3,.int .i64 n),(7,sl ac t7),(8,.int .i64 t8),(9,.int .i64 t9)] [.dead] []
def wF(o:Int):aA:=be 20 [(3,.int .i64 o)] [.dead] []
def DH:Option ((Int×Int)⊕(Int)):=
 if(decide (t9<t8))=true then
  (cz t7 t9).bind fun x2=>
  (R38 x2).bind fun r3=>
  some (.inl ((if r3>n then r3 else n),aR (t9+1)))
 else
  some (.inr n)
def Bp:Option Int:=loop (fun(zz:Int×Int)=>DH R38 t7 t8 zz.1 zz.2) (n,t9)
theorem KP(hR38:Ds R38){y:(Int×Int)⊕(Int)}(h:DH R38 t7 t8 n t9=some y):
  aU Pg GE 0 (cA qgq 119) (LQ (fun(zz:Int×Int)=>ml t7 t8 zz.1 zz.2) (fun _=>.exit 0) wF y) (ml t7 t8 n t9):=by
 rcases bj h with⟨c1,h⟩|⟨c1,h⟩
 ·obtain⟨x2,bx2,h⟩:=ay h
  obtain⟨r3,br3,h⟩:=ay h
  obtain rfl:=lf h
  have z:=sg 0 c1<|sv (bL.ia (k:=.i64) bx2)<|sv (bh x2)<|sx hO<|sx (cj x2)<|sv (bT x2 [])<|bz (hR38 _ _ br3)<|uz 0 .normal (ml t7 t8 (if r3>n then r3 else n) (aR (t9+1))) rfl (dC (aI trivial (aI (up (aj ah t7)) (aI trivial (aI trivial trivial))))) (aI trivial trivial)
  exact df (A:=qga) mixed z (by kernel_rfl)
 ·obtain rfl:=lf h
  have z:=sg 0 c1<|eF (.exit 0) (wF n)
  exact f6 qga (by intro hx;cases hx) z (by kernel_rfl)
theorem MT(hR38:Ds R38){x:Int}(h:Bp R38 t7 t8 n t9=some x):
  aU Pg GE 0 (.loop (cA qgq 119)) (EX (.exit 0) (wF x)) (ml t7 t8 n t9):=
 aU.loop (S:=fun(zz:Int×Int)=>ml t7 t8 zz.1 zz.2) (ex:=(fun _=>.exit 0)) (s:=(n,t9)) h fun zz y hy=>KP R38 t7 t8 zz.1 zz.2 hR38 hy
end
def yx(R38:yJ)(p:aa):Option Int:=
 (Bp R38 p.Kids (p.Kids.length:Int) 0 0).bind fun o4=>
 some (aR (o4+1))
theorem Rr(R38:yJ)(hR38:Ds R38){p:aa}{r:Int}(h:yx R38 p=some r):CC Pg GE 106 [.agg (ac p)] (.int .i64 r) []:=by
 obtain⟨o4,bo4,h⟩:=ay h
 obtain rfl:=lf h
 have z:=se (bS p)<|sv (bA p)<|sv (bC p)<|cm (bL.ln p.Kids)<|cW (MT R38 p.Kids (p.Kids.length:Int) 0 0 hR38 bo4)<|en (aI (rP (.int .i64 (aR (o4+1))))<|trivial)
 exact bN qga Tryz.call106 Tryz.func106 (c:=qgq) rfl (aI (ah p) trivial) z (by kernel_rfl)
def DG:(aa->Option Int)->(aa)->Option Int:=fun(rec:aa->Option Int) (x:aa)=>yx (fun p=>rec p) x
def KO(p:aa):Option Int:=kJ DG p
theorem Ui{p:aa}{r:Int}(h:KO p=some r):CC Pg GE 106 [.agg (ac p)] (.int .i64 r) []:=
 cy (F:=DG) (M:=fun(x:aa) (r:Int)=>CC Pg GE 106 [.agg (ac x)] (.int .i64 r) []) (fun rec hrec x r h=>Rr _ (fun p r h=>hrec p r h) h) h
abbrev B3:=(aa->Option Int)
abbrev Hq(R:B3):Prop:=∀(p:aa) (r:Int),R p=some r->CC Pg GE 107 [.agg (ac p)] (.int .i64 r) []
def qgt:Code:=Tryz.f129.body.getD .skip
def qgc:List Nat:=[]
def FE(op:Int):Option Bool:=
 if(op==3)=true then
  some true
 else
  if(op==4)=true then
   some true
  else
   some (op==5)
theorem Un{op:Int}{r:Bool}(h:FE op=some r):CC Pg GE 129 [.int .i64 op] (.bool r) []:=by
 rcases bj h with⟨c1,h⟩|⟨c1,h⟩
 ·obtain rfl:=lf h
  have z:=sg 3 c1<|en (aI (rP (.bool true))<|trivial)
  exact bN qgc Tryz.call129 Tryz.func129 (c:=qgt) rfl (aI trivial trivial) z (by kernel_rfl)
 ·rcases bj h with⟨c2,h⟩|⟨c2,h⟩
  ·obtain rfl:=lf h
   have z:=sg 3 c1<|sg 7 c2<|en (aI (rP (.bool true))<|trivial)
   exact bN qgc Tryz.call129 Tryz.func129 (c:=qgt) rfl (aI trivial trivial) z (by kernel_rfl)
  ·obtain rfl:=lf h
   have z:=sg 3 c1<|sg 7 c2<|en (aI (rP (.bool (op==5)))<|trivial)
   exact bN qgc Tryz.call129 Tryz.func129 (c:=qgt) rfl (aI trivial trivial) z (by kernel_rfl)
def WH:Code:=Tryz.f130.body.getD .skip
def MD:List Nat:=[]
section
variable(n:Int)(t5:Int)
def Rx:aA:=be 28 [(1,.int .i64 n),(5,.int .i64 t5)] [] []
def tr(o:Bool):aA:=be 28 [(1,.int .i64 n),(5,.int .i64 t5),(6,.bool o)] [] []
def yA:Option Bool:=
 if(t5==1)=true then
  some (t5==1)
 else
  if(t5==2)=true then
   some (t5==2)
  else
   some (t5==3)
theorem OP{x:Bool}(h:yA t5=some x):
  aU Pg GE 0 (cA WH 54) (EX .normal (tr n t5 x)) (Rx n t5):=by
 rcases bj h with⟨c1,h⟩|⟨c1,h⟩
 ·obtain rfl:=lf h
  exact cd MD (sg 0 c1<|eF .normal (tr n t5 (t5==1))) (by kernel_rfl)
 ·rcases bj h with⟨c2,h⟩|⟨c2,h⟩
  ·obtain rfl:=lf h
   exact cd MD (sg 0 c1<|sg 0 c2<|eF .normal (tr n t5 (t5==2))) (by kernel_rfl)
  ·obtain rfl:=lf h
   exact cd MD (sg 0 c1<|sg 0 c2<|eF .normal (tr n t5 (t5==3))) (by kernel_rfl)
end
section
variable(n:Int)(t5:Int)
def Ry:aA:=be 28 [(1,.int .i64 n),(5,.int .i64 t5)] [] []
def zp(o:Bool):aA:=be 28 [(1,.int .i64 n),(5,.int .i64 t5),(12,.bool o)] [] []
def yB:Option Bool:=
 if(t5==4)=true then
  some (t5==4)
 else
  some (t5==5)
theorem OQ{x:Bool}(h:yB t5=some x):
  aU Pg GE 0 (cA WH 222) (EX .normal (zp n t5 x)) (Ry n t5):=by
 rcases bj h with⟨c6,h⟩|⟨c6,h⟩
 ·obtain rfl:=lf h
  exact cd MD (sg 0 c6<|eF .normal (zp n t5 (t5==4))) (by kernel_rfl)
 ·obtain rfl:=lf h
  exact cd MD (sg 0 c6<|eF .normal (zp n t5 (t5==5))) (by kernel_rfl)
end
section
variable(n:Int)(t5:Int)
def Rz:aA:=be 28 [(1,.int .i64 n),(5,.int .i64 t5)] [] []
def zq(o:Bool):aA:=be 28 [(1,.int .i64 n),(21,.bool o)] [] []
def yC:Option Bool:=
 if(t5==9)=true then
  some (t5==9)
 else
  some (t5==14)
theorem OR{x:Bool}(h:yC t5=some x):
  aU Pg GE 0 (cA WH 894) (EX .normal (zq n x)) (Rz n t5):=by
 rcases bj h with⟨c12,h⟩|⟨c12,h⟩
 ·obtain rfl:=lf h
  exact cd MD (sg 0 c12<|eF .normal (zq n (t5==9))) (by kernel_rfl)
 ·obtain rfl:=lf h
  exact cd MD (sg 0 c12<|eF .normal (zq n (t5==14))) (by kernel_rfl)
end
def qO(op:Int)(n:Int):Option Bool:=
 (yA op).bind fun o3=>
 if o3=true then
  some (n==0)
 else
  (yB op).bind fun o7=>
  if o7=true then
   if(decide (n>=1))=true then
    some (decide (n<=24))
   else
    some false
  else
   (yC op).bind fun o13=>
   if o13=true then
    some (n==1)
   else
    some (n==2)
theorem yD{op:Int}{n:Int}{r:Bool}(h:qO op n=some r):CC Pg GE 130 [.int .i64 op,.int .i64 n] (.bool r) []:=by
 obtain⟨o3,bo3,h⟩:=ay h
 have p5:=fun{sc F} (r:PS sc F)=>kr 3<|cW (OP n op bo3)<|r
 rcases bj h with⟨c4,h⟩|⟨c4,h⟩
 ·obtain rfl:=lf h
  have z:=p5<|sg 0 c4<|en (aI (rP (.bool (n==0)))<|trivial)
  exact bN MD Tryz.call130 Tryz.func130 (c:=WH) rfl (aI trivial (aI trivial trivial)) z (by kernel_rfl)
 ·obtain⟨o7,bo7,h⟩:=ay h
  have p9:=fun{sc F} (r:PS sc F)=>p5<|sg 0 c4<|kr 0<|cW (OQ n op bo7)<|r
  rcases bj h with⟨c8,h⟩|⟨c8,h⟩
  ·have p11:=fun{sc F} (r:PS sc F)=>p9<|sg 0 c8<|r
   rcases bj h with⟨c10,h⟩|⟨c10,h⟩
   ·obtain rfl:=lf h
    have z:=p11<|sg 3 c10<|en (aI (rP (.bool (decide (n<=24))))<|trivial)
    exact bN MD Tryz.call130 Tryz.func130 (c:=WH) rfl (aI trivial (aI trivial trivial)) z (by kernel_rfl)
   ·obtain rfl:=lf h
    have z:=p11<|sg 3 c10<|en (aI (rP (.bool false))<|trivial)
    exact bN MD Tryz.call130 Tryz.func130 (c:=WH) rfl (aI trivial (aI trivial trivial)) z (by kernel_rfl)
  ·obtain⟨o13,bo13,h⟩:=ay h
   have p15:=fun{sc F} (r:PS sc F)=>p9<|sg 0 c8<|kr 0<|cW (OR n op bo13)<|r
   rcases bj h with⟨c14,h⟩|⟨c14,h⟩
   ·obtain rfl:=lf h
    have z:=p15<|sg 0 c14<|en (aI (rP (.bool (n==1)))<|trivial)
    exact bN MD Tryz.call130 Tryz.func130 (c:=WH) rfl (aI trivial (aI trivial trivial)) z (by kernel_rfl)
   ·obtain rfl:=lf h
    have z:=p15<|sg 0 c14<|en (aI (rP (.bool (n==2)))<|trivial)
    exact bN MD Tryz.call130 Tryz.func130 (c:=WH) rfl (aI trivial (aI trivial trivial)) z (by kernel_rfl)
def qh4:Code:=Tryz.f131.body.getD .skip
def qhD:List Nat:=[]
def Ub(n:Int):Option Bool:=
 if(decide (n>=(-1000000000000)))=true then
  some (decide (n<=1000000000000))
 else
  some false
theorem qaA{n:Int}{r:Bool}(h:Ub n=some r):CC Pg GE 131 [.int .i64 n] (.bool r) []:=by
 rcases bj h with⟨c1,h⟩|⟨c1,h⟩
 ·obtain rfl:=lf h
  have z:=sg 3 c1<|en (aI (rP (.bool (decide (n<=1000000000000))))<|trivial)
  exact bN qhD Tryz.call131 Tryz.func131 (c:=qh4) rfl (aI trivial trivial) z (by kernel_rfl)
 ·obtain rfl:=lf h
  have z:=sg 3 c1<|en (aI (rP (.bool false))<|trivial)
  exact bN qhD Tryz.call131 Tryz.func131 (c:=qh4) rfl (aI trivial trivial) z (by kernel_rfl)
def Yk:Code:=Tryz.f132.body.getD .skip
def Yb:List Nat:=[]
def Bu(p:aa):Option Bool:=
 if(p.Op==3)=true then
  if(p.Name==([118]:ag))=true then
   some true
  else
   (tS p.Name).bind fun r5=>
   some (r5==0)
 else
  if (p.Op == 4) = true then
   if(p.Name==([116,97,103]:ag))=true then
    some true
   else
    if(p.Name==([118,97,108]:ag))=true then
     some true
    else
     (tS p.Name).bind fun r12=>
     some (r12==0)
  else
   if(p.Op==5)=true then
    (tS p.Name).bind fun r15=>
    some (r15==0)
   else
    some true
theorem Rw{p:aa}{r:Bool}(h:Bu p=some r):CC Pg GE 132 [.agg (ac p)] (.bool r) []:=by
 have p2:=fun{sc F} (r:PS sc F)=>se (bS p)<|sv (bE p)<|sv (bF p)<|r
 rcases bj h with⟨c1,h⟩|⟨c1,h⟩
 ·have p4:=fun{sc F} (r:PS sc F)=>p2<|sg 0 c1<|sv (cp p)<|sv (cO p)<|r
  rcases bj h with⟨c3,h⟩|⟨c3,h⟩
  ·obtain rfl:=lf h
   have z:=p4<|sg 4 c3<|en (aI (rP (.bool true))<|trivial)
   exact bN Yb Tryz.call132 Tryz.func132 (c:=Yk) rfl (aI (ah p) trivial) z (by kernel_rfl)
  ·obtain⟨r5,br5,h⟩:=ay h
   obtain rfl:=lf h
   have z:=p4<|sg 4 c3<|sv (cp p)<|sv (cO p)<|bz (tT br5)<|en (aI (rP (.bool (r5==0)))<|trivial)
   exact bN Yb Tryz.call132 Tryz.func132 (c:=Yk) rfl (aI (ah p) trivial) z (by kernel_rfl)
 ·have p7:=fun{sc F} (r:PS sc F)=>p2<|sg 0 c1<|r
  rcases bj h with⟨c6,h⟩|⟨c6,h⟩
  ·have p9:=fun{sc F} (r:PS sc F)=>p7<|sg 0 c6<|sv (cp p)<|sv (cO p)<|r
   rcases bj h with⟨c8,h⟩|⟨c8,h⟩
   ·obtain rfl:=lf h
    have z:=p9<|sg 4 c8<|en (aI (rP (.bool true))<|trivial)
    exact bN Yb Tryz.call132 Tryz.func132 (c:=Yk) rfl (aI (ah p) trivial) z (by kernel_rfl)
   ·have p11:=fun{sc F} (r:PS sc F)=>p9<|sg 4 c8<|sv (cp p)<|sv (cO p)<|r
    rcases bj h with⟨c10,h⟩|⟨c10,h⟩
    ·obtain rfl:=lf h
     have z:=p11<|sg 9 c10<|en (aI (rP (.bool true))<|trivial)
     exact bN Yb Tryz.call132 Tryz.func132 (c:=Yk) rfl (aI (ah p) trivial) z (by kernel_rfl)
    ·obtain⟨r12,br12,h⟩:=ay h
     obtain rfl:=lf h
     have z:=p11<|sg 9 c10<|sv (cp p)<|sv (cO p)<|bz (tT br12)<|en (aI (rP (.bool (r12==0)))<|trivial)
     exact bN Yb Tryz.call132 Tryz.func132 (c:=Yk) rfl (aI (ah p) trivial) z (by kernel_rfl)
  ·have p14:=fun{sc F} (r:PS sc F)=>p7<|sg 0 c6<|r
   rcases bj h with⟨c13,h⟩|⟨c13,h⟩
   ·obtain⟨r15,br15,h⟩:=ay h
    obtain rfl:=lf h
    have z:=p14<|sg 0 c13<|sv (cp p)<|sv (cO p)<|bz (tT br15)<|en (aI (rP (.bool (r15==0)))<|trivial)
    exact bN Yb Tryz.call132 Tryz.func132 (c:=Yk) rfl (aI (ah p) trivial) z (by kernel_rfl)
   ·obtain rfl:=lf h
    have z:=p14<|sg 0 c13<|en (aI (rP (.bool true))<|trivial)
    exact bN Yb Tryz.call132 Tryz.func132 (c:=Yk) rfl (aI (ah p) trivial) z (by kernel_rfl)
def UJ:Code:=Tryz.f117.body.getD .skip
def uB:List Nat:=[]
section
variable(p:aa)
def RA:aA:=be 87 [(1,.eptr (ac p))] [.dead] []
def zr(o:Bool):aA:=be 87 [(1,.eptr (ac p)),(3,.bool o)] [.dead] []
def DR:Option Bool:=
 if(p.Op==1)=true then
  some true
 else
  some (p.Op==2)
theorem OS{x:Bool}(h:DR p=some x):
  aU Pg GE 0 (cA UJ 6) (EX .normal (zr p x)) (RA p):=by
 have p2:=fun{sc F} (r:PS sc F)=>sv (bE p)<|sv (bF p)<|r
 rcases bj h with⟨c1,h⟩|⟨c1,h⟩
 ·obtain rfl:=lf h
  exact cd uB (p2<|sg 4 c1<|eF .normal (zr p true)) (by kernel_rfl)
 ·obtain rfl:=lf h
  exact cd uB (p2<|sg 4 c1<|sv (bE p)<|sv (bF p)<|eF .normal (zr p (p.Op==2))) (by kernel_rfl)
end
section
variable(p:aa)(number:Bool)
def RB:aA:=be 87 [(1,.eptr (ac p)),(3,.bool number)] [.dead] []
def eU(o:Bool):aA:=be 87 [(1,.eptr (ac p)),(48,.bool o)] [.dead] []
def DS:Option Bool:=
 if(decide (p.Op<1))=true then
  some true
 else
  if(decide (p.Op>18))=true then
   some true
  else
   if (!(p.Name == ([]:ag))) = true then
    (FE p.Op).bind fun r10=>
    if(!r10)=true then
     some true
    else
     if(p.N !=0)=true then
      if(!number)=true then
       some true
      else
       (qO p.Op (p.Kids.length:Int)).bind fun r17=>
       some (!r17)
     else
      (qO p.Op (p.Kids.length:Int)).bind fun r18=>
      some (!r18)
   else
    if(p.N !=0)=true then
     if(!number)=true then
      some true
     else
      (qO p.Op (p.Kids.length:Int)).bind fun r23=>
      some (!r23)
    else
     (qO p.Op (p.Kids.length:Int)).bind fun r24=>
     some (!r24)
theorem OT{x:Bool}(h:DS p number=some x):
  aU Pg GE 0 (cA UJ 28) (EX .normal (eU p x)) (RB p number):=by
 have p5:=fun{sc F} (r:PS sc F)=>sv (bE p)<|sv (bF p)<|r
 rcases bj h with⟨c4,h⟩|⟨c4,h⟩
 ·obtain rfl:=lf h
  exact cd uB (p5<|sg 4 c4<|eF .normal (eU p true)) (by kernel_rfl)
 ·have p7:=fun{sc F} (r:PS sc F)=>p5<|sg 4 c4<|sv (bE p)<|sv (bF p)<|r
  rcases bj h with⟨c6,h⟩|⟨c6,h⟩
  ·obtain rfl:=lf h
   exact cd uB (p7<|sg 9 c6<|eF .normal (eU p true)) (by kernel_rfl)
  ·have p9:=fun{sc F} (r:PS sc F)=>p7<|sg 9 c6<|sv (cp p)<|sv (cO p)<|r
   rcases bj h with⟨c8,h⟩|⟨c8,h⟩
   ·obtain⟨r10,br10,h⟩:=ay h
    have p12:=fun{sc F} (r:PS sc F)=>p9<|sg 13 c8<|sv (bE p)<|sv (bF p)<|bz (Un br10)<|r
    rcases bj h with⟨c11,h⟩|⟨c11,h⟩
    ·obtain rfl:=lf h
     exact cd uB (p12<|sg 20 c11<|eF .normal (eU p true)) (by kernel_rfl)
    ·have p14:=fun{sc F} (r:PS sc F)=>p12<|sg 20 c11<|sv (dD p)<|sv (dU p)<|r
     rcases bj h with⟨c13,h⟩|⟨c13,h⟩
     ·have p16:=fun{sc F} (r:PS sc F)=>p14<|sg 24 c13<|r
      rcases bj h with⟨c15,h⟩|⟨c15,h⟩
      ·obtain rfl:=lf h
       exact cd uB (p16<|sg 29 c15<|eF .normal (eU p true)) (by kernel_rfl)
      ·obtain⟨r17,br17,h⟩:=ay h
       obtain rfl:=lf h
       exact cd uB (p16<|sg 29 c15<|sv (bE p)<|sv (bF p)<|sv (bA p)<|sv (bC p)<|cm (bL.ln p.Kids)<|bz (yD br17)<|eF .normal (eU p (!r17))) (by kernel_rfl)
     ·obtain⟨r18,br18,h⟩:=ay h
      obtain rfl:=lf h
      exact cd uB (p14<|sg 24 c13<|sv (bE p)<|sv (bF p)<|sv (bA p)<|sv (bC p)<|cm (bL.ln p.Kids)<|bz (yD br18)<|eF .normal (eU p (!r18))) (by kernel_rfl)
   ·have p20:=fun{sc F} (r:PS sc F)=>p9<|sg 13 c8<|sv (dD p)<|sv (dU p)<|r
    rcases bj h with⟨c19,h⟩|⟨c19,h⟩
    ·have p22:=fun{sc F} (r:PS sc F)=>p20<|sg 24 c19<|r
     rcases bj h with⟨c21,h⟩|⟨c21,h⟩
     ·obtain rfl:=lf h
      exact cd uB (p22<|sg 29 c21<|eF .normal (eU p true)) (by kernel_rfl)
     ·obtain⟨r23,br23,h⟩:=ay h
      obtain rfl:=lf h
      exact cd uB (p22<|sg 29 c21<|sv (bE p)<|sv (bF p)<|sv (bA p)<|sv (bC p)<|cm (bL.ln p.Kids)<|bz (yD br23)<|eF .normal (eU p (!r23))) (by kernel_rfl)
    ·obtain⟨r24,br24,h⟩:=ay h
     obtain rfl:=lf h
     exact cd uB (p20<|sg 24 c19<|sv (bE p)<|sv (bF p)<|sv (bA p)<|sv (bC p)<|cm (bL.ln p.Kids)<|bz (yD br24)<|eF .normal (eU p (!r24))) (by kernel_rfl)
end
section
variable(p:aa)
def RC:aA:=be 87 [(1,.eptr (ac p))] [.dead] []
def gU(o:Bool):aA:=be 87 [(1,.eptr (ac p)),(72,.bool o)] [.dead] []
def DT:Option Bool:=
 if (p.Op == 1) = true then
  (Ub p.N).bind fun r30=>
  if(!r30)=true then
   some true
  else
   if(p.Op==2)=true then
    if(decide (p.N<0))=true then
     some true
    else
     some (decide (p.N>1))
   else
    some false
 else
  if(p.Op==2)=true then
   if(decide (p.N<0))=true then
    some true
   else
    some (decide (p.N>1))
  else
   some false
theorem OU{x:Bool}(h:DT p=some x):
  aU Pg GE 0 (cA UJ 60) (EX .normal (gU p x)) (RC p):=by
 have p29:=fun{sc F} (r:PS sc F)=>sv (bE p)<|sv (bF p)<|r
 rcases bj h with⟨c28,h⟩|⟨c28,h⟩
 ·obtain⟨r30,br30,h⟩:=ay h
  have p32:=fun{sc F} (r:PS sc F)=>p29<|sg 4 c28<|sv (dD p)<|sv (dU p)<|bz (qaA br30)<|r
  rcases bj h with⟨c31,h⟩|⟨c31,h⟩
  ·obtain rfl:=lf h
   exact cd uB (p32<|sg 10 c31<|eF .normal (gU p true)) (by kernel_rfl)
  ·have p34:=fun{sc F} (r:PS sc F)=>p32<|sg 10 c31<|sv (bE p)<|sv (bF p)<|r
   rcases bj h with⟨c33,h⟩|⟨c33,h⟩
   ·have p36:=fun{sc F} (r:PS sc F)=>p34<|sg 14 c33<|sv (dD p)<|sv (dU p)<|r
    rcases bj h with⟨c35,h⟩|⟨c35,h⟩
    ·obtain rfl:=lf h
     exact cd uB (p36<|sg 18 c35<|eF .normal (gU p true)) (by kernel_rfl)
    ·obtain rfl:=lf h
     exact cd uB (p36<|sg 18 c35<|sv (dD p)<|sv (dU p)<|eF .normal (gU p (decide (p.N>1)))) (by kernel_rfl)
   ·obtain rfl:=lf h
    exact cd uB (p34<|sg 14 c33<|eF .normal (gU p false)) (by kernel_rfl)
 ·have p38:=fun{sc F} (r:PS sc F)=>p29<|sg 4 c28<|sv (bE p)<|sv (bF p)<|r
  rcases bj h with⟨c37,h⟩|⟨c37,h⟩
  ·have p40:=fun{sc F} (r:PS sc F)=>p38<|sg 14 c37<|sv (dD p)<|sv (dU p)<|r
   rcases bj h with⟨c39,h⟩|⟨c39,h⟩
   ·obtain rfl:=lf h
    exact cd uB (p40<|sg 18 c39<|eF .normal (gU p true)) (by kernel_rfl)
   ·obtain rfl:=lf h
    exact cd uB (p40<|sg 18 c39<|sv (dD p)<|sv (dU p)<|eF .normal (gU p (decide (p.N>1)))) (by kernel_rfl)
  ·obtain rfl:=lf h
   exact cd uB (p38<|sg 14 c37<|eF .normal (gU p false)) (by kernel_rfl)
end
section
variable(p:aa)
def RD:aA:=be 87 [(1,.eptr (ac p))] [.dead] []
def zu(o:Bool):aA:=be 87 [(86,.bool o)] [.dead] []
def DU:Option Bool:=
 if(p.Op==8)=true then
  (cz p.Kids 0).bind fun x49=>
  some (x49.Op !=1)
 else
  some false
theorem OV{x:Bool}(h:DU p=some x):
  aU Pg GE 0 (cA UJ 252) (EX .normal (zu x)) (RD p):=by
 have p48:=fun{sc F} (r:PS sc F)=>sv (bE p)<|sv (bF p)<|r
 rcases bj h with⟨c47,h⟩|⟨c47,h⟩
 ·obtain⟨x49,bx49,h⟩:=ay h
  obtain rfl:=lf h
  exact cd uB (p48<|sg 4 c47<|sv (bA p)<|sv (bC p)<|sv (bL.ia (k:=.i64) bx49)<|sv (bE x49)<|sv (bF x49)<|eF .normal (zu (x49.Op !=1))) (by kernel_rfl)
 ·obtain rfl:=lf h
  exact cd uB (p48<|sg 4 c47<|eF .normal (zu false)) (by kernel_rfl)
end
def IZ(p:aa):Option Int:=
 (DR p).bind fun o3=>
 (DS p o3).bind fun o25=>
 if o25=true then
  some 1
 else
  (DT p).bind fun o41=>
  if o41=true then
   some 2
  else
   (Bu p).bind fun r44=>
   if(!r44)=true then
    some 3
   else
    (DU p).bind fun o50=>
    if o50=true then
     some 6
    else
     some 0
theorem Wh{p:aa}{r:Int}(h:IZ p=some r):CC Pg GE 117 [.agg (ac p)] (.int .i64 r) []:=by
 obtain⟨o3,bo3,h⟩:=ay h
 obtain⟨o25,bo25,h⟩:=ay h
 have p27:=fun{sc F} (r:PS sc F)=>se (bS p)<|kr 0<|cW (OS p bo3)<|kr 1<|cW (OT p o3 bo25)<|r
 rcases bj h with⟨c26,h⟩|⟨c26,h⟩
 ·obtain rfl:=lf h
  have z:=p27<|sg 0 c26<|en (aI (rP (.int .i64 1))<|trivial)
  exact bN uB Tryz.call117 Tryz.func117 (c:=UJ) rfl (aI (ah p) trivial) z (by kernel_rfl)
 ·obtain⟨o41,bo41,h⟩:=ay h
  have p43:=fun{sc F} (r:PS sc F)=>p27<|sg 0 c26<|kr 1<|cW (OU p bo41)<|r
  rcases bj h with⟨c42,h⟩|⟨c42,h⟩
  ·obtain rfl:=lf h
   have z:=p43<|sg 0 c42<|en (aI (rP (.int .i64 2))<|trivial)
   exact bN uB Tryz.call117 Tryz.func117 (c:=UJ) rfl (aI (ah p) trivial) z (by kernel_rfl)
  ·obtain⟨r44,br44,h⟩:=ay h
   have p46:=fun{sc F} (r:PS sc F)=>p43<|sg 0 c42<|sv (bh p)<|bz (Rw br44)<|r
   rcases bj h with⟨c45,h⟩|⟨c45,h⟩
   ·obtain rfl:=lf h
    have z:=p46<|sg 0 c45<|en (aI (rP (.int .i64 3))<|trivial)
    exact bN uB Tryz.call117 Tryz.func117 (c:=UJ) rfl (aI (ah p) trivial) z (by kernel_rfl)
   ·obtain⟨o50,bo50,h⟩:=ay h
    have p52:=fun{sc F} (r:PS sc F)=>p46<|sg 0 c45<|kr 1<|cW (OV p bo50)<|r
    rcases bj h with⟨c51,h⟩|⟨c51,h⟩
    ·obtain rfl:=lf h
     have z:=p52<|sg 0 c51<|en (aI (rP (.int .i64 6))<|trivial)
     exact bN uB Tryz.call117 Tryz.func117 (c:=UJ) rfl (aI (ah p) trivial) z (by kernel_rfl)
    ·obtain rfl:=lf h
     have z:=p52<|sg 0 c51<|en (aI (rP (.int .i64 0))<|trivial)
     exact bN uB Tryz.call117 Tryz.func117 (c:=UJ) rfl (aI (ah p) trivial) z (by kernel_rfl)
def qcl:Code:=Tryz.f107.body.getD .skip
def qar:List Nat:=[11,23]
section
variable(R39:B3)(t13:waB)(t14:Int)(t15:Int)
def oB:aA:=be 25 [(13,sl ac t13),(14,.int .i64 t14),(15,.int .i64 t15)] [.dead] []
def oC(o:Int⊕(Unit)):Exit:=match o with
 |(.inl _)=>.ret
 |(.inr _)=>.exit 0
def lk(o:Int⊕(Unit)):aA:=match o with
 |(.inl o)=>be 25 [(2,.int .i64 o)] [.dead] []
 |(.inr o)=>be 25 [] [.dead] []
def GQ:Option (Int⊕(Int⊕(Unit))):=
 if(decide (t15<t14))=true then
  (cz t13 t15).bind fun x5=>
  (R39 x5).bind fun r6=>
  if(r6 !=0)=true then
   some (.inr (.inl r6))
  else
   some (.inl (aR (t15+1)))
 else
  some (.inr (.inr ()))
def DP:Option (Int⊕(Unit)):=loop (fun(zz:Int)=>GQ R39 t13 t14 zz) t15
theorem MX(hR39:Hq R39){y:Int⊕(Int⊕(Unit))}(h:GQ R39 t13 t14 t15=some y):
  aU Pg GE 0 (cA qcl 119) (LQ (fun(zz:Int)=>oB t13 t14 zz) oC lk y) (oB t13 t14 t15):=by
 rcases bj h with⟨c4,h⟩|⟨c4,h⟩
 ·obtain⟨x5,bx5,h⟩:=ay h
  obtain⟨r6,br6,h⟩:=ay h
  have p8:=fun{sc F} (r:PS sc F)=>sg 0 c4<|sv (bL.ia (k:=.i64) bx5)<|sv (bh x5)<|sx hO<|sx (cj x5)<|sv (bT x5 [])<|bz (hR39 _ _ br6)<|r
  rcases bj h with⟨c7,h⟩|⟨c7,h⟩
  ·obtain rfl:=lf h
   have z:=p8<|sg 0 c7<|uz 0 (oC (.inl r6)) (lk (.inl r6)) rfl (dC (aI trivial trivial)) (aI trivial trivial)
   exact Iq (A:=qar) mixed (by intro hx;cases hx) z (by kernel_rfl)
  ·obtain rfl:=lf h
   have z:=p8<|sg 0 c7<|uz 0 .normal (oB t13 t14 (aR (t15+1))) rfl (dC (aI (up (aj ah t13)) (aI trivial (aI trivial trivial)))) (aI trivial trivial)
   exact df (A:=qar) mixed z (by kernel_rfl)
 ·obtain rfl:=lf h
  have z:=sg 0 c4<|eF (oC (.inr ())) (lk (.inr ()))
  exact f6 qar (by intro hx;cases hx) z (by kernel_rfl)
theorem DQ(hR39:Hq R39){x:Int⊕(Unit)}(h:DP R39 t13 t14 t15=some x):
  aU Pg GE 0 (.loop (cA qcl 119)) (EX (oC x) (lk x)) (oB t13 t14 t15):=
 aU.loop (S:=fun(zz:Int)=>oB t13 t14 zz) (ex:=oC) (s:=t15) h fun zz y hy=>MX R39 t13 t14 zz hR39 hy
end
def Bv(R39:B3)(p:aa):Option Int:=
 (IZ p).bind fun r1=>
 if(r1 !=0)=true then
  some r1
 else
  (DP R39 p.Kids (p.Kids.length:Int) 0).bind fun o9=>match o9 with
  |(.inl o9)=>
   some o9
  |(.inr o9)=>
   some 0
theorem Um(R39:B3)(hR39:Hq R39){p:aa}{r:Int}(h:Bv R39 p=some r):CC Pg GE 107 [.agg (ac p)] (.int .i64 r) []:=by
 obtain⟨r1,br1,h⟩:=ay h
 have p3:=fun{sc F} (r:PS sc F)=>se (bS p)<|sv (bh p)<|bz (Wh br1)<|r
 rcases bj h with⟨c2,h⟩|⟨c2,h⟩
 ·obtain rfl:=lf h
  have z:=p3<|sg 0 c2<|en (aI (rP (.int .i64 r1))<|trivial)
  exact bN qar Tryz.call107 Tryz.func107 (c:=qcl) rfl (aI (ah p) trivial) z (by kernel_rfl)
 ·obtain⟨o9,bo9,h⟩:=ay h
  rcases o9 with o9|o9
  ·obtain rfl:=lf h
   have z:=p3<|sg 0 c2<|sv (bA p)<|sv (bC p)<|cm (bL.ln p.Kids)<|cW (e:=.ret) (s1:=lk (.inl o9)) (DQ R39 p.Kids (p.Kids.length:Int) 0 hR39 bo9)<|en (aI (rP (.int .i64 o9))<|trivial)
   exact bN qar Tryz.call107 Tryz.func107 (c:=qcl) rfl (aI (ah p) trivial) z (by kernel_rfl)
  ·obtain rfl:=lf h
   have z:=p3<|sg 0 c2<|sv (bA p)<|sv (bC p)<|cm (bL.ln p.Kids)<|cW (e:=.exit 0) (s1:=lk (.inr o9)) (DQ R39 p.Kids (p.Kids.length:Int) 0 hR39 bo9)<|en (aI (rP (.int .i64 0))<|trivial)
   exact bN qar Tryz.call107 Tryz.func107 (c:=qcl) rfl (aI (ah p) trivial) z (by kernel_rfl)
def HD:(aa->Option Int)->(aa)->Option Int:=fun(rec:aa->Option Int) (x:aa)=>Bv (fun p=>rec p) x
def OO(p:aa):Option Int:=kJ HD p
theorem Wg{p:aa}{r:Int}(h:OO p=some r):CC Pg GE 107 [.agg (ac p)] (.int .i64 r) []:=
 cy (F:=HD) (M:=fun(x:aa) (r:Int)=>CC Pg GE 107 [.agg (ac x)] (.int .i64 r) []) (fun rec hrec x r h=>Um _ (fun p r h=>hrec p r h) h) h
def qj6:Code:=Tryz.f89.body.getD .skip
def qjJ:List Nat:=[]
def FD(p:aa):Option Int:=
 (KQ p).bind fun r1=>
 if(decide (r1>400))=true then
  some 7
 else
  (KO p).bind fun r4=>
  if(decide (r4>40))=true then
   some 8
  else
   (OO p).bind fun r7=>
   some r7
theorem Uh{p:aa}{r:Int}(h:FD p=some r):CC Pg GE 89 [.agg (ac p)] (.int .i64 r) []:=by
 obtain⟨r1,br1,h⟩:=ay h
 have p3:=fun{sc F} (r:PS sc F)=>se (bS p)<|sv (bh p)<|bz (Uk br1)<|r
 rcases bj h with⟨c2,h⟩|⟨c2,h⟩
 ·obtain rfl:=lf h
  have z:=p3<|sg 0 c2<|en (aI (rP (.int .i64 7))<|trivial)
  exact bN qjJ Tryz.call89 Tryz.func89 (c:=qj6) rfl (aI (ah p) trivial) z (by kernel_rfl)
 ·obtain⟨r4,br4,h⟩:=ay h
  have p6:=fun{sc F} (r:PS sc F)=>p3<|sg 0 c2<|sv (bh p)<|bz (Ui br4)<|r
  rcases bj h with⟨c5,h⟩|⟨c5,h⟩
  ·obtain rfl:=lf h
   have z:=p6<|sg 0 c5<|en (aI (rP (.int .i64 8))<|trivial)
   exact bN qjJ Tryz.call89 Tryz.func89 (c:=qj6) rfl (aI (ah p) trivial) z (by kernel_rfl)
  ·obtain⟨r7,br7,h⟩:=ay h
   obtain rfl:=lf h
   have z:=p6<|sg 0 c5<|sv (bh p)<|bz (Wg br7)<|en (aI (rP (.int .i64 r7))<|trivial)
   exact bN qjJ Tryz.call89 Tryz.func89 (c:=qj6) rfl (aI (ah p) trivial) z (by kernel_rfl)
def qcn:Code:=Tryz.f62.body.getD .skip
def V3:List Nat:=[63]
section
variable(t:ae)
def RT:aA:=be 65 [(1,.eptr (af t))] [.dead] []
def lw(o:Bool):aA:=be 65 [(1,.eptr (af t)),(27,.bool o)] [.dead] []
def Ev:Option Bool:=
 if (t.Op == 6) = true then
  (At t.Pred).bind fun r3=>
  if(!r3)=true then
   some true
  else
   if(t.Op !=4)=true then
    some (decide ((t.Preds.length:Int)>0))
   else
    some false
 else
  if(t.Op !=4)=true then
   some (decide ((t.Preds.length:Int)>0))
  else
   some false
theorem Pv{x:Bool}(h:Ev t=some x):
  aU Pg GE 0 (cA qcn 12) (EX .normal (lw t x)) (RT t):=by
 have p2:=fun{sc F} (r:PS sc F)=>sv (aC t)<|sv (aD t)<|r
 rcases bj h with⟨c1,h⟩|⟨c1,h⟩
 ·obtain⟨r3,br3,h⟩:=ay h
  have p5:=fun{sc F} (r:PS sc F)=>p2<|sg 4 c1<|sv (dE t)<|sv (dF t)<|bz (EC br3)<|r
  rcases bj h with⟨c4,h⟩|⟨c4,h⟩
  ·obtain rfl:=lf h
   exact cd V3 (p5<|sg 10 c4<|eF .normal (lw t true)) (by kernel_rfl)
  ·have p7:=fun{sc F} (r:PS sc F)=>p5<|sg 10 c4<|sv (aC t)<|sv (aD t)<|r
   rcases bj h with⟨c6,h⟩|⟨c6,h⟩
   ·obtain rfl:=lf h
    exact cd V3 (p7<|sg 14 c6<|sv (dq t)<|sv (dt t)<|cm (bL.ln t.Preds)<|eF .normal (lw t (decide ((t.Preds.length:Int)>0)))) (by kernel_rfl)
   ·obtain rfl:=lf h
    exact cd V3 (p7<|sg 14 c6<|eF .normal (lw t false)) (by kernel_rfl)
 ·have p9:=fun{sc F} (r:PS sc F)=>p2<|sg 4 c1<|sv (aC t)<|sv (aD t)<|r
  rcases bj h with⟨c8,h⟩|⟨c8,h⟩
  ·obtain rfl:=lf h
   exact cd V3 (p9<|sg 14 c8<|sv (dq t)<|sv (dt t)<|cm (bL.ln t.Preds)<|eF .normal (lw t (decide ((t.Preds.length:Int)>0)))) (by kernel_rfl)
  ·obtain rfl:=lf h
   exact cd V3 (p9<|sg 14 c8<|eF .normal (lw t false)) (by kernel_rfl)
end
section
variable(t:ae)(t29:waA)(t30:Int)(t31:Int)
def oR:aA:=be 65 [(1,.eptr (af t)),(29,sl cS t29),(30,.int .i64 t30),(31,.int .i64 t31)] [.dead] []
def oS(o:Unit⊕(Unit)):Exit:=match o with
 |(.inl _)=>.ret
 |(.inr _)=>.exit 0
def lx(o:Unit⊕(Unit)):aA:=match o with
 |(.inl o)=>be 65 [(2,.int .i64 3)] [.dead] []
 |(.inr o)=>be 65 [(1,.eptr (af t))] [.dead] []
def GY:Option (Int⊕(Unit⊕(Unit))):=
 if(decide (t31<t30))=true then
  (cz t29 t31).bind fun x14=>
  (sw x14).bind fun r15=>
  if(r15 !=0)=true then
   some (.inr (.inl ()))
  else
   some (.inl (aR (t31+1)))
 else
  some (.inr (.inr ()))
def Ex:Option (Unit⊕(Unit)):=loop (fun(zz:Int)=>GY t29 t30 zz) t31
theorem ND{y:Int⊕(Unit⊕(Unit))}(h:GY t29 t30 t31=some y):
  aU Pg GE 0 (cA qcn 119) (LQ (fun(zz:Int)=>oR t t29 t30 zz) oS (lx t) y) (oR t t29 t30 t31):=by
 rcases bj h with⟨c13,h⟩|⟨c13,h⟩
 ·obtain⟨x14,bx14,h⟩:=ay h
  obtain⟨r15,br15,h⟩:=ay h
  have p17:=fun{sc F} (r:PS sc F)=>sg 0 c13<|sv (bp.ia (k:=.i64) bx14)<|sv (dH Ba (.str x14) [])<|bz (IR br15)<|r
  rcases bj h with⟨c16,h⟩|⟨c16,h⟩
  ·obtain rfl:=lf h
   have z:=p17<|sg 0 c16<|eF (oS (.inl ())) (lx t (.inl ()))
   exact f6 V3 (by intro hx;cases hx) z (by kernel_rfl)
  ·obtain rfl:=lf h
   exact n9 V3 (p17<|sg 0 c16<|eF .normal (oR t t29 t30 (aR (t31+1)))) (by kernel_rfl)
 ·obtain rfl:=lf h
  have z:=sg 0 c13<|eF (oS (.inr ())) (lx t (.inr ()))
  exact f6 V3 (by intro hx;cases hx) z (by kernel_rfl)
theorem Ey{x:Unit⊕(Unit)}(h:Ex t29 t30 t31=some x):
  aU Pg GE 0 (.loop (cA qcn 119)) (EX (oS x) (lx t x)) (oR t t29 t30 t31):=
 aU.loop (S:=fun(zz:Int)=>oR t t29 t30 zz) (ex:=oS) (s:=t31) h fun zz y hy=>ND t t29 t30 zz hy
end
section
variable(e:Int)(t48:waB)(t49:Int)(t50:Int)(m:Int)(m2:ag)(m3:Int)(m4:waB)
def RU:aA:=be 65 [(6,.bptr 1 0),(7,.int .i64 e),(48,sl ac t48),(49,.int .i64 t49),(50,.int .i64 t50)] [.dead,.cells [.int .i64 m,.str m2,.int .i64 m3,sl ac m4] []] [((48,0),36)]
def zO(o:Bool):aA:=be 65 [(7,.int .i64 e),(48,sl ac t48),(49,.int .i64 t49),(50,.int .i64 t50),(62,.bool o)] [.dead,.cells [.int .i64 m,.str m2,.int .i64 m3,sl ac m4] []] [((48,0),36)]
def Ew:Option Bool:=
 (At (⟨m,m2,m3,m4⟩:aa)).bind fun r26=>
 if(!r26)=true then
  some (e !=0)
 else
  some false
theorem Pw{x:Bool}(h:Ew e m m2 m3 m4=some x):
  aU Pg GE 0 (cA qcn 64494) (EX .normal (zO e t48 t49 t50 m m2 m3 m4 x)) (RU e t48 t49 t50 m m2 m3 m4):=by
 obtain⟨r26,br26,h⟩:=ay h
 have p28:=fun{sc F} (r:PS sc F)=>sv (bT (⟨m,m2,m3,m4⟩:aa) [])<|bz (EC br26)<|r
 rcases bj h with⟨c27,h⟩|⟨c27,h⟩
 ·obtain rfl:=lf h
  exact cd V3 (p28<|sg 4 c27<|eF .normal (zO e t48 t49 t50 m m2 m3 m4 (e !=0))) (by kernel_rfl)
 ·obtain rfl:=lf h
  exact cd V3 (p28<|sg 4 c27<|eF .normal (zO e t48 t49 t50 m m2 m3 m4 false)) (by kernel_rfl)
end
section
variable(t48:waB)(t49:Int)(t50:Int)
def oT:aA:=be 65 [(48,sl ac t48),(49,.int .i64 t49),(50,.int .i64 t50)] [.dead] [((48,0),36)]
def oU(o:Int⊕(Unit)):Exit:=match o with
 |(.inl _)=>.ret
 |(.inr _)=>.exit 2
def ly(o:Int⊕(Unit)):aA:=match o with
 |(.inl o)=>be 65 [(2,.int .i64 o)] [.dead] []
 |(.inr o)=>be 65 [] [.dead] []
def GZ:Option (Int⊕(Int⊕(Unit))):=
 if(decide (t50<t49))=true then
  (cz t48 t50).bind fun x24=>
  (FD x24).bind fun r25=>
  (Ew r25 x24.Op x24.Name x24.N x24.Kids).bind fun o29=>
  if o29=true then
   some (.inr (.inl r25))
  else
   some (.inl (aR (t50+1)))
 else
  some (.inr (.inr ()))
def Ez:Option (Int⊕(Unit)):=loop (fun(zz:Int)=>GZ t48 t49 zz) t50
theorem NE{y:Int⊕(Int⊕(Unit))}(h:GZ t48 t49 t50=some y):
  aU Pg GE 0 (cA qcn 503) (LQ (fun(zz:Int)=>oT t48 t49 zz) oU ly y) (oT t48 t49 t50):=by
 rcases bj h with⟨c23,h⟩|⟨c23,h⟩
 ·obtain⟨x24,bx24,h⟩:=ay h
  obtain⟨r25,br25,h⟩:=ay h
  obtain⟨o29,bo29,h⟩:=ay h
  have p31:=fun{sc F} (r:PS sc F)=>sg 0 c23<|sv (bL.ia (k:=.i64) bx24)<|sv (bh x24)<|sx hO<|sx (cj x24)<|sv (bT x24 [])<|bz (Uh br25)<|kr 0<|cW (Pw r25 t48 t49 t50 x24.Op x24.Name x24.N x24.Kids bo29)<|r
  rcases bj h with⟨c30,h⟩|⟨c30,h⟩
  ·obtain rfl:=lf h
   have z:=p31<|sg 0 c30<|uz 0 (oU (.inl r25)) (ly (.inl r25)) rfl (dC (aI trivial trivial)) (aI trivial trivial)
   exact Iq (A:=V3) mixed (by intro hx;cases hx) z (by kernel_rfl)
  ·obtain rfl:=lf h
   have z:=p31<|sg 0 c30<|uz 0 .normal (oT t48 t49 (aR (t50+1))) rfl (dC (aI (up (aj ah t48)) (aI trivial (aI trivial trivial)))) (aI trivial trivial)
   exact df (A:=V3) mixed z (by kernel_rfl)
 ·obtain rfl:=lf h
  have z:=sg 0 c23<|eF (oU (.inr ())) (ly (.inr ()))
  exact f6 V3 (by intro hx;cases hx) z (by kernel_rfl)
theorem EA{x:Int⊕(Unit)}(h:Ez t48 t49 t50=some x):
  aU Pg GE 0 (.loop (cA qcn 503)) (EX (oU x) (ly x)) (oT t48 t49 t50):=
 aU.loop (S:=fun(zz:Int)=>oT t48 t49 zz) (ex:=oU) (s:=t50) h fun zz y hy=>NE t48 t49 zz hy
end
def Jg(t:ae):Option Int:=
 (Ev t).bind fun o10=>
 if o10=true then
  some 1
 else
  (Ex t.Names (t.Names.length:Int) 0).bind fun o18=>match o18 with
  |(.inl o18)=>
   some 3
  | (.inr o18) =>
   (vF t.Names).bind fun r19=>
   if(!r19)=true then
    some 4
   else
    (app ([t.Pred]:List aa) t.Preds).bind fun l22=>
    (Ez l22 (l22.length:Int) 0).bind fun o32=>match o32 with
    |(.inl o32)=>
     some o32
    |(.inr o32)=>
     some 0
theorem Wt{t:ae}{r:Int}(h:Jg t=some r):CC Pg GE 62 [.agg (af t)] (.int .i64 r) []:=by
 obtain⟨o10,bo10,h⟩:=ay h
 have p12:=fun{sc F} (r:PS sc F)=>se (bD t)<|kr 1<|cW (Pv t bo10)<|r
 rcases bj h with⟨c11,h⟩|⟨c11,h⟩
 ·obtain rfl:=lf h
  have z:=p12<|sg 0 c11<|en (aI (rP (.int .i64 1))<|trivial)
  exact bN V3 Tryz.call62 Tryz.func62 (c:=qcn) rfl (aI (ak t) trivial) z (by kernel_rfl)
 ·obtain⟨o18,bo18,h⟩:=ay h
  rcases o18 with o18|o18
  ·obtain rfl:=lf h
   have z:=p12<|sg 0 c11<|sv (aO t)<|sv (aP t)<|cm (bp.ln t.Names)<|cW (e:=.ret) (s1:=lx t (.inl o18)) (Ey t t.Names (t.Names.length:Int) 0 bo18)<|en (aI (rP (.int .i64 3))<|trivial)
   exact bN V3 Tryz.call62 Tryz.func62 (c:=qcn) rfl (aI (ak t) trivial) z (by kernel_rfl)
  ·obtain⟨r19,br19,h⟩:=ay h
   have p21:=fun{sc F} (r:PS sc F)=>p12<|sg 0 c11<|sv (aO t)<|sv (aP t)<|cm (bp.ln t.Names)<|cW (e:=.exit 0) (s1:=lx t (.inr o18)) (Ey t t.Names (t.Names.length:Int) 0 bo18)<|sv (aO t)<|sv (aP t)<|bz (MJ br19)<|r
   rcases bj h with⟨c20,h⟩|⟨c20,h⟩
   ·obtain rfl:=lf h
    have z:=p21<|sg 0 c20<|en (aI (rP (.int .i64 4))<|trivial)
    exact bN V3 Tryz.call62 Tryz.func62 (c:=qcn) rfl (aI (ak t) trivial) z (by kernel_rfl)
   ·obtain⟨l22,bl22,h⟩:=ay h
    obtain⟨o32,bo32,h⟩:=ay h
    rcases o32 with o32|o32
    ·obtain rfl:=lf h
     have z:=p21<|sg 0 c20<|sv (dE t)<|sv (dF t)<|sv (bL.mk' (v:=dW) cK ([t.Pred]:List aa) 1 (by kernel_rfl))<|sv (dq t)<|sv (dt t)<|sv (bL.ap bl22)<|cm (bL.ln l22)<|cW (e:=.ret) (s1:=ly (.inl o32)) (EA l22 (l22.length:Int) 0 bo32)<|en (aI (rP (.int .i64 o32))<|trivial)
     exact bN V3 Tryz.call62 Tryz.func62 (c:=qcn) rfl (aI (ak t) trivial) z (by kernel_rfl)
    ·obtain rfl:=lf h
     have z:=p21<|sg 0 c20<|sv (dE t)<|sv (dF t)<|sv (bL.mk' (v:=dW) cK ([t.Pred]:List aa) 1 (by kernel_rfl))<|sv (dq t)<|sv (dt t)<|sv (bL.ap bl22)<|cm (bL.ln l22)<|cW (e:=.exit 2) (s1:=ly (.inr o32)) (EA l22 (l22.length:Int) 0 bo32)<|en (aI (rP (.int .i64 0))<|trivial)
     exact bN V3 Tryz.call62 Tryz.func62 (c:=qcn) rfl (aI (ak t) trivial) z (by kernel_rfl)
def qh7:Code:=Tryz.f40.body.getD .skip
def qhc:List Nat:=[11,23]
section
variable(R31:B7)(t13:waC)(t14:Int)(t15:Int)
def oP:aA:=be 25 [(13,sl af t13),(14,.int .i64 t14),(15,.int .i64 t15)] [.dead] []
def oQ(o:Int⊕(Unit)):Exit:=match o with
 |(.inl _)=>.ret
 |(.inr _)=>.exit 0
def lu(o:Int⊕(Unit)):aA:=match o with
 |(.inl o)=>be 25 [(2,.int .i64 o)] [.dead] []
 |(.inr o)=>be 25 [] [.dead] []
def GX:Option (Int⊕(Int⊕(Unit))):=
 if(decide (t15<t14))=true then
  (cz t13 t15).bind fun x5=>
  (R31 x5).bind fun r6=>
  if(r6 !=0)=true then
   some (.inr (.inl r6))
  else
   some (.inl (aR (t15+1)))
 else
  some (.inr (.inr ()))
def Es:Option (Int⊕(Unit)):=loop (fun(zz:Int)=>GX R31 t13 t14 zz) t15
theorem NB(hR31:Hu R31){y:Int⊕(Int⊕(Unit))}(h:GX R31 t13 t14 t15=some y):
  aU Pg GE 0 (cA qh7 119) (LQ (fun(zz:Int)=>oP t13 t14 zz) oQ lu y) (oP t13 t14 t15):=by
 rcases bj h with⟨c4,h⟩|⟨c4,h⟩
 ·obtain⟨x5,bx5,h⟩:=ay h
  obtain⟨r6,br6,h⟩:=ay h
  have p8:=fun{sc F} (r:PS sc F)=>sg 0 c4<|sv (ck.ia (k:=.i64) bx5)<|sv (aV x5)<|sx tc<|sx (ey x5)<|sv (cU x5 [])<|bz (hR31 _ _ br6)<|r
  rcases bj h with⟨c7,h⟩|⟨c7,h⟩
  ·obtain rfl:=lf h
   have z:=p8<|sg 0 c7<|uz 0 (oQ (.inl r6)) (lu (.inl r6)) rfl (dC (aI trivial trivial)) (aI trivial trivial)
   exact Iq (A:=qhc) mixed (by intro hx;cases hx) z (by kernel_rfl)
  ·obtain rfl:=lf h
   have z:=p8<|sg 0 c7<|uz 0 .normal (oP t13 t14 (aR (t15+1))) rfl (dC (aI (up (aj ak t13)) (aI trivial (aI trivial trivial)))) (aI trivial trivial)
   exact df (A:=qhc) mixed z (by kernel_rfl)
 ·obtain rfl:=lf h
  have z:=sg 0 c4<|eF (oQ (.inr ())) (lu (.inr ()))
  exact f6 qhc (by intro hx;cases hx) z (by kernel_rfl)
theorem Et(hR31:Hu R31){x:Int⊕(Unit)}(h:Es R31 t13 t14 t15=some x):
  aU Pg GE 0 (.loop (cA qh7 119)) (EX (oQ x) (lu x)) (oP t13 t14 t15):=
 aU.loop (S:=fun(zz:Int)=>oP t13 t14 zz) (ex:=oQ) (s:=t15) h fun zz y hy=>NB R31 t13 t14 zz hR31 hy
end
def BP(R31:B7)(t:ae):Option Int:=
 (Jg t).bind fun r1=>
 if(r1 !=0)=true then
  some r1
 else
  (Es R31 t.Args (t.Args.length:Int) 0).bind fun o9=>match o9 with
  |(.inl o9)=>
   some o9
  |(.inr o9)=>
   some 0
theorem UC(R31:B7)(hR31:Hu R31){t:ae}{r:Int}(h:BP R31 t=some r):CC Pg GE 40 [.agg (af t)] (.int .i64 r) []:=by
 obtain⟨r1,br1,h⟩:=ay h
 have p3:=fun{sc F} (r:PS sc F)=>se (bD t)<|sv (aV t)<|bz (Wt br1)<|r
 rcases bj h with⟨c2,h⟩|⟨c2,h⟩
 ·obtain rfl:=lf h
  have z:=p3<|sg 0 c2<|en (aI (rP (.int .i64 r1))<|trivial)
  exact bN qhc Tryz.call40 Tryz.func40 (c:=qh7) rfl (aI (ak t) trivial) z (by kernel_rfl)
 ·obtain⟨o9,bo9,h⟩:=ay h
  rcases o9 with o9|o9
  ·obtain rfl:=lf h
   have z:=p3<|sg 0 c2<|sv (aK t)<|sv (aL t)<|cm (ck.ln t.Args)<|cW (e:=.ret) (s1:=lu (.inl o9)) (Et R31 t.Args (t.Args.length:Int) 0 hR31 bo9)<|en (aI (rP (.int .i64 o9))<|trivial)
   exact bN qhc Tryz.call40 Tryz.func40 (c:=qh7) rfl (aI (ak t) trivial) z (by kernel_rfl)
  ·obtain rfl:=lf h
   have z:=p3<|sg 0 c2<|sv (aK t)<|sv (aL t)<|cm (ck.ln t.Args)<|cW (e:=.exit 0) (s1:=lu (.inr o9)) (Et R31 t.Args (t.Args.length:Int) 0 hR31 bo9)<|en (aI (rP (.int .i64 0))<|trivial)
   exact bN qhc Tryz.call40 Tryz.func40 (c:=qh7) rfl (aI (ak t) trivial) z (by kernel_rfl)
def HQ:(ae->Option Int)->(ae)->Option Int:=fun(rec:ae->Option Int) (x:ae)=>BP (fun t=>rec t) x
def Pu(t:ae):Option Int:=kJ HQ t
theorem Ws{t:ae}{r:Int}(h:Pu t=some r):CC Pg GE 40 [.agg (af t)] (.int .i64 r) []:=
 cy (F:=HQ) (M:=fun(x:ae) (r:Int)=>CC Pg GE 40 [.agg (af x)] (.int .i64 r) []) (fun rec hrec x r h=>UC _ (fun t r h=>hrec t r h) h) h
def qkJ:Code:=Tryz.f16.body.getD .skip
def qkA:List Nat:=[8]
def Aq(t:ae):Option Int:=
 (FF t).bind fun r1=>
 if(r1 !=0)=true then
  some r1
 else
  (Pu t).bind fun r4=>
  some r4
theorem Ja{t:ae}{r:Int}(h:Aq t=some r):CC Pg GE 16 [.agg (af t)] (.int .i64 r) []:=by
 obtain⟨r1,br1,h⟩:=ay h
 have p3:=fun{sc F} (r:PS sc F)=>se (bD t)<|sv (aV t)<|bz (Uo br1)<|r
 rcases bj h with⟨c2,h⟩|⟨c2,h⟩
 ·obtain rfl:=lf h
  have z:=p3<|sg 0 c2<|en (aI (rP (.int .i64 r1))<|trivial)
  exact bN qkA Tryz.call16 Tryz.func16 (c:=qkJ) rfl (aI (ak t) trivial) z (by kernel_rfl)
 ·obtain⟨r4,br4,h⟩:=ay h
  obtain rfl:=lf h
  have z:=p3<|sg 0 c2<|sv (aV t)<|bz (Ws br4)<|en (aI (rP (.int .i64 r4))<|trivial)
  exact bN qkA Tryz.call16 Tryz.func16 (c:=qkJ) rfl (aI (ak t) trivial) z (by kernel_rfl)
def qkH:Code:=Tryz.f10.body.getD .skip
def qky:List Nat:=[]
def FT(a:aQ):Option Bool:=
 (Aq a.A).bind fun r1=>
 if(r1==0)=true then
  (Aq a.B).bind fun r4=>
  some (r4==0)
 else
  some false
theorem UG{a:aQ}{r:Bool}(h:FT a=some r):CC Pg GE 10 [.agg (aE a)] (.bool r) []:=by
 obtain⟨r1,br1,h⟩:=ay h
 have p3:=fun{sc F} (r:PS sc F)=>se (pn a)<|sv (ek a)<|sv (er a)<|bz (Ja br1)<|r
 rcases bj h with⟨c2,h⟩|⟨c2,h⟩
 ·obtain⟨r4,br4,h⟩:=ay h
  obtain rfl:=lf h
  have z:=p3<|sg 5 c2<|sv (eo a)<|sv (eu a)<|bz (Ja br4)<|en (aI (rP (.bool (r4==0)))<|trivial)
  exact bN qky Tryz.call10 Tryz.func10 (c:=qkH) rfl (aI (dR a) trivial) z (by kernel_rfl)
 ·obtain rfl:=lf h
  have z:=p3<|sg 5 c2<|en (aI (rP (.bool false))<|trivial)
  exact bN qky Tryz.call10 Tryz.func10 (c:=qkH) rfl (aI (dR a) trivial) z (by kernel_rfl)
def qlr:Code:=Tryz.f33.body.getD .skip
def qlb:List Nat:=[]
def kg(s:ag):Option aa:=
 some (⟨3,s,0,([]:List aa)⟩:aa)
theorem iH{s:ag}{r:aa}(h:kg s=some r):CC Pg GE 33 [.str s] (.agg (ac r)) [(3,36)]:=by
 obtain rfl:=lf h
 have z:=sx hO<|sb (kj 3 s) (kh 3 s)<|sy (aJ (⟨3,s,0,([]:List aa)⟩:aa))<|en (aI (dj (⟨3,s,0,([]:List aa)⟩:aa))<|aI (ah (⟨3,s,0,([]:List aa)⟩:aa))<|rT)
 exact bN qlb Tryz.call33 Tryz.func33 (c:=qlr) rfl (aI trivial trivial) z (by kernel_rfl)
def qlq:Code:=Tryz.f32.body.getD .skip
def qla:List Nat:=[]
def FU(op:Int)(a:aa)(a2:aa):Option aa:=
 some (⟨op,([]:ag),0,([a,a2]:List aa)⟩:aa)
theorem xu{op:Int}{a:aa}{a2:aa}{r:aa}(h:FU op a a2=some r):CC Pg GE 32 [.int .i64 op,.agg (ac a),.agg (ac a2)] (.agg (ac r)) []:=by
 obtain rfl:=lf h
 have z:=se (bS a)<|se (bS a2)<|sx hO<|sv (bh a)<|sv (bh a2)<|sv (bL.mk' (v:=dW) cK ([a,a2]:List aa) 2 (by kernel_rfl))<|sv (JG op ([a,a2]:List aa))<|sx (cj (⟨op,([]:ag),0,([a,a2]:List aa)⟩:aa))<|en (aI (dj (⟨op,([]:ag),0,([a,a2]:List aa)⟩:aa))<|(ah (⟨op,([]:ag),0,([a,a2]:List aa)⟩:aa)))
 exact bN qla Tryz.call32 Tryz.func32 (c:=qlq) rfl (aI trivial (aI (ah a) (aI (ah a2) trivial))) z (by kernel_rfl)
def qlp:Code:=Tryz.f31.body.getD .skip
def qk9:List Nat:=[]
def tZ(p:aa):Option ae:=
 some (⟨1,([]:ag),([]:List ae),([]:List ag),p,([]:List aa)⟩:ae)
theorem rf{p:aa}{r:ae}(h:tZ p=some r):CC Pg GE 31 [.agg (ac p)] (.agg (af r)) [(2,38),(3,9),(8,36)]:=by
 obtain rfl:=lf h
 have z:=se (bS p)<|sx tc<|sv (bh p)<|sb (UO 1 p) (UM 1 p)<|sy (bu (⟨1,([]:ag),([]:List ae),([]:List ag),p,([]:List aa)⟩:ae))<|en (aI (hX (⟨1,([]:ag),([]:List ae),([]:List ag),p,([]:List aa)⟩:ae))<|aI (ak (⟨1,([]:ag),([]:List ae),([]:List ag),p,([]:List aa)⟩:ae))<|rT)
 exact bN qk9 Tryz.call31 Tryz.func31 (c:=qlp) rfl (aI (ah p) trivial) z (by kernel_rfl)
abbrev vR:=(ae->ae->Option Bool)
abbrev Bb(R:vR):Prop:=∀(a:ae) (a2:ae) (r:Bool),R a a2=some r->CC Pg GE 34 [.agg (af a),.agg (af a2)] (.bool r) []
end Go.Proofs.YtbaamopmfmpfaaaGreatDoor
