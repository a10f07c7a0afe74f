/- PROVED: a part of the proof. Conditions: none. -/
import Derived.Test.YtbaamopmfmpfaaaGreatDoorPkB12
noncomputable section
namespace Go.Proofs.YtbaamopmfmpfaaaGreatDoor
open Go Go.Proofs.Tryz
set_option linter.unusedVariables false
set_option maxRecDepth 100000
noncomputable def qgM:Code:=f106.body.getD .skip
def qgw:List Nat:=[]
section
variable(R38:yV)(t7:waB)(t8:Int)(n:Int)(t9:Int)
def mq:aC:=be 20 [(3,.int .i64 n),(7,sl ac t7),(8,.int .i64 t8),(9,.int .i64 t9)] [.dead] []
def wV(o:Int):aC:=be 20 [(3,.int .i64 o)] [.dead] []
def DZ:Option ((Int×Int)⊕(Int)):=
 if(decide (t9<t8))=true then
  (cz t7 t9).bind fun x2=>
  (R38 x2).bind fun r3=>
  some (.inl ((if r3>n then r3 else n),aS (t9+1)))
 else
  some (.inr n)
def BF:Option Int:=loop (fun(zz:Int×Int)=>DZ R38 t7 t8 zz.1 zz.2) (n,t9)
theorem Lg(hR38:DK R38){y:(Int×Int)⊕(Int)}(h:DZ R38 t7 t8 n t9=some y):aV Pg GE 0 (cA qgM 119) (LQ (fun(zz:Int×Int)=>mq t7 t8 zz.1 zz.2) (fun _=>.exit 0) wV y) (mq t7 t8 n t9):=by
 rcases bj h with⟨c1,h⟩|⟨c1,h⟩
 ·obtain⟨x2,bx2,h⟩:=ay h
  obtain⟨r3,br3,h⟩:=ay h
  obtain rfl:=lf h
  have z:=sg 0 c1<|sv (bL.ia (k:=.i64) bx2)<|sv (bh x2)<|sx ib<|sx (cr x2)<|sv (bX x2 [])<|bz (hR38 _ _ br3)<|uP 0 .normal (mq t7 t8 (if r3>n then r3 else n) (aS (t9+1))) rfl (dF (aI trivial (aI (up (aj ah t7)) (aI trivial (aI trivial trivial))))) (aI trivial trivial)
  exact dh (A:=qgw) mixed z<|by kernel_rfl
 ·obtain rfl:=lf h
  have z:=sg 0 c1<|eF (.exit 0) (wV n)
  exact gg qgw (by intro hx;cases hx) z<|by kernel_rfl
theorem Nj(hR38:DK R38){x:Int}(h:BF R38 t7 t8 n t9=some x):aV Pg GE 0 (.loop (cA qgM 119)) (EX (.exit 0) (wV x)) (mq t7 t8 n t9):=
 aV.loop (S:=fun(zz:Int×Int)=>mq t7 t8 zz.1 zz.2) (ex:=(fun _=>.exit 0)) (s:=(n,t9)) h fun zz y hy=>Lg R38 t7 t8 zz.1 zz.2 hR38 hy
end
def yI(R38:yV)(p:aa):Option Int:=
 (BF R38 p.Kids (p.Kids.length:Int) 0 0).bind fun o4=>
 some (aS (o4+1))
theorem RN(R38:yV)(hR38:DK R38){p:aa}{r:Int}(h:yI R38 p=some r):CC Pg GE 106 [.agg (ac p)] (.int .i64 r) []:=by
 obtain⟨o4,bo4,h⟩:=ay h
 obtain rfl:=lf h
 have z:=se (bU p)<|sv (bC p)<|sv (bD p)<|cq (bL.ln p.Kids)<|cY (Nj R38 p.Kids (p.Kids.length:Int) 0 0 hR38 bo4)<|en (aI (rP (.int .i64 (aS (o4+1))))<|trivial)
 exact bO qgw call106 func106 (c:=qgM) rfl (aI (ah p) trivial) z<|by kernel_rfl
def DY:(aa->Option Int)->(aa)->Option Int:=fun(rec:aa->Option Int) (x:aa)=>yI (fun p=>rec p) x
def Lf(p:aa):Option Int:=kK DY p
theorem UD{p:aa}{r:Int}(h:Lf p=some r):CC Pg GE 106 [.agg (ac p)] (.int .i64 r) []:=
 cG (F:=DY) (M:=fun(x:aa) (r:Int)=>CC Pg GE 106 [.agg (ac x)] (.int .i64 r) []) (fun rec hrec x r h=>RN _ (fun p r h=>hrec p r h) h) h
abbrev Cg:=(aa->Option Int)
abbrev HK(R:Cg):Prop:=∀(p:aa) (r:Int),R p=some r->CC Pg GE 107 [.agg (ac p)] (.int .i64 r) []
noncomputable def qgP:Code:=f129.body.getD .skip
def qgy:List Nat:=[]
def F3(op:Int):Option Bool:=
 if(op==3)=true then
  some true
 else
  if(op==4)=true then
   some true
  else
   some (op==5)
theorem UI{op:Int}{r:Bool}(h:F3 op=some r):CC Pg GE 129 [.int .i64 op] (.bool r) []:=by
 rcases bj h with⟨c1,h⟩|⟨c1,h⟩
 ·obtain rfl:=lf h
  have z:=sg 3 c1<|en (aI (rP (.bool true))<|trivial)
  exact bO qgy call129 func129 (c:=qgP) rfl (aI trivial trivial) z<|by kernel_rfl
 ·rcases bj h with⟨c2,h⟩|⟨c2,h⟩
  ·obtain rfl:=lf h
   have z:=sg 3 c1<|sg 7 c2<|en (aI (rP (.bool true))<|trivial)
   exact bO qgy call129 func129 (c:=qgP) rfl (aI trivial trivial) z<|by kernel_rfl
  ·obtain rfl:=lf h
   have z:=sg 3 c1<|sg 7 c2<|en (aI (rP (.bool (op==5)))<|trivial)
   exact bO qgy call129 func129 (c:=qgP) rfl (aI trivial trivial) z<|by kernel_rfl
noncomputable def W5:Code:=f130.body.getD .skip
def M2:List Nat:=[]
section
variable(n:Int)(t5:Int)
def RS:aC:=be 28 [(1,.int .i64 n),(5,.int .i64 t5)] [] []
def tG(o:Bool):aC:=be 28 [(1,.int .i64 n),(5,.int .i64 t5),(6,.bool o)] [] []
def yL:Option Bool:=
 if(t5==1)=true then
  some (t5==1)
 else
  if(t5==2)=true then
   some (t5==2)
  else
   some (t5==3)
theorem O8{x:Bool}(h:yL t5=some x):aV Pg GE 0 (cA W5 54) (EX .normal (tG n t5 x)) (RS n t5):=by
 rcases bj h with⟨c1,h⟩|⟨c1,h⟩
 ·obtain rfl:=lf h
  exact cf M2 (sg 0 c1<|eF .normal (tG n t5 (t5==1)))<|by kernel_rfl
 ·rcases bj h with⟨c2,h⟩|⟨c2,h⟩
  ·obtain rfl:=lf h
   exact cf M2 (sg 0 c1<|sg 0 c2<|eF .normal (tG n t5 (t5==2)))<|by kernel_rfl
  ·obtain rfl:=lf h
   exact cf M2 (sg 0 c1<|sg 0 c2<|eF .normal (tG n t5 (t5==3)))<|by kernel_rfl
end
section
variable(n:Int)(t5:Int)
def RT:aC:=be 28 [(1,.int .i64 n),(5,.int .i64 t5)] [] []
def zC(o:Bool):aC:=be 28 [(1,.int .i64 n),(5,.int .i64 t5),(12,.bool o)] [] []
def yM:Option Bool:=
 if(t5==4)=true then
  some (t5==4)
 else
  some (t5==5)
theorem O9{x:Bool}(h:yM t5=some x):aV Pg GE 0 (cA W5 222) (EX .normal (zC n t5 x)) (RT n t5):=by
 rcases bj h with⟨c6,h⟩|⟨c6,h⟩
 ·obtain rfl:=lf h
  exact cf M2 (sg 0 c6<|eF .normal (zC n t5 (t5==4)))<|by kernel_rfl
 ·obtain rfl:=lf h
  exact cf M2 (sg 0 c6<|eF .normal (zC n t5 (t5==5)))<|by kernel_rfl
end
section
variable(n:Int)(t5:Int)
def RU:aC:=be 28 [(1,.int .i64 n),(5,.int .i64 t5)] [] []
def zD(o:Bool):aC:=be 28 [(1,.int .i64 n),(21,.bool o)] [] []
def yN:Option Bool:=
 if(t5==9)=true then
  some (t5==9)
 else
  some (t5==14)
theorem Pa{x:Bool}(h:yN t5=some x):aV Pg GE 0 (cA W5 894) (EX .normal (zD n x)) (RU n t5):=by
 rcases bj h with⟨c12,h⟩|⟨c12,h⟩
 ·obtain rfl:=lf h
  exact cf M2 (sg 0 c12<|eF .normal (zD n (t5==9)))<|by kernel_rfl
 ·obtain rfl:=lf h
  exact cf M2 (sg 0 c12<|eF .normal (zD n (t5==14)))<|by kernel_rfl
end
def qX(op:Int)(n:Int):Option Bool:=
 (yL op).bind fun o3=>
 if o3=true then
  some (n==0)
 else
  (yM op).bind fun o7=>
  if o7=true then
   if(decide (n>=1))=true then
    some (decide (n<=24))
   else
    some false
  else
   (yN op).bind fun o13=>
   if o13=true then
    some (n==1)
   else
    some (n==2)
theorem yO{op:Int}{n:Int}{r:Bool}(h:qX op n=some r):CC Pg GE 130 [.int .i64 op,.int .i64 n] (.bool r) []:=by
 obtain⟨o3,bo3,h⟩:=ay h
 have p5:=fun{sc F} (r:PS sc F)=>ka 3<|cY (O8 n op bo3)<|r
 rcases bj h with⟨c4,h⟩|⟨c4,h⟩
 ·obtain rfl:=lf h
  have z:=p5<|sg 0 c4<|en (aI (rP (.bool (n==0)))<|trivial)
  exact bO M2 call130 func130 (c:=W5) rfl (aI trivial (aI trivial trivial)) z<|by kernel_rfl
 ·obtain⟨o7,bo7,h⟩:=ay h
  have p9:=fun{sc F} (r:PS sc F)=>p5<|sg 0 c4<|ka 0<|cY (O9 n op bo7)<|r
  rcases bj h with⟨c8,h⟩|⟨c8,h⟩
  ·have p11:=fun{sc F} (r:PS sc F)=>p9<|sg 0 c8<|r
   rcases bj h with⟨c10,h⟩|⟨c10,h⟩
   ·obtain rfl:=lf h
    have z:=p11<|sg 3 c10<|en (aI (rP (.bool (decide (n<=24))))<|trivial)
    exact bO M2 call130 func130 (c:=W5) rfl (aI trivial (aI trivial trivial)) z<|by kernel_rfl
   ·obtain rfl:=lf h
    have z:=p11<|sg 3 c10<|en (aI (rP (.bool false))<|trivial)
    exact bO M2 call130 func130 (c:=W5) rfl (aI trivial (aI trivial trivial)) z<|by kernel_rfl
  ·obtain⟨o13,bo13,h⟩:=ay h
   have p15:=fun{sc F} (r:PS sc F)=>p9<|sg 0 c8<|ka 0<|cY (Pa n op bo13)<|r
   rcases bj h with⟨c14,h⟩|⟨c14,h⟩
   ·obtain rfl:=lf h
    have z:=p15<|sg 0 c14<|en (aI (rP (.bool (n==1)))<|trivial)
    exact bO M2 call130 func130 (c:=W5) rfl (aI trivial (aI trivial trivial)) z<|by kernel_rfl
   ·obtain rfl:=lf h
    have z:=p15<|sg 0 c14<|en (aI (rP (.bool (n==2)))<|trivial)
    exact bO M2 call130 func130 (c:=W5) rfl (aI trivial (aI trivial trivial)) z<|by kernel_rfl
noncomputable def qip:Code:=f131.body.getD .skip
def qhY:List Nat:=[]
def Uw(n:Int):Option Bool:=
 if(decide (n>=(-1000000000000)))=true then
  some (decide (n<=1000000000000))
 else
  some false
theorem qaV{n:Int}{r:Bool}(h:Uw n=some r):CC Pg GE 131 [.int .i64 n] (.bool r) []:=by
 rcases bj h with⟨c1,h⟩|⟨c1,h⟩
 ·obtain rfl:=lf h
  have z:=sg 3 c1<|en (aI (rP (.bool (decide (n<=1000000000000))))<|trivial)
  exact bO qhY call131 func131 (c:=qip) rfl (aI trivial trivial) z<|by kernel_rfl
 ·obtain rfl:=lf h
  have z:=sg 3 c1<|en (aI (rP (.bool false))<|trivial)
  exact bO qhY call131 func131 (c:=qip) rfl (aI trivial trivial) z<|by kernel_rfl
noncomputable def YG:Code:=f132.body.getD .skip
def Yz:List Nat:=[]
def BJ(p:aa):Option Bool:=
 if(p.Op==3)=true then
  if(p.Name==([118]:af))=true then
   some true
  else
   (ug p.Name).bind fun r5=>
   some (r5==0)
 else
  if (p.Op == 4) = true then
   if(p.Name==([116,97,103]:af))=true then
    some true
   else
    if(p.Name==([118,97,108]:af))=true then
     some true
    else
     (ug p.Name).bind fun r12=>
     some (r12==0)
  else
   if(p.Op==5)=true then
    (ug p.Name).bind fun r15=>
    some (r15==0)
   else
    some true
theorem RR{p:aa}{r:Bool}(h:BJ p=some r):CC Pg GE 132 [.agg (ac p)] (.bool r) []:=by
 have p2:=fun{sc F} (r:PS sc F)=>se (bU p)<|sv (bE p)<|sv (bF p)<|r
 rcases bj h with⟨c1,h⟩|⟨c1,h⟩
 ·have p4:=fun{sc F} (r:PS sc F)=>p2<|sg 0 c1<|sv (cw p)<|sv (cR p)<|r
  rcases bj h with⟨c3,h⟩|⟨c3,h⟩
  ·obtain rfl:=lf h
   have z:=p4<|sg 4 c3<|en (aI (rP (.bool true))<|trivial)
   exact bO Yz call132 func132 (c:=YG) rfl (aI (ah p) trivial) z<|by kernel_rfl
  ·obtain⟨r5,br5,h⟩:=ay h
   obtain rfl:=lf h
   have z:=p4<|sg 4 c3<|sv (cw p)<|sv (cR p)<|bz (uh br5)<|en (aI (rP (.bool (r5==0)))<|trivial)
   exact bO Yz call132 func132 (c:=YG) rfl (aI (ah p) trivial) z<|by kernel_rfl
 ·have p7:=fun{sc F} (r:PS sc F)=>p2<|sg 0 c1<|r
  rcases bj h with⟨c6,h⟩|⟨c6,h⟩
  ·have p9:=fun{sc F} (r:PS sc F)=>p7<|sg 0 c6<|sv (cw p)<|sv (cR p)<|r
   rcases bj h with⟨c8,h⟩|⟨c8,h⟩
   ·obtain rfl:=lf h
    have z:=p9<|sg 4 c8<|en (aI (rP (.bool true))<|trivial)
    exact bO Yz call132 func132 (c:=YG) rfl (aI (ah p) trivial) z<|by kernel_rfl
   ·have p11:=fun{sc F} (r:PS sc F)=>p9<|sg 4 c8<|sv (cw p)<|sv (cR p)<|r
    rcases bj h with⟨c10,h⟩|⟨c10,h⟩
    ·obtain rfl:=lf h
     have z:=p11<|sg 9 c10<|en (aI (rP (.bool true))<|trivial)
     exact bO Yz call132 func132 (c:=YG) rfl (aI (ah p) trivial) z<|by kernel_rfl
    ·obtain⟨r12,br12,h⟩:=ay h
     obtain rfl:=lf h
     have z:=p11<|sg 9 c10<|sv (cw p)<|sv (cR p)<|bz (uh br12)<|en (aI (rP (.bool (r12==0)))<|trivial)
     exact bO Yz call132 func132 (c:=YG) rfl (aI (ah p) trivial) z<|by kernel_rfl
  ·have p14:=fun{sc F} (r:PS sc F)=>p7<|sg 0 c6<|r
   rcases bj h with⟨c13,h⟩|⟨c13,h⟩
   ·obtain⟨r15,br15,h⟩:=ay h
    obtain rfl:=lf h
    have z:=p14<|sg 0 c13<|sv (cw p)<|sv (cR p)<|bz (uh br15)<|en (aI (rP (.bool (r15==0)))<|trivial)
    exact bO Yz call132 func132 (c:=YG) rfl (aI (ah p) trivial) z<|by kernel_rfl
   ·obtain rfl:=lf h
    have z:=p14<|sg 0 c13<|en (aI (rP (.bool true))<|trivial)
    exact bO Yz call132 func132 (c:=YG) rfl (aI (ah p) trivial) z<|by kernel_rfl
noncomputable def U5:Code:=f117.body.getD .skip
def uR:List Nat:=[]
section
variable(p:aa)
def RV:aC:=be 87 [(1,.eptr (ac p))] [.dead] []
def zE(o:Bool):aC:=be 87 [(1,.eptr (ac p)),(3,.bool o)] [.dead] []
def D9:Option Bool:=
 if(p.Op==1)=true then
  some true
 else
  some (p.Op==2)
theorem Pb{x:Bool}(h:D9 p=some x):aV Pg GE 0 (cA U5 6) (EX .normal (zE p x)) (RV p):=by
 have p2:=fun{sc F} (r:PS sc F)=>sv (bE p)<|sv (bF p)<|r
 rcases bj h with⟨c1,h⟩|⟨c1,h⟩
 ·obtain rfl:=lf h
  exact cf uR (p2<|sg 4 c1<|eF .normal (zE p true))<|by kernel_rfl
 ·obtain rfl:=lf h
  exact cf uR (p2<|sg 4 c1<|sv (bE p)<|sv (bF p)<|eF .normal (zE p (p.Op==2)))<|by kernel_rfl
end
section
variable(p:aa)(number:Bool)
def RW:aC:=be 87 [(1,.eptr (ac p)),(3,.bool number)] [.dead] []
def eU(o:Bool):aC:=be 87 [(1,.eptr (ac p)),(48,.bool o)] [.dead] []
def Ea:Option Bool:=
 if(decide (p.Op<1))=true then
  some true
 else
  if(decide (p.Op>18))=true then
   some true
  else
   if (!(p.Name == ([]:af))) = true then
    (F3 p.Op).bind fun r10=>
    if(!r10)=true then
     some true
    else
     if(p.N !=0)=true then
      if(!number)=true then
       some true
      else
       (qX p.Op (p.Kids.length:Int)).bind fun r17=>
       some (!r17)
     else
      (qX p.Op (p.Kids.length:Int)).bind fun r18=>
      some (!r18)
   else
    if(p.N !=0)=true then
     if(!number)=true then
      some true
     else
      (qX p.Op (p.Kids.length:Int)).bind fun r23=>
      some (!r23)
    else
     (qX p.Op (p.Kids.length:Int)).bind fun r24=>
     some (!r24)
theorem Pc{x:Bool}(h:Ea p number=some x):aV Pg GE 0 (cA U5 28) (EX .normal (eU p x)) (RW p number):=by
 have p5:=fun{sc F} (r:PS sc F)=>sv (bE p)<|sv (bF p)<|r
 rcases bj h with⟨c4,h⟩|⟨c4,h⟩
 ·obtain rfl:=lf h
  exact cf uR (p5<|sg 4 c4<|eF .normal (eU p true))<|by kernel_rfl
 ·have p7:=fun{sc F} (r:PS sc F)=>p5<|sg 4 c4<|sv (bE p)<|sv (bF p)<|r
  rcases bj h with⟨c6,h⟩|⟨c6,h⟩
  ·obtain rfl:=lf h
   exact cf uR (p7<|sg 9 c6<|eF .normal (eU p true))<|by kernel_rfl
  ·have p9:=fun{sc F} (r:PS sc F)=>p7<|sg 9 c6<|sv (cw p)<|sv (cR p)<|r
   rcases bj h with⟨c8,h⟩|⟨c8,h⟩
   ·obtain⟨r10,br10,h⟩:=ay h
    have p12:=fun{sc F} (r:PS sc F)=>p9<|sg 13 c8<|sv (bE p)<|sv (bF p)<|bz (UI br10)<|r
    rcases bj h with⟨c11,h⟩|⟨c11,h⟩
    ·obtain rfl:=lf h
     exact cf uR (p12<|sg 20 c11<|eF .normal (eU p true))<|by kernel_rfl
    ·have p14:=fun{sc F} (r:PS sc F)=>p12<|sg 20 c11<|sv (dG p)<|sv (dX p)<|r
     rcases bj h with⟨c13,h⟩|⟨c13,h⟩
     ·have p16:=fun{sc F} (r:PS sc F)=>p14<|sg 24 c13<|r
      rcases bj h with⟨c15,h⟩|⟨c15,h⟩
      ·obtain rfl:=lf h
       exact cf uR (p16<|sg 29 c15<|eF .normal (eU p true))<|by kernel_rfl
      ·obtain⟨r17,br17,h⟩:=ay h
       obtain rfl:=lf h
       exact cf uR (p16<|sg 29 c15<|sv (bE p)<|sv (bF p)<|sv (bC p)<|sv (bD p)<|cq (bL.ln p.Kids)<|bz (yO br17)<|eF .normal (eU p (!r17)))<|by kernel_rfl
     ·obtain⟨r18,br18,h⟩:=ay h
      obtain rfl:=lf h
      exact cf uR (p14<|sg 24 c13<|sv (bE p)<|sv (bF p)<|sv (bC p)<|sv (bD p)<|cq (bL.ln p.Kids)<|bz (yO br18)<|eF .normal (eU p (!r18)))<|by kernel_rfl
   ·have p20:=fun{sc F} (r:PS sc F)=>p9<|sg 13 c8<|sv (dG p)<|sv (dX p)<|r
    rcases bj h with⟨c19,h⟩|⟨c19,h⟩
    ·have p22:=fun{sc F} (r:PS sc F)=>p20<|sg 24 c19<|r
     rcases bj h with⟨c21,h⟩|⟨c21,h⟩
     ·obtain rfl:=lf h
      exact cf uR (p22<|sg 29 c21<|eF .normal (eU p true))<|by kernel_rfl
     ·obtain⟨r23,br23,h⟩:=ay h
      obtain rfl:=lf h
      exact cf uR (p22<|sg 29 c21<|sv (bE p)<|sv (bF p)<|sv (bC p)<|sv (bD p)<|cq (bL.ln p.Kids)<|bz (yO br23)<|eF .normal (eU p (!r23)))<|by kernel_rfl
    ·obtain⟨r24,br24,h⟩:=ay h
     obtain rfl:=lf h
     exact cf uR (p20<|sg 24 c19<|sv (bE p)<|sv (bF p)<|sv (bC p)<|sv (bD p)<|cq (bL.ln p.Kids)<|bz (yO br24)<|eF .normal (eU p (!r24)))<|by kernel_rfl
end
section
variable(p:aa)
def RX:aC:=be 87 [(1,.eptr (ac p))] [.dead] []
def gY(o:Bool):aC:=be 87 [(1,.eptr (ac p)),(72,.bool o)] [.dead] []
def Eb:Option Bool:=
 if (p.Op == 1) = true then
  (Uw p.N).bind fun r30=>
  if(!r30)=true then
   some true
  else
   if(p.Op==2)=true then
    if(decide (p.N<0))=true then
     some true
    else
     some (decide (p.N>1))
   else
    some false
 else
  if(p.Op==2)=true then
   if(decide (p.N<0))=true then
    some true
   else
    some (decide (p.N>1))
  else
   some false
theorem Pd{x:Bool}(h:Eb p=some x):aV Pg GE 0 (cA U5 60) (EX .normal (gY p x)) (RX p):=by
 have p29:=fun{sc F} (r:PS sc F)=>sv (bE p)<|sv (bF p)<|r
 rcases bj h with⟨c28,h⟩|⟨c28,h⟩
 ·obtain⟨r30,br30,h⟩:=ay h
  have p32:=fun{sc F} (r:PS sc F)=>p29<|sg 4 c28<|sv (dG p)<|sv (dX p)<|bz (qaV br30)<|r
  rcases bj h with⟨c31,h⟩|⟨c31,h⟩
  ·obtain rfl:=lf h
   exact cf uR (p32<|sg 10 c31<|eF .normal (gY p true))<|by kernel_rfl
  ·have p34:=fun{sc F} (r:PS sc F)=>p32<|sg 10 c31<|sv (bE p)<|sv (bF p)<|r
   rcases bj h with⟨c33,h⟩|⟨c33,h⟩
   ·have p36:=fun{sc F} (r:PS sc F)=>p34<|sg 14 c33<|sv (dG p)<|sv (dX p)<|r
    rcases bj h with⟨c35,h⟩|⟨c35,h⟩
    ·obtain rfl:=lf h
     exact cf uR (p36<|sg 18 c35<|eF .normal (gY p true))<|by kernel_rfl
    ·obtain rfl:=lf h
     exact cf uR (p36<|sg 18 c35<|sv (dG p)<|sv (dX p)<|eF .normal (gY p (decide (p.N>1))))<|by kernel_rfl
   ·obtain rfl:=lf h
    exact cf uR (p34<|sg 14 c33<|eF .normal (gY p false))<|by kernel_rfl
 ·have p38:=fun{sc F} (r:PS sc F)=>p29<|sg 4 c28<|sv (bE p)<|sv (bF p)<|r
  rcases bj h with⟨c37,h⟩|⟨c37,h⟩
  ·have p40:=fun{sc F} (r:PS sc F)=>p38<|sg 14 c37<|sv (dG p)<|sv (dX p)<|r
   rcases bj h with⟨c39,h⟩|⟨c39,h⟩
   ·obtain rfl:=lf h
    exact cf uR (p40<|sg 18 c39<|eF .normal (gY p true))<|by kernel_rfl
   ·obtain rfl:=lf h
    exact cf uR (p40<|sg 18 c39<|sv (dG p)<|sv (dX p)<|eF .normal (gY p (decide (p.N>1))))<|by kernel_rfl
  ·obtain rfl:=lf h
   exact cf uR (p38<|sg 14 c37<|eF .normal (gY p false))<|by kernel_rfl
end
section
variable(p:aa)
def RY:aC:=be 87 [(1,.eptr (ac p))] [.dead] []
def zF(o:Bool):aC:=be 87 [(86,.bool o)] [.dead] []
def Ec:Option Bool:=
 if(p.Op==8)=true then
  (cz p.Kids 0).bind fun x49=>
  some (x49.Op !=1)
 else
  some false
theorem Pe{x:Bool}(h:Ec p=some x):aV Pg GE 0 (cA U5 252) (EX .normal (zF x)) (RY p):=by
 have p48:=fun{sc F} (r:PS sc F)=>sv (bE p)<|sv (bF p)<|r
 rcases bj h with⟨c47,h⟩|⟨c47,h⟩
 ·obtain⟨x49,bx49,h⟩:=ay h
  obtain rfl:=lf h
  exact cf uR (p48<|sg 4 c47<|sv (bC p)<|sv (bD p)<|sv (bL.ia (k:=.i64) bx49)<|sv (bE x49)<|sv (bF x49)<|eF .normal (zF (x49.Op !=1)))<|by kernel_rfl
 ·obtain rfl:=lf h
  exact cf uR (p48<|sg 4 c47<|eF .normal (zF false))<|by kernel_rfl
end
def Jl(p:aa):Option Int:=
 (D9 p).bind fun o3=>
 (Ea p o3).bind fun o25=>
 if o25=true then
  some 1
 else
  (Eb p).bind fun o41=>
  if o41=true then
   some 2
  else
   (BJ p).bind fun r44=>
   if(!r44)=true then
    some 3
   else
    (Ec p).bind fun o50=>
    if o50=true then
     some 6
    else
     some 0
theorem WF{p:aa}{r:Int}(h:Jl p=some r):CC Pg GE 117 [.agg (ac p)] (.int .i64 r) []:=by
 obtain⟨o3,bo3,h⟩:=ay h
 obtain⟨o25,bo25,h⟩:=ay h
 have p27:=fun{sc F} (r:PS sc F)=>se (bU p)<|ka 0<|cY (Pb p bo3)<|ka 1<|cY (Pc p o3 bo25)<|r
 rcases bj h with⟨c26,h⟩|⟨c26,h⟩
 ·obtain rfl:=lf h
  have z:=p27<|sg 0 c26<|en (aI (rP (.int .i64 1))<|trivial)
  exact bO uR call117 func117 (c:=U5) rfl (aI (ah p) trivial) z<|by kernel_rfl
 ·obtain⟨o41,bo41,h⟩:=ay h
  have p43:=fun{sc F} (r:PS sc F)=>p27<|sg 0 c26<|ka 1<|cY (Pd p bo41)<|r
  rcases bj h with⟨c42,h⟩|⟨c42,h⟩
  ·obtain rfl:=lf h
   have z:=p43<|sg 0 c42<|en (aI (rP (.int .i64 2))<|trivial)
   exact bO uR call117 func117 (c:=U5) rfl (aI (ah p) trivial) z<|by kernel_rfl
  ·obtain⟨r44,br44,h⟩:=ay h
   have p46:=fun{sc F} (r:PS sc F)=>p43<|sg 0 c42<|sv (bh p)<|bz (RR br44)<|r
   rcases bj h with⟨c45,h⟩|⟨c45,h⟩
   ·obtain rfl:=lf h
    have z:=p46<|sg 0 c45<|en (aI (rP (.int .i64 3))<|trivial)
    exact bO uR call117 func117 (c:=U5) rfl (aI (ah p) trivial) z<|by kernel_rfl
   ·obtain⟨o50,bo50,h⟩:=ay h
    have p52:=fun{sc F} (r:PS sc F)=>p46<|sg 0 c45<|ka 1<|cY (Pe p bo50)<|r
    rcases bj h with⟨c51,h⟩|⟨c51,h⟩
    ·obtain rfl:=lf h
     have z:=p52<|sg 0 c51<|en (aI (rP (.int .i64 6))<|trivial)
     exact bO uR call117 func117 (c:=U5) rfl (aI (ah p) trivial) z<|by kernel_rfl
    ·obtain rfl:=lf h
     have z:=p52<|sg 0 c51<|en (aI (rP (.int .i64 0))<|trivial)
     exact bO uR call117 func117 (c:=U5) rfl (aI (ah p) trivial) z<|by kernel_rfl
noncomputable def qcJ:Code:=f107.body.getD .skip
def qaM:List Nat:=[11,23]
section
variable(R39:Cg)(t13:waB)(t14:Int)(t15:Int)
def oJ:aC:=be 25 [(13,sl ac t13),(14,.int .i64 t14),(15,.int .i64 t15)] [.dead] []
def oK(o:Int⊕(Unit)):Exit:=match o with
 |(.inl _)=>.ret
 |(.inr _)=>.exit 0
def lm(o:Int⊕(Unit)):aC:=match o with
 |(.inl o)=>be 25 [(2,.int .i64 o)] [.dead] []
 |(.inr o)=>be 25 [] [.dead] []
def Ha:Option (Int⊕(Int⊕(Unit))):=
 if(decide (t15<t14))=true then
  (cz t13 t15).bind fun x5=>
  (R39 x5).bind fun r6=>
  if(r6 !=0)=true then
   some (.inr (.inl r6))
  else
   some (.inl (aS (t15+1)))
 else
  some (.inr (.inr ()))
def D7:Option (Int⊕(Unit)):=loop (fun(zz:Int)=>Ha R39 t13 t14 zz) t15
theorem Nn(hR39:HK R39){y:Int⊕(Int⊕(Unit))}(h:Ha R39 t13 t14 t15=some y):aV Pg GE 0 (cA qcJ 119) (LQ (fun(zz:Int)=>oJ t13 t14 zz) oK lm y) (oJ t13 t14 t15):=by
 rcases bj h with⟨c4,h⟩|⟨c4,h⟩
 ·obtain⟨x5,bx5,h⟩:=ay h
  obtain⟨r6,br6,h⟩:=ay h
  have p8:=fun{sc F} (r:PS sc F)=>sg 0 c4<|sv (bL.ia (k:=.i64) bx5)<|sv (bh x5)<|sx ib<|sx (cr x5)<|sv (bX x5 [])<|bz (hR39 _ _ br6)<|r
  rcases bj h with⟨c7,h⟩|⟨c7,h⟩
  ·obtain rfl:=lf h
   have z:=p8<|sg 0 c7<|uP 0 (oK (.inl r6)) (lm (.inl r6)) rfl (dF (aI trivial trivial)) (aI trivial trivial)
   exact IN (A:=qaM) mixed (by intro hx;cases hx) z<|by kernel_rfl
  ·obtain rfl:=lf h
   have z:=p8<|sg 0 c7<|uP 0 .normal (oJ t13 t14 (aS (t15+1))) rfl (dF (aI (up (aj ah t13)) (aI trivial (aI trivial trivial)))) (aI trivial trivial)
   exact dh (A:=qaM) mixed z<|by kernel_rfl
 ·obtain rfl:=lf h
  have z:=sg 0 c4<|eF (oK (.inr ())) (lm (.inr ()))
  exact gg qaM (by intro hx;cases hx) z<|by kernel_rfl
theorem D8(hR39:HK R39){x:Int⊕(Unit)}(h:D7 R39 t13 t14 t15=some x):aV Pg GE 0 (.loop (cA qcJ 119)) (EX (oK x) (lm x)) (oJ t13 t14 t15):=
 aV.loop (S:=fun(zz:Int)=>oJ t13 t14 zz) (ex:=oK) (s:=t15) h fun zz y hy=>Nn R39 t13 t14 zz hR39 hy
end
def BK(R39:Cg)(p:aa):Option Int:=
 (Jl p).bind fun r1=>
 if(r1 !=0)=true then
  some r1
 else
  (D7 R39 p.Kids (p.Kids.length:Int) 0).bind fun o9=>match o9 with
  |(.inl o9)=>
   some o9
  |(.inr o9)=>
   some 0
theorem UH(R39:Cg)(hR39:HK R39){p:aa}{r:Int}(h:BK R39 p=some r):CC Pg GE 107 [.agg (ac p)] (.int .i64 r) []:=by
 obtain⟨r1,br1,h⟩:=ay h
 have p3:=fun{sc F} (r:PS sc F)=>se (bU p)<|sv (bh p)<|bz (WF br1)<|r
 rcases bj h with⟨c2,h⟩|⟨c2,h⟩
 ·obtain rfl:=lf h
  have z:=p3<|sg 0 c2<|en (aI (rP (.int .i64 r1))<|trivial)
  exact bO qaM call107 func107 (c:=qcJ) rfl (aI (ah p) trivial) z<|by kernel_rfl
 ·obtain⟨o9,bo9,h⟩:=ay h
  rcases o9 with o9|o9
  ·obtain rfl:=lf h
   have z:=p3<|sg 0 c2<|sv (bC p)<|sv (bD p)<|cq (bL.ln p.Kids)<|cY (e:=.ret) (s1:=lm (.inl o9)) (D8 R39 p.Kids (p.Kids.length:Int) 0 hR39 bo9)<|en (aI (rP (.int .i64 o9))<|trivial)
   exact bO qaM call107 func107 (c:=qcJ) rfl (aI (ah p) trivial) z<|by kernel_rfl
  ·obtain rfl:=lf h
   have z:=p3<|sg 0 c2<|sv (bC p)<|sv (bD p)<|cq (bL.ln p.Kids)<|cY (e:=.exit 0) (s1:=lm (.inr o9)) (D8 R39 p.Kids (p.Kids.length:Int) 0 hR39 bo9)<|en (aI (rP (.int .i64 0))<|trivial)
   exact bO qaM call107 func107 (c:=qcJ) rfl (aI (ah p) trivial) z<|by kernel_rfl
def HX:(aa->Option Int)->(aa)->Option Int:=fun(rec:aa->Option Int) (x:aa)=>BK (fun p=>rec p) x
def O7(p:aa):Option Int:=kK HX p
theorem WE{p:aa}{r:Int}(h:O7 p=some r):CC Pg GE 107 [.agg (ac p)] (.int .i64 r) []:=
 cG (F:=HX) (M:=fun(x:aa) (r:Int)=>CC Pg GE 107 [.agg (ac x)] (.int .i64 r) []) (fun rec hrec x r h=>UH _ (fun p r h=>hrec p r h) h) h
noncomputable def qkt:Code:=f89.body.getD .skip
def qj5:List Nat:=[]
def F2(p:aa):Option Int:=
 (Lh p).bind fun r1=>
 if(decide (r1>400))=true then
  some 7
 else
  (Lf p).bind fun r4=>
  if(decide (r4>40))=true then
   some 8
  else
   (O7 p).bind fun r7=>
   some r7
theorem UC{p:aa}{r:Int}(h:F2 p=some r):CC Pg GE 89 [.agg (ac p)] (.int .i64 r) []:=by
 obtain⟨r1,br1,h⟩:=ay h
 have p3:=fun{sc F} (r:PS sc F)=>se (bU p)<|sv (bh p)<|bz (UF br1)<|r
 rcases bj h with⟨c2,h⟩|⟨c2,h⟩
 ·obtain rfl:=lf h
  have z:=p3<|sg 0 c2<|en (aI (rP (.int .i64 7))<|trivial)
  exact bO qj5 call89 func89 (c:=qkt) rfl (aI (ah p) trivial) z<|by kernel_rfl
 ·obtain⟨r4,br4,h⟩:=ay h
  have p6:=fun{sc F} (r:PS sc F)=>p3<|sg 0 c2<|sv (bh p)<|bz (UD br4)<|r
  rcases bj h with⟨c5,h⟩|⟨c5,h⟩
  ·obtain rfl:=lf h
   have z:=p6<|sg 0 c5<|en (aI (rP (.int .i64 8))<|trivial)
   exact bO qj5 call89 func89 (c:=qkt) rfl (aI (ah p) trivial) z<|by kernel_rfl
  ·obtain⟨r7,br7,h⟩:=ay h
   obtain rfl:=lf h
   have z:=p6<|sg 0 c5<|sv (bh p)<|bz (WE br7)<|en (aI (rP (.int .i64 r7))<|trivial)
   exact bO qj5 call89 func89 (c:=qkt) rfl (aI (ah p) trivial) z<|by kernel_rfl
noncomputable def qcL:Code:=f62.body.getD .skip
def Wr:List Nat:=[63]
section
variable(t:ae)
def Sm:aC:=be 65 [(1,.eptr (ag t))] [.dead] []
def ly(o:Bool):aC:=be 65 [(1,.eptr (ag t)),(27,.bool o)] [.dead] []
def EN:Option Bool:=
 if (t.Op == 6) = true then
  (AF t.Pred).bind fun r3=>
  if(!r3)=true then
   some true
  else
   if(t.Op !=4)=true then
    some (decide ((t.Preds.length:Int)>0))
   else
    some false
 else
  if(t.Op !=4)=true then
   some (decide ((t.Preds.length:Int)>0))
  else
   some false
theorem PO{x:Bool}(h:EN t=some x):aV Pg GE 0 (cA qcL 12) (EX .normal (ly t x)) (Sm t):=by
 have p2:=fun{sc F} (r:PS sc F)=>sv (aD t)<|sv (aE t)<|r
 rcases bj h with⟨c1,h⟩|⟨c1,h⟩
 ·obtain⟨r3,br3,h⟩:=ay h
  have p5:=fun{sc F} (r:PS sc F)=>p2<|sg 4 c1<|sv (dH t)<|sv (dI t)<|bz (EU br3)<|r
  rcases bj h with⟨c4,h⟩|⟨c4,h⟩
  ·obtain rfl:=lf h
   exact cf Wr (p5<|sg 10 c4<|eF .normal (ly t true))<|by kernel_rfl
  ·have p7:=fun{sc F} (r:PS sc F)=>p5<|sg 10 c4<|sv (aD t)<|sv (aE t)<|r
   rcases bj h with⟨c6,h⟩|⟨c6,h⟩
   ·obtain rfl:=lf h
    exact cf Wr (p7<|sg 14 c6<|sv (du t)<|sv (dv t)<|cq (bL.ln t.Preds)<|eF .normal (ly t (decide ((t.Preds.length:Int)>0))))<|by kernel_rfl
   ·obtain rfl:=lf h
    exact cf Wr (p7<|sg 14 c6<|eF .normal (ly t false))<|by kernel_rfl
 ·have p9:=fun{sc F} (r:PS sc F)=>p2<|sg 4 c1<|sv (aD t)<|sv (aE t)<|r
  rcases bj h with⟨c8,h⟩|⟨c8,h⟩
  ·obtain rfl:=lf h
   exact cf Wr (p9<|sg 14 c8<|sv (du t)<|sv (dv t)<|cq (bL.ln t.Preds)<|eF .normal (ly t (decide ((t.Preds.length:Int)>0))))<|by kernel_rfl
  ·obtain rfl:=lf h
   exact cf Wr (p9<|sg 14 c8<|eF .normal (ly t false))<|by kernel_rfl
end
section
variable(t:ae)(t29:waA)(t30:Int)(t31:Int)
def oZ:aC:=be 65 [(1,.eptr (ag t)),(29,sl cS t29),(30,.int .i64 t30),(31,.int .i64 t31)] [.dead] []
def o0(o:Unit⊕(Unit)):Exit:=match o with
 |(.inl _)=>.ret
 |(.inr _)=>.exit 0
def lz(o:Unit⊕(Unit)):aC:=match o with
 |(.inl o)=>be 65 [(2,.int .i64 3)] [.dead] []
 |(.inr o)=>be 65 [(1,.eptr (ag t))] [.dead] []
def Hj:Option (Int⊕(Unit⊕(Unit))):=
 if(decide (t31<t30))=true then
  (cz t29 t31).bind fun x14=>
  (sK x14).bind fun r15=>
  if(r15 !=0)=true then
   some (.inr (.inl ()))
  else
   some (.inl (aS (t31+1)))
 else
  some (.inr (.inr ()))
def EP:Option (Unit⊕(Unit)):=loop (fun(zz:Int)=>Hj t29 t30 zz) t31
theorem N2{y:Int⊕(Unit⊕(Unit))}(h:Hj t29 t30 t31=some y):aV Pg GE 0 (cA qcL 119) (LQ (fun(zz:Int)=>oZ t t29 t30 zz) o0 (lz t) y) (oZ t t29 t30 t31):=by
 rcases bj h with⟨c13,h⟩|⟨c13,h⟩
 ·obtain⟨x14,bx14,h⟩:=ay h
  obtain⟨r15,br15,h⟩:=ay h
  have p17:=fun{sc F} (r:PS sc F)=>sg 0 c13<|sv (bq.ia (k:=.i64) bx14)<|sv (dB Bg (.str x14) [])<|bz (Jd br15)<|r
  rcases bj h with⟨c16,h⟩|⟨c16,h⟩
  ·obtain rfl:=lf h
   have z:=p17<|sg 0 c16<|eF (o0 (.inl ())) (lz t (.inl ()))
   exact gg Wr (by intro hx;cases hx) z<|by kernel_rfl
  ·obtain rfl:=lf h
   exact oo Wr (p17<|sg 0 c16<|eF .normal (oZ t t29 t30 (aS (t31+1))))<|by kernel_rfl
 ·obtain rfl:=lf h
  have z:=sg 0 c13<|eF (o0 (.inr ())) (lz t (.inr ()))
  exact gg Wr (by intro hx;cases hx) z<|by kernel_rfl
theorem EQ{x:Unit⊕(Unit)}(h:EP t29 t30 t31=some x):aV Pg GE 0 (.loop (cA qcL 119)) (EX (o0 x) (lz t x)) (oZ t t29 t30 t31):=
 aV.loop (S:=fun(zz:Int)=>oZ t t29 t30 zz) (ex:=o0) (s:=t31) h fun zz y hy=>N2 t t29 t30 zz hy
end
section
variable(e:Int)(t48:waB)(t49:Int)(t50:Int)(m:Int)(m2:af)(m3:Int)(m4:waB)
def Sn:aC:=be 65 [(6,.bptr 1 0),(7,.int .i64 e),(48,sl ac t48),(49,.int .i64 t49),(50,.int .i64 t50)] [.dead,.cells [.int .i64 m,.str m2,.int .i64 m3,sl ac m4] []] [((48,0),36)]
def zY(o:Bool):aC:=be 65 [(7,.int .i64 e),(48,sl ac t48),(49,.int .i64 t49),(50,.int .i64 t50),(62,.bool o)] [.dead,.cells [.int .i64 m,.str m2,.int .i64 m3,sl ac m4] []] [((48,0),36)]
def EO:Option Bool:=
 (AF (⟨m,m2,m3,m4⟩:aa)).bind fun r26=>
 if(!r26)=true then
  some (e !=0)
 else
  some false
theorem PP{x:Bool}(h:EO e m m2 m3 m4=some x):aV Pg GE 0 (cA qcL 64494) (EX .normal (zY e t48 t49 t50 m m2 m3 m4 x)) (Sn e t48 t49 t50 m m2 m3 m4):=by
 obtain⟨r26,br26,h⟩:=ay h
 have p28:=fun{sc F} (r:PS sc F)=>sv (bX (⟨m,m2,m3,m4⟩:aa) [])<|bz (EU br26)<|r
 rcases bj h with⟨c27,h⟩|⟨c27,h⟩
 ·obtain rfl:=lf h
  exact cf Wr (p28<|sg 4 c27<|eF .normal (zY e t48 t49 t50 m m2 m3 m4 (e !=0)))<|by kernel_rfl
 ·obtain rfl:=lf h
  exact cf Wr (p28<|sg 4 c27<|eF .normal (zY e t48 t49 t50 m m2 m3 m4 false))<|by kernel_rfl
end
section
variable(t48:waB)(t49:Int)(t50:Int)
def pd:aC:=be 65 [(48,sl ac t48),(49,.int .i64 t49),(50,.int .i64 t50)] [.dead] [((48,0),36)]
def pe(o:Int⊕(Unit)):Exit:=match o with
 |(.inl _)=>.ret
 |(.inr _)=>.exit 2
def lB(o:Int⊕(Unit)):aC:=match o with
 |(.inl o)=>be 65 [(2,.int .i64 o)] [.dead] []
 |(.inr o)=>be 65 [] [.dead] []
def Hk:Option (Int⊕(Int⊕(Unit))):=
 if(decide (t50<t49))=true then
  (cz t48 t50).bind fun x24=>
  (F2 x24).bind fun r25=>
  (EO r25 x24.Op x24.Name x24.N x24.Kids).bind fun o29=>
  if o29=true then
   some (.inr (.inl r25))
  else
   some (.inl (aS (t50+1)))
 else
  some (.inr (.inr ()))
def ER:Option (Int⊕(Unit)):=loop (fun(zz:Int)=>Hk t48 t49 zz) t50
theorem N3{y:Int⊕(Int⊕(Unit))}(h:Hk t48 t49 t50=some y):aV Pg GE 0 (cA qcL 503) (LQ (fun(zz:Int)=>pd t48 t49 zz) pe lB y) (pd t48 t49 t50):=by
 rcases bj h with⟨c23,h⟩|⟨c23,h⟩
 ·obtain⟨x24,bx24,h⟩:=ay h
  obtain⟨r25,br25,h⟩:=ay h
  obtain⟨o29,bo29,h⟩:=ay h
  have p31:=fun{sc F} (r:PS sc F)=>sg 0 c23<|sv (bL.ia (k:=.i64) bx24)<|sv (bh x24)<|sx ib<|sx (cr x24)<|sv (bX x24 [])<|bz (UC br25)<|ka 0<|cY (PP r25 t48 t49 t50 x24.Op x24.Name x24.N x24.Kids bo29)<|r
  rcases bj h with⟨c30,h⟩|⟨c30,h⟩
  ·obtain rfl:=lf h
   have z:=p31<|sg 0 c30<|uP 0 (pe (.inl r25)) (lB (.inl r25)) rfl (dF (aI trivial trivial)) (aI trivial trivial)
   exact IN (A:=Wr) mixed (by intro hx;cases hx) z<|by kernel_rfl
  ·obtain rfl:=lf h
   have z:=p31<|sg 0 c30<|uP 0 .normal (pd t48 t49 (aS (t50+1))) rfl (dF (aI (up (aj ah t48)) (aI trivial (aI trivial trivial)))) (aI trivial trivial)
   exact dh (A:=Wr) mixed z<|by kernel_rfl
 ·obtain rfl:=lf h
  have z:=sg 0 c23<|eF (pe (.inr ())) (lB (.inr ()))
  exact gg Wr (by intro hx;cases hx) z<|by kernel_rfl
theorem ES{x:Int⊕(Unit)}(h:ER t48 t49 t50=some x):aV Pg GE 0 (.loop (cA qcL 503)) (EX (pe x) (lB x)) (pd t48 t49 t50):=
 aV.loop (S:=fun(zz:Int)=>pd t48 t49 zz) (ex:=pe) (s:=t50) h fun zz y hy=>N3 t48 t49 zz hy
end
def JC(t:ae):Option Int:=
 (EN t).bind fun o10=>
 if o10=true then
  some 1
 else
  (EP t.Names (t.Names.length:Int) 0).bind fun o18=>match o18 with
  |(.inl o18)=>
   some 3
  | (.inr o18) =>
   (vW t.Names).bind fun r19=>
   if(!r19)=true then
    some 4
   else
    (app ([t.Pred]:List aa) t.Preds).bind fun l22=>
    (ER l22 (l22.length:Int) 0).bind fun o32=>match o32 with
    |(.inl o32)=>
     some o32
    |(.inr o32)=>
     some 0
theorem WR{t:ae}{r:Int}(h:JC t=some r):CC Pg GE 62 [.agg (ag t)] (.int .i64 r) []:=by
 obtain⟨o10,bo10,h⟩:=ay h
 have p12:=fun{sc F} (r:PS sc F)=>se (bw t)<|ka 1<|cY (PO t bo10)<|r
 rcases bj h with⟨c11,h⟩|⟨c11,h⟩
 ·obtain rfl:=lf h
  have z:=p12<|sg 0 c11<|en (aI (rP (.int .i64 1))<|trivial)
  exact bO Wr call62 func62 (c:=qcL) rfl (aI (ak t) trivial) z<|by kernel_rfl
 ·obtain⟨o18,bo18,h⟩:=ay h
  rcases o18 with o18|o18
  ·obtain rfl:=lf h
   have z:=p12<|sg 0 c11<|sv (aQ t)<|sv (aR t)<|cq (bq.ln t.Names)<|cY (e:=.ret) (s1:=lz t (.inl o18)) (EQ t t.Names (t.Names.length:Int) 0 bo18)<|en (aI (rP (.int .i64 3))<|trivial)
   exact bO Wr call62 func62 (c:=qcL) rfl (aI (ak t) trivial) z<|by kernel_rfl
  ·obtain⟨r19,br19,h⟩:=ay h
   have p21:=fun{sc F} (r:PS sc F)=>p12<|sg 0 c11<|sv (aQ t)<|sv (aR t)<|cq (bq.ln t.Names)<|cY (e:=.exit 0) (s1:=lz t (.inr o18)) (EQ t t.Names (t.Names.length:Int) 0 bo18)<|sv (aQ t)<|sv (aR t)<|bz (M8 br19)<|r
   rcases bj h with⟨c20,h⟩|⟨c20,h⟩
   ·obtain rfl:=lf h
    have z:=p21<|sg 0 c20<|en (aI (rP (.int .i64 4))<|trivial)
    exact bO Wr call62 func62 (c:=qcL) rfl (aI (ak t) trivial) z<|by kernel_rfl
   ·obtain⟨l22,bl22,h⟩:=ay h
    obtain⟨o32,bo32,h⟩:=ay h
    rcases o32 with o32|o32
    ·obtain rfl:=lf h
     have z:=p21<|sg 0 c20<|sv (dH t)<|sv (dI t)<|sv (bL.mk' (v:=dZ) cP ([t.Pred]:List aa) 1 (by kernel_rfl))<|sv (du t)<|sv (dv t)<|sv (bL.ap bl22)<|cq (bL.ln l22)<|cY (e:=.ret) (s1:=lB (.inl o32)) (ES l22 (l22.length:Int) 0 bo32)<|en (aI (rP (.int .i64 o32))<|trivial)
     exact bO Wr call62 func62 (c:=qcL) rfl (aI (ak t) trivial) z<|by kernel_rfl
    ·obtain rfl:=lf h
     have z:=p21<|sg 0 c20<|sv (dH t)<|sv (dI t)<|sv (bL.mk' (v:=dZ) cP ([t.Pred]:List aa) 1 (by kernel_rfl))<|sv (du t)<|sv (dv t)<|sv (bL.ap bl22)<|cq (bL.ln l22)<|cY (e:=.exit 2) (s1:=lB (.inr o32)) (ES l22 (l22.length:Int) 0 bo32)<|en (aI (rP (.int .i64 0))<|trivial)
     exact bO Wr call62 func62 (c:=qcL) rfl (aI (ak t) trivial) z<|by kernel_rfl
noncomputable def qis:Code:=f40.body.getD .skip
def qhx:List Nat:=[11,23]
section
variable(R31:Ck)(t13:waC)(t14:Int)(t15:Int)
def oX:aC:=be 25 [(13,sl ag t13),(14,.int .i64 t14),(15,.int .i64 t15)] [.dead] []
def oY(o:Int⊕(Unit)):Exit:=match o with
 |(.inl _)=>.ret
 |(.inr _)=>.exit 0
def lx(o:Int⊕(Unit)):aC:=match o with
 |(.inl o)=>be 25 [(2,.int .i64 o)] [.dead] []
 |(.inr o)=>be 25 [] [.dead] []
def Hi:Option (Int⊕(Int⊕(Unit))):=
 if(decide (t15<t14))=true then
  (cz t13 t15).bind fun x5=>
  (R31 x5).bind fun r6=>
  if(r6 !=0)=true then
   some (.inr (.inl r6))
  else
   some (.inl (aS (t15+1)))
 else
  some (.inr (.inr ()))
def EK:Option (Int⊕(Unit)):=loop (fun(zz:Int)=>Hi R31 t13 t14 zz) t15
theorem N0(hR31:HO R31){y:Int⊕(Int⊕(Unit))}(h:Hi R31 t13 t14 t15=some y):aV Pg GE 0 (cA qis 119) (LQ (fun(zz:Int)=>oX t13 t14 zz) oY lx y) (oX t13 t14 t15):=by
 rcases bj h with⟨c4,h⟩|⟨c4,h⟩
 ·obtain⟨x5,bx5,h⟩:=ay h
  obtain⟨r6,br6,h⟩:=ay h
  have p8:=fun{sc F} (r:PS sc F)=>sg 0 c4<|sv (ct.ia (k:=.i64) bx5)<|sv (aN x5)<|sx tu<|sx (ez x5)<|sv (cX x5 [])<|bz (hR31 _ _ br6)<|r
  rcases bj h with⟨c7,h⟩|⟨c7,h⟩
  ·obtain rfl:=lf h
   have z:=p8<|sg 0 c7<|uP 0 (oY (.inl r6)) (lx (.inl r6)) rfl (dF (aI trivial trivial)) (aI trivial trivial)
   exact IN (A:=qhx) mixed (by intro hx;cases hx) z<|by kernel_rfl
  ·obtain rfl:=lf h
   have z:=p8<|sg 0 c7<|uP 0 .normal (oX t13 t14 (aS (t15+1))) rfl (dF (aI (up (aj ak t13)) (aI trivial (aI trivial trivial)))) (aI trivial trivial)
   exact dh (A:=qhx) mixed z<|by kernel_rfl
 ·obtain rfl:=lf h
  have z:=sg 0 c4<|eF (oY (.inr ())) (lx (.inr ()))
  exact gg qhx (by intro hx;cases hx) z<|by kernel_rfl
theorem EL(hR31:HO R31){x:Int⊕(Unit)}(h:EK R31 t13 t14 t15=some x):aV Pg GE 0 (.loop (cA qis 119)) (EX (oY x) (lx x)) (oX t13 t14 t15):=
 aV.loop (S:=fun(zz:Int)=>oX t13 t14 zz) (ex:=oY) (s:=t15) h fun zz y hy=>N0 R31 t13 t14 zz hR31 hy
end
def B7(R31:Ck)(t:ae):Option Int:=
 (JC t).bind fun r1=>
 if(r1 !=0)=true then
  some r1
 else
  (EK R31 t.Args (t.Args.length:Int) 0).bind fun o9=>match o9 with
  |(.inl o9)=>
   some o9
  |(.inr o9)=>
   some 0
theorem UX(R31:Ck)(hR31:HO R31){t:ae}{r:Int}(h:B7 R31 t=some r):CC Pg GE 40 [.agg (ag t)] (.int .i64 r) []:=by
 obtain⟨r1,br1,h⟩:=ay h
 have p3:=fun{sc F} (r:PS sc F)=>se (bw t)<|sv (aN t)<|bz (WR br1)<|r
 rcases bj h with⟨c2,h⟩|⟨c2,h⟩
 ·obtain rfl:=lf h
  have z:=p3<|sg 0 c2<|en (aI (rP (.int .i64 r1))<|trivial)
  exact bO qhx call40 func40 (c:=qis) rfl (aI (ak t) trivial) z<|by kernel_rfl
 ·obtain⟨o9,bo9,h⟩:=ay h
  rcases o9 with o9|o9
  ·obtain rfl:=lf h
   have z:=p3<|sg 0 c2<|sv (aL t)<|sv (aM t)<|cq (ct.ln t.Args)<|cY (e:=.ret) (s1:=lx (.inl o9)) (EL R31 t.Args (t.Args.length:Int) 0 hR31 bo9)<|en (aI (rP (.int .i64 o9))<|trivial)
   exact bO qhx call40 func40 (c:=qis) rfl (aI (ak t) trivial) z<|by kernel_rfl
  ·obtain rfl:=lf h
   have z:=p3<|sg 0 c2<|sv (aL t)<|sv (aM t)<|cq (ct.ln t.Args)<|cY (e:=.exit 0) (s1:=lx (.inr o9)) (EL R31 t.Args (t.Args.length:Int) 0 hR31 bo9)<|en (aI (rP (.int .i64 0))<|trivial)
   exact bO qhx call40 func40 (c:=qis) rfl (aI (ak t) trivial) z<|by kernel_rfl
def Ic:(ae->Option Int)->(ae)->Option Int:=fun(rec:ae->Option Int) (x:ae)=>B7 (fun t=>rec t) x
def PN(t:ae):Option Int:=kK Ic t
theorem WQ{t:ae}{r:Int}(h:PN t=some r):CC Pg GE 40 [.agg (ag t)] (.int .i64 r) []:=
 cG (F:=Ic) (M:=fun(x:ae) (r:Int)=>CC Pg GE 40 [.agg (ag x)] (.int .i64 r) []) (fun rec hrec x r h=>UX _ (fun t r h=>hrec t r h) h) h
noncomputable def qk7:Code:=f16.body.getD .skip
def qkX:List Nat:=[8]
def AC(t:ae):Option Int:=
 (F4 t).bind fun r1=>
 if(r1 !=0)=true then
  some r1
 else
  (PN t).bind fun r4=>
  some r4
theorem Jw{t:ae}{r:Int}(h:AC t=some r):CC Pg GE 16 [.agg (ag t)] (.int .i64 r) []:=by
 obtain⟨r1,br1,h⟩:=ay h
 have p3:=fun{sc F} (r:PS sc F)=>se (bw t)<|sv (aN t)<|bz (UJ br1)<|r
 rcases bj h with⟨c2,h⟩|⟨c2,h⟩
 ·obtain rfl:=lf h
  have z:=p3<|sg 0 c2<|en (aI (rP (.int .i64 r1))<|trivial)
  exact bO qkX call16 func16 (c:=qk7) rfl (aI (ak t) trivial) z<|by kernel_rfl
 ·obtain⟨r4,br4,h⟩:=ay h
  obtain rfl:=lf h
  have z:=p3<|sg 0 c2<|sv (aN t)<|bz (WQ br4)<|en (aI (rP (.int .i64 r4))<|trivial)
  exact bO qkX call16 func16 (c:=qk7) rfl (aI (ak t) trivial) z<|by kernel_rfl
noncomputable def qk5:Code:=f10.body.getD .skip
def qkV:List Nat:=[]
def AI(a:aJ):Option Bool:=
 (AC a.A).bind fun r1=>
 if(r1==0)=true then
  (AC a.B).bind fun r4=>
  some (r4==0)
 else
  some false
theorem U2{a:aJ}{r:Bool}(h:AI a=some r):CC Pg GE 10 [.agg (az a)] (.bool r) []:=by
 obtain⟨r1,br1,h⟩:=ay h
 have p3:=fun{sc F} (r:PS sc F)=>se (py a)<|sv (bZ a)<|sv (ca a)<|bz (Jw br1)<|r
 rcases bj h with⟨c2,h⟩|⟨c2,h⟩
 ·obtain⟨r4,br4,h⟩:=ay h
  obtain rfl:=lf h
  have z:=p3<|sg 5 c2<|sv (dK a)<|sv (eu a)<|bz (Jw br4)<|en (aI (rP (.bool (r4==0)))<|trivial)
  exact bO qkV call10 func10 (c:=qk5) rfl (aI (dU a) trivial) z<|by kernel_rfl
 ·obtain rfl:=lf h
  have z:=p3<|sg 5 c2<|en (aI (rP (.bool false))<|trivial)
  exact bO qkV call10 func10 (c:=qk5) rfl (aI (dU a) trivial) z<|by kernel_rfl
noncomputable def qlQ:Code:=f33.body.getD .skip
def qlA:List Nat:=[]
def kj(s:af):Option aa:=
 some (⟨3,s,0,([]:List aa)⟩:aa)
theorem iL{s:af}{r:aa}(h:kj s=some r):CC Pg GE 33 [.str s] (.agg (ac r)) [(3,36)]:=by
 obtain rfl:=lf h
 have z:=sx ib<|sb (ko 3 s) (kl 3 s)<|sy (aK (⟨3,s,0,([]:List aa)⟩:aa))<|en (aI (dm (⟨3,s,0,([]:List aa)⟩:aa))<|aI (ah (⟨3,s,0,([]:List aa)⟩:aa))<|rT)
 exact bO qlA call33 func33 (c:=qlQ) rfl (aI trivial trivial) z<|by kernel_rfl
noncomputable def qlP:Code:=f32.body.getD .skip
def qlz:List Nat:=[]
def Ge(op:Int)(a:aa)(a2:aa):Option aa:=
 some (⟨op,([]:af),0,([a,a2]:List aa)⟩:aa)
theorem xJ{op:Int}{a:aa}{a2:aa}{r:aa}(h:Ge op a a2=some r):CC Pg GE 32 [.int .i64 op,.agg (ac a),.agg (ac a2)] (.agg (ac r)) []:=by
 obtain rfl:=lf h
 have z:=se (bU a)<|se (bU a2)<|sx ib<|sv (bh a)<|sv (bh a2)<|sv (bL.mk' (v:=dZ) cP ([a,a2]:List aa) 2 (by kernel_rfl))<|sv (J4 op ([a,a2]:List aa))<|sx (cr (⟨op,([]:af),0,([a,a2]:List aa)⟩:aa))<|en (aI (dm (⟨op,([]:af),0,([a,a2]:List aa)⟩:aa))<|(ah (⟨op,([]:af),0,([a,a2]:List aa)⟩:aa)))
 exact bO qlz call32 func32 (c:=qlP) rfl (aI trivial (aI (ah a) (aI (ah a2) trivial))) z<|by kernel_rfl
noncomputable def qlO:Code:=f31.body.getD .skip
def qly:List Nat:=[]
def uo(p:aa):Option ae:=
 some (⟨1,([]:af),([]:List ae),([]:List af),p,([]:List aa)⟩:ae)
theorem rt{p:aa}{r:ae}(h:uo p=some r):CC Pg GE 31 [.agg (ac p)] (.agg (ag r)) [(2,38),(3,9),(8,36)]:=by
 obtain rfl:=lf h
 have z:=se (bU p)<|sx tu<|sv (bh p)<|sb (Vb 1 p) (U9 1 p)<|sy (bu (⟨1,([]:af),([]:List ae),([]:List af),p,([]:List aa)⟩:ae))<|en (aI (ic (⟨1,([]:af),([]:List ae),([]:List af),p,([]:List aa)⟩:ae))<|aI (ak (⟨1,([]:af),([]:List ae),([]:List af),p,([]:List aa)⟩:ae))<|rT)
 exact bO qly call31 func31 (c:=qlO) rfl (aI (ah p) trivial) z<|by kernel_rfl
abbrev wk:=(ae->ae->Option Bool)
abbrev Bq(R:wk):Prop:=∀(a:ae) (a2:ae) (r:Bool),R a a2=some r->CC Pg GE 34 [.agg (ag a),.agg (ag a2)] (.bool r) []
noncomputable def qhG:Code:=f34.body.getD .skip
def qeL:List Nat:=[32]
section
variable(v:ae)(v2:ae)
def Ow:aC:=be 46 [(2,.eptr (ag v)),(3,.eptr (ag v2))] [.dead,.dead] []
def pS(o:Bool):aC:=be 46 [(2,.eptr (ag v)),(3,.eptr (ag v2)),(26,.bool o)] [.dead,.dead] []
def As:Option Bool:=
 if(v.Op !=v2.Op)=true then
  some true
 else
  if(!(v.Name==v2.Name))=true then
   some true
  else
   some ((v.Args.length:Int)!=(v2.Args.length:Int))
theorem Mz{x:Bool}(h:As v v2=some x):aV Pg GE 0 (cA qhG 12) (EX .normal (pS v v2 x)) (Ow v v2):=by
 have p2:=fun{sc F} (r:PS sc F)=>sv (aD v)<|sv (aE v)<|sv (aD v2)<|sv (aE v2)<|r
 rcases bj h with⟨c1,h⟩|⟨c1,h⟩
 ·obtain rfl:=lf h
  exact cf qeL (p2<|sg 6 c1<|eF .normal (pS v v2 true))<|by kernel_rfl
 ·have p4:=fun{sc F} (r:PS sc F)=>p2<|sg 6 c1<|sv (cx v)<|sv (cT v)<|sv (cx v2)<|sv (cT v2)<|r
  rcases bj h with⟨c3,h⟩|⟨c3,h⟩
  ·obtain rfl:=lf h
   exact cf qeL (p4<|sg 13 c3<|eF .normal (pS v v2 true))<|by kernel_rfl
  ·obtain rfl:=lf h
   exact cf qeL (p4<|sg 13 c3<|sv (aL v)<|sv (aM v)<|cq (ct.ln v.Args)<|sv (aL v2)<|sv (aM v2)<|cq (ct.ln v2.Args)<|eF .normal (pS v v2 ((v.Args.length:Int)!=(v2.Args.length:Int))))<|by kernel_rfl
end
section
variable(R50:wk)(v:ae)(v2:ae)(t29:Int)(t30:Int)
def lc:aC:=be 46 [(2,.eptr (ag v)),(3,.eptr (ag v2)),(29,.int .i64 t29),(30,.int .i64 t30)] [.dead,.dead] []
def lh(o:Unit⊕(Unit)):Exit:=match o with
 |(.inl _)=>.ret
 |(.inr _)=>.exit 0
def iR(o:Unit⊕(Unit)):aC:=match o with
 |(.inl o)=>be 46 [(4,.bool false)] [.dead,.dead] []
 |(.inr o)=>be 46 [] [.dead,.dead] []
def vK:Option (Int⊕(Unit⊕(Unit))):=
 if(decide (t30<t29))=true then
  (cz v.Args t30).bind fun x9=>
  (cz v2.Args t30).bind fun x10=>
  (R50 x9 x10).bind fun r11=>
  if(!r11)=true then
   some (.inr (.inl ()))
  else
   some (.inl (aS (t30+1)))
 else
  some (.inr (.inr ()))
def At:Option (Unit⊕(Unit)):=loop (fun(zz:Int)=>vK R50 v v2 t29 zz) t30
theorem K4(hR50:Bq R50){y:Int⊕(Unit⊕(Unit))}(h:vK R50 v v2 t29 t30=some y):aV Pg GE 0 (cA qhG 119) (LQ (fun(zz:Int)=>lc v v2 t29 zz) lh iR y) (lc v v2 t29 t30):=by
 rcases bj h with⟨c8,h⟩|⟨c8,h⟩
 ·obtain⟨x9,bx9,h⟩:=ay h
  obtain⟨x10,bx10,h⟩:=ay h
  obtain⟨r11,br11,h⟩:=ay h
  have p13:=fun{sc F} (r:PS sc F)=>sg 0 c8<|lK [0,1,0,7,15,0,32,0,224,480,1023,2047]<|sv (aL v)<|sv (aM v)<|sv (ct.ia (k:=.i64) bx9)<|sv (aN x9)<|sv (aL v2)<|sv (aM v2)<|sv (ct.ia (k:=.i64) bx10)<|sv (aN x10)<|bz (hR50 _ _ _ br11)<|r
  rcases bj h with⟨c12,h⟩|⟨c12,h⟩
  ·obtain rfl:=lf h
   have z:=p13<|sg 0 c12<|eF (lh (.inl ())) (iR (.inl ()))
   exact gg qeL (by intro hx;cases hx) z<|by kernel_rfl
  ·obtain rfl:=lf h
   exact oo qeL (p13<|sg 0 c12<|eF .normal (lc v v2 t29 (aS (t30+1))))<|by kernel_rfl
 ·obtain rfl:=lf h
  have z:=sg 0 c8<|eF (lh (.inr ())) (iR (.inr ()))
  exact gg qeL (by intro hx;cases hx) z<|by kernel_rfl
theorem Bm(hR50:Bq R50){x:Unit⊕(Unit)}(h:At R50 v v2 t29 t30=some x):aV Pg GE 0 (.loop (cA qhG 119)) (EX (lh x) (iR x)) (lc v v2 t29 t30):=
 aV.loop (S:=fun(zz:Int)=>lc v v2 t29 zz) (ex:=lh) (s:=t30) h fun zz y hy=>K4 R50 v v2 t29 zz hR50 hy
end
def wA(R50:wk)(a:ae)(a2:ae):Option Bool:=
 (As a a2).bind fun o5=>
 if o5=true then
  some false
 else
  (At R50 a a2 (a.Args.length:Int) 0).bind fun o14=>match o14 with
  |(.inl o14)=>
   some false
  |(.inr o14)=>
   some true
theorem RA(R50:wk)(hR50:Bq R50){a:ae}{a2:ae}{r:Bool}(h:wA R50 a a2=some r):CC Pg GE 34 [.agg (ag a),.agg (ag a2)] (.bool r) []:=by
 obtain⟨o5,bo5,h⟩:=ay h
 have p7:=fun{sc F} (r:PS sc F)=>se (bw a)<|se (bw a2)<|ka 1<|cY (Mz a a2 bo5)<|r
 rcases bj h with⟨c6,h⟩|⟨c6,h⟩
 ·obtain rfl:=lf h
  have z:=p7<|sg 0 c6<|en (aI (rP (.bool false))<|trivial)
  exact bO qeL call34 func34 (c:=qhG) rfl (aI (ak a) (aI (ak a2) trivial)) z<|by kernel_rfl
 ·obtain⟨o14,bo14,h⟩:=ay h
  rcases o14 with o14|o14
  ·obtain rfl:=lf h
   have z:=p7<|sg 0 c6<|sv (aL a)<|sv (aM a)<|cq (ct.ln a.Args)<|cY (e:=.ret) (s1:=iR (.inl o14)) (Bm R50 a a2 (a.Args.length:Int) 0 hR50 bo14)<|en (aI (rP (.bool false))<|trivial)
   exact bO qeL call34 func34 (c:=qhG) rfl (aI (ak a) (aI (ak a2) trivial)) z<|by kernel_rfl
  ·obtain rfl:=lf h
   have z:=p7<|sg 0 c6<|sv (aL a)<|sv (aM a)<|cq (ct.ln a.Args)<|cY (e:=.exit 0) (s1:=iR (.inr o14)) (Bm R50 a a2 (a.Args.length:Int) 0 hR50 bo14)<|en (aI (rP (.bool true))<|trivial)
   exact bO qeL call34 func34 (c:=qhG) rfl (aI (ak a) (aI (ak a2) trivial)) z<|by kernel_rfl
def C5:((ae×ae)->Option Bool)->(ae×ae)->Option Bool:=fun(rec:(ae×ae)->Option Bool) (x:ae×ae)=>wA (fun a a2=>rec (a,a2)) x.1 x.2
def I8(a:ae)(a2:ae):Option Bool:=kK C5 (a,a2)
theorem Ta{a:ae}{a2:ae}{r:Bool}(h:I8 a a2=some r):CC Pg GE 34 [.agg (ag a),.agg (ag a2)] (.bool r) []:=
 cG (F:=C5) (M:=fun(x:ae×ae) (r:Bool)=>CC Pg GE 34 [.agg (ag x.1),.agg (ag x.2)] (.bool r) []) (fun rec hrec x r h=>RA _ (fun a a2 r h=>hrec (a,a2) r h) h) h
abbrev d7:=(aZ->ae->ae->waA->Option ai)
abbrev iS(R:d7):Prop:=∀(w:aZ) (a:ae) (a2:ae) (used:waA) (r:ai),R w a a2 used=some r->CC Pg GE 35 [.agg (aW w),.agg (ag a),.agg (ag a2),sl cS used] (.agg (au r)) []
noncomputable def qjt:Code:=f23.body.getD .skip
def qjg:List Nat:=[]
def jh(t:ae):Option Bool:=
 if(t.Op==1)=true then
  some true
 else
  if(t.Op==2)=true then
   some true
  else
   if(t.Op==3)=true then
    some true
   else
    some (t.Op==4)
theorem kZ{t:ae}{r:Bool}(h:jh t=some r):CC Pg GE 23 [.agg (ag t)] (.bool r) []:=by
 have p2:=fun{sc F} (r:PS sc F)=>se (bw t)<|sv (aD t)<|sv (aE t)<|r
 rcases bj h with⟨c1,h⟩|⟨c1,h⟩
 ·obtain rfl:=lf h
  have z:=p2<|sg 4 c1<|en (aI (rP (.bool true))<|trivial)
  exact bO qjg call23 func23 (c:=qjt) rfl (aI (ak t) trivial) z<|by kernel_rfl
 ·have p4:=fun{sc F} (r:PS sc F)=>p2<|sg 4 c1<|sv (aD t)<|sv (aE t)<|r
  rcases bj h with⟨c3,h⟩|⟨c3,h⟩
  ·obtain rfl:=lf h
   have z:=p4<|sg 9 c3<|en (aI (rP (.bool true))<|trivial)
   exact bO qjg call23 func23 (c:=qjt) rfl (aI (ak t) trivial) z<|by kernel_rfl
  ·have p6:=fun{sc F} (r:PS sc F)=>p4<|sg 9 c3<|sv (aD t)<|sv (aE t)<|r
   rcases bj h with⟨c5,h⟩|⟨c5,h⟩
   ·obtain rfl:=lf h
    have z:=p6<|sg 14 c5<|en (aI (rP (.bool true))<|trivial)
    exact bO qjg call23 func23 (c:=qjt) rfl (aI (ak t) trivial) z<|by kernel_rfl
   ·obtain rfl:=lf h
    have z:=p6<|sg 14 c5<|sv (aD t)<|sv (aE t)<|en (aI (rP (.bool (t.Op==4)))<|trivial)
    exact bO qjg call23 func23 (c:=qjt) rfl (aI (ak t) trivial) z<|by kernel_rfl
noncomputable def qhM:Code:=f77.body.getD .skip
def qhD:List Nat:=[24,35]
section
variable(base:af)(t11:waA)(t12:Int)(t13:Int)(m0:(List (af×Bool)))
def j0:aC:=be 36 [(1,.str base),(5,.mapr 0),(11,sl cS t11),(12,.int .i64 t12),(13,.int .i64 t13)] [.map (Iz PVal.bool m0)] []
def ti(o:(List (af×Bool))):aC:=be 36 [(1,.str base),(5,.mapr 0)] [.map (Iz PVal.bool o)] []
def j1:Option ((Int×(List (af×Bool)))⊕(((List (af×Bool))))):=
 if(decide (t13<t12))=true then
  (cz t11 t13).bind fun x2=>
  some (.inl (aS (t13+1),Ku m0 x2 true))
 else
  some (.inr m0)
def rM:Option (((List (af×Bool)))):=loop (fun(zz:Int×(List (af×Bool)))=>j1 t11 t12 zz.1 zz.2) (t13,m0)
theorem IK{y:(Int×(List (af×Bool)))⊕(((List (af×Bool))))}(h:j1 t11 t12 t13 m0=some y):aV Pg GE 0 (cA qhM 119) (LQ (fun(zz:Int×(List (af×Bool)))=>j0 base t11 t12 zz.1 zz.2) (fun _=>.exit 0) (ti base) y) (j0 base t11 t12 t13 m0):=by
 rcases bj h with⟨c1,h⟩|⟨c1,h⟩
 ·obtain⟨x2,bx2,h⟩:=ay h
  obtain rfl:=lf h
  exact oo qhD (sg 0 c1<|sv (bq.ia (k:=.i64) bx2)<|sv (dB Bg (.str x2) [])<|qmh (qhd (f:=PVal.bool) underlying154 underlying9 m0 x2 true)<|eF .normal (j0 base t11 t12 (aS (t13+1)) (Ku m0 x2 true)))<|by kernel_rfl
 ·obtain rfl:=lf h
  have z:=sg 0 c1<|eF (.exit 0) (ti base m0)
  exact gg qhD (by intro hx;cases hx) z<|by kernel_rfl
theorem Kx{x:((List (af×Bool)))}(h:rM t11 t12 t13 m0=some x):aV Pg GE 0 (.loop (cA qhM 119)) (EX (.exit 0) (ti base x)) (j0 base t11 t12 t13 m0):=
 aV.loop (S:=fun(zz:Int×(List (af×Bool)))=>j0 base t11 t12 zz.1 zz.2) (ex:=(fun _=>.exit 0)) (s:=(t13,m0)) h fun zz y hy=>IK base t11 t12 zz.1 zz.2 hy
end
section
variable(base:af)(m0:(List (af×Bool)))(n:Int)
def j2:aC:=be 36 [(1,.str base),(5,.mapr 0),(8,.int .i64 n)] [.map (Iz PVal.bool m0)] []
def tj(o:af):aC:=be 36 [(4,.str o)] [.map (Iz PVal.bool m0)] []
def hZ:Option (Int⊕(af)):=
 (qad n).bind fun r6=>
 (qg3 base r6).bind fun s7=>
 if(!((DG m0 s7).getD false))=true then
  some (.inr s7)
 else
  some (.inl (aS (n+1)))
def mX:Option af:=loop (fun(zz:Int)=>hZ base m0 zz) n
theorem IL{y:Int⊕(af)}(h:hZ base m0 n=some y):aV Pg GE 0 (cA qhM 255) (LQ (fun(zz:Int)=>j2 base m0 zz) (fun _=>.ret) (tj m0) y) (j2 base m0 n):=by
 obtain⟨r6,br6,h⟩:=ay h
 obtain⟨s7,bs7,h⟩:=ay h
 have p9:=fun{sc F} (r:PS sc F)=>bz (qfn br6)<|sv (Wg (P:=Pg) (t:=9) bs7)<|sv (qdy (f:=PVal.bool) underlying154 underlying9 qlw m0 s7)<|r
 rcases bj h with⟨c8,h⟩|⟨c8,h⟩
 ·obtain rfl:=lf h
  have z:=p9<|sg 0 c8<|eF .ret (tj m0 s7)
  exact gg qhD (by intro hx;cases hx) z<|by kernel_rfl
 ·obtain rfl:=lf h
  exact oo qhD (p9<|sg 0 c8<|eF .normal (j2 base m0 (aS (n+1))))<|by kernel_rfl
theorem Ky{x:af}(h:mX base m0 n=some x):aV Pg GE 0 (.loop (cA qhM 255)) (EX .ret (tj m0 x)) (j2 base m0 n):=
 aV.loop (S:=fun(zz:Int)=>j2 base m0 zz) (ex:=(fun _=>.ret)) (s:=n) h fun zz y hy=>IL base m0 zz hy
end
def mW(used:waA)(base:af):Option af:=
 (rM used (used.length:Int) 0 ([]:List (af×Bool))).bind fun o3=>
 if(!((DG o3 base).getD false))=true then
  some base
 else
  (mX base o3 1).bind fun o10=>
  some o10
theorem yb{used:waA}{base:af}{r:af}(h:mW used base=some r):CC Pg GE 77 [sl cS used,.str base] (.str r) []:=by
 obtain⟨o3,bo3,h⟩:=ay h
 have p5:=fun{sc F} (r:PS sc F)=>cq (bq.ln used)<|cY (Kx base used (used.length:Int) 0 ([]:List (af×Bool)) bo3)<|sv (qdy (f:=PVal.bool) underlying154 underlying9 qlw o3 base)<|r
 rcases bj h with⟨c4,h⟩|⟨c4,h⟩
 ·obtain rfl:=lf h
  have z:=p5<|sg 0 c4<|en (aI (rP (.str base))<|trivial)
  exact bO qhD call77 func77 (c:=qhM) rfl (aI (aj dN used) (aI trivial trivial)) z<|by kernel_rfl
 ·obtain⟨o10,bo10,h⟩:=ay h
  obtain rfl:=lf h
  have z:=p5<|sg 0 c4<|cY (Ky base o3 1 bo10)<|en (aI (rP (.str o10))<|trivial)
  exact bO qhD call77 func77 (c:=qhM) rfl (aI (aj dN used) (aI trivial trivial)) z<|by kernel_rfl
noncomputable def qe0:Code:=f109.body.getD .skip
def qcr:List Nat:=[10,17]
section
variable(s:waA)(v:af)(t7:Int)(t8:Int)
def je:aC:=be 19 [(0,sl cS s),(1,.str v),(7,.int .i64 t7),(8,.int .i64 t8)] [] []
def jf(o:Int⊕(Unit)):Exit:=match o with
 |(.inl _)=>.ret
 |(.inr _)=>.exit 0
def gz(o:Int⊕(Unit)):aC:=match o with
 |(.inl o)=>be 19 [(4,.int .i64 o)] [] []
 |(.inr o)=>be 19 [] [] []
def fe:Option (Int⊕(Int⊕(Unit))):=
 if(decide (t8<t7))=true then
  (cz s t8).bind fun x2=>
  if(v==x2)=true then
   some (.inr (.inl t8))
  else
   some (.inl (aS (t8+1)))
 else
  some (.inr (.inr ()))
def vH:Option (Int⊕(Unit)):=loop (fun(zz:Int)=>fe s v t7 zz) t8
theorem G7{y:Int⊕(Int⊕(Unit))}(h:fe s v t7 t8=some y):aV Pg GE 0 (cA qe0 55) (LQ (fun(zz:Int)=>je s v t7 zz) jf gz y) (je s v t7 t8):=by
 rcases bj h with⟨c1,h⟩|⟨c1,h⟩
 ·obtain⟨x2,bx2,h⟩:=ay h
  have p4:=fun{sc F} (r:PS sc F)=>sg 0 c1<|sv (bq.ia (k:=.i64) bx2)<|sv (dB Bg (.str x2) [])<|r
  rcases bj h with⟨c3,h⟩|⟨c3,h⟩
  ·obtain rfl:=lf h
   have z:=p4<|sg 0 c3<|eF (jf (.inl t8)) (gz (.inl t8))
   exact gg qcr (by intro hx;cases hx) z<|by kernel_rfl
  ·obtain rfl:=lf h
   exact oo qcr (p4<|sg 0 c3<|eF .normal (je s v t7 (aS (t8+1))))<|by kernel_rfl
 ·obtain rfl:=lf h
  have z:=sg 0 c1<|eF (jf (.inr ())) (gz (.inr ()))
  exact gg qcr (by intro hx;cases hx) z<|by kernel_rfl
theorem yl{x:Int⊕(Unit)}(h:vH s v t7 t8=some x):aV Pg GE 0 (.loop (cA qe0 55)) (EX (jf x) (gz x)) (je s v t7 t8):=
 aV.loop (S:=fun(zz:Int)=>je s v t7 zz) (ex:=jf) (s:=t8) h fun zz y hy=>G7 s v t7 zz hy
end
def sj(s:waA)(v:af):Option Int:=
 (vH s v (s.length:Int) 0).bind fun o5=>match o5 with
 |(.inl o5)=>
  some o5
 |(.inr o5)=>
  some (-1)
theorem Dm{s:waA}{v:af}{r:Int}(h:sj s v=some r):CC Pg GE 109 [sl cS s,.str v] (.int .i64 r) []:=by
 obtain⟨o5,bo5,h⟩:=ay h
 rcases o5 with o5|o5
 ·obtain rfl:=lf h
  have z:=cq (bq.ln s)<|cY (e:=.ret) (s1:=gz (.inl o5)) (yl s v (s.length:Int) 0 bo5)<|en (aI (rP (.int .i64 o5))<|trivial)
  exact bO qcr call109 func109 (c:=qe0) rfl (aI (aj dN s) (aI trivial trivial)) z<|by kernel_rfl
 ·obtain rfl:=lf h
  have z:=cq (bq.ln s)<|cY (e:=.exit 0) (s1:=gz (.inr o5)) (yl s v (s.length:Int) 0 bo5)<|en (aI (rP (.int .i64 (-1)))<|trivial)
  exact bO qcr call109 func109 (c:=qe0) rfl (aI (aj dN s) (aI trivial trivial)) z<|by kernel_rfl
noncomputable def qke:Code:=f137.body.getD .skip
def qjV:List Nat:=[]
def fq(s:waA)(v:af):Option Bool:=
 (sj s v).bind fun r1=>
 some (decide (r1>=0))
theorem iv{s:waA}{v:af}{r:Bool}(h:fq s v=some r):CC Pg GE 137 [sl cS s,.str v] (.bool r) []:=by
 obtain⟨r1,br1,h⟩:=ay h
 obtain rfl:=lf h
 have z:=bz (Dm br1)<|en (aI (rP (.bool (decide (r1>=0))))<|trivial)
 exact bO qjV call137 func137 (c:=qke) rfl (aI (aj dN s) (aI trivial trivial)) z<|by kernel_rfl
noncomputable def qe1:Code:=f119.body.getD .skip
def qaO:List Nat:=[13,28,34]
section
variable(hidden:waA)(s:am)(i:Int)(n:af)(t9:waA)(t10:Int)(m:waB)(m2:waA)(m3:waB)
def qG:aC:=be 45 [(1,sl cS hidden),(2,.eptr (aA s)),(4,.bptr 1 0),(5,.bptr 2 0),(6,.int .i64 i),(7,.str n),(9,sl cS t9),(10,.int .i64 t10),(11,.int .i64 i)] [.dead,.cells [sl cS ([]:List af),sl ac m] [(0,9),(1,36)],.cells [sl cS m2,sl ac m3] [(0,9),(1,36)]] []
def eR(o:Bool):aC:=be 45 [(1,sl cS hidden),(2,.eptr (aA s)),(4,.bptr 1 0),(5,.bptr 2 0),(6,.int .i64 i),(7,.str n),(9,sl cS t9),(10,.int .i64 t10),(11,.int .i64 i),(26,.bool o)] [.dead,.cells [sl cS ([]:List af),sl ac m] [(0,9),(1,36)],.cells [sl cS m2,sl ac m3] [(0,9),(1,36)]] []
def fu:Option Bool:=
 (fq hidden n).bind fun r3=>
 if(!r3)=true then
  (fq m2 n).bind fun r5=>
  some (!r5)
 else
  some false
theorem qi{x:Bool}(h:fu hidden n m2=some x):aV Pg GE 0 (cA qe1 7670) (EX .normal (eR hidden s i n t9 t10 m m2 m3 x)) (qG hidden s i n t9 t10 m m2 m3):=by
 obtain⟨r3,br3,h⟩:=ay h
 rcases bj h with⟨c4,h⟩|⟨c4,h⟩
 ·obtain⟨r5,br5,h⟩:=ay h
  obtain rfl:=lf h
  exact cf qaO (bz (iv br3)<|sg 5 c4<|ss<|bz (iv br5)<|eF .normal (eR hidden s i n t9 t10 m m2 m3 (!r5)))<|by kernel_rfl
 ·obtain rfl:=lf h
  exact cf qaO (bz (iv br3)<|sg 5 c4<|eF .normal (eR hidden s i n t9 t10 m m2 m3 false))<|by kernel_rfl
end
section
variable(hidden:waA)(s:am)(t9:waA)(t10:Int)(m:waB)(t11:Int)(m2:waA)(m3:waB)
def cC:aC:=be 45 [(1,sl cS hidden),(2,.eptr (aA s)),(4,.bptr 1 0),(5,.bptr 2 0),(9,sl cS t9),(10,.int .i64 t10),(11,.int .i64 t11)] [.dead,.cells [sl cS ([]:List af),sl ac m] [(0,9),(1,36)],.cells [sl cS m2,sl ac m3] [(0,9),(1,36)]] []
def eS(o:waA×waB):aC:=be 45 [(4,.bptr 1 0),(5,.bptr 2 0)] [.dead,.cells [sl cS ([]:List af),sl ac m] [(0,9),(1,36)],.cells [sl cS o.1,sl ac o.2] [(0,9),(1,36)]] []
def bS:Option ((Int×waA×waB)⊕((waA×waB))):=
 if(decide (t11<t10))=true then
  (cz t9 t11).bind fun x2=>
  (fu hidden x2 m2).bind fun o6=>
  if o6=true then
   (app m2 ([x2]:List af)).bind fun l9=>
   (cz s.by_ t11).bind fun x10=>
   (app m3 ([x10]:List aa)).bind fun l11=>
   some (.inl (aS (t11+1),l9,l11))
  else
   some (.inl (aS (t11+1),m2,m3))
 else
  some (.inr (m2,m3))
def fw:Option ((waA×waB)):=loop (fun(zz:Int×waA×waB)=>bS hidden s t9 t10 zz.1 zz.2.1 zz.2.2) (t11,m2,m3)
theorem pB{y:(Int×waA×waB)⊕((waA×waB))}(h:bS hidden s t9 t10 t11 m2 m3=some y):aV Pg GE 0 (cA qe1 119) (LQ (fun(zz:Int×waA×waB)=>cC hidden s t9 t10 m zz.1 zz.2.1 zz.2.2) (fun _=>.exit 0) (eS m) y) (cC hidden s t9 t10 m t11 m2 m3):=by
 rcases bj h with⟨c1,h⟩|⟨c1,h⟩
 ·obtain⟨x2,bx2,h⟩:=ay h
  obtain⟨o6,bo6,h⟩:=ay h
  have p8:=fun{sc F} (r:PS sc F)=>sg 0 c1<|sv (bq.ia (k:=.i64) bx2)<|sv (dB Bg (.str x2) [])<|ka 0<|cY (qi hidden s t11 x2 t9 t10 m m2 m3 bo6)<|r
  rcases bj h with⟨c7,h⟩|⟨c7,h⟩
  ·obtain⟨l9,bl9,h⟩:=ay h
   obtain⟨x10,bx10,h⟩:=ay h
   obtain⟨l11,bl11,h⟩:=ay h
   obtain rfl:=lf h
   exact oo qaO (p8<|sg 0 c7<|sv (bq.mk' (v:=PVal.str) Fs ([x2]:List af) 1 (by kernel_rfl))<|sv (bq.ap bl9)<|lK [0,1,0,4,0,28,60,124,255,511,1023]<|sv (gf s)<|sv (gD s)<|sv (bL.ia (k:=.i64) bx10)<|sv (bh x10)<|sv (bL.mk' (v:=dZ) cP ([x10]:List aa) 1 (by kernel_rfl))<|sv (bL.ap bl11)<|We (rfl:bK (sl ac l11)=some [sl ac l11])<|eF .normal (cC hidden s t9 t10 m (aS (t11+1)) l9 l11))<|by kernel_rfl
  ·obtain rfl:=lf h
   exact oo qaO (p8<|sg 0 c7<|eF .normal (cC hidden s t9 t10 m (aS (t11+1)) m2 m3))<|by kernel_rfl
 ·obtain rfl:=lf h
  have z:=sg 0 c1<|eF (.exit 0) (eS m (m2,m3))
  exact gg qaO (by intro hx;cases hx) z<|by kernel_rfl
theorem qj{x:(waA×waB)}(h:fw hidden s t9 t10 t11 m2 m3=some x):aV Pg GE 0 (.loop (cA qe1 119)) (EX (.exit 0) (eS m x)) (cC hidden s t9 t10 m t11 m2 m3):=
 aV.loop (S:=fun(zz:Int×waA×waB)=>cC hidden s t9 t10 m zz.1 zz.2.1 zz.2.2) (ex:=(fun _=>.exit 0)) (s:=(t11,m2,m3)) h fun zz y hy=>pB hidden s t9 t10 m zz.1 zz.2.1 zz.2.2 hy
end
def cn(s:am)(hidden:waA):Option am:=
 (fw hidden s s.names (s.names.length:Int) 0 ([]:List af) ([]:List aa)).bind fun o12=>
 some (⟨o12.1,o12.2⟩:am)
theorem fx{s:am}{hidden:waA}{r:am}(h:cn s hidden=some r):CC Pg GE 119 [.agg (aA s),sl cS hidden] (.agg (aA r)) [(0,9),(1,36)]:=by
 obtain⟨o12,bo12,h⟩:=ay h
 obtain rfl:=lf h
 have z:=se (d4 s)<|sx T1<|sx T1<|sv (ke s)<|sv (kM s)<|cq (bq.ln s.names)<|cY (qj hidden s s.names (s.names.length:Int) ([]:List aa) 0 ([]:List af) ([]:List aa) bo12)<|sz (cU (⟨o12.1,o12.2⟩:am) [])<|sy (de (⟨o12.1,o12.2⟩:am))<|en (aI (pC (⟨o12.1,o12.2⟩:am))<|aI (bG (⟨o12.1,o12.2⟩:am))<|rT)
 exact bO qaO call119 func119 (c:=qe1) rfl (aI (bG s) (aI (aj dN hidden) trivial)) z<|by kernel_rfl
abbrev cd:=(am->ae->Option ae)
abbrev da(R:cd):Prop:=∀(s:am) (t:ae) (r:ae),R s t=some r->CC Pg GE 120 [.agg (aA s),.agg (ag t)] (.agg (ag r)) [(2,38)]
abbrev pJ:=(aa->waA->waB->Option aa)
abbrev uS(R:pJ):Prop:=∀(p:aa) (a:waA) (a2:waB) (r:aa),R p a a2=some r->CC Pg GE 65 [.agg (ac p),sl cS a,sl ac a2] (.agg (ac r)) [(3,36)]
noncomputable def ql0:Code:=f92.body.getD .skip
def qlK:List Nat:=[]
def IJ(a:waA)(s:af):Option Int:=
 (sj a s).bind fun r1=>
 some r1
theorem SX{a:waA}{s:af}{r:Int}(h:IJ a s=some r):CC Pg GE 92 [sl cS a,.str s] (.int .i64 r) []:=by
 obtain⟨r1,br1,h⟩:=ay h
 obtain rfl:=lf h
 have z:=bz (Dm br1)<|en (aI (rP (.int .i64 r1))<|trivial)
 exact bO qlK call92 func92 (c:=ql0) rfl (aI (aj dN a) (aI trivial trivial)) z<|by kernel_rfl
abbrev tO:=(aa->Option aa)
abbrev zr(R:tO):Prop:=∀(p:aa) (r:aa),R p=some r->CC Pg GE 91 [.agg (ac p)] (.agg (ac r)) [(3,36)]
noncomputable def qku:Code:=f91.body.getD .skip
def qj6:List Nat:=[21]
section
variable(R66:tO)(t14:waB)(t15:Int)(m:waB)(m2:Int)(m3:af)(m4:Int)(t16:Int)(m5:waB)
def j5:aC:=be 29 [(2,.bptr 1 0),(3,.bptr 2 0),(14,sl ac t14),(15,.int .i64 t15),(16,.int .i64 t16)] [.dead,.cells [.int .i64 0,.str ([]:af),.int .i64 0,sl ac m] [(3,36)],.cells [.int .i64 m2,.str m3,.int .i64 m4,sl ac m5] [(3,36)]] []
def tt(o:waB):aC:=be 29 [(2,.bptr 1 0),(3,.bptr 2 0)] [.dead,.cells [.int .i64 0,.str ([]:af),.int .i64 0,sl ac m] [(3,36)],.cells [.int .i64 m2,.str m3,.int .i64 m4,sl ac o] [(3,36)]] []
def nJ:Option ((Int×waB)⊕(waB)):=
 if(decide (t16<t15))=true then
  (cz t14 t16).bind fun x2=>
  (R66 x2).bind fun r3=>
  (app m5 ([r3]:List aa)).bind fun l4=>
  some (.inl (aS (t16+1),l4))
 else
  some (.inr m5)
def yi:Option waB:=loop (fun(zz:Int×waB)=>nJ R66 t14 t15 zz.1 zz.2) (t16,m5)
theorem IW(hR66:zr R66){y:(Int×waB)⊕(waB)}(h:nJ R66 t14 t15 t16 m5=some y):aV Pg GE 0 (cA qku 119) (LQ (fun(zz:Int×waB)=>j5 t14 t15 m m2 m3 m4 zz.1 zz.2) (fun _=>.exit 0) (tt m m2 m3 m4) y) (j5 t14 t15 m m2 m3 m4 t16 m5):=by
 rcases bj h with⟨c1,h⟩|⟨c1,h⟩
 ·obtain⟨x2,bx2,h⟩:=ay h
  obtain⟨r3,br3,h⟩:=ay h
  obtain⟨l4,bl4,h⟩:=ay h
  obtain rfl:=lf h
  have z:=sg 0 c1<|sv (bL.ia (k:=.i64) bx2)<|sv (bh x2)<|sx ib<|sx (cr x2)<|lK [0,1,0,4,12,31,63,127]<|sv (bX x2 [])<|bz (hR66 _ _ br3)<|sv (bL.mk' (v:=dZ) cP ([r3]:List aa) 1 (by kernel_rfl))<|sv (bL.ap bl4)<|We (rfl:bK (sl ac l4)=some [sl ac l4])<|uP 0 .normal (j5 t14 t15 m m2 m3 m4 (aS (t16+1)) l4) rfl (dF (aI (cZ rfl) (aI (cZ rfl) (aI (up (aj ah t14)) (aI trivial (aI trivial trivial)))))) (aI trivial (aI (aI trivial (aI trivial (aI trivial (aI (up (aj ah m)) trivial)))) (aI (aI trivial (aI trivial (aI trivial (aI (up (aj ah l4)) trivial)))) trivial)))
  exact dh (A:=qj6) mixed z<|by kernel_rfl
 ·obtain rfl:=lf h
  have z:=sg 0 c1<|eF (.exit 0) (tt m m2 m3 m4 m5)
  exact gg qj6 (by intro hx;cases hx) z<|by kernel_rfl
theorem KO(hR66:zr R66){x:waB}(h:yi R66 t14 t15 t16 m5=some x):aV Pg GE 0 (.loop (cA qku 119)) (EX (.exit 0) (tt m m2 m3 m4 x)) (j5 t14 t15 m m2 m3 m4 t16 m5):=
 aV.loop (S:=fun(zz:Int×waB)=>j5 t14 t15 m m2 m3 m4 zz.1 zz.2) (ex:=(fun _=>.exit 0)) (s:=(t16,m5)) h fun zz y hy=>IW R66 t14 t15 m m2 m3 m4 zz.1 zz.2 hR66 hy
end
def Ak(R66:tO)(p:aa):Option aa:=
 (yi R66 p.Kids (p.Kids.length:Int) 0 ([]:List aa)).bind fun o5=>
 some (⟨p.Op,p.Name,p.N,o5⟩:aa)
theorem Ol(R66:tO)(hR66:zr R66){p:aa}{r:aa}(h:Ak R66 p=some r):CC Pg GE 91 [.agg (ac p)] (.agg (ac r)) [(3,36)]:=by
 obtain⟨o5,bo5,h⟩:=ay h
 obtain rfl:=lf h
 have z:=se (bU p)<|sx ib<|sv (bE p)<|sv (bF p)<|sv (cw p)<|sv (cR p)<|sv (dG p)<|sv (dX p)<|sb (E5 p.Op p.Name p.N) (E3 p.Op p.Name p.N)<|sx ib<|sy (aK (⟨p.Op,p.Name,p.N,([]:List aa)⟩:aa))<|sv (bC p)<|sv (bD p)<|cq (bL.ln p.Kids)<|cY (KO R66 p.Kids (p.Kids.length:Int) ([]:List aa) p.Op p.Name p.N 0 ([]:List aa) hR66 bo5)<|sz (bX (⟨p.Op,p.Name,p.N,o5⟩:aa) [])<|sy (aK (⟨p.Op,p.Name,p.N,o5⟩:aa))<|en (aI (dm (⟨p.Op,p.Name,p.N,o5⟩:aa))<|aI (ah (⟨p.Op,p.Name,p.N,o5⟩:aa))<|rT)
 exact bO qj6 call91 func91 (c:=qku) rfl (aI (ah p) trivial) z<|by kernel_rfl
def tY:(aa->Option aa)->(aa)->Option aa:=fun(rec:aa->Option aa) (x:aa)=>Ak (fun p=>rec p) x
def qA(p:aa):Option aa:=kK tY p
theorem rQ{p:aa}{r:aa}(h:qA p=some r):CC Pg GE 91 [.agg (ac p)] (.agg (ac r)) [(3,36)]:=
 cG (F:=tY) (M:=fun(x:aa) (r:aa)=>CC Pg GE 91 [.agg (ac x)] (.agg (ac r)) [(3,36)]) (fun rec hrec x r h=>Ol _ (fun p r h=>hrec p r h) h) h
noncomputable def qhK:Code:=f65.body.getD .skip
def qeO:List Nat:=[46]
section
variable(v:waA)(v2:waB)(p:aa)(i:Int)(m:waB)
def IV:aC:=be 56 [(1,sl cS v),(2,sl ac v2),(3,.eptr (ac p)),(6,.bptr 1 0),(7,.int .i64 i)] [.dead,.cells [.int .i64 0,.str ([]:af),.int .i64 0,sl ac m] [(3,36)]] []
def qg(o:Bool):aC:=be 56 [(1,sl cS v),(2,sl ac v2),(3,.eptr (ac p)),(6,.bptr 1 0),(7,.int .i64 i),(25,.bool o)] [.dead,.cells [.int .i64 0,.str ([]:af),.int .i64 0,sl ac m] [(3,36)]] []
def tq:Option Bool:=
 if(decide (i>=0))=true then
  some (decide (i<(v2.length:Int)))
 else
  some false
theorem GY{x:Bool}(h:tq v2 i=some x):aV Pg GE 0 (cA qhK 106) (EX .normal (qg v v2 p i m x)) (IV v v2 p i m):=by
 rcases bj h with⟨c4,h⟩|⟨c4,h⟩
 ·obtain rfl:=lf h
  exact cf qeO (sg 3 c4<|cq (bL.ln v2)<|eF .normal (qg v v2 p i m (decide (i<(v2.length:Int)))))<|by kernel_rfl
 ·obtain rfl:=lf h
  exact cf qeO (sg 3 c4<|eF .normal (qg v v2 p i m false))<|by kernel_rfl
end
section
variable(v:waA)(v2:waB)(p:aa)(m:waB)
def IU:aC:=be 56 [(1,sl cS v),(2,sl ac v2),(3,.eptr (ac p)),(6,.bptr 1 0)] [.dead,.cells [.int .i64 0,.str ([]:af),.int .i64 0,sl ac m] [(3,36)]] []
def ku(o:(Int×af×Int×waB)⊕(Unit)):Exit:=match o with
 |(.inl _)=>.ret
 |(.inr _)=>.normal
def fN(o:(Int×af×Int×waB)⊕(Unit)):aC:=match o with
 |(.inl o)=>be 56 [(6,.bptr 1 0)] [.dead,.cells [.int .i64 o.1,.str o.2.1,.int .i64 o.2.2.1,sl ac o.2.2.2] [(3,36)]] []
 |(.inr o)=>be 56 [(1,sl cS v),(2,sl ac v2),(3,.eptr (ac p)),(6,.bptr 1 0)] [.dead,.cells [.int .i64 0,.str ([]:af),.int .i64 0,sl ac m] [(3,36)]] []
def nH:Option ((Int×af×Int×waB)⊕(Unit)):=
 if(p.Op==3)=true then
  (IJ v p.Name).bind fun r3=>
  (tq v2 r3).bind fun o5=>
  if o5=true then
   (cz v2 r3).bind fun x8=>
   (qA x8).bind fun r9=>
   some (.inl (r9.Op,r9.Name,r9.N,r9.Kids))
  else
   some (.inr ())
 else
  some (.inr ())
theorem vR{x:(Int×af×Int×waB)⊕(Unit)}(h:nH v v2 p=some x):aV Pg GE 0 (cA qhK 6) (EX (ku x) (fN v v2 p m x)) (IU v v2 p m):=by
 have p2:=fun{sc F} (r:PS sc F)=>sv (bE p)<|sv (bF p)<|r
 rcases bj h with⟨c1,h⟩|⟨c1,h⟩
 ·obtain⟨r3,br3,h⟩:=ay h
  obtain⟨o5,bo5,h⟩:=ay h
  have p7:=fun{sc F} (r:PS sc F)=>p2<|sg 0 c1<|sv (cw p)<|sv (cR p)<|bz (SX br3)<|ka 0<|cY (GY v v2 p r3 m bo5)<|r
  rcases bj h with⟨c6,h⟩|⟨c6,h⟩
  ·obtain⟨x8,bx8,h⟩:=ay h
   obtain⟨r9,br9,h⟩:=ay h
   obtain rfl:=lf h
   exact cf qeO (p7<|sg 0 c6<|sv (bL.ia (k:=.i64) bx8)<|sv (bh x8)<|bz (rQ br9)<|sy (aK r9)<|eF (ku (.inl (r9.Op,r9.Name,r9.N,r9.Kids))) (fN v v2 p m (.inl (r9.Op,r9.Name,r9.N,r9.Kids))))<|by kernel_rfl
  ·obtain rfl:=lf h
   exact cf qeO (p7<|sg 0 c6<|eF (ku (.inr ())) (fN v v2 p m (.inr ())))<|by kernel_rfl
 ·obtain rfl:=lf h
  exact cf qeO (p2<|sg 0 c1<|eF (ku (.inr ())) (fN v v2 p m (.inr ())))<|by kernel_rfl
end
section
variable(R64:pJ)(v:waA)(v2:waB)(t39:waB)(t40:Int)(m:waB)(m2:Int)(m3:af)(m4:Int)(t41:Int)(m5:waB)
def it:aC:=be 56 [(1,sl cS v),(2,sl ac v2),(6,.bptr 1 0),(8,.bptr 2 0),(39,sl ac t39),(40,.int .i64 t40),(41,.int .i64 t41)] [.dead,.cells [.int .i64 0,.str ([]:af),.int .i64 0,sl ac m] [(3,36)],.cells [.int .i64 m2,.str m3,.int .i64 m4,sl ac m5] [(3,36)]] []
def qh(o:waB):aC:=be 56 [(6,.bptr 1 0),(8,.bptr 2 0)] [.dead,.cells [.int .i64 0,.str ([]:af),.int .i64 0,sl ac m] [(3,36)],.cells [.int .i64 m2,.str m3,.int .i64 m4,sl ac o] [(3,36)]] []
def yh:Option ((Int×waB)⊕(waB)):=
 if(decide (t41<t40))=true then
  (cz t39 t41).bind fun x12=>
  (R64 x12 v v2).bind fun r13=>
  (app m5 ([r13]:List aa)).bind fun l14=>
  some (.inl (aS (t41+1),l14))
 else
  some (.inr m5)
def tr:Option waB:=loop (fun(zz:Int×waB)=>yh R64 v v2 t39 t40 zz.1 zz.2) (t41,m5)
theorem FE(hR64:uS R64){y:(Int×waB)⊕(waB)}(h:yh R64 v v2 t39 t40 t41 m5=some y):aV Pg GE 0 (cA qhK 247) (LQ (fun(zz:Int×waB)=>it v v2 t39 t40 m m2 m3 m4 zz.1 zz.2) (fun _=>.exit 0) (qh m m2 m3 m4) y) (it v v2 t39 t40 m m2 m3 m4 t41 m5):=by
 rcases bj h with⟨c11,h⟩|⟨c11,h⟩
 ·obtain⟨x12,bx12,h⟩:=ay h
  obtain⟨r13,br13,h⟩:=ay h
  obtain⟨l14,bl14,h⟩:=ay h
  obtain rfl:=lf h
  have z:=sg 0 c11<|sv (bL.ia (k:=.i64) bx12)<|sv (bh x12)<|sx ib<|sx (cr x12)<|lK [0,1,0,0,0,28,60,127,255,511]<|sv (bX x12 [])<|bz (hR64 _ _ _ _ br13)<|sv (bL.mk' (v:=dZ) cP ([r13]:List aa) 1 (by kernel_rfl))<|sv (bL.ap bl14)<|We (rfl:bK (sl ac l14)=some [sl ac l14])<|uP 0 .normal (it v v2 t39 t40 m m2 m3 m4 (aS (t41+1)) l14) rfl (dF (aI (up (aj dN v)) (aI (up (aj ah v2)) (aI (cZ rfl) (aI (cZ rfl) (aI (up (aj ah t39)) (aI trivial (aI trivial trivial)))))))) (aI trivial (aI (aI trivial (aI trivial (aI trivial (aI (up (aj ah m)) trivial)))) (aI (aI trivial (aI trivial (aI trivial (aI (up (aj ah l14)) trivial)))) trivial)))
  exact dh (A:=qeO) mixed z<|by kernel_rfl
 ·obtain rfl:=lf h
  have z:=sg 0 c11<|eF (.exit 0) (qh m m2 m3 m4 m5)
  exact gg qeO (by intro hx;cases hx) z<|by kernel_rfl
theorem GZ(hR64:uS R64){x:waB}(h:tr R64 v v2 t39 t40 t41 m5=some x):aV Pg GE 0 (.loop (cA qhK 247)) (EX (.exit 0) (qh m m2 m3 m4 x)) (it v v2 t39 t40 m m2 m3 m4 t41 m5):=
 aV.loop (S:=fun(zz:Int×waB)=>it v v2 t39 t40 m m2 m3 m4 zz.1 zz.2) (ex:=(fun _=>.exit 0)) (s:=(t41,m5)) h fun zz y hy=>FE R64 v v2 t39 t40 m m2 m3 m4 zz.1 zz.2 hR64 hy
end
def pR(R64:pJ)(p:aa)(a:waA)(a2:waB):Option aa:=
 (nH a a2 p).bind fun o10=>match o10 with
 |(.inl o10)=>
  some (⟨o10.1,o10.2.1,o10.2.2.1,o10.2.2.2⟩:aa)
 |(.inr o10)=>
  (tr R64 a a2 p.Kids (p.Kids.length:Int) 0 ([]:List aa)).bind fun o15=>
  some (⟨p.Op,p.Name,p.N,o15⟩:aa)
theorem KN(R64:pJ)(hR64:uS R64){p:aa}{a:waA}{a2:waB}{r:aa}(h:pR R64 p a a2=some r):CC Pg GE 65 [.agg (ac p),sl cS a,sl ac a2] (.agg (ac r)) [(3,36)]:=by
 obtain⟨o10,bo10,h⟩:=ay h
 rcases o10 with o10|o10
 ·obtain rfl:=lf h
  have z:=se (bU p)<|sx ib<|ka 0<|cY (e:=.ret) (s1:=fN a a2 p ([]:List aa) (.inl o10)) (vR a a2 p ([]:List aa) bo10)<|en (aI (dm (⟨o10.1,o10.2.1,o10.2.2.1,o10.2.2.2⟩:aa))<|aI (ah (⟨o10.1,o10.2.1,o10.2.2.1,o10.2.2.2⟩:aa))<|rT)
  exact bO qeO call65 func65 (c:=qhK) rfl (aI (ah p) (aI (aj dN a) (aI (aj ah a2) trivial))) z<|by kernel_rfl
 ·obtain⟨o15,bo15,h⟩:=ay h
  obtain rfl:=lf h
  have z:=se (bU p)<|sx ib<|ka 0<|cY (e:=.normal) (s1:=fN a a2 p ([]:List aa) (.inr o10)) (vR a a2 p ([]:List aa) bo10)<|sv (bE p)<|sv (bF p)<|sv (cw p)<|sv (cR p)<|sv (dG p)<|sv (dX p)<|sb (E5 p.Op p.Name p.N) (E3 p.Op p.Name p.N)<|sx ib<|sy (aK (⟨p.Op,p.Name,p.N,([]:List aa)⟩:aa))<|sv (bC p)<|sv (bD p)<|cq (bL.ln p.Kids)<|cY (GZ R64 a a2 p.Kids (p.Kids.length:Int) ([]:List aa) p.Op p.Name p.N 0 ([]:List aa) hR64 bo15)<|sz (bX (⟨p.Op,p.Name,p.N,o15⟩:aa) [])<|sy (aK (⟨p.Op,p.Name,p.N,o15⟩:aa))<|en (aI (dm (⟨p.Op,p.Name,p.N,o15⟩:aa))<|aI (ah (⟨p.Op,p.Name,p.N,o15⟩:aa))<|rT)
  exact bO qeO call65 func65 (c:=qhK) rfl (aI (ah p) (aI (aj dN a) (aI (aj ah a2) trivial))) z<|by kernel_rfl
def vA:((aa×waA×waB)->Option aa)->(aa×waA×waB)->Option aa:=fun(rec:(aa×waA×waB)->Option aa) (x:aa×waA×waB)=>pR (fun p a a2=>rec (p,a,a2)) x.1 x.2.1 x.2.2
def lJ(p:aa)(a:waA)(a2:waB):Option aa:=kK vA (p,a,a2)
theorem nI{p:aa}{a:waA}{a2:waB}{r:aa}(h:lJ p a a2=some r):CC Pg GE 65 [.agg (ac p),sl cS a,sl ac a2] (.agg (ac r)) [(3,36)]:=
 cG (F:=vA) (M:=fun(x:aa×waA×waB) (r:aa)=>CC Pg GE 65 [.agg (ac x.1),sl cS x.2.1,sl ac x.2.2] (.agg (ac r)) [(3,36)]) (fun rec hrec x r h=>KN _ (fun p a a2 r h=>hrec (p,a,a2) r h) h) h
noncomputable def qkf:Code:=f139.body.getD .skip
def qjW:List Nat:=[]
def di(s:am)(p:aa):Option aa:=
 (lJ p s.names s.by_).bind fun r1=>
 some r1
theorem gH{s:am}{p:aa}{r:aa}(h:di s p=some r):CC Pg GE 139 [.agg (aA s),.agg (ac p)] (.agg (ac r)) [(3,36)]:=by
 obtain⟨r1,br1,h⟩:=ay h
 obtain rfl:=lf h
 have z:=se (d4 s)<|se (bU p)<|sx ib<|sv (bh p)<|sv (ke s)<|sv (kM s)<|sv (gf s)<|sv (gD s)<|bz (nI br1)<|sy (aK r1)<|en (aI (dm r1)<|aI (ah r1)<|rT)
 exact bO qjW call139 func139 (c:=qkf) rfl (aI (bG s) (aI (ah p) trivial)) z<|by kernel_rfl
noncomputable def qgR:Code:=f140.body.getD .skip
def qgz:List Nat:=[14,21]
section
variable(v:am)(t8:waB)(t9:Int)(out:waB)(t10:Int)
def gR:aC:=be 22 [(1,.func (.func 139) [.agg (aA v)] []),(5,sl ac out),(8,sl ac t8),(9,.int .i64 t9),(10,.int .i64 t10)] [] [((5,0),36)]
def oh(o:waB):aC:=be 22 [(5,sl ac o)] [] [((5,0),36)]
def vS:Option ((waB×Int)⊕(waB)):=
 if(decide (t10<t9))=true then
  (cz t8 t10).bind fun x2=>
  (di v x2).bind fun r3=>
  (app out ([r3]:List aa)).bind fun l4=>
  some (.inl (l4,aS (t10+1)))
 else
  some (.inr out)
def rY:Option waB:=loop (fun(zz:waB×Int)=>vS v t8 t9 zz.1 zz.2) (out,t10)
theorem DH{y:(waB×Int)⊕(waB)}(h:vS v t8 t9 out t10=some y):aV Pg GE 0 (cA qgR 119) (LQ (fun(zz:waB×Int)=>gR v t8 t9 zz.1 zz.2) (fun _=>.exit 0) oh y) (gR v t8 t9 out t10):=by
 rcases bj h with⟨c1,h⟩|⟨c1,h⟩
 ·obtain⟨x2,bx2,h⟩:=ay h
  obtain⟨r3,br3,h⟩:=ay h
  obtain⟨l4,bl4,h⟩:=ay h
  obtain rfl:=lf h
  have z:=sg 0 c1<|sv (bL.ia (k:=.i64) bx2)<|sv (bh x2)<|sx ib<|sx (cr x2)<|sv (bX x2 [])<|bz (gH br3)<|sv (bL.mk' (v:=dZ) cP ([r3]:List aa) 1 (by kernel_rfl))<|sv (bL.ap bl4)<|uP 0 .normal (gR v t8 t9 l4 (aS (t10+1))) rfl (dF (aI (aI (aI (up (bG v)) trivial) trivial) (aI (up (aj ah l4)) (aI (up (aj ah t8)) (aI trivial (aI trivial trivial)))))) trivial
  exact dh (A:=qgz) mixed z<|by kernel_rfl
 ·obtain rfl:=lf h
  have z:=sg 0 c1<|eF (.exit 0) (oh out)
  exact gg qgz (by intro hx;cases hx) z<|by kernel_rfl
theorem FJ{x:waB}(h:rY v t8 t9 out t10=some x):aV Pg GE 0 (.loop (cA qgR 119)) (EX (.exit 0) (oh x)) (gR v t8 t9 out t10):=
 aV.loop (S:=fun(zz:waB×Int)=>gR v t8 t9 zz.1 zz.2) (ex:=(fun _=>.exit 0)) (s:=(out,t10)) h fun zz y hy=>DH v t8 t9 zz.1 zz.2 hy
end
def mZ(a:waB)(c:am):Option waB:=
 (rY c a (a.length:Int) ([]:List aa) 0).bind fun o5=>
 some o5
theorem zl{a:waB}{c:am}{r:waB}(h:mZ a c=some r):CC Pg GE 140 [sl ac a,.func (.func 139) [.agg (aA c)] []] (sl ac r) [(0,36)]:=by
 obtain⟨o5,bo5,h⟩:=ay h
 obtain rfl:=lf h
 have z:=cq (bL.ln a)<|cY (FJ c a (a.length:Int) ([]:List aa) 0 bo5)<|en (aI (rP (sl ac o5))<|(aj ah o5))
 exact bO qgz call140 func140 (c:=qgR) rfl (aI (aj ah a) (aI (aI (aI (bG c) trivial) trivial) trivial)) z<|by kernel_rfl
noncomputable def qgU:Code:=f151.body.getD .skip
def qgB:List Nat:=[13,18]
section
variable(t7:waB)(t8:Int)(out:waA)(t9:Int)
def dD:aC:=be 19 [(3,sl cS out),(7,sl ac t7),(8,.int .i64 t8),(9,.int .i64 t9)] [.dead] [((3,0),9)]
def fP(o:waA):aC:=be 19 [(3,sl cS o)] [.dead] [((3,0),9)]
def fO:Option ((waA×Int)⊕(waA)):=
 if(decide (t9<t8))=true then
  (cz t7 t9).bind fun x2=>
  (tp x2).bind fun r3=>
  (app out r3).bind fun l4=>
  some (.inl (l4,aS (t9+1)))
 else
  some (.inr out)
def gG:Option waA:=loop (fun(zz:waA×Int)=>fO t7 t8 zz.1 zz.2) (out,t9)
theorem rZ{y:(waA×Int)⊕(waA)}(h:fO t7 t8 out t9=some y):aV Pg GE 0 (cA qgU 119) (LQ (fun(zz:waA×Int)=>dD t7 t8 zz.1 zz.2) (fun _=>.exit 0) fP y) (dD t7 t8 out t9):=by
 rcases bj h with⟨c1,h⟩|⟨c1,h⟩
 ·obtain⟨x2,bx2,h⟩:=ay h
  obtain⟨r3,br3,h⟩:=ay h
  obtain⟨l4,bl4,h⟩:=ay h
  obtain rfl:=lf h
  have z:=sg 0 c1<|sv (bL.ia (k:=.i64) bx2)<|sv (bh x2)<|sx ib<|sx (cr x2)<|sv (bX x2 [])<|bz (KK br3)<|sv (bq.ap bl4)<|uP 0 .normal (dD t7 t8 l4 (aS (t9+1))) rfl (dF (aI (up (aj dN l4)) (aI (up (aj ah t7)) (aI trivial (aI trivial trivial))))) (aI trivial trivial)
  exact dh (A:=qgB) mixed z<|by kernel_rfl
 ·obtain rfl:=lf h
  have z:=sg 0 c1<|eF (.exit 0) (fP out)
  exact gg qgB (by intro hx;cases hx) z<|by kernel_rfl
theorem sC{x:waA}(h:gG t7 t8 out t9=some x):aV Pg GE 0 (.loop (cA qgU 119)) (EX (.exit 0) (fP x)) (dD t7 t8 out t9):=
 aV.loop (S:=fun(zz:waA×Int)=>dD t7 t8 zz.1 zz.2) (ex:=(fun _=>.exit 0)) (s:=(out,t9)) h fun zz y hy=>rZ t7 t8 zz.1 zz.2 hy
end
def ek(s:am):Option waA:=
 (gG s.by_ (s.by_.length:Int) ([]:List af) 0).bind fun o5=>
 some o5
theorem kX{s:am}{r:waA}(h:ek s=some r):CC Pg GE 151 [.agg (aA s)] (sl cS r) [(0,9)]:=by
 obtain⟨o5,bo5,h⟩:=ay h
 obtain rfl:=lf h
 have z:=se (d4 s)<|sv (gf s)<|sv (gD s)<|cq (bL.ln s.by_)<|cY (sC s.by_ (s.by_.length:Int) ([]:List af) 0 bo5)<|en (aI (rP (sl cS o5))<|(aj dN o5))
 exact bO qgB call151 func151 (c:=qgU) rfl (aI (bG s) trivial) z<|by kernel_rfl
abbrev rn:=(ae->Option waA)
abbrev wM(R:rn):Prop:=∀(t:ae) (r:waA),R t=some r->CC Pg GE 152 [.agg (ag t)] (sl cS r) [(0,9)]
noncomputable def qir:Code:=f157.body.getD .skip
def qh0:List Nat:=[]
def mY(t:ae)(i:Int):Option waA:=
 if(t.Op !=6)=true then
  some ([]:List af)
 else
  (Ot t.Names none (some (if(t.Names.length:Int)<i then(t.Names.length:Int)else i))).bind fun l3=>
  some l3
theorem KU{t:ae}{i:Int}{r:waA}(h:mY t i=some r):CC Pg GE 157 [.agg (ag t),.int .i64 i] (sl cS r) []:=by
 have p2:=fun{sc F} (r:PS sc F)=>se (bw t)<|sv (aD t)<|sv (aE t)<|r
 rcases bj h with⟨c1,h⟩|⟨c1,h⟩
 ·obtain rfl:=lf h
  have z:=p2<|sg 0 c1<|en (aI (rP (sl cS ([]:List af)))<|(aj dN ([]:List af)))
  exact bO qh0 call157 func157 (c:=qir) rfl (aI (ak t) (aI trivial trivial)) z<|by kernel_rfl
 ·obtain⟨l3,bl3,h⟩:=ay h
  obtain rfl:=lf h
  have z:=p2<|sg 0 c1<|sv (aQ t)<|sv (aR t)<|sv (aQ t)<|sv (aR t)<|cq (bq.ln t.Names)<|sv (bq.sc bl3)<|en (aI (rP (sl cS l3))<|(aj dN l3))
  exact bO qh0 call157 func157 (c:=qir) rfl (aI (ak t) (aI trivial trivial)) z<|by kernel_rfl
end Go.Proofs.YtbaamopmfmpfaaaGreatDoor
