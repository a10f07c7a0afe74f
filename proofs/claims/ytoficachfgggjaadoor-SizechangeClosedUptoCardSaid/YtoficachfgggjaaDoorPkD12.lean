/- PROVED: a part of the proof. Conditions: none. -/
import Derived.Test.YtoficachfgggjaaDoorPkD11
import Derived.Test.YtoficachfgggjaaDoorPkD8
import Derived.Test.YtoficachfgggjaaDoorPkD7
noncomputable section
namespace Go.Proofs.YtoficachfgggjaaDoor
open Go Go.Proofs.Tryd
set_option linter.unusedVariables false
set_option maxRecDepth 100000
noncomputable def Gm:Code:=f23.body.getD .skip
def FK:List Nat:=[15]
section
variable(v:waA)(v2:waA)(t12:Int)(t13:Int)
def eY:ak:=cJ 27 [(0,sl ac v),(1,sl ac v2),(12,.int .i64 t12),(13,.int .i64 t13)] [] []
def e5(o:Unit⊕(Unit)):Exit:=match o with
 |(.inl _)=>.ret
 |(.inr _)=>.exit 0
def dP(o:Unit⊕(Unit)):ak:=match o with
 |(.inl o)=>cJ 27 [(4,.bool false)] [] []
 |(.inr o)=>cJ 27 [] [] []
def eZ:Option (Int⊕(Unit⊕(Unit))):=
 if(decide (t13<t12))=true then
  (ep v t13).bind fun x4=>
  (ep v2 t13).bind fun x5=>
  (lm x4 x5).bind fun r6=>
  if(!r6)=true then
   some (.inr (.inl ()))
  else
   some (.inl (bU (t13+1)))
 else
  some (.inr (.inr ()))
def lp:Option (Unit⊕(Unit)):=loop (fun(zz:Int)=>eZ v v2 t12 zz) t13
theorem qX{y:Int⊕(Unit⊕(Unit))}(h:eZ v v2 t12 t13=some y):aL Pg GE 0 (cA Gm 119) (LQ (fun(zz:Int)=>eY v v2 t12 zz) e5 dP y) (eY v v2 t12 t13):=by
 rcases bC h with⟨c3,h⟩|⟨c3,h⟩
 ·obtain⟨x4,bx4,h⟩:=aC h
  obtain⟨x5,bx5,h⟩:=aC h
  obtain⟨r6,br6,h⟩:=aC h
  have p8:=fun{sc F} (r:PS sc F)=>sg 0 c3<|Aj [0,0,3,7,0,0,48,112,255,511]<|sv (cQ.ia (k:=.i64) bx4)<|sv (aU x4)<|sv (cQ.ia (k:=.i64) bx5)<|sv (aU x5)<|eb (y1 br6)<|r
  rcases bC h with⟨c7,h⟩|⟨c7,h⟩
  ·obtain rfl:=lf h
   have z:=p8<|sg 0 c7<|eF (e5 (.inl ())) (dP (.inl ()))
   exact ny FK (by intro hx;cases hx) z<|by kernel_rfl
  ·obtain rfl:=lf h
   exact yl FK (p8<|sg 0 c7<|eF .normal (eY v v2 t12 (bU (t13+1))))<|by kernel_rfl
 ·obtain rfl:=lf h
  have z:=sg 0 c3<|eF (e5 (.inr ())) (dP (.inr ()))
  exact ny FK (by intro hx;cases hx) z<|by kernel_rfl
theorem mh{x:Unit⊕(Unit)}(h:lp v v2 t12 t13=some x):aL Pg GE 0 (.loop (cA Gm 119)) (EX (e5 x) (dP x)) (eY v v2 t12 t13):=
 aL.loop (S:=fun(zz:Int)=>eY v v2 t12 zz) (ex:=e5) (s:=t13) h fun zz y hy=>qX v v2 t12 zz hy
end
def mg(a:waA)(a2:waA):Option Bool:=
 if((a.length:Int)!=(a2.length:Int))=true then
  some false
 else
  (lp a a2 (a.length:Int) 0).bind fun o9=>match o9 with
  |(.inl o9)=>
   some false
  |(.inr o9)=>
   some true
theorem uY{a:waA}{a2:waA}{r:Bool}(h:mg a a2=some r):CC Pg GE 23 [sl ac a,sl ac a2] (.bool r) []:=by
 have p2:=fun{sc F} (r:PS sc F)=>g8 (cQ.ln a)<|g8 (cQ.ln a2)<|r
 rcases bC h with⟨c1,h⟩|⟨c1,h⟩
 ·obtain rfl:=lf h
  have z:=p2<|sg 0 c1<|en (aI (rP (.bool false))<|trivial)
  exact cT FK call23 func23 (c:=Gm) rfl (aI (aw af a) (aI (aw af a2) trivial)) z<|by kernel_rfl
 ·obtain⟨o9,bo9,h⟩:=aC h
  rcases o9 with o9|o9
  ·obtain rfl:=lf h
   have z:=p2<|sg 0 c1<|g8 (cQ.ln a)<|gq (e:=.ret) (s1:=dP (.inl o9)) (mh a a2 (a.length:Int) 0 bo9)<|en (aI (rP (.bool false))<|trivial)
   exact cT FK call23 func23 (c:=Gm) rfl (aI (aw af a) (aI (aw af a2) trivial)) z<|by kernel_rfl
  ·obtain rfl:=lf h
   have z:=p2<|sg 0 c1<|g8 (cQ.ln a)<|gq (e:=.exit 0) (s1:=dP (.inr o9)) (mh a a2 (a.length:Int) 0 bo9)<|en (aI (rP (.bool true))<|trivial)
   exact cT FK call23 func23 (c:=Gm) rfl (aI (aw af a) (aI (aw af a2) trivial)) z<|by kernel_rfl
noncomputable def GW:Code:=f24.body.getD .skip
def F0:List Nat:=[]
section
variable(g:aa)(t7:waA)(t8:Int)(t9:Int)
def ja:ak:=cJ 17 [(3,.eptr (ac g)),(7,sl ac t7),(8,.int .i64 t8),(9,.int .i64 t9)] [.dead] []
def jb(o:Unit⊕(Unit)):Exit:=match o with
 |(.inl _)=>.ret
 |(.inr _)=>.exit 0
def gU(o:Unit⊕(Unit)):ak:=match o with
 |(.inl o)=>cJ 17 [(4,.bool true)] [.dead] []
 |(.inr o)=>cJ 17 [] [.dead] []
def od:Option (Int⊕(Unit⊕(Unit))):=
 if(decide (t9<t8))=true then
  (ep t7 t9).bind fun x2=>
  (dH x2 g).bind fun r3=>
  if r3=true then
   some (.inr (.inl ()))
  else
   some (.inl (bU (t9+1)))
 else
  some (.inr (.inr ()))
def q5:Option (Unit⊕(Unit)):=loop (fun(zz:Int)=>od g t7 t8 zz) t9
theorem va{y:Int⊕(Unit⊕(Unit))}(h:od g t7 t8 t9=some y):aL Pg GE 0 (cA GW 55) (LQ (fun(zz:Int)=>ja g t7 t8 zz) jb gU y) (ja g t7 t8 t9):=by
 rcases bC h with⟨c1,h⟩|⟨c1,h⟩
 ·obtain⟨x2,bx2,h⟩:=aC h
  obtain⟨r3,br3,h⟩:=aC h
  have p5:=fun{sc F} (r:PS sc F)=>sg 0 c1<|sv (cQ.ia (k:=.i64) bx2)<|sv (aU x2)<|sx qB<|sx (dG x2)<|sv (bD x2 [])<|sv (aU g)<|eb (iC br3)<|r
  rcases bC h with⟨c4,h⟩|⟨c4,h⟩
  ·obtain rfl:=lf h
   have z:=p5<|sg 0 c4<|tc 0 (jb (.inl ())) (gU (.inl ())) rfl (eR (aI trivial trivial)) (aI trivial trivial)
   exact kp (A:=F0) mixed (by intro hx;cases hx) z<|by kernel_rfl
  ·obtain rfl:=lf h
   have z:=p5<|sg 0 c4<|tc 0 .normal (ja g t7 t8 (bU (t9+1))) rfl (eR (aI (mH (af g)) (aI (up (aw af t7)) (aI trivial (aI trivial trivial))))) (aI trivial trivial)
   exact iz (A:=F0) mixed z<|by kernel_rfl
 ·obtain rfl:=lf h
  have z:=sg 0 c1<|eF (jb (.inr ())) (gU (.inr ()))
  exact ny F0 (by intro hx;cases hx) z<|by kernel_rfl
theorem qG{x:Unit⊕(Unit)}(h:q5 g t7 t8 t9=some x):aL Pg GE 0 (.loop (cA GW 55)) (EX (jb x) (gU x)) (ja g t7 t8 t9):=
 aL.loop (S:=fun(zz:Int)=>ja g t7 t8 zz) (ex:=jb) (s:=t9) h fun zz y hy=>va g t7 t8 zz hy
end
def oc(a:waA)(g:aa):Option Bool:=
 (q5 g a (a.length:Int) 0).bind fun o6=>match o6 with
 |(.inl o6)=>
  some true
 |(.inr o6)=>
  some false
theorem vb{a:waA}{g:aa}{r:Bool}(h:oc a g=some r):CC Pg GE 24 [sl ac a,.agg (ac g)] (.bool r) []:=by
 obtain⟨o6,bo6,h⟩:=aC h
 rcases o6 with o6|o6
 ·obtain rfl:=lf h
  have z:=se (df g)<|g8 (cQ.ln a)<|gq (e:=.ret) (s1:=gU (.inl o6)) (qG g a (a.length:Int) 0 bo6)<|en (aI (rP (.bool true))<|trivial)
  exact cT F0 call24 func24 (c:=GW) rfl (aI (aw af a) (aI (af g) trivial)) z<|by kernel_rfl
 ·obtain rfl:=lf h
  have z:=se (df g)<|g8 (cQ.ln a)<|gq (e:=.exit 0) (s1:=gU (.inr o6)) (qG g a (a.length:Int) 0 bo6)<|en (aI (rP (.bool false))<|trivial)
  exact cT F0 call24 func24 (c:=GW) rfl (aI (aw af a) (aI (af g) trivial)) z<|by kernel_rfl
noncomputable def b7:Code:=Tryd.f7.body.getD .skip
def A7:List Nat:=[42,43]
section
variable(v:waA)(all:waA)(t39:Int)(turned:waA)(t40:Int)
def bL:ak:=cJ 108 [(0,sl ac v),(3,sl ac all),(5,sl ac turned),(39,.int .i64 t39),(40,.int .i64 t40)] [] [((5,0),24)]
def ew(o:waA):ak:=cJ 108 [(0,sl ac v),(3,sl ac all),(5,sl ac o)] [] [((5,0),24)]
def bM:Option ((waA×Int)⊕(waA)):=
 if(decide (t40<t39))=true then
  (ep all (bU ((bU ((all.length:Int) - 1)) - t40))).bind fun x14=>
  (app turned ([x14]:List aa)).bind fun l15=>
  some (.inl (l15,bU (t40+1)))
 else
  some (.inr turned)
def du:Option waA:=loop (fun(zz:waA×Int)=>bM all t39 zz.1 zz.2) (turned,t40)
theorem kH{y:(waA×Int)⊕(waA)}(h:bM all t39 turned t40=some y):aL Pg GE 0 (cA b7 2039) (LQ (fun(zz:waA×Int)=>bL v all t39 zz.1 zz.2) (fun _=>.exit 0) (ew v all) y) (bL v all t39 turned t40):=by
 rcases bC h with⟨c13,h⟩|⟨c13,h⟩
 ·obtain⟨x14,bx14,h⟩:=aC h
  obtain⟨l15,bl15,h⟩:=aC h
  obtain rfl:=lf h
  exact yl A7 (sg 0 c13<|g8 (cQ.ln all)<|sv (cQ.ia (k:=.i64) bx14)<|sv (aU x14)<|sv (cQ.mk' (v:=nO) lI ([x14]:List aa) 1 (by kernel_rfl))<|sv (cQ.ap bl15)<|eF .normal (bL v all t39 l15 (bU (t40+1))))<|by kernel_rfl
 ·obtain rfl:=lf h
  have z:=sg 0 c13<|eF (.exit 0) (ew v all turned)
  exact ny A7 (by intro hx;cases hx) z<|by kernel_rfl
theorem lx{x:waA}(h:du all t39 turned t40=some x):aL Pg GE 0 (.loop (cA b7 2039)) (EX (.exit 0) (ew v all x)) (bL v all t39 turned t40):=
 aL.loop (S:=fun(zz:waA×Int)=>bL v all t39 zz.1 zz.2) (ex:=(fun _=>.exit 0)) (s:=(turned,t40)) h fun zz y hy=>kH v all t39 zz.1 zz.2 hy
end
section
variable(v:waA)(all:waA)(again:waA)(f:Int)
def lS:ak:=cJ 108 [(0,sl ac v),(3,sl ac all),(7,sl ac again),(8,.int .i64 f)] [] []
def er(o:Bool):ak:=cJ 108 [(0,sl ac v),(3,sl ac all),(67,.bool o)] [] []
def dt:Option Bool:=
 if(f !=0)=true then
  some true
 else
  (mg again all).bind fun r19=>
  some (!r19)
theorem lu{x:Bool}(h:dt all again f=some x):aL Pg GE 0 (cA b7 2044) (EX .normal (er v all x)) (lS v all again f):=by
 rcases bC h with⟨c18,h⟩|⟨c18,h⟩
 ·obtain rfl:=lf h
  exact kj A7 (sg 3 c18<|eF .normal (er v all true))<|by kernel_rfl
 ·obtain⟨r19,br19,h⟩:=aC h
  obtain rfl:=lf h
  exact kj A7 (sg 3 c18<|eb (uY br19)<|eF .normal (er v all (!r19)))<|by kernel_rfl
end
section
variable(all:waA)(t68:waA)(t69:Int)(t70:Int)
def bN:ak:=cJ 108 [(3,sl ac all),(68,sl ac t68),(69,.int .i64 t69),(70,.int .i64 t70)] [] []
def bO(o:Unit⊕(Unit)):Exit:=match o with
 |(.inl _)=>.ret
 |(.inr _)=>.exit 2
def aR(o:Unit⊕(Unit)):ak:=match o with
 |(.inl o)=>cJ 108 [(2,.bool false)] [] []
 |(.inr o)=>cJ 108 [(3,sl ac all)] [] []
def ey:Option (Int⊕(Unit⊕(Unit))):=
 if(decide (t70<t69))=true then
  (ep t68 t70).bind fun x24=>
  (oc all x24).bind fun r25=>
  if(!r25)=true then
   some (.inr (.inl ()))
  else
   some (.inl (bU (t70+1)))
 else
  some (.inr (.inr ()))
def dv:Option (Unit⊕(Unit)):=loop (fun(zz:Int)=>ey all t68 t69 zz) t70
theorem kI{y:Int⊕(Unit⊕(Unit))}(h:ey all t68 t69 t70=some y):aL Pg GE 0 (cA b7 16375) (LQ (fun(zz:Int)=>bN all t68 t69 zz) bO (aR all) y) (bN all t68 t69 t70):=by
 rcases bC h with⟨c23,h⟩|⟨c23,h⟩
 ·obtain⟨x24,bx24,h⟩:=aC h
  obtain⟨r25,br25,h⟩:=aC h
  have p27:=fun{sc F} (r:PS sc F)=>sg 0 c23<|sv (cQ.ia (k:=.i64) bx24)<|sv (aU x24)<|sx qB<|sx (dG x24)<|sv (bD x24 [])<|eb (vb br25)<|r
  rcases bC h with⟨c26,h⟩|⟨c26,h⟩
  ·obtain rfl:=lf h
   have z:=p27<|sg 0 c26<|tc 0 (bO (.inl ())) (aR all (.inl ())) rfl (eR (aI trivial trivial)) trivial
   exact kp (A:=A7) mixed (by intro hx;cases hx) z<|by kernel_rfl
  ·obtain rfl:=lf h
   have z:=p27<|sg 0 c26<|tc 0 .normal (bN all t68 t69 (bU (t70+1))) rfl (eR (aI (up (aw af all)) (aI (up (aw af t68)) (aI trivial (aI trivial trivial))))) trivial
   exact iz (A:=A7) mixed z<|by kernel_rfl
 ·obtain rfl:=lf h
  have z:=sg 0 c23<|eF (bO (.inr ())) (aR all (.inr ()))
  exact ny A7 (by intro hx;cases hx) z<|by kernel_rfl
theorem dR{x:Unit⊕(Unit)}(h:dv all t68 t69 t70=some x):aL Pg GE 0 (.loop (cA b7 16375)) (EX (bO x) (aR all x)) (bN all t68 t69 t70):=
 aL.loop (S:=fun(zz:Int)=>bN all t68 t69 zz) (ex:=bO) (s:=t70) h fun zz y hy=>kI all t68 t69 zz hy
end
section
variable(all:waA)(g:Int)(t80:Int)(t81:Int)(t86:Int)(t87:Int)(m:ah)(m2:ah)(m3:waB)(m4:ah)(m5:ah)(m6:waB)(m7:ah)(m8:ah)(m9:waB)
def lT:ak:=cJ 108 [(3,sl ac all),(12,.bptr 0 0),(15,.bptr 2 0),(16,.int .i64 g),(79,sl ac all),(80,.int .i64 t80),(81,.int .i64 t81),(85,sl ac all),(86,.int .i64 t86),(87,.int .i64 t87)] [.cells [.str m,.str m2,sl am m3] [],.cells [.str m4,.str m5,sl am m6] [],.cells [.str m7,.str m8,sl am m9] []] []
def eu(o:Bool):ak:=cJ 108 [(3,sl ac all),(12,.bptr 0 0),(79,sl ac all),(80,.int .i64 t80),(81,.int .i64 t81),(85,sl ac all),(86,.int .i64 t86),(87,.int .i64 t87),(104,.bool o)] [.cells [.str m,.str m2,sl am m3] [],.cells [.str m4,.str m5,sl am m6] [],.cells [.str m7,.str m8,sl am m9] []] []
def cm:Option Bool:=
 if(g==0)=true then
  (oc all (⟨m7,m8,m9⟩:aa)).bind fun r35=>
  some (!r35)
 else
  some false
theorem lw{x:Bool}(h:cm all g m7 m8 m9=some x):aL Pg GE 0 (cA b7 1073475566) (EX .normal (eu all t80 t81 t86 t87 m m2 m3 m4 m5 m6 m7 m8 m9 x)) (lT all g t80 t81 t86 t87 m m2 m3 m4 m5 m6 m7 m8 m9):=by
 rcases bC h with⟨c34,h⟩|⟨c34,h⟩
 ·obtain⟨r35,br35,h⟩:=aC h
  obtain rfl:=lf h
  exact kj A7 (sg 3 c34<|sv (bD (⟨m7,m8,m9⟩:aa) [])<|eb (vb br35)<|eF .normal (eu all t80 t81 t86 t87 m m2 m3 m4 m5 m6 m7 m8 m9 (!r35)))<|by kernel_rfl
 ·obtain rfl:=lf h
  exact kj A7 (sg 3 c34<|eF .normal (eu all t80 t81 t86 t87 m m2 m3 m4 m5 m6 m7 m8 m9 false))<|by kernel_rfl
end
section
variable(all:waA)(t80:Int)(t81:Int)(t86:Int)(m:ah)(m2:ah)(m3:waB)(t87:Int)
def bS:ak:=cJ 108 [(3,sl ac all),(12,.bptr 0 0),(79,sl ac all),(80,.int .i64 t80),(81,.int .i64 t81),(85,sl ac all),(86,.int .i64 t86),(87,.int .i64 t87)] [.cells [.str m,.str m2,sl am m3] []] []
def bT(o:Unit⊕(Unit)):Exit:=match o with
 |(.inl _)=>.ret
 |(.inr _)=>.exit 6
def a8(o:Unit⊕(Unit)):ak:=match o with
 |(.inl o)=>cJ 108 [(2,.bool false)] [.cells [.str m,.str m2,sl am m3] []] []
 |(.inr o)=>cJ 108 [(3,sl ac all),(79,sl ac all),(80,.int .i64 t80),(81,.int .i64 t81)] [.cells [.str m,.str m2,sl am m3] []] []
def ez:Option (Int⊕(Unit⊕(Unit))):=
 if(decide (t87<t86))=true then
  (ep all t87).bind fun x32=>
  (cj (⟨m,m2,m3⟩:aa) x32).bind fun r33=>
  (cm all r33.2 r33.1.Caller r33.1.Callee r33.1.Arcs).bind fun o36=>
  if o36=true then
   some (.inr (.inl ()))
  else
   some (.inl (bU (t87+1)))
 else
  some (.inr (.inr ()))
def dy:Option (Unit⊕(Unit)):=loop (fun(zz:Int)=>ez all t86 m m2 m3 zz) t87
theorem kK{y:Int⊕(Unit⊕(Unit))}(h:ez all t86 m m2 m3 t87=some y):aL Pg GE 0 (cA b7 8386527) (LQ (fun(zz:Int)=>bS all t80 t81 t86 m m2 m3 zz) bT (a8 all t80 t81 m m2 m3) y) (bS all t80 t81 t86 m m2 m3 t87):=by
 rcases bC h with⟨c31,h⟩|⟨c31,h⟩
 ·obtain⟨x32,bx32,h⟩:=aC h
  obtain⟨r33,br33,h⟩:=aC h
  obtain⟨o36,bo36,h⟩:=aC h
  have p38:=fun{sc F} (r:PS sc F)=>sg 0 c31<|sv (cQ.ia (k:=.i64) bx32)<|sv (aU x32)<|sx qB<|sx (dG x32)<|sv (bD (⟨m,m2,m3⟩:aa) [])<|sv (bD x32 [])<|eb (jB br33)<|sx qB<|sx (dG r33.1)<|wJ 0<|gq (lw all r33.2 t80 t81 t86 t87 m m2 m3 x32.Caller x32.Callee x32.Arcs r33.1.Caller r33.1.Callee r33.1.Arcs bo36)<|r
  rcases bC h with⟨c37,h⟩|⟨c37,h⟩
  ·obtain rfl:=lf h
   have z:=p38<|sg 0 c37<|tc 0 (bT (.inl ())) (a8 all t80 t81 m m2 m3 (.inl ())) rfl (eR (aI trivial trivial)) (aI (aI trivial (aI trivial (aI (up (aw aM m3)) trivial))) trivial)
   exact kp (A:=A7) mixed (by intro hx;cases hx) z<|by kernel_rfl
  ·obtain rfl:=lf h
   have z:=p38<|sg 0 c37<|tc 0 .normal (bS all t80 t81 t86 m m2 m3 (bU (t87+1))) rfl (eR (aI (up (aw af all)) (aI (mr rfl) (aI (up (aw af all)) (aI trivial (aI trivial (aI (up (aw af all)) (aI trivial (aI trivial trivial))))))))) (aI (aI trivial (aI trivial (aI (up (aw aM m3)) trivial))) trivial)
   exact iz (A:=A7) mixed z<|by kernel_rfl
 ·obtain rfl:=lf h
  have z:=sg 0 c31<|eF (bT (.inr ())) (a8 all t80 t81 m m2 m3 (.inr ()))
  exact ny A7 (by intro hx;cases hx) z<|by kernel_rfl
theorem gy{x:Unit⊕(Unit)}(h:dy all t86 m m2 m3 t87=some x):aL Pg GE 0 (.loop (cA b7 8386527)) (EX (bT x) (a8 all t80 t81 m m2 m3 x)) (bS all t80 t81 t86 m m2 m3 t87):=
 aL.loop (S:=fun(zz:Int)=>bS all t80 t81 t86 m m2 m3 zz) (ex:=bT) (s:=t87) h fun zz y hy=>kK all t80 t81 t86 m m2 m3 zz hy
end
section
variable(all:waA)(t80:Int)(t81:Int)
def bP:ak:=cJ 108 [(3,sl ac all),(79,sl ac all),(80,.int .i64 t80),(81,.int .i64 t81)] [] []
def bR(o:Unit⊕(Unit)):Exit:=match o with
 |(.inl _)=>.ret
 |(.inr _)=>.exit 4
def a7(o:Unit⊕(Unit)):ak:=match o with
 |(.inl o)=>cJ 108 [(2,.bool false)] [] []
 |(.inr o)=>cJ 108 [] [] []
def bQ:Option (Int⊕(Unit⊕(Unit))):=
 if(decide (t81<t80))=true then
  (ep all t81).bind fun x30=>
  (dy all (all.length:Int) x30.Caller x30.Callee x30.Arcs 0).bind fun o39=>match o39 with
  |(.inl o39)=>
   some (.inr (.inl ()))
  |(.inr o39)=>
   some (.inl (bU (t81+1)))
 else
  some (.inr (.inr ()))
def dw:Option (Unit⊕(Unit)):=loop (fun(zz:Int)=>bQ all t80 zz) t81
theorem kJ{y:Int⊕(Unit⊕(Unit))}(h:bQ all t80 t81=some y):aL Pg GE 0 (cA b7 32759) (LQ (fun(zz:Int)=>bP all t80 zz) bR a7 y) (bP all t80 t81):=by
 rcases bC h with⟨c29,h⟩|⟨c29,h⟩
 ·obtain⟨x30,bx30,h⟩:=aC h
  obtain⟨o39,bo39,h⟩:=aC h
  rcases o39 with o39|o39
  ·obtain rfl:=lf h
   have z:=sg 0 c29<|sv (cQ.ia (k:=.i64) bx30)<|sv (aU x30)<|sx qB<|sx (dG x30)<|g8 (cQ.ln all)<|gq (e:=.ret) (s1:=a8 all t80 t81 x30.Caller x30.Callee x30.Arcs (.inl o39)) (gy all t80 t81 (all.length:Int) x30.Caller x30.Callee x30.Arcs 0 bo39)<|tc 0 (bR (.inl ())) (a7 (.inl ())) rfl (eR (aI trivial trivial)) trivial
   exact kp (A:=A7) mixed (by intro hx;cases hx) z<|by kernel_rfl
  ·obtain rfl:=lf h
   have z:=sg 0 c29<|sv (cQ.ia (k:=.i64) bx30)<|sv (aU x30)<|sx qB<|sx (dG x30)<|g8 (cQ.ln all)<|gq (e:=.exit 6) (s1:=a8 all t80 t81 x30.Caller x30.Callee x30.Arcs (.inr o39)) (gy all t80 t81 (all.length:Int) x30.Caller x30.Callee x30.Arcs 0 bo39)<|tc 0 .normal (bP all t80 (bU (t81+1))) rfl (eR (aI (up (aw af all)) (aI (up (aw af all)) (aI trivial (aI trivial trivial))))) trivial
   exact iz (A:=A7) mixed z<|by kernel_rfl
 ·obtain rfl:=lf h
  have z:=sg 0 c29<|eF (bR (.inr ())) (a7 (.inr ()))
  exact ny A7 (by intro hx;cases hx) z<|by kernel_rfl
theorem gw{x:Unit⊕(Unit)}(h:dw all t80 t81=some x):aL Pg GE 0 (.loop (cA b7 32759)) (EX (bR x) (a7 x)) (bP all t80 t81):=
 aL.loop (S:=fun(zz:Int)=>bP all t80 zz) (ex:=bR) (s:=t81) h fun zz y hy=>kJ all t80 zz hy
end
def gv (a:waA):Option Bool :=
 (uG 4 a).bind fun r1=>
 if(!r1)=true then
  kW.bind fun r3=>
  some r3
 else
  (av a).bind fun r4=>
  if(r4.2 !=0)=true then
   if((r4.1.length:Int)==0)=true then
    kW.bind fun r9=>
    some r9
   else
    some false
  else
   if(decide ((r4.1.length:Int)>60))=true then
    kW.bind fun r12=>
    some r12
   else
    (du r4.1 (r4.1.length:Int) ([]:List aa) 0).bind fun o16=>
    (av o16).bind fun r17=>
    (dt r4.1 r17.1 r17.2).bind fun o20=>
    if o20=true then
     some false
    else
     (dv r4.1 a (a.length:Int) 0).bind fun o28=>match o28 with
     |(.inl o28)=>
      some false
     | (.inr o28) =>
      (dw r4.1 (r4.1.length:Int) 0).bind fun o40=>match o40 with
      |(.inl o40)=>
       some false
      |(.inr o40)=>
       kW.bind fun r41=>
       some r41
theorem nf{a:waA}{r:Bool}(h:gv a=some r):CC Pg GE 7 [sl ac a] (.bool r) []:=by
 obtain⟨r1,br1,h⟩:=aC h
 rcases bC h with⟨c2,h⟩|⟨c2,h⟩
 ·obtain⟨r3,br3,h⟩:=aC h
  obtain rfl:=lf h
  have z:=eb (u9 br1)<|sg 0 c2<|eb (kL br3)<|en (aI (rP (.bool r3))<|trivial)
  exact cT A7 call7 func7 (c:=b7) rfl (aI (aw af a) trivial) z<|by kernel_rfl
 ·obtain⟨r4,br4,h⟩:=aC h
  have p6:=fun{sc F} (r:PS sc F)=>eb (u9 br1)<|sg 0 c2<|eb (bY br4)<|r
  rcases bC h with⟨c5,h⟩|⟨c5,h⟩
  ·have p8:=fun{sc F} (r:PS sc F)=>p6<|sg 0 c5<|g8 (cQ.ln r4.1)<|r
   rcases bC h with⟨c7,h⟩|⟨c7,h⟩
   ·obtain⟨r9,br9,h⟩:=aC h
    obtain rfl:=lf h
    have z:=p8<|sg 4 c7<|eb (kL br9)<|en (aI (rP (.bool r9))<|trivial)
    exact cT A7 call7 func7 (c:=b7) rfl (aI (aw af a) trivial) z<|by kernel_rfl
   ·obtain rfl:=lf h
    have z:=p8<|sg 4 c7<|en (aI (rP (.bool false))<|trivial)
    exact cT A7 call7 func7 (c:=b7) rfl (aI (aw af a) trivial) z<|by kernel_rfl
  ·have p11:=fun{sc F} (r:PS sc F)=>p6<|sg 0 c5<|g8 (cQ.ln r4.1)<|r
   rcases bC h with⟨c10,h⟩|⟨c10,h⟩
   ·obtain⟨r12,br12,h⟩:=aC h
    obtain rfl:=lf h
    have z:=p11<|sg 0 c10<|eb (kL br12)<|en (aI (rP (.bool r12))<|trivial)
    exact cT A7 call7 func7 (c:=b7) rfl (aI (aw af a) trivial) z<|by kernel_rfl
   ·obtain⟨o16,bo16,h⟩:=aC h
    obtain⟨r17,br17,h⟩:=aC h
    obtain⟨o20,bo20,h⟩:=aC h
    have p22:=fun{sc F} (r:PS sc F)=>p11<|sg 0 c10<|g8 (cQ.ln r4.1)<|gq (lx a r4.1 (r4.1.length:Int) ([]:List aa) 0 bo16)<|eb (bY br17)<|wJ 1<|gq (lu a r4.1 r17.1 r17.2 bo20)<|r
    rcases bC h with⟨c21,h⟩|⟨c21,h⟩
    ·obtain rfl:=lf h
     have z:=p22<|sg 0 c21<|en (aI (rP (.bool false))<|trivial)
     exact cT A7 call7 func7 (c:=b7) rfl (aI (aw af a) trivial) z<|by kernel_rfl
    ·obtain⟨o28,bo28,h⟩:=aC h
     rcases o28 with o28|o28
     ·obtain rfl:=lf h
      have z:=p22<|sg 0 c21<|g8 (cQ.ln a)<|gq (e:=.ret) (s1:=aR r4.1 (.inl o28)) (dR r4.1 a (a.length:Int) 0 bo28)<|en (aI (rP (.bool false))<|trivial)
      exact cT A7 call7 func7 (c:=b7) rfl (aI (aw af a) trivial) z<|by kernel_rfl
     ·obtain⟨o40,bo40,h⟩:=aC h
      rcases o40 with o40|o40
      ·obtain rfl:=lf h
       have z:=p22<|sg 0 c21<|g8 (cQ.ln a)<|gq (e:=.exit 2) (s1:=aR r4.1 (.inr o28)) (dR r4.1 a (a.length:Int) 0 bo28)<|g8 (cQ.ln r4.1)<|gq (e:=.ret) (s1:=a7 (.inl o40)) (gw r4.1 (r4.1.length:Int) 0 bo40)<|en (aI (rP (.bool false))<|trivial)
       exact cT A7 call7 func7 (c:=b7) rfl (aI (aw af a) trivial) z<|by kernel_rfl
      ·obtain⟨r41,br41,h⟩:=aC h
       obtain rfl:=lf h
       have z:=p22<|sg 0 c21<|g8 (cQ.ln a)<|gq (e:=.exit 2) (s1:=aR r4.1 (.inr o28)) (dR r4.1 a (a.length:Int) 0 bo28)<|g8 (cQ.ln r4.1)<|gq (e:=.exit 4) (s1:=a7 (.inr o40)) (gw r4.1 (r4.1.length:Int) 0 bo40)<|eb (kL br41)<|en (aI (rP (.bool r41))<|trivial)
       exact cT A7 call7 func7 (c:=b7) rfl (aI (aw af a) trivial) z<|by kernel_rfl
open Go
set_option linter.unusedSimpArgs false
def Bo(l:List ah)(s:ah):Int:=match l.findIdx? (fun x=>x==s)with|some j=>(j:Int)|none=>-1
theorem yZ(l:List ah)(s:ah)(hl:l.length<9223372036854775808):uS l s=some (Bo l s):=by
 unfold uS tU
 have:=te l hl (fun zz=>jK l s l.length zz) (fun x=>x==s) (fun j=>Sum.inl (j:Int)) (Sum.inr ()) (fun i h=>by
  simp only[jK]
  rw[vae (by simp;omega),d9 _ i h]
  simp only[vaa]
  split<;>simp_all) (by simp only[jK];rw[vag (by simp)])
 rw[this]
 unfold Bo
 cases l.findIdx? (fun x=>x==s)<;>rfl
theorem yd(l:List ah)(s:ah):decide (Bo l s>=0)=l.any fun k=>k==s:=by
 unfold Bo
 cases h:l.findIdx? (fun x=>x==s)with
 |none=>
  rw[vce]at h
  symm
  simp only[vbr]
  rw[show decide ((-1:Int)>=0)=false from rfl]
  simp only[vbr,Bool.not_eq_true]
  exact h
 | some j =>
  have h2:l.any (fun x=>x==s)=true:=by
   have:=vcz (xs:=l) (p:=fun x=>x==s)
   rw[h]at this
   exact this.symm
  rw[h2]
  simp
def bm(c:Int):Bool:=decide (97<=c)&&decide (c<=122)
def lB(c:Int):Bool:=decide (65<=c)&&decide (c<=90)
def qP(c:Int):Bool:=decide (48<=c)&&decide (c<=57)
theorem jn(c:Int):gI c=some (bm c):=by unfold gI bm;split<;>simp_all<;>omega
theorem nr(c:Int):ij c=some (lB c):=by unfold ij lB;split<;>simp_all<;>omega
theorem lE(c:Int):iJ c=some (qP c):=by unfold iJ qP;split<;>simp_all<;>omega
theorem gO(c:Int):iD c=some (bm c):=by unfold iD bm;split<;>simp_all<;>omega
theorem lh(c:Int):j1 c=some (lB c):=by unfold j1 lB;split<;>simp_all<;>omega
theorem kD(c:Int):kV c=some (qP c):=by unfold kV qP;split<;>simp_all<;>omega
def fu(b:UInt8):Bool:=bm b.toNat||qP b.toNat||(b.toNat:Int)==95
def dS(b:UInt8):Bool:=bm b.toNat||lB b.toNat||qP b.toNat
def gN(s:ah):Bool:=decide ((s.length:Int)>=1)&&decide ((s.length:Int)<=24)
def EG(s:ah):Bool:=aV.any fun k=>k==s
def jy(p:Int->Bool)(s:ah):Bool:=match s with|[]=>false|c::_=>p c.toNat
abbrev yQ(s:ah):Prop:=s.length<9223372036854775808
theorem lG(s:ah):iK s=some (gN s):=by
 unfold iK gN
 by_cases h:(s.length:Int)>=1
 ·rw[vae (decide_eq_true h),decide_eq_true h];rfl
 ·rw[vag (by simpa using h),decide_eq_false h];rfl
theorem tq(s:ah):jU s=some (EG s):=by
 unfold jU jG
 have h42:aV.length=42:=rfl
 have:=ig aV (by rw[h42];omega) (fun zz=>dX s zz) (fun k=>k==s) (Sum.inl ()) (Sum.inr ()) (fun i h=>by
  rw[h42]at h
  simp only[dX]
  rw[vae (by simp;omega),d9 _ i (by rw[h42];omega)]
  simp only[vaa]
  split<;>simp_all) (by simp only[dX];rw[vag (by rw[h42];simp)]) 0 (vaJ _)
 simp only[Int.ofNat_zero,vbe]at this
 rw[this]
 unfold EG
 cases aV.any (fun k=>k==s)<;>rfl
theorem ur:rE=some aV:=rfl
theorem uT(s:ah):pr s=some (EG s):=by
 unfold pr
 have h42:aV.length=42:=rfl
 rw[ur]
 simp only[vaa]
 rw[yZ _ _ (by rw[h42];omega)]
 simp only[vaa,yd]
 rfl
def ji(s:ah):Bool:=gN s&&jy bm s&&!EG s&&s.all fu
def gg(s:ah):Bool:=gN s&&jy lB s&&s.all dS&&!(s==[73,110,116])&&!(s==[66,111,111,108])&&!(s==[67,101,108,108])&&!(s==[70,117,110])
def pM(b:Bool):Int:=if b then 0 else 3
theorem tP{s:ah}(h:gN s=true):∃c r,s=c::r:=by
 cases s with
 |nil=>simp[gN]at h
 |cons c r=>exact⟨c,r,rfl⟩
theorem tz(s:ah)(i:Nat)(h:i<s.length):jW s i=some (!fu s[i]):=by
 unfold jW fu
 simp only[ie s i h,vaa,jn,lE]
 cases bm (s[i].toNat:Int)<;>cases qP (s[i].toNat:Int)<;>simp[bne]
theorem uk(s:ah)(i:Nat)(h:i<s.length):nR s i=some (!fu s[i]):=by
 unfold nR fu
 simp only[ie s i h,vaa,gO,kD]
 cases bm (s[i].toNat:Int)<;>cases qP (s[i].toNat:Int)<;>simp[bne]
theorem tB(s:ah)(hs:yQ s)(i:Nat)(hi:i<=s.length):jX s i=some (if(s.drop i).any (fun b=>!fu b)=true then .inl ()else .inr ()):=by
 unfold jX
 refine ig s hs _ (fun b=>!fu b) _ _ (fun j h=>?_) ?_ i hi
 ·simp only[it]
  rw[vae (by simp;omega),tz s j h]
  simp only[vaa]
  split<;>simp_all
 ·simp only[it];rw[vag (by simp)]
theorem ul(s:ah)(hs:yQ s):nS s s.length 0=some (if s.any (fun b=>!fu b)=true then .inl ()else .inr ()):=by
 unfold nS
 have:=ig s hs (fun zz=>iS s s.length zz) (fun b=>!fu b) (.inl ()) (.inr ()) (fun j h=>by
  simp only[iS]
  rw[vae (by simp;omega),uk s j h]
  simp only[vaa]
  split<;>simp_all) (by simp only[iS];rw[vag (by simp)]) 0 (vaJ _)
 simpa using this
theorem xD{b:UInt8}(h:bm b.toNat=true):fu b=true:=by simp[fu,h]
theorem tw(s:ah):jV s=some (!(gN s&&jy bm s&&!EG s)):=by
 unfold jV
 rw[lG]
 simp only[vaa]
 by_cases h:gN s=true
 ·obtain⟨c,r,rfl⟩:=tP h
  simp only[h,nj,vaa,jn,tq,jy]
  cases bm (c.toNat:Int)<;>simp
 ·simp[h]
theorem w3(s:ah)(hs:yQ s):oB s=some (ji s):=by
 unfold oB ji
 rw[tw]
 simp only[vaa]
 by_cases h:(gN s&&jy bm s&&!EG s)=true
 ·have hs1:gN s=true:=by revert h;cases gN s<;>simp
  obtain⟨c,r,rfl⟩:=tP hs1
  have hc:bm (c.toNat:Int)=true:=by revert h;simp[jy];intro _ h _;exact h
  have hL:=tB (c::r) hs 1 (by simp)
  simp only[Int.ofNat_one]at hL
  rw[h,hL]
  simp only[List.drop_succ_cons,vbe,List.all_cons,xD hc,vbl]
  rw[vbg]
  simp only[vb2]
  cases r.all fu<;>simp
 ·simp[h]
theorem uj(s:ah):nQ s=some (!(gN s&&jy bm s&&!EG s)):=by
 unfold nQ gN
 cases s with
 |nil=>simp
 | cons c r =>
  have h1:¬(((c::r).length:Int)<1):=by simp;omega
  have h2:(((c::r).length:Int)>=1):=by omega
  simp only[h1,h2,decide_false,decide_true,vbl,var,if_false,nj,vaa,gO,uT,jy]
  by_cases h:(((c::r).length:Int)>24)
  ·have h':¬(((c::r).length:Int)<=24):=by omega
   simp only[h,h',decide_true,decide_false,if_true]
   simp
  ·have h':(((c::r).length:Int)<=24):=by omega
   simp only[h,h',decide_true,decide_false,if_false,var]
   cases bm (c.toNat:Int)<;>simp
theorem xK(s:ah)(hs:yQ s):sX s=some (pM (ji s)):=by
 unfold sX
 rw[uj,ul s hs]
 unfold ji pM
 cases(gN s&&jy bm s&&!EG s)with
 |false=>simp
 |true=>
  simp only[vaa,vbA,var,if_false,vbl]
  rw[vbg]
  simp only[vb2]
  cases s.all fu<;>simp
theorem mK(s:ah)(i:Nat)(h:i<s.length):ea s i=some (!dS s[i]):=by
 unfold ea dS
 simp only[ie s i h,vaa,jn,nr,lE]
 cases bm (s[i].toNat:Int)<;>cases lB (s[i].toNat:Int)<;>simp
theorem uo(s:ah)(i:Nat)(h:i<s.length):nU s i=some (!dS s[i]):=by
 unfold nU dS
 simp only[ie s i h,vaa,gO,lh,kD]
 cases bm (s[i].toNat:Int)<;>cases lB (s[i].toNat:Int)<;>simp
theorem jz(s:ah)(hs:yQ s):dZ s=some (s.all dS):=by
 unfold dZ fW
 have:=ig s hs (fun zz=>cp s zz) (fun b=>!dS b) (.inl ()) (.inr ()) (fun j h=>by
  simp only[cp]
  rw[vae (by simp;omega),mK s j h]
  simp only[vaa]
  split<;>simp_all) (by simp only[cp];rw[vag (by simp)]) 0 (vaJ _)
 simp only[Int.ofNat_zero,vbe]at this
 rw[this,vbg]
 simp only[vb2]
 cases s.all dS<;>rfl
theorem sE(s:ah)(hs:yQ s):jp s=some (!(gN s&&jy lB s&&s.all dS)):=by
 unfold jp
 rw[lG]
 simp only[vaa]
 by_cases h:gN s=true
 ·obtain⟨c,r,rfl⟩:=tP h
  simp only[h,nj,vaa,nr,jz _ hs,jy]
  cases lB (c.toNat:Int)<;>simp
 ·simp[h]
theorem v7(s:ah)(hs:yQ s):mt s=some (gg s):=by
 unfold mt gg
 rw[sE s hs]
 simp only[vaa]
 cases(gN s&&jy lB s&&s.all dS)<;>cases(s==[73,110,116])<;>cases(s==[66,111,111,108])<;>cases(s==[67,101,108,108])<;>cases(s==[70,117,110])<;>rfl
theorem um(s:ah):nT s=some (!(gN s&&jy lB s&&!(s==[73,110,116])&&!(s==[66,111,111,108])&&!(s==[67,101,108,108])&&!(s==[70,117,110]))):=by
 unfold nT gN
 cases s with
 |nil=>simp
 | cons c r =>
  have h1:¬(((c::r).length:Int)<1):=by simp;omega
  have h2:(((c::r).length:Int)>=1):=by omega
  simp only[h1,h2,decide_false,decide_true,vbl,var,if_false,nj,vaa,lh,jy]
  by_cases h:(((c::r).length:Int)>24)
  ·have h':¬(((c::r).length:Int)<=24):=by omega
   simp only[h,h',decide_true,decide_false,if_true]
   simp
  ·have h':(((c::r).length:Int)<=24):=by omega
   simp only[h,h',decide_true,decide_false,if_false,var]
   cases lB (c.toNat:Int)<;>cases(c::r==[73,110,116])<;>cases(c::r==[66,111,111,108])<;>cases(c::r==[67,101,108,108])<;>cases(c::r==[70,117,110])<;>rfl
theorem uq(s:ah)(hs:yQ s):nV s s.length 0=some (if s.any (fun b=>!dS b)=true then .inl ()else .inr ()):=by
 unfold nV
 have:=ig s hs (fun zz=>iT s s.length zz) (fun b=>!dS b) (.inl ()) (.inr ()) (fun j h=>by
  simp only[iT]
  rw[vae (by simp;omega),uo s j h]
  simp only[vaa]
  split<;>simp_all) (by simp only[iT];rw[vag (by simp)]) 0 (vaJ _)
 simpa using this
theorem xL(s:ah)(hs:yQ s):sY s=some (pM (gg s)):=by
 unfold sY
 rw[um,uq s hs]
 unfold gg pM
 rw[vbg]
 simp only[vb2]
 cases(gN s&&jy lB s)<;>cases s.all dS<;>cases(s==[73,110,116])<;>cases(s==[66,111,111,108])<;>cases(s==[67,101,108,108])<;>cases(s==[70,117,110])<;>rfl
theorem C4(b:UInt8):((b.toNat:Int)==46)=(b==46):=by
 rw[vbt]
 simp only[vaE]
 constructor
 ·intro h
  have:b.toNat=46:=by omega
  exact UInt8.toNat_inj.1 this
 ·rintro rfl;rfl
def fF:ah->List ah
 |[]=>[[]]
 |c::r=>if(c==46)=true then[]::fF r else match fF r with
  |[]=>[[c]]
  |h::t=>(c::h)::t
def sN(p:ah):List ah->List ah
 |[]=>[p]
 |h::t=>(p++h)::t
theorem mj:∀(s:ah),fF s≠[]
 |[]=>by simp[fF]
 | c :: r => by
  unfold fF
  split
  ·simp
  ·split<;>simp
theorem tb(c:UInt8)(r:ah)(h:¬(c==46)=true):fF (c::r)=sN [c] (fF r):=by
 conv=>lhs;unfold fF
 rw[vag h]
 cases fF r<;>rfl
theorem xz(p q:ah)(l:List ah):sN p (sN q l)=sN (p++q) l:=by cases l<;>simp[sN]
theorem ws{l:List ah}(h:l≠[]):sN [] l=l:=by cases l with
 |nil=>exact absurd rfl h
 |cons=>rfl
theorem vB:∀(p s:ah),p.all (fun c=>!(c==46))=true->fF (p++s)=sN p (fF s)
 |[],s,_=>(ws (mj s)).symm
 |c::p,s,h=>by
  rw[List.all_cons,vac]at h
  rw[vcn,tb _ _ (by simpa using h.1),vB p s h.2,xz]
  rfl
theorem vC:∀(s:ah),(fF s).length<=s.length+1/\∀x∈fF s,x.length<=s.length
 |[]=>by simp[fF]
 | c :: r => by
  obtain⟨h1,h2⟩:=vC r
  by_cases h:(c==46)=true
  ·unfold fF
   rw[vae h]
   refine⟨by simp;omega,fun x hx=>?_⟩
   rw[vay]at hx
   rcases hx with rfl|hx
   ·simp
   ·have:=h2 x hx;simp;omega
  ·rw[tb c r h]
   cases hd:fF r with
   |nil=>exact absurd hd (mj r)
   | cons a t =>
    rw[hd]at h1 h2
    refine⟨by simpa[sN]using Nat.le_succ_of_le h1,fun x hx=>?_⟩
    simp only[sN,vay]at hx
    rcases hx with rfl|hx
    ·have:=h2 a (by simp);simp;omega
    ·have:=h2 x (by simp[hx]);simp;omega
def g4(s:ah):ah×ah×Bool:=match s.findIdx? (fun c=>c==46)with
 |some j=>(s.take j,s.drop (j+1),true)
 |none=>(s,[],false)
theorem sA(s:ah)(hs:yQ s):nv s=some (g4 s):=by
 unfold nv oA
 have:=te s hs (fun zz=>gG s zz) (fun c=>c==46) (fun j=>Sum.inl (s.take j,s.drop (j+1))) (Sum.inr ()) (fun i h=>by
  simp only[gG]
  rw[vae (by simp;omega),ie s i h]
  simp only[vaa,C4]
  by_cases hd:(s[i]==46)=true
  ·rw[vae hd,vae hd,AY s i (by omega)]
   have hs':s.length<9223372036854775808:=hs
   have e:bU ((i:Int)+1)=((i+1:Nat):Int):=by rw[cR (by omega) (by omega)];omega
   rw[e]
   simp only[vaa,sV s (i+1) (by omega)]
  ·rw[vag hd,vag hd]) (by simp only[gG];rw[vag (by simp)])
 rw[this]
 unfold g4
 cases s.findIdx? (fun c=>c==46)<;>rfl
theorem zo(s:ah):fF s=if(g4 s).2.2=true then(g4 s).1::fF (g4 s).2.1 else[(g4 s).1]:=by
 unfold g4
 cases h:s.findIdx? (fun c=>c==46)with
 |none=>
  rw[vce]at h
  have:=vB s [] (by simp only[van,vaM];exact h)
  rw[vbx]at this
  simp only[var,if_false]
  rw[this]
  simp[fF,sN]
 | some j =>
  rw[vbT]at h
  obtain⟨hj,h1,h2⟩:=h
  have e:s=s.take j++s[j]::s.drop (j+1):=by
   conv=>lhs;rw[<-vcs j s]
   rw[vba hj]
  have:=vB (s.take j) (s[j]::s.drop (j+1)) (by
   simp only[van,vaM]
   intro x hx
   obtain⟨i,hi,rfl⟩:=List.getElem_of_mem hx
   rw[List.getElem_take]
   have hi':i<j:=by simp at hi;omega
   simpa using h2 i hi')
  rw[<-e]at this
  simp only[if_true]
  rw[this]
  conv=>lhs;arg 2;unfold fF
  rw[vae h1]
  simp[sN]
theorem zm(s:ah):(g4 s).1.length<=s.length/\(g4 s).2.1.length<=s.length/\((g4 s).2.2=true->(g4 s).2.1.length<s.length):=by
 unfold g4
 cases h:s.findIdx? (fun c=>c==46)with
 |none=>simp
 |some j=>
  rw[vbT]at h
  obtain⟨hj,_⟩:=h
  simp
  omega
def Ag(p:ah):Bool:=(p.isEmpty||jy bm p)&&p.all fu
def gD(p:ah):Bool:=gN p&&(p.all dS||Ag p)
theorem xA{α X:Type}(p:Nat->α->Bool)(q:α->Bool)(y e:X)(k:Nat)(h:∀i x,k<=i->p i x=q x):∀(l:List α) (i:Nat),k<=i->kh (fun i x (_:Unit)=>if p i x=true then Sum.inr y else .inl ()) (fun _=>e) l i ()=if l.any q=true then y else e
 |[],i,_=>by simp[kh]
 | x :: l,i,hk => by
  have ih:=xA p q y e k h l (i+1) (by omega)
  unfold kh
  rw[h i x hk]
  by_cases hq:q x=true
  ·simp[hq]
  ·simp only[hq,if_false,ih,List.any_cons,vck,var]
theorem tD(s:ah)(i:Nat)(h:i<s.length):jY s i=some (if i=0 then !bm s[i].toNat else !fu s[i]):=by
 unfold jY fu
 simp only[ie s i h,vaa,jn,lE]
 by_cases h0:i=0
 ·subst h0
  cases bm ((s[0]).toNat:Int)<;>simp
 ·have:((i:Int)==0)=false:=by simp;omega
  simp only[this,vag h0]
  cases bm (s[i].toNat:Int)<;>cases qP (s[i].toNat:Int)<;>simp[bne]
theorem w4(s:ah)(hs:yQ s):oC s=some (Ag s):=by
 unfold oC mM
 have:=nk s hs (fun i (_:Unit)=>i) (fun zz=>fO s zz) (fun _ _=>True) (fun i x _=>if(if i=0 then !bm x.toNat else !fu x)=true then .inr (.inl ())else .inl ()) (fun _=>.inr ()) (fun i h t _=>⟨by
  simp only[fO]
  rw[vae (by simp;omega),tD s i h]
  simp only[vaa]
  cases(if i=0 then !bm s[i].toNat else !fu s[i])<;>rfl,fun _ _=>trivial⟩) (fun t _=>by simp only[fO];rw[vag (by simp)]) 0 () (vaJ _) trivial
 simp only[Int.ofNat_zero,vbe]at this
 rw[this]
 cases s with
 |nil=>rfl
 | cons c r =>
  unfold kh Ag jy
  simp only[if_true,List.isEmpty_cons,vck,List.all_cons]
  by_cases hc:bm c.toNat=true
  ·have:=xA (X:=Unit⊕Unit) (fun i (x:UInt8)=>if i=0 then !bm x.toNat else !fu x) (fun x=>!fu x) (.inl ()) (.inr ()) 1 (fun i x hi=>by rw[vag (by omega)]) r 1 (vap _)
   simp only[hc,vbA,var,if_false,xD hc,vbl,vaB]
   rw[this,vbg]
   simp only[vb2]
   cases r.all fu<;>rfl
  ·simp[hc]
theorem tk(p:ah)(hs:yQ p):jT p=some (!gD p):=by
 unfold jT gD
 rw[lG,jz p hs,w4 p hs]
 cases gN p<;>cases p.all dS<;>simp
theorem kw(r:ah):dO r false=some (.inr ()):=aK rfl
theorem lD:∀(k:Nat) (r:ah),r.length<k->yQ r->dO r true=some (if(!(fF r).all gD)=true then .inl ()else .inr ())
 |0,r,hk,_=>absurd hk (by omega)
 | k + 1,r,hk,hs => by
  obtain⟨c1,c2,c3⟩:=zm r
  have hs':r.length<9223372036854775808:=hs
  have hb:eB r true=some (if(!gD (g4 r).1)=true then .inr (.inl ())else .inl ((g4 r).2.1,(g4 r).2.2)):=by
   simp only[eB,if_true,sA r hs,vaa]
   rw[tk _ (show _<_ by omega)]
   simp only[vaa]
   cases gD (g4 r).1<;>rfl
  rw[zo r]
  unfold dO
  by_cases hp:gD (g4 r).1=true
  ·rw[hp]at hb
   refine(dc (body:=fun zz:ah×Bool=>eB zz.1 zz.2) (s:=(r,true)) (s':=((g4 r).2.1,(g4 r).2.2)) hb).trans ?_
   cases hm:(g4 r).2.2 with
   |false=>
    have:=kw (g4 r).2.1
    unfold dO at this
    rw[this]
    simp[hp]
   |true=>
    have c4:=c3 hm
    have:=lD k (g4 r).2.1 (by omega) (show _<_ by omega)
    unfold dO at this
    rw[this]
    simp[hp]
  ·have hp':gD (g4 r).1=false:=by simpa using hp
   rw[hp']at hb
   refine(aK (body:=fun zz:ah×Bool=>eB zz.1 zz.2) (s:=(r,true)) hb).trans ?_
   cases(g4 r).2.2<;>simp[hp']
theorem tp(r:ah)(more:Bool)(hs:yQ r):dO r more=some (if(more&&!(fF r).all gD)=true then .inl ()else .inr ()):=by
 cases more with
 |false=>exact kw r
 |true=>exact lD (r.length+1) r (by omega) hs
def dF(s:ah):Bool:=decide (s.length<=120)&&match fF s with
 |[]=>false
 |f::r=>(ji f||gg f||(f==[118]&&!r.isEmpty))&&r.all gD
theorem ti(f:ah)(hf:yQ f)(more:Bool):jS f more=some (!(ji f||gg f||(f==[118]&&more))):=by
 unfold jS
 rw[w3 f hf,v7 f hf]
 simp only[vaa]
 cases ji f<;>cases gg f<;>cases(f==[118])<;>simp
theorem qR(s:ah):lC s=some (pM (dF s)):=by
 unfold lC dF pM
 by_cases h:s.length<=120
 ·have h1:¬((s.length:Int)>120):=by omega
  obtain⟨c1,c2,c3⟩:=zm s
  simp only[h1,h,decide_false,decide_true,var,if_false,vbl,sA s (show _<_ by omega),vaa]
  rw[ti _ (show _<_ by omega),tp _ _ (show _<_ by omega),zo s]
  simp only[vaa]
  cases hm:(g4 s).2.2 with
  |false=>
   by_cases hn:ji (g4 s).1=true<;>by_cases ht:gg (g4 s).1=true<;>simp[hn,ht]
  | true =>
   have:(fF (g4 s).2.1).isEmpty=false:=by
    cases hd:fF (g4 s).2.1 with
    |nil=>exact absurd hd (mj _)
    |cons=>rfl
   simp only[this,if_true,Bool.not_false,Bool.and_true,vbl]
   cases(ji (g4 s).1||gg (g4 s).1||(g4 s).1==[118])<;>cases(fF (g4 s).2.1).all gD<;>simp
 ·have h1:((s.length:Int)>120):=by omega
  simp[h1,h]
theorem mC(s:ah):∀(r:ah) (i b:Nat) (out o:List ah) (b':Nat),s.drop i=r->i+r.length=s.length->b<=i->((s.take i).drop b).all (fun c=>!(c==46))=true->
  kh (fun i x (t:List ah×Nat)=>if(x==46)=true then(Sum.inl (t.1++[(s.take i).drop t.2],i+1):(List ah×Nat)⊕(List ah×Nat))else .inl t) (fun t=>t) r i (out,b)=(o,b')->
  b'<=s.length/\o++[s.drop b']=out++sN ((s.take i).drop b) (fF r)
 |[],i,b,out,o,b',h1,h2,h3,h4,h=>by
  simp only[kh,Prod.mk.injEq]at h
  obtain⟨rfl,rfl⟩:=h
  have:i=s.length:=by simpa using h2
  subst this
  simp[fF,sN,h3]
 | c :: r,i,b,out,o,b',h1,h2,h3,h4,h => by
  have hi:i<s.length:=by simp at h2;omega
  rw[vba hi]at h1
  injection h1 with h1a h1b
  unfold kh at h
  by_cases hc:(c==46)=true
  ·simp only[hc,if_true]at h
   have ih:=mC s r (i+1) (i+1) _ o b' h1b (by simp at h2;omega) (vap _) (by simp) h
   refine⟨ih.1,?_⟩
   rw[ih.2]
   have e:(s.take (i+1)).drop (i+1)=[]:=by simp
   rw[e,ws (mj r)]
   conv=>rhs;arg 2;arg 2;unfold fF
   rw[vae hc]
   simp[sN]
  ·simp only[hc,if_false,var]at h
   have e:(s.take (i+1)).drop b=(s.take i).drop b++[c]:=by
    rw[vbU hi,List.drop_append_of_le_length (by simp;omega),h1a]
   have ih:=mC s r (i+1) b _ o b' h1b (by simp at h2;omega) (by omega) (by rw[e,List.all_append,h4];simpa using hc) h
   refine⟨ih.1,?_⟩
   rw[ih.2,e,tb c r hc,xz]
theorem Eo{α:Type}(l:List α)(a b:Nat)(h:a<=b)(h2:b<=l.length):Aa l (some (a:Int)) (some (b:Int))=some ((l.take b).drop a):=by
 simp[Aa,bd,h,h2]
theorem xN(s:ah)(hs:s.length<=1000000):sZ s=some (fF s):=by
 unfold sZ rG
 have:=nk s (by omega) (fun i (t:List ah×Nat)=>(t.1,(t.2:Int),i)) (fun zz=>iU s s.length zz.1 zz.2.1 zz.2.2) (fun i t=>t.2<=i/\t.1.length<=i)
  (fun i x (t:List ah×Nat)=>if(x==46)=true then(Sum.inl (t.1++[(s.take i).drop t.2],i+1):(List ah×Nat)⊕(List ah×Int))else .inl t) (fun t=>(t.1,(t.2:Int))) (fun i h t hI=>by
   refine⟨?_,fun t' ht=>?_⟩
   ·simp only[iU]
    rw[vae (by simp;omega),ie s i h]
    simp only[vaa,C4]
    by_cases hd:(s[i]==46)=true
    ·rw[vae hd,vae hd,Eo s _ _ hI.1 (by omega)]
     simp only[vaa]
     rw[mE (by simp;omega)]
     have e:bU ((i:Int)+1)=((i+1:Nat):Int):=by rw[cR (by omega) (by omega)];omega
     rw[e]
     rfl
    ·rw[vag hd,vag hd]
   ·by_cases hd:(s[i]==46)=true
    ·rw[vae hd]at ht;cases ht;simp;omega
    ·rw[vag hd]at ht;cases ht;omega) (fun t _=>by simp only[iU];rw[vag (by simp)]) 0 ([],0) (vaJ _) ⟨vap _,vap _⟩
 simp only[Int.ofNat_zero,vbe]at this
 rw[this]
 obtain⟨o,b',hr⟩:∃o b',kh (fun i x (t:List ah×Nat)=>if(x==46)=true then(Sum.inl (t.1++[(s.take i).drop t.2],i+1):(List ah×Nat)⊕(List ah×Nat))else .inl t) (fun t=>t) s 0 ([],0)=(o,b'):=⟨_,_,rfl⟩
 have key:∀(l:ah) (i:Nat) (t:List ah×Nat),kh (fun i x (t:List ah×Nat)=>if(x==46)=true then(Sum.inl (t.1++[(s.take i).drop t.2],i+1):(List ah×Nat)⊕(List ah×Int))else .inl t) (fun t=>(t.1,(t.2:Int))) l i t=
   ((kh (fun i x (t:List ah×Nat)=>if(x==46)=true then(Sum.inl (t.1++[(s.take i).drop t.2],i+1):(List ah×Nat)⊕(List ah×Nat))else .inl t) (fun t=>t) l i t).1,
    ((kh (fun i x (t:List ah×Nat)=>if(x==46)=true then(Sum.inl (t.1++[(s.take i).drop t.2],i+1):(List ah×Nat)⊕(List ah×Nat))else .inl t) (fun t=>t) l i t).2:Int)):=by
  intro l
  induction l with
  |nil=>intro i t;rfl
  | cons x l ih =>
   intro i t
   unfold kh
   by_cases hx:(x==46)=true
   ·simp only[hx,if_true,ih]
   ·simp only[hx,if_false,ih,var]
 rw[key,hr]
 obtain⟨h1,h2⟩:=mC s s 0 0 [] o b' rfl (by simp) (vap _) (by simp) hr
 simp only[vaa]
 rw[sV s b' h1]
 simp only[vaa]
 have hd:=(vC s).1
 have h3:o++[s.drop b']=fF s:=by rw[h2];simp[ws (mj s)]
 have h4:o.length+1=(fF s).length:=by rw[<-h3];simp
 rw[mE (by simp;omega),h3]
 rfl
theorem uV(p:ah)(plain:Bool)(i:Nat)(h:i<p.length):pu p plain i=some (plain&&dS p[i]):=by
 unfold pu dS
 simp only[ie p i h,vaa,gO,lh,kD]
 cases plain<;>cases bm (p[i].toNat:Int)<;>cases lB (p[i].toNat:Int)<;>simp
theorem rF:∀(l:ah) (i:Nat) (a b:Bool),kh (fun _ (x:UInt8) (t:Bool×Bool)=>(Sum.inl (t.1&&dS x,t.2&&fu x):(Bool×Bool)⊕(Bool×Bool))) (fun t=>t) l i (a,b)=(a&&l.all dS,b&&l.all fu)
 |[],i,a,b=>by simp[kh]
 |x::l,i,a,b=>by
  unfold kh
  simp only[rF l,List.all_cons,Bool.and_assoc]
theorem uW(p:ah)(hp:yQ p)(a b:Bool):pw p p.length a b 0=some (a&&p.all dS,b&&p.all fu):=by
 unfold pw
 have:=nk p hp (fun i (t:Bool×Bool)=>(t.1,t.2,i)) (fun zz=>jL p p.length zz.1 zz.2.1 zz.2.2) (fun _ _=>True) (fun _ x t=>.inl (t.1&&dS x,t.2&&fu x)) (fun t=>t) (fun i h t _=>⟨by
  simp only[jL]
  rw[vae (by simp;omega),uV p _ i h]
  simp only[vaa,ie p i h,gO,kD,fu]
  cases t.2<;>cases bm (p[i].toNat:Int)<;>cases qP (p[i].toNat:Int)<;>simp,fun _ _=>trivial⟩) (fun t _=>by simp only[jL];rw[vag (by simp)]) 0 (a,b) (vaJ _) trivial
 simp only[Int.ofNat_zero,vbe]at this
 rw[this,rF]
theorem y0(p:ah)(hp:yQ p):uU p=some (gD p):=by
 unfold uU tV gD gN
 cases p with
 |nil=>simp
 | cons c r =>
  have h1:¬(((c::r).length:Int)<1):=by simp;omega
  have h2:(((c::r).length:Int)>=1):=by omega
  simp only[h1,h2,decide_false,decide_true,vbl,var,if_false,nj,vaa,gO,uW _ hp,Ag,jy,List.isEmpty_cons,vck]
  by_cases h:(((c::r).length:Int)>24)
  ·have h':¬(((c::r).length:Int)<=24):=by omega
   simp only[h,h',decide_true,decide_false,if_true]
   simp
  ·have h':(((c::r).length:Int)<=24):=by omega
   simp only[h,h',decide_true,decide_false,if_false,var,vbl]
   cases(c::r).all dS<;>simp
theorem uR(f:ah)(r:List ah)(hf:yQ f):pq (f::r)=some (!(ji f||gg f||(f==[118]&&!r.isEmpty))):=by
 unfold pq
 simp only[Dh,vaa,xK f hf,xL f hf]
 have e:(((f::r).length:Int)==1)=r.isEmpty:=by
  cases r with
  |nil=>rfl
  |cons a r=>simp;omega
 rw[e]
 unfold pM
 cases ji f<;>cases gg f<;>cases(f==[118])<;>simp
theorem zA{s f:ah}{r:List ah}(h:s.length<=120)(hd:fF s=f::r):dF s=((ji f||gg f||(f==[118]&&!r.isEmpty))&&r.all fun x=>gD x):=by
 unfold dF
 rw[hd]
 simp only[h,decide_true,vbl]
theorem tT(s:ah):rD s=some (pM (dF s)):=by
 unfold rD
 by_cases h:s.length<=120
 ·have h1:¬((s.length:Int)>120):=by omega
  simp only[h1,h,decide_false,decide_true,var,if_false,vbl,xN s (by omega),vaa]
  obtain⟨d1,d2⟩:=vC s
  cases hd:fF s with
  |nil=>exact absurd hd (mj s)
  | cons f r =>
   rw[hd]at d1 d2
   rw[zA h hd]
   rw[uR f r (show _<_ by have:=d2 f (by simp);omega)]
   have hl:r.length<9223372036854775808:=by simp at d1;omega
   have:=ig r hl (fun zz=>jJ r r.length zz) (fun x=>!gD x) (.inl ()) (.inr ()) (fun j hj=>by
    simp only[jJ]
    have hm:r[j]∈f::r:=by simp
    rw[vae (by simp;omega),d9 r j hj]
    simp only[vaa]
    rw[y0 _ (show _<_ by have:=d2 _ hm;omega)]
    simp only[vaa]
    split<;>simp_all) (by simp only[jJ];rw[vag (by simp)]) 0 (vaJ _)
   have e1:Aa (f::r) (some 1) none=some r:=by
    have:=sV (f::r) 1 (by simp)
    simpa using this
   simp only[Int.ofNat_zero,vbe]at this
   simp only[vaa,e1,tS,this,vbg,vb2]
   unfold pM
   cases(ji f||gg f||(f==[118]&&!r.isEmpty))<;>cases r.all (fun x=>gD x)<;>rfl
 ·have h1:((s.length:Int)>120):=by omega
  have h2:dF s=false:=by unfold dF;simp[h]
  simp[h1,h2,pM]
def B6(x:ag):Bool:=(decide (0<=x.From)&&decide (x.From<6))&&(decide (0<=x.To)&&decide (x.To<6))
def mG(a b:ag):Bool:=decide (a.From<b.From)||(a.From==b.From&&decide (a.To<b.To))
def my(a b:ag):Bool:=a.From==b.From&&a.To==b.To
def sq(pre:List ag)(x:ag):Bool:=match pre.getLast? with
 |some y=>mG x y
 |none=>false
def kB(pre:List ag)(x:ag):Option Int:=if B6 x=false then some 2 else if pre.any (my x)=true then some 4 else if sq pre x=true then some 9 else none
def vA:List ag->List ag->Int
 |_,[]=>0
 |pre,x::r=>match kB pre x with
  |some e=>e
  |none=>vA (pre++[x]) r
def vG(g:aa):Int:=if(dF g.Caller&&dF g.Callee)=true then vA [] g.Arcs else 3
theorem AD{x:ag}(h:B6 x=true):rg x:=by
 unfold B6 at h
 simp only[vac,vaf]at h
 exact⟨h.1.1,h.1.2,h.2.1,h.2.2⟩
theorem wZ{i:Int}(h0:0<=i)(h1:i<6):pl 6 i=some i.toNat:=by
 unfold pl;rw[vae ⟨h0,by omega⟩]
theorem zZ(n:Int):fq n=some (decide (0<=n)&&decide (n<6)):=by
 unfold fq
 by_cases h:0<=n
 ·rw[vae (by simpa using h)];simp[h]
 ·rw[vag (by simpa using h)];simp[h]
theorem FF(x:ag):eV x.From x.To=some (!B6 x):=by
 unfold eV
 rw[zZ,vaa]
 unfold B6
 cases h:(decide (0<=x.From)&&decide (x.From<6))with
 |false=>simp
 |true=>
  rw[vag (by simp),zZ,vaa]
  simp
theorem Fp(x:ag):nX x.From x.To=some (!B6 x):=by
 unfold nX B6
 repeat' split
 all_goals (simp only[vaf,vaY]at *)
 all_goals (congr 1;rw[vbt];simp;omega)
theorem xi(a b:ag):gn a b=some (mG a b):=by
 unfold gn mG
 split
 ·rename_i h;simp only[vaf]at h;simp[h]
 ·rename_i h;simp only[vaf]at h
  split
  ·rename_i h2;simp only[vaE]at h2;simp[h2]
  ·rename_i h2;simp only[vaE]at h2;simp[h,h2]
theorem oI(a b:ag):lr a b=some (mG a b):=xi a b
theorem eS{α:Type}(pre:List α)(x:α)(r:List α):ep (pre++x::r) (pre.length:Int)=some x:=by
 rw[d9 _ _ (by simp)];simp
theorem zy{α:Type}{pre r:List α}{y:α}(h:pre.getLast?=some y)(hl:pre.length<4611686018427387904):ep (pre++r) (bU ((pre.length:Int) - 1))=some y:=by
 obtain⟨q,rfl⟩:∃q,pre=q++[y]:=by
  have hne:pre≠[]:=by intro e;rw[e]at h;cases h
  rw[vbC hne]at h
  refine⟨pre.dropLast,?_⟩
  rw[<-vaR h];exact(vbF hne).symm
 have e1:((q++[y]).length:Int) - 1=(q.length:Int):=by simp
 rw[e1,cR (by omega) (by simp at hl;omega),vbq]
 exact eS q y r
theorem FH(g:aa){pre r:List ag}{x:ag}(hg:g.Arcs=pre++r)(hl:pre.length<4611686018427387904):eW g (pre.length:Int) x.From x.To x.Strict=some (sq pre x):=by
 unfold eW sq
 cases hp:pre.getLast? with
 |none=>
  have:pre=[]:=by simpa using hp
  subst this
  rw[vag (by simp)]
 |some y=>
  have hne:pre≠[]:=by intro e;rw[e]at hp;cases hp
  have hpos:=vbO.2 hne
  rw[vae (by simp;omega),hg,zy hp hl,vaa,xi]
  rfl
theorem Fr(g:aa){pre r:List ag}{x:ag}(hg:g.Arcs=pre++r)(hl:pre.length<4611686018427387904):nY g (pre.length:Int) x.From x.To x.Strict=some (sq pre x):=by
 unfold nY sq
 cases hp:pre.getLast? with
 |none=>
  have:pre=[]:=by simpa using hp
  subst this
  rw[vag (by simp)]
 |some y=>
  have hne:pre≠[]:=by intro e;rw[e]at hp;cases hp
  have hpos:=vbO.2 hne
  rw[vae (by simp;omega),hg,zy hp hl,vaa,oI]
  rfl
def GQ(m:Nat->Bool)(pre:List ag):Prop:=∀x:ag,rg x->m (0+x.From.toNat * 6+x.To.toNat * 1)=pre.any (my x)
theorem wG(g:aa)(hl:g.Arcs.length<4611686018427387904):∀(r pre:List ag) (m:Nat->Bool),g.Arcs=pre++r->GQ m pre->
  ∃o,cP g g.Arcs (g.Arcs.length:Int) (pre.length:Int) m=some o/\(match o with|.inl o=>vA pre r=o.1/\o.1≠0|.inr _=>vA pre r=0)
 |[],pre,m,hg,hs=>by
  refine⟨.inr m,?_,rfl⟩
  unfold cP
  refine aK ?_
  unfold cY
  simp only
  rw[vag (by rw[hg];simp)]
 | x :: r,pre,m,hg,hs => by
  have hlt:pre.length<g.Arcs.length:=by rw[hg];simp
  have hb:cY g g.Arcs (g.Arcs.length:Int) (pre.length:Int) m=(match kB pre x with|some e=>some (.inr (.inl (e,m)))|none=>some (.inl (((pre++[x]).length:Int),gV m (0+x.From.toNat * 6+x.To.toNat * 1) true))):=by
   unfold cY
   rw[vae (by simpa using hlt)]
   conv=>lhs;rw[hg]
   rw[eS,vaa,FF,vaa]
   unfold kB
   cases hr:B6 x with
   |false=>simp
   | true =>
    obtain⟨a,b,c,d⟩:=AD hr
    rw[vag (by simp),vag (by simp),wZ a b,wZ c d]
    simp only[vaa]
    rw[hs x ⟨a,b,c,d⟩]
    cases hy:pre.any (my x)with
    |true=>simp
    | false =>
     rw[vag (by simp),vag (by simp),FH g hg (by omega),vaa]
     cases hz:sq pre x with
     |true=>simp
     |false=>
      simp only[var,if_false]
      rw[cR (by omega) (by omega)]
      congr 3
      simp
  cases hv:kB pre x with
  | some e =>
   rw[hv]at hb
   refine⟨.inl (e,m),?_,?_⟩
   ·unfold cP;exact aK hb
   ·simp only[vA,hv,vb8]
    unfold kB at hv
    split at hv
    ·cases hv;decide
    ·split at hv
     ·cases hv;decide
     ·split at hv
      ·cases hv;decide
      ·cases hv
  | none =>
   rw[hv]at hb
   have hin:B6 x=true:=by
    cases h:B6 x with
    |true=>rfl
    |false=>unfold kB at hv;rw[vae h]at hv;cases hv
   obtain⟨a,b,c,d⟩:=AD hin
   obtain⟨o,h1,h2⟩:=wG g hl r (pre++[x]) (gV m (0+x.From.toNat * 6+x.To.toNat * 1) true) (by rw[hg];simp) (fun y hy=>by
    obtain⟨a',b',c',d'⟩:=hy
    unfold gV
    rw[List.any_append]
    by_cases he:0+y.From.toNat * 6+y.To.toNat * 1=0+x.From.toNat * 6+x.To.toNat * 1
    ·rw[vae he]
     have h1:y.From=x.From:=by omega
     have h2:y.To=x.To:=by omega
     simp[my,h1,h2]
    ·rw [vag he,hs y ⟨a',b',c',d'⟩]
     have:my y x=false:=by
      unfold my
      cases h1:(y.From==x.From)with
      |false=>rfl
      | true =>
       cases h2:(y.To==x.To)with
       |false=>rfl
       |true=>
        simp only[vaE]at h1 h2
        rw[h1,h2]at he
        exact absurd rfl he
     simp[this])
   refine⟨o,?_,?_⟩
   ·unfold cP at h1 ⊢
    rw[dc hb];exact h1
   ·cases o with
    |inl o=>simp only[vA,hv]at h2 ⊢;exact h2
    |inr o=>simp only[vA,hv]at h2 ⊢;exact h2
theorem sa(b:Bool):(pM b !=0)= !b:=by cases b<;>rfl
theorem u6(g:aa)(hl:g.Arcs.length<4611686018427387904):cD g=some (vG g):=by
 unfold cD
 have hJ:eU g=some (!(dF g.Caller&&dF g.Callee)):=by
  unfold eU
  rw[qR,vaa,sa]
  cases h:dF g.Caller with
  |false=>simp
  |true=>simp only[vbA,var,if_false];rw[qR,vaa,sa];simp
 rw[hJ,vaa]
 unfold vG
 cases h:(dF g.Caller&&dF g.Callee)with
 |false=>simp
 |true=>
  rw[vag (by simp),vae rfl]
  obtain⟨o,h1,h2⟩:=wG g hl g.Arcs [] (q7 false) rfl (fun x _=>rfl)
  rw[show(([]:List ag).length:Int)=0 from rfl]at h1
  rw[h1,vaa]
  cases o with
  |inl o=>simp only at h2 ⊢;rw[h2.1]
  |inr o=>simp only at h2 ⊢;rw[h2]
theorem Fq(x y:ag):kE x.From x.To y.From y.To=some (my x y):=by
 unfold kE my
 split<;>simp_all
theorem Fu(pre:List ag)(hl:pre.length<4611686018427387904)(x:ag):nZ pre (pre.length:Int) x.From x.To 0=some (if pre.any (my x)=true then .inl ()else .inr ()):=by
 unfold nZ
 refine iI pre (by omega) _ (fun i y=>(kE x.From x.To y.From y.To).bind fun o23=>if o23=true then some (Sum.inr (Sum.inl ()))else some (Sum.inl (bU (i+1)))) (my x) (.inl ()) (.inr ()) (fun i=>?_) (fun y hy i=>?_)
 ·rfl
 ·rw[Fq,vaa]
  cases my x y<;>rfl
theorem ui(g:aa)(hl:g.Arcs.length<4611686018427387904):∀(r pre:List ag),g.Arcs=pre++r->
  ∃o,iW g g.Arcs (g.Arcs.length:Int) (pre.length:Int)=some o/\(match o with|.inl o=>vA pre r=o/\o≠0|.inr _=>vA pre r=0)
 |[],pre,hg=>by
  refine⟨.inr (),?_,rfl⟩
  unfold iW
  refine aK ?_
  unfold iX
  rw[vag (by rw[hg];simp)]
 | x :: r,pre,hg => by
  have hlt:pre.length<g.Arcs.length:=by rw[hg];simp
  have hb:iX g g.Arcs (g.Arcs.length:Int) (pre.length:Int)=(match kB pre x with|some e=>some (.inr (.inl e))|none=>some (.inl ((pre++[x]).length:Int))):=by
   unfold iX
   rw[vae (by simpa using hlt)]
   conv=>lhs;rw[hg]
   rw[eS,vaa,Fp,vaa]
   unfold kB
   cases hr:B6 x with
   |false=>simp
   | true =>
    rw[vag (by simp),vag (by simp),AY _ _ (by simp),vaa]
    have e1:(pre++x::r).take pre.length=pre:=by simp
    rw[e1,Fu pre (by omega),vaa]
    cases hy:pre.any (my x)with
    |true=>simp
    | false =>
     simp only[var,if_false]
     rw[Fr g hg (by omega),vaa]
     cases hz:sq pre x with
     |true=>simp
     |false=>
      simp only[var,if_false]
      rw[cR (by omega) (by omega)]
      congr 2
      simp
  cases hv:kB pre x with
  | some e =>
   rw[hv]at hb
   refine⟨.inl e,?_,?_⟩
   ·unfold iW;exact aK hb
   ·simp only[vA,hv,vb8]
    unfold kB at hv
    split at hv
    ·cases hv;decide
    ·split at hv
     ·cases hv;decide
     ·split at hv
      ·cases hv;decide
      ·cases hv
  | none =>
   rw[hv]at hb
   obtain⟨o,h1,h2⟩:=ui g hl r (pre++[x]) (by rw[hg];simp)
   refine⟨o,?_,?_⟩
   ·unfold iW at h1 ⊢
    rw[dc hb];exact h1
   ·cases o with
    |inl o=>simp only[vA,hv]at h2 ⊢;exact h2
    |inr o=>simp only[vA,hv]at h2 ⊢;exact h2
theorem qx(g:aa)(hl:g.Arcs.length<4611686018427387904):na g=some (vG g):=by
 unfold na
 have hJ:nW g=some (!(dF g.Caller&&dF g.Callee)):=by
  unfold nW
  rw[tT,vaa,sa]
  cases h:dF g.Caller with
  |false=>simp
  |true=>simp only[vbA,var,if_false];rw[tT,vaa,sa];simp
 rw[hJ,vaa]
 unfold vG
 cases h:(dF g.Caller&&dF g.Callee)with
 |false=>simp
 |true=>
  rw[vag (by simp),vae rfl]
  obtain⟨o,h1,h2⟩:=ui g hl g.Arcs [] rfl
  rw[show(([]:List ag).length:Int)=0 from rfl]at h1
  rw[h1,vaa]
  cases o with
  |inl o=>simp only at h2 ⊢;rw[h2.1]
  |inr o=>simp only at h2 ⊢;rw[h2]
structure oY(g:aa):Prop where
 caller:dF g.Caller=true
 callee:dF g.Callee=true
 arcs:yn g.Arcs
theorem CP{x y:ag}(hx:rg x)(hy:rg y):mG x y=true↔ix x<ix y:=by
 unfold rg at hx hy
 unfold mG ix
 simp only[vaH,vaf,vac,vaE]
 omega
theorem yJ{x y:ag}(hx:rg x)(hy:rg y):my x y=true↔ix x=ix y:=by
 unfold rg at hx hy
 unfold my ix
 simp only[vac,vaE]
 omega
theorem EM:∀(r pre:List ag),yn pre->vA pre r=0->yn (pre++r)
 |[],pre,h,_=>by simpa using h
 | x :: r,pre,h,hv => by
  have hx:kB pre x=none:=by
   cases hs:kB pre x with
   |none=>rfl
   | some e =>
    simp only[vA,hs]at hv
    unfold kB at hs
    split at hs
    ·cases hs;cases hv
    ·split at hs
     ·cases hs;cases hv
     ·split at hs
      ·cases hs;cases hv
      ·cases hs
  have hv':vA (pre++[x]) r=0:=by simp only[vA,hx]at hv;exact hv
  have key:yn (pre++[x]):=by
   unfold kB at hx
   split at hx
   ·cases hx
   rename_i h1
   split at hx
   ·cases hx
   rename_i h2
   split at hx
   ·cases hx
   rename_i h3
   have hr:rg x:=AD (by simpa using h1)
   refine⟨fun y hy=>?_,?_⟩
   ·rcases vaD.1 hy with hy|hy
    ·exact h.1 y hy
    ·rw[va2.1 hy];exact hr
   ·rw[vbp]
    refine⟨h.2,List.pairwise_singleton _ _,fun y hy z hz=>?_⟩
    rw[va2.1 hz]
    have hne:ix x≠ix y:=fun e=>h2 (vbu.2 ⟨y,hy,(yJ hr (h.1 y hy)).2 e⟩)
    have hnil:pre≠[]:=by intro e;rw[e]at hy;cases hy
    have hl:pre.getLast?=some (pre.getLast hnil):=vbC hnil
    unfold sq at h3
    rw[hl]at h3
    simp only at h3
    have hlm:=List.getLast_mem hnil
    have h4:¬ix x<ix (pre.getLast hnil):=fun hh=>h3 ((CP hr (h.1 _ hlm)).2 hh)
    have h5:ix y<=ix (pre.getLast hnil):=by
     have hp:=h.2
     rw[<-vbF hnil]at hp hy
     rcases vaD.1 hy with hy|hy
     ·have:=(vbp.1 hp).2.2 y hy _ (va2.2 rfl);omega
     ·rw[va2.1 hy];exact vap _
    have h6:ix x≠ix (pre.getLast hnil):=fun e=>h2 (vbu.2 ⟨_,hlm,(yJ hr (h.1 _ hlm)).2 e⟩)
    omega
  have:=EM r (pre++[x]) key hv'
  simpa using this
theorem EL:∀(r pre:List ag),yn (pre++r)->vA pre r=0
 |[],_,_=>rfl
 | x :: r,pre,h => by
  have hr:rg x:=h.1 x (by simp)
  have hp:=vbp.1 h.2
  have hs:kB pre x=none:=by
   unfold kB
   have h1:B6 x=true:=by
    unfold rg at hr
    unfold B6
    simp only[vac,vaf]
    exact⟨⟨hr.1,hr.2.1⟩,hr.2.2⟩
   rw[vag (by simp[h1]),vag,vag]
   ·intro hb
    unfold sq at hb
    split at hb
    ·rename_i y hy
     have hym:y∈pre:=List.mem_of_getLast? hy
     have:=hp.2.2 y hym x (by simp)
     have:=(CP hr (h.1 y (by simp[hym]))).1 hb
     omega
    ·cases hb
   ·intro hb
    obtain⟨y,hy,hsm⟩:=vbu.1 hb
    have:=hp.2.2 y hy x (by simp)
    have:=(yJ hr (h.1 y (by simp[hy]))).1 hsm
    omega
  simp only[vA,hs]
  exact EL r (pre++[x]) (by simpa using h)
theorem nN{g:aa}:vG g=0↔oY g:=by
 unfold vG
 constructor
 ·intro h
  split at h
  ·rename_i hc
   simp only[vac]at hc
   exact⟨hc.1,hc.2,by simpa using EM g.Arcs [] ⟨by simp,by simp⟩ h⟩
  ·cases h
 ·rintro⟨h1,h2,h3⟩
  rw[vae (by simp[h1,h2])]
  exact EL g.Arcs [] (by simpa using h3)
theorem wb{a b:aa}(ha:oY a)(hb:oY b):oY (bK a b):=⟨ha.caller,hb.callee,tG _⟩
theorem eT{l:List ag}(h:yn l):l.length<=36:=by
 rw[<-BO h]
 unfold j3
 exact vaP (vch _ _) (by simp)
theorem BL:∀(s1 s2:List ag),s1.length=s2.length->(s1.zip s2).any (fun z=>!(kN z.1 z.2))= !decide (s1=s2)
 |[],[],_=>by simp
 |[],_::_,h=>by simp at h
 |_::_,[],h=>by simp at h
 | x :: r,y :: s,h => by
  rw[List.zip_cons_cons,List.any_cons,BL r s (by simpa using h),Ax]
  by_cases h1:x=y
  ·subst h1
   by_cases h2:r=s
   ·subst h2;simp
   ·simp[h2]
  ·simp[h1]
theorem zD(s1 s2:List ag)(hlen:s1.length=s2.length)(hl:s1.length<4611686018427387904)(body:Int->Option (Int⊕(Unit⊕Unit)))
  (hb:∀i:Int,body i=if decide (i<(s1.length:Int))=true then(ep s1 i).bind fun x=>(ep s2 i).bind fun y=>if(!(kN x y))=true then some (.inr (.inl ()))else some (.inl (bU (i+1)))else some (.inr (.inr ()))):
  loop body 0=some (if s1=s2 then .inr ()else .inl ()):=by
 have hz:(s1.zip s2).length=s1.length:=by rw[List.length_zip];omega
 have:=ig (s1.zip s2) (by omega) body (fun z=>!(kN z.1 z.2)) (.inl ()) (.inr ()) (fun i hi=>?_) (by rw[hb,vag (by simp[hz])]) 0 (vaJ _)
 ·rw[vbe,BL s1 s2 hlen]at this
  rw[show((0:Nat):Int)=0 from rfl]at this
  rw[this]
  by_cases h:s1=s2<;>simp[h]
 ·have h1:i<s1.length:=by omega
  have h2:i<s2.length:=by omega
  rw[hb,vae (by simp;omega),d9 s1 i h1,vaa,d9 s2 i h2,vaa]
  rw[List.getElem_zip]
  cases kN s1[i] s2[i]<;>rfl
theorem CD(s1 s2:List ag)(hl:s1.length<4611686018427387904):kU s1 s2=some (decide (s1=s2)):=by
 unfold kU
 by_cases h:s1.length=s2.length
 ·rw[vag (by simp[h])]
  unfold kr
  rw[zD s1 s2 h hl (fun zz=>jw s1 s2 (s1.length:Int) zz) (fun i=>rfl),vaa]
  by_cases h2:s1=s2<;>simp[h2]
 ·rw[vae (by simp;omega)]
  have:s1≠s2:=fun e=>h (by rw[e])
  simp[this]
theorem A8(a b:aa)(hl:a.Arcs.length<4611686018427387904):dH a b=some (decide (a=b)):=by
 unfold dH
 obtain⟨a1,a2,a3⟩:=a
 obtain⟨b1,b2,b3⟩:=b
 simp only at hl ⊢
 by_cases h1:a1=b1
 ·subst h1
  rw[vae (by simp)]
  by_cases h2:a2=b2
  ·subst h2
   rw[vae (by simp),CD a3 b3 hl]
   simp
  ·rw[vag (by simp[h2])];simp[h2]
 ·rw[vag (by simp[h1])];simp[h1]
theorem ww(a b:aa)(hl:a.Arcs.length<4611686018427387904):lm a b=some (decide (a=b)):=by
 unfold lm py
 obtain⟨a1,a2,a3⟩:=a
 obtain⟨b1,b2,b3⟩:=b
 simp only at hl ⊢
 by_cases h1:a1=b1
 ·subst h1
  rw[vag (by simp)]
  by_cases h2:a2=b2
  ·subst h2
   rw[vag (by simp),vaa]
   by_cases h3:a3.length=b3.length
   ·rw[vag (by simp[h3])]
    unfold pz
    rw[zD a3 b3 h3 hl (fun zz=>mD ⟨a1,a2,a3⟩ ⟨a1,a2,b3⟩ (a3.length:Int) zz) (fun i=>rfl),vaa]
    by_cases h4:a3=b3<;>simp[h4]
   ·rw[vae (by simp;omega)]
    have:a3≠b3:=fun e=>h3 (by rw[e])
    simp[this]
  ·rw[vae (by simp[h2]),vaa];simp[h2]
 ·rw[vae (by simp[h1]),vaa];simp[h1]
theorem Az(m:Nat->Int)(L:Nat)(a b:Int):gV (gV m L a) L b=gV m L b:=by
 funext k;unfold gV;split<;>rfl
theorem Ad(g:aa)(h:yn g.Arcs):ft g=some (eN g.Arcs):=by
 unfold ft g6
 have hl:=eT h
 have key:=rp (X:=Nat->Int) g.Arcs (by omega) (fun(i:Int) (m:Nat->Int)=>(i,m)) (fun(zz:Int×(Nat->Int))=>f8 g.Arcs (g.Arcs.length:Int) zz.1 zz.2)
  (fun i m x=>(pl 6 x.From).bind fun i3=>(pl 6 x.To).bind fun i4=>if x.Strict=true then(pl 6 x.From).bind fun i7=>(pl 6 x.To).bind fun i8=>some (.inl (bU (i+1),gV (gV m (0+i3 * 6+i4 * 1) 1) (0+i7 * 6+i8 * 1) 2))else some (.inl (bU (i+1),gV m (0+i3 * 6+i4 * 1) 1)))
  (fun _ _=>True) (fun x m=>gV m (ix x) (wt x)) id (q7 0) trivial (fun i s=>rfl) (fun i hi s _=>⟨?_,trivial⟩)
 ·rw[key,vaa]
  have:∀(l:List ag) (m:Nat->Int),l.foldl (fun s x=>gV s (ix x) (wt x)) m=yO l m:=by
   intro l
   induction l with
   |nil=>intro m;rfl
   |cons x r ih=>intro m;rw[List.foldl_cons,ih];rfl
  rw[this]
  rfl
 ·obtain⟨a,b,c,d⟩:=h.1 _ (vaO hi)
  rw[wZ a b,wZ c d]
  simp only[vaa]
  have e:0+g.Arcs[i].From.toNat * 6+g.Arcs[i].To.toNat * 1=ix g.Arcs[i]:=by unfold ix;omega
  rw[e]
  unfold wt
  split
  ·rw[Az]
  ·rfl
theorem E6(X Y:Nat->Int)(f t m:Nat)(hf:f<6)(ht:t<6)(hm:m<6):ei (f:Int) (t:Int) (m:Int) X Y=some (decide (X (f * 6+m)>0/\Y (m * 6+t)>0)):=by
 unfold ei
 rw[wZ (by omega) (by omega),wZ (by omega) (by omega)]
 simp only[vaa,Int.toNat_natCast,vaB,vcE]
 by_cases h:X (f * 6+m)>0
 ·rw[vae (by simpa using h),wZ (by omega) (by omega)]
  simp[h]
 ·rw[vag (by simpa using h)];simp[h]
theorem E9(X Y:Nat->Int)(f t:Nat)(hf:f<6)(ht:t<6):ej (f:Int) (t:Int) X Y 0 0=some (xk X Y f t 6):=by
 unfold ej
 refine rn 6 _ (fun m=>(xk X Y f t m,(m:Int))) _ (fun m hm=>?_) ?_
 ·unfold dC
  rw[vae (by simp;omega),E6 X Y f t m hf ht hm,vaa]
  have hw:bU ((m:Int)+1)=((m+1:Nat):Int):=by rw[cR (by omega) (by omega)];omega
  by_cases h:X (f * 6+m)>0/\Y (m * 6+t)>0
  ·rw[vae (by simpa using h),wZ (by omega) (by omega),wZ (by omega) (by omega),wZ (by omega) (by omega)]
   simp only[vaa,Int.toNat_natCast,vaB,vcE]
   rw[hw]
   show some (Sum.inl _)=some (Sum.inl (xk X Y f t (m+1),((m+1:Nat):Int)))
   congr 3
   show _=vg X Y f t m (xk X Y f t m)
   unfold vg mx
   rw[vae h]
  ·rw[vag (by simpa using h),hw]
   show some (Sum.inl _)=some (Sum.inl (xk X Y f t (m+1),((m+1:Nat):Int)))
   congr 3
   show _=vg X Y f t m (xk X Y f t m)
   unfold vg
   rw[vag h]
 ·unfold dC
  rw[vag (by simp)]
def og(M:Nat->Int)(n:Nat):List ag:=(List.range n).filterMap fun L=>if M L>0 then some (ku M L)else none
theorem y8(M:Nat->Int)(n:Nat):og M (n+1)=og M n++(if M n>0 then[ku M n]else[]):=by
 unfold og
 rw[List.range_succ,List.filterMap_append]
 congr 1
 by_cases h:M n>0<;>simp[h]
theorem Ao(M:Nat->Int)(n:Nat):(og M n).length<=n:=by
 unfold og
 exact vaP (vch _ _) (by simp)
theorem vO{X:Type}(M:Nat->Int)(inner:Int->Int×List ag->Option ((Int×List ag)⊕List ag))(outer:Int×List ag->Option ((Int×List ag)⊕List ag))
  (hi:∀(f t:Nat) l,f<6->t<6->l.length<=36->inner f (t,l)=some (.inl (((t+1:Nat):Int),l++(if M (f * 6+t)>0 then[ku M (f * 6+t)]else[]))))
  (hie:∀(f:Nat) l,inner f (6,l)=some (.inr l))
  (ho:∀(f:Nat) l,f<6->outer (f,l)=(loop (inner f) (0,l)).bind fun o=>some (.inl (((f+1:Nat):Int),o)))
  (hoe:∀l,outer (6,l)=some (.inr l)):loop outer (0,[])=some (j3 M):=by
 have hin:∀f:Nat,f<6->loop (inner (f:Int)) (0,og M (f * 6))=some (og M ((f+1) * 6)):=fun f hf=>by
  have h6:(f+1) * 6=f * 6+6:=by omega
  rw[h6]
  refine rn 6 _ (fun t=>((t:Int),og M (f * 6+t))) _ (fun t ht=>?_) (hie f _)
  rw[hi f t _ hf ht (vaP (Ao _ _) (by omega)),<-y8]
  rfl
 refine rn 6 _ (fun f=>((f:Int),og M (f * 6))) _ (fun f hf=>?_) (hoe _)
 rw[ho f _ hf,hin f hf,vaa]
theorem re(a b:aa)(ha:yn a.Arcs)(hb:yn b.Arcs):bH a b=some (bK a b):=by
 unfold bH
 rw[Ad a ha,vaa,Ad b hb,vaa]
 have:=vO (X:=Unit) (jl (eN a.Arcs) (eN b.Arcs)) (fun f zz=>cG f (eN a.Arcs) (eN b.Arcs) zz.1 zz.2) (fun zz=>cF (eN a.Arcs) (eN b.Arcs) zz.1 zz.2)
  (fun f t l hf ht hl=>?_) (fun f l=>?_) (fun f l hf=>?_) (fun l=>?_)
 ·unfold f0
  rw[this]
  rfl
 ·simp only
  unfold cG
  rw[vae (by simp;omega),E9 _ _ f t hf ht,vaa,<-jm hf ht]
  have hw:bU ((t:Int)+1)=((t+1:Nat):Int):=by rw[cR (by omega) (by omega)];omega
  by_cases h:jl (eN a.Arcs) (eN b.Arcs) (f * 6+t)>0
  ·rw[vae (by simpa using h),vae h,mE (by simp;omega),vaa,hw]
   congr 4
   unfold ku
   rw[show(f * 6+t) / 6=f by omega,show(f * 6+t) % 6=t by omega]
  ·rw[vag (by simpa using h),vag h,hw]
   simp
 ·simp only
  unfold cG
  rw[vag (by simp)]
 ·simp only
  unfold cF
  rw[vae (by simp;omega),cR (by omega) (by omega)]
  rfl
 ·simp only
  unfold cF
  rw[vag (by simp)]
def FX:aa:=⟨[],[],[]⟩
def ni(a b:aa):aa×Int:=if vG a≠0 then(FX,vG a)else if vG b≠0 then(FX,vG b)else if a.Callee=b.Caller then(bK a b,0)else(FX,6)
theorem Al(a b:aa)(ha:a.Arcs.length<4611686018427387904)(hb:b.Arcs.length<4611686018427387904):cj a b=some (ni a b):=by
 unfold cj ni
 rw[u6 a ha,vaa]
 by_cases h1:vG a=0
 ·simp only[h1,bne_self_eq_false,var,if_false,ne_eq,not_true_eq_false]
  rw[u6 b hb,vaa]
  by_cases h2:vG b=0
  ·simp only[h2,bne_self_eq_false,var,if_false,ne_eq,not_true_eq_false]
   by_cases h3:a.Callee=b.Caller
   ·rw[vag (by simp[h3]),vae h3,re a b (nN.1 h1).arcs (nN.1 h2).arcs]
    rfl
   ·rw[vae (by simp[h3]),vag h3];rfl
  ·simp only[show(vG b !=0)=true by simp[h2],if_true,ne_eq,h2,not_false_eq_true];rfl
 ·simp only[show(vG a !=0)=true by simp[h1],if_true,ne_eq,h1,not_false_eq_true];rfl
theorem EU(f t:Int)(x y:ag):n7 f t x.From x.To y.From y.To=some ((x.From==f&&x.To==y.From)&&y.To==t):=by
 unfold n7
 cases h1:(x.From==f)<;>cases h2:(x.To==y.From)<;>simp[h1,h2]
def aP(f t:Int)(x y:ag):Bool:=(x.From==f&&x.To==y.From)&&y.To==t
theorem EV(f t:Int)(lb:List ag)(hl:lb.length<=40)(x:ag)(fd s:Bool):n8 f t lb (lb.length:Int) x.From x.To x.Strict fd 0 s=some (fd||lb.any (aP f t x),s||lb.any (fun y=>aP f t x y&&(x.Strict||y.Strict))):=by
 unfold n8
 have key:=rp (X:=Bool×Bool) lb (by omega) (fun(i:Int) (p:Bool×Bool)=>(p.1,i,p.2)) (fun(zz:Bool×Int×Bool)=>rI f t lb (lb.length:Int) x.From x.To x.Strict zz.1 zz.2.1 zz.2.2)
  (fun i p y=>(n7 f t x.From x.To y.From y.To).bind fun o8=>if o8=true then(if p.2=true then some (.inl (true,bU (i+1),true))else if x.Strict=true then some (.inl (true,bU (i+1),true))else some (.inl (true,bU (i+1),y.Strict)))else some (.inl (p.1,bU (i+1),p.2)))
  (fun _ _=>True) (fun y p=>(p.1||aP f t x y,p.2||(aP f t x y&&(x.Strict||y.Strict)))) id (fd,s) trivial (fun i p=>rfl) (fun i hi p _=>⟨?_,trivial⟩)
 ·rw[key]
  congr 1
  have:∀(l:List ag) (p:Bool×Bool),l.foldl (fun p y=>(p.1||aP f t x y,p.2||(aP f t x y&&(x.Strict||y.Strict)))) p=(p.1||l.any (aP f t x),p.2||l.any (fun y=>aP f t x y&&(x.Strict||y.Strict))):=by
   intro l
   induction l with
   |nil=>intro p;simp
   |cons y r ih=>intro p;rw[List.foldl_cons,ih];simp[Bool.or_assoc]
  exact this lb (fd,s)
 ·rw[EU,vaa]
  show(if aP f t x lb[i]=true then _ else _)=_
  cases h:aP f t x lb[i]<;>cases hp:p.2<;>cases hx:x.Strict<;>simp[h,hp,hx]
def aF(a b:aa)(f t:Int):Bool:=a.Arcs.any fun x=>b.Arcs.any (aP f t x)
def aS(a b:aa)(f t:Int):Bool:=a.Arcs.any fun x=>b.Arcs.any fun y=>aP f t x y&&(x.Strict||y.Strict)
theorem E2(a b:aa)(f t:Int)(ha:a.Arcs.length<=40)(hb:b.Arcs.length<=40):xO a b f t=some ((⟨f,t,aS a b f t⟩:ag),aF a b f t):=by
 unfold xO u4
 have key:=rp (X:=Bool×Bool) a.Arcs (by omega) (fun(i:Int) (p:Bool×Bool)=>(p.1,i,p.2)) (fun(zz:Bool×Int×Bool)=>rH f t b a.Arcs (a.Arcs.length:Int) zz.1 zz.2.1 zz.2.2)
  (fun i p x=>(n8 f t b.Arcs (b.Arcs.length:Int) x.From x.To x.Strict p.1 0 p.2).bind fun o15=>some (.inl (o15.1,bU (i+1),o15.2)))
  (fun _ _=>True) (fun x p=>(p.1||b.Arcs.any (aP f t x),p.2||b.Arcs.any (fun y=>aP f t x y&&(x.Strict||y.Strict)))) id (false,false) trivial (fun i p=>rfl) (fun i hi p _=>⟨?_,trivial⟩)
 ·rw[key,vaa]
  have:∀(l:List ag) (p:Bool×Bool),l.foldl (fun p x=>(p.1||b.Arcs.any (aP f t x),p.2||b.Arcs.any (fun y=>aP f t x y&&(x.Strict||y.Strict)))) p=(p.1||l.any (fun x=>b.Arcs.any (aP f t x)),p.2||l.any (fun x=>b.Arcs.any (fun y=>aP f t x y&&(x.Strict||y.Strict)))):=by
   intro l
   induction l with
   |nil=>intro p;simp
   |cons y r ih=>intro p;rw[List.foldl_cons,ih];simp[Bool.or_assoc]
  rw[this]
  simp[aF,aS]
 ·rw[EV f t b.Arcs hb];rfl
theorem iu{l:List ag}(h:yn l){f t:Nat}(hf:f<6)(ht:t<6):(eN l (f * 6+t)>0↔∃x∈l,x.From=f/\x.To=t)/\(∀x∈l,x.From=f->x.To=t->(eN l (f * 6+t)=2↔x.Strict=true)):=by
 have hix:∀x∈l,(ix x=f * 6+t↔x.From=f/\x.To=t):=fun x hx=>by
  have:=h.1 x hx
  unfold rg at this
  unfold ix
  omega
 refine⟨⟨fun hp=>?_,fun⟨x,hx,h1,h2⟩=>?_⟩,fun x hx h1 h2=>?_⟩
 ·obtain⟨x,hx,he⟩:=wF hp
  exact⟨x,hx,(hix x hx).1 he⟩
 ·rw[<-(hix x hx).2 ⟨h1,h2⟩,qg h hx]
  have:=wI x;omega
 ·rw[<-(hix x hx).2 ⟨h1,h2⟩,qg h hx]
  unfold wt
  cases x.Strict<;>simp
theorem Gf{a b:aa}(ha:yn a.Arcs)(hb:yn b.Arcs){f t:Nat}(hf:f<6)(ht:t<6):aF a b f t=decide (jl (eN a.Arcs) (eN b.Arcs) (f * 6+t)>0):=by
 rw[vbt,vaf,jm hf ht,(ib (ki _) (ki _) f t 6).2.1]
 unfold aF aP
 simp only[vbu,vac,vaE]
 constructor
 ·rintro⟨x,hx,y,hy,⟨h1,h2⟩,h3⟩
  obtain⟨_,_,c,d⟩:=ha.1 x hx
  refine⟨x.To.toNat,by omega,(iu ha hf (by omega)).1.2 ⟨x,hx,h1,by omega⟩,(iu hb (by omega) ht).1.2 ⟨y,hy,by omega,h3⟩⟩
 ·rintro⟨m,hm,h1,h2⟩
  obtain⟨x,hx,p1,p2⟩:=(iu ha hf hm).1.1 h1
  obtain⟨y,hy,q1,q2⟩:=(iu hb hm ht).1.1 h2
  exact⟨x,hx,y,hy,⟨p1,p2.trans q1.symm⟩,q2⟩
theorem Gg{a b:aa}(ha:yn a.Arcs)(hb:yn b.Arcs){f t:Nat}(hf:f<6)(ht:t<6):aS a b f t=(jl (eN a.Arcs) (eN b.Arcs) (f * 6+t)==2):=by
 rw[vbt,vaE,jm hf ht,(ib (ki _) (ki _) f t 6).2.2]
 unfold aS aP
 simp only[vbu,vac,vaE,vaH]
 constructor
 ·rintro⟨x,hx,y,hy,⟨⟨h1,h2⟩,h3⟩,h4⟩
  obtain⟨_,_,c,d⟩:=ha.1 x hx
  have ex:x.To=(x.To.toNat:Int):=by omega
  refine⟨x.To.toNat,by omega,(iu ha hf (by omega)).1.2 ⟨x,hx,h1,ex⟩,(iu hb (by omega) ht).1.2 ⟨y,hy,by omega,h3⟩,?_⟩
  rcases h4 with h4|h4
  ·exact .inl (((iu ha hf (by omega)).2 x hx h1 ex).2 h4)
  ·exact .inr (((iu hb (by omega) ht).2 y hy (by omega) h3).2 h4)
 ·rintro⟨m,hm,h1,h2,h3⟩
  obtain⟨x,hx,p1,p2⟩:=(iu ha hf hm).1.1 h1
  obtain⟨y,hy,q1,q2⟩:=(iu hb hm ht).1.1 h2
  refine⟨x,hx,y,hy,⟨⟨p1,p2.trans q1.symm⟩,q2⟩,?_⟩
  rcases h3 with h3|h3
  ·exact .inl (((iu ha hf hm).2 x hx p1 p2).1 h3)
  ·exact .inr (((iu hb hm ht).2 y hy q1 q2).1 h3)
theorem uh(a b:aa)(ha:a.Arcs.length<=40)(hb:b.Arcs.length<=40):iE a b=some (ni a b):=by
 unfold iE ni
 rw[qx a (by omega),vaa]
 by_cases h1:vG a=0
 ·simp only[h1,bne_self_eq_false,var,if_false,ne_eq,not_true_eq_false]
  rw[qx b (by omega),vaa]
  by_cases h2:vG b=0
  ·simp only[h2,bne_self_eq_false,var,if_false,ne_eq,not_true_eq_false]
   by_cases h3:a.Callee=b.Caller
   ·rw[vag (by simp[h3]),vae h3]
    have hA:=(nN.1 h1).arcs
    have hB:=(nN.1 h2).arcs
    have:=vO (X:=Unit) (jl (eN a.Arcs) (eN b.Arcs)) (fun f zz=>gS a b f zz.1 zz.2) (fun zz=>gR a b zz.1 zz.2)
     (fun f t l hf ht hl=>?_) (fun f l=>?_) (fun f l hf=>?_) (fun l=>?_)
    ·unfold px
     rw[this]
     rfl
    ·simp only
     unfold gS
     rw[vae (by simp;omega),E2 a b _ _ ha hb,vaa,Gf hA hB hf ht,Gg hA hB hf ht]
     have hw:bU ((t:Int)+1)=((t+1:Nat):Int):=by rw[cR (by omega) (by omega)];omega
     by_cases h:jl (eN a.Arcs) (eN b.Arcs) (f * 6+t)>0
     ·rw[vae (by simpa using h),vae h,mE (by simp;omega),vaa,hw]
      congr 4
      unfold ku
      rw[show(f * 6+t) / 6=f by omega,show(f * 6+t) % 6=t by omega]
     ·rw[vag (by simpa using h),vag h,hw]
      simp
    ·simp only
     unfold gS
     rw[vag (by simp)]
    ·simp only
     unfold gR
     rw[vae (by simp;omega),cR (by omega) (by omega)]
     rfl
    ·simp only
     unfold gR
     rw[vag (by simp)]
   ·rw[vae (by simp[h3]),vag h3];rfl
  ·simp only[show(vG b !=0)=true by simp[h2],if_true,ne_eq,h2,not_false_eq_true];rfl
 ·simp only[show(vG a !=0)=true by simp[h1],if_true,ne_eq,h1,not_false_eq_true];rfl
abbrev E4(x y:ah):Prop:=Op.bytesLess x y=true
theorem ql:∀(x:ah),Op.bytesLess x x=false
 |[]=>rfl
 |a::x=>by
  unfold Op.bytesLess
  rw[ql x]
  simp[UInt8.lt_irrefl]
theorem vj:∀{x y z:ah},E4 x y->E4 y z->E4 x z
 |_,_,[],h1,h2=>by simp[E4,Op.bytesLess]at h2
 |_,[],_::_,h1,h2=>by simp[E4,Op.bytesLess]at h1
 |[],_::_,_::_,_,_=>rfl
 | a :: x,b :: y,c :: z,h1,h2 => by
  unfold E4 Op.bytesLess at h1 h2 ⊢
  simp only[vaH,vaf,vac,vaE]at h1 h2 ⊢
  rcases h1 with h1|⟨rfl,h1⟩
  ·rcases h2 with h2|⟨rfl,h2⟩
   ·exact .inl (UInt8.lt_trans h1 h2)
   ·exact .inl h1
  ·rcases h2 with h2|⟨rfl,h2⟩
   ·exact .inl h2
   ·exact .inr ⟨rfl,vj h1 h2⟩
theorem y9:∀{x y:ah},Op.bytesLess x y=false->Op.bytesLess y x=false->x=y
 |[],[],_,_=>rfl
 |[],_::_,h,_=>by simp[Op.bytesLess]at h
 |_::_,[],_,h=>by simp[Op.bytesLess]at h
 | a :: x,b :: y,h1,h2 => by
  unfold Op.bytesLess at h1 h2
  simp only[vcA,vaY,vcx,vaE]at h1 h2
  have hab:a=b:=by
   have k1:=UInt8.not_lt.1 h1.1
   have k2:=UInt8.not_lt.1 h2.1
   exact UInt8.le_antisymm k2 k1
  subst hab
  rw[y9 (h1.2 rfl) (h2.2 rfl)]
end Go.Proofs.YtoficachfgggjaaDoor
