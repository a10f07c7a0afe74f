/- PROVED: a part of the proof. Conditions: none. -/
import Derived.Test.YtoficachfgggjaaDoorPkF11
import Derived.Test.YtoficachfgggjaaDoorPkF8
import Derived.Test.YtoficachfgggjaaDoorPkF7
noncomputable section
namespace Go.Proofs.YtoficachfgggjaaDoor
open Go Go.Proofs.Tryd
set_option linter.unusedVariables false
set_option maxRecDepth 100000
noncomputable def AO:Code:=f11.body.getD .skip
def uX:List Nat:=[22]
section
variable(g:ae)
def tK:aj:=a7 78 [(1,.eptr (ac g))] [.dead] []
def ka(o:Bool):aj:=a7 78 [(1,.eptr (ac g)),(16,.bool o)] [.dead] []
def jO:Option Bool:=
 (nA g.Caller).bind fun r1=>
 if(r1 !=0)=true then
  some true
 else
  (nA g.Callee).bind fun r4=>
  some (r4 !=0)
theorem sO{x:Bool}(h:jO g=some x):aE Pg GE 0 (cA AO 12) (EX .normal (ka g x)) (tK g):=by
 obtain⟨r1,br1,h⟩:=au h
 have p3:=fun{sc F} (r:PS sc F)=>sv (aP g)<|sv (aX g)<|bY (rG br1)<|r
 rcases aM h with⟨c2,h⟩|⟨c2,h⟩
 ·obtain rfl:=lf h
  exact di uX (p3<|sg 5 c2<|eF .normal (ka g true))<|by kernel_rfl
 ·obtain⟨r4,br4,h⟩:=au h
  obtain rfl:=lf h
  exact di uX (p3<|sg 5 c2<|sv (aQ g)<|sv (aY g)<|bY (rG br4)<|eF .normal (ka g (r4 !=0)))<|by kernel_rfl
end
section
variable(g:ae)(i:Int)(t18:waA)(t19:Int)(m:Int)(m2:Int)(m3:Bool)
def tL:aj:=a7 78 [(1,.eptr (ac g)),(3,.int .i64 i),(4,.bptr 1 0),(18,sl ak t18),(19,.int .i64 t19),(20,.int .i64 i)] [.dead,.cells [.int .i64 m,.int .i64 m2,.bool m3] []] []
def e9(o:Bool):aj:=a7 78 [(1,.eptr (ac g)),(3,.int .i64 i),(4,.bptr 1 0),(18,sl ak t18),(19,.int .i64 t19),(20,.int .i64 i),(42,.bool o)] [.dead,.cells [.int .i64 m,.int .i64 m2,.bool m3] []] []
def jP:Option Bool:=
 if(decide (m<0))=true then
  some true
 else
  if(decide (m>=6))=true then
   some true
  else
   if(decide (m2<0))=true then
    some true
   else
    some (decide (m2>=6))
theorem sP{x:Bool}(h:jP m m2=some x):aE Pg GE 0 (cA AO 15340) (EX .normal (e9 g i t18 t19 m m2 m3 x)) (tL g i t18 t19 m m2 m3):=by
 rcases aM h with⟨c10,h⟩|⟨c10,h⟩
 ·obtain rfl:=lf h
  exact di uX (ss<|sg 4 c10<|eF .normal (e9 g i t18 t19 m m2 m3 true))<|by kernel_rfl
 ·have p12:=fun{sc F} (r:PS sc F)=>ss<|sg 4 c10<|ss<|r
  rcases aM h with⟨c11,h⟩|⟨c11,h⟩
  ·obtain rfl:=lf h
   exact di uX (p12<|sg 9 c11<|eF .normal (e9 g i t18 t19 m m2 m3 true))<|by kernel_rfl
  ·have p14:=fun{sc F} (r:PS sc F)=>p12<|sg 9 c11<|ss<|r
   rcases aM h with⟨c13,h⟩|⟨c13,h⟩
   ·obtain rfl:=lf h
    exact di uX (p14<|sg 14 c13<|eF .normal (e9 g i t18 t19 m m2 m3 true))<|by kernel_rfl
   ·obtain rfl:=lf h
    exact di uX (p14<|sg 14 c13<|ss<|eF .normal (e9 g i t18 t19 m m2 m3 (decide (m2>=6))))<|by kernel_rfl
end
section
variable(g:ae)(i:Int)(t18:waA)(t19:Int)(t46:waA)(t47:Int)(t48:Int)(m:Int)(m2:Int)(m3:Bool)(m4:Int)(m5:Int)(m6:Bool)
def tM:aj:=a7 78 [(1,.eptr (ac g)),(3,.int .i64 i),(4,.bptr 1 0),(6,.bptr 2 0),(18,sl ak t18),(19,.int .i64 t19),(20,.int .i64 i),(46,sl ak t46),(47,.int .i64 t47),(48,.int .i64 t48)] [.dead,.cells [.int .i64 m,.int .i64 m2,.bool m3] [],.cells [.int .i64 m4,.int .i64 m5,.bool m6] []] []
def kb(o:Bool):aj:=a7 78 [(1,.eptr (ac g)),(3,.int .i64 i),(4,.bptr 1 0),(18,sl ak t18),(19,.int .i64 t19),(20,.int .i64 i),(46,sl ak t46),(47,.int .i64 t47),(48,.int .i64 t48),(63,.bool o)] [.dead,.cells [.int .i64 m,.int .i64 m2,.bool m3] [],.cells [.int .i64 m4,.int .i64 m5,.bool m6] []] []
def g5:Option Bool:=
 if(m==m4)=true then
  some (m2==m5)
 else
  some false
theorem sQ{x:Bool}(h:g5 m m2 m4 m5=some x):aE Pg GE 0 (cA AO 7855606) (EX .normal (kb g i t18 t19 t46 t47 t48 m m2 m3 m4 m5 m6 x)) (tM g i t18 t19 t46 t47 t48 m m2 m3 m4 m5 m6):=by
 have p22:=fun{sc F} (r:PS sc F)=>ss<|ss<|r
 rcases aM h with⟨c21,h⟩|⟨c21,h⟩
 ·obtain rfl:=lf h
  exact di uX (p22<|sg 6 c21<|ss<|ss<|eF .normal (kb g i t18 t19 t46 t47 t48 m m2 m3 m4 m5 m6 (m2==m5)))<|by kernel_rfl
 ·obtain rfl:=lf h
  exact di uX (p22<|sg 6 c21<|eF .normal (kb g i t18 t19 t46 t47 t48 m m2 m3 m4 m5 m6 false))<|by kernel_rfl
end
section
variable(g:ae)(i:Int)(t18:waA)(t19:Int)(t46:waA)(t47:Int)(m:Int)(m2:Int)(m3:Bool)(t48:Int)
def fc:aj:=a7 78 [(1,.eptr (ac g)),(3,.int .i64 i),(4,.bptr 1 0),(18,sl ak t18),(19,.int .i64 t19),(20,.int .i64 i),(46,sl ak t46),(47,.int .i64 t47),(48,.int .i64 t48)] [.dead,.cells [.int .i64 m,.int .i64 m2,.bool m3] []] []
def fe(o:Unit⊕(Unit)):Exit:=match o with
 |(.inl _)=>.ret
 |(.inr _)=>.exit 2
def dK(o:Unit⊕(Unit)):aj:=match o with
 |(.inl o)=>a7 78 [(2,.int .i64 4)] [.dead,.cells [.int .i64 m,.int .i64 m2,.bool m3] []] []
 |(.inr o)=>a7 78 [(1,.eptr (ac g)),(3,.int .i64 i),(4,.bptr 1 0),(18,sl ak t18),(19,.int .i64 t19),(20,.int .i64 i)] [.dead,.cells [.int .i64 m,.int .i64 m2,.bool m3] []] []
def nK:Option (Int⊕(Unit⊕(Unit))):=
 if(decide (t48<t47))=true then
  (gk t46 t48).bind fun x20=>
  (g5 m m2 x20.From x20.To).bind fun o23=>
  if o23=true then
   some (.inr (.inl ()))
  else
   some (.inl (cD (t48+1)))
 else
  some (.inr (.inr ()))
def jR:Option (Unit⊕(Unit)):=loop (fun(zz:Int)=>nK t46 t47 m m2 zz) t48
theorem qT{y:Int⊕(Unit⊕(Unit))}(h:nK t46 t47 m m2 t48=some y):aE Pg GE 0 (cA AO 122743) (LQ (fun(zz:Int)=>fc g i t18 t19 t46 t47 m m2 m3 zz) fe (dK g i t18 t19 m m2 m3) y) (fc g i t18 t19 t46 t47 m m2 m3 t48):=by
 rcases aM h with⟨c19,h⟩|⟨c19,h⟩
 ·obtain⟨x20,bx20,h⟩:=au h
  obtain⟨o23,bo23,h⟩:=au h
  have p25:=fun{sc F} (r:PS sc F)=>sg 0 c19<|sv (cW.ia (k:=.i64) bx20)<|sv (eb x20)<|sx yj<|sx (jm x20)<|oX 0<|dz (sQ g i t18 t19 t46 t47 t48 m m2 m3 x20.From x20.To x20.Strict bo23)<|r
  rcases aM h with⟨c24,h⟩|⟨c24,h⟩
  ·obtain rfl:=lf h
   have z:=p25<|sg 0 c24<|rK 0 (fe (.inl ())) (dK g i t18 t19 m m2 m3 (.inl ())) rfl (dL (aI trivial trivial)) (aI trivial (aI (aI trivial (aI trivial (aI trivial trivial))) trivial))
   exact jt (A:=uX) mixed (by intro hx;cases hx) z<|by kernel_rfl
  ·obtain rfl:=lf h
   have z:=p25<|sg 0 c24<|rK 0 .normal (fc g i t18 t19 t46 t47 m m2 m3 (cD (t48+1))) rfl (dL (aI (kg (ag g)) (aI trivial (aI (lc rfl) (aI (up (aK aA t18)) (aI trivial (aI trivial (aI (up (aK aA t46)) (aI trivial (aI trivial trivial)))))))))) (aI trivial (aI (aI trivial (aI trivial (aI trivial trivial))) trivial))
   exact h9 (A:=uX) mixed z<|by kernel_rfl
 ·obtain rfl:=lf h
  have z:=sg 0 c19<|eF (fe (.inr ())) (dK g i t18 t19 m m2 m3 (.inr ()))
  exact j5 uX (by intro hx;cases hx) z<|by kernel_rfl
theorem nd{x:Unit⊕(Unit)}(h:jR t46 t47 m m2 t48=some x):aE Pg GE 0 (.loop (cA AO 122743)) (EX (fe x) (dK g i t18 t19 m m2 m3 x)) (fc g i t18 t19 t46 t47 m m2 m3 t48):=
 aE.loop (S:=fun(zz:Int)=>fc g i t18 t19 t46 t47 m m2 m3 zz) (ex:=fe) (s:=t48) h fun zz y hy=>qT g i t18 t19 t46 t47 m m2 m3 zz hy
end
section
variable(g:ae)(i:Int)(t18:waA)(t19:Int)(m:Int)(m2:Int)(m3:Bool)
def tN:aj:=a7 78 [(1,.eptr (ac g)),(3,.int .i64 i),(4,.bptr 1 0),(18,sl ak t18),(19,.int .i64 t19),(20,.int .i64 i)] [.dead,.cells [.int .i64 m,.int .i64 m2,.bool m3] []] []
def kc(o:Bool):aj:=a7 78 [(1,.eptr (ac g)),(18,sl ak t18),(19,.int .i64 t19),(20,.int .i64 i),(76,.bool o)] [.dead,.cells [.int .i64 m,.int .i64 m2,.bool m3] []] []
def jQ:Option Bool:=
 if(decide (i>0))=true then
  (gk g.Arcs (cD (i - 1))).bind fun x28=>
  (py (⟨m,m2,m3⟩:am) x28).bind fun r29=>
  some r29
 else
  some false
theorem sR{x:Bool}(h:jQ g i m m2 m3=some x):aE Pg GE 0 (cA AO 30686) (EX .normal (kc g i t18 t19 m m2 m3 x)) (tN g i t18 t19 m m2 m3):=by
 rcases aM h with⟨c27,h⟩|⟨c27,h⟩
 ·obtain⟨x28,bx28,h⟩:=au h
  obtain⟨r29,br29,h⟩:=au h
  obtain rfl:=lf h
  exact di uX (xi [0,1,3,7,7,23,7,71,247,503,1023,2047]<|sg 3 c27<|sv (qp (⟨m,m2,m3⟩:am) [])<|sv (av g)<|sv (aw g)<|sv (cW.ia (k:=.i64) bx28)<|sv (eb x28)<|bY (va br29)<|eF .normal (kc g i t18 t19 m m2 m3 r29))<|by kernel_rfl
 ·obtain rfl:=lf h
  exact di uX (xi [0,1,3,7,7,23,7,71,247,503,1023,2047]<|sg 3 c27<|eF .normal (kc g i t18 t19 m m2 m3 false))<|by kernel_rfl
end
section
variable(g:ae)(t18:waA)(t19:Int)(t20:Int)
def fa:aj:=a7 78 [(1,.eptr (ac g)),(18,sl ak t18),(19,.int .i64 t19),(20,.int .i64 t20)] [.dead] []
def cK(o:Int⊕(Unit)):Exit:=match o with
 |(.inl _)=>.ret
 |(.inr _)=>.exit 0
def cn(o:Int⊕(Unit)):aj:=match o with
 |(.inl o)=>a7 78 [(2,.int .i64 o)] [.dead] []
 |(.inr o)=>a7 78 [] [.dead] []
def fb:Option (Int⊕(Int⊕(Unit))):=
 if (decide (t20 < t19)) = true then
  (gk t18 t20).bind fun x9=>
  (jP x9.From x9.To).bind fun o15=>
  if o15=true then
   some (.inr (.inl 2))
  else
   (yt g.Arcs none (some t20)).bind fun l18=>
   (jR l18 (l18.length:Int) x9.From x9.To 0).bind fun o26=>match o26 with
   |(.inl o26)=>
    some (.inr (.inl 4))
   | (.inr o26) =>
    (jQ g t20 x9.From x9.To x9.Strict).bind fun o30=>
    if o30=true then
     some (.inr (.inl 9))
    else
     some (.inl (cD (t20+1)))
 else
  some (.inr (.inr ()))
def fB:Option (Int⊕(Unit)):=loop (fun(zz:Int)=>fb g t18 t19 zz) t20
theorem qS{y:Int⊕(Int⊕(Unit))}(h:fb g t18 t19 t20=some y):aE Pg GE 0 (cA AO 119) (LQ (fun(zz:Int)=>fa g t18 t19 zz) cK cn y) (fa g t18 t19 t20):=by
 rcases aM h with⟨c8,h⟩|⟨c8,h⟩
 ·obtain⟨x9,bx9,h⟩:=au h
  obtain⟨o15,bo15,h⟩:=au h
  have p17:=fun{sc F} (r:PS sc F)=>sg 0 c8<|sv (cW.ia (k:=.i64) bx9)<|sv (eb x9)<|sx yj<|sx (jm x9)<|oX 1<|dz (sP g t20 t18 t19 x9.From x9.To x9.Strict bo15)<|r
  rcases aM h with⟨c16,h⟩|⟨c16,h⟩
  ·obtain rfl:=lf h
   have z:=p17<|sg 0 c16<|rK 0 (cK (.inl 2)) (cn (.inl 2)) rfl (dL (aI trivial trivial)) (aI trivial trivial)
   exact jt (A:=uX) mixed (by intro hx;cases hx) z<|by kernel_rfl
  ·obtain⟨l18,bl18,h⟩:=au h
   obtain⟨o26,bo26,h⟩:=au h
   rcases o26 with o26|o26
   ·obtain rfl:=lf h
    have z:=p17<|sg 0 c16<|sv (av g)<|sv (aw g)<|sv (cW.sc bl18)<|eG (cW.ln l18)<|dz (e:=.ret) (s1:=dK g t20 t18 t19 x9.From x9.To x9.Strict (.inl o26)) (nd g t20 t18 t19 l18 (l18.length:Int) x9.From x9.To x9.Strict 0 bo26)<|rK 0 (cK (.inl 4)) (cn (.inl 4)) rfl (dL (aI trivial trivial)) (aI trivial trivial)
    exact jt (A:=uX) mixed (by intro hx;cases hx) z<|by kernel_rfl
   ·obtain⟨o30,bo30,h⟩:=au h
    have p32:=fun{sc F} (r:PS sc F)=>p17<|sg 0 c16<|sv (av g)<|sv (aw g)<|sv (cW.sc bl18)<|eG (cW.ln l18)<|dz (e:=.exit 2) (s1:=dK g t20 t18 t19 x9.From x9.To x9.Strict (.inr o26)) (nd g t20 t18 t19 l18 (l18.length:Int) x9.From x9.To x9.Strict 0 bo26)<|oX 0<|dz (sR g t20 t18 t19 x9.From x9.To x9.Strict bo30)<|r
    rcases aM h with⟨c31,h⟩|⟨c31,h⟩
    ·obtain rfl:=lf h
     have z:=p32<|sg 0 c31<|rK 0 (cK (.inl 9)) (cn (.inl 9)) rfl (dL (aI trivial trivial)) (aI trivial trivial)
     exact jt (A:=uX) mixed (by intro hx;cases hx) z<|by kernel_rfl
    ·obtain rfl:=lf h
     have z:=p32<|sg 0 c31<|rK 0 .normal (fa g t18 t19 (cD (t20+1))) rfl (dL (aI (kg (ag g)) (aI (up (aK aA t18)) (aI trivial (aI trivial trivial))))) (aI trivial trivial)
     exact h9 (A:=uX) mixed z<|by kernel_rfl
 ·obtain rfl:=lf h
  have z:=sg 0 c8<|eF (cK (.inr ())) (cn (.inr ()))
  exact j5 uX (by intro hx;cases hx) z<|by kernel_rfl
theorem nc{x:Int⊕(Unit)}(h:fB g t18 t19 t20=some x):aE Pg GE 0 (.loop (cA AO 119)) (EX (cK x) (cn x)) (fa g t18 t19 t20):=
 aE.loop (S:=fun(zz:Int)=>fa g t18 t19 zz) (ex:=cK) (s:=t20) h fun zz y hy=>qS g t18 t19 zz hy
end
def oG(g:ae):Option Int:=
 (jO g).bind fun o5=>
 if o5=true then
  some 3
 else
  (fB g g.Arcs (g.Arcs.length:Int) 0).bind fun o33=>match o33 with
  |(.inl o33)=>
   some o33
  |(.inr o33)=>
   some 0
theorem wD{g:ae}{r:Int}(h:oG g=some r):CC Pg GE 11 [.agg (ac g)] (.int .i64 r) []:=by
 obtain⟨o5,bo5,h⟩:=au h
 have p7:=fun{sc F} (r:PS sc F)=>se (bK g)<|oX 1<|dz (sO g bo5)<|r
 rcases aM h with⟨c6,h⟩|⟨c6,h⟩
 ·obtain rfl:=lf h
  have z:=p7<|sg 0 c6<|en (aI (rP (.int .i64 3))<|trivial)
  exact bv uX call11 func11 (c:=AO) rfl (aI (ag g) trivial) z<|by kernel_rfl
 ·obtain⟨o33,bo33,h⟩:=au h
  rcases o33 with o33|o33
  ·obtain rfl:=lf h
   have z:=p7<|sg 0 c6<|sv (av g)<|sv (aw g)<|eG (cW.ln g.Arcs)<|dz (e:=.ret) (s1:=cn (.inl o33)) (nc g g.Arcs (g.Arcs.length:Int) 0 bo33)<|en (aI (rP (.int .i64 o33))<|trivial)
   exact bv uX call11 func11 (c:=AO) rfl (aI (ag g) trivial) z<|by kernel_rfl
  ·obtain rfl:=lf h
   have z:=p7<|sg 0 c6<|sv (av g)<|sv (aw g)<|eG (cW.ln g.Arcs)<|dz (e:=.exit 0) (s1:=cn (.inr o33)) (nc g g.Arcs (g.Arcs.length:Int) 0 bo33)<|en (aI (rP (.int .i64 0))<|trivial)
   exact bv uX call11 func11 (c:=AO) rfl (aI (ag g) trivial) z<|by kernel_rfl
noncomputable def Dh:Code:=f13.body.getD .skip
def BM:List Nat:=[32]
section
variable(v:ae)(v2:ae)
def u6:aj:=a7 45 [(2,.eptr (ac v)),(3,.eptr (ac v2))] [.dead,.dead] []
def iO(o:Bool):aj:=a7 45 [(2,.eptr (ac v)),(3,.eptr (ac v2)),(26,.bool o)] [.dead,.dead] []
def nG:Option Bool:=
 if(!(v.Caller==v2.Caller))=true then
  some true
 else
  if(!(v.Callee==v2.Callee))=true then
   some true
  else
   some ((v.Arcs.length:Int)!=(v2.Arcs.length:Int))
theorem tG{x:Bool}(h:nG v v2=some x):aE Pg GE 0 (cA Dh 12) (EX .normal (iO v v2 x)) (u6 v v2):=by
 have p2:=fun{sc F} (r:PS sc F)=>sv (aP v)<|sv (aX v)<|sv (aP v2)<|sv (aX v2)<|r
 rcases aM h with⟨c1,h⟩|⟨c1,h⟩
 ·obtain rfl:=lf h
  exact di BM (p2<|sg 6 c1<|eF .normal (iO v v2 true))<|by kernel_rfl
 ·have p4:=fun{sc F} (r:PS sc F)=>p2<|sg 6 c1<|sv (aQ v)<|sv (aY v)<|sv (aQ v2)<|sv (aY v2)<|r
  rcases aM h with⟨c3,h⟩|⟨c3,h⟩
  ·obtain rfl:=lf h
   exact di BM (p4<|sg 13 c3<|eF .normal (iO v v2 true))<|by kernel_rfl
  ·obtain rfl:=lf h
   exact di BM (p4<|sg 13 c3<|sv (av v)<|sv (aw v)<|eG (cW.ln v.Arcs)<|sv (av v2)<|sv (aw v2)<|eG (cW.ln v2.Arcs)<|eF .normal (iO v v2 ((v.Arcs.length:Int)!=(v2.Arcs.length:Int))))<|by kernel_rfl
end
section
variable(v:ae)(v2:ae)(t29:Int)(t30:Int)
def fX:aj:=a7 45 [(2,.eptr (ac v)),(3,.eptr (ac v2)),(29,.int .i64 t29),(30,.int .i64 t30)] [.dead,.dead] []
def fY(o:Unit⊕(Unit)):Exit:=match o with
 |(.inl _)=>.ret
 |(.inr _)=>.exit 0
def eC(o:Unit⊕(Unit)):aj:=match o with
 |(.inl o)=>a7 45 [(4,.bool false)] [.dead,.dead] []
 |(.inr o)=>a7 45 [] [.dead,.dead] []
def lu:Option (Int⊕(Unit⊕(Unit))):=
 if(decide (t30<t29))=true then
  (gk v.Arcs t30).bind fun x9=>
  (gk v2.Arcs t30).bind fun x10=>
  if(!(jT x9 x10))=true then
   some (.inr (.inl ()))
  else
   some (.inl (cD (t30+1)))
 else
  some (.inr (.inr ()))
def nH:Option (Unit⊕(Unit)):=loop (fun(zz:Int)=>lu v v2 t29 zz) t30
theorem sM{y:Int⊕(Unit⊕(Unit))}(h:lu v v2 t29 t30=some y):aE Pg GE 0 (cA Dh 119) (LQ (fun(zz:Int)=>fX v v2 t29 zz) fY eC y) (fX v v2 t29 t30):=by
 rcases aM h with⟨c8,h⟩|⟨c8,h⟩
 ·obtain⟨x9,bx9,h⟩:=au h
  obtain⟨x10,bx10,h⟩:=au h
  have p12:=fun{sc F} (r:PS sc F)=>sg 0 c8<|xi [0,1,0,7,15,0,32,0,224,480,1023]<|sv (av v)<|sv (aw v)<|sv (cW.ia (k:=.i64) bx9)<|sv (eb x9)<|sv (av v2)<|sv (aw v2)<|sv (cW.ia (k:=.i64) bx10)<|sv (eb x10)<|sv (xY x9 x10)<|r
  rcases aM h with⟨c11,h⟩|⟨c11,h⟩
  ·obtain rfl:=lf h
   have z:=p12<|sg 0 c11<|eF (fY (.inl ())) (eC (.inl ()))
   exact j5 BM (by intro hx;cases hx) z<|by kernel_rfl
  ·obtain rfl:=lf h
   exact qO BM (p12<|sg 0 c11<|eF .normal (fX v v2 t29 (cD (t30+1))))<|by kernel_rfl
 ·obtain rfl:=lf h
  have z:=sg 0 c8<|eF (fY (.inr ())) (eC (.inr ()))
  exact j5 BM (by intro hx;cases hx) z<|by kernel_rfl
theorem nI{x:Unit⊕(Unit)}(h:nH v v2 t29 t30=some x):aE Pg GE 0 (.loop (cA Dh 119)) (EX (fY x) (eC x)) (fX v v2 t29 t30):=
 aE.loop (S:=fun(zz:Int)=>fX v v2 t29 zz) (ex:=fY) (s:=t30) h fun zz y hy=>sM v v2 t29 zz hy
end
def pV(a:ae)(a2:ae):Option Bool:=
 (nG a a2).bind fun o5=>
 if o5=true then
  some false
 else
  (nH a a2 (a.Arcs.length:Int) 0).bind fun o13=>match o13 with
  |(.inl o13)=>
   some false
  |(.inr o13)=>
   some true
theorem xw{a:ae}{a2:ae}{r:Bool}(h:pV a a2=some r):CC Pg GE 13 [.agg (ac a),.agg (ac a2)] (.bool r) []:=by
 obtain⟨o5,bo5,h⟩:=au h
 have p7:=fun{sc F} (r:PS sc F)=>se (bK a)<|se (bK a2)<|oX 1<|dz (tG a a2 bo5)<|r
 rcases aM h with⟨c6,h⟩|⟨c6,h⟩
 ·obtain rfl:=lf h
  have z:=p7<|sg 0 c6<|en (aI (rP (.bool false))<|trivial)
  exact bv BM call13 func13 (c:=Dh) rfl (aI (ag a) (aI (ag a2) trivial)) z<|by kernel_rfl
 ·obtain⟨o13,bo13,h⟩:=au h
  rcases o13 with o13|o13
  ·obtain rfl:=lf h
   have z:=p7<|sg 0 c6<|sv (av a)<|sv (aw a)<|eG (cW.ln a.Arcs)<|dz (e:=.ret) (s1:=eC (.inl o13)) (nI a a2 (a.Arcs.length:Int) 0 bo13)<|en (aI (rP (.bool false))<|trivial)
   exact bv BM call13 func13 (c:=Dh) rfl (aI (ag a) (aI (ag a2) trivial)) z<|by kernel_rfl
  ·obtain rfl:=lf h
   have z:=p7<|sg 0 c6<|sv (av a)<|sv (aw a)<|eG (cW.ln a.Arcs)<|dz (e:=.exit 0) (s1:=eC (.inr o13)) (nI a a2 (a.Arcs.length:Int) 0 bo13)<|en (aI (rP (.bool true))<|trivial)
   exact bv BM call13 func13 (c:=Dh) rfl (aI (ag a) (aI (ag a2) trivial)) z<|by kernel_rfl
noncomputable def Dj:Code:=f32.body.getD .skip
def CB:List Nat:=[8,30]
section
variable(n:Int)(s:af)(m:Int)(d:Int)
def uZ:aj:=a7 31 [(0,.int .i64 n),(3,.str s),(4,.int .i64 m),(5,.int .i64 d)] [] []
def lm(o:Int):aj:=a7 31 [(0,.int .i64 n),(3,.str s),(4,.int .i64 m),(5,.int .i64 o)] [] []
def kQ:Option Int:=
 if(decide (d<0))=true then
  some (IntKind.i64.wrap (0 - d))
 else
  some d
theorem tn{x:Int}(h:kQ d=some x):aE Pg GE 0 (cA Dj 7926) (EX .normal (lm n s m x)) (uZ n s m d):=by
 rcases aM h with⟨c4,h⟩|⟨c4,h⟩
 ·obtain rfl:=lf h
  exact di CB (sg 0 c4<|eF .normal (lm n s m (IntKind.i64.wrap (0 - d))))<|by kernel_rfl
 ·obtain rfl:=lf h
  exact di CB (sg 0 c4<|eF .normal (lm n s m d))<|by kernel_rfl
end
section
variable(n:Int)(s:af)(m:Int)
def fM:aj:=a7 31 [(0,.int .i64 n),(3,.str s),(4,.int .i64 m)] [] []
def lp(o:af):aj:=a7 31 [(0,.int .i64 n),(3,.str o)] [] []
def fN:Option ((af×Int)⊕(af)):=
 if(m !=0)=true then
  (re m 10).bind fun q3=>
  (kQ q3).bind fun o5=>
  (kf ([IntKind.u8.wrap (cD (48+o5))]:List Int)).bind fun s6=>
  (vo s6 s).bind fun s7=>
  (qu .i64 m 10).bind fun q8=>
  some (.inl (s7,q8))
 else
  some (.inr s)
def gC:Option af:=loop (fun(zz:af×Int)=>fN zz.1 zz.2) (s,m)
theorem sn{y:(af×Int)⊕(af)}(h:fN s m=some y):aE Pg GE 0 (cA Dj 247) (LQ (fun(zz:af×Int)=>fM n zz.1 zz.2) (fun _=>.exit 0) (lp n) y) (fM n s m):=by
 rcases aM h with⟨c2,h⟩|⟨c2,h⟩
 ·obtain⟨q3,bq3,h⟩:=au h
  obtain⟨o5,bo5,h⟩:=au h
  obtain⟨s6,bs6,h⟩:=au h
  obtain⟨s7,bs7,h⟩:=au h
  obtain⟨q8,bq8,h⟩:=au h
  obtain rfl:=lf h
  exact qO CB (sg 0 c2<|sv (DK (P:=Pg) (t:=3) (k:=.i64) bq3)<|oX 0<|dz (tn n s m q3 bo5)<|sv (FH underlying3 underlying5 (cD (48+o5)))<|sv (EV.mk' (v:=(PVal.int .u8)) (EP .u8) ([IntKind.u8.wrap (cD (48+o5))]:List Int) 1 (by kernel_rfl))<|sv (FF underlying70 underlying9 underlying5 bs6)<|sv (eP (P:=Pg) (t:=9) bs7)<|sv (DJ (P:=Pg) (t:=3) bq8)<|eF .normal (fM n s7 q8))<|by kernel_rfl
 ·obtain rfl:=lf h
  have z:=sg 0 c2<|eF (.exit 0) (lp n s)
  exact j5 CB (by intro hx;cases hx) z<|by kernel_rfl
theorem tp{x:af}(h:gC s m=some x):aE Pg GE 0 (.loop (cA Dj 247)) (EX (.exit 0) (lp n x)) (fM n s m):=
 aE.loop (S:=fun(zz:af×Int)=>fM n zz.1 zz.2) (ex:=(fun _=>.exit 0)) (s:=(s,m)) h fun zz y hy=>sn n zz.1 zz.2 hy
end
def nz(n:Int):Option af:=
 if(n==0)=true then
  some ([48]:af)
 else
  (gC ([]:af) n).bind fun o9=>
  if(decide (n<0))=true then
   (vo ([45]:af) o9).bind fun s12=>
   some s12
  else
   some o9
theorem rE{n:Int}{r:af}(h:nz n=some r):CC Pg GE 32 [.int .i64 n] (.str r) []:=by
 rcases aM h with⟨c1,h⟩|⟨c1,h⟩
 ·obtain rfl:=lf h
  have z:=sg 0 c1<|en (aI (rP (.str ([48]:af)))<|trivial)
  exact bv CB call32 func32 (c:=Dj) rfl (aI trivial trivial) z<|by kernel_rfl
 ·obtain⟨o9,bo9,h⟩:=au h
  have p11:=fun{sc F} (r:PS sc F)=>sg 0 c1<|dz (tp n ([]:af) n bo9)<|r
  rcases aM h with⟨c10,h⟩|⟨c10,h⟩
  ·obtain⟨s12,bs12,h⟩:=au h
   obtain rfl:=lf h
   have z:=p11<|sg 0 c10<|sv (eP (P:=Pg) (t:=9) bs12)<|en (aI (rP (.str s12))<|trivial)
   exact bv CB call32 func32 (c:=Dj) rfl (aI trivial trivial) z<|by kernel_rfl
  ·obtain rfl:=lf h
   have z:=p11<|sg 0 c10<|en (aI (rP (.str o9))<|trivial)
   exact bv CB call32 func32 (c:=Dj) rfl (aI trivial trivial) z<|by kernel_rfl
noncomputable def DE:Code:=f15.body.getD .skip
def CA:List Nat:=[19,41]
section
variable(s:af)(i:Int)(t15:waA)(t16:Int)(m:Int)(m2:Int)(m3:Bool)
def u7:aj:=a7 42 [(3,.str s),(4,.int .i64 i),(5,.bptr 1 0),(15,sl ak t15),(16,.int .i64 t16),(17,.int .i64 i)] [.dead,.cells [.int .i64 m,.int .i64 m2,.bool m3] []] []
def lw(o:af):aj:=a7 42 [(3,.str o),(5,.bptr 1 0),(15,sl ak t15),(16,.int .i64 t16),(17,.int .i64 i)] [.dead,.cells [.int .i64 m,.int .i64 m2,.bool m3] []] []
def kV:Option af:=
 if(decide (i>0))=true then
  (vo s ([44]:af)).bind fun s7=>
  some s7
 else
  some s
theorem tH{x:af}(h:kV s i=some x):aE Pg GE 0 (cA DE 7670) (EX .normal (lw i t15 t16 m m2 m3 x)) (u7 s i t15 t16 m m2 m3):=by
 rcases aM h with⟨c6,h⟩|⟨c6,h⟩
 ·obtain⟨s7,bs7,h⟩:=au h
  obtain rfl:=lf h
  exact di CA (sg 0 c6<|sv (eP (P:=Pg) (t:=9) bs7)<|eF .normal (lw i t15 t16 m m2 m3 s7))<|by kernel_rfl
 ·obtain rfl:=lf h
  exact di CA (sg 0 c6<|eF .normal (lw i t15 t16 m m2 m3 s))<|by kernel_rfl
end
section
variable(s:af)(t15:waA)(t16:Int)(t17:Int)(m:Int)(m2:Int)(m3:Bool)
def u9:aj:=a7 42 [(3,.str s),(5,.bptr 1 0),(6,.str ([32,62,61,32]:af)),(15,sl ak t15),(16,.int .i64 t16),(17,.int .i64 t17)] [.dead,.cells [.int .i64 m,.int .i64 m2,.bool m3] []] []
def lx(o:af):aj:=a7 42 [(3,.str s),(5,.bptr 1 0),(6,.str o),(15,sl ak t15),(16,.int .i64 t16),(17,.int .i64 t17)] [.dead,.cells [.int .i64 m,.int .i64 m2,.bool m3] []] []
def nJ:Option af:=
 if m3=true then
  some ([32,62,32]:af)
 else
  some ([32,62,61,32]:af)
theorem tI{x:af}(h:nJ m3=some x):aE Pg GE 0 (cA DE 30686) (EX .normal (lx s t15 t16 t17 m m2 m3 x)) (u9 s t15 t16 t17 m m2 m3):=by
 rcases aM h with⟨c9,h⟩|⟨c9,h⟩
 ·obtain rfl:=lf h
  exact di CA (ss<|sg 0 c9<|eF .normal (lx s t15 t16 t17 m m2 m3 ([32,62,32]:af)))<|by kernel_rfl
 ·obtain rfl:=lf h
  exact di CA (ss<|sg 0 c9<|eF .normal (lx s t15 t16 t17 m m2 m3 ([32,62,61,32]:af)))<|by kernel_rfl
end
section
variable(t15:waA)(t16:Int)(s:af)(t17:Int)
def fZ:aj:=a7 42 [(3,.str s),(15,sl ak t15),(16,.int .i64 t16),(17,.int .i64 t17)] [.dead] []
def ly(o:af):aj:=a7 42 [(3,.str o)] [.dead] []
def f0:Option ((af×Int)⊕(af)):=
 if(decide (t17<t16))=true then
  (gk t15 t17).bind fun x5=>
  (kV s t17).bind fun o8=>
  (nJ x5.Strict).bind fun o10=>
  (nz x5.From).bind fun r11=>
  (vo ([32]:af) r11).bind fun s12=>
  (vo s12 o10).bind fun s13=>
  (nz x5.To).bind fun r14=>
  (vo s13 r14).bind fun s15=>
  (vo o8 s15).bind fun s16=>
  some (.inl (s16,cD (t17+1)))
 else
  some (.inr s)
def gE:Option af:=loop (fun(zz:af×Int)=>f0 t15 t16 zz.1 zz.2) (s,t17)
theorem sN{y:(af×Int)⊕(af)}(h:f0 t15 t16 s t17=some y):aE Pg GE 0 (cA DE 119) (LQ (fun(zz:af×Int)=>fZ t15 t16 zz.1 zz.2) (fun _=>.exit 0) ly y) (fZ t15 t16 s t17):=by
 rcases aM h with⟨c4,h⟩|⟨c4,h⟩
 ·obtain⟨x5,bx5,h⟩:=au h
  obtain⟨o8,bo8,h⟩:=au h
  obtain⟨o10,bo10,h⟩:=au h
  obtain⟨r11,br11,h⟩:=au h
  obtain⟨s12,bs12,h⟩:=au h
  obtain⟨s13,bs13,h⟩:=au h
  obtain⟨r14,br14,h⟩:=au h
  obtain⟨s15,bs15,h⟩:=au h
  obtain⟨s16,bs16,h⟩:=au h
  obtain rfl:=lf h
  have z:=sg 0 c4<|sv (cW.ia (k:=.i64) bx5)<|sv (eb x5)<|sx yj<|sx (jm x5)<|oX 0<|dz (tH s t17 t15 t16 x5.From x5.To x5.Strict bo8)<|oX 1<|dz (tI o8 t15 t16 t17 x5.From x5.To x5.Strict bo10)<|xi [0,0,2,6,14,0,62,0,128,398,1022,2047,4095]<|ss<|bY (rE br11)<|sv (eP (P:=Pg) (t:=9) bs12)<|sv (eP (P:=Pg) (t:=9) bs13)<|ss<|bY (rE br14)<|sv (eP (P:=Pg) (t:=9) bs15)<|sv (eP (P:=Pg) (t:=9) bs16)<|rK 0 .normal (fZ t15 t16 s16 (cD (t17+1))) rfl (dL (aI trivial (aI (up (aK aA t15)) (aI trivial (aI trivial trivial))))) (aI trivial trivial)
  exact h9 (A:=CA) mixed z<|by kernel_rfl
 ·obtain rfl:=lf h
  have z:=sg 0 c4<|eF (.exit 0) (ly s)
  exact j5 CA (by intro hx;cases hx) z<|by kernel_rfl
theorem tJ{x:af}(h:gE t15 t16 s t17=some x):aE Pg GE 0 (.loop (cA DE 119)) (EX (.exit 0) (ly x)) (fZ t15 t16 s t17):=
 aE.loop (S:=fun(zz:af×Int)=>fZ t15 t16 zz.1 zz.2) (ex:=(fun _=>.exit 0)) (s:=(s,t17)) h fun zz y hy=>sN t15 t16 zz.1 zz.2 hy
end
def pW(g:ae):Option af:=
 (vo g.Caller ([32,45,62,32]:af)).bind fun s1=>
 (vo s1 g.Callee).bind fun s2=>
 (vo s2 ([58]:af)).bind fun s3=>
 (gE g.Arcs (g.Arcs.length:Int) s3 0).bind fun o17=>
 some o17
theorem xx{g:ae}{r:af}(h:pW g=some r):CC Pg GE 15 [.agg (ac g)] (.str r) []:=by
 obtain⟨s1,bs1,h⟩:=au h
 obtain⟨s2,bs2,h⟩:=au h
 obtain⟨s3,bs3,h⟩:=au h
 obtain⟨o17,bo17,h⟩:=au h
 obtain rfl:=lf h
 have z:=se (bK g)<|sv (aP g)<|sv (aX g)<|sv (eP (P:=Pg) (t:=9) bs1)<|sv (aQ g)<|sv (aY g)<|sv (eP (P:=Pg) (t:=9) bs2)<|sv (eP (P:=Pg) (t:=9) bs3)<|sv (av g)<|sv (aw g)<|eG (cW.ln g.Arcs)<|dz (tJ g.Arcs (g.Arcs.length:Int) s3 0 bo17)<|en (aI (rP (.str o17))<|trivial)
 exact bv CA call15 func15 (c:=DE) rfl (aI (ag g) trivial) z<|by kernel_rfl
noncomputable def b3:Code:=Tryd.f3.body.getD .skip
def A3:List Nat:=[]
def fJ(g:ae)(a:ae):Option Bool:=
 (ta 2 ([g,a]:List ae)).bind fun r1=>
 if(!r1)=true then
  oH.bind fun r4=>
  some r4
 else
  (bz g).bind fun r5=>
  (oG g).bind fun r6=>
  if (r5 == r6) = true then
   (cy g a).bind fun r9=>
   (pV g a).bind fun r10=>
   if (r9 == r10) = true then
    (cy g g).bind fun r13=>
    if r13=true then
     (dq g).bind fun r16=>
     (pW g).bind fun r17=>
     if(r16==r17)=true then
      oH.bind fun r20=>
      some r20
     else
      some false
    else
     some false
   else
    some false
  else
   some false
theorem mz{g:ae}{a:ae}{r:Bool}(h:fJ g a=some r):CC Pg GE 3 [.agg (ac g),.agg (ac a)] (.bool r) []:=by
 obtain⟨r1,br1,h⟩:=au h
 have p3:=fun{sc F} (r:PS sc F)=>se (bK g)<|se (bK a)<|xi [0,0,3,7,15,31,63,127,63,511,1023,2047,4095,4095,16383,4095,4095,131071,262143,524287,1048575,2097151,2097151,8388607,16777215,33554431,67108863,134217727,67108863,536870911,1073741823,2147483647,4294967295,8589934591,17179869183,34359738367,68719476735]<|sv (aN g)<|sv (aN a)<|sv (gd.mk' (v:=ms) kr ([g,a]:List ae) 2 (by kernel_rfl))<|bY (yC br1)<|r
 rcases aM h with⟨c2,h⟩|⟨c2,h⟩
 ·obtain⟨r4,br4,h⟩:=au h
  obtain rfl:=lf h
  have z:=p3<|sg 6 c2<|bY (pX br4)<|en (aI (rP (.bool r4))<|trivial)
  exact bv A3 call3 func3 (c:=b3) rfl (aI (ag g) (aI (ag a) trivial)) z<|by kernel_rfl
 ·obtain⟨r5,br5,h⟩:=au h
  obtain⟨r6,br6,h⟩:=au h
  have p8:=fun{sc F} (r:PS sc F)=>p3<|sg 6 c2<|sv (aN g)<|bY (bX br5)<|sv (aN g)<|bY (wD br6)<|r
  rcases aM h with⟨c7,h⟩|⟨c7,h⟩
  ·obtain⟨r9,br9,h⟩:=au h
   obtain⟨r10,br10,h⟩:=au h
   have p12:=fun{sc F} (r:PS sc F)=>p8<|sg 12 c7<|sv (aN g)<|sv (aN a)<|bY (ed br9)<|sv (aN g)<|sv (aN a)<|bY (xw br10)<|r
   rcases aM h with⟨c11,h⟩|⟨c11,h⟩
   ·obtain⟨r13,br13,h⟩:=au h
    have p15:=fun{sc F} (r:PS sc F)=>p12<|sg 21 c11<|sv (aN g)<|sv (aN g)<|bY (ed br13)<|r
    rcases aM h with⟨c14,h⟩|⟨c14,h⟩
    ·obtain⟨r16,br16,h⟩:=au h
     obtain⟨r17,br17,h⟩:=au h
     have p19:=fun{sc F} (r:PS sc F)=>p15<|sg 26 c14<|sv (aN g)<|bY (gB br16)<|sv (aN g)<|bY (xx br17)<|r
     rcases aM h with⟨c18,h⟩|⟨c18,h⟩
     ·obtain⟨r20,br20,h⟩:=au h
      obtain rfl:=lf h
      have z:=p19<|sg 34 c18<|bY (pX br20)<|en (aI (rP (.bool r20))<|trivial)
      exact bv A3 call3 func3 (c:=b3) rfl (aI (ag g) (aI (ag a) trivial)) z<|by kernel_rfl
     ·obtain rfl:=lf h
      have z:=p19<|sg 34 c18<|en (aI (rP (.bool false))<|trivial)
      exact bv A3 call3 func3 (c:=b3) rfl (aI (ag g) (aI (ag a) trivial)) z<|by kernel_rfl
    ·obtain rfl:=lf h
     have z:=p15<|sg 26 c14<|en (aI (rP (.bool false))<|trivial)
     exact bv A3 call3 func3 (c:=b3) rfl (aI (ag g) (aI (ag a) trivial)) z<|by kernel_rfl
   ·obtain rfl:=lf h
    have z:=p12<|sg 21 c11<|en (aI (rP (.bool false))<|trivial)
    exact bv A3 call3 func3 (c:=b3) rfl (aI (ag g) (aI (ag a) trivial)) z<|by kernel_rfl
  ·obtain rfl:=lf h
   have z:=p8<|sg 12 c7<|en (aI (rP (.bool false))<|trivial)
   exact bv A3 call3 func3 (c:=b3) rfl (aI (ag g) (aI (ag a) trivial)) z<|by kernel_rfl
open Go
set_option linter.unusedSimpArgs false
def zx(l:List af)(s:af):Int:=match l.findIdx? (fun x=>x==s)with|some j=>(j:Int)|none=>-1
theorem xr(l:List af)(s:af)(hl:l.length<9223372036854775808):pS l s=some (zx l s):=by
 unfold pS nD
 have:=we l hl (fun zz=>fT l s l.length zz) (fun x=>x==s) (fun j=>Sum.inl (j:Int)) (Sum.inr ()) (fun i h=>by
  simp only[fT]
  rw[vas (by simp;omega),jV _ i h]
  simp only[vab]
  split<;>simp_all) (by simp only[fT];rw[vav (by simp)])
 rw[this]
 unfold zx
 cases l.findIdx? (fun x=>x==s)<;>rfl
theorem wP(l:List af)(s:af):decide (zx l s>=0)=l.any fun k=>k==s:=by
 unfold zx
 cases h:l.findIdx? (fun x=>x==s)with
 |none=>
  rw[vb8]at h
  symm
  simp only[vbj]
  rw[show decide ((-1:Int)>=0)=false from rfl]
  simp only[vbj,Bool.not_eq_true]
  exact h
 | some j =>
  have h2:l.any (fun x=>x==s)=true:=by
   have:=List.findIdx?_isSome (xs:=l) (p:=fun x=>x==s)
   rw[h]at this
   exact this.symm
  rw[h2]
  simp
def ba(c:Int):Bool:=decide (97<=c)&&decide (c<=122)
def kj(c:Int):Bool:=decide (65<=c)&&decide (c<=90)
def pl(c:Int):Bool:=decide (48<=c)&&decide (c<=57)
theorem hX(c:Int):fm c=some (ba c):=by unfold fm ba;split<;>simp_all<;>omega
theorem lZ(c:Int):gb c=some (kj c):=by unfold gb kj;split<;>simp_all<;>omega
theorem kn(c:Int):gH c=some (pl c):=by unfold gH pl;split<;>simp_all<;>omega
theorem fy(c:Int):fx c=some (ba c):=by unfold fx ba;split<;>simp_all<;>omega
theorem j7(c:Int):gD c=some (kj c):=by unfold gD kj;split<;>simp_all<;>omega
theorem jM(c:Int):iF c=some (pl c):=by unfold iF pl;split<;>simp_all<;>omega
def d7(b:UInt8):Bool:=ba b.toNat||pl b.toNat||(b.toNat:Int)==95
def dh(b:UInt8):Bool:=ba b.toNat||kj b.toNat||pl b.toNat
def fw(s:af):Bool:=decide ((s.length:Int)>=1)&&decide ((s.length:Int)<=24)
def Cx(s:af):Bool:=aS.any fun k=>k==s
def ik(p:Int->Bool)(s:af):Bool:=match s with|[]=>false|c::_=>p c.toNat
abbrev xn(s:af):Prop:=s.length<9223372036854775808
theorem kp(s:af):gI s=some (fw s):=by
 unfold gI fw
 by_cases h:(s.length:Int)>=1
 ·rw[vas (decide_eq_true h),decide_eq_true h];rfl
 ·rw[vav (by simpa using h),decide_eq_false h];rfl
theorem rf(s:af):iV s=some (Cx s):=by
 unfold iV iJ
 have h42:aS.length=42:=rfl
 have:=jk aS (by rw[h42];omega) (fun zz=>cQ s zz) (fun k=>k==s) (Sum.inl ()) (Sum.inr ()) (fun i h=>by
  rw[h42]at h
  simp only[cQ]
  rw[vas (by simp;omega),jV _ i (by rw[h42];omega)]
  simp only[vab]
  split<;>simp_all) (by simp only[cQ];rw[vav (by rw[h42];simp)]) 0 (vaF _)
 simp only[Int.ofNat_zero,vbd]at this
 rw[this]
 unfold Cx
 cases aS.any (fun k=>k==s)<;>rfl
theorem sI:mw=some aS:=rfl
theorem tw(s:af):kS s=some (Cx s):=by
 unfold kS
 have h42:aS.length=42:=rfl
 rw[sI]
 simp only[vab]
 rw[xr _ _ (by rw[h42];omega)]
 simp only[vab,wP]
 rfl
def iI(s:af):Bool:=fw s&&ik ba s&&!Cx s&&s.all d7
def fE(s:af):Bool:=fw s&&ik kj s&&s.all dh&&!(s==[73,110,116])&&!(s==[66,111,111,108])&&!(s==[67,101,108,108])&&!(s==[70,117,110])
def nW(b:Bool):Int:=if b then 0 else 3
theorem rD{s:af}(h:fw s=true):∃c r,s=c::r:=by
 cases s with
 |nil=>simp[fw]at h
 |cons c r=>exact⟨c,r,rfl⟩
theorem rm(s:af)(i:Nat)(h:i<s.length):iX s i=some (!d7 s[i]):=by
 unfold iX d7
 simp only[f8 s i h,vab,hX,kn]
 cases ba (s[i].toNat:Int)<;>cases pl (s[i].toNat:Int)<;>simp[bne]
theorem su(s:af)(i:Nat)(h:i<s.length):jH s i=some (!d7 s[i]):=by
 unfold jH d7
 simp only[f8 s i h,vab,fy,jM]
 cases ba (s[i].toNat:Int)<;>cases pl (s[i].toNat:Int)<;>simp[bne]
theorem rp(s:af)(hs:xn s)(i:Nat)(hi:i<=s.length):iY s i=some (if(s.drop i).any (fun b=>!d7 b)=true then .inl ()else .inr ()):=by
 unfold iY
 refine jk s hs _ (fun b=>!d7 b) _ _ (fun j h=>?_) ?_ i hi
 ·simp only[gr]
  rw[vas (by simp;omega),rm s j h]
  simp only[vab]
  split<;>simp_all
 ·simp only[gr];rw[vav (by simp)]
theorem sA(s:af)(hs:xn s):jI s s.length 0=some (if s.any (fun b=>!d7 b)=true then .inl ()else .inr ()):=by
 unfold jI
 have:=jk s hs (fun zz=>eY s s.length zz) (fun b=>!d7 b) (.inl ()) (.inr ()) (fun j h=>by
  simp only[eY]
  rw[vas (by simp;omega),su s j h]
  simp only[vab]
  split<;>simp_all) (by simp only[eY];rw[vav (by simp)]) 0 (vaF _)
 simpa using this
theorem wr{b:UInt8}(h:ba b.toNat=true):d7 b=true:=by simp[d7,h]
theorem rj(s:af):iW s=some (!(fw s&&ik ba s&&!Cx s)):=by
 unfold iW
 rw[kp]
 simp only[vab]
 by_cases h:fw s=true
 ·obtain⟨c,r,rfl⟩:=rD h
  simp only[h,lU,vab,hX,rf,ik]
  cases ba (c.toNat:Int)<;>simp
 ·simp[h]
theorem vI(s:af)(hs:xn s):mI s=some (iI s):=by
 unfold mI iI
 rw[rj]
 simp only[vab]
 by_cases h:(fw s&&ik ba s&&!Cx s)=true
 ·have hs1:fw s=true:=by revert h;cases fw s<;>simp
  obtain⟨c,r,rfl⟩:=rD hs1
  have hc:ba (c.toNat:Int)=true:=by revert h;simp[ik];intro _ h _;exact h
  have hL:=rp (c::r) hs 1 (by simp)
  simp only[Int.ofNat_one]at hL
  rw[h,hL]
  simp only[List.drop_succ_cons,vbd,List.all_cons,wr hc,vbe]
  rw[va9]
  simp only[vbN]
  cases r.all d7<;>simp
 ·simp[h]
theorem sq(s:af):jG s=some (!(fw s&&ik ba s&&!Cx s)):=by
 unfold jG fw
 cases s with
 |nil=>simp
 | cons c r =>
  have h1:¬(((c::r).length:Int)<1):=by simp;omega
  have h2:(((c::r).length:Int)>=1):=by omega
  simp only[h1,h2,decide_false,decide_true,vbe,vay,if_false,lU,vab,fy,tw,ik]
  by_cases h:(((c::r).length:Int)>24)
  ·have h':¬(((c::r).length:Int)<=24):=by omega
   simp only[h,h',decide_true,decide_false,if_true]
   simp
  ·have h':(((c::r).length:Int)<=24):=by omega
   simp only[h,h',decide_true,decide_false,if_false,vay]
   cases ba (c.toNat:Int)<;>simp
theorem wx(s:af)(hs:xn s):oD s=some (nW (iI s)):=by
 unfold oD
 rw[sq,sA s hs]
 unfold iI nW
 cases(fw s&&ik ba s&&!Cx s)with
 |false=>simp
 |true=>
  simp only[vab,vcf,vay,if_false,vbe]
  rw[va9]
  simp only[vbN]
  cases s.all d7<;>simp
theorem lC(s:af)(i:Nat)(h:i<s.length):db s i=some (!dh s[i]):=by
 unfold db dh
 simp only[f8 s i h,vab,hX,lZ,kn]
 cases ba (s[i].toNat:Int)<;>cases kj (s[i].toNat:Int)<;>simp
theorem sF(s:af)(i:Nat)(h:i<s.length):jK s i=some (!dh s[i]):=by
 unfold jK dh
 simp only[f8 s i h,vab,fy,j7,jM]
 cases ba (s[i].toNat:Int)<;>cases kj (s[i].toNat:Int)<;>simp
theorem il(s:af)(hs:xn s):cT s=some (s.all dh):=by
 unfold cT eJ
 have:=jk s hs (fun zz=>bI s zz) (fun b=>!dh b) (.inl ()) (.inr ()) (fun j h=>by
  simp only[bI]
  rw[vas (by simp;omega),lC s j h]
  simp only[vab]
  split<;>simp_all) (by simp only[bI];rw[vav (by simp)]) 0 (vaF _)
 simp only[Int.ofNat_zero,vbd]at this
 rw[this,va9]
 simp only[vbN]
 cases s.all dh<;>rfl
theorem qy(s:af)(hs:xn s):hZ s=some (!(fw s&&ik kj s&&s.all dh)):=by
 unfold hZ
 rw[kp]
 simp only[vab]
 by_cases h:fw s=true
 ·obtain⟨c,r,rfl⟩:=rD h
  simp only[h,lU,vab,lZ,il _ hs,ik]
  cases kj (c.toNat:Int)<;>simp
 ·simp[h]
theorem uq(s:af)(hs:xn s):li s=some (fE s):=by
 unfold li fE
 rw[qy s hs]
 simp only[vab]
 cases(fw s&&ik kj s&&s.all dh)<;>cases(s==[73,110,116])<;>cases(s==[66,111,111,108])<;>cases(s==[67,101,108,108])<;>cases(s==[70,117,110])<;>rfl
theorem sD(s:af):jJ s=some (!(fw s&&ik kj s&&!(s==[73,110,116])&&!(s==[66,111,111,108])&&!(s==[67,101,108,108])&&!(s==[70,117,110]))):=by
 unfold jJ fw
 cases s with
 |nil=>simp
 | cons c r =>
  have h1:¬(((c::r).length:Int)<1):=by simp;omega
  have h2:(((c::r).length:Int)>=1):=by omega
  simp only[h1,h2,decide_false,decide_true,vbe,vay,if_false,lU,vab,j7,ik]
  by_cases h:(((c::r).length:Int)>24)
  ·have h':¬(((c::r).length:Int)<=24):=by omega
   simp only[h,h',decide_true,decide_false,if_true]
   simp
  ·have h':(((c::r).length:Int)<=24):=by omega
   simp only[h,h',decide_true,decide_false,if_false,vay]
   cases kj (c.toNat:Int)<;>cases(c::r==[73,110,116])<;>cases(c::r==[66,111,111,108])<;>cases(c::r==[67,101,108,108])<;>cases(c::r==[70,117,110])<;>rfl
theorem sH(s:af)(hs:xn s):jL s s.length 0=some (if s.any (fun b=>!dh b)=true then .inl ()else .inr ()):=by
 unfold jL
 have:=jk s hs (fun zz=>e6 s s.length zz) (fun b=>!dh b) (.inl ()) (.inr ()) (fun j h=>by
  simp only[e6]
  rw[vas (by simp;omega),sF s j h]
  simp only[vab]
  split<;>simp_all) (by simp only[e6];rw[vav (by simp)]) 0 (vaF _)
 simpa using this
theorem wz(s:af)(hs:xn s):oE s=some (nW (fE s)):=by
 unfold oE
 rw[sD,sH s hs]
 unfold fE nW
 rw[va9]
 simp only[vbN]
 cases(fw s&&ik kj s)<;>cases s.all dh<;>cases(s==[73,110,116])<;>cases(s==[66,111,111,108])<;>cases(s==[67,101,108,108])<;>cases(s==[70,117,110])<;>rfl
theorem AY(b:UInt8):((b.toNat:Int)==46)=(b==46):=by
 rw[vbZ]
 simp only[vaJ]
 constructor
 ·intro h
  have:b.toNat=46:=by omega
  exact UInt8.toNat_inj.1 this
 ·rintro rfl;rfl
def fD:af->List af
 |[]=>[[]]
 |c::r=>if(c==46)=true then[]::fD r else match fD r with
  |[]=>[[c]]
  |h::t=>(c::h)::t
def qG(p:af):List af->List af
 |[]=>[p]
 |h::t=>(p++h)::t
theorem oL:∀(s:af),fD s≠[]
 |[]=>by simp[fD]
 | c :: r => by
  unfold fD
  split
  ·simp
  ·split<;>simp
theorem qY(c:UInt8)(r:af)(h:¬(c==46)=true):fD (c::r)=qG [c] (fD r):=by
 conv=>lhs;unfold fD
 rw[vav h]
 cases fD r<;>rfl
theorem wm(p q:af)(l:List af):qG p (qG q l)=qG (p++q) l:=by cases l<;>simp[qG]
theorem uI{l:List af}(h:l≠[]):qG [] l=l:=by cases l with
 |nil=>exact absurd rfl h
 |cons=>rfl
theorem tT:∀(p s:af),p.all (fun c=>!(c==46))=true->fD (p++s)=qG p (fD s)
 |[],s,_=>(uI (oL s)).symm
 |c::p,s,h=>by
  rw[List.all_cons,vac]at h
  rw[vbT,qY _ _ (by simpa using h.1),tT p s h.2,wm]
  rfl
theorem tU:∀(s:af),(fD s).length<=s.length+1/\∀x∈fD s,x.length<=s.length
 |[]=>by simp[fD]
 | c :: r => by
  obtain⟨h1,h2⟩:=tU r
  by_cases h:(c==46)=true
  ·unfold fD
   rw[vas h]
   refine⟨by simp;omega,fun x hx=>?_⟩
   rw[vaI]at hx
   rcases hx with rfl|hx
   ·simp
   ·have:=h2 x hx;simp;omega
  ·rw[qY c r h]
   cases hd:fD r with
   |nil=>exact absurd hd (oL r)
   | cons a t =>
    rw[hd]at h1 h2
    refine⟨by simpa[qG]using Nat.le_succ_of_le h1,fun x hx=>?_⟩
    simp only[qG,vaI]at hx
    rcases hx with rfl|hx
    ·have:=h2 a (by simp);simp;omega
    ·have:=h2 x (by simp[hx]);simp;omega
def fK(s:af):af×af×Bool:=match s.findIdx? (fun c=>c==46)with
 |some j=>(s.take j,s.drop (j+1),true)
 |none=>(s,[],false)
theorem qt(s:af)(hs:xn s):l8 s=some (fK s):=by
 unfold l8 mH
 have:=we s hs (fun zz=>fk s zz) (fun c=>c==46) (fun j=>Sum.inl (s.take j,s.drop (j+1))) (Sum.inr ()) (fun i h=>by
  simp only[fk]
  rw[vas (by simp;omega),f8 s i h]
  simp only[vab,AY]
  by_cases hd:(s[i]==46)=true
  ·rw[vas hd,vas hd,BH s i (by omega)]
   have hs':s.length<9223372036854775808:=hs
   have e:cD ((i:Int)+1)=((i+1:Nat):Int):=by rw[m8 (by omega) (by omega)];omega
   rw[e]
   simp only[vab,uP s (i+1) (by omega)]
  ·rw[vav hd,vav hd]) (by simp only[fk];rw[vav (by simp)])
 rw[this]
 unfold fK
 cases s.findIdx? (fun c=>c==46)<;>rfl
theorem xI(s:af):fD s=if(fK s).2.2=true then(fK s).1::fD (fK s).2.1 else[(fK s).1]:=by
 unfold fK
 cases h:s.findIdx? (fun c=>c==46)with
 |none=>
  rw[vb8]at h
  have:=tT s [] (by simp only[vao,vaK];exact h)
  rw[vbo]at this
  simp only[vay,if_false]
  rw[this]
  simp[fD,qG]
 | some j =>
  rw[vbG]at h
  obtain⟨hj,h1,h2⟩:=h
  have e:s=s.take j++s[j]::s.drop (j+1):=by
   conv=>lhs;rw[<-vcn j s]
   rw[va3 hj]
  have:=tT (s.take j) (s[j]::s.drop (j+1)) (by
   simp only[vao,vaK]
   intro x hx
   obtain⟨i,hi,rfl⟩:=List.getElem_of_mem hx
   rw[List.getElem_take]
   have hi':i<j:=by simp at hi;omega
   simpa using h2 i hi')
  rw[<-e]at this
  simp only[if_true]
  rw[this]
  conv=>lhs;arg 2;unfold fD
  rw[vas h1]
  simp[qG]
theorem xH(s:af):(fK s).1.length<=s.length/\(fK s).2.1.length<=s.length/\((fK s).2.2=true->(fK s).2.1.length<s.length):=by
 unfold fK
 cases h:s.findIdx? (fun c=>c==46)with
 |none=>simp
 |some j=>
  rw[vbG]at h
  obtain⟨hj,_⟩:=h
  simp
  omega
def zQ(p:af):Bool:=(p.isEmpty||ik ba p)&&p.all d7
def gw(p:af):Bool:=fw p&&(p.all dh||zQ p)
theorem wo{α X:Type}(p:Nat->α->Bool)(q:α->Bool)(y e:X)(k:Nat)(h:∀i x,k<=i->p i x=q x):∀(l:List α) (i:Nat),k<=i->jZ (fun i x (_:Unit)=>if p i x=true then Sum.inr y else .inl ()) (fun _=>e) l i ()=if l.any q=true then y else e
 |[],i,_=>by simp[jZ]
 | x :: l,i,hk => by
  have ih:=wo p q y e k h l (i+1) (by omega)
  unfold jZ
  rw[h i x hk]
  by_cases hq:q x=true
  ·simp[hq]
  ·simp only[hq,if_false,ih,List.any_cons,vce,vay]
theorem rr(s:af)(i:Nat)(h:i<s.length):iZ s i=some (if i=0 then !ba s[i].toNat else !d7 s[i]):=by
 unfold iZ d7
 simp only[f8 s i h,vab,hX,kn]
 by_cases h0:i=0
 ·subst h0
  cases ba ((s[0]).toNat:Int)<;>simp
 ·have:((i:Int)==0)=false:=by simp;omega
  simp only[this,vav h0]
  cases ba (s[i].toNat:Int)<;>cases pl (s[i].toNat:Int)<;>simp[bne]
theorem vJ(s:af)(hs:xn s):mJ s=some (zQ s):=by
 unfold mJ lE
 have:=nY s hs (fun i (_:Unit)=>i) (fun zz=>ew s zz) (fun _ _=>True) (fun i x _=>if(if i=0 then !ba x.toNat else !d7 x)=true then .inr (.inl ())else .inl ()) (fun _=>.inr ()) (fun i h t _=>⟨by
  simp only[ew]
  rw[vas (by simp;omega),rr s i h]
  simp only[vab]
  cases(if i=0 then !ba s[i].toNat else !d7 s[i])<;>rfl,fun _ _=>trivial⟩) (fun t _=>by simp only[ew];rw[vav (by simp)]) 0 () (vaF _) trivial
 simp only[Int.ofNat_zero,vbd]at this
 rw[this]
 cases s with
 |nil=>rfl
 | cons c r =>
  unfold jZ zQ ik
  simp only[if_true,List.isEmpty_cons,vce,List.all_cons]
  by_cases hc:ba c.toNat=true
  ·have:=wo (X:=Unit⊕Unit) (fun i (x:UInt8)=>if i=0 then !ba x.toNat else !d7 x) (fun x=>!d7 x) (.inl ()) (.inr ()) 1 (fun i x hi=>by rw[vav (by omega)]) r 1 (vam _)
   simp only[hc,vcf,vay,if_false,wr hc,vbe,vaB]
   rw[this,va9]
   simp only[vbN]
   cases r.all d7<;>rfl
  ·simp[hc]
theorem q9(p:af)(hs:xn p):iU p=some (!gw p):=by
 unfold iU gw
 rw[kp,il p hs,vJ p hs]
 cases fw p<;>cases p.all dh<;>simp
theorem jy(r:af):cH r false=some (.inr ()):=eE rfl
theorem km:∀(k:Nat) (r:af),r.length<k->xn r->cH r true=some (if(!(fD r).all gw)=true then .inl ()else .inr ())
 |0,r,hk,_=>absurd hk (by omega)
 | k + 1,r,hk,hs => by
  obtain⟨c1,c2,c3⟩:=xH r
  have hs':r.length<9223372036854775808:=hs
  have hb:dl r true=some (if(!gw (fK r).1)=true then .inr (.inl ())else .inl ((fK r).2.1,(fK r).2.2)):=by
   simp only[dl,if_true,qt r hs,vab]
   rw[q9 _ (show _<_ by omega)]
   simp only[vab]
   cases gw (fK r).1<;>rfl
  rw[xI r]
  unfold cH
  by_cases hp:gw (fK r).1=true
  ·rw[hp]at hb
   refine(j4 (body:=fun zz:af×Bool=>dl zz.1 zz.2) (s:=(r,true)) (s':=((fK r).2.1,(fK r).2.2)) hb).trans ?_
   cases hm:(fK r).2.2 with
   |false=>
    have:=jy (fK r).2.1
    unfold cH at this
    rw[this]
    simp[hp]
   |true=>
    have c4:=c3 hm
    have:=km k (fK r).2.1 (by omega) (show _<_ by omega)
    unfold cH at this
    rw[this]
    simp[hp]
  ·have hp':gw (fK r).1=false:=by simpa using hp
   rw[hp']at hb
   refine(eE (body:=fun zz:af×Bool=>dl zz.1 zz.2) (s:=(r,true)) hb).trans ?_
   cases(fK r).2.2<;>simp[hp']
theorem rb(r:af)(more:Bool)(hs:xn r):cH r more=some (if(more&&!(fD r).all gw)=true then .inl ()else .inr ()):=by
 cases more with
 |false=>exact jy r
 |true=>exact km (r.length+1) r (by omega) hs
def ea(s:af):Bool:=decide (s.length<=120)&&match fD s with
 |[]=>false
 |f::r=>(iI f||fE f||(f==[118]&&!r.isEmpty))&&r.all gw
theorem q6(f:af)(hf:xn f)(more:Bool):iT f more=some (!(iI f||fE f||(f==[118]&&more))):=by
 unfold iT
 rw[vI f hf,uq f hf]
 simp only[vab]
 cases iI f<;>cases fE f<;>cases(f==[118])<;>simp
theorem pq(s:af):kl s=some (nW (ea s)):=by
 unfold kl ea nW
 by_cases h:s.length<=120
 ·have h1:¬((s.length:Int)>120):=by omega
  obtain⟨c1,c2,c3⟩:=xH s
  simp only[h1,h,decide_false,decide_true,vay,if_false,vbe,qt s (show _<_ by omega),vab]
  rw[q6 _ (show _<_ by omega),rb _ _ (show _<_ by omega),xI s]
  simp only[vab]
  cases hm:(fK s).2.2 with
  |false=>
   by_cases hn:iI (fK s).1=true<;>by_cases ht:fE (fK s).1=true<;>simp[hn,ht]
  | true =>
   have:(fD (fK s).2.1).isEmpty=false:=by
    cases hd:fD (fK s).2.1 with
    |nil=>exact absurd hd (oL _)
    |cons=>rfl
   simp only[this,if_true,Bool.not_false,Bool.and_true,vbe]
   cases(iI (fK s).1||fE (fK s).1||(fK s).1==[118])<;>cases(fD (fK s).2.1).all gw<;>simp
 ·have h1:((s.length:Int)>120):=by omega
  simp[h1,h]
theorem ls(s:af):∀(r:af) (i b:Nat) (out o:List af) (b':Nat),s.drop i=r->i+r.length=s.length->b<=i->((s.take i).drop b).all (fun c=>!(c==46))=true->
  jZ (fun i x (t:List af×Nat)=>if(x==46)=true then(Sum.inl (t.1++[(s.take i).drop t.2],i+1):(List af×Nat)⊕(List af×Nat))else .inl t) (fun t=>t) r i (out,b)=(o,b')->
  b'<=s.length/\o++[s.drop b']=out++qG ((s.take i).drop b) (fD r)
 |[],i,b,out,o,b',h1,h2,h3,h4,h=>by
  simp only[jZ,Prod.mk.injEq]at h
  obtain⟨rfl,rfl⟩:=h
  have:i=s.length:=by simpa using h2
  subst this
  simp[fD,qG,h3]
 | c :: r,i,b,out,o,b',h1,h2,h3,h4,h => by
  have hi:i<s.length:=by simp at h2;omega
  rw[va3 hi]at h1
  injection h1 with h1a h1b
  unfold jZ at h
  by_cases hc:(c==46)=true
  ·simp only[hc,if_true]at h
   have ih:=ls s r (i+1) (i+1) _ o b' h1b (by simp at h2;omega) (vam _) (by simp) h
   refine⟨ih.1,?_⟩
   rw[ih.2]
   have e:(s.take (i+1)).drop (i+1)=[]:=by simp
   rw[e,uI (oL r)]
   conv=>rhs;arg 2;arg 2;unfold fD
   rw[vas hc]
   simp[qG]
  ·simp only[hc,if_false,vay]at h
   have e:(s.take (i+1)).drop b=(s.take i).drop b++[c]:=by
    rw[List.take_succ_eq_append_getElem hi,List.drop_append_of_le_length (by simp;omega),h1a]
   have ih:=ls s r (i+1) b _ o b' h1b (by simp at h2;omega) (by omega) (by rw[e,List.all_append,h4];simpa using hc) h
   refine⟨ih.1,?_⟩
   rw[ih.2,e,qY c r hc,wm]
theorem Cl{α:Type}(l:List α)(a b:Nat)(h:a<=b)(h2:b<=l.length):yt l (some (a:Int)) (some (b:Int))=some ((l.take b).drop a):=by
 simp[yt,bd,h,h2]
theorem wB(s:af)(hs:s.length<=1000000):oF s=some (fD s):=by
 unfold oF my
 have:=nY s (by omega) (fun i (t:List af×Nat)=>(t.1,(t.2:Int),i)) (fun zz=>e8 s s.length zz.1 zz.2.1 zz.2.2) (fun i t=>t.2<=i/\t.1.length<=i)
  (fun i x (t:List af×Nat)=>if(x==46)=true then(Sum.inl (t.1++[(s.take i).drop t.2],i+1):(List af×Nat)⊕(List af×Int))else .inl t) (fun t=>(t.1,(t.2:Int))) (fun i h t hI=>by
   refine⟨?_,fun t' ht=>?_⟩
   ·simp only[e8]
    rw[vas (by simp;omega),f8 s i h]
    simp only[vab,AY]
    by_cases hd:(s[i]==46)=true
    ·rw[vas hd,vas hd,Cl s _ _ hI.1 (by omega)]
     simp only[vab]
     rw[AN (by simp;omega)]
     have e:cD ((i:Int)+1)=((i+1:Nat):Int):=by rw[m8 (by omega) (by omega)];omega
     rw[e]
     rfl
    ·rw[vav hd,vav hd]
   ·by_cases hd:(s[i]==46)=true
    ·rw[vas hd]at ht;cases ht;simp;omega
    ·rw[vav hd]at ht;cases ht;omega) (fun t _=>by simp only[e8];rw[vav (by simp)]) 0 ([],0) (vaF _) ⟨vam _,vam _⟩
 simp only[Int.ofNat_zero,vbd]at this
 rw[this]
 obtain⟨o,b',hr⟩:∃o b',jZ (fun i x (t:List af×Nat)=>if(x==46)=true then(Sum.inl (t.1++[(s.take i).drop t.2],i+1):(List af×Nat)⊕(List af×Nat))else .inl t) (fun t=>t) s 0 ([],0)=(o,b'):=⟨_,_,rfl⟩
 have key:∀(l:af) (i:Nat) (t:List af×Nat),jZ (fun i x (t:List af×Nat)=>if(x==46)=true then(Sum.inl (t.1++[(s.take i).drop t.2],i+1):(List af×Nat)⊕(List af×Int))else .inl t) (fun t=>(t.1,(t.2:Int))) l i t=
   ((jZ (fun i x (t:List af×Nat)=>if(x==46)=true then(Sum.inl (t.1++[(s.take i).drop t.2],i+1):(List af×Nat)⊕(List af×Nat))else .inl t) (fun t=>t) l i t).1,
    ((jZ (fun i x (t:List af×Nat)=>if(x==46)=true then(Sum.inl (t.1++[(s.take i).drop t.2],i+1):(List af×Nat)⊕(List af×Nat))else .inl t) (fun t=>t) l i t).2:Int)):=by
  intro l
  induction l with
  |nil=>intro i t;rfl
  | cons x l ih =>
   intro i t
   unfold jZ
   by_cases hx:(x==46)=true
   ·simp only[hx,if_true,ih]
   ·simp only[hx,if_false,ih,vay]
 rw[key,hr]
 obtain⟨h1,h2⟩:=ls s s 0 0 [] o b' rfl (by simp) (vam _) (by simp) hr
 simp only[vab]
 rw[uP s b' h1]
 simp only[vab]
 have hd:=(tU s).1
 have h3:o++[s.drop b']=fD s:=by rw[h2];simp[uI (oL s)]
 have h4:o.length+1=(fD s).length:=by rw[<-h3];simp
 rw[AN (by simp;omega),h3]
 rfl
theorem tC(p:af)(plain:Bool)(i:Nat)(h:i<p.length):kT p plain i=some (plain&&dh p[i]):=by
 unfold kT dh
 simp only[f8 p i h,vab,fy,j7,jM]
 cases plain<;>cases ba (p[i].toNat:Int)<;>cases kj (p[i].toNat:Int)<;>simp
theorem pU:∀(l:af) (i:Nat) (a b:Bool),jZ (fun _ (x:UInt8) (t:Bool×Bool)=>(Sum.inl (t.1&&dh x,t.2&&d7 x):(Bool×Bool)⊕(Bool×Bool))) (fun t=>t) l i (a,b)=(a&&l.all dh,b&&l.all d7)
 |[],i,a,b=>by simp[jZ]
 |x::l,i,a,b=>by
  unfold jZ
  simp only[pU l,List.all_cons,Bool.and_assoc]
theorem tE(p:af)(hp:xn p)(a b:Bool):kU p p.length a b 0=some (a&&p.all dh,b&&p.all d7):=by
 unfold kU
 have:=nY p hp (fun i (t:Bool×Bool)=>(t.1,t.2,i)) (fun zz=>fW p p.length zz.1 zz.2.1 zz.2.2) (fun _ _=>True) (fun _ x t=>.inl (t.1&&dh x,t.2&&d7 x)) (fun t=>t) (fun i h t _=>⟨by
  simp only[fW]
  rw[vas (by simp;omega),tC p _ i h]
  simp only[vab,f8 p i h,fy,jM,d7]
  cases t.2<;>cases ba (p[i].toNat:Int)<;>cases pl (p[i].toNat:Int)<;>simp,fun _ _=>trivial⟩) (fun t _=>by simp only[fW];rw[vav (by simp)]) 0 (a,b) (vaF _) trivial
 simp only[Int.ofNat_zero,vbd]at this
 rw[this,pU]
theorem xu(p:af)(hp:xn p):pT p=some (gw p):=by
 unfold pT nF gw fw
 cases p with
 |nil=>simp
 | cons c r =>
  have h1:¬(((c::r).length:Int)<1):=by simp;omega
  have h2:(((c::r).length:Int)>=1):=by omega
  simp only[h1,h2,decide_false,decide_true,vbe,vay,if_false,lU,vab,fy,tE _ hp,zQ,ik,List.isEmpty_cons,vce]
  by_cases h:(((c::r).length:Int)>24)
  ·have h':¬(((c::r).length:Int)<=24):=by omega
   simp only[h,h',decide_true,decide_false,if_true]
   simp
  ·have h':(((c::r).length:Int)<=24):=by omega
   simp only[h,h',decide_true,decide_false,if_false,vay,vbe]
   cases(c::r).all dh<;>simp
theorem tu(f:af)(r:List af)(hf:xn f):kR (f::r)=some (!(iI f||fE f||(f==[118]&&!r.isEmpty))):=by
 unfold kR
 simp only[A7,vab,wx f hf,wz f hf]
 have e:(((f::r).length:Int)==1)=r.isEmpty:=by
  cases r with
  |nil=>rfl
  |cons a r=>simp;omega
 rw[e]
 unfold nW
 cases iI f<;>cases fE f<;>cases(f==[118])<;>simp
theorem xS{s f:af}{r:List af}(h:s.length<=120)(hd:fD s=f::r):ea s=((iI f||fE f||(f==[118]&&!r.isEmpty))&&r.all fun x=>gw x):=by
 unfold ea
 rw[hd]
 simp only[h,decide_true,vbe]
theorem rF(s:af):nA s=some (nW (ea s)):=by
 unfold nA
 by_cases h:s.length<=120
 ·have h1:¬((s.length:Int)>120):=by omega
  simp only[h1,h,decide_false,decide_true,vay,if_false,vbe,wB s (by omega),vab]
  obtain⟨d1,d2⟩:=tU s
  cases hd:fD s with
  |nil=>exact absurd hd (oL s)
  | cons f r =>
   rw[hd]at d1 d2
   rw[xS h hd]
   rw[tu f r (show _<_ by have:=d2 f (by simp);omega)]
   have hl:r.length<9223372036854775808:=by simp at d1;omega
   have:=jk r hl (fun zz=>fQ r r.length zz) (fun x=>!gw x) (.inl ()) (.inr ()) (fun j hj=>by
    simp only[fQ]
    have hm:r[j]∈f::r:=by simp
    rw[vas (by simp;omega),jV r j hj]
    simp only[vab]
    rw[xu _ (show _<_ by have:=d2 _ hm;omega)]
    simp only[vab]
    split<;>simp_all) (by simp only[fQ];rw[vav (by simp)]) 0 (vaF _)
   have e1:yt (f::r) (some 1) none=some r:=by
    have:=uP (f::r) 1 (by simp)
    simpa using this
   simp only[Int.ofNat_zero,vbd]at this
   simp only[vab,e1,nB,this,va9,vbN]
   unfold nW
   cases(iI f||fE f||(f==[118]&&!r.isEmpty))<;>cases r.all (fun x=>gw x)<;>rfl
 ·have h1:((s.length:Int)>120):=by omega
  have h2:ea s=false:=by unfold ea;simp[h]
  simp[h1,h2,nW]
def A8(x:am):Bool:=(decide (0<=x.From)&&decide (x.From<6))&&(decide (0<=x.To)&&decide (x.To<6))
def BY(a b:am):Bool:=decide (a.From<b.From)||(a.From==b.From&&decide (a.To<b.To))
def ni(a b:am):Bool:=a.From==b.From&&a.To==b.To
def uk(pre:List am)(x:am):Bool:=match pre.getLast? with
 |some y=>BY x y
 |none=>false
def px(pre:List am)(x:am):Option Int:=if A8 x=false then some 2 else if pre.any (ni x)=true then some 4 else if uk pre x=true then some 9 else none
def vA:List am->List am->Int
 |_,[]=>0
 |pre,x::r=>match px pre x with
  |some e=>e
  |none=>vA (pre++[x]) r
def vG(g:ae):Int:=if(ea g.Caller&&ea g.Callee)=true then vA [] g.Arcs else 3
theorem Ba{x:am}(h:A8 x=true):rg x:=by
 unfold A8 at h
 simp only[vac,vah]at h
 exact⟨h.1.1,h.1.2,h.2.1,h.2.2⟩
theorem DW{i:Int}(h0:0<=i)(h1:i<6):po 6 i=some i.toNat:=by
 unfold po;rw[vas ⟨h0,by omega⟩]
theorem yo(n:Int):d6 n=some (decide (0<=n)&&decide (n<6)):=by
 unfold d6
 by_cases h:0<=n
 ·rw[vas (by simpa using h)];simp[h]
 ·rw[vav (by simpa using h)];simp[h]
theorem C9(x:am):dF x.From x.To=some (!A8 x):=by
 unfold dF
 rw[yo,vab]
 unfold A8
 cases h:(decide (0<=x.From)&&decide (x.From<6))with
 |false=>simp
 |true=>
  rw[vav (by simp),yo,vab]
  simp
theorem C2(x:am):jP x.From x.To=some (!A8 x):=by
 unfold jP A8
 repeat' split
 all_goals (simp only[vah,vbq]at *)
 all_goals (congr 1;rw[vbZ];simp;omega)
theorem vV(a b:am):eU a b=some (BY a b):=by
 unfold eU BY
 split
 ·rename_i h;simp only[vah]at h;simp[h]
 ·rename_i h;simp only[vah]at h
  split
  ·rename_i h2;simp only[vaJ]at h2;simp[h2]
  ·rename_i h2;simp only[vaJ]at h2;simp[h,h2]
theorem y7(a b:am):py a b=some (BY a b):=vV a b
theorem qm{α:Type}(pre:List α)(x:α)(r:List α):gk (pre++x::r) (pre.length:Int)=some x:=by
 rw[jV _ _ (by simp)];simp
theorem xQ{α:Type}{pre r:List α}{y:α}(h:pre.getLast?=some y)(hl:pre.length<4611686018427387904):gk (pre++r) (cD ((pre.length:Int) - 1))=some y:=by
 obtain⟨q,rfl⟩:∃q,pre=q++[y]:=by
  have hne:pre≠[]:=by intro e;rw[e]at h;cases h
  rw[vbS hne]at h
  refine⟨pre.dropLast,?_⟩
  rw[<-va2 h];exact(vbW hne).symm
 have e1:((q++[y]).length:Int) - 1=(q.length:Int):=by simp
 rw[e1,m8 (by omega) (by simp at hl;omega),vbn]
 exact qm q y r
theorem Da(g:ae){pre r:List am}{x:am}(hg:g.Arcs=pre++r)(hl:pre.length<4611686018427387904):dG g (pre.length:Int) x.From x.To x.Strict=some (uk pre x):=by
 unfold dG uk
 cases hp:pre.getLast? with
 |none=>
  have:pre=[]:=by simpa using hp
  subst this
  rw[vav (by simp)]
 |some y=>
  have hne:pre≠[]:=by intro e;rw[e]at hp;cases hp
  have hpos:=vb0.2 hne
  rw[vas (by simp;omega),hg,xQ hp hl,vab,vV]
  rfl
theorem C4(g:ae){pre r:List am}{x:am}(hg:g.Arcs=pre++r)(hl:pre.length<4611686018427387904):jQ g (pre.length:Int) x.From x.To x.Strict=some (uk pre x):=by
 unfold jQ uk
 cases hp:pre.getLast? with
 |none=>
  have:pre=[]:=by simpa using hp
  subst this
  rw[vav (by simp)]
 |some y=>
  have hne:pre≠[]:=by intro e;rw[e]at hp;cases hp
  have hpos:=vb0.2 hne
  rw[vas (by simp;omega),hg,xQ hp hl,vab,y7]
  rfl
def D9(m:Nat->Bool)(pre:List am):Prop:=∀x:am,rg x->m (0+x.From.toNat * 6+x.To.toNat * 1)=pre.any (ni x)
theorem uT(g:ae)(hl:g.Arcs.length<4611686018427387904):∀(r pre:List am) (m:Nat->Bool),g.Arcs=pre++r->D9 m pre->
  ∃o,bW g g.Arcs (g.Arcs.length:Int) (pre.length:Int) m=some o/\(match o with|.inl o=>vA pre r=o.1/\o.1≠0|.inr _=>vA pre r=0)
 |[],pre,m,hg,hs=>by
  refine⟨.inr m,?_,rfl⟩
  unfold bW
  refine eE ?_
  unfold b7
  simp only
  rw[vav (by rw[hg];simp)]
 | x :: r,pre,m,hg,hs => by
  have hlt:pre.length<g.Arcs.length:=by rw[hg];simp
  have hb:b7 g g.Arcs (g.Arcs.length:Int) (pre.length:Int) m=(match px pre x with|some e=>some (.inr (.inl (e,m)))|none=>some (.inl (((pre++[x]).length:Int),lA m (0+x.From.toNat * 6+x.To.toNat * 1) true))):=by
   unfold b7
   rw[vas (by simpa using hlt)]
   conv=>lhs;rw[hg]
   rw[qm,vab,C9,vab]
   unfold px
   cases hr:A8 x with
   |false=>simp
   | true =>
    obtain⟨a,b,c,d⟩:=Ba hr
    rw[vav (by simp),vav (by simp),DW a b,DW c d]
    simp only[vab]
    rw[hs x ⟨a,b,c,d⟩]
    cases hy:pre.any (ni x)with
    |true=>simp
    | false =>
     rw[vav (by simp),vav (by simp),Da g hg (by omega),vab]
     cases hz:uk pre x with
     |true=>simp
     |false=>
      simp only[vay,if_false]
      rw[m8 (by omega) (by omega)]
      congr 3
      simp
  cases hv:px pre x with
  | some e =>
   rw[hv]at hb
   refine⟨.inl (e,m),?_,?_⟩
   ·unfold bW;exact eE hb
   ·simp only[vA,hv,vbJ]
    unfold px at hv
    split at hv
    ·cases hv;decide
    ·split at hv
     ·cases hv;decide
     ·split at hv
      ·cases hv;decide
      ·cases hv
  | none =>
   rw[hv]at hb
   have hin:A8 x=true:=by
    cases h:A8 x with
    |true=>rfl
    |false=>unfold px at hv;rw[vas h]at hv;cases hv
   obtain⟨a,b,c,d⟩:=Ba hin
   obtain⟨o,h1,h2⟩:=uT g hl r (pre++[x]) (lA m (0+x.From.toNat * 6+x.To.toNat * 1) true) (by rw[hg];simp) (fun y hy=>by
    obtain⟨a',b',c',d'⟩:=hy
    unfold lA
    rw[List.any_append]
    by_cases he:0+y.From.toNat * 6+y.To.toNat * 1=0+x.From.toNat * 6+x.To.toNat * 1
    ·rw[vas he]
     have h1:y.From=x.From:=by omega
     have h2:y.To=x.To:=by omega
     simp[ni,h1,h2]
    ·rw [vav he,hs y ⟨a',b',c',d'⟩]
     have:ni y x=false:=by
      unfold ni
      cases h1:(y.From==x.From)with
      |false=>rfl
      | true =>
       cases h2:(y.To==x.To)with
       |false=>rfl
       |true=>
        simp only[vaJ]at h1 h2
        rw[h1,h2]at he
        exact absurd rfl he
     simp[this])
   refine⟨o,?_,?_⟩
   ·unfold bW at h1 ⊢
    rw[j4 hb];exact h1
   ·cases o with
    |inl o=>simp only[vA,hv]at h2 ⊢;exact h2
    |inr o=>simp only[vA,hv]at h2 ⊢;exact h2
theorem qi(b:Bool):(nW b !=0)= !b:=by cases b<;>rfl
theorem AL(g:ae)(hl:g.Arcs.length<4611686018427387904):bz g=some (vG g):=by
 unfold bz
 have hJ:dE g=some (!(ea g.Caller&&ea g.Callee)):=by
  unfold dE
  rw[pq,vab,qi]
  cases h:ea g.Caller with
  |false=>simp
  |true=>simp only[vcf,vay,if_false];rw[pq,vab,qi];simp
 rw[hJ,vab]
 unfold vG
 cases h:(ea g.Caller&&ea g.Callee)with
 |false=>simp
 |true=>
  rw[vav (by simp),vas rfl]
  obtain⟨o,h1,h2⟩:=uT g hl g.Arcs [] (qV false) rfl (fun x _=>rfl)
  rw[show(([]:List am).length:Int)=0 from rfl]at h1
  rw[h1,vab]
  cases o with
  |inl o=>simp only at h2 ⊢;rw[h2.1]
  |inr o=>simp only at h2 ⊢;rw[h2]
theorem C3(x y:am):g5 x.From x.To y.From y.To=some (ni x y):=by
 unfold g5 ni
 split<;>simp_all
theorem C5(pre:List am)(hl:pre.length<4611686018427387904)(x:am):jR pre (pre.length:Int) x.From x.To 0=some (if pre.any (ni x)=true then .inl ()else .inr ()):=by
 unfold jR
 refine wd pre (by omega) _ (fun i y=>(g5 x.From x.To y.From y.To).bind fun o23=>if o23=true then some (Sum.inr (Sum.inl ()))else some (Sum.inl (cD (i+1)))) (ni x) (.inl ()) (.inr ()) (fun i=>?_) (fun y hy i=>?_)
 ·rfl
 ·rw[C3,vab]
  cases ni x y<;>rfl
theorem sd(g:ae)(hl:g.Arcs.length<4611686018427387904):∀(r pre:List am),g.Arcs=pre++r->
  ∃o,fB g g.Arcs (g.Arcs.length:Int) (pre.length:Int)=some o/\(match o with|.inl o=>vA pre r=o/\o≠0|.inr _=>vA pre r=0)
 |[],pre,hg=>by
  refine⟨.inr (),?_,rfl⟩
  unfold fB
  refine eE ?_
  unfold fb
  rw[vav (by rw[hg];simp)]
 | x :: r,pre,hg => by
  have hlt:pre.length<g.Arcs.length:=by rw[hg];simp
  have hb:fb g g.Arcs (g.Arcs.length:Int) (pre.length:Int)=(match px pre x with|some e=>some (.inr (.inl e))|none=>some (.inl ((pre++[x]).length:Int))):=by
   unfold fb
   rw[vas (by simpa using hlt)]
   conv=>lhs;rw[hg]
   rw[qm,vab,C2,vab]
   unfold px
   cases hr:A8 x with
   |false=>simp
   | true =>
    rw[vav (by simp),vav (by simp),BH _ _ (by simp),vab]
    have e1:(pre++x::r).take pre.length=pre:=by simp
    rw[e1,C5 pre (by omega),vab]
    cases hy:pre.any (ni x)with
    |true=>simp
    | false =>
     simp only[vay,if_false]
     rw[C4 g hg (by omega),vab]
     cases hz:uk pre x with
     |true=>simp
     |false=>
      simp only[vay,if_false]
      rw[m8 (by omega) (by omega)]
      congr 2
      simp
  cases hv:px pre x with
  | some e =>
   rw[hv]at hb
   refine⟨.inl e,?_,?_⟩
   ·unfold fB;exact eE hb
   ·simp only[vA,hv,vbJ]
    unfold px at hv
    split at hv
    ·cases hv;decide
    ·split at hv
     ·cases hv;decide
     ·split at hv
      ·cases hv;decide
      ·cases hv
  | none =>
   rw[hv]at hb
   obtain⟨o,h1,h2⟩:=sd g hl r (pre++[x]) (by rw[hg];simp)
   refine⟨o,?_,?_⟩
   ·unfold fB at h1 ⊢
    rw[j4 hb];exact h1
   ·cases o with
    |inl o=>simp only[vA,hv]at h2 ⊢;exact h2
    |inr o=>simp only[vA,hv]at h2 ⊢;exact h2
theorem At(g:ae)(hl:g.Arcs.length<4611686018427387904):oG g=some (vG g):=by
 unfold oG
 have hJ:jO g=some (!(ea g.Caller&&ea g.Callee)):=by
  unfold jO
  rw[rF,vab,qi]
  cases h:ea g.Caller with
  |false=>simp
  |true=>simp only[vcf,vay,if_false];rw[rF,vab,qi];simp
 rw[hJ,vab]
 unfold vG
 cases h:(ea g.Caller&&ea g.Callee)with
 |false=>simp
 |true=>
  rw[vav (by simp),vas rfl]
  obtain⟨o,h1,h2⟩:=sd g hl g.Arcs [] rfl
  rw[show(([]:List am).length:Int)=0 from rfl]at h1
  rw[h1,vab]
  cases o with
  |inl o=>simp only at h2 ⊢;rw[h2.1]
  |inr o=>simp only at h2 ⊢;rw[h2]
theorem zR:∀(s1 s2:List am),s1.length=s2.length->(s1.zip s2).any (fun z=>!(jT z.1 z.2))= !decide (s1=s2)
 |[],[],_=>by simp
 |[],_::_,h=>by simp at h
 |_::_,[],h=>by simp at h
 | x :: r,y :: s,h => by
  rw[List.zip_cons_cons,List.any_cons,zR r s (by simpa using h),yL]
  by_cases h1:x=y
  ·subst h1
   by_cases h2:r=s
   ·subst h2;simp
   ·simp[h2]
  ·simp[h1]
theorem xX(s1 s2:List am)(hlen:s1.length=s2.length)(hl:s1.length<4611686018427387904)(body:Int->Option (Int⊕(Unit⊕Unit)))
  (hb:∀i:Int,body i=if decide (i<(s1.length:Int))=true then(gk s1 i).bind fun x=>(gk s2 i).bind fun y=>if(!(jT x y))=true then some (.inr (.inl ()))else some (.inl (cD (i+1)))else some (.inr (.inr ()))):
  loop body 0=some (if s1=s2 then .inr ()else .inl ()):=by
 have hz:(s1.zip s2).length=s1.length:=by rw[List.length_zip];omega
 have:=jk (s1.zip s2) (by omega) body (fun z=>!(jT z.1 z.2)) (.inl ()) (.inr ()) (fun i hi=>?_) (by rw[hb,vav (by simp[hz])]) 0 (vaF _)
 ·rw[vbd,zR s1 s2 hlen]at this
  rw[show((0:Nat):Int)=0 from rfl]at this
  rw[this]
  by_cases h:s1=s2<;>simp[h]
 ·have h1:i<s1.length:=by omega
  have h2:i<s2.length:=by omega
  rw[hb,vas (by simp;omega),jV s1 i h1,vab,jV s2 i h2,vab]
  rw[List.getElem_zip]
  cases jT s1[i] s2[i]<;>rfl
theorem AG(s1 s2:List am)(hl:s1.length<4611686018427387904):j1 s1 s2=some (decide (s1=s2)):=by
 unfold j1
 by_cases h:s1.length=s2.length
 ·rw[vav (by simp[h])]
  unfold jw
  rw[xX s1 s2 h hl (fun zz=>ii s1 s2 (s1.length:Int) zz) (fun i=>rfl),vab]
  by_cases h2:s1=s2<;>simp[h2]
 ·rw[vas (by simp;omega)]
  have:s1≠s2:=fun e=>h (by rw[e])
  simp[this]
theorem zl(a b:ae)(hl:a.Arcs.length<4611686018427387904):cy a b=some (decide (a=b)):=by
 unfold cy
 obtain⟨a1,a2,a3⟩:=a
 obtain⟨b1,b2,b3⟩:=b
 simp only at hl ⊢
 by_cases h1:a1=b1
 ·subst h1
  rw[vas (by simp)]
  by_cases h2:a2=b2
  ·subst h2
   rw[vas (by simp),AG a3 b3 hl]
   simp
  ·rw[vav (by simp[h2])];simp[h2]
 ·rw[vav (by simp[h1])];simp[h1]
theorem BB(a b:ae)(hl:a.Arcs.length<4611686018427387904):pV a b=some (decide (a=b)):=by
 unfold pV nG
 obtain⟨a1,a2,a3⟩:=a
 obtain⟨b1,b2,b3⟩:=b
 simp only at hl ⊢
 by_cases h1:a1=b1
 ·subst h1
  rw[vav (by simp)]
  by_cases h2:a2=b2
  ·subst h2
   rw[vav (by simp),vab]
   by_cases h3:a3.length=b3.length
   ·rw[vav (by simp[h3])]
    unfold nH
    rw[xX a3 b3 h3 hl (fun zz=>lu ⟨a1,a2,a3⟩ ⟨a1,a2,b3⟩ (a3.length:Int) zz) (fun i=>rfl),vab]
    by_cases h4:a3=b3<;>simp[h4]
   ·rw[vas (by simp;omega)]
    have:a3≠b3:=fun e=>h3 (by rw[e])
    simp[this]
  ·rw[vas (by simp[h2]),vab];simp[h2]
 ·rw[vas (by simp[h1]),vab];simp[h1]
theorem tP:oH=some true:=by kernel_rfl
theorem CX(n:Int)(l:List ae)(hl:l.length<4611686018427387904):ta n l=some (l.all (fun g=>decide (g.Arcs.length<=40))&&decide ((l.length:Int)<=n)):=by
 unfold ta pz
 rw[wd l (by omega) (fun zz=>mA l (l.length:Int) zz) (fun i x2=>if(decide ((x2.Arcs.length:Int)>40))=true then some (.inr (.inl ()))else some (.inl (cD (i+1)))) (fun g=>decide ((g.Arcs.length:Int)>40)) (.inl ()) (.inr ()) (fun i=>rfl) (fun x hx i=>by split<;>simp_all),vab]
 have:l.any (fun g=>decide ((g.Arcs.length:Int)>40))= !l.all (fun g=>decide (g.Arcs.length<=40)):=by
  rw[List.not_all_eq_any_not]
  congr 1
  funext g
  rw[vbZ];simp;omega
 rw[this]
 cases l.all (fun g=>decide (g.Arcs.length<=40))<;>simp
theorem AZ{n:Int}{l:List ae}(h:(l.all (fun g=>decide (g.Arcs.length<=40))&&decide ((l.length:Int)<=n))=true):(∀g∈l,g.Arcs.length<=40)/\(l.length:Int)<=n:=by
 simp only[vac,vao,vah]at h
 exact h
def Ck(b:Bool):af:=if b=true then[32,62,32]else[32,62,61,32]
theorem BK(b:Bool):cY b=some (Ck b):=by unfold cY Ck;split<;>rfl
mutual
def Dc:PVal->Prop
 |.slice es=>zc es
 |.int k i=>(Lit.int k i).wf=true
 |_=>True
def wt:List PVal->Prop
 |[]=>True
 |p::l=>Dc p/\wt l
def zc:List (List PVal)->Prop
 |[]=>True
 |x::r=>wt x/\zc r
end
theorem uU:∀{a b:List PVal},wt a->wt b->wt (a++b)
 |[],b,_,hb=>hb
 |p::a,b,ha,hb=>by
  simp only[vbT,wt]at ha ⊢
  exact⟨ha.1,uU ha.2 hb⟩
theorem zP:∀{es:List (List PVal)},(∀x∈es,wt x)->zc es
 |[],_=>by simp only[zc]
 |x::es,h=>by
  simp only[zc]
  exact⟨h x (by simp),zP fun y hy=>h y (vaL _ hy)⟩
theorem yx:∀{es:List (List PVal)} {x:List PVal},zc es->x∈es->wt x
 | y :: es,x,h,hx => by
  simp only[zc]at h
  rcases vaI.1 hx with rfl|hx
  ·exact h.1
  ·exact yx h.2 hx
def Bv(P:Program)(t:TypeId):Bool:=match P.underlying t with
 |some .bool=>true
 |some (.int _)=>true
 |some .string=>true
 |some (.slice _)=>true
 |some (.struct _)=>true
 |_=>false
theorem BF{P:Program}{L:List TypeId}(hF:AI P L)(hp:L.all (Bv P)=true):∀(n:Nat) {t:TypeId},t∈L->∀{l:List PVal},Sh P n t l->wt l
 |0,t,_,l,h=>h.elim
 | n + 1,t,ht,l,h => by
  have ih:=@BF P L hF hp n
  have hf:∀(fs:List Field) (l:List PVal),(∀f∈fs,f.type∈L)->Dg P (Sh P n) fs l->wt l:=by
   intro fs
   induction fs with
   |nil=>intro l _ h;unfold Dg at h;subst h;simp only[wt]
   |cons f fs ihf=>
    intro l hm h
    unfold Dg at h
    obtain⟨a,b,rfl,_,h1,h2⟩:=h
    exact uU (ih (hm f (by simp)) h1) (ihf b (fun g hg=>hm g (vaL _ hg)) h2)
  have h1:=vao.1 hp t ht
  unfold Bv at h1
  unfold Sh at h
  split at h1
  ·rename_i hu;rw[hu]at h;obtain⟨b,rfl⟩:=h;simp[wt,Dc]
  ·rename_i hu;rw[hu]at h;obtain⟨b,rfl,hw⟩:=h;simpa[wt,Dc]using hw
  ·rename_i hu;rw[hu]at h;obtain⟨b,rfl,_⟩:=h;simp[wt,Dc]
  ·rename_i hu;rw[hu]at h;obtain⟨es,rfl,_,he⟩:=h
   simp only[wt,Dc,vcb]
   exact zP fun x hx=>ih (hF.sl t ht _ hu).2 (he x hx)
  ·rename_i hu;rw[hu]at h;exact hf _ _ (hF.st t ht _ hu).2 h
  ·cases h1
theorem kW:∀(k n:Nat),n<10 ^ (k+1)->(Lib.decDigits n).length<=k+1
 |0,n,h=>by
  rw[Lib.decDigits,dif_pos (by simpa using h)];simp
 | k + 1,n,h => by
  rw[Lib.decDigits]
  by_cases hn:n<10
  ·rw[dif_pos hn];simp
  ·rw[dif_neg hn]
   have:=kW k (n / 10) (by rw[Nat.pow_succ]at h;omega)
   simp;omega
theorem qn{n:Int}(h1: -9223372036854775808<=n)(h2:n<=9223372036854775807):(Lib.itoa n).length<=21:=by
 unfold Lib.itoa
 split
 ·have:=kW 19 n.natAbs (by have:(10:Nat) ^ (19+1)=100000000000000000000:=rfl;omega)
  simp;omega
 ·have:=kW 19 n.toNat (by have:(10:Nat) ^ (19+1)=100000000000000000000:=rfl;omega)
  omega
theorem xU{n:Int}(h1: -9223372036854775808<=n)(h2:n<=9223372036854775807):xT n=some (Lib.itoa n):=by
 unfold xT
 rw[vas (by simp;omega)]
theorem uS{m:Int}:(m.tmod 10=((m.natAbs % 10:Nat):Int)/\m.tdiv 10=((m.natAbs / 10:Nat):Int)/\0<=m)\/(m.tmod 10= -((m.natAbs % 10:Nat):Int)/\m.tdiv 10= -((m.natAbs / 10:Nat):Int)/\m<0):=by
 by_cases h:0<=m
 ·left
  obtain⟨k,rfl⟩:=vcg h
  rw[vb2 h,vb3 h]
  omega
 ·right
  obtain⟨k,hk⟩:=vcg (show 0<=-m by omega)
  obtain rfl:m= -(k:Int):=by omega
  rw[Int.neg_tmod,Int.neg_tdiv,vb2 (by omega),vb3 (by omega)]
  omega
theorem y9:∀(k:Nat) (m:Int) (acc:af),m.natAbs<10 ^ k->-9223372036854775808<=m->m<=9223372036854775807->acc.length+k<=1000->gC acc m=some (if m=0 then acc else Lib.decDigits m.natAbs++acc):=by
 intro k
 induction k with
 |zero=>
  intro m acc hk _ _ _
  have hm:m=0:=by simp at hk;omega
  subst hm
  unfold gC
  rw[vas rfl]
  exact eE rfl
 | succ k ih =>
  intro m acc hk h1 h2 ha
  by_cases hm:m=0
  ·subst hm
   unfold gC
   rw[vas rfl]
   exact eE rfl
  ·have hJ:kQ (m.tmod 10)=some ((m.natAbs % 10:Nat):Int):=by
    unfold kQ
    rcases uS (m:=m)with⟨e,_,_⟩|⟨e,_,_⟩
    ·rw[e,vav (by simp;omega)]
    ·rw[e]
     by_cases hz:m.natAbs % 10=0
     ·rw[hz];rfl
     ·rw[vas (by simp;omega),ze (by omega) (by omega)]
      congr 1;omega
   have h4:IntKind.u8.wrap (cD (48+((m.natAbs % 10:Nat):Int)))=((48+m.natAbs % 10:Nat):Int):=by
    rw[m8 (by omega) (by omega)]
    have h5:(48:Int)+((m.natAbs % 10:Nat):Int)=((48+m.natAbs % 10:Nat):Int):=by omega
    rw[h5]
    generalize hq:48+m.natAbs % 10=q
    have:q<58:=by omega
    show((q:Int) % 256)=q
    omega
   have h6:kf [((48+m.natAbs % 10:Nat):Int)]=some [UInt8.ofNat (48+m.natAbs % 10)]:=by
    simp only[kf]
    rw[vas (by omega)]
    rfl
   have h7:qu .i64 m 10=some (m.tdiv 10):=by
    simp only[qu]
    rw[vav (by omega)]
    refine vbh some (ze ?_ ?_)<;>rcases uS (m:=m)with⟨_,e,_⟩|⟨_,e,_⟩<;>rw[e]<;>omega
   have h8:re m 10=some (m.tmod 10):=by
    simp only[re]
    rw[vav (by omega)]
   have hb:fN acc m=some (.inl (UInt8.ofNat (48+m.natAbs % 10)::acc,m.tdiv 10)):=by
    unfold fN
    rw[vas (by simpa using hm),h8,vab,hJ,vab,h4,h6,vab,eI (by simp;omega),vab,h7]
    rfl
   have hna:(m.tdiv 10).natAbs=m.natAbs / 10:=by
    rcases uS (m:=m)with⟨_,e,_⟩|⟨_,e,_⟩<;>rw[e]<;>omega
   have ih:=ih (m.tdiv 10) (UInt8.ofNat (48+m.natAbs % 10)::acc) (by rw[hna];rw[Nat.pow_succ]at hk;omega) (by rcases uS (m:=m)with⟨_,e,_⟩|⟨_,e,_⟩<;>rw[e]<;>omega) (by rcases uS (m:=m)with⟨_,e,_⟩|⟨_,e,_⟩<;>rw[e]<;>omega) (by simp;omega)
   unfold gC at ih ⊢
   refine(j4 (body:=fun zz:af×Int=>fN zz.1 zz.2) (s:=(acc,m)) (s':=(UInt8.ofNat (48+m.natAbs % 10)::acc,m.tdiv 10)) hb).trans ?_
   rw[ih,hna,vav hm]
   conv=>rhs;rw[Lib.decDigits]
   by_cases h:m.natAbs<10
   ·rw[dif_pos h,vas (by omega),vbQ h]
    rfl
   ·rw[dif_neg h,vav (by omega)]
    simp
theorem wn{n:Int}(h1: -9223372036854775808<=n)(h2:n<=9223372036854775807):nz n=some (Lib.itoa n):=by
 unfold nz
 by_cases h0:n=0
 ·subst h0
  rw[vas (by rfl)]
  unfold Lib.itoa
  rw[vav (by omega),Lib.decDigits,dif_pos (by simp)]
  rfl
 ·have hl:=kW 19 n.natAbs (by have:(10:Nat) ^ (19+1)=100000000000000000000:=rfl;omega)
  rw[vav (by simpa using h0),y9 20 n [] (by have:(10:Nat) ^ 20=100000000000000000000:=rfl;omega) h1 h2 (by simp),vab,vav h0]
  unfold Lib.itoa
  by_cases hn:n<0
  ·rw[vas (by simpa using hn),eI (by simp;omega),vas hn]
   simp
  ·rw[vav (by simpa using hn),vav hn,show n.natAbs=n.toNat by omega]
   simp
def A6(x:am):Prop:=(-9223372036854775808<=x.From/\x.From<=9223372036854775807)/\-9223372036854775808<=x.To/\x.To<=9223372036854775807
theorem zA{g:ae}(h:wt (ac g)):∀x∈g.Arcs,A6 x:=fun x hx=>by
 unfold ac sl at h
 simp only[wt,Dc,vbJ,vcb]at h
 have h1:=yx h (vap.2 ⟨x,hx,rfl⟩)
 unfold ak at h1
 simp only[wt,Dc,vbJ,vcb,Lit.wf,vac,vah]at h1
 exact h1
def tW(x:am):af:=([32]++Lib.itoa x.From++Ck x.Strict)++Lib.itoa x.To
def eW:Nat->List am->af
 |_,[]=>[]
 |i,x::r=>((if i>0 then[44]else[])++tW x)++eW (i+1) r
def Ec(g:ae):af:=(((g.Caller++[32,45,62,32])++g.Callee)++[58])++eW 0 g.Arcs
theorem sa(g:ae)(hl:g.Arcs.length<=40)(hw:∀x∈g.Arcs,A6 x):∀(r pre:List am) (s:af),g.Arcs=pre++r->s.length<=3000000+50 * pre.length->cj g.Arcs (g.Arcs.length:Int) s (pre.length:Int)=some (s++eW pre.length r)
 | [],pre,s,hg,hs => by
  unfold cj
  rw[eE (x:=s)]
  ·simp[eW]
  ·unfold cr
   rw[vav (by rw[hg];simp)]
 | x :: r,pre,s,hg,hs => by
  have hlt:pre.length<g.Arcs.length:=by rw[hg];simp
  obtain⟨⟨a,b⟩,c,d⟩:=hw x (by rw[hg];simp)
  have hJ2:ee s (pre.length:Int)=some (s++(if pre.length>0 then[44]else[])):=by
   unfold ee
   by_cases hp:pre.length>0
   ·rw[vas (by simpa using hp),eI (by simp;omega),vas hp];rfl
   ·rw[vav (by simpa using hp),vav hp];simp
  have hJ3:cY x.Strict=some (Ck x.Strict):=BK _
  have hpl:(if pre.length>0 then([44]:af)else[]).length<=1:=by split<;>simp
  have hsg:(Ck x.Strict).length<=4:=by unfold Ck;split<;>simp
  have l1:=qn a b
  have l2:=qn c d
  have he:(tW x).length<=48:=by unfold tW;simp;omega
  have hb:cr g.Arcs (g.Arcs.length:Int) s (pre.length:Int)=some (.inl ((s++(if pre.length>0 then[44]else[]))++tW x,(((pre++[x]).length:Nat):Int))):=by
   unfold cr
   have hi:gk g.Arcs (pre.length:Int)=some x:=by rw[hg];exact qm pre x r
   rw[vas (by simpa using hlt),hi,vab,hJ2,vab,hJ3,vab,xU a b,vab,eI (by simp;omega),vab,eI (by simp;omega),vab,xU c d,vab,
    eI (by simp;omega),vab,eI (by unfold tW at he;simp at he hpl ⊢;omega),vab,m8 (by omega) (by omega)]
   congr 3
   simp
  unfold cj
  rw[j4 hb]
  have:=sa g hl hw r (pre++[x]) ((s++(if pre.length>0 then[44]else[]))++tW x) (by rw[hg];simp) (by simp only[vaM,List.length_singleton]at *;omega)
  unfold cj at this
  rw[this]
  simp[eW,vbn]
theorem As{g:ae}(h1:g.Caller.length<=1048576)(h2:g.Callee.length<=1048576)(hl:g.Arcs.length<=40)(hw:∀x∈g.Arcs,A6 x):dq g=some (Ec g):=by
 unfold dq
 rw[eI (by simp;omega),vab,eI (by simp;omega),vab,eI (by simp;omega),vab]
 have:=sa g hl hw g.Arcs [] (((g.Caller++[32,45,62,32])++g.Callee)++[58]) rfl (by simp;omega)
 rw[show(([]:List am).length:Int)=0 from rfl]at this
 rw[this]
 rfl
theorem sh(g:ae)(hl:g.Arcs.length<=40)(hw:∀x∈g.Arcs,A6 x):∀(r pre:List am) (s:af),g.Arcs=pre++r->s.length<=3000000+50 * pre.length->gE g.Arcs (g.Arcs.length:Int) s (pre.length:Int)=some (s++eW pre.length r)
 | [],pre,s,hg,hs => by
  unfold gE
  rw[eE (x:=s)]
  ·simp[eW]
  ·unfold f0
   rw[vav (by rw[hg];simp)]
 | x :: r,pre,s,hg,hs => by
  have hlt:pre.length<g.Arcs.length:=by rw[hg];simp
  obtain⟨⟨a,b⟩,c,d⟩:=hw x (by rw[hg];simp)
  have hJ2:kV s (pre.length:Int)=some (s++(if pre.length>0 then[44]else[])):=by
   unfold kV
   by_cases hp:pre.length>0
   ·rw[vas (by simpa using hp),eI (by simp;omega),vas hp];rfl
   ·rw[vav (by simpa using hp),vav hp];simp
  have hJ3:nJ x.Strict=some (Ck x.Strict):=BK _
  have hpl:(if pre.length>0 then([44]:af)else[]).length<=1:=by split<;>simp
  have hsg:(Ck x.Strict).length<=4:=by unfold Ck;split<;>simp
  have l1:=qn a b
  have l2:=qn c d
  have he:(tW x).length<=48:=by unfold tW;simp;omega
  have hb:f0 g.Arcs (g.Arcs.length:Int) s (pre.length:Int)=some (.inl ((s++(if pre.length>0 then[44]else[]))++tW x,(((pre++[x]).length:Nat):Int))):=by
   unfold f0
   have hi:gk g.Arcs (pre.length:Int)=some x:=by rw[hg];exact qm pre x r
   rw[vas (by simpa using hlt),hi,vab,hJ2,vab,hJ3,vab,wn a b,vab,eI (by simp;omega),vab,eI (by simp;omega),vab,wn c d,vab,
    eI (by simp;omega),vab,eI (by unfold tW at he;simp at he hpl ⊢;omega),vab,m8 (by omega) (by omega)]
   congr 3
   simp
  unfold gE
  rw[j4 hb]
  have:=sh g hl hw r (pre++[x]) ((s++(if pre.length>0 then[44]else[]))++tW x) (by rw[hg];simp) (by simp only[vaM,List.length_singleton]at *;omega)
  unfold gE at this
  rw[this]
  simp[eW,vbn]
theorem Au{g:ae}(h1:g.Caller.length<=1048576)(h2:g.Callee.length<=1048576)(hl:g.Arcs.length<=40)(hw:∀x∈g.Arcs,A6 x):pW g=some (Ec g):=by
 unfold pW
 rw[eI (by simp;omega),vab,eI (by simp;omega),vab,eI (by simp;omega),vab]
 have:=sh g hl hw g.Arcs [] (((g.Caller++[32,45,62,32])++g.Callee)++[58]) rfl (by simp;omega)
 rw[show(([]:List am).length:Int)=0 from rfl]at this
 rw[this]
 rfl
theorem n9(g a:ae)(h:w8 (ac g)+(w8 (ac a)+0)<=1048576)(w:wt (ac g))(w2:wt (ac a)):fJ g a=some true:=by
 have hc:g.Caller.length<=1048576/\g.Callee.length<=1048576:=by
  unfold ac at h
  simp only[w8,pm]at h
  omega
 unfold fJ
 rw[CX 2 [g,a] (by simp),vab]
 cases hf:([g,a].all (fun g=>decide (g.Arcs.length<=40))&&decide ((([g,a]:List ae).length:Int)<=2))with
 |false=>rw[vas (by simp),tP];rfl
 | true =>
  obtain⟨h1,_⟩:=AZ hf
  have hg:=h1 g (by simp)
  have ha:=h1 a (by simp)
  rw[vav (by simp),AL g (by omega),vab,At g (by omega),vab,vas (by simp),zl g a (by omega),vab,BB g a (by omega),vab,vas (by simp),zl g g (by omega),vab,vas (by simp),
   As hc.1 hc.2 hg (zA w),vab,Au hc.1 hc.2 hg (zA w),vab,vas (by simp),tP]
  rfl
end Go.Proofs.YtoficachfgggjaaDoor
