/- PROVED: a part of the proof. Conditions: none. -/
import Derived.Test.YtoficachfgggjaaDoorPkC11
import Derived.Test.YtoficachfgggjaaDoorPkC8
noncomputable section
namespace Go.Proofs.YtoficachfgggjaaDoor
open Go Go.Proofs.Tryd
set_option linter.unusedVariables false
set_option maxRecDepth 100000
noncomputable def EW:Code:=f11.body.getD .skip
def yO:List Nat:=[22]
section
variable(g:aa)
def xe:ak:=aY 78 [(1,.eptr (ac g))] [.dead] []
def mq(o:Bool):ak:=aY 78 [(1,.eptr (ac g)),(16,.bool o)] [.dead] []
def lQ:Option Bool:=
 (qE g.Caller).bind fun r1=>
 if(r1 !=0)=true then
  some true
 else
  (qE g.Callee).bind fun r4=>
  some (r4 !=0)
theorem wu{x:Bool}(h:lQ g=some x):aA Pg GE 0 (cA EW 12) (EX .normal (mq g x)) (xe g):=by
 obtain⟨r1,br1,h⟩:=ax h
 have p3:=fun{sc F} (r:PS sc F)=>sv (aD g)<|sv (aM g)<|bW (vO br1)<|r
 rcases aG h with⟨c2,h⟩|⟨c2,h⟩
 ·obtain rfl:=lf h
  exact dz yO (p3<|sg 5 c2<|eF .normal (mq g true))<|by kernel_rfl
 ·obtain⟨r4,br4,h⟩:=ax h
  obtain rfl:=lf h
  exact dz yO (p3<|sg 5 c2<|sv (aE g)<|sv (aN g)<|bW (vO br4)<|eF .normal (mq g (r4 !=0)))<|by kernel_rfl
end
section
variable(g:aa)(i:Int)(t18:waB)(t19:Int)(m:Int)(m2:Int)(m3:Bool)
def xg:ak:=aY 78 [(1,.eptr (ac g)),(3,.int .i64 i),(4,.bptr 1 0),(18,sl ai t18),(19,.int .i64 t19),(20,.int .i64 i)] [.dead,.cells [.int .i64 m,.int .i64 m2,.bool m3] []] []
def gZ(o:Bool):ak:=aY 78 [(1,.eptr (ac g)),(3,.int .i64 i),(4,.bptr 1 0),(18,sl ai t18),(19,.int .i64 t19),(20,.int .i64 i),(42,.bool o)] [.dead,.cells [.int .i64 m,.int .i64 m2,.bool m3] []] []
def lR:Option Bool:=
 if(decide (m<0))=true then
  some true
 else
  if(decide (m>=6))=true then
   some true
  else
   if(decide (m2<0))=true then
    some true
   else
    some (decide (m2>=6))
theorem wv{x:Bool}(h:lR m m2=some x):aA Pg GE 0 (cA EW 15340) (EX .normal (gZ g i t18 t19 m m2 m3 x)) (xg g i t18 t19 m m2 m3):=by
 rcases aG h with⟨c10,h⟩|⟨c10,h⟩
 ·obtain rfl:=lf h
  exact dz yO (ss<|sg 4 c10<|eF .normal (gZ g i t18 t19 m m2 m3 true))<|by kernel_rfl
 ·have p12:=fun{sc F} (r:PS sc F)=>ss<|sg 4 c10<|ss<|r
  rcases aG h with⟨c11,h⟩|⟨c11,h⟩
  ·obtain rfl:=lf h
   exact dz yO (p12<|sg 9 c11<|eF .normal (gZ g i t18 t19 m m2 m3 true))<|by kernel_rfl
  ·have p14:=fun{sc F} (r:PS sc F)=>p12<|sg 9 c11<|ss<|r
   rcases aG h with⟨c13,h⟩|⟨c13,h⟩
   ·obtain rfl:=lf h
    exact dz yO (p14<|sg 14 c13<|eF .normal (gZ g i t18 t19 m m2 m3 true))<|by kernel_rfl
   ·obtain rfl:=lf h
    exact dz yO (p14<|sg 14 c13<|ss<|eF .normal (gZ g i t18 t19 m m2 m3 (decide (m2>=6))))<|by kernel_rfl
end
section
variable(g:aa)(i:Int)(t18:waB)(t19:Int)(t46:waB)(t47:Int)(t48:Int)(m:Int)(m2:Int)(m3:Bool)(m4:Int)(m5:Int)(m6:Bool)
def xh:ak:=aY 78 [(1,.eptr (ac g)),(3,.int .i64 i),(4,.bptr 1 0),(6,.bptr 2 0),(18,sl ai t18),(19,.int .i64 t19),(20,.int .i64 i),(46,sl ai t46),(47,.int .i64 t47),(48,.int .i64 t48)] [.dead,.cells [.int .i64 m,.int .i64 m2,.bool m3] [],.cells [.int .i64 m4,.int .i64 m5,.bool m6] []] []
def mr(o:Bool):ak:=aY 78 [(1,.eptr (ac g)),(3,.int .i64 i),(4,.bptr 1 0),(18,sl ai t18),(19,.int .i64 t19),(20,.int .i64 i),(46,sl ai t46),(47,.int .i64 t47),(48,.int .i64 t48),(63,.bool o)] [.dead,.cells [.int .i64 m,.int .i64 m2,.bool m3] [],.cells [.int .i64 m4,.int .i64 m5,.bool m6] []] []
def jT:Option Bool:=
 if(m==m4)=true then
  some (m2==m5)
 else
  some false
theorem ww{x:Bool}(h:jT m m2 m4 m5=some x):aA Pg GE 0 (cA EW 7855606) (EX .normal (mr g i t18 t19 t46 t47 t48 m m2 m3 m4 m5 m6 x)) (xh g i t18 t19 t46 t47 t48 m m2 m3 m4 m5 m6):=by
 have p22:=fun{sc F} (r:PS sc F)=>ss<|ss<|r
 rcases aG h with⟨c21,h⟩|⟨c21,h⟩
 ·obtain rfl:=lf h
  exact dz yO (p22<|sg 6 c21<|ss<|ss<|eF .normal (mr g i t18 t19 t46 t47 t48 m m2 m3 m4 m5 m6 (m2==m5)))<|by kernel_rfl
 ·obtain rfl:=lf h
  exact dz yO (p22<|sg 6 c21<|eF .normal (mr g i t18 t19 t46 t47 t48 m m2 m3 m4 m5 m6 false))<|by kernel_rfl
end
section
variable(g:aa)(i:Int)(t18:waB)(t19:Int)(t46:waB)(t47:Int)(m:Int)(m2:Int)(m3:Bool)(t48:Int)
def g6:ak:=aY 78 [(1,.eptr (ac g)),(3,.int .i64 i),(4,.bptr 1 0),(18,sl ai t18),(19,.int .i64 t19),(20,.int .i64 i),(46,sl ai t46),(47,.int .i64 t47),(48,.int .i64 t48)] [.dead,.cells [.int .i64 m,.int .i64 m2,.bool m3] []] []
def g7(o:Unit⊕(Unit)):Exit:=match o with
 |(.inl _)=>.ret
 |(.inr _)=>.exit 2
def fp(o:Unit⊕(Unit)):ak:=match o with
 |(.inl o)=>aY 78 [(2,.int .i64 4)] [.dead,.cells [.int .i64 m,.int .i64 m2,.bool m3] []] []
 |(.inr o)=>aY 78 [(1,.eptr (ac g)),(3,.int .i64 i),(4,.bptr 1 0),(18,sl ai t18),(19,.int .i64 t19),(20,.int .i64 i)] [.dead,.cells [.int .i64 m,.int .i64 m2,.bool m3] []] []
def qR:Option (Int⊕(Unit⊕(Unit))):=
 if(decide (t48<t47))=true then
  (eQ t46 t48).bind fun x20=>
  (jT m m2 x20.From x20.To).bind fun o23=>
  if o23=true then
   some (.inr (.inl ()))
  else
   some (.inl (bA (t48+1)))
 else
  some (.inr (.inr ()))
def lT:Option (Unit⊕(Unit)):=loop (fun(zz:Int)=>qR t46 t47 m m2 zz) t48
theorem uO{y:Int⊕(Unit⊕(Unit))}(h:qR t46 t47 m m2 t48=some y):aA Pg GE 0 (cA EW 122743) (LQ (fun(zz:Int)=>g6 g i t18 t19 t46 t47 m m2 m3 zz) g7 (fp g i t18 t19 m m2 m3) y) (g6 g i t18 t19 t46 t47 m m2 m3 t48):=by
 rcases aG h with⟨c19,h⟩|⟨c19,h⟩
 ·obtain⟨x20,bx20,h⟩:=ax h
  obtain⟨o23,bo23,h⟩:=ax h
  have p25:=fun{sc F} (r:PS sc F)=>sg 0 c19<|sv (cx.ia (k:=.i64) bx20)<|sv (dJ x20)<|sx tp<|sx (d7 x20)<|pZ 0<|da (ww g i t18 t19 t46 t47 t48 m m2 m3 x20.From x20.To x20.Strict bo23)<|r
  rcases aG h with⟨c24,h⟩|⟨c24,h⟩
  ·obtain rfl:=lf h
   have z:=p25<|sg 0 c24<|mW 0 (g7 (.inl ())) (fp g i t18 t19 m m2 m3 (.inl ())) rfl (bN (aI trivial trivial)) (aI trivial (aI (aI trivial (aI trivial (aI trivial trivial))) trivial))
   exact im (A:=yO) mixed (by intro hx;cases hx) z<|by kernel_rfl
  ·obtain rfl:=lf h
   have z:=p25<|sg 0 c24<|mW 0 .normal (g6 g i t18 t19 t46 t47 m m2 m3 (bA (t48+1))) rfl (bN (aI (ew (ae g)) (aI trivial (aI (dj rfl) (aI (up (aq ay t18)) (aI trivial (aI trivial (aI (up (aq ay t46)) (aI trivial (aI trivial trivial)))))))))) (aI trivial (aI (aI trivial (aI trivial (aI trivial trivial))) trivial))
   exact cJ (A:=yO) mixed z<|by kernel_rfl
 ·obtain rfl:=lf h
  have z:=sg 0 c19<|eF (g7 (.inr ())) (fp g i t18 t19 m m2 m3 (.inr ()))
  exact jI yO (by intro hx;cases hx) z<|by kernel_rfl
theorem qe{x:Unit⊕(Unit)}(h:lT t46 t47 m m2 t48=some x):aA Pg GE 0 (.loop (cA EW 122743)) (EX (g7 x) (fp g i t18 t19 m m2 m3 x)) (g6 g i t18 t19 t46 t47 m m2 m3 t48):=
 aA.loop (S:=fun(zz:Int)=>g6 g i t18 t19 t46 t47 m m2 m3 zz) (ex:=g7) (s:=t48) h fun zz y hy=>uO g i t18 t19 t46 t47 m m2 m3 zz hy
end
section
variable(g:aa)(i:Int)(t18:waB)(t19:Int)(m:Int)(m2:Int)(m3:Bool)
def xi:ak:=aY 78 [(1,.eptr (ac g)),(3,.int .i64 i),(4,.bptr 1 0),(18,sl ai t18),(19,.int .i64 t19),(20,.int .i64 i)] [.dead,.cells [.int .i64 m,.int .i64 m2,.bool m3] []] []
def ms(o:Bool):ak:=aY 78 [(1,.eptr (ac g)),(18,sl ai t18),(19,.int .i64 t19),(20,.int .i64 i),(76,.bool o)] [.dead,.cells [.int .i64 m,.int .i64 m2,.bool m3] []] []
def lS:Option Bool:=
 if(decide (i>0))=true then
  (eQ g.Arcs (bA (i - 1))).bind fun x28=>
  (ky (⟨m,m2,m3⟩:ah) x28).bind fun r29=>
  some r29
 else
  some false
theorem wx{x:Bool}(h:lS g i m m2 m3=some x):aA Pg GE 0 (cA EW 30686) (EX .normal (ms g i t18 t19 m m2 m3 x)) (xi g i t18 t19 m m2 m3):=by
 rcases aG h with⟨c27,h⟩|⟨c27,h⟩
 ·obtain⟨x28,bx28,h⟩:=ax h
  obtain⟨r29,br29,h⟩:=ax h
  obtain rfl:=lf h
  exact dz yO (zQ [0,1,3,7,7,23,7,71,247,503,1023,2047]<|sg 3 c27<|sv (f0 (⟨m,m2,m3⟩:ah) [])<|sv (au g)<|sv (av g)<|sv (cx.ia (k:=.i64) bx28)<|sv (dJ x28)<|bW (kG br29)<|eF .normal (ms g i t18 t19 m m2 m3 r29))<|by kernel_rfl
 ·obtain rfl:=lf h
  exact dz yO (zQ [0,1,3,7,7,23,7,71,247,503,1023,2047]<|sg 3 c27<|eF .normal (ms g i t18 t19 m m2 m3 false))<|by kernel_rfl
end
section
variable(g:aa)(t18:waB)(t19:Int)(t20:Int)
def g4:ak:=aY 78 [(1,.eptr (ac g)),(18,sl ai t18),(19,.int .i64 t19),(20,.int .i64 t20)] [.dead] []
def dU(o:Int⊕(Unit)):Exit:=match o with
 |(.inl _)=>.ret
 |(.inr _)=>.exit 0
def dh(o:Int⊕(Unit)):ak:=match o with
 |(.inl o)=>aY 78 [(2,.int .i64 o)] [.dead] []
 |(.inr o)=>aY 78 [] [.dead] []
def g5:Option (Int⊕(Int⊕(Unit))):=
 if (decide (t20 < t19)) = true then
  (eQ t18 t20).bind fun x9=>
  (lR x9.From x9.To).bind fun o15=>
  if o15=true then
   some (.inr (.inl 2))
  else
   (AW g.Arcs none (some t20)).bind fun l18=>
   (lT l18 (l18.length:Int) x9.From x9.To 0).bind fun o26=>match o26 with
   |(.inl o26)=>
    some (.inr (.inl 4))
   | (.inr o26) =>
    (lS g t20 x9.From x9.To x9.Strict).bind fun o30=>
    if o30=true then
     some (.inr (.inl 9))
    else
     some (.inl (bA (t20+1)))
 else
  some (.inr (.inr ()))
def iz:Option (Int⊕(Unit)):=loop (fun(zz:Int)=>g5 g t18 t19 zz) t20
theorem uN{y:Int⊕(Int⊕(Unit))}(h:g5 g t18 t19 t20=some y):aA Pg GE 0 (cA EW 119) (LQ (fun(zz:Int)=>g4 g t18 t19 zz) dU dh y) (g4 g t18 t19 t20):=by
 rcases aG h with⟨c8,h⟩|⟨c8,h⟩
 ·obtain⟨x9,bx9,h⟩:=ax h
  obtain⟨o15,bo15,h⟩:=ax h
  have p17:=fun{sc F} (r:PS sc F)=>sg 0 c8<|sv (cx.ia (k:=.i64) bx9)<|sv (dJ x9)<|sx tp<|sx (d7 x9)<|pZ 1<|da (wv g t20 t18 t19 x9.From x9.To x9.Strict bo15)<|r
  rcases aG h with⟨c16,h⟩|⟨c16,h⟩
  ·obtain rfl:=lf h
   have z:=p17<|sg 0 c16<|mW 0 (dU (.inl 2)) (dh (.inl 2)) rfl (bN (aI trivial trivial)) (aI trivial trivial)
   exact im (A:=yO) mixed (by intro hx;cases hx) z<|by kernel_rfl
  ·obtain⟨l18,bl18,h⟩:=ax h
   obtain⟨o26,bo26,h⟩:=ax h
   rcases o26 with o26|o26
   ·obtain rfl:=lf h
    have z:=p17<|sg 0 c16<|sv (au g)<|sv (av g)<|sv (cx.sc bl18)<|dB (cx.ln l18)<|da (e:=.ret) (s1:=fp g t20 t18 t19 x9.From x9.To x9.Strict (.inl o26)) (qe g t20 t18 t19 l18 (l18.length:Int) x9.From x9.To x9.Strict 0 bo26)<|mW 0 (dU (.inl 4)) (dh (.inl 4)) rfl (bN (aI trivial trivial)) (aI trivial trivial)
    exact im (A:=yO) mixed (by intro hx;cases hx) z<|by kernel_rfl
   ·obtain⟨o30,bo30,h⟩:=ax h
    have p32:=fun{sc F} (r:PS sc F)=>p17<|sg 0 c16<|sv (au g)<|sv (av g)<|sv (cx.sc bl18)<|dB (cx.ln l18)<|da (e:=.exit 2) (s1:=fp g t20 t18 t19 x9.From x9.To x9.Strict (.inr o26)) (qe g t20 t18 t19 l18 (l18.length:Int) x9.From x9.To x9.Strict 0 bo26)<|pZ 0<|da (wx g t20 t18 t19 x9.From x9.To x9.Strict bo30)<|r
    rcases aG h with⟨c31,h⟩|⟨c31,h⟩
    ·obtain rfl:=lf h
     have z:=p32<|sg 0 c31<|mW 0 (dU (.inl 9)) (dh (.inl 9)) rfl (bN (aI trivial trivial)) (aI trivial trivial)
     exact im (A:=yO) mixed (by intro hx;cases hx) z<|by kernel_rfl
    ·obtain rfl:=lf h
     have z:=p32<|sg 0 c31<|mW 0 .normal (g4 g t18 t19 (bA (t20+1))) rfl (bN (aI (ew (ae g)) (aI (up (aq ay t18)) (aI trivial (aI trivial trivial))))) (aI trivial trivial)
     exact cJ (A:=yO) mixed z<|by kernel_rfl
 ·obtain rfl:=lf h
  have z:=sg 0 c8<|eF (dU (.inr ())) (dh (.inr ()))
  exact jI yO (by intro hx;cases hx) z<|by kernel_rfl
theorem qd{x:Int⊕(Unit)}(h:iz g t18 t19 t20=some x):aA Pg GE 0 (.loop (cA EW 119)) (EX (dU x) (dh x)) (g4 g t18 t19 t20):=
 aA.loop (S:=fun(zz:Int)=>g4 g t18 t19 zz) (ex:=dU) (s:=t20) h fun zz y hy=>uN g t18 t19 zz hy
end
def mc(g:aa):Option Int:=
 (lQ g).bind fun o5=>
 if o5=true then
  some 3
 else
  (iz g g.Arcs (g.Arcs.length:Int) 0).bind fun o33=>match o33 with
  |(.inl o33)=>
   some o33
  |(.inr o33)=>
   some 0
theorem pg{g:aa}{r:Int}(h:mc g=some r):CC Pg GE 11 [.agg (ac g)] (.int .i64 r) []:=by
 obtain⟨o5,bo5,h⟩:=ax h
 have p7:=fun{sc F} (r:PS sc F)=>se (ba g)<|pZ 1<|da (wu g bo5)<|r
 rcases aG h with⟨c6,h⟩|⟨c6,h⟩
 ·obtain rfl:=lf h
  have z:=p7<|sg 0 c6<|en (aI (rP (.int .i64 3))<|trivial)
  exact bm yO call11 func11 (c:=EW) rfl (aI (ae g) trivial) z<|by kernel_rfl
 ·obtain⟨o33,bo33,h⟩:=ax h
  rcases o33 with o33|o33
  ·obtain rfl:=lf h
   have z:=p7<|sg 0 c6<|sv (au g)<|sv (av g)<|dB (cx.ln g.Arcs)<|da (e:=.ret) (s1:=dh (.inl o33)) (qd g g.Arcs (g.Arcs.length:Int) 0 bo33)<|en (aI (rP (.int .i64 o33))<|trivial)
   exact bm yO call11 func11 (c:=EW) rfl (aI (ae g) trivial) z<|by kernel_rfl
  ·obtain rfl:=lf h
   have z:=p7<|sg 0 c6<|sv (au g)<|sv (av g)<|dB (cx.ln g.Arcs)<|da (e:=.exit 0) (s1:=dh (.inr o33)) (qd g g.Arcs (g.Arcs.length:Int) 0 bo33)<|en (aI (rP (.int .i64 0))<|trivial)
   exact bm yO call11 func11 (c:=EW) rfl (aI (ae g) trivial) z<|by kernel_rfl
noncomputable def Ia:Code:=f13.body.getD .skip
def F5:List Nat:=[32]
section
variable(v:aa)(v2:aa)
def yU:ak:=aY 45 [(2,.eptr (ac v)),(3,.eptr (ac v2))] [.dead,.dead] []
def kF(o:Bool):ak:=aY 45 [(2,.eptr (ac v)),(3,.eptr (ac v2)),(26,.bool o)] [.dead,.dead] []
def qM:Option Bool:=
 if(!(v.Caller==v2.Caller))=true then
  some true
 else
  if(!(v.Callee==v2.Callee))=true then
   some true
  else
   some ((v.Arcs.length:Int)!=(v2.Arcs.length:Int))
theorem xd{x:Bool}(h:qM v v2=some x):aA Pg GE 0 (cA Ia 12) (EX .normal (kF v v2 x)) (yU v v2):=by
 have p2:=fun{sc F} (r:PS sc F)=>sv (aD v)<|sv (aM v)<|sv (aD v2)<|sv (aM v2)<|r
 rcases aG h with⟨c1,h⟩|⟨c1,h⟩
 ·obtain rfl:=lf h
  exact dz F5 (p2<|sg 6 c1<|eF .normal (kF v v2 true))<|by kernel_rfl
 ·have p4:=fun{sc F} (r:PS sc F)=>p2<|sg 6 c1<|sv (aE v)<|sv (aN v)<|sv (aE v2)<|sv (aN v2)<|r
  rcases aG h with⟨c3,h⟩|⟨c3,h⟩
  ·obtain rfl:=lf h
   exact dz F5 (p4<|sg 13 c3<|eF .normal (kF v v2 true))<|by kernel_rfl
  ·obtain rfl:=lf h
   exact dz F5 (p4<|sg 13 c3<|sv (au v)<|sv (av v)<|dB (cx.ln v.Arcs)<|sv (au v2)<|sv (av v2)<|dB (cx.ln v2.Arcs)<|eF .normal (kF v v2 ((v.Arcs.length:Int)!=(v2.Arcs.length:Int))))<|by kernel_rfl
end
section
variable(v:aa)(v2:aa)(t29:Int)(t30:Int)
def iV:ak:=aY 45 [(2,.eptr (ac v)),(3,.eptr (ac v2)),(29,.int .i64 t29),(30,.int .i64 t30)] [.dead,.dead] []
def iW(o:Unit⊕(Unit)):Exit:=match o with
 |(.inl _)=>.ret
 |(.inr _)=>.exit 0
def gu(o:Unit⊕(Unit)):ak:=match o with
 |(.inl o)=>aY 45 [(4,.bool false)] [.dead,.dead] []
 |(.inr o)=>aY 45 [] [.dead,.dead] []
def nP:Option (Int⊕(Unit⊕(Unit))):=
 if(decide (t30<t29))=true then
  (eQ v.Arcs t30).bind fun x9=>
  (eQ v2.Arcs t30).bind fun x10=>
  if(!(lW x9 x10))=true then
   some (.inr (.inl ()))
  else
   some (.inl (bA (t30+1)))
 else
  some (.inr (.inr ()))
def qN:Option (Unit⊕(Unit)):=loop (fun(zz:Int)=>nP v v2 t29 zz) t30
theorem ws{y:Int⊕(Unit⊕(Unit))}(h:nP v v2 t29 t30=some y):aA Pg GE 0 (cA Ia 119) (LQ (fun(zz:Int)=>iV v v2 t29 zz) iW gu y) (iV v v2 t29 t30):=by
 rcases aG h with⟨c8,h⟩|⟨c8,h⟩
 ·obtain⟨x9,bx9,h⟩:=ax h
  obtain⟨x10,bx10,h⟩:=ax h
  have p12:=fun{sc F} (r:PS sc F)=>sg 0 c8<|zQ [0,1,0,7,15,0,32,0,224,480,1023]<|sv (au v)<|sv (av v)<|sv (cx.ia (k:=.i64) bx9)<|sv (dJ x9)<|sv (au v2)<|sv (av v2)<|sv (cx.ia (k:=.i64) bx10)<|sv (dJ x10)<|sv (BW x9 x10)<|r
  rcases aG h with⟨c11,h⟩|⟨c11,h⟩
  ·obtain rfl:=lf h
   have z:=p12<|sg 0 c11<|eF (iW (.inl ())) (gu (.inl ()))
   exact jI F5 (by intro hx;cases hx) z<|by kernel_rfl
  ·obtain rfl:=lf h
   exact tg F5 (p12<|sg 0 c11<|eF .normal (iV v v2 t29 (bA (t30+1))))<|by kernel_rfl
 ·obtain rfl:=lf h
  have z:=sg 0 c8<|eF (iW (.inr ())) (gu (.inr ()))
  exact jI F5 (by intro hx;cases hx) z<|by kernel_rfl
theorem qO{x:Unit⊕(Unit)}(h:qN v v2 t29 t30=some x):aA Pg GE 0 (.loop (cA Ia 119)) (EX (iW x) (gu x)) (iV v v2 t29 t30):=
 aA.loop (S:=fun(zz:Int)=>iV v v2 t29 zz) (ex:=iW) (s:=t30) h fun zz y hy=>ws v v2 t29 zz hy
end
def mn(a:aa)(a2:aa):Option Bool:=
 (qM a a2).bind fun o5=>
 if o5=true then
  some false
 else
  (qN a a2 (a.Arcs.length:Int) 0).bind fun o13=>match o13 with
  |(.inl o13)=>
   some false
  |(.inr o13)=>
   some true
theorem qP{a:aa}{a2:aa}{r:Bool}(h:mn a a2=some r):CC Pg GE 13 [.agg (ac a),.agg (ac a2)] (.bool r) []:=by
 obtain⟨o5,bo5,h⟩:=ax h
 have p7:=fun{sc F} (r:PS sc F)=>se (ba a)<|se (ba a2)<|pZ 1<|da (xd a a2 bo5)<|r
 rcases aG h with⟨c6,h⟩|⟨c6,h⟩
 ·obtain rfl:=lf h
  have z:=p7<|sg 0 c6<|en (aI (rP (.bool false))<|trivial)
  exact bm F5 call13 func13 (c:=Ia) rfl (aI (ae a) (aI (ae a2) trivial)) z<|by kernel_rfl
 ·obtain⟨o13,bo13,h⟩:=ax h
  rcases o13 with o13|o13
  ·obtain rfl:=lf h
   have z:=p7<|sg 0 c6<|sv (au a)<|sv (av a)<|dB (cx.ln a.Arcs)<|da (e:=.ret) (s1:=gu (.inl o13)) (qO a a2 (a.Arcs.length:Int) 0 bo13)<|en (aI (rP (.bool false))<|trivial)
   exact bm F5 call13 func13 (c:=Ia) rfl (aI (ae a) (aI (ae a2) trivial)) z<|by kernel_rfl
  ·obtain rfl:=lf h
   have z:=p7<|sg 0 c6<|sv (au a)<|sv (av a)<|dB (cx.ln a.Arcs)<|da (e:=.exit 0) (s1:=gu (.inr o13)) (qO a a2 (a.Arcs.length:Int) 0 bo13)<|en (aI (rP (.bool true))<|trivial)
   exact bm F5 call13 func13 (c:=Ia) rfl (aI (ae a) (aI (ae a2) trivial)) z<|by kernel_rfl
noncomputable def b3:Code:=Tryd.f3.body.getD .skip
noncomputable def Id:Code:=f35.body.getD .skip
def EJ:List Nat:=[64]
section
variable(v:Int)(to:Int)(v2:aa)(found:Bool)(t20:waB)(t21:Int)(t22:Int)(t27:waB)(t28:Int)(t29:Int)(m:Bool)(m2:Int)(m3:Int)(m4:Bool)(m5:Int)(m6:Int)(m7:Bool)
def Ab:ak:=aY 65 [(2,.int .i64 v),(3,.int .i64 to),(5,.eptr (ac v2)),(8,.bptr 2 0),(10,.bptr 3 0),(11,.bool found),(13,.bptr 4 0),(15,.bptr 5 0),(20,sl ai t20),(21,.int .i64 t21),(22,.int .i64 t22),(27,sl ai t27),(28,.int .i64 t28),(29,.int .i64 t29)] [.dead,.dead,.cells [.int .i64 0,.int .i64 0,.bool false] [],.cells [.int .i64 v,.int .i64 to,.bool m] [],.cells [.int .i64 m2,.int .i64 m3,.bool m4] [],.cells [.int .i64 m5,.int .i64 m6,.bool m7] []] []
def lU(o:Bool):ak:=aY 65 [(2,.int .i64 v),(3,.int .i64 to),(5,.eptr (ac v2)),(8,.bptr 2 0),(10,.bptr 3 0),(11,.bool found),(13,.bptr 4 0),(15,.bptr 5 0),(20,sl ai t20),(21,.int .i64 t21),(22,.int .i64 t22),(27,sl ai t27),(28,.int .i64 t28),(29,.int .i64 t29),(49,.bool o)] [.dead,.dead,.cells [.int .i64 0,.int .i64 0,.bool false] [],.cells [.int .i64 v,.int .i64 to,.bool m] [],.cells [.int .i64 m2,.int .i64 m3,.bool m4] [],.cells [.int .i64 m5,.int .i64 m6,.bool m7] []] []
def mt:Option Bool:=
 if(m2==v)=true then
  if(m3==m5)=true then
   some (m6==to)
  else
   some false
 else
  some false
theorem yV{x:Bool}(h:mt v to m2 m3 m5 m6=some x):aA Pg GE 0 (cA Id 4061174) (EX .normal (lU v to v2 found t20 t21 t22 t27 t28 t29 m m2 m3 m4 m5 m6 m7 x)) (Ab v to v2 found t20 t21 t22 t27 t28 t29 m m2 m3 m4 m5 m6 m7):=by
 rcases aG h with⟨c5,h⟩|⟨c5,h⟩
 ·have p7:=fun{sc F} (r:PS sc F)=>ss<|sg 5 c5<|ss<|ss<|r
  rcases aG h with⟨c6,h⟩|⟨c6,h⟩
  ·obtain rfl:=lf h
   exact dz EJ (p7<|sg 12 c6<|ss<|eF .normal (lU v to v2 found t20 t21 t22 t27 t28 t29 m m2 m3 m4 m5 m6 m7 (m6==to)))<|by kernel_rfl
  ·obtain rfl:=lf h
   exact dz EJ (p7<|sg 12 c6<|eF .normal (lU v to v2 found t20 t21 t22 t27 t28 t29 m m2 m3 m4 m5 m6 m7 false))<|by kernel_rfl
 ·obtain rfl:=lf h
  exact dz EJ (ss<|sg 5 c5<|eF .normal (lU v to v2 found t20 t21 t22 t27 t28 t29 m m2 m3 m4 m5 m6 m7 false))<|by kernel_rfl
end
section
variable(v:Int)(to:Int)(v2:aa)(t20:waB)(t21:Int)(t22:Int)(t27:waB)(t28:Int)(m2:Int)(m3:Int)(m4:Bool)(found:Bool)(t29:Int)(m:Bool)
def eE:ak:=aY 65 [(2,.int .i64 v),(3,.int .i64 to),(5,.eptr (ac v2)),(8,.bptr 2 0),(10,.bptr 3 0),(11,.bool found),(13,.bptr 4 0),(20,sl ai t20),(21,.int .i64 t21),(22,.int .i64 t22),(27,sl ai t27),(28,.int .i64 t28),(29,.int .i64 t29)] [.dead,.dead,.cells [.int .i64 0,.int .i64 0,.bool false] [],.cells [.int .i64 v,.int .i64 to,.bool m] [],.cells [.int .i64 m2,.int .i64 m3,.bool m4] []] []
def pl(o:Bool×Bool):ak:=aY 65 [(2,.int .i64 v),(3,.int .i64 to),(5,.eptr (ac v2)),(8,.bptr 2 0),(10,.bptr 3 0),(11,.bool o.1),(20,sl ai t20),(21,.int .i64 t21),(22,.int .i64 t22)] [.dead,.dead,.cells [.int .i64 0,.int .i64 0,.bool false] [],.cells [.int .i64 v,.int .i64 to,.bool o.2] [],.cells [.int .i64 m2,.int .i64 m3,.bool m4] []] []
def pk:Option ((Bool×Int×Bool)⊕((Bool×Bool))):=
 if (decide (t29 < t28)) = true then
  (eQ t27 t29).bind fun x4=>
  (mt v to m2 m3 x4.From x4.To).bind fun o8=>
  if o8=true then
   if m=true then
    some (.inl (true,bA (t29+1),true))
   else
    if m4=true then
     some (.inl (true,bA (t29+1),true))
    else
     some (.inl (true,bA (t29+1),x4.Strict))
  else
   some (.inl (found,bA (t29+1),m))
 else
  some (.inr (found,m))
def mw:Option ((Bool×Bool)):=loop (fun(zz:Bool×Int×Bool)=>pk v to t27 t28 m2 m3 m4 zz.1 zz.2.1 zz.2.2) (found,t29,m)
theorem xk{y:(Bool×Int×Bool)⊕((Bool×Bool))}(h:pk v to t27 t28 m2 m3 m4 found t29 m=some y):aA Pg GE 0 (cA Id 63455) (LQ (fun(zz:Bool×Int×Bool)=>eE v to v2 t20 t21 t22 t27 t28 m2 m3 m4 zz.1 zz.2.1 zz.2.2) (fun _=>.exit 2) (pl v to v2 t20 t21 t22 m2 m3 m4) y) (eE v to v2 t20 t21 t22 t27 t28 m2 m3 m4 found t29 m):=by
 rcases aG h with⟨c3,h⟩|⟨c3,h⟩
 ·obtain⟨x4,bx4,h⟩:=ax h
  obtain⟨o8,bo8,h⟩:=ax h
  have p10:=fun{sc F} (r:PS sc F)=>sg 0 c3<|sv (cx.ia (k:=.i64) bx4)<|sv (dJ x4)<|sx tp<|sx (d7 x4)<|pZ 0<|da (yV v to v2 found t20 t21 t22 t27 t28 t29 m m2 m3 m4 x4.From x4.To x4.Strict bo8)<|r
  rcases aG h with⟨c9,h⟩|⟨c9,h⟩
  ·have p12:=fun{sc F} (r:PS sc F)=>p10<|sg 0 c9<|ss<|r
   rcases aG h with⟨c11,h⟩|⟨c11,h⟩
   ·obtain rfl:=lf h
    have z:=p12<|sg 3 c11<|ss<|mW 0 .normal (eE v to v2 t20 t21 t22 t27 t28 m2 m3 m4 true (bA (t29+1)) true) rfl (bN (aI trivial (aI trivial (aI (ew (ae v2)) (aI (dj rfl) (aI (dj rfl) (aI trivial (aI (dj rfl) (aI (up (aq ay t20)) (aI trivial (aI trivial (aI (up (aq ay t27)) (aI trivial (aI trivial trivial)))))))))))))) (aI trivial (aI trivial (aI (aI trivial (aI trivial (aI trivial trivial))) (aI (aI trivial (aI trivial (aI trivial trivial))) (aI (aI trivial (aI trivial (aI trivial trivial))) trivial)))))
    exact cJ (A:=EJ) mixed z<|by kernel_rfl
   ·have p14:=fun{sc F} (r:PS sc F)=>p12<|sg 3 c11<|ss<|r
    rcases aG h with⟨c13,h⟩|⟨c13,h⟩
    ·obtain rfl:=lf h
     have z:=p14<|sg 7 c13<|ss<|mW 0 .normal (eE v to v2 t20 t21 t22 t27 t28 m2 m3 m4 true (bA (t29+1)) true) rfl (bN (aI trivial (aI trivial (aI (ew (ae v2)) (aI (dj rfl) (aI (dj rfl) (aI trivial (aI (dj rfl) (aI (up (aq ay t20)) (aI trivial (aI trivial (aI (up (aq ay t27)) (aI trivial (aI trivial trivial)))))))))))))) (aI trivial (aI trivial (aI (aI trivial (aI trivial (aI trivial trivial))) (aI (aI trivial (aI trivial (aI trivial trivial))) (aI (aI trivial (aI trivial (aI trivial trivial))) trivial)))))
     exact cJ (A:=EJ) mixed z<|by kernel_rfl
    ·obtain rfl:=lf h
     have z:=p14<|sg 7 c13<|ss<|ss<|mW 0 .normal (eE v to v2 t20 t21 t22 t27 t28 m2 m3 m4 true (bA (t29+1)) x4.Strict) rfl (bN (aI trivial (aI trivial (aI (ew (ae v2)) (aI (dj rfl) (aI (dj rfl) (aI trivial (aI (dj rfl) (aI (up (aq ay t20)) (aI trivial (aI trivial (aI (up (aq ay t27)) (aI trivial (aI trivial trivial)))))))))))))) (aI trivial (aI trivial (aI (aI trivial (aI trivial (aI trivial trivial))) (aI (aI trivial (aI trivial (aI trivial trivial))) (aI (aI trivial (aI trivial (aI trivial trivial))) trivial)))))
     exact cJ (A:=EJ) mixed z<|by kernel_rfl
  ·obtain rfl:=lf h
   have z:=p10<|sg 0 c9<|mW 0 .normal (eE v to v2 t20 t21 t22 t27 t28 m2 m3 m4 found (bA (t29+1)) m) rfl (bN (aI trivial (aI trivial (aI (ew (ae v2)) (aI (dj rfl) (aI (dj rfl) (aI trivial (aI (dj rfl) (aI (up (aq ay t20)) (aI trivial (aI trivial (aI (up (aq ay t27)) (aI trivial (aI trivial trivial)))))))))))))) (aI trivial (aI trivial (aI (aI trivial (aI trivial (aI trivial trivial))) (aI (aI trivial (aI trivial (aI trivial trivial))) (aI (aI trivial (aI trivial (aI trivial trivial))) trivial)))))
   exact cJ (A:=EJ) mixed z<|by kernel_rfl
 ·obtain rfl:=lf h
  have z:=sg 0 c3<|eF (.exit 2) (pl v to v2 t20 t21 t22 m2 m3 m4 (found,m))
  exact jI EJ (by intro hx;cases hx) z<|by kernel_rfl
theorem yX{x:(Bool×Bool)}(h:mw v to t27 t28 m2 m3 m4 found t29 m=some x):aA Pg GE 0 (.loop (cA Id 63455)) (EX (.exit 2) (pl v to v2 t20 t21 t22 m2 m3 m4 x)) (eE v to v2 t20 t21 t22 t27 t28 m2 m3 m4 found t29 m):=
 aA.loop (S:=fun(zz:Bool×Int×Bool)=>eE v to v2 t20 t21 t22 t27 t28 m2 m3 m4 zz.1 zz.2.1 zz.2.2) (ex:=(fun _=>.exit 2)) (s:=(found,t29,m)) h fun zz y hy=>xk v to v2 t20 t21 t22 t27 t28 m2 m3 m4 zz.1 zz.2.1 zz.2.2 hy
end
section
variable(v:Int)(to:Int)(v2:aa)(t20:waB)(t21:Int)(found:Bool)(t22:Int)(m:Bool)
def jU:ak:=aY 65 [(2,.int .i64 v),(3,.int .i64 to),(5,.eptr (ac v2)),(8,.bptr 2 0),(10,.bptr 3 0),(11,.bool found),(20,sl ai t20),(21,.int .i64 t21),(22,.int .i64 t22)] [.dead,.dead,.cells [.int .i64 0,.int .i64 0,.bool false] [],.cells [.int .i64 v,.int .i64 to,.bool m] []] []
def pj(o:Bool×Bool):ak:=aY 65 [(8,.bptr 2 0),(10,.bptr 3 0),(11,.bool o.1)] [.dead,.dead,.cells [.int .i64 0,.int .i64 0,.bool false] [],.cells [.int .i64 v,.int .i64 to,.bool o.2] []] []
def ph:Option ((Bool×Int×Bool)⊕((Bool×Bool))):=
 if(decide (t22<t21))=true then
  (eQ t20 t22).bind fun x2=>
  (mw v to v2.Arcs (v2.Arcs.length:Int) x2.From x2.To x2.Strict found 0 m).bind fun o15=>
  some (.inl (o15.1,bA (t22+1),o15.2))
 else
  some (.inr (found,m))
def sQ:Option ((Bool×Bool)):=loop (fun(zz:Bool×Int×Bool)=>ph v to v2 t20 t21 zz.1 zz.2.1 zz.2.2) (found,t22,m)
theorem xj{y:(Bool×Int×Bool)⊕((Bool×Bool))}(h:ph v to v2 t20 t21 found t22 m=some y):aA Pg GE 0 (cA Id 247) (LQ (fun(zz:Bool×Int×Bool)=>jU v to v2 t20 t21 zz.1 zz.2.1 zz.2.2) (fun _=>.exit 0) (pj v to) y) (jU v to v2 t20 t21 found t22 m):=by
 rcases aG h with⟨c1,h⟩|⟨c1,h⟩
 ·obtain⟨x2,bx2,h⟩:=ax h
  obtain⟨o15,bo15,h⟩:=ax h
  obtain rfl:=lf h
  have z:=sg 0 c1<|sv (cx.ia (k:=.i64) bx2)<|sv (dJ x2)<|sx tp<|sx (d7 x2)<|sv (au v2)<|sv (av v2)<|dB (cx.ln v2.Arcs)<|da (yX v to v2 t20 t21 t22 v2.Arcs (v2.Arcs.length:Int) x2.From x2.To x2.Strict found 0 m bo15)<|mW 0 .normal (jU v to v2 t20 t21 o15.1 (bA (t22+1)) o15.2) rfl (bN (aI trivial (aI trivial (aI (ew (ae v2)) (aI (dj rfl) (aI (dj rfl) (aI trivial (aI (up (aq ay t20)) (aI trivial (aI trivial trivial)))))))))) (aI trivial (aI trivial (aI (aI trivial (aI trivial (aI trivial trivial))) (aI (aI trivial (aI trivial (aI trivial trivial))) trivial))))
  exact cJ (A:=EJ) mixed z<|by kernel_rfl
 ·obtain rfl:=lf h
  have z:=sg 0 c1<|eF (.exit 0) (pj v to (found,m))
  exact jI EJ (by intro hx;cases hx) z<|by kernel_rfl
theorem yW{x:(Bool×Bool)}(h:sQ v to v2 t20 t21 found t22 m=some x):aA Pg GE 0 (.loop (cA Id 247)) (EX (.exit 0) (pj v to x)) (jU v to v2 t20 t21 found t22 m):=
 aA.loop (S:=fun(zz:Bool×Int×Bool)=>jU v to v2 t20 t21 zz.1 zz.2.1 zz.2.2) (ex:=(fun _=>.exit 0)) (s:=(found,t22,m)) h fun zz y hy=>xj v to v2 t20 t21 zz.1 zz.2.1 zz.2.2 hy
end
def wJ(a:aa)(a2:aa)(a3:Int)(to:Int):Option (ah×Bool):=
 (sQ a3 to a2 a.Arcs (a.Arcs.length:Int) false 0 false).bind fun o16=>
 some ((⟨a3,to,o16.2⟩:ah),o16.1)
theorem Cy{a:aa}{a2:aa}{a3:Int}{to:Int}{r:ah×Bool}(h:wJ a a2 a3 to=some r):CC Pg GE 35 [.agg (ac a),.agg (ac a2),.int .i64 a3,.int .i64 to] (.tuple [.agg (ai r.1),.bool r.2]) []:=by
 obtain⟨o16,bo16,h⟩:=ax h
 obtain rfl:=lf h
 have z:=se (ba a)<|se (ba a2)<|sx tp<|sv (Br a3 to)<|sx tp<|sx (d7 (⟨a3,to,false⟩:ah))<|sv (au a)<|sv (av a)<|dB (cx.ln a.Arcs)<|da (yW a3 to a2 a.Arcs (a.Arcs.length:Int) false 0 false bo16)<|sv (f0 (⟨a3,to,o16.2⟩:ah) [])<|sx (d7 (⟨a3,to,o16.2⟩:ah))<|en (aI (va8 PVal.tuple (ki (FX (⟨a3,to,o16.2⟩:ah)) (ki (rP (.bool o16.1)) (rfl:([]:List PVal)=[]))))<|(aI (ay (⟨a3,to,o16.2⟩:ah)) (aI trivial trivial)))
 exact bm EJ call35 func35 (c:=Id) rfl (aI (ae a) (aI (ae a2) (aI trivial (aI trivial trivial)))) z<|by kernel_rfl
noncomputable def GS:Code:=f18.body.getD .skip
def F6:List Nat:=[18,24,38,41,52]
section
variable(v:aa)(v2:aa)(v3:Int)(m:waB)(m2:ag)(m3:ag)(t39:Int)(m4:waB)
def dR:ak:=aY 60 [(2,.eptr (ac v)),(3,.eptr (ac v2)),(4,.bptr 2 0),(8,.bptr 3 0),(9,.int .i64 v3),(36,.int .i64 v3),(39,.int .i64 t39)] [.dead,.dead,.cells [.str ([]:ag),.str ([]:ag),sl ai m] [(2,43)],.cells [.str m2,.str m3,sl ai m4] [(2,43)]] []
def kw(o:waB):ak:=aY 60 [(2,.eptr (ac v)),(3,.eptr (ac v2)),(4,.bptr 2 0),(8,.bptr 3 0),(36,.int .i64 v3)] [.dead,.dead,.cells [.str ([]:ag),.str ([]:ag),sl ai m] [(2,43)],.cells [.str m2,.str m3,sl ai o] [(2,43)]] []
def fj:Option ((Int×waB)⊕(waB)):=
 if(decide (t39<6))=true then
  (wJ v v2 v3 t39).bind fun r11=>
  if r11.2=true then
   (app m4 ([r11.1]:List ah)).bind fun l14=>
   some (.inl (bA (t39+1),l14))
  else
   some (.inl (bA (t39+1),m4))
 else
  some (.inr m4)
def qK:Option waB:=loop (fun(zz:Int×waB)=>fj v v2 v3 zz.1 zz.2) (t39,m4)
theorem sO{y:(Int×waB)⊕(waB)}(h:fj v v2 v3 t39 m4=some y):aA Pg GE 0 (cA GS 260063) (LQ (fun(zz:Int×waB)=>dR v v2 v3 m m2 m3 zz.1 zz.2) (fun _=>.exit 2) (kw v v2 v3 m m2 m3) y) (dR v v2 v3 m m2 m3 t39 m4):=by
 rcases aG h with⟨c10,h⟩|⟨c10,h⟩
 ·obtain⟨r11,br11,h⟩:=ax h
  have p13:=fun{sc F} (r:PS sc F)=>sg 0 c10<|sv (aT v)<|sv (aT v2)<|bW (Cy br11)<|sx tp<|sx (d7 r11.1)<|r
  rcases aG h with⟨c12,h⟩|⟨c12,h⟩
  ·obtain⟨l14,bl14,h⟩:=ax h
   obtain rfl:=lf h
   have z:=p13<|sg 0 c12<|sv (f0 r11.1 [])<|sv (cx.mk' (v:=A1) ym ([r11.1]:List ah) 1 (by kernel_rfl))<|sv (cx.ap bl14)<|mW 0 .normal (dR v v2 v3 m m2 m3 (bA (t39+1)) l14) rfl (bN (aI (ew (ae v)) (aI (ew (ae v2)) (aI (dj rfl) (aI (dj rfl) (aI trivial (aI trivial (aI trivial trivial)))))))) (aI trivial (aI trivial (aI (aI trivial (aI trivial (aI (up (aq ay m)) trivial))) (aI (aI trivial (aI trivial (aI (up (aq ay l14)) trivial))) trivial))))
   exact cJ (A:=F6) mixed z<|by kernel_rfl
  ·obtain rfl:=lf h
   have z:=p13<|sg 0 c12<|mW 0 .normal (dR v v2 v3 m m2 m3 (bA (t39+1)) m4) rfl (bN (aI (ew (ae v)) (aI (ew (ae v2)) (aI (dj rfl) (aI (dj rfl) (aI trivial (aI trivial (aI trivial trivial)))))))) (aI trivial (aI trivial (aI (aI trivial (aI trivial (aI (up (aq ay m)) trivial))) (aI (aI trivial (aI trivial (aI (up (aq ay m4)) trivial))) trivial))))
   exact cJ (A:=F6) mixed z<|by kernel_rfl
 ·obtain rfl:=lf h
  have z:=sg 0 c10<|eF (.exit 2) (kw v v2 v3 m m2 m3 m4)
  exact jI F6 (by intro hx;cases hx) z<|by kernel_rfl
theorem tH{x:waB}(h:qK v v2 v3 t39 m4=some x):aA Pg GE 0 (.loop (cA GS 260063)) (EX (.exit 2) (kw v v2 v3 m m2 m3 x)) (dR v v2 v3 m m2 m3 t39 m4):=
 aA.loop (S:=fun(zz:Int×waB)=>dR v v2 v3 m m2 m3 zz.1 zz.2) (ex:=(fun _=>.exit 2)) (s:=(t39,m4)) h fun zz y hy=>sO v v2 v3 m m2 m3 zz.1 zz.2 hy
end
section
variable(v:aa)(v2:aa)(m:waB)(m2:ag)(m3:ag)(t36:Int)(m4:waB)
def fh:ak:=aY 60 [(2,.eptr (ac v)),(3,.eptr (ac v2)),(4,.bptr 2 0),(8,.bptr 3 0),(36,.int .i64 t36)] [.dead,.dead,.cells [.str ([]:ag),.str ([]:ag),sl ai m] [(2,43)],.cells [.str m2,.str m3,sl ai m4] [(2,43)]] []
def kv(o:waB):ak:=aY 60 [(4,.bptr 2 0),(8,.bptr 3 0)] [.dead,.dead,.cells [.str ([]:ag),.str ([]:ag),sl ai m] [(2,43)],.cells [.str m2,.str m3,sl ai o] [(2,43)]] []
def fi:Option ((Int×waB)⊕(waB)):=
 if(decide (t36<6))=true then
  (qK v v2 t36 0 m4).bind fun o15=>
  some (.inl (bA (t36+1),o15))
 else
  some (.inr m4)
def mm:Option waB:=loop (fun(zz:Int×waB)=>fi v v2 zz.1 zz.2) (t36,m4)
theorem sN{y:(Int×waB)⊕(waB)}(h:fi v v2 t36 m4=some y):aA Pg GE 0 (cA GS 1015) (LQ (fun(zz:Int×waB)=>fh v v2 m m2 m3 zz.1 zz.2) (fun _=>.exit 0) (kv m m2 m3) y) (fh v v2 m m2 m3 t36 m4):=by
 rcases aG h with⟨c9,h⟩|⟨c9,h⟩
 ·obtain⟨o15,bo15,h⟩:=ax h
  obtain rfl:=lf h
  exact tg F6 (sg 0 c9<|da (tH v v2 t36 m m2 m3 0 m4 bo15)<|eF .normal (fh v v2 m m2 m3 (bA (t36+1)) o15))<|by kernel_rfl
 ·obtain rfl:=lf h
  have z:=sg 0 c9<|eF (.exit 0) (kv m m2 m3 m4)
  exact jI F6 (by intro hx;cases hx) z<|by kernel_rfl
theorem tG{x:waB}(h:mm v v2 t36 m4=some x):aA Pg GE 0 (.loop (cA GS 1015)) (EX (.exit 0) (kv m m2 m3 x)) (fh v v2 m m2 m3 t36 m4):=
 aA.loop (S:=fun(zz:Int×waB)=>fh v v2 m m2 m3 zz.1 zz.2) (ex:=(fun _=>.exit 0)) (s:=(t36,m4)) h fun zz y hy=>sN v v2 m m2 m3 zz.1 zz.2 hy
end
def gX(a:aa)(a2:aa):Option (aa×Int):=
 (mc a).bind fun r1=>
 if(r1 !=0)=true then
  some ((⟨([]:ag),([]:ag),([]:List ah)⟩:aa),r1)
 else
  (mc a2).bind fun r4=>
  if(r4 !=0)=true then
   some ((⟨([]:ag),([]:ag),([]:List ah)⟩:aa),r4)
  else
   if(!(a.Callee==a2.Caller))=true then
    some ((⟨([]:ag),([]:ag),([]:List ah)⟩:aa),6)
   else
    (mm a a2 0 ([]:List ah)).bind fun o16=>
    some ((⟨a.Caller,a2.Callee,o16⟩:aa),0)
theorem qL{a:aa}{a2:aa}{r:aa×Int}(h:gX a a2=some r):CC Pg GE 18 [.agg (ac a),.agg (ac a2)] (.tuple [.agg (ac r.1),.int .i64 r.2]) []:=by
 obtain⟨r1,br1,h⟩:=ax h
 have p3:=fun{sc F} (r:PS sc F)=>se (ba a)<|se (ba a2)<|sx qo<|sv (aT a)<|bW (pg br1)<|r
 rcases aG h with⟨c2,h⟩|⟨c2,h⟩
 ·obtain rfl:=lf h
  have z:=p3<|sg 0 c2<|sb (jz) (jy)<|sy (bC (⟨([]:ag),([]:ag),([]:List ah)⟩:aa))<|en (aI (va8 PVal.tuple (ki (eR (⟨([]:ag),([]:ag),([]:List ah)⟩:aa)) (ki (rP (.int .i64 r1)) (rfl:([]:List PVal)=[]))))<|(aI (ae (⟨([]:ag),([]:ag),([]:List ah)⟩:aa)) (aI trivial trivial)))
  exact bm F6 call18 func18 (c:=GS) rfl (aI (ae a) (aI (ae a2) trivial)) z<|by kernel_rfl
 ·obtain⟨r4,br4,h⟩:=ax h
  have p6:=fun{sc F} (r:PS sc F)=>p3<|sg 0 c2<|sv (aT a2)<|bW (pg br4)<|r
  rcases aG h with⟨c5,h⟩|⟨c5,h⟩
  ·obtain rfl:=lf h
   have z:=p6<|sg 0 c5<|sb (jz) (jy)<|sy (bC (⟨([]:ag),([]:ag),([]:List ah)⟩:aa))<|en (aI (va8 PVal.tuple (ki (eR (⟨([]:ag),([]:ag),([]:List ah)⟩:aa)) (ki (rP (.int .i64 r4)) (rfl:([]:List PVal)=[]))))<|(aI (ae (⟨([]:ag),([]:ag),([]:List ah)⟩:aa)) (aI trivial trivial)))
   exact bm F6 call18 func18 (c:=GS) rfl (aI (ae a) (aI (ae a2) trivial)) z<|by kernel_rfl
  ·have p8:=fun{sc F} (r:PS sc F)=>p6<|sg 0 c5<|sv (aE a)<|sv (aN a)<|sv (aD a2)<|sv (aM a2)<|r
   rcases aG h with⟨c7,h⟩|⟨c7,h⟩
   ·obtain rfl:=lf h
    have z:=p8<|sg 0 c7<|sb (jz) (jy)<|sy (bC (⟨([]:ag),([]:ag),([]:List ah)⟩:aa))<|en (aI (va8 PVal.tuple (ki (eR (⟨([]:ag),([]:ag),([]:List ah)⟩:aa)) (ki (rP (.int .i64 6)) (rfl:([]:List PVal)=[]))))<|(aI (ae (⟨([]:ag),([]:ag),([]:List ah)⟩:aa)) (aI trivial trivial)))
    exact bm F6 call18 func18 (c:=GS) rfl (aI (ae a) (aI (ae a2) trivial)) z<|by kernel_rfl
   ·obtain⟨o16,bo16,h⟩:=ax h
    obtain rfl:=lf h
    have z:=p8<|sg 0 c7<|sv (aD a)<|sv (aM a)<|sv (aE a2)<|sv (aN a2)<|sb (nU a.Caller a2.Callee) (nT a.Caller a2.Callee)<|sx qo<|sy (bC (⟨a.Caller,a2.Callee,([]:List ah)⟩:aa))<|da (tG a a2 ([]:List ah) a.Caller a2.Callee 0 ([]:List ah) bo16)<|sz (aV (⟨a.Caller,a2.Callee,o16⟩:aa) [])<|sy (bC (⟨a.Caller,a2.Callee,o16⟩:aa))<|en (aI (va8 PVal.tuple (ki (eR (⟨a.Caller,a2.Callee,o16⟩:aa)) (ki (rP (.int .i64 0)) (rfl:([]:List PVal)=[]))))<|(aI (ae (⟨a.Caller,a2.Callee,o16⟩:aa)) (aI trivial trivial)))
    exact bm F6 call18 func18 (c:=GS) rfl (aI (ae a) (aI (ae a2) trivial)) z<|by kernel_rfl
noncomputable def Hr:Code:=f64.body.getD .skip
def EK:List Nat:=[33]
section
variable(v:aa)(v2:aa)(t30:Int)(t31:Int)(m:Int)(m2:Int)(m3:Bool)(m4:Int)(m5:Int)(m6:Bool)
def yY:ak:=aY 76 [(2,.eptr (ac v)),(3,.eptr (ac v2)),(6,.bptr 2 0),(7,.bptr 3 0),(30,.int .i64 t30),(31,.int .i64 t31)] [.dead,.dead,.cells [.int .i64 m,.int .i64 m2,.bool m3] [],.cells [.int .i64 m4,.int .i64 m5,.bool m6] []] []
def nQ(o:Bool):ak:=aY 76 [(2,.eptr (ac v)),(3,.eptr (ac v2)),(6,.bptr 2 0),(7,.bptr 3 0),(30,.int .i64 t30),(31,.int .i64 t31),(56,.bool o)] [.dead,.dead,.cells [.int .i64 m,.int .i64 m2,.bool m3] [],.cells [.int .i64 m4,.int .i64 m5,.bool m6] []] []
def nw:Option Bool:=
 (ky (⟨m,m2,m3⟩:ah) (⟨m4,m5,m6⟩:ah)).bind fun r10=>
 if r10=true then
  some true
 else
  (ky (⟨m4,m5,m6⟩:ah) (⟨m,m2,m3⟩:ah)).bind fun r13=>
  some r13
theorem xm{x:Bool}(h:nw m m2 m3 m4 m5 m6=some x):aA Pg GE 0 (cA Hr 253820) (EX .normal (nQ v v2 t30 t31 m m2 m3 m4 m5 m6 x)) (yY v v2 t30 t31 m m2 m3 m4 m5 m6):=by
 obtain⟨r10,br10,h⟩:=ax h
 have p12:=fun{sc F} (r:PS sc F)=>sv (f0 (⟨m,m2,m3⟩:ah) [])<|sv (f0 (⟨m4,m5,m6⟩:ah) [])<|bW (kG br10)<|r
 rcases aG h with⟨c11,h⟩|⟨c11,h⟩
 ·obtain rfl:=lf h
  exact dz EK (p12<|sg 4 c11<|eF .normal (nQ v v2 t30 t31 m m2 m3 m4 m5 m6 true))<|by kernel_rfl
 ·obtain⟨r13,br13,h⟩:=ax h
  obtain rfl:=lf h
  exact dz EK (p12<|sg 4 c11<|sv (f0 (⟨m4,m5,m6⟩:ah) [])<|sv (f0 (⟨m,m2,m3⟩:ah) [])<|bW (kG br13)<|eF .normal (nQ v v2 t30 t31 m m2 m3 m4 m5 m6 r13))<|by kernel_rfl
end
section
variable(v:aa)(v2:aa)(t30:Int)(t31:Int)
def iX:ak:=aY 76 [(2,.eptr (ac v)),(3,.eptr (ac v2)),(30,.int .i64 t30),(31,.int .i64 t31)] [.dead,.dead] []
def eN(o:Bool⊕(Unit)):Exit:=match o with
 |(.inl _)=>.ret
 |(.inr _)=>.exit 0
def dM(o:Bool⊕(Unit)):ak:=match o with
 |(.inl o)=>aY 76 [(4,.bool o)] [.dead,.dead] []
 |(.inr o)=>aY 76 [(2,.eptr (ac v)),(3,.eptr (ac v2))] [.dead,.dead] []
def gv:Option (Int⊕(Bool⊕(Unit))):=
 if (decide (t31 < t30)) = true then
  if(decide (t31>=(v2.Arcs.length:Int)))=true then
   some (.inr (.inl false))
  else
   (eQ v.Arcs t31).bind fun x8=>
   (eQ v2.Arcs t31).bind fun x9=>
   (nw x8.From x8.To x8.Strict x9.From x9.To x9.Strict).bind fun o14=>
   if o14=true then
    (ky x8 x9).bind fun r17=>
    some (.inr (.inl r17))
   else
    if(!(x8.Strict==x9.Strict))=true then
     some (.inr (.inl (!x8.Strict)))
    else
     some (.inl (bA (t31+1)))
 else
  some (.inr (.inr ()))
def fQ:Option (Bool⊕(Unit)):=loop (fun(zz:Int)=>gv v v2 t30 zz) t31
theorem wz{y:Int⊕(Bool⊕(Unit))}(h:gv v v2 t30 t31=some y):aA Pg GE 0 (cA Hr 247) (LQ (fun(zz:Int)=>iX v v2 t30 zz) eN (dM v v2) y) (iX v v2 t30 t31):=by
 rcases aG h with⟨c5,h⟩|⟨c5,h⟩
 ·have p7:=fun{sc F} (r:PS sc F)=>sg 0 c5<|sv (au v2)<|sv (av v2)<|dB (cx.ln v2.Arcs)<|r
  rcases aG h with⟨c6,h⟩|⟨c6,h⟩
  ·obtain rfl:=lf h
   have z:=p7<|sg 0 c6<|eF (eN (.inl false)) (dM v v2 (.inl false))
   exact jI EK (by intro hx;cases hx) z<|by kernel_rfl
  ·obtain⟨x8,bx8,h⟩:=ax h
   obtain⟨x9,bx9,h⟩:=ax h
   obtain⟨o14,bo14,h⟩:=ax h
   have p16:=fun{sc F} (r:PS sc F)=>p7<|sg 0 c6<|sv (au v)<|sv (av v)<|sv (cx.ia (k:=.i64) bx8)<|sv (dJ x8)<|sx tp<|sx (d7 x8)<|sv (au v2)<|sv (av v2)<|sv (cx.ia (k:=.i64) bx9)<|sv (dJ x9)<|sx tp<|sx (d7 x9)<|pZ 1<|da (xm v v2 t30 t31 x8.From x8.To x8.Strict x9.From x9.To x9.Strict bo14)<|r
   rcases aG h with⟨c15,h⟩|⟨c15,h⟩
   ·obtain⟨r17,br17,h⟩:=ax h
    obtain rfl:=lf h
    have z:=p16<|sg 0 c15<|sv (f0 x8 [])<|sv (f0 x9 [])<|bW (kG br17)<|mW 0 (eN (.inl r17)) (dM v v2 (.inl r17)) rfl (bN (aI trivial trivial)) (aI trivial (aI trivial trivial))
    exact im (A:=EK) mixed (by intro hx;cases hx) z<|by kernel_rfl
   ·have p19:=fun{sc F} (r:PS sc F)=>p16<|sg 0 c15<|ss<|ss<|r
    rcases aG h with⟨c18,h⟩|⟨c18,h⟩
    ·obtain rfl:=lf h
     have z:=p19<|sg 0 c18<|ss<|mW 0 (eN (.inl (!x8.Strict))) (dM v v2 (.inl (!x8.Strict))) rfl (bN (aI trivial trivial)) (aI trivial (aI trivial trivial))
     exact im (A:=EK) mixed (by intro hx;cases hx) z<|by kernel_rfl
    ·obtain rfl:=lf h
     have z:=p19<|sg 0 c18<|mW 0 .normal (iX v v2 t30 (bA (t31+1))) rfl (bN (aI (ew (ae v)) (aI (ew (ae v2)) (aI trivial (aI trivial trivial))))) (aI trivial (aI trivial trivial))
     exact cJ (A:=EK) mixed z<|by kernel_rfl
 ·obtain rfl:=lf h
  have z:=sg 0 c5<|eF (eN (.inr ())) (dM v v2 (.inr ()))
  exact jI EK (by intro hx;cases hx) z<|by kernel_rfl
theorem qS{x:Bool⊕(Unit)}(h:fQ v v2 t30 t31=some x):aA Pg GE 0 (.loop (cA Hr 247)) (EX (eN x) (dM v v2 x)) (iX v v2 t30 t31):=
 aA.loop (S:=fun(zz:Int)=>iX v v2 t30 zz) (ex:=eN) (s:=t31) h fun zz y hy=>wz v v2 t30 zz hy
end
def tJ(a:aa)(a2:aa):Option Bool:=
 if(!(a.Caller==a2.Caller))=true then
  some (Op.bytesLess a.Caller a2.Caller)
 else
  if(!(a.Callee==a2.Callee))=true then
   some (Op.bytesLess a.Callee a2.Callee)
  else
   (fQ a a2 (a.Arcs.length:Int) 0).bind fun o20=>match o20 with
   |(.inl o20)=>
    some o20
   |(.inr o20)=>
    some (decide ((a.Arcs.length:Int)<(a2.Arcs.length:Int)))
theorem Bi{a:aa}{a2:aa}{r:Bool}(h:tJ a a2=some r):CC Pg GE 64 [.agg (ac a),.agg (ac a2)] (.bool r) []:=by
 have p2:=fun{sc F} (r:PS sc F)=>se (ba a)<|se (ba a2)<|sv (aD a)<|sv (aM a)<|sv (aD a2)<|sv (aM a2)<|r
 rcases aG h with⟨c1,h⟩|⟨c1,h⟩
 ·obtain rfl:=lf h
  have z:=p2<|sg 0 c1<|sv (aD a)<|sv (aM a)<|sv (aD a2)<|sv (aM a2)<|en (aI (rP (.bool (Op.bytesLess a.Caller a2.Caller)))<|trivial)
  exact bm EK call64 func64 (c:=Hr) rfl (aI (ae a) (aI (ae a2) trivial)) z<|by kernel_rfl
 ·have p4:=fun{sc F} (r:PS sc F)=>p2<|sg 0 c1<|sv (aE a)<|sv (aN a)<|sv (aE a2)<|sv (aN a2)<|r
  rcases aG h with⟨c3,h⟩|⟨c3,h⟩
  ·obtain rfl:=lf h
   have z:=p4<|sg 0 c3<|sv (aE a)<|sv (aN a)<|sv (aE a2)<|sv (aN a2)<|en (aI (rP (.bool (Op.bytesLess a.Callee a2.Callee)))<|trivial)
   exact bm EK call64 func64 (c:=Hr) rfl (aI (ae a) (aI (ae a2) trivial)) z<|by kernel_rfl
  ·obtain⟨o20,bo20,h⟩:=ax h
   rcases o20 with o20|o20
   ·obtain rfl:=lf h
    have z:=p4<|sg 0 c3<|sv (au a)<|sv (av a)<|dB (cx.ln a.Arcs)<|da (e:=.ret) (s1:=dM a a2 (.inl o20)) (qS a a2 (a.Arcs.length:Int) 0 bo20)<|en (aI (rP (.bool o20))<|trivial)
    exact bm EK call64 func64 (c:=Hr) rfl (aI (ae a) (aI (ae a2) trivial)) z<|by kernel_rfl
   ·obtain rfl:=lf h
    have z:=p4<|sg 0 c3<|sv (au a)<|sv (av a)<|dB (cx.ln a.Arcs)<|da (e:=.exit 0) (s1:=dM a a2 (.inr o20)) (qS a a2 (a.Arcs.length:Int) 0 bo20)<|sv (au a)<|sv (av a)<|dB (cx.ln a.Arcs)<|sv (au a2)<|sv (av a2)<|dB (cx.ln a2.Arcs)<|en (aI (rP (.bool (decide ((a.Arcs.length:Int)<(a2.Arcs.length:Int)))))<|trivial)
    exact bm EK call64 func64 (c:=Hr) rfl (aI (ae a) (aI (ae a2) trivial)) z<|by kernel_rfl
noncomputable def Ie:Code:=f40.body.getD .skip
def GM:List Nat:=[33,34,39,43,48]
section
variable(v:waA)(g:aa)(i:Int)
def Ad:ak:=aY 49 [(0,sl ac v),(3,.eptr (ac g)),(5,.int .i64 i)] [.dead] []
def po(o:Bool):ak:=aY 49 [(0,sl ac v),(3,.eptr (ac g)),(5,.int .i64 i),(18,.bool o)] [.dead] []
def kz:Option Bool:=
 if(decide (i<(v.length:Int)))=true then
  (eQ v i).bind fun x3=>
  (tJ x3 g).bind fun r4=>
  some r4
 else
  some false
theorem yZ{x:Bool}(h:kz v g i=some x):aA Pg GE 0 (cA Ie 236) (EX .normal (po v g i x)) (Ad v g i):=by
 have p2:=fun{sc F} (r:PS sc F)=>zQ [0,0,2,7,15,31,31,127,255,31,1023,2047]<|dB (bQ.ln v)<|r
 rcases aG h with⟨c1,h⟩|⟨c1,h⟩
 ·obtain⟨x3,bx3,h⟩:=ax h
  obtain⟨r4,br4,h⟩:=ax h
  obtain rfl:=lf h
  exact dz GM (p2<|sg 5 c1<|sv (bQ.ia (k:=.i64) bx3)<|sv (aT x3)<|sv (aT g)<|bW (Bi br4)<|eF .normal (po v g i r4))<|by kernel_rfl
 ·obtain rfl:=lf h
  exact dz GM (p2<|sg 5 c1<|eF .normal (po v g i false))<|by kernel_rfl
end
section
variable(v:waA)(g:aa)(i:Int)
def jW:ak:=aY 49 [(0,sl ac v),(3,.eptr (ac g)),(5,.int .i64 i)] [.dead] []
def pr(o:Int):ak:=aY 49 [(0,sl ac v),(3,.eptr (ac g)),(5,.int .i64 o)] [.dead] []
def jX:Option (Int⊕(Int)):=
 (kz v g i).bind fun o5=>
 if o5=true then
  some (.inl (bA (i+1)))
 else
  some (.inr i)
def jn:Option Int:=loop (fun(zz:Int)=>jX v g zz) i
theorem xn{y:Int⊕(Int)}(h:jX v g i=some y):aA Pg GE 0 (cA Ie 59) (LQ (fun(zz:Int)=>jW v g zz) (fun _=>.exit 0) (pr v g) y) (jW v g i):=by
 obtain⟨o5,bo5,h⟩:=ax h
 have p7:=fun{sc F} (r:PS sc F)=>pZ 1<|da (yZ v g i bo5)<|r
 rcases aG h with⟨c6,h⟩|⟨c6,h⟩
 ·obtain rfl:=lf h
  exact tg GM (p7<|sg 0 c6<|eF .normal (jW v g (bA (i+1))))<|by kernel_rfl
 ·obtain rfl:=lf h
  have z:=p7<|sg 0 c6<|eF (.exit 0) (pr v g i)
  exact jI GM (by intro hx;cases hx) z<|by kernel_rfl
theorem y1{x:Int}(h:jn v g i=some x):aA Pg GE 0 (.loop (cA Ie 59)) (EX (.exit 0) (pr v g x)) (jW v g i):=
 aA.loop (S:=fun(zz:Int)=>jW v g zz) (ex:=(fun _=>.exit 0)) (s:=i) h fun zz y hy=>xn v g zz hy
end
section
variable(v:waA)(g:aa)(i:Int)
def Ae:ak:=aY 49 [(0,sl ac v),(3,.eptr (ac g)),(5,.int .i64 i)] [.dead] []
def pq(o:Bool):ak:=aY 49 [(0,sl ac v),(3,.eptr (ac g)),(5,.int .i64 i),(32,.bool o)] [.dead] []
def pp:Option Bool:=
 if(decide (i<(v.length:Int)))=true then
  (eQ v i).bind fun x11=>
  (mn x11 g).bind fun r12=>
  some r12
 else
  some false
theorem y0{x:Bool}(h:pp v g i=some x):aA Pg GE 0 (cA Ie 60) (EX .normal (pq v g i x)) (Ae v g i):=by
 have p10:=fun{sc F} (r:PS sc F)=>zQ [0,0,2,7,15,31,31,127,255,31,1023,2047]<|dB (bQ.ln v)<|r
 rcases aG h with⟨c9,h⟩|⟨c9,h⟩
 ·obtain⟨x11,bx11,h⟩:=ax h
  obtain⟨r12,br12,h⟩:=ax h
  obtain rfl:=lf h
  exact dz GM (p10<|sg 5 c9<|sv (bQ.ia (k:=.i64) bx11)<|sv (aT x11)<|sv (aT g)<|bW (qP br12)<|eF .normal (pq v g i r12))<|by kernel_rfl
 ·obtain rfl:=lf h
  exact dz GM (p10<|sg 5 c9<|eF .normal (pq v g i false))<|by kernel_rfl
end
def tK(a:waA)(g:aa):Option waA:=
 (jn a g 0).bind fun o8=>
 (pp a g o8).bind fun o13=>
 if o13=true then
  some a
 else
  (AW a none (some o8)).bind fun l16=>
  (app ([]:List aa) l16).bind fun l17=>
  (app l17 ([g]:List aa)).bind fun l18=>
  (AW a (some o8) none).bind fun l19=>
  (app l18 l19).bind fun l20=>
  some l20
theorem xo{a:waA}{g:aa}{r:waA}(h:tK a g=some r):CC Pg GE 40 [sl ac a,.agg (ac g)] (sl ac r) []:=by
 obtain⟨o8,bo8,h⟩:=ax h
 obtain⟨o13,bo13,h⟩:=ax h
 have p15:=fun{sc F} (r:PS sc F)=>se (ba g)<|da (y1 a g 0 bo8)<|pZ 1<|da (y0 a g o8 bo13)<|r
 rcases aG h with⟨c14,h⟩|⟨c14,h⟩
 ·obtain rfl:=lf h
  have z:=p15<|sg 0 c14<|en (aI (rP (sl ac a))<|(aq ae a))
  exact bm GM call40 func40 (c:=Ie) rfl (aI (aq ae a) (aI (ae g) trivial)) z<|by kernel_rfl
 ·obtain⟨l16,bl16,h⟩:=ax h
  obtain⟨l17,bl17,h⟩:=ax h
  obtain⟨l18,bl18,h⟩:=ax h
  obtain⟨l19,bl19,h⟩:=ax h
  obtain⟨l20,bl20,h⟩:=ax h
  obtain rfl:=lf h
  have z:=p15<|sg 0 c14<|sv (bQ.sc bl16)<|sv (bQ.ap bl17)<|sv (aT g)<|sv (bQ.mk' (v:=mT) kD ([g]:List aa) 1 (by kernel_rfl))<|sv (bQ.ap bl18)<|sv (bQ.sc bl19)<|sv (bQ.ap bl20)<|en (aI (rP (sl ac l20))<|(aq ae l20))
  exact bm GM call40 func40 (c:=Ie) rfl (aI (aq ae a) (aI (ae g) trivial)) z<|by kernel_rfl
noncomputable def D0:Code:=f20.body.getD .skip
def A3:List Nat:=[28,33,34,76,80,83,87]
section
variable(t18:waA)(t19:Int)(out:waA)(t20:Int)
def fa:ak:=aY 88 [(4,sl ac out),(18,sl ac t18),(19,.int .i64 t19),(20,.int .i64 t20)] [] []
def fb(o:(waA×Int)⊕(waA)):Exit:=match o with
 |(.inl _)=>.ret
 |(.inr _)=>.exit 0
def dQ(o:(waA×Int)⊕(waA)):ak:=match o with
 |(.inl o)=>aY 88 [(2,sl ac o.1),(3,.int .i64 o.2)] [] [((2,0),24)]
 |(.inr o)=>aY 88 [(4,sl ac o)] [] []
def dP:Option ((waA×Int)⊕((waA×Int)⊕(waA))):=
 if(decide (t20<t19))=true then
  (eQ t18 t20).bind fun x2=>
  (mc x2).bind fun r3=>
  if(r3 !=0)=true then
   some (.inr (.inl (([]:List aa),r3)))
  else
   (tK out x2).bind fun r6=>
   some (.inl (r6,bA (t20+1)))
 else
  some (.inr (.inr out))
def cy:Option ((waA×Int)⊕(waA)):=loop (fun(zz:waA×Int)=>dP t18 t19 zz.1 zz.2) (out,t20)
theorem sJ{y:(waA×Int)⊕((waA×Int)⊕(waA))}(h:dP t18 t19 out t20=some y):aA Pg GE 0 (cA D0 119) (LQ (fun(zz:waA×Int)=>fa t18 t19 zz.1 zz.2) fb dQ y) (fa t18 t19 out t20):=by
 rcases aG h with⟨c1,h⟩|⟨c1,h⟩
 ·obtain⟨x2,bx2,h⟩:=ax h
  obtain⟨r3,br3,h⟩:=ax h
  have p5:=fun{sc F} (r:PS sc F)=>sg 0 c1<|sv (bQ.ia (k:=.i64) bx2)<|sv (aT x2)<|sx qo<|sx (dA x2)<|sv (aV x2 [])<|bW (pg br3)<|r
  rcases aG h with⟨c4,h⟩|⟨c4,h⟩
  ·obtain rfl:=lf h
   have z:=p5<|sg 0 c4<|mW 0 (fb (.inl (([]:List aa),r3))) (dQ (.inl (([]:List aa),r3))) rfl (bN (aI (up (aq ae ([]:List aa))) (aI trivial trivial))) trivial
   exact im (A:=A3) mixed (by intro hx;cases hx) z<|by kernel_rfl
  ·obtain⟨r6,br6,h⟩:=ax h
   obtain rfl:=lf h
   have z:=p5<|sg 0 c4<|sv (aV x2 [])<|bW (xo br6)<|mW 0 .normal (fa t18 t19 r6 (bA (t20+1))) rfl (bN (aI (up (aq ae r6)) (aI (up (aq ae t18)) (aI trivial (aI trivial trivial))))) trivial
   exact cJ (A:=A3) mixed z<|by kernel_rfl
 ·obtain rfl:=lf h
  have z:=sg 0 c1<|eF (fb (.inr out)) (dQ (.inr out))
  exact jI A3 (by intro hx;cases hx) z<|by kernel_rfl
theorem nr{x:(waA×Int)⊕(waA)}(h:cy t18 t19 out t20=some x):aA Pg GE 0 (.loop (cA D0 119)) (EX (fb x) (dQ x)) (fa t18 t19 out t20):=
 aA.loop (S:=fun(zz:waA×Int)=>fa t18 t19 zz.1 zz.2) (ex:=fb) (s:=(out,t20)) h fun zz y hy=>sJ t18 t19 zz.1 zz.2 hy
end
section
variable(out:waA)(todo:waA)(first:waA)
def uL:ak:=aY 88 [(4,sl ac out),(8,sl ac todo),(9,sl ac first)] [] []
def kp(o:Bool):ak:=aY 88 [(4,sl ac out),(8,sl ac todo),(9,sl ac first),(42,.bool o)] [] []
def jO:Option Bool:=
 if(decide ((todo.length:Int)>0))=true then
  some (decide ((out.length:Int)<=400))
 else
  some false
theorem tB{x:Bool}(h:jO out todo=some x):aA Pg GE 0 (cA D0 2028) (EX .normal (kp out todo first x)) (uL out todo first):=by
 rcases aG h with⟨c8,h⟩|⟨c8,h⟩
 ·obtain rfl:=lf h
  exact dz A3 (dB (bQ.ln todo)<|sg 4 c8<|dB (bQ.ln out)<|eF .normal (kp out todo first (decide ((out.length:Int)<=400))))<|by kernel_rfl
 ·obtain rfl:=lf h
  exact dz A3 (dB (bQ.ln todo)<|sg 4 c8<|eF .normal (kp out todo first false))<|by kernel_rfl
end
section
variable(out:waA)(first:waA)(v:waA)(e:Int)(t43:waA)(t44:Int)(t45:Int)(t50:Int)(t51:Int)(m:ag)(m2:ag)(m3:waB)(m4:ag)(m5:ag)(m6:waB)(m7:ag)(m8:ag)(m9:waB)
def uM:ak:=aY 88 [(4,sl ac out),(9,sl ac first),(10,sl ac v),(12,.bptr 0 0),(15,.bptr 2 0),(16,.int .i64 e),(43,sl ac t43),(44,.int .i64 t44),(45,.int .i64 t45),(49,sl ac first),(50,.int .i64 t50),(51,.int .i64 t51)] [.cells [.str m,.str m2,sl ai m3] [],.cells [.str m4,.str m5,sl ai m6] [],.cells [.str m7,.str m8,sl ai m9] []] [((10,0),24)]
def kq(o:Bool):ak:=aY 88 [(4,sl ac out),(9,sl ac first),(10,sl ac v),(12,.bptr 0 0),(15,.bptr 2 0),(43,sl ac t43),(44,.int .i64 t44),(45,.int .i64 t45),(49,sl ac first),(50,.int .i64 t50),(51,.int .i64 t51),(67,.bool o)] [.cells [.str m,.str m2,sl ai m3] [],.cells [.str m4,.str m5,sl ai m6] [],.cells [.str m7,.str m8,sl ai m9] []] [((10,0),24)]
def e9:Option Bool:=
 if(e !=0)=true then
  some true
 else
  some (decide ((out.length:Int)>400))
theorem tC{x:Bool}(h:e9 out e=some x):aA Pg GE 0 (cA D0 4260880348) (EX .normal (kq out first v t43 t44 t45 t50 t51 m m2 m3 m4 m5 m6 m7 m8 m9 x)) (uM out first v e t43 t44 t45 t50 t51 m m2 m3 m4 m5 m6 m7 m8 m9):=by
 rcases aG h with⟨c17,h⟩|⟨c17,h⟩
 ·obtain rfl:=lf h
  exact dz A3 (sg 3 c17<|eF .normal (kq out first v t43 t44 t45 t50 t51 m m2 m3 m4 m5 m6 m7 m8 m9 true))<|by kernel_rfl
 ·obtain rfl:=lf h
  exact dz A3 (sg 3 c17<|dB (bQ.ln out)<|eF .normal (kq out first v t43 t44 t45 t50 t51 m m2 m3 m4 m5 m6 m7 m8 m9 (decide ((out.length:Int)>400))))<|by kernel_rfl
end
section
variable(first:waA)(t43:waA)(t44:Int)(t45:Int)(t50:Int)(m:ag)(m2:ag)(m3:waB)(out:waA)(v:waA)(t51:Int)
def cV:ak:=aY 88 [(4,sl ac out),(9,sl ac first),(10,sl ac v),(12,.bptr 0 0),(43,sl ac t43),(44,.int .i64 t44),(45,.int .i64 t45),(49,sl ac first),(50,.int .i64 t50),(51,.int .i64 t51)] [.cells [.str m,.str m2,sl ai m3] []] [((10,0),24)]
def ku(o:waA×waA):ak:=aY 88 [(4,sl ac o.1),(9,sl ac first),(10,sl ac o.2),(43,sl ac t43),(44,.int .i64 t44),(45,.int .i64 t45)] [.cells [.str m,.str m2,sl ai m3] []] [((10,0),24)]
def fg:Option ((waA×waA×Int)⊕((waA×waA))):=
 if (decide (t51 < t50)) = true then
  (eQ first t51).bind fun x15=>
  (gX (⟨m,m2,m3⟩:aa) x15).bind fun r16=>
  (e9 out r16.2).bind fun o18=>
  if o18=true then
   some (.inl (out,v,bA (t51+1)))
  else
   (tK out r16.1).bind fun r21=>
   if(decide ((r21.length:Int)>(out.length:Int)))=true then
    (app v ([r16.1]:List aa)).bind fun l24=>
    some (.inl (r21,l24,bA (t51+1)))
   else
    some (.inl (r21,v,bA (t51+1)))
 else
  some (.inr (out,v))
def jR:Option ((waA×waA)):=loop (fun(zz:waA×waA×Int)=>fg first t50 m m2 m3 zz.1 zz.2.1 zz.2.2) (out,v,t51)
theorem sM{y:(waA×waA×Int)⊕((waA×waA))}(h:fg first t50 m m2 m3 out v t51=some y):aA Pg GE 0 (cA D0 16644063) (LQ (fun(zz:waA×waA×Int)=>cV first t43 t44 t45 t50 m m2 m3 zz.1 zz.2.1 zz.2.2) (fun _=>.exit 6) (ku first t43 t44 t45 m m2 m3) y) (cV first t43 t44 t45 t50 m m2 m3 out v t51):=by
 rcases aG h with⟨c14,h⟩|⟨c14,h⟩
 ·obtain⟨x15,bx15,h⟩:=ax h
  obtain⟨r16,br16,h⟩:=ax h
  obtain⟨o18,bo18,h⟩:=ax h
  have p20:=fun{sc F} (r:PS sc F)=>sg 0 c14<|sv (bQ.ia (k:=.i64) bx15)<|sv (aT x15)<|sx qo<|sx (dA x15)<|sv (aV (⟨m,m2,m3⟩:aa) [])<|sv (aV x15 [])<|bW (qL br16)<|sx qo<|sx (dA r16.1)<|pZ 1<|da (tC out first v r16.2 t43 t44 t45 t50 t51 m m2 m3 x15.Caller x15.Callee x15.Arcs r16.1.Caller r16.1.Callee r16.1.Arcs bo18)<|r
  rcases aG h with⟨c19,h⟩|⟨c19,h⟩
  ·obtain rfl:=lf h
   have z:=p20<|sg 0 c19<|mW 0 .normal (cV first t43 t44 t45 t50 m m2 m3 out v (bA (t51+1))) rfl (bN (aI (up (aq ae out)) (aI (up (aq ae first)) (aI (up (aq ae v)) (aI (dj rfl) (aI (up (aq ae t43)) (aI trivial (aI trivial (aI (up (aq ae first)) (aI trivial (aI trivial trivial))))))))))) (aI (aI trivial (aI trivial (aI (up (aq ay m3)) trivial))) trivial)
   exact cJ (A:=A3) mixed z<|by kernel_rfl
  ·obtain⟨r21,br21,h⟩:=ax h
   have p23:=fun{sc F} (r:PS sc F)=>p20<|sg 0 c19<|sv (aV r16.1 [])<|bW (xo br21)<|dB (bQ.ln r21)<|dB (bQ.ln out)<|r
   rcases aG h with⟨c22,h⟩|⟨c22,h⟩
   ·obtain⟨l24,bl24,h⟩:=ax h
    obtain rfl:=lf h
    have z:=p23<|sg 0 c22<|sv (aV r16.1 [])<|sv (bQ.mk' (v:=mT) kD ([r16.1]:List aa) 1 (by kernel_rfl))<|sv (bQ.ap bl24)<|mW 0 .normal (cV first t43 t44 t45 t50 m m2 m3 r21 l24 (bA (t51+1))) rfl (bN (aI (up (aq ae r21)) (aI (up (aq ae first)) (aI (up (aq ae l24)) (aI (dj rfl) (aI (up (aq ae t43)) (aI trivial (aI trivial (aI (up (aq ae first)) (aI trivial (aI trivial trivial))))))))))) (aI (aI trivial (aI trivial (aI (up (aq ay m3)) trivial))) trivial)
    exact cJ (A:=A3) mixed z<|by kernel_rfl
   ·obtain rfl:=lf h
    have z:=p23<|sg 0 c22<|mW 0 .normal (cV first t43 t44 t45 t50 m m2 m3 r21 v (bA (t51+1))) rfl (bN (aI (up (aq ae r21)) (aI (up (aq ae first)) (aI (up (aq ae v)) (aI (dj rfl) (aI (up (aq ae t43)) (aI trivial (aI trivial (aI (up (aq ae first)) (aI trivial (aI trivial trivial))))))))))) (aI (aI trivial (aI trivial (aI (up (aq ay m3)) trivial))) trivial)
    exact cJ (A:=A3) mixed z<|by kernel_rfl
 ·obtain rfl:=lf h
  have z:=sg 0 c14<|eF (.exit 6) (ku first t43 t44 t45 m m2 m3 (out,v))
  exact jI A3 (by intro hx;cases hx) z<|by kernel_rfl
theorem tF{x:(waA×waA)}(h:jR first t50 m m2 m3 out v t51=some x):aA Pg GE 0 (.loop (cA D0 16644063)) (EX (.exit 6) (ku first t43 t44 t45 m m2 m3 x)) (cV first t43 t44 t45 t50 m m2 m3 out v t51):=
 aA.loop (S:=fun(zz:waA×waA×Int)=>cV first t43 t44 t45 t50 m m2 m3 zz.1 zz.2.1 zz.2.2) (ex:=(fun _=>.exit 6)) (s:=(out,v,t51)) h fun zz y hy=>sM first t43 t44 t45 t50 m m2 m3 zz.1 zz.2.1 zz.2.2 hy
end
section
variable(first:waA)(t43:waA)(t44:Int)(out:waA)(v:waA)(t45:Int)
def fe:ak:=aY 88 [(4,sl ac out),(9,sl ac first),(10,sl ac v),(43,sl ac t43),(44,.int .i64 t44),(45,.int .i64 t45)] [] [((10,0),24)]
def ks(o:waA×waA):ak:=aY 88 [(4,sl ac o.1),(9,sl ac first),(10,sl ac o.2)] [] [((10,0),24)]
def ff:Option ((waA×waA×Int)⊕((waA×waA))):=
 if(decide (t45<t44))=true then
  (eQ t43 t45).bind fun x13=>
  (jR first (first.length:Int) x13.Caller x13.Callee x13.Arcs out v 0).bind fun o25=>
  some (.inl (o25.1,o25.2,bA (t45+1)))
 else
  some (.inr (out,v))
def jQ:Option ((waA×waA)):=loop (fun(zz:waA×waA×Int)=>ff first t43 t44 zz.1 zz.2.1 zz.2.2) (out,v,t45)
theorem sL{y:(waA×waA×Int)⊕((waA×waA))}(h:ff first t43 t44 out v t45=some y):aA Pg GE 0 (cA D0 65015) (LQ (fun(zz:waA×waA×Int)=>fe first t43 t44 zz.1 zz.2.1 zz.2.2) (fun _=>.exit 4) (ks first) y) (fe first t43 t44 out v t45):=by
 rcases aG h with⟨c12,h⟩|⟨c12,h⟩
 ·obtain⟨x13,bx13,h⟩:=ax h
  obtain⟨o25,bo25,h⟩:=ax h
  obtain rfl:=lf h
  have z:=sg 0 c12<|sv (bQ.ia (k:=.i64) bx13)<|sv (aT x13)<|sx qo<|sx (dA x13)<|dB (bQ.ln first)<|da (tF first t43 t44 t45 (first.length:Int) x13.Caller x13.Callee x13.Arcs out v 0 bo25)<|mW 0 .normal (fe first t43 t44 o25.1 o25.2 (bA (t45+1))) rfl (bN (aI (up (aq ae o25.1)) (aI (up (aq ae first)) (aI (up (aq ae o25.2)) (aI (up (aq ae t43)) (aI trivial (aI trivial trivial))))))) trivial
  exact cJ (A:=A3) mixed z<|by kernel_rfl
 ·obtain rfl:=lf h
  have z:=sg 0 c12<|eF (.exit 4) (ks first (out,v))
  exact jI A3 (by intro hx;cases hx) z<|by kernel_rfl
theorem tE{x:(waA×waA)}(h:jQ first t43 t44 out v t45=some x):aA Pg GE 0 (.loop (cA D0 65015)) (EX (.exit 4) (ks first x)) (fe first t43 t44 out v t45):=
 aA.loop (S:=fun(zz:waA×waA×Int)=>fe first t43 t44 zz.1 zz.2.1 zz.2.2) (ex:=(fun _=>.exit 4)) (s:=(out,v,t45)) h fun zz y hy=>sL first t43 t44 zz.1 zz.2.1 zz.2.2 hy
end
section
variable(first:waA)(out:waA)(todo:waA)
def fc:ak:=aY 88 [(4,sl ac out),(8,sl ac todo),(9,sl ac first)] [] []
def kr(o:waA):ak:=aY 88 [(4,sl ac o)] [] []
def iy:Option ((waA×waA)⊕(waA)):=
 (jO out todo).bind fun o9=>
 if o9=true then
  (jQ first todo (todo.length:Int) out ([]:List aa) 0).bind fun o26=>
  some (.inl (o26.1,o26.2))
 else
  some (.inr out)
def jP:Option waA:=loop (fun(zz:waA×waA)=>iy first zz.1 zz.2) (out,todo)
theorem sK{y:(waA×waA)⊕(waA)}(h:iy first out todo=some y):aA Pg GE 0 (cA D0 507) (LQ (fun(zz:waA×waA)=>fc first zz.1 zz.2) (fun _=>.exit 2) kr y) (fc first out todo):=by
 obtain⟨o9,bo9,h⟩:=ax h
 have p11:=fun{sc F} (r:PS sc F)=>pZ 1<|da (tB out todo first bo9)<|r
 rcases aG h with⟨c10,h⟩|⟨c10,h⟩
 ·obtain⟨o26,bo26,h⟩:=ax h
  obtain rfl:=lf h
  exact tg A3 (p11<|sg 0 c10<|dB (bQ.ln todo)<|da (tE first todo (todo.length:Int) out ([]:List aa) 0 bo26)<|eF .normal (fc first o26.1 o26.2))<|by kernel_rfl
 ·obtain rfl:=lf h
  have z:=p11<|sg 0 c10<|eF (.exit 2) (kr out)
  exact jI A3 (by intro hx;cases hx) z<|by kernel_rfl
theorem tD{x:waA}(h:jP first out todo=some x):aA Pg GE 0 (.loop (cA D0 507)) (EX (.exit 2) (kr x)) (fc first out todo):=
 aA.loop (S:=fun(zz:waA×waA)=>fc first zz.1 zz.2) (ex:=(fun _=>.exit 2)) (s:=(out,todo)) h fun zz y hy=>sK first zz.1 zz.2 hy
end
def df(a:waA):Option (waA×Int):=
 (cy a (a.length:Int) ([]:List aa) 0).bind fun o7=>match o7 with
 |(.inl o7)=>
  some (o7.1,o7.2)
 | (.inr o7) =>
  (jP o7 o7 o7).bind fun o27=>
  if(decide ((o27.length:Int)>400))=true then
   some (([]:List aa),7)
  else
   some (o27,0)
theorem jS{a:waA}{r:waA×Int}(h:df a=some r):CC Pg GE 20 [sl ac a] (.tuple [sl ac r.1,.int .i64 r.2]) []:=by
 obtain⟨o7,bo7,h⟩:=ax h
 rcases o7 with o7|o7
 ·obtain rfl:=lf h
  have z:=dB (bQ.ln a)<|da (e:=.ret) (s1:=dQ (.inl o7)) (nr a (a.length:Int) ([]:List aa) 0 bo7)<|en (aI (rP (.tuple [sl ac o7.1,.int .i64 o7.2]))<|(aI (aq ae o7.1) (aI trivial trivial)))
  exact bm A3 call20 func20 (c:=D0) rfl (aI (aq ae a) trivial) z<|by kernel_rfl
 ·obtain⟨o27,bo27,h⟩:=ax h
  have p29:=fun{sc F} (r:PS sc F)=>dB (bQ.ln a)<|da (e:=.exit 0) (s1:=dQ (.inr o7)) (nr a (a.length:Int) ([]:List aa) 0 bo7)<|da (tD o7 o7 o7 bo27)<|dB (bQ.ln o27)<|r
  rcases aG h with⟨c28,h⟩|⟨c28,h⟩
  ·obtain rfl:=lf h
   have z:=p29<|sg 0 c28<|en (aI (rP (.tuple [sl ac ([]:List aa),.int .i64 7]))<|(aI (aq ae ([]:List aa)) (aI trivial trivial)))
   exact bm A3 call20 func20 (c:=D0) rfl (aI (aq ae a) trivial) z<|by kernel_rfl
  ·obtain rfl:=lf h
   have z:=p29<|sg 0 c28<|en (aI (rP (.tuple [sl ac o27,.int .i64 0]))<|(aI (aq ae o27) (aI trivial trivial)))
   exact bm A3 call20 func20 (c:=D0) rfl (aI (aq ae a) trivial) z<|by kernel_rfl
noncomputable def IK:Code:=f43.body.getD .skip
def G6:List Nat:=[]
section
variable(t6:waB)(t7:Int)(t8:Int)(m:Int)(m2:Int)(m3:Bool)
def xl:ak:=aY 22 [(4,.bptr 1 0),(6,sl ai t6),(7,.int .i64 t7),(8,.int .i64 t8)] [.dead,.cells [.int .i64 m,.int .i64 m2,.bool m3] []] []
def my(o:Bool):ak:=aY 22 [(6,sl ai t6),(7,.int .i64 t7),(8,.int .i64 t8),(20,.bool o)] [.dead,.cells [.int .i64 m,.int .i64 m2,.bool m3] []] []
def jV:Option Bool:=
 if(m==m2)=true then
  some m3
 else
  some false
theorem wy{x:Bool}(h:jV m m2 m3=some x):aA Pg GE 0 (cA IK 3574) (EX .normal (my t6 t7 t8 m m2 m3 x)) (xl t6 t7 t8 m m2 m3):=by
 have p4:=fun{sc F} (r:PS sc F)=>ss<|ss<|r
 rcases aG h with⟨c3,h⟩|⟨c3,h⟩
 ·obtain rfl:=lf h
  exact dz G6 (p4<|sg 6 c3<|ss<|eF .normal (my t6 t7 t8 m m2 m3 m3))<|by kernel_rfl
 ·obtain rfl:=lf h
  exact dz G6 (p4<|sg 6 c3<|eF .normal (my t6 t7 t8 m m2 m3 false))<|by kernel_rfl
end
section
variable(t6:waB)(t7:Int)(t8:Int)
def g8:ak:=aY 22 [(6,sl ai t6),(7,.int .i64 t7),(8,.int .i64 t8)] [.dead] []
def g9(o:Unit⊕(Unit)):Exit:=match o with
 |(.inl _)=>.ret
 |(.inr _)=>.exit 0
def fq(o:Unit⊕(Unit)):ak:=match o with
 |(.inl o)=>aY 22 [(2,.bool true)] [.dead] []
 |(.inr o)=>aY 22 [] [.dead] []
def mz:Option (Int⊕(Unit⊕(Unit))):=
 if(decide (t8<t7))=true then
  (eQ t6 t8).bind fun x2=>
  (jV x2.From x2.To x2.Strict).bind fun o5=>
  if o5=true then
   some (.inr (.inl ()))
  else
   some (.inl (bA (t8+1)))
 else
  some (.inr (.inr ()))
def pn:Option (Unit⊕(Unit)):=loop (fun(zz:Int)=>mz t6 t7 zz) t8
theorem uP{y:Int⊕(Unit⊕(Unit))}(h:mz t6 t7 t8=some y):aA Pg GE 0 (cA IK 55) (LQ (fun(zz:Int)=>g8 t6 t7 zz) g9 fq y) (g8 t6 t7 t8):=by
 rcases aG h with⟨c1,h⟩|⟨c1,h⟩
 ·obtain⟨x2,bx2,h⟩:=ax h
  obtain⟨o5,bo5,h⟩:=ax h
  have p7:=fun{sc F} (r:PS sc F)=>sg 0 c1<|sv (cx.ia (k:=.i64) bx2)<|sv (dJ x2)<|sx tp<|sx (d7 x2)<|pZ 0<|da (wy t6 t7 t8 x2.From x2.To x2.Strict bo5)<|r
  rcases aG h with⟨c6,h⟩|⟨c6,h⟩
  ·obtain rfl:=lf h
   have z:=p7<|sg 0 c6<|mW 0 (g9 (.inl ())) (fq (.inl ())) rfl (bN (aI trivial trivial)) (aI trivial trivial)
   exact im (A:=G6) mixed (by intro hx;cases hx) z<|by kernel_rfl
  ·obtain rfl:=lf h
   have z:=p7<|sg 0 c6<|mW 0 .normal (g8 t6 t7 (bA (t8+1))) rfl (bN (aI (up (aq ay t6)) (aI trivial (aI trivial trivial)))) (aI trivial trivial)
   exact cJ (A:=G6) mixed z<|by kernel_rfl
 ·obtain rfl:=lf h
  have z:=sg 0 c1<|eF (g9 (.inr ())) (fq (.inr ()))
  exact jI G6 (by intro hx;cases hx) z<|by kernel_rfl
theorem qf{x:Unit⊕(Unit)}(h:pn t6 t7 t8=some x):aA Pg GE 0 (.loop (cA IK 55)) (EX (g9 x) (fq x)) (g8 t6 t7 t8):=
 aA.loop (S:=fun(zz:Int)=>g8 t6 t7 zz) (ex:=g9) (s:=t8) h fun zz y hy=>uP t6 t7 zz hy
end
def oz(g:aa):Option Bool:=
 (pn g.Arcs (g.Arcs.length:Int) 0).bind fun o8=>match o8 with
 |(.inl o8)=>
  some true
 |(.inr o8)=>
  some false
theorem Ac{g:aa}{r:Bool}(h:oz g=some r):CC Pg GE 43 [.agg (ac g)] (.bool r) []:=by
 obtain⟨o8,bo8,h⟩:=ax h
 rcases o8 with o8|o8
 ·obtain rfl:=lf h
  have z:=se (ba g)<|sv (au g)<|sv (av g)<|dB (cx.ln g.Arcs)<|da (e:=.ret) (s1:=fq (.inl o8)) (qf g.Arcs (g.Arcs.length:Int) 0 bo8)<|en (aI (rP (.bool true))<|trivial)
  exact bm G6 call43 func43 (c:=IK) rfl (aI (ae g) trivial) z<|by kernel_rfl
 ·obtain rfl:=lf h
  have z:=se (ba g)<|sv (au g)<|sv (av g)<|dB (cx.ln g.Arcs)<|da (e:=.exit 0) (s1:=fq (.inr o8)) (qf g.Arcs (g.Arcs.length:Int) 0 bo8)<|en (aI (rP (.bool false))<|trivial)
  exact bm G6 call43 func43 (c:=IK) rfl (aI (ae g) trivial) z<|by kernel_rfl
noncomputable def Ic:Code:=f22.body.getD .skip
def F8:List Nat:=[17]
section
variable(f:Int)(t18:waA)(t19:Int)(t20:Int)(m:ag)(m2:ag)(m3:waB)(m4:ag)(m5:ag)(m6:waB)
def sa:ak:=aY 43 [(7,.bptr 0 0),(8,.bptr 1 0),(9,.int .i64 f),(18,sl ac t18),(19,.int .i64 t19),(20,.int .i64 t20)] [.cells [.str m,.str m2,sl ai m3] [],.cells [.str m4,.str m5,sl ai m6] []] []
def eV(o:Bool):ak:=aY 43 [(18,sl ac t18),(19,.int .i64 t19),(20,.int .i64 t20),(41,.bool o)] [.cells [.str m,.str m2,sl ai m3] [],.cells [.str m4,.str m5,sl ai m6] []] []
def eD:Option Bool:=
 if(f==0)=true then
  (mn (⟨m4,m5,m6⟩:aa) (⟨m,m2,m3⟩:aa)).bind fun r7=>
  if r7=true then
   (oz (⟨m,m2,m3⟩:aa)).bind fun r10=>
   some (!r10)
  else
   some false
 else
  some false
theorem qQ{x:Bool}(h:eD f m m2 m3 m4 m5 m6=some x):aA Pg GE 0 (cA Ic 31726) (EX .normal (eV t18 t19 t20 m m2 m3 m4 m5 m6 x)) (sa f t18 t19 t20 m m2 m3 m4 m5 m6):=by
 rcases aG h with⟨c6,h⟩|⟨c6,h⟩
 ·obtain⟨r7,br7,h⟩:=ax h
  have p9:=fun{sc F} (r:PS sc F)=>sg 3 c6<|sv (aV (⟨m4,m5,m6⟩:aa) [])<|sv (aV (⟨m,m2,m3⟩:aa) [])<|bW (qP br7)<|r
  rcases aG h with⟨c8,h⟩|⟨c8,h⟩
  ·obtain⟨r10,br10,h⟩:=ax h
   obtain rfl:=lf h
   exact dz F8 (p9<|sg 8 c8<|sv (aV (⟨m,m2,m3⟩:aa) [])<|bW (Ac br10)<|eF .normal (eV t18 t19 t20 m m2 m3 m4 m5 m6 (!r10)))<|by kernel_rfl
  ·obtain rfl:=lf h
   exact dz F8 (p9<|sg 8 c8<|eF .normal (eV t18 t19 t20 m m2 m3 m4 m5 m6 false))<|by kernel_rfl
 ·obtain rfl:=lf h
  exact dz F8 (sg 3 c6<|eF .normal (eV t18 t19 t20 m m2 m3 m4 m5 m6 false))<|by kernel_rfl
end
section
variable(t18:waA)(t19:Int)(t20:Int)
def dD:ak:=aY 43 [(18,sl ac t18),(19,.int .i64 t19),(20,.int .i64 t20)] [] []
def dE(o:Unit⊕(Unit)):Exit:=match o with
 |(.inl _)=>.ret
 |(.inr _)=>.exit 0
def cF(o:Unit⊕(Unit)):ak:=match o with
 |(.inl o)=>aY 43 [(2,.bool false),(3,.int .i64 0)] [] []
 |(.inr o)=>aY 43 [] [] []
def iH:Option (Int⊕(Unit⊕(Unit))):=
 if(decide (t20<t19))=true then
  (eQ t18 t20).bind fun x4=>
  (gX x4 x4).bind fun r5=>
  (eD r5.2 x4.Caller x4.Callee x4.Arcs r5.1.Caller r5.1.Callee r5.1.Arcs).bind fun o11=>
  if o11=true then
   some (.inr (.inl ()))
  else
   some (.inl (bA (t20+1)))
 else
  some (.inr (.inr ()))
def gI:Option (Unit⊕(Unit)):=loop (fun(zz:Int)=>iH t18 t19 zz) t20
theorem qj{y:Int⊕(Unit⊕(Unit))}(h:iH t18 t19 t20=some y):aA Pg GE 0 (cA Ic 247) (LQ (fun(zz:Int)=>dD t18 t19 zz) dE cF y) (dD t18 t19 t20):=by
 rcases aG h with⟨c3,h⟩|⟨c3,h⟩
 ·obtain⟨x4,bx4,h⟩:=ax h
  obtain⟨r5,br5,h⟩:=ax h
  obtain⟨o11,bo11,h⟩:=ax h
  have p13:=fun{sc F} (r:PS sc F)=>sg 0 c3<|sv (bQ.ia (k:=.i64) bx4)<|sv (aT x4)<|sx qo<|sx (dA x4)<|sv (aV x4 [])<|sv (aV x4 [])<|bW (qL br5)<|sx qo<|sx (dA r5.1)<|pZ 0<|da (qQ r5.2 t18 t19 t20 x4.Caller x4.Callee x4.Arcs r5.1.Caller r5.1.Callee r5.1.Arcs bo11)<|r
  rcases aG h with⟨c12,h⟩|⟨c12,h⟩
  ·obtain rfl:=lf h
   have z:=p13<|sg 0 c12<|mW 0 (dE (.inl ())) (cF (.inl ())) rfl (bN (aI trivial (aI trivial trivial))) trivial
   exact im (A:=F8) mixed (by intro hx;cases hx) z<|by kernel_rfl
  ·obtain rfl:=lf h
   have z:=p13<|sg 0 c12<|mW 0 .normal (dD t18 t19 (bA (t20+1))) rfl (bN (aI (up (aq ae t18)) (aI trivial (aI trivial trivial)))) trivial
   exact cJ (A:=F8) mixed z<|by kernel_rfl
 ·obtain rfl:=lf h
  have z:=sg 0 c3<|eF (dE (.inr ())) (cF (.inr ()))
  exact jI F8 (by intro hx;cases hx) z<|by kernel_rfl
theorem kU{x:Unit⊕(Unit)}(h:gI t18 t19 t20=some x):aA Pg GE 0 (.loop (cA Ic 247)) (EX (dE x) (cF x)) (dD t18 t19 t20):=
 aA.loop (S:=fun(zz:Int)=>dD t18 t19 zz) (ex:=dE) (s:=t20) h fun zz y hy=>qj t18 t19 zz hy
end
def gY(a:waA):Option (Bool×Int):=
 (df a).bind fun r1=>
 if(r1.2 !=0)=true then
  some (false,r1.2)
 else
  (gI r1.1 (r1.1.length:Int) 0).bind fun o14=>match o14 with
  |(.inl o14)=>
   some (false,0)
  |(.inr o14)=>
   some (true,0)
theorem tI{a:waA}{r:Bool×Int}(h:gY a=some r):CC Pg GE 22 [sl ac a] (.tuple [.bool r.1,.int .i64 r.2]) []:=by
 obtain⟨r1,br1,h⟩:=ax h
 rcases aG h with⟨c2,h⟩|⟨c2,h⟩
 ·obtain rfl:=lf h
  have z:=bW (jS br1)<|sg 0 c2<|en (aI (rP (.tuple [.bool false,.int .i64 r1.2]))<|(aI trivial (aI trivial trivial)))
  exact bm F8 call22 func22 (c:=Ic) rfl (aI (aq ae a) trivial) z<|by kernel_rfl
 ·obtain⟨o14,bo14,h⟩:=ax h
  rcases o14 with o14|o14
  ·obtain rfl:=lf h
   have z:=bW (jS br1)<|sg 0 c2<|dB (bQ.ln r1.1)<|da (e:=.ret) (s1:=cF (.inl o14)) (kU r1.1 (r1.1.length:Int) 0 bo14)<|en (aI (rP (.tuple [.bool false,.int .i64 0]))<|(aI trivial (aI trivial trivial)))
   exact bm F8 call22 func22 (c:=Ic) rfl (aI (aq ae a) trivial) z<|by kernel_rfl
  ·obtain rfl:=lf h
   have z:=bW (jS br1)<|sg 0 c2<|dB (bQ.ln r1.1)<|da (e:=.exit 0) (s1:=cF (.inr o14)) (kU r1.1 (r1.1.length:Int) 0 bo14)<|en (aI (rP (.tuple [.bool true,.int .i64 0]))<|(aI trivial (aI trivial trivial)))
   exact bm F8 call22 func22 (c:=Ic) rfl (aI (aq ae a) trivial) z<|by kernel_rfl
noncomputable def II:Code:=f23.body.getD .skip
def H6:List Nat:=[15]
section
variable(v:waA)(v2:waA)(t12:Int)(t13:Int)
def fk:ak:=aY 27 [(0,sl ac v),(1,sl ac v2),(12,.int .i64 t12),(13,.int .i64 t13)] [] []
def fm(o:Unit⊕(Unit)):Exit:=match o with
 |(.inl _)=>.ret
 |(.inr _)=>.exit 0
def dS(o:Unit⊕(Unit)):ak:=match o with
 |(.inl o)=>aY 27 [(4,.bool false)] [] []
 |(.inr o)=>aY 27 [] [] []
def fl:Option (Int⊕(Unit⊕(Unit))):=
 if(decide (t13<t12))=true then
  (eQ v t13).bind fun x4=>
  (eQ v2 t13).bind fun x5=>
  (mn x4 x5).bind fun r6=>
  if(!r6)=true then
   some (.inr (.inl ()))
  else
   some (.inl (bA (t13+1)))
 else
  some (.inr (.inr ()))
def mo:Option (Unit⊕(Unit)):=loop (fun(zz:Int)=>fl v v2 t12 zz) t13
theorem sP{y:Int⊕(Unit⊕(Unit))}(h:fl v v2 t12 t13=some y):aA Pg GE 0 (cA II 119) (LQ (fun(zz:Int)=>fk v v2 t12 zz) fm dS y) (fk v v2 t12 t13):=by
 rcases aG h with⟨c3,h⟩|⟨c3,h⟩
 ·obtain⟨x4,bx4,h⟩:=ax h
  obtain⟨x5,bx5,h⟩:=ax h
  obtain⟨r6,br6,h⟩:=ax h
  have p8:=fun{sc F} (r:PS sc F)=>sg 0 c3<|zQ [0,0,3,7,0,0,48,112,255,511]<|sv (bQ.ia (k:=.i64) bx4)<|sv (aT x4)<|sv (bQ.ia (k:=.i64) bx5)<|sv (aT x5)<|bW (qP br6)<|r
  rcases aG h with⟨c7,h⟩|⟨c7,h⟩
  ·obtain rfl:=lf h
   have z:=p8<|sg 0 c7<|eF (fm (.inl ())) (dS (.inl ()))
   exact jI H6 (by intro hx;cases hx) z<|by kernel_rfl
  ·obtain rfl:=lf h
   exact tg H6 (p8<|sg 0 c7<|eF .normal (fk v v2 t12 (bA (t13+1))))<|by kernel_rfl
 ·obtain rfl:=lf h
  have z:=sg 0 c3<|eF (fm (.inr ())) (dS (.inr ()))
  exact jI H6 (by intro hx;cases hx) z<|by kernel_rfl
theorem nv{x:Unit⊕(Unit)}(h:mo v v2 t12 t13=some x):aA Pg GE 0 (.loop (cA II 119)) (EX (fm x) (dS x)) (fk v v2 t12 t13):=
 aA.loop (S:=fun(zz:Int)=>fk v v2 t12 zz) (ex:=fm) (s:=t13) h fun zz y hy=>sP v v2 t12 zz hy
end
def nu(a:waA)(a2:waA):Option Bool:=
 if((a.length:Int)!=(a2.length:Int))=true then
  some false
 else
  (mo a a2 (a.length:Int) 0).bind fun o9=>match o9 with
  |(.inl o9)=>
   some false
  |(.inr o9)=>
   some true
theorem xc{a:waA}{a2:waA}{r:Bool}(h:nu a a2=some r):CC Pg GE 23 [sl ac a,sl ac a2] (.bool r) []:=by
 have p2:=fun{sc F} (r:PS sc F)=>dB (bQ.ln a)<|dB (bQ.ln a2)<|r
 rcases aG h with⟨c1,h⟩|⟨c1,h⟩
 ·obtain rfl:=lf h
  have z:=p2<|sg 0 c1<|en (aI (rP (.bool false))<|trivial)
  exact bm H6 call23 func23 (c:=II) rfl (aI (aq ae a) (aI (aq ae a2) trivial)) z<|by kernel_rfl
 ·obtain⟨o9,bo9,h⟩:=ax h
  rcases o9 with o9|o9
  ·obtain rfl:=lf h
   have z:=p2<|sg 0 c1<|dB (bQ.ln a)<|da (e:=.ret) (s1:=dS (.inl o9)) (nv a a2 (a.length:Int) 0 bo9)<|en (aI (rP (.bool false))<|trivial)
   exact bm H6 call23 func23 (c:=II) rfl (aI (aq ae a) (aI (aq ae a2) trivial)) z<|by kernel_rfl
  ·obtain rfl:=lf h
   have z:=p2<|sg 0 c1<|dB (bQ.ln a)<|da (e:=.exit 0) (s1:=dS (.inr o9)) (nv a a2 (a.length:Int) 0 bo9)<|en (aI (rP (.bool true))<|trivial)
   exact bm H6 call23 func23 (c:=II) rfl (aI (aq ae a) (aI (aq ae a2) trivial)) z<|by kernel_rfl
noncomputable def b5:Code:=Tryd.f5.body.getD .skip
def A5:List Nat:=[]
def hU(a:waA):Option Bool:=
 (wK 4 a).bind fun r1=>
 if(!r1)=true then
  rE.bind fun r3=>
  some r3
 else
  (aK a).bind fun r4=>
  (df a).bind fun r5=>
  (bq a).bind fun r6=>
  (gY a).bind fun r7=>
  (nu r4.1 r5.1).bind fun r8=>
  if r8=true then
   if (r4.2 == r5.2) = true then
    if(r6.1==r7.1)=true then
     if(r6.2==r7.2)=true then
      rE.bind fun r17=>
      some r17
     else
      some false
    else
     some false
   else
    some false
  else
   some false
theorem oB{a:waA}{r:Bool}(h:hU a=some r):CC Pg GE 5 [sl ac a] (.bool r) []:=by
 obtain⟨r1,br1,h⟩:=ax h
 rcases aG h with⟨c2,h⟩|⟨c2,h⟩
 ·obtain⟨r3,br3,h⟩:=ax h
  obtain rfl:=lf h
  have z:=bW (xq br1)<|sg 0 c2<|bW (tL br3)<|en (aI (rP (.bool r3))<|trivial)
  exact bm A5 call5 func5 (c:=b5) rfl (aI (aq ae a) trivial) z<|by kernel_rfl
 ·obtain⟨r4,br4,h⟩:=ax h
  obtain⟨r5,br5,h⟩:=ax h
  obtain⟨r6,br6,h⟩:=ax h
  obtain⟨r7,br7,h⟩:=ax h
  obtain⟨r8,br8,h⟩:=ax h
  have p10:=fun{sc F} (r:PS sc F)=>bW (xq br1)<|sg 0 c2<|bW (cP br4)<|bW (jS br5)<|bW (eS br6)<|bW (tI br7)<|bW (xc br8)<|r
  rcases aG h with⟨c9,h⟩|⟨c9,h⟩
  ·have p12:=fun{sc F} (r:PS sc F)=>p10<|sg 4 c9<|r
   rcases aG h with⟨c11,h⟩|⟨c11,h⟩
   ·have p14:=fun{sc F} (r:PS sc F)=>p12<|sg 9 c11<|r
    rcases aG h with⟨c13,h⟩|⟨c13,h⟩
    ·have p16:=fun{sc F} (r:PS sc F)=>p14<|sg 14 c13<|r
     rcases aG h with⟨c15,h⟩|⟨c15,h⟩
     ·obtain⟨r17,br17,h⟩:=ax h
      obtain rfl:=lf h
      have z:=p16<|sg 19 c15<|bW (tL br17)<|en (aI (rP (.bool r17))<|trivial)
      exact bm A5 call5 func5 (c:=b5) rfl (aI (aq ae a) trivial) z<|by kernel_rfl
     ·obtain rfl:=lf h
      have z:=p16<|sg 19 c15<|en (aI (rP (.bool false))<|trivial)
      exact bm A5 call5 func5 (c:=b5) rfl (aI (aq ae a) trivial) z<|by kernel_rfl
    ·obtain rfl:=lf h
     have z:=p14<|sg 14 c13<|en (aI (rP (.bool false))<|trivial)
     exact bm A5 call5 func5 (c:=b5) rfl (aI (aq ae a) trivial) z<|by kernel_rfl
   ·obtain rfl:=lf h
    have z:=p12<|sg 9 c11<|en (aI (rP (.bool false))<|trivial)
    exact bm A5 call5 func5 (c:=b5) rfl (aI (aq ae a) trivial) z<|by kernel_rfl
  ·obtain rfl:=lf h
   have z:=p10<|sg 4 c9<|en (aI (rP (.bool false))<|trivial)
   exact bm A5 call5 func5 (c:=b5) rfl (aI (aq ae a) trivial) z<|by kernel_rfl
open Go
set_option linter.unusedSimpArgs false
def Dy(l:List ag)(s:ag):Int:=match l.findIdx? (fun x=>x==s)with|some j=>(j:Int)|none=>-1
theorem Be(l:List ag)(s:ag)(hl:l.length<9223372036854775808):tx l s=some (Dy l s):=by
 unfold tx qH
 have:=uV l hl (fun zz=>iR l s l.length zz) (fun x=>x==s) (fun j=>Sum.inl (j:Int)) (Sum.inr ()) (fun i h=>by
  simp only[iR]
  rw[vaf (by simp;omega),eX _ i h]
  simp only[vaa]
  split<;>simp_all) (by simp only[iR];rw[vag (by simp)])
 rw[this]
 unfold Dy
 cases l.findIdx? (fun x=>x==s)<;>rfl
theorem At(l:List ag)(s:ag):decide (Dy l s>=0)=l.any fun k=>k==s:=by
 unfold Dy
 cases h:l.findIdx? (fun x=>x==s)with
 |none=>
  rw[vcb]at h
  symm
  simp only[vbq]
  rw[show decide ((-1:Int)>=0)=false from rfl]
  simp only[vbq,Bool.not_eq_true]
  exact h
 | some j =>
  have h2:l.any (fun x=>x==s)=true:=by
   have:=vcy (xs:=l) (p:=fun x=>x==s)
   rw[h]at this
   exact this.symm
  rw[h2]
  simp
end Go.Proofs.YtoficachfgggjaaDoor
