/- PROVED: a part of the proof. Conditions: none. -/
import Derived.Test.YtoficachfgggjaaDoorPkA11
import Derived.Test.YtoficachfgggjaaDoorPkA8
noncomputable section
namespace Go.Proofs.YtoficachfgggjaaDoor
open Go Go.Proofs.Tryd
set_option linter.unusedVariables false
set_option maxRecDepth 100000
noncomputable def Bh:Code:=f11.body.getD .skip
def va:List Nat:=[22]
section
variable(g:aa)
def tT:al:=be 78 [(1,.eptr (ae g))] [.dead] []
def kj(o:Bool):al:=be 78 [(1,.eptr (ae g)),(16,.bool o)] [.dead] []
def jZ:Option Bool:=
 (nR g.Caller).bind fun r1=>
 if(r1 !=0)=true then
  some true
 else
  (nR g.Callee).bind fun r4=>
  some (r4 !=0)
theorem s4{x:Bool}(h:jZ g=some x):aE Pg GE 0 (cA Bh 12) (EX .normal (kj g x)) (tT g):=by
 obtain⟨r1,br1,h⟩:=av h
 have p3:=fun{sc F} (r:PS sc F)=>sv (aO g)<|sv (aT g)<|co (sj br1)<|r
 rcases aM h with⟨c2,h⟩|⟨c2,h⟩
 ·obtain rfl:=lf h
  exact dH va (p3<|sg 5 c2<|eF .normal (kj g true))<|by kernel_rfl
 ·obtain⟨r4,br4,h⟩:=av h
  obtain rfl:=lf h
  exact dH va (p3<|sg 5 c2<|sv (aQ g)<|sv (aU g)<|co (sj br4)<|eF .normal (kj g (r4 !=0)))<|by kernel_rfl
end
section
variable(g:aa)(i:Int)(t18:waA)(t19:Int)(m:Int)(m2:Int)(m3:Bool)
def tU:al:=be 78 [(1,.eptr (ae g)),(3,.int .i64 i),(4,.bptr 1 0),(18,sl aj t18),(19,.int .i64 t19),(20,.int .i64 i)] [.dead,.cells [.int .i64 m,.int .i64 m2,.bool m3] []] []
def fm(o:Bool):al:=be 78 [(1,.eptr (ae g)),(3,.int .i64 i),(4,.bptr 1 0),(18,sl aj t18),(19,.int .i64 t19),(20,.int .i64 i),(42,.bool o)] [.dead,.cells [.int .i64 m,.int .i64 m2,.bool m3] []] []
def j0:Option Bool:=
 if(decide (m<0))=true then
  some true
 else
  if(decide (m>=6))=true then
   some true
  else
   if(decide (m2<0))=true then
    some true
   else
    some (decide (m2>=6))
theorem s9{x:Bool}(h:j0 m m2=some x):aE Pg GE 0 (cA Bh 15340) (EX .normal (fm g i t18 t19 m m2 m3 x)) (tU g i t18 t19 m m2 m3):=by
 rcases aM h with⟨c10,h⟩|⟨c10,h⟩
 ·obtain rfl:=lf h
  exact dH va (ss<|sg 4 c10<|eF .normal (fm g i t18 t19 m m2 m3 true))<|by kernel_rfl
 ·have p12:=fun{sc F} (r:PS sc F)=>ss<|sg 4 c10<|ss<|r
  rcases aM h with⟨c11,h⟩|⟨c11,h⟩
  ·obtain rfl:=lf h
   exact dH va (p12<|sg 9 c11<|eF .normal (fm g i t18 t19 m m2 m3 true))<|by kernel_rfl
  ·have p14:=fun{sc F} (r:PS sc F)=>p12<|sg 9 c11<|ss<|r
   rcases aM h with⟨c13,h⟩|⟨c13,h⟩
   ·obtain rfl:=lf h
    exact dH va (p14<|sg 14 c13<|eF .normal (fm g i t18 t19 m m2 m3 true))<|by kernel_rfl
   ·obtain rfl:=lf h
    exact dH va (p14<|sg 14 c13<|ss<|eF .normal (fm g i t18 t19 m m2 m3 (decide (m2>=6))))<|by kernel_rfl
end
section
variable(g:aa)(i:Int)(t18:waA)(t19:Int)(t46:waA)(t47:Int)(t48:Int)(m:Int)(m2:Int)(m3:Bool)(m4:Int)(m5:Int)(m6:Bool)
def tV:al:=be 78 [(1,.eptr (ae g)),(3,.int .i64 i),(4,.bptr 1 0),(6,.bptr 2 0),(18,sl aj t18),(19,.int .i64 t19),(20,.int .i64 i),(46,sl aj t46),(47,.int .i64 t47),(48,.int .i64 t48)] [.dead,.cells [.int .i64 m,.int .i64 m2,.bool m3] [],.cells [.int .i64 m4,.int .i64 m5,.bool m6] []] []
def kl(o:Bool):al:=be 78 [(1,.eptr (ae g)),(3,.int .i64 i),(4,.bptr 1 0),(18,sl aj t18),(19,.int .i64 t19),(20,.int .i64 i),(46,sl aj t46),(47,.int .i64 t47),(48,.int .i64 t48),(63,.bool o)] [.dead,.cells [.int .i64 m,.int .i64 m2,.bool m3] [],.cells [.int .i64 m4,.int .i64 m5,.bool m6] []] []
def ib:Option Bool:=
 if(m==m4)=true then
  some (m2==m5)
 else
  some false
theorem ta{x:Bool}(h:ib m m2 m4 m5=some x):aE Pg GE 0 (cA Bh 7855606) (EX .normal (kl g i t18 t19 t46 t47 t48 m m2 m3 m4 m5 m6 x)) (tV g i t18 t19 t46 t47 t48 m m2 m3 m4 m5 m6):=by
 have p22:=fun{sc F} (r:PS sc F)=>ss<|ss<|r
 rcases aM h with⟨c21,h⟩|⟨c21,h⟩
 ·obtain rfl:=lf h
  exact dH va (p22<|sg 6 c21<|ss<|ss<|eF .normal (kl g i t18 t19 t46 t47 t48 m m2 m3 m4 m5 m6 (m2==m5)))<|by kernel_rfl
 ·obtain rfl:=lf h
  exact dH va (p22<|sg 6 c21<|eF .normal (kl g i t18 t19 t46 t47 t48 m m2 m3 m4 m5 m6 false))<|by kernel_rfl
end
section
variable(g:aa)(i:Int)(t18:waA)(t19:Int)(t46:waA)(t47:Int)(m:Int)(m2:Int)(m3:Bool)(t48:Int)
def ft:al:=be 78 [(1,.eptr (ae g)),(3,.int .i64 i),(4,.bptr 1 0),(18,sl aj t18),(19,.int .i64 t19),(20,.int .i64 i),(46,sl aj t46),(47,.int .i64 t47),(48,.int .i64 t48)] [.dead,.cells [.int .i64 m,.int .i64 m2,.bool m3] []] []
def fu(o:Unit⊕(Unit)):Exit:=match o with
 |(.inl _)=>.ret
 |(.inr _)=>.exit 2
def dY(o:Unit⊕(Unit)):al:=match o with
 |(.inl o)=>be 78 [(2,.int .i64 4)] [.dead,.cells [.int .i64 m,.int .i64 m2,.bool m3] []] []
 |(.inr o)=>be 78 [(1,.eptr (ae g)),(3,.int .i64 i),(4,.bptr 1 0),(18,sl aj t18),(19,.int .i64 t19),(20,.int .i64 i)] [.dead,.cells [.int .i64 m,.int .i64 m2,.bool m3] []] []
def n8:Option (Int⊕(Unit⊕(Unit))):=
 if(decide (t48<t47))=true then
  (gz t46 t48).bind fun x20=>
  (ib m m2 x20.From x20.To).bind fun o23=>
  if o23=true then
   some (.inr (.inl ()))
  else
   some (.inl (b5 (t48+1)))
 else
  some (.inr (.inr ()))
def j2:Option (Unit⊕(Unit)):=loop (fun(zz:Int)=>n8 t46 t47 m m2 zz) t48
theorem rm{y:Int⊕(Unit⊕(Unit))}(h:n8 t46 t47 m m2 t48=some y):aE Pg GE 0 (cA Bh 122743) (LQ (fun(zz:Int)=>ft g i t18 t19 t46 t47 m m2 m3 zz) fu (dY g i t18 t19 m m2 m3) y) (ft g i t18 t19 t46 t47 m m2 m3 t48):=by
 rcases aM h with⟨c19,h⟩|⟨c19,h⟩
 ·obtain⟨x20,bx20,h⟩:=av h
  obtain⟨o23,bo23,h⟩:=av h
  have p25:=fun{sc F} (r:PS sc F)=>sg 0 c19<|sv (cF.ia (k:=.i64) bx20)<|sv (dO x20)<|sx tk<|sx (eN x20)<|pH 0<|dG (ta g i t18 t19 t46 t47 t48 m m2 m3 x20.From x20.To x20.Strict bo23)<|r
  rcases aM h with⟨c24,h⟩|⟨c24,h⟩
  ·obtain rfl:=lf h
   have z:=p25<|sg 0 c24<|pw 0 (fu (.inl ())) (dY g i t18 t19 m m2 m3 (.inl ())) rfl (cG (aI trivial trivial)) (aI trivial (aI (aI trivial (aI trivial (aI trivial trivial))) trivial))
   exact jD (A:=va) mixed (by intro hx;cases hx) z<|by kernel_rfl
  ·obtain rfl:=lf h
   have z:=p25<|sg 0 c24<|pw 0 .normal (ft g i t18 t19 t46 t47 m m2 m3 (b5 (t48+1))) rfl (cG (aI (dZ (af g)) (aI trivial (aI (cQ rfl) (aI (up (aB au t18)) (aI trivial (aI trivial (aI (up (aB au t46)) (aI trivial (aI trivial trivial)))))))))) (aI trivial (aI (aI trivial (aI trivial (aI trivial trivial))) trivial))
   exact d6 (A:=va) mixed z<|by kernel_rfl
 ·obtain rfl:=lf h
  have z:=sg 0 c19<|eF (fu (.inr ())) (dY g i t18 t19 m m2 m3 (.inr ()))
  exact jK va (by intro hx;cases hx) z<|by kernel_rfl
theorem ny{x:Unit⊕(Unit)}(h:j2 t46 t47 m m2 t48=some x):aE Pg GE 0 (.loop (cA Bh 122743)) (EX (fu x) (dY g i t18 t19 m m2 m3 x)) (ft g i t18 t19 t46 t47 m m2 m3 t48):=
 aE.loop (S:=fun(zz:Int)=>ft g i t18 t19 t46 t47 m m2 m3 zz) (ex:=fu) (s:=t48) h fun zz y hy=>rm g i t18 t19 t46 t47 m m2 m3 zz hy
end
section
variable(g:aa)(i:Int)(t18:waA)(t19:Int)(m:Int)(m2:Int)(m3:Bool)
def tW:al:=be 78 [(1,.eptr (ae g)),(3,.int .i64 i),(4,.bptr 1 0),(18,sl aj t18),(19,.int .i64 t19),(20,.int .i64 i)] [.dead,.cells [.int .i64 m,.int .i64 m2,.bool m3] []] []
def km(o:Bool):al:=be 78 [(1,.eptr (ae g)),(18,sl aj t18),(19,.int .i64 t19),(20,.int .i64 i),(76,.bool o)] [.dead,.cells [.int .i64 m,.int .i64 m2,.bool m3] []] []
def j1:Option Bool:=
 if(decide (i>0))=true then
  (gz g.Arcs (b5 (i - 1))).bind fun x28=>
  (pL (⟨m,m2,m3⟩:ah) x28).bind fun r29=>
  some r29
 else
  some false
theorem tb{x:Bool}(h:j1 g i m m2 m3=some x):aE Pg GE 0 (cA Bh 30686) (EX .normal (km g i t18 t19 m m2 m3 x)) (tW g i t18 t19 m m2 m3):=by
 rcases aM h with⟨c27,h⟩|⟨c27,h⟩
 ·obtain⟨x28,bx28,h⟩:=av h
  obtain⟨r29,br29,h⟩:=av h
  obtain rfl:=lf h
  exact dH va (yP [0,1,3,7,7,23,7,71,247,503,1023,2047]<|sg 3 c27<|sv (mf (⟨m,m2,m3⟩:ah) [])<|sv (aw g)<|sv (ax g)<|sv (cF.ia (k:=.i64) bx28)<|sv (dO x28)<|co (vB br29)<|eF .normal (km g i t18 t19 m m2 m3 r29))<|by kernel_rfl
 ·obtain rfl:=lf h
  exact dH va (yP [0,1,3,7,7,23,7,71,247,503,1023,2047]<|sg 3 c27<|eF .normal (km g i t18 t19 m m2 m3 false))<|by kernel_rfl
end
section
variable(g:aa)(t18:waA)(t19:Int)(t20:Int)
def fp:al:=be 78 [(1,.eptr (ae g)),(18,sl aj t18),(19,.int .i64 t19),(20,.int .i64 t20)] [.dead] []
def cV(o:Int⊕(Unit)):Exit:=match o with
 |(.inl _)=>.ret
 |(.inr _)=>.exit 0
def cu(o:Int⊕(Unit)):al:=match o with
 |(.inl o)=>be 78 [(2,.int .i64 o)] [.dead] []
 |(.inr o)=>be 78 [] [.dead] []
def fq:Option (Int⊕(Int⊕(Unit))):=
 if (decide (t20 < t19)) = true then
  (gz t18 t20).bind fun x9=>
  (j0 x9.From x9.To).bind fun o15=>
  if o15=true then
   some (.inr (.inl 2))
  else
   (yQ g.Arcs none (some t20)).bind fun l18=>
   (j2 l18 (l18.length:Int) x9.From x9.To 0).bind fun o26=>match o26 with
   |(.inl o26)=>
    some (.inr (.inl 4))
   | (.inr o26) =>
    (j1 g t20 x9.From x9.To x9.Strict).bind fun o30=>
    if o30=true then
     some (.inr (.inl 9))
    else
     some (.inl (b5 (t20+1)))
 else
  some (.inr (.inr ()))
def fO:Option (Int⊕(Unit)):=loop (fun(zz:Int)=>fq g t18 t19 zz) t20
theorem rl{y:Int⊕(Int⊕(Unit))}(h:fq g t18 t19 t20=some y):aE Pg GE 0 (cA Bh 119) (LQ (fun(zz:Int)=>fp g t18 t19 zz) cV cu y) (fp g t18 t19 t20):=by
 rcases aM h with⟨c8,h⟩|⟨c8,h⟩
 ·obtain⟨x9,bx9,h⟩:=av h
  obtain⟨o15,bo15,h⟩:=av h
  have p17:=fun{sc F} (r:PS sc F)=>sg 0 c8<|sv (cF.ia (k:=.i64) bx9)<|sv (dO x9)<|sx tk<|sx (eN x9)<|pH 1<|dG (s9 g t20 t18 t19 x9.From x9.To x9.Strict bo15)<|r
  rcases aM h with⟨c16,h⟩|⟨c16,h⟩
  ·obtain rfl:=lf h
   have z:=p17<|sg 0 c16<|pw 0 (cV (.inl 2)) (cu (.inl 2)) rfl (cG (aI trivial trivial)) (aI trivial trivial)
   exact jD (A:=va) mixed (by intro hx;cases hx) z<|by kernel_rfl
  ·obtain⟨l18,bl18,h⟩:=av h
   obtain⟨o26,bo26,h⟩:=av h
   rcases o26 with o26|o26
   ·obtain rfl:=lf h
    have z:=p17<|sg 0 c16<|sv (aw g)<|sv (ax g)<|sv (cF.sc bl18)<|eP (cF.ln l18)<|dG (e:=.ret) (s1:=dY g t20 t18 t19 x9.From x9.To x9.Strict (.inl o26)) (ny g t20 t18 t19 l18 (l18.length:Int) x9.From x9.To x9.Strict 0 bo26)<|pw 0 (cV (.inl 4)) (cu (.inl 4)) rfl (cG (aI trivial trivial)) (aI trivial trivial)
    exact jD (A:=va) mixed (by intro hx;cases hx) z<|by kernel_rfl
   ·obtain⟨o30,bo30,h⟩:=av h
    have p32:=fun{sc F} (r:PS sc F)=>p17<|sg 0 c16<|sv (aw g)<|sv (ax g)<|sv (cF.sc bl18)<|eP (cF.ln l18)<|dG (e:=.exit 2) (s1:=dY g t20 t18 t19 x9.From x9.To x9.Strict (.inr o26)) (ny g t20 t18 t19 l18 (l18.length:Int) x9.From x9.To x9.Strict 0 bo26)<|pH 0<|dG (tb g t20 t18 t19 x9.From x9.To x9.Strict bo30)<|r
    rcases aM h with⟨c31,h⟩|⟨c31,h⟩
    ·obtain rfl:=lf h
     have z:=p32<|sg 0 c31<|pw 0 (cV (.inl 9)) (cu (.inl 9)) rfl (cG (aI trivial trivial)) (aI trivial trivial)
     exact jD (A:=va) mixed (by intro hx;cases hx) z<|by kernel_rfl
    ·obtain rfl:=lf h
     have z:=p32<|sg 0 c31<|pw 0 .normal (fp g t18 t19 (b5 (t20+1))) rfl (cG (aI (dZ (af g)) (aI (up (aB au t18)) (aI trivial (aI trivial trivial))))) (aI trivial trivial)
     exact d6 (A:=va) mixed z<|by kernel_rfl
 ·obtain rfl:=lf h
  have z:=sg 0 c8<|eF (cV (.inr ())) (cu (.inr ()))
  exact jK va (by intro hx;cases hx) z<|by kernel_rfl
theorem nx{x:Int⊕(Unit)}(h:fO g t18 t19 t20=some x):aE Pg GE 0 (.loop (cA Bh 119)) (EX (cV x) (cu x)) (fp g t18 t19 t20):=
 aE.loop (S:=fun(zz:Int)=>fp g t18 t19 zz) (ex:=cV) (s:=t20) h fun zz y hy=>rl g t18 t19 zz hy
end
def ma(g:aa):Option Int:=
 (jZ g).bind fun o5=>
 if o5=true then
  some 3
 else
  (fO g g.Arcs (g.Arcs.length:Int) 0).bind fun o33=>match o33 with
  |(.inl o33)=>
   some o33
  |(.inr o33)=>
   some 0
theorem qp{g:aa}{r:Int}(h:ma g=some r):CC Pg GE 11 [.agg (ae g)] (.int .i64 r) []:=by
 obtain⟨o5,bo5,h⟩:=av h
 have p7:=fun{sc F} (r:PS sc F)=>se (bq g)<|pH 1<|dG (s4 g bo5)<|r
 rcases aM h with⟨c6,h⟩|⟨c6,h⟩
 ·obtain rfl:=lf h
  have z:=p7<|sg 0 c6<|en (aI (rP (.int .i64 3))<|trivial)
  exact bC va call11 func11 (c:=Bh) rfl (aI (af g) trivial) z<|by kernel_rfl
 ·obtain⟨o33,bo33,h⟩:=av h
  rcases o33 with o33|o33
  ·obtain rfl:=lf h
   have z:=p7<|sg 0 c6<|sv (aw g)<|sv (ax g)<|eP (cF.ln g.Arcs)<|dG (e:=.ret) (s1:=cu (.inl o33)) (nx g g.Arcs (g.Arcs.length:Int) 0 bo33)<|en (aI (rP (.int .i64 o33))<|trivial)
   exact bC va call11 func11 (c:=Bh) rfl (aI (af g) trivial) z<|by kernel_rfl
  ·obtain rfl:=lf h
   have z:=p7<|sg 0 c6<|sv (aw g)<|sv (ax g)<|eP (cF.ln g.Arcs)<|dG (e:=.exit 0) (s1:=cu (.inr o33)) (nx g g.Arcs (g.Arcs.length:Int) 0 bo33)<|en (aI (rP (.int .i64 0))<|trivial)
   exact bC va call11 func11 (c:=Bh) rfl (aI (af g) trivial) z<|by kernel_rfl
noncomputable def DN:Code:=f13.body.getD .skip
def Cg:List Nat:=[32]
section
variable(v:aa)(v2:aa)
def vo:al:=be 45 [(2,.eptr (ae v)),(3,.eptr (ae v2))] [.dead,.dead] []
def iV(o:Bool):al:=be 45 [(2,.eptr (ae v)),(3,.eptr (ae v2)),(26,.bool o)] [.dead,.dead] []
def nY:Option Bool:=
 if(!(v.Caller==v2.Caller))=true then
  some true
 else
  if(!(v.Callee==v2.Callee))=true then
   some true
  else
   some ((v.Arcs.length:Int)!=(v2.Arcs.length:Int))
theorem tS{x:Bool}(h:nY v v2=some x):aE Pg GE 0 (cA DN 12) (EX .normal (iV v v2 x)) (vo v v2):=by
 have p2:=fun{sc F} (r:PS sc F)=>sv (aO v)<|sv (aT v)<|sv (aO v2)<|sv (aT v2)<|r
 rcases aM h with⟨c1,h⟩|⟨c1,h⟩
 ·obtain rfl:=lf h
  exact dH Cg (p2<|sg 6 c1<|eF .normal (iV v v2 true))<|by kernel_rfl
 ·have p4:=fun{sc F} (r:PS sc F)=>p2<|sg 6 c1<|sv (aQ v)<|sv (aU v)<|sv (aQ v2)<|sv (aU v2)<|r
  rcases aM h with⟨c3,h⟩|⟨c3,h⟩
  ·obtain rfl:=lf h
   exact dH Cg (p4<|sg 13 c3<|eF .normal (iV v v2 true))<|by kernel_rfl
  ·obtain rfl:=lf h
   exact dH Cg (p4<|sg 13 c3<|sv (aw v)<|sv (ax v)<|eP (cF.ln v.Arcs)<|sv (aw v2)<|sv (ax v2)<|eP (cF.ln v2.Arcs)<|eF .normal (iV v v2 ((v.Arcs.length:Int)!=(v2.Arcs.length:Int))))<|by kernel_rfl
end
section
variable(v:aa)(v2:aa)(t29:Int)(t30:Int)
def gi:al:=be 45 [(2,.eptr (ae v)),(3,.eptr (ae v2)),(29,.int .i64 t29),(30,.int .i64 t30)] [.dead,.dead] []
def gj(o:Unit⊕(Unit)):Exit:=match o with
 |(.inl _)=>.ret
 |(.inr _)=>.exit 0
def eS(o:Unit⊕(Unit)):al:=match o with
 |(.inl o)=>be 45 [(4,.bool false)] [.dead,.dead] []
 |(.inr o)=>be 45 [] [.dead,.dead] []
def lH:Option (Int⊕(Unit⊕(Unit))):=
 if(decide (t30<t29))=true then
  (gz v.Arcs t30).bind fun x9=>
  (gz v2.Arcs t30).bind fun x10=>
  if(!(j5 x9 x10))=true then
   some (.inr (.inl ()))
  else
   some (.inl (b5 (t30+1)))
 else
  some (.inr (.inr ()))
def nZ:Option (Unit⊕(Unit)):=loop (fun(zz:Int)=>lH v v2 t29 zz) t30
theorem sZ{y:Int⊕(Unit⊕(Unit))}(h:lH v v2 t29 t30=some y):aE Pg GE 0 (cA DN 119) (LQ (fun(zz:Int)=>gi v v2 t29 zz) gj eS y) (gi v v2 t29 t30):=by
 rcases aM h with⟨c8,h⟩|⟨c8,h⟩
 ·obtain⟨x9,bx9,h⟩:=av h
  obtain⟨x10,bx10,h⟩:=av h
  have p12:=fun{sc F} (r:PS sc F)=>sg 0 c8<|yP [0,1,0,7,15,0,32,0,224,480,1023]<|sv (aw v)<|sv (ax v)<|sv (cF.ia (k:=.i64) bx9)<|sv (dO x9)<|sv (aw v2)<|sv (ax v2)<|sv (cF.ia (k:=.i64) bx10)<|sv (dO x10)<|sv (yu x9 x10)<|r
  rcases aM h with⟨c11,h⟩|⟨c11,h⟩
  ·obtain rfl:=lf h
   have z:=p12<|sg 0 c11<|eF (gj (.inl ())) (eS (.inl ()))
   exact jK Cg (by intro hx;cases hx) z<|by kernel_rfl
  ·obtain rfl:=lf h
   exact rf Cg (p12<|sg 0 c11<|eF .normal (gi v v2 t29 (b5 (t30+1))))<|by kernel_rfl
 ·obtain rfl:=lf h
  have z:=sg 0 c8<|eF (gj (.inr ())) (eS (.inr ()))
  exact jK Cg (by intro hx;cases hx) z<|by kernel_rfl
theorem n7{x:Unit⊕(Unit)}(h:nZ v v2 t29 t30=some x):aE Pg GE 0 (.loop (cA DN 119)) (EX (gj x) (eS x)) (gi v v2 t29 t30):=
 aE.loop (S:=fun(zz:Int)=>gi v v2 t29 zz) (ex:=gj) (s:=t30) h fun zz y hy=>sZ v v2 t29 zz hy
end
def qo(a:aa)(a2:aa):Option Bool:=
 (nY a a2).bind fun o5=>
 if o5=true then
  some false
 else
  (nZ a a2 (a.Arcs.length:Int) 0).bind fun o13=>match o13 with
  |(.inl o13)=>
   some false
  |(.inr o13)=>
   some true
theorem xT{a:aa}{a2:aa}{r:Bool}(h:qo a a2=some r):CC Pg GE 13 [.agg (ae a),.agg (ae a2)] (.bool r) []:=by
 obtain⟨o5,bo5,h⟩:=av h
 have p7:=fun{sc F} (r:PS sc F)=>se (bq a)<|se (bq a2)<|pH 1<|dG (tS a a2 bo5)<|r
 rcases aM h with⟨c6,h⟩|⟨c6,h⟩
 ·obtain rfl:=lf h
  have z:=p7<|sg 0 c6<|en (aI (rP (.bool false))<|trivial)
  exact bC Cg call13 func13 (c:=DN) rfl (aI (af a) (aI (af a2) trivial)) z<|by kernel_rfl
 ·obtain⟨o13,bo13,h⟩:=av h
  rcases o13 with o13|o13
  ·obtain rfl:=lf h
   have z:=p7<|sg 0 c6<|sv (aw a)<|sv (ax a)<|eP (cF.ln a.Arcs)<|dG (e:=.ret) (s1:=eS (.inl o13)) (n7 a a2 (a.Arcs.length:Int) 0 bo13)<|en (aI (rP (.bool false))<|trivial)
   exact bC Cg call13 func13 (c:=DN) rfl (aI (af a) (aI (af a2) trivial)) z<|by kernel_rfl
  ·obtain rfl:=lf h
   have z:=p7<|sg 0 c6<|sv (aw a)<|sv (ax a)<|eP (cF.ln a.Arcs)<|dG (e:=.exit 0) (s1:=eS (.inr o13)) (n7 a a2 (a.Arcs.length:Int) 0 bo13)<|en (aI (rP (.bool true))<|trivial)
   exact bC Cg call13 func13 (c:=DN) rfl (aI (af a) (aI (af a2) trivial)) z<|by kernel_rfl
noncomputable def b3:Code:=Tryd.f3.body.getD .skip
noncomputable def DP:Code:=f35.body.getD .skip
def Bb:List Nat:=[64]
section
variable(v:Int)(to:Int)(v2:aa)(found:Bool)(t20:waA)(t21:Int)(t22:Int)(t27:waA)(t28:Int)(t29:Int)(m:Bool)(m2:Int)(m3:Int)(m4:Bool)(m5:Int)(m6:Int)(m7:Bool)
def wQ:al:=be 65 [(2,.int .i64 v),(3,.int .i64 to),(5,.eptr (ae v2)),(8,.bptr 2 0),(10,.bptr 3 0),(11,.bool found),(13,.bptr 4 0),(15,.bptr 5 0),(20,sl aj t20),(21,.int .i64 t21),(22,.int .i64 t22),(27,sl aj t27),(28,.int .i64 t28),(29,.int .i64 t29)] [.dead,.dead,.cells [.int .i64 0,.int .i64 0,.bool false] [],.cells [.int .i64 v,.int .i64 to,.bool m] [],.cells [.int .i64 m2,.int .i64 m3,.bool m4] [],.cells [.int .i64 m5,.int .i64 m6,.bool m7] []] []
def j3(o:Bool):al:=be 65 [(2,.int .i64 v),(3,.int .i64 to),(5,.eptr (ae v2)),(8,.bptr 2 0),(10,.bptr 3 0),(11,.bool found),(13,.bptr 4 0),(15,.bptr 5 0),(20,sl aj t20),(21,.int .i64 t21),(22,.int .i64 t22),(27,sl aj t27),(28,.int .i64 t28),(29,.int .i64 t29),(49,.bool o)] [.dead,.dead,.cells [.int .i64 0,.int .i64 0,.bool false] [],.cells [.int .i64 v,.int .i64 to,.bool m] [],.cells [.int .i64 m2,.int .i64 m3,.bool m4] [],.cells [.int .i64 m5,.int .i64 m6,.bool m7] []] []
def kn:Option Bool:=
 if(m2==v)=true then
  if(m3==m5)=true then
   some (m6==to)
  else
   some false
 else
  some false
theorem vp{x:Bool}(h:kn v to m2 m3 m5 m6=some x):aE Pg GE 0 (cA DP 4061174) (EX .normal (j3 v to v2 found t20 t21 t22 t27 t28 t29 m m2 m3 m4 m5 m6 m7 x)) (wQ v to v2 found t20 t21 t22 t27 t28 t29 m m2 m3 m4 m5 m6 m7):=by
 rcases aM h with⟨c5,h⟩|⟨c5,h⟩
 ·have p7:=fun{sc F} (r:PS sc F)=>ss<|sg 5 c5<|ss<|ss<|r
  rcases aM h with⟨c6,h⟩|⟨c6,h⟩
  ·obtain rfl:=lf h
   exact dH Bb (p7<|sg 12 c6<|ss<|eF .normal (j3 v to v2 found t20 t21 t22 t27 t28 t29 m m2 m3 m4 m5 m6 m7 (m6==to)))<|by kernel_rfl
  ·obtain rfl:=lf h
   exact dH Bb (p7<|sg 12 c6<|eF .normal (j3 v to v2 found t20 t21 t22 t27 t28 t29 m m2 m3 m4 m5 m6 m7 false))<|by kernel_rfl
 ·obtain rfl:=lf h
  exact dH Bb (ss<|sg 5 c5<|eF .normal (j3 v to v2 found t20 t21 t22 t27 t28 t29 m m2 m3 m4 m5 m6 m7 false))<|by kernel_rfl
end
section
variable(v:Int)(to:Int)(v2:aa)(t20:waA)(t21:Int)(t22:Int)(t27:waA)(t28:Int)(m2:Int)(m3:Int)(m4:Bool)(found:Bool)(t29:Int)(m:Bool)
def dA:al:=be 65 [(2,.int .i64 v),(3,.int .i64 to),(5,.eptr (ae v2)),(8,.bptr 2 0),(10,.bptr 3 0),(11,.bool found),(13,.bptr 4 0),(20,sl aj t20),(21,.int .i64 t21),(22,.int .i64 t22),(27,sl aj t27),(28,.int .i64 t28),(29,.int .i64 t29)] [.dead,.dead,.cells [.int .i64 0,.int .i64 0,.bool false] [],.cells [.int .i64 v,.int .i64 to,.bool m] [],.cells [.int .i64 m2,.int .i64 m3,.bool m4] []] []
def mQ(o:Bool×Bool):al:=be 65 [(2,.int .i64 v),(3,.int .i64 to),(5,.eptr (ae v2)),(8,.bptr 2 0),(10,.bptr 3 0),(11,.bool o.1),(20,sl aj t20),(21,.int .i64 t21),(22,.int .i64 t22)] [.dead,.dead,.cells [.int .i64 0,.int .i64 0,.bool false] [],.cells [.int .i64 v,.int .i64 to,.bool o.2] [],.cells [.int .i64 m2,.int .i64 m3,.bool m4] []] []
def mP:Option ((Bool×Int×Bool)⊕((Bool×Bool))):=
 if (decide (t29 < t28)) = true then
  (gz t27 t29).bind fun x4=>
  (kn v to m2 m3 x4.From x4.To).bind fun o8=>
  if o8=true then
   if m=true then
    some (.inl (true,b5 (t29+1),true))
   else
    if m4=true then
     some (.inl (true,b5 (t29+1),true))
    else
     some (.inl (true,b5 (t29+1),x4.Strict))
  else
   some (.inl (found,b5 (t29+1),m))
 else
  some (.inr (found,m))
def ko:Option ((Bool×Bool)):=loop (fun(zz:Bool×Int×Bool)=>mP v to t27 t28 m2 m3 m4 zz.1 zz.2.1 zz.2.2) (found,t29,m)
theorem tY{y:(Bool×Int×Bool)⊕((Bool×Bool))}(h:mP v to t27 t28 m2 m3 m4 found t29 m=some y):aE Pg GE 0 (cA DP 63455) (LQ (fun(zz:Bool×Int×Bool)=>dA v to v2 t20 t21 t22 t27 t28 m2 m3 m4 zz.1 zz.2.1 zz.2.2) (fun _=>.exit 2) (mQ v to v2 t20 t21 t22 m2 m3 m4) y) (dA v to v2 t20 t21 t22 t27 t28 m2 m3 m4 found t29 m):=by
 rcases aM h with⟨c3,h⟩|⟨c3,h⟩
 ·obtain⟨x4,bx4,h⟩:=av h
  obtain⟨o8,bo8,h⟩:=av h
  have p10:=fun{sc F} (r:PS sc F)=>sg 0 c3<|sv (cF.ia (k:=.i64) bx4)<|sv (dO x4)<|sx tk<|sx (eN x4)<|pH 0<|dG (vp v to v2 found t20 t21 t22 t27 t28 t29 m m2 m3 m4 x4.From x4.To x4.Strict bo8)<|r
  rcases aM h with⟨c9,h⟩|⟨c9,h⟩
  ·have p12:=fun{sc F} (r:PS sc F)=>p10<|sg 0 c9<|ss<|r
   rcases aM h with⟨c11,h⟩|⟨c11,h⟩
   ·obtain rfl:=lf h
    have z:=p12<|sg 3 c11<|ss<|pw 0 .normal (dA v to v2 t20 t21 t22 t27 t28 m2 m3 m4 true (b5 (t29+1)) true) rfl (cG (aI trivial (aI trivial (aI (dZ (af v2)) (aI (cQ rfl) (aI (cQ rfl) (aI trivial (aI (cQ rfl) (aI (up (aB au t20)) (aI trivial (aI trivial (aI (up (aB au t27)) (aI trivial (aI trivial trivial)))))))))))))) (aI trivial (aI trivial (aI (aI trivial (aI trivial (aI trivial trivial))) (aI (aI trivial (aI trivial (aI trivial trivial))) (aI (aI trivial (aI trivial (aI trivial trivial))) trivial)))))
    exact d6 (A:=Bb) mixed z<|by kernel_rfl
   ·have p14:=fun{sc F} (r:PS sc F)=>p12<|sg 3 c11<|ss<|r
    rcases aM h with⟨c13,h⟩|⟨c13,h⟩
    ·obtain rfl:=lf h
     have z:=p14<|sg 7 c13<|ss<|pw 0 .normal (dA v to v2 t20 t21 t22 t27 t28 m2 m3 m4 true (b5 (t29+1)) true) rfl (cG (aI trivial (aI trivial (aI (dZ (af v2)) (aI (cQ rfl) (aI (cQ rfl) (aI trivial (aI (cQ rfl) (aI (up (aB au t20)) (aI trivial (aI trivial (aI (up (aB au t27)) (aI trivial (aI trivial trivial)))))))))))))) (aI trivial (aI trivial (aI (aI trivial (aI trivial (aI trivial trivial))) (aI (aI trivial (aI trivial (aI trivial trivial))) (aI (aI trivial (aI trivial (aI trivial trivial))) trivial)))))
     exact d6 (A:=Bb) mixed z<|by kernel_rfl
    ·obtain rfl:=lf h
     have z:=p14<|sg 7 c13<|ss<|ss<|pw 0 .normal (dA v to v2 t20 t21 t22 t27 t28 m2 m3 m4 true (b5 (t29+1)) x4.Strict) rfl (cG (aI trivial (aI trivial (aI (dZ (af v2)) (aI (cQ rfl) (aI (cQ rfl) (aI trivial (aI (cQ rfl) (aI (up (aB au t20)) (aI trivial (aI trivial (aI (up (aB au t27)) (aI trivial (aI trivial trivial)))))))))))))) (aI trivial (aI trivial (aI (aI trivial (aI trivial (aI trivial trivial))) (aI (aI trivial (aI trivial (aI trivial trivial))) (aI (aI trivial (aI trivial (aI trivial trivial))) trivial)))))
     exact d6 (A:=Bb) mixed z<|by kernel_rfl
  ·obtain rfl:=lf h
   have z:=p10<|sg 0 c9<|pw 0 .normal (dA v to v2 t20 t21 t22 t27 t28 m2 m3 m4 found (b5 (t29+1)) m) rfl (cG (aI trivial (aI trivial (aI (dZ (af v2)) (aI (cQ rfl) (aI (cQ rfl) (aI trivial (aI (cQ rfl) (aI (up (aB au t20)) (aI trivial (aI trivial (aI (up (aB au t27)) (aI trivial (aI trivial trivial)))))))))))))) (aI trivial (aI trivial (aI (aI trivial (aI trivial (aI trivial trivial))) (aI (aI trivial (aI trivial (aI trivial trivial))) (aI (aI trivial (aI trivial (aI trivial trivial))) trivial)))))
   exact d6 (A:=Bb) mixed z<|by kernel_rfl
 ·obtain rfl:=lf h
  have z:=sg 0 c3<|eF (.exit 2) (mQ v to v2 t20 t21 t22 m2 m3 m4 (found,m))
  exact jK Bb (by intro hx;cases hx) z<|by kernel_rfl
theorem vw{x:(Bool×Bool)}(h:ko v to t27 t28 m2 m3 m4 found t29 m=some x):aE Pg GE 0 (.loop (cA DP 63455)) (EX (.exit 2) (mQ v to v2 t20 t21 t22 m2 m3 m4 x)) (dA v to v2 t20 t21 t22 t27 t28 m2 m3 m4 found t29 m):=
 aE.loop (S:=fun(zz:Bool×Int×Bool)=>dA v to v2 t20 t21 t22 t27 t28 m2 m3 m4 zz.1 zz.2.1 zz.2.2) (ex:=(fun _=>.exit 2)) (s:=(found,t29,m)) h fun zz y hy=>tY v to v2 t20 t21 t22 t27 t28 m2 m3 m4 zz.1 zz.2.1 zz.2.2 hy
end
section
variable(v:Int)(to:Int)(v2:aa)(t20:waA)(t21:Int)(found:Bool)(t22:Int)(m:Bool)
def ic:al:=be 65 [(2,.int .i64 v),(3,.int .i64 to),(5,.eptr (ae v2)),(8,.bptr 2 0),(10,.bptr 3 0),(11,.bool found),(20,sl aj t20),(21,.int .i64 t21),(22,.int .i64 t22)] [.dead,.dead,.cells [.int .i64 0,.int .i64 0,.bool false] [],.cells [.int .i64 v,.int .i64 to,.bool m] []] []
def mO(o:Bool×Bool):al:=be 65 [(8,.bptr 2 0),(10,.bptr 3 0),(11,.bool o.1)] [.dead,.dead,.cells [.int .i64 0,.int .i64 0,.bool false] [],.cells [.int .i64 v,.int .i64 to,.bool o.2] []] []
def mN:Option ((Bool×Int×Bool)⊕((Bool×Bool))):=
 if(decide (t22<t21))=true then
  (gz t20 t22).bind fun x2=>
  (ko v to v2.Arcs (v2.Arcs.length:Int) x2.From x2.To x2.Strict found 0 m).bind fun o15=>
  some (.inl (o15.1,b5 (t22+1),o15.2))
 else
  some (.inr (found,m))
def pK:Option ((Bool×Bool)):=loop (fun(zz:Bool×Int×Bool)=>mN v to v2 t20 t21 zz.1 zz.2.1 zz.2.2) (found,t22,m)
theorem tX{y:(Bool×Int×Bool)⊕((Bool×Bool))}(h:mN v to v2 t20 t21 found t22 m=some y):aE Pg GE 0 (cA DP 247) (LQ (fun(zz:Bool×Int×Bool)=>ic v to v2 t20 t21 zz.1 zz.2.1 zz.2.2) (fun _=>.exit 0) (mO v to) y) (ic v to v2 t20 t21 found t22 m):=by
 rcases aM h with⟨c1,h⟩|⟨c1,h⟩
 ·obtain⟨x2,bx2,h⟩:=av h
  obtain⟨o15,bo15,h⟩:=av h
  obtain rfl:=lf h
  have z:=sg 0 c1<|sv (cF.ia (k:=.i64) bx2)<|sv (dO x2)<|sx tk<|sx (eN x2)<|sv (aw v2)<|sv (ax v2)<|eP (cF.ln v2.Arcs)<|dG (vw v to v2 t20 t21 t22 v2.Arcs (v2.Arcs.length:Int) x2.From x2.To x2.Strict found 0 m bo15)<|pw 0 .normal (ic v to v2 t20 t21 o15.1 (b5 (t22+1)) o15.2) rfl (cG (aI trivial (aI trivial (aI (dZ (af v2)) (aI (cQ rfl) (aI (cQ rfl) (aI trivial (aI (up (aB au t20)) (aI trivial (aI trivial trivial)))))))))) (aI trivial (aI trivial (aI (aI trivial (aI trivial (aI trivial trivial))) (aI (aI trivial (aI trivial (aI trivial trivial))) trivial))))
  exact d6 (A:=Bb) mixed z<|by kernel_rfl
 ·obtain rfl:=lf h
  have z:=sg 0 c1<|eF (.exit 0) (mO v to (found,m))
  exact jK Bb (by intro hx;cases hx) z<|by kernel_rfl
theorem vq{x:(Bool×Bool)}(h:pK v to v2 t20 t21 found t22 m=some x):aE Pg GE 0 (.loop (cA DP 247)) (EX (.exit 0) (mO v to x)) (ic v to v2 t20 t21 found t22 m):=
 aE.loop (S:=fun(zz:Bool×Int×Bool)=>ic v to v2 t20 t21 zz.1 zz.2.1 zz.2.2) (ex:=(fun _=>.exit 0)) (s:=(found,t22,m)) h fun zz y hy=>tX v to v2 t20 t21 zz.1 zz.2.1 zz.2.2 hy
end
def tp(a:aa)(a2:aa)(a3:Int)(to:Int):Option (ah×Bool):=
 (pK a3 to a2 a.Arcs (a.Arcs.length:Int) false 0 false).bind fun o16=>
 some ((⟨a3,to,o16.2⟩:ah),o16.1)
theorem y3{a:aa}{a2:aa}{a3:Int}{to:Int}{r:ah×Bool}(h:tp a a2 a3 to=some r):CC Pg GE 35 [.agg (ae a),.agg (ae a2),.int .i64 a3,.int .i64 to] (.tuple [.agg (aj r.1),.bool r.2]) []:=by
 obtain⟨o16,bo16,h⟩:=av h
 obtain rfl:=lf h
 have z:=se (bq a)<|se (bq a2)<|sx tk<|sv (ya a3 to)<|sx tk<|sx (eN (⟨a3,to,false⟩:ah))<|sv (aw a)<|sv (ax a)<|eP (cF.ln a.Arcs)<|dG (vq a3 to a2 a.Arcs (a.Arcs.length:Int) false 0 false bo16)<|sv (mf (⟨a3,to,o16.2⟩:ah) [])<|sx (eN (⟨a3,to,o16.2⟩:ah))<|en (aI (vbb PVal.tuple (iv (B9 (⟨a3,to,o16.2⟩:ah)) (iv (rP (.bool o16.1)) (rfl:([]:List PVal)=[]))))<|(aI (au (⟨a3,to,o16.2⟩:ah)) (aI trivial trivial)))
 exact bC Bb call35 func35 (c:=DP) rfl (aI (af a) (aI (af a2) (aI trivial (aI trivial trivial)))) z<|by kernel_rfl
noncomputable def CT:Code:=f18.body.getD .skip
def Ch:List Nat:=[18,24,38,41,52]
section
variable(v:aa)(v2:aa)(v3:Int)(m:waA)(m2:ag)(m3:ag)(t39:Int)(m4:waA)
def cT:al:=be 60 [(2,.eptr (ae v)),(3,.eptr (ae v2)),(4,.bptr 2 0),(8,.bptr 3 0),(9,.int .i64 v3),(36,.int .i64 v3),(39,.int .i64 t39)] [.dead,.dead,.cells [.str ([]:ag),.str ([]:ag),sl aj m] [(2,43)],.cells [.str m2,.str m3,sl aj m4] [(2,43)]] []
def iO(o:waA):al:=be 60 [(2,.eptr (ae v)),(3,.eptr (ae v2)),(4,.bptr 2 0),(8,.bptr 3 0),(36,.int .i64 v3)] [.dead,.dead,.cells [.str ([]:ag),.str ([]:ag),sl aj m] [(2,43)],.cells [.str m2,.str m3,sl aj o] [(2,43)]] []
def dX:Option ((Int×waA)⊕(waA)):=
 if(decide (t39<6))=true then
  (tp v v2 v3 t39).bind fun r11=>
  if r11.2=true then
   (app m4 ([r11.1]:List ah)).bind fun l14=>
   some (.inl (b5 (t39+1),l14))
  else
   some (.inl (b5 (t39+1),m4))
 else
  some (.inr m4)
def nX:Option waA:=loop (fun(zz:Int×waA)=>dX v v2 v3 zz.1 zz.2) (t39,m4)
theorem pJ{y:(Int×waA)⊕(waA)}(h:dX v v2 v3 t39 m4=some y):aE Pg GE 0 (cA CT 260063) (LQ (fun(zz:Int×waA)=>cT v v2 v3 m m2 m3 zz.1 zz.2) (fun _=>.exit 2) (iO v v2 v3 m m2 m3) y) (cT v v2 v3 m m2 m3 t39 m4):=by
 rcases aM h with⟨c10,h⟩|⟨c10,h⟩
 ·obtain⟨r11,br11,h⟩:=av h
  have p13:=fun{sc F} (r:PS sc F)=>sg 0 c10<|sv (aV v)<|sv (aV v2)<|co (y3 br11)<|sx tk<|sx (eN r11.1)<|r
  rcases aM h with⟨c12,h⟩|⟨c12,h⟩
  ·obtain⟨l14,bl14,h⟩:=av h
   obtain rfl:=lf h
   have z:=p13<|sg 0 c12<|sv (mf r11.1 [])<|sv (cF.mk' (v:=xF) uJ ([r11.1]:List ah) 1 (by kernel_rfl))<|sv (cF.ap bl14)<|pw 0 .normal (cT v v2 v3 m m2 m3 (b5 (t39+1)) l14) rfl (cG (aI (dZ (af v)) (aI (dZ (af v2)) (aI (cQ rfl) (aI (cQ rfl) (aI trivial (aI trivial (aI trivial trivial)))))))) (aI trivial (aI trivial (aI (aI trivial (aI trivial (aI (up (aB au m)) trivial))) (aI (aI trivial (aI trivial (aI (up (aB au l14)) trivial))) trivial))))
   exact d6 (A:=Ch) mixed z<|by kernel_rfl
  ·obtain rfl:=lf h
   have z:=p13<|sg 0 c12<|pw 0 .normal (cT v v2 v3 m m2 m3 (b5 (t39+1)) m4) rfl (cG (aI (dZ (af v)) (aI (dZ (af v2)) (aI (cQ rfl) (aI (cQ rfl) (aI trivial (aI trivial (aI trivial trivial)))))))) (aI trivial (aI trivial (aI (aI trivial (aI trivial (aI (up (aB au m)) trivial))) (aI (aI trivial (aI trivial (aI (up (aB au m4)) trivial))) trivial))))
   exact d6 (A:=Ch) mixed z<|by kernel_rfl
 ·obtain rfl:=lf h
  have z:=sg 0 c10<|eF (.exit 2) (iO v v2 v3 m m2 m3 m4)
  exact jK Ch (by intro hx;cases hx) z<|by kernel_rfl
theorem qn{x:waA}(h:nX v v2 v3 t39 m4=some x):aE Pg GE 0 (.loop (cA CT 260063)) (EX (.exit 2) (iO v v2 v3 m m2 m3 x)) (cT v v2 v3 m m2 m3 t39 m4):=
 aE.loop (S:=fun(zz:Int×waA)=>cT v v2 v3 m m2 m3 zz.1 zz.2) (ex:=(fun _=>.exit 2)) (s:=(t39,m4)) h fun zz y hy=>pJ v v2 v3 m m2 m3 zz.1 zz.2 hy
end
section
variable(v:aa)(v2:aa)(m:waA)(m2:ag)(m3:ag)(t36:Int)(m4:waA)
def dV:al:=be 60 [(2,.eptr (ae v)),(3,.eptr (ae v2)),(4,.bptr 2 0),(8,.bptr 3 0),(36,.int .i64 t36)] [.dead,.dead,.cells [.str ([]:ag),.str ([]:ag),sl aj m] [(2,43)],.cells [.str m2,.str m3,sl aj m4] [(2,43)]] []
def iN(o:waA):al:=be 60 [(4,.bptr 2 0),(8,.bptr 3 0)] [.dead,.dead,.cells [.str ([]:ag),.str ([]:ag),sl aj m] [(2,43)],.cells [.str m2,.str m3,sl aj o] [(2,43)]] []
def dW:Option ((Int×waA)⊕(waA)):=
 if(decide (t36<6))=true then
  (nX v v2 t36 0 m4).bind fun o15=>
  some (.inl (b5 (t36+1),o15))
 else
  some (.inr m4)
def ki:Option waA:=loop (fun(zz:Int×waA)=>dW v v2 zz.1 zz.2) (t36,m4)
theorem pI{y:(Int×waA)⊕(waA)}(h:dW v v2 t36 m4=some y):aE Pg GE 0 (cA CT 1015) (LQ (fun(zz:Int×waA)=>dV v v2 m m2 m3 zz.1 zz.2) (fun _=>.exit 0) (iN m m2 m3) y) (dV v v2 m m2 m3 t36 m4):=by
 rcases aM h with⟨c9,h⟩|⟨c9,h⟩
 ·obtain⟨o15,bo15,h⟩:=av h
  obtain rfl:=lf h
  exact rf Ch (sg 0 c9<|dG (qn v v2 t36 m m2 m3 0 m4 bo15)<|eF .normal (dV v v2 m m2 m3 (b5 (t36+1)) o15))<|by kernel_rfl
 ·obtain rfl:=lf h
  have z:=sg 0 c9<|eF (.exit 0) (iN m m2 m3 m4)
  exact jK Ch (by intro hx;cases hx) z<|by kernel_rfl
theorem qm{x:waA}(h:ki v v2 t36 m4=some x):aE Pg GE 0 (.loop (cA CT 1015)) (EX (.exit 0) (iN m m2 m3 x)) (dV v v2 m m2 m3 t36 m4):=
 aE.loop (S:=fun(zz:Int×waA)=>dV v v2 m m2 m3 zz.1 zz.2) (ex:=(fun _=>.exit 0)) (s:=(t36,m4)) h fun zz y hy=>pI v v2 m m2 m3 zz.1 zz.2 hy
end
def lp(a:aa)(a2:aa):Option (aa×Int):=
 (ma a).bind fun r1=>
 if(r1 !=0)=true then
  some ((⟨([]:ag),([]:ag),([]:List ah)⟩:aa),r1)
 else
  (ma a2).bind fun r4=>
  if(r4 !=0)=true then
   some ((⟨([]:ag),([]:ag),([]:List ah)⟩:aa),r4)
  else
   if(!(a.Callee==a2.Caller))=true then
    some ((⟨([]:ag),([]:ag),([]:List ah)⟩:aa),6)
   else
    (ki a a2 0 ([]:List ah)).bind fun o16=>
    some ((⟨a.Caller,a2.Callee,o16⟩:aa),0)
theorem tR{a:aa}{a2:aa}{r:aa×Int}(h:lp a a2=some r):CC Pg GE 18 [.agg (ae a),.agg (ae a2)] (.tuple [.agg (ae r.1),.int .i64 r.2]) []:=by
 obtain⟨r1,br1,h⟩:=av h
 have p3:=fun{sc F} (r:PS sc F)=>se (bq a)<|se (bq a2)<|sx qY<|sv (aV a)<|co (qp br1)<|r
 rcases aM h with⟨c2,h⟩|⟨c2,h⟩
 ·obtain rfl:=lf h
  have z:=p3<|sg 0 c2<|sb (gP) (gO)<|sy (bo (⟨([]:ag),([]:ag),([]:List ah)⟩:aa))<|en (aI (vbb PVal.tuple (iv (dL (⟨([]:ag),([]:ag),([]:List ah)⟩:aa)) (iv (rP (.int .i64 r1)) (rfl:([]:List PVal)=[]))))<|(aI (af (⟨([]:ag),([]:ag),([]:List ah)⟩:aa)) (aI trivial trivial)))
  exact bC Ch call18 func18 (c:=CT) rfl (aI (af a) (aI (af a2) trivial)) z<|by kernel_rfl
 ·obtain⟨r4,br4,h⟩:=av h
  have p6:=fun{sc F} (r:PS sc F)=>p3<|sg 0 c2<|sv (aV a2)<|co (qp br4)<|r
  rcases aM h with⟨c5,h⟩|⟨c5,h⟩
  ·obtain rfl:=lf h
   have z:=p6<|sg 0 c5<|sb (gP) (gO)<|sy (bo (⟨([]:ag),([]:ag),([]:List ah)⟩:aa))<|en (aI (vbb PVal.tuple (iv (dL (⟨([]:ag),([]:ag),([]:List ah)⟩:aa)) (iv (rP (.int .i64 r4)) (rfl:([]:List PVal)=[]))))<|(aI (af (⟨([]:ag),([]:ag),([]:List ah)⟩:aa)) (aI trivial trivial)))
   exact bC Ch call18 func18 (c:=CT) rfl (aI (af a) (aI (af a2) trivial)) z<|by kernel_rfl
  ·have p8:=fun{sc F} (r:PS sc F)=>p6<|sg 0 c5<|sv (aQ a)<|sv (aU a)<|sv (aO a2)<|sv (aT a2)<|r
   rcases aM h with⟨c7,h⟩|⟨c7,h⟩
   ·obtain rfl:=lf h
    have z:=p8<|sg 0 c7<|sb (gP) (gO)<|sy (bo (⟨([]:ag),([]:ag),([]:List ah)⟩:aa))<|en (aI (vbb PVal.tuple (iv (dL (⟨([]:ag),([]:ag),([]:List ah)⟩:aa)) (iv (rP (.int .i64 6)) (rfl:([]:List PVal)=[]))))<|(aI (af (⟨([]:ag),([]:ag),([]:List ah)⟩:aa)) (aI trivial trivial)))
    exact bC Ch call18 func18 (c:=CT) rfl (aI (af a) (aI (af a2) trivial)) z<|by kernel_rfl
   ·obtain⟨o16,bo16,h⟩:=av h
    obtain rfl:=lf h
    have z:=p8<|sg 0 c7<|sv (aO a)<|sv (aT a)<|sv (aQ a2)<|sv (aU a2)<|sb (lK a.Caller a2.Callee) (lJ a.Caller a2.Callee)<|sx qY<|sy (bo (⟨a.Caller,a2.Callee,([]:List ah)⟩:aa))<|dG (qm a a2 ([]:List ah) a.Caller a2.Callee 0 ([]:List ah) bo16)<|sz (bK (⟨a.Caller,a2.Callee,o16⟩:aa) [])<|sy (bo (⟨a.Caller,a2.Callee,o16⟩:aa))<|en (aI (vbb PVal.tuple (iv (dL (⟨a.Caller,a2.Callee,o16⟩:aa)) (iv (rP (.int .i64 0)) (rfl:([]:List PVal)=[]))))<|(aI (af (⟨a.Caller,a2.Callee,o16⟩:aa)) (aI trivial trivial)))
    exact bC Ch call18 func18 (c:=CT) rfl (aI (af a) (aI (af a2) trivial)) z<|by kernel_rfl
noncomputable def b4:Code:=Tryd.f4.body.getD .skip
def A4:List Nat:=[]
def ey(g:aa)(a:aa):Option Bool:=
 (tq 2 ([g,a]:List aa)).bind fun r1=>
 if(!r1)=true then
  oU.bind fun r4=>
  some r4
 else
  (df g a).bind fun r5=>
  (lp g a).bind fun r6=>
  (qo r5.1 r6.1).bind fun r7=>
  if r7=true then
   if(r5.2==r6.2)=true then
    oU.bind fun r12=>
    some r12
   else
    some false
  else
   some false
theorem kT{g:aa}{a:aa}{r:Bool}(h:ey g a=some r):CC Pg GE 4 [.agg (ae g),.agg (ae a)] (.bool r) []:=by
 obtain⟨r1,br1,h⟩:=av h
 have p3:=fun{sc F} (r:PS sc F)=>se (bq g)<|se (bq a)<|sv (aV g)<|sv (aV a)<|sv (gq.mk' (v:=mJ) kB ([g,a]:List aa) 2 (by kernel_rfl))<|co (y4 br1)<|r
 rcases aM h with⟨c2,h⟩|⟨c2,h⟩
 ·obtain⟨r4,br4,h⟩:=av h
  obtain rfl:=lf h
  have z:=p3<|sg 0 c2<|co (qq br4)<|en (aI (rP (.bool r4))<|trivial)
  exact bC A4 call4 func4 (c:=b4) rfl (aI (af g) (aI (af a) trivial)) z<|by kernel_rfl
 ·obtain⟨r5,br5,h⟩:=av h
  obtain⟨r6,br6,h⟩:=av h
  obtain⟨r7,br7,h⟩:=av h
  have p9:=fun{sc F} (r:PS sc F)=>p3<|sg 0 c2<|sv (aV g)<|sv (aV a)<|co (iI br5)<|sx qY<|sx (fF r5.1)<|sv (aV g)<|sv (aV a)<|co (tR br6)<|sx qY<|sx (fF r6.1)<|sv (bK r5.1 [])<|sv (bK r6.1 [])<|co (xT br7)<|r
  rcases aM h with⟨c8,h⟩|⟨c8,h⟩
  ·have p11:=fun{sc F} (r:PS sc F)=>p9<|sg 4 c8<|r
   rcases aM h with⟨c10,h⟩|⟨c10,h⟩
   ·obtain⟨r12,br12,h⟩:=av h
    obtain rfl:=lf h
    have z:=p11<|sg 9 c10<|co (qq br12)<|en (aI (rP (.bool r12))<|trivial)
    exact bC A4 call4 func4 (c:=b4) rfl (aI (af g) (aI (af a) trivial)) z<|by kernel_rfl
   ·obtain rfl:=lf h
    have z:=p11<|sg 9 c10<|en (aI (rP (.bool false))<|trivial)
    exact bC A4 call4 func4 (c:=b4) rfl (aI (af g) (aI (af a) trivial)) z<|by kernel_rfl
  ·obtain rfl:=lf h
   have z:=p9<|sg 4 c8<|en (aI (rP (.bool false))<|trivial)
   exact bC A4 call4 func4 (c:=b4) rfl (aI (af g) (aI (af a) trivial)) z<|by kernel_rfl
open Go
set_option linter.unusedSimpArgs false
def zY(l:List ag)(s:ag):Int:=match l.findIdx? (fun x=>x==s)with|some j=>(j:Int)|none=>-1
theorem xO(l:List ag)(s:ag)(hl:l.length<9223372036854775808):qj l s=some (zY l s):=by
 unfold qj nU
 have:=ws l hl (fun zz=>gd l s l.length zz) (fun x=>x==s) (fun j=>Sum.inl (j:Int)) (Sum.inr ()) (fun i h=>by
  simp only[gd]
  rw[vas (by simp;omega),ja _ i h]
  simp only[vab]
  split<;>simp_all) (by simp only[gd];rw[vav (by simp)])
 rw[this]
 unfold zY
 cases l.findIdx? (fun x=>x==s)<;>rfl
theorem w5(l:List ag)(s:ag):decide (zY l s>=0)=l.any fun k=>k==s:=by
 unfold zY
 cases h:l.findIdx? (fun x=>x==s)with
 |none=>
  rw[vb8]at h
  symm
  simp only[vbk]
  rw[show decide ((-1:Int)>=0)=false from rfl]
  simp only[vbk,Bool.not_eq_true]
  exact h
 | some j =>
  have h2:l.any (fun x=>x==s)=true:=by
   have:=List.findIdx?_isSome (xs:=l) (p:=fun x=>x==s)
   rw[h]at this
   exact this.symm
  rw[h2]
  simp
def bh(c:Int):Bool:=decide (97<=c)&&decide (c<=122)
def ks(c:Int):Bool:=decide (65<=c)&&decide (c<=90)
def pA(c:Int):Bool:=decide (48<=c)&&decide (c<=57)
theorem il(c:Int):fE c=some (bh c):=by unfold fE bh;split<;>simp_all<;>omega
theorem mm(c:Int):gp c=some (ks c):=by unfold gp ks;split<;>simp_all<;>omega
theorem kw(c:Int):gR c=some (pA c):=by unfold gR pA;split<;>simp_all<;>omega
theorem fM(c:Int):fL c=some (bh c):=by unfold fL bh;split<;>simp_all<;>omega
theorem kf(c:Int):gM c=some (ks c):=by unfold gM ks;split<;>simp_all<;>omega
theorem jX(c:Int):iM c=some (pA c):=by unfold iM pA;split<;>simp_all<;>omega
def ew(b:UInt8):Bool:=bh b.toNat||pA b.toNat||(b.toNat:Int)==95
def dt(b:UInt8):Bool:=bh b.toNat||ks b.toNat||pA b.toNat
def fK(s:ag):Bool:=decide ((s.length:Int)>=1)&&decide ((s.length:Int)<=24)
def CZ(s:ag):Bool:=aX.any fun k=>k==s
def iw(p:Int->Bool)(s:ag):Bool:=match s with|[]=>false|c::_=>p c.toNat
abbrev xH(s:ag):Prop:=s.length<9223372036854775808
theorem kz(s:ag):gS s=some (fK s):=by
 unfold gS fK
 by_cases h:(s.length:Int)>=1
 ·rw[vas (decide_eq_true h),decide_eq_true h];rfl
 ·rw[vav (by simpa using h),decide_eq_false h];rfl
theorem rD(s:ag):jd s=some (CZ s):=by
 unfold jd iT
 have h42:aX.length=42:=rfl
 have:=jt aX (by rw[h42];omega) (fun zz=>cZ s zz) (fun k=>k==s) (Sum.inl ()) (Sum.inr ()) (fun i h=>by
  rw[h42]at h
  simp only[cZ]
  rw[vas (by simp;omega),ja _ i (by rw[h42];omega)]
  simp only[vab]
  split<;>simp_all) (by simp only[cZ];rw[vav (by rw[h42];simp)]) 0 (vaF _)
 simp only[Int.ofNat_zero,va9]at this
 rw[this]
 unfold CZ
 cases aX.any (fun k=>k==s)<;>rfl
theorem sV:mL=some aX:=rfl
theorem tI(s:ag):lk s=some (CZ s):=by
 unfold lk
 have h42:aX.length=42:=rfl
 rw[sV]
 simp only[vab]
 rw[xO _ _ (by rw[h42];omega)]
 simp only[vab,w5]
 rfl
def iR(s:ag):Bool:=fK s&&iw bh s&&!CZ s&&s.all ew
def fS(s:ag):Bool:=fK s&&iw ks s&&s.all dt&&!(s==[73,110,116])&&!(s==[66,111,111,108])&&!(s==[67,101,108,108])&&!(s==[70,117,110])
def oq(b:Bool):Int:=if b then 0 else 3
theorem sa{s:ag}(h:fK s=true):∃c r,s=c::r:=by
 cases s with
 |nil=>simp[fK]at h
 |cons c r=>exact⟨c,r,rfl⟩
theorem rI(s:ag)(i:Nat)(h:i<s.length):jf s i=some (!ew s[i]):=by
 unfold jf ew
 simp only[gm s i h,vab,il,kw]
 cases bh (s[i].toNat:Int)<;>cases pA (s[i].toNat:Int)<;>simp[bne]
theorem sL(s:ag)(i:Nat)(h:i<s.length):jS s i=some (!ew s[i]):=by
 unfold jS ew
 simp only[gm s i h,vab,fM,jX]
 cases bh (s[i].toNat:Int)<;>cases pA (s[i].toNat:Int)<;>simp[bne]
theorem rK(s:ag)(hs:xH s)(i:Nat)(hi:i<=s.length):jh s i=some (if(s.drop i).any (fun b=>!ew b)=true then .inl ()else .inr ()):=by
 unfold jh
 refine jt s hs _ (fun b=>!ew b) _ _ (fun j h=>?_) ?_ i hi
 ·simp only[gE]
  rw[vas (by simp;omega),rI s j h]
  simp only[vab]
  split<;>simp_all
 ·simp only[gE];rw[vav (by simp)]
theorem sN(s:ag)(hs:xH s):jT s s.length 0=some (if s.any (fun b=>!ew b)=true then .inl ()else .inr ()):=by
 unfold jT
 have:=jt s hs (fun zz=>fg s s.length zz) (fun b=>!ew b) (.inl ()) (.inr ()) (fun j h=>by
  simp only[fg]
  rw[vas (by simp;omega),sL s j h]
  simp only[vab]
  split<;>simp_all) (by simp only[fg];rw[vav (by simp)]) 0 (vaF _)
 simpa using this
theorem wE{b:UInt8}(h:bh b.toNat=true):ew b=true:=by simp[ew,h]
theorem rG(s:ag):je s=some (!(fK s&&iw bh s&&!CZ s)):=by
 unfold je
 rw[kz]
 simp only[vab]
 by_cases h:fK s=true
 ·obtain⟨c,r,rfl⟩:=sa h
  simp only[h,me,vab,il,rD,iw]
  cases bh (c.toNat:Int)<;>simp
 ·simp[h]
theorem vT(s:ag)(hs:xH s):m9 s=some (iR s):=by
 unfold m9 iR
 rw[rG]
 simp only[vab]
 by_cases h:(fK s&&iw bh s&&!CZ s)=true
 ·have hs1:fK s=true:=by revert h;cases fK s<;>simp
  obtain⟨c,r,rfl⟩:=sa hs1
  have hc:bh (c.toNat:Int)=true:=by revert h;simp[iw];intro _ h _;exact h
  have hL:=rK (c::r) hs 1 (by simp)
  simp only[Int.ofNat_one]at hL
  rw[h,hL]
  simp only[List.drop_succ_cons,va9,List.all_cons,wE hc,vbh]
  rw[vbd]
  simp only[vbR]
  cases r.all ew<;>simp
 ·simp[h]
theorem sJ(s:ag):jR s=some (!(fK s&&iw bh s&&!CZ s)):=by
 unfold jR fK
 cases s with
 |nil=>simp
 | cons c r =>
  have h1:¬(((c::r).length:Int)<1):=by simp;omega
  have h2:(((c::r).length:Int)>=1):=by omega
  simp only[h1,h2,decide_false,decide_true,vbh,vaw,if_false,me,vab,fM,tI,iw]
  by_cases h:(((c::r).length:Int)>24)
  ·have h':¬(((c::r).length:Int)<=24):=by omega
   simp only[h,h',decide_true,decide_false,if_true]
   simp
  ·have h':(((c::r).length:Int)<=24):=by omega
   simp only[h,h',decide_true,decide_false,if_false,vaw]
   cases bh (c.toNat:Int)<;>simp
theorem wK(s:ag)(hs:xH s):oR s=some (oq (iR s)):=by
 unfold oR
 rw[sJ,sN s hs]
 unfold iR oq
 cases(fK s&&iw bh s&&!CZ s)with
 |false=>simp
 |true=>
  simp only[vab,vcf,vaw,if_false,vbh]
  rw[vbd]
  simp only[vbR]
  cases s.all ew<;>simp
theorem lM(s:ag)(i:Nat)(h:i<s.length):di s i=some (!dt s[i]):=by
 unfold di dt
 simp only[gm s i h,vab,il,mm,kw]
 cases bh (s[i].toNat:Int)<;>cases ks (s[i].toNat:Int)<;>simp
theorem sS(s:ag)(i:Nat)(h:i<s.length):jV s i=some (!dt s[i]):=by
 unfold jV dt
 simp only[gm s i h,vab,fM,kf,jX]
 cases bh (s[i].toNat:Int)<;>cases ks (s[i].toNat:Int)<;>simp
theorem iy(s:ag)(hs:xH s):db s=some (s.all dt):=by
 unfold db eV
 have:=jt s hs (fun zz=>bO s zz) (fun b=>!dt b) (.inl ()) (.inr ()) (fun j h=>by
  simp only[bO]
  rw[vas (by simp;omega),lM s j h]
  simp only[vab]
  split<;>simp_all) (by simp only[bO];rw[vav (by simp)]) 0 (vaF _)
 simp only[Int.ofNat_zero,va9]at this
 rw[this,vbd]
 simp only[vbR]
 cases s.all dt<;>rfl
theorem qO(s:ag)(hs:xH s):io s=some (!(fK s&&iw ks s&&s.all dt)):=by
 unfold io
 rw[kz]
 simp only[vab]
 by_cases h:fK s=true
 ·obtain⟨c,r,rfl⟩:=sa h
  simp only[h,me,vab,mm,iy _ hs,iw]
  cases ks (c.toNat:Int)<;>simp
 ·simp[h]
theorem uE(s:ag)(hs:xH s):ly s=some (fS s):=by
 unfold ly fS
 rw[qO s hs]
 simp only[vab]
 cases(fK s&&iw ks s&&s.all dt)<;>cases(s==[73,110,116])<;>cases(s==[66,111,111,108])<;>cases(s==[67,101,108,108])<;>cases(s==[70,117,110])<;>rfl
theorem sQ(s:ag):jU s=some (!(fK s&&iw ks s&&!(s==[73,110,116])&&!(s==[66,111,111,108])&&!(s==[67,101,108,108])&&!(s==[70,117,110]))):=by
 unfold jU fK
 cases s with
 |nil=>simp
 | cons c r =>
  have h1:¬(((c::r).length:Int)<1):=by simp;omega
  have h2:(((c::r).length:Int)>=1):=by omega
  simp only[h1,h2,decide_false,decide_true,vbh,vaw,if_false,me,vab,kf,iw]
  by_cases h:(((c::r).length:Int)>24)
  ·have h':¬(((c::r).length:Int)<=24):=by omega
   simp only[h,h',decide_true,decide_false,if_true]
   simp
  ·have h':(((c::r).length:Int)<=24):=by omega
   simp only[h,h',decide_true,decide_false,if_false,vaw]
   cases ks (c.toNat:Int)<;>cases(c::r==[73,110,116])<;>cases(c::r==[66,111,111,108])<;>cases(c::r==[67,101,108,108])<;>cases(c::r==[70,117,110])<;>rfl
theorem sU(s:ag)(hs:xH s):jW s s.length 0=some (if s.any (fun b=>!dt b)=true then .inl ()else .inr ()):=by
 unfold jW
 have:=jt s hs (fun zz=>fj s s.length zz) (fun b=>!dt b) (.inl ()) (.inr ()) (fun j h=>by
  simp only[fj]
  rw[vas (by simp;omega),sS s j h]
  simp only[vab]
  split<;>simp_all) (by simp only[fj];rw[vav (by simp)]) 0 (vaF _)
 simpa using this
theorem wM(s:ag)(hs:xH s):oS s=some (oq (fS s)):=by
 unfold oS
 rw[sQ,sU s hs]
 unfold fS oq
 rw[vbd]
 simp only[vbR]
 cases(fK s&&iw ks s)<;>cases s.all dt<;>cases(s==[73,110,116])<;>cases(s==[66,111,111,108])<;>cases(s==[67,101,108,108])<;>cases(s==[70,117,110])<;>rfl
theorem Bv(b:UInt8):((b.toNat:Int)==46)=(b==46):=by
 rw[vbC]
 simp only[vaH]
 constructor
 ·intro h
  have:b.toNat=46:=by omega
  exact UInt8.toNat_inj.1 this
 ·rintro rfl;rfl
def fQ:ag->List ag
 |[]=>[[]]
 |c::r=>if(c==46)=true then[]::fQ r else match fQ r with
  |[]=>[[c]]
  |h::t=>(c::h)::t
def qW(p:ag):List ag->List ag
 |[]=>[p]
 |h::t=>(p++h)::t
theorem oY:∀(s:ag),fQ s≠[]
 |[]=>by simp[fQ]
 | c :: r => by
  unfold fQ
  split
  ·simp
  ·split<;>simp
theorem rr(c:UInt8)(r:ag)(h:¬(c==46)=true):fQ (c::r)=qW [c] (fQ r):=by
 conv=>lhs;unfold fQ
 rw[vav h]
 cases fQ r<;>rfl
theorem wA(p q:ag)(l:List ag):qW p (qW q l)=qW (p++q) l:=by cases l<;>simp[qW]
theorem uT{l:List ag}(h:l≠[]):qW [] l=l:=by cases l with
 |nil=>exact absurd rfl h
 |cons=>rfl
theorem uf:∀(p s:ag),p.all (fun c=>!(c==46))=true->fQ (p++s)=qW p (fQ s)
 |[],s,_=>(uT (oY s)).symm
 |c::p,s,h=>by
  rw[List.all_cons,vac]at h
  rw[vcj,rr _ _ (by simpa using h.1),uf p s h.2,wA]
  rfl
theorem ug:∀(s:ag),(fQ s).length<=s.length+1/\∀x∈fQ s,x.length<=s.length
 |[]=>by simp[fQ]
 | c :: r => by
  obtain⟨h1,h2⟩:=ug r
  by_cases h:(c==46)=true
  ·unfold fQ
   rw[vas h]
   refine⟨by simp;omega,fun x hx=>?_⟩
   rw[vaE]at hx
   rcases hx with rfl|hx
   ·simp
   ·have:=h2 x hx;simp;omega
  ·rw[rr c r h]
   cases hd:fQ r with
   |nil=>exact absurd hd (oY r)
   | cons a t =>
    rw[hd]at h1 h2
    refine⟨by simpa[qW]using Nat.le_succ_of_le h1,fun x hx=>?_⟩
    simp only[qW,vaE]at hx
    rcases hx with rfl|hx
    ·have:=h2 a (by simp);simp;omega
    ·have:=h2 x (by simp[hx]);simp;omega
def fX(s:ag):ag×ag×Bool:=match s.findIdx? (fun c=>c==46)with
 |some j=>(s.take j,s.drop (j+1),true)
 |none=>(s,[],false)
theorem qK(s:ag)(hs:xH s):mo s=some (fX s):=by
 unfold mo m8
 have:=ws s hs (fun zz=>fC s zz) (fun c=>c==46) (fun j=>Sum.inl (s.take j,s.drop (j+1))) (Sum.inr ()) (fun i h=>by
  simp only[fC]
  rw[vas (by simp;omega),gm s i h]
  simp only[vab,Bv]
  by_cases hd:(s[i]==46)=true
  ·rw[vas hd,vas hd,Cb s i (by omega)]
   have hs':s.length<9223372036854775808:=hs
   have e:b5 ((i:Int)+1)=((i+1:Nat):Int):=by rw[kQ (by omega) (by omega)];omega
   rw[e]
   simp only[vab,u3 s (i+1) (by omega)]
  ·rw[vav hd,vav hd]) (by simp only[fC];rw[vav (by simp)])
 rw[this]
 unfold fX
 cases s.findIdx? (fun c=>c==46)<;>rfl
theorem yh(s:ag):fQ s=if(fX s).2.2=true then(fX s).1::fQ (fX s).2.1 else[(fX s).1]:=by
 unfold fX
 cases h:s.findIdx? (fun c=>c==46)with
 |none=>
  rw[vb8]at h
  have:=uf s [] (by simp only[vao,vaK];exact h)
  rw[vbp]at this
  simp only[vaw,if_false]
  rw[this]
  simp[fQ,qW]
 | some j =>
  rw[vbK]at h
  obtain⟨hj,h1,h2⟩:=h
  have e:s=s.take j++s[j]::s.drop (j+1):=by
   conv=>lhs;rw[<-vco j s]
   rw[va3 hj]
  have:=uf (s.take j) (s[j]::s.drop (j+1)) (by
   simp only[vao,vaK]
   intro x hx
   obtain⟨i,hi,rfl⟩:=List.getElem_of_mem hx
   rw[List.getElem_take]
   have hi':i<j:=by simp at hi;omega
   simpa using h2 i hi')
  rw[<-e]at this
  simp only[if_true]
  rw[this]
  conv=>lhs;arg 2;unfold fQ
  rw[vas h1]
  simp[qW]
theorem yg(s:ag):(fX s).1.length<=s.length/\(fX s).2.1.length<=s.length/\((fX s).2.2=true->(fX s).2.1.length<s.length):=by
 unfold fX
 cases h:s.findIdx? (fun c=>c==46)with
 |none=>simp
 |some j=>
  rw[vbK]at h
  obtain⟨hj,_⟩:=h
  simp
  omega
def Aq(p:ag):Bool:=(p.isEmpty||iw bh p)&&p.all ew
def gI(p:ag):Bool:=fK p&&(p.all dt||Aq p)
theorem wC{α X:Type}(p:Nat->α->Bool)(q:α->Bool)(y e:X)(k:Nat)(h:∀i x,k<=i->p i x=q x):∀(l:List α) (i:Nat),k<=i->jy (fun i x (_:Unit)=>if p i x=true then Sum.inr y else .inl ()) (fun _=>e) l i ()=if l.any q=true then y else e
 |[],i,_=>by simp[jy]
 | x :: l,i,hk => by
  have ih:=wC p q y e k h l (i+1) (by omega)
  unfold jy
  rw[h i x hk]
  by_cases hq:q x=true
  ·simp[hq]
  ·simp only[hq,if_false,ih,List.any_cons,vce,vaw]
theorem rO(s:ag)(i:Nat)(h:i<s.length):ji s i=some (if i=0 then !bh s[i].toNat else !ew s[i]):=by
 unfold ji ew
 simp only[gm s i h,vab,il,kw]
 by_cases h0:i=0
 ·subst h0
  cases bh ((s[0]).toNat:Int)<;>simp
 ·have:((i:Int)==0)=false:=by simp;omega
  simp only[this,vav h0]
  cases bh (s[i].toNat:Int)<;>cases pA (s[i].toNat:Int)<;>simp[bne]
theorem vU(s:ag)(hs:xH s):na s=some (Aq s):=by
 unfold na lO
 have:=mg s hs (fun i (_:Unit)=>i) (fun zz=>eL s zz) (fun _ _=>True) (fun i x _=>if(if i=0 then !bh x.toNat else !ew x)=true then .inr (.inl ())else .inl ()) (fun _=>.inr ()) (fun i h t _=>⟨by
  simp only[eL]
  rw[vas (by simp;omega),rO s i h]
  simp only[vab]
  cases(if i=0 then !bh s[i].toNat else !ew s[i])<;>rfl,fun _ _=>trivial⟩) (fun t _=>by simp only[eL];rw[vav (by simp)]) 0 () (vaF _) trivial
 simp only[Int.ofNat_zero,va9]at this
 rw[this]
 cases s with
 |nil=>rfl
 | cons c r =>
  unfold jy Aq iw
  simp only[if_true,List.isEmpty_cons,vce,List.all_cons]
  by_cases hc:bh c.toNat=true
  ·have:=wC (X:=Unit⊕Unit) (fun i (x:UInt8)=>if i=0 then !bh x.toNat else !ew x) (fun x=>!ew x) (.inl ()) (.inr ()) 1 (fun i x hi=>by rw[vav (by omega)]) r 1 (vam _)
   simp only[hc,vcf,vaw,if_false,wE hc,vbh,vaA]
   rw[this,vbd]
   simp only[vbR]
   cases r.all ew<;>rfl
  ·simp[hc]
theorem rz(p:ag)(hs:xH p):jc p=some (!gI p):=by
 unfold jc gI
 rw[kz,iy p hs,vU p hs]
 cases fK p<;>cases p.all dt<;>simp
theorem jI(r:ag):cR r false=some (.inr ()):=iS rfl
theorem kv:∀(k:Nat) (r:ag),r.length<k->xH r->cR r true=some (if(!(fQ r).all gI)=true then .inl ()else .inr ())
 |0,r,hk,_=>absurd hk (by omega)
 | k + 1,r,hk,hs => by
  obtain⟨c1,c2,c3⟩:=yg r
  have hs':r.length<9223372036854775808:=hs
  have hb:dv r true=some (if(!gI (fX r).1)=true then .inr (.inl ())else .inl ((fX r).2.1,(fX r).2.2)):=by
   simp only[dv,if_true,qK r hs,vab]
   rw[rz _ (show _<_ by omega)]
   simp only[vab]
   cases gI (fX r).1<;>rfl
  rw[yh r]
  unfold cR
  by_cases hp:gI (fX r).1=true
  ·rw[hp]at hb
   refine(pb (body:=fun zz:ag×Bool=>dv zz.1 zz.2) (s:=(r,true)) (s':=((fX r).2.1,(fX r).2.2)) hb).trans ?_
   cases hm:(fX r).2.2 with
   |false=>
    have:=jI (fX r).2.1
    unfold cR at this
    rw[this]
    simp[hp]
   |true=>
    have c4:=c3 hm
    have:=kv k (fX r).2.1 (by omega) (show _<_ by omega)
    unfold cR at this
    rw[this]
    simp[hp]
  ·have hp':gI (fX r).1=false:=by simpa using hp
   rw[hp']at hb
   refine(iS (body:=fun zz:ag×Bool=>dv zz.1 zz.2) (s:=(r,true)) hb).trans ?_
   cases(fX r).2.2<;>simp[hp']
theorem rC(r:ag)(more:Bool)(hs:xH r):cR r more=some (if(more&&!(fQ r).all gI)=true then .inl ()else .inr ()):=by
 cases more with
 |false=>exact jI r
 |true=>exact kv (r.length+1) r (by omega) hs
def dK(s:ag):Bool:=decide (s.length<=120)&&match fQ s with
 |[]=>false
 |f::r=>(iR f||fS f||(f==[118]&&!r.isEmpty))&&r.all gI
theorem rx(f:ag)(hf:xH f)(more:Bool):jb f more=some (!(iR f||fS f||(f==[118]&&more))):=by
 unfold jb
 rw[vT f hf,uE f hf]
 simp only[vab]
 cases iR f<;>cases fS f<;>cases(f==[118])<;>simp
theorem pD(s:ag):ku s=some (oq (dK s)):=by
 unfold ku dK oq
 by_cases h:s.length<=120
 ·have h1:¬((s.length:Int)>120):=by omega
  obtain⟨c1,c2,c3⟩:=yg s
  simp only[h1,h,decide_false,decide_true,vaw,if_false,vbh,qK s (show _<_ by omega),vab]
  rw[rx _ (show _<_ by omega),rC _ _ (show _<_ by omega),yh s]
  simp only[vab]
  cases hm:(fX s).2.2 with
  |false=>
   by_cases hn:iR (fX s).1=true<;>by_cases ht:fS (fX s).1=true<;>simp[hn,ht]
  | true =>
   have:(fQ (fX s).2.1).isEmpty=false:=by
    cases hd:fQ (fX s).2.1 with
    |nil=>exact absurd hd (oY _)
    |cons=>rfl
   simp only[this,if_true,Bool.not_false,Bool.and_true,vbh]
   cases(iR (fX s).1||fS (fX s).1||(fX s).1==[118])<;>cases(fQ (fX s).2.1).all gI<;>simp
 ·have h1:((s.length:Int)>120):=by omega
  simp[h1,h]
theorem lG(s:ag):∀(r:ag) (i b:Nat) (out o:List ag) (b':Nat),s.drop i=r->i+r.length=s.length->b<=i->((s.take i).drop b).all (fun c=>!(c==46))=true->
  jy (fun i x (t:List ag×Nat)=>if(x==46)=true then(Sum.inl (t.1++[(s.take i).drop t.2],i+1):(List ag×Nat)⊕(List ag×Nat))else .inl t) (fun t=>t) r i (out,b)=(o,b')->
  b'<=s.length/\o++[s.drop b']=out++qW ((s.take i).drop b) (fQ r)
 |[],i,b,out,o,b',h1,h2,h3,h4,h=>by
  simp only[jy,Prod.mk.injEq]at h
  obtain⟨rfl,rfl⟩:=h
  have:i=s.length:=by simpa using h2
  subst this
  simp[fQ,qW,h3]
 | c :: r,i,b,out,o,b',h1,h2,h3,h4,h => by
  have hi:i<s.length:=by simp at h2;omega
  rw[va3 hi]at h1
  injection h1 with h1a h1b
  unfold jy at h
  by_cases hc:(c==46)=true
  ·simp only[hc,if_true]at h
   have ih:=lG s r (i+1) (i+1) _ o b' h1b (by simp at h2;omega) (vam _) (by simp) h
   refine⟨ih.1,?_⟩
   rw[ih.2]
   have e:(s.take (i+1)).drop (i+1)=[]:=by simp
   rw[e,uT (oY r)]
   conv=>rhs;arg 2;arg 2;unfold fQ
   rw[vas hc]
   simp[qW]
  ·simp only[hc,if_false,vaw]at h
   have e:(s.take (i+1)).drop b=(s.take i).drop b++[c]:=by
    rw[List.take_succ_eq_append_getElem hi,List.drop_append_of_le_length (by simp;omega),h1a]
   have ih:=lG s r (i+1) b _ o b' h1b (by simp at h2;omega) (by omega) (by rw[e,List.all_append,h4];simpa using hc) h
   refine⟨ih.1,?_⟩
   rw[ih.2,e,rr c r hc,wA]
theorem CM{α:Type}(l:List α)(a b:Nat)(h:a<=b)(h2:b<=l.length):yQ l (some (a:Int)) (some (b:Int))=some ((l.take b).drop a):=by
 simp[yQ,bd,h,h2]
theorem wO(s:ag)(hs:s.length<=1000000):oT s=some (fQ s):=by
 unfold oT mM
 have:=mg s (by omega) (fun i (t:List ag×Nat)=>(t.1,(t.2:Int),i)) (fun zz=>fl s s.length zz.1 zz.2.1 zz.2.2) (fun i t=>t.2<=i/\t.1.length<=i)
  (fun i x (t:List ag×Nat)=>if(x==46)=true then(Sum.inl (t.1++[(s.take i).drop t.2],i+1):(List ag×Nat)⊕(List ag×Int))else .inl t) (fun t=>(t.1,(t.2:Int))) (fun i h t hI=>by
   refine⟨?_,fun t' ht=>?_⟩
   ·simp only[fl]
    rw[vas (by simp;omega),gm s i h]
    simp only[vab,Bv]
    by_cases hd:(s[i]==46)=true
    ·rw[vas hd,vas hd,CM s _ _ hI.1 (by omega)]
     simp only[vab]
     rw[wS (by simp;omega)]
     have e:b5 ((i:Int)+1)=((i+1:Nat):Int):=by rw[kQ (by omega) (by omega)];omega
     rw[e]
     rfl
    ·rw[vav hd,vav hd]
   ·by_cases hd:(s[i]==46)=true
    ·rw[vas hd]at ht;cases ht;simp;omega
    ·rw[vav hd]at ht;cases ht;omega) (fun t _=>by simp only[fl];rw[vav (by simp)]) 0 ([],0) (vaF _) ⟨vam _,vam _⟩
 simp only[Int.ofNat_zero,va9]at this
 rw[this]
 obtain⟨o,b',hr⟩:∃o b',jy (fun i x (t:List ag×Nat)=>if(x==46)=true then(Sum.inl (t.1++[(s.take i).drop t.2],i+1):(List ag×Nat)⊕(List ag×Nat))else .inl t) (fun t=>t) s 0 ([],0)=(o,b'):=⟨_,_,rfl⟩
 have key:∀(l:ag) (i:Nat) (t:List ag×Nat),jy (fun i x (t:List ag×Nat)=>if(x==46)=true then(Sum.inl (t.1++[(s.take i).drop t.2],i+1):(List ag×Nat)⊕(List ag×Int))else .inl t) (fun t=>(t.1,(t.2:Int))) l i t=
   ((jy (fun i x (t:List ag×Nat)=>if(x==46)=true then(Sum.inl (t.1++[(s.take i).drop t.2],i+1):(List ag×Nat)⊕(List ag×Nat))else .inl t) (fun t=>t) l i t).1,
    ((jy (fun i x (t:List ag×Nat)=>if(x==46)=true then(Sum.inl (t.1++[(s.take i).drop t.2],i+1):(List ag×Nat)⊕(List ag×Nat))else .inl t) (fun t=>t) l i t).2:Int)):=by
  intro l
  induction l with
  |nil=>intro i t;rfl
  | cons x l ih =>
   intro i t
   unfold jy
   by_cases hx:(x==46)=true
   ·simp only[hx,if_true,ih]
   ·simp only[hx,if_false,ih,vaw]
 rw[key,hr]
 obtain⟨h1,h2⟩:=lG s s 0 0 [] o b' rfl (by simp) (vam _) (by simp) hr
 simp only[vab]
 rw[u3 s b' h1]
 simp only[vab]
 have hd:=(ug s).1
 have h3:o++[s.drop b']=fQ s:=by rw[h2];simp[uT (oY s)]
 have h4:o.length+1=(fQ s).length:=by rw[<-h3];simp
 rw[wS (by simp;omega),h3]
 rfl
theorem tN(p:ag)(plain:Bool)(i:Nat)(h:i<p.length):ll p plain i=some (plain&&dt p[i]):=by
 unfold ll dt
 simp only[gm p i h,vab,fM,kf,jX]
 cases plain<;>cases bh (p[i].toNat:Int)<;>cases ks (p[i].toNat:Int)<;>simp
theorem ql:∀(l:ag) (i:Nat) (a b:Bool),jy (fun _ (x:UInt8) (t:Bool×Bool)=>(Sum.inl (t.1&&dt x,t.2&&ew x):(Bool×Bool)⊕(Bool×Bool))) (fun t=>t) l i (a,b)=(a&&l.all dt,b&&l.all ew)
 |[],i,a,b=>by simp[jy]
 |x::l,i,a,b=>by
  unfold jy
  simp only[ql l,List.all_cons,Bool.and_assoc]
theorem tP(p:ag)(hp:xH p)(a b:Bool):lm p p.length a b 0=some (a&&p.all dt,b&&p.all ew):=by
 unfold lm
 have:=mg p hp (fun i (t:Bool×Bool)=>(t.1,t.2,i)) (fun zz=>gh p p.length zz.1 zz.2.1 zz.2.2) (fun _ _=>True) (fun _ x t=>.inl (t.1&&dt x,t.2&&ew x)) (fun t=>t) (fun i h t _=>⟨by
  simp only[gh]
  rw[vas (by simp;omega),tN p _ i h]
  simp only[vab,gm p i h,fM,jX,ew]
  cases t.2<;>cases bh (p[i].toNat:Int)<;>cases pA (p[i].toNat:Int)<;>simp,fun _ _=>trivial⟩) (fun t _=>by simp only[gh];rw[vav (by simp)]) 0 (a,b) (vaF _) trivial
 simp only[Int.ofNat_zero,va9]at this
 rw[this,ql]
theorem xQ(p:ag)(hp:xH p):qk p=some (gI p):=by
 unfold qk nW gI fK
 cases p with
 |nil=>simp
 | cons c r =>
  have h1:¬(((c::r).length:Int)<1):=by simp;omega
  have h2:(((c::r).length:Int)>=1):=by omega
  simp only[h1,h2,decide_false,decide_true,vbh,vaw,if_false,me,vab,fM,tP _ hp,Aq,iw,List.isEmpty_cons,vce]
  by_cases h:(((c::r).length:Int)>24)
  ·have h':¬(((c::r).length:Int)<=24):=by omega
   simp only[h,h',decide_true,decide_false,if_true]
   simp
  ·have h':(((c::r).length:Int)<=24):=by omega
   simp only[h,h',decide_true,decide_false,if_false,vaw,vbh]
   cases(c::r).all dt<;>simp
theorem tG(f:ag)(r:List ag)(hf:xH f):lj (f::r)=some (!(iR f||fS f||(f==[118]&&!r.isEmpty))):=by
 unfold lj
 simp only[BC,vab,wK f hf,wM f hf]
 have e:(((f::r).length:Int)==1)=r.isEmpty:=by
  cases r with
  |nil=>rfl
  |cons a r=>simp;omega
 rw[e]
 unfold oq
 cases iR f<;>cases fS f<;>cases(f==[118])<;>simp
theorem yp{s f:ag}{r:List ag}(h:s.length<=120)(hd:fQ s=f::r):dK s=((iR f||fS f||(f==[118]&&!r.isEmpty))&&r.all fun x=>gI x):=by
 unfold dK
 rw[hd]
 simp only[h,decide_true,vbh]
theorem sh(s:ag):nR s=some (oq (dK s)):=by
 unfold nR
 by_cases h:s.length<=120
 ·have h1:¬((s.length:Int)>120):=by omega
  simp only[h1,h,decide_false,decide_true,vaw,if_false,vbh,wO s (by omega),vab]
  obtain⟨d1,d2⟩:=ug s
  cases hd:fQ s with
  |nil=>exact absurd hd (oY s)
  | cons f r =>
   rw[hd]at d1 d2
   rw[yp h hd]
   rw[tG f r (show _<_ by have:=d2 f (by simp);omega)]
   have hl:r.length<9223372036854775808:=by simp at d1;omega
   have:=jt r hl (fun zz=>f8 r r.length zz) (fun x=>!gI x) (.inl ()) (.inr ()) (fun j hj=>by
    simp only[f8]
    have hm:r[j]∈f::r:=by simp
    rw[vas (by simp;omega),ja r j hj]
    simp only[vab]
    rw[xQ _ (show _<_ by have:=d2 _ hm;omega)]
    simp only[vab]
    split<;>simp_all) (by simp only[f8];rw[vav (by simp)]) 0 (vaF _)
   have e1:yQ (f::r) (some 1) none=some r:=by
    have:=u3 (f::r) 1 (by simp)
    simpa using this
   simp only[Int.ofNat_zero,va9]at this
   simp only[vab,e1,nS,this,vbd,vbR]
   unfold oq
   cases(iR f||fS f||(f==[118]&&!r.isEmpty))<;>cases r.all (fun x=>gI x)<;>rfl
 ·have h1:((s.length:Int)>120):=by omega
  have h2:dK s=false:=by unfold dK;simp[h]
  simp[h1,h2,oq]
def AJ(x:ah):Bool:=(decide (0<=x.From)&&decide (x.From<6))&&(decide (0<=x.To)&&decide (x.To<6))
def Aw(a b:ah):Bool:=decide (a.From<b.From)||(a.From==b.From&&decide (a.To<b.To))
def lA(a b:ah):Bool:=a.From==b.From&&a.To==b.To
def qH(pre:List ah)(x:ah):Bool:=match pre.getLast? with
 |some y=>Aw x y
 |none=>false
def jP(pre:List ah)(x:ah):Option Int:=if AJ x=false then some 2 else if pre.any (lA x)=true then some 4 else if qH pre x=true then some 9 else none
def vA:List ah->List ah->Int
 |_,[]=>0
 |pre,x::r=>match jP pre x with
  |some e=>e
  |none=>vA (pre++[x]) r
def vG(g:aa):Int:=if(dK g.Caller&&dK g.Callee)=true then vA [] g.Arcs else 3
theorem zl{x:ah}(h:AJ x=true):rg x:=by
 unfold AJ at h
 simp only[vac,vag]at h
 exact⟨h.1.1,h.1.2,h.2.1,h.2.2⟩
theorem vP{i:Int}(h0:0<=i)(h1:i<6):nO 6 i=some i.toNat:=by
 unfold nO;rw[vas ⟨h0,by omega⟩]
theorem yL(n:Int):er n=some (decide (0<=n)&&decide (n<6)):=by
 unfold er
 by_cases h:0<=n
 ·rw[vas (by simpa using h)];simp[h]
 ·rw[vav (by simpa using h)];simp[h]
theorem DG(x:ah):dQ x.From x.To=some (!AJ x):=by
 unfold dQ
 rw[yL,vab]
 unfold AJ
 cases h:(decide (0<=x.From)&&decide (x.From<6))with
 |false=>simp
 |true=>
  rw[vav (by simp),yL,vab]
  simp
theorem Dz(x:ah):j0 x.From x.To=some (!AJ x):=by
 unfold j0 AJ
 repeat' split
 all_goals (simp only[vag,vbt]at *)
 all_goals (congr 1;rw[vbC];simp;omega)
theorem wc(a b:ah):fc a b=some (Aw a b):=by
 unfold fc Aw
 split
 ·rename_i h;simp only[vag]at h;simp[h]
 ·rename_i h;simp only[vag]at h
  split
  ·rename_i h2;simp only[vaH]at h2;simp[h2]
  ·rename_i h2;simp only[vaH]at h2;simp[h,h2]
theorem zE(a b:ah):pL a b=some (Aw a b):=wc a b
theorem xa{α:Type}(pre:List α)(x:α)(r:List α):gz (pre++x::r) (pre.length:Int)=some x:=by
 rw[ja _ _ (by simp)];simp
theorem yo{α:Type}{pre r:List α}{y:α}(h:pre.getLast?=some y)(hl:pre.length<4611686018427387904):gz (pre++r) (b5 ((pre.length:Int) - 1))=some y:=by
 obtain⟨q,rfl⟩:∃q,pre=q++[y]:=by
  have hne:pre≠[]:=by intro e;rw[e]at h;cases h
  rw[vbv hne]at h
  refine⟨pre.dropLast,?_⟩
  rw[<-va2 h];exact(vbz hne).symm
 have e1:((q++[y]).length:Int) - 1=(q.length:Int):=by simp
 rw[e1,kQ (by omega) (by simp at hl;omega),vbM]
 exact xa q y r
theorem DH(g:aa){pre r:List ah}{x:ah}(hg:g.Arcs=pre++r)(hl:pre.length<4611686018427387904):dR g (pre.length:Int) x.From x.To x.Strict=some (qH pre x):=by
 unfold dR qH
 cases hp:pre.getLast? with
 |none=>
  have:pre=[]:=by simpa using hp
  subst this
  rw[vav (by simp)]
 |some y=>
  have hne:pre≠[]:=by intro e;rw[e]at hp;cases hp
  have hpos:=vb1.2 hne
  rw[vas (by simp;omega),hg,yo hp hl,vab,wc]
  rfl
theorem DB(g:aa){pre r:List ah}{x:ah}(hg:g.Arcs=pre++r)(hl:pre.length<4611686018427387904):j1 g (pre.length:Int) x.From x.To x.Strict=some (qH pre x):=by
 unfold j1 qH
 cases hp:pre.getLast? with
 |none=>
  have:pre=[]:=by simpa using hp
  subst this
  rw[vav (by simp)]
 |some y=>
  have hne:pre≠[]:=by intro e;rw[e]at hp;cases hp
  have hpos:=vb1.2 hne
  rw[vas (by simp;omega),hg,yo hp hl,vab,zE]
  rfl
def EG(m:Nat->Bool)(pre:List ah):Prop:=∀x:ah,rg x->m (0+x.From.toNat * 6+x.To.toNat * 1)=pre.any (lA x)
theorem u6(g:aa)(hl:g.Arcs.length<4611686018427387904):∀(r pre:List ah) (m:Nat->Bool),g.Arcs=pre++r->EG m pre->
  ∃o,cb g g.Arcs (g.Arcs.length:Int) (pre.length:Int) m=some o/\(match o with|.inl o=>vA pre r=o.1/\o.1≠0|.inr _=>vA pre r=0)
 |[],pre,m,hg,hs=>by
  refine⟨.inr m,?_,rfl⟩
  unfold cb
  refine iS ?_
  unfold ck
  simp only
  rw[vav (by rw[hg];simp)]
 | x :: r,pre,m,hg,hs => by
  have hlt:pre.length<g.Arcs.length:=by rw[hg];simp
  have hb:ck g g.Arcs (g.Arcs.length:Int) (pre.length:Int) m=(match jP pre x with|some e=>some (.inr (.inl (e,m)))|none=>some (.inl (((pre++[x]).length:Int),fR m (0+x.From.toNat * 6+x.To.toNat * 1) true))):=by
   unfold ck
   rw[vas (by simpa using hlt)]
   conv=>lhs;rw[hg]
   rw[xa,vab,DG,vab]
   unfold jP
   cases hr:AJ x with
   |false=>simp
   | true =>
    obtain⟨a,b,c,d⟩:=zl hr
    rw[vav (by simp),vav (by simp),vP a b,vP c d]
    simp only[vab]
    rw[hs x ⟨a,b,c,d⟩]
    cases hy:pre.any (lA x)with
    |true=>simp
    | false =>
     rw[vav (by simp),vav (by simp),DH g hg (by omega),vab]
     cases hz:qH pre x with
     |true=>simp
     |false=>
      simp only[vaw,if_false]
      rw[kQ (by omega) (by omega)]
      congr 3
      simp
  cases hv:jP pre x with
  | some e =>
   rw[hv]at hb
   refine⟨.inl (e,m),?_,?_⟩
   ·unfold cb;exact iS hb
   ·simp only[vA,hv,vb3]
    unfold jP at hv
    split at hv
    ·cases hv;decide
    ·split at hv
     ·cases hv;decide
     ·split at hv
      ·cases hv;decide
      ·cases hv
  | none =>
   rw[hv]at hb
   have hin:AJ x=true:=by
    cases h:AJ x with
    |true=>rfl
    |false=>unfold jP at hv;rw[vas h]at hv;cases hv
   obtain⟨a,b,c,d⟩:=zl hin
   obtain⟨o,h1,h2⟩:=u6 g hl r (pre++[x]) (fR m (0+x.From.toNat * 6+x.To.toNat * 1) true) (by rw[hg];simp) (fun y hy=>by
    obtain⟨a',b',c',d'⟩:=hy
    unfold fR
    rw[List.any_append]
    by_cases he:0+y.From.toNat * 6+y.To.toNat * 1=0+x.From.toNat * 6+x.To.toNat * 1
    ·rw[vas he]
     have h1:y.From=x.From:=by omega
     have h2:y.To=x.To:=by omega
     simp[lA,h1,h2]
    ·rw [vav he,hs y ⟨a',b',c',d'⟩]
     have:lA y x=false:=by
      unfold lA
      cases h1:(y.From==x.From)with
      |false=>rfl
      | true =>
       cases h2:(y.To==x.To)with
       |false=>rfl
       |true=>
        simp only[vaH]at h1 h2
        rw[h1,h2]at he
        exact absurd rfl he
     simp[this])
   refine⟨o,?_,?_⟩
   ·unfold cb at h1 ⊢
    rw[pb hb];exact h1
   ·cases o with
    |inl o=>simp only[vA,hv]at h2 ⊢;exact h2
    |inr o=>simp only[vA,hv]at h2 ⊢;exact h2
theorem qC(b:Bool):(oq b !=0)= !b:=by cases b<;>rfl
theorem xU(g:aa)(hl:g.Arcs.length<4611686018427387904):bV g=some (vG g):=by
 unfold bV
 have hJ:dP g=some (!(dK g.Caller&&dK g.Callee)):=by
  unfold dP
  rw[pD,vab,qC]
  cases h:dK g.Caller with
  |false=>simp
  |true=>simp only[vcf,vaw,if_false];rw[pD,vab,qC];simp
 rw[hJ,vab]
 unfold vG
 cases h:(dK g.Caller&&dK g.Callee)with
 |false=>simp
 |true=>
  rw[vav (by simp),vas rfl]
  obtain⟨o,h1,h2⟩:=u6 g hl g.Arcs [] (pO false) rfl (fun x _=>rfl)
  rw[show(([]:List ah).length:Int)=0 from rfl]at h1
  rw[h1,vab]
  cases o with
  |inl o=>simp only at h2 ⊢;rw[h2.1]
  |inr o=>simp only at h2 ⊢;rw[h2]
theorem DA(x y:ah):ib x.From x.To y.From y.To=some (lA x y):=by
 unfold ib lA
 split<;>simp_all
theorem DC(pre:List ah)(hl:pre.length<4611686018427387904)(x:ah):j2 pre (pre.length:Int) x.From x.To 0=some (if pre.any (lA x)=true then .inl ()else .inr ()):=by
 unfold j2
 refine wr pre (by omega) _ (fun i y=>(ib x.From x.To y.From y.To).bind fun o23=>if o23=true then some (Sum.inr (Sum.inl ()))else some (Sum.inl (b5 (i+1)))) (lA x) (.inl ()) (.inr ()) (fun i=>?_) (fun y hy i=>?_)
 ·rfl
 ·rw[DA,vab]
  cases lA x y<;>rfl
theorem sG(g:aa)(hl:g.Arcs.length<4611686018427387904):∀(r pre:List ah),g.Arcs=pre++r->
  ∃o,fO g g.Arcs (g.Arcs.length:Int) (pre.length:Int)=some o/\(match o with|.inl o=>vA pre r=o/\o≠0|.inr _=>vA pre r=0)
 |[],pre,hg=>by
  refine⟨.inr (),?_,rfl⟩
  unfold fO
  refine iS ?_
  unfold fq
  rw[vav (by rw[hg];simp)]
 | x :: r,pre,hg => by
  have hlt:pre.length<g.Arcs.length:=by rw[hg];simp
  have hb:fq g g.Arcs (g.Arcs.length:Int) (pre.length:Int)=(match jP pre x with|some e=>some (.inr (.inl e))|none=>some (.inl ((pre++[x]).length:Int))):=by
   unfold fq
   rw[vas (by simpa using hlt)]
   conv=>lhs;rw[hg]
   rw[xa,vab,Dz,vab]
   unfold jP
   cases hr:AJ x with
   |false=>simp
   | true =>
    rw[vav (by simp),vav (by simp),Cb _ _ (by simp),vab]
    have e1:(pre++x::r).take pre.length=pre:=by simp
    rw[e1,DC pre (by omega),vab]
    cases hy:pre.any (lA x)with
    |true=>simp
    | false =>
     simp only[vaw,if_false]
     rw[DB g hg (by omega),vab]
     cases hz:qH pre x with
     |true=>simp
     |false=>
      simp only[vaw,if_false]
      rw[kQ (by omega) (by omega)]
      congr 2
      simp
  cases hv:jP pre x with
  | some e =>
   rw[hv]at hb
   refine⟨.inl e,?_,?_⟩
   ·unfold fO;exact iS hb
   ·simp only[vA,hv,vb3]
    unfold jP at hv
    split at hv
    ·cases hv;decide
    ·split at hv
     ·cases hv;decide
     ·split at hv
      ·cases hv;decide
      ·cases hv
  | none =>
   rw[hv]at hb
   obtain⟨o,h1,h2⟩:=sG g hl r (pre++[x]) (by rw[hg];simp)
   refine⟨o,?_,?_⟩
   ·unfold fO at h1 ⊢
    rw[pb hb];exact h1
   ·cases o with
    |inl o=>simp only[vA,hv]at h2 ⊢;exact h2
    |inr o=>simp only[vA,hv]at h2 ⊢;exact h2
theorem wB(g:aa)(hl:g.Arcs.length<4611686018427387904):ma g=some (vG g):=by
 unfold ma
 have hJ:jZ g=some (!(dK g.Caller&&dK g.Callee)):=by
  unfold jZ
  rw[sh,vab,qC]
  cases h:dK g.Caller with
  |false=>simp
  |true=>simp only[vcf,vaw,if_false];rw[sh,vab,qC];simp
 rw[hJ,vab]
 unfold vG
 cases h:(dK g.Caller&&dK g.Callee)with
 |false=>simp
 |true=>
  rw[vav (by simp),vas rfl]
  obtain⟨o,h1,h2⟩:=sG g hl g.Arcs [] rfl
  rw[show(([]:List ah).length:Int)=0 from rfl]at h1
  rw[h1,vab]
  cases o with
  |inl o=>simp only at h2 ⊢;rw[h2.1]
  |inr o=>simp only at h2 ⊢;rw[h2]
structure Gi(g:aa):Prop where
 caller:dK g.Caller=true
 callee:dK g.Callee=true
 arcs:xK g.Arcs
theorem Bj{x y:ah}(hx:rg x)(hy:rg y):Aw x y=true↔ix x<ix y:=by
 unfold rg at hx hy
 unfold Aw ix
 simp only[vaL,vag,vac,vaH]
 omega
theorem xz{x y:ah}(hx:rg x)(hy:rg y):lA x y=true↔ix x=ix y:=by
 unfold rg at hx hy
 unfold lA ix
 simp only[vac,vaH]
 omega
theorem C2:∀(r pre:List ah),xK pre->vA pre r=0->xK (pre++r)
 |[],pre,h,_=>by simpa using h
 | x :: r,pre,h,hv => by
  have hx:jP pre x=none:=by
   cases hs:jP pre x with
   |none=>rfl
   | some e =>
    simp only[vA,hs]at hv
    unfold jP at hs
    split at hs
    ·cases hs;cases hv
    ·split at hs
     ·cases hs;cases hv
     ·split at hs
      ·cases hs;cases hv
      ·cases hs
  have hv':vA (pre++[x]) r=0:=by simp only[vA,hx]at hv;exact hv
  have key:xK (pre++[x]):=by
   unfold jP at hx
   split at hx
   ·cases hx
   rename_i h1
   split at hx
   ·cases hx
   rename_i h2
   split at hx
   ·cases hx
   rename_i h3
   have hr:rg x:=zl (by simpa using h1)
   refine⟨fun y hy=>?_,?_⟩
   ·rcases vaM.1 hy with hy|hy
    ·exact h.1 y hy
    ·rw[vby.1 hy];exact hr
   ·rw[vbX]
    refine⟨h.2,List.pairwise_singleton _ _,fun y hy z hz=>?_⟩
    rw[vby.1 hz]
    have hne:ix x≠ix y:=fun e=>h2 (vbn.2 ⟨y,hy,(xz hr (h.1 y hy)).2 e⟩)
    have hnil:pre≠[]:=by intro e;rw[e]at hy;cases hy
    have hl:pre.getLast?=some (pre.getLast hnil):=vbv hnil
    unfold qH at h3
    rw[hl]at h3
    simp only at h3
    have hlm:=List.getLast_mem hnil
    have h4:¬ix x<ix (pre.getLast hnil):=fun hh=>h3 ((Bj hr (h.1 _ hlm)).2 hh)
    have h5:ix y<=ix (pre.getLast hnil):=by
     have hp:=h.2
     rw[<-vbz hnil]at hp hy
     rcases vaM.1 hy with hy|hy
     ·have:=(vbX.1 hp).2.2 y hy _ (vby.2 rfl);omega
     ·rw[vby.1 hy];exact vam _
    have h6:ix x≠ix (pre.getLast hnil):=fun e=>h2 (vbn.2 ⟨_,hlm,(xz hr (h.1 _ hlm)).2 e⟩)
    omega
  have:=C2 r (pre++[x]) key hv'
  simpa using this
theorem C1:∀(r pre:List ah),xK (pre++r)->vA pre r=0
 |[],_,_=>rfl
 | x :: r,pre,h => by
  have hr:rg x:=h.1 x (by simp)
  have hp:=vbX.1 h.2
  have hs:jP pre x=none:=by
   unfold jP
   have h1:AJ x=true:=by
    unfold rg at hr
    unfold AJ
    simp only[vac,vag]
    exact⟨⟨hr.1,hr.2.1⟩,hr.2.2⟩
   rw[vav (by simp[h1]),vav,vav]
   ·intro hb
    unfold qH at hb
    split at hb
    ·rename_i y hy
     have hym:y∈pre:=List.mem_of_getLast? hy
     have:=hp.2.2 y hym x (by simp)
     have:=(Bj hr (h.1 y (by simp[hym]))).1 hb
     omega
    ·cases hb
   ·intro hb
    obtain⟨y,hy,hsm⟩:=vbn.1 hb
    have:=hp.2.2 y hy x (by simp)
    have:=(xz hr (h.1 y (by simp[hy]))).1 hsm
    omega
  simp only[vA,hs]
  exact C1 r (pre++[x]) (by simpa using h)
theorem Ap{g:aa}:vG g=0↔Gi g:=by
 unfold vG
 constructor
 ·intro h
  split at h
  ·rename_i hc
   simp only[vac]at hc
   exact⟨hc.1,hc.2,by simpa using C2 g.Arcs [] ⟨by simp,by simp⟩ h⟩
  ·cases h
 ·rintro⟨h1,h2,h3⟩
  rw[vas (by simp[h1,h2])]
  exact C1 g.Arcs [] (by simpa using h3)
theorem Af{l:List ah}(h:xK l):l.length<=36:=by
 rw[<-Av h]
 unfold sm
 exact vaN (vcb _ _) (by simp)
end Go.Proofs.YtoficachfgggjaaDoor
