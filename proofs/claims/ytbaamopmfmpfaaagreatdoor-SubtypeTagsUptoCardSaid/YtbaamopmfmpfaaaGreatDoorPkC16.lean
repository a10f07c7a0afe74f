/- PROVED: a part of the proof. Conditions: none. -/
import Derived.Test.YtbaamopmfmpfaaaGreatDoorPkC15
import Derived.Test.YtbaamopmfmpfaaaGreatDoorPkC9
import Derived.Test.YtbaamopmfmpfaaaGreatDoorPkC7
noncomputable section
namespace Go.Proofs.YtbaamopmfmpfaaaGreatDoor
open Go Go.Proofs.Tryz
set_option linter.unusedVariables false
set_option maxRecDepth 100000
noncomputable def Xm:Code:=f41.body.getD .skip
def TL:List Nat:=[41,48,53,87,90]
section
variable(v:waE)(c:ak)(t20:waB)(t21:Int)(t22:Int)(t34:waB)(t35:Int)(m:waF)(m2:Int)(m3:ag)(m4:Int)(m5:waB)(m6:Int)(m7:Int)(m8:ag)(m9:Int)(m10:waB)(m11:waF)(m13:Int)(t36:Int)(m12:waB)
def fj:az:=aY 91 [(2,sl aN v),(3,.eptr (ax c)),(4,.bptr 1 0),(9,.bptr 3 0),(20,sl ac t20),(21,.int .i64 t21),(22,.int .i64 t22),(34,sl ac t34),(35,.int .i64 t35),(36,.int .i64 t36)] [.dead,.cells [sl bE m,sl ac t34,.int .i64 m2,.str m3,.int .i64 m4,sl ac m5,.int .i64 m6] [],.cells [.int .i64 m7,.str m8,.int .i64 m9,sl ac m10] [],.cells [sl bE m11,sl ac m12,.int .i64 m7,.str m8,.int .i64 m9,sl ac m10,.int .i64 m13] [(1,36)]] [((20,0),36),((2,0),62)]
def kH(o:waB):az:=aY 91 [(2,sl aN v),(3,.eptr (ax c)),(4,.bptr 1 0),(9,.bptr 3 0),(20,sl ac t20),(21,.int .i64 t21),(22,.int .i64 t22)] [.dead,.cells [sl bE m,sl ac t34,.int .i64 m2,.str m3,.int .i64 m4,sl ac m5,.int .i64 m6] [],.cells [.int .i64 m7,.str m8,.int .i64 m9,sl ac m10] [],.cells [sl bE m11,sl ac o,.int .i64 m7,.str m8,.int .i64 m9,sl ac m10,.int .i64 m13] [(1,36)]] [((20,0),36),((2,0),62)]
def qL:Option ((Int×waB)⊕(waB)):=
 if(decide (t36<t35))=true then
  (cR t34 t36).bind fun x8=>
  (j5 x8 ([]:List ag) ([]:List aa)).bind fun r9=>
  (app m12 ([r9]:List aa)).bind fun l10=>
  some (.inl (aR (t36+1),l10))
 else
  some (.inr m12)
def tM:Option waB:=loop (fun(zz:Int×waB)=>qL t34 t35 zz.1 zz.2) (t36,m12)
theorem yq{y:(Int×waB)⊕(waB)}(h:qL t34 t35 t36 m12=some y):aT Pg GE 1000 (cA Xm 1810295) (LQ (fun(zz:Int×waB)=>fj v c t20 t21 t22 t34 t35 m m2 m3 m4 m5 m6 m7 m8 m9 m10 m11 m13 zz.1 zz.2) (fun _=>.exit 3) (kH v c t20 t21 t22 t34 m m2 m3 m4 m5 m6 m7 m8 m9 m10 m11 m13) y) (fj v c t20 t21 t22 t34 t35 m m2 m3 m4 m5 m6 m7 m8 m9 m10 m11 m13 t36 m12):=by
 rcases aZ h with⟨c7,h⟩|⟨c7,h⟩
 ·obtain⟨x8,bx8,h⟩:=aB h
  obtain⟨r9,br9,h⟩:=aB h
  obtain⟨l10,bl10,h⟩:=aB h
  obtain rfl:=lf h
  have z:=sg 0 c7<|sv (ck.ia (k:=.i64) bx8)<|sv (be x8)<|sx lC<|sx (dn x8)<|qX [0,1,0,4,12,31,63,127]<|sv (cm x8 [])<|bT (lz br9)<|sv (ck.mk' (v:=fe) dl ([r9]:List aa) 1 (by kernel_rfl))<|sv (ck.ap bl10)<|W6 (rfl:bO (sl ac l10)=some [sl ac l10])<|zn 1000 .normal (fj v c t20 t21 t22 t34 t35 m m2 m3 m4 m5 m6 m7 m8 m9 m10 m11 m13 (aR (t36+1)) l10) rfl (eg (aI (up (aq eV v)) (aI (oA (bA c)) (aI (d6 rfl) (aI (d6 rfl) (aI (up (aq ah t20)) (aI trivial (aI trivial (aI (up (aq ah t34)) (aI trivial (aI trivial trivial))))))))))) (aI trivial (aI (aI (up (aq lu m)) (aI (up (aq ah t34)) (aI trivial (aI trivial (aI trivial (aI (up (aq ah m5)) (aI trivial trivial))))))) (aI (aI trivial (aI trivial (aI trivial (aI (up (aq ah m10)) trivial)))) (aI (aI (up (aq lu m11)) (aI (up (aq ah l10)) (aI trivial (aI trivial (aI trivial (aI (up (aq ah m10)) (aI trivial trivial))))))) trivial))))
  exact dS (A:=TL) mixed z<|by kernel_rfl
 ·obtain rfl:=lf h
  have z:=sg 0 c7<|eF (.exit 3) (kH v c t20 t21 t22 t34 m m2 m3 m4 m5 m6 m7 m8 m9 m10 m11 m13 m12)
  exact i7 TL (by intro hx;cases hx) z<|by kernel_rfl
theorem zl{x:waB}(h:tM t34 t35 t36 m12=some x):aT Pg GE 1000 (.loop (cA Xm 1810295)) (EX (.exit 3) (kH v c t20 t21 t22 t34 m m2 m3 m4 m5 m6 m7 m8 m9 m10 m11 m13 x)) (fj v c t20 t21 t22 t34 t35 m m2 m3 m4 m5 m6 m7 m8 m9 m10 m11 m13 t36 m12):=
 aT.loop (S:=fun(zz:Int×waB)=>fj v c t20 t21 t22 t34 t35 m m2 m3 m4 m5 m6 m7 m8 m9 m10 m11 m13 zz.1 zz.2) (ex:=(fun _=>.exit 3)) (s:=(t36,m12)) h fun zz y hy=>yq v c t20 t21 t22 t34 t35 m m2 m3 m4 m5 m6 m7 m8 m9 m10 m11 m13 zz.1 zz.2 hy
end
section
variable(c:ak)(t20:waB)(t21:Int)(m:waF)(m2:waB)(m3:Int)(m4:ag)(m5:Int)(m6:waB)(m7:Int)(v:waE)(t22:Int)
def fi:az:=aY 91 [(2,sl aN v),(3,.eptr (ax c)),(4,.bptr 1 0),(20,sl ac t20),(21,.int .i64 t21),(22,.int .i64 t22)] [.dead,.cells [sl bE m,sl ac m2,.int .i64 m3,.str m4,.int .i64 m5,sl ac m6,.int .i64 m7] []] [((20,0),36),((2,0),62)]
def kG(o:waE):az:=aY 91 [(2,sl aN o)] [.dead,.cells [sl bE m,sl ac m2,.int .i64 m3,.str m4,.int .i64 m5,sl ac m6,.int .i64 m7] []] [((2,0),62)]
def qK:Option ((waE×Int)⊕(waE)):=
 if(decide (t22<t21))=true then
  (cR t20 t22).bind fun x5=>
  (lP m).bind fun r6=>
  (tM m2 (m2.length:Int) 0 ([]:List aa)).bind fun o11=>
  (app v ([(⟨r6,o11,x5,c.Tag⟩:aE)]:List aE)).bind fun l12=>
  some (.inl (l12,aR (t22+1)))
 else
  some (.inr v)
def tL:Option waE:=loop (fun(zz:waE×Int)=>qK c t20 t21 m m2 zz.1 zz.2) (v,t22)
theorem yp{y:(waE×Int)⊕(waE)}(h:qK c t20 t21 m m2 v t22=some y):aT Pg GE 1000 (cA Xm 1767) (LQ (fun(zz:waE×Int)=>fi c t20 t21 m m2 m3 m4 m5 m6 m7 zz.1 zz.2) (fun _=>.exit 1) (kG m m2 m3 m4 m5 m6 m7) y) (fi c t20 t21 m m2 m3 m4 m5 m6 m7 v t22):=by
 rcases aZ h with⟨c4,h⟩|⟨c4,h⟩
 ·obtain⟨x5,bx5,h⟩:=aB h
  obtain⟨r6,br6,h⟩:=aB h
  obtain⟨o11,bo11,h⟩:=aB h
  obtain⟨l12,bl12,h⟩:=aB h
  obtain rfl:=lf h
  have z:=sg 0 c4<|sv (ck.ia (k:=.i64) bx5)<|sv (be x5)<|sx lC<|sx (dn x5)<|qX [0,1,3,0,0,16,63,0,255]<|ss<|bT (J1 br6)<|sv (cm x5 [])<|sv (CN c)<|sv (ES c)<|sb (Gd r6 x5 c.Tag) (Gc r6 x5 c.Tag)<|Yw (A3 (⟨r6,([]:List aa),x5,c.Tag⟩:aE))<|ss<|cz (ck.ln m2)<|di (zl v c t20 t21 t22 m2 (m2.length:Int) m m3 m4 m5 m6 m7 x5.Op x5.Name x5.N x5.Kids r6 c.Tag 0 ([]:List aa) bo11)<|sv (Hl (⟨r6,o11,x5,c.Tag⟩:aE) [])<|sv (IG.mk' (v:=Nu) Qv ([(⟨r6,o11,x5,c.Tag⟩:aE)]:List aE) 1 (by kernel_rfl))<|sv (IG.ap bl12)<|zn 1000 .normal (fi c t20 t21 m m2 m3 m4 m5 m6 m7 l12 (aR (t22+1))) rfl (eg (aI (up (aq eV l12)) (aI (oA (bA c)) (aI (d6 rfl) (aI (up (aq ah t20)) (aI trivial (aI trivial trivial))))))) (aI trivial (aI (aI (up (aq lu m)) (aI (up (aq ah m2)) (aI trivial (aI trivial (aI trivial (aI (up (aq ah m6)) (aI trivial trivial))))))) trivial))
  exact dS (A:=TL) mixed z<|by kernel_rfl
 ·obtain rfl:=lf h
  have z:=sg 0 c4<|eF (.exit 1) (kG m m2 m3 m4 m5 m6 m7 v)
  exact i7 TL (by intro hx;cases hx) z<|by kernel_rfl
theorem zk{x:waE}(h:tL c t20 t21 m m2 v t22=some x):aT Pg GE 1000 (.loop (cA Xm 1767)) (EX (.exit 1) (kG m m2 m3 m4 m5 m6 m7 x)) (fi c t20 t21 m m2 m3 m4 m5 m6 m7 v t22):=
 aT.loop (S:=fun(zz:waE×Int)=>fi c t20 t21 m m2 m3 m4 m5 m6 m7 zz.1 zz.2) (ex:=(fun _=>.exit 1)) (s:=(v,t22)) h fun zz y hy=>yp c t20 t21 m m2 m3 m4 m5 m6 m7 zz.1 zz.2 hy
end
section
variable(v:waE)(c:ak)(m:waF)(m2:waB)(m3:Int)(m4:ag)(m5:Int)(m6:waB)(m7:Int)
def AT:az:=aY 91 [(2,sl aN v),(3,.eptr (ax c)),(4,.bptr 1 0)] [.dead,.cells [sl bE m,sl ac m2,.int .i64 m3,.str m4,.int .i64 m5,sl ac m6,.int .i64 m7] []] [((2,0),62)]
def kF(o:waF):az:=aY 91 [(2,sl aN v),(3,.eptr (ax c)),(4,.bptr 1 0)] [.dead,.cells [sl bE o,sl ac m2,.int .i64 m3,.str m4,.int .i64 m5,sl ac m6,.int .i64 m7] []] [((2,0),62)]
def tK:Option waF:=
 if(!(c.Name==([]:ag)))=true then
  (lP m).bind fun r18=>
  (app r18 ([(⟨c.Name,c.Sort_⟩:dh)]:List dh)).bind fun l19=>
  some l19
 else
  some m
theorem zj{x:waF}(h:tK c m=some x):aT Pg GE 1000 (cA Xm 892) (EX .normal (kF v c m2 m3 m4 m5 m6 m7 x)) (AT v c m m2 m3 m4 m5 m6 m7):=by
 have p17:=fun{sc F} (r:PS sc F)=>sv (mJ c)<|sv (oI c)<|r
 rcases aZ h with⟨c16,h⟩|⟨c16,h⟩
 ·obtain⟨r18,br18,h⟩:=aB h
  obtain⟨l19,bl19,h⟩:=aB h
  obtain rfl:=lf h
  exact cw TL (p17<|sg 0 c16<|qX [0,1,3,0,8,0,32,120,248,511,1023,2047]<|ss<|bT (J1 br18)<|sv (mJ c)<|sv (oI c)<|sv (LT c)<|sv (L9 c)<|sv (PN c.Name c.Sort_)<|sv (GT.mk' (v:=Xd) WC ([(⟨c.Name,c.Sort_⟩:dh)]:List dh) 1 (by kernel_rfl))<|sv (GT.ap bl19)<|W6 (rfl:bO (sl bE l19)=some [sl bE l19])<|eF .normal (kF v c m2 m3 m4 m5 m6 m7 l19))<|by kernel_rfl
 ·obtain rfl:=lf h
  exact cw TL (p17<|sg 0 c16<|eF .normal (kF v c m2 m3 m4 m5 m6 m7 m))<|by kernel_rfl
end
section
variable(v:waE)(c:ak)(m:waF)(m2:waB)(m3:Int)(m4:ag)(m5:Int)(m6:waB)(m7:Int)
def AS:az:=aY 91 [(2,sl aN v),(3,.eptr (ax c)),(4,.bptr 1 0)] [.dead,.cells [sl bE m,sl ac m2,.int .i64 m3,.str m4,.int .i64 m5,sl ac m6,.int .i64 m7] []] [((2,0),62)]
def gY(o:waE⊕(waF×waB)):Exit:=match o with
 |(.inl _)=>.ret
 |(.inr _)=>.normal
def dY(o:waE⊕(waF×waB)):az:=match o with
 |(.inl o)=>aY 91 [(6,sl aN o)] [.dead,.cells [sl bE m,sl ac m2,.int .i64 m3,.str m4,.int .i64 m5,sl ac m6,.int .i64 m7] []] [((6,0),62)]
 |(.inr o)=>aY 91 [(2,sl aN v),(3,.eptr (ax c)),(4,.bptr 1 0)] [.dead,.cells [sl bE o.1,sl ac o.2,.int .i64 m3,.str m4,.int .i64 m5,sl ac m6,.int .i64 m7] []] [((2,0),62)]
def tJ:Option (waE⊕(waF×waB)):=
 if(c.Op==3)=true then
  (DN c.Pred).bind fun r3=>
  (tL c r3 (r3.length:Int) m m2 v 0).bind fun o13=>
  some (.inl o13)
 else
  if(c.Op==2)=true then
   (tK c m).bind fun o20=>
   (lP m2).bind fun r21=>
   (DN c.Pred).bind fun r22=>
   (app r21 r22).bind fun l23=>
   some (.inr (o20,l23))
  else
   some (.inr (m,m2))
theorem pk{x:waE⊕(waF×waB)}(h:tJ v c m m2=some x):aT Pg GE 1000 (cA Xm 6) (EX (gY x) (dY v c m m2 m3 m4 m5 m6 m7 x)) (AS v c m m2 m3 m4 m5 m6 m7):=by
 have p2:=fun{sc F} (r:PS sc F)=>sv (v6 c)<|sv (wh c)<|r
 rcases aZ h with⟨c1,h⟩|⟨c1,h⟩
 ·obtain⟨r3,br3,h⟩:=aB h
  obtain⟨o13,bo13,h⟩:=aB h
  obtain rfl:=lf h
  exact cw TL (p2<|sg 0 c1<|sv (v7 c)<|sv (wj c)<|bT (CV br3)<|cz (ck.ln r3)<|di (zk c r3 (r3.length:Int) m m2 m3 m4 m5 m6 m7 v 0 bo13)<|eF (gY (.inl o13)) (dY v c m m2 m3 m4 m5 m6 m7 (.inl o13)))<|by kernel_rfl
 ·have p15:=fun{sc F} (r:PS sc F)=>p2<|sg 0 c1<|r
  rcases aZ h with⟨c14,h⟩|⟨c14,h⟩
  ·obtain⟨o20,bo20,h⟩:=aB h
   obtain⟨r21,br21,h⟩:=aB h
   obtain⟨r22,br22,h⟩:=aB h
   obtain⟨l23,bl23,h⟩:=aB h
   obtain rfl:=lf h
   exact cw TL (p15<|sg 0 c14<|nD 0<|di (zj v c m m2 m3 m4 m5 m6 m7 bo20)<|qX [0,1,3,0,8,31,63,127,255]<|ss<|bT (RC br21)<|sv (v7 c)<|sv (wj c)<|bT (CV br22)<|sv (ck.ap bl23)<|W6 (rfl:bO (sl ac l23)=some [sl ac l23])<|eF (gY (.inr (o20,l23))) (dY v c m m2 m3 m4 m5 m6 m7 (.inr (o20,l23))))<|by kernel_rfl
  ·obtain rfl:=lf h
   exact cw TL (p15<|sg 0 c14<|eF (gY (.inr (m,m2))) (dY v c m m2 m3 m4 m5 m6 m7 (.inr (m,m2))))<|by kernel_rfl
end
section
variable(R92:kb)(t79:waD)(t80:Int)(m:waF)(m2:waB)(m3:Int)(m4:ag)(m5:Int)(m6:waB)(m7:Int)(v:waE)(t81:Int)
def fk:az:=aY 91 [(2,sl aN v),(4,.bptr 1 0),(79,sl ax t79),(80,.int .i64 t80),(81,.int .i64 t81)] [.dead,.cells [sl bE m,sl ac m2,.int .i64 m3,.str m4,.int .i64 m5,sl ac m6,.int .i64 m7] []] [((2,0),62)]
def kI(o:waE):az:=aY 91 [(2,sl aN o)] [.dead,.cells [sl bE m,sl ac m2,.int .i64 m3,.str m4,.int .i64 m5,sl ac m6,.int .i64 m7] []] [((2,0),62)]
def qM:Option ((waE×Int)⊕(waE)):=
 if(decide (t81<t80))=true then
  (cR t79 t81).bind fun x26=>
  (R92 x26 (⟨m,m2,(⟨m3,m4,m5,m6⟩:aa),m7⟩:aE) v).bind fun r27=>
  some (.inl (r27,aR (t81+1)))
 else
  some (.inr v)
def tN:Option waE:=loop (fun(zz:waE×Int)=>qM R92 t79 t80 m m2 m3 m4 m5 m6 m7 zz.1 zz.2) (v,t81)
theorem yr(hR92:nY R92){y:(waE×Int)⊕(waE)}(h:qM R92 t79 t80 m m2 m3 m4 m5 m6 m7 v t81=some y):aT Pg GE 1000 (cA Xm 119) (LQ (fun(zz:waE×Int)=>fk t79 t80 m m2 m3 m4 m5 m6 m7 zz.1 zz.2) (fun _=>.exit 5) (kI m m2 m3 m4 m5 m6 m7) y) (fk t79 t80 m m2 m3 m4 m5 m6 m7 v t81):=by
 rcases aZ h with⟨c25,h⟩|⟨c25,h⟩
 ·obtain⟨x26,bx26,h⟩:=aB h
  obtain⟨r27,br27,h⟩:=aB h
  obtain rfl:=lf h
  have z:=sg 0 c25<|sv (wt.ia (k:=.i64) bx26)<|sv (oJ x26)<|sx zq<|sx (dG x26)<|sv (j1 x26 [])<|sv (Hl (⟨m,m2,(⟨m3,m4,m5,m6⟩:aa),m7⟩:aE) [])<|si (.cg ⟨[],[.agg (ax x26),.agg (aN (⟨m,m2,(⟨m3,m4,m5,m6⟩:aa),m7⟩:aE)),sl aN v],[⟨2,87,0,62⟩],[],[],[],[],sl aN r27,sl aN r27,[(0,62)]⟩) (hR92 _ _ _ _ br27)<|sf (aI (xR [] (.agg (ax x26)) (bA x26)) (aI (xR [] (.agg (aN (⟨m,m2,(⟨m3,m4,m5,m6⟩:aa),m7⟩:aE))) (eV (⟨m,m2,(⟨m3,m4,m5,m6⟩:aa),m7⟩:aE))) (aI (xR [] (sl aN v) (aq eV v)) trivial)))<|sf trivial<|sf trivial<|sf (xR [] (sl aN r27) (aq eV r27))<|zn 1000 .normal (fk t79 t80 m m2 m3 m4 m5 m6 m7 r27 (aR (t81+1))) rfl (eg (aI (up (aq eV r27)) (aI (d6 rfl) (aI (up (aq bA t79)) (aI trivial (aI trivial trivial)))))) (aI trivial (aI (aI (up (aq lu m)) (aI (up (aq ah m2)) (aI trivial (aI trivial (aI trivial (aI (up (aq ah m6)) (aI trivial trivial))))))) trivial))
  exact dS (A:=TL) mixed z<|by kernel_rfl
 ·obtain rfl:=lf h
  have z:=sg 0 c25<|eF (.exit 5) (kI m m2 m3 m4 m5 m6 m7 v)
  exact i7 TL (by intro hx;cases hx) z<|by kernel_rfl
theorem zm(hR92:nY R92){x:waE}(h:tN R92 t79 t80 m m2 m3 m4 m5 m6 m7 v t81=some x):aT Pg GE 1000 (.loop (cA Xm 119)) (EX (.exit 5) (kI m m2 m3 m4 m5 m6 m7 x)) (fk t79 t80 m m2 m3 m4 m5 m6 m7 v t81):=
 aT.loop (S:=fun(zz:waE×Int)=>fk t79 t80 m m2 m3 m4 m5 m6 m7 zz.1 zz.2) (ex:=(fun _=>.exit 5)) (s:=(v,t81)) h fun zz y hy=>yr R92 t79 t80 m m2 m3 m4 m5 m6 m7 zz.1 zz.2 hR92 hy
end
def uR(R92:kb)(c:ak)(above:aE)(a:waE):Option waE:=
 (tJ a c above.Vars above.Hyps).bind fun o24=>match o24 with
 |(.inl o24)=>
  some o24
 |(.inr o24)=>
  (tN R92 c.Kids (c.Kids.length:Int) o24.1 o24.2 above.Head.Op above.Head.Name above.Head.N above.Head.Kids above.Tag a 0).bind fun o28=>
  some o28
theorem Cg(R92:kb)(hR92:nY R92){c:ak}{above:aE}{a:waE}{r:waE}(h:uR R92 c above a=some r):C Pg GE 41 [.agg (ax c),.agg (aN above),sl aN a] [((2,0),62)] [] (sl aN r) [(0,62)] []:=by
 obtain⟨o24,bo24,h⟩:=aB h
 rcases o24 with o24|o24
 ·obtain rfl:=lf h
  have z:=se (xf c)<|sx (A3 above)<|nD 0<|di (e:=.ret) (s1:=dY a c above.Vars above.Hyps above.Head.Op above.Head.Name above.Head.N above.Head.Kids above.Tag (.inl o24)) (pk a c above.Vars above.Hyps above.Head.Op above.Head.Name above.Head.N above.Head.Kids above.Tag bo24)<|en (aI (rP (sl aN o24))<|aI (up (n:=0) (aq eV o24))<|aI (rL [])<|trivial)
  exact C.evGp (A:=TL) mixed (m:=1000) (c:=Xm) rfl call41 func41 rfl z<|by kernel_rfl
 ·obtain⟨o28,bo28,h⟩:=aB h
  obtain rfl:=lf h
  have z:=se (xf c)<|sx (A3 above)<|nD 0<|di (e:=.normal) (s1:=dY a c above.Vars above.Hyps above.Head.Op above.Head.Name above.Head.N above.Head.Kids above.Tag (.inr o24)) (pk a c above.Vars above.Hyps above.Head.Op above.Head.Name above.Head.N above.Head.Kids above.Tag bo24)<|sv (qn c)<|sv (qq c)<|cz (wt.ln c.Kids)<|di (zm R92 c.Kids (c.Kids.length:Int) o24.1 o24.2 above.Head.Op above.Head.Name above.Head.N above.Head.Kids above.Tag a 0 hR92 bo28)<|en (aI (rP (sl aN o28))<|aI (up (n:=0) (aq eV o28))<|aI (rL [])<|trivial)
  exact C.evGp (A:=TL) mixed (m:=1000) (c:=Xm) rfl call41 func41 rfl z<|by kernel_rfl
def uS:((ak×aE×waE)->Option waE)->(ak×aE×waE)->Option waE:=fun(rec:(ak×aE×waE)->Option waE) (x:ak×aE×waE)=>uR (fun c above a=>rec (c,above,a)) x.1 x.2.1 x.2.2
def yY(c:ak)(above:aE)(a:waE):Option waE:=oG uS (c,above,a)
theorem Dq{c:ak}{above:aE}{a:waE}{r:waE}(h:yY c above a=some r):C Pg GE 41 [.agg (ax c),.agg (aN above),sl aN a] [((2,0),62)] [] (sl aN r) [(0,62)] []:=
 cU (F:=uS) (M:=fun(x:ak×aE×waE) (r:waE)=>C Pg GE 41 [.agg (ax x.1),.agg (aN x.2.1),sl aN x.2.2] [((2,0),62)] [] (sl aN r) [(0,62)] []) (fun rec hrec x r h=>Cg _ (fun c above a r h=>hrec (c,above,a) r h) h) h
noncomputable def qdQ:Code:=f17.body.getD .skip
def qdF:List Nat:=[]
def rB(c:ak):Option waE:=
 (yY c (⟨([]:List dh),([]:List aa),(⟨0,([]:ag),0,([]:List aa)⟩:aa),0⟩:aE) ([]:List aE)).bind fun r1=>
 some r1
theorem tI{c:ak}{r:waE}(h:rB c=some r):CC Pg GE 17 [.agg (ax c)] (sl aN r) [(0,62)]:=by
 obtain⟨r1,br1,h⟩:=aB h
 obtain rfl:=lf h
 have z:=se (xf c)<|sv (oJ c)<|sb (N7) (N4)<|si (.cg ⟨[],[.agg (ax c),.agg (aN (⟨([]:List dh),([]:List aa),(⟨0,([]:ag),0,([]:List aa)⟩:aa),0⟩:aE)),sl aN ([]:List aE)],[⟨2,1000000,0,62⟩],[],[],[],[],sl aN r1,sl aN r1,[(0,62)]⟩) (Dq br1)<|sf (aI (xR [] (.agg (ax c)) (bA c)) (aI (xR [] (.agg (aN (⟨([]:List dh),([]:List aa),(⟨0,([]:ag),0,([]:List aa)⟩:aa),0⟩:aE))) (eV (⟨([]:List dh),([]:List aa),(⟨0,([]:ag),0,([]:List aa)⟩:aa),0⟩:aE))) (aI (xR [] (sl aN ([]:List aE)) (aq eV ([]:List aE))) trivial)))<|sf trivial<|sf trivial<|sf (xR [] (sl aN r1) (aq eV r1))<|en (aI (rP (sl aN r1))<|(aq eV r1))
 exact cn qdF call17 func17 (c:=qdQ) rfl (aI (bA c) trivial) z<|by kernel_rfl
noncomputable def Xj:Code:=f11.body.getD .skip
def Q8:List Nat:=[]
section
variable(e:Int)(v:waE)(f:Int)(m:waB)(m2:Int)(m3:ag)(m4:waC)(m5:waA)(m6:Int)(m7:ag)(m8:Int)(m9:waB)(m10:waB)(m11:Int)(m12:ag)(m13:waC)(m14:waA)(m15:Int)(m16:ag)(m17:Int)(m18:waB)(m19:waB)(m20:Int)(m21:ag)(m22:ag)(m23:Int)(m24:ag)(m25:Int)(m26:waB)(m27:Int)(m28:waD)(m29:Int)(m30:ag)(m31:ag)(m32:Int)(m33:ag)(m34:Int)(m35:waB)(m36:Int)(m37:waD)
def JL:az:=aY 165 [(2,.bptr 1 0),(3,.bptr 2 0),(4,.bptr 3 0),(6,.int .i64 e),(7,sl aN v),(9,.int .i64 f)] [.cells [.int .i64 1,.str ([]:ag),.int .i64 1,sl ac m] [(3,36)],.cells [.int .i64 1,.str ([]:ag),.int .i64 0,sl ac m] [(3,36)],.cells [.int .i64 m2,.str m3,sl af m4,sl cS m5,.int .i64 m6,.str m7,.int .i64 m8,sl ac m9,sl ac m10] [(2,38),(3,9),(8,36)],.cells [.int .i64 m11,.str m12,sl af m13,sl cS m14,.int .i64 m15,.str m16,.int .i64 m17,sl ac m18,sl ac m19] [(2,38),(3,9),(8,36)],.cells [.int .i64 m20,.str m21,.str m22,.int .i64 m23,.str m24,.int .i64 m25,sl ac m26,.int .i64 m27,sl ax m28] [],.cells [.int .i64 m29,.str m30,.str m31,.int .i64 m32,.str m33,.int .i64 m34,sl ac m35,.int .i64 m36,sl ax m37] []] [((7,0),62)]
def fh(o:Bool):az:=aY 165 [(2,.bptr 1 0),(3,.bptr 2 0),(4,.bptr 3 0),(86,.bool o)] [.cells [.int .i64 1,.str ([]:ag),.int .i64 1,sl ac m] [(3,36)],.cells [.int .i64 1,.str ([]:ag),.int .i64 0,sl ac m] [(3,36)],.cells [.int .i64 m2,.str m3,sl af m4,sl cS m5,.int .i64 m6,.str m7,.int .i64 m8,sl ac m9,sl ac m10] [(2,38),(3,9),(8,36)],.cells [.int .i64 m11,.str m12,sl af m13,sl cS m14,.int .i64 m15,.str m16,.int .i64 m17,sl ac m18,sl ac m19] [(2,38),(3,9),(8,36)],.cells [.int .i64 m20,.str m21,.str m22,.int .i64 m23,.str m24,.int .i64 m25,sl ac m26,.int .i64 m27,sl ax m28] [],.cells [.int .i64 m29,.str m30,.str m31,.int .i64 m32,.str m33,.int .i64 m34,sl ac m35,.int .i64 m36,sl ax m37] []] []
def Ek:Option Bool:=
 if(e !=0)=true then
  some true
 else
  if(f !=12)=true then
   some true
  else
   if((v.length:Int)!=1)=true then
    some true
   else
    (cR v 0).bind fun x15=>
    if(x15.Tag !=4)=true then
     some true
    else
     (cR v 0).bind fun x18=>
     if((x18.Vars.length:Int)!=1)=true then
      some true
     else
      (cR v 0).bind fun x21=>
      (cR x21.Vars 0).bind fun x22=>
      if(!(x22.Name==([118,49]:ag)))=true then
       some true
      else
       (cR v 0).bind fun x25=>
       (jd ([118,49]:ag)).bind fun r26=>
       (BC 12 (⟨1,([]:ag),0,m⟩:aa) r26).bind fun r27=>
       (wD x25.Head r27).bind fun r28=>
       some (!r28)
theorem Ij{x:Bool}(h:Ek e v f m=some x):aT Pg GE 0 (cA Xj 508) (EX .normal (fh m m2 m3 m4 m5 m6 m7 m8 m9 m10 m11 m12 m13 m14 m15 m16 m17 m18 m19 m20 m21 m22 m23 m24 m25 m26 m27 m28 m29 m30 m31 m32 m33 m34 m35 m36 m37 x)) (JL e v f m m2 m3 m4 m5 m6 m7 m8 m9 m10 m11 m12 m13 m14 m15 m16 m17 m18 m19 m20 m21 m22 m23 m24 m25 m26 m27 m28 m29 m30 m31 m32 m33 m34 m35 m36 m37):=by
 rcases aZ h with⟨c10,h⟩|⟨c10,h⟩
 ·obtain rfl:=lf h
  exact cw Q8 (qX [0,1,3,7,15,31,63,127,255,511,1023,2047,4095,8191,16383,32767,65535,131071,262143,524287,1048575,2097151,4194303,8388607,16777215,33554431,67108863,134217727,268435455,536870911,1073741823,2147483647,4294967295,8589934591,17179869183,34359738367,68719476735,137438953471,274877906943,549755813887,1099511627775,137438953471,137438953471,6734508720127,17592186044415,35184372088831,70368744177663]<|sg 3 c10<|eF .normal (fh m m2 m3 m4 m5 m6 m7 m8 m9 m10 m11 m12 m13 m14 m15 m16 m17 m18 m19 m20 m21 m22 m23 m24 m25 m26 m27 m28 m29 m30 m31 m32 m33 m34 m35 m36 m37 true))<|by kernel_rfl
 ·have p12:=fun{sc F} (r:PS sc F)=>qX [0,1,3,7,15,31,63,127,255,511,1023,2047,4095,8191,16383,32767,65535,131071,262143,524287,1048575,2097151,4194303,8388607,16777215,33554431,67108863,134217727,268435455,536870911,1073741823,2147483647,4294967295,8589934591,17179869183,34359738367,68719476735,137438953471,274877906943,549755813887,1099511627775,137438953471,137438953471,6734508720127,17592186044415,35184372088831,70368744177663]<|sg 3 c10<|r
  rcases aZ h with⟨c11,h⟩|⟨c11,h⟩
  ·obtain rfl:=lf h
   exact cw Q8 (p12<|sg 7 c11<|eF .normal (fh m m2 m3 m4 m5 m6 m7 m8 m9 m10 m11 m12 m13 m14 m15 m16 m17 m18 m19 m20 m21 m22 m23 m24 m25 m26 m27 m28 m29 m30 m31 m32 m33 m34 m35 m36 m37 true))<|by kernel_rfl
  ·have p14:=fun{sc F} (r:PS sc F)=>p12<|sg 7 c11<|cz (IG.ln v)<|r
   rcases aZ h with⟨c13,h⟩|⟨c13,h⟩
   ·obtain rfl:=lf h
    exact cw Q8 (p14<|sg 12 c13<|eF .normal (fh m m2 m3 m4 m5 m6 m7 m8 m9 m10 m11 m12 m13 m14 m15 m16 m17 m18 m19 m20 m21 m22 m23 m24 m25 m26 m27 m28 m29 m30 m31 m32 m33 m34 m35 m36 m37 true))<|by kernel_rfl
   ·obtain⟨x15,bx15,h⟩:=aB h
    have p17:=fun{sc F} (r:PS sc F)=>p14<|sg 12 c13<|sv (IG.ia (k:=.i64) bx15)<|sv (Ir x15)<|sv (Ky x15)<|r
    rcases aZ h with⟨c16,h⟩|⟨c16,h⟩
    ·obtain rfl:=lf h
     exact cw Q8 (p17<|sg 19 c16<|eF .normal (fh m m2 m3 m4 m5 m6 m7 m8 m9 m10 m11 m12 m13 m14 m15 m16 m17 m18 m19 m20 m21 m22 m23 m24 m25 m26 m27 m28 m29 m30 m31 m32 m33 m34 m35 m36 m37 true))<|by kernel_rfl
    ·obtain⟨x18,bx18,h⟩:=aB h
     have p20:=fun{sc F} (r:PS sc F)=>p17<|sg 19 c16<|sv (IG.ia (k:=.i64) bx18)<|sv (jq x18)<|sv (jw x18)<|cz (GT.ln x18.Vars)<|r
     rcases aZ h with⟨c19,h⟩|⟨c19,h⟩
     ·obtain rfl:=lf h
      exact cw Q8 (p20<|sg 27 c19<|eF .normal (fh m m2 m3 m4 m5 m6 m7 m8 m9 m10 m11 m12 m13 m14 m15 m16 m17 m18 m19 m20 m21 m22 m23 m24 m25 m26 m27 m28 m29 m30 m31 m32 m33 m34 m35 m36 m37 true))<|by kernel_rfl
     ·obtain⟨x21,bx21,h⟩:=aB h
      obtain⟨x22,bx22,h⟩:=aB h
      have p24:=fun{sc F} (r:PS sc F)=>p20<|sg 27 c19<|sv (IG.ia (k:=.i64) bx21)<|sv (jq x21)<|sv (jw x21)<|sv (GT.ia (k:=.i64) bx22)<|sv (wc x22)<|sv (AZ x22)<|r
      rcases aZ h with⟨c23,h⟩|⟨c23,h⟩
      ·obtain rfl:=lf h
       exact cw Q8 (p24<|sg 37 c23<|eF .normal (fh m m2 m3 m4 m5 m6 m7 m8 m9 m10 m11 m12 m13 m14 m15 m16 m17 m18 m19 m20 m21 m22 m23 m24 m25 m26 m27 m28 m29 m30 m31 m32 m33 m34 m35 m36 m37 true))<|by kernel_rfl
      ·obtain⟨x25,bx25,h⟩:=aB h
       obtain⟨r26,br26,h⟩:=aB h
       obtain⟨r27,br27,h⟩:=aB h
       obtain⟨r28,br28,h⟩:=aB h
       obtain rfl:=lf h
       exact cw Q8 (p24<|sg 37 c23<|sv (IG.ia (k:=.i64) bx25)<|sv (yZ x25)<|sv (y4 x25)<|sv (cm (⟨1,([]:ag),0,m⟩:aa) [])<|bT (gO br26)<|bT (tE br27)<|bT (zS br28)<|eF .normal (fh m m2 m3 m4 m5 m6 m7 m8 m9 m10 m11 m12 m13 m14 m15 m16 m17 m18 m19 m20 m21 m22 m23 m24 m25 m26 m27 m28 m29 m30 m31 m32 m33 m34 m35 m36 m37 (!r28)))<|by kernel_rfl
end
def wI:Option Bool:=
 (jd ([118]:ag)).bind fun r1=>
 (BC 10 r1 (⟨1,([]:ag),1,([]:List aa)⟩:aa)).bind fun r2=>
 (qH r2).bind fun r3=>
 (jd ([118]:ag)).bind fun r4=>
 (BC 12 (⟨1,([]:ag),0,([]:List aa)⟩:aa) r4).bind fun r5=>
 (qH r5).bind fun r6=>
 (kW (⟨([]:List eS),([]:List pd),([]:List dI),([]:List f0),([]:List rY),([]:List pj)⟩:aQ) r3 r6 4 ([]:List ag)).bind fun r7=>
 (rB r7.1).bind fun r8=>
 (kW (⟨([]:List eS),([]:List pd),([]:List dI),([]:List f0),([]:List rY),([]:List pj)⟩:aQ) (⟨r3.Op,r3.Name,r3.Args,r3.Names,r3.Pred,r3.Preds⟩:ae) (⟨2,([]:ag),([]:List ae),([]:List ag),(⟨0,([]:ag),0,([]:List aa)⟩:aa),([]:List aa)⟩:ae) 0 ([]:List ag)).bind fun r9=>
 (Ek r7.2 r8 r9.2 ([]:List aa)).bind fun o29=>
 if o29=true then
  some false
 else
  (qH (⟨0,([]:ag),0,([]:List aa)⟩:aa)).bind fun r32=>
  (jd ([120]:ag)).bind fun r33=>
  (jd ([118]:ag)).bind fun r34=>
  (BC 12 r33 r34).bind fun r35=>
  (qH r35).bind fun r36=>
  (kW (⟨([]:List eS),([]:List pd),([]:List dI),([]:List f0),([]:List rY),([]:List pj)⟩:aQ) (⟨6,([]:ag),([r32,r36]:List ae),([([120]:ag)]:List ag),(⟨0,([]:ag),0,([]:List aa)⟩:aa),([]:List aa)⟩:ae) (⟨6,([]:ag),([(⟨r6.Op,r6.Name,r6.Args,r6.Names,r6.Pred,r6.Preds⟩:ae),(⟨r6.Op,r6.Name,r6.Args,r6.Names,r6.Pred,r6.Preds⟩:ae)]:List ae),([([121]:ag)]:List ag),(⟨0,([]:ag),0,([]:List aa)⟩:aa),([]:List aa)⟩:ae) 0 ([([118,49]:ag)]:List ag)).bind fun r37=>
  (rB r37.1).bind fun r38=>
  if (r37.2 == 0) = true then
   if ((r38.length:Int) == 1) = true then
    (cR r38 0).bind fun x43=>
    if ((x43.Vars.length:Int) == 2) = true then
     (cR r38 0).bind fun x46=>
     (cR x46.Vars 0).bind fun x47=>
     if (x47.Name == ([121]:ag)) = true then
      (cR r38 0).bind fun x50=>
      (cR x50.Vars 1).bind fun x51=>
      if (x51.Name == ([118,49,49]:ag)) = true then
       (cR r38 0).bind fun x54=>
       (jd ([118,49,49]:ag)).bind fun r55=>
       (BC 12 (⟨1,([]:ag),0,([]:List aa)⟩:aa) r55).bind fun r56=>
       (wD x54.Head r56).bind fun r57=>
       if r57=true then
        (jk (⟨r3.Op,r3.Name,r3.Args,r3.Names,r3.Pred,r3.Preds⟩:ae)).bind fun r60=>
        if r60=true then
         (jk (⟨6,([]:ag),([r32,r36]:List ae),([([120]:ag)]:List ag),(⟨0,([]:ag),0,([]:List aa)⟩:aa),([]:List aa)⟩:ae)).bind fun r63=>
         some (!r63)
        else
         some false
       else
        some false
      else
       some false
     else
      some false
    else
     some false
   else
    some false
  else
   some false
theorem yf{r:Bool}(h:wI=some r):CC Pg GE 11 [] (.bool r) []:=by
 obtain⟨r1,br1,h⟩:=aB h
 obtain⟨r2,br2,h⟩:=aB h
 obtain⟨r3,br3,h⟩:=aB h
 obtain⟨r4,br4,h⟩:=aB h
 obtain⟨r5,br5,h⟩:=aB h
 obtain⟨r6,br6,h⟩:=aB h
 obtain⟨r7,br7,h⟩:=aB h
 obtain⟨r8,br8,h⟩:=aB h
 obtain⟨r9,br9,h⟩:=aB h
 obtain⟨o29,bo29,h⟩:=aB h
 have p31:=fun{sc F} (r:PS sc F)=>sb (ym 1 1) (yk 1 1)<|sb (JV 1) (JT 1)<|sx lC<|sx lC<|sy (aF (⟨1,([]:ag),1,([]:List aa)⟩:aa))<|sy (aF (⟨1,([]:ag),0,([]:List aa)⟩:aa))<|qX [0,0,3,7,0,15,63,127,0,0,1023,2047]<|bT (gO br1)<|sv (cm (⟨1,([]:ag),1,([]:List aa)⟩:aa) [])<|bT (tE br2)<|bT (oo br3)<|sv (cm (⟨1,([]:ag),0,([]:List aa)⟩:aa) [])<|bT (gO br4)<|bT (tE br5)<|bT (oo br6)<|Yw (iT r3)<|Yw (iT r6)<|sb (yl) (yj)<|sv (dj r3 [])<|sv (dj r6 [])<|bT (o8 br7)<|sx zq<|sx (dG r7.1)<|sv (j1 r7.1 [])<|bT (tI br8)<|sb (yl) (yj)<|sv (dj (⟨r3.Op,r3.Name,r3.Args,r3.Names,r3.Pred,r3.Preds⟩:ae) [])<|sb (Rx 2) (Rt 2)<|bT (o8 br9)<|sx zq<|sx (dG r9.1)<|nD 1<|di (Ij r7.2 r8 r9.2 ([]:List aa) r3.Op r3.Name r3.Args r3.Names r3.Pred.Op r3.Pred.Name r3.Pred.N r3.Pred.Kids r3.Preds r6.Op r6.Name r6.Args r6.Names r6.Pred.Op r6.Pred.Name r6.Pred.N r6.Pred.Kids r6.Preds r7.1.Op r7.1.Name r7.1.Sort_ r7.1.Pred.Op r7.1.Pred.Name r7.1.Pred.N r7.1.Pred.Kids r7.1.Tag r7.1.Kids r9.1.Op r9.1.Name r9.1.Sort_ r9.1.Pred.Op r9.1.Pred.Name r9.1.Pred.N r9.1.Pred.Kids r9.1.Tag r9.1.Kids bo29)<|r
 rcases aZ h with⟨c30,h⟩|⟨c30,h⟩
 ·obtain rfl:=lf h
  have z:=p31<|sg 0 c30<|en (aI (rP (.bool false))<|trivial)
  exact cn Q8 call11 func11 (c:=Xj) rfl trivial z<|by kernel_rfl
 ·obtain ⟨r32,br32,h⟩:=aB h
  obtain⟨r33,br33,h⟩:=aB h
  obtain⟨r34,br34,h⟩:=aB h
  obtain⟨r35,br35,h⟩:=aB h
  obtain⟨r36,br36,h⟩:=aB h
  obtain⟨r37,br37,h⟩:=aB h
  obtain⟨r38,br38,h⟩:=aB h
  have p40:=fun{sc F} (r:PS sc F)=>p31<|sg 0 c30<|sv (bJ.mk' (v:=PVal.str) KI ([([120]:ag)]:List ag) 1 (by kernel_rfl))<|sb (tH) (tF)<|bT (oo br32)<|bT (gO br33)<|bT (gO br34)<|bT (tE br35)<|bT (oo br36)<|sv (cX.mk' (v:=lE) gm ([r32,r36]:List ae) 2 (by kernel_rfl))<|sb (AK 6 ([([120]:ag)]:List ag) ([r32,r36]:List ae)) (AI 6 ([([120]:ag)]:List ag) ([r32,r36]:List ae))<|sx Bn<|sy (bk (⟨6,([]:ag),([r32,r36]:List ae),([([120]:ag)]:List ag),(⟨0,([]:ag),0,([]:List aa)⟩:aa),([]:List aa)⟩:ae))<|sv (bJ.mk' (v:=PVal.str) KI ([([121]:ag)]:List ag) 1 (by kernel_rfl))<|sv (dj (⟨r6.Op,r6.Name,r6.Args,r6.Names,r6.Pred,r6.Preds⟩:ae) [])<|sv (dj (⟨r6.Op,r6.Name,r6.Args,r6.Names,r6.Pred,r6.Preds⟩:ae) [])<|sv (cX.mk' (v:=lE) gm ([(⟨r6.Op,r6.Name,r6.Args,r6.Names,r6.Pred,r6.Preds⟩:ae),(⟨r6.Op,r6.Name,r6.Args,r6.Names,r6.Pred,r6.Preds⟩:ae)]:List ae) 2 (by kernel_rfl))<|sb (AK 6 ([([121]:ag)]:List ag) ([(⟨r6.Op,r6.Name,r6.Args,r6.Names,r6.Pred,r6.Preds⟩:ae),(⟨r6.Op,r6.Name,r6.Args,r6.Names,r6.Pred,r6.Preds⟩:ae)]:List ae)) (AI 6 ([([121]:ag)]:List ag) ([(⟨r6.Op,r6.Name,r6.Args,r6.Names,r6.Pred,r6.Preds⟩:ae),(⟨r6.Op,r6.Name,r6.Args,r6.Names,r6.Pred,r6.Preds⟩:ae)]:List ae))<|sx Bn<|sy (bk (⟨6,([]:ag),([(⟨r6.Op,r6.Name,r6.Args,r6.Names,r6.Pred,r6.Preds⟩:ae),(⟨r6.Op,r6.Name,r6.Args,r6.Names,r6.Pred,r6.Preds⟩:ae)]:List ae),([([121]:ag)]:List ag),(⟨0,([]:ag),0,([]:List aa)⟩:aa),([]:List aa)⟩:ae))<|sb (yl) (yj)<|sv (dj (⟨6,([]:ag),([r32,r36]:List ae),([([120]:ag)]:List ag),(⟨0,([]:ag),0,([]:List aa)⟩:aa),([]:List aa)⟩:ae) [])<|sv (dj (⟨6,([]:ag),([(⟨r6.Op,r6.Name,r6.Args,r6.Names,r6.Pred,r6.Preds⟩:ae),(⟨r6.Op,r6.Name,r6.Args,r6.Names,r6.Pred,r6.Preds⟩:ae)]:List ae),([([121]:ag)]:List ag),(⟨0,([]:ag),0,([]:List aa)⟩:aa),([]:List aa)⟩:ae) [])<|sv (bJ.mk' (v:=PVal.str) KI ([([118,49]:ag)]:List ag) 1 (by kernel_rfl))<|bT (o8 br37)<|sx zq<|sx (dG r37.1)<|sv (j1 r37.1 [])<|bT (tI br38)<|qX [0,1,3,7,15,31,63,127,255,511,1023,2047,4095,8191,16383,32767,65535,131071,262143,524287,1048575,2097151,4194303,8388607,16777215,33554431,67108863,134217727,268435455,536870911,1073741823,2147483647,4294967295,8589934591,17179869183,34359738367,68719476735,137438953471,274877906943,549755813887,68719476735,68719476735,3367254360063,8796093022207,17592186044415,35184372088831,70368744177663,140737488355327,281474976710655,562949953421311,1125899906842623,2251799813685247,4503599627370495,9007199254740991,18014398509481983]<|r
  rcases aZ h with⟨c39,h⟩|⟨c39,h⟩
  ·have p42:=fun{sc F} (r:PS sc F)=>p40<|sg 3 c39<|cz (IG.ln r38)<|r
   rcases aZ h with⟨c41,h⟩|⟨c41,h⟩
   ·obtain⟨x43,bx43,h⟩:=aB h
    have p45:=fun{sc F} (r:PS sc F)=>p42<|sg 8 c41<|sv (IG.ia (k:=.i64) bx43)<|sv (jq x43)<|sv (jw x43)<|cz (GT.ln x43.Vars)<|r
    rcases aZ h with⟨c44,h⟩|⟨c44,h⟩
    ·obtain⟨x46,bx46,h⟩:=aB h
     obtain⟨x47,bx47,h⟩:=aB h
     have p49:=fun{sc F} (r:PS sc F)=>p45<|sg 16 c44<|sv (IG.ia (k:=.i64) bx46)<|sv (jq x46)<|sv (jw x46)<|sv (GT.ia (k:=.i64) bx47)<|sv (wc x47)<|sv (AZ x47)<|r
     rcases aZ h with⟨c48,h⟩|⟨c48,h⟩
     ·obtain⟨x50,bx50,h⟩:=aB h
      obtain⟨x51,bx51,h⟩:=aB h
      have p53:=fun{sc F} (r:PS sc F)=>p49<|sg 26 c48<|sv (IG.ia (k:=.i64) bx50)<|sv (jq x50)<|sv (jw x50)<|sv (GT.ia (k:=.i64) bx51)<|sv (wc x51)<|sv (AZ x51)<|r
      rcases aZ h with⟨c52,h⟩|⟨c52,h⟩
      ·obtain⟨x54,bx54,h⟩:=aB h
       obtain⟨r55,br55,h⟩:=aB h
       obtain⟨r56,br56,h⟩:=aB h
       obtain⟨r57,br57,h⟩:=aB h
       have p59:=fun{sc F} (r:PS sc F)=>p53<|sg 36 c52<|sv (IG.ia (k:=.i64) bx54)<|sv (yZ x54)<|sv (y4 x54)<|sv (cm (⟨1,([]:ag),0,([]:List aa)⟩:aa) [])<|bT (gO br55)<|bT (tE br56)<|bT (zS br57)<|r
       rcases aZ h with⟨c58,h⟩|⟨c58,h⟩
       ·obtain⟨r60,br60,h⟩:=aB h
        have p62:=fun{sc F} (r:PS sc F)=>p59<|sg 46 c58<|sv (dj (⟨r3.Op,r3.Name,r3.Args,r3.Names,r3.Pred,r3.Preds⟩:ae) [])<|bT (nh br60)<|r
        rcases aZ h with⟨c61,h⟩|⟨c61,h⟩
        ·obtain⟨r63,br63,h⟩:=aB h
         obtain rfl:=lf h
         have z:=p62<|sg 50 c61<|sv (dj (⟨6,([]:ag),([r32,r36]:List ae),([([120]:ag)]:List ag),(⟨0,([]:ag),0,([]:List aa)⟩:aa),([]:List aa)⟩:ae) [])<|bT (nh br63)<|en (aI (rP (.bool (!r63)))<|trivial)
         exact cn Q8 call11 func11 (c:=Xj) rfl trivial z<|by kernel_rfl
        ·obtain rfl:=lf h
         have z:=p62<|sg 50 c61<|en (aI (rP (.bool false))<|trivial)
         exact cn Q8 call11 func11 (c:=Xj) rfl trivial z<|by kernel_rfl
       ·obtain rfl:=lf h
        have z:=p59<|sg 46 c58<|en (aI (rP (.bool false))<|trivial)
        exact cn Q8 call11 func11 (c:=Xj) rfl trivial z<|by kernel_rfl
      ·obtain rfl:=lf h
       have z:=p53<|sg 36 c52<|en (aI (rP (.bool false))<|trivial)
       exact cn Q8 call11 func11 (c:=Xj) rfl trivial z<|by kernel_rfl
     ·obtain rfl:=lf h
      have z:=p49<|sg 26 c48<|en (aI (rP (.bool false))<|trivial)
      exact cn Q8 call11 func11 (c:=Xj) rfl trivial z<|by kernel_rfl
    ·obtain rfl:=lf h
     have z:=p45<|sg 16 c44<|en (aI (rP (.bool false))<|trivial)
     exact cn Q8 call11 func11 (c:=Xj) rfl trivial z<|by kernel_rfl
   ·obtain rfl:=lf h
    have z:=p42<|sg 8 c41<|en (aI (rP (.bool false))<|trivial)
    exact cn Q8 call11 func11 (c:=Xj) rfl trivial z<|by kernel_rfl
  ·obtain rfl:=lf h
   have z:=p40<|sg 3 c39<|en (aI (rP (.bool false))<|trivial)
   exact cn Q8 call11 func11 (c:=Xj) rfl trivial z<|by kernel_rfl
section
variable(n:Int)(s:ag)(m:Int)(d:Int)
def zD:Option Int:=
 if(decide (d<0))=true then
  some (IntKind.i64.wrap (0 - d))
 else
  some d
end
section
variable(n:Int)(s:ag)(m:Int)
def qb:Option ((ag×Int)⊕(ag)):=
 if(m !=0)=true then
  (re m 10).bind fun q3=>
  (zD q3).bind fun o5=>
  (EB ([IntKind.u8.wrap (aR (48+o5))]:List Int)).bind fun s6=>
  (ZL s6 s).bind fun s7=>
  (qu .i64 m 10).bind fun q8=>
  some (.inl (s7,q8))
 else
  some (.inr s)
def qC:Option ag:=loop (fun(zz:ag×Int)=>qb zz.1 zz.2) (s,m)
end
def I2(n:Int):Option ag:=
 if(n==0)=true then
  some ([48]:ag)
 else
  (qC ([]:ag) n).bind fun o9=>
  if(decide (n<0))=true then
   (ZL ([45]:ag) o9).bind fun s12=>
   some s12
  else
   some o9
open Go
section
variable(used:waA)(base:ag)(s:ag)(n:Int)
def cO:Option ((ag×Int)⊕(ag)):=
 (wC used s).bind fun r1=>
 if(decide (r1>=0))=true then
  (I2 n).bind fun r3=>
  (ZL base r3).bind fun s4=>
  some (.inl (s4,aR (n+1)))
 else
  some (.inr s)
def kZ:Option ag:=loop (fun(zz:ag×Int)=>cO used base zz.1 zz.2) (s,n)
end
def FE(used:waA)(base:ag):Option ag:=
 (kZ used base base 1).bind fun o5=>
 some o5
section
variable(used:waA)(m:aQ)(v:aD)
def lF:Option Bool:=
 (wF m).bind fun r1=>
 if(!r1)=true then
  some true
 else
  (pB v.A).bind fun r4=>
  if(!r4)=true then
   some true
  else
   (pB v.B).bind fun r7=>
   if(!r7)=true then
    some true
   else
    (El used).bind fun r10=>
    if(!r10)=true then
     some true
    else
     (wJ v).bind fun r13=>
     some (!r13)
end
abbrev yd:=(ak->Int->waA->Option Bool)
abbrev C3(R:yd):Prop:=∀(c:ak) (tag:Int) (used:waA) (r:Bool),R c tag used=some r->CC Pg GE 20 [.agg (ax c),.int .i64 tag,sl cS used] (.bool r) []
noncomputable def Xk:Code:=f20.body.getD .skip
def Re:List Nat:=[]
section
variable(tag:Int)(used:waA)(c:ak)
def LJ:az:=aY 60 [(1,.int .i64 tag),(2,sl cS used),(3,.eptr (ax c))] [.dead] []
def vW(o:Bool):az:=aY 60 [(1,.int .i64 tag),(2,sl cS used),(3,.eptr (ax c)),(23,.bool o)] [.dead] []
def AA:Option Bool:=
 if(c.Op==2)=true then
  some (!(c.Name==([]:ag)))
 else
  some false
theorem JO{x:Bool}(h:AA c=some x):aT Pg GE 0 (cA Xk 28) (EX .normal (vW tag used c x)) (LJ tag used c):=by
 have p4:=fun{sc F} (r:PS sc F)=>sv (v6 c)<|sv (wh c)<|r
 rcases aZ h with⟨c3,h⟩|⟨c3,h⟩
 ·obtain rfl:=lf h
  exact cw Re (p4<|sg 4 c3<|sv (mJ c)<|sv (oI c)<|eF .normal (vW tag used c (!(c.Name==([]:ag)))))<|by kernel_rfl
 ·obtain rfl:=lf h
  exact cw Re (p4<|sg 4 c3<|eF .normal (vW tag used c false))<|by kernel_rfl
end
section
variable(tag:Int)(used:waA)(c:ak)(i:Int)
def mD:az:=aY 60 [(1,.int .i64 tag),(2,sl cS used),(3,.eptr (ax c)),(7,.int .i64 i)] [.dead] []
def mE(o:Unit⊕(Unit)):Exit:=match o with
 |(.inl _)=>.ret
 |(.inr _)=>.exit 0
def jV(o:Unit⊕(Unit)):az:=match o with
 |(.inl o)=>aY 60 [(6,.bool false)] [.dead] []
 |(.inr o)=>aY 60 [(1,.int .i64 tag),(2,sl cS used),(3,.eptr (ax c))] [.dead] []
def vX:Option (Int⊕(Unit⊕(Unit))):=
 if(decide (i<(used.length:Int)))=true then
  (cR used i).bind fun x9=>
  if(x9==c.Name)=true then
   some (.inr (.inl ()))
  else
   some (.inl (aR (i+1)))
 else
  some (.inr (.inr ()))
def uP:Option (Unit⊕(Unit)):=loop (fun(zz:Int)=>vX used c zz) i
theorem Ik{y:Int⊕(Unit⊕(Unit))}(h:vX used c i=some y):aT Pg GE 0 (cA Xk 935) (LQ (fun(zz:Int)=>mD tag used c zz) mE (jV tag used c) y) (mD tag used c i):=by
 rcases aZ h with⟨c8,h⟩|⟨c8,h⟩
 ·obtain⟨x9,bx9,h⟩:=aB h
  have p11:=fun{sc F} (r:PS sc F)=>cz (bJ.ln used)<|sg 0 c8<|qX [0,0,3,7,0,16,63]<|sv (bJ.ia (k:=.i64) bx9)<|sv (im Mo (.str x9) [])<|sv (mJ c)<|sv (oI c)<|r
  rcases aZ h with⟨c10,h⟩|⟨c10,h⟩
  ·obtain rfl:=lf h
   have z:=p11<|sg 0 c10<|eF (mE (.inl ())) (jV tag used c (.inl ()))
   exact i7 Re (by intro hx;cases hx) z<|by kernel_rfl
  ·obtain rfl:=lf h
   exact rU Re (p11<|sg 0 c10<|eF .normal (mD tag used c (aR (i+1))))<|by kernel_rfl
 ·obtain rfl:=lf h
  have z:=cz (bJ.ln used)<|sg 0 c8<|eF (mE (.inr ())) (jV tag used c (.inr ()))
  exact i7 Re (by intro hx;cases hx) z<|by kernel_rfl
theorem AB{x:Unit⊕(Unit)}(h:uP used c i=some x):aT Pg GE 0 (.loop (cA Xk 935)) (EX (mE x) (jV tag used c x)) (mD tag used c i):=
 aT.loop (S:=fun(zz:Int)=>mD tag used c zz) (ex:=mE) (s:=i) h fun zz y hy=>Ik tag used c zz hy
end
section
variable(tag:Int)(used:waA)(c:ak)
def LI:az:=aY 60 [(1,.int .i64 tag),(2,sl cS used),(3,.eptr (ax c))] [.dead] []
def qk(o:Unit⊕(waA)):Exit:=match o with
 |(.inl _)=>.ret
 |(.inr _)=>.normal
def ii(o:Unit⊕(waA)):az:=match o with
 |(.inl o)=>aY 60 [(6,.bool false)] [.dead] []
 |(.inr o)=>aY 60 [(1,.int .i64 tag),(2,sl cS o),(3,.eptr (ax c))] [.dead] []
def Az:Option (Unit⊕(waA)):=
 (AA c).bind fun o5=>
 if o5=true then
  (uP used c 0).bind fun o12=>match o12 with
  |(.inl o12)=>
   some (.inl ())
  |(.inr o12)=>
   (app ([]:List ag) used).bind fun l13=>
   (app l13 ([c.Name]:List ag)).bind fun l14=>
   some (.inr l14)
 else
  some (.inr used)
theorem tD{x:Unit⊕(waA)}(h:Az used c=some x):aT Pg GE 0 (cA Xk 14) (EX (qk x) (ii tag c x)) (LI tag used c):=by
 obtain⟨o5,bo5,h⟩:=aB h
 have p7:=fun{sc F} (r:PS sc F)=>nD 0<|di (JO tag used c bo5)<|r
 rcases aZ h with⟨c6,h⟩|⟨c6,h⟩
 ·obtain⟨o12,bo12,h⟩:=aB h
  rcases o12 with o12|o12
  ·obtain rfl:=lf h
   exact cw Re (p7<|sg 0 c6<|di (e:=.ret) (s1:=jV tag used c (.inl o12)) (AB tag used c 0 bo12)<|eF (qk (.inl ())) (ii tag c (.inl ())))<|by kernel_rfl
  ·obtain⟨l13,bl13,h⟩:=aB h
   obtain⟨l14,bl14,h⟩:=aB h
   obtain rfl:=lf h
   exact cw Re (p7<|sg 0 c6<|di (e:=.exit 0) (s1:=jV tag used c (.inr o12)) (AB tag used c 0 bo12)<|qX [0,0,3,0,8,24,63,127]<|sv (bJ.mk' (v:=PVal.str) KI ([]:List ag) 0 (by kernel_rfl))<|sv (bJ.ap bl13)<|sv (mJ c)<|sv (oI c)<|sv (bJ.mk' (v:=PVal.str) KI ([c.Name]:List ag) 1 (by kernel_rfl))<|sv (bJ.ap bl14)<|eF (qk (.inr l14)) (ii tag c (.inr l14)))<|by kernel_rfl
 ·obtain rfl:=lf h
  exact cw Re (p7<|sg 0 c6<|eF (qk (.inr used)) (ii tag c (.inr used)))<|by kernel_rfl
end
section
variable(R134:yd)(tag:Int)(used:waA)(c:ak)(i:Int)
def mF:az:=aY 60 [(1,.int .i64 tag),(2,sl cS used),(3,.eptr (ax c)),(8,.int .i64 i)] [.dead] []
def mG(o:Unit⊕(Unit)):Exit:=match o with
 |(.inl _)=>.ret
 |(.inr _)=>.exit 2
def jW(o:Unit⊕(Unit)):az:=match o with
 |(.inl o)=>aY 60 [(6,.bool false)] [.dead] []
 |(.inr o)=>aY 60 [] [.dead] []
def vY:Option (Int⊕(Unit⊕(Unit))):=
 if(decide (i<(c.Kids.length:Int)))=true then
  (cR c.Kids i).bind fun x18=>
  (R134 x18 tag used).bind fun r19=>
  if(!r19)=true then
   some (.inr (.inl ()))
  else
   some (.inl (aR (i+1)))
 else
  some (.inr (.inr ()))
def qI:Option (Unit⊕(Unit)):=loop (fun(zz:Int)=>vY R134 tag used c zz) i
theorem Il(hR134:C3 R134){y:Int⊕(Unit⊕(Unit))}(h:vY R134 tag used c i=some y):aT Pg GE 0 (cA Xk 247) (LQ (fun(zz:Int)=>mF tag used c zz) mG jW y) (mF tag used c i):=by
 have p17:=fun{sc F} (r:PS sc F)=>sv (qn c)<|sv (qq c)<|cz (wt.ln c.Kids)<|r
 rcases aZ h with⟨c16,h⟩|⟨c16,h⟩
 ·obtain⟨x18,bx18,h⟩:=aB h
  obtain⟨r19,br19,h⟩:=aB h
  have p21:=fun{sc F} (r:PS sc F)=>p17<|sg 0 c16<|sv (qn c)<|sv (qq c)<|sv (wt.ia (k:=.i64) bx18)<|sv (oJ x18)<|bT (hR134 _ _ _ _ br19)<|r
  rcases aZ h with⟨c20,h⟩|⟨c20,h⟩
  ·obtain rfl:=lf h
   have z:=p21<|sg 0 c20<|eF (mG (.inl ())) (jW (.inl ()))
   exact i7 Re (by intro hx;cases hx) z<|by kernel_rfl
  ·obtain rfl:=lf h
   exact rU Re (p21<|sg 0 c20<|eF .normal (mF tag used c (aR (i+1))))<|by kernel_rfl
 ·obtain rfl:=lf h
  have z:=p17<|sg 0 c16<|eF (mG (.inr ())) (jW (.inr ()))
  exact i7 Re (by intro hx;cases hx) z<|by kernel_rfl
theorem AC(hR134:C3 R134){x:Unit⊕(Unit)}(h:qI R134 tag used c i=some x):aT Pg GE 0 (.loop (cA Xk 247)) (EX (mG x) (jW x)) (mF tag used c i):=
 aT.loop (S:=fun(zz:Int)=>mF tag used c zz) (ex:=mG) (s:=i) h fun zz y hy=>Il R134 tag used c zz hR134 hy
end
def yh(R134:yd)(c:ak)(tag:Int)(used:waA):Option Bool:=
 if(c.Op==3)=true then
  some (c.Tag==tag)
 else
  (Az used c).bind fun o15=>match o15 with
  |(.inl o15)=>
   some false
  | (.inr o15) =>
   (qI R134 tag o15 c 0).bind fun o22=>match o22 with
   |(.inl o22)=>
    some false
   |(.inr o22)=>
    some true
theorem NZ(R134:yd)(hR134:C3 R134){c:ak}{tag:Int}{used:waA}{r:Bool}(h:yh R134 c tag used=some r):CC Pg GE 20 [.agg (ax c),.int .i64 tag,sl cS used] (.bool r) []:=by
 have p2:=fun{sc F} (r:PS sc F)=>se (xf c)<|sv (v6 c)<|sv (wh c)<|r
 rcases aZ h with⟨c1,h⟩|⟨c1,h⟩
 ·obtain rfl:=lf h
  have z:=p2<|sg 0 c1<|sv (CN c)<|sv (ES c)<|en (aI (rP (.bool (c.Tag==tag)))<|trivial)
  exact cn Re call20 func20 (c:=Xk) rfl (aI (bA c) (aI trivial (aI (aq gG used) trivial))) z<|by kernel_rfl
 ·obtain⟨o15,bo15,h⟩:=aB h
  rcases o15 with o15|o15
  ·obtain rfl:=lf h
   have z:=p2<|sg 0 c1<|nD 0<|di (e:=.ret) (s1:=ii tag c (.inl o15)) (tD tag used c bo15)<|en (aI (rP (.bool false))<|trivial)
   exact cn Re call20 func20 (c:=Xk) rfl (aI (bA c) (aI trivial (aI (aq gG used) trivial))) z<|by kernel_rfl
  ·obtain⟨o22,bo22,h⟩:=aB h
   rcases o22 with o22|o22
   ·obtain rfl:=lf h
    have z:=p2<|sg 0 c1<|nD 0<|di (e:=.normal) (s1:=ii tag c (.inr o15)) (tD tag used c bo15)<|di (e:=.ret) (s1:=jW (.inl o22)) (AC R134 tag o15 c 0 hR134 bo22)<|en (aI (rP (.bool false))<|trivial)
    exact cn Re call20 func20 (c:=Xk) rfl (aI (bA c) (aI trivial (aI (aq gG used) trivial))) z<|by kernel_rfl
   ·obtain rfl:=lf h
    have z:=p2<|sg 0 c1<|nD 0<|di (e:=.normal) (s1:=ii tag c (.inr o15)) (tD tag used c bo15)<|di (e:=.exit 2) (s1:=jW (.inr o22)) (AC R134 tag o15 c 0 hR134 bo22)<|en (aI (rP (.bool true))<|trivial)
    exact cn Re call20 func20 (c:=Xk) rfl (aI (bA c) (aI trivial (aI (aq gG used) trivial))) z<|by kernel_rfl
def Dh:((ak×Int×waA)->Option Bool)->(ak×Int×waA)->Option Bool:=fun(rec:(ak×Int×waA)->Option Bool) (x:ak×Int×waA)=>yh (fun c tag used=>rec (c,tag,used)) x.1 x.2.1 x.2.2
def JN(c:ak)(tag:Int)(used:waA):Option Bool:=oG Dh (c,tag,used)
theorem PD{c:ak}{tag:Int}{used:waA}{r:Bool}(h:JN c tag used=some r):CC Pg GE 20 [.agg (ax c),.int .i64 tag,sl cS used] (.bool r) []:=
 cU (F:=Dh) (M:=fun(x:ak×Int×waA) (r:Bool)=>CC Pg GE 20 [.agg (ax x.1),.int .i64 x.2.1,sl cS x.2.2] (.bool r) []) (fun rec hrec x r h=>NZ _ (fun c tag used r h=>hrec (c,tag,used) r h) h) h
noncomputable def b5:Code:=Tryz.f5.body.getD .skip
def A5:List Nat:=[]
section
variable(used:waA)(m:aQ)(v:aD)
def Ay:az:=aY 73 [(2,sl cS used),(3,.eptr (aC m)),(4,.eptr (ay v))] [.dead,.dead] []
def dW(o:Bool):az:=aY 73 [(2,sl cS used),(3,.eptr (aC m)),(4,.eptr (ay v)),(33,.bool o)] [.dead,.dead] []
def nq:Option Bool:=
 (wF m).bind fun r1=>
 if(!r1)=true then
  some true
 else
  (pB v.A).bind fun r4=>
  if(!r4)=true then
   some true
  else
   (pB v.B).bind fun r7=>
   if(!r7)=true then
    some true
   else
    (El used).bind fun r10=>
    if(!r10)=true then
     some true
    else
     (wJ v).bind fun r13=>
     some (!r13)
theorem zc{x:Bool}(h:nq used m v=some x):aT Pg GE 0 (cA b5 12) (EX .normal (dW used m v x)) (Ay used m v):=by
 obtain⟨r1,br1,h⟩:=aB h
 have p3:=fun{sc F} (r:PS sc F)=>sv (DB m)<|bT (NU br1)<|r
 rcases aZ h with⟨c2,h⟩|⟨c2,h⟩
 ·obtain rfl:=lf h
  exact cw A5 (p3<|sg 4 c2<|eF .normal (dW used m v true))<|by kernel_rfl
 ·obtain⟨r4,br4,h⟩:=aB h
  have p6:=fun{sc F} (r:PS sc F)=>p3<|sg 4 c2<|sv (fm v)<|sv (ft v)<|bT (Em br4)<|r
  rcases aZ h with⟨c5,h⟩|⟨c5,h⟩
  ·obtain rfl:=lf h
   exact cw A5 (p6<|sg 10 c5<|eF .normal (dW used m v true))<|by kernel_rfl
  ·obtain⟨r7,br7,h⟩:=aB h
   have p9:=fun{sc F} (r:PS sc F)=>p6<|sg 10 c5<|sv (fo v)<|sv (fu v)<|bT (Em br7)<|r
   rcases aZ h with⟨c8,h⟩|⟨c8,h⟩
   ·obtain rfl:=lf h
    exact cw A5 (p9<|sg 16 c8<|eF .normal (dW used m v true))<|by kernel_rfl
   ·obtain⟨r10,br10,h⟩:=aB h
    have p12:=fun{sc F} (r:PS sc F)=>p9<|sg 16 c8<|bT (Rg br10)<|r
    rcases aZ h with⟨c11,h⟩|⟨c11,h⟩
    ·obtain rfl:=lf h
     exact cw A5 (p12<|sg 21 c11<|eF .normal (dW used m v true))<|by kernel_rfl
    ·obtain⟨r13,br13,h⟩:=aB h
     obtain rfl:=lf h
     exact cw A5 (p12<|sg 21 c11<|sv (wl v)<|bT (NY br13)<|eF .normal (dW used m v (!r13)))<|by kernel_rfl
end
def ry(m:aQ)(a:aD)(used:waA):Option Bool:=
 (nq used m a).bind fun o14=>
 if o14=true then
  wI.bind fun r17=>
  some r17
 else
  (kW m a.A a.B a.Tag used).bind fun r18=>
  if (r18.2 != 0) = true then
   if (r18.2 == 12) = true then
    if(r18.1.Op==0)=true then
     if((r18.1.Kids.length:Int)==0)=true then
      wI.bind fun r27=>
      some r27
     else
      some false
    else
     some false
   else
    some false
  else
   (JN r18.1 a.Tag used).bind fun r28=>
   if r28=true then
    wI.bind fun r31=>
    some r31
   else
    some false
theorem De{m:aQ}{a:aD}{used:waA}{r:Bool}(h:ry m a used=some r):CC Pg GE 5 [.agg (aC m),.agg (ay a),sl cS used] (.bool r) []:=by
 obtain⟨o14,bo14,h⟩:=aB h
 have p16:=fun{sc F} (r:PS sc F)=>se (tX m)<|se (mP a)<|nD 1<|di (zc used m a bo14)<|r
 rcases aZ h with⟨c15,h⟩|⟨c15,h⟩
 ·obtain⟨r17,br17,h⟩:=aB h
  obtain rfl:=lf h
  have z:=p16<|sg 0 c15<|bT (yf br17)<|en (aI (rP (.bool r17))<|trivial)
  exact cn A5 call5 func5 (c:=b5) rfl (aI (eW m) (aI (bU a) (aI (aq gG used) trivial))) z<|by kernel_rfl
 ·obtain⟨r18,br18,h⟩:=aB h
  have p20:=fun{sc F} (r:PS sc F)=>p16<|sg 0 c15<|sv (DB m)<|sv (fm a)<|sv (ft a)<|sv (fo a)<|sv (fu a)<|sv (ja a)<|sv (jc a)<|bT (o8 br18)<|sx zq<|sx (dG r18.1)<|r
  rcases aZ h with⟨c19,h⟩|⟨c19,h⟩
  ·have p22:=fun{sc F} (r:PS sc F)=>p20<|sg 0 c19<|r
   rcases aZ h with⟨c21,h⟩|⟨c21,h⟩
   ·have p24:=fun{sc F} (r:PS sc F)=>p22<|sg 3 c21<|ss<|r
    rcases aZ h with⟨c23,h⟩|⟨c23,h⟩
    ·have p26:=fun{sc F} (r:PS sc F)=>p24<|sg 8 c23<|ss<|cz (wt.ln r18.1.Kids)<|r
     rcases aZ h with⟨c25,h⟩|⟨c25,h⟩
     ·obtain⟨r27,br27,h⟩:=aB h
      obtain rfl:=lf h
      have z:=p26<|sg 14 c25<|bT (yf br27)<|en (aI (rP (.bool r27))<|trivial)
      exact cn A5 call5 func5 (c:=b5) rfl (aI (eW m) (aI (bU a) (aI (aq gG used) trivial))) z<|by kernel_rfl
     ·obtain rfl:=lf h
      have z:=p26<|sg 14 c25<|en (aI (rP (.bool false))<|trivial)
      exact cn A5 call5 func5 (c:=b5) rfl (aI (eW m) (aI (bU a) (aI (aq gG used) trivial))) z<|by kernel_rfl
    ·obtain rfl:=lf h
     have z:=p24<|sg 8 c23<|en (aI (rP (.bool false))<|trivial)
     exact cn A5 call5 func5 (c:=b5) rfl (aI (eW m) (aI (bU a) (aI (aq gG used) trivial))) z<|by kernel_rfl
   ·obtain rfl:=lf h
    have z:=p22<|sg 3 c21<|en (aI (rP (.bool false))<|trivial)
    exact cn A5 call5 func5 (c:=b5) rfl (aI (eW m) (aI (bU a) (aI (aq gG used) trivial))) z<|by kernel_rfl
  ·obtain⟨r28,br28,h⟩:=aB h
   have p30:=fun{sc F} (r:PS sc F)=>p20<|sg 0 c19<|sv (j1 r18.1 [])<|sv (ja a)<|sv (jc a)<|bT (PD br28)<|r
   rcases aZ h with⟨c29,h⟩|⟨c29,h⟩
   ·obtain⟨r31,br31,h⟩:=aB h
    obtain rfl:=lf h
    have z:=p30<|sg 6 c29<|bT (yf br31)<|en (aI (rP (.bool r31))<|trivial)
    exact cn A5 call5 func5 (c:=b5) rfl (aI (eW m) (aI (bU a) (aI (aq gG used) trivial))) z<|by kernel_rfl
   ·obtain rfl:=lf h
    have z:=p30<|sg 6 c29<|en (aI (rP (.bool false))<|trivial)
    exact cn A5 call5 func5 (c:=b5) rfl (aI (eW m) (aI (bU a) (aI (aq gG used) trivial))) z<|by kernel_rfl
theorem QS{α β X:Type}(g:α->β)(e:List β->X):∀(l:List α) (i:Nat) (s:List β),ph (fun _ x (s:List β)=>(Sum.inl (s++[g x]):List β⊕X)) e l i s=e (s++l.map g)
 |[],i,s=>by simp[ph]
 |x::l,i,s=>by
  unfold ph
  simp only
  rw[QS g e l (i+1) (s++[g x])]
  simp
theorem Qk{α β τ X:Type}(l:List α)(hl:l.length<9223372036854775808)(mk:Int->List β->τ)(body:τ->Option (τ⊕X))(g:α->β)(e:List β->X)
  (hin:∀(i:Nat) (h:i<l.length) s,s.length=i->body (mk i s)=some (.inl (mk (aR ((i:Int)+1)) (s++[g l[i]])))) (hend:∀s,body (mk l.length s)=some (.inr (e s))):loop body (mk 0 [])=some (e (l.map g)):=by
 have:=oL l hl mk body (fun i s=>s.length=i) (fun _ x s=>.inl (s++[g x])) e (fun i h s hs=>⟨hin i h s hs,fun s' hs'=>by cases hs';simp[hs]⟩) (fun s _=>hend s) 0 [] (vaO _) rfl
 rw[QS]at this
 exact this
set_option linter.unusedSimpArgs false
abbrev qcr(a:List ag):Prop:=a.length<9223372036854775808
def SX(l:List ag)(s:ag):Int:=match l.findIdx? (fun x=>x==s)with|some j=>(j:Int)|none=>-1
theorem nH(l:List ag)(s:ag)(hl:l.length<9223372036854775808):wC l s=some (SX l s):=by
 unfold wC zH
 have:=M0 l hl (fun zz=>me l s l.length zz) (fun x=>x==s) (fun j=>Sum.inl (j:Int)) (Sum.inr ()) (fun i h=>by
  simp only[me]
  rw[vak (by simp;omega),bv _ i h]
  simp only[vaa]
  split<;>simp_all) (by simp only[me];rw[van (by simp)])
 rw[this]
 unfold SX
 cases l.findIdx? (fun x=>x==s)<;>rfl
theorem sF(l:List ag)(s:ag):decide (SX l s>=0)=l.any fun k=>k==s:=by
 unfold SX
 cases h:l.findIdx? (fun x=>x==s)with
 |none=>
  rw[vcc]at h
  symm
  simp only[vbt]
  rw[show decide ((-1:Int)>=0)=false from rfl]
  simp only[vbt,Bool.not_eq_true]
  exact h
 | some j =>
  have h2:l.any (fun x=>x==s)=true:=by
   have:=List.findIdx?_isSome (xs:=l) (p:=fun x=>x==s)
   rw[h]at this
   exact this.symm
  rw[h2]
  simp
theorem M1{α:Type}(k:ag)(v:α)(j:ag):∀(m:List (ag×α)),zp (EY m k v) j=if(j==k)=true then some v else zp m j
 |[]=>by
  simp only[EY,zp,List.find?_cons,List.find?_nil]
  cases(j==k)<;>rfl
 | e :: r => by
  have ih:=M1 k v j r
  unfold EY
  by_cases h:(k==e.1)=true
  ·have h':k=e.1:=by simpa using h
   rw[vak h]
   unfold zp
   simp only[List.find?_cons]
   rw[<-h']
   cases hj:(j==k)<;>simp
  ·rw [van h]
   unfold zp at ih ⊢
   simp only[List.find?_cons]
   cases hj:(j==e.1)
   ·simpa using ih
   ·have:¬(j==k)=true:=fun hk=>h (by
      have h1:j=e.1:=by simpa using hj
      have h2:j=k:=by simpa using hk
      simp[<-h1,<-h2])
    simp[this]
abbrev KD(m:List (ag×Bool))(k:ag):Bool:=(zp m k).getD false
theorem Wq(m:List (ag×Bool))(k j:ag):KD (EY m k true) j=(j==k||KD m j):=by
 unfold KD
 rw[M1]
 cases(j==k)<;>rfl
def RI(l:ag):Nat:=l.foldl (fun a c=>10 * a+(c.toNat - 48)) 0
theorem J5(u:Nat):RI (Lib.decDigits u)=u:=by
 induction u using Nat.strongRecOn with
 | _ u ih =>
  rw[Lib.decDigits]
  by_cases h:u<10
  ·rw[dif_pos h]
   unfold RI
   simp
   omega
  ·rw[dif_neg h]
   have:=ih (u / 10) (by omega)
   unfold RI at this ⊢
   rw[vch,this]
   simp
   omega
theorem XQ{u v:Nat}(h:Lib.decDigits u=Lib.decDigits v):u=v:=by rw[<-J5 u,<-J5 v,h]
theorem Oh(u:Nat):(Lib.decDigits u).length<=u+1:=by
 induction u using Nat.strongRecOn with
 | _ u ih =>
  rw[Lib.decDigits]
  by_cases h:u<10
  ·rw[dif_pos h];simp
  ·rw[dif_neg h]
   have:=ih (u / 10) (by omega)
   simp
   omega
theorem Nq:∀(k n:Nat) (acc:ag),n<=k->n<=1000000000->acc.length<=1000000000 - n->qC acc n=some (if n=0 then acc else Lib.decDigits n++acc)
 |k,0,acc,_,_,_=>by
  unfold qC
  exact j2 rfl
 |0,n+1,_,h,_,_=>absurd h (by omega)
 | k + 1,n + 1,acc,hk,hn,ha => by
  have hb:qb acc ((n+1:Nat):Int)=some (.inl (UInt8.ofNat (48+(n+1) % 10)::acc,(((n+1) / 10:Nat):Int))):=by
   simp only[qb]
   have h1:(((n+1:Nat):Int)!=0)=true:=by simp;omega
   have h2:re ((n+1:Nat):Int) 10=some (((n+1) % 10:Nat):Int):=by
    simp only[re]
    have e:((n+1:Nat):Int) % 10=(((n+1) % 10:Nat):Int):=by omega
    rw[van (by omega),Int.tmod_eq_emod_of_nonneg (by omega),e]
   have h3:zD (((n+1) % 10:Nat):Int)=some (((n+1) % 10:Nat):Int):=by
    simp only[zD]
    rw[van (by simp;omega)]
   have h4:IntKind.u8.wrap (aR (48+(((n+1) % 10:Nat):Int)))=((48+(n+1) % 10:Nat):Int):=by
    rw[dB (by omega) (by omega)]
    have h5:(48:Int)+(((n+1) % 10:Nat):Int)=((48+(n+1) % 10:Nat):Int):=by omega
    rw[h5]
    generalize hq:48+(n+1) % 10=q
    have:q<58:=by omega
    show((q:Int) % 256)=q
    omega
   have h6:EB [((48+(n+1) % 10:Nat):Int)]=some [UInt8.ofNat (48+(n+1) % 10)]:=by
    simp only[EB]
    rw[vak (by omega)]
    rfl
   have h7:qu .i64 ((n+1:Nat):Int) 10=some (((n+1) / 10:Nat):Int):=by
    simp only[qu]
    rw[van (by omega),vb5 (by omega)]
    have e:((n+1:Nat):Int) / 10=(((n+1) / 10:Nat):Int):=by omega
    rw[e]
    exact vbr some (dB (by omega) (by omega))
   rw[h1]
   simp only[if_true,h2,vaa,h3,h4,h6]
   rw[JW (by simp;omega),h7]
   rfl
  unfold qC
  refine(pI (body:=fun zz:ag×Int=>qb zz.1 zz.2) (s:=(acc,((n+1:Nat):Int))) (s':=(UInt8.ofNat (48+(n+1) % 10)::acc,(((n+1) / 10:Nat):Int))) hb).trans ?_
  have ih:=Nq k ((n+1) / 10) (UInt8.ofNat (48+(n+1) % 10)::acc) (by omega) (by omega) (by simp;omega)
  unfold qC at ih
  rw[ih,van (by omega:¬n+1=0)]
  conv=>rhs;rw[Lib.decDigits]
  by_cases h:n+1<10
  ·rw[dif_pos h,vak (by omega),vbW h]
   rfl
  ·rw[dif_neg h,van (by omega)]
   simp
theorem GZ(n:Nat)(h0:1<=n)(h:n<=1000000000):I2 n=some (Lib.decDigits n):=by
 unfold I2
 have h1:((n:Int)==0)=false:=by simp;omega
 rw[h1,Nq n n [] (vah _) h (by simp)]
 have h2:decide ((n:Int)<0)=false:=by simp
 simp only[va5,if_false,vaa,h2]
 rw[van (by omega)]
 simp
theorem P8(n:Nat)(h:n<=1000000000):S6 n=some (Lib.decDigits n):=by
 unfold S6 Lib.itoa
 rw[vak (by simp;omega),van (by omega)]
 rfl
theorem WM:∀(used L:List ag),L.Nodup->used.length<L.length->∃x∈L,x∉used
 |[],L,_,h=>by
  cases L with
  |nil=>simp at h
  |cons x L=>exact⟨x,by simp,by simp⟩
 | u :: us,L,hn,h => by
  obtain⟨x,hx,hu⟩:=WM us (L.erase u) (hn.erase u) (by
   have:=List.length_erase (a:=u) (l:=L)
   rw[this]
   simp at h
   split<;>omega)
  rw[hn.mem_erase_iff]at hx
  exact⟨x,hx.2,by simp[hx.1,hu]⟩
theorem P0(used:List ag)(base:ag):∃n,1<=n/\n<=used.length+1/\base++Lib.decDigits n∉used:=by
 obtain⟨x,hx,hu⟩:=WM used ((List.range (used.length+1)).map fun i=>base++Lib.decDigits (i+1)) (by
  unfold List.Nodup
  rw[List.pairwise_map]
  refine vcO ?_ (List.nodup_range (n:=used.length+1))
  intro a b hab e
  have:=XQ (List.append_cancel_left e)
  omega) (by simp)
 simp only[vap,vbs]at hx
 obtain⟨i,hi,rfl⟩:=hx
 exact⟨i+1,by omega,by omega,hu⟩
def kJ(used:List ag)(base:ag):Nat->Nat->ag
 |0,_=>[]
 |k+1,n=>if used.contains (base++Lib.decDigits n)=true then kJ used base k (n+1)else base++Lib.decDigits n
def fq(used:List ag)(base:ag):ag:=if used.contains base=true then kJ used base 100000001 1 else base
theorem E0(used:List ag)(hl:qcr used):∃m,oM used used.length 0 []=some m/\∀k,KD m k=used.contains k:=by
 unfold oM
 have:=oL used hl (fun i (m:List (ag×Bool))=>(i,m)) (fun zz=>iR used used.length zz.1 zz.2) (fun _ _=>True) (fun _ x m=>.inl (EY m x true)) (fun m=>m) (fun i hi t _=>⟨by
   simp only[iR]
   rw[vak (by simp;omega),bv _ i hi]
   rfl,fun _ _=>trivial⟩) (fun _ _=>by simp only[iR];rw[van (by simp)]) 0 [] (vaO _) trivial
 simp only[Int.ofNat_zero,va2]at this
 rw[this]
 refine⟨_,rfl,?_⟩
 have key:∀(l:List ag) (i:Nat) (m:List (ag×Bool)) k,KD (ph (fun _ x (m:List (ag×Bool))=>(Sum.inl (EY m x true):List (ag×Bool)⊕List (ag×Bool))) (fun m=>m) l i m) k=(l.contains k||KD m k):=by
  intro l
  induction l with
  |nil=>intro i m k;simp[ph]
  |cons x l ih=>
   intro i m k
   unfold ph
   simp only[ih,Wq,List.contains_cons]
   cases(k==x)<;>cases l.contains k<;>simp
 intro k
 rw[key]
 simp[KD,zp]
theorem Hh(used:List ag)(base:ag)(m:List (ag×Bool))(hm:∀k,KD m k=used.contains k)(hl:used.length<=100000000)(hb:base.length<=4000000000000000000)(N:Nat)(hN:base++Lib.decDigits N∉used)(hN2:N<=100000001):∀(k n:Nat),1<=n->n<=N->N<n+k->kP base m n=some (kJ used base k n)/\kZ used base (base++Lib.decDigits n) ((n+1:Nat):Int)=some (kJ used base k n)/\kJ used base k n∉used
 |0,n,_,h1,h2=>absurd h2 (by omega)
 | k + 1,n,h0,h1,h2 => by
  have hd:=Oh n
  have hd2:=Oh (n+1)
  have e1:aR ((n:Int)+1)=((n+1:Nat):Int):=by rw[dB (by omega) (by omega)];omega
  have e2:aR (((n+1:Nat):Int)+1)=((n+2:Nat):Int):=by rw[dB (by omega) (by omega)];omega
  unfold kJ
  by_cases hc:used.contains (base++Lib.decDigits n)=true
  ·rw[vak hc]
   have hne:n≠N:=by
    rintro rfl
    exact hN (by simpa using hc)
   obtain⟨i1,i2,i3⟩:=Hh used base m hm hl hb N hN hN2 k (n+1) (by omega) (by omega) (by omega)
   have hm':=hm (base++Lib.decDigits n)
   unfold KD at hm'
   have b1:gk base m (n:Int)=some (.inl (((n+1:Nat):Int))):=by
    simp only[gk]
    rw[P8 n (by omega)]
    simp only[vaa]
    rw[JW (by omega)]
    simp only[vaa,hm',hc,e1]
    rfl
   have b2:cO used base (base++Lib.decDigits n) ((n+1:Nat):Int)=some (.inl (base++Lib.decDigits (n+1),((n+2:Nat):Int))):=by
    simp only[cO]
    rw[nH _ _ (by omega)]
    simp only[vaa,sF]
    have:(used.any fun k=>k==base++Lib.decDigits n)=true:=by simpa[vbo]using hc
    rw[this,vak rfl,GZ (n+1) (by omega) (by omega)]
    simp only[vaa]
    rw[JW (by omega)]
    simp only[vaa,e2]
   refine⟨?_,?_,i3⟩
   ·unfold kP at i1 ⊢
    exact(pI b1).trans i1
   ·unfold kZ at i2 ⊢
    exact(pI (body:=fun zz:ag×Int=>cO used base zz.1 zz.2) (s:=(base++Lib.decDigits n,((n+1:Nat):Int))) (s':=(base++Lib.decDigits (n+1),((n+2:Nat):Int))) b2).trans i2
  ·rw[van hc]
   have hc':used.contains (base++Lib.decDigits n)=false:=by simpa using hc
   have hm':=hm (base++Lib.decDigits n)
   unfold KD at hm'
   have b1:gk base m (n:Int)=some (.inr (base++Lib.decDigits n)):=by
    simp only[gk]
    rw[P8 n (by omega)]
    simp only[vaa]
    rw[JW (by omega)]
    simp only[vaa,hm',hc']
    rfl
   have b2:cO used base (base++Lib.decDigits n) ((n+1:Nat):Int)=some (.inr (base++Lib.decDigits n)):=by
    simp only[cO]
    rw[nH _ _ (by omega)]
    simp only[vaa,sF]
    have:(used.any fun k=>k==base++Lib.decDigits n)=false:=by
     rw[vcj]
     intro h
     apply hc
     simpa[vbo]using h
    rw[this]
    rfl
   refine⟨?_,?_,by simpa using hc⟩
   ·unfold kP
    exact j2 b1
   ·unfold kZ
    exact j2 (body:=fun zz:ag×Int=>cO used base zz.1 zz.2) (s:=(base++Lib.decDigits n,((n+1:Nat):Int))) b2
theorem wB(used:List ag)(base:ag)(hl:used.length<=100000000)(hb:base.length<=4000000000000000000):kO used base=some (fq used base)/\FE used base=some (fq used base)/\fq used base∉used:=by
 obtain⟨m,hm1,hm⟩:=E0 used (show _<_ by omega)
 have hm':=hm base
 unfold KD at hm'
 obtain⟨N,h1,h2,h3⟩:=P0 used base
 obtain⟨i1,i2,i3⟩:=Hh used base m hm hl hb N h3 (by omega) 100000001 1 (vah _) h1 (by omega)
 unfold kO FE fq
 rw[hm1]
 simp only[vaa,hm']
 have hd:=Oh 1
 by_cases hc:used.contains base=true
 ·simp only[hc,vcM,va5,if_false,if_true]
  simp only[Int.ofNat_one]at i1
  rw[i1]
  have b2:cO used base base 1=some (.inl (base++Lib.decDigits 1,((2:Nat):Int))):=by
   simp only[cO]
   rw[nH _ _ (by omega)]
   simp only[vaa,sF]
   have:(used.any fun k=>k==base)=true:=by simpa[vbo]using hc
   have ht:=GZ 1 (by omega) (by omega)
   simp only[Int.ofNat_one]at ht
   rw[this,vak rfl,ht]
   simp only[vaa]
   rw[JW (by omega)]
   rfl
  unfold kZ at i2 ⊢
  have:=(pI (body:=fun zz:ag×Int=>cO used base zz.1 zz.2) (s:=(base,1)) (s':=(base++Lib.decDigits 1,((2:Nat):Int))) b2).trans i2
  rw[this]
  exact⟨rfl,rfl,i3⟩
 ·have hc':used.contains base=false:=by simpa using hc
  simp only[hc',vcA,if_true,va5,if_false]
  have b2:cO used base base 1=some (.inr base):=by
   simp only[cO]
   rw[nH _ _ (by omega)]
   simp only[vaa,sF]
   have:(used.any fun k=>k==base)=false:=by
    rw[vcj]
    intro h
    apply hc
    simpa[vbo]using h
   rw[this]
   rfl
  unfold kZ
  have:=j2 (body:=fun zz:ag×Int=>cO used base zz.1 zz.2) (s:=(base,1)) b2
  rw[this]
  exact⟨trivial,rfl,by simpa using hc⟩
theorem EL{u v:List ag}(h:∀x,x∈u↔x∈v)(base:ag):∀(k n:Nat),kJ u base k n=kJ v base k n
 |0,n=>by rw[kJ,kJ]
 | k + 1,n => by
  have e:u.contains (base++Lib.decDigits n)=v.contains (base++Lib.decDigits n):=by
   rw[vb2,vbz,vbz]
   exact h _
  rw[kJ,kJ,e,EL h base k (n+1)]
theorem Ow{u v:List ag}(h:∀x,x∈u↔x∈v)(base:ag):fq u base=fq v base:=by
 have e:u.contains base=v.contains base:=by
  rw[vb2,vbz,vbz]
  exact h _
 unfold fq
 rw[e,EL h]
abbrev Va(x y:ag):Prop:=Op.bytesLess x y=true
theorem wL:∀(x:ag),Op.bytesLess x x=false
 |[]=>rfl
 |a::x=>by
  unfold Op.bytesLess
  rw[wL x]
  simp[UInt8.lt_irrefl]
theorem AG:∀{x y z:ag},Va x y->Va y z->Va x z
 |_,_,[],h1,h2=>by simp[Va,Op.bytesLess]at h2
 |_,[],_::_,h1,h2=>by simp[Va,Op.bytesLess]at h1
 |[],_::_,_::_,_,_=>rfl
 | a :: x,b :: y,c :: z,h1,h2 => by
  unfold Va Op.bytesLess at h1 h2 ⊢
  simp only[vbc,vam,vag,va1]at h1 h2 ⊢
  rcases h1 with h1|⟨rfl,h1⟩
  ·rcases h2 with h2|⟨rfl,h2⟩
   ·exact .inl (UInt8.lt_trans h1 h2)
   ·exact .inl h1
  ·rcases h2 with h2|⟨rfl,h2⟩
   ·exact .inl h2
   ·exact .inr ⟨rfl,AG h1 h2⟩
theorem Ex:∀{x y:ag},Op.bytesLess x y=false->Op.bytesLess y x=false->x=y
 |[],[],_,_=>rfl
 |[],_::_,h,_=>by simp[Op.bytesLess]at h
 |_::_,[],_,h=>by simp[Op.bytesLess]at h
 | a :: x,b :: y,h1,h2 => by
  unfold Op.bytesLess at h1 h2
  simp only[Bool.or_eq_false_iff,vbm,Bool.and_eq_false_imp,va1]at h1 h2
  have hab:a=b:=by
   have k1:=UInt8.not_lt.1 h1.1
   have k2:=UInt8.not_lt.1 h2.1
   exact UInt8.le_antisymm k2 k1
  subst hab
  rw[Ex (h1.2 rfl) (h2.2 rfl)]
theorem YN:∀(x y:ag),Op.bytesLess x y=decide (x<y)
 |[],[]=>by simp[Op.bytesLess]
 |_::_,[]=>by simp[Op.bytesLess]
 |[],_::_=>by simp[Op.bytesLess]
 |a::x,b::y=>by
  unfold Op.bytesLess
  rw[YN x y,vb2]
  simp[List.cons_lt_cons_iff]
theorem S7(x y:ag):decide (x<=y)= !Op.bytesLess y x:=by
 rw[YN]
 rw[<-decide_not]
 rfl
abbrev YJ(l:List ag):Prop:=l.Pairwise Va
theorem Ko:∀{a b:List ag},YJ a->YJ b->(∀x,x∈a↔x∈b)->a=b
 |[],[],_,_,_=>rfl
 |[],y::b,_,_,h=>by have:=(h y).2 (by simp);simp at this
 |x::a,[],_,_,h=>by have:=(h x).1 (by simp);simp at this
 | x :: a,y :: b,ha,hb,h => by
  unfold YJ at ha hb
  rw[List.pairwise_cons]at ha hb
  have hxy:x=y:=by
   have h1:=(h x).1 (by simp)
   have h2:=(h y).2 (by simp)
   rw[vaA]at h1 h2
   rcases h1 with h1|h1
   ·exact h1
   ·rcases h2 with h2|h2
    ·exact h2.symm
    ·have:=AG (hb.1 x h1) (ha.1 y h2)
     unfold Va at this
     rw[wL]at this
     cases this
  subst hxy
  congr 1
  refine Ko ha.2 hb.2 fun z=>?_
  constructor
  ·intro hz
   have:=(h z).1 (by simp[hz])
   rw[vaA]at this
   rcases this with rfl|this
   ·have:=ha.1 _ hz;unfold Va at this;rw[wL]at this;cases this
   ·exact this
  ·intro hz
   have:=(h z).2 (by simp[hz])
   rw[vaA]at this
   rcases this with rfl|this
   ·have:=hb.1 _ hz;unfold Va at this;rw[wL]at this;cases this
   ·exact this
theorem Pb(l:List ag):(kV l).Pairwise fun x y=>Op.bytesLess y x=false:=by
 have:=List.pairwise_mergeSort (le:=fun x y:ag=>decide (x<=y)) (fun a b c h1 h2=>by
  rw[S7]at h1 h2 ⊢
  simp only[va3]at h1 h2 ⊢
  cases h:Op.bytesLess c a with
  |false=>rfl
  | true =>
   exfalso
   by_cases hb:Op.bytesLess a b=true
   ·have:=AG h hb
    unfold Va at this
    rw[h2]at this
    cases this
   ·have:a=b:=Ex (by simpa using hb) h1
    subst this
    rw[h2]at h
    cases h) (fun a b=>by
  rw[S7,S7]
  cases h:Op.bytesLess b a with
  |false=>rfl
  | true =>
   cases h':Op.bytesLess a b with
   |false=>rfl
   |true=>
    have:=AG h h'
    unfold Va at this
    rw[wL]at this
    cases this) l
 refine vcO ?_ this
 intro a b h
 rw[S7]at h
 simpa using h
theorem U2(l:List ag)(x:ag):x∈kV l↔x∈l:=List.mem_mergeSort
theorem CF(d:List ag)(hs:d.Pairwise fun x y=>Op.bytesLess y x=false):∀m,m<=d.length->YJ (Lib.compactUpTo d.toArray m)/\∀x,x∈Lib.compactUpTo d.toArray m↔∃(j:Nat) (h:j<d.length),j<m/\d[j]=x
 |0,_=>by
  refine⟨by simp[Lib.compactUpTo,YJ],fun x=>?_⟩
  simp[Lib.compactUpTo]
 | m + 1,hm => by
  obtain⟨h1,h2⟩:=CF d hs m (by omega)
  have hg:∀j (h:j<d.length),d.toArray[j]! =d[j]:=fun j h=>by simp[h]
  rw[Lib.compactUpTo_succ]
  by_cases hk:Lib.keeps d.toArray m=true
  ·rw [vak hk,hg m (by omega)]
   refine⟨?_,fun x=>?_⟩
   ·unfold YJ
    rw[List.pairwise_append]
    refine⟨h1,by simp,fun x hx y hy=>?_⟩
    simp at hy
    subst hy
    obtain⟨j,hj,hjm,rfl⟩:=(h2 x).1 hx
    have hne:d[m - 1]≠d[m]:=by
     unfold Lib.keeps at hk
     simp only[vam]at hk
     rcases hk with hk|hk
     ·omega
     ·rw[hg m (by omega),hg (m - 1) (by omega)]at hk
      exact fun e=>hk e.symm
    have hlt:Op.bytesLess d[m - 1] d[m]=true:=by
     have k1:=(vcd.1 hs) (m - 1) m (by omega) (by omega) (by omega)
     cases h:Op.bytesLess d[m - 1] d[m]with
     |true=>rfl
     |false=>exact absurd (Ex h k1) hne
    by_cases hj2:j=m - 1
    ·subst hj2;exact hlt
    ·have k2:=(vcd.1 hs) j (m - 1) (by omega) (by omega) (by omega)
     cases h:Op.bytesLess d[j] d[m - 1]with
     |true=>exact AG h hlt
     |false=>
      have:=Ex h k2
      rw[this];exact hlt
   ·rw[vaE,h2]
    constructor
    ·rintro(⟨j,hj,hjm,rfl⟩|hx)
     ·exact⟨j,hj,by omega,rfl⟩
     ·simp at hx;exact⟨m,by omega,by omega,hx.symm⟩
    ·rintro⟨j,hj,hjm,rfl⟩
     by_cases e:j=m
     ·subst e;exact .inr (by simp)
     ·exact .inl ⟨j,hj,by omega,rfl⟩
  ·rw [van hk,va6]
   refine⟨h1,fun x=>?_⟩
   rw[h2]
   constructor
   ·rintro⟨j,hj,hjm,rfl⟩;exact⟨j,hj,by omega,rfl⟩
   ·rintro⟨j,hj,hjm,rfl⟩
    by_cases e:j=m
    ·subst e
     have:j≠0/\d.toArray[j]! =d.toArray[j - 1]! :=by
      unfold Lib.keeps at hk
      simp only[vam,not_or,ne_eq,Decidable.not_not]at hk
      exact hk
     rw[hg j hj,hg (j - 1) (by omega)]at this
     exact⟨j - 1,by omega,by omega,this.2.symm⟩
    ·exact⟨j,hj,by omega,rfl⟩
def IH(a b:List ag):List ag:=Lib.compact (kV (a++b))
theorem K7(a b:List ag):YJ (IH a b)/\∀x,x∈IH a b↔x∈a\/x∈b:=by
 obtain⟨h1,h2⟩:=CF (kV (a++b)) (Pb _) _ (vah _)
 refine⟨h1,fun x=>?_⟩
 rw[show IH a b=Lib.compactUpTo (kV (a++b)).toArray (kV (a++b)).length from rfl,h2,<-vaE,<-U2,List.mem_iff_getElem]
 constructor
 ·rintro⟨j,h,_,e⟩;exact⟨j,h,e⟩
 ·rintro⟨j,h,e⟩;exact⟨j,h,h,e⟩
theorem A1(a b:List ag)(h:a.length+b.length<=1073741824):nM a b=some (IH a b):=by
 unfold nM
 rw[dR (by simp;omega)]
 simp only[vaa]
 rw[dR (by simp;omega)]
 rfl
mutual
def nP:aa->Nat
 |⟨_,_,_,ks⟩=>nL ks+1
def nL:List aa->Nat
 |[]=>0
 |p::ps=>nP p+nL ps
end
theorem M3(p:aa):nP p=nL p.Kids+1:=by obtain⟨o,n,k,ks⟩:=p;rw[nP];rfl
theorem OS(p:aa):1<=nP p:=by rw[M3];omega
theorem Gu:∀{l:List aa} {x:aa},x∈l->nP x<=nL l
 | y :: l,x,h => by
  rw[nL]
  rcases vaA.1 h with rfl|h
  ·omega
  ·have:=Gu h;omega
theorem DE:∀(l:List aa),l.length<=nL l
 |[]=>by simp[nL]
 |p::l=>by rw[nL];have:=DE l;have:=OS p;simp only[vaN];omega
theorem rC{p x:aa}(h:x∈p.Kids):nP x<nP p:=by rw[M3 p];have:=Gu h;omega
theorem tT(p:aa):p.Kids.length<nP p:=by rw[M3];have:=DE p.Kids;omega
theorem xd:∀(a b:List aa),nL (a++b)=nL a+nL b
 |[],b=>by simp[nL]
 |p::a,b=>by rw[vaF,nL,xd a b,nL];omega
mutual
theorem Y6:∀(p:aa),nP p<=fx (ac p)
 |⟨o,n,k,ks⟩=>by
  have:=Td ks
  rw[nP,aF]
  simp only[fx,pm,sl]
  show nL ks+1<=1+(n.length+1+(1+(bM (ks.map ac)+1+0)))
  omega
theorem Td:∀(l:List aa),nL l<=bM (l.map ac)
 |[]=>by simp[nL]
 |p::l=>by
  have:=Y6 p
  have:=Td l
  rw[nL]
  simp only[vax,bM]
  omega
end
mutual
def qcL:aa->aa->Bool
 |⟨o,n,k,ks⟩,⟨o',n',k',ks'⟩=>(o==o')&&((n==n')&&((k==k')&&ZP ks ks'))
def ZP:List aa->List aa->Bool
 |[],[]=>true
 |x::xs,y::ys=>qcL x y&&ZP xs ys
 |_,_=>false
end
mutual
theorem ST:∀(a b:aa),qcL a b=true↔a=b
 |⟨o,n,k,ks⟩,⟨o',n',k',ks'⟩=>by
  rw[qcL]
  have:=SS ks ks'
  simp only[vag,va1,this,aa.mk.injEq]
theorem SS:∀(a b:List aa),ZP a b=true↔a=b
 |[],[]=>by simp[ZP]
 |x::xs,y::ys=>by
  rw[ZP]
  have h1:=ST x y
  have h2:=SS xs ys
  simp only[vag,h1,h2,vbu]
 |[],y::ys=>by simp[ZP]
 |x::xs,[]=>by simp[ZP]
end
instance:DecidableEq aa:=fun a b=>decidable_of_iff _ (ST a b)
theorem wS(p:aa):(⟨p.Op,p.Name,p.N,p.Kids⟩:aa)=p:=by cases p;rfl
theorem xp{a b:aa}:a=b↔a.Op=b.Op/\a.Name=b.Name/\a.N=b.N/\a.Kids=b.Kids:=by
 cases a;cases b
 simp only[aa.mk.injEq]
 rfl
theorem TG{α:Type}[DecidableEq α]:∀{a b:List α},a.length=b.length->(a.zip b).any (fun x=>decide (x.1≠x.2))= !decide (a=b)
 |[],[],_=>by simp
 |x::a,y::b,h=>by
  have ih:=TG (a:=a) (b:=b) (by simpa using h)
  rw[List.zip_cons_cons,List.any_cons,ih]
  by_cases h1:x=y<;>by_cases h2:a=b<;>simp[h1,h2]
theorem Qm{α X:Type}[DecidableEq α]{a b:List α}(hl:a.length=b.length)(ha:a.length<9223372036854775808)(body:Int->Option (Int⊕X))(y e:X)
  (hin:∀(i:Nat) (h:i<a.length) (h':i<b.length),body i=some (if decide (a[i]=b[i])=true then .inl (aR ((i:Int)+1))else .inr y)) (hend:body a.length=some (.inr e)):loop body 0=some (if decide (a=b)=true then e else y):=by
 have hz:(a.zip b).length=a.length:=by simp[hl]
 have:=KC (a.zip b) (by omega) body (fun x=>decide (x.1≠x.2)) y e (fun i h=>?_) (by rw[hz];exact hend) 0 (vaO _)
 ·rw[va2,TG hl]at this
  rw[show((0:Nat):Int)=0 from rfl]at this
  rw[this]
  by_cases h:a=b<;>simp[h]
 ·have h1:i<a.length:=by omega
  have h2:i<b.length:=by omega
  rw[hin i h1 h2]
  have hzi:(a.zip b)[i]=(a[i],b[i]):=by simp
  rw[hzi]
  by_cases h:a[i]=b[i]<;>simp[h]
abbrev bz:Nat:=1073741824
theorem f6{n:Nat}(h:n<=bz):n<XI:=by have:=ZI;unfold bz at h;omega
theorem VX{R:aa->aa->Option Bool}{a b:List aa}(ha:a.length<=bz)(h:∀x∈a,∀y∈b,R x y=some (decide (x=y))):yF R a b=some (decide (a=b)):=by
 unfold yF
 by_cases hl:a.length=b.length
 ·rw[van (by simp[hl])]
  unfold wo
  rw[Qm hl (by unfold bz at ha;omega) (fun zz=>jA R a b (a.length:Int) zz) (.inl ()) (.inr ()) (fun i h1 h2=>?_) ?_]
  ·by_cases he:a=b<;>simp[he]
  ·unfold jA
   rw[van (by simp)]
  ·unfold jA
   rw[vak (by simp;omega),bv a i h1]
   simp only[vaa]
   rw[bv b i h2]
   simp only[vaa]
   rw[h _ (vat h1) _ (vat h2)]
   simp only[vaa]
   by_cases he:a[i]=b[i]<;>simp[he]
 ·rw[vak (by simp;omega)]
  rw[decide_eq_false (fun he=>hl (by rw[he]))]
theorem Fr(a b:aa)(ha:nP a<=bz):iU a b=some (decide (a=b)):=by
 refine kf (F:=Bh) (fun x=>nP x.1) (fun x=>nP x.1<=bz) (fun x=>decide (x.1=x.2)) (fun R x hx ih=>?_) (a,b) ha (f6 ha)
 obtain⟨u,v⟩:=x
 have hx:nP u<=bz:=hx
 show u6 (fun a a2=>R (a,a2)) u v=some (decide (u=v))
 unfold u6
 have hk:=tT u
 by_cases h1:u.Op=v.Op
 ·by_cases h2:u.Name=v.Name
  ·by_cases h3:u.N=v.N
   ·rw[vak (by simpa using h1),vak (by simpa using h2),vak (by simpa using h3)]
    rw[VX (a:=u.Kids) (b:=v.Kids) (by omega) (fun x hxa y hyb=>ih (x,y) (rC hxa) (vcv (vaG (rC hxa) hx)))]
    simp[xp (a:=u) (b:=v),h1,h2,h3]
   ·rw[vak (by simpa using h1),vak (by simpa using h2),van (by simpa using h3)]
    simp[xp (a:=u) (b:=v),h3]
  ·rw[vak (by simpa using h1),van (by simpa using h2)]
   simp[xp (a:=u) (b:=v),h2]
 ·rw[van (by simpa using h1)]
  simp[xp (a:=u) (b:=v),h1]
theorem MK(p:aa)(hp:nP p<=bz):nQ p=some p:=by
 refine kf (F:=qv) nP (fun x=>nP x<=bz) id (fun R x hx ih=>?_) p hp (f6 hp)
 unfold qv wn ud
 have hlen:=tT x
 rw[Qk x.Kids (by unfold bz at hx;omega) (fun i s=>(i,s)) _ id id (fun i hi s hs=>?_) (fun s=>?_)]
 ·simp[wS]
 ·unfold lB
  rw[vak (by simp;omega),bv x.Kids i hi]
  simp only[vaa]
  have hm:=vat hi
  rw[ih _ (rC hm) (vcv (vaG (rC hm) hx))]
  simp only[vaa]
  rw[dR (by unfold bz at hx;simp;omega)]
  rfl
 ·unfold lB
  rw[van (by simp)]
  rfl
theorem W2(a b:aa)(hb:nP b<=bz):wD a b=some (decide (a=b)):=by
 refine kf (F:=C4) (fun x=>nP x.2) (fun x=>nP x.2<=bz) (fun x=>decide (x.1=x.2)) (fun R x hx ih=>?_) (a,b) hb (f6 hb)
 obtain⟨u,v⟩:=x
 have hx:nP v<=bz:=hx
 show xH (fun a a2=>R (a,a2)) u v=some (decide (u=v))
 unfold xH zP
 have hk:=tT v
 by_cases h1:u.Op=v.Op
 ·by_cases h2:u.Name=v.Name
  ·by_cases h3:u.N=v.N
   ·by_cases h4:u.Kids.length=v.Kids.length
    ·rw[van (by simpa using h1),van (by simpa using h2),van (by simpa using h3)]
     simp only[h4,bne_self_eq_false,vaa,if_false,va5]
     unfold zQ
     rw[<-h4,Qm h4 (by unfold bz at hx;omega) _ (.inl ()) (.inr ()) (fun i g1 g2=>?_) ?_]
     ·by_cases he:u.Kids=v.Kids<;>simp[he,xp (a:=u) (b:=v),h1,h2,h3]
     ·unfold qc
      rw[van (by simp)]
     ·unfold qc
      rw[vak (by simp;omega),bv u.Kids i g1]
      simp only[vaa]
      rw[bv v.Kids i g2]
      simp only[vaa]
      have hm:=vat g2
      rw[ih (u.Kids[i],v.Kids[i]) (rC hm) (vcv (vaG (rC hm) hx))]
      by_cases he:u.Kids[i]=v.Kids[i]<;>simp[he]
    ·have hne:u≠v:=fun e=>h4 (by rw[e])
     rw[van (by simpa using h1),van (by simpa using h2),van (by simpa using h3)]
     have hb:((u.Kids.length:Int)!=(v.Kids.length:Int))=true:=by simp;omega
     simp[hb,hne]
   ·have hne:u≠v:=fun e=>h3 (by rw[e])
    rw[van (by simpa using h1),van (by simpa using h2),vak (by simpa using h3)]
    simp[hne]
  ·have hne:u≠v:=fun e=>h2 (by rw[e])
   rw[van (by simpa using h1),vak (by simpa using h2)]
   simp[hne]
 ·have hne:u≠v:=fun e=>h1 (by rw[e])
  rw[vak (by simpa using h1)]
  simp[hne]
def ie:aa:=⟨0,[],0,[]⟩
def nS:aa:=⟨2,[],1,[]⟩
def AV:aa:=⟨2,[],0,[]⟩
def Nx(p:aa):Bool:=decide (p=ie)||decide (p=nS)
theorem YG(p:aa)(hp:nP p<=bz):xj p=some (Nx p):=by
 have h1:iU p (⟨0,([]:ag),0,([]:List aa)⟩:aa)=some (decide (p=ie)):=Fr p ie hp
 have h2:iU p (⟨2,([]:ag),1,([]:List aa)⟩:aa)=some (decide (p=nS)):=Fr p nS hp
 unfold xj gj Nx
 rw[h1]
 simp only[vaa,if_true,h2]
 cases decide (p=ie)<;>rfl
theorem X3:nP ie<=bz:=by decide
theorem Nn{α σ X:Type}(g:α->σ->σ)(e:σ->X):∀(l:List α) (i:Nat) (s:σ),ph (fun _ x (s:σ)=>(Sum.inl (g x s):σ⊕X)) e l i s=e (l.foldl (fun s x=>g x s) s)
 |[],i,s=>by simp[ph]
 |x::l,i,s=>by
  unfold ph
  simp only
  rw[Nn g e l (i+1) (g x s)]
  rfl
theorem Uu{α σ τ X:Type}(l:List α)(hl:l.length<9223372036854775808)(mk:Int->σ->τ)(body:τ->Option (τ⊕X))(I:Nat->σ->Prop)(g:α->σ->σ)(e:σ->X)(s0:σ)(h0:I 0 s0)
  (hin:∀(i:Nat) (h:i<l.length) s,I i s->body (mk i s)=some (.inl (mk (aR ((i:Int)+1)) (g l[i] s)))/\I (i+1) (g l[i] s)) (hend:∀s,I l.length s->body (mk l.length s)=some (.inr (e s))):
  loop body (mk 0 s0)=some (e (l.foldl (fun s x=>g x s) s0)):=by
 have:=oL l hl mk body I (fun _ x s=>.inl (g x s)) e (fun i h s hs=>⟨(hin i h s hs).1,fun s' hs'=>by cases hs';exact(hin i h s hs).2⟩) (fun s hs=>hend s hs) 0 s0 (vaO _) h0
 rw[Nn]at this
 exact this
theorem EZ(l:List aa)(i:Nat)(h:i<l.length):nL (l.take (i+1))=nL (l.take i)+nP l[i]:=by
 rw[vaS h,xd]
 simp[nL]
theorem yC(l:List aa)(i:Nat):nL (l.take i)<=nL l:=by
 have:=xd (l.take i) (l.drop i)
 rw[vcs]at this
 omega
theorem S1:∀(l:List aa) (a:Int),l.foldl (fun s x=>s+(nP x:Int)) a=a+(nL l:Int)
 |[],a=>by simp[nL]
 |x::l,a=>by rw[List.foldl_cons,S1 l,nL];omega
theorem Ws(p:aa)(hp:nP p<=bz):FK p=some (nP p:Int):=by
 refine kf (F:=zO) nP (fun x=>nP x<=bz) (fun x=>(nP x:Int)) (fun R x hx ih=>?_) p hp (f6 hp)
 show uB (fun p=>R p) x=_
 unfold uB xG
 have hlen:=tT x
 have hn:=M3 x
 rw[Uu x.Kids (by unfold bz at hx;omega) (fun i s=>(s,i)) _ (fun i s=>s=1+(nL (x.Kids.take i):Int)) (fun x s=>s+(nP x:Int)) id 1 (by simp[nL]) (fun i hi s hs=>?_) (fun s _=>?_)]
 ·rw[S1]
  simp only[id,vaa]
  rw[hn];congr 1;omega
 ·have hm:=vat hi
  have hk:=rC hm
  refine⟨?_,by rw[EZ _ _ hi,hs];omega⟩
  unfold oc
  rw[vak (by simp;omega),bv x.Kids i hi]
  simp only[vaa]
  rw[ih _ hk (by omega)]
  simp only[vaa]
  have h1:=yC x.Kids i
  have h2:=yC x.Kids (i+1)
  have h3:=EZ x.Kids i hi
  unfold bz at hx
  rw[dB (n:=s+_) (by omega) (by omega)]
 ·unfold oc
  rw[van (by simp)]
  rfl
def XC(s:Option aa)(x:aa):aa:=match s with
 |none=>x
 |some q=>⟨15,[],0,[q,x]⟩
def TS:List aa->Option aa->aa
 |[],s=>s.getD nS
 |x::l,s=>if Nx x=true then TS l s else if x=AV then AV else TS l (some (XC s x))
abbrev T8:Type:=Int×ag×Int×List aa×Int×ag×Int×List aa
def t8(a b:aa):T8:=(a.Op,a.Name,a.N,a.Kids,b.Op,b.Name,b.N,b.Kids)
def SK:T8⊕T8->aa
 |.inl o=>⟨o.1,o.2.1,o.2.2.1,o.2.2.2.1⟩
 |.inr o=>⟨o.2.2.2.2.1,o.2.2.2.2.2.1,o.2.2.2.2.2.2.1,o.2.2.2.2.2.2.2⟩
def Vp(x:aa)(s:Option aa):Option aa⊕(T8⊕T8):=
 if Nx x=true then .inl s else if x=AV then .inr (.inl (t8 AV (s.getD nS)))else .inl (some (XC s x))
theorem JR:∀(l:List aa) (i:Nat) (s:Option aa),SK (ph (fun _ x s=>Vp x s) (fun s=>.inr (t8 ie (s.getD nS))) l i s)=TS l s
 |[],i,s=>by simp[ph,TS,SK,t8,wS]
 | x :: l,i,s => by
  unfold ph TS Vp
  by_cases h1:Nx x=true
  ·simp only[h1,if_true]
   exact JR l (i+1) s
  ·by_cases h2:x=AV
   ·simp only[h1,h2,if_true]
    rfl
   ·simp only[h1,h2,if_false]
    exact JR l (i+1) _
theorem Vq(l:List aa)(hl:∀x∈l,nP x<=bz)(hn:l.length<9223372036854775808):Fb l=some (TS l none):=by
 unfold Fb Bf
 have h:=oL l hn (fun i (s:Option aa)=>(s.isSome,i,(0:Int),([]:ag),(0:Int),([]:List aa),(s.getD nS).Op,(s.getD nS).Name,(s.getD nS).N,(s.getD nS).Kids))
  (fun zz=>gi l (l.length:Int) zz.1 zz.2.1 zz.2.2.1 zz.2.2.2.1 zz.2.2.2.2.1 zz.2.2.2.2.2.1 zz.2.2.2.2.2.2.1 zz.2.2.2.2.2.2.2.1 zz.2.2.2.2.2.2.2.2.1 zz.2.2.2.2.2.2.2.2.2) (fun _ _=>True) (fun _ x s=>Vp x s) (fun s=>.inr (t8 ie (s.getD nS)))
  (fun i hi s _=>⟨?_,fun _ _=>trivial⟩) (fun s _=>?_) 0 none (vaO _) trivial
 ·have hr:=JR l 0 none
  rw[va2]at h
  have hc:gj true=some nS:=rfl
  rw[hc]
  simp only[vaa]
  have h':loop (fun(zz:Bool×Int×Int×ag×Int×(List aa)×Int×ag×Int×(List aa))=>gi l (l.length:Int) zz.1 zz.2.1 zz.2.2.1 zz.2.2.2.1 zz.2.2.2.2.1 zz.2.2.2.2.2.1 zz.2.2.2.2.2.2.1 zz.2.2.2.2.2.2.2.1 zz.2.2.2.2.2.2.2.2.1 zz.2.2.2.2.2.2.2.2.2) (false,0,0,([]:ag),0,([]:List aa),nS.Op,nS.Name,nS.N,nS.Kids)=_:=h
  rw[h']
  simp only[vaa]
  rw[<-hr]
  cases ph (fun _ x s=>Vp x s) (fun s=>Sum.inr (t8 ie (s.getD nS))) l 0 none<;>rfl
 ·show gi l (l.length:Int) s.isSome (i:Int) 0 [] 0 [] _ _ _ _=_
  unfold gi Vp
  have hx:=hl _ (vat hi)
  rw[vak (by simp;omega),bv l i hi]
  simp only[vaa]
  generalize l[i]=x at hx
  rw[YG x hx]
  simp only[vaa]
  by_cases h1:Nx x=true
  ·simp only[h1,if_true]
  ·have hc:gj false=some AV:=rfl
   simp only[h1,if_false,hc,vaa,Fr x AV hx]
   by_cases h2:x=AV
   ·simp only[h2,decide_true,if_true]
    rfl
   ·simp only[h2,decide_false,if_false,va5,MK x hx,vaa]
    cases s with
    |none=>simp[XC]
    |some q=>
     simp[XC,wS]
     exact⟨rfl,rfl,rfl,rfl⟩
 ·show gi l (l.length:Int) s.isSome (l.length:Int) 0 [] 0 [] _ _ _ _=_
  unfold gi
  rw[van (by simp)]
  rfl
end Go.Proofs.YtbaamopmfmpfaaaGreatDoor
