/- PROVED: a part of the proof. Conditions: none. -/
import Derived.Test.YtbaamopmfmpfaaaGreatDoorPkD15
import Derived.Test.YtbaamopmfmpfaaaGreatDoorPkD9
import Derived.Test.YtbaamopmfmpfaaaGreatDoorPkD7
noncomputable section
namespace Go.Proofs.YtbaamopmfmpfaaaGreatDoor
open Go Go.Proofs.Tryz
set_option linter.unusedVariables false
set_option maxRecDepth 100000
noncomputable def Xb:Code:=f41.body.getD .skip
def Tx:List Nat:=[41,48,53,87,90]
section
variable(v:waE)(c:ak)(t20:waA)(t21:Int)(t22:Int)(t34:waA)(t35:Int)(m:waF)(m2:Int)(m3:ag)(m4:Int)(m5:waA)(m6:Int)(m7:Int)(m8:ag)(m9:Int)(m10:waA)(m11:waF)(m13:Int)(t36:Int)(m12:waA)
def fk:az:=aW 91 [(2,sl aD v),(3,.eptr (ax c)),(4,.bptr 1 0),(9,.bptr 3 0),(20,sl ac t20),(21,.int .i64 t21),(22,.int .i64 t22),(34,sl ac t34),(35,.int .i64 t35),(36,.int .i64 t36)] [.dead,.cells [sl bA m,sl ac t34,.int .i64 m2,.str m3,.int .i64 m4,sl ac m5,.int .i64 m6] [],.cells [.int .i64 m7,.str m8,.int .i64 m9,sl ac m10] [],.cells [sl bA m11,sl ac m12,.int .i64 m7,.str m8,.int .i64 m9,sl ac m10,.int .i64 m13] [(1,36)]] [((20,0),36),((2,0),62)]
def kQ(o:waA):az:=aW 91 [(2,sl aD v),(3,.eptr (ax c)),(4,.bptr 1 0),(9,.bptr 3 0),(20,sl ac t20),(21,.int .i64 t21),(22,.int .i64 t22)] [.dead,.cells [sl bA m,sl ac t34,.int .i64 m2,.str m3,.int .i64 m4,sl ac m5,.int .i64 m6] [],.cells [.int .i64 m7,.str m8,.int .i64 m9,sl ac m10] [],.cells [sl bA m11,sl ac o,.int .i64 m7,.str m8,.int .i64 m9,sl ac m10,.int .i64 m13] [(1,36)]] [((20,0),36),((2,0),62)]
def qO:Option ((Int×waA)⊕(waA)):=
 if(decide (t36<t35))=true then
  (cH t34 t36).bind fun x8=>
  (io x8 ([]:List ag) ([]:List aa)).bind fun r9=>
  (app m12 ([r9]:List aa)).bind fun l10=>
  some (.inl (aO (t36+1),l10))
 else
  some (.inr m12)
def gq:Option waA:=loop (fun(zz:Int×waA)=>qO t34 t35 zz.1 zz.2) (t36,m12)
theorem xX{y:(Int×waA)⊕(waA)}(h:qO t34 t35 t36 m12=some y):aQ Pg GE 1000 (cA Xb 1810295) (LQ (fun(zz:Int×waA)=>fk v c t20 t21 t22 t34 t35 m m2 m3 m4 m5 m6 m7 m8 m9 m10 m11 m13 zz.1 zz.2) (fun _=>.exit 3) (kQ v c t20 t21 t22 t34 m m2 m3 m4 m5 m6 m7 m8 m9 m10 m11 m13) y) (fk v c t20 t21 t22 t34 t35 m m2 m3 m4 m5 m6 m7 m8 m9 m10 m11 m13 t36 m12):=by
 rcases aX h with⟨c7,h⟩|⟨c7,h⟩
 ·obtain⟨x8,bx8,h⟩:=aA h
  obtain⟨r9,br9,h⟩:=aA h
  obtain⟨l10,bl10,h⟩:=aA h
  obtain rfl:=lf h
  have z:=sg 0 c7<|sv (cd.ia (k:=.i64) bx8)<|sv (aY x8)<|sx lM<|sx (dn x8)<|ra [0,1,0,4,12,31,63,127]<|sv (ch x8 [])<|bP (lK br9)<|sv (cd.mk' (v:=ff) dl ([r9]:List aa) 1 (by kernel_rfl))<|sv (cd.ap bl10)<|WY (rfl:bQ (sl ac l10)=some [sl ac l10])<|y4 1000 .normal (fk v c t20 t21 t22 t34 t35 m m2 m3 m4 m5 m6 m7 m8 m9 m10 m11 m13 (aO (t36+1)) l10) rfl (eh (aI (up (aq eY v)) (aI (oI (bJ c)) (aI (d7 rfl) (aI (d7 rfl) (aI (up (aq ah t20)) (aI trivial (aI trivial (aI (up (aq ah t34)) (aI trivial (aI trivial trivial))))))))))) (aI trivial (aI (aI (up (aq lG m)) (aI (up (aq ah t34)) (aI trivial (aI trivial (aI trivial (aI (up (aq ah m5)) (aI trivial trivial))))))) (aI (aI trivial (aI trivial (aI trivial (aI (up (aq ah m10)) trivial)))) (aI (aI (up (aq lG m11)) (aI (up (aq ah l10)) (aI trivial (aI trivial (aI trivial (aI (up (aq ah m10)) (aI trivial trivial))))))) trivial))))
  exact dV (A:=Tx) mixed z<|by kernel_rfl
 ·obtain rfl:=lf h
  have z:=sg 0 c7<|eF (.exit 3) (kQ v c t20 t21 t22 t34 m m2 m3 m4 m5 m6 m7 m8 m9 m10 m11 m13 m12)
  exact iW Tx (by intro hx;cases hx) z<|by kernel_rfl
theorem y2{x:waA}(h:gq t34 t35 t36 m12=some x):aQ Pg GE 1000 (.loop (cA Xb 1810295)) (EX (.exit 3) (kQ v c t20 t21 t22 t34 m m2 m3 m4 m5 m6 m7 m8 m9 m10 m11 m13 x)) (fk v c t20 t21 t22 t34 t35 m m2 m3 m4 m5 m6 m7 m8 m9 m10 m11 m13 t36 m12):=
 aQ.loop (S:=fun(zz:Int×waA)=>fk v c t20 t21 t22 t34 t35 m m2 m3 m4 m5 m6 m7 m8 m9 m10 m11 m13 zz.1 zz.2) (ex:=(fun _=>.exit 3)) (s:=(t36,m12)) h fun zz y hy=>xX v c t20 t21 t22 t34 t35 m m2 m3 m4 m5 m6 m7 m8 m9 m10 m11 m13 zz.1 zz.2 hy
end
section
variable(c:ak)(t20:waA)(t21:Int)(m:waF)(m2:waA)(m3:Int)(m4:ag)(m5:Int)(m6:waA)(m7:Int)(v:waE)(t22:Int)
def fj:az:=aW 91 [(2,sl aD v),(3,.eptr (ax c)),(4,.bptr 1 0),(20,sl ac t20),(21,.int .i64 t21),(22,.int .i64 t22)] [.dead,.cells [sl bA m,sl ac m2,.int .i64 m3,.str m4,.int .i64 m5,sl ac m6,.int .i64 m7] []] [((20,0),36),((2,0),62)]
def kP(o:waE):az:=aW 91 [(2,sl aD o)] [.dead,.cells [sl bA m,sl ac m2,.int .i64 m3,.str m4,.int .i64 m5,sl ac m6,.int .i64 m7] []] [((2,0),62)]
def qN:Option ((waE×Int)⊕(waE)):=
 if(decide (t22<t21))=true then
  (cH t20 t22).bind fun x5=>
  (kK m).bind fun r6=>
  (gq m2 (m2.length:Int) 0 ([]:List aa)).bind fun o11=>
  (app v ([(⟨r6,o11,x5,c.Tag⟩:ay)]:List ay)).bind fun l12=>
  some (.inl (l12,aO (t22+1)))
 else
  some (.inr v)
def nz:Option waE:=loop (fun(zz:waE×Int)=>qN c t20 t21 m m2 zz.1 zz.2) (v,t22)
theorem xW{y:(waE×Int)⊕(waE)}(h:qN c t20 t21 m m2 v t22=some y):aQ Pg GE 1000 (cA Xb 1767) (LQ (fun(zz:waE×Int)=>fj c t20 t21 m m2 m3 m4 m5 m6 m7 zz.1 zz.2) (fun _=>.exit 1) (kP m m2 m3 m4 m5 m6 m7) y) (fj c t20 t21 m m2 m3 m4 m5 m6 m7 v t22):=by
 rcases aX h with⟨c4,h⟩|⟨c4,h⟩
 ·obtain⟨x5,bx5,h⟩:=aA h
  obtain⟨r6,br6,h⟩:=aA h
  obtain⟨o11,bo11,h⟩:=aA h
  obtain⟨l12,bl12,h⟩:=aA h
  obtain rfl:=lf h
  have z:=sg 0 c4<|sv (cd.ia (k:=.i64) bx5)<|sv (aY x5)<|sx lM<|sx (dn x5)<|ra [0,1,3,0,0,16,63,0,255]<|ss<|bP (JO br6)<|sv (ch x5 [])<|sv (LJ c)<|sv (OD c)<|sb (F8 r6 x5 c.Tag) (F7 r6 x5 c.Tag)<|Ym (AQ (⟨r6,([]:List aa),x5,c.Tag⟩:ay))<|ss<|cw (cd.ln m2)<|di (y2 v c t20 t21 t22 m2 (m2.length:Int) m m3 m4 m5 m6 m7 x5.Op x5.Name x5.N x5.Kids r6 c.Tag 0 ([]:List aa) bo11)<|sv (Hd (⟨r6,o11,x5,c.Tag⟩:ay) [])<|sv (zb.mk' (v:=Nk) Qj ([(⟨r6,o11,x5,c.Tag⟩:ay)]:List ay) 1 (by kernel_rfl))<|sv (zb.ap bl12)<|y4 1000 .normal (fj c t20 t21 m m2 m3 m4 m5 m6 m7 l12 (aO (t22+1))) rfl (eh (aI (up (aq eY l12)) (aI (oI (bJ c)) (aI (d7 rfl) (aI (up (aq ah t20)) (aI trivial (aI trivial trivial))))))) (aI trivial (aI (aI (up (aq lG m)) (aI (up (aq ah m2)) (aI trivial (aI trivial (aI trivial (aI (up (aq ah m6)) (aI trivial trivial))))))) trivial))
  exact dV (A:=Tx) mixed z<|by kernel_rfl
 ·obtain rfl:=lf h
  have z:=sg 0 c4<|eF (.exit 1) (kP m m2 m3 m4 m5 m6 m7 v)
  exact iW Tx (by intro hx;cases hx) z<|by kernel_rfl
theorem y0{x:waE}(h:nz c t20 t21 m m2 v t22=some x):aQ Pg GE 1000 (.loop (cA Xb 1767)) (EX (.exit 1) (kP m m2 m3 m4 m5 m6 m7 x)) (fj c t20 t21 m m2 m3 m4 m5 m6 m7 v t22):=
 aQ.loop (S:=fun(zz:waE×Int)=>fj c t20 t21 m m2 m3 m4 m5 m6 m7 zz.1 zz.2) (ex:=(fun _=>.exit 1)) (s:=(v,t22)) h fun zz y hy=>xW c t20 t21 m m2 m3 m4 m5 m6 m7 zz.1 zz.2 hy
end
section
variable(v:waE)(c:ak)(m:waF)(m2:waA)(m3:Int)(m4:ag)(m5:Int)(m6:waA)(m7:Int)
def AD:az:=aW 91 [(2,sl aD v),(3,.eptr (ax c)),(4,.bptr 1 0)] [.dead,.cells [sl bA m,sl ac m2,.int .i64 m3,.str m4,.int .i64 m5,sl ac m6,.int .i64 m7] []] [((2,0),62)]
def kO(o:waF):az:=aW 91 [(2,sl aD v),(3,.eptr (ax c)),(4,.bptr 1 0)] [.dead,.cells [sl bA o,sl ac m2,.int .i64 m3,.str m4,.int .i64 m5,sl ac m6,.int .i64 m7] []] [((2,0),62)]
def jj:Option waF:=
 if(!(c.Name==([]:ag)))=true then
  (kK m).bind fun r18=>
  (app r18 ([(⟨c.Name,c.Sort_⟩:dc)]:List dc)).bind fun l19=>
  some l19
 else
  some m
theorem yZ{x:waF}(h:jj c m=some x):aQ Pg GE 1000 (cA Xb 892) (EX .normal (kO v c m2 m3 m4 m5 m6 m7 x)) (AD v c m m2 m3 m4 m5 m6 m7):=by
 have p17:=fun{sc F} (r:PS sc F)=>sv (CG c)<|sv (EH c)<|r
 rcases aX h with⟨c16,h⟩|⟨c16,h⟩
 ·obtain⟨r18,br18,h⟩:=aA h
  obtain⟨l19,bl19,h⟩:=aA h
  obtain rfl:=lf h
  exact ct Tx (p17<|sg 0 c16<|ra [0,1,3,0,8,0,32,120,248,511,1023,2047]<|ss<|bP (JO br18)<|sv (CG c)<|sv (EH c)<|sv (LI c)<|sv (L1 c)<|sv (PD c.Name c.Sort_)<|sv (GN.mk' (v:=W4) Wt ([(⟨c.Name,c.Sort_⟩:dc)]:List dc) 1 (by kernel_rfl))<|sv (GN.ap bl19)<|WY (rfl:bQ (sl bA l19)=some [sl bA l19])<|eF .normal (kO v c m2 m3 m4 m5 m6 m7 l19))<|by kernel_rfl
 ·obtain rfl:=lf h
  exact ct Tx (p17<|sg 0 c16<|eF .normal (kO v c m2 m3 m4 m5 m6 m7 m))<|by kernel_rfl
end
section
variable(v:waE)(c:ak)(m:waF)(m2:waA)(m3:Int)(m4:ag)(m5:Int)(m6:waA)(m7:Int)
def AC:az:=aW 91 [(2,sl aD v),(3,.eptr (ax c)),(4,.bptr 1 0)] [.dead,.cells [sl bA m,sl ac m2,.int .i64 m3,.str m4,.int .i64 m5,sl ac m6,.int .i64 m7] []] [((2,0),62)]
def gZ(o:waE⊕(waF×waA)):Exit:=match o with
 |(.inl _)=>.ret
 |(.inr _)=>.normal
def dZ(o:waE⊕(waF×waA)):az:=match o with
 |(.inl o)=>aW 91 [(6,sl aD o)] [.dead,.cells [sl bA m,sl ac m2,.int .i64 m3,.str m4,.int .i64 m5,sl ac m6,.int .i64 m7] []] [((6,0),62)]
 |(.inr o)=>aW 91 [(2,sl aD v),(3,.eptr (ax c)),(4,.bptr 1 0)] [.dead,.cells [sl bA o.1,sl ac o.2,.int .i64 m3,.str m4,.int .i64 m5,sl ac m6,.int .i64 m7] []] [((2,0),62)]
def ny:Option (waE⊕(waF×waA)):=
 if(c.Op==3)=true then
  (yk c.Pred).bind fun r3=>
  (nz c r3 (r3.length:Int) m m2 v 0).bind fun o13=>
  some (.inl o13)
 else
  if(c.Op==2)=true then
   (jj c m).bind fun o20=>
   (kK m2).bind fun r21=>
   (yk c.Pred).bind fun r22=>
   (app r21 r22).bind fun l23=>
   some (.inr (o20,l23))
  else
   some (.inr (m,m2))
theorem pw{x:waE⊕(waF×waA)}(h:ny v c m m2=some x):aQ Pg GE 1000 (cA Xb 6) (EX (gZ x) (dZ v c m m2 m3 m4 m5 m6 m7 x)) (AC v c m m2 m3 m4 m5 m6 m7):=by
 have p2:=fun{sc F} (r:PS sc F)=>sv (LH c)<|sv (L0 c)<|r
 rcases aX h with⟨c1,h⟩|⟨c1,h⟩
 ·obtain⟨r3,br3,h⟩:=aA h
  obtain⟨o13,bo13,h⟩:=aA h
  obtain rfl:=lf h
  exact ct Tx (p2<|sg 0 c1<|sv (v6 c)<|sv (wg c)<|bP (CP br3)<|cw (cd.ln r3)<|di (y0 c r3 (r3.length:Int) m m2 m3 m4 m5 m6 m7 v 0 bo13)<|eF (gZ (.inl o13)) (dZ v c m m2 m3 m4 m5 m6 m7 (.inl o13)))<|by kernel_rfl
 ·have p15:=fun{sc F} (r:PS sc F)=>p2<|sg 0 c1<|r
  rcases aX h with⟨c14,h⟩|⟨c14,h⟩
  ·obtain⟨o20,bo20,h⟩:=aA h
   obtain⟨r21,br21,h⟩:=aA h
   obtain⟨r22,br22,h⟩:=aA h
   obtain⟨l23,bl23,h⟩:=aA h
   obtain rfl:=lf h
   exact ct Tx (p15<|sg 0 c14<|oe 0<|di (yZ v c m m2 m3 m4 m5 m6 m7 bo20)<|ra [0,1,3,0,8,31,63,127,255]<|ss<|bP (Rq br21)<|sv (v6 c)<|sv (wg c)<|bP (CP br22)<|sv (cd.ap bl23)<|WY (rfl:bQ (sl ac l23)=some [sl ac l23])<|eF (gZ (.inr (o20,l23))) (dZ v c m m2 m3 m4 m5 m6 m7 (.inr (o20,l23))))<|by kernel_rfl
  ·obtain rfl:=lf h
   exact ct Tx (p15<|sg 0 c14<|eF (gZ (.inr (m,m2))) (dZ v c m m2 m3 m4 m5 m6 m7 (.inr (m,m2))))<|by kernel_rfl
end
section
variable(R92:kf)(t79:waD)(t80:Int)(m:waF)(m2:waA)(m3:Int)(m4:ag)(m5:Int)(m6:waA)(m7:Int)(v:waE)(t81:Int)
def fl:az:=aW 91 [(2,sl aD v),(4,.bptr 1 0),(79,sl ax t79),(80,.int .i64 t80),(81,.int .i64 t81)] [.dead,.cells [sl bA m,sl ac m2,.int .i64 m3,.str m4,.int .i64 m5,sl ac m6,.int .i64 m7] []] [((2,0),62)]
def kR(o:waE):az:=aW 91 [(2,sl aD o)] [.dead,.cells [sl bA m,sl ac m2,.int .i64 m3,.str m4,.int .i64 m5,sl ac m6,.int .i64 m7] []] [((2,0),62)]
def qP:Option ((waE×Int)⊕(waE)):=
 if(decide (t81<t80))=true then
  (cH t79 t81).bind fun x26=>
  (R92 x26 (⟨m,m2,(⟨m3,m4,m5,m6⟩:aa),m7⟩:ay) v).bind fun r27=>
  some (.inl (r27,aO (t81+1)))
 else
  some (.inr v)
def jk:Option waE:=loop (fun(zz:waE×Int)=>qP R92 t79 t80 m m2 m3 m4 m5 m6 m7 zz.1 zz.2) (v,t81)
theorem xY(hR92:og R92){y:(waE×Int)⊕(waE)}(h:qP R92 t79 t80 m m2 m3 m4 m5 m6 m7 v t81=some y):aQ Pg GE 1000 (cA Xb 119) (LQ (fun(zz:waE×Int)=>fl t79 t80 m m2 m3 m4 m5 m6 m7 zz.1 zz.2) (fun _=>.exit 5) (kR m m2 m3 m4 m5 m6 m7) y) (fl t79 t80 m m2 m3 m4 m5 m6 m7 v t81):=by
 rcases aX h with⟨c25,h⟩|⟨c25,h⟩
 ·obtain⟨x26,bx26,h⟩:=aA h
  obtain⟨r27,br27,h⟩:=aA h
  obtain rfl:=lf h
  have z:=sg 0 c25<|sv (za.ia (k:=.i64) bx26)<|sv (qW x26)<|sx y8<|sx (dJ x26)<|sv (iS x26 [])<|sv (Hd (⟨m,m2,(⟨m3,m4,m5,m6⟩:aa),m7⟩:ay) [])<|si (.cg ⟨[],[.agg (ax x26),.agg (aD (⟨m,m2,(⟨m3,m4,m5,m6⟩:aa),m7⟩:ay)),sl aD v],[⟨2,87,0,62⟩],[],[],[],[],sl aD r27,sl aD r27,[(0,62)]⟩) (hR92 _ _ _ _ br27)<|sf (aI (xR [] (.agg (ax x26)) (bJ x26)) (aI (xR [] (.agg (aD (⟨m,m2,(⟨m3,m4,m5,m6⟩:aa),m7⟩:ay))) (eY (⟨m,m2,(⟨m3,m4,m5,m6⟩:aa),m7⟩:ay))) (aI (xR [] (sl aD v) (aq eY v)) trivial)))<|sf trivial<|sf trivial<|sf (xR [] (sl aD r27) (aq eY r27))<|y4 1000 .normal (fl t79 t80 m m2 m3 m4 m5 m6 m7 r27 (aO (t81+1))) rfl (eh (aI (up (aq eY r27)) (aI (d7 rfl) (aI (up (aq bJ t79)) (aI trivial (aI trivial trivial)))))) (aI trivial (aI (aI (up (aq lG m)) (aI (up (aq ah m2)) (aI trivial (aI trivial (aI trivial (aI (up (aq ah m6)) (aI trivial trivial))))))) trivial))
  exact dV (A:=Tx) mixed z<|by kernel_rfl
 ·obtain rfl:=lf h
  have z:=sg 0 c25<|eF (.exit 5) (kR m m2 m3 m4 m5 m6 m7 v)
  exact iW Tx (by intro hx;cases hx) z<|by kernel_rfl
theorem y3(hR92:og R92){x:waE}(h:jk R92 t79 t80 m m2 m3 m4 m5 m6 m7 v t81=some x):aQ Pg GE 1000 (.loop (cA Xb 119)) (EX (.exit 5) (kR m m2 m3 m4 m5 m6 m7 x)) (fl t79 t80 m m2 m3 m4 m5 m6 m7 v t81):=
 aQ.loop (S:=fun(zz:waE×Int)=>fl t79 t80 m m2 m3 m4 m5 m6 m7 zz.1 zz.2) (ex:=(fun _=>.exit 5)) (s:=(v,t81)) h fun zz y hy=>xY R92 t79 t80 m m2 m3 m4 m5 m6 m7 zz.1 zz.2 hR92 hy
end
def ki(R92:kf)(c:ak)(above:ay)(a:waE):Option waE:=
 (ny a c above.Vars above.Hyps).bind fun o24=>match o24 with
 |(.inl o24)=>
  some o24
 |(.inr o24)=>
  (jk R92 c.Kids (c.Kids.length:Int) o24.1 o24.2 above.Head.Op above.Head.Name above.Head.N above.Head.Kids above.Tag a 0).bind fun o28=>
  some o28
theorem Ca(R92:kf)(hR92:og R92){c:ak}{above:ay}{a:waE}{r:waE}(h:ki R92 c above a=some r):C Pg GE 41 [.agg (ax c),.agg (aD above),sl aD a] [((2,0),62)] [] (sl aD r) [(0,62)] []:=by
 obtain⟨o24,bo24,h⟩:=aA h
 rcases o24 with o24|o24
 ·obtain rfl:=lf h
  have z:=se (AP c)<|sx (AQ above)<|oe 0<|di (e:=.ret) (s1:=dZ a c above.Vars above.Hyps above.Head.Op above.Head.Name above.Head.N above.Head.Kids above.Tag (.inl o24)) (pw a c above.Vars above.Hyps above.Head.Op above.Head.Name above.Head.N above.Head.Kids above.Tag bo24)<|en (aI (rP (sl aD o24))<|aI (up (n:=0) (aq eY o24))<|aI (rL [])<|trivial)
  exact C.evGp (A:=Tx) mixed (m:=1000) (c:=Xb) rfl call41 func41 rfl z<|by kernel_rfl
 ·obtain⟨o28,bo28,h⟩:=aA h
  obtain rfl:=lf h
  have z:=se (AP c)<|sx (AQ above)<|oe 0<|di (e:=.normal) (s1:=dZ a c above.Vars above.Hyps above.Head.Op above.Head.Name above.Head.N above.Head.Kids above.Tag (.inr o24)) (pw a c above.Vars above.Hyps above.Head.Op above.Head.Name above.Head.N above.Head.Kids above.Tag bo24)<|sv (CH c)<|sv (CL c)<|cw (za.ln c.Kids)<|di (y3 R92 c.Kids (c.Kids.length:Int) o24.1 o24.2 above.Head.Op above.Head.Name above.Head.N above.Head.Kids above.Tag a 0 hR92 bo28)<|en (aI (rP (sl aD o28))<|aI (up (n:=0) (aq eY o28))<|aI (rL [])<|trivial)
  exact C.evGp (A:=Tx) mixed (m:=1000) (c:=Xb) rfl call41 func41 rfl z<|by kernel_rfl
def oM:((ak×ay×waE)->Option waE)->(ak×ay×waE)->Option waE:=fun(rec:(ak×ay×waE)->Option waE) (x:ak×ay×waE)=>ki (fun c above a=>rec (c,above,a)) x.1 x.2.1 x.2.2
def rD(c:ak)(above:ay)(a:waE):Option waE:=oP oM (c,above,a)
theorem Dh{c:ak}{above:ay}{a:waE}{r:waE}(h:rD c above a=some r):C Pg GE 41 [.agg (ax c),.agg (aD above),sl aD a] [((2,0),62)] [] (sl aD r) [(0,62)] []:=
 cR (F:=oM) (M:=fun(x:ak×ay×waE) (r:waE)=>C Pg GE 41 [.agg (ax x.1),.agg (aD x.2.1),sl aD x.2.2] [((2,0),62)] [] (sl aD r) [(0,62)] []) (fun rec hrec x r h=>Ca _ (fun c above a r h=>hrec (c,above,a) r h) h) h
noncomputable def qdG:Code:=f17.body.getD .skip
def qdv:List Nat:=[]
def jx(c:ak):Option waE:=
 (rD c (⟨([]:List dc),([]:List aa),(⟨0,([]:ag),0,([]:List aa)⟩:aa),0⟩:ay) ([]:List ay)).bind fun r1=>
 some r1
theorem jh{c:ak}{r:waE}(h:jx c=some r):CC Pg GE 17 [.agg (ax c)] (sl aD r) [(0,62)]:=by
 obtain⟨r1,br1,h⟩:=aA h
 obtain rfl:=lf h
 have z:=se (AP c)<|sv (qW c)<|sb (NZ) (NW)<|si (.cg ⟨[],[.agg (ax c),.agg (aD (⟨([]:List dc),([]:List aa),(⟨0,([]:ag),0,([]:List aa)⟩:aa),0⟩:ay)),sl aD ([]:List ay)],[⟨2,1000000,0,62⟩],[],[],[],[],sl aD r1,sl aD r1,[(0,62)]⟩) (Dh br1)<|sf (aI (xR [] (.agg (ax c)) (bJ c)) (aI (xR [] (.agg (aD (⟨([]:List dc),([]:List aa),(⟨0,([]:ag),0,([]:List aa)⟩:aa),0⟩:ay))) (eY (⟨([]:List dc),([]:List aa),(⟨0,([]:ag),0,([]:List aa)⟩:aa),0⟩:ay))) (aI (xR [] (sl aD ([]:List ay)) (aq eY ([]:List ay))) trivial)))<|sf trivial<|sf trivial<|sf (xR [] (sl aD r1) (aq eY r1))<|en (aI (rP (sl aD r1))<|(aq eY r1))
 exact ck qdv call17 func17 (c:=qdG) rfl (aI (bJ c) trivial) z<|by kernel_rfl
noncomputable def W9:Code:=f11.body.getD .skip
def QY:List Nat:=[]
section
variable(e:Int)(v:waE)(f:Int)(m:waA)(m2:Int)(m3:ag)(m4:waC)(m5:waB)(m6:Int)(m7:ag)(m8:Int)(m9:waA)(m10:waA)(m11:Int)(m12:ag)(m13:waC)(m14:waB)(m15:Int)(m16:ag)(m17:Int)(m18:waA)(m19:waA)(m20:Int)(m21:ag)(m22:ag)(m23:Int)(m24:ag)(m25:Int)(m26:waA)(m27:Int)(m28:waD)(m29:Int)(m30:ag)(m31:ag)(m32:Int)(m33:ag)(m34:Int)(m35:waA)(m36:Int)(m37:waD)
def Jy:az:=aW 165 [(2,.bptr 1 0),(3,.bptr 2 0),(4,.bptr 3 0),(6,.int .i64 e),(7,sl aD v),(9,.int .i64 f)] [.cells [.int .i64 1,.str ([]:ag),.int .i64 1,sl ac m] [(3,36)],.cells [.int .i64 1,.str ([]:ag),.int .i64 0,sl ac m] [(3,36)],.cells [.int .i64 m2,.str m3,sl af m4,sl cS m5,.int .i64 m6,.str m7,.int .i64 m8,sl ac m9,sl ac m10] [(2,38),(3,9),(8,36)],.cells [.int .i64 m11,.str m12,sl af m13,sl cS m14,.int .i64 m15,.str m16,.int .i64 m17,sl ac m18,sl ac m19] [(2,38),(3,9),(8,36)],.cells [.int .i64 m20,.str m21,.str m22,.int .i64 m23,.str m24,.int .i64 m25,sl ac m26,.int .i64 m27,sl ax m28] [],.cells [.int .i64 m29,.str m30,.str m31,.int .i64 m32,.str m33,.int .i64 m34,sl ac m35,.int .i64 m36,sl ax m37] []] [((7,0),62)]
def fi(o:Bool):az:=aW 165 [(2,.bptr 1 0),(3,.bptr 2 0),(4,.bptr 3 0),(86,.bool o)] [.cells [.int .i64 1,.str ([]:ag),.int .i64 1,sl ac m] [(3,36)],.cells [.int .i64 1,.str ([]:ag),.int .i64 0,sl ac m] [(3,36)],.cells [.int .i64 m2,.str m3,sl af m4,sl cS m5,.int .i64 m6,.str m7,.int .i64 m8,sl ac m9,sl ac m10] [(2,38),(3,9),(8,36)],.cells [.int .i64 m11,.str m12,sl af m13,sl cS m14,.int .i64 m15,.str m16,.int .i64 m17,sl ac m18,sl ac m19] [(2,38),(3,9),(8,36)],.cells [.int .i64 m20,.str m21,.str m22,.int .i64 m23,.str m24,.int .i64 m25,sl ac m26,.int .i64 m27,sl ax m28] [],.cells [.int .i64 m29,.str m30,.str m31,.int .i64 m32,.str m33,.int .i64 m34,sl ac m35,.int .i64 m36,sl ax m37] []] []
def Ec:Option Bool:=
 if(e !=0)=true then
  some true
 else
  if(f !=12)=true then
   some true
  else
   if((v.length:Int)!=1)=true then
    some true
   else
    (cH v 0).bind fun x15=>
    if(x15.Tag !=4)=true then
     some true
    else
     (cH v 0).bind fun x18=>
     if((x18.Vars.length:Int)!=1)=true then
      some true
     else
      (cH v 0).bind fun x21=>
      (cH x21.Vars 0).bind fun x22=>
      if(!(x22.Name==([118,49]:ag)))=true then
       some true
      else
       (cH v 0).bind fun x25=>
       (jf ([118,49]:ag)).bind fun r26=>
       (Bu 12 (⟨1,([]:ag),0,m⟩:aa) r26).bind fun r27=>
       (tf x25.Head r27).bind fun r28=>
       some (!r28)
theorem Ia{x:Bool}(h:Ec e v f m=some x):aQ Pg GE 0 (cA W9 508) (EX .normal (fi m m2 m3 m4 m5 m6 m7 m8 m9 m10 m11 m12 m13 m14 m15 m16 m17 m18 m19 m20 m21 m22 m23 m24 m25 m26 m27 m28 m29 m30 m31 m32 m33 m34 m35 m36 m37 x)) (Jy e v f m m2 m3 m4 m5 m6 m7 m8 m9 m10 m11 m12 m13 m14 m15 m16 m17 m18 m19 m20 m21 m22 m23 m24 m25 m26 m27 m28 m29 m30 m31 m32 m33 m34 m35 m36 m37):=by
 rcases aX h with⟨c10,h⟩|⟨c10,h⟩
 ·obtain rfl:=lf h
  exact ct QY (ra [0,1,3,7,15,31,63,127,255,511,1023,2047,4095,8191,16383,32767,65535,131071,262143,524287,1048575,2097151,4194303,8388607,16777215,33554431,67108863,134217727,268435455,536870911,1073741823,2147483647,4294967295,8589934591,17179869183,34359738367,68719476735,137438953471,274877906943,549755813887,1099511627775,137438953471,137438953471,6734508720127,17592186044415,35184372088831,70368744177663]<|sg 3 c10<|eF .normal (fi m m2 m3 m4 m5 m6 m7 m8 m9 m10 m11 m12 m13 m14 m15 m16 m17 m18 m19 m20 m21 m22 m23 m24 m25 m26 m27 m28 m29 m30 m31 m32 m33 m34 m35 m36 m37 true))<|by kernel_rfl
 ·have p12:=fun{sc F} (r:PS sc F)=>ra [0,1,3,7,15,31,63,127,255,511,1023,2047,4095,8191,16383,32767,65535,131071,262143,524287,1048575,2097151,4194303,8388607,16777215,33554431,67108863,134217727,268435455,536870911,1073741823,2147483647,4294967295,8589934591,17179869183,34359738367,68719476735,137438953471,274877906943,549755813887,1099511627775,137438953471,137438953471,6734508720127,17592186044415,35184372088831,70368744177663]<|sg 3 c10<|r
  rcases aX h with⟨c11,h⟩|⟨c11,h⟩
  ·obtain rfl:=lf h
   exact ct QY (p12<|sg 7 c11<|eF .normal (fi m m2 m3 m4 m5 m6 m7 m8 m9 m10 m11 m12 m13 m14 m15 m16 m17 m18 m19 m20 m21 m22 m23 m24 m25 m26 m27 m28 m29 m30 m31 m32 m33 m34 m35 m36 m37 true))<|by kernel_rfl
  ·have p14:=fun{sc F} (r:PS sc F)=>p12<|sg 7 c11<|cw (zb.ln v)<|r
   rcases aX h with⟨c13,h⟩|⟨c13,h⟩
   ·obtain rfl:=lf h
    exact ct QY (p14<|sg 12 c13<|eF .normal (fi m m2 m3 m4 m5 m6 m7 m8 m9 m10 m11 m12 m13 m14 m15 m16 m17 m18 m19 m20 m21 m22 m23 m24 m25 m26 m27 m28 m29 m30 m31 m32 m33 m34 m35 m36 m37 true))<|by kernel_rfl
   ·obtain⟨x15,bx15,h⟩:=aA h
    have p17:=fun{sc F} (r:PS sc F)=>p14<|sg 12 c13<|sv (zb.ia (k:=.i64) bx15)<|sv (If x15)<|sv (Kn x15)<|r
    rcases aX h with⟨c16,h⟩|⟨c16,h⟩
    ·obtain rfl:=lf h
     exact ct QY (p17<|sg 19 c16<|eF .normal (fi m m2 m3 m4 m5 m6 m7 m8 m9 m10 m11 m12 m13 m14 m15 m16 m17 m18 m19 m20 m21 m22 m23 m24 m25 m26 m27 m28 m29 m30 m31 m32 m33 m34 m35 m36 m37 true))<|by kernel_rfl
    ·obtain⟨x18,bx18,h⟩:=aA h
     have p20:=fun{sc F} (r:PS sc F)=>p17<|sg 19 c16<|sv (zb.ia (k:=.i64) bx18)<|sv (jy x18)<|sv (jC x18)<|cw (GN.ln x18.Vars)<|r
     rcases aX h with⟨c19,h⟩|⟨c19,h⟩
     ·obtain rfl:=lf h
      exact ct QY (p20<|sg 27 c19<|eF .normal (fi m m2 m3 m4 m5 m6 m7 m8 m9 m10 m11 m12 m13 m14 m15 m16 m17 m18 m19 m20 m21 m22 m23 m24 m25 m26 m27 m28 m29 m30 m31 m32 m33 m34 m35 m36 m37 true))<|by kernel_rfl
     ·obtain⟨x21,bx21,h⟩:=aA h
      obtain⟨x22,bx22,h⟩:=aA h
      have p24:=fun{sc F} (r:PS sc F)=>p20<|sg 27 c19<|sv (zb.ia (k:=.i64) bx21)<|sv (jy x21)<|sv (jC x21)<|sv (GN.ia (k:=.i64) bx22)<|sv (v8 x22)<|sv (AJ x22)<|r
      rcases aX h with⟨c23,h⟩|⟨c23,h⟩
      ·obtain rfl:=lf h
       exact ct QY (p24<|sg 37 c23<|eF .normal (fi m m2 m3 m4 m5 m6 m7 m8 m9 m10 m11 m12 m13 m14 m15 m16 m17 m18 m19 m20 m21 m22 m23 m24 m25 m26 m27 m28 m29 m30 m31 m32 m33 m34 m35 m36 m37 true))<|by kernel_rfl
      ·obtain⟨x25,bx25,h⟩:=aA h
       obtain⟨r26,br26,h⟩:=aA h
       obtain⟨r27,br27,h⟩:=aA h
       obtain⟨r28,br28,h⟩:=aA h
       obtain rfl:=lf h
       exact ct QY (p24<|sg 37 c23<|sv (zb.ia (k:=.i64) bx25)<|sv (mZ x25)<|sv (nh x25)<|sv (ch (⟨1,([]:ag),0,m⟩:aa) [])<|bP (gO br26)<|bP (tK br27)<|bP (uF br28)<|eF .normal (fi m m2 m3 m4 m5 m6 m7 m8 m9 m10 m11 m12 m13 m14 m15 m16 m17 m18 m19 m20 m21 m22 m23 m24 m25 m26 m27 m28 m29 m30 m31 m32 m33 m34 m35 m36 m37 (!r28)))<|by kernel_rfl
end
def Bq:Option Bool:=
 (jf ([118]:ag)).bind fun r1=>
 (Bu 10 r1 (⟨1,([]:ag),1,([]:List aa)⟩:aa)).bind fun r2=>
 (qL r2).bind fun r3=>
 (jf ([118]:ag)).bind fun r4=>
 (Bu 12 (⟨1,([]:ag),0,([]:List aa)⟩:aa) r4).bind fun r5=>
 (qL r5).bind fun r6=>
 (ll (⟨([]:List eV),([]:List po),([]:List dM),([]:List f0),([]:List sa),([]:List pu)⟩:aR) r3 r6 4 ([]:List ag)).bind fun r7=>
 (jx r7.1).bind fun r8=>
 (ll (⟨([]:List eV),([]:List po),([]:List dM),([]:List f0),([]:List sa),([]:List pu)⟩:aR) (⟨r3.Op,r3.Name,r3.Args,r3.Names,r3.Pred,r3.Preds⟩:ae) (⟨2,([]:ag),([]:List ae),([]:List ag),(⟨0,([]:ag),0,([]:List aa)⟩:aa),([]:List aa)⟩:ae) 0 ([]:List ag)).bind fun r9=>
 (Ec r7.2 r8 r9.2 ([]:List aa)).bind fun o29=>
 if o29=true then
  some false
 else
  (qL (⟨0,([]:ag),0,([]:List aa)⟩:aa)).bind fun r32=>
  (jf ([120]:ag)).bind fun r33=>
  (jf ([118]:ag)).bind fun r34=>
  (Bu 12 r33 r34).bind fun r35=>
  (qL r35).bind fun r36=>
  (ll (⟨([]:List eV),([]:List po),([]:List dM),([]:List f0),([]:List sa),([]:List pu)⟩:aR) (⟨6,([]:ag),([r32,r36]:List ae),([([120]:ag)]:List ag),(⟨0,([]:ag),0,([]:List aa)⟩:aa),([]:List aa)⟩:ae) (⟨6,([]:ag),([(⟨r6.Op,r6.Name,r6.Args,r6.Names,r6.Pred,r6.Preds⟩:ae),(⟨r6.Op,r6.Name,r6.Args,r6.Names,r6.Pred,r6.Preds⟩:ae)]:List ae),([([121]:ag)]:List ag),(⟨0,([]:ag),0,([]:List aa)⟩:aa),([]:List aa)⟩:ae) 0 ([([118,49]:ag)]:List ag)).bind fun r37=>
  (jx r37.1).bind fun r38=>
  if (r37.2 == 0) = true then
   if ((r38.length:Int) == 1) = true then
    (cH r38 0).bind fun x43=>
    if ((x43.Vars.length:Int) == 2) = true then
     (cH r38 0).bind fun x46=>
     (cH x46.Vars 0).bind fun x47=>
     if (x47.Name == ([121]:ag)) = true then
      (cH r38 0).bind fun x50=>
      (cH x50.Vars 1).bind fun x51=>
      if (x51.Name == ([118,49,49]:ag)) = true then
       (cH r38 0).bind fun x54=>
       (jf ([118,49,49]:ag)).bind fun r55=>
       (Bu 12 (⟨1,([]:ag),0,([]:List aa)⟩:aa) r55).bind fun r56=>
       (tf x54.Head r56).bind fun r57=>
       if r57=true then
        (jp (⟨r3.Op,r3.Name,r3.Args,r3.Names,r3.Pred,r3.Preds⟩:ae)).bind fun r60=>
        if r60=true then
         (jp (⟨6,([]:ag),([r32,r36]:List ae),([([120]:ag)]:List ag),(⟨0,([]:ag),0,([]:List aa)⟩:aa),([]:List aa)⟩:ae)).bind fun r63=>
         some (!r63)
        else
         some false
       else
        some false
      else
       some false
     else
      some false
    else
     some false
   else
    some false
  else
   some false
theorem Ed{r:Bool}(h:Bq=some r):CC Pg GE 11 [] (.bool r) []:=by
 obtain⟨r1,br1,h⟩:=aA h
 obtain⟨r2,br2,h⟩:=aA h
 obtain⟨r3,br3,h⟩:=aA h
 obtain⟨r4,br4,h⟩:=aA h
 obtain⟨r5,br5,h⟩:=aA h
 obtain⟨r6,br6,h⟩:=aA h
 obtain⟨r7,br7,h⟩:=aA h
 obtain⟨r8,br8,h⟩:=aA h
 obtain⟨r9,br9,h⟩:=aA h
 obtain⟨o29,bo29,h⟩:=aA h
 have p31:=fun{sc F} (r:PS sc F)=>sb (xT 1 1) (xQ 1 1)<|sb (JI 1) (JG 1)<|sx lM<|sx lM<|sy (aE (⟨1,([]:ag),1,([]:List aa)⟩:aa))<|sy (aE (⟨1,([]:ag),0,([]:List aa)⟩:aa))<|ra [0,0,3,7,0,15,63,127,0,0,1023,2047]<|bP (gO br1)<|sv (ch (⟨1,([]:ag),1,([]:List aa)⟩:aa) [])<|bP (tK br2)<|bP (oE br3)<|sv (ch (⟨1,([]:ag),0,([]:List aa)⟩:aa) [])<|bP (gO br4)<|bP (tK br5)<|bP (oE br6)<|Ym (iX r3)<|Ym (iX r6)<|sb (xS) (xP)<|sv (dj r3 [])<|sv (dj r6 [])<|bP (pn br7)<|sx y8<|sx (dJ r7.1)<|sv (iS r7.1 [])<|bP (jh br8)<|sb (xS) (xP)<|sv (dj (⟨r3.Op,r3.Name,r3.Args,r3.Names,r3.Pred,r3.Preds⟩:ae) [])<|sb (Rl 2) (Rh 2)<|bP (pn br9)<|sx y8<|sx (dJ r9.1)<|oe 1<|di (Ia r7.2 r8 r9.2 ([]:List aa) r3.Op r3.Name r3.Args r3.Names r3.Pred.Op r3.Pred.Name r3.Pred.N r3.Pred.Kids r3.Preds r6.Op r6.Name r6.Args r6.Names r6.Pred.Op r6.Pred.Name r6.Pred.N r6.Pred.Kids r6.Preds r7.1.Op r7.1.Name r7.1.Sort_ r7.1.Pred.Op r7.1.Pred.Name r7.1.Pred.N r7.1.Pred.Kids r7.1.Tag r7.1.Kids r9.1.Op r9.1.Name r9.1.Sort_ r9.1.Pred.Op r9.1.Pred.Name r9.1.Pred.N r9.1.Pred.Kids r9.1.Tag r9.1.Kids bo29)<|r
 rcases aX h with⟨c30,h⟩|⟨c30,h⟩
 ·obtain rfl:=lf h
  have z:=p31<|sg 0 c30<|en (aI (rP (.bool false))<|trivial)
  exact ck QY call11 func11 (c:=W9) rfl trivial z<|by kernel_rfl
 ·obtain ⟨r32,br32,h⟩:=aA h
  obtain⟨r33,br33,h⟩:=aA h
  obtain⟨r34,br34,h⟩:=aA h
  obtain⟨r35,br35,h⟩:=aA h
  obtain⟨r36,br36,h⟩:=aA h
  obtain⟨r37,br37,h⟩:=aA h
  obtain⟨r38,br38,h⟩:=aA h
  have p40:=fun{sc F} (r:PS sc F)=>p31<|sg 0 c30<|sv (bR.mk' (v:=PVal.str) L9 ([([120]:ag)]:List ag) 1 (by kernel_rfl))<|sb (tN) (tL)<|bP (oE br32)<|bP (gO br33)<|bP (gO br34)<|bP (tK br35)<|bP (oE br36)<|sv (cQ.mk' (v:=lO) gi ([r32,r36]:List ae) 2 (by kernel_rfl))<|sb (Au 6 ([([120]:ag)]:List ag) ([r32,r36]:List ae)) (As 6 ([([120]:ag)]:List ag) ([r32,r36]:List ae))<|sx A6<|sy (bz (⟨6,([]:ag),([r32,r36]:List ae),([([120]:ag)]:List ag),(⟨0,([]:ag),0,([]:List aa)⟩:aa),([]:List aa)⟩:ae))<|sv (bR.mk' (v:=PVal.str) L9 ([([121]:ag)]:List ag) 1 (by kernel_rfl))<|sv (dj (⟨r6.Op,r6.Name,r6.Args,r6.Names,r6.Pred,r6.Preds⟩:ae) [])<|sv (dj (⟨r6.Op,r6.Name,r6.Args,r6.Names,r6.Pred,r6.Preds⟩:ae) [])<|sv (cQ.mk' (v:=lO) gi ([(⟨r6.Op,r6.Name,r6.Args,r6.Names,r6.Pred,r6.Preds⟩:ae),(⟨r6.Op,r6.Name,r6.Args,r6.Names,r6.Pred,r6.Preds⟩:ae)]:List ae) 2 (by kernel_rfl))<|sb (Au 6 ([([121]:ag)]:List ag) ([(⟨r6.Op,r6.Name,r6.Args,r6.Names,r6.Pred,r6.Preds⟩:ae),(⟨r6.Op,r6.Name,r6.Args,r6.Names,r6.Pred,r6.Preds⟩:ae)]:List ae)) (As 6 ([([121]:ag)]:List ag) ([(⟨r6.Op,r6.Name,r6.Args,r6.Names,r6.Pred,r6.Preds⟩:ae),(⟨r6.Op,r6.Name,r6.Args,r6.Names,r6.Pred,r6.Preds⟩:ae)]:List ae))<|sx A6<|sy (bz (⟨6,([]:ag),([(⟨r6.Op,r6.Name,r6.Args,r6.Names,r6.Pred,r6.Preds⟩:ae),(⟨r6.Op,r6.Name,r6.Args,r6.Names,r6.Pred,r6.Preds⟩:ae)]:List ae),([([121]:ag)]:List ag),(⟨0,([]:ag),0,([]:List aa)⟩:aa),([]:List aa)⟩:ae))<|sb (xS) (xP)<|sv (dj (⟨6,([]:ag),([r32,r36]:List ae),([([120]:ag)]:List ag),(⟨0,([]:ag),0,([]:List aa)⟩:aa),([]:List aa)⟩:ae) [])<|sv (dj (⟨6,([]:ag),([(⟨r6.Op,r6.Name,r6.Args,r6.Names,r6.Pred,r6.Preds⟩:ae),(⟨r6.Op,r6.Name,r6.Args,r6.Names,r6.Pred,r6.Preds⟩:ae)]:List ae),([([121]:ag)]:List ag),(⟨0,([]:ag),0,([]:List aa)⟩:aa),([]:List aa)⟩:ae) [])<|sv (bR.mk' (v:=PVal.str) L9 ([([118,49]:ag)]:List ag) 1 (by kernel_rfl))<|bP (pn br37)<|sx y8<|sx (dJ r37.1)<|sv (iS r37.1 [])<|bP (jh br38)<|ra [0,1,3,7,15,31,63,127,255,511,1023,2047,4095,8191,16383,32767,65535,131071,262143,524287,1048575,2097151,4194303,8388607,16777215,33554431,67108863,134217727,268435455,536870911,1073741823,2147483647,4294967295,8589934591,17179869183,34359738367,68719476735,137438953471,274877906943,549755813887,68719476735,68719476735,3367254360063,8796093022207,17592186044415,35184372088831,70368744177663,140737488355327,281474976710655,562949953421311,1125899906842623,2251799813685247,4503599627370495,9007199254740991,18014398509481983]<|r
  rcases aX h with⟨c39,h⟩|⟨c39,h⟩
  ·have p42:=fun{sc F} (r:PS sc F)=>p40<|sg 3 c39<|cw (zb.ln r38)<|r
   rcases aX h with⟨c41,h⟩|⟨c41,h⟩
   ·obtain⟨x43,bx43,h⟩:=aA h
    have p45:=fun{sc F} (r:PS sc F)=>p42<|sg 8 c41<|sv (zb.ia (k:=.i64) bx43)<|sv (jy x43)<|sv (jC x43)<|cw (GN.ln x43.Vars)<|r
    rcases aX h with⟨c44,h⟩|⟨c44,h⟩
    ·obtain⟨x46,bx46,h⟩:=aA h
     obtain⟨x47,bx47,h⟩:=aA h
     have p49:=fun{sc F} (r:PS sc F)=>p45<|sg 16 c44<|sv (zb.ia (k:=.i64) bx46)<|sv (jy x46)<|sv (jC x46)<|sv (GN.ia (k:=.i64) bx47)<|sv (v8 x47)<|sv (AJ x47)<|r
     rcases aX h with⟨c48,h⟩|⟨c48,h⟩
     ·obtain⟨x50,bx50,h⟩:=aA h
      obtain⟨x51,bx51,h⟩:=aA h
      have p53:=fun{sc F} (r:PS sc F)=>p49<|sg 26 c48<|sv (zb.ia (k:=.i64) bx50)<|sv (jy x50)<|sv (jC x50)<|sv (GN.ia (k:=.i64) bx51)<|sv (v8 x51)<|sv (AJ x51)<|r
      rcases aX h with⟨c52,h⟩|⟨c52,h⟩
      ·obtain⟨x54,bx54,h⟩:=aA h
       obtain⟨r55,br55,h⟩:=aA h
       obtain⟨r56,br56,h⟩:=aA h
       obtain⟨r57,br57,h⟩:=aA h
       have p59:=fun{sc F} (r:PS sc F)=>p53<|sg 36 c52<|sv (zb.ia (k:=.i64) bx54)<|sv (mZ x54)<|sv (nh x54)<|sv (ch (⟨1,([]:ag),0,([]:List aa)⟩:aa) [])<|bP (gO br55)<|bP (tK br56)<|bP (uF br57)<|r
       rcases aX h with⟨c58,h⟩|⟨c58,h⟩
       ·obtain⟨r60,br60,h⟩:=aA h
        have p62:=fun{sc F} (r:PS sc F)=>p59<|sg 46 c58<|sv (dj (⟨r3.Op,r3.Name,r3.Args,r3.Names,r3.Pred,r3.Preds⟩:ae) [])<|bP (nm br60)<|r
        rcases aX h with⟨c61,h⟩|⟨c61,h⟩
        ·obtain⟨r63,br63,h⟩:=aA h
         obtain rfl:=lf h
         have z:=p62<|sg 50 c61<|sv (dj (⟨6,([]:ag),([r32,r36]:List ae),([([120]:ag)]:List ag),(⟨0,([]:ag),0,([]:List aa)⟩:aa),([]:List aa)⟩:ae) [])<|bP (nm br63)<|en (aI (rP (.bool (!r63)))<|trivial)
         exact ck QY call11 func11 (c:=W9) rfl trivial z<|by kernel_rfl
        ·obtain rfl:=lf h
         have z:=p62<|sg 50 c61<|en (aI (rP (.bool false))<|trivial)
         exact ck QY call11 func11 (c:=W9) rfl trivial z<|by kernel_rfl
       ·obtain rfl:=lf h
        have z:=p59<|sg 46 c58<|en (aI (rP (.bool false))<|trivial)
        exact ck QY call11 func11 (c:=W9) rfl trivial z<|by kernel_rfl
      ·obtain rfl:=lf h
       have z:=p53<|sg 36 c52<|en (aI (rP (.bool false))<|trivial)
       exact ck QY call11 func11 (c:=W9) rfl trivial z<|by kernel_rfl
     ·obtain rfl:=lf h
      have z:=p49<|sg 26 c48<|en (aI (rP (.bool false))<|trivial)
      exact ck QY call11 func11 (c:=W9) rfl trivial z<|by kernel_rfl
    ·obtain rfl:=lf h
     have z:=p45<|sg 16 c44<|en (aI (rP (.bool false))<|trivial)
     exact ck QY call11 func11 (c:=W9) rfl trivial z<|by kernel_rfl
   ·obtain rfl:=lf h
    have z:=p42<|sg 8 c41<|en (aI (rP (.bool false))<|trivial)
    exact ck QY call11 func11 (c:=W9) rfl trivial z<|by kernel_rfl
  ·obtain rfl:=lf h
   have z:=p40<|sg 3 c39<|en (aI (rP (.bool false))<|trivial)
   exact ck QY call11 func11 (c:=W9) rfl trivial z<|by kernel_rfl
section
variable(n:Int)(s:ag)(m:Int)(d:Int)
def zm:Option Int:=
 if(decide (d<0))=true then
  some (IntKind.i64.wrap (0 - d))
 else
  some d
end
section
variable(n:Int)(s:ag)(m:Int)
def qi:Option ((ag×Int)⊕(ag)):=
 if(m !=0)=true then
  (re m 10).bind fun q3=>
  (zm q3).bind fun o5=>
  (Ep ([IntKind.u8.wrap (aO (48+o5))]:List Int)).bind fun s6=>
  (ZA s6 s).bind fun s7=>
  (qu .i64 m 10).bind fun q8=>
  some (.inl (s7,q8))
 else
  some (.inr s)
def qG:Option ag:=loop (fun(zz:ag×Int)=>qi zz.1 zz.2) (s,m)
end
def IQ(n:Int):Option ag:=
 if(n==0)=true then
  some ([48]:ag)
 else
  (qG ([]:ag) n).bind fun o9=>
  if(decide (n<0))=true then
   (ZA ([45]:ag) o9).bind fun s12=>
   some s12
  else
   some o9
open Go
section
variable(used:waB)(base:ag)(s:ag)(n:Int)
def cK:Option ((ag×Int)⊕(ag)):=
 (wx used s).bind fun r1=>
 if(decide (r1>=0))=true then
  (IQ n).bind fun r3=>
  (ZA base r3).bind fun s4=>
  some (.inl (s4,aO (n+1)))
 else
  some (.inr s)
def lr:Option ag:=loop (fun(zz:ag×Int)=>cK used base zz.1 zz.2) (s,n)
end
def Fu(used:waB)(base:ag):Option ag:=
 (lr used base base 1).bind fun o5=>
 some o5
abbrev uT:=(ae->Option Bool)
abbrev zk(R:uT):Prop:=∀(t:ae) (r:Bool),R t=some r->CC Pg GE 15 [.agg (af t)] (.bool r) []
noncomputable def qaP:Code:=f15.body.getD .skip
def Z7:List Nat:=[]
section
variable(R131:uT)(t:ae)(i:Int)
def kI:az:=aW 21 [(1,.eptr (af t)),(3,.int .i64 i)] [.dead] []
def kJ(o:Unit⊕(Unit)):Exit:=match o with
 |(.inl _)=>.ret
 |(.inr _)=>.exit 0
def iQ(o:Unit⊕(Unit)):az:=match o with
 |(.inl o)=>aW 21 [(2,.bool false)] [.dead] []
 |(.inr o)=>aW 21 [] [.dead] []
def Al:Option (Int⊕(Unit⊕(Unit))):=
 if(decide (i<(t.Args.length:Int)))=true then
  (cH t.Args i).bind fun x5=>
  (R131 x5).bind fun r6=>
  if(!r6)=true then
   some (.inr (.inl ()))
  else
   some (.inl (aO (i+1)))
 else
  some (.inr (.inr ()))
def xN:Option (Unit⊕(Unit)):=loop (fun(zz:Int)=>Al R131 t zz) i
theorem F4(hR131:zk R131){y:Int⊕(Unit⊕(Unit))}(h:Al R131 t i=some y):aQ Pg GE 0 (cA qaP 119) (LQ (fun(zz:Int)=>kI t zz) kJ iQ y) (kI t i):=by
 have p4:=fun{sc F} (r:PS sc F)=>sv (aT t)<|sv (aU t)<|cw (cQ.ln t.Args)<|r
 rcases aX h with⟨c3,h⟩|⟨c3,h⟩
 ·obtain⟨x5,bx5,h⟩:=aA h
  obtain⟨r6,br6,h⟩:=aA h
  have p8:=fun{sc F} (r:PS sc F)=>p4<|sg 0 c3<|sv (aT t)<|sv (aU t)<|sv (cQ.ia (k:=.i64) bx5)<|sv (aZ x5)<|bP (hR131 _ _ br6)<|r
  rcases aX h with⟨c7,h⟩|⟨c7,h⟩
  ·obtain rfl:=lf h
   have z:=p8<|sg 0 c7<|eF (kJ (.inl ())) (iQ (.inl ()))
   exact iW Z7 (by intro hx;cases hx) z<|by kernel_rfl
  ·obtain rfl:=lf h
   exact rF Z7 (p8<|sg 0 c7<|eF .normal (kI t (aO (i+1))))<|by kernel_rfl
 ·obtain rfl:=lf h
  have z:=p4<|sg 0 c3<|eF (kJ (.inr ())) (iQ (.inr ()))
  exact iW Z7 (by intro hx;cases hx) z<|by kernel_rfl
theorem yF(hR131:zk R131){x:Unit⊕(Unit)}(h:xN R131 t i=some x):aQ Pg GE 0 (.loop (cA qaP 119)) (EX (kJ x) (iQ x)) (kI t i):=
 aQ.loop (S:=fun(zz:Int)=>kI t zz) (ex:=kJ) (s:=i) h fun zz y hy=>F4 R131 t zz hR131 hy
end
def uU(R131:uT)(t:ae):Option Bool:=
 if(t.Op==6)=true then
  some false
 else
  (xN R131 t 0).bind fun o9=>match o9 with
  |(.inl o9)=>
   some false
  |(.inr o9)=>
   some true
theorem Ly(R131:uT)(hR131:zk R131){t:ae}{r:Bool}(h:uU R131 t=some r):CC Pg GE 15 [.agg (af t)] (.bool r) []:=by
 have p2:=fun{sc F} (r:PS sc F)=>se (co t)<|sv (aH t)<|sv (aJ t)<|r
 rcases aX h with⟨c1,h⟩|⟨c1,h⟩
 ·obtain rfl:=lf h
  have z:=p2<|sg 0 c1<|en (aI (rP (.bool false))<|trivial)
  exact ck Z7 call15 func15 (c:=qaP) rfl (aI (av t) trivial) z<|by kernel_rfl
 ·obtain⟨o9,bo9,h⟩:=aA h
  rcases o9 with o9|o9
  ·obtain rfl:=lf h
   have z:=p2<|sg 0 c1<|di (e:=.ret) (s1:=iQ (.inl o9)) (yF R131 t 0 hR131 bo9)<|en (aI (rP (.bool false))<|trivial)
   exact ck Z7 call15 func15 (c:=qaP) rfl (aI (av t) trivial) z<|by kernel_rfl
  ·obtain rfl:=lf h
   have z:=p2<|sg 0 c1<|di (e:=.exit 0) (s1:=iQ (.inr o9)) (yF R131 t 0 hR131 bo9)<|en (aI (rP (.bool true))<|trivial)
   exact ck Z7 call15 func15 (c:=qaP) rfl (aI (av t) trivial) z<|by kernel_rfl
def Ak:(ae->Option Bool)->(ae)->Option Bool:=fun(rec:ae->Option Bool) (x:ae)=>uU (fun t=>rec t) x
def F3(t:ae):Option Bool:=oP Ak t
theorem NO{t:ae}{r:Bool}(h:F3 t=some r):CC Pg GE 15 [.agg (af t)] (.bool r) []:=
 cR (F:=Ak) (M:=fun(x:ae) (r:Bool)=>CC Pg GE 15 [.agg (af x)] (.bool r) []) (fun rec hrec x r h=>Ly _ (fun t r h=>hrec t r h) h) h
noncomputable def qcr:Code:=f18.body.getD .skip
def qcc:List Nat:=[]
def Bt(p:aa):Option Bool:=
 if(p.Op==0)=true then
  some true
 else
  if(p.Op==2)=true then
   some (p.N==1)
  else
   some false
theorem NQ{p:aa}{r:Bool}(h:Bt p=some r):CC Pg GE 18 [.agg (ac p)] (.bool r) []:=by
 have p2:=fun{sc F} (r:PS sc F)=>se (cf p)<|sv (bq p)<|sv (bv p)<|r
 rcases aX h with⟨c1,h⟩|⟨c1,h⟩
 ·obtain rfl:=lf h
  have z:=p2<|sg 4 c1<|en (aI (rP (.bool true))<|trivial)
  exact ck qcc call18 func18 (c:=qcr) rfl (aI (ah p) trivial) z<|by kernel_rfl
 ·have p4:=fun{sc F} (r:PS sc F)=>p2<|sg 4 c1<|sv (bq p)<|sv (bv p)<|r
  rcases aX h with⟨c3,h⟩|⟨c3,h⟩
  ·obtain rfl:=lf h
   have z:=p4<|sg 8 c3<|sv (cO p)<|sv (dh p)<|en (aI (rP (.bool (p.N==1)))<|trivial)
   exact ck qcc call18 func18 (c:=qcr) rfl (aI (ah p) trivial) z<|by kernel_rfl
  ·obtain rfl:=lf h
   have z:=p4<|sg 8 c3<|en (aI (rP (.bool false))<|trivial)
   exact ck qcc call18 func18 (c:=qcr) rfl (aI (ah p) trivial) z<|by kernel_rfl
noncomputable def b4:Code:=Tryz.f4.body.getD .skip
def A4:List Nat:=[]
section
variable(used:waB)(m:aR)(t:ae)
def ut:az:=aW 91 [(2,sl cS used),(3,.eptr (aC m)),(4,.eptr (af t))] [.dead,.dead] []
def cT(o:Bool):az:=aW 91 [(2,sl cS used),(3,.eptr (aC m)),(4,.eptr (af t)),(35,.bool o)] [.dead,.dead] []
def fy:Option Bool:=
 (Bo m).bind fun r1=>
 if(!r1)=true then
  some true
 else
  (Br t).bind fun r4=>
  if(!r4)=true then
   some true
  else
   (IA used).bind fun r7=>
   if(!r7)=true then
    some true
   else
    (F3 t).bind fun r10=>
    if(!r10)=true then
     some true
    else
     (Bp t).bind fun r13=>
     some (r13 !=0)
theorem tH{x:Bool}(h:fy used m t=some x):aQ Pg GE 0 (cA b4 12) (EX .normal (cT used m t x)) (ut used m t):=by
 obtain⟨r1,br1,h⟩:=aA h
 have p3:=fun{sc F} (r:PS sc F)=>sv (Dt m)<|bP (NJ br1)<|r
 rcases aX h with⟨c2,h⟩|⟨c2,h⟩
 ·obtain rfl:=lf h
  exact ct A4 (p3<|sg 4 c2<|eF .normal (cT used m t true))<|by kernel_rfl
 ·obtain⟨r4,br4,h⟩:=aA h
  have p6:=fun{sc F} (r:PS sc F)=>p3<|sg 4 c2<|sv (aZ t)<|bP (NP br4)<|r
  rcases aX h with⟨c5,h⟩|⟨c5,h⟩
  ·obtain rfl:=lf h
   exact ct A4 (p6<|sg 9 c5<|eF .normal (cT used m t true))<|by kernel_rfl
  ·obtain⟨r7,br7,h⟩:=aA h
   have p9:=fun{sc F} (r:PS sc F)=>p6<|sg 9 c5<|bP (Q4 br7)<|r
   rcases aX h with⟨c8,h⟩|⟨c8,h⟩
   ·obtain rfl:=lf h
    exact ct A4 (p9<|sg 14 c8<|eF .normal (cT used m t true))<|by kernel_rfl
   ·obtain⟨r10,br10,h⟩:=aA h
    have p12:=fun{sc F} (r:PS sc F)=>p9<|sg 14 c8<|sv (aZ t)<|bP (NO br10)<|r
    rcases aX h with⟨c11,h⟩|⟨c11,h⟩
    ·obtain rfl:=lf h
     exact ct A4 (p12<|sg 19 c11<|eF .normal (cT used m t true))<|by kernel_rfl
    ·obtain⟨r13,br13,h⟩:=aA h
     obtain rfl:=lf h
     exact ct A4 (p12<|sg 19 c11<|sv (aZ t)<|bP (NK br13)<|eF .normal (cT used m t (r13 !=0)))<|by kernel_rfl
end
section
variable(v:waE)(i:Int)(found:Bool)(k:Int)(m:Int)(m2:ag)(m3:ag)(m4:Int)(m5:ag)(m6:Int)(m7:waA)(m8:Int)(m9:waD)
def uu:az:=aW 91 [(9,sl aD v),(10,.int .i64 i),(11,.bool found),(12,.int .i64 k)] [.dead,.dead,.cells [.int .i64 m,.str m2,.str m3,.int .i64 m4,.str m5,.int .i64 m6,sl ac m7,.int .i64 m8,sl ax m9] []] [((9,0),62)]
def gH(o:Bool):az:=aW 91 [(9,sl aD v),(10,.int .i64 i),(11,.bool o),(12,.int .i64 k)] [.dead,.dead,.cells [.int .i64 m,.str m2,.str m3,.int .i64 m4,.str m5,.int .i64 m6,sl ac m7,.int .i64 m8,sl ax m9] []] [((9,0),62)]
def iP:Option Bool:=
 if found=true then
  some true
 else
  (cH v i).bind fun x29=>
  (cH x29.Hyps k).bind fun x30=>
  (cH v i).bind fun x31=>
  (tf x30 x31.Head).bind fun r32=>
  some r32
theorem tI{x:Bool}(h:iP v i found k=some x):aQ Pg GE 0 (cA b4 1040094) (EX .normal (gH v i k m m2 m3 m4 m5 m6 m7 m8 m9 x)) (uu v i found k m m2 m3 m4 m5 m6 m7 m8 m9):=by
 rcases aX h with⟨c28,h⟩|⟨c28,h⟩
 ·obtain rfl:=lf h
  exact ct A4 (ra [0,1,3,3,15,31,63,3,255,511,3,3,3075,7171,15363,32767,65535,131071]<|sg 2 c28<|eF .normal (gH v i k m m2 m3 m4 m5 m6 m7 m8 m9 true))<|by kernel_rfl
 ·obtain⟨x29,bx29,h⟩:=aA h
  obtain⟨x30,bx30,h⟩:=aA h
  obtain⟨x31,bx31,h⟩:=aA h
  obtain⟨r32,br32,h⟩:=aA h
  obtain rfl:=lf h
  exact ct A4 (ra [0,1,3,3,15,31,63,3,255,511,3,3,3075,7171,15363,32767,65535,131071]<|sg 2 c28<|sv (zb.ia (k:=.i64) bx29)<|sv (yH x29)<|sv (yL x29)<|sv (cd.ia (k:=.i64) bx30)<|sv (aY x30)<|sv (zb.ia (k:=.i64) bx31)<|sv (mZ x31)<|sv (nh x31)<|bP (uF br32)<|eF .normal (gH v i k m m2 m3 m4 m5 m6 m7 m8 m9 r32))<|by kernel_rfl
end
section
variable(v:waE)(i:Int)(m:Int)(m2:ag)(m3:ag)(m4:Int)(m5:ag)(m6:Int)(m7:waA)(m8:Int)(m9:waD)(found:Bool)(k:Int)
def dD:az:=aW 91 [(9,sl aD v),(10,.int .i64 i),(11,.bool found),(12,.int .i64 k)] [.dead,.dead,.cells [.int .i64 m,.str m2,.str m3,.int .i64 m4,.str m5,.int .i64 m6,sl ac m7,.int .i64 m8,sl ax m9] []] [((9,0),62)]
def gI(o:Bool):az:=aW 91 [(9,sl aD v),(10,.int .i64 i),(11,.bool o)] [.dead,.dead,.cells [.int .i64 m,.str m2,.str m3,.int .i64 m4,.str m5,.int .i64 m6,sl ac m7,.int .i64 m8,sl ax m9] []] [((9,0),62)]
def cV:Option ((Bool×Int)⊕(Bool)):=
 (cH v i).bind fun x25=>
 if(decide (k<(x25.Hyps.length:Int)))=true then
  (iP v i found k).bind fun o33=>
  some (.inl (o33,aO (k+1)))
 else
  some (.inr found)
def fC:Option Bool:=loop (fun(zz:Bool×Int)=>cV v i zz.1 zz.2) (found,k)
theorem sF{y:(Bool×Int)⊕(Bool)}(h:cV v i found k=some y):aQ Pg GE 0 (cA b4 260023) (LQ (fun(zz:Bool×Int)=>dD v i m m2 m3 m4 m5 m6 m7 m8 m9 zz.1 zz.2) (fun _=>.exit 2) (gI v i m m2 m3 m4 m5 m6 m7 m8 m9) y) (dD v i m m2 m3 m4 m5 m6 m7 m8 m9 found k):=by
 obtain⟨x25,bx25,h⟩:=aA h
 have p27:=fun{sc F} (r:PS sc F)=>sv (zb.ia (k:=.i64) bx25)<|sv (yH x25)<|sv (yL x25)<|cw (cd.ln x25.Hyps)<|r
 rcases aX h with⟨c26,h⟩|⟨c26,h⟩
 ·obtain⟨o33,bo33,h⟩:=aA h
  obtain rfl:=lf h
  exact rF A4 (p27<|sg 0 c26<|oe 0<|di (tI v i found k m m2 m3 m4 m5 m6 m7 m8 m9 bo33)<|eF .normal (dD v i m m2 m3 m4 m5 m6 m7 m8 m9 o33 (aO (k+1))))<|by kernel_rfl
 ·obtain rfl:=lf h
  have z:=p27<|sg 0 c26<|eF (.exit 2) (gI v i m m2 m3 m4 m5 m6 m7 m8 m9 found)
  exact iW A4 (by intro hx;cases hx) z<|by kernel_rfl
theorem tJ{x:Bool}(h:fC v i found k=some x):aQ Pg GE 0 (.loop (cA b4 260023)) (EX (.exit 2) (gI v i m m2 m3 m4 m5 m6 m7 m8 m9 x)) (dD v i m m2 m3 m4 m5 m6 m7 m8 m9 found k):=
 aQ.loop (S:=fun(zz:Bool×Int)=>dD v i m m2 m3 m4 m5 m6 m7 m8 m9 zz.1 zz.2) (ex:=(fun _=>.exit 2)) (s:=(found,k)) h fun zz y hy=>sF v i m m2 m3 m4 m5 m6 m7 m8 m9 zz.1 zz.2 hy
end
section
variable(v:waE)(m:Int)(m2:ag)(m3:ag)(m4:Int)(m5:ag)(m6:Int)(m7:waA)(m8:Int)(m9:waD)(i:Int)
def dB:az:=aW 91 [(9,sl aD v),(10,.int .i64 i)] [.dead,.dead,.cells [.int .i64 m,.str m2,.str m3,.int .i64 m4,.str m5,.int .i64 m6,sl ac m7,.int .i64 m8,sl ax m9] []] [((9,0),62)]
def dC(o:Unit⊕(Unit)):Exit:=match o with
 |(.inl _)=>.ret
 |(.inr _)=>.exit 0
def cU(o:Unit⊕(Unit)):az:=match o with
 |(.inl o)=>aW 91 [(6,.bool false)] [.dead,.dead,.cells [.int .i64 m,.str m2,.str m3,.int .i64 m4,.str m5,.int .i64 m6,sl ac m7,.int .i64 m8,sl ax m9] []] []
 |(.inr o)=>aW 91 [] [.dead,.dead,.cells [.int .i64 m,.str m2,.str m3,.int .i64 m4,.str m5,.int .i64 m6,sl ac m7,.int .i64 m8,sl ax m9] []] []
def eP:Option (Int⊕(Unit⊕(Unit))):=
 if(decide (i<(v.length:Int)))=true then
  (cH v i).bind fun x23=>
  (Bt x23.Head).bind fun r24=>
  (fC v i r24 0).bind fun o34=>
  if(!o34)=true then
   some (.inr (.inl ()))
  else
   some (.inl (aO (i+1)))
 else
  some (.inr (.inr ()))
def fA:Option (Unit⊕(Unit)):=loop (fun(zz:Int)=>eP v zz) i
theorem sE{y:Int⊕(Unit⊕(Unit))}(h:eP v i=some y):aQ Pg GE 0 (cA b4 1015) (LQ (fun(zz:Int)=>dB v m m2 m3 m4 m5 m6 m7 m8 m9 zz) dC (cU m m2 m3 m4 m5 m6 m7 m8 m9) y) (dB v m m2 m3 m4 m5 m6 m7 m8 m9 i):=by
 rcases aX h with⟨c22,h⟩|⟨c22,h⟩
 ·obtain⟨x23,bx23,h⟩:=aA h
  obtain⟨r24,br24,h⟩:=aA h
  obtain⟨o34,bo34,h⟩:=aA h
  have p36:=fun{sc F} (r:PS sc F)=>cw (zb.ln v)<|sg 0 c22<|sv (zb.ia (k:=.i64) bx23)<|sv (mZ x23)<|sv (nh x23)<|bP (NQ br24)<|di (tJ v i m m2 m3 m4 m5 m6 m7 m8 m9 r24 0 bo34)<|r
  rcases aX h with⟨c35,h⟩|⟨c35,h⟩
  ·obtain rfl:=lf h
   have z:=p36<|sg 0 c35<|eF (dC (.inl ())) (cU m m2 m3 m4 m5 m6 m7 m8 m9 (.inl ()))
   exact iW A4 (by intro hx;cases hx) z<|by kernel_rfl
  ·obtain rfl:=lf h
   exact rF A4 (p36<|sg 0 c35<|eF .normal (dB v m m2 m3 m4 m5 m6 m7 m8 m9 (aO (i+1))))<|by kernel_rfl
 ·obtain rfl:=lf h
  have z:=cw (zb.ln v)<|sg 0 c22<|eF (dC (.inr ())) (cU m m2 m3 m4 m5 m6 m7 m8 m9 (.inr ()))
  exact iW A4 (by intro hx;cases hx) z<|by kernel_rfl
theorem kH{x:Unit⊕(Unit)}(h:fA v i=some x):aQ Pg GE 0 (.loop (cA b4 1015)) (EX (dC x) (cU m m2 m3 m4 m5 m6 m7 m8 m9 x)) (dB v m m2 m3 m4 m5 m6 m7 m8 m9 i):=
 aQ.loop (S:=fun(zz:Int)=>dB v m m2 m3 m4 m5 m6 m7 m8 m9 zz) (ex:=dC) (s:=i) h fun zz y hy=>sE v m m2 m3 m4 m5 m6 m7 m8 m9 zz hy
end
def kG(m:aR)(t:ae)(used:waB):Option Bool:=
 (fy used m t).bind fun o14=>
 if o14=true then
  Bq.bind fun r17=>
  some r17
 else
  (ll m t t 0 used).bind fun r18=>
  if(r18.2 !=0)=true then
   some false
  else
   (jx r18.1).bind fun r21=>
   (fA r21 0).bind fun o37=>match o37 with
   |(.inl o37)=>
    some false
   |(.inr o37)=>
    Bq.bind fun r38=>
    some r38
theorem wA{m:aR}{t:ae}{used:waB}{r:Bool}(h:kG m t used=some r):CC Pg GE 4 [.agg (aC m),.agg (af t),sl cS used] (.bool r) []:=by
 obtain⟨o14,bo14,h⟩:=aA h
 have p16:=fun{sc F} (r:PS sc F)=>se (tX m)<|se (co t)<|oe 1<|di (tH used m t bo14)<|r
 rcases aX h with⟨c15,h⟩|⟨c15,h⟩
 ·obtain⟨r17,br17,h⟩:=aA h
  obtain rfl:=lf h
  have z:=p16<|sg 0 c15<|bP (Ed br17)<|en (aI (rP (.bool r17))<|trivial)
  exact ck A4 call4 func4 (c:=b4) rfl (aI (ij m) (aI (av t) (aI (aq iu used) trivial))) z<|by kernel_rfl
 ·obtain⟨r18,br18,h⟩:=aA h
  have p20:=fun{sc F} (r:PS sc F)=>p16<|sg 0 c15<|sv (Dt m)<|sv (aZ t)<|sv (aZ t)<|bP (pn br18)<|sx y8<|sx (dJ r18.1)<|r
  rcases aX h with⟨c19,h⟩|⟨c19,h⟩
  ·obtain rfl:=lf h
   have z:=p20<|sg 0 c19<|en (aI (rP (.bool false))<|trivial)
   exact ck A4 call4 func4 (c:=b4) rfl (aI (ij m) (aI (av t) (aI (aq iu used) trivial))) z<|by kernel_rfl
  ·obtain⟨r21,br21,h⟩:=aA h
   obtain⟨o37,bo37,h⟩:=aA h
   rcases o37 with o37|o37
   ·obtain rfl:=lf h
    have z:=p20<|sg 0 c19<|sv (iS r18.1 [])<|bP (jh br21)<|di (e:=.ret) (s1:=cU r18.1.Op r18.1.Name r18.1.Sort_ r18.1.Pred.Op r18.1.Pred.Name r18.1.Pred.N r18.1.Pred.Kids r18.1.Tag r18.1.Kids (.inl o37)) (kH r21 r18.1.Op r18.1.Name r18.1.Sort_ r18.1.Pred.Op r18.1.Pred.Name r18.1.Pred.N r18.1.Pred.Kids r18.1.Tag r18.1.Kids 0 bo37)<|en (aI (rP (.bool false))<|trivial)
    exact ck A4 call4 func4 (c:=b4) rfl (aI (ij m) (aI (av t) (aI (aq iu used) trivial))) z<|by kernel_rfl
   ·obtain⟨r38,br38,h⟩:=aA h
    obtain rfl:=lf h
    have z:=p20<|sg 0 c19<|sv (iS r18.1 [])<|bP (jh br21)<|di (e:=.exit 0) (s1:=cU r18.1.Op r18.1.Name r18.1.Sort_ r18.1.Pred.Op r18.1.Pred.Name r18.1.Pred.N r18.1.Pred.Kids r18.1.Tag r18.1.Kids (.inr o37)) (kH r21 r18.1.Op r18.1.Name r18.1.Sort_ r18.1.Pred.Op r18.1.Pred.Name r18.1.Pred.N r18.1.Pred.Kids r18.1.Tag r18.1.Kids 0 bo37)<|bP (Ed br38)<|en (aI (rP (.bool r38))<|trivial)
    exact ck A4 call4 func4 (c:=b4) rfl (aI (ij m) (aI (av t) (aI (aq iu used) trivial))) z<|by kernel_rfl
theorem QH{α β X:Type}(g:α->β)(e:List β->X):∀(l:List α) (i:Nat) (s:List β),pr (fun _ x (s:List β)=>(Sum.inl (s++[g x]):List β⊕X)) e l i s=e (s++l.map g)
 |[],i,s=>by simp[pr]
 |x::l,i,s=>by
  unfold pr
  simp only
  rw[QH g e l (i+1) (s++[g x])]
  simp
theorem P8{α β τ X:Type}(l:List α)(hl:l.length<9223372036854775808)(mk:Int->List β->τ)(body:τ->Option (τ⊕X))(g:α->β)(e:List β->X)
  (hin:∀(i:Nat) (h:i<l.length) s,s.length=i->body (mk i s)=some (.inl (mk (aO ((i:Int)+1)) (s++[g l[i]])))) (hend:∀s,body (mk l.length s)=some (.inr (e s))):loop body (mk 0 [])=some (e (l.map g)):=by
 have:=oT l hl mk body (fun i s=>s.length=i) (fun _ x s=>.inl (s++[g x])) e (fun i h s hs=>⟨hin i h s hs,fun s' hs'=>by cases hs';simp[hs]⟩) (fun s _=>hend s) 0 [] (vaP _) rfl
 rw[QH]at this
 exact this
theorem Wd{α X:Type}(l:List α)(hl:l.length<9223372036854775808)(body:Int->Option (Int⊕X))(e:X)
  (hin:∀(i:Nat) (h:i<l.length),body i=some (.inl (aO ((i:Int)+1)))) (hend:body l.length=some (.inr e)):loop body (0:Int)=some e:=by
 have:=Kr l hl body (fun _=>false) e e (fun i h=>by rw[hin i h];rfl) hend 0 (vaP _)
 simpa using this
set_option linter.unusedSimpArgs false
abbrev qcj(a:List ag):Prop:=a.length<9223372036854775808
def SK(l:List ag)(s:ag):Int:=match l.findIdx? (fun x=>x==s)with|some j=>(j:Int)|none=>-1
theorem nM(l:List ag)(s:ag)(hl:l.length<9223372036854775808):wx l s=some (SK l s):=by
 unfold wx zq
 have:=MQ l hl (fun zz=>mo l s l.length zz) (fun x=>x==s) (fun j=>Sum.inl (j:Int)) (Sum.inr ()) (fun i h=>by
  simp only[mo]
  rw[vaj (by simp;omega),bj _ i h]
  simp only[vaa]
  split<;>simp_all) (by simp only[mo];rw[van (by simp)])
 rw[this]
 unfold SK
 cases l.findIdx? (fun x=>x==s)<;>rfl
theorem sJ(l:List ag)(s:ag):decide (SK l s>=0)=l.any fun k=>k==s:=by
 unfold SK
 cases h:l.findIdx? (fun x=>x==s)with
 |none=>
  rw[vcc]at h
  symm
  simp only[vbs]
  rw[show decide ((-1:Int)>=0)=false from rfl]
  simp only[vbs,Bool.not_eq_true]
  exact h
 | some j =>
  have h2:l.any (fun x=>x==s)=true:=by
   have:=List.findIdx?_isSome (xs:=l) (p:=fun x=>x==s)
   rw[h]at this
   exact this.symm
  rw[h2]
  simp
theorem MR{α:Type}(k:ag)(v:α)(j:ag):∀(m:List (ag×α)),y6 (EM m k v) j=if(j==k)=true then some v else y6 m j
 |[]=>by
  simp only[EM,y6,List.find?_cons,List.find?_nil]
  cases(j==k)<;>rfl
 | e :: r => by
  have ih:=MR k v j r
  unfold EM
  by_cases h:(k==e.1)=true
  ·have h':k=e.1:=by simpa using h
   rw[vaj h]
   unfold y6
   simp only[List.find?_cons]
   rw[<-h']
   cases hj:(j==k)<;>simp
  ·rw [van h]
   unfold y6 at ih ⊢
   simp only[List.find?_cons]
   cases hj:(j==e.1)
   ·simpa using ih
   ·have:¬(j==k)=true:=fun hk=>h (by
      have h1:j=e.1:=by simpa using hj
      have h2:j=k:=by simpa using hk
      simp[<-h1,<-h2])
    simp[this]
abbrev Kt(m:List (ag×Bool))(k:ag):Bool:=(y6 m k).getD false
theorem Wf(m:List (ag×Bool))(k j:ag):Kt (EM m k true) j=(j==k||Kt m j):=by
 unfold Kt
 rw[MR]
 cases(j==k)<;>rfl
def Rx(l:ag):Nat:=l.foldl (fun a c=>10 * a+(c.toNat - 48)) 0
theorem JS(u:Nat):Rx (Lib.decDigits u)=u:=by
 induction u using Nat.strongRecOn with
 | _ u ih =>
  rw[Lib.decDigits]
  by_cases h:u<10
  ·rw[dif_pos h]
   unfold Rx
   simp
   omega
  ·rw[dif_neg h]
   have:=ih (u / 10) (by omega)
   unfold Rx at this ⊢
   rw[vch,this]
   simp
   omega
theorem XF{u v:Nat}(h:Lib.decDigits u=Lib.decDigits v):u=v:=by rw[<-JS u,<-JS v,h]
theorem N8(u:Nat):(Lib.decDigits u).length<=u+1:=by
 induction u using Nat.strongRecOn with
 | _ u ih =>
  rw[Lib.decDigits]
  by_cases h:u<10
  ·rw[dif_pos h];simp
  ·rw[dif_neg h]
   have:=ih (u / 10) (by omega)
   simp
   omega
theorem Ng:∀(k n:Nat) (acc:ag),n<=k->n<=1000000000->acc.length<=1000000000 - n->qG acc n=some (if n=0 then acc else Lib.decDigits n++acc)
 |k,0,acc,_,_,_=>by
  unfold qG
  exact j5 rfl
 |0,n+1,_,h,_,_=>absurd h (by omega)
 | k + 1,n + 1,acc,hk,hn,ha => by
  have hb:qi acc ((n+1:Nat):Int)=some (.inl (UInt8.ofNat (48+(n+1) % 10)::acc,(((n+1) / 10:Nat):Int))):=by
   simp only[qi]
   have h1:(((n+1:Nat):Int)!=0)=true:=by simp;omega
   have h2:re ((n+1:Nat):Int) 10=some (((n+1) % 10:Nat):Int):=by
    simp only[re]
    have e:((n+1:Nat):Int) % 10=(((n+1) % 10:Nat):Int):=by omega
    rw[van (by omega),Int.tmod_eq_emod_of_nonneg (by omega),e]
   have h3:zm (((n+1) % 10:Nat):Int)=some (((n+1) % 10:Nat):Int):=by
    simp only[zm]
    rw[van (by simp;omega)]
   have h4:IntKind.u8.wrap (aO (48+(((n+1) % 10:Nat):Int)))=((48+(n+1) % 10:Nat):Int):=by
    rw[dA (by omega) (by omega)]
    have h5:(48:Int)+(((n+1) % 10:Nat):Int)=((48+(n+1) % 10:Nat):Int):=by omega
    rw[h5]
    generalize hq:48+(n+1) % 10=q
    have:q<58:=by omega
    show((q:Int) % 256)=q
    omega
   have h6:Ep [((48+(n+1) % 10:Nat):Int)]=some [UInt8.ofNat (48+(n+1) % 10)]:=by
    simp only[Ep]
    rw[vaj (by omega)]
    rfl
   have h7:qu .i64 ((n+1:Nat):Int) 10=some (((n+1) / 10:Nat):Int):=by
    simp only[qu]
    rw[van (by omega),vb5 (by omega)]
    have e:((n+1:Nat):Int) / 10=(((n+1) / 10:Nat):Int):=by omega
    rw[e]
    exact vbp some (dA (by omega) (by omega))
   rw[h1]
   simp only[if_true,h2,vaa,h3,h4,h6]
   rw[JJ (by simp;omega),h7]
   rfl
  unfold qG
  refine(pO (body:=fun zz:ag×Int=>qi zz.1 zz.2) (s:=(acc,((n+1:Nat):Int))) (s':=(UInt8.ofNat (48+(n+1) % 10)::acc,(((n+1) / 10:Nat):Int))) hb).trans ?_
  have ih:=Ng k ((n+1) / 10) (UInt8.ofNat (48+(n+1) % 10)::acc) (by omega) (by omega) (by simp;omega)
  unfold qG at ih
  rw[ih,van (by omega:¬n+1=0)]
  conv=>rhs;rw[Lib.decDigits]
  by_cases h:n+1<10
  ·rw[dif_pos h,vaj (by omega),vbW h]
   rfl
  ·rw[dif_neg h,van (by omega)]
   simp
theorem GS(n:Nat)(h0:1<=n)(h:n<=1000000000):IQ n=some (Lib.decDigits n):=by
 unfold IQ
 have h1:((n:Int)==0)=false:=by simp;omega
 rw[h1,Ng n n [] (vah _) h (by simp)]
 have h2:decide ((n:Int)<0)=false:=by simp
 simp only[va3,if_false,vaa,h2]
 rw[van (by omega)]
 simp
theorem PX(n:Nat)(h:n<=1000000000):SU n=some (Lib.decDigits n):=by
 unfold SU Lib.itoa
 rw[vaj (by simp;omega),van (by omega)]
 rfl
theorem WF:∀(used L:List ag),L.Nodup->used.length<L.length->∃x∈L,x∉used
 |[],L,_,h=>by
  cases L with
  |nil=>simp at h
  |cons x L=>exact⟨x,by simp,by simp⟩
 | u :: us,L,hn,h => by
  obtain⟨x,hx,hu⟩:=WF us (L.erase u) (hn.erase u) (by
   have:=List.length_erase (a:=u) (l:=L)
   rw[this]
   simp at h
   split<;>omega)
  rw[hn.mem_erase_iff]at hx
  exact⟨x,hx.2,by simp[hx.1,hu]⟩
theorem PO(used:List ag)(base:ag):∃n,1<=n/\n<=used.length+1/\base++Lib.decDigits n∉used:=by
 obtain⟨x,hx,hu⟩:=WF used ((List.range (used.length+1)).map fun i=>base++Lib.decDigits (i+1)) (by
  unfold List.Nodup
  rw[List.pairwise_map]
  refine vcO ?_ (List.nodup_range (n:=used.length+1))
  intro a b hab e
  have:=XF (List.append_cancel_left e)
  omega) (by simp)
 simp only[vap,vbq]at hx
 obtain⟨i,hi,rfl⟩:=hx
 exact⟨i+1,by omega,by omega,hu⟩
def kT(used:List ag)(base:ag):Nat->Nat->ag
 |0,_=>[]
 |k+1,n=>if used.contains (base++Lib.decDigits n)=true then kT used base k (n+1)else base++Lib.decDigits n
def fp(used:List ag)(base:ag):ag:=if used.contains base=true then kT used base 100000001 1 else base
theorem EP(used:List ag)(hl:qcj used):∃m,oU used used.length 0 []=some m/\∀k,Kt m k=used.contains k:=by
 unfold oU
 have:=oT used hl (fun i (m:List (ag×Bool))=>(i,m)) (fun zz=>iU used used.length zz.1 zz.2) (fun _ _=>True) (fun _ x m=>.inl (EM m x true)) (fun m=>m) (fun i hi t _=>⟨by
   simp only[iU]
   rw[vaj (by simp;omega),bj _ i hi]
   rfl,fun _ _=>trivial⟩) (fun _ _=>by simp only[iU];rw[van (by simp)]) 0 [] (vaP _) trivial
 simp only[Int.ofNat_zero,va6]at this
 rw[this]
 refine⟨_,rfl,?_⟩
 have key:∀(l:List ag) (i:Nat) (m:List (ag×Bool)) k,Kt (pr (fun _ x (m:List (ag×Bool))=>(Sum.inl (EM m x true):List (ag×Bool)⊕List (ag×Bool))) (fun m=>m) l i m) k=(l.contains k||Kt m k):=by
  intro l
  induction l with
  |nil=>intro i m k;simp[pr]
  |cons x l ih=>
   intro i m k
   unfold pr
   simp only[ih,Wf,List.contains_cons]
   cases(k==x)<;>cases l.contains k<;>simp
 intro k
 rw[key]
 simp[Kt,y6]
theorem G8(used:List ag)(base:ag)(m:List (ag×Bool))(hm:∀k,Kt m k=used.contains k)(hl:used.length<=100000000)(hb:base.length<=4000000000000000000)(N:Nat)(hN:base++Lib.decDigits N∉used)(hN2:N<=100000001):∀(k n:Nat),1<=n->n<=N->N<n+k->kZ base m n=some (kT used base k n)/\lr used base (base++Lib.decDigits n) ((n+1:Nat):Int)=some (kT used base k n)/\kT used base k n∉used
 |0,n,_,h1,h2=>absurd h2 (by omega)
 | k + 1,n,h0,h1,h2 => by
  have hd:=N8 n
  have hd2:=N8 (n+1)
  have e1:aO ((n:Int)+1)=((n+1:Nat):Int):=by rw[dA (by omega) (by omega)];omega
  have e2:aO (((n+1:Nat):Int)+1)=((n+2:Nat):Int):=by rw[dA (by omega) (by omega)];omega
  unfold kT
  by_cases hc:used.contains (base++Lib.decDigits n)=true
  ·rw[vaj hc]
   have hne:n≠N:=by
    rintro rfl
    exact hN (by simpa using hc)
   obtain⟨i1,i2,i3⟩:=G8 used base m hm hl hb N hN hN2 k (n+1) (by omega) (by omega) (by omega)
   have hm':=hm (base++Lib.decDigits n)
   unfold Kt at hm'
   have b1:gh base m (n:Int)=some (.inl (((n+1:Nat):Int))):=by
    simp only[gh]
    rw[PX n (by omega)]
    simp only[vaa]
    rw[JJ (by omega)]
    simp only[vaa,hm',hc,e1]
    rfl
   have b2:cK used base (base++Lib.decDigits n) ((n+1:Nat):Int)=some (.inl (base++Lib.decDigits (n+1),((n+2:Nat):Int))):=by
    simp only[cK]
    rw[nM _ _ (by omega)]
    simp only[vaa,sJ]
    have:(used.any fun k=>k==base++Lib.decDigits n)=true:=by simpa[vbx]using hc
    rw[this,vaj rfl,GS (n+1) (by omega) (by omega)]
    simp only[vaa]
    rw[JJ (by omega)]
    simp only[vaa,e2]
   refine⟨?_,?_,i3⟩
   ·unfold kZ at i1 ⊢
    exact(pO b1).trans i1
   ·unfold lr at i2 ⊢
    exact(pO (body:=fun zz:ag×Int=>cK used base zz.1 zz.2) (s:=(base++Lib.decDigits n,((n+1:Nat):Int))) (s':=(base++Lib.decDigits (n+1),((n+2:Nat):Int))) b2).trans i2
  ·rw[van hc]
   have hc':used.contains (base++Lib.decDigits n)=false:=by simpa using hc
   have hm':=hm (base++Lib.decDigits n)
   unfold Kt at hm'
   have b1:gh base m (n:Int)=some (.inr (base++Lib.decDigits n)):=by
    simp only[gh]
    rw[PX n (by omega)]
    simp only[vaa]
    rw[JJ (by omega)]
    simp only[vaa,hm',hc']
    rfl
   have b2:cK used base (base++Lib.decDigits n) ((n+1:Nat):Int)=some (.inr (base++Lib.decDigits n)):=by
    simp only[cK]
    rw[nM _ _ (by omega)]
    simp only[vaa,sJ]
    have:(used.any fun k=>k==base++Lib.decDigits n)=false:=by
     rw[vcj]
     intro h
     apply hc
     simpa[vbx]using h
    rw[this]
    rfl
   refine⟨?_,?_,by simpa using hc⟩
   ·unfold kZ
    exact j5 b1
   ·unfold lr
    exact j5 (body:=fun zz:ag×Int=>cK used base zz.1 zz.2) (s:=(base++Lib.decDigits n,((n+1:Nat):Int))) b2
theorem DX(used:List ag)(base:ag)(hl:used.length<=100000000)(hb:base.length<=4000000000000000000):kY used base=some (fp used base)/\Fu used base=some (fp used base)/\fp used base∉used:=by
 obtain⟨m,hm1,hm⟩:=EP used (show _<_ by omega)
 have hm':=hm base
 unfold Kt at hm'
 obtain⟨N,h1,h2,h3⟩:=PO used base
 obtain⟨i1,i2,i3⟩:=G8 used base m hm hl hb N h3 (by omega) 100000001 1 (vah _) h1 (by omega)
 unfold kY Fu fp
 rw[hm1]
 simp only[vaa,hm']
 have hd:=N8 1
 by_cases hc:used.contains base=true
 ·simp only[hc,vcM,va3,if_false,if_true]
  simp only[Int.ofNat_one]at i1
  rw[i1]
  have b2:cK used base base 1=some (.inl (base++Lib.decDigits 1,((2:Nat):Int))):=by
   simp only[cK]
   rw[nM _ _ (by omega)]
   simp only[vaa,sJ]
   have:(used.any fun k=>k==base)=true:=by simpa[vbx]using hc
   have ht:=GS 1 (by omega) (by omega)
   simp only[Int.ofNat_one]at ht
   rw[this,vaj rfl,ht]
   simp only[vaa]
   rw[JJ (by omega)]
   rfl
  unfold lr at i2 ⊢
  have:=(pO (body:=fun zz:ag×Int=>cK used base zz.1 zz.2) (s:=(base,1)) (s':=(base++Lib.decDigits 1,((2:Nat):Int))) b2).trans i2
  rw[this]
  exact⟨rfl,rfl,i3⟩
 ·have hc':used.contains base=false:=by simpa using hc
  simp only[hc',vcA,if_true,va3,if_false]
  have b2:cK used base base 1=some (.inr base):=by
   simp only[cK]
   rw[nM _ _ (by omega)]
   simp only[vaa,sJ]
   have:(used.any fun k=>k==base)=false:=by
    rw[vcj]
    intro h
    apply hc
    simpa[vbx]using h
   rw[this]
   rfl
  unfold lr
  have:=j5 (body:=fun zz:ag×Int=>cK used base zz.1 zz.2) (s:=(base,1)) b2
  rw[this]
  exact⟨trivial,rfl,by simpa using hc⟩
theorem EA{u v:List ag}(h:∀x,x∈u↔x∈v)(base:ag):∀(k n:Nat),kT u base k n=kT v base k n
 |0,n=>by rw[kT,kT]
 | k + 1,n => by
  have e:u.contains (base++Lib.decDigits n)=v.contains (base++Lib.decDigits n):=by
   rw[vb2,vby,vby]
   exact h _
  rw[kT,kT,e,EA h base k (n+1)]
theorem Ok{u v:List ag}(h:∀x,x∈u↔x∈v)(base:ag):fp u base=fp v base:=by
 have e:u.contains base=v.contains base:=by
  rw[vb2,vby,vby]
  exact h _
 unfold fp
 rw[e,EA h]
abbrev UZ(x y:ag):Prop:=Op.bytesLess x y=true
theorem wB:∀(x:ag),Op.bytesLess x x=false
 |[]=>rfl
 |a::x=>by
  unfold Op.bytesLess
  rw[wB x]
  simp[UInt8.lt_irrefl]
theorem Aq:∀{x y z:ag},UZ x y->UZ y z->UZ x z
 |_,_,[],h1,h2=>by simp[UZ,Op.bytesLess]at h2
 |_,[],_::_,h1,h2=>by simp[UZ,Op.bytesLess]at h1
 |[],_::_,_::_,_,_=>rfl
 | a :: x,b :: y,c :: z,h1,h2 => by
  unfold UZ Op.bytesLess at h1 h2 ⊢
  simp only[vbc,vam,vag,va0]at h1 h2 ⊢
  rcases h1 with h1|⟨rfl,h1⟩
  ·rcases h2 with h2|⟨rfl,h2⟩
   ·exact .inl (UInt8.lt_trans h1 h2)
   ·exact .inl h1
  ·rcases h2 with h2|⟨rfl,h2⟩
   ·exact .inl h2
   ·exact .inr ⟨rfl,Aq h1 h2⟩
theorem El:∀{x y:ag},Op.bytesLess x y=false->Op.bytesLess y x=false->x=y
 |[],[],_,_=>rfl
 |[],_::_,h,_=>by simp[Op.bytesLess]at h
 |_::_,[],_,h=>by simp[Op.bytesLess]at h
 | a :: x,b :: y,h1,h2 => by
  unfold Op.bytesLess at h1 h2
  simp only[Bool.or_eq_false_iff,vbm,Bool.and_eq_false_imp,va0]at h1 h2
  have hab:a=b:=by
   have k1:=UInt8.not_lt.1 h1.1
   have k2:=UInt8.not_lt.1 h2.1
   exact UInt8.le_antisymm k2 k1
  subst hab
  rw[El (h1.2 rfl) (h2.2 rfl)]
theorem YB:∀(x y:ag),Op.bytesLess x y=decide (x<y)
 |[],[]=>by simp[Op.bytesLess]
 |_::_,[]=>by simp[Op.bytesLess]
 |[],_::_=>by simp[Op.bytesLess]
 |a::x,b::y=>by
  unfold Op.bytesLess
  rw[YB x y,vb2]
  simp[List.cons_lt_cons_iff]
theorem SV(x y:ag):decide (x<=y)= !Op.bytesLess y x:=by
 rw[YB]
 rw[<-decide_not]
 rfl
abbrev Yx(l:List ag):Prop:=l.Pairwise UZ
theorem Kd:∀{a b:List ag},Yx a->Yx b->(∀x,x∈a↔x∈b)->a=b
 |[],[],_,_,_=>rfl
 |[],y::b,_,_,h=>by have:=(h y).2 (by simp);simp at this
 |x::a,[],_,_,h=>by have:=(h x).1 (by simp);simp at this
 | x :: a,y :: b,ha,hb,h => by
  unfold Yx at ha hb
  rw[List.pairwise_cons]at ha hb
  have hxy:x=y:=by
   have h1:=(h x).1 (by simp)
   have h2:=(h y).2 (by simp)
   rw[vaA]at h1 h2
   rcases h1 with h1|h1
   ·exact h1
   ·rcases h2 with h2|h2
    ·exact h2.symm
    ·have:=Aq (hb.1 x h1) (ha.1 y h2)
     unfold UZ at this
     rw[wB]at this
     cases this
  subst hxy
  congr 1
  refine Kd ha.2 hb.2 fun z=>?_
  constructor
  ·intro hz
   have:=(h z).1 (by simp[hz])
   rw[vaA]at this
   rcases this with rfl|this
   ·have:=ha.1 _ hz;unfold UZ at this;rw[wB]at this;cases this
   ·exact this
  ·intro hz
   have:=(h z).2 (by simp[hz])
   rw[vaA]at this
   rcases this with rfl|this
   ·have:=hb.1 _ hz;unfold UZ at this;rw[wB]at this;cases this
   ·exact this
theorem O1(l:List ag):(lk l).Pairwise fun x y=>Op.bytesLess y x=false:=by
 have:=List.pairwise_mergeSort (le:=fun x y:ag=>decide (x<=y)) (fun a b c h1 h2=>by
  rw[SV]at h1 h2 ⊢
  simp only[va1]at h1 h2 ⊢
  cases h:Op.bytesLess c a with
  |false=>rfl
  | true =>
   exfalso
   by_cases hb:Op.bytesLess a b=true
   ·have:=Aq h hb
    unfold UZ at this
    rw[h2]at this
    cases this
   ·have:a=b:=El (by simpa using hb) h1
    subst this
    rw[h2]at h
    cases h) (fun a b=>by
  rw[SV,SV]
  cases h:Op.bytesLess b a with
  |false=>rfl
  | true =>
   cases h':Op.bytesLess a b with
   |false=>rfl
   |true=>
    have:=Aq h h'
    unfold UZ at this
    rw[wB]at this
    cases this) l
 refine vcO ?_ this
 intro a b h
 rw[SV]at h
 simpa using h
theorem UP(l:List ag)(x:ag):x∈lk l↔x∈l:=List.mem_mergeSort
theorem Cx(d:List ag)(hs:d.Pairwise fun x y=>Op.bytesLess y x=false):∀m,m<=d.length->Yx (Lib.compactUpTo d.toArray m)/\∀x,x∈Lib.compactUpTo d.toArray m↔∃(j:Nat) (h:j<d.length),j<m/\d[j]=x
 |0,_=>by
  refine⟨by simp[Lib.compactUpTo,Yx],fun x=>?_⟩
  simp[Lib.compactUpTo]
 | m + 1,hm => by
  obtain⟨h1,h2⟩:=Cx d hs m (by omega)
  have hg:∀j (h:j<d.length),d.toArray[j]! =d[j]:=fun j h=>by simp[h]
  rw[Lib.compactUpTo_succ]
  by_cases hk:Lib.keeps d.toArray m=true
  ·rw [vaj hk,hg m (by omega)]
   refine⟨?_,fun x=>?_⟩
   ·unfold Yx
    rw[List.pairwise_append]
    refine⟨h1,by simp,fun x hx y hy=>?_⟩
    simp at hy
    subst hy
    obtain⟨j,hj,hjm,rfl⟩:=(h2 x).1 hx
    have hne:d[m - 1]≠d[m]:=by
     unfold Lib.keeps at hk
     simp only[vam]at hk
     rcases hk with hk|hk
     ·omega
     ·rw[hg m (by omega),hg (m - 1) (by omega)]at hk
      exact fun e=>hk e.symm
    have hlt:Op.bytesLess d[m - 1] d[m]=true:=by
     have k1:=(vcd.1 hs) (m - 1) m (by omega) (by omega) (by omega)
     cases h:Op.bytesLess d[m - 1] d[m]with
     |true=>rfl
     |false=>exact absurd (El h k1) hne
    by_cases hj2:j=m - 1
    ·subst hj2;exact hlt
    ·have k2:=(vcd.1 hs) j (m - 1) (by omega) (by omega) (by omega)
     cases h:Op.bytesLess d[j] d[m - 1]with
     |true=>exact Aq h hlt
     |false=>
      have:=El h k2
      rw[this];exact hlt
   ·rw[vaD,h2]
    constructor
    ·rintro(⟨j,hj,hjm,rfl⟩|hx)
     ·exact⟨j,hj,by omega,rfl⟩
     ·simp at hx;exact⟨m,by omega,by omega,hx.symm⟩
    ·rintro⟨j,hj,hjm,rfl⟩
     by_cases e:j=m
     ·subst e;exact .inr (by simp)
     ·exact .inl ⟨j,hj,by omega,rfl⟩
  ·rw [van hk,va4]
   refine⟨h1,fun x=>?_⟩
   rw[h2]
   constructor
   ·rintro⟨j,hj,hjm,rfl⟩;exact⟨j,hj,by omega,rfl⟩
   ·rintro⟨j,hj,hjm,rfl⟩
    by_cases e:j=m
    ·subst e
     have:j≠0/\d.toArray[j]! =d.toArray[j - 1]! :=by
      unfold Lib.keeps at hk
      simp only[vam,not_or,ne_eq,Decidable.not_not]at hk
      exact hk
     rw[hg j hj,hg (j - 1) (by omega)]at this
     exact⟨j - 1,by omega,by omega,this.2.symm⟩
    ·exact⟨j,hj,by omega,rfl⟩
def Iv(a b:List ag):List ag:=Lib.compact (lk (a++b))
theorem KX(a b:List ag):Yx (Iv a b)/\∀x,x∈Iv a b↔x∈a\/x∈b:=by
 obtain⟨h1,h2⟩:=Cx (lk (a++b)) (O1 _) _ (vah _)
 refine⟨h1,fun x=>?_⟩
 rw[show Iv a b=Lib.compactUpTo (lk (a++b)).toArray (lk (a++b)).length from rfl,h2,<-vaD,<-UP,List.mem_iff_getElem]
 constructor
 ·rintro⟨j,h,_,e⟩;exact⟨j,h,e⟩
 ·rintro⟨j,h,e⟩;exact⟨j,h,h,e⟩
theorem AN(a b:List ag)(h:a.length+b.length<=1073741824):nS a b=some (Iv a b):=by
 unfold nS
 rw[dG (by simp;omega)]
 simp only[vaa]
 rw[dG (by simp;omega)]
 rfl
mutual
def nP:aa->Nat
 |⟨_,_,_,ks⟩=>nL ks+1
def nL:List aa->Nat
 |[]=>0
 |p::ps=>nP p+nL ps
end
theorem Ku(p:aa):nP p=nL p.Kids+1:=by obtain⟨o,n,k,ks⟩:=p;rw[nP];rfl
theorem OJ(p:aa):1<=nP p:=by rw[Ku];omega
theorem AL:∀{l:List aa} {x:aa},x∈l->nP x<=nL l
 | y :: l,x,h => by
  rw[nL]
  rcases vaA.1 h with rfl|h
  ·omega
  ·have:=AL h;omega
theorem pQ:∀(l:List aa),l.length<=nL l
 |[]=>by simp[nL]
 |p::l=>by rw[nL];have:=pQ l;have:=OJ p;simp only[vaO];omega
theorem oR{p x:aa}(h:x∈p.Kids):nP x<nP p:=by rw[Ku p];have:=AL h;omega
theorem tT(p:aa):p.Kids.length<nP p:=by rw[Ku];have:=pQ p.Kids;omega
theorem pP:∀(a b:List aa),nL (a++b)=nL a+nL b
 |[],b=>by simp[nL]
 |p::a,b=>by rw[vaG,nL,pP a b,nL];omega
mutual
theorem YU:∀(p:aa),nP p<=fU (ac p)
 |⟨o,n,k,ks⟩=>by
  have:=S1 ks
  rw[nP,aE]
  simp only[fU,pm,sl]
  show nL ks+1<=1+(n.length+1+(1+(bK (ks.map ac)+1+0)))
  omega
theorem S1:∀(l:List aa),nL l<=bK (l.map ac)
 |[]=>by simp[nL]
 |p::l=>by
  have:=YU p
  have:=S1 l
  rw[nL]
  simp only[vax,bK]
  omega
end
mutual
def qcD:aa->aa->Bool
 |⟨o,n,k,ks⟩,⟨o',n',k',ks'⟩=>(o==o')&&((n==n')&&((k==k')&&ZE ks ks'))
def ZE:List aa->List aa->Bool
 |[],[]=>true
 |x::xs,y::ys=>qcD x y&&ZE xs ys
 |_,_=>false
end
mutual
theorem SG:∀(a b:aa),qcD a b=true↔a=b
 |⟨o,n,k,ks⟩,⟨o',n',k',ks'⟩=>by
  rw[qcD]
  have:=SF ks ks'
  simp only[vag,va0,this,aa.mk.injEq]
theorem SF:∀(a b:List aa),ZE a b=true↔a=b
 |[],[]=>by simp[ZE]
 |x::xs,y::ys=>by
  rw[ZE]
  have h1:=SG x y
  have h2:=SF xs ys
  simp only[vag,h1,h2,vbt]
 |[],y::ys=>by simp[ZE]
 |x::xs,[]=>by simp[ZE]
end
instance:DecidableEq aa:=fun a b=>decidable_of_iff _ (SG a b)
theorem wH(p:aa):(⟨p.Op,p.Name,p.N,p.Kids⟩:aa)=p:=by cases p;rfl
theorem w9{a b:aa}:a=b↔a.Op=b.Op/\a.Name=b.Name/\a.N=b.N/\a.Kids=b.Kids:=by
 cases a;cases b
 simp only[aa.mk.injEq]
 rfl
theorem Ts{α:Type}[DecidableEq α]:∀{a b:List α},a.length=b.length->(a.zip b).any (fun x=>decide (x.1≠x.2))= !decide (a=b)
 |[],[],_=>by simp
 |x::a,y::b,h=>by
  have ih:=Ts (a:=a) (b:=b) (by simpa using h)
  rw[List.zip_cons_cons,List.any_cons,ih]
  by_cases h1:x=y<;>by_cases h2:a=b<;>simp[h1,h2]
theorem Qa{α X:Type}[DecidableEq α]{a b:List α}(hl:a.length=b.length)(ha:a.length<9223372036854775808)(body:Int->Option (Int⊕X))(y e:X)
  (hin:∀(i:Nat) (h:i<a.length) (h':i<b.length),body i=some (if decide (a[i]=b[i])=true then .inl (aO ((i:Int)+1))else .inr y)) (hend:body a.length=some (.inr e)):loop body 0=some (if decide (a=b)=true then e else y):=by
 have hz:(a.zip b).length=a.length:=by simp[hl]
 have:=Kr (a.zip b) (by omega) body (fun x=>decide (x.1≠x.2)) y e (fun i h=>?_) (by rw[hz];exact hend) 0 (vaP _)
 ·rw[va6,Ts hl]at this
  rw[show((0:Nat):Int)=0 from rfl]at this
  rw[this]
  by_cases h:a=b<;>simp[h]
 ·have h1:i<a.length:=by omega
  have h2:i<b.length:=by omega
  rw[hin i h1 h2]
  have hzi:(a.zip b)[i]=(a[i],b[i]):=by simp
  rw[hzi]
  by_cases h:a[i]=b[i]<;>simp[h]
abbrev bk:Nat:=1073741824
theorem fq{n:Nat}(h:n<=bk):n<Xx:=by have:=Zw;unfold bk at h;omega
theorem VK{R:aa->aa->Option Bool}{a b:List aa}(ha:a.length<=bk)(h:∀x∈a,∀y∈b,R x y=some (decide (x=y))):ym R a b=some (decide (a=b)):=by
 unfold ym
 by_cases hl:a.length=b.length
 ·rw[van (by simp[hl])]
  unfold wm
  rw[Qa hl (by unfold bk at ha;omega) (fun zz=>jG R a b (a.length:Int) zz) (.inl ()) (.inr ()) (fun i h1 h2=>?_) ?_]
  ·by_cases he:a=b<;>simp[he]
  ·unfold jG
   rw[van (by simp)]
  ·unfold jG
   rw[vaj (by simp;omega),bj a i h1]
   simp only[vaa]
   rw[bj b i h2]
   simp only[vaa]
   rw[h _ (vat h1) _ (vat h2)]
   simp only[vaa]
   by_cases he:a[i]=b[i]<;>simp[he]
 ·rw[vaj (by simp;omega)]
  rw[decide_eq_false (fun he=>hl (by rw[he]))]
theorem Fe(a b:aa)(ha:nP a<=bk):iZ a b=some (decide (a=b)):=by
 refine jl (F:=AZ) (fun x=>nP x.1) (fun x=>nP x.1<=bk) (fun x=>decide (x.1=x.2)) (fun R x hx ih=>?_) (a,b) ha (fq ha)
 obtain⟨u,v⟩:=x
 have hx:nP u<=bk:=hx
 show va (fun a a2=>R (a,a2)) u v=some (decide (u=v))
 unfold va
 have hk:=tT u
 by_cases h1:u.Op=v.Op
 ·by_cases h2:u.Name=v.Name
  ·by_cases h3:u.N=v.N
   ·rw[vaj (by simpa using h1),vaj (by simpa using h2),vaj (by simpa using h3)]
    rw[VK (a:=u.Kids) (b:=v.Kids) (by omega) (fun x hxa y hyb=>ih (x,y) (oR hxa) (vcv (vaF (oR hxa) hx)))]
    simp[w9 (a:=u) (b:=v),h1,h2,h3]
   ·rw[vaj (by simpa using h1),vaj (by simpa using h2),van (by simpa using h3)]
    simp[w9 (a:=u) (b:=v),h3]
  ·rw[vaj (by simpa using h1),van (by simpa using h2)]
   simp[w9 (a:=u) (b:=v),h2]
 ·rw[van (by simpa using h1)]
  simp[w9 (a:=u) (b:=v),h1]
theorem BC(p:aa)(hp:nP p<=bk):nX p=some p:=by
 refine jl (F:=qz) nP (fun x=>nP x<=bk) id (fun R x hx ih=>?_) p hp (fq hp)
 unfold qz wl ud
 have hlen:=tT x
 rw[P8 x.Kids (by unfold bk at hx;omega) (fun i s=>(i,s)) _ id id (fun i hi s hs=>?_) (fun s=>?_)]
 ·simp[wH]
 ·unfold lL
  rw[vaj (by simp;omega),bj x.Kids i hi]
  simp only[vaa]
  have hm:=vat hi
  rw[ih _ (oR hm) (vcv (vaF (oR hm) hx))]
  simp only[vaa]
  rw[dG (by unfold bk at hx;simp;omega)]
  rfl
 ·unfold lL
  rw[van (by simp)]
  rfl
theorem QF(a b:aa)(hb:nP b<=bk):tf a b=some (decide (a=b)):=by
 refine jl (F:=CY) (fun x=>nP x.2) (fun x=>nP x.2<=bk) (fun x=>decide (x.1=x.2)) (fun R x hx ih=>?_) (a,b) hb (fq hb)
 obtain⟨u,v⟩:=x
 have hx:nP v<=bk:=hx
 show xp (fun a a2=>R (a,a2)) u v=some (decide (u=v))
 unfold xp zB
 have hk:=tT v
 by_cases h1:u.Op=v.Op
 ·by_cases h2:u.Name=v.Name
  ·by_cases h3:u.N=v.N
   ·by_cases h4:u.Kids.length=v.Kids.length
    ·rw[van (by simpa using h1),van (by simpa using h2),van (by simpa using h3)]
     simp only[h4,bne_self_eq_false,vaa,if_false,va3]
     unfold zC
     rw[<-h4,Qa h4 (by unfold bk at hx;omega) _ (.inl ()) (.inr ()) (fun i g1 g2=>?_) ?_]
     ·by_cases he:u.Kids=v.Kids<;>simp[he,w9 (a:=u) (b:=v),h1,h2,h3]
     ·unfold qj
      rw[van (by simp)]
     ·unfold qj
      rw[vaj (by simp;omega),bj u.Kids i g1]
      simp only[vaa]
      rw[bj v.Kids i g2]
      simp only[vaa]
      have hm:=vat g2
      rw[ih (u.Kids[i],v.Kids[i]) (oR hm) (vcv (vaF (oR hm) hx))]
      by_cases he:u.Kids[i]=v.Kids[i]<;>simp[he]
    ·have hne:u≠v:=fun e=>h4 (by rw[e])
     rw[van (by simpa using h1),van (by simpa using h2),van (by simpa using h3)]
     have hb:((u.Kids.length:Int)!=(v.Kids.length:Int))=true:=by simp;omega
     simp[hb,hne]
   ·have hne:u≠v:=fun e=>h3 (by rw[e])
    rw[van (by simpa using h1),van (by simpa using h2),vaj (by simpa using h3)]
    simp[hne]
  ·have hne:u≠v:=fun e=>h2 (by rw[e])
   rw[van (by simpa using h1),vaj (by simpa using h2)]
   simp[hne]
 ·have hne:u≠v:=fun e=>h1 (by rw[e])
  rw[vaj (by simpa using h1)]
  simp[hne]
def ic:aa:=⟨0,[],0,[]⟩
def n7:aa:=⟨2,[],1,[]⟩
def AF:aa:=⟨2,[],0,[]⟩
def CS(p:aa):Bool:=decide (p=ic)||decide (p=n7)
theorem O6(p:aa)(hp:nP p<=bk):wU p=some (CS p):=by
 have h1:iZ p (⟨0,([]:ag),0,([]:List aa)⟩:aa)=some (decide (p=ic)):=Fe p ic hp
 have h2:iZ p (⟨2,([]:ag),1,([]:List aa)⟩:aa)=some (decide (p=n7)):=Fe p n7 hp
 unfold wU gg CS
 rw[h1]
 simp only[vaa,if_true,h2]
 cases decide (p=ic)<;>rfl
theorem XQ:nP ic<=bk:=by decide
theorem Nb{α σ X:Type}(g:α->σ->σ)(e:σ->X):∀(l:List α) (i:Nat) (s:σ),pr (fun _ x (s:σ)=>(Sum.inl (g x s):σ⊕X)) e l i s=e (l.foldl (fun s x=>g x s) s)
 |[],i,s=>by simp[pr]
 |x::l,i,s=>by
  unfold pr
  simp only
  rw[Nb g e l (i+1) (g x s)]
  rfl
theorem Ug{α σ τ X:Type}(l:List α)(hl:l.length<9223372036854775808)(mk:Int->σ->τ)(body:τ->Option (τ⊕X))(I:Nat->σ->Prop)(g:α->σ->σ)(e:σ->X)(s0:σ)(h0:I 0 s0)
  (hin:∀(i:Nat) (h:i<l.length) s,I i s->body (mk i s)=some (.inl (mk (aO ((i:Int)+1)) (g l[i] s)))/\I (i+1) (g l[i] s)) (hend:∀s,I l.length s->body (mk l.length s)=some (.inr (e s))):
  loop body (mk 0 s0)=some (e (l.foldl (fun s x=>g x s) s0)):=by
 have:=oT l hl mk body I (fun _ x s=>.inl (g x s)) e (fun i h s hs=>⟨(hin i h s hs).1,fun s' hs'=>by cases hs';exact(hin i h s hs).2⟩) (fun s hs=>hend s hs) 0 s0 (vaP _) h0
 rw[Nb]at this
 exact this
theorem EO(l:List aa)(i:Nat)(h:i<l.length):nL (l.take (i+1))=nL (l.take i)+nP l[i]:=by
 rw[vaM h,pP]
 simp[nL]
theorem yh(l:List aa)(i:Nat):nL (l.take i)<=nL l:=by
 have:=pP (l.take i) (l.drop i)
 rw[vcs]at this
 omega
theorem SQ:∀(l:List aa) (a:Int),l.foldl (fun s x=>s+(nP x:Int)) a=a+(nL l:Int)
 |[],a=>by simp[nL]
 |x::l,a=>by rw[List.foldl_cons,SQ l,nL];omega
theorem Wj(p:aa)(hp:nP p<=bk):FA p=some (nP p:Int):=by
 refine jl (F:=zA) nP (fun x=>nP x<=bk) (fun x=>(nP x:Int)) (fun R x hx ih=>?_) p hp (fq hp)
 show uE (fun p=>R p) x=_
 unfold uE xo
 have hlen:=tT x
 have hn:=Ku x
 rw[Ug x.Kids (by unfold bk at hx;omega) (fun i s=>(s,i)) _ (fun i s=>s=1+(nL (x.Kids.take i):Int)) (fun x s=>s+(nP x:Int)) id 1 (by simp[nL]) (fun i hi s hs=>?_) (fun s _=>?_)]
 ·rw[SQ]
  simp only[id,vaa]
  rw[hn];congr 1;omega
 ·have hm:=vat hi
  have hk:=oR hm
  refine⟨?_,by rw[EO _ _ hi,hs];omega⟩
  unfold oq
  rw[vaj (by simp;omega),bj x.Kids i hi]
  simp only[vaa]
  rw[ih _ hk (by omega)]
  simp only[vaa]
  have h1:=yh x.Kids i
  have h2:=yh x.Kids (i+1)
  have h3:=EO x.Kids i hi
  unfold bk at hx
  rw[dA (n:=s+_) (by omega) (by omega)]
 ·unfold oq
  rw[van (by simp)]
  rfl
mutual
def pk:aa->List aa
 |⟨o,n,k,ks⟩=>if o=15/\ks.length=2 then DO ks else if CS ⟨o,n,k,ks⟩=true then[]else[⟨o,n,k,ks⟩]
def DO:List aa->List aa
 |[]=>[]
 |p::ps=>pk p++DO ps
end
theorem UQ(p:aa):pk p=if p.Op=15/\p.Kids.length=2 then DO p.Kids else if CS p=true then[]else[p]:=by
 obtain⟨o,n,k,ks⟩:=p
 rw[pk];rfl
mutual
theorem wX:∀(p:aa),nL (pk p)<=nP p
 | ⟨o,n,k,ks⟩ => by
  have:=QQ ks
  rw[pk,nP]
  split
  ·omega
  ·split
   ·simp[nL]
   ·simp only[nL,nP];omega
theorem QQ:∀(l:List aa),nL (DO l)<=nL l
 |[]=>by simp[DO]
 |p::l=>by
  have:=wX p
  have:=QQ l
  rw[DO,pP,nL]
  omega
end
theorem QR(p:aa)(hp:nP p<=bk):yk p=some (pk p):=by
 refine jl (F:=yl) nP (fun x=>nP x<=bk) pk (fun R x hx ih=>?_) p hp (fq hp)
 show sO (fun p=>R p) x=_
 unfold sO wk
 rw[UQ]
 have two:x.Op=15->x.Kids.length=2->∃a b,x.Kids=[a,b]:=fun _ h=>by
  match x.Kids,h with
  |[a,b],_=>exact⟨a,b,rfl⟩
 by_cases h1:x.Op=15
 ·rw[vaj (by simpa using h1)]
  by_cases h2:x.Kids.length=2
  ·obtain⟨a,b,hk⟩:=two h1 h2
   have ha:a∈x.Kids:=by rw[hk];simp
   have hb:b∈x.Kids:=by rw[hk];simp
   have ka:=oR ha
   have kb:=oR hb
   rw[vaj ⟨h1,h2⟩]
   simp only[h2,vaa]
   rw[vaj (by simp),hk]
   rw[show cH [a,b] 0=some a from rfl,show cH [a,b] 1=some b from rfl]
   simp only[vaa]
   rw[ih a ka (by omega),ih b kb (by omega)]
   simp only[vaa]
   have l1:=pQ (pk a)
   have l2:=pQ (pk b)
   have l3:=wX a
   have l4:=wX b
   have hs:nP a+nP b<nP x:=by rw[Ku x,hk];simp only[nL];omega
   rw[dG (by unfold bk at hx;omega)]
   simp[DO]
  ·simp only[vaa]
   rw[van (by simp;omega),van (fun h=>h2 h.2),O6 x hx]
   simp only[vaa,BC x hx]
   by_cases hv:CS x=true<;>simp[hv]
 ·rw[van (by simpa using h1)]
  simp only[vaa,va3,if_false]
  rw[van (fun h=>h1 h.1),O6 x hx]
  simp only[vaa,BC x hx]
  by_cases hv:CS x=true<;>simp[hv]
end Go.Proofs.YtbaamopmfmpfaaaGreatDoor
