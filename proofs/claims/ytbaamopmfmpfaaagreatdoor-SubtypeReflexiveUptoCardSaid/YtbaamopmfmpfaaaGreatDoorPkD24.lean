/- PROVED: parts of the proof (G10 G11 G14 PlB). Conditions: none. -/
import Derived.Test.YtbaamopmfmpfaaaGreatDoorPkD23
import Derived.Test.YtbaamopmfmpfaaaGreatDoorPkD13
noncomputable section
namespace Go.Proofs.YtbaamopmfmpfaaaGreatDoor
open Go
set_option linter.unusedVariables false
set_option maxRecDepth 100000
def Xb:Code:=Tryz.f41.body.getD .skip
def Tx:List Nat:=[41,48,53,87,90]
section
variable(v:waE)(c:ak)(t20:waA)(t21:Int)(t22:Int)(t34:waA)(t35:Int)(m:waF)(m2:Int)(m3:ag)(m4:Int)(m5:waA)(m6:Int)(m7:Int)(m8:ag)(m9:Int)(m10:waA)(m11:waF)(m13:Int)(t36:Int)(m12:waA)
def fk:az:=aW 91 [(2,sl aD v),(3,.eptr (ax c)),(4,.bptr 1 0),(9,.bptr 3 0),(20,sl ac t20),(21,.int .i64 t21),(22,.int .i64 t22),(34,sl ac t34),(35,.int .i64 t35),(36,.int .i64 t36)] [.dead,.cells [sl bA m,sl ac t34,.int .i64 m2,.str m3,.int .i64 m4,sl ac m5,.int .i64 m6] [],.cells [.int .i64 m7,.str m8,.int .i64 m9,sl ac m10] [],.cells [sl bA m11,sl ac m12,.int .i64 m7,.str m8,.int .i64 m9,sl ac m10,.int .i64 m13] [(1,36)]] [((20,0),36),((2,0),62)]
def kQ(o:waA):az:=aW 91 [(2,sl aD v),(3,.eptr (ax c)),(4,.bptr 1 0),(9,.bptr 3 0),(20,sl ac t20),(21,.int .i64 t21),(22,.int .i64 t22)] [.dead,.cells [sl bA m,sl ac t34,.int .i64 m2,.str m3,.int .i64 m4,sl ac m5,.int .i64 m6] [],.cells [.int .i64 m7,.str m8,.int .i64 m9,sl ac m10] [],.cells [sl bA m11,sl ac o,.int .i64 m7,.str m8,.int .i64 m9,sl ac m10,.int .i64 m13] [(1,36)]] [((20,0),36),((2,0),62)]
def qO:Option ((Int×waA)⊕(waA)):=
 if(decide (t36<t35))=true then
  (cH t34 t36).bind fun x8=>
  (io x8 ([]:List ag) ([]:List aa)).bind fun r9=>
  (app m12 ([r9]:List aa)).bind fun l10=>
  some (.inl (aO (t36+1),l10))
 else
  some (.inr m12)
def gq:Option waA:=loop (fun(zz:Int×waA)=>qO t34 t35 zz.1 zz.2) (t36,m12)
theorem xX{y:(Int×waA)⊕(waA)}(h:qO t34 t35 t36 m12=some y):
  aQ Pg GE 1000 (cA Xb 1810295) (LQ (fun(zz:Int×waA)=>fk v c t20 t21 t22 t34 t35 m m2 m3 m4 m5 m6 m7 m8 m9 m10 m11 m13 zz.1 zz.2) (fun _=>.exit 3) (kQ v c t20 t21 t22 t34 m m2 m3 m4 m5 m6 m7 m8 m9 m10 m11 m13) y) (fk v c t20 t21 t22 t34 t35 m m2 m3 m4 m5 m6 m7 m8 m9 m10 m11 m13 t36 m12):=by
 rcases aX h with⟨c7,h⟩|⟨c7,h⟩
 ·obtain⟨x8,bx8,h⟩:=aA h
  obtain⟨r9,br9,h⟩:=aA h
  obtain⟨l10,bl10,h⟩:=aA h
  obtain rfl:=lf h
  have z:=sg 0 c7<|sv (cd.ia (k:=.i64) bx8)<|sv (aY x8)<|sx lM<|sx (dn x8)<|ra [0,1,0,4,12,31,63,127]<|sv (ch x8 [])<|bP (lK br9)<|sv (cd.mk' (v:=ff) dl ([r9]:List aa) 1 (by kernel_rfl))<|sv (cd.ap bl10)<|WY (rfl:bQ (sl ac l10)=some [sl ac l10])<|y4 1000 .normal (fk v c t20 t21 t22 t34 t35 m m2 m3 m4 m5 m6 m7 m8 m9 m10 m11 m13 (aO (t36+1)) l10) rfl (eh (aI (up (aq eY v)) (aI (oI (bJ c)) (aI (d7 rfl) (aI (d7 rfl) (aI (up (aq ah t20)) (aI trivial (aI trivial (aI (up (aq ah t34)) (aI trivial (aI trivial trivial))))))))))) (aI trivial (aI (aI (up (aq lG m)) (aI (up (aq ah t34)) (aI trivial (aI trivial (aI trivial (aI (up (aq ah m5)) (aI trivial trivial))))))) (aI (aI trivial (aI trivial (aI trivial (aI (up (aq ah m10)) trivial)))) (aI (aI (up (aq lG m11)) (aI (up (aq ah l10)) (aI trivial (aI trivial (aI trivial (aI (up (aq ah m10)) (aI trivial trivial))))))) trivial))))
  exact dV (A:=Tx) mixed z (by kernel_rfl)
 ·obtain rfl:=lf h
  have z:=sg 0 c7<|eF (.exit 3) (kQ v c t20 t21 t22 t34 m m2 m3 m4 m5 m6 m7 m8 m9 m10 m11 m13 m12)
  exact iW Tx (by intro hx;cases hx) z (by kernel_rfl)
theorem y2{x:waA}(h:gq t34 t35 t36 m12=some x):
  aQ Pg GE 1000 (.loop (cA Xb 1810295)) (EX (.exit 3) (kQ v c t20 t21 t22 t34 m m2 m3 m4 m5 m6 m7 m8 m9 m10 m11 m13 x)) (fk v c t20 t21 t22 t34 t35 m m2 m3 m4 m5 m6 m7 m8 m9 m10 m11 m13 t36 m12):=
 aQ.loop (S:=fun(zz:Int×waA)=>fk v c t20 t21 t22 t34 t35 m m2 m3 m4 m5 m6 m7 m8 m9 m10 m11 m13 zz.1 zz.2) (ex:=(fun _=>.exit 3)) (s:=(t36,m12)) h fun zz y hy=>xX v c t20 t21 t22 t34 t35 m m2 m3 m4 m5 m6 m7 m8 m9 m10 m11 m13 zz.1 zz.2 hy
end
section
variable(c:ak)(t20:waA)(t21:Int)(m:waF)(m2:waA)(m3:Int)(m4:ag)(m5:Int)(m6:waA)(m7:Int)(v:waE)(t22:Int)
def fj:az:=aW 91 [(2,sl aD v),(3,.eptr (ax c)),(4,.bptr 1 0),(20,sl ac t20),(21,.int .i64 t21),(22,.int .i64 t22)] [.dead,.cells [sl bA m,sl ac m2,.int .i64 m3,.str m4,.int .i64 m5,sl ac m6,.int .i64 m7] []] [((20,0),36),((2,0),62)]
def kP(o:waE):az:=aW 91 [(2,sl aD o)] [.dead,.cells [sl bA m,sl ac m2,.int .i64 m3,.str m4,.int .i64 m5,sl ac m6,.int .i64 m7] []] [((2,0),62)]
def qN:Option ((waE×Int)⊕(waE)):=
 if(decide (t22<t21))=true then
  (cH t20 t22).bind fun x5=>
  (kK m).bind fun r6=>
  (gq m2 (m2.length:Int) 0 ([]:List aa)).bind fun o11=>
  (app v ([(⟨r6,o11,x5,c.Tag⟩:ay)]:List ay)).bind fun l12=>
  some (.inl (l12,aO (t22+1)))
 else
  some (.inr v)
def nz:Option waE:=loop (fun(zz:waE×Int)=>qN c t20 t21 m m2 zz.1 zz.2) (v,t22)
theorem xW{y:(waE×Int)⊕(waE)}(h:qN c t20 t21 m m2 v t22=some y):
  aQ Pg GE 1000 (cA Xb 1767) (LQ (fun(zz:waE×Int)=>fj c t20 t21 m m2 m3 m4 m5 m6 m7 zz.1 zz.2) (fun _=>.exit 1) (kP m m2 m3 m4 m5 m6 m7) y) (fj c t20 t21 m m2 m3 m4 m5 m6 m7 v t22):=by
 rcases aX h with⟨c4,h⟩|⟨c4,h⟩
 ·obtain⟨x5,bx5,h⟩:=aA h
  obtain⟨r6,br6,h⟩:=aA h
  obtain⟨o11,bo11,h⟩:=aA h
  obtain⟨l12,bl12,h⟩:=aA h
  obtain rfl:=lf h
  have z:=sg 0 c4<|sv (cd.ia (k:=.i64) bx5)<|sv (aY x5)<|sx lM<|sx (dn x5)<|ra [0,1,3,0,0,16,63,0,255]<|ss<|bP (JO br6)<|sv (ch x5 [])<|sv (LJ c)<|sv (OD c)<|sb (F8 r6 x5 c.Tag) (F7 r6 x5 c.Tag)<|Ym (AQ (⟨r6,([]:List aa),x5,c.Tag⟩:ay))<|ss<|cw (cd.ln m2)<|di (y2 v c t20 t21 t22 m2 (m2.length:Int) m m3 m4 m5 m6 m7 x5.Op x5.Name x5.N x5.Kids r6 c.Tag 0 ([]:List aa) bo11)<|sv (Hd (⟨r6,o11,x5,c.Tag⟩:ay) [])<|sv (zb.mk' (v:=Nk) Qj ([(⟨r6,o11,x5,c.Tag⟩:ay)]:List ay) 1 (by kernel_rfl))<|sv (zb.ap bl12)<|y4 1000 .normal (fj c t20 t21 m m2 m3 m4 m5 m6 m7 l12 (aO (t22+1))) rfl (eh (aI (up (aq eY l12)) (aI (oI (bJ c)) (aI (d7 rfl) (aI (up (aq ah t20)) (aI trivial (aI trivial trivial))))))) (aI trivial (aI (aI (up (aq lG m)) (aI (up (aq ah m2)) (aI trivial (aI trivial (aI trivial (aI (up (aq ah m6)) (aI trivial trivial))))))) trivial))
  exact dV (A:=Tx) mixed z (by kernel_rfl)
 ·obtain rfl:=lf h
  have z:=sg 0 c4<|eF (.exit 1) (kP m m2 m3 m4 m5 m6 m7 v)
  exact iW Tx (by intro hx;cases hx) z (by kernel_rfl)
theorem y0{x:waE}(h:nz c t20 t21 m m2 v t22=some x):
  aQ Pg GE 1000 (.loop (cA Xb 1767)) (EX (.exit 1) (kP m m2 m3 m4 m5 m6 m7 x)) (fj c t20 t21 m m2 m3 m4 m5 m6 m7 v t22):=
 aQ.loop (S:=fun(zz:waE×Int)=>fj c t20 t21 m m2 m3 m4 m5 m6 m7 zz.1 zz.2) (ex:=(fun _=>.exit 1)) (s:=(v,t22)) h fun zz y hy=>xW c t20 t21 m m2 m3 m4 m5 m6 m7 zz.1 zz.2 hy
end
section
variable(v:waE)(c:ak)(m:waF)(m2:waA)(m3:Int)(m4:ag)(m5:Int)(m6:waA)(m7:Int)
def AD:az:=aW 91 [(2,sl aD v),(3,.eptr (ax c)),(4,.bptr 1 0)] [.dead,.cells [sl bA m,sl ac m2,.int .i64 m3,.str m4,.int .i64 m5,sl ac m6,.int .i64 m7] []] [((2,0),62)]
def kO(o:waF):az:=aW 91 [(2,sl aD v),(3,.eptr (ax c)),(4,.bptr 1 0)] [.dead,.cells [sl bA o,sl ac m2,.int .i64 m3,.str m4,.int .i64 m5,sl ac m6,.int .i64 m7] []] [((2,0),62)]
def jj:Option waF:=
 if(!(c.Name==([]:ag)))=true then
  (kK m).bind fun r18=>
  (app r18 ([(⟨c.Name,c.Sort_⟩:dc)]:List dc)).bind fun l19=>
  some l19
 else
  some m
theorem yZ{x:waF}(h:jj c m=some x):
  aQ Pg GE 1000 (cA Xb 892) (EX .normal (kO v c m2 m3 m4 m5 m6 m7 x)) (AD v c m m2 m3 m4 m5 m6 m7):=by
 have p17:=fun{sc F} (r:PS sc F)=>sv (CG c)<|sv (EH c)<|r
 rcases aX h with⟨c16,h⟩|⟨c16,h⟩
 ·obtain⟨r18,br18,h⟩:=aA h
  obtain⟨l19,bl19,h⟩:=aA h
  obtain rfl:=lf h
  exact ct Tx (p17<|sg 0 c16<|ra [0,1,3,0,8,0,32,120,248,511,1023,2047]<|ss<|bP (JO br18)<|sv (CG c)<|sv (EH c)<|sv (LI c)<|sv (L1 c)<|sv (PD c.Name c.Sort_)<|sv (GN.mk' (v:=W4) Wt ([(⟨c.Name,c.Sort_⟩:dc)]:List dc) 1 (by kernel_rfl))<|sv (GN.ap bl19)<|WY (rfl:bQ (sl bA l19)=some [sl bA l19])<|eF .normal (kO v c m2 m3 m4 m5 m6 m7 l19)) (by kernel_rfl)
 ·obtain rfl:=lf h
  exact ct Tx (p17<|sg 0 c16<|eF .normal (kO v c m2 m3 m4 m5 m6 m7 m)) (by kernel_rfl)
end
section
variable(v:waE)(c:ak)(m:waF)(m2:waA)(m3:Int)(m4:ag)(m5:Int)(m6:waA)(m7:Int)
def AC:az:=aW 91 [(2,sl aD v),(3,.eptr (ax c)),(4,.bptr 1 0)] [.dead,.cells [sl bA m,sl ac m2,.int .i64 m3,.str m4,.int .i64 m5,sl ac m6,.int .i64 m7] []] [((2,0),62)]
def gZ(o:waE⊕(waF×waA)):Exit:=match o with
 |(.inl _)=>.ret
 |(.inr _)=>.normal
def dZ(o:waE⊕(waF×waA)):az:=match o with
 |(.inl o)=>aW 91 [(6,sl aD o)] [.dead,.cells [sl bA m,sl ac m2,.int .i64 m3,.str m4,.int .i64 m5,sl ac m6,.int .i64 m7] []] [((6,0),62)]
 |(.inr o)=>aW 91 [(2,sl aD v),(3,.eptr (ax c)),(4,.bptr 1 0)] [.dead,.cells [sl bA o.1,sl ac o.2,.int .i64 m3,.str m4,.int .i64 m5,sl ac m6,.int .i64 m7] []] [((2,0),62)]
def ny:Option (waE⊕(waF×waA)):=
 if(c.Op==3)=true then
  (yk c.Pred).bind fun r3=>
  (nz c r3 (r3.length:Int) m m2 v 0).bind fun o13=>
  some (.inl o13)
 else
  if(c.Op==2)=true then
   (jj c m).bind fun o20=>
   (kK m2).bind fun r21=>
   (yk c.Pred).bind fun r22=>
   (app r21 r22).bind fun l23=>
   some (.inr (o20,l23))
  else
   some (.inr (m,m2))
theorem pw{x:waE⊕(waF×waA)}(h:ny v c m m2=some x):
  aQ Pg GE 1000 (cA Xb 6) (EX (gZ x) (dZ v c m m2 m3 m4 m5 m6 m7 x)) (AC v c m m2 m3 m4 m5 m6 m7):=by
 have p2:=fun{sc F} (r:PS sc F)=>sv (LH c)<|sv (L0 c)<|r
 rcases aX h with⟨c1,h⟩|⟨c1,h⟩
 ·obtain⟨r3,br3,h⟩:=aA h
  obtain⟨o13,bo13,h⟩:=aA h
  obtain rfl:=lf h
  exact ct Tx (p2<|sg 0 c1<|sv (v6 c)<|sv (wg c)<|bP (CP br3)<|cw (cd.ln r3)<|di (y0 c r3 (r3.length:Int) m m2 m3 m4 m5 m6 m7 v 0 bo13)<|eF (gZ (.inl o13)) (dZ v c m m2 m3 m4 m5 m6 m7 (.inl o13))) (by kernel_rfl)
 ·have p15:=fun{sc F} (r:PS sc F)=>p2<|sg 0 c1<|r
  rcases aX h with⟨c14,h⟩|⟨c14,h⟩
  ·obtain⟨o20,bo20,h⟩:=aA h
   obtain⟨r21,br21,h⟩:=aA h
   obtain⟨r22,br22,h⟩:=aA h
   obtain⟨l23,bl23,h⟩:=aA h
   obtain rfl:=lf h
   exact ct Tx (p15<|sg 0 c14<|oe 0<|di (yZ v c m m2 m3 m4 m5 m6 m7 bo20)<|ra [0,1,3,0,8,31,63,127,255]<|ss<|bP (Rq br21)<|sv (v6 c)<|sv (wg c)<|bP (CP br22)<|sv (cd.ap bl23)<|WY (rfl:bQ (sl ac l23)=some [sl ac l23])<|eF (gZ (.inr (o20,l23))) (dZ v c m m2 m3 m4 m5 m6 m7 (.inr (o20,l23)))) (by kernel_rfl)
  ·obtain rfl:=lf h
   exact ct Tx (p15<|sg 0 c14<|eF (gZ (.inr (m,m2))) (dZ v c m m2 m3 m4 m5 m6 m7 (.inr (m,m2)))) (by kernel_rfl)
end
section
variable(R92:kf)(t79:waD)(t80:Int)(m:waF)(m2:waA)(m3:Int)(m4:ag)(m5:Int)(m6:waA)(m7:Int)(v:waE)(t81:Int)
def fl:az:=aW 91 [(2,sl aD v),(4,.bptr 1 0),(79,sl ax t79),(80,.int .i64 t80),(81,.int .i64 t81)] [.dead,.cells [sl bA m,sl ac m2,.int .i64 m3,.str m4,.int .i64 m5,sl ac m6,.int .i64 m7] []] [((2,0),62)]
def kR(o:waE):az:=aW 91 [(2,sl aD o)] [.dead,.cells [sl bA m,sl ac m2,.int .i64 m3,.str m4,.int .i64 m5,sl ac m6,.int .i64 m7] []] [((2,0),62)]
def qP:Option ((waE×Int)⊕(waE)):=
 if(decide (t81<t80))=true then
  (cH t79 t81).bind fun x26=>
  (R92 x26 (⟨m,m2,(⟨m3,m4,m5,m6⟩:aa),m7⟩:ay) v).bind fun r27=>
  some (.inl (r27,aO (t81+1)))
 else
  some (.inr v)
def jk:Option waE:=loop (fun(zz:waE×Int)=>qP R92 t79 t80 m m2 m3 m4 m5 m6 m7 zz.1 zz.2) (v,t81)
theorem xY(hR92:og R92){y:(waE×Int)⊕(waE)}(h:qP R92 t79 t80 m m2 m3 m4 m5 m6 m7 v t81=some y):
  aQ Pg GE 1000 (cA Xb 119) (LQ (fun(zz:waE×Int)=>fl t79 t80 m m2 m3 m4 m5 m6 m7 zz.1 zz.2) (fun _=>.exit 5) (kR m m2 m3 m4 m5 m6 m7) y) (fl t79 t80 m m2 m3 m4 m5 m6 m7 v t81):=by
 rcases aX h with⟨c25,h⟩|⟨c25,h⟩
 ·obtain⟨x26,bx26,h⟩:=aA h
  obtain⟨r27,br27,h⟩:=aA h
  obtain rfl:=lf h
  have z:=sg 0 c25<|sv (za.ia (k:=.i64) bx26)<|sv (qW x26)<|sx y8<|sx (dJ x26)<|sv (iS x26 [])<|sv (Hd (⟨m,m2,(⟨m3,m4,m5,m6⟩:aa),m7⟩:ay) [])<|si (.cg ⟨[],[.agg (ax x26),.agg (aD (⟨m,m2,(⟨m3,m4,m5,m6⟩:aa),m7⟩:ay)),sl aD v],[⟨2,87,0,62⟩],[],[],[],[],sl aD r27,sl aD r27,[(0,62)]⟩) (hR92 _ _ _ _ br27)<|sf (aI (xR [] (.agg (ax x26)) (bJ x26)) (aI (xR [] (.agg (aD (⟨m,m2,(⟨m3,m4,m5,m6⟩:aa),m7⟩:ay))) (eY (⟨m,m2,(⟨m3,m4,m5,m6⟩:aa),m7⟩:ay))) (aI (xR [] (sl aD v) (aq eY v)) trivial)))<|sf trivial<|sf trivial<|sf (xR [] (sl aD r27) (aq eY r27))<|y4 1000 .normal (fl t79 t80 m m2 m3 m4 m5 m6 m7 r27 (aO (t81+1))) rfl (eh (aI (up (aq eY r27)) (aI (d7 rfl) (aI (up (aq bJ t79)) (aI trivial (aI trivial trivial)))))) (aI trivial (aI (aI (up (aq lG m)) (aI (up (aq ah m2)) (aI trivial (aI trivial (aI trivial (aI (up (aq ah m6)) (aI trivial trivial))))))) trivial))
  exact dV (A:=Tx) mixed z (by kernel_rfl)
 ·obtain rfl:=lf h
  have z:=sg 0 c25<|eF (.exit 5) (kR m m2 m3 m4 m5 m6 m7 v)
  exact iW Tx (by intro hx;cases hx) z (by kernel_rfl)
theorem y3(hR92:og R92){x:waE}(h:jk R92 t79 t80 m m2 m3 m4 m5 m6 m7 v t81=some x):
  aQ Pg GE 1000 (.loop (cA Xb 119)) (EX (.exit 5) (kR m m2 m3 m4 m5 m6 m7 x)) (fl t79 t80 m m2 m3 m4 m5 m6 m7 v t81):=
 aQ.loop (S:=fun(zz:waE×Int)=>fl t79 t80 m m2 m3 m4 m5 m6 m7 zz.1 zz.2) (ex:=(fun _=>.exit 5)) (s:=(v,t81)) h fun zz y hy=>xY R92 t79 t80 m m2 m3 m4 m5 m6 m7 zz.1 zz.2 hR92 hy
end
def ki(R92:kf)(c:ak)(above:ay)(a:waE):Option waE:=
 (ny a c above.Vars above.Hyps).bind fun o24=>match o24 with
 |(.inl o24)=>
  some o24
 |(.inr o24)=>
  (jk R92 c.Kids (c.Kids.length:Int) o24.1 o24.2 above.Head.Op above.Head.Name above.Head.N above.Head.Kids above.Tag a 0).bind fun o28=>
  some o28
theorem Ca(R92:kf)(hR92:og R92){c:ak}{above:ay}{a:waE}{r:waE}(h:ki R92 c above a=some r):C Pg GE 41 [.agg (ax c),.agg (aD above),sl aD a] [((2,0),62)] [] (sl aD r) [(0,62)] []:=by
 obtain⟨o24,bo24,h⟩:=aA h
 rcases o24 with o24|o24
 ·obtain rfl:=lf h
  have z:=se (AP c)<|sx (AQ above)<|oe 0<|di (e:=.ret) (s1:=dZ a c above.Vars above.Hyps above.Head.Op above.Head.Name above.Head.N above.Head.Kids above.Tag (.inl o24)) (pw a c above.Vars above.Hyps above.Head.Op above.Head.Name above.Head.N above.Head.Kids above.Tag bo24)<|en (aI (rP (sl aD o24))<|aI (up (n:=0) (aq eY o24))<|aI (rL [])<|trivial)
  exact C.evGp (A:=Tx) mixed (m:=1000) (c:=Xb) rfl Tryz.call41 Tryz.func41 rfl z (by kernel_rfl)
 ·obtain⟨o28,bo28,h⟩:=aA h
  obtain rfl:=lf h
  have z:=se (AP c)<|sx (AQ above)<|oe 0<|di (e:=.normal) (s1:=dZ a c above.Vars above.Hyps above.Head.Op above.Head.Name above.Head.N above.Head.Kids above.Tag (.inr o24)) (pw a c above.Vars above.Hyps above.Head.Op above.Head.Name above.Head.N above.Head.Kids above.Tag bo24)<|sv (CH c)<|sv (CL c)<|cw (za.ln c.Kids)<|di (y3 R92 c.Kids (c.Kids.length:Int) o24.1 o24.2 above.Head.Op above.Head.Name above.Head.N above.Head.Kids above.Tag a 0 hR92 bo28)<|en (aI (rP (sl aD o28))<|aI (up (n:=0) (aq eY o28))<|aI (rL [])<|trivial)
  exact C.evGp (A:=Tx) mixed (m:=1000) (c:=Xb) rfl Tryz.call41 Tryz.func41 rfl z (by kernel_rfl)
def oM:((ak×ay×waE)->Option waE)->(ak×ay×waE)->Option waE:=fun(rec:(ak×ay×waE)->Option waE) (x:ak×ay×waE)=>ki (fun c above a=>rec (c,above,a)) x.1 x.2.1 x.2.2
def rD(c:ak)(above:ay)(a:waE):Option waE:=oP oM (c,above,a)
theorem Dh{c:ak}{above:ay}{a:waE}{r:waE}(h:rD c above a=some r):C Pg GE 41 [.agg (ax c),.agg (aD above),sl aD a] [((2,0),62)] [] (sl aD r) [(0,62)] []:=
 cR (F:=oM) (M:=fun(x:ak×ay×waE) (r:waE)=>C Pg GE 41 [.agg (ax x.1),.agg (aD x.2.1),sl aD x.2.2] [((2,0),62)] [] (sl aD r) [(0,62)] []) (fun rec hrec x r h=>Ca _ (fun c above a r h=>hrec (c,above,a) r h) h) h
def qdG:Code:=Tryz.f17.body.getD .skip
def qdv:List Nat:=[]
def jx(c:ak):Option waE:=
 (rD c (⟨([]:List dc),([]:List aa),(⟨0,([]:ag),0,([]:List aa)⟩:aa),0⟩:ay) ([]:List ay)).bind fun r1=>
 some r1
theorem jh{c:ak}{r:waE}(h:jx c=some r):CC Pg GE 17 [.agg (ax c)] (sl aD r) [(0,62)]:=by
 obtain⟨r1,br1,h⟩:=aA h
 obtain rfl:=lf h
 have z:=se (AP c)<|sv (qW c)<|sb (NZ) (NW)<|si (.cg ⟨[],[.agg (ax c),.agg (aD (⟨([]:List dc),([]:List aa),(⟨0,([]:ag),0,([]:List aa)⟩:aa),0⟩:ay)),sl aD ([]:List ay)],[⟨2,1000000,0,62⟩],[],[],[],[],sl aD r1,sl aD r1,[(0,62)]⟩) (Dh br1)<|sf (aI (xR [] (.agg (ax c)) (bJ c)) (aI (xR [] (.agg (aD (⟨([]:List dc),([]:List aa),(⟨0,([]:ag),0,([]:List aa)⟩:aa),0⟩:ay))) (eY (⟨([]:List dc),([]:List aa),(⟨0,([]:ag),0,([]:List aa)⟩:aa),0⟩:ay))) (aI (xR [] (sl aD ([]:List ay)) (aq eY ([]:List ay))) trivial)))<|sf trivial<|sf trivial<|sf (xR [] (sl aD r1) (aq eY r1))<|en (aI (rP (sl aD r1))<|(aq eY r1))
 exact ck qdv Tryz.call17 Tryz.func17 (c:=qdG) rfl (aI (bJ c) trivial) z (by kernel_rfl)
def W9:Code:=Tryz.f11.body.getD .skip
def QY:List Nat:=[]
section
variable(e:Int)(v:waE)(f:Int)(m:waA)(m2:Int)(m3:ag)(m4:waC)(m5:waB)(m6:Int)(m7:ag)(m8:Int)(m9:waA)(m10:waA)(m11:Int)(m12:ag)(m13:waC)(m14:waB)(m15:Int)(m16:ag)(m17:Int)(m18:waA)(m19:waA)(m20:Int)(m21:ag)(m22:ag)(m23:Int)(m24:ag)(m25:Int)(m26:waA)(m27:Int)(m28:waD)(m29:Int)(m30:ag)(m31:ag)(m32:Int)(m33:ag)(m34:Int)(m35:waA)(m36:Int)(m37:waD)
def Jy:az:=aW 165 [(2,.bptr 1 0),(3,.bptr 2 0),(4,.bptr 3 0),(6,.int .i64 e),(7,sl aD v),(9,.int .i64 f)] [.cells [.int .i64 1,.str ([]:ag),.int .i64 1,sl ac m] [(3,36)],.cells [.int .i64 1,.str ([]:ag),.int .i64 0,sl ac m] [(3,36)],.cells [.int .i64 m2,.str m3,sl af m4,sl cS m5,.int .i64 m6,.str m7,.int .i64 m8,sl ac m9,sl ac m10] [(2,38),(3,9),(8,36)],.cells [.int .i64 m11,.str m12,sl af m13,sl cS m14,.int .i64 m15,.str m16,.int .i64 m17,sl ac m18,sl ac m19] [(2,38),(3,9),(8,36)],.cells [.int .i64 m20,.str m21,.str m22,.int .i64 m23,.str m24,.int .i64 m25,sl ac m26,.int .i64 m27,sl ax m28] [],.cells [.int .i64 m29,.str m30,.str m31,.int .i64 m32,.str m33,.int .i64 m34,sl ac m35,.int .i64 m36,sl ax m37] []] [((7,0),62)]
def fi(o:Bool):az:=aW 165 [(2,.bptr 1 0),(3,.bptr 2 0),(4,.bptr 3 0),(86,.bool o)] [.cells [.int .i64 1,.str ([]:ag),.int .i64 1,sl ac m] [(3,36)],.cells [.int .i64 1,.str ([]:ag),.int .i64 0,sl ac m] [(3,36)],.cells [.int .i64 m2,.str m3,sl af m4,sl cS m5,.int .i64 m6,.str m7,.int .i64 m8,sl ac m9,sl ac m10] [(2,38),(3,9),(8,36)],.cells [.int .i64 m11,.str m12,sl af m13,sl cS m14,.int .i64 m15,.str m16,.int .i64 m17,sl ac m18,sl ac m19] [(2,38),(3,9),(8,36)],.cells [.int .i64 m20,.str m21,.str m22,.int .i64 m23,.str m24,.int .i64 m25,sl ac m26,.int .i64 m27,sl ax m28] [],.cells [.int .i64 m29,.str m30,.str m31,.int .i64 m32,.str m33,.int .i64 m34,sl ac m35,.int .i64 m36,sl ax m37] []] []
def Ec:Option Bool:=
 if(e !=0)=true then
  some true
 else
  if(f !=12)=true then
   some true
  else
   if((v.length:Int)!=1)=true then
    some true
   else
    (cH v 0).bind fun x15=>
    if(x15.Tag !=4)=true then
     some true
    else
     (cH v 0).bind fun x18=>
     if((x18.Vars.length:Int)!=1)=true then
      some true
     else
      (cH v 0).bind fun x21=>
      (cH x21.Vars 0).bind fun x22=>
      if(!(x22.Name==([118,49]:ag)))=true then
       some true
      else
       (cH v 0).bind fun x25=>
       (jf ([118,49]:ag)).bind fun r26=>
       (Bu 12 (⟨1,([]:ag),0,m⟩:aa) r26).bind fun r27=>
       (tf x25.Head r27).bind fun r28=>
       some (!r28)
theorem Ia{x:Bool}(h:Ec e v f m=some x):
  aQ Pg GE 0 (cA W9 508) (EX .normal (fi m m2 m3 m4 m5 m6 m7 m8 m9 m10 m11 m12 m13 m14 m15 m16 m17 m18 m19 m20 m21 m22 m23 m24 m25 m26 m27 m28 m29 m30 m31 m32 m33 m34 m35 m36 m37 x)) (Jy e v f m m2 m3 m4 m5 m6 m7 m8 m9 m10 m11 m12 m13 m14 m15 m16 m17 m18 m19 m20 m21 m22 m23 m24 m25 m26 m27 m28 m29 m30 m31 m32 m33 m34 m35 m36 m37):=by
 rcases aX h with⟨c10,h⟩|⟨c10,h⟩
 ·obtain rfl:=lf h
  exact ct QY (ra [0,1,3,7,15,31,63,127,255,511,1023,2047,4095,8191,16383,32767,65535,131071,262143,524287,1048575,2097151,4194303,8388607,16777215,33554431,67108863,134217727,268435455,536870911,1073741823,2147483647,4294967295,8589934591,17179869183,34359738367,68719476735,137438953471,274877906943,549755813887,1099511627775,137438953471,137438953471,6734508720127,17592186044415,35184372088831,70368744177663]<|sg 3 c10<|eF .normal (fi m m2 m3 m4 m5 m6 m7 m8 m9 m10 m11 m12 m13 m14 m15 m16 m17 m18 m19 m20 m21 m22 m23 m24 m25 m26 m27 m28 m29 m30 m31 m32 m33 m34 m35 m36 m37 true)) (by kernel_rfl)
 ·have p12:=fun{sc F} (r:PS sc F)=>ra [0,1,3,7,15,31,63,127,255,511,1023,2047,4095,8191,16383,32767,65535,131071,262143,524287,1048575,2097151,4194303,8388607,16777215,33554431,67108863,134217727,268435455,536870911,1073741823,2147483647,4294967295,8589934591,17179869183,34359738367,68719476735,137438953471,274877906943,549755813887,1099511627775,137438953471,137438953471,6734508720127,17592186044415,35184372088831,70368744177663]<|sg 3 c10<|r
  rcases aX h with⟨c11,h⟩|⟨c11,h⟩
  ·obtain rfl:=lf h
   exact ct QY (p12<|sg 7 c11<|eF .normal (fi m m2 m3 m4 m5 m6 m7 m8 m9 m10 m11 m12 m13 m14 m15 m16 m17 m18 m19 m20 m21 m22 m23 m24 m25 m26 m27 m28 m29 m30 m31 m32 m33 m34 m35 m36 m37 true)) (by kernel_rfl)
  ·have p14:=fun{sc F} (r:PS sc F)=>p12<|sg 7 c11<|cw (zb.ln v)<|r
   rcases aX h with⟨c13,h⟩|⟨c13,h⟩
   ·obtain rfl:=lf h
    exact ct QY (p14<|sg 12 c13<|eF .normal (fi m m2 m3 m4 m5 m6 m7 m8 m9 m10 m11 m12 m13 m14 m15 m16 m17 m18 m19 m20 m21 m22 m23 m24 m25 m26 m27 m28 m29 m30 m31 m32 m33 m34 m35 m36 m37 true)) (by kernel_rfl)
   ·obtain⟨x15,bx15,h⟩:=aA h
    have p17:=fun{sc F} (r:PS sc F)=>p14<|sg 12 c13<|sv (zb.ia (k:=.i64) bx15)<|sv (If x15)<|sv (Kn x15)<|r
    rcases aX h with⟨c16,h⟩|⟨c16,h⟩
    ·obtain rfl:=lf h
     exact ct QY (p17<|sg 19 c16<|eF .normal (fi m m2 m3 m4 m5 m6 m7 m8 m9 m10 m11 m12 m13 m14 m15 m16 m17 m18 m19 m20 m21 m22 m23 m24 m25 m26 m27 m28 m29 m30 m31 m32 m33 m34 m35 m36 m37 true)) (by kernel_rfl)
    ·obtain⟨x18,bx18,h⟩:=aA h
     have p20:=fun{sc F} (r:PS sc F)=>p17<|sg 19 c16<|sv (zb.ia (k:=.i64) bx18)<|sv (jy x18)<|sv (jC x18)<|cw (GN.ln x18.Vars)<|r
     rcases aX h with⟨c19,h⟩|⟨c19,h⟩
     ·obtain rfl:=lf h
      exact ct QY (p20<|sg 27 c19<|eF .normal (fi m m2 m3 m4 m5 m6 m7 m8 m9 m10 m11 m12 m13 m14 m15 m16 m17 m18 m19 m20 m21 m22 m23 m24 m25 m26 m27 m28 m29 m30 m31 m32 m33 m34 m35 m36 m37 true)) (by kernel_rfl)
     ·obtain⟨x21,bx21,h⟩:=aA h
      obtain⟨x22,bx22,h⟩:=aA h
      have p24:=fun{sc F} (r:PS sc F)=>p20<|sg 27 c19<|sv (zb.ia (k:=.i64) bx21)<|sv (jy x21)<|sv (jC x21)<|sv (GN.ia (k:=.i64) bx22)<|sv (v8 x22)<|sv (AJ x22)<|r
      rcases aX h with⟨c23,h⟩|⟨c23,h⟩
      ·obtain rfl:=lf h
       exact ct QY (p24<|sg 37 c23<|eF .normal (fi m m2 m3 m4 m5 m6 m7 m8 m9 m10 m11 m12 m13 m14 m15 m16 m17 m18 m19 m20 m21 m22 m23 m24 m25 m26 m27 m28 m29 m30 m31 m32 m33 m34 m35 m36 m37 true)) (by kernel_rfl)
      ·obtain⟨x25,bx25,h⟩:=aA h
       obtain⟨r26,br26,h⟩:=aA h
       obtain⟨r27,br27,h⟩:=aA h
       obtain⟨r28,br28,h⟩:=aA h
       obtain rfl:=lf h
       exact ct QY (p24<|sg 37 c23<|sv (zb.ia (k:=.i64) bx25)<|sv (mZ x25)<|sv (nh x25)<|sv (ch (⟨1,([]:ag),0,m⟩:aa) [])<|bP (gO br26)<|bP (tK br27)<|bP (uF br28)<|eF .normal (fi m m2 m3 m4 m5 m6 m7 m8 m9 m10 m11 m12 m13 m14 m15 m16 m17 m18 m19 m20 m21 m22 m23 m24 m25 m26 m27 m28 m29 m30 m31 m32 m33 m34 m35 m36 m37 (!r28))) (by kernel_rfl)
end
def Bq:Option Bool:=
 (jf ([118]:ag)).bind fun r1=>
 (Bu 10 r1 (⟨1,([]:ag),1,([]:List aa)⟩:aa)).bind fun r2=>
 (qL r2).bind fun r3=>
 (jf ([118]:ag)).bind fun r4=>
 (Bu 12 (⟨1,([]:ag),0,([]:List aa)⟩:aa) r4).bind fun r5=>
 (qL r5).bind fun r6=>
 (ll (⟨([]:List eV),([]:List po),([]:List dM),([]:List f0),([]:List sa),([]:List pu)⟩:aR) r3 r6 4 ([]:List ag)).bind fun r7=>
 (jx r7.1).bind fun r8=>
 (ll (⟨([]:List eV),([]:List po),([]:List dM),([]:List f0),([]:List sa),([]:List pu)⟩:aR) (⟨r3.Op,r3.Name,r3.Args,r3.Names,r3.Pred,r3.Preds⟩:ae) (⟨2,([]:ag),([]:List ae),([]:List ag),(⟨0,([]:ag),0,([]:List aa)⟩:aa),([]:List aa)⟩:ae) 0 ([]:List ag)).bind fun r9=>
 (Ec r7.2 r8 r9.2 ([]:List aa)).bind fun o29=>
 if o29=true then
  some false
 else
  (qL (⟨0,([]:ag),0,([]:List aa)⟩:aa)).bind fun r32=>
  (jf ([120]:ag)).bind fun r33=>
  (jf ([118]:ag)).bind fun r34=>
  (Bu 12 r33 r34).bind fun r35=>
  (qL r35).bind fun r36=>
  (ll (⟨([]:List eV),([]:List po),([]:List dM),([]:List f0),([]:List sa),([]:List pu)⟩:aR) (⟨6,([]:ag),([r32,r36]:List ae),([([120]:ag)]:List ag),(⟨0,([]:ag),0,([]:List aa)⟩:aa),([]:List aa)⟩:ae) (⟨6,([]:ag),([(⟨r6.Op,r6.Name,r6.Args,r6.Names,r6.Pred,r6.Preds⟩:ae),(⟨r6.Op,r6.Name,r6.Args,r6.Names,r6.Pred,r6.Preds⟩:ae)]:List ae),([([121]:ag)]:List ag),(⟨0,([]:ag),0,([]:List aa)⟩:aa),([]:List aa)⟩:ae) 0 ([([118,49]:ag)]:List ag)).bind fun r37=>
  (jx r37.1).bind fun r38=>
  if (r37.2 == 0) = true then
   if ((r38.length:Int) == 1) = true then
    (cH r38 0).bind fun x43=>
    if ((x43.Vars.length:Int) == 2) = true then
     (cH r38 0).bind fun x46=>
     (cH x46.Vars 0).bind fun x47=>
     if (x47.Name == ([121]:ag)) = true then
      (cH r38 0).bind fun x50=>
      (cH x50.Vars 1).bind fun x51=>
      if (x51.Name == ([118,49,49]:ag)) = true then
       (cH r38 0).bind fun x54=>
       (jf ([118,49,49]:ag)).bind fun r55=>
       (Bu 12 (⟨1,([]:ag),0,([]:List aa)⟩:aa) r55).bind fun r56=>
       (tf x54.Head r56).bind fun r57=>
       if r57=true then
        (jp (⟨r3.Op,r3.Name,r3.Args,r3.Names,r3.Pred,r3.Preds⟩:ae)).bind fun r60=>
        if r60=true then
         (jp (⟨6,([]:ag),([r32,r36]:List ae),([([120]:ag)]:List ag),(⟨0,([]:ag),0,([]:List aa)⟩:aa),([]:List aa)⟩:ae)).bind fun r63=>
         some (!r63)
        else
         some false
       else
        some false
      else
       some false
     else
      some false
    else
     some false
   else
    some false
  else
   some false
theorem Ed{r:Bool}(h:Bq=some r):CC Pg GE 11 [] (.bool r) []:=by
 obtain⟨r1,br1,h⟩:=aA h
 obtain⟨r2,br2,h⟩:=aA h
 obtain⟨r3,br3,h⟩:=aA h
 obtain⟨r4,br4,h⟩:=aA h
 obtain⟨r5,br5,h⟩:=aA h
 obtain⟨r6,br6,h⟩:=aA h
 obtain⟨r7,br7,h⟩:=aA h
 obtain⟨r8,br8,h⟩:=aA h
 obtain⟨r9,br9,h⟩:=aA h
 obtain⟨o29,bo29,h⟩:=aA h
 have p31:=fun{sc F} (r:PS sc F)=>sb (xT 1 1) (xQ 1 1)<|sb (JI 1) (JG 1)<|sx lM<|sx lM<|sy (aE (⟨1,([]:ag),1,([]:List aa)⟩:aa))<|sy (aE (⟨1,([]:ag),0,([]:List aa)⟩:aa))<|ra [0,0,3,7,0,15,63,127,0,0,1023,2047]<|bP (gO br1)<|sv (ch (⟨1,([]:ag),1,([]:List aa)⟩:aa) [])<|bP (tK br2)<|bP (oE br3)<|sv (ch (⟨1,([]:ag),0,([]:List aa)⟩:aa) [])<|bP (gO br4)<|bP (tK br5)<|bP (oE br6)<|Ym (iX r3)<|Ym (iX r6)<|sb (xS) (xP)<|sv (dj r3 [])<|sv (dj r6 [])<|bP (pn br7)<|sx y8<|sx (dJ r7.1)<|sv (iS r7.1 [])<|bP (jh br8)<|sb (xS) (xP)<|sv (dj (⟨r3.Op,r3.Name,r3.Args,r3.Names,r3.Pred,r3.Preds⟩:ae) [])<|sb (Rl 2) (Rh 2)<|bP (pn br9)<|sx y8<|sx (dJ r9.1)<|oe 1<|di (Ia r7.2 r8 r9.2 ([]:List aa) r3.Op r3.Name r3.Args r3.Names r3.Pred.Op r3.Pred.Name r3.Pred.N r3.Pred.Kids r3.Preds r6.Op r6.Name r6.Args r6.Names r6.Pred.Op r6.Pred.Name r6.Pred.N r6.Pred.Kids r6.Preds r7.1.Op r7.1.Name r7.1.Sort_ r7.1.Pred.Op r7.1.Pred.Name r7.1.Pred.N r7.1.Pred.Kids r7.1.Tag r7.1.Kids r9.1.Op r9.1.Name r9.1.Sort_ r9.1.Pred.Op r9.1.Pred.Name r9.1.Pred.N r9.1.Pred.Kids r9.1.Tag r9.1.Kids bo29)<|r
 rcases aX h with⟨c30,h⟩|⟨c30,h⟩
 ·obtain rfl:=lf h
  have z:=p31<|sg 0 c30<|en (aI (rP (.bool false))<|trivial)
  exact ck QY Tryz.call11 Tryz.func11 (c:=W9) rfl trivial z (by kernel_rfl)
 ·obtain ⟨r32,br32,h⟩:=aA h
  obtain⟨r33,br33,h⟩:=aA h
  obtain⟨r34,br34,h⟩:=aA h
  obtain⟨r35,br35,h⟩:=aA h
  obtain⟨r36,br36,h⟩:=aA h
  obtain⟨r37,br37,h⟩:=aA h
  obtain⟨r38,br38,h⟩:=aA h
  have p40:=fun{sc F} (r:PS sc F)=>p31<|sg 0 c30<|sv (bR.mk' (v:=PVal.str) L9 ([([120]:ag)]:List ag) 1 (by kernel_rfl))<|sb (tN) (tL)<|bP (oE br32)<|bP (gO br33)<|bP (gO br34)<|bP (tK br35)<|bP (oE br36)<|sv (cQ.mk' (v:=lO) gi ([r32,r36]:List ae) 2 (by kernel_rfl))<|sb (Au 6 ([([120]:ag)]:List ag) ([r32,r36]:List ae)) (As 6 ([([120]:ag)]:List ag) ([r32,r36]:List ae))<|sx A6<|sy (bz (⟨6,([]:ag),([r32,r36]:List ae),([([120]:ag)]:List ag),(⟨0,([]:ag),0,([]:List aa)⟩:aa),([]:List aa)⟩:ae))<|sv (bR.mk' (v:=PVal.str) L9 ([([121]:ag)]:List ag) 1 (by kernel_rfl))<|sv (dj (⟨r6.Op,r6.Name,r6.Args,r6.Names,r6.Pred,r6.Preds⟩:ae) [])<|sv (dj (⟨r6.Op,r6.Name,r6.Args,r6.Names,r6.Pred,r6.Preds⟩:ae) [])<|sv (cQ.mk' (v:=lO) gi ([(⟨r6.Op,r6.Name,r6.Args,r6.Names,r6.Pred,r6.Preds⟩:ae),(⟨r6.Op,r6.Name,r6.Args,r6.Names,r6.Pred,r6.Preds⟩:ae)]:List ae) 2 (by kernel_rfl))<|sb (Au 6 ([([121]:ag)]:List ag) ([(⟨r6.Op,r6.Name,r6.Args,r6.Names,r6.Pred,r6.Preds⟩:ae),(⟨r6.Op,r6.Name,r6.Args,r6.Names,r6.Pred,r6.Preds⟩:ae)]:List ae)) (As 6 ([([121]:ag)]:List ag) ([(⟨r6.Op,r6.Name,r6.Args,r6.Names,r6.Pred,r6.Preds⟩:ae),(⟨r6.Op,r6.Name,r6.Args,r6.Names,r6.Pred,r6.Preds⟩:ae)]:List ae))<|sx A6<|sy (bz (⟨6,([]:ag),([(⟨r6.Op,r6.Name,r6.Args,r6.Names,r6.Pred,r6.Preds⟩:ae),(⟨r6.Op,r6.Name,r6.Args,r6.Names,r6.Pred,r6.Preds⟩:ae)]:List ae),([([121]:ag)]:List ag),(⟨0,([]:ag),0,([]:List aa)⟩:aa),([]:List aa)⟩:ae))<|sb (xS) (xP)<|sv (dj (⟨6,([]:ag),([r32,r36]:List ae),([([120]:ag)]:List ag),(⟨0,([]:ag),0,([]:List aa)⟩:aa),([]:List aa)⟩:ae) [])<|sv (dj (⟨6,([]:ag),([(⟨r6.Op,r6.Name,r6.Args,r6.Names,r6.Pred,r6.Preds⟩:ae),(⟨r6.Op,r6.Name,r6.Args,r6.Names,r6.Pred,r6.Preds⟩:ae)]:List ae),([([121]:ag)]:List ag),(⟨0,([]:ag),0,([]:List aa)⟩:aa),([]:List aa)⟩:ae) [])<|sv (bR.mk' (v:=PVal.str) L9 ([([118,49]:ag)]:List ag) 1 (by kernel_rfl))<|bP (pn br37)<|sx y8<|sx (dJ r37.1)<|sv (iS r37.1 [])<|bP (jh br38)<|ra [0,1,3,7,15,31,63,127,255,511,1023,2047,4095,8191,16383,32767,65535,131071,262143,524287,1048575,2097151,4194303,8388607,16777215,33554431,67108863,134217727,268435455,536870911,1073741823,2147483647,4294967295,8589934591,17179869183,34359738367,68719476735,137438953471,274877906943,549755813887,68719476735,68719476735,3367254360063,8796093022207,17592186044415,35184372088831,70368744177663,140737488355327,281474976710655,562949953421311,1125899906842623,2251799813685247,4503599627370495,9007199254740991,18014398509481983]<|r
  rcases aX h with⟨c39,h⟩|⟨c39,h⟩
  ·have p42:=fun{sc F} (r:PS sc F)=>p40<|sg 3 c39<|cw (zb.ln r38)<|r
   rcases aX h with⟨c41,h⟩|⟨c41,h⟩
   ·obtain⟨x43,bx43,h⟩:=aA h
    have p45:=fun{sc F} (r:PS sc F)=>p42<|sg 8 c41<|sv (zb.ia (k:=.i64) bx43)<|sv (jy x43)<|sv (jC x43)<|cw (GN.ln x43.Vars)<|r
    rcases aX h with⟨c44,h⟩|⟨c44,h⟩
    ·obtain⟨x46,bx46,h⟩:=aA h
     obtain⟨x47,bx47,h⟩:=aA h
     have p49:=fun{sc F} (r:PS sc F)=>p45<|sg 16 c44<|sv (zb.ia (k:=.i64) bx46)<|sv (jy x46)<|sv (jC x46)<|sv (GN.ia (k:=.i64) bx47)<|sv (v8 x47)<|sv (AJ x47)<|r
     rcases aX h with⟨c48,h⟩|⟨c48,h⟩
     ·obtain⟨x50,bx50,h⟩:=aA h
      obtain⟨x51,bx51,h⟩:=aA h
      have p53:=fun{sc F} (r:PS sc F)=>p49<|sg 26 c48<|sv (zb.ia (k:=.i64) bx50)<|sv (jy x50)<|sv (jC x50)<|sv (GN.ia (k:=.i64) bx51)<|sv (v8 x51)<|sv (AJ x51)<|r
      rcases aX h with⟨c52,h⟩|⟨c52,h⟩
      ·obtain⟨x54,bx54,h⟩:=aA h
       obtain⟨r55,br55,h⟩:=aA h
       obtain⟨r56,br56,h⟩:=aA h
       obtain⟨r57,br57,h⟩:=aA h
       have p59:=fun{sc F} (r:PS sc F)=>p53<|sg 36 c52<|sv (zb.ia (k:=.i64) bx54)<|sv (mZ x54)<|sv (nh x54)<|sv (ch (⟨1,([]:ag),0,([]:List aa)⟩:aa) [])<|bP (gO br55)<|bP (tK br56)<|bP (uF br57)<|r
       rcases aX h with⟨c58,h⟩|⟨c58,h⟩
       ·obtain⟨r60,br60,h⟩:=aA h
        have p62:=fun{sc F} (r:PS sc F)=>p59<|sg 46 c58<|sv (dj (⟨r3.Op,r3.Name,r3.Args,r3.Names,r3.Pred,r3.Preds⟩:ae) [])<|bP (nm br60)<|r
        rcases aX h with⟨c61,h⟩|⟨c61,h⟩
        ·obtain⟨r63,br63,h⟩:=aA h
         obtain rfl:=lf h
         have z:=p62<|sg 50 c61<|sv (dj (⟨6,([]:ag),([r32,r36]:List ae),([([120]:ag)]:List ag),(⟨0,([]:ag),0,([]:List aa)⟩:aa),([]:List aa)⟩:ae) [])<|bP (nm br63)<|en (aI (rP (.bool (!r63)))<|trivial)
         exact ck QY Tryz.call11 Tryz.func11 (c:=W9) rfl trivial z (by kernel_rfl)
        ·obtain rfl:=lf h
         have z:=p62<|sg 50 c61<|en (aI (rP (.bool false))<|trivial)
         exact ck QY Tryz.call11 Tryz.func11 (c:=W9) rfl trivial z (by kernel_rfl)
       ·obtain rfl:=lf h
        have z:=p59<|sg 46 c58<|en (aI (rP (.bool false))<|trivial)
        exact ck QY Tryz.call11 Tryz.func11 (c:=W9) rfl trivial z (by kernel_rfl)
      ·obtain rfl:=lf h
       have z:=p53<|sg 36 c52<|en (aI (rP (.bool false))<|trivial)
       exact ck QY Tryz.call11 Tryz.func11 (c:=W9) rfl trivial z (by kernel_rfl)
     ·obtain rfl:=lf h
      have z:=p49<|sg 26 c48<|en (aI (rP (.bool false))<|trivial)
      exact ck QY Tryz.call11 Tryz.func11 (c:=W9) rfl trivial z (by kernel_rfl)
    ·obtain rfl:=lf h
     have z:=p45<|sg 16 c44<|en (aI (rP (.bool false))<|trivial)
     exact ck QY Tryz.call11 Tryz.func11 (c:=W9) rfl trivial z (by kernel_rfl)
   ·obtain rfl:=lf h
    have z:=p42<|sg 8 c41<|en (aI (rP (.bool false))<|trivial)
    exact ck QY Tryz.call11 Tryz.func11 (c:=W9) rfl trivial z (by kernel_rfl)
  ·obtain rfl:=lf h
   have z:=p40<|sg 3 c39<|en (aI (rP (.bool false))<|trivial)
   exact ck QY Tryz.call11 Tryz.func11 (c:=W9) rfl trivial z (by kernel_rfl)
section
variable(n:Int)(s:ag)(m:Int)(d:Int)
def zm:Option Int:=
 if(decide (d<0))=true then
  some (IntKind.i64.wrap (0 - d))
 else
  some d
end
section
variable(n:Int)(s:ag)(m:Int)
def qi:Option ((ag×Int)⊕(ag)):=
 if(m !=0)=true then
  (re m 10).bind fun q3=>
  (zm q3).bind fun o5=>
  (Ep ([IntKind.u8.wrap (aO (48+o5))]:List Int)).bind fun s6=>
  (ZA s6 s).bind fun s7=>
  (qu .i64 m 10).bind fun q8=>
  some (.inl (s7,q8))
 else
  some (.inr s)
def qG:Option ag:=loop (fun(zz:ag×Int)=>qi zz.1 zz.2) (s,m)
end
def IQ(n:Int):Option ag:=
 if(n==0)=true then
  some ([48]:ag)
 else
  (qG ([]:ag) n).bind fun o9=>
  if(decide (n<0))=true then
   (ZA ([45]:ag) o9).bind fun s12=>
   some s12
  else
   some o9
section
variable(used:waB)(base:ag)(s:ag)(n:Int)
def cK:Option ((ag×Int)⊕(ag)):=
 (wx used s).bind fun r1=>
 if(decide (r1>=0))=true then
  (IQ n).bind fun r3=>
  (ZA base r3).bind fun s4=>
  some (.inl (s4,aO (n+1)))
 else
  some (.inr s)
def lr:Option ag:=loop (fun(zz:ag×Int)=>cK used base zz.1 zz.2) (s,n)
end
def Fu(used:waB)(base:ag):Option ag:=
 (lr used base base 1).bind fun o5=>
 some o5
abbrev uT:=(ae->Option Bool)
abbrev zk(R:uT):Prop:=∀(t:ae) (r:Bool),R t=some r->CC Pg GE 15 [.agg (af t)] (.bool r) []
def qaP:Code:=Tryz.f15.body.getD .skip
def Z7:List Nat:=[]
section
variable(R131:uT)(t:ae)(i:Int)
def kI:az:=aW 21 [(1,.eptr (af t)),(3,.int .i64 i)] [.dead] []
def kJ(o:Unit⊕(Unit)):Exit:=match o with
 |(.inl _)=>.ret
 |(.inr _)=>.exit 0
def iQ(o:Unit⊕(Unit)):az:=match o with
 |(.inl o)=>aW 21 [(2,.bool false)] [.dead] []
 |(.inr o)=>aW 21 [] [.dead] []
def Al:Option (Int⊕(Unit⊕(Unit))):=
 if(decide (i<(t.Args.length:Int)))=true then
  (cH t.Args i).bind fun x5=>
  (R131 x5).bind fun r6=>
  if(!r6)=true then
   some (.inr (.inl ()))
  else
   some (.inl (aO (i+1)))
 else
  some (.inr (.inr ()))
def xN:Option (Unit⊕(Unit)):=loop (fun(zz:Int)=>Al R131 t zz) i
theorem F4(hR131:zk R131){y:Int⊕(Unit⊕(Unit))}(h:Al R131 t i=some y):
  aQ Pg GE 0 (cA qaP 119) (LQ (fun(zz:Int)=>kI t zz) kJ iQ y) (kI t i):=by
 have p4:=fun{sc F} (r:PS sc F)=>sv (aT t)<|sv (aU t)<|cw (cQ.ln t.Args)<|r
 rcases aX h with⟨c3,h⟩|⟨c3,h⟩
 ·obtain⟨x5,bx5,h⟩:=aA h
  obtain⟨r6,br6,h⟩:=aA h
  have p8:=fun{sc F} (r:PS sc F)=>p4<|sg 0 c3<|sv (aT t)<|sv (aU t)<|sv (cQ.ia (k:=.i64) bx5)<|sv (aZ x5)<|bP (hR131 _ _ br6)<|r
  rcases aX h with⟨c7,h⟩|⟨c7,h⟩
  ·obtain rfl:=lf h
   have z:=p8<|sg 0 c7<|eF (kJ (.inl ())) (iQ (.inl ()))
   exact iW Z7 (by intro hx;cases hx) z (by kernel_rfl)
  ·obtain rfl:=lf h
   exact rF Z7 (p8<|sg 0 c7<|eF .normal (kI t (aO (i+1)))) (by kernel_rfl)
 ·obtain rfl:=lf h
  have z:=p4<|sg 0 c3<|eF (kJ (.inr ())) (iQ (.inr ()))
  exact iW Z7 (by intro hx;cases hx) z (by kernel_rfl)
theorem yF(hR131:zk R131){x:Unit⊕(Unit)}(h:xN R131 t i=some x):
  aQ Pg GE 0 (.loop (cA qaP 119)) (EX (kJ x) (iQ x)) (kI t i):=
 aQ.loop (S:=fun(zz:Int)=>kI t zz) (ex:=kJ) (s:=i) h fun zz y hy=>F4 R131 t zz hR131 hy
end
def uU(R131:uT)(t:ae):Option Bool:=
 if(t.Op==6)=true then
  some false
 else
  (xN R131 t 0).bind fun o9=>match o9 with
  |(.inl o9)=>
   some false
  |(.inr o9)=>
   some true
theorem Ly(R131:uT)(hR131:zk R131){t:ae}{r:Bool}(h:uU R131 t=some r):CC Pg GE 15 [.agg (af t)] (.bool r) []:=by
 have p2:=fun{sc F} (r:PS sc F)=>se (co t)<|sv (aH t)<|sv (aJ t)<|r
 rcases aX h with⟨c1,h⟩|⟨c1,h⟩
 ·obtain rfl:=lf h
  have z:=p2<|sg 0 c1<|en (aI (rP (.bool false))<|trivial)
  exact ck Z7 Tryz.call15 Tryz.func15 (c:=qaP) rfl (aI (av t) trivial) z (by kernel_rfl)
 ·obtain⟨o9,bo9,h⟩:=aA h
  rcases o9 with o9|o9
  ·obtain rfl:=lf h
   have z:=p2<|sg 0 c1<|di (e:=.ret) (s1:=iQ (.inl o9)) (yF R131 t 0 hR131 bo9)<|en (aI (rP (.bool false))<|trivial)
   exact ck Z7 Tryz.call15 Tryz.func15 (c:=qaP) rfl (aI (av t) trivial) z (by kernel_rfl)
  ·obtain rfl:=lf h
   have z:=p2<|sg 0 c1<|di (e:=.exit 0) (s1:=iQ (.inr o9)) (yF R131 t 0 hR131 bo9)<|en (aI (rP (.bool true))<|trivial)
   exact ck Z7 Tryz.call15 Tryz.func15 (c:=qaP) rfl (aI (av t) trivial) z (by kernel_rfl)
def Ak:(ae->Option Bool)->(ae)->Option Bool:=fun(rec:ae->Option Bool) (x:ae)=>uU (fun t=>rec t) x
def F3(t:ae):Option Bool:=oP Ak t
theorem NO{t:ae}{r:Bool}(h:F3 t=some r):CC Pg GE 15 [.agg (af t)] (.bool r) []:=
 cR (F:=Ak) (M:=fun(x:ae) (r:Bool)=>CC Pg GE 15 [.agg (af x)] (.bool r) []) (fun rec hrec x r h=>Ly _ (fun t r h=>hrec t r h) h) h
def qcr:Code:=Tryz.f18.body.getD .skip
def qcc:List Nat:=[]
def Bt(p:aa):Option Bool:=
 if(p.Op==0)=true then
  some true
 else
  if(p.Op==2)=true then
   some (p.N==1)
  else
   some false
theorem NQ{p:aa}{r:Bool}(h:Bt p=some r):CC Pg GE 18 [.agg (ac p)] (.bool r) []:=by
 have p2:=fun{sc F} (r:PS sc F)=>se (cf p)<|sv (bq p)<|sv (bv p)<|r
 rcases aX h with⟨c1,h⟩|⟨c1,h⟩
 ·obtain rfl:=lf h
  have z:=p2<|sg 4 c1<|en (aI (rP (.bool true))<|trivial)
  exact ck qcc Tryz.call18 Tryz.func18 (c:=qcr) rfl (aI (ah p) trivial) z (by kernel_rfl)
 ·have p4:=fun{sc F} (r:PS sc F)=>p2<|sg 4 c1<|sv (bq p)<|sv (bv p)<|r
  rcases aX h with⟨c3,h⟩|⟨c3,h⟩
  ·obtain rfl:=lf h
   have z:=p4<|sg 8 c3<|sv (cO p)<|sv (dh p)<|en (aI (rP (.bool (p.N==1)))<|trivial)
   exact ck qcc Tryz.call18 Tryz.func18 (c:=qcr) rfl (aI (ah p) trivial) z (by kernel_rfl)
  ·obtain rfl:=lf h
   have z:=p4<|sg 8 c3<|en (aI (rP (.bool false))<|trivial)
   exact ck qcc Tryz.call18 Tryz.func18 (c:=qcr) rfl (aI (ah p) trivial) z (by kernel_rfl)
def b4:Code:=Tryz.f4.body.getD .skip
def A4:List Nat:=[]
section
variable(used:waB)(m:aR)(t:ae)
def ut:az:=aW 91 [(2,sl cS used),(3,.eptr (aC m)),(4,.eptr (af t))] [.dead,.dead] []
def cT(o:Bool):az:=aW 91 [(2,sl cS used),(3,.eptr (aC m)),(4,.eptr (af t)),(35,.bool o)] [.dead,.dead] []
def fy:Option Bool:=
 (Bo m).bind fun r1=>
 if(!r1)=true then
  some true
 else
  (Br t).bind fun r4=>
  if(!r4)=true then
   some true
  else
   (IA used).bind fun r7=>
   if(!r7)=true then
    some true
   else
    (F3 t).bind fun r10=>
    if(!r10)=true then
     some true
    else
     (Bp t).bind fun r13=>
     some (r13 !=0)
theorem tH{x:Bool}(h:fy used m t=some x):
  aQ Pg GE 0 (cA b4 12) (EX .normal (cT used m t x)) (ut used m t):=by
 obtain⟨r1,br1,h⟩:=aA h
 have p3:=fun{sc F} (r:PS sc F)=>sv (Dt m)<|bP (NJ br1)<|r
 rcases aX h with⟨c2,h⟩|⟨c2,h⟩
 ·obtain rfl:=lf h
  exact ct A4 (p3<|sg 4 c2<|eF .normal (cT used m t true)) (by kernel_rfl)
 ·obtain⟨r4,br4,h⟩:=aA h
  have p6:=fun{sc F} (r:PS sc F)=>p3<|sg 4 c2<|sv (aZ t)<|bP (NP br4)<|r
  rcases aX h with⟨c5,h⟩|⟨c5,h⟩
  ·obtain rfl:=lf h
   exact ct A4 (p6<|sg 9 c5<|eF .normal (cT used m t true)) (by kernel_rfl)
  ·obtain⟨r7,br7,h⟩:=aA h
   have p9:=fun{sc F} (r:PS sc F)=>p6<|sg 9 c5<|bP (Q4 br7)<|r
   rcases aX h with⟨c8,h⟩|⟨c8,h⟩
   ·obtain rfl:=lf h
    exact ct A4 (p9<|sg 14 c8<|eF .normal (cT used m t true)) (by kernel_rfl)
   ·obtain⟨r10,br10,h⟩:=aA h
    have p12:=fun{sc F} (r:PS sc F)=>p9<|sg 14 c8<|sv (aZ t)<|bP (NO br10)<|r
    rcases aX h with⟨c11,h⟩|⟨c11,h⟩
    ·obtain rfl:=lf h
     exact ct A4 (p12<|sg 19 c11<|eF .normal (cT used m t true)) (by kernel_rfl)
    ·obtain⟨r13,br13,h⟩:=aA h
     obtain rfl:=lf h
     exact ct A4 (p12<|sg 19 c11<|sv (aZ t)<|bP (NK br13)<|eF .normal (cT used m t (r13 !=0))) (by kernel_rfl)
end
section
variable(v:waE)(i:Int)(found:Bool)(k:Int)(m:Int)(m2:ag)(m3:ag)(m4:Int)(m5:ag)(m6:Int)(m7:waA)(m8:Int)(m9:waD)
def uu:az:=aW 91 [(9,sl aD v),(10,.int .i64 i),(11,.bool found),(12,.int .i64 k)] [.dead,.dead,.cells [.int .i64 m,.str m2,.str m3,.int .i64 m4,.str m5,.int .i64 m6,sl ac m7,.int .i64 m8,sl ax m9] []] [((9,0),62)]
def gH(o:Bool):az:=aW 91 [(9,sl aD v),(10,.int .i64 i),(11,.bool o),(12,.int .i64 k)] [.dead,.dead,.cells [.int .i64 m,.str m2,.str m3,.int .i64 m4,.str m5,.int .i64 m6,sl ac m7,.int .i64 m8,sl ax m9] []] [((9,0),62)]
def iP:Option Bool:=
 if found=true then
  some true
 else
  (cH v i).bind fun x29=>
  (cH x29.Hyps k).bind fun x30=>
  (cH v i).bind fun x31=>
  (tf x30 x31.Head).bind fun r32=>
  some r32
theorem tI{x:Bool}(h:iP v i found k=some x):
  aQ Pg GE 0 (cA b4 1040094) (EX .normal (gH v i k m m2 m3 m4 m5 m6 m7 m8 m9 x)) (uu v i found k m m2 m3 m4 m5 m6 m7 m8 m9):=by
 rcases aX h with⟨c28,h⟩|⟨c28,h⟩
 ·obtain rfl:=lf h
  exact ct A4 (ra [0,1,3,3,15,31,63,3,255,511,3,3,3075,7171,15363,32767,65535,131071]<|sg 2 c28<|eF .normal (gH v i k m m2 m3 m4 m5 m6 m7 m8 m9 true)) (by kernel_rfl)
 ·obtain⟨x29,bx29,h⟩:=aA h
  obtain⟨x30,bx30,h⟩:=aA h
  obtain⟨x31,bx31,h⟩:=aA h
  obtain⟨r32,br32,h⟩:=aA h
  obtain rfl:=lf h
  exact ct A4 (ra [0,1,3,3,15,31,63,3,255,511,3,3,3075,7171,15363,32767,65535,131071]<|sg 2 c28<|sv (zb.ia (k:=.i64) bx29)<|sv (yH x29)<|sv (yL x29)<|sv (cd.ia (k:=.i64) bx30)<|sv (aY x30)<|sv (zb.ia (k:=.i64) bx31)<|sv (mZ x31)<|sv (nh x31)<|bP (uF br32)<|eF .normal (gH v i k m m2 m3 m4 m5 m6 m7 m8 m9 r32)) (by kernel_rfl)
end
section
variable(v:waE)(i:Int)(m:Int)(m2:ag)(m3:ag)(m4:Int)(m5:ag)(m6:Int)(m7:waA)(m8:Int)(m9:waD)(found:Bool)(k:Int)
def dD:az:=aW 91 [(9,sl aD v),(10,.int .i64 i),(11,.bool found),(12,.int .i64 k)] [.dead,.dead,.cells [.int .i64 m,.str m2,.str m3,.int .i64 m4,.str m5,.int .i64 m6,sl ac m7,.int .i64 m8,sl ax m9] []] [((9,0),62)]
def gI(o:Bool):az:=aW 91 [(9,sl aD v),(10,.int .i64 i),(11,.bool o)] [.dead,.dead,.cells [.int .i64 m,.str m2,.str m3,.int .i64 m4,.str m5,.int .i64 m6,sl ac m7,.int .i64 m8,sl ax m9] []] [((9,0),62)]
def cV:Option ((Bool×Int)⊕(Bool)):=
 (cH v i).bind fun x25=>
 if(decide (k<(x25.Hyps.length:Int)))=true then
  (iP v i found k).bind fun o33=>
  some (.inl (o33,aO (k+1)))
 else
  some (.inr found)
def fC:Option Bool:=loop (fun(zz:Bool×Int)=>cV v i zz.1 zz.2) (found,k)
theorem sF{y:(Bool×Int)⊕(Bool)}(h:cV v i found k=some y):
  aQ Pg GE 0 (cA b4 260023) (LQ (fun(zz:Bool×Int)=>dD v i m m2 m3 m4 m5 m6 m7 m8 m9 zz.1 zz.2) (fun _=>.exit 2) (gI v i m m2 m3 m4 m5 m6 m7 m8 m9) y) (dD v i m m2 m3 m4 m5 m6 m7 m8 m9 found k):=by
 obtain⟨x25,bx25,h⟩:=aA h
 have p27:=fun{sc F} (r:PS sc F)=>sv (zb.ia (k:=.i64) bx25)<|sv (yH x25)<|sv (yL x25)<|cw (cd.ln x25.Hyps)<|r
 rcases aX h with⟨c26,h⟩|⟨c26,h⟩
 ·obtain⟨o33,bo33,h⟩:=aA h
  obtain rfl:=lf h
  exact rF A4 (p27<|sg 0 c26<|oe 0<|di (tI v i found k m m2 m3 m4 m5 m6 m7 m8 m9 bo33)<|eF .normal (dD v i m m2 m3 m4 m5 m6 m7 m8 m9 o33 (aO (k+1)))) (by kernel_rfl)
 ·obtain rfl:=lf h
  have z:=p27<|sg 0 c26<|eF (.exit 2) (gI v i m m2 m3 m4 m5 m6 m7 m8 m9 found)
  exact iW A4 (by intro hx;cases hx) z (by kernel_rfl)
theorem tJ{x:Bool}(h:fC v i found k=some x):
  aQ Pg GE 0 (.loop (cA b4 260023)) (EX (.exit 2) (gI v i m m2 m3 m4 m5 m6 m7 m8 m9 x)) (dD v i m m2 m3 m4 m5 m6 m7 m8 m9 found k):=
 aQ.loop (S:=fun(zz:Bool×Int)=>dD v i m m2 m3 m4 m5 m6 m7 m8 m9 zz.1 zz.2) (ex:=(fun _=>.exit 2)) (s:=(found,k)) h fun zz y hy=>sF v i m m2 m3 m4 m5 m6 m7 m8 m9 zz.1 zz.2 hy
end
section
variable(v:waE)(m:Int)(m2:ag)(m3:ag)(m4:Int)(m5:ag)(m6:Int)(m7:waA)(m8:Int)(m9:waD)(i:Int)
def dB:az:=aW 91 [(9,sl aD v),(10,.int .i64 i)] [.dead,.dead,.cells [.int .i64 m,.str m2,.str m3,.int .i64 m4,.str m5,.int .i64 m6,sl ac m7,.int .i64 m8,sl ax m9] []] [((9,0),62)]
def dC(o:Unit⊕(Unit)):Exit:=match o with
 |(.inl _)=>.ret
 |(.inr _)=>.exit 0
def cU(o:Unit⊕(Unit)):az:=match o with
 |(.inl o)=>aW 91 [(6,.bool false)] [.dead,.dead,.cells [.int .i64 m,.str m2,.str m3,.int .i64 m4,.str m5,.int .i64 m6,sl ac m7,.int .i64 m8,sl ax m9] []] []
 |(.inr o)=>aW 91 [] [.dead,.dead,.cells [.int .i64 m,.str m2,.str m3,.int .i64 m4,.str m5,.int .i64 m6,sl ac m7,.int .i64 m8,sl ax m9] []] []
def eP:Option (Int⊕(Unit⊕(Unit))):=
 if(decide (i<(v.length:Int)))=true then
  (cH v i).bind fun x23=>
  (Bt x23.Head).bind fun r24=>
  (fC v i r24 0).bind fun o34=>
  if(!o34)=true then
   some (.inr (.inl ()))
  else
   some (.inl (aO (i+1)))
 else
  some (.inr (.inr ()))
def fA:Option (Unit⊕(Unit)):=loop (fun(zz:Int)=>eP v zz) i
theorem sE{y:Int⊕(Unit⊕(Unit))}(h:eP v i=some y):
  aQ Pg GE 0 (cA b4 1015) (LQ (fun(zz:Int)=>dB v m m2 m3 m4 m5 m6 m7 m8 m9 zz) dC (cU m m2 m3 m4 m5 m6 m7 m8 m9) y) (dB v m m2 m3 m4 m5 m6 m7 m8 m9 i):=by
 rcases aX h with⟨c22,h⟩|⟨c22,h⟩
 ·obtain⟨x23,bx23,h⟩:=aA h
  obtain⟨r24,br24,h⟩:=aA h
  obtain⟨o34,bo34,h⟩:=aA h
  have p36:=fun{sc F} (r:PS sc F)=>cw (zb.ln v)<|sg 0 c22<|sv (zb.ia (k:=.i64) bx23)<|sv (mZ x23)<|sv (nh x23)<|bP (NQ br24)<|di (tJ v i m m2 m3 m4 m5 m6 m7 m8 m9 r24 0 bo34)<|r
  rcases aX h with⟨c35,h⟩|⟨c35,h⟩
  ·obtain rfl:=lf h
   have z:=p36<|sg 0 c35<|eF (dC (.inl ())) (cU m m2 m3 m4 m5 m6 m7 m8 m9 (.inl ()))
   exact iW A4 (by intro hx;cases hx) z (by kernel_rfl)
  ·obtain rfl:=lf h
   exact rF A4 (p36<|sg 0 c35<|eF .normal (dB v m m2 m3 m4 m5 m6 m7 m8 m9 (aO (i+1)))) (by kernel_rfl)
 ·obtain rfl:=lf h
  have z:=cw (zb.ln v)<|sg 0 c22<|eF (dC (.inr ())) (cU m m2 m3 m4 m5 m6 m7 m8 m9 (.inr ()))
  exact iW A4 (by intro hx;cases hx) z (by kernel_rfl)
theorem kH{x:Unit⊕(Unit)}(h:fA v i=some x):
  aQ Pg GE 0 (.loop (cA b4 1015)) (EX (dC x) (cU m m2 m3 m4 m5 m6 m7 m8 m9 x)) (dB v m m2 m3 m4 m5 m6 m7 m8 m9 i):=
 aQ.loop (S:=fun(zz:Int)=>dB v m m2 m3 m4 m5 m6 m7 m8 m9 zz) (ex:=dC) (s:=i) h fun zz y hy=>sE v m m2 m3 m4 m5 m6 m7 m8 m9 zz hy
end
def kG(m:aR)(t:ae)(used:waB):Option Bool:=
 (fy used m t).bind fun o14=>
 if o14=true then
  Bq.bind fun r17=>
  some r17
 else
  (ll m t t 0 used).bind fun r18=>
  if(r18.2 !=0)=true then
   some false
  else
   (jx r18.1).bind fun r21=>
   (fA r21 0).bind fun o37=>match o37 with
   |(.inl o37)=>
    some false
   |(.inr o37)=>
    Bq.bind fun r38=>
    some r38
theorem wA{m:aR}{t:ae}{used:waB}{r:Bool}(h:kG m t used=some r):CC Pg GE 4 [.agg (aC m),.agg (af t),sl cS used] (.bool r) []:=by
 obtain⟨o14,bo14,h⟩:=aA h
 have p16:=fun{sc F} (r:PS sc F)=>se (tX m)<|se (co t)<|oe 1<|di (tH used m t bo14)<|r
 rcases aX h with⟨c15,h⟩|⟨c15,h⟩
 ·obtain⟨r17,br17,h⟩:=aA h
  obtain rfl:=lf h
  have z:=p16<|sg 0 c15<|bP (Ed br17)<|en (aI (rP (.bool r17))<|trivial)
  exact ck A4 Tryz.call4 Tryz.func4 (c:=b4) rfl (aI (ij m) (aI (av t) (aI (aq iu used) trivial))) z (by kernel_rfl)
 ·obtain⟨r18,br18,h⟩:=aA h
  have p20:=fun{sc F} (r:PS sc F)=>p16<|sg 0 c15<|sv (Dt m)<|sv (aZ t)<|sv (aZ t)<|bP (pn br18)<|sx y8<|sx (dJ r18.1)<|r
  rcases aX h with⟨c19,h⟩|⟨c19,h⟩
  ·obtain rfl:=lf h
   have z:=p20<|sg 0 c19<|en (aI (rP (.bool false))<|trivial)
   exact ck A4 Tryz.call4 Tryz.func4 (c:=b4) rfl (aI (ij m) (aI (av t) (aI (aq iu used) trivial))) z (by kernel_rfl)
  ·obtain⟨r21,br21,h⟩:=aA h
   obtain⟨o37,bo37,h⟩:=aA h
   rcases o37 with o37|o37
   ·obtain rfl:=lf h
    have z:=p20<|sg 0 c19<|sv (iS r18.1 [])<|bP (jh br21)<|di (e:=.ret) (s1:=cU r18.1.Op r18.1.Name r18.1.Sort_ r18.1.Pred.Op r18.1.Pred.Name r18.1.Pred.N r18.1.Pred.Kids r18.1.Tag r18.1.Kids (.inl o37)) (kH r21 r18.1.Op r18.1.Name r18.1.Sort_ r18.1.Pred.Op r18.1.Pred.Name r18.1.Pred.N r18.1.Pred.Kids r18.1.Tag r18.1.Kids 0 bo37)<|en (aI (rP (.bool false))<|trivial)
    exact ck A4 Tryz.call4 Tryz.func4 (c:=b4) rfl (aI (ij m) (aI (av t) (aI (aq iu used) trivial))) z (by kernel_rfl)
   ·obtain⟨r38,br38,h⟩:=aA h
    obtain rfl:=lf h
    have z:=p20<|sg 0 c19<|sv (iS r18.1 [])<|bP (jh br21)<|di (e:=.exit 0) (s1:=cU r18.1.Op r18.1.Name r18.1.Sort_ r18.1.Pred.Op r18.1.Pred.Name r18.1.Pred.N r18.1.Pred.Kids r18.1.Tag r18.1.Kids (.inr o37)) (kH r21 r18.1.Op r18.1.Name r18.1.Sort_ r18.1.Pred.Op r18.1.Pred.Name r18.1.Pred.N r18.1.Pred.Kids r18.1.Tag r18.1.Kids 0 bo37)<|bP (Ed br38)<|en (aI (rP (.bool r38))<|trivial)
    exact ck A4 Tryz.call4 Tryz.func4 (c:=b4) rfl (aI (ij m) (aI (av t) (aI (aq iu used) trivial))) z (by kernel_rfl)
theorem QH{α β X:Type}(g:α->β)(e:List β->X):∀(l:List α) (i:Nat) (s:List β),pr (fun _ x (s:List β)=>(Sum.inl (s++[g x]):List β⊕X)) e l i s=e (s++l.map g)
 |[],i,s=>by simp[pr]
 |x::l,i,s=>by
  unfold pr
  simp only
  rw[QH g e l (i+1) (s++[g x])]
  simp
theorem P8{α β τ X:Type}(l:List α)(hl:l.length<9223372036854775808)(mk:Int->List β->τ)(body:τ->Option (τ⊕X))(g:α->β)(e:List β->X)
  (hin:∀(i:Nat) (h:i<l.length) s,s.length=i->body (mk i s)=some (.inl (mk (aO ((i:Int)+1)) (s++[g l[i]])))) (hend:∀s,body (mk l.length s)=some (.inr (e s))):loop body (mk 0 [])=some (e (l.map g)):=by
 have:=oT l hl mk body (fun i s=>s.length=i) (fun _ x s=>.inl (s++[g x])) e (fun i h s hs=>⟨hin i h s hs,fun s' hs'=>by cases hs';simp[hs]⟩) (fun s _=>hend s) 0 [] (vaP _) rfl
 rw[QH]at this
 exact this
theorem Wd{α X:Type}(l:List α)(hl:l.length<9223372036854775808)(body:Int->Option (Int⊕X))(e:X)
  (hin:∀(i:Nat) (h:i<l.length),body i=some (.inl (aO ((i:Int)+1)))) (hend:body l.length=some (.inr e)):loop body (0:Int)=some e:=by
 have:=Kr l hl body (fun _=>false) e e (fun i h=>by rw[hin i h];rfl) hend 0 (vaP _)
 simpa using this
end Go.Proofs.YtbaamopmfmpfaaaGreatDoor
