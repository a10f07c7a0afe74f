/- PROVED: a part of the proof. Conditions: none. -/
import Derived.Test.YtbaamopmfmpfaaaGreatDoorPkA15
noncomputable section
namespace Go.Proofs.YtbaamopmfmpfaaaGreatDoor
open Go Go.Proofs.Tryz
set_option linter.unusedVariables false
set_option maxRecDepth 100000
noncomputable def qec:Code:=f41.body.getD .skip
def qaw:List Nat:=[41,48,53,87,90]
section
variable(v:waE)(c:ai)(t20:waB)(t21:Int)(t22:Int)(t34:waB)(t35:Int)(m:waF)(m2:Int)(m3:ag)(m4:Int)(m5:waB)(m6:Int)(m7:Int)(m8:ag)(m9:Int)(m10:waB)(m11:waF)(m13:Int)(t36:Int)(m12:waB)
def fY:aA:=be 91 [(2,sl aX v),(3,.eptr (aw c)),(4,.bptr 1 0),(9,.bptr 3 0),(20,sl ac t20),(21,.int .i64 t21),(22,.int .i64 t22),(34,sl ac t34),(35,.int .i64 t35),(36,.int .i64 t36)] [.dead,.cells [sl bH m,sl ac t34,.int .i64 m2,.str m3,.int .i64 m4,sl ac m5,.int .i64 m6] [],.cells [.int .i64 m7,.str m8,.int .i64 m9,sl ac m10] [],.cells [sl bH m11,sl ac m12,.int .i64 m7,.str m8,.int .i64 m9,sl ac m10,.int .i64 m13] [(1,36)]] [((20,0),36),((2,0),62)]
def mM(o:waB):aA:=be 91 [(2,sl aX v),(3,.eptr (aw c)),(4,.bptr 1 0),(9,.bptr 3 0),(20,sl ac t20),(21,.int .i64 t21),(22,.int .i64 t22)] [.dead,.cells [sl bH m,sl ac t34,.int .i64 m2,.str m3,.int .i64 m4,sl ac m5,.int .i64 m6] [],.cells [.int .i64 m7,.str m8,.int .i64 m9,sl ac m10] [],.cells [sl bH m11,sl ac o,.int .i64 m7,.str m8,.int .i64 m9,sl ac m10,.int .i64 m13] [(1,36)]] [((20,0),36),((2,0),62)]
def ud:Option ((Int×waB)⊕(waB)):=
 if(decide (t36<t35))=true then
  (cz t34 t36).bind fun x8=>
  (lH x8 ([]:List ag) ([]:List aa)).bind fun r9=>
  (app m12 ([r9]:List aa)).bind fun l10=>
  some (.inl (aR (t36+1),l10))
 else
  some (.inr m12)
def xH:Option waB:=loop (fun(zz:Int×waB)=>ud t34 t35 zz.1 zz.2) (t36,m12)
theorem Ci{y:(Int×waB)⊕(waB)}(h:ud t34 t35 t36 m12=some y):aU Pg GE 1000 (cA qec 1810295) (LQ (fun(zz:Int×waB)=>fY v c t20 t21 t22 t34 t35 m m2 m3 m4 m5 m6 m7 m8 m9 m10 m11 m13 zz.1 zz.2) (fun _=>.exit 3) (mM v c t20 t21 t22 t34 m m2 m3 m4 m5 m6 m7 m8 m9 m10 m11 m13) y) (fY v c t20 t21 t22 t34 t35 m m2 m3 m4 m5 m6 m7 m8 m9 m10 m11 m13 t36 m12):=by
 rcases bj h with⟨c7,h⟩|⟨c7,h⟩
 ·obtain⟨x8,bx8,h⟩:=ay h
  obtain⟨r9,br9,h⟩:=ay h
  obtain⟨l10,bl10,h⟩:=ay h
  obtain rfl:=lf h
  have z:=sg 0 c7<|sv (bL.ia (k:=.i64) bx8)<|sv (bh x8)<|sx hO<|sx (cj x8)<|lY [0,1,0,4,12,31,63,127]<|sv (bT x8 [])<|bz (nE br9)<|sv (bL.mk' (v:=dW) cK ([r9]:List aa) 1 (by kernel_rfl))<|sv (bL.ap bl10)<|VP (rfl:bK (sl ac l10)=some [sl ac l10])<|uz 1000 .normal (fY v c t20 t21 t22 t34 t35 m m2 m3 m4 m5 m6 m7 m8 m9 m10 m11 m13 (aR (t36+1)) l10) rfl (dC (aI (up (aj fI v)) (aI (ij (ba c)) (aI (cV rfl) (aI (cV rfl) (aI (up (aj ah t20)) (aI trivial (aI trivial (aI (up (aj ah t34)) (aI trivial (aI trivial trivial))))))))))) (aI trivial (aI (aI (up (aj lT m)) (aI (up (aj ah t34)) (aI trivial (aI trivial (aI trivial (aI (up (aj ah m5)) (aI trivial trivial))))))) (aI (aI trivial (aI trivial (aI trivial (aI (up (aj ah m10)) trivial)))) (aI (aI (up (aj lT m11)) (aI (up (aj ah l10)) (aI trivial (aI trivial (aI trivial (aI (up (aj ah m10)) (aI trivial trivial))))))) trivial))))
  exact df (A:=qaw) mixed z<|by kernel_rfl
 ·obtain rfl:=lf h
  have z:=sg 0 c7<|eF (.exit 3) (mM v c t20 t21 t22 t34 m m2 m3 m4 m5 m6 m7 m8 m9 m10 m11 m13 m12)
  exact f6 qaw (by intro hx;cases hx) z<|by kernel_rfl
theorem Dl{x:waB}(h:xH t34 t35 t36 m12=some x):aU Pg GE 1000 (.loop (cA qec 1810295)) (EX (.exit 3) (mM v c t20 t21 t22 t34 m m2 m3 m4 m5 m6 m7 m8 m9 m10 m11 m13 x)) (fY v c t20 t21 t22 t34 t35 m m2 m3 m4 m5 m6 m7 m8 m9 m10 m11 m13 t36 m12):=
 aU.loop (S:=fun(zz:Int×waB)=>fY v c t20 t21 t22 t34 t35 m m2 m3 m4 m5 m6 m7 m8 m9 m10 m11 m13 zz.1 zz.2) (ex:=(fun _=>.exit 3)) (s:=(t36,m12)) h fun zz y hy=>Ci v c t20 t21 t22 t34 t35 m m2 m3 m4 m5 m6 m7 m8 m9 m10 m11 m13 zz.1 zz.2 hy
end
section
variable(c:ai)(t20:waB)(t21:Int)(m:waF)(m2:waB)(m3:Int)(m4:ag)(m5:Int)(m6:waB)(m7:Int)(v:waE)(t22:Int)
def fX:aA:=be 91 [(2,sl aX v),(3,.eptr (aw c)),(4,.bptr 1 0),(20,sl ac t20),(21,.int .i64 t21),(22,.int .i64 t22)] [.dead,.cells [sl bH m,sl ac m2,.int .i64 m3,.str m4,.int .i64 m5,sl ac m6,.int .i64 m7] []] [((20,0),36),((2,0),62)]
def mL(o:waE):aA:=be 91 [(2,sl aX o)] [.dead,.cells [sl bH m,sl ac m2,.int .i64 m3,.str m4,.int .i64 m5,sl ac m6,.int .i64 m7] []] [((2,0),62)]
def uc:Option ((waE×Int)⊕(waE)):=
 if(decide (t22<t21))=true then
  (cz t20 t22).bind fun x5=>
  (nS m).bind fun r6=>
  (xH m2 (m2.length:Int) 0 ([]:List aa)).bind fun o11=>
  (app v ([(⟨r6,o11,x5,c.Tag⟩:aM)]:List aM)).bind fun l12=>
  some (.inl (l12,aR (t22+1)))
 else
  some (.inr v)
def xG:Option waE:=loop (fun(zz:waE×Int)=>uc c t20 t21 m m2 zz.1 zz.2) (v,t22)
theorem Ch{y:(waE×Int)⊕(waE)}(h:uc c t20 t21 m m2 v t22=some y):aU Pg GE 1000 (cA qec 1767) (LQ (fun(zz:waE×Int)=>fX c t20 t21 m m2 m3 m4 m5 m6 m7 zz.1 zz.2) (fun _=>.exit 1) (mL m m2 m3 m4 m5 m6 m7) y) (fX c t20 t21 m m2 m3 m4 m5 m6 m7 v t22):=by
 rcases bj h with⟨c4,h⟩|⟨c4,h⟩
 ·obtain⟨x5,bx5,h⟩:=ay h
  obtain⟨r6,br6,h⟩:=ay h
  obtain⟨o11,bo11,h⟩:=ay h
  obtain⟨l12,bl12,h⟩:=ay h
  obtain rfl:=lf h
  have z:=sg 0 c4<|sv (bL.ia (k:=.i64) bx5)<|sv (bh x5)<|sx hO<|sx (cj x5)<|lY [0,1,3,0,0,16,63,0,255]<|ss<|bz (PT br6)<|sv (bT x5 [])<|sv (zU c)<|sv (Cu c)<|sb (Lu r6 x5 c.Tag) (Lt r6 x5 c.Tag)<|qb2 (E9 (⟨r6,([]:List aa),x5,c.Tag⟩:aM))<|ss<|cm (bL.ln m2)<|cW (Dl v c t20 t21 t22 m2 (m2.length:Int) m m3 m4 m5 m6 m7 x5.Op x5.Name x5.N x5.Kids r6 c.Tag 0 ([]:List aa) bo11)<|sv (Mt (⟨r6,o11,x5,c.Tag⟩:aM) [])<|sv (N1.mk' (v:=TW) Xr ([(⟨r6,o11,x5,c.Tag⟩:aM)]:List aM) 1 (by kernel_rfl))<|sv (N1.ap bl12)<|uz 1000 .normal (fX c t20 t21 m m2 m3 m4 m5 m6 m7 l12 (aR (t22+1))) rfl (dC (aI (up (aj fI l12)) (aI (ij (ba c)) (aI (cV rfl) (aI (up (aj ah t20)) (aI trivial (aI trivial trivial))))))) (aI trivial (aI (aI (up (aj lT m)) (aI (up (aj ah m2)) (aI trivial (aI trivial (aI trivial (aI (up (aj ah m6)) (aI trivial trivial))))))) trivial))
  exact df (A:=qaw) mixed z<|by kernel_rfl
 ·obtain rfl:=lf h
  have z:=sg 0 c4<|eF (.exit 1) (mL m m2 m3 m4 m5 m6 m7 v)
  exact f6 qaw (by intro hx;cases hx) z<|by kernel_rfl
theorem Dk{x:waE}(h:xG c t20 t21 m m2 v t22=some x):aU Pg GE 1000 (.loop (cA qec 1767)) (EX (.exit 1) (mL m m2 m3 m4 m5 m6 m7 x)) (fX c t20 t21 m m2 m3 m4 m5 m6 m7 v t22):=
 aU.loop (S:=fun(zz:waE×Int)=>fX c t20 t21 m m2 m3 m4 m5 m6 m7 zz.1 zz.2) (ex:=(fun _=>.exit 1)) (s:=(v,t22)) h fun zz y hy=>Ch c t20 t21 m m2 m3 m4 m5 m6 m7 zz.1 zz.2 hy
end
section
variable(v:waE)(c:ai)(m:waF)(m2:waB)(m3:Int)(m4:ag)(m5:Int)(m6:waB)(m7:Int)
def EU:aA:=be 91 [(2,sl aX v),(3,.eptr (aw c)),(4,.bptr 1 0)] [.dead,.cells [sl bH m,sl ac m2,.int .i64 m3,.str m4,.int .i64 m5,sl ac m6,.int .i64 m7] []] [((2,0),62)]
def mK(o:waF):aA:=be 91 [(2,sl aX v),(3,.eptr (aw c)),(4,.bptr 1 0)] [.dead,.cells [sl bH o,sl ac m2,.int .i64 m3,.str m4,.int .i64 m5,sl ac m6,.int .i64 m7] []] [((2,0),62)]
def xF:Option waF:=
 if(!(c.Name==([]:ag)))=true then
  (nS m).bind fun r18=>
  (app r18 ([(⟨c.Name,c.Sort_⟩:cG)]:List cG)).bind fun l19=>
  some l19
 else
  some m
theorem Dj{x:waF}(h:xF c m=some x):aU Pg GE 1000 (cA qec 892) (EX .normal (mK v c m2 m3 m4 m5 m6 m7 x)) (EU v c m m2 m3 m4 m5 m6 m7):=by
 have p17:=fun{sc F} (r:PS sc F)=>sv (tF c)<|sv (v7 c)<|r
 rcases bj h with⟨c16,h⟩|⟨c16,h⟩
 ·obtain⟨r18,br18,h⟩:=ay h
  obtain⟨l19,bl19,h⟩:=ay h
  obtain rfl:=lf h
  exact cd qaw (p17<|sg 0 c16<|lY [0,1,3,0,8,0,32,120,248,511,1023,2047]<|ss<|bz (PT br18)<|sv (tF c)<|sv (v7 c)<|sv (zT c)<|sv (zZ c)<|sv (WI c.Name c.Sort_)<|sv (IG.mk' (v:=qd5) qdq ([(⟨c.Name,c.Sort_⟩:cG)]:List cG) 1 (by kernel_rfl))<|sv (IG.ap bl19)<|VP (rfl:bK (sl bH l19)=some [sl bH l19])<|eF .normal (mK v c m2 m3 m4 m5 m6 m7 l19))<|by kernel_rfl
 ·obtain rfl:=lf h
  exact cd qaw (p17<|sg 0 c16<|eF .normal (mK v c m2 m3 m4 m5 m6 m7 m))<|by kernel_rfl
end
section
variable(v:waE)(c:ai)(m:waF)(m2:waB)(m3:Int)(m4:ag)(m5:Int)(m6:waB)(m7:Int)
def ET:aA:=be 91 [(2,sl aX v),(3,.eptr (aw c)),(4,.bptr 1 0)] [.dead,.cells [sl bH m,sl ac m2,.int .i64 m3,.str m4,.int .i64 m5,sl ac m6,.int .i64 m7] []] [((2,0),62)]
def iW(o:waE⊕(waF×waB)):Exit:=match o with
 |(.inl _)=>.ret
 |(.inr _)=>.normal
def eL(o:waE⊕(waF×waB)):aA:=match o with
 |(.inl o)=>be 91 [(6,sl aX o)] [.dead,.cells [sl bH m,sl ac m2,.int .i64 m3,.str m4,.int .i64 m5,sl ac m6,.int .i64 m7] []] [((6,0),62)]
 |(.inr o)=>be 91 [(2,sl aX v),(3,.eptr (aw c)),(4,.bptr 1 0)] [.dead,.cells [sl bH o.1,sl ac o.2,.int .i64 m3,.str m4,.int .i64 m5,sl ac m6,.int .i64 m7] []] [((2,0),62)]
def xE:Option (waE⊕(waF×waB)):=
 if(c.Op==3)=true then
  (Iw c.Pred).bind fun r3=>
  (xG c r3 (r3.length:Int) m m2 v 0).bind fun o13=>
  some (.inl o13)
 else
  if(c.Op==2)=true then
   (xF c m).bind fun o20=>
   (nS m2).bind fun r21=>
   (Iw c.Pred).bind fun r22=>
   (app r21 r22).bind fun l23=>
   some (.inr (o20,l23))
  else
   some (.inr (m,m2))
theorem sh{x:waE⊕(waF×waB)}(h:xE v c m m2=some x):aU Pg GE 1000 (cA qec 6) (EX (iW x) (eL v c m m2 m3 m4 m5 m6 m7 x)) (ET v c m m2 m3 m4 m5 m6 m7):=by
 have p2:=fun{sc F} (r:PS sc F)=>sv (oY c)<|sv (pf c)<|r
 rcases bj h with⟨c1,h⟩|⟨c1,h⟩
 ·obtain⟨r3,br3,h⟩:=ay h
  obtain⟨o13,bo13,h⟩:=ay h
  obtain rfl:=lf h
  exact cd qaw (p2<|sg 0 c1<|sv (oZ c)<|sv (pg c)<|bz (Hk br3)<|cm (bL.ln r3)<|cW (Dk c r3 (r3.length:Int) m m2 m3 m4 m5 m6 m7 v 0 bo13)<|eF (iW (.inl o13)) (eL v c m m2 m3 m4 m5 m6 m7 (.inl o13)))<|by kernel_rfl
 ·have p15:=fun{sc F} (r:PS sc F)=>p2<|sg 0 c1<|r
  rcases bj h with⟨c14,h⟩|⟨c14,h⟩
  ·obtain⟨o20,bo20,h⟩:=ay h
   obtain⟨r21,br21,h⟩:=ay h
   obtain⟨r22,br22,h⟩:=ay h
   obtain⟨l23,bl23,h⟩:=ay h
   obtain rfl:=lf h
   exact cd qaw (p15<|sg 0 c14<|kr 0<|cW (Dj v c m m2 m3 m4 m5 m6 m7 bo20)<|lY [0,1,3,0,8,31,63,127,255]<|ss<|bz (Yx br21)<|sv (oZ c)<|sv (pg c)<|bz (Hk br22)<|sv (bL.ap bl23)<|VP (rfl:bK (sl ac l23)=some [sl ac l23])<|eF (iW (.inr (o20,l23))) (eL v c m m2 m3 m4 m5 m6 m7 (.inr (o20,l23))))<|by kernel_rfl
  ·obtain rfl:=lf h
   exact cd qaw (p15<|sg 0 c14<|eF (iW (.inr (m,m2))) (eL v c m m2 m3 m4 m5 m6 m7 (.inr (m,m2))))<|by kernel_rfl
end
section
variable(R92:lS)(t79:waD)(t80:Int)(m:waF)(m2:waB)(m3:Int)(m4:ag)(m5:Int)(m6:waB)(m7:Int)(v:waE)(t81:Int)
def fZ:aA:=be 91 [(2,sl aX v),(4,.bptr 1 0),(79,sl aw t79),(80,.int .i64 t80),(81,.int .i64 t81)] [.dead,.cells [sl bH m,sl ac m2,.int .i64 m3,.str m4,.int .i64 m5,sl ac m6,.int .i64 m7] []] [((2,0),62)]
def mN(o:waE):aA:=be 91 [(2,sl aX o)] [.dead,.cells [sl bH m,sl ac m2,.int .i64 m3,.str m4,.int .i64 m5,sl ac m6,.int .i64 m7] []] [((2,0),62)]
def ue:Option ((waE×Int)⊕(waE)):=
 if(decide (t81<t80))=true then
  (cz t79 t81).bind fun x26=>
  (R92 x26 (⟨m,m2,(⟨m3,m4,m5,m6⟩:aa),m7⟩:aM) v).bind fun r27=>
  some (.inl (r27,aR (t81+1)))
 else
  some (.inr v)
def xI:Option waE:=loop (fun(zz:waE×Int)=>ue R92 t79 t80 m m2 m3 m4 m5 m6 m7 zz.1 zz.2) (v,t81)
theorem Cj(hR92:qz R92){y:(waE×Int)⊕(waE)}(h:ue R92 t79 t80 m m2 m3 m4 m5 m6 m7 v t81=some y):aU Pg GE 1000 (cA qec 119) (LQ (fun(zz:waE×Int)=>fZ t79 t80 m m2 m3 m4 m5 m6 m7 zz.1 zz.2) (fun _=>.exit 5) (mN m m2 m3 m4 m5 m6 m7) y) (fZ t79 t80 m m2 m3 m4 m5 m6 m7 v t81):=by
 rcases bj h with⟨c25,h⟩|⟨c25,h⟩
 ·obtain⟨x26,bx26,h⟩:=ay h
  obtain⟨r27,br27,h⟩:=ay h
  obtain rfl:=lf h
  have z:=sg 0 c25<|sv (mX.ia (k:=.i64) bx26)<|sv (iZ x26)<|sx td<|sx (cF x26)<|sv (eM x26 [])<|sv (Mt (⟨m,m2,(⟨m3,m4,m5,m6⟩:aa),m7⟩:aM) [])<|si (.cg ⟨[],[.agg (aw x26),.agg (aX (⟨m,m2,(⟨m3,m4,m5,m6⟩:aa),m7⟩:aM)),sl aX v],[⟨2,87,0,62⟩],[],[],[],[],sl aX r27,sl aX r27,[(0,62)]⟩) (hR92 _ _ _ _ br27)<|sf (aI (xR [] (.agg (aw x26)) (ba x26)) (aI (xR [] (.agg (aX (⟨m,m2,(⟨m3,m4,m5,m6⟩:aa),m7⟩:aM))) (fI (⟨m,m2,(⟨m3,m4,m5,m6⟩:aa),m7⟩:aM))) (aI (xR [] (sl aX v) (aj fI v)) trivial)))<|sf trivial<|sf trivial<|sf (xR [] (sl aX r27) (aj fI r27))<|uz 1000 .normal (fZ t79 t80 m m2 m3 m4 m5 m6 m7 r27 (aR (t81+1))) rfl (dC (aI (up (aj fI r27)) (aI (cV rfl) (aI (up (aj ba t79)) (aI trivial (aI trivial trivial)))))) (aI trivial (aI (aI (up (aj lT m)) (aI (up (aj ah m2)) (aI trivial (aI trivial (aI trivial (aI (up (aj ah m6)) (aI trivial trivial))))))) trivial))
  exact df (A:=qaw) mixed z<|by kernel_rfl
 ·obtain rfl:=lf h
  have z:=sg 0 c25<|eF (.exit 5) (mN m m2 m3 m4 m5 m6 m7 v)
  exact f6 qaw (by intro hx;cases hx) z<|by kernel_rfl
theorem Dm(hR92:qz R92){x:waE}(h:xI R92 t79 t80 m m2 m3 m4 m5 m6 m7 v t81=some x):aU Pg GE 1000 (.loop (cA qec 119)) (EX (.exit 5) (mN m m2 m3 m4 m5 m6 m7 x)) (fZ t79 t80 m m2 m3 m4 m5 m6 m7 v t81):=
 aU.loop (S:=fun(zz:waE×Int)=>fZ t79 t80 m m2 m3 m4 m5 m6 m7 zz.1 zz.2) (ex:=(fun _=>.exit 5)) (s:=(v,t81)) h fun zz y hy=>Cj R92 t79 t80 m m2 m3 m4 m5 m6 m7 zz.1 zz.2 hR92 hy
end
def yQ(R92:lS)(c:ai)(above:aM)(a:waE):Option waE:=
 (xE a c above.Vars above.Hyps).bind fun o24=>match o24 with
 |(.inl o24)=>
  some o24
 |(.inr o24)=>
  (xI R92 c.Kids (c.Kids.length:Int) o24.1 o24.2 above.Head.Op above.Head.Name above.Head.N above.Head.Kids above.Tag a 0).bind fun o28=>
  some o28
theorem GB(R92:lS)(hR92:qz R92){c:ai}{above:aM}{a:waE}{r:waE}(h:yQ R92 c above a=some r):C Pg GE 41 [.agg (aw c),.agg (aX above),sl aX a] [((2,0),62)] [] (sl aX r) [(0,62)] []:=by
 obtain⟨o24,bo24,h⟩:=ay h
 rcases o24 with o24|o24
 ·obtain rfl:=lf h
  have z:=se (rz c)<|sx (E9 above)<|kr 0<|cW (e:=.ret) (s1:=eL a c above.Vars above.Hyps above.Head.Op above.Head.Name above.Head.N above.Head.Kids above.Tag (.inl o24)) (sh a c above.Vars above.Hyps above.Head.Op above.Head.Name above.Head.N above.Head.Kids above.Tag bo24)<|en (aI (rP (sl aX o24))<|aI (up (n:=0) (aj fI o24))<|aI (rL [])<|trivial)
  exact C.evGp (A:=qaw) mixed (m:=1000) (c:=qec) rfl call41 func41 rfl z<|by kernel_rfl
 ·obtain⟨o28,bo28,h⟩:=ay h
  obtain rfl:=lf h
  have z:=se (rz c)<|sx (E9 above)<|kr 0<|cW (e:=.normal) (s1:=eL a c above.Vars above.Hyps above.Head.Op above.Head.Name above.Head.N above.Head.Kids above.Tag (.inr o24)) (sh a c above.Vars above.Hyps above.Head.Op above.Head.Name above.Head.N above.Head.Kids above.Tag bo24)<|sv (jh c)<|sv (jj c)<|cm (mX.ln c.Kids)<|cW (Dm R92 c.Kids (c.Kids.length:Int) o24.1 o24.2 above.Head.Op above.Head.Name above.Head.N above.Head.Kids above.Tag a 0 hR92 bo28)<|en (aI (rP (sl aX o28))<|aI (up (n:=0) (aj fI o28))<|aI (rL [])<|trivial)
  exact C.evGp (A:=qaw) mixed (m:=1000) (c:=qec) rfl call41 func41 rfl z<|by kernel_rfl
def yR:((ai×aM×waE)->Option waE)->(ai×aM×waE)->Option waE:=fun(rec:(ai×aM×waE)->Option waE) (x:ai×aM×waE)=>yQ (fun c above a=>rec (c,above,a)) x.1 x.2.1 x.2.2
def CX(c:ai)(above:aM)(a:waE):Option waE:=kJ yR (c,above,a)
theorem H7{c:ai}{above:aM}{a:waE}{r:waE}(h:CX c above a=some r):C Pg GE 41 [.agg (aw c),.agg (aX above),sl aX a] [((2,0),62)] [] (sl aX r) [(0,62)] []:=
 cy (F:=yR) (M:=fun(x:ai×aM×waE) (r:waE)=>C Pg GE 41 [.agg (aw x.1),.agg (aX x.2.1),sl aX x.2.2] [((2,0),62)] [] (sl aX r) [(0,62)] []) (fun rec hrec x r h=>GB _ (fun c above a r h=>hrec (c,above,a) r h) h) h
noncomputable def qlo:Code:=f17.body.getD .skip
def qk8:List Nat:=[]
def uY(c:ai):Option waE:=
 (CX c (⟨([]:List cG),([]:List aa),(⟨0,([]:ag),0,([]:List aa)⟩:aa),0⟩:aM) ([]:List aM)).bind fun r1=>
 some r1
theorem xD{c:ai}{r:waE}(h:uY c=some r):CC Pg GE 17 [.agg (aw c)] (sl aX r) [(0,62)]:=by
 obtain⟨r1,br1,h⟩:=ay h
 obtain rfl:=lf h
 have z:=se (rz c)<|sv (iZ c)<|sb (UN) (UL)<|si (.cg ⟨[],[.agg (aw c),.agg (aX (⟨([]:List cG),([]:List aa),(⟨0,([]:ag),0,([]:List aa)⟩:aa),0⟩:aM)),sl aX ([]:List aM)],[⟨2,1000000,0,62⟩],[],[],[],[],sl aX r1,sl aX r1,[(0,62)]⟩) (H7 br1)<|sf (aI (xR [] (.agg (aw c)) (ba c)) (aI (xR [] (.agg (aX (⟨([]:List cG),([]:List aa),(⟨0,([]:ag),0,([]:List aa)⟩:aa),0⟩:aM))) (fI (⟨([]:List cG),([]:List aa),(⟨0,([]:ag),0,([]:List aa)⟩:aa),0⟩:aM))) (aI (xR [] (sl aX ([]:List aM)) (aj fI ([]:List aM))) trivial)))<|sf trivial<|sf trivial<|sf (xR [] (sl aX r1) (aj fI r1))<|en (aI (rP (sl aX r1))<|(aj fI r1))
 exact bN qk8 call17 func17 (c:=qlo) rfl (aI (ba c) trivial) z<|by kernel_rfl
noncomputable def qea:Code:=f11.body.getD .skip
def X5:List Nat:=[]
section
variable(e:Int)(v:waE)(f:Int)(m:waB)(m2:Int)(m3:ag)(m4:waC)(m5:waA)(m6:Int)(m7:ag)(m8:Int)(m9:waB)(m10:waB)(m11:Int)(m12:ag)(m13:waC)(m14:waA)(m15:Int)(m16:ag)(m17:Int)(m18:waB)(m19:waB)(m20:Int)(m21:ag)(m22:ag)(m23:Int)(m24:ag)(m25:Int)(m26:waB)(m27:Int)(m28:waD)(m29:Int)(m30:ag)(m31:ag)(m32:Int)(m33:ag)(m34:Int)(m35:waB)(m36:Int)(m37:waD)
def PA:aA:=be 165 [(2,.bptr 1 0),(3,.bptr 2 0),(4,.bptr 3 0),(6,.int .i64 e),(7,sl aX v),(9,.int .i64 f)] [.cells [.int .i64 1,.str ([]:ag),.int .i64 1,sl ac m] [(3,36)],.cells [.int .i64 1,.str ([]:ag),.int .i64 0,sl ac m] [(3,36)],.cells [.int .i64 m2,.str m3,sl af m4,sl cS m5,.int .i64 m6,.str m7,.int .i64 m8,sl ac m9,sl ac m10] [(2,38),(3,9),(8,36)],.cells [.int .i64 m11,.str m12,sl af m13,sl cS m14,.int .i64 m15,.str m16,.int .i64 m17,sl ac m18,sl ac m19] [(2,38),(3,9),(8,36)],.cells [.int .i64 m20,.str m21,.str m22,.int .i64 m23,.str m24,.int .i64 m25,sl ac m26,.int .i64 m27,sl aw m28] [],.cells [.int .i64 m29,.str m30,.str m31,.int .i64 m32,.str m33,.int .i64 m34,sl ac m35,.int .i64 m36,sl aw m37] []] [((7,0),62)]
def fU(o:Bool):aA:=be 165 [(2,.bptr 1 0),(3,.bptr 2 0),(4,.bptr 3 0),(86,.bool o)] [.cells [.int .i64 1,.str ([]:ag),.int .i64 1,sl ac m] [(3,36)],.cells [.int .i64 1,.str ([]:ag),.int .i64 0,sl ac m] [(3,36)],.cells [.int .i64 m2,.str m3,sl af m4,sl cS m5,.int .i64 m6,.str m7,.int .i64 m8,sl ac m9,sl ac m10] [(2,38),(3,9),(8,36)],.cells [.int .i64 m11,.str m12,sl af m13,sl cS m14,.int .i64 m15,.str m16,.int .i64 m17,sl ac m18,sl ac m19] [(2,38),(3,9),(8,36)],.cells [.int .i64 m20,.str m21,.str m22,.int .i64 m23,.str m24,.int .i64 m25,sl ac m26,.int .i64 m27,sl aw m28] [],.cells [.int .i64 m29,.str m30,.str m31,.int .i64 m32,.str m33,.int .i64 m34,sl ac m35,.int .i64 m36,sl aw m37] []] []
def Js:Option Bool:=
 if(e !=0)=true then
  some true
 else
  if(f !=12)=true then
   some true
  else
   if((v.length:Int)!=1)=true then
    some true
   else
    (cz v 0).bind fun x15=>
    if(x15.Tag !=4)=true then
     some true
    else
     (cz v 0).bind fun x18=>
     if((x18.Vars.length:Int)!=1)=true then
      some true
     else
      (cz v 0).bind fun x21=>
      (cz x21.Vars 0).bind fun x22=>
      if(!(x22.Name==([118,49]:ag)))=true then
       some true
      else
       (cz v 0).bind fun x25=>
       (kg ([118,49]:ag)).bind fun r26=>
       (FU 12 (⟨1,([]:ag),0,m⟩:aa) r26).bind fun r27=>
       (qK x25.Head r27).bind fun r28=>
       some (!r28)
theorem NK{x:Bool}(h:Js e v f m=some x):aU Pg GE 0 (cA qea 508) (EX .normal (fU m m2 m3 m4 m5 m6 m7 m8 m9 m10 m11 m12 m13 m14 m15 m16 m17 m18 m19 m20 m21 m22 m23 m24 m25 m26 m27 m28 m29 m30 m31 m32 m33 m34 m35 m36 m37 x)) (PA e v f m m2 m3 m4 m5 m6 m7 m8 m9 m10 m11 m12 m13 m14 m15 m16 m17 m18 m19 m20 m21 m22 m23 m24 m25 m26 m27 m28 m29 m30 m31 m32 m33 m34 m35 m36 m37):=by
 rcases bj h with⟨c10,h⟩|⟨c10,h⟩
 ·obtain rfl:=lf h
  exact cd X5 (lY [0,1,3,7,15,31,63,127,255,511,1023,2047,4095,8191,16383,32767,65535,131071,262143,524287,1048575,2097151,4194303,8388607,16777215,33554431,67108863,134217727,268435455,536870911,1073741823,2147483647,4294967295,8589934591,17179869183,34359738367,68719476735,137438953471,274877906943,549755813887,1099511627775,137438953471,137438953471,6734508720127,17592186044415,35184372088831,70368744177663]<|sg 3 c10<|eF .normal (fU m m2 m3 m4 m5 m6 m7 m8 m9 m10 m11 m12 m13 m14 m15 m16 m17 m18 m19 m20 m21 m22 m23 m24 m25 m26 m27 m28 m29 m30 m31 m32 m33 m34 m35 m36 m37 true))<|by kernel_rfl
 ·have p12:=fun{sc F} (r:PS sc F)=>lY [0,1,3,7,15,31,63,127,255,511,1023,2047,4095,8191,16383,32767,65535,131071,262143,524287,1048575,2097151,4194303,8388607,16777215,33554431,67108863,134217727,268435455,536870911,1073741823,2147483647,4294967295,8589934591,17179869183,34359738367,68719476735,137438953471,274877906943,549755813887,1099511627775,137438953471,137438953471,6734508720127,17592186044415,35184372088831,70368744177663]<|sg 3 c10<|r
  rcases bj h with⟨c11,h⟩|⟨c11,h⟩
  ·obtain rfl:=lf h
   exact cd X5 (p12<|sg 7 c11<|eF .normal (fU m m2 m3 m4 m5 m6 m7 m8 m9 m10 m11 m12 m13 m14 m15 m16 m17 m18 m19 m20 m21 m22 m23 m24 m25 m26 m27 m28 m29 m30 m31 m32 m33 m34 m35 m36 m37 true))<|by kernel_rfl
  ·have p14:=fun{sc F} (r:PS sc F)=>p12<|sg 7 c11<|cm (N1.ln v)<|r
   rcases bj h with⟨c13,h⟩|⟨c13,h⟩
   ·obtain rfl:=lf h
    exact cd X5 (p14<|sg 12 c13<|eF .normal (fU m m2 m3 m4 m5 m6 m7 m8 m9 m10 m11 m12 m13 m14 m15 m16 m17 m18 m19 m20 m21 m22 m23 m24 m25 m26 m27 m28 m29 m30 m31 m32 m33 m34 m35 m36 m37 true))<|by kernel_rfl
   ·obtain⟨x15,bx15,h⟩:=ay h
    have p17:=fun{sc F} (r:PS sc F)=>p14<|sg 12 c13<|sv (N1.ia (k:=.i64) bx15)<|sv (NP x15)<|sv (Qt x15)<|r
    rcases bj h with⟨c16,h⟩|⟨c16,h⟩
    ·obtain rfl:=lf h
     exact cd X5 (p17<|sg 19 c16<|eF .normal (fU m m2 m3 m4 m5 m6 m7 m8 m9 m10 m11 m12 m13 m14 m15 m16 m17 m18 m19 m20 m21 m22 m23 m24 m25 m26 m27 m28 m29 m30 m31 m32 m33 m34 m35 m36 m37 true))<|by kernel_rfl
    ·obtain⟨x18,bx18,h⟩:=ay h
     have p20:=fun{sc F} (r:PS sc F)=>p17<|sg 19 c16<|sv (N1.ia (k:=.i64) bx18)<|sv (kH x18)<|sv (kM x18)<|cm (IG.ln x18.Vars)<|r
     rcases bj h with⟨c19,h⟩|⟨c19,h⟩
     ·obtain rfl:=lf h
      exact cd X5 (p20<|sg 27 c19<|eF .normal (fU m m2 m3 m4 m5 m6 m7 m8 m9 m10 m11 m12 m13 m14 m15 m16 m17 m18 m19 m20 m21 m22 m23 m24 m25 m26 m27 m28 m29 m30 m31 m32 m33 m34 m35 m36 m37 true))<|by kernel_rfl
     ·obtain⟨x21,bx21,h⟩:=ay h
      obtain⟨x22,bx22,h⟩:=ay h
      have p24:=fun{sc F} (r:PS sc F)=>p20<|sg 27 c19<|sv (N1.ia (k:=.i64) bx21)<|sv (kH x21)<|sv (kM x21)<|sv (IG.ia (k:=.i64) bx22)<|sv (zW x22)<|sv (E1 x22)<|r
      rcases bj h with⟨c23,h⟩|⟨c23,h⟩
      ·obtain rfl:=lf h
       exact cd X5 (p24<|sg 37 c23<|eF .normal (fU m m2 m3 m4 m5 m6 m7 m8 m9 m10 m11 m12 m13 m14 m15 m16 m17 m18 m19 m20 m21 m22 m23 m24 m25 m26 m27 m28 m29 m30 m31 m32 m33 m34 m35 m36 m37 true))<|by kernel_rfl
      ·obtain⟨x25,bx25,h⟩:=ay h
       obtain⟨r26,br26,h⟩:=ay h
       obtain⟨r27,br27,h⟩:=ay h
       obtain⟨r28,br28,h⟩:=ay h
       obtain rfl:=lf h
       exact cd X5 (p24<|sg 37 c23<|sv (N1.ia (k:=.i64) bx25)<|sv (CY x25)<|sv (C2 x25)<|sv (bT (⟨1,([]:ag),0,m⟩:aa) [])<|bz (iH br26)<|bz (xu br27)<|bz (tV br28)<|eF .normal (fU m m2 m3 m4 m5 m6 m7 m8 m9 m10 m11 m12 m13 m14 m15 m16 m17 m18 m19 m20 m21 m22 m23 m24 m25 m26 m27 m28 m29 m30 m31 m32 m33 m34 m35 m36 m37 (!r28)))<|by kernel_rfl
end
def FQ:Option Bool:=
 (kg ([118]:ag)).bind fun r1=>
 (FU 10 r1 (⟨1,([]:ag),1,([]:List aa)⟩:aa)).bind fun r2=>
 (tZ r2).bind fun r3=>
 (kg ([118]:ag)).bind fun r4=>
 (FU 12 (⟨1,([]:ag),0,([]:List aa)⟩:aa) r4).bind fun r5=>
 (tZ r5).bind fun r6=>
 (nc (⟨([]:List d8),([]:List rV),([]:List eA),([]:List gP),([]:List vD),([]:List sd)⟩:aH) r3 r6 4 ([]:List ag)).bind fun r7=>
 (uY r7.1).bind fun r8=>
 (nc (⟨([]:List d8),([]:List rV),([]:List eA),([]:List gP),([]:List vD),([]:List sd)⟩:aH) (⟨r3.Op,r3.Name,r3.Args,r3.Names,r3.Pred,r3.Preds⟩:ae) (⟨2,([]:ag),([]:List ae),([]:List ag),(⟨0,([]:ag),0,([]:List aa)⟩:aa),([]:List aa)⟩:ae) 0 ([]:List ag)).bind fun r9=>
 (Js r7.2 r8 r9.2 ([]:List aa)).bind fun o29=>
 if o29=true then
  some false
 else
  (tZ (⟨0,([]:ag),0,([]:List aa)⟩:aa)).bind fun r32=>
  (kg ([120]:ag)).bind fun r33=>
  (kg ([118]:ag)).bind fun r34=>
  (FU 12 r33 r34).bind fun r35=>
  (tZ r35).bind fun r36=>
  (nc (⟨([]:List d8),([]:List rV),([]:List eA),([]:List gP),([]:List vD),([]:List sd)⟩:aH) (⟨6,([]:ag),([r32,r36]:List ae),([([120]:ag)]:List ag),(⟨0,([]:ag),0,([]:List aa)⟩:aa),([]:List aa)⟩:ae) (⟨6,([]:ag),([(⟨r6.Op,r6.Name,r6.Args,r6.Names,r6.Pred,r6.Preds⟩:ae),(⟨r6.Op,r6.Name,r6.Args,r6.Names,r6.Pred,r6.Preds⟩:ae)]:List ae),([([121]:ag)]:List ag),(⟨0,([]:ag),0,([]:List aa)⟩:aa),([]:List aa)⟩:ae) 0 ([([118,49]:ag)]:List ag)).bind fun r37=>
  (uY r37.1).bind fun r38=>
  if (r37.2 == 0) = true then
   if ((r38.length:Int) == 1) = true then
    (cz r38 0).bind fun x43=>
    if ((x43.Vars.length:Int) == 2) = true then
     (cz r38 0).bind fun x46=>
     (cz x46.Vars 0).bind fun x47=>
     if (x47.Name == ([121]:ag)) = true then
      (cz r38 0).bind fun x50=>
      (cz x50.Vars 1).bind fun x51=>
      if (x51.Name == ([118,49,49]:ag)) = true then
       (cz r38 0).bind fun x54=>
       (kg ([118,49,49]:ag)).bind fun r55=>
       (FU 12 (⟨1,([]:ag),0,([]:List aa)⟩:aa) r55).bind fun r56=>
       (qK x54.Head r56).bind fun r57=>
       if r57=true then
        (kv (⟨r3.Op,r3.Name,r3.Args,r3.Names,r3.Pred,r3.Preds⟩:ae)).bind fun r60=>
        if r60=true then
         (kv (⟨6,([]:ag),([r32,r36]:List ae),([([120]:ag)]:List ag),(⟨0,([]:ag),0,([]:List aa)⟩:aa),([]:List aa)⟩:ae)).bind fun r63=>
         some (!r63)
        else
         some false
       else
        some false
      else
       some false
     else
      some false
    else
     some false
   else
    some false
  else
   some false
theorem Jt{r:Bool}(h:FQ=some r):CC Pg GE 11 [] (.bool r) []:=by
 obtain⟨r1,br1,h⟩:=ay h
 obtain⟨r2,br2,h⟩:=ay h
 obtain⟨r3,br3,h⟩:=ay h
 obtain⟨r4,br4,h⟩:=ay h
 obtain⟨r5,br5,h⟩:=ay h
 obtain⟨r6,br6,h⟩:=ay h
 obtain⟨r7,br7,h⟩:=ay h
 obtain⟨r8,br8,h⟩:=ay h
 obtain⟨r9,br9,h⟩:=ay h
 obtain⟨o29,bo29,h⟩:=ay h
 have p31:=fun{sc F} (r:PS sc F)=>sb (ri 1 1) (rh 1 1)<|sb (PL 1) (PI 1)<|sx hO<|sx hO<|sy (aJ (⟨1,([]:ag),1,([]:List aa)⟩:aa))<|sy (aJ (⟨1,([]:ag),0,([]:List aa)⟩:aa))<|lY [0,0,3,7,0,15,63,127,0,0,1023,2047]<|bz (iH br1)<|sv (bT (⟨1,([]:ag),1,([]:List aa)⟩:aa) [])<|bz (xu br2)<|bz (rf br3)<|sv (bT (⟨1,([]:ag),0,([]:List aa)⟩:aa) [])<|bz (iH br4)<|bz (xu br5)<|bz (rf br6)<|qb2 (ey r3)<|qb2 (ey r6)<|sb (Ce) (Cc)<|sv (cU r3 [])<|sv (cU r6 [])<|bz (rU br7)<|sx td<|sx (cF r7.1)<|sv (eM r7.1 [])<|bz (xD br8)<|sb (Ce) (Cc)<|sv (cU (⟨r3.Op,r3.Name,r3.Args,r3.Names,r3.Pred,r3.Preds⟩:ae) [])<|sb (Yr 2) (Yp 2)<|bz (rU br9)<|sx td<|sx (cF r9.1)<|kr 1<|cW (NK r7.2 r8 r9.2 ([]:List aa) r3.Op r3.Name r3.Args r3.Names r3.Pred.Op r3.Pred.Name r3.Pred.N r3.Pred.Kids r3.Preds r6.Op r6.Name r6.Args r6.Names r6.Pred.Op r6.Pred.Name r6.Pred.N r6.Pred.Kids r6.Preds r7.1.Op r7.1.Name r7.1.Sort_ r7.1.Pred.Op r7.1.Pred.Name r7.1.Pred.N r7.1.Pred.Kids r7.1.Tag r7.1.Kids r9.1.Op r9.1.Name r9.1.Sort_ r9.1.Pred.Op r9.1.Pred.Name r9.1.Pred.N r9.1.Pred.Kids r9.1.Tag r9.1.Kids bo29)<|r
 rcases bj h with⟨c30,h⟩|⟨c30,h⟩
 ·obtain rfl:=lf h
  have z:=p31<|sg 0 c30<|en (aI (rP (.bool false))<|trivial)
  exact bN X5 call11 func11 (c:=qea) rfl trivial z<|by kernel_rfl
 ·obtain ⟨r32,br32,h⟩:=ay h
  obtain⟨r33,br33,h⟩:=ay h
  obtain⟨r34,br34,h⟩:=ay h
  obtain⟨r35,br35,h⟩:=ay h
  obtain⟨r36,br36,h⟩:=ay h
  obtain⟨r37,br37,h⟩:=ay h
  obtain⟨r38,br38,h⟩:=ay h
  have p40:=fun{sc F} (r:PS sc F)=>p31<|sg 0 c30<|sv (bp.mk' (v:=PVal.str) E8 ([([120]:ag)]:List ag) 1 (by kernel_rfl))<|sb (sP) (sO)<|bz (rf br32)<|bz (iH br33)<|bz (iH br34)<|bz (xu br35)<|bz (rf br36)<|sv (ck.mk' (v:=jC) eO ([r32,r36]:List ae) 2 (by kernel_rfl))<|sb (EL 6 ([([120]:ag)]:List ag) ([r32,r36]:List ae)) (EJ 6 ([([120]:ag)]:List ag) ([r32,r36]:List ae))<|sx tc<|sy (bu (⟨6,([]:ag),([r32,r36]:List ae),([([120]:ag)]:List ag),(⟨0,([]:ag),0,([]:List aa)⟩:aa),([]:List aa)⟩:ae))<|sv (bp.mk' (v:=PVal.str) E8 ([([121]:ag)]:List ag) 1 (by kernel_rfl))<|sv (cU (⟨r6.Op,r6.Name,r6.Args,r6.Names,r6.Pred,r6.Preds⟩:ae) [])<|sv (cU (⟨r6.Op,r6.Name,r6.Args,r6.Names,r6.Pred,r6.Preds⟩:ae) [])<|sv (ck.mk' (v:=jC) eO ([(⟨r6.Op,r6.Name,r6.Args,r6.Names,r6.Pred,r6.Preds⟩:ae),(⟨r6.Op,r6.Name,r6.Args,r6.Names,r6.Pred,r6.Preds⟩:ae)]:List ae) 2 (by kernel_rfl))<|sb (EL 6 ([([121]:ag)]:List ag) ([(⟨r6.Op,r6.Name,r6.Args,r6.Names,r6.Pred,r6.Preds⟩:ae),(⟨r6.Op,r6.Name,r6.Args,r6.Names,r6.Pred,r6.Preds⟩:ae)]:List ae)) (EJ 6 ([([121]:ag)]:List ag) ([(⟨r6.Op,r6.Name,r6.Args,r6.Names,r6.Pred,r6.Preds⟩:ae),(⟨r6.Op,r6.Name,r6.Args,r6.Names,r6.Pred,r6.Preds⟩:ae)]:List ae))<|sx tc<|sy (bu (⟨6,([]:ag),([(⟨r6.Op,r6.Name,r6.Args,r6.Names,r6.Pred,r6.Preds⟩:ae),(⟨r6.Op,r6.Name,r6.Args,r6.Names,r6.Pred,r6.Preds⟩:ae)]:List ae),([([121]:ag)]:List ag),(⟨0,([]:ag),0,([]:List aa)⟩:aa),([]:List aa)⟩:ae))<|sb (Ce) (Cc)<|sv (cU (⟨6,([]:ag),([r32,r36]:List ae),([([120]:ag)]:List ag),(⟨0,([]:ag),0,([]:List aa)⟩:aa),([]:List aa)⟩:ae) [])<|sv (cU (⟨6,([]:ag),([(⟨r6.Op,r6.Name,r6.Args,r6.Names,r6.Pred,r6.Preds⟩:ae),(⟨r6.Op,r6.Name,r6.Args,r6.Names,r6.Pred,r6.Preds⟩:ae)]:List ae),([([121]:ag)]:List ag),(⟨0,([]:ag),0,([]:List aa)⟩:aa),([]:List aa)⟩:ae) [])<|sv (bp.mk' (v:=PVal.str) E8 ([([118,49]:ag)]:List ag) 1 (by kernel_rfl))<|bz (rU br37)<|sx td<|sx (cF r37.1)<|sv (eM r37.1 [])<|bz (xD br38)<|lY [0,1,3,7,15,31,63,127,255,511,1023,2047,4095,8191,16383,32767,65535,131071,262143,524287,1048575,2097151,4194303,8388607,16777215,33554431,67108863,134217727,268435455,536870911,1073741823,2147483647,4294967295,8589934591,17179869183,34359738367,68719476735,137438953471,274877906943,549755813887,68719476735,68719476735,3367254360063,8796093022207,17592186044415,35184372088831,70368744177663,140737488355327,281474976710655,562949953421311,1125899906842623,2251799813685247,4503599627370495,9007199254740991,18014398509481983]<|r
  rcases bj h with⟨c39,h⟩|⟨c39,h⟩
  ·have p42:=fun{sc F} (r:PS sc F)=>p40<|sg 3 c39<|cm (N1.ln r38)<|r
   rcases bj h with⟨c41,h⟩|⟨c41,h⟩
   ·obtain⟨x43,bx43,h⟩:=ay h
    have p45:=fun{sc F} (r:PS sc F)=>p42<|sg 8 c41<|sv (N1.ia (k:=.i64) bx43)<|sv (kH x43)<|sv (kM x43)<|cm (IG.ln x43.Vars)<|r
    rcases bj h with⟨c44,h⟩|⟨c44,h⟩
    ·obtain⟨x46,bx46,h⟩:=ay h
     obtain⟨x47,bx47,h⟩:=ay h
     have p49:=fun{sc F} (r:PS sc F)=>p45<|sg 16 c44<|sv (N1.ia (k:=.i64) bx46)<|sv (kH x46)<|sv (kM x46)<|sv (IG.ia (k:=.i64) bx47)<|sv (zW x47)<|sv (E1 x47)<|r
     rcases bj h with⟨c48,h⟩|⟨c48,h⟩
     ·obtain⟨x50,bx50,h⟩:=ay h
      obtain⟨x51,bx51,h⟩:=ay h
      have p53:=fun{sc F} (r:PS sc F)=>p49<|sg 26 c48<|sv (N1.ia (k:=.i64) bx50)<|sv (kH x50)<|sv (kM x50)<|sv (IG.ia (k:=.i64) bx51)<|sv (zW x51)<|sv (E1 x51)<|r
      rcases bj h with⟨c52,h⟩|⟨c52,h⟩
      ·obtain⟨x54,bx54,h⟩:=ay h
       obtain⟨r55,br55,h⟩:=ay h
       obtain⟨r56,br56,h⟩:=ay h
       obtain⟨r57,br57,h⟩:=ay h
       have p59:=fun{sc F} (r:PS sc F)=>p53<|sg 36 c52<|sv (N1.ia (k:=.i64) bx54)<|sv (CY x54)<|sv (C2 x54)<|sv (bT (⟨1,([]:ag),0,([]:List aa)⟩:aa) [])<|bz (iH br55)<|bz (xu br56)<|bz (tV br57)<|r
       rcases bj h with⟨c58,h⟩|⟨c58,h⟩
       ·obtain⟨r60,br60,h⟩:=ay h
        have p62:=fun{sc F} (r:PS sc F)=>p59<|sg 46 c58<|sv (cU (⟨r3.Op,r3.Name,r3.Args,r3.Names,r3.Pred,r3.Preds⟩:ae) [])<|bz (pK br60)<|r
        rcases bj h with⟨c61,h⟩|⟨c61,h⟩
        ·obtain⟨r63,br63,h⟩:=ay h
         obtain rfl:=lf h
         have z:=p62<|sg 50 c61<|sv (cU (⟨6,([]:ag),([r32,r36]:List ae),([([120]:ag)]:List ag),(⟨0,([]:ag),0,([]:List aa)⟩:aa),([]:List aa)⟩:ae) [])<|bz (pK br63)<|en (aI (rP (.bool (!r63)))<|trivial)
         exact bN X5 call11 func11 (c:=qea) rfl trivial z<|by kernel_rfl
        ·obtain rfl:=lf h
         have z:=p62<|sg 50 c61<|en (aI (rP (.bool false))<|trivial)
         exact bN X5 call11 func11 (c:=qea) rfl trivial z<|by kernel_rfl
       ·obtain rfl:=lf h
        have z:=p59<|sg 46 c58<|en (aI (rP (.bool false))<|trivial)
        exact bN X5 call11 func11 (c:=qea) rfl trivial z<|by kernel_rfl
      ·obtain rfl:=lf h
       have z:=p53<|sg 36 c52<|en (aI (rP (.bool false))<|trivial)
       exact bN X5 call11 func11 (c:=qea) rfl trivial z<|by kernel_rfl
     ·obtain rfl:=lf h
      have z:=p49<|sg 26 c48<|en (aI (rP (.bool false))<|trivial)
      exact bN X5 call11 func11 (c:=qea) rfl trivial z<|by kernel_rfl
    ·obtain rfl:=lf h
     have z:=p45<|sg 16 c44<|en (aI (rP (.bool false))<|trivial)
     exact bN X5 call11 func11 (c:=qea) rfl trivial z<|by kernel_rfl
   ·obtain rfl:=lf h
    have z:=p42<|sg 8 c41<|en (aI (rP (.bool false))<|trivial)
    exact bN X5 call11 func11 (c:=qea) rfl trivial z<|by kernel_rfl
  ·obtain rfl:=lf h
   have z:=p40<|sg 3 c39<|en (aI (rP (.bool false))<|trivial)
   exact bN X5 call11 func11 (c:=qea) rfl trivial z<|by kernel_rfl
abbrev nw:=(aH->ae->ae->Int->waA->Option (ai×Int))
abbrev KH(R:nw):Prop:=∀(m:aH) (a:ae) (a2:ae) (tag:Int) (used:waA) (r:ai×Int),R m a a2 tag used=some r->CC Pg GE 13 [.agg (aB m),.agg (af a),.agg (af a2),.int .i64 tag,sl cS used] (.tuple [.agg (aw r.1),.int .i64 r.2]) []
abbrev B4:=(ae->ae->Option Bool)
abbrev Hr(R:B4):Prop:=∀(a:ae) (a2:ae) (r:Bool),R a a2=some r->CC Pg GE 36 [.agg (af a),.agg (af a2)] (.bool r) []
noncomputable def qhm:Code:=f36.body.getD .skip
def qen:List Nat:=[32]
section
variable(v:ae)(v2:ae)
def RG:aA:=be 46 [(2,.eptr (af v)),(3,.eptr (af v2))] [.dead,.dead] []
def tt(o:Bool):aA:=be 46 [(2,.eptr (af v)),(3,.eptr (af v2)),(26,.bool o)] [.dead,.dead] []
def DZ:Option Bool:=
 if(v.Op !=v2.Op)=true then
  some true
 else
  if(!(v.Name==v2.Name))=true then
   some true
  else
   some ((v.Args.length:Int)!=(v2.Args.length:Int))
theorem OX{x:Bool}(h:DZ v v2=some x):aU Pg GE 0 (cA qhm 12) (EX .normal (tt v v2 x)) (RG v v2):=by
 have p2:=fun{sc F} (r:PS sc F)=>sv (aC v)<|sv (aD v)<|sv (aC v2)<|sv (aD v2)<|r
 rcases bj h with⟨c1,h⟩|⟨c1,h⟩
 ·obtain rfl:=lf h
  exact cd qen (p2<|sg 6 c1<|eF .normal (tt v v2 true))<|by kernel_rfl
 ·have p4:=fun{sc F} (r:PS sc F)=>p2<|sg 6 c1<|sv (cq v)<|sv (cP v)<|sv (cq v2)<|sv (cP v2)<|r
  rcases bj h with⟨c3,h⟩|⟨c3,h⟩
  ·obtain rfl:=lf h
   exact cd qen (p4<|sg 13 c3<|eF .normal (tt v v2 true))<|by kernel_rfl
  ·obtain rfl:=lf h
   exact cd qen (p4<|sg 13 c3<|sv (aK v)<|sv (aL v)<|cm (ck.ln v.Args)<|sv (aK v2)<|sv (aL v2)<|cm (ck.ln v2.Args)<|eF .normal (tt v v2 ((v.Args.length:Int)!=(v2.Args.length:Int))))<|by kernel_rfl
end
section
variable(R95:B4)(v:ae)(v2:ae)(t29:Int)(t30:Int)
def oD:aA:=be 46 [(2,.eptr (af v)),(3,.eptr (af v2)),(29,.int .i64 t29),(30,.int .i64 t30)] [.dead,.dead] []
def oE(o:Unit⊕(Unit)):Exit:=match o with
 |(.inl _)=>.ret
 |(.inr _)=>.exit 0
def ll(o:Unit⊕(Unit)):aA:=match o with
 |(.inl o)=>be 46 [(4,.bool false)] [.dead,.dead] []
 |(.inr o)=>be 46 [] [.dead,.dead] []
def zv:Option (Int⊕(Unit⊕(Unit))):=
 if(decide (t30<t29))=true then
  (cz v.Args t30).bind fun x9=>
  (cz v2.Args t30).bind fun x10=>
  (R95 x9 x10).bind fun r11=>
  if(!r11)=true then
   some (.inr (.inl ()))
  else
   some (.inl (aR (t30+1)))
 else
  some (.inr (.inr ()))
def D0:Option (Unit⊕(Unit)):=loop (fun(zz:Int)=>zv R95 v v2 t29 zz) t30
theorem M0(hR95:Hr R95){y:Int⊕(Unit⊕(Unit))}(h:zv R95 v v2 t29 t30=some y):aU Pg GE 0 (cA qhm 119) (LQ (fun(zz:Int)=>oD v v2 t29 zz) oE ll y) (oD v v2 t29 t30):=by
 rcases bj h with⟨c8,h⟩|⟨c8,h⟩
 ·obtain⟨x9,bx9,h⟩:=ay h
  obtain⟨x10,bx10,h⟩:=ay h
  obtain⟨r11,br11,h⟩:=ay h
  have p13:=fun{sc F} (r:PS sc F)=>sg 0 c8<|lY [0,1,0,7,15,0,32,0,224,480,1023,2047]<|sv (aK v)<|sv (aL v)<|sv (ck.ia (k:=.i64) bx9)<|sv (aV x9)<|sv (aK v2)<|sv (aL v2)<|sv (ck.ia (k:=.i64) bx10)<|sv (aV x10)<|bz (hR95 _ _ _ br11)<|r
  rcases bj h with⟨c12,h⟩|⟨c12,h⟩
  ·obtain rfl:=lf h
   have z:=p13<|sg 0 c12<|eF (oE (.inl ())) (ll (.inl ()))
   exact f6 qen (by intro hx;cases hx) z<|by kernel_rfl
  ·obtain rfl:=lf h
   exact n9 qen (p13<|sg 0 c12<|eF .normal (oD v v2 t29 (aR (t30+1))))<|by kernel_rfl
 ·obtain rfl:=lf h
  have z:=sg 0 c8<|eF (oE (.inr ())) (ll (.inr ()))
  exact f6 qen (by intro hx;cases hx) z<|by kernel_rfl
theorem D1(hR95:Hr R95){x:Unit⊕(Unit)}(h:D0 R95 v v2 t29 t30=some x):aU Pg GE 0 (.loop (cA qhm 119)) (EX (oE x) (ll x)) (oD v v2 t29 t30):=
 aU.loop (S:=fun(zz:Int)=>oD v v2 t29 zz) (ex:=oE) (s:=t30) h fun zz y hy=>M0 R95 v v2 t29 zz hR95 hy
end
def Bz(R95:B4)(a:ae)(a2:ae):Option Bool:=
 (DZ a a2).bind fun o5=>
 if o5=true then
  some false
 else
  (D0 R95 a a2 (a.Args.length:Int) 0).bind fun o14=>match o14 with
  |(.inl o14)=>
   some false
  |(.inr o14)=>
   some true
theorem Ur(R95:B4)(hR95:Hr R95){a:ae}{a2:ae}{r:Bool}(h:Bz R95 a a2=some r):CC Pg GE 36 [.agg (af a),.agg (af a2)] (.bool r) []:=by
 obtain⟨o5,bo5,h⟩:=ay h
 have p7:=fun{sc F} (r:PS sc F)=>se (bD a)<|se (bD a2)<|kr 1<|cW (OX a a2 bo5)<|r
 rcases bj h with⟨c6,h⟩|⟨c6,h⟩
 ·obtain rfl:=lf h
  have z:=p7<|sg 0 c6<|en (aI (rP (.bool false))<|trivial)
  exact bN qen call36 func36 (c:=qhm) rfl (aI (ak a) (aI (ak a2) trivial)) z<|by kernel_rfl
 ·obtain⟨o14,bo14,h⟩:=ay h
  rcases o14 with o14|o14
  ·obtain rfl:=lf h
   have z:=p7<|sg 0 c6<|sv (aK a)<|sv (aL a)<|cm (ck.ln a.Args)<|cW (e:=.ret) (s1:=ll (.inl o14)) (D1 R95 a a2 (a.Args.length:Int) 0 hR95 bo14)<|en (aI (rP (.bool false))<|trivial)
   exact bN qen call36 func36 (c:=qhm) rfl (aI (ak a) (aI (ak a2) trivial)) z<|by kernel_rfl
  ·obtain rfl:=lf h
   have z:=p7<|sg 0 c6<|sv (aK a)<|sv (aL a)<|cm (ck.ln a.Args)<|cW (e:=.exit 0) (s1:=ll (.inr o14)) (D1 R95 a a2 (a.Args.length:Int) 0 hR95 bo14)<|en (aI (rP (.bool true))<|trivial)
   exact bN qen call36 func36 (c:=qhm) rfl (aI (ak a) (aI (ak a2) trivial)) z<|by kernel_rfl
def HE:((ae×ae)->Option Bool)->(ae×ae)->Option Bool:=fun(rec:(ae×ae)->Option Bool) (x:ae×ae)=>Bz (fun a a2=>rec (a,a2)) x.1 x.2
def OW(a:ae)(a2:ae):Option Bool:=kJ HE (a,a2)
theorem Wk{a:ae}{a2:ae}{r:Bool}(h:OW a a2=some r):CC Pg GE 36 [.agg (af a),.agg (af a2)] (.bool r) []:=
 cy (F:=HE) (M:=fun(x:ae×ae) (r:Bool)=>CC Pg GE 36 [.agg (af x.1),.agg (af x.2)] (.bool r) []) (fun rec hrec x r h=>Ur _ (fun a a2 r h=>hrec (a,a2) r h) h) h
noncomputable def qi9:Code:=f24.body.getD .skip
def qiW:List Nat:=[]
def Jk(t:ae):Option Bool:=
 if(t.Op==1)=true then
  some true
 else
  if(t.Op==2)=true then
   some true
  else
   if(t.Op==3)=true then
    some true
   else
    some (t.Op==4)
theorem Mh{t:ae}{r:Bool}(h:Jk t=some r):CC Pg GE 24 [.agg (af t)] (.bool r) []:=by
 have p2:=fun{sc F} (r:PS sc F)=>se (bD t)<|sv (aC t)<|sv (aD t)<|r
 rcases bj h with⟨c1,h⟩|⟨c1,h⟩
 ·obtain rfl:=lf h
  have z:=p2<|sg 4 c1<|en (aI (rP (.bool true))<|trivial)
  exact bN qiW call24 func24 (c:=qi9) rfl (aI (ak t) trivial) z<|by kernel_rfl
 ·have p4:=fun{sc F} (r:PS sc F)=>p2<|sg 4 c1<|sv (aC t)<|sv (aD t)<|r
  rcases bj h with⟨c3,h⟩|⟨c3,h⟩
  ·obtain rfl:=lf h
   have z:=p4<|sg 9 c3<|en (aI (rP (.bool true))<|trivial)
   exact bN qiW call24 func24 (c:=qi9) rfl (aI (ak t) trivial) z<|by kernel_rfl
  ·have p6:=fun{sc F} (r:PS sc F)=>p4<|sg 9 c3<|sv (aC t)<|sv (aD t)<|r
   rcases bj h with⟨c5,h⟩|⟨c5,h⟩
   ·obtain rfl:=lf h
    have z:=p6<|sg 14 c5<|en (aI (rP (.bool true))<|trivial)
    exact bN qiW call24 func24 (c:=qi9) rfl (aI (ak t) trivial) z<|by kernel_rfl
   ·obtain rfl:=lf h
    have z:=p6<|sg 14 c5<|sv (aC t)<|sv (aD t)<|en (aI (rP (.bool (t.Op==4)))<|trivial)
    exact bN qiW call24 func24 (c:=qi9) rfl (aI (ak t) trivial) z<|by kernel_rfl
noncomputable def qhs:Code:=f84.body.getD .skip
def qgg:List Nat:=[8,30]
section
variable(n:Int)(s:ag)(m:Int)(d:Int)
def Rj:aA:=be 31 [(0,.int .i64 n),(3,.str s),(4,.int .i64 m),(5,.int .i64 d)] [] []
def zj(o:Int):aA:=be 31 [(0,.int .i64 n),(3,.str s),(4,.int .i64 m),(5,.int .i64 o)] [] []
def yn:Option Int:=
 if(decide (d<0))=true then
  some (IntKind.i64.wrap (0 - d))
 else
  some d
theorem Ow{x:Int}(h:yn d=some x):aU Pg GE 0 (cA qhs 7926) (EX .normal (zj n s m x)) (Rj n s m d):=by
 rcases bj h with⟨c4,h⟩|⟨c4,h⟩
 ·obtain rfl:=lf h
  exact cd qgg (sg 0 c4<|eF .normal (zj n s m (IntKind.i64.wrap (0 - d))))<|by kernel_rfl
 ·obtain rfl:=lf h
  exact cd qgg (sg 0 c4<|eF .normal (zj n s m d))<|by kernel_rfl
end
section
variable(n:Int)(s:ag)(m:Int)
def oc:aA:=be 31 [(0,.int .i64 n),(3,.str s),(4,.int .i64 m)] [] []
def zk(o:ag):aA:=be 31 [(0,.int .i64 n),(3,.str o)] [] []
def od:Option ((ag×Int)⊕(ag)):=
 if(m !=0)=true then
  (re m 10).bind fun q3=>
  (yn q3).bind fun o5=>
  (xB ([IntKind.u8.wrap (aR (48+o5))]:List Int)).bind fun s6=>
  (qgH s6 s).bind fun s7=>
  (qu .i64 m 10).bind fun q8=>
  some (.inl (s7,q8))
 else
  some (.inr s)
def qd:Option ag:=loop (fun(zz:ag×Int)=>od zz.1 zz.2) (s,m)
theorem MF{y:(ag×Int)⊕(ag)}(h:od s m=some y):aU Pg GE 0 (cA qhs 247) (LQ (fun(zz:ag×Int)=>oc n zz.1 zz.2) (fun _=>.exit 0) (zk n) y) (oc n s m):=by
 rcases bj h with⟨c2,h⟩|⟨c2,h⟩
 ·obtain⟨q3,bq3,h⟩:=ay h
  obtain⟨o5,bo5,h⟩:=ay h
  obtain⟨s6,bs6,h⟩:=ay h
  obtain⟨s7,bs7,h⟩:=ay h
  obtain⟨q8,bq8,h⟩:=ay h
  obtain rfl:=lf h
  exact n9 qgg (sg 0 c2<|sv (qig (P:=Pg) (t:=3) (k:=.i64) bq3)<|kr 0<|cW (Ow n s m q3 bo5)<|sv (qlG underlying3 underlying5 (aR (48+o5)))<|sv (qiO.mk' (v:=(PVal.int .u8)) (qlR .u8) ([IntKind.u8.wrap (aR (48+o5))]:List Int) 1 (by kernel_rfl))<|sv (qlF underlying158 underlying9 underlying5 bs6)<|sv (VS (P:=Pg) (t:=9) bs7)<|sv (Ax (P:=Pg) (t:=3) bq8)<|eF .normal (oc n s7 q8))<|by kernel_rfl
 ·obtain rfl:=lf h
  have z:=sg 0 c2<|eF (.exit 0) (zk n s)
  exact f6 qgg (by intro hx;cases hx) z<|by kernel_rfl
theorem Ox{x:ag}(h:qd s m=some x):aU Pg GE 0 (.loop (cA qhs 247)) (EX (.exit 0) (zk n x)) (oc n s m):=
 aU.loop (S:=fun(zz:ag×Int)=>oc n zz.1 zz.2) (ex:=(fun _=>.exit 0)) (s:=(s,m)) h fun zz y hy=>MF n zz.1 zz.2 hy
end
def IQ(n:Int):Option ag:=
 if(n==0)=true then
  some ([48]:ag)
 else
  (qd ([]:ag) n).bind fun o9=>
  if(decide (n<0))=true then
   (qgH ([45]:ag) o9).bind fun s12=>
   some s12
  else
   some o9
theorem Wc{n:Int}{r:ag}(h:IQ n=some r):CC Pg GE 84 [.int .i64 n] (.str r) []:=by
 rcases bj h with⟨c1,h⟩|⟨c1,h⟩
 ·obtain rfl:=lf h
  have z:=sg 0 c1<|en (aI (rP (.str ([48]:ag)))<|trivial)
  exact bN qgg call84 func84 (c:=qhs) rfl (aI trivial trivial) z<|by kernel_rfl
 ·obtain⟨o9,bo9,h⟩:=ay h
  have p11:=fun{sc F} (r:PS sc F)=>sg 0 c1<|cW (Ox n ([]:ag) n bo9)<|r
  rcases bj h with⟨c10,h⟩|⟨c10,h⟩
  ·obtain⟨s12,bs12,h⟩:=ay h
   obtain rfl:=lf h
   have z:=p11<|sg 0 c10<|sv (VS (P:=Pg) (t:=9) bs12)<|en (aI (rP (.str s12))<|trivial)
   exact bN qgg call84 func84 (c:=qhs) rfl (aI trivial trivial) z<|by kernel_rfl
  ·obtain rfl:=lf h
   have z:=p11<|sg 0 c10<|en (aI (rP (.str o9))<|trivial)
   exact bN qgg call84 func84 (c:=qhs) rfl (aI trivial trivial) z<|by kernel_rfl
end Go.Proofs.YtbaamopmfmpfaaaGreatDoor
