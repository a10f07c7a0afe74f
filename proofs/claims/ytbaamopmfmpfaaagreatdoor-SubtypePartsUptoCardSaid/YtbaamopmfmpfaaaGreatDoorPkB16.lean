/- PROVED: a part of the proof. Conditions: none. -/
import Derived.Test.YtbaamopmfmpfaaaGreatDoorPkB15
noncomputable section
namespace Go.Proofs.YtbaamopmfmpfaaaGreatDoor
open Go Go.Proofs.Tryz
set_option linter.unusedVariables false
set_option maxRecDepth 100000
noncomputable def qeB:Code:=f41.body.getD .skip
def qaR:List Nat:=[41,48,53,87,90]
section
variable(v:waE)(c:ai)(t20:waB)(t21:Int)(t22:Int)(t34:waB)(t35:Int)(m:waF)(m2:Int)(m3:af)(m4:Int)(m5:waB)(m6:Int)(m7:Int)(m8:af)(m9:Int)(m10:waB)(m11:waF)(m13:Int)(t36:Int)(m12:waB)
def f0:aC:=be 91 [(2,sl aY v),(3,.eptr (au c)),(4,.bptr 1 0),(9,.bptr 3 0),(20,sl ac t20),(21,.int .i64 t21),(22,.int .i64 t22),(34,sl ac t34),(35,.int .i64 t35),(36,.int .i64 t36)] [.dead,.cells [sl bH m,sl ac t34,.int .i64 m2,.str m3,.int .i64 m4,sl ac m5,.int .i64 m6] [],.cells [.int .i64 m7,.str m8,.int .i64 m9,sl ac m10] [],.cells [sl bH m11,sl ac m12,.int .i64 m7,.str m8,.int .i64 m9,sl ac m10,.int .i64 m13] [(1,36)]] [((20,0),36),((2,0),62)]
def mR(o:waB):aC:=be 91 [(2,sl aY v),(3,.eptr (au c)),(4,.bptr 1 0),(9,.bptr 3 0),(20,sl ac t20),(21,.int .i64 t21),(22,.int .i64 t22)] [.dead,.cells [sl bH m,sl ac t34,.int .i64 m2,.str m3,.int .i64 m4,sl ac m5,.int .i64 m6] [],.cells [.int .i64 m7,.str m8,.int .i64 m9,sl ac m10] [],.cells [sl bH m11,sl ac o,.int .i64 m7,.str m8,.int .i64 m9,sl ac m10,.int .i64 m13] [(1,36)]] [((20,0),36),((2,0),62)]
def uu:Option ((Int×waB)⊕(waB)):=
 if(decide (t36<t35))=true then
  (cz t34 t36).bind fun x8=>
  (lJ x8 ([]:List af) ([]:List aa)).bind fun r9=>
  (app m12 ([r9]:List aa)).bind fun l10=>
  some (.inl (aS (t36+1),l10))
 else
  some (.inr m12)
def xW:Option waB:=loop (fun(zz:Int×waB)=>uu t34 t35 zz.1 zz.2) (t36,m12)
theorem Cw{y:(Int×waB)⊕(waB)}(h:uu t34 t35 t36 m12=some y):aV Pg GE 1000 (cA qeB 1810295) (LQ (fun(zz:Int×waB)=>f0 v c t20 t21 t22 t34 t35 m m2 m3 m4 m5 m6 m7 m8 m9 m10 m11 m13 zz.1 zz.2) (fun _=>.exit 3) (mR v c t20 t21 t22 t34 m m2 m3 m4 m5 m6 m7 m8 m9 m10 m11 m13) y) (f0 v c t20 t21 t22 t34 t35 m m2 m3 m4 m5 m6 m7 m8 m9 m10 m11 m13 t36 m12):=by
 rcases bj h with⟨c7,h⟩|⟨c7,h⟩
 ·obtain⟨x8,bx8,h⟩:=ay h
  obtain⟨r9,br9,h⟩:=ay h
  obtain⟨l10,bl10,h⟩:=ay h
  obtain rfl:=lf h
  have z:=sg 0 c7<|sv (bL.ia (k:=.i64) bx8)<|sv (bh x8)<|sx ib<|sx (cr x8)<|lK [0,1,0,4,12,31,63,127]<|sv (bX x8 [])<|bz (nI br9)<|sv (bL.mk' (v:=dZ) cP ([r9]:List aa) 1 (by kernel_rfl))<|sv (bL.ap bl10)<|We (rfl:bK (sl ac l10)=some [sl ac l10])<|uP 1000 .normal (f0 v c t20 t21 t22 t34 t35 m m2 m3 m4 m5 m6 m7 m8 m9 m10 m11 m13 (aS (t36+1)) l10) rfl (dF (aI (up (aj fK v)) (aI (im (aX c)) (aI (cZ rfl) (aI (cZ rfl) (aI (up (aj ah t20)) (aI trivial (aI trivial (aI (up (aj ah t34)) (aI trivial (aI trivial trivial))))))))))) (aI trivial (aI (aI (up (aj lZ m)) (aI (up (aj ah t34)) (aI trivial (aI trivial (aI trivial (aI (up (aj ah m5)) (aI trivial trivial))))))) (aI (aI trivial (aI trivial (aI trivial (aI (up (aj ah m10)) trivial)))) (aI (aI (up (aj lZ m11)) (aI (up (aj ah l10)) (aI trivial (aI trivial (aI trivial (aI (up (aj ah m10)) (aI trivial trivial))))))) trivial))))
  exact dh (A:=qaR) mixed z<|by kernel_rfl
 ·obtain rfl:=lf h
  have z:=sg 0 c7<|eF (.exit 3) (mR v c t20 t21 t22 t34 m m2 m3 m4 m5 m6 m7 m8 m9 m10 m11 m13 m12)
  exact gg qaR (by intro hx;cases hx) z<|by kernel_rfl
theorem DD{x:waB}(h:xW t34 t35 t36 m12=some x):aV Pg GE 1000 (.loop (cA qeB 1810295)) (EX (.exit 3) (mR v c t20 t21 t22 t34 m m2 m3 m4 m5 m6 m7 m8 m9 m10 m11 m13 x)) (f0 v c t20 t21 t22 t34 t35 m m2 m3 m4 m5 m6 m7 m8 m9 m10 m11 m13 t36 m12):=
 aV.loop (S:=fun(zz:Int×waB)=>f0 v c t20 t21 t22 t34 t35 m m2 m3 m4 m5 m6 m7 m8 m9 m10 m11 m13 zz.1 zz.2) (ex:=(fun _=>.exit 3)) (s:=(t36,m12)) h fun zz y hy=>Cw v c t20 t21 t22 t34 t35 m m2 m3 m4 m5 m6 m7 m8 m9 m10 m11 m13 zz.1 zz.2 hy
end
section
variable(c:ai)(t20:waB)(t21:Int)(m:waF)(m2:waB)(m3:Int)(m4:af)(m5:Int)(m6:waB)(m7:Int)(v:waE)(t22:Int)
def fZ:aC:=be 91 [(2,sl aY v),(3,.eptr (au c)),(4,.bptr 1 0),(20,sl ac t20),(21,.int .i64 t21),(22,.int .i64 t22)] [.dead,.cells [sl bH m,sl ac m2,.int .i64 m3,.str m4,.int .i64 m5,sl ac m6,.int .i64 m7] []] [((20,0),36),((2,0),62)]
def mQ(o:waE):aC:=be 91 [(2,sl aY o)] [.dead,.cells [sl bH m,sl ac m2,.int .i64 m3,.str m4,.int .i64 m5,sl ac m6,.int .i64 m7] []] [((2,0),62)]
def ut:Option ((waE×Int)⊕(waE)):=
 if(decide (t22<t21))=true then
  (cz t20 t22).bind fun x5=>
  (n8 m).bind fun r6=>
  (xW m2 (m2.length:Int) 0 ([]:List aa)).bind fun o11=>
  (app v ([(⟨r6,o11,x5,c.Tag⟩:aO)]:List aO)).bind fun l12=>
  some (.inl (l12,aS (t22+1)))
 else
  some (.inr v)
def xV:Option waE:=loop (fun(zz:waE×Int)=>ut c t20 t21 m m2 zz.1 zz.2) (v,t22)
theorem Cv{y:(waE×Int)⊕(waE)}(h:ut c t20 t21 m m2 v t22=some y):aV Pg GE 1000 (cA qeB 1767) (LQ (fun(zz:waE×Int)=>fZ c t20 t21 m m2 m3 m4 m5 m6 m7 zz.1 zz.2) (fun _=>.exit 1) (mQ m m2 m3 m4 m5 m6 m7) y) (fZ c t20 t21 m m2 m3 m4 m5 m6 m7 v t22):=by
 rcases bj h with⟨c4,h⟩|⟨c4,h⟩
 ·obtain⟨x5,bx5,h⟩:=ay h
  obtain⟨r6,br6,h⟩:=ay h
  obtain⟨o11,bo11,h⟩:=ay h
  obtain⟨l12,bl12,h⟩:=ay h
  obtain rfl:=lf h
  have z:=sg 0 c4<|sv (bL.ia (k:=.i64) bx5)<|sv (bh x5)<|sx ib<|sx (cr x5)<|lK [0,1,3,0,0,16,63,0,255]<|ss<|bz (Qc br6)<|sv (bX x5 [])<|sv (Ab c)<|sv (CJ c)<|sb (LV r6 x5 c.Tag) (LU r6 x5 c.Tag)<|qcq (Ft (⟨r6,([]:List aa),x5,c.Tag⟩:aO))<|ss<|cq (bL.ln m2)<|cY (DD v c t20 t21 t22 m2 (m2.length:Int) m m3 m4 m5 m6 m7 x5.Op x5.Name x5.N x5.Kids r6 c.Tag 0 ([]:List aa) bo11)<|sv (MT (⟨r6,o11,x5,c.Tag⟩:aO) [])<|sv (Oq.mk' (v:=Uk) XQ ([(⟨r6,o11,x5,c.Tag⟩:aO)]:List aO) 1 (by kernel_rfl))<|sv (Oq.ap bl12)<|uP 1000 .normal (fZ c t20 t21 m m2 m3 m4 m5 m6 m7 l12 (aS (t22+1))) rfl (dF (aI (up (aj fK l12)) (aI (im (aX c)) (aI (cZ rfl) (aI (up (aj ah t20)) (aI trivial (aI trivial trivial))))))) (aI trivial (aI (aI (up (aj lZ m)) (aI (up (aj ah m2)) (aI trivial (aI trivial (aI trivial (aI (up (aj ah m6)) (aI trivial trivial))))))) trivial))
  exact dh (A:=qaR) mixed z<|by kernel_rfl
 ·obtain rfl:=lf h
  have z:=sg 0 c4<|eF (.exit 1) (mQ m m2 m3 m4 m5 m6 m7 v)
  exact gg qaR (by intro hx;cases hx) z<|by kernel_rfl
theorem DC{x:waE}(h:xV c t20 t21 m m2 v t22=some x):aV Pg GE 1000 (.loop (cA qeB 1767)) (EX (.exit 1) (mQ m m2 m3 m4 m5 m6 m7 x)) (fZ c t20 t21 m m2 m3 m4 m5 m6 m7 v t22):=
 aV.loop (S:=fun(zz:waE×Int)=>fZ c t20 t21 m m2 m3 m4 m5 m6 m7 zz.1 zz.2) (ex:=(fun _=>.exit 1)) (s:=(v,t22)) h fun zz y hy=>Cv c t20 t21 m m2 m3 m4 m5 m6 m7 zz.1 zz.2 hy
end
section
variable(v:waE)(c:ai)(m:waF)(m2:waB)(m3:Int)(m4:af)(m5:Int)(m6:waB)(m7:Int)
def Ff:aC:=be 91 [(2,sl aY v),(3,.eptr (au c)),(4,.bptr 1 0)] [.dead,.cells [sl bH m,sl ac m2,.int .i64 m3,.str m4,.int .i64 m5,sl ac m6,.int .i64 m7] []] [((2,0),62)]
def mP(o:waF):aC:=be 91 [(2,sl aY v),(3,.eptr (au c)),(4,.bptr 1 0)] [.dead,.cells [sl bH o,sl ac m2,.int .i64 m3,.str m4,.int .i64 m5,sl ac m6,.int .i64 m7] []] [((2,0),62)]
def xU:Option waF:=
 if(!(c.Name==([]:af)))=true then
  (n8 m).bind fun r18=>
  (app r18 ([(⟨c.Name,c.Sort_⟩:cM)]:List cM)).bind fun l19=>
  some l19
 else
  some m
theorem DB{x:waF}(h:xU c m=some x):aV Pg GE 1000 (cA qeB 892) (EX .normal (mP v c m2 m3 m4 m5 m6 m7 x)) (Ff v c m m2 m3 m4 m5 m6 m7):=by
 have p17:=fun{sc F} (r:PS sc F)=>sv (tS c)<|sv (wt c)<|r
 rcases bj h with⟨c16,h⟩|⟨c16,h⟩
 ·obtain⟨r18,br18,h⟩:=ay h
  obtain⟨l19,bl19,h⟩:=ay h
  obtain rfl:=lf h
  exact cf qaR (p17<|sg 0 c16<|lK [0,1,3,0,8,0,32,120,248,511,1023,2047]<|ss<|bz (Qc br18)<|sv (tS c)<|sv (wt c)<|sv (Aa c)<|sv (Ag c)<|sv (W6 c.Name c.Sort_)<|sv (I3.mk' (v:=qeu) qdO ([(⟨c.Name,c.Sort_⟩:cM)]:List cM) 1 (by kernel_rfl))<|sv (I3.ap bl19)<|We (rfl:bK (sl bH l19)=some [sl bH l19])<|eF .normal (mP v c m2 m3 m4 m5 m6 m7 l19))<|by kernel_rfl
 ·obtain rfl:=lf h
  exact cf qaR (p17<|sg 0 c16<|eF .normal (mP v c m2 m3 m4 m5 m6 m7 m))<|by kernel_rfl
end
section
variable(v:waE)(c:ai)(m:waF)(m2:waB)(m3:Int)(m4:af)(m5:Int)(m6:waB)(m7:Int)
def Fe:aC:=be 91 [(2,sl aY v),(3,.eptr (au c)),(4,.bptr 1 0)] [.dead,.cells [sl bH m,sl ac m2,.int .i64 m3,.str m4,.int .i64 m5,sl ac m6,.int .i64 m7] []] [((2,0),62)]
def i6(o:waE⊕(waF×waB)):Exit:=match o with
 |(.inl _)=>.ret
 |(.inr _)=>.normal
def eM(o:waE⊕(waF×waB)):aC:=match o with
 |(.inl o)=>be 91 [(6,sl aY o)] [.dead,.cells [sl bH m,sl ac m2,.int .i64 m3,.str m4,.int .i64 m5,sl ac m6,.int .i64 m7] []] [((6,0),62)]
 |(.inr o)=>be 91 [(2,sl aY v),(3,.eptr (au c)),(4,.bptr 1 0)] [.dead,.cells [sl bH o.1,sl ac o.2,.int .i64 m3,.str m4,.int .i64 m5,sl ac m6,.int .i64 m7] []] [((2,0),62)]
def xT:Option (waE⊕(waF×waB)):=
 if(c.Op==3)=true then
  (IT c.Pred).bind fun r3=>
  (xV c r3 (r3.length:Int) m m2 v 0).bind fun o13=>
  some (.inl o13)
 else
  if(c.Op==2)=true then
   (xU c m).bind fun o20=>
   (n8 m2).bind fun r21=>
   (IT c.Pred).bind fun r22=>
   (app r21 r22).bind fun l23=>
   some (.inr (o20,l23))
  else
   some (.inr (m,m2))
theorem sE{x:waE⊕(waF×waB)}(h:xT v c m m2=some x):aV Pg GE 1000 (cA qeB 6) (EX (i6 x) (eM v c m m2 m3 m4 m5 m6 m7 x)) (Fe v c m m2 m3 m4 m5 m6 m7):=by
 have p2:=fun{sc F} (r:PS sc F)=>sv (pj c)<|sv (pq c)<|r
 rcases bj h with⟨c1,h⟩|⟨c1,h⟩
 ·obtain⟨r3,br3,h⟩:=ay h
  obtain⟨o13,bo13,h⟩:=ay h
  obtain rfl:=lf h
  exact cf qaR (p2<|sg 0 c1<|sv (pk c)<|sv (pr c)<|bz (HE br3)<|cq (bL.ln r3)<|cY (DC c r3 (r3.length:Int) m m2 m3 m4 m5 m6 m7 v 0 bo13)<|eF (i6 (.inl o13)) (eM v c m m2 m3 m4 m5 m6 m7 (.inl o13)))<|by kernel_rfl
 ·have p15:=fun{sc F} (r:PS sc F)=>p2<|sg 0 c1<|r
  rcases bj h with⟨c14,h⟩|⟨c14,h⟩
  ·obtain⟨o20,bo20,h⟩:=ay h
   obtain⟨r21,br21,h⟩:=ay h
   obtain⟨r22,br22,h⟩:=ay h
   obtain⟨l23,bl23,h⟩:=ay h
   obtain rfl:=lf h
   exact cf qaR (p15<|sg 0 c14<|ka 0<|cY (DB v c m m2 m3 m4 m5 m6 m7 bo20)<|lK [0,1,3,0,8,31,63,127,255]<|ss<|bz (YT br21)<|sv (pk c)<|sv (pr c)<|bz (HE br22)<|sv (bL.ap bl23)<|We (rfl:bK (sl ac l23)=some [sl ac l23])<|eF (i6 (.inr (o20,l23))) (eM v c m m2 m3 m4 m5 m6 m7 (.inr (o20,l23))))<|by kernel_rfl
  ·obtain rfl:=lf h
   exact cf qaR (p15<|sg 0 c14<|eF (i6 (.inr (m,m2))) (eM v c m m2 m3 m4 m5 m6 m7 (.inr (m,m2))))<|by kernel_rfl
end
section
variable(R92:lY)(t79:waD)(t80:Int)(m:waF)(m2:waB)(m3:Int)(m4:af)(m5:Int)(m6:waB)(m7:Int)(v:waE)(t81:Int)
def gd:aC:=be 91 [(2,sl aY v),(4,.bptr 1 0),(79,sl au t79),(80,.int .i64 t80),(81,.int .i64 t81)] [.dead,.cells [sl bH m,sl ac m2,.int .i64 m3,.str m4,.int .i64 m5,sl ac m6,.int .i64 m7] []] [((2,0),62)]
def mS(o:waE):aC:=be 91 [(2,sl aY o)] [.dead,.cells [sl bH m,sl ac m2,.int .i64 m3,.str m4,.int .i64 m5,sl ac m6,.int .i64 m7] []] [((2,0),62)]
def uv:Option ((waE×Int)⊕(waE)):=
 if(decide (t81<t80))=true then
  (cz t79 t81).bind fun x26=>
  (R92 x26 (⟨m,m2,(⟨m3,m4,m5,m6⟩:aa),m7⟩:aO) v).bind fun r27=>
  some (.inl (r27,aS (t81+1)))
 else
  some (.inr v)
def xX:Option waE:=loop (fun(zz:waE×Int)=>uv R92 t79 t80 m m2 m3 m4 m5 m6 m7 zz.1 zz.2) (v,t81)
theorem Cx(hR92:qI R92){y:(waE×Int)⊕(waE)}(h:uv R92 t79 t80 m m2 m3 m4 m5 m6 m7 v t81=some y):aV Pg GE 1000 (cA qeB 119) (LQ (fun(zz:waE×Int)=>gd t79 t80 m m2 m3 m4 m5 m6 m7 zz.1 zz.2) (fun _=>.exit 5) (mS m m2 m3 m4 m5 m6 m7) y) (gd t79 t80 m m2 m3 m4 m5 m6 m7 v t81):=by
 rcases bj h with⟨c25,h⟩|⟨c25,h⟩
 ·obtain⟨x26,bx26,h⟩:=ay h
  obtain⟨r27,br27,h⟩:=ay h
  obtain rfl:=lf h
  have z:=sg 0 c25<|sv (lQ.ia (k:=.i64) bx26)<|sv (ja x26)<|sx nK<|sx (cj x26)<|sv (dA x26 [])<|sv (MT (⟨m,m2,(⟨m3,m4,m5,m6⟩:aa),m7⟩:aO) [])<|si (.cg ⟨[],[.agg (au x26),.agg (aY (⟨m,m2,(⟨m3,m4,m5,m6⟩:aa),m7⟩:aO)),sl aY v],[⟨2,87,0,62⟩],[],[],[],[],sl aY r27,sl aY r27,[(0,62)]⟩) (hR92 _ _ _ _ br27)<|sf (aI (xR [] (.agg (au x26)) (aX x26)) (aI (xR [] (.agg (aY (⟨m,m2,(⟨m3,m4,m5,m6⟩:aa),m7⟩:aO))) (fK (⟨m,m2,(⟨m3,m4,m5,m6⟩:aa),m7⟩:aO))) (aI (xR [] (sl aY v) (aj fK v)) trivial)))<|sf trivial<|sf trivial<|sf (xR [] (sl aY r27) (aj fK r27))<|uP 1000 .normal (gd t79 t80 m m2 m3 m4 m5 m6 m7 r27 (aS (t81+1))) rfl (dF (aI (up (aj fK r27)) (aI (cZ rfl) (aI (up (aj aX t79)) (aI trivial (aI trivial trivial)))))) (aI trivial (aI (aI (up (aj lZ m)) (aI (up (aj ah m2)) (aI trivial (aI trivial (aI trivial (aI (up (aj ah m6)) (aI trivial trivial))))))) trivial))
  exact dh (A:=qaR) mixed z<|by kernel_rfl
 ·obtain rfl:=lf h
  have z:=sg 0 c25<|eF (.exit 5) (mS m m2 m3 m4 m5 m6 m7 v)
  exact gg qaR (by intro hx;cases hx) z<|by kernel_rfl
theorem DE(hR92:qI R92){x:waE}(h:xX R92 t79 t80 m m2 m3 m4 m5 m6 m7 v t81=some x):aV Pg GE 1000 (.loop (cA qeB 119)) (EX (.exit 5) (mS m m2 m3 m4 m5 m6 m7 x)) (gd t79 t80 m m2 m3 m4 m5 m6 m7 v t81):=
 aV.loop (S:=fun(zz:waE×Int)=>gd t79 t80 m m2 m3 m4 m5 m6 m7 zz.1 zz.2) (ex:=(fun _=>.exit 5)) (s:=(v,t81)) h fun zz y hy=>Cx R92 t79 t80 m m2 m3 m4 m5 m6 m7 zz.1 zz.2 hR92 hy
end
def y2(R92:lY)(c:ai)(above:aO)(a:waE):Option waE:=
 (xT a c above.Vars above.Hyps).bind fun o24=>match o24 with
 |(.inl o24)=>
  some o24
 |(.inr o24)=>
  (xX R92 c.Kids (c.Kids.length:Int) o24.1 o24.2 above.Head.Op above.Head.Name above.Head.N above.Head.Kids above.Tag a 0).bind fun o28=>
  some o28
theorem GX(R92:lY)(hR92:qI R92){c:ai}{above:aO}{a:waE}{r:waE}(h:y2 R92 c above a=some r):C Pg GE 41 [.agg (au c),.agg (aY above),sl aY a] [((2,0),62)] [] (sl aY r) [(0,62)] []:=by
 obtain⟨o24,bo24,h⟩:=ay h
 rcases o24 with o24|o24
 ·obtain rfl:=lf h
  have z:=se (rN c)<|sx (Ft above)<|ka 0<|cY (e:=.ret) (s1:=eM a c above.Vars above.Hyps above.Head.Op above.Head.Name above.Head.N above.Head.Kids above.Tag (.inl o24)) (sE a c above.Vars above.Hyps above.Head.Op above.Head.Name above.Head.N above.Head.Kids above.Tag bo24)<|en (aI (rP (sl aY o24))<|aI (up (n:=0) (aj fK o24))<|aI (rL [])<|trivial)
  exact C.evGp (A:=qaR) mixed (m:=1000) (c:=qeB) rfl call41 func41 rfl z<|by kernel_rfl
 ·obtain⟨o28,bo28,h⟩:=ay h
  obtain rfl:=lf h
  have z:=se (rN c)<|sx (Ft above)<|ka 0<|cY (e:=.normal) (s1:=eM a c above.Vars above.Hyps above.Head.Op above.Head.Name above.Head.N above.Head.Kids above.Tag (.inr o24)) (sE a c above.Vars above.Hyps above.Head.Op above.Head.Name above.Head.N above.Head.Kids above.Tag bo24)<|sv (jm c)<|sv (jo c)<|cq (lQ.ln c.Kids)<|cY (DE R92 c.Kids (c.Kids.length:Int) o24.1 o24.2 above.Head.Op above.Head.Name above.Head.N above.Head.Kids above.Tag a 0 hR92 bo28)<|en (aI (rP (sl aY o28))<|aI (up (n:=0) (aj fK o28))<|aI (rL [])<|trivial)
  exact C.evGp (A:=qaR) mixed (m:=1000) (c:=qeB) rfl call41 func41 rfl z<|by kernel_rfl
def y3:((ai×aO×waE)->Option waE)->(ai×aO×waE)->Option waE:=fun(rec:(ai×aO×waE)->Option waE) (x:ai×aO×waE)=>y2 (fun c above a=>rec (c,above,a)) x.1 x.2.1 x.2.2
def Db(c:ai)(above:aO)(a:waE):Option waE:=kK y3 (c,above,a)
theorem Iu{c:ai}{above:aO}{a:waE}{r:waE}(h:Db c above a=some r):C Pg GE 41 [.agg (au c),.agg (aY above),sl aY a] [((2,0),62)] [] (sl aY r) [(0,62)] []:=
 cG (F:=y3) (M:=fun(x:ai×aO×waE) (r:waE)=>C Pg GE 41 [.agg (au x.1),.agg (aY x.2.1),sl aY x.2.2] [((2,0),62)] [] (sl aY r) [(0,62)] []) (fun rec hrec x r h=>GX _ (fun c above a r h=>hrec (c,above,a) r h) h) h
noncomputable def qlN:Code:=f17.body.getD .skip
def qlx:List Nat:=[]
def vq(c:ai):Option waE:=
 (Db c (⟨([]:List cM),([]:List aa),(⟨0,([]:af),0,([]:List aa)⟩:aa),0⟩:aO) ([]:List aO)).bind fun r1=>
 some r1
theorem xQ{c:ai}{r:waE}(h:vq c=some r):CC Pg GE 17 [.agg (au c)] (sl aY r) [(0,62)]:=by
 obtain⟨r1,br1,h⟩:=ay h
 obtain rfl:=lf h
 have z:=se (rN c)<|sv (ja c)<|sb (Va) (U8)<|si (.cg ⟨[],[.agg (au c),.agg (aY (⟨([]:List cM),([]:List aa),(⟨0,([]:af),0,([]:List aa)⟩:aa),0⟩:aO)),sl aY ([]:List aO)],[⟨2,1000000,0,62⟩],[],[],[],[],sl aY r1,sl aY r1,[(0,62)]⟩) (Iu br1)<|sf (aI (xR [] (.agg (au c)) (aX c)) (aI (xR [] (.agg (aY (⟨([]:List cM),([]:List aa),(⟨0,([]:af),0,([]:List aa)⟩:aa),0⟩:aO))) (fK (⟨([]:List cM),([]:List aa),(⟨0,([]:af),0,([]:List aa)⟩:aa),0⟩:aO))) (aI (xR [] (sl aY ([]:List aO)) (aj fK ([]:List aO))) trivial)))<|sf trivial<|sf trivial<|sf (xR [] (sl aY r1) (aj fK r1))<|en (aI (rP (sl aY r1))<|(aj fK r1))
 exact bO qlx call17 func17 (c:=qlN) rfl (aI (aX c) trivial) z<|by kernel_rfl
noncomputable def qez:Code:=f11.body.getD .skip
def Yt:List Nat:=[]
section
variable(e:Int)(v:waE)(f:Int)(m:waB)(m2:Int)(m3:af)(m4:waC)(m5:waA)(m6:Int)(m7:af)(m8:Int)(m9:waB)(m10:waB)(m11:Int)(m12:af)(m13:waC)(m14:waA)(m15:Int)(m16:af)(m17:Int)(m18:waB)(m19:waB)(m20:Int)(m21:af)(m22:af)(m23:Int)(m24:af)(m25:Int)(m26:waB)(m27:Int)(m28:waD)(m29:Int)(m30:af)(m31:af)(m32:Int)(m33:af)(m34:Int)(m35:waB)(m36:Int)(m37:waD)
def PU:aC:=be 165 [(2,.bptr 1 0),(3,.bptr 2 0),(4,.bptr 3 0),(6,.int .i64 e),(7,sl aY v),(9,.int .i64 f)] [.cells [.int .i64 1,.str ([]:af),.int .i64 1,sl ac m] [(3,36)],.cells [.int .i64 1,.str ([]:af),.int .i64 0,sl ac m] [(3,36)],.cells [.int .i64 m2,.str m3,sl ag m4,sl cS m5,.int .i64 m6,.str m7,.int .i64 m8,sl ac m9,sl ac m10] [(2,38),(3,9),(8,36)],.cells [.int .i64 m11,.str m12,sl ag m13,sl cS m14,.int .i64 m15,.str m16,.int .i64 m17,sl ac m18,sl ac m19] [(2,38),(3,9),(8,36)],.cells [.int .i64 m20,.str m21,.str m22,.int .i64 m23,.str m24,.int .i64 m25,sl ac m26,.int .i64 m27,sl au m28] [],.cells [.int .i64 m29,.str m30,.str m31,.int .i64 m32,.str m33,.int .i64 m34,sl ac m35,.int .i64 m36,sl au m37] []] [((7,0),62)]
def fY(o:Bool):aC:=be 165 [(2,.bptr 1 0),(3,.bptr 2 0),(4,.bptr 3 0),(86,.bool o)] [.cells [.int .i64 1,.str ([]:af),.int .i64 1,sl ac m] [(3,36)],.cells [.int .i64 1,.str ([]:af),.int .i64 0,sl ac m] [(3,36)],.cells [.int .i64 m2,.str m3,sl ag m4,sl cS m5,.int .i64 m6,.str m7,.int .i64 m8,sl ac m9,sl ac m10] [(2,38),(3,9),(8,36)],.cells [.int .i64 m11,.str m12,sl ag m13,sl cS m14,.int .i64 m15,.str m16,.int .i64 m17,sl ac m18,sl ac m19] [(2,38),(3,9),(8,36)],.cells [.int .i64 m20,.str m21,.str m22,.int .i64 m23,.str m24,.int .i64 m25,sl ac m26,.int .i64 m27,sl au m28] [],.cells [.int .i64 m29,.str m30,.str m31,.int .i64 m32,.str m33,.int .i64 m34,sl ac m35,.int .i64 m36,sl au m37] []] []
def JQ:Option Bool:=
 if(e !=0)=true then
  some true
 else
  if(f !=12)=true then
   some true
  else
   if((v.length:Int)!=1)=true then
    some true
   else
    (cz v 0).bind fun x15=>
    if(x15.Tag !=4)=true then
     some true
    else
     (cz v 0).bind fun x18=>
     if((x18.Vars.length:Int)!=1)=true then
      some true
     else
      (cz v 0).bind fun x21=>
      (cz x21.Vars 0).bind fun x22=>
      if(!(x22.Name==([118,49]:af)))=true then
       some true
      else
       (cz v 0).bind fun x25=>
       (kj ([118,49]:af)).bind fun r26=>
       (Ge 12 (⟨1,([]:af),0,m⟩:aa) r26).bind fun r27=>
       (qT x25.Head r27).bind fun r28=>
       some (!r28)
theorem N8{x:Bool}(h:JQ e v f m=some x):aV Pg GE 0 (cA qez 508) (EX .normal (fY m m2 m3 m4 m5 m6 m7 m8 m9 m10 m11 m12 m13 m14 m15 m16 m17 m18 m19 m20 m21 m22 m23 m24 m25 m26 m27 m28 m29 m30 m31 m32 m33 m34 m35 m36 m37 x)) (PU e v f m m2 m3 m4 m5 m6 m7 m8 m9 m10 m11 m12 m13 m14 m15 m16 m17 m18 m19 m20 m21 m22 m23 m24 m25 m26 m27 m28 m29 m30 m31 m32 m33 m34 m35 m36 m37):=by
 rcases bj h with⟨c10,h⟩|⟨c10,h⟩
 ·obtain rfl:=lf h
  exact cf Yt (lK [0,1,3,7,15,31,63,127,255,511,1023,2047,4095,8191,16383,32767,65535,131071,262143,524287,1048575,2097151,4194303,8388607,16777215,33554431,67108863,134217727,268435455,536870911,1073741823,2147483647,4294967295,8589934591,17179869183,34359738367,68719476735,137438953471,274877906943,549755813887,1099511627775,137438953471,137438953471,6734508720127,17592186044415,35184372088831,70368744177663]<|sg 3 c10<|eF .normal (fY m m2 m3 m4 m5 m6 m7 m8 m9 m10 m11 m12 m13 m14 m15 m16 m17 m18 m19 m20 m21 m22 m23 m24 m25 m26 m27 m28 m29 m30 m31 m32 m33 m34 m35 m36 m37 true))<|by kernel_rfl
 ·have p12:=fun{sc F} (r:PS sc F)=>lK [0,1,3,7,15,31,63,127,255,511,1023,2047,4095,8191,16383,32767,65535,131071,262143,524287,1048575,2097151,4194303,8388607,16777215,33554431,67108863,134217727,268435455,536870911,1073741823,2147483647,4294967295,8589934591,17179869183,34359738367,68719476735,137438953471,274877906943,549755813887,1099511627775,137438953471,137438953471,6734508720127,17592186044415,35184372088831,70368744177663]<|sg 3 c10<|r
  rcases bj h with⟨c11,h⟩|⟨c11,h⟩
  ·obtain rfl:=lf h
   exact cf Yt (p12<|sg 7 c11<|eF .normal (fY m m2 m3 m4 m5 m6 m7 m8 m9 m10 m11 m12 m13 m14 m15 m16 m17 m18 m19 m20 m21 m22 m23 m24 m25 m26 m27 m28 m29 m30 m31 m32 m33 m34 m35 m36 m37 true))<|by kernel_rfl
  ·have p14:=fun{sc F} (r:PS sc F)=>p12<|sg 7 c11<|cq (Oq.ln v)<|r
   rcases bj h with⟨c13,h⟩|⟨c13,h⟩
   ·obtain rfl:=lf h
    exact cf Yt (p14<|sg 12 c13<|eF .normal (fY m m2 m3 m4 m5 m6 m7 m8 m9 m10 m11 m12 m13 m14 m15 m16 m17 m18 m19 m20 m21 m22 m23 m24 m25 m26 m27 m28 m29 m30 m31 m32 m33 m34 m35 m36 m37 true))<|by kernel_rfl
   ·obtain⟨x15,bx15,h⟩:=ay h
    have p17:=fun{sc F} (r:PS sc F)=>p14<|sg 12 c13<|sv (Oq.ia (k:=.i64) bx15)<|sv (Od x15)<|sv (QL x15)<|r
    rcases bj h with⟨c16,h⟩|⟨c16,h⟩
    ·obtain rfl:=lf h
     exact cf Yt (p17<|sg 19 c16<|eF .normal (fY m m2 m3 m4 m5 m6 m7 m8 m9 m10 m11 m12 m13 m14 m15 m16 m17 m18 m19 m20 m21 m22 m23 m24 m25 m26 m27 m28 m29 m30 m31 m32 m33 m34 m35 m36 m37 true))<|by kernel_rfl
    ·obtain⟨x18,bx18,h⟩:=ay h
     have p20:=fun{sc F} (r:PS sc F)=>p17<|sg 19 c16<|sv (Oq.ia (k:=.i64) bx18)<|sv (kI x18)<|sv (kO x18)<|cq (I3.ln x18.Vars)<|r
     rcases bj h with⟨c19,h⟩|⟨c19,h⟩
     ·obtain rfl:=lf h
      exact cf Yt (p20<|sg 27 c19<|eF .normal (fY m m2 m3 m4 m5 m6 m7 m8 m9 m10 m11 m12 m13 m14 m15 m16 m17 m18 m19 m20 m21 m22 m23 m24 m25 m26 m27 m28 m29 m30 m31 m32 m33 m34 m35 m36 m37 true))<|by kernel_rfl
     ·obtain⟨x21,bx21,h⟩:=ay h
      obtain⟨x22,bx22,h⟩:=ay h
      have p24:=fun{sc F} (r:PS sc F)=>p20<|sg 27 c19<|sv (Oq.ia (k:=.i64) bx21)<|sv (kI x21)<|sv (kO x21)<|sv (I3.ia (k:=.i64) bx22)<|sv (Ad x22)<|sv (Fl x22)<|r
      rcases bj h with⟨c23,h⟩|⟨c23,h⟩
      ·obtain rfl:=lf h
       exact cf Yt (p24<|sg 37 c23<|eF .normal (fY m m2 m3 m4 m5 m6 m7 m8 m9 m10 m11 m12 m13 m14 m15 m16 m17 m18 m19 m20 m21 m22 m23 m24 m25 m26 m27 m28 m29 m30 m31 m32 m33 m34 m35 m36 m37 true))<|by kernel_rfl
      ·obtain⟨x25,bx25,h⟩:=ay h
       obtain⟨r26,br26,h⟩:=ay h
       obtain⟨r27,br27,h⟩:=ay h
       obtain⟨r28,br28,h⟩:=ay h
       obtain rfl:=lf h
       exact cf Yt (p24<|sg 37 c23<|sv (Oq.ia (k:=.i64) bx25)<|sv (Dc x25)<|sv (Di x25)<|sv (bX (⟨1,([]:af),0,m⟩:aa) [])<|bz (iL br26)<|bz (xJ br27)<|bz (uj br28)<|eF .normal (fY m m2 m3 m4 m5 m6 m7 m8 m9 m10 m11 m12 m13 m14 m15 m16 m17 m18 m19 m20 m21 m22 m23 m24 m25 m26 m27 m28 m29 m30 m31 m32 m33 m34 m35 m36 m37 (!r28)))<|by kernel_rfl
end
def Gd:Option Bool:=
 (kj ([118]:af)).bind fun r1=>
 (Ge 10 r1 (⟨1,([]:af),1,([]:List aa)⟩:aa)).bind fun r2=>
 (uo r2).bind fun r3=>
 (kj ([118]:af)).bind fun r4=>
 (Ge 12 (⟨1,([]:af),0,([]:List aa)⟩:aa) r4).bind fun r5=>
 (uo r5).bind fun r6=>
 (kg (⟨([]:List ed),([]:List su),([]:List eB),([]:List gT),([]:List vV),([]:List sD)⟩:aG) r3 r6 4 ([]:List af)).bind fun r7=>
 (vq r7.1).bind fun r8=>
 (kg (⟨([]:List ed),([]:List su),([]:List eB),([]:List gT),([]:List vV),([]:List sD)⟩:aG) (⟨r3.Op,r3.Name,r3.Args,r3.Names,r3.Pred,r3.Preds⟩:ae) (⟨2,([]:af),([]:List ae),([]:List af),(⟨0,([]:af),0,([]:List aa)⟩:aa),([]:List aa)⟩:ae) 0 ([]:List af)).bind fun r9=>
 (JQ r7.2 r8 r9.2 ([]:List aa)).bind fun o29=>
 if o29=true then
  some false
 else
  (uo (⟨0,([]:af),0,([]:List aa)⟩:aa)).bind fun r32=>
  (kj ([120]:af)).bind fun r33=>
  (kj ([118]:af)).bind fun r34=>
  (Ge 12 r33 r34).bind fun r35=>
  (uo r35).bind fun r36=>
  (kg (⟨([]:List ed),([]:List su),([]:List eB),([]:List gT),([]:List vV),([]:List sD)⟩:aG) (⟨6,([]:af),([r32,r36]:List ae),([([120]:af)]:List af),(⟨0,([]:af),0,([]:List aa)⟩:aa),([]:List aa)⟩:ae) (⟨6,([]:af),([(⟨r6.Op,r6.Name,r6.Args,r6.Names,r6.Pred,r6.Preds⟩:ae),(⟨r6.Op,r6.Name,r6.Args,r6.Names,r6.Pred,r6.Preds⟩:ae)]:List ae),([([121]:af)]:List af),(⟨0,([]:af),0,([]:List aa)⟩:aa),([]:List aa)⟩:ae) 0 ([([118,49]:af)]:List af)).bind fun r37=>
  (vq r37.1).bind fun r38=>
  if (r37.2 == 0) = true then
   if ((r38.length:Int) == 1) = true then
    (cz r38 0).bind fun x43=>
    if ((x43.Vars.length:Int) == 2) = true then
     (cz r38 0).bind fun x46=>
     (cz x46.Vars 0).bind fun x47=>
     if (x47.Name == ([121]:af)) = true then
      (cz r38 0).bind fun x50=>
      (cz x50.Vars 1).bind fun x51=>
      if (x51.Name == ([118,49,49]:af)) = true then
       (cz r38 0).bind fun x54=>
       (kj ([118,49,49]:af)).bind fun r55=>
       (Ge 12 (⟨1,([]:af),0,([]:List aa)⟩:aa) r55).bind fun r56=>
       (qT x54.Head r56).bind fun r57=>
       if r57=true then
        (jh (⟨r3.Op,r3.Name,r3.Args,r3.Names,r3.Pred,r3.Preds⟩:ae)).bind fun r60=>
        if r60=true then
         (jh (⟨6,([]:af),([r32,r36]:List ae),([([120]:af)]:List af),(⟨0,([]:af),0,([]:List aa)⟩:aa),([]:List aa)⟩:ae)).bind fun r63=>
         some (!r63)
        else
         some false
       else
        some false
      else
       some false
     else
      some false
    else
     some false
   else
    some false
  else
   some false
theorem JR{r:Bool}(h:Gd=some r):CC Pg GE 11 [] (.bool r) []:=by
 obtain⟨r1,br1,h⟩:=ay h
 obtain⟨r2,br2,h⟩:=ay h
 obtain⟨r3,br3,h⟩:=ay h
 obtain⟨r4,br4,h⟩:=ay h
 obtain⟨r5,br5,h⟩:=ay h
 obtain⟨r6,br6,h⟩:=ay h
 obtain⟨r7,br7,h⟩:=ay h
 obtain⟨r8,br8,h⟩:=ay h
 obtain⟨r9,br9,h⟩:=ay h
 obtain⟨o29,bo29,h⟩:=ay h
 have p31:=fun{sc F} (r:PS sc F)=>sb (ry 1 1) (rv 1 1)<|sb (P5 1) (P2 1)<|sx ib<|sx ib<|sy (aK (⟨1,([]:af),1,([]:List aa)⟩:aa))<|sy (aK (⟨1,([]:af),0,([]:List aa)⟩:aa))<|lK [0,0,3,7,0,15,63,127,0,0,1023,2047]<|bz (iL br1)<|sv (bX (⟨1,([]:af),1,([]:List aa)⟩:aa) [])<|bz (xJ br2)<|bz (rt br3)<|sv (bX (⟨1,([]:af),0,([]:List aa)⟩:aa) [])<|bz (iL br4)<|bz (xJ br5)<|bz (rt br6)<|qcq (ez r3)<|qcq (ez r6)<|sb (Cs) (Cr)<|sv (cX r3 [])<|sv (cX r6 [])<|bz (ni br7)<|sx nK<|sx (cj r7.1)<|sv (dA r7.1 [])<|bz (xQ br8)<|sb (Cs) (Cr)<|sv (cX (⟨r3.Op,r3.Name,r3.Args,r3.Names,r3.Pred,r3.Preds⟩:ae) [])<|sb (YN 2) (YL 2)<|bz (ni br9)<|sx nK<|sx (cj r9.1)<|ka 1<|cY (N8 r7.2 r8 r9.2 ([]:List aa) r3.Op r3.Name r3.Args r3.Names r3.Pred.Op r3.Pred.Name r3.Pred.N r3.Pred.Kids r3.Preds r6.Op r6.Name r6.Args r6.Names r6.Pred.Op r6.Pred.Name r6.Pred.N r6.Pred.Kids r6.Preds r7.1.Op r7.1.Name r7.1.Sort_ r7.1.Pred.Op r7.1.Pred.Name r7.1.Pred.N r7.1.Pred.Kids r7.1.Tag r7.1.Kids r9.1.Op r9.1.Name r9.1.Sort_ r9.1.Pred.Op r9.1.Pred.Name r9.1.Pred.N r9.1.Pred.Kids r9.1.Tag r9.1.Kids bo29)<|r
 rcases bj h with⟨c30,h⟩|⟨c30,h⟩
 ·obtain rfl:=lf h
  have z:=p31<|sg 0 c30<|en (aI (rP (.bool false))<|trivial)
  exact bO Yt call11 func11 (c:=qez) rfl trivial z<|by kernel_rfl
 ·obtain ⟨r32,br32,h⟩:=ay h
  obtain⟨r33,br33,h⟩:=ay h
  obtain⟨r34,br34,h⟩:=ay h
  obtain⟨r35,br35,h⟩:=ay h
  obtain⟨r36,br36,h⟩:=ay h
  obtain⟨r37,br37,h⟩:=ay h
  obtain⟨r38,br38,h⟩:=ay h
  have p40:=fun{sc F} (r:PS sc F)=>p31<|sg 0 c30<|sv (bq.mk' (v:=PVal.str) Fs ([([120]:af)]:List af) 1 (by kernel_rfl))<|sb (tb) (ta)<|bz (rt br32)<|bz (iL br33)<|bz (iL br34)<|bz (xJ br35)<|bz (rt br36)<|sv (ct.mk' (v:=jG) eO ([r32,r36]:List ae) 2 (by kernel_rfl))<|sb (E6 6 ([([120]:af)]:List af) ([r32,r36]:List ae)) (E4 6 ([([120]:af)]:List af) ([r32,r36]:List ae))<|sx tu<|sy (bu (⟨6,([]:af),([r32,r36]:List ae),([([120]:af)]:List af),(⟨0,([]:af),0,([]:List aa)⟩:aa),([]:List aa)⟩:ae))<|sv (bq.mk' (v:=PVal.str) Fs ([([121]:af)]:List af) 1 (by kernel_rfl))<|sv (cX (⟨r6.Op,r6.Name,r6.Args,r6.Names,r6.Pred,r6.Preds⟩:ae) [])<|sv (cX (⟨r6.Op,r6.Name,r6.Args,r6.Names,r6.Pred,r6.Preds⟩:ae) [])<|sv (ct.mk' (v:=jG) eO ([(⟨r6.Op,r6.Name,r6.Args,r6.Names,r6.Pred,r6.Preds⟩:ae),(⟨r6.Op,r6.Name,r6.Args,r6.Names,r6.Pred,r6.Preds⟩:ae)]:List ae) 2 (by kernel_rfl))<|sb (E6 6 ([([121]:af)]:List af) ([(⟨r6.Op,r6.Name,r6.Args,r6.Names,r6.Pred,r6.Preds⟩:ae),(⟨r6.Op,r6.Name,r6.Args,r6.Names,r6.Pred,r6.Preds⟩:ae)]:List ae)) (E4 6 ([([121]:af)]:List af) ([(⟨r6.Op,r6.Name,r6.Args,r6.Names,r6.Pred,r6.Preds⟩:ae),(⟨r6.Op,r6.Name,r6.Args,r6.Names,r6.Pred,r6.Preds⟩:ae)]:List ae))<|sx tu<|sy (bu (⟨6,([]:af),([(⟨r6.Op,r6.Name,r6.Args,r6.Names,r6.Pred,r6.Preds⟩:ae),(⟨r6.Op,r6.Name,r6.Args,r6.Names,r6.Pred,r6.Preds⟩:ae)]:List ae),([([121]:af)]:List af),(⟨0,([]:af),0,([]:List aa)⟩:aa),([]:List aa)⟩:ae))<|sb (Cs) (Cr)<|sv (cX (⟨6,([]:af),([r32,r36]:List ae),([([120]:af)]:List af),(⟨0,([]:af),0,([]:List aa)⟩:aa),([]:List aa)⟩:ae) [])<|sv (cX (⟨6,([]:af),([(⟨r6.Op,r6.Name,r6.Args,r6.Names,r6.Pred,r6.Preds⟩:ae),(⟨r6.Op,r6.Name,r6.Args,r6.Names,r6.Pred,r6.Preds⟩:ae)]:List ae),([([121]:af)]:List af),(⟨0,([]:af),0,([]:List aa)⟩:aa),([]:List aa)⟩:ae) [])<|sv (bq.mk' (v:=PVal.str) Fs ([([118,49]:af)]:List af) 1 (by kernel_rfl))<|bz (ni br37)<|sx nK<|sx (cj r37.1)<|sv (dA r37.1 [])<|bz (xQ br38)<|lK [0,1,3,7,15,31,63,127,255,511,1023,2047,4095,8191,16383,32767,65535,131071,262143,524287,1048575,2097151,4194303,8388607,16777215,33554431,67108863,134217727,268435455,536870911,1073741823,2147483647,4294967295,8589934591,17179869183,34359738367,68719476735,137438953471,274877906943,549755813887,68719476735,68719476735,3367254360063,8796093022207,17592186044415,35184372088831,70368744177663,140737488355327,281474976710655,562949953421311,1125899906842623,2251799813685247,4503599627370495,9007199254740991,18014398509481983]<|r
  rcases bj h with⟨c39,h⟩|⟨c39,h⟩
  ·have p42:=fun{sc F} (r:PS sc F)=>p40<|sg 3 c39<|cq (Oq.ln r38)<|r
   rcases bj h with⟨c41,h⟩|⟨c41,h⟩
   ·obtain⟨x43,bx43,h⟩:=ay h
    have p45:=fun{sc F} (r:PS sc F)=>p42<|sg 8 c41<|sv (Oq.ia (k:=.i64) bx43)<|sv (kI x43)<|sv (kO x43)<|cq (I3.ln x43.Vars)<|r
    rcases bj h with⟨c44,h⟩|⟨c44,h⟩
    ·obtain⟨x46,bx46,h⟩:=ay h
     obtain⟨x47,bx47,h⟩:=ay h
     have p49:=fun{sc F} (r:PS sc F)=>p45<|sg 16 c44<|sv (Oq.ia (k:=.i64) bx46)<|sv (kI x46)<|sv (kO x46)<|sv (I3.ia (k:=.i64) bx47)<|sv (Ad x47)<|sv (Fl x47)<|r
     rcases bj h with⟨c48,h⟩|⟨c48,h⟩
     ·obtain⟨x50,bx50,h⟩:=ay h
      obtain⟨x51,bx51,h⟩:=ay h
      have p53:=fun{sc F} (r:PS sc F)=>p49<|sg 26 c48<|sv (Oq.ia (k:=.i64) bx50)<|sv (kI x50)<|sv (kO x50)<|sv (I3.ia (k:=.i64) bx51)<|sv (Ad x51)<|sv (Fl x51)<|r
      rcases bj h with⟨c52,h⟩|⟨c52,h⟩
      ·obtain⟨x54,bx54,h⟩:=ay h
       obtain⟨r55,br55,h⟩:=ay h
       obtain⟨r56,br56,h⟩:=ay h
       obtain⟨r57,br57,h⟩:=ay h
       have p59:=fun{sc F} (r:PS sc F)=>p53<|sg 36 c52<|sv (Oq.ia (k:=.i64) bx54)<|sv (Dc x54)<|sv (Di x54)<|sv (bX (⟨1,([]:af),0,([]:List aa)⟩:aa) [])<|bz (iL br55)<|bz (xJ br56)<|bz (uj br57)<|r
       rcases bj h with⟨c58,h⟩|⟨c58,h⟩
       ·obtain⟨r60,br60,h⟩:=ay h
        have p62:=fun{sc F} (r:PS sc F)=>p59<|sg 46 c58<|sv (cX (⟨r3.Op,r3.Name,r3.Args,r3.Names,r3.Pred,r3.Preds⟩:ae) [])<|bz (kZ br60)<|r
        rcases bj h with⟨c61,h⟩|⟨c61,h⟩
        ·obtain⟨r63,br63,h⟩:=ay h
         obtain rfl:=lf h
         have z:=p62<|sg 50 c61<|sv (cX (⟨6,([]:af),([r32,r36]:List ae),([([120]:af)]:List af),(⟨0,([]:af),0,([]:List aa)⟩:aa),([]:List aa)⟩:ae) [])<|bz (kZ br63)<|en (aI (rP (.bool (!r63)))<|trivial)
         exact bO Yt call11 func11 (c:=qez) rfl trivial z<|by kernel_rfl
        ·obtain rfl:=lf h
         have z:=p62<|sg 50 c61<|en (aI (rP (.bool false))<|trivial)
         exact bO Yt call11 func11 (c:=qez) rfl trivial z<|by kernel_rfl
       ·obtain rfl:=lf h
        have z:=p59<|sg 46 c58<|en (aI (rP (.bool false))<|trivial)
        exact bO Yt call11 func11 (c:=qez) rfl trivial z<|by kernel_rfl
      ·obtain rfl:=lf h
       have z:=p53<|sg 36 c52<|en (aI (rP (.bool false))<|trivial)
       exact bO Yt call11 func11 (c:=qez) rfl trivial z<|by kernel_rfl
     ·obtain rfl:=lf h
      have z:=p49<|sg 26 c48<|en (aI (rP (.bool false))<|trivial)
      exact bO Yt call11 func11 (c:=qez) rfl trivial z<|by kernel_rfl
    ·obtain rfl:=lf h
     have z:=p45<|sg 16 c44<|en (aI (rP (.bool false))<|trivial)
     exact bO Yt call11 func11 (c:=qez) rfl trivial z<|by kernel_rfl
   ·obtain rfl:=lf h
    have z:=p42<|sg 8 c41<|en (aI (rP (.bool false))<|trivial)
    exact bO Yt call11 func11 (c:=qez) rfl trivial z<|by kernel_rfl
  ·obtain rfl:=lf h
   have z:=p40<|sg 3 c39<|en (aI (rP (.bool false))<|trivial)
   exact bO Yt call11 func11 (c:=qez) rfl trivial z<|by kernel_rfl
abbrev nA:=(aG->ae->ae->Int->waA->Option (ai×Int))
abbrev K7(R:nA):Prop:=∀(m:aG) (a:ae) (a2:ae) (tag:Int) (used:waA) (r:ai×Int),R m a a2 tag used=some r->CC Pg GE 13 [.agg (aB m),.agg (ag a),.agg (ag a2),.int .i64 tag,sl cS used] (.tuple [.agg (au r.1),.int .i64 r.2]) []
abbrev Ch:=(ae->ae->Option Bool)
abbrev HL(R:Ch):Prop:=∀(a:ae) (a2:ae) (r:Bool),R a a2=some r->CC Pg GE 36 [.agg (ag a),.agg (ag a2)] (.bool r) []
noncomputable def qhH:Code:=f36.body.getD .skip
def qeM:List Nat:=[32]
section
variable(v:ae)(v2:ae)
def R1:aC:=be 46 [(2,.eptr (ag v)),(3,.eptr (ag v2))] [.dead,.dead] []
def tH(o:Bool):aC:=be 46 [(2,.eptr (ag v)),(3,.eptr (ag v2)),(26,.bool o)] [.dead,.dead] []
def Eh:Option Bool:=
 if(v.Op !=v2.Op)=true then
  some true
 else
  if(!(v.Name==v2.Name))=true then
   some true
  else
   some ((v.Args.length:Int)!=(v2.Args.length:Int))
theorem Ph{x:Bool}(h:Eh v v2=some x):aV Pg GE 0 (cA qhH 12) (EX .normal (tH v v2 x)) (R1 v v2):=by
 have p2:=fun{sc F} (r:PS sc F)=>sv (aD v)<|sv (aE v)<|sv (aD v2)<|sv (aE v2)<|r
 rcases bj h with⟨c1,h⟩|⟨c1,h⟩
 ·obtain rfl:=lf h
  exact cf qeM (p2<|sg 6 c1<|eF .normal (tH v v2 true))<|by kernel_rfl
 ·have p4:=fun{sc F} (r:PS sc F)=>p2<|sg 6 c1<|sv (cx v)<|sv (cT v)<|sv (cx v2)<|sv (cT v2)<|r
  rcases bj h with⟨c3,h⟩|⟨c3,h⟩
  ·obtain rfl:=lf h
   exact cf qeM (p4<|sg 13 c3<|eF .normal (tH v v2 true))<|by kernel_rfl
  ·obtain rfl:=lf h
   exact cf qeM (p4<|sg 13 c3<|sv (aL v)<|sv (aM v)<|cq (ct.ln v.Args)<|sv (aL v2)<|sv (aM v2)<|cq (ct.ln v2.Args)<|eF .normal (tH v v2 ((v.Args.length:Int)!=(v2.Args.length:Int))))<|by kernel_rfl
end
section
variable(R95:Ch)(v:ae)(v2:ae)(t29:Int)(t30:Int)
def oL:aC:=be 46 [(2,.eptr (ag v)),(3,.eptr (ag v2)),(29,.int .i64 t29),(30,.int .i64 t30)] [.dead,.dead] []
def oM(o:Unit⊕(Unit)):Exit:=match o with
 |(.inl _)=>.ret
 |(.inr _)=>.exit 0
def lp(o:Unit⊕(Unit)):aC:=match o with
 |(.inl o)=>be 46 [(4,.bool false)] [.dead,.dead] []
 |(.inr o)=>be 46 [] [.dead,.dead] []
def zG:Option (Int⊕(Unit⊕(Unit))):=
 if(decide (t30<t29))=true then
  (cz v.Args t30).bind fun x9=>
  (cz v2.Args t30).bind fun x10=>
  (R95 x9 x10).bind fun r11=>
  if(!r11)=true then
   some (.inr (.inl ()))
  else
   some (.inl (aS (t30+1)))
 else
  some (.inr (.inr ()))
def Ei:Option (Unit⊕(Unit)):=loop (fun(zz:Int)=>zG R95 v v2 t29 zz) t30
theorem Nq(hR95:HL R95){y:Int⊕(Unit⊕(Unit))}(h:zG R95 v v2 t29 t30=some y):aV Pg GE 0 (cA qhH 119) (LQ (fun(zz:Int)=>oL v v2 t29 zz) oM lp y) (oL v v2 t29 t30):=by
 rcases bj h with⟨c8,h⟩|⟨c8,h⟩
 ·obtain⟨x9,bx9,h⟩:=ay h
  obtain⟨x10,bx10,h⟩:=ay h
  obtain⟨r11,br11,h⟩:=ay h
  have p13:=fun{sc F} (r:PS sc F)=>sg 0 c8<|lK [0,1,0,7,15,0,32,0,224,480,1023,2047]<|sv (aL v)<|sv (aM v)<|sv (ct.ia (k:=.i64) bx9)<|sv (aN x9)<|sv (aL v2)<|sv (aM v2)<|sv (ct.ia (k:=.i64) bx10)<|sv (aN x10)<|bz (hR95 _ _ _ br11)<|r
  rcases bj h with⟨c12,h⟩|⟨c12,h⟩
  ·obtain rfl:=lf h
   have z:=p13<|sg 0 c12<|eF (oM (.inl ())) (lp (.inl ()))
   exact gg qeM (by intro hx;cases hx) z<|by kernel_rfl
  ·obtain rfl:=lf h
   exact oo qeM (p13<|sg 0 c12<|eF .normal (oL v v2 t29 (aS (t30+1))))<|by kernel_rfl
 ·obtain rfl:=lf h
  have z:=sg 0 c8<|eF (oM (.inr ())) (lp (.inr ()))
  exact gg qeM (by intro hx;cases hx) z<|by kernel_rfl
theorem Ej(hR95:HL R95){x:Unit⊕(Unit)}(h:Ei R95 v v2 t29 t30=some x):aV Pg GE 0 (.loop (cA qhH 119)) (EX (oM x) (lp x)) (oL v v2 t29 t30):=
 aV.loop (S:=fun(zz:Int)=>oL v v2 t29 zz) (ex:=oM) (s:=t30) h fun zz y hy=>Nq R95 v v2 t29 zz hR95 hy
end
def BN(R95:Ch)(a:ae)(a2:ae):Option Bool:=
 (Eh a a2).bind fun o5=>
 if o5=true then
  some false
 else
  (Ei R95 a a2 (a.Args.length:Int) 0).bind fun o14=>match o14 with
  |(.inl o14)=>
   some false
  |(.inr o14)=>
   some true
theorem UM(R95:Ch)(hR95:HL R95){a:ae}{a2:ae}{r:Bool}(h:BN R95 a a2=some r):CC Pg GE 36 [.agg (ag a),.agg (ag a2)] (.bool r) []:=by
 obtain⟨o5,bo5,h⟩:=ay h
 have p7:=fun{sc F} (r:PS sc F)=>se (bw a)<|se (bw a2)<|ka 1<|cY (Ph a a2 bo5)<|r
 rcases bj h with⟨c6,h⟩|⟨c6,h⟩
 ·obtain rfl:=lf h
  have z:=p7<|sg 0 c6<|en (aI (rP (.bool false))<|trivial)
  exact bO qeM call36 func36 (c:=qhH) rfl (aI (ak a) (aI (ak a2) trivial)) z<|by kernel_rfl
 ·obtain⟨o14,bo14,h⟩:=ay h
  rcases o14 with o14|o14
  ·obtain rfl:=lf h
   have z:=p7<|sg 0 c6<|sv (aL a)<|sv (aM a)<|cq (ct.ln a.Args)<|cY (e:=.ret) (s1:=lp (.inl o14)) (Ej R95 a a2 (a.Args.length:Int) 0 hR95 bo14)<|en (aI (rP (.bool false))<|trivial)
   exact bO qeM call36 func36 (c:=qhH) rfl (aI (ak a) (aI (ak a2) trivial)) z<|by kernel_rfl
  ·obtain rfl:=lf h
   have z:=p7<|sg 0 c6<|sv (aL a)<|sv (aM a)<|cq (ct.ln a.Args)<|cY (e:=.exit 0) (s1:=lp (.inr o14)) (Ej R95 a a2 (a.Args.length:Int) 0 hR95 bo14)<|en (aI (rP (.bool true))<|trivial)
   exact bO qeM call36 func36 (c:=qhH) rfl (aI (ak a) (aI (ak a2) trivial)) z<|by kernel_rfl
def HY:((ae×ae)->Option Bool)->(ae×ae)->Option Bool:=fun(rec:(ae×ae)->Option Bool) (x:ae×ae)=>BN (fun a a2=>rec (a,a2)) x.1 x.2
def Pf(a:ae)(a2:ae):Option Bool:=kK HY (a,a2)
theorem WI{a:ae}{a2:ae}{r:Bool}(h:Pf a a2=some r):CC Pg GE 36 [.agg (ag a),.agg (ag a2)] (.bool r) []:=
 cG (F:=HY) (M:=fun(x:ae×ae) (r:Bool)=>CC Pg GE 36 [.agg (ag x.1),.agg (ag x.2)] (.bool r) []) (fun rec hrec x r h=>UM _ (fun a a2 r h=>hrec (a,a2) r h) h) h
noncomputable def qju:Code:=f24.body.getD .skip
def qjh:List Nat:=[]
def EV(t:ae):Option Bool:=
 if(t.Op==1)=true then
  some true
 else
  if(t.Op==2)=true then
   some true
  else
   if(t.Op==3)=true then
    some true
   else
    some (t.Op==4)
theorem EW{t:ae}{r:Bool}(h:EV t=some r):CC Pg GE 24 [.agg (ag t)] (.bool r) []:=by
 have p2:=fun{sc F} (r:PS sc F)=>se (bw t)<|sv (aD t)<|sv (aE t)<|r
 rcases bj h with⟨c1,h⟩|⟨c1,h⟩
 ·obtain rfl:=lf h
  have z:=p2<|sg 4 c1<|en (aI (rP (.bool true))<|trivial)
  exact bO qjh call24 func24 (c:=qju) rfl (aI (ak t) trivial) z<|by kernel_rfl
 ·have p4:=fun{sc F} (r:PS sc F)=>p2<|sg 4 c1<|sv (aD t)<|sv (aE t)<|r
  rcases bj h with⟨c3,h⟩|⟨c3,h⟩
  ·obtain rfl:=lf h
   have z:=p4<|sg 9 c3<|en (aI (rP (.bool true))<|trivial)
   exact bO qjh call24 func24 (c:=qju) rfl (aI (ak t) trivial) z<|by kernel_rfl
  ·have p6:=fun{sc F} (r:PS sc F)=>p4<|sg 9 c3<|sv (aD t)<|sv (aE t)<|r
   rcases bj h with⟨c5,h⟩|⟨c5,h⟩
   ·obtain rfl:=lf h
    have z:=p6<|sg 14 c5<|en (aI (rP (.bool true))<|trivial)
    exact bO qjh call24 func24 (c:=qju) rfl (aI (ak t) trivial) z<|by kernel_rfl
   ·obtain rfl:=lf h
    have z:=p6<|sg 14 c5<|sv (aD t)<|sv (aE t)<|en (aI (rP (.bool (t.Op==4)))<|trivial)
    exact bO qjh call24 func24 (c:=qju) rfl (aI (ak t) trivial) z<|by kernel_rfl
noncomputable def qhN:Code:=f84.body.getD .skip
def qgC:List Nat:=[8,30]
section
variable(n:Int)(s:af)(m:Int)(d:Int)
def RF:aC:=be 31 [(0,.int .i64 n),(3,.str s),(4,.int .i64 m),(5,.int .i64 d)] [] []
def zv(o:Int):aC:=be 31 [(0,.int .i64 n),(3,.str s),(4,.int .i64 m),(5,.int .i64 o)] [] []
def yA:Option Int:=
 if(decide (d<0))=true then
  some (IntKind.i64.wrap (0 - d))
 else
  some d
theorem OQ{x:Int}(h:yA d=some x):aV Pg GE 0 (cA qhN 7926) (EX .normal (zv n s m x)) (RF n s m d):=by
 rcases bj h with⟨c4,h⟩|⟨c4,h⟩
 ·obtain rfl:=lf h
  exact cf qgC (sg 0 c4<|eF .normal (zv n s m (IntKind.i64.wrap (0 - d))))<|by kernel_rfl
 ·obtain rfl:=lf h
  exact cf qgC (sg 0 c4<|eF .normal (zv n s m d))<|by kernel_rfl
end
section
variable(n:Int)(s:af)(m:Int)
def oq:aC:=be 31 [(0,.int .i64 n),(3,.str s),(4,.int .i64 m)] [] []
def zw(o:af):aC:=be 31 [(0,.int .i64 n),(3,.str o)] [] []
def ou:Option ((af×Int)⊕(af)):=
 if(m !=0)=true then
  (re m 10).bind fun q3=>
  (yA q3).bind fun o5=>
  (xO ([IntKind.u8.wrap (aS (48+o5))]:List Int)).bind fun s6=>
  (qg3 s6 s).bind fun s7=>
  (qu .i64 m 10).bind fun q8=>
  some (.inl (s7,q8))
 else
  some (.inr s)
def qm:Option af:=loop (fun(zz:af×Int)=>ou zz.1 zz.2) (s,m)
theorem M4{y:(af×Int)⊕(af)}(h:ou s m=some y):aV Pg GE 0 (cA qhN 247) (LQ (fun(zz:af×Int)=>oq n zz.1 zz.2) (fun _=>.exit 0) (zw n) y) (oq n s m):=by
 rcases bj h with⟨c2,h⟩|⟨c2,h⟩
 ·obtain⟨q3,bq3,h⟩:=ay h
  obtain⟨o5,bo5,h⟩:=ay h
  obtain⟨s6,bs6,h⟩:=ay h
  obtain⟨s7,bs7,h⟩:=ay h
  obtain⟨q8,bq8,h⟩:=ay h
  obtain rfl:=lf h
  exact oo qgC (sg 0 c2<|sv (qiB (P:=Pg) (t:=3) (k:=.i64) bq3)<|ka 0<|cY (OQ n s m q3 bo5)<|sv (ql5 underlying3 underlying5 (aS (48+o5)))<|sv (qi9.mk' (v:=(PVal.int .u8)) (qmg .u8) ([IntKind.u8.wrap (aS (48+o5))]:List Int) 1 (by kernel_rfl))<|sv (ql4 underlying158 underlying9 underlying5 bs6)<|sv (Wg (P:=Pg) (t:=9) bs7)<|sv (AL (P:=Pg) (t:=3) bq8)<|eF .normal (oq n s7 q8))<|by kernel_rfl
 ·obtain rfl:=lf h
  have z:=sg 0 c2<|eF (.exit 0) (zw n s)
  exact gg qgC (by intro hx;cases hx) z<|by kernel_rfl
theorem OR{x:af}(h:qm s m=some x):aV Pg GE 0 (.loop (cA qhN 247)) (EX (.exit 0) (zw n x)) (oq n s m):=
 aV.loop (S:=fun(zz:af×Int)=>oq n zz.1 zz.2) (ex:=(fun _=>.exit 0)) (s:=(s,m)) h fun zz y hy=>M4 n zz.1 zz.2 hy
end
def Jc(n:Int):Option af:=
 if(n==0)=true then
  some ([48]:af)
 else
  (qm ([]:af) n).bind fun o9=>
  if(decide (n<0))=true then
   (qg3 ([45]:af) o9).bind fun s12=>
   some s12
  else
   some o9
theorem WA{n:Int}{r:af}(h:Jc n=some r):CC Pg GE 84 [.int .i64 n] (.str r) []:=by
 rcases bj h with⟨c1,h⟩|⟨c1,h⟩
 ·obtain rfl:=lf h
  have z:=sg 0 c1<|en (aI (rP (.str ([48]:af)))<|trivial)
  exact bO qgC call84 func84 (c:=qhN) rfl (aI trivial trivial) z<|by kernel_rfl
 ·obtain⟨o9,bo9,h⟩:=ay h
  have p11:=fun{sc F} (r:PS sc F)=>sg 0 c1<|cY (OR n ([]:af) n bo9)<|r
  rcases bj h with⟨c10,h⟩|⟨c10,h⟩
  ·obtain⟨s12,bs12,h⟩:=ay h
   obtain rfl:=lf h
   have z:=p11<|sg 0 c10<|sv (Wg (P:=Pg) (t:=9) bs12)<|en (aI (rP (.str s12))<|trivial)
   exact bO qgC call84 func84 (c:=qhN) rfl (aI trivial trivial) z<|by kernel_rfl
  ·obtain rfl:=lf h
   have z:=p11<|sg 0 c10<|en (aI (rP (.str o9))<|trivial)
   exact bO qgC call84 func84 (c:=qhN) rfl (aI trivial trivial) z<|by kernel_rfl
end Go.Proofs.YtbaamopmfmpfaaaGreatDoor
