/- PROVED: parts of the proof (G13). Conditions: none. -/
import Derived.Test.YtbaamopmfmpfaaaGreatDoorPkA26
noncomputable section
namespace Go.Proofs.YtbaamopmfmpfaaaGreatDoor
open Go
set_option linter.unusedVariables false
set_option maxRecDepth 100000
def qaE:Code:=Tryz.f114.body.getD .skip
def T1:List Nat:=[31,43,62,66,117,127]
section
variable(t:ae)(t24:waB)(t25:Int)(m:waA)(m2:waB)(m3:waC)(m4:waB)(m5:Int)(m6:ag)(m7:Int)(m8:ag)(m9:Int)(m10:waB)(t26:Int)(m11:waB)
def jS:aA:=be 139 [(2,.eptr (af t)),(3,.bptr 1 0),(4,.bptr 2 0),(5,.bptr 3 0),(24,sl ac t24),(25,.int .i64 t25),(26,.int .i64 t26)] [.dead,.cells [sl cS m,sl ac m2] [],.cells [.int .i64 0,.str ([]:ag),sl af m3,sl cS ([]:List ag),.int .i64 0,.str ([]:ag),.int .i64 0,sl ac m4,sl ac m4] [(2,38),(3,9),(7,36),(8,36)],.cells [.int .i64 m5,.str m6,sl af m3,sl cS ([]:List ag),.int .i64 m7,.str m8,.int .i64 m9,sl ac m10,sl ac m11] [(2,38),(3,9),(8,36)]] []
def sK(o:waB):aA:=be 139 [(2,.eptr (af t)),(3,.bptr 1 0),(4,.bptr 2 0),(5,.bptr 3 0)] [.dead,.cells [sl cS m,sl ac m2] [],.cells [.int .i64 0,.str ([]:ag),sl af m3,sl cS ([]:List ag),.int .i64 0,.str ([]:ag),.int .i64 0,sl ac m4,sl ac m4] [(2,38),(3,9),(7,36),(8,36)],.cells [.int .i64 m5,.str m6,sl af m3,sl cS ([]:List ag),.int .i64 m7,.str m8,.int .i64 m9,sl ac m10,sl ac o] [(2,38),(3,9),(8,36)]] []
def Ar:Option ((Int×waB)⊕(waB)):=
 if(decide (t26<t25))=true then
  (cz t24 t26).bind fun x3=>
  (nk x3 m m2).bind fun r4=>
  (app m11 ([r4]:List aa)).bind fun l5=>
  some (.inl (aR (t26+1),l5))
 else
  some (.inr m11)
def qS:Option waB:=loop (fun(zz:Int×waB)=>Ar t24 t25 m m2 zz.1 zz.2) (t26,m11)
theorem HO{y:(Int×waB)⊕(waB)}(h:Ar t24 t25 m m2 t26 m11=some y):
  aU Pg GE 0 (cA qaE 119) (LQ (fun(zz:Int×waB)=>jS t t24 t25 m m2 m3 m4 m5 m6 m7 m8 m9 m10 zz.1 zz.2) (fun _=>.exit 0) (sK t m m2 m3 m4 m5 m6 m7 m8 m9 m10) y) (jS t t24 t25 m m2 m3 m4 m5 m6 m7 m8 m9 m10 t26 m11):=by
 rcases bj h with⟨c2,h⟩|⟨c2,h⟩
 ·obtain⟨x3,bx3,h⟩:=ay h
  obtain⟨r4,br4,h⟩:=ay h
  obtain⟨l5,bl5,h⟩:=ay h
  obtain rfl:=lf h
  have z:=sg 0 c2<|sv (bL.ia (k:=.i64) bx3)<|sv (bh x3)<|sx hO<|sx (cj x3)<|lY [0,1,0,0,8,0,32,124,252,511,1023,2047]<|sv (bT x3 [])<|ss<|ss<|bz (uG br4)<|sv (bL.mk' (v:=dW) cK ([r4]:List aa) 1 (by kernel_rfl))<|sv (bL.ap bl5)<|VP (rfl:bK (sl ac l5)=some [sl ac l5])<|uz 0 .normal (jS t t24 t25 m m2 m3 m4 m5 m6 m7 m8 m9 m10 (aR (t26+1)) l5) rfl (dC (aI (ij (ak t)) (aI (cV rfl) (aI (cV rfl) (aI (cV rfl) (aI (up (aj ah t24)) (aI trivial (aI trivial trivial)))))))) (aI trivial (aI (aI (up (aj dQ m)) (aI (up (aj ah m2)) trivial)) (aI (aI trivial (aI trivial (aI (up (aj ak m3)) (aI (up (aj dQ ([]:List ag))) (aI trivial (aI trivial (aI trivial (aI (up (aj ah m4)) (aI (up (aj ah m4)) trivial))))))))) (aI (aI trivial (aI trivial (aI (up (aj ak m3)) (aI (up (aj dQ ([]:List ag))) (aI trivial (aI trivial (aI trivial (aI (up (aj ah m10)) (aI (up (aj ah l5)) trivial))))))))) trivial))))
  exact df (A:=T1) mixed z (by kernel_rfl)
 ·obtain rfl:=lf h
  have z:=sg 0 c2<|eF (.exit 0) (sK t m m2 m3 m4 m5 m6 m7 m8 m9 m10 m11)
  exact f6 T1 (by intro hx;cases hx) z (by kernel_rfl)
theorem Jd{x:waB}(h:qS t24 t25 m m2 t26 m11=some x):
  aU Pg GE 0 (.loop (cA qaE 119)) (EX (.exit 0) (sK t m m2 m3 m4 m5 m6 m7 m8 m9 m10 x)) (jS t t24 t25 m m2 m3 m4 m5 m6 m7 m8 m9 m10 t26 m11):=
 aU.loop (S:=fun(zz:Int×waB)=>jS t t24 t25 m m2 m3 m4 m5 m6 m7 m8 m9 m10 zz.1 zz.2) (ex:=(fun _=>.exit 0)) (s:=(t26,m11)) h fun zz y hy=>HO t t24 t25 m m2 m3 m4 m5 m6 m7 m8 m9 m10 zz.1 zz.2 hy
end
section
variable(t:ae)(used:waA)(i:Int)(t58:waC)(t59:Int)(m:waA)(m2:waB)(m3:waC)(m4:waB)(m5:Int)(m6:ag)(m7:waC)(n:Nat)(m8:Int)(m9:ag)(m10:Int)(m11:waB)(m12:waB)(w4:List ag)(m13:Int)(m14:ag)(m15:waC)(m16:waA)(m17:Int)(m18:ag)(m19:Int)(m20:waB)(m21:waB)
def Lj:aA:=be 139 [(2,.eptr (af t)),(3,.bptr 1 0),(4,.bptr 2 0),(5,.bptr 3 0),(8,sl cS used),(9,.int .i64 i),(58,sl af t58),(59,.int .i64 t59),(60,.int .i64 i)] [.dead,.cells [sl cS m,sl ac m2] [],.cells [.int .i64 0,.str ([]:ag),sl af m3,sl cS ([]:List ag),.int .i64 0,.str ([]:ag),.int .i64 0,sl ac m4,sl ac m4] [(2,38),(3,9),(7,36),(8,36)],.cells [.int .i64 m5,.str m6,sl af m7,.bsl 4 0 n,.int .i64 m8,.str m9,.int .i64 m10,sl ac m11,sl ac m12] [(2,38),(8,36)],.cells (pF cS w4) [],.cells [.int .i64 m13,.str m14,sl af m15,sl cS m16,.int .i64 m17,.str m18,.int .i64 m19,sl ac m20,sl ac m21] []] [((8,0),9)]
def sJ(o:Bool):aA:=be 139 [(2,.eptr (af t)),(3,.bptr 1 0),(4,.bptr 2 0),(5,.bptr 3 0),(8,sl cS used),(9,.int .i64 i),(58,sl af t58),(59,.int .i64 t59),(60,.int .i64 i),(82,.bool o)] [.dead,.cells [sl cS m,sl ac m2] [],.cells [.int .i64 0,.str ([]:ag),sl af m3,sl cS ([]:List ag),.int .i64 0,.str ([]:ag),.int .i64 0,sl ac m4,sl ac m4] [(2,38),(3,9),(7,36),(8,36)],.cells [.int .i64 m5,.str m6,sl af m7,.bsl 4 0 n,.int .i64 m8,.str m9,.int .i64 m10,sl ac m11,sl ac m12] [(2,38),(8,36)],.cells (pF cS w4) [],.cells [.int .i64 m13,.str m14,sl af m15,sl cS m16,.int .i64 m17,.str m18,.int .i64 m19,sl ac m20,sl ac m21] []] [((8,0),9)]
def xg:Option Bool:=
 if(t.Op !=6)=true then
  some true
 else
  some (decide (i>=(t.Names.length:Int)))
theorem Jc{x:Bool}(h:xg t i=some x):
  aU Pg GE 0 (cA qaE 260060) (EX .normal (sJ t used i t58 t59 m m2 m3 m4 m5 m6 m7 n m8 m9 m10 m11 m12 w4 m13 m14 m15 m16 m17 m18 m19 m20 m21 x)) (Lj t used i t58 t59 m m2 m3 m4 m5 m6 m7 n m8 m9 m10 m11 m12 w4 m13 m14 m15 m16 m17 m18 m19 m20 m21):=by
 have p17:=fun{sc F} (r:PS sc F)=>sv (aC t)<|sv (aD t)<|r
 rcases bj h with⟨c16,h⟩|⟨c16,h⟩
 ·obtain rfl:=lf h
  exact cd T1 (p17<|sg 4 c16<|eF .normal (sJ t used i t58 t59 m m2 m3 m4 m5 m6 m7 n m8 m9 m10 m11 m12 w4 m13 m14 m15 m16 m17 m18 m19 m20 m21 true)) (by kernel_rfl)
 ·obtain rfl:=lf h
  exact cd T1 (p17<|sg 4 c16<|sv (aO t)<|sv (aP t)<|cm (bp.ln t.Names)<|eF .normal (sJ t used i t58 t59 m m2 m3 m4 m5 m6 m7 n m8 m9 m10 m11 m12 w4 m13 m14 m15 m16 m17 m18 m19 m20 m21 (decide (i>=(t.Names.length:Int))))) (by kernel_rfl)
end
section
variable(R119:tA)(t:ae)(t58:waC)(t59:Int)(m3:waC)(m4:waB)(m5:Int)(m6:ag)(n:Nat)(m8:Int)(m9:ag)(m10:Int)(m11:waB)(m12:waB)(used:waA)(t60:Int)(m:waA)(m2:waB)(m7:waC)(w4:List ag)
def fH:aA:=be 139 [(2,.eptr (af t)),(3,.bptr 1 0),(4,.bptr 2 0),(5,.bptr 3 0),(8,sl cS used),(58,sl af t58),(59,.int .i64 t59),(60,.int .i64 t60)] [.dead,.cells [sl cS m,sl ac m2] [],.cells [.int .i64 0,.str ([]:ag),sl af m3,sl cS ([]:List ag),.int .i64 0,.str ([]:ag),.int .i64 0,sl ac m4,sl ac m4] [(2,38),(3,9),(7,36),(8,36)],.cells [.int .i64 m5,.str m6,sl af m7,.bsl 4 0 n,.int .i64 m8,.str m9,.int .i64 m10,sl ac m11,sl ac m12] [(2,38),(8,36)],.cells (pF cS w4) []] [((8,0),9)]
def sL(o:waA×waB×waC×List ag):aA:=be 139 [(4,.bptr 2 0),(5,.bptr 3 0)] [.dead,.cells [sl cS o.1,sl ac o.2.1] [],.cells [.int .i64 0,.str ([]:ag),sl af m3,sl cS ([]:List ag),.int .i64 0,.str ([]:ag),.int .i64 0,sl ac m4,sl ac m4] [(2,38),(3,9),(7,36),(8,36)],.cells [.int .i64 m5,.str m6,sl af o.2.2.1,.bsl 4 0 n,.int .i64 m8,.str m9,.int .i64 m10,sl ac m11,sl ac m12] [(2,38),(8,36)],.cells (pF cS o.2.2.2) []] []
def eJ:Option ((waA×Int×waA×waB×waC×List ag)⊕((waA×waB×waC×List ag))):=
 if (decide (t60 < t59)) = true then
  (cz t58 t60).bind fun x13=>
  (R119 x13 (⟨m,m2⟩:au)).bind fun r14=>
  (app m7 ([r14]:List ae)).bind fun l15=>
  (xg t t60).bind fun o18=>
  if o18=true then
   some (.inl (used,aR (t60+1),m,m2,l15,w4))
  else
   (cz t.Names t60).bind fun x21=>
   (Jf (⟨m,m2⟩:au) x21).bind fun r22=>
   (cz t.Names t60).bind fun x23=>
   (FK r22 x23).bind fun r24=>
   if r24=true then
    (cz t.Names t60).bind fun x27=>
    (sA used x27).bind fun r28=>
    (X6 n w4 t60).bind fun x29=>
    (qft w4 t60 r28).bind fun l30=>
    (qd0 n t60 (aR (t60+1))).bind fun n31=>
    (yt used t60 n31 l30).bind fun r32=>
    (cz t.Names t60).bind fun x33=>
    (app r22.Names ([x33]:List ag)).bind fun l34=>
    (X6 n l30 t60).bind fun x35=>
    (app r22.By ([(⟨3,x35,0,([]:List aa)⟩:aa)]:List aa)).bind fun l36=>
    some (.inl (r32,aR (t60+1),l34,l36,l15,l30))
   else
    some (.inl (used,aR (t60+1),r22.Names,r22.By,l15,w4))
 else
  some (.inr (m,m2,m7,w4))
def xh:Option ((waA×waB×waC×List ag)):=loop (fun(zz:waA×Int×waA×waB×waC×List ag)=>eJ R119 t t58 t59 n zz.1 zz.2.1 zz.2.2.1 zz.2.2.2.1 zz.2.2.2.2.1 zz.2.2.2.2.2) (used,t60,m,m2,m7,w4)
theorem HP(hR119:zg R119){y:(waA×Int×waA×waB×waC×List ag)⊕((waA×waB×waC×List ag))}(h:eJ R119 t t58 t59 n used t60 m m2 m7 w4=some y):
  aU Pg GE 0 (cA qaE 1015) (LQ (fun(zz:waA×Int×waA×waB×waC×List ag)=>fH t t58 t59 m3 m4 m5 m6 n m8 m9 m10 m11 m12 zz.1 zz.2.1 zz.2.2.1 zz.2.2.2.1 zz.2.2.2.2.1 zz.2.2.2.2.2) (fun _=>.exit 2) (sL m3 m4 m5 m6 n m8 m9 m10 m11 m12) y) (fH t t58 t59 m3 m4 m5 m6 n m8 m9 m10 m11 m12 used t60 m m2 m7 w4):=by
 rcases bj h with⟨c12,h⟩|⟨c12,h⟩
 ·obtain⟨x13,bx13,h⟩:=ay h
  obtain⟨r14,br14,h⟩:=ay h
  obtain⟨l15,bl15,h⟩:=ay h
  obtain⟨o18,bo18,h⟩:=ay h
  have p20:=fun{sc F} (r:PS sc F)=>sg 0 c12<|sv (ck.ia (k:=.i64) bx13)<|sv (aV x13)<|sx tc<|sx (ey x13)<|lY [0,1,0,0,12,28,63,127,255]<|sv (cU x13 [])<|sv (dV (⟨m,m2⟩:au) [])<|bz (hR119 _ _ _ br14)<|sv (ck.mk' (v:=jC) eO ([r14]:List ae) 1 (by kernel_rfl))<|sv (ck.ap bl15)<|VP (rfl:bK (sl af l15)=some [sl af l15])<|kr 1<|cW (Jc t used t60 t58 t59 m m2 m3 m4 m5 m6 l15 n m8 m9 m10 m11 m12 w4 x13.Op x13.Name x13.Args x13.Names x13.Pred.Op x13.Pred.Name x13.Pred.N x13.Pred.Kids x13.Preds bo18)<|r
  rcases bj h with⟨c19,h⟩|⟨c19,h⟩
  ·obtain rfl:=lf h
   have z:=p20<|sg 0 c19<|uz 0 .normal (fH t t58 t59 m3 m4 m5 m6 n m8 m9 m10 m11 m12 used (aR (t60+1)) m m2 l15 w4) rfl (dC (aI (ij (ak t)) (aI (cV rfl) (aI (cV rfl) (aI (cV rfl) (aI (up (aj dQ used)) (aI (up (aj ak t58)) (aI trivial (aI trivial trivial))))))))) (aI trivial (aI (aI (up (aj dQ m)) (aI (up (aj ah m2)) trivial)) (aI (aI trivial (aI trivial (aI (up (aj ak m3)) (aI (up (aj dQ ([]:List ag))) (aI trivial (aI trivial (aI trivial (aI (up (aj ah m4)) (aI (up (aj ah m4)) trivial))))))))) (aI (aI trivial (aI trivial (aI (up (aj ak l15)) (aI (cV rfl) (aI trivial (aI trivial (aI trivial (aI (up (aj ah m11)) (aI (up (aj ah m12)) trivial))))))))) (aI (qeg _ dQ w4) trivial)))))
   exact df (A:=T1) mixed z (by kernel_rfl)
  ·obtain⟨x21,bx21,h⟩:=ay h
   obtain⟨r22,br22,h⟩:=ay h
   obtain⟨x23,bx23,h⟩:=ay h
   obtain⟨r24,br24,h⟩:=ay h
   have p26:=fun{sc F} (r:PS sc F)=>p20<|sg 0 c19<|lY [0,0,2,0,14,30,63,127]<|sv (dV (⟨m,m2⟩:au) [])<|sv (aO t)<|sv (aP t)<|sv (bp.ia (k:=.i64) bx21)<|sv (dH Ba (.str x21) [])<|bz (Wr br22)<|qb2 (lX r22)<|lY [0,0,2,0,14,30,63]<|sv (dV r22 [])<|sv (aO t)<|sv (aP t)<|sv (bp.ia (k:=.i64) bx23)<|sv (dH Ba (.str x23) [])<|bz (UB br24)<|r
   rcases bj h with⟨c25,h⟩|⟨c25,h⟩
   ·obtain⟨x27,bx27,h⟩:=ay h
    obtain⟨r28,br28,h⟩:=ay h
    obtain⟨x29,bx29,h⟩:=ay h
    obtain⟨l30,bl30,h⟩:=ay h
    obtain⟨n31,bn31,h⟩:=ay h
    obtain⟨r32,br32,h⟩:=ay h
    obtain⟨x33,bx33,h⟩:=ay h
    obtain⟨l34,bl34,h⟩:=ay h
    obtain⟨x35,bx35,h⟩:=ay h
    obtain⟨l36,bl36,h⟩:=ay h
    obtain rfl:=lf h
    have z:=p26<|sg 0 c25<|qhx (.dx [0,1,0,0,0,16,0,112,240,504,1023,2047] [] [] [4])<|ss<|sv (aO t)<|sv (aP t)<|sv (bp.ia (k:=.i64) bx27)<|sv (dH Ba (.str x27) [])<|bz (Bf br28)<|sv (bp.iaN 4 (k:=.i64) bx29)<|qjv (bp.stR (E8 r28) bl30)<|ss<|sv (bp.scN 4 bn31)<|si (.cg ⟨[4],[sl cS used,.bsl 0 (lL Pg 9 t60) n31],[],[.cells (pF cS l30) []],[.cells (pF cS l30) []],[.cells (pF cS l30) []],[.cells (pF cS l30) []],sl cS r32,sl cS r32,[(0,9)]⟩) (OF br32)<|sf (aI (xR [4] (sl cS used) (aj dQ used)) (aI (xS [4] 0 4 (lL Pg 9 t60) n31 rfl) trivial))<|sf (aI (aI (rB (.cells (pF cS l30) [])) (aI (rW []) (qkx [4] _ (qeg 0 dQ l30)))) trivial)<|sf (aI (aI (rW []) (qkx [4] _ (qeg 0 dQ l30))) trivial)<|sf (xR [4] (sl cS r32) (aj dQ r32))<|lY [0,1,0,4,0,28,60,124,255,511,1023]<|sv (aO t)<|sv (aP t)<|sv (bp.ia (k:=.i64) bx33)<|sv (dH Ba (.str x33) [])<|sv (bp.mk' (v:=PVal.str) E8 ([x33]:List ag) 1 (by kernel_rfl))<|sv (bp.ap bl34)<|VP (rfl:bK (sl cS l34)=some [sl cS l34])<|lY [0,1,0,4,0,28,60,124,252,511,1023,2047]<|ss<|sv (bp.iaN 4 (k:=.i64) bx35)<|sv (bp.ldN (fun r=>dH Ba (.str x35) r) bx35)<|sb (kj 3 x35) (kh 3 x35)<|sv (bL.mk' (v:=dW) cK ([(⟨3,x35,0,([]:List aa)⟩:aa)]:List aa) 1 (by kernel_rfl))<|sv (bL.ap bl36)<|VP (rfl:bK (sl ac l36)=some [sl ac l36])<|uz 0 .normal (fH t t58 t59 m3 m4 m5 m6 n m8 m9 m10 m11 m12 r32 (aR (t60+1)) l34 l36 l15 l30) rfl (dC (aI (ij (ak t)) (aI (cV rfl) (aI (cV rfl) (aI (cV rfl) (aI (up (aj dQ r32)) (aI (up (aj ak t58)) (aI trivial (aI trivial trivial))))))))) (aI trivial (aI (aI (up (aj dQ l34)) (aI (up (aj ah l36)) trivial)) (aI (aI trivial (aI trivial (aI (up (aj ak m3)) (aI (up (aj dQ ([]:List ag))) (aI trivial (aI trivial (aI trivial (aI (up (aj ah m4)) (aI (up (aj ah m4)) trivial))))))))) (aI (aI trivial (aI trivial (aI (up (aj ak l15)) (aI (cV rfl) (aI trivial (aI trivial (aI trivial (aI (up (aj ah m11)) (aI (up (aj ah m12)) trivial))))))))) (aI (qeg _ dQ l30) trivial)))))
    exact df (A:=T1) mixed z (by kernel_rfl)
   ·obtain rfl:=lf h
    have z:=p26<|sg 0 c25<|uz 0 .normal (fH t t58 t59 m3 m4 m5 m6 n m8 m9 m10 m11 m12 used (aR (t60+1)) r22.Names r22.By l15 w4) rfl (dC (aI (ij (ak t)) (aI (cV rfl) (aI (cV rfl) (aI (cV rfl) (aI (up (aj dQ used)) (aI (up (aj ak t58)) (aI trivial (aI trivial trivial))))))))) (aI trivial (aI (aI (up (aj dQ r22.Names)) (aI (up (aj ah r22.By)) trivial)) (aI (aI trivial (aI trivial (aI (up (aj ak m3)) (aI (up (aj dQ ([]:List ag))) (aI trivial (aI trivial (aI trivial (aI (up (aj ah m4)) (aI (up (aj ah m4)) trivial))))))))) (aI (aI trivial (aI trivial (aI (up (aj ak l15)) (aI (cV rfl) (aI trivial (aI trivial (aI trivial (aI (up (aj ah m11)) (aI (up (aj ah m12)) trivial))))))))) (aI (qeg _ dQ w4) trivial)))))
    exact df (A:=T1) mixed z (by kernel_rfl)
 ·obtain rfl:=lf h
  have z:=sg 0 c12<|eF (.exit 2) (sL m3 m4 m5 m6 n m8 m9 m10 m11 m12 (m,m2,m7,w4))
  exact f6 T1 (by intro hx;cases hx) z (by kernel_rfl)
theorem Je(hR119:zg R119){x:(waA×waB×waC×List ag)}(h:xh R119 t t58 t59 n used t60 m m2 m7 w4=some x):
  aU Pg GE 0 (.loop (cA qaE 1015)) (EX (.exit 2) (sL m3 m4 m5 m6 n m8 m9 m10 m11 m12 x)) (fH t t58 t59 m3 m4 m5 m6 n m8 m9 m10 m11 m12 used t60 m m2 m7 w4):=
 aU.loop (S:=fun(zz:waA×Int×waA×waB×waC×List ag)=>fH t t58 t59 m3 m4 m5 m6 n m8 m9 m10 m11 m12 zz.1 zz.2.1 zz.2.2.1 zz.2.2.2.1 zz.2.2.2.2.1 zz.2.2.2.2.2) (ex:=(fun _=>.exit 2)) (s:=(used,t60,m,m2,m7,w4)) h fun zz y hy=>HP R119 t t58 t59 m3 m4 m5 m6 n m8 m9 m10 m11 m12 zz.1 zz.2.1 zz.2.2.1 zz.2.2.2.1 zz.2.2.2.2.1 zz.2.2.2.2.2 hR119 hy
end
def tz(R119:tA)(t:ae)(c:au):Option ae:=
 (nk t.Pred c.Names c.By).bind fun r1=>
 (qS t.Preds (t.Preds.length:Int) c.Names c.By 0 ([]:List aa)).bind fun o6=>
 (app [] t.Names).bind fun l7=>
 (FL c.By).bind fun r8=>
 (Pn t).bind fun r9=>
 (gj r8 r9).bind fun r10=>
 (gj r10 t.Names).bind fun r11=>
 (xh R119 t t.Args (t.Args.length:Int) l7.length r11 0 c.Names c.By ([]:List ae) l7).bind fun o37=>
 (qcO l7.length o37.2.2.2).bind fun l38=>
 some (⟨t.Op,t.Name,o37.2.2.1,l38,r1,o6⟩:ae)
theorem Nz(R119:tA)(hR119:zg R119){t:ae}{c:au}{r:ae}(h:tz R119 t c=some r):CC Pg GE 114 [.agg (af t),.agg (aG c)] (.agg (af r)) [(2,38),(8,36)]:=by
 obtain⟨r1,br1,h⟩:=ay h
 obtain⟨o6,bo6,h⟩:=ay h
 obtain⟨l7,bl7,h⟩:=ay h
 obtain⟨r8,br8,h⟩:=ay h
 obtain⟨r9,br9,h⟩:=ay h
 obtain⟨r10,br10,h⟩:=ay h
 obtain⟨r11,br11,h⟩:=ay h
 obtain⟨o37,bo37,h⟩:=ay h
 obtain⟨l38,bl38,h⟩:=ay h
 obtain rfl:=lf h
 have z:=se (bD t)<|sx (lX c)<|sx tc<|lY [0,1,0,4,0,16,0,64,0,256,1008,2047,0,8191]<|sv (aC t)<|sv (aD t)<|sv (cq t)<|sv (cP t)<|sv (dE t)<|sv (dF t)<|ss<|ss<|bz (uG br1)<|sb (PM t.Op t.Name r1) (PJ t.Op t.Name r1)<|qb2 (ey (⟨t.Op,t.Name,([]:List ae),([]:List ag),r1,([]:List aa)⟩:ae))<|sv (dq t)<|sv (dt t)<|cm (bL.ln t.Preds)<|cW (Jd t t.Preds (t.Preds.length:Int) c.Names c.By ([]:List ae) ([]:List aa) t.Op t.Name r1.Op r1.Name r1.N r1.Kids 0 ([]:List aa) bo6)<|sv (aO t)<|sv (aP t)<|qju 4 9 (bp.apR bl7)<|ss<|lY [0,1,3,0,15,31,0,64,255,511]<|ss<|bz (UD br8)<|sv (aV t)<|bz (Wq br9)<|bz (nh br10)<|sv (aO t)<|sv (aP t)<|bz (nh br11)<|sv (aK t)<|sv (aL t)<|cm (ck.ln t.Args)<|cW (Je R119 t t.Args (t.Args.length:Int) ([]:List ae) ([]:List aa) t.Op t.Name l7.length r1.Op r1.Name r1.N r1.Kids o6 r11 0 c.Names c.By ([]:List ae) l7 hR119 bo37)<|qf2 4 (l38.map cS) [4,5] [] (bp.fz1 (m:=0) (b:=4) rfl l38) (bp.fz2 4 l38) (qhu cS bl38)<|sf (E6 4 (p:=sl cS o37.1) (aj dQ o37.1))<|sf (E6 4 (p:=sl ac o37.2.1) (aj ah o37.2.1))<|sf (E6 4 (p:=sl af ([]:List ae)) (aj ak ([]:List ae)))<|sf (E6 4 (p:=sl cS ([]:List ag)) (aj dQ ([]:List ag)))<|sf (E6 4 (p:=sl ac ([]:List aa)) (aj ah ([]:List aa)))<|sf (E6 4 (p:=sl ac ([]:List aa)) (aj ah ([]:List aa)))<|sf (E6 4 (p:=sl af o37.2.2.1) (aj ak o37.2.2.1))<|sf (qhv cS bl38)<|sf (E6 4 (p:=sl ac r1.Kids) (aj ah r1.Kids))<|sf (E6 4 (p:=sl ac o6) (aj ah o6))<|sz (cU (⟨t.Op,t.Name,o37.2.2.1,l38,r1,o6⟩:ae) [])<|sy (bu (⟨t.Op,t.Name,o37.2.2.1,l38,r1,o6⟩:ae))<|en (aI (hX (⟨t.Op,t.Name,o37.2.2.1,l38,r1,o6⟩:ae))<|aI (ak (⟨t.Op,t.Name,o37.2.2.1,l38,r1,o6⟩:ae))<|rT)
 exact bN T1 Tryz.call114 Tryz.func114 (c:=qaE) rfl (aI (ak t) (aI (d6 c) trivial)) z (by kernel_rfl)
def zL:((ae×au)->Option ae)->(ae×au)->Option ae:=fun(rec:(ae×au)->Option ae) (x:ae×au)=>tz (fun t c=>rec (t,c)) x.1 x.2
def Eo(t:ae)(c:au):Option ae:=kJ zL (t,c)
theorem Pr{t:ae}{c:au}{r:ae}(h:Eo t c=some r):CC Pg GE 114 [.agg (af t),.agg (aG c)] (.agg (af r)) [(2,38),(8,36)]:=
 cy (F:=zL) (M:=fun(x:ae×au) (r:ae)=>CC Pg GE 114 [.agg (af x.1),.agg (aG x.2)] (.agg (af r)) [(2,38),(8,36)]) (fun rec hrec x r h=>Nz _ (fun t c r h=>hrec (t,c) r h) h) h
def qeA:Code:=Tryz.f100.body.getD .skip
def X9:List Nat:=[15,34,40]
section
variable(v:waB)(t:ae)(i:Int)(s:ag)(t11:waA)(t12:Int)(m:waC)(m2:waB)(m3:waA)(m4:waB)
def Jb:aA:=be 52 [(2,sl ac v),(3,.eptr (af t)),(6,.bptr 1 0),(7,.bptr 2 0),(8,.int .i64 i),(9,.str s),(11,sl cS t11),(12,.int .i64 t12),(13,.int .i64 i)] [.dead,.cells [.int .i64 0,.str ([]:ag),sl af m,sl cS ([]:List ag),.int .i64 0,.str ([]:ag),.int .i64 0,sl ac m2,sl ac m2] [(2,38),(3,9),(7,36),(8,36)],.cells [sl cS m3,sl ac m4] [(0,9),(1,36)]] []
def lR(o:Bool):aA:=be 52 [(2,sl ac v),(3,.eptr (af t)),(6,.bptr 1 0),(7,.bptr 2 0),(8,.int .i64 i),(9,.str s),(11,sl cS t11),(12,.int .i64 t12),(13,.int .i64 i),(32,.bool o)] [.dead,.cells [.int .i64 0,.str ([]:ag),sl af m,sl cS ([]:List ag),.int .i64 0,.str ([]:ag),.int .i64 0,sl ac m2,sl ac m2] [(2,38),(3,9),(7,36),(8,36)],.cells [sl cS m3,sl ac m4] [(0,9),(1,36)]] []
def uP:Option Bool:=
 if(decide (i<(v.length:Int)))=true then
  if(!(s==([118]:ag)))=true then
   (gI m3 s).bind fun r6=>
   some (decide (r6<0))
  else
   some false
 else
  some false
theorem HM{x:Bool}(h:uP v i s m3=some x):
  aU Pg GE 0 (cA qeA 7670) (EX .normal (lR v t i s t11 t12 m m2 m3 m4 x)) (Jb v t i s t11 t12 m m2 m3 m4):=by
 rcases bj h with⟨c3,h⟩|⟨c3,h⟩
 ·have p5:=fun{sc F} (r:PS sc F)=>cm (bL.ln v)<|sg 5 c3<|r
  rcases bj h with⟨c4,h⟩|⟨c4,h⟩
  ·obtain⟨r6,br6,h⟩:=ay h
   obtain rfl:=lf h
   exact cd X9 (p5<|sg 9 c4<|ss<|bz (j6 br6)<|eF .normal (lR v t i s t11 t12 m m2 m3 m4 (decide (r6<0)))) (by kernel_rfl)
  ·obtain rfl:=lf h
   exact cd X9 (p5<|sg 9 c4<|eF .normal (lR v t i s t11 t12 m m2 m3 m4 false)) (by kernel_rfl)
 ·obtain rfl:=lf h
  exact cd X9 (cm (bL.ln v)<|sg 5 c3<|eF .normal (lR v t i s t11 t12 m m2 m3 m4 false)) (by kernel_rfl)
end
section
variable(v:waB)(t:ae)(t11:waA)(t12:Int)(m:waC)(m2:waB)(t13:Int)(m3:waA)(m4:waB)
def gn:aA:=be 52 [(2,sl ac v),(3,.eptr (af t)),(6,.bptr 1 0),(7,.bptr 2 0),(11,sl cS t11),(12,.int .i64 t12),(13,.int .i64 t13)] [.dead,.cells [.int .i64 0,.str ([]:ag),sl af m,sl cS ([]:List ag),.int .i64 0,.str ([]:ag),.int .i64 0,sl ac m2,sl ac m2] [(2,38),(3,9),(7,36),(8,36)],.cells [sl cS m3,sl ac m4] [(0,9),(1,36)]] []
def qR(o:waA×waB):aA:=be 52 [(3,.eptr (af t)),(6,.bptr 1 0),(7,.bptr 2 0)] [.dead,.cells [.int .i64 0,.str ([]:ag),sl af m,sl cS ([]:List ag),.int .i64 0,.str ([]:ag),.int .i64 0,sl ac m2,sl ac m2] [(2,38),(3,9),(7,36),(8,36)],.cells [sl cS o.1,sl ac o.2] [(0,9),(1,36)]] []
def ej:Option ((Int×waA×waB)⊕((waA×waB))):=
 if(decide (t13<t12))=true then
  (cz t11 t13).bind fun x2=>
  (uP v t13 x2 m3).bind fun o7=>
  if o7=true then
   (app m3 ([x2]:List ag)).bind fun l10=>
   (cz v t13).bind fun x11=>
   (app m4 ([x11]:List aa)).bind fun l12=>
   some (.inl (aR (t13+1),l10,l12))
  else
   some (.inl (aR (t13+1),m3,m4))
 else
  some (.inr (m3,m4))
def uQ:Option ((waA×waB)):=loop (fun(zz:Int×waA×waB)=>ej v t11 t12 zz.1 zz.2.1 zz.2.2) (t13,m3,m4)
theorem Gy{y:(Int×waA×waB)⊕((waA×waB))}(h:ej v t11 t12 t13 m3 m4=some y):
  aU Pg GE 0 (cA qeA 119) (LQ (fun(zz:Int×waA×waB)=>gn v t t11 t12 m m2 zz.1 zz.2.1 zz.2.2) (fun _=>.exit 0) (qR t m m2) y) (gn v t t11 t12 m m2 t13 m3 m4):=by
 rcases bj h with⟨c1,h⟩|⟨c1,h⟩
 ·obtain⟨x2,bx2,h⟩:=ay h
  obtain⟨o7,bo7,h⟩:=ay h
  have p9:=fun{sc F} (r:PS sc F)=>sg 0 c1<|sv (bp.ia (k:=.i64) bx2)<|sv (dH Ba (.str x2) [])<|kr 0<|cW (HM v t t13 x2 t11 t12 m m2 m3 m4 bo7)<|r
  rcases bj h with⟨c8,h⟩|⟨c8,h⟩
  ·obtain⟨l10,bl10,h⟩:=ay h
   obtain⟨x11,bx11,h⟩:=ay h
   obtain⟨l12,bl12,h⟩:=ay h
   obtain rfl:=lf h
   exact n9 X9 (p9<|sg 0 c8<|sv (bp.mk' (v:=PVal.str) E8 ([x2]:List ag) 1 (by kernel_rfl))<|sv (bp.ap bl10)<|lY [0,1,0,0,12,28,60,127,255,511]<|sv (bL.ia (k:=.i64) bx11)<|sv (bh x11)<|sv (bL.mk' (v:=dW) cK ([x11]:List aa) 1 (by kernel_rfl))<|sv (bL.ap bl12)<|VP (rfl:bK (sl ac l12)=some [sl ac l12])<|eF .normal (gn v t t11 t12 m m2 (aR (t13+1)) l10 l12)) (by kernel_rfl)
  ·obtain rfl:=lf h
   exact n9 X9 (p9<|sg 0 c8<|eF .normal (gn v t t11 t12 m m2 (aR (t13+1)) m3 m4)) (by kernel_rfl)
 ·obtain rfl:=lf h
  have z:=sg 0 c1<|eF (.exit 0) (qR t m m2 (m3,m4))
  exact f6 X9 (by intro hx;cases hx) z (by kernel_rfl)
theorem HN{x:(waA×waB)}(h:uQ v t11 t12 t13 m3 m4=some x):
  aU Pg GE 0 (.loop (cA qeA 119)) (EX (.exit 0) (qR t m m2 x)) (gn v t t11 t12 m m2 t13 m3 m4):=
 aU.loop (S:=fun(zz:Int×waA×waB)=>gn v t t11 t12 m m2 zz.1 zz.2.1 zz.2.2) (ex:=(fun _=>.exit 0)) (s:=(t13,m3,m4)) h fun zz y hy=>Gy v t t11 t12 m m2 zz.1 zz.2.1 zz.2.2 hy
end
def BN(t:ae)(names:waA)(a:waB):Option ae:=
 (uQ a names (names.length:Int) 0 ([]:List ag) ([]:List aa)).bind fun o13=>
 (Eo t (⟨o13.1,o13.2⟩:au)).bind fun r14=>
 some r14
theorem Ny{t:ae}{names:waA}{a:waB}{r:ae}(h:BN t names a=some r):CC Pg GE 100 [.agg (af t),sl cS names,sl ac a] (.agg (af r)) [(2,38),(8,36)]:=by
 obtain⟨o13,bo13,h⟩:=ay h
 obtain⟨r14,br14,h⟩:=ay h
 obtain rfl:=lf h
 have z:=se (bD t)<|sx tc<|sb (kG) (kF)<|sx qdL<|sy (cZ (⟨([]:List ag),([]:List aa)⟩:au))<|cm (bp.ln names)<|cW (HN a t names (names.length:Int) ([]:List ae) ([]:List aa) 0 ([]:List ag) ([]:List aa) bo13)<|sv (aV t)<|sv (dV (⟨o13.1,o13.2⟩:au) [])<|bz (Pr br14)<|sy (bu r14)<|en (aI (hX r14)<|aI (ak r14)<|rT)
 exact bN X9 Tryz.call100 Tryz.func100 (c:=qeA) rfl (aI (ak t) (aI (aj dQ names) (aI (aj ah a) trivial))) z (by kernel_rfl)
def qlA:Code:=Tryz.f85.body.getD .skip
def qlk:List Nat:=[]
def FJ(t:ae)(name:ag)(a:aa):Option ae:=
 (BN t ([name]:List ag) ([a]:List aa)).bind fun r1=>
 some r1
theorem UA{t:ae}{name:ag}{a:aa}{r:ae}(h:FJ t name a=some r):CC Pg GE 85 [.agg (af t),.str name,.agg (ac a)] (.agg (af r)) [(2,38),(8,36)]:=by
 obtain⟨r1,br1,h⟩:=ay h
 obtain rfl:=lf h
 have z:=se (bD t)<|se (bS a)<|sx tc<|sv (aV t)<|sv (bp.mk' (v:=PVal.str) E8 ([name]:List ag) 1 (by kernel_rfl))<|sv (bh a)<|sv (bL.mk' (v:=dW) cK ([a]:List aa) 1 (by kernel_rfl))<|bz (Ny br1)<|sy (bu r1)<|en (aI (hX r1)<|aI (ak r1)<|rT)
 exact bN qlk Tryz.call85 Tryz.func85 (c:=qlA) rfl (aI (ak t) (aI trivial (aI (ah a) trivial))) z (by kernel_rfl)
def qh8:Code:=Tryz.f59.body.getD .skip
def qhf:List Nat:=[]
section
variable(i:Int)(v:ag)(t:ae)(m:waC)(m2:waB)(m3:Int)(m4:ag)(n:Nat)(m5:waA)(m6:Int)(m7:ag)(m8:Int)(m9:waB)(m10:waB)(w3:List ae)
def NH:aA:=be 56 [(1,.int .i64 i),(2,.str v),(3,.eptr (af t)),(6,.bptr 1 0),(7,.bptr 2 0)] [.dead,.cells [.int .i64 0,.str ([]:ag),sl af m,sl cS ([]:List ag),.int .i64 0,.str ([]:ag),.int .i64 0,sl ac m2,sl ac m2] [(2,38),(3,9),(7,36),(8,36)],.cells [.int .i64 m3,.str m4,.bsl 3 0 n,sl cS m5,.int .i64 m6,.str m7,.int .i64 m8,sl ac m9,sl ac m10] [],.cells (pF af w3) []] []
def uT(o:Bool):aA:=be 56 [(1,.int .i64 i),(2,.str v),(3,.eptr (af t)),(6,.bptr 1 0),(7,.bptr 2 0),(27,.bool o)] [.dead,.cells [.int .i64 0,.str ([]:ag),sl af m,sl cS ([]:List ag),.int .i64 0,.str ([]:ag),.int .i64 0,sl ac m2,sl ac m2] [(2,38),(3,9),(7,36),(8,36)],.cells [.int .i64 m3,.str m4,.bsl 3 0 n,sl cS m5,.int .i64 m6,.str m7,.int .i64 m8,sl ac m9,sl ac m10] [],.cells (pF af w3) []] []
def zQ:Option Bool:=
 if(decide (i>=(t.Names.length:Int)))=true then
  some true
 else
  (cz t.Names i).bind fun x4=>
  some (x4==([]:ag))
theorem Lo{x:Bool}(h:zQ i t=some x):
  aU Pg GE 0 (cA qh8 60) (EX .normal (uT i v t m m2 m3 m4 n m5 m6 m7 m8 m9 m10 w3 x)) (NH i v t m m2 m3 m4 n m5 m6 m7 m8 m9 m10 w3):=by
 have p3:=fun{sc F} (r:PS sc F)=>sv (aO t)<|sv (aP t)<|cm (bp.ln t.Names)<|r
 rcases bj h with⟨c2,h⟩|⟨c2,h⟩
 ·obtain rfl:=lf h
  exact cd qhf (p3<|sg 6 c2<|eF .normal (uT i v t m m2 m3 m4 n m5 m6 m7 m8 m9 m10 w3 true)) (by kernel_rfl)
 ·obtain⟨x4,bx4,h⟩:=ay h
  obtain rfl:=lf h
  exact cd qhf (p3<|sg 6 c2<|sv (aO t)<|sv (aP t)<|sv (bp.ia (k:=.i64) bx4)<|sv (dH Ba (.str x4) [])<|eF .normal (uT i v t m m2 m3 m4 n m5 m6 m7 m8 m9 m10 w3 (x4==([]:ag)))) (by kernel_rfl)
end
section
variable(i:Int)(v:ag)(t:ae)(m:waC)(m2:waB)(m3:Int)(m4:ag)(n:Nat)(m5:waA)(m6:Int)(m7:ag)(m8:Int)(m9:waB)(m10:waB)(k:Int)(w3:List ae)
def kE:aA:=be 56 [(1,.int .i64 i),(2,.str v),(3,.eptr (af t)),(6,.bptr 1 0),(7,.bptr 2 0),(8,.int .i64 k)] [.dead,.cells [.int .i64 0,.str ([]:ag),sl af m,sl cS ([]:List ag),.int .i64 0,.str ([]:ag),.int .i64 0,sl ac m2,sl ac m2] [(2,38),(3,9),(7,36),(8,36)],.cells [.int .i64 m3,.str m4,.bsl 3 0 n,sl cS m5,.int .i64 m6,.str m7,.int .i64 m8,sl ac m9,sl ac m10] [],.cells (pF af w3) []] []
def uU(o:List ae):aA:=be 56 [(6,.bptr 1 0),(7,.bptr 2 0)] [.dead,.cells [.int .i64 0,.str ([]:ag),sl af m,sl cS ([]:List ag),.int .i64 0,.str ([]:ag),.int .i64 0,sl ac m2,sl ac m2] [(2,38),(3,9),(7,36),(8,36)],.cells [.int .i64 m3,.str m4,.bsl 3 0 n,sl cS m5,.int .i64 m6,.str m7,.int .i64 m8,sl ac m9,sl ac m10] [],.cells (pF af o) []] []
def iG:Option ((Int×List ae)⊕(waC)):=
 if(decide (k<(n:Int)))=true then
  (X6 n w3 k).bind fun x11=>
  (cz t.Names i).bind fun x12=>
  (gR v).bind fun r13=>
  (FJ x11 x12 r13).bind fun r14=>
  (X6 n w3 k).bind fun x15=>
  (qft w3 k r14).bind fun l16=>
  some (.inl (aR (k+1),l16))
 else
  some (.inr w3)
def zR:Option waC:=loop (fun(zz:Int×List ae)=>iG i v t n zz.1 zz.2) (k,w3)
theorem Jm{y:(Int×List ae)⊕(waC)}(h:iG i v t n k w3=some y):
  aU Pg GE 0 (cA qh8 503) (LQ (fun(zz:Int×List ae)=>kE i v t m m2 m3 m4 n m5 m6 m7 m8 m9 m10 zz.1 zz.2) (fun _=>.exit 0) (uU m m2 m3 m4 n m5 m6 m7 m8 m9 m10) y) (kE i v t m m2 m3 m4 n m5 m6 m7 m8 m9 m10 k w3):=by
 have p10:=fun{sc F} (r:PS sc F)=>ss<|cm (ck.lnR 3 0 n)<|r
 rcases bj h with⟨c9,h⟩|⟨c9,h⟩
 ·obtain⟨x11,bx11,h⟩:=ay h
  obtain⟨x12,bx12,h⟩:=ay h
  obtain⟨r13,br13,h⟩:=ay h
  obtain⟨r14,br14,h⟩:=ay h
  obtain⟨x15,bx15,h⟩:=ay h
  obtain⟨l16,bl16,h⟩:=ay h
  obtain rfl:=lf h
  exact n9 qhf (p10<|sg 0 c9<|qhx (.dx [0,1,0,0,8,0,56,120,0,256,0,1792,3840,0,8192,32760,65535,131071] [] [] [3])<|ss<|ss<|sv (ck.iaN 3 (k:=.i64) bx11)<|sv (ck.ldN (To x11) bx11)<|sv (aO t)<|sv (aP t)<|sv (bp.ia (k:=.i64) bx12)<|sv (dH Ba (.str x12) [])<|bz (pA br13)<|bz (UA br14)<|sv (ck.iaN 3 (k:=.i64) bx15)<|qjv (ck.stR (eO r14) bl16)<|eF .normal (kE i v t m m2 m3 m4 n m5 m6 m7 m8 m9 m10 (aR (k+1)) l16)) (by kernel_rfl)
 ·obtain rfl:=lf h
  have z:=p10<|sg 0 c9<|eF (.exit 0) (uU m m2 m3 m4 n m5 m6 m7 m8 m9 m10 w3)
  exact f6 qhf (by intro hx;cases hx) z (by kernel_rfl)
theorem Lp{x:waC}(h:zR i v t n k w3=some x):
  aU Pg GE 0 (.loop (cA qh8 503)) (EX (.exit 0) (uU m m2 m3 m4 n m5 m6 m7 m8 m9 m10 x)) (kE i v t m m2 m3 m4 n m5 m6 m7 m8 m9 m10 k w3):=
 aU.loop (S:=fun(zz:Int×List ae)=>kE i v t m m2 m3 m4 n m5 m6 m7 m8 m9 m10 zz.1 zz.2) (ex:=(fun _=>.exit 0)) (s:=(k,w3)) h fun zz y hy=>Jm i v t m m2 m3 m4 n m5 m6 m7 m8 m9 m10 zz.1 zz.2 hy
end
def xn(t:ae)(i:Int)(a:ag):Option ae:=
 (app [] t.Args).bind fun l1=>
 (zQ i t).bind fun o5=>
 if o5=true then
  (qcO l1.length l1).bind fun l8=>
  some (⟨t.Op,t.Name,l8,t.Names,t.Pred,t.Preds⟩:ae)
 else
  (zR i a t l1.length (aR (i+1)) l1).bind fun o17=>
  (qcO l1.length o17).bind fun l18=>
  some (⟨t.Op,t.Name,l18,t.Names,t.Pred,t.Preds⟩:ae)
theorem G0{t:ae}{i:Int}{a:ag}{r:ae}(h:xn t i a=some r):CC Pg GE 59 [.agg (af t),.int .i64 i,.str a] (.agg (af r)) []:=by
 obtain⟨l1,bl1,h⟩:=ay h
 obtain⟨o5,bo5,h⟩:=ay h
 have p7:=fun{sc F} (r:PS sc F)=>se (bD t)<|sx tc<|sv (aV t)<|sx tc<|sx (ey t)<|sv (ck.mk' (v:=jC) eO ([]:List ae) 0 (by kernel_rfl))<|sv (aK t)<|sv (aL t)<|qju 3 38 (ck.apR bl1)<|ss<|kr 1<|cW (Lo i a t ([]:List ae) ([]:List aa) t.Op t.Name l1.length t.Names t.Pred.Op t.Pred.Name t.Pred.N t.Pred.Kids t.Preds l1 bo5)<|r
 rcases bj h with⟨c6,h⟩|⟨c6,h⟩
 ·obtain⟨l8,bl8,h⟩:=ay h
  obtain rfl:=lf h
  have z:=p7<|sg 0 c6<|qf2 3 (l8.map af) [6,7] [] (ck.fz1 (m:=0) (b:=3) rfl l8) (ck.fz2 3 l8) (qhu af bl8)<|sf (E6 3 (p:=sl af ([]:List ae)) (aj ak ([]:List ae)))<|sf (E6 3 (p:=sl cS ([]:List ag)) (aj dQ ([]:List ag)))<|sf (E6 3 (p:=sl ac ([]:List aa)) (aj ah ([]:List aa)))<|sf (E6 3 (p:=sl ac ([]:List aa)) (aj ah ([]:List aa)))<|sf (qhv af bl8)<|sf (E6 3 (p:=sl cS t.Names) (aj dQ t.Names))<|sf (E6 3 (p:=sl ac t.Pred.Kids) (aj ah t.Pred.Kids))<|sf (E6 3 (p:=sl ac t.Preds) (aj ah t.Preds))<|sv (cU (⟨t.Op,t.Name,l8,t.Names,t.Pred,t.Preds⟩:ae) [])<|sx (ey (⟨t.Op,t.Name,l8,t.Names,t.Pred,t.Preds⟩:ae))<|en (aI (hX (⟨t.Op,t.Name,l8,t.Names,t.Pred,t.Preds⟩:ae))<|(ak (⟨t.Op,t.Name,l8,t.Names,t.Pred,t.Preds⟩:ae)))
  exact bN qhf Tryz.call59 Tryz.func59 (c:=qh8) rfl (aI (ak t) (aI trivial (aI trivial trivial))) z (by kernel_rfl)
 ·obtain⟨o17,bo17,h⟩:=ay h
  obtain⟨l18,bl18,h⟩:=ay h
  obtain rfl:=lf h
  have z:=p7<|sg 0 c6<|cW (Lp i a t ([]:List ae) ([]:List aa) t.Op t.Name l1.length t.Names t.Pred.Op t.Pred.Name t.Pred.N t.Pred.Kids t.Preds (aR (i+1)) l1 bo17)<|qf2 3 (l18.map af) [6,7] [] (ck.fz1 (m:=0) (b:=3) rfl l18) (ck.fz2 3 l18) (qhu af bl18)<|sf (E6 3 (p:=sl af ([]:List ae)) (aj ak ([]:List ae)))<|sf (E6 3 (p:=sl cS ([]:List ag)) (aj dQ ([]:List ag)))<|sf (E6 3 (p:=sl ac ([]:List aa)) (aj ah ([]:List aa)))<|sf (E6 3 (p:=sl ac ([]:List aa)) (aj ah ([]:List aa)))<|sf (qhv af bl18)<|sf (E6 3 (p:=sl cS t.Names) (aj dQ t.Names))<|sf (E6 3 (p:=sl ac t.Pred.Kids) (aj ah t.Pred.Kids))<|sf (E6 3 (p:=sl ac t.Preds) (aj ah t.Preds))<|sv (cU (⟨t.Op,t.Name,l18,t.Names,t.Pred,t.Preds⟩:ae) [])<|sx (ey (⟨t.Op,t.Name,l18,t.Names,t.Pred,t.Preds⟩:ae))<|en (aI (hX (⟨t.Op,t.Name,l18,t.Names,t.Pred,t.Preds⟩:ae))<|(ak (⟨t.Op,t.Name,l18,t.Names,t.Pred,t.Preds⟩:ae)))
  exact bN qhf Tryz.call59 Tryz.func59 (c:=qh8) rfl (aI (ak t) (aI trivial (aI trivial trivial))) z (by kernel_rfl)
def qhn:Code:=Tryz.f38.body.getD .skip
def qfB:List Nat:=[89,115]
section
variable(i:Int)(tag:Int)(used:waA)(m:aH)(v:ae)(v2:ae)(m2:waB)(m3:waD)
def Jp:aA:=be 127 [(3,.int .i64 i),(4,.int .i64 tag),(5,sl cS used),(6,.eptr (aB m)),(7,.eptr (af v)),(8,.eptr (af v2)),(12,.bptr 3 0),(14,.str ([120]:ag))] [.dead,.dead,.dead,.cells [.int .i64 0,.str ([]:ag),.str ([]:ag),.int .i64 0,.str ([]:ag),.int .i64 0,sl ac m2,.int .i64 0,sl aw m3] [(6,36),(8,50)]] []
def qW(o:Bool):aA:=be 127 [(3,.int .i64 i),(4,.int .i64 tag),(5,sl cS used),(6,.eptr (aB m)),(7,.eptr (af v)),(8,.eptr (af v2)),(12,.bptr 3 0),(14,.str ([120]:ag)),(53,.bool o)] [.dead,.dead,.dead,.cells [.int .i64 0,.str ([]:ag),.str ([]:ag),.int .i64 0,.str ([]:ag),.int .i64 0,sl ac m2,.int .i64 0,sl aw m3] [(6,36),(8,50)]] []
def uV:Option Bool:=
 if(decide (i<(v2.Names.length:Int)))=true then
  (cz v2.Names i).bind fun x8=>
  some (!(x8==([]:ag)))
 else
  some false
theorem HW{x:Bool}(h:uV i v2=some x):
  aU Pg GE 0 (cA qhn 60) (EX .normal (qW i tag used m v v2 m2 m3 x)) (Jp i tag used m v v2 m2 m3):=by
 have p7:=fun{sc F} (r:PS sc F)=>sv (aO v2)<|sv (aP v2)<|cm (bp.ln v2.Names)<|r
 rcases bj h with⟨c6,h⟩|⟨c6,h⟩
 ·obtain⟨x8,bx8,h⟩:=ay h
  obtain rfl:=lf h
  exact cd qfB (p7<|sg 6 c6<|sv (aO v2)<|sv (aP v2)<|sv (bp.ia (k:=.i64) bx8)<|sv (dH Ba (.str x8) [])<|eF .normal (qW i tag used m v v2 m2 m3 (!(x8==([]:ag))))) (by kernel_rfl)
 ·obtain rfl:=lf h
  exact cd qfB (p7<|sg 6 c6<|eF .normal (qW i tag used m v v2 m2 m3 false)) (by kernel_rfl)
end
section
variable(i:Int)(tag:Int)(used:waA)(m:aH)(v:ae)(v2:ae)(m2:waB)(m3:waD)
def Jo:aA:=be 127 [(3,.int .i64 i),(4,.int .i64 tag),(5,sl cS used),(6,.eptr (aB m)),(7,.eptr (af v)),(8,.eptr (af v2)),(12,.bptr 3 0),(14,.str ([120]:ag))] [.dead,.dead,.dead,.cells [.int .i64 0,.str ([]:ag),.str ([]:ag),.int .i64 0,.str ([]:ag),.int .i64 0,sl ac m2,.int .i64 0,sl aw m3] [(6,36),(8,50)]] []
def qV(o:ag):aA:=be 127 [(3,.int .i64 i),(4,.int .i64 tag),(5,sl cS used),(6,.eptr (aB m)),(7,.eptr (af v)),(8,.eptr (af v2)),(12,.bptr 3 0),(14,.str o)] [.dead,.dead,.dead,.cells [.int .i64 0,.str ([]:ag),.str ([]:ag),.int .i64 0,.str ([]:ag),.int .i64 0,sl ac m2,.int .i64 0,sl aw m3] [(6,36),(8,50)]] []
def pz:Option ag:=
 (uV i v2).bind fun o9=>
 if o9=true then
  (cz v2.Names i).bind fun x12=>
  some x12
 else
  some ([120]:ag)
theorem HV{x:ag}(h:pz i v2=some x):
  aU Pg GE 0 (cA qhn 30) (EX .normal (qV i tag used m v v2 m2 m3 x)) (Jo i tag used m v v2 m2 m3):=by
 obtain⟨o9,bo9,h⟩:=ay h
 have p11:=fun{sc F} (r:PS sc F)=>kr 0<|cW (HW i tag used m v v2 m2 m3 bo9)<|r
 rcases bj h with⟨c10,h⟩|⟨c10,h⟩
 ·obtain⟨x12,bx12,h⟩:=ay h
  obtain rfl:=lf h
  exact cd qfB (p11<|sg 0 c10<|sv (aO v2)<|sv (aP v2)<|sv (bp.ia (k:=.i64) bx12)<|sv (dH Ba (.str x12) [])<|eF .normal (qV i tag used m v v2 m2 m3 x12)) (by kernel_rfl)
 ·obtain rfl:=lf h
  exact cd qfB (p11<|sg 0 c10<|eF .normal (qV i tag used m v v2 m2 m3 ([120]:ag))) (by kernel_rfl)
end
def qU(R94:nw)(R114:xt)(m:aH)(a:ae)(a2:ae)(i:Int)(tag:Int)(used:waA):Option (ai×Int):=
 if(i==(aR ((a2.Args.length:Int) - 1)))=true then
  (cz a.Args i).bind fun x3=>
  (cz a2.Args i).bind fun x4=>
  (R94 m x3 x4 tag used).bind fun r5=>
  some (r5.1,r5.2)
 else
  (pz i a2).bind fun o13=>
  (Au a2 i ([]:List ag)).bind fun r14=>
  (Au a i r14).bind fun r15=>
  (app r15 used).bind fun l16=>
  (sA l16 o13).bind fun r17=>
  (cz a2.Args i).bind fun x18=>
  (cz a.Args i).bind fun x19=>
  (R94 m x18 x19 tag used).bind fun r20=>
  if(r20.2 !=0)=true then
   some ((⟨0,([]:ag),([]:ag),(⟨0,([]:ag),0,([]:List aa)⟩:aa),0,([]:List ai)⟩:ai),r20.2)
  else
   (xn a i r17).bind fun r23=>
   (xn a2 i r17).bind fun r24=>
   (app ([]:List ag) used).bind fun l25=>
   (app l25 ([r17]:List ag)).bind fun l26=>
   (R114 m r23 r24 (aR (i+1)) tag l26).bind fun r27=>
   if(r27.2 !=0)=true then
    some ((⟨0,([]:ag),([]:ag),(⟨0,([]:ag),0,([]:List aa)⟩:aa),0,([]:List ai)⟩:ai),r27.2)
   else
    (cz a2.Args i).bind fun x30=>
    (ED x30 r17 r27.1).bind fun r31=>
    (N8 ([r20.1,r31]:List ai)).bind fun r32=>
    some (r32,0)
theorem Lr(R94:nw)(hR94:KH R94)(R114:xt)(hR114:Ov R114){m:aH}{a:ae}{a2:ae}{i:Int}{tag:Int}{used:waA}{r:ai×Int}(h:qU R94 R114 m a a2 i tag used=some r):CC Pg GE 38 [.agg (aB m),.agg (af a),.agg (af a2),.int .i64 i,.int .i64 tag,sl cS used] (.tuple [.agg (aw r.1),.int .i64 r.2]) []:=by
 have p2:=fun{sc F} (r:PS sc F)=>se (jm m)<|se (bD a)<|se (bD a2)<|sx td<|sv (aK a2)<|sv (aL a2)<|cm (ck.ln a2.Args)<|r
 rcases bj h with⟨c1,h⟩|⟨c1,h⟩
 ·obtain⟨x3,bx3,h⟩:=ay h
  obtain⟨x4,bx4,h⟩:=ay h
  obtain⟨r5,br5,h⟩:=ay h
  obtain rfl:=lf h
  have z:=p2<|sg 0 c1<|lY [0,0,2,0,14,30,0,64,0,448,960,0,0,8191,16383,16383,65535,131071]<|sv (jl m)<|sv (aK a)<|sv (aL a)<|sv (ck.ia (k:=.i64) bx3)<|sv (aV x3)<|sv (aK a2)<|sv (aL a2)<|sv (ck.ia (k:=.i64) bx4)<|sv (aV x4)<|bz (hR94 _ _ _ _ _ _ br5)<|sx (cF r5.1)<|en (aI (va9 PVal.tuple (jv (cM r5.1) (jv (rP (.int .i64 r5.2)) (rfl:([]:List PVal)=[]))))<|(aI (ba r5.1) (aI trivial trivial)))
  exact bN qfB Tryz.call38 Tryz.func38 (c:=qhn) rfl (aI (de m) (aI (ak a) (aI (ak a2) (aI trivial (aI trivial (aI (aj dQ used) trivial)))))) z (by kernel_rfl)
 ·obtain⟨o13,bo13,h⟩:=ay h
  obtain⟨r14,br14,h⟩:=ay h
  obtain⟨r15,br15,h⟩:=ay h
  obtain⟨l16,bl16,h⟩:=ay h
  obtain⟨r17,br17,h⟩:=ay h
  obtain⟨x18,bx18,h⟩:=ay h
  obtain⟨x19,bx19,h⟩:=ay h
  obtain⟨r20,br20,h⟩:=ay h
  have p22:=fun{sc F} (r:PS sc F)=>p2<|sg 0 c1<|kr 1<|cW (HV i tag used m a a2 ([]:List aa) ([]:List ai) bo13)<|lY [0,0,0,0,12,31,0,127,0,511,1023]<|sv (aV a)<|sv (aV a2)<|si (.cg ⟨[],[.agg (af a2),.int .i64 i,sl cS ([]:List ag)],[⟨2,1000000,0,9⟩],[],[],[],[],sl cS r14,sl cS r14,[(0,9)]⟩) (Jq br14)<|sf (aI (xR [] (.agg (af a2)) (ak a2)) (aI (xR [] (.int .i64 i) trivial) (aI (xR [] (sl cS ([]:List ag)) (aj dQ ([]:List ag))) trivial)))<|sf trivial<|sf trivial<|sf (xR [] (sl cS r14) (aj dQ r14))<|si (.cg ⟨[],[.agg (af a),.int .i64 i,sl cS r14],[⟨2,63,0,9⟩],[],[],[],[],sl cS r15,sl cS r15,[(0,9)]⟩) (Jq br15)<|sf (aI (xR [] (.agg (af a)) (ak a)) (aI (xR [] (.int .i64 i) trivial) (aI (xR [] (sl cS r14) (aj dQ r14)) trivial)))<|sf trivial<|sf trivial<|sf (xR [] (sl cS r15) (aj dQ r15))<|sv (bp.ap bl16)<|bz (Bf br17)<|lY [0,0,2,0,14,30,0,64,0,448,960,0,0,8191,16383,32767,32767,0,196607,524287]<|sv (jl m)<|sv (aK a2)<|sv (aL a2)<|sv (ck.ia (k:=.i64) bx18)<|sv (aV x18)<|sv (aK a)<|sv (aL a)<|sv (ck.ia (k:=.i64) bx19)<|sv (aV x19)<|bz (hR94 _ _ _ _ _ _ br20)<|sx (cF r20.1)<|r
  rcases bj h with⟨c21,h⟩|⟨c21,h⟩
  ·obtain rfl:=lf h
   have z:=p22<|sg 0 c21<|sb (Cd) (Cb)<|sy (cb (⟨0,([]:ag),([]:ag),(⟨0,([]:ag),0,([]:List aa)⟩:aa),0,([]:List ai)⟩:ai))<|en (aI (va9 PVal.tuple (jv (cM (⟨0,([]:ag),([]:ag),(⟨0,([]:ag),0,([]:List aa)⟩:aa),0,([]:List ai)⟩:ai)) (jv (rP (.int .i64 r20.2)) (rfl:([]:List PVal)=[]))))<|(aI (ba (⟨0,([]:ag),([]:ag),(⟨0,([]:ag),0,([]:List aa)⟩:aa),0,([]:List ai)⟩:ai)) (aI trivial trivial)))
   exact bN qfB Tryz.call38 Tryz.func38 (c:=qhn) rfl (aI (de m) (aI (ak a) (aI (ak a2) (aI trivial (aI trivial (aI (aj dQ used) trivial)))))) z (by kernel_rfl)
  ·obtain⟨r23,br23,h⟩:=ay h
   obtain⟨r24,br24,h⟩:=ay h
   obtain⟨l25,bl25,h⟩:=ay h
   obtain⟨l26,bl26,h⟩:=ay h
   obtain⟨r27,br27,h⟩:=ay h
   have p29:=fun{sc F} (r:PS sc F)=>p22<|sg 0 c21<|lY [0,0,0,0,14,0,0,0,254,0,512,0,0,0,12798,0,32768,127486,262143,524287,1048575,1048575,0,6291455,16777215]<|sv (jl m)<|sv (aV a)<|bz (G0 br23)<|sv (aV a2)<|bz (G0 br24)<|sv (bp.mk' (v:=PVal.str) E8 ([]:List ag) 0 (by kernel_rfl))<|sv (bp.ap bl25)<|sv (bp.mk' (v:=PVal.str) E8 ([r17]:List ag) 1 (by kernel_rfl))<|sv (bp.ap bl26)<|bz (hR114 _ _ _ _ _ _ _ br27)<|sx (cF r27.1)<|r
   rcases bj h with⟨c28,h⟩|⟨c28,h⟩
   ·obtain rfl:=lf h
    have z:=p29<|sg 0 c28<|sb (Cd) (Cb)<|sy (cb (⟨0,([]:ag),([]:ag),(⟨0,([]:ag),0,([]:List aa)⟩:aa),0,([]:List ai)⟩:ai))<|en (aI (va9 PVal.tuple (jv (cM (⟨0,([]:ag),([]:ag),(⟨0,([]:ag),0,([]:List aa)⟩:aa),0,([]:List ai)⟩:ai)) (jv (rP (.int .i64 r27.2)) (rfl:([]:List PVal)=[]))))<|(aI (ba (⟨0,([]:ag),([]:ag),(⟨0,([]:ag),0,([]:List aa)⟩:aa),0,([]:List ai)⟩:ai)) (aI trivial trivial)))
    exact bN qfB Tryz.call38 Tryz.func38 (c:=qhn) rfl (aI (de m) (aI (ak a) (aI (ak a2) (aI trivial (aI trivial (aI (aj dQ used) trivial)))))) z (by kernel_rfl)
   ·obtain⟨x30,bx30,h⟩:=ay h
    obtain⟨r31,br31,h⟩:=ay h
    obtain⟨r32,br32,h⟩:=ay h
    obtain rfl:=lf h
    have z:=p29<|sg 0 c28<|lY [0,0,2,0,14,30,0,0,254,511,1023,2047,4095]<|sv (eM r20.1 [])<|sv (aK a2)<|sv (aL a2)<|sv (ck.ia (k:=.i64) bx30)<|sv (aV x30)<|sv (eM r27.1 [])<|bz (Mi br31)<|sv (mX.mk' (v:=lZ) g9 ([r20.1,r31]:List ai) 2 (by kernel_rfl))<|bz (Py br32)<|qb2 (cF r32)<|en (aI (va9 PVal.tuple (jv (cM r32) (jv (rP (.int .i64 0)) (rfl:([]:List PVal)=[]))))<|(aI (ba r32) (aI trivial trivial)))
    exact bN qfB Tryz.call38 Tryz.func38 (c:=qhn) rfl (aI (de m) (aI (ak a) (aI (ak a2) (aI trivial (aI trivial (aI (aj dQ used) trivial)))))) z (by kernel_rfl)
def xp(R94:nw):((aH×ae×ae×Int×Int×waA)->Option (ai×Int))->(aH×ae×ae×Int×Int×waA)->Option (ai×Int):=fun(rec:(aH×ae×ae×Int×Int×waA)->Option (ai×Int)) (x:aH×ae×ae×Int×Int×waA)=>qU R94 (fun m a a2 i tag used=>rec (m,a,a2,i,tag,used)) x.1 x.2.1 x.2.2.1 x.2.2.2.1 x.2.2.2.2.1 x.2.2.2.2.2
def BW(R94:nw)(m:aH)(a:ae)(a2:ae)(i:Int)(tag:Int)(used:waA):Option (ai×Int):=kJ (xp R94) (m,a,a2,i,tag,used)
theorem NI(R94:nw)(hR94:KH R94){m:aH}{a:ae}{a2:ae}{i:Int}{tag:Int}{used:waA}{r:ai×Int}(h:BW R94 m a a2 i tag used=some r):CC Pg GE 38 [.agg (aB m),.agg (af a),.agg (af a2),.int .i64 i,.int .i64 tag,sl cS used] (.tuple [.agg (aw r.1),.int .i64 r.2]) []:=
 cy (F:=xp R94) (M:=fun(x:aH×ae×ae×Int×Int×waA) (r:ai×Int)=>CC Pg GE 38 [.agg (aB x.1),.agg (af x.2.1),.agg (af x.2.2.1),.int .i64 x.2.2.2.1,.int .i64 x.2.2.2.2.1,sl cS x.2.2.2.2.2] (.tuple [.agg (aw r.1),.int .i64 r.2]) []) (fun rec hrec x r h=>Lr R94 hR94 _ (fun m a a2 i tag used r h=>hrec (m,a,a2,i,tag,used) r h) h) h
end Go.Proofs.YtbaamopmfmpfaaaGreatDoor
