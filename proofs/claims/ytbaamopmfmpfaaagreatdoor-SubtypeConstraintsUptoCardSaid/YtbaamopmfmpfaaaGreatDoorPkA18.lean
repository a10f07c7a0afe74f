/- PROVED: a part of the proof. Conditions: none. -/
import Derived.Test.YtbaamopmfmpfaaaGreatDoorPkA17
import Derived.Test.YtbaamopmfmpfaaaGreatDoorPkA9
noncomputable section
namespace Go.Proofs.YtbaamopmfmpfaaaGreatDoor
open Go Go.Proofs.Tryz
set_option linter.unusedVariables false
set_option maxRecDepth 100000
noncomputable def qaE:Code:=f114.body.getD .skip
def T1:List Nat:=[31,43,62,66,117,127]
section
variable(t:ae)(t24:waB)(t25:Int)(m:waA)(m2:waB)(m3:waC)(m4:waB)(m5:Int)(m6:ag)(m7:Int)(m8:ag)(m9:Int)(m10:waB)(t26:Int)(m11:waB)
def jS:aA:=be 139 [(2,.eptr (af t)),(3,.bptr 1 0),(4,.bptr 2 0),(5,.bptr 3 0),(24,sl ac t24),(25,.int .i64 t25),(26,.int .i64 t26)] [.dead,.cells [sl cS m,sl ac m2] [],.cells [.int .i64 0,.str ([]:ag),sl af m3,sl cS ([]:List ag),.int .i64 0,.str ([]:ag),.int .i64 0,sl ac m4,sl ac m4] [(2,38),(3,9),(7,36),(8,36)],.cells [.int .i64 m5,.str m6,sl af m3,sl cS ([]:List ag),.int .i64 m7,.str m8,.int .i64 m9,sl ac m10,sl ac m11] [(2,38),(3,9),(8,36)]] []
def sK(o:waB):aA:=be 139 [(2,.eptr (af t)),(3,.bptr 1 0),(4,.bptr 2 0),(5,.bptr 3 0)] [.dead,.cells [sl cS m,sl ac m2] [],.cells [.int .i64 0,.str ([]:ag),sl af m3,sl cS ([]:List ag),.int .i64 0,.str ([]:ag),.int .i64 0,sl ac m4,sl ac m4] [(2,38),(3,9),(7,36),(8,36)],.cells [.int .i64 m5,.str m6,sl af m3,sl cS ([]:List ag),.int .i64 m7,.str m8,.int .i64 m9,sl ac m10,sl ac o] [(2,38),(3,9),(8,36)]] []
def Ar:Option ((Int×waB)⊕(waB)):=
 if(decide (t26<t25))=true then
  (cz t24 t26).bind fun x3=>
  (nk x3 m m2).bind fun r4=>
  (app m11 ([r4]:List aa)).bind fun l5=>
  some (.inl (aR (t26+1),l5))
 else
  some (.inr m11)
def qS:Option waB:=loop (fun(zz:Int×waB)=>Ar t24 t25 m m2 zz.1 zz.2) (t26,m11)
theorem HO{y:(Int×waB)⊕(waB)}(h:Ar t24 t25 m m2 t26 m11=some y):aU Pg GE 0 (cA qaE 119) (LQ (fun(zz:Int×waB)=>jS t t24 t25 m m2 m3 m4 m5 m6 m7 m8 m9 m10 zz.1 zz.2) (fun _=>.exit 0) (sK t m m2 m3 m4 m5 m6 m7 m8 m9 m10) y) (jS t t24 t25 m m2 m3 m4 m5 m6 m7 m8 m9 m10 t26 m11):=by
 rcases bj h with⟨c2,h⟩|⟨c2,h⟩
 ·obtain⟨x3,bx3,h⟩:=ay h
  obtain⟨r4,br4,h⟩:=ay h
  obtain⟨l5,bl5,h⟩:=ay h
  obtain rfl:=lf h
  have z:=sg 0 c2<|sv (bL.ia (k:=.i64) bx3)<|sv (bh x3)<|sx hO<|sx (cj x3)<|lY [0,1,0,0,8,0,32,124,252,511,1023,2047]<|sv (bT x3 [])<|ss<|ss<|bz (uG br4)<|sv (bL.mk' (v:=dW) cK ([r4]:List aa) 1 (by kernel_rfl))<|sv (bL.ap bl5)<|VP (rfl:bK (sl ac l5)=some [sl ac l5])<|uz 0 .normal (jS t t24 t25 m m2 m3 m4 m5 m6 m7 m8 m9 m10 (aR (t26+1)) l5) rfl (dC (aI (ij (ak t)) (aI (cV rfl) (aI (cV rfl) (aI (cV rfl) (aI (up (aj ah t24)) (aI trivial (aI trivial trivial)))))))) (aI trivial (aI (aI (up (aj dQ m)) (aI (up (aj ah m2)) trivial)) (aI (aI trivial (aI trivial (aI (up (aj ak m3)) (aI (up (aj dQ ([]:List ag))) (aI trivial (aI trivial (aI trivial (aI (up (aj ah m4)) (aI (up (aj ah m4)) trivial))))))))) (aI (aI trivial (aI trivial (aI (up (aj ak m3)) (aI (up (aj dQ ([]:List ag))) (aI trivial (aI trivial (aI trivial (aI (up (aj ah m10)) (aI (up (aj ah l5)) trivial))))))))) trivial))))
  exact df (A:=T1) mixed z<|by kernel_rfl
 ·obtain rfl:=lf h
  have z:=sg 0 c2<|eF (.exit 0) (sK t m m2 m3 m4 m5 m6 m7 m8 m9 m10 m11)
  exact f6 T1 (by intro hx;cases hx) z<|by kernel_rfl
theorem Jd{x:waB}(h:qS t24 t25 m m2 t26 m11=some x):aU Pg GE 0 (.loop (cA qaE 119)) (EX (.exit 0) (sK t m m2 m3 m4 m5 m6 m7 m8 m9 m10 x)) (jS t t24 t25 m m2 m3 m4 m5 m6 m7 m8 m9 m10 t26 m11):=
 aU.loop (S:=fun(zz:Int×waB)=>jS t t24 t25 m m2 m3 m4 m5 m6 m7 m8 m9 m10 zz.1 zz.2) (ex:=(fun _=>.exit 0)) (s:=(t26,m11)) h fun zz y hy=>HO t t24 t25 m m2 m3 m4 m5 m6 m7 m8 m9 m10 zz.1 zz.2 hy
end
section
variable(t:ae)(used:waA)(i:Int)(t58:waC)(t59:Int)(m:waA)(m2:waB)(m3:waC)(m4:waB)(m5:Int)(m6:ag)(m7:waC)(n:Nat)(m8:Int)(m9:ag)(m10:Int)(m11:waB)(m12:waB)(w4:List ag)(m13:Int)(m14:ag)(m15:waC)(m16:waA)(m17:Int)(m18:ag)(m19:Int)(m20:waB)(m21:waB)
def Lj:aA:=be 139 [(2,.eptr (af t)),(3,.bptr 1 0),(4,.bptr 2 0),(5,.bptr 3 0),(8,sl cS used),(9,.int .i64 i),(58,sl af t58),(59,.int .i64 t59),(60,.int .i64 i)] [.dead,.cells [sl cS m,sl ac m2] [],.cells [.int .i64 0,.str ([]:ag),sl af m3,sl cS ([]:List ag),.int .i64 0,.str ([]:ag),.int .i64 0,sl ac m4,sl ac m4] [(2,38),(3,9),(7,36),(8,36)],.cells [.int .i64 m5,.str m6,sl af m7,.bsl 4 0 n,.int .i64 m8,.str m9,.int .i64 m10,sl ac m11,sl ac m12] [(2,38),(8,36)],.cells (pF cS w4) [],.cells [.int .i64 m13,.str m14,sl af m15,sl cS m16,.int .i64 m17,.str m18,.int .i64 m19,sl ac m20,sl ac m21] []] [((8,0),9)]
def sJ(o:Bool):aA:=be 139 [(2,.eptr (af t)),(3,.bptr 1 0),(4,.bptr 2 0),(5,.bptr 3 0),(8,sl cS used),(9,.int .i64 i),(58,sl af t58),(59,.int .i64 t59),(60,.int .i64 i),(82,.bool o)] [.dead,.cells [sl cS m,sl ac m2] [],.cells [.int .i64 0,.str ([]:ag),sl af m3,sl cS ([]:List ag),.int .i64 0,.str ([]:ag),.int .i64 0,sl ac m4,sl ac m4] [(2,38),(3,9),(7,36),(8,36)],.cells [.int .i64 m5,.str m6,sl af m7,.bsl 4 0 n,.int .i64 m8,.str m9,.int .i64 m10,sl ac m11,sl ac m12] [(2,38),(8,36)],.cells (pF cS w4) [],.cells [.int .i64 m13,.str m14,sl af m15,sl cS m16,.int .i64 m17,.str m18,.int .i64 m19,sl ac m20,sl ac m21] []] [((8,0),9)]
def xg:Option Bool:=
 if(t.Op !=6)=true then
  some true
 else
  some (decide (i>=(t.Names.length:Int)))
theorem Jc{x:Bool}(h:xg t i=some x):aU Pg GE 0 (cA qaE 260060) (EX .normal (sJ t used i t58 t59 m m2 m3 m4 m5 m6 m7 n m8 m9 m10 m11 m12 w4 m13 m14 m15 m16 m17 m18 m19 m20 m21 x)) (Lj t used i t58 t59 m m2 m3 m4 m5 m6 m7 n m8 m9 m10 m11 m12 w4 m13 m14 m15 m16 m17 m18 m19 m20 m21):=by
 have p17:=fun{sc F} (r:PS sc F)=>sv (aC t)<|sv (aD t)<|r
 rcases bj h with⟨c16,h⟩|⟨c16,h⟩
 ·obtain rfl:=lf h
  exact cd T1 (p17<|sg 4 c16<|eF .normal (sJ t used i t58 t59 m m2 m3 m4 m5 m6 m7 n m8 m9 m10 m11 m12 w4 m13 m14 m15 m16 m17 m18 m19 m20 m21 true))<|by kernel_rfl
 ·obtain rfl:=lf h
  exact cd T1 (p17<|sg 4 c16<|sv (aO t)<|sv (aP t)<|cm (bp.ln t.Names)<|eF .normal (sJ t used i t58 t59 m m2 m3 m4 m5 m6 m7 n m8 m9 m10 m11 m12 w4 m13 m14 m15 m16 m17 m18 m19 m20 m21 (decide (i>=(t.Names.length:Int)))))<|by kernel_rfl
end
section
variable(R119:tA)(t:ae)(t58:waC)(t59:Int)(m3:waC)(m4:waB)(m5:Int)(m6:ag)(n:Nat)(m8:Int)(m9:ag)(m10:Int)(m11:waB)(m12:waB)(used:waA)(t60:Int)(m:waA)(m2:waB)(m7:waC)(w4:List ag)
def fH:aA:=be 139 [(2,.eptr (af t)),(3,.bptr 1 0),(4,.bptr 2 0),(5,.bptr 3 0),(8,sl cS used),(58,sl af t58),(59,.int .i64 t59),(60,.int .i64 t60)] [.dead,.cells [sl cS m,sl ac m2] [],.cells [.int .i64 0,.str ([]:ag),sl af m3,sl cS ([]:List ag),.int .i64 0,.str ([]:ag),.int .i64 0,sl ac m4,sl ac m4] [(2,38),(3,9),(7,36),(8,36)],.cells [.int .i64 m5,.str m6,sl af m7,.bsl 4 0 n,.int .i64 m8,.str m9,.int .i64 m10,sl ac m11,sl ac m12] [(2,38),(8,36)],.cells (pF cS w4) []] [((8,0),9)]
def sL(o:waA×waB×waC×List ag):aA:=be 139 [(4,.bptr 2 0),(5,.bptr 3 0)] [.dead,.cells [sl cS o.1,sl ac o.2.1] [],.cells [.int .i64 0,.str ([]:ag),sl af m3,sl cS ([]:List ag),.int .i64 0,.str ([]:ag),.int .i64 0,sl ac m4,sl ac m4] [(2,38),(3,9),(7,36),(8,36)],.cells [.int .i64 m5,.str m6,sl af o.2.2.1,.bsl 4 0 n,.int .i64 m8,.str m9,.int .i64 m10,sl ac m11,sl ac m12] [(2,38),(8,36)],.cells (pF cS o.2.2.2) []] []
def eJ:Option ((waA×Int×waA×waB×waC×List ag)⊕((waA×waB×waC×List ag))):=
 if (decide (t60 < t59)) = true then
  (cz t58 t60).bind fun x13=>
  (R119 x13 (⟨m,m2⟩:au)).bind fun r14=>
  (app m7 ([r14]:List ae)).bind fun l15=>
  (xg t t60).bind fun o18=>
  if o18=true then
   some (.inl (used,aR (t60+1),m,m2,l15,w4))
  else
   (cz t.Names t60).bind fun x21=>
   (Jf (⟨m,m2⟩:au) x21).bind fun r22=>
   (cz t.Names t60).bind fun x23=>
   (FK r22 x23).bind fun r24=>
   if r24=true then
    (cz t.Names t60).bind fun x27=>
    (sA used x27).bind fun r28=>
    (X6 n w4 t60).bind fun x29=>
    (qft w4 t60 r28).bind fun l30=>
    (qd0 n t60 (aR (t60+1))).bind fun n31=>
    (yt used t60 n31 l30).bind fun r32=>
    (cz t.Names t60).bind fun x33=>
    (app r22.Names ([x33]:List ag)).bind fun l34=>
    (X6 n l30 t60).bind fun x35=>
    (app r22.By ([(⟨3,x35,0,([]:List aa)⟩:aa)]:List aa)).bind fun l36=>
    some (.inl (r32,aR (t60+1),l34,l36,l15,l30))
   else
    some (.inl (used,aR (t60+1),r22.Names,r22.By,l15,w4))
 else
  some (.inr (m,m2,m7,w4))
def xh:Option ((waA×waB×waC×List ag)):=loop (fun(zz:waA×Int×waA×waB×waC×List ag)=>eJ R119 t t58 t59 n zz.1 zz.2.1 zz.2.2.1 zz.2.2.2.1 zz.2.2.2.2.1 zz.2.2.2.2.2) (used,t60,m,m2,m7,w4)
theorem HP(hR119:zg R119){y:(waA×Int×waA×waB×waC×List ag)⊕((waA×waB×waC×List ag))}(h:eJ R119 t t58 t59 n used t60 m m2 m7 w4=some y):aU Pg GE 0 (cA qaE 1015) (LQ (fun(zz:waA×Int×waA×waB×waC×List ag)=>fH t t58 t59 m3 m4 m5 m6 n m8 m9 m10 m11 m12 zz.1 zz.2.1 zz.2.2.1 zz.2.2.2.1 zz.2.2.2.2.1 zz.2.2.2.2.2) (fun _=>.exit 2) (sL m3 m4 m5 m6 n m8 m9 m10 m11 m12) y) (fH t t58 t59 m3 m4 m5 m6 n m8 m9 m10 m11 m12 used t60 m m2 m7 w4):=by
 rcases bj h with⟨c12,h⟩|⟨c12,h⟩
 ·obtain⟨x13,bx13,h⟩:=ay h
  obtain⟨r14,br14,h⟩:=ay h
  obtain⟨l15,bl15,h⟩:=ay h
  obtain⟨o18,bo18,h⟩:=ay h
  have p20:=fun{sc F} (r:PS sc F)=>sg 0 c12<|sv (ck.ia (k:=.i64) bx13)<|sv (aV x13)<|sx tc<|sx (ey x13)<|lY [0,1,0,0,12,28,63,127,255]<|sv (cU x13 [])<|sv (dV (⟨m,m2⟩:au) [])<|bz (hR119 _ _ _ br14)<|sv (ck.mk' (v:=jC) eO ([r14]:List ae) 1 (by kernel_rfl))<|sv (ck.ap bl15)<|VP (rfl:bK (sl af l15)=some [sl af l15])<|kr 1<|cW (Jc t used t60 t58 t59 m m2 m3 m4 m5 m6 l15 n m8 m9 m10 m11 m12 w4 x13.Op x13.Name x13.Args x13.Names x13.Pred.Op x13.Pred.Name x13.Pred.N x13.Pred.Kids x13.Preds bo18)<|r
  rcases bj h with⟨c19,h⟩|⟨c19,h⟩
  ·obtain rfl:=lf h
   have z:=p20<|sg 0 c19<|uz 0 .normal (fH t t58 t59 m3 m4 m5 m6 n m8 m9 m10 m11 m12 used (aR (t60+1)) m m2 l15 w4) rfl (dC (aI (ij (ak t)) (aI (cV rfl) (aI (cV rfl) (aI (cV rfl) (aI (up (aj dQ used)) (aI (up (aj ak t58)) (aI trivial (aI trivial trivial))))))))) (aI trivial (aI (aI (up (aj dQ m)) (aI (up (aj ah m2)) trivial)) (aI (aI trivial (aI trivial (aI (up (aj ak m3)) (aI (up (aj dQ ([]:List ag))) (aI trivial (aI trivial (aI trivial (aI (up (aj ah m4)) (aI (up (aj ah m4)) trivial))))))))) (aI (aI trivial (aI trivial (aI (up (aj ak l15)) (aI (cV rfl) (aI trivial (aI trivial (aI trivial (aI (up (aj ah m11)) (aI (up (aj ah m12)) trivial))))))))) (aI (qeg _ dQ w4) trivial)))))
   exact df (A:=T1) mixed z<|by kernel_rfl
  ·obtain⟨x21,bx21,h⟩:=ay h
   obtain⟨r22,br22,h⟩:=ay h
   obtain⟨x23,bx23,h⟩:=ay h
   obtain⟨r24,br24,h⟩:=ay h
   have p26:=fun{sc F} (r:PS sc F)=>p20<|sg 0 c19<|lY [0,0,2,0,14,30,63,127]<|sv (dV (⟨m,m2⟩:au) [])<|sv (aO t)<|sv (aP t)<|sv (bp.ia (k:=.i64) bx21)<|sv (dH Ba (.str x21) [])<|bz (Wr br22)<|qb2 (lX r22)<|lY [0,0,2,0,14,30,63]<|sv (dV r22 [])<|sv (aO t)<|sv (aP t)<|sv (bp.ia (k:=.i64) bx23)<|sv (dH Ba (.str x23) [])<|bz (UB br24)<|r
   rcases bj h with⟨c25,h⟩|⟨c25,h⟩
   ·obtain⟨x27,bx27,h⟩:=ay h
    obtain⟨r28,br28,h⟩:=ay h
    obtain⟨x29,bx29,h⟩:=ay h
    obtain⟨l30,bl30,h⟩:=ay h
    obtain⟨n31,bn31,h⟩:=ay h
    obtain⟨r32,br32,h⟩:=ay h
    obtain⟨x33,bx33,h⟩:=ay h
    obtain⟨l34,bl34,h⟩:=ay h
    obtain⟨x35,bx35,h⟩:=ay h
    obtain⟨l36,bl36,h⟩:=ay h
    obtain rfl:=lf h
    have z:=p26<|sg 0 c25<|qhx (.dx [0,1,0,0,0,16,0,112,240,504,1023,2047] [] [] [4])<|ss<|sv (aO t)<|sv (aP t)<|sv (bp.ia (k:=.i64) bx27)<|sv (dH Ba (.str x27) [])<|bz (Bf br28)<|sv (bp.iaN 4 (k:=.i64) bx29)<|qjv (bp.stR (E8 r28) bl30)<|ss<|sv (bp.scN 4 bn31)<|si (.cg ⟨[4],[sl cS used,.bsl 0 (lL Pg 9 t60) n31],[],[.cells (pF cS l30) []],[.cells (pF cS l30) []],[.cells (pF cS l30) []],[.cells (pF cS l30) []],sl cS r32,sl cS r32,[(0,9)]⟩) (OF br32)<|sf (aI (xR [4] (sl cS used) (aj dQ used)) (aI (xS [4] 0 4 (lL Pg 9 t60) n31 rfl) trivial))<|sf (aI (aI (rB (.cells (pF cS l30) [])) (aI (rW []) (qkx [4] _ (qeg 0 dQ l30)))) trivial)<|sf (aI (aI (rW []) (qkx [4] _ (qeg 0 dQ l30))) trivial)<|sf (xR [4] (sl cS r32) (aj dQ r32))<|lY [0,1,0,4,0,28,60,124,255,511,1023]<|sv (aO t)<|sv (aP t)<|sv (bp.ia (k:=.i64) bx33)<|sv (dH Ba (.str x33) [])<|sv (bp.mk' (v:=PVal.str) E8 ([x33]:List ag) 1 (by kernel_rfl))<|sv (bp.ap bl34)<|VP (rfl:bK (sl cS l34)=some [sl cS l34])<|lY [0,1,0,4,0,28,60,124,252,511,1023,2047]<|ss<|sv (bp.iaN 4 (k:=.i64) bx35)<|sv (bp.ldN (fun r=>dH Ba (.str x35) r) bx35)<|sb (kj 3 x35) (kh 3 x35)<|sv (bL.mk' (v:=dW) cK ([(⟨3,x35,0,([]:List aa)⟩:aa)]:List aa) 1 (by kernel_rfl))<|sv (bL.ap bl36)<|VP (rfl:bK (sl ac l36)=some [sl ac l36])<|uz 0 .normal (fH t t58 t59 m3 m4 m5 m6 n m8 m9 m10 m11 m12 r32 (aR (t60+1)) l34 l36 l15 l30) rfl (dC (aI (ij (ak t)) (aI (cV rfl) (aI (cV rfl) (aI (cV rfl) (aI (up (aj dQ r32)) (aI (up (aj ak t58)) (aI trivial (aI trivial trivial))))))))) (aI trivial (aI (aI (up (aj dQ l34)) (aI (up (aj ah l36)) trivial)) (aI (aI trivial (aI trivial (aI (up (aj ak m3)) (aI (up (aj dQ ([]:List ag))) (aI trivial (aI trivial (aI trivial (aI (up (aj ah m4)) (aI (up (aj ah m4)) trivial))))))))) (aI (aI trivial (aI trivial (aI (up (aj ak l15)) (aI (cV rfl) (aI trivial (aI trivial (aI trivial (aI (up (aj ah m11)) (aI (up (aj ah m12)) trivial))))))))) (aI (qeg _ dQ l30) trivial)))))
    exact df (A:=T1) mixed z<|by kernel_rfl
   ·obtain rfl:=lf h
    have z:=p26<|sg 0 c25<|uz 0 .normal (fH t t58 t59 m3 m4 m5 m6 n m8 m9 m10 m11 m12 used (aR (t60+1)) r22.Names r22.By l15 w4) rfl (dC (aI (ij (ak t)) (aI (cV rfl) (aI (cV rfl) (aI (cV rfl) (aI (up (aj dQ used)) (aI (up (aj ak t58)) (aI trivial (aI trivial trivial))))))))) (aI trivial (aI (aI (up (aj dQ r22.Names)) (aI (up (aj ah r22.By)) trivial)) (aI (aI trivial (aI trivial (aI (up (aj ak m3)) (aI (up (aj dQ ([]:List ag))) (aI trivial (aI trivial (aI trivial (aI (up (aj ah m4)) (aI (up (aj ah m4)) trivial))))))))) (aI (aI trivial (aI trivial (aI (up (aj ak l15)) (aI (cV rfl) (aI trivial (aI trivial (aI trivial (aI (up (aj ah m11)) (aI (up (aj ah m12)) trivial))))))))) (aI (qeg _ dQ w4) trivial)))))
    exact df (A:=T1) mixed z<|by kernel_rfl
 ·obtain rfl:=lf h
  have z:=sg 0 c12<|eF (.exit 2) (sL m3 m4 m5 m6 n m8 m9 m10 m11 m12 (m,m2,m7,w4))
  exact f6 T1 (by intro hx;cases hx) z<|by kernel_rfl
theorem Je(hR119:zg R119){x:(waA×waB×waC×List ag)}(h:xh R119 t t58 t59 n used t60 m m2 m7 w4=some x):aU Pg GE 0 (.loop (cA qaE 1015)) (EX (.exit 2) (sL m3 m4 m5 m6 n m8 m9 m10 m11 m12 x)) (fH t t58 t59 m3 m4 m5 m6 n m8 m9 m10 m11 m12 used t60 m m2 m7 w4):=
 aU.loop (S:=fun(zz:waA×Int×waA×waB×waC×List ag)=>fH t t58 t59 m3 m4 m5 m6 n m8 m9 m10 m11 m12 zz.1 zz.2.1 zz.2.2.1 zz.2.2.2.1 zz.2.2.2.2.1 zz.2.2.2.2.2) (ex:=(fun _=>.exit 2)) (s:=(used,t60,m,m2,m7,w4)) h fun zz y hy=>HP R119 t t58 t59 m3 m4 m5 m6 n m8 m9 m10 m11 m12 zz.1 zz.2.1 zz.2.2.1 zz.2.2.2.1 zz.2.2.2.2.1 zz.2.2.2.2.2 hR119 hy
end
def tz(R119:tA)(t:ae)(c:au):Option ae:=
 (nk t.Pred c.Names c.By).bind fun r1=>
 (qS t.Preds (t.Preds.length:Int) c.Names c.By 0 ([]:List aa)).bind fun o6=>
 (app [] t.Names).bind fun l7=>
 (FL c.By).bind fun r8=>
 (Pn t).bind fun r9=>
 (gj r8 r9).bind fun r10=>
 (gj r10 t.Names).bind fun r11=>
 (xh R119 t t.Args (t.Args.length:Int) l7.length r11 0 c.Names c.By ([]:List ae) l7).bind fun o37=>
 (qcO l7.length o37.2.2.2).bind fun l38=>
 some (⟨t.Op,t.Name,o37.2.2.1,l38,r1,o6⟩:ae)
theorem Nz(R119:tA)(hR119:zg R119){t:ae}{c:au}{r:ae}(h:tz R119 t c=some r):CC Pg GE 114 [.agg (af t),.agg (aG c)] (.agg (af r)) [(2,38),(8,36)]:=by
 obtain⟨r1,br1,h⟩:=ay h
 obtain⟨o6,bo6,h⟩:=ay h
 obtain⟨l7,bl7,h⟩:=ay h
 obtain⟨r8,br8,h⟩:=ay h
 obtain⟨r9,br9,h⟩:=ay h
 obtain⟨r10,br10,h⟩:=ay h
 obtain⟨r11,br11,h⟩:=ay h
 obtain⟨o37,bo37,h⟩:=ay h
 obtain⟨l38,bl38,h⟩:=ay h
 obtain rfl:=lf h
 have z:=se (bD t)<|sx (lX c)<|sx tc<|lY [0,1,0,4,0,16,0,64,0,256,1008,2047,0,8191]<|sv (aC t)<|sv (aD t)<|sv (cq t)<|sv (cP t)<|sv (dE t)<|sv (dF t)<|ss<|ss<|bz (uG br1)<|sb (PM t.Op t.Name r1) (PJ t.Op t.Name r1)<|qb2 (ey (⟨t.Op,t.Name,([]:List ae),([]:List ag),r1,([]:List aa)⟩:ae))<|sv (dq t)<|sv (dt t)<|cm (bL.ln t.Preds)<|cW (Jd t t.Preds (t.Preds.length:Int) c.Names c.By ([]:List ae) ([]:List aa) t.Op t.Name r1.Op r1.Name r1.N r1.Kids 0 ([]:List aa) bo6)<|sv (aO t)<|sv (aP t)<|qju 4 9 (bp.apR bl7)<|ss<|lY [0,1,3,0,15,31,0,64,255,511]<|ss<|bz (UD br8)<|sv (aV t)<|bz (Wq br9)<|bz (nh br10)<|sv (aO t)<|sv (aP t)<|bz (nh br11)<|sv (aK t)<|sv (aL t)<|cm (ck.ln t.Args)<|cW (Je R119 t t.Args (t.Args.length:Int) ([]:List ae) ([]:List aa) t.Op t.Name l7.length r1.Op r1.Name r1.N r1.Kids o6 r11 0 c.Names c.By ([]:List ae) l7 hR119 bo37)<|qf2 4 (l38.map cS) [4,5] [] (bp.fz1 (m:=0) (b:=4) rfl l38) (bp.fz2 4 l38) (qhu cS bl38)<|sf (E6 4 (p:=sl cS o37.1) (aj dQ o37.1))<|sf (E6 4 (p:=sl ac o37.2.1) (aj ah o37.2.1))<|sf (E6 4 (p:=sl af ([]:List ae)) (aj ak ([]:List ae)))<|sf (E6 4 (p:=sl cS ([]:List ag)) (aj dQ ([]:List ag)))<|sf (E6 4 (p:=sl ac ([]:List aa)) (aj ah ([]:List aa)))<|sf (E6 4 (p:=sl ac ([]:List aa)) (aj ah ([]:List aa)))<|sf (E6 4 (p:=sl af o37.2.2.1) (aj ak o37.2.2.1))<|sf (qhv cS bl38)<|sf (E6 4 (p:=sl ac r1.Kids) (aj ah r1.Kids))<|sf (E6 4 (p:=sl ac o6) (aj ah o6))<|sz (cU (⟨t.Op,t.Name,o37.2.2.1,l38,r1,o6⟩:ae) [])<|sy (bu (⟨t.Op,t.Name,o37.2.2.1,l38,r1,o6⟩:ae))<|en (aI (hX (⟨t.Op,t.Name,o37.2.2.1,l38,r1,o6⟩:ae))<|aI (ak (⟨t.Op,t.Name,o37.2.2.1,l38,r1,o6⟩:ae))<|rT)
 exact bN T1 call114 func114 (c:=qaE) rfl (aI (ak t) (aI (d6 c) trivial)) z<|by kernel_rfl
def zL:((ae×au)->Option ae)->(ae×au)->Option ae:=fun(rec:(ae×au)->Option ae) (x:ae×au)=>tz (fun t c=>rec (t,c)) x.1 x.2
def Eo(t:ae)(c:au):Option ae:=kJ zL (t,c)
theorem Pr{t:ae}{c:au}{r:ae}(h:Eo t c=some r):CC Pg GE 114 [.agg (af t),.agg (aG c)] (.agg (af r)) [(2,38),(8,36)]:=
 cy (F:=zL) (M:=fun(x:ae×au) (r:ae)=>CC Pg GE 114 [.agg (af x.1),.agg (aG x.2)] (.agg (af r)) [(2,38),(8,36)]) (fun rec hrec x r h=>Nz _ (fun t c r h=>hrec (t,c) r h) h) h
noncomputable def qeA:Code:=f100.body.getD .skip
def X9:List Nat:=[15,34,40]
section
variable(v:waB)(t:ae)(i:Int)(s:ag)(t11:waA)(t12:Int)(m:waC)(m2:waB)(m3:waA)(m4:waB)
def Jb:aA:=be 52 [(2,sl ac v),(3,.eptr (af t)),(6,.bptr 1 0),(7,.bptr 2 0),(8,.int .i64 i),(9,.str s),(11,sl cS t11),(12,.int .i64 t12),(13,.int .i64 i)] [.dead,.cells [.int .i64 0,.str ([]:ag),sl af m,sl cS ([]:List ag),.int .i64 0,.str ([]:ag),.int .i64 0,sl ac m2,sl ac m2] [(2,38),(3,9),(7,36),(8,36)],.cells [sl cS m3,sl ac m4] [(0,9),(1,36)]] []
def lR(o:Bool):aA:=be 52 [(2,sl ac v),(3,.eptr (af t)),(6,.bptr 1 0),(7,.bptr 2 0),(8,.int .i64 i),(9,.str s),(11,sl cS t11),(12,.int .i64 t12),(13,.int .i64 i),(32,.bool o)] [.dead,.cells [.int .i64 0,.str ([]:ag),sl af m,sl cS ([]:List ag),.int .i64 0,.str ([]:ag),.int .i64 0,sl ac m2,sl ac m2] [(2,38),(3,9),(7,36),(8,36)],.cells [sl cS m3,sl ac m4] [(0,9),(1,36)]] []
def uP:Option Bool:=
 if(decide (i<(v.length:Int)))=true then
  if(!(s==([118]:ag)))=true then
   (gI m3 s).bind fun r6=>
   some (decide (r6<0))
  else
   some false
 else
  some false
theorem HM{x:Bool}(h:uP v i s m3=some x):aU Pg GE 0 (cA qeA 7670) (EX .normal (lR v t i s t11 t12 m m2 m3 m4 x)) (Jb v t i s t11 t12 m m2 m3 m4):=by
 rcases bj h with⟨c3,h⟩|⟨c3,h⟩
 ·have p5:=fun{sc F} (r:PS sc F)=>cm (bL.ln v)<|sg 5 c3<|r
  rcases bj h with⟨c4,h⟩|⟨c4,h⟩
  ·obtain⟨r6,br6,h⟩:=ay h
   obtain rfl:=lf h
   exact cd X9 (p5<|sg 9 c4<|ss<|bz (j6 br6)<|eF .normal (lR v t i s t11 t12 m m2 m3 m4 (decide (r6<0))))<|by kernel_rfl
  ·obtain rfl:=lf h
   exact cd X9 (p5<|sg 9 c4<|eF .normal (lR v t i s t11 t12 m m2 m3 m4 false))<|by kernel_rfl
 ·obtain rfl:=lf h
  exact cd X9 (cm (bL.ln v)<|sg 5 c3<|eF .normal (lR v t i s t11 t12 m m2 m3 m4 false))<|by kernel_rfl
end
section
variable(v:waB)(t:ae)(t11:waA)(t12:Int)(m:waC)(m2:waB)(t13:Int)(m3:waA)(m4:waB)
def gn:aA:=be 52 [(2,sl ac v),(3,.eptr (af t)),(6,.bptr 1 0),(7,.bptr 2 0),(11,sl cS t11),(12,.int .i64 t12),(13,.int .i64 t13)] [.dead,.cells [.int .i64 0,.str ([]:ag),sl af m,sl cS ([]:List ag),.int .i64 0,.str ([]:ag),.int .i64 0,sl ac m2,sl ac m2] [(2,38),(3,9),(7,36),(8,36)],.cells [sl cS m3,sl ac m4] [(0,9),(1,36)]] []
def qR(o:waA×waB):aA:=be 52 [(3,.eptr (af t)),(6,.bptr 1 0),(7,.bptr 2 0)] [.dead,.cells [.int .i64 0,.str ([]:ag),sl af m,sl cS ([]:List ag),.int .i64 0,.str ([]:ag),.int .i64 0,sl ac m2,sl ac m2] [(2,38),(3,9),(7,36),(8,36)],.cells [sl cS o.1,sl ac o.2] [(0,9),(1,36)]] []
def ej:Option ((Int×waA×waB)⊕((waA×waB))):=
 if(decide (t13<t12))=true then
  (cz t11 t13).bind fun x2=>
  (uP v t13 x2 m3).bind fun o7=>
  if o7=true then
   (app m3 ([x2]:List ag)).bind fun l10=>
   (cz v t13).bind fun x11=>
   (app m4 ([x11]:List aa)).bind fun l12=>
   some (.inl (aR (t13+1),l10,l12))
  else
   some (.inl (aR (t13+1),m3,m4))
 else
  some (.inr (m3,m4))
def uQ:Option ((waA×waB)):=loop (fun(zz:Int×waA×waB)=>ej v t11 t12 zz.1 zz.2.1 zz.2.2) (t13,m3,m4)
theorem Gy{y:(Int×waA×waB)⊕((waA×waB))}(h:ej v t11 t12 t13 m3 m4=some y):aU Pg GE 0 (cA qeA 119) (LQ (fun(zz:Int×waA×waB)=>gn v t t11 t12 m m2 zz.1 zz.2.1 zz.2.2) (fun _=>.exit 0) (qR t m m2) y) (gn v t t11 t12 m m2 t13 m3 m4):=by
 rcases bj h with⟨c1,h⟩|⟨c1,h⟩
 ·obtain⟨x2,bx2,h⟩:=ay h
  obtain⟨o7,bo7,h⟩:=ay h
  have p9:=fun{sc F} (r:PS sc F)=>sg 0 c1<|sv (bp.ia (k:=.i64) bx2)<|sv (dH Ba (.str x2) [])<|kr 0<|cW (HM v t t13 x2 t11 t12 m m2 m3 m4 bo7)<|r
  rcases bj h with⟨c8,h⟩|⟨c8,h⟩
  ·obtain⟨l10,bl10,h⟩:=ay h
   obtain⟨x11,bx11,h⟩:=ay h
   obtain⟨l12,bl12,h⟩:=ay h
   obtain rfl:=lf h
   exact n9 X9 (p9<|sg 0 c8<|sv (bp.mk' (v:=PVal.str) E8 ([x2]:List ag) 1 (by kernel_rfl))<|sv (bp.ap bl10)<|lY [0,1,0,0,12,28,60,127,255,511]<|sv (bL.ia (k:=.i64) bx11)<|sv (bh x11)<|sv (bL.mk' (v:=dW) cK ([x11]:List aa) 1 (by kernel_rfl))<|sv (bL.ap bl12)<|VP (rfl:bK (sl ac l12)=some [sl ac l12])<|eF .normal (gn v t t11 t12 m m2 (aR (t13+1)) l10 l12))<|by kernel_rfl
  ·obtain rfl:=lf h
   exact n9 X9 (p9<|sg 0 c8<|eF .normal (gn v t t11 t12 m m2 (aR (t13+1)) m3 m4))<|by kernel_rfl
 ·obtain rfl:=lf h
  have z:=sg 0 c1<|eF (.exit 0) (qR t m m2 (m3,m4))
  exact f6 X9 (by intro hx;cases hx) z<|by kernel_rfl
theorem HN{x:(waA×waB)}(h:uQ v t11 t12 t13 m3 m4=some x):aU Pg GE 0 (.loop (cA qeA 119)) (EX (.exit 0) (qR t m m2 x)) (gn v t t11 t12 m m2 t13 m3 m4):=
 aU.loop (S:=fun(zz:Int×waA×waB)=>gn v t t11 t12 m m2 zz.1 zz.2.1 zz.2.2) (ex:=(fun _=>.exit 0)) (s:=(t13,m3,m4)) h fun zz y hy=>Gy v t t11 t12 m m2 zz.1 zz.2.1 zz.2.2 hy
end
def BN(t:ae)(names:waA)(a:waB):Option ae:=
 (uQ a names (names.length:Int) 0 ([]:List ag) ([]:List aa)).bind fun o13=>
 (Eo t (⟨o13.1,o13.2⟩:au)).bind fun r14=>
 some r14
theorem Ny{t:ae}{names:waA}{a:waB}{r:ae}(h:BN t names a=some r):CC Pg GE 100 [.agg (af t),sl cS names,sl ac a] (.agg (af r)) [(2,38),(8,36)]:=by
 obtain⟨o13,bo13,h⟩:=ay h
 obtain⟨r14,br14,h⟩:=ay h
 obtain rfl:=lf h
 have z:=se (bD t)<|sx tc<|sb (kG) (kF)<|sx qdL<|sy (cZ (⟨([]:List ag),([]:List aa)⟩:au))<|cm (bp.ln names)<|cW (HN a t names (names.length:Int) ([]:List ae) ([]:List aa) 0 ([]:List ag) ([]:List aa) bo13)<|sv (aV t)<|sv (dV (⟨o13.1,o13.2⟩:au) [])<|bz (Pr br14)<|sy (bu r14)<|en (aI (hX r14)<|aI (ak r14)<|rT)
 exact bN X9 call100 func100 (c:=qeA) rfl (aI (ak t) (aI (aj dQ names) (aI (aj ah a) trivial))) z<|by kernel_rfl
noncomputable def qlA:Code:=f85.body.getD .skip
def qlk:List Nat:=[]
def FJ(t:ae)(name:ag)(a:aa):Option ae:=
 (BN t ([name]:List ag) ([a]:List aa)).bind fun r1=>
 some r1
theorem UA{t:ae}{name:ag}{a:aa}{r:ae}(h:FJ t name a=some r):CC Pg GE 85 [.agg (af t),.str name,.agg (ac a)] (.agg (af r)) [(2,38),(8,36)]:=by
 obtain⟨r1,br1,h⟩:=ay h
 obtain rfl:=lf h
 have z:=se (bD t)<|se (bS a)<|sx tc<|sv (aV t)<|sv (bp.mk' (v:=PVal.str) E8 ([name]:List ag) 1 (by kernel_rfl))<|sv (bh a)<|sv (bL.mk' (v:=dW) cK ([a]:List aa) 1 (by kernel_rfl))<|bz (Ny br1)<|sy (bu r1)<|en (aI (hX r1)<|aI (ak r1)<|rT)
 exact bN qlk call85 func85 (c:=qlA) rfl (aI (ak t) (aI trivial (aI (ah a) trivial))) z<|by kernel_rfl
noncomputable def qh8:Code:=f59.body.getD .skip
def qhf:List Nat:=[]
section
variable(i:Int)(v:ag)(t:ae)(m:waC)(m2:waB)(m3:Int)(m4:ag)(n:Nat)(m5:waA)(m6:Int)(m7:ag)(m8:Int)(m9:waB)(m10:waB)(w3:List ae)
def NH:aA:=be 56 [(1,.int .i64 i),(2,.str v),(3,.eptr (af t)),(6,.bptr 1 0),(7,.bptr 2 0)] [.dead,.cells [.int .i64 0,.str ([]:ag),sl af m,sl cS ([]:List ag),.int .i64 0,.str ([]:ag),.int .i64 0,sl ac m2,sl ac m2] [(2,38),(3,9),(7,36),(8,36)],.cells [.int .i64 m3,.str m4,.bsl 3 0 n,sl cS m5,.int .i64 m6,.str m7,.int .i64 m8,sl ac m9,sl ac m10] [],.cells (pF af w3) []] []
def uT(o:Bool):aA:=be 56 [(1,.int .i64 i),(2,.str v),(3,.eptr (af t)),(6,.bptr 1 0),(7,.bptr 2 0),(27,.bool o)] [.dead,.cells [.int .i64 0,.str ([]:ag),sl af m,sl cS ([]:List ag),.int .i64 0,.str ([]:ag),.int .i64 0,sl ac m2,sl ac m2] [(2,38),(3,9),(7,36),(8,36)],.cells [.int .i64 m3,.str m4,.bsl 3 0 n,sl cS m5,.int .i64 m6,.str m7,.int .i64 m8,sl ac m9,sl ac m10] [],.cells (pF af w3) []] []
def zQ:Option Bool:=
 if(decide (i>=(t.Names.length:Int)))=true then
  some true
 else
  (cz t.Names i).bind fun x4=>
  some (x4==([]:ag))
theorem Lo{x:Bool}(h:zQ i t=some x):aU Pg GE 0 (cA qh8 60) (EX .normal (uT i v t m m2 m3 m4 n m5 m6 m7 m8 m9 m10 w3 x)) (NH i v t m m2 m3 m4 n m5 m6 m7 m8 m9 m10 w3):=by
 have p3:=fun{sc F} (r:PS sc F)=>sv (aO t)<|sv (aP t)<|cm (bp.ln t.Names)<|r
 rcases bj h with⟨c2,h⟩|⟨c2,h⟩
 ·obtain rfl:=lf h
  exact cd qhf (p3<|sg 6 c2<|eF .normal (uT i v t m m2 m3 m4 n m5 m6 m7 m8 m9 m10 w3 true))<|by kernel_rfl
 ·obtain⟨x4,bx4,h⟩:=ay h
  obtain rfl:=lf h
  exact cd qhf (p3<|sg 6 c2<|sv (aO t)<|sv (aP t)<|sv (bp.ia (k:=.i64) bx4)<|sv (dH Ba (.str x4) [])<|eF .normal (uT i v t m m2 m3 m4 n m5 m6 m7 m8 m9 m10 w3 (x4==([]:ag))))<|by kernel_rfl
end
section
variable(i:Int)(v:ag)(t:ae)(m:waC)(m2:waB)(m3:Int)(m4:ag)(n:Nat)(m5:waA)(m6:Int)(m7:ag)(m8:Int)(m9:waB)(m10:waB)(k:Int)(w3:List ae)
def kE:aA:=be 56 [(1,.int .i64 i),(2,.str v),(3,.eptr (af t)),(6,.bptr 1 0),(7,.bptr 2 0),(8,.int .i64 k)] [.dead,.cells [.int .i64 0,.str ([]:ag),sl af m,sl cS ([]:List ag),.int .i64 0,.str ([]:ag),.int .i64 0,sl ac m2,sl ac m2] [(2,38),(3,9),(7,36),(8,36)],.cells [.int .i64 m3,.str m4,.bsl 3 0 n,sl cS m5,.int .i64 m6,.str m7,.int .i64 m8,sl ac m9,sl ac m10] [],.cells (pF af w3) []] []
def uU(o:List ae):aA:=be 56 [(6,.bptr 1 0),(7,.bptr 2 0)] [.dead,.cells [.int .i64 0,.str ([]:ag),sl af m,sl cS ([]:List ag),.int .i64 0,.str ([]:ag),.int .i64 0,sl ac m2,sl ac m2] [(2,38),(3,9),(7,36),(8,36)],.cells [.int .i64 m3,.str m4,.bsl 3 0 n,sl cS m5,.int .i64 m6,.str m7,.int .i64 m8,sl ac m9,sl ac m10] [],.cells (pF af o) []] []
def iG:Option ((Int×List ae)⊕(waC)):=
 if(decide (k<(n:Int)))=true then
  (X6 n w3 k).bind fun x11=>
  (cz t.Names i).bind fun x12=>
  (gR v).bind fun r13=>
  (FJ x11 x12 r13).bind fun r14=>
  (X6 n w3 k).bind fun x15=>
  (qft w3 k r14).bind fun l16=>
  some (.inl (aR (k+1),l16))
 else
  some (.inr w3)
def zR:Option waC:=loop (fun(zz:Int×List ae)=>iG i v t n zz.1 zz.2) (k,w3)
theorem Jm{y:(Int×List ae)⊕(waC)}(h:iG i v t n k w3=some y):aU Pg GE 0 (cA qh8 503) (LQ (fun(zz:Int×List ae)=>kE i v t m m2 m3 m4 n m5 m6 m7 m8 m9 m10 zz.1 zz.2) (fun _=>.exit 0) (uU m m2 m3 m4 n m5 m6 m7 m8 m9 m10) y) (kE i v t m m2 m3 m4 n m5 m6 m7 m8 m9 m10 k w3):=by
 have p10:=fun{sc F} (r:PS sc F)=>ss<|cm (ck.lnR 3 0 n)<|r
 rcases bj h with⟨c9,h⟩|⟨c9,h⟩
 ·obtain⟨x11,bx11,h⟩:=ay h
  obtain⟨x12,bx12,h⟩:=ay h
  obtain⟨r13,br13,h⟩:=ay h
  obtain⟨r14,br14,h⟩:=ay h
  obtain⟨x15,bx15,h⟩:=ay h
  obtain⟨l16,bl16,h⟩:=ay h
  obtain rfl:=lf h
  exact n9 qhf (p10<|sg 0 c9<|qhx (.dx [0,1,0,0,8,0,56,120,0,256,0,1792,3840,0,8192,32760,65535,131071] [] [] [3])<|ss<|ss<|sv (ck.iaN 3 (k:=.i64) bx11)<|sv (ck.ldN (To x11) bx11)<|sv (aO t)<|sv (aP t)<|sv (bp.ia (k:=.i64) bx12)<|sv (dH Ba (.str x12) [])<|bz (pA br13)<|bz (UA br14)<|sv (ck.iaN 3 (k:=.i64) bx15)<|qjv (ck.stR (eO r14) bl16)<|eF .normal (kE i v t m m2 m3 m4 n m5 m6 m7 m8 m9 m10 (aR (k+1)) l16))<|by kernel_rfl
 ·obtain rfl:=lf h
  have z:=p10<|sg 0 c9<|eF (.exit 0) (uU m m2 m3 m4 n m5 m6 m7 m8 m9 m10 w3)
  exact f6 qhf (by intro hx;cases hx) z<|by kernel_rfl
theorem Lp{x:waC}(h:zR i v t n k w3=some x):aU Pg GE 0 (.loop (cA qh8 503)) (EX (.exit 0) (uU m m2 m3 m4 n m5 m6 m7 m8 m9 m10 x)) (kE i v t m m2 m3 m4 n m5 m6 m7 m8 m9 m10 k w3):=
 aU.loop (S:=fun(zz:Int×List ae)=>kE i v t m m2 m3 m4 n m5 m6 m7 m8 m9 m10 zz.1 zz.2) (ex:=(fun _=>.exit 0)) (s:=(k,w3)) h fun zz y hy=>Jm i v t m m2 m3 m4 n m5 m6 m7 m8 m9 m10 zz.1 zz.2 hy
end
def xn(t:ae)(i:Int)(a:ag):Option ae:=
 (app [] t.Args).bind fun l1=>
 (zQ i t).bind fun o5=>
 if o5=true then
  (qcO l1.length l1).bind fun l8=>
  some (⟨t.Op,t.Name,l8,t.Names,t.Pred,t.Preds⟩:ae)
 else
  (zR i a t l1.length (aR (i+1)) l1).bind fun o17=>
  (qcO l1.length o17).bind fun l18=>
  some (⟨t.Op,t.Name,l18,t.Names,t.Pred,t.Preds⟩:ae)
theorem G0{t:ae}{i:Int}{a:ag}{r:ae}(h:xn t i a=some r):CC Pg GE 59 [.agg (af t),.int .i64 i,.str a] (.agg (af r)) []:=by
 obtain⟨l1,bl1,h⟩:=ay h
 obtain⟨o5,bo5,h⟩:=ay h
 have p7:=fun{sc F} (r:PS sc F)=>se (bD t)<|sx tc<|sv (aV t)<|sx tc<|sx (ey t)<|sv (ck.mk' (v:=jC) eO ([]:List ae) 0 (by kernel_rfl))<|sv (aK t)<|sv (aL t)<|qju 3 38 (ck.apR bl1)<|ss<|kr 1<|cW (Lo i a t ([]:List ae) ([]:List aa) t.Op t.Name l1.length t.Names t.Pred.Op t.Pred.Name t.Pred.N t.Pred.Kids t.Preds l1 bo5)<|r
 rcases bj h with⟨c6,h⟩|⟨c6,h⟩
 ·obtain⟨l8,bl8,h⟩:=ay h
  obtain rfl:=lf h
  have z:=p7<|sg 0 c6<|qf2 3 (l8.map af) [6,7] [] (ck.fz1 (m:=0) (b:=3) rfl l8) (ck.fz2 3 l8) (qhu af bl8)<|sf (E6 3 (p:=sl af ([]:List ae)) (aj ak ([]:List ae)))<|sf (E6 3 (p:=sl cS ([]:List ag)) (aj dQ ([]:List ag)))<|sf (E6 3 (p:=sl ac ([]:List aa)) (aj ah ([]:List aa)))<|sf (E6 3 (p:=sl ac ([]:List aa)) (aj ah ([]:List aa)))<|sf (qhv af bl8)<|sf (E6 3 (p:=sl cS t.Names) (aj dQ t.Names))<|sf (E6 3 (p:=sl ac t.Pred.Kids) (aj ah t.Pred.Kids))<|sf (E6 3 (p:=sl ac t.Preds) (aj ah t.Preds))<|sv (cU (⟨t.Op,t.Name,l8,t.Names,t.Pred,t.Preds⟩:ae) [])<|sx (ey (⟨t.Op,t.Name,l8,t.Names,t.Pred,t.Preds⟩:ae))<|en (aI (hX (⟨t.Op,t.Name,l8,t.Names,t.Pred,t.Preds⟩:ae))<|(ak (⟨t.Op,t.Name,l8,t.Names,t.Pred,t.Preds⟩:ae)))
  exact bN qhf call59 func59 (c:=qh8) rfl (aI (ak t) (aI trivial (aI trivial trivial))) z<|by kernel_rfl
 ·obtain⟨o17,bo17,h⟩:=ay h
  obtain⟨l18,bl18,h⟩:=ay h
  obtain rfl:=lf h
  have z:=p7<|sg 0 c6<|cW (Lp i a t ([]:List ae) ([]:List aa) t.Op t.Name l1.length t.Names t.Pred.Op t.Pred.Name t.Pred.N t.Pred.Kids t.Preds (aR (i+1)) l1 bo17)<|qf2 3 (l18.map af) [6,7] [] (ck.fz1 (m:=0) (b:=3) rfl l18) (ck.fz2 3 l18) (qhu af bl18)<|sf (E6 3 (p:=sl af ([]:List ae)) (aj ak ([]:List ae)))<|sf (E6 3 (p:=sl cS ([]:List ag)) (aj dQ ([]:List ag)))<|sf (E6 3 (p:=sl ac ([]:List aa)) (aj ah ([]:List aa)))<|sf (E6 3 (p:=sl ac ([]:List aa)) (aj ah ([]:List aa)))<|sf (qhv af bl18)<|sf (E6 3 (p:=sl cS t.Names) (aj dQ t.Names))<|sf (E6 3 (p:=sl ac t.Pred.Kids) (aj ah t.Pred.Kids))<|sf (E6 3 (p:=sl ac t.Preds) (aj ah t.Preds))<|sv (cU (⟨t.Op,t.Name,l18,t.Names,t.Pred,t.Preds⟩:ae) [])<|sx (ey (⟨t.Op,t.Name,l18,t.Names,t.Pred,t.Preds⟩:ae))<|en (aI (hX (⟨t.Op,t.Name,l18,t.Names,t.Pred,t.Preds⟩:ae))<|(ak (⟨t.Op,t.Name,l18,t.Names,t.Pred,t.Preds⟩:ae)))
  exact bN qhf call59 func59 (c:=qh8) rfl (aI (ak t) (aI trivial (aI trivial trivial))) z<|by kernel_rfl
noncomputable def qhn:Code:=f38.body.getD .skip
def qfB:List Nat:=[89,115]
section
variable(i:Int)(tag:Int)(used:waA)(m:aH)(v:ae)(v2:ae)(m2:waB)(m3:waD)
def Jp:aA:=be 127 [(3,.int .i64 i),(4,.int .i64 tag),(5,sl cS used),(6,.eptr (aB m)),(7,.eptr (af v)),(8,.eptr (af v2)),(12,.bptr 3 0),(14,.str ([120]:ag))] [.dead,.dead,.dead,.cells [.int .i64 0,.str ([]:ag),.str ([]:ag),.int .i64 0,.str ([]:ag),.int .i64 0,sl ac m2,.int .i64 0,sl aw m3] [(6,36),(8,50)]] []
def qW(o:Bool):aA:=be 127 [(3,.int .i64 i),(4,.int .i64 tag),(5,sl cS used),(6,.eptr (aB m)),(7,.eptr (af v)),(8,.eptr (af v2)),(12,.bptr 3 0),(14,.str ([120]:ag)),(53,.bool o)] [.dead,.dead,.dead,.cells [.int .i64 0,.str ([]:ag),.str ([]:ag),.int .i64 0,.str ([]:ag),.int .i64 0,sl ac m2,.int .i64 0,sl aw m3] [(6,36),(8,50)]] []
def uV:Option Bool:=
 if(decide (i<(v2.Names.length:Int)))=true then
  (cz v2.Names i).bind fun x8=>
  some (!(x8==([]:ag)))
 else
  some false
theorem HW{x:Bool}(h:uV i v2=some x):aU Pg GE 0 (cA qhn 60) (EX .normal (qW i tag used m v v2 m2 m3 x)) (Jp i tag used m v v2 m2 m3):=by
 have p7:=fun{sc F} (r:PS sc F)=>sv (aO v2)<|sv (aP v2)<|cm (bp.ln v2.Names)<|r
 rcases bj h with⟨c6,h⟩|⟨c6,h⟩
 ·obtain⟨x8,bx8,h⟩:=ay h
  obtain rfl:=lf h
  exact cd qfB (p7<|sg 6 c6<|sv (aO v2)<|sv (aP v2)<|sv (bp.ia (k:=.i64) bx8)<|sv (dH Ba (.str x8) [])<|eF .normal (qW i tag used m v v2 m2 m3 (!(x8==([]:ag)))))<|by kernel_rfl
 ·obtain rfl:=lf h
  exact cd qfB (p7<|sg 6 c6<|eF .normal (qW i tag used m v v2 m2 m3 false))<|by kernel_rfl
end
section
variable(i:Int)(tag:Int)(used:waA)(m:aH)(v:ae)(v2:ae)(m2:waB)(m3:waD)
def Jo:aA:=be 127 [(3,.int .i64 i),(4,.int .i64 tag),(5,sl cS used),(6,.eptr (aB m)),(7,.eptr (af v)),(8,.eptr (af v2)),(12,.bptr 3 0),(14,.str ([120]:ag))] [.dead,.dead,.dead,.cells [.int .i64 0,.str ([]:ag),.str ([]:ag),.int .i64 0,.str ([]:ag),.int .i64 0,sl ac m2,.int .i64 0,sl aw m3] [(6,36),(8,50)]] []
def qV(o:ag):aA:=be 127 [(3,.int .i64 i),(4,.int .i64 tag),(5,sl cS used),(6,.eptr (aB m)),(7,.eptr (af v)),(8,.eptr (af v2)),(12,.bptr 3 0),(14,.str o)] [.dead,.dead,.dead,.cells [.int .i64 0,.str ([]:ag),.str ([]:ag),.int .i64 0,.str ([]:ag),.int .i64 0,sl ac m2,.int .i64 0,sl aw m3] [(6,36),(8,50)]] []
def pz:Option ag:=
 (uV i v2).bind fun o9=>
 if o9=true then
  (cz v2.Names i).bind fun x12=>
  some x12
 else
  some ([120]:ag)
theorem HV{x:ag}(h:pz i v2=some x):aU Pg GE 0 (cA qhn 30) (EX .normal (qV i tag used m v v2 m2 m3 x)) (Jo i tag used m v v2 m2 m3):=by
 obtain⟨o9,bo9,h⟩:=ay h
 have p11:=fun{sc F} (r:PS sc F)=>kr 0<|cW (HW i tag used m v v2 m2 m3 bo9)<|r
 rcases bj h with⟨c10,h⟩|⟨c10,h⟩
 ·obtain⟨x12,bx12,h⟩:=ay h
  obtain rfl:=lf h
  exact cd qfB (p11<|sg 0 c10<|sv (aO v2)<|sv (aP v2)<|sv (bp.ia (k:=.i64) bx12)<|sv (dH Ba (.str x12) [])<|eF .normal (qV i tag used m v v2 m2 m3 x12))<|by kernel_rfl
 ·obtain rfl:=lf h
  exact cd qfB (p11<|sg 0 c10<|eF .normal (qV i tag used m v v2 m2 m3 ([120]:ag)))<|by kernel_rfl
end
def qU(R94:nw)(R114:xt)(m:aH)(a:ae)(a2:ae)(i:Int)(tag:Int)(used:waA):Option (ai×Int):=
 if(i==(aR ((a2.Args.length:Int) - 1)))=true then
  (cz a.Args i).bind fun x3=>
  (cz a2.Args i).bind fun x4=>
  (R94 m x3 x4 tag used).bind fun r5=>
  some (r5.1,r5.2)
 else
  (pz i a2).bind fun o13=>
  (Au a2 i ([]:List ag)).bind fun r14=>
  (Au a i r14).bind fun r15=>
  (app r15 used).bind fun l16=>
  (sA l16 o13).bind fun r17=>
  (cz a2.Args i).bind fun x18=>
  (cz a.Args i).bind fun x19=>
  (R94 m x18 x19 tag used).bind fun r20=>
  if(r20.2 !=0)=true then
   some ((⟨0,([]:ag),([]:ag),(⟨0,([]:ag),0,([]:List aa)⟩:aa),0,([]:List ai)⟩:ai),r20.2)
  else
   (xn a i r17).bind fun r23=>
   (xn a2 i r17).bind fun r24=>
   (app ([]:List ag) used).bind fun l25=>
   (app l25 ([r17]:List ag)).bind fun l26=>
   (R114 m r23 r24 (aR (i+1)) tag l26).bind fun r27=>
   if(r27.2 !=0)=true then
    some ((⟨0,([]:ag),([]:ag),(⟨0,([]:ag),0,([]:List aa)⟩:aa),0,([]:List ai)⟩:ai),r27.2)
   else
    (cz a2.Args i).bind fun x30=>
    (ED x30 r17 r27.1).bind fun r31=>
    (N8 ([r20.1,r31]:List ai)).bind fun r32=>
    some (r32,0)
theorem Lr(R94:nw)(hR94:KH R94)(R114:xt)(hR114:Ov R114){m:aH}{a:ae}{a2:ae}{i:Int}{tag:Int}{used:waA}{r:ai×Int}(h:qU R94 R114 m a a2 i tag used=some r):CC Pg GE 38 [.agg (aB m),.agg (af a),.agg (af a2),.int .i64 i,.int .i64 tag,sl cS used] (.tuple [.agg (aw r.1),.int .i64 r.2]) []:=by
 have p2:=fun{sc F} (r:PS sc F)=>se (jm m)<|se (bD a)<|se (bD a2)<|sx td<|sv (aK a2)<|sv (aL a2)<|cm (ck.ln a2.Args)<|r
 rcases bj h with⟨c1,h⟩|⟨c1,h⟩
 ·obtain⟨x3,bx3,h⟩:=ay h
  obtain⟨x4,bx4,h⟩:=ay h
  obtain⟨r5,br5,h⟩:=ay h
  obtain rfl:=lf h
  have z:=p2<|sg 0 c1<|lY [0,0,2,0,14,30,0,64,0,448,960,0,0,8191,16383,16383,65535,131071]<|sv (jl m)<|sv (aK a)<|sv (aL a)<|sv (ck.ia (k:=.i64) bx3)<|sv (aV x3)<|sv (aK a2)<|sv (aL a2)<|sv (ck.ia (k:=.i64) bx4)<|sv (aV x4)<|bz (hR94 _ _ _ _ _ _ br5)<|sx (cF r5.1)<|en (aI (va9 PVal.tuple (jv (cM r5.1) (jv (rP (.int .i64 r5.2)) (rfl:([]:List PVal)=[]))))<|(aI (ba r5.1) (aI trivial trivial)))
  exact bN qfB call38 func38 (c:=qhn) rfl (aI (de m) (aI (ak a) (aI (ak a2) (aI trivial (aI trivial (aI (aj dQ used) trivial)))))) z<|by kernel_rfl
 ·obtain⟨o13,bo13,h⟩:=ay h
  obtain⟨r14,br14,h⟩:=ay h
  obtain⟨r15,br15,h⟩:=ay h
  obtain⟨l16,bl16,h⟩:=ay h
  obtain⟨r17,br17,h⟩:=ay h
  obtain⟨x18,bx18,h⟩:=ay h
  obtain⟨x19,bx19,h⟩:=ay h
  obtain⟨r20,br20,h⟩:=ay h
  have p22:=fun{sc F} (r:PS sc F)=>p2<|sg 0 c1<|kr 1<|cW (HV i tag used m a a2 ([]:List aa) ([]:List ai) bo13)<|lY [0,0,0,0,12,31,0,127,0,511,1023]<|sv (aV a)<|sv (aV a2)<|si (.cg ⟨[],[.agg (af a2),.int .i64 i,sl cS ([]:List ag)],[⟨2,1000000,0,9⟩],[],[],[],[],sl cS r14,sl cS r14,[(0,9)]⟩) (Jq br14)<|sf (aI (xR [] (.agg (af a2)) (ak a2)) (aI (xR [] (.int .i64 i) trivial) (aI (xR [] (sl cS ([]:List ag)) (aj dQ ([]:List ag))) trivial)))<|sf trivial<|sf trivial<|sf (xR [] (sl cS r14) (aj dQ r14))<|si (.cg ⟨[],[.agg (af a),.int .i64 i,sl cS r14],[⟨2,63,0,9⟩],[],[],[],[],sl cS r15,sl cS r15,[(0,9)]⟩) (Jq br15)<|sf (aI (xR [] (.agg (af a)) (ak a)) (aI (xR [] (.int .i64 i) trivial) (aI (xR [] (sl cS r14) (aj dQ r14)) trivial)))<|sf trivial<|sf trivial<|sf (xR [] (sl cS r15) (aj dQ r15))<|sv (bp.ap bl16)<|bz (Bf br17)<|lY [0,0,2,0,14,30,0,64,0,448,960,0,0,8191,16383,32767,32767,0,196607,524287]<|sv (jl m)<|sv (aK a2)<|sv (aL a2)<|sv (ck.ia (k:=.i64) bx18)<|sv (aV x18)<|sv (aK a)<|sv (aL a)<|sv (ck.ia (k:=.i64) bx19)<|sv (aV x19)<|bz (hR94 _ _ _ _ _ _ br20)<|sx (cF r20.1)<|r
  rcases bj h with⟨c21,h⟩|⟨c21,h⟩
  ·obtain rfl:=lf h
   have z:=p22<|sg 0 c21<|sb (Cd) (Cb)<|sy (cb (⟨0,([]:ag),([]:ag),(⟨0,([]:ag),0,([]:List aa)⟩:aa),0,([]:List ai)⟩:ai))<|en (aI (va9 PVal.tuple (jv (cM (⟨0,([]:ag),([]:ag),(⟨0,([]:ag),0,([]:List aa)⟩:aa),0,([]:List ai)⟩:ai)) (jv (rP (.int .i64 r20.2)) (rfl:([]:List PVal)=[]))))<|(aI (ba (⟨0,([]:ag),([]:ag),(⟨0,([]:ag),0,([]:List aa)⟩:aa),0,([]:List ai)⟩:ai)) (aI trivial trivial)))
   exact bN qfB call38 func38 (c:=qhn) rfl (aI (de m) (aI (ak a) (aI (ak a2) (aI trivial (aI trivial (aI (aj dQ used) trivial)))))) z<|by kernel_rfl
  ·obtain⟨r23,br23,h⟩:=ay h
   obtain⟨r24,br24,h⟩:=ay h
   obtain⟨l25,bl25,h⟩:=ay h
   obtain⟨l26,bl26,h⟩:=ay h
   obtain⟨r27,br27,h⟩:=ay h
   have p29:=fun{sc F} (r:PS sc F)=>p22<|sg 0 c21<|lY [0,0,0,0,14,0,0,0,254,0,512,0,0,0,12798,0,32768,127486,262143,524287,1048575,1048575,0,6291455,16777215]<|sv (jl m)<|sv (aV a)<|bz (G0 br23)<|sv (aV a2)<|bz (G0 br24)<|sv (bp.mk' (v:=PVal.str) E8 ([]:List ag) 0 (by kernel_rfl))<|sv (bp.ap bl25)<|sv (bp.mk' (v:=PVal.str) E8 ([r17]:List ag) 1 (by kernel_rfl))<|sv (bp.ap bl26)<|bz (hR114 _ _ _ _ _ _ _ br27)<|sx (cF r27.1)<|r
   rcases bj h with⟨c28,h⟩|⟨c28,h⟩
   ·obtain rfl:=lf h
    have z:=p29<|sg 0 c28<|sb (Cd) (Cb)<|sy (cb (⟨0,([]:ag),([]:ag),(⟨0,([]:ag),0,([]:List aa)⟩:aa),0,([]:List ai)⟩:ai))<|en (aI (va9 PVal.tuple (jv (cM (⟨0,([]:ag),([]:ag),(⟨0,([]:ag),0,([]:List aa)⟩:aa),0,([]:List ai)⟩:ai)) (jv (rP (.int .i64 r27.2)) (rfl:([]:List PVal)=[]))))<|(aI (ba (⟨0,([]:ag),([]:ag),(⟨0,([]:ag),0,([]:List aa)⟩:aa),0,([]:List ai)⟩:ai)) (aI trivial trivial)))
    exact bN qfB call38 func38 (c:=qhn) rfl (aI (de m) (aI (ak a) (aI (ak a2) (aI trivial (aI trivial (aI (aj dQ used) trivial)))))) z<|by kernel_rfl
   ·obtain⟨x30,bx30,h⟩:=ay h
    obtain⟨r31,br31,h⟩:=ay h
    obtain⟨r32,br32,h⟩:=ay h
    obtain rfl:=lf h
    have z:=p29<|sg 0 c28<|lY [0,0,2,0,14,30,0,0,254,511,1023,2047,4095]<|sv (eM r20.1 [])<|sv (aK a2)<|sv (aL a2)<|sv (ck.ia (k:=.i64) bx30)<|sv (aV x30)<|sv (eM r27.1 [])<|bz (Mi br31)<|sv (mX.mk' (v:=lZ) g9 ([r20.1,r31]:List ai) 2 (by kernel_rfl))<|bz (Py br32)<|qb2 (cF r32)<|en (aI (va9 PVal.tuple (jv (cM r32) (jv (rP (.int .i64 0)) (rfl:([]:List PVal)=[]))))<|(aI (ba r32) (aI trivial trivial)))
    exact bN qfB call38 func38 (c:=qhn) rfl (aI (de m) (aI (ak a) (aI (ak a2) (aI trivial (aI trivial (aI (aj dQ used) trivial)))))) z<|by kernel_rfl
def xp(R94:nw):((aH×ae×ae×Int×Int×waA)->Option (ai×Int))->(aH×ae×ae×Int×Int×waA)->Option (ai×Int):=fun(rec:(aH×ae×ae×Int×Int×waA)->Option (ai×Int)) (x:aH×ae×ae×Int×Int×waA)=>qU R94 (fun m a a2 i tag used=>rec (m,a,a2,i,tag,used)) x.1 x.2.1 x.2.2.1 x.2.2.2.1 x.2.2.2.2.1 x.2.2.2.2.2
def BW(R94:nw)(m:aH)(a:ae)(a2:ae)(i:Int)(tag:Int)(used:waA):Option (ai×Int):=kJ (xp R94) (m,a,a2,i,tag,used)
theorem NI(R94:nw)(hR94:KH R94){m:aH}{a:ae}{a2:ae}{i:Int}{tag:Int}{used:waA}{r:ai×Int}(h:BW R94 m a a2 i tag used=some r):CC Pg GE 38 [.agg (aB m),.agg (af a),.agg (af a2),.int .i64 i,.int .i64 tag,sl cS used] (.tuple [.agg (aw r.1),.int .i64 r.2]) []:=
 cy (F:=xp R94) (M:=fun(x:aH×ae×ae×Int×Int×waA) (r:ai×Int)=>CC Pg GE 38 [.agg (aB x.1),.agg (af x.2.1),.agg (af x.2.2.1),.int .i64 x.2.2.2.1,.int .i64 x.2.2.2.2.1,sl cS x.2.2.2.2.2] (.tuple [.agg (aw r.1),.int .i64 r.2]) []) (fun rec hrec x r h=>Lr R94 hR94 _ (fun m a a2 i tag used r h=>hrec (m,a,a2,i,tag,used) r h) h) h
noncomputable def qh3:Code:=f13.body.getD .skip
def qhb:List Nat:=[]
section
variable(tag:Int)(used:waA)(m:aH)(v:ae)(v2:ae)(m2:waB)(m3:waD)
def UE:aA:=be 46 [(3,.int .i64 tag),(4,sl cS used),(5,.eptr (aB m)),(6,.eptr (af v)),(7,.eptr (af v2)),(10,.bptr 3 0)] [.dead,.dead,.dead,.cells [.int .i64 0,.str ([]:ag),.str ([]:ag),.int .i64 0,.str ([]:ag),.int .i64 0,sl ac m2,.int .i64 0,sl aw m3] [(6,36),(8,50)]] []
def BV(o:Bool):aA:=be 46 [(3,.int .i64 tag),(4,sl cS used),(5,.eptr (aB m)),(6,.eptr (af v)),(7,.eptr (af v2)),(10,.bptr 3 0),(27,.bool o)] [.dead,.dead,.dead,.cells [.int .i64 0,.str ([]:ag),.str ([]:ag),.int .i64 0,.str ([]:ag),.int .i64 0,sl ac m2,.int .i64 0,sl aw m3] [(6,36),(8,50)]] []
def HU:Option Bool:=
 if(v.Op==6)=true then
  some (decide ((v.Args.length:Int)>0))
 else
  some false
theorem RX{x:Bool}(h:HU v=some x):aU Pg GE 0 (cA qh3 446) (EX .normal (BV tag used m v v2 m2 m3 x)) (UE tag used m v v2 m2 m3):=by
 have p9:=fun{sc F} (r:PS sc F)=>sv (aC v)<|sv (aD v)<|r
 rcases bj h with⟨c8,h⟩|⟨c8,h⟩
 ·obtain rfl:=lf h
  exact cd qhb (p9<|sg 4 c8<|sv (aK v)<|sv (aL v)<|cm (ck.ln v.Args)<|eF .normal (BV tag used m v v2 m2 m3 (decide ((v.Args.length:Int)>0))))<|by kernel_rfl
 ·obtain rfl:=lf h
  exact cd qhb (p9<|sg 4 c8<|eF .normal (BV tag used m v v2 m2 m3 false))<|by kernel_rfl
end
def wm(R94:nw)(m:aH)(a:ae)(a2:ae)(tag:Int)(used:waA):Option (ai×Int):=
 (OW a a2).bind fun r1=>
 if(!r1)=true then
  some ((⟨0,([]:ag),([]:ag),(⟨0,([]:ag),0,([]:List aa)⟩:aa),0,([]:List ai)⟩:ai),12)
 else
  (Jk a).bind fun r4=>
  if r4=true then
   (Jl m a a2 tag used).bind fun r7=>
   some (r7,0)
  else
   (HU a).bind fun o10=>
   if o10=true then
    (BW R94 m a a2 0 tag used).bind fun r13=>
    some (r13.1,r13.2)
   else
    some ((⟨1,([]:ag),([]:ag),(⟨0,([]:ag),0,([]:List aa)⟩:aa),0,([]:List ai)⟩:ai),0)
theorem Wv(R94:nw)(hR94:KH R94){m:aH}{a:ae}{a2:ae}{tag:Int}{used:waA}{r:ai×Int}(h:wm R94 m a a2 tag used=some r):CC Pg GE 13 [.agg (aB m),.agg (af a),.agg (af a2),.int .i64 tag,sl cS used] (.tuple [.agg (aw r.1),.int .i64 r.2]) []:=by
 obtain⟨r1,br1,h⟩:=ay h
 have p3:=fun{sc F} (r:PS sc F)=>se (jm m)<|se (bD a)<|se (bD a2)<|sx td<|sv (aV a)<|sv (aV a2)<|bz (Wk br1)<|r
 rcases bj h with⟨c2,h⟩|⟨c2,h⟩
 ·obtain rfl:=lf h
  have z:=p3<|sg 0 c2<|sb (Cd) (Cb)<|sy (cb (⟨0,([]:ag),([]:ag),(⟨0,([]:ag),0,([]:List aa)⟩:aa),0,([]:List ai)⟩:ai))<|en (aI (va9 PVal.tuple (jv (cM (⟨0,([]:ag),([]:ag),(⟨0,([]:ag),0,([]:List aa)⟩:aa),0,([]:List ai)⟩:ai)) (jv (rP (.int .i64 12)) (rfl:([]:List PVal)=[]))))<|(aI (ba (⟨0,([]:ag),([]:ag),(⟨0,([]:ag),0,([]:List aa)⟩:aa),0,([]:List ai)⟩:ai)) (aI trivial trivial)))
  exact bN qhb call13 func13 (c:=qh3) rfl (aI (de m) (aI (ak a) (aI (ak a2) (aI trivial (aI (aj dQ used) trivial))))) z<|by kernel_rfl
 ·obtain⟨r4,br4,h⟩:=ay h
  have p6:=fun{sc F} (r:PS sc F)=>p3<|sg 0 c2<|sv (aV a)<|bz (Mh br4)<|r
  rcases bj h with⟨c5,h⟩|⟨c5,h⟩
  ·obtain⟨r7,br7,h⟩:=ay h
   obtain rfl:=lf h
   have z:=p6<|sg 0 c5<|sv (jl m)<|sv (aV a)<|sv (aV a2)<|bz (Ww br7)<|sx (cF r7)<|en (aI (va9 PVal.tuple (jv (cM r7) (jv (rP (.int .i64 0)) (rfl:([]:List PVal)=[]))))<|(aI (ba r7) (aI trivial trivial)))
   exact bN qhb call13 func13 (c:=qh3) rfl (aI (de m) (aI (ak a) (aI (ak a2) (aI trivial (aI (aj dQ used) trivial))))) z<|by kernel_rfl
  ·obtain⟨o10,bo10,h⟩:=ay h
   have p12:=fun{sc F} (r:PS sc F)=>p6<|sg 0 c5<|kr 0<|cW (RX tag used m a a2 ([]:List aa) ([]:List ai) bo10)<|r
   rcases bj h with⟨c11,h⟩|⟨c11,h⟩
   ·obtain⟨r13,br13,h⟩:=ay h
    obtain rfl:=lf h
    have z:=p12<|sg 0 c11<|sv (jl m)<|sv (aV a)<|sv (aV a2)<|bz (NI R94 hR94 br13)<|sx (cF r13.1)<|en (aI (va9 PVal.tuple (jv (cM r13.1) (jv (rP (.int .i64 r13.2)) (rfl:([]:List PVal)=[]))))<|(aI (ba r13.1) (aI trivial trivial)))
    exact bN qhb call13 func13 (c:=qh3) rfl (aI (de m) (aI (ak a) (aI (ak a2) (aI trivial (aI (aj dQ used) trivial))))) z<|by kernel_rfl
   ·obtain rfl:=lf h
    have z:=p12<|sg 0 c11<|sb (xz 1) (xx 1)<|sy (cb (⟨1,([]:ag),([]:ag),(⟨0,([]:ag),0,([]:List aa)⟩:aa),0,([]:List ai)⟩:ai))<|en (aI (va9 PVal.tuple (jv (cM (⟨1,([]:ag),([]:ag),(⟨0,([]:ag),0,([]:List aa)⟩:aa),0,([]:List ai)⟩:ai)) (jv (rP (.int .i64 0)) (rfl:([]:List PVal)=[]))))<|(aI (ba (⟨1,([]:ag),([]:ag),(⟨0,([]:ag),0,([]:List aa)⟩:aa),0,([]:List ai)⟩:ai)) (aI trivial trivial)))
    exact bN qhb call13 func13 (c:=qh3) rfl (aI (de m) (aI (ak a) (aI (ak a2) (aI trivial (aI (aj dQ used) trivial))))) z<|by kernel_rfl
def FO:((aH×ae×ae×Int×waA)->Option (ai×Int))->(aH×ae×ae×Int×waA)->Option (ai×Int):=fun(rec:(aH×ae×ae×Int×waA)->Option (ai×Int)) (x:aH×ae×ae×Int×waA)=>wm (fun m a a2 tag used=>rec (m,a,a2,tag,used)) x.1 x.2.1 x.2.2.1 x.2.2.2.1 x.2.2.2.2
def N9(m:aH)(a:ae)(a2:ae)(tag:Int)(used:waA):Option (ai×Int):=kJ FO (m,a,a2,tag,used)
theorem Yf{m:aH}{a:ae}{a2:ae}{tag:Int}{used:waA}{r:ai×Int}(h:N9 m a a2 tag used=some r):CC Pg GE 13 [.agg (aB m),.agg (af a),.agg (af a2),.int .i64 tag,sl cS used] (.tuple [.agg (aw r.1),.int .i64 r.2]) []:=
 cy (F:=FO) (M:=fun(x:aH×ae×ae×Int×waA) (r:ai×Int)=>CC Pg GE 13 [.agg (aB x.1),.agg (af x.2.1),.agg (af x.2.2.1),.int .i64 x.2.2.2.1,sl cS x.2.2.2.2] (.tuple [.agg (aw r.1),.int .i64 r.2]) []) (fun rec hrec x r h=>Wv _ (fun m a a2 tag used r h=>hrec (m,a,a2,tag,used) r h) h) h
abbrev qY:=(ai->ai->Option Bool)
abbrev ww(R:qY):Prop:=∀(a:ai) (a2:ai) (r:Bool),R a a2=some r->CC Pg GE 14 [.agg (aw a),.agg (aw a2)] (.bool r) []
noncomputable def qhj:Code:=f14.body.getD .skip
def qb0:List Nat:=[]
section
variable(v:ai)(v2:ai)
def Ji:aA:=be 68 [(2,.eptr (aw v)),(3,.eptr (aw v2))] [.dead,.dead] []
def eX(o:Bool):aA:=be 68 [(2,.eptr (aw v)),(3,.eptr (aw v2)),(48,.bool o)] [.dead,.dead] []
def uR:Option Bool:=
 if(v.Op !=v2.Op)=true then
  some true
 else
  if(!(v.Name==v2.Name))=true then
   some true
  else
   if(!(v.Sort_==v2.Sort_))=true then
    some true
   else
    if(v.Tag !=v2.Tag)=true then
     some true
    else
     (qK v.Pred v2.Pred).bind fun r9=>
     if(!r9)=true then
      some true
     else
      some ((v.Kids.length:Int)!=(v2.Kids.length:Int))
theorem HS{x:Bool}(h:uR v v2=some x):aU Pg GE 0 (cA qhj 12) (EX .normal (eX v v2 x)) (Ji v v2):=by
 have p2:=fun{sc F} (r:PS sc F)=>sv (oY v)<|sv (pf v)<|sv (oY v2)<|sv (pf v2)<|r
 rcases bj h with⟨c1,h⟩|⟨c1,h⟩
 ·obtain rfl:=lf h
  exact cd qb0 (p2<|sg 6 c1<|eF .normal (eX v v2 true))<|by kernel_rfl
 ·have p4:=fun{sc F} (r:PS sc F)=>p2<|sg 6 c1<|sv (tF v)<|sv (v7 v)<|sv (tF v2)<|sv (v7 v2)<|r
  rcases bj h with⟨c3,h⟩|⟨c3,h⟩
  ·obtain rfl:=lf h
   exact cd qb0 (p4<|sg 13 c3<|eF .normal (eX v v2 true))<|by kernel_rfl
  ·have p6:=fun{sc F} (r:PS sc F)=>p4<|sg 13 c3<|sv (zT v)<|sv (zZ v)<|sv (zT v2)<|sv (zZ v2)<|r
   rcases bj h with⟨c5,h⟩|⟨c5,h⟩
   ·obtain rfl:=lf h
    exact cd qb0 (p6<|sg 20 c5<|eF .normal (eX v v2 true))<|by kernel_rfl
   ·have p8:=fun{sc F} (r:PS sc F)=>p6<|sg 20 c5<|sv (zU v)<|sv (Cu v)<|sv (zU v2)<|sv (Cu v2)<|r
    rcases bj h with⟨c7,h⟩|⟨c7,h⟩
    ·obtain rfl:=lf h
     exact cd qb0 (p8<|sg 27 c7<|eF .normal (eX v v2 true))<|by kernel_rfl
    ·obtain⟨r9,br9,h⟩:=ay h
     have p11:=fun{sc F} (r:PS sc F)=>p8<|sg 27 c7<|sv (oZ v)<|sv (pg v)<|sv (oZ v2)<|sv (pg v2)<|bz (tV br9)<|r
     rcases bj h with⟨c10,h⟩|⟨c10,h⟩
     ·obtain rfl:=lf h
      exact cd qb0 (p11<|sg 35 c10<|eF .normal (eX v v2 true))<|by kernel_rfl
     ·obtain rfl:=lf h
      exact cd qb0 (p11<|sg 35 c10<|sv (jh v)<|sv (jj v)<|cm (mX.ln v.Kids)<|sv (jh v2)<|sv (jj v2)<|cm (mX.ln v2.Kids)<|eF .normal (eX v v2 ((v.Kids.length:Int)!=(v2.Kids.length:Int))))<|by kernel_rfl
end
section
variable(R129:qY)(v:ai)(v2:ai)(i:Int)
def iS:aA:=be 68 [(2,.eptr (aw v)),(3,.eptr (aw v2)),(5,.int .i64 i)] [.dead,.dead] []
def iU(o:Unit⊕(Unit)):Exit:=match o with
 |(.inl _)=>.ret
 |(.inr _)=>.exit 0
def gp(o:Unit⊕(Unit)):aA:=match o with
 |(.inl o)=>be 68 [(4,.bool false)] [.dead,.dead] []
 |(.inr o)=>be 68 [] [.dead,.dead] []
def iT:Option (Int⊕(Unit⊕(Unit))):=
 if(decide (i<(v.Kids.length:Int)))=true then
  (cz v.Kids i).bind fun x17=>
  (cz v2.Kids i).bind fun x18=>
  (R129 x17 x18).bind fun r19=>
  if(!r19)=true then
   some (.inr (.inl ()))
  else
   some (.inl (aR (i+1)))
 else
  some (.inr (.inr ()))
def uS:Option (Unit⊕(Unit)):=loop (fun(zz:Int)=>iT R129 v v2 zz) i
theorem Gz(hR129:ww R129){y:Int⊕(Unit⊕(Unit))}(h:iT R129 v v2 i=some y):aU Pg GE 0 (cA qhj 119) (LQ (fun(zz:Int)=>iS v v2 zz) iU gp y) (iS v v2 i):=by
 have p16:=fun{sc F} (r:PS sc F)=>sv (jh v)<|sv (jj v)<|cm (mX.ln v.Kids)<|r
 rcases bj h with⟨c15,h⟩|⟨c15,h⟩
 ·obtain⟨x17,bx17,h⟩:=ay h
  obtain⟨x18,bx18,h⟩:=ay h
  obtain⟨r19,br19,h⟩:=ay h
  have p21:=fun{sc F} (r:PS sc F)=>p16<|sg 0 c15<|lY [0,1,0,7,15,0,32,0,224,480,1023,2047]<|sv (jh v)<|sv (jj v)<|sv (mX.ia (k:=.i64) bx17)<|sv (iZ x17)<|sv (jh v2)<|sv (jj v2)<|sv (mX.ia (k:=.i64) bx18)<|sv (iZ x18)<|bz (hR129 _ _ _ br19)<|r
  rcases bj h with⟨c20,h⟩|⟨c20,h⟩
  ·obtain rfl:=lf h
   have z:=p21<|sg 0 c20<|eF (iU (.inl ())) (gp (.inl ()))
   exact f6 qb0 (by intro hx;cases hx) z<|by kernel_rfl
  ·obtain rfl:=lf h
   exact n9 qb0 (p21<|sg 0 c20<|eF .normal (iS v v2 (aR (i+1))))<|by kernel_rfl
 ·obtain rfl:=lf h
  have z:=p16<|sg 0 c15<|eF (iU (.inr ())) (gp (.inr ()))
  exact f6 qb0 (by intro hx;cases hx) z<|by kernel_rfl
theorem xm(hR129:ww R129){x:Unit⊕(Unit)}(h:uS R129 v v2 i=some x):aU Pg GE 0 (.loop (cA qhj 119)) (EX (iU x) (gp x)) (iS v v2 i):=
 aU.loop (S:=fun(zz:Int)=>iS v v2 zz) (ex:=iU) (s:=i) h fun zz y hy=>Gz R129 v v2 zz hR129 hy
end
def qT(R129:qY)(a:ai)(a2:ai):Option Bool:=
 (uR a a2).bind fun o12=>
 if o12=true then
  some false
 else
  (uS R129 a a2 0).bind fun o22=>match o22 with
  |(.inl o22)=>
   some false
  |(.inr o22)=>
   some true
theorem Lm(R129:qY)(hR129:ww R129){a:ai}{a2:ai}{r:Bool}(h:qT R129 a a2=some r):CC Pg GE 14 [.agg (aw a),.agg (aw a2)] (.bool r) []:=by
 obtain⟨o12,bo12,h⟩:=ay h
 have p14:=fun{sc F} (r:PS sc F)=>se (rz a)<|se (rz a2)<|kr 1<|cW (HS a a2 bo12)<|r
 rcases bj h with⟨c13,h⟩|⟨c13,h⟩
 ·obtain rfl:=lf h
  have z:=p14<|sg 0 c13<|en (aI (rP (.bool false))<|trivial)
  exact bN qb0 call14 func14 (c:=qhj) rfl (aI (ba a) (aI (ba a2) trivial)) z<|by kernel_rfl
 ·obtain⟨o22,bo22,h⟩:=ay h
  rcases o22 with o22|o22
  ·obtain rfl:=lf h
   have z:=p14<|sg 0 c13<|cW (e:=.ret) (s1:=gp (.inl o22)) (xm R129 a a2 0 hR129 bo22)<|en (aI (rP (.bool false))<|trivial)
   exact bN qb0 call14 func14 (c:=qhj) rfl (aI (ba a) (aI (ba a2) trivial)) z<|by kernel_rfl
  ·obtain rfl:=lf h
   have z:=p14<|sg 0 c13<|cW (e:=.exit 0) (s1:=gp (.inr o22)) (xm R129 a a2 0 hR129 bo22)<|en (aI (rP (.bool true))<|trivial)
   exact bN qb0 call14 func14 (c:=qhj) rfl (aI (ba a) (aI (ba a2) trivial)) z<|by kernel_rfl
def xl:((ai×ai)->Option Bool)->(ai×ai)->Option Bool:=fun(rec:(ai×ai)->Option Bool) (x:ai×ai)=>qT (fun a a2=>rec (a,a2)) x.1 x.2
def BS(a:ai)(a2:ai):Option Bool:=kJ xl (a,a2)
theorem NF{a:ai}{a2:ai}{r:Bool}(h:BS a a2=some r):CC Pg GE 14 [.agg (aw a),.agg (aw a2)] (.bool r) []:=
 cy (F:=xl) (M:=fun(x:ai×ai) (r:Bool)=>CC Pg GE 14 [.agg (aw x.1),.agg (aw x.2)] (.bool r) []) (fun rec hrec x r h=>Lm _ (fun a a2 r h=>hrec (a,a2) r h) h) h
noncomputable def b3:Code:=Tryz.f3.body.getD .skip
def A3:List Nat:=[]
section
variable(used:waA)(m:aH)(v:aQ)
def vS:aA:=be 72 [(2,sl cS used),(3,.eptr (aB m)),(4,.eptr (aE v))] [.dead,.dead] []
def du(o:Bool):aA:=be 72 [(2,sl cS used),(3,.eptr (aB m)),(4,.eptr (aE v)),(35,.bool o)] [.dead,.dead] []
def fu:Option Bool:=
 (FI m).bind fun r1=>
 if(!r1)=true then
  some true
 else
  (Av v.A).bind fun r4=>
  if(!r4)=true then
   some true
  else
   (Av v.B).bind fun r7=>
   if(!r7)=true then
    some true
   else
    (Oa used).bind fun r10=>
    if(!r10)=true then
     some true
    else
     (FT v).bind fun r13=>
     some (!r13)
theorem uW{x:Bool}(h:fu used m v=some x):aU Pg GE 0 (cA b3 12) (EX .normal (du used m v x)) (vS used m v):=by
 obtain⟨r1,br1,h⟩:=ay h
 have p3:=fun{sc F} (r:PS sc F)=>sv (jl m)<|bz (Ux br1)<|r
 rcases bj h with⟨c2,h⟩|⟨c2,h⟩
 ·obtain rfl:=lf h
  exact cd A3 (p3<|sg 4 c2<|eF .normal (du used m v true))<|by kernel_rfl
 ·obtain⟨r4,br4,h⟩:=ay h
  have p6:=fun{sc F} (r:PS sc F)=>p3<|sg 4 c2<|sv (ek v)<|sv (er v)<|bz (Ju br4)<|r
  rcases bj h with⟨c5,h⟩|⟨c5,h⟩
  ·obtain rfl:=lf h
   exact cd A3 (p6<|sg 10 c5<|eF .normal (du used m v true))<|by kernel_rfl
  ·obtain⟨r7,br7,h⟩:=ay h
   have p9:=fun{sc F} (r:PS sc F)=>p6<|sg 10 c5<|sv (eo v)<|sv (eu v)<|bz (Ju br7)<|r
   rcases bj h with⟨c8,h⟩|⟨c8,h⟩
   ·obtain rfl:=lf h
    exact cd A3 (p9<|sg 16 c8<|eF .normal (du used m v true))<|by kernel_rfl
   ·obtain⟨r10,br10,h⟩:=ay h
    have p12:=fun{sc F} (r:PS sc F)=>p9<|sg 16 c8<|bz (Yg br10)<|r
    rcases bj h with⟨c11,h⟩|⟨c11,h⟩
    ·obtain rfl:=lf h
     exact cd A3 (p12<|sg 21 c11<|eF .normal (du used m v true))<|by kernel_rfl
    ·obtain⟨r13,br13,h⟩:=ay h
     obtain rfl:=lf h
     exact cd A3 (p12<|sg 21 c11<|sv (z7 v)<|bz (UG br13)<|eF .normal (du used m v (!r13)))<|by kernel_rfl
end
def kf(m:aH)(a:aQ)(used:waA):Option Bool:=
 (fu used m a).bind fun o14=>
 if o14=true then
  FQ.bind fun r17=>
  some r17
 else
  (nc m a.A a.B a.Tag used).bind fun r18=>
  (N9 m a.A a.B a.Tag used).bind fun r19=>
  (BS r18.1 r19.1).bind fun r20=>
  if r20=true then
   if(r18.2==r19.2)=true then
    FQ.bind fun r25=>
    some r25
   else
    some false
  else
   some false
theorem yg{m:aH}{a:aQ}{used:waA}{r:Bool}(h:kf m a used=some r):CC Pg GE 3 [.agg (aB m),.agg (aE a),sl cS used] (.bool r) []:=by
 obtain⟨o14,bo14,h⟩:=ay h
 have p16:=fun{sc F} (r:PS sc F)=>se (jm m)<|se (pn a)<|kr 1<|cW (uW used m a bo14)<|r
 rcases bj h with⟨c15,h⟩|⟨c15,h⟩
 ·obtain⟨r17,br17,h⟩:=ay h
  obtain rfl:=lf h
  have z:=p16<|sg 0 c15<|bz (Jt br17)<|en (aI (rP (.bool r17))<|trivial)
  exact bN A3 call3 func3 (c:=b3) rfl (aI (de m) (aI (dR a) (aI (aj dQ used) trivial))) z<|by kernel_rfl
 ·obtain⟨r18,br18,h⟩:=ay h
  obtain⟨r19,br19,h⟩:=ay h
  obtain⟨r20,br20,h⟩:=ay h
  have p22:=fun{sc F} (r:PS sc F)=>p16<|sg 0 c15<|sv (jl m)<|sv (ek a)<|sv (er a)<|sv (eo a)<|sv (eu a)<|sv (j8 a)<|sv (ka a)<|bz (rU br18)<|sx td<|sx (cF r18.1)<|sv (jl m)<|sv (ek a)<|sv (er a)<|sv (eo a)<|sv (eu a)<|sv (j8 a)<|sv (ka a)<|bz (Yf br19)<|sx td<|sx (cF r19.1)<|sv (eM r18.1 [])<|sv (eM r19.1 [])<|bz (NF br20)<|r
  rcases bj h with⟨c21,h⟩|⟨c21,h⟩
  ·have p24:=fun{sc F} (r:PS sc F)=>p22<|sg 4 c21<|r
   rcases bj h with⟨c23,h⟩|⟨c23,h⟩
   ·obtain⟨r25,br25,h⟩:=ay h
    obtain rfl:=lf h
    have z:=p24<|sg 9 c23<|bz (Jt br25)<|en (aI (rP (.bool r25))<|trivial)
    exact bN A3 call3 func3 (c:=b3) rfl (aI (de m) (aI (dR a) (aI (aj dQ used) trivial))) z<|by kernel_rfl
   ·obtain rfl:=lf h
    have z:=p24<|sg 9 c23<|en (aI (rP (.bool false))<|trivial)
    exact bN A3 call3 func3 (c:=b3) rfl (aI (de m) (aI (dR a) (aI (aj dQ used) trivial))) z<|by kernel_rfl
  ·obtain rfl:=lf h
   have z:=p22<|sg 4 c21<|en (aI (rP (.bool false))<|trivial)
   exact bN A3 call3 func3 (c:=b3) rfl (aI (de m) (aI (dR a) (aI (aj dQ used) trivial))) z<|by kernel_rfl
open Go
theorem XS{α β X:Type}(g:α->β)(e:List β->X):∀(l:List α) (i:Nat) (s:List β),mV (fun _ x (s:List β)=>(Sum.inl (s++[g x]):List β⊕X)) e l i s=e (s++l.map g)
 |[],i,s=>by simp[mV]
 |x::l,i,s=>by
  unfold mV
  simp only
  rw[XS g e l (i+1) (s++[g x])]
  simp
theorem Xh{α β τ X:Type}(l:List α)(hl:l.length<9223372036854775808)(mk:Int->List β->τ)(body:τ->Option (τ⊕X))(g:α->β)(e:List β->X)
  (hin:∀(i:Nat) (h:i<l.length) s,s.length=i->body (mk i s)=some (.inl (mk (aR ((i:Int)+1)) (s++[g l[i]])))) (hend:∀s,body (mk l.length s)=some (.inr (e s))):loop body (mk 0 [])=some (e (l.map g)):=by
 have:=kP l hl mk body (fun i s=>s.length=i) (fun _ x s=>.inl (s++[g x])) e (fun i h s hs=>⟨hin i h s hs,fun s' hs'=>by cases hs';simp[hs]⟩) (fun s _=>hend s) 0 [] (vaN _) rfl
 rw[XS]at this
 exact this
theorem qc9{α X:Type}(l:List α)(hl:l.length<9223372036854775808)(body:Int->Option (Int⊕X))(e:X)
  (hin:∀(i:Nat) (h:i<l.length),body i=some (.inl (aR ((i:Int)+1)))) (hend:body l.length=some (.inr e)):loop body (0:Int)=some e:=by
 have:=J4 l hl body (fun _=>false) e e (fun i h=>by rw[hin i h];rfl) hend 0 (vaN _)
 simpa using this
set_option linter.unusedSimpArgs false
abbrev qjM(a:List ag):Prop:=a.length<9223372036854775808
def ZM(l:List ag)(s:ag):Int:=match l.findIdx? (fun x=>x==s)with|some j=>(j:Int)|none=>-1
theorem qe(l:List ag)(s:ag)(hl:l.length<9223372036854775808):gI l s=some (ZM l s):=by
 unfold gI yq
 have:=LK l hl (fun zz=>eT l s l.length zz) (fun x=>x==s) (fun j=>Sum.inl (j:Int)) (Sum.inr ()) (fun i h=>by
  simp only[eT]
  rw[vad (by simp;omega),bo _ i h]
  simp only[vaa]
  split<;>simp_all) (by simp only[eT];rw[vae (by simp)])
 rw[this]
 unfold ZM
 cases l.findIdx? (fun x=>x==s)<;>rfl
theorem vY(l:List ag)(s:ag):decide (ZM l s>=0)=l.any fun k=>k==s:=by
 unfold ZM
 cases h:l.findIdx? (fun x=>x==s)with
 |none=>
  rw[vch]at h
  symm
  simp only[vbu]
  rw[show decide ((-1:Int)>=0)=false from rfl]
  simp only[vbu,Bool.not_eq_true]
  exact h
 | some j =>
  have h2:l.any (fun x=>x==s)=true:=by
   have:=List.findIdx?_isSome (xs:=l) (p:=fun x=>x==s)
   rw[h]at this
   exact this.symm
  rw[h2]
  simp
theorem Tr{α:Type}(k:ag)(v:α)(j:ag):∀(m:List (ag×α)),Do (J7 m k v) j=if(j==k)=true then some v else Do m j
 |[]=>by
  simp only[J7,Do,List.find?_cons,List.find?_nil]
  cases(j==k)<;>rfl
 | e :: r => by
  have ih:=Tr k v j r
  unfold J7
  by_cases h:(k==e.1)=true
  ·have h':k=e.1:=by simpa using h
   rw[vad h]
   unfold Do
   simp only[List.find?_cons]
   rw[<-h']
   cases hj:(j==k)<;>simp
  ·rw [vae h]
   unfold Do at ih ⊢
   simp only[List.find?_cons]
   cases hj:(j==e.1)
   ·simpa using ih
   ·have:¬(j==k)=true:=fun hk=>h (by
      have h1:j=e.1:=by simpa using hj
      have h2:j=k:=by simpa using hk
      simp[<-h1,<-h2])
    simp[this]
abbrev QA(m:List (ag×Bool))(k:ag):Bool:=(Do m k).getD false
theorem qdb(m:List (ag×Bool))(k j:ag):QA (J7 m k true) j=(j==k||QA m j):=by
 unfold QA
 rw[Tr]
 cases(j==k)<;>rfl
def YD(l:ag):Nat:=l.foldl (fun a c=>10 * a+(c.toNat - 48)) 0
theorem PW(u:Nat):YD (Lib.decDigits u)=u:=by
 induction u using Nat.strongRecOn with
 | _ u ih =>
  rw[Lib.decDigits]
  by_cases h:u<10
  ·rw[dif_pos h]
   unfold YD
   simp
   omega
  ·rw[dif_neg h]
   have:=ih (u / 10) (by omega)
   unfold YD at this ⊢
   rw[vcm,this]
   simp
   omega
theorem qeO{u v:Nat}(h:Lib.decDigits u=Lib.decDigits v):u=v:=by rw[<-PW u,<-PW v,h]
theorem UV(u:Nat):(Lib.decDigits u).length<=u+1:=by
 induction u using Nat.strongRecOn with
 | _ u ih =>
  rw[Lib.decDigits]
  by_cases h:u<10
  ·rw[dif_pos h];simp
  ·rw[dif_neg h]
   have:=ih (u / 10) (by omega)
   simp
   omega
theorem TS:∀(k n:Nat) (acc:ag),n<=k->n<=1000000000->acc.length<=1000000000 - n->qd acc n=some (if n=0 then acc else Lib.decDigits n++acc)
 |k,0,acc,_,_,_=>by
  unfold qd
  exact jV rfl
 |0,n+1,_,h,_,_=>absurd h (by omega)
 | k + 1,n + 1,acc,hk,hn,ha => by
  have hb:od acc ((n+1:Nat):Int)=some (.inl (UInt8.ofNat (48+(n+1) % 10)::acc,(((n+1) / 10:Nat):Int))):=by
   simp only[od]
   have h1:(((n+1:Nat):Int)!=0)=true:=by simp;omega
   have h2:re ((n+1:Nat):Int) 10=some (((n+1) % 10:Nat):Int):=by
    simp only[re]
    have e:((n+1:Nat):Int) % 10=(((n+1) % 10:Nat):Int):=by omega
    rw[vae (by omega),Int.tmod_eq_emod_of_nonneg (by omega),e]
   have h3:yn (((n+1) % 10:Nat):Int)=some (((n+1) % 10:Nat):Int):=by
    simp only[yn]
    rw[vae (by simp;omega)]
   have h4:IntKind.u8.wrap (aR (48+(((n+1) % 10:Nat):Int)))=((48+(n+1) % 10:Nat):Int):=by
    rw[dB (by omega) (by omega)]
    have h5:(48:Int)+(((n+1) % 10:Nat):Int)=((48+(n+1) % 10:Nat):Int):=by omega
    rw[h5]
    generalize hq:48+(n+1) % 10=q
    have:q<58:=by omega
    show((q:Int) % 256)=q
    omega
   have h6:xB [((48+(n+1) % 10:Nat):Int)]=some [UInt8.ofNat (48+(n+1) % 10)]:=by
    simp only[xB]
    rw[vad (by omega)]
    rfl
   have h7:qu .i64 ((n+1:Nat):Int) 10=some (((n+1) / 10:Nat):Int):=by
    simp only[qu]
    rw[vae (by omega),vca (by omega)]
    have e:((n+1:Nat):Int) / 10=(((n+1) / 10:Nat):Int):=by omega
    rw[e]
    exact va9 some (dB (by omega) (by omega))
   rw[h1]
   simp only[if_true,h2,vaa,h3,h4,h6]
   rw[PN (by simp;omega),h7]
   rfl
  unfold qd
  refine(ql (body:=fun zz:ag×Int=>od zz.1 zz.2) (s:=(acc,((n+1:Nat):Int))) (s':=(UInt8.ofNat (48+(n+1) % 10)::acc,(((n+1) / 10:Nat):Int))) hb).trans ?_
  have ih:=TS k ((n+1) / 10) (UInt8.ofNat (48+(n+1) % 10)::acc) (by omega) (by omega) (by simp;omega)
  unfold qd at ih
  rw[ih,vae (by omega:¬n+1=0)]
  conv=>rhs;rw[Lib.decDigits]
  by_cases h:n+1<10
  ·rw[dif_pos h,vad (by omega),vbZ h]
   rfl
  ·rw[dif_neg h,vae (by omega)]
   simp
theorem Ma(n:Nat)(h0:1<=n)(h:n<=1000000000):IQ n=some (Lib.decDigits n):=by
 unfold IQ
 have h1:((n:Int)==0)=false:=by simp;omega
 rw[h1,TS n n [] (vah _) h (by simp)]
 have h2:decide ((n:Int)<0)=false:=by simp
 simp only[va6,if_false,vaa,h2]
 rw[vae (by omega)]
 simp
theorem W3(n:Nat)(h:n<=1000000000):ZU n=some (Lib.decDigits n):=by
 unfold ZU Lib.itoa
 rw[vad (by simp;omega),vae (by omega)]
 rfl
theorem qdA:∀(used L:List ag),L.Nodup->used.length<L.length->∃x∈L,x∉used
 |[],L,_,h=>by
  cases L with
  |nil=>simp at h
  |cons x L=>exact⟨x,by simp,by simp⟩
 | u :: us,L,hn,h => by
  obtain⟨x,hx,hu⟩:=qdA us (L.erase u) (hn.erase u) (by
   have:=List.length_erase (a:=u) (l:=L)
   rw[this]
   simp at h
   split<;>omega)
  rw[hn.mem_erase_iff]at hx
  exact⟨x,hx.2,by simp[hx.1,hu]⟩
theorem WW(used:List ag)(base:ag):∃n,1<=n/\n<=used.length+1/\base++Lib.decDigits n∉used:=by
 obtain⟨x,hx,hu⟩:=qdA used ((List.range (used.length+1)).map fun i=>base++Lib.decDigits (i+1)) (by
  unfold List.Nodup
  rw[List.pairwise_map]
  refine vcS ?_ (List.nodup_range (n:=used.length+1))
  intro a b hab e
  have:=qeO (List.append_cancel_left e)
  omega) (by simp)
 simp only[vaq,vbt]at hx
 obtain⟨i,hi,rfl⟩:=hx
 exact⟨i+1,by omega,by omega,hu⟩
def mO(used:List ag)(base:ag):Nat->Nat->ag
 |0,_=>[]
 |k+1,n=>if used.contains (base++Lib.decDigits n)=true then mO used base k (n+1)else base++Lib.decDigits n
def eQ(used:List ag)(base:ag):ag:=if used.contains base=true then mO used base 100000001 1 else base
theorem J9(used:List ag)(hl:qjM used):∃m,ry used used.length 0 []=some m/\∀k,QA m k=used.contains k:=by
 unfold ry
 have:=kP used hl (fun i (m:List (ag×Bool))=>(i,m)) (fun zz=>jX used used.length zz.1 zz.2) (fun _ _=>True) (fun _ x m=>.inl (J7 m x true)) (fun m=>m) (fun i hi t _=>⟨by
   simp only[jX]
   rw[vad (by simp;omega),bo _ i hi]
   rfl,fun _ _=>trivial⟩) (fun _ _=>by simp only[jX];rw[vae (by simp)]) 0 [] (vaN _) trivial
 simp only[Int.ofNat_zero,vaV]at this
 rw[this]
 refine⟨_,rfl,?_⟩
 have key:∀(l:List ag) (i:Nat) (m:List (ag×Bool)) k,QA (mV (fun _ x (m:List (ag×Bool))=>(Sum.inl (J7 m x true):List (ag×Bool)⊕List (ag×Bool))) (fun m=>m) l i m) k=(l.contains k||QA m k):=by
  intro l
  induction l with
  |nil=>intro i m k;simp[mV]
  |cons x l ih=>
   intro i m k
   unfold mV
   simp only[ih,qdb,List.contains_cons]
   cases(k==x)<;>cases l.contains k<;>simp
 intro k
 rw[key]
 simp[QA,Do]
theorem Mp(used:List ag)(base:ag)(m:List (ag×Bool))(hm:∀k,QA m k=used.contains k)(hl:used.length<=100000000)(hb:base.length<=4000000000000000000)(N:Nat)(hN:base++Lib.decDigits N∉used)(hN2:N<=100000001):∀(k n:Nat),1<=n->n<=N->N<n+k->mS base m n=some (mO used base k n)/\kc used base (base++Lib.decDigits n) ((n+1:Nat):Int)=some (mO used base k n)/\mO used base k n∉used
 |0,n,_,h1,h2=>absurd h2 (by omega)
 | k + 1,n,h0,h1,h2 => by
  have hd:=UV n
  have hd2:=UV (n+1)
  have e1:aR ((n:Int)+1)=((n+1:Nat):Int):=by rw[dB (by omega) (by omega)];omega
  have e2:aR (((n+1:Nat):Int)+1)=((n+2:Nat):Int):=by rw[dB (by omega) (by omega)];omega
  unfold mO
  by_cases hc:used.contains (base++Lib.decDigits n)=true
  ·rw[vad hc]
   have hne:n≠N:=by
    rintro rfl
    exact hN (by simpa using hc)
   obtain⟨i1,i2,i3⟩:=Mp used base m hm hl hb N hN hN2 k (n+1) (by omega) (by omega) (by omega)
   have hm':=hm (base++Lib.decDigits n)
   unfold QA at hm'
   have b1:g8 base m (n:Int)=some (.inl (((n+1:Nat):Int))):=by
    simp only[g8]
    rw[W3 n (by omega)]
    simp only[vaa]
    rw[PN (by omega)]
    simp only[vaa,hm',hc,e1]
    rfl
   have b2:dm used base (base++Lib.decDigits n) ((n+1:Nat):Int)=some (.inl (base++Lib.decDigits (n+1),((n+2:Nat):Int))):=by
    simp only[dm]
    rw[qe _ _ (by omega)]
    simp only[vaa,vY]
    have:(used.any fun k=>k==base++Lib.decDigits n)=true:=by simpa[vbx]using hc
    rw[this,vad rfl,Ma (n+1) (by omega) (by omega)]
    simp only[vaa]
    rw[PN (by omega)]
    simp only[vaa,e2]
   refine⟨?_,?_,i3⟩
   ·unfold mS at i1 ⊢
    exact(ql b1).trans i1
   ·unfold kc at i2 ⊢
    exact(ql (body:=fun zz:ag×Int=>dm used base zz.1 zz.2) (s:=(base++Lib.decDigits n,((n+1:Nat):Int))) (s':=(base++Lib.decDigits (n+1),((n+2:Nat):Int))) b2).trans i2
  ·rw[vae hc]
   have hc':used.contains (base++Lib.decDigits n)=false:=by simpa using hc
   have hm':=hm (base++Lib.decDigits n)
   unfold QA at hm'
   have b1:g8 base m (n:Int)=some (.inr (base++Lib.decDigits n)):=by
    simp only[g8]
    rw[W3 n (by omega)]
    simp only[vaa]
    rw[PN (by omega)]
    simp only[vaa,hm',hc']
    rfl
   have b2:dm used base (base++Lib.decDigits n) ((n+1:Nat):Int)=some (.inr (base++Lib.decDigits n)):=by
    simp only[dm]
    rw[qe _ _ (by omega)]
    simp only[vaa,vY]
    have:(used.any fun k=>k==base++Lib.decDigits n)=false:=by
     rw[vco]
     intro h
     apply hc
     simpa[vbx]using h
    rw[this]
    rfl
   refine⟨?_,?_,by simpa using hc⟩
   ·unfold mS
    exact jV b1
   ·unfold kc
    exact jV (body:=fun zz:ag×Int=>dm used base zz.1 zz.2) (s:=(base++Lib.decDigits n,((n+1:Nat):Int))) b2
theorem Al(used:List ag)(base:ag)(hl:used.length<=100000000)(hb:base.length<=4000000000000000000):mR used base=some (eQ used base)/\sA used base=some (eQ used base)/\eQ used base∉used:=by
 obtain⟨m,hm1,hm⟩:=J9 used (show _<_ by omega)
 have hm':=hm base
 unfold QA at hm'
 obtain⟨N,h1,h2,h3⟩:=WW used base
 obtain⟨i1,i2,i3⟩:=Mp used base m hm hl hb N h3 (by omega) 100000001 1 (vah _) h1 (by omega)
 unfold mR sA eQ
 rw[hm1]
 simp only[vaa,hm']
 have hd:=UV 1
 by_cases hc:used.contains base=true
 ·simp only[hc,vb3,va6,if_false,if_true]
  simp only[Int.ofNat_one]at i1
  rw[i1]
  have b2:dm used base base 1=some (.inl (base++Lib.decDigits 1,((2:Nat):Int))):=by
   simp only[dm]
   rw[qe _ _ (by omega)]
   simp only[vaa,vY]
   have:(used.any fun k=>k==base)=true:=by simpa[vbx]using hc
   have ht:=Ma 1 (by omega) (by omega)
   simp only[Int.ofNat_one]at ht
   rw[this,vad rfl,ht]
   simp only[vaa]
   rw[PN (by omega)]
   rfl
  unfold kc at i2 ⊢
  have:=(ql (body:=fun zz:ag×Int=>dm used base zz.1 zz.2) (s:=(base,1)) (s':=(base++Lib.decDigits 1,((2:Nat):Int))) b2).trans i2
  rw[this]
  exact⟨rfl,rfl,i3⟩
 ·have hc':used.contains base=false:=by simpa using hc
  simp only[hc',vbT,if_true,va6,if_false]
  have b2:dm used base base 1=some (.inr base):=by
   simp only[dm]
   rw[qe _ _ (by omega)]
   simp only[vaa,vY]
   have:(used.any fun k=>k==base)=false:=by
    rw[vco]
    intro h
    apply hc
    simpa[vbx]using h
   rw[this]
   rfl
  unfold kc
  have:=jV (body:=fun zz:ag×Int=>dm used base zz.1 zz.2) (s:=(base,1)) b2
  rw[this]
  exact⟨trivial,rfl,by simpa using hc⟩
theorem JQ{u v:List ag}(h:∀x,x∈u↔x∈v)(base:ag):∀(k n:Nat),mO u base k n=mO v base k n
 |0,n=>by rw[mO,mO]
 | k + 1,n => by
  have e:u.contains (base++Lib.decDigits n)=v.contains (base++Lib.decDigits n):=by
   rw[vb6,vbz,vbz]
   exact h _
  rw[mO,mO,e,JQ h base k (n+1)]
theorem JS{u v:List ag}(h:∀x,x∈u↔x∈v)(base:ag):eQ u base=eQ v base:=by
 have e:u.contains base=v.contains base:=by
  rw[vb6,vbz,vbz]
  exact h _
 unfold eQ
 rw[e,JQ h]
end Go.Proofs.YtbaamopmfmpfaaaGreatDoor
