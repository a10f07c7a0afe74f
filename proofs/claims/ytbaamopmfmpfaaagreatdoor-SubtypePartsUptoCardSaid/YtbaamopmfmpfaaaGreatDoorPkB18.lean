/- PROVED: a part of the proof. Conditions: none. -/
import Derived.Test.YtbaamopmfmpfaaaGreatDoorPkB17
import Derived.Test.YtbaamopmfmpfaaaGreatDoorPkB9
noncomputable section
namespace Go.Proofs.YtbaamopmfmpfaaaGreatDoor
open Go Go.Proofs.Tryz
set_option linter.unusedVariables false
set_option maxRecDepth 100000
noncomputable def qaZ:Code:=f114.body.getD .skip
def Up:List Nat:=[31,43,62,66,117,127]
section
variable(t:ae)(t24:waB)(t25:Int)(m:waA)(m2:waB)(m3:waC)(m4:waB)(m5:Int)(m6:af)(m7:Int)(m8:af)(m9:Int)(m10:waB)(t26:Int)(m11:waB)
def jW:aC:=be 139 [(2,.eptr (ag t)),(3,.bptr 1 0),(4,.bptr 2 0),(5,.bptr 3 0),(24,sl ac t24),(25,.int .i64 t25),(26,.int .i64 t26)] [.dead,.cells [sl cS m,sl ac m2] [],.cells [.int .i64 0,.str ([]:af),sl ag m3,sl cS ([]:List af),.int .i64 0,.str ([]:af),.int .i64 0,sl ac m4,sl ac m4] [(2,38),(3,9),(7,36),(8,36)],.cells [.int .i64 m5,.str m6,sl ag m3,sl cS ([]:List af),.int .i64 m7,.str m8,.int .i64 m9,sl ac m10,sl ac m11] [(2,38),(3,9),(8,36)]] []
def sV(o:waB):aC:=be 139 [(2,.eptr (ag t)),(3,.bptr 1 0),(4,.bptr 2 0),(5,.bptr 3 0)] [.dead,.cells [sl cS m,sl ac m2] [],.cells [.int .i64 0,.str ([]:af),sl ag m3,sl cS ([]:List af),.int .i64 0,.str ([]:af),.int .i64 0,sl ac m4,sl ac m4] [(2,38),(3,9),(7,36),(8,36)],.cells [.int .i64 m5,.str m6,sl ag m3,sl cS ([]:List af),.int .i64 m7,.str m8,.int .i64 m9,sl ac m10,sl ac o] [(2,38),(3,9),(8,36)]] []
def AD:Option ((Int×waB)⊕(waB)):=
 if(decide (t26<t25))=true then
  (cz t24 t26).bind fun x3=>
  (nq x3 m m2).bind fun r4=>
  (app m11 ([r4]:List aa)).bind fun l5=>
  some (.inl (aS (t26+1),l5))
 else
  some (.inr m11)
def rb:Option waB:=loop (fun(zz:Int×waB)=>AD t24 t25 m m2 zz.1 zz.2) (t26,m11)
theorem Ia{y:(Int×waB)⊕(waB)}(h:AD t24 t25 m m2 t26 m11=some y):aV Pg GE 0 (cA qaZ 119) (LQ (fun(zz:Int×waB)=>jW t t24 t25 m m2 m3 m4 m5 m6 m7 m8 m9 m10 zz.1 zz.2) (fun _=>.exit 0) (sV t m m2 m3 m4 m5 m6 m7 m8 m9 m10) y) (jW t t24 t25 m m2 m3 m4 m5 m6 m7 m8 m9 m10 t26 m11):=by
 rcases bj h with⟨c2,h⟩|⟨c2,h⟩
 ·obtain⟨x3,bx3,h⟩:=ay h
  obtain⟨r4,br4,h⟩:=ay h
  obtain⟨l5,bl5,h⟩:=ay h
  obtain rfl:=lf h
  have z:=sg 0 c2<|sv (bL.ia (k:=.i64) bx3)<|sv (bh x3)<|sx ib<|sx (cr x3)<|lK [0,1,0,0,8,0,32,124,252,511,1023,2047]<|sv (bX x3 [])<|ss<|ss<|bz (uW br4)<|sv (bL.mk' (v:=dZ) cP ([r4]:List aa) 1 (by kernel_rfl))<|sv (bL.ap bl5)<|We (rfl:bK (sl ac l5)=some [sl ac l5])<|uP 0 .normal (jW t t24 t25 m m2 m3 m4 m5 m6 m7 m8 m9 m10 (aS (t26+1)) l5) rfl (dF (aI (im (ak t)) (aI (cZ rfl) (aI (cZ rfl) (aI (cZ rfl) (aI (up (aj ah t24)) (aI trivial (aI trivial trivial)))))))) (aI trivial (aI (aI (up (aj dN m)) (aI (up (aj ah m2)) trivial)) (aI (aI trivial (aI trivial (aI (up (aj ak m3)) (aI (up (aj dN ([]:List af))) (aI trivial (aI trivial (aI trivial (aI (up (aj ah m4)) (aI (up (aj ah m4)) trivial))))))))) (aI (aI trivial (aI trivial (aI (up (aj ak m3)) (aI (up (aj dN ([]:List af))) (aI trivial (aI trivial (aI trivial (aI (up (aj ah m10)) (aI (up (aj ah l5)) trivial))))))))) trivial))))
  exact dh (A:=Up) mixed z<|by kernel_rfl
 ·obtain rfl:=lf h
  have z:=sg 0 c2<|eF (.exit 0) (sV t m m2 m3 m4 m5 m6 m7 m8 m9 m10 m11)
  exact gg Up (by intro hx;cases hx) z<|by kernel_rfl
theorem Jz{x:waB}(h:rb t24 t25 m m2 t26 m11=some x):aV Pg GE 0 (.loop (cA qaZ 119)) (EX (.exit 0) (sV t m m2 m3 m4 m5 m6 m7 m8 m9 m10 x)) (jW t t24 t25 m m2 m3 m4 m5 m6 m7 m8 m9 m10 t26 m11):=
 aV.loop (S:=fun(zz:Int×waB)=>jW t t24 t25 m m2 m3 m4 m5 m6 m7 m8 m9 m10 zz.1 zz.2) (ex:=(fun _=>.exit 0)) (s:=(t26,m11)) h fun zz y hy=>Ia t t24 t25 m m2 m3 m4 m5 m6 m7 m8 m9 m10 zz.1 zz.2 hy
end
section
variable(t:ae)(used:waA)(i:Int)(t58:waC)(t59:Int)(m:waA)(m2:waB)(m3:waC)(m4:waB)(m5:Int)(m6:af)(m7:waC)(n:Nat)(m8:Int)(m9:af)(m10:Int)(m11:waB)(m12:waB)(w4:List af)(m13:Int)(m14:af)(m15:waC)(m16:waA)(m17:Int)(m18:af)(m19:Int)(m20:waB)(m21:waB)
def LJ:aC:=be 139 [(2,.eptr (ag t)),(3,.bptr 1 0),(4,.bptr 2 0),(5,.bptr 3 0),(8,sl cS used),(9,.int .i64 i),(58,sl ag t58),(59,.int .i64 t59),(60,.int .i64 i)] [.dead,.cells [sl cS m,sl ac m2] [],.cells [.int .i64 0,.str ([]:af),sl ag m3,sl cS ([]:List af),.int .i64 0,.str ([]:af),.int .i64 0,sl ac m4,sl ac m4] [(2,38),(3,9),(7,36),(8,36)],.cells [.int .i64 m5,.str m6,sl ag m7,.bsl 4 0 n,.int .i64 m8,.str m9,.int .i64 m10,sl ac m11,sl ac m12] [(2,38),(8,36)],.cells (pN cS w4) [],.cells [.int .i64 m13,.str m14,sl ag m15,sl cS m16,.int .i64 m17,.str m18,.int .i64 m19,sl ac m20,sl ac m21] []] [((8,0),9)]
def sU(o:Bool):aC:=be 139 [(2,.eptr (ag t)),(3,.bptr 1 0),(4,.bptr 2 0),(5,.bptr 3 0),(8,sl cS used),(9,.int .i64 i),(58,sl ag t58),(59,.int .i64 t59),(60,.int .i64 i),(82,.bool o)] [.dead,.cells [sl cS m,sl ac m2] [],.cells [.int .i64 0,.str ([]:af),sl ag m3,sl cS ([]:List af),.int .i64 0,.str ([]:af),.int .i64 0,sl ac m4,sl ac m4] [(2,38),(3,9),(7,36),(8,36)],.cells [.int .i64 m5,.str m6,sl ag m7,.bsl 4 0 n,.int .i64 m8,.str m9,.int .i64 m10,sl ac m11,sl ac m12] [(2,38),(8,36)],.cells (pN cS w4) [],.cells [.int .i64 m13,.str m14,sl ag m15,sl cS m16,.int .i64 m17,.str m18,.int .i64 m19,sl ac m20,sl ac m21] []] [((8,0),9)]
def xw:Option Bool:=
 if(t.Op !=6)=true then
  some true
 else
  some (decide (i>=(t.Names.length:Int)))
theorem Jy{x:Bool}(h:xw t i=some x):aV Pg GE 0 (cA qaZ 260060) (EX .normal (sU t used i t58 t59 m m2 m3 m4 m5 m6 m7 n m8 m9 m10 m11 m12 w4 m13 m14 m15 m16 m17 m18 m19 m20 m21 x)) (LJ t used i t58 t59 m m2 m3 m4 m5 m6 m7 n m8 m9 m10 m11 m12 w4 m13 m14 m15 m16 m17 m18 m19 m20 m21):=by
 have p17:=fun{sc F} (r:PS sc F)=>sv (aD t)<|sv (aE t)<|r
 rcases bj h with⟨c16,h⟩|⟨c16,h⟩
 ·obtain rfl:=lf h
  exact cf Up (p17<|sg 4 c16<|eF .normal (sU t used i t58 t59 m m2 m3 m4 m5 m6 m7 n m8 m9 m10 m11 m12 w4 m13 m14 m15 m16 m17 m18 m19 m20 m21 true))<|by kernel_rfl
 ·obtain rfl:=lf h
  exact cf Up (p17<|sg 4 c16<|sv (aQ t)<|sv (aR t)<|cq (bq.ln t.Names)<|eF .normal (sU t used i t58 t59 m m2 m3 m4 m5 m6 m7 n m8 m9 m10 m11 m12 w4 m13 m14 m15 m16 m17 m18 m19 m20 m21 (decide (i>=(t.Names.length:Int)))))<|by kernel_rfl
end
section
variable(R119:tN)(t:ae)(t58:waC)(t59:Int)(m3:waC)(m4:waB)(m5:Int)(m6:af)(n:Nat)(m8:Int)(m9:af)(m10:Int)(m11:waB)(m12:waB)(used:waA)(t60:Int)(m:waA)(m2:waB)(m7:waC)(w4:List af)
def fJ:aC:=be 139 [(2,.eptr (ag t)),(3,.bptr 1 0),(4,.bptr 2 0),(5,.bptr 3 0),(8,sl cS used),(58,sl ag t58),(59,.int .i64 t59),(60,.int .i64 t60)] [.dead,.cells [sl cS m,sl ac m2] [],.cells [.int .i64 0,.str ([]:af),sl ag m3,sl cS ([]:List af),.int .i64 0,.str ([]:af),.int .i64 0,sl ac m4,sl ac m4] [(2,38),(3,9),(7,36),(8,36)],.cells [.int .i64 m5,.str m6,sl ag m7,.bsl 4 0 n,.int .i64 m8,.str m9,.int .i64 m10,sl ac m11,sl ac m12] [(2,38),(8,36)],.cells (pN cS w4) []] [((8,0),9)]
def sW(o:waA×waB×waC×List af):aC:=be 139 [(4,.bptr 2 0),(5,.bptr 3 0)] [.dead,.cells [sl cS o.1,sl ac o.2.1] [],.cells [.int .i64 0,.str ([]:af),sl ag m3,sl cS ([]:List af),.int .i64 0,.str ([]:af),.int .i64 0,sl ac m4,sl ac m4] [(2,38),(3,9),(7,36),(8,36)],.cells [.int .i64 m5,.str m6,sl ag o.2.2.1,.bsl 4 0 n,.int .i64 m8,.str m9,.int .i64 m10,sl ac m11,sl ac m12] [(2,38),(8,36)],.cells (pN cS o.2.2.2) []] []
def eK:Option ((waA×Int×waA×waB×waC×List af)⊕((waA×waB×waC×List af))):=
 if (decide (t60 < t59)) = true then
  (cz t58 t60).bind fun x13=>
  (R119 x13 (⟨m,m2⟩:av)).bind fun r14=>
  (app m7 ([r14]:List ae)).bind fun l15=>
  (xw t t60).bind fun o18=>
  if o18=true then
   some (.inl (used,aS (t60+1),m,m2,l15,w4))
  else
   (cz t.Names t60).bind fun x21=>
   (JB (⟨m,m2⟩:av) x21).bind fun r22=>
   (cz t.Names t60).bind fun x23=>
   (F7 r22 x23).bind fun r24=>
   if r24=true then
    (cz t.Names t60).bind fun x27=>
    (sL used x27).bind fun r28=>
    (Yu n w4 t60).bind fun x29=>
    (qfP w4 t60 r28).bind fun l30=>
    (qeo n t60 (aS (t60+1))).bind fun n31=>
    (yF used t60 n31 l30).bind fun r32=>
    (cz t.Names t60).bind fun x33=>
    (app r22.Names ([x33]:List af)).bind fun l34=>
    (Yu n l30 t60).bind fun x35=>
    (app r22.By ([(⟨3,x35,0,([]:List aa)⟩:aa)]:List aa)).bind fun l36=>
    some (.inl (r32,aS (t60+1),l34,l36,l15,l30))
   else
    some (.inl (used,aS (t60+1),r22.Names,r22.By,l15,w4))
 else
  some (.inr (m,m2,m7,w4))
def xx:Option ((waA×waB×waC×List af)):=loop (fun(zz:waA×Int×waA×waB×waC×List af)=>eK R119 t t58 t59 n zz.1 zz.2.1 zz.2.2.1 zz.2.2.2.1 zz.2.2.2.2.1 zz.2.2.2.2.2) (used,t60,m,m2,m7,w4)
theorem Ib(hR119:zq R119){y:(waA×Int×waA×waB×waC×List af)⊕((waA×waB×waC×List af))}(h:eK R119 t t58 t59 n used t60 m m2 m7 w4=some y):aV Pg GE 0 (cA qaZ 1015) (LQ (fun(zz:waA×Int×waA×waB×waC×List af)=>fJ t t58 t59 m3 m4 m5 m6 n m8 m9 m10 m11 m12 zz.1 zz.2.1 zz.2.2.1 zz.2.2.2.1 zz.2.2.2.2.1 zz.2.2.2.2.2) (fun _=>.exit 2) (sW m3 m4 m5 m6 n m8 m9 m10 m11 m12) y) (fJ t t58 t59 m3 m4 m5 m6 n m8 m9 m10 m11 m12 used t60 m m2 m7 w4):=by
 rcases bj h with⟨c12,h⟩|⟨c12,h⟩
 ·obtain⟨x13,bx13,h⟩:=ay h
  obtain⟨r14,br14,h⟩:=ay h
  obtain⟨l15,bl15,h⟩:=ay h
  obtain⟨o18,bo18,h⟩:=ay h
  have p20:=fun{sc F} (r:PS sc F)=>sg 0 c12<|sv (ct.ia (k:=.i64) bx13)<|sv (aN x13)<|sx tu<|sx (ez x13)<|lK [0,1,0,0,12,28,63,127,255]<|sv (cX x13 [])<|sv (dY (⟨m,m2⟩:av) [])<|bz (hR119 _ _ _ br14)<|sv (ct.mk' (v:=jG) eO ([r14]:List ae) 1 (by kernel_rfl))<|sv (ct.ap bl15)<|We (rfl:bK (sl ag l15)=some [sl ag l15])<|ka 1<|cY (Jy t used t60 t58 t59 m m2 m3 m4 m5 m6 l15 n m8 m9 m10 m11 m12 w4 x13.Op x13.Name x13.Args x13.Names x13.Pred.Op x13.Pred.Name x13.Pred.N x13.Pred.Kids x13.Preds bo18)<|r
  rcases bj h with⟨c19,h⟩|⟨c19,h⟩
  ·obtain rfl:=lf h
   have z:=p20<|sg 0 c19<|uP 0 .normal (fJ t t58 t59 m3 m4 m5 m6 n m8 m9 m10 m11 m12 used (aS (t60+1)) m m2 l15 w4) rfl (dF (aI (im (ak t)) (aI (cZ rfl) (aI (cZ rfl) (aI (cZ rfl) (aI (up (aj dN used)) (aI (up (aj ak t58)) (aI trivial (aI trivial trivial))))))))) (aI trivial (aI (aI (up (aj dN m)) (aI (up (aj ah m2)) trivial)) (aI (aI trivial (aI trivial (aI (up (aj ak m3)) (aI (up (aj dN ([]:List af))) (aI trivial (aI trivial (aI trivial (aI (up (aj ah m4)) (aI (up (aj ah m4)) trivial))))))))) (aI (aI trivial (aI trivial (aI (up (aj ak l15)) (aI (cZ rfl) (aI trivial (aI trivial (aI trivial (aI (up (aj ah m11)) (aI (up (aj ah m12)) trivial))))))))) (aI (qeF _ dN w4) trivial)))))
   exact dh (A:=Up) mixed z<|by kernel_rfl
  ·obtain⟨x21,bx21,h⟩:=ay h
   obtain⟨r22,br22,h⟩:=ay h
   obtain⟨x23,bx23,h⟩:=ay h
   obtain⟨r24,br24,h⟩:=ay h
   have p26:=fun{sc F} (r:PS sc F)=>p20<|sg 0 c19<|lK [0,0,2,0,14,30,63,127]<|sv (dY (⟨m,m2⟩:av) [])<|sv (aQ t)<|sv (aR t)<|sv (bq.ia (k:=.i64) bx21)<|sv (dB Bg (.str x21) [])<|bz (WP br22)<|qcq (me r22)<|lK [0,0,2,0,14,30,63]<|sv (dY r22 [])<|sv (aQ t)<|sv (aR t)<|sv (bq.ia (k:=.i64) bx23)<|sv (dB Bg (.str x23) [])<|bz (UW br24)<|r
   rcases bj h with⟨c25,h⟩|⟨c25,h⟩
   ·obtain⟨x27,bx27,h⟩:=ay h
    obtain⟨r28,br28,h⟩:=ay h
    obtain⟨x29,bx29,h⟩:=ay h
    obtain⟨l30,bl30,h⟩:=ay h
    obtain⟨n31,bn31,h⟩:=ay h
    obtain⟨r32,br32,h⟩:=ay h
    obtain⟨x33,bx33,h⟩:=ay h
    obtain⟨l34,bl34,h⟩:=ay h
    obtain⟨x35,bx35,h⟩:=ay h
    obtain⟨l36,bl36,h⟩:=ay h
    obtain rfl:=lf h
    have z:=p26<|sg 0 c25<|qhS (.dx [0,1,0,0,0,16,0,112,240,504,1023,2047] [] [] [4])<|ss<|sv (aQ t)<|sv (aR t)<|sv (bq.ia (k:=.i64) bx27)<|sv (dB Bg (.str x27) [])<|bz (Bu br28)<|sv (bq.iaN 4 (k:=.i64) bx29)<|qjQ (bq.stR (Fs r28) bl30)<|ss<|sv (bq.scN 4 bn31)<|si (.cg ⟨[4],[sl cS used,.bsl 0 (lP Pg 9 t60) n31],[],[.cells (pN cS l30) []],[.cells (pN cS l30) []],[.cells (pN cS l30) []],[.cells (pN cS l30) []],sl cS r32,sl cS r32,[(0,9)]⟩) (OY br32)<|sf (aI (xR [4] (sl cS used) (aj dN used)) (aI (xS [4] 0 4 (lP Pg 9 t60) n31 rfl) trivial))<|sf (aI (aI (rB (.cells (pN cS l30) [])) (aI (rW []) (qkU [4] _ (qeF 0 dN l30)))) trivial)<|sf (aI (aI (rW []) (qkU [4] _ (qeF 0 dN l30))) trivial)<|sf (xR [4] (sl cS r32) (aj dN r32))<|lK [0,1,0,4,0,28,60,124,255,511,1023]<|sv (aQ t)<|sv (aR t)<|sv (bq.ia (k:=.i64) bx33)<|sv (dB Bg (.str x33) [])<|sv (bq.mk' (v:=PVal.str) Fs ([x33]:List af) 1 (by kernel_rfl))<|sv (bq.ap bl34)<|We (rfl:bK (sl cS l34)=some [sl cS l34])<|lK [0,1,0,4,0,28,60,124,252,511,1023,2047]<|ss<|sv (bq.iaN 4 (k:=.i64) bx35)<|sv (bq.ldN (fun r=>dB Bg (.str x35) r) bx35)<|sb (ko 3 x35) (kl 3 x35)<|sv (bL.mk' (v:=dZ) cP ([(⟨3,x35,0,([]:List aa)⟩:aa)]:List aa) 1 (by kernel_rfl))<|sv (bL.ap bl36)<|We (rfl:bK (sl ac l36)=some [sl ac l36])<|uP 0 .normal (fJ t t58 t59 m3 m4 m5 m6 n m8 m9 m10 m11 m12 r32 (aS (t60+1)) l34 l36 l15 l30) rfl (dF (aI (im (ak t)) (aI (cZ rfl) (aI (cZ rfl) (aI (cZ rfl) (aI (up (aj dN r32)) (aI (up (aj ak t58)) (aI trivial (aI trivial trivial))))))))) (aI trivial (aI (aI (up (aj dN l34)) (aI (up (aj ah l36)) trivial)) (aI (aI trivial (aI trivial (aI (up (aj ak m3)) (aI (up (aj dN ([]:List af))) (aI trivial (aI trivial (aI trivial (aI (up (aj ah m4)) (aI (up (aj ah m4)) trivial))))))))) (aI (aI trivial (aI trivial (aI (up (aj ak l15)) (aI (cZ rfl) (aI trivial (aI trivial (aI trivial (aI (up (aj ah m11)) (aI (up (aj ah m12)) trivial))))))))) (aI (qeF _ dN l30) trivial)))))
    exact dh (A:=Up) mixed z<|by kernel_rfl
   ·obtain rfl:=lf h
    have z:=p26<|sg 0 c25<|uP 0 .normal (fJ t t58 t59 m3 m4 m5 m6 n m8 m9 m10 m11 m12 used (aS (t60+1)) r22.Names r22.By l15 w4) rfl (dF (aI (im (ak t)) (aI (cZ rfl) (aI (cZ rfl) (aI (cZ rfl) (aI (up (aj dN used)) (aI (up (aj ak t58)) (aI trivial (aI trivial trivial))))))))) (aI trivial (aI (aI (up (aj dN r22.Names)) (aI (up (aj ah r22.By)) trivial)) (aI (aI trivial (aI trivial (aI (up (aj ak m3)) (aI (up (aj dN ([]:List af))) (aI trivial (aI trivial (aI trivial (aI (up (aj ah m4)) (aI (up (aj ah m4)) trivial))))))))) (aI (aI trivial (aI trivial (aI (up (aj ak l15)) (aI (cZ rfl) (aI trivial (aI trivial (aI trivial (aI (up (aj ah m11)) (aI (up (aj ah m12)) trivial))))))))) (aI (qeF _ dN w4) trivial)))))
    exact dh (A:=Up) mixed z<|by kernel_rfl
 ·obtain rfl:=lf h
  have z:=sg 0 c12<|eF (.exit 2) (sW m3 m4 m5 m6 n m8 m9 m10 m11 m12 (m,m2,m7,w4))
  exact gg Up (by intro hx;cases hx) z<|by kernel_rfl
theorem JA(hR119:zq R119){x:(waA×waB×waC×List af)}(h:xx R119 t t58 t59 n used t60 m m2 m7 w4=some x):aV Pg GE 0 (.loop (cA qaZ 1015)) (EX (.exit 2) (sW m3 m4 m5 m6 n m8 m9 m10 m11 m12 x)) (fJ t t58 t59 m3 m4 m5 m6 n m8 m9 m10 m11 m12 used t60 m m2 m7 w4):=
 aV.loop (S:=fun(zz:waA×Int×waA×waB×waC×List af)=>fJ t t58 t59 m3 m4 m5 m6 n m8 m9 m10 m11 m12 zz.1 zz.2.1 zz.2.2.1 zz.2.2.2.1 zz.2.2.2.2.1 zz.2.2.2.2.2) (ex:=(fun _=>.exit 2)) (s:=(used,t60,m,m2,m7,w4)) h fun zz y hy=>Ib R119 t t58 t59 m3 m4 m5 m6 n m8 m9 m10 m11 m12 zz.1 zz.2.1 zz.2.2.1 zz.2.2.2.1 zz.2.2.2.2.1 zz.2.2.2.2.2 hR119 hy
end
def tM(R119:tN)(t:ae)(c:av):Option ae:=
 (nq t.Pred c.Names c.By).bind fun r1=>
 (rb t.Preds (t.Preds.length:Int) c.Names c.By 0 ([]:List aa)).bind fun o6=>
 (app [] t.Names).bind fun l7=>
 (F8 c.By).bind fun r8=>
 (PG t).bind fun r9=>
 (gn r8 r9).bind fun r10=>
 (gn r10 t.Names).bind fun r11=>
 (xx R119 t t.Args (t.Args.length:Int) l7.length r11 0 c.Names c.By ([]:List ae) l7).bind fun o37=>
 (qdc l7.length o37.2.2.2).bind fun l38=>
 some (⟨t.Op,t.Name,o37.2.2.1,l38,r1,o6⟩:ae)
theorem NY(R119:tN)(hR119:zq R119){t:ae}{c:av}{r:ae}(h:tM R119 t c=some r):CC Pg GE 114 [.agg (ag t),.agg (aH c)] (.agg (ag r)) [(2,38),(8,36)]:=by
 obtain⟨r1,br1,h⟩:=ay h
 obtain⟨o6,bo6,h⟩:=ay h
 obtain⟨l7,bl7,h⟩:=ay h
 obtain⟨r8,br8,h⟩:=ay h
 obtain⟨r9,br9,h⟩:=ay h
 obtain⟨r10,br10,h⟩:=ay h
 obtain⟨r11,br11,h⟩:=ay h
 obtain⟨o37,bo37,h⟩:=ay h
 obtain⟨l38,bl38,h⟩:=ay h
 obtain rfl:=lf h
 have z:=se (bw t)<|sx (me c)<|sx tu<|lK [0,1,0,4,0,16,0,64,0,256,1008,2047,0,8191]<|sv (aD t)<|sv (aE t)<|sv (cx t)<|sv (cT t)<|sv (dH t)<|sv (dI t)<|ss<|ss<|bz (uW br1)<|sb (P6 t.Op t.Name r1) (P3 t.Op t.Name r1)<|qcq (ez (⟨t.Op,t.Name,([]:List ae),([]:List af),r1,([]:List aa)⟩:ae))<|sv (du t)<|sv (dv t)<|cq (bL.ln t.Preds)<|cY (Jz t t.Preds (t.Preds.length:Int) c.Names c.By ([]:List ae) ([]:List aa) t.Op t.Name r1.Op r1.Name r1.N r1.Kids 0 ([]:List aa) bo6)<|sv (aQ t)<|sv (aR t)<|qjP 4 9 (bq.apR bl7)<|ss<|lK [0,1,3,0,15,31,0,64,255,511]<|ss<|bz (UY br8)<|sv (aN t)<|bz (WO br9)<|bz (nm br10)<|sv (aQ t)<|sv (aR t)<|bz (nm br11)<|sv (aL t)<|sv (aM t)<|cq (ct.ln t.Args)<|cY (JA R119 t t.Args (t.Args.length:Int) ([]:List ae) ([]:List aa) t.Op t.Name l7.length r1.Op r1.Name r1.N r1.Kids o6 r11 0 c.Names c.By ([]:List ae) l7 hR119 bo37)<|qgo 4 (l38.map cS) [4,5] [] (bq.fz1 (m:=0) (b:=4) rfl l38) (bq.fz2 4 l38) (qhP cS bl38)<|sf (Fr 4 (p:=sl cS o37.1) (aj dN o37.1))<|sf (Fr 4 (p:=sl ac o37.2.1) (aj ah o37.2.1))<|sf (Fr 4 (p:=sl ag ([]:List ae)) (aj ak ([]:List ae)))<|sf (Fr 4 (p:=sl cS ([]:List af)) (aj dN ([]:List af)))<|sf (Fr 4 (p:=sl ac ([]:List aa)) (aj ah ([]:List aa)))<|sf (Fr 4 (p:=sl ac ([]:List aa)) (aj ah ([]:List aa)))<|sf (Fr 4 (p:=sl ag o37.2.2.1) (aj ak o37.2.2.1))<|sf (qhQ cS bl38)<|sf (Fr 4 (p:=sl ac r1.Kids) (aj ah r1.Kids))<|sf (Fr 4 (p:=sl ac o6) (aj ah o6))<|sz (cX (⟨t.Op,t.Name,o37.2.2.1,l38,r1,o6⟩:ae) [])<|sy (bu (⟨t.Op,t.Name,o37.2.2.1,l38,r1,o6⟩:ae))<|en (aI (ic (⟨t.Op,t.Name,o37.2.2.1,l38,r1,o6⟩:ae))<|aI (ak (⟨t.Op,t.Name,o37.2.2.1,l38,r1,o6⟩:ae))<|rT)
 exact bO Up call114 func114 (c:=qaZ) rfl (aI (ak t) (aI (d9 c) trivial)) z<|by kernel_rfl
def zV:((ae×av)->Option ae)->(ae×av)->Option ae:=fun(rec:(ae×av)->Option ae) (x:ae×av)=>tM (fun t c=>rec (t,c)) x.1 x.2
def EH(t:ae)(c:av):Option ae:=kK zV (t,c)
theorem PK{t:ae}{c:av}{r:ae}(h:EH t c=some r):CC Pg GE 114 [.agg (ag t),.agg (aH c)] (.agg (ag r)) [(2,38),(8,36)]:=
 cG (F:=zV) (M:=fun(x:ae×av) (r:ae)=>CC Pg GE 114 [.agg (ag x.1),.agg (aH x.2)] (.agg (ag r)) [(2,38),(8,36)]) (fun rec hrec x r h=>NY _ (fun t c r h=>hrec (t,c) r h) h) h
noncomputable def qeZ:Code:=f100.body.getD .skip
def Yx:List Nat:=[15,34,40]
section
variable(v:waB)(t:ae)(i:Int)(s:af)(t11:waA)(t12:Int)(m:waC)(m2:waB)(m3:waA)(m4:waB)
def Jx:aC:=be 52 [(2,sl ac v),(3,.eptr (ag t)),(6,.bptr 1 0),(7,.bptr 2 0),(8,.int .i64 i),(9,.str s),(11,sl cS t11),(12,.int .i64 t12),(13,.int .i64 i)] [.dead,.cells [.int .i64 0,.str ([]:af),sl ag m,sl cS ([]:List af),.int .i64 0,.str ([]:af),.int .i64 0,sl ac m2,sl ac m2] [(2,38),(3,9),(7,36),(8,36)],.cells [sl cS m3,sl ac m4] [(0,9),(1,36)]] []
def lX(o:Bool):aC:=be 52 [(2,sl ac v),(3,.eptr (ag t)),(6,.bptr 1 0),(7,.bptr 2 0),(8,.int .i64 i),(9,.str s),(11,sl cS t11),(12,.int .i64 t12),(13,.int .i64 i),(32,.bool o)] [.dead,.cells [.int .i64 0,.str ([]:af),sl ag m,sl cS ([]:List af),.int .i64 0,.str ([]:af),.int .i64 0,sl ac m2,sl ac m2] [(2,38),(3,9),(7,36),(8,36)],.cells [sl cS m3,sl ac m4] [(0,9),(1,36)]] []
def u9:Option Bool:=
 if(decide (i<(v.length:Int)))=true then
  if(!(s==([118]:af)))=true then
   (gM m3 s).bind fun r6=>
   some (decide (r6<0))
  else
   some false
 else
  some false
theorem H8{x:Bool}(h:u9 v i s m3=some x):aV Pg GE 0 (cA qeZ 7670) (EX .normal (lX v t i s t11 t12 m m2 m3 m4 x)) (Jx v t i s t11 t12 m m2 m3 m4):=by
 rcases bj h with⟨c3,h⟩|⟨c3,h⟩
 ·have p5:=fun{sc F} (r:PS sc F)=>cq (bL.ln v)<|sg 5 c3<|r
  rcases bj h with⟨c4,h⟩|⟨c4,h⟩
  ·obtain⟨r6,br6,h⟩:=ay h
   obtain rfl:=lf h
   exact cf Yx (p5<|sg 9 c4<|ss<|bz (kb br6)<|eF .normal (lX v t i s t11 t12 m m2 m3 m4 (decide (r6<0))))<|by kernel_rfl
  ·obtain rfl:=lf h
   exact cf Yx (p5<|sg 9 c4<|eF .normal (lX v t i s t11 t12 m m2 m3 m4 false))<|by kernel_rfl
 ·obtain rfl:=lf h
  exact cf Yx (cq (bL.ln v)<|sg 5 c3<|eF .normal (lX v t i s t11 t12 m m2 m3 m4 false))<|by kernel_rfl
end
section
variable(v:waB)(t:ae)(t11:waA)(t12:Int)(m:waC)(m2:waB)(t13:Int)(m3:waA)(m4:waB)
def gr:aC:=be 52 [(2,sl ac v),(3,.eptr (ag t)),(6,.bptr 1 0),(7,.bptr 2 0),(11,sl cS t11),(12,.int .i64 t12),(13,.int .i64 t13)] [.dead,.cells [.int .i64 0,.str ([]:af),sl ag m,sl cS ([]:List af),.int .i64 0,.str ([]:af),.int .i64 0,sl ac m2,sl ac m2] [(2,38),(3,9),(7,36),(8,36)],.cells [sl cS m3,sl ac m4] [(0,9),(1,36)]] []
def ra(o:waA×waB):aC:=be 52 [(3,.eptr (ag t)),(6,.bptr 1 0),(7,.bptr 2 0)] [.dead,.cells [.int .i64 0,.str ([]:af),sl ag m,sl cS ([]:List af),.int .i64 0,.str ([]:af),.int .i64 0,sl ac m2,sl ac m2] [(2,38),(3,9),(7,36),(8,36)],.cells [sl cS o.1,sl ac o.2] [(0,9),(1,36)]] []
def er:Option ((Int×waA×waB)⊕((waA×waB))):=
 if(decide (t13<t12))=true then
  (cz t11 t13).bind fun x2=>
  (u9 v t13 x2 m3).bind fun o7=>
  if o7=true then
   (app m3 ([x2]:List af)).bind fun l10=>
   (cz v t13).bind fun x11=>
   (app m4 ([x11]:List aa)).bind fun l12=>
   some (.inl (aS (t13+1),l10,l12))
  else
   some (.inl (aS (t13+1),m3,m4))
 else
  some (.inr (m3,m4))
def va:Option ((waA×waB)):=loop (fun(zz:Int×waA×waB)=>er v t11 t12 zz.1 zz.2.1 zz.2.2) (t13,m3,m4)
theorem GT{y:(Int×waA×waB)⊕((waA×waB))}(h:er v t11 t12 t13 m3 m4=some y):aV Pg GE 0 (cA qeZ 119) (LQ (fun(zz:Int×waA×waB)=>gr v t t11 t12 m m2 zz.1 zz.2.1 zz.2.2) (fun _=>.exit 0) (ra t m m2) y) (gr v t t11 t12 m m2 t13 m3 m4):=by
 rcases bj h with⟨c1,h⟩|⟨c1,h⟩
 ·obtain⟨x2,bx2,h⟩:=ay h
  obtain⟨o7,bo7,h⟩:=ay h
  have p9:=fun{sc F} (r:PS sc F)=>sg 0 c1<|sv (bq.ia (k:=.i64) bx2)<|sv (dB Bg (.str x2) [])<|ka 0<|cY (H8 v t t13 x2 t11 t12 m m2 m3 m4 bo7)<|r
  rcases bj h with⟨c8,h⟩|⟨c8,h⟩
  ·obtain⟨l10,bl10,h⟩:=ay h
   obtain⟨x11,bx11,h⟩:=ay h
   obtain⟨l12,bl12,h⟩:=ay h
   obtain rfl:=lf h
   exact oo Yx (p9<|sg 0 c8<|sv (bq.mk' (v:=PVal.str) Fs ([x2]:List af) 1 (by kernel_rfl))<|sv (bq.ap bl10)<|lK [0,1,0,0,12,28,60,127,255,511]<|sv (bL.ia (k:=.i64) bx11)<|sv (bh x11)<|sv (bL.mk' (v:=dZ) cP ([x11]:List aa) 1 (by kernel_rfl))<|sv (bL.ap bl12)<|We (rfl:bK (sl ac l12)=some [sl ac l12])<|eF .normal (gr v t t11 t12 m m2 (aS (t13+1)) l10 l12))<|by kernel_rfl
  ·obtain rfl:=lf h
   exact oo Yx (p9<|sg 0 c8<|eF .normal (gr v t t11 t12 m m2 (aS (t13+1)) m3 m4))<|by kernel_rfl
 ·obtain rfl:=lf h
  have z:=sg 0 c1<|eF (.exit 0) (ra t m m2 (m3,m4))
  exact gg Yx (by intro hx;cases hx) z<|by kernel_rfl
theorem H9{x:(waA×waB)}(h:va v t11 t12 t13 m3 m4=some x):aV Pg GE 0 (.loop (cA qeZ 119)) (EX (.exit 0) (ra t m m2 x)) (gr v t t11 t12 m m2 t13 m3 m4):=
 aV.loop (S:=fun(zz:Int×waA×waB)=>gr v t t11 t12 m m2 zz.1 zz.2.1 zz.2.2) (ex:=(fun _=>.exit 0)) (s:=(t13,m3,m4)) h fun zz y hy=>GT v t t11 t12 m m2 zz.1 zz.2.1 zz.2.2 hy
end
def B5(t:ae)(names:waA)(a:waB):Option ae:=
 (va a names (names.length:Int) 0 ([]:List af) ([]:List aa)).bind fun o13=>
 (EH t (⟨o13.1,o13.2⟩:av)).bind fun r14=>
 some r14
theorem NX{t:ae}{names:waA}{a:waB}{r:ae}(h:B5 t names a=some r):CC Pg GE 100 [.agg (ag t),sl cS names,sl ac a] (.agg (ag r)) [(2,38),(8,36)]:=by
 obtain⟨o13,bo13,h⟩:=ay h
 obtain⟨r14,br14,h⟩:=ay h
 obtain rfl:=lf h
 have z:=se (bw t)<|sx tu<|sb (kH) (kG)<|sx qd9<|sy (dc (⟨([]:List af),([]:List aa)⟩:av))<|cq (bq.ln names)<|cY (H9 a t names (names.length:Int) ([]:List ae) ([]:List aa) 0 ([]:List af) ([]:List aa) bo13)<|sv (aN t)<|sv (dY (⟨o13.1,o13.2⟩:av) [])<|bz (PK br14)<|sy (bu r14)<|en (aI (ic r14)<|aI (ak r14)<|rT)
 exact bO Yx call100 func100 (c:=qeZ) rfl (aI (ak t) (aI (aj dN names) (aI (aj ah a) trivial))) z<|by kernel_rfl
noncomputable def qlZ:Code:=f85.body.getD .skip
def qlJ:List Nat:=[]
def F6(t:ae)(name:af)(a:aa):Option ae:=
 (B5 t ([name]:List af) ([a]:List aa)).bind fun r1=>
 some r1
theorem UV{t:ae}{name:af}{a:aa}{r:ae}(h:F6 t name a=some r):CC Pg GE 85 [.agg (ag t),.str name,.agg (ac a)] (.agg (ag r)) [(2,38),(8,36)]:=by
 obtain⟨r1,br1,h⟩:=ay h
 obtain rfl:=lf h
 have z:=se (bw t)<|se (bU a)<|sx tu<|sv (aN t)<|sv (bq.mk' (v:=PVal.str) Fs ([name]:List af) 1 (by kernel_rfl))<|sv (bh a)<|sv (bL.mk' (v:=dZ) cP ([a]:List aa) 1 (by kernel_rfl))<|bz (NX br1)<|sy (bu r1)<|en (aI (ic r1)<|aI (ak r1)<|rT)
 exact bO qlJ call85 func85 (c:=qlZ) rfl (aI (ak t) (aI trivial (aI (ah a) trivial))) z<|by kernel_rfl
noncomputable def qit:Code:=f59.body.getD .skip
def qhA:List Nat:=[]
section
variable(i:Int)(v:af)(t:ae)(m:waC)(m2:waB)(m3:Int)(m4:af)(n:Nat)(m5:waA)(m6:Int)(m7:af)(m8:Int)(m9:waB)(m10:waB)(w3:List ae)
def N5:aC:=be 56 [(1,.int .i64 i),(2,.str v),(3,.eptr (ag t)),(6,.bptr 1 0),(7,.bptr 2 0)] [.dead,.cells [.int .i64 0,.str ([]:af),sl ag m,sl cS ([]:List af),.int .i64 0,.str ([]:af),.int .i64 0,sl ac m2,sl ac m2] [(2,38),(3,9),(7,36),(8,36)],.cells [.int .i64 m3,.str m4,.bsl 3 0 n,sl cS m5,.int .i64 m6,.str m7,.int .i64 m8,sl ac m9,sl ac m10] [],.cells (pN ag w3) []] []
def vg(o:Bool):aC:=be 56 [(1,.int .i64 i),(2,.str v),(3,.eptr (ag t)),(6,.bptr 1 0),(7,.bptr 2 0),(27,.bool o)] [.dead,.cells [.int .i64 0,.str ([]:af),sl ag m,sl cS ([]:List af),.int .i64 0,.str ([]:af),.int .i64 0,sl ac m2,sl ac m2] [(2,38),(3,9),(7,36),(8,36)],.cells [.int .i64 m3,.str m4,.bsl 3 0 n,sl cS m5,.int .i64 m6,.str m7,.int .i64 m8,sl ac m9,sl ac m10] [],.cells (pN ag w3) []] []
def z6:Option Bool:=
 if(decide (i>=(t.Names.length:Int)))=true then
  some true
 else
  (cz t.Names i).bind fun x4=>
  some (x4==([]:af))
theorem LO{x:Bool}(h:z6 i t=some x):aV Pg GE 0 (cA qit 60) (EX .normal (vg i v t m m2 m3 m4 n m5 m6 m7 m8 m9 m10 w3 x)) (N5 i v t m m2 m3 m4 n m5 m6 m7 m8 m9 m10 w3):=by
 have p3:=fun{sc F} (r:PS sc F)=>sv (aQ t)<|sv (aR t)<|cq (bq.ln t.Names)<|r
 rcases bj h with⟨c2,h⟩|⟨c2,h⟩
 ·obtain rfl:=lf h
  exact cf qhA (p3<|sg 6 c2<|eF .normal (vg i v t m m2 m3 m4 n m5 m6 m7 m8 m9 m10 w3 true))<|by kernel_rfl
 ·obtain⟨x4,bx4,h⟩:=ay h
  obtain rfl:=lf h
  exact cf qhA (p3<|sg 6 c2<|sv (aQ t)<|sv (aR t)<|sv (bq.ia (k:=.i64) bx4)<|sv (dB Bg (.str x4) [])<|eF .normal (vg i v t m m2 m3 m4 n m5 m6 m7 m8 m9 m10 w3 (x4==([]:af))))<|by kernel_rfl
end
section
variable(i:Int)(v:af)(t:ae)(m:waC)(m2:waB)(m3:Int)(m4:af)(n:Nat)(m5:waA)(m6:Int)(m7:af)(m8:Int)(m9:waB)(m10:waB)(k:Int)(w3:List ae)
def kF:aC:=be 56 [(1,.int .i64 i),(2,.str v),(3,.eptr (ag t)),(6,.bptr 1 0),(7,.bptr 2 0),(8,.int .i64 k)] [.dead,.cells [.int .i64 0,.str ([]:af),sl ag m,sl cS ([]:List af),.int .i64 0,.str ([]:af),.int .i64 0,sl ac m2,sl ac m2] [(2,38),(3,9),(7,36),(8,36)],.cells [.int .i64 m3,.str m4,.bsl 3 0 n,sl cS m5,.int .i64 m6,.str m7,.int .i64 m8,sl ac m9,sl ac m10] [],.cells (pN ag w3) []] []
def vj(o:List ae):aC:=be 56 [(6,.bptr 1 0),(7,.bptr 2 0)] [.dead,.cells [.int .i64 0,.str ([]:af),sl ag m,sl cS ([]:List af),.int .i64 0,.str ([]:af),.int .i64 0,sl ac m2,sl ac m2] [(2,38),(3,9),(7,36),(8,36)],.cells [.int .i64 m3,.str m4,.bsl 3 0 n,sl cS m5,.int .i64 m6,.str m7,.int .i64 m8,sl ac m9,sl ac m10] [],.cells (pN ag o) []] []
def iK:Option ((Int×List ae)⊕(waC)):=
 if(decide (k<(n:Int)))=true then
  (Yu n w3 k).bind fun x11=>
  (cz t.Names i).bind fun x12=>
  (gV v).bind fun r13=>
  (F6 x11 x12 r13).bind fun r14=>
  (Yu n w3 k).bind fun x15=>
  (qfP w3 k r14).bind fun l16=>
  some (.inl (aS (k+1),l16))
 else
  some (.inr w3)
def z7:Option waC:=loop (fun(zz:Int×List ae)=>iK i v t n zz.1 zz.2) (k,w3)
theorem JK{y:(Int×List ae)⊕(waC)}(h:iK i v t n k w3=some y):aV Pg GE 0 (cA qit 503) (LQ (fun(zz:Int×List ae)=>kF i v t m m2 m3 m4 n m5 m6 m7 m8 m9 m10 zz.1 zz.2) (fun _=>.exit 0) (vj m m2 m3 m4 n m5 m6 m7 m8 m9 m10) y) (kF i v t m m2 m3 m4 n m5 m6 m7 m8 m9 m10 k w3):=by
 have p10:=fun{sc F} (r:PS sc F)=>ss<|cq (ct.lnR 3 0 n)<|r
 rcases bj h with⟨c9,h⟩|⟨c9,h⟩
 ·obtain⟨x11,bx11,h⟩:=ay h
  obtain⟨x12,bx12,h⟩:=ay h
  obtain⟨r13,br13,h⟩:=ay h
  obtain⟨r14,br14,h⟩:=ay h
  obtain⟨x15,bx15,h⟩:=ay h
  obtain⟨l16,bl16,h⟩:=ay h
  obtain rfl:=lf h
  exact oo qhA (p10<|sg 0 c9<|qhS (.dx [0,1,0,0,8,0,56,120,0,256,0,1792,3840,0,8192,32760,65535,131071] [] [] [3])<|ss<|ss<|sv (ct.iaN 3 (k:=.i64) bx11)<|sv (ct.ldN (TJ x11) bx11)<|sv (aQ t)<|sv (aR t)<|sv (bq.ia (k:=.i64) bx12)<|sv (dB Bg (.str x12) [])<|bz (pI br13)<|bz (UV br14)<|sv (ct.iaN 3 (k:=.i64) bx15)<|qjQ (ct.stR (eO r14) bl16)<|eF .normal (kF i v t m m2 m3 m4 n m5 m6 m7 m8 m9 m10 (aS (k+1)) l16))<|by kernel_rfl
 ·obtain rfl:=lf h
  have z:=p10<|sg 0 c9<|eF (.exit 0) (vj m m2 m3 m4 n m5 m6 m7 m8 m9 m10 w3)
  exact gg qhA (by intro hx;cases hx) z<|by kernel_rfl
theorem LP{x:waC}(h:z7 i v t n k w3=some x):aV Pg GE 0 (.loop (cA qit 503)) (EX (.exit 0) (vj m m2 m3 m4 n m5 m6 m7 m8 m9 m10 x)) (kF i v t m m2 m3 m4 n m5 m6 m7 m8 m9 m10 k w3):=
 aV.loop (S:=fun(zz:Int×List ae)=>kF i v t m m2 m3 m4 n m5 m6 m7 m8 m9 m10 zz.1 zz.2) (ex:=(fun _=>.exit 0)) (s:=(k,w3)) h fun zz y hy=>JK i v t m m2 m3 m4 n m5 m6 m7 m8 m9 m10 zz.1 zz.2 hy
end
def xD(t:ae)(i:Int)(a:af):Option ae:=
 (app [] t.Args).bind fun l1=>
 (z6 i t).bind fun o5=>
 if o5=true then
  (qdc l1.length l1).bind fun l8=>
  some (⟨t.Op,t.Name,l8,t.Names,t.Pred,t.Preds⟩:ae)
 else
  (z7 i a t l1.length (aS (i+1)) l1).bind fun o17=>
  (qdc l1.length o17).bind fun l18=>
  some (⟨t.Op,t.Name,l18,t.Names,t.Pred,t.Preds⟩:ae)
theorem Hl{t:ae}{i:Int}{a:af}{r:ae}(h:xD t i a=some r):CC Pg GE 59 [.agg (ag t),.int .i64 i,.str a] (.agg (ag r)) []:=by
 obtain⟨l1,bl1,h⟩:=ay h
 obtain⟨o5,bo5,h⟩:=ay h
 have p7:=fun{sc F} (r:PS sc F)=>se (bw t)<|sx tu<|sv (aN t)<|sx tu<|sx (ez t)<|sv (ct.mk' (v:=jG) eO ([]:List ae) 0 (by kernel_rfl))<|sv (aL t)<|sv (aM t)<|qjP 3 38 (ct.apR bl1)<|ss<|ka 1<|cY (LO i a t ([]:List ae) ([]:List aa) t.Op t.Name l1.length t.Names t.Pred.Op t.Pred.Name t.Pred.N t.Pred.Kids t.Preds l1 bo5)<|r
 rcases bj h with⟨c6,h⟩|⟨c6,h⟩
 ·obtain⟨l8,bl8,h⟩:=ay h
  obtain rfl:=lf h
  have z:=p7<|sg 0 c6<|qgo 3 (l8.map ag) [6,7] [] (ct.fz1 (m:=0) (b:=3) rfl l8) (ct.fz2 3 l8) (qhP ag bl8)<|sf (Fr 3 (p:=sl ag ([]:List ae)) (aj ak ([]:List ae)))<|sf (Fr 3 (p:=sl cS ([]:List af)) (aj dN ([]:List af)))<|sf (Fr 3 (p:=sl ac ([]:List aa)) (aj ah ([]:List aa)))<|sf (Fr 3 (p:=sl ac ([]:List aa)) (aj ah ([]:List aa)))<|sf (qhQ ag bl8)<|sf (Fr 3 (p:=sl cS t.Names) (aj dN t.Names))<|sf (Fr 3 (p:=sl ac t.Pred.Kids) (aj ah t.Pred.Kids))<|sf (Fr 3 (p:=sl ac t.Preds) (aj ah t.Preds))<|sv (cX (⟨t.Op,t.Name,l8,t.Names,t.Pred,t.Preds⟩:ae) [])<|sx (ez (⟨t.Op,t.Name,l8,t.Names,t.Pred,t.Preds⟩:ae))<|en (aI (ic (⟨t.Op,t.Name,l8,t.Names,t.Pred,t.Preds⟩:ae))<|(ak (⟨t.Op,t.Name,l8,t.Names,t.Pred,t.Preds⟩:ae)))
  exact bO qhA call59 func59 (c:=qit) rfl (aI (ak t) (aI trivial (aI trivial trivial))) z<|by kernel_rfl
 ·obtain⟨o17,bo17,h⟩:=ay h
  obtain⟨l18,bl18,h⟩:=ay h
  obtain rfl:=lf h
  have z:=p7<|sg 0 c6<|cY (LP i a t ([]:List ae) ([]:List aa) t.Op t.Name l1.length t.Names t.Pred.Op t.Pred.Name t.Pred.N t.Pred.Kids t.Preds (aS (i+1)) l1 bo17)<|qgo 3 (l18.map ag) [6,7] [] (ct.fz1 (m:=0) (b:=3) rfl l18) (ct.fz2 3 l18) (qhP ag bl18)<|sf (Fr 3 (p:=sl ag ([]:List ae)) (aj ak ([]:List ae)))<|sf (Fr 3 (p:=sl cS ([]:List af)) (aj dN ([]:List af)))<|sf (Fr 3 (p:=sl ac ([]:List aa)) (aj ah ([]:List aa)))<|sf (Fr 3 (p:=sl ac ([]:List aa)) (aj ah ([]:List aa)))<|sf (qhQ ag bl18)<|sf (Fr 3 (p:=sl cS t.Names) (aj dN t.Names))<|sf (Fr 3 (p:=sl ac t.Pred.Kids) (aj ah t.Pred.Kids))<|sf (Fr 3 (p:=sl ac t.Preds) (aj ah t.Preds))<|sv (cX (⟨t.Op,t.Name,l18,t.Names,t.Pred,t.Preds⟩:ae) [])<|sx (ez (⟨t.Op,t.Name,l18,t.Names,t.Pred,t.Preds⟩:ae))<|en (aI (ic (⟨t.Op,t.Name,l18,t.Names,t.Pred,t.Preds⟩:ae))<|(ak (⟨t.Op,t.Name,l18,t.Names,t.Pred,t.Preds⟩:ae)))
  exact bO qhA call59 func59 (c:=qit) rfl (aI (ak t) (aI trivial (aI trivial trivial))) z<|by kernel_rfl
noncomputable def qhI:Code:=f38.body.getD .skip
def qfX:List Nat:=[89,115]
section
variable(i:Int)(tag:Int)(used:waA)(m:aG)(v:ae)(v2:ae)(m2:waB)(m3:waD)
def JN:aC:=be 127 [(3,.int .i64 i),(4,.int .i64 tag),(5,sl cS used),(6,.eptr (aB m)),(7,.eptr (ag v)),(8,.eptr (ag v2)),(12,.bptr 3 0),(14,.str ([120]:af))] [.dead,.dead,.dead,.cells [.int .i64 0,.str ([]:af),.str ([]:af),.int .i64 0,.str ([]:af),.int .i64 0,sl ac m2,.int .i64 0,sl au m3] [(6,36),(8,50)]] []
def rj(o:Bool):aC:=be 127 [(3,.int .i64 i),(4,.int .i64 tag),(5,sl cS used),(6,.eptr (aB m)),(7,.eptr (ag v)),(8,.eptr (ag v2)),(12,.bptr 3 0),(14,.str ([120]:af)),(53,.bool o)] [.dead,.dead,.dead,.cells [.int .i64 0,.str ([]:af),.str ([]:af),.int .i64 0,.str ([]:af),.int .i64 0,sl ac m2,.int .i64 0,sl au m3] [(6,36),(8,50)]] []
def vo:Option Bool:=
 if(decide (i<(v2.Names.length:Int)))=true then
  (cz v2.Names i).bind fun x8=>
  some (!(x8==([]:af)))
 else
  some false
theorem Ij{x:Bool}(h:vo i v2=some x):aV Pg GE 0 (cA qhI 60) (EX .normal (rj i tag used m v v2 m2 m3 x)) (JN i tag used m v v2 m2 m3):=by
 have p7:=fun{sc F} (r:PS sc F)=>sv (aQ v2)<|sv (aR v2)<|cq (bq.ln v2.Names)<|r
 rcases bj h with⟨c6,h⟩|⟨c6,h⟩
 ·obtain⟨x8,bx8,h⟩:=ay h
  obtain rfl:=lf h
  exact cf qfX (p7<|sg 6 c6<|sv (aQ v2)<|sv (aR v2)<|sv (bq.ia (k:=.i64) bx8)<|sv (dB Bg (.str x8) [])<|eF .normal (rj i tag used m v v2 m2 m3 (!(x8==([]:af)))))<|by kernel_rfl
 ·obtain rfl:=lf h
  exact cf qfX (p7<|sg 6 c6<|eF .normal (rj i tag used m v v2 m2 m3 false))<|by kernel_rfl
end
section
variable(i:Int)(tag:Int)(used:waA)(m:aG)(v:ae)(v2:ae)(m2:waB)(m3:waD)
def JM:aC:=be 127 [(3,.int .i64 i),(4,.int .i64 tag),(5,sl cS used),(6,.eptr (aB m)),(7,.eptr (ag v)),(8,.eptr (ag v2)),(12,.bptr 3 0),(14,.str ([120]:af))] [.dead,.dead,.dead,.cells [.int .i64 0,.str ([]:af),.str ([]:af),.int .i64 0,.str ([]:af),.int .i64 0,sl ac m2,.int .i64 0,sl au m3] [(6,36),(8,50)]] []
def ri(o:af):aC:=be 127 [(3,.int .i64 i),(4,.int .i64 tag),(5,sl cS used),(6,.eptr (aB m)),(7,.eptr (ag v)),(8,.eptr (ag v2)),(12,.bptr 3 0),(14,.str o)] [.dead,.dead,.dead,.cells [.int .i64 0,.str ([]:af),.str ([]:af),.int .i64 0,.str ([]:af),.int .i64 0,sl ac m2,.int .i64 0,sl au m3] [(6,36),(8,50)]] []
def pH:Option af:=
 (vo i v2).bind fun o9=>
 if o9=true then
  (cz v2.Names i).bind fun x12=>
  some x12
 else
  some ([120]:af)
theorem Ii{x:af}(h:pH i v2=some x):aV Pg GE 0 (cA qhI 30) (EX .normal (ri i tag used m v v2 m2 m3 x)) (JM i tag used m v v2 m2 m3):=by
 obtain⟨o9,bo9,h⟩:=ay h
 have p11:=fun{sc F} (r:PS sc F)=>ka 0<|cY (Ij i tag used m v v2 m2 m3 bo9)<|r
 rcases bj h with⟨c10,h⟩|⟨c10,h⟩
 ·obtain⟨x12,bx12,h⟩:=ay h
  obtain rfl:=lf h
  exact cf qfX (p11<|sg 0 c10<|sv (aQ v2)<|sv (aR v2)<|sv (bq.ia (k:=.i64) bx12)<|sv (dB Bg (.str x12) [])<|eF .normal (ri i tag used m v v2 m2 m3 x12))<|by kernel_rfl
 ·obtain rfl:=lf h
  exact cf qfX (p11<|sg 0 c10<|eF .normal (ri i tag used m v v2 m2 m3 ([120]:af)))<|by kernel_rfl
end
def rh(R94:nA)(R114:xI)(m:aG)(a:ae)(a2:ae)(i:Int)(tag:Int)(used:waA):Option (ai×Int):=
 if(i==(aS ((a2.Args.length:Int) - 1)))=true then
  (cz a.Args i).bind fun x3=>
  (cz a2.Args i).bind fun x4=>
  (R94 m x3 x4 tag used).bind fun r5=>
  some (r5.1,r5.2)
 else
  (pH i a2).bind fun o13=>
  (AH a2 i ([]:List af)).bind fun r14=>
  (AH a i r14).bind fun r15=>
  (app r15 used).bind fun l16=>
  (sL l16 o13).bind fun r17=>
  (cz a2.Args i).bind fun x18=>
  (cz a.Args i).bind fun x19=>
  (R94 m x18 x19 tag used).bind fun r20=>
  if(r20.2 !=0)=true then
   some ((⟨0,([]:af),([]:af),(⟨0,([]:af),0,([]:List aa)⟩:aa),0,([]:List ai)⟩:ai),r20.2)
  else
   (xD a i r17).bind fun r23=>
   (xD a2 i r17).bind fun r24=>
   (app ([]:List af) used).bind fun l25=>
   (app l25 ([r17]:List af)).bind fun l26=>
   (R114 m r23 r24 (aS (i+1)) tag l26).bind fun r27=>
   if(r27.2 !=0)=true then
    some ((⟨0,([]:af),([]:af),(⟨0,([]:af),0,([]:List aa)⟩:aa),0,([]:List ai)⟩:ai),r27.2)
   else
    (cz a2.Args i).bind fun x30=>
    (AG x30 r17 r27.1).bind fun r31=>
    (JG ([r20.1,r31]:List ai)).bind fun r32=>
    some (r32,0)
theorem LS(R94:nA)(hR94:K7 R94)(R114:xI)(hR114:OP R114){m:aG}{a:ae}{a2:ae}{i:Int}{tag:Int}{used:waA}{r:ai×Int}(h:rh R94 R114 m a a2 i tag used=some r):CC Pg GE 38 [.agg (aB m),.agg (ag a),.agg (ag a2),.int .i64 i,.int .i64 tag,sl cS used] (.tuple [.agg (au r.1),.int .i64 r.2]) []:=by
 have p2:=fun{sc F} (r:PS sc F)=>se (gE m)<|se (bw a)<|se (bw a2)<|sx nK<|sv (aL a2)<|sv (aM a2)<|cq (ct.ln a2.Args)<|r
 rcases bj h with⟨c1,h⟩|⟨c1,h⟩
 ·obtain⟨x3,bx3,h⟩:=ay h
  obtain⟨x4,bx4,h⟩:=ay h
  obtain⟨r5,br5,h⟩:=ay h
  obtain rfl:=lf h
  have z:=p2<|sg 0 c1<|lK [0,0,2,0,14,30,0,64,0,448,960,0,0,8191,16383,16383,65535,131071]<|sv (fa m)<|sv (aL a)<|sv (aM a)<|sv (ct.ia (k:=.i64) bx3)<|sv (aN x3)<|sv (aL a2)<|sv (aM a2)<|sv (ct.ia (k:=.i64) bx4)<|sv (aN x4)<|bz (hR94 _ _ _ _ _ _ br5)<|sx (cj r5.1)<|en (aI (va3 PVal.tuple (fp (ck r5.1) (fp (rP (.int .i64 r5.2)) (rfl:([]:List PVal)=[]))))<|(aI (aX r5.1) (aI trivial trivial)))
  exact bO qfX call38 func38 (c:=qhI) rfl (aI (cu m) (aI (ak a) (aI (ak a2) (aI trivial (aI trivial (aI (aj dN used) trivial)))))) z<|by kernel_rfl
 ·obtain⟨o13,bo13,h⟩:=ay h
  obtain⟨r14,br14,h⟩:=ay h
  obtain⟨r15,br15,h⟩:=ay h
  obtain⟨l16,bl16,h⟩:=ay h
  obtain⟨r17,br17,h⟩:=ay h
  obtain⟨x18,bx18,h⟩:=ay h
  obtain⟨x19,bx19,h⟩:=ay h
  obtain⟨r20,br20,h⟩:=ay h
  have p22:=fun{sc F} (r:PS sc F)=>p2<|sg 0 c1<|ka 1<|cY (Ii i tag used m a a2 ([]:List aa) ([]:List ai) bo13)<|lK [0,0,0,0,12,31,0,127,0,511,1023]<|sv (aN a)<|sv (aN a2)<|si (.cg ⟨[],[.agg (ag a2),.int .i64 i,sl cS ([]:List af)],[⟨2,1000000,0,9⟩],[],[],[],[],sl cS r14,sl cS r14,[(0,9)]⟩) (JO br14)<|sf (aI (xR [] (.agg (ag a2)) (ak a2)) (aI (xR [] (.int .i64 i) trivial) (aI (xR [] (sl cS ([]:List af)) (aj dN ([]:List af))) trivial)))<|sf trivial<|sf trivial<|sf (xR [] (sl cS r14) (aj dN r14))<|si (.cg ⟨[],[.agg (ag a),.int .i64 i,sl cS r14],[⟨2,63,0,9⟩],[],[],[],[],sl cS r15,sl cS r15,[(0,9)]⟩) (JO br15)<|sf (aI (xR [] (.agg (ag a)) (ak a)) (aI (xR [] (.int .i64 i) trivial) (aI (xR [] (sl cS r14) (aj dN r14)) trivial)))<|sf trivial<|sf trivial<|sf (xR [] (sl cS r15) (aj dN r15))<|sv (bq.ap bl16)<|bz (Bu br17)<|lK [0,0,2,0,14,30,0,64,0,448,960,0,0,8191,16383,32767,32767,0,196607,524287]<|sv (fa m)<|sv (aL a2)<|sv (aM a2)<|sv (ct.ia (k:=.i64) bx18)<|sv (aN x18)<|sv (aL a)<|sv (aM a)<|sv (ct.ia (k:=.i64) bx19)<|sv (aN x19)<|bz (hR94 _ _ _ _ _ _ br20)<|sx (cj r20.1)<|r
  rcases bj h with⟨c21,h⟩|⟨c21,h⟩
  ·obtain rfl:=lf h
   have z:=p22<|sg 0 c21<|sb (pZ) (pY)<|sy (bM (⟨0,([]:af),([]:af),(⟨0,([]:af),0,([]:List aa)⟩:aa),0,([]:List ai)⟩:ai))<|en (aI (va3 PVal.tuple (fp (ck (⟨0,([]:af),([]:af),(⟨0,([]:af),0,([]:List aa)⟩:aa),0,([]:List ai)⟩:ai)) (fp (rP (.int .i64 r20.2)) (rfl:([]:List PVal)=[]))))<|(aI (aX (⟨0,([]:af),([]:af),(⟨0,([]:af),0,([]:List aa)⟩:aa),0,([]:List ai)⟩:ai)) (aI trivial trivial)))
   exact bO qfX call38 func38 (c:=qhI) rfl (aI (cu m) (aI (ak a) (aI (ak a2) (aI trivial (aI trivial (aI (aj dN used) trivial)))))) z<|by kernel_rfl
  ·obtain⟨r23,br23,h⟩:=ay h
   obtain⟨r24,br24,h⟩:=ay h
   obtain⟨l25,bl25,h⟩:=ay h
   obtain⟨l26,bl26,h⟩:=ay h
   obtain⟨r27,br27,h⟩:=ay h
   have p29:=fun{sc F} (r:PS sc F)=>p22<|sg 0 c21<|lK [0,0,0,0,14,0,0,0,254,0,512,0,0,0,12798,0,32768,127486,262143,524287,1048575,1048575,0,6291455,16777215]<|sv (fa m)<|sv (aN a)<|bz (Hl br23)<|sv (aN a2)<|bz (Hl br24)<|sv (bq.mk' (v:=PVal.str) Fs ([]:List af) 0 (by kernel_rfl))<|sv (bq.ap bl25)<|sv (bq.mk' (v:=PVal.str) Fs ([r17]:List af) 1 (by kernel_rfl))<|sv (bq.ap bl26)<|bz (hR114 _ _ _ _ _ _ _ br27)<|sx (cj r27.1)<|r
   rcases bj h with⟨c28,h⟩|⟨c28,h⟩
   ·obtain rfl:=lf h
    have z:=p29<|sg 0 c28<|sb (pZ) (pY)<|sy (bM (⟨0,([]:af),([]:af),(⟨0,([]:af),0,([]:List aa)⟩:aa),0,([]:List ai)⟩:ai))<|en (aI (va3 PVal.tuple (fp (ck (⟨0,([]:af),([]:af),(⟨0,([]:af),0,([]:List aa)⟩:aa),0,([]:List ai)⟩:ai)) (fp (rP (.int .i64 r27.2)) (rfl:([]:List PVal)=[]))))<|(aI (aX (⟨0,([]:af),([]:af),(⟨0,([]:af),0,([]:List aa)⟩:aa),0,([]:List ai)⟩:ai)) (aI trivial trivial)))
    exact bO qfX call38 func38 (c:=qhI) rfl (aI (cu m) (aI (ak a) (aI (ak a2) (aI trivial (aI trivial (aI (aj dN used) trivial)))))) z<|by kernel_rfl
   ·obtain⟨x30,bx30,h⟩:=ay h
    obtain⟨r31,br31,h⟩:=ay h
    obtain⟨r32,br32,h⟩:=ay h
    obtain rfl:=lf h
    have z:=p29<|sg 0 c28<|lK [0,0,2,0,14,30,0,0,254,511,1023,2047,4095]<|sv (dA r20.1 [])<|sv (aL a2)<|sv (aM a2)<|sv (ct.ia (k:=.i64) bx30)<|sv (aN x30)<|sv (dA r27.1 [])<|bz (EY br31)<|sv (lQ.mk' (v:=jF) fM ([r20.1,r31]:List ai) 2 (by kernel_rfl))<|bz (Ig br32)<|qcq (cj r32)<|en (aI (va3 PVal.tuple (fp (ck r32) (fp (rP (.int .i64 0)) (rfl:([]:List PVal)=[]))))<|(aI (aX r32) (aI trivial trivial)))
    exact bO qfX call38 func38 (c:=qhI) rfl (aI (cu m) (aI (ak a) (aI (ak a2) (aI trivial (aI trivial (aI (aj dN used) trivial)))))) z<|by kernel_rfl
def xF(R94:nA):((aG×ae×ae×Int×Int×waA)->Option (ai×Int))->(aG×ae×ae×Int×Int×waA)->Option (ai×Int):=fun(rec:(aG×ae×ae×Int×Int×waA)->Option (ai×Int)) (x:aG×ae×ae×Int×Int×waA)=>rh R94 (fun m a a2 i tag used=>rec (m,a,a2,i,tag,used)) x.1 x.2.1 x.2.2.1 x.2.2.2.1 x.2.2.2.2.1 x.2.2.2.2.2
def Cc(R94:nA)(m:aG)(a:ae)(a2:ae)(i:Int)(tag:Int)(used:waA):Option (ai×Int):=kK (xF R94) (m,a,a2,i,tag,used)
theorem N6(R94:nA)(hR94:K7 R94){m:aG}{a:ae}{a2:ae}{i:Int}{tag:Int}{used:waA}{r:ai×Int}(h:Cc R94 m a a2 i tag used=some r):CC Pg GE 38 [.agg (aB m),.agg (ag a),.agg (ag a2),.int .i64 i,.int .i64 tag,sl cS used] (.tuple [.agg (au r.1),.int .i64 r.2]) []:=
 cG (F:=xF R94) (M:=fun(x:aG×ae×ae×Int×Int×waA) (r:ai×Int)=>CC Pg GE 38 [.agg (aB x.1),.agg (ag x.2.1),.agg (ag x.2.2.1),.int .i64 x.2.2.2.1,.int .i64 x.2.2.2.2.1,sl cS x.2.2.2.2.2] (.tuple [.agg (au r.1),.int .i64 r.2]) []) (fun rec hrec x r h=>LS R94 hR94 _ (fun m a a2 i tag used r h=>hrec (m,a,a2,i,tag,used) r h) h) h
noncomputable def qio:Code:=f13.body.getD .skip
def qhw:List Nat:=[]
section
variable(tag:Int)(used:waA)(m:aG)(v:ae)(v2:ae)(m2:waB)(m3:waD)
def U0:aC:=be 46 [(3,.int .i64 tag),(4,sl cS used),(5,.eptr (aB m)),(6,.eptr (ag v)),(7,.eptr (ag v2)),(10,.bptr 3 0)] [.dead,.dead,.dead,.cells [.int .i64 0,.str ([]:af),.str ([]:af),.int .i64 0,.str ([]:af),.int .i64 0,sl ac m2,.int .i64 0,sl au m3] [(6,36),(8,50)]] []
def Cb(o:Bool):aC:=be 46 [(3,.int .i64 tag),(4,sl cS used),(5,.eptr (aB m)),(6,.eptr (ag v)),(7,.eptr (ag v2)),(10,.bptr 3 0),(27,.bool o)] [.dead,.dead,.dead,.cells [.int .i64 0,.str ([]:af),.str ([]:af),.int .i64 0,.str ([]:af),.int .i64 0,sl ac m2,.int .i64 0,sl au m3] [(6,36),(8,50)]] []
def Ih:Option Bool:=
 if(v.Op==6)=true then
  some (decide ((v.Args.length:Int)>0))
 else
  some false
theorem Sq{x:Bool}(h:Ih v=some x):aV Pg GE 0 (cA qio 446) (EX .normal (Cb tag used m v v2 m2 m3 x)) (U0 tag used m v v2 m2 m3):=by
 have p9:=fun{sc F} (r:PS sc F)=>sv (aD v)<|sv (aE v)<|r
 rcases bj h with⟨c8,h⟩|⟨c8,h⟩
 ·obtain rfl:=lf h
  exact cf qhw (p9<|sg 4 c8<|sv (aL v)<|sv (aM v)<|cq (ct.ln v.Args)<|eF .normal (Cb tag used m v v2 m2 m3 (decide ((v.Args.length:Int)>0))))<|by kernel_rfl
 ·obtain rfl:=lf h
  exact cf qhw (p9<|sg 4 c8<|eF .normal (Cb tag used m v v2 m2 m3 false))<|by kernel_rfl
end
def wB(R94:nA)(m:aG)(a:ae)(a2:ae)(tag:Int)(used:waA):Option (ai×Int):=
 (Pf a a2).bind fun r1=>
 if(!r1)=true then
  some ((⟨0,([]:af),([]:af),(⟨0,([]:af),0,([]:List aa)⟩:aa),0,([]:List ai)⟩:ai),12)
 else
  (EV a).bind fun r4=>
  if r4=true then
   (JJ m a a2 tag used).bind fun r7=>
   some (r7,0)
  else
   (Ih a).bind fun o10=>
   if o10=true then
    (Cc R94 m a a2 0 tag used).bind fun r13=>
    some (r13.1,r13.2)
   else
    some ((⟨1,([]:af),([]:af),(⟨0,([]:af),0,([]:List aa)⟩:aa),0,([]:List ai)⟩:ai),0)
theorem WT(R94:nA)(hR94:K7 R94){m:aG}{a:ae}{a2:ae}{tag:Int}{used:waA}{r:ai×Int}(h:wB R94 m a a2 tag used=some r):CC Pg GE 13 [.agg (aB m),.agg (ag a),.agg (ag a2),.int .i64 tag,sl cS used] (.tuple [.agg (au r.1),.int .i64 r.2]) []:=by
 obtain⟨r1,br1,h⟩:=ay h
 have p3:=fun{sc F} (r:PS sc F)=>se (gE m)<|se (bw a)<|se (bw a2)<|sx nK<|sv (aN a)<|sv (aN a2)<|bz (WI br1)<|r
 rcases bj h with⟨c2,h⟩|⟨c2,h⟩
 ·obtain rfl:=lf h
  have z:=p3<|sg 0 c2<|sb (pZ) (pY)<|sy (bM (⟨0,([]:af),([]:af),(⟨0,([]:af),0,([]:List aa)⟩:aa),0,([]:List ai)⟩:ai))<|en (aI (va3 PVal.tuple (fp (ck (⟨0,([]:af),([]:af),(⟨0,([]:af),0,([]:List aa)⟩:aa),0,([]:List ai)⟩:ai)) (fp (rP (.int .i64 12)) (rfl:([]:List PVal)=[]))))<|(aI (aX (⟨0,([]:af),([]:af),(⟨0,([]:af),0,([]:List aa)⟩:aa),0,([]:List ai)⟩:ai)) (aI trivial trivial)))
  exact bO qhw call13 func13 (c:=qio) rfl (aI (cu m) (aI (ak a) (aI (ak a2) (aI trivial (aI (aj dN used) trivial))))) z<|by kernel_rfl
 ·obtain⟨r4,br4,h⟩:=ay h
  have p6:=fun{sc F} (r:PS sc F)=>p3<|sg 0 c2<|sv (aN a)<|bz (EW br4)<|r
  rcases bj h with⟨c5,h⟩|⟨c5,h⟩
  ·obtain⟨r7,br7,h⟩:=ay h
   obtain rfl:=lf h
   have z:=p6<|sg 0 c5<|sv (fa m)<|sv (aN a)<|sv (aN a2)<|bz (WU br7)<|sx (cj r7)<|en (aI (va3 PVal.tuple (fp (ck r7) (fp (rP (.int .i64 0)) (rfl:([]:List PVal)=[]))))<|(aI (aX r7) (aI trivial trivial)))
   exact bO qhw call13 func13 (c:=qio) rfl (aI (cu m) (aI (ak a) (aI (ak a2) (aI trivial (aI (aj dN used) trivial))))) z<|by kernel_rfl
  ·obtain⟨o10,bo10,h⟩:=ay h
   have p12:=fun{sc F} (r:PS sc F)=>p6<|sg 0 c5<|ka 0<|cY (Sq tag used m a a2 ([]:List aa) ([]:List ai) bo10)<|r
   rcases bj h with⟨c11,h⟩|⟨c11,h⟩
   ·obtain⟨r13,br13,h⟩:=ay h
    obtain rfl:=lf h
    have z:=p12<|sg 0 c11<|sv (fa m)<|sv (aN a)<|sv (aN a2)<|bz (N6 R94 hR94 br13)<|sx (cj r13.1)<|en (aI (va3 PVal.tuple (fp (ck r13.1) (fp (rP (.int .i64 r13.2)) (rfl:([]:List PVal)=[]))))<|(aI (aX r13.1) (aI trivial trivial)))
    exact bO qhw call13 func13 (c:=qio) rfl (aI (cu m) (aI (ak a) (aI (ak a2) (aI trivial (aI (aj dN used) trivial))))) z<|by kernel_rfl
   ·obtain rfl:=lf h
    have z:=p12<|sg 0 c11<|sb (xN 1) (xM 1)<|sy (bM (⟨1,([]:af),([]:af),(⟨0,([]:af),0,([]:List aa)⟩:aa),0,([]:List ai)⟩:ai))<|en (aI (va3 PVal.tuple (fp (ck (⟨1,([]:af),([]:af),(⟨0,([]:af),0,([]:List aa)⟩:aa),0,([]:List ai)⟩:ai)) (fp (rP (.int .i64 0)) (rfl:([]:List PVal)=[]))))<|(aI (aX (⟨1,([]:af),([]:af),(⟨0,([]:af),0,([]:List aa)⟩:aa),0,([]:List ai)⟩:ai)) (aI trivial trivial)))
    exact bO qhw call13 func13 (c:=qio) rfl (aI (cu m) (aI (ak a) (aI (ak a2) (aI trivial (aI (aj dN used) trivial))))) z<|by kernel_rfl
def Gb:((aG×ae×ae×Int×waA)->Option (ai×Int))->(aG×ae×ae×Int×waA)->Option (ai×Int):=fun(rec:(aG×ae×ae×Int×waA)->Option (ai×Int)) (x:aG×ae×ae×Int×waA)=>wB (fun m a a2 tag used=>rec (m,a,a2,tag,used)) x.1 x.2.1 x.2.2.1 x.2.2.2.1 x.2.2.2.2
def JI(m:aG)(a:ae)(a2:ae)(tag:Int)(used:waA):Option (ai×Int):=kK Gb (m,a,a2,tag,used)
theorem PR{m:aG}{a:ae}{a2:ae}{tag:Int}{used:waA}{r:ai×Int}(h:JI m a a2 tag used=some r):CC Pg GE 13 [.agg (aB m),.agg (ag a),.agg (ag a2),.int .i64 tag,sl cS used] (.tuple [.agg (au r.1),.int .i64 r.2]) []:=
 cG (F:=Gb) (M:=fun(x:aG×ae×ae×Int×waA) (r:ai×Int)=>CC Pg GE 13 [.agg (aB x.1),.agg (ag x.2.1),.agg (ag x.2.2.1),.int .i64 x.2.2.2.1,sl cS x.2.2.2.2] (.tuple [.agg (au r.1),.int .i64 r.2]) []) (fun rec hrec x r h=>WT _ (fun m a a2 tag used r h=>hrec (m,a,a2,tag,used) r h) h) h
abbrev rm:=(ai->ai->Option Bool)
abbrev wL(R:rm):Prop:=∀(a:ai) (a2:ai) (r:Bool),R a a2=some r->CC Pg GE 14 [.agg (au a),.agg (au a2)] (.bool r) []
noncomputable def qhE:Code:=f14.body.getD .skip
def qcn:List Nat:=[]
section
variable(v:ai)(v2:ai)
def JE:aC:=be 68 [(2,.eptr (au v)),(3,.eptr (au v2))] [.dead,.dead] []
def eX(o:Bool):aC:=be 68 [(2,.eptr (au v)),(3,.eptr (au v2)),(48,.bool o)] [.dead,.dead] []
def vb:Option Bool:=
 if(v.Op !=v2.Op)=true then
  some true
 else
  if(!(v.Name==v2.Name))=true then
   some true
  else
   if(!(v.Sort_==v2.Sort_))=true then
    some true
   else
    if(v.Tag !=v2.Tag)=true then
     some true
    else
     (qT v.Pred v2.Pred).bind fun r9=>
     if(!r9)=true then
      some true
     else
      some ((v.Kids.length:Int)!=(v2.Kids.length:Int))
theorem Ie{x:Bool}(h:vb v v2=some x):aV Pg GE 0 (cA qhE 12) (EX .normal (eX v v2 x)) (JE v v2):=by
 have p2:=fun{sc F} (r:PS sc F)=>sv (pj v)<|sv (pq v)<|sv (pj v2)<|sv (pq v2)<|r
 rcases bj h with⟨c1,h⟩|⟨c1,h⟩
 ·obtain rfl:=lf h
  exact cf qcn (p2<|sg 6 c1<|eF .normal (eX v v2 true))<|by kernel_rfl
 ·have p4:=fun{sc F} (r:PS sc F)=>p2<|sg 6 c1<|sv (tS v)<|sv (wt v)<|sv (tS v2)<|sv (wt v2)<|r
  rcases bj h with⟨c3,h⟩|⟨c3,h⟩
  ·obtain rfl:=lf h
   exact cf qcn (p4<|sg 13 c3<|eF .normal (eX v v2 true))<|by kernel_rfl
  ·have p6:=fun{sc F} (r:PS sc F)=>p4<|sg 13 c3<|sv (Aa v)<|sv (Ag v)<|sv (Aa v2)<|sv (Ag v2)<|r
   rcases bj h with⟨c5,h⟩|⟨c5,h⟩
   ·obtain rfl:=lf h
    exact cf qcn (p6<|sg 20 c5<|eF .normal (eX v v2 true))<|by kernel_rfl
   ·have p8:=fun{sc F} (r:PS sc F)=>p6<|sg 20 c5<|sv (Ab v)<|sv (CJ v)<|sv (Ab v2)<|sv (CJ v2)<|r
    rcases bj h with⟨c7,h⟩|⟨c7,h⟩
    ·obtain rfl:=lf h
     exact cf qcn (p8<|sg 27 c7<|eF .normal (eX v v2 true))<|by kernel_rfl
    ·obtain⟨r9,br9,h⟩:=ay h
     have p11:=fun{sc F} (r:PS sc F)=>p8<|sg 27 c7<|sv (pk v)<|sv (pr v)<|sv (pk v2)<|sv (pr v2)<|bz (uj br9)<|r
     rcases bj h with⟨c10,h⟩|⟨c10,h⟩
     ·obtain rfl:=lf h
      exact cf qcn (p11<|sg 35 c10<|eF .normal (eX v v2 true))<|by kernel_rfl
     ·obtain rfl:=lf h
      exact cf qcn (p11<|sg 35 c10<|sv (jm v)<|sv (jo v)<|cq (lQ.ln v.Kids)<|sv (jm v2)<|sv (jo v2)<|cq (lQ.ln v2.Kids)<|eF .normal (eX v v2 ((v.Kids.length:Int)!=(v2.Kids.length:Int))))<|by kernel_rfl
end
section
variable(R129:rm)(v:ai)(v2:ai)(i:Int)
def iW:aC:=be 68 [(2,.eptr (au v)),(3,.eptr (au v2)),(5,.int .i64 i)] [.dead,.dead] []
def iY(o:Unit⊕(Unit)):Exit:=match o with
 |(.inl _)=>.ret
 |(.inr _)=>.exit 0
def gu(o:Unit⊕(Unit)):aC:=match o with
 |(.inl o)=>be 68 [(4,.bool false)] [.dead,.dead] []
 |(.inr o)=>be 68 [] [.dead,.dead] []
def iX:Option (Int⊕(Unit⊕(Unit))):=
 if(decide (i<(v.Kids.length:Int)))=true then
  (cz v.Kids i).bind fun x17=>
  (cz v2.Kids i).bind fun x18=>
  (R129 x17 x18).bind fun r19=>
  if(!r19)=true then
   some (.inr (.inl ()))
  else
   some (.inl (aS (i+1)))
 else
  some (.inr (.inr ()))
def vd:Option (Unit⊕(Unit)):=loop (fun(zz:Int)=>iX R129 v v2 zz) i
theorem GU(hR129:wL R129){y:Int⊕(Unit⊕(Unit))}(h:iX R129 v v2 i=some y):aV Pg GE 0 (cA qhE 119) (LQ (fun(zz:Int)=>iW v v2 zz) iY gu y) (iW v v2 i):=by
 have p16:=fun{sc F} (r:PS sc F)=>sv (jm v)<|sv (jo v)<|cq (lQ.ln v.Kids)<|r
 rcases bj h with⟨c15,h⟩|⟨c15,h⟩
 ·obtain⟨x17,bx17,h⟩:=ay h
  obtain⟨x18,bx18,h⟩:=ay h
  obtain⟨r19,br19,h⟩:=ay h
  have p21:=fun{sc F} (r:PS sc F)=>p16<|sg 0 c15<|lK [0,1,0,7,15,0,32,0,224,480,1023,2047]<|sv (jm v)<|sv (jo v)<|sv (lQ.ia (k:=.i64) bx17)<|sv (ja x17)<|sv (jm v2)<|sv (jo v2)<|sv (lQ.ia (k:=.i64) bx18)<|sv (ja x18)<|bz (hR129 _ _ _ br19)<|r
  rcases bj h with⟨c20,h⟩|⟨c20,h⟩
  ·obtain rfl:=lf h
   have z:=p21<|sg 0 c20<|eF (iY (.inl ())) (gu (.inl ()))
   exact gg qcn (by intro hx;cases hx) z<|by kernel_rfl
  ·obtain rfl:=lf h
   exact oo qcn (p21<|sg 0 c20<|eF .normal (iW v v2 (aS (i+1))))<|by kernel_rfl
 ·obtain rfl:=lf h
  have z:=p16<|sg 0 c15<|eF (iY (.inr ())) (gu (.inr ()))
  exact gg qcn (by intro hx;cases hx) z<|by kernel_rfl
theorem xC(hR129:wL R129){x:Unit⊕(Unit)}(h:vd R129 v v2 i=some x):aV Pg GE 0 (.loop (cA qhE 119)) (EX (iY x) (gu x)) (iW v v2 i):=
 aV.loop (S:=fun(zz:Int)=>iW v v2 zz) (ex:=iY) (s:=i) h fun zz y hy=>GU R129 v v2 zz hR129 hy
end
def rf(R129:rm)(a:ai)(a2:ai):Option Bool:=
 (vb a a2).bind fun o12=>
 if o12=true then
  some false
 else
  (vd R129 a a2 0).bind fun o22=>match o22 with
  |(.inl o22)=>
   some false
  |(.inr o22)=>
   some true
theorem LM(R129:rm)(hR129:wL R129){a:ai}{a2:ai}{r:Bool}(h:rf R129 a a2=some r):CC Pg GE 14 [.agg (au a),.agg (au a2)] (.bool r) []:=by
 obtain⟨o12,bo12,h⟩:=ay h
 have p14:=fun{sc F} (r:PS sc F)=>se (rN a)<|se (rN a2)<|ka 1<|cY (Ie a a2 bo12)<|r
 rcases bj h with⟨c13,h⟩|⟨c13,h⟩
 ·obtain rfl:=lf h
  have z:=p14<|sg 0 c13<|en (aI (rP (.bool false))<|trivial)
  exact bO qcn call14 func14 (c:=qhE) rfl (aI (aX a) (aI (aX a2) trivial)) z<|by kernel_rfl
 ·obtain⟨o22,bo22,h⟩:=ay h
  rcases o22 with o22|o22
  ·obtain rfl:=lf h
   have z:=p14<|sg 0 c13<|cY (e:=.ret) (s1:=gu (.inl o22)) (xC R129 a a2 0 hR129 bo22)<|en (aI (rP (.bool false))<|trivial)
   exact bO qcn call14 func14 (c:=qhE) rfl (aI (aX a) (aI (aX a2) trivial)) z<|by kernel_rfl
  ·obtain rfl:=lf h
   have z:=p14<|sg 0 c13<|cY (e:=.exit 0) (s1:=gu (.inr o22)) (xC R129 a a2 0 hR129 bo22)<|en (aI (rP (.bool true))<|trivial)
   exact bO qcn call14 func14 (c:=qhE) rfl (aI (aX a) (aI (aX a2) trivial)) z<|by kernel_rfl
def xB:((ai×ai)->Option Bool)->(ai×ai)->Option Bool:=fun(rec:(ai×ai)->Option Bool) (x:ai×ai)=>rf (fun a a2=>rec (a,a2)) x.1 x.2
def wj(a:ai)(a2:ai):Option Bool:=kK xB (a,a2)
theorem C9{a:ai}{a2:ai}{r:Bool}(h:wj a a2=some r):CC Pg GE 14 [.agg (au a),.agg (au a2)] (.bool r) []:=
 cG (F:=xB) (M:=fun(x:ai×ai) (r:Bool)=>CC Pg GE 14 [.agg (au x.1),.agg (au x.2)] (.bool r) []) (fun rec hrec x r h=>LM _ (fun a a2 r h=>hrec (a,a2) r h) h) h
section
variable(used:waA)(m:aG)(v:aJ)
def nN:Option Bool:=
 (AA m).bind fun r1=>
 if(!r1)=true then
  some true
 else
  (s9 v.A).bind fun r4=>
  if(!r4)=true then
   some true
  else
   (s9 v.B).bind fun r7=>
   if(!r7)=true then
    some true
   else
    (JS used).bind fun r10=>
    if(!r10)=true then
     some true
    else
     (AI v).bind fun r13=>
     some (!r13)
end
noncomputable def qk8:Code:=f21.body.getD .skip
def qkY:List Nat:=[25]
def uc(m:aG)(a:ae)(a2:ae)(used:waA):Option (ai×Int):=
 (kg m a a2 0 used).bind fun r1=>
 if(r1.2 !=0)=true then
  some ((⟨0,([]:af),([]:af),(⟨0,([]:af),0,([]:List aa)⟩:aa),0,([]:List ai)⟩:ai),r1.2)
 else
  (kg m a2 a 0 used).bind fun r4=>
  (mN ([r1.1,r4.1]:List ai)).bind fun r5=>
  some (r5,0)
theorem Mx{m:aG}{a:ae}{a2:ae}{used:waA}{r:ai×Int}(h:uc m a a2 used=some r):CC Pg GE 21 [.agg (aB m),.agg (ag a),.agg (ag a2),sl cS used] (.tuple [.agg (au r.1),.int .i64 r.2]) []:=by
 obtain⟨r1,br1,h⟩:=ay h
 have p3:=fun{sc F} (r:PS sc F)=>se (gE m)<|se (bw a)<|se (bw a2)<|sx nK<|sv (fa m)<|sv (aN a)<|sv (aN a2)<|bz (ni br1)<|sx nK<|sx (cj r1.1)<|r
 rcases bj h with⟨c2,h⟩|⟨c2,h⟩
 ·obtain rfl:=lf h
  have z:=p3<|sg 0 c2<|sb (pZ) (pY)<|sy (bM (⟨0,([]:af),([]:af),(⟨0,([]:af),0,([]:List aa)⟩:aa),0,([]:List ai)⟩:ai))<|en (aI (va3 PVal.tuple (fp (ck (⟨0,([]:af),([]:af),(⟨0,([]:af),0,([]:List aa)⟩:aa),0,([]:List ai)⟩:ai)) (fp (rP (.int .i64 r1.2)) (rfl:([]:List PVal)=[]))))<|(aI (aX (⟨0,([]:af),([]:af),(⟨0,([]:af),0,([]:List aa)⟩:aa),0,([]:List ai)⟩:ai)) (aI trivial trivial)))
  exact bO qkY call21 func21 (c:=qk8) rfl (aI (cu m) (aI (ak a) (aI (ak a2) (aI (aj dN used) trivial)))) z<|by kernel_rfl
 ·obtain⟨r4,br4,h⟩:=ay h
  obtain⟨r5,br5,h⟩:=ay h
  obtain rfl:=lf h
  have z:=p3<|sg 0 c2<|sv (fa m)<|sv (aN a2)<|sv (aN a)<|bz (ni br4)<|sx nK<|sx (cj r4.1)<|sv (dA r1.1 [])<|sv (dA r4.1 [])<|sv (lQ.mk' (v:=jF) fM ([r1.1,r4.1]:List ai) 2 (by kernel_rfl))<|bz (rD br5)<|sy (bM r5)<|en (aI (va3 PVal.tuple (fp (ck r5) (fp (rP (.int .i64 0)) (rfl:([]:List PVal)=[]))))<|(aI (aX r5) (aI trivial trivial)))
  exact bO qkY call21 func21 (c:=qk8) rfl (aI (cu m) (aI (ak a) (aI (ak a2) (aI (aj dN used) trivial)))) z<|by kernel_rfl
noncomputable def qkh:Code:=f22.body.getD .skip
def qjY:List Nat:=[24,36]
def Ga(m:aG)(a:ae)(a2:ae)(used:waA):Option (ai×Int):=
 (JI m a a2 0 used).bind fun r1=>
 if(r1.2 !=0)=true then
  some ((⟨0,([]:af),([]:af),(⟨0,([]:af),0,([]:List aa)⟩:aa),0,([]:List ai)⟩:ai),r1.2)
 else
  (JI m a2 a 0 used).bind fun r4=>
  if(r4.2 !=0)=true then
   some ((⟨0,([]:af),([]:af),(⟨0,([]:af),0,([]:List aa)⟩:aa),0,([]:List ai)⟩:ai),r4.2)
  else
   (JG ([r1.1,r4.1]:List ai)).bind fun r7=>
   some (r7,0)
theorem UZ{m:aG}{a:ae}{a2:ae}{used:waA}{r:ai×Int}(h:Ga m a a2 used=some r):CC Pg GE 22 [.agg (aB m),.agg (ag a),.agg (ag a2),sl cS used] (.tuple [.agg (au r.1),.int .i64 r.2]) []:=by
 obtain⟨r1,br1,h⟩:=ay h
 have p3:=fun{sc F} (r:PS sc F)=>se (gE m)<|se (bw a)<|se (bw a2)<|sx nK<|sv (fa m)<|sv (aN a)<|sv (aN a2)<|bz (PR br1)<|sx nK<|sx (cj r1.1)<|r
 rcases bj h with⟨c2,h⟩|⟨c2,h⟩
 ·obtain rfl:=lf h
  have z:=p3<|sg 0 c2<|sb (pZ) (pY)<|sy (bM (⟨0,([]:af),([]:af),(⟨0,([]:af),0,([]:List aa)⟩:aa),0,([]:List ai)⟩:ai))<|en (aI (va3 PVal.tuple (fp (ck (⟨0,([]:af),([]:af),(⟨0,([]:af),0,([]:List aa)⟩:aa),0,([]:List ai)⟩:ai)) (fp (rP (.int .i64 r1.2)) (rfl:([]:List PVal)=[]))))<|(aI (aX (⟨0,([]:af),([]:af),(⟨0,([]:af),0,([]:List aa)⟩:aa),0,([]:List ai)⟩:ai)) (aI trivial trivial)))
  exact bO qjY call22 func22 (c:=qkh) rfl (aI (cu m) (aI (ak a) (aI (ak a2) (aI (aj dN used) trivial)))) z<|by kernel_rfl
 ·obtain⟨r4,br4,h⟩:=ay h
  have p6:=fun{sc F} (r:PS sc F)=>p3<|sg 0 c2<|sv (fa m)<|sv (aN a2)<|sv (aN a)<|bz (PR br4)<|sx nK<|sx (cj r4.1)<|r
  rcases bj h with⟨c5,h⟩|⟨c5,h⟩
  ·obtain rfl:=lf h
   have z:=p6<|sg 0 c5<|sb (pZ) (pY)<|sy (bM (⟨0,([]:af),([]:af),(⟨0,([]:af),0,([]:List aa)⟩:aa),0,([]:List ai)⟩:ai))<|en (aI (va3 PVal.tuple (fp (ck (⟨0,([]:af),([]:af),(⟨0,([]:af),0,([]:List aa)⟩:aa),0,([]:List ai)⟩:ai)) (fp (rP (.int .i64 r4.2)) (rfl:([]:List PVal)=[]))))<|(aI (aX (⟨0,([]:af),([]:af),(⟨0,([]:af),0,([]:List aa)⟩:aa),0,([]:List ai)⟩:ai)) (aI trivial trivial)))
   exact bO qjY call22 func22 (c:=qkh) rfl (aI (cu m) (aI (ak a) (aI (ak a2) (aI (aj dN used) trivial)))) z<|by kernel_rfl
  ·obtain⟨r7,br7,h⟩:=ay h
   obtain rfl:=lf h
   have z:=p6<|sg 0 c5<|sv (dA r1.1 [])<|sv (dA r4.1 [])<|sv (lQ.mk' (v:=jF) fM ([r1.1,r4.1]:List ai) 2 (by kernel_rfl))<|bz (Ig br7)<|sy (bM r7)<|en (aI (va3 PVal.tuple (fp (ck r7) (fp (rP (.int .i64 0)) (rfl:([]:List PVal)=[]))))<|(aI (aX r7) (aI trivial trivial)))
   exact bO qjY call22 func22 (c:=qkh) rfl (aI (cu m) (aI (ak a) (aI (ak a2) (aI (aj dN used) trivial)))) z<|by kernel_rfl
noncomputable def b6:Code:=Tryz.f6.body.getD .skip
def A6:List Nat:=[]
section
variable(used:waA)(m:aG)(v:aJ)
def Dr:aC:=be 103 [(2,sl cS used),(3,.eptr (aB m)),(4,.eptr (az v))] [.dead,.dead] []
def ew(o:Bool):aC:=be 103 [(2,sl cS used),(3,.eptr (aB m)),(4,.eptr (az v)),(37,.bool o)] [.dead,.dead] []
def nZ:Option Bool:=
 (AA m).bind fun r1=>
 if(!r1)=true then
  some true
 else
  (s9 v.A).bind fun r4=>
  if(!r4)=true then
   some true
  else
   (s9 v.B).bind fun r7=>
   if(!r7)=true then
    some true
   else
    (JS used).bind fun r10=>
    if(!r10)=true then
     some true
    else
     (AI v).bind fun r13=>
     some (!r13)
theorem Cm{x:Bool}(h:nZ used m v=some x):aV Pg GE 0 (cA b6 12) (EX .normal (ew used m v x)) (Dr used m v):=by
 obtain⟨r1,br1,h⟩:=ay h
 have p3:=fun{sc F} (r:PS sc F)=>sv (fa m)<|bz (US br1)<|r
 rcases bj h with⟨c2,h⟩|⟨c2,h⟩
 ·obtain rfl:=lf h
  exact cf A6 (p3<|sg 4 c2<|eF .normal (ew used m v true))<|by kernel_rfl
 ·obtain⟨r4,br4,h⟩:=ay h
  have p6:=fun{sc F} (r:PS sc F)=>p3<|sg 4 c2<|sv (bZ v)<|sv (ca v)<|bz (JT br4)<|r
  rcases bj h with⟨c5,h⟩|⟨c5,h⟩
  ·obtain rfl:=lf h
   exact cf A6 (p6<|sg 10 c5<|eF .normal (ew used m v true))<|by kernel_rfl
  ·obtain⟨r7,br7,h⟩:=ay h
   have p9:=fun{sc F} (r:PS sc F)=>p6<|sg 10 c5<|sv (dK v)<|sv (eu v)<|bz (JT br7)<|r
   rcases bj h with⟨c8,h⟩|⟨c8,h⟩
   ·obtain rfl:=lf h
    exact cf A6 (p9<|sg 16 c8<|eF .normal (ew used m v true))<|by kernel_rfl
   ·obtain⟨r10,br10,h⟩:=ay h
    have p12:=fun{sc F} (r:PS sc F)=>p9<|sg 16 c8<|bz (YC br10)<|r
    rcases bj h with⟨c11,h⟩|⟨c11,h⟩
    ·obtain rfl:=lf h
     exact cf A6 (p12<|sg 21 c11<|eF .normal (ew used m v true))<|by kernel_rfl
    ·obtain⟨r13,br13,h⟩:=ay h
     obtain rfl:=lf h
     exact cf A6 (p12<|sg 21 c11<|sv (Ai v)<|bz (U2 br13)<|eF .normal (ew used m v (!r13)))<|by kernel_rfl
end
section
variable(used:waA)(v:aJ)(e:Int)(f:Int)(m:Int)(m2:af)(m3:af)(m4:Int)(m5:af)(m6:Int)(m7:waB)(m8:Int)(m9:waD)(m10:Int)(m11:af)(m12:af)(m13:Int)(m14:af)(m15:Int)(m16:waB)(m17:Int)(m18:waD)
def Ds:aC:=be 103 [(2,sl cS used),(4,.eptr (az v)),(7,.bptr 2 0),(8,.int .i64 e),(9,.bptr 3 0),(10,.int .i64 f)] [.dead,.dead,.cells [.int .i64 m,.str m2,.str m3,.int .i64 m4,.str m5,.int .i64 m6,sl ac m7,.int .i64 m8,sl au m9] [],.cells [.int .i64 m10,.str m11,.str m12,.int .i64 m13,.str m14,.int .i64 m15,sl ac m16,.int .i64 m17,sl au m18] []] []
def iz(o:Bool):aC:=be 103 [(2,sl cS used),(4,.eptr (az v)),(76,.bool o)] [.dead,.dead,.cells [.int .i64 m,.str m2,.str m3,.int .i64 m4,.str m5,.int .i64 m6,sl ac m7,.int .i64 m8,sl au m9] [],.cells [.int .i64 m10,.str m11,.str m12,.int .i64 m13,.str m14,.int .i64 m15,sl ac m16,.int .i64 m17,sl au m18] []] []
def n7:Option Bool:=
 (wj (⟨m,m2,m3,(⟨m4,m5,m6,m7⟩:aa),m8,m9⟩:ai) (⟨m10,m11,m12,(⟨m13,m14,m15,m16⟩:aa),m17,m18⟩:ai)).bind fun r20=>
 if(!r20)=true then
  some true
 else
  if(e !=f)=true then
   some true
  else
   (jh v.A).bind fun r25=>
   (EV v.A).bind fun r26=>
   some (!(r25==r26))
theorem Cn{x:Bool}(h:n7 v e f m m2 m3 m4 m5 m6 m7 m8 m9 m10 m11 m12 m13 m14 m15 m16 m17 m18=some x):aV Pg GE 0 (cA b6 124) (EX .normal (iz used v m m2 m3 m4 m5 m6 m7 m8 m9 m10 m11 m12 m13 m14 m15 m16 m17 m18 x)) (Ds used v e f m m2 m3 m4 m5 m6 m7 m8 m9 m10 m11 m12 m13 m14 m15 m16 m17 m18):=by
 obtain⟨r20,br20,h⟩:=ay h
 have p22:=fun{sc F} (r:PS sc F)=>lK [0,0,3,7,15,31,31,127,255,511,1023,2047,4095,1023,9215,32767,65535,131071]<|sv (dA (⟨m,m2,m3,(⟨m4,m5,m6,m7⟩:aa),m8,m9⟩:ai) [])<|sv (dA (⟨m10,m11,m12,(⟨m13,m14,m15,m16⟩:aa),m17,m18⟩:ai) [])<|bz (C9 br20)<|r
 rcases bj h with⟨c21,h⟩|⟨c21,h⟩
 ·obtain rfl:=lf h
  exact cf A6 (p22<|sg 5 c21<|eF .normal (iz used v m m2 m3 m4 m5 m6 m7 m8 m9 m10 m11 m12 m13 m14 m15 m16 m17 m18 true))<|by kernel_rfl
 ·have p24:=fun{sc F} (r:PS sc F)=>p22<|sg 5 c21<|r
  rcases bj h with⟨c23,h⟩|⟨c23,h⟩
  ·obtain rfl:=lf h
   exact cf A6 (p24<|sg 10 c23<|eF .normal (iz used v m m2 m3 m4 m5 m6 m7 m8 m9 m10 m11 m12 m13 m14 m15 m16 m17 m18 true))<|by kernel_rfl
  ·obtain⟨r25,br25,h⟩:=ay h
   obtain⟨r26,br26,h⟩:=ay h
   obtain rfl:=lf h
   exact cf A6 (p24<|sg 10 c23<|sv (bZ v)<|sv (ca v)<|bz (kZ br25)<|sv (bZ v)<|sv (ca v)<|bz (EW br26)<|eF .normal (iz used v m m2 m3 m4 m5 m6 m7 m8 m9 m10 m11 m12 m13 m14 m15 m16 m17 m18 (!(r25==r26))))<|by kernel_rfl
end
section
variable(used:waA)(v:aJ)(m:Int)(m2:af)(m3:af)(m4:Int)(m5:af)(m6:Int)(m7:waB)(m8:Int)(m9:waD)(m10:Int)(m11:af)(m12:af)(m13:Int)(m14:af)(m15:Int)(m16:waB)(m17:Int)(m18:waD)(m19:Int)(m20:af)(m21:Int)(m22:waB)(m23:Int)(m24:waD)
def Dt:aC:=be 103 [(2,sl cS used),(4,.eptr (az v)),(11,.bptr 4 0),(12,.str ([122]:af))] [.dead,.dead,.cells [.int .i64 m,.str m2,.str m3,.int .i64 m4,.str m5,.int .i64 m6,sl ac m7,.int .i64 m8,sl au m9] [],.cells [.int .i64 m10,.str m11,.str m12,.int .i64 m13,.str m14,.int .i64 m15,sl ac m16,.int .i64 m17,sl au m18] [],.cells [.int .i64 3,.str ([]:af),.str ([]:af),.int .i64 m19,.str m20,.int .i64 m21,sl ac m22,.int .i64 m23,sl au m24] [(8,50)]] []
def lM(o:af):aC:=be 103 [(4,.eptr (az v)),(11,.bptr 4 0),(12,.str o)] [.dead,.dead,.cells [.int .i64 m,.str m2,.str m3,.int .i64 m4,.str m5,.int .i64 m6,sl ac m7,.int .i64 m8,sl au m9] [],.cells [.int .i64 m10,.str m11,.str m12,.int .i64 m13,.str m14,.int .i64 m15,sl ac m16,.int .i64 m17,sl au m18] [],.cells [.int .i64 3,.str ([]:af),.str ([]:af),.int .i64 m19,.str m20,.int .i64 m21,sl ac m22,.int .i64 m23,sl au m24] [(8,50)]] []
def jA:Option af:=
 if(decide ((used.length:Int)>0))=true then
  (cz used 0).bind fun x31=>
  some x31
 else
  some ([122]:af)
theorem Co{x:af}(h:jA used=some x):aV Pg GE 0 (cA b6 510) (EX .normal (lM v m m2 m3 m4 m5 m6 m7 m8 m9 m10 m11 m12 m13 m14 m15 m16 m17 m18 m19 m20 m21 m22 m23 m24 x)) (Dt used v m m2 m3 m4 m5 m6 m7 m8 m9 m10 m11 m12 m13 m14 m15 m16 m17 m18 m19 m20 m21 m22 m23 m24):=by
 rcases bj h with⟨c30,h⟩|⟨c30,h⟩
 ·obtain⟨x31,bx31,h⟩:=ay h
  obtain rfl:=lf h
  exact cf A6 (cq (bq.ln used)<|sg 0 c30<|sv (bq.ia (k:=.i64) bx31)<|sv (dB Bg (.str x31) [])<|eF .normal (lM v m m2 m3 m4 m5 m6 m7 m8 m9 m10 m11 m12 m13 m14 m15 m16 m17 m18 m19 m20 m21 m22 m23 m24 x31))<|by kernel_rfl
 ·obtain rfl:=lf h
  exact cf A6 (cq (bq.ln used)<|sg 0 c30<|eF .normal (lM v m m2 m3 m4 m5 m6 m7 m8 m9 m10 m11 m12 m13 m14 m15 m16 m17 m18 m19 m20 m21 m22 m23 m24 ([122]:af)))<|by kernel_rfl
end
def sZ(m:aG)(a:aJ)(used:waA):Option Bool:=
 (nZ used m a).bind fun o14=>
 if o14=true then
  Gd.bind fun r17=>
  some r17
 else
  (uc m a.A a.B used).bind fun r18=>
  (Ga m a.A a.B used).bind fun r19=>
  (n7 a r18.2 r19.2 r18.1.Op r18.1.Name r18.1.Sort_ r18.1.Pred.Op r18.1.Pred.Name r18.1.Pred.N r18.1.Pred.Kids r18.1.Tag r18.1.Kids r19.1.Op r19.1.Name r19.1.Sort_ r19.1.Pred.Op r19.1.Pred.Name r19.1.Pred.N r19.1.Pred.Kids r19.1.Tag r19.1.Kids).bind fun o27=>
  if o27=true then
   some false
  else
   (jA used).bind fun o32=>
   (sq a.A o32 (⟨3,([]:af),([]:af),a.B.Pred,a.Tag,([]:List ai)⟩:ai)).bind fun r33=>
   (AG a.A o32 (⟨3,([]:af),([]:af),a.B.Pred,a.Tag,([]:List ai)⟩:ai)).bind fun r34=>
   (wj r33 r34).bind fun r35=>
   if r35=true then
    Gd.bind fun r38=>
    some r38
   else
    some false
theorem GV{m:aG}{a:aJ}{used:waA}{r:Bool}(h:sZ m a used=some r):CC Pg GE 6 [.agg (aB m),.agg (az a),sl cS used] (.bool r) []:=by
 obtain⟨o14,bo14,h⟩:=ay h
 have p16:=fun{sc F} (r:PS sc F)=>se (gE m)<|se (py a)<|ka 1<|cY (Cm used m a bo14)<|r
 rcases bj h with⟨c15,h⟩|⟨c15,h⟩
 ·obtain⟨r17,br17,h⟩:=ay h
  obtain rfl:=lf h
  have z:=p16<|sg 0 c15<|bz (JR br17)<|en (aI (rP (.bool r17))<|trivial)
  exact bO A6 call6 func6 (c:=b6) rfl (aI (cu m) (aI (dU a) (aI (aj dN used) trivial))) z<|by kernel_rfl
 ·obtain⟨r18,br18,h⟩:=ay h
  obtain⟨r19,br19,h⟩:=ay h
  obtain⟨o27,bo27,h⟩:=ay h
  have p29:=fun{sc F} (r:PS sc F)=>p16<|sg 0 c15<|sv (fa m)<|sv (bZ a)<|sv (ca a)<|sv (dK a)<|sv (eu a)<|bz (Mx br18)<|sx nK<|sx (cj r18.1)<|sv (fa m)<|sv (bZ a)<|sv (ca a)<|sv (dK a)<|sv (eu a)<|bz (UZ br19)<|sx nK<|sx (cj r19.1)<|ka 1<|cY (Cn used a r18.2 r19.2 r18.1.Op r18.1.Name r18.1.Sort_ r18.1.Pred.Op r18.1.Pred.Name r18.1.Pred.N r18.1.Pred.Kids r18.1.Tag r18.1.Kids r19.1.Op r19.1.Name r19.1.Sort_ r19.1.Pred.Op r19.1.Pred.Name r19.1.Pred.N r19.1.Pred.Kids r19.1.Tag r19.1.Kids bo27)<|r
  rcases bj h with⟨c28,h⟩|⟨c28,h⟩
  ·obtain rfl:=lf h
   have z:=p29<|sg 0 c28<|en (aI (rP (.bool false))<|trivial)
   exact bO A6 call6 func6 (c:=b6) rfl (aI (cu m) (aI (dU a) (aI (aj dN used) trivial))) z<|by kernel_rfl
  ·obtain⟨o32,bo32,h⟩:=ay h
   obtain⟨r33,br33,h⟩:=ay h
   obtain⟨r34,br34,h⟩:=ay h
   obtain⟨r35,br35,h⟩:=ay h
   have p37:=fun{sc F} (r:PS sc F)=>p29<|sg 0 c28<|sv (dK a)<|sv (sw a)<|sv (tg a)<|sv (uC a)<|sv (uG a)<|sb (rx 3 a.B.Pred a.Tag) (ru 3 a.B.Pred a.Tag)<|sx nK<|sy (bM (⟨3,([]:af),([]:af),a.B.Pred,a.Tag,([]:List ai)⟩:ai))<|ka 1<|cY (Co used a r18.1.Op r18.1.Name r18.1.Sort_ r18.1.Pred.Op r18.1.Pred.Name r18.1.Pred.N r18.1.Pred.Kids r18.1.Tag r18.1.Kids r19.1.Op r19.1.Name r19.1.Sort_ r19.1.Pred.Op r19.1.Pred.Name r19.1.Pred.N r19.1.Pred.Kids r19.1.Tag r19.1.Kids a.B.Pred.Op a.B.Pred.Name a.B.Pred.N a.B.Pred.Kids a.Tag ([]:List ai) bo32)<|lK [0,1,0,0,15,0,32,0,0,511,1023,2047,4095,8191,16383]<|sv (bZ a)<|sv (ca a)<|sv (dA (⟨3,([]:af),([]:af),a.B.Pred,a.Tag,([]:List ai)⟩:ai) [])<|bz (Dn br33)<|sv (bZ a)<|sv (ca a)<|sv (dA (⟨3,([]:af),([]:af),a.B.Pred,a.Tag,([]:List ai)⟩:ai) [])<|bz (EY br34)<|bz (C9 br35)<|r
   rcases bj h with⟨c36,h⟩|⟨c36,h⟩
   ·obtain⟨r38,br38,h⟩:=ay h
    obtain rfl:=lf h
    have z:=p37<|sg 12 c36<|bz (JR br38)<|en (aI (rP (.bool r38))<|trivial)
    exact bO A6 call6 func6 (c:=b6) rfl (aI (cu m) (aI (dU a) (aI (aj dN used) trivial))) z<|by kernel_rfl
   ·obtain rfl:=lf h
    have z:=p37<|sg 12 c36<|en (aI (rP (.bool false))<|trivial)
    exact bO A6 call6 func6 (c:=b6) rfl (aI (cu m) (aI (dU a) (aI (aj dN used) trivial))) z<|by kernel_rfl
open Go
theorem Yg{α β X:Type}(g:α->β)(e:List β->X):∀(l:List α) (i:Nat) (s:List β),nc (fun _ x (s:List β)=>(Sum.inl (s++[g x]):List β⊕X)) e l i s=e (s++l.map g)
 |[],i,s=>by simp[nc]
 |x::l,i,s=>by
  unfold nc
  simp only
  rw[Yg g e l (i+1) (s++[g x])]
  simp
theorem XF{α β τ X:Type}(l:List α)(hl:l.length<9223372036854775808)(mk:Int->List β->τ)(body:τ->Option (τ⊕X))(g:α->β)(e:List β->X)
  (hin:∀(i:Nat) (h:i<l.length) s,s.length=i->body (mk i s)=some (.inl (mk (aS ((i:Int)+1)) (s++[g l[i]])))) (hend:∀s,body (mk l.length s)=some (.inr (e s))):loop body (mk 0 [])=some (e (l.map g)):=by
 have:=kQ l hl mk body (fun i s=>s.length=i) (fun _ x s=>.inl (s++[g x])) e (fun i h s hs=>⟨hin i h s hs,fun s' hs'=>by cases hs';simp[hs]⟩) (fun s _=>hend s) 0 [] (vaN _) rfl
 rw[Yg]at this
 exact this
theorem qdx{α X:Type}(l:List α)(hl:l.length<9223372036854775808)(body:Int->Option (Int⊕X))(e:X)
  (hin:∀(i:Nat) (h:i<l.length),body i=some (.inl (aS ((i:Int)+1)))) (hend:body l.length=some (.inr e)):loop body (0:Int)=some e:=by
 have:=Kr l hl body (fun _=>false) e e (fun i h=>by rw[hin i h];rfl) hend 0 (vaN _)
 simpa using this
end Go.Proofs.YtbaamopmfmpfaaaGreatDoor
