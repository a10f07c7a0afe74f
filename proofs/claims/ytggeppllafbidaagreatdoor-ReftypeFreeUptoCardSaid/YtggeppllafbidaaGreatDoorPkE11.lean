/- PROVED: a part of the proof. Conditions: none. -/
import Derived.Test.YtggeppllafbidaaGreatDoorPkE10
noncomputable section
namespace Go.Proofs.YtggeppllafbidaaGreatDoor
open Go Go.Proofs.Tryz
set_option linter.unusedVariables false
set_option maxRecDepth 100000
noncomputable def QB:Code:=f95.body.getD .skip
def Lg:List Nat:=[79,96]
section
variable(v:waA)(v2:waC)(t:ae)(i:Int)(m:waC)(m2:waB)
def Cg:ax:=aP 104 [(1,sl cS v),(2,sl af v2),(3,.eptr (af t)),(6,.bptr 1 0),(7,.int .i64 i)] [.dead,.cells [.int .i64 0,.str ([]:ag),sl af m,sl cS ([]:List ag),.int .i64 0,.str ([]:ag),.int .i64 0,sl ac m2,sl ac m2] [(2,30),(3,9),(7,28),(8,28)]] []
def lU(o:Bool):ax:=aP 104 [(1,sl cS v),(2,sl af v2),(3,.eptr (af t)),(6,.bptr 1 0),(7,.int .i64 i),(28,.bool o)] [.dead,.cells [.int .i64 0,.str ([]:ag),sl af m,sl cS ([]:List ag),.int .i64 0,.str ([]:ag),.int .i64 0,sl ac m2,sl ac m2] [(2,30),(3,9),(7,28),(8,28)]] []
def vW:Option Bool:=
 if(decide (i>=0))=true then
  some (decide (i<(v2.length:Int)))
 else
  some false
theorem AU{x:Bool}(h:vW v2 i=some x):aL Pg GE 0 (cA QB 106) (EX .normal (lU v v2 t i m m2 x)) (Cg v v2 t i m m2):=by
 rcases aJ h with⟨c4,h⟩|⟨c4,h⟩
 ·obtain rfl:=lf h
  exact bm Lg (sg 3 c4<|cf (cO.ln v2)<|eF .normal (lU v v2 t i m m2 (decide (i<(v2.length:Int)))))<|by kernel_rfl
 ·obtain rfl:=lf h
  exact bm Lg (sg 3 c4<|eF .normal (lU v v2 t i m m2 false))<|by kernel_rfl
end
section
variable(t:ae)(m:waC)(m2:waB)(m3:Int)(m4:ag)(m5:waC)(m6:waA)(m7:Int)(m8:ag)(m9:Int)(m10:waB)(m11:waB)
def Ch:ax:=aP 104 [(3,.eptr (af t)),(6,.bptr 1 0),(8,.bptr 2 0)] [.dead,.cells [.int .i64 0,.str ([]:ag),sl af m,sl cS ([]:List ag),.int .i64 0,.str ([]:ag),.int .i64 0,sl ac m2,sl ac m2] [(2,30),(3,9),(7,28),(8,28)],.cells [.int .i64 m3,.str m4,sl af m5,sl cS m6,.int .i64 m7,.str m8,.int .i64 m9,sl ac m10,sl ac m11] [(2,30),(8,28)]] []
def lV(o:Bool):ax:=aP 104 [(3,.eptr (af t)),(6,.bptr 1 0),(8,.bptr 2 0),(42,.bool o)] [.dead,.cells [.int .i64 0,.str ([]:ag),sl af m,sl cS ([]:List ag),.int .i64 0,.str ([]:ag),.int .i64 0,sl ac m2,sl ac m2] [(2,30),(3,9),(7,28),(8,28)],.cells [.int .i64 m3,.str m4,sl af m5,sl cS m6,.int .i64 m7,.str m8,.int .i64 m9,sl ac m10,sl ac m11] [(2,30),(8,28)]] []
def vX:Option Bool:=
 (zk t.Pred).bind fun r10=>
 if(!r10)=true then
  some (m3 !=6)
 else
  some false
theorem AV{x:Bool}(h:vX t m3=some x):aL Pg GE 0 (cA QB 1716) (EX .normal (lV t m m2 m3 m4 m5 m6 m7 m8 m9 m10 m11 x)) (Ch t m m2 m3 m4 m5 m6 m7 m8 m9 m10 m11):=by
 obtain⟨r10,br10,h⟩:=ay h
 have p12:=fun{sc F} (r:PS sc F)=>sv (bZ t)<|sv (b6 t)<|aX (yd br10)<|r
 rcases aJ h with⟨c11,h⟩|⟨c11,h⟩
 ·obtain rfl:=lf h
  exact bm Lg (p12<|sg 5 c11<|ss<|eF .normal (lV t m m2 m3 m4 m5 m6 m7 m8 m9 m10 m11 (m3 !=6)))<|by kernel_rfl
 ·obtain rfl:=lf h
  exact bm Lg (p12<|sg 5 c11<|eF .normal (lV t m m2 m3 m4 m5 m6 m7 m8 m9 m10 m11 false))<|by kernel_rfl
end
section
variable(R34:jN)(v:waA)(v2:waC)(t:ae)(m:waC)(m2:waB)
def Cf:ax:=aP 104 [(1,sl cS v),(2,sl af v2),(3,.eptr (af t)),(6,.bptr 1 0)] [.dead,.cells [.int .i64 0,.str ([]:ag),sl af m,sl cS ([]:List ag),.int .i64 0,.str ([]:ag),.int .i64 0,sl ac m2,sl ac m2] [(2,30),(3,9),(7,28),(8,28)]] []
def eI(o:(Int×ag×waC×waA×Int×ag×Int×waB×waB×Int×ag×waC×waA×Int×ag×Int×waB×waB)⊕(Unit)):Exit:=match o with
 |(.inl _)=>.ret
 |(.inr _)=>.normal
def df(o:(Int×ag×waC×waA×Int×ag×Int×waB×waB×Int×ag×waC×waA×Int×ag×Int×waB×waB)⊕(Unit)):ax:=match o with
 |(.inl o)=>aP 104 [(6,.bptr 1 0)] [.dead,.cells [.int .i64 o.1,.str o.2.1,sl af o.2.2.1,sl cS o.2.2.2.1,.int .i64 o.2.2.2.2.1,.str o.2.2.2.2.2.1,.int .i64 o.2.2.2.2.2.2.1,sl ac o.2.2.2.2.2.2.2.1,sl ac o.2.2.2.2.2.2.2.2.1] [(2,30),(8,28)],.cells [.int .i64 o.2.2.2.2.2.2.2.2.2.1,.str o.2.2.2.2.2.2.2.2.2.2.1,sl af o.2.2.2.2.2.2.2.2.2.2.2.1,sl cS o.2.2.2.2.2.2.2.2.2.2.2.2.1,.int .i64 o.2.2.2.2.2.2.2.2.2.2.2.2.2.1,.str o.2.2.2.2.2.2.2.2.2.2.2.2.2.2.1,.int .i64 o.2.2.2.2.2.2.2.2.2.2.2.2.2.2.2.1,sl ac o.2.2.2.2.2.2.2.2.2.2.2.2.2.2.2.2.1,sl ac o.2.2.2.2.2.2.2.2.2.2.2.2.2.2.2.2.2] []] []
 |(.inr o)=>aP 104 [(1,sl cS v),(2,sl af v2),(3,.eptr (af t)),(6,.bptr 1 0)] [.dead,.cells [.int .i64 0,.str ([]:ag),sl af m,sl cS ([]:List ag),.int .i64 0,.str ([]:ag),.int .i64 0,sl ac m2,sl ac m2] [(2,30),(3,9),(7,28),(8,28)]] []
def vV:Option ((Int×ag×waC×waA×Int×ag×Int×waB×waB×Int×ag×waC×waA×Int×ag×Int×waB×waB)⊕(Unit)):=
 if (t.Op == 5) = true then
  (sT v t.Name).bind fun r3=>
  (vW v2 r3).bind fun o5=>
  if o5=true then
   (dT v2 r3).bind fun x8=>
   (R34 x8 ([]:List ag) ([]:List ae)).bind fun r9=>
   (vX t r9.Op).bind fun o13=>
   if o13=true then
    (zk r9.Pred).bind fun r16=>
    if r16=true then
     (pl t.Pred).bind fun r19=>
     some (.inl (r9.Op,r9.Name,r9.Args,r9.Names,r19.Op,r19.Name,r19.N,r19.Kids,r9.Preds,r9.Op,r9.Name,r9.Args,r9.Names,r19.Op,r19.Name,r19.N,r19.Kids,r9.Preds))
    else
     (pl t.Pred).bind fun r20=>
     some (.inl (r9.Op,r9.Name,r9.Args,r9.Names,15,([]:ag),0,([r9.Pred,r20]:List aa),r9.Preds,r9.Op,r9.Name,r9.Args,r9.Names,15,([]:ag),0,([r9.Pred,r20]:List aa),r9.Preds))
   else
    some (.inl (r9.Op,r9.Name,r9.Args,r9.Names,r9.Pred.Op,r9.Pred.Name,r9.Pred.N,r9.Pred.Kids,r9.Preds,r9.Op,r9.Name,r9.Args,r9.Names,r9.Pred.Op,r9.Pred.Name,r9.Pred.N,r9.Pred.Kids,r9.Preds))
  else
   some (.inr ())
 else
  some (.inr ())
theorem ql(hR34:l5 R34){x:(Int×ag×waC×waA×Int×ag×Int×waB×waB×Int×ag×waC×waA×Int×ag×Int×waB×waB)⊕(Unit)}(h:vV R34 v v2 t=some x):aL Pg GE 0 (cA QB 6) (EX (eI x) (df v v2 t m m2 x)) (Cf v v2 t m m2):=by
 have p2:=fun{sc F} (r:PS sc F)=>sv (aq t)<|sv (au t)<|r
 rcases aJ h with⟨c1,h⟩|⟨c1,h⟩
 ·obtain⟨r3,br3,h⟩:=ay h
  obtain⟨o5,bo5,h⟩:=ay h
  have p7:=fun{sc F} (r:PS sc F)=>p2<|sg 0 c1<|sv (ch t)<|sv (cn t)<|aX (xA br3)<|iO 0<|ct (AU v v2 t r3 m m2 bo5)<|r
  rcases aJ h with⟨c6,h⟩|⟨c6,h⟩
  ·obtain⟨x8,bx8,h⟩:=ay h
   obtain⟨r9,br9,h⟩:=ay h
   obtain⟨o13,bo13,h⟩:=ay h
   have p15:=fun{sc F} (r:PS sc F)=>p7<|sg 0 c6<|sv (cO.ia (k:=.i64) bx8)<|sv (aV x8)<|aX (hR34 _ _ _ _ br9)<|sx jc<|sy (aU r9)<|iO 1<|ct (AV t m m2 r9.Op r9.Name r9.Args r9.Names r9.Pred.Op r9.Pred.Name r9.Pred.N r9.Pred.Kids r9.Preds bo13)<|r
   rcases aJ h with⟨c14,h⟩|⟨c14,h⟩
   ·obtain⟨r16,br16,h⟩:=ay h
    have p18:=fun{sc F} (r:PS sc F)=>p15<|sg 0 c14<|sv (bj r9.Pred [sl ac r9.Preds])<|aX (yd br16)<|r
    rcases aJ h with⟨c17,h⟩|⟨c17,h⟩
    ·obtain⟨r19,br19,h⟩:=ay h
     obtain rfl:=lf h
     exact bm Lg (p18<|sg 0 c17<|sv (bZ t)<|sv (b6 t)<|aX (mo br19)<|sy (aQ r19)<|sz (bw (⟨r9.Op,r9.Name,r9.Args,r9.Names,r19,r9.Preds⟩:ae) [])<|sy (aU (⟨r9.Op,r9.Name,r9.Args,r9.Names,r19,r9.Preds⟩:ae))<|eF (eI (.inl (r9.Op,r9.Name,r9.Args,r9.Names,r19.Op,r19.Name,r19.N,r19.Kids,r9.Preds,r9.Op,r9.Name,r9.Args,r9.Names,r19.Op,r19.Name,r19.N,r19.Kids,r9.Preds))) (df v v2 t m m2 (.inl (r9.Op,r9.Name,r9.Args,r9.Names,r19.Op,r19.Name,r19.N,r19.Kids,r9.Preds,r9.Op,r9.Name,r9.Args,r9.Names,r19.Op,r19.Name,r19.N,r19.Kids,r9.Preds))))<|by kernel_rfl
    ·obtain⟨r20,br20,h⟩:=ay h
     obtain rfl:=lf h
     exact bm Lg (p18<|sg 0 c17<|ze [0,1,0,4,12,31,63,127,255]<|sv (bj r9.Pred [sl ac r9.Preds])<|sv (bZ t)<|sv (b6 t)<|aX (mo br20)<|sv (aZ.mk' (v:=cu) bK ([r9.Pred,r20]:List aa) 2 (by kernel_rfl))<|sv (nF 15 ([r9.Pred,r20]:List aa))<|sx (cb (⟨15,([]:ag),0,([r9.Pred,r20]:List aa)⟩:aa))<|sz (bw (⟨r9.Op,r9.Name,r9.Args,r9.Names,(⟨15,([]:ag),0,([r9.Pred,r20]:List aa)⟩:aa),r9.Preds⟩:ae) [])<|sy (aU (⟨r9.Op,r9.Name,r9.Args,r9.Names,(⟨15,([]:ag),0,([r9.Pred,r20]:List aa)⟩:aa),r9.Preds⟩:ae))<|eF (eI (.inl (r9.Op,r9.Name,r9.Args,r9.Names,15,([]:ag),0,([r9.Pred,r20]:List aa),r9.Preds,r9.Op,r9.Name,r9.Args,r9.Names,15,([]:ag),0,([r9.Pred,r20]:List aa),r9.Preds))) (df v v2 t m m2 (.inl (r9.Op,r9.Name,r9.Args,r9.Names,15,([]:ag),0,([r9.Pred,r20]:List aa),r9.Preds,r9.Op,r9.Name,r9.Args,r9.Names,15,([]:ag),0,([r9.Pred,r20]:List aa),r9.Preds))))<|by kernel_rfl
   ·obtain rfl:=lf h
    exact bm Lg (p15<|sg 0 c14<|sz (bw r9 [])<|sy (aU r9)<|eF (eI (.inl (r9.Op,r9.Name,r9.Args,r9.Names,r9.Pred.Op,r9.Pred.Name,r9.Pred.N,r9.Pred.Kids,r9.Preds,r9.Op,r9.Name,r9.Args,r9.Names,r9.Pred.Op,r9.Pred.Name,r9.Pred.N,r9.Pred.Kids,r9.Preds))) (df v v2 t m m2 (.inl (r9.Op,r9.Name,r9.Args,r9.Names,r9.Pred.Op,r9.Pred.Name,r9.Pred.N,r9.Pred.Kids,r9.Preds,r9.Op,r9.Name,r9.Args,r9.Names,r9.Pred.Op,r9.Pred.Name,r9.Pred.N,r9.Pred.Kids,r9.Preds))))<|by kernel_rfl
  ·obtain rfl:=lf h
   exact bm Lg (p7<|sg 0 c6<|eF (eI (.inr ())) (df v v2 t m m2 (.inr ())))<|by kernel_rfl
 ·obtain rfl:=lf h
  exact bm Lg (p2<|sg 0 c1<|eF (eI (.inr ())) (df v v2 t m m2 (.inr ())))<|by kernel_rfl
end
section
variable(R34:jN)(v:waA)(v2:waC)(t:ae)(t72:waC)(t73:Int)(m:waC)(m2:waB)(m3:Int)(m4:ag)(m6:waA)(m7:Int)(m8:ag)(m9:Int)(m10:waB)(t74:Int)(m5:waC)
def fZ:ax:=aP 104 [(1,sl cS v),(2,sl af v2),(3,.eptr (af t)),(6,.bptr 1 0),(9,.bptr 2 0),(72,sl af t72),(73,.int .i64 t73),(74,.int .i64 t74)] [.dead,.cells [.int .i64 0,.str ([]:ag),sl af m,sl cS ([]:List ag),.int .i64 0,.str ([]:ag),.int .i64 0,sl ac m2,sl ac m2] [(2,30),(3,9),(7,28),(8,28)],.cells [.int .i64 m3,.str m4,sl af m5,sl cS m6,.int .i64 m7,.str m8,.int .i64 m9,sl ac m10,sl ac m2] [(2,30),(8,28)]] []
def lW(o:waC):ax:=aP 104 [(3,.eptr (af t)),(6,.bptr 1 0),(9,.bptr 2 0)] [.dead,.cells [.int .i64 0,.str ([]:ag),sl af m,sl cS ([]:List ag),.int .i64 0,.str ([]:ag),.int .i64 0,sl ac m2,sl ac m2] [(2,30),(3,9),(7,28),(8,28)],.cells [.int .i64 m3,.str m4,sl af o,sl cS m6,.int .i64 m7,.str m8,.int .i64 m9,sl ac m10,sl ac m2] [(2,30),(8,28)]] []
def ry:Option ((Int×waC)⊕(waC)):=
 if(decide (t74<t73))=true then
  (dT t72 t74).bind fun x25=>
  (R34 x25 v v2).bind fun r26=>
  (app m5 ([r26]:List ae)).bind fun l27=>
  some (.inl (bL (t74+1),l27))
 else
  some (.inr m5)
def vY:Option waC:=loop (fun(zz:Int×waC)=>ry R34 v v2 t72 t73 zz.1 zz.2) (t74,m5)
theorem zh(hR34:l5 R34){y:(Int×waC)⊕(waC)}(h:ry R34 v v2 t72 t73 t74 m5=some y):aL Pg GE 0 (cA QB 247) (LQ (fun(zz:Int×waC)=>fZ v v2 t t72 t73 m m2 m3 m4 m6 m7 m8 m9 m10 zz.1 zz.2) (fun _=>.exit 0) (lW t m m2 m3 m4 m6 m7 m8 m9 m10) y) (fZ v v2 t t72 t73 m m2 m3 m4 m6 m7 m8 m9 m10 t74 m5):=by
 rcases aJ h with⟨c24,h⟩|⟨c24,h⟩
 ·obtain⟨x25,bx25,h⟩:=ay h
  obtain⟨r26,br26,h⟩:=ay h
  obtain⟨l27,bl27,h⟩:=ay h
  obtain rfl:=lf h
  have z:=sg 0 c24<|sv (cO.ia (k:=.i64) bx25)<|sv (aV x25)<|sx jc<|sx (cQ x25)<|ze [0,1,0,0,0,28,60,127,255,511]<|sv (bw x25 [])<|aX (hR34 _ _ _ _ br26)<|sv (cO.mk' (v:=wJ) ri ([r26]:List ae) 1 (by kernel_rfl))<|sv (cO.ap bl27)<|SE (rfl:cp (sl af l27)=some [sl af l27])<|pq 0 .normal (fZ v v2 t t72 t73 m m2 m3 m4 m6 m7 m8 m9 m10 (bL (t74+1)) l27) rfl (cG (aI (up (aw ie v)) (aI (up (aw al v2)) (aI (yG (al t)) (aI (fh rfl) (aI (fh rfl) (aI (up (aw al t72)) (aI trivial (aI trivial trivial))))))))) (aI trivial (aI (aI trivial (aI trivial (aI (up (aw al m)) (aI (up (aw ie ([]:List ag))) (aI trivial (aI trivial (aI trivial (aI (up (aw ah m2)) (aI (up (aw ah m2)) trivial))))))))) (aI (aI trivial (aI trivial (aI (up (aw al l27)) (aI (up (aw ie m6)) (aI trivial (aI trivial (aI trivial (aI (up (aw ah m10)) (aI (up (aw ah m2)) trivial))))))))) trivial)))
  exact cJ (A:=Lg) mixed z<|by kernel_rfl
 ·obtain rfl:=lf h
  have z:=sg 0 c24<|eF (.exit 0) (lW t m m2 m3 m4 m6 m7 m8 m9 m10 m5)
  exact fG Lg (by intro hx;cases hx) z<|by kernel_rfl
theorem AW(hR34:l5 R34){x:waC}(h:vY R34 v v2 t72 t73 t74 m5=some x):aL Pg GE 0 (.loop (cA QB 247)) (EX (.exit 0) (lW t m m2 m3 m4 m6 m7 m8 m9 m10 x)) (fZ v v2 t t72 t73 m m2 m3 m4 m6 m7 m8 m9 m10 t74 m5):=
 aL.loop (S:=fun(zz:Int×waC)=>fZ v v2 t t72 t73 m m2 m3 m4 m6 m7 m8 m9 m10 zz.1 zz.2) (ex:=(fun _=>.exit 0)) (s:=(t74,m5)) h fun zz y hy=>zh R34 v v2 t t72 t73 m m2 m3 m4 m6 m7 m8 m9 m10 zz.1 zz.2 hR34 hy
end
section
variable(t89:waB)(t90:Int)(m:waC)(m2:waB)(m3:Int)(m4:ag)(m5:waC)(m6:waA)(m7:Int)(m8:ag)(m9:Int)(m10:waB)(t91:Int)(m11:waB)
def f0:ax:=aP 104 [(6,.bptr 1 0),(9,.bptr 2 0),(89,sl ac t89),(90,.int .i64 t90),(91,.int .i64 t91)] [.dead,.cells [.int .i64 0,.str ([]:ag),sl af m,sl cS ([]:List ag),.int .i64 0,.str ([]:ag),.int .i64 0,sl ac m2,sl ac m2] [(2,30),(3,9),(7,28),(8,28)],.cells [.int .i64 m3,.str m4,sl af m5,sl cS m6,.int .i64 m7,.str m8,.int .i64 m9,sl ac m10,sl ac m11] [(2,30),(8,28)]] []
def lX(o:waB):ax:=aP 104 [(6,.bptr 1 0),(9,.bptr 2 0)] [.dead,.cells [.int .i64 0,.str ([]:ag),sl af m,sl cS ([]:List ag),.int .i64 0,.str ([]:ag),.int .i64 0,sl ac m2,sl ac m2] [(2,30),(3,9),(7,28),(8,28)],.cells [.int .i64 m3,.str m4,sl af m5,sl cS m6,.int .i64 m7,.str m8,.int .i64 m9,sl ac m10,sl ac o] [(2,30),(8,28)]] []
def rz:Option ((Int×waB)⊕(waB)):=
 if(decide (t91<t90))=true then
  (dT t89 t91).bind fun x30=>
  (pl x30).bind fun r31=>
  (app m11 ([r31]:List aa)).bind fun l32=>
  some (.inl (bL (t91+1),l32))
 else
  some (.inr m11)
def vZ:Option waB:=loop (fun(zz:Int×waB)=>rz t89 t90 zz.1 zz.2) (t91,m11)
theorem zi{y:(Int×waB)⊕(waB)}(h:rz t89 t90 t91 m11=some y):aL Pg GE 0 (cA QB 503) (LQ (fun(zz:Int×waB)=>f0 t89 t90 m m2 m3 m4 m5 m6 m7 m8 m9 m10 zz.1 zz.2) (fun _=>.exit 2) (lX m m2 m3 m4 m5 m6 m7 m8 m9 m10) y) (f0 t89 t90 m m2 m3 m4 m5 m6 m7 m8 m9 m10 t91 m11):=by
 rcases aJ h with⟨c29,h⟩|⟨c29,h⟩
 ·obtain⟨x30,bx30,h⟩:=ay h
  obtain⟨r31,br31,h⟩:=ay h
  obtain⟨l32,bl32,h⟩:=ay h
  obtain rfl:=lf h
  have z:=sg 0 c29<|sv (aZ.ia (k:=.i64) bx30)<|sv (aM x30)<|sx fY<|sx (cb x30)<|ze [0,1,0,4,12,31,63,127]<|sv (bj x30 [])<|aX (mo br31)<|sv (aZ.mk' (v:=cu) bK ([r31]:List aa) 1 (by kernel_rfl))<|sv (aZ.ap bl32)<|SE (rfl:cp (sl ac l32)=some [sl ac l32])<|pq 0 .normal (f0 t89 t90 m m2 m3 m4 m5 m6 m7 m8 m9 m10 (bL (t91+1)) l32) rfl (cG (aI (fh rfl) (aI (fh rfl) (aI (up (aw ah t89)) (aI trivial (aI trivial trivial)))))) (aI trivial (aI (aI trivial (aI trivial (aI (up (aw al m)) (aI (up (aw ie ([]:List ag))) (aI trivial (aI trivial (aI trivial (aI (up (aw ah m2)) (aI (up (aw ah m2)) trivial))))))))) (aI (aI trivial (aI trivial (aI (up (aw al m5)) (aI (up (aw ie m6)) (aI trivial (aI trivial (aI trivial (aI (up (aw ah m10)) (aI (up (aw ah l32)) trivial))))))))) trivial)))
  exact cJ (A:=Lg) mixed z<|by kernel_rfl
 ·obtain rfl:=lf h
  have z:=sg 0 c29<|eF (.exit 2) (lX m m2 m3 m4 m5 m6 m7 m8 m9 m10 m11)
  exact fG Lg (by intro hx;cases hx) z<|by kernel_rfl
theorem AX{x:waB}(h:vZ t89 t90 t91 m11=some x):aL Pg GE 0 (.loop (cA QB 503)) (EX (.exit 2) (lX m m2 m3 m4 m5 m6 m7 m8 m9 m10 x)) (f0 t89 t90 m m2 m3 m4 m5 m6 m7 m8 m9 m10 t91 m11):=
 aL.loop (S:=fun(zz:Int×waB)=>f0 t89 t90 m m2 m3 m4 m5 m6 m7 m8 m9 m10 zz.1 zz.2) (ex:=(fun _=>.exit 2)) (s:=(t91,m11)) h fun zz y hy=>zi t89 t90 m m2 m3 m4 m5 m6 m7 m8 m9 m10 zz.1 zz.2 hy
end
def xS(R34:jN)(t:ae)(a:waA)(a2:waC):Option ae:=
 (vV R34 a a2 t).bind fun o21=>match o21 with
 |(.inl o21)=>
  some (⟨o21.1,o21.2.1,o21.2.2.1,o21.2.2.2.1,(⟨o21.2.2.2.2.1,o21.2.2.2.2.2.1,o21.2.2.2.2.2.2.1,o21.2.2.2.2.2.2.2.1⟩:aa),o21.2.2.2.2.2.2.2.2.1⟩:ae)
 |(.inr o21)=>
  (app ([]:List ag) t.Names).bind fun l22=>
  (pl t.Pred).bind fun r23=>
  (vY R34 a a2 t.Args (t.Args.length:Int) 0 ([]:List ae)).bind fun o28=>
  (vZ t.Preds (t.Preds.length:Int) 0 ([]:List aa)).bind fun o33=>
  some (⟨t.Op,t.Name,o28,l22,r23,o33⟩:ae)
theorem DS(R34:jN)(hR34:l5 R34){t:ae}{a:waA}{a2:waC}{r:ae}(h:xS R34 t a a2=some r):CC Pg GE 95 [.agg (af t),sl cS a,sl af a2] (.agg (af r)) [(2,30),(8,28)]:=by
 obtain⟨o21,bo21,h⟩:=ay h
 rcases o21 with o21|o21
 ·obtain rfl:=lf h
  have z:=se (bR t)<|sx jc<|iO 0<|ct (e:=.ret) (s1:=df a a2 t ([]:List ae) ([]:List aa) (.inl o21)) (ql R34 a a2 t ([]:List ae) ([]:List aa) hR34 bo21)<|en (aI (dy (⟨o21.1,o21.2.1,o21.2.2.1,o21.2.2.2.1,(⟨o21.2.2.2.2.1,o21.2.2.2.2.2.1,o21.2.2.2.2.2.2.1,o21.2.2.2.2.2.2.2.1⟩:aa),o21.2.2.2.2.2.2.2.2.1⟩:ae))<|aI (al (⟨o21.1,o21.2.1,o21.2.2.1,o21.2.2.2.1,(⟨o21.2.2.2.2.1,o21.2.2.2.2.2.1,o21.2.2.2.2.2.2.1,o21.2.2.2.2.2.2.2.1⟩:aa),o21.2.2.2.2.2.2.2.2.1⟩:ae))<|rT)
  exact bo Lg call95 func95 (c:=QB) rfl (aI (al t) (aI (aw ie a) (aI (aw al a2) trivial))) z<|by kernel_rfl
 ·obtain⟨l22,bl22,h⟩:=ay h
  obtain⟨r23,br23,h⟩:=ay h
  obtain⟨o28,bo28,h⟩:=ay h
  obtain⟨o33,bo33,h⟩:=ay h
  obtain rfl:=lf h
  have z:=se (bR t)<|sx jc<|iO 0<|ct (e:=.normal) (s1:=df a a2 t ([]:List ae) ([]:List aa) (.inr o21)) (ql R34 a a2 t ([]:List ae) ([]:List aa) hR34 bo21)<|ze [0,1,0,4,0,0,32,112,0,256,1008,2047,0,8191]<|sv (aq t)<|sv (au t)<|sv (ch t)<|sv (cn t)<|sv (bh.mk' (v:=PVal.str) D8 ([]:List ag) 0 (by kernel_rfl))<|sv (aN t)<|sv (aO t)<|sv (bh.ap bl22)<|sv (bZ t)<|sv (b6 t)<|aX (mo br23)<|sb (Bt t.Op t.Name l22 r23) (Br t.Op t.Name l22 r23)<|Ri (cQ (⟨t.Op,t.Name,([]:List ae),l22,r23,([]:List aa)⟩:ae))<|sv (aA t)<|sv (aB t)<|cf (cO.ln t.Args)<|ct (AW R34 a a2 t t.Args (t.Args.length:Int) ([]:List ae) ([]:List aa) t.Op t.Name l22 r23.Op r23.Name r23.N r23.Kids 0 ([]:List ae) hR34 bo28)<|sv (bF t)<|sv (bG t)<|cf (aZ.ln t.Preds)<|ct (AX t.Preds (t.Preds.length:Int) ([]:List ae) ([]:List aa) t.Op t.Name o28 l22 r23.Op r23.Name r23.N r23.Kids 0 ([]:List aa) bo33)<|sz (bw (⟨t.Op,t.Name,o28,l22,r23,o33⟩:ae) [])<|sy (aU (⟨t.Op,t.Name,o28,l22,r23,o33⟩:ae))<|en (aI (dy (⟨t.Op,t.Name,o28,l22,r23,o33⟩:ae))<|aI (al (⟨t.Op,t.Name,o28,l22,r23,o33⟩:ae))<|rT)
  exact bo Lg call95 func95 (c:=QB) rfl (aI (al t) (aI (aw ie a) (aI (aw al a2) trivial))) z<|by kernel_rfl
def xT:((ae×waA×waC)->Option ae)->(ae×waA×waC)->Option ae:=fun(rec:(ae×waA×waC)->Option ae) (x:ae×waA×waC)=>xS (fun t a a2=>rec (t,a,a2)) x.1 x.2.1 x.2.2
def CT(t:ae)(a:waA)(a2:waC):Option ae:=lH xT (t,a,a2)
theorem Gt{t:ae}{a:waA}{a2:waC}{r:ae}(h:CT t a a2=some r):CC Pg GE 95 [.agg (af t),sl cS a,sl af a2] (.agg (af r)) [(2,30),(8,28)]:=
 cC (F:=xT) (M:=fun(x:ae×waA×waC) (r:ae)=>CC Pg GE 95 [.agg (af x.1),sl cS x.2.1,sl af x.2.2] (.agg (af r)) [(2,30),(8,28)]) (fun rec hrec x r h=>DS _ (fun t a a2 r h=>hrec (t,a,a2) r h) h) h
noncomputable def Ws:Code:=f53.body.getD .skip
def Wd:List Nat:=[]
def pd(t:ae):Option ae:=
 (CT t ([]:List ag) ([]:List ae)).bind fun r1=>
 some r1
theorem qf{t:ae}{r:ae}(h:pd t=some r):CC Pg GE 53 [.agg (af t)] (.agg (af r)) [(2,30),(8,28)]:=by
 obtain⟨r1,br1,h⟩:=ay h
 obtain rfl:=lf h
 have z:=se (bR t)<|sx jc<|sv (aV t)<|aX (Gt br1)<|sy (aU r1)<|en (aI (dy r1)<|aI (al r1)<|rT)
 exact bo Wd call53 func53 (c:=Ws) rfl (aI (al t) trivial) z<|by kernel_rfl
noncomputable def VG:Code:=f96.body.getD .skip
def Vu:List Nat:=[]
def jV(is:Bool):Option aa:=
 if is=true then
  some (⟨2,([]:ag),1,([]:List aa)⟩:aa)
 else
  some (⟨2,([]:ag),0,([]:List aa)⟩:aa)
theorem fT{is:Bool}{r:aa}(h:jV is=some r):CC Pg GE 96 [.bool is] (.agg (ac r)) [(3,28)]:=by
 rcases aJ h with⟨c1,h⟩|⟨c1,h⟩
 ·obtain rfl:=lf h
  have z:=sx fY<|sg 0 c1<|sb (nE 2 1) (nB 2 1)<|sy (aQ (⟨2,([]:ag),1,([]:List aa)⟩:aa))<|en (aI (dw (⟨2,([]:ag),1,([]:List aa)⟩:aa))<|aI (ah (⟨2,([]:ag),1,([]:List aa)⟩:aa))<|rT)
  exact bo Vu call96 func96 (c:=VG) rfl (aI trivial trivial) z<|by kernel_rfl
 ·obtain rfl:=lf h
  have z:=sx fY<|sg 0 c1<|sb (Lx 2) (Lv 2)<|sy (aQ (⟨2,([]:ag),0,([]:List aa)⟩:aa))<|en (aI (dw (⟨2,([]:ag),0,([]:List aa)⟩:aa))<|aI (ah (⟨2,([]:ag),0,([]:List aa)⟩:aa))<|rT)
  exact bo Vu call96 func96 (c:=VG) rfl (aI trivial trivial) z<|by kernel_rfl
abbrev kp:=(aa->aa->Option Bool)
abbrev pu(R:kp):Prop:=∀(a:aa) (a2:aa) (r:Bool),R a a2=some r->CC Pg GE 98 [.agg (ac a),.agg (ac a2)] (.bool r) []
noncomputable def OI:Code:=f124.body.getD .skip
def Nf:List Nat:=[17]
section
variable(R41:kp)(v:waB)(v2:waB)(t14:Int)(t15:Int)
def gD:ax:=aP 30 [(0,sl ac v),(1,sl ac v2),(2,.func (.func 98) [] []),(14,.int .i64 t14),(15,.int .i64 t15)] [] []
def gE(o:Unit⊕(Unit)):Exit:=match o with
 |(.inl _)=>.ret
 |(.inr _)=>.exit 0
def e9(o:Unit⊕(Unit)):ax:=match o with
 |(.inl o)=>aP 30 [(6,.bool false)] [] []
 |(.inr o)=>aP 30 [] [] []
def tw:Option (Int⊕(Unit⊕(Unit))):=
 if(decide (t15<t14))=true then
  (dT v t15).bind fun x4=>
  (dT v2 t15).bind fun x5=>
  (R41 x4 x5).bind fun r6=>
  if(!r6)=true then
   some (.inr (.inl ()))
  else
   some (.inl (bL (t15+1)))
 else
  some (.inr (.inr ()))
def xM:Option (Unit⊕(Unit)):=loop (fun(zz:Int)=>tw R41 v v2 t14 zz) t15
theorem Aq(hR41:pu R41){y:Int⊕(Unit⊕(Unit))}(h:tw R41 v v2 t14 t15=some y):aL Pg GE 0 (cA OI 119) (LQ (fun(zz:Int)=>gD v v2 t14 zz) gE e9 y) (gD v v2 t14 t15):=by
 rcases aJ h with⟨c3,h⟩|⟨c3,h⟩
 ·obtain⟨x4,bx4,h⟩:=ay h
  obtain⟨x5,bx5,h⟩:=ay h
  obtain⟨r6,br6,h⟩:=ay h
  have p8:=fun{sc F} (r:PS sc F)=>sg 0 c3<|ze [0,0,0,6,14,0,0,96,224,511,1023]<|sv (aZ.ia (k:=.i64) bx4)<|sv (aM x4)<|sv (aZ.ia (k:=.i64) bx5)<|sv (aM x5)<|aX (hR41 _ _ _ br6)<|r
  rcases aJ h with⟨c7,h⟩|⟨c7,h⟩
  ·obtain rfl:=lf h
   have z:=p8<|sg 0 c7<|eF (gE (.inl ())) (e9 (.inl ()))
   exact fG Nf (by intro hx;cases hx) z<|by kernel_rfl
  ·obtain rfl:=lf h
   exact pZ Nf (p8<|sg 0 c7<|eF .normal (gD v v2 t14 (bL (t15+1))))<|by kernel_rfl
 ·obtain rfl:=lf h
  have z:=sg 0 c3<|eF (gE (.inr ())) (e9 (.inr ()))
  exact fG Nf (by intro hx;cases hx) z<|by kernel_rfl
theorem rn(hR41:pu R41){x:Unit⊕(Unit)}(h:xM R41 v v2 t14 t15=some x):aL Pg GE 0 (.loop (cA OI 119)) (EX (gE x) (e9 x)) (gD v v2 t14 t15):=
 aL.loop (S:=fun(zz:Int)=>gD v v2 t14 zz) (ex:=gE) (s:=t15) h fun zz y hy=>Aq R41 v v2 t14 zz hR41 hy
end
def F3(R41:kp)(a:waB)(a2:waB):Option Bool:=
 if((a.length:Int)!=(a2.length:Int))=true then
  some false
 else
  (xM R41 a a2 (a.length:Int) 0).bind fun o9=>match o9 with
  |(.inl o9)=>
   some false
  |(.inr o9)=>
   some true
theorem Hs(R41:kp)(hR41:pu R41){a:waB}{a2:waB}{r:Bool}(h:F3 R41 a a2=some r):CC Pg GE 124 [sl ac a,sl ac a2,.func (.func 98) [] []] (.bool r) []:=by
 have p2:=fun{sc F} (r:PS sc F)=>cf (aZ.ln a)<|cf (aZ.ln a2)<|r
 rcases aJ h with⟨c1,h⟩|⟨c1,h⟩
 ·obtain rfl:=lf h
  have z:=p2<|sg 0 c1<|en (aI (rP (.bool false))<|trivial)
  exact bo Nf call124 func124 (c:=OI) rfl (aI (aw ah a) (aI (aw ah a2) (aI (aI trivial trivial) trivial))) z<|by kernel_rfl
 ·obtain⟨o9,bo9,h⟩:=ay h
  rcases o9 with o9|o9
  ·obtain rfl:=lf h
   have z:=p2<|sg 0 c1<|cf (aZ.ln a)<|ct (e:=.ret) (s1:=e9 (.inl o9)) (rn R41 a a2 (a.length:Int) 0 hR41 bo9)<|en (aI (rP (.bool false))<|trivial)
   exact bo Nf call124 func124 (c:=OI) rfl (aI (aw ah a) (aI (aw ah a2) (aI (aI trivial trivial) trivial))) z<|by kernel_rfl
  ·obtain rfl:=lf h
   have z:=p2<|sg 0 c1<|cf (aZ.ln a)<|ct (e:=.exit 0) (s1:=e9 (.inr o9)) (rn R41 a a2 (a.length:Int) 0 hR41 bo9)<|en (aI (rP (.bool true))<|trivial)
   exact bo Nf call124 func124 (c:=OI) rfl (aI (aw ah a) (aI (aw ah a2) (aI (aI trivial trivial) trivial))) z<|by kernel_rfl
noncomputable def Um:Code:=f98.body.getD .skip
def Ug:List Nat:=[]
def CN(R41:kp)(a:aa)(a2:aa):Option Bool:=
 if (a.Op == a2.Op) = true then
  if(a.Name==a2.Name)=true then
   if(a.N==a2.N)=true then
    (F3 R41 a.Kids a2.Kids).bind fun r7=>
    some r7
   else
    some false
  else
   some false
 else
  some false
theorem Hq(R41:kp)(hR41:pu R41){a:aa}{a2:aa}{r:Bool}(h:CN R41 a a2=some r):CC Pg GE 98 [.agg (ac a),.agg (ac a2)] (.bool r) []:=by
 have p2:=fun{sc F} (r:PS sc F)=>se (bJ a)<|se (bJ a2)<|sv (aD a)<|sv (aE a)<|sv (aD a2)<|sv (aE a2)<|r
 rcases aJ h with⟨c1,h⟩|⟨c1,h⟩
 ·have p4:=fun{sc F} (r:PS sc F)=>p2<|sg 6 c1<|sv (bp a)<|sv (bH a)<|sv (bp a2)<|sv (bH a2)<|r
  rcases aJ h with⟨c3,h⟩|⟨c3,h⟩
  ·have p6:=fun{sc F} (r:PS sc F)=>p4<|sg 13 c3<|sv (bu a)<|sv (bI a)<|sv (bu a2)<|sv (bI a2)<|r
   rcases aJ h with⟨c5,h⟩|⟨c5,h⟩
   ·obtain⟨r7,br7,h⟩:=ay h
    obtain rfl:=lf h
    have z:=p6<|sg 20 c5<|sv (aG a)<|sv (aH a)<|sv (aG a2)<|sv (aH a2)<|aX (Hs R41 hR41 br7)<|en (aI (rP (.bool r7))<|trivial)
    exact bo Ug call98 func98 (c:=Um) rfl (aI (ah a) (aI (ah a2) trivial)) z<|by kernel_rfl
   ·obtain rfl:=lf h
    have z:=p6<|sg 20 c5<|en (aI (rP (.bool false))<|trivial)
    exact bo Ug call98 func98 (c:=Um) rfl (aI (ah a) (aI (ah a2) trivial)) z<|by kernel_rfl
  ·obtain rfl:=lf h
   have z:=p4<|sg 13 c3<|en (aI (rP (.bool false))<|trivial)
   exact bo Ug call98 func98 (c:=Um) rfl (aI (ah a) (aI (ah a2) trivial)) z<|by kernel_rfl
 ·obtain rfl:=lf h
  have z:=p2<|sg 6 c1<|en (aI (rP (.bool false))<|trivial)
  exact bo Ug call98 func98 (c:=Um) rfl (aI (ah a) (aI (ah a2) trivial)) z<|by kernel_rfl
def CO:((aa×aa)->Option Bool)->(aa×aa)->Option Bool:=fun(rec:(aa×aa)->Option Bool) (x:aa×aa)=>CN (fun a a2=>rec (a,a2)) x.1 x.2
def rl(a:aa)(a2:aa):Option Bool:=lH CO (a,a2)
theorem nM{a:aa}{a2:aa}{r:Bool}(h:rl a a2=some r):CC Pg GE 98 [.agg (ac a),.agg (ac a2)] (.bool r) []:=
 cC (F:=CO) (M:=fun(x:aa×aa) (r:Bool)=>CC Pg GE 98 [.agg (ac x.1),.agg (ac x.2)] (.bool r) []) (fun rec hrec x r h=>Hq _ (fun a a2 r h=>hrec (a,a2) r h) h) h
noncomputable def VH:Code:=f97.body.getD .skip
def Vv:List Nat:=[]
def Ia(p:aa):Option Bool:=
 (rl p (⟨0,([]:ag),0,([]:List aa)⟩:aa)).bind fun r1=>
 if r1=true then
  some true
 else
  (jV true).bind fun r4=>
  (rl p r4).bind fun r5=>
  some r5
theorem Jw{p:aa}{r:Bool}(h:Ia p=some r):CC Pg GE 97 [.agg (ac p)] (.bool r) []:=by
 obtain⟨r1,br1,h⟩:=ay h
 have p3:=fun{sc F} (r:PS sc F)=>se (bJ p)<|ze [0,0,3,7,15,15,63,127,255]<|sv (aM p)<|sb (oC) (oA)<|aX (nM br1)<|r
 rcases aJ h with⟨c2,h⟩|⟨c2,h⟩
 ·obtain rfl:=lf h
  have z:=p3<|sg 4 c2<|en (aI (rP (.bool true))<|trivial)
  exact bo Vv call97 func97 (c:=VH) rfl (aI (ah p) trivial) z<|by kernel_rfl
 ·obtain⟨r4,br4,h⟩:=ay h
  obtain⟨r5,br5,h⟩:=ay h
  obtain rfl:=lf h
  have z:=p3<|sg 4 c2<|sv (aM p)<|aX (fT br4)<|aX (nM br5)<|en (aI (rP (.bool r5))<|trivial)
  exact bo Vv call97 func97 (c:=VH) rfl (aI (ah p) trivial) z<|by kernel_rfl
noncomputable def Ul:Code:=f54.body.getD .skip
def RV:List Nat:=[25]
section
variable(t8:waB)(t9:Int)(v:Bool)(t10:Int)(m:Int)(m2:ag)(m3:Int)(m4:waB)(m5:Int)(m6:ag)(m7:Int)(m8:waB)
def fx:ax:=aP 33 [(2,.bptr 0 0),(3,.bptr 1 0),(4,.bool v),(8,sl ac t8),(9,.int .i64 t9),(10,.int .i64 t10)] [.cells [.int .i64 m,.str m2,.int .i64 m3,sl ac m4] [(3,28)],.cells [.int .i64 m5,.str m6,.int .i64 m7,sl ac m8] []] []
def jU(o:(Int×ag×Int×waB×Int×ag×Int×waB)⊕(Int×ag×Int×waB×Int×ag×Int×waB)):Exit:=match o with
 |(.inl _)=>.ret
 |(.inr _)=>.exit 0
def hX(o:(Int×ag×Int×waB×Int×ag×Int×waB)⊕(Int×ag×Int×waB×Int×ag×Int×waB)):ax:=match o with
 |(.inl o)=>aP 33 [(2,.bptr 0 0)] [.cells [.int .i64 o.1,.str o.2.1,.int .i64 o.2.2.1,sl ac o.2.2.2.1] [(3,28)],.cells [.int .i64 o.2.2.2.2.1,.str o.2.2.2.2.2.1,.int .i64 o.2.2.2.2.2.2.1,sl ac o.2.2.2.2.2.2.2] []] []
 |(.inr o)=>aP 33 [(2,.bptr 0 0),(3,.bptr 1 0)] [.cells [.int .i64 o.1,.str o.2.1,.int .i64 o.2.2.1,sl ac o.2.2.2.1] [(3,28)],.cells [.int .i64 o.2.2.2.2.1,.str o.2.2.2.2.2.1,.int .i64 o.2.2.2.2.2.2.1,sl ac o.2.2.2.2.2.2.2] []] []
def xH:Option ((Bool×Int×Int×ag×Int×waB×Int×ag×Int×waB)⊕((Int×ag×Int×waB×Int×ag×Int×waB)⊕(Int×ag×Int×waB×Int×ag×Int×waB))):=
 if (decide (t10 < t9)) = true then
  (dT t8 t10).bind fun x3=>
  (Ia x3).bind fun r4=>
  if r4=true then
   some (.inl (v,bL (t10+1),m,m2,m3,m4,m5,m6,m7,m8))
  else
   (jV false).bind fun r7=>
   (rl x3 r7).bind fun r8=>
   if r8=true then
    (jV false).bind fun r11=>
    some (.inr (.inl (r11.Op,r11.Name,r11.N,r11.Kids,m5,m6,m7,m8)))
   else
    if v=true then
     (mJ x3).bind fun r14=>
     some (.inl (v,bL (t10+1),m,m2,m3,m4,15,([]:ag),0,([(⟨m5,m6,m7,m8⟩:aa),r14]:List aa)))
    else
     (mJ x3).bind fun r15=>
     some (.inl (true,bL (t10+1),m,m2,m3,m4,r15.Op,r15.Name,r15.N,r15.Kids))
 else
  some (.inr (.inr (m,m2,m3,m4,m5,m6,m7,m8)))
def CM:Option ((Int×ag×Int×waB×Int×ag×Int×waB)⊕(Int×ag×Int×waB×Int×ag×Int×waB)):=loop (fun(zz:Bool×Int×Int×ag×Int×waB×Int×ag×Int×waB)=>xH t8 t9 zz.1 zz.2.1 zz.2.2.1 zz.2.2.2.1 zz.2.2.2.2.1 zz.2.2.2.2.2.1 zz.2.2.2.2.2.2.1 zz.2.2.2.2.2.2.2.1 zz.2.2.2.2.2.2.2.2.1 zz.2.2.2.2.2.2.2.2.2) (v,t10,m,m2,m3,m4,m5,m6,m7,m8)
theorem DC{y:(Bool×Int×Int×ag×Int×waB×Int×ag×Int×waB)⊕((Int×ag×Int×waB×Int×ag×Int×waB)⊕(Int×ag×Int×waB×Int×ag×Int×waB))}(h:xH t8 t9 v t10 m m2 m3 m4 m5 m6 m7 m8=some y):aL Pg GE 0 (cA Ul 119) (LQ (fun(zz:Bool×Int×Int×ag×Int×waB×Int×ag×Int×waB)=>fx t8 t9 zz.1 zz.2.1 zz.2.2.1 zz.2.2.2.1 zz.2.2.2.2.1 zz.2.2.2.2.2.1 zz.2.2.2.2.2.2.1 zz.2.2.2.2.2.2.2.1 zz.2.2.2.2.2.2.2.2.1 zz.2.2.2.2.2.2.2.2.2) jU hX y) (fx t8 t9 v t10 m m2 m3 m4 m5 m6 m7 m8):=by
 rcases aJ h with⟨c2,h⟩|⟨c2,h⟩
 ·obtain⟨x3,bx3,h⟩:=ay h
  obtain⟨r4,br4,h⟩:=ay h
  have p6:=fun{sc F} (r:PS sc F)=>sg 0 c2<|sv (aZ.ia (k:=.i64) bx3)<|sv (aM x3)<|sx fY<|sx (cb x3)<|sv (bj x3 [])<|aX (Jw br4)<|r
  rcases aJ h with⟨c5,h⟩|⟨c5,h⟩
  ·obtain rfl:=lf h
   have z:=p6<|sg 0 c5<|pq 0 .normal (fx t8 t9 v (bL (t10+1)) m m2 m3 m4 m5 m6 m7 m8) rfl (cG (aI (fh rfl) (aI (fh rfl) (aI trivial (aI (up (aw ah t8)) (aI trivial (aI trivial trivial))))))) (aI (aI trivial (aI trivial (aI trivial (aI (up (aw ah m4)) trivial)))) (aI (aI trivial (aI trivial (aI trivial (aI (up (aw ah m8)) trivial)))) trivial))
   exact cJ (A:=RV) mixed z<|by kernel_rfl
  ·obtain⟨r7,br7,h⟩:=ay h
   obtain⟨r8,br8,h⟩:=ay h
   have p10:=fun{sc F} (r:PS sc F)=>p6<|sg 0 c5<|ze [0,0,3,7]<|sv (bj x3 [])<|aX (fT br7)<|aX (nM br8)<|r
   rcases aJ h with⟨c9,h⟩|⟨c9,h⟩
   ·obtain⟨r11,br11,h⟩:=ay h
    obtain rfl:=lf h
    have z:=p10<|sg 0 c9<|aX (fT br11)<|sy (aQ r11)<|pq 0 (jU (.inl (r11.Op,r11.Name,r11.N,r11.Kids,m5,m6,m7,m8))) (hX (.inl (r11.Op,r11.Name,r11.N,r11.Kids,m5,m6,m7,m8))) rfl (cG (aI (fh rfl) trivial)) (aI (aI trivial (aI trivial (aI trivial (aI (up (aw ah r11.Kids)) trivial)))) (aI (aI trivial (aI trivial (aI trivial (aI (up (aw ah m8)) trivial)))) trivial))
    exact oM (A:=RV) mixed (by intro hx;cases hx) z<|by kernel_rfl
   ·have p13:=fun{sc F} (r:PS sc F)=>p10<|sg 0 c9<|r
    rcases aJ h with⟨c12,h⟩|⟨c12,h⟩
    ·obtain⟨r14,br14,h⟩:=ay h
     obtain rfl:=lf h
     have z:=p13<|sg 0 c12<|ze [0,0,2,7,15,31]<|sv (bj (⟨m5,m6,m7,m8⟩:aa) [])<|sv (bj x3 [])<|aX (oR br14)<|sv (aZ.mk' (v:=cu) bK ([(⟨m5,m6,m7,m8⟩:aa),r14]:List aa) 2 (by kernel_rfl))<|sv (nF 15 ([(⟨m5,m6,m7,m8⟩:aa),r14]:List aa))<|sx (cb (⟨15,([]:ag),0,([(⟨m5,m6,m7,m8⟩:aa),r14]:List aa)⟩:aa))<|pq 0 .normal (fx t8 t9 v (bL (t10+1)) m m2 m3 m4 15 ([]:ag) 0 ([(⟨m5,m6,m7,m8⟩:aa),r14]:List aa)) rfl (cG (aI (fh rfl) (aI (fh rfl) (aI trivial (aI (up (aw ah t8)) (aI trivial (aI trivial trivial))))))) (aI (aI trivial (aI trivial (aI trivial (aI (up (aw ah m4)) trivial)))) (aI (aI trivial (aI trivial (aI trivial (aI (up (aw ah ([(⟨m5,m6,m7,m8⟩:aa),r14]:List aa))) trivial)))) trivial))
     exact cJ (A:=RV) mixed z<|by kernel_rfl
    ·obtain⟨r15,br15,h⟩:=ay h
     obtain rfl:=lf h
     have z:=p13<|sg 0 c12<|sv (bj x3 [])<|aX (oR br15)<|sy (aQ r15)<|pq 0 .normal (fx t8 t9 true (bL (t10+1)) m m2 m3 m4 r15.Op r15.Name r15.N r15.Kids) rfl (cG (aI (fh rfl) (aI (fh rfl) (aI trivial (aI (up (aw ah t8)) (aI trivial (aI trivial trivial))))))) (aI (aI trivial (aI trivial (aI trivial (aI (up (aw ah m4)) trivial)))) (aI (aI trivial (aI trivial (aI trivial (aI (up (aw ah r15.Kids)) trivial)))) trivial))
     exact cJ (A:=RV) mixed z<|by kernel_rfl
 ·obtain rfl:=lf h
  have z:=sg 0 c2<|eF (jU (.inr (m,m2,m3,m4,m5,m6,m7,m8))) (hX (.inr (m,m2,m3,m4,m5,m6,m7,m8)))
  exact fG RV (by intro hx;cases hx) z<|by kernel_rfl
theorem vH{x:(Int×ag×Int×waB×Int×ag×Int×waB)⊕(Int×ag×Int×waB×Int×ag×Int×waB)}(h:CM t8 t9 v t10 m m2 m3 m4 m5 m6 m7 m8=some x):aL Pg GE 0 (.loop (cA Ul 119)) (EX (jU x) (hX x)) (fx t8 t9 v t10 m m2 m3 m4 m5 m6 m7 m8):=
 aL.loop (S:=fun(zz:Bool×Int×Int×ag×Int×waB×Int×ag×Int×waB)=>fx t8 t9 zz.1 zz.2.1 zz.2.2.1 zz.2.2.2.1 zz.2.2.2.2.1 zz.2.2.2.2.2.1 zz.2.2.2.2.2.2.1 zz.2.2.2.2.2.2.2.1 zz.2.2.2.2.2.2.2.2.1 zz.2.2.2.2.2.2.2.2.2) (ex:=jU) (s:=(v,t10,m,m2,m3,m4,m5,m6,m7,m8)) h fun zz y hy=>DC t8 t9 zz.1 zz.2.1 zz.2.2.1 zz.2.2.2.1 zz.2.2.2.2.1 zz.2.2.2.2.2.1 zz.2.2.2.2.2.2.1 zz.2.2.2.2.2.2.2.1 zz.2.2.2.2.2.2.2.2.1 zz.2.2.2.2.2.2.2.2.2 hy
end
def KO(a:waB):Option aa:=
 (jV true).bind fun r1=>
 (CM a (a.length:Int) false 0 0 ([]:ag) 0 ([]:List aa) r1.Op r1.Name r1.N r1.Kids).bind fun o16=>match o16 with
 |(.inl o16)=>
  some (⟨o16.1,o16.2.1,o16.2.2.1,o16.2.2.2.1⟩:aa)
 |(.inr o16)=>
  some (⟨o16.2.2.2.2.1,o16.2.2.2.2.2.1,o16.2.2.2.2.2.2.1,o16.2.2.2.2.2.2.2⟩:aa)
theorem KP{a:waB}{r:aa}(h:KO a=some r):CC Pg GE 54 [sl ac a] (.agg (ac r)) []:=by
 obtain⟨r1,br1,h⟩:=ay h
 obtain⟨o16,bo16,h⟩:=ay h
 rcases o16 with o16|o16
 ·obtain rfl:=lf h
  have z:=sx fY<|aX (fT br1)<|sx fY<|sy (aQ r1)<|cf (aZ.ln a)<|ct (e:=.ret) (s1:=hX (.inl o16)) (vH a (a.length:Int) false 0 0 ([]:ag) 0 ([]:List aa) r1.Op r1.Name r1.N r1.Kids bo16)<|en (aI (dw (⟨o16.1,o16.2.1,o16.2.2.1,o16.2.2.2.1⟩:aa))<|(ah (⟨o16.1,o16.2.1,o16.2.2.1,o16.2.2.2.1⟩:aa)))
  exact bo RV call54 func54 (c:=Ul) rfl (aI (aw ah a) trivial) z<|by kernel_rfl
 ·obtain rfl:=lf h
  have z:=sx fY<|aX (fT br1)<|sx fY<|sy (aQ r1)<|cf (aZ.ln a)<|ct (e:=.exit 0) (s1:=hX (.inr o16)) (vH a (a.length:Int) false 0 0 ([]:ag) 0 ([]:List aa) r1.Op r1.Name r1.N r1.Kids bo16)<|sv (bj (⟨o16.2.2.2.2.1,o16.2.2.2.2.2.1,o16.2.2.2.2.2.2.1,o16.2.2.2.2.2.2.2⟩:aa) [])<|sx (cb (⟨o16.2.2.2.2.1,o16.2.2.2.2.2.1,o16.2.2.2.2.2.2.1,o16.2.2.2.2.2.2.2⟩:aa))<|en (aI (dw (⟨o16.2.2.2.2.1,o16.2.2.2.2.2.1,o16.2.2.2.2.2.2.1,o16.2.2.2.2.2.2.2⟩:aa))<|(ah (⟨o16.2.2.2.2.1,o16.2.2.2.2.2.1,o16.2.2.2.2.2.2.1,o16.2.2.2.2.2.2.2⟩:aa)))
  exact bo RV call54 func54 (c:=Ul) rfl (aI (aw ah a) trivial) z<|by kernel_rfl
noncomputable def Vx:Code:=f20.body.getD .skip
def Vm:List Nat:=[]
def CR(t:ae)(p:aa):Option ae:=
 (pd t).bind fun r1=>
 if(t.Op !=6)=true then
  (KO ([t.Pred,p]:List aa)).bind fun r4=>
  some (⟨r1.Op,r1.Name,r1.Args,r1.Names,r4,r1.Preds⟩:ae)
 else
  some r1
theorem Gh{t:ae}{p:aa}{r:ae}(h:CR t p=some r):CC Pg GE 20 [.agg (af t),.agg (ac p)] (.agg (af r)) [(2,30),(8,28)]:=by
 obtain⟨r1,br1,h⟩:=ay h
 have p3:=fun{sc F} (r:PS sc F)=>se (bR t)<|se (bJ p)<|sx jc<|sv (aV t)<|aX (qf br1)<|sx jc<|sy (aU r1)<|sv (aq t)<|sv (au t)<|r
 rcases aJ h with⟨c2,h⟩|⟨c2,h⟩
 ·obtain⟨r4,br4,h⟩:=ay h
  obtain rfl:=lf h
  have z:=p3<|sg 0 c2<|sv (bZ t)<|sv (b6 t)<|sv (aM p)<|sv (aZ.mk' (v:=cu) bK ([t.Pred,p]:List aa) 2 (by kernel_rfl))<|aX (KP br4)<|sx (cb r4)<|sz (bw (⟨r1.Op,r1.Name,r1.Args,r1.Names,r4,r1.Preds⟩:ae) [])<|sy (aU (⟨r1.Op,r1.Name,r1.Args,r1.Names,r4,r1.Preds⟩:ae))<|en (aI (dy (⟨r1.Op,r1.Name,r1.Args,r1.Names,r4,r1.Preds⟩:ae))<|aI (al (⟨r1.Op,r1.Name,r1.Args,r1.Names,r4,r1.Preds⟩:ae))<|rT)
  exact bo Vm call20 func20 (c:=Vx) rfl (aI (al t) (aI (ah p) trivial)) z<|by kernel_rfl
 ·obtain rfl:=lf h
  have z:=p3<|sg 0 c2<|sz (bw r1 [])<|sy (aU r1)<|en (aI (dy r1)<|aI (al r1)<|rT)
  exact bo Vm call20 func20 (c:=Vx) rfl (aI (al t) (aI (ah p) trivial)) z<|by kernel_rfl
noncomputable def Uh:Code:=f25.body.getD .skip
def Rt:List Nat:=[]
section
variable(name:ag)(t:ae)(t7:Int)(m:waC)(m2:waB)
def AI:ax:=aP 24 [(1,.str name),(2,.eptr (af t)),(4,.bptr 1 0),(5,.int .i64 10),(7,.int .i64 t7)] [.dead,.cells [.int .i64 0,.str ([]:ag),sl af m,sl cS ([]:List ag),.int .i64 0,.str ([]:ag),.int .i64 0,sl ac m2,sl ac m2] [(2,30),(3,9),(7,28),(8,28)]] []
def ii(o:Bool):ax:=aP 24 [(1,.str name),(2,.eptr (af t)),(4,.bptr 1 0),(5,.int .i64 10),(12,.bool o)] [.dead,.cells [.int .i64 0,.str ([]:ag),sl af m,sl cS ([]:List ag),.int .i64 0,.str ([]:ag),.int .i64 0,sl ac m2,sl ac m2] [(2,30),(3,9),(7,28),(8,28)]] []
def tA:Option Bool:=
 if(t7==1)=true then
  some (t7==1)
 else
  if(t7==3)=true then
   some (t7==3)
  else
   some (t7==4)
theorem zb{x:Bool}(h:tA t7=some x):aL Pg GE 0 (cA Uh 478) (EX .normal (ii name t m m2 x)) (AI name t t7 m m2):=by
 rcases aJ h with⟨c3,h⟩|⟨c3,h⟩
 ·obtain rfl:=lf h
  exact bm Rt (sg 0 c3<|eF .normal (ii name t m m2 (t7==1)))<|by kernel_rfl
 ·rcases aJ h with⟨c4,h⟩|⟨c4,h⟩
  ·obtain rfl:=lf h
   exact bm Rt (sg 0 c3<|sg 0 c4<|eF .normal (ii name t m m2 (t7==3)))<|by kernel_rfl
  ·obtain rfl:=lf h
   exact bm Rt (sg 0 c3<|sg 0 c4<|eF .normal (ii name t m m2 (t7==4)))<|by kernel_rfl
end
section
variable(name:ag)(t:ae)(m:waC)(m2:waB)
def AH:ax:=aP 24 [(1,.str name),(2,.eptr (af t)),(4,.bptr 1 0),(5,.int .i64 10)] [.dead,.cells [.int .i64 0,.str ([]:ag),sl af m,sl cS ([]:List ag),.int .i64 0,.str ([]:ag),.int .i64 0,sl ac m2,sl ac m2] [(2,30),(3,9),(7,28),(8,28)]] []
def ig(o:Int⊕(Int×ag×waC×waA×Int×ag×Int×waB×waB)):Exit:=match o with
 |(.inl _)=>.normal
 |(.inr _)=>.ret
def d7(o:Int⊕(Int×ag×waC×waA×Int×ag×Int×waB×waB)):ax:=match o with
 |(.inl o)=>aP 24 [(1,.str name),(2,.eptr (af t)),(4,.bptr 1 0),(5,.int .i64 o)] [.dead,.cells [.int .i64 0,.str ([]:ag),sl af m,sl cS ([]:List ag),.int .i64 0,.str ([]:ag),.int .i64 0,sl ac m2,sl ac m2] [(2,30),(3,9),(7,28),(8,28)]] []
 |(.inr o)=>aP 24 [(4,.bptr 1 0)] [.dead,.cells [.int .i64 o.1,.str o.2.1,sl af o.2.2.1,sl cS o.2.2.2.1,.int .i64 o.2.2.2.2.1,.str o.2.2.2.2.2.1,.int .i64 o.2.2.2.2.2.2.1,sl ac o.2.2.2.2.2.2.2.1,sl ac o.2.2.2.2.2.2.2.2] [(2,30),(8,28)]] []
def tz:Option (Int⊕(Int×ag×waC×waA×Int×ag×Int×waB×waB)):=
 if(t.Op==2)=true then
  some (.inl 18)
 else
  (tA t.Op).bind fun o5=>
  if o5=true then
   some (.inl 10)
  else
   (pd t).bind fun r8=>
   some (.inr (r8.Op,r8.Name,r8.Args,r8.Names,r8.Pred.Op,r8.Pred.Name,r8.Pred.N,r8.Pred.Kids,r8.Preds))
theorem pb{x:Int⊕(Int×ag×waC×waA×Int×ag×Int×waB×waB)}(h:tz t=some x):aL Pg GE 0 (cA Uh 14) (EX (ig x) (d7 name t m m2 x)) (AH name t m m2):=by
 have p2:=fun{sc F} (r:PS sc F)=>sv (aq t)<|sv (au t)<|r
 rcases aJ h with⟨c1,h⟩|⟨c1,h⟩
 ·obtain rfl:=lf h
  exact bm Rt (p2<|sg 0 c1<|eF (ig (.inl 18)) (d7 name t m m2 (.inl 18)))<|by kernel_rfl
 ·obtain⟨o5,bo5,h⟩:=ay h
  have p7:=fun{sc F} (r:PS sc F)=>p2<|sg 0 c1<|iO 0<|ct (zb name t t.Op m m2 bo5)<|r
  rcases aJ h with⟨c6,h⟩|⟨c6,h⟩
  ·obtain rfl:=lf h
   exact bm Rt (p7<|sg 0 c6<|eF (ig (.inl 10)) (d7 name t m m2 (.inl 10)))<|by kernel_rfl
  ·obtain⟨r8,br8,h⟩:=ay h
   obtain rfl:=lf h
   exact bm Rt (p7<|sg 0 c6<|sv (aV t)<|aX (qf br8)<|sy (aU r8)<|eF (ig (.inr (r8.Op,r8.Name,r8.Args,r8.Names,r8.Pred.Op,r8.Pred.Name,r8.Pred.N,r8.Pred.Kids,r8.Preds))) (d7 name t m m2 (.inr (r8.Op,r8.Name,r8.Args,r8.Names,r8.Pred.Op,r8.Pred.Name,r8.Pred.N,r8.Pred.Kids,r8.Preds))))<|by kernel_rfl
end
def AG(t:ae)(name:ag):Option ae:=
 (tz t).bind fun o9=>match o9 with
 |(.inl o9)=>
  (CR t (⟨o9,([]:ag),0,([(⟨3,([118]:ag),0,([]:List aa)⟩:aa),(⟨3,name,0,([]:List aa)⟩:aa)]:List aa)⟩:aa)).bind fun r10=>
  some r10
 |(.inr o9)=>
  some (⟨o9.1,o9.2.1,o9.2.2.1,o9.2.2.2.1,(⟨o9.2.2.2.2.1,o9.2.2.2.2.2.1,o9.2.2.2.2.2.2.1,o9.2.2.2.2.2.2.2.1⟩:aa),o9.2.2.2.2.2.2.2.2⟩:ae)
theorem DQ{t:ae}{name:ag}{r:ae}(h:AG t name=some r):CC Pg GE 25 [.agg (af t),.str name] (.agg (af r)) [(2,30),(8,28)]:=by
 obtain⟨o9,bo9,h⟩:=ay h
 rcases o9 with o9|o9
 ·obtain⟨r10,br10,h⟩:=ay h
  obtain rfl:=lf h
  have z:=se (bR t)<|sx jc<|iO 1<|ct (e:=.normal) (s1:=d7 name t ([]:List ae) ([]:List aa) (.inl o9)) (pb name t ([]:List ae) ([]:List aa) bo9)<|sv (aV t)<|sb (nD 3 ([118]:ag)) (nA 3 ([118]:ag))<|sb (nD 3 name) (nA 3 name)<|sv (aZ.mk' (v:=cu) bK ([(⟨3,([118]:ag),0,([]:List aa)⟩:aa),(⟨3,name,0,([]:List aa)⟩:aa)]:List aa) 2 (by kernel_rfl))<|sv (nF o9 ([(⟨3,([118]:ag),0,([]:List aa)⟩:aa),(⟨3,name,0,([]:List aa)⟩:aa)]:List aa))<|aX (Gh br10)<|sy (aU r10)<|en (aI (dy r10)<|aI (al r10)<|rT)
  exact bo Rt call25 func25 (c:=Uh) rfl (aI (al t) (aI trivial trivial)) z<|by kernel_rfl
 ·obtain rfl:=lf h
  have z:=se (bR t)<|sx jc<|iO 1<|ct (e:=.ret) (s1:=d7 name t ([]:List ae) ([]:List aa) (.inr o9)) (pb name t ([]:List ae) ([]:List aa) bo9)<|en (aI (dy (⟨o9.1,o9.2.1,o9.2.2.1,o9.2.2.2.1,(⟨o9.2.2.2.2.1,o9.2.2.2.2.2.1,o9.2.2.2.2.2.2.1,o9.2.2.2.2.2.2.2.1⟩:aa),o9.2.2.2.2.2.2.2.2⟩:ae))<|aI (al (⟨o9.1,o9.2.1,o9.2.2.1,o9.2.2.2.1,(⟨o9.2.2.2.2.1,o9.2.2.2.2.2.1,o9.2.2.2.2.2.2.1,o9.2.2.2.2.2.2.2.1⟩:aa),o9.2.2.2.2.2.2.2.2⟩:ae))<|rT)
  exact bo Rt call25 func25 (c:=Uh) rfl (aI (al t) (aI trivial trivial)) z<|by kernel_rfl
abbrev mg:=(ae->Option Int)
abbrev qn(R:mg):Prop:=∀(t:ae) (r:Int),R t=some r->CC Pg GE 112 [.agg (af t)] (.int .i64 r) []
noncomputable def R6:Code:=f112.body.getD .skip
def RL:List Nat:=[]
section
variable(R45:mg)(t7:waC)(t8:Int)(n:Int)(t9:Int)
def f7:ax:=aP 20 [(3,.int .i64 n),(7,sl af t7),(8,.int .i64 t8),(9,.int .i64 t9)] [.dead] []
def lY(o:Int):ax:=aP 20 [(3,.int .i64 o)] [.dead] []
def rA:Option ((Int×Int)⊕(Int)):=
 if(decide (t9<t8))=true then
  (dT t7 t9).bind fun x2=>
  (R45 x2).bind fun r3=>
  some (.inl ((if r3>n then r3 else n),bL (t9+1)))
 else
  some (.inr n)
def v7:Option Int:=loop (fun(zz:Int×Int)=>rA R45 t7 t8 zz.1 zz.2) (n,t9)
theorem zj(hR45:qn R45){y:(Int×Int)⊕(Int)}(h:rA R45 t7 t8 n t9=some y):aL Pg GE 0 (cA R6 119) (LQ (fun(zz:Int×Int)=>f7 t7 t8 zz.1 zz.2) (fun _=>.exit 0) lY y) (f7 t7 t8 n t9):=by
 rcases aJ h with⟨c1,h⟩|⟨c1,h⟩
 ·obtain⟨x2,bx2,h⟩:=ay h
  obtain⟨r3,br3,h⟩:=ay h
  obtain rfl:=lf h
  have z:=sg 0 c1<|sv (cO.ia (k:=.i64) bx2)<|sv (aV x2)<|sx jc<|sx (cQ x2)<|sv (bw x2 [])<|aX (hR45 _ _ br3)<|pq 0 .normal (f7 t7 t8 (if r3>n then r3 else n) (bL (t9+1))) rfl (cG (aI trivial (aI (up (aw al t7)) (aI trivial (aI trivial trivial))))) (aI trivial trivial)
  exact cJ (A:=RL) mixed z<|by kernel_rfl
 ·obtain rfl:=lf h
  have z:=sg 0 c1<|eF (.exit 0) (lY n)
  exact fG RL (by intro hx;cases hx) z<|by kernel_rfl
theorem AZ(hR45:qn R45){x:Int}(h:v7 R45 t7 t8 n t9=some x):aL Pg GE 0 (.loop (cA R6 119)) (EX (.exit 0) (lY x)) (f7 t7 t8 n t9):=
 aL.loop (S:=fun(zz:Int×Int)=>f7 t7 t8 zz.1 zz.2) (ex:=(fun _=>.exit 0)) (s:=(n,t9)) h fun zz y hy=>zj R45 t7 t8 zz.1 zz.2 hR45 hy
end
def xU(R45:mg)(t:ae):Option Int:=
 (v7 R45 t.Args (t.Args.length:Int) 0 0).bind fun o4=>
 some (bL (o4+1))
theorem DT(R45:mg)(hR45:qn R45){t:ae}{r:Int}(h:xU R45 t=some r):CC Pg GE 112 [.agg (af t)] (.int .i64 r) []:=by
 obtain⟨o4,bo4,h⟩:=ay h
 obtain rfl:=lf h
 have z:=se (bR t)<|sv (aA t)<|sv (aB t)<|cf (cO.ln t.Args)<|ct (AZ R45 t.Args (t.Args.length:Int) 0 0 hR45 bo4)<|en (aI (rP (.int .i64 (bL (o4+1))))<|trivial)
 exact bo RL call112 func112 (c:=R6) rfl (aI (al t) trivial) z<|by kernel_rfl
def xV:(ae->Option Int)->(ae)->Option Int:=fun(rec:ae->Option Int) (x:ae)=>xU (fun t=>rec t) x
def CV(t:ae):Option Int:=lH xV t
theorem Gv{t:ae}{r:Int}(h:CV t=some r):CC Pg GE 112 [.agg (af t)] (.int .i64 r) []:=
 cC (F:=xV) (M:=fun(x:ae) (r:Int)=>CC Pg GE 112 [.agg (af x)] (.int .i64 r) []) (fun rec hrec x r h=>DT _ (fun t r h=>hrec t r h) h) h
abbrev nx:=(ae->Option Int)
abbrev rH(R:nx):Prop:=∀(t:ae) (r:Int),R t=some r->CC Pg GE 113 [.agg (af t)] (.int .i64 r) []
noncomputable def Nm:Code:=f133.body.getD .skip
def Ip:List Nat:=[]
section
variable(t:ae)
def Ci:ax:=aP 39 [(1,.eptr (af t))] [.dead] []
def f6(o:Bool):ax:=aP 39 [(38,.bool o)] [.dead] []
def v6:Option Bool:=
 if(decide ((t.Args.length:Int)<2))=true then
  some true
 else
  if(decide ((t.Args.length:Int)>7))=true then
   some true
  else
   if((t.Names.length:Int)!=0)=true then
    some ((t.Names.length:Int)!=(bL ((t.Args.length:Int) - 1)))
   else
    some false
theorem AY{x:Bool}(h:v6 t=some x):aL Pg GE 0 (cA Nm 892) (EX .normal (f6 x)) (Ci t):=by
 have p8:=fun{sc F} (r:PS sc F)=>sv (aA t)<|sv (aB t)<|cf (cO.ln t.Args)<|r
 rcases aJ h with⟨c7,h⟩|⟨c7,h⟩
 ·obtain rfl:=lf h
  exact bm Ip (p8<|sg 5 c7<|eF .normal (f6 true))<|by kernel_rfl
 ·have p10:=fun{sc F} (r:PS sc F)=>p8<|sg 5 c7<|sv (aA t)<|sv (aB t)<|cf (cO.ln t.Args)<|r
  rcases aJ h with⟨c9,h⟩|⟨c9,h⟩
  ·obtain rfl:=lf h
   exact bm Ip (p10<|sg 11 c9<|eF .normal (f6 true))<|by kernel_rfl
  ·have p12:=fun{sc F} (r:PS sc F)=>p10<|sg 11 c9<|sv (aN t)<|sv (aO t)<|cf (bh.ln t.Names)<|r
   rcases aJ h with⟨c11,h⟩|⟨c11,h⟩
   ·obtain rfl:=lf h
    exact bm Ip (p12<|sg 16 c11<|sv (aN t)<|sv (aO t)<|cf (bh.ln t.Names)<|sv (aA t)<|sv (aB t)<|cf (cO.ln t.Args)<|eF .normal (f6 ((t.Names.length:Int)!=(bL ((t.Args.length:Int) - 1)))))<|by kernel_rfl
   ·obtain rfl:=lf h
    exact bm Ip (p12<|sg 16 c11<|eF .normal (f6 false))<|by kernel_rfl
end
def CU(t:ae):Option Int:=
 if(t.Op==4)=true then
  if(decide ((t.Args.length:Int)>6))=true then
   some 13
  else
   some 0
 else
  if(t.Op==6)=true then
   (v6 t).bind fun o13=>
   if o13=true then
    some 13
   else
    some 0
  else
   some 0
theorem Gu{t:ae}{r:Int}(h:CU t=some r):CC Pg GE 133 [.agg (af t)] (.int .i64 r) []:=by
 have p2:=fun{sc F} (r:PS sc F)=>se (bR t)<|sv (aq t)<|sv (au t)<|r
 rcases aJ h with⟨c1,h⟩|⟨c1,h⟩
 ·have p4:=fun{sc F} (r:PS sc F)=>p2<|sg 0 c1<|sv (aA t)<|sv (aB t)<|cf (cO.ln t.Args)<|r
  rcases aJ h with⟨c3,h⟩|⟨c3,h⟩
  ·obtain rfl:=lf h
   have z:=p4<|sg 0 c3<|en (aI (rP (.int .i64 13))<|trivial)
   exact bo Ip call133 func133 (c:=Nm) rfl (aI (al t) trivial) z<|by kernel_rfl
  ·obtain rfl:=lf h
   have z:=p4<|sg 0 c3<|en (aI (rP (.int .i64 0))<|trivial)
   exact bo Ip call133 func133 (c:=Nm) rfl (aI (al t) trivial) z<|by kernel_rfl
 ·have p6:=fun{sc F} (r:PS sc F)=>p2<|sg 0 c1<|r
  rcases aJ h with⟨c5,h⟩|⟨c5,h⟩
  ·obtain⟨o13,bo13,h⟩:=ay h
   have p15:=fun{sc F} (r:PS sc F)=>p6<|sg 0 c5<|iO 0<|ct (AY t bo13)<|r
   rcases aJ h with⟨c14,h⟩|⟨c14,h⟩
   ·obtain rfl:=lf h
    have z:=p15<|sg 0 c14<|en (aI (rP (.int .i64 13))<|trivial)
    exact bo Ip call133 func133 (c:=Nm) rfl (aI (al t) trivial) z<|by kernel_rfl
   ·obtain rfl:=lf h
    have z:=p15<|sg 0 c14<|en (aI (rP (.int .i64 0))<|trivial)
    exact bo Ip call133 func133 (c:=Nm) rfl (aI (al t) trivial) z<|by kernel_rfl
  ·obtain rfl:=lf h
   have z:=p6<|sg 0 c5<|en (aI (rP (.int .i64 0))<|trivial)
   exact bo Ip call133 func133 (c:=Nm) rfl (aI (al t) trivial) z<|by kernel_rfl
noncomputable def Qy:Code:=f157.body.getD .skip
def Ov:List Nat:=[23]
section
variable(s:ag)(i:Int)
def iH:ax:=aP 24 [(0,.str s),(5,.int .i64 i)] [] []
def iI(o:(ag×ag)⊕(Unit)):Exit:=match o with
 |(.inl _)=>.ret
 |(.inr _)=>.exit 0
def fR(o:(ag×ag)⊕(Unit)):ax:=match o with
 |(.inl o)=>aP 24 [(2,.str o.1),(3,.str o.2),(4,.bool true)] [] []
 |(.inr o)=>aP 24 [(0,.str s)] [] []
def vB:Option (Int⊕((ag×ag)⊕(Unit))):=
 if(decide (i<(s.length:Int)))=true then
  (gk s i).bind fun c2=>
  if(c2==46)=true then
   (GA s none (some i)).bind fun s5=>
   (GA s (some (bL (i+1))) none).bind fun s6=>
   some (.inr (.inl (s5,s6)))
  else
   some (.inl (bL (i+1)))
 else
  some (.inr (.inr ()))
def zX:Option ((ag×ag)⊕(Unit)):=loop (fun(zz:Int)=>vB s zz) i
theorem BJ{y:Int⊕((ag×ag)⊕(Unit))}(h:vB s i=some y):aL Pg GE 0 (cA Qy 55) (LQ (fun(zz:Int)=>iH s zz) iI (fR s) y) (iH s i):=by
 rcases aJ h with⟨c1,h⟩|⟨c1,h⟩
 ·obtain⟨c2,bc2,h⟩:=ay h
  have p4:=fun{sc F} (r:PS sc F)=>cf (eX underlying9 s)<|sg 0 c1<|sv (eE (k:=.i64) underlying9 bc2)<|r
  rcases aJ h with⟨c3,h⟩|⟨c3,h⟩
  ·obtain⟨s5,bs5,h⟩:=ay h
   obtain⟨s6,bs6,h⟩:=ay h
   obtain rfl:=lf h
   have z:=p4<|sg 0 c3<|ze [0,0,3,0,0,16,56,7,255,511]<|sv (M5 underlying9 bs5)<|sv (M5 underlying9 bs6)<|eF (iI (.inl (s5,s6))) (fR s (.inl (s5,s6)))
   exact fG Ov (by intro hx;cases hx) z<|by kernel_rfl
  ·obtain rfl:=lf h
   exact pZ Ov (p4<|sg 0 c3<|eF .normal (iH s (bL (i+1))))<|by kernel_rfl
 ·obtain rfl:=lf h
  have z:=cf (eX underlying9 s)<|sg 0 c1<|eF (iI (.inr ())) (fR s (.inr ()))
  exact fG Ov (by intro hx;cases hx) z<|by kernel_rfl
theorem tp{x:(ag×ag)⊕(Unit)}(h:zX s i=some x):aL Pg GE 0 (.loop (cA Qy 55)) (EX (iI x) (fR s x)) (iH s i):=
 aL.loop (S:=fun(zz:Int)=>iH s zz) (ex:=iI) (s:=i) h fun zz y hy=>BJ s zz hy
end
def BI(s:ag):Option (ag×ag×Bool):=
 (zX s 0).bind fun o7=>match o7 with
 |(.inl o7)=>
  some (o7.1,o7.2,true)
 |(.inr o7)=>
  some (s,([]:ag),false)
theorem zY{s:ag}{r:ag×ag×Bool}(h:BI s=some r):CC Pg GE 157 [.str s] (.tuple [.str r.1,.str r.2.1,.bool r.2.2]) []:=by
 obtain⟨o7,bo7,h⟩:=ay h
 rcases o7 with o7|o7
 ·obtain rfl:=lf h
  have z:=ct (e:=.ret) (s1:=fR s (.inl o7)) (tp s 0 bo7)<|en (aI (rP (.tuple [.str o7.1,.str o7.2,.bool true]))<|(aI trivial (aI trivial (aI trivial trivial))))
  exact bo Ov call157 func157 (c:=Qy) rfl (aI trivial trivial) z<|by kernel_rfl
 ·obtain rfl:=lf h
  have z:=ct (e:=.exit 0) (s1:=fR s (.inr o7)) (tp s 0 bo7)<|en (aI (rP (.tuple [.str s,.str ([]:ag),.bool false]))<|(aI trivial (aI trivial (aI trivial trivial))))
  exact bo Ov call157 func157 (c:=Qy) rfl (aI trivial trivial) z<|by kernel_rfl
noncomputable def Tw:Code:=f160.body.getD .skip
def S7:List Nat:=[]
def pY(s:ag):Option Bool:=
 if(decide ((s.length:Int)>=1))=true then
  some (decide ((s.length:Int)<=24))
 else
  some false
theorem fS{s:ag}{r:Bool}(h:pY s=some r):CC Pg GE 160 [.str s] (.bool r) []:=by
 rcases aJ h with⟨c1,h⟩|⟨c1,h⟩
 ·obtain rfl:=lf h
  have z:=cf (eX underlying9 s)<|sg 4 c1<|cf (eX underlying9 s)<|en (aI (rP (.bool (decide ((s.length:Int)<=24))))<|trivial)
  exact bo S7 call160 func160 (c:=Tw) rfl (aI trivial trivial) z<|by kernel_rfl
 ·obtain rfl:=lf h
  have z:=cf (eX underlying9 s)<|sg 4 c1<|en (aI (rP (.bool false))<|trivial)
  exact bo S7 call160 func160 (c:=Tw) rfl (aI trivial trivial) z<|by kernel_rfl
noncomputable def Ty:Code:=f178.body.getD .skip
def S9:List Nat:=[]
def mG(c:Int):Option Bool:=
 if(decide (97<=c))=true then
  some (decide (c<=122))
 else
  some false
theorem kW{c:Int}{r:Bool}(h:mG c=some r):CC Pg GE 178 [.int .u8 c] (.bool r) []:=by
 rcases aJ h with⟨c1,h⟩|⟨c1,h⟩
 ·obtain rfl:=lf h
  have z:=sg 3 c1<|en (aI (rP (.bool (decide (c<=122))))<|trivial)
  exact bo S9 call178 func178 (c:=Ty) rfl (aI trivial trivial) z<|by kernel_rfl
 ·obtain rfl:=lf h
  have z:=sg 3 c1<|en (aI (rP (.bool false))<|trivial)
  exact bo S9 call178 func178 (c:=Ty) rfl (aI trivial trivial) z<|by kernel_rfl
noncomputable def Qz:Code:=f179.body.getD .skip
def Ow:List Nat:=[]
section
variable(s:ag)(t6:Int)
def eM:ax:=aP 13 [(0,.str s),(5,.agg (eO.map PVal.str)),(6,.int .i64 t6)] [] []
def eN(o:Unit⊕(Unit)):Exit:=match o with
 |(.inl _)=>.ret
 |(.inr _)=>.exit 0
def dG(o:Unit⊕(Unit)):ax:=match o with
 |(.inl o)=>aP 13 [(2,.bool true)] [] []
 |(.inr o)=>aP 13 [] [] []
def oK:Option (Int⊕(Unit⊕(Unit))):=
 if(decide (t6<42))=true then
  (dT eO t6).bind fun x2=>
  if(x2==s)=true then
   some (.inr (.inl ()))
  else
   some (.inl (bL (t6+1)))
 else
  some (.inr (.inr ()))
def qY:Option (Unit⊕(Unit)):=loop (fun(zz:Int)=>oK s zz) t6
theorem vq{y:Int⊕(Unit⊕(Unit))}(h:oK s t6=some y):aL Pg GE 0 (cA Qz 55) (LQ (fun(zz:Int)=>eM s zz) eN dG y) (eM s t6):=by
 rcases aJ h with⟨c1,h⟩|⟨c1,h⟩
 ·obtain⟨x2,bx2,h⟩:=ay h
  have p4:=fun{sc F} (r:PS sc F)=>sg 0 c1<|sv (zZ (k:=.i64) bx2)<|r
  rcases aJ h with⟨c3,h⟩|⟨c3,h⟩
  ·obtain rfl:=lf h
   have z:=p4<|sg 0 c3<|eF (eN (.inl ())) (dG (.inl ()))
   exact fG Ow (by intro hx;cases hx) z<|by kernel_rfl
  ·obtain rfl:=lf h
   exact pZ Ow (p4<|sg 0 c3<|eF .normal (eM s (bL (t6+1))))<|by kernel_rfl
 ·obtain rfl:=lf h
  have z:=sg 0 c1<|eF (eN (.inr ())) (dG (.inr ()))
  exact fG Ow (by intro hx;cases hx) z<|by kernel_rfl
theorem nj{x:Unit⊕(Unit)}(h:qY s t6=some x):aL Pg GE 0 (.loop (cA Qz 55)) (EX (eN x) (dG x)) (eM s t6):=
 aL.loop (S:=fun(zz:Int)=>eM s zz) (ex:=eN) (s:=t6) h fun zz y hy=>vq s zz hy
end
def xB(s:ag):Option Bool:=
 (qY s 0).bind fun o5=>match o5 with
 |(.inl o5)=>
  some true
 |(.inr o5)=>
  some false
theorem BH{s:ag}{r:Bool}(h:xB s=some r):CC Pg GE 179 [.str s] (.bool r) []:=by
 obtain⟨o5,bo5,h⟩:=ay h
 rcases o5 with o5|o5
 ·obtain rfl:=lf h
  have z:=sv pX<|ct (e:=.ret) (s1:=dG (.inl o5)) (nj s 0 bo5)<|en (aI (rP (.bool true))<|trivial)
  exact bo Ow call179 func179 (c:=Qz) rfl (aI trivial trivial) z<|by kernel_rfl
 ·obtain rfl:=lf h
  have z:=sv pX<|ct (e:=.exit 0) (s1:=dG (.inr o5)) (nj s 0 bo5)<|en (aI (rP (.bool false))<|trivial)
  exact bo Ow call179 func179 (c:=Qz) rfl (aI trivial trivial) z<|by kernel_rfl
noncomputable def TA:Code:=f180.body.getD .skip
def Ta:List Nat:=[]
def pW(c:Int):Option Bool:=
 if(decide (48<=c))=true then
  some (decide (c<=57))
 else
  some false
theorem oL{c:Int}{r:Bool}(h:pW c=some r):CC Pg GE 180 [.int .u8 c] (.bool r) []:=by
 rcases aJ h with⟨c1,h⟩|⟨c1,h⟩
 ·obtain rfl:=lf h
  have z:=sg 3 c1<|en (aI (rP (.bool (decide (c<=57))))<|trivial)
  exact bo Ta call180 func180 (c:=TA) rfl (aI trivial trivial) z<|by kernel_rfl
 ·obtain rfl:=lf h
  have z:=sg 3 c1<|en (aI (rP (.bool false))<|trivial)
  exact bo Ta call180 func180 (c:=TA) rfl (aI trivial trivial) z<|by kernel_rfl
noncomputable def Lm:Code:=f158.body.getD .skip
def CX:List Nat:=[]
section
variable(s:ag)
def Dw:ax:=aP 41 [(0,.str s)] [] []
def j3(o:Bool):ax:=aP 41 [(0,.str s),(16,.bool o)] [] []
def xC:Option Bool:=
 (pY s).bind fun r1=>
 if(!r1)=true then
  some true
 else
  (gk s 0).bind fun c3=>
  (mG c3).bind fun r4=>
  if(!r4)=true then
   some true
  else
   (xB s).bind fun r7=>
   some r7
theorem BK{x:Bool}(h:xC s=some x):aL Pg GE 0 (cA Lm 12) (EX .normal (j3 s x)) (Dw s):=by
 obtain⟨r1,br1,h⟩:=ay h
 rcases aJ h with⟨c2,h⟩|⟨c2,h⟩
 ·obtain rfl:=lf h
  exact bm CX (aX (fS br1)<|sg 4 c2<|eF .normal (j3 s true))<|by kernel_rfl
 ·obtain⟨c3,bc3,h⟩:=ay h
  obtain⟨r4,br4,h⟩:=ay h
  have p6:=fun{sc F} (r:PS sc F)=>aX (fS br1)<|sg 4 c2<|sv (eE (k:=.i64) underlying9 bc3)<|aX (kW br4)<|r
  rcases aJ h with⟨c5,h⟩|⟨c5,h⟩
  ·obtain rfl:=lf h
   exact bm CX (p6<|sg 10 c5<|eF .normal (j3 s true))<|by kernel_rfl
  ·obtain⟨r7,br7,h⟩:=ay h
   obtain rfl:=lf h
   exact bm CX (p6<|sg 10 c5<|aX (BH br7)<|eF .normal (j3 s r7))<|by kernel_rfl
end
section
variable(s:ag)(i:Int)
def Dx:ax:=aP 41 [(0,.str s),(3,.int .i64 i)] [] []
def j4(o:Bool):ax:=aP 41 [(0,.str s),(3,.int .i64 i),(40,.bool o)] [] []
def xD:Option Bool:=
 (gk s i).bind fun c12=>
 (mG c12).bind fun r13=>
 if(!r13)=true then
  (gk s i).bind fun c16=>
  (pW c16).bind fun r17=>
  if(!r17)=true then
   (gk s i).bind fun c20=>
   some (c20 !=95)
  else
   some false
 else
  some false
theorem BL{x:Bool}(h:xD s i=some x):aL Pg GE 0 (cA Lm 1914) (EX .normal (j4 s i x)) (Dx s i):=by
 obtain⟨c12,bc12,h⟩:=ay h
 obtain⟨r13,br13,h⟩:=ay h
 have p15:=fun{sc F} (r:PS sc F)=>sv (eE (k:=.i64) underlying9 bc12)<|aX (kW br13)<|r
 rcases aJ h with⟨c14,h⟩|⟨c14,h⟩
 ·obtain⟨c16,bc16,h⟩:=ay h
  obtain⟨r17,br17,h⟩:=ay h
  have p19:=fun{sc F} (r:PS sc F)=>p15<|sg 6 c14<|sv (eE (k:=.i64) underlying9 bc16)<|aX (oL br17)<|r
  rcases aJ h with⟨c18,h⟩|⟨c18,h⟩
  ·obtain⟨c20,bc20,h⟩:=ay h
   obtain rfl:=lf h
   exact bm CX (p19<|sg 13 c18<|sv (eE (k:=.i64) underlying9 bc20)<|eF .normal (j4 s i (c20 !=95)))<|by kernel_rfl
  ·obtain rfl:=lf h
   exact bm CX (p19<|sg 13 c18<|eF .normal (j4 s i false))<|by kernel_rfl
 ·obtain rfl:=lf h
  exact bm CX (p15<|sg 6 c14<|eF .normal (j4 s i false))<|by kernel_rfl
end
section
variable(s:ag)(i:Int)
def gu:ax:=aP 41 [(0,.str s),(3,.int .i64 i)] [] []
def gv(o:Unit⊕(Unit)):Exit:=match o with
 |(.inl _)=>.ret
 |(.inr _)=>.exit 0
def e7(o:Unit⊕(Unit)):ax:=match o with
 |(.inl o)=>aP 41 [(2,.bool false)] [] []
 |(.inr o)=>aP 41 [] [] []
def tq:Option (Int⊕(Unit⊕(Unit))):=
 if(decide (i<(s.length:Int)))=true then
  (xD s i).bind fun o21=>
  if o21=true then
   some (.inr (.inl ()))
  else
   some (.inl (bL (i+1)))
 else
  some (.inr (.inr ()))
def xE:Option (Unit⊕(Unit)):=loop (fun(zz:Int)=>tq s zz) i
theorem z6{y:Int⊕(Unit⊕(Unit))}(h:tq s i=some y):aL Pg GE 0 (cA Lm 119) (LQ (fun(zz:Int)=>gu s zz) gv e7 y) (gu s i):=by
 rcases aJ h with⟨c11,h⟩|⟨c11,h⟩
 ·obtain⟨o21,bo21,h⟩:=ay h
  have p23:=fun{sc F} (r:PS sc F)=>cf (eX underlying9 s)<|sg 0 c11<|iO 1<|ct (BL s i bo21)<|r
  rcases aJ h with⟨c22,h⟩|⟨c22,h⟩
  ·obtain rfl:=lf h
   have z:=p23<|sg 0 c22<|eF (gv (.inl ())) (e7 (.inl ()))
   exact fG CX (by intro hx;cases hx) z<|by kernel_rfl
  ·obtain rfl:=lf h
   exact pZ CX (p23<|sg 0 c22<|eF .normal (gu s (bL (i+1))))<|by kernel_rfl
 ·obtain rfl:=lf h
  have z:=cf (eX underlying9 s)<|sg 0 c11<|eF (gv (.inr ())) (e7 (.inr ()))
  exact fG CX (by intro hx;cases hx) z<|by kernel_rfl
theorem rb{x:Unit⊕(Unit)}(h:xE s i=some x):aL Pg GE 0 (.loop (cA Lm 119)) (EX (gv x) (e7 x)) (gu s i):=
 aL.loop (S:=fun(zz:Int)=>gu s zz) (ex:=gv) (s:=i) h fun zz y hy=>z6 s zz hy
end
def yR(s:ag):Option Bool:=
 (xC s).bind fun o8=>
 if o8=true then
  some false
 else
  (xE s 1).bind fun o24=>match o24 with
  |(.inl o24)=>
   some false
  |(.inr o24)=>
   some true
theorem qF{s:ag}{r:Bool}(h:yR s=some r):CC Pg GE 158 [.str s] (.bool r) []:=by
 obtain⟨o8,bo8,h⟩:=ay h
 have p10:=fun{sc F} (r:PS sc F)=>iO 2<|ct (BK s bo8)<|r
 rcases aJ h with⟨c9,h⟩|⟨c9,h⟩
 ·obtain rfl:=lf h
  have z:=p10<|sg 0 c9<|en (aI (rP (.bool false))<|trivial)
  exact bo CX call158 func158 (c:=Lm) rfl (aI trivial trivial) z<|by kernel_rfl
 ·obtain⟨o24,bo24,h⟩:=ay h
  rcases o24 with o24|o24
  ·obtain rfl:=lf h
   have z:=p10<|sg 0 c9<|ct (e:=.ret) (s1:=e7 (.inl o24)) (rb s 1 bo24)<|en (aI (rP (.bool false))<|trivial)
   exact bo CX call158 func158 (c:=Lm) rfl (aI trivial trivial) z<|by kernel_rfl
  ·obtain rfl:=lf h
   have z:=p10<|sg 0 c9<|ct (e:=.exit 0) (s1:=e7 (.inr o24)) (rb s 1 bo24)<|en (aI (rP (.bool true))<|trivial)
   exact bo CX call158 func158 (c:=Lm) rfl (aI trivial trivial) z<|by kernel_rfl
noncomputable def TB:Code:=f181.body.getD .skip
def Tb:List Nat:=[]
def qE(c:Int):Option Bool:=
 if(decide (65<=c))=true then
  some (decide (c<=90))
 else
  some false
theorem ra{c:Int}{r:Bool}(h:qE c=some r):CC Pg GE 181 [.int .u8 c] (.bool r) []:=by
 rcases aJ h with⟨c1,h⟩|⟨c1,h⟩
 ·obtain rfl:=lf h
  have z:=sg 3 c1<|en (aI (rP (.bool (decide (c<=90))))<|trivial)
  exact bo Tb call181 func181 (c:=TB) rfl (aI trivial trivial) z<|by kernel_rfl
 ·obtain rfl:=lf h
  have z:=sg 3 c1<|en (aI (rP (.bool false))<|trivial)
  exact bo Tb call181 func181 (c:=TB) rfl (aI trivial trivial) z<|by kernel_rfl
noncomputable def OK:Code:=f161.body.getD .skip
def JN:List Nat:=[]
section
variable(s:ag)(i:Int)
def qZ:ax:=aP 29 [(0,.str s),(3,.int .i64 i)] [] []
def dZ(o:Bool):ax:=aP 29 [(0,.str s),(3,.int .i64 i),(28,.bool o)] [] []
def lw:Option Bool:=
 (gk s i).bind fun c2=>
 (mG c2).bind fun r3=>
 if(!r3)=true then
  (gk s i).bind fun c6=>
  (qE c6).bind fun r7=>
  if(!r7)=true then
   (gk s i).bind fun c10=>
   (pW c10).bind fun r11=>
   some (!r11)
  else
   some false
 else
  some false
theorem qD{x:Bool}(h:lw s i=some x):aL Pg GE 0 (cA OK 890) (EX .normal (dZ s i x)) (qZ s i):=by
 obtain⟨c2,bc2,h⟩:=ay h
 obtain⟨r3,br3,h⟩:=ay h
 have p5:=fun{sc F} (r:PS sc F)=>sv (eE (k:=.i64) underlying9 bc2)<|aX (kW br3)<|r
 rcases aJ h with⟨c4,h⟩|⟨c4,h⟩
 ·obtain⟨c6,bc6,h⟩:=ay h
  obtain⟨r7,br7,h⟩:=ay h
  have p9:=fun{sc F} (r:PS sc F)=>p5<|sg 6 c4<|sv (eE (k:=.i64) underlying9 bc6)<|aX (ra br7)<|r
  rcases aJ h with⟨c8,h⟩|⟨c8,h⟩
  ·obtain⟨c10,bc10,h⟩:=ay h
   obtain⟨r11,br11,h⟩:=ay h
   obtain rfl:=lf h
   exact bm JN (p9<|sg 13 c8<|sv (eE (k:=.i64) underlying9 bc10)<|aX (oL br11)<|eF .normal (dZ s i (!r11)))<|by kernel_rfl
  ·obtain rfl:=lf h
   exact bm JN (p9<|sg 13 c8<|eF .normal (dZ s i false))<|by kernel_rfl
 ·obtain rfl:=lf h
  exact bm JN (p5<|sg 6 c4<|eF .normal (dZ s i false))<|by kernel_rfl
end
section
variable(s:ag)(i:Int)
def dc:ax:=aP 29 [(0,.str s),(3,.int .i64 i)] [] []
def de(o:Unit⊕(Unit)):Exit:=match o with
 |(.inl _)=>.ret
 |(.inr _)=>.exit 0
def cD(o:Unit⊕(Unit)):ax:=match o with
 |(.inl o)=>aP 29 [(2,.bool false)] [] []
 |(.inr o)=>aP 29 [] [] []
def ku:Option (Int⊕(Unit⊕(Unit))):=
 if(decide (i<(s.length:Int)))=true then
  (lw s i).bind fun o12=>
  if o12=true then
   some (.inr (.inl ()))
  else
   some (.inl (bL (i+1)))
 else
  some (.inr (.inr ()))
def lx:Option (Unit⊕(Unit)):=loop (fun(zz:Int)=>ku s zz) i
theorem pr{y:Int⊕(Unit⊕(Unit))}(h:ku s i=some y):aL Pg GE 0 (cA OK 55) (LQ (fun(zz:Int)=>dc s zz) de cD y) (dc s i):=by
 rcases aJ h with⟨c1,h⟩|⟨c1,h⟩
 ·obtain⟨o12,bo12,h⟩:=ay h
  have p14:=fun{sc F} (r:PS sc F)=>cf (eX underlying9 s)<|sg 0 c1<|iO 1<|ct (qD s i bo12)<|r
  rcases aJ h with⟨c13,h⟩|⟨c13,h⟩
  ·obtain rfl:=lf h
   have z:=p14<|sg 0 c13<|eF (de (.inl ())) (cD (.inl ()))
   exact fG JN (by intro hx;cases hx) z<|by kernel_rfl
  ·obtain rfl:=lf h
   exact pZ JN (p14<|sg 0 c13<|eF .normal (dc s (bL (i+1))))<|by kernel_rfl
 ·obtain rfl:=lf h
  have z:=cf (eX underlying9 s)<|sg 0 c1<|eF (de (.inr ())) (cD (.inr ()))
  exact fG JN (by intro hx;cases hx) z<|by kernel_rfl
theorem jR{x:Unit⊕(Unit)}(h:lx s i=some x):aL Pg GE 0 (.loop (cA OK 55)) (EX (de x) (cD x)) (dc s i):=
 aL.loop (S:=fun(zz:Int)=>dc s zz) (ex:=de) (s:=i) h fun zz y hy=>pr s zz hy
end
def kc(s:ag):Option Bool:=
 (lx s 0).bind fun o15=>match o15 with
 |(.inl o15)=>
  some false
 |(.inr o15)=>
  some true
theorem ly{s:ag}{r:Bool}(h:kc s=some r):CC Pg GE 161 [.str s] (.bool r) []:=by
 obtain⟨o15,bo15,h⟩:=ay h
 rcases o15 with o15|o15
 ·obtain rfl:=lf h
  have z:=ct (e:=.ret) (s1:=cD (.inl o15)) (jR s 0 bo15)<|en (aI (rP (.bool false))<|trivial)
  exact bo JN call161 func161 (c:=OK) rfl (aI trivial trivial) z<|by kernel_rfl
 ·obtain rfl:=lf h
  have z:=ct (e:=.exit 0) (s1:=cD (.inr o15)) (jR s 0 bo15)<|en (aI (rP (.bool true))<|trivial)
  exact bo JN call161 func161 (c:=OK) rfl (aI trivial trivial) z<|by kernel_rfl
noncomputable def Nn:Code:=f159.body.getD .skip
def JM:List Nat:=[]
section
variable(s:ag)
def BM:ax:=aP 31 [(0,.str s)] [] []
def iV(o:Bool):ax:=aP 31 [(0,.str s),(16,.bool o)] [] []
def vC:Option Bool:=
 (pY s).bind fun r1=>
 if(!r1)=true then
  some true
 else
  (gk s 0).bind fun c3=>
  (qE c3).bind fun r4=>
  if(!r4)=true then
   some true
  else
   (kc s).bind fun r7=>
   some (!r7)
theorem z7{x:Bool}(h:vC s=some x):aL Pg GE 0 (cA Nn 12) (EX .normal (iV s x)) (BM s):=by
 obtain⟨r1,br1,h⟩:=ay h
 rcases aJ h with⟨c2,h⟩|⟨c2,h⟩
 ·obtain rfl:=lf h
  exact bm JM (aX (fS br1)<|sg 4 c2<|eF .normal (iV s true))<|by kernel_rfl
 ·obtain⟨c3,bc3,h⟩:=ay h
  obtain⟨r4,br4,h⟩:=ay h
  have p6:=fun{sc F} (r:PS sc F)=>aX (fS br1)<|sg 4 c2<|sv (eE (k:=.i64) underlying9 bc3)<|aX (ra br4)<|r
  rcases aJ h with⟨c5,h⟩|⟨c5,h⟩
  ·obtain rfl:=lf h
   exact bm JM (p6<|sg 10 c5<|eF .normal (iV s true))<|by kernel_rfl
  ·obtain⟨r7,br7,h⟩:=ay h
   obtain rfl:=lf h
   exact bm JM (p6<|sg 10 c5<|aX (ly br7)<|eF .normal (iV s (!r7)))<|by kernel_rfl
end
def CI(s:ag):Option Bool:=
 (vC s).bind fun o8=>
 if o8=true then
  some false
 else
  if (!(s == ([73,110,116]:ag))) = true then
   if(!(s==([66,111,111,108]:ag)))=true then
    if(!(s==([67,101,108,108]:ag)))=true then
     some (!(s==([70,117,110]:ag)))
    else
     some false
   else
    some false
  else
   some false
theorem FE{s:ag}{r:Bool}(h:CI s=some r):CC Pg GE 159 [.str s] (.bool r) []:=by
 obtain⟨o8,bo8,h⟩:=ay h
 have p10:=fun{sc F} (r:PS sc F)=>iO 2<|ct (z7 s bo8)<|r
 rcases aJ h with⟨c9,h⟩|⟨c9,h⟩
 ·obtain rfl:=lf h
  have z:=p10<|sg 0 c9<|en (aI (rP (.bool false))<|trivial)
  exact bo JM call159 func159 (c:=Nn) rfl (aI trivial trivial) z<|by kernel_rfl
 ·have p12:=fun{sc F} (r:PS sc F)=>p10<|sg 0 c9<|r
  rcases aJ h with⟨c11,h⟩|⟨c11,h⟩
  ·have p14:=fun{sc F} (r:PS sc F)=>p12<|sg 3 c11<|r
   rcases aJ h with⟨c13,h⟩|⟨c13,h⟩
   ·have p16:=fun{sc F} (r:PS sc F)=>p14<|sg 7 c13<|r
    rcases aJ h with⟨c15,h⟩|⟨c15,h⟩
    ·obtain rfl:=lf h
     have z:=p16<|sg 11 c15<|en (aI (rP (.bool (!(s==([70,117,110]:ag)))))<|trivial)
     exact bo JM call159 func159 (c:=Nn) rfl (aI trivial trivial) z<|by kernel_rfl
    ·obtain rfl:=lf h
     have z:=p16<|sg 11 c15<|en (aI (rP (.bool false))<|trivial)
     exact bo JM call159 func159 (c:=Nn) rfl (aI trivial trivial) z<|by kernel_rfl
   ·obtain rfl:=lf h
    have z:=p14<|sg 7 c13<|en (aI (rP (.bool false))<|trivial)
    exact bo JM call159 func159 (c:=Nn) rfl (aI trivial trivial) z<|by kernel_rfl
  ·obtain rfl:=lf h
   have z:=p12<|sg 3 c11<|en (aI (rP (.bool false))<|trivial)
   exact bo JM call159 func159 (c:=Nn) rfl (aI trivial trivial) z<|by kernel_rfl
noncomputable def OL:Code:=f162.body.getD .skip
def Iq:List Nat:=[]
section
variable(s:ag)(i:Int)
def Dy:ax:=aP 32 [(0,.str s),(3,.int .i64 i)] [] []
def gw(o:Bool):ax:=aP 32 [(0,.str s),(3,.int .i64 i),(31,.bool o)] [] []
def xF:Option Bool:=
 (gk s i).bind fun c2=>
 (mG c2).bind fun r3=>
 if (!r3) = true then
  if(i==0)=true then
   some true
  else
   (gk s i).bind fun c8=>
   (pW c8).bind fun r9=>
   if(!r9)=true then
    (gk s i).bind fun c12=>
    some (c12 !=95)
   else
    some false
 else
  some false
theorem BN{x:Bool}(h:xF s i=some x):aL Pg GE 0 (cA OL 890) (EX .normal (gw s i x)) (Dy s i):=by
 obtain⟨c2,bc2,h⟩:=ay h
 obtain⟨r3,br3,h⟩:=ay h
 have p5:=fun{sc F} (r:PS sc F)=>sv (eE (k:=.i64) underlying9 bc2)<|aX (kW br3)<|r
 rcases aJ h with⟨c4,h⟩|⟨c4,h⟩
 ·have p7:=fun{sc F} (r:PS sc F)=>p5<|sg 6 c4<|r
  rcases aJ h with⟨c6,h⟩|⟨c6,h⟩
  ·obtain rfl:=lf h
   exact bm Iq (p7<|sg 9 c6<|eF .normal (gw s i true))<|by kernel_rfl
  ·obtain⟨c8,bc8,h⟩:=ay h
   obtain⟨r9,br9,h⟩:=ay h
   have p11:=fun{sc F} (r:PS sc F)=>p7<|sg 9 c6<|sv (eE (k:=.i64) underlying9 bc8)<|aX (oL br9)<|r
   rcases aJ h with⟨c10,h⟩|⟨c10,h⟩
   ·obtain⟨c12,bc12,h⟩:=ay h
    obtain rfl:=lf h
    exact bm Iq (p11<|sg 15 c10<|sv (eE (k:=.i64) underlying9 bc12)<|eF .normal (gw s i (c12 !=95)))<|by kernel_rfl
   ·obtain rfl:=lf h
    exact bm Iq (p11<|sg 15 c10<|eF .normal (gw s i false))<|by kernel_rfl
 ·obtain rfl:=lf h
  exact bm Iq (p5<|sg 6 c4<|eF .normal (gw s i false))<|by kernel_rfl
end
section
variable(s:ag)(i:Int)
def gy:ax:=aP 32 [(0,.str s),(3,.int .i64 i)] [] []
def gz(o:Unit⊕(Unit)):Exit:=match o with
 |(.inl _)=>.ret
 |(.inr _)=>.exit 0
def e8(o:Unit⊕(Unit)):ax:=match o with
 |(.inl o)=>aP 32 [(2,.bool false)] [] []
 |(.inr o)=>aP 32 [] [] []
def tr:Option (Int⊕(Unit⊕(Unit))):=
 if(decide (i<(s.length:Int)))=true then
  (xF s i).bind fun o13=>
  if o13=true then
   some (.inr (.inl ()))
  else
   some (.inl (bL (i+1)))
 else
  some (.inr (.inr ()))
def xG:Option (Unit⊕(Unit)):=loop (fun(zz:Int)=>tr s zz) i
theorem z8{y:Int⊕(Unit⊕(Unit))}(h:tr s i=some y):aL Pg GE 0 (cA OL 55) (LQ (fun(zz:Int)=>gy s zz) gz e8 y) (gy s i):=by
 rcases aJ h with⟨c1,h⟩|⟨c1,h⟩
 ·obtain⟨o13,bo13,h⟩:=ay h
  have p15:=fun{sc F} (r:PS sc F)=>cf (eX underlying9 s)<|sg 0 c1<|iO 1<|ct (BN s i bo13)<|r
  rcases aJ h with⟨c14,h⟩|⟨c14,h⟩
  ·obtain rfl:=lf h
   have z:=p15<|sg 0 c14<|eF (gz (.inl ())) (e8 (.inl ()))
   exact fG Iq (by intro hx;cases hx) z<|by kernel_rfl
  ·obtain rfl:=lf h
   exact pZ Iq (p15<|sg 0 c14<|eF .normal (gy s (bL (i+1))))<|by kernel_rfl
 ·obtain rfl:=lf h
  have z:=cf (eX underlying9 s)<|sg 0 c1<|eF (gz (.inr ())) (e8 (.inr ()))
  exact fG Iq (by intro hx;cases hx) z<|by kernel_rfl
theorem rf{x:Unit⊕(Unit)}(h:xG s i=some x):aL Pg GE 0 (.loop (cA OL 55)) (EX (gz x) (e8 x)) (gy s i):=
 aL.loop (S:=fun(zz:Int)=>gy s zz) (ex:=gz) (s:=i) h fun zz y hy=>z8 s zz hy
end
def FF(s:ag):Option Bool:=
 (xG s 0).bind fun o16=>match o16 with
 |(.inl o16)=>
  some false
 |(.inr o16)=>
  some true
theorem Hk{s:ag}{r:Bool}(h:FF s=some r):CC Pg GE 162 [.str s] (.bool r) []:=by
 obtain⟨o16,bo16,h⟩:=ay h
 rcases o16 with o16|o16
 ·obtain rfl:=lf h
  have z:=ct (e:=.ret) (s1:=e8 (.inl o16)) (rf s 0 bo16)<|en (aI (rP (.bool false))<|trivial)
  exact bo Iq call162 func162 (c:=OL) rfl (aI trivial trivial) z<|by kernel_rfl
 ·obtain rfl:=lf h
  have z:=ct (e:=.exit 0) (s1:=e8 (.inr o16)) (rf s 0 bo16)<|en (aI (rP (.bool true))<|trivial)
  exact bo Iq call162 func162 (c:=OL) rfl (aI trivial trivial) z<|by kernel_rfl
noncomputable def Kb:Code:=f134.body.getD .skip
def zl:List Nat:=[]
section
variable(first:ag)(rest:ag)(more:Bool)
def Du:ax:=aP 52 [(3,.str first),(4,.str rest),(5,.bool more)] [] []
def gp(o:Bool):ax:=aP 52 [(4,.str rest),(5,.bool more),(31,.bool o)] [] []
def xw:Option Bool:=
 (yR first).bind fun r3=>
 if (!r3) = true then
  (CI first).bind fun r5=>
  if(!r5)=true then
   if(!(first==([118]:ag)))=true then
    some true
   else
    some (!more)
  else
   some false
 else
  some false
theorem BF{x:Bool}(h:xw first more=some x):aL Pg GE 0 (cA Kb 60) (EX .normal (gp rest more x)) (Du first rest more):=by
 obtain⟨r3,br3,h⟩:=ay h
 rcases aJ h with⟨c4,h⟩|⟨c4,h⟩
 ·obtain⟨r5,br5,h⟩:=ay h
  have p7:=fun{sc F} (r:PS sc F)=>aX (qF br3)<|sg 4 c4<|aX (FE br5)<|r
  rcases aJ h with⟨c6,h⟩|⟨c6,h⟩
  ·have p9:=fun{sc F} (r:PS sc F)=>p7<|sg 9 c6<|r
   rcases aJ h with⟨c8,h⟩|⟨c8,h⟩
   ·obtain rfl:=lf h
    exact bm zl (p9<|sg 12 c8<|eF .normal (gp rest more true))<|by kernel_rfl
   ·obtain rfl:=lf h
    exact bm zl (p9<|sg 12 c8<|eF .normal (gp rest more (!more)))<|by kernel_rfl
  ·obtain rfl:=lf h
   exact bm zl (p7<|sg 9 c6<|eF .normal (gp rest more false))<|by kernel_rfl
 ·obtain rfl:=lf h
  exact bm zl (aX (qF br3)<|sg 4 c4<|eF .normal (gp rest more false))<|by kernel_rfl
end
section
variable(rest:ag)(more:Bool)(part:ag)
def Dv:ax:=aP 52 [(4,.str rest),(5,.bool more),(6,.str part)] [] []
def j2(o:Bool):ax:=aP 52 [(4,.str rest),(5,.bool more),(51,.bool o)] [] []
def xx:Option Bool:=
 (pY part).bind fun r15=>
 if(!r15)=true then
  some true
 else
  (kc part).bind fun r17=>
  if(!r17)=true then
   (FF part).bind fun r20=>
   some (!r20)
  else
   some false
theorem BG{x:Bool}(h:xx part=some x):aL Pg GE 0 (cA Kb 8062) (EX .normal (j2 rest more x)) (Dv rest more part):=by
 obtain⟨r15,br15,h⟩:=ay h
 rcases aJ h with⟨c16,h⟩|⟨c16,h⟩
 ·obtain rfl:=lf h
  exact bm zl (aX (fS br15)<|sg 4 c16<|eF .normal (j2 rest more true))<|by kernel_rfl
 ·obtain⟨r17,br17,h⟩:=ay h
  have p19:=fun{sc F} (r:PS sc F)=>aX (fS br15)<|sg 4 c16<|aX (ly br17)<|r
  rcases aJ h with⟨c18,h⟩|⟨c18,h⟩
  ·obtain⟨r20,br20,h⟩:=ay h
   obtain rfl:=lf h
   exact bm zl (p19<|sg 8 c18<|aX (Hk br20)<|eF .normal (j2 rest more (!r20)))<|by kernel_rfl
  ·obtain rfl:=lf h
   exact bm zl (p19<|sg 8 c18<|eF .normal (j2 rest more false))<|by kernel_rfl
end
section
variable(rest:ag)(more:Bool)
def gq:ax:=aP 52 [(4,.str rest),(5,.bool more)] [] []
def gr(o:Unit⊕(Unit)):Exit:=match o with
 |(.inl _)=>.ret
 |(.inr _)=>.exit 0
def e5(o:Unit⊕(Unit)):ax:=match o with
 |(.inl o)=>aP 52 [(2,.int .i64 3)] [] []
 |(.inr o)=>aP 52 [] [] []
def tn:Option ((ag×Bool)⊕(Unit⊕(Unit))):=
 if more=true then
  (BI rest).bind fun r14=>
  (xx r14.1).bind fun o21=>
  if o21=true then
   some (.inr (.inl ()))
  else
   some (.inl (r14.2.1,r14.2.2))
 else
  some (.inr (.inr ()))
def xy:Option (Unit⊕(Unit)):=loop (fun(zz:ag×Bool)=>tn zz.1 zz.2) (rest,more)
theorem zS{y:(ag×Bool)⊕(Unit⊕(Unit))}(h:tn rest more=some y):aL Pg GE 0 (cA Kb 251) (LQ (fun(zz:ag×Bool)=>gq zz.1 zz.2) gr e5 y) (gq rest more):=by
 rcases aJ h with⟨c13,h⟩|⟨c13,h⟩
 ·obtain⟨r14,br14,h⟩:=ay h
  obtain⟨o21,bo21,h⟩:=ay h
  have p23:=fun{sc F} (r:PS sc F)=>sg 0 c13<|aX (zY br14)<|iO 0<|ct (BG r14.2.1 r14.2.2 r14.1 bo21)<|r
  rcases aJ h with⟨c22,h⟩|⟨c22,h⟩
  ·obtain rfl:=lf h
   have z:=p23<|sg 0 c22<|eF (gr (.inl ())) (e5 (.inl ()))
   exact fG zl (by intro hx;cases hx) z<|by kernel_rfl
  ·obtain rfl:=lf h
   exact pZ zl (p23<|sg 0 c22<|eF .normal (gq r14.2.1 r14.2.2))<|by kernel_rfl
 ·obtain rfl:=lf h
  have z:=sg 0 c13<|eF (gr (.inr ())) (e5 (.inr ()))
  exact fG zl (by intro hx;cases hx) z<|by kernel_rfl
theorem qX{x:Unit⊕(Unit)}(h:xy rest more=some x):aL Pg GE 0 (.loop (cA Kb 251)) (EX (gr x) (e5 x)) (gq rest more):=
 aL.loop (S:=fun(zz:ag×Bool)=>gq zz.1 zz.2) (ex:=gr) (s:=(rest,more)) h fun zz y hy=>zS zz.1 zz.2 hy
end
def yO(s:ag):Option Int:=
 if(decide ((s.length:Int)>120))=true then
  some 3
 else
  (BI s).bind fun r2=>
  (xw r2.1 r2.2.2).bind fun o10=>
  if o10=true then
   some 3
  else
   (xy r2.2.1 r2.2.2).bind fun o24=>match o24 with
   |(.inl o24)=>
    some 3
   |(.inr o24)=>
    some 0
theorem xz{s:ag}{r:Int}(h:yO s=some r):CC Pg GE 134 [.str s] (.int .i64 r) []:=by
 rcases aJ h with⟨c1,h⟩|⟨c1,h⟩
 ·obtain rfl:=lf h
  have z:=cf (eX underlying9 s)<|sg 0 c1<|en (aI (rP (.int .i64 3))<|trivial)
  exact bo zl call134 func134 (c:=Kb) rfl (aI trivial trivial) z<|by kernel_rfl
 ·obtain⟨r2,br2,h⟩:=ay h
  obtain⟨o10,bo10,h⟩:=ay h
  have p12:=fun{sc F} (r:PS sc F)=>cf (eX underlying9 s)<|sg 0 c1<|aX (zY br2)<|iO 1<|ct (BF r2.1 r2.2.1 r2.2.2 bo10)<|r
  rcases aJ h with⟨c11,h⟩|⟨c11,h⟩
  ·obtain rfl:=lf h
   have z:=p12<|sg 0 c11<|en (aI (rP (.int .i64 3))<|trivial)
   exact bo zl call134 func134 (c:=Kb) rfl (aI trivial trivial) z<|by kernel_rfl
  ·obtain⟨o24,bo24,h⟩:=ay h
   rcases o24 with o24|o24
   ·obtain rfl:=lf h
    have z:=p12<|sg 0 c11<|ct (e:=.ret) (s1:=e5 (.inl o24)) (qX r2.2.1 r2.2.2 bo24)<|en (aI (rP (.int .i64 3))<|trivial)
    exact bo zl call134 func134 (c:=Kb) rfl (aI trivial trivial) z<|by kernel_rfl
   ·obtain rfl:=lf h
    have z:=p12<|sg 0 c11<|ct (e:=.exit 0) (s1:=e5 (.inr o24)) (qX r2.2.1 r2.2.2 bo24)<|en (aI (rP (.int .i64 0))<|trivial)
    exact bo zl call134 func134 (c:=Kb) rfl (aI trivial trivial) z<|by kernel_rfl
end Go.Proofs.YtggeppllafbidaaGreatDoor
