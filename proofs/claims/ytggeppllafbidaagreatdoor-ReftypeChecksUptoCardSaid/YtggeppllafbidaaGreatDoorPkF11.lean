/- PROVED: a part of the proof. Conditions: none. -/
import Derived.Test.YtggeppllafbidaaGreatDoorPkF10
noncomputable section
namespace Go.Proofs.YtggeppllafbidaaGreatDoor
open Go Go.Proofs.Tryz
set_option linter.unusedVariables false
set_option maxRecDepth 100000
noncomputable def Uj:Code:=f95.body.getD .skip
def Pa:List Nat:=[79,96]
section
variable(v:waA)(v2:waC)(t:ae)(i:Int)(m:waC)(m2:waB)
def FH:ax:=aP 104 [(1,sl cS v),(2,sl af v2),(3,.eptr (af t)),(6,.bptr 1 0),(7,.int .i64 i)] [.dead,.cells [.int .i64 0,.str ([]:ag),sl af m,sl cS ([]:List ag),.int .i64 0,.str ([]:ag),.int .i64 0,sl ac m2,sl ac m2] [(2,30),(3,9),(7,28),(8,28)]] []
def oU(o:Bool):ax:=aP 104 [(1,sl cS v),(2,sl af v2),(3,.eptr (af t)),(6,.bptr 1 0),(7,.int .i64 i),(28,.bool o)] [.dead,.cells [.int .i64 0,.str ([]:ag),sl af m,sl cS ([]:List ag),.int .i64 0,.str ([]:ag),.int .i64 0,sl ac m2,sl ac m2] [(2,30),(3,9),(7,28),(8,28)]] []
def Ai:Option Bool:=
 if(decide (i>=0))=true then
  some (decide (i<(v2.length:Int)))
 else
  some false
theorem Ee{x:Bool}(h:Ai v2 i=some x):aL Pg GE 0 (cA Uj 106) (EX .normal (oU v v2 t i m m2 x)) (FH v v2 t i m m2):=by
 rcases aK h with⟨c4,h⟩|⟨c4,h⟩
 ·obtain rfl:=lf h
  exact bE Pa (sg 3 c4<|b9 (cJ.ln v2)<|eF .normal (oU v v2 t i m m2 (decide (i<(v2.length:Int)))))<|by kernel_rfl
 ·obtain rfl:=lf h
  exact bE Pa (sg 3 c4<|eF .normal (oU v v2 t i m m2 false))<|by kernel_rfl
end
section
variable(t:ae)(m:waC)(m2:waB)(m3:Int)(m4:ag)(m5:waC)(m6:waA)(m7:Int)(m8:ag)(m9:Int)(m10:waB)(m11:waB)
def FI:ax:=aP 104 [(3,.eptr (af t)),(6,.bptr 1 0),(8,.bptr 2 0)] [.dead,.cells [.int .i64 0,.str ([]:ag),sl af m,sl cS ([]:List ag),.int .i64 0,.str ([]:ag),.int .i64 0,sl ac m2,sl ac m2] [(2,30),(3,9),(7,28),(8,28)],.cells [.int .i64 m3,.str m4,sl af m5,sl cS m6,.int .i64 m7,.str m8,.int .i64 m9,sl ac m10,sl ac m11] [(2,30),(8,28)]] []
def oV(o:Bool):ax:=aP 104 [(3,.eptr (af t)),(6,.bptr 1 0),(8,.bptr 2 0),(42,.bool o)] [.dead,.cells [.int .i64 0,.str ([]:ag),sl af m,sl cS ([]:List ag),.int .i64 0,.str ([]:ag),.int .i64 0,sl ac m2,sl ac m2] [(2,30),(3,9),(7,28),(8,28)],.cells [.int .i64 m3,.str m4,sl af m5,sl cS m6,.int .i64 m7,.str m8,.int .i64 m9,sl ac m10,sl ac m11] [(2,30),(8,28)]] []
def Aj:Option Bool:=
 (CV t.Pred).bind fun r10=>
 if(!r10)=true then
  some (m3 !=6)
 else
  some false
theorem Ef{x:Bool}(h:Aj t m3=some x):aL Pg GE 0 (cA Uj 1716) (EX .normal (oV t m m2 m3 m4 m5 m6 m7 m8 m9 m10 m11 x)) (FI t m m2 m3 m4 m5 m6 m7 m8 m9 m10 m11):=by
 obtain⟨r10,br10,h⟩:=aw h
 have p12:=fun{sc F} (r:PS sc F)=>sv (bv t)<|sv (bw t)<|aX (BL br10)<|r
 rcases aK h with⟨c11,h⟩|⟨c11,h⟩
 ·obtain rfl:=lf h
  exact bE Pa (p12<|sg 5 c11<|ss<|eF .normal (oV t m m2 m3 m4 m5 m6 m7 m8 m9 m10 m11 (m3 !=6)))<|by kernel_rfl
 ·obtain rfl:=lf h
  exact bE Pa (p12<|sg 5 c11<|eF .normal (oV t m m2 m3 m4 m5 m6 m7 m8 m9 m10 m11 false))<|by kernel_rfl
end
section
variable(R34:lD)(v:waA)(v2:waC)(t:ae)(m:waC)(m2:waB)
def FF:ax:=aP 104 [(1,sl cS v),(2,sl af v2),(3,.eptr (af t)),(6,.bptr 1 0)] [.dead,.cells [.int .i64 0,.str ([]:ag),sl af m,sl cS ([]:List ag),.int .i64 0,.str ([]:ag),.int .i64 0,sl ac m2,sl ac m2] [(2,30),(3,9),(7,28),(8,28)]] []
def eU(o:(Int×ag×waC×waA×Int×ag×Int×waB×waB×Int×ag×waC×waA×Int×ag×Int×waB×waB)⊕(Unit)):Exit:=match o with
 |(.inl _)=>.ret
 |(.inr _)=>.normal
def dn(o:(Int×ag×waC×waA×Int×ag×Int×waB×waB×Int×ag×waC×waA×Int×ag×Int×waB×waB)⊕(Unit)):ax:=match o with
 |(.inl o)=>aP 104 [(6,.bptr 1 0)] [.dead,.cells [.int .i64 o.1,.str o.2.1,sl af o.2.2.1,sl cS o.2.2.2.1,.int .i64 o.2.2.2.2.1,.str o.2.2.2.2.2.1,.int .i64 o.2.2.2.2.2.2.1,sl ac o.2.2.2.2.2.2.2.1,sl ac o.2.2.2.2.2.2.2.2.1] [(2,30),(8,28)],.cells [.int .i64 o.2.2.2.2.2.2.2.2.2.1,.str o.2.2.2.2.2.2.2.2.2.2.1,sl af o.2.2.2.2.2.2.2.2.2.2.2.1,sl cS o.2.2.2.2.2.2.2.2.2.2.2.2.1,.int .i64 o.2.2.2.2.2.2.2.2.2.2.2.2.2.1,.str o.2.2.2.2.2.2.2.2.2.2.2.2.2.2.1,.int .i64 o.2.2.2.2.2.2.2.2.2.2.2.2.2.2.2.1,sl ac o.2.2.2.2.2.2.2.2.2.2.2.2.2.2.2.2.1,sl ac o.2.2.2.2.2.2.2.2.2.2.2.2.2.2.2.2.2] []] []
 |(.inr o)=>aP 104 [(1,sl cS v),(2,sl af v2),(3,.eptr (af t)),(6,.bptr 1 0)] [.dead,.cells [.int .i64 0,.str ([]:ag),sl af m,sl cS ([]:List ag),.int .i64 0,.str ([]:ag),.int .i64 0,sl ac m2,sl ac m2] [(2,30),(3,9),(7,28),(8,28)]] []
def Ah:Option ((Int×ag×waC×waA×Int×ag×Int×waB×waB×Int×ag×waC×waA×Int×ag×Int×waB×waB)⊕(Unit)):=
 if (t.Op == 5) = true then
  (Cp v t.Name).bind fun r3=>
  (Ai v2 r3).bind fun o5=>
  if o5=true then
   (dt v2 r3).bind fun x8=>
   (R34 x8 ([]:List ag) ([]:List ae)).bind fun r9=>
   (Aj t r9.Op).bind fun o13=>
   if o13=true then
    (CV r9.Pred).bind fun r16=>
    if r16=true then
     (tC t.Pred).bind fun r19=>
     some (.inl (r9.Op,r9.Name,r9.Args,r9.Names,r19.Op,r19.Name,r19.N,r19.Kids,r9.Preds,r9.Op,r9.Name,r9.Args,r9.Names,r19.Op,r19.Name,r19.N,r19.Kids,r9.Preds))
    else
     (tC t.Pred).bind fun r20=>
     some (.inl (r9.Op,r9.Name,r9.Args,r9.Names,15,([]:ag),0,([r9.Pred,r20]:List aa),r9.Preds,r9.Op,r9.Name,r9.Args,r9.Names,15,([]:ag),0,([r9.Pred,r20]:List aa),r9.Preds))
   else
    some (.inl (r9.Op,r9.Name,r9.Args,r9.Names,r9.Pred.Op,r9.Pred.Name,r9.Pred.N,r9.Pred.Kids,r9.Preds,r9.Op,r9.Name,r9.Args,r9.Names,r9.Pred.Op,r9.Pred.Name,r9.Pred.N,r9.Pred.Kids,r9.Preds))
  else
   some (.inr ())
 else
  some (.inr ())
theorem uH(hR34:o0 R34){x:(Int×ag×waC×waA×Int×ag×Int×waB×waB×Int×ag×waC×waA×Int×ag×Int×waB×waB)⊕(Unit)}(h:Ah R34 v v2 t=some x):aL Pg GE 0 (cA Uj 6) (EX (eU x) (dn v v2 t m m2 x)) (FF v v2 t m m2):=by
 have p2:=fun{sc F} (r:PS sc F)=>sv (au t)<|sv (av t)<|r
 rcases aK h with⟨c1,h⟩|⟨c1,h⟩
 ·obtain⟨r3,br3,h⟩:=aw h
  obtain⟨o5,bo5,h⟩:=aw h
  have p7:=fun{sc F} (r:PS sc F)=>p2<|sg 0 c1<|sv (ck t)<|sv (cq t)<|aX (Bx br3)<|jC 0<|cm (Ee v v2 t r3 m m2 bo5)<|r
  rcases aK h with⟨c6,h⟩|⟨c6,h⟩
  ·obtain⟨x8,bx8,h⟩:=aw h
   obtain⟨r9,br9,h⟩:=aw h
   obtain⟨o13,bo13,h⟩:=aw h
   have p15:=fun{sc F} (r:PS sc F)=>p7<|sg 0 c6<|sv (cJ.ia (k:=.i64) bx8)<|sv (aQ x8)<|aX (hR34 _ _ _ _ br9)<|sx jl<|sy (ba r9)<|jC 1<|cm (Ef t m m2 r9.Op r9.Name r9.Args r9.Names r9.Pred.Op r9.Pred.Name r9.Pred.N r9.Pred.Kids r9.Preds bo13)<|r
   rcases aK h with⟨c14,h⟩|⟨c14,h⟩
   ·obtain⟨r16,br16,h⟩:=aw h
    have p18:=fun{sc F} (r:PS sc F)=>p15<|sg 0 c14<|sv (aU r9.Pred [sl ac r9.Preds])<|aX (BL br16)<|r
    rcases aK h with⟨c17,h⟩|⟨c17,h⟩
    ·obtain⟨r19,br19,h⟩:=aw h
     obtain rfl:=lf h
     exact bE Pa (p18<|sg 0 c17<|sv (bv t)<|sv (bw t)<|aX (pG br19)<|sy (aR r19)<|sz (bu (⟨r9.Op,r9.Name,r9.Args,r9.Names,r19,r9.Preds⟩:ae) [])<|sy (ba (⟨r9.Op,r9.Name,r9.Args,r9.Names,r19,r9.Preds⟩:ae))<|eF (eU (.inl (r9.Op,r9.Name,r9.Args,r9.Names,r19.Op,r19.Name,r19.N,r19.Kids,r9.Preds,r9.Op,r9.Name,r9.Args,r9.Names,r19.Op,r19.Name,r19.N,r19.Kids,r9.Preds))) (dn v v2 t m m2 (.inl (r9.Op,r9.Name,r9.Args,r9.Names,r19.Op,r19.Name,r19.N,r19.Kids,r9.Preds,r9.Op,r9.Name,r9.Args,r9.Names,r19.Op,r19.Name,r19.N,r19.Kids,r9.Preds))))<|by kernel_rfl
    ·obtain⟨r20,br20,h⟩:=aw h
     obtain rfl:=lf h
     exact bE Pa (p18<|sg 0 c17<|CO [0,1,0,4,12,31,63,127,255]<|sv (aU r9.Pred [sl ac r9.Preds])<|sv (bv t)<|sv (bw t)<|aX (pG br20)<|sv (aS.mk' (v:=cj) bz ([r9.Pred,r20]:List aa) 2 (by kernel_rfl))<|sv (rl 15 ([r9.Pred,r20]:List aa))<|sx (bp (⟨15,([]:ag),0,([r9.Pred,r20]:List aa)⟩:aa))<|sz (bu (⟨r9.Op,r9.Name,r9.Args,r9.Names,(⟨15,([]:ag),0,([r9.Pred,r20]:List aa)⟩:aa),r9.Preds⟩:ae) [])<|sy (ba (⟨r9.Op,r9.Name,r9.Args,r9.Names,(⟨15,([]:ag),0,([r9.Pred,r20]:List aa)⟩:aa),r9.Preds⟩:ae))<|eF (eU (.inl (r9.Op,r9.Name,r9.Args,r9.Names,15,([]:ag),0,([r9.Pred,r20]:List aa),r9.Preds,r9.Op,r9.Name,r9.Args,r9.Names,15,([]:ag),0,([r9.Pred,r20]:List aa),r9.Preds))) (dn v v2 t m m2 (.inl (r9.Op,r9.Name,r9.Args,r9.Names,15,([]:ag),0,([r9.Pred,r20]:List aa),r9.Preds,r9.Op,r9.Name,r9.Args,r9.Names,15,([]:ag),0,([r9.Pred,r20]:List aa),r9.Preds))))<|by kernel_rfl
   ·obtain rfl:=lf h
    exact bE Pa (p15<|sg 0 c14<|sz (bu r9 [])<|sy (ba r9)<|eF (eU (.inl (r9.Op,r9.Name,r9.Args,r9.Names,r9.Pred.Op,r9.Pred.Name,r9.Pred.N,r9.Pred.Kids,r9.Preds,r9.Op,r9.Name,r9.Args,r9.Names,r9.Pred.Op,r9.Pred.Name,r9.Pred.N,r9.Pred.Kids,r9.Preds))) (dn v v2 t m m2 (.inl (r9.Op,r9.Name,r9.Args,r9.Names,r9.Pred.Op,r9.Pred.Name,r9.Pred.N,r9.Pred.Kids,r9.Preds,r9.Op,r9.Name,r9.Args,r9.Names,r9.Pred.Op,r9.Pred.Name,r9.Pred.N,r9.Pred.Kids,r9.Preds))))<|by kernel_rfl
  ·obtain rfl:=lf h
   exact bE Pa (p7<|sg 0 c6<|eF (eU (.inr ())) (dn v v2 t m m2 (.inr ())))<|by kernel_rfl
 ·obtain rfl:=lf h
  exact bE Pa (p2<|sg 0 c1<|eF (eU (.inr ())) (dn v v2 t m m2 (.inr ())))<|by kernel_rfl
end
section
variable(R34:lD)(v:waA)(v2:waC)(t:ae)(t72:waC)(t73:Int)(m:waC)(m2:waB)(m3:Int)(m4:ag)(m6:waA)(m7:Int)(m8:ag)(m9:Int)(m10:waB)(t74:Int)(m5:waC)
def gJ:ax:=aP 104 [(1,sl cS v),(2,sl af v2),(3,.eptr (af t)),(6,.bptr 1 0),(9,.bptr 2 0),(72,sl af t72),(73,.int .i64 t73),(74,.int .i64 t74)] [.dead,.cells [.int .i64 0,.str ([]:ag),sl af m,sl cS ([]:List ag),.int .i64 0,.str ([]:ag),.int .i64 0,sl ac m2,sl ac m2] [(2,30),(3,9),(7,28),(8,28)],.cells [.int .i64 m3,.str m4,sl af m5,sl cS m6,.int .i64 m7,.str m8,.int .i64 m9,sl ac m10,sl ac m2] [(2,30),(8,28)]] []
def oW(o:waC):ax:=aP 104 [(3,.eptr (af t)),(6,.bptr 1 0),(9,.bptr 2 0)] [.dead,.cells [.int .i64 0,.str ([]:ag),sl af m,sl cS ([]:List ag),.int .i64 0,.str ([]:ag),.int .i64 0,sl ac m2,sl ac m2] [(2,30),(3,9),(7,28),(8,28)],.cells [.int .i64 m3,.str m4,sl af o,sl cS m6,.int .i64 m7,.str m8,.int .i64 m9,sl ac m10,sl ac m2] [(2,30),(8,28)]] []
def wJ:Option ((Int×waC)⊕(waC)):=
 if(decide (t74<t73))=true then
  (dt t72 t74).bind fun x25=>
  (R34 x25 v v2).bind fun r26=>
  (app m5 ([r26]:List ae)).bind fun l27=>
  some (.inl (bA (t74+1),l27))
 else
  some (.inr m5)
def Ak:Option waC:=loop (fun(zz:Int×waC)=>wJ R34 v v2 t72 t73 zz.1 zz.2) (t74,m5)
theorem CS(hR34:o0 R34){y:(Int×waC)⊕(waC)}(h:wJ R34 v v2 t72 t73 t74 m5=some y):aL Pg GE 0 (cA Uj 247) (LQ (fun(zz:Int×waC)=>gJ v v2 t t72 t73 m m2 m3 m4 m6 m7 m8 m9 m10 zz.1 zz.2) (fun _=>.exit 0) (oW t m m2 m3 m4 m6 m7 m8 m9 m10) y) (gJ v v2 t t72 t73 m m2 m3 m4 m6 m7 m8 m9 m10 t74 m5):=by
 rcases aK h with⟨c24,h⟩|⟨c24,h⟩
 ·obtain⟨x25,bx25,h⟩:=aw h
  obtain⟨r26,br26,h⟩:=aw h
  obtain⟨l27,bl27,h⟩:=aw h
  obtain rfl:=lf h
  have z:=sg 0 c24<|sv (cJ.ia (k:=.i64) bx25)<|sv (aQ x25)<|sx jl<|sx (cu x25)<|CO [0,1,0,0,0,28,60,127,255,511]<|sv (bu x25 [])<|aX (hR34 _ _ _ _ br26)<|sv (cJ.mk' (v:=AR) wq ([r26]:List ae) 1 (by kernel_rfl))<|sv (cJ.ap bl27)<|V1 (rfl:ct (sl af l27)=some [sl af l27])<|lG 0 .normal (gJ v v2 t t72 t73 m m2 m3 m4 m6 m7 m8 m9 m10 (bA (t74+1)) l27) rfl (cb (aI (up (am d8 v)) (aI (up (am aj v2)) (aI (hU (aj t)) (aI (cQ rfl) (aI (cQ rfl) (aI (up (am aj t72)) (aI trivial (aI trivial trivial))))))))) (aI trivial (aI (aI trivial (aI trivial (aI (up (am aj m)) (aI (up (am d8 ([]:List ag))) (aI trivial (aI trivial (aI trivial (aI (up (am ah m2)) (aI (up (am ah m2)) trivial))))))))) (aI (aI trivial (aI trivial (aI (up (am aj l27)) (aI (up (am d8 m6)) (aI trivial (aI trivial (aI trivial (aI (up (am ah m10)) (aI (up (am ah m2)) trivial))))))))) trivial)))
  exact cc (A:=Pa) mixed z<|by kernel_rfl
 ·obtain rfl:=lf h
  have z:=sg 0 c24<|eF (.exit 0) (oW t m m2 m3 m4 m6 m7 m8 m9 m10 m5)
  exact eS Pa (by intro hx;cases hx) z<|by kernel_rfl
theorem Eg(hR34:o0 R34){x:waC}(h:Ak R34 v v2 t72 t73 t74 m5=some x):aL Pg GE 0 (.loop (cA Uj 247)) (EX (.exit 0) (oW t m m2 m3 m4 m6 m7 m8 m9 m10 x)) (gJ v v2 t t72 t73 m m2 m3 m4 m6 m7 m8 m9 m10 t74 m5):=
 aL.loop (S:=fun(zz:Int×waC)=>gJ v v2 t t72 t73 m m2 m3 m4 m6 m7 m8 m9 m10 zz.1 zz.2) (ex:=(fun _=>.exit 0)) (s:=(t74,m5)) h fun zz y hy=>CS R34 v v2 t t72 t73 m m2 m3 m4 m6 m7 m8 m9 m10 zz.1 zz.2 hR34 hy
end
section
variable(t89:waB)(t90:Int)(m:waC)(m2:waB)(m3:Int)(m4:ag)(m5:waC)(m6:waA)(m7:Int)(m8:ag)(m9:Int)(m10:waB)(t91:Int)(m11:waB)
def gK:ax:=aP 104 [(6,.bptr 1 0),(9,.bptr 2 0),(89,sl ac t89),(90,.int .i64 t90),(91,.int .i64 t91)] [.dead,.cells [.int .i64 0,.str ([]:ag),sl af m,sl cS ([]:List ag),.int .i64 0,.str ([]:ag),.int .i64 0,sl ac m2,sl ac m2] [(2,30),(3,9),(7,28),(8,28)],.cells [.int .i64 m3,.str m4,sl af m5,sl cS m6,.int .i64 m7,.str m8,.int .i64 m9,sl ac m10,sl ac m11] [(2,30),(8,28)]] []
def oX(o:waB):ax:=aP 104 [(6,.bptr 1 0),(9,.bptr 2 0)] [.dead,.cells [.int .i64 0,.str ([]:ag),sl af m,sl cS ([]:List ag),.int .i64 0,.str ([]:ag),.int .i64 0,sl ac m2,sl ac m2] [(2,30),(3,9),(7,28),(8,28)],.cells [.int .i64 m3,.str m4,sl af m5,sl cS m6,.int .i64 m7,.str m8,.int .i64 m9,sl ac m10,sl ac o] [(2,30),(8,28)]] []
def wK:Option ((Int×waB)⊕(waB)):=
 if(decide (t91<t90))=true then
  (dt t89 t91).bind fun x30=>
  (tC x30).bind fun r31=>
  (app m11 ([r31]:List aa)).bind fun l32=>
  some (.inl (bA (t91+1),l32))
 else
  some (.inr m11)
def Al:Option waB:=loop (fun(zz:Int×waB)=>wK t89 t90 zz.1 zz.2) (t91,m11)
theorem CT{y:(Int×waB)⊕(waB)}(h:wK t89 t90 t91 m11=some y):aL Pg GE 0 (cA Uj 503) (LQ (fun(zz:Int×waB)=>gK t89 t90 m m2 m3 m4 m5 m6 m7 m8 m9 m10 zz.1 zz.2) (fun _=>.exit 2) (oX m m2 m3 m4 m5 m6 m7 m8 m9 m10) y) (gK t89 t90 m m2 m3 m4 m5 m6 m7 m8 m9 m10 t91 m11):=by
 rcases aK h with⟨c29,h⟩|⟨c29,h⟩
 ·obtain⟨x30,bx30,h⟩:=aw h
  obtain⟨r31,br31,h⟩:=aw h
  obtain⟨l32,bl32,h⟩:=aw h
  obtain rfl:=lf h
  have z:=sg 0 c29<|sv (aS.ia (k:=.i64) bx30)<|sv (az x30)<|sx d9<|sx (bp x30)<|CO [0,1,0,4,12,31,63,127]<|sv (aU x30 [])<|aX (pG br31)<|sv (aS.mk' (v:=cj) bz ([r31]:List aa) 1 (by kernel_rfl))<|sv (aS.ap bl32)<|V1 (rfl:ct (sl ac l32)=some [sl ac l32])<|lG 0 .normal (gK t89 t90 m m2 m3 m4 m5 m6 m7 m8 m9 m10 (bA (t91+1)) l32) rfl (cb (aI (cQ rfl) (aI (cQ rfl) (aI (up (am ah t89)) (aI trivial (aI trivial trivial)))))) (aI trivial (aI (aI trivial (aI trivial (aI (up (am aj m)) (aI (up (am d8 ([]:List ag))) (aI trivial (aI trivial (aI trivial (aI (up (am ah m2)) (aI (up (am ah m2)) trivial))))))))) (aI (aI trivial (aI trivial (aI (up (am aj m5)) (aI (up (am d8 m6)) (aI trivial (aI trivial (aI trivial (aI (up (am ah m10)) (aI (up (am ah l32)) trivial))))))))) trivial)))
  exact cc (A:=Pa) mixed z<|by kernel_rfl
 ·obtain rfl:=lf h
  have z:=sg 0 c29<|eF (.exit 2) (oX m m2 m3 m4 m5 m6 m7 m8 m9 m10 m11)
  exact eS Pa (by intro hx;cases hx) z<|by kernel_rfl
theorem Eh{x:waB}(h:Al t89 t90 t91 m11=some x):aL Pg GE 0 (.loop (cA Uj 503)) (EX (.exit 2) (oX m m2 m3 m4 m5 m6 m7 m8 m9 m10 x)) (gK t89 t90 m m2 m3 m4 m5 m6 m7 m8 m9 m10 t91 m11):=
 aL.loop (S:=fun(zz:Int×waB)=>gK t89 t90 m m2 m3 m4 m5 m6 m7 m8 m9 m10 zz.1 zz.2) (ex:=(fun _=>.exit 2)) (s:=(t91,m11)) h fun zz y hy=>CT t89 t90 m m2 m3 m4 m5 m6 m7 m8 m9 m10 zz.1 zz.2 hy
end
def BH(R34:lD)(t:ae)(a:waA)(a2:waC):Option ae:=
 (Ah R34 a a2 t).bind fun o21=>match o21 with
 |(.inl o21)=>
  some (⟨o21.1,o21.2.1,o21.2.2.1,o21.2.2.2.1,(⟨o21.2.2.2.2.1,o21.2.2.2.2.2.1,o21.2.2.2.2.2.2.1,o21.2.2.2.2.2.2.2.1⟩:aa),o21.2.2.2.2.2.2.2.2.1⟩:ae)
 |(.inr o21)=>
  (app ([]:List ag) t.Names).bind fun l22=>
  (tC t.Pred).bind fun r23=>
  (Ak R34 a a2 t.Args (t.Args.length:Int) 0 ([]:List ae)).bind fun o28=>
  (Al t.Preds (t.Preds.length:Int) 0 ([]:List aa)).bind fun o33=>
  some (⟨t.Op,t.Name,o28,l22,r23,o33⟩:ae)
theorem HA(R34:lD)(hR34:o0 R34){t:ae}{a:waA}{a2:waC}{r:ae}(h:BH R34 t a a2=some r):CC Pg GE 95 [.agg (af t),sl cS a,sl af a2] (.agg (af r)) [(2,30),(8,28)]:=by
 obtain⟨o21,bo21,h⟩:=aw h
 rcases o21 with o21|o21
 ·obtain rfl:=lf h
  have z:=se (bH t)<|sx jl<|jC 0<|cm (e:=.ret) (s1:=dn a a2 t ([]:List ae) ([]:List aa) (.inl o21)) (uH R34 a a2 t ([]:List ae) ([]:List aa) hR34 bo21)<|en (aI (dH (⟨o21.1,o21.2.1,o21.2.2.1,o21.2.2.2.1,(⟨o21.2.2.2.2.1,o21.2.2.2.2.2.1,o21.2.2.2.2.2.2.1,o21.2.2.2.2.2.2.2.1⟩:aa),o21.2.2.2.2.2.2.2.2.1⟩:ae))<|aI (aj (⟨o21.1,o21.2.1,o21.2.2.1,o21.2.2.2.1,(⟨o21.2.2.2.2.1,o21.2.2.2.2.2.1,o21.2.2.2.2.2.2.1,o21.2.2.2.2.2.2.2.1⟩:aa),o21.2.2.2.2.2.2.2.2.1⟩:ae))<|rT)
  exact bo Pa call95 func95 (c:=Uj) rfl (aI (aj t) (aI (am d8 a) (aI (am aj a2) trivial))) z<|by kernel_rfl
 ·obtain⟨l22,bl22,h⟩:=aw h
  obtain⟨r23,br23,h⟩:=aw h
  obtain⟨o28,bo28,h⟩:=aw h
  obtain⟨o33,bo33,h⟩:=aw h
  obtain rfl:=lf h
  have z:=se (bH t)<|sx jl<|jC 0<|cm (e:=.normal) (s1:=dn a a2 t ([]:List ae) ([]:List aa) (.inr o21)) (uH R34 a a2 t ([]:List ae) ([]:List aa) hR34 bo21)<|CO [0,1,0,4,0,0,32,112,0,256,1008,2047,0,8191]<|sv (au t)<|sv (av t)<|sv (ck t)<|sv (cq t)<|sv (aZ.mk' (v:=PVal.str) Ge ([]:List ag) 0 (by kernel_rfl))<|sv (aM t)<|sv (aN t)<|sv (aZ.ap bl22)<|sv (bv t)<|sv (bw t)<|aX (pG br23)<|sb (EL t.Op t.Name l22 r23) (EK t.Op t.Name l22 r23)<|UL (cu (⟨t.Op,t.Name,([]:List ae),l22,r23,([]:List aa)⟩:ae))<|sv (aF t)<|sv (aG t)<|b9 (cJ.ln t.Args)<|cm (Eg R34 a a2 t t.Args (t.Args.length:Int) ([]:List ae) ([]:List aa) t.Op t.Name l22 r23.Op r23.Name r23.N r23.Kids 0 ([]:List ae) hR34 bo28)<|sv (bk t)<|sv (bm t)<|b9 (aS.ln t.Preds)<|cm (Eh t.Preds (t.Preds.length:Int) ([]:List ae) ([]:List aa) t.Op t.Name o28 l22 r23.Op r23.Name r23.N r23.Kids 0 ([]:List aa) bo33)<|sz (bu (⟨t.Op,t.Name,o28,l22,r23,o33⟩:ae) [])<|sy (ba (⟨t.Op,t.Name,o28,l22,r23,o33⟩:ae))<|en (aI (dH (⟨t.Op,t.Name,o28,l22,r23,o33⟩:ae))<|aI (aj (⟨t.Op,t.Name,o28,l22,r23,o33⟩:ae))<|rT)
  exact bo Pa call95 func95 (c:=Uj) rfl (aI (aj t) (aI (am d8 a) (aI (am aj a2) trivial))) z<|by kernel_rfl
def BI:((ae×waA×waC)->Option ae)->(ae×waA×waC)->Option ae:=fun(rec:(ae×waA×waC)->Option ae) (x:ae×waA×waC)=>BH (fun t a a2=>rec (t,a,a2)) x.1 x.2.1 x.2.2
def Gl(t:ae)(a:waA)(a2:waC):Option ae:=ku BI (t,a,a2)
theorem Kg{t:ae}{a:waA}{a2:waC}{r:ae}(h:Gl t a a2=some r):CC Pg GE 95 [.agg (af t),sl cS a,sl af a2] (.agg (af r)) [(2,30),(8,28)]:=
 cn (F:=BI) (M:=fun(x:ae×waA×waC) (r:ae)=>CC Pg GE 95 [.agg (af x.1),sl cS x.2.1,sl af x.2.2] (.agg (af r)) [(2,30),(8,28)]) (fun rec hrec x r h=>HA _ (fun t a a2 r h=>hrec (t,a,a2) r h) h) h
noncomputable def qae:Code:=f53.body.getD .skip
def ZW:List Nat:=[]
def tq(t:ae):Option ae:=
 (Gl t ([]:List ag) ([]:List ae)).bind fun r1=>
 some r1
theorem uC{t:ae}{r:ae}(h:tq t=some r):CC Pg GE 53 [.agg (af t)] (.agg (af r)) [(2,30),(8,28)]:=by
 obtain⟨r1,br1,h⟩:=aw h
 obtain rfl:=lf h
 have z:=se (bH t)<|sx jl<|sv (aQ t)<|aX (Kg br1)<|sy (ba r1)<|en (aI (dH r1)<|aI (aj r1)<|rT)
 exact bo ZW call53 func53 (c:=qae) rfl (aI (aj t) trivial) z<|by kernel_rfl
noncomputable def Zo:Code:=f96.body.getD .skip
def Zd:List Nat:=[]
def lR(is:Bool):Option aa:=
 if is=true then
  some (⟨2,([]:ag),1,([]:List aa)⟩:aa)
 else
  some (⟨2,([]:ag),0,([]:List aa)⟩:aa)
theorem gC{is:Bool}{r:aa}(h:lR is=some r):CC Pg GE 96 [.bool is] (.agg (ac r)) [(3,28)]:=by
 rcases aK h with⟨c1,h⟩|⟨c1,h⟩
 ·obtain rfl:=lf h
  have z:=sx d9<|sg 0 c1<|sb (nx 2 1) (nw 2 1)<|sy (aR (⟨2,([]:ag),1,([]:List aa)⟩:aa))<|en (aI (dG (⟨2,([]:ag),1,([]:List aa)⟩:aa))<|aI (ah (⟨2,([]:ag),1,([]:List aa)⟩:aa))<|rT)
  exact bo Zd call96 func96 (c:=Zo) rfl (aI trivial trivial) z<|by kernel_rfl
 ·obtain rfl:=lf h
  have z:=sx d9<|sg 0 c1<|sb (Pt 2) (Pr 2)<|sy (aR (⟨2,([]:ag),0,([]:List aa)⟩:aa))<|en (aI (dG (⟨2,([]:ag),0,([]:List aa)⟩:aa))<|aI (ah (⟨2,([]:ag),0,([]:List aa)⟩:aa))<|rT)
  exact bo Zd call96 func96 (c:=Zo) rfl (aI trivial trivial) z<|by kernel_rfl
abbrev mO:=(aa->aa->Option Bool)
abbrev tJ(R:mO):Prop:=∀(a:aa) (a2:aa) (r:Bool),R a a2=some r->CC Pg GE 98 [.agg (ac a),.agg (ac a2)] (.bool r) []
noncomputable def SC:Code:=f124.body.getD .skip
def Q3:List Nat:=[17]
section
variable(R41:mO)(v:waB)(v2:waB)(t14:Int)(t15:Int)
def iG:ax:=aP 30 [(0,sl ac v),(1,sl ac v2),(2,.func (.func 98) [] []),(14,.int .i64 t14),(15,.int .i64 t15)] [] []
def iI(o:Unit⊕(Unit)):Exit:=match o with
 |(.inl _)=>.ret
 |(.inr _)=>.exit 0
def fE(o:Unit⊕(Unit)):ax:=match o with
 |(.inl o)=>aP 30 [(6,.bool false)] [] []
 |(.inr o)=>aP 30 [] [] []
def iH:Option (Int⊕(Unit⊕(Unit))):=
 if(decide (t15<t14))=true then
  (dt v t15).bind fun x4=>
  (dt v2 t15).bind fun x5=>
  (R41 x4 x5).bind fun r6=>
  if(!r6)=true then
   some (.inr (.inl ()))
  else
   some (.inl (bA (t15+1)))
 else
  some (.inr (.inr ()))
def vA:Option (Unit⊕(Unit)):=loop (fun(zz:Int)=>iH R41 v v2 t14 zz) t15
theorem DW(hR41:tJ R41){y:Int⊕(Unit⊕(Unit))}(h:iH R41 v v2 t14 t15=some y):aL Pg GE 0 (cA SC 119) (LQ (fun(zz:Int)=>iG v v2 t14 zz) iI fE y) (iG v v2 t14 t15):=by
 rcases aK h with⟨c3,h⟩|⟨c3,h⟩
 ·obtain⟨x4,bx4,h⟩:=aw h
  obtain⟨x5,bx5,h⟩:=aw h
  obtain⟨r6,br6,h⟩:=aw h
  have p8:=fun{sc F} (r:PS sc F)=>sg 0 c3<|CO [0,0,0,6,14,0,0,96,224,511,1023]<|sv (aS.ia (k:=.i64) bx4)<|sv (az x4)<|sv (aS.ia (k:=.i64) bx5)<|sv (az x5)<|aX (hR41 _ _ _ br6)<|r
  rcases aK h with⟨c7,h⟩|⟨c7,h⟩
  ·obtain rfl:=lf h
   have z:=p8<|sg 0 c7<|eF (iI (.inl ())) (fE (.inl ()))
   exact eS Q3 (by intro hx;cases hx) z<|by kernel_rfl
  ·obtain rfl:=lf h
   exact vJ Q3 (p8<|sg 0 c7<|eF .normal (iG v v2 t14 (bA (t15+1))))<|by kernel_rfl
 ·obtain rfl:=lf h
  have z:=sg 0 c3<|eF (iI (.inr ())) (fE (.inr ()))
  exact eS Q3 (by intro hx;cases hx) z<|by kernel_rfl
theorem wy(hR41:tJ R41){x:Unit⊕(Unit)}(h:vA R41 v v2 t14 t15=some x):aL Pg GE 0 (.loop (cA SC 119)) (EX (iI x) (fE x)) (iG v v2 t14 t15):=
 aL.loop (S:=fun(zz:Int)=>iG v v2 t14 zz) (ex:=iI) (s:=t15) h fun zz y hy=>DW R41 v v2 t14 zz hR41 hy
end
def xV(R41:mO)(a:waB)(a2:waB):Option Bool:=
 if((a.length:Int)!=(a2.length:Int))=true then
  some false
 else
  (vA R41 a a2 (a.length:Int) 0).bind fun o9=>match o9 with
  |(.inl o9)=>
   some false
  |(.inr o9)=>
   some true
theorem Lc(R41:mO)(hR41:tJ R41){a:waB}{a2:waB}{r:Bool}(h:xV R41 a a2=some r):CC Pg GE 124 [sl ac a,sl ac a2,.func (.func 98) [] []] (.bool r) []:=by
 have p2:=fun{sc F} (r:PS sc F)=>b9 (aS.ln a)<|b9 (aS.ln a2)<|r
 rcases aK h with⟨c1,h⟩|⟨c1,h⟩
 ·obtain rfl:=lf h
  have z:=p2<|sg 0 c1<|en (aI (rP (.bool false))<|trivial)
  exact bo Q3 call124 func124 (c:=SC) rfl (aI (am ah a) (aI (am ah a2) (aI (aI trivial trivial) trivial))) z<|by kernel_rfl
 ·obtain⟨o9,bo9,h⟩:=aw h
  rcases o9 with o9|o9
  ·obtain rfl:=lf h
   have z:=p2<|sg 0 c1<|b9 (aS.ln a)<|cm (e:=.ret) (s1:=fE (.inl o9)) (wy R41 a a2 (a.length:Int) 0 hR41 bo9)<|en (aI (rP (.bool false))<|trivial)
   exact bo Q3 call124 func124 (c:=SC) rfl (aI (am ah a) (aI (am ah a2) (aI (aI trivial trivial) trivial))) z<|by kernel_rfl
  ·obtain rfl:=lf h
   have z:=p2<|sg 0 c1<|b9 (aS.ln a)<|cm (e:=.exit 0) (s1:=fE (.inr o9)) (wy R41 a a2 (a.length:Int) 0 hR41 bo9)<|en (aI (rP (.bool true))<|trivial)
   exact bo Q3 call124 func124 (c:=SC) rfl (aI (am ah a) (aI (am ah a2) (aI (aI trivial trivial) trivial))) z<|by kernel_rfl
noncomputable def XX:Code:=f98.body.getD .skip
def XR:List Nat:=[]
def uw(R41:mO)(a:aa)(a2:aa):Option Bool:=
 if (a.Op == a2.Op) = true then
  if(a.Name==a2.Name)=true then
   if(a.N==a2.N)=true then
    (xV R41 a.Kids a2.Kids).bind fun r7=>
    some r7
   else
    some false
  else
   some false
 else
  some false
theorem La(R41:mO)(hR41:tJ R41){a:aa}{a2:aa}{r:Bool}(h:uw R41 a a2=some r):CC Pg GE 98 [.agg (ac a),.agg (ac a2)] (.bool r) []:=by
 have p2:=fun{sc F} (r:PS sc F)=>se (bh a)<|se (bh a2)<|sv (aB a)<|sv (aC a)<|sv (aB a2)<|sv (aC a2)<|r
 rcases aK h with⟨c1,h⟩|⟨c1,h⟩
 ·have p4:=fun{sc F} (r:PS sc F)=>p2<|sg 6 c1<|sv (bF a)<|sv (bN a)<|sv (bF a2)<|sv (bN a2)<|r
  rcases aK h with⟨c3,h⟩|⟨c3,h⟩
  ·have p6:=fun{sc F} (r:PS sc F)=>p4<|sg 13 c3<|sv (bG a)<|sv (bO a)<|sv (bG a2)<|sv (bO a2)<|r
   rcases aK h with⟨c5,h⟩|⟨c5,h⟩
   ·obtain⟨r7,br7,h⟩:=aw h
    obtain rfl:=lf h
    have z:=p6<|sg 20 c5<|sv (aH a)<|sv (aJ a)<|sv (aH a2)<|sv (aJ a2)<|aX (Lc R41 hR41 br7)<|en (aI (rP (.bool r7))<|trivial)
    exact bo XR call98 func98 (c:=XX) rfl (aI (ah a) (aI (ah a2) trivial)) z<|by kernel_rfl
   ·obtain rfl:=lf h
    have z:=p6<|sg 20 c5<|en (aI (rP (.bool false))<|trivial)
    exact bo XR call98 func98 (c:=XX) rfl (aI (ah a) (aI (ah a2) trivial)) z<|by kernel_rfl
  ·obtain rfl:=lf h
   have z:=p4<|sg 13 c3<|en (aI (rP (.bool false))<|trivial)
   exact bo XR call98 func98 (c:=XX) rfl (aI (ah a) (aI (ah a2) trivial)) z<|by kernel_rfl
 ·obtain rfl:=lf h
  have z:=p2<|sg 6 c1<|en (aI (rP (.bool false))<|trivial)
  exact bo XR call98 func98 (c:=XX) rfl (aI (ah a) (aI (ah a2) trivial)) z<|by kernel_rfl
def zU:((aa×aa)->Option Bool)->(aa×aa)->Option Bool:=fun(rec:(aa×aa)->Option Bool) (x:aa×aa)=>uw (fun a a2=>rec (a,a2)) x.1 x.2
def fD(a:aa)(a2:aa):Option Bool:=ku zU (a,a2)
theorem fM{a:aa}{a2:aa}{r:Bool}(h:fD a a2=some r):CC Pg GE 98 [.agg (ac a),.agg (ac a2)] (.bool r) []:=
 cn (F:=zU) (M:=fun(x:aa×aa) (r:Bool)=>CC Pg GE 98 [.agg (ac x.1),.agg (ac x.2)] (.bool r) []) (fun rec hrec x r h=>La _ (fun a a2 r h=>hrec (a,a2) r h) h) h
noncomputable def Zp:Code:=f97.body.getD .skip
def Ze:List Nat:=[]
def LT(p:aa):Option Bool:=
 (fD p (⟨0,([]:ag),0,([]:List aa)⟩:aa)).bind fun r1=>
 if r1=true then
  some true
 else
  (lR true).bind fun r4=>
  (fD p r4).bind fun r5=>
  some r5
theorem Nn{p:aa}{r:Bool}(h:LT p=some r):CC Pg GE 97 [.agg (ac p)] (.bool r) []:=by
 obtain⟨r1,br1,h⟩:=aw h
 have p3:=fun{sc F} (r:PS sc F)=>se (bh p)<|CO [0,0,3,7,15,15,63,127,255]<|sv (az p)<|sb (sM) (sK)<|aX (fM br1)<|r
 rcases aK h with⟨c2,h⟩|⟨c2,h⟩
 ·obtain rfl:=lf h
  have z:=p3<|sg 4 c2<|en (aI (rP (.bool true))<|trivial)
  exact bo Ze call97 func97 (c:=Zp) rfl (aI (ah p) trivial) z<|by kernel_rfl
 ·obtain⟨r4,br4,h⟩:=aw h
  obtain⟨r5,br5,h⟩:=aw h
  obtain rfl:=lf h
  have z:=p3<|sg 4 c2<|sv (az p)<|aX (gC br4)<|aX (fM br5)<|en (aI (rP (.bool r5))<|trivial)
  exact bo Ze call97 func97 (c:=Zp) rfl (aI (ah p) trivial) z<|by kernel_rfl
noncomputable def XW:Code:=f54.body.getD .skip
def Vp:List Nat:=[25]
section
variable(t8:waB)(t9:Int)(v:Bool)(t10:Int)(m:Int)(m2:ag)(m3:Int)(m4:waB)(m5:Int)(m6:ag)(m7:Int)(m8:waB)
def ga:ax:=aP 33 [(2,.bptr 0 0),(3,.bptr 1 0),(4,.bool v),(8,sl ac t8),(9,.int .i64 t9),(10,.int .i64 t10)] [.cells [.int .i64 m,.str m2,.int .i64 m3,sl ac m4] [(3,28)],.cells [.int .i64 m5,.str m6,.int .i64 m7,sl ac m8] []] []
def lQ(o:(Int×ag×Int×waB×Int×ag×Int×waB)⊕(Int×ag×Int×waB×Int×ag×Int×waB)):Exit:=match o with
 |(.inl _)=>.ret
 |(.inr _)=>.exit 0
def jh(o:(Int×ag×Int×waB×Int×ag×Int×waB)⊕(Int×ag×Int×waB×Int×ag×Int×waB)):ax:=match o with
 |(.inl o)=>aP 33 [(2,.bptr 0 0)] [.cells [.int .i64 o.1,.str o.2.1,.int .i64 o.2.2.1,sl ac o.2.2.2.1] [(3,28)],.cells [.int .i64 o.2.2.2.2.1,.str o.2.2.2.2.2.1,.int .i64 o.2.2.2.2.2.2.1,sl ac o.2.2.2.2.2.2.2] []] []
 |(.inr o)=>aP 33 [(2,.bptr 0 0),(3,.bptr 1 0)] [.cells [.int .i64 o.1,.str o.2.1,.int .i64 o.2.2.1,sl ac o.2.2.2.1] [(3,28)],.cells [.int .i64 o.2.2.2.2.1,.str o.2.2.2.2.2.1,.int .i64 o.2.2.2.2.2.2.1,sl ac o.2.2.2.2.2.2.2] []] []
def Bz:Option ((Bool×Int×Int×ag×Int×waB×Int×ag×Int×waB)⊕((Int×ag×Int×waB×Int×ag×Int×waB)⊕(Int×ag×Int×waB×Int×ag×Int×waB))):=
 if (decide (t10 < t9)) = true then
  (dt t8 t10).bind fun x3=>
  (LT x3).bind fun r4=>
  if r4=true then
   some (.inl (v,bA (t10+1),m,m2,m3,m4,m5,m6,m7,m8))
  else
   (lR false).bind fun r7=>
   (fD x3 r7).bind fun r8=>
   if r8=true then
    (lR false).bind fun r11=>
    some (.inr (.inl (r11.Op,r11.Name,r11.N,r11.Kids,m5,m6,m7,m8)))
   else
    if v=true then
     (mU x3).bind fun r14=>
     some (.inl (v,bA (t10+1),m,m2,m3,m4,15,([]:ag),0,([(⟨m5,m6,m7,m8⟩:aa),r14]:List aa)))
    else
     (mU x3).bind fun r15=>
     some (.inl (true,bA (t10+1),m,m2,m3,m4,r15.Op,r15.Name,r15.N,r15.Kids))
 else
  some (.inr (.inr (m,m2,m3,m4,m5,m6,m7,m8)))
def Gh:Option ((Int×ag×Int×waB×Int×ag×Int×waB)⊕(Int×ag×Int×waB×Int×ag×Int×waB)):=loop (fun(zz:Bool×Int×Int×ag×Int×waB×Int×ag×Int×waB)=>Bz t8 t9 zz.1 zz.2.1 zz.2.2.1 zz.2.2.2.1 zz.2.2.2.2.1 zz.2.2.2.2.2.1 zz.2.2.2.2.2.2.1 zz.2.2.2.2.2.2.2.1 zz.2.2.2.2.2.2.2.2.1 zz.2.2.2.2.2.2.2.2.2) (v,t10,m,m2,m3,m4,m5,m6,m7,m8)
theorem Hg{y:(Bool×Int×Int×ag×Int×waB×Int×ag×Int×waB)⊕((Int×ag×Int×waB×Int×ag×Int×waB)⊕(Int×ag×Int×waB×Int×ag×Int×waB))}(h:Bz t8 t9 v t10 m m2 m3 m4 m5 m6 m7 m8=some y):aL Pg GE 0 (cA XW 119) (LQ (fun(zz:Bool×Int×Int×ag×Int×waB×Int×ag×Int×waB)=>ga t8 t9 zz.1 zz.2.1 zz.2.2.1 zz.2.2.2.1 zz.2.2.2.2.1 zz.2.2.2.2.2.1 zz.2.2.2.2.2.2.1 zz.2.2.2.2.2.2.2.1 zz.2.2.2.2.2.2.2.2.1 zz.2.2.2.2.2.2.2.2.2) lQ jh y) (ga t8 t9 v t10 m m2 m3 m4 m5 m6 m7 m8):=by
 rcases aK h with⟨c2,h⟩|⟨c2,h⟩
 ·obtain⟨x3,bx3,h⟩:=aw h
  obtain⟨r4,br4,h⟩:=aw h
  have p6:=fun{sc F} (r:PS sc F)=>sg 0 c2<|sv (aS.ia (k:=.i64) bx3)<|sv (az x3)<|sx d9<|sx (bp x3)<|sv (aU x3 [])<|aX (Nn br4)<|r
  rcases aK h with⟨c5,h⟩|⟨c5,h⟩
  ·obtain rfl:=lf h
   have z:=p6<|sg 0 c5<|lG 0 .normal (ga t8 t9 v (bA (t10+1)) m m2 m3 m4 m5 m6 m7 m8) rfl (cb (aI (cQ rfl) (aI (cQ rfl) (aI trivial (aI (up (am ah t8)) (aI trivial (aI trivial trivial))))))) (aI (aI trivial (aI trivial (aI trivial (aI (up (am ah m4)) trivial)))) (aI (aI trivial (aI trivial (aI trivial (aI (up (am ah m8)) trivial)))) trivial))
   exact cc (A:=Vp) mixed z<|by kernel_rfl
  ·obtain⟨r7,br7,h⟩:=aw h
   obtain⟨r8,br8,h⟩:=aw h
   have p10:=fun{sc F} (r:PS sc F)=>p6<|sg 0 c5<|CO [0,0,3,7]<|sv (aU x3 [])<|aX (gC br7)<|aX (fM br8)<|r
   rcases aK h with⟨c9,h⟩|⟨c9,h⟩
   ·obtain⟨r11,br11,h⟩:=aw h
    obtain rfl:=lf h
    have z:=p10<|sg 0 c9<|aX (gC br11)<|sy (aR r11)<|lG 0 (lQ (.inl (r11.Op,r11.Name,r11.N,r11.Kids,m5,m6,m7,m8))) (jh (.inl (r11.Op,r11.Name,r11.N,r11.Kids,m5,m6,m7,m8))) rfl (cb (aI (cQ rfl) trivial)) (aI (aI trivial (aI trivial (aI trivial (aI (up (am ah r11.Kids)) trivial)))) (aI (aI trivial (aI trivial (aI trivial (aI (up (am ah m8)) trivial)))) trivial))
    exact mC (A:=Vp) mixed (by intro hx;cases hx) z<|by kernel_rfl
   ·have p13:=fun{sc F} (r:PS sc F)=>p10<|sg 0 c9<|r
    rcases aK h with⟨c12,h⟩|⟨c12,h⟩
    ·obtain⟨r14,br14,h⟩:=aw h
     obtain rfl:=lf h
     have z:=p13<|sg 0 c12<|CO [0,0,2,7,15,31]<|sv (aU (⟨m5,m6,m7,m8⟩:aa) [])<|sv (aU x3 [])<|aX (nI br14)<|sv (aS.mk' (v:=cj) bz ([(⟨m5,m6,m7,m8⟩:aa),r14]:List aa) 2 (by kernel_rfl))<|sv (rl 15 ([(⟨m5,m6,m7,m8⟩:aa),r14]:List aa))<|sx (bp (⟨15,([]:ag),0,([(⟨m5,m6,m7,m8⟩:aa),r14]:List aa)⟩:aa))<|lG 0 .normal (ga t8 t9 v (bA (t10+1)) m m2 m3 m4 15 ([]:ag) 0 ([(⟨m5,m6,m7,m8⟩:aa),r14]:List aa)) rfl (cb (aI (cQ rfl) (aI (cQ rfl) (aI trivial (aI (up (am ah t8)) (aI trivial (aI trivial trivial))))))) (aI (aI trivial (aI trivial (aI trivial (aI (up (am ah m4)) trivial)))) (aI (aI trivial (aI trivial (aI trivial (aI (up (am ah ([(⟨m5,m6,m7,m8⟩:aa),r14]:List aa))) trivial)))) trivial))
     exact cc (A:=Vp) mixed z<|by kernel_rfl
    ·obtain⟨r15,br15,h⟩:=aw h
     obtain rfl:=lf h
     have z:=p13<|sg 0 c12<|sv (aU x3 [])<|aX (nI br15)<|sy (aR r15)<|lG 0 .normal (ga t8 t9 true (bA (t10+1)) m m2 m3 m4 r15.Op r15.Name r15.N r15.Kids) rfl (cb (aI (cQ rfl) (aI (cQ rfl) (aI trivial (aI (up (am ah t8)) (aI trivial (aI trivial trivial))))))) (aI (aI trivial (aI trivial (aI trivial (aI (up (am ah m4)) trivial)))) (aI (aI trivial (aI trivial (aI trivial (aI (up (am ah r15.Kids)) trivial)))) trivial))
     exact cc (A:=Vp) mixed z<|by kernel_rfl
 ·obtain rfl:=lf h
  have z:=sg 0 c2<|eF (lQ (.inr (m,m2,m3,m4,m5,m6,m7,m8))) (jh (.inr (m,m2,m3,m4,m5,m6,m7,m8)))
  exact eS Vp (by intro hx;cases hx) z<|by kernel_rfl
theorem zT{x:(Int×ag×Int×waB×Int×ag×Int×waB)⊕(Int×ag×Int×waB×Int×ag×Int×waB)}(h:Gh t8 t9 v t10 m m2 m3 m4 m5 m6 m7 m8=some x):aL Pg GE 0 (.loop (cA XW 119)) (EX (lQ x) (jh x)) (ga t8 t9 v t10 m m2 m3 m4 m5 m6 m7 m8):=
 aL.loop (S:=fun(zz:Bool×Int×Int×ag×Int×waB×Int×ag×Int×waB)=>ga t8 t9 zz.1 zz.2.1 zz.2.2.1 zz.2.2.2.1 zz.2.2.2.2.1 zz.2.2.2.2.2.1 zz.2.2.2.2.2.2.1 zz.2.2.2.2.2.2.2.1 zz.2.2.2.2.2.2.2.2.1 zz.2.2.2.2.2.2.2.2.2) (ex:=lQ) (s:=(v,t10,m,m2,m3,m4,m5,m6,m7,m8)) h fun zz y hy=>Hg t8 t9 zz.1 zz.2.1 zz.2.2.1 zz.2.2.2.1 zz.2.2.2.2.1 zz.2.2.2.2.2.1 zz.2.2.2.2.2.2.1 zz.2.2.2.2.2.2.2.1 zz.2.2.2.2.2.2.2.2.1 zz.2.2.2.2.2.2.2.2.2 hy
end
def OJ(a:waB):Option aa:=
 (lR true).bind fun r1=>
 (Gh a (a.length:Int) false 0 0 ([]:ag) 0 ([]:List aa) r1.Op r1.Name r1.N r1.Kids).bind fun o16=>match o16 with
 |(.inl o16)=>
  some (⟨o16.1,o16.2.1,o16.2.2.1,o16.2.2.2.1⟩:aa)
 |(.inr o16)=>
  some (⟨o16.2.2.2.2.1,o16.2.2.2.2.2.1,o16.2.2.2.2.2.2.1,o16.2.2.2.2.2.2.2⟩:aa)
theorem OK{a:waB}{r:aa}(h:OJ a=some r):CC Pg GE 54 [sl ac a] (.agg (ac r)) []:=by
 obtain⟨r1,br1,h⟩:=aw h
 obtain⟨o16,bo16,h⟩:=aw h
 rcases o16 with o16|o16
 ·obtain rfl:=lf h
  have z:=sx d9<|aX (gC br1)<|sx d9<|sy (aR r1)<|b9 (aS.ln a)<|cm (e:=.ret) (s1:=jh (.inl o16)) (zT a (a.length:Int) false 0 0 ([]:ag) 0 ([]:List aa) r1.Op r1.Name r1.N r1.Kids bo16)<|en (aI (dG (⟨o16.1,o16.2.1,o16.2.2.1,o16.2.2.2.1⟩:aa))<|(ah (⟨o16.1,o16.2.1,o16.2.2.1,o16.2.2.2.1⟩:aa)))
  exact bo Vp call54 func54 (c:=XW) rfl (aI (am ah a) trivial) z<|by kernel_rfl
 ·obtain rfl:=lf h
  have z:=sx d9<|aX (gC br1)<|sx d9<|sy (aR r1)<|b9 (aS.ln a)<|cm (e:=.exit 0) (s1:=jh (.inr o16)) (zT a (a.length:Int) false 0 0 ([]:ag) 0 ([]:List aa) r1.Op r1.Name r1.N r1.Kids bo16)<|sv (aU (⟨o16.2.2.2.2.1,o16.2.2.2.2.2.1,o16.2.2.2.2.2.2.1,o16.2.2.2.2.2.2.2⟩:aa) [])<|sx (bp (⟨o16.2.2.2.2.1,o16.2.2.2.2.2.1,o16.2.2.2.2.2.2.1,o16.2.2.2.2.2.2.2⟩:aa))<|en (aI (dG (⟨o16.2.2.2.2.1,o16.2.2.2.2.2.1,o16.2.2.2.2.2.2.1,o16.2.2.2.2.2.2.2⟩:aa))<|(ah (⟨o16.2.2.2.2.1,o16.2.2.2.2.2.1,o16.2.2.2.2.2.2.1,o16.2.2.2.2.2.2.2⟩:aa)))
  exact bo Vp call54 func54 (c:=XW) rfl (aI (am ah a) trivial) z<|by kernel_rfl
noncomputable def Zg:Code:=f20.body.getD .skip
def Y5:List Nat:=[]
def Gj(t:ae)(p:aa):Option ae:=
 (tq t).bind fun r1=>
 if(t.Op !=6)=true then
  (OJ ([t.Pred,p]:List aa)).bind fun r4=>
  some (⟨r1.Op,r1.Name,r1.Args,r1.Names,r4,r1.Preds⟩:ae)
 else
  some r1
theorem J1{t:ae}{p:aa}{r:ae}(h:Gj t p=some r):CC Pg GE 20 [.agg (af t),.agg (ac p)] (.agg (af r)) [(2,30),(8,28)]:=by
 obtain⟨r1,br1,h⟩:=aw h
 have p3:=fun{sc F} (r:PS sc F)=>se (bH t)<|se (bh p)<|sx jl<|sv (aQ t)<|aX (uC br1)<|sx jl<|sy (ba r1)<|sv (au t)<|sv (av t)<|r
 rcases aK h with⟨c2,h⟩|⟨c2,h⟩
 ·obtain⟨r4,br4,h⟩:=aw h
  obtain rfl:=lf h
  have z:=p3<|sg 0 c2<|sv (bv t)<|sv (bw t)<|sv (az p)<|sv (aS.mk' (v:=cj) bz ([t.Pred,p]:List aa) 2 (by kernel_rfl))<|aX (OK br4)<|sx (bp r4)<|sz (bu (⟨r1.Op,r1.Name,r1.Args,r1.Names,r4,r1.Preds⟩:ae) [])<|sy (ba (⟨r1.Op,r1.Name,r1.Args,r1.Names,r4,r1.Preds⟩:ae))<|en (aI (dH (⟨r1.Op,r1.Name,r1.Args,r1.Names,r4,r1.Preds⟩:ae))<|aI (aj (⟨r1.Op,r1.Name,r1.Args,r1.Names,r4,r1.Preds⟩:ae))<|rT)
  exact bo Y5 call20 func20 (c:=Zg) rfl (aI (aj t) (aI (ah p) trivial)) z<|by kernel_rfl
 ·obtain rfl:=lf h
  have z:=p3<|sg 0 c2<|sz (bu r1 [])<|sy (ba r1)<|en (aI (dH r1)<|aI (aj r1)<|rT)
  exact bo Y5 call20 func20 (c:=Zg) rfl (aI (aj t) (aI (ah p) trivial)) z<|by kernel_rfl
noncomputable def XS:Code:=f25.body.getD .skip
def UU:List Nat:=[]
section
variable(name:ag)(t:ae)(t7:Int)(m:waC)(m2:waB)
def D4:ax:=aP 24 [(1,.str name),(2,.eptr (af t)),(4,.bptr 1 0),(5,.int .i64 10),(7,.int .i64 t7)] [.dead,.cells [.int .i64 0,.str ([]:ag),sl af m,sl cS ([]:List ag),.int .i64 0,.str ([]:ag),.int .i64 0,sl ac m2,sl ac m2] [(2,30),(3,9),(7,28),(8,28)]] []
def jy(o:Bool):ax:=aP 24 [(1,.str name),(2,.eptr (af t)),(4,.bptr 1 0),(5,.int .i64 10),(12,.bool o)] [.dead,.cells [.int .i64 0,.str ([]:ag),sl af m,sl cS ([]:List ag),.int .i64 0,.str ([]:ag),.int .i64 0,sl ac m2,sl ac m2] [(2,30),(3,9),(7,28),(8,28)]] []
def yF:Option Bool:=
 if(t7==1)=true then
  some (t7==1)
 else
  if(t7==3)=true then
   some (t7==3)
  else
   some (t7==4)
theorem CL{x:Bool}(h:yF t7=some x):aL Pg GE 0 (cA XS 478) (EX .normal (jy name t m m2 x)) (D4 name t t7 m m2):=by
 rcases aK h with⟨c3,h⟩|⟨c3,h⟩
 ·obtain rfl:=lf h
  exact bE UU (sg 0 c3<|eF .normal (jy name t m m2 (t7==1)))<|by kernel_rfl
 ·rcases aK h with⟨c4,h⟩|⟨c4,h⟩
  ·obtain rfl:=lf h
   exact bE UU (sg 0 c3<|sg 0 c4<|eF .normal (jy name t m m2 (t7==3)))<|by kernel_rfl
  ·obtain rfl:=lf h
   exact bE UU (sg 0 c3<|sg 0 c4<|eF .normal (jy name t m m2 (t7==4)))<|by kernel_rfl
end
section
variable(name:ag)(t:ae)(m:waC)(m2:waB)
def D3:ax:=aP 24 [(1,.str name),(2,.eptr (af t)),(4,.bptr 1 0),(5,.int .i64 10)] [.dead,.cells [.int .i64 0,.str ([]:ag),sl af m,sl cS ([]:List ag),.int .i64 0,.str ([]:ag),.int .i64 0,sl ac m2,sl ac m2] [(2,30),(3,9),(7,28),(8,28)]] []
def jx(o:Int⊕(Int×ag×waC×waA×Int×ag×Int×waB×waB)):Exit:=match o with
 |(.inl _)=>.normal
 |(.inr _)=>.ret
def ei(o:Int⊕(Int×ag×waC×waA×Int×ag×Int×waB×waB)):ax:=match o with
 |(.inl o)=>aP 24 [(1,.str name),(2,.eptr (af t)),(4,.bptr 1 0),(5,.int .i64 o)] [.dead,.cells [.int .i64 0,.str ([]:ag),sl af m,sl cS ([]:List ag),.int .i64 0,.str ([]:ag),.int .i64 0,sl ac m2,sl ac m2] [(2,30),(3,9),(7,28),(8,28)]] []
 |(.inr o)=>aP 24 [(4,.bptr 1 0)] [.dead,.cells [.int .i64 o.1,.str o.2.1,sl af o.2.2.1,sl cS o.2.2.2.1,.int .i64 o.2.2.2.2.1,.str o.2.2.2.2.2.1,.int .i64 o.2.2.2.2.2.2.1,sl ac o.2.2.2.2.2.2.2.1,sl ac o.2.2.2.2.2.2.2.2] [(2,30),(8,28)]] []
def yE:Option (Int⊕(Int×ag×waC×waA×Int×ag×Int×waB×waB)):=
 if(t.Op==2)=true then
  some (.inl 18)
 else
  (yF t.Op).bind fun o5=>
  if o5=true then
   some (.inl 10)
  else
   (tq t).bind fun r8=>
   some (.inr (r8.Op,r8.Name,r8.Args,r8.Names,r8.Pred.Op,r8.Pred.Name,r8.Pred.N,r8.Pred.Kids,r8.Preds))
theorem tp{x:Int⊕(Int×ag×waC×waA×Int×ag×Int×waB×waB)}(h:yE t=some x):aL Pg GE 0 (cA XS 14) (EX (jx x) (ei name t m m2 x)) (D3 name t m m2):=by
 have p2:=fun{sc F} (r:PS sc F)=>sv (au t)<|sv (av t)<|r
 rcases aK h with⟨c1,h⟩|⟨c1,h⟩
 ·obtain rfl:=lf h
  exact bE UU (p2<|sg 0 c1<|eF (jx (.inl 18)) (ei name t m m2 (.inl 18)))<|by kernel_rfl
 ·obtain⟨o5,bo5,h⟩:=aw h
  have p7:=fun{sc F} (r:PS sc F)=>p2<|sg 0 c1<|jC 0<|cm (CL name t t.Op m m2 bo5)<|r
  rcases aK h with⟨c6,h⟩|⟨c6,h⟩
  ·obtain rfl:=lf h
   exact bE UU (p7<|sg 0 c6<|eF (jx (.inl 10)) (ei name t m m2 (.inl 10)))<|by kernel_rfl
  ·obtain⟨r8,br8,h⟩:=aw h
   obtain rfl:=lf h
   exact bE UU (p7<|sg 0 c6<|sv (aQ t)<|aX (uC br8)<|sy (ba r8)<|eF (jx (.inr (r8.Op,r8.Name,r8.Args,r8.Names,r8.Pred.Op,r8.Pred.Name,r8.Pred.N,r8.Pred.Kids,r8.Preds))) (ei name t m m2 (.inr (r8.Op,r8.Name,r8.Args,r8.Names,r8.Pred.Op,r8.Pred.Name,r8.Pred.N,r8.Pred.Kids,r8.Preds))))<|by kernel_rfl
end
def D2(t:ae)(name:ag):Option ae:=
 (yE t).bind fun o9=>match o9 with
 |(.inl o9)=>
  (Gj t (⟨o9,([]:ag),0,([(⟨3,([118]:ag),0,([]:List aa)⟩:aa),(⟨3,name,0,([]:List aa)⟩:aa)]:List aa)⟩:aa)).bind fun r10=>
  some r10
 |(.inr o9)=>
  some (⟨o9.1,o9.2.1,o9.2.2.1,o9.2.2.2.1,(⟨o9.2.2.2.2.1,o9.2.2.2.2.2.1,o9.2.2.2.2.2.2.1,o9.2.2.2.2.2.2.2.1⟩:aa),o9.2.2.2.2.2.2.2.2⟩:ae)
theorem Hw{t:ae}{name:ag}{r:ae}(h:D2 t name=some r):CC Pg GE 25 [.agg (af t),.str name] (.agg (af r)) [(2,30),(8,28)]:=by
 obtain⟨o9,bo9,h⟩:=aw h
 rcases o9 with o9|o9
 ·obtain⟨r10,br10,h⟩:=aw h
  obtain rfl:=lf h
  have z:=se (bH t)<|sx jl<|jC 1<|cm (e:=.normal) (s1:=ei name t ([]:List ae) ([]:List aa) (.inl o9)) (tp name t ([]:List ae) ([]:List aa) bo9)<|sv (aQ t)<|sb (rj 3 ([118]:ag)) (rf 3 ([118]:ag))<|sb (rj 3 name) (rf 3 name)<|sv (aS.mk' (v:=cj) bz ([(⟨3,([118]:ag),0,([]:List aa)⟩:aa),(⟨3,name,0,([]:List aa)⟩:aa)]:List aa) 2 (by kernel_rfl))<|sv (rl o9 ([(⟨3,([118]:ag),0,([]:List aa)⟩:aa),(⟨3,name,0,([]:List aa)⟩:aa)]:List aa))<|aX (J1 br10)<|sy (ba r10)<|en (aI (dH r10)<|aI (aj r10)<|rT)
  exact bo UU call25 func25 (c:=XS) rfl (aI (aj t) (aI trivial trivial)) z<|by kernel_rfl
 ·obtain rfl:=lf h
  have z:=se (bH t)<|sx jl<|jC 1<|cm (e:=.ret) (s1:=ei name t ([]:List ae) ([]:List aa) (.inr o9)) (tp name t ([]:List ae) ([]:List aa) bo9)<|en (aI (dH (⟨o9.1,o9.2.1,o9.2.2.1,o9.2.2.2.1,(⟨o9.2.2.2.2.1,o9.2.2.2.2.2.1,o9.2.2.2.2.2.2.1,o9.2.2.2.2.2.2.2.1⟩:aa),o9.2.2.2.2.2.2.2.2⟩:ae))<|aI (aj (⟨o9.1,o9.2.1,o9.2.2.1,o9.2.2.2.1,(⟨o9.2.2.2.2.1,o9.2.2.2.2.2.1,o9.2.2.2.2.2.2.1,o9.2.2.2.2.2.2.2.1⟩:aa),o9.2.2.2.2.2.2.2.2⟩:ae))<|rT)
  exact bo UU call25 func25 (c:=XS) rfl (aI (aj t) (aI trivial trivial)) z<|by kernel_rfl
abbrev ph:=(ae->Option Int)
abbrev uN(R:ph):Prop:=∀(t:ae) (r:Int),R t=some r->CC Pg GE 112 [.agg (af t)] (.int .i64 r) []
noncomputable def Vx:Code:=f112.body.getD .skip
def Ve:List Nat:=[]
section
variable(R45:ph)(t7:waC)(t8:Int)(n:Int)(t9:Int)
def gM:ax:=aP 20 [(3,.int .i64 n),(7,sl af t7),(8,.int .i64 t8),(9,.int .i64 t9)] [.dead] []
def oY(o:Int):ax:=aP 20 [(3,.int .i64 o)] [.dead] []
def wL:Option ((Int×Int)⊕(Int)):=
 if(decide (t9<t8))=true then
  (dt t7 t9).bind fun x2=>
  (R45 x2).bind fun r3=>
  some (.inl ((if r3>n then r3 else n),bA (t9+1)))
 else
  some (.inr n)
def Am:Option Int:=loop (fun(zz:Int×Int)=>wL R45 t7 t8 zz.1 zz.2) (n,t9)
theorem CU(hR45:uN R45){y:(Int×Int)⊕(Int)}(h:wL R45 t7 t8 n t9=some y):aL Pg GE 0 (cA Vx 119) (LQ (fun(zz:Int×Int)=>gM t7 t8 zz.1 zz.2) (fun _=>.exit 0) oY y) (gM t7 t8 n t9):=by
 rcases aK h with⟨c1,h⟩|⟨c1,h⟩
 ·obtain⟨x2,bx2,h⟩:=aw h
  obtain⟨r3,br3,h⟩:=aw h
  obtain rfl:=lf h
  have z:=sg 0 c1<|sv (cJ.ia (k:=.i64) bx2)<|sv (aQ x2)<|sx jl<|sx (cu x2)<|sv (bu x2 [])<|aX (hR45 _ _ br3)<|lG 0 .normal (gM t7 t8 (if r3>n then r3 else n) (bA (t9+1))) rfl (cb (aI trivial (aI (up (am aj t7)) (aI trivial (aI trivial trivial))))) (aI trivial trivial)
  exact cc (A:=Ve) mixed z<|by kernel_rfl
 ·obtain rfl:=lf h
  have z:=sg 0 c1<|eF (.exit 0) (oY n)
  exact eS Ve (by intro hx;cases hx) z<|by kernel_rfl
theorem Ej(hR45:uN R45){x:Int}(h:Am R45 t7 t8 n t9=some x):aL Pg GE 0 (.loop (cA Vx 119)) (EX (.exit 0) (oY x)) (gM t7 t8 n t9):=
 aL.loop (S:=fun(zz:Int×Int)=>gM t7 t8 zz.1 zz.2) (ex:=(fun _=>.exit 0)) (s:=(n,t9)) h fun zz y hy=>CU R45 t7 t8 zz.1 zz.2 hR45 hy
end
def BJ(R45:ph)(t:ae):Option Int:=
 (Am R45 t.Args (t.Args.length:Int) 0 0).bind fun o4=>
 some (bA (o4+1))
theorem HB(R45:ph)(hR45:uN R45){t:ae}{r:Int}(h:BJ R45 t=some r):CC Pg GE 112 [.agg (af t)] (.int .i64 r) []:=by
 obtain⟨o4,bo4,h⟩:=aw h
 obtain rfl:=lf h
 have z:=se (bH t)<|sv (aF t)<|sv (aG t)<|b9 (cJ.ln t.Args)<|cm (Ej R45 t.Args (t.Args.length:Int) 0 0 hR45 bo4)<|en (aI (rP (.int .i64 (bA (o4+1))))<|trivial)
 exact bo Ve call112 func112 (c:=Vx) rfl (aI (aj t) trivial) z<|by kernel_rfl
def vH:(ae->Option Int)->(ae)->Option Int:=fun(rec:ae->Option Int) (x:ae)=>BJ (fun t=>rec t) x
def uJ(t:ae):Option Int:=ku vH t
theorem Ki{t:ae}{r:Int}(h:uJ t=some r):CC Pg GE 112 [.agg (af t)] (.int .i64 r) []:=
 cn (F:=vH) (M:=fun(x:ae) (r:Int)=>CC Pg GE 112 [.agg (af x)] (.int .i64 r) []) (fun rec hrec x r h=>HB _ (fun t r h=>hrec t r h) h) h
abbrev ra:=(ae->Option Int)
abbrev wU(R:ra):Prop:=∀(t:ae) (r:Int),R t=some r->CC Pg GE 113 [.agg (af t)] (.int .i64 r) []
noncomputable def Ra:Code:=f133.body.getD .skip
def Md:List Nat:=[]
section
variable(t:ae)
def FJ:ax:=aP 39 [(1,.eptr (af t))] [.dead] []
def gL(o:Bool):ax:=aP 39 [(38,.bool o)] [.dead] []
def tB:Option Bool:=
 if(decide ((t.Args.length:Int)<2))=true then
  some true
 else
  if(decide ((t.Args.length:Int)>7))=true then
   some true
  else
   if((t.Names.length:Int)!=0)=true then
    some ((t.Names.length:Int)!=(bA ((t.Args.length:Int) - 1)))
   else
    some false
theorem Ei{x:Bool}(h:tB t=some x):aL Pg GE 0 (cA Ra 892) (EX .normal (gL x)) (FJ t):=by
 have p8:=fun{sc F} (r:PS sc F)=>sv (aF t)<|sv (aG t)<|b9 (cJ.ln t.Args)<|r
 rcases aK h with⟨c7,h⟩|⟨c7,h⟩
 ·obtain rfl:=lf h
  exact bE Md (p8<|sg 5 c7<|eF .normal (gL true))<|by kernel_rfl
 ·have p10:=fun{sc F} (r:PS sc F)=>p8<|sg 5 c7<|sv (aF t)<|sv (aG t)<|b9 (cJ.ln t.Args)<|r
  rcases aK h with⟨c9,h⟩|⟨c9,h⟩
  ·obtain rfl:=lf h
   exact bE Md (p10<|sg 11 c9<|eF .normal (gL true))<|by kernel_rfl
  ·have p12:=fun{sc F} (r:PS sc F)=>p10<|sg 11 c9<|sv (aM t)<|sv (aN t)<|b9 (aZ.ln t.Names)<|r
   rcases aK h with⟨c11,h⟩|⟨c11,h⟩
   ·obtain rfl:=lf h
    exact bE Md (p12<|sg 16 c11<|sv (aM t)<|sv (aN t)<|b9 (aZ.ln t.Names)<|sv (aF t)<|sv (aG t)<|b9 (cJ.ln t.Args)<|eF .normal (gL ((t.Names.length:Int)!=(bA ((t.Args.length:Int) - 1)))))<|by kernel_rfl
   ·obtain rfl:=lf h
    exact bE Md (p12<|sg 16 c11<|eF .normal (gL false))<|by kernel_rfl
end
def uI(t:ae):Option Int:=
 if(t.Op==4)=true then
  if(decide ((t.Args.length:Int)>6))=true then
   some 13
  else
   some 0
 else
  if(t.Op==6)=true then
   (tB t).bind fun o13=>
   if o13=true then
    some 13
   else
    some 0
  else
   some 0
theorem Kh{t:ae}{r:Int}(h:uI t=some r):CC Pg GE 133 [.agg (af t)] (.int .i64 r) []:=by
 have p2:=fun{sc F} (r:PS sc F)=>se (bH t)<|sv (au t)<|sv (av t)<|r
 rcases aK h with⟨c1,h⟩|⟨c1,h⟩
 ·have p4:=fun{sc F} (r:PS sc F)=>p2<|sg 0 c1<|sv (aF t)<|sv (aG t)<|b9 (cJ.ln t.Args)<|r
  rcases aK h with⟨c3,h⟩|⟨c3,h⟩
  ·obtain rfl:=lf h
   have z:=p4<|sg 0 c3<|en (aI (rP (.int .i64 13))<|trivial)
   exact bo Md call133 func133 (c:=Ra) rfl (aI (aj t) trivial) z<|by kernel_rfl
  ·obtain rfl:=lf h
   have z:=p4<|sg 0 c3<|en (aI (rP (.int .i64 0))<|trivial)
   exact bo Md call133 func133 (c:=Ra) rfl (aI (aj t) trivial) z<|by kernel_rfl
 ·have p6:=fun{sc F} (r:PS sc F)=>p2<|sg 0 c1<|r
  rcases aK h with⟨c5,h⟩|⟨c5,h⟩
  ·obtain⟨o13,bo13,h⟩:=aw h
   have p15:=fun{sc F} (r:PS sc F)=>p6<|sg 0 c5<|jC 0<|cm (Ei t bo13)<|r
   rcases aK h with⟨c14,h⟩|⟨c14,h⟩
   ·obtain rfl:=lf h
    have z:=p15<|sg 0 c14<|en (aI (rP (.int .i64 13))<|trivial)
    exact bo Md call133 func133 (c:=Ra) rfl (aI (aj t) trivial) z<|by kernel_rfl
   ·obtain rfl:=lf h
    have z:=p15<|sg 0 c14<|en (aI (rP (.int .i64 0))<|trivial)
    exact bo Md call133 func133 (c:=Ra) rfl (aI (aj t) trivial) z<|by kernel_rfl
  ·obtain rfl:=lf h
   have z:=p6<|sg 0 c5<|en (aI (rP (.int .i64 0))<|trivial)
   exact bo Md call133 func133 (c:=Ra) rfl (aI (aj t) trivial) z<|by kernel_rfl
noncomputable def Uf:Code:=f157.body.getD .skip
def Sn:List Nat:=[23]
section
variable(s:ag)(i:Int)
def j2:ax:=aP 24 [(0,.str s),(5,.int .i64 i)] [] []
def j4(o:(ag×ag)⊕(Unit)):Exit:=match o with
 |(.inl _)=>.ret
 |(.inr _)=>.exit 0
def gA(o:(ag×ag)⊕(Unit)):ax:=match o with
 |(.inl o)=>aP 24 [(2,.str o.1),(3,.str o.2),(4,.bool true)] [] []
 |(.inr o)=>aP 24 [(0,.str s)] [] []
def j3:Option (Int⊕((ag×ag)⊕(Unit))):=
 if(decide (i<(s.length:Int)))=true then
  (hX s i).bind fun c2=>
  if(c2==46)=true then
   (Hy s none (some i)).bind fun s5=>
   (Hy s (some (bA (i+1))) none).bind fun s6=>
   some (.inr (.inl (s5,s6)))
  else
   some (.inl (bA (i+1)))
 else
  some (.inr (.inr ()))
def xL:Option ((ag×ag)⊕(Unit)):=loop (fun(zz:Int)=>j3 s zz) i
theorem E7{y:Int⊕((ag×ag)⊕(Unit))}(h:j3 s i=some y):aL Pg GE 0 (cA Uf 55) (LQ (fun(zz:Int)=>j2 s zz) j4 (gA s) y) (j2 s i):=by
 rcases aK h with⟨c1,h⟩|⟨c1,h⟩
 ·obtain⟨c2,bc2,h⟩:=aw h
  have p4:=fun{sc F} (r:PS sc F)=>b9 (fl underlying9 s)<|sg 0 c1<|sv (eQ (k:=.i64) underlying9 bc2)<|r
  rcases aK h with⟨c3,h⟩|⟨c3,h⟩
  ·obtain⟨s5,bs5,h⟩:=aw h
   obtain⟨s6,bs6,h⟩:=aw h
   obtain rfl:=lf h
   have z:=p4<|sg 0 c3<|CO [0,0,3,0,0,16,56,7,255,511]<|sv (QV underlying9 bs5)<|sv (QV underlying9 bs6)<|eF (j4 (.inl (s5,s6))) (gA s (.inl (s5,s6)))
   exact eS Sn (by intro hx;cases hx) z<|by kernel_rfl
  ·obtain rfl:=lf h
   exact vJ Sn (p4<|sg 0 c3<|eF .normal (j2 s (bA (i+1))))<|by kernel_rfl
 ·obtain rfl:=lf h
  have z:=b9 (fl underlying9 s)<|sg 0 c1<|eF (j4 (.inr ())) (gA s (.inr ()))
  exact eS Sn (by intro hx;cases hx) z<|by kernel_rfl
theorem yw{x:(ag×ag)⊕(Unit)}(h:xL s i=some x):aL Pg GE 0 (.loop (cA Uf 55)) (EX (j4 x) (gA s x)) (j2 s i):=
 aL.loop (S:=fun(zz:Int)=>j2 s zz) (ex:=j4) (s:=i) h fun zz y hy=>E7 s zz hy
end
def wl(s:ag):Option (ag×ag×Bool):=
 (xL s 0).bind fun o7=>match o7 with
 |(.inl o7)=>
  some (o7.1,o7.2,true)
 |(.inr o7)=>
  some (s,([]:ag),false)
theorem DC{s:ag}{r:ag×ag×Bool}(h:wl s=some r):CC Pg GE 157 [.str s] (.tuple [.str r.1,.str r.2.1,.bool r.2.2]) []:=by
 obtain⟨o7,bo7,h⟩:=aw h
 rcases o7 with o7|o7
 ·obtain rfl:=lf h
  have z:=cm (e:=.ret) (s1:=gA s (.inl o7)) (yw s 0 bo7)<|en (aI (rP (.tuple [.str o7.1,.str o7.2,.bool true]))<|(aI trivial (aI trivial (aI trivial trivial))))
  exact bo Sn call157 func157 (c:=Uf) rfl (aI trivial trivial) z<|by kernel_rfl
 ·obtain rfl:=lf h
  have z:=cm (e:=.exit 0) (s1:=gA s (.inr o7)) (yw s 0 bo7)<|en (aI (rP (.tuple [.str s,.str ([]:ag),.bool false]))<|(aI trivial (aI trivial (aI trivial trivial))))
  exact bo Sn call157 func157 (c:=Uf) rfl (aI trivial trivial) z<|by kernel_rfl
noncomputable def WW:Code:=f160.body.getD .skip
def Wv:List Nat:=[]
def mR(s:ag):Option Bool:=
 if(decide ((s.length:Int)>=1))=true then
  some (decide ((s.length:Int)<=24))
 else
  some false
theorem gB{s:ag}{r:Bool}(h:mR s=some r):CC Pg GE 160 [.str s] (.bool r) []:=by
 rcases aK h with⟨c1,h⟩|⟨c1,h⟩
 ·obtain rfl:=lf h
  have z:=b9 (fl underlying9 s)<|sg 4 c1<|b9 (fl underlying9 s)<|en (aI (rP (.bool (decide ((s.length:Int)<=24))))<|trivial)
  exact bo Wv call160 func160 (c:=WW) rfl (aI trivial trivial) z<|by kernel_rfl
 ·obtain rfl:=lf h
  have z:=b9 (fl underlying9 s)<|sg 4 c1<|en (aI (rP (.bool false))<|trivial)
  exact bo Wv call160 func160 (c:=WW) rfl (aI trivial trivial) z<|by kernel_rfl
noncomputable def WY:Code:=f178.body.getD .skip
def Wx:List Nat:=[]
def j5(c:Int):Option Bool:=
 if(decide (97<=c))=true then
  some (decide (c<=122))
 else
  some false
theorem nG{c:Int}{r:Bool}(h:j5 c=some r):CC Pg GE 178 [.int .u8 c] (.bool r) []:=by
 rcases aK h with⟨c1,h⟩|⟨c1,h⟩
 ·obtain rfl:=lf h
  have z:=sg 3 c1<|en (aI (rP (.bool (decide (c<=122))))<|trivial)
  exact bo Wx call178 func178 (c:=WY) rfl (aI trivial trivial) z<|by kernel_rfl
 ·obtain rfl:=lf h
  have z:=sg 3 c1<|en (aI (rP (.bool false))<|trivial)
  exact bo Wx call178 func178 (c:=WY) rfl (aI trivial trivial) z<|by kernel_rfl
noncomputable def Uh:Code:=f179.body.getD .skip
def Sp:List Nat:=[]
section
variable(s:ag)(t6:Int)
def e8:ax:=aP 13 [(0,.str s),(5,.agg (cr.map PVal.str)),(6,.int .i64 t6)] [] []
def fa(o:Unit⊕(Unit)):Exit:=match o with
 |(.inl _)=>.ret
 |(.inr _)=>.exit 0
def dR(o:Unit⊕(Unit)):ax:=match o with
 |(.inl o)=>aP 13 [(2,.bool true)] [] []
 |(.inr o)=>aP 13 [] [] []
def e9:Option (Int⊕(Unit⊕(Unit))):=
 if(decide (t6<42))=true then
  (dt cr t6).bind fun x2=>
  if(x2==s)=true then
   some (.inr (.inl ()))
  else
   some (.inl (bA (t6+1)))
 else
  some (.inr (.inr ()))
def oN:Option (Unit⊕(Unit)):=loop (fun(zz:Int)=>e9 s zz) t6
theorem zN{y:Int⊕(Unit⊕(Unit))}(h:e9 s t6=some y):aL Pg GE 0 (cA Uh 55) (LQ (fun(zz:Int)=>e8 s zz) fa dR y) (e8 s t6):=by
 rcases aK h with⟨c1,h⟩|⟨c1,h⟩
 ·obtain⟨x2,bx2,h⟩:=aw h
  have p4:=fun{sc F} (r:PS sc F)=>sg 0 c1<|sv (DD (k:=.i64) bx2)<|r
  rcases aK h with⟨c3,h⟩|⟨c3,h⟩
  ·obtain rfl:=lf h
   have z:=p4<|sg 0 c3<|eF (fa (.inl ())) (dR (.inl ()))
   exact eS Sp (by intro hx;cases hx) z<|by kernel_rfl
  ·obtain rfl:=lf h
   exact vJ Sp (p4<|sg 0 c3<|eF .normal (e8 s (bA (t6+1))))<|by kernel_rfl
 ·obtain rfl:=lf h
  have z:=sg 0 c1<|eF (fa (.inr ())) (dR (.inr ()))
  exact eS Sp (by intro hx;cases hx) z<|by kernel_rfl
theorem qJ{x:Unit⊕(Unit)}(h:oN s t6=some x):aL Pg GE 0 (.loop (cA Uh 55)) (EX (fa x) (dR x)) (e8 s t6):=
 aL.loop (S:=fun(zz:Int)=>e8 s zz) (ex:=fa) (s:=t6) h fun zz y hy=>zN s zz hy
end
def pn(s:ag):Option Bool:=
 (oN s 0).bind fun o5=>match o5 with
 |(.inl o5)=>
  some true
 |(.inr o5)=>
  some false
theorem E6{s:ag}{r:Bool}(h:pn s=some r):CC Pg GE 179 [.str s] (.bool r) []:=by
 obtain⟨o5,bo5,h⟩:=aw h
 rcases o5 with o5|o5
 ·obtain rfl:=lf h
  have z:=sv ut<|cm (e:=.ret) (s1:=dR (.inl o5)) (qJ s 0 bo5)<|en (aI (rP (.bool true))<|trivial)
  exact bo Sp call179 func179 (c:=Uh) rfl (aI trivial trivial) z<|by kernel_rfl
 ·obtain rfl:=lf h
  have z:=sv ut<|cm (e:=.exit 0) (s1:=dR (.inr o5)) (qJ s 0 bo5)<|en (aI (rP (.bool false))<|trivial)
  exact bo Sp call179 func179 (c:=Uh) rfl (aI trivial trivial) z<|by kernel_rfl
noncomputable def W0:Code:=f180.body.getD .skip
def Wy:List Nat:=[]
def mQ(c:Int):Option Bool:=
 if(decide (48<=c))=true then
  some (decide (c<=57))
 else
  some false
theorem sV{c:Int}{r:Bool}(h:mQ c=some r):CC Pg GE 180 [.int .u8 c] (.bool r) []:=by
 rcases aK h with⟨c1,h⟩|⟨c1,h⟩
 ·obtain rfl:=lf h
  have z:=sg 3 c1<|en (aI (rP (.bool (decide (c<=57))))<|trivial)
  exact bo Wy call180 func180 (c:=W0) rfl (aI trivial trivial) z<|by kernel_rfl
 ·obtain rfl:=lf h
  have z:=sg 3 c1<|en (aI (rP (.bool false))<|trivial)
  exact bo Wy call180 func180 (c:=W0) rfl (aI trivial trivial) z<|by kernel_rfl
noncomputable def Ph:Code:=f158.body.getD .skip
def Gm:List Nat:=[]
section
variable(s:ag)
def G9:ax:=aP 41 [(0,.str s)] [] []
def mh(o:Bool):ax:=aP 41 [(0,.str s),(16,.bool o)] [] []
def po:Option Bool:=
 (mR s).bind fun r1=>
 if(!r1)=true then
  some true
 else
  (hX s 0).bind fun c3=>
  (j5 c3).bind fun r4=>
  if(!r4)=true then
   some true
  else
   (pn s).bind fun r7=>
   some r7
theorem E9{x:Bool}(h:po s=some x):aL Pg GE 0 (cA Ph 12) (EX .normal (mh s x)) (G9 s):=by
 obtain⟨r1,br1,h⟩:=aw h
 rcases aK h with⟨c2,h⟩|⟨c2,h⟩
 ·obtain rfl:=lf h
  exact bE Gm (aX (gB br1)<|sg 4 c2<|eF .normal (mh s true))<|by kernel_rfl
 ·obtain⟨c3,bc3,h⟩:=aw h
  obtain⟨r4,br4,h⟩:=aw h
  have p6:=fun{sc F} (r:PS sc F)=>aX (gB br1)<|sg 4 c2<|sv (eQ (k:=.i64) underlying9 bc3)<|aX (nG br4)<|r
  rcases aK h with⟨c5,h⟩|⟨c5,h⟩
  ·obtain rfl:=lf h
   exact bE Gm (p6<|sg 10 c5<|eF .normal (mh s true))<|by kernel_rfl
  ·obtain⟨r7,br7,h⟩:=aw h
   obtain rfl:=lf h
   exact bE Gm (p6<|sg 10 c5<|aX (E6 br7)<|eF .normal (mh s r7))<|by kernel_rfl
end
section
variable(s:ag)(i:Int)
def Ha:ax:=aP 41 [(0,.str s),(3,.int .i64 i)] [] []
def mi(o:Bool):ax:=aP 41 [(0,.str s),(3,.int .i64 i),(40,.bool o)] [] []
def pp:Option Bool:=
 (hX s i).bind fun c12=>
 (j5 c12).bind fun r13=>
 if(!r13)=true then
  (hX s i).bind fun c16=>
  (mQ c16).bind fun r17=>
  if(!r17)=true then
   (hX s i).bind fun c20=>
   some (c20 !=95)
  else
   some false
 else
  some false
theorem Fb{x:Bool}(h:pp s i=some x):aL Pg GE 0 (cA Ph 1914) (EX .normal (mi s i x)) (Ha s i):=by
 obtain⟨c12,bc12,h⟩:=aw h
 obtain⟨r13,br13,h⟩:=aw h
 have p15:=fun{sc F} (r:PS sc F)=>sv (eQ (k:=.i64) underlying9 bc12)<|aX (nG br13)<|r
 rcases aK h with⟨c14,h⟩|⟨c14,h⟩
 ·obtain⟨c16,bc16,h⟩:=aw h
  obtain⟨r17,br17,h⟩:=aw h
  have p19:=fun{sc F} (r:PS sc F)=>p15<|sg 6 c14<|sv (eQ (k:=.i64) underlying9 bc16)<|aX (sV br17)<|r
  rcases aK h with⟨c18,h⟩|⟨c18,h⟩
  ·obtain⟨c20,bc20,h⟩:=aw h
   obtain rfl:=lf h
   exact bE Gm (p19<|sg 13 c18<|sv (eQ (k:=.i64) underlying9 bc20)<|eF .normal (mi s i (c20 !=95)))<|by kernel_rfl
  ·obtain rfl:=lf h
   exact bE Gm (p19<|sg 13 c18<|eF .normal (mi s i false))<|by kernel_rfl
 ·obtain rfl:=lf h
  exact bE Gm (p15<|sg 6 c14<|eF .normal (mi s i false))<|by kernel_rfl
end
section
variable(s:ag)(i:Int)
def iw:ax:=aP 41 [(0,.str s),(3,.int .i64 i)] [] []
def iy(o:Unit⊕(Unit)):Exit:=match o with
 |(.inl _)=>.ret
 |(.inr _)=>.exit 0
def fA(o:Unit⊕(Unit)):ax:=match o with
 |(.inl o)=>aP 41 [(2,.bool false)] [] []
 |(.inr o)=>aP 41 [] [] []
def mj:Option (Int⊕(Unit⊕(Unit))):=
 if(decide (i<(s.length:Int)))=true then
  (pp s i).bind fun o21=>
  if o21=true then
   some (.inr (.inl ()))
  else
   some (.inl (bA (i+1)))
 else
  some (.inr (.inr ()))
def pq:Option (Unit⊕(Unit)):=loop (fun(zz:Int)=>mj s zz) i
theorem DE{y:Int⊕(Unit⊕(Unit))}(h:mj s i=some y):aL Pg GE 0 (cA Ph 119) (LQ (fun(zz:Int)=>iw s zz) iy fA y) (iw s i):=by
 rcases aK h with⟨c11,h⟩|⟨c11,h⟩
 ·obtain⟨o21,bo21,h⟩:=aw h
  have p23:=fun{sc F} (r:PS sc F)=>b9 (fl underlying9 s)<|sg 0 c11<|jC 1<|cm (Fb s i bo21)<|r
  rcases aK h with⟨c22,h⟩|⟨c22,h⟩
  ·obtain rfl:=lf h
   have z:=p23<|sg 0 c22<|eF (iy (.inl ())) (fA (.inl ()))
   exact eS Gm (by intro hx;cases hx) z<|by kernel_rfl
  ·obtain rfl:=lf h
   exact vJ Gm (p23<|sg 0 c22<|eF .normal (iw s (bA (i+1))))<|by kernel_rfl
 ·obtain rfl:=lf h
  have z:=b9 (fl underlying9 s)<|sg 0 c11<|eF (iy (.inr ())) (fA (.inr ()))
  exact eS Gm (by intro hx;cases hx) z<|by kernel_rfl
theorem wm{x:Unit⊕(Unit)}(h:pq s i=some x):aL Pg GE 0 (.loop (cA Ph 119)) (EX (iy x) (fA x)) (iw s i):=
 aL.loop (S:=fun(zz:Int)=>iw s zz) (ex:=iy) (s:=i) h fun zz y hy=>DE s zz hy
end
def sW(s:ag):Option Bool:=
 (po s).bind fun o8=>
 if o8=true then
  some false
 else
  (pq s 1).bind fun o24=>match o24 with
  |(.inl o24)=>
   some false
  |(.inr o24)=>
   some true
theorem vj{s:ag}{r:Bool}(h:sW s=some r):CC Pg GE 158 [.str s] (.bool r) []:=by
 obtain⟨o8,bo8,h⟩:=aw h
 have p10:=fun{sc F} (r:PS sc F)=>jC 2<|cm (E9 s bo8)<|r
 rcases aK h with⟨c9,h⟩|⟨c9,h⟩
 ·obtain rfl:=lf h
  have z:=p10<|sg 0 c9<|en (aI (rP (.bool false))<|trivial)
  exact bo Gm call158 func158 (c:=Ph) rfl (aI trivial trivial) z<|by kernel_rfl
 ·obtain⟨o24,bo24,h⟩:=aw h
  rcases o24 with o24|o24
  ·obtain rfl:=lf h
   have z:=p10<|sg 0 c9<|cm (e:=.ret) (s1:=fA (.inl o24)) (wm s 1 bo24)<|en (aI (rP (.bool false))<|trivial)
   exact bo Gm call158 func158 (c:=Ph) rfl (aI trivial trivial) z<|by kernel_rfl
  ·obtain rfl:=lf h
   have z:=p10<|sg 0 c9<|cm (e:=.exit 0) (s1:=fA (.inr o24)) (wm s 1 bo24)<|en (aI (rP (.bool true))<|trivial)
   exact bo Gm call158 func158 (c:=Ph) rfl (aI trivial trivial) z<|by kernel_rfl
noncomputable def W1:Code:=f181.body.getD .skip
def Wz:List Nat:=[]
def lN(c:Int):Option Bool:=
 if(decide (65<=c))=true then
  some (decide (c<=90))
 else
  some false
theorem wk{c:Int}{r:Bool}(h:lN c=some r):CC Pg GE 181 [.int .u8 c] (.bool r) []:=by
 rcases aK h with⟨c1,h⟩|⟨c1,h⟩
 ·obtain rfl:=lf h
  have z:=sg 3 c1<|en (aI (rP (.bool (decide (c<=90))))<|trivial)
  exact bo Wz call181 func181 (c:=W1) rfl (aI trivial trivial) z<|by kernel_rfl
 ·obtain rfl:=lf h
  have z:=sg 3 c1<|en (aI (rP (.bool false))<|trivial)
  exact bo Wz call181 func181 (c:=W1) rfl (aI trivial trivial) z<|by kernel_rfl
noncomputable def SF:Code:=f161.body.getD .skip
def NC:List Nat:=[]
section
variable(s:ag)(i:Int)
def wh:ax:=aP 29 [(0,.str s),(3,.int .i64 i)] [] []
def ed(o:Bool):ax:=aP 29 [(0,.str s),(3,.int .i64 i),(28,.bool o)] [] []
def fi:Option Bool:=
 (hX s i).bind fun c2=>
 (j5 c2).bind fun r3=>
 if(!r3)=true then
  (hX s i).bind fun c6=>
  (lN c6).bind fun r7=>
  if(!r7)=true then
   (hX s i).bind fun c10=>
   (mQ c10).bind fun r11=>
   some (!r11)
  else
   some false
 else
  some false
theorem vg{x:Bool}(h:fi s i=some x):aL Pg GE 0 (cA SF 890) (EX .normal (ed s i x)) (wh s i):=by
 obtain⟨c2,bc2,h⟩:=aw h
 obtain⟨r3,br3,h⟩:=aw h
 have p5:=fun{sc F} (r:PS sc F)=>sv (eQ (k:=.i64) underlying9 bc2)<|aX (nG br3)<|r
 rcases aK h with⟨c4,h⟩|⟨c4,h⟩
 ·obtain⟨c6,bc6,h⟩:=aw h
  obtain⟨r7,br7,h⟩:=aw h
  have p9:=fun{sc F} (r:PS sc F)=>p5<|sg 6 c4<|sv (eQ (k:=.i64) underlying9 bc6)<|aX (wk br7)<|r
  rcases aK h with⟨c8,h⟩|⟨c8,h⟩
  ·obtain⟨c10,bc10,h⟩:=aw h
   obtain⟨r11,br11,h⟩:=aw h
   obtain rfl:=lf h
   exact bE NC (p9<|sg 13 c8<|sv (eQ (k:=.i64) underlying9 bc10)<|aX (sV br11)<|eF .normal (ed s i (!r11)))<|by kernel_rfl
  ·obtain rfl:=lf h
   exact bE NC (p9<|sg 13 c8<|eF .normal (ed s i false))<|by kernel_rfl
 ·obtain rfl:=lf h
  exact bE NC (p5<|sg 6 c4<|eF .normal (ed s i false))<|by kernel_rfl
end
section
variable(s:ag)(i:Int)
def dg:ax:=aP 29 [(0,.str s),(3,.int .i64 i)] [] []
def di(o:Unit⊕(Unit)):Exit:=match o with
 |(.inl _)=>.ret
 |(.inr _)=>.exit 0
def cF(o:Unit⊕(Unit)):ax:=match o with
 |(.inl o)=>aP 29 [(2,.bool false)] [] []
 |(.inr o)=>aP 29 [] [] []
def dh:Option (Int⊕(Unit⊕(Unit))):=
 if(decide (i<(s.length:Int)))=true then
  (fi s i).bind fun o12=>
  if o12=true then
   some (.inr (.inl ()))
  else
   some (.inl (bA (i+1)))
 else
  some (.inr (.inr ()))
def jk:Option (Unit⊕(Unit)):=loop (fun(zz:Int)=>dh s zz) i
theorem tH{y:Int⊕(Unit⊕(Unit))}(h:dh s i=some y):aL Pg GE 0 (cA SF 55) (LQ (fun(zz:Int)=>dg s zz) di cF y) (dg s i):=by
 rcases aK h with⟨c1,h⟩|⟨c1,h⟩
 ·obtain⟨o12,bo12,h⟩:=aw h
  have p14:=fun{sc F} (r:PS sc F)=>b9 (fl underlying9 s)<|sg 0 c1<|jC 1<|cm (vg s i bo12)<|r
  rcases aK h with⟨c13,h⟩|⟨c13,h⟩
  ·obtain rfl:=lf h
   have z:=p14<|sg 0 c13<|eF (di (.inl ())) (cF (.inl ()))
   exact eS NC (by intro hx;cases hx) z<|by kernel_rfl
  ·obtain rfl:=lf h
   exact vJ NC (p14<|sg 0 c13<|eF .normal (dg s (bA (i+1))))<|by kernel_rfl
 ·obtain rfl:=lf h
  have z:=b9 (fl underlying9 s)<|sg 0 c1<|eF (di (.inr ())) (cF (.inr ()))
  exact eS NC (by intro hx;cases hx) z<|by kernel_rfl
theorem lM{x:Unit⊕(Unit)}(h:jk s i=some x):aL Pg GE 0 (.loop (cA SF 55)) (EX (di x) (cF x)) (dg s i):=
 aL.loop (S:=fun(zz:Int)=>dg s zz) (ex:=di) (s:=i) h fun zz y hy=>tH s zz hy
end
def fb(s:ag):Option Bool:=
 (jk s 0).bind fun o15=>match o15 with
 |(.inl o15)=>
  some false
 |(.inr o15)=>
  some true
theorem ol{s:ag}{r:Bool}(h:fb s=some r):CC Pg GE 161 [.str s] (.bool r) []:=by
 obtain⟨o15,bo15,h⟩:=aw h
 rcases o15 with o15|o15
 ·obtain rfl:=lf h
  have z:=cm (e:=.ret) (s1:=cF (.inl o15)) (lM s 0 bo15)<|en (aI (rP (.bool false))<|trivial)
  exact bo NC call161 func161 (c:=SF) rfl (aI trivial trivial) z<|by kernel_rfl
 ·obtain rfl:=lf h
  have z:=cm (e:=.exit 0) (s1:=cF (.inr o15)) (lM s 0 bo15)<|en (aI (rP (.bool true))<|trivial)
  exact bo NC call161 func161 (c:=SF) rfl (aI trivial trivial) z<|by kernel_rfl
noncomputable def Rb:Code:=f159.body.getD .skip
def NB:List Nat:=[]
section
variable(s:ag)
def Fd:ax:=aP 31 [(0,.str s)] [] []
def kw(o:Bool):ax:=aP 31 [(0,.str s),(16,.bool o)] [] []
def nH:Option Bool:=
 (mR s).bind fun r1=>
 if(!r1)=true then
  some true
 else
  (hX s 0).bind fun c3=>
  (lN c3).bind fun r4=>
  if(!r4)=true then
   some true
  else
   (fb s).bind fun r7=>
   some (!r7)
theorem DG{x:Bool}(h:nH s=some x):aL Pg GE 0 (cA Rb 12) (EX .normal (kw s x)) (Fd s):=by
 obtain⟨r1,br1,h⟩:=aw h
 rcases aK h with⟨c2,h⟩|⟨c2,h⟩
 ·obtain rfl:=lf h
  exact bE NB (aX (gB br1)<|sg 4 c2<|eF .normal (kw s true))<|by kernel_rfl
 ·obtain⟨c3,bc3,h⟩:=aw h
  obtain⟨r4,br4,h⟩:=aw h
  have p6:=fun{sc F} (r:PS sc F)=>aX (gB br1)<|sg 4 c2<|sv (eQ (k:=.i64) underlying9 bc3)<|aX (wk br4)<|r
  rcases aK h with⟨c5,h⟩|⟨c5,h⟩
  ·obtain rfl:=lf h
   exact bE NB (p6<|sg 10 c5<|eF .normal (kw s true))<|by kernel_rfl
  ·obtain⟨r7,br7,h⟩:=aw h
   obtain rfl:=lf h
   exact bE NB (p6<|sg 10 c5<|aX (ol br7)<|eF .normal (kw s (!r7)))<|by kernel_rfl
end
def uu(s:ag):Option Bool:=
 (nH s).bind fun o8=>
 if o8=true then
  some false
 else
  if (!(s == ([73,110,116]:ag))) = true then
   if(!(s==([66,111,111,108]:ag)))=true then
    if(!(s==([67,101,108,108]:ag)))=true then
     some (!(s==([70,117,110]:ag)))
    else
     some false
   else
    some false
  else
   some false
theorem Jq{s:ag}{r:Bool}(h:uu s=some r):CC Pg GE 159 [.str s] (.bool r) []:=by
 obtain⟨o8,bo8,h⟩:=aw h
 have p10:=fun{sc F} (r:PS sc F)=>jC 2<|cm (DG s bo8)<|r
 rcases aK h with⟨c9,h⟩|⟨c9,h⟩
 ·obtain rfl:=lf h
  have z:=p10<|sg 0 c9<|en (aI (rP (.bool false))<|trivial)
  exact bo NB call159 func159 (c:=Rb) rfl (aI trivial trivial) z<|by kernel_rfl
 ·have p12:=fun{sc F} (r:PS sc F)=>p10<|sg 0 c9<|r
  rcases aK h with⟨c11,h⟩|⟨c11,h⟩
  ·have p14:=fun{sc F} (r:PS sc F)=>p12<|sg 3 c11<|r
   rcases aK h with⟨c13,h⟩|⟨c13,h⟩
   ·have p16:=fun{sc F} (r:PS sc F)=>p14<|sg 7 c13<|r
    rcases aK h with⟨c15,h⟩|⟨c15,h⟩
    ·obtain rfl:=lf h
     have z:=p16<|sg 11 c15<|en (aI (rP (.bool (!(s==([70,117,110]:ag)))))<|trivial)
     exact bo NB call159 func159 (c:=Rb) rfl (aI trivial trivial) z<|by kernel_rfl
    ·obtain rfl:=lf h
     have z:=p16<|sg 11 c15<|en (aI (rP (.bool false))<|trivial)
     exact bo NB call159 func159 (c:=Rb) rfl (aI trivial trivial) z<|by kernel_rfl
   ·obtain rfl:=lf h
    have z:=p14<|sg 7 c13<|en (aI (rP (.bool false))<|trivial)
    exact bo NB call159 func159 (c:=Rb) rfl (aI trivial trivial) z<|by kernel_rfl
  ·obtain rfl:=lf h
   have z:=p12<|sg 3 c11<|en (aI (rP (.bool false))<|trivial)
   exact bo NB call159 func159 (c:=Rb) rfl (aI trivial trivial) z<|by kernel_rfl
noncomputable def SG:Code:=f162.body.getD .skip
def Me:List Nat:=[]
section
variable(s:ag)(i:Int)
def Hb:ax:=aP 32 [(0,.str s),(3,.int .i64 i)] [] []
def iz(o:Bool):ax:=aP 32 [(0,.str s),(3,.int .i64 i),(31,.bool o)] [] []
def pr:Option Bool:=
 (hX s i).bind fun c2=>
 (j5 c2).bind fun r3=>
 if (!r3) = true then
  if(i==0)=true then
   some true
  else
   (hX s i).bind fun c8=>
   (mQ c8).bind fun r9=>
   if(!r9)=true then
    (hX s i).bind fun c12=>
    some (c12 !=95)
   else
    some false
 else
  some false
theorem Ff{x:Bool}(h:pr s i=some x):aL Pg GE 0 (cA SG 890) (EX .normal (iz s i x)) (Hb s i):=by
 obtain⟨c2,bc2,h⟩:=aw h
 obtain⟨r3,br3,h⟩:=aw h
 have p5:=fun{sc F} (r:PS sc F)=>sv (eQ (k:=.i64) underlying9 bc2)<|aX (nG br3)<|r
 rcases aK h with⟨c4,h⟩|⟨c4,h⟩
 ·have p7:=fun{sc F} (r:PS sc F)=>p5<|sg 6 c4<|r
  rcases aK h with⟨c6,h⟩|⟨c6,h⟩
  ·obtain rfl:=lf h
   exact bE Me (p7<|sg 9 c6<|eF .normal (iz s i true))<|by kernel_rfl
  ·obtain⟨c8,bc8,h⟩:=aw h
   obtain⟨r9,br9,h⟩:=aw h
   have p11:=fun{sc F} (r:PS sc F)=>p7<|sg 9 c6<|sv (eQ (k:=.i64) underlying9 bc8)<|aX (sV br9)<|r
   rcases aK h with⟨c10,h⟩|⟨c10,h⟩
   ·obtain⟨c12,bc12,h⟩:=aw h
    obtain rfl:=lf h
    exact bE Me (p11<|sg 15 c10<|sv (eQ (k:=.i64) underlying9 bc12)<|eF .normal (iz s i (c12 !=95)))<|by kernel_rfl
   ·obtain rfl:=lf h
    exact bE Me (p11<|sg 15 c10<|eF .normal (iz s i false))<|by kernel_rfl
 ·obtain rfl:=lf h
  exact bE Me (p5<|sg 6 c4<|eF .normal (iz s i false))<|by kernel_rfl
end
section
variable(s:ag)(i:Int)
def iA:ax:=aP 32 [(0,.str s),(3,.int .i64 i)] [] []
def iC(o:Unit⊕(Unit)):Exit:=match o with
 |(.inl _)=>.ret
 |(.inr _)=>.exit 0
def fC(o:Unit⊕(Unit)):ax:=match o with
 |(.inl o)=>aP 32 [(2,.bool false)] [] []
 |(.inr o)=>aP 32 [] [] []
def iB:Option (Int⊕(Unit⊕(Unit))):=
 if(decide (i<(s.length:Int)))=true then
  (pr s i).bind fun o13=>
  if o13=true then
   some (.inr (.inl ()))
  else
   some (.inl (bA (i+1)))
 else
  some (.inr (.inr ()))
def vo:Option (Unit⊕(Unit)):=loop (fun(zz:Int)=>iB s zz) i
theorem DH{y:Int⊕(Unit⊕(Unit))}(h:iB s i=some y):aL Pg GE 0 (cA SG 55) (LQ (fun(zz:Int)=>iA s zz) iC fC y) (iA s i):=by
 rcases aK h with⟨c1,h⟩|⟨c1,h⟩
 ·obtain⟨o13,bo13,h⟩:=aw h
  have p15:=fun{sc F} (r:PS sc F)=>b9 (fl underlying9 s)<|sg 0 c1<|jC 1<|cm (Ff s i bo13)<|r
  rcases aK h with⟨c14,h⟩|⟨c14,h⟩
  ·obtain rfl:=lf h
   have z:=p15<|sg 0 c14<|eF (iC (.inl ())) (fC (.inl ()))
   exact eS Me (by intro hx;cases hx) z<|by kernel_rfl
  ·obtain rfl:=lf h
   exact vJ Me (p15<|sg 0 c14<|eF .normal (iA s (bA (i+1))))<|by kernel_rfl
 ·obtain rfl:=lf h
  have z:=b9 (fl underlying9 s)<|sg 0 c1<|eF (iC (.inr ())) (fC (.inr ()))
  exact eS Me (by intro hx;cases hx) z<|by kernel_rfl
theorem wn{x:Unit⊕(Unit)}(h:vo s i=some x):aL Pg GE 0 (.loop (cA SG 55)) (EX (iC x) (fC x)) (iA s i):=
 aL.loop (S:=fun(zz:Int)=>iA s zz) (ex:=iC) (s:=i) h fun zz y hy=>DH s zz hy
end
def xM(s:ag):Option Bool:=
 (vo s 0).bind fun o16=>match o16 with
 |(.inl o16)=>
  some false
 |(.inr o16)=>
  some true
theorem K3{s:ag}{r:Bool}(h:xM s=some r):CC Pg GE 162 [.str s] (.bool r) []:=by
 obtain⟨o16,bo16,h⟩:=aw h
 rcases o16 with o16|o16
 ·obtain rfl:=lf h
  have z:=cm (e:=.ret) (s1:=fC (.inl o16)) (wn s 0 bo16)<|en (aI (rP (.bool false))<|trivial)
  exact bo Me call162 func162 (c:=SG) rfl (aI trivial trivial) z<|by kernel_rfl
 ·obtain rfl:=lf h
  have z:=cm (e:=.exit 0) (s1:=fC (.inr o16)) (wn s 0 bo16)<|en (aI (rP (.bool true))<|trivial)
  exact bo Me call162 func162 (c:=SG) rfl (aI trivial trivial) z<|by kernel_rfl
noncomputable def N0:Code:=f134.body.getD .skip
def CX:List Nat:=[]
section
variable(first:ag)(rest:ag)(more:Bool)
def G7:ax:=aP 52 [(3,.str first),(4,.str rest),(5,.bool more)] [] []
def it(o:Bool):ax:=aP 52 [(4,.str rest),(5,.bool more),(31,.bool o)] [] []
def pk:Option Bool:=
 (sW first).bind fun r3=>
 if (!r3) = true then
  (uu first).bind fun r5=>
  if(!r5)=true then
   if(!(first==([118]:ag)))=true then
    some true
   else
    some (!more)
  else
   some false
 else
  some false
theorem E1{x:Bool}(h:pk first more=some x):aL Pg GE 0 (cA N0 60) (EX .normal (it rest more x)) (G7 first rest more):=by
 obtain⟨r3,br3,h⟩:=aw h
 rcases aK h with⟨c4,h⟩|⟨c4,h⟩
 ·obtain⟨r5,br5,h⟩:=aw h
  have p7:=fun{sc F} (r:PS sc F)=>aX (vj br3)<|sg 4 c4<|aX (Jq br5)<|r
  rcases aK h with⟨c6,h⟩|⟨c6,h⟩
  ·have p9:=fun{sc F} (r:PS sc F)=>p7<|sg 9 c6<|r
   rcases aK h with⟨c8,h⟩|⟨c8,h⟩
   ·obtain rfl:=lf h
    exact bE CX (p9<|sg 12 c8<|eF .normal (it rest more true))<|by kernel_rfl
   ·obtain rfl:=lf h
    exact bE CX (p9<|sg 12 c8<|eF .normal (it rest more (!more)))<|by kernel_rfl
  ·obtain rfl:=lf h
   exact bE CX (p7<|sg 9 c6<|eF .normal (it rest more false))<|by kernel_rfl
 ·obtain rfl:=lf h
  exact bE CX (aX (vj br3)<|sg 4 c4<|eF .normal (it rest more false))<|by kernel_rfl
end
section
variable(rest:ag)(more:Bool)(part:ag)
def G8:ax:=aP 52 [(4,.str rest),(5,.bool more),(6,.str part)] [] []
def mg(o:Bool):ax:=aP 52 [(4,.str rest),(5,.bool more),(51,.bool o)] [] []
def pl:Option Bool:=
 (mR part).bind fun r15=>
 if(!r15)=true then
  some true
 else
  (fb part).bind fun r17=>
  if(!r17)=true then
   (xM part).bind fun r20=>
   some (!r20)
  else
   some false
theorem E3{x:Bool}(h:pl part=some x):aL Pg GE 0 (cA N0 8062) (EX .normal (mg rest more x)) (G8 rest more part):=by
 obtain⟨r15,br15,h⟩:=aw h
 rcases aK h with⟨c16,h⟩|⟨c16,h⟩
 ·obtain rfl:=lf h
  exact bE CX (aX (gB br15)<|sg 4 c16<|eF .normal (mg rest more true))<|by kernel_rfl
 ·obtain⟨r17,br17,h⟩:=aw h
  have p19:=fun{sc F} (r:PS sc F)=>aX (gB br15)<|sg 4 c16<|aX (ol br17)<|r
  rcases aK h with⟨c18,h⟩|⟨c18,h⟩
  ·obtain⟨r20,br20,h⟩:=aw h
   obtain rfl:=lf h
   exact bE CX (p19<|sg 8 c18<|aX (K3 br20)<|eF .normal (mg rest more (!r20)))<|by kernel_rfl
  ·obtain rfl:=lf h
   exact bE CX (p19<|sg 8 c18<|eF .normal (mg rest more false))<|by kernel_rfl
end
section
variable(rest:ag)(more:Bool)
def iu:ax:=aP 52 [(4,.str rest),(5,.bool more)] [] []
def iv(o:Unit⊕(Unit)):Exit:=match o with
 |(.inl _)=>.ret
 |(.inr _)=>.exit 0
def fy(o:Unit⊕(Unit)):ax:=match o with
 |(.inl o)=>aP 52 [(2,.int .i64 3)] [] []
 |(.inr o)=>aP 52 [] [] []
def fx:Option ((ag×Bool)⊕(Unit⊕(Unit))):=
 if more=true then
  (wl rest).bind fun r14=>
  (pl r14.1).bind fun o21=>
  if o21=true then
   some (.inr (.inl ()))
  else
   some (.inl (r14.2.1,r14.2.2))
 else
  some (.inr (.inr ()))
def eP:Option (Unit⊕(Unit)):=loop (fun(zz:ag×Bool)=>fx zz.1 zz.2) (rest,more)
theorem Dx{y:(ag×Bool)⊕(Unit⊕(Unit))}(h:fx rest more=some y):aL Pg GE 0 (cA N0 251) (LQ (fun(zz:ag×Bool)=>iu zz.1 zz.2) iv fy y) (iu rest more):=by
 rcases aK h with⟨c13,h⟩|⟨c13,h⟩
 ·obtain⟨r14,br14,h⟩:=aw h
  obtain⟨o21,bo21,h⟩:=aw h
  have p23:=fun{sc F} (r:PS sc F)=>sg 0 c13<|aX (DC br14)<|jC 0<|cm (E3 r14.2.1 r14.2.2 r14.1 bo21)<|r
  rcases aK h with⟨c22,h⟩|⟨c22,h⟩
  ·obtain rfl:=lf h
   have z:=p23<|sg 0 c22<|eF (iv (.inl ())) (fy (.inl ()))
   exact eS CX (by intro hx;cases hx) z<|by kernel_rfl
  ·obtain rfl:=lf h
   exact vJ CX (p23<|sg 0 c22<|eF .normal (iu r14.2.1 r14.2.2))<|by kernel_rfl
 ·obtain rfl:=lf h
  have z:=sg 0 c13<|eF (iv (.inr ())) (fy (.inr ()))
  exact eS CX (by intro hx;cases hx) z<|by kernel_rfl
theorem wc{x:Unit⊕(Unit)}(h:eP rest more=some x):aL Pg GE 0 (.loop (cA N0 251)) (EX (iv x) (fy x)) (iu rest more):=
 aL.loop (S:=fun(zz:ag×Bool)=>iu zz.1 zz.2) (ex:=iv) (s:=(rest,more)) h fun zz y hy=>Dx zz.1 zz.2 hy
end
def sS(s:ag):Option Int:=
 if(decide ((s.length:Int)>120))=true then
  some 3
 else
  (wl s).bind fun r2=>
  (pk r2.1 r2.2.2).bind fun o10=>
  if o10=true then
   some 3
  else
   (eP r2.2.1 r2.2.2).bind fun o24=>match o24 with
   |(.inl o24)=>
    some 3
   |(.inr o24)=>
    some 0
theorem Bw{s:ag}{r:Int}(h:sS s=some r):CC Pg GE 134 [.str s] (.int .i64 r) []:=by
 rcases aK h with⟨c1,h⟩|⟨c1,h⟩
 ·obtain rfl:=lf h
  have z:=b9 (fl underlying9 s)<|sg 0 c1<|en (aI (rP (.int .i64 3))<|trivial)
  exact bo CX call134 func134 (c:=N0) rfl (aI trivial trivial) z<|by kernel_rfl
 ·obtain⟨r2,br2,h⟩:=aw h
  obtain⟨o10,bo10,h⟩:=aw h
  have p12:=fun{sc F} (r:PS sc F)=>b9 (fl underlying9 s)<|sg 0 c1<|aX (DC br2)<|jC 1<|cm (E1 r2.1 r2.2.1 r2.2.2 bo10)<|r
  rcases aK h with⟨c11,h⟩|⟨c11,h⟩
  ·obtain rfl:=lf h
   have z:=p12<|sg 0 c11<|en (aI (rP (.int .i64 3))<|trivial)
   exact bo CX call134 func134 (c:=N0) rfl (aI trivial trivial) z<|by kernel_rfl
  ·obtain⟨o24,bo24,h⟩:=aw h
   rcases o24 with o24|o24
   ·obtain rfl:=lf h
    have z:=p12<|sg 0 c11<|cm (e:=.ret) (s1:=fy (.inl o24)) (wc r2.2.1 r2.2.2 bo24)<|en (aI (rP (.int .i64 3))<|trivial)
    exact bo CX call134 func134 (c:=N0) rfl (aI trivial trivial) z<|by kernel_rfl
   ·obtain rfl:=lf h
    have z:=p12<|sg 0 c11<|cm (e:=.exit 0) (s1:=fy (.inr o24)) (wc r2.2.1 r2.2.2 bo24)<|en (aI (rP (.int .i64 0))<|trivial)
    exact bo CX call134 func134 (c:=N0) rfl (aI trivial trivial) z<|by kernel_rfl
end Go.Proofs.YtggeppllafbidaaGreatDoor
