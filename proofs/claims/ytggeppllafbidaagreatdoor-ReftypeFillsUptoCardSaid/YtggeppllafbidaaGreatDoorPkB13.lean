/- PROVED: a part of the proof. Conditions: none. -/
import Derived.Test.YtggeppllafbidaaGreatDoorPkB12
noncomputable section
namespace Go.Proofs.YtggeppllafbidaaGreatDoor
open Go Go.Proofs.Tryz
set_option linter.unusedVariables false
set_option maxRecDepth 100000
noncomputable def Lb:Code:=f95.body.getD .skip
def GY:List Nat:=[79,96]
section
variable(v:waB)(v2:waC)(t:ae)(i:Int)(m:waC)(m2:waA)
def z8:aq:=aP 104 [(1,sl cS v),(2,sl af v2),(3,.eptr (af t)),(6,.bptr 1 0),(7,.int .i64 i)] [.dead,.cells [.int .i64 0,.str ([]:ai),sl af m,sl cS ([]:List ai),.int .i64 0,.str ([]:ai),.int .i64 0,sl ac m2,sl ac m2] [(2,30),(3,9),(7,28),(8,28)]] []
def lx(o:Bool):aq:=aP 104 [(1,sl cS v),(2,sl af v2),(3,.eptr (af t)),(6,.bptr 1 0),(7,.int .i64 i),(28,.bool o)] [.dead,.cells [.int .i64 0,.str ([]:ai),sl af m,sl cS ([]:List ai),.int .i64 0,.str ([]:ai),.int .i64 0,sl ac m2,sl ac m2] [(2,30),(3,9),(7,28),(8,28)]] []
def uj:Option Bool:=
 if(decide (i>=0))=true then
  some (decide (i<(v2.length:Int)))
 else
  some false
theorem y0{x:Bool}(h:uj v2 i=some x):aC Pg GE 0 (cA Lb 106) (EX .normal (lx v v2 t i m m2 x)) (z8 v v2 t i m m2):=by
 rcases aT h with⟨c4,h⟩|⟨c4,h⟩
 ·obtain rfl:=lf h
  exact ct GY (sg 3 c4<|cx (dF.ln v2)<|eF .normal (lx v v2 t i m m2 (decide (i<(v2.length:Int)))))<|by kernel_rfl
 ·obtain rfl:=lf h
  exact ct GY (sg 3 c4<|eF .normal (lx v v2 t i m m2 false))<|by kernel_rfl
end
section
variable(t:ae)(m:waC)(m2:waA)(m3:Int)(m4:ai)(m5:waC)(m6:waB)(m7:Int)(m8:ai)(m9:Int)(m10:waA)(m11:waA)
def Aa:aq:=aP 104 [(3,.eptr (af t)),(6,.bptr 1 0),(8,.bptr 2 0)] [.dead,.cells [.int .i64 0,.str ([]:ai),sl af m,sl cS ([]:List ai),.int .i64 0,.str ([]:ai),.int .i64 0,sl ac m2,sl ac m2] [(2,30),(3,9),(7,28),(8,28)],.cells [.int .i64 m3,.str m4,sl af m5,sl cS m6,.int .i64 m7,.str m8,.int .i64 m9,sl ac m10,sl ac m11] [(2,30),(8,28)]] []
def ly(o:Bool):aq:=aP 104 [(3,.eptr (af t)),(6,.bptr 1 0),(8,.bptr 2 0),(42,.bool o)] [.dead,.cells [.int .i64 0,.str ([]:ai),sl af m,sl cS ([]:List ai),.int .i64 0,.str ([]:ai),.int .i64 0,sl ac m2,sl ac m2] [(2,30),(3,9),(7,28),(8,28)],.cells [.int .i64 m3,.str m4,sl af m5,sl cS m6,.int .i64 m7,.str m8,.int .i64 m9,sl ac m10,sl ac m11] [(2,30),(8,28)]] []
def uk:Option Bool:=
 (xt t.Pred).bind fun r10=>
 if(!r10)=true then
  some (m3 !=6)
 else
  some false
theorem y1{x:Bool}(h:uk t m3=some x):aC Pg GE 0 (cA Lb 1716) (EX .normal (ly t m m2 m3 m4 m5 m6 m7 m8 m9 m10 m11 x)) (Aa t m m2 m3 m4 m5 m6 m7 m8 m9 m10 m11):=by
 obtain⟨r10,br10,h⟩:=av h
 have p12:=fun{sc F} (r:PS sc F)=>sv (bw t)<|sv (bz t)<|bg (wm br10)<|r
 rcases aT h with⟨c11,h⟩|⟨c11,h⟩
 ·obtain rfl:=lf h
  exact ct GY (p12<|sg 5 c11<|ss<|eF .normal (ly t m m2 m3 m4 m5 m6 m7 m8 m9 m10 m11 (m3 !=6)))<|by kernel_rfl
 ·obtain rfl:=lf h
  exact ct GY (p12<|sg 5 c11<|eF .normal (ly t m m2 m3 m4 m5 m6 m7 m8 m9 m10 m11 false))<|by kernel_rfl
end
section
variable(R34:i6)(v:waB)(v2:waC)(t:ae)(m:waC)(m2:waA)
def z7:aq:=aP 104 [(1,sl cS v),(2,sl af v2),(3,.eptr (af t)),(6,.bptr 1 0)] [.dead,.cells [.int .i64 0,.str ([]:ai),sl af m,sl cS ([]:List ai),.int .i64 0,.str ([]:ai),.int .i64 0,sl ac m2,sl ac m2] [(2,30),(3,9),(7,28),(8,28)]] []
def eA(o:(Int×ai×waC×waB×Int×ai×Int×waA×waA×Int×ai×waC×waB×Int×ai×Int×waA×waA)⊕(Unit)):Exit:=match o with
 |(.inl _)=>.ret
 |(.inr _)=>.normal
def db(o:(Int×ai×waC×waB×Int×ai×Int×waA×waA×Int×ai×waC×waB×Int×ai×Int×waA×waA)⊕(Unit)):aq:=match o with
 |(.inl o)=>aP 104 [(6,.bptr 1 0)] [.dead,.cells [.int .i64 o.1,.str o.2.1,sl af o.2.2.1,sl cS o.2.2.2.1,.int .i64 o.2.2.2.2.1,.str o.2.2.2.2.2.1,.int .i64 o.2.2.2.2.2.2.1,sl ac o.2.2.2.2.2.2.2.1,sl ac o.2.2.2.2.2.2.2.2.1] [(2,30),(8,28)],.cells [.int .i64 o.2.2.2.2.2.2.2.2.2.1,.str o.2.2.2.2.2.2.2.2.2.2.1,sl af o.2.2.2.2.2.2.2.2.2.2.2.1,sl cS o.2.2.2.2.2.2.2.2.2.2.2.2.1,.int .i64 o.2.2.2.2.2.2.2.2.2.2.2.2.2.1,.str o.2.2.2.2.2.2.2.2.2.2.2.2.2.2.1,.int .i64 o.2.2.2.2.2.2.2.2.2.2.2.2.2.2.2.1,sl ac o.2.2.2.2.2.2.2.2.2.2.2.2.2.2.2.2.1,sl ac o.2.2.2.2.2.2.2.2.2.2.2.2.2.2.2.2.2] []] []
 |(.inr o)=>aP 104 [(1,sl cS v),(2,sl af v2),(3,.eptr (af t)),(6,.bptr 1 0)] [.dead,.cells [.int .i64 0,.str ([]:ai),sl af m,sl cS ([]:List ai),.int .i64 0,.str ([]:ai),.int .i64 0,sl ac m2,sl ac m2] [(2,30),(3,9),(7,28),(8,28)]] []
def ui:Option ((Int×ai×waC×waB×Int×ai×Int×waA×waA×Int×ai×waC×waB×Int×ai×Int×waA×waA)⊕(Unit)):=
 if (t.Op == 5) = true then
  (ru v t.Name).bind fun r3=>
  (uj v2 r3).bind fun o5=>
  if o5=true then
   (eh v2 r3).bind fun x8=>
   (R34 x8 ([]:List ai) ([]:List ae)).bind fun r9=>
   (uk t r9.Op).bind fun o13=>
   if o13=true then
    (xt r9.Pred).bind fun r16=>
    if r16=true then
     (og t.Pred).bind fun r19=>
     some (.inl (r9.Op,r9.Name,r9.Args,r9.Names,r19.Op,r19.Name,r19.N,r19.Kids,r9.Preds,r9.Op,r9.Name,r9.Args,r9.Names,r19.Op,r19.Name,r19.N,r19.Kids,r9.Preds))
    else
     (og t.Pred).bind fun r20=>
     some (.inl (r9.Op,r9.Name,r9.Args,r9.Names,15,([]:ai),0,([r9.Pred,r20]:List aa),r9.Preds,r9.Op,r9.Name,r9.Args,r9.Names,15,([]:ai),0,([r9.Pred,r20]:List aa),r9.Preds))
   else
    some (.inl (r9.Op,r9.Name,r9.Args,r9.Names,r9.Pred.Op,r9.Pred.Name,r9.Pred.N,r9.Pred.Kids,r9.Preds,r9.Op,r9.Name,r9.Args,r9.Names,r9.Pred.Op,r9.Pred.Name,r9.Pred.N,r9.Pred.Kids,r9.Preds))
  else
   some (.inr ())
 else
  some (.inr ())
theorem po(hR34:lD R34){x:(Int×ai×waC×waB×Int×ai×Int×waA×waA×Int×ai×waC×waB×Int×ai×Int×waA×waA)⊕(Unit)}(h:ui R34 v v2 t=some x):aC Pg GE 0 (cA Lb 6) (EX (eA x) (db v v2 t m m2 x)) (z7 v v2 t m m2):=by
 have p2:=fun{sc F} (r:PS sc F)=>sv (aH t)<|sv (aJ t)<|r
 rcases aT h with⟨c1,h⟩|⟨c1,h⟩
 ·obtain⟨r3,br3,h⟩:=av h
  obtain⟨o5,bo5,h⟩:=av h
  have p7:=fun{sc F} (r:PS sc F)=>p2<|sg 0 c1<|sv (cF t)<|sv (cO t)<|bg (vI br3)<|mG 0<|cC (y0 v v2 t r3 m m2 bo5)<|r
  rcases aT h with⟨c6,h⟩|⟨c6,h⟩
  ·obtain⟨x8,bx8,h⟩:=av h
   obtain⟨r9,br9,h⟩:=av h
   obtain⟨o13,bo13,h⟩:=av h
   have p15:=fun{sc F} (r:PS sc F)=>p7<|sg 0 c6<|sv (dF.ia (k:=.i64) bx8)<|sv (bA x8)<|bg (hR34 _ _ _ _ br9)<|sx io<|sy (aO r9)<|mG 1<|cC (y1 t m m2 r9.Op r9.Name r9.Args r9.Names r9.Pred.Op r9.Pred.Name r9.Pred.N r9.Pred.Kids r9.Preds bo13)<|r
   rcases aT h with⟨c14,h⟩|⟨c14,h⟩
   ·obtain⟨r16,br16,h⟩:=av h
    have p18:=fun{sc F} (r:PS sc F)=>p15<|sg 0 c14<|sv (aD r9.Pred [sl ac r9.Preds])<|bg (wm br16)<|r
    rcases aT h with⟨c17,h⟩|⟨c17,h⟩
    ·obtain⟨r19,br19,h⟩:=av h
     obtain rfl:=lf h
     exact ct GY (p18<|sg 0 c17<|sv (bw t)<|sv (bz t)<|bg (lN br19)<|sy (ax r19)<|sz (bk (⟨r9.Op,r9.Name,r9.Args,r9.Names,r19,r9.Preds⟩:ae) [])<|sy (aO (⟨r9.Op,r9.Name,r9.Args,r9.Names,r19,r9.Preds⟩:ae))<|eF (eA (.inl (r9.Op,r9.Name,r9.Args,r9.Names,r19.Op,r19.Name,r19.N,r19.Kids,r9.Preds,r9.Op,r9.Name,r9.Args,r9.Names,r19.Op,r19.Name,r19.N,r19.Kids,r9.Preds))) (db v v2 t m m2 (.inl (r9.Op,r9.Name,r9.Args,r9.Names,r19.Op,r19.Name,r19.N,r19.Kids,r9.Preds,r9.Op,r9.Name,r9.Args,r9.Names,r19.Op,r19.Name,r19.N,r19.Kids,r9.Preds))))<|by kernel_rfl
    ·obtain⟨r20,br20,h⟩:=av h
     obtain rfl:=lf h
     exact ct GY (p18<|sg 0 c17<|ue [0,1,0,4,12,31,63,127,255]<|sv (aD r9.Pred [sl ac r9.Preds])<|sv (bw t)<|sv (bz t)<|bg (lN br20)<|sv (aQ.mk' (v:=b9) aV ([r9.Pred,r20]:List aa) 2 (by kernel_rfl))<|sv (mU 15 ([r9.Pred,r20]:List aa))<|sx (aW (⟨15,([]:ai),0,([r9.Pred,r20]:List aa)⟩:aa))<|sz (bk (⟨r9.Op,r9.Name,r9.Args,r9.Names,(⟨15,([]:ai),0,([r9.Pred,r20]:List aa)⟩:aa),r9.Preds⟩:ae) [])<|sy (aO (⟨r9.Op,r9.Name,r9.Args,r9.Names,(⟨15,([]:ai),0,([r9.Pred,r20]:List aa)⟩:aa),r9.Preds⟩:ae))<|eF (eA (.inl (r9.Op,r9.Name,r9.Args,r9.Names,15,([]:ai),0,([r9.Pred,r20]:List aa),r9.Preds,r9.Op,r9.Name,r9.Args,r9.Names,15,([]:ai),0,([r9.Pred,r20]:List aa),r9.Preds))) (db v v2 t m m2 (.inl (r9.Op,r9.Name,r9.Args,r9.Names,15,([]:ai),0,([r9.Pred,r20]:List aa),r9.Preds,r9.Op,r9.Name,r9.Args,r9.Names,15,([]:ai),0,([r9.Pred,r20]:List aa),r9.Preds))))<|by kernel_rfl
   ·obtain rfl:=lf h
    exact ct GY (p15<|sg 0 c14<|sz (bk r9 [])<|sy (aO r9)<|eF (eA (.inl (r9.Op,r9.Name,r9.Args,r9.Names,r9.Pred.Op,r9.Pred.Name,r9.Pred.N,r9.Pred.Kids,r9.Preds,r9.Op,r9.Name,r9.Args,r9.Names,r9.Pred.Op,r9.Pred.Name,r9.Pred.N,r9.Pred.Kids,r9.Preds))) (db v v2 t m m2 (.inl (r9.Op,r9.Name,r9.Args,r9.Names,r9.Pred.Op,r9.Pred.Name,r9.Pred.N,r9.Pred.Kids,r9.Preds,r9.Op,r9.Name,r9.Args,r9.Names,r9.Pred.Op,r9.Pred.Name,r9.Pred.N,r9.Pred.Kids,r9.Preds))))<|by kernel_rfl
  ·obtain rfl:=lf h
   exact ct GY (p7<|sg 0 c6<|eF (eA (.inr ())) (db v v2 t m m2 (.inr ())))<|by kernel_rfl
 ·obtain rfl:=lf h
  exact ct GY (p2<|sg 0 c1<|eF (eA (.inr ())) (db v v2 t m m2 (.inr ())))<|by kernel_rfl
end
section
variable(R34:i6)(v:waB)(v2:waC)(t:ae)(t72:waC)(t73:Int)(m:waC)(m2:waA)(m3:Int)(m4:ai)(m6:waB)(m7:Int)(m8:ai)(m9:Int)(m10:waA)(t74:Int)(m5:waC)
def fY:aq:=aP 104 [(1,sl cS v),(2,sl af v2),(3,.eptr (af t)),(6,.bptr 1 0),(9,.bptr 2 0),(72,sl af t72),(73,.int .i64 t73),(74,.int .i64 t74)] [.dead,.cells [.int .i64 0,.str ([]:ai),sl af m,sl cS ([]:List ai),.int .i64 0,.str ([]:ai),.int .i64 0,sl ac m2,sl ac m2] [(2,30),(3,9),(7,28),(8,28)],.cells [.int .i64 m3,.str m4,sl af m5,sl cS m6,.int .i64 m7,.str m8,.int .i64 m9,sl ac m10,sl ac m2] [(2,30),(8,28)]] []
def lz(o:waC):aq:=aP 104 [(3,.eptr (af t)),(6,.bptr 1 0),(9,.bptr 2 0)] [.dead,.cells [.int .i64 0,.str ([]:ai),sl af m,sl cS ([]:List ai),.int .i64 0,.str ([]:ai),.int .i64 0,sl ac m2,sl ac m2] [(2,30),(3,9),(7,28),(8,28)],.cells [.int .i64 m3,.str m4,sl af o,sl cS m6,.int .i64 m7,.str m8,.int .i64 m9,sl ac m10,sl ac m2] [(2,30),(8,28)]] []
def qD:Option ((Int×waC)⊕(waC)):=
 if(decide (t74<t73))=true then
  (eh t72 t74).bind fun x25=>
  (R34 x25 v v2).bind fun r26=>
  (app m5 ([r26]:List ae)).bind fun l27=>
  some (.inl (cf (t74+1),l27))
 else
  some (.inr m5)
def ul:Option waC:=loop (fun(zz:Int×waC)=>qD R34 v v2 t72 t73 zz.1 zz.2) (t74,m5)
theorem xp(hR34:lD R34){y:(Int×waC)⊕(waC)}(h:qD R34 v v2 t72 t73 t74 m5=some y):aC Pg GE 0 (cA Lb 247) (LQ (fun(zz:Int×waC)=>fY v v2 t t72 t73 m m2 m3 m4 m6 m7 m8 m9 m10 zz.1 zz.2) (fun _=>.exit 0) (lz t m m2 m3 m4 m6 m7 m8 m9 m10) y) (fY v v2 t t72 t73 m m2 m3 m4 m6 m7 m8 m9 m10 t74 m5):=by
 rcases aT h with⟨c24,h⟩|⟨c24,h⟩
 ·obtain⟨x25,bx25,h⟩:=av h
  obtain⟨r26,br26,h⟩:=av h
  obtain⟨l27,bl27,h⟩:=av h
  obtain rfl:=lf h
  have z:=sg 0 c24<|sv (dF.ia (k:=.i64) bx25)<|sv (bA x25)<|sx io<|sx (cB x25)<|ue [0,1,0,0,0,28,60,127,255,511]<|sv (bk x25 [])<|bg (hR34 _ _ _ _ br26)<|sv (dF.mk' (v:=pp) li ([r26]:List ae) 1 (by kernel_rfl))<|sv (dF.ap bl27)<|KS (rfl:bZ (sl af l27)=some [sl af l27])<|jw 0 .normal (fY v v2 t t72 t73 m m2 m3 m4 m6 m7 m8 m9 m10 (cf (t74+1)) l27) rfl (bS (aI (up (ak hZ v)) (aI (up (ak al v2)) (aI (eu (al t)) (aI (co rfl) (aI (co rfl) (aI (up (ak al t72)) (aI trivial (aI trivial trivial))))))))) (aI trivial (aI (aI trivial (aI trivial (aI (up (ak al m)) (aI (up (ak hZ ([]:List ai))) (aI trivial (aI trivial (aI trivial (aI (up (ak ag m2)) (aI (up (ak ag m2)) trivial))))))))) (aI (aI trivial (aI trivial (aI (up (ak al l27)) (aI (up (ak hZ m6)) (aI trivial (aI trivial (aI trivial (aI (up (ak ag m10)) (aI (up (ak ag m2)) trivial))))))))) trivial)))
  exact cd (A:=GY) mixed z<|by kernel_rfl
 ·obtain rfl:=lf h
  have z:=sg 0 c24<|eF (.exit 0) (lz t m m2 m3 m4 m6 m7 m8 m9 m10 m5)
  exact gZ GY (by intro hx;cases hx) z<|by kernel_rfl
theorem y2(hR34:lD R34){x:waC}(h:ul R34 v v2 t72 t73 t74 m5=some x):aC Pg GE 0 (.loop (cA Lb 247)) (EX (.exit 0) (lz t m m2 m3 m4 m6 m7 m8 m9 m10 x)) (fY v v2 t t72 t73 m m2 m3 m4 m6 m7 m8 m9 m10 t74 m5):=
 aC.loop (S:=fun(zz:Int×waC)=>fY v v2 t t72 t73 m m2 m3 m4 m6 m7 m8 m9 m10 zz.1 zz.2) (ex:=(fun _=>.exit 0)) (s:=(t74,m5)) h fun zz y hy=>xp R34 v v2 t t72 t73 m m2 m3 m4 m6 m7 m8 m9 m10 zz.1 zz.2 hR34 hy
end
section
variable(t89:waA)(t90:Int)(m:waC)(m2:waA)(m3:Int)(m4:ai)(m5:waC)(m6:waB)(m7:Int)(m8:ai)(m9:Int)(m10:waA)(t91:Int)(m11:waA)
def fZ:aq:=aP 104 [(6,.bptr 1 0),(9,.bptr 2 0),(89,sl ac t89),(90,.int .i64 t90),(91,.int .i64 t91)] [.dead,.cells [.int .i64 0,.str ([]:ai),sl af m,sl cS ([]:List ai),.int .i64 0,.str ([]:ai),.int .i64 0,sl ac m2,sl ac m2] [(2,30),(3,9),(7,28),(8,28)],.cells [.int .i64 m3,.str m4,sl af m5,sl cS m6,.int .i64 m7,.str m8,.int .i64 m9,sl ac m10,sl ac m11] [(2,30),(8,28)]] []
def lA(o:waA):aq:=aP 104 [(6,.bptr 1 0),(9,.bptr 2 0)] [.dead,.cells [.int .i64 0,.str ([]:ai),sl af m,sl cS ([]:List ai),.int .i64 0,.str ([]:ai),.int .i64 0,sl ac m2,sl ac m2] [(2,30),(3,9),(7,28),(8,28)],.cells [.int .i64 m3,.str m4,sl af m5,sl cS m6,.int .i64 m7,.str m8,.int .i64 m9,sl ac m10,sl ac o] [(2,30),(8,28)]] []
def qE:Option ((Int×waA)⊕(waA)):=
 if(decide (t91<t90))=true then
  (eh t89 t91).bind fun x30=>
  (og x30).bind fun r31=>
  (app m11 ([r31]:List aa)).bind fun l32=>
  some (.inl (cf (t91+1),l32))
 else
  some (.inr m11)
def um:Option waA:=loop (fun(zz:Int×waA)=>qE t89 t90 zz.1 zz.2) (t91,m11)
theorem xq{y:(Int×waA)⊕(waA)}(h:qE t89 t90 t91 m11=some y):aC Pg GE 0 (cA Lb 503) (LQ (fun(zz:Int×waA)=>fZ t89 t90 m m2 m3 m4 m5 m6 m7 m8 m9 m10 zz.1 zz.2) (fun _=>.exit 2) (lA m m2 m3 m4 m5 m6 m7 m8 m9 m10) y) (fZ t89 t90 m m2 m3 m4 m5 m6 m7 m8 m9 m10 t91 m11):=by
 rcases aT h with⟨c29,h⟩|⟨c29,h⟩
 ·obtain⟨x30,bx30,h⟩:=av h
  obtain⟨r31,br31,h⟩:=av h
  obtain⟨l32,bl32,h⟩:=av h
  obtain rfl:=lf h
  have z:=sg 0 c29<|sv (aQ.ia (k:=.i64) bx30)<|sv (aB x30)<|sx dB<|sx (aW x30)<|ue [0,1,0,4,12,31,63,127]<|sv (aD x30 [])<|bg (lN br31)<|sv (aQ.mk' (v:=b9) aV ([r31]:List aa) 1 (by kernel_rfl))<|sv (aQ.ap bl32)<|KS (rfl:bZ (sl ac l32)=some [sl ac l32])<|jw 0 .normal (fZ t89 t90 m m2 m3 m4 m5 m6 m7 m8 m9 m10 (cf (t91+1)) l32) rfl (bS (aI (co rfl) (aI (co rfl) (aI (up (ak ag t89)) (aI trivial (aI trivial trivial)))))) (aI trivial (aI (aI trivial (aI trivial (aI (up (ak al m)) (aI (up (ak hZ ([]:List ai))) (aI trivial (aI trivial (aI trivial (aI (up (ak ag m2)) (aI (up (ak ag m2)) trivial))))))))) (aI (aI trivial (aI trivial (aI (up (ak al m5)) (aI (up (ak hZ m6)) (aI trivial (aI trivial (aI trivial (aI (up (ak ag m10)) (aI (up (ak ag l32)) trivial))))))))) trivial)))
  exact cd (A:=GY) mixed z<|by kernel_rfl
 ·obtain rfl:=lf h
  have z:=sg 0 c29<|eF (.exit 2) (lA m m2 m3 m4 m5 m6 m7 m8 m9 m10 m11)
  exact gZ GY (by intro hx;cases hx) z<|by kernel_rfl
theorem y3{x:waA}(h:um t89 t90 t91 m11=some x):aC Pg GE 0 (.loop (cA Lb 503)) (EX (.exit 2) (lA m m2 m3 m4 m5 m6 m7 m8 m9 m10 x)) (fZ t89 t90 m m2 m3 m4 m5 m6 m7 m8 m9 m10 t91 m11):=
 aC.loop (S:=fun(zz:Int×waA)=>fZ t89 t90 m m2 m3 m4 m5 m6 m7 m8 m9 m10 zz.1 zz.2) (ex:=(fun _=>.exit 2)) (s:=(t91,m11)) h fun zz y hy=>xq t89 t90 m m2 m3 m4 m5 m6 m7 m8 m9 m10 zz.1 zz.2 hy
end
def v7(R34:i6)(t:ae)(a:waB)(a2:waC):Option ae:=
 (ui R34 a a2 t).bind fun o21=>match o21 with
 |(.inl o21)=>
  some (⟨o21.1,o21.2.1,o21.2.2.1,o21.2.2.2.1,(⟨o21.2.2.2.2.1,o21.2.2.2.2.2.1,o21.2.2.2.2.2.2.1,o21.2.2.2.2.2.2.2.1⟩:aa),o21.2.2.2.2.2.2.2.2.1⟩:ae)
 |(.inr o21)=>
  (app ([]:List ai) t.Names).bind fun l22=>
  (og t.Pred).bind fun r23=>
  (ul R34 a a2 t.Args (t.Args.length:Int) 0 ([]:List ae)).bind fun o28=>
  (um t.Preds (t.Preds.length:Int) 0 ([]:List aa)).bind fun o33=>
  some (⟨t.Op,t.Name,o28,l22,r23,o33⟩:ae)
theorem Bz(R34:i6)(hR34:lD R34){t:ae}{a:waB}{a2:waC}{r:ae}(h:v7 R34 t a a2=some r):CC Pg GE 95 [.agg (af t),sl cS a,sl af a2] (.agg (af r)) [(2,30),(8,28)]:=by
 obtain⟨o21,bo21,h⟩:=av h
 rcases o21 with o21|o21
 ·obtain rfl:=lf h
  have z:=se (bY t)<|sx io<|mG 0<|cC (e:=.ret) (s1:=db a a2 t ([]:List ae) ([]:List aa) (.inl o21)) (po R34 a a2 t ([]:List ae) ([]:List aa) hR34 bo21)<|en (aI (cG (⟨o21.1,o21.2.1,o21.2.2.1,o21.2.2.2.1,(⟨o21.2.2.2.2.1,o21.2.2.2.2.2.1,o21.2.2.2.2.2.2.1,o21.2.2.2.2.2.2.2.1⟩:aa),o21.2.2.2.2.2.2.2.2.1⟩:ae))<|aI (al (⟨o21.1,o21.2.1,o21.2.2.1,o21.2.2.2.1,(⟨o21.2.2.2.2.1,o21.2.2.2.2.2.1,o21.2.2.2.2.2.2.1,o21.2.2.2.2.2.2.2.1⟩:aa),o21.2.2.2.2.2.2.2.2.1⟩:ae))<|rT)
  exact cb GY call95 func95 (c:=Lb) rfl (aI (al t) (aI (ak hZ a) (aI (ak al a2) trivial))) z<|by kernel_rfl
 ·obtain⟨l22,bl22,h⟩:=av h
  obtain⟨r23,br23,h⟩:=av h
  obtain⟨o28,bo28,h⟩:=av h
  obtain⟨o33,bo33,h⟩:=av h
  obtain rfl:=lf h
  have z:=se (bY t)<|sx io<|mG 0<|cC (e:=.normal) (s1:=db a a2 t ([]:List ae) ([]:List aa) (.inr o21)) (po R34 a a2 t ([]:List ae) ([]:List aa) hR34 bo21)<|ue [0,1,0,4,0,0,32,112,0,256,1008,2047,0,8191]<|sv (aH t)<|sv (aJ t)<|sv (cF t)<|sv (cO t)<|sv (cn.mk' (v:=PVal.str) FF ([]:List ai) 0 (by kernel_rfl))<|sv (aY t)<|sv (aZ t)<|sv (cn.ap bl22)<|sv (bw t)<|sv (bz t)<|bg (lN br23)<|sb (pX t.Op t.Name l22 r23) (pW t.Op t.Name l22 r23)<|KF (cB (⟨t.Op,t.Name,([]:List ae),l22,r23,([]:List aa)⟩:ae))<|sv (aL t)<|sv (aM t)<|cx (dF.ln t.Args)<|cC (y2 R34 a a2 t t.Args (t.Args.length:Int) ([]:List ae) ([]:List aa) t.Op t.Name l22 r23.Op r23.Name r23.N r23.Kids 0 ([]:List ae) hR34 bo28)<|sv (bp t)<|sv (bu t)<|cx (aQ.ln t.Preds)<|cC (y3 t.Preds (t.Preds.length:Int) ([]:List ae) ([]:List aa) t.Op t.Name o28 l22 r23.Op r23.Name r23.N r23.Kids 0 ([]:List aa) bo33)<|sz (bk (⟨t.Op,t.Name,o28,l22,r23,o33⟩:ae) [])<|sy (aO (⟨t.Op,t.Name,o28,l22,r23,o33⟩:ae))<|en (aI (cG (⟨t.Op,t.Name,o28,l22,r23,o33⟩:ae))<|aI (al (⟨t.Op,t.Name,o28,l22,r23,o33⟩:ae))<|rT)
  exact cb GY call95 func95 (c:=Lb) rfl (aI (al t) (aI (ak hZ a) (aI (ak al a2) trivial))) z<|by kernel_rfl
def v8:((ae×waB×waC)->Option ae)->(ae×waB×waC)->Option ae:=fun(rec:(ae×waB×waC)->Option ae) (x:ae×waB×waC)=>v7 (fun t a a2=>rec (t,a,a2)) x.1 x.2.1 x.2.2
def AF(t:ae)(a:waB)(a2:waC):Option ae:=kY v8 (t,a,a2)
theorem Do{t:ae}{a:waB}{a2:waC}{r:ae}(h:AF t a a2=some r):CC Pg GE 95 [.agg (af t),sl cS a,sl af a2] (.agg (af r)) [(2,30),(8,28)]:=
 cw (F:=v8) (M:=fun(x:ae×waB×waC) (r:ae)=>CC Pg GE 95 [.agg (af x.1),sl cS x.2.1,sl af x.2.2] (.agg (af r)) [(2,30),(8,28)]) (fun rec hrec x r h=>Bz _ (fun t a a2 r h=>hrec (t,a,a2) r h) h) h
noncomputable def Qx:Code:=f53.body.getD .skip
def Qg:List Nat:=[]
def nZ(t:ae):Option ae:=
 (AF t ([]:List ai) ([]:List ae)).bind fun r1=>
 some r1
theorem pe{t:ae}{r:ae}(h:nZ t=some r):CC Pg GE 53 [.agg (af t)] (.agg (af r)) [(2,30),(8,28)]:=by
 obtain⟨r1,br1,h⟩:=av h
 obtain rfl:=lf h
 have z:=se (bY t)<|sx io<|sv (bA t)<|bg (Do br1)<|sy (aO r1)<|en (aI (cG r1)<|aI (al r1)<|rT)
 exact cb Qg call53 func53 (c:=Qx) rfl (aI (al t) trivial) z<|by kernel_rfl
noncomputable def PH:Code:=f96.body.getD .skip
def Py:List Nat:=[]
def dO(is:Bool):Option aa:=
 if is=true then
  some (⟨2,([]:ai),1,([]:List aa)⟩:aa)
 else
  some (⟨2,([]:ai),0,([]:List aa)⟩:aa)
theorem cY{is:Bool}{r:aa}(h:dO is=some r):CC Pg GE 96 [.bool is] (.agg (ac r)) [(3,28)]:=by
 rcases aT h with⟨c1,h⟩|⟨c1,h⟩
 ·obtain rfl:=lf h
  have z:=sx dB<|sg 0 c1<|sb (mT 2 1) (mQ 2 1)<|sy (ax (⟨2,([]:ai),1,([]:List aa)⟩:aa))<|en (aI (bR (⟨2,([]:ai),1,([]:List aa)⟩:aa))<|aI (ag (⟨2,([]:ai),1,([]:List aa)⟩:aa))<|rT)
  exact cb Py call96 func96 (c:=PH) rfl (aI trivial trivial) z<|by kernel_rfl
 ·obtain rfl:=lf h
  have z:=sx dB<|sg 0 c1<|sb (G8 2) (G6 2)<|sy (ax (⟨2,([]:ai),0,([]:List aa)⟩:aa))<|en (aI (bR (⟨2,([]:ai),0,([]:List aa)⟩:aa))<|aI (ag (⟨2,([]:ai),0,([]:List aa)⟩:aa))<|rT)
  exact cb Py call96 func96 (c:=PH) rfl (aI trivial trivial) z<|by kernel_rfl
abbrev jS:=(aa->aa->Option Bool)
abbrev oo(R:jS):Prop:=∀(a:aa) (a2:aa) (r:Bool),R a a2=some r->CC Pg GE 98 [.agg (ac a),.agg (ac a2)] (.bool r) []
noncomputable def JI:Code:=f124.body.getD .skip
def Iu:List Nat:=[17]
section
variable(R41:jS)(v:waA)(v2:waA)(t14:Int)(t15:Int)
def gE:aq:=aP 30 [(0,sl ac v),(1,sl ac v2),(2,.func (.func 98) [] []),(14,.int .i64 t14),(15,.int .i64 t15)] [] []
def gH(o:Unit⊕(Unit)):Exit:=match o with
 |(.inl _)=>.ret
 |(.inr _)=>.exit 0
def eY(o:Unit⊕(Unit)):aq:=match o with
 |(.inl o)=>aP 30 [(6,.bool false)] [] []
 |(.inr o)=>aP 30 [] [] []
def gG:Option (Int⊕(Unit⊕(Unit))):=
 if(decide (t15<t14))=true then
  (eh v t15).bind fun x4=>
  (eh v2 t15).bind fun x5=>
  (R41 x4 x5).bind fun r6=>
  if(!r6)=true then
   some (.inr (.inl ()))
  else
   some (.inl (cf (t15+1)))
 else
  some (.inr (.inr ()))
def pL:Option (Unit⊕(Unit)):=loop (fun(zz:Int)=>gG R41 v v2 t14 zz) t15
theorem yw(hR41:oo R41){y:Int⊕(Unit⊕(Unit))}(h:gG R41 v v2 t14 t15=some y):aC Pg GE 0 (cA JI 119) (LQ (fun(zz:Int)=>gE v v2 t14 zz) gH eY y) (gE v v2 t14 t15):=by
 rcases aT h with⟨c3,h⟩|⟨c3,h⟩
 ·obtain⟨x4,bx4,h⟩:=av h
  obtain⟨x5,bx5,h⟩:=av h
  obtain⟨r6,br6,h⟩:=av h
  have p8:=fun{sc F} (r:PS sc F)=>sg 0 c3<|ue [0,0,0,6,14,0,0,96,224,511,1023]<|sv (aQ.ia (k:=.i64) bx4)<|sv (aB x4)<|sv (aQ.ia (k:=.i64) bx5)<|sv (aB x5)<|bg (hR41 _ _ _ br6)<|r
  rcases aT h with⟨c7,h⟩|⟨c7,h⟩
  ·obtain rfl:=lf h
   have z:=p8<|sg 0 c7<|eF (gH (.inl ())) (eY (.inl ()))
   exact gZ Iu (by intro hx;cases hx) z<|by kernel_rfl
  ·obtain rfl:=lf h
   exact Bd Iu (p8<|sg 0 c7<|eF .normal (gE v v2 t14 (cf (t15+1))))<|by kernel_rfl
 ·obtain rfl:=lf h
  have z:=sg 0 c3<|eF (gH (.inr ())) (eY (.inr ()))
  exact gZ Iu (by intro hx;cases hx) z<|by kernel_rfl
theorem qn(hR41:oo R41){x:Unit⊕(Unit)}(h:pL R41 v v2 t14 t15=some x):aC Pg GE 0 (.loop (cA JI 119)) (EX (gH x) (eY x)) (gE v v2 t14 t15):=
 aC.loop (S:=fun(zz:Int)=>gE v v2 t14 zz) (ex:=gH) (s:=t15) h fun zz y hy=>yw R41 v v2 t14 zz hR41 hy
end
def rF(R41:jS)(a:waA)(a2:waA):Option Bool:=
 if((a.length:Int)!=(a2.length:Int))=true then
  some false
 else
  (pL R41 a a2 (a.length:Int) 0).bind fun o9=>match o9 with
  |(.inl o9)=>
   some false
  |(.inr o9)=>
   some true
theorem DW(R41:jS)(hR41:oo R41){a:waA}{a2:waA}{r:Bool}(h:rF R41 a a2=some r):CC Pg GE 124 [sl ac a,sl ac a2,.func (.func 98) [] []] (.bool r) []:=by
 have p2:=fun{sc F} (r:PS sc F)=>cx (aQ.ln a)<|cx (aQ.ln a2)<|r
 rcases aT h with⟨c1,h⟩|⟨c1,h⟩
 ·obtain rfl:=lf h
  have z:=p2<|sg 0 c1<|en (aI (rP (.bool false))<|trivial)
  exact cb Iu call124 func124 (c:=JI) rfl (aI (ak ag a) (aI (ak ag a2) (aI (aI trivial trivial) trivial))) z<|by kernel_rfl
 ·obtain⟨o9,bo9,h⟩:=av h
  rcases o9 with o9|o9
  ·obtain rfl:=lf h
   have z:=p2<|sg 0 c1<|cx (aQ.ln a)<|cC (e:=.ret) (s1:=eY (.inl o9)) (qn R41 a a2 (a.length:Int) 0 hR41 bo9)<|en (aI (rP (.bool false))<|trivial)
   exact cb Iu call124 func124 (c:=JI) rfl (aI (ak ag a) (aI (ak ag a2) (aI (aI trivial trivial) trivial))) z<|by kernel_rfl
  ·obtain rfl:=lf h
   have z:=p2<|sg 0 c1<|cx (aQ.ln a)<|cC (e:=.exit 0) (s1:=eY (.inr o9)) (qn R41 a a2 (a.length:Int) 0 hR41 bo9)<|en (aI (rP (.bool true))<|trivial)
   exact cb Iu call124 func124 (c:=JI) rfl (aI (ak ag a) (aI (ak ag a2) (aI (aI trivial trivial) trivial))) z<|by kernel_rfl
noncomputable def Ou:Code:=f98.body.getD .skip
def Ok:List Nat:=[]
def oU(R41:jS)(a:aa)(a2:aa):Option Bool:=
 if (a.Op == a2.Op) = true then
  if(a.Name==a2.Name)=true then
   if(a.N==a2.N)=true then
    (rF R41 a.Kids a2.Kids).bind fun r7=>
    some r7
   else
    some false
  else
   some false
 else
  some false
theorem DU(R41:jS)(hR41:oo R41){a:aa}{a2:aa}{r:Bool}(h:oU R41 a a2=some r):CC Pg GE 98 [.agg (ac a),.agg (ac a2)] (.bool r) []:=by
 have p2:=fun{sc F} (r:PS sc F)=>se (bj a)<|se (bj a2)<|sv (aE a)<|sv (aF a)<|sv (aE a2)<|sv (aF a2)<|r
 rcases aT h with⟨c1,h⟩|⟨c1,h⟩
 ·have p4:=fun{sc F} (r:PS sc F)=>p2<|sg 6 c1<|sv (bo a)<|sv (bD a)<|sv (bo a2)<|sv (bD a2)<|r
  rcases aT h with⟨c3,h⟩|⟨c3,h⟩
  ·have p6:=fun{sc F} (r:PS sc F)=>p4<|sg 13 c3<|sv (bU a)<|sv (ce a)<|sv (bU a2)<|sv (ce a2)<|r
   rcases aT h with⟨c5,h⟩|⟨c5,h⟩
   ·obtain⟨r7,br7,h⟩:=av h
    obtain rfl:=lf h
    have z:=p6<|sg 20 c5<|sv (ay a)<|sv (az a)<|sv (ay a2)<|sv (az a2)<|bg (DW R41 hR41 br7)<|en (aI (rP (.bool r7))<|trivial)
    exact cb Ok call98 func98 (c:=Ou) rfl (aI (ag a) (aI (ag a2) trivial)) z<|by kernel_rfl
   ·obtain rfl:=lf h
    have z:=p6<|sg 20 c5<|en (aI (rP (.bool false))<|trivial)
    exact cb Ok call98 func98 (c:=Ou) rfl (aI (ag a) (aI (ag a2) trivial)) z<|by kernel_rfl
  ·obtain rfl:=lf h
   have z:=p4<|sg 13 c3<|en (aI (rP (.bool false))<|trivial)
   exact cb Ok call98 func98 (c:=Ou) rfl (aI (ag a) (aI (ag a2) trivial)) z<|by kernel_rfl
 ·obtain rfl:=lf h
  have z:=p2<|sg 6 c1<|en (aI (rP (.bool false))<|trivial)
  exact cb Ok call98 func98 (c:=Ou) rfl (aI (ag a) (aI (ag a2) trivial)) z<|by kernel_rfl
def tR:((aa×aa)->Option Bool)->(aa×aa)->Option Bool:=fun(rec:(aa×aa)->Option Bool) (x:aa×aa)=>oU (fun a a2=>rec (a,a2)) x.1 x.2
def jV(a:aa)(a2:aa):Option Bool:=kY tR (a,a2)
theorem kn{a:aa}{a2:aa}{r:Bool}(h:jV a a2=some r):CC Pg GE 98 [.agg (ac a),.agg (ac a2)] (.bool r) []:=
 cw (F:=tR) (M:=fun(x:aa×aa) (r:Bool)=>CC Pg GE 98 [.agg (ac x.1),.agg (ac x.2)] (.bool r) []) (fun rec hrec x r h=>DU _ (fun a a2 r h=>hrec (a,a2) r h) h) h
noncomputable def PI:Code:=f97.body.getD .skip
def Pz:List Nat:=[]
def Ez(p:aa):Option Bool:=
 (jV p (⟨0,([]:ai),0,([]:List aa)⟩:aa)).bind fun r1=>
 if r1=true then
  some true
 else
  (dO true).bind fun r4=>
  (jV p r4).bind fun r5=>
  some r5
theorem Fu{p:aa}{r:Bool}(h:Ez p=some r):CC Pg GE 97 [.agg (ac p)] (.bool r) []:=by
 obtain⟨r1,br1,h⟩:=av h
 have p3:=fun{sc F} (r:PS sc F)=>se (bj p)<|ue [0,0,3,7,15,15,63,127,255]<|sv (aB p)<|sb (nA) (ny)<|bg (kn br1)<|r
 rcases aT h with⟨c2,h⟩|⟨c2,h⟩
 ·obtain rfl:=lf h
  have z:=p3<|sg 4 c2<|en (aI (rP (.bool true))<|trivial)
  exact cb Pz call97 func97 (c:=PI) rfl (aI (ag p) trivial) z<|by kernel_rfl
 ·obtain⟨r4,br4,h⟩:=av h
  obtain⟨r5,br5,h⟩:=av h
  obtain rfl:=lf h
  have z:=p3<|sg 4 c2<|sv (aB p)<|bg (cY br4)<|bg (kn br5)<|en (aI (rP (.bool r5))<|trivial)
  exact cb Pz call97 func97 (c:=PI) rfl (aI (ag p) trivial) z<|by kernel_rfl
noncomputable def Oo:Code:=f54.body.getD .skip
def Mm:List Nat:=[25]
section
variable(t8:waA)(t9:Int)(v:Bool)(t10:Int)(m:Int)(m2:ai)(m3:Int)(m4:waA)(m5:Int)(m6:ai)(m7:Int)(m8:waA)
def fx:aq:=aP 33 [(2,.bptr 0 0),(3,.bptr 1 0),(4,.bool v),(8,sl ac t8),(9,.int .i64 t9),(10,.int .i64 t10)] [.cells [.int .i64 m,.str m2,.int .i64 m3,sl ac m4] [(3,28)],.cells [.int .i64 m5,.str m6,.int .i64 m7,sl ac m8] []] []
def jj(o:(Int×ai×Int×waA×Int×ai×Int×waA)⊕(Int×ai×Int×waA×Int×ai×Int×waA)):Exit:=match o with
 |(.inl _)=>.ret
 |(.inr _)=>.exit 0
def g4(o:(Int×ai×Int×waA×Int×ai×Int×waA)⊕(Int×ai×Int×waA×Int×ai×Int×waA)):aq:=match o with
 |(.inl o)=>aP 33 [(2,.bptr 0 0)] [.cells [.int .i64 o.1,.str o.2.1,.int .i64 o.2.2.1,sl ac o.2.2.2.1] [(3,28)],.cells [.int .i64 o.2.2.2.2.1,.str o.2.2.2.2.2.1,.int .i64 o.2.2.2.2.2.2.1,sl ac o.2.2.2.2.2.2.2] []] []
 |(.inr o)=>aP 33 [(2,.bptr 0 0),(3,.bptr 1 0)] [.cells [.int .i64 o.1,.str o.2.1,.int .i64 o.2.2.1,sl ac o.2.2.2.1] [(3,28)],.cells [.int .i64 o.2.2.2.2.1,.str o.2.2.2.2.2.1,.int .i64 o.2.2.2.2.2.2.1,sl ac o.2.2.2.2.2.2.2] []] []
def vR:Option ((Bool×Int×Int×ai×Int×waA×Int×ai×Int×waA)⊕((Int×ai×Int×waA×Int×ai×Int×waA)⊕(Int×ai×Int×waA×Int×ai×Int×waA))):=
 if (decide (t10 < t9)) = true then
  (eh t8 t10).bind fun x3=>
  (Ez x3).bind fun r4=>
  if r4=true then
   some (.inl (v,cf (t10+1),m,m2,m3,m4,m5,m6,m7,m8))
  else
   (dO false).bind fun r7=>
   (jV x3 r7).bind fun r8=>
   if r8=true then
    (dO false).bind fun r11=>
    some (.inr (.inl (r11.Op,r11.Name,r11.N,r11.Kids,m5,m6,m7,m8)))
   else
    if v=true then
     (lY x3).bind fun r14=>
     some (.inl (v,cf (t10+1),m,m2,m3,m4,15,([]:ai),0,([(⟨m5,m6,m7,m8⟩:aa),r14]:List aa)))
    else
     (lY x3).bind fun r15=>
     some (.inl (true,cf (t10+1),m,m2,m3,m4,r15.Op,r15.Name,r15.N,r15.Kids))
 else
  some (.inr (.inr (m,m2,m3,m4,m5,m6,m7,m8)))
def AA:Option ((Int×ai×Int×waA×Int×ai×Int×waA)⊕(Int×ai×Int×waA×Int×ai×Int×waA)):=loop (fun(zz:Bool×Int×Int×ai×Int×waA×Int×ai×Int×waA)=>vR t8 t9 zz.1 zz.2.1 zz.2.2.1 zz.2.2.2.1 zz.2.2.2.2.1 zz.2.2.2.2.2.1 zz.2.2.2.2.2.2.1 zz.2.2.2.2.2.2.2.1 zz.2.2.2.2.2.2.2.2.1 zz.2.2.2.2.2.2.2.2.2) (v,t10,m,m2,m3,m4,m5,m6,m7,m8)
theorem Bg{y:(Bool×Int×Int×ai×Int×waA×Int×ai×Int×waA)⊕((Int×ai×Int×waA×Int×ai×Int×waA)⊕(Int×ai×Int×waA×Int×ai×Int×waA))}(h:vR t8 t9 v t10 m m2 m3 m4 m5 m6 m7 m8=some y):aC Pg GE 0 (cA Oo 119) (LQ (fun(zz:Bool×Int×Int×ai×Int×waA×Int×ai×Int×waA)=>fx t8 t9 zz.1 zz.2.1 zz.2.2.1 zz.2.2.2.1 zz.2.2.2.2.1 zz.2.2.2.2.2.1 zz.2.2.2.2.2.2.1 zz.2.2.2.2.2.2.2.1 zz.2.2.2.2.2.2.2.2.1 zz.2.2.2.2.2.2.2.2.2) jj g4 y) (fx t8 t9 v t10 m m2 m3 m4 m5 m6 m7 m8):=by
 rcases aT h with⟨c2,h⟩|⟨c2,h⟩
 ·obtain⟨x3,bx3,h⟩:=av h
  obtain⟨r4,br4,h⟩:=av h
  have p6:=fun{sc F} (r:PS sc F)=>sg 0 c2<|sv (aQ.ia (k:=.i64) bx3)<|sv (aB x3)<|sx dB<|sx (aW x3)<|sv (aD x3 [])<|bg (Fu br4)<|r
  rcases aT h with⟨c5,h⟩|⟨c5,h⟩
  ·obtain rfl:=lf h
   have z:=p6<|sg 0 c5<|jw 0 .normal (fx t8 t9 v (cf (t10+1)) m m2 m3 m4 m5 m6 m7 m8) rfl (bS (aI (co rfl) (aI (co rfl) (aI trivial (aI (up (ak ag t8)) (aI trivial (aI trivial trivial))))))) (aI (aI trivial (aI trivial (aI trivial (aI (up (ak ag m4)) trivial)))) (aI (aI trivial (aI trivial (aI trivial (aI (up (ak ag m8)) trivial)))) trivial))
   exact cd (A:=Mm) mixed z<|by kernel_rfl
  ·obtain⟨r7,br7,h⟩:=av h
   obtain⟨r8,br8,h⟩:=av h
   have p10:=fun{sc F} (r:PS sc F)=>p6<|sg 0 c5<|ue [0,0,3,7]<|sv (aD x3 [])<|bg (cY br7)<|bg (kn br8)<|r
   rcases aT h with⟨c9,h⟩|⟨c9,h⟩
   ·obtain⟨r11,br11,h⟩:=av h
    obtain rfl:=lf h
    have z:=p10<|sg 0 c9<|bg (cY br11)<|sy (ax r11)<|jw 0 (jj (.inl (r11.Op,r11.Name,r11.N,r11.Kids,m5,m6,m7,m8))) (g4 (.inl (r11.Op,r11.Name,r11.N,r11.Kids,m5,m6,m7,m8))) rfl (bS (aI (co rfl) trivial)) (aI (aI trivial (aI trivial (aI trivial (aI (up (ak ag r11.Kids)) trivial)))) (aI (aI trivial (aI trivial (aI trivial (aI (up (ak ag m8)) trivial)))) trivial))
    exact gg (A:=Mm) mixed (by intro hx;cases hx) z<|by kernel_rfl
   ·have p13:=fun{sc F} (r:PS sc F)=>p10<|sg 0 c9<|r
    rcases aT h with⟨c12,h⟩|⟨c12,h⟩
    ·obtain⟨r14,br14,h⟩:=av h
     obtain rfl:=lf h
     have z:=p13<|sg 0 c12<|ue [0,0,2,7,15,31]<|sv (aD (⟨m5,m6,m7,m8⟩:aa) [])<|sv (aD x3 [])<|bg (nM br14)<|sv (aQ.mk' (v:=b9) aV ([(⟨m5,m6,m7,m8⟩:aa),r14]:List aa) 2 (by kernel_rfl))<|sv (mU 15 ([(⟨m5,m6,m7,m8⟩:aa),r14]:List aa))<|sx (aW (⟨15,([]:ai),0,([(⟨m5,m6,m7,m8⟩:aa),r14]:List aa)⟩:aa))<|jw 0 .normal (fx t8 t9 v (cf (t10+1)) m m2 m3 m4 15 ([]:ai) 0 ([(⟨m5,m6,m7,m8⟩:aa),r14]:List aa)) rfl (bS (aI (co rfl) (aI (co rfl) (aI trivial (aI (up (ak ag t8)) (aI trivial (aI trivial trivial))))))) (aI (aI trivial (aI trivial (aI trivial (aI (up (ak ag m4)) trivial)))) (aI (aI trivial (aI trivial (aI trivial (aI (up (ak ag ([(⟨m5,m6,m7,m8⟩:aa),r14]:List aa))) trivial)))) trivial))
     exact cd (A:=Mm) mixed z<|by kernel_rfl
    ·obtain⟨r15,br15,h⟩:=av h
     obtain rfl:=lf h
     have z:=p13<|sg 0 c12<|sv (aD x3 [])<|bg (nM br15)<|sy (ax r15)<|jw 0 .normal (fx t8 t9 true (cf (t10+1)) m m2 m3 m4 r15.Op r15.Name r15.N r15.Kids) rfl (bS (aI (co rfl) (aI (co rfl) (aI trivial (aI (up (ak ag t8)) (aI trivial (aI trivial trivial))))))) (aI (aI trivial (aI trivial (aI trivial (aI (up (ak ag m4)) trivial)))) (aI (aI trivial (aI trivial (aI trivial (aI (up (ak ag r15.Kids)) trivial)))) trivial))
     exact cd (A:=Mm) mixed z<|by kernel_rfl
 ·obtain rfl:=lf h
  have z:=sg 0 c2<|eF (jj (.inr (m,m2,m3,m4,m5,m6,m7,m8))) (g4 (.inr (m,m2,m3,m4,m5,m6,m7,m8)))
  exact gZ Mm (by intro hx;cases hx) z<|by kernel_rfl
theorem tO{x:(Int×ai×Int×waA×Int×ai×Int×waA)⊕(Int×ai×Int×waA×Int×ai×Int×waA)}(h:AA t8 t9 v t10 m m2 m3 m4 m5 m6 m7 m8=some x):aC Pg GE 0 (.loop (cA Oo 119)) (EX (jj x) (g4 x)) (fx t8 t9 v t10 m m2 m3 m4 m5 m6 m7 m8):=
 aC.loop (S:=fun(zz:Bool×Int×Int×ai×Int×waA×Int×ai×Int×waA)=>fx t8 t9 zz.1 zz.2.1 zz.2.2.1 zz.2.2.2.1 zz.2.2.2.2.1 zz.2.2.2.2.2.1 zz.2.2.2.2.2.2.1 zz.2.2.2.2.2.2.2.1 zz.2.2.2.2.2.2.2.2.1 zz.2.2.2.2.2.2.2.2.2) (ex:=jj) (s:=(v,t10,m,m2,m3,m4,m5,m6,m7,m8)) h fun zz y hy=>Bg t8 t9 zz.1 zz.2.1 zz.2.2.1 zz.2.2.2.1 zz.2.2.2.2.1 zz.2.2.2.2.2.1 zz.2.2.2.2.2.2.1 zz.2.2.2.2.2.2.2.1 zz.2.2.2.2.2.2.2.2.1 zz.2.2.2.2.2.2.2.2.2 hy
end
def Gz(a:waA):Option aa:=
 (dO true).bind fun r1=>
 (AA a (a.length:Int) false 0 0 ([]:ai) 0 ([]:List aa) r1.Op r1.Name r1.N r1.Kids).bind fun o16=>match o16 with
 |(.inl o16)=>
  some (⟨o16.1,o16.2.1,o16.2.2.1,o16.2.2.2.1⟩:aa)
 |(.inr o16)=>
  some (⟨o16.2.2.2.2.1,o16.2.2.2.2.2.1,o16.2.2.2.2.2.2.1,o16.2.2.2.2.2.2.2⟩:aa)
theorem GA{a:waA}{r:aa}(h:Gz a=some r):CC Pg GE 54 [sl ac a] (.agg (ac r)) []:=by
 obtain⟨r1,br1,h⟩:=av h
 obtain⟨o16,bo16,h⟩:=av h
 rcases o16 with o16|o16
 ·obtain rfl:=lf h
  have z:=sx dB<|bg (cY br1)<|sx dB<|sy (ax r1)<|cx (aQ.ln a)<|cC (e:=.ret) (s1:=g4 (.inl o16)) (tO a (a.length:Int) false 0 0 ([]:ai) 0 ([]:List aa) r1.Op r1.Name r1.N r1.Kids bo16)<|en (aI (bR (⟨o16.1,o16.2.1,o16.2.2.1,o16.2.2.2.1⟩:aa))<|(ag (⟨o16.1,o16.2.1,o16.2.2.1,o16.2.2.2.1⟩:aa)))
  exact cb Mm call54 func54 (c:=Oo) rfl (aI (ak ag a) trivial) z<|by kernel_rfl
 ·obtain rfl:=lf h
  have z:=sx dB<|bg (cY br1)<|sx dB<|sy (ax r1)<|cx (aQ.ln a)<|cC (e:=.exit 0) (s1:=g4 (.inr o16)) (tO a (a.length:Int) false 0 0 ([]:ai) 0 ([]:List aa) r1.Op r1.Name r1.N r1.Kids bo16)<|sv (aD (⟨o16.2.2.2.2.1,o16.2.2.2.2.2.1,o16.2.2.2.2.2.2.1,o16.2.2.2.2.2.2.2⟩:aa) [])<|sx (aW (⟨o16.2.2.2.2.1,o16.2.2.2.2.2.1,o16.2.2.2.2.2.2.1,o16.2.2.2.2.2.2.2⟩:aa))<|en (aI (bR (⟨o16.2.2.2.2.1,o16.2.2.2.2.2.1,o16.2.2.2.2.2.2.1,o16.2.2.2.2.2.2.2⟩:aa))<|(ag (⟨o16.2.2.2.2.1,o16.2.2.2.2.2.1,o16.2.2.2.2.2.2.1,o16.2.2.2.2.2.2.2⟩:aa)))
  exact cb Mm call54 func54 (c:=Oo) rfl (aI (ak ag a) trivial) z<|by kernel_rfl
noncomputable def PB:Code:=f20.body.getD .skip
def Ps:List Nat:=[]
def AC(t:ae)(p:aa):Option ae:=
 (nZ t).bind fun r1=>
 if(t.Op !=6)=true then
  (Gz ([t.Pred,p]:List aa)).bind fun r4=>
  some (⟨r1.Op,r1.Name,r1.Args,r1.Names,r4,r1.Preds⟩:ae)
 else
  some r1
theorem C9{t:ae}{p:aa}{r:ae}(h:AC t p=some r):CC Pg GE 20 [.agg (af t),.agg (ac p)] (.agg (af r)) [(2,30),(8,28)]:=by
 obtain⟨r1,br1,h⟩:=av h
 have p3:=fun{sc F} (r:PS sc F)=>se (bY t)<|se (bj p)<|sx io<|sv (bA t)<|bg (pe br1)<|sx io<|sy (aO r1)<|sv (aH t)<|sv (aJ t)<|r
 rcases aT h with⟨c2,h⟩|⟨c2,h⟩
 ·obtain⟨r4,br4,h⟩:=av h
  obtain rfl:=lf h
  have z:=p3<|sg 0 c2<|sv (bw t)<|sv (bz t)<|sv (aB p)<|sv (aQ.mk' (v:=b9) aV ([t.Pred,p]:List aa) 2 (by kernel_rfl))<|bg (GA br4)<|sx (aW r4)<|sz (bk (⟨r1.Op,r1.Name,r1.Args,r1.Names,r4,r1.Preds⟩:ae) [])<|sy (aO (⟨r1.Op,r1.Name,r1.Args,r1.Names,r4,r1.Preds⟩:ae))<|en (aI (cG (⟨r1.Op,r1.Name,r1.Args,r1.Names,r4,r1.Preds⟩:ae))<|aI (al (⟨r1.Op,r1.Name,r1.Args,r1.Names,r4,r1.Preds⟩:ae))<|rT)
  exact cb Ps call20 func20 (c:=PB) rfl (aI (al t) (aI (ag p) trivial)) z<|by kernel_rfl
 ·obtain rfl:=lf h
  have z:=p3<|sg 0 c2<|sz (bk r1 [])<|sy (aO r1)<|en (aI (cG r1)<|aI (al r1)<|rT)
  exact cb Ps call20 func20 (c:=PB) rfl (aI (al t) (aI (ag p) trivial)) z<|by kernel_rfl
noncomputable def Ol:Code:=f25.body.getD .skip
def LR:List Nat:=[]
section
variable(name:ai)(t:ae)(t7:Int)(m:waC)(m2:waA)
def yQ:aq:=aP 24 [(1,.str name),(2,.eptr (af t)),(4,.bptr 1 0),(5,.int .i64 10),(7,.int .i64 t7)] [.dead,.cells [.int .i64 0,.str ([]:ai),sl af m,sl cS ([]:List ai),.int .i64 0,.str ([]:ai),.int .i64 0,sl ac m2,sl ac m2] [(2,30),(3,9),(7,28),(8,28)]] []
def hU(o:Bool):aq:=aP 24 [(1,.str name),(2,.eptr (af t)),(4,.bptr 1 0),(5,.int .i64 10),(12,.bool o)] [.dead,.cells [.int .i64 0,.str ([]:ai),sl af m,sl cS ([]:List ai),.int .i64 0,.str ([]:ai),.int .i64 0,sl ac m2,sl ac m2] [(2,30),(3,9),(7,28),(8,28)]] []
def sq:Option Bool:=
 if(t7==1)=true then
  some (t7==1)
 else
  if(t7==3)=true then
   some (t7==3)
  else
   some (t7==4)
theorem xl{x:Bool}(h:sq t7=some x):aC Pg GE 0 (cA Ol 478) (EX .normal (hU name t m m2 x)) (yQ name t t7 m m2):=by
 rcases aT h with⟨c3,h⟩|⟨c3,h⟩
 ·obtain rfl:=lf h
  exact ct LR (sg 0 c3<|eF .normal (hU name t m m2 (t7==1)))<|by kernel_rfl
 ·rcases aT h with⟨c4,h⟩|⟨c4,h⟩
  ·obtain rfl:=lf h
   exact ct LR (sg 0 c3<|sg 0 c4<|eF .normal (hU name t m m2 (t7==3)))<|by kernel_rfl
  ·obtain rfl:=lf h
   exact ct LR (sg 0 c3<|sg 0 c4<|eF .normal (hU name t m m2 (t7==4)))<|by kernel_rfl
end
section
variable(name:ai)(t:ae)(m:waC)(m2:waA)
def yP:aq:=aP 24 [(1,.str name),(2,.eptr (af t)),(4,.bptr 1 0),(5,.int .i64 10)] [.dead,.cells [.int .i64 0,.str ([]:ai),sl af m,sl cS ([]:List ai),.int .i64 0,.str ([]:ai),.int .i64 0,sl ac m2,sl ac m2] [(2,30),(3,9),(7,28),(8,28)]] []
def hO(o:Int⊕(Int×ai×waC×waB×Int×ai×Int×waA×waA)):Exit:=match o with
 |(.inl _)=>.normal
 |(.inr _)=>.ret
def d6(o:Int⊕(Int×ai×waC×waB×Int×ai×Int×waA×waA)):aq:=match o with
 |(.inl o)=>aP 24 [(1,.str name),(2,.eptr (af t)),(4,.bptr 1 0),(5,.int .i64 o)] [.dead,.cells [.int .i64 0,.str ([]:ai),sl af m,sl cS ([]:List ai),.int .i64 0,.str ([]:ai),.int .i64 0,sl ac m2,sl ac m2] [(2,30),(3,9),(7,28),(8,28)]] []
 |(.inr o)=>aP 24 [(4,.bptr 1 0)] [.dead,.cells [.int .i64 o.1,.str o.2.1,sl af o.2.2.1,sl cS o.2.2.2.1,.int .i64 o.2.2.2.2.1,.str o.2.2.2.2.2.1,.int .i64 o.2.2.2.2.2.2.1,sl ac o.2.2.2.2.2.2.2.1,sl ac o.2.2.2.2.2.2.2.2] [(2,30),(8,28)]] []
def sn:Option (Int⊕(Int×ai×waC×waB×Int×ai×Int×waA×waA)):=
 if(t.Op==2)=true then
  some (.inl 18)
 else
  (sq t.Op).bind fun o5=>
  if o5=true then
   some (.inl 10)
  else
   (nZ t).bind fun r8=>
   some (.inr (r8.Op,r8.Name,r8.Args,r8.Names,r8.Pred.Op,r8.Pred.Name,r8.Pred.N,r8.Pred.Kids,r8.Preds))
theorem nY{x:Int⊕(Int×ai×waC×waB×Int×ai×Int×waA×waA)}(h:sn t=some x):aC Pg GE 0 (cA Ol 14) (EX (hO x) (d6 name t m m2 x)) (yP name t m m2):=by
 have p2:=fun{sc F} (r:PS sc F)=>sv (aH t)<|sv (aJ t)<|r
 rcases aT h with⟨c1,h⟩|⟨c1,h⟩
 ·obtain rfl:=lf h
  exact ct LR (p2<|sg 0 c1<|eF (hO (.inl 18)) (d6 name t m m2 (.inl 18)))<|by kernel_rfl
 ·obtain⟨o5,bo5,h⟩:=av h
  have p7:=fun{sc F} (r:PS sc F)=>p2<|sg 0 c1<|mG 0<|cC (xl name t t.Op m m2 bo5)<|r
  rcases aT h with⟨c6,h⟩|⟨c6,h⟩
  ·obtain rfl:=lf h
   exact ct LR (p7<|sg 0 c6<|eF (hO (.inl 10)) (d6 name t m m2 (.inl 10)))<|by kernel_rfl
  ·obtain⟨r8,br8,h⟩:=av h
   obtain rfl:=lf h
   exact ct LR (p7<|sg 0 c6<|sv (bA t)<|bg (pe br8)<|sy (aO r8)<|eF (hO (.inr (r8.Op,r8.Name,r8.Args,r8.Names,r8.Pred.Op,r8.Pred.Name,r8.Pred.N,r8.Pred.Kids,r8.Preds))) (d6 name t m m2 (.inr (r8.Op,r8.Name,r8.Args,r8.Names,r8.Pred.Op,r8.Pred.Name,r8.Pred.N,r8.Pred.Kids,r8.Preds))))<|by kernel_rfl
end
def yO(t:ae)(name:ai):Option ae:=
 (sn t).bind fun o9=>match o9 with
 |(.inl o9)=>
  (AC t (⟨o9,([]:ai),0,([(⟨3,([118]:ai),0,([]:List aa)⟩:aa),(⟨3,name,0,([]:List aa)⟩:aa)]:List aa)⟩:aa)).bind fun r10=>
  some r10
 |(.inr o9)=>
  some (⟨o9.1,o9.2.1,o9.2.2.1,o9.2.2.2.1,(⟨o9.2.2.2.2.1,o9.2.2.2.2.2.1,o9.2.2.2.2.2.2.1,o9.2.2.2.2.2.2.2.1⟩:aa),o9.2.2.2.2.2.2.2.2⟩:ae)
theorem Bx{t:ae}{name:ai}{r:ae}(h:yO t name=some r):CC Pg GE 25 [.agg (af t),.str name] (.agg (af r)) [(2,30),(8,28)]:=by
 obtain⟨o9,bo9,h⟩:=av h
 rcases o9 with o9|o9
 ·obtain⟨r10,br10,h⟩:=av h
  obtain rfl:=lf h
  have z:=se (bY t)<|sx io<|mG 1<|cC (e:=.normal) (s1:=d6 name t ([]:List ae) ([]:List aa) (.inl o9)) (nY name t ([]:List ae) ([]:List aa) bo9)<|sv (bA t)<|sb (mS 3 ([118]:ai)) (mP 3 ([118]:ai))<|sb (mS 3 name) (mP 3 name)<|sv (aQ.mk' (v:=b9) aV ([(⟨3,([118]:ai),0,([]:List aa)⟩:aa),(⟨3,name,0,([]:List aa)⟩:aa)]:List aa) 2 (by kernel_rfl))<|sv (mU o9 ([(⟨3,([118]:ai),0,([]:List aa)⟩:aa),(⟨3,name,0,([]:List aa)⟩:aa)]:List aa))<|bg (C9 br10)<|sy (aO r10)<|en (aI (cG r10)<|aI (al r10)<|rT)
  exact cb LR call25 func25 (c:=Ol) rfl (aI (al t) (aI trivial trivial)) z<|by kernel_rfl
 ·obtain rfl:=lf h
  have z:=se (bY t)<|sx io<|mG 1<|cC (e:=.ret) (s1:=d6 name t ([]:List ae) ([]:List aa) (.inr o9)) (nY name t ([]:List ae) ([]:List aa) bo9)<|en (aI (cG (⟨o9.1,o9.2.1,o9.2.2.1,o9.2.2.2.1,(⟨o9.2.2.2.2.1,o9.2.2.2.2.2.1,o9.2.2.2.2.2.2.1,o9.2.2.2.2.2.2.2.1⟩:aa),o9.2.2.2.2.2.2.2.2⟩:ae))<|aI (al (⟨o9.1,o9.2.1,o9.2.2.1,o9.2.2.2.1,(⟨o9.2.2.2.2.1,o9.2.2.2.2.2.1,o9.2.2.2.2.2.2.1,o9.2.2.2.2.2.2.2.1⟩:aa),o9.2.2.2.2.2.2.2.2⟩:ae))<|rT)
  exact cb LR call25 func25 (c:=Ol) rfl (aI (al t) (aI trivial trivial)) z<|by kernel_rfl
abbrev lG:=(ae->Option Int)
abbrev pr(R:lG):Prop:=∀(t:ae) (r:Int),R t=some r->CC Pg GE 112 [.agg (af t)] (.int .i64 r) []
noncomputable def Mt:Code:=f112.body.getD .skip
def Mf:List Nat:=[]
section
variable(R45:lG)(t7:waC)(t8:Int)(n:Int)(t9:Int)
def f7:aq:=aP 20 [(3,.int .i64 n),(7,sl af t7),(8,.int .i64 t8),(9,.int .i64 t9)] [.dead] []
def lB(o:Int):aq:=aP 20 [(3,.int .i64 o)] [.dead] []
def qF:Option ((Int×Int)⊕(Int)):=
 if(decide (t9<t8))=true then
  (eh t7 t9).bind fun x2=>
  (R45 x2).bind fun r3=>
  some (.inl ((if r3>n then r3 else n),cf (t9+1)))
 else
  some (.inr n)
def uq:Option Int:=loop (fun(zz:Int×Int)=>qF R45 t7 t8 zz.1 zz.2) (n,t9)
theorem xr(hR45:pr R45){y:(Int×Int)⊕(Int)}(h:qF R45 t7 t8 n t9=some y):aC Pg GE 0 (cA Mt 119) (LQ (fun(zz:Int×Int)=>f7 t7 t8 zz.1 zz.2) (fun _=>.exit 0) lB y) (f7 t7 t8 n t9):=by
 rcases aT h with⟨c1,h⟩|⟨c1,h⟩
 ·obtain⟨x2,bx2,h⟩:=av h
  obtain⟨r3,br3,h⟩:=av h
  obtain rfl:=lf h
  have z:=sg 0 c1<|sv (dF.ia (k:=.i64) bx2)<|sv (bA x2)<|sx io<|sx (cB x2)<|sv (bk x2 [])<|bg (hR45 _ _ br3)<|jw 0 .normal (f7 t7 t8 (if r3>n then r3 else n) (cf (t9+1))) rfl (bS (aI trivial (aI (up (ak al t7)) (aI trivial (aI trivial trivial))))) (aI trivial trivial)
  exact cd (A:=Mf) mixed z<|by kernel_rfl
 ·obtain rfl:=lf h
  have z:=sg 0 c1<|eF (.exit 0) (lB n)
  exact gZ Mf (by intro hx;cases hx) z<|by kernel_rfl
theorem y5(hR45:pr R45){x:Int}(h:uq R45 t7 t8 n t9=some x):aC Pg GE 0 (.loop (cA Mt 119)) (EX (.exit 0) (lB x)) (f7 t7 t8 n t9):=
 aC.loop (S:=fun(zz:Int×Int)=>f7 t7 t8 zz.1 zz.2) (ex:=(fun _=>.exit 0)) (s:=(n,t9)) h fun zz y hy=>xr R45 t7 t8 zz.1 zz.2 hR45 hy
end
def wa(R45:lG)(t:ae):Option Int:=
 (uq R45 t.Args (t.Args.length:Int) 0 0).bind fun o4=>
 some (cf (o4+1))
theorem BA(R45:lG)(hR45:pr R45){t:ae}{r:Int}(h:wa R45 t=some r):CC Pg GE 112 [.agg (af t)] (.int .i64 r) []:=by
 obtain⟨o4,bo4,h⟩:=av h
 obtain rfl:=lf h
 have z:=se (bY t)<|sv (aL t)<|sv (aM t)<|cx (dF.ln t.Args)<|cC (y5 R45 t.Args (t.Args.length:Int) 0 0 hR45 bo4)<|en (aI (rP (.int .i64 (cf (o4+1))))<|trivial)
 exact cb Mf call112 func112 (c:=Mt) rfl (aI (al t) trivial) z<|by kernel_rfl
def wb:(ae->Option Int)->(ae)->Option Int:=fun(rec:ae->Option Int) (x:ae)=>wa (fun t=>rec t) x
def AH(t:ae):Option Int:=kY wb t
theorem Dq{t:ae}{r:Int}(h:AH t=some r):CC Pg GE 112 [.agg (af t)] (.int .i64 r) []:=
 cw (F:=wb) (M:=fun(x:ae) (r:Int)=>CC Pg GE 112 [.agg (af x)] (.int .i64 r) []) (fun rec hrec x r h=>BA _ (fun t r h=>hrec t r h) h) h
abbrev mL:=(ae->Option Int)
abbrev qM(R:mL):Prop:=∀(t:ae) (r:Int),R t=some r->CC Pg GE 113 [.agg (af t)] (.int .i64 r) []
end Go.Proofs.YtggeppllafbidaaGreatDoor
