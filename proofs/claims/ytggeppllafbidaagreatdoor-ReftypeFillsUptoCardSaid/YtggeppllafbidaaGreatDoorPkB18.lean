/- PROVED: a part of the proof. Conditions: none. -/
import Derived.Test.YtggeppllafbidaaGreatDoorPkB17
import Derived.Test.YtggeppllafbidaaGreatDoorPkB10
import Derived.Test.YtggeppllafbidaaGreatDoorPkB9
noncomputable section
namespace Go.Proofs.YtggeppllafbidaaGreatDoor
open Go Go.Proofs.Tryz
set_option linter.unusedVariables false
set_option maxRecDepth 100000
noncomputable def NJ:Code:=f36.body.getD .skip
def No:List Nat:=[32,49]
section
variable(holes:waE)(v:waD)(t:ae)(t25:waA)(t26:Int)(m:waC)(m2:waA)(m3:Int)(m4:ai)(m5:waB)(m6:Int)(m7:ai)(m8:Int)(m9:waA)(t27:Int)(m10:waA)
def iU:aq:=aP 59 [(1,sl aN holes),(2,sl aS v),(3,.eptr (af t)),(6,.bptr 1 0),(7,.bptr 2 0),(25,sl ac t25),(26,.int .i64 t26),(27,.int .i64 t27)] [.dead,.cells [.int .i64 0,.str ([]:ai),sl af m,sl cS ([]:List ai),.int .i64 0,.str ([]:ai),.int .i64 0,sl ac m2,sl ac m2] [(2,30),(3,9),(7,28),(8,28)],.cells [.int .i64 m3,.str m4,sl af m,sl cS m5,.int .i64 m6,.str m7,.int .i64 m8,sl ac m9,sl ac m10] [(2,30),(8,28)]] []
def px(o:waA):aq:=aP 59 [(1,sl aN holes),(2,sl aS v),(3,.eptr (af t)),(6,.bptr 1 0),(7,.bptr 2 0)] [.dead,.cells [.int .i64 0,.str ([]:ai),sl af m,sl cS ([]:List ai),.int .i64 0,.str ([]:ai),.int .i64 0,sl ac m2,sl ac m2] [(2,30),(3,9),(7,28),(8,28)],.cells [.int .i64 m3,.str m4,sl af m,sl cS m5,.int .i64 m6,.str m7,.int .i64 m8,sl ac m9,sl ac o] [(2,30),(8,28)]] []
def vb:Option ((Int×waA)⊕(waA)):=
 if(decide (t27<t26))=true then
  (eh t25 t27).bind fun x3=>
  (s9 x3 holes v).bind fun r4=>
  (app m10 ([r4]:List aa)).bind fun l5=>
  some (.inl (cf (t27+1),l5))
 else
  some (.inr m10)
def tg:Option waA:=loop (fun(zz:Int×waA)=>vb holes v t25 t26 zz.1 zz.2) (t27,m10)
theorem AT{y:(Int×waA)⊕(waA)}(h:vb holes v t25 t26 t27 m10=some y):aC Pg GE 0 (cA NJ 119) (LQ (fun(zz:Int×waA)=>iU holes v t t25 t26 m m2 m3 m4 m5 m6 m7 m8 m9 zz.1 zz.2) (fun _=>.exit 0) (px holes v t m m2 m3 m4 m5 m6 m7 m8 m9) y) (iU holes v t t25 t26 m m2 m3 m4 m5 m6 m7 m8 m9 t27 m10):=by
 rcases aT h with⟨c2,h⟩|⟨c2,h⟩
 ·obtain⟨x3,bx3,h⟩:=av h
  obtain⟨r4,br4,h⟩:=av h
  obtain⟨l5,bl5,h⟩:=av h
  obtain rfl:=lf h
  have z:=sg 0 c2<|sv (aQ.ia (k:=.i64) bx3)<|sv (aB x3)<|sx dB<|sx (aW x3)<|ue [0,1,0,0,0,28,60,127,255,511]<|sv (aD x3 [])<|bg (Aj br4)<|sv (aQ.mk' (v:=b9) aV ([r4]:List aa) 1 (by kernel_rfl))<|sv (aQ.ap bl5)<|KS (rfl:bZ (sl ac l5)=some [sl ac l5])<|jw 0 .normal (iU holes v t t25 t26 m m2 m3 m4 m5 m6 m7 m8 m9 (cf (t27+1)) l5) rfl (bS (aI (up (ak bT holes)) (aI (up (ak cj v)) (aI (eu (al t)) (aI (co rfl) (aI (co rfl) (aI (up (ak ag t25)) (aI trivial (aI trivial trivial))))))))) (aI trivial (aI (aI trivial (aI trivial (aI (up (ak al m)) (aI (up (ak hZ ([]:List ai))) (aI trivial (aI trivial (aI trivial (aI (up (ak ag m2)) (aI (up (ak ag m2)) trivial))))))))) (aI (aI trivial (aI trivial (aI (up (ak al m)) (aI (up (ak hZ m5)) (aI trivial (aI trivial (aI trivial (aI (up (ak ag m9)) (aI (up (ak ag l5)) trivial))))))))) trivial)))
  exact cd (A:=No) mixed z<|by kernel_rfl
 ·obtain rfl:=lf h
  have z:=sg 0 c2<|eF (.exit 0) (px holes v t m m2 m3 m4 m5 m6 m7 m8 m9 m10)
  exact gZ No (by intro hx;cases hx) z<|by kernel_rfl
theorem BV{x:waA}(h:tg holes v t25 t26 t27 m10=some x):aC Pg GE 0 (.loop (cA NJ 119)) (EX (.exit 0) (px holes v t m m2 m3 m4 m5 m6 m7 m8 m9 x)) (iU holes v t t25 t26 m m2 m3 m4 m5 m6 m7 m8 m9 t27 m10):=
 aC.loop (S:=fun(zz:Int×waA)=>iU holes v t t25 t26 m m2 m3 m4 m5 m6 m7 m8 m9 zz.1 zz.2) (ex:=(fun _=>.exit 0)) (s:=(t27,m10)) h fun zz y hy=>AT holes v t t25 t26 m m2 m3 m4 m5 m6 m7 m8 m9 zz.1 zz.2 hy
end
section
variable(R144:qX)(holes:waE)(v:waD)(t42:waC)(t43:Int)(m:waC)(m2:waA)(m3:Int)(m4:ai)(m6:waB)(m7:Int)(m8:ai)(m9:Int)(m10:waA)(m11:waA)(t44:Int)(m5:waC)
def iV:aq:=aP 59 [(1,sl aN holes),(2,sl aS v),(6,.bptr 1 0),(7,.bptr 2 0),(42,sl af t42),(43,.int .i64 t43),(44,.int .i64 t44)] [.dead,.cells [.int .i64 0,.str ([]:ai),sl af m,sl cS ([]:List ai),.int .i64 0,.str ([]:ai),.int .i64 0,sl ac m2,sl ac m2] [(2,30),(3,9),(7,28),(8,28)],.cells [.int .i64 m3,.str m4,sl af m5,sl cS m6,.int .i64 m7,.str m8,.int .i64 m9,sl ac m10,sl ac m11] [(2,30),(8,28)]] []
def py(o:waC):aq:=aP 59 [(6,.bptr 1 0),(7,.bptr 2 0)] [.dead,.cells [.int .i64 0,.str ([]:ai),sl af m,sl cS ([]:List ai),.int .i64 0,.str ([]:ai),.int .i64 0,sl ac m2,sl ac m2] [(2,30),(3,9),(7,28),(8,28)],.cells [.int .i64 m3,.str m4,sl af o,sl cS m6,.int .i64 m7,.str m8,.int .i64 m9,sl ac m10,sl ac m11] [(2,30),(8,28)]] []
def vd:Option ((Int×waC)⊕(waC)):=
 if(decide (t44<t43))=true then
  (eh t42 t44).bind fun x8=>
  (R144 x8 holes v).bind fun r9=>
  (app m5 ([r9]:List ae)).bind fun l10=>
  some (.inl (cf (t44+1),l10))
 else
  some (.inr m5)
def th:Option waC:=loop (fun(zz:Int×waC)=>vd R144 holes v t42 t43 zz.1 zz.2) (t44,m5)
theorem AU(hR144:wr R144){y:(Int×waC)⊕(waC)}(h:vd R144 holes v t42 t43 t44 m5=some y):aC Pg GE 0 (cA NJ 247) (LQ (fun(zz:Int×waC)=>iV holes v t42 t43 m m2 m3 m4 m6 m7 m8 m9 m10 m11 zz.1 zz.2) (fun _=>.exit 2) (py m m2 m3 m4 m6 m7 m8 m9 m10 m11) y) (iV holes v t42 t43 m m2 m3 m4 m6 m7 m8 m9 m10 m11 t44 m5):=by
 rcases aT h with⟨c7,h⟩|⟨c7,h⟩
 ·obtain⟨x8,bx8,h⟩:=av h
  obtain⟨r9,br9,h⟩:=av h
  obtain⟨l10,bl10,h⟩:=av h
  obtain rfl:=lf h
  have z:=sg 0 c7<|sv (dF.ia (k:=.i64) bx8)<|sv (bA x8)<|sx io<|sx (cB x8)<|ue [0,1,0,0,0,28,60,127,255,511]<|sv (bk x8 [])<|bg (hR144 _ _ _ _ br9)<|sv (dF.mk' (v:=pp) li ([r9]:List ae) 1 (by kernel_rfl))<|sv (dF.ap bl10)<|KS (rfl:bZ (sl af l10)=some [sl af l10])<|jw 0 .normal (iV holes v t42 t43 m m2 m3 m4 m6 m7 m8 m9 m10 m11 (cf (t44+1)) l10) rfl (bS (aI (up (ak bT holes)) (aI (up (ak cj v)) (aI (co rfl) (aI (co rfl) (aI (up (ak al t42)) (aI trivial (aI trivial trivial)))))))) (aI trivial (aI (aI trivial (aI trivial (aI (up (ak al m)) (aI (up (ak hZ ([]:List ai))) (aI trivial (aI trivial (aI trivial (aI (up (ak ag m2)) (aI (up (ak ag m2)) trivial))))))))) (aI (aI trivial (aI trivial (aI (up (ak al l10)) (aI (up (ak hZ m6)) (aI trivial (aI trivial (aI trivial (aI (up (ak ag m10)) (aI (up (ak ag m11)) trivial))))))))) trivial)))
  exact cd (A:=No) mixed z<|by kernel_rfl
 ·obtain rfl:=lf h
  have z:=sg 0 c7<|eF (.exit 2) (py m m2 m3 m4 m6 m7 m8 m9 m10 m11 m5)
  exact gZ No (by intro hx;cases hx) z<|by kernel_rfl
theorem BW(hR144:wr R144){x:waC}(h:th R144 holes v t42 t43 t44 m5=some x):aC Pg GE 0 (.loop (cA NJ 247)) (EX (.exit 2) (py m m2 m3 m4 m6 m7 m8 m9 m10 m11 x)) (iV holes v t42 t43 m m2 m3 m4 m6 m7 m8 m9 m10 m11 t44 m5):=
 aC.loop (S:=fun(zz:Int×waC)=>iV holes v t42 t43 m m2 m3 m4 m6 m7 m8 m9 m10 m11 zz.1 zz.2) (ex:=(fun _=>.exit 2)) (s:=(t44,m5)) h fun zz y hy=>AU R144 holes v t42 t43 m m2 m3 m4 m6 m7 m8 m9 m10 m11 zz.1 zz.2 hR144 hy
end
def qT(R144:qX)(t:ae)(holes:waE)(a:waD):Option ae:=
 (s9 t.Pred holes a).bind fun r1=>
 (tg holes a t.Preds (t.Preds.length:Int) 0 ([]:List aa)).bind fun o6=>
 (th R144 holes a t.Args (t.Args.length:Int) 0 ([]:List ae)).bind fun o11=>
 some (⟨t.Op,t.Name,o11,t.Names,r1,o6⟩:ae)
theorem EP(R144:qX)(hR144:wr R144){t:ae}{holes:waE}{a:waD}{r:ae}(h:qT R144 t holes a=some r):CC Pg GE 36 [.agg (af t),sl aN holes,sl aS a] (.agg (af r)) [(2,30),(8,28)]:=by
 obtain⟨r1,br1,h⟩:=av h
 obtain⟨o6,bo6,h⟩:=av h
 obtain⟨o11,bo11,h⟩:=av h
 obtain rfl:=lf h
 have z:=se (bY t)<|sx io<|ue [0,1,0,4,0,16,0,64,0,0,960,2047,0,8191]<|sv (aH t)<|sv (aJ t)<|sv (cF t)<|sv (cO t)<|sv (aY t)<|sv (aZ t)<|sv (bw t)<|sv (bz t)<|bg (Aj br1)<|sb (pX t.Op t.Name t.Names r1) (pW t.Op t.Name t.Names r1)<|KF (cB (⟨t.Op,t.Name,([]:List ae),t.Names,r1,([]:List aa)⟩:ae))<|sv (bp t)<|sv (bu t)<|cx (aQ.ln t.Preds)<|cC (BV holes a t t.Preds (t.Preds.length:Int) ([]:List ae) ([]:List aa) t.Op t.Name t.Names r1.Op r1.Name r1.N r1.Kids 0 ([]:List aa) bo6)<|sv (aL t)<|sv (aM t)<|cx (dF.ln t.Args)<|cC (BW R144 holes a t.Args (t.Args.length:Int) ([]:List ae) ([]:List aa) t.Op t.Name t.Names r1.Op r1.Name r1.N r1.Kids o6 0 ([]:List ae) hR144 bo11)<|sz (bk (⟨t.Op,t.Name,o11,t.Names,r1,o6⟩:ae) [])<|sy (aO (⟨t.Op,t.Name,o11,t.Names,r1,o6⟩:ae))<|en (aI (cG (⟨t.Op,t.Name,o11,t.Names,r1,o6⟩:ae))<|aI (al (⟨t.Op,t.Name,o11,t.Names,r1,o6⟩:ae))<|rT)
 exact cb No call36 func36 (c:=NJ) rfl (aI (al t) (aI (ak bT holes) (aI (ak cj a) trivial))) z<|by kernel_rfl
def wy:((ae×waE×waD)->Option ae)->(ae×waE×waD)->Option ae:=fun(rec:(ae×waE×waD)->Option ae) (x:ae×waE×waD)=>qT (fun t holes a=>rec (t,holes,a)) x.1 x.2.1 x.2.2
def BU(t:ae)(holes:waE)(a:waD):Option ae:=kY wy (t,holes,a)
theorem FL{t:ae}{holes:waE}{a:waD}{r:ae}(h:BU t holes a=some r):CC Pg GE 36 [.agg (af t),sl aN holes,sl aS a] (.agg (af r)) [(2,30),(8,28)]:=
 cw (F:=wy) (M:=fun(x:ae×waE×waD) (r:ae)=>CC Pg GE 36 [.agg (af x.1),sl aN x.2.1,sl aS x.2.2] (.agg (af r)) [(2,30),(8,28)]) (fun rec hrec x r h=>EP _ (fun t holes a r h=>hrec (t,holes,a) r h) h) h
noncomputable def b6:Code:=Tryz.f6.body.getD .skip
def A6:List Nat:=[]
section
variable(holes:waE)(v:waD)(t:ae)
def sH:aq:=aP 67 [(1,sl aN holes),(2,sl aS v),(3,.eptr (af t))] [.dead] []
def dv(o:Bool):aq:=aP 67 [(1,sl aN holes),(2,sl aS v),(3,.eptr (af t)),(29,.bool o)] [.dead] []
def fE:Option Bool:=
 (ET ([t]:List ae)).bind fun r1=>
 if(!r1)=true then
  some true
 else
  if(decide ((holes.length:Int)>8))=true then
   some true
  else
   if(decide ((v.length:Int)>8))=true then
    some true
   else
    (B3 t).bind fun r8=>
    some (!r8)
theorem ra{x:Bool}(h:fE holes v t=some x):aC Pg GE 0 (cA b6 12) (EX .normal (dv holes v t x)) (sH holes v t):=by
 obtain⟨r1,br1,h⟩:=av h
 have p3:=fun{sc F} (r:PS sc F)=>sv (bA t)<|sv (dF.mk' (v:=pp) li ([t]:List ae) 1 (by kernel_rfl))<|bg (G0 br1)<|r
 rcases aT h with⟨c2,h⟩|⟨c2,h⟩
 ·obtain rfl:=lf h
  exact ct A6 (p3<|sg 5 c2<|eF .normal (dv holes v t true))<|by kernel_rfl
 ·have p5:=fun{sc F} (r:PS sc F)=>p3<|sg 5 c2<|cx (Dg.ln holes)<|r
  rcases aT h with⟨c4,h⟩|⟨c4,h⟩
  ·obtain rfl:=lf h
   exact ct A6 (p5<|sg 10 c4<|eF .normal (dv holes v t true))<|by kernel_rfl
  ·have p7:=fun{sc F} (r:PS sc F)=>p5<|sg 10 c4<|cx (D0.ln v)<|r
   rcases aT h with⟨c6,h⟩|⟨c6,h⟩
   ·obtain rfl:=lf h
    exact ct A6 (p7<|sg 15 c6<|eF .normal (dv holes v t true))<|by kernel_rfl
   ·obtain⟨r8,br8,h⟩:=av h
    obtain rfl:=lf h
    exact ct A6 (p7<|sg 15 c6<|sv (bA t)<|bg (FO br8)<|eF .normal (dv holes v t (!r8)))<|by kernel_rfl
end
section
variable(holes:waE)(v:waD)(t:ae)(t32:Int)(t33:Int)
def dw:aq:=aP 67 [(1,sl aN holes),(2,sl aS v),(3,.eptr (af t)),(31,sl aN holes),(32,.int .i64 t32),(33,.int .i64 t33)] [.dead] []
def dy(o:Bool⊕(Unit)):Exit:=match o with
 |(.inl _)=>.ret
 |(.inr _)=>.exit 0
def cu(o:Bool⊕(Unit)):aq:=match o with
 |(.inl o)=>aP 67 [(6,.bool o)] [.dead] []
 |(.inr o)=>aP 67 [(1,sl aN holes),(2,sl aS v),(3,.eptr (af t))] [.dead] []
def kK:Option (Int⊕(Bool⊕(Unit))):=
 if(decide (t33<t32))=true then
  (eh holes t33).bind fun x14=>
  if(decide ((x14.Params.length:Int)>10))=true then
   nf.bind fun r17=>
   some (.inr (.inl r17))
  else
   some (.inl (cf (t33+1)))
 else
  some (.inr (.inr ()))
def iE:Option (Bool⊕(Unit)):=loop (fun(zz:Int)=>kK holes t32 zz) t33
theorem pS{y:Int⊕(Bool⊕(Unit))}(h:kK holes t32 t33=some y):aC Pg GE 0 (cA b6 119) (LQ (fun(zz:Int)=>dw holes v t t32 zz) dy (cu holes v t) y) (dw holes v t t32 t33):=by
 rcases aT h with⟨c13,h⟩|⟨c13,h⟩
 ·obtain⟨x14,bx14,h⟩:=av h
  have p16:=fun{sc F} (r:PS sc F)=>sg 0 c13<|sv (Dg.ia (k:=.i64) bx14)<|sv (Cu x14)<|sx MP<|sx (zJ x14)<|ss<|cx (Ji.ln x14.Params)<|r
  rcases aT h with⟨c15,h⟩|⟨c15,h⟩
  ·obtain⟨r17,br17,h⟩:=av h
   obtain rfl:=lf h
   have z:=p16<|sg 0 c15<|bg (mN br17)<|jw 0 (dy (.inl r17)) (cu holes v t (.inl r17)) rfl (bS (aI trivial trivial)) (aI trivial trivial)
   exact gg (A:=A6) mixed (by intro hx;cases hx) z<|by kernel_rfl
  ·obtain rfl:=lf h
   have z:=p16<|sg 0 c15<|jw 0 .normal (dw holes v t t32 (cf (t33+1))) rfl (bS (aI (up (ak bT holes)) (aI (up (ak cj v)) (aI (eu (al t)) (aI (up (ak bT holes)) (aI trivial (aI trivial trivial))))))) (aI trivial trivial)
   exact cd (A:=A6) mixed z<|by kernel_rfl
 ·obtain rfl:=lf h
  have z:=sg 0 c13<|eF (dy (.inr ())) (cu holes v t (.inr ()))
  exact gZ A6 (by intro hx;cases hx) z<|by kernel_rfl
theorem gb{x:Bool⊕(Unit)}(h:iE holes t32 t33=some x):aC Pg GE 0 (.loop (cA b6 119)) (EX (dy x) (cu holes v t x)) (dw holes v t t32 t33):=
 aC.loop (S:=fun(zz:Int)=>dw holes v t t32 zz) (ex:=dy) (s:=t33) h fun zz y hy=>pS holes v t t32 zz hy
end
section
variable(holes:waE)(v:waD)(t:ae)(t44:Int)(t45:Int)
def dz:aq:=aP 67 [(1,sl aN holes),(2,sl aS v),(3,.eptr (af t)),(43,sl aS v),(44,.int .i64 t44),(45,.int .i64 t45)] [.dead] []
def dA(o:Bool⊕(Unit)):Exit:=match o with
 |(.inl _)=>.ret
 |(.inr _)=>.exit 2
def cJ(o:Bool⊕(Unit)):aq:=match o with
 |(.inl o)=>aP 67 [(6,.bool o)] [.dead] []
 |(.inr o)=>aP 67 [(1,sl aN holes),(2,sl aS v),(3,.eptr (af t))] [.dead] []
def kL:Option (Int⊕(Bool⊕(Unit))):=
 if(decide (t45<t44))=true then
  (eh v t45).bind fun x20=>
  (nd x20.Pred).bind fun r21=>
  if(decide (r21>10))=true then
   nf.bind fun r24=>
   some (.inr (.inl r24))
  else
   some (.inl (cf (t45+1)))
 else
  some (.inr (.inr ()))
def iF:Option (Bool⊕(Unit)):=loop (fun(zz:Int)=>kL v t44 zz) t45
theorem pT{y:Int⊕(Bool⊕(Unit))}(h:kL v t44 t45=some y):aC Pg GE 0 (cA b6 247) (LQ (fun(zz:Int)=>dz holes v t t44 zz) dA (cJ holes v t) y) (dz holes v t t44 t45):=by
 rcases aT h with⟨c19,h⟩|⟨c19,h⟩
 ·obtain⟨x20,bx20,h⟩:=av h
  obtain⟨r21,br21,h⟩:=av h
  have p23:=fun{sc F} (r:PS sc F)=>sg 0 c19<|sv (D0.ia (k:=.i64) bx20)<|sv (Fg x20)<|sx MQ<|sx (CI x20)<|sv (aD x20.Pred [])<|bg (mH br21)<|r
  rcases aT h with⟨c22,h⟩|⟨c22,h⟩
  ·obtain⟨r24,br24,h⟩:=av h
   obtain rfl:=lf h
   have z:=p23<|sg 0 c22<|bg (mN br24)<|jw 0 (dA (.inl r24)) (cJ holes v t (.inl r24)) rfl (bS (aI trivial trivial)) (aI trivial trivial)
   exact gg (A:=A6) mixed (by intro hx;cases hx) z<|by kernel_rfl
  ·obtain rfl:=lf h
   have z:=p23<|sg 0 c22<|jw 0 .normal (dz holes v t t44 (cf (t45+1))) rfl (bS (aI (up (ak bT holes)) (aI (up (ak cj v)) (aI (eu (al t)) (aI (up (ak cj v)) (aI trivial (aI trivial trivial))))))) (aI trivial trivial)
   exact cd (A:=A6) mixed z<|by kernel_rfl
 ·obtain rfl:=lf h
  have z:=sg 0 c19<|eF (dA (.inr ())) (cJ holes v t (.inr ()))
  exact gZ A6 (by intro hx;cases hx) z<|by kernel_rfl
theorem j8{x:Bool⊕(Unit)}(h:iF v t44 t45=some x):aC Pg GE 0 (.loop (cA b6 247)) (EX (dA x) (cJ holes v t x)) (dz holes v t t44 t45):=
 aC.loop (S:=fun(zz:Int)=>dz holes v t t44 zz) (ex:=dA) (s:=t45) h fun zz y hy=>pT holes v t t44 zz hy
end
def kU(t:ae)(holes:waE)(a:waD):Option Bool:=
 (fE holes a t).bind fun o9=>
 if o9=true then
  nf.bind fun r12=>
  some r12
 else
  (iE holes (holes.length:Int) 0).bind fun o18=>match o18 with
  |(.inl o18)=>
   some o18
  | (.inr o18) =>
   (iF a (a.length:Int) 0).bind fun o25=>match o25 with
   |(.inl o25)=>
    some o25
   | (.inr o25) =>
    (rJ t holes a).bind fun r26=>
    (BU t holes a).bind fun r27=>
    (lO r26 r27).bind fun r28=>
    if r28=true then
     nf.bind fun r31=>
     some r31
    else
     some false
theorem uQ{t:ae}{holes:waE}{a:waD}{r:Bool}(h:kU t holes a=some r):CC Pg GE 6 [.agg (af t),sl aN holes,sl aS a] (.bool r) []:=by
 obtain⟨o9,bo9,h⟩:=av h
 have p11:=fun{sc F} (r:PS sc F)=>se (bY t)<|mG 1<|cC (ra holes a t bo9)<|r
 rcases aT h with⟨c10,h⟩|⟨c10,h⟩
 ·obtain⟨r12,br12,h⟩:=av h
  obtain rfl:=lf h
  have z:=p11<|sg 0 c10<|bg (mN br12)<|en (aI (rP (.bool r12))<|trivial)
  exact cb A6 call6 func6 (c:=b6) rfl (aI (al t) (aI (ak bT holes) (aI (ak cj a) trivial))) z<|by kernel_rfl
 ·obtain⟨o18,bo18,h⟩:=av h
  rcases o18 with o18|o18
  ·obtain rfl:=lf h
   have z:=p11<|sg 0 c10<|cx (Dg.ln holes)<|cC (e:=.ret) (s1:=cu holes a t (.inl o18)) (gb holes a t (holes.length:Int) 0 bo18)<|en (aI (rP (.bool o18))<|trivial)
   exact cb A6 call6 func6 (c:=b6) rfl (aI (al t) (aI (ak bT holes) (aI (ak cj a) trivial))) z<|by kernel_rfl
  ·obtain⟨o25,bo25,h⟩:=av h
   rcases o25 with o25|o25
   ·obtain rfl:=lf h
    have z:=p11<|sg 0 c10<|cx (Dg.ln holes)<|cC (e:=.exit 0) (s1:=cu holes a t (.inr o18)) (gb holes a t (holes.length:Int) 0 bo18)<|cx (D0.ln a)<|cC (e:=.ret) (s1:=cJ holes a t (.inl o25)) (j8 holes a t (a.length:Int) 0 bo25)<|en (aI (rP (.bool o25))<|trivial)
    exact cb A6 call6 func6 (c:=b6) rfl (aI (al t) (aI (ak bT holes) (aI (ak cj a) trivial))) z<|by kernel_rfl
   ·obtain⟨r26,br26,h⟩:=av h
    obtain⟨r27,br27,h⟩:=av h
    obtain⟨r28,br28,h⟩:=av h
    have p30:=fun{sc F} (r:PS sc F)=>p11<|sg 0 c10<|cx (Dg.ln holes)<|cC (e:=.exit 0) (s1:=cu holes a t (.inr o18)) (gb holes a t (holes.length:Int) 0 bo18)<|cx (D0.ln a)<|cC (e:=.exit 2) (s1:=cJ holes a t (.inr o25)) (j8 holes a t (a.length:Int) 0 bo25)<|ue [0,0,0,7,0,0,0,127,255,511,1023,2047,4095]<|sv (bA t)<|bg (Bw br26)<|sv (bA t)<|bg (FL br27)<|bg (lP br28)<|r
    rcases aT h with⟨c29,h⟩|⟨c29,h⟩
    ·obtain⟨r31,br31,h⟩:=av h
     obtain rfl:=lf h
     have z:=p30<|sg 10 c29<|bg (mN br31)<|en (aI (rP (.bool r31))<|trivial)
     exact cb A6 call6 func6 (c:=b6) rfl (aI (al t) (aI (ak bT holes) (aI (ak cj a) trivial))) z<|by kernel_rfl
    ·obtain rfl:=lf h
     have z:=p30<|sg 10 c29<|en (aI (rP (.bool false))<|trivial)
     exact cb A6 call6 func6 (c:=b6) rfl (aI (al t) (aI (ak bT holes) (aI (ak cj a) trivial))) z<|by kernel_rfl
open Go
theorem GL{α β X:Type}(g:α->β)(e:List β->X):∀(l:List α) (i:Nat) (s:List β),ud (fun _ x (s:List β)=>(Sum.inl (s++[g x]):List β⊕X)) e l i s=e (s++l.map g)
 |[],i,s=>by simp[ud]
 |x::l,i,s=>by
  unfold ud
  simp only
  rw[GL g e l (i+1) (s++[g x])]
  simp
theorem Gk{α β τ X:Type}(l:List α)(hl:l.length<9223372036854775808)(mk:Int->List β->τ)(body:τ->Option (τ⊕X))(g:α->β)(e:List β->X)
  (hin:∀(i:Nat) (h:i<l.length) s,s.length=i->body (mk i s)=some (.inl (mk (cf ((i:Int)+1)) (s++[g l[i]])))) (hend:∀s,body (mk l.length s)=some (.inr (e s))):loop body (mk 0 [])=some (e (l.map g)):=by
 have:=tC l hl mk body (fun i s=>s.length=i) (fun _ x s=>.inl (s++[g x])) e (fun i h s hs=>⟨hin i h s hs,fun s' hs'=>by cases hs';simp[hs]⟩) (fun s _=>hend s) 0 [] (vaL _) rfl
 rw[GL]at this
 exact this
mutual
def nP:aa->Nat
 |⟨_,_,_,ks⟩=>nL ks+1
def nL:List aa->Nat
 |[]=>0
 |p::ps=>nP p+nL ps
end
theorem Gn(p:aa):nP p=nL p.Kids+1:=by obtain⟨o,n,k,ks⟩:=p;rw[nP];rfl
theorem MM(p:aa):1<=nP p:=by rw[Gn];omega
theorem Fi:∀{l:List aa} {x:aa},x∈l->nP x<=nL l
 | y :: l,x,h => by
  rw[nL]
  rcases vaD.1 h with rfl|h
  ·omega
  ·have:=Fi h;omega
theorem Hu:∀(l:List aa),l.length<=nL l
 |[]=>by simp[nL]
 |p::l=>by rw[nL];have:=Hu l;have:=MM p;simp only[vaS];omega
theorem iG{p x:aa}(h:x∈p.Kids):nP x<nP p:=by rw[Gn p];have:=Fi h;omega
theorem kk(p:aa):p.Kids.length<nP p:=by rw[Gn];have:=Hu p.Kids;omega
theorem zv:∀(a b:List aa),nL (a++b)=nL a+nL b
 |[],b=>by simp[nL]
 |p::a,b=>by rw[vbo,nL,zv a b,nL];omega
mutual
theorem L6:∀(p:aa),nP p<=vQ (ac p)
 |⟨o,n,k,ks⟩=>by
  have:=Gm ks
  rw[nP,ax]
  simp only[vQ,pm,sl]
  show nL ks+1<=1+(n.length+1+(1+(mY (ks.map ac)+1+0)))
  omega
theorem Gm:∀(l:List aa),nL l<=mY (l.map ac)
 |[]=>by simp[nL]
 |p::l=>by
  have:=L6 p
  have:=Gm l
  rw[nL]
  simp only[vaQ,mY]
  omega
end
mutual
def OZ:aa->aa->Bool
 |⟨o,n,k,ks⟩,⟨o',n',k',ks'⟩=>(o==o')&&((n==n')&&((k==k')&&MH ks ks'))
def MH:List aa->List aa->Bool
 |[],[]=>true
 |x::xs,y::ys=>OZ x y&&MH xs ys
 |_,_=>false
end
mutual
theorem HW:∀(a b:aa),OZ a b=true↔a=b
 |⟨o,n,k,ks⟩,⟨o',n',k',ks'⟩=>by
  rw[OZ]
  have:=HV ks ks'
  simp only[vah,vaP,this,aa.mk.injEq]
theorem HV:∀(a b:List aa),MH a b=true↔a=b
 |[],[]=>by simp[MH]
 |x::xs,y::ys=>by
  rw[MH]
  have h1:=HW x y
  have h2:=HV xs ys
  simp only[vah,h1,h2,vbl]
 |[],y::ys=>by simp[MH]
 |x::xs,[]=>by simp[MH]
end
instance:DecidableEq aa:=fun a b=>decidable_of_iff _ (HW a b)
theorem iw(p:aa):(⟨p.Op,p.Name,p.N,p.Kids⟩:aa)=p:=by cases p;rfl
theorem qC{a b:aa}:a=b↔a.Op=b.Op/\a.Name=b.Name/\a.N=b.N/\a.Kids=b.Kids:=by
 cases a;cases b
 simp only[aa.mk.injEq]
 rfl
theorem Ir{α:Type}[DecidableEq α]:∀{a b:List α},a.length=b.length->(a.zip b).any (fun x=>decide (x.1≠x.2))= !decide (a=b)
 |[],[],_=>by simp
 |x::a,y::b,h=>by
  have ih:=Ir (a:=a) (b:=b) (by simpa using h)
  rw[List.zip_cons_cons,List.any_cons,ih]
  by_cases h1:x=y<;>by_cases h2:a=b<;>simp[h1,h2]
theorem Gl{α X:Type}[DecidableEq α]{a b:List α}(hl:a.length=b.length)(ha:a.length<9223372036854775808)(body:Int->Option (Int⊕X))(y e:X)
  (hin:∀(i:Nat) (h:i<a.length) (h':i<b.length),body i=some (if decide (a[i]=b[i])=true then .inl (cf ((i:Int)+1))else .inr y)) (hend:body a.length=some (.inr e)):loop body 0=some (if decide (a=b)=true then e else y):=by
 have hz:(a.zip b).length=a.length:=by simp[hl]
 have:=Gj (a.zip b) (by omega) body (fun x=>decide (x.1≠x.2)) y e (fun i h=>?_) (by rw[hz];exact hend) 0 (vaL _)
 ·rw[vby,Ir hl]at this
  rw[show((0:Nat):Int)=0 from rfl]at this
  rw[this]
  by_cases h:a=b<;>simp[h]
 ·have h1:i<a.length:=by omega
  have h2:i<b.length:=by omega
  rw[hin i h1 h2]
  have hzi:(a.zip b)[i]=(a[i],b[i]):=by simp
  rw[hzi]
  by_cases h:a[i]=b[i]<;>simp[h]
abbrev bC:Nat:=1073741824
theorem jG{n:Nat}(h:n<=bC):n<LU:=by have:=MC;unfold bC at h;omega
theorem JT{R:aa->aa->Option Bool}{a b:List aa}(ha:a.length<=bC)(h:∀x∈a,∀y∈b,R x y=some (decide (x=y))):rF R a b=some (decide (a=b)):=by
 unfold rF
 by_cases hl:a.length=b.length
 ·rw[vav (by simp[hl])]
  unfold pL
  rw[Gl hl (by unfold bC at ha;omega) (fun zz=>gG R a b (a.length:Int) zz) (.inl ()) (.inr ()) (fun i h1 h2=>?_) ?_]
  ·by_cases he:a=b<;>simp[he]
  ·unfold gG
   rw[vav (by simp)]
  ·unfold gG
   rw[var (by simp;omega),dX a i h1]
   simp only[vab]
   rw[dX b i h2]
   simp only[vab]
   rw[h _ (vaC h1) _ (vaC h2)]
   simp only[vab]
   by_cases he:a[i]=b[i]<;>simp[he]
 ·rw[var (by simp;omega)]
  rw[decide_eq_false (fun he=>hl (by rw[he]))]
theorem LD(a b:aa)(ha:nP a<=bC):jV a b=some (decide (a=b)):=by
 refine jx (F:=tR) (fun x=>nP x.1) (fun x=>nP x.1<=bC) (fun x=>decide (x.1=x.2)) (fun R x hx ih=>?_) (a,b) ha (jG ha)
 obtain⟨u,v⟩:=x
 have hx:nP u<=bC:=hx
 show oU (fun a a2=>R (a,a2)) u v=some (decide (u=v))
 unfold oU
 have hk:=kk u
 by_cases h1:u.Op=v.Op
 ·by_cases h2:u.Name=v.Name
  ·by_cases h3:u.N=v.N
   ·rw[var (by simpa using h1),var (by simpa using h2),var (by simpa using h3)]
    rw[JT (a:=u.Kids) (b:=v.Kids) (by omega) (fun x hxa y hyb=>ih (x,y) (iG hxa) (vbO (vay (iG hxa) hx)))]
    simp[qC (a:=u) (b:=v),h1,h2,h3]
   ·rw[var (by simpa using h1),var (by simpa using h2),vav (by simpa using h3)]
    simp[qC (a:=u) (b:=v),h3]
  ·rw[var (by simpa using h1),vav (by simpa using h2)]
   simp[qC (a:=u) (b:=v),h2]
 ·rw[vav (by simpa using h1)]
  simp[qC (a:=u) (b:=v),h1]
theorem IH(p:aa)(hp:nP p<=bC):lY p=some p:=by
 refine jx (F:=lK) nP (fun x=>nP x<=bC) id (fun R x hx ih=>?_) p hp (jG hp)
 unfold lK pK nK
 have hlen:=kk x
 rw[Gk x.Kids (by unfold bC at hx;omega) (fun i s=>(i,s)) _ id id (fun i hi s hs=>?_) (fun s=>?_)]
 ·simp[iw]
 ·unfold iB
  rw[var (by simp;omega),dX x.Kids i hi]
  simp only[vab]
  have hm:=vaC hi
  rw[ih _ (iG hm) (vbO (vay (iG hm) hx))]
  simp only[vab]
  rw[G1 (by unfold bC at hx;simp;omega)]
  rfl
 ·unfold iB
  rw[vav (by simp)]
  rfl
theorem Dc(a b:aa)(hb:nP b<=bC):iQ a b=some (decide (a=b)):=by
 refine jx (F:=wv) (fun x=>nP x.2) (fun x=>nP x.2<=bC) (fun x=>decide (x.1=x.2)) (fun R x hx ih=>?_) (a,b) hb (jG hb)
 obtain⟨u,v⟩:=x
 have hx:nP v<=bC:=hx
 show qR (fun a a2=>R (a,a2)) u v=some (decide (u=v))
 unfold qR tc
 have hk:=kk v
 by_cases h1:u.Op=v.Op
 ·by_cases h2:u.Name=v.Name
  ·by_cases h3:u.N=v.N
   ·by_cases h4:u.Kids.length=v.Kids.length
    ·rw[vav (by simpa using h1),vav (by simpa using h2),vav (by simpa using h3)]
     simp only[h4,bne_self_eq_false,vab,if_false,va9]
     unfold td
     rw[<-h4,Gl h4 (by unfold bC at hx;omega) _ (.inl ()) (.inr ()) (fun i g1 g2=>?_) ?_]
     ·by_cases he:u.Kids=v.Kids<;>simp[he,qC (a:=u) (b:=v),h1,h2,h3]
     ·unfold lE
      rw[vav (by simp)]
     ·unfold lE
      rw[var (by simp;omega),dX u.Kids i g1]
      simp only[vab]
      rw[dX v.Kids i g2]
      simp only[vab]
      have hm:=vaC g2
      rw[ih (u.Kids[i],v.Kids[i]) (iG hm) (vbO (vay (iG hm) hx))]
      by_cases he:u.Kids[i]=v.Kids[i]<;>simp[he]
    ·have hne:u≠v:=fun e=>h4 (by rw[e])
     rw[vav (by simpa using h1),vav (by simpa using h2),vav (by simpa using h3)]
     have hb:((u.Kids.length:Int)!=(v.Kids.length:Int))=true:=by simp;omega
     simp[hb,hne]
   ·have hne:u≠v:=fun e=>h3 (by rw[e])
    rw[vav (by simpa using h1),vav (by simpa using h2),var (by simpa using h3)]
    simp[hne]
  ·have hne:u≠v:=fun e=>h2 (by rw[e])
   rw[vav (by simpa using h1),var (by simpa using h2)]
   simp[hne]
 ·have hne:u≠v:=fun e=>h1 (by rw[e])
  rw[var (by simpa using h1)]
  simp[hne]
def wn:aa:=⟨0,[],0,[]⟩
def jX:aa:=⟨2,[],1,[]⟩
def qI(p:aa):Bool:=decide (p=wn)||decide (p=jX)
theorem Lr:nP jX<=bC:=by decide
theorem Ls:nP wn<=bC:=by decide
theorem Df(p:aa):pP p=some (qI p):=by
 have h1:iQ p (⟨0,([]:ai),0,([]:List aa)⟩:aa)=some (decide (p=wn)):=Dc p wn Ls
 have h2:iQ p (⟨2,([]:ai),1,([]:List aa)⟩:aa)=some (decide (p=jX)):=Dc p jX Lr
 unfold pP pO qI
 simp only[vab,h2,h1]
 cases decide (p=jX)<;>cases decide (p=wn)<;>rfl
theorem ED{α σ X:Type}(g:α->σ->σ)(e:σ->X):∀(l:List α) (i:Nat) (s:σ),ud (fun _ x (s:σ)=>(Sum.inl (g x s):σ⊕X)) e l i s=e (l.foldl (fun s x=>g x s) s)
 |[],i,s=>by simp[ud]
 |x::l,i,s=>by
  unfold ud
  simp only
  rw[ED g e l (i+1) (g x s)]
  rfl
theorem IZ{α σ τ X:Type}(l:List α)(hl:l.length<9223372036854775808)(mk:Int->σ->τ)(body:τ->Option (τ⊕X))(I:Nat->σ->Prop)(g:α->σ->σ)(e:σ->X)(s0:σ)(h0:I 0 s0)
  (hin:∀(i:Nat) (h:i<l.length) s,I i s->body (mk i s)=some (.inl (mk (cf ((i:Int)+1)) (g l[i] s)))/\I (i+1) (g l[i] s)) (hend:∀s,I l.length s->body (mk l.length s)=some (.inr (e s))):
  loop body (mk 0 s0)=some (e (l.foldl (fun s x=>g x s) s0)):=by
 have:=tC l hl mk body I (fun _ x s=>.inl (g x s)) e (fun i h s hs=>⟨(hin i h s hs).1,fun s' hs'=>by cases hs';exact(hin i h s hs).2⟩) (fun s hs=>hend s hs) 0 s0 (vaL _) h0
 rw[ED]at this
 exact this
theorem Ie(l:List aa)(i:Nat)(h:i<l.length):nL (l.take (i+1))=nL (l.take i)+nP l[i]:=by
 rw[List.take_succ_eq_append_getElem h,zv]
 simp[nL]
theorem Cy(l:List aa)(i:Nat):nL (l.take i)<=nL l:=by
 have:=zv (l.take i) (l.drop i)
 rw[vcg]at this
 omega
theorem H5:∀(l:List aa) (a:Int),l.foldl (fun s x=>s+(nP x:Int)) a=a+(nL l:Int)
 |[],a=>by simp[nL]
 |x::l,a=>by rw[List.foldl_cons,H5 l,nL];omega
theorem ye(p:aa)(hp:nP p<=bC):nd p=some (nP p:Int):=by
 refine jx (F:=tb) nP (fun x=>nP x<=bC) (fun x=>(nP x:Int)) (fun R x hx ih=>?_) p hp (jG hp)
 show ou (fun p=>R p) x=_
 unfold ou qQ
 have hlen:=kk x
 have hn:=Gn x
 rw[IZ x.Kids (by unfold bC at hx;omega) (fun i s=>(s,i)) _ (fun i s=>s=1+(nL (x.Kids.take i):Int)) (fun x s=>s+(nP x:Int)) id 1 (by simp[nL]) (fun i hi s hs=>?_) (fun s _=>?_)]
 ·rw[H5]
  simp only[id,vab]
  rw[hn];congr 1;omega
 ·have hm:=vaC hi
  have hk:=iG hm
  refine⟨?_,by rw[Ie _ _ hi,hs];omega⟩
  unfold j1
  rw[var (by simp;omega),dX x.Kids i hi]
  simp only[vab]
  rw[ih _ hk (by omega)]
  simp only[vab]
  have h1:=Cy x.Kids i
  have h2:=Cy x.Kids (i+1)
  have h3:=Ie x.Kids i hi
  unfold bC at hx
  rw[Ah (n:=s+_) (by omega) (by omega)]
 ·unfold j1
  rw[vav (by simp)]
  rfl
set_option linter.unusedSimpArgs false
theorem KB(l:List ai)(v:ai)(hl:l.length<9223372036854775808):xx l v=some (match l.findIdx? (fun x=>x==v)with|some j=>(j:Int)|none=>-1):=by
 unfold xx sV
 have h:=Eo l hl (fun zz=>fo l v (l.length:Int) zz) (fun x=>x==v) (fun j=>Sum.inl (j:Int)) (.inr ()) (fun i hi=>?_) ?_
 ·rw[h]
  simp only[vab]
  cases l.findIdx? (fun x=>x==v)<;>rfl
 ·show fo l v (l.length:Int) (i:Int)=_
  unfold fo
  rw[var (by simp;omega),dX l i hi]
  simp only[vab]
  by_cases he:(l[i]==v)=true<;>simp[he]
 ·show fo l v (l.length:Int) (l.length:Int)=_
  unfold fo
  rw[vav (by simp)]
theorem J6(l:List ai)(v:ai)(hl:l.length<9223372036854775808):kI l v=some (match l.findIdx? (fun x=>x==v)with|some j=>(j:Int)|none=>-1):=by
 unfold kI mq
 have h:=Eo l hl (fun zz=>dm l v (l.length:Int) zz) (fun x=>x==v) (fun j=>Sum.inl (j:Int)) (.inr ()) (fun i hi=>?_) ?_
 ·rw[h]
  simp only[vab]
  cases l.findIdx? (fun x=>x==v)<;>rfl
 ·show dm l v (l.length:Int) (i:Int)=_
  unfold dm
  rw[var (by simp;omega),dX l i hi]
  simp only[vab]
  by_cases he:v=l[i]
  ·subst he;simp
  ·have he':¬l[i]=v:=fun h=>he h.symm
   simp[he,he']
 ·show dm l v (l.length:Int) (l.length:Int)=_
  unfold dm
  rw[vav (by simp)]
def uL{α:Type}(o:Option α)(Q:α->Prop):Prop:=∃a,o=some a/\Q a
section
variable{α β σ τ X Y:Type}
theorem bO{a:α}{Q:α->Prop}(h:Q a):uL (some a) Q:=⟨a,rfl,h⟩
theorem er{o:Option α}{f:α->Option β}{R:α->Prop}{Q:β->Prop}(h:uL o R)(h':∀a,R a->uL (f a) Q):uL (o.bind f) Q:=by
 obtain⟨a,rfl,h⟩:=h
 exact h' a h
theorem da{o:Option α}{a:α}{f:α->Option β}{Q:β->Prop}(e:o=some a)(h:uL (f a) Q):uL (o.bind f) Q:=by
 rw[e];exact h
theorem uL.mono{o:Option α}{Q R:α->Prop}(h:uL o Q)(h':∀a,Q a->R a):uL o R:=by
 obtain⟨a,e,h⟩:=h
 exact⟨a,e,h' a h⟩
theorem gk{c:Prop}[Decidable c]{a b:Option α}{Q:α->Prop}(h1:c->uL a Q)(h2:¬c->uL b Q):uL (if c then a else b) Q:=by
 by_cases h:c
 ·rw[var h];exact h1 h
 ·rw[vav h];exact h2 h
theorem LJ{o:Option α}{a:α}:uL o (fun x=>x=a)↔o=some a:=by
 constructor
 ·rintro⟨x,e,rfl⟩;exact e
 ·intro e;exact⟨a,e,rfl⟩
theorem Dm{F:(X->Option Y)->X->Option Y}(μ:X->Nat)(P:X->Prop)(Q:X->Y->Prop)(h:∀(R:X->Option Y) x,P x->(∀y,μ y<μ x->P y->uL (R y) (Q y))->uL (F R x) (Q x))(x:X)(hx:P x)(hm:μ x<LU):uL (kY F x) (Q x):=by
 have key:∀n x,μ x<n->P x->uL (N0 F n x) (Q x):=by
  intro n
  induction n with
  |zero=>intro x hx;omega
  |succ n ih=>intro x hx hq;exact h _ x hq fun y hy hqy=>ih y (by omega) hqy
 exact key _ x hm hx
theorem Jm(l:List α)(hl:l.length<9223372036854775808)(mk:Int->σ->τ){body:τ->Option (τ⊕X)}(I:Nat->σ->Prop){Q:X->Prop}
  (hin:∀(i:Nat) (h:i<l.length) s,I i s->uL (body (mk i s)) (fun r=>match r with|.inl t=>∃s',t=mk (cf ((i:Int)+1)) s'/\I (i+1) s'|.inr y=>Q y))
  (hend:∀s,I l.length s->uL (body (mk l.length s)) (fun r=>match r with|.inl _=>False|.inr y=>Q y)):∀s,I 0 s->uL (loop body (mk 0 s)) Q:=by
 have key:∀k i s,k+i=l.length->I i s->uL (loop body (mk (i:Int) s)) Q:=by
  intro k
  induction k with
  |zero=>
   intro i s hi hI
   have:i=l.length:=by omega
   subst this
   obtain⟨r,e,hr⟩:=hend s hI
   rw[uC,e]
   cases r with
   |inl _=>exact hr.elim
   |inr y=>exact⟨y,rfl,hr⟩
  | succ k ih =>
   intro i s hi hI
   obtain⟨r,e,hr⟩:=hin i (by omega) s hI
   rw[uC,e]
   cases r with
   |inl t=>
    obtain⟨s',rfl,hI'⟩:=hr
    simp only
    rw[Ah (by omega) (by omega),show((i:Int)+1)=((i+1:Nat):Int) by omega]
    exact ih (i+1) s' (by omega) hI'
   |inr y=>exact⟨y,rfl,hr⟩
 exact fun s hs=>key l.length 0 s (by omega) hs
end
section
variable{α β σ τ X Y:Type}
theorem gY(l:List α)(hl:l.length<=1073741824)(mk:Int->List β->τ)(body:τ->Option (τ⊕X))(h:α->Option β)(g:α->β)(e:List β->X)
  (hb:∀(i:Int) (s:List β),body (mk i s)=if decide (i<(l.length:Int))=true then(eh l i).bind (fun x=>(h x).bind fun r=>(app s ([r]:List β)).bind fun q=>some (.inl (mk (cf (i+1)) q)))else some (.inr (e s)))
  (hg:∀x∈l,h x=some (g x)):loop body (mk 0 [])=some (e (l.map g)):=by
 refine Gk l (by omega) mk body g e (fun i hi s hs=>?_) (fun s=>?_)
 ·rw[hb,var (by simp;omega),dX l i hi]
  simp only[vab]
  rw[hg _ (vaC hi)]
  simp only[vab]
  rw[G1 (by simp;omega)]
  rfl
 ·rw[hb,vav (by simp)]
theorem Hs(l:List α)(hl:l.length<9223372036854775808)(mk:Int->σ->τ)(body:τ->Option (τ⊕X))(k:Int->σ->α->Option (τ⊕X))(I:Nat->σ->Prop)(g:α->σ->σ)(e:σ->X)(s0:σ)(h0:I 0 s0)
  (hb:∀(i:Int) (s:σ),body (mk i s)=if decide (i<(l.length:Int))=true then(eh l i).bind (k i s)else some (.inr (e s)))
  (hin:∀(i:Nat) (h:i<l.length) s,I i s->k i s l[i]=some (.inl (mk (cf ((i:Int)+1)) (g l[i] s)))/\I (i+1) (g l[i] s)):loop body (mk 0 s0)=some (e (l.foldl (fun s x=>g x s) s0)):=by
 have:=tC l hl mk body I (fun _ x s=>.inl (g x s)) e (fun i h s hs=>⟨?_,fun s' hs'=>by cases hs';exact(hin i h s hs).2⟩) (fun s hs=>by rw[hb,vav (by simp)]) 0 s0 (vaL _) h0
 ·rw[vby,show((0:Nat):Int)=0 from rfl]at this
  rw[this]
  have key:∀(l:List α) (i:Nat) (s:σ),ud (fun _ x (s:σ)=>(Sum.inl (g x s):σ⊕X)) e l i s=e (l.foldl (fun s x=>g x s) s):=by
   intro l
   induction l with
   |nil=>intro i s;rfl
   |cons x l ih=>intro i s;unfold ud;simp only;rw[ih];rfl
  rw[key]
 ·rw[hb,var (by simp;omega),dX l i h]
  simp only[vab]
  exact(hin i h s hs).1
theorem EF(l:List α)(hl:l.length<9223372036854775808)(mk:Int->σ->τ){body:τ->Option (τ⊕X)}(k:Int->σ->α->Option (τ⊕X))(e:σ->X)(I:Nat->σ->Prop){Q:X->Prop}
  (hb:∀(i:Int) (s:σ),body (mk i s)=if decide (i<(l.length:Int))=true then(eh l i).bind (k i s)else some (.inr (e s)))
  (hin:∀(i:Nat) (h:i<l.length) s,I i s->uL (k i s l[i]) (fun r=>match r with|.inl t=>∃s',t=mk (cf ((i:Int)+1)) s'/\I (i+1) s'|.inr y=>Q y))
  (hend:∀s,I l.length s->Q (e s)):∀s,I 0 s->uL (loop body (mk 0 s)) Q:=
 Jm l hl mk I (fun i h s hs=>by
  rw[hb,var (by simp;omega),dX l i h]
  exact hin i h s hs) (fun s hs=>by
  rw[hb,vav (by simp)]
  exact⟨_,rfl,hend s hs⟩)
theorem Jl(l:List α)(hl:l.length<9223372036854775808){body:Int->Option (Int⊕X)}(k:Int->α->Option (Int⊕X))(e:X)(I:Nat->Prop){Q:X->Prop}
  (hb:∀(i:Int),body i=if decide (i<(l.length:Int))=true then(eh l i).bind (k i)else some (.inr e))
  (hin:∀(i:Nat) (h:i<l.length),I i->uL (k i l[i]) (fun r=>match r with|.inl t=>t=cf ((i:Int)+1)/\I (i+1)|.inr y=>Q y))
  (hend:I l.length->Q e) (h0:I 0):uL (loop body 0) Q:=
 EF l hl (fun i (_:Unit)=>i) (fun i _=>k i) (fun _=>e) (fun i _=>I i) (fun i _=>hb i) (fun i h s hs=>(hin i h hs).mono fun r hr=>by
  cases r with
  |inl t=>exact⟨(),hr.1,hr.2⟩
  |inr y=>exact hr) (fun _ h=>hend h) () h0
end
def kW{α:Type}(p:α->α->Bool):List α->List α->Bool
 |[],[]=>true
 |x::a,y::b=>p x y&&kW p a b
 |_,_=>false
theorem FT{α:Type}{p:α->α->Bool}:∀{a b:List α},kW p a b=true->a.length=b.length
 |[],[],_=>rfl
 |x::a,y::b,h=>by
  rw[kW,vah]at h
  simp[FT h.2]
 |[],y::b,h=>by simp[kW]at h
 |x::a,[],h=>by simp[kW]at h
theorem HQ{α:Type}{p:α->α->Bool}:∀{a b:List α},a.length≠b.length->kW p a b=false:=fun{a b} h=>by
 rw[Bool.eq_false_iff]
 exact fun he=>h (FT he)
theorem D3{α:Type}{p:α->α->Bool}:∀{a:List α},(∀x∈a,p x x=true)->kW p a a=true
 |[],_=>rfl
 |x::a,h=>by
  rw[kW,h x (by simp),vbS]
  exact D3 fun y hy=>h y (vaM _ hy)
theorem HP{α:Type}[DecidableEq α]:∀{a b:List α},kW (fun x y=>decide (x=y)) a b=decide (a=b)
 |[],[]=>by simp[kW]
 |x::a,y::b=>by
  rw[kW,HP]
  by_cases h1:x=y<;>by_cases h2:a=b<;>simp[h1,h2]
 |[],y::b=>by simp[kW]
 |x::a,[]=>by simp[kW]
theorem FU{α:Type}{p:α->α->Bool}:∀{a b:List α},a.length=b.length->(a.zip b).any (fun x=>!p x.1 x.2)= !kW p a b
 |[],[],_=>rfl
 |x::a,y::b,h=>by
  rw[List.zip_cons_cons,List.any_cons,FU (by simpa using h),kW]
  cases p x y<;>rfl
theorem zt{α X:Type}{a b:List α}(hl:a.length=b.length)(ha:a.length<9223372036854775808)(body:Int->Option (Int⊕X))(k:Int->α->α->Option (Int⊕X))(p:α->α->Bool)(y e:X)
  (hb:∀(i:Int),body i=if decide (i<(a.length:Int))=true then(eh a i).bind (fun x=>(eh b i).bind (k i x))else some (.inr e))
  (hk:∀x∈a,∀z∈b,∀i,k i x z=some (if p x z=true then .inl (cf (i+1))else .inr y)):loop body 0=some (if kW p a b=true then e else y):=by
 have hz:(a.zip b).length=a.length:=by simp[hl]
 have:=Gj (a.zip b) (by omega) body (fun x=>!p x.1 x.2) y e (fun i h=>?_) (by rw[hb,vav (by simp[hz])]) 0 (vaL _)
 ·rw[vby,FU hl]at this
  rw[show((0:Nat):Int)=0 from rfl]at this
  rw[this]
  by_cases h:kW p a b=true<;>simp[h]
 ·have h1:i<a.length:=by omega
  have h2:i<b.length:=by omega
  rw[hb,var (by simp;omega),dX a i h1]
  simp only[vab]
  rw[dX b i h2]
  simp only[vab]
  rw[hk _ (vaC h1) _ (vaC h2)]
  have hzi:(a.zip b)[i]=(a[i],b[i]):=by simp
  rw[hzi]
  by_cases h:p a[i] b[i]=true<;>simp[h]
theorem IF{α:Type}(l:List α)(h:l.length<=1073741824):ri l=some l:=var h
mutual
def dP:aa->Nat
 |⟨_,_,_,ks⟩=>dL ks+1
def dL:List aa->Nat
 |[]=>0
 |p::ps=>max (dP p) (dL ps)
end
theorem LX(p:aa):dP p=dL p.Kids+1:=by obtain⟨o,n,k,ks⟩:=p;rw[dP];rfl
mutual
theorem LY:∀(p:aa),dP p<=nP p
 |⟨o,n,k,ks⟩=>by have:=LW ks;rw[dP,nP];omega
theorem LW:∀(l:List aa),dL l<=nL l
 |[]=>by simp[dL]
 |p::l=>by have:=LY p;have:=LW l;rw[dL,nL];omega
end
theorem H4:∀(l:List aa) (a:Nat),l.foldl (fun(s:Int) x=>if(dP x:Int)>s then(dP x:Int)else s) (a:Int)=((max a (dL l):Nat):Int)
 |[],a=>by simp[dL]
 |x::l,a=>by
  rw[List.foldl_cons,show(if(dP x:Int)>(a:Int)then(dP x:Int)else(a:Int))=((max a (dP x):Nat):Int) by split<;>omega,H4 l,dL,Nat.max_assoc]
theorem JS(p:aa)(hp:nP p<=bC):zc p=some (dP p:Int):=by
 refine jx (F:=s4) nP (fun x=>nP x<=bC) (fun x=>(dP x:Int)) (fun R x hx ih=>?_) p hp (jG hp)
 show oq (fun p=>R p) x=_
 unfold oq qO
 have hlen:=kk x
 have hd:=LY x
 have he:=LX x
 have hz:(0:Int)=((0:Nat):Int):=rfl
 rw[Hs x.Kids (by unfold bC at hx;omega) (fun i s=>(s,i)) _ (fun i s x=>(R x).bind fun r=>some (.inl ((if r>s then r else s),cf (i+1)))) (fun _ _=>True) (fun x s=>if(dP x:Int)>s then(dP x:Int)else s) id 0 trivial (fun i s=>rfl) (fun i hi s _=>⟨?_,trivial⟩)]
 ·rw[hz,H4]
  simp only[id,vab]
  unfold bC at hx
  rw[Ah (by omega) (by omega)]
  congr 1;omega
 ·have hm:=vaC hi
  have hk:=iG hm
  rw[ih _ hk (by omega)]
  rfl
def pE(ns:List ai)(bs:List aa)(n:ai):Option aa:=(ns.findIdx? (fun x=>x==n)).bind fun j=>bs[j]?
mutual
def D1(f:ai->Option aa):aa->aa
 |⟨o,n,k,ks⟩=>(if o=3 then f n else none).getD ⟨o,n,k,L9 f ks⟩
def L9(f:ai->Option aa):List aa->List aa
 |[]=>[]
 |p::ps=>D1 f p::L9 f ps
end
theorem Ip(f:ai->Option aa):∀(l:List aa),L9 f l=l.map (D1 f)
 |[]=>by rw[L9];rfl
 |p::l=>by rw[L9,Ip f l];rfl
theorem HJ(f:ai->Option aa)(p:aa):D1 f p=(if p.Op=3 then f p.Name else none).getD ⟨p.Op,p.Name,p.N,p.Kids.map (D1 f)⟩:=by
 obtain⟨o,n,k,ks⟩:=p
 rw[D1,Ip];rfl
mutual
theorem Mb(f:ai->Option aa)(M:Nat)(hM:1<=M)(hf:∀n q,f n=some q->nP q<=M):∀(p:aa),nP (D1 f p)<=nP p * M
 | ⟨o,n,k,ks⟩ => by
  have:=Ma f M hM hf ks
  rw[D1]
  cases h:(if o=3 then f n else none)with
  |none=>
   simp only[Option.getD_none]
   rw[nP,nP,vaN];omega
  | some q =>
   simp only[Option.getD_some]
   have:f n=some q:=by
    split at h
    ·exact h
    ·cases h
   have:=hf n q this
   rw[nP,vaN]
   have:0<=nL ks * M:=vaL _
   omega
theorem Ma(f:ai->Option aa)(M:Nat)(hM:1<=M)(hf:∀n q,f n=some q->nP q<=M):∀(l:List aa),nL (L9 f l)<=nL l * M
 |[]=>by simp[L9,nL]
 |p::l=>by
  have:=Mb f M hM hf p
  have:=Ma f M hM hf l
  rw[L9,nL,nL,vaN];omega
end
theorem Ke{ns:List ai}{bs:List aa}{n:ai}{q:aa}(h:pE ns bs n=some q):q∈bs:=by
 unfold pE at h
 cases hf:ns.findIdx? (fun x=>x==n)with
 |none=>rw[hf]at h;cases h
 |some j=>
  rw[hf]at h
  exact vaw h
theorem MW(ns:List ai)(bs:List aa)(p:aa)(hn:ns.length<9223372036854775808):jp ns bs p=some ((if p.Op=3 then pE ns bs p.Name else none).elim (.inr ()) (fun q=>.inl (q.Op,q.Name,q.N,q.Kids))):=by
 unfold jp me pE
 by_cases h1:p.Op=3
 ·rw[var (by simpa using h1),KB ns p.Name hn,var h1]
  simp only[vab]
  cases hf:ns.findIdx? (fun x=>x==p.Name)with
  |none=>rfl
  | some j =>
   simp only[vab]
   rw[var (va1 (show(j:Int)>=0 by omega))]
   simp only[vab]
   by_cases h2:j<bs.length
   ·rw[var (va1 (by omega)),dX bs j h2,vaa h2]
    rfl
   ·rw[vav (by simp;omega),vax (by omega)]
    rfl
 ·rw[vav (by simpa using h1),vav h1]
  rfl
theorem LC(p:aa)(ns:List ai)(bs:List aa)(hp:nP p<=bC)(hn:ns.length<9223372036854775808):qS p ns bs=some (D1 (pE ns bs) p):=by
 refine jx (F:=nn) (fun x=>nP x.1) (fun x=>nP x.1<=bC/\x.2=(ns,bs)) (fun x=>D1 (pE x.2.1 x.2.2) x.1) (fun R x hx ih=>?_) (p,ns,bs) ⟨hp,rfl⟩ (jG hp)
 obtain⟨p,ns',bs'⟩:=x
 obtain⟨hx,he⟩:=hx
 cases he
 have hx:nP p<=bC:=hx
 show j2 (fun p names a=>R (p,names,a)) p ns bs=some (D1 (pE ns bs) p)
 unfold j2
 rw[MW ns bs p hn,HJ]
 cases h:(if p.Op=3 then pE ns bs p.Name else none)with
 |some q=>
  simp only[Option.elim,vab,iw,Option.getD_some]
 |none=>
  simp only[Option.elim,vab,Option.getD_none]
  unfold mf
  have hlen:=kk p
  rw[gY p.Kids (by unfold bC at hx;omega) (fun i s=>(s,i)) _ (fun y=>R (y,ns,bs)) (D1 (pE ns bs)) id (fun i s=>rfl) (fun y hy=>ih (y,ns,bs) (iG hy) ⟨by have:=iG hy;show nP y<=bC;omega,rfl⟩)]
  rfl
theorem Ly(ns:List ai)(bs:List aa)(p:aa)(hn:ns.length<9223372036854775808)(hb:∀q∈bs,nP q<=bC):iA ns bs p=some ((if p.Op=3 then pE ns bs p.Name else none).elim (.inr ()) (fun q=>.inl (q.Op,q.Name,q.N,q.Kids))):=by
 unfold iA lj pE ru
 by_cases h1:p.Op=3
 ·rw[var (by simpa using h1),J6 ns p.Name hn,var h1]
  simp only[vab]
  cases hf:ns.findIdx? (fun x=>x==p.Name)with
  |none=>rfl
  | some j =>
   simp only[vab]
   rw[var (va1 (show(j:Int)>=0 by omega))]
   simp only[vab]
   by_cases h2:j<bs.length
   ·rw[var (va1 (by omega)),dX bs j h2,vaa h2]
    simp only[vab]
    rw[IH _ (hb _ (vaC h2))]
    rfl
   ·rw[vav (by simp;omega),vax (by omega)]
    rfl
 ·rw[vav (by simpa using h1),vav h1]
  rfl
theorem Lz(p:aa)(ns:List ai)(bs:List aa)(hp:nP p<=bC)(hn:ns.length<9223372036854775808)(hb:∀q∈bs,nP q<=bC):jk p ns bs=some (D1 (pE ns bs) p):=by
 refine jx (F:=ml) (fun x=>nP x.1) (fun x=>nP x.1<=bC/\x.2=(ns,bs)) (fun x=>D1 (pE x.2.1 x.2.2) x.1) (fun R x hx ih=>?_) (p,ns,bs) ⟨hp,rfl⟩ (jG hp)
 obtain⟨p,ns',bs'⟩:=x
 obtain⟨hx,he⟩:=hx
 cases he
 have hx:nP p<=bC:=hx
 show jC (fun p names a=>R (p,names,a)) p ns bs=some (D1 (pE ns bs) p)
 unfold jC
 rw[Ly ns bs p hn hb,HJ]
 cases h:(if p.Op=3 then pE ns bs p.Name else none)with
 |some q=>
  simp only[Option.elim,vab,iw,Option.getD_some]
 |none=>
  simp only[Option.elim,vab,Option.getD_none]
  unfold lk
  have hlen:=kk p
  rw[gY p.Kids (by unfold bC at hx;omega) (fun i s=>(i,s)) _ (fun y=>R (y,ns,bs)) (D1 (pE ns bs)) id (fun i s=>rfl) (fun y hy=>ih (y,ns,bs) (iG hy) ⟨by have:=iG hy;show nP y<=bC;omega,rfl⟩)]
  rfl
theorem LE(f:ai->Option aa):D1 f jX=jX:=by
 rw[HJ];rfl
theorem IN(t:ae):(⟨t.Op,t.Name,t.Args,t.Names,t.Pred,t.Preds⟩:ae)=t:=by cases t;rfl
theorem Hk(t:ae):(⟨t.Op,t.Name,t.Args,t.Names,⟨t.Pred.Op,t.Pred.Name,t.Pred.N,t.Pred.Kids⟩,t.Preds⟩:ae)=t:=by rw[iw,IN]
mutual
def gf:ae->Nat
 |⟨_,_,xs,ns,_,ps⟩=>kl xs+ns.length+ps.length+1
def kl:List ae->Nat
 |[]=>0
 |a::xs=>gf a+kl xs
end
theorem uz(t:ae):gf t=kl t.Args+t.Names.length+t.Preds.length+1:=by obtain⟨o,n,xs,ns,p,ps⟩:=t;rw[gf];rfl
theorem Kd(t:ae):1<=gf t:=by rw[uz];omega
theorem zp:∀{l:List ae} {x:ae},x∈l->gf x<=kl l
 | y :: l,x,h => by
  rw[kl]
  rcases vaD.1 h with rfl|h
  ·omega
  ·have:=zp h;omega
theorem zo:∀(l:List ae),l.length<=kl l
 |[]=>by simp[kl]
 |p::l=>by rw[kl];have:=zo l;have:=Kd p;simp only[vaS];omega
theorem pC{t a:ae}(h:a∈t.Args):gf a<gf t:=by rw[uz t];have:=zp h;omega
theorem tw(t:ae):t.Args.length<gf t:=by rw[uz];have:=zo t.Args;omega
theorem Er(t:ae):t.Names.length<gf t:=by rw[uz];omega
theorem qp(t:ae):t.Preds.length<gf t:=by rw[uz];omega
mutual
def jc(Q:aa->Prop):ae->Prop
 |⟨_,_,xs,_,p,ps⟩=>Q p/\(∀q∈ps,Q q)/\kc Q xs
def kc(Q:aa->Prop):List ae->Prop
 |[]=>True
 |a::xs=>jc Q a/\kc Q xs
end
theorem pV(Q:aa->Prop)(t:ae):jc Q t↔Q t.Pred/\(∀q∈t.Preds,Q q)/\kc Q t.Args:=by obtain⟨o,n,xs,ns,p,ps⟩:=t;rw[jc];rfl
theorem kX(Q:aa->Prop):∀(l:List ae),kc Q l↔∀t∈l,jc Q t
 |[]=>by simp[kc]
 |a::l=>by rw[kc,kX Q l];simp
mutual
theorem D6{Q R:aa->Prop}(h:∀p,Q p->R p):∀(t:ae),jc Q t->jc R t
 |⟨_,_,xs,_,p,ps⟩,ht=>by
  rw[jc]at ht ⊢
  exact⟨h _ ht.1,fun q hq=>h _ (ht.2.1 q hq),B6 h xs ht.2.2⟩
theorem B6{Q R:aa->Prop}(h:∀p,Q p->R p):∀(l:List ae),kc Q l->kc R l
 |[],_=>trivial
 |a::xs,hl=>by
  rw[kc]at hl ⊢
  exact⟨D6 h a hl.1,B6 h xs hl.2⟩
end
theorem N4(l:List aa):l.length<=mY (l.map ac):=by
 have:=Hu l
 have:=Gm l
 omega
theorem N5(l:List ai):l.length<=mY (l.map cS):=by
 have h:=yi (l.map cS) (fun x hx=>by
  obtain⟨s,_,rfl⟩:=van.1 hx
  simp only[cS,vQ,pm];omega)
 rwa[va8]at h
theorem Gx(t:ae):vQ (af t)=1+(pm (.str t.Name)+(pm (sl af t.Args)+(pm (sl cS t.Names)+(1+(pm (.str t.Pred.Name)+(1+(pm (sl ac t.Pred.Kids)+(pm (sl ac t.Preds)+0)))))))):=by
 rw[aO];rfl
mutual
theorem H9:∀(t:ae),gf t<=vQ (af t)
 |⟨o,n,xs,ns,p,ps⟩=>by
  have h1:=Ge xs
  have h2:=N4 ps
  have h3:=N5 ns
  rw[gf,Gx]
  show _<=1+(pm (.str n)+(pm (sl af xs)+(pm (sl cS ns)+(1+(pm (.str p.Name)+(1+(pm (sl ac p.Kids)+(pm (sl ac ps)+0))))))))
  simp only[pm,sl]
  omega
theorem Ge:∀(l:List ae),kl l<=mY (l.map af)
 |[]=>by simp[kl]
 |a::l=>by
  have:=H9 a
  have:=Ge l
  rw[kl]
  simp only[vaQ,mY]
  omega
end
mutual
def qa(f:aa->aa):ae->ae
 |⟨o,n,xs,ns,p,ps⟩=>⟨o,n,tD f xs,ns,f p,ps.map f⟩
def tD(f:aa->aa):List ae->List ae
 |[]=>[]
 |a::xs=>qa f a::tD f xs
end
theorem Ep(f:aa->aa):∀(l:List ae),tD f l=l.map (qa f)
 |[]=>by rw[tD];rfl
 |a::l=>by rw[tD,Ep f l];rfl
theorem Ic(f:aa->aa)(t:ae):qa f t=⟨t.Op,t.Name,t.Args.map (qa f),t.Names,f t.Pred,t.Preds.map f⟩:=by
 obtain⟨o,n,xs,ns,p,ps⟩:=t
 rw[qa,Ep];rfl
mutual
theorem Gf(f:aa->aa):∀(t:ae),gf (qa f t)=gf t
 |⟨o,n,xs,ns,p,ps⟩=>by rw[qa,gf,gf,El f xs,va8]
theorem El(f:aa->aa):∀(l:List ae),kl (tD f l)=kl l
 |[]=>by rw[tD]
 |a::xs=>by rw[tD,kl,kl,Gf f a,El f xs]
end
mutual
theorem FV{Q R:aa->Prop}(f:aa->aa)(h:∀p,Q p->R (f p)):∀(t:ae),jc Q t->jc R (qa f t)
 |⟨_,_,xs,_,p,ps⟩,ht=>by
  rw[jc]at ht
  rw[qa,jc]
  refine⟨h _ ht.1,fun q hq=>?_,D5 f h xs ht.2.2⟩
  obtain⟨q',hq',rfl⟩:=van.1 hq
  exact h _ (ht.2.1 q' hq')
theorem D5{Q R:aa->Prop}(f:aa->aa)(h:∀p,Q p->R (f p)):∀(l:List ae),kc Q l->kc R (tD f l)
 |[],_=>by rw[tD];trivial
 |a::xs,hl=>by
  rw[kc]at hl
  rw[tD,kc]
  exact⟨FV f h a hl.1,D5 f h xs hl.2⟩
end
def Jq(a b:aa):Bool:=(qI a&&qI b)||decide (a=b)
mutual
def qz:ae->ae->Bool
 |⟨o,n,xs,ns,p,ps⟩,⟨o',n',xs',ns',p',ps'⟩=>decide (o=o')&&(decide (n=n')&&(decide (ns=ns')&&(Jq p p'&&(kW Jq ps ps'&&pN xs xs'))))
def pN:List ae->List ae->Bool
 |[],[]=>true
 |a::xs,b::bs=>qz a b&&pN xs bs
 |_,_=>false
end
theorem Di:∀(a b:List ae),pN a b=kW qz a b
 |[],[]=>by rw[pN,kW]
 |a::xs,b::bs=>by rw[pN,kW,Di xs bs]
 |[],b::bs=>by simp[pN,kW]
 |a::xs,[]=>by simp[pN,kW]
theorem KC(a b:ae):qz a b=(decide (a.Op=b.Op)&&(decide (a.Name=b.Name)&&(decide (a.Names=b.Names)&&(Jq a.Pred b.Pred&&(kW Jq a.Preds b.Preds&&kW qz a.Args b.Args))))):=by
 obtain⟨o,n,xs,ns,p,ps⟩:=a
 obtain⟨o',n',xs',ns',p',ps'⟩:=b
 rw[qz,Di];rfl
theorem F5(p:aa):Jq p p=true:=by simp[Jq]
mutual
theorem Dj:∀(t:ae),qz t t=true
 |⟨o,n,xs,ns,p,ps⟩=>by
  rw[qz,AD xs,F5,D3 (fun x _=>F5 x)]
  simp
theorem AD:∀(l:List ae),pN l l=true
 |[]=>by rw[pN]
 |a::xs=>by rw[pN,Dj a,AD xs];rfl
end
theorem EB(a b:aa)(hb:nP b<=bC):pQ a b=some (Jq a b):=by
 unfold pQ Jq
 rw[Df a]
 simp only[vab]
 rw[Df b,Dc a b hb]
 cases qI a<;>cases qI b<;>simp
theorem Jh(a b:List ai)(ha:a.length<9223372036854775808):sX a b=some (decide (a=b)):=by
 unfold sX
 by_cases hl:a.length=b.length
 ·rw[vav (by simp[hl])]
  unfold sY
  rw[zt hl ha (fun zz=>pu a b (a.length:Int) zz) (fun i x z=>if(!(x==z))=true then some (.inr (.inl ()))else some (.inl (cf (i+1)))) (fun x y=>decide (x=y)) (.inl ()) (.inr ()) (fun i=>rfl) (fun x _ z _ i=>by by_cases h:x=z<;>simp[h]),HP]
  by_cases h:a=b<;>simp[h]
 ·rw[var (by simp;omega),decide_eq_false (fun he=>hl (by rw[he]))]
theorem Jg(a b:ae)(ha:gf a<=bC)(hb:jc (fun p=>nP p<=bC) b):lO a b=some (qz a b):=by
 refine jx (F:=wz) (fun x=>gf x.1) (fun x=>gf x.1<=bC/\jc (fun p=>nP p<=bC) x.2) (fun x=>qz x.1 x.2) (fun R x hx ih=>?_) (a,b) ⟨ha,hb⟩ (jG ha)
 obtain⟨u,v⟩:=x
 obtain⟨hu,hv⟩:=hx
 have hu:gf u<=bC:=hu
 have hv:jc (fun p=>nP p<=bC) v:=hv
 show qU (fun a a2=>R (a,a2)) u v=some (qz u v)
 obtain⟨v1,v2,v3⟩:=(pV _ v).1 hv
 have l1:=tw u
 have l2:=Er u
 have l3:=qp u
 unfold bC at hu
 unfold qU ti
 rw[KC]
 by_cases h1:u.Op=v.Op
 ·by_cases h2:u.Name=v.Name
  ·by_cases h3:u.Args.length=v.Args.length
   ·by_cases h4:u.Preds.length=v.Preds.length
    ·rw [vav (by simpa using h1),vav (by simpa using h2),vav (by simp [h3]),vav (by simp [h4]),Jh _ _ (by omega),EB _ _ v1]
     simp only[vab]
     by_cases h5:u.Names=v.Names
     ·by_cases h6:Jq u.Pred v.Pred=true
      ·simp only[h1,h2,h5,h6,decide_true,Bool.not_true,va9,if_false,vab,vbS]
       unfold tj
       rw[zt h4 (by omega) (fun zz=>pz u v (u.Preds.length:Int) zz) (fun i x z=>(pQ x z).bind fun r=>if(!r)=true then some (.inr (.inl ()))else some (.inl (cf (i+1)))) Jq (.inl ()) (.inr ()) (fun i=>rfl) (fun x _ z hz i=>by
        rw[EB _ _ (v2 z hz)]
        cases h:Jq x z<;>simp)]
       by_cases h7:kW Jq u.Preds v.Preds=true
       ·simp only[h7,if_true,vab,vbS]
        unfold tk
        rw[zt h3 (by omega) (fun zz=>pA (fun a a2=>R (a,a2)) u v (u.Args.length:Int) zz) (fun i x z=>(R (x,z)).bind fun r=>if(!r)=true then some (.inr (.inl ()))else some (.inl (cf (i+1)))) qz (.inl ()) (.inr ()) (fun i=>rfl) (fun x hx z hz i=>by
         rw[ih (x,z) (pC hx) ⟨by have:=pC hx;show gf x<=bC;unfold bC;omega,(kX _ _).1 v3 z hz⟩]
         cases h:qz x z<;>simp)]
        cases h:kW qz u.Args v.Args<;>simp
       ·simp only[h7,if_false,vab,vcp,va9]
      ·simp only[h1,h2,h5,h6,decide_true,Bool.not_true,va9,if_false,vab,Bool.not_false,if_true,vcp,vbS]
     ·simp only[h1,h2,h5,decide_true,decide_false,Bool.not_false,if_true,vab,vcp,vbS]
    ·rw[vav (by simpa using h1),vav (by simpa using h2),vav (by simp[h3]),var (by simp;omega),HQ h4]
     simp
   ·rw[vav (by simpa using h1),vav (by simpa using h2),var (by simp;omega),HQ h3]
    simp
  ·rw[vav (by simpa using h1),var (by simpa using h2)]
   simp[h2]
 ·rw[var (by simpa using h1)]
  simp[h1]
theorem GJ(t:ae)(ht:gf t<=bC)(hb:jc (fun p=>nP p<=bC) t):lO t t=some true:=by rw[Jg t t ht hb,Dj]
section
variable{α β σ τ X Y:Type}
theorem rr(l:List α)(hl:l.length<9223372036854775808)(mk:Int->τ)(body:τ->Option (τ⊕X))(p:α->Bool)(y:Nat->X)(e:X)
  (hin:∀(i:Nat) (h:i<l.length),body (mk (i:Int))=some (if p l[i]=true then .inr (y i)else .inl (mk (cf ((i:Int)+1))))) (hend:body (mk l.length)=some (.inr e)):loop body (mk 0)=some ((l.findIdx? p).elim e y):=by
 have key:∀k i,k+i=l.length->loop body (mk (i:Int))=some (((l.drop i).findIdx? p).elim e (fun j=>y (i+j))):=by
  intro k
  induction k with
  |zero=>
   intro i hi
   have:i=l.length:=by omega
   subst this
   rw[uC,hend,vcA]
   rfl
  | succ k ih =>
   intro i hi
   rw[uC,hin i (by omega),vbb (by omega),vcv]
   by_cases h:p l[i]=true
   ·simp[h]
   ·simp only[h,if_false,va9]
    rw[Ah (by omega) (by omega),show((i:Int)+1)=((i+1:Nat):Int) by omega,ih (i+1) (by omega)]
    cases(l.drop (i+1)).findIdx? p with
    |none=>rfl
    |some j=>simp only[vad,Option.elim];congr 2;omega
 have:=key l.length 0 (by omega)
 rw[vby]at this
 simpa using this
theorem ni{A:Type}(l:List α)(hl:l.length<9223372036854775808){body:Int->Option (Int⊕(A⊕Unit))}(k:Int->α->Option (Int⊕(A⊕Unit)))(P:α->Prop)(B:A->Prop)
  (hb:∀(i:Int),body i=if decide (i<(l.length:Int))=true then(eh l i).bind (k i)else some (.inr (.inr ())))
  (hk:∀x∈l,∀i,uL (k i x) (fun r=>r.elim (fun t=>t=cf (i+1)/\P x) (fun y=>y.elim B (fun _=>False)))):uL (loop body 0) (fun r=>r.elim B (fun _=>∀x∈l,P x)):=by
 refine Jl l hl k (.inr ()) (fun i=>∀j (h:j<l.length),j<i->P l[j]) hb (fun i hi hI=>(hk _ (vaC hi) i).mono fun r hr=>?_) (fun hI x hx=>?_) (fun j _ h=>absurd h (vaK _))
 ·cases r with
  | inl t =>
   refine⟨hr.1,fun j hj h=>?_⟩
   by_cases he:j=i
   ·subst he;exact hr.2
   ·exact hI j hj (by omega)
  |inr y=>cases y with
   |inl a=>exact hr
   |inr u=>exact hr.elim
 ·obtain⟨j,hj,rfl⟩:=List.getElem_of_mem hx
  exact hI j hj hj
end
mutual
def wT:ae->Nat
 |⟨_,_,xs,_,p,ps⟩=>nP p+nL ps+M3 xs
def M3:List ae->Nat
 |[]=>0
 |a::xs=>wT a+M3 xs
end
mutual
theorem Me:∀(t:ae),wT t<=vQ (af t)
 |⟨o,n,xs,ns,p,ps⟩=>by
  have h1:=KJ xs
  have h2:=Gm ps
  have h3:=Gm p.Kids
  have h4:=Gn p
  rw[wT,Gx]
  show _<=1+(pm (.str n)+(pm (sl af xs)+(pm (sl cS ns)+(1+(pm (.str p.Name)+(1+(pm (sl ac p.Kids)+(pm (sl ac ps)+0))))))))
  simp only[pm,sl]
  omega
theorem KJ:∀(l:List ae),M3 l<=mY (l.map af)
 |[]=>by simp[M3]
 |a::l=>by
  have:=Me a
  have:=KJ l
  rw[M3]
  simp only[vaQ,mY]
  omega
end
mutual
theorem JE(B:Nat):∀(t:ae),wT t<=B->jc (fun p=>nP p<=B) t
 |⟨o,n,xs,ns,p,ps⟩,h=>by
  rw[wT]at h
  rw[jc]
  exact⟨by omega,fun q hq=>by have:=Fi hq;omega,HR B xs (by omega)⟩
theorem HR(B:Nat):∀(l:List ae),M3 l<=B->kc (fun p=>nP p<=B) l
 |[],_=>trivial
 |a::xs,h=>by
  rw[M3]at h
  rw[kc]
  exact⟨JE B a (by omega),HR B xs (by omega)⟩
end
theorem rf:nf=some true:=by kernel_rfl
theorem II(t:ae)(ht:gf t<=bC):uL (zh t) (fun _=>True):=by
 refine Dm (F:=tp) gf (fun x=>gf x<=bC) (fun _ _=>True) (fun R x hx ih=>?_) t ht (jG ht)
 show uL (oG (fun t=>R t) x) _
 unfold oG rb
 have h1:=tw x
 refine er (R:=fun _=>True) (EF x.Args (by unfold bC at hx;omega) (fun i s=>(s,i)) (fun i s y=>(R y).bind fun r=>some (.inl (cf (s+r),cf (i+1)))) id (fun _ _=>True) (fun i s=>rfl) (fun i hi s _=>?_) (fun _ _=>trivial) 1 trivial) (fun a _=>bO trivial)
 exact er (ih _ (pC (vaC hi)) (by have:=pC (vaC hi);omega)) (fun a _=>bO ⟨_,rfl,trivial⟩)
theorem Lj(l:List ae)(hl:kl l<=bC)(hp:kc (fun p=>nP p<=bC) l):uL (ET l) (fun _=>True):=by
 refine Dm (F:=zj) kl (fun x=>kl x<=bC/\kc (fun p=>nP p<=bC) x) (fun _ _=>True) (fun R l hx ih=>?_) l ⟨hl,hp⟩ (jG hl)
 obtain⟨hl,hp⟩:=hx
 show uL (ut (fun a=>R a) l) _
 unfold ut wB
 have h1:=zo l
 refine er (ni l (by unfold bC at hl;omega) _ (fun _=>True) (fun _=>True) (fun i=>rfl) (fun x hx i=>?_)) (fun a _=>by cases a<;>exact bO trivial)
 have hx1:=zp hx
 have hq:=(pV _ _).1 ((kX _ _).1 hp _ hx)
 have h2:=qp x
 have h3:=uz x
 refine er (R:=fun _=>True) ?_ (fun o _=>gk (fun _=>bO trivial) (fun _=>?_))
 ·unfold wA
  rw[Hk]
  exact er (II x (by omega)) fun _ _=>gk (fun _=>bO trivial) fun _=>da (a:=(nP x.Pred:Int)) (by rw[iw];exact ye _ hq.1) (gk (fun _=>bO trivial) fun _=>gk (fun _=>bO trivial) fun _=>gk (fun _=>bO trivial) fun _=>er (ih x.Args (by omega) ⟨by omega,hq.2.2⟩) fun _ _=>bO trivial)
 ·unfold wC
  refine er (ni x.Preds (by unfold bC at hl;omega) _ (fun _=>True) (fun _=>True) (fun i=>rfl) (fun q hq' i=>?_)) (fun a _=>by
   cases a with
   |inl _=>exact bO trivial
   |inr _=>exact bO ⟨rfl,trivial⟩)
  exact da (ye q (hq.2.1 q hq')) (gk (fun _=>bO trivial) (fun _=>bO ⟨rfl,trivial⟩))
theorem N2{p x:aa}(h:x∈p.Kids):dP x<dP p:=by
 have key:∀{l:List aa},x∈l->dP x<=dL l:=by
  intro l
  induction l with
  |nil=>intro h;cases h
  | cons y l ih =>
   intro h
   rw[dL]
   rcases vaD.1 h with rfl|h
   ·omega
   ·have:=ih h;omega
 rw[LX p];have:=key h;omega
theorem H7{M:Nat}(hM:1<=M){p x:aa}(h:x∈p.Kids):nP x * M ^ dP x<=nP p * M ^ dP p:=
 vbL (vbO (iG h)) (vbx hM (vbO (N2 h)))
theorem Kc{M:Nat}(hM:1<=M)(p:aa):nP p<=nP p * M ^ dP p:=vb8 _ (Nat.one_le_pow _ _ hM)
def Jf(q:aa):Int×ai×Int×List aa:=(q.Op,q.Name,q.N,q.Kids)
def HK(l:List cc)(n:ai)(ns:List ai)(ks:List aa):Option aa:=(l.findIdx? (fun x=>x.Name==n)).map fun i=>(l[i]?).elim jX fun s=>if qI s.Pred=true then jX else D1 (pE ns ks) s.Pred
def jQ(holes:List aU)(l:List cc)(n:ai)(ks:List aa):aa:=(holes.findIdx? (fun x=>x.Name==n)).elim jX fun j=>(HK l n (((holes[j]?).elim [] (·.Params)).map (·.Name)) ks).getD jX
theorem MR(l:List xn)(hl:l.length<=1073741824):jq l (l.length:Int) [] 0=some (l.map (·.Name)):=by
 unfold jq
 exact gY l hl (fun i s=>(s,i)) _ (fun y=>some y.Name) (·.Name) id (fun i s=>rfl) (fun _ _=>rfl)
theorem MS(p:aa)(ns:List ai)(l:List cc)(hl:l.length<9223372036854775808)(hq:∀s∈l,nP s.Pred<=bC)(hn:ns.length<9223372036854775808)(m:Int)(m2:ai)(m3:Int)(m4:List aa):jr p ns l (l.length:Int) 0 m m2 m3 m4=some ((HK l p.Name ns p.Kids).elim (.inr (m,m2,m3,m4)) (fun q=>.inl (Jf q))):=by
 unfold jr
 rw[rr l hl (fun i=>(i,m,m2,m3,m4)) (fun(zz:Int×Int×ai×Int×(List aa))=>fc p ns l (l.length:Int) zz.1 zz.2.1 zz.2.2.1 zz.2.2.2.1 zz.2.2.2.2) (fun x=>x.Name==p.Name) (fun i=>.inl (Jf ((l[i]?).elim jX fun s=>if qI s.Pred=true then jX else D1 (pE ns p.Kids) s.Pred))) (.inr (m,m2,m3,m4)) (fun i hi=>?_) ?_]
 ·unfold HK
  cases l.findIdx? (fun x=>x.Name==p.Name)<;>rfl
 ·simp only
  unfold fc
  rw[vav (by simp)]
 ·simp only
  unfold fc
  rw[var (va1 (by omega)),dX l i hi,vaa hi]
  simp only[vab,Option.elim]
  have h:=hq _ (vaC hi)
  generalize l[i]=s at h
  by_cases he:(s.Name==p.Name)=true
  ·rw[var he,var he,Df]
   simp only[vab]
   by_cases hv:qI s.Pred=true
   ·rw[var hv,var hv];rfl
   ·rw[vav hv,vav hv,LC s.Pred ns p.Kids h hn];rfl
  ·rw[vav he,vav he]
theorem GO(p:aa)(holes:List aU)(l:List cc)(hh:holes.length<9223372036854775808)(hl:l.length<9223372036854775808)(hq:∀s∈l,nP s.Pred<=bC)(hn:∀h∈holes,h.Params.length<=1073741824):mI p holes l=some (jQ holes l p.Name p.Kids):=by
 unfold mI mg
 rw[rr holes hh (fun i=>(i,0,[],0,[])) (fun(zz:Int×Int×ai×Int×(List aa))=>e9 l p holes (holes.length:Int) zz.1 zz.2.1 zz.2.2.1 zz.2.2.2.1 zz.2.2.2.2) (fun x=>x.Name==p.Name) (fun j=>.inl (Jf ((HK l p.Name (((holes[j]?).elim [] (·.Params)).map (·.Name)) p.Kids).getD jX))) (.inr (0,[],0,[])) (fun i hi=>?_) ?_]
 ·unfold jQ
  cases holes.findIdx? (fun x=>x.Name==p.Name)with
  |none=>rfl
  |some j=>exact vbe some (iw _)
 ·simp only
  unfold e9
  rw[vav (by simp)]
 ·simp only
  unfold e9
  rw[var (va1 (by omega)),dX holes i hi,vaa hi]
  simp only[vab,Option.elim]
  have h:=hn _ (vaC hi)
  generalize holes[i]=s at h
  by_cases he:(s.Name==p.Name)=true
  ·rw[vav (by simp[he]),var he,MR s.Params h]
   simp only[vab]
   rw[MS p _ l hl hq (by simp;omega)]
   simp only[vab]
   cases HK l p.Name (s.Params.map (·.Name)) p.Kids<;>rfl
  ·rw[var (by simpa using he),vav he]
mutual
def wJ(g:ai->List aa->aa):aa->aa
 |⟨o,n,k,ks⟩=>if o=5 then g n (KN g ks)else⟨o,n,k,KN g ks⟩
def KN(g:ai->List aa->aa):List aa->List aa
 |[]=>[]
 |p::l=>wJ g p::KN g l
end
theorem H1(g:ai->List aa->aa):∀(l:List aa),KN g l=l.map (wJ g)
 |[]=>by rw[KN];rfl
 |p::l=>by rw[KN,H1 g l];rfl
theorem JV(g:ai->List aa->aa)(p:aa):wJ g p=if p.Op=5 then g p.Name (p.Kids.map (wJ g))else⟨p.Op,p.Name,p.N,p.Kids.map (wJ g)⟩:=by
 obtain⟨o,n,k,ks⟩:=p
 rw[wJ,H1];rfl
theorem Eh(p:aa)(holes:List aU)(l:List cc)(hp:nP p<=bC)(hh:holes.length<9223372036854775808)(hl:l.length<9223372036854775808)(hq:∀s∈l,nP s.Pred<=bC)(hn:∀h∈holes,h.Params.length<=1073741824):s9 p holes l=some (wJ (jQ holes l) p):=by
 refine jx (F:=wu) (fun x=>nP x.1) (fun x=>nP x.1<=bC/\x.2=(holes,l)) (fun x=>wJ (jQ x.2.1 x.2.2) x.1) (fun R x hx ih=>?_) (p,holes,l) ⟨hp,rfl⟩ (jG hp)
 obtain⟨p,h',l'⟩:=x
 obtain⟨hx,he⟩:=hx
 cases he
 have hx:nP p<=bC:=hx
 show qP (fun p holes a=>R (p,holes,a)) p holes l=some (wJ (jQ holes l) p)
 unfold qP ta xA
 have hlen:=kk p
 rw[gY p.Kids (by unfold bC at hx;omega) (fun i s=>(s,i)) _ (fun y=>R (y,holes,l)) (wJ (jQ holes l)) id (fun i s=>rfl) (fun y hy=>ih (y,holes,l) (iG hy) ⟨by have:=iG hy;show nP y<=bC;omega,rfl⟩)]
 simp only[vab,id]
 rw[JV]
 by_cases h5:p.Op=5
 ·rw[var (by simpa using h5),var h5,GO _ holes l hh hl hq hn]
  rfl
 ·rw[vav (by simpa using h5),vav h5]
theorem IQ(t:ae)(holes:List aU)(l:List cc)(ht:gf t<=bC)(hp:jc (fun p=>nP p<=bC) t)(hh:holes.length<9223372036854775808)(hl:l.length<9223372036854775808)(hq:∀s∈l,nP s.Pred<=bC)(hn:∀h∈holes,h.Params.length<=1073741824):BU t holes l=some (qa (wJ (jQ holes l)) t):=by
 refine jx (F:=wy) (fun x=>gf x.1) (fun x=>gf x.1<=bC/\jc (fun p=>nP p<=bC) x.1/\x.2=(holes,l)) (fun x=>qa (wJ (jQ x.2.1 x.2.2)) x.1) (fun R x hx ih=>?_) (t,holes,l) ⟨ht,hp,rfl⟩ (jG ht)
 obtain⟨t,h',l'⟩:=x
 obtain⟨hx,ha,he⟩:=hx
 cases he
 have hx:gf t<=bC:=hx
 have ha:=(pV _ _).1 (show jc (fun p=>nP p<=bC) t from ha)
 show qT (fun t holes a=>R (t,holes,a)) t holes l=some (qa (wJ (jQ holes l)) t)
 unfold qT tg th
 have h1:=tw t
 have h2:=qp t
 rw[Eh t.Pred holes l ha.1 hh hl hq hn]
 simp only[vab]
 rw[gY t.Preds (by unfold bC at hx;omega) (fun i s=>(i,s)) _ (fun y=>s9 y holes l) (wJ (jQ holes l)) id (fun i s=>rfl) (fun y hy=>Eh y holes l (ha.2.1 y hy) hh hl hq hn)]
 simp only[vab,id]
 rw[gY t.Args (by unfold bC at hx;omega) (fun i s=>(i,s)) _ (fun y=>R (y,holes,l)) (qa (wJ (jQ holes l))) id (fun i s=>rfl) (fun y hy=>ih (y,holes,l) (pC hy) ⟨by have:=pC hy;show gf y<=bC;omega,(kX _ _).1 ha.2.2 y hy,rfl⟩)]
 simp only[vab,id]
 rw[Ic]
abbrev JX(M:Nat)(p:aa):Prop:=nP p * M ^ dP p<=bC
end Go.Proofs.YtggeppllafbidaaGreatDoor
