/- PROVED: a part of the proof. Conditions: none. -/
import Derived.Test.YtggeppllafbidaaGreatDoorPkE12
noncomputable section
namespace Go.Proofs.YtggeppllafbidaaGreatDoor
open Go Go.Proofs.Tryz
set_option linter.unusedVariables false
set_option maxRecDepth 100000
noncomputable def Hb:Code:=f114.body.getD .skip
def tL:List Nat:=[66]
section
variable(t:ae)
def AL:ax:=aP 68 [(1,.eptr (af t))] [.dead] []
def dn(o:Bool):ax:=aP 68 [(1,.eptr (af t)),(33,.bool o)] [.dead] []
def tB:Option Bool:=
 if (t.Op == 6) = true then
  (nQ t.Pred).bind fun r3=>
  if(!r3)=true then
   some true
  else
   if(decide ((t.Preds.length:Int)>0))=true then
    some true
   else
    if(t.Op !=4)=true then
     some (decide ((t.Preds.length:Int)>0))
    else
     some false
 else
  if(t.Op !=4)=true then
   some (decide ((t.Preds.length:Int)>0))
  else
   some false
theorem zc{x:Bool}(h:tB t=some x):aL Pg GE 0 (cA Hb 12) (EX .normal (dn t x)) (AL t):=by
 have p2:=fun{sc F} (r:PS sc F)=>sv (aq t)<|sv (au t)<|r
 rcases aJ h with⟨c1,h⟩|⟨c1,h⟩
 ·obtain⟨r3,br3,h⟩:=ay h
  have p5:=fun{sc F} (r:PS sc F)=>p2<|sg 4 c1<|sv (bZ t)<|sv (b6 t)<|aX (mZ br3)<|r
  rcases aJ h with⟨c4,h⟩|⟨c4,h⟩
  ·obtain rfl:=lf h
   exact bm tL (p5<|sg 9 c4<|eF .normal (dn t true))<|by kernel_rfl
  ·have p7:=fun{sc F} (r:PS sc F)=>p5<|sg 9 c4<|sv (bF t)<|sv (bG t)<|cf (aZ.ln t.Preds)<|r
   rcases aJ h with⟨c6,h⟩|⟨c6,h⟩
   ·obtain rfl:=lf h
    exact bm tL (p7<|sg 16 c6<|eF .normal (dn t true))<|by kernel_rfl
   ·have p9:=fun{sc F} (r:PS sc F)=>p7<|sg 16 c6<|sv (aq t)<|sv (au t)<|r
    rcases aJ h with⟨c8,h⟩|⟨c8,h⟩
    ·obtain rfl:=lf h
     exact bm tL (p9<|sg 20 c8<|sv (bF t)<|sv (bG t)<|cf (aZ.ln t.Preds)<|eF .normal (dn t (decide ((t.Preds.length:Int)>0))))<|by kernel_rfl
    ·obtain rfl:=lf h
     exact bm tL (p9<|sg 20 c8<|eF .normal (dn t false))<|by kernel_rfl
 ·have p11:=fun{sc F} (r:PS sc F)=>p2<|sg 4 c1<|sv (aq t)<|sv (au t)<|r
  rcases aJ h with⟨c10,h⟩|⟨c10,h⟩
  ·obtain rfl:=lf h
   exact bm tL (p11<|sg 20 c10<|sv (bF t)<|sv (bG t)<|cf (aZ.ln t.Preds)<|eF .normal (dn t (decide ((t.Preds.length:Int)>0))))<|by kernel_rfl
  ·obtain rfl:=lf h
   exact bm tL (p11<|sg 20 c10<|eF .normal (dn t false))<|by kernel_rfl
end
section
variable(t:ae)(t35:waA)(t36:Int)(t37:Int)
def fk:ax:=aP 68 [(1,.eptr (af t)),(35,sl cS t35),(36,.int .i64 t36),(37,.int .i64 t37)] [.dead] []
def fm(o:Unit⊕(Unit)):Exit:=match o with
 |(.inl _)=>.ret
 |(.inr _)=>.exit 0
def d8(o:Unit⊕(Unit)):ax:=match o with
 |(.inl o)=>aP 68 [(2,.int .i64 3)] [.dead] []
 |(.inr o)=>aP 68 [(1,.eptr (af t))] [.dead] []
def qh:Option (Int⊕(Unit⊕(Unit))):=
 if(decide (t37<t36))=true then
  (dT t35 t37).bind fun x16=>
  (CG x16).bind fun r17=>
  if(r17 !=0)=true then
   some (.inr (.inl ()))
  else
   some (.inl (bL (t37+1)))
 else
  some (.inr (.inr ()))
def tC:Option (Unit⊕(Unit)):=loop (fun(zz:Int)=>qh t35 t36 zz) t37
theorem wY{y:Int⊕(Unit⊕(Unit))}(h:qh t35 t36 t37=some y):aL Pg GE 0 (cA Hb 119) (LQ (fun(zz:Int)=>fk t t35 t36 zz) fm (d8 t) y) (fk t t35 t36 t37):=by
 rcases aJ h with⟨c15,h⟩|⟨c15,h⟩
 ·obtain⟨x16,bx16,h⟩:=ay h
  obtain⟨r17,br17,h⟩:=ay h
  have p19:=fun{sc F} (r:PS sc F)=>sg 0 c15<|sv (bh.ia (k:=.i64) bx16)<|sv (dB Cb (.str x16) [])<|aX (FB br17)<|r
  rcases aJ h with⟨c18,h⟩|⟨c18,h⟩
  ·obtain rfl:=lf h
   have z:=p19<|sg 0 c18<|eF (fm (.inl ())) (d8 t (.inl ()))
   exact fG tL (by intro hx;cases hx) z<|by kernel_rfl
  ·obtain rfl:=lf h
   exact pZ tL (p19<|sg 0 c18<|eF .normal (fk t t35 t36 (bL (t37+1))))<|by kernel_rfl
 ·obtain rfl:=lf h
  have z:=sg 0 c15<|eF (fm (.inr ())) (d8 t (.inr ()))
  exact fG tL (by intro hx;cases hx) z<|by kernel_rfl
theorem pe{x:Unit⊕(Unit)}(h:tC t35 t36 t37=some x):aL Pg GE 0 (.loop (cA Hb 119)) (EX (fm x) (d8 t x)) (fk t t35 t36 t37):=
 aL.loop (S:=fun(zz:Int)=>fk t t35 t36 zz) (ex:=fm) (s:=t37) h fun zz y hy=>wY t t35 t36 zz hy
end
section
variable(t54:waB)(t55:Int)(t56:Int)
def d9:ax:=aP 68 [(54,sl ac t54),(55,.int .i64 t55),(56,.int .i64 t56)] [.dead] [((54,0),28)]
def fo(o:Int⊕(Unit)):Exit:=match o with
 |(.inl _)=>.ret
 |(.inr _)=>.exit 2
def ea(o:Int⊕(Unit)):ax:=match o with
 |(.inl o)=>aP 68 [(2,.int .i64 o)] [.dead] []
 |(.inr o)=>aP 68 [] [.dead] []
def qi:Option (Int⊕(Int⊕(Unit))):=
 if (decide (t56 < t55)) = true then
  (dT t54 t56).bind fun x26=>
  (nQ x26).bind fun r27=>
  if r27=true then
   some (.inl (bL (t56+1)))
  else
   (y0 x26).bind fun r30=>
   if(r30 !=0)=true then
    some (.inr (.inl r30))
   else
    some (.inl (bL (t56+1)))
 else
  some (.inr (.inr ()))
def tD:Option (Int⊕(Unit)):=loop (fun(zz:Int)=>qi t54 t55 zz) t56
theorem wZ{y:Int⊕(Int⊕(Unit))}(h:qi t54 t55 t56=some y):aL Pg GE 0 (cA Hb 503) (LQ (fun(zz:Int)=>d9 t54 t55 zz) fo ea y) (d9 t54 t55 t56):=by
 rcases aJ h with⟨c25,h⟩|⟨c25,h⟩
 ·obtain⟨x26,bx26,h⟩:=ay h
  obtain⟨r27,br27,h⟩:=ay h
  have p29:=fun{sc F} (r:PS sc F)=>sg 0 c25<|sv (aZ.ia (k:=.i64) bx26)<|sv (aM x26)<|sx fY<|sx (cb x26)<|sv (bj x26 [])<|aX (mZ br27)<|r
  rcases aJ h with⟨c28,h⟩|⟨c28,h⟩
  ·obtain rfl:=lf h
   have z:=p29<|sg 0 c28<|pq 0 .normal (d9 t54 t55 (bL (t56+1))) rfl (cG (aI (up (aw ah t54)) (aI trivial (aI trivial trivial)))) (aI trivial trivial)
   exact cJ (A:=tL) mixed z<|by kernel_rfl
  ·obtain⟨r30,br30,h⟩:=ay h
   have p32:=fun{sc F} (r:PS sc F)=>p29<|sg 0 c28<|sv (bj x26 [])<|aX (Hp br30)<|r
   rcases aJ h with⟨c31,h⟩|⟨c31,h⟩
   ·obtain rfl:=lf h
    have z:=p32<|sg 0 c31<|pq 0 (fo (.inl r30)) (ea (.inl r30)) rfl (cG (aI trivial trivial)) (aI trivial trivial)
    exact oM (A:=tL) mixed (by intro hx;cases hx) z<|by kernel_rfl
   ·obtain rfl:=lf h
    have z:=p32<|sg 0 c31<|pq 0 .normal (d9 t54 t55 (bL (t56+1))) rfl (cG (aI (up (aw ah t54)) (aI trivial (aI trivial trivial)))) (aI trivial trivial)
    exact cJ (A:=tL) mixed z<|by kernel_rfl
 ·obtain rfl:=lf h
  have z:=sg 0 c25<|eF (fo (.inr ())) (ea (.inr ()))
  exact fG tL (by intro hx;cases hx) z<|by kernel_rfl
theorem pf{x:Int⊕(Unit)}(h:tD t54 t55 t56=some x):aL Pg GE 0 (.loop (cA Hb 503)) (EX (fo x) (ea x)) (d9 t54 t55 t56):=
 aL.loop (S:=fun(zz:Int)=>d9 t54 t55 zz) (ex:=fo) (s:=t56) h fun zz y hy=>wZ t54 t55 zz hy
end
def AK(t:ae):Option Int:=
 (tB t).bind fun o12=>
 if o12=true then
  some 1
 else
  (tC t.Names (t.Names.length:Int) 0).bind fun o20=>match o20 with
  |(.inl o20)=>
   some 3
  | (.inr o20) =>
   (vp t.Names).bind fun r21=>
   if(!r21)=true then
    some 4
   else
    (app ([t.Pred]:List aa) t.Preds).bind fun l24=>
    (tD l24 (l24.length:Int) 0).bind fun o33=>match o33 with
    |(.inl o33)=>
     some o33
    |(.inr o33)=>
     some 0
theorem DR{t:ae}{r:Int}(h:AK t=some r):CC Pg GE 114 [.agg (af t)] (.int .i64 r) []:=by
 obtain⟨o12,bo12,h⟩:=ay h
 have p14:=fun{sc F} (r:PS sc F)=>se (bR t)<|iO 1<|ct (zc t bo12)<|r
 rcases aJ h with⟨c13,h⟩|⟨c13,h⟩
 ·obtain rfl:=lf h
  have z:=p14<|sg 0 c13<|en (aI (rP (.int .i64 1))<|trivial)
  exact bo tL call114 func114 (c:=Hb) rfl (aI (al t) trivial) z<|by kernel_rfl
 ·obtain⟨o20,bo20,h⟩:=ay h
  rcases o20 with o20|o20
  ·obtain rfl:=lf h
   have z:=p14<|sg 0 c13<|sv (aN t)<|sv (aO t)<|cf (bh.ln t.Names)<|ct (e:=.ret) (s1:=d8 t (.inl o20)) (pe t t.Names (t.Names.length:Int) 0 bo20)<|en (aI (rP (.int .i64 3))<|trivial)
   exact bo tL call114 func114 (c:=Hb) rfl (aI (al t) trivial) z<|by kernel_rfl
  ·obtain⟨r21,br21,h⟩:=ay h
   have p23:=fun{sc F} (r:PS sc F)=>p14<|sg 0 c13<|sv (aN t)<|sv (aO t)<|cf (bh.ln t.Names)<|ct (e:=.exit 0) (s1:=d8 t (.inr o20)) (pe t t.Names (t.Names.length:Int) 0 bo20)<|sv (aN t)<|sv (aO t)<|aX (zT br21)<|r
   rcases aJ h with⟨c22,h⟩|⟨c22,h⟩
   ·obtain rfl:=lf h
    have z:=p23<|sg 0 c22<|en (aI (rP (.int .i64 4))<|trivial)
    exact bo tL call114 func114 (c:=Hb) rfl (aI (al t) trivial) z<|by kernel_rfl
   ·obtain⟨l24,bl24,h⟩:=ay h
    obtain⟨o33,bo33,h⟩:=ay h
    rcases o33 with o33|o33
    ·obtain rfl:=lf h
     have z:=p23<|sg 0 c22<|sv (bZ t)<|sv (b6 t)<|sv (aZ.mk' (v:=cu) bK ([t.Pred]:List aa) 1 (by kernel_rfl))<|sv (bF t)<|sv (bG t)<|sv (aZ.ap bl24)<|cf (aZ.ln l24)<|ct (e:=.ret) (s1:=ea (.inl o33)) (pf l24 (l24.length:Int) 0 bo33)<|en (aI (rP (.int .i64 o33))<|trivial)
     exact bo tL call114 func114 (c:=Hb) rfl (aI (al t) trivial) z<|by kernel_rfl
    ·obtain rfl:=lf h
     have z:=p23<|sg 0 c22<|sv (bZ t)<|sv (b6 t)<|sv (aZ.mk' (v:=cu) bK ([t.Pred]:List aa) 1 (by kernel_rfl))<|sv (bF t)<|sv (bG t)<|sv (aZ.ap bl24)<|cf (aZ.ln l24)<|ct (e:=.exit 2) (s1:=ea (.inr o33)) (pf l24 (l24.length:Int) 0 bo33)<|en (aI (rP (.int .i64 0))<|trivial)
     exact bo tL call114 func114 (c:=Hb) rfl (aI (al t) trivial) z<|by kernel_rfl
noncomputable def TI:Code:=f78.body.getD .skip
def SW:List Nat:=[11,23]
section
variable(R59:j0)(t13:waC)(t14:Int)(t15:Int)
def eR:ax:=aP 25 [(13,sl af t13),(14,.int .i64 t14),(15,.int .i64 t15)] [.dead] []
def eS(o:Int⊕(Unit)):Exit:=match o with
 |(.inl _)=>.ret
 |(.inr _)=>.exit 0
def dK(o:Int⊕(Unit)):ax:=match o with
 |(.inl o)=>aP 25 [(2,.int .i64 o)] [.dead] []
 |(.inr o)=>aP 25 [] [.dead] []
def pg:Option (Int⊕(Int⊕(Unit))):=
 if(decide (t15<t14))=true then
  (dT t13 t15).bind fun x5=>
  (R59 x5).bind fun r6=>
  if(r6 !=0)=true then
   some (.inr (.inl r6))
  else
   some (.inl (bL (t15+1)))
 else
  some (.inr (.inr ()))
def rt:Option (Int⊕(Unit)):=loop (fun(zz:Int)=>pg R59 t13 t14 zz) t15
theorem vQ(hR59:mO R59){y:Int⊕(Int⊕(Unit))}(h:pg R59 t13 t14 t15=some y):aL Pg GE 0 (cA TI 119) (LQ (fun(zz:Int)=>eR t13 t14 zz) eS dK y) (eR t13 t14 t15):=by
 rcases aJ h with⟨c4,h⟩|⟨c4,h⟩
 ·obtain⟨x5,bx5,h⟩:=ay h
  obtain⟨r6,br6,h⟩:=ay h
  have p8:=fun{sc F} (r:PS sc F)=>sg 0 c4<|sv (cO.ia (k:=.i64) bx5)<|sv (aV x5)<|sx jc<|sx (cQ x5)<|sv (bw x5 [])<|aX (hR59 _ _ br6)<|r
  rcases aJ h with⟨c7,h⟩|⟨c7,h⟩
  ·obtain rfl:=lf h
   have z:=p8<|sg 0 c7<|pq 0 (eS (.inl r6)) (dK (.inl r6)) rfl (cG (aI trivial trivial)) (aI trivial trivial)
   exact oM (A:=SW) mixed (by intro hx;cases hx) z<|by kernel_rfl
  ·obtain rfl:=lf h
   have z:=p8<|sg 0 c7<|pq 0 .normal (eR t13 t14 (bL (t15+1))) rfl (cG (aI (up (aw al t13)) (aI trivial (aI trivial trivial)))) (aI trivial trivial)
   exact cJ (A:=SW) mixed z<|by kernel_rfl
 ·obtain rfl:=lf h
  have z:=sg 0 c4<|eF (eS (.inr ())) (dK (.inr ()))
  exact fG SW (by intro hx;cases hx) z<|by kernel_rfl
theorem np(hR59:mO R59){x:Int⊕(Unit)}(h:rt R59 t13 t14 t15=some x):aL Pg GE 0 (.loop (cA TI 119)) (EX (eS x) (dK x)) (eR t13 t14 t15):=
 aL.loop (S:=fun(zz:Int)=>eR t13 t14 zz) (ex:=eS) (s:=t15) h fun zz y hy=>vQ R59 t13 t14 zz hR59 hy
end
def tE(R59:j0)(t:ae):Option Int:=
 (AK t).bind fun r1=>
 if(r1 !=0)=true then
  some r1
 else
  (rt R59 t.Args (t.Args.length:Int) 0).bind fun o9=>match o9 with
  |(.inl o9)=>
   some o9
  |(.inr o9)=>
   some 0
theorem AM(R59:j0)(hR59:mO R59){t:ae}{r:Int}(h:tE R59 t=some r):CC Pg GE 78 [.agg (af t)] (.int .i64 r) []:=by
 obtain⟨r1,br1,h⟩:=ay h
 have p3:=fun{sc F} (r:PS sc F)=>se (bR t)<|sv (aV t)<|aX (DR br1)<|r
 rcases aJ h with⟨c2,h⟩|⟨c2,h⟩
 ·obtain rfl:=lf h
  have z:=p3<|sg 0 c2<|en (aI (rP (.int .i64 r1))<|trivial)
  exact bo SW call78 func78 (c:=TI) rfl (aI (al t) trivial) z<|by kernel_rfl
 ·obtain⟨o9,bo9,h⟩:=ay h
  rcases o9 with o9|o9
  ·obtain rfl:=lf h
   have z:=p3<|sg 0 c2<|sv (aA t)<|sv (aB t)<|cf (cO.ln t.Args)<|ct (e:=.ret) (s1:=dK (.inl o9)) (np R59 t.Args (t.Args.length:Int) 0 hR59 bo9)<|en (aI (rP (.int .i64 o9))<|trivial)
   exact bo SW call78 func78 (c:=TI) rfl (aI (al t) trivial) z<|by kernel_rfl
  ·obtain rfl:=lf h
   have z:=p3<|sg 0 c2<|sv (aA t)<|sv (aB t)<|cf (cO.ln t.Args)<|ct (e:=.exit 0) (s1:=dK (.inr o9)) (np R59 t.Args (t.Args.length:Int) 0 hR59 bo9)<|en (aI (rP (.int .i64 0))<|trivial)
   exact bo SW call78 func78 (c:=TI) rfl (aI (al t) trivial) z<|by kernel_rfl
def tF:(ae->Option Int)->(ae)->Option Int:=fun(rec:ae->Option Int) (x:ae)=>tE (fun t=>rec t) x
def xR(t:ae):Option Int:=lH tF t
theorem B9{t:ae}{r:Int}(h:xR t=some r):CC Pg GE 78 [.agg (af t)] (.int .i64 r) []:=
 cC (F:=tF) (M:=fun(x:ae) (r:Int)=>CC Pg GE 78 [.agg (af x)] (.int .i64 r) []) (fun rec hrec x r h=>AM _ (fun t r h=>hrec t r h) h) h
noncomputable def Vz:Code:=f37.body.getD .skip
def Vo:List Nat:=[8]
def xQ(t:ae):Option Int:=
 (CS t).bind fun r1=>
 if(r1 !=0)=true then
  some r1
 else
  (xR t).bind fun r4=>
  some r4
theorem B7{t:ae}{r:Int}(h:xQ t=some r):CC Pg GE 37 [.agg (af t)] (.int .i64 r) []:=by
 obtain⟨r1,br1,h⟩:=ay h
 have p3:=fun{sc F} (r:PS sc F)=>se (bR t)<|sv (aV t)<|aX (Gs br1)<|r
 rcases aJ h with⟨c2,h⟩|⟨c2,h⟩
 ·obtain rfl:=lf h
  have z:=p3<|sg 0 c2<|en (aI (rP (.int .i64 r1))<|trivial)
  exact bo Vo call37 func37 (c:=Vz) rfl (aI (al t) trivial) z<|by kernel_rfl
 ·obtain⟨r4,br4,h⟩:=ay h
  obtain rfl:=lf h
  have z:=p3<|sg 0 c2<|sv (aV t)<|aX (B9 br4)<|en (aI (rP (.int .i64 r4))<|trivial)
  exact bo Vo call37 func37 (c:=Vz) rfl (aI (al t) trivial) z<|by kernel_rfl
abbrev sB:=(ae->ae->Option Bool)
abbrev yk(R:sB):Prop:=∀(a:ae) (a2:ae) (r:Bool),R a a2=some r->CC Pg GE 12 [.agg (af a),.agg (af a2)] (.bool r) []
noncomputable def TF:Code:=f32.body.getD .skip
def ST:List Nat:=[15]
section
variable(v:waA)(v2:waA)(t12:Int)(t13:Int)
def jn:ax:=aP 26 [(0,sl cS v),(1,sl cS v2),(12,.int .i64 t12),(13,.int .i64 t13)] [] []
def jo(o:Unit⊕(Unit)):Exit:=match o with
 |(.inl _)=>.ret
 |(.inr _)=>.exit 0
def gR(o:Unit⊕(Unit)):ax:=match o with
 |(.inl o)=>aP 26 [(4,.bool false)] [] []
 |(.inr o)=>aP 26 [] [] []
def qo:Option (Int⊕(Unit⊕(Unit))):=
 if(decide (t13<t12))=true then
  (dT v t13).bind fun x4=>
  (dT v2 t13).bind fun x5=>
  if(!(x4==x5))=true then
   some (.inr (.inl ()))
  else
   some (.inl (bL (t13+1)))
 else
  some (.inr (.inr ()))
def uj:Option (Unit⊕(Unit)):=loop (fun(zz:Int)=>qo v v2 t12 zz) t13
theorem C4{y:Int⊕(Unit⊕(Unit))}(h:qo v v2 t12 t13=some y):aL Pg GE 0 (cA TF 119) (LQ (fun(zz:Int)=>jn v v2 t12 zz) jo gR y) (jn v v2 t12 t13):=by
 rcases aJ h with⟨c3,h⟩|⟨c3,h⟩
 ·obtain⟨x4,bx4,h⟩:=ay h
  obtain⟨x5,bx5,h⟩:=ay h
  have p7:=fun{sc F} (r:PS sc F)=>sg 0 c3<|ze [0,0,3,7,0,0,48,112,255]<|sv (bh.ia (k:=.i64) bx4)<|sv (dB Cb (.str x4) [])<|sv (bh.ia (k:=.i64) bx5)<|sv (dB Cb (.str x5) [])<|r
  rcases aJ h with⟨c6,h⟩|⟨c6,h⟩
  ·obtain rfl:=lf h
   have z:=p7<|sg 0 c6<|eF (jo (.inl ())) (gR (.inl ()))
   exact fG ST (by intro hx;cases hx) z<|by kernel_rfl
  ·obtain rfl:=lf h
   exact pZ ST (p7<|sg 0 c6<|eF .normal (jn v v2 t12 (bL (t13+1))))<|by kernel_rfl
 ·obtain rfl:=lf h
  have z:=sg 0 c3<|eF (jo (.inr ())) (gR (.inr ()))
  exact fG ST (by intro hx;cases hx) z<|by kernel_rfl
theorem uk{x:Unit⊕(Unit)}(h:uj v v2 t12 t13=some x):aL Pg GE 0 (.loop (cA TF 119)) (EX (jo x) (gR x)) (jn v v2 t12 t13):=
 aL.loop (S:=fun(zz:Int)=>jn v v2 t12 zz) (ex:=jo) (s:=t13) h fun zz y hy=>C4 v v2 t12 zz hy
end
def n9(a:waA)(a2:waA):Option Bool:=
 if((a.length:Int)!=(a2.length:Int))=true then
  some false
 else
  (uj a a2 (a.length:Int) 0).bind fun o8=>match o8 with
  |(.inl o8)=>
   some false
  |(.inr o8)=>
   some true
theorem py{a:waA}{a2:waA}{r:Bool}(h:n9 a a2=some r):CC Pg GE 32 [sl cS a,sl cS a2] (.bool r) []:=by
 have p2:=fun{sc F} (r:PS sc F)=>cf (bh.ln a)<|cf (bh.ln a2)<|r
 rcases aJ h with⟨c1,h⟩|⟨c1,h⟩
 ·obtain rfl:=lf h
  have z:=p2<|sg 0 c1<|en (aI (rP (.bool false))<|trivial)
  exact bo ST call32 func32 (c:=TF) rfl (aI (aw ie a) (aI (aw ie a2) trivial)) z<|by kernel_rfl
 ·obtain⟨o8,bo8,h⟩:=ay h
  rcases o8 with o8|o8
  ·obtain rfl:=lf h
   have z:=p2<|sg 0 c1<|cf (bh.ln a)<|ct (e:=.ret) (s1:=gR (.inl o8)) (uk a a2 (a.length:Int) 0 bo8)<|en (aI (rP (.bool false))<|trivial)
   exact bo ST call32 func32 (c:=TF) rfl (aI (aw ie a) (aI (aw ie a2) trivial)) z<|by kernel_rfl
  ·obtain rfl:=lf h
   have z:=p2<|sg 0 c1<|cf (bh.ln a)<|ct (e:=.exit 0) (s1:=gR (.inr o8)) (uk a a2 (a.length:Int) 0 bo8)<|en (aI (rP (.bool true))<|trivial)
   exact bo ST call32 func32 (c:=TF) rfl (aI (aw ie a) (aI (aw ie a2) trivial)) z<|by kernel_rfl
noncomputable def Ww:Code:=f59.body.getD .skip
def Wh:List Nat:=[]
def JU:Option aa:=
 some (⟨2,([]:ag),1,([]:List aa)⟩:aa)
theorem JV{r:aa}(h:JU=some r):CC Pg GE 59 [] (.agg (ac r)) [(3,28)]:=by
 obtain rfl:=lf h
 have z:=sx fY<|sb (nE 2 1) (nB 2 1)<|sy (aQ (⟨2,([]:ag),1,([]:List aa)⟩:aa))<|en (aI (dw (⟨2,([]:ag),1,([]:List aa)⟩:aa))<|aI (ah (⟨2,([]:ag),1,([]:List aa)⟩:aa))<|rT)
 exact bo Wh call59 func59 (c:=Ww) rfl trivial z<|by kernel_rfl
abbrev sq:=(aa->aa->Option Bool)
abbrev yg(R:sq):Prop:=∀(a:aa) (a2:aa) (r:Bool),R a a2=some r->CC Pg GE 22 [.agg (ac a),.agg (ac a2)] (.bool r) []
noncomputable def SX:Code:=f22.body.getD .skip
def P6:List Nat:=[39]
section
variable(v:aa)(v2:aa)
def GP:ax:=aP 53 [(2,.eptr (ac v)),(3,.eptr (ac v2))] [.dead,.dead] []
def jt(o:Bool):ax:=aP 53 [(2,.eptr (ac v)),(3,.eptr (ac v2)),(33,.bool o)] [.dead,.dead] []
def uw:Option Bool:=
 if(v.Op !=v2.Op)=true then
  some true
 else
  if(!(v.Name==v2.Name))=true then
   some true
  else
   if(v.N !=v2.N)=true then
    some true
   else
    some ((v.Kids.length:Int)!=(v2.Kids.length:Int))
theorem Ey{x:Bool}(h:uw v v2=some x):aL Pg GE 0 (cA SX 12) (EX .normal (jt v v2 x)) (GP v v2):=by
 have p2:=fun{sc F} (r:PS sc F)=>sv (aD v)<|sv (aE v)<|sv (aD v2)<|sv (aE v2)<|r
 rcases aJ h with⟨c1,h⟩|⟨c1,h⟩
 ·obtain rfl:=lf h
  exact bm P6 (p2<|sg 6 c1<|eF .normal (jt v v2 true))<|by kernel_rfl
 ·have p4:=fun{sc F} (r:PS sc F)=>p2<|sg 6 c1<|sv (bp v)<|sv (bH v)<|sv (bp v2)<|sv (bH v2)<|r
  rcases aJ h with⟨c3,h⟩|⟨c3,h⟩
  ·obtain rfl:=lf h
   exact bm P6 (p4<|sg 13 c3<|eF .normal (jt v v2 true))<|by kernel_rfl
  ·have p6:=fun{sc F} (r:PS sc F)=>p4<|sg 13 c3<|sv (bu v)<|sv (bI v)<|sv (bu v2)<|sv (bI v2)<|r
   rcases aJ h with⟨c5,h⟩|⟨c5,h⟩
   ·obtain rfl:=lf h
    exact bm P6 (p6<|sg 20 c5<|eF .normal (jt v v2 true))<|by kernel_rfl
   ·obtain rfl:=lf h
    exact bm P6 (p6<|sg 20 c5<|sv (aG v)<|sv (aH v)<|cf (aZ.ln v.Kids)<|sv (aG v2)<|sv (aH v2)<|cf (aZ.ln v2.Kids)<|eF .normal (jt v v2 ((v.Kids.length:Int)!=(v2.Kids.length:Int))))<|by kernel_rfl
end
section
variable(R76:sq)(v:aa)(v2:aa)(t36:Int)(t37:Int)
def jv:ax:=aP 53 [(2,.eptr (ac v)),(3,.eptr (ac v2)),(36,.int .i64 t36),(37,.int .i64 t37)] [.dead,.dead] []
def jw(o:Unit⊕(Unit)):Exit:=match o with
 |(.inl _)=>.ret
 |(.inr _)=>.exit 0
def gT(o:Unit⊕(Unit)):ax:=match o with
 |(.inl o)=>aP 53 [(4,.bool false)] [.dead,.dead] []
 |(.inr o)=>aP 53 [] [.dead,.dead] []
def mb:Option (Int⊕(Unit⊕(Unit))):=
 if(decide (t37<t36))=true then
  (dT v.Kids t37).bind fun x11=>
  (dT v2.Kids t37).bind fun x12=>
  (R76 x11 x12).bind fun r13=>
  if(!r13)=true then
   some (.inr (.inl ()))
  else
   some (.inl (bL (t37+1)))
 else
  some (.inr (.inr ()))
def uy:Option (Unit⊕(Unit)):=loop (fun(zz:Int)=>mb R76 v v2 t36 zz) t37
theorem Dg(hR76:yg R76){y:Int⊕(Unit⊕(Unit))}(h:mb R76 v v2 t36 t37=some y):aL Pg GE 0 (cA SX 119) (LQ (fun(zz:Int)=>jv v v2 t36 zz) jw gT y) (jv v v2 t36 t37):=by
 rcases aJ h with⟨c10,h⟩|⟨c10,h⟩
 ·obtain⟨x11,bx11,h⟩:=ay h
  obtain⟨x12,bx12,h⟩:=ay h
  obtain⟨r13,br13,h⟩:=ay h
  have p15:=fun{sc F} (r:PS sc F)=>sg 0 c10<|ze [0,1,0,7,15,0,32,0,224,480,1023,2047]<|sv (aG v)<|sv (aH v)<|sv (aZ.ia (k:=.i64) bx11)<|sv (aM x11)<|sv (aG v2)<|sv (aH v2)<|sv (aZ.ia (k:=.i64) bx12)<|sv (aM x12)<|aX (hR76 _ _ _ br13)<|r
  rcases aJ h with⟨c14,h⟩|⟨c14,h⟩
  ·obtain rfl:=lf h
   have z:=p15<|sg 0 c14<|eF (jw (.inl ())) (gT (.inl ()))
   exact fG P6 (by intro hx;cases hx) z<|by kernel_rfl
  ·obtain rfl:=lf h
   exact pZ P6 (p15<|sg 0 c14<|eF .normal (jv v v2 t36 (bL (t37+1))))<|by kernel_rfl
 ·obtain rfl:=lf h
  have z:=sg 0 c10<|eF (jw (.inr ())) (gT (.inr ()))
  exact fG P6 (by intro hx;cases hx) z<|by kernel_rfl
theorem uz(hR76:yg R76){x:Unit⊕(Unit)}(h:uy R76 v v2 t36 t37=some x):aL Pg GE 0 (.loop (cA SX 119)) (EX (jw x) (gT x)) (jv v v2 t36 t37):=
 aL.loop (S:=fun(zz:Int)=>jv v v2 t36 zz) (ex:=jw) (s:=t37) h fun zz y hy=>Dg R76 v v2 t36 zz hR76 hy
end
def sa(R76:sq)(a:aa)(a2:aa):Option Bool:=
 (uw a a2).bind fun o7=>
 if o7=true then
  some false
 else
  (uy R76 a a2 (a.Kids.length:Int) 0).bind fun o16=>match o16 with
  |(.inl o16)=>
   some false
  |(.inr o16)=>
   some true
theorem ID(R76:sq)(hR76:yg R76){a:aa}{a2:aa}{r:Bool}(h:sa R76 a a2=some r):CC Pg GE 22 [.agg (ac a),.agg (ac a2)] (.bool r) []:=by
 obtain⟨o7,bo7,h⟩:=ay h
 have p9:=fun{sc F} (r:PS sc F)=>se (bJ a)<|se (bJ a2)<|iO 1<|ct (Ey a a2 bo7)<|r
 rcases aJ h with⟨c8,h⟩|⟨c8,h⟩
 ·obtain rfl:=lf h
  have z:=p9<|sg 0 c8<|en (aI (rP (.bool false))<|trivial)
  exact bo P6 call22 func22 (c:=SX) rfl (aI (ah a) (aI (ah a2) trivial)) z<|by kernel_rfl
 ·obtain⟨o16,bo16,h⟩:=ay h
  rcases o16 with o16|o16
  ·obtain rfl:=lf h
   have z:=p9<|sg 0 c8<|sv (aG a)<|sv (aH a)<|cf (aZ.ln a.Kids)<|ct (e:=.ret) (s1:=gT (.inl o16)) (uz R76 a a2 (a.Kids.length:Int) 0 hR76 bo16)<|en (aI (rP (.bool false))<|trivial)
   exact bo P6 call22 func22 (c:=SX) rfl (aI (ah a) (aI (ah a2) trivial)) z<|by kernel_rfl
  ·obtain rfl:=lf h
   have z:=p9<|sg 0 c8<|sv (aG a)<|sv (aH a)<|cf (aZ.ln a.Kids)<|ct (e:=.exit 0) (s1:=gT (.inr o16)) (uz R76 a a2 (a.Kids.length:Int) 0 hR76 bo16)<|en (aI (rP (.bool true))<|trivial)
   exact bo P6 call22 func22 (c:=SX) rfl (aI (ah a) (aI (ah a2) trivial)) z<|by kernel_rfl
def yp:((aa×aa)->Option Bool)->(aa×aa)->Option Bool:=fun(rec:(aa×aa)->Option Bool) (x:aa×aa)=>sa (fun a a2=>rec (a,a2)) x.1 x.2
def jr(a:aa)(a2:aa):Option Bool:=lH yp (a,a2)
theorem iy{a:aa}{a2:aa}{r:Bool}(h:jr a a2=some r):CC Pg GE 22 [.agg (ac a),.agg (ac a2)] (.bool r) []:=
 cC (F:=yp) (M:=fun(x:aa×aa) (r:Bool)=>CC Pg GE 22 [.agg (ac x.1),.agg (ac x.2)] (.bool r) []) (fun rec hrec x r h=>ID _ (fun a a2 r h=>hrec (a,a2) r h) h) h
noncomputable def VE:Code:=f87.body.getD .skip
def Vt:List Nat:=[]
def Ez(p:aa):Option Bool:=
 JU.bind fun r1=>
 (jr p r1).bind fun r2=>
 if r2=true then
  some true
 else
  (jr p (⟨0,([]:ag),0,([]:List aa)⟩:aa)).bind fun r5=>
  some r5
theorem Cp{p:aa}{r:Bool}(h:Ez p=some r):CC Pg GE 87 [.agg (ac p)] (.bool r) []:=by
 obtain⟨r1,br1,h⟩:=ay h
 obtain⟨r2,br2,h⟩:=ay h
 have p4:=fun{sc F} (r:PS sc F)=>se (bJ p)<|ze [0,0,3,7,15,15,63,127,255]<|sv (aM p)<|aX (JV br1)<|aX (iy br2)<|r
 rcases aJ h with⟨c3,h⟩|⟨c3,h⟩
 ·obtain rfl:=lf h
  have z:=p4<|sg 4 c3<|en (aI (rP (.bool true))<|trivial)
  exact bo Vt call87 func87 (c:=VE) rfl (aI (ah p) trivial) z<|by kernel_rfl
 ·obtain⟨r5,br5,h⟩:=ay h
  obtain rfl:=lf h
  have z:=p4<|sg 4 c3<|sv (aM p)<|sb (oC) (oA)<|aX (iy br5)<|en (aI (rP (.bool r5))<|trivial)
  exact bo Vt call87 func87 (c:=VE) rfl (aI (ah p) trivial) z<|by kernel_rfl
noncomputable def UM:Code:=f48.body.getD .skip
def Ux:List Nat:=[]
def EV(a:aa)(a2:aa):Option Bool:=
 (Ez a).bind fun r1=>
 if r1=true then
  (Ez a2).bind fun r4=>
  if r4=true then
   some true
  else
   (jr a a2).bind fun r7=>
   some r7
 else
  (jr a a2).bind fun r8=>
  some r8
theorem Ct{a:aa}{a2:aa}{r:Bool}(h:EV a a2=some r):CC Pg GE 48 [.agg (ac a),.agg (ac a2)] (.bool r) []:=by
 obtain⟨r1,br1,h⟩:=ay h
 have p3:=fun{sc F} (r:PS sc F)=>se (bJ a)<|se (bJ a2)<|sv (aM a)<|aX (Cp br1)<|r
 rcases aJ h with⟨c2,h⟩|⟨c2,h⟩
 ·obtain⟨r4,br4,h⟩:=ay h
  have p6:=fun{sc F} (r:PS sc F)=>p3<|sg 3 c2<|sv (aM a2)<|aX (Cp br4)<|r
  rcases aJ h with⟨c5,h⟩|⟨c5,h⟩
  ·obtain rfl:=lf h
   have z:=p6<|sg 7 c5<|en (aI (rP (.bool true))<|trivial)
   exact bo Ux call48 func48 (c:=UM) rfl (aI (ah a) (aI (ah a2) trivial)) z<|by kernel_rfl
  ·obtain⟨r7,br7,h⟩:=ay h
   obtain rfl:=lf h
   have z:=p6<|sg 7 c5<|sv (aM a)<|sv (aM a2)<|aX (iy br7)<|en (aI (rP (.bool r7))<|trivial)
   exact bo Ux call48 func48 (c:=UM) rfl (aI (ah a) (aI (ah a2) trivial)) z<|by kernel_rfl
 ·obtain⟨r8,br8,h⟩:=ay h
  obtain rfl:=lf h
  have z:=p3<|sg 3 c2<|sv (aM a)<|sv (aM a2)<|aX (iy br8)<|en (aI (rP (.bool r8))<|trivial)
  exact bo Ux call48 func48 (c:=UM) rfl (aI (ah a) (aI (ah a2) trivial)) z<|by kernel_rfl
noncomputable def Qu:Code:=f12.body.getD .skip
def La:List Nat:=[58,77]
section
variable(v:ae)(v2:ae)
def G4:ax:=aP 91 [(2,.eptr (af v)),(3,.eptr (af v2))] [.dead,.dead] []
def ft(o:Bool):ax:=aP 91 [(2,.eptr (af v)),(3,.eptr (af v2)),(52,.bool o)] [.dead,.dead] []
def Cq:Option Bool:=
 if(v.Op !=v2.Op)=true then
  some true
 else
  if(!(v.Name==v2.Name))=true then
   some true
  else
   if((v.Args.length:Int)!=(v2.Args.length:Int))=true then
    some true
   else
    if((v.Preds.length:Int)!=(v2.Preds.length:Int))=true then
     some true
    else
     (n9 v.Names v2.Names).bind fun r9=>
     if(!r9)=true then
      some true
     else
      (EV v.Pred v2.Pred).bind fun r12=>
      some (!r12)
theorem ER{x:Bool}(h:Cq v v2=some x):aL Pg GE 0 (cA Qu 12) (EX .normal (ft v v2 x)) (G4 v v2):=by
 have p2:=fun{sc F} (r:PS sc F)=>sv (aq v)<|sv (au v)<|sv (aq v2)<|sv (au v2)<|r
 rcases aJ h with⟨c1,h⟩|⟨c1,h⟩
 ·obtain rfl:=lf h
  exact bm La (p2<|sg 6 c1<|eF .normal (ft v v2 true))<|by kernel_rfl
 ·have p4:=fun{sc F} (r:PS sc F)=>p2<|sg 6 c1<|sv (ch v)<|sv (cn v)<|sv (ch v2)<|sv (cn v2)<|r
  rcases aJ h with⟨c3,h⟩|⟨c3,h⟩
  ·obtain rfl:=lf h
   exact bm La (p4<|sg 13 c3<|eF .normal (ft v v2 true))<|by kernel_rfl
  ·have p6:=fun{sc F} (r:PS sc F)=>p4<|sg 13 c3<|sv (aA v)<|sv (aB v)<|cf (cO.ln v.Args)<|sv (aA v2)<|sv (aB v2)<|cf (cO.ln v2.Args)<|r
   rcases aJ h with⟨c5,h⟩|⟨c5,h⟩
   ·obtain rfl:=lf h
    exact bm La (p6<|sg 22 c5<|eF .normal (ft v v2 true))<|by kernel_rfl
   ·have p8:=fun{sc F} (r:PS sc F)=>p6<|sg 22 c5<|sv (bF v)<|sv (bG v)<|cf (aZ.ln v.Preds)<|sv (bF v2)<|sv (bG v2)<|cf (aZ.ln v2.Preds)<|r
    rcases aJ h with⟨c7,h⟩|⟨c7,h⟩
    ·obtain rfl:=lf h
     exact bm La (p8<|sg 31 c7<|eF .normal (ft v v2 true))<|by kernel_rfl
    ·obtain⟨r9,br9,h⟩:=ay h
     have p11:=fun{sc F} (r:PS sc F)=>p8<|sg 31 c7<|sv (aN v)<|sv (aO v)<|sv (aN v2)<|sv (aO v2)<|aX (py br9)<|r
     rcases aJ h with⟨c10,h⟩|⟨c10,h⟩
     ·obtain rfl:=lf h
      exact bm La (p11<|sg 39 c10<|eF .normal (ft v v2 true))<|by kernel_rfl
     ·obtain⟨r12,br12,h⟩:=ay h
      obtain rfl:=lf h
      exact bm La (p11<|sg 39 c10<|sv (bZ v)<|sv (b6 v)<|sv (bZ v2)<|sv (b6 v2)<|aX (Ct br12)<|eF .normal (ft v v2 (!r12)))<|by kernel_rfl
end
section
variable(v:ae)(v2:ae)(t55:Int)(t56:Int)
def jD:ax:=aP 91 [(2,.eptr (af v)),(3,.eptr (af v2)),(55,.int .i64 t55),(56,.int .i64 t56)] [.dead,.dead] []
def jE(o:Unit⊕(Unit)):Exit:=match o with
 |(.inl _)=>.ret
 |(.inr _)=>.exit 0
def fu(o:Unit⊕(Unit)):ax:=match o with
 |(.inl o)=>aP 91 [(4,.bool false)] [.dead,.dead] []
 |(.inr o)=>aP 91 [(2,.eptr (af v)),(3,.eptr (af v2))] [.dead,.dead] []
def xg:Option (Int⊕(Unit⊕(Unit))):=
 if(decide (t56<t55))=true then
  (dT v.Preds t56).bind fun x17=>
  (dT v2.Preds t56).bind fun x18=>
  (EV x17 x18).bind fun r19=>
  if(!r19)=true then
   some (.inr (.inl ()))
  else
   some (.inl (bL (t56+1)))
 else
  some (.inr (.inr ()))
def Cr:Option (Unit⊕(Unit)):=loop (fun(zz:Int)=>xg v v2 t55 zz) t56
theorem Dl{y:Int⊕(Unit⊕(Unit))}(h:xg v v2 t55 t56=some y):aL Pg GE 0 (cA Qu 119) (LQ (fun(zz:Int)=>jD v v2 t55 zz) jE (fu v v2) y) (jD v v2 t55 t56):=by
 rcases aJ h with⟨c16,h⟩|⟨c16,h⟩
 ·obtain⟨x17,bx17,h⟩:=ay h
  obtain⟨x18,bx18,h⟩:=ay h
  obtain⟨r19,br19,h⟩:=ay h
  have p21:=fun{sc F} (r:PS sc F)=>sg 0 c16<|ze [0,1,0,7,15,0,32,0,224,480,1023,2047]<|sv (bF v)<|sv (bG v)<|sv (aZ.ia (k:=.i64) bx17)<|sv (aM x17)<|sv (bF v2)<|sv (bG v2)<|sv (aZ.ia (k:=.i64) bx18)<|sv (aM x18)<|aX (Ct br19)<|r
  rcases aJ h with⟨c20,h⟩|⟨c20,h⟩
  ·obtain rfl:=lf h
   have z:=p21<|sg 0 c20<|eF (jE (.inl ())) (fu v v2 (.inl ()))
   exact fG La (by intro hx;cases hx) z<|by kernel_rfl
  ·obtain rfl:=lf h
   exact pZ La (p21<|sg 0 c20<|eF .normal (jD v v2 t55 (bL (t56+1))))<|by kernel_rfl
 ·obtain rfl:=lf h
  have z:=sg 0 c16<|eF (jE (.inr ())) (fu v v2 (.inr ()))
  exact fG La (by intro hx;cases hx) z<|by kernel_rfl
theorem oo{x:Unit⊕(Unit)}(h:Cr v v2 t55 t56=some x):aL Pg GE 0 (.loop (cA Qu 119)) (EX (jE x) (fu v v2 x)) (jD v v2 t55 t56):=
 aL.loop (S:=fun(zz:Int)=>jD v v2 t55 zz) (ex:=jE) (s:=t56) h fun zz y hy=>Dl v v2 t55 zz hy
end
section
variable(R71:sB)(v:ae)(v2:ae)(t74:Int)(t75:Int)
def jF:ax:=aP 91 [(2,.eptr (af v)),(3,.eptr (af v2)),(74,.int .i64 t74),(75,.int .i64 t75)] [.dead,.dead] []
def jG(o:Unit⊕(Unit)):Exit:=match o with
 |(.inl _)=>.ret
 |(.inr _)=>.exit 2
def gZ(o:Unit⊕(Unit)):ax:=match o with
 |(.inl o)=>aP 91 [(4,.bool false)] [.dead,.dead] []
 |(.inr o)=>aP 91 [] [.dead,.dead] []
def xh:Option (Int⊕(Unit⊕(Unit))):=
 if(decide (t75<t74))=true then
  (dT v.Args t75).bind fun x24=>
  (dT v2.Args t75).bind fun x25=>
  (R71 x24 x25).bind fun r26=>
  if(!r26)=true then
   some (.inr (.inl ()))
  else
   some (.inl (bL (t75+1)))
 else
  some (.inr (.inr ()))
def Cs:Option (Unit⊕(Unit)):=loop (fun(zz:Int)=>xh R71 v v2 t74 zz) t75
theorem Dm(hR71:yk R71){y:Int⊕(Unit⊕(Unit))}(h:xh R71 v v2 t74 t75=some y):aL Pg GE 0 (cA Qu 247) (LQ (fun(zz:Int)=>jF v v2 t74 zz) jG gZ y) (jF v v2 t74 t75):=by
 rcases aJ h with⟨c23,h⟩|⟨c23,h⟩
 ·obtain⟨x24,bx24,h⟩:=ay h
  obtain⟨x25,bx25,h⟩:=ay h
  obtain⟨r26,br26,h⟩:=ay h
  have p28:=fun{sc F} (r:PS sc F)=>sg 0 c23<|ze [0,1,0,7,15,0,32,0,224,480,1023,2047]<|sv (aA v)<|sv (aB v)<|sv (cO.ia (k:=.i64) bx24)<|sv (aV x24)<|sv (aA v2)<|sv (aB v2)<|sv (cO.ia (k:=.i64) bx25)<|sv (aV x25)<|aX (hR71 _ _ _ br26)<|r
  rcases aJ h with⟨c27,h⟩|⟨c27,h⟩
  ·obtain rfl:=lf h
   have z:=p28<|sg 0 c27<|eF (jG (.inl ())) (gZ (.inl ()))
   exact fG La (by intro hx;cases hx) z<|by kernel_rfl
  ·obtain rfl:=lf h
   exact pZ La (p28<|sg 0 c27<|eF .normal (jF v v2 t74 (bL (t75+1))))<|by kernel_rfl
 ·obtain rfl:=lf h
  have z:=sg 0 c23<|eF (jG (.inr ())) (gZ (.inr ()))
  exact fG La (by intro hx;cases hx) z<|by kernel_rfl
theorem uT(hR71:yk R71){x:Unit⊕(Unit)}(h:Cs R71 v v2 t74 t75=some x):aL Pg GE 0 (.loop (cA Qu 247)) (EX (jG x) (gZ x)) (jF v v2 t74 t75):=
 aL.loop (S:=fun(zz:Int)=>jF v v2 t74 zz) (ex:=jG) (s:=t75) h fun zz y hy=>Dm R71 v v2 t74 zz hR71 hy
end
def EP(R71:sB)(a:ae)(a2:ae):Option Bool:=
 (Cq a a2).bind fun o13=>
 if o13=true then
  some false
 else
  (Cr a a2 (a.Preds.length:Int) 0).bind fun o22=>match o22 with
  |(.inl o22)=>
   some false
  | (.inr o22) =>
   (Cs R71 a a2 (a.Args.length:Int) 0).bind fun o29=>match o29 with
   |(.inl o29)=>
    some false
   |(.inr o29)=>
    some true
theorem IL(R71:sB)(hR71:yk R71){a:ae}{a2:ae}{r:Bool}(h:EP R71 a a2=some r):CC Pg GE 12 [.agg (af a),.agg (af a2)] (.bool r) []:=by
 obtain⟨o13,bo13,h⟩:=ay h
 have p15:=fun{sc F} (r:PS sc F)=>se (bR a)<|se (bR a2)<|iO 1<|ct (ER a a2 bo13)<|r
 rcases aJ h with⟨c14,h⟩|⟨c14,h⟩
 ·obtain rfl:=lf h
  have z:=p15<|sg 0 c14<|en (aI (rP (.bool false))<|trivial)
  exact bo La call12 func12 (c:=Qu) rfl (aI (al a) (aI (al a2) trivial)) z<|by kernel_rfl
 ·obtain⟨o22,bo22,h⟩:=ay h
  rcases o22 with o22|o22
  ·obtain rfl:=lf h
   have z:=p15<|sg 0 c14<|sv (bF a)<|sv (bG a)<|cf (aZ.ln a.Preds)<|ct (e:=.ret) (s1:=fu a a2 (.inl o22)) (oo a a2 (a.Preds.length:Int) 0 bo22)<|en (aI (rP (.bool false))<|trivial)
   exact bo La call12 func12 (c:=Qu) rfl (aI (al a) (aI (al a2) trivial)) z<|by kernel_rfl
  ·obtain⟨o29,bo29,h⟩:=ay h
   rcases o29 with o29|o29
   ·obtain rfl:=lf h
    have z:=p15<|sg 0 c14<|sv (bF a)<|sv (bG a)<|cf (aZ.ln a.Preds)<|ct (e:=.exit 0) (s1:=fu a a2 (.inr o22)) (oo a a2 (a.Preds.length:Int) 0 bo22)<|sv (aA a)<|sv (aB a)<|cf (cO.ln a.Args)<|ct (e:=.ret) (s1:=gZ (.inl o29)) (uT R71 a a2 (a.Args.length:Int) 0 hR71 bo29)<|en (aI (rP (.bool false))<|trivial)
    exact bo La call12 func12 (c:=Qu) rfl (aI (al a) (aI (al a2) trivial)) z<|by kernel_rfl
   ·obtain rfl:=lf h
    have z:=p15<|sg 0 c14<|sv (bF a)<|sv (bG a)<|cf (aZ.ln a.Preds)<|ct (e:=.exit 0) (s1:=fu a a2 (.inr o22)) (oo a a2 (a.Preds.length:Int) 0 bo22)<|sv (aA a)<|sv (aB a)<|cf (cO.ln a.Args)<|ct (e:=.exit 2) (s1:=gZ (.inr o29)) (uT R71 a a2 (a.Args.length:Int) 0 hR71 bo29)<|en (aI (rP (.bool true))<|trivial)
    exact bo La call12 func12 (c:=Qu) rfl (aI (al a) (aI (al a2) trivial)) z<|by kernel_rfl
def EQ:((ae×ae)->Option Bool)->(ae×ae)->Option Bool:=fun(rec:(ae×ae)->Option Bool) (x:ae×ae)=>EP (fun a a2=>rec (a,a2)) x.1 x.2
def uS(a:ae)(a2:ae):Option Bool:=lH EQ (a,a2)
theorem pG{a:ae}{a2:ae}{r:Bool}(h:uS a a2=some r):CC Pg GE 12 [.agg (af a),.agg (af a2)] (.bool r) []:=
 cC (F:=EQ) (M:=fun(x:ae×ae) (r:Bool)=>CC Pg GE 12 [.agg (af x.1),.agg (af x.2)] (.bool r) []) (fun rec hrec x r h=>IL _ (fun a a2 r h=>hrec (a,a2) r h) h) h
noncomputable def Wu:Code:=f57.body.getD .skip
def Wf:List Nat:=[]
def F2(p:aa)(name:ag)(a:aa):Option aa:=
 (ml p ([name]:List ag) ([a]:List aa)).bind fun r1=>
 some r1
theorem Hr{p:aa}{name:ag}{a:aa}{r:aa}(h:F2 p name a=some r):CC Pg GE 57 [.agg (ac p),.str name,.agg (ac a)] (.agg (ac r)) [(3,28)]:=by
 obtain⟨r1,br1,h⟩:=ay h
 obtain rfl:=lf h
 have z:=se (bJ p)<|se (bJ a)<|sx fY<|sv (aM p)<|sv (bh.mk' (v:=PVal.str) D8 ([name]:List ag) 1 (by kernel_rfl))<|sv (aM a)<|sv (aZ.mk' (v:=cu) bK ([a]:List aa) 1 (by kernel_rfl))<|aX (rm br1)<|sy (aQ r1)<|en (aI (dw r1)<|aI (ah r1)<|rT)
 exact bo Wf call57 func57 (c:=Wu) rfl (aI (ah p) (aI trivial (aI (ah a) trivial))) z<|by kernel_rfl
noncomputable def UK:Code:=f23.body.getD .skip
def Uf:List Nat:=[]
section
variable(t:ae)(v:aa)(m:waB)
def DP:ax:=aP 18 [(2,.eptr (af t)),(3,.eptr (ac v)),(4,.bptr 2 0)] [.dead,.dead,.cells [.int .i64 0,.str ([]:ag),.int .i64 0,sl ac m] [(3,28)]] []
def mV(o:Bool):ax:=aP 18 [(2,.eptr (af t)),(3,.eptr (ac v)),(4,.bptr 2 0),(12,.bool o)] [.dead,.dead,.cells [.int .i64 0,.str ([]:ag),.int .i64 0,sl ac m] [(3,28)]] []
def xP:Option Bool:=
 if(t.Op==6)=true then
  some true
 else
  (nQ t.Pred).bind fun r3=>
  some r3
theorem B6{x:Bool}(h:xP t=some x):aL Pg GE 0 (cA UK 12) (EX .normal (mV t v m x)) (DP t v m):=by
 have p2:=fun{sc F} (r:PS sc F)=>sv (aq t)<|sv (au t)<|r
 rcases aJ h with⟨c1,h⟩|⟨c1,h⟩
 ·obtain rfl:=lf h
  exact bm Uf (p2<|sg 4 c1<|eF .normal (mV t v m true))<|by kernel_rfl
 ·obtain⟨r3,br3,h⟩:=ay h
  obtain rfl:=lf h
  exact bm Uf (p2<|sg 4 c1<|sv (bZ t)<|sv (b6 t)<|aX (mZ br3)<|eF .normal (mV t v m r3))<|by kernel_rfl
end
def Gi(t:ae)(a:aa):Option aa:=
 (xP t).bind fun o4=>
 if o4=true then
  some (⟨2,([]:ag),1,([]:List aa)⟩:aa)
 else
  (F2 t.Pred ([118]:ag) a).bind fun r7=>
  some r7
theorem Hv{t:ae}{a:aa}{r:aa}(h:Gi t a=some r):CC Pg GE 23 [.agg (af t),.agg (ac a)] (.agg (ac r)) [(3,28)]:=by
 obtain⟨o4,bo4,h⟩:=ay h
 have p6:=fun{sc F} (r:PS sc F)=>se (bR t)<|se (bJ a)<|sx fY<|iO 1<|ct (B6 t a ([]:List aa) bo4)<|r
 rcases aJ h with⟨c5,h⟩|⟨c5,h⟩
 ·obtain rfl:=lf h
  have z:=p6<|sg 0 c5<|sb (nE 2 1) (nB 2 1)<|sy (aQ (⟨2,([]:ag),1,([]:List aa)⟩:aa))<|en (aI (dw (⟨2,([]:ag),1,([]:List aa)⟩:aa))<|aI (ah (⟨2,([]:ag),1,([]:List aa)⟩:aa))<|rT)
  exact bo Uf call23 func23 (c:=UK) rfl (aI (al t) (aI (ah a) trivial)) z<|by kernel_rfl
 ·obtain⟨r7,br7,h⟩:=ay h
  obtain rfl:=lf h
  have z:=p6<|sg 0 c5<|sv (bZ t)<|sv (b6 t)<|sv (aM a)<|aX (Hr br7)<|sy (aQ r7)<|en (aI (dw r7)<|aI (ah r7)<|rT)
  exact bo Uf call23 func23 (c:=UK) rfl (aI (al t) (aI (ah a) trivial)) z<|by kernel_rfl
noncomputable def Qt:Code:=f11.body.getD .skip
def Qe:List Nat:=[]
def qN:Option Bool:=
 (mw ([121]:ag)).bind fun r1=>
 (EZ 1).bind fun r2=>
 (lF 6 ([r1,r2]:List aa)).bind fun r3=>
 (mw ([120]:ag)).bind fun r4=>
 (mw ([118]:ag)).bind fun r5=>
 (lF 12 ([r4,r5]:List aa)).bind fun r6=>
 (f9 r6).bind fun r7=>
 (DZ ([120]:ag) r7).bind fun r8=>
 (mw ([120]:ag)).bind fun r9=>
 (mw ([121]:ag)).bind fun r10=>
 (lF 6 ([r9,r10]:List aa)).bind fun r11=>
 (mw ([118]:ag)).bind fun r12=>
 (lF 12 ([r11,r12]:List aa)).bind fun r13=>
 (f9 r13).bind fun r14=>
 (DZ ([120]:ag) r14).bind fun r15=>
 (mw ([120]:ag)).bind fun r16=>
 (fy r15 ([121]:ag) r16).bind fun r17=>
 (EZ 5).bind fun r18=>
 (xO r8 ([r18]:List aa)).bind fun r19=>
 (EZ 0).bind fun r20=>
 (mw ([118]:ag)).bind fun r21=>
 (lF 13 ([r20,r21]:List aa)).bind fun r22=>
 (f9 r22).bind fun r23=>
 (AG r23 ([110]:ag)).bind fun r24=>
 (xQ r8).bind fun r25=>
 if (r25 == 0) = true then
  (fy r7 ([120]:ag) (⟨r3.Op,r3.Name,r3.N,r3.Kids⟩:aa)).bind fun r28=>
  (mw ([118]:ag)).bind fun r29=>
  (lF 12 ([(⟨r3.Op,r3.Name,r3.N,r3.Kids⟩:aa),r29]:List aa)).bind fun r30=>
  (f9 r30).bind fun r31=>
  (uS r28 r31).bind fun r32=>
  if r32 = true then
   (fy r8 ([120]:ag) (⟨r3.Op,r3.Name,r3.N,r3.Kids⟩:aa)).bind fun r35=>
   (uS r35 r8).bind fun r36=>
   if r36=true then
    (mw ([120,49]:ag)).bind fun r39=>
    (mw ([120]:ag)).bind fun r40=>
    (lF 6 ([r39,r40]:List aa)).bind fun r41=>
    (mw ([118]:ag)).bind fun r42=>
    (lF 12 ([r41,r42]:List aa)).bind fun r43=>
    (f9 r43).bind fun r44=>
    (DZ ([120,49]:ag) r44).bind fun r45=>
    (uS r17 r45).bind fun r46=>
    if r46=true then
     if (r19.2 == 0) = true then
      (EZ 5).bind fun r51=>
      (mw ([118]:ag)).bind fun r52=>
      (lF 12 ([r51,r52]:List aa)).bind fun r53=>
      (f9 r53).bind fun r54=>
      (uS r19.1 r54).bind fun r55=>
      if r55=true then
       (mw ([118]:ag)).bind fun r58=>
       (mw ([110]:ag)).bind fun r59=>
       (lF 10 ([r58,r59]:List aa)).bind fun r60=>
       (lF 15 ([r23.Pred,r60]:List aa)).bind fun r61=>
       (jr r24.Pred r61).bind fun r62=>
       if r62=true then
        (ez r7).bind fun r65=>
        (n9 r65 ([([120]:ag)]:List ag)).bind fun r66=>
        if r66=true then
         (EZ 7).bind fun r69=>
         (Gi r7 r69).bind fun r70=>
         (mw ([120]:ag)).bind fun r71=>
         (EZ 7).bind fun r72=>
         (lF 12 ([r71,r72]:List aa)).bind fun r73=>
         (jr r70 r73).bind fun r74=>
         some r74
        else
         some false
       else
        some false
      else
       some false
     else
      some false
    else
     some false
   else
    some false
  else
   some false
 else
  some false
theorem sF{r:Bool}(h:qN=some r):CC Pg GE 11 [] (.bool r) []:=by
 obtain⟨r1,br1,h⟩:=ay h
 obtain⟨r2,br2,h⟩:=ay h
 obtain⟨r3,br3,h⟩:=ay h
 obtain⟨r4,br4,h⟩:=ay h
 obtain⟨r5,br5,h⟩:=ay h
 obtain⟨r6,br6,h⟩:=ay h
 obtain⟨r7,br7,h⟩:=ay h
 obtain⟨r8,br8,h⟩:=ay h
 obtain⟨r9,br9,h⟩:=ay h
 obtain⟨r10,br10,h⟩:=ay h
 obtain⟨r11,br11,h⟩:=ay h
 obtain⟨r12,br12,h⟩:=ay h
 obtain⟨r13,br13,h⟩:=ay h
 obtain⟨r14,br14,h⟩:=ay h
 obtain⟨r15,br15,h⟩:=ay h
 obtain⟨r16,br16,h⟩:=ay h
 obtain⟨r17,br17,h⟩:=ay h
 obtain⟨r18,br18,h⟩:=ay h
 obtain⟨r19,br19,h⟩:=ay h
 obtain⟨r20,br20,h⟩:=ay h
 obtain⟨r21,br21,h⟩:=ay h
 obtain⟨r22,br22,h⟩:=ay h
 obtain⟨r23,br23,h⟩:=ay h
 obtain⟨r24,br24,h⟩:=ay h
 obtain⟨r25,br25,h⟩:=ay h
 have p27:=fun{sc F} (r:PS sc F)=>aX (ej br1)<|aX (qO br2)<|sv (aZ.mk' (v:=cu) bK ([r1,r2]:List aa) 2 (by kernel_rfl))<|aX (eZ br3)<|sx fY<|sx (cb r3)<|aX (ej br4)<|aX (ej br5)<|sv (aZ.mk' (v:=cu) bK ([r4,r5]:List aa) 2 (by kernel_rfl))<|aX (eZ br6)<|aX (eJ br7)<|sx jc<|sy (aU r7)<|sv (bw r7 [])<|aX (yA br8)<|sx jc<|sy (aU r8)<|aX (ej br9)<|aX (ej br10)<|sv (aZ.mk' (v:=cu) bK ([r9,r10]:List aa) 2 (by kernel_rfl))<|aX (eZ br11)<|aX (ej br12)<|sv (aZ.mk' (v:=cu) bK ([r11,r12]:List aa) 2 (by kernel_rfl))<|aX (eZ br13)<|aX (eJ br14)<|aX (yA br15)<|sx jc<|sy (aU r15)<|ze [0,0,3,0,15]<|sv (bw r15 [])<|aX (ej br16)<|aX (i6 br17)<|Ri (cQ r17)<|ze [0,0,2,7,15,31,31,0,191,511]<|sv (bw r8 [])<|aX (qO br18)<|sv (aZ.mk' (v:=cu) bK ([r18]:List aa) 1 (by kernel_rfl))<|aX (B5 br19)<|sx (cQ r19.1)<|aX (qO br20)<|aX (ej br21)<|sv (aZ.mk' (v:=cu) bK ([r20,r21]:List aa) 2 (by kernel_rfl))<|aX (eZ br22)<|aX (eJ br23)<|sx jc<|sy (aU r23)<|sv (bw r23 [])<|aX (DQ br24)<|sx jc<|sy (aU r24)<|ze [0,1,3,7,15,15,63,15,127,511,1023,2047,4095,8191,16383,32767,32767,131071,32767,524287,1048575,2097151,4194303,4194303,12582911,29360127,62914559,130023423,264241151,532676607,1069547519,2143289343,4294967295,8589934591,17179869183,34359738367,68719476735,137438953471,274877906943,549755813887,549755813887,1649267441663,3848290697215,8246337208319,17042430230527,35184372088831,70368744177663,140737488355327,281474976710655,562949953421311,281474976710655,1407374883553279,281474976710655,4785074604081151,13792273858822143,31806672368304127,71213169107795967,143270763145723903,288230376151711743,576460752303423487,1152921504606846975,2305843009213693951,4611686018427387903,2305843009213693951,18446744073709551615,36893488147419103231,73786976294838206463,147573952589676412927,147573952589676412927,590295810358705651711,1180591620717411303423,2361183241434822606847,4722366482869645213695,9444732965739290427391,18889465931478580854783,37778931862957161709567,75557863725914323419135]<|sv (bw r8 [])<|aX (B7 br25)<|r
 rcases aJ h with⟨c26,h⟩|⟨c26,h⟩
 ·obtain ⟨r28,br28,h⟩:=ay h
  obtain⟨r29,br29,h⟩:=ay h
  obtain⟨r30,br30,h⟩:=ay h
  obtain⟨r31,br31,h⟩:=ay h
  obtain⟨r32,br32,h⟩:=ay h
  have p34:=fun{sc F} (r:PS sc F)=>p27<|sg 4 c26<|sv (bw r7 [])<|sv (bj (⟨r3.Op,r3.Name,r3.N,r3.Kids⟩:aa) [])<|aX (i6 br28)<|sv (bj (⟨r3.Op,r3.Name,r3.N,r3.Kids⟩:aa) [])<|aX (ej br29)<|sv (aZ.mk' (v:=cu) bK ([(⟨r3.Op,r3.Name,r3.N,r3.Kids⟩:aa),r29]:List aa) 2 (by kernel_rfl))<|aX (eZ br30)<|aX (eJ br31)<|aX (pG br32)<|r
  rcases aJ h with⟨c33,h⟩|⟨c33,h⟩
  ·obtain⟨r35,br35,h⟩:=ay h
   obtain⟨r36,br36,h⟩:=ay h
   have p38:=fun{sc F} (r:PS sc F)=>p34<|sg 15 c33<|sv (bw r8 [])<|sv (bj (⟨r3.Op,r3.Name,r3.N,r3.Kids⟩:aa) [])<|aX (i6 br35)<|sv (bw r8 [])<|aX (pG br36)<|r
   rcases aJ h with⟨c37,h⟩|⟨c37,h⟩
   ·obtain⟨r39,br39,h⟩:=ay h
    obtain⟨r40,br40,h⟩:=ay h
    obtain⟨r41,br41,h⟩:=ay h
    obtain⟨r42,br42,h⟩:=ay h
    obtain⟨r43,br43,h⟩:=ay h
    obtain⟨r44,br44,h⟩:=ay h
    obtain⟨r45,br45,h⟩:=ay h
    obtain⟨r46,br46,h⟩:=ay h
    have p48:=fun{sc F} (r:PS sc F)=>p38<|sg 22 c37<|sv (bw r17 [])<|aX (ej br39)<|aX (ej br40)<|sv (aZ.mk' (v:=cu) bK ([r39,r40]:List aa) 2 (by kernel_rfl))<|aX (eZ br41)<|aX (ej br42)<|sv (aZ.mk' (v:=cu) bK ([r41,r42]:List aa) 2 (by kernel_rfl))<|aX (eZ br43)<|aX (eJ br44)<|aX (yA br45)<|aX (pG br46)<|r
    rcases aJ h with⟨c47,h⟩|⟨c47,h⟩
    ·have p50:=fun{sc F} (r:PS sc F)=>p48<|sg 35 c47<|r
     rcases aJ h with⟨c49,h⟩|⟨c49,h⟩
     ·obtain⟨r51,br51,h⟩:=ay h
      obtain⟨r52,br52,h⟩:=ay h
      obtain⟨r53,br53,h⟩:=ay h
      obtain⟨r54,br54,h⟩:=ay h
      obtain⟨r55,br55,h⟩:=ay h
      have p57:=fun{sc F} (r:PS sc F)=>p50<|sg 39 c49<|sv (bw r19.1 [])<|aX (qO br51)<|aX (ej br52)<|sv (aZ.mk' (v:=cu) bK ([r51,r52]:List aa) 2 (by kernel_rfl))<|aX (eZ br53)<|aX (eJ br54)<|aX (pG br55)<|r
      rcases aJ h with⟨c56,h⟩|⟨c56,h⟩
      ·obtain⟨r58,br58,h⟩:=ay h
       obtain⟨r59,br59,h⟩:=ay h
       obtain⟨r60,br60,h⟩:=ay h
       obtain⟨r61,br61,h⟩:=ay h
       obtain⟨r62,br62,h⟩:=ay h
       have p64:=fun{sc F} (r:PS sc F)=>p57<|sg 48 c56<|sv (bj r24.Pred [sl ac r24.Preds])<|sv (bj r23.Pred [sl ac r23.Preds])<|aX (ej br58)<|aX (ej br59)<|sv (aZ.mk' (v:=cu) bK ([r58,r59]:List aa) 2 (by kernel_rfl))<|aX (eZ br60)<|sv (aZ.mk' (v:=cu) bK ([r23.Pred,r60]:List aa) 2 (by kernel_rfl))<|aX (eZ br61)<|aX (iy br62)<|r
       rcases aJ h with⟨c63,h⟩|⟨c63,h⟩
       ·obtain⟨r65,br65,h⟩:=ay h
        obtain⟨r66,br66,h⟩:=ay h
        have p68:=fun{sc F} (r:PS sc F)=>p64<|sg 61 c63<|sv (bw r7 [])<|aX (ef br65)<|sv (bh.mk' (v:=PVal.str) D8 ([([120]:ag)]:List ag) 1 (by kernel_rfl))<|aX (py br66)<|r
        rcases aJ h with⟨c67,h⟩|⟨c67,h⟩
        ·obtain⟨r69,br69,h⟩:=ay h
         obtain⟨r70,br70,h⟩:=ay h
         obtain⟨r71,br71,h⟩:=ay h
         obtain⟨r72,br72,h⟩:=ay h
         obtain⟨r73,br73,h⟩:=ay h
         obtain⟨r74,br74,h⟩:=ay h
         obtain rfl:=lf h
         have z:=p68<|sg 67 c67<|sv (bw r7 [])<|aX (qO br69)<|aX (Hv br70)<|aX (ej br71)<|aX (qO br72)<|sv (aZ.mk' (v:=cu) bK ([r71,r72]:List aa) 2 (by kernel_rfl))<|aX (eZ br73)<|aX (iy br74)<|en (aI (rP (.bool r74))<|trivial)
         exact bo Qe call11 func11 (c:=Qt) rfl trivial z<|by kernel_rfl
        ·obtain rfl:=lf h
         have z:=p68<|sg 67 c67<|en (aI (rP (.bool false))<|trivial)
         exact bo Qe call11 func11 (c:=Qt) rfl trivial z<|by kernel_rfl
       ·obtain rfl:=lf h
        have z:=p64<|sg 61 c63<|en (aI (rP (.bool false))<|trivial)
        exact bo Qe call11 func11 (c:=Qt) rfl trivial z<|by kernel_rfl
      ·obtain rfl:=lf h
       have z:=p57<|sg 48 c56<|en (aI (rP (.bool false))<|trivial)
       exact bo Qe call11 func11 (c:=Qt) rfl trivial z<|by kernel_rfl
     ·obtain rfl:=lf h
      have z:=p50<|sg 39 c49<|en (aI (rP (.bool false))<|trivial)
      exact bo Qe call11 func11 (c:=Qt) rfl trivial z<|by kernel_rfl
    ·obtain rfl:=lf h
     have z:=p48<|sg 35 c47<|en (aI (rP (.bool false))<|trivial)
     exact bo Qe call11 func11 (c:=Qt) rfl trivial z<|by kernel_rfl
   ·obtain rfl:=lf h
    have z:=p38<|sg 22 c37<|en (aI (rP (.bool false))<|trivial)
    exact bo Qe call11 func11 (c:=Qt) rfl trivial z<|by kernel_rfl
  ·obtain rfl:=lf h
   have z:=p34<|sg 15 c33<|en (aI (rP (.bool false))<|trivial)
   exact bo Qe call11 func11 (c:=Qt) rfl trivial z<|by kernel_rfl
 ·obtain rfl:=lf h
  have z:=p27<|sg 4 c26<|en (aI (rP (.bool false))<|trivial)
  exact bo Qe call11 func11 (c:=Qt) rfl trivial z<|by kernel_rfl
noncomputable def Ui:Code:=f28.body.getD .skip
def Tf:List Nat:=[10,17]
section
variable(v:waA)(s:ag)(t7:Int)(t8:Int)
def jk:ax:=aP 19 [(0,sl cS v),(1,.str s),(7,.int .i64 t7),(8,.int .i64 t8)] [] []
def jm(o:Int⊕(Unit)):Exit:=match o with
 |(.inl _)=>.ret
 |(.inr _)=>.exit 0
def gQ(o:Int⊕(Unit)):ax:=match o with
 |(.inl o)=>aP 19 [(4,.int .i64 o)] [] []
 |(.inr o)=>aP 19 [] [] []
def jl:Option (Int⊕(Int⊕(Unit))):=
 if(decide (t8<t7))=true then
  (dT v t8).bind fun x2=>
  if(x2==s)=true then
   some (.inr (.inl t8))
  else
   some (.inl (bL (t8+1)))
 else
  some (.inr (.inr ()))
def ug:Option (Int⊕(Unit)):=loop (fun(zz:Int)=>jl v s t7 zz) t8
theorem C3{y:Int⊕(Int⊕(Unit))}(h:jl v s t7 t8=some y):aL Pg GE 0 (cA Ui 55) (LQ (fun(zz:Int)=>jk v s t7 zz) jm gQ y) (jk v s t7 t8):=by
 rcases aJ h with⟨c1,h⟩|⟨c1,h⟩
 ·obtain⟨x2,bx2,h⟩:=ay h
  have p4:=fun{sc F} (r:PS sc F)=>sg 0 c1<|sv (bh.ia (k:=.i64) bx2)<|sv (dB Cb (.str x2) [])<|r
  rcases aJ h with⟨c3,h⟩|⟨c3,h⟩
  ·obtain rfl:=lf h
   have z:=p4<|sg 0 c3<|eF (jm (.inl t8)) (gQ (.inl t8))
   exact fG Tf (by intro hx;cases hx) z<|by kernel_rfl
  ·obtain rfl:=lf h
   exact pZ Tf (p4<|sg 0 c3<|eF .normal (jk v s t7 (bL (t8+1))))<|by kernel_rfl
 ·obtain rfl:=lf h
  have z:=sg 0 c1<|eF (jm (.inr ())) (gQ (.inr ()))
  exact fG Tf (by intro hx;cases hx) z<|by kernel_rfl
theorem uh{x:Int⊕(Unit)}(h:ug v s t7 t8=some x):aL Pg GE 0 (.loop (cA Ui 55)) (EX (jm x) (gQ x)) (jk v s t7 t8):=
 aL.loop (S:=fun(zz:Int)=>jk v s t7 zz) (ex:=jm) (s:=t8) h fun zz y hy=>C3 v s t7 zz hy
end
def n8(a:waA)(s:ag):Option Int:=
 (ug a s (a.length:Int) 0).bind fun o5=>match o5 with
 |(.inl o5)=>
  some o5
 |(.inr o5)=>
  some (-1)
theorem ui{a:waA}{s:ag}{r:Int}(h:n8 a s=some r):CC Pg GE 28 [sl cS a,.str s] (.int .i64 r) []:=by
 obtain⟨o5,bo5,h⟩:=ay h
 rcases o5 with o5|o5
 ·obtain rfl:=lf h
  have z:=cf (bh.ln a)<|ct (e:=.ret) (s1:=gQ (.inl o5)) (uh a s (a.length:Int) 0 bo5)<|en (aI (rP (.int .i64 o5))<|trivial)
  exact bo Tf call28 func28 (c:=Ui) rfl (aI (aw ie a) (aI trivial trivial)) z<|by kernel_rfl
 ·obtain rfl:=lf h
  have z:=cf (bh.ln a)<|ct (e:=.exit 0) (s1:=gQ (.inr o5)) (uh a s (a.length:Int) 0 bo5)<|en (aI (rP (.int .i64 (-1)))<|trivial)
  exact bo Tf call28 func28 (c:=Ui) rfl (aI (aw ie a) (aI trivial trivial)) z<|by kernel_rfl
abbrev sn:=(aa->Option waA)
abbrev yf(R:sn):Prop:=∀(p:aa) (r:waA),R p=some r->CC Pg GE 30 [.agg (ac p)] (sl cS r) [(0,9)]
noncomputable def SZ:Code:=f68.body.getD .skip
def Qi:List Nat:=[19,28,46,51]
section
variable(v:waA)(s:ag)(out:waA)(i:Int)
def Ix:ax:=aP 52 [(0,sl cS v),(1,.str s),(5,sl cS out),(6,.int .i64 i)] [] [((5,0),9)]
def rR(o:Bool):ax:=aP 52 [(0,sl cS v),(1,.str s),(5,sl cS out),(6,.int .i64 i),(18,.bool o)] [] [((5,0),9)]
def lE:Option Bool:=
 if(decide (i<(v.length:Int)))=true then
  (dT v i).bind fun x2=>
  some (Op.bytesLess x2 s)
 else
  some false
theorem GI{x:Bool}(h:lE v s i=some x):aL Pg GE 0 (cA SZ 492) (EX .normal (rR v s out i x)) (Ix v s out i):=by
 rcases aJ h with⟨c1,h⟩|⟨c1,h⟩
 ·obtain⟨x2,bx2,h⟩:=ay h
  obtain rfl:=lf h
  exact bm Qi (cf (bh.ln v)<|sg 5 c1<|sv (bh.ia (k:=.i64) bx2)<|sv (dB Cb (.str x2) [])<|eF .normal (rR v s out i (Op.bytesLess x2 s)))<|by kernel_rfl
 ·obtain rfl:=lf h
  exact bm Qi (cf (bh.ln v)<|sg 5 c1<|eF .normal (rR v s out i false))<|by kernel_rfl
end
section
variable(v:waA)(s:ag)(out:waA)(i:Int)
def kJ:ax:=aP 52 [(0,sl cS v),(1,.str s),(5,sl cS out),(6,.int .i64 i)] [] [((5,0),9)]
def rW(o:waA×Int):ax:=aP 52 [(0,sl cS v),(1,.str s),(5,sl cS o.1),(6,.int .i64 o.2)] [] [((5,0),9)]
def kK:Option ((waA×Int)⊕((waA×Int))):=
 (lE v s i).bind fun o3=>
 if o3=true then
  (dT v i).bind fun x6=>
  (app out ([x6]:List ag)).bind fun l7=>
  some (.inl (l7,bL (i+1)))
 else
  some (.inr (out,i))
def yn:Option ((waA×Int)):=loop (fun(zz:waA×Int)=>kK v s zz.1 zz.2) (out,i)
theorem Es{y:(waA×Int)⊕((waA×Int))}(h:kK v s out i=some y):aL Pg GE 0 (cA SZ 123) (LQ (fun(zz:waA×Int)=>kJ v s zz.1 zz.2) (fun _=>.exit 0) (rW v s) y) (kJ v s out i):=by
 obtain⟨o3,bo3,h⟩:=ay h
 have p5:=fun{sc F} (r:PS sc F)=>iO 1<|ct (GI v s out i bo3)<|r
 rcases aJ h with⟨c4,h⟩|⟨c4,h⟩
 ·obtain⟨x6,bx6,h⟩:=ay h
  obtain⟨l7,bl7,h⟩:=ay h
  obtain rfl:=lf h
  exact pZ Qi (p5<|sg 0 c4<|sv (bh.ia (k:=.i64) bx6)<|sv (dB Cb (.str x6) [])<|sv (bh.mk' (v:=PVal.str) D8 ([x6]:List ag) 1 (by kernel_rfl))<|sv (bh.ap bl7)<|eF .normal (kJ v s l7 (bL (i+1))))<|by kernel_rfl
 ·obtain rfl:=lf h
  have z:=p5<|sg 0 c4<|eF (.exit 0) (rW v s (out,i))
  exact fG Qi (by intro hx;cases hx) z<|by kernel_rfl
theorem GL{x:(waA×Int)}(h:yn v s out i=some x):aL Pg GE 0 (.loop (cA SZ 123)) (EX (.exit 0) (rW v s x)) (kJ v s out i):=
 aL.loop (S:=fun(zz:waA×Int)=>kJ v s zz.1 zz.2) (ex:=(fun _=>.exit 0)) (s:=(out,i)) h fun zz y hy=>Es v s zz.1 zz.2 hy
end
section
variable(v:waA)(s:ag)(out:waA)(i:Int)
def Iz:ax:=aP 52 [(0,sl cS v),(1,.str s),(5,sl cS out),(6,.int .i64 i)] [] [((5,0),9)]
def rV(o:Bool):ax:=aP 52 [(0,sl cS v),(5,sl cS out),(6,.int .i64 i),(43,.bool o)] [] [((5,0),9)]
def ym:Option Bool:=
 if(decide (i<(v.length:Int)))=true then
  (dT v i).bind fun x11=>
  some (x11==s)
 else
  some false
theorem GK{x:Bool}(h:ym v s i=some x):aL Pg GE 0 (cA SZ 252) (EX .normal (rV v out i x)) (Iz v s out i):=by
 rcases aJ h with⟨c10,h⟩|⟨c10,h⟩
 ·obtain⟨x11,bx11,h⟩:=ay h
  obtain rfl:=lf h
  exact bm Qi (cf (bh.ln v)<|sg 5 c10<|sv (bh.ia (k:=.i64) bx11)<|sv (dB Cb (.str x11) [])<|eF .normal (rV v out i (x11==s)))<|by kernel_rfl
 ·obtain rfl:=lf h
  exact bm Qi (cf (bh.ln v)<|sg 5 c10<|eF .normal (rV v out i false))<|by kernel_rfl
end
section
variable(v:waA)(s:ag)(out:waA)(i:Int)
def Iy:ax:=aP 52 [(0,sl cS v),(1,.str s),(5,sl cS out),(6,.int .i64 i)] [] [((5,0),9)]
def rU(o:Int):ax:=aP 52 [(0,sl cS v),(5,sl cS out),(6,.int .i64 o)] [] [((5,0),9)]
def rS:Option Int:=
 (ym v s i).bind fun o12=>
 if o12=true then
  some (bL (i+1))
 else
  some i
theorem GJ{x:Int}(h:rS v s i=some x):aL Pg GE 0 (cA SZ 126) (EX .normal (rU v out x)) (Iy v s out i):=by
 obtain⟨o12,bo12,h⟩:=ay h
 have p14:=fun{sc F} (r:PS sc F)=>iO 0<|ct (GK v s out i bo12)<|r
 rcases aJ h with⟨c13,h⟩|⟨c13,h⟩
 ·obtain rfl:=lf h
  exact bm Qi (p14<|sg 0 c13<|eF .normal (rU v out (bL (i+1))))<|by kernel_rfl
 ·obtain rfl:=lf h
  exact bm Qi (p14<|sg 0 c13<|eF .normal (rU v out i))<|by kernel_rfl
end
def zv(a:waA)(s:ag):Option waA:=
 (yn a s ([]:List ag) 0).bind fun o8=>
 (app o8.1 ([s]:List ag)).bind fun l9=>
 (rS a s o8.2).bind fun o15=>
 (GA a (some o15) none).bind fun l16=>
 (app l9 l16).bind fun l17=>
 some l17
theorem Eu{a:waA}{s:ag}{r:waA}(h:zv a s=some r):CC Pg GE 68 [sl cS a,.str s] (sl cS r) [(0,9)]:=by
 obtain⟨o8,bo8,h⟩:=ay h
 obtain⟨l9,bl9,h⟩:=ay h
 obtain⟨o15,bo15,h⟩:=ay h
 obtain⟨l16,bl16,h⟩:=ay h
 obtain⟨l17,bl17,h⟩:=ay h
 obtain rfl:=lf h
 have z:=ct (GL a s ([]:List ag) 0 bo8)<|sv (bh.mk' (v:=PVal.str) D8 ([s]:List ag) 1 (by kernel_rfl))<|sv (bh.ap bl9)<|iO 0<|ct (GJ a s l9 o8.2 bo15)<|sv (bh.sc bl16)<|sv (bh.ap bl17)<|en (aI (rP (sl cS l17))<|(aw ie l17))
 exact bo Qi call68 func68 (c:=SZ) rfl (aI (aw ie a) (aI trivial trivial)) z<|by kernel_rfl
noncomputable def TG:Code:=f33.body.getD .skip
def Th:List Nat:=[12,24,32]
section
variable(v:waA)(v2:waA)(t9:Int)(out:waA)(t10:Int)
def iq:ax:=aP 33 [(0,sl cS v),(1,sl cS v2),(5,sl cS out),(9,.int .i64 t9),(10,.int .i64 t10)] [] [((5,0),9)]
def oc(o:waA):ax:=aP 33 [(1,sl cS v2),(5,sl cS o)] [] [((5,0),9)]
def ir:Option ((waA×Int)⊕(waA)):=
 if(decide (t10<t9))=true then
  (dT v t10).bind fun x2=>
  (zv out x2).bind fun r3=>
  some (.inl (r3,bL (t10+1)))
 else
  some (.inr out)
def rN:Option waA:=loop (fun(zz:waA×Int)=>ir v t9 zz.1 zz.2) (out,t10)
theorem Be{y:(waA×Int)⊕(waA)}(h:ir v t9 out t10=some y):aL Pg GE 0 (cA TG 119) (LQ (fun(zz:waA×Int)=>iq v v2 t9 zz.1 zz.2) (fun _=>.exit 0) (oc v2) y) (iq v v2 t9 out t10):=by
 rcases aJ h with⟨c1,h⟩|⟨c1,h⟩
 ·obtain⟨x2,bx2,h⟩:=ay h
  obtain⟨r3,br3,h⟩:=ay h
  obtain rfl:=lf h
  exact pZ Th (sg 0 c1<|sv (bh.ia (k:=.i64) bx2)<|sv (dB Cb (.str x2) [])<|aX (Eu br3)<|eF .normal (iq v v2 t9 r3 (bL (t10+1))))<|by kernel_rfl
 ·obtain rfl:=lf h
  have z:=sg 0 c1<|eF (.exit 0) (oc v2 out)
  exact fG Th (by intro hx;cases hx) z<|by kernel_rfl
theorem C7{x:waA}(h:rN v t9 out t10=some x):aL Pg GE 0 (.loop (cA TG 119)) (EX (.exit 0) (oc v2 x)) (iq v v2 t9 out t10):=
 aL.loop (S:=fun(zz:waA×Int)=>iq v v2 t9 zz.1 zz.2) (ex:=(fun _=>.exit 0)) (s:=(out,t10)) h fun zz y hy=>Be v v2 t9 zz.1 zz.2 hy
end
section
variable(v:waA)(t21:Int)(out:waA)(t22:Int)
def it:ax:=aP 33 [(1,sl cS v),(5,sl cS out),(21,.int .i64 t21),(22,.int .i64 t22)] [] [((5,0),9)]
def od(o:waA):ax:=aP 33 [(5,sl cS o)] [] [((5,0),9)]
def iu:Option ((waA×Int)⊕(waA)):=
 if(decide (t22<t21))=true then
  (dT v t22).bind fun x6=>
  (zv out x6).bind fun r7=>
  some (.inl (r7,bL (t22+1)))
 else
  some (.inr out)
def rO:Option waA:=loop (fun(zz:waA×Int)=>iu v t21 zz.1 zz.2) (out,t22)
theorem Bf{y:(waA×Int)⊕(waA)}(h:iu v t21 out t22=some y):aL Pg GE 0 (cA TG 247) (LQ (fun(zz:waA×Int)=>it v t21 zz.1 zz.2) (fun _=>.exit 2) od y) (it v t21 out t22):=by
 rcases aJ h with⟨c5,h⟩|⟨c5,h⟩
 ·obtain⟨x6,bx6,h⟩:=ay h
  obtain⟨r7,br7,h⟩:=ay h
  obtain rfl:=lf h
  exact pZ Th (sg 0 c5<|sv (bh.ia (k:=.i64) bx6)<|sv (dB Cb (.str x6) [])<|aX (Eu br7)<|eF .normal (it v t21 r7 (bL (t22+1))))<|by kernel_rfl
 ·obtain rfl:=lf h
  have z:=sg 0 c5<|eF (.exit 2) (od out)
  exact fG Th (by intro hx;cases hx) z<|by kernel_rfl
theorem C8{x:waA}(h:rO v t21 out t22=some x):aL Pg GE 0 (.loop (cA TG 247)) (EX (.exit 2) (od x)) (it v t21 out t22):=
 aL.loop (S:=fun(zz:waA×Int)=>it v t21 zz.1 zz.2) (ex:=(fun _=>.exit 2)) (s:=(out,t22)) h fun zz y hy=>Bf v t21 zz.1 zz.2 hy
end
def nR(a:waA)(a2:waA):Option waA:=
 (rN a (a.length:Int) ([]:List ag) 0).bind fun o4=>
 (rO a2 (a2.length:Int) o4 0).bind fun o8=>
 some o8
theorem zr{a:waA}{a2:waA}{r:waA}(h:nR a a2=some r):CC Pg GE 33 [sl cS a,sl cS a2] (sl cS r) [(0,9)]:=by
 obtain⟨o4,bo4,h⟩:=ay h
 obtain⟨o8,bo8,h⟩:=ay h
 obtain rfl:=lf h
 have z:=cf (bh.ln a)<|ct (C7 a a2 (a.length:Int) ([]:List ag) 0 bo4)<|cf (bh.ln a2)<|ct (C8 a2 (a2.length:Int) o4 0 bo8)<|en (aI (rP (sl cS o8))<|(aw ie o8))
 exact bo Th call33 func33 (c:=TG) rfl (aI (aw ie a) (aI (aw ie a2) trivial)) z<|by kernel_rfl
noncomputable def Uj:Code:=f30.body.getD .skip
def Tg:List Nat:=[24]
section
variable(p:aa)
def GN:ax:=aP 25 [(1,.eptr (ac p)),(3,sl cS ([]:List ag))] [.dead] [((3,0),9)]
def qr(o:waA):ax:=aP 25 [(1,.eptr (ac p)),(3,sl cS o)] [.dead] [((3,0),9)]
def ut:Option waA:=
 if(p.Op==3)=true then
  some ([p.Name]:List ag)
 else
  some ([]:List ag)
theorem Ew{x:waA}(h:ut p=some x):aL Pg GE 0 (cA Uj 14) (EX .normal (qr p x)) (GN p):=by
 have p2:=fun{sc F} (r:PS sc F)=>sv (aD p)<|sv (aE p)<|r
 rcases aJ h with⟨c1,h⟩|⟨c1,h⟩
 ·obtain rfl:=lf h
  exact bm Tg (p2<|sg 0 c1<|sv (bp p)<|sv (bH p)<|sv (bh.mk' (v:=PVal.str) D8 ([p.Name]:List ag) 1 (by kernel_rfl))<|eF .normal (qr p ([p.Name]:List ag)))<|by kernel_rfl
 ·obtain rfl:=lf h
  exact bm Tg (p2<|sg 0 c1<|eF .normal (qr p ([]:List ag)))<|by kernel_rfl
end
section
variable(R86:sn)(t13:waB)(t14:Int)(out:waA)(t15:Int)
def jq:ax:=aP 25 [(3,sl cS out),(13,sl ac t13),(14,.int .i64 t14),(15,.int .i64 t15)] [.dead] [((3,0),9)]
def qt(o:waA):ax:=aP 25 [(3,sl cS o)] [.dead] [((3,0),9)]
def xd:Option ((waA×Int)⊕(waA)):=
 if(decide (t15<t14))=true then
  (dT t13 t15).bind fun x5=>
  (R86 x5).bind fun r6=>
  (nR out r6).bind fun r7=>
  some (.inl (r7,bL (t15+1)))
 else
  some (.inr out)
def uu:Option waA:=loop (fun(zz:waA×Int)=>xd R86 t13 t14 zz.1 zz.2) (out,t15)
theorem De(hR86:yf R86){y:(waA×Int)⊕(waA)}(h:xd R86 t13 t14 out t15=some y):aL Pg GE 0 (cA Uj 247) (LQ (fun(zz:waA×Int)=>jq t13 t14 zz.1 zz.2) (fun _=>.exit 0) qt y) (jq t13 t14 out t15):=by
 rcases aJ h with⟨c4,h⟩|⟨c4,h⟩
 ·obtain⟨x5,bx5,h⟩:=ay h
  obtain⟨r6,br6,h⟩:=ay h
  obtain⟨r7,br7,h⟩:=ay h
  obtain rfl:=lf h
  have z:=sg 0 c4<|sv (aZ.ia (k:=.i64) bx5)<|sv (aM x5)<|sx fY<|sx (cb x5)<|sv (bj x5 [])<|aX (hR86 _ _ br6)<|aX (zr br7)<|pq 0 .normal (jq t13 t14 r7 (bL (t15+1))) rfl (cG (aI (up (aw ie r7)) (aI (up (aw ah t13)) (aI trivial (aI trivial trivial))))) (aI trivial trivial)
  exact cJ (A:=Tg) mixed z<|by kernel_rfl
 ·obtain rfl:=lf h
  have z:=sg 0 c4<|eF (.exit 0) (qt out)
  exact fG Tg (by intro hx;cases hx) z<|by kernel_rfl
theorem Ex(hR86:yf R86){x:waA}(h:uu R86 t13 t14 out t15=some x):aL Pg GE 0 (.loop (cA Uj 247)) (EX (.exit 0) (qt x)) (jq t13 t14 out t15):=
 aL.loop (S:=fun(zz:waA×Int)=>jq t13 t14 zz.1 zz.2) (ex:=(fun _=>.exit 0)) (s:=(out,t15)) h fun zz y hy=>De R86 t13 t14 zz.1 zz.2 hR86 hy
end
def rY(R86:sn)(p:aa):Option waA:=
 (ut p).bind fun o3=>
 (uu R86 p.Kids (p.Kids.length:Int) o3 0).bind fun o8=>
 some o8
theorem IC(R86:sn)(hR86:yf R86){p:aa}{r:waA}(h:rY R86 p=some r):CC Pg GE 30 [.agg (ac p)] (sl cS r) [(0,9)]:=by
 obtain⟨o3,bo3,h⟩:=ay h
 obtain⟨o8,bo8,h⟩:=ay h
 obtain rfl:=lf h
 have z:=se (bJ p)<|iO 1<|ct (Ew p bo3)<|sv (aG p)<|sv (aH p)<|cf (aZ.ln p.Kids)<|ct (Ex R86 p.Kids (p.Kids.length:Int) o3 0 hR86 bo8)<|en (aI (rP (sl cS o8))<|(aw ie o8))
 exact bo Tg call30 func30 (c:=Uj) rfl (aI (ah p) trivial) z<|by kernel_rfl
def yo:(aa->Option waA)->(aa)->Option waA:=fun(rec:aa->Option waA) (x:aa)=>rY (fun p=>rec p) x
def Ev(p:aa):Option waA:=lH yo p
theorem JT{p:aa}{r:waA}(h:Ev p=some r):CC Pg GE 30 [.agg (ac p)] (sl cS r) [(0,9)]:=
 cC (F:=yo) (M:=fun(x:aa) (r:waA)=>CC Pg GE 30 [.agg (ac x)] (sl cS r) [(0,9)]) (fun rec hrec x r h=>IC _ (fun p r h=>hrec p r h) h) h
open Go
section
variable(n:Int)(s:ag)(m:Int)(d:Int)
def uc:Option Int:=
 if(decide (d<0))=true then
  some (IntKind.i64.wrap (0 - d))
 else
  some d
end
section
variable(n:Int)(s:ag)(m:Int)
def ma:Option ((ag×Int)⊕(ag)):=
 if(m !=0)=true then
  (re m 10).bind fun q3=>
  (uc q3).bind fun o5=>
  (zG ([IntKind.u8.wrap (bL (48+o5))]:List Int)).bind fun s6=>
  (So s6 s).bind fun s7=>
  (qu .i64 m 10).bind fun q8=>
  some (.inl (s7,q8))
 else
  some (.inr s)
def mq:Option ag:=loop (fun(zz:ag×Int)=>ma zz.1 zz.2) (s,m)
end
def Eh(n:Int):Option ag:=
 if(n==0)=true then
  some ([48]:ag)
 else
  (mq ([]:ag) n).bind fun o9=>
  if(decide (n<0))=true then
   (So ([45]:ag) o9).bind fun s12=>
   some s12
  else
   some o9
section
variable(used:waA)(base:ag)(s:ag)(n:Int)
def co:Option ((ag×Int)⊕(ag)):=
 (n8 used s).bind fun r1=>
 if(decide (r1>=0))=true then
  (Eh n).bind fun r3=>
  (So base r3).bind fun s4=>
  some (.inl (s4,bL (n+1)))
 else
  some (.inr s)
def iP:Option ag:=loop (fun(zz:ag×Int)=>co used base zz.1 zz.2) (s,n)
end
def HA(used:waA)(base:ag):Option ag:=
 (iP used base base 1).bind fun o5=>
 some o5
noncomputable def Wv:Code:=f58.body.getD .skip
def Wg:List Nat:=[]
def u5(p:aa):Option Bool:=
 (jr p (⟨0,([]:ag),0,([]:List aa)⟩:aa)).bind fun r1=>
 some r1
theorem Cu{p:aa}{r:Bool}(h:u5 p=some r):CC Pg GE 58 [.agg (ac p)] (.bool r) []:=by
 obtain⟨r1,br1,h⟩:=ay h
 obtain rfl:=lf h
 have z:=se (bJ p)<|sv (aM p)<|sb (oC) (oA)<|aX (iy br1)<|en (aI (rP (.bool r1))<|trivial)
 exact bo Wg call58 func58 (c:=Wv) rfl (aI (ah p) trivial) z<|by kernel_rfl
abbrev pJ:=(ae->Option Int)
abbrev tZ(R:pJ):Prop:=∀(t:ae) (r:Int),R t=some r->CC Pg GE 102 [.agg (af t)] (.int .i64 r) []
noncomputable def R5:Code:=f102.body.getD .skip
def RK:List Nat:=[]
section
variable(R109:pJ)(t7:waC)(t8:Int)(n:Int)(t9:Int)
def iA:ax:=aP 20 [(3,.int .i64 n),(7,sl af t7),(8,.int .i64 t8),(9,.int .i64 t9)] [.dead] []
def om(o:Int):ax:=aP 20 [(3,.int .i64 o)] [.dead] []
def uH:Option ((Int×Int)⊕(Int)):=
 if(decide (t9<t8))=true then
  (dT t7 t9).bind fun x2=>
  (R109 x2).bind fun r3=>
  some (.inl ((if r3>n then r3 else n),bL (t9+1)))
 else
  some (.inr n)
def si:Option Int:=loop (fun(zz:Int×Int)=>uH R109 t7 t8 zz.1 zz.2) (n,t9)
theorem Bl(hR109:tZ R109){y:(Int×Int)⊕(Int)}(h:uH R109 t7 t8 n t9=some y):aL Pg GE 0 (cA R5 119) (LQ (fun(zz:Int×Int)=>iA t7 t8 zz.1 zz.2) (fun _=>.exit 0) om y) (iA t7 t8 n t9):=by
 rcases aJ h with⟨c1,h⟩|⟨c1,h⟩
 ·obtain⟨x2,bx2,h⟩:=ay h
  obtain⟨r3,br3,h⟩:=ay h
  obtain rfl:=lf h
  have z:=sg 0 c1<|sv (cO.ia (k:=.i64) bx2)<|sv (aV x2)<|sx jc<|sx (cQ x2)<|sv (bw x2 [])<|aX (hR109 _ _ br3)<|pq 0 .normal (iA t7 t8 (if r3>n then r3 else n) (bL (t9+1))) rfl (cG (aI trivial (aI (up (aw al t7)) (aI trivial (aI trivial trivial))))) (aI trivial trivial)
  exact cJ (A:=RK) mixed z<|by kernel_rfl
 ·obtain rfl:=lf h
  have z:=sg 0 c1<|eF (.exit 0) (om n)
  exact fG RK (by intro hx;cases hx) z<|by kernel_rfl
theorem Di(hR109:tZ R109){x:Int}(h:si R109 t7 t8 n t9=some x):aL Pg GE 0 (.loop (cA R5 119)) (EX (.exit 0) (om x)) (iA t7 t8 n t9):=
 aL.loop (S:=fun(zz:Int×Int)=>iA t7 t8 zz.1 zz.2) (ex:=(fun _=>.exit 0)) (s:=(n,t9)) h fun zz y hy=>Bl R109 t7 t8 zz.1 zz.2 hR109 hy
end
def pF(R109:pJ)(t:ae):Option Int:=
 (si R109 t.Args (t.Args.length:Int) 0 0).bind fun o4=>
 some (bL (o4+1))
theorem GY(R109:pJ)(hR109:tZ R109){t:ae}{r:Int}(h:pF R109 t=some r):CC Pg GE 102 [.agg (af t)] (.int .i64 r) []:=by
 obtain⟨o4,bo4,h⟩:=ay h
 obtain rfl:=lf h
 have z:=se (bR t)<|sv (aA t)<|sv (aB t)<|cf (cO.ln t.Args)<|ct (Di R109 t.Args (t.Args.length:Int) 0 0 hR109 bo4)<|en (aI (rP (.int .i64 (bL (o4+1))))<|trivial)
 exact bo RK call102 func102 (c:=R5) rfl (aI (al t) trivial) z<|by kernel_rfl
def uG:(ae->Option Int)->(ae)->Option Int:=fun(rec:ae->Option Int) (x:ae)=>pF (fun t=>rec t) x
def Bk(t:ae):Option Int:=lH uG t
theorem IH{t:ae}{r:Int}(h:Bk t=some r):CC Pg GE 102 [.agg (af t)] (.int .i64 r) []:=
 cC (F:=uG) (M:=fun(x:ae) (r:Int)=>CC Pg GE 102 [.agg (af x)] (.int .i64 r) []) (fun rec hrec x r h=>GY _ (fun t r h=>hrec t r h) h) h
abbrev sA:=(ae->Option Int)
abbrev yj(R:sA):Prop:=∀(t:ae) (r:Int),R t=some r->CC Pg GE 103 [.agg (af t)] (.int .i64 r) []
end Go.Proofs.YtggeppllafbidaaGreatDoor
