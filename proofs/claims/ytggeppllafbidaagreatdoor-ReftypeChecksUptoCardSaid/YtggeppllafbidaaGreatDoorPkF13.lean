/- PROVED: a part of the proof. Conditions: none. -/
import Derived.Test.YtggeppllafbidaaGreatDoorPkF12
noncomputable section
namespace Go.Proofs.YtggeppllafbidaaGreatDoor
open Go Go.Proofs.Tryz
set_option linter.unusedVariables false
set_option maxRecDepth 100000
noncomputable def KU:Code:=f114.body.getD .skip
def yL:List Nat:=[66]
section
variable(t:ae)
def D6:ax:=aP 68 [(1,.eptr (af t))] [.dead] []
def dC(o:Bool):ax:=aP 68 [(1,.eptr (af t)),(33,.bool o)] [.dead] []
def mm:Option Bool:=
 if (t.Op == 6) = true then
  (ii t.Pred).bind fun r3=>
  if(!r3)=true then
   some true
  else
   if(decide ((t.Preds.length:Int)>0))=true then
    some true
   else
    if(t.Op !=4)=true then
     some (decide ((t.Preds.length:Int)>0))
    else
     some false
 else
  if(t.Op !=4)=true then
   some (decide ((t.Preds.length:Int)>0))
  else
   some false
theorem CM{x:Bool}(h:mm t=some x):aL Pg GE 0 (cA KU 12) (EX .normal (dC t x)) (D6 t):=by
 have p2:=fun{sc F} (r:PS sc F)=>sv (au t)<|sv (av t)<|r
 rcases aK h with⟨c1,h⟩|⟨c1,h⟩
 ·obtain⟨r3,br3,h⟩:=aw h
  have p5:=fun{sc F} (r:PS sc F)=>p2<|sg 4 c1<|sv (bv t)<|sv (bw t)<|aX (mr br3)<|r
  rcases aK h with⟨c4,h⟩|⟨c4,h⟩
  ·obtain rfl:=lf h
   exact bE yL (p5<|sg 9 c4<|eF .normal (dC t true))<|by kernel_rfl
  ·have p7:=fun{sc F} (r:PS sc F)=>p5<|sg 9 c4<|sv (bk t)<|sv (bm t)<|b9 (aS.ln t.Preds)<|r
   rcases aK h with⟨c6,h⟩|⟨c6,h⟩
   ·obtain rfl:=lf h
    exact bE yL (p7<|sg 16 c6<|eF .normal (dC t true))<|by kernel_rfl
   ·have p9:=fun{sc F} (r:PS sc F)=>p7<|sg 16 c6<|sv (au t)<|sv (av t)<|r
    rcases aK h with⟨c8,h⟩|⟨c8,h⟩
    ·obtain rfl:=lf h
     exact bE yL (p9<|sg 20 c8<|sv (bk t)<|sv (bm t)<|b9 (aS.ln t.Preds)<|eF .normal (dC t (decide ((t.Preds.length:Int)>0))))<|by kernel_rfl
    ·obtain rfl:=lf h
     exact bE yL (p9<|sg 20 c8<|eF .normal (dC t false))<|by kernel_rfl
 ·have p11:=fun{sc F} (r:PS sc F)=>p2<|sg 4 c1<|sv (au t)<|sv (av t)<|r
  rcases aK h with⟨c10,h⟩|⟨c10,h⟩
  ·obtain rfl:=lf h
   exact bE yL (p11<|sg 20 c10<|sv (bk t)<|sv (bm t)<|b9 (aS.ln t.Preds)<|eF .normal (dC t (decide ((t.Preds.length:Int)>0))))<|by kernel_rfl
  ·obtain rfl:=lf h
   exact bE yL (p11<|sg 20 c10<|eF .normal (dC t false))<|by kernel_rfl
end
section
variable(t:ae)(t35:waA)(t36:Int)(t37:Int)
def fP:ax:=aP 68 [(1,.eptr (af t)),(35,sl cS t35),(36,.int .i64 t36),(37,.int .i64 t37)] [.dead] []
def fQ(o:Unit⊕(Unit)):Exit:=match o with
 |(.inl _)=>.ret
 |(.inr _)=>.exit 0
def ej(o:Unit⊕(Unit)):ax:=match o with
 |(.inl o)=>aP 68 [(2,.int .i64 3)] [.dead] []
 |(.inr o)=>aP 68 [(1,.eptr (af t))] [.dead] []
def jz:Option (Int⊕(Unit⊕(Unit))):=
 if(decide (t37<t36))=true then
  (dt t35 t37).bind fun x16=>
  (uq x16).bind fun r17=>
  if(r17 !=0)=true then
   some (.inr (.inl ()))
  else
   some (.inl (bA (t37+1)))
 else
  some (.inr (.inr ()))
def mn:Option (Unit⊕(Unit)):=loop (fun(zz:Int)=>jz t35 t36 zz) t37
theorem A6{y:Int⊕(Unit⊕(Unit))}(h:jz t35 t36 t37=some y):aL Pg GE 0 (cA KU 119) (LQ (fun(zz:Int)=>fP t t35 t36 zz) fQ (ej t) y) (fP t t35 t36 t37):=by
 rcases aK h with⟨c15,h⟩|⟨c15,h⟩
 ·obtain⟨x16,bx16,h⟩:=aw h
  obtain⟨r17,br17,h⟩:=aw h
  have p19:=fun{sc F} (r:PS sc F)=>sg 0 c15<|sv (aZ.ia (k:=.i64) bx16)<|sv (dB Es (.str x16) [])<|aX (Jl br17)<|r
  rcases aK h with⟨c18,h⟩|⟨c18,h⟩
  ·obtain rfl:=lf h
   have z:=p19<|sg 0 c18<|eF (fQ (.inl ())) (ej t (.inl ()))
   exact eS yL (by intro hx;cases hx) z<|by kernel_rfl
  ·obtain rfl:=lf h
   exact vJ yL (p19<|sg 0 c18<|eF .normal (fP t t35 t36 (bA (t37+1))))<|by kernel_rfl
 ·obtain rfl:=lf h
  have z:=sg 0 c15<|eF (fQ (.inr ())) (ej t (.inr ()))
  exact eS yL (by intro hx;cases hx) z<|by kernel_rfl
theorem tt{x:Unit⊕(Unit)}(h:mn t35 t36 t37=some x):aL Pg GE 0 (.loop (cA KU 119)) (EX (fQ x) (ej t x)) (fP t t35 t36 t37):=
 aL.loop (S:=fun(zz:Int)=>fP t t35 t36 zz) (ex:=fQ) (s:=t37) h fun zz y hy=>A6 t t35 t36 zz hy
end
section
variable(t54:waB)(t55:Int)(t56:Int)
def eo:ax:=aP 68 [(54,sl ac t54),(55,.int .i64 t55),(56,.int .i64 t56)] [.dead] [((54,0),28)]
def fR(o:Int⊕(Unit)):Exit:=match o with
 |(.inl _)=>.ret
 |(.inr _)=>.exit 2
def ep(o:Int⊕(Unit)):ax:=match o with
 |(.inl o)=>aP 68 [(2,.int .i64 o)] [.dead] []
 |(.inr o)=>aP 68 [] [.dead] []
def jA:Option (Int⊕(Int⊕(Unit))):=
 if (decide (t56 < t55)) = true then
  (dt t54 t56).bind fun x26=>
  (ii x26).bind fun r27=>
  if r27=true then
   some (.inl (bA (t56+1)))
  else
   (s9 x26).bind fun r30=>
   if(r30 !=0)=true then
    some (.inr (.inl r30))
   else
    some (.inl (bA (t56+1)))
 else
  some (.inr (.inr ()))
def mo:Option (Int⊕(Unit)):=loop (fun(zz:Int)=>jA t54 t55 zz) t56
theorem A9{y:Int⊕(Int⊕(Unit))}(h:jA t54 t55 t56=some y):aL Pg GE 0 (cA KU 503) (LQ (fun(zz:Int)=>eo t54 t55 zz) fR ep y) (eo t54 t55 t56):=by
 rcases aK h with⟨c25,h⟩|⟨c25,h⟩
 ·obtain⟨x26,bx26,h⟩:=aw h
  obtain⟨r27,br27,h⟩:=aw h
  have p29:=fun{sc F} (r:PS sc F)=>sg 0 c25<|sv (aS.ia (k:=.i64) bx26)<|sv (az x26)<|sx d9<|sx (bp x26)<|sv (aU x26 [])<|aX (mr br27)<|r
  rcases aK h with⟨c28,h⟩|⟨c28,h⟩
  ·obtain rfl:=lf h
   have z:=p29<|sg 0 c28<|lG 0 .normal (eo t54 t55 (bA (t56+1))) rfl (cb (aI (up (am ah t54)) (aI trivial (aI trivial trivial)))) (aI trivial trivial)
   exact cc (A:=yL) mixed z<|by kernel_rfl
  ·obtain⟨r30,br30,h⟩:=aw h
   have p32:=fun{sc F} (r:PS sc F)=>p29<|sg 0 c28<|sv (aU x26 [])<|aX (K8 br30)<|r
   rcases aK h with⟨c31,h⟩|⟨c31,h⟩
   ·obtain rfl:=lf h
    have z:=p32<|sg 0 c31<|lG 0 (fR (.inl r30)) (ep (.inl r30)) rfl (cb (aI trivial trivial)) (aI trivial trivial)
    exact mC (A:=yL) mixed (by intro hx;cases hx) z<|by kernel_rfl
   ·obtain rfl:=lf h
    have z:=p32<|sg 0 c31<|lG 0 .normal (eo t54 t55 (bA (t56+1))) rfl (cb (aI (up (am ah t54)) (aI trivial (aI trivial trivial)))) (aI trivial trivial)
    exact cc (A:=yL) mixed z<|by kernel_rfl
 ·obtain rfl:=lf h
  have z:=sg 0 c25<|eF (fR (.inr ())) (ep (.inr ()))
  exact eS yL (by intro hx;cases hx) z<|by kernel_rfl
theorem tu{x:Int⊕(Unit)}(h:mo t54 t55 t56=some x):aL Pg GE 0 (.loop (cA KU 503)) (EX (fR x) (ep x)) (eo t54 t55 t56):=
 aL.loop (S:=fun(zz:Int)=>eo t54 t55 zz) (ex:=fR) (s:=t56) h fun zz y hy=>A9 t54 t55 zz hy
end
def rA(t:ae):Option Int:=
 (mm t).bind fun o12=>
 if o12=true then
  some 1
 else
  (mn t.Names (t.Names.length:Int) 0).bind fun o20=>match o20 with
  |(.inl o20)=>
   some 3
  | (.inr o20) =>
   (nD t.Names).bind fun r21=>
   if(!r21)=true then
    some 4
   else
    (app ([t.Pred]:List aa) t.Preds).bind fun l24=>
    (mo l24 (l24.length:Int) 0).bind fun o33=>match o33 with
    |(.inl o33)=>
     some o33
    |(.inr o33)=>
     some 0
theorem Hx{t:ae}{r:Int}(h:rA t=some r):CC Pg GE 114 [.agg (af t)] (.int .i64 r) []:=by
 obtain⟨o12,bo12,h⟩:=aw h
 have p14:=fun{sc F} (r:PS sc F)=>se (bH t)<|jC 1<|cm (CM t bo12)<|r
 rcases aK h with⟨c13,h⟩|⟨c13,h⟩
 ·obtain rfl:=lf h
  have z:=p14<|sg 0 c13<|en (aI (rP (.int .i64 1))<|trivial)
  exact bo yL call114 func114 (c:=KU) rfl (aI (aj t) trivial) z<|by kernel_rfl
 ·obtain⟨o20,bo20,h⟩:=aw h
  rcases o20 with o20|o20
  ·obtain rfl:=lf h
   have z:=p14<|sg 0 c13<|sv (aM t)<|sv (aN t)<|b9 (aZ.ln t.Names)<|cm (e:=.ret) (s1:=ej t (.inl o20)) (tt t t.Names (t.Names.length:Int) 0 bo20)<|en (aI (rP (.int .i64 3))<|trivial)
   exact bo yL call114 func114 (c:=KU) rfl (aI (aj t) trivial) z<|by kernel_rfl
  ·obtain⟨r21,br21,h⟩:=aw h
   have p23:=fun{sc F} (r:PS sc F)=>p14<|sg 0 c13<|sv (aM t)<|sv (aN t)<|b9 (aZ.ln t.Names)<|cm (e:=.exit 0) (s1:=ej t (.inr o20)) (tt t t.Names (t.Names.length:Int) 0 bo20)<|sv (aM t)<|sv (aN t)<|aX (Dy br21)<|r
   rcases aK h with⟨c22,h⟩|⟨c22,h⟩
   ·obtain rfl:=lf h
    have z:=p23<|sg 0 c22<|en (aI (rP (.int .i64 4))<|trivial)
    exact bo yL call114 func114 (c:=KU) rfl (aI (aj t) trivial) z<|by kernel_rfl
   ·obtain⟨l24,bl24,h⟩:=aw h
    obtain⟨o33,bo33,h⟩:=aw h
    rcases o33 with o33|o33
    ·obtain rfl:=lf h
     have z:=p23<|sg 0 c22<|sv (bv t)<|sv (bw t)<|sv (aS.mk' (v:=cj) bz ([t.Pred]:List aa) 1 (by kernel_rfl))<|sv (bk t)<|sv (bm t)<|sv (aS.ap bl24)<|b9 (aS.ln l24)<|cm (e:=.ret) (s1:=ep (.inl o33)) (tu l24 (l24.length:Int) 0 bo33)<|en (aI (rP (.int .i64 o33))<|trivial)
     exact bo yL call114 func114 (c:=KU) rfl (aI (aj t) trivial) z<|by kernel_rfl
    ·obtain rfl:=lf h
     have z:=p23<|sg 0 c22<|sv (bv t)<|sv (bw t)<|sv (aS.mk' (v:=cj) bz ([t.Pred]:List aa) 1 (by kernel_rfl))<|sv (bk t)<|sv (bm t)<|sv (aS.ap bl24)<|b9 (aS.ln l24)<|cm (e:=.exit 2) (s1:=ep (.inr o33)) (tu l24 (l24.length:Int) 0 bo33)<|en (aI (rP (.int .i64 0))<|trivial)
     exact bo yL call114 func114 (c:=KU) rfl (aI (aj t) trivial) z<|by kernel_rfl
noncomputable def W8:Code:=f78.body.getD .skip
def Wi:List Nat:=[11,23]
section
variable(R59:mc)(t13:waC)(t14:Int)(t15:Int)
def ff:ax:=aP 25 [(13,sl af t13),(14,.int .i64 t14),(15,.int .i64 t15)] [.dead] []
def fg(o:Int⊕(Unit)):Exit:=match o with
 |(.inl _)=>.ret
 |(.inr _)=>.exit 0
def dV(o:Int⊕(Unit)):ax:=match o with
 |(.inl o)=>aP 25 [(2,.int .i64 o)] [.dead] []
 |(.inr o)=>aP 25 [] [.dead] []
def ig:Option (Int⊕(Int⊕(Unit))):=
 if(decide (t15<t14))=true then
  (dt t13 t15).bind fun x5=>
  (R59 x5).bind fun r6=>
  if(r6 !=0)=true then
   some (.inr (.inl r6))
  else
   some (.inl (bA (t15+1)))
 else
  some (.inr (.inr ()))
def kD:Option (Int⊕(Unit)):=loop (fun(zz:Int)=>ig R59 t13 t14 zz) t15
theorem Ab(hR59:qm R59){y:Int⊕(Int⊕(Unit))}(h:ig R59 t13 t14 t15=some y):aL Pg GE 0 (cA W8 119) (LQ (fun(zz:Int)=>ff t13 t14 zz) fg dV y) (ff t13 t14 t15):=by
 rcases aK h with⟨c4,h⟩|⟨c4,h⟩
 ·obtain⟨x5,bx5,h⟩:=aw h
  obtain⟨r6,br6,h⟩:=aw h
  have p8:=fun{sc F} (r:PS sc F)=>sg 0 c4<|sv (cJ.ia (k:=.i64) bx5)<|sv (aQ x5)<|sx jl<|sx (cu x5)<|sv (bu x5 [])<|aX (hR59 _ _ br6)<|r
  rcases aK h with⟨c7,h⟩|⟨c7,h⟩
  ·obtain rfl:=lf h
   have z:=p8<|sg 0 c7<|lG 0 (fg (.inl r6)) (dV (.inl r6)) rfl (cb (aI trivial trivial)) (aI trivial trivial)
   exact mC (A:=Wi) mixed (by intro hx;cases hx) z<|by kernel_rfl
  ·obtain rfl:=lf h
   have z:=p8<|sg 0 c7<|lG 0 .normal (ff t13 t14 (bA (t15+1))) rfl (cb (aI (up (am aj t13)) (aI trivial (aI trivial trivial)))) (aI trivial trivial)
   exact cc (A:=Wi) mixed z<|by kernel_rfl
 ·obtain rfl:=lf h
  have z:=sg 0 c4<|eF (fg (.inr ())) (dV (.inr ()))
  exact eS Wi (by intro hx;cases hx) z<|by kernel_rfl
theorem qO(hR59:qm R59){x:Int⊕(Unit)}(h:kD R59 t13 t14 t15=some x):aL Pg GE 0 (.loop (cA W8 119)) (EX (fg x) (dV x)) (ff t13 t14 t15):=
 aL.loop (S:=fun(zz:Int)=>ff t13 t14 zz) (ex:=fg) (s:=t15) h fun zz y hy=>Ab R59 t13 t14 zz hR59 hy
end
def mq(R59:mc)(t:ae):Option Int:=
 (rA t).bind fun r1=>
 if(r1 !=0)=true then
  some r1
 else
  (kD R59 t.Args (t.Args.length:Int) 0).bind fun o9=>match o9 with
  |(.inl o9)=>
   some o9
  |(.inr o9)=>
   some 0
theorem D7(R59:mc)(hR59:qm R59){t:ae}{r:Int}(h:mq R59 t=some r):CC Pg GE 78 [.agg (af t)] (.int .i64 r) []:=by
 obtain⟨r1,br1,h⟩:=aw h
 have p3:=fun{sc F} (r:PS sc F)=>se (bH t)<|sv (aQ t)<|aX (Hx br1)<|r
 rcases aK h with⟨c2,h⟩|⟨c2,h⟩
 ·obtain rfl:=lf h
  have z:=p3<|sg 0 c2<|en (aI (rP (.int .i64 r1))<|trivial)
  exact bo Wi call78 func78 (c:=W8) rfl (aI (aj t) trivial) z<|by kernel_rfl
 ·obtain⟨o9,bo9,h⟩:=aw h
  rcases o9 with o9|o9
  ·obtain rfl:=lf h
   have z:=p3<|sg 0 c2<|sv (aF t)<|sv (aG t)<|b9 (cJ.ln t.Args)<|cm (e:=.ret) (s1:=dV (.inl o9)) (qO R59 t.Args (t.Args.length:Int) 0 hR59 bo9)<|en (aI (rP (.int .i64 o9))<|trivial)
   exact bo Wi call78 func78 (c:=W8) rfl (aI (aj t) trivial) z<|by kernel_rfl
  ·obtain rfl:=lf h
   have z:=p3<|sg 0 c2<|sv (aF t)<|sv (aG t)<|b9 (cJ.ln t.Args)<|cm (e:=.exit 0) (s1:=dV (.inr o9)) (qO R59 t.Args (t.Args.length:Int) 0 hR59 bo9)<|en (aI (rP (.int .i64 0))<|trivial)
   exact bo Wi call78 func78 (c:=W8) rfl (aI (aj t) trivial) z<|by kernel_rfl
def qy:(ae->Option Int)->(ae)->Option Int:=fun(rec:ae->Option Int) (x:ae)=>mq (fun t=>rec t) x
def vF(t:ae):Option Int:=ku qy t
theorem Fy{t:ae}{r:Int}(h:vF t=some r):CC Pg GE 78 [.agg (af t)] (.int .i64 r) []:=
 cn (F:=qy) (M:=fun(x:ae) (r:Int)=>CC Pg GE 78 [.agg (af x)] (.int .i64 r) []) (fun rec hrec x r h=>D7 _ (fun t r h=>hrec t r h) h) h
noncomputable def Zi:Code:=f37.body.getD .skip
def Y7:List Nat:=[8]
def lU(t:ae):Option Int:=
 (uG t).bind fun r1=>
 if(r1 !=0)=true then
  some r1
 else
  (vF t).bind fun r4=>
  some r4
theorem wB{t:ae}{r:Int}(h:lU t=some r):CC Pg GE 37 [.agg (af t)] (.int .i64 r) []:=by
 obtain⟨r1,br1,h⟩:=aw h
 have p3:=fun{sc F} (r:PS sc F)=>se (bH t)<|sv (aQ t)<|aX (Kf br1)<|r
 rcases aK h with⟨c2,h⟩|⟨c2,h⟩
 ·obtain rfl:=lf h
  have z:=p3<|sg 0 c2<|en (aI (rP (.int .i64 r1))<|trivial)
  exact bo Y7 call37 func37 (c:=Zi) rfl (aI (aj t) trivial) z<|by kernel_rfl
 ·obtain⟨r4,br4,h⟩:=aw h
  obtain rfl:=lf h
  have z:=p3<|sg 0 c2<|sv (aQ t)<|aX (Fy br4)<|en (aI (rP (.int .i64 r4))<|trivial)
  exact bo Y7 call37 func37 (c:=Zi) rfl (aI (aj t) trivial) z<|by kernel_rfl
abbrev xx:=(ae->ae->Option Bool)
abbrev BT(R:xx):Prop:=∀(a:ae) (a2:ae) (r:Bool),R a a2=some r->CC Pg GE 12 [.agg (af a),.agg (af a2)] (.bool r) []
noncomputable def W5:Code:=f32.body.getD .skip
def We:List Nat:=[15]
section
variable(v:waA)(v2:waA)(t12:Int)(t13:Int)
def kV:ax:=aP 26 [(0,sl cS v),(1,sl cS v2),(12,.int .i64 t12),(13,.int .i64 t13)] [] []
def kW(o:Unit⊕(Unit)):Exit:=match o with
 |(.inl _)=>.ret
 |(.inr _)=>.exit 0
def iW(o:Unit⊕(Unit)):ax:=match o with
 |(.inl o)=>aP 26 [(4,.bool false)] [] []
 |(.inr o)=>aP 26 [] [] []
def uO:Option (Int⊕(Unit⊕(Unit))):=
 if(decide (t13<t12))=true then
  (dt v t13).bind fun x4=>
  (dt v2 t13).bind fun x5=>
  if(!(x4==x5))=true then
   some (.inr (.inl ()))
  else
   some (.inl (bA (t13+1)))
 else
  some (.inr (.inr ()))
def y6:Option (Unit⊕(Unit)):=loop (fun(zz:Int)=>uO v v2 t12 zz) t13
theorem Gy{y:Int⊕(Unit⊕(Unit))}(h:uO v v2 t12 t13=some y):aL Pg GE 0 (cA W5 119) (LQ (fun(zz:Int)=>kV v v2 t12 zz) kW iW y) (kV v v2 t12 t13):=by
 rcases aK h with⟨c3,h⟩|⟨c3,h⟩
 ·obtain⟨x4,bx4,h⟩:=aw h
  obtain⟨x5,bx5,h⟩:=aw h
  have p7:=fun{sc F} (r:PS sc F)=>sg 0 c3<|CO [0,0,3,7,0,0,48,112,255]<|sv (aZ.ia (k:=.i64) bx4)<|sv (dB Es (.str x4) [])<|sv (aZ.ia (k:=.i64) bx5)<|sv (dB Es (.str x5) [])<|r
  rcases aK h with⟨c6,h⟩|⟨c6,h⟩
  ·obtain rfl:=lf h
   have z:=p7<|sg 0 c6<|eF (kW (.inl ())) (iW (.inl ()))
   exact eS We (by intro hx;cases hx) z<|by kernel_rfl
  ·obtain rfl:=lf h
   exact vJ We (p7<|sg 0 c6<|eF .normal (kV v v2 t12 (bA (t13+1))))<|by kernel_rfl
 ·obtain rfl:=lf h
  have z:=sg 0 c3<|eF (kW (.inr ())) (iW (.inr ()))
  exact eS We (by intro hx;cases hx) z<|by kernel_rfl
theorem y7{x:Unit⊕(Unit)}(h:y6 v v2 t12 t13=some x):aL Pg GE 0 (.loop (cA W5 119)) (EX (kW x) (iW x)) (kV v v2 t12 t13):=
 aL.loop (S:=fun(zz:Int)=>kV v v2 t12 zz) (ex:=kW) (s:=t13) h fun zz y hy=>Gy v v2 t12 zz hy
end
def rZ(a:waA)(a2:waA):Option Bool:=
 if((a.length:Int)!=(a2.length:Int))=true then
  some false
 else
  (y6 a a2 (a.length:Int) 0).bind fun o8=>match o8 with
  |(.inl o8)=>
   some false
  |(.inr o8)=>
   some true
theorem tN{a:waA}{a2:waA}{r:Bool}(h:rZ a a2=some r):CC Pg GE 32 [sl cS a,sl cS a2] (.bool r) []:=by
 have p2:=fun{sc F} (r:PS sc F)=>b9 (aZ.ln a)<|b9 (aZ.ln a2)<|r
 rcases aK h with⟨c1,h⟩|⟨c1,h⟩
 ·obtain rfl:=lf h
  have z:=p2<|sg 0 c1<|en (aI (rP (.bool false))<|trivial)
  exact bo We call32 func32 (c:=W5) rfl (aI (am d8 a) (aI (am d8 a2) trivial)) z<|by kernel_rfl
 ·obtain⟨o8,bo8,h⟩:=aw h
  rcases o8 with o8|o8
  ·obtain rfl:=lf h
   have z:=p2<|sg 0 c1<|b9 (aZ.ln a)<|cm (e:=.ret) (s1:=iW (.inl o8)) (y7 a a2 (a.length:Int) 0 bo8)<|en (aI (rP (.bool false))<|trivial)
   exact bo We call32 func32 (c:=W5) rfl (aI (am d8 a) (aI (am d8 a2) trivial)) z<|by kernel_rfl
  ·obtain rfl:=lf h
   have z:=p2<|sg 0 c1<|b9 (aZ.ln a)<|cm (e:=.exit 0) (s1:=iW (.inr o8)) (y7 a a2 (a.length:Int) 0 bo8)<|en (aI (rP (.bool true))<|trivial)
   exact bo We call32 func32 (c:=W5) rfl (aI (am d8 a) (aI (am d8 a2) trivial)) z<|by kernel_rfl
noncomputable def qai:Code:=f59.body.getD .skip
def Z0:List Nat:=[]
def Ik:Option aa:=
 some (⟨2,([]:ag),1,([]:List aa)⟩:aa)
theorem NK{r:aa}(h:Ik=some r):CC Pg GE 59 [] (.agg (ac r)) [(3,28)]:=by
 obtain rfl:=lf h
 have z:=sx d9<|sb (nx 2 1) (nw 2 1)<|sy (aR (⟨2,([]:ag),1,([]:List aa)⟩:aa))<|en (aI (dG (⟨2,([]:ag),1,([]:List aa)⟩:aa))<|aI (ah (⟨2,([]:ag),1,([]:List aa)⟩:aa))<|rT)
 exact bo Z0 call59 func59 (c:=qai) rfl trivial z<|by kernel_rfl
abbrev xt:=(aa->aa->Option Bool)
abbrev BO(R:xt):Prop:=∀(a:aa) (a2:aa) (r:Bool),R a a2=some r->CC Pg GE 22 [.agg (ac a),.agg (ac a2)] (.bool r) []
noncomputable def Wm:Code:=f22.body.getD .skip
def TQ:List Nat:=[39]
section
variable(v:aa)(v2:aa)
def Ky:ax:=aP 53 [(2,.eptr (ac v)),(3,.eptr (ac v2))] [.dead,.dead] []
def kZ(o:Bool):ax:=aP 53 [(2,.eptr (ac v)),(3,.eptr (ac v2)),(33,.bool o)] [.dead,.dead] []
def zb:Option Bool:=
 if(v.Op !=v2.Op)=true then
  some true
 else
  if(!(v.Name==v2.Name))=true then
   some true
  else
   if(v.N !=v2.N)=true then
    some true
   else
    some ((v.Kids.length:Int)!=(v2.Kids.length:Int))
theorem Ij{x:Bool}(h:zb v v2=some x):aL Pg GE 0 (cA Wm 12) (EX .normal (kZ v v2 x)) (Ky v v2):=by
 have p2:=fun{sc F} (r:PS sc F)=>sv (aB v)<|sv (aC v)<|sv (aB v2)<|sv (aC v2)<|r
 rcases aK h with⟨c1,h⟩|⟨c1,h⟩
 ·obtain rfl:=lf h
  exact bE TQ (p2<|sg 6 c1<|eF .normal (kZ v v2 true))<|by kernel_rfl
 ·have p4:=fun{sc F} (r:PS sc F)=>p2<|sg 6 c1<|sv (bF v)<|sv (bN v)<|sv (bF v2)<|sv (bN v2)<|r
  rcases aK h with⟨c3,h⟩|⟨c3,h⟩
  ·obtain rfl:=lf h
   exact bE TQ (p4<|sg 13 c3<|eF .normal (kZ v v2 true))<|by kernel_rfl
  ·have p6:=fun{sc F} (r:PS sc F)=>p4<|sg 13 c3<|sv (bG v)<|sv (bO v)<|sv (bG v2)<|sv (bO v2)<|r
   rcases aK h with⟨c5,h⟩|⟨c5,h⟩
   ·obtain rfl:=lf h
    exact bE TQ (p6<|sg 20 c5<|eF .normal (kZ v v2 true))<|by kernel_rfl
   ·obtain rfl:=lf h
    exact bE TQ (p6<|sg 20 c5<|sv (aH v)<|sv (aJ v)<|b9 (aS.ln v.Kids)<|sv (aH v2)<|sv (aJ v2)<|b9 (aS.ln v2.Kids)<|eF .normal (kZ v v2 ((v.Kids.length:Int)!=(v2.Kids.length:Int))))<|by kernel_rfl
end
section
variable(R76:xt)(v:aa)(v2:aa)(t36:Int)(t37:Int)
def la:ax:=aP 53 [(2,.eptr (ac v)),(3,.eptr (ac v2)),(36,.int .i64 t36),(37,.int .i64 t37)] [.dead,.dead] []
def lb(o:Unit⊕(Unit)):Exit:=match o with
 |(.inl _)=>.ret
 |(.inr _)=>.exit 0
def iX(o:Unit⊕(Unit)):ax:=match o with
 |(.inl o)=>aP 53 [(4,.bool false)] [.dead,.dead] []
 |(.inr o)=>aP 53 [] [.dead,.dead] []
def pb:Option (Int⊕(Unit⊕(Unit))):=
 if(decide (t37<t36))=true then
  (dt v.Kids t37).bind fun x11=>
  (dt v2.Kids t37).bind fun x12=>
  (R76 x11 x12).bind fun r13=>
  if(!r13)=true then
   some (.inr (.inl ()))
  else
   some (.inl (bA (t37+1)))
 else
  some (.inr (.inr ()))
def zc:Option (Unit⊕(Unit)):=loop (fun(zz:Int)=>pb R76 v v2 t36 zz) t37
theorem GP(hR76:BO R76){y:Int⊕(Unit⊕(Unit))}(h:pb R76 v v2 t36 t37=some y):aL Pg GE 0 (cA Wm 119) (LQ (fun(zz:Int)=>la v v2 t36 zz) lb iX y) (la v v2 t36 t37):=by
 rcases aK h with⟨c10,h⟩|⟨c10,h⟩
 ·obtain⟨x11,bx11,h⟩:=aw h
  obtain⟨x12,bx12,h⟩:=aw h
  obtain⟨r13,br13,h⟩:=aw h
  have p15:=fun{sc F} (r:PS sc F)=>sg 0 c10<|CO [0,1,0,7,15,0,32,0,224,480,1023,2047]<|sv (aH v)<|sv (aJ v)<|sv (aS.ia (k:=.i64) bx11)<|sv (az x11)<|sv (aH v2)<|sv (aJ v2)<|sv (aS.ia (k:=.i64) bx12)<|sv (az x12)<|aX (hR76 _ _ _ br13)<|r
  rcases aK h with⟨c14,h⟩|⟨c14,h⟩
  ·obtain rfl:=lf h
   have z:=p15<|sg 0 c14<|eF (lb (.inl ())) (iX (.inl ()))
   exact eS TQ (by intro hx;cases hx) z<|by kernel_rfl
  ·obtain rfl:=lf h
   exact vJ TQ (p15<|sg 0 c14<|eF .normal (la v v2 t36 (bA (t37+1))))<|by kernel_rfl
 ·obtain rfl:=lf h
  have z:=sg 0 c10<|eF (lb (.inr ())) (iX (.inr ()))
  exact eS TQ (by intro hx;cases hx) z<|by kernel_rfl
theorem zd(hR76:BO R76){x:Unit⊕(Unit)}(h:zc R76 v v2 t36 t37=some x):aL Pg GE 0 (.loop (cA Wm 119)) (EX (lb x) (iX x)) (la v v2 t36 t37):=
 aL.loop (S:=fun(zz:Int)=>la v v2 t36 zz) (ex:=lb) (s:=t37) h fun zz y hy=>GP R76 v v2 t36 zz hR76 hy
end
def xk(R76:xt)(a:aa)(a2:aa):Option Bool:=
 (zb a a2).bind fun o7=>
 if o7=true then
  some false
 else
  (zc R76 a a2 (a.Kids.length:Int) 0).bind fun o16=>match o16 with
  |(.inl o16)=>
   some false
  |(.inr o16)=>
   some true
theorem Mu(R76:xt)(hR76:BO R76){a:aa}{a2:aa}{r:Bool}(h:xk R76 a a2=some r):CC Pg GE 22 [.agg (ac a),.agg (ac a2)] (.bool r) []:=by
 obtain⟨o7,bo7,h⟩:=aw h
 have p9:=fun{sc F} (r:PS sc F)=>se (bh a)<|se (bh a2)<|jC 1<|cm (Ij a a2 bo7)<|r
 rcases aK h with⟨c8,h⟩|⟨c8,h⟩
 ·obtain rfl:=lf h
  have z:=p9<|sg 0 c8<|en (aI (rP (.bool false))<|trivial)
  exact bo TQ call22 func22 (c:=Wm) rfl (aI (ah a) (aI (ah a2) trivial)) z<|by kernel_rfl
 ·obtain⟨o16,bo16,h⟩:=aw h
  rcases o16 with o16|o16
  ·obtain rfl:=lf h
   have z:=p9<|sg 0 c8<|sv (aH a)<|sv (aJ a)<|b9 (aS.ln a.Kids)<|cm (e:=.ret) (s1:=iX (.inl o16)) (zd R76 a a2 (a.Kids.length:Int) 0 hR76 bo16)<|en (aI (rP (.bool false))<|trivial)
   exact bo TQ call22 func22 (c:=Wm) rfl (aI (ah a) (aI (ah a2) trivial)) z<|by kernel_rfl
  ·obtain rfl:=lf h
   have z:=p9<|sg 0 c8<|sv (aH a)<|sv (aJ a)<|b9 (aS.ln a.Kids)<|cm (e:=.exit 0) (s1:=iX (.inr o16)) (zd R76 a a2 (a.Kids.length:Int) 0 hR76 bo16)<|en (aI (rP (.bool true))<|trivial)
   exact bo TQ call22 func22 (c:=Wm) rfl (aI (ah a) (aI (ah a2) trivial)) z<|by kernel_rfl
def BZ:((aa×aa)->Option Bool)->(aa×aa)->Option Bool:=fun(rec:(aa×aa)->Option Bool) (x:aa×aa)=>xk (fun a a2=>rec (a,a2)) x.1 x.2
def gq(a:aa)(a2:aa):Option Bool:=ku BZ (a,a2)
theorem gO{a:aa}{a2:aa}{r:Bool}(h:gq a a2=some r):CC Pg GE 22 [.agg (ac a),.agg (ac a2)] (.bool r) []:=
 cn (F:=BZ) (M:=fun(x:aa×aa) (r:Bool)=>CC Pg GE 22 [.agg (ac x.1),.agg (ac x.2)] (.bool r) []) (fun rec hrec x r h=>Mu _ (fun a a2 r h=>hrec (a,a2) r h) h) h
noncomputable def Zn:Code:=f87.body.getD .skip
def Zc:List Nat:=[]
def ze(p:aa):Option Bool:=
 Ik.bind fun r1=>
 (gq p r1).bind fun r2=>
 if r2=true then
  some true
 else
  (gq p (⟨0,([]:ag),0,([]:List aa)⟩:aa)).bind fun r5=>
  some r5
theorem FU{p:aa}{r:Bool}(h:ze p=some r):CC Pg GE 87 [.agg (ac p)] (.bool r) []:=by
 obtain⟨r1,br1,h⟩:=aw h
 obtain⟨r2,br2,h⟩:=aw h
 have p4:=fun{sc F} (r:PS sc F)=>se (bh p)<|CO [0,0,3,7,15,15,63,127,255]<|sv (az p)<|aX (NK br1)<|aX (gO br2)<|r
 rcases aK h with⟨c3,h⟩|⟨c3,h⟩
 ·obtain rfl:=lf h
  have z:=p4<|sg 4 c3<|en (aI (rP (.bool true))<|trivial)
  exact bo Zc call87 func87 (c:=Zn) rfl (aI (ah p) trivial) z<|by kernel_rfl
 ·obtain⟨r5,br5,h⟩:=aw h
  obtain rfl:=lf h
  have z:=p4<|sg 4 c3<|sv (az p)<|sb (sM) (sK)<|aX (gO br5)<|en (aI (rP (.bool r5))<|trivial)
  exact bo Zc call87 func87 (c:=Zn) rfl (aI (ah p) trivial) z<|by kernel_rfl
noncomputable def Yr:Code:=f48.body.getD .skip
def Ya:List Nat:=[]
def vQ(a:aa)(a2:aa):Option Bool:=
 (ze a).bind fun r1=>
 if r1=true then
  (ze a2).bind fun r4=>
  if r4=true then
   some true
  else
   (gq a a2).bind fun r7=>
   some r7
 else
  (gq a a2).bind fun r8=>
  some r8
theorem FV{a:aa}{a2:aa}{r:Bool}(h:vQ a a2=some r):CC Pg GE 48 [.agg (ac a),.agg (ac a2)] (.bool r) []:=by
 obtain⟨r1,br1,h⟩:=aw h
 have p3:=fun{sc F} (r:PS sc F)=>se (bh a)<|se (bh a2)<|sv (az a)<|aX (FU br1)<|r
 rcases aK h with⟨c2,h⟩|⟨c2,h⟩
 ·obtain⟨r4,br4,h⟩:=aw h
  have p6:=fun{sc F} (r:PS sc F)=>p3<|sg 3 c2<|sv (az a2)<|aX (FU br4)<|r
  rcases aK h with⟨c5,h⟩|⟨c5,h⟩
  ·obtain rfl:=lf h
   have z:=p6<|sg 7 c5<|en (aI (rP (.bool true))<|trivial)
   exact bo Ya call48 func48 (c:=Yr) rfl (aI (ah a) (aI (ah a2) trivial)) z<|by kernel_rfl
  ·obtain⟨r7,br7,h⟩:=aw h
   obtain rfl:=lf h
   have z:=p6<|sg 7 c5<|sv (az a)<|sv (az a2)<|aX (gO br7)<|en (aI (rP (.bool r7))<|trivial)
   exact bo Ya call48 func48 (c:=Yr) rfl (aI (ah a) (aI (ah a2) trivial)) z<|by kernel_rfl
 ·obtain⟨r8,br8,h⟩:=aw h
  obtain rfl:=lf h
  have z:=p3<|sg 3 c2<|sv (az a)<|sv (az a2)<|aX (gO br8)<|en (aI (rP (.bool r8))<|trivial)
  exact bo Ya call48 func48 (c:=Yr) rfl (aI (ah a) (aI (ah a2) trivial)) z<|by kernel_rfl
noncomputable def Ua:Code:=f12.body.getD .skip
def O5:List Nat:=[58,77]
section
variable(v:ae)(v2:ae)
def KN:ax:=aP 91 [(2,.eptr (af v)),(3,.eptr (af v2))] [.dead,.dead] []
def f0(o:Bool):ax:=aP 91 [(2,.eptr (af v)),(3,.eptr (af v2)),(52,.bool o)] [.dead,.dead] []
def zo:Option Bool:=
 if(v.Op !=v2.Op)=true then
  some true
 else
  if(!(v.Name==v2.Name))=true then
   some true
  else
   if((v.Args.length:Int)!=(v2.Args.length:Int))=true then
    some true
   else
    if((v.Preds.length:Int)!=(v2.Preds.length:Int))=true then
     some true
    else
     (rZ v.Names v2.Names).bind fun r9=>
     if(!r9)=true then
      some true
     else
      (vQ v.Pred v2.Pred).bind fun r12=>
      some (!r12)
theorem ID{x:Bool}(h:zo v v2=some x):aL Pg GE 0 (cA Ua 12) (EX .normal (f0 v v2 x)) (KN v v2):=by
 have p2:=fun{sc F} (r:PS sc F)=>sv (au v)<|sv (av v)<|sv (au v2)<|sv (av v2)<|r
 rcases aK h with⟨c1,h⟩|⟨c1,h⟩
 ·obtain rfl:=lf h
  exact bE O5 (p2<|sg 6 c1<|eF .normal (f0 v v2 true))<|by kernel_rfl
 ·have p4:=fun{sc F} (r:PS sc F)=>p2<|sg 6 c1<|sv (ck v)<|sv (cq v)<|sv (ck v2)<|sv (cq v2)<|r
  rcases aK h with⟨c3,h⟩|⟨c3,h⟩
  ·obtain rfl:=lf h
   exact bE O5 (p4<|sg 13 c3<|eF .normal (f0 v v2 true))<|by kernel_rfl
  ·have p6:=fun{sc F} (r:PS sc F)=>p4<|sg 13 c3<|sv (aF v)<|sv (aG v)<|b9 (cJ.ln v.Args)<|sv (aF v2)<|sv (aG v2)<|b9 (cJ.ln v2.Args)<|r
   rcases aK h with⟨c5,h⟩|⟨c5,h⟩
   ·obtain rfl:=lf h
    exact bE O5 (p6<|sg 22 c5<|eF .normal (f0 v v2 true))<|by kernel_rfl
   ·have p8:=fun{sc F} (r:PS sc F)=>p6<|sg 22 c5<|sv (bk v)<|sv (bm v)<|b9 (aS.ln v.Preds)<|sv (bk v2)<|sv (bm v2)<|b9 (aS.ln v2.Preds)<|r
    rcases aK h with⟨c7,h⟩|⟨c7,h⟩
    ·obtain rfl:=lf h
     exact bE O5 (p8<|sg 31 c7<|eF .normal (f0 v v2 true))<|by kernel_rfl
    ·obtain⟨r9,br9,h⟩:=aw h
     have p11:=fun{sc F} (r:PS sc F)=>p8<|sg 31 c7<|sv (aM v)<|sv (aN v)<|sv (aM v2)<|sv (aN v2)<|aX (tN br9)<|r
     rcases aK h with⟨c10,h⟩|⟨c10,h⟩
     ·obtain rfl:=lf h
      exact bE O5 (p11<|sg 39 c10<|eF .normal (f0 v v2 true))<|by kernel_rfl
     ·obtain⟨r12,br12,h⟩:=aw h
      obtain rfl:=lf h
      exact bE O5 (p11<|sg 39 c10<|sv (bv v)<|sv (bw v)<|sv (bv v2)<|sv (bw v2)<|aX (FV br12)<|eF .normal (f0 v v2 (!r12)))<|by kernel_rfl
end
section
variable(v:ae)(v2:ae)(t55:Int)(t56:Int)
def lm:ax:=aP 91 [(2,.eptr (af v)),(3,.eptr (af v2)),(55,.int .i64 t55),(56,.int .i64 t56)] [.dead,.dead] []
def lp(o:Unit⊕(Unit)):Exit:=match o with
 |(.inl _)=>.ret
 |(.inr _)=>.exit 0
def f6(o:Unit⊕(Unit)):ax:=match o with
 |(.inl o)=>aP 91 [(4,.bool false)] [.dead,.dead] []
 |(.inr o)=>aP 91 [(2,.eptr (af v)),(3,.eptr (af v2))] [.dead,.dead] []
def u7:Option (Int⊕(Unit⊕(Unit))):=
 if(decide (t56<t55))=true then
  (dt v.Preds t56).bind fun x17=>
  (dt v2.Preds t56).bind fun x18=>
  (vQ x17 x18).bind fun r19=>
  if(!r19)=true then
   some (.inr (.inl ()))
  else
   some (.inl (bA (t56+1)))
 else
  some (.inr (.inr ()))
def zp:Option (Unit⊕(Unit)):=loop (fun(zz:Int)=>u7 v v2 t55 zz) t56
theorem GW{y:Int⊕(Unit⊕(Unit))}(h:u7 v v2 t55 t56=some y):aL Pg GE 0 (cA Ua 119) (LQ (fun(zz:Int)=>lm v v2 t55 zz) lp (f6 v v2) y) (lm v v2 t55 t56):=by
 rcases aK h with⟨c16,h⟩|⟨c16,h⟩
 ·obtain⟨x17,bx17,h⟩:=aw h
  obtain⟨x18,bx18,h⟩:=aw h
  obtain⟨r19,br19,h⟩:=aw h
  have p21:=fun{sc F} (r:PS sc F)=>sg 0 c16<|CO [0,1,0,7,15,0,32,0,224,480,1023,2047]<|sv (bk v)<|sv (bm v)<|sv (aS.ia (k:=.i64) bx17)<|sv (az x17)<|sv (bk v2)<|sv (bm v2)<|sv (aS.ia (k:=.i64) bx18)<|sv (az x18)<|aX (FV br19)<|r
  rcases aK h with⟨c20,h⟩|⟨c20,h⟩
  ·obtain rfl:=lf h
   have z:=p21<|sg 0 c20<|eF (lp (.inl ())) (f6 v v2 (.inl ()))
   exact eS O5 (by intro hx;cases hx) z<|by kernel_rfl
  ·obtain rfl:=lf h
   exact vJ O5 (p21<|sg 0 c20<|eF .normal (lm v v2 t55 (bA (t56+1))))<|by kernel_rfl
 ·obtain rfl:=lf h
  have z:=sg 0 c16<|eF (lp (.inr ())) (f6 v v2 (.inr ()))
  exact eS O5 (by intro hx;cases hx) z<|by kernel_rfl
theorem sB{x:Unit⊕(Unit)}(h:zp v v2 t55 t56=some x):aL Pg GE 0 (.loop (cA Ua 119)) (EX (lp x) (f6 v v2 x)) (lm v v2 t55 t56):=
 aL.loop (S:=fun(zz:Int)=>lm v v2 t55 zz) (ex:=lp) (s:=t56) h fun zz y hy=>GW v v2 t55 zz hy
end
section
variable(R71:xx)(v:ae)(v2:ae)(t74:Int)(t75:Int)
def lq:ax:=aP 91 [(2,.eptr (af v)),(3,.eptr (af v2)),(74,.int .i64 t74),(75,.int .i64 t75)] [.dead,.dead] []
def lr(o:Unit⊕(Unit)):Exit:=match o with
 |(.inl _)=>.ret
 |(.inr _)=>.exit 2
def i8(o:Unit⊕(Unit)):ax:=match o with
 |(.inl o)=>aP 91 [(4,.bool false)] [.dead,.dead] []
 |(.inr o)=>aP 91 [] [.dead,.dead] []
def u9:Option (Int⊕(Unit⊕(Unit))):=
 if(decide (t75<t74))=true then
  (dt v.Args t75).bind fun x24=>
  (dt v2.Args t75).bind fun x25=>
  (R71 x24 x25).bind fun r26=>
  if(!r26)=true then
   some (.inr (.inl ()))
  else
   some (.inl (bA (t75+1)))
 else
  some (.inr (.inr ()))
def zq:Option (Unit⊕(Unit)):=loop (fun(zz:Int)=>u9 R71 v v2 t74 zz) t75
theorem GX(hR71:BT R71){y:Int⊕(Unit⊕(Unit))}(h:u9 R71 v v2 t74 t75=some y):aL Pg GE 0 (cA Ua 247) (LQ (fun(zz:Int)=>lq v v2 t74 zz) lr i8 y) (lq v v2 t74 t75):=by
 rcases aK h with⟨c23,h⟩|⟨c23,h⟩
 ·obtain⟨x24,bx24,h⟩:=aw h
  obtain⟨x25,bx25,h⟩:=aw h
  obtain⟨r26,br26,h⟩:=aw h
  have p28:=fun{sc F} (r:PS sc F)=>sg 0 c23<|CO [0,1,0,7,15,0,32,0,224,480,1023,2047]<|sv (aF v)<|sv (aG v)<|sv (cJ.ia (k:=.i64) bx24)<|sv (aQ x24)<|sv (aF v2)<|sv (aG v2)<|sv (cJ.ia (k:=.i64) bx25)<|sv (aQ x25)<|aX (hR71 _ _ _ br26)<|r
  rcases aK h with⟨c27,h⟩|⟨c27,h⟩
  ·obtain rfl:=lf h
   have z:=p28<|sg 0 c27<|eF (lr (.inl ())) (i8 (.inl ()))
   exact eS O5 (by intro hx;cases hx) z<|by kernel_rfl
  ·obtain rfl:=lf h
   exact vJ O5 (p28<|sg 0 c27<|eF .normal (lq v v2 t74 (bA (t75+1))))<|by kernel_rfl
 ·obtain rfl:=lf h
  have z:=sg 0 c23<|eF (lr (.inr ())) (i8 (.inr ()))
  exact eS O5 (by intro hx;cases hx) z<|by kernel_rfl
theorem zr(hR71:BT R71){x:Unit⊕(Unit)}(h:zq R71 v v2 t74 t75=some x):aL Pg GE 0 (.loop (cA Ua 247)) (EX (lr x) (i8 x)) (lq v v2 t74 t75):=
 aL.loop (S:=fun(zz:Int)=>lq v v2 t74 zz) (ex:=lr) (s:=t75) h fun zz y hy=>GX R71 v v2 t74 zz hR71 hy
end
def xp(R71:xx)(a:ae)(a2:ae):Option Bool:=
 (zo a a2).bind fun o13=>
 if o13=true then
  some false
 else
  (zp a a2 (a.Preds.length:Int) 0).bind fun o22=>match o22 with
  |(.inl o22)=>
   some false
  | (.inr o22) =>
   (zq R71 a a2 (a.Args.length:Int) 0).bind fun o29=>match o29 with
   |(.inl o29)=>
    some false
   |(.inr o29)=>
    some true
theorem MD(R71:xx)(hR71:BT R71){a:ae}{a2:ae}{r:Bool}(h:xp R71 a a2=some r):CC Pg GE 12 [.agg (af a),.agg (af a2)] (.bool r) []:=by
 obtain⟨o13,bo13,h⟩:=aw h
 have p15:=fun{sc F} (r:PS sc F)=>se (bH a)<|se (bH a2)<|jC 1<|cm (ID a a2 bo13)<|r
 rcases aK h with⟨c14,h⟩|⟨c14,h⟩
 ·obtain rfl:=lf h
  have z:=p15<|sg 0 c14<|en (aI (rP (.bool false))<|trivial)
  exact bo O5 call12 func12 (c:=Ua) rfl (aI (aj a) (aI (aj a2) trivial)) z<|by kernel_rfl
 ·obtain⟨o22,bo22,h⟩:=aw h
  rcases o22 with o22|o22
  ·obtain rfl:=lf h
   have z:=p15<|sg 0 c14<|sv (bk a)<|sv (bm a)<|b9 (aS.ln a.Preds)<|cm (e:=.ret) (s1:=f6 a a2 (.inl o22)) (sB a a2 (a.Preds.length:Int) 0 bo22)<|en (aI (rP (.bool false))<|trivial)
   exact bo O5 call12 func12 (c:=Ua) rfl (aI (aj a) (aI (aj a2) trivial)) z<|by kernel_rfl
  ·obtain⟨o29,bo29,h⟩:=aw h
   rcases o29 with o29|o29
   ·obtain rfl:=lf h
    have z:=p15<|sg 0 c14<|sv (bk a)<|sv (bm a)<|b9 (aS.ln a.Preds)<|cm (e:=.exit 0) (s1:=f6 a a2 (.inr o22)) (sB a a2 (a.Preds.length:Int) 0 bo22)<|sv (aF a)<|sv (aG a)<|b9 (cJ.ln a.Args)<|cm (e:=.ret) (s1:=i8 (.inl o29)) (zr R71 a a2 (a.Args.length:Int) 0 hR71 bo29)<|en (aI (rP (.bool false))<|trivial)
    exact bo O5 call12 func12 (c:=Ua) rfl (aI (aj a) (aI (aj a2) trivial)) z<|by kernel_rfl
   ·obtain rfl:=lf h
    have z:=p15<|sg 0 c14<|sv (bk a)<|sv (bm a)<|b9 (aS.ln a.Preds)<|cm (e:=.exit 0) (s1:=f6 a a2 (.inr o22)) (sB a a2 (a.Preds.length:Int) 0 bo22)<|sv (aF a)<|sv (aG a)<|b9 (cJ.ln a.Args)<|cm (e:=.exit 2) (s1:=i8 (.inr o29)) (zr R71 a a2 (a.Args.length:Int) 0 hR71 bo29)<|en (aI (rP (.bool true))<|trivial)
    exact bo O5 call12 func12 (c:=Ua) rfl (aI (aj a) (aI (aj a2) trivial)) z<|by kernel_rfl
def B5:((ae×ae)->Option Bool)->(ae×ae)->Option Bool:=fun(rec:(ae×ae)->Option Bool) (x:ae×ae)=>xp (fun a a2=>rec (a,a2)) x.1 x.2
def sA(a:ae)(a2:ae):Option Bool:=ku B5 (a,a2)
theorem pT{a:ae}{a2:ae}{r:Bool}(h:sA a a2=some r):CC Pg GE 12 [.agg (af a),.agg (af a2)] (.bool r) []:=
 cn (F:=B5) (M:=fun(x:ae×ae) (r:Bool)=>CC Pg GE 12 [.agg (af x.1),.agg (af x.2)] (.bool r) []) (fun rec hrec x r h=>MD _ (fun a a2 r h=>hrec (a,a2) r h) h) h
noncomputable def qag:Code:=f57.body.getD .skip
def ZY:List Nat:=[]
def JL(p:aa)(name:ag)(a:aa):Option aa:=
 (vq p ([name]:List ag) ([a]:List aa)).bind fun r1=>
 some r1
theorem Lb{p:aa}{name:ag}{a:aa}{r:aa}(h:JL p name a=some r):CC Pg GE 57 [.agg (ac p),.str name,.agg (ac a)] (.agg (ac r)) [(3,28)]:=by
 obtain⟨r1,br1,h⟩:=aw h
 obtain rfl:=lf h
 have z:=se (bh p)<|se (bh a)<|sx d9<|sv (az p)<|sv (aZ.mk' (v:=PVal.str) Ge ([name]:List ag) 1 (by kernel_rfl))<|sv (az a)<|sv (aS.mk' (v:=cj) bz ([a]:List aa) 1 (by kernel_rfl))<|aX (wx br1)<|sy (aR r1)<|en (aI (dG r1)<|aI (ah r1)<|rT)
 exact bo ZY call57 func57 (c:=qag) rfl (aI (ah p) (aI trivial (aI (ah a) trivial))) z<|by kernel_rfl
noncomputable def Yp:Code:=f23.body.getD .skip
def XP:List Nat:=[]
section
variable(t:ae)(v:aa)(m:waB)
def Hv:ax:=aP 18 [(2,.eptr (af t)),(3,.eptr (ac v)),(4,.bptr 2 0)] [.dead,.dead,.cells [.int .i64 0,.str ([]:ag),.int .i64 0,sl ac m] [(3,28)]] []
def qt(o:Bool):ax:=aP 18 [(2,.eptr (af t)),(3,.eptr (ac v)),(4,.bptr 2 0),(12,.bool o)] [.dead,.dead,.cells [.int .i64 0,.str ([]:ag),.int .i64 0,sl ac m] [(3,28)]] []
def BG:Option Bool:=
 if(t.Op==6)=true then
  some true
 else
  (ii t.Pred).bind fun r3=>
  some r3
theorem Fu{x:Bool}(h:BG t=some x):aL Pg GE 0 (cA Yp 12) (EX .normal (qt t v m x)) (Hv t v m):=by
 have p2:=fun{sc F} (r:PS sc F)=>sv (au t)<|sv (av t)<|r
 rcases aK h with⟨c1,h⟩|⟨c1,h⟩
 ·obtain rfl:=lf h
  exact bE XP (p2<|sg 4 c1<|eF .normal (qt t v m true))<|by kernel_rfl
 ·obtain⟨r3,br3,h⟩:=aw h
  obtain rfl:=lf h
  exact bE XP (p2<|sg 4 c1<|sv (bv t)<|sv (bw t)<|aX (mr br3)<|eF .normal (qt t v m r3))<|by kernel_rfl
end
def J2(t:ae)(a:aa):Option aa:=
 (BG t).bind fun o4=>
 if o4=true then
  some (⟨2,([]:ag),1,([]:List aa)⟩:aa)
 else
  (JL t.Pred ([118]:ag) a).bind fun r7=>
  some r7
theorem Lh{t:ae}{a:aa}{r:aa}(h:J2 t a=some r):CC Pg GE 23 [.agg (af t),.agg (ac a)] (.agg (ac r)) [(3,28)]:=by
 obtain⟨o4,bo4,h⟩:=aw h
 have p6:=fun{sc F} (r:PS sc F)=>se (bH t)<|se (bh a)<|sx d9<|jC 1<|cm (Fu t a ([]:List aa) bo4)<|r
 rcases aK h with⟨c5,h⟩|⟨c5,h⟩
 ·obtain rfl:=lf h
  have z:=p6<|sg 0 c5<|sb (nx 2 1) (nw 2 1)<|sy (aR (⟨2,([]:ag),1,([]:List aa)⟩:aa))<|en (aI (dG (⟨2,([]:ag),1,([]:List aa)⟩:aa))<|aI (ah (⟨2,([]:ag),1,([]:List aa)⟩:aa))<|rT)
  exact bo XP call23 func23 (c:=Yp) rfl (aI (aj t) (aI (ah a) trivial)) z<|by kernel_rfl
 ·obtain⟨r7,br7,h⟩:=aw h
  obtain rfl:=lf h
  have z:=p6<|sg 0 c5<|sv (bv t)<|sv (bw t)<|sv (az a)<|aX (Lb br7)<|sy (aR r7)<|en (aI (dG r7)<|aI (ah r7)<|rT)
  exact bo XP call23 func23 (c:=Yp) rfl (aI (aj t) (aI (ah a) trivial)) z<|by kernel_rfl
noncomputable def T9:Code:=f11.body.getD .skip
def TW:List Nat:=[]
def Ar:Option Bool:=
 (pY ([121]:ag)).bind fun r1=>
 (IJ 1).bind fun r2=>
 (oG 6 ([r1,r2]:List aa)).bind fun r3=>
 (pY ([120]:ag)).bind fun r4=>
 (pY ([118]:ag)).bind fun r5=>
 (oG 12 ([r4,r5]:List aa)).bind fun r6=>
 (gT r6).bind fun r7=>
 (HI ([120]:ag) r7).bind fun r8=>
 (pY ([120]:ag)).bind fun r9=>
 (pY ([121]:ag)).bind fun r10=>
 (oG 6 ([r9,r10]:List aa)).bind fun r11=>
 (pY ([118]:ag)).bind fun r12=>
 (oG 12 ([r11,r12]:List aa)).bind fun r13=>
 (gT r13).bind fun r14=>
 (HI ([120]:ag) r14).bind fun r15=>
 (pY ([120]:ag)).bind fun r16=>
 (pz r15 ([121]:ag) r16).bind fun r17=>
 (IJ 5).bind fun r18=>
 (BF r8 ([r18]:List aa)).bind fun r19=>
 (IJ 0).bind fun r20=>
 (pY ([118]:ag)).bind fun r21=>
 (oG 13 ([r20,r21]:List aa)).bind fun r22=>
 (gT r22).bind fun r23=>
 (D2 r23 ([110]:ag)).bind fun r24=>
 (lU r8).bind fun r25=>
 if (r25 == 0) = true then
  (pz r7 ([120]:ag) (⟨r3.Op,r3.Name,r3.N,r3.Kids⟩:aa)).bind fun r28=>
  (pY ([118]:ag)).bind fun r29=>
  (oG 12 ([(⟨r3.Op,r3.Name,r3.N,r3.Kids⟩:aa),r29]:List aa)).bind fun r30=>
  (gT r30).bind fun r31=>
  (sA r28 r31).bind fun r32=>
  if r32 = true then
   (pz r8 ([120]:ag) (⟨r3.Op,r3.Name,r3.N,r3.Kids⟩:aa)).bind fun r35=>
   (sA r35 r8).bind fun r36=>
   if r36=true then
    (pY ([120,49]:ag)).bind fun r39=>
    (pY ([120]:ag)).bind fun r40=>
    (oG 6 ([r39,r40]:List aa)).bind fun r41=>
    (pY ([118]:ag)).bind fun r42=>
    (oG 12 ([r41,r42]:List aa)).bind fun r43=>
    (gT r43).bind fun r44=>
    (HI ([120,49]:ag) r44).bind fun r45=>
    (sA r17 r45).bind fun r46=>
    if r46=true then
     if (r19.2 == 0) = true then
      (IJ 5).bind fun r51=>
      (pY ([118]:ag)).bind fun r52=>
      (oG 12 ([r51,r52]:List aa)).bind fun r53=>
      (gT r53).bind fun r54=>
      (sA r19.1 r54).bind fun r55=>
      if r55=true then
       (pY ([118]:ag)).bind fun r58=>
       (pY ([110]:ag)).bind fun r59=>
       (oG 10 ([r58,r59]:List aa)).bind fun r60=>
       (oG 15 ([r23.Pred,r60]:List aa)).bind fun r61=>
       (gq r24.Pred r61).bind fun r62=>
       if r62=true then
        (nN r7).bind fun r65=>
        (rZ r65 ([([120]:ag)]:List ag)).bind fun r66=>
        if r66=true then
         (IJ 7).bind fun r69=>
         (J2 r7 r69).bind fun r70=>
         (pY ([120]:ag)).bind fun r71=>
         (IJ 7).bind fun r72=>
         (oG 12 ([r71,r72]:List aa)).bind fun r73=>
         (gq r70 r73).bind fun r74=>
         some r74
        else
         some false
       else
        some false
      else
       some false
     else
      some false
    else
     some false
   else
    some false
  else
   some false
 else
  some false
theorem Da{r:Bool}(h:Ar=some r):CC Pg GE 11 [] (.bool r) []:=by
 obtain⟨r1,br1,h⟩:=aw h
 obtain⟨r2,br2,h⟩:=aw h
 obtain⟨r3,br3,h⟩:=aw h
 obtain⟨r4,br4,h⟩:=aw h
 obtain⟨r5,br5,h⟩:=aw h
 obtain⟨r6,br6,h⟩:=aw h
 obtain⟨r7,br7,h⟩:=aw h
 obtain⟨r8,br8,h⟩:=aw h
 obtain⟨r9,br9,h⟩:=aw h
 obtain⟨r10,br10,h⟩:=aw h
 obtain⟨r11,br11,h⟩:=aw h
 obtain⟨r12,br12,h⟩:=aw h
 obtain⟨r13,br13,h⟩:=aw h
 obtain⟨r14,br14,h⟩:=aw h
 obtain⟨r15,br15,h⟩:=aw h
 obtain⟨r16,br16,h⟩:=aw h
 obtain⟨r17,br17,h⟩:=aw h
 obtain⟨r18,br18,h⟩:=aw h
 obtain⟨r19,br19,h⟩:=aw h
 obtain⟨r20,br20,h⟩:=aw h
 obtain⟨r21,br21,h⟩:=aw h
 obtain⟨r22,br22,h⟩:=aw h
 obtain⟨r23,br23,h⟩:=aw h
 obtain⟨r24,br24,h⟩:=aw h
 obtain⟨r25,br25,h⟩:=aw h
 have p27:=fun{sc F} (r:PS sc F)=>aX (eB br1)<|aX (vU br2)<|sv (aS.mk' (v:=cj) bz ([r1,r2]:List aa) 2 (by kernel_rfl))<|aX (fu br3)<|sx d9<|sx (bp r3)<|aX (eB br4)<|aX (eB br5)<|sv (aS.mk' (v:=cj) bz ([r4,r5]:List aa) 2 (by kernel_rfl))<|aX (fu br6)<|aX (eY br7)<|sx jl<|sy (ba r7)<|sv (bu r7 [])<|aX (Ca br8)<|sx jl<|sy (ba r8)<|aX (eB br9)<|aX (eB br10)<|sv (aS.mk' (v:=cj) bz ([r9,r10]:List aa) 2 (by kernel_rfl))<|aX (fu br11)<|aX (eB br12)<|sv (aS.mk' (v:=cj) bz ([r11,r12]:List aa) 2 (by kernel_rfl))<|aX (fu br13)<|aX (eY br14)<|aX (Ca br15)<|sx jl<|sy (ba r15)<|CO [0,0,3,0,15]<|sv (bu r15 [])<|aX (eB br16)<|aX (oT br17)<|UL (cu r17)<|CO [0,0,2,7,15,31,31,0,191,511]<|sv (bu r8 [])<|aX (vU br18)<|sv (aS.mk' (v:=cj) bz ([r18]:List aa) 1 (by kernel_rfl))<|aX (Ft br19)<|sx (cu r19.1)<|aX (vU br20)<|aX (eB br21)<|sv (aS.mk' (v:=cj) bz ([r20,r21]:List aa) 2 (by kernel_rfl))<|aX (fu br22)<|aX (eY br23)<|sx jl<|sy (ba r23)<|sv (bu r23 [])<|aX (Hw br24)<|sx jl<|sy (ba r24)<|CO [0,1,3,7,15,15,63,15,127,511,1023,2047,4095,8191,16383,32767,32767,131071,32767,524287,1048575,2097151,4194303,4194303,12582911,29360127,62914559,130023423,264241151,532676607,1069547519,2143289343,4294967295,8589934591,17179869183,34359738367,68719476735,137438953471,274877906943,549755813887,549755813887,1649267441663,3848290697215,8246337208319,17042430230527,35184372088831,70368744177663,140737488355327,281474976710655,562949953421311,281474976710655,1407374883553279,281474976710655,4785074604081151,13792273858822143,31806672368304127,71213169107795967,143270763145723903,288230376151711743,576460752303423487,1152921504606846975,2305843009213693951,4611686018427387903,2305843009213693951,18446744073709551615,36893488147419103231,73786976294838206463,147573952589676412927,147573952589676412927,590295810358705651711,1180591620717411303423,2361183241434822606847,4722366482869645213695,9444732965739290427391,18889465931478580854783,37778931862957161709567,75557863725914323419135]<|sv (bu r8 [])<|aX (wB br25)<|r
 rcases aK h with⟨c26,h⟩|⟨c26,h⟩
 ·obtain ⟨r28,br28,h⟩:=aw h
  obtain⟨r29,br29,h⟩:=aw h
  obtain⟨r30,br30,h⟩:=aw h
  obtain⟨r31,br31,h⟩:=aw h
  obtain⟨r32,br32,h⟩:=aw h
  have p34:=fun{sc F} (r:PS sc F)=>p27<|sg 4 c26<|sv (bu r7 [])<|sv (aU (⟨r3.Op,r3.Name,r3.N,r3.Kids⟩:aa) [])<|aX (oT br28)<|sv (aU (⟨r3.Op,r3.Name,r3.N,r3.Kids⟩:aa) [])<|aX (eB br29)<|sv (aS.mk' (v:=cj) bz ([(⟨r3.Op,r3.Name,r3.N,r3.Kids⟩:aa),r29]:List aa) 2 (by kernel_rfl))<|aX (fu br30)<|aX (eY br31)<|aX (pT br32)<|r
  rcases aK h with⟨c33,h⟩|⟨c33,h⟩
  ·obtain⟨r35,br35,h⟩:=aw h
   obtain⟨r36,br36,h⟩:=aw h
   have p38:=fun{sc F} (r:PS sc F)=>p34<|sg 15 c33<|sv (bu r8 [])<|sv (aU (⟨r3.Op,r3.Name,r3.N,r3.Kids⟩:aa) [])<|aX (oT br35)<|sv (bu r8 [])<|aX (pT br36)<|r
   rcases aK h with⟨c37,h⟩|⟨c37,h⟩
   ·obtain⟨r39,br39,h⟩:=aw h
    obtain⟨r40,br40,h⟩:=aw h
    obtain⟨r41,br41,h⟩:=aw h
    obtain⟨r42,br42,h⟩:=aw h
    obtain⟨r43,br43,h⟩:=aw h
    obtain⟨r44,br44,h⟩:=aw h
    obtain⟨r45,br45,h⟩:=aw h
    obtain⟨r46,br46,h⟩:=aw h
    have p48:=fun{sc F} (r:PS sc F)=>p38<|sg 22 c37<|sv (bu r17 [])<|aX (eB br39)<|aX (eB br40)<|sv (aS.mk' (v:=cj) bz ([r39,r40]:List aa) 2 (by kernel_rfl))<|aX (fu br41)<|aX (eB br42)<|sv (aS.mk' (v:=cj) bz ([r41,r42]:List aa) 2 (by kernel_rfl))<|aX (fu br43)<|aX (eY br44)<|aX (Ca br45)<|aX (pT br46)<|r
    rcases aK h with⟨c47,h⟩|⟨c47,h⟩
    ·have p50:=fun{sc F} (r:PS sc F)=>p48<|sg 35 c47<|r
     rcases aK h with⟨c49,h⟩|⟨c49,h⟩
     ·obtain⟨r51,br51,h⟩:=aw h
      obtain⟨r52,br52,h⟩:=aw h
      obtain⟨r53,br53,h⟩:=aw h
      obtain⟨r54,br54,h⟩:=aw h
      obtain⟨r55,br55,h⟩:=aw h
      have p57:=fun{sc F} (r:PS sc F)=>p50<|sg 39 c49<|sv (bu r19.1 [])<|aX (vU br51)<|aX (eB br52)<|sv (aS.mk' (v:=cj) bz ([r51,r52]:List aa) 2 (by kernel_rfl))<|aX (fu br53)<|aX (eY br54)<|aX (pT br55)<|r
      rcases aK h with⟨c56,h⟩|⟨c56,h⟩
      ·obtain⟨r58,br58,h⟩:=aw h
       obtain⟨r59,br59,h⟩:=aw h
       obtain⟨r60,br60,h⟩:=aw h
       obtain⟨r61,br61,h⟩:=aw h
       obtain⟨r62,br62,h⟩:=aw h
       have p64:=fun{sc F} (r:PS sc F)=>p57<|sg 48 c56<|sv (aU r24.Pred [sl ac r24.Preds])<|sv (aU r23.Pred [sl ac r23.Preds])<|aX (eB br58)<|aX (eB br59)<|sv (aS.mk' (v:=cj) bz ([r58,r59]:List aa) 2 (by kernel_rfl))<|aX (fu br60)<|sv (aS.mk' (v:=cj) bz ([r23.Pred,r60]:List aa) 2 (by kernel_rfl))<|aX (fu br61)<|aX (gO br62)<|r
       rcases aK h with⟨c63,h⟩|⟨c63,h⟩
       ·obtain⟨r65,br65,h⟩:=aw h
        obtain⟨r66,br66,h⟩:=aw h
        have p68:=fun{sc F} (r:PS sc F)=>p64<|sg 61 c63<|sv (bu r7 [])<|aX (qw br65)<|sv (aZ.mk' (v:=PVal.str) Ge ([([120]:ag)]:List ag) 1 (by kernel_rfl))<|aX (tN br66)<|r
        rcases aK h with⟨c67,h⟩|⟨c67,h⟩
        ·obtain⟨r69,br69,h⟩:=aw h
         obtain⟨r70,br70,h⟩:=aw h
         obtain⟨r71,br71,h⟩:=aw h
         obtain⟨r72,br72,h⟩:=aw h
         obtain⟨r73,br73,h⟩:=aw h
         obtain⟨r74,br74,h⟩:=aw h
         obtain rfl:=lf h
         have z:=p68<|sg 67 c67<|sv (bu r7 [])<|aX (vU br69)<|aX (Lh br70)<|aX (eB br71)<|aX (vU br72)<|sv (aS.mk' (v:=cj) bz ([r71,r72]:List aa) 2 (by kernel_rfl))<|aX (fu br73)<|aX (gO br74)<|en (aI (rP (.bool r74))<|trivial)
         exact bo TW call11 func11 (c:=T9) rfl trivial z<|by kernel_rfl
        ·obtain rfl:=lf h
         have z:=p68<|sg 67 c67<|en (aI (rP (.bool false))<|trivial)
         exact bo TW call11 func11 (c:=T9) rfl trivial z<|by kernel_rfl
       ·obtain rfl:=lf h
        have z:=p64<|sg 61 c63<|en (aI (rP (.bool false))<|trivial)
        exact bo TW call11 func11 (c:=T9) rfl trivial z<|by kernel_rfl
      ·obtain rfl:=lf h
       have z:=p57<|sg 48 c56<|en (aI (rP (.bool false))<|trivial)
       exact bo TW call11 func11 (c:=T9) rfl trivial z<|by kernel_rfl
     ·obtain rfl:=lf h
      have z:=p50<|sg 39 c49<|en (aI (rP (.bool false))<|trivial)
      exact bo TW call11 func11 (c:=T9) rfl trivial z<|by kernel_rfl
    ·obtain rfl:=lf h
     have z:=p48<|sg 35 c47<|en (aI (rP (.bool false))<|trivial)
     exact bo TW call11 func11 (c:=T9) rfl trivial z<|by kernel_rfl
   ·obtain rfl:=lf h
    have z:=p38<|sg 22 c37<|en (aI (rP (.bool false))<|trivial)
    exact bo TW call11 func11 (c:=T9) rfl trivial z<|by kernel_rfl
  ·obtain rfl:=lf h
   have z:=p34<|sg 15 c33<|en (aI (rP (.bool false))<|trivial)
   exact bo TW call11 func11 (c:=T9) rfl trivial z<|by kernel_rfl
 ·obtain rfl:=lf h
  have z:=p27<|sg 4 c26<|en (aI (rP (.bool false))<|trivial)
  exact bo TW call11 func11 (c:=T9) rfl trivial z<|by kernel_rfl
noncomputable def XT:Code:=f28.body.getD .skip
def WD:List Nat:=[10,17]
section
variable(v:waA)(s:ag)(t7:Int)(t8:Int)
def kT:ax:=aP 19 [(0,sl cS v),(1,.str s),(7,.int .i64 t7),(8,.int .i64 t8)] [] []
def kU(o:Int⊕(Unit)):Exit:=match o with
 |(.inl _)=>.ret
 |(.inr _)=>.exit 0
def iV(o:Int⊕(Unit)):ax:=match o with
 |(.inl o)=>aP 19 [(4,.int .i64 o)] [] []
 |(.inr o)=>aP 19 [] [] []
def du:Option (Int⊕(Int⊕(Unit))):=
 if(decide (t8<t7))=true then
  (dt v t8).bind fun x2=>
  if(x2==s)=true then
   some (.inr (.inl t8))
  else
   some (.inl (bA (t8+1)))
 else
  some (.inr (.inr ()))
def tL:Option (Int⊕(Unit)):=loop (fun(zz:Int)=>du v s t7 zz) t8
theorem Gx{y:Int⊕(Int⊕(Unit))}(h:du v s t7 t8=some y):aL Pg GE 0 (cA XT 55) (LQ (fun(zz:Int)=>kT v s t7 zz) kU iV y) (kT v s t7 t8):=by
 rcases aK h with⟨c1,h⟩|⟨c1,h⟩
 ·obtain⟨x2,bx2,h⟩:=aw h
  have p4:=fun{sc F} (r:PS sc F)=>sg 0 c1<|sv (aZ.ia (k:=.i64) bx2)<|sv (dB Es (.str x2) [])<|r
  rcases aK h with⟨c3,h⟩|⟨c3,h⟩
  ·obtain rfl:=lf h
   have z:=p4<|sg 0 c3<|eF (kU (.inl t8)) (iV (.inl t8))
   exact eS WD (by intro hx;cases hx) z<|by kernel_rfl
  ·obtain rfl:=lf h
   exact vJ WD (p4<|sg 0 c3<|eF .normal (kT v s t7 (bA (t8+1))))<|by kernel_rfl
 ·obtain rfl:=lf h
  have z:=sg 0 c1<|eF (kU (.inr ())) (iV (.inr ()))
  exact eS WD (by intro hx;cases hx) z<|by kernel_rfl
theorem y5{x:Int⊕(Unit)}(h:tL v s t7 t8=some x):aL Pg GE 0 (.loop (cA XT 55)) (EX (kU x) (iV x)) (kT v s t7 t8):=
 aL.loop (S:=fun(zz:Int)=>kT v s t7 zz) (ex:=kU) (s:=t8) h fun zz y hy=>Gx v s t7 zz hy
end
def im(a:waA)(s:ag):Option Int:=
 (tL a s (a.length:Int) 0).bind fun o5=>match o5 with
 |(.inl o5)=>
  some o5
 |(.inr o5)=>
  some (-1)
theorem tM{a:waA}{s:ag}{r:Int}(h:im a s=some r):CC Pg GE 28 [sl cS a,.str s] (.int .i64 r) []:=by
 obtain⟨o5,bo5,h⟩:=aw h
 rcases o5 with o5|o5
 ·obtain rfl:=lf h
  have z:=b9 (aZ.ln a)<|cm (e:=.ret) (s1:=iV (.inl o5)) (y5 a s (a.length:Int) 0 bo5)<|en (aI (rP (.int .i64 o5))<|trivial)
  exact bo WD call28 func28 (c:=XT) rfl (aI (am d8 a) (aI trivial trivial)) z<|by kernel_rfl
 ·obtain rfl:=lf h
  have z:=b9 (aZ.ln a)<|cm (e:=.exit 0) (s1:=iV (.inr o5)) (y5 a s (a.length:Int) 0 bo5)<|en (aI (rP (.int .i64 (-1)))<|trivial)
  exact bo WD call28 func28 (c:=XT) rfl (aI (am d8 a) (aI trivial trivial)) z<|by kernel_rfl
abbrev xr:=(aa->Option waA)
abbrev BN(R:xr):Prop:=∀(p:aa) (r:waA),R p=some r->CC Pg GE 30 [.agg (ac p)] (sl cS r) [(0,9)]
noncomputable def Wp:Code:=f68.body.getD .skip
def TZ:List Nat:=[19,28,46,51]
section
variable(v:waA)(s:ag)(out:waA)(i:Int)
def Mn:ax:=aP 52 [(0,sl cS v),(1,.str s),(5,sl cS out),(6,.int .i64 i)] [] [((5,0),9)]
def xa(o:Bool):ax:=aP 52 [(0,sl cS v),(1,.str s),(5,sl cS out),(6,.int .i64 i),(18,.bool o)] [] [((5,0),9)]
def ou:Option Bool:=
 if(decide (i<(v.length:Int)))=true then
  (dt v i).bind fun x2=>
  some (Op.bytesLess x2 s)
 else
  some false
theorem Kr{x:Bool}(h:ou v s i=some x):aL Pg GE 0 (cA Wp 492) (EX .normal (xa v s out i x)) (Mn v s out i):=by
 rcases aK h with⟨c1,h⟩|⟨c1,h⟩
 ·obtain⟨x2,bx2,h⟩:=aw h
  obtain rfl:=lf h
  exact bE TZ (b9 (aZ.ln v)<|sg 5 c1<|sv (aZ.ia (k:=.i64) bx2)<|sv (dB Es (.str x2) [])<|eF .normal (xa v s out i (Op.bytesLess x2 s)))<|by kernel_rfl
 ·obtain rfl:=lf h
  exact bE TZ (b9 (aZ.ln v)<|sg 5 c1<|eF .normal (xa v s out i false))<|by kernel_rfl
end
section
variable(v:waA)(s:ag)(out:waA)(i:Int)
def nj:ax:=aP 52 [(0,sl cS v),(1,.str s),(5,sl cS out),(6,.int .i64 i)] [] [((5,0),9)]
def xf(o:waA×Int):ax:=aP 52 [(0,sl cS v),(1,.str s),(5,sl cS o.1),(6,.int .i64 o.2)] [] [((5,0),9)]
def nk:Option ((waA×Int)⊕((waA×Int))):=
 (ou v s i).bind fun o3=>
 if o3=true then
  (dt v i).bind fun x6=>
  (app out ([x6]:List ag)).bind fun l7=>
  some (.inl (l7,bA (i+1)))
 else
  some (.inr (out,i))
def BW:Option ((waA×Int)):=loop (fun(zz:waA×Int)=>nk v s zz.1 zz.2) (out,i)
theorem Id{y:(waA×Int)⊕((waA×Int))}(h:nk v s out i=some y):aL Pg GE 0 (cA Wp 123) (LQ (fun(zz:waA×Int)=>nj v s zz.1 zz.2) (fun _=>.exit 0) (xf v s) y) (nj v s out i):=by
 obtain⟨o3,bo3,h⟩:=aw h
 have p5:=fun{sc F} (r:PS sc F)=>jC 1<|cm (Kr v s out i bo3)<|r
 rcases aK h with⟨c4,h⟩|⟨c4,h⟩
 ·obtain⟨x6,bx6,h⟩:=aw h
  obtain⟨l7,bl7,h⟩:=aw h
  obtain rfl:=lf h
  exact vJ TZ (p5<|sg 0 c4<|sv (aZ.ia (k:=.i64) bx6)<|sv (dB Es (.str x6) [])<|sv (aZ.mk' (v:=PVal.str) Ge ([x6]:List ag) 1 (by kernel_rfl))<|sv (aZ.ap bl7)<|eF .normal (nj v s l7 (bA (i+1))))<|by kernel_rfl
 ·obtain rfl:=lf h
  have z:=p5<|sg 0 c4<|eF (.exit 0) (xf v s (out,i))
  exact eS TZ (by intro hx;cases hx) z<|by kernel_rfl
theorem Ku{x:(waA×Int)}(h:BW v s out i=some x):aL Pg GE 0 (.loop (cA Wp 123)) (EX (.exit 0) (xf v s x)) (nj v s out i):=
 aL.loop (S:=fun(zz:waA×Int)=>nj v s zz.1 zz.2) (ex:=(fun _=>.exit 0)) (s:=(out,i)) h fun zz y hy=>Id v s zz.1 zz.2 hy
end
section
variable(v:waA)(s:ag)(out:waA)(i:Int)
def Mp:ax:=aP 52 [(0,sl cS v),(1,.str s),(5,sl cS out),(6,.int .i64 i)] [] [((5,0),9)]
def xe(o:Bool):ax:=aP 52 [(0,sl cS v),(5,sl cS out),(6,.int .i64 i),(43,.bool o)] [] [((5,0),9)]
def BV:Option Bool:=
 if(decide (i<(v.length:Int)))=true then
  (dt v i).bind fun x11=>
  some (x11==s)
 else
  some false
theorem Kt{x:Bool}(h:BV v s i=some x):aL Pg GE 0 (cA Wp 252) (EX .normal (xe v out i x)) (Mp v s out i):=by
 rcases aK h with⟨c10,h⟩|⟨c10,h⟩
 ·obtain⟨x11,bx11,h⟩:=aw h
  obtain rfl:=lf h
  exact bE TZ (b9 (aZ.ln v)<|sg 5 c10<|sv (aZ.ia (k:=.i64) bx11)<|sv (dB Es (.str x11) [])<|eF .normal (xe v out i (x11==s)))<|by kernel_rfl
 ·obtain rfl:=lf h
  exact bE TZ (b9 (aZ.ln v)<|sg 5 c10<|eF .normal (xe v out i false))<|by kernel_rfl
end
section
variable(v:waA)(s:ag)(out:waA)(i:Int)
def Mo:ax:=aP 52 [(0,sl cS v),(1,.str s),(5,sl cS out),(6,.int .i64 i)] [] [((5,0),9)]
def xd(o:Int):ax:=aP 52 [(0,sl cS v),(5,sl cS out),(6,.int .i64 o)] [] [((5,0),9)]
def xc:Option Int:=
 (BV v s i).bind fun o12=>
 if o12=true then
  some (bA (i+1))
 else
  some i
theorem Ks{x:Int}(h:xc v s i=some x):aL Pg GE 0 (cA Wp 126) (EX .normal (xd v out x)) (Mo v s out i):=by
 obtain⟨o12,bo12,h⟩:=aw h
 have p14:=fun{sc F} (r:PS sc F)=>jC 0<|cm (Kt v s out i bo12)<|r
 rcases aK h with⟨c13,h⟩|⟨c13,h⟩
 ·obtain rfl:=lf h
  exact bE TZ (p14<|sg 0 c13<|eF .normal (xd v out (bA (i+1))))<|by kernel_rfl
 ·obtain rfl:=lf h
  exact bE TZ (p14<|sg 0 c13<|eF .normal (xd v out i))<|by kernel_rfl
end
def C3(a:waA)(s:ag):Option waA:=
 (BW a s ([]:List ag) 0).bind fun o8=>
 (app o8.1 ([s]:List ag)).bind fun l9=>
 (xc a s o8.2).bind fun o15=>
 (Hy a (some o15) none).bind fun l16=>
 (app l9 l16).bind fun l17=>
 some l17
theorem If{a:waA}{s:ag}{r:waA}(h:C3 a s=some r):CC Pg GE 68 [sl cS a,.str s] (sl cS r) [(0,9)]:=by
 obtain⟨o8,bo8,h⟩:=aw h
 obtain⟨l9,bl9,h⟩:=aw h
 obtain⟨o15,bo15,h⟩:=aw h
 obtain⟨l16,bl16,h⟩:=aw h
 obtain⟨l17,bl17,h⟩:=aw h
 obtain rfl:=lf h
 have z:=cm (Ku a s ([]:List ag) 0 bo8)<|sv (aZ.mk' (v:=PVal.str) Ge ([s]:List ag) 1 (by kernel_rfl))<|sv (aZ.ap bl9)<|jC 0<|cm (Ks a s l9 o8.2 bo15)<|sv (aZ.sc bl16)<|sv (aZ.ap bl17)<|en (aI (rP (sl cS l17))<|(am d8 l17))
 exact bo TZ call68 func68 (c:=Wp) rfl (aI (am d8 a) (aI trivial trivial)) z<|by kernel_rfl
noncomputable def W6:Code:=f33.body.getD .skip
def WF:List Nat:=[12,24,32]
section
variable(v:waA)(v2:waA)(t9:Int)(out:waA)(t10:Int)
def jK:ax:=aP 33 [(0,sl cS v),(1,sl cS v2),(5,sl cS out),(9,.int .i64 t9),(10,.int .i64 t10)] [] [((5,0),9)]
def sa(o:waA):ax:=aP 33 [(1,sl cS v2),(5,sl cS o)] [] [((5,0),9)]
def jL:Option ((waA×Int)⊕(waA)):=
 if(decide (t10<t9))=true then
  (dt v t10).bind fun x2=>
  (C3 out x2).bind fun r3=>
  some (.inl (r3,bA (t10+1)))
 else
  some (.inr out)
def wW:Option waA:=loop (fun(zz:waA×Int)=>jL v t9 zz.1 zz.2) (out,t10)
theorem Ew{y:(waA×Int)⊕(waA)}(h:jL v t9 out t10=some y):aL Pg GE 0 (cA W6 119) (LQ (fun(zz:waA×Int)=>jK v v2 t9 zz.1 zz.2) (fun _=>.exit 0) (sa v2) y) (jK v v2 t9 out t10):=by
 rcases aK h with⟨c1,h⟩|⟨c1,h⟩
 ·obtain⟨x2,bx2,h⟩:=aw h
  obtain⟨r3,br3,h⟩:=aw h
  obtain rfl:=lf h
  exact vJ WF (sg 0 c1<|sv (aZ.ia (k:=.i64) bx2)<|sv (dB Es (.str x2) [])<|aX (If br3)<|eF .normal (jK v v2 t9 r3 (bA (t10+1))))<|by kernel_rfl
 ·obtain rfl:=lf h
  have z:=sg 0 c1<|eF (.exit 0) (sa v2 out)
  exact eS WF (by intro hx;cases hx) z<|by kernel_rfl
theorem GG{x:waA}(h:wW v t9 out t10=some x):aL Pg GE 0 (.loop (cA W6 119)) (EX (.exit 0) (sa v2 x)) (jK v v2 t9 out t10):=
 aL.loop (S:=fun(zz:waA×Int)=>jK v v2 t9 zz.1 zz.2) (ex:=(fun _=>.exit 0)) (s:=(out,t10)) h fun zz y hy=>Ew v v2 t9 zz.1 zz.2 hy
end
section
variable(v:waA)(t21:Int)(out:waA)(t22:Int)
def jM:ax:=aP 33 [(1,sl cS v),(5,sl cS out),(21,.int .i64 t21),(22,.int .i64 t22)] [] [((5,0),9)]
def sd(o:waA):ax:=aP 33 [(5,sl cS o)] [] [((5,0),9)]
def jN:Option ((waA×Int)⊕(waA)):=
 if(decide (t22<t21))=true then
  (dt v t22).bind fun x6=>
  (C3 out x6).bind fun r7=>
  some (.inl (r7,bA (t22+1)))
 else
  some (.inr out)
def wX:Option waA:=loop (fun(zz:waA×Int)=>jN v t21 zz.1 zz.2) (out,t22)
theorem Ex{y:(waA×Int)⊕(waA)}(h:jN v t21 out t22=some y):aL Pg GE 0 (cA W6 247) (LQ (fun(zz:waA×Int)=>jM v t21 zz.1 zz.2) (fun _=>.exit 2) sd y) (jM v t21 out t22):=by
 rcases aK h with⟨c5,h⟩|⟨c5,h⟩
 ·obtain⟨x6,bx6,h⟩:=aw h
  obtain⟨r7,br7,h⟩:=aw h
  obtain rfl:=lf h
  exact vJ WF (sg 0 c5<|sv (aZ.ia (k:=.i64) bx6)<|sv (dB Es (.str x6) [])<|aX (If br7)<|eF .normal (jM v t21 r7 (bA (t22+1))))<|by kernel_rfl
 ·obtain rfl:=lf h
  have z:=sg 0 c5<|eF (.exit 2) (sd out)
  exact eS WF (by intro hx;cases hx) z<|by kernel_rfl
theorem GH{x:waA}(h:wX v t21 out t22=some x):aL Pg GE 0 (.loop (cA W6 247)) (EX (.exit 2) (sd x)) (jM v t21 out t22):=
 aL.loop (S:=fun(zz:waA×Int)=>jM v t21 zz.1 zz.2) (ex:=(fun _=>.exit 2)) (s:=(out,t22)) h fun zz y hy=>Ex v t21 zz.1 zz.2 hy
end
def kh(a:waA)(a2:waA):Option waA:=
 (wW a (a.length:Int) ([]:List ag) 0).bind fun o4=>
 (wX a2 (a2.length:Int) o4 0).bind fun o8=>
 some o8
theorem wZ{a:waA}{a2:waA}{r:waA}(h:kh a a2=some r):CC Pg GE 33 [sl cS a,sl cS a2] (sl cS r) [(0,9)]:=by
 obtain⟨o4,bo4,h⟩:=aw h
 obtain⟨o8,bo8,h⟩:=aw h
 obtain rfl:=lf h
 have z:=b9 (aZ.ln a)<|cm (GG a a2 (a.length:Int) ([]:List ag) 0 bo4)<|b9 (aZ.ln a2)<|cm (GH a2 (a2.length:Int) o4 0 bo8)<|en (aI (rP (sl cS o8))<|(am d8 o8))
 exact bo WF call33 func33 (c:=W6) rfl (aI (am d8 a) (aI (am d8 a2) trivial)) z<|by kernel_rfl
noncomputable def XU:Code:=f30.body.getD .skip
def WE:List Nat:=[24]
section
variable(p:aa)
def Kw:ax:=aP 25 [(1,.eptr (ac p)),(3,sl cS ([]:List ag))] [.dead] [((3,0),9)]
def uS(o:waA):ax:=aP 25 [(1,.eptr (ac p)),(3,sl cS o)] [.dead] [((3,0),9)]
def y9:Option waA:=
 if(p.Op==3)=true then
  some ([p.Name]:List ag)
 else
  some ([]:List ag)
theorem Ig{x:waA}(h:y9 p=some x):aL Pg GE 0 (cA XU 14) (EX .normal (uS p x)) (Kw p):=by
 have p2:=fun{sc F} (r:PS sc F)=>sv (aB p)<|sv (aC p)<|r
 rcases aK h with⟨c1,h⟩|⟨c1,h⟩
 ·obtain rfl:=lf h
  exact bE WE (p2<|sg 0 c1<|sv (bF p)<|sv (bN p)<|sv (aZ.mk' (v:=PVal.str) Ge ([p.Name]:List ag) 1 (by kernel_rfl))<|eF .normal (uS p ([p.Name]:List ag)))<|by kernel_rfl
 ·obtain rfl:=lf h
  exact bE WE (p2<|sg 0 c1<|eF .normal (uS p ([]:List ag)))<|by kernel_rfl
end
section
variable(R86:xr)(t13:waB)(t14:Int)(out:waA)(t15:Int)
def kY:ax:=aP 25 [(3,sl cS out),(13,sl ac t13),(14,.int .i64 t14),(15,.int .i64 t15)] [.dead] [((3,0),9)]
def uT(o:waA):ax:=aP 25 [(3,sl cS o)] [.dead] [((3,0),9)]
def Bf:Option ((waA×Int)⊕(waA)):=
 if(decide (t15<t14))=true then
  (dt t13 t15).bind fun x5=>
  (R86 x5).bind fun r6=>
  (kh out r6).bind fun r7=>
  some (.inl (r7,bA (t15+1)))
 else
  some (.inr out)
def za:Option waA:=loop (fun(zz:waA×Int)=>Bf R86 t13 t14 zz.1 zz.2) (out,t15)
theorem GN(hR86:BN R86){y:(waA×Int)⊕(waA)}(h:Bf R86 t13 t14 out t15=some y):aL Pg GE 0 (cA XU 247) (LQ (fun(zz:waA×Int)=>kY t13 t14 zz.1 zz.2) (fun _=>.exit 0) uT y) (kY t13 t14 out t15):=by
 rcases aK h with⟨c4,h⟩|⟨c4,h⟩
 ·obtain⟨x5,bx5,h⟩:=aw h
  obtain⟨r6,br6,h⟩:=aw h
  obtain⟨r7,br7,h⟩:=aw h
  obtain rfl:=lf h
  have z:=sg 0 c4<|sv (aS.ia (k:=.i64) bx5)<|sv (az x5)<|sx d9<|sx (bp x5)<|sv (aU x5 [])<|aX (hR86 _ _ br6)<|aX (wZ br7)<|lG 0 .normal (kY t13 t14 r7 (bA (t15+1))) rfl (cb (aI (up (am d8 r7)) (aI (up (am ah t13)) (aI trivial (aI trivial trivial))))) (aI trivial trivial)
  exact cc (A:=WE) mixed z<|by kernel_rfl
 ·obtain rfl:=lf h
  have z:=sg 0 c4<|eF (.exit 0) (uT out)
  exact eS WE (by intro hx;cases hx) z<|by kernel_rfl
theorem Ih(hR86:BN R86){x:waA}(h:za R86 t13 t14 out t15=some x):aL Pg GE 0 (.loop (cA XU 247)) (EX (.exit 0) (uT x)) (kY t13 t14 out t15):=
 aL.loop (S:=fun(zz:waA×Int)=>kY t13 t14 zz.1 zz.2) (ex:=(fun _=>.exit 0)) (s:=(out,t15)) h fun zz y hy=>GN R86 t13 t14 zz.1 zz.2 hR86 hy
end
def xh(R86:xr)(p:aa):Option waA:=
 (y9 p).bind fun o3=>
 (za R86 p.Kids (p.Kids.length:Int) o3 0).bind fun o8=>
 some o8
theorem Ms(R86:xr)(hR86:BN R86){p:aa}{r:waA}(h:xh R86 p=some r):CC Pg GE 30 [.agg (ac p)] (sl cS r) [(0,9)]:=by
 obtain⟨o3,bo3,h⟩:=aw h
 obtain⟨o8,bo8,h⟩:=aw h
 obtain rfl:=lf h
 have z:=se (bh p)<|jC 1<|cm (Ig p bo3)<|sv (aH p)<|sv (aJ p)<|b9 (aS.ln p.Kids)<|cm (Ih R86 p.Kids (p.Kids.length:Int) o3 0 hR86 bo8)<|en (aI (rP (sl cS o8))<|(am d8 o8))
 exact bo WE call30 func30 (c:=XU) rfl (aI (ah p) trivial) z<|by kernel_rfl
def BX:(aa->Option waA)->(aa)->Option waA:=fun(rec:aa->Option waA) (x:aa)=>xh (fun p=>rec p) x
def C4(p:aa):Option waA:=ku BX p
theorem NJ{p:aa}{r:waA}(h:C4 p=some r):CC Pg GE 30 [.agg (ac p)] (sl cS r) [(0,9)]:=
 cn (F:=BX) (M:=fun(x:aa) (r:waA)=>CC Pg GE 30 [.agg (ac x)] (sl cS r) [(0,9)]) (fun rec hrec x r h=>Ms _ (fun p r h=>hrec p r h) h) h
abbrev xw:=(ae->Option waA)
abbrev BS(R:xw):Prop:=∀(t:ae) (r:waA),R t=some r->CC Pg GE 38 [.agg (af t)] (sl cS r) [(0,9)]
noncomputable def Yv:Code:=f79.body.getD .skip
def XQ:List Nat:=[18,23]
section
variable(names:waA)(t8:waA)(t9:Int)(out:waA)(t10:Int)
def eR:ax:=aP 24 [(1,sl cS names),(5,sl cS out),(8,sl cS t8),(9,.int .i64 t9),(10,.int .i64 t10)] [] [((5,0),9)]
def oF(o:waA):ax:=aP 24 [(5,sl cS o)] [] [((5,0),9)]
def vR:Option ((waA×Int)⊕(waA)):=
 if(decide (t10<t9))=true then
  (dt t8 t10).bind fun x2=>
  (im names x2).bind fun r3=>
  if(decide (r3<0))=true then
   (app out ([x2]:List ag)).bind fun l6=>
   some (.inl (l6,bA (t10+1)))
  else
   some (.inl (out,bA (t10+1)))
 else
  some (.inr out)
def sF:Option waA:=loop (fun(zz:waA×Int)=>vR names t8 t9 zz.1 zz.2) (out,t10)
theorem B6{y:(waA×Int)⊕(waA)}(h:vR names t8 t9 out t10=some y):aL Pg GE 0 (cA Yv 119) (LQ (fun(zz:waA×Int)=>eR names t8 t9 zz.1 zz.2) (fun _=>.exit 0) oF y) (eR names t8 t9 out t10):=by
 rcases aK h with⟨c1,h⟩|⟨c1,h⟩
 ·obtain⟨x2,bx2,h⟩:=aw h
  obtain⟨r3,br3,h⟩:=aw h
  have p5:=fun{sc F} (r:PS sc F)=>sg 0 c1<|sv (aZ.ia (k:=.i64) bx2)<|sv (dB Es (.str x2) [])<|aX (tM br3)<|r
  rcases aK h with⟨c4,h⟩|⟨c4,h⟩
  ·obtain⟨l6,bl6,h⟩:=aw h
   obtain rfl:=lf h
   exact vJ XQ (p5<|sg 0 c4<|sv (aZ.mk' (v:=PVal.str) Ge ([x2]:List ag) 1 (by kernel_rfl))<|sv (aZ.ap bl6)<|eF .normal (eR names t8 t9 l6 (bA (t10+1))))<|by kernel_rfl
  ·obtain rfl:=lf h
   exact vJ XQ (p5<|sg 0 c4<|eF .normal (eR names t8 t9 out (bA (t10+1))))<|by kernel_rfl
 ·obtain rfl:=lf h
  have z:=sg 0 c1<|eF (.exit 0) (oF out)
  exact eS XQ (by intro hx;cases hx) z<|by kernel_rfl
theorem C9{x:waA}(h:sF names t8 t9 out t10=some x):aL Pg GE 0 (.loop (cA Yv 119)) (EX (.exit 0) (oF x)) (eR names t8 t9 out t10):=
 aL.loop (S:=fun(zz:waA×Int)=>eR names t8 t9 zz.1 zz.2) (ex:=(fun _=>.exit 0)) (s:=(out,t10)) h fun zz y hy=>B6 names t8 t9 zz.1 zz.2 hy
end
def jU(a:waA)(names:waA):Option waA:=
 (sF names a (a.length:Int) ([]:List ag) 0).bind fun o7=>
 some o7
theorem zx{a:waA}{names:waA}{r:waA}(h:jU a names=some r):CC Pg GE 79 [sl cS a,sl cS names] (sl cS r) [(0,9)]:=by
 obtain⟨o7,bo7,h⟩:=aw h
 obtain rfl:=lf h
 have z:=b9 (aZ.ln a)<|cm (C9 names a (a.length:Int) ([]:List ag) 0 bo7)<|en (aI (rP (sl cS o7))<|(am d8 o7))
 exact bo XQ call79 func79 (c:=Yv) rfl (aI (am d8 a) (aI (am d8 names) trivial)) z<|by kernel_rfl
noncomputable def Wn:Code:=f38.body.getD .skip
def Vo:List Nat:=[32,53]
section
variable(t:ae)(t14:waB)(t15:Int)(out:waA)(t16:Int)
def lk:ax:=aP 54 [(1,.eptr (af t)),(3,sl cS out),(14,sl ac t14),(15,.int .i64 t15),(16,.int .i64 t16)] [.dead] [((14,0),28),((3,0),9)]
def u5(o:waA):ax:=aP 54 [(1,.eptr (af t)),(3,sl cS o)] [.dead] [((3,0),9)]
def Bi:Option ((waA×Int)⊕(waA)):=
 if(decide (t16<t15))=true then
  (dt t14 t16).bind fun x3=>
  (C4 x3).bind fun r4=>
  (jU r4 ([([118]:ag)]:List ag)).bind fun r5=>
  (kh out r5).bind fun r6=>
  some (.inl (r6,bA (t16+1)))
 else
  some (.inr out)
def zm:Option waA:=loop (fun(zz:waA×Int)=>Bi t14 t15 zz.1 zz.2) (out,t16)
theorem GU{y:(waA×Int)⊕(waA)}(h:Bi t14 t15 out t16=some y):aL Pg GE 0 (cA Wn 119) (LQ (fun(zz:waA×Int)=>lk t t14 t15 zz.1 zz.2) (fun _=>.exit 0) (u5 t) y) (lk t t14 t15 out t16):=by
 rcases aK h with⟨c2,h⟩|⟨c2,h⟩
 ·obtain⟨x3,bx3,h⟩:=aw h
  obtain⟨r4,br4,h⟩:=aw h
  obtain⟨r5,br5,h⟩:=aw h
  obtain⟨r6,br6,h⟩:=aw h
  obtain rfl:=lf h
  have z:=sg 0 c2<|sv (aS.ia (k:=.i64) bx3)<|sv (az x3)<|sx d9<|sx (bp x3)<|sv (aU x3 [])<|aX (NJ br4)<|sv (aZ.mk' (v:=PVal.str) Ge ([([118]:ag)]:List ag) 1 (by kernel_rfl))<|aX (zx br5)<|aX (wZ br6)<|lG 0 .normal (lk t t14 t15 r6 (bA (t16+1))) rfl (cb (aI (hU (aj t)) (aI (up (am d8 r6)) (aI (up (am ah t14)) (aI trivial (aI trivial trivial)))))) (aI trivial trivial)
  exact cc (A:=Vo) mixed z<|by kernel_rfl
 ·obtain rfl:=lf h
  have z:=sg 0 c2<|eF (.exit 0) (u5 t out)
  exact eS Vo (by intro hx;cases hx) z<|by kernel_rfl
theorem IB{x:waA}(h:zm t14 t15 out t16=some x):aL Pg GE 0 (.loop (cA Wn 119)) (EX (.exit 0) (u5 t x)) (lk t t14 t15 out t16):=
 aL.loop (S:=fun(zz:waA×Int)=>lk t t14 t15 zz.1 zz.2) (ex:=(fun _=>.exit 0)) (s:=(out,t16)) h fun zz y hy=>GU t t14 t15 zz.1 zz.2 hy
end
section
variable(t:ae)(out:waA)(bound:waA)(t28:waC)(t29:Int)(t30:Int)(m:Int)(m2:ag)(m3:waC)(m4:waA)(m5:Int)(m6:ag)(m7:Int)(m8:waB)(m9:waB)
def KM:ax:=aP 54 [(1,.eptr (af t)),(3,sl cS out),(7,.bptr 1 0),(8,sl cS bound),(28,sl af t28),(29,.int .i64 t29),(30,.int .i64 t30)] [.dead,.cells [.int .i64 m,.str m2,sl af m3,sl cS m4,.int .i64 m5,.str m6,.int .i64 m7,sl ac m8,sl ac m9] []] [((3,0),9)]
def u4(o:waA):ax:=aP 54 [(1,.eptr (af t)),(3,sl cS out),(7,.bptr 1 0),(8,sl cS o),(28,sl af t28),(29,.int .i64 t29),(30,.int .i64 t30)] [.dead,.cells [.int .i64 m,.str m2,sl af m3,sl cS m4,.int .i64 m5,.str m6,.int .i64 m7,sl ac m8,sl ac m9] []] [((3,0),9)]
def pS:Option waA:=
 if(t.Op !=6)=true then
  some ([]:List ag)
 else
  some bound
theorem IA{x:waA}(h:pS t bound=some x):aL Pg GE 0 (cA Wn 31726) (EX .normal (u4 t out t28 t29 t30 m m2 m3 m4 m5 m6 m7 m8 m9 x)) (KM t out bound t28 t29 t30 m m2 m3 m4 m5 m6 m7 m8 m9):=by
 have p12:=fun{sc F} (r:PS sc F)=>sv (au t)<|sv (av t)<|r
 rcases aK h with⟨c11,h⟩|⟨c11,h⟩
 ·obtain rfl:=lf h
  exact bE Vo (p12<|sg 0 c11<|eF .normal (u4 t out t28 t29 t30 m m2 m3 m4 m5 m6 m7 m8 m9 ([]:List ag)))<|by kernel_rfl
 ·obtain rfl:=lf h
  exact bE Vo (p12<|sg 0 c11<|eF .normal (u4 t out t28 t29 t30 m m2 m3 m4 m5 m6 m7 m8 m9 bound))<|by kernel_rfl
end
section
variable(R89:xw)(t:ae)(t28:waC)(t29:Int)(out:waA)(t30:Int)
def ll:ax:=aP 54 [(1,.eptr (af t)),(3,sl cS out),(28,sl af t28),(29,.int .i64 t29),(30,.int .i64 t30)] [.dead] [((3,0),9)]
def u6(o:waA):ax:=aP 54 [(3,sl cS o)] [.dead] [((3,0),9)]
def Bj:Option ((waA×Int)⊕(waA)):=
 if(decide (t30<t29))=true then
  (dt t28 t30).bind fun x9=>
  (Hy t.Names none (some (if(t.Names.length:Int)<t30 then(t.Names.length:Int)else t30))).bind fun l10=>
  (pS t l10).bind fun o13=>
  (R89 x9).bind fun r14=>
  (jU r14 o13).bind fun r15=>
  (kh out r15).bind fun r16=>
  some (.inl (r16,bA (t30+1)))
 else
  some (.inr out)
def zn:Option waA:=loop (fun(zz:waA×Int)=>Bj R89 t t28 t29 zz.1 zz.2) (out,t30)
theorem GV(hR89:BS R89){y:(waA×Int)⊕(waA)}(h:Bj R89 t t28 t29 out t30=some y):aL Pg GE 0 (cA Wn 247) (LQ (fun(zz:waA×Int)=>ll t t28 t29 zz.1 zz.2) (fun _=>.exit 2) u6 y) (ll t t28 t29 out t30):=by
 rcases aK h with⟨c8,h⟩|⟨c8,h⟩
 ·obtain⟨x9,bx9,h⟩:=aw h
  obtain⟨l10,bl10,h⟩:=aw h
  obtain⟨o13,bo13,h⟩:=aw h
  obtain⟨r14,br14,h⟩:=aw h
  obtain⟨r15,br15,h⟩:=aw h
  obtain⟨r16,br16,h⟩:=aw h
  obtain rfl:=lf h
  have z:=sg 0 c8<|sv (cJ.ia (k:=.i64) bx9)<|sv (aQ x9)<|sx jl<|sx (cu x9)<|sv (aM t)<|sv (aN t)<|sv (aM t)<|sv (aN t)<|b9 (aZ.ln t.Names)<|sv (aZ.sc bl10)<|jC 0<|cm (IA t out l10 t28 t29 t30 x9.Op x9.Name x9.Args x9.Names x9.Pred.Op x9.Pred.Name x9.Pred.N x9.Pred.Kids x9.Preds bo13)<|sv (bu x9 [])<|aX (hR89 _ _ br14)<|aX (zx br15)<|aX (wZ br16)<|lG 0 .normal (ll t t28 t29 r16 (bA (t30+1))) rfl (cb (aI (hU (aj t)) (aI (up (am d8 r16)) (aI (up (am aj t28)) (aI trivial (aI trivial trivial)))))) (aI trivial trivial)
  exact cc (A:=Vo) mixed z<|by kernel_rfl
 ·obtain rfl:=lf h
  have z:=sg 0 c8<|eF (.exit 2) (u6 out)
  exact eS Vo (by intro hx;cases hx) z<|by kernel_rfl
theorem IC(hR89:BS R89){x:waA}(h:zn R89 t t28 t29 out t30=some x):aL Pg GE 0 (.loop (cA Wn 247)) (EX (.exit 2) (u6 x)) (ll t t28 t29 out t30):=
 aL.loop (S:=fun(zz:waA×Int)=>ll t t28 t29 zz.1 zz.2) (ex:=(fun _=>.exit 2)) (s:=(out,t30)) h fun zz y hy=>GV R89 t t28 t29 zz.1 zz.2 hR89 hy
end
def xo(R89:xw)(t:ae):Option waA:=
 (app ([t.Pred]:List aa) t.Preds).bind fun l1=>
 (zm l1 (l1.length:Int) ([]:List ag) 0).bind fun o7=>
 (zn R89 t t.Args (t.Args.length:Int) o7 0).bind fun o17=>
 some o17
theorem MB(R89:xw)(hR89:BS R89){t:ae}{r:waA}(h:xo R89 t=some r):CC Pg GE 38 [.agg (af t)] (sl cS r) [(0,9)]:=by
 obtain⟨l1,bl1,h⟩:=aw h
 obtain⟨o7,bo7,h⟩:=aw h
 obtain⟨o17,bo17,h⟩:=aw h
 obtain rfl:=lf h
 have z:=se (bH t)<|sv (bv t)<|sv (bw t)<|sv (aS.mk' (v:=cj) bz ([t.Pred]:List aa) 1 (by kernel_rfl))<|sv (bk t)<|sv (bm t)<|sv (aS.ap bl1)<|b9 (aS.ln l1)<|cm (IB t l1 (l1.length:Int) ([]:List ag) 0 bo7)<|sv (aF t)<|sv (aG t)<|b9 (cJ.ln t.Args)<|cm (IC R89 t t.Args (t.Args.length:Int) o7 0 hR89 bo17)<|en (aI (rP (sl cS o17))<|(am d8 o17))
 exact bo Vo call38 func38 (c:=Wn) rfl (aI (aj t) trivial) z<|by kernel_rfl
def B4:(ae->Option waA)->(ae)->Option waA:=fun(rec:ae->Option waA) (x:ae)=>xo (fun t=>rec t) x
def Iz(t:ae):Option waA:=ku B4 t
theorem NP{t:ae}{r:waA}(h:Iz t=some r):CC Pg GE 38 [.agg (af t)] (sl cS r) [(0,9)]:=
 cn (F:=B4) (M:=fun(x:ae) (r:waA)=>CC Pg GE 38 [.agg (af x)] (sl cS r) [(0,9)]) (fun rec hrec x r h=>MB _ (fun t r h=>hrec t r h) h) h
noncomputable def qah:Code:=f58.body.getD .skip
def ZZ:List Nat:=[]
def zy(p:aa):Option Bool:=
 (gq p (⟨0,([]:ag),0,([]:List aa)⟩:aa)).bind fun r1=>
 some r1
theorem FW{p:aa}{r:Bool}(h:zy p=some r):CC Pg GE 58 [.agg (ac p)] (.bool r) []:=by
 obtain⟨r1,br1,h⟩:=aw h
 obtain rfl:=lf h
 have z:=se (bh p)<|sv (az p)<|sb (sM) (sK)<|aX (gO br1)<|en (aI (rP (.bool r1))<|trivial)
 exact bo ZZ call58 func58 (c:=qah) rfl (aI (ah p) trivial) z<|by kernel_rfl
abbrev uc:=(ae->Option Int)
abbrev y0(R:uc):Prop:=∀(t:ae) (r:Int),R t=some r->CC Pg GE 102 [.agg (af t)] (.int .i64 r) []
noncomputable def Vw:Code:=f102.body.getD .skip
def Vd:List Nat:=[]
section
variable(R109:uc)(t7:waC)(t8:Int)(n:Int)(t9:Int)
def jR:ax:=aP 20 [(3,.int .i64 n),(7,sl af t7),(8,.int .i64 t8),(9,.int .i64 t9)] [.dead] []
def sw(o:Int):ax:=aP 20 [(3,.int .i64 o)] [.dead] []
def zh:Option ((Int×Int)⊕(Int)):=
 if(decide (t9<t8))=true then
  (dt t7 t9).bind fun x2=>
  (R109 x2).bind fun r3=>
  some (.inl ((if r3>n then r3 else n),bA (t9+1)))
 else
  some (.inr n)
def xm:Option Int:=loop (fun(zz:Int×Int)=>zh R109 t7 t8 zz.1 zz.2) (n,t9)
theorem EC(hR109:y0 R109){y:(Int×Int)⊕(Int)}(h:zh R109 t7 t8 n t9=some y):aL Pg GE 0 (cA Vw 119) (LQ (fun(zz:Int×Int)=>jR t7 t8 zz.1 zz.2) (fun _=>.exit 0) sw y) (jR t7 t8 n t9):=by
 rcases aK h with⟨c1,h⟩|⟨c1,h⟩
 ·obtain⟨x2,bx2,h⟩:=aw h
  obtain⟨r3,br3,h⟩:=aw h
  obtain rfl:=lf h
  have z:=sg 0 c1<|sv (cJ.ia (k:=.i64) bx2)<|sv (aQ x2)<|sx jl<|sx (cu x2)<|sv (bu x2 [])<|aX (hR109 _ _ br3)<|lG 0 .normal (jR t7 t8 (if r3>n then r3 else n) (bA (t9+1))) rfl (cb (aI trivial (aI (up (am aj t7)) (aI trivial (aI trivial trivial))))) (aI trivial trivial)
  exact cc (A:=Vd) mixed z<|by kernel_rfl
 ·obtain rfl:=lf h
  have z:=sg 0 c1<|eF (.exit 0) (sw n)
  exact eS Vd (by intro hx;cases hx) z<|by kernel_rfl
theorem GS(hR109:y0 R109){x:Int}(h:xm R109 t7 t8 n t9=some x):aL Pg GE 0 (.loop (cA Vw 119)) (EX (.exit 0) (sw x)) (jR t7 t8 n t9):=
 aL.loop (S:=fun(zz:Int×Int)=>jR t7 t8 zz.1 zz.2) (ex:=(fun _=>.exit 0)) (s:=(n,t9)) h fun zz y hy=>EC R109 t7 t8 zz.1 zz.2 hR109 hy
end
def tV(R109:uc)(t:ae):Option Int:=
 (xm R109 t.Args (t.Args.length:Int) 0 0).bind fun o4=>
 some (bA (o4+1))
theorem KH(R109:uc)(hR109:y0 R109){t:ae}{r:Int}(h:tV R109 t=some r):CC Pg GE 102 [.agg (af t)] (.int .i64 r) []:=by
 obtain⟨o4,bo4,h⟩:=aw h
 obtain rfl:=lf h
 have z:=se (bH t)<|sv (aF t)<|sv (aG t)<|b9 (cJ.ln t.Args)<|cm (GS R109 t.Args (t.Args.length:Int) 0 0 hR109 bo4)<|en (aI (rP (.int .i64 (bA (o4+1))))<|trivial)
 exact bo Vd call102 func102 (c:=Vw) rfl (aI (aj t) trivial) z<|by kernel_rfl
def tW:(ae->Option Int)->(ae)->Option Int:=fun(rec:ae->Option Int) (x:ae)=>tV (fun t=>rec t) x
def vO(t:ae):Option Int:=ku tW t
theorem My{t:ae}{r:Int}(h:vO t=some r):CC Pg GE 102 [.agg (af t)] (.int .i64 r) []:=
 cn (F:=tW) (M:=fun(x:ae) (r:Int)=>CC Pg GE 102 [.agg (af x)] (.int .i64 r) []) (fun rec hrec x r h=>KH _ (fun t r h=>hrec t r h) h) h
abbrev xv:=(ae->Option Int)
abbrev BQ(R:xv):Prop:=∀(t:ae) (r:Int),R t=some r->CC Pg GE 103 [.agg (af t)] (.int .i64 r) []
end Go.Proofs.YtggeppllafbidaaGreatDoor
