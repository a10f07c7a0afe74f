/- PROVED: a part of the proof. Conditions: none. -/
import Derived.Test.YtggeppllafbidaaGreatDoorPkB15
noncomputable section
namespace Go.Proofs.YtggeppllafbidaaGreatDoor
open Go Go.Proofs.Tryz
set_option linter.unusedVariables false
set_option maxRecDepth 100000
noncomputable def DE:Code:=f114.body.getD .skip
def sG:List Nat:=[66]
section
variable(t:ae)
def yU:aq:=aP 68 [(1,.eptr (af t))] [.dead] []
def dl(o:Bool):aq:=aP 68 [(1,.eptr (af t)),(33,.bool o)] [.dead] []
def su:Option Bool:=
 if (t.Op == 6) = true then
  (nb t.Pred).bind fun r3=>
  if(!r3)=true then
   some true
  else
   if(decide ((t.Preds.length:Int)>0))=true then
    some true
   else
    if(t.Op !=4)=true then
     some (decide ((t.Preds.length:Int)>0))
    else
     some false
 else
  if(t.Op !=4)=true then
   some (decide ((t.Preds.length:Int)>0))
  else
   some false
theorem xm{x:Bool}(h:su t=some x):aC Pg GE 0 (cA DE 12) (EX .normal (dl t x)) (yU t):=by
 have p2:=fun{sc F} (r:PS sc F)=>sv (aH t)<|sv (aJ t)<|r
 rcases aT h with⟨c1,h⟩|⟨c1,h⟩
 ·obtain⟨r3,br3,h⟩:=av h
  have p5:=fun{sc F} (r:PS sc F)=>p2<|sg 4 c1<|sv (bw t)<|sv (bz t)<|bg (mo br3)<|r
  rcases aT h with⟨c4,h⟩|⟨c4,h⟩
  ·obtain rfl:=lf h
   exact ct sG (p5<|sg 9 c4<|eF .normal (dl t true))<|by kernel_rfl
  ·have p7:=fun{sc F} (r:PS sc F)=>p5<|sg 9 c4<|sv (bp t)<|sv (bu t)<|cx (aQ.ln t.Preds)<|r
   rcases aT h with⟨c6,h⟩|⟨c6,h⟩
   ·obtain rfl:=lf h
    exact ct sG (p7<|sg 16 c6<|eF .normal (dl t true))<|by kernel_rfl
   ·have p9:=fun{sc F} (r:PS sc F)=>p7<|sg 16 c6<|sv (aH t)<|sv (aJ t)<|r
    rcases aT h with⟨c8,h⟩|⟨c8,h⟩
    ·obtain rfl:=lf h
     exact ct sG (p9<|sg 20 c8<|sv (bp t)<|sv (bu t)<|cx (aQ.ln t.Preds)<|eF .normal (dl t (decide ((t.Preds.length:Int)>0))))<|by kernel_rfl
    ·obtain rfl:=lf h
     exact ct sG (p9<|sg 20 c8<|eF .normal (dl t false))<|by kernel_rfl
 ·have p11:=fun{sc F} (r:PS sc F)=>p2<|sg 4 c1<|sv (aH t)<|sv (aJ t)<|r
  rcases aT h with⟨c10,h⟩|⟨c10,h⟩
  ·obtain rfl:=lf h
   exact ct sG (p11<|sg 20 c10<|sv (bp t)<|sv (bu t)<|cx (aQ.ln t.Preds)<|eF .normal (dl t (decide ((t.Preds.length:Int)>0))))<|by kernel_rfl
  ·obtain rfl:=lf h
   exact ct sG (p11<|sg 20 c10<|eF .normal (dl t false))<|by kernel_rfl
end
section
variable(t:ae)(t35:waB)(t36:Int)(t37:Int)
def fh:aq:=aP 68 [(1,.eptr (af t)),(35,sl cS t35),(36,.int .i64 t36),(37,.int .i64 t37)] [.dead] []
def fi(o:Unit⊕(Unit)):Exit:=match o with
 |(.inl _)=>.ret
 |(.inr _)=>.exit 0
def d7(o:Unit⊕(Unit)):aq:=match o with
 |(.inl o)=>aP 68 [(2,.int .i64 3)] [.dead] []
 |(.inr o)=>aP 68 [(1,.eptr (af t))] [.dead] []
def ph:Option (Int⊕(Unit⊕(Unit))):=
 if(decide (t37<t36))=true then
  (eh t35 t37).bind fun x16=>
  (At x16).bind fun r17=>
  if(r17 !=0)=true then
   some (.inr (.inl ()))
  else
   some (.inl (cf (t37+1)))
 else
  some (.inr (.inr ()))
def sw:Option (Unit⊕(Unit)):=loop (fun(zz:Int)=>ph t35 t36 zz) t37
theorem u6{y:Int⊕(Unit⊕(Unit))}(h:ph t35 t36 t37=some y):aC Pg GE 0 (cA DE 119) (LQ (fun(zz:Int)=>fh t t35 t36 zz) fi (d7 t) y) (fh t t35 t36 t37):=by
 rcases aT h with⟨c15,h⟩|⟨c15,h⟩
 ·obtain⟨x16,bx16,h⟩:=av h
  obtain⟨r17,br17,h⟩:=av h
  have p19:=fun{sc F} (r:PS sc F)=>sg 0 c15<|sv (cn.ia (k:=.i64) bx16)<|sv (gh Iq (.str x16) [])<|bg (Cz br17)<|r
  rcases aT h with⟨c18,h⟩|⟨c18,h⟩
  ·obtain rfl:=lf h
   have z:=p19<|sg 0 c18<|eF (fi (.inl ())) (d7 t (.inl ()))
   exact gZ sG (by intro hx;cases hx) z<|by kernel_rfl
  ·obtain rfl:=lf h
   exact Bd sG (p19<|sg 0 c18<|eF .normal (fh t t35 t36 (cf (t37+1))))<|by kernel_rfl
 ·obtain rfl:=lf h
  have z:=sg 0 c15<|eF (fi (.inr ())) (d7 t (.inr ()))
  exact gZ sG (by intro hx;cases hx) z<|by kernel_rfl
theorem n8{x:Unit⊕(Unit)}(h:sw t35 t36 t37=some x):aC Pg GE 0 (.loop (cA DE 119)) (EX (fi x) (d7 t x)) (fh t t35 t36 t37):=
 aC.loop (S:=fun(zz:Int)=>fh t t35 t36 zz) (ex:=fi) (s:=t37) h fun zz y hy=>u6 t t35 t36 zz hy
end
section
variable(t54:waA)(t55:Int)(t56:Int)
def d8:aq:=aP 68 [(54,sl ac t54),(55,.int .i64 t55),(56,.int .i64 t56)] [.dead] [((54,0),28)]
def fj(o:Int⊕(Unit)):Exit:=match o with
 |(.inl _)=>.ret
 |(.inr _)=>.exit 2
def d9(o:Int⊕(Unit)):aq:=match o with
 |(.inl o)=>aP 68 [(2,.int .i64 o)] [.dead] []
 |(.inr o)=>aP 68 [] [.dead] []
def pj:Option (Int⊕(Int⊕(Unit))):=
 if (decide (t56 < t55)) = true then
  (eh t54 t56).bind fun x26=>
  (nb x26).bind fun r27=>
  if r27=true then
   some (.inl (cf (t56+1)))
  else
   (wX x26).bind fun r30=>
   if(r30 !=0)=true then
    some (.inr (.inl r30))
   else
    some (.inl (cf (t56+1)))
 else
  some (.inr (.inr ()))
def sA:Option (Int⊕(Unit)):=loop (fun(zz:Int)=>pj t54 t55 zz) t56
theorem u7{y:Int⊕(Int⊕(Unit))}(h:pj t54 t55 t56=some y):aC Pg GE 0 (cA DE 503) (LQ (fun(zz:Int)=>d8 t54 t55 zz) fj d9 y) (d8 t54 t55 t56):=by
 rcases aT h with⟨c25,h⟩|⟨c25,h⟩
 ·obtain⟨x26,bx26,h⟩:=av h
  obtain⟨r27,br27,h⟩:=av h
  have p29:=fun{sc F} (r:PS sc F)=>sg 0 c25<|sv (aQ.ia (k:=.i64) bx26)<|sv (aB x26)<|sx dB<|sx (aW x26)<|sv (aD x26 [])<|bg (mo br27)<|r
  rcases aT h with⟨c28,h⟩|⟨c28,h⟩
  ·obtain rfl:=lf h
   have z:=p29<|sg 0 c28<|jw 0 .normal (d8 t54 t55 (cf (t56+1))) rfl (bS (aI (up (ak ag t54)) (aI trivial (aI trivial trivial)))) (aI trivial trivial)
   exact cd (A:=sG) mixed z<|by kernel_rfl
  ·obtain⟨r30,br30,h⟩:=av h
   have p32:=fun{sc F} (r:PS sc F)=>p29<|sg 0 c28<|sv (aD x26 [])<|bg (DS br30)<|r
   rcases aT h with⟨c31,h⟩|⟨c31,h⟩
   ·obtain rfl:=lf h
    have z:=p32<|sg 0 c31<|jw 0 (fj (.inl r30)) (d9 (.inl r30)) rfl (bS (aI trivial trivial)) (aI trivial trivial)
    exact gg (A:=sG) mixed (by intro hx;cases hx) z<|by kernel_rfl
   ·obtain rfl:=lf h
    have z:=p32<|sg 0 c31<|jw 0 .normal (d8 t54 t55 (cf (t56+1))) rfl (bS (aI (up (ak ag t54)) (aI trivial (aI trivial trivial)))) (aI trivial trivial)
    exact cd (A:=sG) mixed z<|by kernel_rfl
 ·obtain rfl:=lf h
  have z:=sg 0 c25<|eF (fj (.inr ())) (d9 (.inr ()))
  exact gZ sG (by intro hx;cases hx) z<|by kernel_rfl
theorem n9{x:Int⊕(Unit)}(h:sA t54 t55 t56=some x):aC Pg GE 0 (.loop (cA DE 503)) (EX (fj x) (d9 x)) (d8 t54 t55 t56):=
 aC.loop (S:=fun(zz:Int)=>d8 t54 t55 zz) (ex:=fj) (s:=t56) h fun zz y hy=>u7 t54 t55 zz hy
end
def yS(t:ae):Option Int:=
 (su t).bind fun o12=>
 if o12=true then
  some 1
 else
  (sw t.Names (t.Names.length:Int) 0).bind fun o20=>match o20 with
  |(.inl o20)=>
   some 3
  | (.inr o20) =>
   (tE t.Names).bind fun r21=>
   if(!r21)=true then
    some 4
   else
    (app ([t.Pred]:List aa) t.Preds).bind fun l24=>
    (sA l24 (l24.length:Int) 0).bind fun o33=>match o33 with
    |(.inl o33)=>
     some o33
    |(.inr o33)=>
     some 0
theorem By{t:ae}{r:Int}(h:yS t=some r):CC Pg GE 114 [.agg (af t)] (.int .i64 r) []:=by
 obtain⟨o12,bo12,h⟩:=av h
 have p14:=fun{sc F} (r:PS sc F)=>se (bY t)<|mG 1<|cC (xm t bo12)<|r
 rcases aT h with⟨c13,h⟩|⟨c13,h⟩
 ·obtain rfl:=lf h
  have z:=p14<|sg 0 c13<|en (aI (rP (.int .i64 1))<|trivial)
  exact cb sG call114 func114 (c:=DE) rfl (aI (al t) trivial) z<|by kernel_rfl
 ·obtain⟨o20,bo20,h⟩:=av h
  rcases o20 with o20|o20
  ·obtain rfl:=lf h
   have z:=p14<|sg 0 c13<|sv (aY t)<|sv (aZ t)<|cx (cn.ln t.Names)<|cC (e:=.ret) (s1:=d7 t (.inl o20)) (n8 t t.Names (t.Names.length:Int) 0 bo20)<|en (aI (rP (.int .i64 3))<|trivial)
   exact cb sG call114 func114 (c:=DE) rfl (aI (al t) trivial) z<|by kernel_rfl
  ·obtain⟨r21,br21,h⟩:=av h
   have p23:=fun{sc F} (r:PS sc F)=>p14<|sg 0 c13<|sv (aY t)<|sv (aZ t)<|cx (cn.ln t.Names)<|cC (e:=.exit 0) (s1:=d7 t (.inr o20)) (n8 t t.Names (t.Names.length:Int) 0 bo20)<|sv (aY t)<|sv (aZ t)<|bg (xU br21)<|r
   rcases aT h with⟨c22,h⟩|⟨c22,h⟩
   ·obtain rfl:=lf h
    have z:=p23<|sg 0 c22<|en (aI (rP (.int .i64 4))<|trivial)
    exact cb sG call114 func114 (c:=DE) rfl (aI (al t) trivial) z<|by kernel_rfl
   ·obtain⟨l24,bl24,h⟩:=av h
    obtain⟨o33,bo33,h⟩:=av h
    rcases o33 with o33|o33
    ·obtain rfl:=lf h
     have z:=p23<|sg 0 c22<|sv (bw t)<|sv (bz t)<|sv (aQ.mk' (v:=b9) aV ([t.Pred]:List aa) 1 (by kernel_rfl))<|sv (bp t)<|sv (bu t)<|sv (aQ.ap bl24)<|cx (aQ.ln l24)<|cC (e:=.ret) (s1:=d9 (.inl o33)) (n9 l24 (l24.length:Int) 0 bo33)<|en (aI (rP (.int .i64 o33))<|trivial)
     exact cb sG call114 func114 (c:=DE) rfl (aI (al t) trivial) z<|by kernel_rfl
    ·obtain rfl:=lf h
     have z:=p23<|sg 0 c22<|sv (bw t)<|sv (bz t)<|sv (aQ.mk' (v:=b9) aV ([t.Pred]:List aa) 1 (by kernel_rfl))<|sv (bp t)<|sv (bu t)<|sv (aQ.ap bl24)<|cx (aQ.ln l24)<|cC (e:=.exit 2) (s1:=d9 (.inr o33)) (n9 l24 (l24.length:Int) 0 bo33)<|en (aI (rP (.int .i64 0))<|trivial)
     exact cb sG call114 func114 (c:=DE) rfl (aI (al t) trivial) z<|by kernel_rfl
noncomputable def NK:Code:=f78.body.getD .skip
def M9:List Nat:=[11,23]
section
variable(R59:jv)(t13:waC)(t14:Int)(t15:Int)
def eL:aq:=aP 25 [(13,sl af t13),(14,.int .i64 t14),(15,.int .i64 t15)] [.dead] []
def eM(o:Int⊕(Unit)):Exit:=match o with
 |(.inl _)=>.ret
 |(.inr _)=>.exit 0
def dM(o:Int⊕(Unit)):aq:=match o with
 |(.inl o)=>aP 25 [(2,.int .i64 o)] [.dead] []
 |(.inr o)=>aP 25 [] [.dead] []
def oc:Option (Int⊕(Int⊕(Unit))):=
 if(decide (t15<t14))=true then
  (eh t13 t15).bind fun x5=>
  (R59 x5).bind fun r6=>
  if(r6 !=0)=true then
   some (.inr (.inl r6))
  else
   some (.inl (cf (t15+1)))
 else
  some (.inr (.inr ()))
def qx:Option (Int⊕(Unit)):=loop (fun(zz:Int)=>oc R59 t13 t14 zz) t15
theorem uc(hR59:mc R59){y:Int⊕(Int⊕(Unit))}(h:oc R59 t13 t14 t15=some y):aC Pg GE 0 (cA NK 119) (LQ (fun(zz:Int)=>eL t13 t14 zz) eM dM y) (eL t13 t14 t15):=by
 rcases aT h with⟨c4,h⟩|⟨c4,h⟩
 ·obtain⟨x5,bx5,h⟩:=av h
  obtain⟨r6,br6,h⟩:=av h
  have p8:=fun{sc F} (r:PS sc F)=>sg 0 c4<|sv (dF.ia (k:=.i64) bx5)<|sv (bA x5)<|sx io<|sx (cB x5)<|sv (bk x5 [])<|bg (hR59 _ _ br6)<|r
  rcases aT h with⟨c7,h⟩|⟨c7,h⟩
  ·obtain rfl:=lf h
   have z:=p8<|sg 0 c7<|jw 0 (eM (.inl r6)) (dM (.inl r6)) rfl (bS (aI trivial trivial)) (aI trivial trivial)
   exact gg (A:=M9) mixed (by intro hx;cases hx) z<|by kernel_rfl
  ·obtain rfl:=lf h
   have z:=p8<|sg 0 c7<|jw 0 .normal (eL t13 t14 (cf (t15+1))) rfl (bS (aI (up (ak al t13)) (aI trivial (aI trivial trivial)))) (aI trivial trivial)
   exact cd (A:=M9) mixed z<|by kernel_rfl
 ·obtain rfl:=lf h
  have z:=sg 0 c4<|eF (eM (.inr ())) (dM (.inr ()))
  exact gZ M9 (by intro hx;cases hx) z<|by kernel_rfl
theorem mF(hR59:mc R59){x:Int⊕(Unit)}(h:qx R59 t13 t14 t15=some x):aC Pg GE 0 (.loop (cA NK 119)) (EX (eM x) (dM x)) (eL t13 t14 t15):=
 aC.loop (S:=fun(zz:Int)=>eL t13 t14 zz) (ex:=eM) (s:=t15) h fun zz y hy=>uc R59 t13 t14 zz hR59 hy
end
def sB(R59:jv)(t:ae):Option Int:=
 (yS t).bind fun r1=>
 if(r1 !=0)=true then
  some r1
 else
  (qx R59 t.Args (t.Args.length:Int) 0).bind fun o9=>match o9 with
  |(.inl o9)=>
   some o9
  |(.inr o9)=>
   some 0
theorem yV(R59:jv)(hR59:mc R59){t:ae}{r:Int}(h:sB R59 t=some r):CC Pg GE 78 [.agg (af t)] (.int .i64 r) []:=by
 obtain⟨r1,br1,h⟩:=av h
 have p3:=fun{sc F} (r:PS sc F)=>se (bY t)<|sv (bA t)<|bg (By br1)<|r
 rcases aT h with⟨c2,h⟩|⟨c2,h⟩
 ·obtain rfl:=lf h
  have z:=p3<|sg 0 c2<|en (aI (rP (.int .i64 r1))<|trivial)
  exact cb M9 call78 func78 (c:=NK) rfl (aI (al t) trivial) z<|by kernel_rfl
 ·obtain⟨o9,bo9,h⟩:=av h
  rcases o9 with o9|o9
  ·obtain rfl:=lf h
   have z:=p3<|sg 0 c2<|sv (aL t)<|sv (aM t)<|cx (dF.ln t.Args)<|cC (e:=.ret) (s1:=dM (.inl o9)) (mF R59 t.Args (t.Args.length:Int) 0 hR59 bo9)<|en (aI (rP (.int .i64 o9))<|trivial)
   exact cb M9 call78 func78 (c:=NK) rfl (aI (al t) trivial) z<|by kernel_rfl
  ·obtain rfl:=lf h
   have z:=p3<|sg 0 c2<|sv (aL t)<|sv (aM t)<|cx (dF.ln t.Args)<|cC (e:=.exit 0) (s1:=dM (.inr o9)) (mF R59 t.Args (t.Args.length:Int) 0 hR59 bo9)<|en (aI (rP (.int .i64 0))<|trivial)
   exact cb M9 call78 func78 (c:=NK) rfl (aI (al t) trivial) z<|by kernel_rfl
def sC:(ae->Option Int)->(ae)->Option Int:=fun(rec:ae->Option Int) (x:ae)=>sB (fun t=>rec t) x
def v6(t:ae):Option Int:=kY sC t
theorem zY{t:ae}{r:Int}(h:v6 t=some r):CC Pg GE 78 [.agg (af t)] (.int .i64 r) []:=
 cw (F:=sC) (M:=fun(x:ae) (r:Int)=>CC Pg GE 78 [.agg (af x)] (.int .i64 r) []) (fun rec hrec x r h=>yV _ (fun t r h=>hrec t r h) h) h
noncomputable def PC:Code:=f37.body.getD .skip
def Pt:List Nat:=[8]
def vZ(t:ae):Option Int:=
 (AE t).bind fun r1=>
 if(r1 !=0)=true then
  some r1
 else
  (v6 t).bind fun r4=>
  some r4
theorem zV{t:ae}{r:Int}(h:vZ t=some r):CC Pg GE 37 [.agg (af t)] (.int .i64 r) []:=by
 obtain⟨r1,br1,h⟩:=av h
 have p3:=fun{sc F} (r:PS sc F)=>se (bY t)<|sv (bA t)<|bg (Dn br1)<|r
 rcases aT h with⟨c2,h⟩|⟨c2,h⟩
 ·obtain rfl:=lf h
  have z:=p3<|sg 0 c2<|en (aI (rP (.int .i64 r1))<|trivial)
  exact cb Pt call37 func37 (c:=PC) rfl (aI (al t) trivial) z<|by kernel_rfl
 ·obtain⟨r4,br4,h⟩:=av h
  obtain rfl:=lf h
  have z:=p3<|sg 0 c2<|sv (bA t)<|bg (zY br4)<|en (aI (rP (.int .i64 r4))<|trivial)
  exact cb Pt call37 func37 (c:=PC) rfl (aI (al t) trivial) z<|by kernel_rfl
abbrev qY:=(ae->ae->Option Bool)
abbrev ws(R:qY):Prop:=∀(a:ae) (a2:ae) (r:Bool),R a a2=some r->CC Pg GE 12 [.agg (af a),.agg (af a2)] (.bool r) []
noncomputable def NI:Code:=f32.body.getD .skip
def M5:List Nat:=[15]
section
variable(v:waB)(v2:waB)(t12:Int)(t13:Int)
def iN:aq:=aP 26 [(0,sl cS v),(1,sl cS v2),(12,.int .i64 t12),(13,.int .i64 t13)] [] []
def iO(o:Unit⊕(Unit)):Exit:=match o with
 |(.inl _)=>.ret
 |(.inr _)=>.exit 0
def gT(o:Unit⊕(Unit)):aq:=match o with
 |(.inl o)=>aP 26 [(4,.bool false)] [] []
 |(.inr o)=>aP 26 [] [] []
def pu:Option (Int⊕(Unit⊕(Unit))):=
 if(decide (t13<t12))=true then
  (eh v t13).bind fun x4=>
  (eh v2 t13).bind fun x5=>
  if(!(x4==x5))=true then
   some (.inr (.inl ()))
  else
   some (.inl (cf (t13+1)))
 else
  some (.inr (.inr ()))
def sY:Option (Unit⊕(Unit)):=loop (fun(zz:Int)=>pu v v2 t12 zz) t13
theorem AM{y:Int⊕(Unit⊕(Unit))}(h:pu v v2 t12 t13=some y):aC Pg GE 0 (cA NI 119) (LQ (fun(zz:Int)=>iN v v2 t12 zz) iO gT y) (iN v v2 t12 t13):=by
 rcases aT h with⟨c3,h⟩|⟨c3,h⟩
 ·obtain⟨x4,bx4,h⟩:=av h
  obtain⟨x5,bx5,h⟩:=av h
  have p7:=fun{sc F} (r:PS sc F)=>sg 0 c3<|ue [0,0,3,7,0,0,48,112,255]<|sv (cn.ia (k:=.i64) bx4)<|sv (gh Iq (.str x4) [])<|sv (cn.ia (k:=.i64) bx5)<|sv (gh Iq (.str x5) [])<|r
  rcases aT h with⟨c6,h⟩|⟨c6,h⟩
  ·obtain rfl:=lf h
   have z:=p7<|sg 0 c6<|eF (iO (.inl ())) (gT (.inl ()))
   exact gZ M5 (by intro hx;cases hx) z<|by kernel_rfl
  ·obtain rfl:=lf h
   exact Bd M5 (p7<|sg 0 c6<|eF .normal (iN v v2 t12 (cf (t13+1))))<|by kernel_rfl
 ·obtain rfl:=lf h
  have z:=sg 0 c3<|eF (iO (.inr ())) (gT (.inr ()))
  exact gZ M5 (by intro hx;cases hx) z<|by kernel_rfl
theorem sZ{x:Unit⊕(Unit)}(h:sY v v2 t12 t13=some x):aC Pg GE 0 (.loop (cA NI 119)) (EX (iO x) (gT x)) (iN v v2 t12 t13):=
 aC.loop (S:=fun(zz:Int)=>iN v v2 t12 zz) (ex:=iO) (s:=t13) h fun zz y hy=>AM v v2 t12 zz hy
end
def sX(a:waB)(a2:waB):Option Bool:=
 if((a.length:Int)!=(a2.length:Int))=true then
  some false
 else
  (sY a a2 (a.length:Int) 0).bind fun o8=>match o8 with
  |(.inl o8)=>
   some false
  |(.inr o8)=>
   some true
theorem Ai{a:waB}{a2:waB}{r:Bool}(h:sX a a2=some r):CC Pg GE 32 [sl cS a,sl cS a2] (.bool r) []:=by
 have p2:=fun{sc F} (r:PS sc F)=>cx (cn.ln a)<|cx (cn.ln a2)<|r
 rcases aT h with⟨c1,h⟩|⟨c1,h⟩
 ·obtain rfl:=lf h
  have z:=p2<|sg 0 c1<|en (aI (rP (.bool false))<|trivial)
  exact cb M5 call32 func32 (c:=NI) rfl (aI (ak hZ a) (aI (ak hZ a2) trivial)) z<|by kernel_rfl
 ·obtain⟨o8,bo8,h⟩:=av h
  rcases o8 with o8|o8
  ·obtain rfl:=lf h
   have z:=p2<|sg 0 c1<|cx (cn.ln a)<|cC (e:=.ret) (s1:=gT (.inl o8)) (sZ a a2 (a.length:Int) 0 bo8)<|en (aI (rP (.bool false))<|trivial)
   exact cb M5 call32 func32 (c:=NI) rfl (aI (ak hZ a) (aI (ak hZ a2) trivial)) z<|by kernel_rfl
  ·obtain rfl:=lf h
   have z:=p2<|sg 0 c1<|cx (cn.ln a)<|cC (e:=.exit 0) (s1:=gT (.inr o8)) (sZ a a2 (a.length:Int) 0 bo8)<|en (aI (rP (.bool true))<|trivial)
   exact cb M5 call32 func32 (c:=NI) rfl (aI (ak hZ a) (aI (ak hZ a2) trivial)) z<|by kernel_rfl
noncomputable def QA:Code:=f59.body.getD .skip
def Qj:List Nat:=[]
def pO:Option aa:=
 some (⟨2,([]:ai),1,([]:List aa)⟩:aa)
theorem oA{r:aa}(h:pO=some r):CC Pg GE 59 [] (.agg (ac r)) [(3,28)]:=by
 obtain rfl:=lf h
 have z:=sx dB<|sb (mT 2 1) (mQ 2 1)<|sy (ax (⟨2,([]:ai),1,([]:List aa)⟩:aa))<|en (aI (bR (⟨2,([]:ai),1,([]:List aa)⟩:aa))<|aI (ag (⟨2,([]:ai),1,([]:List aa)⟩:aa))<|rT)
 exact cb Qj call59 func59 (c:=QA) rfl trivial z<|by kernel_rfl
abbrev qW:=(aa->aa->Option Bool)
abbrev wq(R:qW):Prop:=∀(a:aa) (a2:aa) (r:Bool),R a a2=some r->CC Pg GE 22 [.agg (ac a),.agg (ac a2)] (.bool r) []
noncomputable def Na:Code:=f22.body.getD .skip
def KK:List Nat:=[39]
section
variable(v:aa)(v2:aa)
def Dy:aq:=aP 53 [(2,.eptr (ac v)),(3,.eptr (ac v2))] [.dead,.dead] []
def iR(o:Bool):aq:=aP 53 [(2,.eptr (ac v)),(3,.eptr (ac v2)),(33,.bool o)] [.dead,.dead] []
def tc:Option Bool:=
 if(v.Op !=v2.Op)=true then
  some true
 else
  if(!(v.Name==v2.Name))=true then
   some true
  else
   if(v.N !=v2.N)=true then
    some true
   else
    some ((v.Kids.length:Int)!=(v2.Kids.length:Int))
theorem BT{x:Bool}(h:tc v v2=some x):aC Pg GE 0 (cA Na 12) (EX .normal (iR v v2 x)) (Dy v v2):=by
 have p2:=fun{sc F} (r:PS sc F)=>sv (aE v)<|sv (aF v)<|sv (aE v2)<|sv (aF v2)<|r
 rcases aT h with⟨c1,h⟩|⟨c1,h⟩
 ·obtain rfl:=lf h
  exact ct KK (p2<|sg 6 c1<|eF .normal (iR v v2 true))<|by kernel_rfl
 ·have p4:=fun{sc F} (r:PS sc F)=>p2<|sg 6 c1<|sv (bo v)<|sv (bD v)<|sv (bo v2)<|sv (bD v2)<|r
  rcases aT h with⟨c3,h⟩|⟨c3,h⟩
  ·obtain rfl:=lf h
   exact ct KK (p4<|sg 13 c3<|eF .normal (iR v v2 true))<|by kernel_rfl
  ·have p6:=fun{sc F} (r:PS sc F)=>p4<|sg 13 c3<|sv (bU v)<|sv (ce v)<|sv (bU v2)<|sv (ce v2)<|r
   rcases aT h with⟨c5,h⟩|⟨c5,h⟩
   ·obtain rfl:=lf h
    exact ct KK (p6<|sg 20 c5<|eF .normal (iR v v2 true))<|by kernel_rfl
   ·obtain rfl:=lf h
    exact ct KK (p6<|sg 20 c5<|sv (ay v)<|sv (az v)<|cx (aQ.ln v.Kids)<|sv (ay v2)<|sv (az v2)<|cx (aQ.ln v2.Kids)<|eF .normal (iR v v2 ((v.Kids.length:Int)!=(v2.Kids.length:Int))))<|by kernel_rfl
end
section
variable(R76:qW)(v:aa)(v2:aa)(t36:Int)(t37:Int)
def iS:aq:=aP 53 [(2,.eptr (ac v)),(3,.eptr (ac v2)),(36,.int .i64 t36),(37,.int .i64 t37)] [.dead,.dead] []
def iT(o:Unit⊕(Unit)):Exit:=match o with
 |(.inl _)=>.ret
 |(.inr _)=>.exit 0
def gU(o:Unit⊕(Unit)):aq:=match o with
 |(.inl o)=>aP 53 [(4,.bool false)] [.dead,.dead] []
 |(.inr o)=>aP 53 [] [.dead,.dead] []
def lE:Option (Int⊕(Unit⊕(Unit))):=
 if(decide (t37<t36))=true then
  (eh v.Kids t37).bind fun x11=>
  (eh v2.Kids t37).bind fun x12=>
  (R76 x11 x12).bind fun r13=>
  if(!r13)=true then
   some (.inr (.inl ()))
  else
   some (.inl (cf (t37+1)))
 else
  some (.inr (.inr ()))
def td:Option (Unit⊕(Unit)):=loop (fun(zz:Int)=>lE R76 v v2 t36 zz) t37
theorem AQ(hR76:wq R76){y:Int⊕(Unit⊕(Unit))}(h:lE R76 v v2 t36 t37=some y):aC Pg GE 0 (cA Na 119) (LQ (fun(zz:Int)=>iS v v2 t36 zz) iT gU y) (iS v v2 t36 t37):=by
 rcases aT h with⟨c10,h⟩|⟨c10,h⟩
 ·obtain⟨x11,bx11,h⟩:=av h
  obtain⟨x12,bx12,h⟩:=av h
  obtain⟨r13,br13,h⟩:=av h
  have p15:=fun{sc F} (r:PS sc F)=>sg 0 c10<|ue [0,1,0,7,15,0,32,0,224,480,1023,2047]<|sv (ay v)<|sv (az v)<|sv (aQ.ia (k:=.i64) bx11)<|sv (aB x11)<|sv (ay v2)<|sv (az v2)<|sv (aQ.ia (k:=.i64) bx12)<|sv (aB x12)<|bg (hR76 _ _ _ br13)<|r
  rcases aT h with⟨c14,h⟩|⟨c14,h⟩
  ·obtain rfl:=lf h
   have z:=p15<|sg 0 c14<|eF (iT (.inl ())) (gU (.inl ()))
   exact gZ KK (by intro hx;cases hx) z<|by kernel_rfl
  ·obtain rfl:=lf h
   exact Bd KK (p15<|sg 0 c14<|eF .normal (iS v v2 t36 (cf (t37+1))))<|by kernel_rfl
 ·obtain rfl:=lf h
  have z:=sg 0 c10<|eF (iT (.inr ())) (gU (.inr ()))
  exact gZ KK (by intro hx;cases hx) z<|by kernel_rfl
theorem te(hR76:wq R76){x:Unit⊕(Unit)}(h:td R76 v v2 t36 t37=some x):aC Pg GE 0 (.loop (cA Na 119)) (EX (iT x) (gU x)) (iS v v2 t36 t37):=
 aC.loop (S:=fun(zz:Int)=>iS v v2 t36 zz) (ex:=iT) (s:=t37) h fun zz y hy=>AQ R76 v v2 t36 zz hR76 hy
end
def qR(R76:qW)(a:aa)(a2:aa):Option Bool:=
 (tc a a2).bind fun o7=>
 if o7=true then
  some false
 else
  (td R76 a a2 (a.Kids.length:Int) 0).bind fun o16=>match o16 with
  |(.inl o16)=>
   some false
  |(.inr o16)=>
   some true
theorem EO(R76:qW)(hR76:wq R76){a:aa}{a2:aa}{r:Bool}(h:qR R76 a a2=some r):CC Pg GE 22 [.agg (ac a),.agg (ac a2)] (.bool r) []:=by
 obtain⟨o7,bo7,h⟩:=av h
 have p9:=fun{sc F} (r:PS sc F)=>se (bj a)<|se (bj a2)<|mG 1<|cC (BT a a2 bo7)<|r
 rcases aT h with⟨c8,h⟩|⟨c8,h⟩
 ·obtain rfl:=lf h
  have z:=p9<|sg 0 c8<|en (aI (rP (.bool false))<|trivial)
  exact cb KK call22 func22 (c:=Na) rfl (aI (ag a) (aI (ag a2) trivial)) z<|by kernel_rfl
 ·obtain⟨o16,bo16,h⟩:=av h
  rcases o16 with o16|o16
  ·obtain rfl:=lf h
   have z:=p9<|sg 0 c8<|sv (ay a)<|sv (az a)<|cx (aQ.ln a.Kids)<|cC (e:=.ret) (s1:=gU (.inl o16)) (te R76 a a2 (a.Kids.length:Int) 0 hR76 bo16)<|en (aI (rP (.bool false))<|trivial)
   exact cb KK call22 func22 (c:=Na) rfl (aI (ag a) (aI (ag a2) trivial)) z<|by kernel_rfl
  ·obtain rfl:=lf h
   have z:=p9<|sg 0 c8<|sv (ay a)<|sv (az a)<|cx (aQ.ln a.Kids)<|cC (e:=.exit 0) (s1:=gU (.inr o16)) (te R76 a a2 (a.Kids.length:Int) 0 hR76 bo16)<|en (aI (rP (.bool true))<|trivial)
   exact cb KK call22 func22 (c:=Na) rfl (aI (ag a) (aI (ag a2) trivial)) z<|by kernel_rfl
def wv:((aa×aa)->Option Bool)->(aa×aa)->Option Bool:=fun(rec:(aa×aa)->Option Bool) (x:aa×aa)=>qR (fun a a2=>rec (a,a2)) x.1 x.2
def iQ(a:aa)(a2:aa):Option Bool:=kY wv (a,a2)
theorem jR{a:aa}{a2:aa}{r:Bool}(h:iQ a a2=some r):CC Pg GE 22 [.agg (ac a),.agg (ac a2)] (.bool r) []:=
 cw (F:=wv) (M:=fun(x:aa×aa) (r:Bool)=>CC Pg GE 22 [.agg (ac x.1),.agg (ac x.2)] (.bool r) []) (fun rec hrec x r h=>EO _ (fun a a2 r h=>hrec (a,a2) r h) h) h
noncomputable def PG:Code:=f87.body.getD .skip
def Px:List Nat:=[]
def pP(p:aa):Option Bool:=
 pO.bind fun r1=>
 (iQ p r1).bind fun r2=>
 if r2=true then
  some true
 else
  (iQ p (⟨0,([]:ai),0,([]:List aa)⟩:aa)).bind fun r5=>
  some r5
theorem tf{p:aa}{r:Bool}(h:pP p=some r):CC Pg GE 87 [.agg (ac p)] (.bool r) []:=by
 obtain⟨r1,br1,h⟩:=av h
 obtain⟨r2,br2,h⟩:=av h
 have p4:=fun{sc F} (r:PS sc F)=>se (bj p)<|ue [0,0,3,7,15,15,63,127,255]<|sv (aB p)<|bg (oA br1)<|bg (jR br2)<|r
 rcases aT h with⟨c3,h⟩|⟨c3,h⟩
 ·obtain rfl:=lf h
  have z:=p4<|sg 4 c3<|en (aI (rP (.bool true))<|trivial)
  exact cb Px call87 func87 (c:=PG) rfl (aI (ag p) trivial) z<|by kernel_rfl
 ·obtain⟨r5,br5,h⟩:=av h
  obtain rfl:=lf h
  have z:=p4<|sg 4 c3<|sv (aB p)<|sb (nA) (ny)<|bg (jR br5)<|en (aI (rP (.bool r5))<|trivial)
  exact cb Px call87 func87 (c:=PG) rfl (aI (ag p) trivial) z<|by kernel_rfl
noncomputable def OR:Code:=f48.body.getD .skip
def OG:List Nat:=[]
def pQ(a:aa)(a2:aa):Option Bool:=
 (pP a).bind fun r1=>
 if r1=true then
  (pP a2).bind fun r4=>
  if r4=true then
   some true
  else
   (iQ a a2).bind fun r7=>
   some r7
 else
  (iQ a a2).bind fun r8=>
  some r8
theorem Al{a:aa}{a2:aa}{r:Bool}(h:pQ a a2=some r):CC Pg GE 48 [.agg (ac a),.agg (ac a2)] (.bool r) []:=by
 obtain⟨r1,br1,h⟩:=av h
 have p3:=fun{sc F} (r:PS sc F)=>se (bj a)<|se (bj a2)<|sv (aB a)<|bg (tf br1)<|r
 rcases aT h with⟨c2,h⟩|⟨c2,h⟩
 ·obtain⟨r4,br4,h⟩:=av h
  have p6:=fun{sc F} (r:PS sc F)=>p3<|sg 3 c2<|sv (aB a2)<|bg (tf br4)<|r
  rcases aT h with⟨c5,h⟩|⟨c5,h⟩
  ·obtain rfl:=lf h
   have z:=p6<|sg 7 c5<|en (aI (rP (.bool true))<|trivial)
   exact cb OG call48 func48 (c:=OR) rfl (aI (ag a) (aI (ag a2) trivial)) z<|by kernel_rfl
  ·obtain⟨r7,br7,h⟩:=av h
   obtain rfl:=lf h
   have z:=p6<|sg 7 c5<|sv (aB a)<|sv (aB a2)<|bg (jR br7)<|en (aI (rP (.bool r7))<|trivial)
   exact cb OG call48 func48 (c:=OR) rfl (aI (ag a) (aI (ag a2) trivial)) z<|by kernel_rfl
 ·obtain⟨r8,br8,h⟩:=av h
  obtain rfl:=lf h
  have z:=p3<|sg 3 c2<|sv (aB a)<|sv (aB a2)<|bg (jR br8)<|en (aI (rP (.bool r8))<|trivial)
  exact cb OG call48 func48 (c:=OR) rfl (aI (ag a) (aI (ag a2) trivial)) z<|by kernel_rfl
noncomputable def K5:Code:=f12.body.getD .skip
def GU:List Nat:=[58,77]
section
variable(v:ae)(v2:ae)
def Dz:aq:=aP 91 [(2,.eptr (af v)),(3,.eptr (af v2))] [.dead,.dead] []
def fq(o:Bool):aq:=aP 91 [(2,.eptr (af v)),(3,.eptr (af v2)),(52,.bool o)] [.dead,.dead] []
def ti:Option Bool:=
 if(v.Op !=v2.Op)=true then
  some true
 else
  if(!(v.Name==v2.Name))=true then
   some true
  else
   if((v.Args.length:Int)!=(v2.Args.length:Int))=true then
    some true
   else
    if((v.Preds.length:Int)!=(v2.Preds.length:Int))=true then
     some true
    else
     (sX v.Names v2.Names).bind fun r9=>
     if(!r9)=true then
      some true
     else
      (pQ v.Pred v2.Pred).bind fun r12=>
      some (!r12)
theorem BX{x:Bool}(h:ti v v2=some x):aC Pg GE 0 (cA K5 12) (EX .normal (fq v v2 x)) (Dz v v2):=by
 have p2:=fun{sc F} (r:PS sc F)=>sv (aH v)<|sv (aJ v)<|sv (aH v2)<|sv (aJ v2)<|r
 rcases aT h with⟨c1,h⟩|⟨c1,h⟩
 ·obtain rfl:=lf h
  exact ct GU (p2<|sg 6 c1<|eF .normal (fq v v2 true))<|by kernel_rfl
 ·have p4:=fun{sc F} (r:PS sc F)=>p2<|sg 6 c1<|sv (cF v)<|sv (cO v)<|sv (cF v2)<|sv (cO v2)<|r
  rcases aT h with⟨c3,h⟩|⟨c3,h⟩
  ·obtain rfl:=lf h
   exact ct GU (p4<|sg 13 c3<|eF .normal (fq v v2 true))<|by kernel_rfl
  ·have p6:=fun{sc F} (r:PS sc F)=>p4<|sg 13 c3<|sv (aL v)<|sv (aM v)<|cx (dF.ln v.Args)<|sv (aL v2)<|sv (aM v2)<|cx (dF.ln v2.Args)<|r
   rcases aT h with⟨c5,h⟩|⟨c5,h⟩
   ·obtain rfl:=lf h
    exact ct GU (p6<|sg 22 c5<|eF .normal (fq v v2 true))<|by kernel_rfl
   ·have p8:=fun{sc F} (r:PS sc F)=>p6<|sg 22 c5<|sv (bp v)<|sv (bu v)<|cx (aQ.ln v.Preds)<|sv (bp v2)<|sv (bu v2)<|cx (aQ.ln v2.Preds)<|r
    rcases aT h with⟨c7,h⟩|⟨c7,h⟩
    ·obtain rfl:=lf h
     exact ct GU (p8<|sg 31 c7<|eF .normal (fq v v2 true))<|by kernel_rfl
    ·obtain⟨r9,br9,h⟩:=av h
     have p11:=fun{sc F} (r:PS sc F)=>p8<|sg 31 c7<|sv (aY v)<|sv (aZ v)<|sv (aY v2)<|sv (aZ v2)<|bg (Ai br9)<|r
     rcases aT h with⟨c10,h⟩|⟨c10,h⟩
     ·obtain rfl:=lf h
      exact ct GU (p11<|sg 39 c10<|eF .normal (fq v v2 true))<|by kernel_rfl
     ·obtain⟨r12,br12,h⟩:=av h
      obtain rfl:=lf h
      exact ct GU (p11<|sg 39 c10<|sv (bw v)<|sv (bz v)<|sv (bw v2)<|sv (bz v2)<|bg (Al br12)<|eF .normal (fq v v2 (!r12)))<|by kernel_rfl
end
section
variable(v:ae)(v2:ae)(t55:Int)(t56:Int)
def iW:aq:=aP 91 [(2,.eptr (af v)),(3,.eptr (af v2)),(55,.int .i64 t55),(56,.int .i64 t56)] [.dead,.dead] []
def iX(o:Unit⊕(Unit)):Exit:=match o with
 |(.inl _)=>.ret
 |(.inr _)=>.exit 0
def ft(o:Unit⊕(Unit)):aq:=match o with
 |(.inl o)=>aP 91 [(4,.bool false)] [.dead,.dead] []
 |(.inr o)=>aP 91 [(2,.eptr (af v)),(3,.eptr (af v2))] [.dead,.dead] []
def pz:Option (Int⊕(Unit⊕(Unit))):=
 if(decide (t56<t55))=true then
  (eh v.Preds t56).bind fun x17=>
  (eh v2.Preds t56).bind fun x18=>
  (pQ x17 x18).bind fun r19=>
  if(!r19)=true then
   some (.inr (.inl ()))
  else
   some (.inl (cf (t56+1)))
 else
  some (.inr (.inr ()))
def tj:Option (Unit⊕(Unit)):=loop (fun(zz:Int)=>pz v v2 t55 zz) t56
theorem AV{y:Int⊕(Unit⊕(Unit))}(h:pz v v2 t55 t56=some y):aC Pg GE 0 (cA K5 119) (LQ (fun(zz:Int)=>iW v v2 t55 zz) iX (ft v v2) y) (iW v v2 t55 t56):=by
 rcases aT h with⟨c16,h⟩|⟨c16,h⟩
 ·obtain⟨x17,bx17,h⟩:=av h
  obtain⟨x18,bx18,h⟩:=av h
  obtain⟨r19,br19,h⟩:=av h
  have p21:=fun{sc F} (r:PS sc F)=>sg 0 c16<|ue [0,1,0,7,15,0,32,0,224,480,1023,2047]<|sv (bp v)<|sv (bu v)<|sv (aQ.ia (k:=.i64) bx17)<|sv (aB x17)<|sv (bp v2)<|sv (bu v2)<|sv (aQ.ia (k:=.i64) bx18)<|sv (aB x18)<|bg (Al br19)<|r
  rcases aT h with⟨c20,h⟩|⟨c20,h⟩
  ·obtain rfl:=lf h
   have z:=p21<|sg 0 c20<|eF (iX (.inl ())) (ft v v2 (.inl ()))
   exact gZ GU (by intro hx;cases hx) z<|by kernel_rfl
  ·obtain rfl:=lf h
   exact Bd GU (p21<|sg 0 c20<|eF .normal (iW v v2 t55 (cf (t56+1))))<|by kernel_rfl
 ·obtain rfl:=lf h
  have z:=sg 0 c16<|eF (iX (.inr ())) (ft v v2 (.inr ()))
  exact gZ GU (by intro hx;cases hx) z<|by kernel_rfl
theorem nv{x:Unit⊕(Unit)}(h:tj v v2 t55 t56=some x):aC Pg GE 0 (.loop (cA K5 119)) (EX (iX x) (ft v v2 x)) (iW v v2 t55 t56):=
 aC.loop (S:=fun(zz:Int)=>iW v v2 t55 zz) (ex:=iX) (s:=t56) h fun zz y hy=>AV v v2 t55 zz hy
end
section
variable(R71:qY)(v:ae)(v2:ae)(t74:Int)(t75:Int)
def iY:aq:=aP 91 [(2,.eptr (af v)),(3,.eptr (af v2)),(74,.int .i64 t74),(75,.int .i64 t75)] [.dead,.dead] []
def iZ(o:Unit⊕(Unit)):Exit:=match o with
 |(.inl _)=>.ret
 |(.inr _)=>.exit 2
def gV(o:Unit⊕(Unit)):aq:=match o with
 |(.inl o)=>aP 91 [(4,.bool false)] [.dead,.dead] []
 |(.inr o)=>aP 91 [] [.dead,.dead] []
def pA:Option (Int⊕(Unit⊕(Unit))):=
 if(decide (t75<t74))=true then
  (eh v.Args t75).bind fun x24=>
  (eh v2.Args t75).bind fun x25=>
  (R71 x24 x25).bind fun r26=>
  if(!r26)=true then
   some (.inr (.inl ()))
  else
   some (.inl (cf (t75+1)))
 else
  some (.inr (.inr ()))
def tk:Option (Unit⊕(Unit)):=loop (fun(zz:Int)=>pA R71 v v2 t74 zz) t75
theorem AW(hR71:ws R71){y:Int⊕(Unit⊕(Unit))}(h:pA R71 v v2 t74 t75=some y):aC Pg GE 0 (cA K5 247) (LQ (fun(zz:Int)=>iY v v2 t74 zz) iZ gV y) (iY v v2 t74 t75):=by
 rcases aT h with⟨c23,h⟩|⟨c23,h⟩
 ·obtain⟨x24,bx24,h⟩:=av h
  obtain⟨x25,bx25,h⟩:=av h
  obtain⟨r26,br26,h⟩:=av h
  have p28:=fun{sc F} (r:PS sc F)=>sg 0 c23<|ue [0,1,0,7,15,0,32,0,224,480,1023,2047]<|sv (aL v)<|sv (aM v)<|sv (dF.ia (k:=.i64) bx24)<|sv (bA x24)<|sv (aL v2)<|sv (aM v2)<|sv (dF.ia (k:=.i64) bx25)<|sv (bA x25)<|bg (hR71 _ _ _ br26)<|r
  rcases aT h with⟨c27,h⟩|⟨c27,h⟩
  ·obtain rfl:=lf h
   have z:=p28<|sg 0 c27<|eF (iZ (.inl ())) (gV (.inl ()))
   exact gZ GU (by intro hx;cases hx) z<|by kernel_rfl
  ·obtain rfl:=lf h
   exact Bd GU (p28<|sg 0 c27<|eF .normal (iY v v2 t74 (cf (t75+1))))<|by kernel_rfl
 ·obtain rfl:=lf h
  have z:=sg 0 c23<|eF (iZ (.inr ())) (gV (.inr ()))
  exact gZ GU (by intro hx;cases hx) z<|by kernel_rfl
theorem tn(hR71:ws R71){x:Unit⊕(Unit)}(h:tk R71 v v2 t74 t75=some x):aC Pg GE 0 (.loop (cA K5 247)) (EX (iZ x) (gV x)) (iY v v2 t74 t75):=
 aC.loop (S:=fun(zz:Int)=>iY v v2 t74 zz) (ex:=iZ) (s:=t75) h fun zz y hy=>AW R71 v v2 t74 zz hR71 hy
end
def qU(R71:qY)(a:ae)(a2:ae):Option Bool:=
 (ti a a2).bind fun o13=>
 if o13=true then
  some false
 else
  (tj a a2 (a.Preds.length:Int) 0).bind fun o22=>match o22 with
  |(.inl o22)=>
   some false
  | (.inr o22) =>
   (tk R71 a a2 (a.Args.length:Int) 0).bind fun o29=>match o29 with
   |(.inl o29)=>
    some false
   |(.inr o29)=>
    some true
theorem EQ(R71:qY)(hR71:ws R71){a:ae}{a2:ae}{r:Bool}(h:qU R71 a a2=some r):CC Pg GE 12 [.agg (af a),.agg (af a2)] (.bool r) []:=by
 obtain⟨o13,bo13,h⟩:=av h
 have p15:=fun{sc F} (r:PS sc F)=>se (bY a)<|se (bY a2)<|mG 1<|cC (BX a a2 bo13)<|r
 rcases aT h with⟨c14,h⟩|⟨c14,h⟩
 ·obtain rfl:=lf h
  have z:=p15<|sg 0 c14<|en (aI (rP (.bool false))<|trivial)
  exact cb GU call12 func12 (c:=K5) rfl (aI (al a) (aI (al a2) trivial)) z<|by kernel_rfl
 ·obtain⟨o22,bo22,h⟩:=av h
  rcases o22 with o22|o22
  ·obtain rfl:=lf h
   have z:=p15<|sg 0 c14<|sv (bp a)<|sv (bu a)<|cx (aQ.ln a.Preds)<|cC (e:=.ret) (s1:=ft a a2 (.inl o22)) (nv a a2 (a.Preds.length:Int) 0 bo22)<|en (aI (rP (.bool false))<|trivial)
   exact cb GU call12 func12 (c:=K5) rfl (aI (al a) (aI (al a2) trivial)) z<|by kernel_rfl
  ·obtain⟨o29,bo29,h⟩:=av h
   rcases o29 with o29|o29
   ·obtain rfl:=lf h
    have z:=p15<|sg 0 c14<|sv (bp a)<|sv (bu a)<|cx (aQ.ln a.Preds)<|cC (e:=.exit 0) (s1:=ft a a2 (.inr o22)) (nv a a2 (a.Preds.length:Int) 0 bo22)<|sv (aL a)<|sv (aM a)<|cx (dF.ln a.Args)<|cC (e:=.ret) (s1:=gV (.inl o29)) (tn R71 a a2 (a.Args.length:Int) 0 hR71 bo29)<|en (aI (rP (.bool false))<|trivial)
    exact cb GU call12 func12 (c:=K5) rfl (aI (al a) (aI (al a2) trivial)) z<|by kernel_rfl
   ·obtain rfl:=lf h
    have z:=p15<|sg 0 c14<|sv (bp a)<|sv (bu a)<|cx (aQ.ln a.Preds)<|cC (e:=.exit 0) (s1:=ft a a2 (.inr o22)) (nv a a2 (a.Preds.length:Int) 0 bo22)<|sv (aL a)<|sv (aM a)<|cx (dF.ln a.Args)<|cC (e:=.exit 2) (s1:=gV (.inr o29)) (tn R71 a a2 (a.Args.length:Int) 0 hR71 bo29)<|en (aI (rP (.bool true))<|trivial)
    exact cb GU call12 func12 (c:=K5) rfl (aI (al a) (aI (al a2) trivial)) z<|by kernel_rfl
def wz:((ae×ae)->Option Bool)->(ae×ae)->Option Bool:=fun(rec:(ae×ae)->Option Bool) (x:ae×ae)=>qU (fun a a2=>rec (a,a2)) x.1 x.2
def lO(a:ae)(a2:ae):Option Bool:=kY wz (a,a2)
theorem lP{a:ae}{a2:ae}{r:Bool}(h:lO a a2=some r):CC Pg GE 12 [.agg (af a),.agg (af a2)] (.bool r) []:=
 cw (F:=wz) (M:=fun(x:ae×ae) (r:Bool)=>CC Pg GE 12 [.agg (af x.1),.agg (af x.2)] (.bool r) []) (fun rec hrec x r h=>EQ _ (fun a a2 r h=>hrec (a,a2) r h) h) h
noncomputable def Qz:Code:=f57.body.getD .skip
def Qi:List Nat:=[]
def CU(p:aa)(name:ai)(a:aa):Option aa:=
 (jk p ([name]:List ai) ([a]:List aa)).bind fun r1=>
 some r1
theorem DV{p:aa}{name:ai}{a:aa}{r:aa}(h:CU p name a=some r):CC Pg GE 57 [.agg (ac p),.str name,.agg (ac a)] (.agg (ac r)) [(3,28)]:=by
 obtain⟨r1,br1,h⟩:=av h
 obtain rfl:=lf h
 have z:=se (bj p)<|se (bj a)<|sx dB<|sv (aB p)<|sv (cn.mk' (v:=PVal.str) FF ([name]:List ai) 1 (by kernel_rfl))<|sv (aB a)<|sv (aQ.mk' (v:=b9) aV ([a]:List aa) 1 (by kernel_rfl))<|bg (lm br1)<|sy (ax r1)<|en (aI (bR r1)<|aI (ag r1)<|rT)
 exact cb Qi call57 func57 (c:=Qz) rfl (aI (ag p) (aI trivial (aI (ag a) trivial))) z<|by kernel_rfl
noncomputable def OP:Code:=f23.body.getD .skip
def Oh:List Nat:=[]
section
variable(t:ae)(v:aa)(m:waA)
def Bv:aq:=aP 18 [(2,.eptr (af t)),(3,.eptr (ac v)),(4,.bptr 2 0)] [.dead,.dead,.cells [.int .i64 0,.str ([]:ai),.int .i64 0,sl ac m] [(3,28)]] []
def mm(o:Bool):aq:=aP 18 [(2,.eptr (af t)),(3,.eptr (ac v)),(4,.bptr 2 0),(12,.bool o)] [.dead,.dead,.cells [.int .i64 0,.str ([]:ai),.int .i64 0,sl ac m] [(3,28)]] []
def vY:Option Bool:=
 if(t.Op==6)=true then
  some true
 else
  (nb t.Pred).bind fun r3=>
  some r3
theorem zU{x:Bool}(h:vY t=some x):aC Pg GE 0 (cA OP 12) (EX .normal (mm t v m x)) (Bv t v m):=by
 have p2:=fun{sc F} (r:PS sc F)=>sv (aH t)<|sv (aJ t)<|r
 rcases aT h with⟨c1,h⟩|⟨c1,h⟩
 ·obtain rfl:=lf h
  exact ct Oh (p2<|sg 4 c1<|eF .normal (mm t v m true))<|by kernel_rfl
 ·obtain⟨r3,br3,h⟩:=av h
  obtain rfl:=lf h
  exact ct Oh (p2<|sg 4 c1<|sv (bw t)<|sv (bz t)<|bg (mo br3)<|eF .normal (mm t v m r3))<|by kernel_rfl
end
def Da(t:ae)(a:aa):Option aa:=
 (vY t).bind fun o4=>
 if o4=true then
  some (⟨2,([]:ai),1,([]:List aa)⟩:aa)
 else
  (CU t.Pred ([118]:ai) a).bind fun r7=>
  some r7
theorem DZ{t:ae}{a:aa}{r:aa}(h:Da t a=some r):CC Pg GE 23 [.agg (af t),.agg (ac a)] (.agg (ac r)) [(3,28)]:=by
 obtain⟨o4,bo4,h⟩:=av h
 have p6:=fun{sc F} (r:PS sc F)=>se (bY t)<|se (bj a)<|sx dB<|mG 1<|cC (zU t a ([]:List aa) bo4)<|r
 rcases aT h with⟨c5,h⟩|⟨c5,h⟩
 ·obtain rfl:=lf h
  have z:=p6<|sg 0 c5<|sb (mT 2 1) (mQ 2 1)<|sy (ax (⟨2,([]:ai),1,([]:List aa)⟩:aa))<|en (aI (bR (⟨2,([]:ai),1,([]:List aa)⟩:aa))<|aI (ag (⟨2,([]:ai),1,([]:List aa)⟩:aa))<|rT)
  exact cb Oh call23 func23 (c:=OP) rfl (aI (al t) (aI (ag a) trivial)) z<|by kernel_rfl
 ·obtain⟨r7,br7,h⟩:=av h
  obtain rfl:=lf h
  have z:=p6<|sg 0 c5<|sv (bw t)<|sv (bz t)<|sv (aB a)<|bg (DV br7)<|sy (ax r7)<|en (aI (bR r7)<|aI (ag r7)<|rT)
  exact cb Oh call23 func23 (c:=OP) rfl (aI (al t) (aI (ag a) trivial)) z<|by kernel_rfl
noncomputable def K4:Code:=f11.body.getD .skip
def KT:List Nat:=[]
def nf:Option Bool:=
 (lQ ([121]:ai)).bind fun r1=>
 (B5 1).bind fun r2=>
 (kV 6 ([r1,r2]:List aa)).bind fun r3=>
 (lQ ([120]:ai)).bind fun r4=>
 (lQ ([118]:ai)).bind fun r5=>
 (kV 12 ([r4,r5]:List aa)).bind fun r6=>
 (f9 r6).bind fun r7=>
 (BG ([120]:ai) r7).bind fun r8=>
 (lQ ([120]:ai)).bind fun r9=>
 (lQ ([121]:ai)).bind fun r10=>
 (kV 6 ([r9,r10]:List aa)).bind fun r11=>
 (lQ ([118]:ai)).bind fun r12=>
 (kV 12 ([r11,r12]:List aa)).bind fun r13=>
 (f9 r13).bind fun r14=>
 (BG ([120]:ai) r14).bind fun r15=>
 (lQ ([120]:ai)).bind fun r16=>
 (lM r15 ([121]:ai) r16).bind fun r17=>
 (B5 5).bind fun r18=>
 (vX r8 ([r18]:List aa)).bind fun r19=>
 (B5 0).bind fun r20=>
 (lQ ([118]:ai)).bind fun r21=>
 (kV 13 ([r20,r21]:List aa)).bind fun r22=>
 (f9 r22).bind fun r23=>
 (yO r23 ([110]:ai)).bind fun r24=>
 (vZ r8).bind fun r25=>
 if (r25 == 0) = true then
  (lM r7 ([120]:ai) (⟨r3.Op,r3.Name,r3.N,r3.Kids⟩:aa)).bind fun r28=>
  (lQ ([118]:ai)).bind fun r29=>
  (kV 12 ([(⟨r3.Op,r3.Name,r3.N,r3.Kids⟩:aa),r29]:List aa)).bind fun r30=>
  (f9 r30).bind fun r31=>
  (lO r28 r31).bind fun r32=>
  if r32 = true then
   (lM r8 ([120]:ai) (⟨r3.Op,r3.Name,r3.N,r3.Kids⟩:aa)).bind fun r35=>
   (lO r35 r8).bind fun r36=>
   if r36=true then
    (lQ ([120,49]:ai)).bind fun r39=>
    (lQ ([120]:ai)).bind fun r40=>
    (kV 6 ([r39,r40]:List aa)).bind fun r41=>
    (lQ ([118]:ai)).bind fun r42=>
    (kV 12 ([r41,r42]:List aa)).bind fun r43=>
    (f9 r43).bind fun r44=>
    (BG ([120,49]:ai) r44).bind fun r45=>
    (lO r17 r45).bind fun r46=>
    if r46=true then
     if (r19.2 == 0) = true then
      (B5 5).bind fun r51=>
      (lQ ([118]:ai)).bind fun r52=>
      (kV 12 ([r51,r52]:List aa)).bind fun r53=>
      (f9 r53).bind fun r54=>
      (lO r19.1 r54).bind fun r55=>
      if r55=true then
       (lQ ([118]:ai)).bind fun r58=>
       (lQ ([110]:ai)).bind fun r59=>
       (kV 10 ([r58,r59]:List aa)).bind fun r60=>
       (kV 15 ([r23.Pred,r60]:List aa)).bind fun r61=>
       (iQ r24.Pred r61).bind fun r62=>
       if r62=true then
        (rK r7).bind fun r65=>
        (sX r65 ([([120]:ai)]:List ai)).bind fun r66=>
        if r66=true then
         (B5 7).bind fun r69=>
         (Da r7 r69).bind fun r70=>
         (lQ ([120]:ai)).bind fun r71=>
         (B5 7).bind fun r72=>
         (kV 12 ([r71,r72]:List aa)).bind fun r73=>
         (iQ r70 r73).bind fun r74=>
         some r74
        else
         some false
       else
        some false
      else
       some false
     else
      some false
    else
     some false
   else
    some false
  else
   some false
 else
  some false
theorem mN{r:Bool}(h:nf=some r):CC Pg GE 11 [] (.bool r) []:=by
 obtain⟨r1,br1,h⟩:=av h
 obtain⟨r2,br2,h⟩:=av h
 obtain⟨r3,br3,h⟩:=av h
 obtain⟨r4,br4,h⟩:=av h
 obtain⟨r5,br5,h⟩:=av h
 obtain⟨r6,br6,h⟩:=av h
 obtain⟨r7,br7,h⟩:=av h
 obtain⟨r8,br8,h⟩:=av h
 obtain⟨r9,br9,h⟩:=av h
 obtain⟨r10,br10,h⟩:=av h
 obtain⟨r11,br11,h⟩:=av h
 obtain⟨r12,br12,h⟩:=av h
 obtain⟨r13,br13,h⟩:=av h
 obtain⟨r14,br14,h⟩:=av h
 obtain⟨r15,br15,h⟩:=av h
 obtain⟨r16,br16,h⟩:=av h
 obtain⟨r17,br17,h⟩:=av h
 obtain⟨r18,br18,h⟩:=av h
 obtain⟨r19,br19,h⟩:=av h
 obtain⟨r20,br20,h⟩:=av h
 obtain⟨r21,br21,h⟩:=av h
 obtain⟨r22,br22,h⟩:=av h
 obtain⟨r23,br23,h⟩:=av h
 obtain⟨r24,br24,h⟩:=av h
 obtain⟨r25,br25,h⟩:=av h
 have p27:=fun{sc F} (r:PS sc F)=>bg (ef br1)<|bg (pU br2)<|sv (aQ.mk' (v:=b9) aV ([r1,r2]:List aa) 2 (by kernel_rfl))<|bg (eU br3)<|sx dB<|sx (aW r3)<|bg (ef br4)<|bg (ef br5)<|sv (aQ.mk' (v:=b9) aV ([r4,r5]:List aa) 2 (by kernel_rfl))<|bg (eU br6)<|bg (eB br7)<|sx io<|sy (aO r7)<|sv (bk r7 [])<|bg (wE br8)<|sx io<|sy (aO r8)<|bg (ef br9)<|bg (ef br10)<|sv (aQ.mk' (v:=b9) aV ([r9,r10]:List aa) 2 (by kernel_rfl))<|bg (eU br11)<|bg (ef br12)<|sv (aQ.mk' (v:=b9) aV ([r11,r12]:List aa) 2 (by kernel_rfl))<|bg (eU br13)<|bg (eB br14)<|bg (wE br15)<|sx io<|sy (aO r15)<|ue [0,0,3,0,15]<|sv (bk r15 [])<|bg (ef br16)<|bg (ls br17)<|KF (cB r17)<|ue [0,0,2,7,15,31,31,0,191,511]<|sv (bk r8 [])<|bg (pU br18)<|sv (aQ.mk' (v:=b9) aV ([r18]:List aa) 1 (by kernel_rfl))<|bg (zT br19)<|sx (cB r19.1)<|bg (pU br20)<|bg (ef br21)<|sv (aQ.mk' (v:=b9) aV ([r20,r21]:List aa) 2 (by kernel_rfl))<|bg (eU br22)<|bg (eB br23)<|sx io<|sy (aO r23)<|sv (bk r23 [])<|bg (Bx br24)<|sx io<|sy (aO r24)<|ue [0,1,3,7,15,15,63,15,127,511,1023,2047,4095,8191,16383,32767,32767,131071,32767,524287,1048575,2097151,4194303,4194303,12582911,29360127,62914559,130023423,264241151,532676607,1069547519,2143289343,4294967295,8589934591,17179869183,34359738367,68719476735,137438953471,274877906943,549755813887,549755813887,1649267441663,3848290697215,8246337208319,17042430230527,35184372088831,70368744177663,140737488355327,281474976710655,562949953421311,281474976710655,1407374883553279,281474976710655,4785074604081151,13792273858822143,31806672368304127,71213169107795967,143270763145723903,288230376151711743,576460752303423487,1152921504606846975,2305843009213693951,4611686018427387903,2305843009213693951,18446744073709551615,36893488147419103231,73786976294838206463,147573952589676412927,147573952589676412927,590295810358705651711,1180591620717411303423,2361183241434822606847,4722366482869645213695,9444732965739290427391,18889465931478580854783,37778931862957161709567,75557863725914323419135]<|sv (bk r8 [])<|bg (zV br25)<|r
 rcases aT h with⟨c26,h⟩|⟨c26,h⟩
 ·obtain ⟨r28,br28,h⟩:=av h
  obtain⟨r29,br29,h⟩:=av h
  obtain⟨r30,br30,h⟩:=av h
  obtain⟨r31,br31,h⟩:=av h
  obtain⟨r32,br32,h⟩:=av h
  have p34:=fun{sc F} (r:PS sc F)=>p27<|sg 4 c26<|sv (bk r7 [])<|sv (aD (⟨r3.Op,r3.Name,r3.N,r3.Kids⟩:aa) [])<|bg (ls br28)<|sv (aD (⟨r3.Op,r3.Name,r3.N,r3.Kids⟩:aa) [])<|bg (ef br29)<|sv (aQ.mk' (v:=b9) aV ([(⟨r3.Op,r3.Name,r3.N,r3.Kids⟩:aa),r29]:List aa) 2 (by kernel_rfl))<|bg (eU br30)<|bg (eB br31)<|bg (lP br32)<|r
  rcases aT h with⟨c33,h⟩|⟨c33,h⟩
  ·obtain⟨r35,br35,h⟩:=av h
   obtain⟨r36,br36,h⟩:=av h
   have p38:=fun{sc F} (r:PS sc F)=>p34<|sg 15 c33<|sv (bk r8 [])<|sv (aD (⟨r3.Op,r3.Name,r3.N,r3.Kids⟩:aa) [])<|bg (ls br35)<|sv (bk r8 [])<|bg (lP br36)<|r
   rcases aT h with⟨c37,h⟩|⟨c37,h⟩
   ·obtain⟨r39,br39,h⟩:=av h
    obtain⟨r40,br40,h⟩:=av h
    obtain⟨r41,br41,h⟩:=av h
    obtain⟨r42,br42,h⟩:=av h
    obtain⟨r43,br43,h⟩:=av h
    obtain⟨r44,br44,h⟩:=av h
    obtain⟨r45,br45,h⟩:=av h
    obtain⟨r46,br46,h⟩:=av h
    have p48:=fun{sc F} (r:PS sc F)=>p38<|sg 22 c37<|sv (bk r17 [])<|bg (ef br39)<|bg (ef br40)<|sv (aQ.mk' (v:=b9) aV ([r39,r40]:List aa) 2 (by kernel_rfl))<|bg (eU br41)<|bg (ef br42)<|sv (aQ.mk' (v:=b9) aV ([r41,r42]:List aa) 2 (by kernel_rfl))<|bg (eU br43)<|bg (eB br44)<|bg (wE br45)<|bg (lP br46)<|r
    rcases aT h with⟨c47,h⟩|⟨c47,h⟩
    ·have p50:=fun{sc F} (r:PS sc F)=>p48<|sg 35 c47<|r
     rcases aT h with⟨c49,h⟩|⟨c49,h⟩
     ·obtain⟨r51,br51,h⟩:=av h
      obtain⟨r52,br52,h⟩:=av h
      obtain⟨r53,br53,h⟩:=av h
      obtain⟨r54,br54,h⟩:=av h
      obtain⟨r55,br55,h⟩:=av h
      have p57:=fun{sc F} (r:PS sc F)=>p50<|sg 39 c49<|sv (bk r19.1 [])<|bg (pU br51)<|bg (ef br52)<|sv (aQ.mk' (v:=b9) aV ([r51,r52]:List aa) 2 (by kernel_rfl))<|bg (eU br53)<|bg (eB br54)<|bg (lP br55)<|r
      rcases aT h with⟨c56,h⟩|⟨c56,h⟩
      ·obtain⟨r58,br58,h⟩:=av h
       obtain⟨r59,br59,h⟩:=av h
       obtain⟨r60,br60,h⟩:=av h
       obtain⟨r61,br61,h⟩:=av h
       obtain⟨r62,br62,h⟩:=av h
       have p64:=fun{sc F} (r:PS sc F)=>p57<|sg 48 c56<|sv (aD r24.Pred [sl ac r24.Preds])<|sv (aD r23.Pred [sl ac r23.Preds])<|bg (ef br58)<|bg (ef br59)<|sv (aQ.mk' (v:=b9) aV ([r58,r59]:List aa) 2 (by kernel_rfl))<|bg (eU br60)<|sv (aQ.mk' (v:=b9) aV ([r23.Pred,r60]:List aa) 2 (by kernel_rfl))<|bg (eU br61)<|bg (jR br62)<|r
       rcases aT h with⟨c63,h⟩|⟨c63,h⟩
       ·obtain⟨r65,br65,h⟩:=av h
        obtain⟨r66,br66,h⟩:=av h
        have p68:=fun{sc F} (r:PS sc F)=>p64<|sg 61 c63<|sv (bk r7 [])<|bg (sm br65)<|sv (cn.mk' (v:=PVal.str) FF ([([120]:ai)]:List ai) 1 (by kernel_rfl))<|bg (Ai br66)<|r
        rcases aT h with⟨c67,h⟩|⟨c67,h⟩
        ·obtain⟨r69,br69,h⟩:=av h
         obtain⟨r70,br70,h⟩:=av h
         obtain⟨r71,br71,h⟩:=av h
         obtain⟨r72,br72,h⟩:=av h
         obtain⟨r73,br73,h⟩:=av h
         obtain⟨r74,br74,h⟩:=av h
         obtain rfl:=lf h
         have z:=p68<|sg 67 c67<|sv (bk r7 [])<|bg (pU br69)<|bg (DZ br70)<|bg (ef br71)<|bg (pU br72)<|sv (aQ.mk' (v:=b9) aV ([r71,r72]:List aa) 2 (by kernel_rfl))<|bg (eU br73)<|bg (jR br74)<|en (aI (rP (.bool r74))<|trivial)
         exact cb KT call11 func11 (c:=K4) rfl trivial z<|by kernel_rfl
        ·obtain rfl:=lf h
         have z:=p68<|sg 67 c67<|en (aI (rP (.bool false))<|trivial)
         exact cb KT call11 func11 (c:=K4) rfl trivial z<|by kernel_rfl
       ·obtain rfl:=lf h
        have z:=p64<|sg 61 c63<|en (aI (rP (.bool false))<|trivial)
        exact cb KT call11 func11 (c:=K4) rfl trivial z<|by kernel_rfl
      ·obtain rfl:=lf h
       have z:=p57<|sg 48 c56<|en (aI (rP (.bool false))<|trivial)
       exact cb KT call11 func11 (c:=K4) rfl trivial z<|by kernel_rfl
     ·obtain rfl:=lf h
      have z:=p50<|sg 39 c49<|en (aI (rP (.bool false))<|trivial)
      exact cb KT call11 func11 (c:=K4) rfl trivial z<|by kernel_rfl
    ·obtain rfl:=lf h
     have z:=p48<|sg 35 c47<|en (aI (rP (.bool false))<|trivial)
     exact cb KT call11 func11 (c:=K4) rfl trivial z<|by kernel_rfl
   ·obtain rfl:=lf h
    have z:=p38<|sg 22 c37<|en (aI (rP (.bool false))<|trivial)
    exact cb KT call11 func11 (c:=K4) rfl trivial z<|by kernel_rfl
  ·obtain rfl:=lf h
   have z:=p34<|sg 15 c33<|en (aI (rP (.bool false))<|trivial)
   exact cb KT call11 func11 (c:=K4) rfl trivial z<|by kernel_rfl
 ·obtain rfl:=lf h
  have z:=p27<|sg 4 c26<|en (aI (rP (.bool false))<|trivial)
  exact cb KT call11 func11 (c:=K4) rfl trivial z<|by kernel_rfl
noncomputable def Om:Code:=f28.body.getD .skip
def Nn:List Nat:=[10,17]
section
variable(v:waB)(s:ai)(t7:Int)(t8:Int)
def iL:aq:=aP 19 [(0,sl cS v),(1,.str s),(7,.int .i64 t7),(8,.int .i64 t8)] [] []
def iM(o:Int⊕(Unit)):Exit:=match o with
 |(.inl _)=>.ret
 |(.inr _)=>.exit 0
def gS(o:Int⊕(Unit)):aq:=match o with
 |(.inl o)=>aP 19 [(4,.int .i64 o)] [] []
 |(.inr o)=>aP 19 [] [] []
def fo:Option (Int⊕(Int⊕(Unit))):=
 if(decide (t8<t7))=true then
  (eh v t8).bind fun x2=>
  if(x2==s)=true then
   some (.inr (.inl t8))
  else
   some (.inl (cf (t8+1)))
 else
  some (.inr (.inr ()))
def sV:Option (Int⊕(Unit)):=loop (fun(zz:Int)=>fo v s t7 zz) t8
theorem AL{y:Int⊕(Int⊕(Unit))}(h:fo v s t7 t8=some y):aC Pg GE 0 (cA Om 55) (LQ (fun(zz:Int)=>iL v s t7 zz) iM gS y) (iL v s t7 t8):=by
 rcases aT h with⟨c1,h⟩|⟨c1,h⟩
 ·obtain⟨x2,bx2,h⟩:=av h
  have p4:=fun{sc F} (r:PS sc F)=>sg 0 c1<|sv (cn.ia (k:=.i64) bx2)<|sv (gh Iq (.str x2) [])<|r
  rcases aT h with⟨c3,h⟩|⟨c3,h⟩
  ·obtain rfl:=lf h
   have z:=p4<|sg 0 c3<|eF (iM (.inl t8)) (gS (.inl t8))
   exact gZ Nn (by intro hx;cases hx) z<|by kernel_rfl
  ·obtain rfl:=lf h
   exact Bd Nn (p4<|sg 0 c3<|eF .normal (iL v s t7 (cf (t8+1))))<|by kernel_rfl
 ·obtain rfl:=lf h
  have z:=sg 0 c1<|eF (iM (.inr ())) (gS (.inr ()))
  exact gZ Nn (by intro hx;cases hx) z<|by kernel_rfl
theorem sW{x:Int⊕(Unit)}(h:sV v s t7 t8=some x):aC Pg GE 0 (.loop (cA Om 55)) (EX (iM x) (gS x)) (iL v s t7 t8):=
 aC.loop (S:=fun(zz:Int)=>iL v s t7 zz) (ex:=iM) (s:=t8) h fun zz y hy=>AL v s t7 zz hy
end
def xx(a:waB)(s:ai):Option Int:=
 (sV a s (a.length:Int) 0).bind fun o5=>match o5 with
 |(.inl o5)=>
  some o5
 |(.inr o5)=>
  some (-1)
theorem FK{a:waB}{s:ai}{r:Int}(h:xx a s=some r):CC Pg GE 28 [sl cS a,.str s] (.int .i64 r) []:=by
 obtain⟨o5,bo5,h⟩:=av h
 rcases o5 with o5|o5
 ·obtain rfl:=lf h
  have z:=cx (cn.ln a)<|cC (e:=.ret) (s1:=gS (.inl o5)) (sW a s (a.length:Int) 0 bo5)<|en (aI (rP (.int .i64 o5))<|trivial)
  exact cb Nn call28 func28 (c:=Om) rfl (aI (ak hZ a) (aI trivial trivial)) z<|by kernel_rfl
 ·obtain rfl:=lf h
  have z:=cx (cn.ln a)<|cC (e:=.exit 0) (s1:=gS (.inr o5)) (sW a s (a.length:Int) 0 bo5)<|en (aI (rP (.int .i64 (-1)))<|trivial)
  exact cb Nn call28 func28 (c:=Om) rfl (aI (ak hZ a) (aI trivial trivial)) z<|by kernel_rfl
abbrev j6:=(aa->waB->waA->Option aa)
abbrev nj(R:j6):Prop:=∀(p:aa) (names:waB) (a:waA) (r:aa),R p names a=some r->CC Pg GE 90 [.agg (ac p),sl cS names,sl ac a] (.agg (ac r)) []
noncomputable def OL:Code:=f110.body.getD .skip
def OB:List Nat:=[]
def xA(p:aa)(kids:waA):Option aa:=
 some (⟨p.Op,p.Name,p.N,kids⟩:aa)
theorem Ak{p:aa}{kids:waA}{r:aa}(h:xA p kids=some r):CC Pg GE 110 [.agg (ac p),sl ac kids] (.agg (ac r)) []:=by
 obtain rfl:=lf h
 have z:=se (bj p)<|sx dB<|sv (aE p)<|sv (aF p)<|sv (bo p)<|sv (bD p)<|sv (bU p)<|sv (ce p)<|sv (zl p.Op p.Name p.N kids)<|sx (aW (⟨p.Op,p.Name,p.N,kids⟩:aa))<|en (aI (bR (⟨p.Op,p.Name,p.N,kids⟩:aa))<|(ag (⟨p.Op,p.Name,p.N,kids⟩:aa)))
 exact cb OB call110 func110 (c:=OL) rfl (aI (ag p) (aI (ak ag kids) trivial)) z<|by kernel_rfl
noncomputable def Nd:Code:=f90.body.getD .skip
def KV:List Nat:=[37]
section
variable(names:waB)(v:waA)(p:aa)(i:Int)(m:waA)
def xz:aq:=aP 48 [(1,sl cS names),(2,sl ac v),(3,.eptr (ac p)),(6,.bptr 1 0),(7,.int .i64 i)] [.dead,.cells [.int .i64 0,.str ([]:ai),.int .i64 0,sl ac m] [(3,28)]] []
def j3(o:Bool):aq:=aP 48 [(1,sl cS names),(2,sl ac v),(3,.eptr (ac p)),(6,.bptr 1 0),(7,.int .i64 i),(25,.bool o)] [.dead,.cells [.int .i64 0,.str ([]:ai),.int .i64 0,sl ac m] [(3,28)]] []
def me:Option Bool:=
 if(decide (i>=0))=true then
  some (decide (i<(v.length:Int)))
 else
  some false
theorem ww{x:Bool}(h:me v i=some x):aC Pg GE 0 (cA Nd 106) (EX .normal (j3 names v p i m x)) (xz names v p i m):=by
 rcases aT h with⟨c4,h⟩|⟨c4,h⟩
 ·obtain rfl:=lf h
  exact ct KV (sg 3 c4<|cx (aQ.ln v)<|eF .normal (j3 names v p i m (decide (i<(v.length:Int)))))<|by kernel_rfl
 ·obtain rfl:=lf h
  exact ct KV (sg 3 c4<|eF .normal (j3 names v p i m false))<|by kernel_rfl
end
section
variable(names:waB)(v:waA)(p:aa)(m:waA)
def xy:aq:=aP 48 [(1,sl cS names),(2,sl ac v),(3,.eptr (ac p)),(6,.bptr 1 0)] [.dead,.cells [.int .i64 0,.str ([]:ai),.int .i64 0,sl ac m] [(3,28)]] []
def g9(o:(Int×ai×Int×waA)⊕(Unit)):Exit:=match o with
 |(.inl _)=>.ret
 |(.inr _)=>.normal
def dT(o:(Int×ai×Int×waA)⊕(Unit)):aq:=match o with
 |(.inl o)=>aP 48 [(6,.bptr 1 0)] [.dead,.cells [.int .i64 o.1,.str o.2.1,.int .i64 o.2.2.1,sl ac o.2.2.2] []] []
 |(.inr o)=>aP 48 [(1,sl cS names),(2,sl ac v),(3,.eptr (ac p)),(6,.bptr 1 0)] [.dead,.cells [.int .i64 0,.str ([]:ai),.int .i64 0,sl ac m] [(3,28)]] []
def jp:Option ((Int×ai×Int×waA)⊕(Unit)):=
 if(p.Op==3)=true then
  (xx names p.Name).bind fun r3=>
  (me v r3).bind fun o5=>
  if o5=true then
   (eh v r3).bind fun x8=>
   some (.inl (x8.Op,x8.Name,x8.N,x8.Kids))
  else
   some (.inr ())
 else
  some (.inr ())
theorem np{x:(Int×ai×Int×waA)⊕(Unit)}(h:jp names v p=some x):aC Pg GE 0 (cA Nd 6) (EX (g9 x) (dT names v p m x)) (xy names v p m):=by
 have p2:=fun{sc F} (r:PS sc F)=>sv (aE p)<|sv (aF p)<|r
 rcases aT h with⟨c1,h⟩|⟨c1,h⟩
 ·obtain⟨r3,br3,h⟩:=av h
  obtain⟨o5,bo5,h⟩:=av h
  have p7:=fun{sc F} (r:PS sc F)=>p2<|sg 0 c1<|sv (bo p)<|sv (bD p)<|bg (FK br3)<|mG 0<|cC (ww names v p r3 m bo5)<|r
  rcases aT h with⟨c6,h⟩|⟨c6,h⟩
  ·obtain⟨x8,bx8,h⟩:=av h
   obtain rfl:=lf h
   exact ct KV (p7<|sg 0 c6<|sv (aQ.ia (k:=.i64) bx8)<|sv (aB x8)<|sx (aW x8)<|eF (g9 (.inl (x8.Op,x8.Name,x8.N,x8.Kids))) (dT names v p m (.inl (x8.Op,x8.Name,x8.N,x8.Kids))))<|by kernel_rfl
  ·obtain rfl:=lf h
   exact ct KV (p7<|sg 0 c6<|eF (g9 (.inr ())) (dT names v p m (.inr ())))<|by kernel_rfl
 ·obtain rfl:=lf h
  exact ct KV (p2<|sg 0 c1<|eF (g9 (.inr ())) (dT names v p m (.inr ())))<|by kernel_rfl
end
section
variable(R83:j6)(names:waB)(v:waA)(p:aa)(t31:waA)(t32:Int)(m:waA)(out:waA)(t33:Int)
def e7:aq:=aP 48 [(1,sl cS names),(2,sl ac v),(3,.eptr (ac p)),(6,.bptr 1 0),(8,sl ac out),(31,sl ac t31),(32,.int .i64 t32),(33,.int .i64 t33)] [.dead,.cells [.int .i64 0,.str ([]:ai),.int .i64 0,sl ac m] [(3,28)]] [((8,0),28)]
def j4(o:waA):aq:=aP 48 [(3,.eptr (ac p)),(6,.bptr 1 0),(8,sl ac o)] [.dead,.cells [.int .i64 0,.str ([]:ai),.int .i64 0,sl ac m] [(3,28)]] [((8,0),28)]
def oz:Option ((waA×Int)⊕(waA)):=
 if(decide (t33<t32))=true then
  (eh t31 t33).bind fun x11=>
  (R83 x11 names v).bind fun r12=>
  (app out ([r12]:List aa)).bind fun l13=>
  some (.inl (l13,cf (t33+1)))
 else
  some (.inr out)
def mf:Option waA:=loop (fun(zz:waA×Int)=>oz R83 names v t31 t32 zz.1 zz.2) (out,t33)
theorem uM(hR83:nj R83){y:(waA×Int)⊕(waA)}(h:oz R83 names v t31 t32 out t33=some y):aC Pg GE 0 (cA Nd 247) (LQ (fun(zz:waA×Int)=>e7 names v p t31 t32 m zz.1 zz.2) (fun _=>.exit 0) (j4 p m) y) (e7 names v p t31 t32 m out t33):=by
 rcases aT h with⟨c10,h⟩|⟨c10,h⟩
 ·obtain⟨x11,bx11,h⟩:=av h
  obtain⟨r12,br12,h⟩:=av h
  obtain⟨l13,bl13,h⟩:=av h
  obtain rfl:=lf h
  have z:=sg 0 c10<|sv (aQ.ia (k:=.i64) bx11)<|sv (aB x11)<|sx dB<|sx (aW x11)<|sv (aD x11 [])<|bg (hR83 _ _ _ _ br12)<|sv (aQ.mk' (v:=b9) aV ([r12]:List aa) 1 (by kernel_rfl))<|sv (aQ.ap bl13)<|jw 0 .normal (e7 names v p t31 t32 m l13 (cf (t33+1))) rfl (bS (aI (up (ak hZ names)) (aI (up (ak ag v)) (aI (eu (ag p)) (aI (co rfl) (aI (up (ak ag l13)) (aI (up (ak ag t31)) (aI trivial (aI trivial trivial))))))))) (aI trivial (aI (aI trivial (aI trivial (aI trivial (aI (up (ak ag m)) trivial)))) trivial))
  exact cd (A:=KV) mixed z<|by kernel_rfl
 ·obtain rfl:=lf h
  have z:=sg 0 c10<|eF (.exit 0) (j4 p m out)
  exact gZ KV (by intro hx;cases hx) z<|by kernel_rfl
theorem wx(hR83:nj R83){x:waA}(h:mf R83 names v t31 t32 out t33=some x):aC Pg GE 0 (.loop (cA Nd 247)) (EX (.exit 0) (j4 p m x)) (e7 names v p t31 t32 m out t33):=
 aC.loop (S:=fun(zz:waA×Int)=>e7 names v p t31 t32 m zz.1 zz.2) (ex:=(fun _=>.exit 0)) (s:=(out,t33)) h fun zz y hy=>uM R83 names v p t31 t32 m zz.1 zz.2 hR83 hy
end
def j2(R83:j6)(p:aa)(names:waB)(a:waA):Option aa:=
 (jp names a p).bind fun o9=>match o9 with
 |(.inl o9)=>
  some (⟨o9.1,o9.2.1,o9.2.2.1,o9.2.2.2⟩:aa)
 |(.inr o9)=>
  (mf R83 names a p.Kids (p.Kids.length:Int) ([]:List aa) 0).bind fun o14=>
  (xA p o14).bind fun r15=>
  some r15
theorem zf(R83:j6)(hR83:nj R83){p:aa}{names:waB}{a:waA}{r:aa}(h:j2 R83 p names a=some r):CC Pg GE 90 [.agg (ac p),sl cS names,sl ac a] (.agg (ac r)) []:=by
 obtain⟨o9,bo9,h⟩:=av h
 rcases o9 with o9|o9
 ·obtain rfl:=lf h
  have z:=se (bj p)<|sx dB<|mG 0<|cC (e:=.ret) (s1:=dT names a p ([]:List aa) (.inl o9)) (np names a p ([]:List aa) bo9)<|en (aI (bR (⟨o9.1,o9.2.1,o9.2.2.1,o9.2.2.2⟩:aa))<|(ag (⟨o9.1,o9.2.1,o9.2.2.1,o9.2.2.2⟩:aa)))
  exact cb KV call90 func90 (c:=Nd) rfl (aI (ag p) (aI (ak hZ names) (aI (ak ag a) trivial))) z<|by kernel_rfl
 ·obtain⟨o14,bo14,h⟩:=av h
  obtain⟨r15,br15,h⟩:=av h
  obtain rfl:=lf h
  have z:=se (bj p)<|sx dB<|mG 0<|cC (e:=.normal) (s1:=dT names a p ([]:List aa) (.inr o9)) (np names a p ([]:List aa) bo9)<|sv (ay p)<|sv (az p)<|cx (aQ.ln p.Kids)<|cC (wx R83 names a p p.Kids (p.Kids.length:Int) ([]:List aa) ([]:List aa) 0 hR83 bo14)<|sv (aB p)<|bg (Ak br15)<|sx (aW r15)<|en (aI (bR r15)<|(ag r15))
  exact cb KV call90 func90 (c:=Nd) rfl (aI (ag p) (aI (ak hZ names) (aI (ak ag a) trivial))) z<|by kernel_rfl
def nn:((aa×waB×waA)->Option aa)->(aa×waB×waA)->Option aa:=fun(rec:(aa×waB×waA)->Option aa) (x:aa×waB×waA)=>j2 (fun p names a=>rec (p,names,a)) x.1 x.2.1 x.2.2
def qS(p:aa)(names:waB)(a:waA):Option aa:=kY nn (p,names,a)
theorem AR{p:aa}{names:waB}{a:waA}{r:aa}(h:qS p names a=some r):CC Pg GE 90 [.agg (ac p),sl cS names,sl ac a] (.agg (ac r)) []:=
 cw (F:=nn) (M:=fun(x:aa×waB×waA) (r:aa)=>CC Pg GE 90 [.agg (ac x.1),sl cS x.2.1,sl ac x.2.2] (.agg (ac r)) []) (fun rec hrec x r h=>zf _ (fun p names a r h=>hrec (p,names,a) r h) h) h
abbrev oC:=(aa->Option Int)
abbrev sQ(R:oC):Prop:=∀(p:aa) (r:Int),R p=some r->CC Pg GE 69 [.agg (ac p)] (.int .i64 r) []
noncomputable def OS:Code:=f69.body.getD .skip
def OH:List Nat:=[]
section
variable(R127:oC)(t7:waA)(t8:Int)(n:Int)(t9:Int)
def ib:aq:=aP 20 [(3,.int .i64 n),(7,sl ac t7),(8,.int .i64 t8),(9,.int .i64 t9)] [.dead] []
def nl(o:Int):aq:=aP 20 [(3,.int .i64 o)] [.dead] []
def s8:Option ((Int×Int)⊕(Int)):=
 if(decide (t9<t8))=true then
  (eh t7 t9).bind fun x2=>
  (R127 x2).bind fun r3=>
  some (.inl ((if r3>n then r3 else n),cf (t9+1)))
 else
  some (.inr n)
def qO:Option Int:=loop (fun(zz:Int×Int)=>s8 R127 t7 t8 zz.1 zz.2) (n,t9)
theorem zd(hR127:sQ R127){y:(Int×Int)⊕(Int)}(h:s8 R127 t7 t8 n t9=some y):aC Pg GE 0 (cA OS 119) (LQ (fun(zz:Int×Int)=>ib t7 t8 zz.1 zz.2) (fun _=>.exit 0) nl y) (ib t7 t8 n t9):=by
 rcases aT h with⟨c1,h⟩|⟨c1,h⟩
 ·obtain⟨x2,bx2,h⟩:=av h
  obtain⟨r3,br3,h⟩:=av h
  obtain rfl:=lf h
  have z:=sg 0 c1<|sv (aQ.ia (k:=.i64) bx2)<|sv (aB x2)<|sx dB<|sx (aW x2)<|sv (aD x2 [])<|bg (hR127 _ _ br3)<|jw 0 .normal (ib t7 t8 (if r3>n then r3 else n) (cf (t9+1))) rfl (bS (aI trivial (aI (up (ak ag t7)) (aI trivial (aI trivial trivial))))) (aI trivial trivial)
  exact cd (A:=OH) mixed z<|by kernel_rfl
 ·obtain rfl:=lf h
  have z:=sg 0 c1<|eF (.exit 0) (nl n)
  exact gZ OH (by intro hx;cases hx) z<|by kernel_rfl
theorem AN(hR127:sQ R127){x:Int}(h:qO R127 t7 t8 n t9=some x):aC Pg GE 0 (.loop (cA OS 119)) (EX (.exit 0) (nl x)) (ib t7 t8 n t9):=
 aC.loop (S:=fun(zz:Int×Int)=>ib t7 t8 zz.1 zz.2) (ex:=(fun _=>.exit 0)) (s:=(n,t9)) h fun zz y hy=>zd R127 t7 t8 zz.1 zz.2 hR127 hy
end
def oq(R127:oC)(p:aa):Option Int:=
 (qO R127 p.Kids (p.Kids.length:Int) 0 0).bind fun o4=>
 some (cf (o4+1))
theorem Dw(R127:oC)(hR127:sQ R127){p:aa}{r:Int}(h:oq R127 p=some r):CC Pg GE 69 [.agg (ac p)] (.int .i64 r) []:=by
 obtain⟨o4,bo4,h⟩:=av h
 obtain rfl:=lf h
 have z:=se (bj p)<|sv (ay p)<|sv (az p)<|cx (aQ.ln p.Kids)<|cC (AN R127 p.Kids (p.Kids.length:Int) 0 0 hR127 bo4)<|en (aI (rP (.int .i64 (cf (o4+1))))<|trivial)
 exact cb OH call69 func69 (c:=OS) rfl (aI (ag p) trivial) z<|by kernel_rfl
def s4:(aa->Option Int)->(aa)->Option Int:=fun(rec:aa->Option Int) (x:aa)=>oq (fun p=>rec p) x
def zc(p:aa):Option Int:=kY s4 p
theorem EM{p:aa}{r:Int}(h:zc p=some r):CC Pg GE 69 [.agg (ac p)] (.int .i64 r) []:=
 cw (F:=s4) (M:=fun(x:aa) (r:Int)=>CC Pg GE 69 [.agg (ac x)] (.int .i64 r) []) (fun rec hrec x r h=>Dw _ (fun p r h=>hrec p r h) h) h
end Go.Proofs.YtggeppllafbidaaGreatDoor
