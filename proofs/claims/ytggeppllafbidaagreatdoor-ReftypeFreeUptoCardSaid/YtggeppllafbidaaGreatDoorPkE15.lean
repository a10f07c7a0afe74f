/- PROVED: a part of the proof. Conditions: none. -/
import Derived.Test.YtggeppllafbidaaGreatDoorPkE14
import Derived.Test.YtggeppllafbidaaGreatDoorPkE8
import Derived.Test.YtggeppllafbidaaGreatDoorPkE7
noncomputable section
namespace Go.Proofs.YtggeppllafbidaaGreatDoor
open Go Go.Proofs.Tryz
set_option linter.unusedVariables false
set_option maxRecDepth 100000
noncomputable def OJ:Code:=f145.body.getD .skip
def Ng:List Nat:=[11,23]
section
variable(R128:su)(t13:waB)(t14:Int)(t15:Int)
def jx:ax:=aP 25 [(13,sl ac t13),(14,.int .i64 t14),(15,.int .i64 t15)] [.dead] []
def jy(o:Int⊕(Unit)):Exit:=match o with
 |(.inl _)=>.ret
 |(.inr _)=>.exit 0
def gU(o:Int⊕(Unit)):ax:=match o with
 |(.inl o)=>aP 25 [(2,.int .i64 o)] [.dead] []
 |(.inr o)=>aP 25 [] [.dead] []
def xe:Option (Int⊕(Int⊕(Unit))):=
 if(decide (t15<t14))=true then
  (dT t13 t15).bind fun x5=>
  (R128 x5).bind fun r6=>
  if(r6 !=0)=true then
   some (.inr (.inl r6))
  else
   some (.inl (bL (t15+1)))
 else
  some (.inr (.inr ()))
def uA:Option (Int⊕(Unit)):=loop (fun(zz:Int)=>xe R128 t13 t14 zz) t15
theorem Dh(hR128:yh R128){y:Int⊕(Int⊕(Unit))}(h:xe R128 t13 t14 t15=some y):aL Pg GE 0 (cA OJ 119) (LQ (fun(zz:Int)=>jx t13 t14 zz) jy gU y) (jx t13 t14 t15):=by
 rcases aJ h with⟨c4,h⟩|⟨c4,h⟩
 ·obtain⟨x5,bx5,h⟩:=ay h
  obtain⟨r6,br6,h⟩:=ay h
  have p8:=fun{sc F} (r:PS sc F)=>sg 0 c4<|sv (aZ.ia (k:=.i64) bx5)<|sv (aM x5)<|sx fY<|sx (cb x5)<|sv (bj x5 [])<|aX (hR128 _ _ br6)<|r
  rcases aJ h with⟨c7,h⟩|⟨c7,h⟩
  ·obtain rfl:=lf h
   have z:=p8<|sg 0 c7<|pq 0 (jy (.inl r6)) (gU (.inl r6)) rfl (cG (aI trivial trivial)) (aI trivial trivial)
   exact oM (A:=Ng) mixed (by intro hx;cases hx) z<|by kernel_rfl
  ·obtain rfl:=lf h
   have z:=p8<|sg 0 c7<|pq 0 .normal (jx t13 t14 (bL (t15+1))) rfl (cG (aI (up (aw ah t13)) (aI trivial (aI trivial trivial)))) (aI trivial trivial)
   exact cJ (A:=Ng) mixed z<|by kernel_rfl
 ·obtain rfl:=lf h
  have z:=sg 0 c4<|eF (jy (.inr ())) (gU (.inr ()))
  exact fG Ng (by intro hx;cases hx) z<|by kernel_rfl
theorem uB(hR128:yh R128){x:Int⊕(Unit)}(h:uA R128 t13 t14 t15=some x):aL Pg GE 0 (.loop (cA OJ 119)) (EX (jy x) (gU x)) (jx t13 t14 t15):=
 aL.loop (S:=fun(zz:Int)=>jx t13 t14 zz) (ex:=jy) (s:=t15) h fun zz y hy=>Dh R128 t13 t14 zz hR128 hy
end
def sh(R128:su)(p:aa):Option Int:=
 (zw p).bind fun r1=>
 if(r1 !=0)=true then
  some r1
 else
  (uA R128 p.Kids (p.Kids.length:Int) 0).bind fun o9=>match o9 with
  |(.inl o9)=>
   some o9
  |(.inr o9)=>
   some 0
theorem IE(R128:su)(hR128:yh R128){p:aa}{r:Int}(h:sh R128 p=some r):CC Pg GE 145 [.agg (ac p)] (.int .i64 r) []:=by
 obtain⟨r1,br1,h⟩:=ay h
 have p3:=fun{sc F} (r:PS sc F)=>se (bJ p)<|sv (aM p)<|aX (JX br1)<|r
 rcases aJ h with⟨c2,h⟩|⟨c2,h⟩
 ·obtain rfl:=lf h
  have z:=p3<|sg 0 c2<|en (aI (rP (.int .i64 r1))<|trivial)
  exact bo Ng call145 func145 (c:=OJ) rfl (aI (ah p) trivial) z<|by kernel_rfl
 ·obtain⟨o9,bo9,h⟩:=ay h
  rcases o9 with o9|o9
  ·obtain rfl:=lf h
   have z:=p3<|sg 0 c2<|sv (aG p)<|sv (aH p)<|cf (aZ.ln p.Kids)<|ct (e:=.ret) (s1:=gU (.inl o9)) (uB R128 p.Kids (p.Kids.length:Int) 0 hR128 bo9)<|en (aI (rP (.int .i64 o9))<|trivial)
   exact bo Ng call145 func145 (c:=OJ) rfl (aI (ah p) trivial) z<|by kernel_rfl
  ·obtain rfl:=lf h
   have z:=p3<|sg 0 c2<|sv (aG p)<|sv (aH p)<|cf (aZ.ln p.Kids)<|ct (e:=.exit 0) (s1:=gU (.inr o9)) (uB R128 p.Kids (p.Kids.length:Int) 0 hR128 bo9)<|en (aI (rP (.int .i64 0))<|trivial)
   exact bo Ng call145 func145 (c:=OJ) rfl (aI (ah p) trivial) z<|by kernel_rfl
def yq:(aa->Option Int)->(aa)->Option Int:=fun(rec:aa->Option Int) (x:aa)=>sh (fun p=>rec p) x
def EA(p:aa):Option Int:=lH yq p
theorem JW{p:aa}{r:Int}(h:EA p=some r):CC Pg GE 145 [.agg (ac p)] (.int .i64 r) []:=
 cC (F:=yq) (M:=fun(x:aa) (r:Int)=>CC Pg GE 145 [.agg (ac x)] (.int .i64 r) []) (fun rec hrec x r h=>IE _ (fun p r h=>hrec p r h) h) h
noncomputable def R9:Code:=f128.body.getD .skip
def RO:List Nat:=[]
def wd(p:aa):Option Int:=
 (nS p).bind fun r1=>
 if(decide (r1>400))=true then
  some 7
 else
  (Bh p).bind fun r4=>
  if(decide (r4>40))=true then
   some 8
  else
   (EA p).bind fun r7=>
   some r7
theorem IA{p:aa}{r:Int}(h:wd p=some r):CC Pg GE 128 [.agg (ac p)] (.int .i64 r) []:=by
 obtain⟨r1,br1,h⟩:=ay h
 have p3:=fun{sc F} (r:PS sc F)=>se (bJ p)<|sv (aM p)<|aX (nu br1)<|r
 rcases aJ h with⟨c2,h⟩|⟨c2,h⟩
 ·obtain rfl:=lf h
  have z:=p3<|sg 0 c2<|en (aI (rP (.int .i64 7))<|trivial)
  exact bo RO call128 func128 (c:=R9) rfl (aI (ah p) trivial) z<|by kernel_rfl
 ·obtain⟨r4,br4,h⟩:=ay h
  have p6:=fun{sc F} (r:PS sc F)=>p3<|sg 0 c2<|sv (aM p)<|aX (IB br4)<|r
  rcases aJ h with⟨c5,h⟩|⟨c5,h⟩
  ·obtain rfl:=lf h
   have z:=p6<|sg 0 c5<|en (aI (rP (.int .i64 8))<|trivial)
   exact bo RO call128 func128 (c:=R9) rfl (aI (ah p) trivial) z<|by kernel_rfl
  ·obtain⟨r7,br7,h⟩:=ay h
   obtain rfl:=lf h
   have z:=p6<|sg 0 c5<|sv (aM p)<|aX (JW br7)<|en (aI (rP (.int .i64 r7))<|trivial)
   exact bo RO call128 func128 (c:=R9) rfl (aI (ah p) trivial) z<|by kernel_rfl
noncomputable def E2:Code:=f104.body.getD .skip
def tK:List Nat:=[63]
section
variable(t:ae)
def G5:ax:=aP 65 [(1,.eptr (af t))] [.dead] []
def g8(o:Bool):ax:=aP 65 [(1,.eptr (af t)),(27,.bool o)] [.dead] []
def uW:Option Bool:=
 if (t.Op == 6) = true then
  (u5 t.Pred).bind fun r3=>
  if(!r3)=true then
   some true
  else
   if(t.Op !=4)=true then
    some (decide ((t.Preds.length:Int)>0))
   else
    some false
 else
  if(t.Op !=4)=true then
   some (decide ((t.Preds.length:Int)>0))
  else
   some false
theorem ET{x:Bool}(h:uW t=some x):aL Pg GE 0 (cA E2 12) (EX .normal (g8 t x)) (G5 t):=by
 have p2:=fun{sc F} (r:PS sc F)=>sv (aq t)<|sv (au t)<|r
 rcases aJ h with⟨c1,h⟩|⟨c1,h⟩
 ·obtain⟨r3,br3,h⟩:=ay h
  have p5:=fun{sc F} (r:PS sc F)=>p2<|sg 4 c1<|sv (bZ t)<|sv (b6 t)<|aX (Cu br3)<|r
  rcases aJ h with⟨c4,h⟩|⟨c4,h⟩
  ·obtain rfl:=lf h
   exact bm tK (p5<|sg 10 c4<|eF .normal (g8 t true))<|by kernel_rfl
  ·have p7:=fun{sc F} (r:PS sc F)=>p5<|sg 10 c4<|sv (aq t)<|sv (au t)<|r
   rcases aJ h with⟨c6,h⟩|⟨c6,h⟩
   ·obtain rfl:=lf h
    exact bm tK (p7<|sg 14 c6<|sv (bF t)<|sv (bG t)<|cf (aZ.ln t.Preds)<|eF .normal (g8 t (decide ((t.Preds.length:Int)>0))))<|by kernel_rfl
   ·obtain rfl:=lf h
    exact bm tK (p7<|sg 14 c6<|eF .normal (g8 t false))<|by kernel_rfl
 ·have p9:=fun{sc F} (r:PS sc F)=>p2<|sg 4 c1<|sv (aq t)<|sv (au t)<|r
  rcases aJ h with⟨c8,h⟩|⟨c8,h⟩
  ·obtain rfl:=lf h
   exact bm tK (p9<|sg 14 c8<|sv (bF t)<|sv (bG t)<|cf (aZ.ln t.Preds)<|eF .normal (g8 t (decide ((t.Preds.length:Int)>0))))<|by kernel_rfl
  ·obtain rfl:=lf h
   exact bm tK (p9<|sg 14 c8<|eF .normal (g8 t false))<|by kernel_rfl
end
section
variable(t:ae)(t29:waA)(t30:Int)(t31:Int)
def jJ:ax:=aP 65 [(1,.eptr (af t)),(29,sl cS t29),(30,.int .i64 t30),(31,.int .i64 t31)] [.dead] []
def jK(o:Unit⊕(Unit)):Exit:=match o with
 |(.inl _)=>.ret
 |(.inr _)=>.exit 0
def g9(o:Unit⊕(Unit)):ax:=match o with
 |(.inl o)=>aP 65 [(2,.int .i64 3)] [.dead] []
 |(.inr o)=>aP 65 [(1,.eptr (af t))] [.dead] []
def xj:Option (Int⊕(Unit⊕(Unit))):=
 if(decide (t31<t30))=true then
  (dT t29 t31).bind fun x14=>
  (lC x14).bind fun r15=>
  if(r15 !=0)=true then
   some (.inr (.inl ()))
  else
   some (.inl (bL (t31+1)))
 else
  some (.inr (.inr ()))
def uY:Option (Unit⊕(Unit)):=loop (fun(zz:Int)=>xj t29 t30 zz) t31
theorem Do{y:Int⊕(Unit⊕(Unit))}(h:xj t29 t30 t31=some y):aL Pg GE 0 (cA E2 119) (LQ (fun(zz:Int)=>jJ t t29 t30 zz) jK (g9 t) y) (jJ t t29 t30 t31):=by
 rcases aJ h with⟨c13,h⟩|⟨c13,h⟩
 ·obtain⟨x14,bx14,h⟩:=ay h
  obtain⟨r15,br15,h⟩:=ay h
  have p17:=fun{sc F} (r:PS sc F)=>sg 0 c13<|sv (bh.ia (k:=.i64) bx14)<|sv (dB Cb (.str x14) [])<|aX (zp br15)<|r
  rcases aJ h with⟨c16,h⟩|⟨c16,h⟩
  ·obtain rfl:=lf h
   have z:=p17<|sg 0 c16<|eF (jK (.inl ())) (g9 t (.inl ()))
   exact fG tK (by intro hx;cases hx) z<|by kernel_rfl
  ·obtain rfl:=lf h
   exact pZ tK (p17<|sg 0 c16<|eF .normal (jJ t t29 t30 (bL (t31+1))))<|by kernel_rfl
 ·obtain rfl:=lf h
  have z:=sg 0 c13<|eF (jK (.inr ())) (g9 t (.inr ()))
  exact fG tK (by intro hx;cases hx) z<|by kernel_rfl
theorem uZ{x:Unit⊕(Unit)}(h:uY t29 t30 t31=some x):aL Pg GE 0 (.loop (cA E2 119)) (EX (jK x) (g9 t x)) (jJ t t29 t30 t31):=
 aL.loop (S:=fun(zz:Int)=>jJ t t29 t30 zz) (ex:=jK) (s:=t31) h fun zz y hy=>Do t t29 t30 zz hy
end
section
variable(e:Int)(t48:waB)(t49:Int)(t50:Int)(m:Int)(m2:ag)(m3:Int)(m4:waB)
def G6:ax:=aP 65 [(6,.bptr 1 0),(7,.int .i64 e),(48,sl ac t48),(49,.int .i64 t49),(50,.int .i64 t50)] [.dead,.cells [.int .i64 m,.str m2,.int .i64 m3,sl ac m4] []] [((48,0),28)]
def qB(o:Bool):ax:=aP 65 [(7,.int .i64 e),(48,sl ac t48),(49,.int .i64 t49),(50,.int .i64 t50),(62,.bool o)] [.dead,.cells [.int .i64 m,.str m2,.int .i64 m3,sl ac m4] []] [((48,0),28)]
def uX:Option Bool:=
 (u5 (⟨m,m2,m3,m4⟩:aa)).bind fun r26=>
 if(!r26)=true then
  some (e !=0)
 else
  some false
theorem EU{x:Bool}(h:uX e m m2 m3 m4=some x):aL Pg GE 0 (cA E2 64494) (EX .normal (qB e t48 t49 t50 m m2 m3 m4 x)) (G6 e t48 t49 t50 m m2 m3 m4):=by
 obtain⟨r26,br26,h⟩:=ay h
 have p28:=fun{sc F} (r:PS sc F)=>sv (bj (⟨m,m2,m3,m4⟩:aa) [])<|aX (Cu br26)<|r
 rcases aJ h with⟨c27,h⟩|⟨c27,h⟩
 ·obtain rfl:=lf h
  exact bm tK (p28<|sg 4 c27<|eF .normal (qB e t48 t49 t50 m m2 m3 m4 (e !=0)))<|by kernel_rfl
 ·obtain rfl:=lf h
  exact bm tK (p28<|sg 4 c27<|eF .normal (qB e t48 t49 t50 m m2 m3 m4 false))<|by kernel_rfl
end
section
variable(t48:waB)(t49:Int)(t50:Int)
def jL:ax:=aP 65 [(48,sl ac t48),(49,.int .i64 t49),(50,.int .i64 t50)] [.dead] [((48,0),28)]
def jM(o:Int⊕(Unit)):Exit:=match o with
 |(.inl _)=>.ret
 |(.inr _)=>.exit 2
def hO(o:Int⊕(Unit)):ax:=match o with
 |(.inl o)=>aP 65 [(2,.int .i64 o)] [.dead] []
 |(.inr o)=>aP 65 [] [.dead] []
def xk:Option (Int⊕(Int⊕(Unit))):=
 if(decide (t50<t49))=true then
  (dT t48 t50).bind fun x24=>
  (wd x24).bind fun r25=>
  (uX r25 x24.Op x24.Name x24.N x24.Kids).bind fun o29=>
  if o29=true then
   some (.inr (.inl r25))
  else
   some (.inl (bL (t50+1)))
 else
  some (.inr (.inr ()))
def u3:Option (Int⊕(Unit)):=loop (fun(zz:Int)=>xk t48 t49 zz) t50
theorem Dp{y:Int⊕(Int⊕(Unit))}(h:xk t48 t49 t50=some y):aL Pg GE 0 (cA E2 503) (LQ (fun(zz:Int)=>jL t48 t49 zz) jM hO y) (jL t48 t49 t50):=by
 rcases aJ h with⟨c23,h⟩|⟨c23,h⟩
 ·obtain⟨x24,bx24,h⟩:=ay h
  obtain⟨r25,br25,h⟩:=ay h
  obtain⟨o29,bo29,h⟩:=ay h
  have p31:=fun{sc F} (r:PS sc F)=>sg 0 c23<|sv (aZ.ia (k:=.i64) bx24)<|sv (aM x24)<|sx fY<|sx (cb x24)<|sv (bj x24 [])<|aX (IA br25)<|iO 0<|ct (EU r25 t48 t49 t50 x24.Op x24.Name x24.N x24.Kids bo29)<|r
  rcases aJ h with⟨c30,h⟩|⟨c30,h⟩
  ·obtain rfl:=lf h
   have z:=p31<|sg 0 c30<|pq 0 (jM (.inl r25)) (hO (.inl r25)) rfl (cG (aI trivial trivial)) (aI trivial trivial)
   exact oM (A:=tK) mixed (by intro hx;cases hx) z<|by kernel_rfl
  ·obtain rfl:=lf h
   have z:=p31<|sg 0 c30<|pq 0 .normal (jL t48 t49 (bL (t50+1))) rfl (cG (aI (up (aw ah t48)) (aI trivial (aI trivial trivial)))) (aI trivial trivial)
   exact cJ (A:=tK) mixed z<|by kernel_rfl
 ·obtain rfl:=lf h
  have z:=sg 0 c23<|eF (jM (.inr ())) (hO (.inr ()))
  exact fG tK (by intro hx;cases hx) z<|by kernel_rfl
theorem u4{x:Int⊕(Unit)}(h:u3 t48 t49 t50=some x):aL Pg GE 0 (.loop (cA E2 503)) (EX (jM x) (hO x)) (jL t48 t49 t50):=
 aL.loop (S:=fun(zz:Int)=>jL t48 t49 zz) (ex:=jM) (s:=t50) h fun zz y hy=>Dp t48 t49 zz hy
end
def zy(t:ae):Option Int:=
 (uW t).bind fun o10=>
 if o10=true then
  some 1
 else
  (uY t.Names (t.Names.length:Int) 0).bind fun o18=>match o18 with
  |(.inl o18)=>
   some 3
  | (.inr o18) =>
   (nq t.Names).bind fun r19=>
   if(!r19)=true then
    some 4
   else
    (app ([t.Pred]:List aa) t.Preds).bind fun l22=>
    (u3 l22 (l22.length:Int) 0).bind fun o32=>match o32 with
    |(.inl o32)=>
     some o32
    |(.inr o32)=>
     some 0
theorem J2{t:ae}{r:Int}(h:zy t=some r):CC Pg GE 104 [.agg (af t)] (.int .i64 r) []:=by
 obtain⟨o10,bo10,h⟩:=ay h
 have p12:=fun{sc F} (r:PS sc F)=>se (bR t)<|iO 1<|ct (ET t bo10)<|r
 rcases aJ h with⟨c11,h⟩|⟨c11,h⟩
 ·obtain rfl:=lf h
  have z:=p12<|sg 0 c11<|en (aI (rP (.int .i64 1))<|trivial)
  exact bo tK call104 func104 (c:=E2) rfl (aI (al t) trivial) z<|by kernel_rfl
 ·obtain⟨o18,bo18,h⟩:=ay h
  rcases o18 with o18|o18
  ·obtain rfl:=lf h
   have z:=p12<|sg 0 c11<|sv (aN t)<|sv (aO t)<|cf (bh.ln t.Names)<|ct (e:=.ret) (s1:=g9 t (.inl o18)) (uZ t t.Names (t.Names.length:Int) 0 bo18)<|en (aI (rP (.int .i64 3))<|trivial)
   exact bo tK call104 func104 (c:=E2) rfl (aI (al t) trivial) z<|by kernel_rfl
  ·obtain⟨r19,br19,h⟩:=ay h
   have p21:=fun{sc F} (r:PS sc F)=>p12<|sg 0 c11<|sv (aN t)<|sv (aO t)<|cf (bh.ln t.Names)<|ct (e:=.exit 0) (s1:=g9 t (.inr o18)) (uZ t t.Names (t.Names.length:Int) 0 bo18)<|sv (aN t)<|sv (aO t)<|aX (C2 br19)<|r
   rcases aJ h with⟨c20,h⟩|⟨c20,h⟩
   ·obtain rfl:=lf h
    have z:=p21<|sg 0 c20<|en (aI (rP (.int .i64 4))<|trivial)
    exact bo tK call104 func104 (c:=E2) rfl (aI (al t) trivial) z<|by kernel_rfl
   ·obtain⟨l22,bl22,h⟩:=ay h
    obtain⟨o32,bo32,h⟩:=ay h
    rcases o32 with o32|o32
    ·obtain rfl:=lf h
     have z:=p21<|sg 0 c20<|sv (bZ t)<|sv (b6 t)<|sv (aZ.mk' (v:=cu) bK ([t.Pred]:List aa) 1 (by kernel_rfl))<|sv (bF t)<|sv (bG t)<|sv (aZ.ap bl22)<|cf (aZ.ln l22)<|ct (e:=.ret) (s1:=hO (.inl o32)) (u4 l22 (l22.length:Int) 0 bo32)<|en (aI (rP (.int .i64 o32))<|trivial)
     exact bo tK call104 func104 (c:=E2) rfl (aI (al t) trivial) z<|by kernel_rfl
    ·obtain rfl:=lf h
     have z:=p21<|sg 0 c20<|sv (bZ t)<|sv (b6 t)<|sv (aZ.mk' (v:=cu) bK ([t.Pred]:List aa) 1 (by kernel_rfl))<|sv (bF t)<|sv (bG t)<|sv (aZ.ap bl22)<|cf (aZ.ln l22)<|ct (e:=.exit 2) (s1:=hO (.inr o32)) (u4 l22 (l22.length:Int) 0 bo32)<|en (aI (rP (.int .i64 0))<|trivial)
     exact bo tK call104 func104 (c:=E2) rfl (aI (al t) trivial) z<|by kernel_rfl
noncomputable def TH:Code:=f63.body.getD .skip
def SV:List Nat:=[11,23]
section
variable(R123:sC)(t13:waC)(t14:Int)(t15:Int)
def jH:ax:=aP 25 [(13,sl af t13),(14,.int .i64 t14),(15,.int .i64 t15)] [.dead] []
def jI(o:Int⊕(Unit)):Exit:=match o with
 |(.inl _)=>.ret
 |(.inr _)=>.exit 0
def g7(o:Int⊕(Unit)):ax:=match o with
 |(.inl o)=>aP 25 [(2,.int .i64 o)] [.dead] []
 |(.inr o)=>aP 25 [] [.dead] []
def xi:Option (Int⊕(Int⊕(Unit))):=
 if(decide (t15<t14))=true then
  (dT t13 t15).bind fun x5=>
  (R123 x5).bind fun r6=>
  if(r6 !=0)=true then
   some (.inr (.inl r6))
  else
   some (.inl (bL (t15+1)))
 else
  some (.inr (.inr ()))
def uU:Option (Int⊕(Unit)):=loop (fun(zz:Int)=>xi R123 t13 t14 zz) t15
theorem Dn(hR123:yl R123){y:Int⊕(Int⊕(Unit))}(h:xi R123 t13 t14 t15=some y):aL Pg GE 0 (cA TH 119) (LQ (fun(zz:Int)=>jH t13 t14 zz) jI g7 y) (jH t13 t14 t15):=by
 rcases aJ h with⟨c4,h⟩|⟨c4,h⟩
 ·obtain⟨x5,bx5,h⟩:=ay h
  obtain⟨r6,br6,h⟩:=ay h
  have p8:=fun{sc F} (r:PS sc F)=>sg 0 c4<|sv (cO.ia (k:=.i64) bx5)<|sv (aV x5)<|sx jc<|sx (cQ x5)<|sv (bw x5 [])<|aX (hR123 _ _ br6)<|r
  rcases aJ h with⟨c7,h⟩|⟨c7,h⟩
  ·obtain rfl:=lf h
   have z:=p8<|sg 0 c7<|pq 0 (jI (.inl r6)) (g7 (.inl r6)) rfl (cG (aI trivial trivial)) (aI trivial trivial)
   exact oM (A:=SV) mixed (by intro hx;cases hx) z<|by kernel_rfl
  ·obtain rfl:=lf h
   have z:=p8<|sg 0 c7<|pq 0 .normal (jH t13 t14 (bL (t15+1))) rfl (cG (aI (up (aw al t13)) (aI trivial (aI trivial trivial)))) (aI trivial trivial)
   exact cJ (A:=SV) mixed z<|by kernel_rfl
 ·obtain rfl:=lf h
  have z:=sg 0 c4<|eF (jI (.inr ())) (g7 (.inr ()))
  exact fG SV (by intro hx;cases hx) z<|by kernel_rfl
theorem uV(hR123:yl R123){x:Int⊕(Unit)}(h:uU R123 t13 t14 t15=some x):aL Pg GE 0 (.loop (cA TH 119)) (EX (jI x) (g7 x)) (jH t13 t14 t15):=
 aL.loop (S:=fun(zz:Int)=>jH t13 t14 zz) (ex:=jI) (s:=t15) h fun zz y hy=>Dn R123 t13 t14 zz hR123 hy
end
def sm(R123:sC)(t:ae):Option Int:=
 (zy t).bind fun r1=>
 if(r1 !=0)=true then
  some r1
 else
  (uU R123 t.Args (t.Args.length:Int) 0).bind fun o9=>match o9 with
  |(.inl o9)=>
   some o9
  |(.inr o9)=>
   some 0
theorem IM(R123:sC)(hR123:yl R123){t:ae}{r:Int}(h:sm R123 t=some r):CC Pg GE 63 [.agg (af t)] (.int .i64 r) []:=by
 obtain⟨r1,br1,h⟩:=ay h
 have p3:=fun{sc F} (r:PS sc F)=>se (bR t)<|sv (aV t)<|aX (J2 br1)<|r
 rcases aJ h with⟨c2,h⟩|⟨c2,h⟩
 ·obtain rfl:=lf h
  have z:=p3<|sg 0 c2<|en (aI (rP (.int .i64 r1))<|trivial)
  exact bo SV call63 func63 (c:=TH) rfl (aI (al t) trivial) z<|by kernel_rfl
 ·obtain⟨o9,bo9,h⟩:=ay h
  rcases o9 with o9|o9
  ·obtain rfl:=lf h
   have z:=p3<|sg 0 c2<|sv (aA t)<|sv (aB t)<|cf (cO.ln t.Args)<|ct (e:=.ret) (s1:=g7 (.inl o9)) (uV R123 t.Args (t.Args.length:Int) 0 hR123 bo9)<|en (aI (rP (.int .i64 o9))<|trivial)
   exact bo SV call63 func63 (c:=TH) rfl (aI (al t) trivial) z<|by kernel_rfl
  ·obtain rfl:=lf h
   have z:=p3<|sg 0 c2<|sv (aA t)<|sv (aB t)<|cf (cO.ln t.Args)<|ct (e:=.exit 0) (s1:=g7 (.inr o9)) (uV R123 t.Args (t.Args.length:Int) 0 hR123 bo9)<|en (aI (rP (.int .i64 0))<|trivial)
   exact bo SV call63 func63 (c:=TH) rfl (aI (al t) trivial) z<|by kernel_rfl
def yu:(ae->Option Int)->(ae)->Option Int:=fun(rec:ae->Option Int) (x:ae)=>sm (fun t=>rec t) x
def ES(t:ae):Option Int:=lH yu t
theorem J1{t:ae}{r:Int}(h:ES t=some r):CC Pg GE 63 [.agg (af t)] (.int .i64 r) []:=
 cC (F:=yu) (M:=fun(x:ae) (r:Int)=>CC Pg GE 63 [.agg (af x)] (.int .i64 r) []) (fun rec hrec x r h=>IM _ (fun t r h=>hrec t r h) h) h
noncomputable def Vy:Code:=f27.body.getD .skip
def Vn:List Nat:=[8]
def wj(t:ae):Option Int:=
 (wh t).bind fun r1=>
 if(r1 !=0)=true then
  some r1
 else
  (ES t).bind fun r4=>
  some r4
theorem IK{t:ae}{r:Int}(h:wj t=some r):CC Pg GE 27 [.agg (af t)] (.int .i64 r) []:=by
 obtain⟨r1,br1,h⟩:=ay h
 have p3:=fun{sc F} (r:PS sc F)=>se (bR t)<|sv (aV t)<|aX (IG br1)<|r
 rcases aJ h with⟨c2,h⟩|⟨c2,h⟩
 ·obtain rfl:=lf h
  have z:=p3<|sg 0 c2<|en (aI (rP (.int .i64 r1))<|trivial)
  exact bo Vn call27 func27 (c:=Vy) rfl (aI (al t) trivial) z<|by kernel_rfl
 ·obtain⟨r4,br4,h⟩:=ay h
  obtain rfl:=lf h
  have z:=p3<|sg 0 c2<|sv (aV t)<|aX (J1 br4)<|en (aI (rP (.int .i64 r4))<|trivial)
  exact bo Vn call27 func27 (c:=Vy) rfl (aI (al t) trivial) z<|by kernel_rfl
abbrev sw:=(ae->ae->Option Bool)
abbrev yi(R:sw):Prop:=∀(a:ae) (a2:ae) (r:Bool),R a a2=some r->CC Pg GE 31 [.agg (af a),.agg (af a2)] (.bool r) []
noncomputable def SY:Code:=f31.body.getD .skip
def Qh:List Nat:=[32]
section
variable(v:ae)(v2:ae)
def GZ:ax:=aP 46 [(2,.eptr (af v)),(3,.eptr (af v2))] [.dead,.dead] []
def me(o:Bool):ax:=aP 46 [(2,.eptr (af v)),(3,.eptr (af v2)),(26,.bool o)] [.dead,.dead] []
def uI:Option Bool:=
 if(v.Op !=v2.Op)=true then
  some true
 else
  if(!(v.Name==v2.Name))=true then
   some true
  else
   some ((v.Args.length:Int)!=(v2.Args.length:Int))
theorem EJ{x:Bool}(h:uI v v2=some x):aL Pg GE 0 (cA SY 12) (EX .normal (me v v2 x)) (GZ v v2):=by
 have p2:=fun{sc F} (r:PS sc F)=>sv (aq v)<|sv (au v)<|sv (aq v2)<|sv (au v2)<|r
 rcases aJ h with⟨c1,h⟩|⟨c1,h⟩
 ·obtain rfl:=lf h
  exact bm Qh (p2<|sg 6 c1<|eF .normal (me v v2 true))<|by kernel_rfl
 ·have p4:=fun{sc F} (r:PS sc F)=>p2<|sg 6 c1<|sv (ch v)<|sv (cn v)<|sv (ch v2)<|sv (cn v2)<|r
  rcases aJ h with⟨c3,h⟩|⟨c3,h⟩
  ·obtain rfl:=lf h
   exact bm Qh (p4<|sg 13 c3<|eF .normal (me v v2 true))<|by kernel_rfl
  ·obtain rfl:=lf h
   exact bm Qh (p4<|sg 13 c3<|sv (aA v)<|sv (aB v)<|cf (cO.ln v.Args)<|sv (aA v2)<|sv (aB v2)<|cf (cO.ln v2.Args)<|eF .normal (me v v2 ((v.Args.length:Int)!=(v2.Args.length:Int))))<|by kernel_rfl
end
section
variable(R134:sw)(v:ae)(v2:ae)(t29:Int)(t30:Int)
def jz:ax:=aP 46 [(2,.eptr (af v)),(3,.eptr (af v2)),(29,.int .i64 t29),(30,.int .i64 t30)] [.dead,.dead] []
def jA(o:Unit⊕(Unit)):Exit:=match o with
 |(.inl _)=>.ret
 |(.inr _)=>.exit 0
def gV(o:Unit⊕(Unit)):ax:=match o with
 |(.inl o)=>aP 46 [(4,.bool false)] [.dead,.dead] []
 |(.inr o)=>aP 46 [] [.dead,.dead] []
def qz:Option (Int⊕(Unit⊕(Unit))):=
 if(decide (t30<t29))=true then
  (dT v.Args t30).bind fun x9=>
  (dT v2.Args t30).bind fun x10=>
  (R134 x9 x10).bind fun r11=>
  if(!r11)=true then
   some (.inr (.inl ()))
  else
   some (.inl (bL (t30+1)))
 else
  some (.inr (.inr ()))
def uJ:Option (Unit⊕(Unit)):=loop (fun(zz:Int)=>qz R134 v v2 t29 zz) t30
theorem Dj(hR134:yi R134){y:Int⊕(Unit⊕(Unit))}(h:qz R134 v v2 t29 t30=some y):aL Pg GE 0 (cA SY 119) (LQ (fun(zz:Int)=>jz v v2 t29 zz) jA gV y) (jz v v2 t29 t30):=by
 rcases aJ h with⟨c8,h⟩|⟨c8,h⟩
 ·obtain⟨x9,bx9,h⟩:=ay h
  obtain⟨x10,bx10,h⟩:=ay h
  obtain⟨r11,br11,h⟩:=ay h
  have p13:=fun{sc F} (r:PS sc F)=>sg 0 c8<|ze [0,1,0,7,15,0,32,0,224,480,1023,2047]<|sv (aA v)<|sv (aB v)<|sv (cO.ia (k:=.i64) bx9)<|sv (aV x9)<|sv (aA v2)<|sv (aB v2)<|sv (cO.ia (k:=.i64) bx10)<|sv (aV x10)<|aX (hR134 _ _ _ br11)<|r
  rcases aJ h with⟨c12,h⟩|⟨c12,h⟩
  ·obtain rfl:=lf h
   have z:=p13<|sg 0 c12<|eF (jA (.inl ())) (gV (.inl ()))
   exact fG Qh (by intro hx;cases hx) z<|by kernel_rfl
  ·obtain rfl:=lf h
   exact pZ Qh (p13<|sg 0 c12<|eF .normal (jz v v2 t29 (bL (t30+1))))<|by kernel_rfl
 ·obtain rfl:=lf h
  have z:=sg 0 c8<|eF (jA (.inr ())) (gV (.inr ()))
  exact fG Qh (by intro hx;cases hx) z<|by kernel_rfl
theorem uK(hR134:yi R134){x:Unit⊕(Unit)}(h:uJ R134 v v2 t29 t30=some x):aL Pg GE 0 (.loop (cA SY 119)) (EX (jA x) (gV x)) (jz v v2 t29 t30):=
 aL.loop (S:=fun(zz:Int)=>jz v v2 t29 zz) (ex:=jA) (s:=t30) h fun zz y hy=>Dj R134 v v2 t29 zz hR134 hy
end
def sj(R134:sw)(a:ae)(a2:ae):Option Bool:=
 (uI a a2).bind fun o5=>
 if o5=true then
  some false
 else
  (uJ R134 a a2 (a.Args.length:Int) 0).bind fun o14=>match o14 with
  |(.inl o14)=>
   some false
  |(.inr o14)=>
   some true
theorem II(R134:sw)(hR134:yi R134){a:ae}{a2:ae}{r:Bool}(h:sj R134 a a2=some r):CC Pg GE 31 [.agg (af a),.agg (af a2)] (.bool r) []:=by
 obtain⟨o5,bo5,h⟩:=ay h
 have p7:=fun{sc F} (r:PS sc F)=>se (bR a)<|se (bR a2)<|iO 1<|ct (EJ a a2 bo5)<|r
 rcases aJ h with⟨c6,h⟩|⟨c6,h⟩
 ·obtain rfl:=lf h
  have z:=p7<|sg 0 c6<|en (aI (rP (.bool false))<|trivial)
  exact bo Qh call31 func31 (c:=SY) rfl (aI (al a) (aI (al a2) trivial)) z<|by kernel_rfl
 ·obtain⟨o14,bo14,h⟩:=ay h
  rcases o14 with o14|o14
  ·obtain rfl:=lf h
   have z:=p7<|sg 0 c6<|sv (aA a)<|sv (aB a)<|cf (cO.ln a.Args)<|ct (e:=.ret) (s1:=gV (.inl o14)) (uK R134 a a2 (a.Args.length:Int) 0 hR134 bo14)<|en (aI (rP (.bool false))<|trivial)
   exact bo Qh call31 func31 (c:=SY) rfl (aI (al a) (aI (al a2) trivial)) z<|by kernel_rfl
  ·obtain rfl:=lf h
   have z:=p7<|sg 0 c6<|sv (aA a)<|sv (aB a)<|cf (cO.ln a.Args)<|ct (e:=.exit 0) (s1:=gV (.inr o14)) (uK R134 a a2 (a.Args.length:Int) 0 hR134 bo14)<|en (aI (rP (.bool true))<|trivial)
   exact bo Qh call31 func31 (c:=SY) rfl (aI (al a) (aI (al a2) trivial)) z<|by kernel_rfl
def yr:((ae×ae)->Option Bool)->(ae×ae)->Option Bool:=fun(rec:(ae×ae)->Option Bool) (x:ae×ae)=>sj (fun a a2=>rec (a,a2)) x.1 x.2
def EI(a:ae)(a2:ae):Option Bool:=lH yr (a,a2)
theorem JY{a:ae}{a2:ae}{r:Bool}(h:EI a a2=some r):CC Pg GE 31 [.agg (af a),.agg (af a2)] (.bool r) []:=
 cC (F:=yr) (M:=fun(x:ae×ae) (r:Bool)=>CC Pg GE 31 [.agg (af x.1),.agg (af x.2)] (.bool r) []) (fun rec hrec x r h=>II _ (fun a a2 r h=>hrec (a,a2) r h) h) h
noncomputable def b5:Code:=Tryz.f5.body.getD .skip
def A5:List Nat:=[69,82]
section
variable(name:ag)(t:ae)(v:aa)
def u6:ax:=aP 95 [(1,.str name),(3,.eptr (af t)),(5,.eptr (ac v))] [.dead,.dead] []
def dQ(o:Bool):ax:=aP 95 [(1,.str name),(3,.eptr (af t)),(5,.eptr (ac v)),(32,.bool o)] [.dead,.dead] []
def gb:Option Bool:=
 (IQ ([t]:List ae)).bind fun r1=>
 if(!r1)=true then
  some true
 else
  (nS v).bind fun r4=>
  if(decide (r4>30))=true then
   some true
  else
   if(name==([118]:ag))=true then
    some true
   else
    (wj t).bind fun r9=>
    some (r9 !=0)
theorem tM{x:Bool}(h:gb name t v=some x):aL Pg GE 0 (cA b5 12) (EX .normal (dQ name t v x)) (u6 name t v):=by
 obtain⟨r1,br1,h⟩:=ay h
 have p3:=fun{sc F} (r:PS sc F)=>sv (aV t)<|sv (cO.mk' (v:=wJ) ri ([t]:List ae) 1 (by kernel_rfl))<|aX (Lk br1)<|r
 rcases aJ h with⟨c2,h⟩|⟨c2,h⟩
 ·obtain rfl:=lf h
  exact bm A5 (p3<|sg 5 c2<|eF .normal (dQ name t v true))<|by kernel_rfl
 ·obtain⟨r4,br4,h⟩:=ay h
  have p6:=fun{sc F} (r:PS sc F)=>p3<|sg 5 c2<|sv (aM v)<|aX (nu br4)<|r
  rcases aJ h with⟨c5,h⟩|⟨c5,h⟩
  ·obtain rfl:=lf h
   exact bm A5 (p6<|sg 10 c5<|eF .normal (dQ name t v true))<|by kernel_rfl
  ·have p8:=fun{sc F} (r:PS sc F)=>p6<|sg 10 c5<|r
   rcases aJ h with⟨c7,h⟩|⟨c7,h⟩
   ·obtain rfl:=lf h
    exact bm A5 (p8<|sg 14 c7<|eF .normal (dQ name t v true))<|by kernel_rfl
   ·obtain⟨r9,br9,h⟩:=ay h
    obtain rfl:=lf h
    exact bm A5 (p8<|sg 14 c7<|sv (aV t)<|aX (IK br9)<|eF .normal (dQ name t v (r9 !=0)))<|by kernel_rfl
end
section
variable(name:ag)(came:waA)(t60:waA)(t61:Int)(m:Int)(m2:ag)(m3:waC)(m4:waA)(m5:Int)(m6:ag)(m7:Int)(m8:waB)(m9:waB)(want:waA)(t62:Int)
def cZ:ax:=aP 95 [(1,.str name),(7,.bptr 2 0),(9,sl cS came),(10,sl cS want),(60,sl cS t60),(61,.int .i64 t61),(62,.int .i64 t62)] [.dead,.dead,.cells [.int .i64 m,.str m2,sl af m3,sl cS m4,.int .i64 m5,.str m6,.int .i64 m7,sl ac m8,sl ac m9] [(2,30)]] [((60,0),9),((10,0),9),((9,0),9)]
def iB(o:waA):ax:=aP 95 [(7,.bptr 2 0),(9,sl cS came),(10,sl cS o)] [.dead,.dead,.cells [.int .i64 m,.str m2,sl af m3,sl cS m4,.int .i64 m5,.str m6,.int .i64 m7,sl ac m8,sl ac m9] [(2,30)]] [((10,0),9),((9,0),9)]
def dR:Option ((waA×Int)⊕(waA)):=
 if(decide (t62<t61))=true then
  (dT t60 t62).bind fun x31=>
  if(!(x31==name))=true then
   (app want ([x31]:List ag)).bind fun l34=>
   some (.inl (l34,bL (t62+1)))
  else
   some (.inl (want,bL (t62+1)))
 else
  some (.inr want)
def j8:Option waA:=loop (fun(zz:waA×Int)=>dR name t60 t61 zz.1 zz.2) (want,t62)
theorem sD{y:(waA×Int)⊕(waA)}(h:dR name t60 t61 want t62=some y):aL Pg GE 0 (cA b5 8183) (LQ (fun(zz:waA×Int)=>cZ name came t60 t61 m m2 m3 m4 m5 m6 m7 m8 m9 zz.1 zz.2) (fun _=>.exit 0) (iB came m m2 m3 m4 m5 m6 m7 m8 m9) y) (cZ name came t60 t61 m m2 m3 m4 m5 m6 m7 m8 m9 want t62):=by
 rcases aJ h with⟨c30,h⟩|⟨c30,h⟩
 ·obtain⟨x31,bx31,h⟩:=ay h
  have p33:=fun{sc F} (r:PS sc F)=>sg 0 c30<|sv (bh.ia (k:=.i64) bx31)<|sv (dB Cb (.str x31) [])<|r
  rcases aJ h with⟨c32,h⟩|⟨c32,h⟩
  ·obtain⟨l34,bl34,h⟩:=ay h
   obtain rfl:=lf h
   exact pZ A5 (p33<|sg 0 c32<|sv (bh.mk' (v:=PVal.str) D8 ([x31]:List ag) 1 (by kernel_rfl))<|sv (bh.ap bl34)<|eF .normal (cZ name came t60 t61 m m2 m3 m4 m5 m6 m7 m8 m9 l34 (bL (t62+1))))<|by kernel_rfl
  ·obtain rfl:=lf h
   exact pZ A5 (p33<|sg 0 c32<|eF .normal (cZ name came t60 t61 m m2 m3 m4 m5 m6 m7 m8 m9 want (bL (t62+1))))<|by kernel_rfl
 ·obtain rfl:=lf h
  have z:=sg 0 c30<|eF (.exit 0) (iB came m m2 m3 m4 m5 m6 m7 m8 m9 want)
  exact fG A5 (by intro hx;cases hx) z<|by kernel_rfl
theorem tN{x:waA}(h:j8 name t60 t61 want t62=some x):aL Pg GE 0 (.loop (cA b5 8183)) (EX (.exit 0) (iB came m m2 m3 m4 m5 m6 m7 m8 m9 x)) (cZ name came t60 t61 m m2 m3 m4 m5 m6 m7 m8 m9 want t62):=
 aL.loop (S:=fun(zz:waA×Int)=>cZ name came t60 t61 m m2 m3 m4 m5 m6 m7 m8 m9 zz.1 zz.2) (ex:=(fun _=>.exit 0)) (s:=(want,t62)) h fun zz y hy=>sD name came t60 t61 m m2 m3 m4 m5 m6 m7 m8 m9 zz.1 zz.2 hy
end
section
variable(t74:waA)(t75:Int)(m:Int)(m2:ag)(m3:waC)(m4:waA)(m5:Int)(m6:ag)(m7:Int)(m8:waB)(m9:waB)(want:waA)(t76:Int)
def da:ax:=aP 95 [(7,.bptr 2 0),(10,sl cS want),(74,sl cS t74),(75,.int .i64 t75),(76,.int .i64 t76)] [.dead,.dead,.cells [.int .i64 m,.str m2,sl af m3,sl cS m4,.int .i64 m5,.str m6,.int .i64 m7,sl ac m8,sl ac m9] [(2,30)]] [((10,0),9)]
def iC(o:waA):ax:=aP 95 [(7,.bptr 2 0),(10,sl cS o)] [.dead,.dead,.cells [.int .i64 m,.str m2,sl af m3,sl cS m4,.int .i64 m5,.str m6,.int .i64 m7,sl ac m8,sl ac m9] [(2,30)]] [((10,0),9)]
def dS:Option ((waA×Int)⊕(waA)):=
 if(decide (t76<t75))=true then
  (dT t74 t76).bind fun x37=>
  if(!(x37==([118]:ag)))=true then
   (app want ([x37]:List ag)).bind fun l40=>
   some (.inl (l40,bL (t76+1)))
  else
   some (.inl (want,bL (t76+1)))
 else
  some (.inr want)
def j9:Option waA:=loop (fun(zz:waA×Int)=>dS t74 t75 zz.1 zz.2) (want,t76)
theorem sE{y:(waA×Int)⊕(waA)}(h:dS t74 t75 want t76=some y):aL Pg GE 0 (cA b5 16375) (LQ (fun(zz:waA×Int)=>da t74 t75 m m2 m3 m4 m5 m6 m7 m8 m9 zz.1 zz.2) (fun _=>.exit 2) (iC m m2 m3 m4 m5 m6 m7 m8 m9) y) (da t74 t75 m m2 m3 m4 m5 m6 m7 m8 m9 want t76):=by
 rcases aJ h with⟨c36,h⟩|⟨c36,h⟩
 ·obtain⟨x37,bx37,h⟩:=ay h
  have p39:=fun{sc F} (r:PS sc F)=>sg 0 c36<|sv (bh.ia (k:=.i64) bx37)<|sv (dB Cb (.str x37) [])<|r
  rcases aJ h with⟨c38,h⟩|⟨c38,h⟩
  ·obtain⟨l40,bl40,h⟩:=ay h
   obtain rfl:=lf h
   exact pZ A5 (p39<|sg 0 c38<|sv (bh.mk' (v:=PVal.str) D8 ([x37]:List ag) 1 (by kernel_rfl))<|sv (bh.ap bl40)<|eF .normal (da t74 t75 m m2 m3 m4 m5 m6 m7 m8 m9 l40 (bL (t76+1))))<|by kernel_rfl
  ·obtain rfl:=lf h
   exact pZ A5 (p39<|sg 0 c38<|eF .normal (da t74 t75 m m2 m3 m4 m5 m6 m7 m8 m9 want (bL (t76+1))))<|by kernel_rfl
 ·obtain rfl:=lf h
  have z:=sg 0 c36<|eF (.exit 2) (iC m m2 m3 m4 m5 m6 m7 m8 m9 want)
  exact fG A5 (by intro hx;cases hx) z<|by kernel_rfl
theorem tO{x:waA}(h:j9 t74 t75 want t76=some x):aL Pg GE 0 (.loop (cA b5 16375)) (EX (.exit 2) (iC m m2 m3 m4 m5 m6 m7 m8 m9 x)) (da t74 t75 m m2 m3 m4 m5 m6 m7 m8 m9 want t76):=
 aL.loop (S:=fun(zz:waA×Int)=>da t74 t75 m m2 m3 m4 m5 m6 m7 m8 m9 zz.1 zz.2) (ex:=(fun _=>.exit 2)) (s:=(want,t76)) h fun zz y hy=>sE t74 t75 m m2 m3 m4 m5 m6 m7 m8 m9 zz.1 zz.2 hy
end
def mQ(t:ae)(name:ag)(a:aa):Option Bool:=
 (gb name t a).bind fun o10=>
 if o10=true then
  qN.bind fun r13=>
  some r13
 else
  (fy t name a).bind fun r14=>
  (ez t).bind fun r15=>
  (n8 r15 name).bind fun r16=>
  (Ev a).bind fun r17=>
  (EI t r14).bind fun r18=>
  if(!r18)=true then
   some false
  else
   if(!(decide (r16>=0)))=true then
    (ez r14).bind fun r23=>
    (ez t).bind fun r24=>
    (n9 r23 r24).bind fun r25=>
    if r25=true then
     qN.bind fun r28=>
     some r28
    else
     some false
   else
    (ez t).bind fun r29=>
    (j8 name r29 (r29.length:Int) ([]:List ag) 0).bind fun o35=>
    (j9 r17 (r17.length:Int) o35 0).bind fun o41=>
    (ez r14).bind fun r42=>
    (nR o41 ([]:List ag)).bind fun r43=>
    (n9 r42 r43).bind fun r44=>
    if r44=true then
     qN.bind fun r47=>
     some r47
    else
     some false
theorem yw{t:ae}{name:ag}{a:aa}{r:Bool}(h:mQ t name a=some r):CC Pg GE 5 [.agg (af t),.str name,.agg (ac a)] (.bool r) []:=by
 obtain⟨o10,bo10,h⟩:=ay h
 have p12:=fun{sc F} (r:PS sc F)=>se (bR t)<|se (bJ a)<|iO 1<|ct (tM name t a bo10)<|r
 rcases aJ h with⟨c11,h⟩|⟨c11,h⟩
 ·obtain⟨r13,br13,h⟩:=ay h
  obtain rfl:=lf h
  have z:=p12<|sg 0 c11<|aX (sF br13)<|en (aI (rP (.bool r13))<|trivial)
  exact bo A5 call5 func5 (c:=b5) rfl (aI (al t) (aI trivial (aI (ah a) trivial))) z<|by kernel_rfl
 ·obtain⟨r14,br14,h⟩:=ay h
  obtain⟨r15,br15,h⟩:=ay h
  obtain⟨r16,br16,h⟩:=ay h
  obtain⟨r17,br17,h⟩:=ay h
  obtain⟨r18,br18,h⟩:=ay h
  have p20:=fun{sc F} (r:PS sc F)=>p12<|sg 0 c11<|sv (aV t)<|sv (aM a)<|aX (i6 br14)<|sx jc<|sy (aU r14)<|sv (aV t)<|aX (ef br15)<|aX (ui br16)<|sv (aM a)<|aX (JT br17)<|sv (aV t)<|sv (bw r14 [])<|aX (JY br18)<|r
  rcases aJ h with⟨c19,h⟩|⟨c19,h⟩
  ·obtain rfl:=lf h
   have z:=p20<|sg 0 c19<|en (aI (rP (.bool false))<|trivial)
   exact bo A5 call5 func5 (c:=b5) rfl (aI (al t) (aI trivial (aI (ah a) trivial))) z<|by kernel_rfl
  ·have p22:=fun{sc F} (r:PS sc F)=>p20<|sg 0 c19<|r
   rcases aJ h with⟨c21,h⟩|⟨c21,h⟩
   ·obtain⟨r23,br23,h⟩:=ay h
    obtain⟨r24,br24,h⟩:=ay h
    obtain⟨r25,br25,h⟩:=ay h
    have p27:=fun{sc F} (r:PS sc F)=>p22<|sg 0 c21<|ze [0,1,0,7,15,31,63,127,255]<|sv (bw r14 [])<|aX (ef br23)<|sv (aV t)<|aX (ef br24)<|aX (py br25)<|r
    rcases aJ h with⟨c26,h⟩|⟨c26,h⟩
    ·obtain⟨r28,br28,h⟩:=ay h
     obtain rfl:=lf h
     have z:=p27<|sg 6 c26<|aX (sF br28)<|en (aI (rP (.bool r28))<|trivial)
     exact bo A5 call5 func5 (c:=b5) rfl (aI (al t) (aI trivial (aI (ah a) trivial))) z<|by kernel_rfl
    ·obtain rfl:=lf h
     have z:=p27<|sg 6 c26<|en (aI (rP (.bool false))<|trivial)
     exact bo A5 call5 func5 (c:=b5) rfl (aI (al t) (aI trivial (aI (ah a) trivial))) z<|by kernel_rfl
   ·obtain⟨r29,br29,h⟩:=ay h
    obtain⟨o35,bo35,h⟩:=ay h
    obtain⟨o41,bo41,h⟩:=ay h
    obtain⟨r42,br42,h⟩:=ay h
    obtain⟨r43,br43,h⟩:=ay h
    obtain⟨r44,br44,h⟩:=ay h
    have p46:=fun{sc F} (r:PS sc F)=>p22<|sg 0 c21<|sv (aV t)<|aX (ef br29)<|cf (bh.ln r29)<|ct (tN name r17 r29 (r29.length:Int) r14.Op r14.Name r14.Args r14.Names r14.Pred.Op r14.Pred.Name r14.Pred.N r14.Pred.Kids r14.Preds ([]:List ag) 0 bo35)<|cf (bh.ln r17)<|ct (tO r17 (r17.length:Int) r14.Op r14.Name r14.Args r14.Names r14.Pred.Op r14.Pred.Name r14.Pred.N r14.Pred.Kids r14.Preds o35 0 bo41)<|sv (bw r14 [])<|aX (ef br42)<|aX (zr br43)<|aX (py br44)<|r
    rcases aJ h with⟨c45,h⟩|⟨c45,h⟩
    ·obtain⟨r47,br47,h⟩:=ay h
     obtain rfl:=lf h
     have z:=p46<|sg 6 c45<|aX (sF br47)<|en (aI (rP (.bool r47))<|trivial)
     exact bo A5 call5 func5 (c:=b5) rfl (aI (al t) (aI trivial (aI (ah a) trivial))) z<|by kernel_rfl
    ·obtain rfl:=lf h
     have z:=p46<|sg 6 c45<|en (aI (rP (.bool false))<|trivial)
     exact bo A5 call5 func5 (c:=b5) rfl (aI (al t) (aI trivial (aI (ah a) trivial))) z<|by kernel_rfl
open Go
theorem KY{α β X:Type}(g:α->β)(e:List β->X):∀(l:List α) (i:Nat) (s:List β),lm (fun _ x (s:List β)=>(Sum.inl (s++[g x]):List β⊕X)) e l i s=e (s++l.map g)
 |[],i,s=>by simp[lm]
 |x::l,i,s=>by
  unfold lm
  simp only
  rw[KY g e l (i+1) (s++[g x])]
  simp
theorem KB{α β τ X:Type}(l:List α)(hl:l.length<9223372036854775808)(mk:Int->List β->τ)(body:τ->Option (τ⊕X))(g:α->β)(e:List β->X)
  (hin:∀(i:Nat) (h:i<l.length) s,s.length=i->body (mk i s)=some (.inl (mk (bL ((i:Int)+1)) (s++[g l[i]])))) (hend:∀s,body (mk l.length s)=some (.inr (e s))):loop body (mk 0 [])=some (e (l.map g)):=by
 have:=jQ l hl mk body (fun i s=>s.length=i) (fun _ x s=>.inl (s++[g x])) e (fun i h s hs=>⟨hin i h s hs,fun s' hs'=>by cases hs';simp[hs]⟩) (fun s _=>hend s) 0 [] (vaI _) rfl
 rw[KY]at this
 exact this
set_option linter.unusedSimpArgs false
abbrev UD(a:List ag):Prop:=a.length<9223372036854775808
def xt(l:List ag)(s:ag):Int:=match l.findIdx? (fun x=>x==s)with|some j=>(j:Int)|none=>-1
theorem im(l:List ag)(s:ag)(hl:l.length<9223372036854775808):n8 l s=some (xt l s):=by
 unfold n8 ug
 have:=HX l hl (fun zz=>jl l s l.length zz) (fun x=>x==s) (fun j=>Sum.inl (j:Int)) (Sum.inr ()) (fun i h=>by
  simp only[jl]
  rw[vap (by simp;omega),cB _ i h]
  simp only[vab]
  split<;>simp_all) (by simp only[jl];rw[vat (by simp)])
 rw[this]
 unfold xt
 cases l.findIdx? (fun x=>x==s)<;>rfl
theorem nG(l:List ag)(s:ag):decide (xt l s>=0)=l.any fun k=>k==s:=by
 unfold xt
 cases h:l.findIdx? (fun x=>x==s)with
 |none=>
  rw[vby]at h
  symm
  simp only[vbq]
  rw[show decide ((-1:Int)>=0)=false from rfl]
  simp only[vbq,Bool.not_eq_true]
  exact h
 | some j =>
  have h2:l.any (fun x=>x==s)=true:=by
   have:=List.findIdx?_isSome (xs:=l) (p:=fun x=>x==s)
   rw[h]at this
   exact this.symm
  rw[h2]
  simp
theorem HZ{α:Type}(k:ag)(v:α)(j:ag):∀(m:List (ag×α)),sR (wN m k v) j=if(j==k)=true then some v else sR m j
 |[]=>by
  simp only[wN,sR,List.find?_cons,List.find?_nil]
  cases(j==k)<;>rfl
 | e :: r => by
  have ih:=HZ k v j r
  unfold wN
  by_cases h:(k==e.1)=true
  ·have h':k=e.1:=by simpa using h
   rw[vap h]
   unfold sR
   simp only[List.find?_cons]
   rw[<-h']
   cases hj:(j==k)<;>simp
  ·rw [vat h]
   unfold sR at ih ⊢
   simp only[List.find?_cons]
   cases hj:(j==e.1)
   ·simpa using ih
   ·have:¬(j==k)=true:=fun hk=>h (by
      have h1:j=e.1:=by simpa using hj
      have h2:j=k:=by simpa using hk
      simp[<-h1,<-h2])
    simp[this]
abbrev Fy(m:List (ag×Bool))(k:ag):Bool:=(sR m k).getD false
theorem Ps(m:List (ag×Bool))(k j:ag):Fy (wN m k true) j=(j==k||Fy m j):=by
 unfold Fy
 rw[HZ]
 cases(j==k)<;>rfl
def LM(l:ag):Nat:=l.foldl (fun a c=>10 * a+(c.toNat - 48)) 0
theorem E8(u:Nat):LM (Lib.decDigits u)=u:=by
 induction u using Nat.strongRecOn with
 | _ u ih =>
  rw[Lib.decDigits]
  by_cases h:u<10
  ·rw[dif_pos h]
   unfold LM
   simp
   omega
  ·rw[dif_neg h]
   have:=ih (u / 10) (by omega)
   unfold LM at this ⊢
   rw[vcd,this]
   simp
   omega
theorem QL{u v:Nat}(h:Lib.decDigits u=Lib.decDigits v):u=v:=by rw[<-E8 u,<-E8 v,h]
theorem I3(u:Nat):(Lib.decDigits u).length<=u+1:=by
 induction u using Nat.strongRecOn with
 | _ u ih =>
  rw[Lib.decDigits]
  by_cases h:u<10
  ·rw[dif_pos h];simp
  ·rw[dif_neg h]
   have:=ih (u / 10) (by omega)
   simp
   omega
theorem Ij:∀(k n:Nat) (acc:ag),n<=k->n<=1000000000->acc.length<=1000000000 - n->mq acc n=some (if n=0 then acc else Lib.decDigits n++acc)
 |k,0,acc,_,_,_=>by
  unfold mq
  exact lJ rfl
 |0,n+1,_,h,_,_=>absurd h (by omega)
 | k + 1,n + 1,acc,hk,hn,ha => by
  have hb:ma acc ((n+1:Nat):Int)=some (.inl (UInt8.ofNat (48+(n+1) % 10)::acc,(((n+1) / 10:Nat):Int))):=by
   simp only[ma]
   have h1:(((n+1:Nat):Int)!=0)=true:=by simp;omega
   have h2:re ((n+1:Nat):Int) 10=some (((n+1) % 10:Nat):Int):=by
    simp only[re]
    have e:((n+1:Nat):Int) % 10=(((n+1) % 10:Nat):Int):=by omega
    rw[vat (by omega),Int.tmod_eq_emod_of_nonneg (by omega),e]
   have h3:uc (((n+1) % 10:Nat):Int)=some (((n+1) % 10:Nat):Int):=by
    simp only[uc]
    rw[vat (by simp;omega)]
   have h4:IntKind.u8.wrap (bL (48+(((n+1) % 10:Nat):Int)))=((48+(n+1) % 10:Nat):Int):=by
    rw[kn (by omega) (by omega)]
    have h5:(48:Int)+(((n+1) % 10:Nat):Int)=((48+(n+1) % 10:Nat):Int):=by omega
    rw[h5]
    generalize hq:48+(n+1) % 10=q
    have:q<58:=by omega
    show((q:Int) % 256)=q
    omega
   have h6:zG [((48+(n+1) % 10:Nat):Int)]=some [UInt8.ofNat (48+(n+1) % 10)]:=by
    simp only[zG]
    rw[vap (by omega)]
    rfl
   have h7:qu .i64 ((n+1:Nat):Int) 10=some (((n+1) / 10:Nat):Int):=by
    simp only[qu]
    rw[vat (by omega),Int.tdiv_eq_ediv_of_nonneg (by omega)]
    have e:((n+1:Nat):Int) / 10=(((n+1) / 10:Nat):Int):=by omega
    rw[e]
    exact vbo some (kn (by omega) (by omega))
   rw[h1]
   simp only[if_true,h2,vab,h3,h4,h6]
   rw[E5 (by simp;omega),h7]
   rfl
  unfold mq
  refine(nX (body:=fun zz:ag×Int=>ma zz.1 zz.2) (s:=(acc,((n+1:Nat):Int))) (s':=(UInt8.ofNat (48+(n+1) % 10)::acc,(((n+1) / 10:Nat):Int))) hb).trans ?_
  have ih:=Ij k ((n+1) / 10) (UInt8.ofNat (48+(n+1) % 10)::acc) (by omega) (by omega) (by simp;omega)
  unfold mq at ih
  rw[ih,vat (by omega:¬n+1=0)]
  conv=>rhs;rw[Lib.decDigits]
  by_cases h:n+1<10
  ·rw[dif_pos h,vap (by omega),vbX h]
   rfl
  ·rw[dif_neg h,vat (by omega)]
   simp
theorem Co(n:Nat)(h0:1<=n)(h:n<=1000000000):Eh n=some (Lib.decDigits n):=by
 unfold Eh
 have h1:((n:Int)==0)=false:=by simp;omega
 rw[h1,Ij n n [] (van _) h (by simp)]
 have h2:decide ((n:Int)<0)=false:=by simp
 simp only[va4,if_false,vab,h2]
 rw[vat (by omega)]
 simp
theorem Ku(n:Nat)(h:n<=1000000000):MM n=some (Lib.decDigits n):=by
 unfold MM Lib.itoa
 rw[vap (by simp;omega),vat (by omega)]
 rfl
theorem PF:∀(used L:List ag),L.Nodup->used.length<L.length->∃x∈L,x∉used
 |[],L,_,h=>by
  cases L with
  |nil=>simp at h
  |cons x L=>exact⟨x,by simp,by simp⟩
 | u :: us,L,hn,h => by
  obtain⟨x,hx,hu⟩:=PF us (L.erase u) (hn.erase u) (by
   have:=List.length_erase (a:=u) (l:=L)
   rw[this]
   simp at h
   split<;>omega)
  rw[hn.mem_erase_iff]at hx
  exact⟨x,hx.2,by simp[hx.1,hu]⟩
theorem O7(used:List ag)(base:ag):∃n,1<=n/\n<=used.length+1/\base++Lib.decDigits n∉used:=by
 obtain⟨x,hx,hu⟩:=PF used ((List.range (used.length+1)).map fun i=>base++Lib.decDigits (i+1)) (by
  unfold List.Nodup
  rw[List.pairwise_map]
  refine vcH ?_ (List.nodup_range (n:=used.length+1))
  intro a b hab e
  have:=QL (List.append_cancel_left e)
  omega) (by simp)
 simp only[vai,vbp]at hx
 obtain⟨i,hi,rfl⟩:=hx
 exact⟨i+1,by omega,by omega,hu⟩
def Bv(used:List ag)(base:ag):Nat->Nat->ag
 |0,_=>[]
 |k+1,n=>if used.contains (base++Lib.decDigits n)=true then Bv used base k (n+1)else base++Lib.decDigits n
def oE(used:List ag)(base:ag):ag:=if used.contains base=true then Bv used base 100000001 1 else base
theorem zU(used:List ag)(hl:UD used):∃m,kV used used.length 0 []=some m/\∀k,Fy m k=used.contains k:=by
 unfold kV
 have:=jQ used hl (fun i (m:List (ag×Bool))=>(i,m)) (fun zz=>fP used used.length zz.1 zz.2) (fun _ _=>True) (fun _ x m=>.inl (wN m x true)) (fun m=>m) (fun i hi t _=>⟨by
   simp only[fP]
   rw[vap (by simp;omega),cB _ i hi]
   rfl,fun _ _=>trivial⟩) (fun _ _=>by simp only[fP];rw[vat (by simp)]) 0 [] (vaI _) trivial
 simp only[Int.ofNat_zero,vbk]at this
 rw[this]
 refine⟨_,rfl,?_⟩
 have key:∀(l:List ag) (i:Nat) (m:List (ag×Bool)) k,Fy (lm (fun _ x (m:List (ag×Bool))=>(Sum.inl (wN m x true):List (ag×Bool)⊕List (ag×Bool))) (fun m=>m) l i m) k=(l.contains k||Fy m k):=by
  intro l
  induction l with
  |nil=>intro i m k;simp[lm]
  |cons x l ih=>
   intro i m k
   unfold lm
   simp only[ih,Ps,List.contains_cons]
   cases(k==x)<;>cases l.contains k<;>simp
 intro k
 rw[key]
 simp[Fy,sR]
theorem CB(used:List ag)(base:ag)(m:List (ag×Bool))(hm:∀k,Fy m k=used.contains k)(hl:used.length<=100000000)(hb:base.length<=4000000000000000000)(N:Nat)(hN:base++Lib.decDigits N∉used)(hN2:N<=100000001):∀(k n:Nat),1<=n->n<=N->N<n+k->iG base m n=some (Bv used base k n)/\iP used base (base++Lib.decDigits n) ((n+1:Nat):Int)=some (Bv used base k n)/\Bv used base k n∉used
 |0,n,_,h1,h2=>absurd h2 (by omega)
 | k + 1,n,h0,h1,h2 => by
  have hd:=I3 n
  have hd2:=I3 (n+1)
  have e1:bL ((n:Int)+1)=((n+1:Nat):Int):=by rw[kn (by omega) (by omega)];omega
  have e2:bL (((n+1:Nat):Int)+1)=((n+2:Nat):Int):=by rw[kn (by omega) (by omega)];omega
  unfold Bv
  by_cases hc:used.contains (base++Lib.decDigits n)=true
  ·rw[vap hc]
   have hne:n≠N:=by
    rintro rfl
    exact hN (by simpa using hc)
   obtain⟨i1,i2,i3⟩:=CB used base m hm hl hb N hN hN2 k (n+1) (by omega) (by omega) (by omega)
   have hm':=hm (base++Lib.decDigits n)
   unfold Fy at hm'
   have b1:eH base m (n:Int)=some (.inl (((n+1:Nat):Int))):=by
    simp only[eH]
    rw[Ku n (by omega)]
    simp only[vab]
    rw[E5 (by omega)]
    simp only[vab,hm',hc,e1]
    rfl
   have b2:co used base (base++Lib.decDigits n) ((n+1:Nat):Int)=some (.inl (base++Lib.decDigits (n+1),((n+2:Nat):Int))):=by
    simp only[co]
    rw[im _ _ (by omega)]
    simp only[vab,nG]
    have:(used.any fun k=>k==base++Lib.decDigits n)=true:=by simpa[vbn]using hc
    rw[this,vap rfl,Co (n+1) (by omega) (by omega)]
    simp only[vab]
    rw[E5 (by omega)]
    simp only[vab,e2]
   refine⟨?_,?_,i3⟩
   ·unfold iG at i1 ⊢
    exact(nX b1).trans i1
   ·unfold iP at i2 ⊢
    exact(nX (body:=fun zz:ag×Int=>co used base zz.1 zz.2) (s:=(base++Lib.decDigits n,((n+1:Nat):Int))) (s':=(base++Lib.decDigits (n+1),((n+2:Nat):Int))) b2).trans i2
  ·rw[vat hc]
   have hc':used.contains (base++Lib.decDigits n)=false:=by simpa using hc
   have hm':=hm (base++Lib.decDigits n)
   unfold Fy at hm'
   have b1:eH base m (n:Int)=some (.inr (base++Lib.decDigits n)):=by
    simp only[eH]
    rw[Ku n (by omega)]
    simp only[vab]
    rw[E5 (by omega)]
    simp only[vab,hm',hc']
    rfl
   have b2:co used base (base++Lib.decDigits n) ((n+1:Nat):Int)=some (.inr (base++Lib.decDigits n)):=by
    simp only[co]
    rw[im _ _ (by omega)]
    simp only[vab,nG]
    have:(used.any fun k=>k==base++Lib.decDigits n)=false:=by
     rw[vcf]
     intro h
     apply hc
     simpa[vbn]using h
    rw[this]
    rfl
   refine⟨?_,?_,by simpa using hc⟩
   ·unfold iG
    exact lJ b1
   ·unfold iP
    exact lJ (body:=fun zz:ag×Int=>co used base zz.1 zz.2) (s:=(base++Lib.decDigits n,((n+1:Nat):Int))) b2
theorem JQ(used:List ag)(base:ag)(hl:used.length<=100000000)(hb:base.length<=4000000000000000000):pV used base=some (oE used base)/\HA used base=some (oE used base)/\oE used base∉used:=by
 obtain⟨m,hm1,hm⟩:=zU used (show _<_ by omega)
 have hm':=hm base
 unfold Fy at hm'
 obtain⟨N,h1,h2,h3⟩:=O7 used base
 obtain⟨i1,i2,i3⟩:=CB used base m hm hl hb N h3 (by omega) 100000001 1 (van _) h1 (by omega)
 unfold pV HA oE
 rw[hm1]
 simp only[vab,hm']
 have hd:=I3 1
 by_cases hc:used.contains base=true
 ·simp only[hc,vcj,va4,if_false,if_true]
  simp only[Int.ofNat_one]at i1
  rw[i1]
  have b2:co used base base 1=some (.inl (base++Lib.decDigits 1,((2:Nat):Int))):=by
   simp only[co]
   rw[im _ _ (by omega)]
   simp only[vab,nG]
   have:(used.any fun k=>k==base)=true:=by simpa[vbn]using hc
   have ht:=Co 1 (by omega) (by omega)
   simp only[Int.ofNat_one]at ht
   rw[this,vap rfl,ht]
   simp only[vab]
   rw[E5 (by omega)]
   rfl
  unfold iP at i2 ⊢
  have:=(nX (body:=fun zz:ag×Int=>co used base zz.1 zz.2) (s:=(base,1)) (s':=(base++Lib.decDigits 1,((2:Nat):Int))) b2).trans i2
  rw[this]
  exact⟨rfl,rfl,i3⟩
 ·have hc':used.contains base=false:=by simpa using hc
  simp only[hc',vcy,if_true,va4,if_false]
  have b2:co used base base 1=some (.inr base):=by
   simp only[co]
   rw[im _ _ (by omega)]
   simp only[vab,nG]
   have:(used.any fun k=>k==base)=false:=by
    rw[vcf]
    intro h
    apply hc
    simpa[vbn]using h
   rw[this]
   rfl
  unfold iP
  have:=lJ (body:=fun zz:ag×Int=>co used base zz.1 zz.2) (s:=(base,1)) b2
  rw[this]
  exact⟨trivial,rfl,by simpa using hc⟩
abbrev Eg(l:List ag):Prop:=l.Pairwise Lu
theorem sO:∀{a b:List ag},Eg a->Eg b->(∀x,x∈a↔x∈b)->a=b
 |[],[],_,_,_=>rfl
 |[],y::b,_,_,h=>by have:=(h y).2 (by simp);simp at this
 |x::a,[],_,_,h=>by have:=(h x).1 (by simp);simp at this
 | x :: a,y :: b,ha,hb,h => by
  unfold Eg at ha hb
  rw[va5]at ha hb
  have hxy:x=y:=by
   have h1:=(h x).1 (by simp)
   have h2:=(h y).2 (by simp)
   rw[vaD]at h1 h2
   rcases h1 with h1|h1
   ·exact h1
   ·rcases h2 with h2|h2
    ·exact h2.symm
    ·have:=mz (hb.1 x h1) (ha.1 y h2)
     unfold Lu at this
     rw[nT]at this
     cases this
  subst hxy
  congr 1
  refine sO ha.2 hb.2 fun z=>?_
  constructor
  ·intro hz
   have:=(h z).1 (by simp[hz])
   rw[vaD]at this
   rcases this with rfl|this
   ·have:=ha.1 _ hz;unfold Lu at this;rw[nT]at this;cases this
   ·exact this
  ·intro hz
   have:=(h z).2 (by simp[hz])
   rw[vaD]at this
   rcases this with rfl|this
   ·have:=hb.1 _ hz;unfold Lu at this;rw[nT]at this;cases this
   ·exact this
theorem xn(d:List ag)(hs:d.Pairwise fun x y=>Op.bytesLess y x=false):∀m,m<=d.length->Eg (Lib.compactUpTo d.toArray m)/\∀x,x∈Lib.compactUpTo d.toArray m↔∃(j:Nat) (h:j<d.length),j<m/\d[j]=x
 |0,_=>by
  refine⟨by simp[Lib.compactUpTo,Eg],fun x=>?_⟩
  simp[Lib.compactUpTo]
 | m + 1,hm => by
  obtain⟨h1,h2⟩:=xn d hs m (by omega)
  have hg:∀j (h:j<d.length),d.toArray[j]! =d[j]:=fun j h=>by simp[h]
  rw[Lib.compactUpTo_succ]
  by_cases hk:Lib.keeps d.toArray m=true
  ·rw [vap hk,hg m (by omega)]
   refine⟨?_,fun x=>?_⟩
   ·unfold Eg
    rw[List.pairwise_append]
    refine⟨h1,by simp,fun x hx y hy=>?_⟩
    simp at hy
    subst hy
    obtain⟨j,hj,hjm,rfl⟩:=(h2 x).1 hx
    have hne:d[m - 1]≠d[m]:=by
     unfold Lib.keeps at hk
     simp only[vaj]at hk
     rcases hk with hk|hk
     ·omega
     ·rw[hg m (by omega),hg (m - 1) (by omega)]at hk
      exact fun e=>hk e.symm
    have hlt:Op.bytesLess d[m - 1] d[m]=true:=by
     have k1:=(vbz.1 hs) (m - 1) m (by omega) (by omega) (by omega)
     cases h:Op.bytesLess d[m - 1] d[m]with
     |true=>rfl
     |false=>exact absurd (ou h k1) hne
    by_cases hj2:j=m - 1
    ·subst hj2;exact hlt
    ·have k2:=(vbz.1 hs) j (m - 1) (by omega) (by omega) (by omega)
     cases h:Op.bytesLess d[j] d[m - 1]with
     |true=>exact mz h hlt
     |false=>
      have:=ou h k2
      rw[this];exact hlt
   ·rw[vau,h2]
    constructor
    ·rintro(⟨j,hj,hjm,rfl⟩|hx)
     ·exact⟨j,hj,by omega,rfl⟩
     ·simp at hx;exact⟨m,by omega,by omega,hx.symm⟩
    ·rintro⟨j,hj,hjm,rfl⟩
     by_cases e:j=m
     ·subst e;exact .inr (by simp)
     ·exact .inl ⟨j,hj,by omega,rfl⟩
  ·rw [vat hk,vbm]
   refine⟨h1,fun x=>?_⟩
   rw[h2]
   constructor
   ·rintro⟨j,hj,hjm,rfl⟩;exact⟨j,hj,by omega,rfl⟩
   ·rintro⟨j,hj,hjm,rfl⟩
    by_cases e:j=m
    ·subst e
     have:j≠0/\d.toArray[j]! =d.toArray[j - 1]! :=by
      unfold Lib.keeps at hk
      simp only[vaj,not_or,ne_eq,Decidable.not_not]at hk
      exact hk
     rw[hg j hj,hg (j - 1) (by omega)]at this
     exact⟨j - 1,by omega,by omega,this.2.symm⟩
    ·exact⟨j,hj,by omega,rfl⟩
def tV(a b:List ag):List ag:=Lib.compact (iN (a++b))
theorem zf(a b:List ag):Eg (tV a b)/\∀x,x∈tV a b↔x∈a\/x∈b:=by
 obtain⟨h1,h2⟩:=xn (iN (a++b)) (AS _) _ (van _)
 refine⟨h1,fun x=>?_⟩
 rw[show tV a b=Lib.compactUpTo (iN (a++b)).toArray (iN (a++b)).length from rfl,h2,<-vau,<-Oe,List.mem_iff_getElem]
 constructor
 ·rintro⟨j,h,_,e⟩;exact⟨j,h,e⟩
 ·rintro⟨j,h,e⟩;exact⟨j,h,h,e⟩
theorem vw(a b:List ag)(h:a.length+b.length<=1073741824):kr a b=some (tV a b):=by
 unfold kr
 rw[ec (by simp;omega)]
 simp only[vab]
 rw[ec (by simp;omega)]
 simp only[vab]
 rw[Kt]
 rfl
def Fo(s:ag):List ag->List ag
 |[]=>[s]
 |x::r=>if Op.bytesLess x s=true then x::Fo s r else if(x==s)=true then s::r else s::x::r
def kk(s:ag):List ag->Nat
 |[]=>0
 |x::r=>if Op.bytesLess x s=true then kk s r+1 else 0
theorem RD(s:ag):∀l,kk s l<=l.length
 |[]=>van _
 |x::r=>by have:=RD s r;unfold kk;split<;>simp<;>omega
theorem Ph(s:ag):∀l,Fo s l=l.take (kk s l)++s::l.drop (kk s l+if(l[kk s l]? ==some s)=true then 1 else 0)
 |[]=>by simp[Fo,kk]
 | x :: r => by
  have ih:=Ph s r
  unfold Fo kk
  by_cases h:Op.bytesLess x s=true
  ·rw[vap h,vap h,ih]
   simp only[List.take_succ_cons,List.getElem?_cons_succ,vbu]
   rw[show kk s r+1+(if(r[kk s r]? ==some s)=true then 1 else 0)=(kk s r+if(r[kk s r]? ==some s)=true then 1 else 0)+1 by omega,List.drop_succ_cons]
  ·rw[vat h,vat h]
   by_cases hx:(x==s)=true
   ·have:x=s:=by simpa using hx
    simp[this]
   ·have:¬x=s:=by simpa using hx
    simp[this]
theorem D6(s:ag):∀l,(Fo s l).length<=l.length+1
 |[]=>by simp[Fo]
 | x :: r => by
  have:=D6 s r
  unfold Fo
  split
  ·simp;omega
  ·split<;>simp
theorem Jg(s:ag):∀l x,x∈Fo s l↔x=s\/x∈l
 |[],x=>by simp[Fo]
 | y :: r,x => by
  have:=Jg s r x
  unfold Fo
  by_cases h:Op.bytesLess y s=true
  ·rw[vap h,vaD,this,vaD]
   constructor
   ·rintro(h|h|h)<;>simp[h]
   ·rintro(h|h|h)<;>simp[h]
  ·rw[vat h]
   by_cases hy:(y==s)=true
   ·have e:y=s:=by simpa using hy
    rw[vap hy,e]
    simp
   ·rw[vat hy]
    simp
theorem ML(s:ag):∀{l},Eg l->Eg (Fo s l)
 |[],_=>by simp[Fo,Eg]
 | x :: r,h => by
  unfold Eg at h ⊢
  rw[va5]at h
  unfold Fo
  by_cases hx:Op.bytesLess x s=true
  ·rw[vap hx,va5]
   refine⟨fun y hy=>?_,ML s h.2⟩
   rw[Jg]at hy
   rcases hy with rfl|hy
   ·exact hx
   ·exact h.1 y hy
  ·rw [vat hx]
   by_cases he:(x==s)=true
   ·have e:x=s:=by simpa using he
    subst e
    rw[vap he,va5]
    exact h
   ·have hsx:Lu s x:=by
     cases hc:Op.bytesLess s x with
     |true=>exact hc
     |false=>
      have:=ou (by simpa using hx) hc
      simp[this]at he
    rw[vat he,va5,va5]
    refine⟨fun y hy=>?_,h⟩
    rw[vaD]at hy
    rcases hy with rfl|hy
    ·exact hsx
    ·exact mz hsx (h.1 y hy)
theorem M1(s:ag):∀(l:List ag) (i:Nat) (out:List ag),lm (fun i x (out:List ag)=>if Op.bytesLess x s=true then(Sum.inl (out++[x]):List ag⊕(List ag×Nat))else .inr (out,i)) (fun out=>(out,i+l.length)) l i out=(out++l.take (kk s l),i+kk s l)
 |[],i,out=>by simp[lm,kk]
 | x :: l,i,out => by
  have ih:=M1 s l (i+1) (out++[x])
  unfold lm kk
  by_cases h:Op.bytesLess x s=true
  ·simp only[h,if_true]
   rw[show i+(x::l).length=i+1+l.length by simp;omega,ih]
   simp
   omega
  ·simp[h]
theorem Ig{α σ X Y:Type}(g:X->Y)(f:Nat->α->σ->σ⊕X)(e:σ->X):∀(l:List α) (i:Nat) (s:σ),lm (fun i x s=>Sum.map id g (f i x s)) (fun s=>g (e s)) l i s=g (lm f e l i s)
 |[],i,s=>rfl
 |x::l,i,s=>by
  unfold lm
  cases f i x s with
  |inl s'=>exact Ig g f e l (i+1) s'
  |inr y=>rfl
def Pu{σ:Type}(y:σ×Nat):σ×Int:=(y.1,(y.2:Int))
theorem Et(a:List ag)(s:ag)(ha:a.length<=1000000000):zv a s=some (Fo s a):=by
 unfold zv yn
 have:=jQ a (by omega) (fun i (out:List ag)=>(out,i)) (fun zz=>kK a s zz.1 zz.2) (fun i out=>out.length=i)
  (fun i x out=>Sum.map id Pu (if Op.bytesLess x s=true then(Sum.inl (out++[x]):List ag⊕(List ag×Nat))else .inr (out,i))) (fun out=>Pu (out,0+a.length)) (fun i hi out hI=>by
   have hb:lE a s i=some (Op.bytesLess a[i] s):=by
    simp only[lE]
    rw[vap (by simp;omega),cB _ i hi]
    rfl
   refine⟨?_,fun s' hs'=>?_⟩
   ·simp only[kK]
    rw[hb]
    simp only[vab]
    by_cases hl:Op.bytesLess a[i] s=true
    ·rw[vap hl,vap hl,cB _ i hi]
     simp only[vab]
     rw[ec (by simp;omega)]
     rfl
    ·rw[vat hl,vat hl]
     rfl
   ·by_cases hl:Op.bytesLess a[i] s=true
    ·rw[vap hl]at hs';cases hs';simp;omega
    ·rw[vat hl]at hs';cases hs') (fun out _=>by
   have hb:lE a s a.length=some false:=by
    simp only[lE]
    rw[vat (by simp)]
   simp only[kK]
   rw[hb]
   simp[Pu]) 0 [] (vaI _) rfl
 simp only[Int.ofNat_zero,vbk]at this
 have hm:=Ig Pu (fun i x (out:List ag)=>if Op.bytesLess x s=true then(Sum.inl (out++[x]):List ag⊕(List ag×Nat))else .inr (out,i)) (fun out=>(out,0+a.length)) a 0 []
 rw[this.trans (vbo some hm),M1 s a 0 []]
 simp only[va1,vaE,vab,Pu]
 have hk:=RD s a
 rw[ec (by simp;omega)]
 simp only[vab]
 have hj:rS a s (kk s a)=some ((kk s a+if(a[kk s a]? ==some s)=true then 1 else 0:Nat):Int):=by
  unfold rS ym
  by_cases hlt:kk s a<a.length
  ·rw[vap (by simp;omega),cB _ _ hlt]
   simp only[vab,vaa hlt]
   have e:(some a[kk s a]==some s)=(a[kk s a]==s):=rfl
   rw[e]
   by_cases h:(a[kk s a]==s)=true
   ·rw[vap h,vap h,kn (by omega) (by omega)]
    rfl
   ·rw[vat h,vat h]
    rfl
  ·have hn:a[kk s a]? =none:=by simp;omega
   rw[vat (by simp;omega),hn]
   rfl
 rw[hj]
 simp only[vab]
 have hle:kk s a+(if(a[kk s a]? ==some s)=true then 1 else 0)<=a.length:=by
  by_cases hlt:kk s a<a.length
  ·split<;>omega
  ·have hn:a[kk s a]? =none:=by simp;omega
   rw[hn]
   simp
   omega
 rw[Gp a _ hle]
 simp only[vab]
 rw[ec (by simp;omega),Ph]
 simp
theorem zd{α σ:Type}(g:σ->α->σ):∀(l:List α) (i:Nat) (s:σ),lm (fun _ x s=>(Sum.inl (g s x):σ⊕σ)) (fun s=>s) l i s=l.foldl g s
 |[],i,s=>rfl
 |x::l,i,s=>zd g l (i+1) (g s x)
theorem yL:∀(l out:List ag),Eg out->Eg (l.foldl (fun o x=>Fo x o) out)/\(∀x,x∈l.foldl (fun o x=>Fo x o) out↔x∈out\/x∈l)/\(l.foldl (fun o x=>Fo x o) out).length<=out.length+l.length
 |[],out,h=>⟨h,by simp,by simp⟩
 | y :: l,out,h => by
  obtain⟨h1,h2,h3⟩:=yL l (Fo y out) (ML y h)
  have:=D6 y out
  refine⟨h1,fun x=>?_,by simp only[List.foldl_cons,vaR];omega⟩
  rw[List.foldl_cons,h2,Jg,vaD]
  constructor
  ·rintro((h|h)|h)<;>simp[h]
  ·rintro(h|h|h)<;>simp[h]
theorem zq(a b:List ag)(ha:a.length<=400000000)(hb:b.length<=400000000):nR a b=some (tV a b):=by
 unfold nR rN rO
 have t1:=jQ a (by omega) (fun i (out:List ag)=>(out,i)) (fun zz=>ir a a.length zz.1 zz.2) (fun i out=>out.length<=i) (fun _ x out=>(Sum.inl (Fo x out):List ag⊕List ag)) (fun o=>o) (fun i hi out hI=>by
   refine⟨?_,fun s' hs'=>?_⟩
   ·simp only[ir]
    rw[vap (by simp;omega),cB _ i hi]
    simp only[vab]
    rw[Et _ _ (by omega)]
    rfl
   ·cases hs'
    have:=D6 a[i] out
    omega) (fun out _=>by simp only[ir];rw[vat (by simp)]) 0 [] (vaI _) (van _)
 simp only[Int.ofNat_zero,vbk]at t1
 rw[zd (fun o x=>Fo x o)]at t1
 obtain⟨f1,f2,f3⟩:=yL a [] (by simp[Eg])
 have t2:=jQ b (by omega) (fun i (out:List ag)=>(out,i)) (fun zz=>iu b b.length zz.1 zz.2) (fun i out=>out.length<=400000000+i) (fun _ x out=>(Sum.inl (Fo x out):List ag⊕List ag)) (fun o=>o) (fun i hi out hI=>by
   refine⟨?_,fun s' hs'=>?_⟩
   ·simp only[iu]
    rw[vap (by simp;omega),cB _ i hi]
    simp only[vab]
    rw[Et _ _ (by omega)]
    rfl
   ·cases hs'
    have:=D6 b[i] out
    omega) (fun out _=>by simp only[iu];rw[vat (by simp)]) 0 (a.foldl (fun o x=>Fo x o) []) (vaI _) (by simp at f3;omega)
 simp only[Int.ofNat_zero,vbk]at t2
 rw[zd (fun o x=>Fo x o)]at t2
 rw[t1]
 simp only[vab]
 rw[t2]
 simp only[vab,vas]
 obtain⟨g1,g2,_⟩:=yL b _ f1
 obtain⟨u1,u2⟩:=zf a b
 refine sO g1 u1 fun x=>?_
 rw[g2,f2,u2]
 simp
mutual
def nP:aa->Nat
 |⟨_,_,_,ks⟩=>nL ks+1
def nL:List aa->Nat
 |[]=>0
 |p::ps=>nP p+nL ps
end
theorem H1(p:aa):nP p=nL p.Kids+1:=by obtain⟨o,n,k,ks⟩:=p;rw[nP];rfl
theorem Sx(p:aa):1<=nP p:=by rw[H1];omega
theorem FA:∀{l:List aa} {x:aa},x∈l->nP x<=nL l
 | y :: l,x,h => by
  rw[nL]
  rcases vaD.1 h with rfl|h
  ·omega
  ·have:=FA h;omega
theorem BE:∀(l:List aa),l.length<=nL l
 |[]=>by simp[nL]
 |p::l=>by rw[nL];have:=BE l;have:=Sx p;simp only[vaR];omega
theorem oG{p x:aa}(h:x∈p.Kids):nP x<nP p:=by rw[H1 p];have:=FA h;omega
theorem oH(p:aa):p.Kids.length<nP p:=by rw[H1];have:=BE p.Kids;omega
theorem qW:∀(a b:List aa),nL (a++b)=nL a+nL b
 |[],b=>by simp[nL]
 |p::a,b=>by rw[vbu,nL,qW a b,nL];omega
mutual
theorem RE:∀(p:aa),nP p<=yY (ac p)
 |⟨o,n,k,ks⟩=>by
  have:=KD ks
  rw[nP,aQ]
  simp only[yY,pm,sl]
  show nL ks+1<=1+(n.length+1+(1+(nK (ks.map ac)+1+0)))
  omega
theorem KD:∀(l:List aa),nL l<=nK (l.map ac)
 |[]=>by simp[nL]
 |p::l=>by
  have:=RE p
  have:=KD l
  rw[nL]
  simp only[vaB,nK]
  omega
end
mutual
def UV:aa->aa->Bool
 |⟨o,n,k,ks⟩,⟨o',n',k',ks'⟩=>(o==o')&&((n==n')&&((k==k')&&Sq ks ks'))
def Sq:List aa->List aa->Bool
 |[],[]=>true
 |x::xs,y::ys=>UV x y&&Sq xs ys
 |_,_=>false
end
mutual
theorem MC:∀(a b:aa),UV a b=true↔a=b
 |⟨o,n,k,ks⟩,⟨o',n',k',ks'⟩=>by
  rw[UV]
  have:=MB ks ks'
  simp only[vag,vaX,this,aa.mk.injEq]
theorem MB:∀(a b:List aa),Sq a b=true↔a=b
 |[],[]=>by simp[Sq]
 |x::xs,y::ys=>by
  rw[Sq]
  have h1:=MC x y
  have h2:=MB xs ys
  simp only[vag,h1,h2,vbs]
 |[],y::ys=>by simp[Sq]
 |x::xs,[]=>by simp[Sq]
end
instance:DecidableEq aa:=fun a b=>decidable_of_iff _ (MC a b)
theorem qR(p:aa):(⟨p.Op,p.Name,p.N,p.Kids⟩:aa)=p:=by cases p;rfl
theorem Og{a b:aa}:a=b↔a.Op=b.Op/\a.Name=b.Name/\a.N=b.N/\a.Kids=b.Kids:=by
 cases a;cases b
 simp only[aa.mk.injEq]
 rfl
theorem Nb{α:Type}[DecidableEq α]:∀{a b:List α},a.length=b.length->(a.zip b).any (fun x=>decide (x.1≠x.2))= !decide (a=b)
 |[],[],_=>by simp
 |x::a,y::b,h=>by
  have ih:=Nb (a:=a) (b:=b) (by simpa using h)
  rw[List.zip_cons_cons,List.any_cons,ih]
  by_cases h1:x=y<;>by_cases h2:a=b<;>simp[h1,h2]
theorem Pq{α X:Type}[DecidableEq α]{a b:List α}(hl:a.length=b.length)(ha:a.length<9223372036854775808)(body:Int->Option (Int⊕X))(y e:X)
  (hin:∀(i:Nat) (h:i<a.length) (h':i<b.length),body i=some (if decide (a[i]=b[i])=true then .inl (bL ((i:Int)+1))else .inr y)) (hend:body a.length=some (.inr e)):loop body 0=some (if decide (a=b)=true then e else y):=by
 have hz:(a.zip b).length=a.length:=by simp[hl]
 have:=KA (a.zip b) (by omega) body (fun x=>decide (x.1≠x.2)) y e (fun i h=>?_) (by rw[hz];exact hend) 0 (vaI _)
 ·rw[vbk,Nb hl]at this
  rw[show((0:Nat):Int)=0 from rfl]at this
  rw[this]
  by_cases h:a=b<;>simp[h]
 ·have h1:i<a.length:=by omega
  have h2:i<b.length:=by omega
  rw[hin i h1 h2]
  have hzi:(a.zip b)[i]=(a[i],b[i]):=by simp
  rw[hzi]
  by_cases h:a[i]=b[i]<;>simp[h]
abbrev cm:Nat:=1073741824
theorem kb{n:Nat}(h:n<=cm):n<QD:=by have:=Sl;unfold cm at h;omega
theorem Nw(p:aa)(hp:nP p<=cm):mJ p=some p:=by
 refine nH (F:=mm) nP (fun x=>nP x<=cm) id (fun R x hx ih=>?_) p hp (kb hp)
 unfold mm qI oQ
 have hlen:=oH x
 rw[KB x.Kids (by unfold cm at hx;omega) (fun i s=>(i,s)) _ id id (fun i hi s hs=>?_) (fun s=>?_)]
 ·simp[qR]
 ·unfold iY
  rw[vap (by simp;omega),cB x.Kids i hi]
  simp only[vab]
  have hm:=vaw hi
  rw[ih _ (oG hm) (vcJ (vaF (oG hm) hx))]
  simp only[vab]
  rw[ec (by unfold cm at hx;simp;omega)]
  rfl
 ·unfold iY
  rw[vat (by simp)]
  rfl
theorem PT(a b:aa)(hb:nP b<=cm):jr a b=some (decide (a=b)):=by
 refine nH (F:=yp) (fun x=>nP x.2) (fun x=>nP x.2<=cm) (fun x=>decide (x.1=x.2)) (fun R x hx ih=>?_) (a,b) hb (kb hb)
 obtain⟨u,v⟩:=x
 have hx:nP v<=cm:=hx
 show sa (fun a a2=>R (a,a2)) u v=some (decide (u=v))
 unfold sa uw
 have hk:=oH v
 by_cases h1:u.Op=v.Op
 ·by_cases h2:u.Name=v.Name
  ·by_cases h3:u.N=v.N
   ·by_cases h4:u.Kids.length=v.Kids.length
    ·rw[vat (by simpa using h1),vat (by simpa using h2),vat (by simpa using h3)]
     simp only[h4,bne_self_eq_false,vab,if_false,va4]
     unfold uy
     rw[<-h4,Pq h4 (by unfold cm at hx;omega) _ (.inl ()) (.inr ()) (fun i g1 g2=>?_) ?_]
     ·by_cases he:u.Kids=v.Kids<;>simp[he,Og (a:=u) (b:=v),h1,h2,h3]
     ·unfold mb
      rw[vat (by simp)]
     ·unfold mb
      rw[vap (by simp;omega),cB u.Kids i g1]
      simp only[vab]
      rw[cB v.Kids i g2]
      simp only[vab]
      have hm:=vaw g2
      rw[ih (u.Kids[i],v.Kids[i]) (oG hm) (vcJ (vaF (oG hm) hx))]
      by_cases he:u.Kids[i]=v.Kids[i]<;>simp[he]
    ·have hne:u≠v:=fun e=>h4 (by rw[e])
     rw[vat (by simpa using h1),vat (by simpa using h2),vat (by simpa using h3)]
     have hb:((u.Kids.length:Int)!=(v.Kids.length:Int))=true:=by simp;omega
     simp[hb,hne]
   ·have hne:u≠v:=fun e=>h3 (by rw[e])
    rw[vat (by simpa using h1),vat (by simpa using h2),vap (by simpa using h3)]
    simp[hne]
  ·have hne:u≠v:=fun e=>h2 (by rw[e])
   rw[vat (by simpa using h1),vap (by simpa using h2)]
   simp[hne]
 ·have hne:u≠v:=fun e=>h1 (by rw[e])
  rw[vap (by simpa using h1)]
  simp[hne]
def Gz:aa:=⟨0,[],0,[]⟩
theorem Q0:nP Gz<=cm:=by decide
theorem If{α σ X:Type}(g:α->σ->σ)(e:σ->X):∀(l:List α) (i:Nat) (s:σ),lm (fun _ x (s:σ)=>(Sum.inl (g x s):σ⊕X)) e l i s=e (l.foldl (fun s x=>g x s) s)
 |[],i,s=>by simp[lm]
 |x::l,i,s=>by
  unfold lm
  simp only
  rw[If g e l (i+1) (g x s)]
  rfl
theorem NP{α σ τ X:Type}(l:List α)(hl:l.length<9223372036854775808)(mk:Int->σ->τ)(body:τ->Option (τ⊕X))(I:Nat->σ->Prop)(g:α->σ->σ)(e:σ->X)(s0:σ)(h0:I 0 s0)
  (hin:∀(i:Nat) (h:i<l.length) s,I i s->body (mk i s)=some (.inl (mk (bL ((i:Int)+1)) (g l[i] s)))/\I (i+1) (g l[i] s)) (hend:∀s,I l.length s->body (mk l.length s)=some (.inr (e s))):
  loop body (mk 0 s0)=some (e (l.foldl (fun s x=>g x s) s0)):=by
 have:=jQ l hl mk body I (fun _ x s=>.inl (g x s)) e (fun i h s hs=>⟨(hin i h s hs).1,fun s' hs'=>by cases hs';exact(hin i h s hs).2⟩) (fun s hs=>hend s hs) 0 s0 (vaI _) h0
 rw[If]at this
 exact this
theorem zR(l:List aa)(i:Nat)(h:i<l.length):nL (l.take (i+1))=nL (l.take i)+nP l[i]:=by
 rw[va2 h,qW]
 simp[nL]
theorem oJ(l:List aa)(i:Nat):nL (l.take i)<=nL l:=by
 have:=qW (l.take i) (l.drop i)
 rw[vcq]at this
 omega
theorem MI:∀(l:List aa) (a:Int),l.foldl (fun s x=>s+(nP x:Int)) a=a+(nL l:Int)
 |[],a=>by simp[nL]
 |x::l,a=>by rw[List.foldl_cons,MI l,nL];omega
theorem Ab(p:aa)(hp:nP p<=cm):nS p=some (nP p:Int):=by
 refine nH (F:=uv) nP (fun x=>nP x<=cm) (fun x=>(nP x:Int)) (fun R x hx ih=>?_) p hp (kb hp)
 show pB (fun p=>R p) x=_
 unfold pB rZ
 have hlen:=oH x
 have hn:=H1 x
 rw[NP x.Kids (by unfold cm at hx;omega) (fun i s=>(s,i)) _ (fun i s=>s=1+(nL (x.Kids.take i):Int)) (fun x s=>s+(nP x:Int)) id 1 (by simp[nL]) (fun i hi s hs=>?_) (fun s _=>?_)]
 ·rw[MI]
  simp only[id,vab]
  rw[hn];congr 1;omega
 ·have hm:=vaw hi
  have hk:=oG hm
  refine⟨?_,by rw[zR _ _ hi,hs];omega⟩
  unfold kL
  rw[vap (by simp;omega),cB x.Kids i hi]
  simp only[vab]
  rw[ih _ hk (by omega)]
  simp only[vab]
  have h1:=oJ x.Kids i
  have h2:=oJ x.Kids (i+1)
  have h3:=zR x.Kids i hi
  unfold cm at hx
  rw[kn (n:=s+_) (by omega) (by omega)]
 ·unfold kL
  rw[vat (by simp)]
  rfl
theorem O4{l:List ag}{v:ag}:(match l.findIdx? (fun x=>x==v)with|some j=>(j:Int)|none=>-1)>=0↔v∈l:=by
 cases h:l.findIdx? (fun x=>x==v)with
 | none =>
  rw[vby]at h
  simp only
  constructor
  ·intro h';omega
  ·intro hm;have:=h v hm;simp at this
 | some j =>
  obtain⟨hj,h1,_⟩:=vbw.1 h
  simp only
  constructor
  ·intro _
   have:l[j]=v:=by simpa using h1
   exact this▸vaw hj
  ·intro _;omega
theorem Ks(l:List ag)(v:ag)(hl:l.length<9223372036854775808):lr l v=some (match l.findIdx? (fun x=>x==v)with|some j=>(j:Int)|none=>-1):=by
 unfold lr na
 have h:=HX l hl (fun zz=>dt l v (l.length:Int) zz) (fun x=>x==v) (fun j=>Sum.inl (j:Int)) (.inr ()) (fun i hi=>?_) ?_
 ·rw[h]
  simp only[vab]
  cases l.findIdx? (fun x=>x==v)<;>rfl
 ·show dt l v (l.length:Int) (i:Int)=_
  unfold dt
  rw[vap (by simp;omega),cB l i hi]
  simp only[vab]
  by_cases he:v=l[i]
  ·subst he;simp
  ·have he':¬l[i]=v:=fun h=>he h.symm
   simp[he,he']
 ·show dt l v (l.length:Int) (l.length:Int)=_
  unfold dt
  rw[vat (by simp)]
theorem pM(l:List ag)(v:ag)(hl:l.length<9223372036854775808):dz l v=some (decide (v∈l)):=by
 unfold dz
 rw[Ks l v hl]
 simp only[vab]
 congr 1
 exact decide_eq_decide.2 O4
def ga{α:Type}(o:Option α)(Q:α->Prop):Prop:=∃a,o=some a/\Q a
section
variable{α β σ τ X Y:Type}
theorem ak{a:α}{Q:α->Prop}(h:Q a):ga (some a) Q:=⟨a,rfl,h⟩
theorem Cd{o:Option α}{a:α}{Q:α->Prop}(e:o=some a)(h:Q a):ga o Q:=⟨a,e,h⟩
theorem av{o:Option α}{f:α->Option β}{R:α->Prop}{Q:β->Prop}(h:ga o R)(h':∀a,R a->ga (f a) Q):ga (o.bind f) Q:=by
 obtain⟨a,rfl,h⟩:=h
 exact h' a h
theorem ck{o:Option α}{a:α}{f:α->Option β}{Q:β->Prop}(e:o=some a)(h:ga (f a) Q):ga (o.bind f) Q:=by
 rw[e];exact h
theorem ga.mono{o:Option α}{Q R:α->Prop}(h:ga o Q)(h':∀a,Q a->R a):ga o R:=by
 obtain⟨a,e,h⟩:=h
 exact⟨a,e,h' a h⟩
theorem aF{c:Prop}[Decidable c]{a b:Option α}{Q:α->Prop}(h1:c->ga a Q)(h2:¬c->ga b Q):ga (if c then a else b) Q:=by
 by_cases h:c
 ·rw[vap h];exact h1 h
 ·rw[vat h];exact h2 h
theorem rx{F:(X->Option Y)->X->Option Y}(μ:X->Nat)(P:X->Prop)(Q:X->Y->Prop)(h:∀(R:X->Option Y) x,P x->(∀y,μ y<μ x->P y->ga (R y) (Q y))->ga (F R x) (Q x))(x:X)(hx:P x)(hm:μ x<QD):ga (lH F x) (Q x):=by
 have key:∀n x,μ x<n->P x->ga (T0 F n x) (Q x):=by
  intro n
  induction n with
  |zero=>intro x hx;omega
  |succ n ih=>intro x hx hq;exact h _ x hq fun y hy hqy=>ih y (by omega) hqy
 exact key _ x hm hx
theorem wI(l:List α)(hl:l.length<9223372036854775808)(mk:Int->σ->τ){body:τ->Option (τ⊕X)}(I:Nat->σ->Prop){Q:X->Prop}
  (hin:∀(i:Nat) (h:i<l.length) s,I i s->ga (body (mk i s)) (fun r=>match r with|.inl t=>∃s',t=mk (bL ((i:Int)+1)) s'/\I (i+1) s'|.inr y=>Q y))
  (hend:∀s,I l.length s->ga (body (mk l.length s)) (fun r=>match r with|.inl _=>False|.inr y=>Q y)):∀s,I 0 s->ga (loop body (mk 0 s)) Q:=by
 have key:∀k i s,k+i=l.length->I i s->ga (loop body (mk (i:Int) s)) Q:=by
  intro k
  induction k with
  |zero=>
   intro i s hi hI
   have:i=l.length:=by omega
   subst this
   obtain⟨r,e,hr⟩:=hend s hI
   rw[sQ,e]
   cases r with
   |inl _=>exact hr.elim
   |inr y=>exact⟨y,rfl,hr⟩
  | succ k ih =>
   intro i s hi hI
   obtain⟨r,e,hr⟩:=hin i (by omega) s hI
   rw[sQ,e]
   cases r with
   |inl t=>
    obtain⟨s',rfl,hI'⟩:=hr
    simp only
    rw[kn (by omega) (by omega),show((i:Int)+1)=((i+1:Nat):Int) by omega]
    exact ih (i+1) s' (by omega) hI'
   |inr y=>exact⟨y,rfl,hr⟩
 exact fun s hs=>key l.length 0 s (by omega) hs
end
section
variable{α β σ τ X Y:Type}
theorem BC(l:List α)(hl:l.length<=1073741824)(mk:Int->List β->τ)(body:τ->Option (τ⊕X))(h:α->Option β)(g:α->β)(e:List β->X)
  (hb:∀(i:Int) (s:List β),body (mk i s)=if decide (i<(l.length:Int))=true then(dT l i).bind (fun x=>(h x).bind fun r=>(app s ([r]:List β)).bind fun q=>some (.inl (mk (bL (i+1)) q)))else some (.inr (e s)))
  (hg:∀x∈l,h x=some (g x)):loop body (mk 0 [])=some (e (l.map g)):=by
 refine KB l (by omega) mk body g e (fun i hi s hs=>?_) (fun s=>?_)
 ·rw[hb,vap (by simp;omega),cB l i hi]
  simp only[vab]
  rw[hg _ (vaw hi)]
  simp only[vab]
  rw[ec (by simp;omega)]
  rfl
 ·rw[hb,vat (by simp)]
theorem lK(l:List α)(hl:l.length<9223372036854775808)(mk:Int->σ->τ)(body:τ->Option (τ⊕X))(k:Int->σ->α->Option (τ⊕X))(I:Nat->σ->Prop)(g:α->σ->σ)(e:σ->X)(s0:σ)(h0:I 0 s0)
  (hb:∀(i:Int) (s:σ),body (mk i s)=if decide (i<(l.length:Int))=true then(dT l i).bind (k i s)else some (.inr (e s)))
  (hin:∀(i:Nat) (h:i<l.length) s,I i s->k i s l[i]=some (.inl (mk (bL ((i:Int)+1)) (g l[i] s)))/\I (i+1) (g l[i] s)):loop body (mk 0 s0)=some (e (l.foldl (fun s x=>g x s) s0)):=by
 have:=jQ l hl mk body I (fun _ x s=>.inl (g x s)) e (fun i h s hs=>⟨?_,fun s' hs'=>by cases hs';exact(hin i h s hs).2⟩) (fun s hs=>by rw[hb,vat (by simp)]) 0 s0 (vaI _) h0
 ·rw[vbk,show((0:Nat):Int)=0 from rfl]at this
  rw[this]
  have key:∀(l:List α) (i:Nat) (s:σ),lm (fun _ x (s:σ)=>(Sum.inl (g x s):σ⊕X)) e l i s=e (l.foldl (fun s x=>g x s) s):=by
   intro l
   induction l with
   |nil=>intro i s;rfl
   |cons x l ih=>intro i s;unfold lm;simp only;rw[ih];rfl
  rw[key]
 ·rw[hb,vap (by simp;omega),cB l i h]
  simp only[vab]
  exact(hin i h s hs).1
theorem Ce(l:List α)(hl:l.length<9223372036854775808)(mk:Int->σ->τ){body:τ->Option (τ⊕X)}(k:Int->σ->α->Option (τ⊕X))(e:σ->X)(I:Nat->σ->Prop){Q:X->Prop}
  (hb:∀(i:Int) (s:σ),body (mk i s)=if decide (i<(l.length:Int))=true then(dT l i).bind (k i s)else some (.inr (e s)))
  (hin:∀(i:Nat) (h:i<l.length) s,I i s->ga (k i s l[i]) (fun r=>match r with|.inl t=>∃s',t=mk (bL ((i:Int)+1)) s'/\I (i+1) s'|.inr y=>Q y))
  (hend:∀s,I l.length s->Q (e s)):∀s,I 0 s->ga (loop body (mk 0 s)) Q:=
 wI l hl mk I (fun i h s hs=>by
  rw[hb,vap (by simp;omega),cB l i h]
  exact hin i h s hs) (fun s hs=>by
  rw[hb,vat (by simp)]
  exact⟨_,rfl,hend s hs⟩)
theorem Oh(l:List α)(hl:l.length<9223372036854775808){body:Int->Option (Int⊕X)}(k:Int->α->Option (Int⊕X))(e:X)(I:Nat->Prop){Q:X->Prop}
  (hb:∀(i:Int),body i=if decide (i<(l.length:Int))=true then(dT l i).bind (k i)else some (.inr e))
  (hin:∀(i:Nat) (h:i<l.length),I i->ga (k i l[i]) (fun r=>match r with|.inl t=>t=bL ((i:Int)+1)/\I (i+1)|.inr y=>Q y))
  (hend:I l.length->Q e) (h0:I 0):ga (loop body 0) Q:=
 Ce l hl (fun i (_:Unit)=>i) (fun i _=>k i) (fun _=>e) (fun i _=>I i) (fun i _=>hb i) (fun i h s hs=>(hin i h hs).mono fun r hr=>by
  cases r with
  |inl t=>exact⟨(),hr.1,hr.2⟩
  |inr y=>exact hr) (fun _ h=>hend h) () h0
end
def pn{α:Type}(p:α->α->Bool):List α->List α->Bool
 |[],[]=>true
 |x::a,y::b=>p x y&&pn p a b
 |_,_=>false
theorem J6{α:Type}{p:α->α->Bool}:∀{a b:List α},pn p a b=true->a.length=b.length
 |[],[],_=>rfl
 |x::a,y::b,h=>by
  rw[pn,vag]at h
  simp[J6 h.2]
 |[],y::b,h=>by simp[pn]at h
 |x::a,[],h=>by simp[pn]at h
theorem Qp{α:Type}{p:α->α->Bool}:∀{a b:List α},a.length≠b.length->pn p a b=false:=fun{a b} h=>by
 rw[vcf]
 exact fun he=>h (J6 he)
theorem Ms{α:Type}[DecidableEq α]:∀{a b:List α},pn (fun x y=>decide (x=y)) a b=decide (a=b)
 |[],[]=>by simp[pn]
 |x::a,y::b=>by
  rw[pn,Ms]
  by_cases h1:x=y<;>by_cases h2:a=b<;>simp[h1,h2]
 |[],y::b=>by simp[pn]
 |x::a,[]=>by simp[pn]
theorem J7{α:Type}{p:α->α->Bool}:∀{a b:List α},a.length=b.length->(a.zip b).any (fun x=>!p x.1 x.2)= !pn p a b
 |[],[],_=>rfl
 |x::a,y::b,h=>by
  rw[List.zip_cons_cons,List.any_cons,J7 (by simpa using h),pn]
  cases p x y<;>rfl
theorem HY{α X:Type}{a b:List α}(hl:a.length=b.length)(ha:a.length<9223372036854775808)(body:Int->Option (Int⊕X))(k:Int->α->α->Option (Int⊕X))(p:α->α->Bool)(y e:X)
  (hb:∀(i:Int),body i=if decide (i<(a.length:Int))=true then(dT a i).bind (fun x=>(dT b i).bind (k i x))else some (.inr e))
  (hk:∀x∈a,∀z∈b,∀i,k i x z=some (if p x z=true then .inl (bL (i+1))else .inr y)):loop body 0=some (if pn p a b=true then e else y):=by
 have hz:(a.zip b).length=a.length:=by simp[hl]
 have:=KA (a.zip b) (by omega) body (fun x=>!p x.1 x.2) y e (fun i h=>?_) (by rw[hb,vat (by simp[hz])]) 0 (vaI _)
 ·rw[vbk,J7 hl]at this
  rw[show((0:Nat):Int)=0 from rfl]at this
  rw[this]
  by_cases h:pn p a b=true<;>simp[h]
 ·have h1:i<a.length:=by omega
  have h2:i<b.length:=by omega
  rw[hb,vap (by simp;omega),cB a i h1]
  simp only[vab]
  rw[cB b i h2]
  simp only[vab]
  rw[hk _ (vaw h1) _ (vaw h2)]
  have hzi:(a.zip b)[i]=(a[i],b[i]):=by simp
  rw[hzi]
  by_cases h:p a[i] b[i]=true<;>simp[h]
theorem HO{α:Type}(l:List α)(h:l.length<=1073741824):vj l=some l:=vap h
mutual
def dP:aa->Nat
 |⟨_,_,_,ks⟩=>dL ks+1
def dL:List aa->Nat
 |[]=>0
 |p::ps=>max (dP p) (dL ps)
end
theorem TX(p:aa):dP p=dL p.Kids+1:=by obtain⟨o,n,k,ks⟩:=p;rw[dP];rfl
mutual
theorem Ry:∀(p:aa),dP p<=nP p
 |⟨o,n,k,ks⟩=>by have:=Rx ks;rw[dP,nP];omega
theorem Rx:∀(l:List aa),dL l<=nL l
 |[]=>by simp[dL]
 |p::l=>by have:=Ry p;have:=Rx l;rw[dL,nL];omega
end
theorem MH:∀(l:List aa) (a:Nat),l.foldl (fun(s:Int) x=>if(dP x:Int)>s then(dP x:Int)else s) (a:Int)=((max a (dL l):Nat):Int)
 |[],a=>by simp[dL]
 |x::l,a=>by
  rw[List.foldl_cons,show(if(dP x:Int)>(a:Int)then(dP x:Int)else(a:Int))=((max a (dP x):Nat):Int) by split<;>omega,MH l,dL,Nat.max_assoc]
theorem OZ(p:aa)(hp:nP p<=cm):Bh p=some (dP p:Int):=by
 refine nH (F:=uq) nP (fun x=>nP x<=cm) (fun x=>(dP x:Int)) (fun R x hx ih=>?_) p hp (kb hp)
 show pA (fun p=>R p) x=_
 unfold pA rX
 have hlen:=oH x
 have hd:=Ry x
 have he:=TX x
 have hz:(0:Int)=((0:Nat):Int):=rfl
 rw[lK x.Kids (by unfold cm at hx;omega) (fun i s=>(s,i)) _ (fun i s x=>(R x).bind fun r=>some (.inl ((if r>s then r else s),bL (i+1)))) (fun _ _=>True) (fun x s=>if(dP x:Int)>s then(dP x:Int)else s) id 0 trivial (fun i s=>rfl) (fun i hi s _=>⟨?_,trivial⟩)]
 ·rw[hz,MH]
  simp only[id,vab]
  unfold cm at hx
  rw[kn (by omega) (by omega)]
  congr 1;omega
 ·have hm:=vaw hi
  have hk:=oG hm
  rw[ih _ hk (by omega)]
  rfl
def kC(ns:List ag)(bs:List aa)(n:ag):Option aa:=(ns.findIdx? (fun x=>x==n)).bind fun j=>bs[j]?
mutual
def Ea(f:ag->Option aa):aa->aa
 |⟨o,n,k,ks⟩=>(if o=3 then f n else none).getD ⟨o,n,k,Om f ks⟩
def Om(f:ag->Option aa):List aa->List aa
 |[]=>[]
 |p::ps=>Ea f p::Om f ps
end
theorem D9(f:ag->Option aa):∀(l:List aa),Om f l=l.map (Ea f)
 |[]=>by rw[Om];rfl
 |p::l=>by rw[Om,D9 f l];rfl
theorem SD(f:ag->Option aa)(p:aa):Ea f p=(if p.Op=3 then f p.Name else none).getD ⟨p.Op,p.Name,p.N,p.Kids.map (Ea f)⟩:=by
 obtain⟨o,n,k,ks⟩:=p
 rw[Ea,D9];rfl
mutual
theorem RG(f:ag->Option aa)(M:Nat)(hM:1<=M)(hf:∀n q,f n=some q->nP q<=M):∀(p:aa),nP (Ea f p)<=nP p * M
 | ⟨o,n,k,ks⟩ => by
  have:=PU f M hM hf ks
  rw[Ea]
  cases h:(if o=3 then f n else none)with
  |none=>
   simp only[Option.getD_none]
   rw[nP,nP,vaT];omega
  | some q =>
   simp only[Option.getD_some]
   have:f n=some q:=by
    split at h
    ·exact h
    ·cases h
   have:=hf n q this
   rw[nP,vaT]
   have:0<=nL ks * M:=vaI _
   omega
theorem PU(f:ag->Option aa)(M:Nat)(hM:1<=M)(hf:∀n q,f n=some q->nP q<=M):∀(l:List aa),nL (Om f l)<=nL l * M
 |[]=>by simp[Om,nL]
 |p::l=>by
  have:=RG f M hM hf p
  have:=PU f M hM hf l
  rw[Om,nL,nL,vaT];omega
end
theorem Po{ns:List ag}{bs:List aa}{n:ag}{q:aa}(h:kC ns bs n=some q):q∈bs:=by
 unfold kC at h
 cases hf:ns.findIdx? (fun x=>x==n)with
 |none=>rw[hf]at h;cases h
 |some j=>
  rw[hf]at h
  exact vaA h
theorem Q7(ns:List ag)(bs:List aa)(p:aa)(hn:ns.length<9223372036854775808)(hb:∀q∈bs,nP q<=cm):iX ns bs p=some ((if p.Op=3 then kC ns bs p.Name else none).elim (.inr ()) (fun q=>.inl (q.Op,q.Name,q.N,q.Kids))):=by
 unfold iX lQ kC sT
 by_cases h1:p.Op=3
 ·rw[vap (by simpa using h1),Ks ns p.Name hn,vap h1]
  simp only[vab]
  cases hf:ns.findIdx? (fun x=>x==p.Name)with
  |none=>rfl
  | some j =>
   simp only[vab]
   rw[vap (vbd (show(j:Int)>=0 by omega))]
   simp only[vab]
   by_cases h2:j<bs.length
   ·rw[vap (vbd (by omega)),cB bs j h2,vaa h2]
    simp only[vab]
    rw[Nw _ (hb _ (vaw h2))]
    rfl
   ·rw[vat (by simp;omega),vaz (by omega)]
    rfl
 ·rw[vat (by simpa using h1),vat h1]
  rfl
theorem Q8(p:aa)(ns:List ag)(bs:List aa)(hp:nP p<=cm)(hn:ns.length<9223372036854775808)(hb:∀q∈bs,nP q<=cm):ml p ns bs=some (Ea (kC ns bs) p):=by
 refine nH (F:=mU) (fun x=>nP x.1) (fun x=>nP x.1<=cm/\x.2=(ns,bs)) (fun x=>Ea (kC x.2.1 x.2.2) x.1) (fun R x hx ih=>?_) (p,ns,bs) ⟨hp,rfl⟩ (kb hp)
 obtain⟨p,ns',bs'⟩:=x
 obtain⟨hx,he⟩:=hx
 cases he
 have hx:nP p<=cm:=hx
 show j5 (fun p names a=>R (p,names,a)) p ns bs=some (Ea (kC ns bs) p)
 unfold j5
 rw[Q7 ns bs p hn hb,SD]
 cases h:(if p.Op=3 then kC ns bs p.Name else none)with
 |some q=>
  simp only[Option.elim,vab,qR,Option.getD_some]
 |none=>
  simp only[Option.elim,vab,Option.getD_none]
  unfold lR
  have hlen:=oH p
  rw[BC p.Kids (by unfold cm at hx;omega) (fun i s=>(i,s)) _ (fun y=>R (y,ns,bs)) (Ea (kC ns bs)) id (fun i s=>rfl) (fun y hy=>ih (y,ns,bs) (oG hy) ⟨by have:=oG hy;show nP y<=cm;omega,rfl⟩)]
  rfl
end Go.Proofs.YtggeppllafbidaaGreatDoor
