/- PROVED: a part of the proof. Conditions: none. -/
import Derived.Test.YtggeppllafbidaaGreatDoorPkF14
import Derived.Test.YtggeppllafbidaaGreatDoorPkF8
noncomputable section
namespace Go.Proofs.YtggeppllafbidaaGreatDoor
open Go Go.Proofs.Tryz
set_option linter.unusedVariables false
set_option maxRecDepth 100000
noncomputable def SE:Code:=f145.body.getD .skip
def Q5:List Nat:=[11,23]
section
variable(R128:xu)(t13:waB)(t14:Int)(t15:Int)
def lc:ax:=aP 25 [(13,sl ac t13),(14,.int .i64 t14),(15,.int .i64 t15)] [.dead] []
def lh(o:Int⊕(Unit)):Exit:=match o with
 |(.inl _)=>.ret
 |(.inr _)=>.exit 0
def iY(o:Int⊕(Unit)):ax:=match o with
 |(.inl o)=>aP 25 [(2,.int .i64 o)] [.dead] []
 |(.inr o)=>aP 25 [] [.dead] []
def eM:Option (Int⊕(Int⊕(Unit))):=
 if(decide (t15<t14))=true then
  (dt t13 t15).bind fun x5=>
  (R128 x5).bind fun r6=>
  if(r6 !=0)=true then
   some (.inr (.inl r6))
  else
   some (.inl (bA (t15+1)))
 else
  some (.inr (.inr ()))
def pK:Option (Int⊕(Unit)):=loop (fun(zz:Int)=>eM R128 t13 t14 zz) t15
theorem GR(hR128:BP R128){y:Int⊕(Int⊕(Unit))}(h:eM R128 t13 t14 t15=some y):aL Pg GE 0 (cA SE 119) (LQ (fun(zz:Int)=>lc t13 t14 zz) lh iY y) (lc t13 t14 t15):=by
 rcases aK h with⟨c4,h⟩|⟨c4,h⟩
 ·obtain⟨x5,bx5,h⟩:=aw h
  obtain⟨r6,br6,h⟩:=aw h
  have p8:=fun{sc F} (r:PS sc F)=>sg 0 c4<|sv (aS.ia (k:=.i64) bx5)<|sv (az x5)<|sx d9<|sx (bp x5)<|sv (aU x5 [])<|aX (hR128 _ _ br6)<|r
  rcases aK h with⟨c7,h⟩|⟨c7,h⟩
  ·obtain rfl:=lf h
   have z:=p8<|sg 0 c7<|lG 0 (lh (.inl r6)) (iY (.inl r6)) rfl (cb (aI trivial trivial)) (aI trivial trivial)
   exact mC (A:=Q5) mixed (by intro hx;cases hx) z<|by kernel_rfl
  ·obtain rfl:=lf h
   have z:=p8<|sg 0 c7<|lG 0 .normal (lc t13 t14 (bA (t15+1))) rfl (cb (aI (up (am ah t13)) (aI trivial (aI trivial trivial)))) (aI trivial trivial)
   exact cc (A:=Q5) mixed z<|by kernel_rfl
 ·obtain rfl:=lf h
  have z:=sg 0 c4<|eF (lh (.inr ())) (iY (.inr ()))
  exact eS Q5 (by intro hx;cases hx) z<|by kernel_rfl
theorem zg(hR128:BP R128){x:Int⊕(Unit)}(h:pK R128 t13 t14 t15=some x):aL Pg GE 0 (.loop (cA SE 119)) (EX (lh x) (iY x)) (lc t13 t14 t15):=
 aL.loop (S:=fun(zz:Int)=>lc t13 t14 zz) (ex:=lh) (s:=t15) h fun zz y hy=>GR R128 t13 t14 zz hR128 hy
end
def oC(R128:xu)(p:aa):Option Int:=
 (vN p).bind fun r1=>
 if(r1 !=0)=true then
  some r1
 else
  (pK R128 p.Kids (p.Kids.length:Int) 0).bind fun o9=>match o9 with
  |(.inl o9)=>
   some o9
  |(.inr o9)=>
   some 0
theorem Mv(R128:xu)(hR128:BP R128){p:aa}{r:Int}(h:oC R128 p=some r):CC Pg GE 145 [.agg (ac p)] (.int .i64 r) []:=by
 obtain⟨r1,br1,h⟩:=aw h
 have p3:=fun{sc F} (r:PS sc F)=>se (bh p)<|sv (az p)<|aX (NM br1)<|r
 rcases aK h with⟨c2,h⟩|⟨c2,h⟩
 ·obtain rfl:=lf h
  have z:=p3<|sg 0 c2<|en (aI (rP (.int .i64 r1))<|trivial)
  exact bo Q5 call145 func145 (c:=SE) rfl (aI (ah p) trivial) z<|by kernel_rfl
 ·obtain⟨o9,bo9,h⟩:=aw h
  rcases o9 with o9|o9
  ·obtain rfl:=lf h
   have z:=p3<|sg 0 c2<|sv (aH p)<|sv (aJ p)<|b9 (aS.ln p.Kids)<|cm (e:=.ret) (s1:=iY (.inl o9)) (zg R128 p.Kids (p.Kids.length:Int) 0 hR128 bo9)<|en (aI (rP (.int .i64 o9))<|trivial)
   exact bo Q5 call145 func145 (c:=SE) rfl (aI (ah p) trivial) z<|by kernel_rfl
  ·obtain rfl:=lf h
   have z:=p3<|sg 0 c2<|sv (aH p)<|sv (aJ p)<|b9 (aS.ln p.Kids)<|cm (e:=.exit 0) (s1:=iY (.inr o9)) (zg R128 p.Kids (p.Kids.length:Int) 0 hR128 bo9)<|en (aI (rP (.int .i64 0))<|trivial)
   exact bo Q5 call145 func145 (c:=SE) rfl (aI (ah p) trivial) z<|by kernel_rfl
def xl:(aa->Option Int)->(aa)->Option Int:=fun(rec:aa->Option Int) (x:aa)=>oC (fun p=>rec p) x
def C7(p:aa):Option Int:=ku xl p
theorem NL{p:aa}{r:Int}(h:C7 p=some r):CC Pg GE 145 [.agg (ac p)] (.int .i64 r) []:=
 cn (F:=xl) (M:=fun(x:aa) (r:Int)=>CC Pg GE 145 [.agg (ac x)] (.int .i64 r) []) (fun rec hrec x r h=>Mv _ (fun p r h=>hrec p r h) h) h
noncomputable def VA:Code:=f128.body.getD .skip
def Vh:List Nat:=[]
def rH(p:aa):Option Int:=
 (oz p).bind fun r1=>
 if(decide (r1>400))=true then
  some 7
 else
  (vM p).bind fun r4=>
  if(decide (r4>40))=true then
   some 8
  else
   (C7 p).bind fun r7=>
   some r7
theorem Mq{p:aa}{r:Int}(h:rH p=some r):CC Pg GE 128 [.agg (ac p)] (.int .i64 r) []:=by
 obtain⟨r1,br1,h⟩:=aw h
 have p3:=fun{sc F} (r:PS sc F)=>se (bh p)<|sv (az p)<|aX (xj br1)<|r
 rcases aK h with⟨c2,h⟩|⟨c2,h⟩
 ·obtain rfl:=lf h
  have z:=p3<|sg 0 c2<|en (aI (rP (.int .i64 7))<|trivial)
  exact bo Vh call128 func128 (c:=VA) rfl (aI (ah p) trivial) z<|by kernel_rfl
 ·obtain⟨r4,br4,h⟩:=aw h
  have p6:=fun{sc F} (r:PS sc F)=>p3<|sg 0 c2<|sv (az p)<|aX (Mr br4)<|r
  rcases aK h with⟨c5,h⟩|⟨c5,h⟩
  ·obtain rfl:=lf h
   have z:=p6<|sg 0 c5<|en (aI (rP (.int .i64 8))<|trivial)
   exact bo Vh call128 func128 (c:=VA) rfl (aI (ah p) trivial) z<|by kernel_rfl
  ·obtain⟨r7,br7,h⟩:=aw h
   obtain rfl:=lf h
   have z:=p6<|sg 0 c5<|sv (az p)<|aX (NL br7)<|en (aI (rP (.int .i64 r7))<|trivial)
   exact bo Vh call128 func128 (c:=VA) rfl (aI (ah p) trivial) z<|by kernel_rfl
noncomputable def IM:Code:=f104.body.getD .skip
def yK:List Nat:=[63]
section
variable(t:ae)
def KP:ax:=aP 65 [(1,.eptr (af t))] [.dead] []
def jb(o:Bool):ax:=aP 65 [(1,.eptr (af t)),(27,.bool o)] [.dead] []
def pV:Option Bool:=
 if (t.Op == 6) = true then
  (zy t.Pred).bind fun r3=>
  if(!r3)=true then
   some true
  else
   if(t.Op !=4)=true then
    some (decide ((t.Preds.length:Int)>0))
   else
    some false
 else
  if(t.Op !=4)=true then
   some (decide ((t.Preds.length:Int)>0))
  else
   some false
theorem IE{x:Bool}(h:pV t=some x):aL Pg GE 0 (cA IM 12) (EX .normal (jb t x)) (KP t):=by
 have p2:=fun{sc F} (r:PS sc F)=>sv (au t)<|sv (av t)<|r
 rcases aK h with⟨c1,h⟩|⟨c1,h⟩
 ·obtain⟨r3,br3,h⟩:=aw h
  have p5:=fun{sc F} (r:PS sc F)=>p2<|sg 4 c1<|sv (bv t)<|sv (bw t)<|aX (FW br3)<|r
  rcases aK h with⟨c4,h⟩|⟨c4,h⟩
  ·obtain rfl:=lf h
   exact bE yK (p5<|sg 10 c4<|eF .normal (jb t true))<|by kernel_rfl
  ·have p7:=fun{sc F} (r:PS sc F)=>p5<|sg 10 c4<|sv (au t)<|sv (av t)<|r
   rcases aK h with⟨c6,h⟩|⟨c6,h⟩
   ·obtain rfl:=lf h
    exact bE yK (p7<|sg 14 c6<|sv (bk t)<|sv (bm t)<|b9 (aS.ln t.Preds)<|eF .normal (jb t (decide ((t.Preds.length:Int)>0))))<|by kernel_rfl
   ·obtain rfl:=lf h
    exact bE yK (p7<|sg 14 c6<|eF .normal (jb t false))<|by kernel_rfl
 ·have p9:=fun{sc F} (r:PS sc F)=>p2<|sg 4 c1<|sv (au t)<|sv (av t)<|r
  rcases aK h with⟨c8,h⟩|⟨c8,h⟩
  ·obtain rfl:=lf h
   exact bE yK (p9<|sg 14 c8<|sv (bk t)<|sv (bm t)<|b9 (aS.ln t.Preds)<|eF .normal (jb t (decide ((t.Preds.length:Int)>0))))<|by kernel_rfl
  ·obtain rfl:=lf h
   exact bE yK (p9<|sg 14 c8<|eF .normal (jb t false))<|by kernel_rfl
end
section
variable(t:ae)(t29:waA)(t30:Int)(t31:Int)
def ly:ax:=aP 65 [(1,.eptr (af t)),(29,sl cS t29),(30,.int .i64 t30),(31,.int .i64 t31)] [.dead] []
def lA(o:Unit⊕(Unit)):Exit:=match o with
 |(.inl _)=>.ret
 |(.inr _)=>.exit 0
def jc(o:Unit⊕(Unit)):ax:=match o with
 |(.inl o)=>aP 65 [(2,.int .i64 3)] [.dead] []
 |(.inr o)=>aP 65 [(1,.eptr (af t))] [.dead] []
def lz:Option (Int⊕(Unit⊕(Unit))):=
 if(decide (t31<t30))=true then
  (dt t29 t31).bind fun x14=>
  (oq x14).bind fun r15=>
  if(r15 !=0)=true then
   some (.inr (.inl ()))
  else
   some (.inl (bA (t31+1)))
 else
  some (.inr (.inr ()))
def pW:Option (Unit⊕(Unit)):=loop (fun(zz:Int)=>lz t29 t30 zz) t31
theorem G2{y:Int⊕(Unit⊕(Unit))}(h:lz t29 t30 t31=some y):aL Pg GE 0 (cA IM 119) (LQ (fun(zz:Int)=>ly t t29 t30 zz) lA (jc t) y) (ly t t29 t30 t31):=by
 rcases aK h with⟨c13,h⟩|⟨c13,h⟩
 ·obtain⟨x14,bx14,h⟩:=aw h
  obtain⟨r15,br15,h⟩:=aw h
  have p17:=fun{sc F} (r:PS sc F)=>sg 0 c13<|sv (aZ.ia (k:=.i64) bx14)<|sv (dB Es (.str x14) [])<|aX (C1 br15)<|r
  rcases aK h with⟨c16,h⟩|⟨c16,h⟩
  ·obtain rfl:=lf h
   have z:=p17<|sg 0 c16<|eF (lA (.inl ())) (jc t (.inl ()))
   exact eS yK (by intro hx;cases hx) z<|by kernel_rfl
  ·obtain rfl:=lf h
   exact vJ yK (p17<|sg 0 c16<|eF .normal (ly t t29 t30 (bA (t31+1))))<|by kernel_rfl
 ·obtain rfl:=lf h
  have z:=sg 0 c13<|eF (lA (.inr ())) (jc t (.inr ()))
  exact eS yK (by intro hx;cases hx) z<|by kernel_rfl
theorem zv{x:Unit⊕(Unit)}(h:pW t29 t30 t31=some x):aL Pg GE 0 (.loop (cA IM 119)) (EX (lA x) (jc t x)) (ly t t29 t30 t31):=
 aL.loop (S:=fun(zz:Int)=>ly t t29 t30 zz) (ex:=lA) (s:=t31) h fun zz y hy=>G2 t t29 t30 zz hy
end
section
variable(e:Int)(t48:waB)(t49:Int)(t50:Int)(m:Int)(m2:ag)(m3:Int)(m4:waB)
def KQ:ax:=aP 65 [(6,.bptr 1 0),(7,.int .i64 e),(48,sl ac t48),(49,.int .i64 t49),(50,.int .i64 t50)] [.dead,.cells [.int .i64 m,.str m2,.int .i64 m3,sl ac m4] []] [((48,0),28)]
def va(o:Bool):ax:=aP 65 [(7,.int .i64 e),(48,sl ac t48),(49,.int .i64 t49),(50,.int .i64 t50),(62,.bool o)] [.dead,.cells [.int .i64 m,.str m2,.int .i64 m3,sl ac m4] []] [((48,0),28)]
def tZ:Option Bool:=
 (zy (⟨m,m2,m3,m4⟩:aa)).bind fun r26=>
 if(!r26)=true then
  some (e !=0)
 else
  some false
theorem IF{x:Bool}(h:tZ e m m2 m3 m4=some x):aL Pg GE 0 (cA IM 64494) (EX .normal (va e t48 t49 t50 m m2 m3 m4 x)) (KQ e t48 t49 t50 m m2 m3 m4):=by
 obtain⟨r26,br26,h⟩:=aw h
 have p28:=fun{sc F} (r:PS sc F)=>sv (aU (⟨m,m2,m3,m4⟩:aa) [])<|aX (FW br26)<|r
 rcases aK h with⟨c27,h⟩|⟨c27,h⟩
 ·obtain rfl:=lf h
  exact bE yK (p28<|sg 4 c27<|eF .normal (va e t48 t49 t50 m m2 m3 m4 (e !=0)))<|by kernel_rfl
 ·obtain rfl:=lf h
  exact bE yK (p28<|sg 4 c27<|eF .normal (va e t48 t49 t50 m m2 m3 m4 false))<|by kernel_rfl
end
section
variable(t48:waB)(t49:Int)(t50:Int)
def lB:ax:=aP 65 [(48,sl ac t48),(49,.int .i64 t49),(50,.int .i64 t50)] [.dead] [((48,0),28)]
def lC(o:Int⊕(Unit)):Exit:=match o with
 |(.inl _)=>.ret
 |(.inr _)=>.exit 2
def je(o:Int⊕(Unit)):ax:=match o with
 |(.inl o)=>aP 65 [(2,.int .i64 o)] [.dead] []
 |(.inr o)=>aP 65 [] [.dead] []
def jd:Option (Int⊕(Int⊕(Unit))):=
 if(decide (t50<t49))=true then
  (dt t48 t50).bind fun x24=>
  (rH x24).bind fun r25=>
  (tZ r25 x24.Op x24.Name x24.N x24.Kids).bind fun o29=>
  if o29=true then
   some (.inr (.inl r25))
  else
   some (.inl (bA (t50+1)))
 else
  some (.inr (.inr ()))
def pX:Option (Int⊕(Unit)):=loop (fun(zz:Int)=>jd t48 t49 zz) t50
theorem G3{y:Int⊕(Int⊕(Unit))}(h:jd t48 t49 t50=some y):aL Pg GE 0 (cA IM 503) (LQ (fun(zz:Int)=>lB t48 t49 zz) lC je y) (lB t48 t49 t50):=by
 rcases aK h with⟨c23,h⟩|⟨c23,h⟩
 ·obtain⟨x24,bx24,h⟩:=aw h
  obtain⟨r25,br25,h⟩:=aw h
  obtain⟨o29,bo29,h⟩:=aw h
  have p31:=fun{sc F} (r:PS sc F)=>sg 0 c23<|sv (aS.ia (k:=.i64) bx24)<|sv (az x24)<|sx d9<|sx (bp x24)<|sv (aU x24 [])<|aX (Mq br25)<|jC 0<|cm (IF r25 t48 t49 t50 x24.Op x24.Name x24.N x24.Kids bo29)<|r
  rcases aK h with⟨c30,h⟩|⟨c30,h⟩
  ·obtain rfl:=lf h
   have z:=p31<|sg 0 c30<|lG 0 (lC (.inl r25)) (je (.inl r25)) rfl (cb (aI trivial trivial)) (aI trivial trivial)
   exact mC (A:=yK) mixed (by intro hx;cases hx) z<|by kernel_rfl
  ·obtain rfl:=lf h
   have z:=p31<|sg 0 c30<|lG 0 .normal (lB t48 t49 (bA (t50+1))) rfl (cb (aI (up (am ah t48)) (aI trivial (aI trivial trivial)))) (aI trivial trivial)
   exact cc (A:=yK) mixed z<|by kernel_rfl
 ·obtain rfl:=lf h
  have z:=sg 0 c23<|eF (lC (.inr ())) (je (.inr ()))
  exact eS yK (by intro hx;cases hx) z<|by kernel_rfl
theorem zw{x:Int⊕(Unit)}(h:pX t48 t49 t50=some x):aL Pg GE 0 (.loop (cA IM 503)) (EX (lC x) (je x)) (lB t48 t49 t50):=
 aL.loop (S:=fun(zz:Int)=>lB t48 t49 zz) (ex:=lC) (s:=t50) h fun zz y hy=>G3 t48 t49 zz hy
end
def vP(t:ae):Option Int:=
 (pV t).bind fun o10=>
 if o10=true then
  some 1
 else
  (pW t.Names (t.Names.length:Int) 0).bind fun o18=>match o18 with
  |(.inl o18)=>
   some 3
  | (.inr o18) =>
   (gY t.Names).bind fun r19=>
   if(!r19)=true then
    some 4
   else
    (app ([t.Pred]:List aa) t.Preds).bind fun l22=>
    (pX l22 (l22.length:Int) 0).bind fun o32=>match o32 with
    |(.inl o32)=>
     some o32
    |(.inr o32)=>
     some 0
theorem NR{t:ae}{r:Int}(h:vP t=some r):CC Pg GE 104 [.agg (af t)] (.int .i64 r) []:=by
 obtain⟨o10,bo10,h⟩:=aw h
 have p12:=fun{sc F} (r:PS sc F)=>se (bH t)<|jC 1<|cm (IE t bo10)<|r
 rcases aK h with⟨c11,h⟩|⟨c11,h⟩
 ·obtain rfl:=lf h
  have z:=p12<|sg 0 c11<|en (aI (rP (.int .i64 1))<|trivial)
  exact bo yK call104 func104 (c:=IM) rfl (aI (aj t) trivial) z<|by kernel_rfl
 ·obtain⟨o18,bo18,h⟩:=aw h
  rcases o18 with o18|o18
  ·obtain rfl:=lf h
   have z:=p12<|sg 0 c11<|sv (aM t)<|sv (aN t)<|b9 (aZ.ln t.Names)<|cm (e:=.ret) (s1:=jc t (.inl o18)) (zv t t.Names (t.Names.length:Int) 0 bo18)<|en (aI (rP (.int .i64 3))<|trivial)
   exact bo yK call104 func104 (c:=IM) rfl (aI (aj t) trivial) z<|by kernel_rfl
  ·obtain⟨r19,br19,h⟩:=aw h
   have p21:=fun{sc F} (r:PS sc F)=>p12<|sg 0 c11<|sv (aM t)<|sv (aN t)<|b9 (aZ.ln t.Names)<|cm (e:=.exit 0) (s1:=jc t (.inr o18)) (zv t t.Names (t.Names.length:Int) 0 bo18)<|sv (aM t)<|sv (aN t)<|aX (Gw br19)<|r
   rcases aK h with⟨c20,h⟩|⟨c20,h⟩
   ·obtain rfl:=lf h
    have z:=p21<|sg 0 c20<|en (aI (rP (.int .i64 4))<|trivial)
    exact bo yK call104 func104 (c:=IM) rfl (aI (aj t) trivial) z<|by kernel_rfl
   ·obtain⟨l22,bl22,h⟩:=aw h
    obtain⟨o32,bo32,h⟩:=aw h
    rcases o32 with o32|o32
    ·obtain rfl:=lf h
     have z:=p21<|sg 0 c20<|sv (bv t)<|sv (bw t)<|sv (aS.mk' (v:=cj) bz ([t.Pred]:List aa) 1 (by kernel_rfl))<|sv (bk t)<|sv (bm t)<|sv (aS.ap bl22)<|b9 (aS.ln l22)<|cm (e:=.ret) (s1:=je (.inl o32)) (zw l22 (l22.length:Int) 0 bo32)<|en (aI (rP (.int .i64 o32))<|trivial)
     exact bo yK call104 func104 (c:=IM) rfl (aI (aj t) trivial) z<|by kernel_rfl
    ·obtain rfl:=lf h
     have z:=p21<|sg 0 c20<|sv (bv t)<|sv (bw t)<|sv (aS.mk' (v:=cj) bz ([t.Pred]:List aa) 1 (by kernel_rfl))<|sv (bk t)<|sv (bm t)<|sv (aS.ap bl22)<|b9 (aS.ln l22)<|cm (e:=.exit 2) (s1:=je (.inr o32)) (zw l22 (l22.length:Int) 0 bo32)<|en (aI (rP (.int .i64 0))<|trivial)
     exact bo yK call104 func104 (c:=IM) rfl (aI (aj t) trivial) z<|by kernel_rfl
noncomputable def W7:Code:=f63.body.getD .skip
def Wh:List Nat:=[11,23]
section
variable(R123:xy)(t13:waC)(t14:Int)(t15:Int)
def lu:ax:=aP 25 [(13,sl af t13),(14,.int .i64 t14),(15,.int .i64 t15)] [.dead] []
def lx(o:Int⊕(Unit)):Exit:=match o with
 |(.inl _)=>.ret
 |(.inr _)=>.exit 0
def ja(o:Int⊕(Unit)):ax:=match o with
 |(.inl o)=>aP 25 [(2,.int .i64 o)] [.dead] []
 |(.inr o)=>aP 25 [] [.dead] []
def lw:Option (Int⊕(Int⊕(Unit))):=
 if(decide (t15<t14))=true then
  (dt t13 t15).bind fun x5=>
  (R123 x5).bind fun r6=>
  if(r6 !=0)=true then
   some (.inr (.inl r6))
  else
   some (.inl (bA (t15+1)))
 else
  some (.inr (.inr ()))
def pU:Option (Int⊕(Unit)):=loop (fun(zz:Int)=>lw R123 t13 t14 zz) t15
theorem GY(hR123:BU R123){y:Int⊕(Int⊕(Unit))}(h:lw R123 t13 t14 t15=some y):aL Pg GE 0 (cA W7 119) (LQ (fun(zz:Int)=>lu t13 t14 zz) lx ja y) (lu t13 t14 t15):=by
 rcases aK h with⟨c4,h⟩|⟨c4,h⟩
 ·obtain⟨x5,bx5,h⟩:=aw h
  obtain⟨r6,br6,h⟩:=aw h
  have p8:=fun{sc F} (r:PS sc F)=>sg 0 c4<|sv (cJ.ia (k:=.i64) bx5)<|sv (aQ x5)<|sx jl<|sx (cu x5)<|sv (bu x5 [])<|aX (hR123 _ _ br6)<|r
  rcases aK h with⟨c7,h⟩|⟨c7,h⟩
  ·obtain rfl:=lf h
   have z:=p8<|sg 0 c7<|lG 0 (lx (.inl r6)) (ja (.inl r6)) rfl (cb (aI trivial trivial)) (aI trivial trivial)
   exact mC (A:=Wh) mixed (by intro hx;cases hx) z<|by kernel_rfl
  ·obtain rfl:=lf h
   have z:=p8<|sg 0 c7<|lG 0 .normal (lu t13 t14 (bA (t15+1))) rfl (cb (aI (up (am aj t13)) (aI trivial (aI trivial trivial)))) (aI trivial trivial)
   exact cc (A:=Wh) mixed z<|by kernel_rfl
 ·obtain rfl:=lf h
  have z:=sg 0 c4<|eF (lx (.inr ())) (ja (.inr ()))
  exact eS Wh (by intro hx;cases hx) z<|by kernel_rfl
theorem zt(hR123:BU R123){x:Int⊕(Unit)}(h:pU R123 t13 t14 t15=some x):aL Pg GE 0 (.loop (cA W7 119)) (EX (lx x) (ja x)) (lu t13 t14 t15):=
 aL.loop (S:=fun(zz:Int)=>lu t13 t14 zz) (ex:=lx) (s:=t15) h fun zz y hy=>GY R123 t13 t14 zz hR123 hy
end
def oE(R123:xy)(t:ae):Option Int:=
 (vP t).bind fun r1=>
 if(r1 !=0)=true then
  some r1
 else
  (pU R123 t.Args (t.Args.length:Int) 0).bind fun o9=>match o9 with
  |(.inl o9)=>
   some o9
  |(.inr o9)=>
   some 0
theorem ME(R123:xy)(hR123:BU R123){t:ae}{r:Int}(h:oE R123 t=some r):CC Pg GE 63 [.agg (af t)] (.int .i64 r) []:=by
 obtain⟨r1,br1,h⟩:=aw h
 have p3:=fun{sc F} (r:PS sc F)=>se (bH t)<|sv (aQ t)<|aX (NR br1)<|r
 rcases aK h with⟨c2,h⟩|⟨c2,h⟩
 ·obtain rfl:=lf h
  have z:=p3<|sg 0 c2<|en (aI (rP (.int .i64 r1))<|trivial)
  exact bo Wh call63 func63 (c:=W7) rfl (aI (aj t) trivial) z<|by kernel_rfl
 ·obtain⟨o9,bo9,h⟩:=aw h
  rcases o9 with o9|o9
  ·obtain rfl:=lf h
   have z:=p3<|sg 0 c2<|sv (aF t)<|sv (aG t)<|b9 (cJ.ln t.Args)<|cm (e:=.ret) (s1:=ja (.inl o9)) (zt R123 t.Args (t.Args.length:Int) 0 hR123 bo9)<|en (aI (rP (.int .i64 o9))<|trivial)
   exact bo Wh call63 func63 (c:=W7) rfl (aI (aj t) trivial) z<|by kernel_rfl
  ·obtain rfl:=lf h
   have z:=p3<|sg 0 c2<|sv (aF t)<|sv (aG t)<|b9 (cJ.ln t.Args)<|cm (e:=.exit 0) (s1:=ja (.inr o9)) (zt R123 t.Args (t.Args.length:Int) 0 hR123 bo9)<|en (aI (rP (.int .i64 0))<|trivial)
   exact bo Wh call63 func63 (c:=W7) rfl (aI (aj t) trivial) z<|by kernel_rfl
def xq:(ae->Option Int)->(ae)->Option Int:=fun(rec:ae->Option Int) (x:ae)=>oE (fun t=>rec t) x
def C8(t:ae):Option Int:=ku xq t
theorem NQ{t:ae}{r:Int}(h:C8 t=some r):CC Pg GE 63 [.agg (af t)] (.int .i64 r) []:=
 cn (F:=xq) (M:=fun(x:ae) (r:Int)=>CC Pg GE 63 [.agg (af x)] (.int .i64 r) []) (fun rec hrec x r h=>ME _ (fun t r h=>hrec t r h) h) h
noncomputable def Zh:Code:=f27.body.getD .skip
def Y6:List Nat:=[8]
def rK(t:ae):Option Int:=
 (rJ t).bind fun r1=>
 if(r1 !=0)=true then
  some r1
 else
  (C8 t).bind fun r4=>
  some r4
theorem MA{t:ae}{r:Int}(h:rK t=some r):CC Pg GE 27 [.agg (af t)] (.int .i64 r) []:=by
 obtain⟨r1,br1,h⟩:=aw h
 have p3:=fun{sc F} (r:PS sc F)=>se (bH t)<|sv (aQ t)<|aX (Mx br1)<|r
 rcases aK h with⟨c2,h⟩|⟨c2,h⟩
 ·obtain rfl:=lf h
  have z:=p3<|sg 0 c2<|en (aI (rP (.int .i64 r1))<|trivial)
  exact bo Y6 call27 func27 (c:=Zh) rfl (aI (aj t) trivial) z<|by kernel_rfl
 ·obtain⟨r4,br4,h⟩:=aw h
  obtain rfl:=lf h
  have z:=p3<|sg 0 c2<|sv (aQ t)<|aX (NQ br4)<|en (aI (rP (.int .i64 r4))<|trivial)
  exact bo Y6 call27 func27 (c:=Zh) rfl (aI (aj t) trivial) z<|by kernel_rfl
abbrev jq:=(ae->waA->Option waA)
abbrev na(R:jq):Prop:=∀(t:ae) (k0:waA) (r:waA),R t k0=some r->C Pg GE 80 [.agg (af t),.bptr 0 0,.bptr 1 0] [] [.cells [sl cS k0] [(0,9)],.cells [.func (.func 80) [] [.bptr 0 0,.bptr 1 0]] []] (.tuple []) [] [.cells [sl cS r] [(0,9)],.cells [.func (.func 80) [] [.bptr 0 0,.bptr 1 0]] []]
abbrev qZ:=(aa->Int->waB->Option waB)
abbrev wS(R:qZ):Prop:=∀(p:aa) (op:Int) (a:waB) (r:waB),R p op a=some r->C Pg GE 115 [.agg (ac p),.int .i64 op,sl ac a] [((2,0),28)] [] (sl ac r) [(0,28)] []
noncomputable def Ue:Code:=f138.body.getD .skip
def Sm:List Nat:=[]
section
variable(v:aa)(t9:waB)(t10:Int)(t11:Int)
def lS:ax:=aP 20 [(2,.func (.func 98) [] []),(4,.eptr (ac v)),(9,sl ac t9),(10,.int .i64 t10),(11,.int .i64 t11)] [.dead] []
def lT(o:Unit⊕(Unit)):Exit:=match o with
 |(.inl _)=>.ret
 |(.inr _)=>.exit 0
def ji(o:Unit⊕(Unit)):ax:=match o with
 |(.inl o)=>aP 20 [(6,.bool true)] [.dead] []
 |(.inr o)=>aP 20 [] [.dead] []
def gb:Option (Int⊕(Unit⊕(Unit))):=
 if(decide (t11<t10))=true then
  (dt t9 t11).bind fun x2=>
  (fD v x2).bind fun r3=>
  if r3=true then
   some (.inr (.inl ()))
  else
   some (.inl (bA (t11+1)))
 else
  some (.inr (.inr ()))
def zW:Option (Unit⊕(Unit)):=loop (fun(zz:Int)=>gb v t9 t10 zz) t11
theorem Hi{y:Int⊕(Unit⊕(Unit))}(h:gb v t9 t10 t11=some y):aL Pg GE 0 (cA Ue 55) (LQ (fun(zz:Int)=>lS v t9 t10 zz) lT ji y) (lS v t9 t10 t11):=by
 rcases aK h with⟨c1,h⟩|⟨c1,h⟩
 ·obtain⟨x2,bx2,h⟩:=aw h
  obtain⟨r3,br3,h⟩:=aw h
  have p5:=fun{sc F} (r:PS sc F)=>sg 0 c1<|sv (aS.ia (k:=.i64) bx2)<|sv (az x2)<|sx d9<|sx (bp x2)<|sv (az v)<|sv (aU x2 [])<|aX (fM br3)<|r
  rcases aK h with⟨c4,h⟩|⟨c4,h⟩
  ·obtain rfl:=lf h
   have z:=p5<|sg 0 c4<|lG 0 (lT (.inl ())) (ji (.inl ())) rfl (cb (aI trivial trivial)) (aI trivial trivial)
   exact mC (A:=Sm) mixed (by intro hx;cases hx) z<|by kernel_rfl
  ·obtain rfl:=lf h
   have z:=p5<|sg 0 c4<|lG 0 .normal (lS v t9 t10 (bA (t11+1))) rfl (cb (aI (aI trivial trivial) (aI (hU (ah v)) (aI (up (am ah t9)) (aI trivial (aI trivial trivial)))))) (aI trivial trivial)
   exact cc (A:=Sm) mixed z<|by kernel_rfl
 ·obtain rfl:=lf h
  have z:=sg 0 c1<|eF (lT (.inr ())) (ji (.inr ()))
  exact eS Sm (by intro hx;cases hx) z<|by kernel_rfl
theorem zX{x:Unit⊕(Unit)}(h:zW v t9 t10 t11=some x):aL Pg GE 0 (.loop (cA Ue 55)) (EX (lT x) (ji x)) (lS v t9 t10 t11):=
 aL.loop (S:=fun(zz:Int)=>lS v t9 t10 zz) (ex:=lT) (s:=t11) h fun zz y hy=>Hi v t9 t10 zz hy
end
def DX(a:waB)(a2:aa):Option Bool:=
 (zW a2 a (a.length:Int) 0).bind fun o6=>match o6 with
 |(.inl o6)=>
  some true
 |(.inr o6)=>
  some false
theorem OL{a:waB}{a2:aa}{r:Bool}(h:DX a a2=some r):CC Pg GE 138 [sl ac a,.agg (ac a2),.func (.func 98) [] []] (.bool r) []:=by
 obtain⟨o6,bo6,h⟩:=aw h
 rcases o6 with o6|o6
 ·obtain rfl:=lf h
  have z:=se (bh a2)<|b9 (aS.ln a)<|cm (e:=.ret) (s1:=ji (.inl o6)) (zX a2 a (a.length:Int) 0 bo6)<|en (aI (rP (.bool true))<|trivial)
  exact bo Sm call138 func138 (c:=Ue) rfl (aI (am ah a) (aI (ah a2) (aI (aI trivial trivial) trivial))) z<|by kernel_rfl
 ·obtain rfl:=lf h
  have z:=se (bh a2)<|b9 (aS.ln a)<|cm (e:=.exit 0) (s1:=ji (.inr o6)) (zX a2 a (a.length:Int) 0 bo6)<|en (aI (rP (.bool false))<|trivial)
  exact bo Sm call138 func138 (c:=Ue) rfl (aI (am ah a) (aI (ah a2) (aI (aI trivial trivial) trivial))) z<|by kernel_rfl
noncomputable def SB:Code:=f115.body.getD .skip
def Q1:List Nat:=[18,31,36]
section
variable(R151:qZ)(op:Int)(p:aa)(t10:waB)(t11:Int)(v:waB)(t12:Int)
def iJ:ax:=aP 37 [(1,.int .i64 op),(2,sl ac v),(3,.eptr (ac p)),(10,sl ac t10),(11,.int .i64 t11),(12,.int .i64 t12)] [.dead] [((2,0),28)]
def qr(o:waB):ax:=aP 37 [(1,.int .i64 op),(2,sl ac o),(3,.eptr (ac p))] [.dead] [((2,0),28)]
def ml:Option ((waB×Int)⊕(waB)):=
 if(decide (t12<t11))=true then
  (dt t10 t12).bind fun x2=>
  (R151 x2 op v).bind fun r3=>
  some (.inl (r3,bA (t12+1)))
 else
  some (.inr v)
def vC:Option waB:=loop (fun(zz:waB×Int)=>ml R151 op t10 t11 zz.1 zz.2) (v,t12)
theorem DY(hR151:wS R151){y:(waB×Int)⊕(waB)}(h:ml R151 op t10 t11 v t12=some y):aL Pg GE 1000 (cA SB 55) (LQ (fun(zz:waB×Int)=>iJ op p t10 t11 zz.1 zz.2) (fun _=>.exit 0) (qr op p) y) (iJ op p t10 t11 v t12):=by
 rcases aK h with⟨c1,h⟩|⟨c1,h⟩
 ·obtain⟨x2,bx2,h⟩:=aw h
  obtain⟨r3,br3,h⟩:=aw h
  obtain rfl:=lf h
  have z:=sg 0 c1<|sv (aS.ia (k:=.i64) bx2)<|sv (az x2)<|sx d9<|sx (bp x2)<|sv (aU x2 [])<|si (.cg ⟨[],[.agg (ac x2),.int .i64 op,sl ac v],[⟨2,18,0,28⟩],[],[],[],[],sl ac r3,sl ac r3,[(0,28)]⟩) (hR151 _ _ _ _ br3)<|sf (aI (xR [] (.agg (ac x2)) (ah x2)) (aI (xR [] (.int .i64 op) trivial) (aI (xR [] (sl ac v) (am ah v)) trivial)))<|sf trivial<|sf trivial<|sf (xR [] (sl ac r3) (am ah r3))<|lG 1000 .normal (iJ op p t10 t11 r3 (bA (t12+1))) rfl (cb (aI trivial (aI (up (am ah r3)) (aI (hU (ah p)) (aI (up (am ah t10)) (aI trivial (aI trivial trivial))))))) (aI trivial trivial)
  exact cc (A:=Q1) mixed z<|by kernel_rfl
 ·obtain rfl:=lf h
  have z:=sg 0 c1<|eF (.exit 0) (qr op p v)
  exact eS Q1 (by intro hx;cases hx) z<|by kernel_rfl
theorem Fr(hR151:wS R151){x:waB}(h:vC R151 op t10 t11 v t12=some x):aL Pg GE 1000 (.loop (cA SB 55)) (EX (.exit 0) (qr op p x)) (iJ op p t10 t11 v t12):=
 aL.loop (S:=fun(zz:waB×Int)=>iJ op p t10 t11 zz.1 zz.2) (ex:=(fun _=>.exit 0)) (s:=(v,t12)) h fun zz y hy=>DY R151 op p t10 t11 zz.1 zz.2 hR151 hy
end
section
variable(op:Int)(v:waB)(p:aa)
def Hj:ax:=aP 37 [(1,.int .i64 op),(2,sl ac v),(3,.eptr (ac p))] [.dead] [((2,0),28)]
def qq(o:Bool):ax:=aP 37 [(2,sl ac v),(3,.eptr (ac p)),(30,.bool o)] [.dead] [((2,0),28)]
def vB:Option Bool:=
 if(p.Op==op)=true then
  (DX v p).bind fun r7=>
  some (!r7)
 else
  some false
theorem Fq{x:Bool}(h:vB op v p=some x):aL Pg GE 1000 (cA SB 28) (EX .normal (qq v p x)) (Hj op v p):=by
 have p6:=fun{sc F} (r:PS sc F)=>sv (aB p)<|sv (aC p)<|r
 rcases aK h with⟨c5,h⟩|⟨c5,h⟩
 ·obtain⟨r7,br7,h⟩:=aw h
  obtain rfl:=lf h
  exact bE Q1 (p6<|sg 5 c5<|sv (az p)<|aX (OL br7)<|eF .normal (qq v p (!r7)))<|by kernel_rfl
 ·obtain rfl:=lf h
  exact bE Q1 (p6<|sg 5 c5<|eF .normal (qq v p false))<|by kernel_rfl
end
def rr(R151:qZ)(p:aa)(op:Int)(a:waB):Option waB:=
 (vC R151 op p.Kids (p.Kids.length:Int) a 0).bind fun o4=>
 (vB op o4 p).bind fun o8=>
 if o8=true then
  (mU p).bind fun r11=>
  (app o4 ([r11]:List aa)).bind fun l12=>
  some l12
 else
  some o4
theorem JM(R151:qZ)(hR151:wS R151){p:aa}{op:Int}{a:waB}{r:waB}(h:rr R151 p op a=some r):C Pg GE 115 [.agg (ac p),.int .i64 op,sl ac a] [((2,0),28)] [] (sl ac r) [(0,28)] []:=by
 obtain⟨o4,bo4,h⟩:=aw h
 obtain⟨o8,bo8,h⟩:=aw h
 have p10:=fun{sc F} (r:PS sc F)=>se (bh p)<|sv (aH p)<|sv (aJ p)<|b9 (aS.ln p.Kids)<|cm (Fr R151 op p p.Kids (p.Kids.length:Int) a 0 hR151 bo4)<|jC 1<|cm (Fq op o4 p bo8)<|r
 rcases aK h with⟨c9,h⟩|⟨c9,h⟩
 ·obtain⟨r11,br11,h⟩:=aw h
  obtain⟨l12,bl12,h⟩:=aw h
  obtain rfl:=lf h
  have z:=p10<|sg 0 c9<|sv (az p)<|aX (nI br11)<|sv (aS.mk' (v:=cj) bz ([r11]:List aa) 1 (by kernel_rfl))<|sv (aS.ap bl12)<|en (aI (rP (sl ac l12))<|aI (up (n:=0) (am ah l12))<|aI (rL [])<|trivial)
  exact C.evGp (A:=Q1) mixed (m:=1000) (c:=SB) rfl call115 func115 rfl z<|by kernel_rfl
 ·obtain rfl:=lf h
  have z:=p10<|sg 0 c9<|en (aI (rP (sl ac o4))<|aI (up (n:=0) (am ah o4))<|aI (rL [])<|trivial)
  exact C.evGp (A:=Q1) mixed (m:=1000) (c:=SB) rfl call115 func115 rfl z<|by kernel_rfl
def xW:((aa×Int×waB)->Option waB)->(aa×Int×waB)->Option waB:=fun(rec:(aa×Int×waB)->Option waB) (x:aa×Int×waB)=>rr (fun p op a=>rec (p,op,a)) x.1 x.2.1 x.2.2
def CD(p:aa)(op:Int)(a:waB):Option waB:=ku xW (p,op,a)
theorem Ld{p:aa}{op:Int}{a:waB}{r:waB}(h:CD p op a=some r):C Pg GE 115 [.agg (ac p),.int .i64 op,sl ac a] [((2,0),28)] [] (sl ac r) [(0,28)] []:=
 cn (F:=xW) (M:=fun(x:aa×Int×waB) (r:waB)=>C Pg GE 115 [.agg (ac x.1),.int .i64 x.2.1,sl ac x.2.2] [((2,0),28)] [] (sl ac r) [(0,28)] []) (fun rec hrec x r h=>JM _ (fun p op a r h=>hrec (p,op,a) r h) h) h
noncomputable def qak:Code:=f81.body.getD .skip
def Z2:List Nat:=[]
def xT(p:aa):Option waB:=
 (CD p 5 ([]:List aa)).bind fun r1=>
 some r1
theorem K9{p:aa}{r:waB}(h:xT p=some r):CC Pg GE 81 [.agg (ac p)] (sl ac r) [(0,28)]:=by
 obtain⟨r1,br1,h⟩:=aw h
 obtain rfl:=lf h
 have z:=se (bh p)<|sv (az p)<|si (.cg ⟨[],[.agg (ac p),.int .i64 5,sl ac ([]:List aa)],[⟨2,1000000,0,28⟩],[],[],[],[],sl ac r1,sl ac r1,[(0,28)]⟩) (Ld br1)<|sf (aI (xR [] (.agg (ac p)) (ah p)) (aI (xR [] (.int .i64 5) trivial) (aI (xR [] (sl ac ([]:List aa)) (am ah ([]:List aa))) trivial)))<|sf trivial<|sf trivial<|sf (xR [] (sl ac r1) (am ah r1))<|en (aI (rP (sl ac r1))<|(am ah r1))
 exact bo Z2 call81 func81 (c:=qak) rfl (aI (ah p) trivial) z<|by kernel_rfl
noncomputable def VI:Code:=f80.body.getD .skip
def UV:List Nat:=[33]
section
variable(t:ae)(t15:waB)(t16:Int)(t17:Int)(t22:waB)(t23:Int)(m2:Int)(m3:ag)(m4:Int)(m5:waB)(t24:Int)(m:waA)
def dj:ax:=aP 51 [(1,.bptr 0 0),(2,.bptr 1 0),(3,.eptr (af t)),(15,sl ac t15),(16,.int .i64 t16),(17,.int .i64 t17),(22,sl ac t22),(23,.int .i64 t23),(24,.int .i64 t24)] [.cells [sl cS m] [(0,9)],.cells [.func (.func 80) [] [.bptr 0 0,.bptr 1 0]] [],.dead,.cells [.int .i64 m2,.str m3,.int .i64 m4,sl ac m5] []] [((22,0),28),((15,0),28)]
def j8(o:waA):ax:=aP 51 [(1,.bptr 0 0),(2,.bptr 1 0),(3,.eptr (af t)),(15,sl ac t15),(16,.int .i64 t16),(17,.int .i64 t17)] [.cells [sl cS o] [(0,9)],.cells [.func (.func 80) [] [.bptr 0 0,.bptr 1 0]] [],.dead,.cells [.int .i64 m2,.str m3,.int .i64 m4,sl ac m5] []] [((15,0),28)]
def cO:Option ((Int×waA)⊕(waA)):=
 if(decide (t24<t23))=true then
  (dt t22 t24).bind fun x6=>
  (da m x6.Name).bind fun r7=>
  if(!r7)=true then
   (app m ([x6.Name]:List ag)).bind fun l10=>
   some (.inl (bA (t24+1),l10))
  else
   some (.inl (bA (t24+1),m))
 else
  some (.inr m)
def ic:Option waA:=loop (fun(zz:Int×waA)=>cO t22 t23 zz.1 zz.2) (t24,m)
theorem yk{y:(Int×waA)⊕(waA)}(h:cO t22 t23 t24 m=some y):aL Pg GE 2 (cA VI 14303) (LQ (fun(zz:Int×waA)=>dj t t15 t16 t17 t22 t23 m2 m3 m4 m5 zz.1 zz.2) (fun _=>.exit 2) (j8 t t15 t16 t17 m2 m3 m4 m5) y) (dj t t15 t16 t17 t22 t23 m2 m3 m4 m5 t24 m):=by
 rcases aK h with⟨c5,h⟩|⟨c5,h⟩
 ·obtain⟨x6,bx6,h⟩:=aw h
  obtain⟨r7,br7,h⟩:=aw h
  have p9:=fun{sc F} (r:PS sc F)=>sg 0 c5<|sv (aS.ia (k:=.i64) bx6)<|sv (az x6)<|sx d9<|sx (bp x6)<|ss<|ss<|aX (dX br7)<|r
  rcases aK h with⟨c8,h⟩|⟨c8,h⟩
  ·obtain⟨l10,bl10,h⟩:=aw h
   obtain rfl:=lf h
   have z:=p9<|sg 0 c8<|ss<|sv (aZ.mk' (v:=PVal.str) Ge ([x6.Name]:List ag) 1 (by kernel_rfl))<|sv (aZ.ap bl10)<|lG 2 .normal (dj t t15 t16 t17 t22 t23 m2 m3 m4 m5 (bA (t24+1)) l10) rfl (cb (aI (cQ rfl) (aI (cQ rfl) (aI (hU (aj t)) (aI (up (am ah t15)) (aI trivial (aI trivial (aI (up (am ah t22)) (aI trivial (aI trivial trivial)))))))))) (aI (aI (up (am d8 l10)) trivial) (aI (aI (aI trivial (aI (cQ rfl) (aI (cQ rfl) trivial))) trivial) (aI trivial (aI (aI trivial (aI trivial (aI trivial (aI (up (am ah m5)) trivial)))) trivial))))
   exact cc (A:=UV) mixed z<|by kernel_rfl
  ·obtain rfl:=lf h
   have z:=p9<|sg 0 c8<|lG 2 .normal (dj t t15 t16 t17 t22 t23 m2 m3 m4 m5 (bA (t24+1)) m) rfl (cb (aI (cQ rfl) (aI (cQ rfl) (aI (hU (aj t)) (aI (up (am ah t15)) (aI trivial (aI trivial (aI (up (am ah t22)) (aI trivial (aI trivial trivial)))))))))) (aI (aI (up (am d8 m)) trivial) (aI (aI (aI trivial (aI (cQ rfl) (aI (cQ rfl) trivial))) trivial) (aI trivial (aI (aI trivial (aI trivial (aI trivial (aI (up (am ah m5)) trivial)))) trivial))))
   exact cc (A:=UV) mixed z<|by kernel_rfl
 ·obtain rfl:=lf h
  have z:=sg 0 c5<|eF (.exit 2) (j8 t t15 t16 t17 m2 m3 m4 m5 m)
  exact eS UV (by intro hx;cases hx) z<|by kernel_rfl
theorem yS{x:waA}(h:ic t22 t23 t24 m=some x):aL Pg GE 2 (.loop (cA VI 14303)) (EX (.exit 2) (j8 t t15 t16 t17 m2 m3 m4 m5 x)) (dj t t15 t16 t17 t22 t23 m2 m3 m4 m5 t24 m):=
 aL.loop (S:=fun(zz:Int×waA)=>dj t t15 t16 t17 t22 t23 m2 m3 m4 m5 zz.1 zz.2) (ex:=(fun _=>.exit 2)) (s:=(t24,m)) h fun zz y hy=>yk t t15 t16 t17 t22 t23 m2 m3 m4 m5 zz.1 zz.2 hy
end
section
variable(t:ae)(t15:waB)(t16:Int)(t17:Int)(m:waA)
def d6:ax:=aP 51 [(1,.bptr 0 0),(2,.bptr 1 0),(3,.eptr (af t)),(15,sl ac t15),(16,.int .i64 t16),(17,.int .i64 t17)] [.cells [sl cS m] [(0,9)],.cells [.func (.func 80) [] [.bptr 0 0,.bptr 1 0]] [],.dead] [((15,0),28)]
def j7(o:waA):ax:=aP 51 [(2,.bptr 1 0),(3,.eptr (af t))] [.cells [sl cS o] [(0,9)],.cells [.func (.func 80) [] [.bptr 0 0,.bptr 1 0]] [],.dead] []
def cN:Option ((Int×waA)⊕(waA)):=
 if(decide (t17<t16))=true then
  (dt t15 t17).bind fun x3=>
  (xT x3).bind fun r4=>
  (ic r4 (r4.length:Int) 0 m).bind fun o11=>
  some (.inl (bA (t17+1),o11))
 else
  some (.inr m)
def ib:Option waA:=loop (fun(zz:Int×waA)=>cN t15 t16 zz.1 zz.2) (t17,m)
theorem yj{y:(Int×waA)⊕(waA)}(h:cN t15 t16 t17 m=some y):aL Pg GE 2 (cA VI 55) (LQ (fun(zz:Int×waA)=>d6 t t15 t16 zz.1 zz.2) (fun _=>.exit 0) (j7 t) y) (d6 t t15 t16 t17 m):=by
 rcases aK h with⟨c2,h⟩|⟨c2,h⟩
 ·obtain⟨x3,bx3,h⟩:=aw h
  obtain⟨r4,br4,h⟩:=aw h
  obtain⟨o11,bo11,h⟩:=aw h
  obtain rfl:=lf h
  have z:=sg 0 c2<|sv (aS.ia (k:=.i64) bx3)<|sv (az x3)<|sx d9<|sx (bp x3)<|sv (aU x3 [])<|aX (K9 br4)<|b9 (aS.ln r4)<|cm (yS t t15 t16 t17 r4 (r4.length:Int) x3.Op x3.Name x3.N x3.Kids 0 m bo11)<|lG 2 .normal (d6 t t15 t16 (bA (t17+1)) o11) rfl (cb (aI (cQ rfl) (aI (cQ rfl) (aI (hU (aj t)) (aI (up (am ah t15)) (aI trivial (aI trivial trivial))))))) (aI (aI (up (am d8 o11)) trivial) (aI (aI (aI trivial (aI (cQ rfl) (aI (cQ rfl) trivial))) trivial) (aI trivial trivial)))
  exact cc (A:=UV) mixed z<|by kernel_rfl
 ·obtain rfl:=lf h
  have z:=sg 0 c2<|eF (.exit 0) (j7 t m)
  exact eS UV (by intro hx;cases hx) z<|by kernel_rfl
theorem yR{x:waA}(h:ib t15 t16 t17 m=some x):aL Pg GE 2 (.loop (cA VI 55)) (EX (.exit 0) (j7 t x)) (d6 t t15 t16 t17 m):=
 aL.loop (S:=fun(zz:Int×waA)=>d6 t t15 t16 zz.1 zz.2) (ex:=(fun _=>.exit 0)) (s:=(t17,m)) h fun zz y hy=>yj t t15 t16 zz.1 zz.2 hy
end
section
variable(R149:jq)(t41:waC)(t42:Int)(t43:Int)(m:waA)
def d7:ax:=aP 51 [(2,.bptr 1 0),(41,sl af t41),(42,.int .i64 t42),(43,.int .i64 t43)] [.cells [sl cS m] [(0,9)],.cells [.func (.func 80) [] [.bptr 0 0,.bptr 1 0]] [],.dead] []
def j9(o:waA):ax:=aP 51 [] [.cells [sl cS o] [(0,9)],.cells [.func (.func 80) [] [.bptr 0 0,.bptr 1 0]] [],.dead] []
def cP:Option ((Int×waA)⊕(waA)):=
 if(decide (t43<t42))=true then
  (dt t41 t43).bind fun x14=>
  (R149 x14 m).bind fun r15=>
  some (.inl (bA (t43+1),r15))
 else
  some (.inr m)
def ie:Option waA:=loop (fun(zz:Int×waA)=>cP R149 t41 t42 zz.1 zz.2) (t43,m)
theorem yl(hR149:na R149){y:(Int×waA)⊕(waA)}(h:cP R149 t41 t42 t43 m=some y):aL Pg GE 2 (cA VI 63) (LQ (fun(zz:Int×waA)=>d7 t41 t42 zz.1 zz.2) (fun _=>.exit 4) j9 y) (d7 t41 t42 t43 m):=by
 rcases aK h with⟨c13,h⟩|⟨c13,h⟩
 ·obtain⟨x14,bx14,h⟩:=aw h
  obtain⟨r15,br15,h⟩:=aw h
  obtain rfl:=lf h
  have z:=sg 0 c13<|sv (cJ.ia (k:=.i64) bx14)<|sv (aQ x14)<|sx jl<|sx (cu x14)<|ss<|sv (bu x14 [])<|si (.cg ⟨[0,1],[.agg (af x14),.bptr 0 0,.bptr 1 0],[],[.cells [sl cS m] [(0,9)],.cells [.func (.func 80) [] [.bptr 0 0,.bptr 1 0]] []],[.cells [sl cS m] [(0,9)],.cells [.func (.func 80) [] [.bptr 0 0,.bptr 1 0]] []],[.cells [sl cS r15] [(0,9)],.cells [.func (.func 80) [] [.bptr 0 0,.bptr 1 0]] []],[.cells [sl cS r15] [(0,9)],.cells [.func (.func 80) [] [.bptr 0 0,.bptr 1 0]] []],.tuple [],.tuple [],[]⟩) (hR149 _ _ _ br15)<|sf (aI (xR [0,1] (.agg (af x14)) (aj x14)) (aI (xB [0,1] 0 0 0 rfl) (aI (xB [0,1] 1 1 0 rfl) trivial)))<|sf (aI (aI (rB (.cells [sl cS m] [(0,9)])) (aI (rW [(0,9)]) (aI (xR [0,1] (sl cS m) (am d8 m)) trivial))) (aI (aI (rB (.cells [.func (.func 80) [] [.bptr 0 0,.bptr 1 0]] [])) (aI (rW []) (aI (xF [0,1] (.func 80) [] [.bptr 0 0,.bptr 1 0] [] [.bptr 0 0,.bptr 1 0] trivial (aI (xB [0,1] 0 0 0 rfl) (aI (xB [0,1] 1 1 0 rfl) trivial))) trivial))) trivial))<|sf (aI (aI (rW [(0,9)]) (aI (xR [0,1] (sl cS r15) (am d8 r15)) trivial)) (aI (aI (rW []) (aI (xF [0,1] (.func 80) [] [.bptr 0 0,.bptr 1 0] [] [.bptr 0 0,.bptr 1 0] trivial (aI (xB [0,1] 0 0 0 rfl) (aI (xB [0,1] 1 1 0 rfl) trivial))) trivial)) trivial))<|sf (xR [0,1] (.tuple []) trivial)<|lG 2 .normal (d7 t41 t42 (bA (t43+1)) r15) rfl (cb (aI (cQ rfl) (aI (up (am aj t41)) (aI trivial (aI trivial trivial))))) (aI (aI (up (am d8 r15)) trivial) (aI (aI (aI trivial (aI (cQ rfl) (aI (cQ rfl) trivial))) trivial) (aI trivial trivial)))
  exact cc (A:=UV) mixed z<|by kernel_rfl
 ·obtain rfl:=lf h
  have z:=sg 0 c13<|eF (.exit 4) (j9 m)
  exact eS UV (by intro hx;cases hx) z<|by kernel_rfl
theorem yU(hR149:na R149){x:waA}(h:ie R149 t41 t42 t43 m=some x):aL Pg GE 2 (.loop (cA VI 63)) (EX (.exit 4) (j9 x)) (d7 t41 t42 t43 m):=
 aL.loop (S:=fun(zz:Int×waA)=>d7 t41 t42 zz.1 zz.2) (ex:=(fun _=>.exit 4)) (s:=(t43,m)) h fun zz y hy=>yl R149 t41 t42 zz.1 zz.2 hR149 hy
end
def jw(R149:jq)(t:ae)(k0:waA):Option waA:=
 (app ([t.Pred]:List aa) t.Preds).bind fun l1=>
 (ib l1 (l1.length:Int) 0 k0).bind fun o12=>
 (ie R149 t.Args (t.Args.length:Int) 0 o12).bind fun o16=>
 some o16
theorem A4(R149:jq)(hR149:na R149){t:ae}{k0:waA}{r:waA}(h:jw R149 t k0=some r):C Pg GE 80 [.agg (af t),.bptr 0 0,.bptr 1 0] [] [.cells [sl cS k0] [(0,9)],.cells [.func (.func 80) [] [.bptr 0 0,.bptr 1 0]] []] (.tuple []) [] [.cells [sl cS r] [(0,9)],.cells [.func (.func 80) [] [.bptr 0 0,.bptr 1 0]] []]:=by
 obtain⟨l1,bl1,h⟩:=aw h
 obtain⟨o12,bo12,h⟩:=aw h
 obtain⟨o16,bo16,h⟩:=aw h
 obtain rfl:=lf h
 have z:=se (bH t)<|sv (bv t)<|sv (bw t)<|sv (aS.mk' (v:=cj) bz ([t.Pred]:List aa) 1 (by kernel_rfl))<|sv (bk t)<|sv (bm t)<|sv (aS.ap bl1)<|b9 (aS.ln l1)<|cm (yR t l1 (l1.length:Int) 0 k0 bo12)<|sv (aF t)<|sv (aG t)<|b9 (cJ.ln t.Args)<|cm (yU R149 t.Args (t.Args.length:Int) 0 o12 hR149 bo16)<|en (aI (rP (.tuple []))<|aI trivial<|aI (rL [.cells [sl cS o16] [(0,9)],.cells [.func (.func 80) [] [.bptr 0 0,.bptr 1 0]] []])<|(aI (aI (up (n:=2) (am d8 o16)) trivial) (aI (aI (aI trivial (aI (cQ (i:=0) (n:=2) rfl) (aI (cQ (i:=1) (n:=2) rfl) trivial))) trivial) trivial)))
 exact C.evGp (A:=UV) mixed (m:=2) (c:=VI) rfl call80 func80 rfl z<|by kernel_rfl
def nU:((ae×waA)->Option waA)->(ae×waA)->Option waA:=fun(rec:(ae×waA)->Option waA) (x:ae×waA)=>jw (fun t k0=>rec (t,k0)) x.1 x.2
def qx(t:ae)(k0:waA):Option waA:=ku nU (t,k0)
theorem CK{t:ae}{k0:waA}{r:waA}(h:qx t k0=some r):C Pg GE 80 [.agg (af t),.bptr 0 0,.bptr 1 0] [] [.cells [sl cS k0] [(0,9)],.cells [.func (.func 80) [] [.bptr 0 0,.bptr 1 0]] []] (.tuple []) [] [.cells [sl cS r] [(0,9)],.cells [.func (.func 80) [] [.bptr 0 0,.bptr 1 0]] []]:=
 cn (F:=nU) (M:=fun(x:ae×waA) (r:waA)=>C Pg GE 80 [.agg (af x.1),.bptr 0 0,.bptr 1 0] [] [.cells [sl cS x.2] [(0,9)],.cells [.func (.func 80) [] [.bptr 0 0,.bptr 1 0]] []] (.tuple []) [] [.cells [sl cS r] [(0,9)],.cells [.func (.func 80) [] [.bptr 0 0,.bptr 1 0]] []]) (fun rec hrec x r h=>A4 _ (fun t k0 r h=>hrec (t,k0) r h) h) h
noncomputable def Z6:Code:=f39.body.getD .skip
def ZO:List Nat:=[]
def py(t:ae):Option waA:=
 (qx t ([]:List ag)).bind fun r1=>
 some r1
theorem Fw{t:ae}{r:waA}(h:py t=some r):CC Pg GE 39 [.agg (af t)] (sl cS r) []:=by
 obtain⟨r1,br1,h⟩:=aw h
 obtain rfl:=lf h
 have z:=se (bH t)<|sx YP<|sx YQ<|ss<|ss<|sv (aQ t)<|si (.cg ⟨[1,2],[.agg (af t),.bptr 0 0,.bptr 1 0],[],[.cells [sl cS ([]:List ag)] [(0,9)],.cells [.func (.func 80) [] [.bptr 1 0,.bptr 2 0]] []],[.cells [sl cS ([]:List ag)] [(0,9)],.cells [.func (.func 80) [] [.bptr 0 0,.bptr 1 0]] []],[.cells [sl cS r1] [(0,9)],.cells [.func (.func 80) [] [.bptr 1 0,.bptr 2 0]] []],[.cells [sl cS r1] [(0,9)],.cells [.func (.func 80) [] [.bptr 0 0,.bptr 1 0]] []],.tuple [],.tuple [],[]⟩) (CK br1)<|sf (aI (xR [1,2] (.agg (af t)) (aj t)) (aI (xB [1,2] 0 1 0 rfl) (aI (xB [1,2] 1 2 0 rfl) trivial)))<|sf (aI (aI (rB (.cells [sl cS ([]:List ag)] [(0,9)])) (aI (rW [(0,9)]) (aI (xR [1,2] (sl cS ([]:List ag)) (am d8 ([]:List ag))) trivial))) (aI (aI (rB (.cells [.func (.func 80) [] [.bptr 1 0,.bptr 2 0]] [])) (aI (rW []) (aI (xF [1,2] (.func 80) [] [.bptr 1 0,.bptr 2 0] [] [.bptr 0 0,.bptr 1 0] trivial (aI (xB [1,2] 0 1 0 rfl) (aI (xB [1,2] 1 2 0 rfl) trivial))) trivial))) trivial))<|sf (aI (aI (rW [(0,9)]) (aI (xR [1,2] (sl cS r1) (am d8 r1)) trivial)) (aI (aI (rW []) (aI (xF [1,2] (.func 80) [] [.bptr 1 0,.bptr 2 0] [] [.bptr 0 0,.bptr 1 0] trivial (aI (xB [1,2] 0 1 0 rfl) (aI (xB [1,2] 1 2 0 rfl) trivial))) trivial)) trivial))<|sf (xR [1,2] (.tuple []) trivial)<|ss<|en (aI (rP (sl cS r1))<|(am d8 r1))
 exact bo ZO call39 func39 (c:=Z6) rfl (aI (aj t) trivial) z<|by kernel_rfl
abbrev ud:=(ae->waA->Option waA)
abbrev y1(R:ud):Prop:=∀(t:ae) (a:waA) (r:waA),R t a=some r->C Pg GE 82 [.agg (af t),sl cS a] [((1,0),9)] [] (sl cS r) [(0,9)] []
abbrev pf:=(aa->Int->waB->Option waB)
abbrev uL(R:pf):Prop:=∀(p:aa) (op:Int) (a:waB) (r:waB),R p op a=some r->C Pg GE 139 [.agg (ac p),.int .i64 op,sl ac a] [((2,0),28)] [] (sl ac r) [(0,28)] []
noncomputable def Ug:Code:=f167.body.getD .skip
def So:List Nat:=[]
section
variable(p:aa)(t7:waB)(t8:Int)(t9:Int)
def nl:ax:=aP 17 [(3,.eptr (ac p)),(7,sl ac t7),(8,.int .i64 t8),(9,.int .i64 t9)] [.dead] []
def nm(o:Unit⊕(Unit)):Exit:=match o with
 |(.inl _)=>.ret
 |(.inr _)=>.exit 0
def km(o:Unit⊕(Unit)):ax:=match o with
 |(.inl o)=>aP 17 [(4,.bool true)] [.dead] []
 |(.inr o)=>aP 17 [] [.dead] []
def g8:Option (Int⊕(Unit⊕(Unit))):=
 if(decide (t9<t8))=true then
  (dt t7 t9).bind fun x2=>
  (gq x2 p).bind fun r3=>
  if r3=true then
   some (.inr (.inl ()))
  else
   some (.inl (bA (t9+1)))
 else
  some (.inr (.inr ()))
def BY:Option (Unit⊕(Unit)):=loop (fun(zz:Int)=>g8 p t7 t8 zz) t9
theorem Ii{y:Int⊕(Unit⊕(Unit))}(h:g8 p t7 t8 t9=some y):aL Pg GE 0 (cA Ug 55) (LQ (fun(zz:Int)=>nl p t7 t8 zz) nm km y) (nl p t7 t8 t9):=by
 rcases aK h with⟨c1,h⟩|⟨c1,h⟩
 ·obtain⟨x2,bx2,h⟩:=aw h
  obtain⟨r3,br3,h⟩:=aw h
  have p5:=fun{sc F} (r:PS sc F)=>sg 0 c1<|sv (aS.ia (k:=.i64) bx2)<|sv (az x2)<|sx d9<|sx (bp x2)<|sv (aU x2 [])<|sv (az p)<|aX (gO br3)<|r
  rcases aK h with⟨c4,h⟩|⟨c4,h⟩
  ·obtain rfl:=lf h
   have z:=p5<|sg 0 c4<|lG 0 (nm (.inl ())) (km (.inl ())) rfl (cb (aI trivial trivial)) (aI trivial trivial)
   exact mC (A:=So) mixed (by intro hx;cases hx) z<|by kernel_rfl
  ·obtain rfl:=lf h
   have z:=p5<|sg 0 c4<|lG 0 .normal (nl p t7 t8 (bA (t9+1))) rfl (cb (aI (hU (ah p)) (aI (up (am ah t7)) (aI trivial (aI trivial trivial))))) (aI trivial trivial)
   exact cc (A:=So) mixed z<|by kernel_rfl
 ·obtain rfl:=lf h
  have z:=sg 0 c1<|eF (nm (.inr ())) (km (.inr ()))
  exact eS So (by intro hx;cases hx) z<|by kernel_rfl
theorem Bg{x:Unit⊕(Unit)}(h:BY p t7 t8 t9=some x):aL Pg GE 0 (.loop (cA Ug 55)) (EX (nm x) (km x)) (nl p t7 t8 t9):=
 aL.loop (S:=fun(zz:Int)=>nl p t7 t8 zz) (ex:=nm) (s:=t9) h fun zz y hy=>Ii p t7 t8 zz hy
end
def HH(a:waB)(p:aa):Option Bool:=
 (BY p a (a.length:Int) 0).bind fun o6=>match o6 with
 |(.inl o6)=>
  some true
 |(.inr o6)=>
  some false
theorem Pc{a:waB}{p:aa}{r:Bool}(h:HH a p=some r):CC Pg GE 167 [sl ac a,.agg (ac p)] (.bool r) []:=by
 obtain⟨o6,bo6,h⟩:=aw h
 rcases o6 with o6|o6
 ·obtain rfl:=lf h
  have z:=se (bh p)<|b9 (aS.ln a)<|cm (e:=.ret) (s1:=km (.inl o6)) (Bg p a (a.length:Int) 0 bo6)<|en (aI (rP (.bool true))<|trivial)
  exact bo So call167 func167 (c:=Ug) rfl (aI (am ah a) (aI (ah p) trivial)) z<|by kernel_rfl
 ·obtain rfl:=lf h
  have z:=se (bh p)<|b9 (aS.ln a)<|cm (e:=.exit 0) (s1:=km (.inr o6)) (Bg p a (a.length:Int) 0 bo6)<|en (aI (rP (.bool false))<|trivial)
  exact bo So call167 func167 (c:=Ug) rfl (aI (am ah a) (aI (ah p) trivial)) z<|by kernel_rfl
noncomputable def SD:Code:=f139.body.getD .skip
def Q4:List Nat:=[18,31,35]
section
variable(R156:pf)(op:Int)(p:aa)(t10:waB)(t11:Int)(v:waB)(t12:Int)
def gr:ax:=aP 36 [(1,.int .i64 op),(2,sl ac v),(3,.eptr (ac p)),(10,sl ac t10),(11,.int .i64 t11),(12,.int .i64 t12)] [.dead] [((2,0),28)]
def oB(o:waB):ax:=aP 36 [(1,.int .i64 op),(2,sl ac o),(3,.eptr (ac p))] [.dead] [((2,0),28)]
def kn:Option ((waB×Int)⊕(waB)):=
 if(decide (t12<t11))=true then
  (dt t10 t12).bind fun x2=>
  (R156 x2 op v).bind fun r3=>
  some (.inl (r3,bA (t12+1)))
 else
  some (.inr v)
def su:Option waB:=loop (fun(zz:waB×Int)=>kn R156 op t10 t11 zz.1 zz.2) (v,t12)
theorem B3(hR156:uL R156){y:(waB×Int)⊕(waB)}(h:kn R156 op t10 t11 v t12=some y):aL Pg GE 1000 (cA SD 55) (LQ (fun(zz:waB×Int)=>gr op p t10 t11 zz.1 zz.2) (fun _=>.exit 0) (oB op p) y) (gr op p t10 t11 v t12):=by
 rcases aK h with⟨c1,h⟩|⟨c1,h⟩
 ·obtain⟨x2,bx2,h⟩:=aw h
  obtain⟨r3,br3,h⟩:=aw h
  obtain rfl:=lf h
  have z:=sg 0 c1<|sv (aS.ia (k:=.i64) bx2)<|sv (az x2)<|sx d9<|sx (bp x2)<|sv (aU x2 [])<|si (.cg ⟨[],[.agg (ac x2),.int .i64 op,sl ac v],[⟨2,18,0,28⟩],[],[],[],[],sl ac r3,sl ac r3,[(0,28)]⟩) (hR156 _ _ _ _ br3)<|sf (aI (xR [] (.agg (ac x2)) (ah x2)) (aI (xR [] (.int .i64 op) trivial) (aI (xR [] (sl ac v) (am ah v)) trivial)))<|sf trivial<|sf trivial<|sf (xR [] (sl ac r3) (am ah r3))<|lG 1000 .normal (gr op p t10 t11 r3 (bA (t12+1))) rfl (cb (aI trivial (aI (up (am ah r3)) (aI (hU (ah p)) (aI (up (am ah t10)) (aI trivial (aI trivial trivial))))))) (aI trivial trivial)
  exact cc (A:=Q4) mixed z<|by kernel_rfl
 ·obtain rfl:=lf h
  have z:=sg 0 c1<|eF (.exit 0) (oB op p v)
  exact eS Q4 (by intro hx;cases hx) z<|by kernel_rfl
theorem C6(hR156:uL R156){x:waB}(h:su R156 op t10 t11 v t12=some x):aL Pg GE 1000 (.loop (cA SD 55)) (EX (.exit 0) (oB op p x)) (gr op p t10 t11 v t12):=
 aL.loop (S:=fun(zz:waB×Int)=>gr op p t10 t11 zz.1 zz.2) (ex:=(fun _=>.exit 0)) (s:=(v,t12)) h fun zz y hy=>B3 R156 op p t10 t11 zz.1 zz.2 hR156 hy
end
section
variable(op:Int)(v:waB)(p:aa)
def EB:ax:=aP 36 [(1,.int .i64 op),(2,sl ac v),(3,.eptr (ac p))] [.dead] [((2,0),28)]
def oA(o:Bool):ax:=aP 36 [(2,sl ac v),(3,.eptr (ac p)),(30,.bool o)] [.dead] [((2,0),28)]
def sq:Option Bool:=
 if(p.Op==op)=true then
  (HH v p).bind fun r7=>
  some (!r7)
 else
  some false
theorem C5{x:Bool}(h:sq op v p=some x):aL Pg GE 1000 (cA SD 28) (EX .normal (oA v p x)) (EB op v p):=by
 have p6:=fun{sc F} (r:PS sc F)=>sv (aB p)<|sv (aC p)<|r
 rcases aK h with⟨c5,h⟩|⟨c5,h⟩
 ·obtain⟨r7,br7,h⟩:=aw h
  obtain rfl:=lf h
  exact bE Q4 (p6<|sg 5 c5<|sv (az p)<|aX (Pc br7)<|eF .normal (oA v p (!r7)))<|by kernel_rfl
 ·obtain rfl:=lf h
  exact bE Q4 (p6<|sg 5 c5<|eF .normal (oA v p false))<|by kernel_rfl
end
def pd(R156:pf)(p:aa)(op:Int)(a:waB):Option waB:=
 (su R156 op p.Kids (p.Kids.length:Int) a 0).bind fun o4=>
 (sq op o4 p).bind fun o8=>
 if o8=true then
  (app o4 ([p]:List aa)).bind fun l11=>
  some l11
 else
  some o4
theorem GQ(R156:pf)(hR156:uL R156){p:aa}{op:Int}{a:waB}{r:waB}(h:pd R156 p op a=some r):C Pg GE 139 [.agg (ac p),.int .i64 op,sl ac a] [((2,0),28)] [] (sl ac r) [(0,28)] []:=by
 obtain⟨o4,bo4,h⟩:=aw h
 obtain⟨o8,bo8,h⟩:=aw h
 have p10:=fun{sc F} (r:PS sc F)=>se (bh p)<|sv (aH p)<|sv (aJ p)<|b9 (aS.ln p.Kids)<|cm (C6 R156 op p p.Kids (p.Kids.length:Int) a 0 hR156 bo4)<|jC 1<|cm (C5 op o4 p bo8)<|r
 rcases aK h with⟨c9,h⟩|⟨c9,h⟩
 ·obtain⟨l11,bl11,h⟩:=aw h
  obtain rfl:=lf h
  have z:=p10<|sg 0 c9<|sv (az p)<|sv (aS.mk' (v:=cj) bz ([p]:List aa) 1 (by kernel_rfl))<|sv (aS.ap bl11)<|en (aI (rP (sl ac l11))<|aI (up (n:=0) (am ah l11))<|aI (rL [])<|trivial)
  exact C.evGp (A:=Q4) mixed (m:=1000) (c:=SD) rfl call139 func139 rfl z<|by kernel_rfl
 ·obtain rfl:=lf h
  have z:=p10<|sg 0 c9<|en (aI (rP (sl ac o4))<|aI (up (n:=0) (am ah o4))<|aI (rL [])<|trivial)
  exact C.evGp (A:=Q4) mixed (m:=1000) (c:=SD) rfl call139 func139 rfl z<|by kernel_rfl
def uU:((aa×Int×waB)->Option waB)->(aa×Int×waB)->Option waB:=fun(rec:(aa×Int×waB)->Option waB) (x:aa×Int×waB)=>pd (fun p op a=>rec (p,op,a)) x.1 x.2.1 x.2.2
def zf(p:aa)(op:Int)(a:waB):Option waB:=ku uU (p,op,a)
theorem Il{p:aa}{op:Int}{a:waB}{r:waB}(h:zf p op a=some r):C Pg GE 139 [.agg (ac p),.int .i64 op,sl ac a] [((2,0),28)] [] (sl ac r) [(0,28)] []:=
 cn (F:=uU) (M:=fun(x:aa×Int×waB) (r:waB)=>C Pg GE 139 [.agg (ac x.1),.int .i64 x.2.1,sl ac x.2.2] [((2,0),28)] [] (sl ac r) [(0,28)] []) (fun rec hrec x r h=>GQ _ (fun p op a r h=>hrec (p,op,a) r h) h) h
noncomputable def Yj:Code:=f116.body.getD .skip
def X3:List Nat:=[]
def Ap(p:aa):Option waB:=
 (zf p 5 ([]:List aa)).bind fun r1=>
 some r1
theorem Mt{p:aa}{r:waB}(h:Ap p=some r):CC Pg GE 116 [.agg (ac p)] (sl ac r) [(0,28)]:=by
 obtain⟨r1,br1,h⟩:=aw h
 obtain rfl:=lf h
 have z:=se (bh p)<|sv (az p)<|si (.cg ⟨[],[.agg (ac p),.int .i64 5,sl ac ([]:List aa)],[⟨2,1000000,0,28⟩],[],[],[],[],sl ac r1,sl ac r1,[(0,28)]⟩) (Il br1)<|sf (aI (xR [] (.agg (ac p)) (ah p)) (aI (xR [] (.int .i64 5) trivial) (aI (xR [] (sl ac ([]:List aa)) (am ah ([]:List aa))) trivial)))<|sf trivial<|sf trivial<|sf (xR [] (sl ac r1) (am ah r1))<|en (aI (rP (sl ac r1))<|(am ah r1))
 exact bo X3 call116 func116 (c:=Yj) rfl (aI (ah p) trivial) z<|by kernel_rfl
noncomputable def VJ:Code:=f82.body.getD .skip
def UW:List Nat:=[34,49,52]
section
variable(t:ae)(t16:waB)(t17:Int)(t18:Int)(t23:waB)(t24:Int)(m:Int)(m2:ag)(m3:Int)(m4:waB)(v:waA)(t25:Int)
def gu:ax:=aP 53 [(1,sl cS v),(2,.eptr (af t)),(16,sl ac t16),(17,.int .i64 t17),(18,.int .i64 t18),(23,sl ac t23),(24,.int .i64 t24),(25,.int .i64 t25)] [.dead,.cells [.int .i64 m,.str m2,.int .i64 m3,sl ac m4] []] [((23,0),28),((16,0),28),((1,0),9)]
def sD(o:waA):ax:=aP 53 [(1,sl cS o),(2,.eptr (af t)),(16,sl ac t16),(17,.int .i64 t17),(18,.int .i64 t18)] [.dead,.cells [.int .i64 m,.str m2,.int .i64 m3,sl ac m4] []] [((16,0),28),((1,0),9)]
def eW:Option ((waA×Int)⊕(waA)):=
 if(decide (t25<t24))=true then
  (dt t23 t25).bind fun x6=>
  (im v x6.Name).bind fun r7=>
  if(decide (r7<0))=true then
   (app v ([x6.Name]:List ag)).bind fun l10=>
   some (.inl (l10,bA (t25+1)))
  else
   some (.inl (v,bA (t25+1)))
 else
  some (.inr v)
def qV:Option waA:=loop (fun(zz:waA×Int)=>eW t23 t24 zz.1 zz.2) (v,t25)
theorem EF{y:(waA×Int)⊕(waA)}(h:eW t23 t24 v t25=some y):aL Pg GE 1000 (cA VJ 14303) (LQ (fun(zz:waA×Int)=>gu t t16 t17 t18 t23 t24 m m2 m3 m4 zz.1 zz.2) (fun _=>.exit 2) (sD t t16 t17 t18 m m2 m3 m4) y) (gu t t16 t17 t18 t23 t24 m m2 m3 m4 v t25):=by
 rcases aK h with⟨c5,h⟩|⟨c5,h⟩
 ·obtain⟨x6,bx6,h⟩:=aw h
  obtain⟨r7,br7,h⟩:=aw h
  have p9:=fun{sc F} (r:PS sc F)=>sg 0 c5<|sv (aS.ia (k:=.i64) bx6)<|sv (az x6)<|sx d9<|sx (bp x6)<|ss<|aX (tM br7)<|r
  rcases aK h with⟨c8,h⟩|⟨c8,h⟩
  ·obtain⟨l10,bl10,h⟩:=aw h
   obtain rfl:=lf h
   have z:=p9<|sg 0 c8<|ss<|sv (aZ.mk' (v:=PVal.str) Ge ([x6.Name]:List ag) 1 (by kernel_rfl))<|sv (aZ.ap bl10)<|lG 1000 .normal (gu t t16 t17 t18 t23 t24 m m2 m3 m4 l10 (bA (t25+1))) rfl (cb (aI (up (am d8 l10)) (aI (hU (aj t)) (aI (up (am ah t16)) (aI trivial (aI trivial (aI (up (am ah t23)) (aI trivial (aI trivial trivial))))))))) (aI trivial (aI (aI trivial (aI trivial (aI trivial (aI (up (am ah m4)) trivial)))) trivial))
   exact cc (A:=UW) mixed z<|by kernel_rfl
  ·obtain rfl:=lf h
   have z:=p9<|sg 0 c8<|lG 1000 .normal (gu t t16 t17 t18 t23 t24 m m2 m3 m4 v (bA (t25+1))) rfl (cb (aI (up (am d8 v)) (aI (hU (aj t)) (aI (up (am ah t16)) (aI trivial (aI trivial (aI (up (am ah t23)) (aI trivial (aI trivial trivial))))))))) (aI trivial (aI (aI trivial (aI trivial (aI trivial (aI (up (am ah m4)) trivial)))) trivial))
   exact cc (A:=UW) mixed z<|by kernel_rfl
 ·obtain rfl:=lf h
  have z:=sg 0 c5<|eF (.exit 2) (sD t t16 t17 t18 m m2 m3 m4 v)
  exact eS UW (by intro hx;cases hx) z<|by kernel_rfl
theorem G0{x:waA}(h:qV t23 t24 v t25=some x):aL Pg GE 1000 (.loop (cA VJ 14303)) (EX (.exit 2) (sD t t16 t17 t18 m m2 m3 m4 x)) (gu t t16 t17 t18 t23 t24 m m2 m3 m4 v t25):=
 aL.loop (S:=fun(zz:waA×Int)=>gu t t16 t17 t18 t23 t24 m m2 m3 m4 zz.1 zz.2) (ex:=(fun _=>.exit 2)) (s:=(v,t25)) h fun zz y hy=>EF t t16 t17 t18 t23 t24 m m2 m3 m4 zz.1 zz.2 hy
end
section
variable(t:ae)(t16:waB)(t17:Int)(v:waA)(t18:Int)
def jS:ax:=aP 53 [(1,sl cS v),(2,.eptr (af t)),(16,sl ac t16),(17,.int .i64 t17),(18,.int .i64 t18)] [.dead] [((16,0),28),((1,0),9)]
def sC(o:waA):ax:=aP 53 [(1,sl cS o),(2,.eptr (af t))] [.dead] [((1,0),9)]
def eV:Option ((waA×Int)⊕(waA)):=
 if(decide (t18<t17))=true then
  (dt t16 t18).bind fun x3=>
  (Ap x3).bind fun r4=>
  (qV r4 (r4.length:Int) v 0).bind fun o11=>
  some (.inl (o11,bA (t18+1)))
 else
  some (.inr v)
def qU:Option waA:=loop (fun(zz:waA×Int)=>eV t16 t17 zz.1 zz.2) (v,t18)
theorem EE{y:(waA×Int)⊕(waA)}(h:eV t16 t17 v t18=some y):aL Pg GE 1000 (cA VJ 55) (LQ (fun(zz:waA×Int)=>jS t t16 t17 zz.1 zz.2) (fun _=>.exit 0) (sC t) y) (jS t t16 t17 v t18):=by
 rcases aK h with⟨c2,h⟩|⟨c2,h⟩
 ·obtain⟨x3,bx3,h⟩:=aw h
  obtain⟨r4,br4,h⟩:=aw h
  obtain⟨o11,bo11,h⟩:=aw h
  obtain rfl:=lf h
  have z:=sg 0 c2<|sv (aS.ia (k:=.i64) bx3)<|sv (az x3)<|sx d9<|sx (bp x3)<|sv (aU x3 [])<|aX (Mt br4)<|b9 (aS.ln r4)<|cm (G0 t t16 t17 t18 r4 (r4.length:Int) x3.Op x3.Name x3.N x3.Kids v 0 bo11)<|lG 1000 .normal (jS t t16 t17 o11 (bA (t18+1))) rfl (cb (aI (up (am d8 o11)) (aI (hU (aj t)) (aI (up (am ah t16)) (aI trivial (aI trivial trivial)))))) (aI trivial trivial)
  exact cc (A:=UW) mixed z<|by kernel_rfl
 ·obtain rfl:=lf h
  have z:=sg 0 c2<|eF (.exit 0) (sC t v)
  exact eS UW (by intro hx;cases hx) z<|by kernel_rfl
theorem GZ{x:waA}(h:qU t16 t17 v t18=some x):aL Pg GE 1000 (.loop (cA VJ 55)) (EX (.exit 0) (sC t x)) (jS t t16 t17 v t18):=
 aL.loop (S:=fun(zz:waA×Int)=>jS t t16 t17 zz.1 zz.2) (ex:=(fun _=>.exit 0)) (s:=(v,t18)) h fun zz y hy=>EE t t16 t17 zz.1 zz.2 hy
end
section
variable(R154:ud)(t42:waC)(t43:Int)(v:waA)(t44:Int)
def jT:ax:=aP 53 [(1,sl cS v),(42,sl af t42),(43,.int .i64 t43),(44,.int .i64 t44)] [.dead] [((1,0),9)]
def sE(o:waA):ax:=aP 53 [(1,sl cS o)] [.dead] [((1,0),9)]
def eX:Option ((waA×Int)⊕(waA)):=
 if(decide (t44<t43))=true then
  (dt t42 t44).bind fun x14=>
  (R154 x14 v).bind fun r15=>
  some (.inl (r15,bA (t44+1)))
 else
  some (.inr v)
def qW:Option waA:=loop (fun(zz:waA×Int)=>eX R154 t42 t43 zz.1 zz.2) (v,t44)
theorem EG(hR154:y1 R154){y:(waA×Int)⊕(waA)}(h:eX R154 t42 t43 v t44=some y):aL Pg GE 1000 (cA VJ 119) (LQ (fun(zz:waA×Int)=>jT t42 t43 zz.1 zz.2) (fun _=>.exit 4) sE y) (jT t42 t43 v t44):=by
 rcases aK h with⟨c13,h⟩|⟨c13,h⟩
 ·obtain⟨x14,bx14,h⟩:=aw h
  obtain⟨r15,br15,h⟩:=aw h
  obtain rfl:=lf h
  have z:=sg 0 c13<|sv (cJ.ia (k:=.i64) bx14)<|sv (aQ x14)<|sx jl<|sx (cu x14)<|sv (bu x14 [])<|si (.cg ⟨[],[.agg (af x14),sl cS v],[⟨1,49,0,9⟩],[],[],[],[],sl cS r15,sl cS r15,[(0,9)]⟩) (hR154 _ _ _ br15)<|sf (aI (xR [] (.agg (af x14)) (aj x14)) (aI (xR [] (sl cS v) (am d8 v)) trivial))<|sf trivial<|sf trivial<|sf (xR [] (sl cS r15) (am d8 r15))<|lG 1000 .normal (jT t42 t43 r15 (bA (t44+1))) rfl (cb (aI (up (am d8 r15)) (aI (up (am aj t42)) (aI trivial (aI trivial trivial))))) (aI trivial trivial)
  exact cc (A:=UW) mixed z<|by kernel_rfl
 ·obtain rfl:=lf h
  have z:=sg 0 c13<|eF (.exit 4) (sE v)
  exact eS UW (by intro hx;cases hx) z<|by kernel_rfl
theorem G1(hR154:y1 R154){x:waA}(h:qW R154 t42 t43 v t44=some x):aL Pg GE 1000 (.loop (cA VJ 119)) (EX (.exit 4) (sE x)) (jT t42 t43 v t44):=
 aL.loop (S:=fun(zz:waA×Int)=>jT t42 t43 zz.1 zz.2) (ex:=(fun _=>.exit 4)) (s:=(v,t44)) h fun zz y hy=>EG R154 t42 t43 zz.1 zz.2 hR154 hy
end
def tY(R154:ud)(t:ae)(a:waA):Option waA:=
 (app ([t.Pred]:List aa) t.Preds).bind fun l1=>
 (qU l1 (l1.length:Int) a 0).bind fun o12=>
 (qW R154 t.Args (t.Args.length:Int) o12 0).bind fun o16=>
 some o16
theorem KO(R154:ud)(hR154:y1 R154){t:ae}{a:waA}{r:waA}(h:tY R154 t a=some r):C Pg GE 82 [.agg (af t),sl cS a] [((1,0),9)] [] (sl cS r) [(0,9)] []:=by
 obtain⟨l1,bl1,h⟩:=aw h
 obtain⟨o12,bo12,h⟩:=aw h
 obtain⟨o16,bo16,h⟩:=aw h
 obtain rfl:=lf h
 have z:=se (bH t)<|sv (bv t)<|sv (bw t)<|sv (aS.mk' (v:=cj) bz ([t.Pred]:List aa) 1 (by kernel_rfl))<|sv (bk t)<|sv (bm t)<|sv (aS.ap bl1)<|b9 (aS.ln l1)<|cm (GZ t l1 (l1.length:Int) a 0 bo12)<|sv (aF t)<|sv (aG t)<|b9 (cJ.ln t.Args)<|cm (G1 R154 t.Args (t.Args.length:Int) o12 0 hR154 bo16)<|en (aI (rP (sl cS o16))<|aI (up (n:=0) (am d8 o16))<|aI (rL [])<|trivial)
 exact C.evGp (A:=UW) mixed (m:=1000) (c:=VJ) rfl call82 func82 rfl z<|by kernel_rfl
def zu:((ae×waA)->Option waA)->(ae×waA)->Option waA:=fun(rec:(ae×waA)->Option waA) (x:ae×waA)=>tY (fun t a=>rec (t,a)) x.1 x.2
def ED(t:ae)(a:waA):Option waA:=ku zu (t,a)
theorem MF{t:ae}{a:waA}{r:waA}(h:ED t a=some r):C Pg GE 82 [.agg (af t),sl cS a] [((1,0),9)] [] (sl cS r) [(0,9)] []:=
 cn (F:=zu) (M:=fun(x:ae×waA) (r:waA)=>C Pg GE 82 [.agg (af x.1),sl cS x.2] [((1,0),9)] [] (sl cS r) [(0,9)] []) (fun rec hrec x r h=>KO _ (fun t a r h=>hrec (t,a) r h) h) h
noncomputable def Z7:Code:=f40.body.getD .skip
def ZP:List Nat:=[]
def Aq(t:ae):Option waA:=
 (ED t ([]:List ag)).bind fun r1=>
 some r1
theorem MC{t:ae}{r:waA}(h:Aq t=some r):CC Pg GE 40 [.agg (af t)] (sl cS r) [(0,9)]:=by
 obtain⟨r1,br1,h⟩:=aw h
 obtain rfl:=lf h
 have z:=se (bH t)<|sv (aQ t)<|si (.cg ⟨[],[.agg (af t),sl cS ([]:List ag)],[⟨1,1000000,0,9⟩],[],[],[],[],sl cS r1,sl cS r1,[(0,9)]⟩) (MF br1)<|sf (aI (xR [] (.agg (af t)) (aj t)) (aI (xR [] (sl cS ([]:List ag)) (am d8 ([]:List ag))) trivial))<|sf trivial<|sf trivial<|sf (xR [] (sl cS r1) (am d8 r1))<|en (aI (rP (sl cS r1))<|(am d8 r1))
 exact bo ZP call40 func40 (c:=Z7) rfl (aI (aj t) trivial) z<|by kernel_rfl
abbrev gv:=(ae->ae->Option Bool)
abbrev nb(R:gv):Prop:=∀(a:ae) (a2:ae) (r:Bool),R a a2=some r->CC Pg GE 41 [.agg (af a),.agg (af a2)] (.bool r) []
noncomputable def W9:Code:=f83.body.getD .skip
def Wj:List Nat:=[15]
section
variable(s1:waA)(s2:waA)(t12:Int)(t13:Int)
def fT:ax:=aP 26 [(0,sl cS s1),(1,sl cS s2),(12,.int .i64 t12),(13,.int .i64 t13)] [] []
def fU(o:Unit⊕(Unit)):Exit:=match o with
 |(.inl _)=>.ret
 |(.inr _)=>.exit 0
def eu(o:Unit⊕(Unit)):ax:=match o with
 |(.inl o)=>aP 26 [(4,.bool false)] [] []
 |(.inr o)=>aP 26 [] [] []
def n9:Option (Int⊕(Unit⊕(Unit))):=
 if(decide (t13<t12))=true then
  (dt s1 t13).bind fun x4=>
  (dt s2 t13).bind fun x5=>
  if(!(x4==x5))=true then
   some (.inr (.inl ()))
  else
   some (.inl (bA (t13+1)))
 else
  some (.inr (.inr ()))
def qA:Option (Unit⊕(Unit)):=loop (fun(zz:Int)=>n9 s1 s2 t12 zz) t13
theorem Bb{y:Int⊕(Unit⊕(Unit))}(h:n9 s1 s2 t12 t13=some y):aL Pg GE 0 (cA W9 119) (LQ (fun(zz:Int)=>fT s1 s2 t12 zz) fU eu y) (fT s1 s2 t12 t13):=by
 rcases aK h with⟨c3,h⟩|⟨c3,h⟩
 ·obtain⟨x4,bx4,h⟩:=aw h
  obtain⟨x5,bx5,h⟩:=aw h
  have p7:=fun{sc F} (r:PS sc F)=>sg 0 c3<|CO [0,0,3,7,0,0,48,112,255]<|sv (aZ.ia (k:=.i64) bx4)<|sv (dB Es (.str x4) [])<|sv (aZ.ia (k:=.i64) bx5)<|sv (dB Es (.str x5) [])<|r
  rcases aK h with⟨c6,h⟩|⟨c6,h⟩
  ·obtain rfl:=lf h
   have z:=p7<|sg 0 c6<|eF (fU (.inl ())) (eu (.inl ()))
   exact eS Wj (by intro hx;cases hx) z<|by kernel_rfl
  ·obtain rfl:=lf h
   exact vJ Wj (p7<|sg 0 c6<|eF .normal (fT s1 s2 t12 (bA (t13+1))))<|by kernel_rfl
 ·obtain rfl:=lf h
  have z:=sg 0 c3<|eF (fU (.inr ())) (eu (.inr ()))
  exact eS Wj (by intro hx;cases hx) z<|by kernel_rfl
theorem tw{x:Unit⊕(Unit)}(h:qA s1 s2 t12 t13=some x):aL Pg GE 0 (.loop (cA W9 119)) (EX (fU x) (eu x)) (fT s1 s2 t12 t13):=
 aL.loop (S:=fun(zz:Int)=>fT s1 s2 t12 zz) (ex:=fU) (s:=t13) h fun zz y hy=>Bb s1 s2 t12 zz hy
end
def rD(s1:waA)(s2:waA):Option Bool:=
 if((s1.length:Int)!=(s2.length:Int))=true then
  some false
 else
  (qA s1 s2 (s1.length:Int) 0).bind fun o8=>match o8 with
  |(.inl o8)=>
   some false
  |(.inr o8)=>
   some true
theorem Hz{s1:waA}{s2:waA}{r:Bool}(h:rD s1 s2=some r):CC Pg GE 83 [sl cS s1,sl cS s2] (.bool r) []:=by
 have p2:=fun{sc F} (r:PS sc F)=>b9 (aZ.ln s1)<|b9 (aZ.ln s2)<|r
 rcases aK h with⟨c1,h⟩|⟨c1,h⟩
 ·obtain rfl:=lf h
  have z:=p2<|sg 0 c1<|en (aI (rP (.bool false))<|trivial)
  exact bo Wj call83 func83 (c:=W9) rfl (aI (am d8 s1) (aI (am d8 s2) trivial)) z<|by kernel_rfl
 ·obtain⟨o8,bo8,h⟩:=aw h
  rcases o8 with o8|o8
  ·obtain rfl:=lf h
   have z:=p2<|sg 0 c1<|b9 (aZ.ln s1)<|cm (e:=.ret) (s1:=eu (.inl o8)) (tw s1 s2 (s1.length:Int) 0 bo8)<|en (aI (rP (.bool false))<|trivial)
   exact bo Wj call83 func83 (c:=W9) rfl (aI (am d8 s1) (aI (am d8 s2) trivial)) z<|by kernel_rfl
  ·obtain rfl:=lf h
   have z:=p2<|sg 0 c1<|b9 (aZ.ln s1)<|cm (e:=.exit 0) (s1:=eu (.inr o8)) (tw s1 s2 (s1.length:Int) 0 bo8)<|en (aI (rP (.bool true))<|trivial)
   exact bo Wj call83 func83 (c:=W9) rfl (aI (am d8 s1) (aI (am d8 s2) trivial)) z<|by kernel_rfl
noncomputable def WT:Code:=f117.body.getD .skip
def Ws:List Nat:=[]
def nY(p:aa):Option Bool:=
 (ii p).bind fun r1=>
 if r1=true then
  some true
 else
  (fD p (⟨2,([]:ag),1,([]:List aa)⟩:aa)).bind fun r4=>
  some r4
theorem yG{p:aa}{r:Bool}(h:nY p=some r):CC Pg GE 117 [.agg (ac p)] (.bool r) []:=by
 obtain⟨r1,br1,h⟩:=aw h
 have p3:=fun{sc F} (r:PS sc F)=>se (bh p)<|sv (az p)<|aX (mr br1)<|r
 rcases aK h with⟨c2,h⟩|⟨c2,h⟩
 ·obtain rfl:=lf h
  have z:=p3<|sg 3 c2<|en (aI (rP (.bool true))<|trivial)
  exact bo Ws call117 func117 (c:=WT) rfl (aI (ah p) trivial) z<|by kernel_rfl
 ·obtain⟨r4,br4,h⟩:=aw h
  obtain rfl:=lf h
  have z:=p3<|sg 3 c2<|sv (az p)<|sb (nx 2 1) (nw 2 1)<|aX (fM br4)<|en (aI (rP (.bool r4))<|trivial)
  exact bo Ws call117 func117 (c:=WT) rfl (aI (ah p) trivial) z<|by kernel_rfl
noncomputable def Yw:Code:=f84.body.getD .skip
def Yf:List Nat:=[]
def eT(a:aa)(a2:aa):Option Bool:=
 (nY a).bind fun r1=>
 if r1=true then
  (nY a2).bind fun r4=>
  if r4=true then
   some true
  else
   (fD a a2).bind fun r7=>
   some r7
 else
  (fD a a2).bind fun r8=>
  some r8
theorem qP{a:aa}{a2:aa}{r:Bool}(h:eT a a2=some r):CC Pg GE 84 [.agg (ac a),.agg (ac a2)] (.bool r) []:=by
 obtain⟨r1,br1,h⟩:=aw h
 have p3:=fun{sc F} (r:PS sc F)=>se (bh a)<|se (bh a2)<|sv (az a)<|aX (yG br1)<|r
 rcases aK h with⟨c2,h⟩|⟨c2,h⟩
 ·obtain⟨r4,br4,h⟩:=aw h
  have p6:=fun{sc F} (r:PS sc F)=>p3<|sg 3 c2<|sv (az a2)<|aX (yG br4)<|r
  rcases aK h with⟨c5,h⟩|⟨c5,h⟩
  ·obtain rfl:=lf h
   have z:=p6<|sg 7 c5<|en (aI (rP (.bool true))<|trivial)
   exact bo Yf call84 func84 (c:=Yw) rfl (aI (ah a) (aI (ah a2) trivial)) z<|by kernel_rfl
  ·obtain⟨r7,br7,h⟩:=aw h
   obtain rfl:=lf h
   have z:=p6<|sg 7 c5<|sv (az a)<|sv (az a2)<|aX (fM br7)<|en (aI (rP (.bool r7))<|trivial)
   exact bo Yf call84 func84 (c:=Yw) rfl (aI (ah a) (aI (ah a2) trivial)) z<|by kernel_rfl
 ·obtain⟨r8,br8,h⟩:=aw h
  obtain rfl:=lf h
  have z:=p3<|sg 3 c2<|sv (az a)<|sv (az a2)<|aX (fM br8)<|en (aI (rP (.bool r8))<|trivial)
  exact bo Yf call84 func84 (c:=Yw) rfl (aI (ah a) (aI (ah a2) trivial)) z<|by kernel_rfl
noncomputable def Xa:Code:=f85.body.getD .skip
def Wk:List Nat:=[19]
section
variable(s2:waB)(t15:waB)(t16:Int)(t17:Int)
def dO:ax:=aP 32 [(1,sl ac s2),(2,.func (.func 84) [] []),(15,sl ac t15),(16,.int .i64 t16),(17,.int .i64 t17)] [] []
def dQ(o:Unit⊕(Unit)):Exit:=match o with
 |(.inl _)=>.ret
 |(.inr _)=>.exit 0
def cV(o:Unit⊕(Unit)):ax:=match o with
 |(.inl o)=>aP 32 [(6,.bool false)] [] []
 |(.inr o)=>aP 32 [] [] []
def jo:Option (Int⊕(Unit⊕(Unit))):=
 if(decide (t17<t16))=true then
  (dt t15 t17).bind fun x4=>
  (dt s2 t17).bind fun x5=>
  (eT x4 x5).bind fun r6=>
  if(!r6)=true then
   some (.inr (.inl ()))
  else
   some (.inl (bA (t17+1)))
 else
  some (.inr (.inr ()))
def kN:Option (Unit⊕(Unit)):=loop (fun(zz:Int)=>jo s2 t15 t16 zz) t17
theorem wH{y:Int⊕(Unit⊕(Unit))}(h:jo s2 t15 t16 t17=some y):aL Pg GE 0 (cA Xa 119) (LQ (fun(zz:Int)=>dO s2 t15 t16 zz) dQ cV y) (dO s2 t15 t16 t17):=by
 rcases aK h with⟨c3,h⟩|⟨c3,h⟩
 ·obtain⟨x4,bx4,h⟩:=aw h
  obtain⟨x5,bx5,h⟩:=aw h
  obtain⟨r6,br6,h⟩:=aw h
  have p8:=fun{sc F} (r:PS sc F)=>sg 0 c3<|sv (aS.ia (k:=.i64) bx4)<|sv (az x4)<|sx d9<|sx (bp x4)<|sv (aS.ia (k:=.i64) bx5)<|sv (az x5)<|sx d9<|sx (bp x5)<|sv (aU x4 [])<|sv (aU x5 [])<|aX (qP br6)<|r
  rcases aK h with⟨c7,h⟩|⟨c7,h⟩
  ·obtain rfl:=lf h
   have z:=p8<|sg 0 c7<|lG 0 (dQ (.inl ())) (cV (.inl ())) rfl (cb (aI trivial trivial)) trivial
   exact mC (A:=Wk) mixed (by intro hx;cases hx) z<|by kernel_rfl
  ·obtain rfl:=lf h
   have z:=p8<|sg 0 c7<|lG 0 .normal (dO s2 t15 t16 (bA (t17+1))) rfl (cb (aI (up (am ah s2)) (aI (aI trivial trivial) (aI (up (am ah t15)) (aI trivial (aI trivial trivial)))))) trivial
   exact cc (A:=Wk) mixed z<|by kernel_rfl
 ·obtain rfl:=lf h
  have z:=sg 0 c3<|eF (dQ (.inr ())) (cV (.inr ()))
  exact eS Wk (by intro hx;cases hx) z<|by kernel_rfl
theorem n8{x:Unit⊕(Unit)}(h:kN s2 t15 t16 t17=some x):aL Pg GE 0 (.loop (cA Xa 119)) (EX (dQ x) (cV x)) (dO s2 t15 t16 t17):=
 aL.loop (S:=fun(zz:Int)=>dO s2 t15 t16 zz) (ex:=dQ) (s:=t17) h fun zz y hy=>wH s2 t15 t16 zz hy
end
def kE(s1:waB)(s2:waB):Option Bool:=
 if((s1.length:Int)!=(s2.length:Int))=true then
  some false
 else
  (kN s2 s1 (s1.length:Int) 0).bind fun o9=>match o9 with
  |(.inl o9)=>
   some false
  |(.inr o9)=>
   some true
theorem Ba{s1:waB}{s2:waB}{r:Bool}(h:kE s1 s2=some r):CC Pg GE 85 [sl ac s1,sl ac s2,.func (.func 84) [] []] (.bool r) []:=by
 have p2:=fun{sc F} (r:PS sc F)=>b9 (aS.ln s1)<|b9 (aS.ln s2)<|r
 rcases aK h with⟨c1,h⟩|⟨c1,h⟩
 ·obtain rfl:=lf h
  have z:=p2<|sg 0 c1<|en (aI (rP (.bool false))<|trivial)
  exact bo Wk call85 func85 (c:=Xa) rfl (aI (am ah s1) (aI (am ah s2) (aI (aI trivial trivial) trivial))) z<|by kernel_rfl
 ·obtain⟨o9,bo9,h⟩:=aw h
  rcases o9 with o9|o9
  ·obtain rfl:=lf h
   have z:=p2<|sg 0 c1<|b9 (aS.ln s1)<|cm (e:=.ret) (s1:=cV (.inl o9)) (n8 s2 s1 (s1.length:Int) 0 bo9)<|en (aI (rP (.bool false))<|trivial)
   exact bo Wk call85 func85 (c:=Xa) rfl (aI (am ah s1) (aI (am ah s2) (aI (aI trivial trivial) trivial))) z<|by kernel_rfl
  ·obtain rfl:=lf h
   have z:=p2<|sg 0 c1<|b9 (aS.ln s1)<|cm (e:=.exit 0) (s1:=cV (.inr o9)) (n8 s2 s1 (s1.length:Int) 0 bo9)<|en (aI (rP (.bool true))<|trivial)
   exact bo Wk call85 func85 (c:=Xa) rfl (aI (am ah s1) (aI (am ah s2) (aI (aI trivial trivial) trivial))) z<|by kernel_rfl
noncomputable def Xb:Code:=f86.body.getD .skip
def Wl:List Nat:=[19]
section
variable(R158:gv)(s2:waC)(t15:waC)(t16:Int)(t17:Int)
def dl:ax:=aP 32 [(1,sl af s2),(2,.func (.func 41) [] []),(15,sl af t15),(16,.int .i64 t16),(17,.int .i64 t17)] [] []
def dm(o:Unit⊕(Unit)):Exit:=match o with
 |(.inl _)=>.ret
 |(.inr _)=>.exit 0
def cH(o:Unit⊕(Unit)):ax:=match o with
 |(.inl o)=>aP 32 [(6,.bool false)] [] []
 |(.inr o)=>aP 32 [] [] []
def gI:Option (Int⊕(Unit⊕(Unit))):=
 if(decide (t17<t16))=true then
  (dt t15 t17).bind fun x4=>
  (dt s2 t17).bind fun x5=>
  (R158 x4 x5).bind fun r6=>
  if(!r6)=true then
   some (.inr (.inl ()))
  else
   some (.inl (bA (t17+1)))
 else
  some (.inr (.inr ()))
def jn:Option (Unit⊕(Unit)):=loop (fun(zz:Int)=>gI R158 s2 t15 t16 zz) t17
theorem tI(hR158:nb R158){y:Int⊕(Unit⊕(Unit))}(h:gI R158 s2 t15 t16 t17=some y):aL Pg GE 0 (cA Xb 119) (LQ (fun(zz:Int)=>dl s2 t15 t16 zz) dm cH y) (dl s2 t15 t16 t17):=by
 rcases aK h with⟨c3,h⟩|⟨c3,h⟩
 ·obtain⟨x4,bx4,h⟩:=aw h
  obtain⟨x5,bx5,h⟩:=aw h
  obtain⟨r6,br6,h⟩:=aw h
  have p8:=fun{sc F} (r:PS sc F)=>sg 0 c3<|sv (cJ.ia (k:=.i64) bx4)<|sv (aQ x4)<|sx jl<|sx (cu x4)<|sv (cJ.ia (k:=.i64) bx5)<|sv (aQ x5)<|sx jl<|sx (cu x5)<|sv (bu x4 [])<|sv (bu x5 [])<|aX (hR158 _ _ _ br6)<|r
  rcases aK h with⟨c7,h⟩|⟨c7,h⟩
  ·obtain rfl:=lf h
   have z:=p8<|sg 0 c7<|lG 0 (dm (.inl ())) (cH (.inl ())) rfl (cb (aI trivial trivial)) trivial
   exact mC (A:=Wl) mixed (by intro hx;cases hx) z<|by kernel_rfl
  ·obtain rfl:=lf h
   have z:=p8<|sg 0 c7<|lG 0 .normal (dl s2 t15 t16 (bA (t17+1))) rfl (cb (aI (up (am aj s2)) (aI (aI trivial trivial) (aI (up (am aj t15)) (aI trivial (aI trivial trivial)))))) trivial
   exact cc (A:=Wl) mixed z<|by kernel_rfl
 ·obtain rfl:=lf h
  have z:=sg 0 c3<|eF (dm (.inr ())) (cH (.inr ()))
  exact eS Wl (by intro hx;cases hx) z<|by kernel_rfl
theorem lZ(hR158:nb R158){x:Unit⊕(Unit)}(h:jn R158 s2 t15 t16 t17=some x):aL Pg GE 0 (.loop (cA Xb 119)) (EX (dm x) (cH x)) (dl s2 t15 t16 t17):=
 aL.loop (S:=fun(zz:Int)=>dl s2 t15 t16 zz) (ex:=dm) (s:=t17) h fun zz y hy=>tI R158 s2 t15 t16 zz hR158 hy
end
def ij(R158:gv)(s1:waC)(s2:waC):Option Bool:=
 if((s1.length:Int)!=(s2.length:Int))=true then
  some false
 else
  (jn R158 s2 s1 (s1.length:Int) 0).bind fun o9=>match o9 with
  |(.inl o9)=>
   some false
  |(.inr o9)=>
   some true
theorem yW(R158:gv)(hR158:nb R158){s1:waC}{s2:waC}{r:Bool}(h:ij R158 s1 s2=some r):CC Pg GE 86 [sl af s1,sl af s2,.func (.func 41) [] []] (.bool r) []:=by
 have p2:=fun{sc F} (r:PS sc F)=>b9 (cJ.ln s1)<|b9 (cJ.ln s2)<|r
 rcases aK h with⟨c1,h⟩|⟨c1,h⟩
 ·obtain rfl:=lf h
  have z:=p2<|sg 0 c1<|en (aI (rP (.bool false))<|trivial)
  exact bo Wl call86 func86 (c:=Xb) rfl (aI (am aj s1) (aI (am aj s2) (aI (aI trivial trivial) trivial))) z<|by kernel_rfl
 ·obtain⟨o9,bo9,h⟩:=aw h
  rcases o9 with o9|o9
  ·obtain rfl:=lf h
   have z:=p2<|sg 0 c1<|b9 (cJ.ln s1)<|cm (e:=.ret) (s1:=cH (.inl o9)) (lZ R158 s2 s1 (s1.length:Int) 0 hR158 bo9)<|en (aI (rP (.bool false))<|trivial)
   exact bo Wl call86 func86 (c:=Xb) rfl (aI (am aj s1) (aI (am aj s2) (aI (aI trivial trivial) trivial))) z<|by kernel_rfl
  ·obtain rfl:=lf h
   have z:=p2<|sg 0 c1<|b9 (cJ.ln s1)<|cm (e:=.exit 0) (s1:=cH (.inr o9)) (lZ R158 s2 s1 (s1.length:Int) 0 hR158 bo9)<|en (aI (rP (.bool true))<|trivial)
   exact bo Wl call86 func86 (c:=Xb) rfl (aI (am aj s1) (aI (am aj s2) (aI (aI trivial trivial) trivial))) z<|by kernel_rfl
noncomputable def Wo:Code:=f41.body.getD .skip
def Wf:List Nat:=[]
def nV(R158:gv)(a:ae)(a2:ae):Option Bool:=
 if (a.Op == a2.Op) = true then
  if (a.Name == a2.Name) = true then
   (rD a.Names a2.Names).bind fun r5=>
   if r5=true then
    (eT a.Pred a2.Pred).bind fun r8=>
    if r8=true then
     (kE a.Preds a2.Preds).bind fun r11=>
     if r11=true then
      (ij R158 a.Args a2.Args).bind fun r14=>
      some r14
     else
      some false
    else
     some false
   else
    some false
  else
   some false
 else
  some false
theorem Fx(R158:gv)(hR158:nb R158){a:ae}{a2:ae}{r:Bool}(h:nV R158 a a2=some r):CC Pg GE 41 [.agg (af a),.agg (af a2)] (.bool r) []:=by
 have p2:=fun{sc F} (r:PS sc F)=>se (bH a)<|se (bH a2)<|sv (au a)<|sv (av a)<|sv (au a2)<|sv (av a2)<|r
 rcases aK h with⟨c1,h⟩|⟨c1,h⟩
 ·have p4:=fun{sc F} (r:PS sc F)=>p2<|sg 6 c1<|sv (ck a)<|sv (cq a)<|sv (ck a2)<|sv (cq a2)<|r
  rcases aK h with⟨c3,h⟩|⟨c3,h⟩
  ·obtain⟨r5,br5,h⟩:=aw h
   have p7:=fun{sc F} (r:PS sc F)=>p4<|sg 13 c3<|sv (aM a)<|sv (aN a)<|sv (aM a2)<|sv (aN a2)<|aX (Hz br5)<|r
   rcases aK h with⟨c6,h⟩|⟨c6,h⟩
   ·obtain⟨r8,br8,h⟩:=aw h
    have p10:=fun{sc F} (r:PS sc F)=>p7<|sg 20 c6<|sv (bv a)<|sv (bw a)<|sv (bv a2)<|sv (bw a2)<|aX (qP br8)<|r
    rcases aK h with⟨c9,h⟩|⟨c9,h⟩
    ·obtain⟨r11,br11,h⟩:=aw h
     have p13:=fun{sc F} (r:PS sc F)=>p10<|sg 27 c9<|sv (bk a)<|sv (bm a)<|sv (bk a2)<|sv (bm a2)<|aX (Ba br11)<|r
     rcases aK h with⟨c12,h⟩|⟨c12,h⟩
     ·obtain⟨r14,br14,h⟩:=aw h
      obtain rfl:=lf h
      have z:=p13<|sg 34 c12<|sv (aF a)<|sv (aG a)<|sv (aF a2)<|sv (aG a2)<|aX (yW R158 hR158 br14)<|en (aI (rP (.bool r14))<|trivial)
      exact bo Wf call41 func41 (c:=Wo) rfl (aI (aj a) (aI (aj a2) trivial)) z<|by kernel_rfl
     ·obtain rfl:=lf h
      have z:=p13<|sg 34 c12<|en (aI (rP (.bool false))<|trivial)
      exact bo Wf call41 func41 (c:=Wo) rfl (aI (aj a) (aI (aj a2) trivial)) z<|by kernel_rfl
    ·obtain rfl:=lf h
     have z:=p10<|sg 27 c9<|en (aI (rP (.bool false))<|trivial)
     exact bo Wf call41 func41 (c:=Wo) rfl (aI (aj a) (aI (aj a2) trivial)) z<|by kernel_rfl
   ·obtain rfl:=lf h
    have z:=p7<|sg 20 c6<|en (aI (rP (.bool false))<|trivial)
    exact bo Wf call41 func41 (c:=Wo) rfl (aI (aj a) (aI (aj a2) trivial)) z<|by kernel_rfl
  ·obtain rfl:=lf h
   have z:=p4<|sg 13 c3<|en (aI (rP (.bool false))<|trivial)
   exact bo Wf call41 func41 (c:=Wo) rfl (aI (aj a) (aI (aj a2) trivial)) z<|by kernel_rfl
 ·obtain rfl:=lf h
  have z:=p2<|sg 6 c1<|en (aI (rP (.bool false))<|trivial)
  exact bo Wf call41 func41 (c:=Wo) rfl (aI (aj a) (aI (aj a2) trivial)) z<|by kernel_rfl
def tn:((ae×ae)->Option Bool)->(ae×ae)->Option Bool:=fun(rec:(ae×ae)->Option Bool) (x:ae×ae)=>nV (fun a a2=>rec (a,a2)) x.1 x.2
def rz(a:ae)(a2:ae):Option Bool:=ku tn (a,a2)
theorem yD{a:ae}{a2:ae}{r:Bool}(h:rz a a2=some r):CC Pg GE 41 [.agg (af a),.agg (af a2)] (.bool r) []:=
 cn (F:=tn) (M:=fun(x:ae×ae) (r:Bool)=>CC Pg GE 41 [.agg (af x.1),.agg (af x.2)] (.bool r) []) (fun rec hrec x r h=>Fx _ (fun a a2 r h=>hrec (a,a2) r h) h) h
noncomputable def b7:Code:=Tryz.f7.body.getD .skip
def A7:List Nat:=[]
def nq (s:ae) (t:ae):Option Bool :=
 (MH ([s,t]:List ae)).bind fun r1=>
 if(!r1)=true then
  Ar.bind fun r4=>
  some r4
 else
  (lU s).bind fun r5=>
  (rK s).bind fun r6=>
  if (r5 == r6) = true then
   (nN s).bind fun r9=>
   (Iz s).bind fun r10=>
   (rZ r9 r10).bind fun r11=>
   if r11=true then
    (py s).bind fun r14=>
    (Aq s).bind fun r15=>
    (rZ r14 r15).bind fun r16=>
    if r16=true then
     (rz s t).bind fun r19=>
     (sA s t).bind fun r20=>
     if(r19==r20)=true then
      (rz s s).bind fun r23=>
      if r23=true then
       Ar.bind fun r26=>
       some r26
      else
       some false
     else
      some false
    else
     some false
   else
    some false
  else
   some false
theorem zA{s:ae}{t:ae}{r:Bool}(h:nq s t=some r):CC Pg GE 7 [.agg (af s),.agg (af t)] (.bool r) []:=by
 obtain⟨r1,br1,h⟩:=aw h
 have p3:=fun{sc F} (r:PS sc F)=>se (bH s)<|se (bH t)<|sv (aQ s)<|sv (aQ t)<|sv (cJ.mk' (v:=AR) wq ([s,t]:List ae) 2 (by kernel_rfl))<|aX (Pd br1)<|r
 rcases aK h with⟨c2,h⟩|⟨c2,h⟩
 ·obtain⟨r4,br4,h⟩:=aw h
  obtain rfl:=lf h
  have z:=p3<|sg 0 c2<|aX (Da br4)<|en (aI (rP (.bool r4))<|trivial)
  exact bo A7 call7 func7 (c:=b7) rfl (aI (aj s) (aI (aj t) trivial)) z<|by kernel_rfl
 ·obtain⟨r5,br5,h⟩:=aw h
  obtain⟨r6,br6,h⟩:=aw h
  have p8:=fun{sc F} (r:PS sc F)=>p3<|sg 0 c2<|CO [0,1,0,7,15,31,63,127,63,511,1023,2047,4095,8191,16383,8191,65535,131071,262143,524287,1048575,1048575,4194303,1048575,1048575,33554431,67108863,134217727,268435455,536870911,536870911,2147483647,4294967295,8589934591,17179869183,34359738367,68719476735]<|sv (aQ s)<|aX (wB br5)<|sv (aQ s)<|aX (MA br6)<|r
  rcases aK h with⟨c7,h⟩|⟨c7,h⟩
  ·obtain⟨r9,br9,h⟩:=aw h
   obtain⟨r10,br10,h⟩:=aw h
   obtain⟨r11,br11,h⟩:=aw h
   have p13:=fun{sc F} (r:PS sc F)=>p8<|sg 6 c7<|sv (aQ s)<|aX (qw br9)<|sv (aQ s)<|aX (NP br10)<|aX (tN br11)<|r
   rcases aK h with⟨c12,h⟩|⟨c12,h⟩
   ·obtain⟨r14,br14,h⟩:=aw h
    obtain⟨r15,br15,h⟩:=aw h
    obtain⟨r16,br16,h⟩:=aw h
    have p18:=fun{sc F} (r:PS sc F)=>p13<|sg 13 c12<|sv (aQ s)<|aX (Fw br14)<|sv (aQ s)<|aX (MC br15)<|aX (tN br16)<|r
    rcases aK h with⟨c17,h⟩|⟨c17,h⟩
    ·obtain⟨r19,br19,h⟩:=aw h
     obtain⟨r20,br20,h⟩:=aw h
     have p22:=fun{sc F} (r:PS sc F)=>p18<|sg 20 c17<|sv (aQ s)<|sv (aQ t)<|aX (yD br19)<|sv (aQ s)<|sv (aQ t)<|aX (pT br20)<|r
     rcases aK h with⟨c21,h⟩|⟨c21,h⟩
     ·obtain⟨r23,br23,h⟩:=aw h
      have p25:=fun{sc F} (r:PS sc F)=>p22<|sg 29 c21<|sv (aQ s)<|sv (aQ s)<|aX (yD br23)<|r
      rcases aK h with⟨c24,h⟩|⟨c24,h⟩
      ·obtain⟨r26,br26,h⟩:=aw h
       obtain rfl:=lf h
       have z:=p25<|sg 34 c24<|aX (Da br26)<|en (aI (rP (.bool r26))<|trivial)
       exact bo A7 call7 func7 (c:=b7) rfl (aI (aj s) (aI (aj t) trivial)) z<|by kernel_rfl
      ·obtain rfl:=lf h
       have z:=p25<|sg 34 c24<|en (aI (rP (.bool false))<|trivial)
       exact bo A7 call7 func7 (c:=b7) rfl (aI (aj s) (aI (aj t) trivial)) z<|by kernel_rfl
     ·obtain rfl:=lf h
      have z:=p22<|sg 29 c21<|en (aI (rP (.bool false))<|trivial)
      exact bo A7 call7 func7 (c:=b7) rfl (aI (aj s) (aI (aj t) trivial)) z<|by kernel_rfl
    ·obtain rfl:=lf h
     have z:=p18<|sg 20 c17<|en (aI (rP (.bool false))<|trivial)
     exact bo A7 call7 func7 (c:=b7) rfl (aI (aj s) (aI (aj t) trivial)) z<|by kernel_rfl
   ·obtain rfl:=lf h
    have z:=p13<|sg 13 c12<|en (aI (rP (.bool false))<|trivial)
    exact bo A7 call7 func7 (c:=b7) rfl (aI (aj s) (aI (aj t) trivial)) z<|by kernel_rfl
  ·obtain rfl:=lf h
   have z:=p8<|sg 6 c7<|en (aI (rP (.bool false))<|trivial)
   exact bo A7 call7 func7 (c:=b7) rfl (aI (aj s) (aI (aj t) trivial)) z<|by kernel_rfl
open Go
theorem OT{α β X:Type}(g:α->β)(e:List β->X):∀(l:List α) (i:Nat) (s:List β),gH (fun _ x (s:List β)=>(Sum.inl (s++[g x]):List β⊕X)) e l i s=e (s++l.map g)
 |[],i,s=>by simp[gH]
 |x::l,i,s=>by
  unfold gH
  simp only
  rw[OT g e l (i+1) (s++[g x])]
  simp
theorem Tb{α β τ X:Type}(l:List α)(hl:l.length<9223372036854775808)(mk:Int->List β->τ)(body:τ->Option (τ⊕X))(g:α->β)(e:List β->X)
  (hin:∀(i:Nat) (h:i<l.length) s,s.length=i->body (mk i s)=some (.inl (mk (bA ((i:Int)+1)) (s++[g l[i]])))) (hend:∀s,body (mk l.length s)=some (.inr (e s))):loop body (mk 0 [])=some (e (l.map g)):=by
 have:=ir l hl mk body (fun i s=>s.length=i) (fun _ x s=>.inl (s++[g x])) e (fun i h s hs=>⟨hin i h s hs,fun s' hs'=>by cases hs';simp[hs]⟩) (fun s _=>hend s) 0 [] (vaB _) rfl
 rw[OT]at this
 exact this
set_option linter.unusedSimpArgs false
def zJ(l:List ag)(s:ag):Int:=match l.findIdx? (fun x=>x==s)with|some j=>(j:Int)|none=>-1
theorem pI(l:List ag)(s:ag)(hl:l.length<9223372036854775808):im l s=some (zJ l s):=by
 unfold im tL
 have:=AD l hl (fun zz=>du l s l.length zz) (fun x=>x==s) (fun j=>Sum.inl (j:Int)) (Sum.inr ()) (fun i h=>by
  simp only[du]
  rw[vai (by simp;omega),bP _ i h]
  simp only[vaa]
  split<;>simp_all) (by simp only[du];rw[vaj (by simp)])
 rw[this]
 unfold zJ
 cases l.findIdx? (fun x=>x==s)<;>rfl
theorem Dm(l:List ag)(s:ag):decide (zJ l s>=0)=l.any fun k=>k==s:=by
 unfold zJ
 cases h:l.findIdx? (fun x=>x==s)with
 |none=>
  rw[vbv]at h
  symm
  simp only[vbp]
  rw[show decide ((-1:Int)>=0)=false from rfl]
  simp only[vbp,Bool.not_eq_true]
  exact h
 | some j =>
  have h2:l.any (fun x=>x==s)=true:=by
   have:=List.findIdx?_isSome (xs:=l) (p:=fun x=>x==s)
   rw[h]at this
   exact this.symm
  rw[h2]
  simp
theorem Rt(l:List ag)(s:ag):decide (zJ l s<0)= !l.any fun k=>k==s:=by
 rw[<-Dm]
 rw[<-decide_not]
 simp
theorem LK{α:Type}(k:ag)(v:α)(j:ag):∀(m:List (ag×α)),xJ (Co m k v) j=if(j==k)=true then some v else xJ m j
 |[]=>by
  simp only[Co,xJ,List.find?_cons,List.find?_nil]
  cases(j==k)<;>rfl
 | e :: r => by
  have ih:=LK k v j r
  unfold Co
  by_cases h:(k==e.1)=true
  ·have h':k=e.1:=by simpa using h
   rw[vai h]
   unfold xJ
   simp only[List.find?_cons]
   rw[<-h']
   cases hj:(j==k)<;>simp
  ·rw [vaj h]
   unfold xJ at ih ⊢
   simp only[List.find?_cons]
   cases hj:(j==e.1)
   ·simpa using ih
   ·have:¬(j==k)=true:=fun hk=>h (by
      have h1:j=e.1:=by simpa using hj
      have h2:j=k:=by simpa using hk
      simp[<-h1,<-h2])
    simp[this]
end Go.Proofs.YtggeppllafbidaaGreatDoor
