/- PROVED: a part of the proof. Conditions: none. -/
import Derived.Test.YtggeppllafbidaaGreatDoorPkC9
noncomputable section
namespace Go.Proofs.YtggeppllafbidaaGreatDoor
open Go Go.Proofs.Tryz
set_option linter.unusedVariables false
set_option maxRecDepth 100000
abbrev s8:=(waC->Option Bool)
abbrev xk(R:s8):Prop:=∀(a:waC) (r:Bool),R a=some r->CC Pg GE 8 [sl af a] (.bool r) []
abbrev rf:=(ae->Option Int)
abbrev vP(R:rf):Prop:=∀(t:ae) (r:Int),R t=some r->CC Pg GE 42 [.agg (af t)] (.int .i64 r) []
noncomputable def UP:Code:=f42.body.getD .skip
def Ux:List Nat:=[18]
section
variable(R3:rf)(t7:waC)(t8:Int)(k:Int)(t9:Int)
def jf:av:=aM 19 [(3,.int .i64 k),(7,sl af t7),(8,.int .i64 t8),(9,.int .i64 t9)] [.dead] []
def qc(o:Int):av:=aM 19 [(3,.int .i64 o)] [.dead] []
def wr:Option ((Int×Int)⊕(Int)):=
 if(decide (t9<t8))=true then
  (dz t7 t9).bind fun x2=>
  (R3 x2).bind fun r3=>
  some (.inl (bC (k+r3),bC (t9+1)))
 else
  some (.inr k)
def um:Option Int:=loop (fun(zz:Int×Int)=>wr R3 t7 t8 zz.1 zz.2) (k,t9)
theorem Cs(hR3:vP R3){y:(Int×Int)⊕(Int)}(h:wr R3 t7 t8 k t9=some y):aF Pg GE 0 (cA UP 119) (LQ (fun(zz:Int×Int)=>jf t7 t8 zz.1 zz.2) (fun _=>.exit 0) qc y) (jf t7 t8 k t9):=by
 rcases aU h with⟨c1,h⟩|⟨c1,h⟩
 ·obtain⟨x2,bx2,h⟩:=aw h
  obtain⟨r3,br3,h⟩:=aw h
  obtain rfl:=lf h
  have z:=sg 0 c1<|sv (dP.ia (k:=.i64) bx2)<|sv (aW x2)<|sx iq<|sx (cn x2)<|sv (bh x2 [])<|bg (hR3 _ _ br3)<|oz 0 .normal (jf t7 t8 (bC (k+r3)) (bC (t9+1))) rfl (cz (aI trivial (aI (up (am ak t7)) (aI trivial (aI trivial trivial))))) (aI trivial trivial)
  exact cw (A:=Ux) mixed z<|by kernel_rfl
 ·obtain rfl:=lf h
  have z:=sg 0 c1<|eF (.exit 0) (qc k)
  exact fX Ux (by intro hx;cases hx) z<|by kernel_rfl
theorem D9(hR3:vP R3){x:Int}(h:um R3 t7 t8 k t9=some x):aF Pg GE 0 (.loop (cA UP 119)) (EX (.exit 0) (qc x)) (jf t7 t8 k t9):=
 aF.loop (S:=fun(zz:Int×Int)=>jf t7 t8 zz.1 zz.2) (ex:=(fun _=>.exit 0)) (s:=(k,t9)) h fun zz y hy=>Cs R3 t7 t8 zz.1 zz.2 hR3 hy
end
def rh(R3:rf)(t:ae):Option Int:=
 (um R3 t.Args (t.Args.length:Int) 1 0).bind fun o4=>
 some o4
theorem Hw(R3:rf)(hR3:vP R3){t:ae}{r:Int}(h:rh R3 t=some r):CC Pg GE 42 [.agg (af t)] (.int .i64 r) []:=by
 obtain⟨o4,bo4,h⟩:=aw h
 obtain rfl:=lf h
 have z:=se (bE t)<|sv (aH t)<|sv (aJ t)<|cG (dP.ln t.Args)<|cC (D9 R3 t.Args (t.Args.length:Int) 1 0 hR3 bo4)<|en (aI (rP (.int .i64 o4))<|trivial)
 exact bS Ux call42 func42 (c:=UP) rfl (aI (ak t) trivial) z<|by kernel_rfl
def wq:(ae->Option Int)->(ae)->Option Int:=fun(rec:ae->Option Int) (x:ae)=>rh (fun t=>rec t) x
def Cr(t:ae):Option Int:=nS wq t
theorem I7{t:ae}{r:Int}(h:Cr t=some r):CC Pg GE 42 [.agg (af t)] (.int .i64 r) []:=
 cU (F:=wq) (M:=fun(x:ae) (r:Int)=>CC Pg GE 42 [.agg (af x)] (.int .i64 r) []) (fun rec hrec x r h=>Hw _ (fun t r h=>hrec t r h) h) h
abbrev rb:=(aa->Option Int)
abbrev vO(R:rb):Prop:=∀(p:aa) (r:Int),R p=some r->CC Pg GE 17 [.agg (ac p)] (.int .i64 r) []
noncomputable def UL:Code:=f17.body.getD .skip
def Uw:List Nat:=[18]
section
variable(R4:rb)(t7:waB)(t8:Int)(n:Int)(t9:Int)
def i7:av:=aM 19 [(3,.int .i64 n),(7,sl ac t7),(8,.int .i64 t8),(9,.int .i64 t9)] [.dead] []
def pP(o:Int):av:=aM 19 [(3,.int .i64 o)] [.dead] []
def lz:Option ((Int×Int)⊕(Int)):=
 if(decide (t9<t8))=true then
  (dz t7 t9).bind fun x2=>
  (R4 x2).bind fun r3=>
  some (.inl (bC (n+r3),bC (t9+1)))
 else
  some (.inr n)
def ua:Option Int:=loop (fun(zz:Int×Int)=>lz R4 t7 t8 zz.1 zz.2) (n,t9)
theorem Ck(hR4:vO R4){y:(Int×Int)⊕(Int)}(h:lz R4 t7 t8 n t9=some y):aF Pg GE 0 (cA UL 119) (LQ (fun(zz:Int×Int)=>i7 t7 t8 zz.1 zz.2) (fun _=>.exit 0) pP y) (i7 t7 t8 n t9):=by
 rcases aU h with⟨c1,h⟩|⟨c1,h⟩
 ·obtain⟨x2,bx2,h⟩:=aw h
  obtain⟨r3,br3,h⟩:=aw h
  obtain rfl:=lf h
  have z:=sg 0 c1<|sv (aP.ia (k:=.i64) bx2)<|sv (az x2)<|sx dW<|sx (aZ x2)<|sv (aO x2 [])<|bg (hR4 _ _ br3)<|oz 0 .normal (i7 t7 t8 (bC (n+r3)) (bC (t9+1))) rfl (cz (aI trivial (aI (up (am ah t7)) (aI trivial (aI trivial trivial))))) (aI trivial trivial)
  exact cw (A:=Uw) mixed z<|by kernel_rfl
 ·obtain rfl:=lf h
  have z:=sg 0 c1<|eF (.exit 0) (pP n)
  exact fX Uw (by intro hx;cases hx) z<|by kernel_rfl
theorem DW(hR4:vO R4){x:Int}(h:ua R4 t7 t8 n t9=some x):aF Pg GE 0 (.loop (cA UL 119)) (EX (.exit 0) (pP x)) (i7 t7 t8 n t9):=
 aF.loop (S:=fun(zz:Int×Int)=>i7 t7 t8 zz.1 zz.2) (ex:=(fun _=>.exit 0)) (s:=(n,t9)) h fun zz y hy=>Ck R4 t7 t8 zz.1 zz.2 hR4 hy
end
def qV(R4:rb)(p:aa):Option Int:=
 (ua R4 p.Kids (p.Kids.length:Int) 1 0).bind fun o4=>
 some o4
theorem Hp(R4:rb)(hR4:vO R4){p:aa}{r:Int}(h:qV R4 p=some r):CC Pg GE 17 [.agg (ac p)] (.int .i64 r) []:=by
 obtain⟨o4,bo4,h⟩:=aw h
 obtain rfl:=lf h
 have z:=se (bz p)<|sv (aK p)<|sv (aL p)<|cG (aP.ln p.Kids)<|cC (DW R4 p.Kids (p.Kids.length:Int) 1 0 hR4 bo4)<|en (aI (rP (.int .i64 o4))<|trivial)
 exact bS Uw call17 func17 (c:=UL) rfl (aI (ah p) trivial) z<|by kernel_rfl
def vZ:(aa->Option Int)->(aa)->Option Int:=fun(rec:aa->Option Int) (x:aa)=>qV (fun p=>rec p) x
def pD(p:aa):Option Int:=nS vZ p
theorem oY{p:aa}{r:Int}(h:pD p=some r):CC Pg GE 17 [.agg (ac p)] (.int .i64 r) []:=
 cU (F:=vZ) (M:=fun(x:aa) (r:Int)=>CC Pg GE 17 [.agg (ac x)] (.int .i64 r) []) (fun rec hrec x r h=>Hp _ (fun p r h=>hrec p r h) h) h
noncomputable def b8:Code:=Tryz.f8.body.getD .skip
def A8:List Nat:=[]
section
variable(R2:s8)(t7:waC)(t8:Int)(t9:Int)(m:Int)(m2:ag)(m3:waC)(m4:waA)(m5:Int)(m6:ag)(m7:Int)(m8:waB)(m9:waB)
def I9:av:=aM 52 [(4,.bptr 0 0),(7,sl af t7),(8,.int .i64 t8),(9,.int .i64 t9)] [.cells [.int .i64 m,.str m2,sl af m3,sl cS m4,.int .i64 m5,.str m6,.int .i64 m7,sl ac m8,sl ac m9] []] []
def jC(o:Bool):av:=aM 52 [(4,.bptr 0 0),(7,sl af t7),(8,.int .i64 t8),(9,.int .i64 t9),(39,.bool o)] [.cells [.int .i64 m,.str m2,sl af m3,sl cS m4,.int .i64 m5,.str m6,.int .i64 m7,sl ac m8,sl ac m9] []] []
def zn:Option Bool:=
 (Cr (⟨m,m2,m3,m4,(⟨m5,m6,m7,m8⟩:aa),m9⟩:ae)).bind fun r3=>
 if(decide (r3>40))=true then
  some true
 else
  (pD (⟨m5,m6,m7,m8⟩:aa)).bind fun r6=>
  if(decide (r6>60))=true then
   some true
  else
   if(decide ((m4.length:Int)>20))=true then
    some true
   else
    if(decide ((m9.length:Int)>20))=true then
     some true
    else
     (R2 m3).bind fun r13=>
     some (!r13)
theorem Hx(hR2:xk R2){x:Bool}(h:zn R2 m m2 m3 m4 m5 m6 m7 m8 m9=some x):aF Pg GE 0 (cA b8 7148) (EX .normal (jC t7 t8 t9 m m2 m3 m4 m5 m6 m7 m8 m9 x)) (I9 t7 t8 t9 m m2 m3 m4 m5 m6 m7 m8 m9):=by
 obtain⟨r3,br3,h⟩:=aw h
 have p5:=fun{sc F} (r:PS sc F)=>sv (bh (⟨m,m2,m3,m4,(⟨m5,m6,m7,m8⟩:aa),m9⟩:ae) [])<|bg (I7 br3)<|r
 rcases aU h with⟨c4,h⟩|⟨c4,h⟩
 ·obtain rfl:=lf h
  exact cm A8 (p5<|sg 4 c4<|eF .normal (jC t7 t8 t9 m m2 m3 m4 m5 m6 m7 m8 m9 true))<|by kernel_rfl
 ·obtain⟨r6,br6,h⟩:=aw h
  have p8:=fun{sc F} (r:PS sc F)=>p5<|sg 4 c4<|sv (aO (⟨m5,m6,m7,m8⟩:aa) [sl ac m9])<|bg (oY br6)<|r
  rcases aU h with⟨c7,h⟩|⟨c7,h⟩
  ·obtain rfl:=lf h
   exact cm A8 (p8<|sg 10 c7<|eF .normal (jC t7 t8 t9 m m2 m3 m4 m5 m6 m7 m8 m9 true))<|by kernel_rfl
  ·have p10:=fun{sc F} (r:PS sc F)=>p8<|sg 10 c7<|ss<|cG (ba.ln m4)<|r
   rcases aU h with⟨c9,h⟩|⟨c9,h⟩
   ·obtain rfl:=lf h
    exact cm A8 (p10<|sg 16 c9<|eF .normal (jC t7 t8 t9 m m2 m3 m4 m5 m6 m7 m8 m9 true))<|by kernel_rfl
   ·have p12:=fun{sc F} (r:PS sc F)=>p10<|sg 16 c9<|ss<|cG (aP.ln m9)<|r
    rcases aU h with⟨c11,h⟩|⟨c11,h⟩
    ·obtain rfl:=lf h
     exact cm A8 (p12<|sg 22 c11<|eF .normal (jC t7 t8 t9 m m2 m3 m4 m5 m6 m7 m8 m9 true))<|by kernel_rfl
    ·obtain⟨r13,br13,h⟩:=aw h
     obtain rfl:=lf h
     exact cm A8 (p12<|sg 22 c11<|ss<|bg (hR2 _ _ br13)<|eF .normal (jC t7 t8 t9 m m2 m3 m4 m5 m6 m7 m8 m9 (!r13)))<|by kernel_rfl
end
section
variable(t7:waC)(t8:Int)(t9:Int)(t41:waB)(t42:Int)(m:Int)(m2:ag)(m3:waC)(m4:waA)(m5:Int)(m6:ag)(m7:Int)(m8:waB)(t43:Int)
def lI:av:=aM 52 [(7,sl af t7),(8,.int .i64 t8),(9,.int .i64 t9),(41,sl ac t41),(42,.int .i64 t42),(43,.int .i64 t43)] [.cells [.int .i64 m,.str m2,sl af m3,sl cS m4,.int .i64 m5,.str m6,.int .i64 m7,sl ac m8,sl ac t41] []] []
def lJ(o:Unit⊕(Unit)):Exit:=match o with
 |(.inl _)=>.ret
 |(.inr _)=>.exit 2
def jE(o:Unit⊕(Unit)):av:=match o with
 |(.inl o)=>aM 52 [(2,.bool false)] [.cells [.int .i64 m,.str m2,sl af m3,sl cS m4,.int .i64 m5,.str m6,.int .i64 m7,sl ac m8,sl ac t41] []] []
 |(.inr o)=>aM 52 [(7,sl af t7),(8,.int .i64 t8),(9,.int .i64 t9)] [.cells [.int .i64 m,.str m2,sl af m3,sl cS m4,.int .i64 m5,.str m6,.int .i64 m7,sl ac m8,sl ac t41] []] []
def AD:Option (Int⊕(Unit⊕(Unit))):=
 if(decide (t43<t42))=true then
  (dz t41 t43).bind fun x18=>
  (pD x18).bind fun r19=>
  if(decide (r19>60))=true then
   some (.inr (.inl ()))
  else
   some (.inl (bC (t43+1)))
 else
  some (.inr (.inr ()))
def zp:Option (Unit⊕(Unit)):=loop (fun(zz:Int)=>AD t41 t42 zz) t43
theorem Fm{y:Int⊕(Unit⊕(Unit))}(h:AD t41 t42 t43=some y):aF Pg GE 0 (cA b8 28607) (LQ (fun(zz:Int)=>lI t7 t8 t9 t41 t42 m m2 m3 m4 m5 m6 m7 m8 zz) lJ (jE t7 t8 t9 t41 m m2 m3 m4 m5 m6 m7 m8) y) (lI t7 t8 t9 t41 t42 m m2 m3 m4 m5 m6 m7 m8 t43):=by
 rcases aU h with⟨c17,h⟩|⟨c17,h⟩
 ·obtain⟨x18,bx18,h⟩:=aw h
  obtain⟨r19,br19,h⟩:=aw h
  have p21:=fun{sc F} (r:PS sc F)=>sg 0 c17<|sv (aP.ia (k:=.i64) bx18)<|sv (az x18)<|sx dW<|sx (aZ x18)<|sv (aO x18 [])<|bg (oY br19)<|r
  rcases aU h with⟨c20,h⟩|⟨c20,h⟩
  ·obtain rfl:=lf h
   have z:=p21<|sg 0 c20<|oz 0 (lJ (.inl ())) (jE t7 t8 t9 t41 m m2 m3 m4 m5 m6 m7 m8 (.inl ())) rfl (cz (aI trivial trivial)) (aI (aI trivial (aI trivial (aI (up (am ak m3)) (aI (up (am d7 m4)) (aI trivial (aI trivial (aI trivial (aI (up (am ah m8)) (aI (up (am ah t41)) trivial))))))))) trivial)
   exact sI (A:=A8) mixed (by intro hx;cases hx) z<|by kernel_rfl
  ·obtain rfl:=lf h
   have z:=p21<|sg 0 c20<|oz 0 .normal (lI t7 t8 t9 t41 t42 m m2 m3 m4 m5 m6 m7 m8 (bC (t43+1))) rfl (cz (aI (up (am ak t7)) (aI trivial (aI trivial (aI (up (am ah t41)) (aI trivial (aI trivial trivial))))))) (aI (aI trivial (aI trivial (aI (up (am ak m3)) (aI (up (am d7 m4)) (aI trivial (aI trivial (aI trivial (aI (up (am ah m8)) (aI (up (am ah t41)) trivial))))))))) trivial)
   exact cw (A:=A8) mixed z<|by kernel_rfl
 ·obtain rfl:=lf h
  have z:=sg 0 c17<|eF (lJ (.inr ())) (jE t7 t8 t9 t41 m m2 m3 m4 m5 m6 m7 m8 (.inr ()))
  exact fX A8 (by intro hx;cases hx) z<|by kernel_rfl
theorem yo{x:Unit⊕(Unit)}(h:zp t41 t42 t43=some x):aF Pg GE 0 (.loop (cA b8 28607)) (EX (lJ x) (jE t7 t8 t9 t41 m m2 m3 m4 m5 m6 m7 m8 x)) (lI t7 t8 t9 t41 t42 m m2 m3 m4 m5 m6 m7 m8 t43):=
 aF.loop (S:=fun(zz:Int)=>lI t7 t8 t9 t41 t42 m m2 m3 m4 m5 m6 m7 m8 zz) (ex:=lJ) (s:=t43) h fun zz y hy=>Fm t7 t8 t9 t41 t42 m m2 m3 m4 m5 m6 m7 m8 zz hy
end
section
variable(R2:s8)(t7:waC)(t8:Int)(t9:Int)
def lH:av:=aM 52 [(7,sl af t7),(8,.int .i64 t8),(9,.int .i64 t9)] [] []
def jD(o:Unit⊕(Unit)):Exit:=match o with
 |(.inl _)=>.ret
 |(.inr _)=>.exit 0
def gH(o:Unit⊕(Unit)):av:=match o with
 |(.inl o)=>aM 52 [(2,.bool false)] [] []
 |(.inr o)=>aM 52 [] [] []
def AC:Option (Int⊕(Unit⊕(Unit))):=
 if (decide (t9 < t8)) = true then
  (dz t7 t9).bind fun x2=>
  (zn R2 x2.Op x2.Name x2.Args x2.Names x2.Pred.Op x2.Pred.Name x2.Pred.N x2.Pred.Kids x2.Preds).bind fun o14=>
  if o14=true then
   some (.inr (.inl ()))
  else
   (zp x2.Preds (x2.Preds.length:Int) 0).bind fun o22=>match o22 with
   |(.inl o22)=>
    some (.inr (.inl ()))
   |(.inr o22)=>
    some (.inl (bC (t9+1)))
 else
  some (.inr (.inr ()))
def zo:Option (Unit⊕(Unit)):=loop (fun(zz:Int)=>AC R2 t7 t8 zz) t9
theorem Fl(hR2:xk R2){y:Int⊕(Unit⊕(Unit))}(h:AC R2 t7 t8 t9=some y):aF Pg GE 0 (cA b8 55) (LQ (fun(zz:Int)=>lH t7 t8 zz) jD gH y) (lH t7 t8 t9):=by
 rcases aU h with⟨c1,h⟩|⟨c1,h⟩
 ·obtain⟨x2,bx2,h⟩:=aw h
  obtain⟨o14,bo14,h⟩:=aw h
  have p16:=fun{sc F} (r:PS sc F)=>sg 0 c1<|sv (dP.ia (k:=.i64) bx2)<|sv (aW x2)<|sx iq<|sx (cn x2)<|kq 1<|cC (Hx R2 t7 t8 t9 x2.Op x2.Name x2.Args x2.Names x2.Pred.Op x2.Pred.Name x2.Pred.N x2.Pred.Kids x2.Preds hR2 bo14)<|r
  rcases aU h with⟨c15,h⟩|⟨c15,h⟩
  ·obtain rfl:=lf h
   have z:=p16<|sg 0 c15<|oz 0 (jD (.inl ())) (gH (.inl ())) rfl (cz (aI trivial trivial)) trivial
   exact sI (A:=A8) mixed (by intro hx;cases hx) z<|by kernel_rfl
  ·obtain⟨o22,bo22,h⟩:=aw h
   rcases o22 with o22|o22
   ·obtain rfl:=lf h
    have z:=p16<|sg 0 c15<|ss<|cG (aP.ln x2.Preds)<|cC (e:=.ret) (s1:=jE t7 t8 t9 x2.Preds x2.Op x2.Name x2.Args x2.Names x2.Pred.Op x2.Pred.Name x2.Pred.N x2.Pred.Kids (.inl o22)) (yo t7 t8 t9 x2.Preds (x2.Preds.length:Int) x2.Op x2.Name x2.Args x2.Names x2.Pred.Op x2.Pred.Name x2.Pred.N x2.Pred.Kids 0 bo22)<|oz 0 (jD (.inl ())) (gH (.inl ())) rfl (cz (aI trivial trivial)) trivial
    exact sI (A:=A8) mixed (by intro hx;cases hx) z<|by kernel_rfl
   ·obtain rfl:=lf h
    have z:=p16<|sg 0 c15<|ss<|cG (aP.ln x2.Preds)<|cC (e:=.exit 2) (s1:=jE t7 t8 t9 x2.Preds x2.Op x2.Name x2.Args x2.Names x2.Pred.Op x2.Pred.Name x2.Pred.N x2.Pred.Kids (.inr o22)) (yo t7 t8 t9 x2.Preds (x2.Preds.length:Int) x2.Op x2.Name x2.Args x2.Names x2.Pred.Op x2.Pred.Name x2.Pred.N x2.Pred.Kids 0 bo22)<|oz 0 .normal (lH t7 t8 (bC (t9+1))) rfl (cz (aI (up (am ak t7)) (aI trivial (aI trivial trivial)))) trivial
    exact cw (A:=A8) mixed z<|by kernel_rfl
 ·obtain rfl:=lf h
  have z:=sg 0 c1<|eF (jD (.inr ())) (gH (.inr ()))
  exact fX A8 (by intro hx;cases hx) z<|by kernel_rfl
theorem yn(hR2:xk R2){x:Unit⊕(Unit)}(h:zo R2 t7 t8 t9=some x):aF Pg GE 0 (.loop (cA b8 55)) (EX (jD x) (gH x)) (lH t7 t8 t9):=
 aF.loop (S:=fun(zz:Int)=>lH t7 t8 zz) (ex:=jD) (s:=t9) h fun zz y hy=>Fl R2 t7 t8 zz hR2 hy
end
def xr(R2:s8)(a:waC):Option Bool:=
 (zo R2 a (a.length:Int) 0).bind fun o23=>match o23 with
 |(.inl o23)=>
  some false
 |(.inr o23)=>
  some true
theorem Kl(R2:s8)(hR2:xk R2){a:waC}{r:Bool}(h:xr R2 a=some r):CC Pg GE 8 [sl af a] (.bool r) []:=by
 obtain⟨o23,bo23,h⟩:=aw h
 rcases o23 with o23|o23
 ·obtain rfl:=lf h
  have z:=cG (dP.ln a)<|cC (e:=.ret) (s1:=gH (.inl o23)) (yn R2 a (a.length:Int) 0 hR2 bo23)<|en (aI (rP (.bool false))<|trivial)
  exact bS A8 call8 func8 (c:=b8) rfl (aI (am ak a) trivial) z<|by kernel_rfl
 ·obtain rfl:=lf h
  have z:=cG (dP.ln a)<|cC (e:=.exit 0) (s1:=gH (.inr o23)) (yn R2 a (a.length:Int) 0 hR2 bo23)<|en (aI (rP (.bool true))<|trivial)
  exact bS A8 call8 func8 (c:=b8) rfl (aI (am ak a) trivial) z<|by kernel_rfl
def Ct:(waC->Option Bool)->(waC)->Option Bool:=fun(rec:waC->Option Bool) (x:waC)=>xr (fun a=>rec a) x
def I8(a:waC):Option Bool:=nS Ct a
theorem LE{a:waC}{r:Bool}(h:I8 a=some r):CC Pg GE 8 [sl af a] (.bool r) []:=
 cU (F:=Ct) (M:=fun(x:waC) (r:Bool)=>CC Pg GE 8 [sl af x] (.bool r) []) (fun rec hrec x r h=>Kl _ (fun a r h=>hrec a r h) h) h
abbrev pd:=(ae->Option Bool)
abbrev tO(R:pd):Prop:=∀(t:ae) (r:Bool),R t=some r->CC Pg GE 9 [.agg (af t)] (.bool r) []
noncomputable def b9:Code:=Tryz.f9.body.getD .skip
def A9:List Nat:=[23,27,46]
section
variable(t:ae)(i:Int)(t20:Int)(t25:Int)
def gS:av:=aM 55 [(1,.eptr (af t)),(3,.int .i64 i),(20,.int .i64 t20),(21,.int .i64 i),(24,.int .i64 i),(25,.int .i64 t25)] [.dead] []
def gT(o:Unit⊕(Unit)):Exit:=match o with
 |(.inl _)=>.ret
 |(.inr _)=>.exit 2
def fk(o:Unit⊕(Unit)):av:=match o with
 |(.inl o)=>aM 55 [(2,.bool false)] [.dead] []
 |(.inr o)=>aM 55 [(1,.eptr (af t)),(20,.int .i64 t20),(21,.int .i64 i)] [.dead] []
def ky:Option (Int⊕(Unit⊕(Unit))):=
 if(decide (t25<i))=true then
  (dz t.Names i).bind fun x7=>
  (dz t.Names t25).bind fun x8=>
  if(x7==x8)=true then
   some (.inr (.inl ()))
  else
   some (.inl (bC (t25+1)))
 else
  some (.inr (.inr ()))
def sC:Option (Unit⊕(Unit)):=loop (fun(zz:Int)=>ky t i zz) t25
theorem AF{y:Int⊕(Unit⊕(Unit))}(h:ky t i t25=some y):aF Pg GE 0 (cA b9 110559) (LQ (fun(zz:Int)=>gS t i t20 zz) gT (fk t i t20) y) (gS t i t20 t25):=by
 rcases aU h with⟨c6,h⟩|⟨c6,h⟩
 ·obtain⟨x7,bx7,h⟩:=aw h
  obtain⟨x8,bx8,h⟩:=aw h
  have p10:=fun{sc F} (r:PS sc F)=>sg 0 c6<|sU [0,1,0,7,15,0,32,0,224,480,1023]<|sv (aB t)<|sv (aD t)<|sv (ba.ia (k:=.i64) bx7)<|sv (cY yR (.str x7) [])<|sv (aB t)<|sv (aD t)<|sv (ba.ia (k:=.i64) bx8)<|sv (cY yR (.str x8) [])<|r
  rcases aU h with⟨c9,h⟩|⟨c9,h⟩
  ·obtain rfl:=lf h
   have z:=p10<|sg 0 c9<|eF (gT (.inl ())) (fk t i t20 (.inl ()))
   exact fX A9 (by intro hx;cases hx) z<|by kernel_rfl
  ·obtain rfl:=lf h
   exact sT A9 (p10<|sg 0 c9<|eF .normal (gS t i t20 (bC (t25+1))))<|by kernel_rfl
 ·obtain rfl:=lf h
  have z:=sg 0 c6<|eF (gT (.inr ())) (fk t i t20 (.inr ()))
  exact fX A9 (by intro hx;cases hx) z<|by kernel_rfl
theorem tb{x:Unit⊕(Unit)}(h:sC t i t25=some x):aF Pg GE 0 (.loop (cA b9 110559)) (EX (gT x) (fk t i t20 x)) (gS t i t20 t25):=
 aF.loop (S:=fun(zz:Int)=>gS t i t20 zz) (ex:=gT) (s:=t25) h fun zz y hy=>AF t i t20 zz hy
end
section
variable(t:ae)(t20:Int)(t21:Int)
def gQ:av:=aM 55 [(1,.eptr (af t)),(20,.int .i64 t20),(21,.int .i64 t21)] [.dead] []
def gR(o:Unit⊕(Unit)):Exit:=match o with
 |(.inl _)=>.ret
 |(.inr _)=>.exit 0
def fj(o:Unit⊕(Unit)):av:=match o with
 |(.inl o)=>aM 55 [(2,.bool false)] [.dead] []
 |(.inr o)=>aM 55 [(1,.eptr (af t))] [.dead] []
def kw:Option (Int⊕(Unit⊕(Unit))):=
 if(decide (t21<t20))=true then
  (sC t t21 0).bind fun o11=>match o11 with
  |(.inl o11)=>
   some (.inr (.inl ()))
  |(.inr o11)=>
   some (.inl (bC (t21+1)))
 else
  some (.inr (.inr ()))
def sB:Option (Unit⊕(Unit)):=loop (fun(zz:Int)=>kw t t20 zz) t21
theorem AE{y:Int⊕(Unit⊕(Unit))}(h:kw t t20 t21=some y):aF Pg GE 0 (cA b9 431) (LQ (fun(zz:Int)=>gQ t t20 zz) gR (fj t) y) (gQ t t20 t21):=by
 rcases aU h with⟨c5,h⟩|⟨c5,h⟩
 ·obtain⟨o11,bo11,h⟩:=aw h
  rcases o11 with o11|o11
  ·obtain rfl:=lf h
   have z:=sg 0 c5<|cC (e:=.ret) (s1:=fk t t21 t20 (.inl o11)) (tb t t21 t20 0 bo11)<|eF (gR (.inl ())) (fj t (.inl ()))
   exact fX A9 (by intro hx;cases hx) z<|by kernel_rfl
  ·obtain rfl:=lf h
   exact sT A9 (sg 0 c5<|cC (e:=.exit 2) (s1:=fk t t21 t20 (.inr o11)) (tb t t21 t20 0 bo11)<|eF .normal (gQ t t20 (bC (t21+1))))<|by kernel_rfl
 ·obtain rfl:=lf h
  have z:=sg 0 c5<|eF (gR (.inr ())) (fj t (.inr ()))
  exact fX A9 (by intro hx;cases hx) z<|by kernel_rfl
theorem ta{x:Unit⊕(Unit)}(h:sB t t20 t21=some x):aF Pg GE 0 (.loop (cA b9 431)) (EX (gR x) (fj t x)) (gQ t t20 t21):=
 aF.loop (S:=fun(zz:Int)=>gQ t t20 zz) (ex:=gR) (s:=t21) h fun zz y hy=>AE t t20 zz hy
end
section
variable(t:ae)
def Ea:av:=aM 55 [(1,.eptr (af t))] [.dead] []
def gP(o:Unit⊕(Unit)):Exit:=match o with
 |(.inl _)=>.ret
 |(.inr _)=>.normal
def dJ(o:Unit⊕(Unit)):av:=match o with
 |(.inl o)=>aM 55 [(2,.bool false)] [.dead] []
 |(.inr o)=>aM 55 [(1,.eptr (af t))] [.dead] []
def sA:Option (Unit⊕(Unit)):=
 if (t.Op == 6) = true then
  if(decide ((t.Names.length:Int)>(if 0>(bC ((t.Args.length:Int) - 1))then 0 else bC ((t.Args.length:Int) - 1))))=true then
   some (.inl ())
  else
   (sB t (t.Names.length:Int) 0).bind fun o12=>match o12 with
   |(.inl o12)=>
    some (.inl ())
   |(.inr o12)=>
    some (.inr ())
 else
  some (.inr ())
theorem mP{x:Unit⊕(Unit)}(h:sA t=some x):aF Pg GE 0 (cA b9 6) (EX (gP x) (dJ t x)) (Ea t):=by
 have p2:=fun{sc F} (r:PS sc F)=>sv (aA t)<|sv (aC t)<|r
 rcases aU h with⟨c1,h⟩|⟨c1,h⟩
 ·have p4:=fun{sc F} (r:PS sc F)=>p2<|sg 0 c1<|sv (aB t)<|sv (aD t)<|cG (ba.ln t.Names)<|sv (aH t)<|sv (aJ t)<|cG (dP.ln t.Args)<|r
  rcases aU h with⟨c3,h⟩|⟨c3,h⟩
  ·obtain rfl:=lf h
   exact cm A9 (p4<|sg 0 c3<|eF (gP (.inl ())) (dJ t (.inl ())))<|by kernel_rfl
  ·obtain⟨o12,bo12,h⟩:=aw h
   rcases o12 with o12|o12
   ·obtain rfl:=lf h
    exact cm A9 (p4<|sg 0 c3<|sv (aB t)<|sv (aD t)<|cG (ba.ln t.Names)<|cC (e:=.ret) (s1:=fj t (.inl o12)) (ta t (t.Names.length:Int) 0 bo12)<|eF (gP (.inl ())) (dJ t (.inl ())))<|by kernel_rfl
   ·obtain rfl:=lf h
    exact cm A9 (p4<|sg 0 c3<|sv (aB t)<|sv (aD t)<|cG (ba.ln t.Names)<|cC (e:=.exit 0) (s1:=fj t (.inr o12)) (ta t (t.Names.length:Int) 0 bo12)<|eF (gP (.inr ())) (dJ t (.inr ())))<|by kernel_rfl
 ·obtain rfl:=lf h
  exact cm A9 (p2<|sg 0 c1<|eF (gP (.inr ())) (dJ t (.inr ())))<|by kernel_rfl
end
section
variable(R5:pd)(t:ae)(t43:Int)(t44:Int)
def gU:av:=aM 55 [(1,.eptr (af t)),(43,.int .i64 t43),(44,.int .i64 t44)] [.dead] []
def gV(o:Unit⊕(Unit)):Exit:=match o with
 |(.inl _)=>.ret
 |(.inr _)=>.exit 4
def fl(o:Unit⊕(Unit)):av:=match o with
 |(.inl o)=>aM 55 [(2,.bool false)] [.dead] []
 |(.inr o)=>aM 55 [] [.dead] []
def kz:Option (Int⊕(Unit⊕(Unit))):=
 if(decide (t44<t43))=true then
  (dz t.Args t44).bind fun x15=>
  (R5 x15).bind fun r16=>
  if(!r16)=true then
   some (.inr (.inl ()))
  else
   some (.inl (bC (t44+1)))
 else
  some (.inr (.inr ()))
def sD:Option (Unit⊕(Unit)):=loop (fun(zz:Int)=>kz R5 t t43 zz) t44
theorem AG(hR5:tO R5){y:Int⊕(Unit⊕(Unit))}(h:kz R5 t t43 t44=some y):aF Pg GE 0 (cA b9 119) (LQ (fun(zz:Int)=>gU t t43 zz) gV fl y) (gU t t43 t44):=by
 rcases aU h with⟨c14,h⟩|⟨c14,h⟩
 ·obtain⟨x15,bx15,h⟩:=aw h
  obtain⟨r16,br16,h⟩:=aw h
  have p18:=fun{sc F} (r:PS sc F)=>sg 0 c14<|sv (aH t)<|sv (aJ t)<|sv (dP.ia (k:=.i64) bx15)<|sv (aW x15)<|bg (hR5 _ _ br16)<|r
  rcases aU h with⟨c17,h⟩|⟨c17,h⟩
  ·obtain rfl:=lf h
   have z:=p18<|sg 0 c17<|eF (gV (.inl ())) (fl (.inl ()))
   exact fX A9 (by intro hx;cases hx) z<|by kernel_rfl
  ·obtain rfl:=lf h
   exact sT A9 (p18<|sg 0 c17<|eF .normal (gU t t43 (bC (t44+1))))<|by kernel_rfl
 ·obtain rfl:=lf h
  have z:=sg 0 c14<|eF (gV (.inr ())) (fl (.inr ()))
  exact fX A9 (by intro hx;cases hx) z<|by kernel_rfl
theorem tc(hR5:tO R5){x:Unit⊕(Unit)}(h:sD R5 t t43 t44=some x):aF Pg GE 0 (.loop (cA b9 119)) (EX (gV x) (fl x)) (gU t t43 t44):=
 aF.loop (S:=fun(zz:Int)=>gU t t43 zz) (ex:=gV) (s:=t44) h fun zz y hy=>AG R5 t t43 zz hR5 hy
end
def pj(R5:pd)(t:ae):Option Bool:=
 (sA t).bind fun o13=>match o13 with
 |(.inl o13)=>
  some false
 | (.inr o13) =>
  (sD R5 t (t.Args.length:Int) 0).bind fun o19=>match o19 with
  |(.inl o19)=>
   some false
  |(.inr o19)=>
   some true
theorem Fp(R5:pd)(hR5:tO R5){t:ae}{r:Bool}(h:pj R5 t=some r):CC Pg GE 9 [.agg (af t)] (.bool r) []:=by
 obtain⟨o13,bo13,h⟩:=aw h
 rcases o13 with o13|o13
 ·obtain rfl:=lf h
  have z:=se (bE t)<|kq 0<|cC (e:=.ret) (s1:=dJ t (.inl o13)) (mP t bo13)<|en (aI (rP (.bool false))<|trivial)
  exact bS A9 call9 func9 (c:=b9) rfl (aI (ak t) trivial) z<|by kernel_rfl
 ·obtain⟨o19,bo19,h⟩:=aw h
  rcases o19 with o19|o19
  ·obtain rfl:=lf h
   have z:=se (bE t)<|kq 0<|cC (e:=.normal) (s1:=dJ t (.inr o13)) (mP t bo13)<|sv (aH t)<|sv (aJ t)<|cG (dP.ln t.Args)<|cC (e:=.ret) (s1:=fl (.inl o19)) (tc R5 t (t.Args.length:Int) 0 hR5 bo19)<|en (aI (rP (.bool false))<|trivial)
   exact bS A9 call9 func9 (c:=b9) rfl (aI (ak t) trivial) z<|by kernel_rfl
  ·obtain rfl:=lf h
   have z:=se (bE t)<|kq 0<|cC (e:=.normal) (s1:=dJ t (.inr o13)) (mP t bo13)<|sv (aH t)<|sv (aJ t)<|cG (dP.ln t.Args)<|cC (e:=.exit 4) (s1:=fl (.inr o19)) (tc R5 t (t.Args.length:Int) 0 hR5 bo19)<|en (aI (rP (.bool true))<|trivial)
   exact bS A9 call9 func9 (c:=b9) rfl (aI (ak t) trivial) z<|by kernel_rfl
def pk:(ae->Option Bool)->(ae)->Option Bool:=fun(rec:ae->Option Bool) (x:ae)=>pj (fun t=>rec t) x
def uo(t:ae):Option Bool:=nS pk t
theorem Hy{t:ae}{r:Bool}(h:uo t=some r):CC Pg GE 9 [.agg (af t)] (.bool r) []:=
 cU (F:=pk) (M:=fun(x:ae) (r:Bool)=>CC Pg GE 9 [.agg (af x)] (.bool r) []) (fun rec hrec x r h=>Fp _ (fun t r h=>hrec t r h) h) h
noncomputable def Uc:Code:=f10.body.getD .skip
def S4:List Nat:=[]
section
variable(v:waB)(t6:Int)(t7:Int)
def jh:av:=aM 18 [(0,sl ac v),(5,sl ac v),(6,.int .i64 t6),(7,.int .i64 t7)] [] []
def ji(o:Unit⊕(Unit)):Exit:=match o with
 |(.inl _)=>.ret
 |(.inr _)=>.exit 0
def gd(o:Unit⊕(Unit)):av:=match o with
 |(.inl o)=>aM 18 [(2,.bool false)] [] []
 |(.inr o)=>aM 18 [(0,sl ac v)] [] []
def ws:Option (Int⊕(Unit⊕(Unit))):=
 if(decide (t7<t6))=true then
  (dz v t7).bind fun x2=>
  (pD x2).bind fun r3=>
  if(decide (r3>30))=true then
   some (.inr (.inl ()))
  else
   some (.inl (bC (t7+1)))
 else
  some (.inr (.inr ()))
def uq:Option (Unit⊕(Unit)):=loop (fun(zz:Int)=>ws v t6 zz) t7
theorem Cu{y:Int⊕(Unit⊕(Unit))}(h:ws v t6 t7=some y):aF Pg GE 0 (cA Uc 55) (LQ (fun(zz:Int)=>jh v t6 zz) ji (gd v) y) (jh v t6 t7):=by
 rcases aU h with⟨c1,h⟩|⟨c1,h⟩
 ·obtain⟨x2,bx2,h⟩:=aw h
  obtain⟨r3,br3,h⟩:=aw h
  have p5:=fun{sc F} (r:PS sc F)=>sg 0 c1<|sv (aP.ia (k:=.i64) bx2)<|sv (az x2)<|sx dW<|sx (aZ x2)<|sv (aO x2 [])<|bg (oY br3)<|r
  rcases aU h with⟨c4,h⟩|⟨c4,h⟩
  ·obtain rfl:=lf h
   have z:=p5<|sg 0 c4<|oz 0 (ji (.inl ())) (gd v (.inl ())) rfl (cz (aI trivial trivial)) trivial
   exact sI (A:=S4) mixed (by intro hx;cases hx) z<|by kernel_rfl
  ·obtain rfl:=lf h
   have z:=p5<|sg 0 c4<|oz 0 .normal (jh v t6 (bC (t7+1))) rfl (cz (aI (up (am ah v)) (aI (up (am ah v)) (aI trivial (aI trivial trivial))))) trivial
   exact cw (A:=S4) mixed z<|by kernel_rfl
 ·obtain rfl:=lf h
  have z:=sg 0 c1<|eF (ji (.inr ())) (gd v (.inr ()))
  exact fX S4 (by intro hx;cases hx) z<|by kernel_rfl
theorem uX{x:Unit⊕(Unit)}(h:uq v t6 t7=some x):aF Pg GE 0 (.loop (cA Uc 55)) (EX (ji x) (gd v x)) (jh v t6 t7):=
 aF.loop (S:=fun(zz:Int)=>jh v t6 zz) (ex:=ji) (s:=t7) h fun zz y hy=>Cu v t6 zz hy
end
def xt(a:waB):Option Bool:=
 (uq a (a.length:Int) 0).bind fun o6=>match o6 with
 |(.inl o6)=>
  some false
 |(.inr o6)=>
  some (decide ((a.length:Int)<=8))
theorem Ja{a:waB}{r:Bool}(h:xt a=some r):CC Pg GE 10 [sl ac a] (.bool r) []:=by
 obtain⟨o6,bo6,h⟩:=aw h
 rcases o6 with o6|o6
 ·obtain rfl:=lf h
  have z:=cG (aP.ln a)<|cC (e:=.ret) (s1:=gd a (.inl o6)) (uX a (a.length:Int) 0 bo6)<|en (aI (rP (.bool false))<|trivial)
  exact bS S4 call10 func10 (c:=Uc) rfl (aI (am ah a) trivial) z<|by kernel_rfl
 ·obtain rfl:=lf h
  have z:=cG (aP.ln a)<|cC (e:=.exit 0) (s1:=gd a (.inr o6)) (uX a (a.length:Int) 0 bo6)<|cG (aP.ln a)<|en (aI (rP (.bool (decide ((a.length:Int)<=8))))<|trivial)
  exact bS S4 call10 func10 (c:=Uc) rfl (aI (am ah a) trivial) z<|by kernel_rfl
noncomputable def Wy:Code:=f44.body.getD .skip
def Wi:List Nat:=[]
def nJ(s:ag):Option aa:=
 some (⟨3,s,0,([]:List aa)⟩:aa)
theorem eC{s:ag}{r:aa}(h:nJ s=some r):CC Pg GE 44 [.str s] (.agg (ac r)) [(3,28)]:=by
 obtain rfl:=lf h
 have z:=sx dW<|sb (gJ 3 s) (gI 3 s)<|sy (aE (⟨3,s,0,([]:List aa)⟩:aa))<|en (aI (co (⟨3,s,0,([]:List aa)⟩:aa))<|aI (ah (⟨3,s,0,([]:List aa)⟩:aa))<|rT)
 exact bS Wi call44 func44 (c:=Wy) rfl (aI trivial trivial) z<|by kernel_rfl
noncomputable def Wz:Code:=f45.body.getD .skip
def Wj:List Nat:=[]
def Fo(k:Int):Option aa:=
 some (⟨1,([]:ag),k,([]:List aa)⟩:aa)
theorem s9{k:Int}{r:aa}(h:Fo k=some r):CC Pg GE 45 [.int .i64 k] (.agg (ac r)) [(3,28)]:=by
 obtain rfl:=lf h
 have z:=sx dW<|sb (pq 1 k) (pn 1 k)<|sy (aE (⟨1,([]:ag),k,([]:List aa)⟩:aa))<|en (aI (co (⟨1,([]:ag),k,([]:List aa)⟩:aa))<|aI (ah (⟨1,([]:ag),k,([]:List aa)⟩:aa))<|rT)
 exact bS Wj call45 func45 (c:=Wz) rfl (aI trivial trivial) z<|by kernel_rfl
noncomputable def Wx:Code:=f43.body.getD .skip
def Wh:List Nat:=[]
def mO(a:Int)(a2:waB):Option aa:=
 some (⟨a,([]:ag),0,a2⟩:aa)
theorem fi{a:Int}{a2:waB}{r:aa}(h:mO a a2=some r):CC Pg GE 43 [.int .i64 a,sl ac a2] (.agg (ac r)) []:=by
 obtain rfl:=lf h
 have z:=sx dW<|sv (jF a a2)<|sx (aZ (⟨a,([]:ag),0,a2⟩:aa))<|en (aI (co (⟨a,([]:ag),0,a2⟩:aa))<|(ah (⟨a,([]:ag),0,a2⟩:aa)))
 exact bS Wh call43 func43 (c:=Wx) rfl (aI trivial (aI (am ah a2) trivial)) z<|by kernel_rfl
noncomputable def WA:Code:=f46.body.getD .skip
def Wk:List Nat:=[]
def gB(p:aa):Option ae:=
 some (⟨1,([]:ag),([]:List ae),([]:List ag),p,([]:List aa)⟩:ae)
theorem eV{p:aa}{r:ae}(h:gB p=some r):CC Pg GE 46 [.agg (ac p)] (.agg (af r)) [(2,30),(3,9),(8,28)]:=by
 obtain rfl:=lf h
 have z:=se (bz p)<|sx iq<|sv (az p)<|sb (Jf 1 p) (Je 1 p)<|sy (aT (⟨1,([]:ag),([]:List ae),([]:List ag),p,([]:List aa)⟩:ae))<|en (aI (cr (⟨1,([]:ag),([]:List ae),([]:List ag),p,([]:List aa)⟩:ae))<|aI (ak (⟨1,([]:ag),([]:List ae),([]:List ag),p,([]:List aa)⟩:ae))<|rT)
 exact bS Wk call46 func46 (c:=WA) rfl (aI (ah p) trivial) z<|by kernel_rfl
noncomputable def WB:Code:=f47.body.getD .skip
def Wl:List Nat:=[]
def EJ(name:ag)(result:ae):Option ae:=
 (gB (⟨0,([]:ag),0,([]:List aa)⟩:aa)).bind fun r1=>
 some (⟨6,([]:ag),([r1,result]:List ae),([name]:List ag),(⟨0,([]:ag),0,([]:List aa)⟩:aa),([]:List aa)⟩:ae)
theorem zq{name:ag}{result:ae}{r:ae}(h:EJ name result=some r):CC Pg GE 47 [.str name,.agg (af result)] (.agg (af r)) [(7,28),(8,28)]:=by
 obtain⟨r1,br1,h⟩:=aw h
 obtain rfl:=lf h
 have z:=se (bE result)<|sx iq<|sU [0,1,0,4,0,28,63,127]<|sv (ba.mk' (v:=PVal.str) CW ([name]:List ag) 1 (by kernel_rfl))<|sb (qh) (qf)<|bg (eV br1)<|sv (aW result)<|sv (dP.mk' (v:=uV) pI ([r1,result]:List ae) 2 (by kernel_rfl))<|sb (FA 6 ([name]:List ag) ([r1,result]:List ae)) (Fv 6 ([name]:List ag) ([r1,result]:List ae))<|P8 (cn (⟨6,([]:ag),([r1,result]:List ae),([name]:List ag),(⟨0,([]:ag),0,([]:List aa)⟩:aa),([]:List aa)⟩:ae))<|en (aI (cr (⟨6,([]:ag),([r1,result]:List ae),([name]:List ag),(⟨0,([]:ag),0,([]:List aa)⟩:aa),([]:List aa)⟩:ae))<|aI (ak (⟨6,([]:ag),([r1,result]:List ae),([name]:List ag),(⟨0,([]:ag),0,([]:List aa)⟩:aa),([]:List aa)⟩:ae))<|rT)
 exact bS Wl call47 func47 (c:=WB) rfl (aI trivial (aI (ak result) trivial)) z<|by kernel_rfl
noncomputable def QE:Code:=f106.body.getD .skip
def OD:List Nat:=[10,17]
section
variable(s:waA)(v:ag)(t7:Int)(t8:Int)
def fK:av:=aM 19 [(0,sl cS s),(1,.str v),(7,.int .i64 t7),(8,.int .i64 t8)] [] []
def fL(o:Int⊕(Unit)):Exit:=match o with
 |(.inl _)=>.ret
 |(.inr _)=>.exit 0
def ew(o:Int⊕(Unit)):av:=match o with
 |(.inl o)=>aM 19 [(4,.int .i64 o)] [] []
 |(.inr o)=>aM 19 [] [] []
def dG:Option (Int⊕(Int⊕(Unit))):=
 if(decide (t8<t7))=true then
  (dz s t8).bind fun x2=>
  if(v==x2)=true then
   some (.inr (.inl t8))
  else
   some (.inl (bC (t8+1)))
 else
  some (.inr (.inr ()))
def oL:Option (Int⊕(Unit)):=loop (fun(zz:Int)=>dG s v t7 zz) t8
theorem yh{y:Int⊕(Int⊕(Unit))}(h:dG s v t7 t8=some y):aF Pg GE 0 (cA QE 55) (LQ (fun(zz:Int)=>fK s v t7 zz) fL ew y) (fK s v t7 t8):=by
 rcases aU h with⟨c1,h⟩|⟨c1,h⟩
 ·obtain⟨x2,bx2,h⟩:=aw h
  have p4:=fun{sc F} (r:PS sc F)=>sg 0 c1<|sv (ba.ia (k:=.i64) bx2)<|sv (cY yR (.str x2) [])<|r
  rcases aU h with⟨c3,h⟩|⟨c3,h⟩
  ·obtain rfl:=lf h
   have z:=p4<|sg 0 c3<|eF (fL (.inl t8)) (ew (.inl t8))
   exact fX OD (by intro hx;cases hx) z<|by kernel_rfl
  ·obtain rfl:=lf h
   exact sT OD (p4<|sg 0 c3<|eF .normal (fK s v t7 (bC (t8+1))))<|by kernel_rfl
 ·obtain rfl:=lf h
  have z:=sg 0 c1<|eF (fL (.inr ())) (ew (.inr ()))
  exact fX OD (by intro hx;cases hx) z<|by kernel_rfl
theorem qJ{x:Int⊕(Unit)}(h:oL s v t7 t8=some x):aF Pg GE 0 (.loop (cA QE 55)) (EX (fL x) (ew x)) (fK s v t7 t8):=
 aF.loop (S:=fun(zz:Int)=>fK s v t7 zz) (ex:=fL) (s:=t8) h fun zz y hy=>yh s v t7 zz hy
end
def mn(s:waA)(v:ag):Option Int:=
 (oL s v (s.length:Int) 0).bind fun o5=>match o5 with
 |(.inl o5)=>
  some o5
 |(.inr o5)=>
  some (-1)
theorem vq{s:waA}{v:ag}{r:Int}(h:mn s v=some r):CC Pg GE 106 [sl cS s,.str v] (.int .i64 r) []:=by
 obtain⟨o5,bo5,h⟩:=aw h
 rcases o5 with o5|o5
 ·obtain rfl:=lf h
  have z:=cG (ba.ln s)<|cC (e:=.ret) (s1:=ew (.inl o5)) (qJ s v (s.length:Int) 0 bo5)<|en (aI (rP (.int .i64 o5))<|trivial)
  exact bS OD call106 func106 (c:=QE) rfl (aI (am d7 s) (aI trivial trivial)) z<|by kernel_rfl
 ·obtain rfl:=lf h
  have z:=cG (ba.ln s)<|cC (e:=.exit 0) (s1:=ew (.inr o5)) (qJ s v (s.length:Int) 0 bo5)<|en (aI (rP (.int .i64 (-1)))<|trivial)
  exact bS OD call106 func106 (c:=QE) rfl (aI (am d7 s) (aI trivial trivial)) z<|by kernel_rfl
noncomputable def WJ:Code:=f66.body.getD .skip
def Wt:List Nat:=[]
def dK(s:waA)(v:ag):Option Bool:=
 (mn s v).bind fun r1=>
 some (decide (r1>=0))
theorem ff{s:waA}{v:ag}{r:Bool}(h:dK s v=some r):CC Pg GE 66 [sl cS s,.str v] (.bool r) []:=by
 obtain⟨r1,br1,h⟩:=aw h
 obtain rfl:=lf h
 have z:=bg (vq br1)<|en (aI (rP (.bool (decide (r1>=0))))<|trivial)
 exact bS Wt call66 func66 (c:=WJ) rfl (aI (am d7 s) (aI trivial trivial)) z<|by kernel_rfl
noncomputable def Uh:Code:=f49.body.getD .skip
def SQ:List Nat:=[13,28,34]
section
variable(hidden:waA)(s:ai)(i:Int)(n:ag)(t9:waA)(t10:Int)(m:waB)(m2:waA)(m3:waB)
def lp:av:=aM 45 [(1,sl cS hidden),(2,.eptr (aq s)),(4,.bptr 1 0),(5,.bptr 2 0),(6,.int .i64 i),(7,.str n),(9,sl cS t9),(10,.int .i64 t10),(11,.int .i64 i)] [.dead,.cells [sl cS ([]:List ag),sl ac m] [(0,9),(1,28)],.cells [sl cS m2,sl ac m3] [(0,9),(1,28)]] []
def dv(o:Bool):av:=aM 45 [(1,sl cS hidden),(2,.eptr (aq s)),(4,.bptr 1 0),(5,.bptr 2 0),(6,.int .i64 i),(7,.str n),(9,sl cS t9),(10,.int .i64 t10),(11,.int .i64 i),(26,.bool o)] [.dead,.cells [sl cS ([]:List ag),sl ac m] [(0,9),(1,28)],.cells [sl cS m2,sl ac m3] [(0,9),(1,28)]] []
def dM:Option Bool:=
 (dK hidden n).bind fun r3=>
 if(!r3)=true then
  (dK m2 n).bind fun r5=>
  some (!r5)
 else
  some false
theorem kU{x:Bool}(h:dM hidden n m2=some x):aF Pg GE 0 (cA Uh 7670) (EX .normal (dv hidden s i n t9 t10 m m2 m3 x)) (lp hidden s i n t9 t10 m m2 m3):=by
 obtain⟨r3,br3,h⟩:=aw h
 rcases aU h with⟨c4,h⟩|⟨c4,h⟩
 ·obtain⟨r5,br5,h⟩:=aw h
  obtain rfl:=lf h
  exact cm SQ (bg (ff br3)<|sg 5 c4<|ss<|bg (ff br5)<|eF .normal (dv hidden s i n t9 t10 m m2 m3 (!r5)))<|by kernel_rfl
 ·obtain rfl:=lf h
  exact cm SQ (bg (ff br3)<|sg 5 c4<|eF .normal (dv hidden s i n t9 t10 m m2 m3 false))<|by kernel_rfl
end
section
variable(hidden:waA)(s:ai)(t9:waA)(t10:Int)(m:waB)(t11:Int)(m2:waA)(m3:waB)
def bI:av:=aM 45 [(1,sl cS hidden),(2,.eptr (aq s)),(4,.bptr 1 0),(5,.bptr 2 0),(9,sl cS t9),(10,.int .i64 t10),(11,.int .i64 t11)] [.dead,.cells [sl cS ([]:List ag),sl ac m] [(0,9),(1,28)],.cells [sl cS m2,sl ac m3] [(0,9),(1,28)]] []
def dw(o:waA×waB):av:=aM 45 [(4,.bptr 1 0),(5,.bptr 2 0)] [.dead,.cells [sl cS ([]:List ag),sl ac m] [(0,9),(1,28)],.cells [sl cS o.1,sl ac o.2] [(0,9),(1,28)]] []
def bu:Option ((Int×waA×waB)⊕((waA×waB))):=
 if(decide (t11<t10))=true then
  (dz t9 t11).bind fun x2=>
  (dM hidden x2 m2).bind fun o6=>
  if o6=true then
   (app m2 ([x2]:List ag)).bind fun l9=>
   (dz s.by_ t11).bind fun x10=>
   (app m3 ([x10]:List aa)).bind fun l11=>
   some (.inl (bC (t11+1),l9,l11))
  else
   some (.inl (bC (t11+1),m2,m3))
 else
  some (.inr (m2,m3))
def dN:Option ((waA×waB)):=loop (fun(zz:Int×waA×waB)=>bu hidden s t9 t10 zz.1 zz.2.1 zz.2.2) (t11,m2,m3)
theorem km{y:(Int×waA×waB)⊕((waA×waB))}(h:bu hidden s t9 t10 t11 m2 m3=some y):aF Pg GE 0 (cA Uh 119) (LQ (fun(zz:Int×waA×waB)=>bI hidden s t9 t10 m zz.1 zz.2.1 zz.2.2) (fun _=>.exit 0) (dw m) y) (bI hidden s t9 t10 m t11 m2 m3):=by
 rcases aU h with⟨c1,h⟩|⟨c1,h⟩
 ·obtain⟨x2,bx2,h⟩:=aw h
  obtain⟨o6,bo6,h⟩:=aw h
  have p8:=fun{sc F} (r:PS sc F)=>sg 0 c1<|sv (ba.ia (k:=.i64) bx2)<|sv (cY yR (.str x2) [])<|kq 0<|cC (kU hidden s t11 x2 t9 t10 m m2 m3 bo6)<|r
  rcases aU h with⟨c7,h⟩|⟨c7,h⟩
  ·obtain⟨l9,bl9,h⟩:=aw h
   obtain⟨x10,bx10,h⟩:=aw h
   obtain⟨l11,bl11,h⟩:=aw h
   obtain rfl:=lf h
   exact sT SQ (p8<|sg 0 c7<|sv (ba.mk' (v:=PVal.str) CW ([x2]:List ag) 1 (by kernel_rfl))<|sv (ba.ap bl9)<|sU [0,1,0,4,0,28,60,124,255,511,1023]<|sv (ey s)<|sv (ez s)<|sv (aP.ia (k:=.i64) bx10)<|sv (az x10)<|sv (aP.mk' (v:=bR) aY ([x10]:List aa) 1 (by kernel_rfl))<|sv (aP.ap bl11)<|Ol (rfl:b6 (sl ac l11)=some [sl ac l11])<|eF .normal (bI hidden s t9 t10 m (bC (t11+1)) l9 l11))<|by kernel_rfl
  ·obtain rfl:=lf h
   exact sT SQ (p8<|sg 0 c7<|eF .normal (bI hidden s t9 t10 m (bC (t11+1)) m2 m3))<|by kernel_rfl
 ·obtain rfl:=lf h
  have z:=sg 0 c1<|eF (.exit 0) (dw m (m2,m3))
  exact fX SQ (by intro hx;cases hx) z<|by kernel_rfl
theorem kV{x:(waA×waB)}(h:dN hidden s t9 t10 t11 m2 m3=some x):aF Pg GE 0 (.loop (cA Uh 119)) (EX (.exit 0) (dw m x)) (bI hidden s t9 t10 m t11 m2 m3):=
 aF.loop (S:=fun(zz:Int×waA×waB)=>bI hidden s t9 t10 m zz.1 zz.2.1 zz.2.2) (ex:=(fun _=>.exit 0)) (s:=(t11,m2,m3)) h fun zz y hy=>km hidden s t9 t10 m zz.1 zz.2.1 zz.2.2 hy
end
def bX(s:ai)(hidden:waA):Option ai:=
 (dN hidden s s.names (s.names.length:Int) 0 ([]:List ag) ([]:List aa)).bind fun o12=>
 some (⟨o12.1,o12.2⟩:ai)
theorem dO{s:ai}{hidden:waA}{r:ai}(h:bX s hidden=some r):CC Pg GE 49 [.agg (aq s),sl cS hidden] (.agg (aq r)) [(0,9),(1,28)]:=by
 obtain⟨o12,bo12,h⟩:=aw h
 obtain rfl:=lf h
 have z:=se (cO s)<|sx Mj<|sx Mj<|sv (gY s)<|sv (g8 s)<|cG (ba.ln s.names)<|cC (kV hidden s s.names (s.names.length:Int) ([]:List aa) 0 ([]:List ag) ([]:List aa) bo12)<|sz (bH (⟨o12.1,o12.2⟩:ai) [])<|sy (bP (⟨o12.1,o12.2⟩:ai))<|en (aI (ko (⟨o12.1,o12.2⟩:ai))<|aI (aV (⟨o12.1,o12.2⟩:ai))<|rT)
 exact bS SQ call49 func49 (c:=Uh) rfl (aI (aV s) (aI (am d7 hidden) trivial)) z<|by kernel_rfl
abbrev bw:=(ai->ae->Option ae)
abbrev ce(R:bw):Prop:=∀(s:ai) (t:ae) (r:ae),R s t=some r->CC Pg GE 50 [.agg (aq s),.agg (af t)] (.agg (af r)) [(2,30)]
abbrev ku:=(aa->waA->waB->Option aa)
abbrev og(R:ku):Prop:=∀(p:aa) (a:waA) (a2:waB) (r:aa),R p a a2=some r->CC Pg GE 101 [.agg (ac p),sl cS a,sl ac a2] (.agg (ac r)) [(3,28)]
noncomputable def UJ:Code:=f121.body.getD .skip
def Uu:List Nat:=[]
def uE(a:waA)(s:ag):Option Int:=
 (mn a s).bind fun r1=>
 some r1
theorem yC{a:waA}{s:ag}{r:Int}(h:uE a s=some r):CC Pg GE 121 [sl cS a,.str s] (.int .i64 r) []:=by
 obtain⟨r1,br1,h⟩:=aw h
 obtain rfl:=lf h
 have z:=bg (vq br1)<|en (aI (rP (.int .i64 r1))<|trivial)
 exact bS Uu call121 func121 (c:=UJ) rfl (aI (am d7 a) (aI trivial trivial)) z<|by kernel_rfl
abbrev nv:=(aa->Option aa)
abbrev rS(R:nv):Prop:=∀(p:aa) (r:aa),R p=some r->CC Pg GE 99 [.agg (ac p)] (.agg (ac r)) [(3,28)]
noncomputable def UX:Code:=f99.body.getD .skip
def UD:List Nat:=[21]
section
variable(R23:nv)(t14:waB)(t15:Int)(m:waB)(m2:Int)(m3:ag)(m4:Int)(t16:Int)(m5:waB)
def gp:av:=aM 29 [(2,.bptr 1 0),(3,.bptr 2 0),(14,sl ac t14),(15,.int .i64 t15),(16,.int .i64 t16)] [.dead,.cells [.int .i64 0,.str ([]:ag),.int .i64 0,sl ac m] [(3,28)],.cells [.int .i64 m2,.str m3,.int .i64 m4,sl ac m5] [(3,28)]] []
def na(o:waB):av:=aM 29 [(2,.bptr 1 0),(3,.bptr 2 0)] [.dead,.cells [.int .i64 0,.str ([]:ag),.int .i64 0,sl ac m] [(3,28)],.cells [.int .i64 m2,.str m3,.int .i64 m4,sl ac o] [(3,28)]] []
def jK:Option ((Int×waB)⊕(waB)):=
 if(decide (t16<t15))=true then
  (dz t14 t16).bind fun x2=>
  (R23 x2).bind fun r3=>
  (app m5 ([r3]:List aa)).bind fun l4=>
  some (.inl (bC (t16+1),l4))
 else
  some (.inr m5)
def qt:Option waB:=loop (fun(zz:Int×waB)=>jK R23 t14 t15 zz.1 zz.2) (t16,m5)
theorem zS(hR23:rS R23){y:(Int×waB)⊕(waB)}(h:jK R23 t14 t15 t16 m5=some y):aF Pg GE 0 (cA UX 119) (LQ (fun(zz:Int×waB)=>gp t14 t15 m m2 m3 m4 zz.1 zz.2) (fun _=>.exit 0) (na m m2 m3 m4) y) (gp t14 t15 m m2 m3 m4 t16 m5):=by
 rcases aU h with⟨c1,h⟩|⟨c1,h⟩
 ·obtain⟨x2,bx2,h⟩:=aw h
  obtain⟨r3,br3,h⟩:=aw h
  obtain⟨l4,bl4,h⟩:=aw h
  obtain rfl:=lf h
  have z:=sg 0 c1<|sv (aP.ia (k:=.i64) bx2)<|sv (az x2)<|sx dW<|sx (aZ x2)<|sU [0,1,0,4,12,31,63,127]<|sv (aO x2 [])<|bg (hR23 _ _ br3)<|sv (aP.mk' (v:=bR) aY ([r3]:List aa) 1 (by kernel_rfl))<|sv (aP.ap bl4)<|Ol (rfl:b6 (sl ac l4)=some [sl ac l4])<|oz 0 .normal (gp t14 t15 m m2 m3 m4 (bC (t16+1)) l4) rfl (cz (aI (cF rfl) (aI (cF rfl) (aI (up (am ah t14)) (aI trivial (aI trivial trivial)))))) (aI trivial (aI (aI trivial (aI trivial (aI trivial (aI (up (am ah m)) trivial)))) (aI (aI trivial (aI trivial (aI trivial (aI (up (am ah l4)) trivial)))) trivial)))
  exact cw (A:=UD) mixed z<|by kernel_rfl
 ·obtain rfl:=lf h
  have z:=sg 0 c1<|eF (.exit 0) (na m m2 m3 m4 m5)
  exact fX UD (by intro hx;cases hx) z<|by kernel_rfl
theorem Bx(hR23:rS R23){x:waB}(h:qt R23 t14 t15 t16 m5=some x):aF Pg GE 0 (.loop (cA UX 119)) (EX (.exit 0) (na m m2 m3 m4 x)) (gp t14 t15 m m2 m3 m4 t16 m5):=
 aF.loop (S:=fun(zz:Int×waB)=>gp t14 t15 m m2 m3 m4 zz.1 zz.2) (ex:=(fun _=>.exit 0)) (s:=(t16,m5)) h fun zz y hy=>zS R23 t14 t15 m m2 m3 m4 zz.1 zz.2 hR23 hy
end
def sL(R23:nv)(p:aa):Option aa:=
 (qt R23 p.Kids (p.Kids.length:Int) 0 ([]:List aa)).bind fun o5=>
 some (⟨p.Op,p.Name,p.N,o5⟩:aa)
theorem Em(R23:nv)(hR23:rS R23){p:aa}{r:aa}(h:sL R23 p=some r):CC Pg GE 99 [.agg (ac p)] (.agg (ac r)) [(3,28)]:=by
 obtain⟨o5,bo5,h⟩:=aw h
 obtain rfl:=lf h
 have z:=se (bz p)<|sx dW<|sv (aR p)<|sv (aS p)<|sv (ca p)<|sv (cq p)<|sv (ch p)<|sv (ct p)<|sb (qg p.Op p.Name p.N) (qe p.Op p.Name p.N)<|sx dW<|sy (aE (⟨p.Op,p.Name,p.N,([]:List aa)⟩:aa))<|sv (aK p)<|sv (aL p)<|cG (aP.ln p.Kids)<|cC (Bx R23 p.Kids (p.Kids.length:Int) ([]:List aa) p.Op p.Name p.N 0 ([]:List aa) hR23 bo5)<|sz (aO (⟨p.Op,p.Name,p.N,o5⟩:aa) [])<|sy (aE (⟨p.Op,p.Name,p.N,o5⟩:aa))<|en (aI (co (⟨p.Op,p.Name,p.N,o5⟩:aa))<|aI (ah (⟨p.Op,p.Name,p.N,o5⟩:aa))<|rT)
 exact bS UD call99 func99 (c:=UX) rfl (aI (ah p) trivial) z<|by kernel_rfl
def nA:(aa->Option aa)->(aa)->Option aa:=fun(rec:aa->Option aa) (x:aa)=>sL (fun p=>rec p) x
def nZ(p:aa):Option aa:=nS nA p
theorem qv{p:aa}{r:aa}(h:nZ p=some r):CC Pg GE 99 [.agg (ac p)] (.agg (ac r)) [(3,28)]:=
 cU (F:=nA) (M:=fun(x:aa) (r:aa)=>CC Pg GE 99 [.agg (ac x)] (.agg (ac r)) [(3,28)]) (fun rec hrec x r h=>Em _ (fun p r h=>hrec p r h) h) h
noncomputable def Nn:Code:=f101.body.getD .skip
def IN:List Nat:=[46]
section
variable(v:waA)(v2:waB)(p:aa)(i:Int)(m:waB)
def zR:av:=aM 56 [(1,sl cS v),(2,sl ac v2),(3,.eptr (ac p)),(6,.bptr 1 0),(7,.int .i64 i)] [.dead,.cells [.int .i64 0,.str ([]:ag),.int .i64 0,sl ac m] [(3,28)]] []
def kQ(o:Bool):av:=aM 56 [(1,sl cS v),(2,sl ac v2),(3,.eptr (ac p)),(6,.bptr 1 0),(7,.int .i64 i),(25,.bool o)] [.dead,.cells [.int .i64 0,.str ([]:ag),.int .i64 0,sl ac m] [(3,28)]] []
def mY:Option Bool:=
 if(decide (i>=0))=true then
  some (decide (i<(v2.length:Int)))
 else
  some false
theorem xW{x:Bool}(h:mY v2 i=some x):aF Pg GE 0 (cA Nn 106) (EX .normal (kQ v v2 p i m x)) (zR v v2 p i m):=by
 rcases aU h with⟨c4,h⟩|⟨c4,h⟩
 ·obtain rfl:=lf h
  exact cm IN (sg 3 c4<|cG (aP.ln v2)<|eF .normal (kQ v v2 p i m (decide (i<(v2.length:Int)))))<|by kernel_rfl
 ·obtain rfl:=lf h
  exact cm IN (sg 3 c4<|eF .normal (kQ v v2 p i m false))<|by kernel_rfl
end
section
variable(v:waA)(v2:waB)(p:aa)(m:waB)
def zQ:av:=aM 56 [(1,sl cS v),(2,sl ac v2),(3,.eptr (ac p)),(6,.bptr 1 0)] [.dead,.cells [.int .i64 0,.str ([]:ag),.int .i64 0,sl ac m] [(3,28)]] []
def gL(o:(Int×ag×Int×waB)⊕(Unit)):Exit:=match o with
 |(.inl _)=>.ret
 |(.inr _)=>.normal
def dV(o:(Int×ag×Int×waB)⊕(Unit)):av:=match o with
 |(.inl o)=>aM 56 [(6,.bptr 1 0)] [.dead,.cells [.int .i64 o.1,.str o.2.1,.int .i64 o.2.2.1,sl ac o.2.2.2] [(3,28)]] []
 |(.inr o)=>aM 56 [(1,sl cS v),(2,sl ac v2),(3,.eptr (ac p)),(6,.bptr 1 0)] [.dead,.cells [.int .i64 0,.str ([]:ag),.int .i64 0,sl ac m] [(3,28)]] []
def jJ:Option ((Int×ag×Int×waB)⊕(Unit)):=
 if(p.Op==3)=true then
  (uE v p.Name).bind fun r3=>
  (mY v2 r3).bind fun o5=>
  if o5=true then
   (dz v2 r3).bind fun x8=>
   (nZ x8).bind fun r9=>
   some (.inl (r9.Op,r9.Name,r9.N,r9.Kids))
  else
   some (.inr ())
 else
  some (.inr ())
theorem oU{x:(Int×ag×Int×waB)⊕(Unit)}(h:jJ v v2 p=some x):aF Pg GE 0 (cA Nn 6) (EX (gL x) (dV v v2 p m x)) (zQ v v2 p m):=by
 have p2:=fun{sc F} (r:PS sc F)=>sv (aR p)<|sv (aS p)<|r
 rcases aU h with⟨c1,h⟩|⟨c1,h⟩
 ·obtain⟨r3,br3,h⟩:=aw h
  obtain⟨o5,bo5,h⟩:=aw h
  have p7:=fun{sc F} (r:PS sc F)=>p2<|sg 0 c1<|sv (ca p)<|sv (cq p)<|bg (yC br3)<|kq 0<|cC (xW v v2 p r3 m bo5)<|r
  rcases aU h with⟨c6,h⟩|⟨c6,h⟩
  ·obtain⟨x8,bx8,h⟩:=aw h
   obtain⟨r9,br9,h⟩:=aw h
   obtain rfl:=lf h
   exact cm IN (p7<|sg 0 c6<|sv (aP.ia (k:=.i64) bx8)<|sv (az x8)<|bg (qv br9)<|sy (aE r9)<|eF (gL (.inl (r9.Op,r9.Name,r9.N,r9.Kids))) (dV v v2 p m (.inl (r9.Op,r9.Name,r9.N,r9.Kids))))<|by kernel_rfl
  ·obtain rfl:=lf h
   exact cm IN (p7<|sg 0 c6<|eF (gL (.inr ())) (dV v v2 p m (.inr ())))<|by kernel_rfl
 ·obtain rfl:=lf h
  exact cm IN (p2<|sg 0 c1<|eF (gL (.inr ())) (dV v v2 p m (.inr ())))<|by kernel_rfl
end
section
variable(R21:ku)(v:waA)(v2:waB)(t39:waB)(t40:Int)(m:waB)(m2:Int)(m3:ag)(m4:Int)(t41:Int)(m5:waB)
def fa:av:=aM 56 [(1,sl cS v),(2,sl ac v2),(6,.bptr 1 0),(8,.bptr 2 0),(39,sl ac t39),(40,.int .i64 t40),(41,.int .i64 t41)] [.dead,.cells [.int .i64 0,.str ([]:ag),.int .i64 0,sl ac m] [(3,28)],.cells [.int .i64 m2,.str m3,.int .i64 m4,sl ac m5] [(3,28)]] []
def kR(o:waB):av:=aM 56 [(6,.bptr 1 0),(8,.bptr 2 0)] [.dead,.cells [.int .i64 0,.str ([]:ag),.int .i64 0,sl ac m] [(3,28)],.cells [.int .i64 m2,.str m3,.int .i64 m4,sl ac o] [(3,28)]] []
def qr:Option ((Int×waB)⊕(waB)):=
 if(decide (t41<t40))=true then
  (dz t39 t41).bind fun x12=>
  (R21 x12 v v2).bind fun r13=>
  (app m5 ([r13]:List aa)).bind fun l14=>
  some (.inl (bC (t41+1),l14))
 else
  some (.inr m5)
def mZ:Option waB:=loop (fun(zz:Int×waB)=>qr R21 v v2 t39 t40 zz.1 zz.2) (t41,m5)
theorem wR(hR21:og R21){y:(Int×waB)⊕(waB)}(h:qr R21 v v2 t39 t40 t41 m5=some y):aF Pg GE 0 (cA Nn 247) (LQ (fun(zz:Int×waB)=>fa v v2 t39 t40 m m2 m3 m4 zz.1 zz.2) (fun _=>.exit 0) (kR m m2 m3 m4) y) (fa v v2 t39 t40 m m2 m3 m4 t41 m5):=by
 rcases aU h with⟨c11,h⟩|⟨c11,h⟩
 ·obtain⟨x12,bx12,h⟩:=aw h
  obtain⟨r13,br13,h⟩:=aw h
  obtain⟨l14,bl14,h⟩:=aw h
  obtain rfl:=lf h
  have z:=sg 0 c11<|sv (aP.ia (k:=.i64) bx12)<|sv (az x12)<|sx dW<|sx (aZ x12)<|sU [0,1,0,0,0,28,60,127,255,511]<|sv (aO x12 [])<|bg (hR21 _ _ _ _ br13)<|sv (aP.mk' (v:=bR) aY ([r13]:List aa) 1 (by kernel_rfl))<|sv (aP.ap bl14)<|Ol (rfl:b6 (sl ac l14)=some [sl ac l14])<|oz 0 .normal (fa v v2 t39 t40 m m2 m3 m4 (bC (t41+1)) l14) rfl (cz (aI (up (am d7 v)) (aI (up (am ah v2)) (aI (cF rfl) (aI (cF rfl) (aI (up (am ah t39)) (aI trivial (aI trivial trivial)))))))) (aI trivial (aI (aI trivial (aI trivial (aI trivial (aI (up (am ah m)) trivial)))) (aI (aI trivial (aI trivial (aI trivial (aI (up (am ah l14)) trivial)))) trivial)))
  exact cw (A:=IN) mixed z<|by kernel_rfl
 ·obtain rfl:=lf h
  have z:=sg 0 c11<|eF (.exit 0) (kR m m2 m3 m4 m5)
  exact fX IN (by intro hx;cases hx) z<|by kernel_rfl
theorem xX(hR21:og R21){x:waB}(h:mZ R21 v v2 t39 t40 t41 m5=some x):aF Pg GE 0 (.loop (cA Nn 247)) (EX (.exit 0) (kR m m2 m3 m4 x)) (fa v v2 t39 t40 m m2 m3 m4 t41 m5):=
 aF.loop (S:=fun(zz:Int×waB)=>fa v v2 t39 t40 m m2 m3 m4 zz.1 zz.2) (ex:=(fun _=>.exit 0)) (s:=(t41,m5)) h fun zz y hy=>wR R21 v v2 t39 t40 m m2 m3 m4 zz.1 zz.2 hR21 hy
end
def kG(R21:ku)(p:aa)(a:waA)(a2:waB):Option aa:=
 (jJ a a2 p).bind fun o10=>match o10 with
 |(.inl o10)=>
  some (⟨o10.1,o10.2.1,o10.2.2.1,o10.2.2.2⟩:aa)
 |(.inr o10)=>
  (mZ R21 a a2 p.Kids (p.Kids.length:Int) 0 ([]:List aa)).bind fun o15=>
  some (⟨p.Op,p.Name,p.N,o15⟩:aa)
theorem Bw(R21:ku)(hR21:og R21){p:aa}{a:waA}{a2:waB}{r:aa}(h:kG R21 p a a2=some r):CC Pg GE 101 [.agg (ac p),sl cS a,sl ac a2] (.agg (ac r)) [(3,28)]:=by
 obtain⟨o10,bo10,h⟩:=aw h
 rcases o10 with o10|o10
 ·obtain rfl:=lf h
  have z:=se (bz p)<|sx dW<|kq 0<|cC (e:=.ret) (s1:=dV a a2 p ([]:List aa) (.inl o10)) (oU a a2 p ([]:List aa) bo10)<|en (aI (co (⟨o10.1,o10.2.1,o10.2.2.1,o10.2.2.2⟩:aa))<|aI (ah (⟨o10.1,o10.2.1,o10.2.2.1,o10.2.2.2⟩:aa))<|rT)
  exact bS IN call101 func101 (c:=Nn) rfl (aI (ah p) (aI (am d7 a) (aI (am ah a2) trivial))) z<|by kernel_rfl
 ·obtain⟨o15,bo15,h⟩:=aw h
  obtain rfl:=lf h
  have z:=se (bz p)<|sx dW<|kq 0<|cC (e:=.normal) (s1:=dV a a2 p ([]:List aa) (.inr o10)) (oU a a2 p ([]:List aa) bo10)<|sv (aR p)<|sv (aS p)<|sv (ca p)<|sv (cq p)<|sv (ch p)<|sv (ct p)<|sb (qg p.Op p.Name p.N) (qe p.Op p.Name p.N)<|sx dW<|sy (aE (⟨p.Op,p.Name,p.N,([]:List aa)⟩:aa))<|sv (aK p)<|sv (aL p)<|cG (aP.ln p.Kids)<|cC (xX R21 a a2 p.Kids (p.Kids.length:Int) ([]:List aa) p.Op p.Name p.N 0 ([]:List aa) hR21 bo15)<|sz (aO (⟨p.Op,p.Name,p.N,o15⟩:aa) [])<|sy (aE (⟨p.Op,p.Name,p.N,o15⟩:aa))<|en (aI (co (⟨p.Op,p.Name,p.N,o15⟩:aa))<|aI (ah (⟨p.Op,p.Name,p.N,o15⟩:aa))<|rT)
  exact bS IN call101 func101 (c:=Nn) rfl (aI (ah p) (aI (am d7 a) (aI (am ah a2) trivial))) z<|by kernel_rfl
def oD:((aa×waA×waB)->Option aa)->(aa×waA×waB)->Option aa:=fun(rec:(aa×waA×waB)->Option aa) (x:aa×waA×waB)=>kG (fun p a a2=>rec (p,a,a2)) x.1 x.2.1 x.2.2
def nz(p:aa)(a:waA)(a2:waB):Option aa:=nS oD (p,a,a2)
theorem tx{p:aa}{a:waA}{a2:waB}{r:aa}(h:nz p a a2=some r):CC Pg GE 101 [.agg (ac p),sl cS a,sl ac a2] (.agg (ac r)) [(3,28)]:=
 cU (F:=oD) (M:=fun(x:aa×waA×waB) (r:aa)=>CC Pg GE 101 [.agg (ac x.1),sl cS x.2.1,sl ac x.2.2] (.agg (ac r)) [(3,28)]) (fun rec hrec x r h=>Bw _ (fun p a a2 r h=>hrec (p,a,a2) r h) h) h
noncomputable def WK:Code:=f89.body.getD .skip
def Wu:List Nat:=[]
def ck(s:ai)(p:aa):Option aa:=
 (nz p s.names s.by_).bind fun r1=>
 some r1
theorem eB{s:ai}{p:aa}{r:aa}(h:ck s p=some r):CC Pg GE 89 [.agg (aq s),.agg (ac p)] (.agg (ac r)) [(3,28)]:=by
 obtain⟨r1,br1,h⟩:=aw h
 obtain rfl:=lf h
 have z:=se (cO s)<|se (bz p)<|sx dW<|sv (az p)<|sv (gY s)<|sv (g8 s)<|sv (ey s)<|sv (ez s)<|bg (tx br1)<|sy (aE r1)<|en (aI (co r1)<|aI (ah r1)<|rT)
 exact bS Wu call89 func89 (c:=WK) rfl (aI (aV s) (aI (ah p) trivial)) z<|by kernel_rfl
noncomputable def UR:Code:=f73.body.getD .skip
def Uz:List Nat:=[14,21]
section
variable(v:ai)(t8:waB)(t9:Int)(out:waB)(t10:Int)
def eI:av:=aM 22 [(1,.func (.func 89) [.agg (aq v)] []),(5,sl ac out),(8,sl ac t8),(9,.int .i64 t9),(10,.int .i64 t10)] [] [((5,0),28)]
def jS(o:waB):av:=aM 22 [(5,sl ac o)] [] [((5,0),28)]
def oW:Option ((waB×Int)⊕(waB)):=
 if(decide (t10<t9))=true then
  (dz t8 t10).bind fun x2=>
  (ck v x2).bind fun r3=>
  (app out ([r3]:List aa)).bind fun l4=>
  some (.inl (l4,bC (t10+1)))
 else
  some (.inr out)
def mg:Option waB:=loop (fun(zz:waB×Int)=>oW v t8 t9 zz.1 zz.2) (out,t10)
theorem vJ{y:(waB×Int)⊕(waB)}(h:oW v t8 t9 out t10=some y):aF Pg GE 0 (cA UR 119) (LQ (fun(zz:waB×Int)=>eI v t8 t9 zz.1 zz.2) (fun _=>.exit 0) jS y) (eI v t8 t9 out t10):=by
 rcases aU h with⟨c1,h⟩|⟨c1,h⟩
 ·obtain⟨x2,bx2,h⟩:=aw h
  obtain⟨r3,br3,h⟩:=aw h
  obtain⟨l4,bl4,h⟩:=aw h
  obtain rfl:=lf h
  have z:=sg 0 c1<|sv (aP.ia (k:=.i64) bx2)<|sv (az x2)<|sx dW<|sx (aZ x2)<|sv (aO x2 [])<|bg (eB br3)<|sv (aP.mk' (v:=bR) aY ([r3]:List aa) 1 (by kernel_rfl))<|sv (aP.ap bl4)<|oz 0 .normal (eI v t8 t9 l4 (bC (t10+1))) rfl (cz (aI (aI (aI (up (aV v)) trivial) trivial) (aI (up (am ah l4)) (aI (up (am ah t8)) (aI trivial (aI trivial trivial)))))) trivial
  exact cw (A:=Uz) mixed z<|by kernel_rfl
 ·obtain rfl:=lf h
  have z:=sg 0 c1<|eF (.exit 0) (jS out)
  exact fX Uz (by intro hx;cases hx) z<|by kernel_rfl
theorem wY{x:waB}(h:mg v t8 t9 out t10=some x):aF Pg GE 0 (.loop (cA UR 119)) (EX (.exit 0) (jS x)) (eI v t8 t9 out t10):=
 aF.loop (S:=fun(zz:waB×Int)=>eI v t8 t9 zz.1 zz.2) (ex:=(fun _=>.exit 0)) (s:=(out,t10)) h fun zz y hy=>vJ v t8 t9 zz.1 zz.2 hy
end
def jv(a:waB)(c:ai):Option waB:=
 (mg c a (a.length:Int) ([]:List aa) 0).bind fun o5=>
 some o5
theorem rI{a:waB}{c:ai}{r:waB}(h:jv a c=some r):CC Pg GE 73 [sl ac a,.func (.func 89) [.agg (aq c)] []] (sl ac r) [(0,28)]:=by
 obtain⟨o5,bo5,h⟩:=aw h
 obtain rfl:=lf h
 have z:=cG (aP.ln a)<|cC (wY c a (a.length:Int) ([]:List aa) 0 bo5)<|en (aI (rP (sl ac o5))<|(am ah o5))
 exact bS Uz call73 func73 (c:=UR) rfl (aI (am ah a) (aI (aI (aI (aV c) trivial) trivial) trivial)) z<|by kernel_rfl
noncomputable def Sd:Code:=f118.body.getD .skip
def RQ:List Nat:=[13,18]
section
variable(t7:waB)(t8:Int)(out:waA)(t9:Int)
def cy:av:=aM 19 [(3,sl cS out),(7,sl ac t7),(8,.int .i64 t8),(9,.int .i64 t9)] [.dead] [((3,0),9)]
def d4(o:waA):av:=aM 19 [(3,sl cS o)] [.dead] [((3,0),9)]
def dZ:Option ((waA×Int)⊕(waA)):=
 if(decide (t9<t8))=true then
  (dz t7 t9).bind fun x2=>
  (mX x2).bind fun r3=>
  (app out r3).bind fun l4=>
  some (.inl (l4,bC (t9+1)))
 else
  some (.inr out)
def eA:Option waA:=loop (fun(zz:waA×Int)=>dZ t7 t8 zz.1 zz.2) (out,t9)
theorem mh{y:(waA×Int)⊕(waA)}(h:dZ t7 t8 out t9=some y):aF Pg GE 0 (cA Sd 119) (LQ (fun(zz:waA×Int)=>cy t7 t8 zz.1 zz.2) (fun _=>.exit 0) d4 y) (cy t7 t8 out t9):=by
 rcases aU h with⟨c1,h⟩|⟨c1,h⟩
 ·obtain⟨x2,bx2,h⟩:=aw h
  obtain⟨r3,br3,h⟩:=aw h
  obtain⟨l4,bl4,h⟩:=aw h
  obtain rfl:=lf h
  have z:=sg 0 c1<|sv (aP.ia (k:=.i64) bx2)<|sv (az x2)<|sx dW<|sx (aZ x2)<|sv (aO x2 [])<|bg (Br br3)<|sv (ba.ap bl4)<|oz 0 .normal (cy t7 t8 l4 (bC (t9+1))) rfl (cz (aI (up (am d7 l4)) (aI (up (am ah t7)) (aI trivial (aI trivial trivial))))) (aI trivial trivial)
  exact cw (A:=RQ) mixed z<|by kernel_rfl
 ·obtain rfl:=lf h
  have z:=sg 0 c1<|eF (.exit 0) (d4 out)
  exact fX RQ (by intro hx;cases hx) z<|by kernel_rfl
theorem my{x:waA}(h:eA t7 t8 out t9=some x):aF Pg GE 0 (.loop (cA Sd 119)) (EX (.exit 0) (d4 x)) (cy t7 t8 out t9):=
 aF.loop (S:=fun(zz:waA×Int)=>cy t7 t8 zz.1 zz.2) (ex:=(fun _=>.exit 0)) (s:=(out,t9)) h fun zz y hy=>mh t7 t8 zz.1 zz.2 hy
end
def cV(s:ai):Option waA:=
 (eA s.by_ (s.by_.length:Int) ([]:List ag) 0).bind fun o5=>
 some o5
theorem iu{s:ai}{r:waA}(h:cV s=some r):CC Pg GE 118 [.agg (aq s)] (sl cS r) [(0,9)]:=by
 obtain⟨o5,bo5,h⟩:=aw h
 obtain rfl:=lf h
 have z:=se (cO s)<|sv (ey s)<|sv (ez s)<|cG (aP.ln s.by_)<|cC (my s.by_ (s.by_.length:Int) ([]:List ag) 0 bo5)<|en (aI (rP (sl cS o5))<|(am d7 o5))
 exact bS RQ call118 func118 (c:=Sd) rfl (aI (aV s) trivial) z<|by kernel_rfl
abbrev lG:=(ae->Option waA)
abbrev pK(R:lG):Prop:=∀(t:ae) (r:waA),R t=some r->CC Pg GE 29 [.agg (af t)] (sl cS r) [(0,9)]
noncomputable def VL:Code:=f65.body.getD .skip
def Vz:List Nat:=[]
def jr(t:ae)(i:Int):Option waA:=
 if(t.Op !=6)=true then
  some ([]:List ag)
 else
  (Lo t.Names none (some (if(t.Names.length:Int)<i then(t.Names.length:Int)else i))).bind fun l3=>
  some l3
theorem BS{t:ae}{i:Int}{r:waA}(h:jr t i=some r):CC Pg GE 65 [.agg (af t),.int .i64 i] (sl cS r) []:=by
 have p2:=fun{sc F} (r:PS sc F)=>se (bE t)<|sv (aA t)<|sv (aC t)<|r
 rcases aU h with⟨c1,h⟩|⟨c1,h⟩
 ·obtain rfl:=lf h
  have z:=p2<|sg 0 c1<|en (aI (rP (sl cS ([]:List ag)))<|(am d7 ([]:List ag)))
  exact bS Vz call65 func65 (c:=VL) rfl (aI (ak t) (aI trivial trivial)) z<|by kernel_rfl
 ·obtain⟨l3,bl3,h⟩:=aw h
  obtain rfl:=lf h
  have z:=p2<|sg 0 c1<|sv (aB t)<|sv (aD t)<|sv (aB t)<|sv (aD t)<|cG (ba.ln t.Names)<|sv (ba.sc bl3)<|en (aI (rP (sl cS l3))<|(am d7 l3))
  exact bS Vz call65 func65 (c:=VL) rfl (aI (ak t) (aI trivial trivial)) z<|by kernel_rfl
noncomputable def QL:Code:=f29.body.getD .skip
def OH:List Nat:=[33,44,61]
section
variable(t:ae)(t18:waB)(t19:Int)(t20:Int)(t25:waA)(t26:Int)(m:Int)(m2:ag)(m3:Int)(m4:waB)(out:waA)(t27:Int)
def eh:av:=aM 69 [(1,.eptr (af t)),(3,sl cS out),(18,sl ac t18),(19,.int .i64 t19),(20,.int .i64 t20),(25,sl cS t25),(26,.int .i64 t26),(27,.int .i64 t27)] [.dead,.cells [.int .i64 m,.str m2,.int .i64 m3,sl ac m4] []] [((25,0),9),((18,0),28),((3,0),9)]
def mb(o:waA):av:=aM 69 [(1,.eptr (af t)),(3,sl cS o),(18,sl ac t18),(19,.int .i64 t19),(20,.int .i64 t20)] [.dead,.cells [.int .i64 m,.str m2,.int .i64 m3,sl ac m4] []] [((18,0),28),((3,0),9)]
def rE:Option ((waA×Int)⊕(waA)):=
 if(decide (t27<t26))=true then
  (dz t25 t27).bind fun x6=>
  if(!(x6==([118]:ag)))=true then
   (app out ([x6]:List ag)).bind fun l9=>
   some (.inl (l9,bC (t27+1)))
  else
   some (.inl (out,bC (t27+1)))
 else
  some (.inr out)
def ir:Option waA:=loop (fun(zz:waA×Int)=>rE t25 t26 zz.1 zz.2) (out,t27)
theorem yb{y:(waA×Int)⊕(waA)}(h:rE t25 t26 out t27=some y):aF Pg GE 0 (cA QL 30687) (LQ (fun(zz:waA×Int)=>eh t t18 t19 t20 t25 t26 m m2 m3 m4 zz.1 zz.2) (fun _=>.exit 2) (mb t t18 t19 t20 m m2 m3 m4) y) (eh t t18 t19 t20 t25 t26 m m2 m3 m4 out t27):=by
 rcases aU h with⟨c5,h⟩|⟨c5,h⟩
 ·obtain⟨x6,bx6,h⟩:=aw h
  have p8:=fun{sc F} (r:PS sc F)=>sg 0 c5<|sv (ba.ia (k:=.i64) bx6)<|sv (cY yR (.str x6) [])<|r
  rcases aU h with⟨c7,h⟩|⟨c7,h⟩
  ·obtain⟨l9,bl9,h⟩:=aw h
   obtain rfl:=lf h
   exact sT OH (p8<|sg 0 c7<|sv (ba.mk' (v:=PVal.str) CW ([x6]:List ag) 1 (by kernel_rfl))<|sv (ba.ap bl9)<|eF .normal (eh t t18 t19 t20 t25 t26 m m2 m3 m4 l9 (bC (t27+1))))<|by kernel_rfl
  ·obtain rfl:=lf h
   exact sT OH (p8<|sg 0 c7<|eF .normal (eh t t18 t19 t20 t25 t26 m m2 m3 m4 out (bC (t27+1))))<|by kernel_rfl
 ·obtain rfl:=lf h
  have z:=sg 0 c5<|eF (.exit 2) (mb t t18 t19 t20 m m2 m3 m4 out)
  exact fX OH (by intro hx;cases hx) z<|by kernel_rfl
theorem zX{x:waA}(h:ir t25 t26 out t27=some x):aF Pg GE 0 (.loop (cA QL 30687)) (EX (.exit 2) (mb t t18 t19 t20 m m2 m3 m4 x)) (eh t t18 t19 t20 t25 t26 m m2 m3 m4 out t27):=
 aF.loop (S:=fun(zz:waA×Int)=>eh t t18 t19 t20 t25 t26 m m2 m3 m4 zz.1 zz.2) (ex:=(fun _=>.exit 2)) (s:=(out,t27)) h fun zz y hy=>yb t t18 t19 t20 t25 t26 m m2 m3 m4 zz.1 zz.2 hy
end
section
variable(t:ae)(t18:waB)(t19:Int)(out:waA)(t20:Int)
def fF:av:=aM 69 [(1,.eptr (af t)),(3,sl cS out),(18,sl ac t18),(19,.int .i64 t19),(20,.int .i64 t20)] [.dead] [((18,0),28),((3,0),9)]
def ma(o:waA):av:=aM 69 [(1,.eptr (af t)),(3,sl cS o)] [.dead] [((3,0),9)]
def rD:Option ((waA×Int)⊕(waA)):=
 if(decide (t20<t19))=true then
  (dz t18 t20).bind fun x3=>
  (mX x3).bind fun r4=>
  (ir r4 (r4.length:Int) out 0).bind fun o10=>
  some (.inl (o10,bC (t20+1)))
 else
  some (.inr out)
def oF:Option waA:=loop (fun(zz:waA×Int)=>rD t18 t19 zz.1 zz.2) (out,t20)
theorem ya{y:(waA×Int)⊕(waA)}(h:rD t18 t19 out t20=some y):aF Pg GE 0 (cA QL 119) (LQ (fun(zz:waA×Int)=>fF t t18 t19 zz.1 zz.2) (fun _=>.exit 0) (ma t) y) (fF t t18 t19 out t20):=by
 rcases aU h with⟨c2,h⟩|⟨c2,h⟩
 ·obtain⟨x3,bx3,h⟩:=aw h
  obtain⟨r4,br4,h⟩:=aw h
  obtain⟨o10,bo10,h⟩:=aw h
  obtain rfl:=lf h
  have z:=sg 0 c2<|sv (aP.ia (k:=.i64) bx3)<|sv (az x3)<|sx dW<|sx (aZ x3)<|sv (aO x3 [])<|bg (Br br4)<|cG (ba.ln r4)<|cC (zX t t18 t19 t20 r4 (r4.length:Int) x3.Op x3.Name x3.N x3.Kids out 0 bo10)<|oz 0 .normal (fF t t18 t19 o10 (bC (t20+1))) rfl (cz (aI (lM (ak t)) (aI (up (am d7 o10)) (aI (up (am ah t18)) (aI trivial (aI trivial trivial)))))) (aI trivial trivial)
  exact cw (A:=OH) mixed z<|by kernel_rfl
 ·obtain rfl:=lf h
  have z:=sg 0 c2<|eF (.exit 0) (ma t out)
  exact fX OH (by intro hx;cases hx) z<|by kernel_rfl
theorem zW{x:waA}(h:oF t18 t19 out t20=some x):aF Pg GE 0 (.loop (cA QL 119)) (EX (.exit 0) (ma t x)) (fF t t18 t19 out t20):=
 aF.loop (S:=fun(zz:waA×Int)=>fF t t18 t19 zz.1 zz.2) (ex:=(fun _=>.exit 0)) (s:=(out,t20)) h fun zz y hy=>ya t t18 t19 zz.1 zz.2 hy
end
section
variable(t:ae)(bound:waA)(t40:waC)(t41:Int)(t42:Int)(t51:waA)(t52:Int)(m:Int)(m2:ag)(m3:waC)(m4:waA)(m5:Int)(m6:ag)(m7:Int)(m8:waB)(m9:waB)(out:waA)(t53:Int)
def ej:av:=aM 69 [(1,.eptr (af t)),(3,sl cS out),(10,sl cS bound),(40,sl af t40),(41,.int .i64 t41),(42,.int .i64 t42),(51,sl cS t51),(52,.int .i64 t52),(53,.int .i64 t53)] [.dead,.cells [.int .i64 m,.str m2,sl af m3,sl cS m4,.int .i64 m5,.str m6,.int .i64 m7,sl ac m8,sl ac m9] []] [((51,0),9),((3,0),9)]
def me(o:waA):av:=aM 69 [(1,.eptr (af t)),(3,sl cS o),(40,sl af t40),(41,.int .i64 t41),(42,.int .i64 t42)] [.dead,.cells [.int .i64 m,.str m2,sl af m3,sl cS m4,.int .i64 m5,.str m6,.int .i64 m7,sl ac m8,sl ac m9] []] [((3,0),9)]
def rG:Option ((waA×Int)⊕(waA)):=
 if(decide (t53<t52))=true then
  (dz t51 t53).bind fun x17=>
  (dK bound x17).bind fun r18=>
  if(!r18)=true then
   (app out ([x17]:List ag)).bind fun l21=>
   some (.inl (l21,bC (t53+1)))
  else
   some (.inl (out,bC (t53+1)))
 else
  some (.inr out)
def it:Option waA:=loop (fun(zz:waA×Int)=>rG bound t51 t52 zz.1 zz.2) (out,t53)
theorem yd{y:(waA×Int)⊕(waA)}(h:rG bound t51 t52 out t53=some y):aF Pg GE 0 (cA QL 126911) (LQ (fun(zz:waA×Int)=>ej t bound t40 t41 t42 t51 t52 m m2 m3 m4 m5 m6 m7 m8 m9 zz.1 zz.2) (fun _=>.exit 6) (me t t40 t41 t42 m m2 m3 m4 m5 m6 m7 m8 m9) y) (ej t bound t40 t41 t42 t51 t52 m m2 m3 m4 m5 m6 m7 m8 m9 out t53):=by
 rcases aU h with⟨c16,h⟩|⟨c16,h⟩
 ·obtain⟨x17,bx17,h⟩:=aw h
  obtain⟨r18,br18,h⟩:=aw h
  have p20:=fun{sc F} (r:PS sc F)=>sg 0 c16<|sv (ba.ia (k:=.i64) bx17)<|sv (cY yR (.str x17) [])<|bg (ff br18)<|r
  rcases aU h with⟨c19,h⟩|⟨c19,h⟩
  ·obtain⟨l21,bl21,h⟩:=aw h
   obtain rfl:=lf h
   exact sT OH (p20<|sg 0 c19<|sv (ba.mk' (v:=PVal.str) CW ([x17]:List ag) 1 (by kernel_rfl))<|sv (ba.ap bl21)<|eF .normal (ej t bound t40 t41 t42 t51 t52 m m2 m3 m4 m5 m6 m7 m8 m9 l21 (bC (t53+1))))<|by kernel_rfl
  ·obtain rfl:=lf h
   exact sT OH (p20<|sg 0 c19<|eF .normal (ej t bound t40 t41 t42 t51 t52 m m2 m3 m4 m5 m6 m7 m8 m9 out (bC (t53+1))))<|by kernel_rfl
 ·obtain rfl:=lf h
  have z:=sg 0 c16<|eF (.exit 6) (me t t40 t41 t42 m m2 m3 m4 m5 m6 m7 m8 m9 out)
  exact fX OH (by intro hx;cases hx) z<|by kernel_rfl
theorem zZ{x:waA}(h:it bound t51 t52 out t53=some x):aF Pg GE 0 (.loop (cA QL 126911)) (EX (.exit 6) (me t t40 t41 t42 m m2 m3 m4 m5 m6 m7 m8 m9 x)) (ej t bound t40 t41 t42 t51 t52 m m2 m3 m4 m5 m6 m7 m8 m9 out t53):=
 aF.loop (S:=fun(zz:waA×Int)=>ej t bound t40 t41 t42 t51 t52 m m2 m3 m4 m5 m6 m7 m8 m9 zz.1 zz.2) (ex:=(fun _=>.exit 6)) (s:=(out,t53)) h fun zz y hy=>yd t bound t40 t41 t42 t51 t52 m m2 m3 m4 m5 m6 m7 m8 m9 zz.1 zz.2 hy
end
section
variable(R26:lG)(t:ae)(t40:waC)(t41:Int)(out:waA)(t42:Int)
def fG:av:=aM 69 [(1,.eptr (af t)),(3,sl cS out),(40,sl af t40),(41,.int .i64 t41),(42,.int .i64 t42)] [.dead] [((3,0),9)]
def mc(o:waA):av:=aM 69 [(3,sl cS o)] [.dead] [((3,0),9)]
def rF:Option ((waA×Int)⊕(waA)):=
 if(decide (t42<t41))=true then
  (dz t40 t42).bind fun x13=>
  (jr t t42).bind fun r14=>
  (R26 x13).bind fun r15=>
  (it r14 r15 (r15.length:Int) out 0).bind fun o22=>
  some (.inl (o22,bC (t42+1)))
 else
  some (.inr out)
def oG:Option waA:=loop (fun(zz:waA×Int)=>rF R26 t t40 t41 zz.1 zz.2) (out,t42)
theorem yc(hR26:pK R26){y:(waA×Int)⊕(waA)}(h:rF R26 t t40 t41 out t42=some y):aF Pg GE 0 (cA QL 247) (LQ (fun(zz:waA×Int)=>fG t t40 t41 zz.1 zz.2) (fun _=>.exit 4) mc y) (fG t t40 t41 out t42):=by
 rcases aU h with⟨c12,h⟩|⟨c12,h⟩
 ·obtain⟨x13,bx13,h⟩:=aw h
  obtain⟨r14,br14,h⟩:=aw h
  obtain⟨r15,br15,h⟩:=aw h
  obtain⟨o22,bo22,h⟩:=aw h
  obtain rfl:=lf h
  have z:=sg 0 c12<|sv (dP.ia (k:=.i64) bx13)<|sv (aW x13)<|sx iq<|sx (cn x13)<|sv (aW t)<|bg (BS br14)<|sv (bh x13 [])<|bg (hR26 _ _ br15)<|cG (ba.ln r15)<|cC (zZ t r14 t40 t41 t42 r15 (r15.length:Int) x13.Op x13.Name x13.Args x13.Names x13.Pred.Op x13.Pred.Name x13.Pred.N x13.Pred.Kids x13.Preds out 0 bo22)<|oz 0 .normal (fG t t40 t41 o22 (bC (t42+1))) rfl (cz (aI (lM (ak t)) (aI (up (am d7 o22)) (aI (up (am ak t40)) (aI trivial (aI trivial trivial)))))) (aI trivial trivial)
  exact cw (A:=OH) mixed z<|by kernel_rfl
 ·obtain rfl:=lf h
  have z:=sg 0 c12<|eF (.exit 4) (mc out)
  exact fX OH (by intro hx;cases hx) z<|by kernel_rfl
theorem zY(hR26:pK R26){x:waA}(h:oG R26 t t40 t41 out t42=some x):aF Pg GE 0 (.loop (cA QL 247)) (EX (.exit 4) (mc x)) (fG t t40 t41 out t42):=
 aF.loop (S:=fun(zz:waA×Int)=>fG t t40 t41 zz.1 zz.2) (ex:=(fun _=>.exit 4)) (s:=(out,t42)) h fun zz y hy=>yc R26 t t40 t41 zz.1 zz.2 hR26 hy
end
def lZ(R26:lG)(t:ae):Option waA:=
 (app ([t.Pred]:List aa) t.Preds).bind fun l1=>
 (oF l1 (l1.length:Int) ([]:List ag) 0).bind fun o11=>
 (oG R26 t t.Args (t.Args.length:Int) o11 0).bind fun o23=>
 (lc o23 ([]:List ag)).bind fun r24=>
 some r24
theorem C7(R26:lG)(hR26:pK R26){t:ae}{r:waA}(h:lZ R26 t=some r):CC Pg GE 29 [.agg (af t)] (sl cS r) [(0,9)]:=by
 obtain⟨l1,bl1,h⟩:=aw h
 obtain⟨o11,bo11,h⟩:=aw h
 obtain⟨o23,bo23,h⟩:=aw h
 obtain⟨r24,br24,h⟩:=aw h
 obtain rfl:=lf h
 have z:=se (bE t)<|sv (bF t)<|sv (bG t)<|sv (aP.mk' (v:=bR) aY ([t.Pred]:List aa) 1 (by kernel_rfl))<|sv (bT t)<|sv (bU t)<|sv (aP.ap bl1)<|cG (aP.ln l1)<|cC (zW t l1 (l1.length:Int) ([]:List ag) 0 bo11)<|sv (aH t)<|sv (aJ t)<|cG (dP.ln t.Args)<|cC (zY R26 t t.Args (t.Args.length:Int) o11 0 hR26 bo23)<|bg (wF br24)<|en (aI (rP (sl cS r24))<|(am d7 r24))
 exact bS OH call29 func29 (c:=QL) rfl (aI (ak t) trivial) z<|by kernel_rfl
def qE:(ae->Option waA)->(ae)->Option waA:=fun(rec:ae->Option waA) (x:ae)=>lZ (fun t=>rec t) x
def pz(t:ae):Option waA:=nS qE t
theorem va{t:ae}{r:waA}(h:pz t=some r):CC Pg GE 29 [.agg (af t)] (sl cS r) [(0,9)]:=
 cU (F:=qE) (M:=fun(x:ae) (r:waA)=>CC Pg GE 29 [.agg (af x)] (sl cS r) [(0,9)]) (fun rec hrec x r h=>C7 _ (fun t r h=>hrec t r h) h) h
noncomputable def No:Code:=f119.body.getD .skip
def Nk:List Nat:=[24,35]
section
variable(base:ag)(t11:waA)(t12:Int)(t13:Int)(m0:(List (ag×Bool)))
def gh:av:=aM 36 [(1,.str base),(5,.mapr 0),(11,sl cS t11),(12,.int .i64 t12),(13,.int .i64 t13)] [.map (vH PVal.bool m0)] []
def mU(o:(List (ag×Bool))):av:=aM 36 [(1,.str base),(5,.mapr 0)] [.map (vH PVal.bool o)] []
def gi:Option ((Int×(List (ag×Bool)))⊕(((List (ag×Bool))))):=
 if(decide (t13<t12))=true then
  (dz t11 t13).bind fun x2=>
  some (.inl (bC (t13+1),xV m0 x2 true))
 else
  some (.inr m0)
def lU:Option (((List (ag×Bool)))):=loop (fun(zz:Int×(List (ag×Bool)))=>gi t11 t12 zz.1 zz.2) (t13,m0)
theorem zH{y:(Int×(List (ag×Bool)))⊕(((List (ag×Bool))))}(h:gi t11 t12 t13 m0=some y):aF Pg GE 0 (cA No 119) (LQ (fun(zz:Int×(List (ag×Bool)))=>gh base t11 t12 zz.1 zz.2) (fun _=>.exit 0) (mU base) y) (gh base t11 t12 t13 m0):=by
 rcases aU h with⟨c1,h⟩|⟨c1,h⟩
 ·obtain⟨x2,bx2,h⟩:=aw h
  obtain rfl:=lf h
  exact sT Nk (sg 0 c1<|sv (ba.ia (k:=.i64) bx2)<|sv (cY yR (.str x2) [])<|V6 (Ps (f:=PVal.bool) underlying121 underlying9 m0 x2 true)<|eF .normal (gh base t11 t12 (bC (t13+1)) (xV m0 x2 true)))<|by kernel_rfl
 ·obtain rfl:=lf h
  have z:=sg 0 c1<|eF (.exit 0) (mU base m0)
  exact fX Nk (by intro hx;cases hx) z<|by kernel_rfl
theorem A3{x:((List (ag×Bool)))}(h:lU t11 t12 t13 m0=some x):aF Pg GE 0 (.loop (cA No 119)) (EX (.exit 0) (mU base x)) (gh base t11 t12 t13 m0):=
 aF.loop (S:=fun(zz:Int×(List (ag×Bool)))=>gh base t11 t12 zz.1 zz.2) (ex:=(fun _=>.exit 0)) (s:=(t13,m0)) h fun zz y hy=>zH base t11 t12 zz.1 zz.2 hy
end
section
variable(base:ag)(m0:(List (ag×Bool)))(n:Int)
def gj:av:=aM 36 [(1,.str base),(5,.mapr 0),(8,.int .i64 n)] [.map (vH PVal.bool m0)] []
def mV(o:ag):av:=aM 36 [(4,.str o)] [.map (vH PVal.bool m0)] []
def eS:Option (Int⊕(ag)):=
 (MO n).bind fun r6=>
 (So base r6).bind fun s7=>
 if(!((uB m0 s7).getD false))=true then
  some (.inr s7)
 else
  some (.inl (bC (n+1)))
def jn:Option ag:=loop (fun(zz:Int)=>eS base m0 zz) n
theorem zI{y:Int⊕(ag)}(h:eS base m0 n=some y):aF Pg GE 0 (cA No 255) (LQ (fun(zz:Int)=>gj base m0 zz) (fun _=>.ret) (mV m0) y) (gj base m0 n):=by
 obtain⟨r6,br6,h⟩:=aw h
 obtain⟨s7,bs7,h⟩:=aw h
 have p9:=fun{sc F} (r:PS sc F)=>bg (Q2 br6)<|sv (JY (P:=Pg) (t:=9) bs7)<|sv (L7 (f:=PVal.bool) underlying121 underlying9 Vt m0 s7)<|r
 rcases aU h with⟨c8,h⟩|⟨c8,h⟩
 ·obtain rfl:=lf h
  have z:=p9<|sg 0 c8<|eF .ret (mV m0 s7)
  exact fX Nk (by intro hx;cases hx) z<|by kernel_rfl
 ·obtain rfl:=lf h
  exact sT Nk (p9<|sg 0 c8<|eF .normal (gj base m0 (bC (n+1))))<|by kernel_rfl
theorem A5{x:ag}(h:jn base m0 n=some x):aF Pg GE 0 (.loop (cA No 255)) (EX .ret (mV m0 x)) (gj base m0 n):=
 aF.loop (S:=fun(zz:Int)=>gj base m0 zz) (ex:=(fun _=>.ret)) (s:=n) h fun zz y hy=>zI base m0 zz hy
end
def rv(used:waA)(base:ag):Option ag:=
 (lU used (used.length:Int) 0 ([]:List (ag×Bool))).bind fun o3=>
 if(!((uB o3 base).getD false))=true then
  some base
 else
  (jn base o3 1).bind fun o10=>
  some o10
theorem Ge{used:waA}{base:ag}{r:ag}(h:rv used base=some r):CC Pg GE 119 [sl cS used,.str base] (.str r) []:=by
 obtain⟨o3,bo3,h⟩:=aw h
 have p5:=fun{sc F} (r:PS sc F)=>cG (ba.ln used)<|cC (A3 base used (used.length:Int) 0 ([]:List (ag×Bool)) bo3)<|sv (L7 (f:=PVal.bool) underlying121 underlying9 Vt o3 base)<|r
 rcases aU h with⟨c4,h⟩|⟨c4,h⟩
 ·obtain rfl:=lf h
  have z:=p5<|sg 0 c4<|en (aI (rP (.str base))<|trivial)
  exact bS Nk call119 func119 (c:=No) rfl (aI (am d7 used) (aI trivial trivial)) z<|by kernel_rfl
 ·obtain⟨o10,bo10,h⟩:=aw h
  obtain rfl:=lf h
  have z:=p5<|sg 0 c4<|cC (A5 base o3 1 bo10)<|en (aI (rP (.str o10))<|trivial)
  exact bS Nk call119 func119 (c:=No) rfl (aI (am d7 used) (aI trivial trivial)) z<|by kernel_rfl
noncomputable def WC:Code:=f52.body.getD .skip
def Wm:List Nat:=[13,19]
def cW(s:ai)(name:ag)(a:aa):Option ai:=
 (bX s ([name]:List ag)).bind fun r1=>
 (app r1.names ([name]:List ag)).bind fun l2=>
 (app r1.by_ ([a]:List aa)).bind fun l3=>
 some (⟨l2,l3⟩:ai)
theorem iv{s:ai}{name:ag}{a:aa}{r:ai}(h:cW s name a=some r):CC Pg GE 52 [.agg (aq s),.str name,.agg (ac a)] (.agg (aq r)) [(0,9),(1,28)]:=by
 obtain⟨r1,br1,h⟩:=aw h
 obtain⟨l2,bl2,h⟩:=aw h
 obtain⟨l3,bl3,h⟩:=aw h
 obtain rfl:=lf h
 have z:=se (cO s)<|se (bz a)<|sx Mj<|sv (bQ s)<|sv (ba.mk' (v:=PVal.str) CW ([name]:List ag) 1 (by kernel_rfl))<|bg (dO br1)<|sx Mj<|sy (bP r1)<|sv (ba.mk' (v:=PVal.str) CW ([name]:List ag) 1 (by kernel_rfl))<|sv (ba.ap bl2)<|sv (az a)<|sv (aP.mk' (v:=bR) aY ([a]:List aa) 1 (by kernel_rfl))<|sv (aP.ap bl3)<|sz (bH (⟨l2,l3⟩:ai) [])<|sy (bP (⟨l2,l3⟩:ai))<|en (aI (ko (⟨l2,l3⟩:ai))<|aI (aV (⟨l2,l3⟩:ai))<|rT)
 exact bS Wm call52 func52 (c:=WC) rfl (aI (aV s) (aI trivial (aI (ah a) trivial))) z<|by kernel_rfl
end Go.Proofs.YtggeppllafbidaaGreatDoor
