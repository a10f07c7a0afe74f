/- PROVED: a part of the proof. Conditions: none. -/
import Derived.Test.YtggeppllafbidaaGreatDoorPkA9
noncomputable section
namespace Go.Proofs.YtggeppllafbidaaGreatDoor
open Go Go.Proofs.Tryz
set_option linter.unusedVariables false
set_option maxRecDepth 100000
abbrev rx:=(waC->Option Bool)
abbrev wk(R:rx):Prop:=∀(a:waC) (r:Bool),R a=some r->CC Pg GE 8 [sl af a] (.bool r) []
abbrev qa:=(ae->Option Int)
abbrev uF(R:qa):Prop:=∀(t:ae) (r:Int),R t=some r->CC Pg GE 42 [.agg (af t)] (.int .i64 r) []
noncomputable def S7:Code:=f42.body.getD .skip
def SQ:List Nat:=[18]
section
variable(R3:qa)(t7:waC)(t8:Int)(k:Int)(t9:Int)
def iL:av:=aN 19 [(3,.int .i64 k),(7,sl af t7),(8,.int .i64 t8),(9,.int .i64 t9)] [.dead] []
def oY(o:Int):av:=aN 19 [(3,.int .i64 o)] [.dead] []
def va:Option ((Int×Int)⊕(Int)):=
 if(decide (t9<t8))=true then
  (dv t7 t9).bind fun x2=>
  (R3 x2).bind fun r3=>
  some (.inl (bA (k+r3),bA (t9+1)))
 else
  some (.inr k)
def tf:Option Int:=loop (fun(zz:Int×Int)=>va R3 t7 t8 zz.1 zz.2) (k,t9)
theorem Bp(hR3:uF R3){y:(Int×Int)⊕(Int)}(h:va R3 t7 t8 k t9=some y):aB Pg GE 0 (cA S7 119) (LQ (fun(zz:Int×Int)=>iL t7 t8 zz.1 zz.2) (fun _=>.exit 0) oY y) (iL t7 t8 k t9):=by
 rcases aT h with⟨c1,h⟩|⟨c1,h⟩
 ·obtain⟨x2,bx2,h⟩:=aw h
  obtain⟨r3,br3,h⟩:=aw h
  obtain rfl:=lf h
  have z:=sg 0 c1<|sv (d5.ia (k:=.i64) bx2)<|sv (bh x2)<|sx jh<|sx (db x2)<|sv (bz x2 [])<|ba (hR3 _ _ br3)<|pg 0 .normal (iL t7 t8 (bA (k+r3)) (bA (t9+1))) rfl (cF (aI trivial (aI (up (am al t7)) (aI trivial (aI trivial trivial))))) (aI trivial trivial)
  exact cz (A:=SQ) mixed z<|by kernel_rfl
 ·obtain rfl:=lf h
  have z:=sg 0 c1<|eF (.exit 0) (oY k)
  exact gf SQ (by intro hx;cases hx) z<|by kernel_rfl
theorem Db(hR3:uF R3){x:Int}(h:tf R3 t7 t8 k t9=some x):aB Pg GE 0 (.loop (cA S7 119)) (EX (.exit 0) (oY x)) (iL t7 t8 k t9):=
 aB.loop (S:=fun(zz:Int×Int)=>iL t7 t8 zz.1 zz.2) (ex:=(fun _=>.exit 0)) (s:=(k,t9)) h fun zz y hy=>Bp R3 t7 t8 zz.1 zz.2 hR3 hy
end
def qb(R3:qa)(t:ae):Option Int:=
 (tf R3 t.Args (t.Args.length:Int) 1 0).bind fun o4=>
 some o4
theorem Gn(R3:qa)(hR3:uF R3){t:ae}{r:Int}(h:qb R3 t=some r):CC Pg GE 42 [.agg (af t)] (.int .i64 r) []:=by
 obtain⟨o4,bo4,h⟩:=aw h
 obtain rfl:=lf h
 have z:=se (bQ t)<|sv (aK t)<|sv (aL t)<|cD (d5.ln t.Args)<|cC (Db R3 t.Args (t.Args.length:Int) 1 0 hR3 bo4)<|en (aI (rP (.int .i64 o4))<|trivial)
 exact b7 SQ call42 func42 (c:=S7) rfl (aI (al t) trivial) z<|by kernel_rfl
def u9:(ae->Option Int)->(ae)->Option Int:=fun(rec:ae->Option Int) (x:ae)=>qb (fun t=>rec t) x
def Bo(t:ae):Option Int:=nw u9 t
theorem HT{t:ae}{r:Int}(h:Bo t=some r):CC Pg GE 42 [.agg (af t)] (.int .i64 r) []:=
 cT (F:=u9) (M:=fun(x:ae) (r:Int)=>CC Pg GE 42 [.agg (af x)] (.int .i64 r) []) (fun rec hrec x r h=>Gn _ (fun t r h=>hrec t r h) h) h
abbrev pZ:=(aa->Option Int)
abbrev uE(R:pZ):Prop:=∀(p:aa) (r:Int),R p=some r->CC Pg GE 17 [.agg (ac p)] (.int .i64 r) []
noncomputable def S5:Code:=f17.body.getD .skip
def SP:List Nat:=[18]
section
variable(R4:pZ)(t7:waB)(t8:Int)(n:Int)(t9:Int)
def iG:av:=aN 19 [(3,.int .i64 n),(7,sl ac t7),(8,.int .i64 t8),(9,.int .i64 t9)] [.dead] []
def oP(o:Int):av:=aN 19 [(3,.int .i64 o)] [.dead] []
def kU:Option ((Int×Int)⊕(Int)):=
 if(decide (t9<t8))=true then
  (dv t7 t9).bind fun x2=>
  (R4 x2).bind fun r3=>
  some (.inl (bA (n+r3),bA (t9+1)))
 else
  some (.inr n)
def sU:Option Int:=loop (fun(zz:Int×Int)=>kU R4 t7 t8 zz.1 zz.2) (n,t9)
theorem Bj(hR4:uE R4){y:(Int×Int)⊕(Int)}(h:kU R4 t7 t8 n t9=some y):aB Pg GE 0 (cA S5 119) (LQ (fun(zz:Int×Int)=>iG t7 t8 zz.1 zz.2) (fun _=>.exit 0) oP y) (iG t7 t8 n t9):=by
 rcases aT h with⟨c1,h⟩|⟨c1,h⟩
 ·obtain⟨x2,bx2,h⟩:=aw h
  obtain⟨r3,br3,h⟩:=aw h
  obtain rfl:=lf h
  have z:=sg 0 c1<|sv (aR.ia (k:=.i64) bx2)<|sv (az x2)<|sx eX<|sx (bv x2)<|sv (aX x2 [])<|ba (hR4 _ _ br3)<|pg 0 .normal (iG t7 t8 (bA (n+r3)) (bA (t9+1))) rfl (cF (aI trivial (aI (up (am ah t7)) (aI trivial (aI trivial trivial))))) (aI trivial trivial)
  exact cz (A:=SP) mixed z<|by kernel_rfl
 ·obtain rfl:=lf h
  have z:=sg 0 c1<|eF (.exit 0) (oP n)
  exact gf SP (by intro hx;cases hx) z<|by kernel_rfl
theorem C2(hR4:uE R4){x:Int}(h:sU R4 t7 t8 n t9=some x):aB Pg GE 0 (.loop (cA S5 119)) (EX (.exit 0) (oP x)) (iG t7 t8 n t9):=
 aB.loop (S:=fun(zz:Int×Int)=>iG t7 t8 zz.1 zz.2) (ex:=(fun _=>.exit 0)) (s:=(n,t9)) h fun zz y hy=>Bj R4 t7 t8 zz.1 zz.2 hR4 hy
end
def pW(R4:pZ)(p:aa):Option Int:=
 (sU R4 p.Kids (p.Kids.length:Int) 1 0).bind fun o4=>
 some o4
theorem Gh(R4:pZ)(hR4:uE R4){p:aa}{r:Int}(h:pW R4 p=some r):CC Pg GE 17 [.agg (ac p)] (.int .i64 r) []:=by
 obtain⟨o4,bo4,h⟩:=aw h
 obtain rfl:=lf h
 have z:=se (bM p)<|sv (aF p)<|sv (aH p)<|cD (aR.ln p.Kids)<|cC (C2 R4 p.Kids (p.Kids.length:Int) 1 0 hR4 bo4)<|en (aI (rP (.int .i64 o4))<|trivial)
 exact b7 SP call17 func17 (c:=S5) rfl (aI (ah p) trivial) z<|by kernel_rfl
def uO:(aa->Option Int)->(aa)->Option Int:=fun(rec:aa->Option Int) (x:aa)=>pW (fun p=>rec p) x
def rr(p:aa):Option Int:=nw uO p
theorem sV{p:aa}{r:Int}(h:rr p=some r):CC Pg GE 17 [.agg (ac p)] (.int .i64 r) []:=
 cT (F:=uO) (M:=fun(x:aa) (r:Int)=>CC Pg GE 17 [.agg (ac x)] (.int .i64 r) []) (fun rec hrec x r h=>Gh _ (fun p r h=>hrec p r h) h) h
noncomputable def b8:Code:=Tryz.f8.body.getD .skip
def A8:List Nat:=[]
section
variable(R2:rx)(t7:waC)(t8:Int)(t9:Int)(m:Int)(m2:ag)(m3:waC)(m4:waA)(m5:Int)(m6:ag)(m7:Int)(m8:waB)(m9:waB)
def HV:av:=aN 52 [(4,.bptr 0 0),(7,sl af t7),(8,.int .i64 t8),(9,.int .i64 t9)] [.cells [.int .i64 m,.str m2,sl af m3,sl cS m4,.int .i64 m5,.str m6,.int .i64 m7,sl ac m8,sl ac m9] []] []
def ja(o:Bool):av:=aN 52 [(4,.bptr 0 0),(7,sl af t7),(8,.int .i64 t8),(9,.int .i64 t9),(39,.bool o)] [.cells [.int .i64 m,.str m2,sl af m3,sl cS m4,.int .i64 m5,.str m6,.int .i64 m7,sl ac m8,sl ac m9] []] []
def yB:Option Bool:=
 (Bo (⟨m,m2,m3,m4,(⟨m5,m6,m7,m8⟩:aa),m9⟩:ae)).bind fun r3=>
 if(decide (r3>40))=true then
  some true
 else
  (rr (⟨m5,m6,m7,m8⟩:aa)).bind fun r6=>
  if(decide (r6>60))=true then
   some true
  else
   if(decide ((m4.length:Int)>20))=true then
    some true
   else
    if(decide ((m9.length:Int)>20))=true then
     some true
    else
     (R2 m3).bind fun r13=>
     some (!r13)
theorem Gp(hR2:wk R2){x:Bool}(h:yB R2 m m2 m3 m4 m5 m6 m7 m8 m9=some x):aB Pg GE 0 (cA b8 7148) (EX .normal (ja t7 t8 t9 m m2 m3 m4 m5 m6 m7 m8 m9 x)) (HV t7 t8 t9 m m2 m3 m4 m5 m6 m7 m8 m9):=by
 obtain⟨r3,br3,h⟩:=aw h
 have p5:=fun{sc F} (r:PS sc F)=>sv (bz (⟨m,m2,m3,m4,(⟨m5,m6,m7,m8⟩:aa),m9⟩:ae) [])<|ba (HT br3)<|r
 rcases aT h with⟨c4,h⟩|⟨c4,h⟩
 ·obtain rfl:=lf h
  exact co A8 (p5<|sg 4 c4<|eF .normal (ja t7 t8 t9 m m2 m3 m4 m5 m6 m7 m8 m9 true))<|by kernel_rfl
 ·obtain⟨r6,br6,h⟩:=aw h
  have p8:=fun{sc F} (r:PS sc F)=>p5<|sg 4 c4<|sv (aX (⟨m5,m6,m7,m8⟩:aa) [sl ac m9])<|ba (sV br6)<|r
  rcases aT h with⟨c7,h⟩|⟨c7,h⟩
  ·obtain rfl:=lf h
   exact co A8 (p8<|sg 10 c7<|eF .normal (ja t7 t8 t9 m m2 m3 m4 m5 m6 m7 m8 m9 true))<|by kernel_rfl
  ·have p10:=fun{sc F} (r:PS sc F)=>p8<|sg 10 c7<|ss<|cD (aW.ln m4)<|r
   rcases aT h with⟨c9,h⟩|⟨c9,h⟩
   ·obtain rfl:=lf h
    exact co A8 (p10<|sg 16 c9<|eF .normal (ja t7 t8 t9 m m2 m3 m4 m5 m6 m7 m8 m9 true))<|by kernel_rfl
   ·have p12:=fun{sc F} (r:PS sc F)=>p10<|sg 16 c9<|ss<|cD (aR.ln m9)<|r
    rcases aT h with⟨c11,h⟩|⟨c11,h⟩
    ·obtain rfl:=lf h
     exact co A8 (p12<|sg 22 c11<|eF .normal (ja t7 t8 t9 m m2 m3 m4 m5 m6 m7 m8 m9 true))<|by kernel_rfl
    ·obtain⟨r13,br13,h⟩:=aw h
     obtain rfl:=lf h
     exact co A8 (p12<|sg 22 c11<|ss<|ba (hR2 _ _ br13)<|eF .normal (ja t7 t8 t9 m m2 m3 m4 m5 m6 m7 m8 m9 (!r13)))<|by kernel_rfl
end
section
variable(t7:waC)(t8:Int)(t9:Int)(t41:waB)(t42:Int)(m:Int)(m2:ag)(m3:waC)(m4:waA)(m5:Int)(m6:ag)(m7:Int)(m8:waB)(t43:Int)
def lj:av:=aN 52 [(7,sl af t7),(8,.int .i64 t8),(9,.int .i64 t9),(41,sl ac t41),(42,.int .i64 t42),(43,.int .i64 t43)] [.cells [.int .i64 m,.str m2,sl af m3,sl cS m4,.int .i64 m5,.str m6,.int .i64 m7,sl ac m8,sl ac t41] []] []
def lk(o:Unit⊕(Unit)):Exit:=match o with
 |(.inl _)=>.ret
 |(.inr _)=>.exit 2
def jc(o:Unit⊕(Unit)):av:=match o with
 |(.inl o)=>aN 52 [(2,.bool false)] [.cells [.int .i64 m,.str m2,sl af m3,sl cS m4,.int .i64 m5,.str m6,.int .i64 m7,sl ac m8,sl ac t41] []] []
 |(.inr o)=>aN 52 [(7,sl af t7),(8,.int .i64 t8),(9,.int .i64 t9)] [.cells [.int .i64 m,.str m2,sl af m3,sl cS m4,.int .i64 m5,.str m6,.int .i64 m7,sl ac m8,sl ac t41] []] []
def zF:Option (Int⊕(Unit⊕(Unit))):=
 if(decide (t43<t42))=true then
  (dv t41 t43).bind fun x18=>
  (rr x18).bind fun r19=>
  if(decide (r19>60))=true then
   some (.inr (.inl ()))
  else
   some (.inl (bA (t43+1)))
 else
  some (.inr (.inr ()))
def yD:Option (Unit⊕(Unit)):=loop (fun(zz:Int)=>zF t41 t42 zz) t43
theorem Ej{y:Int⊕(Unit⊕(Unit))}(h:zF t41 t42 t43=some y):aB Pg GE 0 (cA b8 28607) (LQ (fun(zz:Int)=>lj t7 t8 t9 t41 t42 m m2 m3 m4 m5 m6 m7 m8 zz) lk (jc t7 t8 t9 t41 m m2 m3 m4 m5 m6 m7 m8) y) (lj t7 t8 t9 t41 t42 m m2 m3 m4 m5 m6 m7 m8 t43):=by
 rcases aT h with⟨c17,h⟩|⟨c17,h⟩
 ·obtain⟨x18,bx18,h⟩:=aw h
  obtain⟨r19,br19,h⟩:=aw h
  have p21:=fun{sc F} (r:PS sc F)=>sg 0 c17<|sv (aR.ia (k:=.i64) bx18)<|sv (az x18)<|sx eX<|sx (bv x18)<|sv (aX x18 [])<|ba (sV br19)<|r
  rcases aT h with⟨c20,h⟩|⟨c20,h⟩
  ·obtain rfl:=lf h
   have z:=p21<|sg 0 c20<|pg 0 (lk (.inl ())) (jc t7 t8 t9 t41 m m2 m3 m4 m5 m6 m7 m8 (.inl ())) rfl (cF (aI trivial trivial)) (aI (aI trivial (aI trivial (aI (up (am al m3)) (aI (up (am dS m4)) (aI trivial (aI trivial (aI trivial (aI (up (am ah m8)) (aI (up (am ah t41)) trivial))))))))) trivial)
   exact tE (A:=A8) mixed (by intro hx;cases hx) z<|by kernel_rfl
  ·obtain rfl:=lf h
   have z:=p21<|sg 0 c20<|pg 0 .normal (lj t7 t8 t9 t41 t42 m m2 m3 m4 m5 m6 m7 m8 (bA (t43+1))) rfl (cF (aI (up (am al t7)) (aI trivial (aI trivial (aI (up (am ah t41)) (aI trivial (aI trivial trivial))))))) (aI (aI trivial (aI trivial (aI (up (am al m3)) (aI (up (am dS m4)) (aI trivial (aI trivial (aI trivial (aI (up (am ah m8)) (aI (up (am ah t41)) trivial))))))))) trivial)
   exact cz (A:=A8) mixed z<|by kernel_rfl
 ·obtain rfl:=lf h
  have z:=sg 0 c17<|eF (lk (.inr ())) (jc t7 t8 t9 t41 m m2 m3 m4 m5 m6 m7 m8 (.inr ()))
  exact gf A8 (by intro hx;cases hx) z<|by kernel_rfl
theorem xl{x:Unit⊕(Unit)}(h:yD t41 t42 t43=some x):aB Pg GE 0 (.loop (cA b8 28607)) (EX (lk x) (jc t7 t8 t9 t41 m m2 m3 m4 m5 m6 m7 m8 x)) (lj t7 t8 t9 t41 t42 m m2 m3 m4 m5 m6 m7 m8 t43):=
 aB.loop (S:=fun(zz:Int)=>lj t7 t8 t9 t41 t42 m m2 m3 m4 m5 m6 m7 m8 zz) (ex:=lk) (s:=t43) h fun zz y hy=>Ej t7 t8 t9 t41 t42 m m2 m3 m4 m5 m6 m7 m8 zz hy
end
section
variable(R2:rx)(t7:waC)(t8:Int)(t9:Int)
def li:av:=aN 52 [(7,sl af t7),(8,.int .i64 t8),(9,.int .i64 t9)] [] []
def jb(o:Unit⊕(Unit)):Exit:=match o with
 |(.inl _)=>.ret
 |(.inr _)=>.exit 0
def gu(o:Unit⊕(Unit)):av:=match o with
 |(.inl o)=>aN 52 [(2,.bool false)] [] []
 |(.inr o)=>aN 52 [] [] []
def zE:Option (Int⊕(Unit⊕(Unit))):=
 if (decide (t9 < t8)) = true then
  (dv t7 t9).bind fun x2=>
  (yB R2 x2.Op x2.Name x2.Args x2.Names x2.Pred.Op x2.Pred.Name x2.Pred.N x2.Pred.Kids x2.Preds).bind fun o14=>
  if o14=true then
   some (.inr (.inl ()))
  else
   (yD x2.Preds (x2.Preds.length:Int) 0).bind fun o22=>match o22 with
   |(.inl o22)=>
    some (.inr (.inl ()))
   |(.inr o22)=>
    some (.inl (bA (t9+1)))
 else
  some (.inr (.inr ()))
def yC:Option (Unit⊕(Unit)):=loop (fun(zz:Int)=>zE R2 t7 t8 zz) t9
theorem Ei(hR2:wk R2){y:Int⊕(Unit⊕(Unit))}(h:zE R2 t7 t8 t9=some y):aB Pg GE 0 (cA b8 55) (LQ (fun(zz:Int)=>li t7 t8 zz) jb gu y) (li t7 t8 t9):=by
 rcases aT h with⟨c1,h⟩|⟨c1,h⟩
 ·obtain⟨x2,bx2,h⟩:=aw h
  obtain⟨o14,bo14,h⟩:=aw h
  have p16:=fun{sc F} (r:PS sc F)=>sg 0 c1<|sv (d5.ia (k:=.i64) bx2)<|sv (bh x2)<|sx jh<|sx (db x2)<|kK 1<|cC (Gp R2 t7 t8 t9 x2.Op x2.Name x2.Args x2.Names x2.Pred.Op x2.Pred.Name x2.Pred.N x2.Pred.Kids x2.Preds hR2 bo14)<|r
  rcases aT h with⟨c15,h⟩|⟨c15,h⟩
  ·obtain rfl:=lf h
   have z:=p16<|sg 0 c15<|pg 0 (jb (.inl ())) (gu (.inl ())) rfl (cF (aI trivial trivial)) trivial
   exact tE (A:=A8) mixed (by intro hx;cases hx) z<|by kernel_rfl
  ·obtain⟨o22,bo22,h⟩:=aw h
   rcases o22 with o22|o22
   ·obtain rfl:=lf h
    have z:=p16<|sg 0 c15<|ss<|cD (aR.ln x2.Preds)<|cC (e:=.ret) (s1:=jc t7 t8 t9 x2.Preds x2.Op x2.Name x2.Args x2.Names x2.Pred.Op x2.Pred.Name x2.Pred.N x2.Pred.Kids (.inl o22)) (xl t7 t8 t9 x2.Preds (x2.Preds.length:Int) x2.Op x2.Name x2.Args x2.Names x2.Pred.Op x2.Pred.Name x2.Pred.N x2.Pred.Kids 0 bo22)<|pg 0 (jb (.inl ())) (gu (.inl ())) rfl (cF (aI trivial trivial)) trivial
    exact tE (A:=A8) mixed (by intro hx;cases hx) z<|by kernel_rfl
   ·obtain rfl:=lf h
    have z:=p16<|sg 0 c15<|ss<|cD (aR.ln x2.Preds)<|cC (e:=.exit 2) (s1:=jc t7 t8 t9 x2.Preds x2.Op x2.Name x2.Args x2.Names x2.Pred.Op x2.Pred.Name x2.Pred.N x2.Pred.Kids (.inr o22)) (xl t7 t8 t9 x2.Preds (x2.Preds.length:Int) x2.Op x2.Name x2.Args x2.Names x2.Pred.Op x2.Pred.Name x2.Pred.N x2.Pred.Kids 0 bo22)<|pg 0 .normal (li t7 t8 (bA (t9+1))) rfl (cF (aI (up (am al t7)) (aI trivial (aI trivial trivial)))) trivial
    exact cz (A:=A8) mixed z<|by kernel_rfl
 ·obtain rfl:=lf h
  have z:=sg 0 c1<|eF (jb (.inr ())) (gu (.inr ()))
  exact gf A8 (by intro hx;cases hx) z<|by kernel_rfl
theorem xk(hR2:wk R2){x:Unit⊕(Unit)}(h:yC R2 t7 t8 t9=some x):aB Pg GE 0 (.loop (cA b8 55)) (EX (jb x) (gu x)) (li t7 t8 t9):=
 aB.loop (S:=fun(zz:Int)=>li t7 t8 zz) (ex:=jb) (s:=t9) h fun zz y hy=>Ei R2 t7 t8 zz hR2 hy
end
def wr(R2:rx)(a:waC):Option Bool:=
 (yC R2 a (a.length:Int) 0).bind fun o23=>match o23 with
 |(.inl o23)=>
  some false
 |(.inr o23)=>
  some true
theorem I7(R2:rx)(hR2:wk R2){a:waC}{r:Bool}(h:wr R2 a=some r):CC Pg GE 8 [sl af a] (.bool r) []:=by
 obtain⟨o23,bo23,h⟩:=aw h
 rcases o23 with o23|o23
 ·obtain rfl:=lf h
  have z:=cD (d5.ln a)<|cC (e:=.ret) (s1:=gu (.inl o23)) (xk R2 a (a.length:Int) 0 hR2 bo23)<|en (aI (rP (.bool false))<|trivial)
  exact b7 A8 call8 func8 (c:=b8) rfl (aI (am al a) trivial) z<|by kernel_rfl
 ·obtain rfl:=lf h
  have z:=cD (d5.ln a)<|cC (e:=.exit 0) (s1:=gu (.inr o23)) (xk R2 a (a.length:Int) 0 hR2 bo23)<|en (aI (rP (.bool true))<|trivial)
  exact b7 A8 call8 func8 (c:=b8) rfl (aI (am al a) trivial) z<|by kernel_rfl
def Bq:(waC->Option Bool)->(waC)->Option Bool:=fun(rec:waC->Option Bool) (x:waC)=>wr (fun a=>rec a) x
def HU(a:waC):Option Bool:=nw Bq a
theorem Kl{a:waC}{r:Bool}(h:HU a=some r):CC Pg GE 8 [sl af a] (.bool r) []:=
 cT (F:=Bq) (M:=fun(x:waC) (r:Bool)=>CC Pg GE 8 [sl af x] (.bool r) []) (fun rec hrec x r h=>I7 _ (fun a r h=>hrec a r h) h) h
abbrev nU:=(ae->Option Bool)
abbrev sI(R:nU):Prop:=∀(t:ae) (r:Bool),R t=some r->CC Pg GE 9 [.agg (af t)] (.bool r) []
noncomputable def b9:Code:=Tryz.f9.body.getD .skip
def A9:List Nat:=[23,27,46]
section
variable(t:ae)(i:Int)(t20:Int)(t25:Int)
def gC:av:=aN 55 [(1,.eptr (af t)),(3,.int .i64 i),(20,.int .i64 t20),(21,.int .i64 i),(24,.int .i64 i),(25,.int .i64 t25)] [.dead] []
def gD(o:Unit⊕(Unit)):Exit:=match o with
 |(.inl _)=>.ret
 |(.inr _)=>.exit 2
def ff(o:Unit⊕(Unit)):av:=match o with
 |(.inl o)=>aN 55 [(2,.bool false)] [.dead] []
 |(.inr o)=>aN 55 [(1,.eptr (af t)),(20,.int .i64 t20),(21,.int .i64 i)] [.dead] []
def j4:Option (Int⊕(Unit⊕(Unit))):=
 if(decide (t25<i))=true then
  (dv t.Names i).bind fun x7=>
  (dv t.Names t25).bind fun x8=>
  if(x7==x8)=true then
   some (.inr (.inl ()))
  else
   some (.inl (bA (t25+1)))
 else
  some (.inr (.inr ()))
def qV:Option (Unit⊕(Unit)):=loop (fun(zz:Int)=>j4 t i zz) t25
theorem zH{y:Int⊕(Unit⊕(Unit))}(h:j4 t i t25=some y):aB Pg GE 0 (cA b9 110559) (LQ (fun(zz:Int)=>gC t i t20 zz) gD (ff t i t20) y) (gC t i t20 t25):=by
 rcases aT h with⟨c6,h⟩|⟨c6,h⟩
 ·obtain⟨x7,bx7,h⟩:=aw h
  obtain⟨x8,bx8,h⟩:=aw h
  have p10:=fun{sc F} (r:PS sc F)=>sg 0 c6<|rp [0,1,0,7,15,0,32,0,224,480,1023]<|sv (aC t)<|sv (aD t)<|sv (aW.ia (k:=.i64) bx7)<|sv (cP xe (.str x7) [])<|sv (aC t)<|sv (aD t)<|sv (aW.ia (k:=.i64) bx8)<|sv (cP xe (.str x8) [])<|r
  rcases aT h with⟨c9,h⟩|⟨c9,h⟩
  ·obtain rfl:=lf h
   have z:=p10<|sg 0 c9<|eF (gD (.inl ())) (ff t i t20 (.inl ()))
   exact gf A9 (by intro hx;cases hx) z<|by kernel_rfl
  ·obtain rfl:=lf h
   exact rY A9 (p10<|sg 0 c9<|eF .normal (gC t i t20 (bA (t25+1))))<|by kernel_rfl
 ·obtain rfl:=lf h
  have z:=sg 0 c6<|eF (gD (.inr ())) (ff t i t20 (.inr ()))
  exact gf A9 (by intro hx;cases hx) z<|by kernel_rfl
theorem rD{x:Unit⊕(Unit)}(h:qV t i t25=some x):aB Pg GE 0 (.loop (cA b9 110559)) (EX (gD x) (ff t i t20 x)) (gC t i t20 t25):=
 aB.loop (S:=fun(zz:Int)=>gC t i t20 zz) (ex:=gD) (s:=t25) h fun zz y hy=>zH t i t20 zz hy
end
section
variable(t:ae)(t20:Int)(t21:Int)
def gA:av:=aN 55 [(1,.eptr (af t)),(20,.int .i64 t20),(21,.int .i64 t21)] [.dead] []
def gB(o:Unit⊕(Unit)):Exit:=match o with
 |(.inl _)=>.ret
 |(.inr _)=>.exit 0
def fe(o:Unit⊕(Unit)):av:=match o with
 |(.inl o)=>aN 55 [(2,.bool false)] [.dead] []
 |(.inr o)=>aN 55 [(1,.eptr (af t))] [.dead] []
def j3:Option (Int⊕(Unit⊕(Unit))):=
 if(decide (t21<t20))=true then
  (qV t t21 0).bind fun o11=>match o11 with
  |(.inl o11)=>
   some (.inr (.inl ()))
  |(.inr o11)=>
   some (.inl (bA (t21+1)))
 else
  some (.inr (.inr ()))
def qU:Option (Unit⊕(Unit)):=loop (fun(zz:Int)=>j3 t t20 zz) t21
theorem zG{y:Int⊕(Unit⊕(Unit))}(h:j3 t t20 t21=some y):aB Pg GE 0 (cA b9 431) (LQ (fun(zz:Int)=>gA t t20 zz) gB (fe t) y) (gA t t20 t21):=by
 rcases aT h with⟨c5,h⟩|⟨c5,h⟩
 ·obtain⟨o11,bo11,h⟩:=aw h
  rcases o11 with o11|o11
  ·obtain rfl:=lf h
   have z:=sg 0 c5<|cC (e:=.ret) (s1:=ff t t21 t20 (.inl o11)) (rD t t21 t20 0 bo11)<|eF (gB (.inl ())) (fe t (.inl ()))
   exact gf A9 (by intro hx;cases hx) z<|by kernel_rfl
  ·obtain rfl:=lf h
   exact rY A9 (sg 0 c5<|cC (e:=.exit 2) (s1:=ff t t21 t20 (.inr o11)) (rD t t21 t20 0 bo11)<|eF .normal (gA t t20 (bA (t21+1))))<|by kernel_rfl
 ·obtain rfl:=lf h
  have z:=sg 0 c5<|eF (gB (.inr ())) (fe t (.inr ()))
  exact gf A9 (by intro hx;cases hx) z<|by kernel_rfl
theorem rC{x:Unit⊕(Unit)}(h:qU t t20 t21=some x):aB Pg GE 0 (.loop (cA b9 431)) (EX (gB x) (fe t x)) (gA t t20 t21):=
 aB.loop (S:=fun(zz:Int)=>gA t t20 zz) (ex:=gB) (s:=t21) h fun zz y hy=>zG t t20 zz hy
end
section
variable(t:ae)
def Dc:av:=aN 55 [(1,.eptr (af t))] [.dead] []
def gz(o:Unit⊕(Unit)):Exit:=match o with
 |(.inl _)=>.ret
 |(.inr _)=>.normal
def dK(o:Unit⊕(Unit)):av:=match o with
 |(.inl o)=>aN 55 [(2,.bool false)] [.dead] []
 |(.inr o)=>aN 55 [(1,.eptr (af t))] [.dead] []
def qT:Option (Unit⊕(Unit)):=
 if (t.Op == 6) = true then
  if(decide ((t.Names.length:Int)>(if 0>(bA ((t.Args.length:Int) - 1))then 0 else bA ((t.Args.length:Int) - 1))))=true then
   some (.inl ())
  else
   (qU t (t.Names.length:Int) 0).bind fun o12=>match o12 with
   |(.inl o12)=>
    some (.inl ())
   |(.inr o12)=>
    some (.inr ())
 else
  some (.inr ())
theorem ml{x:Unit⊕(Unit)}(h:qT t=some x):aB Pg GE 0 (cA b9 6) (EX (gz x) (dK t x)) (Dc t):=by
 have p2:=fun{sc F} (r:PS sc F)=>sv (aG t)<|sv (aJ t)<|r
 rcases aT h with⟨c1,h⟩|⟨c1,h⟩
 ·have p4:=fun{sc F} (r:PS sc F)=>p2<|sg 0 c1<|sv (aC t)<|sv (aD t)<|cD (aW.ln t.Names)<|sv (aK t)<|sv (aL t)<|cD (d5.ln t.Args)<|r
  rcases aT h with⟨c3,h⟩|⟨c3,h⟩
  ·obtain rfl:=lf h
   exact co A9 (p4<|sg 0 c3<|eF (gz (.inl ())) (dK t (.inl ())))<|by kernel_rfl
  ·obtain⟨o12,bo12,h⟩:=aw h
   rcases o12 with o12|o12
   ·obtain rfl:=lf h
    exact co A9 (p4<|sg 0 c3<|sv (aC t)<|sv (aD t)<|cD (aW.ln t.Names)<|cC (e:=.ret) (s1:=fe t (.inl o12)) (rC t (t.Names.length:Int) 0 bo12)<|eF (gz (.inl ())) (dK t (.inl ())))<|by kernel_rfl
   ·obtain rfl:=lf h
    exact co A9 (p4<|sg 0 c3<|sv (aC t)<|sv (aD t)<|cD (aW.ln t.Names)<|cC (e:=.exit 0) (s1:=fe t (.inr o12)) (rC t (t.Names.length:Int) 0 bo12)<|eF (gz (.inr ())) (dK t (.inr ())))<|by kernel_rfl
 ·obtain rfl:=lf h
  exact co A9 (p2<|sg 0 c1<|eF (gz (.inr ())) (dK t (.inr ())))<|by kernel_rfl
end
section
variable(R5:nU)(t:ae)(t43:Int)(t44:Int)
def gE:av:=aN 55 [(1,.eptr (af t)),(43,.int .i64 t43),(44,.int .i64 t44)] [.dead] []
def gG(o:Unit⊕(Unit)):Exit:=match o with
 |(.inl _)=>.ret
 |(.inr _)=>.exit 4
def fg(o:Unit⊕(Unit)):av:=match o with
 |(.inl o)=>aN 55 [(2,.bool false)] [.dead] []
 |(.inr o)=>aN 55 [] [.dead] []
def j5:Option (Int⊕(Unit⊕(Unit))):=
 if(decide (t44<t43))=true then
  (dv t.Args t44).bind fun x15=>
  (R5 x15).bind fun r16=>
  if(!r16)=true then
   some (.inr (.inl ()))
  else
   some (.inl (bA (t44+1)))
 else
  some (.inr (.inr ()))
def qW:Option (Unit⊕(Unit)):=loop (fun(zz:Int)=>j5 R5 t t43 zz) t44
theorem zI(hR5:sI R5){y:Int⊕(Unit⊕(Unit))}(h:j5 R5 t t43 t44=some y):aB Pg GE 0 (cA b9 119) (LQ (fun(zz:Int)=>gE t t43 zz) gG fg y) (gE t t43 t44):=by
 rcases aT h with⟨c14,h⟩|⟨c14,h⟩
 ·obtain⟨x15,bx15,h⟩:=aw h
  obtain⟨r16,br16,h⟩:=aw h
  have p18:=fun{sc F} (r:PS sc F)=>sg 0 c14<|sv (aK t)<|sv (aL t)<|sv (d5.ia (k:=.i64) bx15)<|sv (bh x15)<|ba (hR5 _ _ br16)<|r
  rcases aT h with⟨c17,h⟩|⟨c17,h⟩
  ·obtain rfl:=lf h
   have z:=p18<|sg 0 c17<|eF (gG (.inl ())) (fg (.inl ()))
   exact gf A9 (by intro hx;cases hx) z<|by kernel_rfl
  ·obtain rfl:=lf h
   exact rY A9 (p18<|sg 0 c17<|eF .normal (gE t t43 (bA (t44+1))))<|by kernel_rfl
 ·obtain rfl:=lf h
  have z:=sg 0 c14<|eF (gG (.inr ())) (fg (.inr ()))
  exact gf A9 (by intro hx;cases hx) z<|by kernel_rfl
theorem rE(hR5:sI R5){x:Unit⊕(Unit)}(h:qW R5 t t43 t44=some x):aB Pg GE 0 (.loop (cA b9 119)) (EX (gG x) (fg x)) (gE t t43 t44):=
 aB.loop (S:=fun(zz:Int)=>gE t t43 zz) (ex:=gG) (s:=t44) h fun zz y hy=>zI R5 t t43 zz hR5 hy
end
def nZ(R5:nU)(t:ae):Option Bool:=
 (qT t).bind fun o13=>match o13 with
 |(.inl o13)=>
  some false
 | (.inr o13) =>
  (qW R5 t (t.Args.length:Int) 0).bind fun o19=>match o19 with
  |(.inl o19)=>
   some false
  |(.inr o19)=>
   some true
theorem El(R5:nU)(hR5:sI R5){t:ae}{r:Bool}(h:nZ R5 t=some r):CC Pg GE 9 [.agg (af t)] (.bool r) []:=by
 obtain⟨o13,bo13,h⟩:=aw h
 rcases o13 with o13|o13
 ·obtain rfl:=lf h
  have z:=se (bQ t)<|kK 0<|cC (e:=.ret) (s1:=dK t (.inl o13)) (ml t bo13)<|en (aI (rP (.bool false))<|trivial)
  exact b7 A9 call9 func9 (c:=b9) rfl (aI (al t) trivial) z<|by kernel_rfl
 ·obtain⟨o19,bo19,h⟩:=aw h
  rcases o19 with o19|o19
  ·obtain rfl:=lf h
   have z:=se (bQ t)<|kK 0<|cC (e:=.normal) (s1:=dK t (.inr o13)) (ml t bo13)<|sv (aK t)<|sv (aL t)<|cD (d5.ln t.Args)<|cC (e:=.ret) (s1:=fg (.inl o19)) (rE R5 t (t.Args.length:Int) 0 hR5 bo19)<|en (aI (rP (.bool false))<|trivial)
   exact b7 A9 call9 func9 (c:=b9) rfl (aI (al t) trivial) z<|by kernel_rfl
  ·obtain rfl:=lf h
   have z:=se (bQ t)<|kK 0<|cC (e:=.normal) (s1:=dK t (.inr o13)) (ml t bo13)<|sv (aK t)<|sv (aL t)<|cD (d5.ln t.Args)<|cC (e:=.exit 4) (s1:=fg (.inr o19)) (rE R5 t (t.Args.length:Int) 0 hR5 bo19)<|en (aI (rP (.bool true))<|trivial)
   exact b7 A9 call9 func9 (c:=b9) rfl (aI (al t) trivial) z<|by kernel_rfl
def tg:(ae->Option Bool)->(ae)->Option Bool:=fun(rec:ae->Option Bool) (x:ae)=>nZ (fun t=>rec t) x
def yF(t:ae):Option Bool:=nw tg t
theorem Gq{t:ae}{r:Bool}(h:yF t=some r):CC Pg GE 9 [.agg (af t)] (.bool r) []:=
 cT (F:=tg) (M:=fun(x:ae) (r:Bool)=>CC Pg GE 9 [.agg (af x)] (.bool r) []) (fun rec hrec x r h=>El _ (fun t r h=>hrec t r h) h) h
noncomputable def Sx:Code:=f10.body.getD .skip
def Rm:List Nat:=[]
section
variable(v:waB)(t6:Int)(t7:Int)
def iM:av:=aN 18 [(0,sl ac v),(5,sl ac v),(6,.int .i64 t6),(7,.int .i64 t7)] [] []
def iN(o:Unit⊕(Unit)):Exit:=match o with
 |(.inl _)=>.ret
 |(.inr _)=>.exit 0
def fY(o:Unit⊕(Unit)):av:=match o with
 |(.inl o)=>aN 18 [(2,.bool false)] [] []
 |(.inr o)=>aN 18 [(0,sl ac v)] [] []
def vb:Option (Int⊕(Unit⊕(Unit))):=
 if(decide (t7<t6))=true then
  (dv v t7).bind fun x2=>
  (rr x2).bind fun r3=>
  if(decide (r3>30))=true then
   some (.inr (.inl ()))
  else
   some (.inl (bA (t7+1)))
 else
  some (.inr (.inr ()))
def th:Option (Unit⊕(Unit)):=loop (fun(zz:Int)=>vb v t6 zz) t7
theorem Br{y:Int⊕(Unit⊕(Unit))}(h:vb v t6 t7=some y):aB Pg GE 0 (cA Sx 55) (LQ (fun(zz:Int)=>iM v t6 zz) iN (fY v) y) (iM v t6 t7):=by
 rcases aT h with⟨c1,h⟩|⟨c1,h⟩
 ·obtain⟨x2,bx2,h⟩:=aw h
  obtain⟨r3,br3,h⟩:=aw h
  have p5:=fun{sc F} (r:PS sc F)=>sg 0 c1<|sv (aR.ia (k:=.i64) bx2)<|sv (az x2)<|sx eX<|sx (bv x2)<|sv (aX x2 [])<|ba (sV br3)<|r
  rcases aT h with⟨c4,h⟩|⟨c4,h⟩
  ·obtain rfl:=lf h
   have z:=p5<|sg 0 c4<|pg 0 (iN (.inl ())) (fY v (.inl ())) rfl (cF (aI trivial trivial)) trivial
   exact tE (A:=Rm) mixed (by intro hx;cases hx) z<|by kernel_rfl
  ·obtain rfl:=lf h
   have z:=p5<|sg 0 c4<|pg 0 .normal (iM v t6 (bA (t7+1))) rfl (cF (aI (up (am ah v)) (aI (up (am ah v)) (aI trivial (aI trivial trivial))))) trivial
   exact cz (A:=Rm) mixed z<|by kernel_rfl
 ·obtain rfl:=lf h
  have z:=sg 0 c1<|eF (iN (.inr ())) (fY v (.inr ()))
  exact gf Rm (by intro hx;cases hx) z<|by kernel_rfl
theorem tV{x:Unit⊕(Unit)}(h:th v t6 t7=some x):aB Pg GE 0 (.loop (cA Sx 55)) (EX (iN x) (fY v x)) (iM v t6 t7):=
 aB.loop (S:=fun(zz:Int)=>iM v t6 zz) (ex:=iN) (s:=t7) h fun zz y hy=>Br v t6 zz hy
end
def ws(a:waB):Option Bool:=
 (th a (a.length:Int) 0).bind fun o6=>match o6 with
 |(.inl o6)=>
  some false
 |(.inr o6)=>
  some (decide ((a.length:Int)<=8))
theorem HW{a:waB}{r:Bool}(h:ws a=some r):CC Pg GE 10 [sl ac a] (.bool r) []:=by
 obtain⟨o6,bo6,h⟩:=aw h
 rcases o6 with o6|o6
 ·obtain rfl:=lf h
  have z:=cD (aR.ln a)<|cC (e:=.ret) (s1:=fY a (.inl o6)) (tV a (a.length:Int) 0 bo6)<|en (aI (rP (.bool false))<|trivial)
  exact b7 Rm call10 func10 (c:=Sx) rfl (aI (am ah a) trivial) z<|by kernel_rfl
 ·obtain rfl:=lf h
  have z:=cD (aR.ln a)<|cC (e:=.exit 0) (s1:=fY a (.inr o6)) (tV a (a.length:Int) 0 bo6)<|cD (aR.ln a)<|en (aI (rP (.bool (decide ((a.length:Int)<=8))))<|trivial)
  exact b7 Rm call10 func10 (c:=Sx) rfl (aI (am ah a) trivial) z<|by kernel_rfl
noncomputable def UK:Code:=f44.body.getD .skip
def Uv:List Nat:=[]
def mX(s:ag):Option aa:=
 some (⟨3,s,0,([]:List aa)⟩:aa)
theorem ey{s:ag}{r:aa}(h:mX s=some r):CC Pg GE 44 [.str s] (.agg (ac r)) [(3,28)]:=by
 obtain rfl:=lf h
 have z:=sx eX<|sb (lm 3 s) (ll 3 s)<|sy (aE (⟨3,s,0,([]:List aa)⟩:aa))<|en (aI (cQ (⟨3,s,0,([]:List aa)⟩:aa))<|aI (ah (⟨3,s,0,([]:List aa)⟩:aa))<|rT)
 exact b7 Uv call44 func44 (c:=UK) rfl (aI trivial trivial) z<|by kernel_rfl
noncomputable def UL:Code:=f45.body.getD .skip
def Uw:List Nat:=[]
def Ek(k:Int):Option aa:=
 some (⟨1,([]:ag),k,([]:List aa)⟩:aa)
theorem rA{k:Int}{r:aa}(h:Ek k=some r):CC Pg GE 45 [.int .i64 k] (.agg (ac r)) [(3,28)]:=by
 obtain rfl:=lf h
 have z:=sx eX<|sb (od 1 k) (n8 1 k)<|sy (aE (⟨1,([]:ag),k,([]:List aa)⟩:aa))<|en (aI (cQ (⟨1,([]:ag),k,([]:List aa)⟩:aa))<|aI (ah (⟨1,([]:ag),k,([]:List aa)⟩:aa))<|rT)
 exact b7 Uw call45 func45 (c:=UL) rfl (aI trivial trivial) z<|by kernel_rfl
noncomputable def UJ:Code:=f43.body.getD .skip
def Uu:List Nat:=[]
def mj(a:Int)(a2:waB):Option aa:=
 some (⟨a,([]:ag),0,a2⟩:aa)
theorem fc{a:Int}{a2:waB}{r:aa}(h:mj a a2=some r):CC Pg GE 43 [.int .i64 a,sl ac a2] (.agg (ac r)) []:=by
 obtain rfl:=lf h
 have z:=sx eX<|sv (oe a a2)<|sx (bv (⟨a,([]:ag),0,a2⟩:aa))<|en (aI (cQ (⟨a,([]:ag),0,a2⟩:aa))<|(ah (⟨a,([]:ag),0,a2⟩:aa)))
 exact b7 Uu call43 func43 (c:=UJ) rfl (aI trivial (aI (am ah a2) trivial)) z<|by kernel_rfl
noncomputable def UM:Code:=f46.body.getD .skip
def Ux:List Nat:=[]
def gp(p:aa):Option ae:=
 some (⟨1,([]:ag),([]:List ae),([]:List ag),p,([]:List aa)⟩:ae)
theorem eO{p:aa}{r:ae}(h:gp p=some r):CC Pg GE 46 [.agg (ac p)] (.agg (af r)) [(2,30),(3,9),(8,28)]:=by
 obtain rfl:=lf h
 have z:=se (bM p)<|sx jh<|sv (az p)<|sb (H1 1 p) (HZ 1 p)<|sy (aS (⟨1,([]:ag),([]:List ae),([]:List ag),p,([]:List aa)⟩:ae))<|en (aI (cR (⟨1,([]:ag),([]:List ae),([]:List ag),p,([]:List aa)⟩:ae))<|aI (al (⟨1,([]:ag),([]:List ae),([]:List ag),p,([]:List aa)⟩:ae))<|rT)
 exact b7 Ux call46 func46 (c:=UM) rfl (aI (ah p) trivial) z<|by kernel_rfl
noncomputable def UN:Code:=f47.body.getD .skip
def Uy:List Nat:=[]
def DM(name:ag)(result:ae):Option ae:=
 (gp (⟨0,([]:ag),0,([]:List aa)⟩:aa)).bind fun r1=>
 some (⟨6,([]:ag),([r1,result]:List ae),([name]:List ag),(⟨0,([]:ag),0,([]:List aa)⟩:aa),([]:List aa)⟩:ae)
theorem yE{name:ag}{result:ae}{r:ae}(h:DM name result=some r):CC Pg GE 47 [.str name,.agg (af result)] (.agg (af r)) [(7,28),(8,28)]:=by
 obtain⟨r1,br1,h⟩:=aw h
 obtain rfl:=lf h
 have z:=se (bQ result)<|sx jh<|rp [0,1,0,4,0,28,63,127]<|sv (aW.mk' (v:=PVal.str) CE ([name]:List ag) 1 (by kernel_rfl))<|sb (tn) (tk)<|ba (eO br1)<|sv (bh result)<|sv (d5.mk' (v:=tR) oH ([r1,result]:List ae) 2 (by kernel_rfl))<|sb (Eu 6 ([name]:List ag) ([r1,result]:List ae)) (Es 6 ([name]:List ag) ([r1,result]:List ae))<|OG (db (⟨6,([]:ag),([r1,result]:List ae),([name]:List ag),(⟨0,([]:ag),0,([]:List aa)⟩:aa),([]:List aa)⟩:ae))<|en (aI (cR (⟨6,([]:ag),([r1,result]:List ae),([name]:List ag),(⟨0,([]:ag),0,([]:List aa)⟩:aa),([]:List aa)⟩:ae))<|aI (al (⟨6,([]:ag),([r1,result]:List ae),([name]:List ag),(⟨0,([]:ag),0,([]:List aa)⟩:aa),([]:List aa)⟩:ae))<|rT)
 exact b7 Uy call47 func47 (c:=UN) rfl (aI trivial (aI (al result) trivial)) z<|by kernel_rfl
noncomputable def Pa:Code:=f106.body.getD .skip
def Nc:List Nat:=[10,17]
section
variable(s:waA)(v:ag)(t7:Int)(t8:Int)
def fE:av:=aN 19 [(0,sl cS s),(1,.str v),(7,.int .i64 t7),(8,.int .i64 t8)] [] []
def fF(o:Int⊕(Unit)):Exit:=match o with
 |(.inl _)=>.ret
 |(.inr _)=>.exit 0
def ek(o:Int⊕(Unit)):av:=match o with
 |(.inl o)=>aN 19 [(4,.int .i64 o)] [] []
 |(.inr o)=>aN 19 [] [] []
def dH:Option (Int⊕(Int⊕(Unit))):=
 if(decide (t8<t7))=true then
  (dv s t8).bind fun x2=>
  if(v==x2)=true then
   some (.inr (.inl t8))
  else
   some (.inl (bA (t8+1)))
 else
  some (.inr (.inr ()))
def nF:Option (Int⊕(Unit)):=loop (fun(zz:Int)=>dH s v t7 zz) t8
theorem xf{y:Int⊕(Int⊕(Unit))}(h:dH s v t7 t8=some y):aB Pg GE 0 (cA Pa 55) (LQ (fun(zz:Int)=>fE s v t7 zz) fF ek y) (fE s v t7 t8):=by
 rcases aT h with⟨c1,h⟩|⟨c1,h⟩
 ·obtain⟨x2,bx2,h⟩:=aw h
  have p4:=fun{sc F} (r:PS sc F)=>sg 0 c1<|sv (aW.ia (k:=.i64) bx2)<|sv (cP xe (.str x2) [])<|r
  rcases aT h with⟨c3,h⟩|⟨c3,h⟩
  ·obtain rfl:=lf h
   have z:=p4<|sg 0 c3<|eF (fF (.inl t8)) (ek (.inl t8))
   exact gf Nc (by intro hx;cases hx) z<|by kernel_rfl
  ·obtain rfl:=lf h
   exact rY Nc (p4<|sg 0 c3<|eF .normal (fE s v t7 (bA (t8+1))))<|by kernel_rfl
 ·obtain rfl:=lf h
  have z:=sg 0 c1<|eF (fF (.inr ())) (ek (.inr ()))
  exact gf Nc (by intro hx;cases hx) z<|by kernel_rfl
theorem pK{x:Int⊕(Unit)}(h:nF s v t7 t8=some x):aB Pg GE 0 (.loop (cA Pa 55)) (EX (fF x) (ek x)) (fE s v t7 t8):=
 aB.loop (S:=fun(zz:Int)=>fE s v t7 zz) (ex:=fF) (s:=t8) h fun zz y hy=>xf s v t7 zz hy
end
def lQ(s:waA)(v:ag):Option Int:=
 (nF s v (s.length:Int) 0).bind fun o5=>match o5 with
 |(.inl o5)=>
  some o5
 |(.inr o5)=>
  some (-1)
theorem uo{s:waA}{v:ag}{r:Int}(h:lQ s v=some r):CC Pg GE 106 [sl cS s,.str v] (.int .i64 r) []:=by
 obtain⟨o5,bo5,h⟩:=aw h
 rcases o5 with o5|o5
 ·obtain rfl:=lf h
  have z:=cD (aW.ln s)<|cC (e:=.ret) (s1:=ek (.inl o5)) (pK s v (s.length:Int) 0 bo5)<|en (aI (rP (.int .i64 o5))<|trivial)
  exact b7 Nc call106 func106 (c:=Pa) rfl (aI (am dS s) (aI trivial trivial)) z<|by kernel_rfl
 ·obtain rfl:=lf h
  have z:=cD (aW.ln s)<|cC (e:=.exit 0) (s1:=ek (.inr o5)) (pK s v (s.length:Int) 0 bo5)<|en (aI (rP (.int .i64 (-1)))<|trivial)
  exact b7 Nc call106 func106 (c:=Pa) rfl (aI (am dS s) (aI trivial trivial)) z<|by kernel_rfl
noncomputable def UT:Code:=f66.body.getD .skip
def UE:List Nat:=[]
def dL(s:waA)(v:ag):Option Bool:=
 (lQ s v).bind fun r1=>
 some (decide (r1>=0))
theorem e8{s:waA}{v:ag}{r:Bool}(h:dL s v=some r):CC Pg GE 66 [sl cS s,.str v] (.bool r) []:=by
 obtain⟨r1,br1,h⟩:=aw h
 obtain rfl:=lf h
 have z:=ba (uo br1)<|en (aI (rP (.bool (decide (r1>=0))))<|trivial)
 exact b7 UE call66 func66 (c:=UT) rfl (aI (am dS s) (aI trivial trivial)) z<|by kernel_rfl
noncomputable def SC:Code:=f49.body.getD .skip
def Rc:List Nat:=[13,28,34]
section
variable(hidden:waA)(s:ai)(i:Int)(n:ag)(t9:waA)(t10:Int)(m:waB)(m2:waA)(m3:waB)
def kM:av:=aN 45 [(1,sl cS hidden),(2,.eptr (aq s)),(4,.bptr 1 0),(5,.bptr 2 0),(6,.int .i64 i),(7,.str n),(9,sl cS t9),(10,.int .i64 t10),(11,.int .i64 i)] [.dead,.cells [sl cS ([]:List ag),sl ac m] [(0,9),(1,28)],.cells [sl cS m2,sl ac m3] [(0,9),(1,28)]] []
def dw(o:Bool):av:=aN 45 [(1,sl cS hidden),(2,.eptr (aq s)),(4,.bptr 1 0),(5,.bptr 2 0),(6,.int .i64 i),(7,.str n),(9,sl cS t9),(10,.int .i64 t10),(11,.int .i64 i),(26,.bool o)] [.dead,.cells [sl cS ([]:List ag),sl ac m] [(0,9),(1,28)],.cells [sl cS m2,sl ac m3] [(0,9),(1,28)]] []
def dN:Option Bool:=
 (dL hidden n).bind fun r3=>
 if(!r3)=true then
  (dL m2 n).bind fun r5=>
  some (!r5)
 else
  some false
theorem kr{x:Bool}(h:dN hidden n m2=some x):aB Pg GE 0 (cA SC 7670) (EX .normal (dw hidden s i n t9 t10 m m2 m3 x)) (kM hidden s i n t9 t10 m m2 m3):=by
 obtain⟨r3,br3,h⟩:=aw h
 rcases aT h with⟨c4,h⟩|⟨c4,h⟩
 ·obtain⟨r5,br5,h⟩:=aw h
  obtain rfl:=lf h
  exact co Rc (ba (e8 br3)<|sg 5 c4<|ss<|ba (e8 br5)<|eF .normal (dw hidden s i n t9 t10 m m2 m3 (!r5)))<|by kernel_rfl
 ·obtain rfl:=lf h
  exact co Rc (ba (e8 br3)<|sg 5 c4<|eF .normal (dw hidden s i n t9 t10 m m2 m3 false))<|by kernel_rfl
end
section
variable(hidden:waA)(s:ai)(t9:waA)(t10:Int)(m:waB)(t11:Int)(m2:waA)(m3:waB)
def bD:av:=aN 45 [(1,sl cS hidden),(2,.eptr (aq s)),(4,.bptr 1 0),(5,.bptr 2 0),(9,sl cS t9),(10,.int .i64 t10),(11,.int .i64 t11)] [.dead,.cells [sl cS ([]:List ag),sl ac m] [(0,9),(1,28)],.cells [sl cS m2,sl ac m3] [(0,9),(1,28)]] []
def dy(o:waA×waB):av:=aN 45 [(4,.bptr 1 0),(5,.bptr 2 0)] [.dead,.cells [sl cS ([]:List ag),sl ac m] [(0,9),(1,28)],.cells [sl cS o.1,sl ac o.2] [(0,9),(1,28)]] []
def bm:Option ((Int×waA×waB)⊕((waA×waB))):=
 if(decide (t11<t10))=true then
  (dv t9 t11).bind fun x2=>
  (dN hidden x2 m2).bind fun o6=>
  if o6=true then
   (app m2 ([x2]:List ag)).bind fun l9=>
   (dv s.by_ t11).bind fun x10=>
   (app m3 ([x10]:List aa)).bind fun l11=>
   some (.inl (bA (t11+1),l9,l11))
  else
   some (.inl (bA (t11+1),m2,m3))
 else
  some (.inr (m2,m3))
def dO:Option ((waA×waB)):=loop (fun(zz:Int×waA×waB)=>bm hidden s t9 t10 zz.1 zz.2.1 zz.2.2) (t11,m2,m3)
theorem jW{y:(Int×waA×waB)⊕((waA×waB))}(h:bm hidden s t9 t10 t11 m2 m3=some y):aB Pg GE 0 (cA SC 119) (LQ (fun(zz:Int×waA×waB)=>bD hidden s t9 t10 m zz.1 zz.2.1 zz.2.2) (fun _=>.exit 0) (dy m) y) (bD hidden s t9 t10 m t11 m2 m3):=by
 rcases aT h with⟨c1,h⟩|⟨c1,h⟩
 ·obtain⟨x2,bx2,h⟩:=aw h
  obtain⟨o6,bo6,h⟩:=aw h
  have p8:=fun{sc F} (r:PS sc F)=>sg 0 c1<|sv (aW.ia (k:=.i64) bx2)<|sv (cP xe (.str x2) [])<|kK 0<|cC (kr hidden s t11 x2 t9 t10 m m2 m3 bo6)<|r
  rcases aT h with⟨c7,h⟩|⟨c7,h⟩
  ·obtain⟨l9,bl9,h⟩:=aw h
   obtain⟨x10,bx10,h⟩:=aw h
   obtain⟨l11,bl11,h⟩:=aw h
   obtain rfl:=lf h
   exact rY Rc (p8<|sg 0 c7<|sv (aW.mk' (v:=PVal.str) CE ([x2]:List ag) 1 (by kernel_rfl))<|sv (aW.ap bl9)<|rp [0,1,0,4,0,28,60,124,255,511,1023]<|sv (ep s)<|sv (er s)<|sv (aR.ia (k:=.i64) bx10)<|sv (az x10)<|sv (aR.mk' (v:=ce) aY ([x10]:List aa) 1 (by kernel_rfl))<|sv (aR.ap bl11)<|M0 (rfl:bR (sl ac l11)=some [sl ac l11])<|eF .normal (bD hidden s t9 t10 m (bA (t11+1)) l9 l11))<|by kernel_rfl
  ·obtain rfl:=lf h
   exact rY Rc (p8<|sg 0 c7<|eF .normal (bD hidden s t9 t10 m (bA (t11+1)) m2 m3))<|by kernel_rfl
 ·obtain rfl:=lf h
  have z:=sg 0 c1<|eF (.exit 0) (dy m (m2,m3))
  exact gf Rc (by intro hx;cases hx) z<|by kernel_rfl
theorem ku{x:(waA×waB)}(h:dO hidden s t9 t10 t11 m2 m3=some x):aB Pg GE 0 (.loop (cA SC 119)) (EX (.exit 0) (dy m x)) (bD hidden s t9 t10 m t11 m2 m3):=
 aB.loop (S:=fun(zz:Int×waA×waB)=>bD hidden s t9 t10 m zz.1 zz.2.1 zz.2.2) (ex:=(fun _=>.exit 0)) (s:=(t11,m2,m3)) h fun zz y hy=>jW hidden s t9 t10 m zz.1 zz.2.1 zz.2.2 hy
end
def bw(s:ai)(hidden:waA):Option ai:=
 (dO hidden s s.names (s.names.length:Int) 0 ([]:List ag) ([]:List aa)).bind fun o12=>
 some (⟨o12.1,o12.2⟩:ai)
theorem dP{s:ai}{hidden:waA}{r:ai}(h:bw s hidden=some r):CC Pg GE 49 [.agg (aq s),sl cS hidden] (.agg (aq r)) [(0,9),(1,28)]:=by
 obtain⟨o12,bo12,h⟩:=aw h
 obtain rfl:=lf h
 have z:=se (cJ s)<|sx K3<|sx K3<|sv (gJ s)<|sv (gL s)<|cD (aW.ln s.names)<|cC (ku hidden s s.names (s.names.length:Int) ([]:List aa) 0 ([]:List ag) ([]:List aa) bo12)<|sz (bC (⟨o12.1,o12.2⟩:ai) [])<|sy (bK (⟨o12.1,o12.2⟩:ai))<|en (aI (jX (⟨o12.1,o12.2⟩:ai))<|aI (aU (⟨o12.1,o12.2⟩:ai))<|rT)
 exact b7 Rc call49 func49 (c:=SC) rfl (aI (aU s) (aI (am dS hidden) trivial)) z<|by kernel_rfl
abbrev bp:=(ai->ae->Option ae)
abbrev b6(R:bp):Prop:=∀(s:ai) (t:ae) (r:ae),R s t=some r->CC Pg GE 50 [.agg (aq s),.agg (af t)] (.agg (af r)) [(2,30)]
abbrev j1:=(aa->waA->waB->Option aa)
abbrev nn(R:j1):Prop:=∀(p:aa) (a:waA) (a2:waB) (r:aa),R p a a2=some r->CC Pg GE 101 [.agg (ac p),sl cS a,sl ac a2] (.agg (ac r)) [(3,28)]
noncomputable def S2:Code:=f121.body.getD .skip
def SN:List Nat:=[]
def tC(a:waA)(s:ag):Option Int:=
 (lQ a s).bind fun r1=>
 some r1
theorem xz{a:waA}{s:ag}{r:Int}(h:tC a s=some r):CC Pg GE 121 [sl cS a,.str s] (.int .i64 r) []:=by
 obtain⟨r1,br1,h⟩:=aw h
 obtain rfl:=lf h
 have z:=ba (uo br1)<|en (aI (rP (.int .i64 r1))<|trivial)
 exact b7 SN call121 func121 (c:=S2) rfl (aI (am dS a) (aI trivial trivial)) z<|by kernel_rfl
abbrev mL:=(aa->Option aa)
abbrev qE(R:mL):Prop:=∀(p:aa) (r:aa),R p=some r->CC Pg GE 99 [.agg (ac p)] (.agg (ac r)) [(3,28)]
noncomputable def Tf:Code:=f99.body.getD .skip
def SX:List Nat:=[21]
section
variable(R23:mL)(t14:waB)(t15:Int)(m:waB)(m2:Int)(m3:ag)(m4:Int)(t16:Int)(m5:waB)
def gh:av:=aN 29 [(2,.bptr 1 0),(3,.bptr 2 0),(14,sl ac t14),(15,.int .i64 t15),(16,.int .i64 t16)] [.dead,.cells [.int .i64 0,.str ([]:ag),.int .i64 0,sl ac m] [(3,28)],.cells [.int .i64 m2,.str m3,.int .i64 m4,sl ac m5] [(3,28)]] []
def mz(o:waB):av:=aN 29 [(2,.bptr 1 0),(3,.bptr 2 0)] [.dead,.cells [.int .i64 0,.str ([]:ag),.int .i64 0,sl ac m] [(3,28)],.cells [.int .i64 m2,.str m3,.int .i64 m4,sl ac o] [(3,28)]] []
def jf:Option ((Int×waB)⊕(waB)):=
 if(decide (t16<t15))=true then
  (dv t14 t16).bind fun x2=>
  (R23 x2).bind fun r3=>
  (app m5 ([r3]:List aa)).bind fun l4=>
  some (.inl (bA (t16+1),l4))
 else
  some (.inr m5)
def pr:Option waB:=loop (fun(zz:Int×waB)=>jf R23 t14 t15 zz.1 zz.2) (t16,m5)
theorem y6(hR23:qE R23){y:(Int×waB)⊕(waB)}(h:jf R23 t14 t15 t16 m5=some y):aB Pg GE 0 (cA Tf 119) (LQ (fun(zz:Int×waB)=>gh t14 t15 m m2 m3 m4 zz.1 zz.2) (fun _=>.exit 0) (mz m m2 m3 m4) y) (gh t14 t15 m m2 m3 m4 t16 m5):=by
 rcases aT h with⟨c1,h⟩|⟨c1,h⟩
 ·obtain⟨x2,bx2,h⟩:=aw h
  obtain⟨r3,br3,h⟩:=aw h
  obtain⟨l4,bl4,h⟩:=aw h
  obtain rfl:=lf h
  have z:=sg 0 c1<|sv (aR.ia (k:=.i64) bx2)<|sv (az x2)<|sx eX<|sx (bv x2)<|rp [0,1,0,4,12,31,63,127]<|sv (aX x2 [])<|ba (hR23 _ _ br3)<|sv (aR.mk' (v:=ce) aY ([r3]:List aa) 1 (by kernel_rfl))<|sv (aR.ap bl4)<|M0 (rfl:bR (sl ac l4)=some [sl ac l4])<|pg 0 .normal (gh t14 t15 m m2 m3 m4 (bA (t16+1)) l4) rfl (cF (aI (cV rfl) (aI (cV rfl) (aI (up (am ah t14)) (aI trivial (aI trivial trivial)))))) (aI trivial (aI (aI trivial (aI trivial (aI trivial (aI (up (am ah m)) trivial)))) (aI (aI trivial (aI trivial (aI trivial (aI (up (am ah l4)) trivial)))) trivial)))
  exact cz (A:=SX) mixed z<|by kernel_rfl
 ·obtain rfl:=lf h
  have z:=sg 0 c1<|eF (.exit 0) (mz m m2 m3 m4 m5)
  exact gf SX (by intro hx;cases hx) z<|by kernel_rfl
theorem Av(hR23:qE R23){x:waB}(h:pr R23 t14 t15 t16 m5=some x):aB Pg GE 0 (.loop (cA Tf 119)) (EX (.exit 0) (mz m m2 m3 m4 x)) (gh t14 t15 m m2 m3 m4 t16 m5):=
 aB.loop (S:=fun(zz:Int×waB)=>gh t14 t15 m m2 m3 m4 zz.1 zz.2) (ex:=(fun _=>.exit 0)) (s:=(t16,m5)) h fun zz y hy=>y6 R23 t14 t15 m m2 m3 m4 zz.1 zz.2 hR23 hy
end
def rj(R23:mL)(p:aa):Option aa:=
 (pr R23 p.Kids (p.Kids.length:Int) 0 ([]:List aa)).bind fun o5=>
 some (⟨p.Op,p.Name,p.N,o5⟩:aa)
theorem Dp(R23:mL)(hR23:qE R23){p:aa}{r:aa}(h:rj R23 p=some r):CC Pg GE 99 [.agg (ac p)] (.agg (ac r)) [(3,28)]:=by
 obtain⟨o5,bo5,h⟩:=aw h
 obtain rfl:=lf h
 have z:=se (bM p)<|sx eX<|sv (aP p)<|sv (aQ p)<|sv (bT p)<|sv (cm p)<|sv (cf p)<|sv (cp p)<|sb (pd p.Op p.Name p.N) (pb p.Op p.Name p.N)<|sx eX<|sy (aE (⟨p.Op,p.Name,p.N,([]:List aa)⟩:aa))<|sv (aF p)<|sv (aH p)<|cD (aR.ln p.Kids)<|cC (Av R23 p.Kids (p.Kids.length:Int) ([]:List aa) p.Op p.Name p.N 0 ([]:List aa) hR23 bo5)<|sz (aX (⟨p.Op,p.Name,p.N,o5⟩:aa) [])<|sy (aE (⟨p.Op,p.Name,p.N,o5⟩:aa))<|en (aI (cQ (⟨p.Op,p.Name,p.N,o5⟩:aa))<|aI (ah (⟨p.Op,p.Name,p.N,o5⟩:aa))<|rT)
 exact b7 SX call99 func99 (c:=Tf) rfl (aI (ah p) trivial) z<|by kernel_rfl
def mQ:(aa->Option aa)->(aa)->Option aa:=fun(rec:aa->Option aa) (x:aa)=>rj (fun p=>rec p) x
def nj(p:aa):Option aa:=nw mQ p
theorem pu{p:aa}{r:aa}(h:nj p=some r):CC Pg GE 99 [.agg (ac p)] (.agg (ac r)) [(3,28)]:=
 cT (F:=mQ) (M:=fun(x:aa) (r:aa)=>CC Pg GE 99 [.agg (ac x)] (.agg (ac r)) [(3,28)]) (fun rec hrec x r h=>Dp _ (fun p r h=>hrec p r h) h) h
noncomputable def L6:Code:=f101.body.getD .skip
def HD:List Nat:=[46]
section
variable(v:waA)(v2:waB)(p:aa)(i:Int)(m:waB)
def y5:av:=aN 56 [(1,sl cS v),(2,sl ac v2),(3,.eptr (ac p)),(6,.bptr 1 0),(7,.int .i64 i)] [.dead,.cells [.int .i64 0,.str ([]:ag),.int .i64 0,sl ac m] [(3,28)]] []
def km(o:Bool):av:=aN 56 [(1,sl cS v),(2,sl ac v2),(3,.eptr (ac p)),(6,.bptr 1 0),(7,.int .i64 i),(25,.bool o)] [.dead,.cells [.int .i64 0,.str ([]:ag),.int .i64 0,sl ac m] [(3,28)]] []
def mw:Option Bool:=
 if(decide (i>=0))=true then
  some (decide (i<(v2.length:Int)))
 else
  some false
theorem wS{x:Bool}(h:mw v2 i=some x):aB Pg GE 0 (cA L6 106) (EX .normal (km v v2 p i m x)) (y5 v v2 p i m):=by
 rcases aT h with⟨c4,h⟩|⟨c4,h⟩
 ·obtain rfl:=lf h
  exact co HD (sg 3 c4<|cD (aR.ln v2)<|eF .normal (km v v2 p i m (decide (i<(v2.length:Int)))))<|by kernel_rfl
 ·obtain rfl:=lf h
  exact co HD (sg 3 c4<|eF .normal (km v v2 p i m false))<|by kernel_rfl
end
section
variable(v:waA)(v2:waB)(p:aa)(m:waB)
def y4:av:=aN 56 [(1,sl cS v),(2,sl ac v2),(3,.eptr (ac p)),(6,.bptr 1 0)] [.dead,.cells [.int .i64 0,.str ([]:ag),.int .i64 0,sl ac m] [(3,28)]] []
def gv(o:(Int×ag×Int×waB)⊕(Unit)):Exit:=match o with
 |(.inl _)=>.ret
 |(.inr _)=>.normal
def dV(o:(Int×ag×Int×waB)⊕(Unit)):av:=match o with
 |(.inl o)=>aN 56 [(6,.bptr 1 0)] [.dead,.cells [.int .i64 o.1,.str o.2.1,.int .i64 o.2.2.1,sl ac o.2.2.2] [(3,28)]] []
 |(.inr o)=>aN 56 [(1,sl cS v),(2,sl ac v2),(3,.eptr (ac p)),(6,.bptr 1 0)] [.dead,.cells [.int .i64 0,.str ([]:ag),.int .i64 0,sl ac m] [(3,28)]] []
def je:Option ((Int×ag×Int×waB)⊕(Unit)):=
 if(p.Op==3)=true then
  (tC v p.Name).bind fun r3=>
  (mw v2 r3).bind fun o5=>
  if o5=true then
   (dv v2 r3).bind fun x8=>
   (nj x8).bind fun r9=>
   some (.inl (r9.Op,r9.Name,r9.N,r9.Kids))
  else
   some (.inr ())
 else
  some (.inr ())
theorem nR{x:(Int×ag×Int×waB)⊕(Unit)}(h:je v v2 p=some x):aB Pg GE 0 (cA L6 6) (EX (gv x) (dV v v2 p m x)) (y4 v v2 p m):=by
 have p2:=fun{sc F} (r:PS sc F)=>sv (aP p)<|sv (aQ p)<|r
 rcases aT h with⟨c1,h⟩|⟨c1,h⟩
 ·obtain⟨r3,br3,h⟩:=aw h
  obtain⟨o5,bo5,h⟩:=aw h
  have p7:=fun{sc F} (r:PS sc F)=>p2<|sg 0 c1<|sv (bT p)<|sv (cm p)<|ba (xz br3)<|kK 0<|cC (wS v v2 p r3 m bo5)<|r
  rcases aT h with⟨c6,h⟩|⟨c6,h⟩
  ·obtain⟨x8,bx8,h⟩:=aw h
   obtain⟨r9,br9,h⟩:=aw h
   obtain rfl:=lf h
   exact co HD (p7<|sg 0 c6<|sv (aR.ia (k:=.i64) bx8)<|sv (az x8)<|ba (pu br9)<|sy (aE r9)<|eF (gv (.inl (r9.Op,r9.Name,r9.N,r9.Kids))) (dV v v2 p m (.inl (r9.Op,r9.Name,r9.N,r9.Kids))))<|by kernel_rfl
  ·obtain rfl:=lf h
   exact co HD (p7<|sg 0 c6<|eF (gv (.inr ())) (dV v v2 p m (.inr ())))<|by kernel_rfl
 ·obtain rfl:=lf h
  exact co HD (p2<|sg 0 c1<|eF (gv (.inr ())) (dV v v2 p m (.inr ())))<|by kernel_rfl
end
section
variable(R21:j1)(v:waA)(v2:waB)(t39:waB)(t40:Int)(m:waB)(m2:Int)(m3:ag)(m4:Int)(t41:Int)(m5:waB)
def eW:av:=aN 56 [(1,sl cS v),(2,sl ac v2),(6,.bptr 1 0),(8,.bptr 2 0),(39,sl ac t39),(40,.int .i64 t40),(41,.int .i64 t41)] [.dead,.cells [.int .i64 0,.str ([]:ag),.int .i64 0,sl ac m] [(3,28)],.cells [.int .i64 m2,.str m3,.int .i64 m4,sl ac m5] [(3,28)]] []
def ko(o:waB):av:=aN 56 [(6,.bptr 1 0),(8,.bptr 2 0)] [.dead,.cells [.int .i64 0,.str ([]:ag),.int .i64 0,sl ac m] [(3,28)],.cells [.int .i64 m2,.str m3,.int .i64 m4,sl ac o] [(3,28)]] []
def pq:Option ((Int×waB)⊕(waB)):=
 if(decide (t41<t40))=true then
  (dv t39 t41).bind fun x12=>
  (R21 x12 v v2).bind fun r13=>
  (app m5 ([r13]:List aa)).bind fun l14=>
  some (.inl (bA (t41+1),l14))
 else
  some (.inr m5)
def my:Option waB:=loop (fun(zz:Int×waB)=>pq R21 v v2 t39 t40 zz.1 zz.2) (t41,m5)
theorem vN(hR21:nn R21){y:(Int×waB)⊕(waB)}(h:pq R21 v v2 t39 t40 t41 m5=some y):aB Pg GE 0 (cA L6 247) (LQ (fun(zz:Int×waB)=>eW v v2 t39 t40 m m2 m3 m4 zz.1 zz.2) (fun _=>.exit 0) (ko m m2 m3 m4) y) (eW v v2 t39 t40 m m2 m3 m4 t41 m5):=by
 rcases aT h with⟨c11,h⟩|⟨c11,h⟩
 ·obtain⟨x12,bx12,h⟩:=aw h
  obtain⟨r13,br13,h⟩:=aw h
  obtain⟨l14,bl14,h⟩:=aw h
  obtain rfl:=lf h
  have z:=sg 0 c11<|sv (aR.ia (k:=.i64) bx12)<|sv (az x12)<|sx eX<|sx (bv x12)<|rp [0,1,0,0,0,28,60,127,255,511]<|sv (aX x12 [])<|ba (hR21 _ _ _ _ br13)<|sv (aR.mk' (v:=ce) aY ([r13]:List aa) 1 (by kernel_rfl))<|sv (aR.ap bl14)<|M0 (rfl:bR (sl ac l14)=some [sl ac l14])<|pg 0 .normal (eW v v2 t39 t40 m m2 m3 m4 (bA (t41+1)) l14) rfl (cF (aI (up (am dS v)) (aI (up (am ah v2)) (aI (cV rfl) (aI (cV rfl) (aI (up (am ah t39)) (aI trivial (aI trivial trivial)))))))) (aI trivial (aI (aI trivial (aI trivial (aI trivial (aI (up (am ah m)) trivial)))) (aI (aI trivial (aI trivial (aI trivial (aI (up (am ah l14)) trivial)))) trivial)))
  exact cz (A:=HD) mixed z<|by kernel_rfl
 ·obtain rfl:=lf h
  have z:=sg 0 c11<|eF (.exit 0) (ko m m2 m3 m4 m5)
  exact gf HD (by intro hx;cases hx) z<|by kernel_rfl
theorem wU(hR21:nn R21){x:waB}(h:my R21 v v2 t39 t40 t41 m5=some x):aB Pg GE 0 (.loop (cA L6 247)) (EX (.exit 0) (ko m m2 m3 m4 x)) (eW v v2 t39 t40 m m2 m3 m4 t41 m5):=
 aB.loop (S:=fun(zz:Int×waB)=>eW v v2 t39 t40 m m2 m3 m4 zz.1 zz.2) (ex:=(fun _=>.exit 0)) (s:=(t41,m5)) h fun zz y hy=>vN R21 v v2 t39 t40 m m2 m3 m4 zz.1 zz.2 hR21 hy
end
def kb(R21:j1)(p:aa)(a:waA)(a2:waB):Option aa:=
 (je a a2 p).bind fun o10=>match o10 with
 |(.inl o10)=>
  some (⟨o10.1,o10.2.1,o10.2.2.1,o10.2.2.2⟩:aa)
 |(.inr o10)=>
  (my R21 a a2 p.Kids (p.Kids.length:Int) 0 ([]:List aa)).bind fun o15=>
  some (⟨p.Op,p.Name,p.N,o15⟩:aa)
theorem Au(R21:j1)(hR21:nn R21){p:aa}{a:waA}{a2:waB}{r:aa}(h:kb R21 p a a2=some r):CC Pg GE 101 [.agg (ac p),sl cS a,sl ac a2] (.agg (ac r)) [(3,28)]:=by
 obtain⟨o10,bo10,h⟩:=aw h
 rcases o10 with o10|o10
 ·obtain rfl:=lf h
  have z:=se (bM p)<|sx eX<|kK 0<|cC (e:=.ret) (s1:=dV a a2 p ([]:List aa) (.inl o10)) (nR a a2 p ([]:List aa) bo10)<|en (aI (cQ (⟨o10.1,o10.2.1,o10.2.2.1,o10.2.2.2⟩:aa))<|aI (ah (⟨o10.1,o10.2.1,o10.2.2.1,o10.2.2.2⟩:aa))<|rT)
  exact b7 HD call101 func101 (c:=L6) rfl (aI (ah p) (aI (am dS a) (aI (am ah a2) trivial))) z<|by kernel_rfl
 ·obtain⟨o15,bo15,h⟩:=aw h
  obtain rfl:=lf h
  have z:=se (bM p)<|sx eX<|kK 0<|cC (e:=.normal) (s1:=dV a a2 p ([]:List aa) (.inr o10)) (nR a a2 p ([]:List aa) bo10)<|sv (aP p)<|sv (aQ p)<|sv (bT p)<|sv (cm p)<|sv (cf p)<|sv (cp p)<|sb (pd p.Op p.Name p.N) (pb p.Op p.Name p.N)<|sx eX<|sy (aE (⟨p.Op,p.Name,p.N,([]:List aa)⟩:aa))<|sv (aF p)<|sv (aH p)<|cD (aR.ln p.Kids)<|cC (wU R21 a a2 p.Kids (p.Kids.length:Int) ([]:List aa) p.Op p.Name p.N 0 ([]:List aa) hR21 bo15)<|sz (aX (⟨p.Op,p.Name,p.N,o15⟩:aa) [])<|sy (aE (⟨p.Op,p.Name,p.N,o15⟩:aa))<|en (aI (cQ (⟨p.Op,p.Name,p.N,o15⟩:aa))<|aI (ah (⟨p.Op,p.Name,p.N,o15⟩:aa))<|rT)
  exact b7 HD call101 func101 (c:=L6) rfl (aI (ah p) (aI (am dS a) (aI (am ah a2) trivial))) z<|by kernel_rfl
def nz:((aa×waA×waB)->Option aa)->(aa×waA×waB)->Option aa:=fun(rec:(aa×waA×waB)->Option aa) (x:aa×waA×waB)=>kb (fun p a a2=>rec (p,a,a2)) x.1 x.2.1 x.2.2
def mP(p:aa)(a:waA)(a2:waB):Option aa:=nw nz (p,a,a2)
theorem sh{p:aa}{a:waA}{a2:waB}{r:aa}(h:mP p a a2=some r):CC Pg GE 101 [.agg (ac p),sl cS a,sl ac a2] (.agg (ac r)) [(3,28)]:=
 cT (F:=nz) (M:=fun(x:aa×waA×waB) (r:aa)=>CC Pg GE 101 [.agg (ac x.1),sl cS x.2.1,sl ac x.2.2] (.agg (ac r)) [(3,28)]) (fun rec hrec x r h=>Au _ (fun p a a2 r h=>hrec (p,a,a2) r h) h) h
noncomputable def UU:Code:=f89.body.getD .skip
def UF:List Nat:=[]
def cj(s:ai)(p:aa):Option aa:=
 (mP p s.names s.by_).bind fun r1=>
 some r1
theorem ew{s:ai}{p:aa}{r:aa}(h:cj s p=some r):CC Pg GE 89 [.agg (aq s),.agg (ac p)] (.agg (ac r)) [(3,28)]:=by
 obtain⟨r1,br1,h⟩:=aw h
 obtain rfl:=lf h
 have z:=se (cJ s)<|se (bM p)<|sx eX<|sv (az p)<|sv (gJ s)<|sv (gL s)<|sv (ep s)<|sv (er s)<|ba (sh br1)<|sy (aE r1)<|en (aI (cQ r1)<|aI (ah r1)<|rT)
 exact b7 UF call89 func89 (c:=UU) rfl (aI (aU s) (aI (ah p) trivial)) z<|by kernel_rfl
noncomputable def S9:Code:=f73.body.getD .skip
def ST:List Nat:=[14,21]
section
variable(v:ai)(t8:waB)(t9:Int)(out:waB)(t10:Int)
def eD:av:=aN 22 [(1,.func (.func 89) [.agg (aq v)] []),(5,sl ac out),(8,sl ac t8),(9,.int .i64 t9),(10,.int .i64 t10)] [] [((5,0),28)]
def jp(o:waB):av:=aN 22 [(5,sl ac o)] [] [((5,0),28)]
def nS:Option ((waB×Int)⊕(waB)):=
 if(decide (t10<t9))=true then
  (dv t8 t10).bind fun x2=>
  (cj v x2).bind fun r3=>
  (app out ([r3]:List aa)).bind fun l4=>
  some (.inl (l4,bA (t10+1)))
 else
  some (.inr out)
def lK:Option waB:=loop (fun(zz:waB×Int)=>nS v t8 t9 zz.1 zz.2) (out,t10)
theorem uB{y:(waB×Int)⊕(waB)}(h:nS v t8 t9 out t10=some y):aB Pg GE 0 (cA S9 119) (LQ (fun(zz:waB×Int)=>eD v t8 t9 zz.1 zz.2) (fun _=>.exit 0) jp y) (eD v t8 t9 out t10):=by
 rcases aT h with⟨c1,h⟩|⟨c1,h⟩
 ·obtain⟨x2,bx2,h⟩:=aw h
  obtain⟨r3,br3,h⟩:=aw h
  obtain⟨l4,bl4,h⟩:=aw h
  obtain rfl:=lf h
  have z:=sg 0 c1<|sv (aR.ia (k:=.i64) bx2)<|sv (az x2)<|sx eX<|sx (bv x2)<|sv (aX x2 [])<|ba (ew br3)<|sv (aR.mk' (v:=ce) aY ([r3]:List aa) 1 (by kernel_rfl))<|sv (aR.ap bl4)<|pg 0 .normal (eD v t8 t9 l4 (bA (t10+1))) rfl (cF (aI (aI (aI (up (aU v)) trivial) trivial) (aI (up (am ah l4)) (aI (up (am ah t8)) (aI trivial (aI trivial trivial)))))) trivial
  exact cz (A:=ST) mixed z<|by kernel_rfl
 ·obtain rfl:=lf h
  have z:=sg 0 c1<|eF (.exit 0) (jp out)
  exact gf ST (by intro hx;cases hx) z<|by kernel_rfl
theorem vU{x:waB}(h:lK v t8 t9 out t10=some x):aB Pg GE 0 (.loop (cA S9 119)) (EX (.exit 0) (jp x)) (eD v t8 t9 out t10):=
 aB.loop (S:=fun(zz:waB×Int)=>eD v t8 t9 zz.1 zz.2) (ex:=(fun _=>.exit 0)) (s:=(out,t10)) h fun zz y hy=>uB v t8 t9 zz.1 zz.2 hy
end
def iX(a:waB)(c:ai):Option waB:=
 (lK c a (a.length:Int) ([]:List aa) 0).bind fun o5=>
 some o5
theorem qx{a:waB}{c:ai}{r:waB}(h:iX a c=some r):CC Pg GE 73 [sl ac a,.func (.func 89) [.agg (aq c)] []] (sl ac r) [(0,28)]:=by
 obtain⟨o5,bo5,h⟩:=aw h
 obtain rfl:=lf h
 have z:=cD (aR.ln a)<|cC (vU c a (a.length:Int) ([]:List aa) 0 bo5)<|en (aI (rP (sl ac o5))<|(am ah o5))
 exact b7 ST call73 func73 (c:=S9) rfl (aI (am ah a) (aI (aI (aI (aU c) trivial) trivial) trivial)) z<|by kernel_rfl
noncomputable def QB:Code:=f118.body.getD .skip
def Ql:List Nat:=[13,18]
section
variable(t7:waB)(t8:Int)(out:waA)(t9:Int)
def ct:av:=aN 19 [(3,sl cS out),(7,sl ac t7),(8,.int .i64 t8),(9,.int .i64 t9)] [.dead] [((3,0),9)]
def d4(o:waA):av:=aN 19 [(3,sl cS o)] [.dead] [((3,0),9)]
def dZ:Option ((waA×Int)⊕(waA)):=
 if(decide (t9<t8))=true then
  (dv t7 t9).bind fun x2=>
  (mt x2).bind fun r3=>
  (app out r3).bind fun l4=>
  some (.inl (l4,bA (t9+1)))
 else
  some (.inr out)
def eu:Option waA:=loop (fun(zz:waA×Int)=>dZ t7 t8 zz.1 zz.2) (out,t9)
theorem lL{y:(waA×Int)⊕(waA)}(h:dZ t7 t8 out t9=some y):aB Pg GE 0 (cA QB 119) (LQ (fun(zz:waA×Int)=>ct t7 t8 zz.1 zz.2) (fun _=>.exit 0) d4 y) (ct t7 t8 out t9):=by
 rcases aT h with⟨c1,h⟩|⟨c1,h⟩
 ·obtain⟨x2,bx2,h⟩:=aw h
  obtain⟨r3,br3,h⟩:=aw h
  obtain⟨l4,bl4,h⟩:=aw h
  obtain rfl:=lf h
  have z:=sg 0 c1<|sv (aR.ia (k:=.i64) bx2)<|sv (az x2)<|sx eX<|sx (bv x2)<|sv (aX x2 [])<|ba (Aq br3)<|sv (aW.ap bl4)<|pg 0 .normal (ct t7 t8 l4 (bA (t9+1))) rfl (cF (aI (up (am dS l4)) (aI (up (am ah t7)) (aI trivial (aI trivial trivial))))) (aI trivial trivial)
  exact cz (A:=Ql) mixed z<|by kernel_rfl
 ·obtain rfl:=lf h
  have z:=sg 0 c1<|eF (.exit 0) (d4 out)
  exact gf Ql (by intro hx;cases hx) z<|by kernel_rfl
theorem lV{x:waA}(h:eu t7 t8 out t9=some x):aB Pg GE 0 (.loop (cA QB 119)) (EX (.exit 0) (d4 x)) (ct t7 t8 out t9):=
 aB.loop (S:=fun(zz:waA×Int)=>ct t7 t8 zz.1 zz.2) (ex:=(fun _=>.exit 0)) (s:=(out,t9)) h fun zz y hy=>lL t7 t8 zz.1 zz.2 hy
end
def cW(s:ai):Option waA:=
 (eu s.by_ (s.by_.length:Int) ([]:List ag) 0).bind fun o5=>
 some o5
theorem g9{s:ai}{r:waA}(h:cW s=some r):CC Pg GE 118 [.agg (aq s)] (sl cS r) [(0,9)]:=by
 obtain⟨o5,bo5,h⟩:=aw h
 obtain rfl:=lf h
 have z:=se (cJ s)<|sv (ep s)<|sv (er s)<|cD (aR.ln s.by_)<|cC (lV s.by_ (s.by_.length:Int) ([]:List ag) 0 bo5)<|en (aI (rP (sl cS o5))<|(am dS o5))
 exact b7 Ql call118 func118 (c:=QB) rfl (aI (aU s) trivial) z<|by kernel_rfl
abbrev lc:=(ae->Option waA)
abbrev oK(R:lc):Prop:=∀(t:ae) (r:waA),R t=some r->CC Pg GE 29 [.agg (af t)] (sl cS r) [(0,9)]
noncomputable def TY:Code:=f65.body.getD .skip
def TP:List Nat:=[]
def iW(t:ae)(i:Int):Option waA:=
 if(t.Op !=6)=true then
  some ([]:List ag)
 else
  (IK t.Names none (some (if(t.Names.length:Int)<i then(t.Names.length:Int)else i))).bind fun l3=>
  some l3
theorem AP{t:ae}{i:Int}{r:waA}(h:iW t i=some r):CC Pg GE 65 [.agg (af t),.int .i64 i] (sl cS r) []:=by
 have p2:=fun{sc F} (r:PS sc F)=>se (bQ t)<|sv (aG t)<|sv (aJ t)<|r
 rcases aT h with⟨c1,h⟩|⟨c1,h⟩
 ·obtain rfl:=lf h
  have z:=p2<|sg 0 c1<|en (aI (rP (sl cS ([]:List ag)))<|(am dS ([]:List ag)))
  exact b7 TP call65 func65 (c:=TY) rfl (aI (al t) (aI trivial trivial)) z<|by kernel_rfl
 ·obtain⟨l3,bl3,h⟩:=aw h
  obtain rfl:=lf h
  have z:=p2<|sg 0 c1<|sv (aC t)<|sv (aD t)<|sv (aC t)<|sv (aD t)<|cD (aW.ln t.Names)<|sv (aW.sc bl3)<|en (aI (rP (sl cS l3))<|(am dS l3))
  exact b7 TP call65 func65 (c:=TY) rfl (aI (al t) (aI trivial trivial)) z<|by kernel_rfl
noncomputable def Pj:Code:=f29.body.getD .skip
def Nh:List Nat:=[33,44,61]
section
variable(t:ae)(t18:waB)(t19:Int)(t20:Int)(t25:waA)(t26:Int)(m:Int)(m2:ag)(m3:Int)(m4:waB)(out:waA)(t27:Int)
def ee:av:=aN 69 [(1,.eptr (af t)),(3,sl cS out),(18,sl ac t18),(19,.int .i64 t19),(20,.int .i64 t20),(25,sl cS t25),(26,.int .i64 t26),(27,.int .i64 t27)] [.dead,.cells [.int .i64 m,.str m2,.int .i64 m3,sl ac m4] []] [((25,0),9),((18,0),28),((3,0),9)]
def lH(o:waA):av:=aN 69 [(1,.eptr (af t)),(3,sl cS o),(18,sl ac t18),(19,.int .i64 t19),(20,.int .i64 t20)] [.dead,.cells [.int .i64 m,.str m2,.int .i64 m3,sl ac m4] []] [((18,0),28),((3,0),9)]
def qr:Option ((waA×Int)⊕(waA)):=
 if(decide (t27<t26))=true then
  (dv t25 t27).bind fun x6=>
  if(!(x6==([118]:ag)))=true then
   (app out ([x6]:List ag)).bind fun l9=>
   some (.inl (l9,bA (t27+1)))
  else
   some (.inl (out,bA (t27+1)))
 else
  some (.inr out)
def gZ:Option waA:=loop (fun(zz:waA×Int)=>qr t25 t26 zz.1 zz.2) (out,t27)
theorem wY{y:(waA×Int)⊕(waA)}(h:qr t25 t26 out t27=some y):aB Pg GE 0 (cA Pj 30687) (LQ (fun(zz:waA×Int)=>ee t t18 t19 t20 t25 t26 m m2 m3 m4 zz.1 zz.2) (fun _=>.exit 2) (lH t t18 t19 t20 m m2 m3 m4) y) (ee t t18 t19 t20 t25 t26 m m2 m3 m4 out t27):=by
 rcases aT h with⟨c5,h⟩|⟨c5,h⟩
 ·obtain⟨x6,bx6,h⟩:=aw h
  have p8:=fun{sc F} (r:PS sc F)=>sg 0 c5<|sv (aW.ia (k:=.i64) bx6)<|sv (cP xe (.str x6) [])<|r
  rcases aT h with⟨c7,h⟩|⟨c7,h⟩
  ·obtain⟨l9,bl9,h⟩:=aw h
   obtain rfl:=lf h
   exact rY Nh (p8<|sg 0 c7<|sv (aW.mk' (v:=PVal.str) CE ([x6]:List ag) 1 (by kernel_rfl))<|sv (aW.ap bl9)<|eF .normal (ee t t18 t19 t20 t25 t26 m m2 m3 m4 l9 (bA (t27+1))))<|by kernel_rfl
  ·obtain rfl:=lf h
   exact rY Nh (p8<|sg 0 c7<|eF .normal (ee t t18 t19 t20 t25 t26 m m2 m3 m4 out (bA (t27+1))))<|by kernel_rfl
 ·obtain rfl:=lf h
  have z:=sg 0 c5<|eF (.exit 2) (lH t t18 t19 t20 m m2 m3 m4 out)
  exact gf Nh (by intro hx;cases hx) z<|by kernel_rfl
theorem zb{x:waA}(h:gZ t25 t26 out t27=some x):aB Pg GE 0 (.loop (cA Pj 30687)) (EX (.exit 2) (lH t t18 t19 t20 m m2 m3 m4 x)) (ee t t18 t19 t20 t25 t26 m m2 m3 m4 out t27):=
 aB.loop (S:=fun(zz:waA×Int)=>ee t t18 t19 t20 t25 t26 m m2 m3 m4 zz.1 zz.2) (ex:=(fun _=>.exit 2)) (s:=(out,t27)) h fun zz y hy=>wY t t18 t19 t20 t25 t26 m m2 m3 m4 zz.1 zz.2 hy
end
section
variable(t:ae)(t18:waB)(t19:Int)(out:waA)(t20:Int)
def fx:av:=aN 69 [(1,.eptr (af t)),(3,sl cS out),(18,sl ac t18),(19,.int .i64 t19),(20,.int .i64 t20)] [.dead] [((18,0),28),((3,0),9)]
def lG(o:waA):av:=aN 69 [(1,.eptr (af t)),(3,sl cS o)] [.dead] [((3,0),9)]
def qq:Option ((waA×Int)⊕(waA)):=
 if(decide (t20<t19))=true then
  (dv t18 t20).bind fun x3=>
  (mt x3).bind fun r4=>
  (gZ r4 (r4.length:Int) out 0).bind fun o10=>
  some (.inl (o10,bA (t20+1)))
 else
  some (.inr out)
def nB:Option waA:=loop (fun(zz:waA×Int)=>qq t18 t19 zz.1 zz.2) (out,t20)
theorem wX{y:(waA×Int)⊕(waA)}(h:qq t18 t19 out t20=some y):aB Pg GE 0 (cA Pj 119) (LQ (fun(zz:waA×Int)=>fx t t18 t19 zz.1 zz.2) (fun _=>.exit 0) (lG t) y) (fx t t18 t19 out t20):=by
 rcases aT h with⟨c2,h⟩|⟨c2,h⟩
 ·obtain⟨x3,bx3,h⟩:=aw h
  obtain⟨r4,br4,h⟩:=aw h
  obtain⟨o10,bo10,h⟩:=aw h
  obtain rfl:=lf h
  have z:=sg 0 c2<|sv (aR.ia (k:=.i64) bx3)<|sv (az x3)<|sx eX<|sx (bv x3)<|sv (aX x3 [])<|ba (Aq br4)<|cD (aW.ln r4)<|cC (zb t t18 t19 t20 r4 (r4.length:Int) x3.Op x3.Name x3.N x3.Kids out 0 bo10)<|pg 0 .normal (fx t t18 t19 o10 (bA (t20+1))) rfl (cF (aI (lq (al t)) (aI (up (am dS o10)) (aI (up (am ah t18)) (aI trivial (aI trivial trivial)))))) (aI trivial trivial)
  exact cz (A:=Nh) mixed z<|by kernel_rfl
 ·obtain rfl:=lf h
  have z:=sg 0 c2<|eF (.exit 0) (lG t out)
  exact gf Nh (by intro hx;cases hx) z<|by kernel_rfl
theorem za{x:waA}(h:nB t18 t19 out t20=some x):aB Pg GE 0 (.loop (cA Pj 119)) (EX (.exit 0) (lG t x)) (fx t t18 t19 out t20):=
 aB.loop (S:=fun(zz:waA×Int)=>fx t t18 t19 zz.1 zz.2) (ex:=(fun _=>.exit 0)) (s:=(out,t20)) h fun zz y hy=>wX t t18 t19 zz.1 zz.2 hy
end
section
variable(t:ae)(bound:waA)(t40:waC)(t41:Int)(t42:Int)(t51:waA)(t52:Int)(m:Int)(m2:ag)(m3:waC)(m4:waA)(m5:Int)(m6:ag)(m7:Int)(m8:waB)(m9:waB)(out:waA)(t53:Int)
def ef:av:=aN 69 [(1,.eptr (af t)),(3,sl cS out),(10,sl cS bound),(40,sl af t40),(41,.int .i64 t41),(42,.int .i64 t42),(51,sl cS t51),(52,.int .i64 t52),(53,.int .i64 t53)] [.dead,.cells [.int .i64 m,.str m2,sl af m3,sl cS m4,.int .i64 m5,.str m6,.int .i64 m7,sl ac m8,sl ac m9] []] [((51,0),9),((3,0),9)]
def lJ(o:waA):av:=aN 69 [(1,.eptr (af t)),(3,sl cS o),(40,sl af t40),(41,.int .i64 t41),(42,.int .i64 t42)] [.dead,.cells [.int .i64 m,.str m2,sl af m3,sl cS m4,.int .i64 m5,.str m6,.int .i64 m7,sl ac m8,sl ac m9] []] [((3,0),9)]
def qv:Option ((waA×Int)⊕(waA)):=
 if(decide (t53<t52))=true then
  (dv t51 t53).bind fun x17=>
  (dL bound x17).bind fun r18=>
  if(!r18)=true then
   (app out ([x17]:List ag)).bind fun l21=>
   some (.inl (l21,bA (t53+1)))
  else
   some (.inl (out,bA (t53+1)))
 else
  some (.inr out)
def g8:Option waA:=loop (fun(zz:waA×Int)=>qv bound t51 t52 zz.1 zz.2) (out,t53)
theorem w9{y:(waA×Int)⊕(waA)}(h:qv bound t51 t52 out t53=some y):aB Pg GE 0 (cA Pj 126911) (LQ (fun(zz:waA×Int)=>ef t bound t40 t41 t42 t51 t52 m m2 m3 m4 m5 m6 m7 m8 m9 zz.1 zz.2) (fun _=>.exit 6) (lJ t t40 t41 t42 m m2 m3 m4 m5 m6 m7 m8 m9) y) (ef t bound t40 t41 t42 t51 t52 m m2 m3 m4 m5 m6 m7 m8 m9 out t53):=by
 rcases aT h with⟨c16,h⟩|⟨c16,h⟩
 ·obtain⟨x17,bx17,h⟩:=aw h
  obtain⟨r18,br18,h⟩:=aw h
  have p20:=fun{sc F} (r:PS sc F)=>sg 0 c16<|sv (aW.ia (k:=.i64) bx17)<|sv (cP xe (.str x17) [])<|ba (e8 br18)<|r
  rcases aT h with⟨c19,h⟩|⟨c19,h⟩
  ·obtain⟨l21,bl21,h⟩:=aw h
   obtain rfl:=lf h
   exact rY Nh (p20<|sg 0 c19<|sv (aW.mk' (v:=PVal.str) CE ([x17]:List ag) 1 (by kernel_rfl))<|sv (aW.ap bl21)<|eF .normal (ef t bound t40 t41 t42 t51 t52 m m2 m3 m4 m5 m6 m7 m8 m9 l21 (bA (t53+1))))<|by kernel_rfl
  ·obtain rfl:=lf h
   exact rY Nh (p20<|sg 0 c19<|eF .normal (ef t bound t40 t41 t42 t51 t52 m m2 m3 m4 m5 m6 m7 m8 m9 out (bA (t53+1))))<|by kernel_rfl
 ·obtain rfl:=lf h
  have z:=sg 0 c16<|eF (.exit 6) (lJ t t40 t41 t42 m m2 m3 m4 m5 m6 m7 m8 m9 out)
  exact gf Nh (by intro hx;cases hx) z<|by kernel_rfl
theorem zd{x:waA}(h:g8 bound t51 t52 out t53=some x):aB Pg GE 0 (.loop (cA Pj 126911)) (EX (.exit 6) (lJ t t40 t41 t42 m m2 m3 m4 m5 m6 m7 m8 m9 x)) (ef t bound t40 t41 t42 t51 t52 m m2 m3 m4 m5 m6 m7 m8 m9 out t53):=
 aB.loop (S:=fun(zz:waA×Int)=>ef t bound t40 t41 t42 t51 t52 m m2 m3 m4 m5 m6 m7 m8 m9 zz.1 zz.2) (ex:=(fun _=>.exit 6)) (s:=(out,t53)) h fun zz y hy=>w9 t bound t40 t41 t42 t51 t52 m m2 m3 m4 m5 m6 m7 m8 m9 zz.1 zz.2 hy
end
section
variable(R26:lc)(t:ae)(t40:waC)(t41:Int)(out:waA)(t42:Int)
def fy:av:=aN 69 [(1,.eptr (af t)),(3,sl cS out),(40,sl af t40),(41,.int .i64 t41),(42,.int .i64 t42)] [.dead] [((3,0),9)]
def lI(o:waA):av:=aN 69 [(3,sl cS o)] [.dead] [((3,0),9)]
def qt:Option ((waA×Int)⊕(waA)):=
 if(decide (t42<t41))=true then
  (dv t40 t42).bind fun x13=>
  (iW t t42).bind fun r14=>
  (R26 x13).bind fun r15=>
  (g8 r14 r15 (r15.length:Int) out 0).bind fun o22=>
  some (.inl (o22,bA (t42+1)))
 else
  some (.inr out)
def nC:Option waA:=loop (fun(zz:waA×Int)=>qt R26 t t40 t41 zz.1 zz.2) (out,t42)
theorem wZ(hR26:oK R26){y:(waA×Int)⊕(waA)}(h:qt R26 t t40 t41 out t42=some y):aB Pg GE 0 (cA Pj 247) (LQ (fun(zz:waA×Int)=>fy t t40 t41 zz.1 zz.2) (fun _=>.exit 4) lI y) (fy t t40 t41 out t42):=by
 rcases aT h with⟨c12,h⟩|⟨c12,h⟩
 ·obtain⟨x13,bx13,h⟩:=aw h
  obtain⟨r14,br14,h⟩:=aw h
  obtain⟨r15,br15,h⟩:=aw h
  obtain⟨o22,bo22,h⟩:=aw h
  obtain rfl:=lf h
  have z:=sg 0 c12<|sv (d5.ia (k:=.i64) bx13)<|sv (bh x13)<|sx jh<|sx (db x13)<|sv (bh t)<|ba (AP br14)<|sv (bz x13 [])<|ba (hR26 _ _ br15)<|cD (aW.ln r15)<|cC (zd t r14 t40 t41 t42 r15 (r15.length:Int) x13.Op x13.Name x13.Args x13.Names x13.Pred.Op x13.Pred.Name x13.Pred.N x13.Pred.Kids x13.Preds out 0 bo22)<|pg 0 .normal (fy t t40 t41 o22 (bA (t42+1))) rfl (cF (aI (lq (al t)) (aI (up (am dS o22)) (aI (up (am al t40)) (aI trivial (aI trivial trivial)))))) (aI trivial trivial)
  exact cz (A:=Nh) mixed z<|by kernel_rfl
 ·obtain rfl:=lf h
  have z:=sg 0 c12<|eF (.exit 4) (lI out)
  exact gf Nh (by intro hx;cases hx) z<|by kernel_rfl
theorem zc(hR26:oK R26){x:waA}(h:nC R26 t t40 t41 out t42=some x):aB Pg GE 0 (.loop (cA Pj 247)) (EX (.exit 4) (lI x)) (fy t t40 t41 out t42):=
 aB.loop (S:=fun(zz:waA×Int)=>fy t t40 t41 zz.1 zz.2) (ex:=(fun _=>.exit 4)) (s:=(out,t42)) h fun zz y hy=>wZ R26 t t40 t41 zz.1 zz.2 hR26 hy
end
def lF(R26:lc)(t:ae):Option waA:=
 (app ([t.Pred]:List aa) t.Preds).bind fun l1=>
 (nB l1 (l1.length:Int) ([]:List ag) 0).bind fun o11=>
 (nC R26 t t.Args (t.Args.length:Int) o11 0).bind fun o23=>
 (kF o23 ([]:List ag)).bind fun r24=>
 some r24
theorem B8(R26:lc)(hR26:oK R26){t:ae}{r:waA}(h:lF R26 t=some r):CC Pg GE 29 [.agg (af t)] (sl cS r) [(0,9)]:=by
 obtain⟨l1,bl1,h⟩:=aw h
 obtain⟨o11,bo11,h⟩:=aw h
 obtain⟨o23,bo23,h⟩:=aw h
 obtain⟨r24,br24,h⟩:=aw h
 obtain rfl:=lf h
 have z:=se (bQ t)<|sv (bU t)<|sv (bX t)<|sv (aR.mk' (v:=ce) aY ([t.Pred]:List aa) 1 (by kernel_rfl))<|sv (bN t)<|sv (bO t)<|sv (aR.ap bl1)<|cD (aR.ln l1)<|cC (za t l1 (l1.length:Int) ([]:List ag) 0 bo11)<|sv (aK t)<|sv (aL t)<|cD (d5.ln t.Args)<|cC (zc R26 t t.Args (t.Args.length:Int) o11 0 hR26 bo23)<|ba (vC br24)<|en (aI (rP (sl cS r24))<|(am dS r24))
 exact b7 Nh call29 func29 (c:=Pj) rfl (aI (al t) trivial) z<|by kernel_rfl
def pE:(ae->Option waA)->(ae)->Option waA:=fun(rec:ae->Option waA) (x:ae)=>lF (fun t=>rec t) x
def oq(t:ae):Option waA:=nw pE t
theorem uf{t:ae}{r:waA}(h:oq t=some r):CC Pg GE 29 [.agg (af t)] (sl cS r) [(0,9)]:=
 cT (F:=pE) (M:=fun(x:ae) (r:waA)=>CC Pg GE 29 [.agg (af x)] (sl cS r) [(0,9)]) (fun rec hrec x r h=>B8 _ (fun t r h=>hrec t r h) h) h
noncomputable def L7:Code:=f119.body.getD .skip
def L3:List Nat:=[24,35]
section
variable(base:ag)(t11:waA)(t12:Int)(t13:Int)(m0:(List (ag×Bool)))
def f6:av:=aN 36 [(1,.str base),(5,.mapr 0),(11,sl cS t11),(12,.int .i64 t12),(13,.int .i64 t13)] [.map (uz PVal.bool m0)] []
def mo(o:(List (ag×Bool))):av:=aN 36 [(1,.str base),(5,.mapr 0)] [.map (uz PVal.bool o)] []
def f7:Option ((Int×(List (ag×Bool)))⊕(((List (ag×Bool))))):=
 if(decide (t13<t12))=true then
  (dv t11 t13).bind fun x2=>
  some (.inl (bA (t13+1),wQ m0 x2 true))
 else
  some (.inr m0)
def lz:Option (((List (ag×Bool)))):=loop (fun(zz:Int×(List (ag×Bool)))=>f7 t11 t12 zz.1 zz.2) (t13,m0)
theorem yU{y:(Int×(List (ag×Bool)))⊕(((List (ag×Bool))))}(h:f7 t11 t12 t13 m0=some y):aB Pg GE 0 (cA L7 119) (LQ (fun(zz:Int×(List (ag×Bool)))=>f6 base t11 t12 zz.1 zz.2) (fun _=>.exit 0) (mo base) y) (f6 base t11 t12 t13 m0):=by
 rcases aT h with⟨c1,h⟩|⟨c1,h⟩
 ·obtain⟨x2,bx2,h⟩:=aw h
  obtain rfl:=lf h
  exact rY L3 (sg 0 c1<|sv (aW.ia (k:=.i64) bx2)<|sv (cP xe (.str x2) [])<|Ui (N0 (f:=PVal.bool) underlying121 underlying9 m0 x2 true)<|eF .normal (f6 base t11 t12 (bA (t13+1)) (wQ m0 x2 true)))<|by kernel_rfl
 ·obtain rfl:=lf h
  have z:=sg 0 c1<|eF (.exit 0) (mo base m0)
  exact gf L3 (by intro hx;cases hx) z<|by kernel_rfl
theorem z8{x:((List (ag×Bool)))}(h:lz t11 t12 t13 m0=some x):aB Pg GE 0 (.loop (cA L7 119)) (EX (.exit 0) (mo base x)) (f6 base t11 t12 t13 m0):=
 aB.loop (S:=fun(zz:Int×(List (ag×Bool)))=>f6 base t11 t12 zz.1 zz.2) (ex:=(fun _=>.exit 0)) (s:=(t13,m0)) h fun zz y hy=>yU base t11 t12 zz.1 zz.2 hy
end
section
variable(base:ag)(m0:(List (ag×Bool)))(n:Int)
def ga:av:=aN 36 [(1,.str base),(5,.mapr 0),(8,.int .i64 n)] [.map (uz PVal.bool m0)] []
def mq(o:ag):av:=aN 36 [(4,.str o)] [.map (uz PVal.bool m0)] []
def eM:Option (Int⊕(ag)):=
 (LB n).bind fun r6=>
 (QL base r6).bind fun s7=>
 if(!((tz m0 s7).getD false))=true then
  some (.inr s7)
 else
  some (.inl (bA (n+1)))
def iS:Option ag:=loop (fun(zz:Int)=>eM base m0 zz) n
theorem yV{y:Int⊕(ag)}(h:eM base m0 n=some y):aB Pg GE 0 (cA L7 255) (LQ (fun(zz:Int)=>ga base m0 zz) (fun _=>.ret) (mq m0) y) (ga base m0 n):=by
 obtain⟨r6,br6,h⟩:=aw h
 obtain⟨s7,bs7,h⟩:=aw h
 have p9:=fun{sc F} (r:PS sc F)=>ba (PA br6)<|sv (IM (P:=Pg) (t:=9) bs7)<|sv (KQ (f:=PVal.bool) underlying121 underlying9 TL m0 s7)<|r
 rcases aT h with⟨c8,h⟩|⟨c8,h⟩
 ·obtain rfl:=lf h
  have z:=p9<|sg 0 c8<|eF .ret (mq m0 s7)
  exact gf L3 (by intro hx;cases hx) z<|by kernel_rfl
 ·obtain rfl:=lf h
  exact rY L3 (p9<|sg 0 c8<|eF .normal (ga base m0 (bA (n+1))))<|by kernel_rfl
theorem Aa{x:ag}(h:iS base m0 n=some x):aB Pg GE 0 (.loop (cA L7 255)) (EX .ret (mq m0 x)) (ga base m0 n):=
 aB.loop (S:=fun(zz:Int)=>ga base m0 zz) (ex:=(fun _=>.ret)) (s:=n) h fun zz y hy=>yV base m0 zz hy
end
def ql(used:waA)(base:ag):Option ag:=
 (lz used (used.length:Int) 0 ([]:List (ag×Bool))).bind fun o3=>
 if(!((tz o3 base).getD false))=true then
  some base
 else
  (iS base o3 1).bind fun o10=>
  some o10
theorem E1{used:waA}{base:ag}{r:ag}(h:ql used base=some r):CC Pg GE 119 [sl cS used,.str base] (.str r) []:=by
 obtain⟨o3,bo3,h⟩:=aw h
 have p5:=fun{sc F} (r:PS sc F)=>cD (aW.ln used)<|cC (z8 base used (used.length:Int) 0 ([]:List (ag×Bool)) bo3)<|sv (KQ (f:=PVal.bool) underlying121 underlying9 TL o3 base)<|r
 rcases aT h with⟨c4,h⟩|⟨c4,h⟩
 ·obtain rfl:=lf h
  have z:=p5<|sg 0 c4<|en (aI (rP (.str base))<|trivial)
  exact b7 L3 call119 func119 (c:=L7) rfl (aI (am dS used) (aI trivial trivial)) z<|by kernel_rfl
 ·obtain⟨o10,bo10,h⟩:=aw h
  obtain rfl:=lf h
  have z:=p5<|sg 0 c4<|cC (Aa base o3 1 bo10)<|en (aI (rP (.str o10))<|trivial)
  exact b7 L3 call119 func119 (c:=L7) rfl (aI (am dS used) (aI trivial trivial)) z<|by kernel_rfl
noncomputable def UO:Code:=f52.body.getD .skip
def Uz:List Nat:=[13,19]
def cX(s:ai)(name:ag)(a:aa):Option ai:=
 (bw s ([name]:List ag)).bind fun r1=>
 (app r1.names ([name]:List ag)).bind fun l2=>
 (app r1.by_ ([a]:List aa)).bind fun l3=>
 some (⟨l2,l3⟩:ai)
theorem hO{s:ai}{name:ag}{a:aa}{r:ai}(h:cX s name a=some r):CC Pg GE 52 [.agg (aq s),.str name,.agg (ac a)] (.agg (aq r)) [(0,9),(1,28)]:=by
 obtain⟨r1,br1,h⟩:=aw h
 obtain⟨l2,bl2,h⟩:=aw h
 obtain⟨l3,bl3,h⟩:=aw h
 obtain rfl:=lf h
 have z:=se (cJ s)<|se (bM a)<|sx K3<|sv (bL s)<|sv (aW.mk' (v:=PVal.str) CE ([name]:List ag) 1 (by kernel_rfl))<|ba (dP br1)<|sx K3<|sy (bK r1)<|sv (aW.mk' (v:=PVal.str) CE ([name]:List ag) 1 (by kernel_rfl))<|sv (aW.ap bl2)<|sv (az a)<|sv (aR.mk' (v:=ce) aY ([a]:List aa) 1 (by kernel_rfl))<|sv (aR.ap bl3)<|sz (bC (⟨l2,l3⟩:ai) [])<|sy (bK (⟨l2,l3⟩:ai))<|en (aI (jX (⟨l2,l3⟩:ai))<|aI (aU (⟨l2,l3⟩:ai))<|rT)
 exact b7 Uz call52 func52 (c:=UO) rfl (aI (aU s) (aI trivial (aI (ah a) trivial))) z<|by kernel_rfl
end Go.Proofs.YtggeppllafbidaaGreatDoor
