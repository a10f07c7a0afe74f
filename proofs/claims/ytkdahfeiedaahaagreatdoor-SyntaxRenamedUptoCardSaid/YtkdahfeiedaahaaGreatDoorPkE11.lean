/- PROVED: a part of the proof. Conditions: none. -/
import Derived.Test.YtkdahfeiedaahaaGreatDoorPkE9
import Derived.Test.YtkdahfeiedaahaaGreatDoorPkE10
noncomputable section
namespace Go.Proofs.YtkdahfeiedaahaaGreatDoor
open Go Go.Proofs.Tryz
set_option linter.unusedVariables false
set_option maxRecDepth 100000
abbrev uf:=(af->Int->Option Int)
abbrev tV(R:uf):Prop:=∀(e:af) (most:Int) (r:Int),R e most=some r->CC Pg GE 46 [.agg (ae e),.int .i64 most] (.int .i64 r) []
abbrev vJ:=(waB->Int->Option Int)
abbrev y6(R:vJ):Prop:=∀(a:waB) (most:Int) (r:Int),R a most=some r->CC Pg GE 95 [sl ai a,.int .i64 most] (.int .i64 r) []
abbrev vI:=(waF->Int->Option Int)
abbrev y5(R:vI):Prop:=∀(a:waF) (most:Int) (r:Int),R a most=some r->CC Pg GE 132 [sl aw a,.int .i64 most] (.int .i64 r) []
noncomputable def S5:Code:=f132.body.getD .skip
def Qz:List Nat:=[39]
section
variable(v:waF)(most:Int)(n:Int)(i:Int)
def Hz:aA:=bj 40 [(0,sl aw v),(1,.int .i64 most),(5,.int .i64 n),(6,.int .i64 i)] [] []
def ub(o:Bool):aA:=bj 40 [(0,sl aw v),(1,.int .i64 most),(5,.int .i64 n),(6,.int .i64 i),(15,.bool o)] [] []
def ti:Option Bool:=
 if(decide (i<(v.length:Int)))=true then
  some (decide (n<=most))
 else
  some false
theorem Gw{x:Bool}(h:ti v most n i=some x):aR Pg GE 0 (cA S5 476) (EX .normal (ub v most n i x)) (Hz v most n i):=by
 rcases aP h with⟨c1,h⟩|⟨c1,h⟩
 ·obtain rfl:=lf h
  exact bJ Qz (cq (nH.ln v)<|sg 5 c1<|eF .normal (ub v most n i (decide (n<=most))))<|by kernel_rfl
 ·obtain rfl:=lf h
  exact bJ Qz (cq (nH.ln v)<|sg 5 c1<|eF .normal (ub v most n i false))<|by kernel_rfl
end
section
variable(R5:vI)(v:waF)(most:Int)(n:Int)(i:Int)
def mD:aA:=bj 40 [(0,sl aw v),(1,.int .i64 most),(5,.int .i64 n),(6,.int .i64 i)] [] []
def uc(o:Int):aA:=bj 40 [(5,.int .i64 o)] [] []
def kh:Option ((Int×Int)⊕(Int)):=
 (ti v most n i).bind fun o2=>
 if o2=true then
  (gY v i).bind fun x5=>
  (qu .i64 (x5.Name.length:Int) 50).bind fun q6=>
  (gY v i).bind fun x7=>
  (R5 x7.Kids (cp (most - (cp ((cp (n+1))+q6))))).bind fun r8=>
  some (.inl (cp ((cp ((cp (n+1))+q6))+r8),cp (i+1)))
 else
  some (.inr n)
def xJ:Option Int:=loop (fun(zz:Int×Int)=>kh R5 v most zz.1 zz.2) (n,i)
theorem EB(hR5:y5 R5){y:(Int×Int)⊕(Int)}(h:kh R5 v most n i=some y):aR Pg GE 0 (cA S5 119) (LQ (fun(zz:Int×Int)=>mD v most zz.1 zz.2) (fun _=>.exit 0) uc y) (mD v most n i):=by
 obtain⟨o2,bo2,h⟩:=aJ h
 have p4:=fun{sc F} (r:PS sc F)=>rN 1<|dS (Gw v most n i bo2)<|r
 rcases aP h with⟨c3,h⟩|⟨c3,h⟩
 ·obtain⟨x5,bx5,h⟩:=aJ h
  obtain⟨q6,bq6,h⟩:=aJ h
  obtain⟨x7,bx7,h⟩:=aJ h
  obtain⟨r8,br8,h⟩:=aJ h
  obtain rfl:=lf h
  exact AU Qz (p4<|sg 0 c3<|sv (nH.ia (k:=.i64) bx5)<|sv (n8 x5)<|sv (pM x5)<|cq (qa underlying9 x5.Name)<|sv (JT (P:=Pg) (t:=3) bq6)<|sv (nH.ia (k:=.i64) bx7)<|sv (gI x7)<|sv (gK x7)<|cW (hR5 _ _ _ br8)<|eF .normal (mD v most (cp ((cp ((cp (n+1))+q6))+r8)) (cp (i+1))))<|by kernel_rfl
 ·obtain rfl:=lf h
  have z:=p4<|sg 0 c3<|eF (.exit 0) (uc n)
  exact kc Qz (by intro hx;cases hx) z<|by kernel_rfl
theorem Gx(hR5:y5 R5){x:Int}(h:xJ R5 v most n i=some x):aR Pg GE 0 (.loop (cA S5 119)) (EX (.exit 0) (uc x)) (mD v most n i):=
 aR.loop (S:=fun(zz:Int×Int)=>mD v most zz.1 zz.2) (ex:=(fun _=>.exit 0)) (s:=(n,i)) h fun zz y hy=>EB R5 v most zz.1 zz.2 hR5 hy
end
def vG(R5:vI)(a:waF)(most:Int):Option Int:=
 (xJ R5 a most 0 0).bind fun o9=>
 some o9
theorem Je(R5:vI)(hR5:y5 R5){a:waF}{most:Int}{r:Int}(h:vG R5 a most=some r):CC Pg GE 132 [sl aw a,.int .i64 most] (.int .i64 r) []:=by
 obtain⟨o9,bo9,h⟩:=aJ h
 obtain rfl:=lf h
 have z:=dS (Gx R5 a most 0 0 hR5 bo9)<|en (aI (rP (.int .i64 o9))<|trivial)
 exact cR Qz call132 func132 (c:=S5) rfl (aI (au bO a) (aI trivial trivial)) z<|by kernel_rfl
def zq:((waF×Int)->Option Int)->(waF×Int)->Option Int:=fun(rec:(waF×Int)->Option Int) (x:waF×Int)=>vG (fun a most=>rec (a,most)) x.1 x.2
def EA(a:waF)(most:Int):Option Int:=sd zq (a,most)
theorem KL{a:waF}{most:Int}{r:Int}(h:EA a most=some r):CC Pg GE 132 [sl aw a,.int .i64 most] (.int .i64 r) []:=
 eM (F:=zq) (M:=fun(x:waF×Int) (r:Int)=>CC Pg GE 132 [sl aw x.1,.int .i64 x.2] (.int .i64 r) []) (fun rec hrec x r h=>Je _ (fun a most r h=>hrec (a,most) r h) h) h
noncomputable def WJ:Code:=f95.body.getD .skip
def Vz:List Nat:=[61]
section
variable(v:waB)(most:Int)(n:Int)(i:Int)
def HA:aA:=bj 62 [(0,sl ai v),(1,.int .i64 most),(5,.int .i64 n),(6,.int .i64 i)] [] []
def ud(o:Bool):aA:=bj 62 [(0,sl ai v),(1,.int .i64 most),(5,.int .i64 n),(6,.int .i64 i),(15,.bool o)] [] []
def tj:Option Bool:=
 if(decide (i<(v.length:Int)))=true then
  some (decide (n<=most))
 else
  some false
theorem Gy{x:Bool}(h:tj v most n i=some x):aR Pg GE 0 (cA WJ 476) (EX .normal (ud v most n i x)) (HA v most n i):=by
 rcases aP h with⟨c1,h⟩|⟨c1,h⟩
 ·obtain rfl:=lf h
  exact bJ Vz (cq (ee.ln v)<|sg 5 c1<|eF .normal (ud v most n i (decide (n<=most))))<|by kernel_rfl
 ·obtain rfl:=lf h
  exact bJ Vz (cq (ee.ln v)<|sg 5 c1<|eF .normal (ud v most n i false))<|by kernel_rfl
end
section
variable(R4:vJ)(v:waB)(most:Int)(n:Int)(i:Int)
def mE:aA:=bj 62 [(0,sl ai v),(1,.int .i64 most),(5,.int .i64 n),(6,.int .i64 i)] [] []
def ue(o:Int):aA:=bj 62 [(5,.int .i64 o)] [] []
def ki:Option ((Int×Int)⊕(Int)):=
 (tj v most n i).bind fun o2=>
 if o2=true then
  (gY v i).bind fun x5=>
  (qu .i64 (x5.Name.length:Int) 50).bind fun q6=>
  (gY v i).bind fun x7=>
  (gY v i).bind fun x8=>
  (gY v i).bind fun x9=>
  (app ([x8.Pred]:List ax) x9.Preds).bind fun l10=>
  (EA l10 most).bind fun r11=>
  (gY v i).bind fun x12=>
  (R4 x12.Args (cp (most - (cp ((cp ((cp ((cp (n+1))+q6))+(x7.Names.length:Int)))+r11))))).bind fun r13=>
  some (.inl (cp ((cp ((cp ((cp ((cp (n+1))+q6))+(x7.Names.length:Int)))+r11))+r13),cp (i+1)))
 else
  some (.inr n)
def xK:Option Int:=loop (fun(zz:Int×Int)=>ki R4 v most zz.1 zz.2) (n,i)
theorem EC(hR4:y6 R4){y:(Int×Int)⊕(Int)}(h:ki R4 v most n i=some y):aR Pg GE 0 (cA WJ 119) (LQ (fun(zz:Int×Int)=>mE v most zz.1 zz.2) (fun _=>.exit 0) ue y) (mE v most n i):=by
 obtain⟨o2,bo2,h⟩:=aJ h
 have p4:=fun{sc F} (r:PS sc F)=>rN 1<|dS (Gy v most n i bo2)<|r
 rcases aP h with⟨c3,h⟩|⟨c3,h⟩
 ·obtain⟨x5,bx5,h⟩:=aJ h
  obtain⟨q6,bq6,h⟩:=aJ h
  obtain⟨x7,bx7,h⟩:=aJ h
  obtain⟨x8,bx8,h⟩:=aJ h
  obtain⟨x9,bx9,h⟩:=aJ h
  obtain⟨l10,bl10,h⟩:=aJ h
  obtain⟨r11,br11,h⟩:=aJ h
  obtain⟨x12,bx12,h⟩:=aJ h
  obtain⟨r13,br13,h⟩:=aJ h
  obtain rfl:=lf h
  exact AU Vz (p4<|sg 0 c3<|I1 [0,1,0,0,12,28,60,124,252,511,0,0,3072,7168,15360,31744,65535,0,0,393216,917504,1966080,4063232,0,0,25165824,58720256,125829120,268304384,0,1073610752,2147483647,4294967295]<|sv (ee.ia (k:=.i64) bx5)<|sv (gJ x5)<|sv (iE x5)<|cq (qa underlying9 x5.Name)<|sv (JT (P:=Pg) (t:=3) bq6)<|sv (ee.ia (k:=.i64) bx7)<|sv (eL x7)<|sv (eO x7)<|cq (dK.ln x7.Names)<|sv (ee.ia (k:=.i64) bx8)<|sv (n9 x8)<|sv (oc x8)<|sv (nH.mk' (v:=LP) Ko ([x8.Pred]:List ax) 1 (by kernel_rfl))<|sv (ee.ia (k:=.i64) bx9)<|sv (iJ x9)<|sv (iL x9)<|sv (nH.ap bl10)<|cW (KL br11)<|sv (ee.ia (k:=.i64) bx12)<|sv (dG x12)<|sv (dH x12)<|cW (hR4 _ _ _ br13)<|eF .normal (mE v most (cp ((cp ((cp ((cp ((cp (n+1))+q6))+(x7.Names.length:Int)))+r11))+r13)) (cp (i+1))))<|by kernel_rfl
 ·obtain rfl:=lf h
  have z:=p4<|sg 0 c3<|eF (.exit 0) (ue n)
  exact kc Vz (by intro hx;cases hx) z<|by kernel_rfl
theorem Gz(hR4:y6 R4){x:Int}(h:xK R4 v most n i=some x):aR Pg GE 0 (.loop (cA WJ 119)) (EX (.exit 0) (ue x)) (mE v most n i):=
 aR.loop (S:=fun(zz:Int×Int)=>mE v most zz.1 zz.2) (ex:=(fun _=>.exit 0)) (s:=(n,i)) h fun zz y hy=>EC R4 v most zz.1 zz.2 hR4 hy
end
def vH(R4:vJ)(a:waB)(most:Int):Option Int:=
 (xK R4 a most 0 0).bind fun o14=>
 some o14
theorem Jf(R4:vJ)(hR4:y6 R4){a:waB}{most:Int}{r:Int}(h:vH R4 a most=some r):CC Pg GE 95 [sl ai a,.int .i64 most] (.int .i64 r) []:=by
 obtain⟨o14,bo14,h⟩:=aJ h
 obtain rfl:=lf h
 have z:=dS (Gz R4 a most 0 0 hR4 bo14)<|en (aI (rP (.int .i64 o14))<|trivial)
 exact cR Vz call95 func95 (c:=WJ) rfl (aI (au aN a) (aI trivial trivial)) z<|by kernel_rfl
def zt:((waB×Int)->Option Int)->(waB×Int)->Option Int:=fun(rec:(waB×Int)->Option Int) (x:waB×Int)=>vH (fun a most=>rec (a,most)) x.1 x.2
def AB(a:waB)(most:Int):Option Int:=sd zt (a,most)
theorem Da{a:waB}{most:Int}{r:Int}(h:AB a most=some r):CC Pg GE 95 [sl ai a,.int .i64 most] (.int .i64 r) []:=
 eM (F:=zt) (M:=fun(x:waB×Int) (r:Int)=>CC Pg GE 95 [sl ai x.1,.int .i64 x.2] (.int .i64 r) []) (fun rec hrec x r h=>Jf _ (fun a most r h=>hrec (a,most) r h) h) h
noncomputable def WK:Code:=f96.body.getD .skip
def VA:List Nat:=[27]
section
variable(v:waA)(most:Int)(n:Int)(i:Int)
def Hy:aA:=bj 28 [(0,sl cS v),(1,.int .i64 most),(5,.int .i64 n),(6,.int .i64 i)] [] []
def tZ(o:Bool):aA:=bj 28 [(0,sl cS v),(1,.int .i64 most),(5,.int .i64 n),(6,.int .i64 i),(15,.bool o)] [] []
def th:Option Bool:=
 if(decide (i<(v.length:Int)))=true then
  some (decide (n<=most))
 else
  some false
theorem Gu{x:Bool}(h:th v most n i=some x):aR Pg GE 0 (cA WK 476) (EX .normal (tZ v most n i x)) (Hy v most n i):=by
 rcases aP h with⟨c1,h⟩|⟨c1,h⟩
 ·obtain rfl:=lf h
  exact bJ VA (cq (dK.ln v)<|sg 5 c1<|eF .normal (tZ v most n i (decide (n<=most))))<|by kernel_rfl
 ·obtain rfl:=lf h
  exact bJ VA (cq (dK.ln v)<|sg 5 c1<|eF .normal (tZ v most n i false))<|by kernel_rfl
end
section
variable(v:waA)(most:Int)(n:Int)(i:Int)
def mC:aA:=bj 28 [(0,sl cS v),(1,.int .i64 most),(5,.int .i64 n),(6,.int .i64 i)] [] []
def ua(o:Int):aA:=bj 28 [(5,.int .i64 o)] [] []
def kg:Option ((Int×Int)⊕(Int)):=
 (th v most n i).bind fun o2=>
 if o2=true then
  (gY v i).bind fun x5=>
  (qu .i64 (x5.length:Int) 50).bind fun q6=>
  some (.inl (cp ((cp (n+1))+q6),cp (i+1)))
 else
  some (.inr n)
def xI:Option Int:=loop (fun(zz:Int×Int)=>kg v most zz.1 zz.2) (n,i)
theorem Ez{y:(Int×Int)⊕(Int)}(h:kg v most n i=some y):aR Pg GE 0 (cA WK 119) (LQ (fun(zz:Int×Int)=>mC v most zz.1 zz.2) (fun _=>.exit 0) ua y) (mC v most n i):=by
 obtain⟨o2,bo2,h⟩:=aJ h
 have p4:=fun{sc F} (r:PS sc F)=>rN 1<|dS (Gu v most n i bo2)<|r
 rcases aP h with⟨c3,h⟩|⟨c3,h⟩
 ·obtain⟨x5,bx5,h⟩:=aJ h
  obtain⟨q6,bq6,h⟩:=aJ h
  obtain rfl:=lf h
  exact AU VA (p4<|sg 0 c3<|sv (dK.ia (k:=.i64) bx5)<|sv (cZ Ge (.str x5) [])<|cq (qa underlying9 x5)<|sv (JT (P:=Pg) (t:=3) bq6)<|eF .normal (mC v most (cp ((cp (n+1))+q6)) (cp (i+1))))<|by kernel_rfl
 ·obtain rfl:=lf h
  have z:=p4<|sg 0 c3<|eF (.exit 0) (ua n)
  exact kc VA (by intro hx;cases hx) z<|by kernel_rfl
theorem Gv{x:Int}(h:xI v most n i=some x):aR Pg GE 0 (.loop (cA WK 119)) (EX (.exit 0) (ua x)) (mC v most n i):=
 aR.loop (S:=fun(zz:Int×Int)=>mC v most zz.1 zz.2) (ex:=(fun _=>.exit 0)) (s:=(n,i)) h fun zz y hy=>Ez v most zz.1 zz.2 hy
end
def AA(a:waA)(most:Int):Option Int:=
 (xI a most 0 0).bind fun o7=>
 some o7
theorem KK{a:waA}{most:Int}{r:Int}(h:AA a most=some r):CC Pg GE 96 [sl cS a,.int .i64 most] (.int .i64 r) []:=by
 obtain⟨o7,bo7,h⟩:=aJ h
 obtain rfl:=lf h
 have z:=dS (Gv a most 0 0 bo7)<|en (aI (rP (.int .i64 o7))<|trivial)
 exact cR VA call96 func96 (c:=WK) rfl (aI (au cb a) (aI trivial trivial)) z<|by kernel_rfl
noncomputable def SK:Code:=f46.body.getD .skip
def Pm:List Nat:=[119]
section
variable(most:Int)(e:af)(n:Int)(i:Int)
def I8:aA:=bj 120 [(1,.int .i64 most),(2,.eptr (ae e)),(5,.int .i64 n),(6,.int .i64 i)] [.dead] []
def wm(o:Bool):aA:=bj 120 [(1,.int .i64 most),(2,.eptr (ae e)),(5,.int .i64 n),(6,.int .i64 i),(28,.bool o)] [.dead] []
def vD:Option Bool:=
 if(decide (i<(e.Params.length:Int)))=true then
  some (decide (n<=most))
 else
  some false
theorem Hp{x:Bool}(h:vD most e n i=some x):aR Pg GE 0 (cA SK 476) (EX .normal (wm most e n i x)) (I8 most e n i):=by
 have p4:=fun{sc F} (r:PS sc F)=>sv (bE e)<|sv (bG e)<|cq (lC.ln e.Params)<|r
 rcases aP h with⟨c3,h⟩|⟨c3,h⟩
 ·obtain rfl:=lf h
  exact bJ Pm (p4<|sg 6 c3<|eF .normal (wm most e n i (decide (n<=most))))<|by kernel_rfl
 ·obtain rfl:=lf h
  exact bJ Pm (p4<|sg 6 c3<|eF .normal (wm most e n i false))<|by kernel_rfl
end
section
variable(most:Int)(e:af)(n:Int)(i:Int)
def nS:aA:=bj 120 [(1,.int .i64 most),(2,.eptr (ae e)),(5,.int .i64 n),(6,.int .i64 i)] [.dead] []
def wq(o:Int):aA:=bj 120 [(1,.int .i64 most),(2,.eptr (ae e)),(5,.int .i64 o)] [.dead] []
def lS:Option ((Int×Int)⊕(Int)):=
 (vD most e n i).bind fun o5=>
 if o5=true then
  (gY e.Params i).bind fun x8=>
  (qu .i64 (x8.Name.length:Int) 50).bind fun q9=>
  (gY e.Params i).bind fun x10=>
  (AB ([x10.Type_]:List aj) most).bind fun r11=>
  some (.inl (cp ((cp ((cp (n+1))+q9))+r11),cp (i+1)))
 else
  some (.inr n)
def zd:Option Int:=loop (fun(zz:Int×Int)=>lS most e zz.1 zz.2) (n,i)
theorem Gp{y:(Int×Int)⊕(Int)}(h:lS most e n i=some y):aR Pg GE 0 (cA SK 119) (LQ (fun(zz:Int×Int)=>nS most e zz.1 zz.2) (fun _=>.exit 0) (wq most e) y) (nS most e n i):=by
 obtain⟨o5,bo5,h⟩:=aJ h
 have p7:=fun{sc F} (r:PS sc F)=>rN 1<|dS (Hp most e n i bo5)<|r
 rcases aP h with⟨c6,h⟩|⟨c6,h⟩
 ·obtain⟨x8,bx8,h⟩:=aJ h
  obtain⟨q9,bq9,h⟩:=aJ h
  obtain⟨x10,bx10,h⟩:=aJ h
  obtain⟨r11,br11,h⟩:=aJ h
  obtain rfl:=lf h
  exact AU Pm (p7<|sg 0 c6<|I1 [0,1,0,4,0,28,60,124,252,508,1023,0,2048,0,14336,30720,63488,129024,0,522240,1048575,2097151]<|sv (bE e)<|sv (bG e)<|sv (lC.ia (k:=.i64) bx8)<|sv (pH x8)<|sv (rG x8)<|cq (qa underlying9 x8.Name)<|sv (JT (P:=Pg) (t:=3) bq9)<|sv (bE e)<|sv (bG e)<|sv (lC.ia (k:=.i64) bx10)<|sv (uw x10)<|sv (uB x10)<|sv (ee.mk' (v:=LR) Kp ([x10.Type_]:List aj) 1 (by kernel_rfl))<|cW (Da br11)<|eF .normal (nS most e (cp ((cp ((cp (n+1))+q9))+r11)) (cp (i+1))))<|by kernel_rfl
 ·obtain rfl:=lf h
  have z:=p7<|sg 0 c6<|eF (.exit 0) (wq most e n)
  exact kc Pm (by intro hx;cases hx) z<|by kernel_rfl
theorem Hs{x:Int}(h:zd most e n i=some x):aR Pg GE 0 (.loop (cA SK 119)) (EX (.exit 0) (wq most e x)) (nS most e n i):=
 aR.loop (S:=fun(zz:Int×Int)=>nS most e zz.1 zz.2) (ex:=(fun _=>.exit 0)) (s:=(n,i)) h fun zz y hy=>Gp most e zz.1 zz.2 hy
end
section
variable(most:Int)(e:af)(n:Int)(i:Int)
def I9:aA:=bj 120 [(1,.int .i64 most),(2,.eptr (ae e)),(5,.int .i64 n),(7,.int .i64 i)] [.dead] []
def wn(o:Bool):aA:=bj 120 [(1,.int .i64 most),(2,.eptr (ae e)),(5,.int .i64 n),(7,.int .i64 i),(61,.bool o)] [.dead] []
def vE:Option Bool:=
 if(decide (i<(e.Kids.length:Int)))=true then
  some (decide (n<=most))
 else
  some false
theorem Hq{x:Bool}(h:vE most e n i=some x):aR Pg GE 0 (cA SK 988) (EX .normal (wn most e n i x)) (I9 most e n i):=by
 have p14:=fun{sc F} (r:PS sc F)=>sv (aX e)<|sv (aY e)<|cq (g6.ln e.Kids)<|r
 rcases aP h with⟨c13,h⟩|⟨c13,h⟩
 ·obtain rfl:=lf h
  exact bJ Pm (p14<|sg 6 c13<|eF .normal (wn most e n i (decide (n<=most))))<|by kernel_rfl
 ·obtain rfl:=lf h
  exact bJ Pm (p14<|sg 6 c13<|eF .normal (wn most e n i false))<|by kernel_rfl
end
section
variable(R3:uf)(most:Int)(e:af)(n:Int)(i:Int)
def nT:aA:=bj 120 [(1,.int .i64 most),(2,.eptr (ae e)),(5,.int .i64 n),(7,.int .i64 i)] [.dead] []
def wr(o:Int):aA:=bj 120 [(1,.int .i64 most),(2,.eptr (ae e)),(5,.int .i64 o)] [.dead] []
def lT:Option ((Int×Int)⊕(Int)):=
 (vE most e n i).bind fun o15=>
 if o15=true then
  (gY e.Kids i).bind fun x18=>
  (R3 x18 (cp (most - n))).bind fun r19=>
  some (.inl (cp (n+r19),cp (i+1)))
 else
  some (.inr n)
def ze:Option Int:=loop (fun(zz:Int×Int)=>lT R3 most e zz.1 zz.2) (n,i)
theorem Gq(hR3:tV R3){y:(Int×Int)⊕(Int)}(h:lT R3 most e n i=some y):aR Pg GE 0 (cA SK 247) (LQ (fun(zz:Int×Int)=>nT most e zz.1 zz.2) (fun _=>.exit 2) (wr most e) y) (nT most e n i):=by
 obtain⟨o15,bo15,h⟩:=aJ h
 have p17:=fun{sc F} (r:PS sc F)=>rN 1<|dS (Hq most e n i bo15)<|r
 rcases aP h with⟨c16,h⟩|⟨c16,h⟩
 ·obtain⟨x18,bx18,h⟩:=aJ h
  obtain⟨r19,br19,h⟩:=aJ h
  obtain rfl:=lf h
  exact AU Pm (p17<|sg 0 c16<|sv (aX e)<|sv (aY e)<|sv (g6.ia (k:=.i64) bx18)<|sv (bv x18)<|cW (hR3 _ _ _ br19)<|eF .normal (nT most e (cp (n+r19)) (cp (i+1))))<|by kernel_rfl
 ·obtain rfl:=lf h
  have z:=p17<|sg 0 c16<|eF (.exit 2) (wr most e n)
  exact kc Pm (by intro hx;cases hx) z<|by kernel_rfl
theorem Ht(hR3:tV R3){x:Int}(h:ze R3 most e n i=some x):aR Pg GE 0 (.loop (cA SK 247)) (EX (.exit 2) (wr most e x)) (nT most e n i):=
 aR.loop (S:=fun(zz:Int×Int)=>nT most e zz.1 zz.2) (ex:=(fun _=>.exit 2)) (s:=(n,i)) h fun zz y hy=>Gq R3 most e zz.1 zz.2 hR3 hy
end
section
variable(most:Int)(e:af)(n:Int)(i:Int)
def Ja:aA:=bj 120 [(1,.int .i64 most),(2,.eptr (ae e)),(5,.int .i64 n),(8,.int .i64 i)] [.dead] []
def wo(o:Bool):aA:=bj 120 [(1,.int .i64 most),(2,.eptr (ae e)),(5,.int .i64 n),(8,.int .i64 i),(84,.bool o)] [.dead] []
def vF:Option Bool:=
 if(decide (i<(e.Alts.length:Int)))=true then
  some (decide (n<=most))
 else
  some false
theorem Hr{x:Bool}(h:vF most e n i=some x):aR Pg GE 0 (cA SK 2012) (EX .normal (wo most e n i x)) (Ja most e n i):=by
 have p22:=fun{sc F} (r:PS sc F)=>sv (aE e)<|sv (aF e)<|cq (eQ.ln e.Alts)<|r
 rcases aP h with⟨c21,h⟩|⟨c21,h⟩
 ·obtain rfl:=lf h
  exact bJ Pm (p22<|sg 6 c21<|eF .normal (wo most e n i (decide (n<=most))))<|by kernel_rfl
 ·obtain rfl:=lf h
  exact bJ Pm (p22<|sg 6 c21<|eF .normal (wo most e n i false))<|by kernel_rfl
end
section
variable(R3:uf)(most:Int)(e:af)(n:Int)(i:Int)
def nU:aA:=bj 120 [(1,.int .i64 most),(2,.eptr (ae e)),(5,.int .i64 n),(8,.int .i64 i)] [.dead] []
def ws(o:Int):aA:=bj 120 [(5,.int .i64 o)] [.dead] []
def lU:Option ((Int×Int)⊕(Int)):=
 (vF most e n i).bind fun o23=>
 if o23=true then
  (gY e.Alts i).bind fun x26=>
  (qu .i64 (x26.Con.length:Int) 50).bind fun q27=>
  (gY e.Alts i).bind fun x28=>
  (AA x28.Names most).bind fun r29=>
  (gY e.Alts i).bind fun x30=>
  (R3 x30.Body (cp (most - (cp ((cp ((cp (n+1))+q27))+r29))))).bind fun r31=>
  some (.inl (cp ((cp ((cp ((cp (n+1))+q27))+r29))+r31),cp (i+1)))
 else
  some (.inr n)
def zf:Option Int:=loop (fun(zz:Int×Int)=>lU R3 most e zz.1 zz.2) (n,i)
theorem Gr(hR3:tV R3){y:(Int×Int)⊕(Int)}(h:lU R3 most e n i=some y):aR Pg GE 0 (cA SK 503) (LQ (fun(zz:Int×Int)=>nU most e zz.1 zz.2) (fun _=>.exit 4) ws y) (nU most e n i):=by
 obtain⟨o23,bo23,h⟩:=aJ h
 have p25:=fun{sc F} (r:PS sc F)=>rN 1<|dS (Hr most e n i bo23)<|r
 rcases aP h with⟨c24,h⟩|⟨c24,h⟩
 ·obtain⟨x26,bx26,h⟩:=aJ h
  obtain⟨q27,bq27,h⟩:=aJ h
  obtain⟨x28,bx28,h⟩:=aJ h
  obtain⟨r29,br29,h⟩:=aJ h
  obtain⟨x30,bx30,h⟩:=aJ h
  obtain⟨r31,br31,h⟩:=aJ h
  obtain rfl:=lf h
  exact AU Pm (p25<|sg 0 c24<|I1 [0,1,0,4,0,28,60,124,252,508,1023,0,2048,0,14336,30720,63488,0,260096,524287,1048575]<|sv (aE e)<|sv (aF e)<|sv (eQ.ia (k:=.i64) bx26)<|sv (xU x26)<|sv (zT x26)<|cq (qa underlying9 x26.Con)<|sv (JT (P:=Pg) (t:=3) bq27)<|sv (aE e)<|sv (aF e)<|sv (eQ.ia (k:=.i64) bx28)<|sv (pG x28)<|sv (pL x28)<|cW (KK br29)<|sv (aE e)<|sv (aF e)<|sv (eQ.ia (k:=.i64) bx30)<|sv (tv x30)<|sv (tA x30)<|cW (hR3 _ _ _ br31)<|eF .normal (nU most e (cp ((cp ((cp ((cp (n+1))+q27))+r29))+r31)) (cp (i+1))))<|by kernel_rfl
 ·obtain rfl:=lf h
  have z:=p25<|sg 0 c24<|eF (.exit 4) (ws n)
  exact kc Pm (by intro hx;cases hx) z<|by kernel_rfl
theorem Hu(hR3:tV R3){x:Int}(h:zf R3 most e n i=some x):aR Pg GE 0 (.loop (cA SK 503)) (EX (.exit 4) (ws x)) (nU most e n i):=
 aR.loop (S:=fun(zz:Int×Int)=>nU most e zz.1 zz.2) (ex:=(fun _=>.exit 4)) (s:=(n,i)) h fun zz y hy=>Gr R3 most e zz.1 zz.2 hR3 hy
end
def xG(R3:uf)(e:af)(most:Int):Option Int:=
 (qu .i64 (e.Name.length:Int) 50).bind fun q1=>
 (AB e.Types most).bind fun r2=>
 (zd most e (cp ((cp (1+q1))+r2)) 0).bind fun o12=>
 (ze R3 most e o12 0).bind fun o20=>
 (zf R3 most e o20 0).bind fun o32=>
 some o32
theorem KI(R3:uf)(hR3:tV R3){e:af}{most:Int}{r:Int}(h:xG R3 e most=some r):CC Pg GE 46 [.agg (ae e),.int .i64 most] (.int .i64 r) []:=by
 obtain⟨q1,bq1,h⟩:=aJ h
 obtain⟨r2,br2,h⟩:=aJ h
 obtain⟨o12,bo12,h⟩:=aJ h
 obtain⟨o20,bo20,h⟩:=aJ h
 obtain⟨o32,bo32,h⟩:=aJ h
 obtain rfl:=lf h
 have z:=se (cJ e)<|I1 [0,1,3,7,15,0,32,0,224,511,1023]<|sv (eu e)<|sv (fc e)<|cq (qa underlying9 e.Name)<|sv (JT (P:=Pg) (t:=3) bq1)<|sv (aL e)<|sv (aM e)<|cW (Da br2)<|dS (Hs most e (cp ((cp (1+q1))+r2)) 0 bo12)<|dS (Ht R3 most e o12 0 hR3 bo20)<|dS (Hu R3 most e o20 0 hR3 bo32)<|en (aI (rP (.int .i64 o32))<|trivial)
 exact cR Pm call46 func46 (c:=SK) rfl (aI (ay e) (aI trivial trivial)) z<|by kernel_rfl
def Ck:((af×Int)->Option Int)->(af×Int)->Option Int:=fun(rec:(af×Int)->Option Int) (x:af×Int)=>xG (fun e most=>rec (e,most)) x.1 x.2
def Ho(e:af)(most:Int):Option Int:=sd Ck (e,most)
theorem LZ{e:af}{most:Int}{r:Int}(h:Ho e most=some r):CC Pg GE 46 [.agg (ae e),.int .i64 most] (.int .i64 r) []:=
 eM (F:=Ck) (M:=fun(x:af×Int) (r:Int)=>CC Pg GE 46 [.agg (ae x.1),.int .i64 x.2] (.int .i64 r) []) (fun rec hrec x r h=>KI _ (fun e most r h=>hrec (e,most) r h) h) h
noncomputable def Ys:Code:=f10.body.getD .skip
def Yb:List Nat:=[]
def AE(e:af):Option Bool:=
 (Ho e 600).bind fun r1=>
 some (decide (r1<=600))
theorem KP{e:af}{r:Bool}(h:AE e=some r):CC Pg GE 10 [.agg (ae e)] (.bool r) []:=by
 obtain⟨r1,br1,h⟩:=aJ h
 obtain rfl:=lf h
 have z:=se (cJ e)<|sv (bv e)<|cW (LZ br1)<|en (aI (rP (.bool (decide (r1<=600))))<|trivial)
 exact cR Yb call10 func10 (c:=Ys) rfl (aI (ay e) trivial) z<|by kernel_rfl
noncomputable def Yz:Code:=f48.body.getD .skip
def Yi:List Nat:=[]
def gH(s:ag):Option af:=
 some (⟨3,s,0,([]:List af),([]:List av),([]:List aH),([]:List aj)⟩:af)
theorem fb{s:ag}{r:af}(h:gH s=some r):CC Pg GE 48 [.str s] (.agg (ae r)) [(3,28),(4,85),(5,89),(6,60)]:=by
 obtain rfl:=lf h
 have z:=sx wG<|sb (Dp 3 s) (Dk 3 s)<|sy (bD (⟨3,s,0,([]:List af),([]:List av),([]:List aH),([]:List aj)⟩:af))<|en (aI (ra (⟨3,s,0,([]:List af),([]:List av),([]:List aH),([]:List aj)⟩:af))<|aI (ay (⟨3,s,0,([]:List af),([]:List av),([]:List aH),([]:List aj)⟩:af))<|rT)
 exact cR Yi call48 func48 (c:=Yz) rfl (aI trivial trivial) z<|by kernel_rfl
noncomputable def Yy:Code:=f47.body.getD .skip
def Yh:List Nat:=[]
def AD(s:ag)(a:af)(a2:af):Option af:=
 some (⟨7,s,0,([a,a2]:List af),([]:List av),([]:List aH),([]:List aj)⟩:af)
theorem ul{s:ag}{a:af}{a2:af}{r:af}(h:AD s a a2=some r):CC Pg GE 47 [.str s,.agg (ae a),.agg (ae a2)] (.agg (ae r)) [(4,85),(5,89),(6,60)]:=by
 obtain rfl:=lf h
 have z:=se (cJ a)<|se (cJ a2)<|sx wG<|sv (bv a)<|sv (bv a2)<|sv (g6.mk' (v:=rR) nk ([a,a2]:List af) 2 (by kernel_rfl))<|sb (zF 7 s ([a,a2]:List af)) (zD 7 s ([a,a2]:List af))<|sy (bD (⟨7,s,0,([a,a2]:List af),([]:List av),([]:List aH),([]:List aj)⟩:af))<|en (aI (ra (⟨7,s,0,([a,a2]:List af),([]:List av),([]:List aH),([]:List aj)⟩:af))<|aI (ay (⟨7,s,0,([a,a2]:List af),([]:List av),([]:List aH),([]:List aj)⟩:af))<|rT)
 exact cR Yh call47 func47 (c:=Yy) rfl (aI trivial (aI (ay a) (aI (ay a2) trivial))) z<|by kernel_rfl
noncomputable def Xl:Code:=f81.body.getD .skip
def W2:List Nat:=[]
section
variable(t6:waA)(t7:Int)(t8:Int)(m1:(List (ag×Bool)))
def iA:aA:=bj 18 [(0,.bptr 0 0),(6,sl cS t6),(7,.int .i64 t7),(8,.int .i64 t8)] [.cells [.mapr 1] [],.map (aD PVal.bool m1)] []
def nM(o:(List (ag×Bool))):aA:=bj 18 [] [.cells [.mapr 1] [],.map (aD PVal.bool o)] []
def eI:Option ((Int×(List (ag×Bool)))⊕(((List (ag×Bool))))):=
 if(decide (t8<t7))=true then
  (gY t6 t8).bind fun x2=>
  some (.inl (cp (t8+1),qS m1 x2 true))
 else
  some (.inr m1)
def mn:Option (((List (ag×Bool)))):=loop (fun(zz:Int×(List (ag×Bool)))=>eI t6 t7 zz.1 zz.2) (t8,m1)
theorem yZ{y:(Int×(List (ag×Bool)))⊕(((List (ag×Bool))))}(h:eI t6 t7 t8 m1=some y):aR Pg GE 2 (cA Xl 15) (LQ (fun(zz:Int×(List (ag×Bool)))=>iA t6 t7 zz.1 zz.2) (fun _=>.exit 0) nM y) (iA t6 t7 t8 m1):=by
 rcases aP h with⟨c1,h⟩|⟨c1,h⟩
 ·obtain⟨x2,bx2,h⟩:=aJ h
  obtain rfl:=lf h
  exact AU W2 (sg 0 c1<|sv (dK.ia (k:=.i64) bx2)<|sv (cZ Ge (.str x2) [])<|ss<|XS (NW (f:=PVal.bool) underlying124 underlying9 m1 x2 true)<|eF .normal (iA t6 t7 (cp (t8+1)) (qS m1 x2 true)))<|by kernel_rfl
 ·obtain rfl:=lf h
  have z:=sg 0 c1<|eF (.exit 0) (nM m1)
  exact kc W2 (by intro hx;cases hx) z<|by kernel_rfl
theorem Au{x:((List (ag×Bool)))}(h:mn t6 t7 t8 m1=some x):aR Pg GE 2 (.loop (cA Xl 15)) (EX (.exit 0) (nM x)) (iA t6 t7 t8 m1):=
 aR.loop (S:=fun(zz:Int×(List (ag×Bool)))=>iA t6 t7 zz.1 zz.2) (ex:=(fun _=>.exit 0)) (s:=(t8,m1)) h fun zz y hy=>yZ t6 t7 zz.1 zz.2 hy
end
def eU(a:waA)(k1:(List (ag×Bool))):Option ((List (ag×Bool))):=
 (mn a (a.length:Int) 0 k1).bind fun o3=>
 some o3
theorem fV{a:waA}{k1:(List (ag×Bool))}{r:(List (ag×Bool))}(h:eU a k1=some r):C Pg GE 81 [.bptr 0 0,sl cS a] [] [.cells [.mapr 1] [],.map (aD PVal.bool k1)] (.tuple []) [] [.cells [.mapr 1] [],.map (aD PVal.bool r)]:=by
 obtain⟨o3,bo3,h⟩:=aJ h
 obtain rfl:=lf h
 have z:=cq (dK.ln a)<|dS (Au a (a.length:Int) 0 k1 bo3)<|en (aI (rP (.tuple []))<|aI trivial<|aI (rL [.cells [.mapr 1] [],.map (aD PVal.bool o3)])<|(aI (aI (aZ (i:=1) (n:=2) rfl) trivial) (aI (mA (n:=2) PVal.bool (fun x=>trivial) o3) trivial)))
 exact C.evGp (A:=W2) mixed (m:=2) (c:=Xl) rfl call81 func81 rfl z<|by kernel_rfl
noncomputable def YG:Code:=f78.body.getD .skip
def Yp:List Nat:=[10]
def lZ(a:waA):Option ((List (ag×Bool))):=
 (eU a ([]:List (ag×Bool))).bind fun r1=>
 some r1
theorem rj{a:waA}{r:(List (ag×Bool))}(h:lZ a=some r):CN Pg GE 78 [sl cS a] (.bptr 1 0) [] [.map (aD PVal.bool r),.cells [.mapr 0] []]:=by
 obtain⟨r1,br1,h⟩:=aJ h
 obtain rfl:=lf h
 have z:=sv (show dX Pg 126 [(0,.mapr 0)]=some (.agg [.mapr 0]) by kernel_rfl)<|sx (Wy [.mapr 0])<|si (.cg ⟨[1,0],[.bptr 0 0,sl cS a],[],[.cells [.mapr 0] [],.map (aD PVal.bool ([]:List (ag×Bool)))],[.cells [.mapr 1] [],.map (aD PVal.bool ([]:List (ag×Bool)))],[.cells [.mapr 0] [],.map (aD PVal.bool r1)],[.cells [.mapr 1] [],.map (aD PVal.bool r1)],.tuple [],.tuple [],[]⟩) (fV br1)<|sf (aI (xB [1,0] 0 1 0 rfl) (aI (xR [1,0] (sl cS a) (au cb a)) trivial))<|sf (aI (aI (rB (.cells [.mapr 0] [])) (aI (rW []) (aI (xM [1,0] 1 0 rfl) trivial))) (aI (aI (rB (.map (aD PVal.bool ([]:List (ag×Bool))))) (aI (rM (aD PVal.bool ([]:List (ag×Bool)))) (mA (n:=0) PVal.bool (fun x=>trivial) ([]:List (ag×Bool))))) trivial))<|sf (aI (aI (rW []) (aI (xM [1,0] 1 0 rfl) trivial)) (aI (aI (rM (aD PVal.bool r1)) (mA (n:=0) PVal.bool (fun x=>trivial) r1)) trivial))<|sf (xR [1,0] (.tuple []) trivial)<|en (aI (rP (.bptr 1 0))<|aI (aZ (i:=1) (n:=2) rfl)<|aI (rL [.map (aD PVal.bool r1),.cells [.mapr 0] []])<|(aI (mA (n:=2) PVal.bool (fun x=>trivial) r1) (aI (aI (aZ (i:=0) (n:=2) rfl) trivial) trivial)))
 exact CN.evNp (A:=Yp) mixed (c:=YG) call78 func78 rfl z<|by kernel_rfl
abbrev eb:=(af->waA->(List (ag×Bool))->Option ((List (ag×Bool))))
abbrev d9(R:eb):Prop:=∀(e:af) (hidden:waA) (k2:(List (ag×Bool))) (r:(List (ag×Bool))),R e hidden k2=some r->C Pg GE 79 [.agg (ae e),sl cS hidden,.func (.func 80) [] [.bptr 0 0]] [] [.cells [.bptr 1 0] [],.cells [.mapr 2] [],.map (aD PVal.bool k2)] (.tuple []) [] [.cells [.bptr 1 0] [],.cells [.mapr 2] [],.map (aD PVal.bool r)]
noncomputable def VN:Code:=f100.body.getD .skip
def Vq:List Nat:=[]
def f6(e:af):Option Bool:=
 if(e.Op==3)=true then
  some true
 else
  some (e.Op==5)
theorem lh{e:af}{r:Bool}(h:f6 e=some r):CC Pg GE 100 [.agg (ae e)] (.bool r) []:=by
 have p2:=fun{sc F} (r:PS sc F)=>se (cJ e)<|sv (cX e)<|sv (cY e)<|r
 rcases aP h with⟨c1,h⟩|⟨c1,h⟩
 ·obtain rfl:=lf h
  have z:=p2<|sg 4 c1<|en (aI (rP (.bool true))<|trivial)
  exact cR Vq call100 func100 (c:=VN) rfl (aI (ay e) trivial) z<|by kernel_rfl
 ·obtain rfl:=lf h
  have z:=p2<|sg 4 c1<|sv (cX e)<|sv (cY e)<|en (aI (rP (.bool (e.Op==5)))<|trivial)
  exact cR Vq call100 func100 (c:=VN) rfl (aI (ay e) trivial) z<|by kernel_rfl
noncomputable def S4:Code:=f131.body.getD .skip
def Qy:List Nat:=[10,17]
section
variable(s:waA)(v:ag)(t7:Int)(t8:Int)
def jP:aA:=bj 19 [(0,sl cS s),(1,.str v),(7,.int .i64 t7),(8,.int .i64 t8)] [] []
def jR(o:Int⊕(Unit)):Exit:=match o with
 |(.inl _)=>.ret
 |(.inr _)=>.exit 0
def ie(o:Int⊕(Unit)):aA:=match o with
 |(.inl o)=>bj 19 [(4,.int .i64 o)] [] []
 |(.inr o)=>bj 19 [] [] []
def jQ:Option (Int⊕(Int⊕(Unit))):=
 if(decide (t8<t7))=true then
  (gY s t8).bind fun x2=>
  if(v==x2)=true then
   some (.inr (.inl t8))
  else
   some (.inl (cp (t8+1)))
 else
  some (.inr (.inr ()))
def sP:Option (Int⊕(Unit)):=loop (fun(zz:Int)=>jQ s v t7 zz) t8
theorem Br{y:Int⊕(Int⊕(Unit))}(h:jQ s v t7 t8=some y):aR Pg GE 0 (cA S4 55) (LQ (fun(zz:Int)=>jP s v t7 zz) jR ie y) (jP s v t7 t8):=by
 rcases aP h with⟨c1,h⟩|⟨c1,h⟩
 ·obtain⟨x2,bx2,h⟩:=aJ h
  have p4:=fun{sc F} (r:PS sc F)=>sg 0 c1<|sv (dK.ia (k:=.i64) bx2)<|sv (cZ Ge (.str x2) [])<|r
  rcases aP h with⟨c3,h⟩|⟨c3,h⟩
  ·obtain rfl:=lf h
   have z:=p4<|sg 0 c3<|eF (jR (.inl t8)) (ie (.inl t8))
   exact kc Qy (by intro hx;cases hx) z<|by kernel_rfl
  ·obtain rfl:=lf h
   exact AU Qy (p4<|sg 0 c3<|eF .normal (jP s v t7 (cp (t8+1))))<|by kernel_rfl
 ·obtain rfl:=lf h
  have z:=sg 0 c1<|eF (jR (.inr ())) (ie (.inr ()))
  exact kc Qy (by intro hx;cases hx) z<|by kernel_rfl
theorem uO{x:Int⊕(Unit)}(h:sP s v t7 t8=some x):aR Pg GE 0 (.loop (cA S4 55)) (EX (jR x) (ie x)) (jP s v t7 t8):=
 aR.loop (S:=fun(zz:Int)=>jP s v t7 zz) (ex:=jR) (s:=t8) h fun zz y hy=>Br s v t7 zz hy
end
def yl(s:waA)(v:ag):Option Int:=
 (sP s v (s.length:Int) 0).bind fun o5=>match o5 with
 |(.inl o5)=>
  some o5
 |(.inr o5)=>
  some (-1)
theorem GW{s:waA}{v:ag}{r:Int}(h:yl s v=some r):CC Pg GE 131 [sl cS s,.str v] (.int .i64 r) []:=by
 obtain⟨o5,bo5,h⟩:=aJ h
 rcases o5 with o5|o5
 ·obtain rfl:=lf h
  have z:=cq (dK.ln s)<|dS (e:=.ret) (s1:=ie (.inl o5)) (uO s v (s.length:Int) 0 bo5)<|en (aI (rP (.int .i64 o5))<|trivial)
  exact cR Qy call131 func131 (c:=S4) rfl (aI (au cb s) (aI trivial trivial)) z<|by kernel_rfl
 ·obtain rfl:=lf h
  have z:=cq (dK.ln s)<|dS (e:=.exit 0) (s1:=ie (.inr o5)) (uO s v (s.length:Int) 0 bo5)<|en (aI (rP (.int .i64 (-1)))<|trivial)
  exact cR Qy call131 func131 (c:=S4) rfl (aI (au cb s) (aI trivial trivial)) z<|by kernel_rfl
noncomputable def YI:Code:=f94.body.getD .skip
def Yr:List Nat:=[]
def uD(a:waA)(s:ag):Option Int:=
 (yl a s).bind fun r1=>
 some r1
theorem Ju{a:waA}{s:ag}{r:Int}(h:uD a s=some r):CC Pg GE 94 [sl cS a,.str s] (.int .i64 r) []:=by
 obtain⟨r1,br1,h⟩:=aJ h
 obtain rfl:=lf h
 have z:=cW (GW br1)<|en (aI (rP (.int .i64 r1))<|trivial)
 exact cR Yr call94 func94 (c:=YI) rfl (aI (au cb a) (aI trivial trivial)) z<|by kernel_rfl
noncomputable def YH:Code:=f80.body.getD .skip
def Yq:List Nat:=[]
def rO(a:af)(k2:(List (ag×Bool))):Option ((List (ag×Bool))):=
 (eU ([a.Name]:List ag) k2).bind fun r1=>
 some r1
theorem Fp{a:af}{k2:(List (ag×Bool))}{r:(List (ag×Bool))}(h:rO a k2=some r):C Pg GE 80 [.agg (ae a),.bptr 0 0] [] [.cells [.bptr 1 0] [],.cells [.mapr 2] [],.map (aD PVal.bool k2)] (.tuple []) [] [.cells [.bptr 1 0] [],.cells [.mapr 2] [],.map (aD PVal.bool r)]:=by
 obtain⟨r1,br1,h⟩:=aJ h
 obtain rfl:=lf h
 have z:=se (cJ a)<|ss<|sv (eu a)<|sv (fc a)<|sv (dK.mk' (v:=PVal.str) Lz ([a.Name]:List ag) 1 (by kernel_rfl))<|si (.cg ⟨[1,2],[.bptr 0 0,sl cS ([a.Name]:List ag)],[],[.cells [.mapr 2] [],.map (aD PVal.bool k2)],[.cells [.mapr 1] [],.map (aD PVal.bool k2)],[.cells [.mapr 2] [],.map (aD PVal.bool r1)],[.cells [.mapr 1] [],.map (aD PVal.bool r1)],.tuple [],.tuple [],[]⟩) (fV br1)<|sf (aI (xB [1,2] 0 1 0 rfl) (aI (xR [1,2] (sl cS ([a.Name]:List ag)) (au cb ([a.Name]:List ag))) trivial))<|sf (aI (aI (rB (.cells [.mapr 2] [])) (aI (rW []) (aI (xM [1,2] 1 2 rfl) trivial))) (aI (aI (rB (.map (aD PVal.bool k2))) (aI (rM (aD PVal.bool k2)) (mA (n:=0) PVal.bool (fun x=>trivial) k2))) trivial))<|sf (aI (aI (rW []) (aI (xM [1,2] 1 2 rfl) trivial)) (aI (aI (rM (aD PVal.bool r1)) (mA (n:=0) PVal.bool (fun x=>trivial) r1)) trivial))<|sf (xR [1,2] (.tuple []) trivial)<|en (aI (rP (.tuple []))<|aI trivial<|aI (rL [.cells [.bptr 1 0] [],.cells [.mapr 2] [],.map (aD PVal.bool r1)])<|(aI (aI (aZ (i:=1) (n:=3) rfl) trivial) (aI (aI (aZ (i:=2) (n:=3) rfl) trivial) (aI (mA (n:=3) PVal.bool (fun x=>trivial) r1) trivial))))
 exact C.evGp (A:=Yq) mixed (m:=3) (c:=YH) rfl call80 func80 rfl z<|by kernel_rfl
noncomputable def UC:Code:=f101.body.getD .skip
def Ue:List Nat:=[12,18]
section
variable(t6:waD)(t7:Int)(out:waA)(t8:Int)
def jU:aA:=bj 19 [(3,sl cS out),(6,sl aq t6),(7,.int .i64 t7),(8,.int .i64 t8)] [] [((3,0),9)]
def qe(o:waA):aA:=bj 19 [(3,sl cS o)] [] [((3,0),9)]
def fR:Option ((waA×Int)⊕(waA)):=
 if(decide (t8<t7))=true then
  (gY t6 t8).bind fun x2=>
  (app out ([x2.Name]:List ag)).bind fun l3=>
  some (.inl (l3,cp (t8+1)))
 else
  some (.inr out)
def oK:Option waA:=loop (fun(zz:waA×Int)=>fR t6 t7 zz.1 zz.2) (out,t8)
theorem Bx{y:(waA×Int)⊕(waA)}(h:fR t6 t7 out t8=some y):aR Pg GE 0 (cA UC 119) (LQ (fun(zz:waA×Int)=>jU t6 t7 zz.1 zz.2) (fun _=>.exit 0) qe y) (jU t6 t7 out t8):=by
 rcases aP h with⟨c1,h⟩|⟨c1,h⟩
 ·obtain⟨x2,bx2,h⟩:=aJ h
  obtain⟨l3,bl3,h⟩:=aJ h
  obtain rfl:=lf h
  have z:=sg 0 c1<|sv (lC.ia (k:=.i64) bx2)<|sv (AQ x2)<|sx Qd<|sx (mQ x2)<|ss<|sv (dK.mk' (v:=PVal.str) Lz ([x2.Name]:List ag) 1 (by kernel_rfl))<|sv (dK.ap bl3)<|tN 0 .normal (jU t6 t7 l3 (cp (t8+1))) rfl (d5 (aI (up (au cb l3)) (aI (up (au bo t6)) (aI trivial (aI trivial trivial))))) trivial
  exact ez (A:=Ue) mixed z<|by kernel_rfl
 ·obtain rfl:=lf h
  have z:=sg 0 c1<|eF (.exit 0) (qe out)
  exact kc Ue (by intro hx;cases hx) z<|by kernel_rfl
theorem CP{x:waA}(h:oK t6 t7 out t8=some x):aR Pg GE 0 (.loop (cA UC 119)) (EX (.exit 0) (qe x)) (jU t6 t7 out t8):=
 aR.loop (S:=fun(zz:waA×Int)=>jU t6 t7 zz.1 zz.2) (ex:=(fun _=>.exit 0)) (s:=(out,t8)) h fun zz y hy=>Bx t6 t7 zz.1 zz.2 hy
end
def kY(a:waD):Option waA:=
 (oK a (a.length:Int) ([]:List ag) 0).bind fun o4=>
 some o4
theorem oL{a:waD}{r:waA}(h:kY a=some r):CC Pg GE 101 [sl aq a] (sl cS r) [(0,9)]:=by
 obtain⟨o4,bo4,h⟩:=aJ h
 obtain rfl:=lf h
 have z:=cq (lC.ln a)<|dS (CP a (a.length:Int) ([]:List ag) 0 bo4)<|en (aI (rP (sl cS o4))<|(au cb o4))
 exact cR Ue call101 func101 (c:=UC) rfl (aI (au bo a) trivial) z<|by kernel_rfl
noncomputable def S3:Code:=f126.body.getD .skip
def Qx:List Nat:=[]
section
variable(kid:Int)(e:af)
def CT:aA:=bj 23 [(1,.int .i64 kid),(2,.eptr (ae e))] [.dead] []
def oV(o:Bool):aA:=bj 23 [(2,.eptr (ae e)),(5,.bool o)] [.dead] []
def ri:Option Bool:=
 if(e.Op==7)=true then
  some (decide (kid>0))
 else
  some false
theorem BA{x:Bool}(h:ri kid e=some x):aR Pg GE 0 (cA S3 26) (EX .normal (oV e x)) (CT kid e):=by
 have p2:=fun{sc F} (r:PS sc F)=>sv (cX e)<|sv (cY e)<|r
 rcases aP h with⟨c1,h⟩|⟨c1,h⟩
 ·obtain rfl:=lf h
  exact bJ Qx (p2<|sg 4 c1<|eF .normal (oV e (decide (kid>0))))<|by kernel_rfl
 ·obtain rfl:=lf h
  exact bJ Qx (p2<|sg 4 c1<|eF .normal (oV e false))<|by kernel_rfl
end
def rQ(e:af)(kid:Int):Option waA:=
 (ri kid e).bind fun o3=>
 if o3=true then
  some ([e.Name]:List ag)
 else
  if(e.Op==6)=true then
   (kY e.Params).bind fun r8=>
   some r8
  else
   some ([]:List ag)
theorem Fr{e:af}{kid:Int}{r:waA}(h:rQ e kid=some r):CC Pg GE 126 [.agg (ae e),.int .i64 kid] (sl cS r) [(0,9)]:=by
 obtain⟨o3,bo3,h⟩:=aJ h
 have p5:=fun{sc F} (r:PS sc F)=>se (cJ e)<|rN 1<|dS (BA kid e bo3)<|r
 rcases aP h with⟨c4,h⟩|⟨c4,h⟩
 ·obtain rfl:=lf h
  have z:=p5<|sg 0 c4<|sv (eu e)<|sv (fc e)<|sv (dK.mk' (v:=PVal.str) Lz ([e.Name]:List ag) 1 (by kernel_rfl))<|en (aI (rP (sl cS ([e.Name]:List ag)))<|(au cb ([e.Name]:List ag)))
  exact cR Qx call126 func126 (c:=S3) rfl (aI (ay e) (aI trivial trivial)) z<|by kernel_rfl
 ·have p7:=fun{sc F} (r:PS sc F)=>p5<|sg 0 c4<|sv (cX e)<|sv (cY e)<|r
  rcases aP h with⟨c6,h⟩|⟨c6,h⟩
  ·obtain⟨r8,br8,h⟩:=aJ h
   obtain rfl:=lf h
   have z:=p7<|sg 0 c6<|sv (bE e)<|sv (bG e)<|cW (oL br8)<|en (aI (rP (sl cS r8))<|(au cb r8))
   exact cR Qx call126 func126 (c:=S3) rfl (aI (ay e) (aI trivial trivial)) z<|by kernel_rfl
  ·obtain rfl:=lf h
   have z:=p7<|sg 0 c6<|en (aI (rP (sl cS ([]:List ag)))<|(au cb ([]:List ag)))
   exact cR Qx call126 func126 (c:=S3) rfl (aI (ay e) (aI trivial trivial)) z<|by kernel_rfl
noncomputable def UH:Code:=f79.body.getD .skip
def SP:List Nat:=[27]
section
variable(hidden:waA)(e:af)(m2:(List (ag×Bool)))
def rr:aA:=bj 57 [(1,sl cS hidden),(2,.func (.func 80) [] [.bptr 0 0]),(3,.eptr (ae e))] [.cells [.bptr 1 0] [],.cells [.mapr 2] [],.map (aD PVal.bool m2),.dead] []
def gD(o:Bool):aA:=bj 57 [(1,sl cS hidden),(2,.func (.func 80) [] [.bptr 0 0]),(3,.eptr (ae e)),(18,.bool o)] [.cells [.bptr 1 0] [],.cells [.mapr 2] [],.map (aD PVal.bool m2),.dead] []
def io:Option Bool:=
 (f6 e).bind fun r1=>
 if r1=true then
  (uD hidden e.Name).bind fun r4=>
  some (decide (r4<0))
 else
  some false
theorem qy{x:Bool}(h:io hidden e=some x):aR Pg GE 3 (cA UH 12) (EX .normal (gD hidden e m2 x)) (rr hidden e m2):=by
 obtain⟨r1,br1,h⟩:=aJ h
 have p3:=fun{sc F} (r:PS sc F)=>sv (bv e)<|cW (lh br1)<|r
 rcases aP h with⟨c2,h⟩|⟨c2,h⟩
 ·obtain⟨r4,br4,h⟩:=aJ h
  obtain rfl:=lf h
  exact bJ SP (p3<|sg 3 c2<|sv (eu e)<|sv (fc e)<|cW (Ju br4)<|eF .normal (gD hidden e m2 (decide (r4<0))))<|by kernel_rfl
 ·obtain rfl:=lf h
  exact bJ SP (p3<|sg 3 c2<|eF .normal (gD hidden e m2 false))<|by kernel_rfl
end
section
variable(hidden:waA)(e:af)(m2:(List (ag×Bool)))
def rq:aA:=bj 57 [(1,sl cS hidden),(2,.func (.func 80) [] [.bptr 0 0]),(3,.eptr (ae e))] [.cells [.bptr 1 0] [],.cells [.mapr 2] [],.map (aD PVal.bool m2),.dead] []
def gC(o:(List (ag×Bool))):aA:=bj 57 [(1,sl cS hidden),(2,.func (.func 80) [] [.bptr 0 0]),(3,.eptr (ae e))] [.cells [.bptr 1 0] [],.cells [.mapr 2] [],.map (aD PVal.bool o),.dead] []
def im:Option (((List (ag×Bool)))):=
 (io hidden e).bind fun o5=>
 if o5=true then
  (rO e m2).bind fun r8=>
  some r8
 else
  some m2
theorem qx{x:((List (ag×Bool)))}(h:im hidden e m2=some x):aR Pg GE 3 (cA UH 6) (EX .normal (gC hidden e x)) (rq hidden e m2):=by
 obtain⟨o5,bo5,h⟩:=aJ h
 have p7:=fun{sc F} (r:PS sc F)=>rN 0<|dS (qy hidden e m2 bo5)<|r
 rcases aP h with⟨c6,h⟩|⟨c6,h⟩
 ·obtain⟨r8,br8,h⟩:=aJ h
  obtain rfl:=lf h
  exact bJ SP (p7<|sg 0 c6<|sv (bv e)<|si (.cg ⟨[0,1,2],[.agg (ae e),.bptr 0 0],[],[.cells [.bptr 1 0] [],.cells [.mapr 2] [],.map (aD PVal.bool m2)],[.cells [.bptr 1 0] [],.cells [.mapr 2] [],.map (aD PVal.bool m2)],[.cells [.bptr 1 0] [],.cells [.mapr 2] [],.map (aD PVal.bool r8)],[.cells [.bptr 1 0] [],.cells [.mapr 2] [],.map (aD PVal.bool r8)],.tuple [],.tuple [],[]⟩) (Fp br8)<|sf (aI (xR [0,1,2] (.agg (ae e)) (ay e)) (aI (xB [0,1,2] 0 0 0 rfl) trivial))<|sf (aI (aI (rB (.cells [.bptr 1 0] [])) (aI (rW []) (aI (xB [0,1,2] 1 1 0 rfl) trivial))) (aI (aI (rB (.cells [.mapr 2] [])) (aI (rW []) (aI (xM [0,1,2] 2 2 rfl) trivial))) (aI (aI (rB (.map (aD PVal.bool m2))) (aI (rM (aD PVal.bool m2)) (mA (n:=0) PVal.bool (fun x=>trivial) m2))) trivial)))<|sf (aI (aI (rW []) (aI (xB [0,1,2] 1 1 0 rfl) trivial)) (aI (aI (rW []) (aI (xM [0,1,2] 2 2 rfl) trivial)) (aI (aI (rM (aD PVal.bool r8)) (mA (n:=0) PVal.bool (fun x=>trivial) r8)) trivial)))<|sf (xR [0,1,2] (.tuple []) trivial)<|eF .normal (gC hidden e r8))<|by kernel_rfl
 ·obtain rfl:=lf h
  exact bJ SP (p7<|sg 0 c6<|eF .normal (gC hidden e m2))<|by kernel_rfl
end
section
variable(R14:eb)(hidden:waA)(e:af)(t23:waE)(t24:Int)(t25:Int)(m2:(List (ag×Bool)))
def du:aA:=bj 57 [(1,sl cS hidden),(2,.func (.func 80) [] [.bptr 0 0]),(3,.eptr (ae e)),(23,sl ae t23),(24,.int .i64 t24),(25,.int .i64 t25)] [.cells [.bptr 1 0] [],.cells [.mapr 2] [],.map (aD PVal.bool m2),.dead] []
def gE(o:(List (ag×Bool))):aA:=bj 57 [(1,sl cS hidden),(2,.func (.func 80) [] [.bptr 0 0]),(3,.eptr (ae e))] [.cells [.bptr 1 0] [],.cells [.mapr 2] [],.map (aD PVal.bool o),.dead] []
def cd:Option ((Int×(List (ag×Bool)))⊕(((List (ag×Bool))))):=
 if(decide (t25<t24))=true then
  (gY t23 t25).bind fun x11=>
  (qQ hidden).bind fun r12=>
  (rQ e t25).bind fun r13=>
  (app r12 r13).bind fun l14=>
  (R14 x11 l14 m2).bind fun r15=>
  some (.inl (cp (t25+1),r15))
 else
  some (.inr m2)
def fh:Option (((List (ag×Bool)))):=loop (fun(zz:Int×(List (ag×Bool)))=>cd R14 hidden e t23 t24 zz.1 zz.2) (t25,m2)
theorem qk(hR14:d9 R14){y:(Int×(List (ag×Bool)))⊕(((List (ag×Bool))))}(h:cd R14 hidden e t23 t24 t25 m2=some y):aR Pg GE 3 (cA UH 119) (LQ (fun(zz:Int×(List (ag×Bool)))=>du hidden e t23 t24 zz.1 zz.2) (fun _=>.exit 0) (gE hidden e) y) (du hidden e t23 t24 t25 m2):=by
 rcases aP h with⟨c10,h⟩|⟨c10,h⟩
 ·obtain⟨x11,bx11,h⟩:=aJ h
  obtain⟨r12,br12,h⟩:=aJ h
  obtain⟨r13,br13,h⟩:=aJ h
  obtain⟨l14,bl14,h⟩:=aJ h
  obtain⟨r15,br15,h⟩:=aJ h
  obtain rfl:=lf h
  have z:=sg 0 c10<|sv (g6.ia (k:=.i64) bx11)<|sv (bv x11)<|sx wG<|sx (kv x11)<|sk<|Vp (.dx [0,0,2,0,0,30,62,0] [] [] [])<|sv (bu x11 [])<|cW (zI br12)<|sv (bv e)<|cW (Fr br13)<|sv (dK.ap bl14)<|si (.cg ⟨[0,1,2],[.agg (ae x11),sl cS l14,.func (.func 80) [] [.bptr 0 0]],[],[.cells [.bptr 1 0] [],.cells [.mapr 2] [],.map (aD PVal.bool m2)],[.cells [.bptr 1 0] [],.cells [.mapr 2] [],.map (aD PVal.bool m2)],[.cells [.bptr 1 0] [],.cells [.mapr 2] [],.map (aD PVal.bool r15)],[.cells [.bptr 1 0] [],.cells [.mapr 2] [],.map (aD PVal.bool r15)],.tuple [],.tuple [],[]⟩) (hR14 _ _ _ _ br15)<|sf (aI (xR [0,1,2] (.agg (ae x11)) (ay x11)) (aI (xR [0,1,2] (sl cS l14) (au cb l14)) (aI (xF [0,1,2] (.func 80) [] [.bptr 0 0] [] [.bptr 0 0] trivial (aI (xB [0,1,2] 0 0 0 rfl) trivial)) trivial)))<|sf (aI (aI (rB (.cells [.bptr 1 0] [])) (aI (rW []) (aI (xB [0,1,2] 1 1 0 rfl) trivial))) (aI (aI (rB (.cells [.mapr 2] [])) (aI (rW []) (aI (xM [0,1,2] 2 2 rfl) trivial))) (aI (aI (rB (.map (aD PVal.bool m2))) (aI (rM (aD PVal.bool m2)) (mA (n:=0) PVal.bool (fun x=>trivial) m2))) trivial)))<|sf (aI (aI (rW []) (aI (xB [0,1,2] 1 1 0 rfl) trivial)) (aI (aI (rW []) (aI (xM [0,1,2] 2 2 rfl) trivial)) (aI (aI (rM (aD PVal.bool r15)) (mA (n:=0) PVal.bool (fun x=>trivial) r15)) trivial)))<|sf (xR [0,1,2] (.tuple []) trivial)<|tN 3 .normal (du hidden e t23 t24 (cp (t25+1)) r15) rfl (d5 (aI (up (au cb hidden)) (aI (aI trivial (aI (aZ rfl) trivial)) (aI (be (ay e)) (aI (up (au ay t23)) (aI trivial (aI trivial trivial))))))) (aI (aI (aZ rfl) trivial) (aI (aI (aZ rfl) trivial) (aI (mA PVal.bool (fun x=>trivial) r15) (aI trivial trivial))))
  exact ez (A:=SP) mixed z<|by kernel_rfl
 ·obtain rfl:=lf h
  have z:=sg 0 c10<|eF (.exit 0) (gE hidden e m2)
  exact kc SP (by intro hx;cases hx) z<|by kernel_rfl
theorem qz(hR14:d9 R14){x:((List (ag×Bool)))}(h:fh R14 hidden e t23 t24 t25 m2=some x):aR Pg GE 3 (.loop (cA UH 119)) (EX (.exit 0) (gE hidden e x)) (du hidden e t23 t24 t25 m2):=
 aR.loop (S:=fun(zz:Int×(List (ag×Bool)))=>du hidden e t23 t24 zz.1 zz.2) (ex:=(fun _=>.exit 0)) (s:=(t25,m2)) h fun zz y hy=>qk R14 hidden e t23 t24 zz.1 zz.2 hR14 hy
end
section
variable(R14:eb)(hidden:waA)(t41:waC)(t42:Int)(t43:Int)(m2:(List (ag×Bool)))
def dv:aA:=bj 57 [(1,sl cS hidden),(2,.func (.func 80) [] [.bptr 0 0]),(41,sl az t41),(42,.int .i64 t42),(43,.int .i64 t43)] [.cells [.bptr 1 0] [],.cells [.mapr 2] [],.map (aD PVal.bool m2),.dead] []
def gG(o:(List (ag×Bool))):aA:=bj 57 [] [.cells [.bptr 1 0] [],.cells [.mapr 2] [],.map (aD PVal.bool o),.dead] []
def ce:Option ((Int×(List (ag×Bool)))⊕(((List (ag×Bool))))):=
 if(decide (t43<t42))=true then
  (gY t41 t43).bind fun x18=>
  (qQ hidden).bind fun r19=>
  (app r19 x18.Names).bind fun l20=>
  (R14 x18.Body l20 m2).bind fun r21=>
  some (.inl (cp (t43+1),r21))
 else
  some (.inr m2)
def fi:Option (((List (ag×Bool)))):=loop (fun(zz:Int×(List (ag×Bool)))=>ce R14 hidden t41 t42 zz.1 zz.2) (t43,m2)
theorem ql(hR14:d9 R14){y:(Int×(List (ag×Bool)))⊕(((List (ag×Bool))))}(h:ce R14 hidden t41 t42 t43 m2=some y):aR Pg GE 3 (cA UH 127) (LQ (fun(zz:Int×(List (ag×Bool)))=>dv hidden t41 t42 zz.1 zz.2) (fun _=>.exit 2) gG y) (dv hidden t41 t42 t43 m2):=by
 rcases aP h with⟨c17,h⟩|⟨c17,h⟩
 ·obtain⟨x18,bx18,h⟩:=aJ h
  obtain⟨r19,br19,h⟩:=aJ h
  obtain⟨l20,bl20,h⟩:=aJ h
  obtain⟨r21,br21,h⟩:=aJ h
  obtain rfl:=lf h
  have z:=sg 0 c17<|sv (eQ.ia (k:=.i64) bx18)<|sv (mi x18)<|sx Fh<|sx (i8 x18)<|sk<|Vp (.dx [0,1,0,4,0,16,60,0] [] [] [])<|sv (bu x18.Body [])<|cW (zI br19)<|ss<|sv (dK.ap bl20)<|si (.cg ⟨[0,1,2],[.agg (ae x18.Body),sl cS l20,.func (.func 80) [] [.bptr 0 0]],[],[.cells [.bptr 1 0] [],.cells [.mapr 2] [],.map (aD PVal.bool m2)],[.cells [.bptr 1 0] [],.cells [.mapr 2] [],.map (aD PVal.bool m2)],[.cells [.bptr 1 0] [],.cells [.mapr 2] [],.map (aD PVal.bool r21)],[.cells [.bptr 1 0] [],.cells [.mapr 2] [],.map (aD PVal.bool r21)],.tuple [],.tuple [],[]⟩) (hR14 _ _ _ _ br21)<|sf (aI (xR [0,1,2] (.agg (ae x18.Body)) (ay x18.Body)) (aI (xR [0,1,2] (sl cS l20) (au cb l20)) (aI (xF [0,1,2] (.func 80) [] [.bptr 0 0] [] [.bptr 0 0] trivial (aI (xB [0,1,2] 0 0 0 rfl) trivial)) trivial)))<|sf (aI (aI (rB (.cells [.bptr 1 0] [])) (aI (rW []) (aI (xB [0,1,2] 1 1 0 rfl) trivial))) (aI (aI (rB (.cells [.mapr 2] [])) (aI (rW []) (aI (xM [0,1,2] 2 2 rfl) trivial))) (aI (aI (rB (.map (aD PVal.bool m2))) (aI (rM (aD PVal.bool m2)) (mA (n:=0) PVal.bool (fun x=>trivial) m2))) trivial)))<|sf (aI (aI (rW []) (aI (xB [0,1,2] 1 1 0 rfl) trivial)) (aI (aI (rW []) (aI (xM [0,1,2] 2 2 rfl) trivial)) (aI (aI (rM (aD PVal.bool r21)) (mA (n:=0) PVal.bool (fun x=>trivial) r21)) trivial)))<|sf (xR [0,1,2] (.tuple []) trivial)<|tN 3 .normal (dv hidden t41 t42 (cp (t43+1)) r21) rfl (d5 (aI (up (au cb hidden)) (aI (aI trivial (aI (aZ rfl) trivial)) (aI (up (au bW t41)) (aI trivial (aI trivial trivial)))))) (aI (aI (aZ rfl) trivial) (aI (aI (aZ rfl) trivial) (aI (mA PVal.bool (fun x=>trivial) r21) (aI trivial trivial))))
  exact ez (A:=SP) mixed z<|by kernel_rfl
 ·obtain rfl:=lf h
  have z:=sg 0 c17<|eF (.exit 2) (gG m2)
  exact kc SP (by intro hx;cases hx) z<|by kernel_rfl
theorem qA(hR14:d9 R14){x:((List (ag×Bool)))}(h:fi R14 hidden t41 t42 t43 m2=some x):aR Pg GE 3 (.loop (cA UH 127)) (EX (.exit 2) (gG x)) (dv hidden t41 t42 t43 m2):=
 aR.loop (S:=fun(zz:Int×(List (ag×Bool)))=>dv hidden t41 t42 zz.1 zz.2) (ex:=(fun _=>.exit 2)) (s:=(t43,m2)) h fun zz y hy=>ql R14 hidden t41 t42 zz.1 zz.2 hR14 hy
end
def fB(R14:eb)(e:af)(hidden:waA)(k2:(List (ag×Bool))):Option ((List (ag×Bool))):=
 (im hidden e k2).bind fun o9=>
 (fh R14 hidden e e.Kids (e.Kids.length:Int) 0 o9).bind fun o16=>
 (fi R14 hidden e.Alts (e.Alts.length:Int) 0 o16).bind fun o22=>
 some o22
theorem sD(R14:eb)(hR14:d9 R14){e:af}{hidden:waA}{k2:(List (ag×Bool))}{r:(List (ag×Bool))}(h:fB R14 e hidden k2=some r):C Pg GE 79 [.agg (ae e),sl cS hidden,.func (.func 80) [] [.bptr 0 0]] [] [.cells [.bptr 1 0] [],.cells [.mapr 2] [],.map (aD PVal.bool k2)] (.tuple []) [] [.cells [.bptr 1 0] [],.cells [.mapr 2] [],.map (aD PVal.bool r)]:=by
 obtain⟨o9,bo9,h⟩:=aJ h
 obtain⟨o16,bo16,h⟩:=aJ h
 obtain⟨o22,bo22,h⟩:=aJ h
 obtain rfl:=lf h
 have z:=se (cJ e)<|rN 0<|dS (qx hidden e k2 bo9)<|sv (aX e)<|sv (aY e)<|cq (g6.ln e.Kids)<|dS (qz R14 hidden e e.Kids (e.Kids.length:Int) 0 o9 hR14 bo16)<|sv (aE e)<|sv (aF e)<|cq (eQ.ln e.Alts)<|dS (qA R14 hidden e.Alts (e.Alts.length:Int) 0 o16 hR14 bo22)<|en (aI (rP (.tuple []))<|aI trivial<|aI (rL [.cells [.bptr 1 0] [],.cells [.mapr 2] [],.map (aD PVal.bool o22)])<|(aI (aI (aZ (i:=1) (n:=3) rfl) trivial) (aI (aI (aZ (i:=2) (n:=3) rfl) trivial) (aI (mA (n:=3) PVal.bool (fun x=>trivial) o22) trivial))))
 exact C.evGp (A:=SP) mixed (m:=3) (c:=UH) rfl call79 func79 rfl z<|by kernel_rfl
def iG:((af×waA×(List (ag×Bool)))->Option ((List (ag×Bool))))->(af×waA×(List (ag×Bool)))->Option ((List (ag×Bool))):=fun(rec:(af×waA×(List (ag×Bool)))->Option ((List (ag×Bool)))) (x:af×waA×(List (ag×Bool)))=>fB (fun e hidden k2=>rec (e,hidden,k2)) x.1 x.2.1 x.2.2
def jv(e:af)(hidden:waA)(k2:(List (ag×Bool))):Option ((List (ag×Bool))):=sd iG (e,hidden,k2)
theorem sS{e:af}{hidden:waA}{k2:(List (ag×Bool))}{r:(List (ag×Bool))}(h:jv e hidden k2=some r):C Pg GE 79 [.agg (ae e),sl cS hidden,.func (.func 80) [] [.bptr 0 0]] [] [.cells [.bptr 1 0] [],.cells [.mapr 2] [],.map (aD PVal.bool k2)] (.tuple []) [] [.cells [.bptr 1 0] [],.cells [.mapr 2] [],.map (aD PVal.bool r)]:=
 eM (F:=iG) (M:=fun(x:af×waA×(List (ag×Bool))) (r:(List (ag×Bool)))=>C Pg GE 79 [.agg (ae x.1),sl cS x.2.1,.func (.func 80) [] [.bptr 0 0]] [] [.cells [.bptr 1 0] [],.cells [.mapr 2] [],.map (aD PVal.bool x.2.2)] (.tuple []) [] [.cells [.bptr 1 0] [],.cells [.mapr 2] [],.map (aD PVal.bool r)]) (fun rec hrec x r h=>sD _ (fun e hidden k2 r h=>hrec (e,hidden,k2) r h) h) h
noncomputable def Yw:Code:=f24.body.getD .skip
def Yf:List Nat:=[]
def mT(e:af):Option waA:=
 (lZ ([]:List ag)).bind fun r1=>
 (jv e ([]:List ag) r1).bind fun r2=>
 (rb r2).bind fun r3=>
 some r3
theorem mU{e:af}{r:waA}(h:mT e=some r):CC Pg GE 24 [.agg (ae e)] (sl cS r) [(0,9)]:=by
 obtain⟨r1,br1,h⟩:=aJ h
 obtain⟨r2,br2,h⟩:=aJ h
 obtain⟨r3,br3,h⟩:=aJ h
 obtain rfl:=lf h
 have z:=se (cJ e)<|si (.cn ⟨[2,3],[],[],[],[],[.map (aD PVal.bool r1),.cells [.mapr 2] []],[.map (aD PVal.bool r1),.cells [.mapr 0] []],.bptr 3 0,.bptr 1 0,[]⟩) (rj br1)<|sf (aI (au cb ([]:List ag)) trivial)<|sf (aI (aI (rM (aD PVal.bool r1)) (mA (n:=0) PVal.bool (fun x=>trivial) r1)) (aI (aI (rW []) (aI (xM [2,3] 0 2 rfl) trivial)) trivial))<|sf (xB [2,3] 1 3 0 rfl)<|sx T9<|ss<|sv (bv e)<|si (.cg ⟨[1,3,2],[.agg (ae e),sl cS ([]:List ag),.func (.func 80) [] [.bptr 0 0]],[],[.cells [.bptr 3 0] [],.cells [.mapr 2] [],.map (aD PVal.bool r1)],[.cells [.bptr 1 0] [],.cells [.mapr 2] [],.map (aD PVal.bool r1)],[.cells [.bptr 3 0] [],.cells [.mapr 2] [],.map (aD PVal.bool r2)],[.cells [.bptr 1 0] [],.cells [.mapr 2] [],.map (aD PVal.bool r2)],.tuple [],.tuple [],[]⟩) (sS br2)<|sf (aI (xR [1,3,2] (.agg (ae e)) (ay e)) (aI (xR [1,3,2] (sl cS ([]:List ag)) (au cb ([]:List ag))) (aI (xF [1,3,2] (.func 80) [] [.bptr 1 0] [] [.bptr 0 0] trivial (aI (xB [1,3,2] 0 1 0 rfl) trivial)) trivial)))<|sf (aI (aI (rB (.cells [.bptr 3 0] [])) (aI (rW []) (aI (xB [1,3,2] 1 3 0 rfl) trivial))) (aI (aI (rB (.cells [.mapr 2] [])) (aI (rW []) (aI (xM [1,3,2] 2 2 rfl) trivial))) (aI (aI (rB (.map (aD PVal.bool r1))) (aI (rM (aD PVal.bool r1)) (mA (n:=0) PVal.bool (fun x=>trivial) r1))) trivial)))<|sf (aI (aI (rW []) (aI (xB [1,3,2] 1 3 0 rfl) trivial)) (aI (aI (rW []) (aI (xM [1,3,2] 2 2 rfl) trivial)) (aI (aI (rM (aD PVal.bool r2)) (mA (n:=0) PVal.bool (fun x=>trivial) r2)) trivial)))<|sf (xR [1,3,2] (.tuple []) trivial)<|ss<|si (.cg ⟨[3,2],[.bptr 0 0],[],[.cells [.mapr 2] [],.map (aD PVal.bool r2)],[.cells [.mapr 1] [],.map (aD PVal.bool r2)],[.cells [.mapr 2] [],.map (aD PVal.bool r2)],[.cells [.mapr 1] [],.map (aD PVal.bool r2)],sl cS r3,sl cS r3,[(0,9)]⟩) (wH br3)<|sf (aI (xB [3,2] 0 3 0 rfl) trivial)<|sf (aI (aI (rB (.cells [.mapr 2] [])) (aI (rW []) (aI (xM [3,2] 1 2 rfl) trivial))) (aI (aI (rB (.map (aD PVal.bool r2))) (aI (rM (aD PVal.bool r2)) (mA (n:=0) PVal.bool (fun x=>trivial) r2))) trivial))<|sf (aI (aI (rW []) (aI (xM [3,2] 1 2 rfl) trivial)) (aI (aI (rM (aD PVal.bool r2)) (mA (n:=0) PVal.bool (fun x=>trivial) r2)) trivial))<|sf (xR [3,2] (sl cS r3) (au cb r3))<|en (aI (rP (sl cS r3))<|(au cb r3))
 exact cR Yf call24 func24 (c:=Yw) rfl (aI (ay e) trivial) z<|by kernel_rfl
abbrev aW:=(af->(List aa)->waA->Option (af×waA))
abbrev bC(R:aW):Prop:=∀(e:af) (scope:(List aa)) (k0:waA) (r:af×waA),R e scope k0=some r->C Pg GE 56 [.agg [.func (.func 62) [] [.bptr 0 0],.func (.func 61) [] []],.agg (ae e),sl ac scope] [] [.cells [sl cS k0] [(0,9)]] (.agg (ae r.1)) [(3,28),(4,85),(5,89),(6,60)] [.cells [sl cS r.2] [(0,9)]]
abbrev ef:=(waB->Option waB)
abbrev hO(R:ef):Prop:=∀(a:waB) (r:waB),R a=some r->CC Pg GE 102 [sl ai a,.func (.func 103) [] []] (sl ai r) [(0,60)]
abbrev gv:=(ax->Option ax)
abbrev kU(R:gv):Prop:=∀(p:ax) (r:ax),R p=some r->CC Pg GE 135 [.agg (aw p)] (.agg (aw r)) [(3,58)]
noncomputable def UF:Code:=f136.body.getD .skip
def Uh:List Nat:=[14,21]
section
variable(R24:gv)(t8:waF)(t9:Int)(out:waF)(t10:Int)
def ej:aA:=bj 22 [(1,.func (.func 135) [] []),(5,sl aw out),(8,sl aw t8),(9,.int .i64 t9),(10,.int .i64 t10)] [] [((5,0),58)]
def je(o:waF):aA:=bj 22 [(5,sl aw o)] [] [((5,0),58)]
def jd:Option ((waF×Int)⊕(waF)):=
 if(decide (t10<t9))=true then
  (gY t8 t10).bind fun x2=>
  (R24 x2).bind fun r3=>
  (app out ([r3]:List ax)).bind fun l4=>
  some (.inl (l4,cp (t10+1)))
 else
  some (.inr out)
def j4:Option waF:=loop (fun(zz:waF×Int)=>jd R24 t8 t9 zz.1 zz.2) (out,t10)
theorem sQ(hR24:kU R24){y:(waF×Int)⊕(waF)}(h:jd R24 t8 t9 out t10=some y):aR Pg GE 0 (cA UF 119) (LQ (fun(zz:waF×Int)=>ej t8 t9 zz.1 zz.2) (fun _=>.exit 0) je y) (ej t8 t9 out t10):=by
 rcases aP h with⟨c1,h⟩|⟨c1,h⟩
 ·obtain⟨x2,bx2,h⟩:=aJ h
  obtain⟨r3,br3,h⟩:=aJ h
  obtain⟨l4,bl4,h⟩:=aJ h
  obtain rfl:=lf h
  have z:=sg 0 c1<|sv (nH.ia (k:=.i64) bx2)<|sv (pN x2)<|sx TN<|sx (AW x2)<|sv (wV x2 [])<|cW (hR24 _ _ br3)<|sv (nH.mk' (v:=LP) Ko ([r3]:List ax) 1 (by kernel_rfl))<|sv (nH.ap bl4)<|tN 0 .normal (ej t8 t9 l4 (cp (t10+1))) rfl (d5 (aI (aI trivial trivial) (aI (up (au bO l4)) (aI (up (au bO t8)) (aI trivial (aI trivial trivial)))))) trivial
  exact ez (A:=Uh) mixed z<|by kernel_rfl
 ·obtain rfl:=lf h
  have z:=sg 0 c1<|eF (.exit 0) (je out)
  exact kc Uh (by intro hx;cases hx) z<|by kernel_rfl
theorem tJ(hR24:kU R24){x:waF}(h:j4 R24 t8 t9 out t10=some x):aR Pg GE 0 (.loop (cA UF 119)) (EX (.exit 0) (je x)) (ej t8 t9 out t10):=
 aR.loop (S:=fun(zz:waF×Int)=>ej t8 t9 zz.1 zz.2) (ex:=(fun _=>.exit 0)) (s:=(out,t10)) h fun zz y hy=>sQ R24 t8 t9 zz.1 zz.2 hR24 hy
end
def gj(R24:gv)(a:waF):Option waF:=
 (j4 R24 a (a.length:Int) ([]:List ax) 0).bind fun o5=>
 some o5
theorem og(R24:gv)(hR24:kU R24){a:waF}{r:waF}(h:gj R24 a=some r):CC Pg GE 136 [sl aw a,.func (.func 135) [] []] (sl aw r) [(0,58)]:=by
 obtain⟨o5,bo5,h⟩:=aJ h
 obtain rfl:=lf h
 have z:=cq (nH.ln a)<|dS (tJ R24 a (a.length:Int) ([]:List ax) 0 hR24 bo5)<|en (aI (rP (sl aw o5))<|(au bO o5))
 exact cR Uh call136 func136 (c:=UF) rfl (aI (au bO a) (aI (aI trivial trivial) trivial)) z<|by kernel_rfl
noncomputable def Xd:Code:=f135.body.getD .skip
def WV:List Nat:=[]
def kZ(R24:gv)(p:ax):Option ax:=
 (gj R24 p.Kids).bind fun r1=>
 some (⟨p.Op,p.Name,p.N,r1⟩:ax)
theorem Al(R24:gv)(hR24:kU R24){p:ax}{r:ax}(h:kZ R24 p=some r):CC Pg GE 135 [.agg (aw p)] (.agg (aw r)) [(3,58)]:=by
 obtain⟨r1,br1,h⟩:=aJ h
 obtain rfl:=lf h
 have z:=sx (AW p)<|sx TN<|ss<|cW (og R24 hR24 br1)<|sz (wV (⟨p.Op,p.Name,p.N,r1⟩:ax) [])<|sy (eC (⟨p.Op,p.Name,p.N,r1⟩:ax))<|en (aI (Qh (⟨p.Op,p.Name,p.N,r1⟩:ax))<|aI (bO (⟨p.Op,p.Name,p.N,r1⟩:ax))<|rT)
 exact cR WV call135 func135 (c:=Xd) rfl (aI (bO p) trivial) z<|by kernel_rfl
def oU:(ax->Option ax)->(ax)->Option ax:=fun(rec:ax->Option ax) (x:ax)=>kZ (fun p=>rec p) x
def kD(p:ax):Option ax:=sd oU p
theorem tf{p:ax}{r:ax}(h:kD p=some r):CC Pg GE 135 [.agg (aw p)] (.agg (aw r)) [(3,58)]:=
 eM (F:=oU) (M:=fun(x:ax) (r:ax)=>CC Pg GE 135 [.agg (aw x)] (.agg (aw r)) [(3,58)]) (fun rec hrec x r h=>Al _ (fun p r h=>hrec p r h) h) h
noncomputable def Xb:Code:=f103.body.getD .skip
def WT:List Nat:=[]
def eA(R22:ef)(t:aj):Option aj:=
 (R22 t.Args).bind fun r1=>
 (qQ t.Names).bind fun r2=>
 (kD t.Pred).bind fun r3=>
 (gj kD t.Preds).bind fun r4=>
 some (⟨t.Op,t.Name,r1,r2,r3,r4⟩:aj)
theorem nJ(R22:ef)(hR22:hO R22){t:aj}{r:aj}(h:eA R22 t=some r):CC Pg GE 103 [.agg (ai t)] (.agg (ai r)) [(2,60),(3,9),(7,58),(8,58)]:=by
 obtain⟨r1,br1,h⟩:=aJ h
 obtain⟨r2,br2,h⟩:=aJ h
 obtain⟨r3,br3,h⟩:=aJ h
 obtain⟨r4,br4,h⟩:=aJ h
 obtain rfl:=lf h
 have z:=sx (qX t)<|sx Ob<|ss<|cW (hR22 _ _ br1)<|ss<|cW (zI br2)<|sv (wV t.Pred [sl aw t.Preds])<|cW (tf br3)<|sy (eC r3)<|ss<|cW (og kD (fun _ _ h=>tf h) br4)<|sz (kn (⟨t.Op,t.Name,r1,r2,r3,r4⟩:aj) [])<|sy (dW (⟨t.Op,t.Name,r1,r2,r3,r4⟩:aj))<|en (aI (Qi (⟨t.Op,t.Name,r1,r2,r3,r4⟩:aj))<|aI (aN (⟨t.Op,t.Name,r1,r2,r3,r4⟩:aj))<|rT)
 exact cR WT call103 func103 (c:=Xb) rfl (aI (aN t) trivial) z<|by kernel_rfl
noncomputable def UD:Code:=f102.body.getD .skip
def Uf:List Nat:=[14,21]
section
variable(R22:ef)(t8:waB)(t9:Int)(out:waB)(t10:Int)
def ek:aA:=bj 22 [(1,.func (.func 103) [] []),(5,sl ai out),(8,sl ai t8),(9,.int .i64 t9),(10,.int .i64 t10)] [] [((5,0),60)]
def jh(o:waB):aA:=bj 22 [(5,sl ai o)] [] [((5,0),60)]
def jf:Option ((waB×Int)⊕(waB)):=
 if(decide (t10<t9))=true then
  (gY t8 t10).bind fun x2=>
  (eA R22 x2).bind fun r3=>
  (app out ([r3]:List aj)).bind fun l4=>
  some (.inl (l4,cp (t10+1)))
 else
  some (.inr out)
def j5:Option waB:=loop (fun(zz:waB×Int)=>jf R22 t8 t9 zz.1 zz.2) (out,t10)
theorem sR(hR22:hO R22){y:(waB×Int)⊕(waB)}(h:jf R22 t8 t9 out t10=some y):aR Pg GE 0 (cA UD 119) (LQ (fun(zz:waB×Int)=>ek t8 t9 zz.1 zz.2) (fun _=>.exit 0) jh y) (ek t8 t9 out t10):=by
 rcases aP h with⟨c1,h⟩|⟨c1,h⟩
 ·obtain⟨x2,bx2,h⟩:=aJ h
  obtain⟨r3,br3,h⟩:=aJ h
  obtain⟨l4,bl4,h⟩:=aJ h
  obtain rfl:=lf h
  have z:=sg 0 c1<|sv (ee.ia (k:=.i64) bx2)<|sv (lm x2)<|sx Ob<|sx (qX x2)<|sv (kn x2 [])<|cW (nJ R22 hR22 br3)<|sv (ee.mk' (v:=LR) Kp ([r3]:List aj) 1 (by kernel_rfl))<|sv (ee.ap bl4)<|tN 0 .normal (ek t8 t9 l4 (cp (t10+1))) rfl (d5 (aI (aI trivial trivial) (aI (up (au aN l4)) (aI (up (au aN t8)) (aI trivial (aI trivial trivial)))))) trivial
  exact ez (A:=Uf) mixed z<|by kernel_rfl
 ·obtain rfl:=lf h
  have z:=sg 0 c1<|eF (.exit 0) (jh out)
  exact kc Uf (by intro hx;cases hx) z<|by kernel_rfl
theorem tK(hR22:hO R22){x:waB}(h:j5 R22 t8 t9 out t10=some x):aR Pg GE 0 (.loop (cA UD 119)) (EX (.exit 0) (jh x)) (ek t8 t9 out t10):=
 aR.loop (S:=fun(zz:waB×Int)=>ek t8 t9 zz.1 zz.2) (ex:=(fun _=>.exit 0)) (s:=(out,t10)) h fun zz y hy=>sR R22 t8 t9 zz.1 zz.2 hR22 hy
end
def ig(R22:ef)(a:waB):Option waB:=
 (j5 R22 a (a.length:Int) ([]:List aj) 0).bind fun o5=>
 some o5
theorem vp(R22:ef)(hR22:hO R22){a:waB}{r:waB}(h:ig R22 a=some r):CC Pg GE 102 [sl ai a,.func (.func 103) [] []] (sl ai r) [(0,60)]:=by
 obtain⟨o5,bo5,h⟩:=aJ h
 obtain rfl:=lf h
 have z:=cq (ee.ln a)<|dS (tK R22 a (a.length:Int) ([]:List aj) 0 hR22 bo5)<|en (aI (rP (sl ai o5))<|(au aN o5))
 exact cR Uf call102 func102 (c:=UD) rfl (aI (au aN a) (aI (aI trivial trivial) trivial)) z<|by kernel_rfl
def kE:(waB->Option waB)->(waB)->Option waB:=fun(rec:waB->Option waB) (x:waB)=>ig (fun a=>rec a) x
def cw(a:waB):Option waB:=sd kE a
theorem gM{a:waB}{r:waB}(h:cw a=some r):CC Pg GE 102 [sl ai a,.func (.func 103) [] []] (sl ai r) [(0,60)]:=
 eM (F:=kE) (M:=fun(x:waB) (r:waB)=>CC Pg GE 102 [sl ai x,.func (.func 103) [] []] (sl ai r) [(0,60)]) (fun rec hrec x r h=>vp _ (fun a r h=>hrec a r h) h) h
noncomputable def YC:Code:=f61.body.getD .skip
def Yl:List Nat:=[3]
def Gi(s:ag):Option ag:=
 some s
theorem IT{s:ag}{r:ag}(h:Gi s=some r):CC Pg GE 61 [.str s] (.str r) []:=by
 obtain rfl:=lf h
 have z:=en (aI (rP (.str s))<|trivial)
 exact cR Yl call61 func61 (c:=YC) rfl (aI trivial trivial) z<|by kernel_rfl
noncomputable def Vf:Code:=f52.body.getD .skip
def Va:List Nat:=[24,35]
section
variable(base:ag)(t11:waA)(t12:Int)(t13:Int)(m0:(List (ag×Bool)))
def ko:aA:=bj 36 [(1,.str base),(5,.mapr 0),(11,sl cS t11),(12,.int .i64 t12),(13,.int .i64 t13)] [.map (aD PVal.bool m0)] []
def qT(o:(List (ag×Bool))):aA:=bj 36 [(1,.str base),(5,.mapr 0)] [.map (aD PVal.bool o)] []
def kp:Option ((Int×(List (ag×Bool)))⊕(((List (ag×Bool))))):=
 if(decide (t13<t12))=true then
  (gY t11 t13).bind fun x2=>
  some (.inl (cp (t13+1),qS m0 x2 true))
 else
  some (.inr m0)
def pO:Option (((List (ag×Bool)))):=loop (fun(zz:Int×(List (ag×Bool)))=>kp t11 t12 zz.1 zz.2) (t13,m0)
theorem Cy{y:(Int×(List (ag×Bool)))⊕(((List (ag×Bool))))}(h:kp t11 t12 t13 m0=some y):aR Pg GE 0 (cA Vf 119) (LQ (fun(zz:Int×(List (ag×Bool)))=>ko base t11 t12 zz.1 zz.2) (fun _=>.exit 0) (qT base) y) (ko base t11 t12 t13 m0):=by
 rcases aP h with⟨c1,h⟩|⟨c1,h⟩
 ·obtain⟨x2,bx2,h⟩:=aJ h
  obtain rfl:=lf h
  exact AU Va (sg 0 c1<|sv (dK.ia (k:=.i64) bx2)<|sv (cZ Ge (.str x2) [])<|XS (NW (f:=PVal.bool) underlying124 underlying9 m0 x2 true)<|eF .normal (ko base t11 t12 (cp (t13+1)) (qS m0 x2 true)))<|by kernel_rfl
 ·obtain rfl:=lf h
  have z:=sg 0 c1<|eF (.exit 0) (qT base m0)
  exact kc Va (by intro hx;cases hx) z<|by kernel_rfl
theorem DK{x:((List (ag×Bool)))}(h:pO t11 t12 t13 m0=some x):aR Pg GE 0 (.loop (cA Vf 119)) (EX (.exit 0) (qT base x)) (ko base t11 t12 t13 m0):=
 aR.loop (S:=fun(zz:Int×(List (ag×Bool)))=>ko base t11 t12 zz.1 zz.2) (ex:=(fun _=>.exit 0)) (s:=(t13,m0)) h fun zz y hy=>Cy base t11 t12 zz.1 zz.2 hy
end
section
variable(base:ag)(m0:(List (ag×Bool)))(n:Int)
def kq:aA:=bj 36 [(1,.str base),(5,.mapr 0),(8,.int .i64 n)] [.map (aD PVal.bool m0)] []
def qU(o:ag):aA:=bj 36 [(4,.str o)] [.map (aD PVal.bool m0)] []
def iP:Option (Int⊕(ag)):=
 (OM n).bind fun r6=>
 (UT base r6).bind fun s7=>
 if(!((xY m0 s7).getD false))=true then
  some (.inr s7)
 else
  some (.inl (cp (n+1)))
def mN:Option ag:=loop (fun(zz:Int)=>iP base m0 zz) n
theorem Cz{y:Int⊕(ag)}(h:iP base m0 n=some y):aR Pg GE 0 (cA Vf 255) (LQ (fun(zz:Int)=>kq base m0 zz) (fun _=>.ret) (qU m0) y) (kq base m0 n):=by
 obtain⟨r6,br6,h⟩:=aJ h
 obtain⟨s7,bs7,h⟩:=aJ h
 have p9:=fun{sc F} (r:PS sc F)=>cW (Tt br6)<|sv (U3 (P:=Pg) (t:=9) bs7)<|sv (NV (f:=PVal.bool) underlying124 underlying9 XU m0 s7)<|r
 rcases aP h with⟨c8,h⟩|⟨c8,h⟩
 ·obtain rfl:=lf h
  have z:=p9<|sg 0 c8<|eF .ret (qU m0 s7)
  exact kc Va (by intro hx;cases hx) z<|by kernel_rfl
 ·obtain rfl:=lf h
  exact AU Va (p9<|sg 0 c8<|eF .normal (kq base m0 (cp (n+1))))<|by kernel_rfl
theorem DL{x:ag}(h:mN base m0 n=some x):aR Pg GE 0 (.loop (cA Vf 255)) (EX .ret (qU m0 x)) (kq base m0 n):=
 aR.loop (S:=fun(zz:Int)=>kq base m0 zz) (ex:=(fun _=>.ret)) (s:=n) h fun zz y hy=>Cz base m0 zz hy
end
def sn(used:waA)(base:ag):Option ag:=
 (pO used (used.length:Int) 0 ([]:List (ag×Bool))).bind fun o3=>
 if(!((xY o3 base).getD false))=true then
  some base
 else
  (mN base o3 1).bind fun o10=>
  some o10
theorem zW{used:waA}{base:ag}{r:ag}(h:sn used base=some r):CC Pg GE 52 [sl cS used,.str base] (.str r) []:=by
 obtain⟨o3,bo3,h⟩:=aJ h
 have p5:=fun{sc F} (r:PS sc F)=>cq (dK.ln used)<|dS (DK base used (used.length:Int) 0 ([]:List (ag×Bool)) bo3)<|sv (NV (f:=PVal.bool) underlying124 underlying9 XU o3 base)<|r
 rcases aP h with⟨c4,h⟩|⟨c4,h⟩
 ·obtain rfl:=lf h
  have z:=p5<|sg 0 c4<|en (aI (rP (.str base))<|trivial)
  exact cR Va call52 func52 (c:=Vf) rfl (aI (au cb used) (aI trivial trivial)) z<|by kernel_rfl
 ·obtain⟨o10,bo10,h⟩:=aJ h
  obtain rfl:=lf h
  have z:=p5<|sg 0 c4<|dS (DL base o3 1 bo10)<|en (aI (rP (.str o10))<|trivial)
  exact cR Va call52 func52 (c:=Vf) rfl (aI (au cb used) (aI trivial trivial)) z<|by kernel_rfl
noncomputable def YD:Code:=f62.body.getD .skip
def Ym:List Nat:=[10,14]
def lH(s:ag)(a:(List aa))(k0:waA):Option (ag×waA):=
 (sn k0 s).bind fun r1=>
 (app k0 ([r1]:List ag)).bind fun l2=>
 some (r1,l2)
theorem uQ{s:ag}{a:(List aa)}{k0:waA}{r:ag×waA}(h:lH s a k0=some r):C Pg GE 62 [.str s,sl ac a,.bptr 0 0] [] [.cells [sl cS k0] [(0,9)]] (.str r.1) [] [.cells [sl cS r.2] [(0,9)]]:=by
 obtain⟨r1,br1,h⟩:=aJ h
 obtain⟨l2,bl2,h⟩:=aJ h
 obtain rfl:=lf h
 have z:=ss<|cW (zW br1)<|sv (dK.mk' (v:=PVal.str) Lz ([r1]:List ag) 1 (by kernel_rfl))<|sv (dK.ap bl2)<|en (aI (rP (.str r1))<|aI trivial<|aI (rL [.cells [sl cS l2] [(0,9)]])<|(aI (aI (up (n:=1) (au cb l2)) trivial) trivial))
 exact C.evGp (A:=Ym) mixed (m:=1) (c:=YD) rfl call62 func62 rfl z<|by kernel_rfl
noncomputable def VO:Code:=f105.body.getD .skip
def Vr:List Nat:=[12,18]
def cz(s:ag)(a:(List aa))(k1:waA)(k2:(List aa)):Option (ag×waA×(List aa)):=
 (lH s a k1).bind fun r1=>
 (app k2 ([(⟨s,r1.1⟩:aa)]:List aa)).bind fun l2=>
 some (r1.1,r1.2,l2)
theorem gT{s:ag}{a:(List aa)}{k1:waA}{k2:(List aa)}{r:ag×waA×(List aa)}(h:cz s a k1 k2=some r):C Pg GE 105 [.str s,.bptr 0 0,.eptr ((cL ac) a),.bptr 2 0] [] [.cells [.func (.func 62) [] [.bptr 1 0],.func (.func 61) [] []] [],.cells [sl cS k1] [(0,9)],.cells [sl ac k2] [(0,137)]] (.str r.1) [] [.cells [.func (.func 62) [] [.bptr 1 0],.func (.func 61) [] []] [],.cells [sl cS r.2.1] [(0,9)],.cells [sl ac r.2.2] [(0,137)]]:=by
 obtain⟨r1,br1,h⟩:=aJ h
 obtain⟨l2,bl2,h⟩:=aJ h
 obtain rfl:=lf h
 have z:=ss<|sv (cZ GU (sl ac a) [])<|si (.cg ⟨[1],[.str s,sl ac a,.bptr 0 0],[],[.cells [sl cS k1] [(0,9)]],[.cells [sl cS k1] [(0,9)]],[.cells [sl cS r1.2] [(0,9)]],[.cells [sl cS r1.2] [(0,9)]],.str r1.1,.str r1.1,[]⟩) (uQ br1)<|sf (aI (xR [1] (.str s) trivial) (aI (xR [1] (sl ac a) (au al a)) (aI (xB [1] 0 1 0 rfl) trivial)))<|sf (aI (aI (rB (.cells [sl cS k1] [(0,9)])) (aI (rW [(0,9)]) (aI (xR [1] (sl cS k1) (au cb k1)) trivial))) trivial)<|sf (aI (aI (rW [(0,9)]) (aI (xR [1] (sl cS r1.2) (au cb r1.2)) trivial)) trivial)<|sf (xR [1] (.str r1.1) trivial)<|sv (kV s r1.1)<|sv (IK.mk' (v:=oo) oF ([(⟨s,r1.1⟩:aa)]:List aa) 1 (by kernel_rfl))<|sv (IK.ap bl2)<|en (aI (rP (.str r1.1))<|aI trivial<|aI (rL [.cells [.func (.func 62) [] [.bptr 1 0],.func (.func 61) [] []] [],.cells [sl cS r1.2] [(0,9)],.cells [sl ac l2] [(0,137)]])<|(aI (aI (aI trivial (aI (aZ (i:=1) (n:=3) rfl) trivial)) (aI (aI trivial trivial) trivial)) (aI (aI (up (n:=3) (au cb r1.2)) trivial) (aI (aI (up (n:=3) (au al l2)) trivial) trivial))))
 exact C.evGp (A:=Vr) mixed (m:=3) (c:=VO) rfl call105 func105 rfl z<|by kernel_rfl
noncomputable def SZ:Code:=f108.body.getD .skip
def Pf:List Nat:=[]
section
variable(t1:Bool)(v:(List aa))(m:waA)(m2:(List aa))(m3:ag)(m4:Int)(m5:ag)(m6:waB)(m7:waA)(m8:Int)(m9:ag)(m10:Int)(m11:waF)(m12:waF)(m13:waB)(m14:waF)
def g7:aA:=bj 17 [(1,.eptr (cB t1)),(2,.bptr 0 0),(3,.bptr 4 0),(4,.bptr 5 0)] [.cells [.func (.func 105) [] [.bptr 1 0,.eptr ((cL ac) v),.bptr 3 0]] [],.cells [.func (.func 62) [] [.bptr 2 0],.func (.func 61) [] []] [],.cells [sl cS m] [(0,9)],.cells [sl ac m2] [(0,137)],.cells [.str m3,.int .i64 m4,.str m5,sl ai m6,sl cS m7,.int .i64 m8,.str m9,.int .i64 m10,sl aw m11,sl aw m12] [],.cells [.str ([]:ag),.int .i64 0,.str ([]:ag),sl ai m13,sl cS ([]:List ag),.int .i64 0,.str ([]:ag),.int .i64 0,sl aw m14,sl aw m14] [(3,60),(4,9),(8,58),(9,58)]] []
def ct(o:waA×(List aa)×ag):aA:=bj 17 [(3,.bptr 4 0),(4,.bptr 5 0)] [.cells [.func (.func 105) [] [.bptr 1 0,.eptr ((cL ac) v),.bptr 3 0]] [],.cells [.func (.func 62) [] [.bptr 2 0],.func (.func 61) [] []] [],.cells [sl cS o.1] [(0,9)],.cells [sl ac o.2.1] [(0,137)],.cells [.str o.2.2,.int .i64 m4,.str m5,sl ai m6,sl cS m7,.int .i64 m8,.str m9,.int .i64 m10,sl aw m11,sl aw m12] [],.cells [.str ([]:ag),.int .i64 0,.str ([]:ag),sl ai m13,sl cS ([]:List ag),.int .i64 0,.str ([]:ag),.int .i64 0,sl aw m14,sl aw m14] [(3,60),(4,9),(8,58),(9,58)]] []
def cy:Option ((waA×(List aa)×ag)):=
 if t1=true then
  (cz m3 v m m2).bind fun r2=>
  some (r2.2.1,r2.2.2,r2.1)
 else
  some (m,m2,m3)
theorem gU{x:(waA×(List aa)×ag)}(h:cy t1 v m m2 m3=some x):aR Pg GE 4 (cA SZ 6) (EX .normal (ct v m4 m5 m6 m7 m8 m9 m10 m11 m12 m13 m14 x)) (g7 t1 v m m2 m3 m4 m5 m6 m7 m8 m9 m10 m11 m12 m13 m14):=by
 rcases aP h with⟨c1,h⟩|⟨c1,h⟩
 ·obtain⟨r2,br2,h⟩:=aJ h
  obtain rfl:=lf h
  exact bJ Pf (sv (cZ WR (.bool t1) [])<|sg 0 c1<|ss<|ss<|si (.cg ⟨[1,2,3],[.str m3,.bptr 0 0,.eptr ((cL ac) v),.bptr 2 0],[],[.cells [.func (.func 62) [] [.bptr 2 0],.func (.func 61) [] []] [],.cells [sl cS m] [(0,9)],.cells [sl ac m2] [(0,137)]],[.cells [.func (.func 62) [] [.bptr 1 0],.func (.func 61) [] []] [],.cells [sl cS m] [(0,9)],.cells [sl ac m2] [(0,137)]],[.cells [.func (.func 62) [] [.bptr 2 0],.func (.func 61) [] []] [],.cells [sl cS r2.2.1] [(0,9)],.cells [sl ac r2.2.2] [(0,137)]],[.cells [.func (.func 62) [] [.bptr 1 0],.func (.func 61) [] []] [],.cells [sl cS r2.2.1] [(0,9)],.cells [sl ac r2.2.2] [(0,137)]],.str r2.1,.str r2.1,[]⟩) (gT br2)<|sf (aI (xR [1,2,3] (.str m3) trivial) (aI (xB [1,2,3] 0 1 0 rfl) (aI (xR [1,2,3] (.eptr ((cL ac) v)) (mr al v)) (aI (xB [1,2,3] 2 3 0 rfl) trivial))))<|sf (aI (aI (rB (.cells [.func (.func 62) [] [.bptr 2 0],.func (.func 61) [] []] [])) (aI (rW []) (aI (xF [1,2,3] (.func 62) [] [.bptr 2 0] [] [.bptr 1 0] trivial (aI (xB [1,2,3] 1 2 0 rfl) trivial)) (aI (xR [1,2,3] (.func (.func 61) [] []) (aI trivial trivial)) trivial)))) (aI (aI (rB (.cells [sl cS m] [(0,9)])) (aI (rW [(0,9)]) (aI (xR [1,2,3] (sl cS m) (au cb m)) trivial))) (aI (aI (rB (.cells [sl ac m2] [(0,137)])) (aI (rW [(0,137)]) (aI (xR [1,2,3] (sl ac m2) (au al m2)) trivial))) trivial)))<|sf (aI (aI (rW []) (aI (xF [1,2,3] (.func 62) [] [.bptr 2 0] [] [.bptr 1 0] trivial (aI (xB [1,2,3] 1 2 0 rfl) trivial)) (aI (xR [1,2,3] (.func (.func 61) [] []) (aI trivial trivial)) trivial))) (aI (aI (rW [(0,9)]) (aI (xR [1,2,3] (sl cS r2.2.1) (au cb r2.2.1)) trivial)) (aI (aI (rW [(0,137)]) (aI (xR [1,2,3] (sl ac r2.2.2) (au al r2.2.2)) trivial)) trivial)))<|sf (xR [1,2,3] (.str r2.1) trivial)<|ss<|eF .normal (ct v m4 m5 m6 m7 m8 m9 m10 m11 m12 m13 m14 (r2.2.1,r2.2.2,r2.1)))<|by kernel_rfl
 ·obtain rfl:=lf h
  exact bJ Pf (sv (cZ WR (.bool t1) [])<|sg 0 c1<|eF .normal (ct v m4 m5 m6 m7 m8 m9 m10 m11 m12 m13 m14 (m,m2,m3)))<|by kernel_rfl
end
def bU(p:av)(a:Bool)(c:(List aa))(k2:waA)(k3:(List aa)):Option (av×waA×(List aa)):=
 (cy a c k2 k3 p.Name).bind fun o3=>
 (eA cw p.Type_).bind fun r4=>
 some ((⟨o3.2.2,r4⟩:av),o3.1,o3.2.1)
theorem iz{p:av}{a:Bool}{c:(List aa)}{k2:waA}{k3:(List aa)}{r:av×waA×(List aa)}(h:bU p a c k2 k3=some r):C Pg GE 108 [.agg (aq p),.eptr (cB a),.bptr 0 0] [] [.cells [.func (.func 105) [] [.bptr 1 0,.eptr ((cL ac) c),.bptr 3 0]] [],.cells [.func (.func 62) [] [.bptr 2 0],.func (.func 61) [] []] [],.cells [sl cS k2] [(0,9)],.cells [sl ac k3] [(0,137)]] (.agg (aq r.1)) [] [.cells [.func (.func 105) [] [.bptr 1 0,.eptr ((cL ac) c),.bptr 3 0]] [],.cells [.func (.func 62) [] [.bptr 2 0],.func (.func 61) [] []] [],.cells [sl cS r.2.1] [(0,9)],.cells [sl ac r.2.2] [(0,137)]]:=by
 obtain⟨o3,bo3,h⟩:=aJ h
 obtain⟨r4,br4,h⟩:=aJ h
 obtain rfl:=lf h
 have z:=sx (mQ p)<|sx Qd<|rN 0<|dS (gU a c k2 k3 p.Name p.Type_.Op p.Type_.Name p.Type_.Args p.Type_.Names p.Type_.Pred.Op p.Type_.Pred.Name p.Type_.Pred.N p.Type_.Pred.Kids p.Type_.Preds ([]:List aj) ([]:List ax) bo3)<|I1 [0,1,0,4,12,31,63]<|ss<|sv (kn p.Type_ [])<|cW (nJ cw (fun _ _ h=>gM h) br4)<|sv (BJ o3.2.2 r4)<|sx (mQ (⟨o3.2.2,r4⟩:av))<|en (aI (II (⟨o3.2.2,r4⟩:av))<|aI (WG (n:=4) (bo (⟨o3.2.2,r4⟩:av)))<|aI (rL [.cells [.func (.func 105) [] [.bptr 1 0,.eptr ((cL ac) c),.bptr 3 0]] [],.cells [.func (.func 62) [] [.bptr 2 0],.func (.func 61) [] []] [],.cells [sl cS o3.1] [(0,9)],.cells [sl ac o3.2.1] [(0,137)]])<|(aI (aI (aI trivial (aI (aZ (i:=1) (n:=4) rfl) (aI (be (n:=4) (mr al c)) (aI (aZ (i:=3) (n:=4) rfl) trivial)))) trivial) (aI (aI (aI trivial (aI (aZ (i:=2) (n:=4) rfl) trivial)) (aI (aI trivial trivial) trivial)) (aI (aI (up (n:=4) (au cb o3.1)) trivial) (aI (aI (up (n:=4) (au al o3.2.1)) trivial) trivial)))))
 exact C.evGp (A:=Pf) mixed (m:=4) (c:=SZ) rfl call108 func108 rfl z<|by kernel_rfl
end Go.Proofs.YtkdahfeiedaahaaGreatDoor
