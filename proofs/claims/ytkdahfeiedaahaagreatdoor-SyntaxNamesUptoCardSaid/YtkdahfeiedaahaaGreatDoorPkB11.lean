/- PROVED: a part of the proof. Conditions: none. -/
import Derived.Test.YtkdahfeiedaahaaGreatDoorPkB9
import Derived.Test.YtkdahfeiedaahaaGreatDoorPkB10
noncomputable section
namespace Go.Proofs.YtkdahfeiedaahaaGreatDoor
open Go Go.Proofs.Tryz
set_option linter.unusedVariables false
set_option maxRecDepth 100000
abbrev tO:=(af->Int->Option Int)
abbrev tw(R:tO):Prop:=∀(e:af) (most:Int) (r:Int),R e most=some r->CC Pg GE 46 [.agg (ac e),.int .i64 most] (.int .i64 r) []
abbrev u4:=(waB->Int->Option Int)
abbrev yW(R:u4):Prop:=∀(a:waB) (most:Int) (r:Int),R a most=some r->CC Pg GE 95 [sl ai a,.int .i64 most] (.int .i64 r) []
abbrev u3:=(waF->Int->Option Int)
abbrev yV(R:u3):Prop:=∀(a:waF) (most:Int) (r:Int),R a most=some r->CC Pg GE 132 [sl aw a,.int .i64 most] (.int .i64 r) []
noncomputable def Rv:Code:=f132.body.getD .skip
def PH:List Nat:=[39]
section
variable(v:waF)(most:Int)(n:Int)(i:Int)
def HQ:az:=aZ 40 [(0,sl aw v),(1,.int .i64 most),(5,.int .i64 n),(6,.int .i64 i)] [] []
def tG(o:Bool):az:=aZ 40 [(0,sl aw v),(1,.int .i64 most),(5,.int .i64 n),(6,.int .i64 i),(15,.bool o)] [] []
def sX:Option Bool:=
 if(decide (i<(v.length:Int)))=true then
  some (decide (n<=most))
 else
  some false
theorem Gv{x:Bool}(h:sX v most n i=some x):aP Pg GE 0 (cA Rv 476) (EX .normal (tG v most n i x)) (HQ v most n i):=by
 rcases aN h with⟨c1,h⟩|⟨c1,h⟩
 ·obtain rfl:=lf h
  exact bk PH (bW (mX.ln v)<|sg 5 c1<|eF .normal (tG v most n i (decide (n<=most))))<|by kernel_rfl
 ·obtain rfl:=lf h
  exact bk PH (bW (mX.ln v)<|sg 5 c1<|eF .normal (tG v most n i false))<|by kernel_rfl
end
section
variable(R5:u3)(v:waF)(most:Int)(n:Int)(i:Int)
def mf:az:=aZ 40 [(0,sl aw v),(1,.int .i64 most),(5,.int .i64 n),(6,.int .i64 i)] [] []
def tH(o:Int):az:=aZ 40 [(5,.int .i64 o)] [] []
def jV:Option ((Int×Int)⊕(Int)):=
 (sX v most n i).bind fun o2=>
 if o2=true then
  (fO v i).bind fun x5=>
  (qu .i64 (x5.Name.length:Int) 50).bind fun q6=>
  (fO v i).bind fun x7=>
  (R5 x7.Kids (bZ (most - (bZ ((bZ (n+1))+q6))))).bind fun r8=>
  some (.inl (bZ ((bZ ((bZ (n+1))+q6))+r8),bZ (i+1)))
 else
  some (.inr n)
def xz:Option Int:=loop (fun(zz:Int×Int)=>jV R5 v most zz.1 zz.2) (n,i)
theorem EC(hR5:yV R5){y:(Int×Int)⊕(Int)}(h:jV R5 v most n i=some y):aP Pg GE 0 (cA Rv 119) (LQ (fun(zz:Int×Int)=>mf v most zz.1 zz.2) (fun _=>.exit 0) tH y) (mf v most n i):=by
 obtain⟨o2,bo2,h⟩:=aG h
 have p4:=fun{sc F} (r:PS sc F)=>oz 1<|cU (Gv v most n i bo2)<|r
 rcases aN h with⟨c3,h⟩|⟨c3,h⟩
 ·obtain⟨x5,bx5,h⟩:=aG h
  obtain⟨q6,bq6,h⟩:=aG h
  obtain⟨x7,bx7,h⟩:=aG h
  obtain⟨r8,br8,h⟩:=aG h
  obtain rfl:=lf h
  exact xO PH (p4<|sg 0 c3<|sv (mX.ia (k:=.i64) bx5)<|sv (nF x5)<|sv (pp x5)<|bW (pF underlying9 x5.Name)<|sv (J1 (P:=Pg) (t:=3) bq6)<|sv (mX.ia (k:=.i64) bx7)<|sv (gm x7)<|sv (gp x7)<|cH (hR5 _ _ _ br8)<|eF .normal (mf v most (bZ ((bZ ((bZ (n+1))+q6))+r8)) (bZ (i+1))))<|by kernel_rfl
 ·obtain rfl:=lf h
  have z:=p4<|sg 0 c3<|eF (.exit 0) (tH n)
  exact iZ PH (by intro hx;cases hx) z<|by kernel_rfl
theorem Gw(hR5:yV R5){x:Int}(h:xz R5 v most n i=some x):aP Pg GE 0 (.loop (cA Rv 119)) (EX (.exit 0) (tH x)) (mf v most n i):=
 aP.loop (S:=fun(zz:Int×Int)=>mf v most zz.1 zz.2) (ex:=(fun _=>.exit 0)) (s:=(n,i)) h fun zz y hy=>EC R5 v most zz.1 zz.2 hR5 hy
end
def uW(R5:u3)(a:waF)(most:Int):Option Int:=
 (xz R5 a most 0 0).bind fun o9=>
 some o9
theorem Js(R5:u3)(hR5:yV R5){a:waF}{most:Int}{r:Int}(h:uW R5 a most=some r):CC Pg GE 132 [sl aw a,.int .i64 most] (.int .i64 r) []:=by
 obtain⟨o9,bo9,h⟩:=aG h
 obtain rfl:=lf h
 have z:=cU (Gw R5 a most 0 0 hR5 bo9)<|en (aI (rP (.int .i64 o9))<|trivial)
 exact cC PH call132 func132 (c:=Rv) rfl (aI (aj bH a) (aI trivial trivial)) z<|by kernel_rfl
def ze:((waF×Int)->Option Int)->(waF×Int)->Option Int:=fun(rec:(waF×Int)->Option Int) (x:waF×Int)=>uW (fun a most=>rec (a,most)) x.1 x.2
def EB(a:waF)(most:Int):Option Int:=qc ze (a,most)
theorem KR{a:waF}{most:Int}{r:Int}(h:EB a most=some r):CC Pg GE 132 [sl aw a,.int .i64 most] (.int .i64 r) []:=
 d9 (F:=ze) (M:=fun(x:waF×Int) (r:Int)=>CC Pg GE 132 [sl aw x.1,.int .i64 x.2] (.int .i64 r) []) (fun rec hrec x r h=>Js _ (fun a most r h=>hrec (a,most) r h) h) h
noncomputable def UP:Code:=f95.body.getD .skip
def TK:List Nat:=[61]
section
variable(v:waB)(most:Int)(n:Int)(i:Int)
def HR:az:=aZ 62 [(0,sl ai v),(1,.int .i64 most),(5,.int .i64 n),(6,.int .i64 i)] [] []
def tI(o:Bool):az:=aZ 62 [(0,sl ai v),(1,.int .i64 most),(5,.int .i64 n),(6,.int .i64 i),(15,.bool o)] [] []
def sY:Option Bool:=
 if(decide (i<(v.length:Int)))=true then
  some (decide (n<=most))
 else
  some false
theorem Gx{x:Bool}(h:sY v most n i=some x):aP Pg GE 0 (cA UP 476) (EX .normal (tI v most n i x)) (HR v most n i):=by
 rcases aN h with⟨c1,h⟩|⟨c1,h⟩
 ·obtain rfl:=lf h
  exact bk TK (bW (d4.ln v)<|sg 5 c1<|eF .normal (tI v most n i (decide (n<=most))))<|by kernel_rfl
 ·obtain rfl:=lf h
  exact bk TK (bW (d4.ln v)<|sg 5 c1<|eF .normal (tI v most n i false))<|by kernel_rfl
end
section
variable(R4:u4)(v:waB)(most:Int)(n:Int)(i:Int)
def mg:az:=aZ 62 [(0,sl ai v),(1,.int .i64 most),(5,.int .i64 n),(6,.int .i64 i)] [] []
def tJ(o:Int):az:=aZ 62 [(5,.int .i64 o)] [] []
def jW:Option ((Int×Int)⊕(Int)):=
 (sY v most n i).bind fun o2=>
 if o2=true then
  (fO v i).bind fun x5=>
  (qu .i64 (x5.Name.length:Int) 50).bind fun q6=>
  (fO v i).bind fun x7=>
  (fO v i).bind fun x8=>
  (fO v i).bind fun x9=>
  (app ([x8.Pred]:List ax) x9.Preds).bind fun l10=>
  (EB l10 most).bind fun r11=>
  (fO v i).bind fun x12=>
  (R4 x12.Args (bZ (most - (bZ ((bZ ((bZ ((bZ (n+1))+q6))+(x7.Names.length:Int)))+r11))))).bind fun r13=>
  some (.inl (bZ ((bZ ((bZ ((bZ ((bZ (n+1))+q6))+(x7.Names.length:Int)))+r11))+r13),bZ (i+1)))
 else
  some (.inr n)
def xC:Option Int:=loop (fun(zz:Int×Int)=>jW R4 v most zz.1 zz.2) (n,i)
theorem ED(hR4:yW R4){y:(Int×Int)⊕(Int)}(h:jW R4 v most n i=some y):aP Pg GE 0 (cA UP 119) (LQ (fun(zz:Int×Int)=>mg v most zz.1 zz.2) (fun _=>.exit 0) tJ y) (mg v most n i):=by
 obtain⟨o2,bo2,h⟩:=aG h
 have p4:=fun{sc F} (r:PS sc F)=>oz 1<|cU (Gx v most n i bo2)<|r
 rcases aN h with⟨c3,h⟩|⟨c3,h⟩
 ·obtain⟨x5,bx5,h⟩:=aG h
  obtain⟨q6,bq6,h⟩:=aG h
  obtain⟨x7,bx7,h⟩:=aG h
  obtain⟨x8,bx8,h⟩:=aG h
  obtain⟨x9,bx9,h⟩:=aG h
  obtain⟨l10,bl10,h⟩:=aG h
  obtain⟨r11,br11,h⟩:=aG h
  obtain⟨x12,bx12,h⟩:=aG h
  obtain⟨r13,br13,h⟩:=aG h
  obtain rfl:=lf h
  exact xO TK (p4<|sg 0 c3<|IS [0,1,0,0,12,28,60,124,252,511,0,0,3072,7168,15360,31744,65535,0,0,393216,917504,1966080,4063232,0,0,25165824,58720256,125829120,268304384,0,1073610752,2147483647,4294967295]<|sv (d4.ia (k:=.i64) bx5)<|sv (gn x5)<|sv (ik x5)<|bW (pF underlying9 x5.Name)<|sv (J1 (P:=Pg) (t:=3) bq6)<|sv (d4.ia (k:=.i64) bx7)<|sv (ez x7)<|sv (eB x7)<|bW (ch.ln x7.Names)<|sv (d4.ia (k:=.i64) bx8)<|sv (nG x8)<|sv (nH x8)<|sv (mX.mk' (v:=LG) Kq ([x8.Pred]:List ax) 1 (by kernel_rfl))<|sv (d4.ia (k:=.i64) bx9)<|sv (ip x9)<|sv (ir x9)<|sv (mX.ap bl10)<|cH (KR br11)<|sv (d4.ia (k:=.i64) bx12)<|sv (du x12)<|sv (dv x12)<|cH (hR4 _ _ _ br13)<|eF .normal (mg v most (bZ ((bZ ((bZ ((bZ ((bZ (n+1))+q6))+(x7.Names.length:Int)))+r11))+r13)) (bZ (i+1))))<|by kernel_rfl
 ·obtain rfl:=lf h
  have z:=p4<|sg 0 c3<|eF (.exit 0) (tJ n)
  exact iZ TK (by intro hx;cases hx) z<|by kernel_rfl
theorem Gy(hR4:yW R4){x:Int}(h:xC R4 v most n i=some x):aP Pg GE 0 (.loop (cA UP 119)) (EX (.exit 0) (tJ x)) (mg v most n i):=
 aP.loop (S:=fun(zz:Int×Int)=>mg v most zz.1 zz.2) (ex:=(fun _=>.exit 0)) (s:=(n,i)) h fun zz y hy=>ED R4 v most zz.1 zz.2 hR4 hy
end
def uZ(R4:u4)(a:waB)(most:Int):Option Int:=
 (xC R4 a most 0 0).bind fun o14=>
 some o14
theorem Jt(R4:u4)(hR4:yW R4){a:waB}{most:Int}{r:Int}(h:uZ R4 a most=some r):CC Pg GE 95 [sl ai a,.int .i64 most] (.int .i64 r) []:=by
 obtain⟨o14,bo14,h⟩:=aG h
 obtain rfl:=lf h
 have z:=cU (Gy R4 a most 0 0 hR4 bo14)<|en (aI (rP (.int .i64 o14))<|trivial)
 exact cC TK call95 func95 (c:=UP) rfl (aI (aj aL a) (aI trivial trivial)) z<|by kernel_rfl
def zh:((waB×Int)->Option Int)->(waB×Int)->Option Int:=fun(rec:(waB×Int)->Option Int) (x:waB×Int)=>uZ (fun a most=>rec (a,most)) x.1 x.2
def Ap(a:waB)(most:Int):Option Int:=qc zh (a,most)
theorem Df{a:waB}{most:Int}{r:Int}(h:Ap a most=some r):CC Pg GE 95 [sl ai a,.int .i64 most] (.int .i64 r) []:=
 d9 (F:=zh) (M:=fun(x:waB×Int) (r:Int)=>CC Pg GE 95 [sl ai x.1,.int .i64 x.2] (.int .i64 r) []) (fun rec hrec x r h=>Jt _ (fun a most r h=>hrec (a,most) r h) h) h
noncomputable def UQ:Code:=f96.body.getD .skip
def TL:List Nat:=[27]
section
variable(v:waA)(most:Int)(n:Int)(i:Int)
def HP:az:=aZ 28 [(0,sl cS v),(1,.int .i64 most),(5,.int .i64 n),(6,.int .i64 i)] [] []
def tE(o:Bool):az:=aZ 28 [(0,sl cS v),(1,.int .i64 most),(5,.int .i64 n),(6,.int .i64 i),(15,.bool o)] [] []
def sW:Option Bool:=
 if(decide (i<(v.length:Int)))=true then
  some (decide (n<=most))
 else
  some false
theorem Gt{x:Bool}(h:sW v most n i=some x):aP Pg GE 0 (cA UQ 476) (EX .normal (tE v most n i x)) (HP v most n i):=by
 rcases aN h with⟨c1,h⟩|⟨c1,h⟩
 ·obtain rfl:=lf h
  exact bk TL (bW (ch.ln v)<|sg 5 c1<|eF .normal (tE v most n i (decide (n<=most))))<|by kernel_rfl
 ·obtain rfl:=lf h
  exact bk TL (bW (ch.ln v)<|sg 5 c1<|eF .normal (tE v most n i false))<|by kernel_rfl
end
section
variable(v:waA)(most:Int)(n:Int)(i:Int)
def me:az:=aZ 28 [(0,sl cS v),(1,.int .i64 most),(5,.int .i64 n),(6,.int .i64 i)] [] []
def tF(o:Int):az:=aZ 28 [(5,.int .i64 o)] [] []
def jU:Option ((Int×Int)⊕(Int)):=
 (sW v most n i).bind fun o2=>
 if o2=true then
  (fO v i).bind fun x5=>
  (qu .i64 (x5.length:Int) 50).bind fun q6=>
  some (.inl (bZ ((bZ (n+1))+q6),bZ (i+1)))
 else
  some (.inr n)
def xy:Option Int:=loop (fun(zz:Int×Int)=>jU v most zz.1 zz.2) (n,i)
theorem EA{y:(Int×Int)⊕(Int)}(h:jU v most n i=some y):aP Pg GE 0 (cA UQ 119) (LQ (fun(zz:Int×Int)=>me v most zz.1 zz.2) (fun _=>.exit 0) tF y) (me v most n i):=by
 obtain⟨o2,bo2,h⟩:=aG h
 have p4:=fun{sc F} (r:PS sc F)=>oz 1<|cU (Gt v most n i bo2)<|r
 rcases aN h with⟨c3,h⟩|⟨c3,h⟩
 ·obtain⟨x5,bx5,h⟩:=aG h
  obtain⟨q6,bq6,h⟩:=aG h
  obtain rfl:=lf h
  exact xO TL (p4<|sg 0 c3<|sv (ch.ia (k:=.i64) bx5)<|sv (cy C2 (.str x5) [])<|bW (pF underlying9 x5)<|sv (J1 (P:=Pg) (t:=3) bq6)<|eF .normal (me v most (bZ ((bZ (n+1))+q6)) (bZ (i+1))))<|by kernel_rfl
 ·obtain rfl:=lf h
  have z:=p4<|sg 0 c3<|eF (.exit 0) (tF n)
  exact iZ TL (by intro hx;cases hx) z<|by kernel_rfl
theorem Gu{x:Int}(h:xy v most n i=some x):aP Pg GE 0 (.loop (cA UQ 119)) (EX (.exit 0) (tF x)) (me v most n i):=
 aP.loop (S:=fun(zz:Int×Int)=>me v most zz.1 zz.2) (ex:=(fun _=>.exit 0)) (s:=(n,i)) h fun zz y hy=>EA v most zz.1 zz.2 hy
end
def Ao(a:waA)(most:Int):Option Int:=
 (xy a most 0 0).bind fun o7=>
 some o7
theorem KQ{a:waA}{most:Int}{r:Int}(h:Ao a most=some r):CC Pg GE 96 [sl cS a,.int .i64 most] (.int .i64 r) []:=by
 obtain⟨o7,bo7,h⟩:=aG h
 obtain rfl:=lf h
 have z:=cU (Gu a most 0 0 bo7)<|en (aI (rP (.int .i64 o7))<|trivial)
 exact cC TL call96 func96 (c:=UQ) rfl (aI (aj bD a) (aI trivial trivial)) z<|by kernel_rfl
noncomputable def Re:Code:=f46.body.getD .skip
def Oy:List Nat:=[119]
section
variable(most:Int)(e:af)(n:Int)(i:Int)
def Ji:az:=aZ 120 [(1,.int .i64 most),(2,.eptr (ac e)),(5,.int .i64 n),(6,.int .i64 i)] [.dead] []
def vP(o:Bool):az:=aZ 120 [(1,.int .i64 most),(2,.eptr (ac e)),(5,.int .i64 n),(6,.int .i64 i),(28,.bool o)] [.dead] []
def uM:Option Bool:=
 if(decide (i<(e.Params.length:Int)))=true then
  some (decide (n<=most))
 else
  some false
theorem Hu{x:Bool}(h:uM most e n i=some x):aP Pg GE 0 (cA Re 476) (EX .normal (vP most e n i x)) (Ji most e n i):=by
 have p4:=fun{sc F} (r:PS sc F)=>sv (bw e)<|sv (bA e)<|bW (kU.ln e.Params)<|r
 rcases aN h with⟨c3,h⟩|⟨c3,h⟩
 ·obtain rfl:=lf h
  exact bk Oy (p4<|sg 6 c3<|eF .normal (vP most e n i (decide (n<=most))))<|by kernel_rfl
 ·obtain rfl:=lf h
  exact bk Oy (p4<|sg 6 c3<|eF .normal (vP most e n i false))<|by kernel_rfl
end
section
variable(most:Int)(e:af)(n:Int)(i:Int)
def nk:az:=aZ 120 [(1,.int .i64 most),(2,.eptr (ac e)),(5,.int .i64 n),(6,.int .i64 i)] [.dead] []
def vS(o:Int):az:=aZ 120 [(1,.int .i64 most),(2,.eptr (ac e)),(5,.int .i64 o)] [.dead] []
def ls:Option ((Int×Int)⊕(Int)):=
 (uM most e n i).bind fun o5=>
 if o5=true then
  (fO e.Params i).bind fun x8=>
  (qu .i64 (x8.Name.length:Int) 50).bind fun q9=>
  (fO e.Params i).bind fun x10=>
  (Ap ([x10.Type_]:List am) most).bind fun r11=>
  some (.inl (bZ ((bZ ((bZ (n+1))+q9))+r11),bZ (i+1)))
 else
  some (.inr n)
def y4:Option Int:=loop (fun(zz:Int×Int)=>ls most e zz.1 zz.2) (n,i)
theorem Gj{y:(Int×Int)⊕(Int)}(h:ls most e n i=some y):aP Pg GE 0 (cA Re 119) (LQ (fun(zz:Int×Int)=>nk most e zz.1 zz.2) (fun _=>.exit 0) (vS most e) y) (nk most e n i):=by
 obtain⟨o5,bo5,h⟩:=aG h
 have p7:=fun{sc F} (r:PS sc F)=>oz 1<|cU (Hu most e n i bo5)<|r
 rcases aN h with⟨c6,h⟩|⟨c6,h⟩
 ·obtain⟨x8,bx8,h⟩:=aG h
  obtain⟨q9,bq9,h⟩:=aG h
  obtain⟨x10,bx10,h⟩:=aG h
  obtain⟨r11,br11,h⟩:=aG h
  obtain rfl:=lf h
  exact xO Oy (p7<|sg 0 c6<|IS [0,1,0,4,0,28,60,124,252,508,1023,0,2048,0,14336,30720,63488,129024,0,522240,1048575,2097151]<|sv (bw e)<|sv (bA e)<|sv (kU.ia (k:=.i64) bx8)<|sv (pj x8)<|sv (ri x8)<|bW (pF underlying9 x8.Name)<|sv (J1 (P:=Pg) (t:=3) bq9)<|sv (bw e)<|sv (bA e)<|sv (kU.ia (k:=.i64) bx10)<|sv (tT x10)<|sv (tW x10)<|sv (d4.mk' (v:=LH) Kr ([x10.Type_]:List am) 1 (by kernel_rfl))<|cH (Df br11)<|eF .normal (nk most e (bZ ((bZ ((bZ (n+1))+q9))+r11)) (bZ (i+1))))<|by kernel_rfl
 ·obtain rfl:=lf h
  have z:=p7<|sg 0 c6<|eF (.exit 0) (vS most e n)
  exact iZ Oy (by intro hx;cases hx) z<|by kernel_rfl
theorem Hx{x:Int}(h:y4 most e n i=some x):aP Pg GE 0 (.loop (cA Re 119)) (EX (.exit 0) (vS most e x)) (nk most e n i):=
 aP.loop (S:=fun(zz:Int×Int)=>nk most e zz.1 zz.2) (ex:=(fun _=>.exit 0)) (s:=(n,i)) h fun zz y hy=>Gj most e zz.1 zz.2 hy
end
section
variable(most:Int)(e:af)(n:Int)(i:Int)
def Jj:az:=aZ 120 [(1,.int .i64 most),(2,.eptr (ac e)),(5,.int .i64 n),(7,.int .i64 i)] [.dead] []
def vQ(o:Bool):az:=aZ 120 [(1,.int .i64 most),(2,.eptr (ac e)),(5,.int .i64 n),(7,.int .i64 i),(61,.bool o)] [.dead] []
def uN:Option Bool:=
 if(decide (i<(e.Kids.length:Int)))=true then
  some (decide (n<=most))
 else
  some false
theorem Hv{x:Bool}(h:uN most e n i=some x):aP Pg GE 0 (cA Re 988) (EX .normal (vQ most e n i x)) (Jj most e n i):=by
 have p14:=fun{sc F} (r:PS sc F)=>sv (aR e)<|sv (aS e)<|bW (fi.ln e.Kids)<|r
 rcases aN h with⟨c13,h⟩|⟨c13,h⟩
 ·obtain rfl:=lf h
  exact bk Oy (p14<|sg 6 c13<|eF .normal (vQ most e n i (decide (n<=most))))<|by kernel_rfl
 ·obtain rfl:=lf h
  exact bk Oy (p14<|sg 6 c13<|eF .normal (vQ most e n i false))<|by kernel_rfl
end
section
variable(R3:tO)(most:Int)(e:af)(n:Int)(i:Int)
def nl:az:=aZ 120 [(1,.int .i64 most),(2,.eptr (ac e)),(5,.int .i64 n),(7,.int .i64 i)] [.dead] []
def vT(o:Int):az:=aZ 120 [(1,.int .i64 most),(2,.eptr (ac e)),(5,.int .i64 o)] [.dead] []
def lu:Option ((Int×Int)⊕(Int)):=
 (uN most e n i).bind fun o15=>
 if o15=true then
  (fO e.Kids i).bind fun x18=>
  (R3 x18 (bZ (most - n))).bind fun r19=>
  some (.inl (bZ (n+r19),bZ (i+1)))
 else
  some (.inr n)
def y5:Option Int:=loop (fun(zz:Int×Int)=>lu R3 most e zz.1 zz.2) (n,i)
theorem Gk(hR3:tw R3){y:(Int×Int)⊕(Int)}(h:lu R3 most e n i=some y):aP Pg GE 0 (cA Re 247) (LQ (fun(zz:Int×Int)=>nl most e zz.1 zz.2) (fun _=>.exit 2) (vT most e) y) (nl most e n i):=by
 obtain⟨o15,bo15,h⟩:=aG h
 have p17:=fun{sc F} (r:PS sc F)=>oz 1<|cU (Hv most e n i bo15)<|r
 rcases aN h with⟨c16,h⟩|⟨c16,h⟩
 ·obtain⟨x18,bx18,h⟩:=aG h
  obtain⟨r19,br19,h⟩:=aG h
  obtain rfl:=lf h
  exact xO Oy (p17<|sg 0 c16<|sv (aR e)<|sv (aS e)<|sv (fi.ia (k:=.i64) bx18)<|sv (aW x18)<|cH (hR3 _ _ _ br19)<|eF .normal (nl most e (bZ (n+r19)) (bZ (i+1))))<|by kernel_rfl
 ·obtain rfl:=lf h
  have z:=p17<|sg 0 c16<|eF (.exit 2) (vT most e n)
  exact iZ Oy (by intro hx;cases hx) z<|by kernel_rfl
theorem Hy(hR3:tw R3){x:Int}(h:y5 R3 most e n i=some x):aP Pg GE 0 (.loop (cA Re 247)) (EX (.exit 2) (vT most e x)) (nl most e n i):=
 aP.loop (S:=fun(zz:Int×Int)=>nl most e zz.1 zz.2) (ex:=(fun _=>.exit 2)) (s:=(n,i)) h fun zz y hy=>Gk R3 most e zz.1 zz.2 hR3 hy
end
section
variable(most:Int)(e:af)(n:Int)(i:Int)
def Jk:az:=aZ 120 [(1,.int .i64 most),(2,.eptr (ac e)),(5,.int .i64 n),(8,.int .i64 i)] [.dead] []
def vR(o:Bool):az:=aZ 120 [(1,.int .i64 most),(2,.eptr (ac e)),(5,.int .i64 n),(8,.int .i64 i),(84,.bool o)] [.dead] []
def uO:Option Bool:=
 if(decide (i<(e.Alts.length:Int)))=true then
  some (decide (n<=most))
 else
  some false
theorem Hw{x:Bool}(h:uO most e n i=some x):aP Pg GE 0 (cA Re 2012) (EX .normal (vR most e n i x)) (Jk most e n i):=by
 have p22:=fun{sc F} (r:PS sc F)=>sv (aB e)<|sv (aC e)<|bW (ea.ln e.Alts)<|r
 rcases aN h with⟨c21,h⟩|⟨c21,h⟩
 ·obtain rfl:=lf h
  exact bk Oy (p22<|sg 6 c21<|eF .normal (vR most e n i (decide (n<=most))))<|by kernel_rfl
 ·obtain rfl:=lf h
  exact bk Oy (p22<|sg 6 c21<|eF .normal (vR most e n i false))<|by kernel_rfl
end
section
variable(R3:tO)(most:Int)(e:af)(n:Int)(i:Int)
def nn:az:=aZ 120 [(1,.int .i64 most),(2,.eptr (ac e)),(5,.int .i64 n),(8,.int .i64 i)] [.dead] []
def vU(o:Int):az:=aZ 120 [(5,.int .i64 o)] [.dead] []
def lw:Option ((Int×Int)⊕(Int)):=
 (uO most e n i).bind fun o23=>
 if o23=true then
  (fO e.Alts i).bind fun x26=>
  (qu .i64 (x26.Con.length:Int) 50).bind fun q27=>
  (fO e.Alts i).bind fun x28=>
  (Ao x28.Names most).bind fun r29=>
  (fO e.Alts i).bind fun x30=>
  (R3 x30.Body (bZ (most - (bZ ((bZ ((bZ (n+1))+q27))+r29))))).bind fun r31=>
  some (.inl (bZ ((bZ ((bZ ((bZ (n+1))+q27))+r29))+r31),bZ (i+1)))
 else
  some (.inr n)
def y6:Option Int:=loop (fun(zz:Int×Int)=>lw R3 most e zz.1 zz.2) (n,i)
theorem Gl(hR3:tw R3){y:(Int×Int)⊕(Int)}(h:lw R3 most e n i=some y):aP Pg GE 0 (cA Re 503) (LQ (fun(zz:Int×Int)=>nn most e zz.1 zz.2) (fun _=>.exit 4) vU y) (nn most e n i):=by
 obtain⟨o23,bo23,h⟩:=aG h
 have p25:=fun{sc F} (r:PS sc F)=>oz 1<|cU (Hw most e n i bo23)<|r
 rcases aN h with⟨c24,h⟩|⟨c24,h⟩
 ·obtain⟨x26,bx26,h⟩:=aG h
  obtain⟨q27,bq27,h⟩:=aG h
  obtain⟨x28,bx28,h⟩:=aG h
  obtain⟨r29,br29,h⟩:=aG h
  obtain⟨x30,bx30,h⟩:=aG h
  obtain⟨r31,br31,h⟩:=aG h
  obtain rfl:=lf h
  exact xO Oy (p25<|sg 0 c24<|IS [0,1,0,4,0,28,60,124,252,508,1023,0,2048,0,14336,30720,63488,0,260096,524287,1048575]<|sv (aB e)<|sv (aC e)<|sv (ea.ia (k:=.i64) bx26)<|sv (ta x26)<|sv (vg x26)<|bW (pF underlying9 x26.Con)<|sv (J1 (P:=Pg) (t:=3) bq27)<|sv (aB e)<|sv (aC e)<|sv (ea.ia (k:=.i64) bx28)<|sv (pg x28)<|sv (pn x28)<|cH (KQ br29)<|sv (aB e)<|sv (aC e)<|sv (ea.ia (k:=.i64) bx30)<|sv (ph x30)<|sv (po x30)<|cH (hR3 _ _ _ br31)<|eF .normal (nn most e (bZ ((bZ ((bZ ((bZ (n+1))+q27))+r29))+r31)) (bZ (i+1))))<|by kernel_rfl
 ·obtain rfl:=lf h
  have z:=p25<|sg 0 c24<|eF (.exit 4) (vU n)
  exact iZ Oy (by intro hx;cases hx) z<|by kernel_rfl
theorem Hz(hR3:tw R3){x:Int}(h:y6 R3 most e n i=some x):aP Pg GE 0 (.loop (cA Re 503)) (EX (.exit 4) (vU x)) (nn most e n i):=
 aP.loop (S:=fun(zz:Int×Int)=>nn most e zz.1 zz.2) (ex:=(fun _=>.exit 4)) (s:=(n,i)) h fun zz y hy=>Gl R3 most e zz.1 zz.2 hR3 hy
end
def xu(R3:tO)(e:af)(most:Int):Option Int:=
 (qu .i64 (e.Name.length:Int) 50).bind fun q1=>
 (Ap e.Types most).bind fun r2=>
 (y4 most e (bZ ((bZ (1+q1))+r2)) 0).bind fun o12=>
 (y5 R3 most e o12 0).bind fun o20=>
 (y6 R3 most e o20 0).bind fun o32=>
 some o32
theorem KL(R3:tO)(hR3:tw R3){e:af}{most:Int}{r:Int}(h:xu R3 e most=some r):CC Pg GE 46 [.agg (ac e),.int .i64 most] (.int .i64 r) []:=by
 obtain⟨q1,bq1,h⟩:=aG h
 obtain⟨r2,br2,h⟩:=aG h
 obtain⟨o12,bo12,h⟩:=aG h
 obtain⟨o20,bo20,h⟩:=aG h
 obtain⟨o32,bo32,h⟩:=aG h
 obtain rfl:=lf h
 have z:=se (bK e)<|IS [0,1,3,7,15,0,32,0,224,511,1023]<|sv (cp e)<|sv (cz e)<|bW (pF underlying9 e.Name)<|sv (J1 (P:=Pg) (t:=3) bq1)<|sv (aJ e)<|sv (aK e)<|cH (Df br2)<|cU (Hx most e (bZ ((bZ (1+q1))+r2)) 0 bo12)<|cU (Hy R3 most e o12 0 hR3 bo20)<|cU (Hz R3 most e o20 0 hR3 bo32)<|en (aI (rP (.int .i64 o32))<|trivial)
 exact cC Oy call46 func46 (c:=Re) rfl (aI (av e) (aI trivial trivial)) z<|by kernel_rfl
def Cf:((af×Int)->Option Int)->(af×Int)->Option Int:=fun(rec:(af×Int)->Option Int) (x:af×Int)=>xu (fun e most=>rec (e,most)) x.1 x.2
def Ht(e:af)(most:Int):Option Int:=qc Cf (e,most)
theorem LP{e:af}{most:Int}{r:Int}(h:Ht e most=some r):CC Pg GE 46 [.agg (ac e),.int .i64 most] (.int .i64 r) []:=
 d9 (F:=Cf) (M:=fun(x:af×Int) (r:Int)=>CC Pg GE 46 [.agg (ac x.1),.int .i64 x.2] (.int .i64 r) []) (fun rec hrec x r h=>KL _ (fun e most r h=>hrec (e,most) r h) h) h
noncomputable def WE:Code:=f10.body.getD .skip
def Wi:List Nat:=[]
def At(e:af):Option Bool:=
 (Ht e 600).bind fun r1=>
 some (decide (r1<=600))
theorem KU{e:af}{r:Bool}(h:At e=some r):CC Pg GE 10 [.agg (ac e)] (.bool r) []:=by
 obtain⟨r1,br1,h⟩:=aG h
 obtain rfl:=lf h
 have z:=se (bK e)<|sv (aW e)<|cH (LP br1)<|en (aI (rP (.bool (decide (r1<=600))))<|trivial)
 exact cC Wi call10 func10 (c:=WE) rfl (aI (av e) trivial) z<|by kernel_rfl
noncomputable def WP:Code:=f48.body.getD .skip
def Wt:List Nat:=[]
def gk(s:ag):Option af:=
 some (⟨3,s,0,([]:List af),([]:List ay),([]:List aO),([]:List am)⟩:af)
theorem eO{s:ag}{r:af}(h:gk s=some r):CC Pg GE 48 [.str s] (.agg (ac r)) [(3,28),(4,85),(5,89),(6,60)]:=by
 obtain rfl:=lf h
 have z:=sx wR<|sb (Dr 3 s) (Dm 3 s)<|sy (bI (⟨3,s,0,([]:List af),([]:List ay),([]:List aO),([]:List am)⟩:af))<|en (aI (qN (⟨3,s,0,([]:List af),([]:List ay),([]:List aO),([]:List am)⟩:af))<|aI (av (⟨3,s,0,([]:List af),([]:List ay),([]:List aO),([]:List am)⟩:af))<|rT)
 exact cC Wt call48 func48 (c:=WP) rfl (aI trivial trivial) z<|by kernel_rfl
noncomputable def WO:Code:=f47.body.getD .skip
def Ws:List Nat:=[]
def As(s:ag)(a:af)(a2:af):Option af:=
 some (⟨7,s,0,([a,a2]:List af),([]:List ay),([]:List aO),([]:List am)⟩:af)
theorem tQ{s:ag}{a:af}{a2:af}{r:af}(h:As s a a2=some r):CC Pg GE 47 [.str s,.agg (ac a),.agg (ac a2)] (.agg (ac r)) [(4,85),(5,89),(6,60)]:=by
 obtain rfl:=lf h
 have z:=se (bK a)<|se (bK a2)<|sx wR<|sv (aW a)<|sv (aW a2)<|sv (fi.mk' (v:=og) j4 ([a,a2]:List af) 2 (by kernel_rfl))<|sb (zo 7 s ([a,a2]:List af)) (zm 7 s ([a,a2]:List af))<|sy (bI (⟨7,s,0,([a,a2]:List af),([]:List ay),([]:List aO),([]:List am)⟩:af))<|en (aI (qN (⟨7,s,0,([a,a2]:List af),([]:List ay),([]:List aO),([]:List am)⟩:af))<|aI (av (⟨7,s,0,([a,a2]:List af),([]:List ay),([]:List aO),([]:List am)⟩:af))<|rT)
 exact cC Ws call47 func47 (c:=WO) rfl (aI trivial (aI (av a) (aI (av a2) trivial))) z<|by kernel_rfl
noncomputable def Vq:Code:=f81.body.getD .skip
def U8:List Nat:=[]
section
variable(t6:waA)(t7:Int)(t8:Int)(m1:(List (ag×Bool)))
def ii:az:=aZ 18 [(0,.bptr 0 0),(6,sl cS t6),(7,.int .i64 t7),(8,.int .i64 t8)] [.cells [.mapr 1] [],.map (aF PVal.bool m1)] []
def nb(o:(List (ag×Bool))):az:=aZ 18 [] [.cells [.mapr 1] [],.map (aF PVal.bool o)] []
def eo:Option ((Int×(List (ag×Bool)))⊕(((List (ag×Bool))))):=
 if(decide (t8<t7))=true then
  (fO t6 t8).bind fun x2=>
  some (.inl (bZ (t8+1),wh m1 x2 true))
 else
  some (.inr m1)
def lP:Option (((List (ag×Bool)))):=loop (fun(zz:Int×(List (ag×Bool)))=>eo t6 t7 zz.1 zz.2) (t8,m1)
theorem yS{y:(Int×(List (ag×Bool)))⊕(((List (ag×Bool))))}(h:eo t6 t7 t8 m1=some y):aP Pg GE 2 (cA Vq 15) (LQ (fun(zz:Int×(List (ag×Bool)))=>ii t6 t7 zz.1 zz.2) (fun _=>.exit 0) nb y) (ii t6 t7 t8 m1):=by
 rcases aN h with⟨c1,h⟩|⟨c1,h⟩
 ·obtain⟨x2,bx2,h⟩:=aG h
  obtain rfl:=lf h
  exact xO U8 (sg 0 c1<|sv (ch.ia (k:=.i64) bx2)<|sv (cy C2 (.str x2) [])<|ss<|VX (Nv (f:=PVal.bool) underlying124 underlying9 m1 x2 true)<|eF .normal (ii t6 t7 (bZ (t8+1)) (wh m1 x2 true)))<|by kernel_rfl
 ·obtain rfl:=lf h
  have z:=sg 0 c1<|eF (.exit 0) (nb m1)
  exact iZ U8 (by intro hx;cases hx) z<|by kernel_rfl
theorem Ah{x:((List (ag×Bool)))}(h:lP t6 t7 t8 m1=some x):aP Pg GE 2 (.loop (cA Vq 15)) (EX (.exit 0) (nb x)) (ii t6 t7 t8 m1):=
 aP.loop (S:=fun(zz:Int×(List (ag×Bool)))=>ii t6 t7 zz.1 zz.2) (ex:=(fun _=>.exit 0)) (s:=(t8,m1)) h fun zz y hy=>yS t6 t7 zz.1 zz.2 hy
end
def eE(a:waA)(k1:(List (ag×Bool))):Option ((List (ag×Bool))):=
 (lP a (a.length:Int) 0 k1).bind fun o3=>
 some o3
theorem fx{a:waA}{k1:(List (ag×Bool))}{r:(List (ag×Bool))}(h:eE a k1=some r):C Pg GE 81 [.bptr 0 0,sl cS a] [] [.cells [.mapr 1] [],.map (aF PVal.bool k1)] (.tuple []) [] [.cells [.mapr 1] [],.map (aF PVal.bool r)]:=by
 obtain⟨o3,bo3,h⟩:=aG h
 obtain rfl:=lf h
 have z:=bW (ch.ln a)<|cU (Ah a (a.length:Int) 0 k1 bo3)<|en (aI (rP (.tuple []))<|aI trivial<|aI (rL [.cells [.mapr 1] [],.map (aF PVal.bool o3)])<|(aI (aI (aX (i:=1) (n:=2) rfl) trivial) (aI (lX (n:=2) PVal.bool (fun x=>trivial) o3) trivial)))
 exact C.evGp (A:=U8) mixed (m:=2) (c:=Vq) rfl call81 func81 rfl z<|by kernel_rfl
noncomputable def WW:Code:=f78.body.getD .skip
def WA:List Nat:=[10]
def lB(a:waA):Option ((List (ag×Bool))):=
 (eE a ([]:List (ag×Bool))).bind fun r1=>
 some r1
theorem qS{a:waA}{r:(List (ag×Bool))}(h:lB a=some r):CN Pg GE 78 [sl cS a] (.bptr 1 0) [] [.map (aF PVal.bool r),.cells [.mapr 0] []]:=by
 obtain⟨r1,br1,h⟩:=aG h
 obtain rfl:=lf h
 have z:=sv (show dL Pg 126 [(0,.mapr 0)]=some (.agg [.mapr 0]) by kernel_rfl)<|sx (UD [.mapr 0])<|si (.cg ⟨[1,0],[.bptr 0 0,sl cS a],[],[.cells [.mapr 0] [],.map (aF PVal.bool ([]:List (ag×Bool)))],[.cells [.mapr 1] [],.map (aF PVal.bool ([]:List (ag×Bool)))],[.cells [.mapr 0] [],.map (aF PVal.bool r1)],[.cells [.mapr 1] [],.map (aF PVal.bool r1)],.tuple [],.tuple [],[]⟩) (fx br1)<|sf (aI (xB [1,0] 0 1 0 rfl) (aI (xR [1,0] (sl cS a) (aj bD a)) trivial))<|sf (aI (aI (rB (.cells [.mapr 0] [])) (aI (rW []) (aI (xM [1,0] 1 0 rfl) trivial))) (aI (aI (rB (.map (aF PVal.bool ([]:List (ag×Bool))))) (aI (rM (aF PVal.bool ([]:List (ag×Bool)))) (lX (n:=0) PVal.bool (fun x=>trivial) ([]:List (ag×Bool))))) trivial))<|sf (aI (aI (rW []) (aI (xM [1,0] 1 0 rfl) trivial)) (aI (aI (rM (aF PVal.bool r1)) (lX (n:=0) PVal.bool (fun x=>trivial) r1)) trivial))<|sf (xR [1,0] (.tuple []) trivial)<|en (aI (rP (.bptr 1 0))<|aI (aX (i:=1) (n:=2) rfl)<|aI (rL [.map (aF PVal.bool r1),.cells [.mapr 0] []])<|(aI (lX (n:=2) PVal.bool (fun x=>trivial) r1) (aI (aI (aX (i:=0) (n:=2) rfl) trivial) trivial)))
 exact CN.evNp (A:=WA) mixed (c:=WW) call78 func78 rfl z<|by kernel_rfl
abbrev dW:=(af->waA->(List (ag×Bool))->Option ((List (ag×Bool))))
abbrev dU(R:dW):Prop:=∀(e:af) (hidden:waA) (k2:(List (ag×Bool))) (r:(List (ag×Bool))),R e hidden k2=some r->C Pg GE 79 [.agg (ac e),sl cS hidden,.func (.func 80) [] [.bptr 0 0]] [] [.cells [.bptr 1 0] [],.cells [.mapr 2] [],.map (aF PVal.bool k2)] (.tuple []) [] [.cells [.bptr 1 0] [],.cells [.mapr 2] [],.map (aF PVal.bool r)]
noncomputable def TU:Code:=f100.body.getD .skip
def TA:List Nat:=[]
def eV(e:af):Option Bool:=
 if(e.Op==3)=true then
  some true
 else
  some (e.Op==5)
theorem iT{e:af}{r:Bool}(h:eV e=some r):CC Pg GE 100 [.agg (ac e)] (.bool r) []:=by
 have p2:=fun{sc F} (r:PS sc F)=>se (bK e)<|sv (cd e)<|sv (ce e)<|r
 rcases aN h with⟨c1,h⟩|⟨c1,h⟩
 ·obtain rfl:=lf h
  have z:=p2<|sg 4 c1<|en (aI (rP (.bool true))<|trivial)
  exact cC TA call100 func100 (c:=TU) rfl (aI (av e) trivial) z<|by kernel_rfl
 ·obtain rfl:=lf h
  have z:=p2<|sg 4 c1<|sv (cd e)<|sv (ce e)<|en (aI (rP (.bool (e.Op==5)))<|trivial)
  exact cC TA call100 func100 (c:=TU) rfl (aI (av e) trivial) z<|by kernel_rfl
noncomputable def Ru:Code:=f131.body.getD .skip
def PG:List Nat:=[10,17]
section
variable(s:waA)(v:ag)(t7:Int)(t8:Int)
def jy:az:=aZ 19 [(0,sl cS s),(1,.str v),(7,.int .i64 t7),(8,.int .i64 t8)] [] []
def jA(o:Int⊕(Unit)):Exit:=match o with
 |(.inl _)=>.ret
 |(.inr _)=>.exit 0
def gU(o:Int⊕(Unit)):az:=match o with
 |(.inl o)=>aZ 19 [(4,.int .i64 o)] [] []
 |(.inr o)=>aZ 19 [] [] []
def jz:Option (Int⊕(Int⊕(Unit))):=
 if(decide (t8<t7))=true then
  (fO s t8).bind fun x2=>
  if(v==x2)=true then
   some (.inr (.inl t8))
  else
   some (.inl (bZ (t8+1)))
 else
  some (.inr (.inr ()))
def sh:Option (Int⊕(Unit)):=loop (fun(zz:Int)=>jz s v t7 zz) t8
theorem Bb{y:Int⊕(Int⊕(Unit))}(h:jz s v t7 t8=some y):aP Pg GE 0 (cA Ru 55) (LQ (fun(zz:Int)=>jy s v t7 zz) jA gU y) (jy s v t7 t8):=by
 rcases aN h with⟨c1,h⟩|⟨c1,h⟩
 ·obtain⟨x2,bx2,h⟩:=aG h
  have p4:=fun{sc F} (r:PS sc F)=>sg 0 c1<|sv (ch.ia (k:=.i64) bx2)<|sv (cy C2 (.str x2) [])<|r
  rcases aN h with⟨c3,h⟩|⟨c3,h⟩
  ·obtain rfl:=lf h
   have z:=p4<|sg 0 c3<|eF (jA (.inl t8)) (gU (.inl t8))
   exact iZ PG (by intro hx;cases hx) z<|by kernel_rfl
  ·obtain rfl:=lf h
   exact xO PG (p4<|sg 0 c3<|eF .normal (jy s v t7 (bZ (t8+1))))<|by kernel_rfl
 ·obtain rfl:=lf h
  have z:=sg 0 c1<|eF (jA (.inr ())) (gU (.inr ()))
  exact iZ PG (by intro hx;cases hx) z<|by kernel_rfl
theorem ue{x:Int⊕(Unit)}(h:sh s v t7 t8=some x):aP Pg GE 0 (.loop (cA Ru 55)) (EX (jA x) (gU x)) (jy s v t7 t8):=
 aP.loop (S:=fun(zz:Int)=>jy s v t7 zz) (ex:=jA) (s:=t8) h fun zz y hy=>Bb s v t7 zz hy
end
def xY(s:waA)(v:ag):Option Int:=
 (sh s v (s.length:Int) 0).bind fun o5=>match o5 with
 |(.inl o5)=>
  some o5
 |(.inr o5)=>
  some (-1)
theorem GV{s:waA}{v:ag}{r:Int}(h:xY s v=some r):CC Pg GE 131 [sl cS s,.str v] (.int .i64 r) []:=by
 obtain⟨o5,bo5,h⟩:=aG h
 rcases o5 with o5|o5
 ·obtain rfl:=lf h
  have z:=bW (ch.ln s)<|cU (e:=.ret) (s1:=gU (.inl o5)) (ue s v (s.length:Int) 0 bo5)<|en (aI (rP (.int .i64 o5))<|trivial)
  exact cC PG call131 func131 (c:=Ru) rfl (aI (aj bD s) (aI trivial trivial)) z<|by kernel_rfl
 ·obtain rfl:=lf h
  have z:=bW (ch.ln s)<|cU (e:=.exit 0) (s1:=gU (.inr o5)) (ue s v (s.length:Int) 0 bo5)<|en (aI (rP (.int .i64 (-1)))<|trivial)
  exact cC PG call131 func131 (c:=Ru) rfl (aI (aj bD s) (aI trivial trivial)) z<|by kernel_rfl
noncomputable def WZ:Code:=f94.body.getD .skip
def WD:List Nat:=[]
def qF(a:waA)(s:ag):Option Int:=
 (xY a s).bind fun r1=>
 some r1
theorem BL{a:waA}{s:ag}{r:Int}(h:qF a s=some r):CC Pg GE 94 [sl cS a,.str s] (.int .i64 r) []:=by
 obtain⟨r1,br1,h⟩:=aG h
 obtain rfl:=lf h
 have z:=cH (GV br1)<|en (aI (rP (.int .i64 r1))<|trivial)
 exact cC WD call94 func94 (c:=WZ) rfl (aI (aj bD a) (aI trivial trivial)) z<|by kernel_rfl
noncomputable def WX:Code:=f80.body.getD .skip
def WB:List Nat:=[]
def rr(a:af)(k2:(List (ag×Bool))):Option ((List (ag×Bool))):=
 (eE ([a.Name]:List ag) k2).bind fun r1=>
 some r1
theorem Fh{a:af}{k2:(List (ag×Bool))}{r:(List (ag×Bool))}(h:rr a k2=some r):C Pg GE 80 [.agg (ac a),.bptr 0 0] [] [.cells [.bptr 1 0] [],.cells [.mapr 2] [],.map (aF PVal.bool k2)] (.tuple []) [] [.cells [.bptr 1 0] [],.cells [.mapr 2] [],.map (aF PVal.bool r)]:=by
 obtain⟨r1,br1,h⟩:=aG h
 obtain rfl:=lf h
 have z:=se (bK a)<|ss<|sv (cp a)<|sv (cz a)<|sv (ch.mk' (v:=PVal.str) E7 ([a.Name]:List ag) 1 (by kernel_rfl))<|si (.cg ⟨[1,2],[.bptr 0 0,sl cS ([a.Name]:List ag)],[],[.cells [.mapr 2] [],.map (aF PVal.bool k2)],[.cells [.mapr 1] [],.map (aF PVal.bool k2)],[.cells [.mapr 2] [],.map (aF PVal.bool r1)],[.cells [.mapr 1] [],.map (aF PVal.bool r1)],.tuple [],.tuple [],[]⟩) (fx br1)<|sf (aI (xB [1,2] 0 1 0 rfl) (aI (xR [1,2] (sl cS ([a.Name]:List ag)) (aj bD ([a.Name]:List ag))) trivial))<|sf (aI (aI (rB (.cells [.mapr 2] [])) (aI (rW []) (aI (xM [1,2] 1 2 rfl) trivial))) (aI (aI (rB (.map (aF PVal.bool k2))) (aI (rM (aF PVal.bool k2)) (lX (n:=0) PVal.bool (fun x=>trivial) k2))) trivial))<|sf (aI (aI (rW []) (aI (xM [1,2] 1 2 rfl) trivial)) (aI (aI (rM (aF PVal.bool r1)) (lX (n:=0) PVal.bool (fun x=>trivial) r1)) trivial))<|sf (xR [1,2] (.tuple []) trivial)<|en (aI (rP (.tuple []))<|aI trivial<|aI (rL [.cells [.bptr 1 0] [],.cells [.mapr 2] [],.map (aF PVal.bool r1)])<|(aI (aI (aX (i:=1) (n:=3) rfl) trivial) (aI (aI (aX (i:=2) (n:=3) rfl) trivial) (aI (lX (n:=3) PVal.bool (fun x=>trivial) r1) trivial))))
 exact C.evGp (A:=WB) mixed (m:=3) (c:=WX) rfl call80 func80 rfl z<|by kernel_rfl
noncomputable def SN:Code:=f101.body.getD .skip
def Sx:List Nat:=[12,18]
section
variable(t6:waD)(t7:Int)(out:waA)(t8:Int)
def jD:az:=aZ 19 [(3,sl cS out),(6,sl au t6),(7,.int .i64 t7),(8,.int .i64 t8)] [] [((3,0),9)]
def pJ(o:waA):az:=aZ 19 [(3,sl cS o)] [] [((3,0),9)]
def fq:Option ((waA×Int)⊕(waA)):=
 if(decide (t8<t7))=true then
  (fO t6 t8).bind fun x2=>
  (app out ([x2.Name]:List ag)).bind fun l3=>
  some (.inl (l3,bZ (t8+1)))
 else
  some (.inr out)
def od:Option waA:=loop (fun(zz:waA×Int)=>fq t6 t7 zz.1 zz.2) (out,t8)
theorem Bh{y:(waA×Int)⊕(waA)}(h:fq t6 t7 out t8=some y):aP Pg GE 0 (cA SN 119) (LQ (fun(zz:waA×Int)=>jD t6 t7 zz.1 zz.2) (fun _=>.exit 0) pJ y) (jD t6 t7 out t8):=by
 rcases aN h with⟨c1,h⟩|⟨c1,h⟩
 ·obtain⟨x2,bx2,h⟩:=aG h
  obtain⟨l3,bl3,h⟩:=aG h
  obtain rfl:=lf h
  have z:=sg 0 c1<|sv (kU.ia (k:=.i64) bx2)<|sv (AB x2)<|sx Pm<|sx (mr x2)<|ss<|sv (ch.mk' (v:=PVal.str) E7 ([x2.Name]:List ag) 1 (by kernel_rfl))<|sv (ch.ap bl3)<|sK 0 .normal (jD t6 t7 l3 (bZ (t8+1))) rfl (dF (aI (up (aj bD l3)) (aI (up (aj bh t6)) (aI trivial (aI trivial trivial))))) trivial
  exact dZ (A:=Sx) mixed z<|by kernel_rfl
 ·obtain rfl:=lf h
  have z:=sg 0 c1<|eF (.exit 0) (pJ out)
  exact iZ Sx (by intro hx;cases hx) z<|by kernel_rfl
theorem CL{x:waA}(h:od t6 t7 out t8=some x):aP Pg GE 0 (.loop (cA SN 119)) (EX (.exit 0) (pJ x)) (jD t6 t7 out t8):=
 aP.loop (S:=fun(zz:waA×Int)=>jD t6 t7 zz.1 zz.2) (ex:=(fun _=>.exit 0)) (s:=(out,t8)) h fun zz y hy=>Bh t6 t7 zz.1 zz.2 hy
end
def kw(a:waD):Option waA:=
 (od a (a.length:Int) ([]:List ag) 0).bind fun o4=>
 some o4
theorem oe{a:waD}{r:waA}(h:kw a=some r):CC Pg GE 101 [sl au a] (sl cS r) [(0,9)]:=by
 obtain⟨o4,bo4,h⟩:=aG h
 obtain rfl:=lf h
 have z:=bW (kU.ln a)<|cU (CL a (a.length:Int) ([]:List ag) 0 bo4)<|en (aI (rP (sl cS o4))<|(aj bD o4))
 exact cC Sx call101 func101 (c:=SN) rfl (aI (aj bh a) trivial) z<|by kernel_rfl
noncomputable def Rt:Code:=f126.body.getD .skip
def PF:List Nat:=[]
section
variable(kid:Int)(e:af)
def CQ:az:=aZ 23 [(1,.int .i64 kid),(2,.eptr (ac e))] [.dead] []
def oB(o:Bool):az:=aZ 23 [(2,.eptr (ac e)),(5,.bool o)] [.dead] []
def qR:Option Bool:=
 if(e.Op==7)=true then
  some (decide (kid>0))
 else
  some false
theorem Bk{x:Bool}(h:qR kid e=some x):aP Pg GE 0 (cA Rt 26) (EX .normal (oB e x)) (CQ kid e):=by
 have p2:=fun{sc F} (r:PS sc F)=>sv (cd e)<|sv (ce e)<|r
 rcases aN h with⟨c1,h⟩|⟨c1,h⟩
 ·obtain rfl:=lf h
  exact bk PF (p2<|sg 4 c1<|eF .normal (oB e (decide (kid>0))))<|by kernel_rfl
 ·obtain rfl:=lf h
  exact bk PF (p2<|sg 4 c1<|eF .normal (oB e false))<|by kernel_rfl
end
def nO(e:af)(kid:Int):Option waA:=
 (qR kid e).bind fun o3=>
 if o3=true then
  some ([e.Name]:List ag)
 else
  if(e.Op==6)=true then
   (kw e.Params).bind fun r8=>
   some r8
  else
   some ([]:List ag)
theorem wZ{e:af}{kid:Int}{r:waA}(h:nO e kid=some r):CC Pg GE 126 [.agg (ac e),.int .i64 kid] (sl cS r) [(0,9)]:=by
 obtain⟨o3,bo3,h⟩:=aG h
 have p5:=fun{sc F} (r:PS sc F)=>se (bK e)<|oz 1<|cU (Bk kid e bo3)<|r
 rcases aN h with⟨c4,h⟩|⟨c4,h⟩
 ·obtain rfl:=lf h
  have z:=p5<|sg 0 c4<|sv (cp e)<|sv (cz e)<|sv (ch.mk' (v:=PVal.str) E7 ([e.Name]:List ag) 1 (by kernel_rfl))<|en (aI (rP (sl cS ([e.Name]:List ag)))<|(aj bD ([e.Name]:List ag)))
  exact cC PF call126 func126 (c:=Rt) rfl (aI (av e) (aI trivial trivial)) z<|by kernel_rfl
 ·have p7:=fun{sc F} (r:PS sc F)=>p5<|sg 0 c4<|sv (cd e)<|sv (ce e)<|r
  rcases aN h with⟨c6,h⟩|⟨c6,h⟩
  ·obtain⟨r8,br8,h⟩:=aG h
   obtain rfl:=lf h
   have z:=p7<|sg 0 c6<|sv (bw e)<|sv (bA e)<|cH (oe br8)<|en (aI (rP (sl cS r8))<|(aj bD r8))
   exact cC PF call126 func126 (c:=Rt) rfl (aI (av e) (aI trivial trivial)) z<|by kernel_rfl
  ·obtain rfl:=lf h
   have z:=p7<|sg 0 c6<|en (aI (rP (sl cS ([]:List ag)))<|(aj bD ([]:List ag)))
   exact cC PF call126 func126 (c:=Rt) rfl (aI (av e) (aI trivial trivial)) z<|by kernel_rfl
noncomputable def NW:Code:=f79.body.getD .skip
def LJ:List Nat:=[27]
section
variable(hidden:waA)(e:af)(m2:(List (ag×Bool)))
def qX:az:=aZ 57 [(1,sl cS hidden),(2,.func (.func 80) [] [.bptr 0 0]),(3,.eptr (ac e))] [.cells [.bptr 1 0] [],.cells [.mapr 2] [],.map (aF PVal.bool m2),.dead] []
def gg(o:Bool):az:=aZ 57 [(1,sl cS hidden),(2,.func (.func 80) [] [.bptr 0 0]),(3,.eptr (ac e)),(18,.bool o)] [.cells [.bptr 1 0] [],.cells [.mapr 2] [],.map (aF PVal.bool m2),.dead] []
def g7:Option Bool:=
 (eV e).bind fun r1=>
 if r1=true then
  (qF hidden e.Name).bind fun r4=>
  some (decide (r4<0))
 else
  some false
theorem qj{x:Bool}(h:g7 hidden e=some x):aP Pg GE 3 (cA NW 12) (EX .normal (gg hidden e m2 x)) (qX hidden e m2):=by
 obtain⟨r1,br1,h⟩:=aG h
 have p3:=fun{sc F} (r:PS sc F)=>sv (aW e)<|cH (iT br1)<|r
 rcases aN h with⟨c2,h⟩|⟨c2,h⟩
 ·obtain⟨r4,br4,h⟩:=aG h
  obtain rfl:=lf h
  exact bk LJ (p3<|sg 3 c2<|sv (cp e)<|sv (cz e)<|cH (BL br4)<|eF .normal (gg hidden e m2 (decide (r4<0))))<|by kernel_rfl
 ·obtain rfl:=lf h
  exact bk LJ (p3<|sg 3 c2<|eF .normal (gg hidden e m2 false))<|by kernel_rfl
end
section
variable(hidden:waA)(e:af)(m2:(List (ag×Bool)))
def qW:az:=aZ 57 [(1,sl cS hidden),(2,.func (.func 80) [] [.bptr 0 0]),(3,.eptr (ac e))] [.cells [.bptr 1 0] [],.cells [.mapr 2] [],.map (aF PVal.bool m2),.dead] []
def gf(o:(List (ag×Bool))):az:=aZ 57 [(1,sl cS hidden),(2,.func (.func 80) [] [.bptr 0 0]),(3,.eptr (ac e))] [.cells [.bptr 1 0] [],.cells [.mapr 2] [],.map (aF PVal.bool o),.dead] []
def g6:Option (((List (ag×Bool)))):=
 (g7 hidden e).bind fun o5=>
 if o5=true then
  (rr e m2).bind fun r8=>
  some r8
 else
  some m2
theorem qi{x:((List (ag×Bool)))}(h:g6 hidden e m2=some x):aP Pg GE 3 (cA NW 6) (EX .normal (gf hidden e x)) (qW hidden e m2):=by
 obtain⟨o5,bo5,h⟩:=aG h
 have p7:=fun{sc F} (r:PS sc F)=>oz 0<|cU (qj hidden e m2 bo5)<|r
 rcases aN h with⟨c6,h⟩|⟨c6,h⟩
 ·obtain⟨r8,br8,h⟩:=aG h
  obtain rfl:=lf h
  exact bk LJ (p7<|sg 0 c6<|sv (aW e)<|si (.cg ⟨[0,1,2],[.agg (ac e),.bptr 0 0],[],[.cells [.bptr 1 0] [],.cells [.mapr 2] [],.map (aF PVal.bool m2)],[.cells [.bptr 1 0] [],.cells [.mapr 2] [],.map (aF PVal.bool m2)],[.cells [.bptr 1 0] [],.cells [.mapr 2] [],.map (aF PVal.bool r8)],[.cells [.bptr 1 0] [],.cells [.mapr 2] [],.map (aF PVal.bool r8)],.tuple [],.tuple [],[]⟩) (Fh br8)<|sf (aI (xR [0,1,2] (.agg (ac e)) (av e)) (aI (xB [0,1,2] 0 0 0 rfl) trivial))<|sf (aI (aI (rB (.cells [.bptr 1 0] [])) (aI (rW []) (aI (xB [0,1,2] 1 1 0 rfl) trivial))) (aI (aI (rB (.cells [.mapr 2] [])) (aI (rW []) (aI (xM [0,1,2] 2 2 rfl) trivial))) (aI (aI (rB (.map (aF PVal.bool m2))) (aI (rM (aF PVal.bool m2)) (lX (n:=0) PVal.bool (fun x=>trivial) m2))) trivial)))<|sf (aI (aI (rW []) (aI (xB [0,1,2] 1 1 0 rfl) trivial)) (aI (aI (rW []) (aI (xM [0,1,2] 2 2 rfl) trivial)) (aI (aI (rM (aF PVal.bool r8)) (lX (n:=0) PVal.bool (fun x=>trivial) r8)) trivial)))<|sf (xR [0,1,2] (.tuple []) trivial)<|eF .normal (gf hidden e r8))<|by kernel_rfl
 ·obtain rfl:=lf h
  exact bk LJ (p7<|sg 0 c6<|eF .normal (gf hidden e m2))<|by kernel_rfl
end
section
variable(R14:dW)(hidden:waA)(e:af)(t23:waE)(t24:Int)(t25:Int)(m2:(List (ag×Bool)))
def dh:az:=aZ 57 [(1,sl cS hidden),(2,.func (.func 80) [] [.bptr 0 0]),(3,.eptr (ac e)),(23,sl ac t23),(24,.int .i64 t24),(25,.int .i64 t25)] [.cells [.bptr 1 0] [],.cells [.mapr 2] [],.map (aF PVal.bool m2),.dead] []
def gh(o:(List (ag×Bool))):az:=aZ 57 [(1,sl cS hidden),(2,.func (.func 80) [] [.bptr 0 0]),(3,.eptr (ac e))] [.cells [.bptr 1 0] [],.cells [.mapr 2] [],.map (aF PVal.bool o),.dead] []
def b8:Option ((Int×(List (ag×Bool)))⊕(((List (ag×Bool))))):=
 if(decide (t25<t24))=true then
  (fO t23 t25).bind fun x11=>
  (ol hidden).bind fun r12=>
  (nO e t25).bind fun r13=>
  (app r12 r13).bind fun l14=>
  (R14 x11 l14 m2).bind fun r15=>
  some (.inl (bZ (t25+1),r15))
 else
  some (.inr m2)
def eT:Option (((List (ag×Bool)))):=loop (fun(zz:Int×(List (ag×Bool)))=>b8 R14 hidden e t23 t24 zz.1 zz.2) (t25,m2)
theorem pT(hR14:dU R14){y:(Int×(List (ag×Bool)))⊕(((List (ag×Bool))))}(h:b8 R14 hidden e t23 t24 t25 m2=some y):aP Pg GE 3 (cA NW 119) (LQ (fun(zz:Int×(List (ag×Bool)))=>dh hidden e t23 t24 zz.1 zz.2) (fun _=>.exit 0) (gh hidden e) y) (dh hidden e t23 t24 t25 m2):=by
 rcases aN h with⟨c10,h⟩|⟨c10,h⟩
 ·obtain⟨x11,bx11,h⟩:=aG h
  obtain⟨r12,br12,h⟩:=aG h
  obtain⟨r13,br13,h⟩:=aG h
  obtain⟨l14,bl14,h⟩:=aG h
  obtain⟨r15,br15,h⟩:=aG h
  obtain rfl:=lf h
  have z:=sg 0 c10<|sv (fi.ia (k:=.i64) bx11)<|sv (aW x11)<|sx wR<|sx (jj x11)<|sk<|Sv (.dx [0,0,2,0,0,30,62,0] [] [] [])<|sv (bQ x11 [])<|cH (rA br12)<|sv (aW e)<|cH (wZ br13)<|sv (ch.ap bl14)<|si (.cg ⟨[0,1,2],[.agg (ac x11),sl cS l14,.func (.func 80) [] [.bptr 0 0]],[],[.cells [.bptr 1 0] [],.cells [.mapr 2] [],.map (aF PVal.bool m2)],[.cells [.bptr 1 0] [],.cells [.mapr 2] [],.map (aF PVal.bool m2)],[.cells [.bptr 1 0] [],.cells [.mapr 2] [],.map (aF PVal.bool r15)],[.cells [.bptr 1 0] [],.cells [.mapr 2] [],.map (aF PVal.bool r15)],.tuple [],.tuple [],[]⟩) (hR14 _ _ _ _ br15)<|sf (aI (xR [0,1,2] (.agg (ac x11)) (av x11)) (aI (xR [0,1,2] (sl cS l14) (aj bD l14)) (aI (xF [0,1,2] (.func 80) [] [.bptr 0 0] [] [.bptr 0 0] trivial (aI (xB [0,1,2] 0 0 0 rfl) trivial)) trivial)))<|sf (aI (aI (rB (.cells [.bptr 1 0] [])) (aI (rW []) (aI (xB [0,1,2] 1 1 0 rfl) trivial))) (aI (aI (rB (.cells [.mapr 2] [])) (aI (rW []) (aI (xM [0,1,2] 2 2 rfl) trivial))) (aI (aI (rB (.map (aF PVal.bool m2))) (aI (rM (aF PVal.bool m2)) (lX (n:=0) PVal.bool (fun x=>trivial) m2))) trivial)))<|sf (aI (aI (rW []) (aI (xB [0,1,2] 1 1 0 rfl) trivial)) (aI (aI (rW []) (aI (xM [0,1,2] 2 2 rfl) trivial)) (aI (aI (rM (aF PVal.bool r15)) (lX (n:=0) PVal.bool (fun x=>trivial) r15)) trivial)))<|sf (xR [0,1,2] (.tuple []) trivial)<|sK 3 .normal (dh hidden e t23 t24 (bZ (t25+1)) r15) rfl (dF (aI (up (aj bD hidden)) (aI (aI trivial (aI (aX rfl) trivial)) (aI (ba (av e)) (aI (up (aj av t23)) (aI trivial (aI trivial trivial))))))) (aI (aI (aX rfl) trivial) (aI (aI (aX rfl) trivial) (aI (lX PVal.bool (fun x=>trivial) r15) (aI trivial trivial))))
  exact dZ (A:=LJ) mixed z<|by kernel_rfl
 ·obtain rfl:=lf h
  have z:=sg 0 c10<|eF (.exit 0) (gh hidden e m2)
  exact iZ LJ (by intro hx;cases hx) z<|by kernel_rfl
theorem qk(hR14:dU R14){x:((List (ag×Bool)))}(h:eT R14 hidden e t23 t24 t25 m2=some x):aP Pg GE 3 (.loop (cA NW 119)) (EX (.exit 0) (gh hidden e x)) (dh hidden e t23 t24 t25 m2):=
 aP.loop (S:=fun(zz:Int×(List (ag×Bool)))=>dh hidden e t23 t24 zz.1 zz.2) (ex:=(fun _=>.exit 0)) (s:=(t25,m2)) h fun zz y hy=>pT R14 hidden e t23 t24 zz.1 zz.2 hR14 hy
end
section
variable(R14:dW)(hidden:waA)(t41:waC)(t42:Int)(t43:Int)(m2:(List (ag×Bool)))
def di:az:=aZ 57 [(1,sl cS hidden),(2,.func (.func 80) [] [.bptr 0 0]),(41,sl aA t41),(42,.int .i64 t42),(43,.int .i64 t43)] [.cells [.bptr 1 0] [],.cells [.mapr 2] [],.map (aF PVal.bool m2),.dead] []
def gi(o:(List (ag×Bool))):az:=aZ 57 [] [.cells [.bptr 1 0] [],.cells [.mapr 2] [],.map (aF PVal.bool o),.dead] []
def b9:Option ((Int×(List (ag×Bool)))⊕(((List (ag×Bool))))):=
 if(decide (t43<t42))=true then
  (fO t41 t43).bind fun x18=>
  (ol hidden).bind fun r19=>
  (app r19 x18.Names).bind fun l20=>
  (R14 x18.Body l20 m2).bind fun r21=>
  some (.inl (bZ (t43+1),r21))
 else
  some (.inr m2)
def eU:Option (((List (ag×Bool)))):=loop (fun(zz:Int×(List (ag×Bool)))=>b9 R14 hidden t41 t42 zz.1 zz.2) (t43,m2)
theorem pU(hR14:dU R14){y:(Int×(List (ag×Bool)))⊕(((List (ag×Bool))))}(h:b9 R14 hidden t41 t42 t43 m2=some y):aP Pg GE 3 (cA NW 127) (LQ (fun(zz:Int×(List (ag×Bool)))=>di hidden t41 t42 zz.1 zz.2) (fun _=>.exit 2) gi y) (di hidden t41 t42 t43 m2):=by
 rcases aN h with⟨c17,h⟩|⟨c17,h⟩
 ·obtain⟨x18,bx18,h⟩:=aG h
  obtain⟨r19,br19,h⟩:=aG h
  obtain⟨l20,bl20,h⟩:=aG h
  obtain⟨r21,br21,h⟩:=aG h
  obtain rfl:=lf h
  have z:=sg 0 c17<|sv (ea.ia (k:=.i64) bx18)<|sv (ku x18)<|sx D2<|sx (hX x18)<|sk<|Sv (.dx [0,1,0,4,0,16,60,0] [] [] [])<|sv (bQ x18.Body [])<|cH (rA br19)<|ss<|sv (ch.ap bl20)<|si (.cg ⟨[0,1,2],[.agg (ac x18.Body),sl cS l20,.func (.func 80) [] [.bptr 0 0]],[],[.cells [.bptr 1 0] [],.cells [.mapr 2] [],.map (aF PVal.bool m2)],[.cells [.bptr 1 0] [],.cells [.mapr 2] [],.map (aF PVal.bool m2)],[.cells [.bptr 1 0] [],.cells [.mapr 2] [],.map (aF PVal.bool r21)],[.cells [.bptr 1 0] [],.cells [.mapr 2] [],.map (aF PVal.bool r21)],.tuple [],.tuple [],[]⟩) (hR14 _ _ _ _ br21)<|sf (aI (xR [0,1,2] (.agg (ac x18.Body)) (av x18.Body)) (aI (xR [0,1,2] (sl cS l20) (aj bD l20)) (aI (xF [0,1,2] (.func 80) [] [.bptr 0 0] [] [.bptr 0 0] trivial (aI (xB [0,1,2] 0 0 0 rfl) trivial)) trivial)))<|sf (aI (aI (rB (.cells [.bptr 1 0] [])) (aI (rW []) (aI (xB [0,1,2] 1 1 0 rfl) trivial))) (aI (aI (rB (.cells [.mapr 2] [])) (aI (rW []) (aI (xM [0,1,2] 2 2 rfl) trivial))) (aI (aI (rB (.map (aF PVal.bool m2))) (aI (rM (aF PVal.bool m2)) (lX (n:=0) PVal.bool (fun x=>trivial) m2))) trivial)))<|sf (aI (aI (rW []) (aI (xB [0,1,2] 1 1 0 rfl) trivial)) (aI (aI (rW []) (aI (xM [0,1,2] 2 2 rfl) trivial)) (aI (aI (rM (aF PVal.bool r21)) (lX (n:=0) PVal.bool (fun x=>trivial) r21)) trivial)))<|sf (xR [0,1,2] (.tuple []) trivial)<|sK 3 .normal (di hidden t41 t42 (bZ (t43+1)) r21) rfl (dF (aI (up (aj bD hidden)) (aI (aI trivial (aI (aX rfl) trivial)) (aI (up (aj bL t41)) (aI trivial (aI trivial trivial)))))) (aI (aI (aX rfl) trivial) (aI (aI (aX rfl) trivial) (aI (lX PVal.bool (fun x=>trivial) r21) (aI trivial trivial))))
  exact dZ (A:=LJ) mixed z<|by kernel_rfl
 ·obtain rfl:=lf h
  have z:=sg 0 c17<|eF (.exit 2) (gi m2)
  exact iZ LJ (by intro hx;cases hx) z<|by kernel_rfl
theorem ql(hR14:dU R14){x:((List (ag×Bool)))}(h:eU R14 hidden t41 t42 t43 m2=some x):aP Pg GE 3 (.loop (cA NW 127)) (EX (.exit 2) (gi x)) (di hidden t41 t42 t43 m2):=
 aP.loop (S:=fun(zz:Int×(List (ag×Bool)))=>di hidden t41 t42 zz.1 zz.2) (ex:=(fun _=>.exit 2)) (s:=(t43,m2)) h fun zz y hy=>pU R14 hidden t41 t42 zz.1 zz.2 hR14 hy
end
def fg(R14:dW)(e:af)(hidden:waA)(k2:(List (ag×Bool))):Option ((List (ag×Bool))):=
 (g6 hidden e k2).bind fun o9=>
 (eT R14 hidden e e.Kids (e.Kids.length:Int) 0 o9).bind fun o16=>
 (eU R14 hidden e.Alts (e.Alts.length:Int) 0 o16).bind fun o22=>
 some o22
theorem rQ(R14:dW)(hR14:dU R14){e:af}{hidden:waA}{k2:(List (ag×Bool))}{r:(List (ag×Bool))}(h:fg R14 e hidden k2=some r):C Pg GE 79 [.agg (ac e),sl cS hidden,.func (.func 80) [] [.bptr 0 0]] [] [.cells [.bptr 1 0] [],.cells [.mapr 2] [],.map (aF PVal.bool k2)] (.tuple []) [] [.cells [.bptr 1 0] [],.cells [.mapr 2] [],.map (aF PVal.bool r)]:=by
 obtain⟨o9,bo9,h⟩:=aG h
 obtain⟨o16,bo16,h⟩:=aG h
 obtain⟨o22,bo22,h⟩:=aG h
 obtain rfl:=lf h
 have z:=se (bK e)<|oz 0<|cU (qi hidden e k2 bo9)<|sv (aR e)<|sv (aS e)<|bW (fi.ln e.Kids)<|cU (qk R14 hidden e e.Kids (e.Kids.length:Int) 0 o9 hR14 bo16)<|sv (aB e)<|sv (aC e)<|bW (ea.ln e.Alts)<|cU (ql R14 hidden e.Alts (e.Alts.length:Int) 0 o16 hR14 bo22)<|en (aI (rP (.tuple []))<|aI trivial<|aI (rL [.cells [.bptr 1 0] [],.cells [.mapr 2] [],.map (aF PVal.bool o22)])<|(aI (aI (aX (i:=1) (n:=3) rfl) trivial) (aI (aI (aX (i:=2) (n:=3) rfl) trivial) (aI (lX (n:=3) PVal.bool (fun x=>trivial) o22) trivial))))
 exact C.evGp (A:=LJ) mixed (m:=3) (c:=NW) rfl call79 func79 rfl z<|by kernel_rfl
def im:((af×waA×(List (ag×Bool)))->Option ((List (ag×Bool))))->(af×waA×(List (ag×Bool)))->Option ((List (ag×Bool))):=fun(rec:(af×waA×(List (ag×Bool)))->Option ((List (ag×Bool)))) (x:af×waA×(List (ag×Bool)))=>fg (fun e hidden k2=>rec (e,hidden,k2)) x.1 x.2.1 x.2.2
def jc(e:af)(hidden:waA)(k2:(List (ag×Bool))):Option ((List (ag×Bool))):=qc im (e,hidden,k2)
theorem su{e:af}{hidden:waA}{k2:(List (ag×Bool))}{r:(List (ag×Bool))}(h:jc e hidden k2=some r):C Pg GE 79 [.agg (ac e),sl cS hidden,.func (.func 80) [] [.bptr 0 0]] [] [.cells [.bptr 1 0] [],.cells [.mapr 2] [],.map (aF PVal.bool k2)] (.tuple []) [] [.cells [.bptr 1 0] [],.cells [.mapr 2] [],.map (aF PVal.bool r)]:=
 d9 (F:=im) (M:=fun(x:af×waA×(List (ag×Bool))) (r:(List (ag×Bool)))=>C Pg GE 79 [.agg (ac x.1),sl cS x.2.1,.func (.func 80) [] [.bptr 0 0]] [] [.cells [.bptr 1 0] [],.cells [.mapr 2] [],.map (aF PVal.bool x.2.2)] (.tuple []) [] [.cells [.bptr 1 0] [],.cells [.mapr 2] [],.map (aF PVal.bool r)]) (fun rec hrec x r h=>rQ _ (fun e hidden k2 r h=>hrec (e,hidden,k2) r h) h) h
noncomputable def WI:Code:=f24.body.getD .skip
def Wm:List Nat:=[]
def oN(e:af):Option waA:=
 (lB ([]:List ag)).bind fun r1=>
 (jc e ([]:List ag) r1).bind fun r2=>
 (qO r2).bind fun r3=>
 some r3
theorem uf{e:af}{r:waA}(h:oN e=some r):CC Pg GE 24 [.agg (ac e)] (sl cS r) [(0,9)]:=by
 obtain⟨r1,br1,h⟩:=aG h
 obtain⟨r2,br2,h⟩:=aG h
 obtain⟨r3,br3,h⟩:=aG h
 obtain rfl:=lf h
 have z:=se (bK e)<|si (.cn ⟨[2,3],[],[],[],[],[.map (aF PVal.bool r1),.cells [.mapr 2] []],[.map (aF PVal.bool r1),.cells [.mapr 0] []],.bptr 3 0,.bptr 1 0,[]⟩) (qS br1)<|sf (aI (aj bD ([]:List ag)) trivial)<|sf (aI (aI (rM (aF PVal.bool r1)) (lX (n:=0) PVal.bool (fun x=>trivial) r1)) (aI (aI (rW []) (aI (xM [2,3] 0 2 rfl) trivial)) trivial))<|sf (xB [2,3] 1 3 0 rfl)<|sx Sr<|ss<|sv (aW e)<|si (.cg ⟨[1,3,2],[.agg (ac e),sl cS ([]:List ag),.func (.func 80) [] [.bptr 0 0]],[],[.cells [.bptr 3 0] [],.cells [.mapr 2] [],.map (aF PVal.bool r1)],[.cells [.bptr 1 0] [],.cells [.mapr 2] [],.map (aF PVal.bool r1)],[.cells [.bptr 3 0] [],.cells [.mapr 2] [],.map (aF PVal.bool r2)],[.cells [.bptr 1 0] [],.cells [.mapr 2] [],.map (aF PVal.bool r2)],.tuple [],.tuple [],[]⟩) (su br2)<|sf (aI (xR [1,3,2] (.agg (ac e)) (av e)) (aI (xR [1,3,2] (sl cS ([]:List ag)) (aj bD ([]:List ag))) (aI (xF [1,3,2] (.func 80) [] [.bptr 1 0] [] [.bptr 0 0] trivial (aI (xB [1,3,2] 0 1 0 rfl) trivial)) trivial)))<|sf (aI (aI (rB (.cells [.bptr 3 0] [])) (aI (rW []) (aI (xB [1,3,2] 1 3 0 rfl) trivial))) (aI (aI (rB (.cells [.mapr 2] [])) (aI (rW []) (aI (xM [1,3,2] 2 2 rfl) trivial))) (aI (aI (rB (.map (aF PVal.bool r1))) (aI (rM (aF PVal.bool r1)) (lX (n:=0) PVal.bool (fun x=>trivial) r1))) trivial)))<|sf (aI (aI (rW []) (aI (xB [1,3,2] 1 3 0 rfl) trivial)) (aI (aI (rW []) (aI (xM [1,3,2] 2 2 rfl) trivial)) (aI (aI (rM (aF PVal.bool r2)) (lX (n:=0) PVal.bool (fun x=>trivial) r2)) trivial)))<|sf (xR [1,3,2] (.tuple []) trivial)<|ss<|si (.cg ⟨[3,2],[.bptr 0 0],[],[.cells [.mapr 2] [],.map (aF PVal.bool r2)],[.cells [.mapr 1] [],.map (aF PVal.bool r2)],[.cells [.mapr 2] [],.map (aF PVal.bool r2)],[.cells [.mapr 1] [],.map (aF PVal.bool r2)],sl cS r3,sl cS r3,[(0,9)]⟩) (wo br3)<|sf (aI (xB [3,2] 0 3 0 rfl) trivial)<|sf (aI (aI (rB (.cells [.mapr 2] [])) (aI (rW []) (aI (xM [3,2] 1 2 rfl) trivial))) (aI (aI (rB (.map (aF PVal.bool r2))) (aI (rM (aF PVal.bool r2)) (lX (n:=0) PVal.bool (fun x=>trivial) r2))) trivial))<|sf (aI (aI (rW []) (aI (xM [3,2] 1 2 rfl) trivial)) (aI (aI (rM (aF PVal.bool r2)) (lX (n:=0) PVal.bool (fun x=>trivial) r2)) trivial))<|sf (xR [3,2] (sl cS r3) (aj bD r3))<|en (aI (rP (sl cS r3))<|(aj bD r3))
 exact cC Wm call24 func24 (c:=WI) rfl (aI (av e) trivial) z<|by kernel_rfl
abbrev aY:=(af->(List ae)->waA->Option (af×waA))
abbrev bv(R:aY):Prop:=∀(e:af) (scope:(List ae)) (k0:waA) (r:af×waA),R e scope k0=some r->C Pg GE 56 [.agg [.func (.func 62) [] [.bptr 0 0],.func (.func 61) [] []],.agg (ac e),sl aa scope] [] [.cells [sl cS k0] [(0,9)]] (.agg (ac r.1)) [(3,28),(4,85),(5,89),(6,60)] [.cells [sl cS r.2] [(0,9)]]
abbrev d5:=(waB->Option waB)
abbrev gO(R:d5):Prop:=∀(a:waB) (r:waB),R a=some r->CC Pg GE 102 [sl ai a,.func (.func 103) [] []] (sl ai r) [(0,60)]
abbrev f0:=(ax->Option ax)
abbrev kq(R:f0):Prop:=∀(p:ax) (r:ax),R p=some r->CC Pg GE 135 [.agg (aw p)] (.agg (aw r)) [(3,58)]
noncomputable def SQ:Code:=f136.body.getD .skip
def SA:List Nat:=[14,21]
section
variable(R24:f0)(t8:waF)(t9:Int)(out:waF)(t10:Int)
def eb:az:=aZ 22 [(1,.func (.func 135) [] []),(5,sl aw out),(8,sl aw t8),(9,.int .i64 t9),(10,.int .i64 t10)] [] [((5,0),58)]
def iP(o:waF):az:=aZ 22 [(5,sl aw o)] [] [((5,0),58)]
def mt:Option ((waF×Int)⊕(waF)):=
 if(decide (t10<t9))=true then
  (fO t8 t10).bind fun x2=>
  (R24 x2).bind fun r3=>
  (app out ([r3]:List ax)).bind fun l4=>
  some (.inl (l4,bZ (t10+1)))
 else
  some (.inr out)
def nK:Option waF:=loop (fun(zz:waF×Int)=>mt R24 t8 t9 zz.1 zz.2) (out,t10)
theorem sn(hR24:kq R24){y:(waF×Int)⊕(waF)}(h:mt R24 t8 t9 out t10=some y):aP Pg GE 0 (cA SQ 119) (LQ (fun(zz:waF×Int)=>eb t8 t9 zz.1 zz.2) (fun _=>.exit 0) iP y) (eb t8 t9 out t10):=by
 rcases aN h with⟨c1,h⟩|⟨c1,h⟩
 ·obtain⟨x2,bx2,h⟩:=aG h
  obtain⟨r3,br3,h⟩:=aG h
  obtain⟨l4,bl4,h⟩:=aG h
  obtain rfl:=lf h
  have z:=sg 0 c1<|sv (mX.ia (k:=.i64) bx2)<|sv (pq x2)<|sx R9<|sx (AJ x2)<|sv (wB x2 [])<|cH (hR24 _ _ br3)<|sv (mX.mk' (v:=LG) Kq ([r3]:List ax) 1 (by kernel_rfl))<|sv (mX.ap bl4)<|sK 0 .normal (eb t8 t9 l4 (bZ (t10+1))) rfl (dF (aI (aI trivial trivial) (aI (up (aj bH l4)) (aI (up (aj bH t8)) (aI trivial (aI trivial trivial)))))) trivial
  exact dZ (A:=SA) mixed z<|by kernel_rfl
 ·obtain rfl:=lf h
  have z:=sg 0 c1<|eF (.exit 0) (iP out)
  exact iZ SA (by intro hx;cases hx) z<|by kernel_rfl
theorem tk(hR24:kq R24){x:waF}(h:nK R24 t8 t9 out t10=some x):aP Pg GE 0 (.loop (cA SQ 119)) (EX (.exit 0) (iP x)) (eb t8 t9 out t10):=
 aP.loop (S:=fun(zz:waF×Int)=>eb t8 t9 zz.1 zz.2) (ex:=(fun _=>.exit 0)) (s:=(out,t10)) h fun zz y hy=>sn R24 t8 t9 zz.1 zz.2 hR24 hy
end
def lE(R24:f0)(a:waF):Option waF:=
 (nK R24 a (a.length:Int) ([]:List ax) 0).bind fun o5=>
 some o5
theorem nM(R24:f0)(hR24:kq R24){a:waF}{r:waF}(h:lE R24 a=some r):CC Pg GE 136 [sl aw a,.func (.func 135) [] []] (sl aw r) [(0,58)]:=by
 obtain⟨o5,bo5,h⟩:=aG h
 obtain rfl:=lf h
 have z:=bW (mX.ln a)<|cU (tk R24 a (a.length:Int) ([]:List ax) 0 hR24 bo5)<|en (aI (rP (sl aw o5))<|(aj bH o5))
 exact cC SA call136 func136 (c:=SQ) rfl (aI (aj bH a) (aI (aI trivial trivial) trivial)) z<|by kernel_rfl
noncomputable def Vh:Code:=f135.body.getD .skip
def U0:List Nat:=[]
def um(R24:f0)(p:ax):Option ax:=
 (lE R24 p.Kids).bind fun r1=>
 some (⟨p.Op,p.Name,p.N,r1⟩:ax)
theorem z7(R24:f0)(hR24:kq R24){p:ax}{r:ax}(h:um R24 p=some r):CC Pg GE 135 [.agg (aw p)] (.agg (aw r)) [(3,58)]:=by
 obtain⟨r1,br1,h⟩:=aG h
 obtain rfl:=lf h
 have z:=sx (AJ p)<|sx R9<|ss<|cH (nM R24 hR24 br1)<|sz (wB (⟨p.Op,p.Name,p.N,r1⟩:ax) [])<|sy (ei (⟨p.Op,p.Name,p.N,r1⟩:ax))<|en (aI (Pp (⟨p.Op,p.Name,p.N,r1⟩:ax))<|aI (bH (⟨p.Op,p.Name,p.N,r1⟩:ax))<|rT)
 exact cC U0 call135 func135 (c:=Vh) rfl (aI (bH p) trivial) z<|by kernel_rfl
def uo:(ax->Option ax)->(ax)->Option ax:=fun(rec:ax->Option ax) (x:ax)=>um (fun p=>rec p) x
def mI(p:ax):Option ax:=qc uo p
theorem sS{p:ax}{r:ax}(h:mI p=some r):CC Pg GE 135 [.agg (aw p)] (.agg (aw r)) [(3,58)]:=
 d9 (F:=uo) (M:=fun(x:ax) (r:ax)=>CC Pg GE 135 [.agg (aw x)] (.agg (aw r)) [(3,58)]) (fun rec hrec x r h=>z7 _ (fun p r h=>hrec p r h) h) h
noncomputable def Vf:Code:=f103.body.getD .skip
def UY:List Nat:=[]
def mJ(R22:d5)(t:am):Option am:=
 (R22 t.Args).bind fun r1=>
 (ol t.Names).bind fun r2=>
 (mI t.Pred).bind fun r3=>
 (lE mI t.Preds).bind fun r4=>
 some (⟨t.Op,t.Name,r1,r2,r3,r4⟩:am)
theorem mZ(R22:d5)(hR22:gO R22){t:am}{r:am}(h:mJ R22 t=some r):CC Pg GE 103 [.agg (ai t)] (.agg (ai r)) [(2,60),(3,9),(7,58),(8,58)]:=by
 obtain⟨r1,br1,h⟩:=aG h
 obtain⟨r2,br2,h⟩:=aG h
 obtain⟨r3,br3,h⟩:=aG h
 obtain⟨r4,br4,h⟩:=aG h
 obtain rfl:=lf h
 have z:=sx (qK t)<|sx NN<|ss<|cH (hR22 _ _ br1)<|ss<|cH (rA br2)<|sv (wB t.Pred [sl aw t.Preds])<|cH (sS br3)<|sy (ei r3)<|ss<|cH (nM mI (fun _ _ h=>sS h) br4)<|sz (jZ (⟨t.Op,t.Name,r1,r2,r3,r4⟩:am) [])<|sy (dK (⟨t.Op,t.Name,r1,r2,r3,r4⟩:am))<|en (aI (Pq (⟨t.Op,t.Name,r1,r2,r3,r4⟩:am))<|aI (aL (⟨t.Op,t.Name,r1,r2,r3,r4⟩:am))<|rT)
 exact cC UY call103 func103 (c:=Vf) rfl (aI (aL t) trivial) z<|by kernel_rfl
noncomputable def SO:Code:=f102.body.getD .skip
def Sy:List Nat:=[14,21]
section
variable(R22:d5)(t8:waB)(t9:Int)(out:waB)(t10:Int)
def ec:az:=aZ 22 [(1,.func (.func 103) [] []),(5,sl ai out),(8,sl ai t8),(9,.int .i64 t9),(10,.int .i64 t10)] [] [((5,0),60)]
def iQ(o:waB):az:=aZ 22 [(5,sl ai o)] [] [((5,0),60)]
def mw:Option ((waB×Int)⊕(waB)):=
 if(decide (t10<t9))=true then
  (fO t8 t10).bind fun x2=>
  (mJ R22 x2).bind fun r3=>
  (app out ([r3]:List am)).bind fun l4=>
  some (.inl (l4,bZ (t10+1)))
 else
  some (.inr out)
def nN:Option waB:=loop (fun(zz:waB×Int)=>mw R22 t8 t9 zz.1 zz.2) (out,t10)
theorem sq(hR22:gO R22){y:(waB×Int)⊕(waB)}(h:mw R22 t8 t9 out t10=some y):aP Pg GE 0 (cA SO 119) (LQ (fun(zz:waB×Int)=>ec t8 t9 zz.1 zz.2) (fun _=>.exit 0) iQ y) (ec t8 t9 out t10):=by
 rcases aN h with⟨c1,h⟩|⟨c1,h⟩
 ·obtain⟨x2,bx2,h⟩:=aG h
  obtain⟨r3,br3,h⟩:=aG h
  obtain⟨l4,bl4,h⟩:=aG h
  obtain rfl:=lf h
  have z:=sg 0 c1<|sv (d4.ia (k:=.i64) bx2)<|sv (kG x2)<|sx NN<|sx (qK x2)<|sv (jZ x2 [])<|cH (mZ R22 hR22 br3)<|sv (d4.mk' (v:=LH) Kr ([r3]:List am) 1 (by kernel_rfl))<|sv (d4.ap bl4)<|sK 0 .normal (ec t8 t9 l4 (bZ (t10+1))) rfl (dF (aI (aI trivial trivial) (aI (up (aj aL l4)) (aI (up (aj aL t8)) (aI trivial (aI trivial trivial)))))) trivial
  exact dZ (A:=Sy) mixed z<|by kernel_rfl
 ·obtain rfl:=lf h
  have z:=sg 0 c1<|eF (.exit 0) (iQ out)
  exact iZ Sy (by intro hx;cases hx) z<|by kernel_rfl
theorem tn(hR22:gO R22){x:waB}(h:nN R22 t8 t9 out t10=some x):aP Pg GE 0 (.loop (cA SO 119)) (EX (.exit 0) (iQ x)) (ec t8 t9 out t10):=
 aP.loop (S:=fun(zz:waB×Int)=>ec t8 t9 zz.1 zz.2) (ex:=(fun _=>.exit 0)) (s:=(out,t10)) h fun zz y hy=>sq R22 t8 t9 zz.1 zz.2 hR22 hy
end
def oS(R22:d5)(a:waB):Option waB:=
 (nN R22 a (a.length:Int) ([]:List am) 0).bind fun o5=>
 some o5
theorem uH(R22:d5)(hR22:gO R22){a:waB}{r:waB}(h:oS R22 a=some r):CC Pg GE 102 [sl ai a,.func (.func 103) [] []] (sl ai r) [(0,60)]:=by
 obtain⟨o5,bo5,h⟩:=aG h
 obtain rfl:=lf h
 have z:=bW (d4.ln a)<|cU (tn R22 a (a.length:Int) ([]:List am) 0 hR22 bo5)<|en (aI (rP (sl ai o5))<|(aj aL o5))
 exact cC Sy call102 func102 (c:=SO) rfl (aI (aj aL a) (aI (aI trivial trivial) trivial)) z<|by kernel_rfl
def oT:(waB->Option waB)->(waB)->Option waB:=fun(rec:waB->Option waB) (x:waB)=>oS (fun a=>rec a) x
def dQ(a:waB):Option waB:=qc oT a
theorem gq{a:waB}{r:waB}(h:dQ a=some r):CC Pg GE 102 [sl ai a,.func (.func 103) [] []] (sl ai r) [(0,60)]:=
 d9 (F:=oT) (M:=fun(x:waB) (r:waB)=>CC Pg GE 102 [sl ai x,.func (.func 103) [] []] (sl ai r) [(0,60)]) (fun rec hrec x r h=>uH _ (fun a r h=>hrec a r h) h) h
noncomputable def WS:Code:=f61.body.getD .skip
def Ww:List Nat:=[3]
def Gb(s:ag):Option ag:=
 some s
theorem I0{s:ag}{r:ag}(h:Gb s=some r):CC Pg GE 61 [.str s] (.str r) []:=by
 obtain rfl:=lf h
 have z:=en (aI (rP (.str s))<|trivial)
 exact cC Ww call61 func61 (c:=WS) rfl (aI trivial trivial) z<|by kernel_rfl
noncomputable def Tp:Code:=f52.body.getD .skip
def Tk:List Nat:=[24,35]
section
variable(base:ag)(t11:waA)(t12:Int)(t13:Int)(m0:(List (ag×Bool)))
def j0:az:=aZ 36 [(1,.str base),(5,.mapr 0),(11,sl cS t11),(12,.int .i64 t12),(13,.int .i64 t13)] [.map (aF PVal.bool m0)] []
def qG(o:(List (ag×Bool))):az:=aZ 36 [(1,.str base),(5,.mapr 0)] [.map (aF PVal.bool o)] []
def wF:Option ((Int×(List (ag×Bool)))⊕(((List (ag×Bool))))):=
 if(decide (t13<t12))=true then
  (fO t11 t13).bind fun x2=>
  some (.inl (bZ (t13+1),wh m0 x2 true))
 else
  some (.inr m0)
def zF:Option (((List (ag×Bool)))):=loop (fun(zz:Int×(List (ag×Bool)))=>wF t11 t12 zz.1 zz.2) (t13,m0)
theorem Cw{y:(Int×(List (ag×Bool)))⊕(((List (ag×Bool))))}(h:wF t11 t12 t13 m0=some y):aP Pg GE 0 (cA Tp 119) (LQ (fun(zz:Int×(List (ag×Bool)))=>j0 base t11 t12 zz.1 zz.2) (fun _=>.exit 0) (qG base) y) (j0 base t11 t12 t13 m0):=by
 rcases aN h with⟨c1,h⟩|⟨c1,h⟩
 ·obtain⟨x2,bx2,h⟩:=aG h
  obtain rfl:=lf h
  exact xO Tk (sg 0 c1<|sv (ch.ia (k:=.i64) bx2)<|sv (cy C2 (.str x2) [])<|VX (Nv (f:=PVal.bool) underlying124 underlying9 m0 x2 true)<|eF .normal (j0 base t11 t12 (bZ (t13+1)) (wh m0 x2 true)))<|by kernel_rfl
 ·obtain rfl:=lf h
  have z:=sg 0 c1<|eF (.exit 0) (qG base m0)
  exact iZ Tk (by intro hx;cases hx) z<|by kernel_rfl
theorem DH{x:((List (ag×Bool)))}(h:zF t11 t12 t13 m0=some x):aP Pg GE 0 (.loop (cA Tp 119)) (EX (.exit 0) (qG base x)) (j0 base t11 t12 t13 m0):=
 aP.loop (S:=fun(zz:Int×(List (ag×Bool)))=>j0 base t11 t12 zz.1 zz.2) (ex:=(fun _=>.exit 0)) (s:=(t13,m0)) h fun zz y hy=>Cw base t11 t12 zz.1 zz.2 hy
end
section
variable(base:ag)(m0:(List (ag×Bool)))(n:Int)
def j1:az:=aZ 36 [(1,.str base),(5,.mapr 0),(8,.int .i64 n)] [.map (aF PVal.bool m0)] []
def qH(o:ag):az:=aZ 36 [(4,.str o)] [.map (aF PVal.bool m0)] []
def wG:Option (Int⊕(ag)):=
 (So n).bind fun r6=>
 (Vz base r6).bind fun s7=>
 if(!((GJ m0 s7).getD false))=true then
  some (.inr s7)
 else
  some (.inl (bZ (n+1)))
def zG:Option ag:=loop (fun(zz:Int)=>wG base m0 zz) n
theorem Cx{y:Int⊕(ag)}(h:wG base m0 n=some y):aP Pg GE 0 (cA Tp 255) (LQ (fun(zz:Int)=>j1 base m0 zz) (fun _=>.ret) (qH m0) y) (j1 base m0 n):=by
 obtain⟨r6,br6,h⟩:=aG h
 obtain⟨s7,bs7,h⟩:=aG h
 have p9:=fun{sc F} (r:PS sc F)=>cH (RP br6)<|sv (Td (P:=Pg) (t:=9) bs7)<|sv (Nu (f:=PVal.bool) underlying124 underlying9 VZ m0 s7)<|r
 rcases aN h with⟨c8,h⟩|⟨c8,h⟩
 ·obtain rfl:=lf h
  have z:=p9<|sg 0 c8<|eF .ret (qH m0 s7)
  exact iZ Tk (by intro hx;cases hx) z<|by kernel_rfl
 ·obtain rfl:=lf h
  exact xO Tk (p9<|sg 0 c8<|eF .normal (j1 base m0 (bZ (n+1))))<|by kernel_rfl
theorem DI{x:ag}(h:zG base m0 n=some x):aP Pg GE 0 (.loop (cA Tp 255)) (EX .ret (qH m0 x)) (j1 base m0 n):=
 aP.loop (S:=fun(zz:Int)=>j1 base m0 zz) (ex:=(fun _=>.ret)) (s:=n) h fun zz y hy=>Cx base m0 zz hy
end
def zE(used:waA)(base:ag):Option ag:=
 (zF used (used.length:Int) 0 ([]:List (ag×Bool))).bind fun o3=>
 if(!((GJ o3 base).getD false))=true then
  some base
 else
  (zG base o3 1).bind fun o10=>
  some o10
theorem zH{used:waA}{base:ag}{r:ag}(h:zE used base=some r):CC Pg GE 52 [sl cS used,.str base] (.str r) []:=by
 obtain⟨o3,bo3,h⟩:=aG h
 have p5:=fun{sc F} (r:PS sc F)=>bW (ch.ln used)<|cU (DH base used (used.length:Int) 0 ([]:List (ag×Bool)) bo3)<|sv (Nu (f:=PVal.bool) underlying124 underlying9 VZ o3 base)<|r
 rcases aN h with⟨c4,h⟩|⟨c4,h⟩
 ·obtain rfl:=lf h
  have z:=p5<|sg 0 c4<|en (aI (rP (.str base))<|trivial)
  exact cC Tk call52 func52 (c:=Tp) rfl (aI (aj bD used) (aI trivial trivial)) z<|by kernel_rfl
 ·obtain⟨o10,bo10,h⟩:=aG h
  obtain rfl:=lf h
  have z:=p5<|sg 0 c4<|cU (DI base o3 1 bo10)<|en (aI (rP (.str o10))<|trivial)
  exact cC Tk call52 func52 (c:=Tp) rfl (aI (aj bD used) (aI trivial trivial)) z<|by kernel_rfl
noncomputable def WT:Code:=f62.body.getD .skip
def Wx:List Nat:=[10,14]
def sj(s:ag)(a:(List ae))(k0:waA):Option (ag×waA):=
 (zE k0 s).bind fun r1=>
 (app k0 ([r1]:List ag)).bind fun l2=>
 some (r1,l2)
theorem ug{s:ag}{a:(List ae)}{k0:waA}{r:ag×waA}(h:sj s a k0=some r):C Pg GE 62 [.str s,sl aa a,.bptr 0 0] [] [.cells [sl cS k0] [(0,9)]] (.str r.1) [] [.cells [sl cS r.2] [(0,9)]]:=by
 obtain⟨r1,br1,h⟩:=aG h
 obtain⟨l2,bl2,h⟩:=aG h
 obtain rfl:=lf h
 have z:=ss<|cH (zH br1)<|sv (ch.mk' (v:=PVal.str) E7 ([r1]:List ag) 1 (by kernel_rfl))<|sv (ch.ap bl2)<|en (aI (rP (.str r1))<|aI trivial<|aI (rL [.cells [sl cS l2] [(0,9)]])<|(aI (aI (up (n:=1) (aj bD l2)) trivial) trivial))
 exact C.evGp (A:=Wx) mixed (m:=1) (c:=WT) rfl call62 func62 rfl z<|by kernel_rfl
noncomputable def TV:Code:=f105.body.getD .skip
def TB:List Nat:=[12,18]
def eD(s:ag)(a:(List ae))(k1:waA)(k2:(List ae)):Option (ag×waA×(List ae)):=
 (sj s a k1).bind fun r1=>
 (app k2 ([(⟨s,r1.1⟩:ae)]:List ae)).bind fun l2=>
 some (r1.1,r1.2,l2)
theorem gB{s:ag}{a:(List ae)}{k1:waA}{k2:(List ae)}{r:ag×waA×(List ae)}(h:eD s a k1 k2=some r):C Pg GE 105 [.str s,.bptr 0 0,.eptr ((cL aa) a),.bptr 2 0] [] [.cells [.func (.func 62) [] [.bptr 1 0],.func (.func 61) [] []] [],.cells [sl cS k1] [(0,9)],.cells [sl aa k2] [(0,137)]] (.str r.1) [] [.cells [.func (.func 62) [] [.bptr 1 0],.func (.func 61) [] []] [],.cells [sl cS r.2.1] [(0,9)],.cells [sl aa r.2.2] [(0,137)]]:=by
 obtain⟨r1,br1,h⟩:=aG h
 obtain⟨l2,bl2,h⟩:=aG h
 obtain rfl:=lf h
 have z:=ss<|sv (cy GT (sl aa a) [])<|si (.cg ⟨[1],[.str s,sl aa a,.bptr 0 0],[],[.cells [sl cS k1] [(0,9)]],[.cells [sl cS k1] [(0,9)]],[.cells [sl cS r1.2] [(0,9)]],[.cells [sl cS r1.2] [(0,9)]],.str r1.1,.str r1.1,[]⟩) (ug br1)<|sf (aI (xR [1] (.str s) trivial) (aI (xR [1] (sl aa a) (aj al a)) (aI (xB [1] 0 1 0 rfl) trivial)))<|sf (aI (aI (rB (.cells [sl cS k1] [(0,9)])) (aI (rW [(0,9)]) (aI (xR [1] (sl cS k1) (aj bD k1)) trivial))) trivial)<|sf (aI (aI (rW [(0,9)]) (aI (xR [1] (sl cS r1.2) (aj bD r1.2)) trivial)) trivial)<|sf (xR [1] (.str r1.1) trivial)<|sv (kr s r1.1)<|sv (IQ.mk' (v:=nV) oc ([(⟨s,r1.1⟩:ae)]:List ae) 1 (by kernel_rfl))<|sv (IQ.ap bl2)<|en (aI (rP (.str r1.1))<|aI trivial<|aI (rL [.cells [.func (.func 62) [] [.bptr 1 0],.func (.func 61) [] []] [],.cells [sl cS r1.2] [(0,9)],.cells [sl aa l2] [(0,137)]])<|(aI (aI (aI trivial (aI (aX (i:=1) (n:=3) rfl) trivial)) (aI (aI trivial trivial) trivial)) (aI (aI (up (n:=3) (aj bD r1.2)) trivial) (aI (aI (up (n:=3) (aj al l2)) trivial) trivial))))
 exact C.evGp (A:=TB) mixed (m:=3) (c:=TV) rfl call105 func105 rfl z<|by kernel_rfl
noncomputable def Rp:Code:=f108.body.getD .skip
def Ot:List Nat:=[]
section
variable(t1:Bool)(v:(List ae))(m:waA)(m2:(List ae))(m3:ag)(m4:Int)(m5:ag)(m6:waB)(m7:waA)(m8:Int)(m9:ag)(m10:Int)(m11:waF)(m12:waF)(m13:waB)(m14:waF)
def gL:az:=aZ 17 [(1,.eptr (cB t1)),(2,.bptr 0 0),(3,.bptr 4 0),(4,.bptr 5 0)] [.cells [.func (.func 105) [] [.bptr 1 0,.eptr ((cL aa) v),.bptr 3 0]] [],.cells [.func (.func 62) [] [.bptr 2 0],.func (.func 61) [] []] [],.cells [sl cS m] [(0,9)],.cells [sl aa m2] [(0,137)],.cells [.str m3,.int .i64 m4,.str m5,sl ai m6,sl cS m7,.int .i64 m8,.str m9,.int .i64 m10,sl aw m11,sl aw m12] [],.cells [.str ([]:ag),.int .i64 0,.str ([]:ag),sl ai m13,sl cS ([]:List ag),.int .i64 0,.str ([]:ag),.int .i64 0,sl aw m14,sl aw m14] [(3,60),(4,9),(8,58),(9,58)]] []
def cm(o:waA×(List ae)×ag):az:=aZ 17 [(3,.bptr 4 0),(4,.bptr 5 0)] [.cells [.func (.func 105) [] [.bptr 1 0,.eptr ((cL aa) v),.bptr 3 0]] [],.cells [.func (.func 62) [] [.bptr 2 0],.func (.func 61) [] []] [],.cells [sl cS o.1] [(0,9)],.cells [sl aa o.2.1] [(0,137)],.cells [.str o.2.2,.int .i64 m4,.str m5,sl ai m6,sl cS m7,.int .i64 m8,.str m9,.int .i64 m10,sl aw m11,sl aw m12] [],.cells [.str ([]:ag),.int .i64 0,.str ([]:ag),sl ai m13,sl cS ([]:List ag),.int .i64 0,.str ([]:ag),.int .i64 0,sl aw m14,sl aw m14] [(3,60),(4,9),(8,58),(9,58)]] []
def dP:Option ((waA×(List ae)×ag)):=
 if t1=true then
  (eD m3 v m m2).bind fun r2=>
  some (r2.2.1,r2.2.2,r2.1)
 else
  some (m,m2,m3)
theorem gC{x:(waA×(List ae)×ag)}(h:dP t1 v m m2 m3=some x):aP Pg GE 4 (cA Rp 6) (EX .normal (cm v m4 m5 m6 m7 m8 m9 m10 m11 m12 m13 m14 x)) (gL t1 v m m2 m3 m4 m5 m6 m7 m8 m9 m10 m11 m12 m13 m14):=by
 rcases aN h with⟨c1,h⟩|⟨c1,h⟩
 ·obtain⟨r2,br2,h⟩:=aG h
  obtain rfl:=lf h
  exact bk Ot (sv (cy UX (.bool t1) [])<|sg 0 c1<|ss<|ss<|si (.cg ⟨[1,2,3],[.str m3,.bptr 0 0,.eptr ((cL aa) v),.bptr 2 0],[],[.cells [.func (.func 62) [] [.bptr 2 0],.func (.func 61) [] []] [],.cells [sl cS m] [(0,9)],.cells [sl aa m2] [(0,137)]],[.cells [.func (.func 62) [] [.bptr 1 0],.func (.func 61) [] []] [],.cells [sl cS m] [(0,9)],.cells [sl aa m2] [(0,137)]],[.cells [.func (.func 62) [] [.bptr 2 0],.func (.func 61) [] []] [],.cells [sl cS r2.2.1] [(0,9)],.cells [sl aa r2.2.2] [(0,137)]],[.cells [.func (.func 62) [] [.bptr 1 0],.func (.func 61) [] []] [],.cells [sl cS r2.2.1] [(0,9)],.cells [sl aa r2.2.2] [(0,137)]],.str r2.1,.str r2.1,[]⟩) (gB br2)<|sf (aI (xR [1,2,3] (.str m3) trivial) (aI (xB [1,2,3] 0 1 0 rfl) (aI (xR [1,2,3] (.eptr ((cL aa) v)) (lS al v)) (aI (xB [1,2,3] 2 3 0 rfl) trivial))))<|sf (aI (aI (rB (.cells [.func (.func 62) [] [.bptr 2 0],.func (.func 61) [] []] [])) (aI (rW []) (aI (xF [1,2,3] (.func 62) [] [.bptr 2 0] [] [.bptr 1 0] trivial (aI (xB [1,2,3] 1 2 0 rfl) trivial)) (aI (xR [1,2,3] (.func (.func 61) [] []) (aI trivial trivial)) trivial)))) (aI (aI (rB (.cells [sl cS m] [(0,9)])) (aI (rW [(0,9)]) (aI (xR [1,2,3] (sl cS m) (aj bD m)) trivial))) (aI (aI (rB (.cells [sl aa m2] [(0,137)])) (aI (rW [(0,137)]) (aI (xR [1,2,3] (sl aa m2) (aj al m2)) trivial))) trivial)))<|sf (aI (aI (rW []) (aI (xF [1,2,3] (.func 62) [] [.bptr 2 0] [] [.bptr 1 0] trivial (aI (xB [1,2,3] 1 2 0 rfl) trivial)) (aI (xR [1,2,3] (.func (.func 61) [] []) (aI trivial trivial)) trivial))) (aI (aI (rW [(0,9)]) (aI (xR [1,2,3] (sl cS r2.2.1) (aj bD r2.2.1)) trivial)) (aI (aI (rW [(0,137)]) (aI (xR [1,2,3] (sl aa r2.2.2) (aj al r2.2.2)) trivial)) trivial)))<|sf (xR [1,2,3] (.str r2.1) trivial)<|ss<|eF .normal (cm v m4 m5 m6 m7 m8 m9 m10 m11 m12 m13 m14 (r2.2.1,r2.2.2,r2.1)))<|by kernel_rfl
 ·obtain rfl:=lf h
  exact bk Ot (sv (cy UX (.bool t1) [])<|sg 0 c1<|eF .normal (cm v m4 m5 m6 m7 m8 m9 m10 m11 m12 m13 m14 (m,m2,m3)))<|by kernel_rfl
end
def ed(p:ay)(a:Bool)(c:(List ae))(k2:waA)(k3:(List ae)):Option (ay×waA×(List ae)):=
 (dP a c k2 k3 p.Name).bind fun o3=>
 (mJ dQ p.Type_).bind fun r4=>
 some ((⟨o3.2.2,r4⟩:ay),o3.1,o3.2.1)
theorem ib{p:ay}{a:Bool}{c:(List ae)}{k2:waA}{k3:(List ae)}{r:ay×waA×(List ae)}(h:ed p a c k2 k3=some r):C Pg GE 108 [.agg (au p),.eptr (cB a),.bptr 0 0] [] [.cells [.func (.func 105) [] [.bptr 1 0,.eptr ((cL aa) c),.bptr 3 0]] [],.cells [.func (.func 62) [] [.bptr 2 0],.func (.func 61) [] []] [],.cells [sl cS k2] [(0,9)],.cells [sl aa k3] [(0,137)]] (.agg (au r.1)) [] [.cells [.func (.func 105) [] [.bptr 1 0,.eptr ((cL aa) c),.bptr 3 0]] [],.cells [.func (.func 62) [] [.bptr 2 0],.func (.func 61) [] []] [],.cells [sl cS r.2.1] [(0,9)],.cells [sl aa r.2.2] [(0,137)]]:=by
 obtain⟨o3,bo3,h⟩:=aG h
 obtain⟨r4,br4,h⟩:=aG h
 obtain rfl:=lf h
 have z:=sx (mr p)<|sx Pm<|oz 0<|cU (gC a c k2 k3 p.Name p.Type_.Op p.Type_.Name p.Type_.Args p.Type_.Names p.Type_.Pred.Op p.Type_.Pred.Name p.Type_.Pred.N p.Type_.Pred.Kids p.Type_.Preds ([]:List am) ([]:List ax) bo3)<|IS [0,1,0,4,12,31,63]<|ss<|sv (jZ p.Type_ [])<|cH (mZ dQ (fun _ _ h=>gq h) br4)<|sv (Bx o3.2.2 r4)<|sx (mr (⟨o3.2.2,r4⟩:ay))<|en (aI (IN (⟨o3.2.2,r4⟩:ay))<|aI (UM (n:=4) (bh (⟨o3.2.2,r4⟩:ay)))<|aI (rL [.cells [.func (.func 105) [] [.bptr 1 0,.eptr ((cL aa) c),.bptr 3 0]] [],.cells [.func (.func 62) [] [.bptr 2 0],.func (.func 61) [] []] [],.cells [sl cS o3.1] [(0,9)],.cells [sl aa o3.2.1] [(0,137)]])<|(aI (aI (aI trivial (aI (aX (i:=1) (n:=4) rfl) (aI (ba (n:=4) (lS al c)) (aI (aX (i:=3) (n:=4) rfl) trivial)))) trivial) (aI (aI (aI trivial (aI (aX (i:=2) (n:=4) rfl) trivial)) (aI (aI trivial trivial) trivial)) (aI (aI (up (n:=4) (aj bD o3.1)) trivial) (aI (aI (up (n:=4) (aj al o3.2.1)) trivial) trivial)))))
 exact C.evGp (A:=Ot) mixed (m:=4) (c:=Rp) rfl call108 func108 rfl z<|by kernel_rfl
end Go.Proofs.YtkdahfeiedaahaaGreatDoor
