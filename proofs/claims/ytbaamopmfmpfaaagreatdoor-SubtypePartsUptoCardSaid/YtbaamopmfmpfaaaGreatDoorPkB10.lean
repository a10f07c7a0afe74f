/- PROVED: a part of the proof. Conditions: none. -/
import Derived.Test.YtbaamopmfmpfaaaGreatDoorPkB9
noncomputable section
namespace Go.Proofs.YtbaamopmfmpfaaaGreatDoor
open Go Go.Proofs.Tryz
set_option linter.unusedVariables false
set_option maxRecDepth 100000
abbrev nz:=(waC->Int->Option Int)
abbrev sI(R:nz):Prop:=∀(a:waC) (most:Int) (r:Int),R a most=some r->CC Pg GE 28 [sl ag a,.int .i64 most] (.int .i64 r) []
abbrev ny:=(waB->Int->Option Int)
abbrev sH(R:ny):Prop:=∀(a:waB) (most:Int) (r:Int),R a most=some r->CC Pg GE 29 [sl ac a,.int .i64 most] (.int .i64 r) []
noncomputable def qjw:Code:=f29.body.getD .skip
def qh2:List Nat:=[39]
section
variable(v:waB)(most:Int)(n:Int)(i:Int)
def GR:aC:=be 40 [(0,sl ac v),(1,.int .i64 most),(5,.int .i64 n),(6,.int .i64 i)] [] []
def nV(o:Bool):aC:=be 40 [(0,sl ac v),(1,.int .i64 most),(5,.int .i64 n),(6,.int .i64 i),(15,.bool o)] [] []
def lV:Option Bool:=
 if(decide (i<(v.length:Int)))=true then
  some (decide (n<=most))
 else
  some false
theorem EA{x:Bool}(h:lV v most n i=some x):aV Pg GE 0 (cA qjw 476) (EX .normal (nV v most n i x)) (GR v most n i):=by
 rcases bj h with⟨c1,h⟩|⟨c1,h⟩
 ·obtain rfl:=lf h
  exact cf qh2 (cq (bL.ln v)<|sg 5 c1<|eF .normal (nV v most n i (decide (n<=most))))<|by kernel_rfl
 ·obtain rfl:=lf h
  exact cf qh2 (cq (bL.ln v)<|sg 5 c1<|eF .normal (nV v most n i false))<|by kernel_rfl
end
section
variable(R5:ny)(v:waB)(most:Int)(n:Int)(i:Int)
def gN:aC:=be 40 [(0,sl ac v),(1,.int .i64 most),(5,.int .i64 n),(6,.int .i64 i)] [] []
def nW(o:Int):aC:=be 40 [(5,.int .i64 o)] [] []
def fj:Option ((Int×Int)⊕(Int)):=
 (lV v most n i).bind fun o2=>
 if o2=true then
  (cz v i).bind fun x5=>
  (qu .i64 (x5.Name.length:Int) 100).bind fun q6=>
  (cz v i).bind fun x7=>
  (R5 x7.Kids (aS (most - (aS ((aS (n+1))+q6))))).bind fun r8=>
  some (.inl (aS ((aS ((aS (n+1))+q6))+r8),aS (i+1)))
 else
  some (.inr n)
def qY:Option Int:=loop (fun(zz:Int×Int)=>fj R5 v most zz.1 zz.2) (n,i)
theorem Dp(hR5:sH R5){y:(Int×Int)⊕(Int)}(h:fj R5 v most n i=some y):aV Pg GE 0 (cA qjw 119) (LQ (fun(zz:Int×Int)=>gN v most zz.1 zz.2) (fun _=>.exit 0) nW y) (gN v most n i):=by
 obtain⟨o2,bo2,h⟩:=ay h
 have p4:=fun{sc F} (r:PS sc F)=>ka 1<|cY (EA v most n i bo2)<|r
 rcases bj h with⟨c3,h⟩|⟨c3,h⟩
 ·obtain⟨x5,bx5,h⟩:=ay h
  obtain⟨q6,bq6,h⟩:=ay h
  obtain⟨x7,bx7,h⟩:=ay h
  obtain⟨r8,br8,h⟩:=ay h
  obtain rfl:=lf h
  exact oo qh2 (p4<|sg 0 c3<|sv (bL.ia (k:=.i64) bx5)<|sv (cw x5)<|sv (cR x5)<|cq (iD underlying9 x5.Name)<|sv (AL (P:=Pg) (t:=3) bq6)<|sv (bL.ia (k:=.i64) bx7)<|sv (bC x7)<|sv (bD x7)<|bz (hR5 _ _ _ br8)<|eF .normal (gN v most (aS ((aS ((aS (n+1))+q6))+r8)) (aS (i+1))))<|by kernel_rfl
 ·obtain rfl:=lf h
  have z:=p4<|sg 0 c3<|eF (.exit 0) (nW n)
  exact gg qh2 (by intro hx;cases hx) z<|by kernel_rfl
theorem EB(hR5:sH R5){x:Int}(h:qY R5 v most n i=some x):aV Pg GE 0 (.loop (cA qjw 119)) (EX (.exit 0) (nW x)) (gN v most n i):=
 aV.loop (S:=fun(zz:Int×Int)=>gN v most zz.1 zz.2) (ex:=(fun _=>.exit 0)) (s:=(n,i)) h fun zz y hy=>Dp R5 v most zz.1 zz.2 hR5 hy
end
def nv(R5:ny)(a:waB)(most:Int):Option Int:=
 (qY R5 a most 0 0).bind fun o9=>
 some o9
theorem H5(R5:ny)(hR5:sH R5){a:waB}{most:Int}{r:Int}(h:nv R5 a most=some r):CC Pg GE 29 [sl ac a,.int .i64 most] (.int .i64 r) []:=by
 obtain⟨o9,bo9,h⟩:=ay h
 obtain rfl:=lf h
 have z:=cY (EB R5 a most 0 0 hR5 bo9)<|en (aI (rP (.int .i64 o9))<|trivial)
 exact bO qh2 call29 func29 (c:=qjw) rfl (aI (aj ah a) (aI trivial trivial)) z<|by kernel_rfl
def sS:((waB×Int)->Option Int)->(waB×Int)->Option Int:=fun(rec:(waB×Int)->Option Int) (x:waB×Int)=>nv (fun a most=>rec (a,most)) x.1 x.2
def eV(a:waB)(most:Int):Option Int:=kK sS (a,most)
theorem eW{a:waB}{most:Int}{r:Int}(h:eV a most=some r):CC Pg GE 29 [sl ac a,.int .i64 most] (.int .i64 r) []:=
 cG (F:=sS) (M:=fun(x:waB×Int) (r:Int)=>CC Pg GE 29 [sl ac x.1,.int .i64 x.2] (.int .i64 r) []) (fun rec hrec x r h=>H5 _ (fun a most r h=>hrec (a,most) r h) h) h
noncomputable def qjv:Code:=f28.body.getD .skip
def qh1:List Nat:=[63]
section
variable(v:waC)(most:Int)(n:Int)(i:Int)
def GS:aC:=be 64 [(0,sl ag v),(1,.int .i64 most),(5,.int .i64 n),(6,.int .i64 i)] [] []
def nX(o:Bool):aC:=be 64 [(0,sl ag v),(1,.int .i64 most),(5,.int .i64 n),(6,.int .i64 i),(15,.bool o)] [] []
def lW:Option Bool:=
 if(decide (i<(v.length:Int)))=true then
  some (decide (n<=most))
 else
  some false
theorem EC{x:Bool}(h:lW v most n i=some x):aV Pg GE 0 (cA qjv 476) (EX .normal (nX v most n i x)) (GS v most n i):=by
 rcases bj h with⟨c1,h⟩|⟨c1,h⟩
 ·obtain rfl:=lf h
  exact cf qh1 (cq (ct.ln v)<|sg 5 c1<|eF .normal (nX v most n i (decide (n<=most))))<|by kernel_rfl
 ·obtain rfl:=lf h
  exact cf qh1 (cq (ct.ln v)<|sg 5 c1<|eF .normal (nX v most n i false))<|by kernel_rfl
end
section
variable(R4:nz)(v:waC)(most:Int)(n:Int)(i:Int)
def gO:aC:=be 64 [(0,sl ag v),(1,.int .i64 most),(5,.int .i64 n),(6,.int .i64 i)] [] []
def nY(o:Int):aC:=be 64 [(5,.int .i64 o)] [] []
def fk:Option ((Int×Int)⊕(Int)):=
 (lW v most n i).bind fun o2=>
 if o2=true then
  (cz v i).bind fun x5=>
  (qu .i64 (x5.Name.length:Int) 100).bind fun q6=>
  (cz v i).bind fun x7=>
  (cz v i).bind fun x8=>
  (eV x8.Preds most).bind fun r9=>
  (cz v i).bind fun x10=>
  (eV ([x10.Pred]:List aa) most).bind fun r11=>
  (cz v i).bind fun x12=>
  (R4 x12.Args (aS (most - (aS ((aS ((aS ((aS ((aS (n+1))+q6))+(x7.Names.length:Int)))+r9))+r11))))).bind fun r13=>
  some (.inl (aS ((aS ((aS ((aS ((aS ((aS (n+1))+q6))+(x7.Names.length:Int)))+r9))+r11))+r13),aS (i+1)))
 else
  some (.inr n)
def qZ:Option Int:=loop (fun(zz:Int×Int)=>fk R4 v most zz.1 zz.2) (n,i)
theorem Dq(hR4:sI R4){y:(Int×Int)⊕(Int)}(h:fk R4 v most n i=some y):aV Pg GE 0 (cA qjv 119) (LQ (fun(zz:Int×Int)=>gO v most zz.1 zz.2) (fun _=>.exit 0) nY y) (gO v most n i):=by
 obtain⟨o2,bo2,h⟩:=ay h
 have p4:=fun{sc F} (r:PS sc F)=>ka 1<|cY (EC v most n i bo2)<|r
 rcases bj h with⟨c3,h⟩|⟨c3,h⟩
 ·obtain⟨x5,bx5,h⟩:=ay h
  obtain⟨q6,bq6,h⟩:=ay h
  obtain⟨x7,bx7,h⟩:=ay h
  obtain⟨x8,bx8,h⟩:=ay h
  obtain⟨r9,br9,h⟩:=ay h
  obtain⟨x10,bx10,h⟩:=ay h
  obtain⟨r11,br11,h⟩:=ay h
  obtain⟨x12,bx12,h⟩:=ay h
  obtain⟨r13,br13,h⟩:=ay h
  obtain rfl:=lf h
  exact oo qh1 (p4<|sg 0 c3<|lK [0,1,0,0,12,28,60,124,252,511,0,0,3072,7168,15360,31744,65535,0,0,393216,917504,1966080,0,8257536,16777215,0,0,100663296,234881024,503316480,1040187392,0,4278059008,8589934591,17179869183]<|sv (ct.ia (k:=.i64) bx5)<|sv (cx x5)<|sv (cT x5)<|cq (iD underlying9 x5.Name)<|sv (AL (P:=Pg) (t:=3) bq6)<|sv (ct.ia (k:=.i64) bx7)<|sv (aQ x7)<|sv (aR x7)<|cq (bq.ln x7.Names)<|sv (ct.ia (k:=.i64) bx8)<|sv (du x8)<|sv (dv x8)<|bz (eW br9)<|sv (ct.ia (k:=.i64) bx10)<|sv (dH x10)<|sv (dI x10)<|sv (bL.mk' (v:=dZ) cP ([x10.Pred]:List aa) 1 (by kernel_rfl))<|bz (eW br11)<|sv (ct.ia (k:=.i64) bx12)<|sv (aL x12)<|sv (aM x12)<|bz (hR4 _ _ _ br13)<|eF .normal (gO v most (aS ((aS ((aS ((aS ((aS ((aS (n+1))+q6))+(x7.Names.length:Int)))+r9))+r11))+r13)) (aS (i+1))))<|by kernel_rfl
 ·obtain rfl:=lf h
  have z:=p4<|sg 0 c3<|eF (.exit 0) (nY n)
  exact gg qh1 (by intro hx;cases hx) z<|by kernel_rfl
theorem ED(hR4:sI R4){x:Int}(h:qZ R4 v most n i=some x):aV Pg GE 0 (.loop (cA qjv 119)) (EX (.exit 0) (nY x)) (gO v most n i):=
 aV.loop (S:=fun(zz:Int×Int)=>gO v most zz.1 zz.2) (ex:=(fun _=>.exit 0)) (s:=(n,i)) h fun zz y hy=>Dq R4 v most zz.1 zz.2 hR4 hy
end
def nw(R4:nz)(a:waC)(most:Int):Option Int:=
 (qZ R4 a most 0 0).bind fun o14=>
 some o14
theorem H6(R4:nz)(hR4:sI R4){a:waC}{most:Int}{r:Int}(h:nw R4 a most=some r):CC Pg GE 28 [sl ag a,.int .i64 most] (.int .i64 r) []:=by
 obtain⟨o14,bo14,h⟩:=ay h
 obtain rfl:=lf h
 have z:=cY (ED R4 a most 0 0 hR4 bo14)<|en (aI (rP (.int .i64 o14))<|trivial)
 exact bO qh1 call28 func28 (c:=qjv) rfl (aI (aj ak a) (aI trivial trivial)) z<|by kernel_rfl
def sT:((waC×Int)->Option Int)->(waC×Int)->Option Int:=fun(rec:(waC×Int)->Option Int) (x:waC×Int)=>nw (fun a most=>rec (a,most)) x.1 x.2
def fX(a:waC)(most:Int):Option Int:=kK sT (a,most)
theorem gq{a:waC}{most:Int}{r:Int}(h:fX a most=some r):CC Pg GE 28 [sl ag a,.int .i64 most] (.int .i64 r) []:=
 cG (F:=sT) (M:=fun(x:waC×Int) (r:Int)=>CC Pg GE 28 [sl ag x.1,.int .i64 x.2] (.int .i64 r) []) (fun rec hrec x r h=>H6 _ (fun a most r h=>hrec (a,most) r h) h) h
abbrev um:=(cb->Int->Option Int)
abbrev uf(R:um):Prop:=∀(e:cb) (most:Int) (r:Int),R e most=some r->CC Pg GE 50 [.agg (ba e),.int .i64 most] (.int .i64 r) []
noncomputable def qeC:Code:=f50.body.getD .skip
def qaS:List Nat:=[107]
section
variable(most:Int)(e:cb)(n:Int)(i:Int)
def Px:aC:=be 108 [(1,.int .i64 most),(2,.eptr (ba e)),(5,.int .i64 n),(6,.int .i64 i)] [.dead] []
def xh(o:Bool):aC:=be 108 [(1,.int .i64 most),(2,.eptr (ba e)),(5,.int .i64 n),(6,.int .i64 i),(28,.bool o)] [.dead] []
def v6:Option Bool:=
 if(decide (i<(e.Params.length:Int)))=true then
  some (decide (n<=most))
 else
  some false
theorem NC{x:Bool}(h:v6 most e n i=some x):aV Pg GE 0 (cA qeC 476) (EX .normal (xh most e n i x)) (Px most e n i):=by
 have p4:=fun{sc F} (r:PS sc F)=>sv (lF e)<|sv (lH e)<|cq (qcc.ln e.Params)<|r
 rcases bj h with⟨c3,h⟩|⟨c3,h⟩
 ·obtain rfl:=lf h
  exact cf qaS (p4<|sg 6 c3<|eF .normal (xh most e n i (decide (n<=most))))<|by kernel_rfl
 ·obtain rfl:=lf h
  exact cf qaS (p4<|sg 6 c3<|eF .normal (xh most e n i false))<|by kernel_rfl
end
section
variable(most:Int)(e:cb)(n:Int)(i:Int)
def mA:aC:=be 108 [(1,.int .i64 most),(2,.eptr (ba e)),(5,.int .i64 n),(6,.int .i64 i)] [.dead] []
def xk(o:Int):aC:=be 108 [(1,.int .i64 most),(2,.eptr (ba e)),(5,.int .i64 o)] [.dead] []
def jP:Option ((Int×Int)⊕(Int)):=
 (v6 most e n i).bind fun o5=>
 if o5=true then
  (cz e.Params i).bind fun x8=>
  (qu .i64 (x8.Name.length:Int) 100).bind fun q9=>
  (cz e.Params i).bind fun x10=>
  (fX ([x10.Type_]:List ae) most).bind fun r11=>
  some (.inl (aS ((aS ((aS (n+1))+q9))+r11),aS (i+1)))
 else
  some (.inr n)
def BT:Option Int:=loop (fun(zz:Int×Int)=>jP most e zz.1 zz.2) (n,i)
theorem Lt{y:(Int×Int)⊕(Int)}(h:jP most e n i=some y):aV Pg GE 0 (cA qeC 119) (LQ (fun(zz:Int×Int)=>mA most e zz.1 zz.2) (fun _=>.exit 0) (xk most e) y) (mA most e n i):=by
 obtain⟨o5,bo5,h⟩:=ay h
 have p7:=fun{sc F} (r:PS sc F)=>ka 1<|cY (NC most e n i bo5)<|r
 rcases bj h with⟨c6,h⟩|⟨c6,h⟩
 ·obtain⟨x8,bx8,h⟩:=ay h
  obtain⟨q9,bq9,h⟩:=ay h
  obtain⟨x10,bx10,h⟩:=ay h
  obtain⟨r11,br11,h⟩:=ay h
  obtain rfl:=lf h
  exact oo qaS (p7<|sg 0 c6<|lK [0,1,0,4,0,28,60,124,252,508,1023,0,2048,0,14336,30720,63488,129024,0,522240,1048575,2097151]<|sv (lF e)<|sv (lH e)<|sv (qcc.ia (k:=.i64) bx8)<|sv (Df x8)<|sv (HB x8)<|cq (iD underlying9 x8.Name)<|sv (AL (P:=Pg) (t:=3) bq9)<|sv (lF e)<|sv (lH e)<|sv (qcc.ia (k:=.i64) bx10)<|sv (Dg x10)<|sv (Fk x10)<|sv (ct.mk' (v:=jG) eO ([x10.Type_]:List ae) 1 (by kernel_rfl))<|bz (gq br11)<|eF .normal (mA most e (aS ((aS ((aS (n+1))+q9))+r11)) (aS (i+1))))<|by kernel_rfl
 ·obtain rfl:=lf h
  have z:=p7<|sg 0 c6<|eF (.exit 0) (xk most e n)
  exact gg qaS (by intro hx;cases hx) z<|by kernel_rfl
theorem NF{x:Int}(h:BT most e n i=some x):aV Pg GE 0 (.loop (cA qeC 119)) (EX (.exit 0) (xk most e x)) (mA most e n i):=
 aV.loop (S:=fun(zz:Int×Int)=>mA most e zz.1 zz.2) (ex:=(fun _=>.exit 0)) (s:=(n,i)) h fun zz y hy=>Lt most e zz.1 zz.2 hy
end
section
variable(most:Int)(e:cb)(n:Int)(i:Int)
def Py:aC:=be 108 [(1,.int .i64 most),(2,.eptr (ba e)),(5,.int .i64 n),(7,.int .i64 i)] [.dead] []
def xi(o:Bool):aC:=be 108 [(1,.int .i64 most),(2,.eptr (ba e)),(5,.int .i64 n),(7,.int .i64 i),(61,.bool o)] [.dead] []
def v7:Option Bool:=
 if(decide (i<(e.Kids.length:Int)))=true then
  some (decide (n<=most))
 else
  some false
theorem ND{x:Bool}(h:v7 most e n i=some x):aV Pg GE 0 (cA qeC 988) (EX .normal (xi most e n i x)) (Py most e n i):=by
 have p14:=fun{sc F} (r:PS sc F)=>sv (tT e)<|sv (tW e)<|cq (qfH.ln e.Kids)<|r
 rcases bj h with⟨c13,h⟩|⟨c13,h⟩
 ·obtain rfl:=lf h
  exact cf qaS (p14<|sg 6 c13<|eF .normal (xi most e n i (decide (n<=most))))<|by kernel_rfl
 ·obtain rfl:=lf h
  exact cf qaS (p14<|sg 6 c13<|eF .normal (xi most e n i false))<|by kernel_rfl
end
section
variable(R6:um)(most:Int)(e:cb)(n:Int)(i:Int)
def mB:aC:=be 108 [(1,.int .i64 most),(2,.eptr (ba e)),(5,.int .i64 n),(7,.int .i64 i)] [.dead] []
def xl(o:Int):aC:=be 108 [(1,.int .i64 most),(2,.eptr (ba e)),(5,.int .i64 o)] [.dead] []
def jQ:Option ((Int×Int)⊕(Int)):=
 (v7 most e n i).bind fun o15=>
 if o15=true then
  (cz e.Kids i).bind fun x18=>
  (R6 x18 (aS (most - n))).bind fun r19=>
  some (.inl (aS (n+r19),aS (i+1)))
 else
  some (.inr n)
def BU:Option Int:=loop (fun(zz:Int×Int)=>jQ R6 most e zz.1 zz.2) (n,i)
theorem Lu(hR6:uf R6){y:(Int×Int)⊕(Int)}(h:jQ R6 most e n i=some y):aV Pg GE 0 (cA qeC 247) (LQ (fun(zz:Int×Int)=>mB most e zz.1 zz.2) (fun _=>.exit 2) (xl most e) y) (mB most e n i):=by
 obtain⟨o15,bo15,h⟩:=ay h
 have p17:=fun{sc F} (r:PS sc F)=>ka 1<|cY (ND most e n i bo15)<|r
 rcases bj h with⟨c16,h⟩|⟨c16,h⟩
 ·obtain⟨x18,bx18,h⟩:=ay h
  obtain⟨r19,br19,h⟩:=ay h
  obtain rfl:=lf h
  exact oo qaS (p17<|sg 0 c16<|sv (tT e)<|sv (tW e)<|sv (qfH.ia (k:=.i64) bx18)<|sv (XD x18)<|bz (hR6 _ _ _ br19)<|eF .normal (mB most e (aS (n+r19)) (aS (i+1))))<|by kernel_rfl
 ·obtain rfl:=lf h
  have z:=p17<|sg 0 c16<|eF (.exit 2) (xl most e n)
  exact gg qaS (by intro hx;cases hx) z<|by kernel_rfl
theorem NG(hR6:uf R6){x:Int}(h:BU R6 most e n i=some x):aV Pg GE 0 (.loop (cA qeC 247)) (EX (.exit 2) (xl most e x)) (mB most e n i):=
 aV.loop (S:=fun(zz:Int×Int)=>mB most e zz.1 zz.2) (ex:=(fun _=>.exit 2)) (s:=(n,i)) h fun zz y hy=>Lu R6 most e zz.1 zz.2 hR6 hy
end
section
variable(most:Int)(e:cb)(n:Int)(i:Int)
def Pz:aC:=be 108 [(1,.int .i64 most),(2,.eptr (ba e)),(5,.int .i64 n),(8,.int .i64 i)] [.dead] []
def xj(o:Bool):aC:=be 108 [(1,.int .i64 most),(2,.eptr (ba e)),(5,.int .i64 n),(8,.int .i64 i),(84,.bool o)] [.dead] []
def v8:Option Bool:=
 if(decide (i<(e.Alts.length:Int)))=true then
  some (decide (n<=most))
 else
  some false
theorem NE{x:Bool}(h:v8 most e n i=some x):aV Pg GE 0 (cA qeC 2012) (EX .normal (xj most e n i x)) (Pz most e n i):=by
 have p22:=fun{sc F} (r:PS sc F)=>sv (jn e)<|sv (jp e)<|cq (ZD.ln e.Alts)<|r
 rcases bj h with⟨c21,h⟩|⟨c21,h⟩
 ·obtain rfl:=lf h
  exact cf qaS (p22<|sg 6 c21<|eF .normal (xj most e n i (decide (n<=most))))<|by kernel_rfl
 ·obtain rfl:=lf h
  exact cf qaS (p22<|sg 6 c21<|eF .normal (xj most e n i false))<|by kernel_rfl
end
section
variable(R6:um)(most:Int)(e:cb)(n:Int)(i:Int)
def mC:aC:=be 108 [(1,.int .i64 most),(2,.eptr (ba e)),(5,.int .i64 n),(8,.int .i64 i)] [.dead] []
def xm(o:Int):aC:=be 108 [(5,.int .i64 o)] [.dead] []
def jR:Option ((Int×Int)⊕(Int)):=
 (v8 most e n i).bind fun o23=>
 if o23=true then
  (cz e.Alts i).bind fun x26=>
  (cz e.Alts i).bind fun x27=>
  (R6 x27.Body (aS (most - n))).bind fun r28=>
  some (.inl (aS ((aS (n+(x26.Names.length:Int)))+r28),aS (i+1)))
 else
  some (.inr n)
def BV:Option Int:=loop (fun(zz:Int×Int)=>jR R6 most e zz.1 zz.2) (n,i)
theorem Lv(hR6:uf R6){y:(Int×Int)⊕(Int)}(h:jR R6 most e n i=some y):aV Pg GE 0 (cA qeC 503) (LQ (fun(zz:Int×Int)=>mC most e zz.1 zz.2) (fun _=>.exit 4) xm y) (mC most e n i):=by
 obtain⟨o23,bo23,h⟩:=ay h
 have p25:=fun{sc F} (r:PS sc F)=>ka 1<|cY (NE most e n i bo23)<|r
 rcases bj h with⟨c24,h⟩|⟨c24,h⟩
 ·obtain⟨x26,bx26,h⟩:=ay h
  obtain⟨x27,bx27,h⟩:=ay h
  obtain⟨r28,br28,h⟩:=ay h
  obtain rfl:=lf h
  exact oo qaS (p25<|sg 0 c24<|lK [0,0,2,0,14,30,62,126,255,0,512,0,3584,7680,15872,0,0,98304,261632,524287,1048575]<|sv (jn e)<|sv (jp e)<|sv (ZD.ia (k:=.i64) bx26)<|sv (Hu x26)<|sv (Kl x26)<|cq (bq.ln x26.Names)<|sv (jn e)<|sv (jp e)<|sv (ZD.ia (k:=.i64) bx27)<|sv (Hv x27)<|sv (Km x27)<|bz (hR6 _ _ _ br28)<|eF .normal (mC most e (aS ((aS (n+(x26.Names.length:Int)))+r28)) (aS (i+1))))<|by kernel_rfl
 ·obtain rfl:=lf h
  have z:=p25<|sg 0 c24<|eF (.exit 4) (xm n)
  exact gg qaS (by intro hx;cases hx) z<|by kernel_rfl
theorem NH(hR6:uf R6){x:Int}(h:BV R6 most e n i=some x):aV Pg GE 0 (.loop (cA qeC 503)) (EX (.exit 4) (xm x)) (mC most e n i):=
 aV.loop (S:=fun(zz:Int×Int)=>mC most e zz.1 zz.2) (ex:=(fun _=>.exit 4)) (s:=(n,i)) h fun zz y hy=>Lv R6 most e zz.1 zz.2 hR6 hy
end
def yU(R6:um)(e:cb)(most:Int):Option Int:=
 (qu .i64 (e.Name.length:Int) 100).bind fun q1=>
 (fX e.Types most).bind fun r2=>
 (BT most e (aS ((aS (1+q1))+r2)) 0).bind fun o12=>
 (BU R6 most e o12 0).bind fun o20=>
 (BV R6 most e o20 0).bind fun o29=>
 some o29
theorem Sj(R6:um)(hR6:uf R6){e:cb}{most:Int}{r:Int}(h:yU R6 e most=some r):CC Pg GE 50 [.agg (ba e),.int .i64 most] (.int .i64 r) []:=by
 obtain⟨q1,bq1,h⟩:=ay h
 obtain⟨r2,br2,h⟩:=ay h
 obtain⟨o12,bo12,h⟩:=ay h
 obtain⟨o20,bo20,h⟩:=ay h
 obtain⟨o29,bo29,h⟩:=ay h
 obtain rfl:=lf h
 have z:=se (XR e)<|lK [0,1,3,7,15,0,32,0,224,511,1023]<|sv (Hx e)<|sv (Ko e)<|cq (iD underlying9 e.Name)<|sv (AL (P:=Pg) (t:=3) bq1)<|sv (Hy e)<|sv (HA e)<|bz (gq br2)<|cY (NF most e (aS ((aS (1+q1))+r2)) 0 bo12)<|cY (NG R6 most e o12 0 hR6 bo20)<|cY (NH R6 most e o20 0 hR6 bo29)<|en (aI (rP (.int .i64 o29))<|trivial)
 exact bO qaS call50 func50 (c:=qeC) rfl (aI (AS e) (aI trivial trivial)) z<|by kernel_rfl
def Ex:((cb×Int)->Option Int)->(cb×Int)->Option Int:=fun(rec:(cb×Int)->Option Int) (x:cb×Int)=>yU (fun e most=>rec (e,most)) x.1 x.2
def Ls(e:cb)(most:Int):Option Int:=kK Ex (e,most)
theorem UR{e:cb}{most:Int}{r:Int}(h:Ls e most=some r):CC Pg GE 50 [.agg (ba e),.int .i64 most] (.int .i64 r) []:=
 cG (F:=Ex) (M:=fun(x:cb×Int) (r:Int)=>CC Pg GE 50 [.agg (ba x.1),.int .i64 x.2] (.int .i64 r) []) (fun rec hrec x r h=>Sj _ (fun e most r h=>hrec (e,most) r h) h) h
noncomputable def qgV:Code:=f27.body.getD .skip
def qeK:List Nat:=[112]
section
variable(v:(List sD))(most:Int)(n:Int)(i:Int)
def H3:aC:=be 113 [(0,sl dJ v),(1,.int .i64 most),(5,.int .i64 n),(6,.int .i64 i)] [] []
def pT(o:Bool):aC:=be 113 [(0,sl dJ v),(1,.int .i64 most),(5,.int .i64 n),(6,.int .i64 i),(17,.bool o)] [] []
def nr:Option Bool:=
 if(decide (i<(v.length:Int)))=true then
  some (decide (n<=most))
 else
  some false
theorem GN{x:Bool}(h:nr v most n i=some x):aV Pg GE 0 (cA qgV 476) (EX .normal (pT v most n i x)) (H3 v most n i):=by
 rcases bj h with⟨c1,h⟩|⟨c1,h⟩
 ·obtain rfl:=lf h
  exact cf qeK (cq (ZC.ln v)<|sg 5 c1<|eF .normal (pT v most n i (decide (n<=most))))<|by kernel_rfl
 ·obtain rfl:=lf h
  exact cf qeK (cq (ZC.ln v)<|sg 5 c1<|eF .normal (pT v most n i false))<|by kernel_rfl
end
section
variable(v:(List sD))(most:Int)(n:Int)(i:Int)(k:Int)(m:waA)(m2:(List FV))(m3:(List S8))(m4:(List nk))(m5:Int)(m6:af)(m7:waC)(m8:waA)(m9:Int)(m10:af)(m11:Int)(m12:waB)(m13:waB)(m14:waB)
def H4:aC:=be 113 [(0,sl dJ v),(1,.int .i64 most),(5,.int .i64 n),(6,.int .i64 i),(7,.bptr 0 0),(8,.int .i64 k)] [.cells [sl cS m,sl iA m2,sl qa m3,sl df m4,.int .i64 m5,.str m6,sl ag m7,sl cS m8,.int .i64 m9,.str m10,.int .i64 m11,sl ac m12,sl ac m13,sl ac m14] []] []
def pU(o:Bool):aC:=be 113 [(0,sl dJ v),(1,.int .i64 most),(5,.int .i64 n),(6,.int .i64 i),(7,.bptr 0 0),(8,.int .i64 k),(74,.bool o)] [.cells [sl cS m,sl iA m2,sl qa m3,sl df m4,.int .i64 m5,.str m6,sl ag m7,sl cS m8,.int .i64 m9,.str m10,.int .i64 m11,sl ac m12,sl ac m13,sl ac m14] []] []
def nu:Option Bool:=
 if(decide (k<(m4.length:Int)))=true then
  some (decide (n<=most))
 else
  some false
theorem GO{x:Bool}(h:nu most n k m4=some x):aV Pg GE 0 (cA qgV 245212) (EX .normal (pU v most n i k m m2 m3 m4 m5 m6 m7 m8 m9 m10 m11 m12 m13 m14 x)) (H4 v most n i k m m2 m3 m4 m5 m6 m7 m8 m9 m10 m11 m12 m13 m14):=by
 have p12:=fun{sc F} (r:PS sc F)=>ss<|cq (qaC.ln m4)<|r
 rcases bj h with⟨c11,h⟩|⟨c11,h⟩
 ·obtain rfl:=lf h
  exact cf qeK (p12<|sg 6 c11<|eF .normal (pU v most n i k m m2 m3 m4 m5 m6 m7 m8 m9 m10 m11 m12 m13 m14 (decide (n<=most))))<|by kernel_rfl
 ·obtain rfl:=lf h
  exact cf qeK (p12<|sg 6 c11<|eF .normal (pU v most n i k m m2 m3 m4 m5 m6 m7 m8 m9 m10 m11 m12 m13 m14 false))<|by kernel_rfl
end
section
variable(v:(List sD))(most:Int)(i:Int)(m:waA)(m2:(List FV))(m3:(List S8))(m4:(List nk))(m5:Int)(m6:af)(m7:waC)(m8:waA)(m9:Int)(m10:af)(m11:Int)(m12:waB)(m13:waB)(m14:waB)(n:Int)(k:Int)
def ij:aC:=be 113 [(0,sl dJ v),(1,.int .i64 most),(5,.int .i64 n),(6,.int .i64 i),(7,.bptr 0 0),(8,.int .i64 k)] [.cells [sl cS m,sl iA m2,sl qa m3,sl df m4,.int .i64 m5,.str m6,sl ag m7,sl cS m8,.int .i64 m9,.str m10,.int .i64 m11,sl ac m12,sl ac m13,sl ac m14] []] []
def pW(o:Int):aC:=be 113 [(0,sl dJ v),(1,.int .i64 most),(5,.int .i64 o),(6,.int .i64 i)] [.cells [sl cS m,sl iA m2,sl qa m3,sl df m4,.int .i64 m5,.str m6,sl ag m7,sl cS m8,.int .i64 m9,.str m10,.int .i64 m11,sl ac m12,sl ac m13,sl ac m14] []] []
def fI:Option ((Int×Int)⊕(Int)):=
 (nu most n k m4).bind fun o13=>
 if o13=true then
  (cz m4 k).bind fun x16=>
  (cz m4 k).bind fun x17=>
  (cz m4 k).bind fun x18=>
  (eV ([x17.Hyp,x18.Goal]:List aa) most).bind fun r19=>
  some (.inl (aS ((aS ((aS (n+1))+(x16.Vars.length:Int)))+r19),aS (k+1)))
 else
  some (.inr n)
def sR:Option Int:=loop (fun(zz:Int×Int)=>fI most m4 zz.1 zz.2) (n,k)
theorem Ez{y:(Int×Int)⊕(Int)}(h:fI most m4 n k=some y):aV Pg GE 0 (cA qgV 61303) (LQ (fun(zz:Int×Int)=>ij v most i m m2 m3 m4 m5 m6 m7 m8 m9 m10 m11 m12 m13 m14 zz.1 zz.2) (fun _=>.exit 2) (pW v most i m m2 m3 m4 m5 m6 m7 m8 m9 m10 m11 m12 m13 m14) y) (ij v most i m m2 m3 m4 m5 m6 m7 m8 m9 m10 m11 m12 m13 m14 n k):=by
 obtain⟨o13,bo13,h⟩:=ay h
 have p15:=fun{sc F} (r:PS sc F)=>ka 1<|cY (GO v most n i k m m2 m3 m4 m5 m6 m7 m8 m9 m10 m11 m12 m13 m14 bo13)<|r
 rcases bj h with⟨c14,h⟩|⟨c14,h⟩
 ·obtain⟨x16,bx16,h⟩:=ay h
  obtain⟨x17,bx17,h⟩:=ay h
  obtain⟨x18,bx18,h⟩:=ay h
  obtain⟨r19,br19,h⟩:=ay h
  obtain rfl:=lf h
  exact oo qeK (p15<|sg 0 c14<|lK [0,1,0,4,0,28,60,124,252,511,0,1024,0,7168,15360,31744,0,65536,0,458752,983040,2031616,4193280,0,16776192,33554431,67108863]<|ss<|sv (qaC.ia (k:=.i64) bx16)<|sv (Oa x16)<|sv (QI x16)<|cq (I3.ln x16.Vars)<|ss<|sv (qaC.ia (k:=.i64) bx17)<|sv (Ob x17)<|sv (QJ x17)<|ss<|sv (qaC.ia (k:=.i64) bx18)<|sv (Oc x18)<|sv (QK x18)<|sv (bL.mk' (v:=dZ) cP ([x17.Hyp,x18.Goal]:List aa) 2 (by kernel_rfl))<|bz (eW br19)<|eF .normal (ij v most i m m2 m3 m4 m5 m6 m7 m8 m9 m10 m11 m12 m13 m14 (aS ((aS ((aS (n+1))+(x16.Vars.length:Int)))+r19)) (aS (k+1))))<|by kernel_rfl
 ·obtain rfl:=lf h
  have z:=p15<|sg 0 c14<|eF (.exit 2) (pW v most i m m2 m3 m4 m5 m6 m7 m8 m9 m10 m11 m12 m13 m14 n)
  exact gg qeK (by intro hx;cases hx) z<|by kernel_rfl
theorem GQ{x:Int}(h:sR most m4 n k=some x):aV Pg GE 0 (.loop (cA qgV 61303)) (EX (.exit 2) (pW v most i m m2 m3 m4 m5 m6 m7 m8 m9 m10 m11 m12 m13 m14 x)) (ij v most i m m2 m3 m4 m5 m6 m7 m8 m9 m10 m11 m12 m13 m14 n k):=
 aV.loop (S:=fun(zz:Int×Int)=>ij v most i m m2 m3 m4 m5 m6 m7 m8 m9 m10 m11 m12 m13 m14 zz.1 zz.2) (ex:=(fun _=>.exit 2)) (s:=(n,k)) h fun zz y hy=>Ez v most i m m2 m3 m4 m5 m6 m7 m8 m9 m10 m11 m12 m13 m14 zz.1 zz.2 hy
end
section
variable(v:(List sD))(most:Int)(n:Int)(i:Int)
def ii:aC:=be 113 [(0,sl dJ v),(1,.int .i64 most),(5,.int .i64 n),(6,.int .i64 i)] [] []
def pV(o:Int):aC:=be 113 [(5,.int .i64 o)] [] []
def fH:Option ((Int×Int)⊕(Int)):=
 (nr v most n i).bind fun o2=>
 if o2=true then
  (cz v i).bind fun x5=>
  (cz v i).bind fun x6=>
  (qu .i64 (x6.Name.length:Int) 100).bind fun q7=>
  (cz v i).bind fun x8=>
  (fX ([x5.Sig.Type_]:List ae) most).bind fun r9=>
  (eV x5.Sig.Metric most).bind fun r10=>
  (sR most x5.Sig.Bounds (aS ((aS ((aS ((aS ((aS ((aS ((aS ((aS (n+1))+q7))+(x8.Params.length:Int)))+(x5.Sig.Vars.length:Int)))+(x5.Sig.Needs.length:Int)))+(x5.Sig.Abs.length:Int)))+r9))+r10)) 0).bind fun o20=>
  (cz v i).bind fun x21=>
  (Ls x21.Body most).bind fun r22=>
  some (.inl (aS (o20+r22),aS (i+1)))
 else
  some (.inr n)
def sQ:Option Int:=loop (fun(zz:Int×Int)=>fH v most zz.1 zz.2) (n,i)
theorem Ey{y:(Int×Int)⊕(Int)}(h:fH v most n i=some y):aV Pg GE 0 (cA qgV 119) (LQ (fun(zz:Int×Int)=>ii v most zz.1 zz.2) (fun _=>.exit 0) pV y) (ii v most n i):=by
 obtain⟨o2,bo2,h⟩:=ay h
 have p4:=fun{sc F} (r:PS sc F)=>ka 1<|cY (GN v most n i bo2)<|r
 rcases bj h with⟨c3,h⟩|⟨c3,h⟩
 ·obtain⟨x5,bx5,h⟩:=ay h
  obtain⟨x6,bx6,h⟩:=ay h
  obtain⟨q7,bq7,h⟩:=ay h
  obtain⟨x8,bx8,h⟩:=ay h
  obtain⟨r9,br9,h⟩:=ay h
  obtain⟨r10,br10,h⟩:=ay h
  obtain⟨o20,bo20,h⟩:=ay h
  obtain⟨x21,bx21,h⟩:=ay h
  obtain⟨r22,br22,h⟩:=ay h
  obtain rfl:=lf h
  have z:=p4<|sg 0 c3<|sv (ZC.ia (k:=.i64) bx5)<|sv (SI x5)<|sv (QM x5)<|sx qi4<|sx (qdP x5.Sig)<|lK [0,1,0,0,12,28,60,124,252,511,0,0,3072,7168,15360,31744,65535,0,131072,393216,1048575,0,2097152,6291456,16777215,0,33554432,100663296,268435455,0,536870912,1610612736,0,8053063680,17179869183,0,34359738368,0,257161166848,549755813887,1099511627775]<|sv (ZC.ia (k:=.i64) bx6)<|sv (SF x6)<|sv (XA x6)<|cq (iD underlying9 x6.Name)<|sv (AL (P:=Pg) (t:=3) bq7)<|sv (ZC.ia (k:=.i64) bx8)<|sv (SG x8)<|sv (VL x8)<|cq (bq.ln x8.Params)<|ss<|cq (bq.ln x5.Sig.Vars)<|ss<|cq (qjb.ln x5.Sig.Needs)<|ss<|cq (qi8.ln x5.Sig.Abs)<|sv (cX x5.Sig.Type_ [sl ac x5.Sig.Metric])<|sv (ct.mk' (v:=jG) eO ([x5.Sig.Type_]:List ae) 1 (by kernel_rfl))<|bz (gq br9)<|ss<|bz (eW br10)<|cY (GQ v most i x5.Sig.Vars x5.Sig.Needs x5.Sig.Abs x5.Sig.Bounds x5.Sig.Type_.Op x5.Sig.Type_.Name x5.Sig.Type_.Args x5.Sig.Type_.Names x5.Sig.Type_.Pred.Op x5.Sig.Type_.Pred.Name x5.Sig.Type_.Pred.N x5.Sig.Type_.Pred.Kids x5.Sig.Type_.Preds x5.Sig.Metric (aS ((aS ((aS ((aS ((aS ((aS ((aS ((aS (n+1))+q7))+(x8.Params.length:Int)))+(x5.Sig.Vars.length:Int)))+(x5.Sig.Needs.length:Int)))+(x5.Sig.Abs.length:Int)))+r9))+r10)) 0 bo20)<|sv (ZC.ia (k:=.i64) bx21)<|sv (SH x21)<|sv (VM x21)<|bz (UR br22)<|uP 0 .normal (ii v most (aS (o20+r22)) (aS (i+1))) rfl (dF (aI (up (aj Gl v)) (aI trivial (aI trivial (aI trivial trivial))))) trivial
  exact dh (A:=qeK) mixed z<|by kernel_rfl
 ·obtain rfl:=lf h
  have z:=p4<|sg 0 c3<|eF (.exit 0) (pV n)
  exact gg qeK (by intro hx;cases hx) z<|by kernel_rfl
theorem GP{x:Int}(h:sQ v most n i=some x):aV Pg GE 0 (.loop (cA qgV 119)) (EX (.exit 0) (pV x)) (ii v most n i):=
 aV.loop (S:=fun(zz:Int×Int)=>ii v most zz.1 zz.2) (ex:=(fun _=>.exit 0)) (s:=(n,i)) h fun zz y hy=>Ey v most zz.1 zz.2 hy
end
def oU(a:(List sD))(most:Int):Option Int:=
 (sQ a most 0 0).bind fun o23=>
 some o23
theorem AB{a:(List sD)}{most:Int}{r:Int}(h:oU a most=some r):CC Pg GE 27 [sl dJ a,.int .i64 most] (.int .i64 r) []:=by
 obtain⟨o23,bo23,h⟩:=ay h
 obtain rfl:=lf h
 have z:=cY (GP a most 0 0 bo23)<|en (aI (rP (.int .i64 o23))<|trivial)
 exact bO qeK call27 func27 (c:=qgV) rfl (aI (aj Gl a) (aI trivial trivial)) z<|by kernel_rfl
noncomputable def b7:Code:=Tryz.f7.body.getD .skip
def A7:List Nat:=[]
section
variable(m:aG)
def PA:aC:=be 303 [(1,.eptr (aB m))] [.dead] []
def ig(o:Bool):aC:=be 303 [(1,.eptr (aB m)),(45,.bool o)] [.dead] []
def BW:Option Bool:=
 if(decide ((m.Datas.length:Int)>80))=true then
  some true
 else
  if(decide ((m.Classes.length:Int)>80))=true then
   some true
  else
   if(decide ((m.Instances.length:Int)>80))=true then
    some true
   else
    if(decide ((m.Measures.length:Int)>80))=true then
     some true
    else
     if(decide ((m.Quals.length:Int)>80))=true then
      some true
     else
      some (decide ((m.Defs.length:Int)>80))
theorem NM{x:Bool}(h:BW m=some x):aV Pg GE 0 (cA b7 12) (EX .normal (ig m x)) (PA m):=by
 have p2:=fun{sc F} (r:PS sc F)=>sv (dj m)<|sv (dl m)<|cq (KX.ln m.Datas)<|r
 rcases bj h with⟨c1,h⟩|⟨c1,h⟩
 ·obtain rfl:=lf h
  exact cf A7 (p2<|sg 5 c1<|eF .normal (ig m true))<|by kernel_rfl
 ·have p4:=fun{sc F} (r:PS sc F)=>p2<|sg 5 c1<|sv (pL m)<|sv (pP m)<|cq (qfF.ln m.Classes)<|r
  rcases bj h with⟨c3,h⟩|⟨c3,h⟩
  ·obtain rfl:=lf h
   exact cf A7 (p4<|sg 11 c3<|eF .normal (ig m true))<|by kernel_rfl
  ·have p6:=fun{sc F} (r:PS sc F)=>p4<|sg 11 c3<|sv (kJ m)<|sv (kP m)<|cq (qek.ln m.Instances)<|r
   rcases bj h with⟨c5,h⟩|⟨c5,h⟩
   ·obtain rfl:=lf h
    exact cf A7 (p6<|sg 17 c5<|eF .normal (ig m true))<|by kernel_rfl
   ·have p8:=fun{sc F} (r:PS sc F)=>p6<|sg 17 c5<|sv (iN m)<|sv (iO m)<|cq (qcb.ln m.Measures)<|r
    rcases bj h with⟨c7,h⟩|⟨c7,h⟩
    ·obtain rfl:=lf h
     exact cf A7 (p8<|sg 23 c7<|eF .normal (ig m true))<|by kernel_rfl
    ·have p10:=fun{sc F} (r:PS sc F)=>p8<|sg 23 c7<|sv (pM m)<|sv (pQ m)<|cq (qfG.ln m.Quals)<|r
     rcases bj h with⟨c9,h⟩|⟨c9,h⟩
     ·obtain rfl:=lf h
      exact cf A7 (p10<|sg 29 c9<|eF .normal (ig m true))<|by kernel_rfl
     ·obtain rfl:=lf h
      exact cf A7 (p10<|sg 29 c9<|sv (De m)<|sv (Dj m)<|cq (ZC.ln m.Defs)<|eF .normal (ig m (decide ((m.Defs.length:Int)>80))))<|by kernel_rfl
end
section
variable(m:aG)(n:Int)(i:Int)
def PB:aC:=be 303 [(1,.eptr (aB m)),(3,.int .i64 n),(4,.int .i64 i)] [.dead] []
def xn(o:Bool):aC:=be 303 [(1,.eptr (aB m)),(3,.int .i64 n),(4,.int .i64 i),(57,.bool o)] [.dead] []
def wc:Option Bool:=
 if(decide (i<(m.Datas.length:Int)))=true then
  some (decide (n<=4000))
 else
  some false
theorem NN{x:Bool}(h:wc m n i=some x):aV Pg GE 0 (cA b7 988) (EX .normal (xn m n i x)) (PB m n i):=by
 have p16:=fun{sc F} (r:PS sc F)=>sv (dj m)<|sv (dl m)<|cq (KX.ln m.Datas)<|r
 rcases bj h with⟨c15,h⟩|⟨c15,h⟩
 ·obtain rfl:=lf h
  exact cf A7 (p16<|sg 6 c15<|eF .normal (xn m n i (decide (n<=4000))))<|by kernel_rfl
 ·obtain rfl:=lf h
  exact cf A7 (p16<|sg 6 c15<|eF .normal (xn m n i false))<|by kernel_rfl
end
section
variable(m:aG)(n:Int)(i:Int)(k:Int)
def PC:aC:=be 303 [(1,.eptr (aB m)),(3,.int .i64 n),(4,.int .i64 i),(5,.int .i64 k)] [.dead] []
def xo(o:Bool):aC:=be 303 [(1,.eptr (aB m)),(3,.int .i64 n),(4,.int .i64 i),(5,.int .i64 k),(99,.bool o)] [.dead] []
def wd:Option Bool:=
 (cz m.Datas i).bind fun x24=>
 if(decide (k<(x24.Cons.length:Int)))=true then
  some (decide (n<=4000))
 else
  some false
theorem NO{x:Bool}(h:wd m n i k=some x):aV Pg GE 0 (cA b7 126844) (EX .normal (xo m n i k x)) (PC m n i k):=by
 obtain⟨x24,bx24,h⟩:=ay h
 have p26:=fun{sc F} (r:PS sc F)=>sv (dj m)<|sv (dl m)<|sv (KX.ia (k:=.i64) bx24)<|sv (Ac x24)<|sv (Ah x24)<|cq (qhk.ln x24.Cons)<|r
 rcases bj h with⟨c25,h⟩|⟨c25,h⟩
 ·obtain rfl:=lf h
  exact cf A7 (p26<|sg 10 c25<|eF .normal (xo m n i k (decide (n<=4000))))<|by kernel_rfl
 ·obtain rfl:=lf h
  exact cf A7 (p26<|sg 10 c25<|eF .normal (xo m n i k false))<|by kernel_rfl
end
section
variable(m:aG)(i:Int)(n:Int)(k:Int)
def mE:aC:=be 303 [(1,.eptr (aB m)),(3,.int .i64 n),(4,.int .i64 i),(5,.int .i64 k)] [.dead] []
def xt(o:Int):aC:=be 303 [(1,.eptr (aB m)),(3,.int .i64 o),(4,.int .i64 i)] [.dead] []
def jT:Option ((Int×Int)⊕(Int)):=
 (wd m n i k).bind fun o27=>
 if o27=true then
  (cz m.Datas i).bind fun x30=>
  (cz x30.Cons k).bind fun x31=>
  (cz m.Datas i).bind fun x32=>
  (cz x32.Cons k).bind fun x33=>
  (fX x33.Fields 4000).bind fun r34=>
  some (.inl (aS ((aS ((aS (n+1))+(x31.Names.length:Int)))+r34),aS (k+1)))
 else
  some (.inr n)
def BY:Option Int:=loop (fun(zz:Int×Int)=>jT m i zz.1 zz.2) (n,k)
theorem LF{y:(Int×Int)⊕(Int)}(h:jT m i n k=some y):aV Pg GE 0 (cA b7 31711) (LQ (fun(zz:Int×Int)=>mE m i zz.1 zz.2) (fun _=>.exit 2) (xt m i) y) (mE m i n k):=by
 obtain⟨o27,bo27,h⟩:=ay h
 have p29:=fun{sc F} (r:PS sc F)=>ka 1<|cY (NO m n i k bo27)<|r
 rcases bj h with⟨c28,h⟩|⟨c28,h⟩
 ·obtain⟨x30,bx30,h⟩:=ay h
  obtain⟨x31,bx31,h⟩:=ay h
  obtain⟨x32,bx32,h⟩:=ay h
  obtain⟨x33,bx33,h⟩:=ay h
  obtain⟨r34,br34,h⟩:=ay h
  obtain rfl:=lf h
  exact oo A7 (p29<|sg 0 c28<|lK [0,1,0,4,0,28,60,124,0,508,1020,2044,4092,8191,0,16384,0,114688,245760,507904,0,2080768,4177920,8372224,16760832,33554431,67108863]<|sv (dj m)<|sv (dl m)<|sv (KX.ia (k:=.i64) bx30)<|sv (Ac x30)<|sv (Ah x30)<|sv (qhk.ia (k:=.i64) bx31)<|sv (Vp x31)<|sv (VJ x31)<|cq (bq.ln x31.Names)<|sv (dj m)<|sv (dl m)<|sv (KX.ia (k:=.i64) bx32)<|sv (Ac x32)<|sv (Ah x32)<|sv (qhk.ia (k:=.i64) bx33)<|sv (Vq x33)<|sv (VK x33)<|bz (gq br34)<|eF .normal (mE m i (aS ((aS ((aS (n+1))+(x31.Names.length:Int)))+r34)) (aS (k+1))))<|by kernel_rfl
 ·obtain rfl:=lf h
  have z:=p29<|sg 0 c28<|eF (.exit 2) (xt m i n)
  exact gg A7 (by intro hx;cases hx) z<|by kernel_rfl
theorem NS{x:Int}(h:BY m i n k=some x):aV Pg GE 0 (.loop (cA b7 31711)) (EX (.exit 2) (xt m i x)) (mE m i n k):=
 aV.loop (S:=fun(zz:Int×Int)=>mE m i zz.1 zz.2) (ex:=(fun _=>.exit 2)) (s:=(n,k)) h fun zz y hy=>LF m i zz.1 zz.2 hy
end
section
variable(m:aG)(n:Int)(i:Int)
def mD:aC:=be 303 [(1,.eptr (aB m)),(3,.int .i64 n),(4,.int .i64 i)] [.dead] []
def xr(o:Int):aC:=be 303 [(1,.eptr (aB m)),(3,.int .i64 o)] [.dead] []
def jS:Option ((Int×Int)⊕(Int)):=
 (wc m n i).bind fun o17=>
 if o17=true then
  (cz m.Datas i).bind fun x20=>
  (qu .i64 (x20.Name.length:Int) 100).bind fun q21=>
  (cz m.Datas i).bind fun x22=>
  (cz m.Datas i).bind fun x23=>
  (BY m i (aS ((aS ((aS ((aS (n+1))+q21))+(x22.Vars.length:Int)))+(x23.Preds.length:Int))) 0).bind fun o35=>
  some (.inl (o35,aS (i+1)))
 else
  some (.inr n)
def BX:Option Int:=loop (fun(zz:Int×Int)=>jS m zz.1 zz.2) (n,i)
theorem LE{y:(Int×Int)⊕(Int)}(h:jS m n i=some y):aV Pg GE 0 (cA b7 247) (LQ (fun(zz:Int×Int)=>mD m zz.1 zz.2) (fun _=>.exit 0) (xr m) y) (mD m n i):=by
 obtain⟨o17,bo17,h⟩:=ay h
 have p19:=fun{sc F} (r:PS sc F)=>ka 1<|cY (NN m n i bo17)<|r
 rcases bj h with⟨c18,h⟩|⟨c18,h⟩
 ·obtain⟨x20,bx20,h⟩:=ay h
  obtain⟨q21,bq21,h⟩:=ay h
  obtain⟨x22,bx22,h⟩:=ay h
  obtain⟨x23,bx23,h⟩:=ay h
  obtain⟨o35,bo35,h⟩:=ay h
  obtain rfl:=lf h
  exact oo A7 (p19<|sg 0 c18<|lK [0,1,0,4,0,28,60,124,252,508,1023,0,2048,0,14336,30720,63488,129024,262143,0,524288,0,3670016,7864320,16252928,33030144,67108863,134217727]<|sv (dj m)<|sv (dl m)<|sv (KX.ia (k:=.i64) bx20)<|sv (Hw x20)<|sv (Kn x20)<|cq (iD underlying9 x20.Name)<|sv (AL (P:=Pg) (t:=3) bq21)<|sv (dj m)<|sv (dl m)<|sv (KX.ia (k:=.i64) bx22)<|sv (SD x22)<|sv (ST x22)<|cq (bq.ln x22.Vars)<|sv (dj m)<|sv (dl m)<|sv (KX.ia (k:=.i64) bx23)<|sv (SE x23)<|sv (SU x23)<|cq (I3.ln x23.Preds)<|cY (NS m i (aS ((aS ((aS ((aS (n+1))+q21))+(x22.Vars.length:Int)))+(x23.Preds.length:Int))) 0 bo35)<|eF .normal (mD m o35 (aS (i+1))))<|by kernel_rfl
 ·obtain rfl:=lf h
  have z:=p19<|sg 0 c18<|eF (.exit 0) (xr m n)
  exact gg A7 (by intro hx;cases hx) z<|by kernel_rfl
theorem NR{x:Int}(h:BX m n i=some x):aV Pg GE 0 (.loop (cA b7 247)) (EX (.exit 0) (xr m x)) (mD m n i):=
 aV.loop (S:=fun(zz:Int×Int)=>mD m zz.1 zz.2) (ex:=(fun _=>.exit 0)) (s:=(n,i)) h fun zz y hy=>LE m zz.1 zz.2 hy
end
section
variable(m:aG)(n:Int)(i:Int)
def PD:aC:=be 303 [(1,.eptr (aB m)),(3,.int .i64 n),(6,.int .i64 i)] [.dead] []
def xp(o:Bool):aC:=be 303 [(1,.eptr (aB m)),(3,.int .i64 n),(6,.int .i64 i),(136,.bool o)] [.dead] []
def wg:Option Bool:=
 if(decide (i<(m.Classes.length:Int)))=true then
  some (decide (n<=4000))
 else
  some false
theorem NP{x:Bool}(h:wg m n i=some x):aV Pg GE 0 (cA b7 2012) (EX .normal (xp m n i x)) (PD m n i):=by
 have p38:=fun{sc F} (r:PS sc F)=>sv (pL m)<|sv (pP m)<|cq (qfF.ln m.Classes)<|r
 rcases bj h with⟨c37,h⟩|⟨c37,h⟩
 ·obtain rfl:=lf h
  exact cf A7 (p38<|sg 6 c37<|eF .normal (xp m n i (decide (n<=4000))))<|by kernel_rfl
 ·obtain rfl:=lf h
  exact cf A7 (p38<|sg 6 c37<|eF .normal (xp m n i false))<|by kernel_rfl
end
section
variable(m:aG)(n:Int)(i:Int)(k:Int)
def PE:aC:=be 303 [(1,.eptr (aB m)),(3,.int .i64 n),(6,.int .i64 i),(7,.int .i64 k)] [.dead] []
def xq(o:Bool):aC:=be 303 [(1,.eptr (aB m)),(3,.int .i64 n),(6,.int .i64 i),(7,.int .i64 k),(151,.bool o)] [.dead] []
def wh:Option Bool:=
 (cz m.Classes i).bind fun x42=>
 if(decide (k<(x42.Methods.length:Int)))=true then
  some (decide (n<=4000))
 else
  some false
theorem NQ{x:Bool}(h:wh m n i k=some x):aV Pg GE 0 (cA b7 128956) (EX .normal (xq m n i k x)) (PE m n i k):=by
 obtain⟨x42,bx42,h⟩:=ay h
 have p44:=fun{sc F} (r:PS sc F)=>sv (pL m)<|sv (pP m)<|sv (qfF.ia (k:=.i64) bx42)<|sv (Fg x42)<|sv (Fj x42)<|cq (qja.ln x42.Methods)<|r
 rcases bj h with⟨c43,h⟩|⟨c43,h⟩
 ·obtain rfl:=lf h
  exact cf A7 (p44<|sg 10 c43<|eF .normal (xq m n i k (decide (n<=4000))))<|by kernel_rfl
 ·obtain rfl:=lf h
  exact cf A7 (p44<|sg 10 c43<|eF .normal (xq m n i k false))<|by kernel_rfl
end
section
variable(m:aG)(i:Int)(n:Int)(k:Int)
def mG:aC:=be 303 [(1,.eptr (aB m)),(3,.int .i64 n),(6,.int .i64 i),(7,.int .i64 k)] [.dead] []
def xv(o:Int):aC:=be 303 [(1,.eptr (aB m)),(3,.int .i64 o),(6,.int .i64 i)] [.dead] []
def jV:Option ((Int×Int)⊕(Int)):=
 (wh m n i k).bind fun o45=>
 if o45=true then
  (cz m.Classes i).bind fun x48=>
  (cz x48.Methods k).bind fun x49=>
  (fX ([x49.Type_]:List ae) 4000).bind fun r50=>
  some (.inl (aS ((aS (n+1))+r50),aS (k+1)))
 else
  some (.inr n)
def B3:Option Int:=loop (fun(zz:Int×Int)=>jV m i zz.1 zz.2) (n,k)
theorem LH{y:(Int×Int)⊕(Int)}(h:jV m i n k=some y):aV Pg GE 0 (cA b7 32239) (LQ (fun(zz:Int×Int)=>mG m i zz.1 zz.2) (fun _=>.exit 6) (xv m i) y) (mG m i n k):=by
 obtain⟨o45,bo45,h⟩:=ay h
 have p47:=fun{sc F} (r:PS sc F)=>ka 1<|cY (NQ m n i k bo45)<|r
 rcases bj h with⟨c46,h⟩|⟨c46,h⟩
 ·obtain⟨x48,bx48,h⟩:=ay h
  obtain⟨x49,bx49,h⟩:=ay h
  obtain⟨r50,br50,h⟩:=ay h
  obtain rfl:=lf h
  exact oo A7 (p47<|sg 0 c46<|sv (pL m)<|sv (pP m)<|sv (qfF.ia (k:=.i64) bx48)<|sv (Fg x48)<|sv (Fj x48)<|sv (qja.ia (k:=.i64) bx49)<|sv (Oe x49)<|sv (Og x49)<|sv (ct.mk' (v:=jG) eO ([x49.Type_]:List ae) 1 (by kernel_rfl))<|bz (gq br50)<|eF .normal (mG m i (aS ((aS (n+1))+r50)) (aS (k+1))))<|by kernel_rfl
 ·obtain rfl:=lf h
  have z:=p47<|sg 0 c46<|eF (.exit 6) (xv m i n)
  exact gg A7 (by intro hx;cases hx) z<|by kernel_rfl
theorem NU{x:Int}(h:B3 m i n k=some x):aV Pg GE 0 (.loop (cA b7 32239)) (EX (.exit 6) (xv m i x)) (mG m i n k):=
 aV.loop (S:=fun(zz:Int×Int)=>mG m i zz.1 zz.2) (ex:=(fun _=>.exit 6)) (s:=(n,k)) h fun zz y hy=>LH m i zz.1 zz.2 hy
end
section
variable(m:aG)(n:Int)(i:Int)
def mF:aC:=be 303 [(1,.eptr (aB m)),(3,.int .i64 n),(6,.int .i64 i)] [.dead] []
def xu(o:Int):aC:=be 303 [(1,.eptr (aB m)),(3,.int .i64 o)] [.dead] []
def jU:Option ((Int×Int)⊕(Int)):=
 (wg m n i).bind fun o39=>
 if o39=true then
  (B3 m i n 0).bind fun o51=>
  some (.inl (o51,aS (i+1)))
 else
  some (.inr n)
def BZ:Option Int:=loop (fun(zz:Int×Int)=>jU m zz.1 zz.2) (n,i)
theorem LG{y:(Int×Int)⊕(Int)}(h:jU m n i=some y):aV Pg GE 0 (cA b7 503) (LQ (fun(zz:Int×Int)=>mF m zz.1 zz.2) (fun _=>.exit 4) (xu m) y) (mF m n i):=by
 obtain⟨o39,bo39,h⟩:=ay h
 have p41:=fun{sc F} (r:PS sc F)=>ka 1<|cY (NP m n i bo39)<|r
 rcases bj h with⟨c40,h⟩|⟨c40,h⟩
 ·obtain⟨o51,bo51,h⟩:=ay h
  obtain rfl:=lf h
  exact oo A7 (p41<|sg 0 c40<|cY (NU m i n 0 bo51)<|eF .normal (mF m o51 (aS (i+1))))<|by kernel_rfl
 ·obtain rfl:=lf h
  have z:=p41<|sg 0 c40<|eF (.exit 4) (xu m n)
  exact gg A7 (by intro hx;cases hx) z<|by kernel_rfl
theorem NT{x:Int}(h:BZ m n i=some x):aV Pg GE 0 (.loop (cA b7 503)) (EX (.exit 4) (xu m x)) (mF m n i):=
 aV.loop (S:=fun(zz:Int×Int)=>mF m zz.1 zz.2) (ex:=(fun _=>.exit 4)) (s:=(n,i)) h fun zz y hy=>LG m zz.1 zz.2 hy
end
section
variable(m:aG)(n:Int)(i:Int)
def NI:aC:=be 303 [(1,.eptr (aB m)),(3,.int .i64 n),(8,.int .i64 i)] [.dead] []
def uX(o:Bool):aC:=be 303 [(1,.eptr (aB m)),(3,.int .i64 n),(8,.int .i64 i),(177,.bool o)] [.dead] []
def tI:Option Bool:=
 if(decide (i<(m.Instances.length:Int)))=true then
  some (decide (n<=4000))
 else
  some false
theorem Lw{x:Bool}(h:tI m n i=some x):aV Pg GE 0 (cA b7 4060) (EX .normal (uX m n i x)) (NI m n i):=by
 have p54:=fun{sc F} (r:PS sc F)=>sv (kJ m)<|sv (kP m)<|cq (qek.ln m.Instances)<|r
 rcases bj h with⟨c53,h⟩|⟨c53,h⟩
 ·obtain rfl:=lf h
  exact cf A7 (p54<|sg 6 c53<|eF .normal (uX m n i (decide (n<=4000))))<|by kernel_rfl
 ·obtain rfl:=lf h
  exact cf A7 (p54<|sg 6 c53<|eF .normal (uX m n i false))<|by kernel_rfl
end
section
variable(m:aG)(n:Int)(i:Int)
def kz:aC:=be 303 [(1,.eptr (aB m)),(3,.int .i64 n),(8,.int .i64 i)] [.dead] []
def u4(o:Int):aC:=be 303 [(1,.eptr (aB m)),(3,.int .i64 o)] [.dead] []
def iG:Option ((Int×Int)⊕(Int)):=
 (tI m n i).bind fun o55=>
 if o55=true then
  (cz m.Instances i).bind fun x58=>
  (cz m.Instances i).bind fun x59=>
  (fX ([x59.Type_]:List ae) 4000).bind fun r60=>
  (cz m.Instances i).bind fun x61=>
  (oU x61.Defs 4000).bind fun r62=>
  some (.inl (aS ((aS ((aS ((aS (n+1))+(x58.Needs.length:Int)))+r60))+r62),aS (i+1)))
 else
  some (.inr n)
def zO:Option Int:=loop (fun(zz:Int×Int)=>iG m zz.1 zz.2) (n,i)
theorem Js{y:(Int×Int)⊕(Int)}(h:iG m n i=some y):aV Pg GE 0 (cA b7 1015) (LQ (fun(zz:Int×Int)=>kz m zz.1 zz.2) (fun _=>.exit 8) (u4 m) y) (kz m n i):=by
 obtain⟨o55,bo55,h⟩:=ay h
 have p57:=fun{sc F} (r:PS sc F)=>ka 1<|cY (Lw m n i bo55)<|r
 rcases bj h with⟨c56,h⟩|⟨c56,h⟩
 ·obtain⟨x58,bx58,h⟩:=ay h
  obtain⟨x59,bx59,h⟩:=ay h
  obtain⟨r60,br60,h⟩:=ay h
  obtain⟨x61,bx61,h⟩:=ay h
  obtain⟨r62,br62,h⟩:=ay h
  obtain rfl:=lf h
  exact oo A7 (p57<|sg 0 c56<|lK [0,1,0,4,0,28,60,124,252,511,0,1024,0,7168,15360,31744,64512,130048,262143,0,524288,0,3670016,7864320,16252928,33291264,67108863,134217727]<|sv (kJ m)<|sv (kP m)<|sv (qek.ia (k:=.i64) bx58)<|sv (Kb x58)<|sv (IG x58)<|cq (qjb.ln x58.Needs)<|sv (kJ m)<|sv (kP m)<|sv (qek.ia (k:=.i64) bx59)<|sv (Ka x59)<|sv (Kp x59)<|sv (ct.mk' (v:=jG) eO ([x59.Type_]:List ae) 1 (by kernel_rfl))<|bz (gq br60)<|sv (kJ m)<|sv (kP m)<|sv (qek.ia (k:=.i64) bx61)<|sv (Kc x61)<|sv (IH x61)<|bz (AB br62)<|eF .normal (kz m (aS ((aS ((aS ((aS (n+1))+(x58.Needs.length:Int)))+r60))+r62)) (aS (i+1))))<|by kernel_rfl
 ·obtain rfl:=lf h
  have z:=p57<|sg 0 c56<|eF (.exit 8) (u4 m n)
  exact gg A7 (by intro hx;cases hx) z<|by kernel_rfl
theorem LA{x:Int}(h:zO m n i=some x):aV Pg GE 0 (.loop (cA b7 1015)) (EX (.exit 8) (u4 m x)) (kz m n i):=
 aV.loop (S:=fun(zz:Int×Int)=>kz m zz.1 zz.2) (ex:=(fun _=>.exit 8)) (s:=(n,i)) h fun zz y hy=>Js m zz.1 zz.2 hy
end
section
variable(m:aG)(n:Int)(i:Int)
def NJ:aC:=be 303 [(1,.eptr (aB m)),(3,.int .i64 n),(9,.int .i64 i)] [.dead] []
def uY(o:Bool):aC:=be 303 [(1,.eptr (aB m)),(3,.int .i64 n),(9,.int .i64 i),(215,.bool o)] [.dead] []
def tJ:Option Bool:=
 if(decide (i<(m.Measures.length:Int)))=true then
  some (decide (n<=4000))
 else
  some false
theorem Lx{x:Bool}(h:tJ m n i=some x):aV Pg GE 0 (cA b7 8156) (EX .normal (uY m n i x)) (NJ m n i):=by
 have p65:=fun{sc F} (r:PS sc F)=>sv (iN m)<|sv (iO m)<|cq (qcb.ln m.Measures)<|r
 rcases bj h with⟨c64,h⟩|⟨c64,h⟩
 ·obtain rfl:=lf h
  exact cf A7 (p65<|sg 6 c64<|eF .normal (uY m n i (decide (n<=4000))))<|by kernel_rfl
 ·obtain rfl:=lf h
  exact cf A7 (p65<|sg 6 c64<|eF .normal (uY m n i false))<|by kernel_rfl
end
section
variable(m:aG)(n:Int)(i:Int)(k:Int)
def NK:aC:=be 303 [(1,.eptr (aB m)),(3,.int .i64 n),(9,.int .i64 i),(10,.int .i64 k)] [.dead] []
def uZ(o:Bool):aC:=be 303 [(1,.eptr (aB m)),(3,.int .i64 n),(9,.int .i64 i),(10,.int .i64 k),(241,.bool o)] [.dead] []
def tK:Option Bool:=
 (cz m.Measures i).bind fun x71=>
 if(decide (k<(x71.Cases.length:Int)))=true then
  some (decide (n<=4000))
 else
  some false
theorem Ly{x:Bool}(h:tK m n i k=some x):aV Pg GE 0 (cA b7 1044348) (EX .normal (uZ m n i k x)) (NK m n i k):=by
 obtain⟨x71,bx71,h⟩:=ay h
 have p73:=fun{sc F} (r:PS sc F)=>sv (iN m)<|sv (iO m)<|sv (qcb.ia (k:=.i64) bx71)<|sv (tf x71)<|sv (th x71)<|cq (qhl.ln x71.Cases)<|r
 rcases bj h with⟨c72,h⟩|⟨c72,h⟩
 ·obtain rfl:=lf h
  exact cf A7 (p73<|sg 10 c72<|eF .normal (uZ m n i k (decide (n<=4000))))<|by kernel_rfl
 ·obtain rfl:=lf h
  exact cf A7 (p73<|sg 10 c72<|eF .normal (uZ m n i k false))<|by kernel_rfl
end
section
variable(m:aG)(i:Int)(n:Int)(k:Int)
def kD:aC:=be 303 [(1,.eptr (aB m)),(3,.int .i64 n),(9,.int .i64 i),(10,.int .i64 k)] [.dead] []
def u6(o:Int):aC:=be 303 [(1,.eptr (aB m)),(3,.int .i64 o),(9,.int .i64 i)] [.dead] []
def iI:Option ((Int×Int)⊕(Int)):=
 (tK m n i k).bind fun o74=>
 if o74=true then
  (cz m.Measures i).bind fun x77=>
  (cz x77.Cases k).bind fun x78=>
  (cz m.Measures i).bind fun x79=>
  (cz x79.Cases k).bind fun x80=>
  (eV ([x80.Body]:List aa) 4000).bind fun r81=>
  some (.inl (aS ((aS ((aS (n+1))+(x78.Names.length:Int)))+r81),aS (k+1)))
 else
  some (.inr n)
def zQ:Option Int:=loop (fun(zz:Int×Int)=>iI m i zz.1 zz.2) (n,k)
theorem Ju{y:(Int×Int)⊕(Int)}(h:iI m i n k=some y):aV Pg GE 0 (cA b7 261087) (LQ (fun(zz:Int×Int)=>kD m i zz.1 zz.2) (fun _=>.exit 12) (u6 m i) y) (kD m i n k):=by
 obtain⟨o74,bo74,h⟩:=ay h
 have p76:=fun{sc F} (r:PS sc F)=>ka 1<|cY (Ly m n i k bo74)<|r
 rcases bj h with⟨c75,h⟩|⟨c75,h⟩
 ·obtain⟨x77,bx77,h⟩:=ay h
  obtain⟨x78,bx78,h⟩:=ay h
  obtain⟨x79,bx79,h⟩:=ay h
  obtain⟨x80,bx80,h⟩:=ay h
  obtain⟨r81,br81,h⟩:=ay h
  obtain rfl:=lf h
  exact oo A7 (p76<|sg 0 c75<|lK [0,1,0,4,0,28,60,124,0,508,1020,2044,4092,8191,0,16384,0,114688,245760,507904,0,2080768,4177920,8372224,16760832,33538048,67108863,134217727]<|sv (iN m)<|sv (iO m)<|sv (qcb.ia (k:=.i64) bx77)<|sv (tf x77)<|sv (th x77)<|sv (qhl.ia (k:=.i64) bx78)<|sv (SB x78)<|sv (SQ x78)<|cq (bq.ln x78.Names)<|sv (iN m)<|sv (iO m)<|sv (qcb.ia (k:=.i64) bx79)<|sv (tf x79)<|sv (th x79)<|sv (qhl.ia (k:=.i64) bx80)<|sv (SC x80)<|sv (SS x80)<|sv (bL.mk' (v:=dZ) cP ([x80.Body]:List aa) 1 (by kernel_rfl))<|bz (eW br81)<|eF .normal (kD m i (aS ((aS ((aS (n+1))+(x78.Names.length:Int)))+r81)) (aS (k+1))))<|by kernel_rfl
 ·obtain rfl:=lf h
  have z:=p76<|sg 0 c75<|eF (.exit 12) (u6 m i n)
  exact gg A7 (by intro hx;cases hx) z<|by kernel_rfl
theorem LC{x:Int}(h:zQ m i n k=some x):aV Pg GE 0 (.loop (cA b7 261087)) (EX (.exit 12) (u6 m i x)) (kD m i n k):=
 aV.loop (S:=fun(zz:Int×Int)=>kD m i zz.1 zz.2) (ex:=(fun _=>.exit 12)) (s:=(n,k)) h fun zz y hy=>Ju m i zz.1 zz.2 hy
end
section
variable(m:aG)(n:Int)(i:Int)
def kC:aC:=be 303 [(1,.eptr (aB m)),(3,.int .i64 n),(9,.int .i64 i)] [.dead] []
def u5(o:Int):aC:=be 303 [(1,.eptr (aB m)),(3,.int .i64 o)] [.dead] []
def iH:Option ((Int×Int)⊕(Int)):=
 (tJ m n i).bind fun o66=>
 if o66=true then
  (cz m.Measures i).bind fun x69=>
  (eV ([x69.Inv]:List aa) 4000).bind fun r70=>
  (zQ m i (aS ((aS (n+1))+r70)) 0).bind fun o82=>
  some (.inl (o82,aS (i+1)))
 else
  some (.inr n)
def zP:Option Int:=loop (fun(zz:Int×Int)=>iH m zz.1 zz.2) (n,i)
theorem Jt{y:(Int×Int)⊕(Int)}(h:iH m n i=some y):aV Pg GE 0 (cA b7 2039) (LQ (fun(zz:Int×Int)=>kC m zz.1 zz.2) (fun _=>.exit 10) (u5 m) y) (kC m n i):=by
 obtain⟨o66,bo66,h⟩:=ay h
 have p68:=fun{sc F} (r:PS sc F)=>ka 1<|cY (Lx m n i bo66)<|r
 rcases bj h with⟨c67,h⟩|⟨c67,h⟩
 ·obtain⟨x69,bx69,h⟩:=ay h
  obtain⟨r70,br70,h⟩:=ay h
  obtain⟨o82,bo82,h⟩:=ay h
  obtain rfl:=lf h
  exact oo A7 (p68<|sg 0 c67<|sv (iN m)<|sv (iO m)<|sv (qcb.ia (k:=.i64) bx69)<|sv (L0 x69)<|sv (Ma x69)<|sv (bL.mk' (v:=dZ) cP ([x69.Inv]:List aa) 1 (by kernel_rfl))<|bz (eW br70)<|cY (LC m i (aS ((aS (n+1))+r70)) 0 bo82)<|eF .normal (kC m o82 (aS (i+1))))<|by kernel_rfl
 ·obtain rfl:=lf h
  have z:=p68<|sg 0 c67<|eF (.exit 10) (u5 m n)
  exact gg A7 (by intro hx;cases hx) z<|by kernel_rfl
theorem LB{x:Int}(h:zP m n i=some x):aV Pg GE 0 (.loop (cA b7 2039)) (EX (.exit 10) (u5 m x)) (kC m n i):=
 aV.loop (S:=fun(zz:Int×Int)=>kC m zz.1 zz.2) (ex:=(fun _=>.exit 10)) (s:=(n,i)) h fun zz y hy=>Jt m zz.1 zz.2 hy
end
section
variable(m:aG)(n:Int)(i:Int)
def NL:aC:=be 303 [(1,.eptr (aB m)),(3,.int .i64 n),(11,.int .i64 i)] [.dead] []
def u3(o:Bool):aC:=be 303 [(1,.eptr (aB m)),(3,.int .i64 n),(11,.int .i64 i),(279,.bool o)] [.dead] []
def tL:Option Bool:=
 if(decide (i<(m.Quals.length:Int)))=true then
  some (decide (n<=4000))
 else
  some false
theorem Lz{x:Bool}(h:tL m n i=some x):aV Pg GE 0 (cA b7 16348) (EX .normal (u3 m n i x)) (NL m n i):=by
 have p85:=fun{sc F} (r:PS sc F)=>sv (pM m)<|sv (pQ m)<|cq (qfG.ln m.Quals)<|r
 rcases bj h with⟨c84,h⟩|⟨c84,h⟩
 ·obtain rfl:=lf h
  exact cf A7 (p85<|sg 6 c84<|eF .normal (u3 m n i (decide (n<=4000))))<|by kernel_rfl
 ·obtain rfl:=lf h
  exact cf A7 (p85<|sg 6 c84<|eF .normal (u3 m n i false))<|by kernel_rfl
end
section
variable(m:aG)(n:Int)(i:Int)
def kE:aC:=be 303 [(1,.eptr (aB m)),(3,.int .i64 n),(11,.int .i64 i)] [.dead] []
def u7(o:Int):aC:=be 303 [(3,.int .i64 o)] [.dead] []
def iJ:Option ((Int×Int)⊕(Int)):=
 (tL m n i).bind fun o86=>
 if o86=true then
  (cz m.Quals i).bind fun x89=>
  (cz m.Quals i).bind fun x90=>
  (eV ([x90.Body]:List aa) 4000).bind fun r91=>
  some (.inl (aS ((aS ((aS (n+1))+(x89.Vars.length:Int)))+r91),aS (i+1)))
 else
  some (.inr n)
def zR:Option Int:=loop (fun(zz:Int×Int)=>iJ m zz.1 zz.2) (n,i)
theorem Jv{y:(Int×Int)⊕(Int)}(h:iJ m n i=some y):aV Pg GE 0 (cA b7 4087) (LQ (fun(zz:Int×Int)=>kE m zz.1 zz.2) (fun _=>.exit 14) u7 y) (kE m n i):=by
 obtain⟨o86,bo86,h⟩:=ay h
 have p88:=fun{sc F} (r:PS sc F)=>ka 1<|cY (Lz m n i bo86)<|r
 rcases bj h with⟨c87,h⟩|⟨c87,h⟩
 ·obtain⟨x89,bx89,h⟩:=ay h
  obtain⟨x90,bx90,h⟩:=ay h
  obtain⟨r91,br91,h⟩:=ay h
  obtain rfl:=lf h
  exact oo A7 (p88<|sg 0 c87<|lK [0,1,0,4,0,28,60,124,252,511,0,1024,0,7168,15360,31744,64512,130048,262143,524287]<|sv (pM m)<|sv (pQ m)<|sv (qfG.ia (k:=.i64) bx89)<|sv (SJ x89)<|sv (SV x89)<|cq (I3.ln x89.Vars)<|sv (pM m)<|sv (pQ m)<|sv (qfG.ia (k:=.i64) bx90)<|sv (SK x90)<|sv (SW x90)<|sv (bL.mk' (v:=dZ) cP ([x90.Body]:List aa) 1 (by kernel_rfl))<|bz (eW br91)<|eF .normal (kE m (aS ((aS ((aS (n+1))+(x89.Vars.length:Int)))+r91)) (aS (i+1))))<|by kernel_rfl
 ·obtain rfl:=lf h
  have z:=p88<|sg 0 c87<|eF (.exit 14) (u7 n)
  exact gg A7 (by intro hx;cases hx) z<|by kernel_rfl
theorem LD{x:Int}(h:zR m n i=some x):aV Pg GE 0 (.loop (cA b7 4087)) (EX (.exit 14) (u7 x)) (kE m n i):=
 aV.loop (S:=fun(zz:Int×Int)=>kE m zz.1 zz.2) (ex:=(fun _=>.exit 14)) (s:=(n,i)) h fun zz y hy=>Jv m zz.1 zz.2 hy
end
def AA(m:aG):Option Bool:=
 (BW m).bind fun o11=>
 if o11=true then
  some false
 else
  (oU m.Defs 4000).bind fun r14=>
  (BX m r14 0).bind fun o36=>
  (BZ m o36 0).bind fun o52=>
  (zO m o52 0).bind fun o63=>
  (zP m o63 0).bind fun o83=>
  (zR m o83 0).bind fun o92=>
  some (decide (o92<=4000))
theorem US{m:aG}{r:Bool}(h:AA m=some r):CC Pg GE 7 [.agg (aB m)] (.bool r) []:=by
 obtain⟨o11,bo11,h⟩:=ay h
 have p13:=fun{sc F} (r:PS sc F)=>se (gE m)<|ka 1<|cY (NM m bo11)<|r
 rcases bj h with⟨c12,h⟩|⟨c12,h⟩
 ·obtain rfl:=lf h
  have z:=p13<|sg 0 c12<|en (aI (rP (.bool false))<|trivial)
  exact bO A7 call7 func7 (c:=b7) rfl (aI (cu m) trivial) z<|by kernel_rfl
 ·obtain⟨r14,br14,h⟩:=ay h
  obtain⟨o36,bo36,h⟩:=ay h
  obtain⟨o52,bo52,h⟩:=ay h
  obtain⟨o63,bo63,h⟩:=ay h
  obtain⟨o83,bo83,h⟩:=ay h
  obtain⟨o92,bo92,h⟩:=ay h
  obtain rfl:=lf h
  have z:=p13<|sg 0 c12<|sv (De m)<|sv (Dj m)<|bz (AB br14)<|cY (NR m r14 0 bo36)<|cY (NT m o36 0 bo52)<|cY (LA m o52 0 bo63)<|cY (LB m o63 0 bo83)<|cY (LD m o83 0 bo92)<|en (aI (rP (.bool (decide (o92<=4000))))<|trivial)
  exact bO A7 call7 func7 (c:=b7) rfl (aI (cu m) trivial) z<|by kernel_rfl
abbrev xH:=(cb->Int->Option Int)
abbrev wK(R:xH):Prop:=∀(e:cb) (most:Int) (r:Int),R e most=some r->CC Pg GE 30 [.agg (ba e),.int .i64 most] (.int .i64 r) []
abbrev y0:=(waC->Int->Option Int)
abbrev DP(R:y0):Prop:=∀(a:waC) (most:Int) (r:Int),R a most=some r->CC Pg GE 51 [sl ag a,.int .i64 most] (.int .i64 r) []
abbrev yZ:=(waB->Int->Option Int)
abbrev DO(R:yZ):Prop:=∀(a:waB) (most:Int) (r:Int),R a most=some r->CC Pg GE 76 [sl ac a,.int .i64 most] (.int .i64 r) []
noncomputable def qjF:Code:=f76.body.getD .skip
def qh7:List Nat:=[39]
section
variable(v:waB)(most:Int)(n:Int)(i:Int)
def Pv:aC:=be 40 [(0,sl ac v),(1,.int .i64 most),(5,.int .i64 n),(6,.int .i64 i)] [] []
def xd(o:Bool):aC:=be 40 [(0,sl ac v),(1,.int .i64 most),(5,.int .i64 n),(6,.int .i64 i),(15,.bool o)] [] []
def vY:Option Bool:=
 if(decide (i<(v.length:Int)))=true then
  some (decide (n<=most))
 else
  some false
theorem Ny{x:Bool}(h:vY v most n i=some x):aV Pg GE 0 (cA qjF 476) (EX .normal (xd v most n i x)) (Pv v most n i):=by
 rcases bj h with⟨c1,h⟩|⟨c1,h⟩
 ·obtain rfl:=lf h
  exact cf qh7 (cq (bL.ln v)<|sg 5 c1<|eF .normal (xd v most n i (decide (n<=most))))<|by kernel_rfl
 ·obtain rfl:=lf h
  exact cf qh7 (cq (bL.ln v)<|sg 5 c1<|eF .normal (xd v most n i false))<|by kernel_rfl
end
section
variable(R10:yZ)(v:waB)(most:Int)(n:Int)(i:Int)
def my:aC:=be 40 [(0,sl ac v),(1,.int .i64 most),(5,.int .i64 n),(6,.int .i64 i)] [] []
def xe(o:Int):aC:=be 40 [(5,.int .i64 o)] [] []
def jN:Option ((Int×Int)⊕(Int)):=
 (vY v most n i).bind fun o2=>
 if o2=true then
  (cz v i).bind fun x5=>
  (qu .i64 (x5.Name.length:Int) 50).bind fun q6=>
  (cz v i).bind fun x7=>
  (R10 x7.Kids (aS (most - (aS ((aS (n+1))+q6))))).bind fun r8=>
  some (.inl (aS ((aS ((aS (n+1))+q6))+r8),aS (i+1)))
 else
  some (.inr n)
def BQ:Option Int:=loop (fun(zz:Int×Int)=>jN R10 v most zz.1 zz.2) (n,i)
theorem Lq(hR10:DO R10){y:(Int×Int)⊕(Int)}(h:jN R10 v most n i=some y):aV Pg GE 0 (cA qjF 119) (LQ (fun(zz:Int×Int)=>my v most zz.1 zz.2) (fun _=>.exit 0) xe y) (my v most n i):=by
 obtain⟨o2,bo2,h⟩:=ay h
 have p4:=fun{sc F} (r:PS sc F)=>ka 1<|cY (Ny v most n i bo2)<|r
 rcases bj h with⟨c3,h⟩|⟨c3,h⟩
 ·obtain⟨x5,bx5,h⟩:=ay h
  obtain⟨q6,bq6,h⟩:=ay h
  obtain⟨x7,bx7,h⟩:=ay h
  obtain⟨r8,br8,h⟩:=ay h
  obtain rfl:=lf h
  exact oo qh7 (p4<|sg 0 c3<|sv (bL.ia (k:=.i64) bx5)<|sv (cw x5)<|sv (cR x5)<|cq (iD underlying9 x5.Name)<|sv (AL (P:=Pg) (t:=3) bq6)<|sv (bL.ia (k:=.i64) bx7)<|sv (bC x7)<|sv (bD x7)<|bz (hR10 _ _ _ br8)<|eF .normal (my v most (aS ((aS ((aS (n+1))+q6))+r8)) (aS (i+1))))<|by kernel_rfl
 ·obtain rfl:=lf h
  have z:=p4<|sg 0 c3<|eF (.exit 0) (xe n)
  exact gg qh7 (by intro hx;cases hx) z<|by kernel_rfl
theorem Nz(hR10:DO R10){x:Int}(h:BQ R10 v most n i=some x):aV Pg GE 0 (.loop (cA qjF 119)) (EX (.exit 0) (xe x)) (my v most n i):=
 aV.loop (S:=fun(zz:Int×Int)=>my v most zz.1 zz.2) (ex:=(fun _=>.exit 0)) (s:=(n,i)) h fun zz y hy=>Lq R10 v most zz.1 zz.2 hR10 hy
end
def yR(R10:yZ)(a:waB)(most:Int):Option Int:=
 (BQ R10 a most 0 0).bind fun o9=>
 some o9
theorem Sg(R10:yZ)(hR10:DO R10){a:waB}{most:Int}{r:Int}(h:yR R10 a most=some r):CC Pg GE 76 [sl ac a,.int .i64 most] (.int .i64 r) []:=by
 obtain⟨o9,bo9,h⟩:=ay h
 obtain rfl:=lf h
 have z:=cY (Nz R10 a most 0 0 hR10 bo9)<|en (aI (rP (.int .i64 o9))<|trivial)
 exact bO qh7 call76 func76 (c:=qjF) rfl (aI (aj ah a) (aI trivial trivial)) z<|by kernel_rfl
def Ev:((waB×Int)->Option Int)->(waB×Int)->Option Int:=fun(rec:(waB×Int)->Option Int) (x:waB×Int)=>yR (fun a most=>rec (a,most)) x.1 x.2
def Lp(a:waB)(most:Int):Option Int:=kK Ev (a,most)
theorem UQ{a:waB}{most:Int}{r:Int}(h:Lp a most=some r):CC Pg GE 76 [sl ac a,.int .i64 most] (.int .i64 r) []:=
 cG (F:=Ev) (M:=fun(x:waB×Int) (r:Int)=>CC Pg GE 76 [sl ac x.1,.int .i64 x.2] (.int .i64 r) []) (fun rec hrec x r h=>Sg _ (fun a most r h=>hrec (a,most) r h) h) h
noncomputable def qjA:Code:=f51.body.getD .skip
def qh3:List Nat:=[61]
section
variable(v:waC)(most:Int)(n:Int)(i:Int)
def Pw:aC:=be 62 [(0,sl ag v),(1,.int .i64 most),(5,.int .i64 n),(6,.int .i64 i)] [] []
def xf(o:Bool):aC:=be 62 [(0,sl ag v),(1,.int .i64 most),(5,.int .i64 n),(6,.int .i64 i),(15,.bool o)] [] []
def vZ:Option Bool:=
 if(decide (i<(v.length:Int)))=true then
  some (decide (n<=most))
 else
  some false
theorem NA{x:Bool}(h:vZ v most n i=some x):aV Pg GE 0 (cA qjA 476) (EX .normal (xf v most n i x)) (Pw v most n i):=by
 rcases bj h with⟨c1,h⟩|⟨c1,h⟩
 ·obtain rfl:=lf h
  exact cf qh3 (cq (ct.ln v)<|sg 5 c1<|eF .normal (xf v most n i (decide (n<=most))))<|by kernel_rfl
 ·obtain rfl:=lf h
  exact cf qh3 (cq (ct.ln v)<|sg 5 c1<|eF .normal (xf v most n i false))<|by kernel_rfl
end
section
variable(R9:y0)(v:waC)(most:Int)(n:Int)(i:Int)
def mz:aC:=be 62 [(0,sl ag v),(1,.int .i64 most),(5,.int .i64 n),(6,.int .i64 i)] [] []
def xg(o:Int):aC:=be 62 [(5,.int .i64 o)] [] []
def jO:Option ((Int×Int)⊕(Int)):=
 (vZ v most n i).bind fun o2=>
 if o2=true then
  (cz v i).bind fun x5=>
  (qu .i64 (x5.Name.length:Int) 50).bind fun q6=>
  (cz v i).bind fun x7=>
  (cz v i).bind fun x8=>
  (cz v i).bind fun x9=>
  (app ([x8.Pred]:List aa) x9.Preds).bind fun l10=>
  (Lp l10 most).bind fun r11=>
  (cz v i).bind fun x12=>
  (R9 x12.Args (aS (most - (aS ((aS ((aS ((aS (n+1))+q6))+(x7.Names.length:Int)))+r11))))).bind fun r13=>
  some (.inl (aS ((aS ((aS ((aS ((aS (n+1))+q6))+(x7.Names.length:Int)))+r11))+r13),aS (i+1)))
 else
  some (.inr n)
def BS:Option Int:=loop (fun(zz:Int×Int)=>jO R9 v most zz.1 zz.2) (n,i)
theorem Lr(hR9:DP R9){y:(Int×Int)⊕(Int)}(h:jO R9 v most n i=some y):aV Pg GE 0 (cA qjA 119) (LQ (fun(zz:Int×Int)=>mz v most zz.1 zz.2) (fun _=>.exit 0) xg y) (mz v most n i):=by
 obtain⟨o2,bo2,h⟩:=ay h
 have p4:=fun{sc F} (r:PS sc F)=>ka 1<|cY (NA v most n i bo2)<|r
 rcases bj h with⟨c3,h⟩|⟨c3,h⟩
 ·obtain⟨x5,bx5,h⟩:=ay h
  obtain⟨q6,bq6,h⟩:=ay h
  obtain⟨x7,bx7,h⟩:=ay h
  obtain⟨x8,bx8,h⟩:=ay h
  obtain⟨x9,bx9,h⟩:=ay h
  obtain⟨l10,bl10,h⟩:=ay h
  obtain⟨r11,br11,h⟩:=ay h
  obtain⟨x12,bx12,h⟩:=ay h
  obtain⟨r13,br13,h⟩:=ay h
  obtain rfl:=lf h
  exact oo qh3 (p4<|sg 0 c3<|lK [0,1,0,0,12,28,60,124,252,511,0,0,3072,7168,15360,31744,65535,0,0,393216,917504,1966080,4063232,0,0,25165824,58720256,125829120,268304384,0,1073610752,2147483647,4294967295]<|sv (ct.ia (k:=.i64) bx5)<|sv (cx x5)<|sv (cT x5)<|cq (iD underlying9 x5.Name)<|sv (AL (P:=Pg) (t:=3) bq6)<|sv (ct.ia (k:=.i64) bx7)<|sv (aQ x7)<|sv (aR x7)<|cq (bq.ln x7.Names)<|sv (ct.ia (k:=.i64) bx8)<|sv (dH x8)<|sv (dI x8)<|sv (bL.mk' (v:=dZ) cP ([x8.Pred]:List aa) 1 (by kernel_rfl))<|sv (ct.ia (k:=.i64) bx9)<|sv (du x9)<|sv (dv x9)<|sv (bL.ap bl10)<|bz (UQ br11)<|sv (ct.ia (k:=.i64) bx12)<|sv (aL x12)<|sv (aM x12)<|bz (hR9 _ _ _ br13)<|eF .normal (mz v most (aS ((aS ((aS ((aS ((aS (n+1))+q6))+(x7.Names.length:Int)))+r11))+r13)) (aS (i+1))))<|by kernel_rfl
 ·obtain rfl:=lf h
  have z:=p4<|sg 0 c3<|eF (.exit 0) (xg n)
  exact gg qh3 (by intro hx;cases hx) z<|by kernel_rfl
theorem NB(hR9:DP R9){x:Int}(h:BS R9 v most n i=some x):aV Pg GE 0 (.loop (cA qjA 119)) (EX (.exit 0) (xg x)) (mz v most n i):=
 aV.loop (S:=fun(zz:Int×Int)=>mz v most zz.1 zz.2) (ex:=(fun _=>.exit 0)) (s:=(n,i)) h fun zz y hy=>Lr R9 v most zz.1 zz.2 hR9 hy
end
def yS(R9:y0)(a:waC)(most:Int):Option Int:=
 (BS R9 a most 0 0).bind fun o14=>
 some o14
theorem Si(R9:y0)(hR9:DP R9){a:waC}{most:Int}{r:Int}(h:yS R9 a most=some r):CC Pg GE 51 [sl ag a,.int .i64 most] (.int .i64 r) []:=by
 obtain⟨o14,bo14,h⟩:=ay h
 obtain rfl:=lf h
 have z:=cY (NB R9 a most 0 0 hR9 bo14)<|en (aI (rP (.int .i64 o14))<|trivial)
 exact bO qh3 call51 func51 (c:=qjA) rfl (aI (aj ak a) (aI trivial trivial)) z<|by kernel_rfl
def Ew:((waC×Int)->Option Int)->(waC×Int)->Option Int:=fun(rec:(waC×Int)->Option Int) (x:waC×Int)=>yS (fun a most=>rec (a,most)) x.1 x.2
def F5(a:waC)(most:Int):Option Int:=kK Ew (a,most)
theorem Jr{a:waC}{most:Int}{r:Int}(h:F5 a most=some r):CC Pg GE 51 [sl ag a,.int .i64 most] (.int .i64 r) []:=
 cG (F:=Ew) (M:=fun(x:waC×Int) (r:Int)=>CC Pg GE 51 [sl ag x.1,.int .i64 x.2] (.int .i64 r) []) (fun rec hrec x r h=>Si _ (fun a most r h=>hrec (a,most) r h) h) h
noncomputable def qjB:Code:=f52.body.getD .skip
def qh4:List Nat:=[27]
section
variable(v:waA)(most:Int)(n:Int)(i:Int)
def Pu:aC:=be 28 [(0,sl cS v),(1,.int .i64 most),(5,.int .i64 n),(6,.int .i64 i)] [] []
def xa(o:Bool):aC:=be 28 [(0,sl cS v),(1,.int .i64 most),(5,.int .i64 n),(6,.int .i64 i),(15,.bool o)] [] []
def Jp:Option Bool:=
 if(decide (i<(v.length:Int)))=true then
  some (decide (n<=most))
 else
  some false
theorem Nw{x:Bool}(h:Jp v most n i=some x):aV Pg GE 0 (cA qjB 476) (EX .normal (xa v most n i x)) (Pu v most n i):=by
 rcases bj h with⟨c1,h⟩|⟨c1,h⟩
 ·obtain rfl:=lf h
  exact cf qh4 (cq (bq.ln v)<|sg 5 c1<|eF .normal (xa v most n i (decide (n<=most))))<|by kernel_rfl
 ·obtain rfl:=lf h
  exact cf qh4 (cq (bq.ln v)<|sg 5 c1<|eF .normal (xa v most n i false))<|by kernel_rfl
end
section
variable(v:waA)(most:Int)(n:Int)(i:Int)
def mw:aC:=be 28 [(0,sl cS v),(1,.int .i64 most),(5,.int .i64 n),(6,.int .i64 i)] [] []
def xc(o:Int):aC:=be 28 [(5,.int .i64 o)] [] []
def Eu:Option ((Int×Int)⊕(Int)):=
 (Jp v most n i).bind fun o2=>
 if o2=true then
  (cz v i).bind fun x5=>
  (qu .i64 (x5.length:Int) 50).bind fun q6=>
  some (.inl (aS ((aS (n+1))+q6),aS (i+1)))
 else
  some (.inr n)
def Jq:Option Int:=loop (fun(zz:Int×Int)=>Eu v most zz.1 zz.2) (n,i)
theorem Lo{y:(Int×Int)⊕(Int)}(h:Eu v most n i=some y):aV Pg GE 0 (cA qjB 119) (LQ (fun(zz:Int×Int)=>mw v most zz.1 zz.2) (fun _=>.exit 0) xc y) (mw v most n i):=by
 obtain⟨o2,bo2,h⟩:=ay h
 have p4:=fun{sc F} (r:PS sc F)=>ka 1<|cY (Nw v most n i bo2)<|r
 rcases bj h with⟨c3,h⟩|⟨c3,h⟩
 ·obtain⟨x5,bx5,h⟩:=ay h
  obtain⟨q6,bq6,h⟩:=ay h
  obtain rfl:=lf h
  exact oo qh4 (p4<|sg 0 c3<|sv (bq.ia (k:=.i64) bx5)<|sv (dB Bg (.str x5) [])<|cq (iD underlying9 x5)<|sv (AL (P:=Pg) (t:=3) bq6)<|eF .normal (mw v most (aS ((aS (n+1))+q6)) (aS (i+1))))<|by kernel_rfl
 ·obtain rfl:=lf h
  have z:=p4<|sg 0 c3<|eF (.exit 0) (xc n)
  exact gg qh4 (by intro hx;cases hx) z<|by kernel_rfl
theorem Nx{x:Int}(h:Jq v most n i=some x):aV Pg GE 0 (.loop (cA qjB 119)) (EX (.exit 0) (xc x)) (mw v most n i):=
 aV.loop (S:=fun(zz:Int×Int)=>mw v most zz.1 zz.2) (ex:=(fun _=>.exit 0)) (s:=(n,i)) h fun zz y hy=>Lo v most zz.1 zz.2 hy
end
def Tc(a:waA)(most:Int):Option Int:=
 (Jq a most 0 0).bind fun o7=>
 some o7
theorem UP{a:waA}{most:Int}{r:Int}(h:Tc a most=some r):CC Pg GE 52 [sl cS a,.int .i64 most] (.int .i64 r) []:=by
 obtain⟨o7,bo7,h⟩:=ay h
 obtain rfl:=lf h
 have z:=cY (Nx a most 0 0 bo7)<|en (aI (rP (.int .i64 o7))<|trivial)
 exact bO qh4 call52 func52 (c:=qjB) rfl (aI (aj dN a) (aI trivial trivial)) z<|by kernel_rfl
end Go.Proofs.YtbaamopmfmpfaaaGreatDoor
