/- PROVED: parts of the proof (G1). Conditions: none. -/
import Derived.Test.YtbaamopmfmpfaaaGreatDoorPkA13
import Derived.Test.YtbaamopmfmpfaaaGreatDoorPkA14
noncomputable section
namespace Go.Proofs.YtbaamopmfmpfaaaGreatDoor
open Go
set_option linter.unusedVariables false
set_option maxRecDepth 100000
abbrev nv:=(waC->Int->Option Int)
abbrev sq(R:nv):Prop:=∀(a:waC) (most:Int) (r:Int),R a most=some r->CC Pg GE 28 [sl af a,.int .i64 most] (.int .i64 r) []
abbrev nu:=(waB->Int->Option Int)
abbrev sn(R:nu):Prop:=∀(a:waB) (most:Int) (r:Int),R a most=some r->CC Pg GE 29 [sl ac a,.int .i64 most] (.int .i64 r) []
def qjb:Code:=Tryz.f29.body.getD .skip
def qhH:List Nat:=[39]
section
variable(v:waB)(most:Int)(n:Int)(i:Int)
def Gw:aA:=be 40 [(0,sl ac v),(1,.int .i64 most),(5,.int .i64 n),(6,.int .i64 i)] [] []
def nN(o:Bool):aA:=be 40 [(0,sl ac v),(1,.int .i64 most),(5,.int .i64 n),(6,.int .i64 i),(15,.bool o)] [] []
def lP:Option Bool:=
 if(decide (i<(v.length:Int)))=true then
  some (decide (n<=most))
 else
  some false
theorem Eh{x:Bool}(h:lP v most n i=some x):
  aU Pg GE 0 (cA qjb 476) (EX .normal (nN v most n i x)) (Gw v most n i):=by
 rcases bj h with⟨c1,h⟩|⟨c1,h⟩
 ·obtain rfl:=lf h
  exact cd qhH (cm (bL.ln v)<|sg 5 c1<|eF .normal (nN v most n i (decide (n<=most)))) (by kernel_rfl)
 ·obtain rfl:=lf h
  exact cd qhH (cm (bL.ln v)<|sg 5 c1<|eF .normal (nN v most n i false)) (by kernel_rfl)
end
section
variable(R5:nu)(v:waB)(most:Int)(n:Int)(i:Int)
def gJ:aA:=be 40 [(0,sl ac v),(1,.int .i64 most),(5,.int .i64 n),(6,.int .i64 i)] [] []
def nO(o:Int):aA:=be 40 [(5,.int .i64 o)] [] []
def fi:Option ((Int×Int)⊕(Int)):=
 (lP v most n i).bind fun o2=>
 if o2=true then
  (cz v i).bind fun x5=>
  (qu .i64 (x5.Name.length:Int) 100).bind fun q6=>
  (cz v i).bind fun x7=>
  (R5 x7.Kids (aR (most - (aR ((aR (n+1))+q6))))).bind fun r8=>
  some (.inl (aR ((aR ((aR (n+1))+q6))+r8),aR (i+1)))
 else
  some (.inr n)
def qP:Option Int:=loop (fun(zz:Int×Int)=>fi R5 v most zz.1 zz.2) (n,i)
theorem C8(hR5:sn R5){y:(Int×Int)⊕(Int)}(h:fi R5 v most n i=some y):
  aU Pg GE 0 (cA qjb 119) (LQ (fun(zz:Int×Int)=>gJ v most zz.1 zz.2) (fun _=>.exit 0) nO y) (gJ v most n i):=by
 obtain⟨o2,bo2,h⟩:=ay h
 have p4:=fun{sc F} (r:PS sc F)=>kr 1<|cW (Eh v most n i bo2)<|r
 rcases bj h with⟨c3,h⟩|⟨c3,h⟩
 ·obtain⟨x5,bx5,h⟩:=ay h
  obtain⟨q6,bq6,h⟩:=ay h
  obtain⟨x7,bx7,h⟩:=ay h
  obtain⟨r8,br8,h⟩:=ay h
  obtain rfl:=lf h
  exact n9 qhH (p4<|sg 0 c3<|sv (bL.ia (k:=.i64) bx5)<|sv (cp x5)<|sv (cO x5)<|cm (iz Tryz.underlying9 x5.Name)<|sv (Ax (P:=Pg) (t:=3) bq6)<|sv (bL.ia (k:=.i64) bx7)<|sv (bA x7)<|sv (bC x7)<|bz (hR5 _ _ _ br8)<|eF .normal (gJ v most (aR ((aR ((aR (n+1))+q6))+r8)) (aR (i+1)))) (by kernel_rfl)
 ·obtain rfl:=lf h
  have z:=p4<|sg 0 c3<|eF (.exit 0) (nO n)
  exact f6 qhH (by intro hx;cases hx) z (by kernel_rfl)
theorem Ei(hR5:sn R5){x:Int}(h:qP R5 v most n i=some x):
  aU Pg GE 0 (.loop (cA qjb 119)) (EX (.exit 0) (nO x)) (gJ v most n i):=
 aU.loop (S:=fun(zz:Int×Int)=>gJ v most zz.1 zz.2) (ex:=(fun _=>.exit 0)) (s:=(n,i)) h fun zz y hy=>C8 R5 v most zz.1 zz.2 hR5 hy
end
def np(R5:nu)(a:waB)(most:Int):Option Int:=
 (qP R5 a most 0 0).bind fun o9=>
 some o9
theorem HJ(R5:nu)(hR5:sn R5){a:waB}{most:Int}{r:Int}(h:np R5 a most=some r):CC Pg GE 29 [sl ac a,.int .i64 most] (.int .i64 r) []:=by
 obtain⟨o9,bo9,h⟩:=ay h
 obtain rfl:=lf h
 have z:=cW (Ei R5 a most 0 0 hR5 bo9)<|en (aI (rP (.int .i64 o9))<|trivial)
 exact bN qhH Tryz.call29 Tryz.func29 (c:=qjb) rfl (aI (aj ah a) (aI trivial trivial)) z (by kernel_rfl)
def sH:((waB×Int)->Option Int)->(waB×Int)->Option Int:=fun(rec:(waB×Int)->Option Int) (x:waB×Int)=>np (fun a most=>rec (a,most)) x.1 x.2
def eV(a:waB)(most:Int):Option Int:=kJ sH (a,most)
theorem eW{a:waB}{most:Int}{r:Int}(h:eV a most=some r):CC Pg GE 29 [sl ac a,.int .i64 most] (.int .i64 r) []:=
 cy (F:=sH) (M:=fun(x:waB×Int) (r:Int)=>CC Pg GE 29 [sl ac x.1,.int .i64 x.2] (.int .i64 r) []) (fun rec hrec x r h=>HJ _ (fun a most r h=>hrec (a,most) r h) h) h
def qja:Code:=Tryz.f28.body.getD .skip
def qhG:List Nat:=[63]
section
variable(v:waC)(most:Int)(n:Int)(i:Int)
def Gx:aA:=be 64 [(0,sl af v),(1,.int .i64 most),(5,.int .i64 n),(6,.int .i64 i)] [] []
def nQ(o:Bool):aA:=be 64 [(0,sl af v),(1,.int .i64 most),(5,.int .i64 n),(6,.int .i64 i),(15,.bool o)] [] []
def lQ:Option Bool:=
 if(decide (i<(v.length:Int)))=true then
  some (decide (n<=most))
 else
  some false
theorem Ej{x:Bool}(h:lQ v most n i=some x):
  aU Pg GE 0 (cA qja 476) (EX .normal (nQ v most n i x)) (Gx v most n i):=by
 rcases bj h with⟨c1,h⟩|⟨c1,h⟩
 ·obtain rfl:=lf h
  exact cd qhG (cm (ck.ln v)<|sg 5 c1<|eF .normal (nQ v most n i (decide (n<=most)))) (by kernel_rfl)
 ·obtain rfl:=lf h
  exact cd qhG (cm (ck.ln v)<|sg 5 c1<|eF .normal (nQ v most n i false)) (by kernel_rfl)
end
section
variable(R4:nv)(v:waC)(most:Int)(n:Int)(i:Int)
def gK:aA:=be 64 [(0,sl af v),(1,.int .i64 most),(5,.int .i64 n),(6,.int .i64 i)] [] []
def nR(o:Int):aA:=be 64 [(5,.int .i64 o)] [] []
def fj:Option ((Int×Int)⊕(Int)):=
 (lQ v most n i).bind fun o2=>
 if o2=true then
  (cz v i).bind fun x5=>
  (qu .i64 (x5.Name.length:Int) 100).bind fun q6=>
  (cz v i).bind fun x7=>
  (cz v i).bind fun x8=>
  (eV x8.Preds most).bind fun r9=>
  (cz v i).bind fun x10=>
  (eV ([x10.Pred]:List aa) most).bind fun r11=>
  (cz v i).bind fun x12=>
  (R4 x12.Args (aR (most - (aR ((aR ((aR ((aR ((aR (n+1))+q6))+(x7.Names.length:Int)))+r9))+r11))))).bind fun r13=>
  some (.inl (aR ((aR ((aR ((aR ((aR ((aR (n+1))+q6))+(x7.Names.length:Int)))+r9))+r11))+r13),aR (i+1)))
 else
  some (.inr n)
def qQ:Option Int:=loop (fun(zz:Int×Int)=>fj R4 v most zz.1 zz.2) (n,i)
theorem C9(hR4:sq R4){y:(Int×Int)⊕(Int)}(h:fj R4 v most n i=some y):
  aU Pg GE 0 (cA qja 119) (LQ (fun(zz:Int×Int)=>gK v most zz.1 zz.2) (fun _=>.exit 0) nR y) (gK v most n i):=by
 obtain⟨o2,bo2,h⟩:=ay h
 have p4:=fun{sc F} (r:PS sc F)=>kr 1<|cW (Ej v most n i bo2)<|r
 rcases bj h with⟨c3,h⟩|⟨c3,h⟩
 ·obtain⟨x5,bx5,h⟩:=ay h
  obtain⟨q6,bq6,h⟩:=ay h
  obtain⟨x7,bx7,h⟩:=ay h
  obtain⟨x8,bx8,h⟩:=ay h
  obtain⟨r9,br9,h⟩:=ay h
  obtain⟨x10,bx10,h⟩:=ay h
  obtain⟨r11,br11,h⟩:=ay h
  obtain⟨x12,bx12,h⟩:=ay h
  obtain⟨r13,br13,h⟩:=ay h
  obtain rfl:=lf h
  exact n9 qhG (p4<|sg 0 c3<|lY [0,1,0,0,12,28,60,124,252,511,0,0,3072,7168,15360,31744,65535,0,0,393216,917504,1966080,0,8257536,16777215,0,0,100663296,234881024,503316480,1040187392,0,4278059008,8589934591,17179869183]<|sv (ck.ia (k:=.i64) bx5)<|sv (cq x5)<|sv (cP x5)<|cm (iz Tryz.underlying9 x5.Name)<|sv (Ax (P:=Pg) (t:=3) bq6)<|sv (ck.ia (k:=.i64) bx7)<|sv (aO x7)<|sv (aP x7)<|cm (bp.ln x7.Names)<|sv (ck.ia (k:=.i64) bx8)<|sv (dq x8)<|sv (dt x8)<|bz (eW br9)<|sv (ck.ia (k:=.i64) bx10)<|sv (dE x10)<|sv (dF x10)<|sv (bL.mk' (v:=dW) cK ([x10.Pred]:List aa) 1 (by kernel_rfl))<|bz (eW br11)<|sv (ck.ia (k:=.i64) bx12)<|sv (aK x12)<|sv (aL x12)<|bz (hR4 _ _ _ br13)<|eF .normal (gK v most (aR ((aR ((aR ((aR ((aR ((aR (n+1))+q6))+(x7.Names.length:Int)))+r9))+r11))+r13)) (aR (i+1)))) (by kernel_rfl)
 ·obtain rfl:=lf h
  have z:=p4<|sg 0 c3<|eF (.exit 0) (nR n)
  exact f6 qhG (by intro hx;cases hx) z (by kernel_rfl)
theorem Ek(hR4:sq R4){x:Int}(h:qQ R4 v most n i=some x):
  aU Pg GE 0 (.loop (cA qja 119)) (EX (.exit 0) (nR x)) (gK v most n i):=
 aU.loop (S:=fun(zz:Int×Int)=>gK v most zz.1 zz.2) (ex:=(fun _=>.exit 0)) (s:=(n,i)) h fun zz y hy=>C9 R4 v most zz.1 zz.2 hR4 hy
end
def nq(R4:nv)(a:waC)(most:Int):Option Int:=
 (qQ R4 a most 0 0).bind fun o14=>
 some o14
theorem HK(R4:nv)(hR4:sq R4){a:waC}{most:Int}{r:Int}(h:nq R4 a most=some r):CC Pg GE 28 [sl af a,.int .i64 most] (.int .i64 r) []:=by
 obtain⟨o14,bo14,h⟩:=ay h
 obtain rfl:=lf h
 have z:=cW (Ek R4 a most 0 0 hR4 bo14)<|en (aI (rP (.int .i64 o14))<|trivial)
 exact bN qhG Tryz.call28 Tryz.func28 (c:=qja) rfl (aI (aj ak a) (aI trivial trivial)) z (by kernel_rfl)
def sI:((waC×Int)->Option Int)->(waC×Int)->Option Int:=fun(rec:(waC×Int)->Option Int) (x:waC×Int)=>nq (fun a most=>rec (a,most)) x.1 x.2
def fT(a:waC)(most:Int):Option Int:=kJ sI (a,most)
theorem gm{a:waC}{most:Int}{r:Int}(h:fT a most=some r):CC Pg GE 28 [sl af a,.int .i64 most] (.int .i64 r) []:=
 cy (F:=sI) (M:=fun(x:waC×Int) (r:Int)=>CC Pg GE 28 [sl af x.1,.int .i64 x.2] (.int .i64 r) []) (fun rec hrec x r h=>HK _ (fun a most r h=>hrec (a,most) r h) h) h
abbrev tY:=(bX->Int->Option Int)
abbrev tR(R:tY):Prop:=∀(e:bX) (most:Int) (r:Int),R e most=some r->CC Pg GE 50 [.agg (aZ e),.int .i64 most] (.int .i64 r) []
def qed:Code:=Tryz.f50.body.getD .skip
def qax:List Nat:=[107]
section
variable(most:Int)(e:bX)(n:Int)(i:Int)
def Pc:aA:=be 108 [(1,.int .i64 most),(2,.eptr (aZ e)),(5,.int .i64 n),(6,.int .i64 i)] [.dead] []
def wR(o:Bool):aA:=be 108 [(1,.int .i64 most),(2,.eptr (aZ e)),(5,.int .i64 n),(6,.int .i64 i),(28,.bool o)] [.dead] []
def vJ:Option Bool:=
 if(decide (i<(e.Params.length:Int)))=true then
  some (decide (n<=most))
 else
  some false
theorem Nc{x:Bool}(h:vJ most e n i=some x):
  aU Pg GE 0 (cA qed 476) (EX .normal (wR most e n i x)) (Pc most e n i):=by
 have p4:=fun{sc F} (r:PS sc F)=>sv (lD e)<|sv (lF e)<|cm (qbP.ln e.Params)<|r
 rcases bj h with⟨c3,h⟩|⟨c3,h⟩
 ·obtain rfl:=lf h
  exact cd qax (p4<|sg 6 c3<|eF .normal (wR most e n i (decide (n<=most)))) (by kernel_rfl)
 ·obtain rfl:=lf h
  exact cd qax (p4<|sg 6 c3<|eF .normal (wR most e n i false)) (by kernel_rfl)
end
section
variable(most:Int)(e:bX)(n:Int)(i:Int)
def mt:aA:=be 108 [(1,.int .i64 most),(2,.eptr (aZ e)),(5,.int .i64 n),(6,.int .i64 i)] [.dead] []
def wV(o:Int):aA:=be 108 [(1,.int .i64 most),(2,.eptr (aZ e)),(5,.int .i64 o)] [.dead] []
def jL:Option ((Int×Int)⊕(Int)):=
 (vJ most e n i).bind fun o5=>
 if o5=true then
  (cz e.Params i).bind fun x8=>
  (qu .i64 (x8.Name.length:Int) 100).bind fun q9=>
  (cz e.Params i).bind fun x10=>
  (fT ([x10.Type_]:List ae) most).bind fun r11=>
  some (.inl (aR ((aR ((aR (n+1))+q9))+r11),aR (i+1)))
 else
  some (.inr n)
def BE:Option Int:=loop (fun(zz:Int×Int)=>jL most e zz.1 zz.2) (n,i)
theorem K2{y:(Int×Int)⊕(Int)}(h:jL most e n i=some y):
  aU Pg GE 0 (cA qed 119) (LQ (fun(zz:Int×Int)=>mt most e zz.1 zz.2) (fun _=>.exit 0) (wV most e) y) (mt most e n i):=by
 obtain⟨o5,bo5,h⟩:=ay h
 have p7:=fun{sc F} (r:PS sc F)=>kr 1<|cW (Nc most e n i bo5)<|r
 rcases bj h with⟨c6,h⟩|⟨c6,h⟩
 ·obtain⟨x8,bx8,h⟩:=ay h
  obtain⟨q9,bq9,h⟩:=ay h
  obtain⟨x10,bx10,h⟩:=ay h
  obtain⟨r11,br11,h⟩:=ay h
  obtain rfl:=lf h
  exact n9 qax (p7<|sg 0 c6<|lY [0,1,0,4,0,28,60,124,252,508,1023,0,2048,0,14336,30720,63488,129024,0,522240,1048575,2097151]<|sv (lD e)<|sv (lF e)<|sv (qbP.ia (k:=.i64) bx8)<|sv (C0 x8)<|sv (Hh x8)<|cm (iz Tryz.underlying9 x8.Name)<|sv (Ax (P:=Pg) (t:=3) bq9)<|sv (lD e)<|sv (lF e)<|sv (qbP.ia (k:=.i64) bx10)<|sv (C1 x10)<|sv (E0 x10)<|sv (ck.mk' (v:=jC) eO ([x10.Type_]:List ae) 1 (by kernel_rfl))<|bz (gm br11)<|eF .normal (mt most e (aR ((aR ((aR (n+1))+q9))+r11)) (aR (i+1)))) (by kernel_rfl)
 ·obtain rfl:=lf h
  have z:=p7<|sg 0 c6<|eF (.exit 0) (wV most e n)
  exact f6 qax (by intro hx;cases hx) z (by kernel_rfl)
theorem Ng{x:Int}(h:BE most e n i=some x):
  aU Pg GE 0 (.loop (cA qed 119)) (EX (.exit 0) (wV most e x)) (mt most e n i):=
 aU.loop (S:=fun(zz:Int×Int)=>mt most e zz.1 zz.2) (ex:=(fun _=>.exit 0)) (s:=(n,i)) h fun zz y hy=>K2 most e zz.1 zz.2 hy
end
section
variable(most:Int)(e:bX)(n:Int)(i:Int)
def Pd:aA:=be 108 [(1,.int .i64 most),(2,.eptr (aZ e)),(5,.int .i64 n),(7,.int .i64 i)] [.dead] []
def wS(o:Bool):aA:=be 108 [(1,.int .i64 most),(2,.eptr (aZ e)),(5,.int .i64 n),(7,.int .i64 i),(61,.bool o)] [.dead] []
def vK:Option Bool:=
 if(decide (i<(e.Kids.length:Int)))=true then
  some (decide (n<=most))
 else
  some false
theorem Nd{x:Bool}(h:vK most e n i=some x):
  aU Pg GE 0 (cA qed 988) (EX .normal (wS most e n i x)) (Pd most e n i):=by
 have p14:=fun{sc F} (r:PS sc F)=>sv (tG e)<|sv (tJ e)<|cm (qfl.ln e.Kids)<|r
 rcases bj h with⟨c13,h⟩|⟨c13,h⟩
 ·obtain rfl:=lf h
  exact cd qax (p14<|sg 6 c13<|eF .normal (wS most e n i (decide (n<=most)))) (by kernel_rfl)
 ·obtain rfl:=lf h
  exact cd qax (p14<|sg 6 c13<|eF .normal (wS most e n i false)) (by kernel_rfl)
end
section
variable(R6:tY)(most:Int)(e:bX)(n:Int)(i:Int)
def mw:aA:=be 108 [(1,.int .i64 most),(2,.eptr (aZ e)),(5,.int .i64 n),(7,.int .i64 i)] [.dead] []
def wW(o:Int):aA:=be 108 [(1,.int .i64 most),(2,.eptr (aZ e)),(5,.int .i64 o)] [.dead] []
def jM:Option ((Int×Int)⊕(Int)):=
 (vK most e n i).bind fun o15=>
 if o15=true then
  (cz e.Kids i).bind fun x18=>
  (R6 x18 (aR (most - n))).bind fun r19=>
  some (.inl (aR (n+r19),aR (i+1)))
 else
  some (.inr n)
def BF:Option Int:=loop (fun(zz:Int×Int)=>jM R6 most e zz.1 zz.2) (n,i)
theorem K3(hR6:tR R6){y:(Int×Int)⊕(Int)}(h:jM R6 most e n i=some y):
  aU Pg GE 0 (cA qed 247) (LQ (fun(zz:Int×Int)=>mw most e zz.1 zz.2) (fun _=>.exit 2) (wW most e) y) (mw most e n i):=by
 obtain⟨o15,bo15,h⟩:=ay h
 have p17:=fun{sc F} (r:PS sc F)=>kr 1<|cW (Nd most e n i bo15)<|r
 rcases bj h with⟨c16,h⟩|⟨c16,h⟩
 ·obtain⟨x18,bx18,h⟩:=ay h
  obtain⟨r19,br19,h⟩:=ay h
  obtain rfl:=lf h
  exact n9 qax (p17<|sg 0 c16<|sv (tG e)<|sv (tJ e)<|sv (qfl.ia (k:=.i64) bx18)<|sv (Xf x18)<|bz (hR6 _ _ _ br19)<|eF .normal (mw most e (aR (n+r19)) (aR (i+1)))) (by kernel_rfl)
 ·obtain rfl:=lf h
  have z:=p17<|sg 0 c16<|eF (.exit 2) (wW most e n)
  exact f6 qax (by intro hx;cases hx) z (by kernel_rfl)
theorem Nh(hR6:tR R6){x:Int}(h:BF R6 most e n i=some x):
  aU Pg GE 0 (.loop (cA qed 247)) (EX (.exit 2) (wW most e x)) (mw most e n i):=
 aU.loop (S:=fun(zz:Int×Int)=>mw most e zz.1 zz.2) (ex:=(fun _=>.exit 2)) (s:=(n,i)) h fun zz y hy=>K3 R6 most e zz.1 zz.2 hR6 hy
end
section
variable(most:Int)(e:bX)(n:Int)(i:Int)
def Pe:aA:=be 108 [(1,.int .i64 most),(2,.eptr (aZ e)),(5,.int .i64 n),(8,.int .i64 i)] [.dead] []
def wU(o:Bool):aA:=be 108 [(1,.int .i64 most),(2,.eptr (aZ e)),(5,.int .i64 n),(8,.int .i64 i),(84,.bool o)] [.dead] []
def vM:Option Bool:=
 if(decide (i<(e.Alts.length:Int)))=true then
  some (decide (n<=most))
 else
  some false
theorem Nf{x:Bool}(h:vM most e n i=some x):
  aU Pg GE 0 (cA qed 2012) (EX .normal (wU most e n i x)) (Pe most e n i):=by
 have p22:=fun{sc F} (r:PS sc F)=>sv (ji e)<|sv (jk e)<|cm (Zh.ln e.Alts)<|r
 rcases bj h with⟨c21,h⟩|⟨c21,h⟩
 ·obtain rfl:=lf h
  exact cd qax (p22<|sg 6 c21<|eF .normal (wU most e n i (decide (n<=most)))) (by kernel_rfl)
 ·obtain rfl:=lf h
  exact cd qax (p22<|sg 6 c21<|eF .normal (wU most e n i false)) (by kernel_rfl)
end
section
variable(R6:tY)(most:Int)(e:bX)(n:Int)(i:Int)
def my:aA:=be 108 [(1,.int .i64 most),(2,.eptr (aZ e)),(5,.int .i64 n),(8,.int .i64 i)] [.dead] []
def wX(o:Int):aA:=be 108 [(5,.int .i64 o)] [.dead] []
def jN:Option ((Int×Int)⊕(Int)):=
 (vM most e n i).bind fun o23=>
 if o23=true then
  (cz e.Alts i).bind fun x26=>
  (cz e.Alts i).bind fun x27=>
  (R6 x27.Body (aR (most - n))).bind fun r28=>
  some (.inl (aR ((aR (n+(x26.Names.length:Int)))+r28),aR (i+1)))
 else
  some (.inr n)
def BG:Option Int:=loop (fun(zz:Int×Int)=>jN R6 most e zz.1 zz.2) (n,i)
theorem K4(hR6:tR R6){y:(Int×Int)⊕(Int)}(h:jN R6 most e n i=some y):
  aU Pg GE 0 (cA qed 503) (LQ (fun(zz:Int×Int)=>my most e zz.1 zz.2) (fun _=>.exit 4) wX y) (my most e n i):=by
 obtain⟨o23,bo23,h⟩:=ay h
 have p25:=fun{sc F} (r:PS sc F)=>kr 1<|cW (Nf most e n i bo23)<|r
 rcases bj h with⟨c24,h⟩|⟨c24,h⟩
 ·obtain⟨x26,bx26,h⟩:=ay h
  obtain⟨x27,bx27,h⟩:=ay h
  obtain⟨r28,br28,h⟩:=ay h
  obtain rfl:=lf h
  exact n9 qax (p25<|sg 0 c24<|lY [0,0,2,0,14,30,62,126,255,0,512,0,3584,7680,15872,0,0,98304,261632,524287,1048575]<|sv (ji e)<|sv (jk e)<|sv (Zh.ia (k:=.i64) bx26)<|sv (G9 x26)<|sv (JY x26)<|cm (bp.ln x26.Names)<|sv (ji e)<|sv (jk e)<|sv (Zh.ia (k:=.i64) bx27)<|sv (Ha x27)<|sv (JZ x27)<|bz (hR6 _ _ _ br28)<|eF .normal (my most e (aR ((aR (n+(x26.Names.length:Int)))+r28)) (aR (i+1)))) (by kernel_rfl)
 ·obtain rfl:=lf h
  have z:=p25<|sg 0 c24<|eF (.exit 4) (wX n)
  exact f6 qax (by intro hx;cases hx) z (by kernel_rfl)
theorem Ni(hR6:tR R6){x:Int}(h:BG R6 most e n i=some x):
  aU Pg GE 0 (.loop (cA qed 503)) (EX (.exit 4) (wX x)) (my most e n i):=
 aU.loop (S:=fun(zz:Int×Int)=>my most e zz.1 zz.2) (ex:=(fun _=>.exit 4)) (s:=(n,i)) h fun zz y hy=>K4 R6 most e zz.1 zz.2 hR6 hy
end
def yI(R6:tY)(e:bX)(most:Int):Option Int:=
 (qu .i64 (e.Name.length:Int) 100).bind fun q1=>
 (fT e.Types most).bind fun r2=>
 (BE most e (aR ((aR (1+q1))+r2)) 0).bind fun o12=>
 (BF R6 most e o12 0).bind fun o20=>
 (BG R6 most e o20 0).bind fun o29=>
 some o29
theorem RQ(R6:tY)(hR6:tR R6){e:bX}{most:Int}{r:Int}(h:yI R6 e most=some r):CC Pg GE 50 [.agg (aZ e),.int .i64 most] (.int .i64 r) []:=by
 obtain⟨q1,bq1,h⟩:=ay h
 obtain⟨r2,br2,h⟩:=ay h
 obtain⟨o12,bo12,h⟩:=ay h
 obtain⟨o20,bo20,h⟩:=ay h
 obtain⟨o29,bo29,h⟩:=ay h
 obtain rfl:=lf h
 have z:=se (Xs e)<|lY [0,1,3,7,15,0,32,0,224,511,1023]<|sv (Hd e)<|sv (J1 e)<|cm (iz Tryz.underlying9 e.Name)<|sv (Ax (P:=Pg) (t:=3) bq1)<|sv (He e)<|sv (Hg e)<|bz (gm br2)<|cW (Ng most e (aR ((aR (1+q1))+r2)) 0 bo12)<|cW (Nh R6 most e o12 0 hR6 bo20)<|cW (Ni R6 most e o20 0 hR6 bo29)<|en (aI (rP (.int .i64 o29))<|trivial)
 exact bN qax Tryz.call50 Tryz.func50 (c:=qed) rfl (aI (AD e) (aI trivial trivial)) z (by kernel_rfl)
def Ee:((bX×Int)->Option Int)->(bX×Int)->Option Int:=fun(rec:(bX×Int)->Option Int) (x:bX×Int)=>yI (fun e most=>rec (e,most)) x.1 x.2
def K1(e:bX)(most:Int):Option Int:=kJ Ee (e,most)
theorem Uw{e:bX}{most:Int}{r:Int}(h:K1 e most=some r):CC Pg GE 50 [.agg (aZ e),.int .i64 most] (.int .i64 r) []:=
 cy (F:=Ee) (M:=fun(x:bX×Int) (r:Int)=>CC Pg GE 50 [.agg (aZ x.1),.int .i64 x.2] (.int .i64 r) []) (fun rec hrec x r h=>RQ _ (fun e most r h=>hrec (e,most) r h) h) h
def qgz:Code:=Tryz.f27.body.getD .skip
def qel:List Nat:=[112]
section
variable(v:(List sd))(most:Int)(n:Int)(i:Int)
def HH:aA:=be 113 [(0,sl dG v),(1,.int .i64 most),(5,.int .i64 n),(6,.int .i64 i)] [] []
def pM(o:Bool):aA:=be 113 [(0,sl dG v),(1,.int .i64 most),(5,.int .i64 n),(6,.int .i64 i),(17,.bool o)] [] []
def nm:Option Bool:=
 if(decide (i<(v.length:Int)))=true then
  some (decide (n<=most))
 else
  some false
theorem Gs{x:Bool}(h:nm v most n i=some x):
  aU Pg GE 0 (cA qgz 476) (EX .normal (pM v most n i x)) (HH v most n i):=by
 rcases bj h with⟨c1,h⟩|⟨c1,h⟩
 ·obtain rfl:=lf h
  exact cd qel (cm (Zg.ln v)<|sg 5 c1<|eF .normal (pM v most n i (decide (n<=most)))) (by kernel_rfl)
 ·obtain rfl:=lf h
  exact cd qel (cm (Zg.ln v)<|sg 5 c1<|eF .normal (pM v most n i false)) (by kernel_rfl)
end
section
variable(v:(List sd))(most:Int)(n:Int)(i:Int)(k:Int)(m:waA)(m2:(List Fw))(m3:(List SL))(m4:(List ng))(m5:Int)(m6:ag)(m7:waC)(m8:waA)(m9:Int)(m10:ag)(m11:Int)(m12:waB)(m13:waB)(m14:waB)
def HI:aA:=be 113 [(0,sl dG v),(1,.int .i64 most),(5,.int .i64 n),(6,.int .i64 i),(7,.bptr 0 0),(8,.int .i64 k)] [.cells [sl cS m,sl iv m2,sl pR m3,sl db m4,.int .i64 m5,.str m6,sl af m7,sl cS m8,.int .i64 m9,.str m10,.int .i64 m11,sl ac m12,sl ac m13,sl ac m14] []] []
def pN(o:Bool):aA:=be 113 [(0,sl dG v),(1,.int .i64 most),(5,.int .i64 n),(6,.int .i64 i),(7,.bptr 0 0),(8,.int .i64 k),(74,.bool o)] [.cells [sl cS m,sl iv m2,sl pR m3,sl db m4,.int .i64 m5,.str m6,sl af m7,sl cS m8,.int .i64 m9,.str m10,.int .i64 m11,sl ac m12,sl ac m13,sl ac m14] []] []
def nn:Option Bool:=
 if(decide (k<(m4.length:Int)))=true then
  some (decide (n<=most))
 else
  some false
theorem Gt{x:Bool}(h:nn most n k m4=some x):
  aU Pg GE 0 (cA qgz 245212) (EX .normal (pN v most n i k m m2 m3 m4 m5 m6 m7 m8 m9 m10 m11 m12 m13 m14 x)) (HI v most n i k m m2 m3 m4 m5 m6 m7 m8 m9 m10 m11 m12 m13 m14):=by
 have p12:=fun{sc F} (r:PS sc F)=>ss<|cm (qah.ln m4)<|r
 rcases bj h with⟨c11,h⟩|⟨c11,h⟩
 ·obtain rfl:=lf h
  exact cd qel (p12<|sg 6 c11<|eF .normal (pN v most n i k m m2 m3 m4 m5 m6 m7 m8 m9 m10 m11 m12 m13 m14 (decide (n<=most)))) (by kernel_rfl)
 ·obtain rfl:=lf h
  exact cd qel (p12<|sg 6 c11<|eF .normal (pN v most n i k m m2 m3 m4 m5 m6 m7 m8 m9 m10 m11 m12 m13 m14 false)) (by kernel_rfl)
end
section
variable(v:(List sd))(most:Int)(i:Int)(m:waA)(m2:(List Fw))(m3:(List SL))(m4:(List ng))(m5:Int)(m6:ag)(m7:waC)(m8:waA)(m9:Int)(m10:ag)(m11:Int)(m12:waB)(m13:waB)(m14:waB)(n:Int)(k:Int)
def ie:aA:=be 113 [(0,sl dG v),(1,.int .i64 most),(5,.int .i64 n),(6,.int .i64 i),(7,.bptr 0 0),(8,.int .i64 k)] [.cells [sl cS m,sl iv m2,sl pR m3,sl db m4,.int .i64 m5,.str m6,sl af m7,sl cS m8,.int .i64 m9,.str m10,.int .i64 m11,sl ac m12,sl ac m13,sl ac m14] []] []
def pP(o:Int):aA:=be 113 [(0,sl dG v),(1,.int .i64 most),(5,.int .i64 o),(6,.int .i64 i)] [.cells [sl cS m,sl iv m2,sl pR m3,sl db m4,.int .i64 m5,.str m6,sl af m7,sl cS m8,.int .i64 m9,.str m10,.int .i64 m11,sl ac m12,sl ac m13,sl ac m14] []] []
def fG:Option ((Int×Int)⊕(Int)):=
 (nn most n k m4).bind fun o13=>
 if o13=true then
  (cz m4 k).bind fun x16=>
  (cz m4 k).bind fun x17=>
  (cz m4 k).bind fun x18=>
  (eV ([x17.Hyp,x18.Goal]:List aa) most).bind fun r19=>
  some (.inl (aR ((aR ((aR (n+1))+(x16.Vars.length:Int)))+r19),aR (k+1)))
 else
  some (.inr n)
def sG:Option Int:=loop (fun(zz:Int×Int)=>fG most m4 zz.1 zz.2) (n,k)
theorem Eg{y:(Int×Int)⊕(Int)}(h:fG most m4 n k=some y):
  aU Pg GE 0 (cA qgz 61303) (LQ (fun(zz:Int×Int)=>ie v most i m m2 m3 m4 m5 m6 m7 m8 m9 m10 m11 m12 m13 m14 zz.1 zz.2) (fun _=>.exit 2) (pP v most i m m2 m3 m4 m5 m6 m7 m8 m9 m10 m11 m12 m13 m14) y) (ie v most i m m2 m3 m4 m5 m6 m7 m8 m9 m10 m11 m12 m13 m14 n k):=by
 obtain⟨o13,bo13,h⟩:=ay h
 have p15:=fun{sc F} (r:PS sc F)=>kr 1<|cW (Gt v most n i k m m2 m3 m4 m5 m6 m7 m8 m9 m10 m11 m12 m13 m14 bo13)<|r
 rcases bj h with⟨c14,h⟩|⟨c14,h⟩
 ·obtain⟨x16,bx16,h⟩:=ay h
  obtain⟨x17,bx17,h⟩:=ay h
  obtain⟨x18,bx18,h⟩:=ay h
  obtain⟨r19,br19,h⟩:=ay h
  obtain rfl:=lf h
  exact n9 qel (p15<|sg 0 c14<|lY [0,1,0,4,0,28,60,124,252,511,0,1024,0,7168,15360,31744,0,65536,0,458752,983040,2031616,4193280,0,16776192,33554431,67108863]<|ss<|sv (qah.ia (k:=.i64) bx16)<|sv (NM x16)<|sv (Qq x16)<|cm (IG.ln x16.Vars)<|ss<|sv (qah.ia (k:=.i64) bx17)<|sv (NN x17)<|sv (Qr x17)<|ss<|sv (qah.ia (k:=.i64) bx18)<|sv (NO x18)<|sv (Qs x18)<|sv (bL.mk' (v:=dW) cK ([x17.Hyp,x18.Goal]:List aa) 2 (by kernel_rfl))<|bz (eW br19)<|eF .normal (ie v most i m m2 m3 m4 m5 m6 m7 m8 m9 m10 m11 m12 m13 m14 (aR ((aR ((aR (n+1))+(x16.Vars.length:Int)))+r19)) (aR (k+1)))) (by kernel_rfl)
 ·obtain rfl:=lf h
  have z:=p15<|sg 0 c14<|eF (.exit 2) (pP v most i m m2 m3 m4 m5 m6 m7 m8 m9 m10 m11 m12 m13 m14 n)
  exact f6 qel (by intro hx;cases hx) z (by kernel_rfl)
theorem Gv{x:Int}(h:sG most m4 n k=some x):
  aU Pg GE 0 (.loop (cA qgz 61303)) (EX (.exit 2) (pP v most i m m2 m3 m4 m5 m6 m7 m8 m9 m10 m11 m12 m13 m14 x)) (ie v most i m m2 m3 m4 m5 m6 m7 m8 m9 m10 m11 m12 m13 m14 n k):=
 aU.loop (S:=fun(zz:Int×Int)=>ie v most i m m2 m3 m4 m5 m6 m7 m8 m9 m10 m11 m12 m13 m14 zz.1 zz.2) (ex:=(fun _=>.exit 2)) (s:=(n,k)) h fun zz y hy=>Eg v most i m m2 m3 m4 m5 m6 m7 m8 m9 m10 m11 m12 m13 m14 zz.1 zz.2 hy
end
section
variable(v:(List sd))(most:Int)(n:Int)(i:Int)
def ic:aA:=be 113 [(0,sl dG v),(1,.int .i64 most),(5,.int .i64 n),(6,.int .i64 i)] [] []
def pO(o:Int):aA:=be 113 [(5,.int .i64 o)] [] []
def fF:Option ((Int×Int)⊕(Int)):=
 (nm v most n i).bind fun o2=>
 if o2=true then
  (cz v i).bind fun x5=>
  (cz v i).bind fun x6=>
  (qu .i64 (x6.Name.length:Int) 100).bind fun q7=>
  (cz v i).bind fun x8=>
  (fT ([x5.Sig.Type_]:List ae) most).bind fun r9=>
  (eV x5.Sig.Metric most).bind fun r10=>
  (sG most x5.Sig.Bounds (aR ((aR ((aR ((aR ((aR ((aR ((aR ((aR (n+1))+q7))+(x8.Params.length:Int)))+(x5.Sig.Vars.length:Int)))+(x5.Sig.Needs.length:Int)))+(x5.Sig.Abs.length:Int)))+r9))+r10)) 0).bind fun o20=>
  (cz v i).bind fun x21=>
  (K1 x21.Body most).bind fun r22=>
  some (.inl (aR (o20+r22),aR (i+1)))
 else
  some (.inr n)
def sF:Option Int:=loop (fun(zz:Int×Int)=>fF v most zz.1 zz.2) (n,i)
theorem Ef{y:(Int×Int)⊕(Int)}(h:fF v most n i=some y):
  aU Pg GE 0 (cA qgz 119) (LQ (fun(zz:Int×Int)=>ic v most zz.1 zz.2) (fun _=>.exit 0) pO y) (ic v most n i):=by
 obtain⟨o2,bo2,h⟩:=ay h
 have p4:=fun{sc F} (r:PS sc F)=>kr 1<|cW (Gs v most n i bo2)<|r
 rcases bj h with⟨c3,h⟩|⟨c3,h⟩
 ·obtain⟨x5,bx5,h⟩:=ay h
  obtain⟨x6,bx6,h⟩:=ay h
  obtain⟨q7,bq7,h⟩:=ay h
  obtain⟨x8,bx8,h⟩:=ay h
  obtain⟨r9,br9,h⟩:=ay h
  obtain⟨r10,br10,h⟩:=ay h
  obtain⟨o20,bo20,h⟩:=ay h
  obtain⟨x21,bx21,h⟩:=ay h
  obtain⟨r22,br22,h⟩:=ay h
  obtain rfl:=lf h
  have z:=p4<|sg 0 c3<|sv (Zg.ia (k:=.i64) bx5)<|sv (Sn x5)<|sv (Qu x5)<|sx qiJ<|sx (qdr x5.Sig)<|lY [0,1,0,0,12,28,60,124,252,511,0,0,3072,7168,15360,31744,65535,0,131072,393216,1048575,0,2097152,6291456,16777215,0,33554432,100663296,268435455,0,536870912,1610612736,0,8053063680,17179869183,0,34359738368,0,257161166848,549755813887,1099511627775]<|sv (Zg.ia (k:=.i64) bx6)<|sv (Sk x6)<|sv (Xc x6)<|cm (iz Tryz.underlying9 x6.Name)<|sv (Ax (P:=Pg) (t:=3) bq7)<|sv (Zg.ia (k:=.i64) bx8)<|sv (Sl x8)<|sv (Vm x8)<|cm (bp.ln x8.Params)<|ss<|cm (bp.ln x5.Sig.Vars)<|ss<|cm (qiQ.ln x5.Sig.Needs)<|ss<|cm (qiN.ln x5.Sig.Abs)<|sv (cU x5.Sig.Type_ [sl ac x5.Sig.Metric])<|sv (ck.mk' (v:=jC) eO ([x5.Sig.Type_]:List ae) 1 (by kernel_rfl))<|bz (gm br9)<|ss<|bz (eW br10)<|cW (Gv v most i x5.Sig.Vars x5.Sig.Needs x5.Sig.Abs x5.Sig.Bounds x5.Sig.Type_.Op x5.Sig.Type_.Name x5.Sig.Type_.Args x5.Sig.Type_.Names x5.Sig.Type_.Pred.Op x5.Sig.Type_.Pred.Name x5.Sig.Type_.Pred.N x5.Sig.Type_.Pred.Kids x5.Sig.Type_.Preds x5.Sig.Metric (aR ((aR ((aR ((aR ((aR ((aR ((aR ((aR (n+1))+q7))+(x8.Params.length:Int)))+(x5.Sig.Vars.length:Int)))+(x5.Sig.Needs.length:Int)))+(x5.Sig.Abs.length:Int)))+r9))+r10)) 0 bo20)<|sv (Zg.ia (k:=.i64) bx21)<|sv (Sm x21)<|sv (Vn x21)<|bz (Uw br22)<|uz 0 .normal (ic v most (aR (o20+r22)) (aR (i+1))) rfl (dC (aI (up (aj F2 v)) (aI trivial (aI trivial (aI trivial trivial))))) trivial
  exact df (A:=qel) mixed z (by kernel_rfl)
 ·obtain rfl:=lf h
  have z:=p4<|sg 0 c3<|eF (.exit 0) (pO n)
  exact f6 qel (by intro hx;cases hx) z (by kernel_rfl)
theorem Gu{x:Int}(h:sF v most n i=some x):
  aU Pg GE 0 (.loop (cA qgz 119)) (EX (.exit 0) (pO x)) (ic v most n i):=
 aU.loop (S:=fun(zz:Int×Int)=>ic v most zz.1 zz.2) (ex:=(fun _=>.exit 0)) (s:=(n,i)) h fun zz y hy=>Ef v most zz.1 zz.2 hy
end
def oM(a:(List sd))(most:Int):Option Int:=
 (sF a most 0 0).bind fun o23=>
 some o23
theorem Ap{a:(List sd)}{most:Int}{r:Int}(h:oM a most=some r):CC Pg GE 27 [sl dG a,.int .i64 most] (.int .i64 r) []:=by
 obtain⟨o23,bo23,h⟩:=ay h
 obtain rfl:=lf h
 have z:=cW (Gu a most 0 0 bo23)<|en (aI (rP (.int .i64 o23))<|trivial)
 exact bN qel Tryz.call27 Tryz.func27 (c:=qgz) rfl (aI (aj F2 a) (aI trivial trivial)) z (by kernel_rfl)
end Go.Proofs.YtbaamopmfmpfaaaGreatDoor
