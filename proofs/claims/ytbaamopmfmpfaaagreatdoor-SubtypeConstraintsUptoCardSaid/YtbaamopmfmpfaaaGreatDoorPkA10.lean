/- PROVED: a part of the proof. Conditions: none. -/
import Derived.Test.YtbaamopmfmpfaaaGreatDoorPkA9
noncomputable section
namespace Go.Proofs.YtbaamopmfmpfaaaGreatDoor
open Go Go.Proofs.Tryz
set_option linter.unusedVariables false
set_option maxRecDepth 100000
abbrev nv:=(waC->Int->Option Int)
abbrev sq(R:nv):Prop:=∀(a:waC) (most:Int) (r:Int),R a most=some r->CC Pg GE 28 [sl af a,.int .i64 most] (.int .i64 r) []
abbrev nu:=(waB->Int->Option Int)
abbrev sn(R:nu):Prop:=∀(a:waB) (most:Int) (r:Int),R a most=some r->CC Pg GE 29 [sl ac a,.int .i64 most] (.int .i64 r) []
noncomputable def qjb:Code:=f29.body.getD .skip
def qhH:List Nat:=[39]
section
variable(v:waB)(most:Int)(n:Int)(i:Int)
def Gw:aA:=be 40 [(0,sl ac v),(1,.int .i64 most),(5,.int .i64 n),(6,.int .i64 i)] [] []
def nN(o:Bool):aA:=be 40 [(0,sl ac v),(1,.int .i64 most),(5,.int .i64 n),(6,.int .i64 i),(15,.bool o)] [] []
def lP:Option Bool:=
 if(decide (i<(v.length:Int)))=true then
  some (decide (n<=most))
 else
  some false
theorem Eh{x:Bool}(h:lP v most n i=some x):aU Pg GE 0 (cA qjb 476) (EX .normal (nN v most n i x)) (Gw v most n i):=by
 rcases bj h with⟨c1,h⟩|⟨c1,h⟩
 ·obtain rfl:=lf h
  exact cd qhH (cm (bL.ln v)<|sg 5 c1<|eF .normal (nN v most n i (decide (n<=most))))<|by kernel_rfl
 ·obtain rfl:=lf h
  exact cd qhH (cm (bL.ln v)<|sg 5 c1<|eF .normal (nN v most n i false))<|by kernel_rfl
end
section
variable(R5:nu)(v:waB)(most:Int)(n:Int)(i:Int)
def gJ:aA:=be 40 [(0,sl ac v),(1,.int .i64 most),(5,.int .i64 n),(6,.int .i64 i)] [] []
def nO(o:Int):aA:=be 40 [(5,.int .i64 o)] [] []
def fi:Option ((Int×Int)⊕(Int)):=
 (lP v most n i).bind fun o2=>
 if o2=true then
  (cz v i).bind fun x5=>
  (qu .i64 (x5.Name.length:Int) 100).bind fun q6=>
  (cz v i).bind fun x7=>
  (R5 x7.Kids (aR (most - (aR ((aR (n+1))+q6))))).bind fun r8=>
  some (.inl (aR ((aR ((aR (n+1))+q6))+r8),aR (i+1)))
 else
  some (.inr n)
def qP:Option Int:=loop (fun(zz:Int×Int)=>fi R5 v most zz.1 zz.2) (n,i)
theorem C8(hR5:sn R5){y:(Int×Int)⊕(Int)}(h:fi R5 v most n i=some y):aU Pg GE 0 (cA qjb 119) (LQ (fun(zz:Int×Int)=>gJ v most zz.1 zz.2) (fun _=>.exit 0) nO y) (gJ v most n i):=by
 obtain⟨o2,bo2,h⟩:=ay h
 have p4:=fun{sc F} (r:PS sc F)=>kr 1<|cW (Eh v most n i bo2)<|r
 rcases bj h with⟨c3,h⟩|⟨c3,h⟩
 ·obtain⟨x5,bx5,h⟩:=ay h
  obtain⟨q6,bq6,h⟩:=ay h
  obtain⟨x7,bx7,h⟩:=ay h
  obtain⟨r8,br8,h⟩:=ay h
  obtain rfl:=lf h
  exact n9 qhH (p4<|sg 0 c3<|sv (bL.ia (k:=.i64) bx5)<|sv (cp x5)<|sv (cO x5)<|cm (iz underlying9 x5.Name)<|sv (Ax (P:=Pg) (t:=3) bq6)<|sv (bL.ia (k:=.i64) bx7)<|sv (bA x7)<|sv (bC x7)<|bz (hR5 _ _ _ br8)<|eF .normal (gJ v most (aR ((aR ((aR (n+1))+q6))+r8)) (aR (i+1))))<|by kernel_rfl
 ·obtain rfl:=lf h
  have z:=p4<|sg 0 c3<|eF (.exit 0) (nO n)
  exact f6 qhH (by intro hx;cases hx) z<|by kernel_rfl
theorem Ei(hR5:sn R5){x:Int}(h:qP R5 v most n i=some x):aU Pg GE 0 (.loop (cA qjb 119)) (EX (.exit 0) (nO x)) (gJ v most n i):=
 aU.loop (S:=fun(zz:Int×Int)=>gJ v most zz.1 zz.2) (ex:=(fun _=>.exit 0)) (s:=(n,i)) h fun zz y hy=>C8 R5 v most zz.1 zz.2 hR5 hy
end
def np(R5:nu)(a:waB)(most:Int):Option Int:=
 (qP R5 a most 0 0).bind fun o9=>
 some o9
theorem HJ(R5:nu)(hR5:sn R5){a:waB}{most:Int}{r:Int}(h:np R5 a most=some r):CC Pg GE 29 [sl ac a,.int .i64 most] (.int .i64 r) []:=by
 obtain⟨o9,bo9,h⟩:=ay h
 obtain rfl:=lf h
 have z:=cW (Ei R5 a most 0 0 hR5 bo9)<|en (aI (rP (.int .i64 o9))<|trivial)
 exact bN qhH call29 func29 (c:=qjb) rfl (aI (aj ah a) (aI trivial trivial)) z<|by kernel_rfl
def sH:((waB×Int)->Option Int)->(waB×Int)->Option Int:=fun(rec:(waB×Int)->Option Int) (x:waB×Int)=>np (fun a most=>rec (a,most)) x.1 x.2
def eV(a:waB)(most:Int):Option Int:=kJ sH (a,most)
theorem eW{a:waB}{most:Int}{r:Int}(h:eV a most=some r):CC Pg GE 29 [sl ac a,.int .i64 most] (.int .i64 r) []:=
 cy (F:=sH) (M:=fun(x:waB×Int) (r:Int)=>CC Pg GE 29 [sl ac x.1,.int .i64 x.2] (.int .i64 r) []) (fun rec hrec x r h=>HJ _ (fun a most r h=>hrec (a,most) r h) h) h
noncomputable def qja:Code:=f28.body.getD .skip
def qhG:List Nat:=[63]
section
variable(v:waC)(most:Int)(n:Int)(i:Int)
def Gx:aA:=be 64 [(0,sl af v),(1,.int .i64 most),(5,.int .i64 n),(6,.int .i64 i)] [] []
def nQ(o:Bool):aA:=be 64 [(0,sl af v),(1,.int .i64 most),(5,.int .i64 n),(6,.int .i64 i),(15,.bool o)] [] []
def lQ:Option Bool:=
 if(decide (i<(v.length:Int)))=true then
  some (decide (n<=most))
 else
  some false
theorem Ej{x:Bool}(h:lQ v most n i=some x):aU Pg GE 0 (cA qja 476) (EX .normal (nQ v most n i x)) (Gx v most n i):=by
 rcases bj h with⟨c1,h⟩|⟨c1,h⟩
 ·obtain rfl:=lf h
  exact cd qhG (cm (ck.ln v)<|sg 5 c1<|eF .normal (nQ v most n i (decide (n<=most))))<|by kernel_rfl
 ·obtain rfl:=lf h
  exact cd qhG (cm (ck.ln v)<|sg 5 c1<|eF .normal (nQ v most n i false))<|by kernel_rfl
end
section
variable(R4:nv)(v:waC)(most:Int)(n:Int)(i:Int)
def gK:aA:=be 64 [(0,sl af v),(1,.int .i64 most),(5,.int .i64 n),(6,.int .i64 i)] [] []
def nR(o:Int):aA:=be 64 [(5,.int .i64 o)] [] []
def fj:Option ((Int×Int)⊕(Int)):=
 (lQ v most n i).bind fun o2=>
 if o2=true then
  (cz v i).bind fun x5=>
  (qu .i64 (x5.Name.length:Int) 100).bind fun q6=>
  (cz v i).bind fun x7=>
  (cz v i).bind fun x8=>
  (eV x8.Preds most).bind fun r9=>
  (cz v i).bind fun x10=>
  (eV ([x10.Pred]:List aa) most).bind fun r11=>
  (cz v i).bind fun x12=>
  (R4 x12.Args (aR (most - (aR ((aR ((aR ((aR ((aR (n+1))+q6))+(x7.Names.length:Int)))+r9))+r11))))).bind fun r13=>
  some (.inl (aR ((aR ((aR ((aR ((aR ((aR (n+1))+q6))+(x7.Names.length:Int)))+r9))+r11))+r13),aR (i+1)))
 else
  some (.inr n)
def qQ:Option Int:=loop (fun(zz:Int×Int)=>fj R4 v most zz.1 zz.2) (n,i)
theorem C9(hR4:sq R4){y:(Int×Int)⊕(Int)}(h:fj R4 v most n i=some y):aU Pg GE 0 (cA qja 119) (LQ (fun(zz:Int×Int)=>gK v most zz.1 zz.2) (fun _=>.exit 0) nR y) (gK v most n i):=by
 obtain⟨o2,bo2,h⟩:=ay h
 have p4:=fun{sc F} (r:PS sc F)=>kr 1<|cW (Ej v most n i bo2)<|r
 rcases bj h with⟨c3,h⟩|⟨c3,h⟩
 ·obtain⟨x5,bx5,h⟩:=ay h
  obtain⟨q6,bq6,h⟩:=ay h
  obtain⟨x7,bx7,h⟩:=ay h
  obtain⟨x8,bx8,h⟩:=ay h
  obtain⟨r9,br9,h⟩:=ay h
  obtain⟨x10,bx10,h⟩:=ay h
  obtain⟨r11,br11,h⟩:=ay h
  obtain⟨x12,bx12,h⟩:=ay h
  obtain⟨r13,br13,h⟩:=ay h
  obtain rfl:=lf h
  exact n9 qhG (p4<|sg 0 c3<|lY [0,1,0,0,12,28,60,124,252,511,0,0,3072,7168,15360,31744,65535,0,0,393216,917504,1966080,0,8257536,16777215,0,0,100663296,234881024,503316480,1040187392,0,4278059008,8589934591,17179869183]<|sv (ck.ia (k:=.i64) bx5)<|sv (cq x5)<|sv (cP x5)<|cm (iz underlying9 x5.Name)<|sv (Ax (P:=Pg) (t:=3) bq6)<|sv (ck.ia (k:=.i64) bx7)<|sv (aO x7)<|sv (aP x7)<|cm (bp.ln x7.Names)<|sv (ck.ia (k:=.i64) bx8)<|sv (dq x8)<|sv (dt x8)<|bz (eW br9)<|sv (ck.ia (k:=.i64) bx10)<|sv (dE x10)<|sv (dF x10)<|sv (bL.mk' (v:=dW) cK ([x10.Pred]:List aa) 1 (by kernel_rfl))<|bz (eW br11)<|sv (ck.ia (k:=.i64) bx12)<|sv (aK x12)<|sv (aL x12)<|bz (hR4 _ _ _ br13)<|eF .normal (gK v most (aR ((aR ((aR ((aR ((aR ((aR (n+1))+q6))+(x7.Names.length:Int)))+r9))+r11))+r13)) (aR (i+1))))<|by kernel_rfl
 ·obtain rfl:=lf h
  have z:=p4<|sg 0 c3<|eF (.exit 0) (nR n)
  exact f6 qhG (by intro hx;cases hx) z<|by kernel_rfl
theorem Ek(hR4:sq R4){x:Int}(h:qQ R4 v most n i=some x):aU Pg GE 0 (.loop (cA qja 119)) (EX (.exit 0) (nR x)) (gK v most n i):=
 aU.loop (S:=fun(zz:Int×Int)=>gK v most zz.1 zz.2) (ex:=(fun _=>.exit 0)) (s:=(n,i)) h fun zz y hy=>C9 R4 v most zz.1 zz.2 hR4 hy
end
def nq(R4:nv)(a:waC)(most:Int):Option Int:=
 (qQ R4 a most 0 0).bind fun o14=>
 some o14
theorem HK(R4:nv)(hR4:sq R4){a:waC}{most:Int}{r:Int}(h:nq R4 a most=some r):CC Pg GE 28 [sl af a,.int .i64 most] (.int .i64 r) []:=by
 obtain⟨o14,bo14,h⟩:=ay h
 obtain rfl:=lf h
 have z:=cW (Ek R4 a most 0 0 hR4 bo14)<|en (aI (rP (.int .i64 o14))<|trivial)
 exact bN qhG call28 func28 (c:=qja) rfl (aI (aj ak a) (aI trivial trivial)) z<|by kernel_rfl
def sI:((waC×Int)->Option Int)->(waC×Int)->Option Int:=fun(rec:(waC×Int)->Option Int) (x:waC×Int)=>nq (fun a most=>rec (a,most)) x.1 x.2
def fT(a:waC)(most:Int):Option Int:=kJ sI (a,most)
theorem gm{a:waC}{most:Int}{r:Int}(h:fT a most=some r):CC Pg GE 28 [sl af a,.int .i64 most] (.int .i64 r) []:=
 cy (F:=sI) (M:=fun(x:waC×Int) (r:Int)=>CC Pg GE 28 [sl af x.1,.int .i64 x.2] (.int .i64 r) []) (fun rec hrec x r h=>HK _ (fun a most r h=>hrec (a,most) r h) h) h
abbrev tY:=(bX->Int->Option Int)
abbrev tR(R:tY):Prop:=∀(e:bX) (most:Int) (r:Int),R e most=some r->CC Pg GE 50 [.agg (aZ e),.int .i64 most] (.int .i64 r) []
noncomputable def qed:Code:=f50.body.getD .skip
def qax:List Nat:=[107]
section
variable(most:Int)(e:bX)(n:Int)(i:Int)
def Pc:aA:=be 108 [(1,.int .i64 most),(2,.eptr (aZ e)),(5,.int .i64 n),(6,.int .i64 i)] [.dead] []
def wR(o:Bool):aA:=be 108 [(1,.int .i64 most),(2,.eptr (aZ e)),(5,.int .i64 n),(6,.int .i64 i),(28,.bool o)] [.dead] []
def vJ:Option Bool:=
 if(decide (i<(e.Params.length:Int)))=true then
  some (decide (n<=most))
 else
  some false
theorem Nc{x:Bool}(h:vJ most e n i=some x):aU Pg GE 0 (cA qed 476) (EX .normal (wR most e n i x)) (Pc most e n i):=by
 have p4:=fun{sc F} (r:PS sc F)=>sv (lD e)<|sv (lF e)<|cm (qbP.ln e.Params)<|r
 rcases bj h with⟨c3,h⟩|⟨c3,h⟩
 ·obtain rfl:=lf h
  exact cd qax (p4<|sg 6 c3<|eF .normal (wR most e n i (decide (n<=most))))<|by kernel_rfl
 ·obtain rfl:=lf h
  exact cd qax (p4<|sg 6 c3<|eF .normal (wR most e n i false))<|by kernel_rfl
end
section
variable(most:Int)(e:bX)(n:Int)(i:Int)
def mt:aA:=be 108 [(1,.int .i64 most),(2,.eptr (aZ e)),(5,.int .i64 n),(6,.int .i64 i)] [.dead] []
def wV(o:Int):aA:=be 108 [(1,.int .i64 most),(2,.eptr (aZ e)),(5,.int .i64 o)] [.dead] []
def jL:Option ((Int×Int)⊕(Int)):=
 (vJ most e n i).bind fun o5=>
 if o5=true then
  (cz e.Params i).bind fun x8=>
  (qu .i64 (x8.Name.length:Int) 100).bind fun q9=>
  (cz e.Params i).bind fun x10=>
  (fT ([x10.Type_]:List ae) most).bind fun r11=>
  some (.inl (aR ((aR ((aR (n+1))+q9))+r11),aR (i+1)))
 else
  some (.inr n)
def BE:Option Int:=loop (fun(zz:Int×Int)=>jL most e zz.1 zz.2) (n,i)
theorem K2{y:(Int×Int)⊕(Int)}(h:jL most e n i=some y):aU Pg GE 0 (cA qed 119) (LQ (fun(zz:Int×Int)=>mt most e zz.1 zz.2) (fun _=>.exit 0) (wV most e) y) (mt most e n i):=by
 obtain⟨o5,bo5,h⟩:=ay h
 have p7:=fun{sc F} (r:PS sc F)=>kr 1<|cW (Nc most e n i bo5)<|r
 rcases bj h with⟨c6,h⟩|⟨c6,h⟩
 ·obtain⟨x8,bx8,h⟩:=ay h
  obtain⟨q9,bq9,h⟩:=ay h
  obtain⟨x10,bx10,h⟩:=ay h
  obtain⟨r11,br11,h⟩:=ay h
  obtain rfl:=lf h
  exact n9 qax (p7<|sg 0 c6<|lY [0,1,0,4,0,28,60,124,252,508,1023,0,2048,0,14336,30720,63488,129024,0,522240,1048575,2097151]<|sv (lD e)<|sv (lF e)<|sv (qbP.ia (k:=.i64) bx8)<|sv (C0 x8)<|sv (Hh x8)<|cm (iz underlying9 x8.Name)<|sv (Ax (P:=Pg) (t:=3) bq9)<|sv (lD e)<|sv (lF e)<|sv (qbP.ia (k:=.i64) bx10)<|sv (C1 x10)<|sv (E0 x10)<|sv (ck.mk' (v:=jC) eO ([x10.Type_]:List ae) 1 (by kernel_rfl))<|bz (gm br11)<|eF .normal (mt most e (aR ((aR ((aR (n+1))+q9))+r11)) (aR (i+1))))<|by kernel_rfl
 ·obtain rfl:=lf h
  have z:=p7<|sg 0 c6<|eF (.exit 0) (wV most e n)
  exact f6 qax (by intro hx;cases hx) z<|by kernel_rfl
theorem Ng{x:Int}(h:BE most e n i=some x):aU Pg GE 0 (.loop (cA qed 119)) (EX (.exit 0) (wV most e x)) (mt most e n i):=
 aU.loop (S:=fun(zz:Int×Int)=>mt most e zz.1 zz.2) (ex:=(fun _=>.exit 0)) (s:=(n,i)) h fun zz y hy=>K2 most e zz.1 zz.2 hy
end
section
variable(most:Int)(e:bX)(n:Int)(i:Int)
def Pd:aA:=be 108 [(1,.int .i64 most),(2,.eptr (aZ e)),(5,.int .i64 n),(7,.int .i64 i)] [.dead] []
def wS(o:Bool):aA:=be 108 [(1,.int .i64 most),(2,.eptr (aZ e)),(5,.int .i64 n),(7,.int .i64 i),(61,.bool o)] [.dead] []
def vK:Option Bool:=
 if(decide (i<(e.Kids.length:Int)))=true then
  some (decide (n<=most))
 else
  some false
theorem Nd{x:Bool}(h:vK most e n i=some x):aU Pg GE 0 (cA qed 988) (EX .normal (wS most e n i x)) (Pd most e n i):=by
 have p14:=fun{sc F} (r:PS sc F)=>sv (tG e)<|sv (tJ e)<|cm (qfl.ln e.Kids)<|r
 rcases bj h with⟨c13,h⟩|⟨c13,h⟩
 ·obtain rfl:=lf h
  exact cd qax (p14<|sg 6 c13<|eF .normal (wS most e n i (decide (n<=most))))<|by kernel_rfl
 ·obtain rfl:=lf h
  exact cd qax (p14<|sg 6 c13<|eF .normal (wS most e n i false))<|by kernel_rfl
end
section
variable(R6:tY)(most:Int)(e:bX)(n:Int)(i:Int)
def mw:aA:=be 108 [(1,.int .i64 most),(2,.eptr (aZ e)),(5,.int .i64 n),(7,.int .i64 i)] [.dead] []
def wW(o:Int):aA:=be 108 [(1,.int .i64 most),(2,.eptr (aZ e)),(5,.int .i64 o)] [.dead] []
def jM:Option ((Int×Int)⊕(Int)):=
 (vK most e n i).bind fun o15=>
 if o15=true then
  (cz e.Kids i).bind fun x18=>
  (R6 x18 (aR (most - n))).bind fun r19=>
  some (.inl (aR (n+r19),aR (i+1)))
 else
  some (.inr n)
def BF:Option Int:=loop (fun(zz:Int×Int)=>jM R6 most e zz.1 zz.2) (n,i)
theorem K3(hR6:tR R6){y:(Int×Int)⊕(Int)}(h:jM R6 most e n i=some y):aU Pg GE 0 (cA qed 247) (LQ (fun(zz:Int×Int)=>mw most e zz.1 zz.2) (fun _=>.exit 2) (wW most e) y) (mw most e n i):=by
 obtain⟨o15,bo15,h⟩:=ay h
 have p17:=fun{sc F} (r:PS sc F)=>kr 1<|cW (Nd most e n i bo15)<|r
 rcases bj h with⟨c16,h⟩|⟨c16,h⟩
 ·obtain⟨x18,bx18,h⟩:=ay h
  obtain⟨r19,br19,h⟩:=ay h
  obtain rfl:=lf h
  exact n9 qax (p17<|sg 0 c16<|sv (tG e)<|sv (tJ e)<|sv (qfl.ia (k:=.i64) bx18)<|sv (Xf x18)<|bz (hR6 _ _ _ br19)<|eF .normal (mw most e (aR (n+r19)) (aR (i+1))))<|by kernel_rfl
 ·obtain rfl:=lf h
  have z:=p17<|sg 0 c16<|eF (.exit 2) (wW most e n)
  exact f6 qax (by intro hx;cases hx) z<|by kernel_rfl
theorem Nh(hR6:tR R6){x:Int}(h:BF R6 most e n i=some x):aU Pg GE 0 (.loop (cA qed 247)) (EX (.exit 2) (wW most e x)) (mw most e n i):=
 aU.loop (S:=fun(zz:Int×Int)=>mw most e zz.1 zz.2) (ex:=(fun _=>.exit 2)) (s:=(n,i)) h fun zz y hy=>K3 R6 most e zz.1 zz.2 hR6 hy
end
section
variable(most:Int)(e:bX)(n:Int)(i:Int)
def Pe:aA:=be 108 [(1,.int .i64 most),(2,.eptr (aZ e)),(5,.int .i64 n),(8,.int .i64 i)] [.dead] []
def wU(o:Bool):aA:=be 108 [(1,.int .i64 most),(2,.eptr (aZ e)),(5,.int .i64 n),(8,.int .i64 i),(84,.bool o)] [.dead] []
def vM:Option Bool:=
 if(decide (i<(e.Alts.length:Int)))=true then
  some (decide (n<=most))
 else
  some false
theorem Nf{x:Bool}(h:vM most e n i=some x):aU Pg GE 0 (cA qed 2012) (EX .normal (wU most e n i x)) (Pe most e n i):=by
 have p22:=fun{sc F} (r:PS sc F)=>sv (ji e)<|sv (jk e)<|cm (Zh.ln e.Alts)<|r
 rcases bj h with⟨c21,h⟩|⟨c21,h⟩
 ·obtain rfl:=lf h
  exact cd qax (p22<|sg 6 c21<|eF .normal (wU most e n i (decide (n<=most))))<|by kernel_rfl
 ·obtain rfl:=lf h
  exact cd qax (p22<|sg 6 c21<|eF .normal (wU most e n i false))<|by kernel_rfl
end
section
variable(R6:tY)(most:Int)(e:bX)(n:Int)(i:Int)
def my:aA:=be 108 [(1,.int .i64 most),(2,.eptr (aZ e)),(5,.int .i64 n),(8,.int .i64 i)] [.dead] []
def wX(o:Int):aA:=be 108 [(5,.int .i64 o)] [.dead] []
def jN:Option ((Int×Int)⊕(Int)):=
 (vM most e n i).bind fun o23=>
 if o23=true then
  (cz e.Alts i).bind fun x26=>
  (cz e.Alts i).bind fun x27=>
  (R6 x27.Body (aR (most - n))).bind fun r28=>
  some (.inl (aR ((aR (n+(x26.Names.length:Int)))+r28),aR (i+1)))
 else
  some (.inr n)
def BG:Option Int:=loop (fun(zz:Int×Int)=>jN R6 most e zz.1 zz.2) (n,i)
theorem K4(hR6:tR R6){y:(Int×Int)⊕(Int)}(h:jN R6 most e n i=some y):aU Pg GE 0 (cA qed 503) (LQ (fun(zz:Int×Int)=>my most e zz.1 zz.2) (fun _=>.exit 4) wX y) (my most e n i):=by
 obtain⟨o23,bo23,h⟩:=ay h
 have p25:=fun{sc F} (r:PS sc F)=>kr 1<|cW (Nf most e n i bo23)<|r
 rcases bj h with⟨c24,h⟩|⟨c24,h⟩
 ·obtain⟨x26,bx26,h⟩:=ay h
  obtain⟨x27,bx27,h⟩:=ay h
  obtain⟨r28,br28,h⟩:=ay h
  obtain rfl:=lf h
  exact n9 qax (p25<|sg 0 c24<|lY [0,0,2,0,14,30,62,126,255,0,512,0,3584,7680,15872,0,0,98304,261632,524287,1048575]<|sv (ji e)<|sv (jk e)<|sv (Zh.ia (k:=.i64) bx26)<|sv (G9 x26)<|sv (JY x26)<|cm (bp.ln x26.Names)<|sv (ji e)<|sv (jk e)<|sv (Zh.ia (k:=.i64) bx27)<|sv (Ha x27)<|sv (JZ x27)<|bz (hR6 _ _ _ br28)<|eF .normal (my most e (aR ((aR (n+(x26.Names.length:Int)))+r28)) (aR (i+1))))<|by kernel_rfl
 ·obtain rfl:=lf h
  have z:=p25<|sg 0 c24<|eF (.exit 4) (wX n)
  exact f6 qax (by intro hx;cases hx) z<|by kernel_rfl
theorem Ni(hR6:tR R6){x:Int}(h:BG R6 most e n i=some x):aU Pg GE 0 (.loop (cA qed 503)) (EX (.exit 4) (wX x)) (my most e n i):=
 aU.loop (S:=fun(zz:Int×Int)=>my most e zz.1 zz.2) (ex:=(fun _=>.exit 4)) (s:=(n,i)) h fun zz y hy=>K4 R6 most e zz.1 zz.2 hR6 hy
end
def yI(R6:tY)(e:bX)(most:Int):Option Int:=
 (qu .i64 (e.Name.length:Int) 100).bind fun q1=>
 (fT e.Types most).bind fun r2=>
 (BE most e (aR ((aR (1+q1))+r2)) 0).bind fun o12=>
 (BF R6 most e o12 0).bind fun o20=>
 (BG R6 most e o20 0).bind fun o29=>
 some o29
theorem RQ(R6:tY)(hR6:tR R6){e:bX}{most:Int}{r:Int}(h:yI R6 e most=some r):CC Pg GE 50 [.agg (aZ e),.int .i64 most] (.int .i64 r) []:=by
 obtain⟨q1,bq1,h⟩:=ay h
 obtain⟨r2,br2,h⟩:=ay h
 obtain⟨o12,bo12,h⟩:=ay h
 obtain⟨o20,bo20,h⟩:=ay h
 obtain⟨o29,bo29,h⟩:=ay h
 obtain rfl:=lf h
 have z:=se (Xs e)<|lY [0,1,3,7,15,0,32,0,224,511,1023]<|sv (Hd e)<|sv (J1 e)<|cm (iz underlying9 e.Name)<|sv (Ax (P:=Pg) (t:=3) bq1)<|sv (He e)<|sv (Hg e)<|bz (gm br2)<|cW (Ng most e (aR ((aR (1+q1))+r2)) 0 bo12)<|cW (Nh R6 most e o12 0 hR6 bo20)<|cW (Ni R6 most e o20 0 hR6 bo29)<|en (aI (rP (.int .i64 o29))<|trivial)
 exact bN qax call50 func50 (c:=qed) rfl (aI (AD e) (aI trivial trivial)) z<|by kernel_rfl
def Ee:((bX×Int)->Option Int)->(bX×Int)->Option Int:=fun(rec:(bX×Int)->Option Int) (x:bX×Int)=>yI (fun e most=>rec (e,most)) x.1 x.2
def K1(e:bX)(most:Int):Option Int:=kJ Ee (e,most)
theorem Uw{e:bX}{most:Int}{r:Int}(h:K1 e most=some r):CC Pg GE 50 [.agg (aZ e),.int .i64 most] (.int .i64 r) []:=
 cy (F:=Ee) (M:=fun(x:bX×Int) (r:Int)=>CC Pg GE 50 [.agg (aZ x.1),.int .i64 x.2] (.int .i64 r) []) (fun rec hrec x r h=>RQ _ (fun e most r h=>hrec (e,most) r h) h) h
noncomputable def qgz:Code:=f27.body.getD .skip
def qel:List Nat:=[112]
section
variable(v:(List sd))(most:Int)(n:Int)(i:Int)
def HH:aA:=be 113 [(0,sl dG v),(1,.int .i64 most),(5,.int .i64 n),(6,.int .i64 i)] [] []
def pM(o:Bool):aA:=be 113 [(0,sl dG v),(1,.int .i64 most),(5,.int .i64 n),(6,.int .i64 i),(17,.bool o)] [] []
def nm:Option Bool:=
 if(decide (i<(v.length:Int)))=true then
  some (decide (n<=most))
 else
  some false
theorem Gs{x:Bool}(h:nm v most n i=some x):aU Pg GE 0 (cA qgz 476) (EX .normal (pM v most n i x)) (HH v most n i):=by
 rcases bj h with⟨c1,h⟩|⟨c1,h⟩
 ·obtain rfl:=lf h
  exact cd qel (cm (Zg.ln v)<|sg 5 c1<|eF .normal (pM v most n i (decide (n<=most))))<|by kernel_rfl
 ·obtain rfl:=lf h
  exact cd qel (cm (Zg.ln v)<|sg 5 c1<|eF .normal (pM v most n i false))<|by kernel_rfl
end
section
variable(v:(List sd))(most:Int)(n:Int)(i:Int)(k:Int)(m:waA)(m2:(List Fw))(m3:(List SL))(m4:(List ng))(m5:Int)(m6:ag)(m7:waC)(m8:waA)(m9:Int)(m10:ag)(m11:Int)(m12:waB)(m13:waB)(m14:waB)
def HI:aA:=be 113 [(0,sl dG v),(1,.int .i64 most),(5,.int .i64 n),(6,.int .i64 i),(7,.bptr 0 0),(8,.int .i64 k)] [.cells [sl cS m,sl iv m2,sl pR m3,sl db m4,.int .i64 m5,.str m6,sl af m7,sl cS m8,.int .i64 m9,.str m10,.int .i64 m11,sl ac m12,sl ac m13,sl ac m14] []] []
def pN(o:Bool):aA:=be 113 [(0,sl dG v),(1,.int .i64 most),(5,.int .i64 n),(6,.int .i64 i),(7,.bptr 0 0),(8,.int .i64 k),(74,.bool o)] [.cells [sl cS m,sl iv m2,sl pR m3,sl db m4,.int .i64 m5,.str m6,sl af m7,sl cS m8,.int .i64 m9,.str m10,.int .i64 m11,sl ac m12,sl ac m13,sl ac m14] []] []
def nn:Option Bool:=
 if(decide (k<(m4.length:Int)))=true then
  some (decide (n<=most))
 else
  some false
theorem Gt{x:Bool}(h:nn most n k m4=some x):aU Pg GE 0 (cA qgz 245212) (EX .normal (pN v most n i k m m2 m3 m4 m5 m6 m7 m8 m9 m10 m11 m12 m13 m14 x)) (HI v most n i k m m2 m3 m4 m5 m6 m7 m8 m9 m10 m11 m12 m13 m14):=by
 have p12:=fun{sc F} (r:PS sc F)=>ss<|cm (qah.ln m4)<|r
 rcases bj h with⟨c11,h⟩|⟨c11,h⟩
 ·obtain rfl:=lf h
  exact cd qel (p12<|sg 6 c11<|eF .normal (pN v most n i k m m2 m3 m4 m5 m6 m7 m8 m9 m10 m11 m12 m13 m14 (decide (n<=most))))<|by kernel_rfl
 ·obtain rfl:=lf h
  exact cd qel (p12<|sg 6 c11<|eF .normal (pN v most n i k m m2 m3 m4 m5 m6 m7 m8 m9 m10 m11 m12 m13 m14 false))<|by kernel_rfl
end
section
variable(v:(List sd))(most:Int)(i:Int)(m:waA)(m2:(List Fw))(m3:(List SL))(m4:(List ng))(m5:Int)(m6:ag)(m7:waC)(m8:waA)(m9:Int)(m10:ag)(m11:Int)(m12:waB)(m13:waB)(m14:waB)(n:Int)(k:Int)
def ie:aA:=be 113 [(0,sl dG v),(1,.int .i64 most),(5,.int .i64 n),(6,.int .i64 i),(7,.bptr 0 0),(8,.int .i64 k)] [.cells [sl cS m,sl iv m2,sl pR m3,sl db m4,.int .i64 m5,.str m6,sl af m7,sl cS m8,.int .i64 m9,.str m10,.int .i64 m11,sl ac m12,sl ac m13,sl ac m14] []] []
def pP(o:Int):aA:=be 113 [(0,sl dG v),(1,.int .i64 most),(5,.int .i64 o),(6,.int .i64 i)] [.cells [sl cS m,sl iv m2,sl pR m3,sl db m4,.int .i64 m5,.str m6,sl af m7,sl cS m8,.int .i64 m9,.str m10,.int .i64 m11,sl ac m12,sl ac m13,sl ac m14] []] []
def fG:Option ((Int×Int)⊕(Int)):=
 (nn most n k m4).bind fun o13=>
 if o13=true then
  (cz m4 k).bind fun x16=>
  (cz m4 k).bind fun x17=>
  (cz m4 k).bind fun x18=>
  (eV ([x17.Hyp,x18.Goal]:List aa) most).bind fun r19=>
  some (.inl (aR ((aR ((aR (n+1))+(x16.Vars.length:Int)))+r19),aR (k+1)))
 else
  some (.inr n)
def sG:Option Int:=loop (fun(zz:Int×Int)=>fG most m4 zz.1 zz.2) (n,k)
theorem Eg{y:(Int×Int)⊕(Int)}(h:fG most m4 n k=some y):aU Pg GE 0 (cA qgz 61303) (LQ (fun(zz:Int×Int)=>ie v most i m m2 m3 m4 m5 m6 m7 m8 m9 m10 m11 m12 m13 m14 zz.1 zz.2) (fun _=>.exit 2) (pP v most i m m2 m3 m4 m5 m6 m7 m8 m9 m10 m11 m12 m13 m14) y) (ie v most i m m2 m3 m4 m5 m6 m7 m8 m9 m10 m11 m12 m13 m14 n k):=by
 obtain⟨o13,bo13,h⟩:=ay h
 have p15:=fun{sc F} (r:PS sc F)=>kr 1<|cW (Gt v most n i k m m2 m3 m4 m5 m6 m7 m8 m9 m10 m11 m12 m13 m14 bo13)<|r
 rcases bj h with⟨c14,h⟩|⟨c14,h⟩
 ·obtain⟨x16,bx16,h⟩:=ay h
  obtain⟨x17,bx17,h⟩:=ay h
  obtain⟨x18,bx18,h⟩:=ay h
  obtain⟨r19,br19,h⟩:=ay h
  obtain rfl:=lf h
  exact n9 qel (p15<|sg 0 c14<|lY [0,1,0,4,0,28,60,124,252,511,0,1024,0,7168,15360,31744,0,65536,0,458752,983040,2031616,4193280,0,16776192,33554431,67108863]<|ss<|sv (qah.ia (k:=.i64) bx16)<|sv (NM x16)<|sv (Qq x16)<|cm (IG.ln x16.Vars)<|ss<|sv (qah.ia (k:=.i64) bx17)<|sv (NN x17)<|sv (Qr x17)<|ss<|sv (qah.ia (k:=.i64) bx18)<|sv (NO x18)<|sv (Qs x18)<|sv (bL.mk' (v:=dW) cK ([x17.Hyp,x18.Goal]:List aa) 2 (by kernel_rfl))<|bz (eW br19)<|eF .normal (ie v most i m m2 m3 m4 m5 m6 m7 m8 m9 m10 m11 m12 m13 m14 (aR ((aR ((aR (n+1))+(x16.Vars.length:Int)))+r19)) (aR (k+1))))<|by kernel_rfl
 ·obtain rfl:=lf h
  have z:=p15<|sg 0 c14<|eF (.exit 2) (pP v most i m m2 m3 m4 m5 m6 m7 m8 m9 m10 m11 m12 m13 m14 n)
  exact f6 qel (by intro hx;cases hx) z<|by kernel_rfl
theorem Gv{x:Int}(h:sG most m4 n k=some x):aU Pg GE 0 (.loop (cA qgz 61303)) (EX (.exit 2) (pP v most i m m2 m3 m4 m5 m6 m7 m8 m9 m10 m11 m12 m13 m14 x)) (ie v most i m m2 m3 m4 m5 m6 m7 m8 m9 m10 m11 m12 m13 m14 n k):=
 aU.loop (S:=fun(zz:Int×Int)=>ie v most i m m2 m3 m4 m5 m6 m7 m8 m9 m10 m11 m12 m13 m14 zz.1 zz.2) (ex:=(fun _=>.exit 2)) (s:=(n,k)) h fun zz y hy=>Eg v most i m m2 m3 m4 m5 m6 m7 m8 m9 m10 m11 m12 m13 m14 zz.1 zz.2 hy
end
section
variable(v:(List sd))(most:Int)(n:Int)(i:Int)
def ic:aA:=be 113 [(0,sl dG v),(1,.int .i64 most),(5,.int .i64 n),(6,.int .i64 i)] [] []
def pO(o:Int):aA:=be 113 [(5,.int .i64 o)] [] []
def fF:Option ((Int×Int)⊕(Int)):=
 (nm v most n i).bind fun o2=>
 if o2=true then
  (cz v i).bind fun x5=>
  (cz v i).bind fun x6=>
  (qu .i64 (x6.Name.length:Int) 100).bind fun q7=>
  (cz v i).bind fun x8=>
  (fT ([x5.Sig.Type_]:List ae) most).bind fun r9=>
  (eV x5.Sig.Metric most).bind fun r10=>
  (sG most x5.Sig.Bounds (aR ((aR ((aR ((aR ((aR ((aR ((aR ((aR (n+1))+q7))+(x8.Params.length:Int)))+(x5.Sig.Vars.length:Int)))+(x5.Sig.Needs.length:Int)))+(x5.Sig.Abs.length:Int)))+r9))+r10)) 0).bind fun o20=>
  (cz v i).bind fun x21=>
  (K1 x21.Body most).bind fun r22=>
  some (.inl (aR (o20+r22),aR (i+1)))
 else
  some (.inr n)
def sF:Option Int:=loop (fun(zz:Int×Int)=>fF v most zz.1 zz.2) (n,i)
theorem Ef{y:(Int×Int)⊕(Int)}(h:fF v most n i=some y):aU Pg GE 0 (cA qgz 119) (LQ (fun(zz:Int×Int)=>ic v most zz.1 zz.2) (fun _=>.exit 0) pO y) (ic v most n i):=by
 obtain⟨o2,bo2,h⟩:=ay h
 have p4:=fun{sc F} (r:PS sc F)=>kr 1<|cW (Gs v most n i bo2)<|r
 rcases bj h with⟨c3,h⟩|⟨c3,h⟩
 ·obtain⟨x5,bx5,h⟩:=ay h
  obtain⟨x6,bx6,h⟩:=ay h
  obtain⟨q7,bq7,h⟩:=ay h
  obtain⟨x8,bx8,h⟩:=ay h
  obtain⟨r9,br9,h⟩:=ay h
  obtain⟨r10,br10,h⟩:=ay h
  obtain⟨o20,bo20,h⟩:=ay h
  obtain⟨x21,bx21,h⟩:=ay h
  obtain⟨r22,br22,h⟩:=ay h
  obtain rfl:=lf h
  have z:=p4<|sg 0 c3<|sv (Zg.ia (k:=.i64) bx5)<|sv (Sn x5)<|sv (Qu x5)<|sx qiJ<|sx (qdr x5.Sig)<|lY [0,1,0,0,12,28,60,124,252,511,0,0,3072,7168,15360,31744,65535,0,131072,393216,1048575,0,2097152,6291456,16777215,0,33554432,100663296,268435455,0,536870912,1610612736,0,8053063680,17179869183,0,34359738368,0,257161166848,549755813887,1099511627775]<|sv (Zg.ia (k:=.i64) bx6)<|sv (Sk x6)<|sv (Xc x6)<|cm (iz underlying9 x6.Name)<|sv (Ax (P:=Pg) (t:=3) bq7)<|sv (Zg.ia (k:=.i64) bx8)<|sv (Sl x8)<|sv (Vm x8)<|cm (bp.ln x8.Params)<|ss<|cm (bp.ln x5.Sig.Vars)<|ss<|cm (qiQ.ln x5.Sig.Needs)<|ss<|cm (qiN.ln x5.Sig.Abs)<|sv (cU x5.Sig.Type_ [sl ac x5.Sig.Metric])<|sv (ck.mk' (v:=jC) eO ([x5.Sig.Type_]:List ae) 1 (by kernel_rfl))<|bz (gm br9)<|ss<|bz (eW br10)<|cW (Gv v most i x5.Sig.Vars x5.Sig.Needs x5.Sig.Abs x5.Sig.Bounds x5.Sig.Type_.Op x5.Sig.Type_.Name x5.Sig.Type_.Args x5.Sig.Type_.Names x5.Sig.Type_.Pred.Op x5.Sig.Type_.Pred.Name x5.Sig.Type_.Pred.N x5.Sig.Type_.Pred.Kids x5.Sig.Type_.Preds x5.Sig.Metric (aR ((aR ((aR ((aR ((aR ((aR ((aR ((aR (n+1))+q7))+(x8.Params.length:Int)))+(x5.Sig.Vars.length:Int)))+(x5.Sig.Needs.length:Int)))+(x5.Sig.Abs.length:Int)))+r9))+r10)) 0 bo20)<|sv (Zg.ia (k:=.i64) bx21)<|sv (Sm x21)<|sv (Vn x21)<|bz (Uw br22)<|uz 0 .normal (ic v most (aR (o20+r22)) (aR (i+1))) rfl (dC (aI (up (aj F2 v)) (aI trivial (aI trivial (aI trivial trivial))))) trivial
  exact df (A:=qel) mixed z<|by kernel_rfl
 ·obtain rfl:=lf h
  have z:=p4<|sg 0 c3<|eF (.exit 0) (pO n)
  exact f6 qel (by intro hx;cases hx) z<|by kernel_rfl
theorem Gu{x:Int}(h:sF v most n i=some x):aU Pg GE 0 (.loop (cA qgz 119)) (EX (.exit 0) (pO x)) (ic v most n i):=
 aU.loop (S:=fun(zz:Int×Int)=>ic v most zz.1 zz.2) (ex:=(fun _=>.exit 0)) (s:=(n,i)) h fun zz y hy=>Ef v most zz.1 zz.2 hy
end
def oM(a:(List sd))(most:Int):Option Int:=
 (sF a most 0 0).bind fun o23=>
 some o23
theorem Ap{a:(List sd)}{most:Int}{r:Int}(h:oM a most=some r):CC Pg GE 27 [sl dG a,.int .i64 most] (.int .i64 r) []:=by
 obtain⟨o23,bo23,h⟩:=ay h
 obtain rfl:=lf h
 have z:=cW (Gu a most 0 0 bo23)<|en (aI (rP (.int .i64 o23))<|trivial)
 exact bN qel call27 func27 (c:=qgz) rfl (aI (aj F2 a) (aI trivial trivial)) z<|by kernel_rfl
noncomputable def b7:Code:=Tryz.f7.body.getD .skip
def A7:List Nat:=[]
section
variable(m:aH)
def Pf:aA:=be 303 [(1,.eptr (aB m))] [.dead] []
def ib(o:Bool):aA:=be 303 [(1,.eptr (aB m)),(45,.bool o)] [.dead] []
def BH:Option Bool:=
 if(decide ((m.Datas.length:Int)>80))=true then
  some true
 else
  if(decide ((m.Classes.length:Int)>80))=true then
   some true
  else
   if(decide ((m.Instances.length:Int)>80))=true then
    some true
   else
    if(decide ((m.Measures.length:Int)>80))=true then
     some true
    else
     if(decide ((m.Quals.length:Int)>80))=true then
      some true
     else
      some (decide ((m.Defs.length:Int)>80))
theorem Nn{x:Bool}(h:BH m=some x):aU Pg GE 0 (cA b7 12) (EX .normal (ib m x)) (Pf m):=by
 have p2:=fun{sc F} (r:PS sc F)=>sv (dh m)<|sv (di m)<|cm (Ky.ln m.Datas)<|r
 rcases bj h with⟨c1,h⟩|⟨c1,h⟩
 ·obtain rfl:=lf h
  exact cd A7 (p2<|sg 5 c1<|eF .normal (ib m true))<|by kernel_rfl
 ·have p4:=fun{sc F} (r:PS sc F)=>p2<|sg 5 c1<|sv (pD m)<|sv (pH m)<|cm (qfj.ln m.Classes)<|r
  rcases bj h with⟨c3,h⟩|⟨c3,h⟩
  ·obtain rfl:=lf h
   exact cd A7 (p4<|sg 11 c3<|eF .normal (ib m true))<|by kernel_rfl
  ·have p6:=fun{sc F} (r:PS sc F)=>p4<|sg 11 c3<|sv (kI m)<|sv (kO m)<|cm (qdW.ln m.Instances)<|r
   rcases bj h with⟨c5,h⟩|⟨c5,h⟩
   ·obtain rfl:=lf h
    exact cd A7 (p6<|sg 17 c5<|eF .normal (ib m true))<|by kernel_rfl
   ·have p8:=fun{sc F} (r:PS sc F)=>p6<|sg 17 c5<|sv (iJ m)<|sv (iK m)<|cm (qbO.ln m.Measures)<|r
    rcases bj h with⟨c7,h⟩|⟨c7,h⟩
    ·obtain rfl:=lf h
     exact cd A7 (p8<|sg 23 c7<|eF .normal (ib m true))<|by kernel_rfl
    ·have p10:=fun{sc F} (r:PS sc F)=>p8<|sg 23 c7<|sv (pE m)<|sv (pI m)<|cm (qfk.ln m.Quals)<|r
     rcases bj h with⟨c9,h⟩|⟨c9,h⟩
     ·obtain rfl:=lf h
      exact cd A7 (p10<|sg 29 c9<|eF .normal (ib m true))<|by kernel_rfl
     ·obtain rfl:=lf h
      exact cd A7 (p10<|sg 29 c9<|sv (CZ m)<|sv (C3 m)<|cm (Zg.ln m.Defs)<|eF .normal (ib m (decide ((m.Defs.length:Int)>80))))<|by kernel_rfl
end
section
variable(m:aH)(n:Int)(i:Int)
def Ph:aA:=be 303 [(1,.eptr (aB m)),(3,.int .i64 n),(4,.int .i64 i)] [.dead] []
def wY(o:Bool):aA:=be 303 [(1,.eptr (aB m)),(3,.int .i64 n),(4,.int .i64 i),(57,.bool o)] [.dead] []
def vN:Option Bool:=
 if(decide (i<(m.Datas.length:Int)))=true then
  some (decide (n<=4000))
 else
  some false
theorem No{x:Bool}(h:vN m n i=some x):aU Pg GE 0 (cA b7 988) (EX .normal (wY m n i x)) (Ph m n i):=by
 have p16:=fun{sc F} (r:PS sc F)=>sv (dh m)<|sv (di m)<|cm (Ky.ln m.Datas)<|r
 rcases bj h with⟨c15,h⟩|⟨c15,h⟩
 ·obtain rfl:=lf h
  exact cd A7 (p16<|sg 6 c15<|eF .normal (wY m n i (decide (n<=4000))))<|by kernel_rfl
 ·obtain rfl:=lf h
  exact cd A7 (p16<|sg 6 c15<|eF .normal (wY m n i false))<|by kernel_rfl
end
section
variable(m:aH)(n:Int)(i:Int)(k:Int)
def Pj:aA:=be 303 [(1,.eptr (aB m)),(3,.int .i64 n),(4,.int .i64 i),(5,.int .i64 k)] [.dead] []
def wZ(o:Bool):aA:=be 303 [(1,.eptr (aB m)),(3,.int .i64 n),(4,.int .i64 i),(5,.int .i64 k),(99,.bool o)] [.dead] []
def vO:Option Bool:=
 (cz m.Datas i).bind fun x24=>
 if(decide (k<(x24.Cons.length:Int)))=true then
  some (decide (n<=4000))
 else
  some false
theorem Np{x:Bool}(h:vO m n i k=some x):aU Pg GE 0 (cA b7 126844) (EX .normal (wZ m n i k x)) (Pj m n i k):=by
 obtain⟨x24,bx24,h⟩:=ay h
 have p26:=fun{sc F} (r:PS sc F)=>sv (dh m)<|sv (di m)<|sv (Ky.ia (k:=.i64) bx24)<|sv (zV x24)<|sv (z6 x24)<|cm (qgY.ln x24.Cons)<|r
 rcases bj h with⟨c25,h⟩|⟨c25,h⟩
 ·obtain rfl:=lf h
  exact cd A7 (p26<|sg 10 c25<|eF .normal (wZ m n i k (decide (n<=4000))))<|by kernel_rfl
 ·obtain rfl:=lf h
  exact cd A7 (p26<|sg 10 c25<|eF .normal (wZ m n i k false))<|by kernel_rfl
end
section
variable(m:aH)(i:Int)(n:Int)(k:Int)
def mA:aA:=be 303 [(1,.eptr (aB m)),(3,.int .i64 n),(4,.int .i64 i),(5,.int .i64 k)] [.dead] []
def xd(o:Int):aA:=be 303 [(1,.eptr (aB m)),(3,.int .i64 o),(4,.int .i64 i)] [.dead] []
def jP:Option ((Int×Int)⊕(Int)):=
 (vO m n i k).bind fun o27=>
 if o27=true then
  (cz m.Datas i).bind fun x30=>
  (cz x30.Cons k).bind fun x31=>
  (cz m.Datas i).bind fun x32=>
  (cz x32.Cons k).bind fun x33=>
  (fT x33.Fields 4000).bind fun r34=>
  some (.inl (aR ((aR ((aR (n+1))+(x31.Names.length:Int)))+r34),aR (k+1)))
 else
  some (.inr n)
def BJ:Option Int:=loop (fun(zz:Int×Int)=>jP m i zz.1 zz.2) (n,k)
theorem Lf{y:(Int×Int)⊕(Int)}(h:jP m i n k=some y):aU Pg GE 0 (cA b7 31711) (LQ (fun(zz:Int×Int)=>mA m i zz.1 zz.2) (fun _=>.exit 2) (xd m i) y) (mA m i n k):=by
 obtain⟨o27,bo27,h⟩:=ay h
 have p29:=fun{sc F} (r:PS sc F)=>kr 1<|cW (Np m n i k bo27)<|r
 rcases bj h with⟨c28,h⟩|⟨c28,h⟩
 ·obtain⟨x30,bx30,h⟩:=ay h
  obtain⟨x31,bx31,h⟩:=ay h
  obtain⟨x32,bx32,h⟩:=ay h
  obtain⟨x33,bx33,h⟩:=ay h
  obtain⟨r34,br34,h⟩:=ay h
  obtain rfl:=lf h
  exact n9 A7 (p29<|sg 0 c28<|lY [0,1,0,4,0,28,60,124,0,508,1020,2044,4092,8191,0,16384,0,114688,245760,507904,0,2080768,4177920,8372224,16760832,33554431,67108863]<|sv (dh m)<|sv (di m)<|sv (Ky.ia (k:=.i64) bx30)<|sv (zV x30)<|sv (z6 x30)<|sv (qgY.ia (k:=.i64) bx31)<|sv (U1 x31)<|sv (Vk x31)<|cm (bp.ln x31.Names)<|sv (dh m)<|sv (di m)<|sv (Ky.ia (k:=.i64) bx32)<|sv (zV x32)<|sv (z6 x32)<|sv (qgY.ia (k:=.i64) bx33)<|sv (U2 x33)<|sv (Vl x33)<|bz (gm br34)<|eF .normal (mA m i (aR ((aR ((aR (n+1))+(x31.Names.length:Int)))+r34)) (aR (k+1))))<|by kernel_rfl
 ·obtain rfl:=lf h
  have z:=p29<|sg 0 c28<|eF (.exit 2) (xd m i n)
  exact f6 A7 (by intro hx;cases hx) z<|by kernel_rfl
theorem Nt{x:Int}(h:BJ m i n k=some x):aU Pg GE 0 (.loop (cA b7 31711)) (EX (.exit 2) (xd m i x)) (mA m i n k):=
 aU.loop (S:=fun(zz:Int×Int)=>mA m i zz.1 zz.2) (ex:=(fun _=>.exit 2)) (s:=(n,k)) h fun zz y hy=>Lf m i zz.1 zz.2 hy
end
section
variable(m:aH)(n:Int)(i:Int)
def mz:aA:=be 303 [(1,.eptr (aB m)),(3,.int .i64 n),(4,.int .i64 i)] [.dead] []
def xc(o:Int):aA:=be 303 [(1,.eptr (aB m)),(3,.int .i64 o)] [.dead] []
def jO:Option ((Int×Int)⊕(Int)):=
 (vN m n i).bind fun o17=>
 if o17=true then
  (cz m.Datas i).bind fun x20=>
  (qu .i64 (x20.Name.length:Int) 100).bind fun q21=>
  (cz m.Datas i).bind fun x22=>
  (cz m.Datas i).bind fun x23=>
  (BJ m i (aR ((aR ((aR ((aR (n+1))+q21))+(x22.Vars.length:Int)))+(x23.Preds.length:Int))) 0).bind fun o35=>
  some (.inl (o35,aR (i+1)))
 else
  some (.inr n)
def BI:Option Int:=loop (fun(zz:Int×Int)=>jO m zz.1 zz.2) (n,i)
theorem Ld{y:(Int×Int)⊕(Int)}(h:jO m n i=some y):aU Pg GE 0 (cA b7 247) (LQ (fun(zz:Int×Int)=>mz m zz.1 zz.2) (fun _=>.exit 0) (xc m) y) (mz m n i):=by
 obtain⟨o17,bo17,h⟩:=ay h
 have p19:=fun{sc F} (r:PS sc F)=>kr 1<|cW (No m n i bo17)<|r
 rcases bj h with⟨c18,h⟩|⟨c18,h⟩
 ·obtain⟨x20,bx20,h⟩:=ay h
  obtain⟨q21,bq21,h⟩:=ay h
  obtain⟨x22,bx22,h⟩:=ay h
  obtain⟨x23,bx23,h⟩:=ay h
  obtain⟨o35,bo35,h⟩:=ay h
  obtain rfl:=lf h
  exact n9 A7 (p19<|sg 0 c18<|lY [0,1,0,4,0,28,60,124,252,508,1023,0,2048,0,14336,30720,63488,129024,262143,0,524288,0,3670016,7864320,16252928,33030144,67108863,134217727]<|sv (dh m)<|sv (di m)<|sv (Ky.ia (k:=.i64) bx20)<|sv (Hb x20)<|sv (J0 x20)<|cm (iz underlying9 x20.Name)<|sv (Ax (P:=Pg) (t:=3) bq21)<|sv (dh m)<|sv (di m)<|sv (Ky.ia (k:=.i64) bx22)<|sv (Si x22)<|sv (Sx x22)<|cm (bp.ln x22.Vars)<|sv (dh m)<|sv (di m)<|sv (Ky.ia (k:=.i64) bx23)<|sv (Sj x23)<|sv (Sy x23)<|cm (IG.ln x23.Preds)<|cW (Nt m i (aR ((aR ((aR ((aR (n+1))+q21))+(x22.Vars.length:Int)))+(x23.Preds.length:Int))) 0 bo35)<|eF .normal (mz m o35 (aR (i+1))))<|by kernel_rfl
 ·obtain rfl:=lf h
  have z:=p19<|sg 0 c18<|eF (.exit 0) (xc m n)
  exact f6 A7 (by intro hx;cases hx) z<|by kernel_rfl
theorem Ns{x:Int}(h:BI m n i=some x):aU Pg GE 0 (.loop (cA b7 247)) (EX (.exit 0) (xc m x)) (mz m n i):=
 aU.loop (S:=fun(zz:Int×Int)=>mz m zz.1 zz.2) (ex:=(fun _=>.exit 0)) (s:=(n,i)) h fun zz y hy=>Ld m zz.1 zz.2 hy
end
section
variable(m:aH)(n:Int)(i:Int)
def Pk:aA:=be 303 [(1,.eptr (aB m)),(3,.int .i64 n),(6,.int .i64 i)] [.dead] []
def w9(o:Bool):aA:=be 303 [(1,.eptr (aB m)),(3,.int .i64 n),(6,.int .i64 i),(136,.bool o)] [.dead] []
def vP:Option Bool:=
 if(decide (i<(m.Classes.length:Int)))=true then
  some (decide (n<=4000))
 else
  some false
theorem Nq{x:Bool}(h:vP m n i=some x):aU Pg GE 0 (cA b7 2012) (EX .normal (w9 m n i x)) (Pk m n i):=by
 have p38:=fun{sc F} (r:PS sc F)=>sv (pD m)<|sv (pH m)<|cm (qfj.ln m.Classes)<|r
 rcases bj h with⟨c37,h⟩|⟨c37,h⟩
 ·obtain rfl:=lf h
  exact cd A7 (p38<|sg 6 c37<|eF .normal (w9 m n i (decide (n<=4000))))<|by kernel_rfl
 ·obtain rfl:=lf h
  exact cd A7 (p38<|sg 6 c37<|eF .normal (w9 m n i false))<|by kernel_rfl
end
section
variable(m:aH)(n:Int)(i:Int)(k:Int)
def Pl:aA:=be 303 [(1,.eptr (aB m)),(3,.int .i64 n),(6,.int .i64 i),(7,.int .i64 k)] [.dead] []
def xa(o:Bool):aA:=be 303 [(1,.eptr (aB m)),(3,.int .i64 n),(6,.int .i64 i),(7,.int .i64 k),(151,.bool o)] [.dead] []
def vQ:Option Bool:=
 (cz m.Classes i).bind fun x42=>
 if(decide (k<(x42.Methods.length:Int)))=true then
  some (decide (n<=4000))
 else
  some false
theorem Nr{x:Bool}(h:vQ m n i k=some x):aU Pg GE 0 (cA b7 128956) (EX .normal (xa m n i k x)) (Pl m n i k):=by
 obtain⟨x42,bx42,h⟩:=ay h
 have p44:=fun{sc F} (r:PS sc F)=>sv (pD m)<|sv (pH m)<|sv (qfj.ia (k:=.i64) bx42)<|sv (EV x42)<|sv (EZ x42)<|cm (qiP.ln x42.Methods)<|r
 rcases bj h with⟨c43,h⟩|⟨c43,h⟩
 ·obtain rfl:=lf h
  exact cd A7 (p44<|sg 10 c43<|eF .normal (xa m n i k (decide (n<=4000))))<|by kernel_rfl
 ·obtain rfl:=lf h
  exact cd A7 (p44<|sg 10 c43<|eF .normal (xa m n i k false))<|by kernel_rfl
end
section
variable(m:aH)(i:Int)(n:Int)(k:Int)
def mC:aA:=be 303 [(1,.eptr (aB m)),(3,.int .i64 n),(6,.int .i64 i),(7,.int .i64 k)] [.dead] []
def xf(o:Int):aA:=be 303 [(1,.eptr (aB m)),(3,.int .i64 o),(6,.int .i64 i)] [.dead] []
def jR:Option ((Int×Int)⊕(Int)):=
 (vQ m n i k).bind fun o45=>
 if o45=true then
  (cz m.Classes i).bind fun x48=>
  (cz x48.Methods k).bind fun x49=>
  (fT ([x49.Type_]:List ae) 4000).bind fun r50=>
  some (.inl (aR ((aR (n+1))+r50),aR (k+1)))
 else
  some (.inr n)
def BL:Option Int:=loop (fun(zz:Int×Int)=>jR m i zz.1 zz.2) (n,k)
theorem Lh{y:(Int×Int)⊕(Int)}(h:jR m i n k=some y):aU Pg GE 0 (cA b7 32239) (LQ (fun(zz:Int×Int)=>mC m i zz.1 zz.2) (fun _=>.exit 6) (xf m i) y) (mC m i n k):=by
 obtain⟨o45,bo45,h⟩:=ay h
 have p47:=fun{sc F} (r:PS sc F)=>kr 1<|cW (Nr m n i k bo45)<|r
 rcases bj h with⟨c46,h⟩|⟨c46,h⟩
 ·obtain⟨x48,bx48,h⟩:=ay h
  obtain⟨x49,bx49,h⟩:=ay h
  obtain⟨r50,br50,h⟩:=ay h
  obtain rfl:=lf h
  exact n9 A7 (p47<|sg 0 c46<|sv (pD m)<|sv (pH m)<|sv (qfj.ia (k:=.i64) bx48)<|sv (EV x48)<|sv (EZ x48)<|sv (qiP.ia (k:=.i64) bx49)<|sv (NQ x49)<|sv (NS x49)<|sv (ck.mk' (v:=jC) eO ([x49.Type_]:List ae) 1 (by kernel_rfl))<|bz (gm br50)<|eF .normal (mC m i (aR ((aR (n+1))+r50)) (aR (k+1))))<|by kernel_rfl
 ·obtain rfl:=lf h
  have z:=p47<|sg 0 c46<|eF (.exit 6) (xf m i n)
  exact f6 A7 (by intro hx;cases hx) z<|by kernel_rfl
theorem Nv{x:Int}(h:BL m i n k=some x):aU Pg GE 0 (.loop (cA b7 32239)) (EX (.exit 6) (xf m i x)) (mC m i n k):=
 aU.loop (S:=fun(zz:Int×Int)=>mC m i zz.1 zz.2) (ex:=(fun _=>.exit 6)) (s:=(n,k)) h fun zz y hy=>Lh m i zz.1 zz.2 hy
end
section
variable(m:aH)(n:Int)(i:Int)
def mB:aA:=be 303 [(1,.eptr (aB m)),(3,.int .i64 n),(6,.int .i64 i)] [.dead] []
def xe(o:Int):aA:=be 303 [(1,.eptr (aB m)),(3,.int .i64 o)] [.dead] []
def jQ:Option ((Int×Int)⊕(Int)):=
 (vP m n i).bind fun o39=>
 if o39=true then
  (BL m i n 0).bind fun o51=>
  some (.inl (o51,aR (i+1)))
 else
  some (.inr n)
def BK:Option Int:=loop (fun(zz:Int×Int)=>jQ m zz.1 zz.2) (n,i)
theorem Lg{y:(Int×Int)⊕(Int)}(h:jQ m n i=some y):aU Pg GE 0 (cA b7 503) (LQ (fun(zz:Int×Int)=>mB m zz.1 zz.2) (fun _=>.exit 4) (xe m) y) (mB m n i):=by
 obtain⟨o39,bo39,h⟩:=ay h
 have p41:=fun{sc F} (r:PS sc F)=>kr 1<|cW (Nq m n i bo39)<|r
 rcases bj h with⟨c40,h⟩|⟨c40,h⟩
 ·obtain⟨o51,bo51,h⟩:=ay h
  obtain rfl:=lf h
  exact n9 A7 (p41<|sg 0 c40<|cW (Nv m i n 0 bo51)<|eF .normal (mB m o51 (aR (i+1))))<|by kernel_rfl
 ·obtain rfl:=lf h
  have z:=p41<|sg 0 c40<|eF (.exit 4) (xe m n)
  exact f6 A7 (by intro hx;cases hx) z<|by kernel_rfl
theorem Nu{x:Int}(h:BK m n i=some x):aU Pg GE 0 (.loop (cA b7 503)) (EX (.exit 4) (xe m x)) (mB m n i):=
 aU.loop (S:=fun(zz:Int×Int)=>mB m zz.1 zz.2) (ex:=(fun _=>.exit 4)) (s:=(n,i)) h fun zz y hy=>Lg m zz.1 zz.2 hy
end
section
variable(m:aH)(n:Int)(i:Int)
def Nj:aA:=be 303 [(1,.eptr (aB m)),(3,.int .i64 n),(8,.int .i64 i)] [.dead] []
def uH(o:Bool):aA:=be 303 [(1,.eptr (aB m)),(3,.int .i64 n),(8,.int .i64 i),(177,.bool o)] [.dead] []
def tu:Option Bool:=
 if(decide (i<(m.Instances.length:Int)))=true then
  some (decide (n<=4000))
 else
  some false
theorem K5{x:Bool}(h:tu m n i=some x):aU Pg GE 0 (cA b7 4060) (EX .normal (uH m n i x)) (Nj m n i):=by
 have p54:=fun{sc F} (r:PS sc F)=>sv (kI m)<|sv (kO m)<|cm (qdW.ln m.Instances)<|r
 rcases bj h with⟨c53,h⟩|⟨c53,h⟩
 ·obtain rfl:=lf h
  exact cd A7 (p54<|sg 6 c53<|eF .normal (uH m n i (decide (n<=4000))))<|by kernel_rfl
 ·obtain rfl:=lf h
  exact cd A7 (p54<|sg 6 c53<|eF .normal (uH m n i false))<|by kernel_rfl
end
section
variable(m:aH)(n:Int)(i:Int)
def ky:aA:=be 303 [(1,.eptr (aB m)),(3,.int .i64 n),(8,.int .i64 i)] [.dead] []
def uL(o:Int):aA:=be 303 [(1,.eptr (aB m)),(3,.int .i64 o)] [.dead] []
def iC:Option ((Int×Int)⊕(Int)):=
 (tu m n i).bind fun o55=>
 if o55=true then
  (cz m.Instances i).bind fun x58=>
  (cz m.Instances i).bind fun x59=>
  (fT ([x59.Type_]:List ae) 4000).bind fun r60=>
  (cz m.Instances i).bind fun x61=>
  (oM x61.Defs 4000).bind fun r62=>
  some (.inl (aR ((aR ((aR ((aR (n+1))+(x58.Needs.length:Int)))+r60))+r62),aR (i+1)))
 else
  some (.inr n)
def zE:Option Int:=loop (fun(zz:Int×Int)=>iC m zz.1 zz.2) (n,i)
theorem I6{y:(Int×Int)⊕(Int)}(h:iC m n i=some y):aU Pg GE 0 (cA b7 1015) (LQ (fun(zz:Int×Int)=>ky m zz.1 zz.2) (fun _=>.exit 8) (uL m) y) (ky m n i):=by
 obtain⟨o55,bo55,h⟩:=ay h
 have p57:=fun{sc F} (r:PS sc F)=>kr 1<|cW (K5 m n i bo55)<|r
 rcases bj h with⟨c56,h⟩|⟨c56,h⟩
 ·obtain⟨x58,bx58,h⟩:=ay h
  obtain⟨x59,bx59,h⟩:=ay h
  obtain⟨r60,br60,h⟩:=ay h
  obtain⟨x61,bx61,h⟩:=ay h
  obtain⟨r62,br62,h⟩:=ay h
  obtain rfl:=lf h
  exact n9 A7 (p57<|sg 0 c56<|lY [0,1,0,4,0,28,60,124,252,511,0,1024,0,7168,15360,31744,64512,130048,262143,0,524288,0,3670016,7864320,16252928,33291264,67108863,134217727]<|sv (kI m)<|sv (kO m)<|sv (qdW.ia (k:=.i64) bx58)<|sv (JN x58)<|sv (Ii x58)<|cm (qiQ.ln x58.Needs)<|sv (kI m)<|sv (kO m)<|sv (qdW.ia (k:=.i64) bx59)<|sv (JM x59)<|sv (J2 x59)<|sv (ck.mk' (v:=jC) eO ([x59.Type_]:List ae) 1 (by kernel_rfl))<|bz (gm br60)<|sv (kI m)<|sv (kO m)<|sv (qdW.ia (k:=.i64) bx61)<|sv (JO x61)<|sv (Ij x61)<|bz (Ap br62)<|eF .normal (ky m (aR ((aR ((aR ((aR (n+1))+(x58.Needs.length:Int)))+r60))+r62)) (aR (i+1))))<|by kernel_rfl
 ·obtain rfl:=lf h
  have z:=p57<|sg 0 c56<|eF (.exit 8) (uL m n)
  exact f6 A7 (by intro hx;cases hx) z<|by kernel_rfl
theorem K9{x:Int}(h:zE m n i=some x):aU Pg GE 0 (.loop (cA b7 1015)) (EX (.exit 8) (uL m x)) (ky m n i):=
 aU.loop (S:=fun(zz:Int×Int)=>ky m zz.1 zz.2) (ex:=(fun _=>.exit 8)) (s:=(n,i)) h fun zz y hy=>I6 m zz.1 zz.2 hy
end
section
variable(m:aH)(n:Int)(i:Int)
def Nk:aA:=be 303 [(1,.eptr (aB m)),(3,.int .i64 n),(9,.int .i64 i)] [.dead] []
def uI(o:Bool):aA:=be 303 [(1,.eptr (aB m)),(3,.int .i64 n),(9,.int .i64 i),(215,.bool o)] [.dead] []
def tv:Option Bool:=
 if(decide (i<(m.Measures.length:Int)))=true then
  some (decide (n<=4000))
 else
  some false
theorem K6{x:Bool}(h:tv m n i=some x):aU Pg GE 0 (cA b7 8156) (EX .normal (uI m n i x)) (Nk m n i):=by
 have p65:=fun{sc F} (r:PS sc F)=>sv (iJ m)<|sv (iK m)<|cm (qbO.ln m.Measures)<|r
 rcases bj h with⟨c64,h⟩|⟨c64,h⟩
 ·obtain rfl:=lf h
  exact cd A7 (p65<|sg 6 c64<|eF .normal (uI m n i (decide (n<=4000))))<|by kernel_rfl
 ·obtain rfl:=lf h
  exact cd A7 (p65<|sg 6 c64<|eF .normal (uI m n i false))<|by kernel_rfl
end
section
variable(m:aH)(n:Int)(i:Int)(k:Int)
def Nl:aA:=be 303 [(1,.eptr (aB m)),(3,.int .i64 n),(9,.int .i64 i),(10,.int .i64 k)] [.dead] []
def uJ(o:Bool):aA:=be 303 [(1,.eptr (aB m)),(3,.int .i64 n),(9,.int .i64 i),(10,.int .i64 k),(241,.bool o)] [.dead] []
def tw:Option Bool:=
 (cz m.Measures i).bind fun x71=>
 if(decide (k<(x71.Cases.length:Int)))=true then
  some (decide (n<=4000))
 else
  some false
theorem K7{x:Bool}(h:tw m n i k=some x):aU Pg GE 0 (cA b7 1044348) (EX .normal (uJ m n i k x)) (Nl m n i k):=by
 obtain⟨x71,bx71,h⟩:=ay h
 have p73:=fun{sc F} (r:PS sc F)=>sv (iJ m)<|sv (iK m)<|sv (qbO.ia (k:=.i64) bx71)<|sv (sT x71)<|sv (sU x71)<|cm (qgZ.ln x71.Cases)<|r
 rcases bj h with⟨c72,h⟩|⟨c72,h⟩
 ·obtain rfl:=lf h
  exact cd A7 (p73<|sg 10 c72<|eF .normal (uJ m n i k (decide (n<=4000))))<|by kernel_rfl
 ·obtain rfl:=lf h
  exact cd A7 (p73<|sg 10 c72<|eF .normal (uJ m n i k false))<|by kernel_rfl
end
section
variable(m:aH)(i:Int)(n:Int)(k:Int)
def kC:aA:=be 303 [(1,.eptr (aB m)),(3,.int .i64 n),(9,.int .i64 i),(10,.int .i64 k)] [.dead] []
def uN(o:Int):aA:=be 303 [(1,.eptr (aB m)),(3,.int .i64 o),(9,.int .i64 i)] [.dead] []
def iE:Option ((Int×Int)⊕(Int)):=
 (tw m n i k).bind fun o74=>
 if o74=true then
  (cz m.Measures i).bind fun x77=>
  (cz x77.Cases k).bind fun x78=>
  (cz m.Measures i).bind fun x79=>
  (cz x79.Cases k).bind fun x80=>
  (eV ([x80.Body]:List aa) 4000).bind fun r81=>
  some (.inl (aR ((aR ((aR (n+1))+(x78.Names.length:Int)))+r81),aR (k+1)))
 else
  some (.inr n)
def zG:Option Int:=loop (fun(zz:Int×Int)=>iE m i zz.1 zz.2) (n,k)
theorem I8{y:(Int×Int)⊕(Int)}(h:iE m i n k=some y):aU Pg GE 0 (cA b7 261087) (LQ (fun(zz:Int×Int)=>kC m i zz.1 zz.2) (fun _=>.exit 12) (uN m i) y) (kC m i n k):=by
 obtain⟨o74,bo74,h⟩:=ay h
 have p76:=fun{sc F} (r:PS sc F)=>kr 1<|cW (K7 m n i k bo74)<|r
 rcases bj h with⟨c75,h⟩|⟨c75,h⟩
 ·obtain⟨x77,bx77,h⟩:=ay h
  obtain⟨x78,bx78,h⟩:=ay h
  obtain⟨x79,bx79,h⟩:=ay h
  obtain⟨x80,bx80,h⟩:=ay h
  obtain⟨r81,br81,h⟩:=ay h
  obtain rfl:=lf h
  exact n9 A7 (p76<|sg 0 c75<|lY [0,1,0,4,0,28,60,124,0,508,1020,2044,4092,8191,0,16384,0,114688,245760,507904,0,2080768,4177920,8372224,16760832,33538048,67108863,134217727]<|sv (iJ m)<|sv (iK m)<|sv (qbO.ia (k:=.i64) bx77)<|sv (sT x77)<|sv (sU x77)<|sv (qgZ.ia (k:=.i64) bx78)<|sv (Sf x78)<|sv (Sv x78)<|cm (bp.ln x78.Names)<|sv (iJ m)<|sv (iK m)<|sv (qbO.ia (k:=.i64) bx79)<|sv (sT x79)<|sv (sU x79)<|sv (qgZ.ia (k:=.i64) bx80)<|sv (Sg x80)<|sv (Sw x80)<|sv (bL.mk' (v:=dW) cK ([x80.Body]:List aa) 1 (by kernel_rfl))<|bz (eW br81)<|eF .normal (kC m i (aR ((aR ((aR (n+1))+(x78.Names.length:Int)))+r81)) (aR (k+1))))<|by kernel_rfl
 ·obtain rfl:=lf h
  have z:=p76<|sg 0 c75<|eF (.exit 12) (uN m i n)
  exact f6 A7 (by intro hx;cases hx) z<|by kernel_rfl
theorem Lb{x:Int}(h:zG m i n k=some x):aU Pg GE 0 (.loop (cA b7 261087)) (EX (.exit 12) (uN m i x)) (kC m i n k):=
 aU.loop (S:=fun(zz:Int×Int)=>kC m i zz.1 zz.2) (ex:=(fun _=>.exit 12)) (s:=(n,k)) h fun zz y hy=>I8 m i zz.1 zz.2 hy
end
section
variable(m:aH)(n:Int)(i:Int)
def kz:aA:=be 303 [(1,.eptr (aB m)),(3,.int .i64 n),(9,.int .i64 i)] [.dead] []
def uM(o:Int):aA:=be 303 [(1,.eptr (aB m)),(3,.int .i64 o)] [.dead] []
def iD:Option ((Int×Int)⊕(Int)):=
 (tv m n i).bind fun o66=>
 if o66=true then
  (cz m.Measures i).bind fun x69=>
  (eV ([x69.Inv]:List aa) 4000).bind fun r70=>
  (zG m i (aR ((aR (n+1))+r70)) 0).bind fun o82=>
  some (.inl (o82,aR (i+1)))
 else
  some (.inr n)
def zF:Option Int:=loop (fun(zz:Int×Int)=>iD m zz.1 zz.2) (n,i)
theorem I7{y:(Int×Int)⊕(Int)}(h:iD m n i=some y):aU Pg GE 0 (cA b7 2039) (LQ (fun(zz:Int×Int)=>kz m zz.1 zz.2) (fun _=>.exit 10) (uM m) y) (kz m n i):=by
 obtain⟨o66,bo66,h⟩:=ay h
 have p68:=fun{sc F} (r:PS sc F)=>kr 1<|cW (K6 m n i bo66)<|r
 rcases bj h with⟨c67,h⟩|⟨c67,h⟩
 ·obtain⟨x69,bx69,h⟩:=ay h
  obtain⟨r70,br70,h⟩:=ay h
  obtain⟨o82,bo82,h⟩:=ay h
  obtain rfl:=lf h
  exact n9 A7 (p68<|sg 0 c67<|sv (iJ m)<|sv (iK m)<|sv (qbO.ia (k:=.i64) bx69)<|sv (Lz x69)<|sv (LJ x69)<|sv (bL.mk' (v:=dW) cK ([x69.Inv]:List aa) 1 (by kernel_rfl))<|bz (eW br70)<|cW (Lb m i (aR ((aR (n+1))+r70)) 0 bo82)<|eF .normal (kz m o82 (aR (i+1))))<|by kernel_rfl
 ·obtain rfl:=lf h
  have z:=p68<|sg 0 c67<|eF (.exit 10) (uM m n)
  exact f6 A7 (by intro hx;cases hx) z<|by kernel_rfl
theorem La{x:Int}(h:zF m n i=some x):aU Pg GE 0 (.loop (cA b7 2039)) (EX (.exit 10) (uM m x)) (kz m n i):=
 aU.loop (S:=fun(zz:Int×Int)=>kz m zz.1 zz.2) (ex:=(fun _=>.exit 10)) (s:=(n,i)) h fun zz y hy=>I7 m zz.1 zz.2 hy
end
section
variable(m:aH)(n:Int)(i:Int)
def Nm:aA:=be 303 [(1,.eptr (aB m)),(3,.int .i64 n),(11,.int .i64 i)] [.dead] []
def uK(o:Bool):aA:=be 303 [(1,.eptr (aB m)),(3,.int .i64 n),(11,.int .i64 i),(279,.bool o)] [.dead] []
def tx:Option Bool:=
 if(decide (i<(m.Quals.length:Int)))=true then
  some (decide (n<=4000))
 else
  some false
theorem K8{x:Bool}(h:tx m n i=some x):aU Pg GE 0 (cA b7 16348) (EX .normal (uK m n i x)) (Nm m n i):=by
 have p85:=fun{sc F} (r:PS sc F)=>sv (pE m)<|sv (pI m)<|cm (qfk.ln m.Quals)<|r
 rcases bj h with⟨c84,h⟩|⟨c84,h⟩
 ·obtain rfl:=lf h
  exact cd A7 (p85<|sg 6 c84<|eF .normal (uK m n i (decide (n<=4000))))<|by kernel_rfl
 ·obtain rfl:=lf h
  exact cd A7 (p85<|sg 6 c84<|eF .normal (uK m n i false))<|by kernel_rfl
end
section
variable(m:aH)(n:Int)(i:Int)
def kD:aA:=be 303 [(1,.eptr (aB m)),(3,.int .i64 n),(11,.int .i64 i)] [.dead] []
def uO(o:Int):aA:=be 303 [(3,.int .i64 o)] [.dead] []
def iF:Option ((Int×Int)⊕(Int)):=
 (tx m n i).bind fun o86=>
 if o86=true then
  (cz m.Quals i).bind fun x89=>
  (cz m.Quals i).bind fun x90=>
  (eV ([x90.Body]:List aa) 4000).bind fun r91=>
  some (.inl (aR ((aR ((aR (n+1))+(x89.Vars.length:Int)))+r91),aR (i+1)))
 else
  some (.inr n)
def zH:Option Int:=loop (fun(zz:Int×Int)=>iF m zz.1 zz.2) (n,i)
theorem I9{y:(Int×Int)⊕(Int)}(h:iF m n i=some y):aU Pg GE 0 (cA b7 4087) (LQ (fun(zz:Int×Int)=>kD m zz.1 zz.2) (fun _=>.exit 14) uO y) (kD m n i):=by
 obtain⟨o86,bo86,h⟩:=ay h
 have p88:=fun{sc F} (r:PS sc F)=>kr 1<|cW (K8 m n i bo86)<|r
 rcases bj h with⟨c87,h⟩|⟨c87,h⟩
 ·obtain⟨x89,bx89,h⟩:=ay h
  obtain⟨x90,bx90,h⟩:=ay h
  obtain⟨r91,br91,h⟩:=ay h
  obtain rfl:=lf h
  exact n9 A7 (p88<|sg 0 c87<|lY [0,1,0,4,0,28,60,124,252,511,0,1024,0,7168,15360,31744,64512,130048,262143,524287]<|sv (pE m)<|sv (pI m)<|sv (qfk.ia (k:=.i64) bx89)<|sv (So x89)<|sv (Sz x89)<|cm (IG.ln x89.Vars)<|sv (pE m)<|sv (pI m)<|sv (qfk.ia (k:=.i64) bx90)<|sv (Sp x90)<|sv (SA x90)<|sv (bL.mk' (v:=dW) cK ([x90.Body]:List aa) 1 (by kernel_rfl))<|bz (eW br91)<|eF .normal (kD m (aR ((aR ((aR (n+1))+(x89.Vars.length:Int)))+r91)) (aR (i+1))))<|by kernel_rfl
 ·obtain rfl:=lf h
  have z:=p88<|sg 0 c87<|eF (.exit 14) (uO n)
  exact f6 A7 (by intro hx;cases hx) z<|by kernel_rfl
theorem Lc{x:Int}(h:zH m n i=some x):aU Pg GE 0 (.loop (cA b7 4087)) (EX (.exit 14) (uO x)) (kD m n i):=
 aU.loop (S:=fun(zz:Int×Int)=>kD m zz.1 zz.2) (ex:=(fun _=>.exit 14)) (s:=(n,i)) h fun zz y hy=>I9 m zz.1 zz.2 hy
end
def FI(m:aH):Option Bool:=
 (BH m).bind fun o11=>
 if o11=true then
  some false
 else
  (oM m.Defs 4000).bind fun r14=>
  (BI m r14 0).bind fun o36=>
  (BK m o36 0).bind fun o52=>
  (zE m o52 0).bind fun o63=>
  (zF m o63 0).bind fun o83=>
  (zH m o83 0).bind fun o92=>
  some (decide (o92<=4000))
theorem Ux{m:aH}{r:Bool}(h:FI m=some r):CC Pg GE 7 [.agg (aB m)] (.bool r) []:=by
 obtain⟨o11,bo11,h⟩:=ay h
 have p13:=fun{sc F} (r:PS sc F)=>se (jm m)<|kr 1<|cW (Nn m bo11)<|r
 rcases bj h with⟨c12,h⟩|⟨c12,h⟩
 ·obtain rfl:=lf h
  have z:=p13<|sg 0 c12<|en (aI (rP (.bool false))<|trivial)
  exact bN A7 call7 func7 (c:=b7) rfl (aI (de m) trivial) z<|by kernel_rfl
 ·obtain⟨r14,br14,h⟩:=ay h
  obtain⟨o36,bo36,h⟩:=ay h
  obtain⟨o52,bo52,h⟩:=ay h
  obtain⟨o63,bo63,h⟩:=ay h
  obtain⟨o83,bo83,h⟩:=ay h
  obtain⟨o92,bo92,h⟩:=ay h
  obtain rfl:=lf h
  have z:=p13<|sg 0 c12<|sv (CZ m)<|sv (C3 m)<|bz (Ap br14)<|cW (Ns m r14 0 bo36)<|cW (Nu m o36 0 bo52)<|cW (K9 m o52 0 bo63)<|cW (La m o63 0 bo83)<|cW (Lc m o83 0 bo92)<|en (aI (rP (.bool (decide (o92<=4000))))<|trivial)
  exact bN A7 call7 func7 (c:=b7) rfl (aI (de m) trivial) z<|by kernel_rfl
abbrev xr:=(bX->Int->Option Int)
abbrev wv(R:xr):Prop:=∀(e:bX) (most:Int) (r:Int),R e most=some r->CC Pg GE 30 [.agg (aZ e),.int .i64 most] (.int .i64 r) []
abbrev yO:=(waC->Int->Option Int)
abbrev Dx(R:yO):Prop:=∀(a:waC) (most:Int) (r:Int),R a most=some r->CC Pg GE 51 [sl af a,.int .i64 most] (.int .i64 r) []
abbrev yN:=(waB->Int->Option Int)
abbrev Dw(R:yN):Prop:=∀(a:waB) (most:Int) (r:Int),R a most=some r->CC Pg GE 76 [sl ac a,.int .i64 most] (.int .i64 r) []
noncomputable def qjk:Code:=f76.body.getD .skip
def qhM:List Nat:=[39]
section
variable(v:waB)(most:Int)(n:Int)(i:Int)
def Pa:aA:=be 40 [(0,sl ac v),(1,.int .i64 most),(5,.int .i64 n),(6,.int .i64 i)] [] []
def wN(o:Bool):aA:=be 40 [(0,sl ac v),(1,.int .i64 most),(5,.int .i64 n),(6,.int .i64 i),(15,.bool o)] [] []
def vH:Option Bool:=
 if(decide (i<(v.length:Int)))=true then
  some (decide (n<=most))
 else
  some false
theorem M8{x:Bool}(h:vH v most n i=some x):aU Pg GE 0 (cA qjk 476) (EX .normal (wN v most n i x)) (Pa v most n i):=by
 rcases bj h with⟨c1,h⟩|⟨c1,h⟩
 ·obtain rfl:=lf h
  exact cd qhM (cm (bL.ln v)<|sg 5 c1<|eF .normal (wN v most n i (decide (n<=most))))<|by kernel_rfl
 ·obtain rfl:=lf h
  exact cd qhM (cm (bL.ln v)<|sg 5 c1<|eF .normal (wN v most n i false))<|by kernel_rfl
end
section
variable(R10:yN)(v:waB)(most:Int)(n:Int)(i:Int)
def mr:aA:=be 40 [(0,sl ac v),(1,.int .i64 most),(5,.int .i64 n),(6,.int .i64 i)] [] []
def wO(o:Int):aA:=be 40 [(5,.int .i64 o)] [] []
def jJ:Option ((Int×Int)⊕(Int)):=
 (vH v most n i).bind fun o2=>
 if o2=true then
  (cz v i).bind fun x5=>
  (qu .i64 (x5.Name.length:Int) 50).bind fun q6=>
  (cz v i).bind fun x7=>
  (R10 x7.Kids (aR (most - (aR ((aR (n+1))+q6))))).bind fun r8=>
  some (.inl (aR ((aR ((aR (n+1))+q6))+r8),aR (i+1)))
 else
  some (.inr n)
def BC:Option Int:=loop (fun(zz:Int×Int)=>jJ R10 v most zz.1 zz.2) (n,i)
theorem KZ(hR10:Dw R10){y:(Int×Int)⊕(Int)}(h:jJ R10 v most n i=some y):aU Pg GE 0 (cA qjk 119) (LQ (fun(zz:Int×Int)=>mr v most zz.1 zz.2) (fun _=>.exit 0) wO y) (mr v most n i):=by
 obtain⟨o2,bo2,h⟩:=ay h
 have p4:=fun{sc F} (r:PS sc F)=>kr 1<|cW (M8 v most n i bo2)<|r
 rcases bj h with⟨c3,h⟩|⟨c3,h⟩
 ·obtain⟨x5,bx5,h⟩:=ay h
  obtain⟨q6,bq6,h⟩:=ay h
  obtain⟨x7,bx7,h⟩:=ay h
  obtain⟨r8,br8,h⟩:=ay h
  obtain rfl:=lf h
  exact n9 qhM (p4<|sg 0 c3<|sv (bL.ia (k:=.i64) bx5)<|sv (cp x5)<|sv (cO x5)<|cm (iz underlying9 x5.Name)<|sv (Ax (P:=Pg) (t:=3) bq6)<|sv (bL.ia (k:=.i64) bx7)<|sv (bA x7)<|sv (bC x7)<|bz (hR10 _ _ _ br8)<|eF .normal (mr v most (aR ((aR ((aR (n+1))+q6))+r8)) (aR (i+1))))<|by kernel_rfl
 ·obtain rfl:=lf h
  have z:=p4<|sg 0 c3<|eF (.exit 0) (wO n)
  exact f6 qhM (by intro hx;cases hx) z<|by kernel_rfl
theorem M9(hR10:Dw R10){x:Int}(h:BC R10 v most n i=some x):aU Pg GE 0 (.loop (cA qjk 119)) (EX (.exit 0) (wO x)) (mr v most n i):=
 aU.loop (S:=fun(zz:Int×Int)=>mr v most zz.1 zz.2) (ex:=(fun _=>.exit 0)) (s:=(n,i)) h fun zz y hy=>KZ R10 v most zz.1 zz.2 hR10 hy
end
def yG(R10:yN)(a:waB)(most:Int):Option Int:=
 (BC R10 a most 0 0).bind fun o9=>
 some o9
theorem RO(R10:yN)(hR10:Dw R10){a:waB}{most:Int}{r:Int}(h:yG R10 a most=some r):CC Pg GE 76 [sl ac a,.int .i64 most] (.int .i64 r) []:=by
 obtain⟨o9,bo9,h⟩:=ay h
 obtain rfl:=lf h
 have z:=cW (M9 R10 a most 0 0 hR10 bo9)<|en (aI (rP (.int .i64 o9))<|trivial)
 exact bN qhM call76 func76 (c:=qjk) rfl (aI (aj ah a) (aI trivial trivial)) z<|by kernel_rfl
def Ec:((waB×Int)->Option Int)->(waB×Int)->Option Int:=fun(rec:(waB×Int)->Option Int) (x:waB×Int)=>yG (fun a most=>rec (a,most)) x.1 x.2
def KY(a:waB)(most:Int):Option Int:=kJ Ec (a,most)
theorem Uv{a:waB}{most:Int}{r:Int}(h:KY a most=some r):CC Pg GE 76 [sl ac a,.int .i64 most] (.int .i64 r) []:=
 cy (F:=Ec) (M:=fun(x:waB×Int) (r:Int)=>CC Pg GE 76 [sl ac x.1,.int .i64 x.2] (.int .i64 r) []) (fun rec hrec x r h=>RO _ (fun a most r h=>hrec (a,most) r h) h) h
noncomputable def qjf:Code:=f51.body.getD .skip
def qhI:List Nat:=[61]
section
variable(v:waC)(most:Int)(n:Int)(i:Int)
def Pb:aA:=be 62 [(0,sl af v),(1,.int .i64 most),(5,.int .i64 n),(6,.int .i64 i)] [] []
def wP(o:Bool):aA:=be 62 [(0,sl af v),(1,.int .i64 most),(5,.int .i64 n),(6,.int .i64 i),(15,.bool o)] [] []
def vI:Option Bool:=
 if(decide (i<(v.length:Int)))=true then
  some (decide (n<=most))
 else
  some false
theorem Na{x:Bool}(h:vI v most n i=some x):aU Pg GE 0 (cA qjf 476) (EX .normal (wP v most n i x)) (Pb v most n i):=by
 rcases bj h with⟨c1,h⟩|⟨c1,h⟩
 ·obtain rfl:=lf h
  exact cd qhI (cm (ck.ln v)<|sg 5 c1<|eF .normal (wP v most n i (decide (n<=most))))<|by kernel_rfl
 ·obtain rfl:=lf h
  exact cd qhI (cm (ck.ln v)<|sg 5 c1<|eF .normal (wP v most n i false))<|by kernel_rfl
end
section
variable(R9:yO)(v:waC)(most:Int)(n:Int)(i:Int)
def ms:aA:=be 62 [(0,sl af v),(1,.int .i64 most),(5,.int .i64 n),(6,.int .i64 i)] [] []
def wQ(o:Int):aA:=be 62 [(5,.int .i64 o)] [] []
def jK:Option ((Int×Int)⊕(Int)):=
 (vI v most n i).bind fun o2=>
 if o2=true then
  (cz v i).bind fun x5=>
  (qu .i64 (x5.Name.length:Int) 50).bind fun q6=>
  (cz v i).bind fun x7=>
  (cz v i).bind fun x8=>
  (cz v i).bind fun x9=>
  (app ([x8.Pred]:List aa) x9.Preds).bind fun l10=>
  (KY l10 most).bind fun r11=>
  (cz v i).bind fun x12=>
  (R9 x12.Args (aR (most - (aR ((aR ((aR ((aR (n+1))+q6))+(x7.Names.length:Int)))+r11))))).bind fun r13=>
  some (.inl (aR ((aR ((aR ((aR ((aR (n+1))+q6))+(x7.Names.length:Int)))+r11))+r13),aR (i+1)))
 else
  some (.inr n)
def BD:Option Int:=loop (fun(zz:Int×Int)=>jK R9 v most zz.1 zz.2) (n,i)
theorem K0(hR9:Dx R9){y:(Int×Int)⊕(Int)}(h:jK R9 v most n i=some y):aU Pg GE 0 (cA qjf 119) (LQ (fun(zz:Int×Int)=>ms v most zz.1 zz.2) (fun _=>.exit 0) wQ y) (ms v most n i):=by
 obtain⟨o2,bo2,h⟩:=ay h
 have p4:=fun{sc F} (r:PS sc F)=>kr 1<|cW (Na v most n i bo2)<|r
 rcases bj h with⟨c3,h⟩|⟨c3,h⟩
 ·obtain⟨x5,bx5,h⟩:=ay h
  obtain⟨q6,bq6,h⟩:=ay h
  obtain⟨x7,bx7,h⟩:=ay h
  obtain⟨x8,bx8,h⟩:=ay h
  obtain⟨x9,bx9,h⟩:=ay h
  obtain⟨l10,bl10,h⟩:=ay h
  obtain⟨r11,br11,h⟩:=ay h
  obtain⟨x12,bx12,h⟩:=ay h
  obtain⟨r13,br13,h⟩:=ay h
  obtain rfl:=lf h
  exact n9 qhI (p4<|sg 0 c3<|lY [0,1,0,0,12,28,60,124,252,511,0,0,3072,7168,15360,31744,65535,0,0,393216,917504,1966080,4063232,0,0,25165824,58720256,125829120,268304384,0,1073610752,2147483647,4294967295]<|sv (ck.ia (k:=.i64) bx5)<|sv (cq x5)<|sv (cP x5)<|cm (iz underlying9 x5.Name)<|sv (Ax (P:=Pg) (t:=3) bq6)<|sv (ck.ia (k:=.i64) bx7)<|sv (aO x7)<|sv (aP x7)<|cm (bp.ln x7.Names)<|sv (ck.ia (k:=.i64) bx8)<|sv (dE x8)<|sv (dF x8)<|sv (bL.mk' (v:=dW) cK ([x8.Pred]:List aa) 1 (by kernel_rfl))<|sv (ck.ia (k:=.i64) bx9)<|sv (dq x9)<|sv (dt x9)<|sv (bL.ap bl10)<|bz (Uv br11)<|sv (ck.ia (k:=.i64) bx12)<|sv (aK x12)<|sv (aL x12)<|bz (hR9 _ _ _ br13)<|eF .normal (ms v most (aR ((aR ((aR ((aR ((aR (n+1))+q6))+(x7.Names.length:Int)))+r11))+r13)) (aR (i+1))))<|by kernel_rfl
 ·obtain rfl:=lf h
  have z:=p4<|sg 0 c3<|eF (.exit 0) (wQ n)
  exact f6 qhI (by intro hx;cases hx) z<|by kernel_rfl
theorem Nb(hR9:Dx R9){x:Int}(h:BD R9 v most n i=some x):aU Pg GE 0 (.loop (cA qjf 119)) (EX (.exit 0) (wQ x)) (ms v most n i):=
 aU.loop (S:=fun(zz:Int×Int)=>ms v most zz.1 zz.2) (ex:=(fun _=>.exit 0)) (s:=(n,i)) h fun zz y hy=>K0 R9 v most zz.1 zz.2 hR9 hy
end
def yH(R9:yO)(a:waC)(most:Int):Option Int:=
 (BD R9 a most 0 0).bind fun o14=>
 some o14
theorem RP(R9:yO)(hR9:Dx R9){a:waC}{most:Int}{r:Int}(h:yH R9 a most=some r):CC Pg GE 51 [sl af a,.int .i64 most] (.int .i64 r) []:=by
 obtain⟨o14,bo14,h⟩:=ay h
 obtain rfl:=lf h
 have z:=cW (Nb R9 a most 0 0 hR9 bo14)<|en (aI (rP (.int .i64 o14))<|trivial)
 exact bN qhI call51 func51 (c:=qjf) rfl (aI (aj ak a) (aI trivial trivial)) z<|by kernel_rfl
def Ed:((waC×Int)->Option Int)->(waC×Int)->Option Int:=fun(rec:(waC×Int)->Option Int) (x:waC×Int)=>yH (fun a most=>rec (a,most)) x.1 x.2
def FH(a:waC)(most:Int):Option Int:=kJ Ed (a,most)
theorem I5{a:waC}{most:Int}{r:Int}(h:FH a most=some r):CC Pg GE 51 [sl af a,.int .i64 most] (.int .i64 r) []:=
 cy (F:=Ed) (M:=fun(x:waC×Int) (r:Int)=>CC Pg GE 51 [sl af x.1,.int .i64 x.2] (.int .i64 r) []) (fun rec hrec x r h=>RP _ (fun a most r h=>hrec (a,most) r h) h) h
noncomputable def qjg:Code:=f52.body.getD .skip
def qhJ:List Nat:=[27]
section
variable(v:waA)(most:Int)(n:Int)(i:Int)
def O9:aA:=be 28 [(0,sl cS v),(1,.int .i64 most),(5,.int .i64 n),(6,.int .i64 i)] [] []
def wL(o:Bool):aA:=be 28 [(0,sl cS v),(1,.int .i64 most),(5,.int .i64 n),(6,.int .i64 i),(15,.bool o)] [] []
def I3:Option Bool:=
 if(decide (i<(v.length:Int)))=true then
  some (decide (n<=most))
 else
  some false
theorem M6{x:Bool}(h:I3 v most n i=some x):aU Pg GE 0 (cA qjg 476) (EX .normal (wL v most n i x)) (O9 v most n i):=by
 rcases bj h with⟨c1,h⟩|⟨c1,h⟩
 ·obtain rfl:=lf h
  exact cd qhJ (cm (bp.ln v)<|sg 5 c1<|eF .normal (wL v most n i (decide (n<=most))))<|by kernel_rfl
 ·obtain rfl:=lf h
  exact cd qhJ (cm (bp.ln v)<|sg 5 c1<|eF .normal (wL v most n i false))<|by kernel_rfl
end
section
variable(v:waA)(most:Int)(n:Int)(i:Int)
def mq:aA:=be 28 [(0,sl cS v),(1,.int .i64 most),(5,.int .i64 n),(6,.int .i64 i)] [] []
def wM(o:Int):aA:=be 28 [(5,.int .i64 o)] [] []
def Eb:Option ((Int×Int)⊕(Int)):=
 (I3 v most n i).bind fun o2=>
 if o2=true then
  (cz v i).bind fun x5=>
  (qu .i64 (x5.length:Int) 50).bind fun q6=>
  some (.inl (aR ((aR (n+1))+q6),aR (i+1)))
 else
  some (.inr n)
def I4:Option Int:=loop (fun(zz:Int×Int)=>Eb v most zz.1 zz.2) (n,i)
theorem KX{y:(Int×Int)⊕(Int)}(h:Eb v most n i=some y):aU Pg GE 0 (cA qjg 119) (LQ (fun(zz:Int×Int)=>mq v most zz.1 zz.2) (fun _=>.exit 0) wM y) (mq v most n i):=by
 obtain⟨o2,bo2,h⟩:=ay h
 have p4:=fun{sc F} (r:PS sc F)=>kr 1<|cW (M6 v most n i bo2)<|r
 rcases bj h with⟨c3,h⟩|⟨c3,h⟩
 ·obtain⟨x5,bx5,h⟩:=ay h
  obtain⟨q6,bq6,h⟩:=ay h
  obtain rfl:=lf h
  exact n9 qhJ (p4<|sg 0 c3<|sv (bp.ia (k:=.i64) bx5)<|sv (dH Ba (.str x5) [])<|cm (iz underlying9 x5)<|sv (Ax (P:=Pg) (t:=3) bq6)<|eF .normal (mq v most (aR ((aR (n+1))+q6)) (aR (i+1))))<|by kernel_rfl
 ·obtain rfl:=lf h
  have z:=p4<|sg 0 c3<|eF (.exit 0) (wM n)
  exact f6 qhJ (by intro hx;cases hx) z<|by kernel_rfl
theorem M7{x:Int}(h:I4 v most n i=some x):aU Pg GE 0 (.loop (cA qjg 119)) (EX (.exit 0) (wM x)) (mq v most n i):=
 aU.loop (S:=fun(zz:Int×Int)=>mq v most zz.1 zz.2) (ex:=(fun _=>.exit 0)) (s:=(n,i)) h fun zz y hy=>KX v most zz.1 zz.2 hy
end
def SP(a:waA)(most:Int):Option Int:=
 (I4 a most 0 0).bind fun o7=>
 some o7
theorem Uu{a:waA}{most:Int}{r:Int}(h:SP a most=some r):CC Pg GE 52 [sl cS a,.int .i64 most] (.int .i64 r) []:=by
 obtain⟨o7,bo7,h⟩:=ay h
 obtain rfl:=lf h
 have z:=cW (M7 a most 0 0 bo7)<|en (aI (rP (.int .i64 o7))<|trivial)
 exact bN qhJ call52 func52 (c:=qjg) rfl (aI (aj dQ a) (aI trivial trivial)) z<|by kernel_rfl
end Go.Proofs.YtbaamopmfmpfaaaGreatDoor
