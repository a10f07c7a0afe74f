/- PROVED: a part of the proof. Conditions: none. -/
import Derived.Test.YtbaamopmfmpfaaaGreatDoorPkC9
noncomputable section
namespace Go.Proofs.YtbaamopmfmpfaaaGreatDoor
open Go Go.Proofs.Tryz
set_option linter.unusedVariables false
set_option maxRecDepth 100000
abbrev lp:=(waC->Int->Option Int)
abbrev pq(R:lp):Prop:=∀(a:waC) (most:Int) (r:Int),R a most=some r->CC Pg GE 28 [sl af a,.int .i64 most] (.int .i64 r) []
abbrev lm:=(waB->Int->Option Int)
abbrev pp(R:lm):Prop:=∀(a:waB) (most:Int) (r:Int),R a most=some r->CC Pg GE 29 [sl ac a,.int .i64 most] (.int .i64 r) []
noncomputable def qbX:Code:=f29.body.getD .skip
def qaC:List Nat:=[39]
section
variable(v:waB)(most:Int)(n:Int)(i:Int)
def Cc:az:=aY 40 [(0,sl ac v),(1,.int .i64 most),(5,.int .i64 n),(6,.int .i64 i)] [] []
def lL(o:Bool):az:=aY 40 [(0,sl ac v),(1,.int .i64 most),(5,.int .i64 n),(6,.int .i64 i),(15,.bool o)] [] []
def j9:Option Bool:=
 if(decide (i<(v.length:Int)))=true then
  some (decide (n<=most))
 else
  some false
theorem Al{x:Bool}(h:j9 v most n i=some x):aT Pg GE 0 (cA qbX 476) (EX .normal (lL v most n i x)) (Cc v most n i):=by
 rcases aZ h with⟨c1,h⟩|⟨c1,h⟩
 ·obtain rfl:=lf h
  exact cw qaC (cz (ck.ln v)<|sg 5 c1<|eF .normal (lL v most n i (decide (n<=most))))<|by kernel_rfl
 ·obtain rfl:=lf h
  exact cw qaC (cz (ck.ln v)<|sg 5 c1<|eF .normal (lL v most n i false))<|by kernel_rfl
end
section
variable(R5:lm)(v:waB)(most:Int)(n:Int)(i:Int)
def fR:az:=aY 40 [(0,sl ac v),(1,.int .i64 most),(5,.int .i64 n),(6,.int .i64 i)] [] []
def lM(o:Int):az:=aY 40 [(5,.int .i64 o)] [] []
def eC:Option ((Int×Int)⊕(Int)):=
 (j9 v most n i).bind fun o2=>
 if o2=true then
  (cR v i).bind fun x5=>
  (qu .i64 (x5.Name.length:Int) 100).bind fun q6=>
  (cR v i).bind fun x7=>
  (R5 x7.Kids (aR (most - (aR ((aR (n+1))+q6))))).bind fun r8=>
  some (.inl (aR ((aR ((aR (n+1))+q6))+r8),aR (i+1)))
 else
  some (.inr n)
def oe:Option Int:=loop (fun(zz:Int×Int)=>eC R5 v most zz.1 zz.2) (n,i)
theorem za(hR5:pp R5){y:(Int×Int)⊕(Int)}(h:eC R5 v most n i=some y):aT Pg GE 0 (cA qbX 119) (LQ (fun(zz:Int×Int)=>fR v most zz.1 zz.2) (fun _=>.exit 0) lM y) (fR v most n i):=by
 obtain⟨o2,bo2,h⟩:=aB h
 have p4:=fun{sc F} (r:PS sc F)=>nD 1<|di (Al v most n i bo2)<|r
 rcases aZ h with⟨c3,h⟩|⟨c3,h⟩
 ·obtain⟨x5,bx5,h⟩:=aB h
  obtain⟨q6,bq6,h⟩:=aB h
  obtain⟨x7,bx7,h⟩:=aB h
  obtain⟨r8,br8,h⟩:=aB h
  obtain rfl:=lf h
  exact rU qaC (p4<|sg 0 c3<|sv (ck.ia (k:=.i64) bx5)<|sv (cC x5)<|sv (cN x5)<|cz (gI underlying9 x5.Name)<|sv (yX (P:=Pg) (t:=3) bq6)<|sv (ck.ia (k:=.i64) bx7)<|sv (bq x7)<|sv (bu x7)<|bT (hR5 _ _ _ br8)<|eF .normal (fR v most (aR ((aR ((aR (n+1))+q6))+r8)) (aR (i+1))))<|by kernel_rfl
 ·obtain rfl:=lf h
  have z:=p4<|sg 0 c3<|eF (.exit 0) (lM n)
  exact i7 qaC (by intro hx;cases hx) z<|by kernel_rfl
theorem Am(hR5:pp R5){x:Int}(h:oe R5 v most n i=some x):aT Pg GE 0 (.loop (cA qbX 119)) (EX (.exit 0) (lM x)) (fR v most n i):=
 aT.loop (S:=fun(zz:Int×Int)=>fR v most zz.1 zz.2) (ex:=(fun _=>.exit 0)) (s:=(n,i)) h fun zz y hy=>za R5 v most zz.1 zz.2 hR5 hy
end
def lk(R5:lm)(a:waB)(most:Int):Option Int:=
 (oe R5 a most 0 0).bind fun o9=>
 some o9
theorem Da(R5:lm)(hR5:pp R5){a:waB}{most:Int}{r:Int}(h:lk R5 a most=some r):CC Pg GE 29 [sl ac a,.int .i64 most] (.int .i64 r) []:=by
 obtain⟨o9,bo9,h⟩:=aB h
 obtain rfl:=lf h
 have z:=di (Am R5 a most 0 0 hR5 bo9)<|en (aI (rP (.int .i64 o9))<|trivial)
 exact cn qaC call29 func29 (c:=qbX) rfl (aI (aq ah a) (aI trivial trivial)) z<|by kernel_rfl
def pz:((waB×Int)->Option Int)->(waB×Int)->Option Int:=fun(rec:(waB×Int)->Option Int) (x:waB×Int)=>lk (fun a most=>rec (a,most)) x.1 x.2
def ec(a:waB)(most:Int):Option Int:=oG pz (a,most)
theorem ed{a:waB}{most:Int}{r:Int}(h:ec a most=some r):CC Pg GE 29 [sl ac a,.int .i64 most] (.int .i64 r) []:=
 cU (F:=pz) (M:=fun(x:waB×Int) (r:Int)=>CC Pg GE 29 [sl ac x.1,.int .i64 x.2] (.int .i64 r) []) (fun rec hrec x r h=>Da _ (fun a most r h=>hrec (a,most) r h) h) h
noncomputable def qbW:Code:=f28.body.getD .skip
def qaB:List Nat:=[63]
section
variable(v:waC)(most:Int)(n:Int)(i:Int)
def Cd:az:=aY 64 [(0,sl af v),(1,.int .i64 most),(5,.int .i64 n),(6,.int .i64 i)] [] []
def lN(o:Bool):az:=aY 64 [(0,sl af v),(1,.int .i64 most),(5,.int .i64 n),(6,.int .i64 i),(15,.bool o)] [] []
def ka:Option Bool:=
 if(decide (i<(v.length:Int)))=true then
  some (decide (n<=most))
 else
  some false
theorem An{x:Bool}(h:ka v most n i=some x):aT Pg GE 0 (cA qbW 476) (EX .normal (lN v most n i x)) (Cd v most n i):=by
 rcases aZ h with⟨c1,h⟩|⟨c1,h⟩
 ·obtain rfl:=lf h
  exact cw qaB (cz (cX.ln v)<|sg 5 c1<|eF .normal (lN v most n i (decide (n<=most))))<|by kernel_rfl
 ·obtain rfl:=lf h
  exact cw qaB (cz (cX.ln v)<|sg 5 c1<|eF .normal (lN v most n i false))<|by kernel_rfl
end
section
variable(R4:lp)(v:waC)(most:Int)(n:Int)(i:Int)
def fS:az:=aY 64 [(0,sl af v),(1,.int .i64 most),(5,.int .i64 n),(6,.int .i64 i)] [] []
def lO(o:Int):az:=aY 64 [(5,.int .i64 o)] [] []
def eD:Option ((Int×Int)⊕(Int)):=
 (ka v most n i).bind fun o2=>
 if o2=true then
  (cR v i).bind fun x5=>
  (qu .i64 (x5.Name.length:Int) 100).bind fun q6=>
  (cR v i).bind fun x7=>
  (cR v i).bind fun x8=>
  (ec x8.Preds most).bind fun r9=>
  (cR v i).bind fun x10=>
  (ec ([x10.Pred]:List aa) most).bind fun r11=>
  (cR v i).bind fun x12=>
  (R4 x12.Args (aR (most - (aR ((aR ((aR ((aR ((aR (n+1))+q6))+(x7.Names.length:Int)))+r9))+r11))))).bind fun r13=>
  some (.inl (aR ((aR ((aR ((aR ((aR ((aR (n+1))+q6))+(x7.Names.length:Int)))+r9))+r11))+r13),aR (i+1)))
 else
  some (.inr n)
def og:Option Int:=loop (fun(zz:Int×Int)=>eD R4 v most zz.1 zz.2) (n,i)
theorem zb(hR4:pq R4){y:(Int×Int)⊕(Int)}(h:eD R4 v most n i=some y):aT Pg GE 0 (cA qbW 119) (LQ (fun(zz:Int×Int)=>fS v most zz.1 zz.2) (fun _=>.exit 0) lO y) (fS v most n i):=by
 obtain⟨o2,bo2,h⟩:=aB h
 have p4:=fun{sc F} (r:PS sc F)=>nD 1<|di (An v most n i bo2)<|r
 rcases aZ h with⟨c3,h⟩|⟨c3,h⟩
 ·obtain⟨x5,bx5,h⟩:=aB h
  obtain⟨q6,bq6,h⟩:=aB h
  obtain⟨x7,bx7,h⟩:=aB h
  obtain⟨x8,bx8,h⟩:=aB h
  obtain⟨r9,br9,h⟩:=aB h
  obtain⟨x10,bx10,h⟩:=aB h
  obtain⟨r11,br11,h⟩:=aB h
  obtain⟨x12,bx12,h⟩:=aB h
  obtain⟨r13,br13,h⟩:=aB h
  obtain rfl:=lf h
  exact rU qaB (p4<|sg 0 c3<|qX [0,1,0,0,12,28,60,124,252,511,0,0,3072,7168,15360,31744,65535,0,0,393216,917504,1966080,0,8257536,16777215,0,0,100663296,234881024,503316480,1040187392,0,4278059008,8589934591,17179869183]<|sv (cX.ia (k:=.i64) bx5)<|sv (df x5)<|sv (dA x5)<|cz (gI underlying9 x5.Name)<|sv (yX (P:=Pg) (t:=3) bq6)<|sv (cX.ia (k:=.i64) bx7)<|sv (bh x7)<|sv (bj x7)<|cz (bJ.ln x7.Names)<|sv (cX.ia (k:=.i64) bx8)<|sv (dJ x8)<|sv (dM x8)<|bT (ed br9)<|sv (cX.ia (k:=.i64) bx10)<|sv (d8 x10)<|sv (d9 x10)<|sv (ck.mk' (v:=fe) dl ([x10.Pred]:List aa) 1 (by kernel_rfl))<|bT (ed br11)<|sv (cX.ia (k:=.i64) bx12)<|sv (aW x12)<|sv (aX x12)<|bT (hR4 _ _ _ br13)<|eF .normal (fS v most (aR ((aR ((aR ((aR ((aR ((aR (n+1))+q6))+(x7.Names.length:Int)))+r9))+r11))+r13)) (aR (i+1))))<|by kernel_rfl
 ·obtain rfl:=lf h
  have z:=p4<|sg 0 c3<|eF (.exit 0) (lO n)
  exact i7 qaB (by intro hx;cases hx) z<|by kernel_rfl
theorem Ao(hR4:pq R4){x:Int}(h:og R4 v most n i=some x):aT Pg GE 0 (.loop (cA qbW 119)) (EX (.exit 0) (lO x)) (fS v most n i):=
 aT.loop (S:=fun(zz:Int×Int)=>fS v most zz.1 zz.2) (ex:=(fun _=>.exit 0)) (s:=(n,i)) h fun zz y hy=>zb R4 v most zz.1 zz.2 hR4 hy
end
def ll(R4:lp)(a:waC)(most:Int):Option Int:=
 (og R4 a most 0 0).bind fun o14=>
 some o14
theorem Db(R4:lp)(hR4:pq R4){a:waC}{most:Int}{r:Int}(h:ll R4 a most=some r):CC Pg GE 28 [sl af a,.int .i64 most] (.int .i64 r) []:=by
 obtain⟨o14,bo14,h⟩:=aB h
 obtain rfl:=lf h
 have z:=di (Ao R4 a most 0 0 hR4 bo14)<|en (aI (rP (.int .i64 o14))<|trivial)
 exact cn qaB call28 func28 (c:=qbW) rfl (aI (aq av a) (aI trivial trivial)) z<|by kernel_rfl
def pA:((waC×Int)->Option Int)->(waC×Int)->Option Int:=fun(rec:(waC×Int)->Option Int) (x:waC×Int)=>ll (fun a most=>rec (a,most)) x.1 x.2
def fg(a:waC)(most:Int):Option Int:=oG pA (a,most)
theorem fC{a:waC}{most:Int}{r:Int}(h:fg a most=some r):CC Pg GE 28 [sl af a,.int .i64 most] (.int .i64 r) []:=
 cU (F:=pA) (M:=fun(x:waC×Int) (r:Int)=>CC Pg GE 28 [sl af x.1,.int .i64 x.2] (.int .i64 r) []) (fun rec hrec x r h=>Db _ (fun a most r h=>hrec (a,most) r h) h) h
abbrev qG:=(bL->Int->Option Int)
abbrev qB(R:qG):Prop:=∀(e:bL) (most:Int) (r:Int),R e most=some r->CC Pg GE 50 [.agg (aP e),.int .i64 most] (.int .i64 r) []
noncomputable def Xn:Code:=f50.body.getD .skip
def TM:List Nat:=[107]
section
variable(most:Int)(e:bL)(n:Int)(i:Int)
def Jz:az:=aY 108 [(1,.int .i64 most),(2,.eptr (aP e)),(5,.int .i64 n),(6,.int .i64 i)] [.dead] []
def tj(o:Bool):az:=aY 108 [(1,.int .i64 most),(2,.eptr (aP e)),(5,.int .i64 n),(6,.int .i64 i),(28,.bool o)] [.dead] []
def sj:Option Bool:=
 if(decide (i<(e.Params.length:Int)))=true then
  some (decide (n<=most))
 else
  some false
theorem HV{x:Bool}(h:sj most e n i=some x):aT Pg GE 0 (cA Xn 476) (EX .normal (tj most e n i x)) (Jz most e n i):=by
 have p4:=fun{sc F} (r:PS sc F)=>sv (jZ e)<|sv (j0 e)<|cz (U0.ln e.Params)<|r
 rcases aZ h with⟨c3,h⟩|⟨c3,h⟩
 ·obtain rfl:=lf h
  exact cw TM (p4<|sg 6 c3<|eF .normal (tj most e n i (decide (n<=most))))<|by kernel_rfl
 ·obtain rfl:=lf h
  exact cw TM (p4<|sg 6 c3<|eF .normal (tj most e n i false))<|by kernel_rfl
end
section
variable(most:Int)(e:bL)(n:Int)(i:Int)
def kr:az:=aY 108 [(1,.int .i64 most),(2,.eptr (aP e)),(5,.int .i64 n),(6,.int .i64 i)] [.dead] []
def tp(o:Int):az:=aY 108 [(1,.int .i64 most),(2,.eptr (aP e)),(5,.int .i64 o)] [.dead] []
def iH:Option ((Int×Int)⊕(Int)):=
 (sj most e n i).bind fun o5=>
 if o5=true then
  (cR e.Params i).bind fun x8=>
  (qu .i64 (x8.Name.length:Int) 100).bind fun q9=>
  (cR e.Params i).bind fun x10=>
  (fg ([x10.Type_]:List ae) most).bind fun r11=>
  some (.inl (aR ((aR ((aR (n+1))+q9))+r11),aR (i+1)))
 else
  some (.inr n)
def xP:Option Int:=loop (fun(zz:Int×Int)=>iH most e zz.1 zz.2) (n,i)
theorem FW{y:(Int×Int)⊕(Int)}(h:iH most e n i=some y):aT Pg GE 0 (cA Xn 119) (LQ (fun(zz:Int×Int)=>kr most e zz.1 zz.2) (fun _=>.exit 0) (tp most e) y) (kr most e n i):=by
 obtain⟨o5,bo5,h⟩:=aB h
 have p7:=fun{sc F} (r:PS sc F)=>nD 1<|di (HV most e n i bo5)<|r
 rcases aZ h with⟨c6,h⟩|⟨c6,h⟩
 ·obtain⟨x8,bx8,h⟩:=aB h
  obtain⟨q9,bq9,h⟩:=aB h
  obtain⟨x10,bx10,h⟩:=aB h
  obtain⟨r11,br11,h⟩:=aB h
  obtain rfl:=lf h
  exact rU TM (p7<|sg 0 c6<|qX [0,1,0,4,0,28,60,124,252,508,1023,0,2048,0,14336,30720,63488,129024,0,522240,1048575,2097151]<|sv (jZ e)<|sv (j0 e)<|sv (U0.ia (k:=.i64) bx8)<|sv (y2 x8)<|sv (CS x8)<|cz (gI underlying9 x8.Name)<|sv (yX (P:=Pg) (t:=3) bq9)<|sv (jZ e)<|sv (j0 e)<|sv (U0.ia (k:=.i64) bx10)<|sv (y3 x10)<|sv (AY x10)<|sv (cX.mk' (v:=lE) gm ([x10.Type_]:List ae) 1 (by kernel_rfl))<|bT (fC br11)<|eF .normal (kr most e (aR ((aR ((aR (n+1))+q9))+r11)) (aR (i+1))))<|by kernel_rfl
 ·obtain rfl:=lf h
  have z:=p7<|sg 0 c6<|eF (.exit 0) (tp most e n)
  exact i7 TM (by intro hx;cases hx) z<|by kernel_rfl
theorem HY{x:Int}(h:xP most e n i=some x):aT Pg GE 0 (.loop (cA Xn 119)) (EX (.exit 0) (tp most e x)) (kr most e n i):=
 aT.loop (S:=fun(zz:Int×Int)=>kr most e zz.1 zz.2) (ex:=(fun _=>.exit 0)) (s:=(n,i)) h fun zz y hy=>FW most e zz.1 zz.2 hy
end
section
variable(most:Int)(e:bL)(n:Int)(i:Int)
def JA:az:=aY 108 [(1,.int .i64 most),(2,.eptr (aP e)),(5,.int .i64 n),(7,.int .i64 i)] [.dead] []
def tk(o:Bool):az:=aY 108 [(1,.int .i64 most),(2,.eptr (aP e)),(5,.int .i64 n),(7,.int .i64 i),(61,.bool o)] [.dead] []
def sk:Option Bool:=
 if(decide (i<(e.Kids.length:Int)))=true then
  some (decide (n<=most))
 else
  some false
theorem HW{x:Bool}(h:sk most e n i=some x):aT Pg GE 0 (cA Xn 988) (EX .normal (tk most e n i x)) (JA most e n i):=by
 have p14:=fun{sc F} (r:PS sc F)=>sv (qo e)<|sv (qr e)<|cz (Yq.ln e.Kids)<|r
 rcases aZ h with⟨c13,h⟩|⟨c13,h⟩
 ·obtain rfl:=lf h
  exact cw TM (p14<|sg 6 c13<|eF .normal (tk most e n i (decide (n<=most))))<|by kernel_rfl
 ·obtain rfl:=lf h
  exact cw TM (p14<|sg 6 c13<|eF .normal (tk most e n i false))<|by kernel_rfl
end
section
variable(R6:qG)(most:Int)(e:bL)(n:Int)(i:Int)
def ku:az:=aY 108 [(1,.int .i64 most),(2,.eptr (aP e)),(5,.int .i64 n),(7,.int .i64 i)] [.dead] []
def tq(o:Int):az:=aY 108 [(1,.int .i64 most),(2,.eptr (aP e)),(5,.int .i64 o)] [.dead] []
def iI:Option ((Int×Int)⊕(Int)):=
 (sk most e n i).bind fun o15=>
 if o15=true then
  (cR e.Kids i).bind fun x18=>
  (R6 x18 (aR (most - n))).bind fun r19=>
  some (.inl (aR (n+r19),aR (i+1)))
 else
  some (.inr n)
def xQ:Option Int:=loop (fun(zz:Int×Int)=>iI R6 most e zz.1 zz.2) (n,i)
theorem FX(hR6:qB R6){y:(Int×Int)⊕(Int)}(h:iI R6 most e n i=some y):aT Pg GE 0 (cA Xn 247) (LQ (fun(zz:Int×Int)=>ku most e zz.1 zz.2) (fun _=>.exit 2) (tq most e) y) (ku most e n i):=by
 obtain⟨o15,bo15,h⟩:=aB h
 have p17:=fun{sc F} (r:PS sc F)=>nD 1<|di (HW most e n i bo15)<|r
 rcases aZ h with⟨c16,h⟩|⟨c16,h⟩
 ·obtain⟨x18,bx18,h⟩:=aB h
  obtain⟨r19,br19,h⟩:=aB h
  obtain rfl:=lf h
  exact rU TM (p17<|sg 0 c16<|sv (qo e)<|sv (qr e)<|sv (Yq.ia (k:=.i64) bx18)<|sv (Qj x18)<|bT (hR6 _ _ _ br19)<|eF .normal (ku most e (aR (n+r19)) (aR (i+1))))<|by kernel_rfl
 ·obtain rfl:=lf h
  have z:=p17<|sg 0 c16<|eF (.exit 2) (tq most e n)
  exact i7 TM (by intro hx;cases hx) z<|by kernel_rfl
theorem HZ(hR6:qB R6){x:Int}(h:xQ R6 most e n i=some x):aT Pg GE 0 (.loop (cA Xn 247)) (EX (.exit 2) (tq most e x)) (ku most e n i):=
 aT.loop (S:=fun(zz:Int×Int)=>ku most e zz.1 zz.2) (ex:=(fun _=>.exit 2)) (s:=(n,i)) h fun zz y hy=>FX R6 most e zz.1 zz.2 hR6 hy
end
section
variable(most:Int)(e:bL)(n:Int)(i:Int)
def JB:az:=aY 108 [(1,.int .i64 most),(2,.eptr (aP e)),(5,.int .i64 n),(8,.int .i64 i)] [.dead] []
def tn(o:Bool):az:=aY 108 [(1,.int .i64 most),(2,.eptr (aP e)),(5,.int .i64 n),(8,.int .i64 i),(84,.bool o)] [.dead] []
def sn:Option Bool:=
 if(decide (i<(e.Alts.length:Int)))=true then
  some (decide (n<=most))
 else
  some false
theorem HX{x:Bool}(h:sn most e n i=some x):aT Pg GE 0 (cA Xn 2012) (EX .normal (tn most e n i x)) (JB most e n i):=by
 have p22:=fun{sc F} (r:PS sc F)=>sv (ik e)<|sv (il e)<|cz (Sx.ln e.Alts)<|r
 rcases aZ h with⟨c21,h⟩|⟨c21,h⟩
 ·obtain rfl:=lf h
  exact cw TM (p22<|sg 6 c21<|eF .normal (tn most e n i (decide (n<=most))))<|by kernel_rfl
 ·obtain rfl:=lf h
  exact cw TM (p22<|sg 6 c21<|eF .normal (tn most e n i false))<|by kernel_rfl
end
section
variable(R6:qG)(most:Int)(e:bL)(n:Int)(i:Int)
def kv:az:=aY 108 [(1,.int .i64 most),(2,.eptr (aP e)),(5,.int .i64 n),(8,.int .i64 i)] [.dead] []
def tr(o:Int):az:=aY 108 [(5,.int .i64 o)] [.dead] []
def iJ:Option ((Int×Int)⊕(Int)):=
 (sn most e n i).bind fun o23=>
 if o23=true then
  (cR e.Alts i).bind fun x26=>
  (cR e.Alts i).bind fun x27=>
  (R6 x27.Body (aR (most - n))).bind fun r28=>
  some (.inl (aR ((aR (n+(x26.Names.length:Int)))+r28),aR (i+1)))
 else
  some (.inr n)
def xS:Option Int:=loop (fun(zz:Int×Int)=>iJ R6 most e zz.1 zz.2) (n,i)
theorem FY(hR6:qB R6){y:(Int×Int)⊕(Int)}(h:iJ R6 most e n i=some y):aT Pg GE 0 (cA Xn 503) (LQ (fun(zz:Int×Int)=>kv most e zz.1 zz.2) (fun _=>.exit 4) tr y) (kv most e n i):=by
 obtain⟨o23,bo23,h⟩:=aB h
 have p25:=fun{sc F} (r:PS sc F)=>nD 1<|di (HX most e n i bo23)<|r
 rcases aZ h with⟨c24,h⟩|⟨c24,h⟩
 ·obtain⟨x26,bx26,h⟩:=aB h
  obtain⟨x27,bx27,h⟩:=aB h
  obtain⟨r28,br28,h⟩:=aB h
  obtain rfl:=lf h
  exact rU TM (p25<|sg 0 c24<|qX [0,0,2,0,14,30,62,126,255,0,512,0,3584,7680,15872,0,0,98304,261632,524287,1048575]<|sv (ik e)<|sv (il e)<|sv (Sx.ia (k:=.i64) bx26)<|sv (CL x26)<|sv (EQ x26)<|cz (bJ.ln x26.Names)<|sv (ik e)<|sv (il e)<|sv (Sx.ia (k:=.i64) bx27)<|sv (CM x27)<|sv (ER x27)<|bT (hR6 _ _ _ br28)<|eF .normal (kv most e (aR ((aR (n+(x26.Names.length:Int)))+r28)) (aR (i+1))))<|by kernel_rfl
 ·obtain rfl:=lf h
  have z:=p25<|sg 0 c24<|eF (.exit 4) (tr n)
  exact i7 TM (by intro hx;cases hx) z<|by kernel_rfl
theorem H1(hR6:qB R6){x:Int}(h:xS R6 most e n i=some x):aT Pg GE 0 (.loop (cA Xn 503)) (EX (.exit 4) (tr x)) (kv most e n i):=
 aT.loop (S:=fun(zz:Int×Int)=>kv most e zz.1 zz.2) (ex:=(fun _=>.exit 4)) (s:=(n,i)) h fun zz y hy=>FY R6 most e zz.1 zz.2 hR6 hy
end
def uJ(R6:qG)(e:bL)(most:Int):Option Int:=
 (qu .i64 (e.Name.length:Int) 100).bind fun q1=>
 (fg e.Types most).bind fun r2=>
 (xP most e (aR ((aR (1+q1))+r2)) 0).bind fun o12=>
 (xQ R6 most e o12 0).bind fun o20=>
 (xS R6 most e o20 0).bind fun o29=>
 some o29
theorem LE(R6:qG)(hR6:qB R6){e:bL}{most:Int}{r:Int}(h:uJ R6 e most=some r):CC Pg GE 50 [.agg (aP e),.int .i64 most] (.int .i64 r) []:=by
 obtain⟨q1,bq1,h⟩:=aB h
 obtain⟨r2,br2,h⟩:=aB h
 obtain⟨o12,bo12,h⟩:=aB h
 obtain⟨o20,bo20,h⟩:=aB h
 obtain⟨o29,bo29,h⟩:=aB h
 obtain rfl:=lf h
 have z:=se (Qw e)<|qX [0,1,3,7,15,0,32,0,224,511,1023]<|sv (CO e)<|sv (ET e)<|cz (gI underlying9 e.Name)<|sv (yX (P:=Pg) (t:=3) bq1)<|sv (CP e)<|sv (CR e)<|bT (fC br2)<|di (HY most e (aR ((aR (1+q1))+r2)) 0 bo12)<|di (HZ R6 most e o12 0 hR6 bo20)<|di (H1 R6 most e o20 0 hR6 bo29)<|en (aI (rP (.int .i64 o29))<|trivial)
 exact cn TM call50 func50 (c:=Xn) rfl (aI (wP e) (aI trivial trivial)) z<|by kernel_rfl
def Ai:((bL×Int)->Option Int)->(bL×Int)->Option Int:=fun(rec:(bL×Int)->Option Int) (x:bL×Int)=>uJ (fun e most=>rec (e,most)) x.1 x.2
def FV(e:bL)(most:Int):Option Int:=oG Ai (e,most)
theorem NT{e:bL}{most:Int}{r:Int}(h:FV e most=some r):CC Pg GE 50 [.agg (aP e),.int .i64 most] (.int .i64 r) []:=
 cU (F:=Ai) (M:=fun(x:bL×Int) (r:Int)=>CC Pg GE 50 [.agg (aP x.1),.int .i64 x.2] (.int .i64 r) []) (fun rec hrec x r h=>LE _ (fun e most r h=>hrec (e,most) r h) h) h
noncomputable def ZD:Code:=f27.body.getD .skip
def Xr:List Nat:=[112]
section
variable(v:(List pj))(most:Int)(n:Int)(i:Int)
def C8:az:=aY 113 [(0,sl cT v),(1,.int .i64 most),(5,.int .i64 n),(6,.int .i64 i)] [] []
def nj(o:Bool):az:=aY 113 [(0,sl cT v),(1,.int .i64 most),(5,.int .i64 n),(6,.int .i64 i),(17,.bool o)] [] []
def li:Option Bool:=
 if(decide (i<(v.length:Int)))=true then
  some (decide (n<=most))
 else
  some false
theorem B8{x:Bool}(h:li v most n i=some x):aT Pg GE 0 (cA ZD 476) (EX .normal (nj v most n i x)) (C8 v most n i):=by
 rcases aZ h with⟨c1,h⟩|⟨c1,h⟩
 ·obtain rfl:=lf h
  exact cw Xr (cz (Sw.ln v)<|sg 5 c1<|eF .normal (nj v most n i (decide (n<=most))))<|by kernel_rfl
 ·obtain rfl:=lf h
  exact cw Xr (cz (Sw.ln v)<|sg 5 c1<|eF .normal (nj v most n i false))<|by kernel_rfl
end
section
variable(v:(List pj))(most:Int)(n:Int)(i:Int)(k:Int)(m:waA)(m2:(List Bu))(m3:(List Mp))(m4:(List kY))(m5:Int)(m6:ag)(m7:waC)(m8:waA)(m9:Int)(m10:ag)(m11:Int)(m12:waB)(m13:waB)(m14:waB)
def C9:az:=aY 113 [(0,sl cT v),(1,.int .i64 most),(5,.int .i64 n),(6,.int .i64 i),(7,.bptr 0 0),(8,.int .i64 k)] [.cells [sl cS m,sl gE m2,sl nr m3,sl cD m4,.int .i64 m5,.str m6,sl af m7,sl cS m8,.int .i64 m9,.str m10,.int .i64 m11,sl ac m12,sl ac m13,sl ac m14] []] []
def nk(o:Bool):az:=aY 113 [(0,sl cT v),(1,.int .i64 most),(5,.int .i64 n),(6,.int .i64 i),(7,.bptr 0 0),(8,.int .i64 k),(74,.bool o)] [.cells [sl cS m,sl gE m2,sl nr m3,sl cD m4,.int .i64 m5,.str m6,sl af m7,sl cS m8,.int .i64 m9,.str m10,.int .i64 m11,sl ac m12,sl ac m13,sl ac m14] []] []
def lj:Option Bool:=
 if(decide (k<(m4.length:Int)))=true then
  some (decide (n<=most))
 else
  some false
theorem B9{x:Bool}(h:lj most n k m4=some x):aT Pg GE 0 (cA ZD 245212) (EX .normal (nk v most n i k m m2 m3 m4 m5 m6 m7 m8 m9 m10 m11 m12 m13 m14 x)) (C9 v most n i k m m2 m3 m4 m5 m6 m7 m8 m9 m10 m11 m12 m13 m14):=by
 have p12:=fun{sc F} (r:PS sc F)=>ss<|cz (Tv.ln m4)<|r
 rcases aZ h with⟨c11,h⟩|⟨c11,h⟩
 ·obtain rfl:=lf h
  exact cw Xr (p12<|sg 6 c11<|eF .normal (nk v most n i k m m2 m3 m4 m5 m6 m7 m8 m9 m10 m11 m12 m13 m14 (decide (n<=most))))<|by kernel_rfl
 ·obtain rfl:=lf h
  exact cw Xr (p12<|sg 6 c11<|eF .normal (nk v most n i k m m2 m3 m4 m5 m6 m7 m8 m9 m10 m11 m12 m13 m14 false))<|by kernel_rfl
end
section
variable(v:(List pj))(most:Int)(i:Int)(m:waA)(m2:(List Bu))(m3:(List Mp))(m4:(List kY))(m5:Int)(m6:ag)(m7:waC)(m8:waA)(m9:Int)(m10:ag)(m11:Int)(m12:waB)(m13:waB)(m14:waB)(n:Int)(k:Int)
def gr:az:=aY 113 [(0,sl cT v),(1,.int .i64 most),(5,.int .i64 n),(6,.int .i64 i),(7,.bptr 0 0),(8,.int .i64 k)] [.cells [sl cS m,sl gE m2,sl nr m3,sl cD m4,.int .i64 m5,.str m6,sl af m7,sl cS m8,.int .i64 m9,.str m10,.int .i64 m11,sl ac m12,sl ac m13,sl ac m14] []] []
def nn(o:Int):az:=aY 113 [(0,sl cT v),(1,.int .i64 most),(5,.int .i64 o),(6,.int .i64 i)] [.cells [sl cS m,sl gE m2,sl nr m3,sl cD m4,.int .i64 m5,.str m6,sl af m7,sl cS m8,.int .i64 m9,.str m10,.int .i64 m11,sl ac m12,sl ac m13,sl ac m14] []] []
def eU:Option ((Int×Int)⊕(Int)):=
 (lj most n k m4).bind fun o13=>
 if o13=true then
  (cR m4 k).bind fun x16=>
  (cR m4 k).bind fun x17=>
  (cR m4 k).bind fun x18=>
  (ec ([x17.Hyp,x18.Goal]:List aa) most).bind fun r19=>
  some (.inl (aR ((aR ((aR (n+1))+(x16.Vars.length:Int)))+r19),aR (k+1)))
 else
  some (.inr n)
def py:Option Int:=loop (fun(zz:Int×Int)=>eU most m4 zz.1 zz.2) (n,k)
theorem Ak{y:(Int×Int)⊕(Int)}(h:eU most m4 n k=some y):aT Pg GE 0 (cA ZD 61303) (LQ (fun(zz:Int×Int)=>gr v most i m m2 m3 m4 m5 m6 m7 m8 m9 m10 m11 m12 m13 m14 zz.1 zz.2) (fun _=>.exit 2) (nn v most i m m2 m3 m4 m5 m6 m7 m8 m9 m10 m11 m12 m13 m14) y) (gr v most i m m2 m3 m4 m5 m6 m7 m8 m9 m10 m11 m12 m13 m14 n k):=by
 obtain⟨o13,bo13,h⟩:=aB h
 have p15:=fun{sc F} (r:PS sc F)=>nD 1<|di (B9 v most n i k m m2 m3 m4 m5 m6 m7 m8 m9 m10 m11 m12 m13 m14 bo13)<|r
 rcases aZ h with⟨c14,h⟩|⟨c14,h⟩
 ·obtain⟨x16,bx16,h⟩:=aB h
  obtain⟨x17,bx17,h⟩:=aB h
  obtain⟨x18,bx18,h⟩:=aB h
  obtain⟨r19,br19,h⟩:=aB h
  obtain rfl:=lf h
  exact rU Xr (p15<|sg 0 c14<|qX [0,1,0,4,0,28,60,124,252,511,0,1024,0,7168,15360,31744,0,65536,0,458752,983040,2031616,4193280,0,16776192,33554431,67108863]<|ss<|sv (Tv.ia (k:=.i64) bx16)<|sv (Io x16)<|sv (Kv x16)<|cz (GT.ln x16.Vars)<|ss<|sv (Tv.ia (k:=.i64) bx17)<|sv (Ip x17)<|sv (Kw x17)<|ss<|sv (Tv.ia (k:=.i64) bx18)<|sv (Iq x18)<|sv (Kx x18)<|sv (ck.mk' (v:=fe) dl ([x17.Hyp,x18.Goal]:List aa) 2 (by kernel_rfl))<|bT (ed br19)<|eF .normal (gr v most i m m2 m3 m4 m5 m6 m7 m8 m9 m10 m11 m12 m13 m14 (aR ((aR ((aR (n+1))+(x16.Vars.length:Int)))+r19)) (aR (k+1))))<|by kernel_rfl
 ·obtain rfl:=lf h
  have z:=p15<|sg 0 c14<|eF (.exit 2) (nn v most i m m2 m3 m4 m5 m6 m7 m8 m9 m10 m11 m12 m13 m14 n)
  exact i7 Xr (by intro hx;cases hx) z<|by kernel_rfl
theorem Cb{x:Int}(h:py most m4 n k=some x):aT Pg GE 0 (.loop (cA ZD 61303)) (EX (.exit 2) (nn v most i m m2 m3 m4 m5 m6 m7 m8 m9 m10 m11 m12 m13 m14 x)) (gr v most i m m2 m3 m4 m5 m6 m7 m8 m9 m10 m11 m12 m13 m14 n k):=
 aT.loop (S:=fun(zz:Int×Int)=>gr v most i m m2 m3 m4 m5 m6 m7 m8 m9 m10 m11 m12 m13 m14 zz.1 zz.2) (ex:=(fun _=>.exit 2)) (s:=(n,k)) h fun zz y hy=>Ak v most i m m2 m3 m4 m5 m6 m7 m8 m9 m10 m11 m12 m13 m14 zz.1 zz.2 hy
end
section
variable(v:(List pj))(most:Int)(n:Int)(i:Int)
def gq:az:=aY 113 [(0,sl cT v),(1,.int .i64 most),(5,.int .i64 n),(6,.int .i64 i)] [] []
def nm(o:Int):az:=aY 113 [(5,.int .i64 o)] [] []
def eT:Option ((Int×Int)⊕(Int)):=
 (li v most n i).bind fun o2=>
 if o2=true then
  (cR v i).bind fun x5=>
  (cR v i).bind fun x6=>
  (qu .i64 (x6.Name.length:Int) 100).bind fun q7=>
  (cR v i).bind fun x8=>
  (fg ([x5.Sig.Type_]:List ae) most).bind fun r9=>
  (ec x5.Sig.Metric most).bind fun r10=>
  (py most x5.Sig.Bounds (aR ((aR ((aR ((aR ((aR ((aR ((aR ((aR (n+1))+q7))+(x8.Params.length:Int)))+(x5.Sig.Vars.length:Int)))+(x5.Sig.Needs.length:Int)))+(x5.Sig.Abs.length:Int)))+r9))+r10)) 0).bind fun o20=>
  (cR v i).bind fun x21=>
  (FV x21.Body most).bind fun r22=>
  some (.inl (aR (o20+r22),aR (i+1)))
 else
  some (.inr n)
def px:Option Int:=loop (fun(zz:Int×Int)=>eT v most zz.1 zz.2) (n,i)
theorem Aj{y:(Int×Int)⊕(Int)}(h:eT v most n i=some y):aT Pg GE 0 (cA ZD 119) (LQ (fun(zz:Int×Int)=>gq v most zz.1 zz.2) (fun _=>.exit 0) nm y) (gq v most n i):=by
 obtain⟨o2,bo2,h⟩:=aB h
 have p4:=fun{sc F} (r:PS sc F)=>nD 1<|di (B8 v most n i bo2)<|r
 rcases aZ h with⟨c3,h⟩|⟨c3,h⟩
 ·obtain⟨x5,bx5,h⟩:=aB h
  obtain⟨x6,bx6,h⟩:=aB h
  obtain⟨q7,bq7,h⟩:=aB h
  obtain⟨x8,bx8,h⟩:=aB h
  obtain⟨r9,br9,h⟩:=aB h
  obtain⟨r10,br10,h⟩:=aB h
  obtain⟨o20,bo20,h⟩:=aB h
  obtain⟨x21,bx21,h⟩:=aB h
  obtain⟨r22,br22,h⟩:=aB h
  obtain rfl:=lf h
  have z:=p4<|sg 0 c3<|sv (Sw.ia (k:=.i64) bx5)<|sv (L0 x5)<|sv (Kz x5)<|sx qbA<|sx (WD x5.Sig)<|qX [0,1,0,0,12,28,60,124,252,511,0,0,3072,7168,15360,31744,65535,0,131072,393216,1048575,0,2097152,6291456,16777215,0,33554432,100663296,268435455,0,536870912,1610612736,0,8053063680,17179869183,0,34359738368,0,257161166848,549755813887,1099511627775]<|sv (Sw.ia (k:=.i64) bx6)<|sv (LX x6)<|sv (Qh x6)<|cz (gI underlying9 x6.Name)<|sv (yX (P:=Pg) (t:=3) bq7)<|sv (Sw.ia (k:=.i64) bx8)<|sv (LY x8)<|sv (ON x8)<|cz (bJ.ln x8.Params)<|ss<|cz (bJ.ln x5.Sig.Vars)<|ss<|cz (qbG.ln x5.Sig.Needs)<|ss<|cz (qbE.ln x5.Sig.Abs)<|sv (dj x5.Sig.Type_ [sl ac x5.Sig.Metric])<|sv (cX.mk' (v:=lE) gm ([x5.Sig.Type_]:List ae) 1 (by kernel_rfl))<|bT (fC br9)<|ss<|bT (ed br10)<|di (Cb v most i x5.Sig.Vars x5.Sig.Needs x5.Sig.Abs x5.Sig.Bounds x5.Sig.Type_.Op x5.Sig.Type_.Name x5.Sig.Type_.Args x5.Sig.Type_.Names x5.Sig.Type_.Pred.Op x5.Sig.Type_.Pred.Name x5.Sig.Type_.Pred.N x5.Sig.Type_.Pred.Kids x5.Sig.Type_.Preds x5.Sig.Metric (aR ((aR ((aR ((aR ((aR ((aR ((aR ((aR (n+1))+q7))+(x8.Params.length:Int)))+(x5.Sig.Vars.length:Int)))+(x5.Sig.Needs.length:Int)))+(x5.Sig.Abs.length:Int)))+r9))+r10)) 0 bo20)<|sv (Sw.ia (k:=.i64) bx21)<|sv (LZ x21)<|sv (OO x21)<|bT (NT br22)<|zn 0 .normal (gq v most (aR (o20+r22)) (aR (i+1))) rfl (eg (aI (up (aq BH v)) (aI trivial (aI trivial (aI trivial trivial))))) trivial
  exact dS (A:=Xr) mixed z<|by kernel_rfl
 ·obtain rfl:=lf h
  have z:=p4<|sg 0 c3<|eF (.exit 0) (nm n)
  exact i7 Xr (by intro hx;cases hx) z<|by kernel_rfl
theorem Ca{x:Int}(h:px v most n i=some x):aT Pg GE 0 (.loop (cA ZD 119)) (EX (.exit 0) (nm x)) (gq v most n i):=
 aT.loop (S:=fun(zz:Int×Int)=>gq v most zz.1 zz.2) (ex:=(fun _=>.exit 0)) (s:=(n,i)) h fun zz y hy=>Aj v most zz.1 zz.2 hy
end
def mt(a:(List pj))(most:Int):Option Int:=
 (px a most 0 0).bind fun o23=>
 some o23
theorem wG{a:(List pj)}{most:Int}{r:Int}(h:mt a most=some r):CC Pg GE 27 [sl cT a,.int .i64 most] (.int .i64 r) []:=by
 obtain⟨o23,bo23,h⟩:=aB h
 obtain rfl:=lf h
 have z:=di (Ca a most 0 0 bo23)<|en (aI (rP (.int .i64 o23))<|trivial)
 exact cn Xr call27 func27 (c:=ZD) rfl (aI (aq BH a) (aI trivial trivial)) z<|by kernel_rfl
noncomputable def b7:Code:=Tryz.f7.body.getD .skip
def A7:List Nat:=[]
section
variable(m:aQ)
def JC:az:=aY 303 [(1,.eptr (aC m))] [.dead] []
def gp(o:Bool):az:=aY 303 [(1,.eptr (aC m)),(45,.bool o)] [.dead] []
def xT:Option Bool:=
 if(decide ((m.Datas.length:Int)>80))=true then
  some true
 else
  if(decide ((m.Classes.length:Int)>80))=true then
   some true
  else
   if(decide ((m.Instances.length:Int)>80))=true then
    some true
   else
    if(decide ((m.Measures.length:Int)>80))=true then
     some true
    else
     if(decide ((m.Quals.length:Int)>80))=true then
      some true
     else
      some (decide ((m.Defs.length:Int)>80))
theorem H7{x:Bool}(h:xT m=some x):aT Pg GE 0 (cA b7 12) (EX .normal (gp m x)) (JC m):=by
 have p2:=fun{sc F} (r:PS sc F)=>sv (dw m)<|sv (dy m)<|cz (K4.ln m.Datas)<|r
 rcases aZ h with⟨c1,h⟩|⟨c1,h⟩
 ·obtain rfl:=lf h
  exact cw A7 (p2<|sg 5 c1<|eF .normal (gp m true))<|by kernel_rfl
 ·have p4:=fun{sc F} (r:PS sc F)=>p2<|sg 5 c1<|sv (mX m)<|sv (nc m)<|cz (Yo.ln m.Classes)<|r
  rcases aZ h with⟨c3,h⟩|⟨c3,h⟩
  ·obtain rfl:=lf h
   exact cw A7 (p4<|sg 11 c3<|eF .normal (gp m true))<|by kernel_rfl
  ·have p6:=fun{sc F} (r:PS sc F)=>p4<|sg 11 c3<|sv (jr m)<|sv (jx m)<|cz (W3.ln m.Instances)<|r
   rcases aZ h with⟨c5,h⟩|⟨c5,h⟩
   ·obtain rfl:=lf h
    exact cw A7 (p6<|sg 17 c5<|eF .normal (gp m true))<|by kernel_rfl
   ·have p8:=fun{sc F} (r:PS sc F)=>p6<|sg 17 c5<|sv (gQ m)<|sv (gR m)<|cz (UZ.ln m.Measures)<|r
    rcases aZ h with⟨c7,h⟩|⟨c7,h⟩
    ·obtain rfl:=lf h
     exact cw A7 (p8<|sg 23 c7<|eF .normal (gp m true))<|by kernel_rfl
    ·have p10:=fun{sc F} (r:PS sc F)=>p8<|sg 23 c7<|sv (mY m)<|sv (nf m)<|cz (Yp.ln m.Quals)<|r
     rcases aZ h with⟨c9,h⟩|⟨c9,h⟩
     ·obtain rfl:=lf h
      exact cw A7 (p10<|sg 29 c9<|eF .normal (gp m true))<|by kernel_rfl
     ·obtain rfl:=lf h
      exact cw A7 (p10<|sg 29 c9<|sv (y0 m)<|sv (y5 m)<|cz (Sw.ln m.Defs)<|eF .normal (gp m (decide ((m.Defs.length:Int)>80))))<|by kernel_rfl
end
section
variable(m:aQ)(n:Int)(i:Int)
def JD:az:=aY 303 [(1,.eptr (aC m)),(3,.int .i64 n),(4,.int .i64 i)] [.dead] []
def tt(o:Bool):az:=aY 303 [(1,.eptr (aC m)),(3,.int .i64 n),(4,.int .i64 i),(57,.bool o)] [.dead] []
def sq:Option Bool:=
 if(decide (i<(m.Datas.length:Int)))=true then
  some (decide (n<=4000))
 else
  some false
theorem H8{x:Bool}(h:sq m n i=some x):aT Pg GE 0 (cA b7 988) (EX .normal (tt m n i x)) (JD m n i):=by
 have p16:=fun{sc F} (r:PS sc F)=>sv (dw m)<|sv (dy m)<|cz (K4.ln m.Datas)<|r
 rcases aZ h with⟨c15,h⟩|⟨c15,h⟩
 ·obtain rfl:=lf h
  exact cw A7 (p16<|sg 6 c15<|eF .normal (tt m n i (decide (n<=4000))))<|by kernel_rfl
 ·obtain rfl:=lf h
  exact cw A7 (p16<|sg 6 c15<|eF .normal (tt m n i false))<|by kernel_rfl
end
section
variable(m:aQ)(n:Int)(i:Int)(k:Int)
def JE:az:=aY 303 [(1,.eptr (aC m)),(3,.int .i64 n),(4,.int .i64 i),(5,.int .i64 k)] [.dead] []
def tu(o:Bool):az:=aY 303 [(1,.eptr (aC m)),(3,.int .i64 n),(4,.int .i64 i),(5,.int .i64 k),(99,.bool o)] [.dead] []
def su:Option Bool:=
 (cR m.Datas i).bind fun x24=>
 if(decide (k<(x24.Cons.length:Int)))=true then
  some (decide (n<=4000))
 else
  some false
theorem H9{x:Bool}(h:su m n i k=some x):aT Pg GE 0 (cA b7 126844) (EX .normal (tu m n i k x)) (JE m n i k):=by
 obtain⟨x24,bx24,h⟩:=aB h
 have p26:=fun{sc F} (r:PS sc F)=>sv (dw m)<|sv (dy m)<|sv (K4.ia (k:=.i64) bx24)<|sv (v8 x24)<|sv (wk x24)<|cz (Z4.ln x24.Cons)<|r
 rcases aZ h with⟨c25,h⟩|⟨c25,h⟩
 ·obtain rfl:=lf h
  exact cw A7 (p26<|sg 10 c25<|eF .normal (tu m n i k (decide (n<=4000))))<|by kernel_rfl
 ·obtain rfl:=lf h
  exact cw A7 (p26<|sg 10 c25<|eF .normal (tu m n i k false))<|by kernel_rfl
end
section
variable(m:aQ)(i:Int)(n:Int)(k:Int)
def ky:az:=aY 303 [(1,.eptr (aC m)),(3,.int .i64 n),(4,.int .i64 i),(5,.int .i64 k)] [.dead] []
def tz(o:Int):az:=aY 303 [(1,.eptr (aC m)),(3,.int .i64 o),(4,.int .i64 i)] [.dead] []
def iL:Option ((Int×Int)⊕(Int)):=
 (su m n i k).bind fun o27=>
 if o27=true then
  (cR m.Datas i).bind fun x30=>
  (cR x30.Cons k).bind fun x31=>
  (cR m.Datas i).bind fun x32=>
  (cR x32.Cons k).bind fun x33=>
  (fg x33.Fields 4000).bind fun r34=>
  some (.inl (aR ((aR ((aR (n+1))+(x31.Names.length:Int)))+r34),aR (k+1)))
 else
  some (.inr n)
def xV:Option Int:=loop (fun(zz:Int×Int)=>iL m i zz.1 zz.2) (n,k)
theorem F9{y:(Int×Int)⊕(Int)}(h:iL m i n k=some y):aT Pg GE 0 (cA b7 31711) (LQ (fun(zz:Int×Int)=>ky m i zz.1 zz.2) (fun _=>.exit 2) (tz m i) y) (ky m i n k):=by
 obtain⟨o27,bo27,h⟩:=aB h
 have p29:=fun{sc F} (r:PS sc F)=>nD 1<|di (H9 m n i k bo27)<|r
 rcases aZ h with⟨c28,h⟩|⟨c28,h⟩
 ·obtain⟨x30,bx30,h⟩:=aB h
  obtain⟨x31,bx31,h⟩:=aB h
  obtain⟨x32,bx32,h⟩:=aB h
  obtain⟨x33,bx33,h⟩:=aB h
  obtain⟨r34,br34,h⟩:=aB h
  obtain rfl:=lf h
  exact rU A7 (p29<|sg 0 c28<|qX [0,1,0,4,0,28,60,124,0,508,1020,2044,4092,8191,0,16384,0,114688,245760,507904,0,2080768,4177920,8372224,16760832,33554431,67108863]<|sv (dw m)<|sv (dy m)<|sv (K4.ia (k:=.i64) bx30)<|sv (v8 x30)<|sv (wk x30)<|sv (Z4.ia (k:=.i64) bx31)<|sv (On x31)<|sv (OK x31)<|cz (bJ.ln x31.Names)<|sv (dw m)<|sv (dy m)<|sv (K4.ia (k:=.i64) bx32)<|sv (v8 x32)<|sv (wk x32)<|sv (Z4.ia (k:=.i64) bx33)<|sv (Oo x33)<|sv (OL x33)<|bT (fC br34)<|eF .normal (ky m i (aR ((aR ((aR (n+1))+(x31.Names.length:Int)))+r34)) (aR (k+1))))<|by kernel_rfl
 ·obtain rfl:=lf h
  have z:=p29<|sg 0 c28<|eF (.exit 2) (tz m i n)
  exact i7 A7 (by intro hx;cases hx) z<|by kernel_rfl
theorem Id{x:Int}(h:xV m i n k=some x):aT Pg GE 0 (.loop (cA b7 31711)) (EX (.exit 2) (tz m i x)) (ky m i n k):=
 aT.loop (S:=fun(zz:Int×Int)=>ky m i zz.1 zz.2) (ex:=(fun _=>.exit 2)) (s:=(n,k)) h fun zz y hy=>F9 m i zz.1 zz.2 hy
end
section
variable(m:aQ)(n:Int)(i:Int)
def kw:az:=aY 303 [(1,.eptr (aC m)),(3,.int .i64 n),(4,.int .i64 i)] [.dead] []
def tx(o:Int):az:=aY 303 [(1,.eptr (aC m)),(3,.int .i64 o)] [.dead] []
def iK:Option ((Int×Int)⊕(Int)):=
 (sq m n i).bind fun o17=>
 if o17=true then
  (cR m.Datas i).bind fun x20=>
  (qu .i64 (x20.Name.length:Int) 100).bind fun q21=>
  (cR m.Datas i).bind fun x22=>
  (cR m.Datas i).bind fun x23=>
  (xV m i (aR ((aR ((aR ((aR (n+1))+q21))+(x22.Vars.length:Int)))+(x23.Preds.length:Int))) 0).bind fun o35=>
  some (.inl (o35,aR (i+1)))
 else
  some (.inr n)
def xU:Option Int:=loop (fun(zz:Int×Int)=>iK m zz.1 zz.2) (n,i)
theorem F8{y:(Int×Int)⊕(Int)}(h:iK m n i=some y):aT Pg GE 0 (cA b7 247) (LQ (fun(zz:Int×Int)=>kw m zz.1 zz.2) (fun _=>.exit 0) (tx m) y) (kw m n i):=by
 obtain⟨o17,bo17,h⟩:=aB h
 have p19:=fun{sc F} (r:PS sc F)=>nD 1<|di (H8 m n i bo17)<|r
 rcases aZ h with⟨c18,h⟩|⟨c18,h⟩
 ·obtain⟨x20,bx20,h⟩:=aB h
  obtain⟨q21,bq21,h⟩:=aB h
  obtain⟨x22,bx22,h⟩:=aB h
  obtain⟨x23,bx23,h⟩:=aB h
  obtain⟨o35,bo35,h⟩:=aB h
  obtain rfl:=lf h
  exact rU A7 (p19<|sg 0 c18<|qX [0,1,0,4,0,28,60,124,252,508,1023,0,2048,0,14336,30720,63488,129024,262143,0,524288,0,3670016,7864320,16252928,33030144,67108863,134217727]<|sv (dw m)<|sv (dy m)<|sv (K4.ia (k:=.i64) bx20)<|sv (LU x20)<|sv (OM x20)<|cz (gI underlying9 x20.Name)<|sv (yX (P:=Pg) (t:=3) bq21)<|sv (dw m)<|sv (dy m)<|sv (K4.ia (k:=.i64) bx22)<|sv (LV x22)<|sv (Ma x22)<|cz (bJ.ln x22.Vars)<|sv (dw m)<|sv (dy m)<|sv (K4.ia (k:=.i64) bx23)<|sv (LW x23)<|sv (Mb x23)<|cz (GT.ln x23.Preds)<|di (Id m i (aR ((aR ((aR ((aR (n+1))+q21))+(x22.Vars.length:Int)))+(x23.Preds.length:Int))) 0 bo35)<|eF .normal (kw m o35 (aR (i+1))))<|by kernel_rfl
 ·obtain rfl:=lf h
  have z:=p19<|sg 0 c18<|eF (.exit 0) (tx m n)
  exact i7 A7 (by intro hx;cases hx) z<|by kernel_rfl
theorem Ic{x:Int}(h:xU m n i=some x):aT Pg GE 0 (.loop (cA b7 247)) (EX (.exit 0) (tx m x)) (kw m n i):=
 aT.loop (S:=fun(zz:Int×Int)=>kw m zz.1 zz.2) (ex:=(fun _=>.exit 0)) (s:=(n,i)) h fun zz y hy=>F8 m zz.1 zz.2 hy
end
section
variable(m:aQ)(n:Int)(i:Int)
def JG:az:=aY 303 [(1,.eptr (aC m)),(3,.int .i64 n),(6,.int .i64 i)] [.dead] []
def tv(o:Bool):az:=aY 303 [(1,.eptr (aC m)),(3,.int .i64 n),(6,.int .i64 i),(136,.bool o)] [.dead] []
def sw:Option Bool:=
 if(decide (i<(m.Classes.length:Int)))=true then
  some (decide (n<=4000))
 else
  some false
theorem Ia{x:Bool}(h:sw m n i=some x):aT Pg GE 0 (cA b7 2012) (EX .normal (tv m n i x)) (JG m n i):=by
 have p38:=fun{sc F} (r:PS sc F)=>sv (mX m)<|sv (nc m)<|cz (Yo.ln m.Classes)<|r
 rcases aZ h with⟨c37,h⟩|⟨c37,h⟩
 ·obtain rfl:=lf h
  exact cw A7 (p38<|sg 6 c37<|eF .normal (tv m n i (decide (n<=4000))))<|by kernel_rfl
 ·obtain rfl:=lf h
  exact cw A7 (p38<|sg 6 c37<|eF .normal (tv m n i false))<|by kernel_rfl
end
section
variable(m:aQ)(n:Int)(i:Int)(k:Int)
def JH:az:=aY 303 [(1,.eptr (aC m)),(3,.int .i64 n),(6,.int .i64 i),(7,.int .i64 k)] [.dead] []
def tw(o:Bool):az:=aY 303 [(1,.eptr (aC m)),(3,.int .i64 n),(6,.int .i64 i),(7,.int .i64 k),(151,.bool o)] [.dead] []
def sA:Option Bool:=
 (cR m.Classes i).bind fun x42=>
 if(decide (k<(x42.Methods.length:Int)))=true then
  some (decide (n<=4000))
 else
  some false
theorem Ib{x:Bool}(h:sA m n i k=some x):aT Pg GE 0 (cA b7 128956) (EX .normal (tw m n i k x)) (JH m n i k):=by
 obtain⟨x42,bx42,h⟩:=aB h
 have p44:=fun{sc F} (r:PS sc F)=>sv (mX m)<|sv (nc m)<|sv (Yo.ia (k:=.i64) bx42)<|sv (AU x42)<|sv (AX x42)<|cz (qbF.ln x42.Methods)<|r
 rcases aZ h with⟨c43,h⟩|⟨c43,h⟩
 ·obtain rfl:=lf h
  exact cw A7 (p44<|sg 10 c43<|eF .normal (tw m n i k (decide (n<=4000))))<|by kernel_rfl
 ·obtain rfl:=lf h
  exact cw A7 (p44<|sg 10 c43<|eF .normal (tw m n i k false))<|by kernel_rfl
end
section
variable(m:aQ)(i:Int)(n:Int)(k:Int)
def kC:az:=aY 303 [(1,.eptr (aC m)),(3,.int .i64 n),(6,.int .i64 i),(7,.int .i64 k)] [.dead] []
def tB(o:Int):az:=aY 303 [(1,.eptr (aC m)),(3,.int .i64 o),(6,.int .i64 i)] [.dead] []
def iN:Option ((Int×Int)⊕(Int)):=
 (sA m n i k).bind fun o45=>
 if o45=true then
  (cR m.Classes i).bind fun x48=>
  (cR x48.Methods k).bind fun x49=>
  (fg ([x49.Type_]:List ae) 4000).bind fun r50=>
  some (.inl (aR ((aR (n+1))+r50),aR (k+1)))
 else
  some (.inr n)
def xX:Option Int:=loop (fun(zz:Int×Int)=>iN m i zz.1 zz.2) (n,k)
theorem Gb{y:(Int×Int)⊕(Int)}(h:iN m i n k=some y):aT Pg GE 0 (cA b7 32239) (LQ (fun(zz:Int×Int)=>kC m i zz.1 zz.2) (fun _=>.exit 6) (tB m i) y) (kC m i n k):=by
 obtain⟨o45,bo45,h⟩:=aB h
 have p47:=fun{sc F} (r:PS sc F)=>nD 1<|di (Ib m n i k bo45)<|r
 rcases aZ h with⟨c46,h⟩|⟨c46,h⟩
 ·obtain⟨x48,bx48,h⟩:=aB h
  obtain⟨x49,bx49,h⟩:=aB h
  obtain⟨r50,br50,h⟩:=aB h
  obtain rfl:=lf h
  exact rU A7 (p47<|sg 0 c46<|sv (mX m)<|sv (nc m)<|sv (Yo.ia (k:=.i64) bx48)<|sv (AU x48)<|sv (AX x48)<|sv (qbF.ia (k:=.i64) bx49)<|sv (Is x49)<|sv (Iw x49)<|sv (cX.mk' (v:=lE) gm ([x49.Type_]:List ae) 1 (by kernel_rfl))<|bT (fC br50)<|eF .normal (kC m i (aR ((aR (n+1))+r50)) (aR (k+1))))<|by kernel_rfl
 ·obtain rfl:=lf h
  have z:=p47<|sg 0 c46<|eF (.exit 6) (tB m i n)
  exact i7 A7 (by intro hx;cases hx) z<|by kernel_rfl
theorem If{x:Int}(h:xX m i n k=some x):aT Pg GE 0 (.loop (cA b7 32239)) (EX (.exit 6) (tB m i x)) (kC m i n k):=
 aT.loop (S:=fun(zz:Int×Int)=>kC m i zz.1 zz.2) (ex:=(fun _=>.exit 6)) (s:=(n,k)) h fun zz y hy=>Gb m i zz.1 zz.2 hy
end
section
variable(m:aQ)(n:Int)(i:Int)
def kz:az:=aY 303 [(1,.eptr (aC m)),(3,.int .i64 n),(6,.int .i64 i)] [.dead] []
def tA(o:Int):az:=aY 303 [(1,.eptr (aC m)),(3,.int .i64 o)] [.dead] []
def iM:Option ((Int×Int)⊕(Int)):=
 (sw m n i).bind fun o39=>
 if o39=true then
  (xX m i n 0).bind fun o51=>
  some (.inl (o51,aR (i+1)))
 else
  some (.inr n)
def xW:Option Int:=loop (fun(zz:Int×Int)=>iM m zz.1 zz.2) (n,i)
theorem Ga{y:(Int×Int)⊕(Int)}(h:iM m n i=some y):aT Pg GE 0 (cA b7 503) (LQ (fun(zz:Int×Int)=>kz m zz.1 zz.2) (fun _=>.exit 4) (tA m) y) (kz m n i):=by
 obtain⟨o39,bo39,h⟩:=aB h
 have p41:=fun{sc F} (r:PS sc F)=>nD 1<|di (Ia m n i bo39)<|r
 rcases aZ h with⟨c40,h⟩|⟨c40,h⟩
 ·obtain⟨o51,bo51,h⟩:=aB h
  obtain rfl:=lf h
  exact rU A7 (p41<|sg 0 c40<|di (If m i n 0 bo51)<|eF .normal (kz m o51 (aR (i+1))))<|by kernel_rfl
 ·obtain rfl:=lf h
  have z:=p41<|sg 0 c40<|eF (.exit 4) (tA m n)
  exact i7 A7 (by intro hx;cases hx) z<|by kernel_rfl
theorem Ie{x:Int}(h:xW m n i=some x):aT Pg GE 0 (.loop (cA b7 503)) (EX (.exit 4) (tA m x)) (kz m n i):=
 aT.loop (S:=fun(zz:Int×Int)=>kz m zz.1 zz.2) (ex:=(fun _=>.exit 4)) (s:=(n,i)) h fun zz y hy=>Ga m zz.1 zz.2 hy
end
section
variable(m:aQ)(n:Int)(i:Int)
def H3:az:=aY 303 [(1,.eptr (aC m)),(3,.int .i64 n),(8,.int .i64 i)] [.dead] []
def rm(o:Bool):az:=aY 303 [(1,.eptr (aC m)),(3,.int .i64 n),(8,.int .i64 i),(177,.bool o)] [.dead] []
def qe:Option Bool:=
 if(decide (i<(m.Instances.length:Int)))=true then
  some (decide (n<=4000))
 else
  some false
theorem F0{x:Bool}(h:qe m n i=some x):aT Pg GE 0 (cA b7 4060) (EX .normal (rm m n i x)) (H3 m n i):=by
 have p54:=fun{sc F} (r:PS sc F)=>sv (jr m)<|sv (jx m)<|cz (W3.ln m.Instances)<|r
 rcases aZ h with⟨c53,h⟩|⟨c53,h⟩
 ·obtain rfl:=lf h
  exact cw A7 (p54<|sg 6 c53<|eF .normal (rm m n i (decide (n<=4000))))<|by kernel_rfl
 ·obtain rfl:=lf h
  exact cw A7 (p54<|sg 6 c53<|eF .normal (rm m n i false))<|by kernel_rfl
end
section
variable(m:aQ)(n:Int)(i:Int)
def jm:az:=aY 303 [(1,.eptr (aC m)),(3,.int .i64 n),(8,.int .i64 i)] [.dead] []
def rt(o:Int):az:=aY 303 [(1,.eptr (aC m)),(3,.int .i64 o)] [.dead] []
def gK:Option ((Int×Int)⊕(Int)):=
 (qe m n i).bind fun o55=>
 if o55=true then
  (cR m.Instances i).bind fun x58=>
  (cR m.Instances i).bind fun x59=>
  (fg ([x59.Type_]:List ae) 4000).bind fun r60=>
  (cR m.Instances i).bind fun x61=>
  (mt x61.Defs 4000).bind fun r62=>
  some (.inl (aR ((aR ((aR ((aR (n+1))+(x58.Needs.length:Int)))+r60))+r62),aR (i+1)))
 else
  some (.inr n)
def vQ:Option Int:=loop (fun(zz:Int×Int)=>gK m zz.1 zz.2) (n,i)
theorem Ee{y:(Int×Int)⊕(Int)}(h:gK m n i=some y):aT Pg GE 0 (cA b7 1015) (LQ (fun(zz:Int×Int)=>jm m zz.1 zz.2) (fun _=>.exit 8) (rt m) y) (jm m n i):=by
 obtain⟨o55,bo55,h⟩:=aB h
 have p57:=fun{sc F} (r:PS sc F)=>nD 1<|di (F0 m n i bo55)<|r
 rcases aZ h with⟨c56,h⟩|⟨c56,h⟩
 ·obtain⟨x58,bx58,h⟩:=aB h
  obtain⟨x59,bx59,h⟩:=aB h
  obtain⟨r60,br60,h⟩:=aB h
  obtain⟨x61,bx61,h⟩:=aB h
  obtain⟨r62,br62,h⟩:=aB h
  obtain rfl:=lf h
  exact rU A7 (p57<|sg 0 c56<|qX [0,1,0,4,0,28,60,124,252,511,0,1024,0,7168,15360,31744,64512,130048,262143,0,524288,0,3670016,7864320,16252928,33291264,67108863,134217727]<|sv (jr m)<|sv (jx m)<|sv (W3.ia (k:=.i64) bx58)<|sv (EI x58)<|sv (Dz x58)<|cz (qbG.ln x58.Needs)<|sv (jr m)<|sv (jx m)<|sv (W3.ia (k:=.i64) bx59)<|sv (EH x59)<|sv (EU x59)<|sv (cX.mk' (v:=lE) gm ([x59.Type_]:List ae) 1 (by kernel_rfl))<|bT (fC br60)<|sv (jr m)<|sv (jx m)<|sv (W3.ia (k:=.i64) bx61)<|sv (EJ x61)<|sv (DA x61)<|bT (wG br62)<|eF .normal (jm m (aR ((aR ((aR ((aR (n+1))+(x58.Needs.length:Int)))+r60))+r62)) (aR (i+1))))<|by kernel_rfl
 ·obtain rfl:=lf h
  have z:=p57<|sg 0 c56<|eF (.exit 8) (rt m n)
  exact i7 A7 (by intro hx;cases hx) z<|by kernel_rfl
theorem F4{x:Int}(h:vQ m n i=some x):aT Pg GE 0 (.loop (cA b7 1015)) (EX (.exit 8) (rt m x)) (jm m n i):=
 aT.loop (S:=fun(zz:Int×Int)=>jm m zz.1 zz.2) (ex:=(fun _=>.exit 8)) (s:=(n,i)) h fun zz y hy=>Ee m zz.1 zz.2 hy
end
section
variable(m:aQ)(n:Int)(i:Int)
def H4:az:=aY 303 [(1,.eptr (aC m)),(3,.int .i64 n),(9,.int .i64 i)] [.dead] []
def rn(o:Bool):az:=aY 303 [(1,.eptr (aC m)),(3,.int .i64 n),(9,.int .i64 i),(215,.bool o)] [.dead] []
def qf:Option Bool:=
 if(decide (i<(m.Measures.length:Int)))=true then
  some (decide (n<=4000))
 else
  some false
theorem F1{x:Bool}(h:qf m n i=some x):aT Pg GE 0 (cA b7 8156) (EX .normal (rn m n i x)) (H4 m n i):=by
 have p65:=fun{sc F} (r:PS sc F)=>sv (gQ m)<|sv (gR m)<|cz (UZ.ln m.Measures)<|r
 rcases aZ h with⟨c64,h⟩|⟨c64,h⟩
 ·obtain rfl:=lf h
  exact cw A7 (p65<|sg 6 c64<|eF .normal (rn m n i (decide (n<=4000))))<|by kernel_rfl
 ·obtain rfl:=lf h
  exact cw A7 (p65<|sg 6 c64<|eF .normal (rn m n i false))<|by kernel_rfl
end
section
variable(m:aQ)(n:Int)(i:Int)(k:Int)
def H5:az:=aY 303 [(1,.eptr (aC m)),(3,.int .i64 n),(9,.int .i64 i),(10,.int .i64 k)] [.dead] []
def rq(o:Bool):az:=aY 303 [(1,.eptr (aC m)),(3,.int .i64 n),(9,.int .i64 i),(10,.int .i64 k),(241,.bool o)] [.dead] []
def qg:Option Bool:=
 (cR m.Measures i).bind fun x71=>
 if(decide (k<(x71.Cases.length:Int)))=true then
  some (decide (n<=4000))
 else
  some false
theorem F2{x:Bool}(h:qg m n i k=some x):aT Pg GE 0 (cA b7 1044348) (EX .normal (rq m n i k x)) (H5 m n i k):=by
 obtain⟨x71,bx71,h⟩:=aB h
 have p73:=fun{sc F} (r:PS sc F)=>sv (gQ m)<|sv (gR m)<|sv (UZ.ia (k:=.i64) bx71)<|sv (pF x71)<|sv (pG x71)<|cz (Z5.ln x71.Cases)<|r
 rcases aZ h with⟨c72,h⟩|⟨c72,h⟩
 ·obtain rfl:=lf h
  exact cw A7 (p73<|sg 10 c72<|eF .normal (rq m n i k (decide (n<=4000))))<|by kernel_rfl
 ·obtain rfl:=lf h
  exact cw A7 (p73<|sg 10 c72<|eF .normal (rq m n i k false))<|by kernel_rfl
end
section
variable(m:aQ)(i:Int)(n:Int)(k:Int)
def jo:az:=aY 303 [(1,.eptr (aC m)),(3,.int .i64 n),(9,.int .i64 i),(10,.int .i64 k)] [.dead] []
def rv(o:Int):az:=aY 303 [(1,.eptr (aC m)),(3,.int .i64 o),(9,.int .i64 i)] [.dead] []
def gM:Option ((Int×Int)⊕(Int)):=
 (qg m n i k).bind fun o74=>
 if o74=true then
  (cR m.Measures i).bind fun x77=>
  (cR x77.Cases k).bind fun x78=>
  (cR m.Measures i).bind fun x79=>
  (cR x79.Cases k).bind fun x80=>
  (ec ([x80.Body]:List aa) 4000).bind fun r81=>
  some (.inl (aR ((aR ((aR (n+1))+(x78.Names.length:Int)))+r81),aR (k+1)))
 else
  some (.inr n)
def vS:Option Int:=loop (fun(zz:Int×Int)=>gM m i zz.1 zz.2) (n,k)
theorem Eg{y:(Int×Int)⊕(Int)}(h:gM m i n k=some y):aT Pg GE 0 (cA b7 261087) (LQ (fun(zz:Int×Int)=>jo m i zz.1 zz.2) (fun _=>.exit 12) (rv m i) y) (jo m i n k):=by
 obtain⟨o74,bo74,h⟩:=aB h
 have p76:=fun{sc F} (r:PS sc F)=>nD 1<|di (F2 m n i k bo74)<|r
 rcases aZ h with⟨c75,h⟩|⟨c75,h⟩
 ·obtain⟨x77,bx77,h⟩:=aB h
  obtain⟨x78,bx78,h⟩:=aB h
  obtain⟨x79,bx79,h⟩:=aB h
  obtain⟨x80,bx80,h⟩:=aB h
  obtain⟨r81,br81,h⟩:=aB h
  obtain rfl:=lf h
  exact rU A7 (p76<|sg 0 c75<|qX [0,1,0,4,0,28,60,124,0,508,1020,2044,4092,8191,0,16384,0,114688,245760,507904,0,2080768,4177920,8372224,16760832,33538048,67108863,134217727]<|sv (gQ m)<|sv (gR m)<|sv (UZ.ia (k:=.i64) bx77)<|sv (pF x77)<|sv (pG x77)<|sv (Z5.ia (k:=.i64) bx78)<|sv (LR x78)<|sv (L7 x78)<|cz (bJ.ln x78.Names)<|sv (gQ m)<|sv (gR m)<|sv (UZ.ia (k:=.i64) bx79)<|sv (pF x79)<|sv (pG x79)<|sv (Z5.ia (k:=.i64) bx80)<|sv (LS x80)<|sv (L8 x80)<|sv (ck.mk' (v:=fe) dl ([x80.Body]:List aa) 1 (by kernel_rfl))<|bT (ed br81)<|eF .normal (jo m i (aR ((aR ((aR (n+1))+(x78.Names.length:Int)))+r81)) (aR (k+1))))<|by kernel_rfl
 ·obtain rfl:=lf h
  have z:=p76<|sg 0 c75<|eF (.exit 12) (rv m i n)
  exact i7 A7 (by intro hx;cases hx) z<|by kernel_rfl
theorem F6{x:Int}(h:vS m i n k=some x):aT Pg GE 0 (.loop (cA b7 261087)) (EX (.exit 12) (rv m i x)) (jo m i n k):=
 aT.loop (S:=fun(zz:Int×Int)=>jo m i zz.1 zz.2) (ex:=(fun _=>.exit 12)) (s:=(n,k)) h fun zz y hy=>Eg m i zz.1 zz.2 hy
end
section
variable(m:aQ)(n:Int)(i:Int)
def jn:az:=aY 303 [(1,.eptr (aC m)),(3,.int .i64 n),(9,.int .i64 i)] [.dead] []
def ru(o:Int):az:=aY 303 [(1,.eptr (aC m)),(3,.int .i64 o)] [.dead] []
def gL:Option ((Int×Int)⊕(Int)):=
 (qf m n i).bind fun o66=>
 if o66=true then
  (cR m.Measures i).bind fun x69=>
  (ec ([x69.Inv]:List aa) 4000).bind fun r70=>
  (vS m i (aR ((aR (n+1))+r70)) 0).bind fun o82=>
  some (.inl (o82,aR (i+1)))
 else
  some (.inr n)
def vR:Option Int:=loop (fun(zz:Int×Int)=>gL m zz.1 zz.2) (n,i)
theorem Ef{y:(Int×Int)⊕(Int)}(h:gL m n i=some y):aT Pg GE 0 (cA b7 2039) (LQ (fun(zz:Int×Int)=>jn m zz.1 zz.2) (fun _=>.exit 10) (ru m) y) (jn m n i):=by
 obtain⟨o66,bo66,h⟩:=aB h
 have p68:=fun{sc F} (r:PS sc F)=>nD 1<|di (F1 m n i bo66)<|r
 rcases aZ h with⟨c67,h⟩|⟨c67,h⟩
 ·obtain⟨x69,bx69,h⟩:=aB h
  obtain⟨r70,br70,h⟩:=aB h
  obtain⟨o82,bo82,h⟩:=aB h
  obtain rfl:=lf h
  exact rU A7 (p68<|sg 0 c67<|sv (gQ m)<|sv (gR m)<|sv (UZ.ia (k:=.i64) bx69)<|sv (Gi x69)<|sv (Gr x69)<|sv (ck.mk' (v:=fe) dl ([x69.Inv]:List aa) 1 (by kernel_rfl))<|bT (ed br70)<|di (F6 m i (aR ((aR (n+1))+r70)) 0 bo82)<|eF .normal (jn m o82 (aR (i+1))))<|by kernel_rfl
 ·obtain rfl:=lf h
  have z:=p68<|sg 0 c67<|eF (.exit 10) (ru m n)
  exact i7 A7 (by intro hx;cases hx) z<|by kernel_rfl
theorem F5{x:Int}(h:vR m n i=some x):aT Pg GE 0 (.loop (cA b7 2039)) (EX (.exit 10) (ru m x)) (jn m n i):=
 aT.loop (S:=fun(zz:Int×Int)=>jn m zz.1 zz.2) (ex:=(fun _=>.exit 10)) (s:=(n,i)) h fun zz y hy=>Ef m zz.1 zz.2 hy
end
section
variable(m:aQ)(n:Int)(i:Int)
def H6:az:=aY 303 [(1,.eptr (aC m)),(3,.int .i64 n),(11,.int .i64 i)] [.dead] []
def rr(o:Bool):az:=aY 303 [(1,.eptr (aC m)),(3,.int .i64 n),(11,.int .i64 i),(279,.bool o)] [.dead] []
def qh:Option Bool:=
 if(decide (i<(m.Quals.length:Int)))=true then
  some (decide (n<=4000))
 else
  some false
theorem F3{x:Bool}(h:qh m n i=some x):aT Pg GE 0 (cA b7 16348) (EX .normal (rr m n i x)) (H6 m n i):=by
 have p85:=fun{sc F} (r:PS sc F)=>sv (mY m)<|sv (nf m)<|cz (Yp.ln m.Quals)<|r
 rcases aZ h with⟨c84,h⟩|⟨c84,h⟩
 ·obtain rfl:=lf h
  exact cw A7 (p85<|sg 6 c84<|eF .normal (rr m n i (decide (n<=4000))))<|by kernel_rfl
 ·obtain rfl:=lf h
  exact cw A7 (p85<|sg 6 c84<|eF .normal (rr m n i false))<|by kernel_rfl
end
section
variable(m:aQ)(n:Int)(i:Int)
def jp:az:=aY 303 [(1,.eptr (aC m)),(3,.int .i64 n),(11,.int .i64 i)] [.dead] []
def rx(o:Int):az:=aY 303 [(3,.int .i64 o)] [.dead] []
def gN:Option ((Int×Int)⊕(Int)):=
 (qh m n i).bind fun o86=>
 if o86=true then
  (cR m.Quals i).bind fun x89=>
  (cR m.Quals i).bind fun x90=>
  (ec ([x90.Body]:List aa) 4000).bind fun r91=>
  some (.inl (aR ((aR ((aR (n+1))+(x89.Vars.length:Int)))+r91),aR (i+1)))
 else
  some (.inr n)
def vU:Option Int:=loop (fun(zz:Int×Int)=>gN m zz.1 zz.2) (n,i)
theorem Eh{y:(Int×Int)⊕(Int)}(h:gN m n i=some y):aT Pg GE 0 (cA b7 4087) (LQ (fun(zz:Int×Int)=>jp m zz.1 zz.2) (fun _=>.exit 14) rx y) (jp m n i):=by
 obtain⟨o86,bo86,h⟩:=aB h
 have p88:=fun{sc F} (r:PS sc F)=>nD 1<|di (F3 m n i bo86)<|r
 rcases aZ h with⟨c87,h⟩|⟨c87,h⟩
 ·obtain⟨x89,bx89,h⟩:=aB h
  obtain⟨x90,bx90,h⟩:=aB h
  obtain⟨r91,br91,h⟩:=aB h
  obtain rfl:=lf h
  exact rU A7 (p88<|sg 0 c87<|qX [0,1,0,4,0,28,60,124,252,511,0,1024,0,7168,15360,31744,64512,130048,262143,524287]<|sv (mY m)<|sv (nf m)<|sv (Yp.ia (k:=.i64) bx89)<|sv (L1 x89)<|sv (Mc x89)<|cz (GT.ln x89.Vars)<|sv (mY m)<|sv (nf m)<|sv (Yp.ia (k:=.i64) bx90)<|sv (L2 x90)<|sv (Md x90)<|sv (ck.mk' (v:=fe) dl ([x90.Body]:List aa) 1 (by kernel_rfl))<|bT (ed br91)<|eF .normal (jp m (aR ((aR ((aR (n+1))+(x89.Vars.length:Int)))+r91)) (aR (i+1))))<|by kernel_rfl
 ·obtain rfl:=lf h
  have z:=p88<|sg 0 c87<|eF (.exit 14) (rx n)
  exact i7 A7 (by intro hx;cases hx) z<|by kernel_rfl
theorem F7{x:Int}(h:vU m n i=some x):aT Pg GE 0 (.loop (cA b7 4087)) (EX (.exit 14) (rx x)) (jp m n i):=
 aT.loop (S:=fun(zz:Int×Int)=>jp m zz.1 zz.2) (ex:=(fun _=>.exit 14)) (s:=(n,i)) h fun zz y hy=>Eh m zz.1 zz.2 hy
end
def wF(m:aQ):Option Bool:=
 (xT m).bind fun o11=>
 if o11=true then
  some false
 else
  (mt m.Defs 4000).bind fun r14=>
  (xU m r14 0).bind fun o36=>
  (xW m o36 0).bind fun o52=>
  (vQ m o52 0).bind fun o63=>
  (vR m o63 0).bind fun o83=>
  (vU m o83 0).bind fun o92=>
  some (decide (o92<=4000))
theorem NU{m:aQ}{r:Bool}(h:wF m=some r):CC Pg GE 7 [.agg (aC m)] (.bool r) []:=by
 obtain⟨o11,bo11,h⟩:=aB h
 have p13:=fun{sc F} (r:PS sc F)=>se (tX m)<|nD 1<|di (H7 m bo11)<|r
 rcases aZ h with⟨c12,h⟩|⟨c12,h⟩
 ·obtain rfl:=lf h
  have z:=p13<|sg 0 c12<|en (aI (rP (.bool false))<|trivial)
  exact cn A7 call7 func7 (c:=b7) rfl (aI (eW m) trivial) z<|by kernel_rfl
 ·obtain⟨r14,br14,h⟩:=aB h
  obtain⟨o36,bo36,h⟩:=aB h
  obtain⟨o52,bo52,h⟩:=aB h
  obtain⟨o63,bo63,h⟩:=aB h
  obtain⟨o83,bo83,h⟩:=aB h
  obtain⟨o92,bo92,h⟩:=aB h
  obtain rfl:=lf h
  have z:=p13<|sg 0 c12<|sv (y0 m)<|sv (y5 m)<|bT (wG br14)<|di (Ic m r14 0 bo36)<|di (Ie m o36 0 bo52)<|di (F4 m o52 0 bo63)<|di (F5 m o63 0 bo83)<|di (F7 m o83 0 bo92)<|en (aI (rP (.bool (decide (o92<=4000))))<|trivial)
  exact cn A7 call7 func7 (c:=b7) rfl (aI (eW m) trivial) z<|by kernel_rfl
abbrev tC:=(bL->Int->Option Int)
abbrev sV(R:tC):Prop:=∀(e:bL) (most:Int) (r:Int),R e most=some r->CC Pg GE 30 [.agg (aP e),.int .i64 most] (.int .i64 r) []
abbrev uO:=(waC->Int->Option Int)
abbrev zB(R:uO):Prop:=∀(a:waC) (most:Int) (r:Int),R a most=some r->CC Pg GE 51 [sl af a,.int .i64 most] (.int .i64 r) []
abbrev uN:=(waB->Int->Option Int)
abbrev zA(R:uN):Prop:=∀(a:waB) (most:Int) (r:Int),R a most=some r->CC Pg GE 76 [sl ac a,.int .i64 most] (.int .i64 r) []
noncomputable def qb4:Code:=f76.body.getD .skip
def qaG:List Nat:=[39]
section
variable(v:waB)(most:Int)(n:Int)(i:Int)
def Jx:az:=aY 40 [(0,sl ac v),(1,.int .i64 most),(5,.int .i64 n),(6,.int .i64 i)] [] []
def te(o:Bool):az:=aY 40 [(0,sl ac v),(1,.int .i64 most),(5,.int .i64 n),(6,.int .i64 i),(15,.bool o)] [] []
def sd:Option Bool:=
 if(decide (i<(v.length:Int)))=true then
  some (decide (n<=most))
 else
  some false
theorem HR{x:Bool}(h:sd v most n i=some x):aT Pg GE 0 (cA qb4 476) (EX .normal (te v most n i x)) (Jx v most n i):=by
 rcases aZ h with⟨c1,h⟩|⟨c1,h⟩
 ·obtain rfl:=lf h
  exact cw qaG (cz (ck.ln v)<|sg 5 c1<|eF .normal (te v most n i (decide (n<=most))))<|by kernel_rfl
 ·obtain rfl:=lf h
  exact cw qaG (cz (ck.ln v)<|sg 5 c1<|eF .normal (te v most n i false))<|by kernel_rfl
end
section
variable(R10:uN)(v:waB)(most:Int)(n:Int)(i:Int)
def kp:az:=aY 40 [(0,sl ac v),(1,.int .i64 most),(5,.int .i64 n),(6,.int .i64 i)] [] []
def tf(o:Int):az:=aY 40 [(5,.int .i64 o)] [] []
def iF:Option ((Int×Int)⊕(Int)):=
 (sd v most n i).bind fun o2=>
 if o2=true then
  (cR v i).bind fun x5=>
  (qu .i64 (x5.Name.length:Int) 50).bind fun q6=>
  (cR v i).bind fun x7=>
  (R10 x7.Kids (aR (most - (aR ((aR (n+1))+q6))))).bind fun r8=>
  some (.inl (aR ((aR ((aR (n+1))+q6))+r8),aR (i+1)))
 else
  some (.inr n)
def xN:Option Int:=loop (fun(zz:Int×Int)=>iF R10 v most zz.1 zz.2) (n,i)
theorem FT(hR10:zA R10){y:(Int×Int)⊕(Int)}(h:iF R10 v most n i=some y):aT Pg GE 0 (cA qb4 119) (LQ (fun(zz:Int×Int)=>kp v most zz.1 zz.2) (fun _=>.exit 0) tf y) (kp v most n i):=by
 obtain⟨o2,bo2,h⟩:=aB h
 have p4:=fun{sc F} (r:PS sc F)=>nD 1<|di (HR v most n i bo2)<|r
 rcases aZ h with⟨c3,h⟩|⟨c3,h⟩
 ·obtain⟨x5,bx5,h⟩:=aB h
  obtain⟨q6,bq6,h⟩:=aB h
  obtain⟨x7,bx7,h⟩:=aB h
  obtain⟨r8,br8,h⟩:=aB h
  obtain rfl:=lf h
  exact rU qaG (p4<|sg 0 c3<|sv (ck.ia (k:=.i64) bx5)<|sv (cC x5)<|sv (cN x5)<|cz (gI underlying9 x5.Name)<|sv (yX (P:=Pg) (t:=3) bq6)<|sv (ck.ia (k:=.i64) bx7)<|sv (bq x7)<|sv (bu x7)<|bT (hR10 _ _ _ br8)<|eF .normal (kp v most (aR ((aR ((aR (n+1))+q6))+r8)) (aR (i+1))))<|by kernel_rfl
 ·obtain rfl:=lf h
  have z:=p4<|sg 0 c3<|eF (.exit 0) (tf n)
  exact i7 qaG (by intro hx;cases hx) z<|by kernel_rfl
theorem HS(hR10:zA R10){x:Int}(h:xN R10 v most n i=some x):aT Pg GE 0 (.loop (cA qb4 119)) (EX (.exit 0) (tf x)) (kp v most n i):=
 aT.loop (S:=fun(zz:Int×Int)=>kp v most zz.1 zz.2) (ex:=(fun _=>.exit 0)) (s:=(n,i)) h fun zz y hy=>FT R10 v most zz.1 zz.2 hR10 hy
end
def uH(R10:uN)(a:waB)(most:Int):Option Int:=
 (xN R10 a most 0 0).bind fun o9=>
 some o9
theorem LC(R10:uN)(hR10:zA R10){a:waB}{most:Int}{r:Int}(h:uH R10 a most=some r):CC Pg GE 76 [sl ac a,.int .i64 most] (.int .i64 r) []:=by
 obtain⟨o9,bo9,h⟩:=aB h
 obtain rfl:=lf h
 have z:=di (HS R10 a most 0 0 hR10 bo9)<|en (aI (rP (.int .i64 o9))<|trivial)
 exact cn qaG call76 func76 (c:=qb4) rfl (aI (aq ah a) (aI trivial trivial)) z<|by kernel_rfl
def Ag:((waB×Int)->Option Int)->(waB×Int)->Option Int:=fun(rec:(waB×Int)->Option Int) (x:waB×Int)=>uH (fun a most=>rec (a,most)) x.1 x.2
def FQ(a:waB)(most:Int):Option Int:=oG Ag (a,most)
theorem NS{a:waB}{most:Int}{r:Int}(h:FQ a most=some r):CC Pg GE 76 [sl ac a,.int .i64 most] (.int .i64 r) []:=
 cU (F:=Ag) (M:=fun(x:waB×Int) (r:Int)=>CC Pg GE 76 [sl ac x.1,.int .i64 x.2] (.int .i64 r) []) (fun rec hrec x r h=>LC _ (fun a most r h=>hrec (a,most) r h) h) h
noncomputable def qb0:Code:=f51.body.getD .skip
def qaD:List Nat:=[61]
section
variable(v:waC)(most:Int)(n:Int)(i:Int)
def Jy:az:=aY 62 [(0,sl af v),(1,.int .i64 most),(5,.int .i64 n),(6,.int .i64 i)] [] []
def th(o:Bool):az:=aY 62 [(0,sl af v),(1,.int .i64 most),(5,.int .i64 n),(6,.int .i64 i),(15,.bool o)] [] []
def sh:Option Bool:=
 if(decide (i<(v.length:Int)))=true then
  some (decide (n<=most))
 else
  some false
theorem HT{x:Bool}(h:sh v most n i=some x):aT Pg GE 0 (cA qb0 476) (EX .normal (th v most n i x)) (Jy v most n i):=by
 rcases aZ h with⟨c1,h⟩|⟨c1,h⟩
 ·obtain rfl:=lf h
  exact cw qaD (cz (cX.ln v)<|sg 5 c1<|eF .normal (th v most n i (decide (n<=most))))<|by kernel_rfl
 ·obtain rfl:=lf h
  exact cw qaD (cz (cX.ln v)<|sg 5 c1<|eF .normal (th v most n i false))<|by kernel_rfl
end
section
variable(R9:uO)(v:waC)(most:Int)(n:Int)(i:Int)
def kq:az:=aY 62 [(0,sl af v),(1,.int .i64 most),(5,.int .i64 n),(6,.int .i64 i)] [] []
def ti(o:Int):az:=aY 62 [(5,.int .i64 o)] [] []
def iG:Option ((Int×Int)⊕(Int)):=
 (sh v most n i).bind fun o2=>
 if o2=true then
  (cR v i).bind fun x5=>
  (qu .i64 (x5.Name.length:Int) 50).bind fun q6=>
  (cR v i).bind fun x7=>
  (cR v i).bind fun x8=>
  (cR v i).bind fun x9=>
  (app ([x8.Pred]:List aa) x9.Preds).bind fun l10=>
  (FQ l10 most).bind fun r11=>
  (cR v i).bind fun x12=>
  (R9 x12.Args (aR (most - (aR ((aR ((aR ((aR (n+1))+q6))+(x7.Names.length:Int)))+r11))))).bind fun r13=>
  some (.inl (aR ((aR ((aR ((aR ((aR (n+1))+q6))+(x7.Names.length:Int)))+r11))+r13),aR (i+1)))
 else
  some (.inr n)
def xO:Option Int:=loop (fun(zz:Int×Int)=>iG R9 v most zz.1 zz.2) (n,i)
theorem FU(hR9:zB R9){y:(Int×Int)⊕(Int)}(h:iG R9 v most n i=some y):aT Pg GE 0 (cA qb0 119) (LQ (fun(zz:Int×Int)=>kq v most zz.1 zz.2) (fun _=>.exit 0) ti y) (kq v most n i):=by
 obtain⟨o2,bo2,h⟩:=aB h
 have p4:=fun{sc F} (r:PS sc F)=>nD 1<|di (HT v most n i bo2)<|r
 rcases aZ h with⟨c3,h⟩|⟨c3,h⟩
 ·obtain⟨x5,bx5,h⟩:=aB h
  obtain⟨q6,bq6,h⟩:=aB h
  obtain⟨x7,bx7,h⟩:=aB h
  obtain⟨x8,bx8,h⟩:=aB h
  obtain⟨x9,bx9,h⟩:=aB h
  obtain⟨l10,bl10,h⟩:=aB h
  obtain⟨r11,br11,h⟩:=aB h
  obtain⟨x12,bx12,h⟩:=aB h
  obtain⟨r13,br13,h⟩:=aB h
  obtain rfl:=lf h
  exact rU qaD (p4<|sg 0 c3<|qX [0,1,0,0,12,28,60,124,252,511,0,0,3072,7168,15360,31744,65535,0,0,393216,917504,1966080,4063232,0,0,25165824,58720256,125829120,268304384,0,1073610752,2147483647,4294967295]<|sv (cX.ia (k:=.i64) bx5)<|sv (df x5)<|sv (dA x5)<|cz (gI underlying9 x5.Name)<|sv (yX (P:=Pg) (t:=3) bq6)<|sv (cX.ia (k:=.i64) bx7)<|sv (bh x7)<|sv (bj x7)<|cz (bJ.ln x7.Names)<|sv (cX.ia (k:=.i64) bx8)<|sv (d8 x8)<|sv (d9 x8)<|sv (ck.mk' (v:=fe) dl ([x8.Pred]:List aa) 1 (by kernel_rfl))<|sv (cX.ia (k:=.i64) bx9)<|sv (dJ x9)<|sv (dM x9)<|sv (ck.ap bl10)<|bT (NS br11)<|sv (cX.ia (k:=.i64) bx12)<|sv (aW x12)<|sv (aX x12)<|bT (hR9 _ _ _ br13)<|eF .normal (kq v most (aR ((aR ((aR ((aR ((aR (n+1))+q6))+(x7.Names.length:Int)))+r11))+r13)) (aR (i+1))))<|by kernel_rfl
 ·obtain rfl:=lf h
  have z:=p4<|sg 0 c3<|eF (.exit 0) (ti n)
  exact i7 qaD (by intro hx;cases hx) z<|by kernel_rfl
theorem HU(hR9:zB R9){x:Int}(h:xO R9 v most n i=some x):aT Pg GE 0 (.loop (cA qb0 119)) (EX (.exit 0) (ti x)) (kq v most n i):=
 aT.loop (S:=fun(zz:Int×Int)=>kq v most zz.1 zz.2) (ex:=(fun _=>.exit 0)) (s:=(n,i)) h fun zz y hy=>FU R9 v most zz.1 zz.2 hR9 hy
end
def uI(R9:uO)(a:waC)(most:Int):Option Int:=
 (xO R9 a most 0 0).bind fun o14=>
 some o14
theorem LD(R9:uO)(hR9:zB R9){a:waC}{most:Int}{r:Int}(h:uI R9 a most=some r):CC Pg GE 51 [sl af a,.int .i64 most] (.int .i64 r) []:=by
 obtain⟨o14,bo14,h⟩:=aB h
 obtain rfl:=lf h
 have z:=di (HU R9 a most 0 0 hR9 bo14)<|en (aI (rP (.int .i64 o14))<|trivial)
 exact cn qaD call51 func51 (c:=qb0) rfl (aI (aq av a) (aI trivial trivial)) z<|by kernel_rfl
def Ah:((waC×Int)->Option Int)->(waC×Int)->Option Int:=fun(rec:(waC×Int)->Option Int) (x:waC×Int)=>uI (fun a most=>rec (a,most)) x.1 x.2
def BB(a:waC)(most:Int):Option Int:=oG Ah (a,most)
theorem Ed{a:waC}{most:Int}{r:Int}(h:BB a most=some r):CC Pg GE 51 [sl af a,.int .i64 most] (.int .i64 r) []:=
 cU (F:=Ah) (M:=fun(x:waC×Int) (r:Int)=>CC Pg GE 51 [sl af x.1,.int .i64 x.2] (.int .i64 r) []) (fun rec hrec x r h=>LD _ (fun a most r h=>hrec (a,most) r h) h) h
noncomputable def qb1:Code:=f52.body.getD .skip
def qaE:List Nat:=[27]
section
variable(v:waA)(most:Int)(n:Int)(i:Int)
def Jw:az:=aY 28 [(0,sl cS v),(1,.int .i64 most),(5,.int .i64 n),(6,.int .i64 i)] [] []
def tc(o:Bool):az:=aY 28 [(0,sl cS v),(1,.int .i64 most),(5,.int .i64 n),(6,.int .i64 i),(15,.bool o)] [] []
def Eb:Option Bool:=
 if(decide (i<(v.length:Int)))=true then
  some (decide (n<=most))
 else
  some false
theorem HP{x:Bool}(h:Eb v most n i=some x):aT Pg GE 0 (cA qb1 476) (EX .normal (tc v most n i x)) (Jw v most n i):=by
 rcases aZ h with⟨c1,h⟩|⟨c1,h⟩
 ·obtain rfl:=lf h
  exact cw qaE (cz (bJ.ln v)<|sg 5 c1<|eF .normal (tc v most n i (decide (n<=most))))<|by kernel_rfl
 ·obtain rfl:=lf h
  exact cw qaE (cz (bJ.ln v)<|sg 5 c1<|eF .normal (tc v most n i false))<|by kernel_rfl
end
section
variable(v:waA)(most:Int)(n:Int)(i:Int)
def ko:az:=aY 28 [(0,sl cS v),(1,.int .i64 most),(5,.int .i64 n),(6,.int .i64 i)] [] []
def td(o:Int):az:=aY 28 [(5,.int .i64 o)] [] []
def Af:Option ((Int×Int)⊕(Int)):=
 (Eb v most n i).bind fun o2=>
 if o2=true then
  (cR v i).bind fun x5=>
  (qu .i64 (x5.length:Int) 50).bind fun q6=>
  some (.inl (aR ((aR (n+1))+q6),aR (i+1)))
 else
  some (.inr n)
def Ec:Option Int:=loop (fun(zz:Int×Int)=>Af v most zz.1 zz.2) (n,i)
theorem FP{y:(Int×Int)⊕(Int)}(h:Af v most n i=some y):aT Pg GE 0 (cA qb1 119) (LQ (fun(zz:Int×Int)=>ko v most zz.1 zz.2) (fun _=>.exit 0) td y) (ko v most n i):=by
 obtain⟨o2,bo2,h⟩:=aB h
 have p4:=fun{sc F} (r:PS sc F)=>nD 1<|di (HP v most n i bo2)<|r
 rcases aZ h with⟨c3,h⟩|⟨c3,h⟩
 ·obtain⟨x5,bx5,h⟩:=aB h
  obtain⟨q6,bq6,h⟩:=aB h
  obtain rfl:=lf h
  exact rU qaE (p4<|sg 0 c3<|sv (bJ.ia (k:=.i64) bx5)<|sv (im Mo (.str x5) [])<|cz (gI underlying9 x5)<|sv (yX (P:=Pg) (t:=3) bq6)<|eF .normal (ko v most (aR ((aR (n+1))+q6)) (aR (i+1))))<|by kernel_rfl
 ·obtain rfl:=lf h
  have z:=p4<|sg 0 c3<|eF (.exit 0) (td n)
  exact i7 qaE (by intro hx;cases hx) z<|by kernel_rfl
theorem HQ{x:Int}(h:Ec v most n i=some x):aT Pg GE 0 (.loop (cA qb1 119)) (EX (.exit 0) (td x)) (ko v most n i):=
 aT.loop (S:=fun(zz:Int×Int)=>ko v most zz.1 zz.2) (ex:=(fun _=>.exit 0)) (s:=(n,i)) h fun zz y hy=>FP v most zz.1 zz.2 hy
end
def Mt(a:waA)(most:Int):Option Int:=
 (Ec a most 0 0).bind fun o7=>
 some o7
theorem NR{a:waA}{most:Int}{r:Int}(h:Mt a most=some r):CC Pg GE 52 [sl cS a,.int .i64 most] (.int .i64 r) []:=by
 obtain⟨o7,bo7,h⟩:=aB h
 obtain rfl:=lf h
 have z:=di (HQ a most 0 0 bo7)<|en (aI (rP (.int .i64 o7))<|trivial)
 exact cn qaE call52 func52 (c:=qb1) rfl (aI (aq gG a) (aI trivial trivial)) z<|by kernel_rfl
end Go.Proofs.YtbaamopmfmpfaaaGreatDoor
