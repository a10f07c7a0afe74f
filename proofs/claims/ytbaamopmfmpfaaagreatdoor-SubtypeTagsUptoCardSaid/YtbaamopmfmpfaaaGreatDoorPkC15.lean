/- PROVED: parts of the proof (G1). Conditions: none. -/
import Derived.Test.YtbaamopmfmpfaaaGreatDoorPkC13
import Derived.Test.YtbaamopmfmpfaaaGreatDoorPkC14
noncomputable section
namespace Go.Proofs.YtbaamopmfmpfaaaGreatDoor
open Go
set_option linter.unusedVariables false
set_option maxRecDepth 100000
abbrev lp:=(waC->Int->Option Int)
abbrev pq(R:lp):Prop:=∀(a:waC) (most:Int) (r:Int),R a most=some r->CC Pg GE 28 [sl af a,.int .i64 most] (.int .i64 r) []
abbrev lm:=(waB->Int->Option Int)
abbrev pp(R:lm):Prop:=∀(a:waB) (most:Int) (r:Int),R a most=some r->CC Pg GE 29 [sl ac a,.int .i64 most] (.int .i64 r) []
def qbX:Code:=Tryz.f29.body.getD .skip
def qaC:List Nat:=[39]
section
variable(v:waB)(most:Int)(n:Int)(i:Int)
def Cc:az:=aY 40 [(0,sl ac v),(1,.int .i64 most),(5,.int .i64 n),(6,.int .i64 i)] [] []
def lL(o:Bool):az:=aY 40 [(0,sl ac v),(1,.int .i64 most),(5,.int .i64 n),(6,.int .i64 i),(15,.bool o)] [] []
def j9:Option Bool:=
 if(decide (i<(v.length:Int)))=true then
  some (decide (n<=most))
 else
  some false
theorem Al{x:Bool}(h:j9 v most n i=some x):
  aT Pg GE 0 (cA qbX 476) (EX .normal (lL v most n i x)) (Cc v most n i):=by
 rcases aZ h with⟨c1,h⟩|⟨c1,h⟩
 ·obtain rfl:=lf h
  exact cw qaC (cz (ck.ln v)<|sg 5 c1<|eF .normal (lL v most n i (decide (n<=most)))) (by kernel_rfl)
 ·obtain rfl:=lf h
  exact cw qaC (cz (ck.ln v)<|sg 5 c1<|eF .normal (lL v most n i false)) (by kernel_rfl)
end
section
variable(R5:lm)(v:waB)(most:Int)(n:Int)(i:Int)
def fR:az:=aY 40 [(0,sl ac v),(1,.int .i64 most),(5,.int .i64 n),(6,.int .i64 i)] [] []
def lM(o:Int):az:=aY 40 [(5,.int .i64 o)] [] []
def eC:Option ((Int×Int)⊕(Int)):=
 (j9 v most n i).bind fun o2=>
 if o2=true then
  (cR v i).bind fun x5=>
  (qu .i64 (x5.Name.length:Int) 100).bind fun q6=>
  (cR v i).bind fun x7=>
  (R5 x7.Kids (aR (most - (aR ((aR (n+1))+q6))))).bind fun r8=>
  some (.inl (aR ((aR ((aR (n+1))+q6))+r8),aR (i+1)))
 else
  some (.inr n)
def oe:Option Int:=loop (fun(zz:Int×Int)=>eC R5 v most zz.1 zz.2) (n,i)
theorem za(hR5:pp R5){y:(Int×Int)⊕(Int)}(h:eC R5 v most n i=some y):
  aT Pg GE 0 (cA qbX 119) (LQ (fun(zz:Int×Int)=>fR v most zz.1 zz.2) (fun _=>.exit 0) lM y) (fR v most n i):=by
 obtain⟨o2,bo2,h⟩:=aB h
 have p4:=fun{sc F} (r:PS sc F)=>nD 1<|di (Al v most n i bo2)<|r
 rcases aZ h with⟨c3,h⟩|⟨c3,h⟩
 ·obtain⟨x5,bx5,h⟩:=aB h
  obtain⟨q6,bq6,h⟩:=aB h
  obtain⟨x7,bx7,h⟩:=aB h
  obtain⟨r8,br8,h⟩:=aB h
  obtain rfl:=lf h
  exact rU qaC (p4<|sg 0 c3<|sv (ck.ia (k:=.i64) bx5)<|sv (cC x5)<|sv (cN x5)<|cz (gI Tryz.underlying9 x5.Name)<|sv (yX (P:=Pg) (t:=3) bq6)<|sv (ck.ia (k:=.i64) bx7)<|sv (bq x7)<|sv (bu x7)<|bT (hR5 _ _ _ br8)<|eF .normal (fR v most (aR ((aR ((aR (n+1))+q6))+r8)) (aR (i+1)))) (by kernel_rfl)
 ·obtain rfl:=lf h
  have z:=p4<|sg 0 c3<|eF (.exit 0) (lM n)
  exact i7 qaC (by intro hx;cases hx) z (by kernel_rfl)
theorem Am(hR5:pp R5){x:Int}(h:oe R5 v most n i=some x):
  aT Pg GE 0 (.loop (cA qbX 119)) (EX (.exit 0) (lM x)) (fR v most n i):=
 aT.loop (S:=fun(zz:Int×Int)=>fR v most zz.1 zz.2) (ex:=(fun _=>.exit 0)) (s:=(n,i)) h fun zz y hy=>za R5 v most zz.1 zz.2 hR5 hy
end
def lk(R5:lm)(a:waB)(most:Int):Option Int:=
 (oe R5 a most 0 0).bind fun o9=>
 some o9
theorem Da(R5:lm)(hR5:pp R5){a:waB}{most:Int}{r:Int}(h:lk R5 a most=some r):CC Pg GE 29 [sl ac a,.int .i64 most] (.int .i64 r) []:=by
 obtain⟨o9,bo9,h⟩:=aB h
 obtain rfl:=lf h
 have z:=di (Am R5 a most 0 0 hR5 bo9)<|en (aI (rP (.int .i64 o9))<|trivial)
 exact cn qaC Tryz.call29 Tryz.func29 (c:=qbX) rfl (aI (aq ah a) (aI trivial trivial)) z (by kernel_rfl)
def pz:((waB×Int)->Option Int)->(waB×Int)->Option Int:=fun(rec:(waB×Int)->Option Int) (x:waB×Int)=>lk (fun a most=>rec (a,most)) x.1 x.2
def ec(a:waB)(most:Int):Option Int:=oG pz (a,most)
theorem ed{a:waB}{most:Int}{r:Int}(h:ec a most=some r):CC Pg GE 29 [sl ac a,.int .i64 most] (.int .i64 r) []:=
 cU (F:=pz) (M:=fun(x:waB×Int) (r:Int)=>CC Pg GE 29 [sl ac x.1,.int .i64 x.2] (.int .i64 r) []) (fun rec hrec x r h=>Da _ (fun a most r h=>hrec (a,most) r h) h) h
def qbW:Code:=Tryz.f28.body.getD .skip
def qaB:List Nat:=[63]
section
variable(v:waC)(most:Int)(n:Int)(i:Int)
def Cd:az:=aY 64 [(0,sl af v),(1,.int .i64 most),(5,.int .i64 n),(6,.int .i64 i)] [] []
def lN(o:Bool):az:=aY 64 [(0,sl af v),(1,.int .i64 most),(5,.int .i64 n),(6,.int .i64 i),(15,.bool o)] [] []
def ka:Option Bool:=
 if(decide (i<(v.length:Int)))=true then
  some (decide (n<=most))
 else
  some false
theorem An{x:Bool}(h:ka v most n i=some x):
  aT Pg GE 0 (cA qbW 476) (EX .normal (lN v most n i x)) (Cd v most n i):=by
 rcases aZ h with⟨c1,h⟩|⟨c1,h⟩
 ·obtain rfl:=lf h
  exact cw qaB (cz (cX.ln v)<|sg 5 c1<|eF .normal (lN v most n i (decide (n<=most)))) (by kernel_rfl)
 ·obtain rfl:=lf h
  exact cw qaB (cz (cX.ln v)<|sg 5 c1<|eF .normal (lN v most n i false)) (by kernel_rfl)
end
section
variable(R4:lp)(v:waC)(most:Int)(n:Int)(i:Int)
def fS:az:=aY 64 [(0,sl af v),(1,.int .i64 most),(5,.int .i64 n),(6,.int .i64 i)] [] []
def lO(o:Int):az:=aY 64 [(5,.int .i64 o)] [] []
def eD:Option ((Int×Int)⊕(Int)):=
 (ka v most n i).bind fun o2=>
 if o2=true then
  (cR v i).bind fun x5=>
  (qu .i64 (x5.Name.length:Int) 100).bind fun q6=>
  (cR v i).bind fun x7=>
  (cR v i).bind fun x8=>
  (ec x8.Preds most).bind fun r9=>
  (cR v i).bind fun x10=>
  (ec ([x10.Pred]:List aa) most).bind fun r11=>
  (cR v i).bind fun x12=>
  (R4 x12.Args (aR (most - (aR ((aR ((aR ((aR ((aR (n+1))+q6))+(x7.Names.length:Int)))+r9))+r11))))).bind fun r13=>
  some (.inl (aR ((aR ((aR ((aR ((aR ((aR (n+1))+q6))+(x7.Names.length:Int)))+r9))+r11))+r13),aR (i+1)))
 else
  some (.inr n)
def og:Option Int:=loop (fun(zz:Int×Int)=>eD R4 v most zz.1 zz.2) (n,i)
theorem zb(hR4:pq R4){y:(Int×Int)⊕(Int)}(h:eD R4 v most n i=some y):
  aT Pg GE 0 (cA qbW 119) (LQ (fun(zz:Int×Int)=>fS v most zz.1 zz.2) (fun _=>.exit 0) lO y) (fS v most n i):=by
 obtain⟨o2,bo2,h⟩:=aB h
 have p4:=fun{sc F} (r:PS sc F)=>nD 1<|di (An v most n i bo2)<|r
 rcases aZ h with⟨c3,h⟩|⟨c3,h⟩
 ·obtain⟨x5,bx5,h⟩:=aB h
  obtain⟨q6,bq6,h⟩:=aB h
  obtain⟨x7,bx7,h⟩:=aB h
  obtain⟨x8,bx8,h⟩:=aB h
  obtain⟨r9,br9,h⟩:=aB h
  obtain⟨x10,bx10,h⟩:=aB h
  obtain⟨r11,br11,h⟩:=aB h
  obtain⟨x12,bx12,h⟩:=aB h
  obtain⟨r13,br13,h⟩:=aB h
  obtain rfl:=lf h
  exact rU qaB (p4<|sg 0 c3<|qX [0,1,0,0,12,28,60,124,252,511,0,0,3072,7168,15360,31744,65535,0,0,393216,917504,1966080,0,8257536,16777215,0,0,100663296,234881024,503316480,1040187392,0,4278059008,8589934591,17179869183]<|sv (cX.ia (k:=.i64) bx5)<|sv (df x5)<|sv (dA x5)<|cz (gI Tryz.underlying9 x5.Name)<|sv (yX (P:=Pg) (t:=3) bq6)<|sv (cX.ia (k:=.i64) bx7)<|sv (bh x7)<|sv (bj x7)<|cz (bJ.ln x7.Names)<|sv (cX.ia (k:=.i64) bx8)<|sv (dJ x8)<|sv (dM x8)<|bT (ed br9)<|sv (cX.ia (k:=.i64) bx10)<|sv (d8 x10)<|sv (d9 x10)<|sv (ck.mk' (v:=fe) dl ([x10.Pred]:List aa) 1 (by kernel_rfl))<|bT (ed br11)<|sv (cX.ia (k:=.i64) bx12)<|sv (aW x12)<|sv (aX x12)<|bT (hR4 _ _ _ br13)<|eF .normal (fS v most (aR ((aR ((aR ((aR ((aR ((aR (n+1))+q6))+(x7.Names.length:Int)))+r9))+r11))+r13)) (aR (i+1)))) (by kernel_rfl)
 ·obtain rfl:=lf h
  have z:=p4<|sg 0 c3<|eF (.exit 0) (lO n)
  exact i7 qaB (by intro hx;cases hx) z (by kernel_rfl)
theorem Ao(hR4:pq R4){x:Int}(h:og R4 v most n i=some x):
  aT Pg GE 0 (.loop (cA qbW 119)) (EX (.exit 0) (lO x)) (fS v most n i):=
 aT.loop (S:=fun(zz:Int×Int)=>fS v most zz.1 zz.2) (ex:=(fun _=>.exit 0)) (s:=(n,i)) h fun zz y hy=>zb R4 v most zz.1 zz.2 hR4 hy
end
def ll(R4:lp)(a:waC)(most:Int):Option Int:=
 (og R4 a most 0 0).bind fun o14=>
 some o14
theorem Db(R4:lp)(hR4:pq R4){a:waC}{most:Int}{r:Int}(h:ll R4 a most=some r):CC Pg GE 28 [sl af a,.int .i64 most] (.int .i64 r) []:=by
 obtain⟨o14,bo14,h⟩:=aB h
 obtain rfl:=lf h
 have z:=di (Ao R4 a most 0 0 hR4 bo14)<|en (aI (rP (.int .i64 o14))<|trivial)
 exact cn qaB Tryz.call28 Tryz.func28 (c:=qbW) rfl (aI (aq av a) (aI trivial trivial)) z (by kernel_rfl)
def pA:((waC×Int)->Option Int)->(waC×Int)->Option Int:=fun(rec:(waC×Int)->Option Int) (x:waC×Int)=>ll (fun a most=>rec (a,most)) x.1 x.2
def fg(a:waC)(most:Int):Option Int:=oG pA (a,most)
theorem fC{a:waC}{most:Int}{r:Int}(h:fg a most=some r):CC Pg GE 28 [sl af a,.int .i64 most] (.int .i64 r) []:=
 cU (F:=pA) (M:=fun(x:waC×Int) (r:Int)=>CC Pg GE 28 [sl af x.1,.int .i64 x.2] (.int .i64 r) []) (fun rec hrec x r h=>Db _ (fun a most r h=>hrec (a,most) r h) h) h
abbrev qG:=(bL->Int->Option Int)
abbrev qB(R:qG):Prop:=∀(e:bL) (most:Int) (r:Int),R e most=some r->CC Pg GE 50 [.agg (aP e),.int .i64 most] (.int .i64 r) []
def Xn:Code:=Tryz.f50.body.getD .skip
def TM:List Nat:=[107]
section
variable(most:Int)(e:bL)(n:Int)(i:Int)
def Jz:az:=aY 108 [(1,.int .i64 most),(2,.eptr (aP e)),(5,.int .i64 n),(6,.int .i64 i)] [.dead] []
def tj(o:Bool):az:=aY 108 [(1,.int .i64 most),(2,.eptr (aP e)),(5,.int .i64 n),(6,.int .i64 i),(28,.bool o)] [.dead] []
def sj:Option Bool:=
 if(decide (i<(e.Params.length:Int)))=true then
  some (decide (n<=most))
 else
  some false
theorem HV{x:Bool}(h:sj most e n i=some x):
  aT Pg GE 0 (cA Xn 476) (EX .normal (tj most e n i x)) (Jz most e n i):=by
 have p4:=fun{sc F} (r:PS sc F)=>sv (jZ e)<|sv (j0 e)<|cz (U0.ln e.Params)<|r
 rcases aZ h with⟨c3,h⟩|⟨c3,h⟩
 ·obtain rfl:=lf h
  exact cw TM (p4<|sg 6 c3<|eF .normal (tj most e n i (decide (n<=most)))) (by kernel_rfl)
 ·obtain rfl:=lf h
  exact cw TM (p4<|sg 6 c3<|eF .normal (tj most e n i false)) (by kernel_rfl)
end
section
variable(most:Int)(e:bL)(n:Int)(i:Int)
def kr:az:=aY 108 [(1,.int .i64 most),(2,.eptr (aP e)),(5,.int .i64 n),(6,.int .i64 i)] [.dead] []
def tp(o:Int):az:=aY 108 [(1,.int .i64 most),(2,.eptr (aP e)),(5,.int .i64 o)] [.dead] []
def iH:Option ((Int×Int)⊕(Int)):=
 (sj most e n i).bind fun o5=>
 if o5=true then
  (cR e.Params i).bind fun x8=>
  (qu .i64 (x8.Name.length:Int) 100).bind fun q9=>
  (cR e.Params i).bind fun x10=>
  (fg ([x10.Type_]:List ae) most).bind fun r11=>
  some (.inl (aR ((aR ((aR (n+1))+q9))+r11),aR (i+1)))
 else
  some (.inr n)
def xP:Option Int:=loop (fun(zz:Int×Int)=>iH most e zz.1 zz.2) (n,i)
theorem FW{y:(Int×Int)⊕(Int)}(h:iH most e n i=some y):
  aT Pg GE 0 (cA Xn 119) (LQ (fun(zz:Int×Int)=>kr most e zz.1 zz.2) (fun _=>.exit 0) (tp most e) y) (kr most e n i):=by
 obtain⟨o5,bo5,h⟩:=aB h
 have p7:=fun{sc F} (r:PS sc F)=>nD 1<|di (HV most e n i bo5)<|r
 rcases aZ h with⟨c6,h⟩|⟨c6,h⟩
 ·obtain⟨x8,bx8,h⟩:=aB h
  obtain⟨q9,bq9,h⟩:=aB h
  obtain⟨x10,bx10,h⟩:=aB h
  obtain⟨r11,br11,h⟩:=aB h
  obtain rfl:=lf h
  exact rU TM (p7<|sg 0 c6<|qX [0,1,0,4,0,28,60,124,252,508,1023,0,2048,0,14336,30720,63488,129024,0,522240,1048575,2097151]<|sv (jZ e)<|sv (j0 e)<|sv (U0.ia (k:=.i64) bx8)<|sv (y2 x8)<|sv (CS x8)<|cz (gI Tryz.underlying9 x8.Name)<|sv (yX (P:=Pg) (t:=3) bq9)<|sv (jZ e)<|sv (j0 e)<|sv (U0.ia (k:=.i64) bx10)<|sv (y3 x10)<|sv (AY x10)<|sv (cX.mk' (v:=lE) gm ([x10.Type_]:List ae) 1 (by kernel_rfl))<|bT (fC br11)<|eF .normal (kr most e (aR ((aR ((aR (n+1))+q9))+r11)) (aR (i+1)))) (by kernel_rfl)
 ·obtain rfl:=lf h
  have z:=p7<|sg 0 c6<|eF (.exit 0) (tp most e n)
  exact i7 TM (by intro hx;cases hx) z (by kernel_rfl)
theorem HY{x:Int}(h:xP most e n i=some x):
  aT Pg GE 0 (.loop (cA Xn 119)) (EX (.exit 0) (tp most e x)) (kr most e n i):=
 aT.loop (S:=fun(zz:Int×Int)=>kr most e zz.1 zz.2) (ex:=(fun _=>.exit 0)) (s:=(n,i)) h fun zz y hy=>FW most e zz.1 zz.2 hy
end
section
variable(most:Int)(e:bL)(n:Int)(i:Int)
def JA:az:=aY 108 [(1,.int .i64 most),(2,.eptr (aP e)),(5,.int .i64 n),(7,.int .i64 i)] [.dead] []
def tk(o:Bool):az:=aY 108 [(1,.int .i64 most),(2,.eptr (aP e)),(5,.int .i64 n),(7,.int .i64 i),(61,.bool o)] [.dead] []
def sk:Option Bool:=
 if(decide (i<(e.Kids.length:Int)))=true then
  some (decide (n<=most))
 else
  some false
theorem HW{x:Bool}(h:sk most e n i=some x):
  aT Pg GE 0 (cA Xn 988) (EX .normal (tk most e n i x)) (JA most e n i):=by
 have p14:=fun{sc F} (r:PS sc F)=>sv (qo e)<|sv (qr e)<|cz (Yq.ln e.Kids)<|r
 rcases aZ h with⟨c13,h⟩|⟨c13,h⟩
 ·obtain rfl:=lf h
  exact cw TM (p14<|sg 6 c13<|eF .normal (tk most e n i (decide (n<=most)))) (by kernel_rfl)
 ·obtain rfl:=lf h
  exact cw TM (p14<|sg 6 c13<|eF .normal (tk most e n i false)) (by kernel_rfl)
end
section
variable(R6:qG)(most:Int)(e:bL)(n:Int)(i:Int)
def ku:az:=aY 108 [(1,.int .i64 most),(2,.eptr (aP e)),(5,.int .i64 n),(7,.int .i64 i)] [.dead] []
def tq(o:Int):az:=aY 108 [(1,.int .i64 most),(2,.eptr (aP e)),(5,.int .i64 o)] [.dead] []
def iI:Option ((Int×Int)⊕(Int)):=
 (sk most e n i).bind fun o15=>
 if o15=true then
  (cR e.Kids i).bind fun x18=>
  (R6 x18 (aR (most - n))).bind fun r19=>
  some (.inl (aR (n+r19),aR (i+1)))
 else
  some (.inr n)
def xQ:Option Int:=loop (fun(zz:Int×Int)=>iI R6 most e zz.1 zz.2) (n,i)
theorem FX(hR6:qB R6){y:(Int×Int)⊕(Int)}(h:iI R6 most e n i=some y):
  aT Pg GE 0 (cA Xn 247) (LQ (fun(zz:Int×Int)=>ku most e zz.1 zz.2) (fun _=>.exit 2) (tq most e) y) (ku most e n i):=by
 obtain⟨o15,bo15,h⟩:=aB h
 have p17:=fun{sc F} (r:PS sc F)=>nD 1<|di (HW most e n i bo15)<|r
 rcases aZ h with⟨c16,h⟩|⟨c16,h⟩
 ·obtain⟨x18,bx18,h⟩:=aB h
  obtain⟨r19,br19,h⟩:=aB h
  obtain rfl:=lf h
  exact rU TM (p17<|sg 0 c16<|sv (qo e)<|sv (qr e)<|sv (Yq.ia (k:=.i64) bx18)<|sv (Qj x18)<|bT (hR6 _ _ _ br19)<|eF .normal (ku most e (aR (n+r19)) (aR (i+1)))) (by kernel_rfl)
 ·obtain rfl:=lf h
  have z:=p17<|sg 0 c16<|eF (.exit 2) (tq most e n)
  exact i7 TM (by intro hx;cases hx) z (by kernel_rfl)
theorem HZ(hR6:qB R6){x:Int}(h:xQ R6 most e n i=some x):
  aT Pg GE 0 (.loop (cA Xn 247)) (EX (.exit 2) (tq most e x)) (ku most e n i):=
 aT.loop (S:=fun(zz:Int×Int)=>ku most e zz.1 zz.2) (ex:=(fun _=>.exit 2)) (s:=(n,i)) h fun zz y hy=>FX R6 most e zz.1 zz.2 hR6 hy
end
section
variable(most:Int)(e:bL)(n:Int)(i:Int)
def JB:az:=aY 108 [(1,.int .i64 most),(2,.eptr (aP e)),(5,.int .i64 n),(8,.int .i64 i)] [.dead] []
def tn(o:Bool):az:=aY 108 [(1,.int .i64 most),(2,.eptr (aP e)),(5,.int .i64 n),(8,.int .i64 i),(84,.bool o)] [.dead] []
def sn:Option Bool:=
 if(decide (i<(e.Alts.length:Int)))=true then
  some (decide (n<=most))
 else
  some false
theorem HX{x:Bool}(h:sn most e n i=some x):
  aT Pg GE 0 (cA Xn 2012) (EX .normal (tn most e n i x)) (JB most e n i):=by
 have p22:=fun{sc F} (r:PS sc F)=>sv (ik e)<|sv (il e)<|cz (Sx.ln e.Alts)<|r
 rcases aZ h with⟨c21,h⟩|⟨c21,h⟩
 ·obtain rfl:=lf h
  exact cw TM (p22<|sg 6 c21<|eF .normal (tn most e n i (decide (n<=most)))) (by kernel_rfl)
 ·obtain rfl:=lf h
  exact cw TM (p22<|sg 6 c21<|eF .normal (tn most e n i false)) (by kernel_rfl)
end
section
variable(R6:qG)(most:Int)(e:bL)(n:Int)(i:Int)
def kv:az:=aY 108 [(1,.int .i64 most),(2,.eptr (aP e)),(5,.int .i64 n),(8,.int .i64 i)] [.dead] []
def tr(o:Int):az:=aY 108 [(5,.int .i64 o)] [.dead] []
def iJ:Option ((Int×Int)⊕(Int)):=
 (sn most e n i).bind fun o23=>
 if o23=true then
  (cR e.Alts i).bind fun x26=>
  (cR e.Alts i).bind fun x27=>
  (R6 x27.Body (aR (most - n))).bind fun r28=>
  some (.inl (aR ((aR (n+(x26.Names.length:Int)))+r28),aR (i+1)))
 else
  some (.inr n)
def xS:Option Int:=loop (fun(zz:Int×Int)=>iJ R6 most e zz.1 zz.2) (n,i)
theorem FY(hR6:qB R6){y:(Int×Int)⊕(Int)}(h:iJ R6 most e n i=some y):
  aT Pg GE 0 (cA Xn 503) (LQ (fun(zz:Int×Int)=>kv most e zz.1 zz.2) (fun _=>.exit 4) tr y) (kv most e n i):=by
 obtain⟨o23,bo23,h⟩:=aB h
 have p25:=fun{sc F} (r:PS sc F)=>nD 1<|di (HX most e n i bo23)<|r
 rcases aZ h with⟨c24,h⟩|⟨c24,h⟩
 ·obtain⟨x26,bx26,h⟩:=aB h
  obtain⟨x27,bx27,h⟩:=aB h
  obtain⟨r28,br28,h⟩:=aB h
  obtain rfl:=lf h
  exact rU TM (p25<|sg 0 c24<|qX [0,0,2,0,14,30,62,126,255,0,512,0,3584,7680,15872,0,0,98304,261632,524287,1048575]<|sv (ik e)<|sv (il e)<|sv (Sx.ia (k:=.i64) bx26)<|sv (CL x26)<|sv (EQ x26)<|cz (bJ.ln x26.Names)<|sv (ik e)<|sv (il e)<|sv (Sx.ia (k:=.i64) bx27)<|sv (CM x27)<|sv (ER x27)<|bT (hR6 _ _ _ br28)<|eF .normal (kv most e (aR ((aR (n+(x26.Names.length:Int)))+r28)) (aR (i+1)))) (by kernel_rfl)
 ·obtain rfl:=lf h
  have z:=p25<|sg 0 c24<|eF (.exit 4) (tr n)
  exact i7 TM (by intro hx;cases hx) z (by kernel_rfl)
theorem H1(hR6:qB R6){x:Int}(h:xS R6 most e n i=some x):
  aT Pg GE 0 (.loop (cA Xn 503)) (EX (.exit 4) (tr x)) (kv most e n i):=
 aT.loop (S:=fun(zz:Int×Int)=>kv most e zz.1 zz.2) (ex:=(fun _=>.exit 4)) (s:=(n,i)) h fun zz y hy=>FY R6 most e zz.1 zz.2 hR6 hy
end
def uJ(R6:qG)(e:bL)(most:Int):Option Int:=
 (qu .i64 (e.Name.length:Int) 100).bind fun q1=>
 (fg e.Types most).bind fun r2=>
 (xP most e (aR ((aR (1+q1))+r2)) 0).bind fun o12=>
 (xQ R6 most e o12 0).bind fun o20=>
 (xS R6 most e o20 0).bind fun o29=>
 some o29
theorem LE(R6:qG)(hR6:qB R6){e:bL}{most:Int}{r:Int}(h:uJ R6 e most=some r):CC Pg GE 50 [.agg (aP e),.int .i64 most] (.int .i64 r) []:=by
 obtain⟨q1,bq1,h⟩:=aB h
 obtain⟨r2,br2,h⟩:=aB h
 obtain⟨o12,bo12,h⟩:=aB h
 obtain⟨o20,bo20,h⟩:=aB h
 obtain⟨o29,bo29,h⟩:=aB h
 obtain rfl:=lf h
 have z:=se (Qw e)<|qX [0,1,3,7,15,0,32,0,224,511,1023]<|sv (CO e)<|sv (ET e)<|cz (gI Tryz.underlying9 e.Name)<|sv (yX (P:=Pg) (t:=3) bq1)<|sv (CP e)<|sv (CR e)<|bT (fC br2)<|di (HY most e (aR ((aR (1+q1))+r2)) 0 bo12)<|di (HZ R6 most e o12 0 hR6 bo20)<|di (H1 R6 most e o20 0 hR6 bo29)<|en (aI (rP (.int .i64 o29))<|trivial)
 exact cn TM Tryz.call50 Tryz.func50 (c:=Xn) rfl (aI (wP e) (aI trivial trivial)) z (by kernel_rfl)
def Ai:((bL×Int)->Option Int)->(bL×Int)->Option Int:=fun(rec:(bL×Int)->Option Int) (x:bL×Int)=>uJ (fun e most=>rec (e,most)) x.1 x.2
def FV(e:bL)(most:Int):Option Int:=oG Ai (e,most)
theorem NT{e:bL}{most:Int}{r:Int}(h:FV e most=some r):CC Pg GE 50 [.agg (aP e),.int .i64 most] (.int .i64 r) []:=
 cU (F:=Ai) (M:=fun(x:bL×Int) (r:Int)=>CC Pg GE 50 [.agg (aP x.1),.int .i64 x.2] (.int .i64 r) []) (fun rec hrec x r h=>LE _ (fun e most r h=>hrec (e,most) r h) h) h
def ZD:Code:=Tryz.f27.body.getD .skip
def Xr:List Nat:=[112]
section
variable(v:(List pj))(most:Int)(n:Int)(i:Int)
def C8:az:=aY 113 [(0,sl cT v),(1,.int .i64 most),(5,.int .i64 n),(6,.int .i64 i)] [] []
def nj(o:Bool):az:=aY 113 [(0,sl cT v),(1,.int .i64 most),(5,.int .i64 n),(6,.int .i64 i),(17,.bool o)] [] []
def li:Option Bool:=
 if(decide (i<(v.length:Int)))=true then
  some (decide (n<=most))
 else
  some false
theorem B8{x:Bool}(h:li v most n i=some x):
  aT Pg GE 0 (cA ZD 476) (EX .normal (nj v most n i x)) (C8 v most n i):=by
 rcases aZ h with⟨c1,h⟩|⟨c1,h⟩
 ·obtain rfl:=lf h
  exact cw Xr (cz (Sw.ln v)<|sg 5 c1<|eF .normal (nj v most n i (decide (n<=most)))) (by kernel_rfl)
 ·obtain rfl:=lf h
  exact cw Xr (cz (Sw.ln v)<|sg 5 c1<|eF .normal (nj v most n i false)) (by kernel_rfl)
end
section
variable(v:(List pj))(most:Int)(n:Int)(i:Int)(k:Int)(m:waA)(m2:(List Bu))(m3:(List Mp))(m4:(List kY))(m5:Int)(m6:ag)(m7:waC)(m8:waA)(m9:Int)(m10:ag)(m11:Int)(m12:waB)(m13:waB)(m14:waB)
def C9:az:=aY 113 [(0,sl cT v),(1,.int .i64 most),(5,.int .i64 n),(6,.int .i64 i),(7,.bptr 0 0),(8,.int .i64 k)] [.cells [sl cS m,sl gE m2,sl nr m3,sl cD m4,.int .i64 m5,.str m6,sl af m7,sl cS m8,.int .i64 m9,.str m10,.int .i64 m11,sl ac m12,sl ac m13,sl ac m14] []] []
def nk(o:Bool):az:=aY 113 [(0,sl cT v),(1,.int .i64 most),(5,.int .i64 n),(6,.int .i64 i),(7,.bptr 0 0),(8,.int .i64 k),(74,.bool o)] [.cells [sl cS m,sl gE m2,sl nr m3,sl cD m4,.int .i64 m5,.str m6,sl af m7,sl cS m8,.int .i64 m9,.str m10,.int .i64 m11,sl ac m12,sl ac m13,sl ac m14] []] []
def lj:Option Bool:=
 if(decide (k<(m4.length:Int)))=true then
  some (decide (n<=most))
 else
  some false
theorem B9{x:Bool}(h:lj most n k m4=some x):
  aT Pg GE 0 (cA ZD 245212) (EX .normal (nk v most n i k m m2 m3 m4 m5 m6 m7 m8 m9 m10 m11 m12 m13 m14 x)) (C9 v most n i k m m2 m3 m4 m5 m6 m7 m8 m9 m10 m11 m12 m13 m14):=by
 have p12:=fun{sc F} (r:PS sc F)=>ss<|cz (Tv.ln m4)<|r
 rcases aZ h with⟨c11,h⟩|⟨c11,h⟩
 ·obtain rfl:=lf h
  exact cw Xr (p12<|sg 6 c11<|eF .normal (nk v most n i k m m2 m3 m4 m5 m6 m7 m8 m9 m10 m11 m12 m13 m14 (decide (n<=most)))) (by kernel_rfl)
 ·obtain rfl:=lf h
  exact cw Xr (p12<|sg 6 c11<|eF .normal (nk v most n i k m m2 m3 m4 m5 m6 m7 m8 m9 m10 m11 m12 m13 m14 false)) (by kernel_rfl)
end
section
variable(v:(List pj))(most:Int)(i:Int)(m:waA)(m2:(List Bu))(m3:(List Mp))(m4:(List kY))(m5:Int)(m6:ag)(m7:waC)(m8:waA)(m9:Int)(m10:ag)(m11:Int)(m12:waB)(m13:waB)(m14:waB)(n:Int)(k:Int)
def gr:az:=aY 113 [(0,sl cT v),(1,.int .i64 most),(5,.int .i64 n),(6,.int .i64 i),(7,.bptr 0 0),(8,.int .i64 k)] [.cells [sl cS m,sl gE m2,sl nr m3,sl cD m4,.int .i64 m5,.str m6,sl af m7,sl cS m8,.int .i64 m9,.str m10,.int .i64 m11,sl ac m12,sl ac m13,sl ac m14] []] []
def nn(o:Int):az:=aY 113 [(0,sl cT v),(1,.int .i64 most),(5,.int .i64 o),(6,.int .i64 i)] [.cells [sl cS m,sl gE m2,sl nr m3,sl cD m4,.int .i64 m5,.str m6,sl af m7,sl cS m8,.int .i64 m9,.str m10,.int .i64 m11,sl ac m12,sl ac m13,sl ac m14] []] []
def eU:Option ((Int×Int)⊕(Int)):=
 (lj most n k m4).bind fun o13=>
 if o13=true then
  (cR m4 k).bind fun x16=>
  (cR m4 k).bind fun x17=>
  (cR m4 k).bind fun x18=>
  (ec ([x17.Hyp,x18.Goal]:List aa) most).bind fun r19=>
  some (.inl (aR ((aR ((aR (n+1))+(x16.Vars.length:Int)))+r19),aR (k+1)))
 else
  some (.inr n)
def py:Option Int:=loop (fun(zz:Int×Int)=>eU most m4 zz.1 zz.2) (n,k)
theorem Ak{y:(Int×Int)⊕(Int)}(h:eU most m4 n k=some y):
  aT Pg GE 0 (cA ZD 61303) (LQ (fun(zz:Int×Int)=>gr v most i m m2 m3 m4 m5 m6 m7 m8 m9 m10 m11 m12 m13 m14 zz.1 zz.2) (fun _=>.exit 2) (nn v most i m m2 m3 m4 m5 m6 m7 m8 m9 m10 m11 m12 m13 m14) y) (gr v most i m m2 m3 m4 m5 m6 m7 m8 m9 m10 m11 m12 m13 m14 n k):=by
 obtain⟨o13,bo13,h⟩:=aB h
 have p15:=fun{sc F} (r:PS sc F)=>nD 1<|di (B9 v most n i k m m2 m3 m4 m5 m6 m7 m8 m9 m10 m11 m12 m13 m14 bo13)<|r
 rcases aZ h with⟨c14,h⟩|⟨c14,h⟩
 ·obtain⟨x16,bx16,h⟩:=aB h
  obtain⟨x17,bx17,h⟩:=aB h
  obtain⟨x18,bx18,h⟩:=aB h
  obtain⟨r19,br19,h⟩:=aB h
  obtain rfl:=lf h
  exact rU Xr (p15<|sg 0 c14<|qX [0,1,0,4,0,28,60,124,252,511,0,1024,0,7168,15360,31744,0,65536,0,458752,983040,2031616,4193280,0,16776192,33554431,67108863]<|ss<|sv (Tv.ia (k:=.i64) bx16)<|sv (Io x16)<|sv (Kv x16)<|cz (GT.ln x16.Vars)<|ss<|sv (Tv.ia (k:=.i64) bx17)<|sv (Ip x17)<|sv (Kw x17)<|ss<|sv (Tv.ia (k:=.i64) bx18)<|sv (Iq x18)<|sv (Kx x18)<|sv (ck.mk' (v:=fe) dl ([x17.Hyp,x18.Goal]:List aa) 2 (by kernel_rfl))<|bT (ed br19)<|eF .normal (gr v most i m m2 m3 m4 m5 m6 m7 m8 m9 m10 m11 m12 m13 m14 (aR ((aR ((aR (n+1))+(x16.Vars.length:Int)))+r19)) (aR (k+1)))) (by kernel_rfl)
 ·obtain rfl:=lf h
  have z:=p15<|sg 0 c14<|eF (.exit 2) (nn v most i m m2 m3 m4 m5 m6 m7 m8 m9 m10 m11 m12 m13 m14 n)
  exact i7 Xr (by intro hx;cases hx) z (by kernel_rfl)
theorem Cb{x:Int}(h:py most m4 n k=some x):
  aT Pg GE 0 (.loop (cA ZD 61303)) (EX (.exit 2) (nn v most i m m2 m3 m4 m5 m6 m7 m8 m9 m10 m11 m12 m13 m14 x)) (gr v most i m m2 m3 m4 m5 m6 m7 m8 m9 m10 m11 m12 m13 m14 n k):=
 aT.loop (S:=fun(zz:Int×Int)=>gr v most i m m2 m3 m4 m5 m6 m7 m8 m9 m10 m11 m12 m13 m14 zz.1 zz.2) (ex:=(fun _=>.exit 2)) (s:=(n,k)) h fun zz y hy=>Ak v most i m m2 m3 m4 m5 m6 m7 m8 m9 m10 m11 m12 m13 m14 zz.1 zz.2 hy
end
section
variable(v:(List pj))(most:Int)(n:Int)(i:Int)
def gq:az:=aY 113 [(0,sl cT v),(1,.int .i64 most),(5,.int .i64 n),(6,.int .i64 i)] [] []
def nm(o:Int):az:=aY 113 [(5,.int .i64 o)] [] []
def eT:Option ((Int×Int)⊕(Int)):=
 (li v most n i).bind fun o2=>
 if o2=true then
  (cR v i).bind fun x5=>
  (cR v i).bind fun x6=>
  (qu .i64 (x6.Name.length:Int) 100).bind fun q7=>
  (cR v i).bind fun x8=>
  (fg ([x5.Sig.Type_]:List ae) most).bind fun r9=>
  (ec x5.Sig.Metric most).bind fun r10=>
  (py most x5.Sig.Bounds (aR ((aR ((aR ((aR ((aR ((aR ((aR ((aR (n+1))+q7))+(x8.Params.length:Int)))+(x5.Sig.Vars.length:Int)))+(x5.Sig.Needs.length:Int)))+(x5.Sig.Abs.length:Int)))+r9))+r10)) 0).bind fun o20=>
  (cR v i).bind fun x21=>
  (FV x21.Body most).bind fun r22=>
  some (.inl (aR (o20+r22),aR (i+1)))
 else
  some (.inr n)
def px:Option Int:=loop (fun(zz:Int×Int)=>eT v most zz.1 zz.2) (n,i)
theorem Aj{y:(Int×Int)⊕(Int)}(h:eT v most n i=some y):
  aT Pg GE 0 (cA ZD 119) (LQ (fun(zz:Int×Int)=>gq v most zz.1 zz.2) (fun _=>.exit 0) nm y) (gq v most n i):=by
 obtain⟨o2,bo2,h⟩:=aB h
 have p4:=fun{sc F} (r:PS sc F)=>nD 1<|di (B8 v most n i bo2)<|r
 rcases aZ h with⟨c3,h⟩|⟨c3,h⟩
 ·obtain⟨x5,bx5,h⟩:=aB h
  obtain⟨x6,bx6,h⟩:=aB h
  obtain⟨q7,bq7,h⟩:=aB h
  obtain⟨x8,bx8,h⟩:=aB h
  obtain⟨r9,br9,h⟩:=aB h
  obtain⟨r10,br10,h⟩:=aB h
  obtain⟨o20,bo20,h⟩:=aB h
  obtain⟨x21,bx21,h⟩:=aB h
  obtain⟨r22,br22,h⟩:=aB h
  obtain rfl:=lf h
  have z:=p4<|sg 0 c3<|sv (Sw.ia (k:=.i64) bx5)<|sv (L0 x5)<|sv (Kz x5)<|sx qbA<|sx (WD x5.Sig)<|qX [0,1,0,0,12,28,60,124,252,511,0,0,3072,7168,15360,31744,65535,0,131072,393216,1048575,0,2097152,6291456,16777215,0,33554432,100663296,268435455,0,536870912,1610612736,0,8053063680,17179869183,0,34359738368,0,257161166848,549755813887,1099511627775]<|sv (Sw.ia (k:=.i64) bx6)<|sv (LX x6)<|sv (Qh x6)<|cz (gI Tryz.underlying9 x6.Name)<|sv (yX (P:=Pg) (t:=3) bq7)<|sv (Sw.ia (k:=.i64) bx8)<|sv (LY x8)<|sv (ON x8)<|cz (bJ.ln x8.Params)<|ss<|cz (bJ.ln x5.Sig.Vars)<|ss<|cz (qbG.ln x5.Sig.Needs)<|ss<|cz (qbE.ln x5.Sig.Abs)<|sv (dj x5.Sig.Type_ [sl ac x5.Sig.Metric])<|sv (cX.mk' (v:=lE) gm ([x5.Sig.Type_]:List ae) 1 (by kernel_rfl))<|bT (fC br9)<|ss<|bT (ed br10)<|di (Cb v most i x5.Sig.Vars x5.Sig.Needs x5.Sig.Abs x5.Sig.Bounds x5.Sig.Type_.Op x5.Sig.Type_.Name x5.Sig.Type_.Args x5.Sig.Type_.Names x5.Sig.Type_.Pred.Op x5.Sig.Type_.Pred.Name x5.Sig.Type_.Pred.N x5.Sig.Type_.Pred.Kids x5.Sig.Type_.Preds x5.Sig.Metric (aR ((aR ((aR ((aR ((aR ((aR ((aR ((aR (n+1))+q7))+(x8.Params.length:Int)))+(x5.Sig.Vars.length:Int)))+(x5.Sig.Needs.length:Int)))+(x5.Sig.Abs.length:Int)))+r9))+r10)) 0 bo20)<|sv (Sw.ia (k:=.i64) bx21)<|sv (LZ x21)<|sv (OO x21)<|bT (NT br22)<|zn 0 .normal (gq v most (aR (o20+r22)) (aR (i+1))) rfl (eg (aI (up (aq BH v)) (aI trivial (aI trivial (aI trivial trivial))))) trivial
  exact dS (A:=Xr) mixed z (by kernel_rfl)
 ·obtain rfl:=lf h
  have z:=p4<|sg 0 c3<|eF (.exit 0) (nm n)
  exact i7 Xr (by intro hx;cases hx) z (by kernel_rfl)
theorem Ca{x:Int}(h:px v most n i=some x):
  aT Pg GE 0 (.loop (cA ZD 119)) (EX (.exit 0) (nm x)) (gq v most n i):=
 aT.loop (S:=fun(zz:Int×Int)=>gq v most zz.1 zz.2) (ex:=(fun _=>.exit 0)) (s:=(n,i)) h fun zz y hy=>Aj v most zz.1 zz.2 hy
end
def mt(a:(List pj))(most:Int):Option Int:=
 (px a most 0 0).bind fun o23=>
 some o23
theorem wG{a:(List pj)}{most:Int}{r:Int}(h:mt a most=some r):CC Pg GE 27 [sl cT a,.int .i64 most] (.int .i64 r) []:=by
 obtain⟨o23,bo23,h⟩:=aB h
 obtain rfl:=lf h
 have z:=di (Ca a most 0 0 bo23)<|en (aI (rP (.int .i64 o23))<|trivial)
 exact cn Xr Tryz.call27 Tryz.func27 (c:=ZD) rfl (aI (aq BH a) (aI trivial trivial)) z (by kernel_rfl)
end Go.Proofs.YtbaamopmfmpfaaaGreatDoor
