/- PROVED: parts of the proof (G1). Conditions: none. -/
import Derived.Test.YtbaamopmfmpfaaaGreatDoorPkD13
import Derived.Test.YtbaamopmfmpfaaaGreatDoorPkD14
noncomputable section
namespace Go.Proofs.YtbaamopmfmpfaaaGreatDoor
open Go
set_option linter.unusedVariables false
set_option maxRecDepth 100000
abbrev lC:=(waC->Int->Option Int)
abbrev pB(R:lC):Prop:=∀(a:waC) (most:Int) (r:Int),R a most=some r->CC Pg GE 28 [sl af a,.int .i64 most] (.int .i64 r) []
abbrev lB:=(waA->Int->Option Int)
abbrev pA(R:lB):Prop:=∀(a:waA) (most:Int) (r:Int),R a most=some r->CC Pg GE 29 [sl ac a,.int .i64 most] (.int .i64 r) []
def qbO:Code:=Tryz.f29.body.getD .skip
def qas:List Nat:=[39]
section
variable(v:waA)(most:Int)(n:Int)(i:Int)
def B6:az:=aW 40 [(0,sl ac v),(1,.int .i64 most),(5,.int .i64 n),(6,.int .i64 i)] [] []
def lV(o:Bool):az:=aW 40 [(0,sl ac v),(1,.int .i64 most),(5,.int .i64 n),(6,.int .i64 i),(15,.bool o)] [] []
def kc:Option Bool:=
 if(decide (i<(v.length:Int)))=true then
  some (decide (n<=most))
 else
  some false
theorem zZ{x:Bool}(h:kc v most n i=some x):
  aQ Pg GE 0 (cA qbO 476) (EX .normal (lV v most n i x)) (B6 v most n i):=by
 rcases aX h with⟨c1,h⟩|⟨c1,h⟩
 ·obtain rfl:=lf h
  exact ct qas (cw (cd.ln v)<|sg 5 c1<|eF .normal (lV v most n i (decide (n<=most)))) (by kernel_rfl)
 ·obtain rfl:=lf h
  exact ct qas (cw (cd.ln v)<|sg 5 c1<|eF .normal (lV v most n i false)) (by kernel_rfl)
end
section
variable(R5:lB)(v:waA)(most:Int)(n:Int)(i:Int)
def fQ:az:=aW 40 [(0,sl ac v),(1,.int .i64 most),(5,.int .i64 n),(6,.int .i64 i)] [] []
def lW(o:Int):az:=aW 40 [(5,.int .i64 o)] [] []
def eE:Option ((Int×Int)⊕(Int)):=
 (kc v most n i).bind fun o2=>
 if o2=true then
  (cH v i).bind fun x5=>
  (qu .i64 (x5.Name.length:Int) 100).bind fun q6=>
  (cH v i).bind fun x7=>
  (R5 x7.Kids (aO (most - (aO ((aO (n+1))+q6))))).bind fun r8=>
  some (.inl (aO ((aO ((aO (n+1))+q6))+r8),aO (i+1)))
 else
  some (.inr n)
def oz:Option Int:=loop (fun(zz:Int×Int)=>eE R5 v most zz.1 zz.2) (n,i)
theorem yR(hR5:pA R5){y:(Int×Int)⊕(Int)}(h:eE R5 v most n i=some y):
  aQ Pg GE 0 (cA qbO 119) (LQ (fun(zz:Int×Int)=>fQ v most zz.1 zz.2) (fun _=>.exit 0) lW y) (fQ v most n i):=by
 obtain⟨o2,bo2,h⟩:=aA h
 have p4:=fun{sc F} (r:PS sc F)=>oe 1<|di (zZ v most n i bo2)<|r
 rcases aX h with⟨c3,h⟩|⟨c3,h⟩
 ·obtain⟨x5,bx5,h⟩:=aA h
  obtain⟨q6,bq6,h⟩:=aA h
  obtain⟨x7,bx7,h⟩:=aA h
  obtain⟨r8,br8,h⟩:=aA h
  obtain rfl:=lf h
  exact rF qas (p4<|sg 0 c3<|sv (cd.ia (k:=.i64) bx5)<|sv (cx x5)<|sv (cJ x5)<|cw (gG Tryz.underlying9 x5.Name)<|sv (yG (P:=Pg) (t:=3) bq6)<|sv (cd.ia (k:=.i64) bx7)<|sv (bu x7)<|sv (bw x7)<|bP (hR5 _ _ _ br8)<|eF .normal (fQ v most (aO ((aO ((aO (n+1))+q6))+r8)) (aO (i+1)))) (by kernel_rfl)
 ·obtain rfl:=lf h
  have z:=p4<|sg 0 c3<|eF (.exit 0) (lW n)
  exact iW qas (by intro hx;cases hx) z (by kernel_rfl)
theorem z6(hR5:pA R5){x:Int}(h:oz R5 v most n i=some x):
  aQ Pg GE 0 (.loop (cA qbO 119)) (EX (.exit 0) (lW x)) (fQ v most n i):=
 aQ.loop (S:=fun(zz:Int×Int)=>fQ v most zz.1 zz.2) (ex:=(fun _=>.exit 0)) (s:=(n,i)) h fun zz y hy=>yR R5 v most zz.1 zz.2 hR5 hy
end
def ly(R5:lB)(a:waA)(most:Int):Option Int:=
 (oz R5 a most 0 0).bind fun o9=>
 some o9
theorem C4(R5:lB)(hR5:pA R5){a:waA}{most:Int}{r:Int}(h:ly R5 a most=some r):CC Pg GE 29 [sl ac a,.int .i64 most] (.int .i64 r) []:=by
 obtain⟨o9,bo9,h⟩:=aA h
 obtain rfl:=lf h
 have z:=di (z6 R5 a most 0 0 hR5 bo9)<|en (aI (rP (.int .i64 o9))<|trivial)
 exact ck qas Tryz.call29 Tryz.func29 (c:=qbO) rfl (aI (aq ah a) (aI trivial trivial)) z (by kernel_rfl)
def pH:((waA×Int)->Option Int)->(waA×Int)->Option Int:=fun(rec:(waA×Int)->Option Int) (x:waA×Int)=>ly (fun a most=>rec (a,most)) x.1 x.2
def ed(a:waA)(most:Int):Option Int:=oP pH (a,most)
theorem ee{a:waA}{most:Int}{r:Int}(h:ed a most=some r):CC Pg GE 29 [sl ac a,.int .i64 most] (.int .i64 r) []:=
 cR (F:=pH) (M:=fun(x:waA×Int) (r:Int)=>CC Pg GE 29 [sl ac x.1,.int .i64 x.2] (.int .i64 r) []) (fun rec hrec x r h=>C4 _ (fun a most r h=>hrec (a,most) r h) h) h
def qbN:Code:=Tryz.f28.body.getD .skip
def qar:List Nat:=[63]
section
variable(v:waC)(most:Int)(n:Int)(i:Int)
def B7:az:=aW 64 [(0,sl af v),(1,.int .i64 most),(5,.int .i64 n),(6,.int .i64 i)] [] []
def lX(o:Bool):az:=aW 64 [(0,sl af v),(1,.int .i64 most),(5,.int .i64 n),(6,.int .i64 i),(15,.bool o)] [] []
def ke:Option Bool:=
 if(decide (i<(v.length:Int)))=true then
  some (decide (n<=most))
 else
  some false
theorem z7{x:Bool}(h:ke v most n i=some x):
  aQ Pg GE 0 (cA qbN 476) (EX .normal (lX v most n i x)) (B7 v most n i):=by
 rcases aX h with⟨c1,h⟩|⟨c1,h⟩
 ·obtain rfl:=lf h
  exact ct qar (cw (cQ.ln v)<|sg 5 c1<|eF .normal (lX v most n i (decide (n<=most)))) (by kernel_rfl)
 ·obtain rfl:=lf h
  exact ct qar (cw (cQ.ln v)<|sg 5 c1<|eF .normal (lX v most n i false)) (by kernel_rfl)
end
section
variable(R4:lC)(v:waC)(most:Int)(n:Int)(i:Int)
def fR:az:=aW 64 [(0,sl af v),(1,.int .i64 most),(5,.int .i64 n),(6,.int .i64 i)] [] []
def lY(o:Int):az:=aW 64 [(5,.int .i64 o)] [] []
def eG:Option ((Int×Int)⊕(Int)):=
 (ke v most n i).bind fun o2=>
 if o2=true then
  (cH v i).bind fun x5=>
  (qu .i64 (x5.Name.length:Int) 100).bind fun q6=>
  (cH v i).bind fun x7=>
  (cH v i).bind fun x8=>
  (ed x8.Preds most).bind fun r9=>
  (cH v i).bind fun x10=>
  (ed ([x10.Pred]:List aa) most).bind fun r11=>
  (cH v i).bind fun x12=>
  (R4 x12.Args (aO (most - (aO ((aO ((aO ((aO ((aO (n+1))+q6))+(x7.Names.length:Int)))+r9))+r11))))).bind fun r13=>
  some (.inl (aO ((aO ((aO ((aO ((aO ((aO (n+1))+q6))+(x7.Names.length:Int)))+r9))+r11))+r13),aO (i+1)))
 else
  some (.inr n)
def oA:Option Int:=loop (fun(zz:Int×Int)=>eG R4 v most zz.1 zz.2) (n,i)
theorem yS(hR4:pB R4){y:(Int×Int)⊕(Int)}(h:eG R4 v most n i=some y):
  aQ Pg GE 0 (cA qbN 119) (LQ (fun(zz:Int×Int)=>fR v most zz.1 zz.2) (fun _=>.exit 0) lY y) (fR v most n i):=by
 obtain⟨o2,bo2,h⟩:=aA h
 have p4:=fun{sc F} (r:PS sc F)=>oe 1<|di (z7 v most n i bo2)<|r
 rcases aX h with⟨c3,h⟩|⟨c3,h⟩
 ·obtain⟨x5,bx5,h⟩:=aA h
  obtain⟨q6,bq6,h⟩:=aA h
  obtain⟨x7,bx7,h⟩:=aA h
  obtain⟨x8,bx8,h⟩:=aA h
  obtain⟨r9,br9,h⟩:=aA h
  obtain⟨x10,bx10,h⟩:=aA h
  obtain⟨r11,br11,h⟩:=aA h
  obtain⟨x12,bx12,h⟩:=aA h
  obtain⟨r13,br13,h⟩:=aA h
  obtain rfl:=lf h
  exact rF qar (p4<|sg 0 c3<|ra [0,1,0,0,12,28,60,124,252,511,0,0,3072,7168,15360,31744,65535,0,0,393216,917504,1966080,0,8257536,16777215,0,0,100663296,234881024,503316480,1040187392,0,4278059008,8589934591,17179869183]<|sv (cQ.ia (k:=.i64) bx5)<|sv (df x5)<|sv (dz x5)<|cw (gG Tryz.underlying9 x5.Name)<|sv (yG (P:=Pg) (t:=3) bq6)<|sv (cQ.ia (k:=.i64) bx7)<|sv (be x7)<|sv (bh x7)<|cw (bR.ln x7.Names)<|sv (cQ.ia (k:=.i64) bx8)<|sv (dN x8)<|sv (dQ x8)<|bP (ee br9)<|sv (cQ.ia (k:=.i64) bx10)<|sv (d9 x10)<|sv (ec x10)<|sv (cd.mk' (v:=ff) dl ([x10.Pred]:List aa) 1 (by kernel_rfl))<|bP (ee br11)<|sv (cQ.ia (k:=.i64) bx12)<|sv (aT x12)<|sv (aU x12)<|bP (hR4 _ _ _ br13)<|eF .normal (fR v most (aO ((aO ((aO ((aO ((aO ((aO (n+1))+q6))+(x7.Names.length:Int)))+r9))+r11))+r13)) (aO (i+1)))) (by kernel_rfl)
 ·obtain rfl:=lf h
  have z:=p4<|sg 0 c3<|eF (.exit 0) (lY n)
  exact iW qar (by intro hx;cases hx) z (by kernel_rfl)
theorem z8(hR4:pB R4){x:Int}(h:oA R4 v most n i=some x):
  aQ Pg GE 0 (.loop (cA qbN 119)) (EX (.exit 0) (lY x)) (fR v most n i):=
 aQ.loop (S:=fun(zz:Int×Int)=>fR v most zz.1 zz.2) (ex:=(fun _=>.exit 0)) (s:=(n,i)) h fun zz y hy=>yS R4 v most zz.1 zz.2 hR4 hy
end
def lz(R4:lC)(a:waC)(most:Int):Option Int:=
 (oA R4 a most 0 0).bind fun o14=>
 some o14
theorem C5(R4:lC)(hR4:pB R4){a:waC}{most:Int}{r:Int}(h:lz R4 a most=some r):CC Pg GE 28 [sl af a,.int .i64 most] (.int .i64 r) []:=by
 obtain⟨o14,bo14,h⟩:=aA h
 obtain rfl:=lf h
 have z:=di (z8 R4 a most 0 0 hR4 bo14)<|en (aI (rP (.int .i64 o14))<|trivial)
 exact ck qar Tryz.call28 Tryz.func28 (c:=qbN) rfl (aI (aq av a) (aI trivial trivial)) z (by kernel_rfl)
def pI:((waC×Int)->Option Int)->(waC×Int)->Option Int:=fun(rec:(waC×Int)->Option Int) (x:waC×Int)=>lz (fun a most=>rec (a,most)) x.1 x.2
def fh(a:waC)(most:Int):Option Int:=oP pI (a,most)
theorem fx{a:waC}{most:Int}{r:Int}(h:fh a most=some r):CC Pg GE 28 [sl af a,.int .i64 most] (.int .i64 r) []:=
 cR (F:=pI) (M:=fun(x:waC×Int) (r:Int)=>CC Pg GE 28 [sl af x.1,.int .i64 x.2] (.int .i64 r) []) (fun rec hrec x r h=>C5 _ (fun a most r h=>hrec (a,most) r h) h) h
abbrev qK:=(bH->Int->Option Int)
abbrev qF(R:qK):Prop:=∀(e:bH) (most:Int) (r:Int),R e most=some r->CC Pg GE 50 [.agg (aN e),.int .i64 most] (.int .i64 r) []
def Xc:Code:=Tryz.f50.body.getD .skip
def Ty:List Nat:=[107]
section
variable(most:Int)(e:bH)(n:Int)(i:Int)
def Jn:az:=aW 108 [(1,.int .i64 most),(2,.eptr (aN e)),(5,.int .i64 n),(6,.int .i64 i)] [.dead] []
def tq(o:Bool):az:=aW 108 [(1,.int .i64 most),(2,.eptr (aN e)),(5,.int .i64 n),(6,.int .i64 i),(28,.bool o)] [.dead] []
def sn:Option Bool:=
 if(decide (i<(e.Params.length:Int)))=true then
  some (decide (n<=most))
 else
  some false
theorem HM{x:Bool}(h:sn most e n i=some x):
  aQ Pg GE 0 (cA Xc 476) (EX .normal (tq most e n i x)) (Jn most e n i):=by
 have p4:=fun{sc F} (r:PS sc F)=>sv (j3 e)<|sv (j4 e)<|cw (UN.ln e.Params)<|r
 rcases aX h with⟨c3,h⟩|⟨c3,h⟩
 ·obtain rfl:=lf h
  exact ct Ty (p4<|sg 6 c3<|eF .normal (tq most e n i (decide (n<=most)))) (by kernel_rfl)
 ·obtain rfl:=lf h
  exact ct Ty (p4<|sg 6 c3<|eF .normal (tq most e n i false)) (by kernel_rfl)
end
section
variable(most:Int)(e:bH)(n:Int)(i:Int)
def kw:az:=aW 108 [(1,.int .i64 most),(2,.eptr (aN e)),(5,.int .i64 n),(6,.int .i64 i)] [.dead] []
def tu(o:Int):az:=aW 108 [(1,.int .i64 most),(2,.eptr (aN e)),(5,.int .i64 o)] [.dead] []
def iI:Option ((Int×Int)⊕(Int)):=
 (sn most e n i).bind fun o5=>
 if o5=true then
  (cH e.Params i).bind fun x8=>
  (qu .i64 (x8.Name.length:Int) 100).bind fun q9=>
  (cH e.Params i).bind fun x10=>
  (fh ([x10.Type_]:List ae) most).bind fun r11=>
  some (.inl (aO ((aO ((aO (n+1))+q9))+r11),aO (i+1)))
 else
  some (.inr n)
def xy:Option Int:=loop (fun(zz:Int×Int)=>iI most e zz.1 zz.2) (n,i)
theorem FK{y:(Int×Int)⊕(Int)}(h:iI most e n i=some y):
  aQ Pg GE 0 (cA Xc 119) (LQ (fun(zz:Int×Int)=>kw most e zz.1 zz.2) (fun _=>.exit 0) (tu most e) y) (kw most e n i):=by
 obtain⟨o5,bo5,h⟩:=aA h
 have p7:=fun{sc F} (r:PS sc F)=>oe 1<|di (HM most e n i bo5)<|r
 rcases aX h with⟨c6,h⟩|⟨c6,h⟩
 ·obtain⟨x8,bx8,h⟩:=aA h
  obtain⟨q9,bq9,h⟩:=aA h
  obtain⟨x10,bx10,h⟩:=aA h
  obtain⟨r11,br11,h⟩:=aA h
  obtain rfl:=lf h
  exact rF Ty (p7<|sg 0 c6<|ra [0,1,0,4,0,28,60,124,252,508,1023,0,2048,0,14336,30720,63488,129024,0,522240,1048575,2097151]<|sv (j3 e)<|sv (j4 e)<|sv (UN.ia (k:=.i64) bx8)<|sv (yJ x8)<|sv (CN x8)<|cw (gG Tryz.underlying9 x8.Name)<|sv (yG (P:=Pg) (t:=3) bq9)<|sv (j3 e)<|sv (j4 e)<|sv (UN.ia (k:=.i64) bx10)<|sv (yK x10)<|sv (AI x10)<|sv (cQ.mk' (v:=lO) gi ([x10.Type_]:List ae) 1 (by kernel_rfl))<|bP (fx br11)<|eF .normal (kw most e (aO ((aO ((aO (n+1))+q9))+r11)) (aO (i+1)))) (by kernel_rfl)
 ·obtain rfl:=lf h
  have z:=p7<|sg 0 c6<|eF (.exit 0) (tu most e n)
  exact iW Ty (by intro hx;cases hx) z (by kernel_rfl)
theorem HP{x:Int}(h:xy most e n i=some x):
  aQ Pg GE 0 (.loop (cA Xc 119)) (EX (.exit 0) (tu most e x)) (kw most e n i):=
 aQ.loop (S:=fun(zz:Int×Int)=>kw most e zz.1 zz.2) (ex:=(fun _=>.exit 0)) (s:=(n,i)) h fun zz y hy=>FK most e zz.1 zz.2 hy
end
section
variable(most:Int)(e:bH)(n:Int)(i:Int)
def Jo:az:=aW 108 [(1,.int .i64 most),(2,.eptr (aN e)),(5,.int .i64 n),(7,.int .i64 i)] [.dead] []
def tr(o:Bool):az:=aW 108 [(1,.int .i64 most),(2,.eptr (aN e)),(5,.int .i64 n),(7,.int .i64 i),(61,.bool o)] [.dead] []
def sq:Option Bool:=
 if(decide (i<(e.Kids.length:Int)))=true then
  some (decide (n<=most))
 else
  some false
theorem HN{x:Bool}(h:sq most e n i=some x):
  aQ Pg GE 0 (cA Xc 988) (EX .normal (tr most e n i x)) (Jo most e n i):=by
 have p14:=fun{sc F} (r:PS sc F)=>sv (qv e)<|sv (qx e)<|cw (Yf.ln e.Kids)<|r
 rcases aX h with⟨c13,h⟩|⟨c13,h⟩
 ·obtain rfl:=lf h
  exact ct Ty (p14<|sg 6 c13<|eF .normal (tr most e n i (decide (n<=most)))) (by kernel_rfl)
 ·obtain rfl:=lf h
  exact ct Ty (p14<|sg 6 c13<|eF .normal (tr most e n i false)) (by kernel_rfl)
end
section
variable(R6:qK)(most:Int)(e:bH)(n:Int)(i:Int)
def ky:az:=aW 108 [(1,.int .i64 most),(2,.eptr (aN e)),(5,.int .i64 n),(7,.int .i64 i)] [.dead] []
def tv(o:Int):az:=aW 108 [(1,.int .i64 most),(2,.eptr (aN e)),(5,.int .i64 o)] [.dead] []
def iJ:Option ((Int×Int)⊕(Int)):=
 (sq most e n i).bind fun o15=>
 if o15=true then
  (cH e.Kids i).bind fun x18=>
  (R6 x18 (aO (most - n))).bind fun r19=>
  some (.inl (aO (n+r19),aO (i+1)))
 else
  some (.inr n)
def xz:Option Int:=loop (fun(zz:Int×Int)=>iJ R6 most e zz.1 zz.2) (n,i)
theorem FL(hR6:qF R6){y:(Int×Int)⊕(Int)}(h:iJ R6 most e n i=some y):
  aQ Pg GE 0 (cA Xc 247) (LQ (fun(zz:Int×Int)=>ky most e zz.1 zz.2) (fun _=>.exit 2) (tv most e) y) (ky most e n i):=by
 obtain⟨o15,bo15,h⟩:=aA h
 have p17:=fun{sc F} (r:PS sc F)=>oe 1<|di (HN most e n i bo15)<|r
 rcases aX h with⟨c16,h⟩|⟨c16,h⟩
 ·obtain⟨x18,bx18,h⟩:=aA h
  obtain⟨r19,br19,h⟩:=aA h
  obtain rfl:=lf h
  exact rF Ty (p17<|sg 0 c16<|sv (qv e)<|sv (qx e)<|sv (Yf.ia (k:=.i64) bx18)<|sv (P7 x18)<|bP (hR6 _ _ _ br19)<|eF .normal (ky most e (aO (n+r19)) (aO (i+1)))) (by kernel_rfl)
 ·obtain rfl:=lf h
  have z:=p17<|sg 0 c16<|eF (.exit 2) (tv most e n)
  exact iW Ty (by intro hx;cases hx) z (by kernel_rfl)
theorem HQ(hR6:qF R6){x:Int}(h:xz R6 most e n i=some x):
  aQ Pg GE 0 (.loop (cA Xc 247)) (EX (.exit 2) (tv most e x)) (ky most e n i):=
 aQ.loop (S:=fun(zz:Int×Int)=>ky most e zz.1 zz.2) (ex:=(fun _=>.exit 2)) (s:=(n,i)) h fun zz y hy=>FL R6 most e zz.1 zz.2 hR6 hy
end
section
variable(most:Int)(e:bH)(n:Int)(i:Int)
def Jp:az:=aW 108 [(1,.int .i64 most),(2,.eptr (aN e)),(5,.int .i64 n),(8,.int .i64 i)] [.dead] []
def tt(o:Bool):az:=aW 108 [(1,.int .i64 most),(2,.eptr (aN e)),(5,.int .i64 n),(8,.int .i64 i),(84,.bool o)] [.dead] []
def su:Option Bool:=
 if(decide (i<(e.Alts.length:Int)))=true then
  some (decide (n<=most))
 else
  some false
theorem HO{x:Bool}(h:su most e n i=some x):
  aQ Pg GE 0 (cA Xc 2012) (EX .normal (tt most e n i x)) (Jp most e n i):=by
 have p22:=fun{sc F} (r:PS sc F)=>sv (ik e)<|sv (il e)<|cw (Sl.ln e.Alts)<|r
 rcases aX h with⟨c21,h⟩|⟨c21,h⟩
 ·obtain rfl:=lf h
  exact ct Ty (p22<|sg 6 c21<|eF .normal (tt most e n i (decide (n<=most)))) (by kernel_rfl)
 ·obtain rfl:=lf h
  exact ct Ty (p22<|sg 6 c21<|eF .normal (tt most e n i false)) (by kernel_rfl)
end
section
variable(R6:qK)(most:Int)(e:bH)(n:Int)(i:Int)
def kz:az:=aW 108 [(1,.int .i64 most),(2,.eptr (aN e)),(5,.int .i64 n),(8,.int .i64 i)] [.dead] []
def tw(o:Int):az:=aW 108 [(5,.int .i64 o)] [.dead] []
def iK:Option ((Int×Int)⊕(Int)):=
 (su most e n i).bind fun o23=>
 if o23=true then
  (cH e.Alts i).bind fun x26=>
  (cH e.Alts i).bind fun x27=>
  (R6 x27.Body (aO (most - n))).bind fun r28=>
  some (.inl (aO ((aO (n+(x26.Names.length:Int)))+r28),aO (i+1)))
 else
  some (.inr n)
def xA:Option Int:=loop (fun(zz:Int×Int)=>iK R6 most e zz.1 zz.2) (n,i)
theorem FM(hR6:qF R6){y:(Int×Int)⊕(Int)}(h:iK R6 most e n i=some y):
  aQ Pg GE 0 (cA Xc 503) (LQ (fun(zz:Int×Int)=>kz most e zz.1 zz.2) (fun _=>.exit 4) tw y) (kz most e n i):=by
 obtain⟨o23,bo23,h⟩:=aA h
 have p25:=fun{sc F} (r:PS sc F)=>oe 1<|di (HO most e n i bo23)<|r
 rcases aX h with⟨c24,h⟩|⟨c24,h⟩
 ·obtain⟨x26,bx26,h⟩:=aA h
  obtain⟨x27,bx27,h⟩:=aA h
  obtain⟨r28,br28,h⟩:=aA h
  obtain rfl:=lf h
  exact rF Ty (p25<|sg 0 c24<|ra [0,0,2,0,14,30,62,126,255,0,512,0,3584,7680,15872,0,0,98304,261632,524287,1048575]<|sv (ik e)<|sv (il e)<|sv (Sl.ia (k:=.i64) bx26)<|sv (CE x26)<|sv (EF x26)<|cw (bR.ln x26.Names)<|sv (ik e)<|sv (il e)<|sv (Sl.ia (k:=.i64) bx27)<|sv (CF x27)<|sv (EG x27)<|bP (hR6 _ _ _ br28)<|eF .normal (kz most e (aO ((aO (n+(x26.Names.length:Int)))+r28)) (aO (i+1)))) (by kernel_rfl)
 ·obtain rfl:=lf h
  have z:=p25<|sg 0 c24<|eF (.exit 4) (tw n)
  exact iW Ty (by intro hx;cases hx) z (by kernel_rfl)
theorem HR(hR6:qF R6){x:Int}(h:xA R6 most e n i=some x):
  aQ Pg GE 0 (.loop (cA Xc 503)) (EX (.exit 4) (tw x)) (kz most e n i):=
 aQ.loop (S:=fun(zz:Int×Int)=>kz most e zz.1 zz.2) (ex:=(fun _=>.exit 4)) (s:=(n,i)) h fun zz y hy=>FM R6 most e zz.1 zz.2 hR6 hy
end
def uN(R6:qK)(e:bH)(most:Int):Option Int:=
 (qu .i64 (e.Name.length:Int) 100).bind fun q1=>
 (fh e.Types most).bind fun r2=>
 (xy most e (aO ((aO (1+q1))+r2)) 0).bind fun o12=>
 (xz R6 most e o12 0).bind fun o20=>
 (xA R6 most e o20 0).bind fun o29=>
 some o29
theorem Lu(R6:qK)(hR6:qF R6){e:bH}{most:Int}{r:Int}(h:uN R6 e most=some r):CC Pg GE 50 [.agg (aN e),.int .i64 most] (.int .i64 r) []:=by
 obtain⟨q1,bq1,h⟩:=aA h
 obtain⟨r2,br2,h⟩:=aA h
 obtain⟨o12,bo12,h⟩:=aA h
 obtain⟨o20,bo20,h⟩:=aA h
 obtain⟨o29,bo29,h⟩:=aA h
 obtain rfl:=lf h
 have z:=se (Qk e)<|ra [0,1,3,7,15,0,32,0,224,511,1023]<|sv (CI e)<|sv (EI e)<|cw (gG Tryz.underlying9 e.Name)<|sv (yG (P:=Pg) (t:=3) bq1)<|sv (CJ e)<|sv (CM e)<|bP (fx br2)<|di (HP most e (aO ((aO (1+q1))+r2)) 0 bo12)<|di (HQ R6 most e o12 0 hR6 bo20)<|di (HR R6 most e o20 0 hR6 bo29)<|en (aI (rP (.int .i64 o29))<|trivial)
 exact ck Ty Tryz.call50 Tryz.func50 (c:=Xc) rfl (aI (wF e) (aI trivial trivial)) z (by kernel_rfl)
def zW:((bH×Int)->Option Int)->(bH×Int)->Option Int:=fun(rec:(bH×Int)->Option Int) (x:bH×Int)=>uN (fun e most=>rec (e,most)) x.1 x.2
def FJ(e:bH)(most:Int):Option Int:=oP zW (e,most)
theorem NI{e:bH}{most:Int}{r:Int}(h:FJ e most=some r):CC Pg GE 50 [.agg (aN e),.int .i64 most] (.int .i64 r) []:=
 cR (F:=zW) (M:=fun(x:bH×Int) (r:Int)=>CC Pg GE 50 [.agg (aN x.1),.int .i64 x.2] (.int .i64 r) []) (fun rec hrec x r h=>Lu _ (fun e most r h=>hrec (e,most) r h) h) h
def Zr:Code:=Tryz.f27.body.getD .skip
def Xg:List Nat:=[112]
section
variable(v:(List pu))(most:Int)(n:Int)(i:Int)
def C2:az:=aW 113 [(0,sl cP v),(1,.int .i64 most),(5,.int .i64 n),(6,.int .i64 i)] [] []
def np(o:Bool):az:=aW 113 [(0,sl cP v),(1,.int .i64 most),(5,.int .i64 n),(6,.int .i64 i),(17,.bool o)] [] []
def lw:Option Bool:=
 if(decide (i<(v.length:Int)))=true then
  some (decide (n<=most))
 else
  some false
theorem BZ{x:Bool}(h:lw v most n i=some x):
  aQ Pg GE 0 (cA Zr 476) (EX .normal (np v most n i x)) (C2 v most n i):=by
 rcases aX h with⟨c1,h⟩|⟨c1,h⟩
 ·obtain rfl:=lf h
  exact ct Xg (cw (Sk.ln v)<|sg 5 c1<|eF .normal (np v most n i (decide (n<=most)))) (by kernel_rfl)
 ·obtain rfl:=lf h
  exact ct Xg (cw (Sk.ln v)<|sg 5 c1<|eF .normal (np v most n i false)) (by kernel_rfl)
end
section
variable(v:(List pu))(most:Int)(n:Int)(i:Int)(k:Int)(m:waB)(m2:(List Bg))(m3:(List Mh))(m4:(List lp))(m5:Int)(m6:ag)(m7:waC)(m8:waB)(m9:Int)(m10:ag)(m11:Int)(m12:waA)(m13:waA)(m14:waA)
def C3:az:=aW 113 [(0,sl cP v),(1,.int .i64 most),(5,.int .i64 n),(6,.int .i64 i),(7,.bptr 0 0),(8,.int .i64 k)] [.cells [sl cS m,sl gC m2,sl nw m3,sl cy m4,.int .i64 m5,.str m6,sl af m7,sl cS m8,.int .i64 m9,.str m10,.int .i64 m11,sl ac m12,sl ac m13,sl ac m14] []] []
def nq(o:Bool):az:=aW 113 [(0,sl cP v),(1,.int .i64 most),(5,.int .i64 n),(6,.int .i64 i),(7,.bptr 0 0),(8,.int .i64 k),(74,.bool o)] [.cells [sl cS m,sl gC m2,sl nw m3,sl cy m4,.int .i64 m5,.str m6,sl af m7,sl cS m8,.int .i64 m9,.str m10,.int .i64 m11,sl ac m12,sl ac m13,sl ac m14] []] []
def lx:Option Bool:=
 if(decide (k<(m4.length:Int)))=true then
  some (decide (n<=most))
 else
  some false
theorem B3{x:Bool}(h:lx most n k m4=some x):
  aQ Pg GE 0 (cA Zr 245212) (EX .normal (nq v most n i k m m2 m3 m4 m5 m6 m7 m8 m9 m10 m11 m12 m13 m14 x)) (C3 v most n i k m m2 m3 m4 m5 m6 m7 m8 m9 m10 m11 m12 m13 m14):=by
 have p12:=fun{sc F} (r:PS sc F)=>ss<|cw (Tj.ln m4)<|r
 rcases aX h with⟨c11,h⟩|⟨c11,h⟩
 ·obtain rfl:=lf h
  exact ct Xg (p12<|sg 6 c11<|eF .normal (nq v most n i k m m2 m3 m4 m5 m6 m7 m8 m9 m10 m11 m12 m13 m14 (decide (n<=most)))) (by kernel_rfl)
 ·obtain rfl:=lf h
  exact ct Xg (p12<|sg 6 c11<|eF .normal (nq v most n i k m m2 m3 m4 m5 m6 m7 m8 m9 m10 m11 m12 m13 m14 false)) (by kernel_rfl)
end
section
variable(v:(List pu))(most:Int)(i:Int)(m:waB)(m2:(List Bg))(m3:(List Mh))(m4:(List lp))(m5:Int)(m6:ag)(m7:waC)(m8:waB)(m9:Int)(m10:ag)(m11:Int)(m12:waA)(m13:waA)(m14:waA)(n:Int)(k:Int)
def gn:az:=aW 113 [(0,sl cP v),(1,.int .i64 most),(5,.int .i64 n),(6,.int .i64 i),(7,.bptr 0 0),(8,.int .i64 k)] [.cells [sl cS m,sl gC m2,sl nw m3,sl cy m4,.int .i64 m5,.str m6,sl af m7,sl cS m8,.int .i64 m9,.str m10,.int .i64 m11,sl ac m12,sl ac m13,sl ac m14] []] []
def nu(o:Int):az:=aW 113 [(0,sl cP v),(1,.int .i64 most),(5,.int .i64 o),(6,.int .i64 i)] [.cells [sl cS m,sl gC m2,sl nw m3,sl cy m4,.int .i64 m5,.str m6,sl af m7,sl cS m8,.int .i64 m9,.str m10,.int .i64 m11,sl ac m12,sl ac m13,sl ac m14] []] []
def eX:Option ((Int×Int)⊕(Int)):=
 (lx most n k m4).bind fun o13=>
 if o13=true then
  (cH m4 k).bind fun x16=>
  (cH m4 k).bind fun x17=>
  (cH m4 k).bind fun x18=>
  (ed ([x17.Hyp,x18.Goal]:List aa) most).bind fun r19=>
  some (.inl (aO ((aO ((aO (n+1))+(x16.Vars.length:Int)))+r19),aO (k+1)))
 else
  some (.inr n)
def pG:Option Int:=loop (fun(zz:Int×Int)=>eX most m4 zz.1 zz.2) (n,k)
theorem zY{y:(Int×Int)⊕(Int)}(h:eX most m4 n k=some y):
  aQ Pg GE 0 (cA Zr 61303) (LQ (fun(zz:Int×Int)=>gn v most i m m2 m3 m4 m5 m6 m7 m8 m9 m10 m11 m12 m13 m14 zz.1 zz.2) (fun _=>.exit 2) (nu v most i m m2 m3 m4 m5 m6 m7 m8 m9 m10 m11 m12 m13 m14) y) (gn v most i m m2 m3 m4 m5 m6 m7 m8 m9 m10 m11 m12 m13 m14 n k):=by
 obtain⟨o13,bo13,h⟩:=aA h
 have p15:=fun{sc F} (r:PS sc F)=>oe 1<|di (B3 v most n i k m m2 m3 m4 m5 m6 m7 m8 m9 m10 m11 m12 m13 m14 bo13)<|r
 rcases aX h with⟨c14,h⟩|⟨c14,h⟩
 ·obtain⟨x16,bx16,h⟩:=aA h
  obtain⟨x17,bx17,h⟩:=aA h
  obtain⟨x18,bx18,h⟩:=aA h
  obtain⟨r19,br19,h⟩:=aA h
  obtain rfl:=lf h
  exact rF Xg (p15<|sg 0 c14<|ra [0,1,0,4,0,28,60,124,252,511,0,1024,0,7168,15360,31744,0,65536,0,458752,983040,2031616,4193280,0,16776192,33554431,67108863]<|ss<|sv (Tj.ia (k:=.i64) bx16)<|sv (Ic x16)<|sv (Kk x16)<|cw (GN.ln x16.Vars)<|ss<|sv (Tj.ia (k:=.i64) bx17)<|sv (Id x17)<|sv (Kl x17)<|ss<|sv (Tj.ia (k:=.i64) bx18)<|sv (Ie x18)<|sv (Km x18)<|sv (cd.mk' (v:=ff) dl ([x17.Hyp,x18.Goal]:List aa) 2 (by kernel_rfl))<|bP (ee br19)<|eF .normal (gn v most i m m2 m3 m4 m5 m6 m7 m8 m9 m10 m11 m12 m13 m14 (aO ((aO ((aO (n+1))+(x16.Vars.length:Int)))+r19)) (aO (k+1)))) (by kernel_rfl)
 ·obtain rfl:=lf h
  have z:=p15<|sg 0 c14<|eF (.exit 2) (nu v most i m m2 m3 m4 m5 m6 m7 m8 m9 m10 m11 m12 m13 m14 n)
  exact iW Xg (by intro hx;cases hx) z (by kernel_rfl)
theorem B5{x:Int}(h:pG most m4 n k=some x):
  aQ Pg GE 0 (.loop (cA Zr 61303)) (EX (.exit 2) (nu v most i m m2 m3 m4 m5 m6 m7 m8 m9 m10 m11 m12 m13 m14 x)) (gn v most i m m2 m3 m4 m5 m6 m7 m8 m9 m10 m11 m12 m13 m14 n k):=
 aQ.loop (S:=fun(zz:Int×Int)=>gn v most i m m2 m3 m4 m5 m6 m7 m8 m9 m10 m11 m12 m13 m14 zz.1 zz.2) (ex:=(fun _=>.exit 2)) (s:=(n,k)) h fun zz y hy=>zY v most i m m2 m3 m4 m5 m6 m7 m8 m9 m10 m11 m12 m13 m14 zz.1 zz.2 hy
end
section
variable(v:(List pu))(most:Int)(n:Int)(i:Int)
def gm:az:=aW 113 [(0,sl cP v),(1,.int .i64 most),(5,.int .i64 n),(6,.int .i64 i)] [] []
def nr(o:Int):az:=aW 113 [(5,.int .i64 o)] [] []
def eW:Option ((Int×Int)⊕(Int)):=
 (lw v most n i).bind fun o2=>
 if o2=true then
  (cH v i).bind fun x5=>
  (cH v i).bind fun x6=>
  (qu .i64 (x6.Name.length:Int) 100).bind fun q7=>
  (cH v i).bind fun x8=>
  (fh ([x5.Sig.Type_]:List ae) most).bind fun r9=>
  (ed x5.Sig.Metric most).bind fun r10=>
  (pG most x5.Sig.Bounds (aO ((aO ((aO ((aO ((aO ((aO ((aO ((aO (n+1))+q7))+(x8.Params.length:Int)))+(x5.Sig.Vars.length:Int)))+(x5.Sig.Needs.length:Int)))+(x5.Sig.Abs.length:Int)))+r9))+r10)) 0).bind fun o20=>
  (cH v i).bind fun x21=>
  (FJ x21.Body most).bind fun r22=>
  some (.inl (aO (o20+r22),aO (i+1)))
 else
  some (.inr n)
def pF:Option Int:=loop (fun(zz:Int×Int)=>eW v most zz.1 zz.2) (n,i)
theorem zX{y:(Int×Int)⊕(Int)}(h:eW v most n i=some y):
  aQ Pg GE 0 (cA Zr 119) (LQ (fun(zz:Int×Int)=>gm v most zz.1 zz.2) (fun _=>.exit 0) nr y) (gm v most n i):=by
 obtain⟨o2,bo2,h⟩:=aA h
 have p4:=fun{sc F} (r:PS sc F)=>oe 1<|di (BZ v most n i bo2)<|r
 rcases aX h with⟨c3,h⟩|⟨c3,h⟩
 ·obtain⟨x5,bx5,h⟩:=aA h
  obtain⟨x6,bx6,h⟩:=aA h
  obtain⟨q7,bq7,h⟩:=aA h
  obtain⟨x8,bx8,h⟩:=aA h
  obtain⟨r9,br9,h⟩:=aA h
  obtain⟨r10,br10,h⟩:=aA h
  obtain⟨o20,bo20,h⟩:=aA h
  obtain⟨x21,bx21,h⟩:=aA h
  obtain⟨r22,br22,h⟩:=aA h
  obtain rfl:=lf h
  have z:=p4<|sg 0 c3<|sv (Sk.ia (k:=.i64) bx5)<|sv (LR x5)<|sv (Ko x5)<|sx qbr<|sx (Wu x5.Sig)<|ra [0,1,0,0,12,28,60,124,252,511,0,0,3072,7168,15360,31744,65535,0,131072,393216,1048575,0,2097152,6291456,16777215,0,33554432,100663296,268435455,0,536870912,1610612736,0,8053063680,17179869183,0,34359738368,0,257161166848,549755813887,1099511627775]<|sv (Sk.ia (k:=.i64) bx6)<|sv (LN x6)<|sv (P5 x6)<|cw (gG Tryz.underlying9 x6.Name)<|sv (yG (P:=Pg) (t:=3) bq7)<|sv (Sk.ia (k:=.i64) bx8)<|sv (LO x8)<|sv (OF x8)<|cw (bR.ln x8.Params)<|ss<|cw (bR.ln x5.Sig.Vars)<|ss<|cw (qbx.ln x5.Sig.Needs)<|ss<|cw (qbv.ln x5.Sig.Abs)<|sv (dj x5.Sig.Type_ [sl ac x5.Sig.Metric])<|sv (cQ.mk' (v:=lO) gi ([x5.Sig.Type_]:List ae) 1 (by kernel_rfl))<|bP (fx br9)<|ss<|bP (ee br10)<|di (B5 v most i x5.Sig.Vars x5.Sig.Needs x5.Sig.Abs x5.Sig.Bounds x5.Sig.Type_.Op x5.Sig.Type_.Name x5.Sig.Type_.Args x5.Sig.Type_.Names x5.Sig.Type_.Pred.Op x5.Sig.Type_.Pred.Name x5.Sig.Type_.Pred.N x5.Sig.Type_.Pred.Kids x5.Sig.Type_.Preds x5.Sig.Metric (aO ((aO ((aO ((aO ((aO ((aO ((aO ((aO (n+1))+q7))+(x8.Params.length:Int)))+(x5.Sig.Vars.length:Int)))+(x5.Sig.Needs.length:Int)))+(x5.Sig.Abs.length:Int)))+r9))+r10)) 0 bo20)<|sv (Sk.ia (k:=.i64) bx21)<|sv (LP x21)<|sv (OG x21)<|bP (NI br22)<|y4 0 .normal (gm v most (aO (o20+r22)) (aO (i+1))) rfl (eh (aI (up (aq Bz v)) (aI trivial (aI trivial (aI trivial trivial))))) trivial
  exact dV (A:=Xg) mixed z (by kernel_rfl)
 ·obtain rfl:=lf h
  have z:=p4<|sg 0 c3<|eF (.exit 0) (nr n)
  exact iW Xg (by intro hx;cases hx) z (by kernel_rfl)
theorem B4{x:Int}(h:pF v most n i=some x):
  aQ Pg GE 0 (.loop (cA Zr 119)) (EX (.exit 0) (nr x)) (gm v most n i):=
 aQ.loop (S:=fun(zz:Int×Int)=>gm v most zz.1 zz.2) (ex:=(fun _=>.exit 0)) (s:=(n,i)) h fun zz y hy=>zX v most zz.1 zz.2 hy
end
def mF(a:(List pu))(most:Int):Option Int:=
 (pF a most 0 0).bind fun o23=>
 some o23
theorem wz{a:(List pu)}{most:Int}{r:Int}(h:mF a most=some r):CC Pg GE 27 [sl cP a,.int .i64 most] (.int .i64 r) []:=by
 obtain⟨o23,bo23,h⟩:=aA h
 obtain rfl:=lf h
 have z:=di (B4 a most 0 0 bo23)<|en (aI (rP (.int .i64 o23))<|trivial)
 exact ck Xg Tryz.call27 Tryz.func27 (c:=Zr) rfl (aI (aq Bz a) (aI trivial trivial)) z (by kernel_rfl)
end Go.Proofs.YtbaamopmfmpfaaaGreatDoor
