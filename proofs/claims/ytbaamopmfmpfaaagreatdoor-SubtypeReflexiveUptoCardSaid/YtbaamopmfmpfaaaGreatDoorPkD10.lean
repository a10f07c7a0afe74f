/- PROVED: a part of the proof. Conditions: none. -/
import Derived.Test.YtbaamopmfmpfaaaGreatDoorPkD9
noncomputable section
namespace Go.Proofs.YtbaamopmfmpfaaaGreatDoor
open Go Go.Proofs.Tryz
set_option linter.unusedVariables false
set_option maxRecDepth 100000
abbrev lC:=(waC->Int->Option Int)
abbrev pB(R:lC):Prop:=∀(a:waC) (most:Int) (r:Int),R a most=some r->CC Pg GE 28 [sl af a,.int .i64 most] (.int .i64 r) []
abbrev lB:=(waA->Int->Option Int)
abbrev pA(R:lB):Prop:=∀(a:waA) (most:Int) (r:Int),R a most=some r->CC Pg GE 29 [sl ac a,.int .i64 most] (.int .i64 r) []
noncomputable def qbO:Code:=f29.body.getD .skip
def qas:List Nat:=[39]
section
variable(v:waA)(most:Int)(n:Int)(i:Int)
def B6:az:=aW 40 [(0,sl ac v),(1,.int .i64 most),(5,.int .i64 n),(6,.int .i64 i)] [] []
def lV(o:Bool):az:=aW 40 [(0,sl ac v),(1,.int .i64 most),(5,.int .i64 n),(6,.int .i64 i),(15,.bool o)] [] []
def kc:Option Bool:=
 if(decide (i<(v.length:Int)))=true then
  some (decide (n<=most))
 else
  some false
theorem zZ{x:Bool}(h:kc v most n i=some x):aQ Pg GE 0 (cA qbO 476) (EX .normal (lV v most n i x)) (B6 v most n i):=by
 rcases aX h with⟨c1,h⟩|⟨c1,h⟩
 ·obtain rfl:=lf h
  exact ct qas (cw (cd.ln v)<|sg 5 c1<|eF .normal (lV v most n i (decide (n<=most))))<|by kernel_rfl
 ·obtain rfl:=lf h
  exact ct qas (cw (cd.ln v)<|sg 5 c1<|eF .normal (lV v most n i false))<|by kernel_rfl
end
section
variable(R5:lB)(v:waA)(most:Int)(n:Int)(i:Int)
def fQ:az:=aW 40 [(0,sl ac v),(1,.int .i64 most),(5,.int .i64 n),(6,.int .i64 i)] [] []
def lW(o:Int):az:=aW 40 [(5,.int .i64 o)] [] []
def eE:Option ((Int×Int)⊕(Int)):=
 (kc v most n i).bind fun o2=>
 if o2=true then
  (cH v i).bind fun x5=>
  (qu .i64 (x5.Name.length:Int) 100).bind fun q6=>
  (cH v i).bind fun x7=>
  (R5 x7.Kids (aO (most - (aO ((aO (n+1))+q6))))).bind fun r8=>
  some (.inl (aO ((aO ((aO (n+1))+q6))+r8),aO (i+1)))
 else
  some (.inr n)
def oz:Option Int:=loop (fun(zz:Int×Int)=>eE R5 v most zz.1 zz.2) (n,i)
theorem yR(hR5:pA R5){y:(Int×Int)⊕(Int)}(h:eE R5 v most n i=some y):aQ Pg GE 0 (cA qbO 119) (LQ (fun(zz:Int×Int)=>fQ v most zz.1 zz.2) (fun _=>.exit 0) lW y) (fQ v most n i):=by
 obtain⟨o2,bo2,h⟩:=aA h
 have p4:=fun{sc F} (r:PS sc F)=>oe 1<|di (zZ v most n i bo2)<|r
 rcases aX h with⟨c3,h⟩|⟨c3,h⟩
 ·obtain⟨x5,bx5,h⟩:=aA h
  obtain⟨q6,bq6,h⟩:=aA h
  obtain⟨x7,bx7,h⟩:=aA h
  obtain⟨r8,br8,h⟩:=aA h
  obtain rfl:=lf h
  exact rF qas (p4<|sg 0 c3<|sv (cd.ia (k:=.i64) bx5)<|sv (cx x5)<|sv (cJ x5)<|cw (gG underlying9 x5.Name)<|sv (yG (P:=Pg) (t:=3) bq6)<|sv (cd.ia (k:=.i64) bx7)<|sv (bu x7)<|sv (bw x7)<|bP (hR5 _ _ _ br8)<|eF .normal (fQ v most (aO ((aO ((aO (n+1))+q6))+r8)) (aO (i+1))))<|by kernel_rfl
 ·obtain rfl:=lf h
  have z:=p4<|sg 0 c3<|eF (.exit 0) (lW n)
  exact iW qas (by intro hx;cases hx) z<|by kernel_rfl
theorem z6(hR5:pA R5){x:Int}(h:oz R5 v most n i=some x):aQ Pg GE 0 (.loop (cA qbO 119)) (EX (.exit 0) (lW x)) (fQ v most n i):=
 aQ.loop (S:=fun(zz:Int×Int)=>fQ v most zz.1 zz.2) (ex:=(fun _=>.exit 0)) (s:=(n,i)) h fun zz y hy=>yR R5 v most zz.1 zz.2 hR5 hy
end
def ly(R5:lB)(a:waA)(most:Int):Option Int:=
 (oz R5 a most 0 0).bind fun o9=>
 some o9
theorem C4(R5:lB)(hR5:pA R5){a:waA}{most:Int}{r:Int}(h:ly R5 a most=some r):CC Pg GE 29 [sl ac a,.int .i64 most] (.int .i64 r) []:=by
 obtain⟨o9,bo9,h⟩:=aA h
 obtain rfl:=lf h
 have z:=di (z6 R5 a most 0 0 hR5 bo9)<|en (aI (rP (.int .i64 o9))<|trivial)
 exact ck qas call29 func29 (c:=qbO) rfl (aI (aq ah a) (aI trivial trivial)) z<|by kernel_rfl
def pH:((waA×Int)->Option Int)->(waA×Int)->Option Int:=fun(rec:(waA×Int)->Option Int) (x:waA×Int)=>ly (fun a most=>rec (a,most)) x.1 x.2
def ed(a:waA)(most:Int):Option Int:=oP pH (a,most)
theorem ee{a:waA}{most:Int}{r:Int}(h:ed a most=some r):CC Pg GE 29 [sl ac a,.int .i64 most] (.int .i64 r) []:=
 cR (F:=pH) (M:=fun(x:waA×Int) (r:Int)=>CC Pg GE 29 [sl ac x.1,.int .i64 x.2] (.int .i64 r) []) (fun rec hrec x r h=>C4 _ (fun a most r h=>hrec (a,most) r h) h) h
noncomputable def qbN:Code:=f28.body.getD .skip
def qar:List Nat:=[63]
section
variable(v:waC)(most:Int)(n:Int)(i:Int)
def B7:az:=aW 64 [(0,sl af v),(1,.int .i64 most),(5,.int .i64 n),(6,.int .i64 i)] [] []
def lX(o:Bool):az:=aW 64 [(0,sl af v),(1,.int .i64 most),(5,.int .i64 n),(6,.int .i64 i),(15,.bool o)] [] []
def ke:Option Bool:=
 if(decide (i<(v.length:Int)))=true then
  some (decide (n<=most))
 else
  some false
theorem z7{x:Bool}(h:ke v most n i=some x):aQ Pg GE 0 (cA qbN 476) (EX .normal (lX v most n i x)) (B7 v most n i):=by
 rcases aX h with⟨c1,h⟩|⟨c1,h⟩
 ·obtain rfl:=lf h
  exact ct qar (cw (cQ.ln v)<|sg 5 c1<|eF .normal (lX v most n i (decide (n<=most))))<|by kernel_rfl
 ·obtain rfl:=lf h
  exact ct qar (cw (cQ.ln v)<|sg 5 c1<|eF .normal (lX v most n i false))<|by kernel_rfl
end
section
variable(R4:lC)(v:waC)(most:Int)(n:Int)(i:Int)
def fR:az:=aW 64 [(0,sl af v),(1,.int .i64 most),(5,.int .i64 n),(6,.int .i64 i)] [] []
def lY(o:Int):az:=aW 64 [(5,.int .i64 o)] [] []
def eG:Option ((Int×Int)⊕(Int)):=
 (ke v most n i).bind fun o2=>
 if o2=true then
  (cH v i).bind fun x5=>
  (qu .i64 (x5.Name.length:Int) 100).bind fun q6=>
  (cH v i).bind fun x7=>
  (cH v i).bind fun x8=>
  (ed x8.Preds most).bind fun r9=>
  (cH v i).bind fun x10=>
  (ed ([x10.Pred]:List aa) most).bind fun r11=>
  (cH v i).bind fun x12=>
  (R4 x12.Args (aO (most - (aO ((aO ((aO ((aO ((aO (n+1))+q6))+(x7.Names.length:Int)))+r9))+r11))))).bind fun r13=>
  some (.inl (aO ((aO ((aO ((aO ((aO ((aO (n+1))+q6))+(x7.Names.length:Int)))+r9))+r11))+r13),aO (i+1)))
 else
  some (.inr n)
def oA:Option Int:=loop (fun(zz:Int×Int)=>eG R4 v most zz.1 zz.2) (n,i)
theorem yS(hR4:pB R4){y:(Int×Int)⊕(Int)}(h:eG R4 v most n i=some y):aQ Pg GE 0 (cA qbN 119) (LQ (fun(zz:Int×Int)=>fR v most zz.1 zz.2) (fun _=>.exit 0) lY y) (fR v most n i):=by
 obtain⟨o2,bo2,h⟩:=aA h
 have p4:=fun{sc F} (r:PS sc F)=>oe 1<|di (z7 v most n i bo2)<|r
 rcases aX h with⟨c3,h⟩|⟨c3,h⟩
 ·obtain⟨x5,bx5,h⟩:=aA h
  obtain⟨q6,bq6,h⟩:=aA h
  obtain⟨x7,bx7,h⟩:=aA h
  obtain⟨x8,bx8,h⟩:=aA h
  obtain⟨r9,br9,h⟩:=aA h
  obtain⟨x10,bx10,h⟩:=aA h
  obtain⟨r11,br11,h⟩:=aA h
  obtain⟨x12,bx12,h⟩:=aA h
  obtain⟨r13,br13,h⟩:=aA h
  obtain rfl:=lf h
  exact rF qar (p4<|sg 0 c3<|ra [0,1,0,0,12,28,60,124,252,511,0,0,3072,7168,15360,31744,65535,0,0,393216,917504,1966080,0,8257536,16777215,0,0,100663296,234881024,503316480,1040187392,0,4278059008,8589934591,17179869183]<|sv (cQ.ia (k:=.i64) bx5)<|sv (df x5)<|sv (dz x5)<|cw (gG underlying9 x5.Name)<|sv (yG (P:=Pg) (t:=3) bq6)<|sv (cQ.ia (k:=.i64) bx7)<|sv (be x7)<|sv (bh x7)<|cw (bR.ln x7.Names)<|sv (cQ.ia (k:=.i64) bx8)<|sv (dN x8)<|sv (dQ x8)<|bP (ee br9)<|sv (cQ.ia (k:=.i64) bx10)<|sv (d9 x10)<|sv (ec x10)<|sv (cd.mk' (v:=ff) dl ([x10.Pred]:List aa) 1 (by kernel_rfl))<|bP (ee br11)<|sv (cQ.ia (k:=.i64) bx12)<|sv (aT x12)<|sv (aU x12)<|bP (hR4 _ _ _ br13)<|eF .normal (fR v most (aO ((aO ((aO ((aO ((aO ((aO (n+1))+q6))+(x7.Names.length:Int)))+r9))+r11))+r13)) (aO (i+1))))<|by kernel_rfl
 ·obtain rfl:=lf h
  have z:=p4<|sg 0 c3<|eF (.exit 0) (lY n)
  exact iW qar (by intro hx;cases hx) z<|by kernel_rfl
theorem z8(hR4:pB R4){x:Int}(h:oA R4 v most n i=some x):aQ Pg GE 0 (.loop (cA qbN 119)) (EX (.exit 0) (lY x)) (fR v most n i):=
 aQ.loop (S:=fun(zz:Int×Int)=>fR v most zz.1 zz.2) (ex:=(fun _=>.exit 0)) (s:=(n,i)) h fun zz y hy=>yS R4 v most zz.1 zz.2 hR4 hy
end
def lz(R4:lC)(a:waC)(most:Int):Option Int:=
 (oA R4 a most 0 0).bind fun o14=>
 some o14
theorem C5(R4:lC)(hR4:pB R4){a:waC}{most:Int}{r:Int}(h:lz R4 a most=some r):CC Pg GE 28 [sl af a,.int .i64 most] (.int .i64 r) []:=by
 obtain⟨o14,bo14,h⟩:=aA h
 obtain rfl:=lf h
 have z:=di (z8 R4 a most 0 0 hR4 bo14)<|en (aI (rP (.int .i64 o14))<|trivial)
 exact ck qar call28 func28 (c:=qbN) rfl (aI (aq av a) (aI trivial trivial)) z<|by kernel_rfl
def pI:((waC×Int)->Option Int)->(waC×Int)->Option Int:=fun(rec:(waC×Int)->Option Int) (x:waC×Int)=>lz (fun a most=>rec (a,most)) x.1 x.2
def fh(a:waC)(most:Int):Option Int:=oP pI (a,most)
theorem fx{a:waC}{most:Int}{r:Int}(h:fh a most=some r):CC Pg GE 28 [sl af a,.int .i64 most] (.int .i64 r) []:=
 cR (F:=pI) (M:=fun(x:waC×Int) (r:Int)=>CC Pg GE 28 [sl af x.1,.int .i64 x.2] (.int .i64 r) []) (fun rec hrec x r h=>C5 _ (fun a most r h=>hrec (a,most) r h) h) h
abbrev qK:=(bH->Int->Option Int)
abbrev qF(R:qK):Prop:=∀(e:bH) (most:Int) (r:Int),R e most=some r->CC Pg GE 50 [.agg (aN e),.int .i64 most] (.int .i64 r) []
noncomputable def Xc:Code:=f50.body.getD .skip
def Ty:List Nat:=[107]
section
variable(most:Int)(e:bH)(n:Int)(i:Int)
def Jn:az:=aW 108 [(1,.int .i64 most),(2,.eptr (aN e)),(5,.int .i64 n),(6,.int .i64 i)] [.dead] []
def tq(o:Bool):az:=aW 108 [(1,.int .i64 most),(2,.eptr (aN e)),(5,.int .i64 n),(6,.int .i64 i),(28,.bool o)] [.dead] []
def sn:Option Bool:=
 if(decide (i<(e.Params.length:Int)))=true then
  some (decide (n<=most))
 else
  some false
theorem HM{x:Bool}(h:sn most e n i=some x):aQ Pg GE 0 (cA Xc 476) (EX .normal (tq most e n i x)) (Jn most e n i):=by
 have p4:=fun{sc F} (r:PS sc F)=>sv (j3 e)<|sv (j4 e)<|cw (UN.ln e.Params)<|r
 rcases aX h with⟨c3,h⟩|⟨c3,h⟩
 ·obtain rfl:=lf h
  exact ct Ty (p4<|sg 6 c3<|eF .normal (tq most e n i (decide (n<=most))))<|by kernel_rfl
 ·obtain rfl:=lf h
  exact ct Ty (p4<|sg 6 c3<|eF .normal (tq most e n i false))<|by kernel_rfl
end
section
variable(most:Int)(e:bH)(n:Int)(i:Int)
def kw:az:=aW 108 [(1,.int .i64 most),(2,.eptr (aN e)),(5,.int .i64 n),(6,.int .i64 i)] [.dead] []
def tu(o:Int):az:=aW 108 [(1,.int .i64 most),(2,.eptr (aN e)),(5,.int .i64 o)] [.dead] []
def iI:Option ((Int×Int)⊕(Int)):=
 (sn most e n i).bind fun o5=>
 if o5=true then
  (cH e.Params i).bind fun x8=>
  (qu .i64 (x8.Name.length:Int) 100).bind fun q9=>
  (cH e.Params i).bind fun x10=>
  (fh ([x10.Type_]:List ae) most).bind fun r11=>
  some (.inl (aO ((aO ((aO (n+1))+q9))+r11),aO (i+1)))
 else
  some (.inr n)
def xy:Option Int:=loop (fun(zz:Int×Int)=>iI most e zz.1 zz.2) (n,i)
theorem FK{y:(Int×Int)⊕(Int)}(h:iI most e n i=some y):aQ Pg GE 0 (cA Xc 119) (LQ (fun(zz:Int×Int)=>kw most e zz.1 zz.2) (fun _=>.exit 0) (tu most e) y) (kw most e n i):=by
 obtain⟨o5,bo5,h⟩:=aA h
 have p7:=fun{sc F} (r:PS sc F)=>oe 1<|di (HM most e n i bo5)<|r
 rcases aX h with⟨c6,h⟩|⟨c6,h⟩
 ·obtain⟨x8,bx8,h⟩:=aA h
  obtain⟨q9,bq9,h⟩:=aA h
  obtain⟨x10,bx10,h⟩:=aA h
  obtain⟨r11,br11,h⟩:=aA h
  obtain rfl:=lf h
  exact rF Ty (p7<|sg 0 c6<|ra [0,1,0,4,0,28,60,124,252,508,1023,0,2048,0,14336,30720,63488,129024,0,522240,1048575,2097151]<|sv (j3 e)<|sv (j4 e)<|sv (UN.ia (k:=.i64) bx8)<|sv (yJ x8)<|sv (CN x8)<|cw (gG underlying9 x8.Name)<|sv (yG (P:=Pg) (t:=3) bq9)<|sv (j3 e)<|sv (j4 e)<|sv (UN.ia (k:=.i64) bx10)<|sv (yK x10)<|sv (AI x10)<|sv (cQ.mk' (v:=lO) gi ([x10.Type_]:List ae) 1 (by kernel_rfl))<|bP (fx br11)<|eF .normal (kw most e (aO ((aO ((aO (n+1))+q9))+r11)) (aO (i+1))))<|by kernel_rfl
 ·obtain rfl:=lf h
  have z:=p7<|sg 0 c6<|eF (.exit 0) (tu most e n)
  exact iW Ty (by intro hx;cases hx) z<|by kernel_rfl
theorem HP{x:Int}(h:xy most e n i=some x):aQ Pg GE 0 (.loop (cA Xc 119)) (EX (.exit 0) (tu most e x)) (kw most e n i):=
 aQ.loop (S:=fun(zz:Int×Int)=>kw most e zz.1 zz.2) (ex:=(fun _=>.exit 0)) (s:=(n,i)) h fun zz y hy=>FK most e zz.1 zz.2 hy
end
section
variable(most:Int)(e:bH)(n:Int)(i:Int)
def Jo:az:=aW 108 [(1,.int .i64 most),(2,.eptr (aN e)),(5,.int .i64 n),(7,.int .i64 i)] [.dead] []
def tr(o:Bool):az:=aW 108 [(1,.int .i64 most),(2,.eptr (aN e)),(5,.int .i64 n),(7,.int .i64 i),(61,.bool o)] [.dead] []
def sq:Option Bool:=
 if(decide (i<(e.Kids.length:Int)))=true then
  some (decide (n<=most))
 else
  some false
theorem HN{x:Bool}(h:sq most e n i=some x):aQ Pg GE 0 (cA Xc 988) (EX .normal (tr most e n i x)) (Jo most e n i):=by
 have p14:=fun{sc F} (r:PS sc F)=>sv (qv e)<|sv (qx e)<|cw (Yf.ln e.Kids)<|r
 rcases aX h with⟨c13,h⟩|⟨c13,h⟩
 ·obtain rfl:=lf h
  exact ct Ty (p14<|sg 6 c13<|eF .normal (tr most e n i (decide (n<=most))))<|by kernel_rfl
 ·obtain rfl:=lf h
  exact ct Ty (p14<|sg 6 c13<|eF .normal (tr most e n i false))<|by kernel_rfl
end
section
variable(R6:qK)(most:Int)(e:bH)(n:Int)(i:Int)
def ky:az:=aW 108 [(1,.int .i64 most),(2,.eptr (aN e)),(5,.int .i64 n),(7,.int .i64 i)] [.dead] []
def tv(o:Int):az:=aW 108 [(1,.int .i64 most),(2,.eptr (aN e)),(5,.int .i64 o)] [.dead] []
def iJ:Option ((Int×Int)⊕(Int)):=
 (sq most e n i).bind fun o15=>
 if o15=true then
  (cH e.Kids i).bind fun x18=>
  (R6 x18 (aO (most - n))).bind fun r19=>
  some (.inl (aO (n+r19),aO (i+1)))
 else
  some (.inr n)
def xz:Option Int:=loop (fun(zz:Int×Int)=>iJ R6 most e zz.1 zz.2) (n,i)
theorem FL(hR6:qF R6){y:(Int×Int)⊕(Int)}(h:iJ R6 most e n i=some y):aQ Pg GE 0 (cA Xc 247) (LQ (fun(zz:Int×Int)=>ky most e zz.1 zz.2) (fun _=>.exit 2) (tv most e) y) (ky most e n i):=by
 obtain⟨o15,bo15,h⟩:=aA h
 have p17:=fun{sc F} (r:PS sc F)=>oe 1<|di (HN most e n i bo15)<|r
 rcases aX h with⟨c16,h⟩|⟨c16,h⟩
 ·obtain⟨x18,bx18,h⟩:=aA h
  obtain⟨r19,br19,h⟩:=aA h
  obtain rfl:=lf h
  exact rF Ty (p17<|sg 0 c16<|sv (qv e)<|sv (qx e)<|sv (Yf.ia (k:=.i64) bx18)<|sv (P7 x18)<|bP (hR6 _ _ _ br19)<|eF .normal (ky most e (aO (n+r19)) (aO (i+1))))<|by kernel_rfl
 ·obtain rfl:=lf h
  have z:=p17<|sg 0 c16<|eF (.exit 2) (tv most e n)
  exact iW Ty (by intro hx;cases hx) z<|by kernel_rfl
theorem HQ(hR6:qF R6){x:Int}(h:xz R6 most e n i=some x):aQ Pg GE 0 (.loop (cA Xc 247)) (EX (.exit 2) (tv most e x)) (ky most e n i):=
 aQ.loop (S:=fun(zz:Int×Int)=>ky most e zz.1 zz.2) (ex:=(fun _=>.exit 2)) (s:=(n,i)) h fun zz y hy=>FL R6 most e zz.1 zz.2 hR6 hy
end
section
variable(most:Int)(e:bH)(n:Int)(i:Int)
def Jp:az:=aW 108 [(1,.int .i64 most),(2,.eptr (aN e)),(5,.int .i64 n),(8,.int .i64 i)] [.dead] []
def tt(o:Bool):az:=aW 108 [(1,.int .i64 most),(2,.eptr (aN e)),(5,.int .i64 n),(8,.int .i64 i),(84,.bool o)] [.dead] []
def su:Option Bool:=
 if(decide (i<(e.Alts.length:Int)))=true then
  some (decide (n<=most))
 else
  some false
theorem HO{x:Bool}(h:su most e n i=some x):aQ Pg GE 0 (cA Xc 2012) (EX .normal (tt most e n i x)) (Jp most e n i):=by
 have p22:=fun{sc F} (r:PS sc F)=>sv (ik e)<|sv (il e)<|cw (Sl.ln e.Alts)<|r
 rcases aX h with⟨c21,h⟩|⟨c21,h⟩
 ·obtain rfl:=lf h
  exact ct Ty (p22<|sg 6 c21<|eF .normal (tt most e n i (decide (n<=most))))<|by kernel_rfl
 ·obtain rfl:=lf h
  exact ct Ty (p22<|sg 6 c21<|eF .normal (tt most e n i false))<|by kernel_rfl
end
section
variable(R6:qK)(most:Int)(e:bH)(n:Int)(i:Int)
def kz:az:=aW 108 [(1,.int .i64 most),(2,.eptr (aN e)),(5,.int .i64 n),(8,.int .i64 i)] [.dead] []
def tw(o:Int):az:=aW 108 [(5,.int .i64 o)] [.dead] []
def iK:Option ((Int×Int)⊕(Int)):=
 (su most e n i).bind fun o23=>
 if o23=true then
  (cH e.Alts i).bind fun x26=>
  (cH e.Alts i).bind fun x27=>
  (R6 x27.Body (aO (most - n))).bind fun r28=>
  some (.inl (aO ((aO (n+(x26.Names.length:Int)))+r28),aO (i+1)))
 else
  some (.inr n)
def xA:Option Int:=loop (fun(zz:Int×Int)=>iK R6 most e zz.1 zz.2) (n,i)
theorem FM(hR6:qF R6){y:(Int×Int)⊕(Int)}(h:iK R6 most e n i=some y):aQ Pg GE 0 (cA Xc 503) (LQ (fun(zz:Int×Int)=>kz most e zz.1 zz.2) (fun _=>.exit 4) tw y) (kz most e n i):=by
 obtain⟨o23,bo23,h⟩:=aA h
 have p25:=fun{sc F} (r:PS sc F)=>oe 1<|di (HO most e n i bo23)<|r
 rcases aX h with⟨c24,h⟩|⟨c24,h⟩
 ·obtain⟨x26,bx26,h⟩:=aA h
  obtain⟨x27,bx27,h⟩:=aA h
  obtain⟨r28,br28,h⟩:=aA h
  obtain rfl:=lf h
  exact rF Ty (p25<|sg 0 c24<|ra [0,0,2,0,14,30,62,126,255,0,512,0,3584,7680,15872,0,0,98304,261632,524287,1048575]<|sv (ik e)<|sv (il e)<|sv (Sl.ia (k:=.i64) bx26)<|sv (CE x26)<|sv (EF x26)<|cw (bR.ln x26.Names)<|sv (ik e)<|sv (il e)<|sv (Sl.ia (k:=.i64) bx27)<|sv (CF x27)<|sv (EG x27)<|bP (hR6 _ _ _ br28)<|eF .normal (kz most e (aO ((aO (n+(x26.Names.length:Int)))+r28)) (aO (i+1))))<|by kernel_rfl
 ·obtain rfl:=lf h
  have z:=p25<|sg 0 c24<|eF (.exit 4) (tw n)
  exact iW Ty (by intro hx;cases hx) z<|by kernel_rfl
theorem HR(hR6:qF R6){x:Int}(h:xA R6 most e n i=some x):aQ Pg GE 0 (.loop (cA Xc 503)) (EX (.exit 4) (tw x)) (kz most e n i):=
 aQ.loop (S:=fun(zz:Int×Int)=>kz most e zz.1 zz.2) (ex:=(fun _=>.exit 4)) (s:=(n,i)) h fun zz y hy=>FM R6 most e zz.1 zz.2 hR6 hy
end
def uN(R6:qK)(e:bH)(most:Int):Option Int:=
 (qu .i64 (e.Name.length:Int) 100).bind fun q1=>
 (fh e.Types most).bind fun r2=>
 (xy most e (aO ((aO (1+q1))+r2)) 0).bind fun o12=>
 (xz R6 most e o12 0).bind fun o20=>
 (xA R6 most e o20 0).bind fun o29=>
 some o29
theorem Lu(R6:qK)(hR6:qF R6){e:bH}{most:Int}{r:Int}(h:uN R6 e most=some r):CC Pg GE 50 [.agg (aN e),.int .i64 most] (.int .i64 r) []:=by
 obtain⟨q1,bq1,h⟩:=aA h
 obtain⟨r2,br2,h⟩:=aA h
 obtain⟨o12,bo12,h⟩:=aA h
 obtain⟨o20,bo20,h⟩:=aA h
 obtain⟨o29,bo29,h⟩:=aA h
 obtain rfl:=lf h
 have z:=se (Qk e)<|ra [0,1,3,7,15,0,32,0,224,511,1023]<|sv (CI e)<|sv (EI e)<|cw (gG underlying9 e.Name)<|sv (yG (P:=Pg) (t:=3) bq1)<|sv (CJ e)<|sv (CM e)<|bP (fx br2)<|di (HP most e (aO ((aO (1+q1))+r2)) 0 bo12)<|di (HQ R6 most e o12 0 hR6 bo20)<|di (HR R6 most e o20 0 hR6 bo29)<|en (aI (rP (.int .i64 o29))<|trivial)
 exact ck Ty call50 func50 (c:=Xc) rfl (aI (wF e) (aI trivial trivial)) z<|by kernel_rfl
def zW:((bH×Int)->Option Int)->(bH×Int)->Option Int:=fun(rec:(bH×Int)->Option Int) (x:bH×Int)=>uN (fun e most=>rec (e,most)) x.1 x.2
def FJ(e:bH)(most:Int):Option Int:=oP zW (e,most)
theorem NI{e:bH}{most:Int}{r:Int}(h:FJ e most=some r):CC Pg GE 50 [.agg (aN e),.int .i64 most] (.int .i64 r) []:=
 cR (F:=zW) (M:=fun(x:bH×Int) (r:Int)=>CC Pg GE 50 [.agg (aN x.1),.int .i64 x.2] (.int .i64 r) []) (fun rec hrec x r h=>Lu _ (fun e most r h=>hrec (e,most) r h) h) h
noncomputable def Zr:Code:=f27.body.getD .skip
def Xg:List Nat:=[112]
section
variable(v:(List pu))(most:Int)(n:Int)(i:Int)
def C2:az:=aW 113 [(0,sl cP v),(1,.int .i64 most),(5,.int .i64 n),(6,.int .i64 i)] [] []
def np(o:Bool):az:=aW 113 [(0,sl cP v),(1,.int .i64 most),(5,.int .i64 n),(6,.int .i64 i),(17,.bool o)] [] []
def lw:Option Bool:=
 if(decide (i<(v.length:Int)))=true then
  some (decide (n<=most))
 else
  some false
theorem BZ{x:Bool}(h:lw v most n i=some x):aQ Pg GE 0 (cA Zr 476) (EX .normal (np v most n i x)) (C2 v most n i):=by
 rcases aX h with⟨c1,h⟩|⟨c1,h⟩
 ·obtain rfl:=lf h
  exact ct Xg (cw (Sk.ln v)<|sg 5 c1<|eF .normal (np v most n i (decide (n<=most))))<|by kernel_rfl
 ·obtain rfl:=lf h
  exact ct Xg (cw (Sk.ln v)<|sg 5 c1<|eF .normal (np v most n i false))<|by kernel_rfl
end
section
variable(v:(List pu))(most:Int)(n:Int)(i:Int)(k:Int)(m:waB)(m2:(List Bg))(m3:(List Mh))(m4:(List lp))(m5:Int)(m6:ag)(m7:waC)(m8:waB)(m9:Int)(m10:ag)(m11:Int)(m12:waA)(m13:waA)(m14:waA)
def C3:az:=aW 113 [(0,sl cP v),(1,.int .i64 most),(5,.int .i64 n),(6,.int .i64 i),(7,.bptr 0 0),(8,.int .i64 k)] [.cells [sl cS m,sl gC m2,sl nw m3,sl cy m4,.int .i64 m5,.str m6,sl af m7,sl cS m8,.int .i64 m9,.str m10,.int .i64 m11,sl ac m12,sl ac m13,sl ac m14] []] []
def nq(o:Bool):az:=aW 113 [(0,sl cP v),(1,.int .i64 most),(5,.int .i64 n),(6,.int .i64 i),(7,.bptr 0 0),(8,.int .i64 k),(74,.bool o)] [.cells [sl cS m,sl gC m2,sl nw m3,sl cy m4,.int .i64 m5,.str m6,sl af m7,sl cS m8,.int .i64 m9,.str m10,.int .i64 m11,sl ac m12,sl ac m13,sl ac m14] []] []
def lx:Option Bool:=
 if(decide (k<(m4.length:Int)))=true then
  some (decide (n<=most))
 else
  some false
theorem B3{x:Bool}(h:lx most n k m4=some x):aQ Pg GE 0 (cA Zr 245212) (EX .normal (nq v most n i k m m2 m3 m4 m5 m6 m7 m8 m9 m10 m11 m12 m13 m14 x)) (C3 v most n i k m m2 m3 m4 m5 m6 m7 m8 m9 m10 m11 m12 m13 m14):=by
 have p12:=fun{sc F} (r:PS sc F)=>ss<|cw (Tj.ln m4)<|r
 rcases aX h with⟨c11,h⟩|⟨c11,h⟩
 ·obtain rfl:=lf h
  exact ct Xg (p12<|sg 6 c11<|eF .normal (nq v most n i k m m2 m3 m4 m5 m6 m7 m8 m9 m10 m11 m12 m13 m14 (decide (n<=most))))<|by kernel_rfl
 ·obtain rfl:=lf h
  exact ct Xg (p12<|sg 6 c11<|eF .normal (nq v most n i k m m2 m3 m4 m5 m6 m7 m8 m9 m10 m11 m12 m13 m14 false))<|by kernel_rfl
end
section
variable(v:(List pu))(most:Int)(i:Int)(m:waB)(m2:(List Bg))(m3:(List Mh))(m4:(List lp))(m5:Int)(m6:ag)(m7:waC)(m8:waB)(m9:Int)(m10:ag)(m11:Int)(m12:waA)(m13:waA)(m14:waA)(n:Int)(k:Int)
def gn:az:=aW 113 [(0,sl cP v),(1,.int .i64 most),(5,.int .i64 n),(6,.int .i64 i),(7,.bptr 0 0),(8,.int .i64 k)] [.cells [sl cS m,sl gC m2,sl nw m3,sl cy m4,.int .i64 m5,.str m6,sl af m7,sl cS m8,.int .i64 m9,.str m10,.int .i64 m11,sl ac m12,sl ac m13,sl ac m14] []] []
def nu(o:Int):az:=aW 113 [(0,sl cP v),(1,.int .i64 most),(5,.int .i64 o),(6,.int .i64 i)] [.cells [sl cS m,sl gC m2,sl nw m3,sl cy m4,.int .i64 m5,.str m6,sl af m7,sl cS m8,.int .i64 m9,.str m10,.int .i64 m11,sl ac m12,sl ac m13,sl ac m14] []] []
def eX:Option ((Int×Int)⊕(Int)):=
 (lx most n k m4).bind fun o13=>
 if o13=true then
  (cH m4 k).bind fun x16=>
  (cH m4 k).bind fun x17=>
  (cH m4 k).bind fun x18=>
  (ed ([x17.Hyp,x18.Goal]:List aa) most).bind fun r19=>
  some (.inl (aO ((aO ((aO (n+1))+(x16.Vars.length:Int)))+r19),aO (k+1)))
 else
  some (.inr n)
def pG:Option Int:=loop (fun(zz:Int×Int)=>eX most m4 zz.1 zz.2) (n,k)
theorem zY{y:(Int×Int)⊕(Int)}(h:eX most m4 n k=some y):aQ Pg GE 0 (cA Zr 61303) (LQ (fun(zz:Int×Int)=>gn v most i m m2 m3 m4 m5 m6 m7 m8 m9 m10 m11 m12 m13 m14 zz.1 zz.2) (fun _=>.exit 2) (nu v most i m m2 m3 m4 m5 m6 m7 m8 m9 m10 m11 m12 m13 m14) y) (gn v most i m m2 m3 m4 m5 m6 m7 m8 m9 m10 m11 m12 m13 m14 n k):=by
 obtain⟨o13,bo13,h⟩:=aA h
 have p15:=fun{sc F} (r:PS sc F)=>oe 1<|di (B3 v most n i k m m2 m3 m4 m5 m6 m7 m8 m9 m10 m11 m12 m13 m14 bo13)<|r
 rcases aX h with⟨c14,h⟩|⟨c14,h⟩
 ·obtain⟨x16,bx16,h⟩:=aA h
  obtain⟨x17,bx17,h⟩:=aA h
  obtain⟨x18,bx18,h⟩:=aA h
  obtain⟨r19,br19,h⟩:=aA h
  obtain rfl:=lf h
  exact rF Xg (p15<|sg 0 c14<|ra [0,1,0,4,0,28,60,124,252,511,0,1024,0,7168,15360,31744,0,65536,0,458752,983040,2031616,4193280,0,16776192,33554431,67108863]<|ss<|sv (Tj.ia (k:=.i64) bx16)<|sv (Ic x16)<|sv (Kk x16)<|cw (GN.ln x16.Vars)<|ss<|sv (Tj.ia (k:=.i64) bx17)<|sv (Id x17)<|sv (Kl x17)<|ss<|sv (Tj.ia (k:=.i64) bx18)<|sv (Ie x18)<|sv (Km x18)<|sv (cd.mk' (v:=ff) dl ([x17.Hyp,x18.Goal]:List aa) 2 (by kernel_rfl))<|bP (ee br19)<|eF .normal (gn v most i m m2 m3 m4 m5 m6 m7 m8 m9 m10 m11 m12 m13 m14 (aO ((aO ((aO (n+1))+(x16.Vars.length:Int)))+r19)) (aO (k+1))))<|by kernel_rfl
 ·obtain rfl:=lf h
  have z:=p15<|sg 0 c14<|eF (.exit 2) (nu v most i m m2 m3 m4 m5 m6 m7 m8 m9 m10 m11 m12 m13 m14 n)
  exact iW Xg (by intro hx;cases hx) z<|by kernel_rfl
theorem B5{x:Int}(h:pG most m4 n k=some x):aQ Pg GE 0 (.loop (cA Zr 61303)) (EX (.exit 2) (nu v most i m m2 m3 m4 m5 m6 m7 m8 m9 m10 m11 m12 m13 m14 x)) (gn v most i m m2 m3 m4 m5 m6 m7 m8 m9 m10 m11 m12 m13 m14 n k):=
 aQ.loop (S:=fun(zz:Int×Int)=>gn v most i m m2 m3 m4 m5 m6 m7 m8 m9 m10 m11 m12 m13 m14 zz.1 zz.2) (ex:=(fun _=>.exit 2)) (s:=(n,k)) h fun zz y hy=>zY v most i m m2 m3 m4 m5 m6 m7 m8 m9 m10 m11 m12 m13 m14 zz.1 zz.2 hy
end
section
variable(v:(List pu))(most:Int)(n:Int)(i:Int)
def gm:az:=aW 113 [(0,sl cP v),(1,.int .i64 most),(5,.int .i64 n),(6,.int .i64 i)] [] []
def nr(o:Int):az:=aW 113 [(5,.int .i64 o)] [] []
def eW:Option ((Int×Int)⊕(Int)):=
 (lw v most n i).bind fun o2=>
 if o2=true then
  (cH v i).bind fun x5=>
  (cH v i).bind fun x6=>
  (qu .i64 (x6.Name.length:Int) 100).bind fun q7=>
  (cH v i).bind fun x8=>
  (fh ([x5.Sig.Type_]:List ae) most).bind fun r9=>
  (ed x5.Sig.Metric most).bind fun r10=>
  (pG most x5.Sig.Bounds (aO ((aO ((aO ((aO ((aO ((aO ((aO ((aO (n+1))+q7))+(x8.Params.length:Int)))+(x5.Sig.Vars.length:Int)))+(x5.Sig.Needs.length:Int)))+(x5.Sig.Abs.length:Int)))+r9))+r10)) 0).bind fun o20=>
  (cH v i).bind fun x21=>
  (FJ x21.Body most).bind fun r22=>
  some (.inl (aO (o20+r22),aO (i+1)))
 else
  some (.inr n)
def pF:Option Int:=loop (fun(zz:Int×Int)=>eW v most zz.1 zz.2) (n,i)
theorem zX{y:(Int×Int)⊕(Int)}(h:eW v most n i=some y):aQ Pg GE 0 (cA Zr 119) (LQ (fun(zz:Int×Int)=>gm v most zz.1 zz.2) (fun _=>.exit 0) nr y) (gm v most n i):=by
 obtain⟨o2,bo2,h⟩:=aA h
 have p4:=fun{sc F} (r:PS sc F)=>oe 1<|di (BZ v most n i bo2)<|r
 rcases aX h with⟨c3,h⟩|⟨c3,h⟩
 ·obtain⟨x5,bx5,h⟩:=aA h
  obtain⟨x6,bx6,h⟩:=aA h
  obtain⟨q7,bq7,h⟩:=aA h
  obtain⟨x8,bx8,h⟩:=aA h
  obtain⟨r9,br9,h⟩:=aA h
  obtain⟨r10,br10,h⟩:=aA h
  obtain⟨o20,bo20,h⟩:=aA h
  obtain⟨x21,bx21,h⟩:=aA h
  obtain⟨r22,br22,h⟩:=aA h
  obtain rfl:=lf h
  have z:=p4<|sg 0 c3<|sv (Sk.ia (k:=.i64) bx5)<|sv (LR x5)<|sv (Ko x5)<|sx qbr<|sx (Wu x5.Sig)<|ra [0,1,0,0,12,28,60,124,252,511,0,0,3072,7168,15360,31744,65535,0,131072,393216,1048575,0,2097152,6291456,16777215,0,33554432,100663296,268435455,0,536870912,1610612736,0,8053063680,17179869183,0,34359738368,0,257161166848,549755813887,1099511627775]<|sv (Sk.ia (k:=.i64) bx6)<|sv (LN x6)<|sv (P5 x6)<|cw (gG underlying9 x6.Name)<|sv (yG (P:=Pg) (t:=3) bq7)<|sv (Sk.ia (k:=.i64) bx8)<|sv (LO x8)<|sv (OF x8)<|cw (bR.ln x8.Params)<|ss<|cw (bR.ln x5.Sig.Vars)<|ss<|cw (qbx.ln x5.Sig.Needs)<|ss<|cw (qbv.ln x5.Sig.Abs)<|sv (dj x5.Sig.Type_ [sl ac x5.Sig.Metric])<|sv (cQ.mk' (v:=lO) gi ([x5.Sig.Type_]:List ae) 1 (by kernel_rfl))<|bP (fx br9)<|ss<|bP (ee br10)<|di (B5 v most i x5.Sig.Vars x5.Sig.Needs x5.Sig.Abs x5.Sig.Bounds x5.Sig.Type_.Op x5.Sig.Type_.Name x5.Sig.Type_.Args x5.Sig.Type_.Names x5.Sig.Type_.Pred.Op x5.Sig.Type_.Pred.Name x5.Sig.Type_.Pred.N x5.Sig.Type_.Pred.Kids x5.Sig.Type_.Preds x5.Sig.Metric (aO ((aO ((aO ((aO ((aO ((aO ((aO ((aO (n+1))+q7))+(x8.Params.length:Int)))+(x5.Sig.Vars.length:Int)))+(x5.Sig.Needs.length:Int)))+(x5.Sig.Abs.length:Int)))+r9))+r10)) 0 bo20)<|sv (Sk.ia (k:=.i64) bx21)<|sv (LP x21)<|sv (OG x21)<|bP (NI br22)<|y4 0 .normal (gm v most (aO (o20+r22)) (aO (i+1))) rfl (eh (aI (up (aq Bz v)) (aI trivial (aI trivial (aI trivial trivial))))) trivial
  exact dV (A:=Xg) mixed z<|by kernel_rfl
 ·obtain rfl:=lf h
  have z:=p4<|sg 0 c3<|eF (.exit 0) (nr n)
  exact iW Xg (by intro hx;cases hx) z<|by kernel_rfl
theorem B4{x:Int}(h:pF v most n i=some x):aQ Pg GE 0 (.loop (cA Zr 119)) (EX (.exit 0) (nr x)) (gm v most n i):=
 aQ.loop (S:=fun(zz:Int×Int)=>gm v most zz.1 zz.2) (ex:=(fun _=>.exit 0)) (s:=(n,i)) h fun zz y hy=>zX v most zz.1 zz.2 hy
end
def mF(a:(List pu))(most:Int):Option Int:=
 (pF a most 0 0).bind fun o23=>
 some o23
theorem wz{a:(List pu)}{most:Int}{r:Int}(h:mF a most=some r):CC Pg GE 27 [sl cP a,.int .i64 most] (.int .i64 r) []:=by
 obtain⟨o23,bo23,h⟩:=aA h
 obtain rfl:=lf h
 have z:=di (B4 a most 0 0 bo23)<|en (aI (rP (.int .i64 o23))<|trivial)
 exact ck Xg call27 func27 (c:=Zr) rfl (aI (aq Bz a) (aI trivial trivial)) z<|by kernel_rfl
noncomputable def b7:Code:=Tryz.f7.body.getD .skip
def A7:List Nat:=[]
section
variable(m:aR)
def Jq:az:=aW 303 [(1,.eptr (aC m))] [.dead] []
def gk(o:Bool):az:=aW 303 [(1,.eptr (aC m)),(45,.bool o)] [.dead] []
def xB:Option Bool:=
 if(decide ((m.Datas.length:Int)>80))=true then
  some true
 else
  if(decide ((m.Classes.length:Int)>80))=true then
   some true
  else
   if(decide ((m.Instances.length:Int)>80))=true then
    some true
   else
    if(decide ((m.Measures.length:Int)>80))=true then
     some true
    else
     if(decide ((m.Quals.length:Int)>80))=true then
      some true
     else
      some (decide ((m.Defs.length:Int)>80))
theorem HW{x:Bool}(h:xB m=some x):aQ Pg GE 0 (cA b7 12) (EX .normal (gk m x)) (Jq m):=by
 have p2:=fun{sc F} (r:PS sc F)=>sv (dw m)<|sv (dy m)<|cw (KU.ln m.Datas)<|r
 rcases aX h with⟨c1,h⟩|⟨c1,h⟩
 ·obtain rfl:=lf h
  exact ct A7 (p2<|sg 5 c1<|eF .normal (gk m true))<|by kernel_rfl
 ·have p4:=fun{sc F} (r:PS sc F)=>p2<|sg 5 c1<|sv (nc m)<|sv (ni m)<|cw (Yc.ln m.Classes)<|r
  rcases aX h with⟨c3,h⟩|⟨c3,h⟩
  ·obtain rfl:=lf h
   exact ct A7 (p4<|sg 11 c3<|eF .normal (gk m true))<|by kernel_rfl
  ·have p6:=fun{sc F} (r:PS sc F)=>p4<|sg 11 c3<|sv (jz m)<|sv (jD m)<|cw (WV.ln m.Instances)<|r
   rcases aX h with⟨c5,h⟩|⟨c5,h⟩
   ·obtain rfl:=lf h
    exact ct A7 (p6<|sg 17 c5<|eF .normal (gk m true))<|by kernel_rfl
   ·have p8:=fun{sc F} (r:PS sc F)=>p6<|sg 17 c5<|sv (gQ m)<|sv (gR m)<|cw (UM.ln m.Measures)<|r
    rcases aX h with⟨c7,h⟩|⟨c7,h⟩
    ·obtain rfl:=lf h
     exact ct A7 (p8<|sg 23 c7<|eF .normal (gk m true))<|by kernel_rfl
    ·have p10:=fun{sc F} (r:PS sc F)=>p8<|sg 23 c7<|sv (nf m)<|sv (nj m)<|cw (Ye.ln m.Quals)<|r
     rcases aX h with⟨c9,h⟩|⟨c9,h⟩
     ·obtain rfl:=lf h
      exact ct A7 (p10<|sg 29 c9<|eF .normal (gk m true))<|by kernel_rfl
     ·obtain rfl:=lf h
      exact ct A7 (p10<|sg 29 c9<|sv (yI m)<|sv (yM m)<|cw (Sk.ln m.Defs)<|eF .normal (gk m (decide ((m.Defs.length:Int)>80))))<|by kernel_rfl
end
section
variable(m:aR)(n:Int)(i:Int)
def Jr:az:=aW 303 [(1,.eptr (aC m)),(3,.int .i64 n),(4,.int .i64 i)] [.dead] []
def tx(o:Bool):az:=aW 303 [(1,.eptr (aC m)),(3,.int .i64 n),(4,.int .i64 i),(57,.bool o)] [.dead] []
def sw:Option Bool:=
 if(decide (i<(m.Datas.length:Int)))=true then
  some (decide (n<=4000))
 else
  some false
theorem HX{x:Bool}(h:sw m n i=some x):aQ Pg GE 0 (cA b7 988) (EX .normal (tx m n i x)) (Jr m n i):=by
 have p16:=fun{sc F} (r:PS sc F)=>sv (dw m)<|sv (dy m)<|cw (KU.ln m.Datas)<|r
 rcases aX h with⟨c15,h⟩|⟨c15,h⟩
 ·obtain rfl:=lf h
  exact ct A7 (p16<|sg 6 c15<|eF .normal (tx m n i (decide (n<=4000))))<|by kernel_rfl
 ·obtain rfl:=lf h
  exact ct A7 (p16<|sg 6 c15<|eF .normal (tx m n i false))<|by kernel_rfl
end
section
variable(m:aR)(n:Int)(i:Int)(k:Int)
def Js:az:=aW 303 [(1,.eptr (aC m)),(3,.int .i64 n),(4,.int .i64 i),(5,.int .i64 k)] [.dead] []
def tz(o:Bool):az:=aW 303 [(1,.eptr (aC m)),(3,.int .i64 n),(4,.int .i64 i),(5,.int .i64 k),(99,.bool o)] [.dead] []
def sA:Option Bool:=
 (cH m.Datas i).bind fun x24=>
 if(decide (k<(x24.Cons.length:Int)))=true then
  some (decide (n<=4000))
 else
  some false
theorem HY{x:Bool}(h:sA m n i k=some x):aQ Pg GE 0 (cA b7 126844) (EX .normal (tz m n i k x)) (Js m n i k):=by
 obtain⟨x24,bx24,h⟩:=aA h
 have p26:=fun{sc F} (r:PS sc F)=>sv (dw m)<|sv (dy m)<|sv (KU.ia (k:=.i64) bx24)<|sv (v7 x24)<|sv (wh x24)<|cw (ZT.ln x24.Cons)<|r
 rcases aX h with⟨c25,h⟩|⟨c25,h⟩
 ·obtain rfl:=lf h
  exact ct A7 (p26<|sg 10 c25<|eF .normal (tz m n i k (decide (n<=4000))))<|by kernel_rfl
 ·obtain rfl:=lf h
  exact ct A7 (p26<|sg 10 c25<|eF .normal (tz m n i k false))<|by kernel_rfl
end
section
variable(m:aR)(i:Int)(n:Int)(k:Int)
def kD:az:=aW 303 [(1,.eptr (aC m)),(3,.int .i64 n),(4,.int .i64 i),(5,.int .i64 k)] [.dead] []
def tD(o:Int):az:=aW 303 [(1,.eptr (aC m)),(3,.int .i64 o),(4,.int .i64 i)] [.dead] []
def iM:Option ((Int×Int)⊕(Int)):=
 (sA m n i k).bind fun o27=>
 if o27=true then
  (cH m.Datas i).bind fun x30=>
  (cH x30.Cons k).bind fun x31=>
  (cH m.Datas i).bind fun x32=>
  (cH x32.Cons k).bind fun x33=>
  (fh x33.Fields 4000).bind fun r34=>
  some (.inl (aO ((aO ((aO (n+1))+(x31.Names.length:Int)))+r34),aO (k+1)))
 else
  some (.inr n)
def xD:Option Int:=loop (fun(zz:Int×Int)=>iM m i zz.1 zz.2) (n,k)
theorem F0{y:(Int×Int)⊕(Int)}(h:iM m i n k=some y):aQ Pg GE 0 (cA b7 31711) (LQ (fun(zz:Int×Int)=>kD m i zz.1 zz.2) (fun _=>.exit 2) (tD m i) y) (kD m i n k):=by
 obtain⟨o27,bo27,h⟩:=aA h
 have p29:=fun{sc F} (r:PS sc F)=>oe 1<|di (HY m n i k bo27)<|r
 rcases aX h with⟨c28,h⟩|⟨c28,h⟩
 ·obtain⟨x30,bx30,h⟩:=aA h
  obtain⟨x31,bx31,h⟩:=aA h
  obtain⟨x32,bx32,h⟩:=aA h
  obtain⟨x33,bx33,h⟩:=aA h
  obtain⟨r34,br34,h⟩:=aA h
  obtain rfl:=lf h
  exact rF A7 (p29<|sg 0 c28<|ra [0,1,0,4,0,28,60,124,0,508,1020,2044,4092,8191,0,16384,0,114688,245760,507904,0,2080768,4177920,8372224,16760832,33554431,67108863]<|sv (dw m)<|sv (dy m)<|sv (KU.ia (k:=.i64) bx30)<|sv (v7 x30)<|sv (wh x30)<|sv (ZT.ia (k:=.i64) bx31)<|sv (Oe x31)<|sv (OB x31)<|cw (bR.ln x31.Names)<|sv (dw m)<|sv (dy m)<|sv (KU.ia (k:=.i64) bx32)<|sv (v7 x32)<|sv (wh x32)<|sv (ZT.ia (k:=.i64) bx33)<|sv (Of x33)<|sv (OC x33)<|bP (fx br34)<|eF .normal (kD m i (aO ((aO ((aO (n+1))+(x31.Names.length:Int)))+r34)) (aO (k+1))))<|by kernel_rfl
 ·obtain rfl:=lf h
  have z:=p29<|sg 0 c28<|eF (.exit 2) (tD m i n)
  exact iW A7 (by intro hx;cases hx) z<|by kernel_rfl
theorem H4{x:Int}(h:xD m i n k=some x):aQ Pg GE 0 (.loop (cA b7 31711)) (EX (.exit 2) (tD m i x)) (kD m i n k):=
 aQ.loop (S:=fun(zz:Int×Int)=>kD m i zz.1 zz.2) (ex:=(fun _=>.exit 2)) (s:=(n,k)) h fun zz y hy=>F0 m i zz.1 zz.2 hy
end
section
variable(m:aR)(n:Int)(i:Int)
def kC:az:=aW 303 [(1,.eptr (aC m)),(3,.int .i64 n),(4,.int .i64 i)] [.dead] []
def tC(o:Int):az:=aW 303 [(1,.eptr (aC m)),(3,.int .i64 o)] [.dead] []
def iL:Option ((Int×Int)⊕(Int)):=
 (sw m n i).bind fun o17=>
 if o17=true then
  (cH m.Datas i).bind fun x20=>
  (qu .i64 (x20.Name.length:Int) 100).bind fun q21=>
  (cH m.Datas i).bind fun x22=>
  (cH m.Datas i).bind fun x23=>
  (xD m i (aO ((aO ((aO ((aO (n+1))+q21))+(x22.Vars.length:Int)))+(x23.Preds.length:Int))) 0).bind fun o35=>
  some (.inl (o35,aO (i+1)))
 else
  some (.inr n)
def xC:Option Int:=loop (fun(zz:Int×Int)=>iL m zz.1 zz.2) (n,i)
theorem FY{y:(Int×Int)⊕(Int)}(h:iL m n i=some y):aQ Pg GE 0 (cA b7 247) (LQ (fun(zz:Int×Int)=>kC m zz.1 zz.2) (fun _=>.exit 0) (tC m) y) (kC m n i):=by
 obtain⟨o17,bo17,h⟩:=aA h
 have p19:=fun{sc F} (r:PS sc F)=>oe 1<|di (HX m n i bo17)<|r
 rcases aX h with⟨c18,h⟩|⟨c18,h⟩
 ·obtain⟨x20,bx20,h⟩:=aA h
  obtain⟨q21,bq21,h⟩:=aA h
  obtain⟨x22,bx22,h⟩:=aA h
  obtain⟨x23,bx23,h⟩:=aA h
  obtain⟨o35,bo35,h⟩:=aA h
  obtain rfl:=lf h
  exact rF A7 (p19<|sg 0 c18<|ra [0,1,0,4,0,28,60,124,252,508,1023,0,2048,0,14336,30720,63488,129024,262143,0,524288,0,3670016,7864320,16252928,33030144,67108863,134217727]<|sv (dw m)<|sv (dy m)<|sv (KU.ia (k:=.i64) bx20)<|sv (LK x20)<|sv (OE x20)<|cw (gG underlying9 x20.Name)<|sv (yG (P:=Pg) (t:=3) bq21)<|sv (dw m)<|sv (dy m)<|sv (KU.ia (k:=.i64) bx22)<|sv (LL x22)<|sv (L2 x22)<|cw (bR.ln x22.Vars)<|sv (dw m)<|sv (dy m)<|sv (KU.ia (k:=.i64) bx23)<|sv (LM x23)<|sv (L3 x23)<|cw (GN.ln x23.Preds)<|di (H4 m i (aO ((aO ((aO ((aO (n+1))+q21))+(x22.Vars.length:Int)))+(x23.Preds.length:Int))) 0 bo35)<|eF .normal (kC m o35 (aO (i+1))))<|by kernel_rfl
 ·obtain rfl:=lf h
  have z:=p19<|sg 0 c18<|eF (.exit 0) (tC m n)
  exact iW A7 (by intro hx;cases hx) z<|by kernel_rfl
theorem H3{x:Int}(h:xC m n i=some x):aQ Pg GE 0 (.loop (cA b7 247)) (EX (.exit 0) (tC m x)) (kC m n i):=
 aQ.loop (S:=fun(zz:Int×Int)=>kC m zz.1 zz.2) (ex:=(fun _=>.exit 0)) (s:=(n,i)) h fun zz y hy=>FY m zz.1 zz.2 hy
end
section
variable(m:aR)(n:Int)(i:Int)
def Jt:az:=aW 303 [(1,.eptr (aC m)),(3,.int .i64 n),(6,.int .i64 i)] [.dead] []
def tA(o:Bool):az:=aW 303 [(1,.eptr (aC m)),(3,.int .i64 n),(6,.int .i64 i),(136,.bool o)] [.dead] []
def sB:Option Bool:=
 if(decide (i<(m.Classes.length:Int)))=true then
  some (decide (n<=4000))
 else
  some false
theorem HZ{x:Bool}(h:sB m n i=some x):aQ Pg GE 0 (cA b7 2012) (EX .normal (tA m n i x)) (Jt m n i):=by
 have p38:=fun{sc F} (r:PS sc F)=>sv (nc m)<|sv (ni m)<|cw (Yc.ln m.Classes)<|r
 rcases aX h with⟨c37,h⟩|⟨c37,h⟩
 ·obtain rfl:=lf h
  exact ct A7 (p38<|sg 6 c37<|eF .normal (tA m n i (decide (n<=4000))))<|by kernel_rfl
 ·obtain rfl:=lf h
  exact ct A7 (p38<|sg 6 c37<|eF .normal (tA m n i false))<|by kernel_rfl
end
section
variable(m:aR)(n:Int)(i:Int)(k:Int)
def Ju:az:=aW 303 [(1,.eptr (aC m)),(3,.int .i64 n),(6,.int .i64 i),(7,.int .i64 k)] [.dead] []
def tB(o:Bool):az:=aW 303 [(1,.eptr (aC m)),(3,.int .i64 n),(6,.int .i64 i),(7,.int .i64 k),(151,.bool o)] [.dead] []
def sC:Option Bool:=
 (cH m.Classes i).bind fun x42=>
 if(decide (k<(x42.Methods.length:Int)))=true then
  some (decide (n<=4000))
 else
  some false
theorem H1{x:Bool}(h:sC m n i k=some x):aQ Pg GE 0 (cA b7 128956) (EX .normal (tB m n i k x)) (Ju m n i k):=by
 obtain⟨x42,bx42,h⟩:=aA h
 have p44:=fun{sc F} (r:PS sc F)=>sv (nc m)<|sv (ni m)<|sv (Yc.ia (k:=.i64) bx42)<|sv (AE x42)<|sv (AH x42)<|cw (qbw.ln x42.Methods)<|r
 rcases aX h with⟨c43,h⟩|⟨c43,h⟩
 ·obtain rfl:=lf h
  exact ct A7 (p44<|sg 10 c43<|eF .normal (tB m n i k (decide (n<=4000))))<|by kernel_rfl
 ·obtain rfl:=lf h
  exact ct A7 (p44<|sg 10 c43<|eF .normal (tB m n i k false))<|by kernel_rfl
end
section
variable(m:aR)(i:Int)(n:Int)(k:Int)
def kF:az:=aW 303 [(1,.eptr (aC m)),(3,.int .i64 n),(6,.int .i64 i),(7,.int .i64 k)] [.dead] []
def tF(o:Int):az:=aW 303 [(1,.eptr (aC m)),(3,.int .i64 o),(6,.int .i64 i)] [.dead] []
def iO:Option ((Int×Int)⊕(Int)):=
 (sC m n i k).bind fun o45=>
 if o45=true then
  (cH m.Classes i).bind fun x48=>
  (cH x48.Methods k).bind fun x49=>
  (fh ([x49.Type_]:List ae) 4000).bind fun r50=>
  some (.inl (aO ((aO (n+1))+r50),aO (k+1)))
 else
  some (.inr n)
def xF:Option Int:=loop (fun(zz:Int×Int)=>iO m i zz.1 zz.2) (n,k)
theorem F2{y:(Int×Int)⊕(Int)}(h:iO m i n k=some y):aQ Pg GE 0 (cA b7 32239) (LQ (fun(zz:Int×Int)=>kF m i zz.1 zz.2) (fun _=>.exit 6) (tF m i) y) (kF m i n k):=by
 obtain⟨o45,bo45,h⟩:=aA h
 have p47:=fun{sc F} (r:PS sc F)=>oe 1<|di (H1 m n i k bo45)<|r
 rcases aX h with⟨c46,h⟩|⟨c46,h⟩
 ·obtain⟨x48,bx48,h⟩:=aA h
  obtain⟨x49,bx49,h⟩:=aA h
  obtain⟨r50,br50,h⟩:=aA h
  obtain rfl:=lf h
  exact rF A7 (p47<|sg 0 c46<|sv (nc m)<|sv (ni m)<|sv (Yc.ia (k:=.i64) bx48)<|sv (AE x48)<|sv (AH x48)<|sv (qbw.ia (k:=.i64) bx49)<|sv (Ig x49)<|sv (Ij x49)<|sv (cQ.mk' (v:=lO) gi ([x49.Type_]:List ae) 1 (by kernel_rfl))<|bP (fx br50)<|eF .normal (kF m i (aO ((aO (n+1))+r50)) (aO (k+1))))<|by kernel_rfl
 ·obtain rfl:=lf h
  have z:=p47<|sg 0 c46<|eF (.exit 6) (tF m i n)
  exact iW A7 (by intro hx;cases hx) z<|by kernel_rfl
theorem H6{x:Int}(h:xF m i n k=some x):aQ Pg GE 0 (.loop (cA b7 32239)) (EX (.exit 6) (tF m i x)) (kF m i n k):=
 aQ.loop (S:=fun(zz:Int×Int)=>kF m i zz.1 zz.2) (ex:=(fun _=>.exit 6)) (s:=(n,k)) h fun zz y hy=>F2 m i zz.1 zz.2 hy
end
section
variable(m:aR)(n:Int)(i:Int)
def kE:az:=aW 303 [(1,.eptr (aC m)),(3,.int .i64 n),(6,.int .i64 i)] [.dead] []
def tE(o:Int):az:=aW 303 [(1,.eptr (aC m)),(3,.int .i64 o)] [.dead] []
def iN:Option ((Int×Int)⊕(Int)):=
 (sB m n i).bind fun o39=>
 if o39=true then
  (xF m i n 0).bind fun o51=>
  some (.inl (o51,aO (i+1)))
 else
  some (.inr n)
def xE:Option Int:=loop (fun(zz:Int×Int)=>iN m zz.1 zz.2) (n,i)
theorem F1{y:(Int×Int)⊕(Int)}(h:iN m n i=some y):aQ Pg GE 0 (cA b7 503) (LQ (fun(zz:Int×Int)=>kE m zz.1 zz.2) (fun _=>.exit 4) (tE m) y) (kE m n i):=by
 obtain⟨o39,bo39,h⟩:=aA h
 have p41:=fun{sc F} (r:PS sc F)=>oe 1<|di (HZ m n i bo39)<|r
 rcases aX h with⟨c40,h⟩|⟨c40,h⟩
 ·obtain⟨o51,bo51,h⟩:=aA h
  obtain rfl:=lf h
  exact rF A7 (p41<|sg 0 c40<|di (H6 m i n 0 bo51)<|eF .normal (kE m o51 (aO (i+1))))<|by kernel_rfl
 ·obtain rfl:=lf h
  have z:=p41<|sg 0 c40<|eF (.exit 4) (tE m n)
  exact iW A7 (by intro hx;cases hx) z<|by kernel_rfl
theorem H5{x:Int}(h:xE m n i=some x):aQ Pg GE 0 (.loop (cA b7 503)) (EX (.exit 4) (tE m x)) (kE m n i):=
 aQ.loop (S:=fun(zz:Int×Int)=>kE m zz.1 zz.2) (ex:=(fun _=>.exit 4)) (s:=(n,i)) h fun zz y hy=>F1 m zz.1 zz.2 hy
end
section
variable(m:aR)(n:Int)(i:Int)
def HS:az:=aW 303 [(1,.eptr (aC m)),(3,.int .i64 n),(8,.int .i64 i)] [.dead] []
def rr(o:Bool):az:=aW 303 [(1,.eptr (aC m)),(3,.int .i64 n),(8,.int .i64 i),(177,.bool o)] [.dead] []
def ql:Option Bool:=
 if(decide (i<(m.Instances.length:Int)))=true then
  some (decide (n<=4000))
 else
  some false
theorem FO{x:Bool}(h:ql m n i=some x):aQ Pg GE 0 (cA b7 4060) (EX .normal (rr m n i x)) (HS m n i):=by
 have p54:=fun{sc F} (r:PS sc F)=>sv (jz m)<|sv (jD m)<|cw (WV.ln m.Instances)<|r
 rcases aX h with⟨c53,h⟩|⟨c53,h⟩
 ·obtain rfl:=lf h
  exact ct A7 (p54<|sg 6 c53<|eF .normal (rr m n i (decide (n<=4000))))<|by kernel_rfl
 ·obtain rfl:=lf h
  exact ct A7 (p54<|sg 6 c53<|eF .normal (rr m n i false))<|by kernel_rfl
end
section
variable(m:aR)(n:Int)(i:Int)
def jr:az:=aW 303 [(1,.eptr (aC m)),(3,.int .i64 n),(8,.int .i64 i)] [.dead] []
def rx(o:Int):az:=aW 303 [(1,.eptr (aC m)),(3,.int .i64 o)] [.dead] []
def gK:Option ((Int×Int)⊕(Int)):=
 (ql m n i).bind fun o55=>
 if o55=true then
  (cH m.Instances i).bind fun x58=>
  (cH m.Instances i).bind fun x59=>
  (fh ([x59.Type_]:List ae) 4000).bind fun r60=>
  (cH m.Instances i).bind fun x61=>
  (mF x61.Defs 4000).bind fun r62=>
  some (.inl (aO ((aO ((aO ((aO (n+1))+(x58.Needs.length:Int)))+r60))+r62),aO (i+1)))
 else
  some (.inr n)
def vU:Option Int:=loop (fun(zz:Int×Int)=>gK m zz.1 zz.2) (n,i)
theorem D7{y:(Int×Int)⊕(Int)}(h:gK m n i=some y):aQ Pg GE 0 (cA b7 1015) (LQ (fun(zz:Int×Int)=>jr m zz.1 zz.2) (fun _=>.exit 8) (rx m) y) (jr m n i):=by
 obtain⟨o55,bo55,h⟩:=aA h
 have p57:=fun{sc F} (r:PS sc F)=>oe 1<|di (FO m n i bo55)<|r
 rcases aX h with⟨c56,h⟩|⟨c56,h⟩
 ·obtain⟨x58,bx58,h⟩:=aA h
  obtain⟨x59,bx59,h⟩:=aA h
  obtain⟨r60,br60,h⟩:=aA h
  obtain⟨x61,bx61,h⟩:=aA h
  obtain⟨r62,br62,h⟩:=aA h
  obtain rfl:=lf h
  exact rF A7 (p57<|sg 0 c56<|ra [0,1,0,4,0,28,60,124,252,511,0,1024,0,7168,15360,31744,64512,130048,262143,0,524288,0,3670016,7864320,16252928,33291264,67108863,134217727]<|sv (jz m)<|sv (jD m)<|sv (WV.ia (k:=.i64) bx58)<|sv (Ex x58)<|sv (Dr x58)<|cw (qbx.ln x58.Needs)<|sv (jz m)<|sv (jD m)<|sv (WV.ia (k:=.i64) bx59)<|sv (Ew x59)<|sv (EJ x59)<|sv (cQ.mk' (v:=lO) gi ([x59.Type_]:List ae) 1 (by kernel_rfl))<|bP (fx br60)<|sv (jz m)<|sv (jD m)<|sv (WV.ia (k:=.i64) bx61)<|sv (Ey x61)<|sv (Ds x61)<|bP (wz br62)<|eF .normal (jr m (aO ((aO ((aO ((aO (n+1))+(x58.Needs.length:Int)))+r60))+r62)) (aO (i+1))))<|by kernel_rfl
 ·obtain rfl:=lf h
  have z:=p57<|sg 0 c56<|eF (.exit 8) (rx m n)
  exact iW A7 (by intro hx;cases hx) z<|by kernel_rfl
theorem FU{x:Int}(h:vU m n i=some x):aQ Pg GE 0 (.loop (cA b7 1015)) (EX (.exit 8) (rx m x)) (jr m n i):=
 aQ.loop (S:=fun(zz:Int×Int)=>jr m zz.1 zz.2) (ex:=(fun _=>.exit 8)) (s:=(n,i)) h fun zz y hy=>D7 m zz.1 zz.2 hy
end
section
variable(m:aR)(n:Int)(i:Int)
def HT:az:=aW 303 [(1,.eptr (aC m)),(3,.int .i64 n),(9,.int .i64 i)] [.dead] []
def rt(o:Bool):az:=aW 303 [(1,.eptr (aC m)),(3,.int .i64 n),(9,.int .i64 i),(215,.bool o)] [.dead] []
def qm:Option Bool:=
 if(decide (i<(m.Measures.length:Int)))=true then
  some (decide (n<=4000))
 else
  some false
theorem FP{x:Bool}(h:qm m n i=some x):aQ Pg GE 0 (cA b7 8156) (EX .normal (rt m n i x)) (HT m n i):=by
 have p65:=fun{sc F} (r:PS sc F)=>sv (gQ m)<|sv (gR m)<|cw (UM.ln m.Measures)<|r
 rcases aX h with⟨c64,h⟩|⟨c64,h⟩
 ·obtain rfl:=lf h
  exact ct A7 (p65<|sg 6 c64<|eF .normal (rt m n i (decide (n<=4000))))<|by kernel_rfl
 ·obtain rfl:=lf h
  exact ct A7 (p65<|sg 6 c64<|eF .normal (rt m n i false))<|by kernel_rfl
end
section
variable(m:aR)(n:Int)(i:Int)(k:Int)
def HU:az:=aW 303 [(1,.eptr (aC m)),(3,.int .i64 n),(9,.int .i64 i),(10,.int .i64 k)] [.dead] []
def ru(o:Bool):az:=aW 303 [(1,.eptr (aC m)),(3,.int .i64 n),(9,.int .i64 i),(10,.int .i64 k),(241,.bool o)] [.dead] []
def qn:Option Bool:=
 (cH m.Measures i).bind fun x71=>
 if(decide (k<(x71.Cases.length:Int)))=true then
  some (decide (n<=4000))
 else
  some false
theorem FQ{x:Bool}(h:qn m n i k=some x):aQ Pg GE 0 (cA b7 1044348) (EX .normal (ru m n i k x)) (HU m n i k):=by
 obtain⟨x71,bx71,h⟩:=aA h
 have p73:=fun{sc F} (r:PS sc F)=>sv (gQ m)<|sv (gR m)<|sv (UM.ia (k:=.i64) bx71)<|sv (pM x71)<|sv (pN x71)<|cw (ZU.ln x71.Cases)<|r
 rcases aX h with⟨c72,h⟩|⟨c72,h⟩
 ·obtain rfl:=lf h
  exact ct A7 (p73<|sg 10 c72<|eF .normal (ru m n i k (decide (n<=4000))))<|by kernel_rfl
 ·obtain rfl:=lf h
  exact ct A7 (p73<|sg 10 c72<|eF .normal (ru m n i k false))<|by kernel_rfl
end
section
variable(m:aR)(i:Int)(n:Int)(k:Int)
def jv:az:=aW 303 [(1,.eptr (aC m)),(3,.int .i64 n),(9,.int .i64 i),(10,.int .i64 k)] [.dead] []
def rz(o:Int):az:=aW 303 [(1,.eptr (aC m)),(3,.int .i64 o),(9,.int .i64 i)] [.dead] []
def gM:Option ((Int×Int)⊕(Int)):=
 (qn m n i k).bind fun o74=>
 if o74=true then
  (cH m.Measures i).bind fun x77=>
  (cH x77.Cases k).bind fun x78=>
  (cH m.Measures i).bind fun x79=>
  (cH x79.Cases k).bind fun x80=>
  (ed ([x80.Body]:List aa) 4000).bind fun r81=>
  some (.inl (aO ((aO ((aO (n+1))+(x78.Names.length:Int)))+r81),aO (k+1)))
 else
  some (.inr n)
def vW:Option Int:=loop (fun(zz:Int×Int)=>gM m i zz.1 zz.2) (n,k)
theorem D9{y:(Int×Int)⊕(Int)}(h:gM m i n k=some y):aQ Pg GE 0 (cA b7 261087) (LQ (fun(zz:Int×Int)=>jv m i zz.1 zz.2) (fun _=>.exit 12) (rz m i) y) (jv m i n k):=by
 obtain⟨o74,bo74,h⟩:=aA h
 have p76:=fun{sc F} (r:PS sc F)=>oe 1<|di (FQ m n i k bo74)<|r
 rcases aX h with⟨c75,h⟩|⟨c75,h⟩
 ·obtain⟨x77,bx77,h⟩:=aA h
  obtain⟨x78,bx78,h⟩:=aA h
  obtain⟨x79,bx79,h⟩:=aA h
  obtain⟨x80,bx80,h⟩:=aA h
  obtain⟨r81,br81,h⟩:=aA h
  obtain rfl:=lf h
  exact rF A7 (p76<|sg 0 c75<|ra [0,1,0,4,0,28,60,124,0,508,1020,2044,4092,8191,0,16384,0,114688,245760,507904,0,2080768,4177920,8372224,16760832,33538048,67108863,134217727]<|sv (gQ m)<|sv (gR m)<|sv (UM.ia (k:=.i64) bx77)<|sv (pM x77)<|sv (pN x77)<|sv (ZU.ia (k:=.i64) bx78)<|sv (LF x78)<|sv (LY x78)<|cw (bR.ln x78.Names)<|sv (gQ m)<|sv (gR m)<|sv (UM.ia (k:=.i64) bx79)<|sv (pM x79)<|sv (pN x79)<|sv (ZU.ia (k:=.i64) bx80)<|sv (LG x80)<|sv (LZ x80)<|sv (cd.mk' (v:=ff) dl ([x80.Body]:List aa) 1 (by kernel_rfl))<|bP (ee br81)<|eF .normal (jv m i (aO ((aO ((aO (n+1))+(x78.Names.length:Int)))+r81)) (aO (k+1))))<|by kernel_rfl
 ·obtain rfl:=lf h
  have z:=p76<|sg 0 c75<|eF (.exit 12) (rz m i n)
  exact iW A7 (by intro hx;cases hx) z<|by kernel_rfl
theorem FW{x:Int}(h:vW m i n k=some x):aQ Pg GE 0 (.loop (cA b7 261087)) (EX (.exit 12) (rz m i x)) (jv m i n k):=
 aQ.loop (S:=fun(zz:Int×Int)=>jv m i zz.1 zz.2) (ex:=(fun _=>.exit 12)) (s:=(n,k)) h fun zz y hy=>D9 m i zz.1 zz.2 hy
end
section
variable(m:aR)(n:Int)(i:Int)
def jt:az:=aW 303 [(1,.eptr (aC m)),(3,.int .i64 n),(9,.int .i64 i)] [.dead] []
def ry(o:Int):az:=aW 303 [(1,.eptr (aC m)),(3,.int .i64 o)] [.dead] []
def gL:Option ((Int×Int)⊕(Int)):=
 (qm m n i).bind fun o66=>
 if o66=true then
  (cH m.Measures i).bind fun x69=>
  (ed ([x69.Inv]:List aa) 4000).bind fun r70=>
  (vW m i (aO ((aO (n+1))+r70)) 0).bind fun o82=>
  some (.inl (o82,aO (i+1)))
 else
  some (.inr n)
def vV:Option Int:=loop (fun(zz:Int×Int)=>gL m zz.1 zz.2) (n,i)
theorem D8{y:(Int×Int)⊕(Int)}(h:gL m n i=some y):aQ Pg GE 0 (cA b7 2039) (LQ (fun(zz:Int×Int)=>jt m zz.1 zz.2) (fun _=>.exit 10) (ry m) y) (jt m n i):=by
 obtain⟨o66,bo66,h⟩:=aA h
 have p68:=fun{sc F} (r:PS sc F)=>oe 1<|di (FP m n i bo66)<|r
 rcases aX h with⟨c67,h⟩|⟨c67,h⟩
 ·obtain⟨x69,bx69,h⟩:=aA h
  obtain⟨r70,br70,h⟩:=aA h
  obtain⟨o82,bo82,h⟩:=aA h
  obtain rfl:=lf h
  exact rF A7 (p68<|sg 0 c67<|sv (gQ m)<|sv (gR m)<|sv (UM.ia (k:=.i64) bx69)<|sv (Gd x69)<|sv (Gm x69)<|sv (cd.mk' (v:=ff) dl ([x69.Inv]:List aa) 1 (by kernel_rfl))<|bP (ee br70)<|di (FW m i (aO ((aO (n+1))+r70)) 0 bo82)<|eF .normal (jt m o82 (aO (i+1))))<|by kernel_rfl
 ·obtain rfl:=lf h
  have z:=p68<|sg 0 c67<|eF (.exit 10) (ry m n)
  exact iW A7 (by intro hx;cases hx) z<|by kernel_rfl
theorem FV{x:Int}(h:vV m n i=some x):aQ Pg GE 0 (.loop (cA b7 2039)) (EX (.exit 10) (ry m x)) (jt m n i):=
 aQ.loop (S:=fun(zz:Int×Int)=>jt m zz.1 zz.2) (ex:=(fun _=>.exit 10)) (s:=(n,i)) h fun zz y hy=>D8 m zz.1 zz.2 hy
end
section
variable(m:aR)(n:Int)(i:Int)
def HV:az:=aW 303 [(1,.eptr (aC m)),(3,.int .i64 n),(11,.int .i64 i)] [.dead] []
def rv(o:Bool):az:=aW 303 [(1,.eptr (aC m)),(3,.int .i64 n),(11,.int .i64 i),(279,.bool o)] [.dead] []
def qo:Option Bool:=
 if(decide (i<(m.Quals.length:Int)))=true then
  some (decide (n<=4000))
 else
  some false
theorem FT{x:Bool}(h:qo m n i=some x):aQ Pg GE 0 (cA b7 16348) (EX .normal (rv m n i x)) (HV m n i):=by
 have p85:=fun{sc F} (r:PS sc F)=>sv (nf m)<|sv (nj m)<|cw (Ye.ln m.Quals)<|r
 rcases aX h with⟨c84,h⟩|⟨c84,h⟩
 ·obtain rfl:=lf h
  exact ct A7 (p85<|sg 6 c84<|eF .normal (rv m n i (decide (n<=4000))))<|by kernel_rfl
 ·obtain rfl:=lf h
  exact ct A7 (p85<|sg 6 c84<|eF .normal (rv m n i false))<|by kernel_rfl
end
section
variable(m:aR)(n:Int)(i:Int)
def jw:az:=aW 303 [(1,.eptr (aC m)),(3,.int .i64 n),(11,.int .i64 i)] [.dead] []
def rB(o:Int):az:=aW 303 [(3,.int .i64 o)] [.dead] []
def gN:Option ((Int×Int)⊕(Int)):=
 (qo m n i).bind fun o86=>
 if o86=true then
  (cH m.Quals i).bind fun x89=>
  (cH m.Quals i).bind fun x90=>
  (ed ([x90.Body]:List aa) 4000).bind fun r91=>
  some (.inl (aO ((aO ((aO (n+1))+(x89.Vars.length:Int)))+r91),aO (i+1)))
 else
  some (.inr n)
def vX:Option Int:=loop (fun(zz:Int×Int)=>gN m zz.1 zz.2) (n,i)
theorem Ea{y:(Int×Int)⊕(Int)}(h:gN m n i=some y):aQ Pg GE 0 (cA b7 4087) (LQ (fun(zz:Int×Int)=>jw m zz.1 zz.2) (fun _=>.exit 14) rB y) (jw m n i):=by
 obtain⟨o86,bo86,h⟩:=aA h
 have p88:=fun{sc F} (r:PS sc F)=>oe 1<|di (FT m n i bo86)<|r
 rcases aX h with⟨c87,h⟩|⟨c87,h⟩
 ·obtain⟨x89,bx89,h⟩:=aA h
  obtain⟨x90,bx90,h⟩:=aA h
  obtain⟨r91,br91,h⟩:=aA h
  obtain rfl:=lf h
  exact rF A7 (p88<|sg 0 c87<|ra [0,1,0,4,0,28,60,124,252,511,0,1024,0,7168,15360,31744,64512,130048,262143,524287]<|sv (nf m)<|sv (nj m)<|sv (Ye.ia (k:=.i64) bx89)<|sv (LS x89)<|sv (L4 x89)<|cw (GN.ln x89.Vars)<|sv (nf m)<|sv (nj m)<|sv (Ye.ia (k:=.i64) bx90)<|sv (LT x90)<|sv (L5 x90)<|sv (cd.mk' (v:=ff) dl ([x90.Body]:List aa) 1 (by kernel_rfl))<|bP (ee br91)<|eF .normal (jw m (aO ((aO ((aO (n+1))+(x89.Vars.length:Int)))+r91)) (aO (i+1))))<|by kernel_rfl
 ·obtain rfl:=lf h
  have z:=p88<|sg 0 c87<|eF (.exit 14) (rB n)
  exact iW A7 (by intro hx;cases hx) z<|by kernel_rfl
theorem FX{x:Int}(h:vX m n i=some x):aQ Pg GE 0 (.loop (cA b7 4087)) (EX (.exit 14) (rB x)) (jw m n i):=
 aQ.loop (S:=fun(zz:Int×Int)=>jw m zz.1 zz.2) (ex:=(fun _=>.exit 14)) (s:=(n,i)) h fun zz y hy=>Ea m zz.1 zz.2 hy
end
def Bo(m:aR):Option Bool:=
 (xB m).bind fun o11=>
 if o11=true then
  some false
 else
  (mF m.Defs 4000).bind fun r14=>
  (xC m r14 0).bind fun o36=>
  (xE m o36 0).bind fun o52=>
  (vU m o52 0).bind fun o63=>
  (vV m o63 0).bind fun o83=>
  (vX m o83 0).bind fun o92=>
  some (decide (o92<=4000))
theorem NJ{m:aR}{r:Bool}(h:Bo m=some r):CC Pg GE 7 [.agg (aC m)] (.bool r) []:=by
 obtain⟨o11,bo11,h⟩:=aA h
 have p13:=fun{sc F} (r:PS sc F)=>se (tX m)<|oe 1<|di (HW m bo11)<|r
 rcases aX h with⟨c12,h⟩|⟨c12,h⟩
 ·obtain rfl:=lf h
  have z:=p13<|sg 0 c12<|en (aI (rP (.bool false))<|trivial)
  exact ck A7 call7 func7 (c:=b7) rfl (aI (ij m) trivial) z<|by kernel_rfl
 ·obtain⟨r14,br14,h⟩:=aA h
  obtain⟨o36,bo36,h⟩:=aA h
  obtain⟨o52,bo52,h⟩:=aA h
  obtain⟨o63,bo63,h⟩:=aA h
  obtain⟨o83,bo83,h⟩:=aA h
  obtain⟨o92,bo92,h⟩:=aA h
  obtain rfl:=lf h
  have z:=p13<|sg 0 c12<|sv (yI m)<|sv (yM m)<|bP (wz br14)<|di (H3 m r14 0 bo36)<|di (H5 m o36 0 bo52)<|di (FU m o52 0 bo63)<|di (FV m o63 0 bo83)<|di (FX m o83 0 bo92)<|en (aI (rP (.bool (decide (o92<=4000))))<|trivial)
  exact ck A7 call7 func7 (c:=b7) rfl (aI (ij m) trivial) z<|by kernel_rfl
abbrev tG:=(bH->Int->Option Int)
abbrev sZ(R:tG):Prop:=∀(e:bH) (most:Int) (r:Int),R e most=some r->CC Pg GE 30 [.agg (aN e),.int .i64 most] (.int .i64 r) []
abbrev uS:=(waC->Int->Option Int)
abbrev zj(R:uS):Prop:=∀(a:waC) (most:Int) (r:Int),R a most=some r->CC Pg GE 51 [sl af a,.int .i64 most] (.int .i64 r) []
abbrev uR:=(waA->Int->Option Int)
abbrev zi(R:uR):Prop:=∀(a:waA) (most:Int) (r:Int),R a most=some r->CC Pg GE 76 [sl ac a,.int .i64 most] (.int .i64 r) []
noncomputable def qbV:Code:=f76.body.getD .skip
def qaw:List Nat:=[39]
section
variable(v:waA)(most:Int)(n:Int)(i:Int)
def Jl:az:=aW 40 [(0,sl ac v),(1,.int .i64 most),(5,.int .i64 n),(6,.int .i64 i)] [] []
def tj(o:Bool):az:=aW 40 [(0,sl ac v),(1,.int .i64 most),(5,.int .i64 n),(6,.int .i64 i),(15,.bool o)] [] []
def sj:Option Bool:=
 if(decide (i<(v.length:Int)))=true then
  some (decide (n<=most))
 else
  some false
theorem HI{x:Bool}(h:sj v most n i=some x):aQ Pg GE 0 (cA qbV 476) (EX .normal (tj v most n i x)) (Jl v most n i):=by
 rcases aX h with⟨c1,h⟩|⟨c1,h⟩
 ·obtain rfl:=lf h
  exact ct qaw (cw (cd.ln v)<|sg 5 c1<|eF .normal (tj v most n i (decide (n<=most))))<|by kernel_rfl
 ·obtain rfl:=lf h
  exact ct qaw (cw (cd.ln v)<|sg 5 c1<|eF .normal (tj v most n i false))<|by kernel_rfl
end
section
variable(R10:uR)(v:waA)(most:Int)(n:Int)(i:Int)
def ku:az:=aW 40 [(0,sl ac v),(1,.int .i64 most),(5,.int .i64 n),(6,.int .i64 i)] [] []
def tk(o:Int):az:=aW 40 [(5,.int .i64 o)] [] []
def iG:Option ((Int×Int)⊕(Int)):=
 (sj v most n i).bind fun o2=>
 if o2=true then
  (cH v i).bind fun x5=>
  (qu .i64 (x5.Name.length:Int) 50).bind fun q6=>
  (cH v i).bind fun x7=>
  (R10 x7.Kids (aO (most - (aO ((aO (n+1))+q6))))).bind fun r8=>
  some (.inl (aO ((aO ((aO (n+1))+q6))+r8),aO (i+1)))
 else
  some (.inr n)
def xw:Option Int:=loop (fun(zz:Int×Int)=>iG R10 v most zz.1 zz.2) (n,i)
theorem FH(hR10:zi R10){y:(Int×Int)⊕(Int)}(h:iG R10 v most n i=some y):aQ Pg GE 0 (cA qbV 119) (LQ (fun(zz:Int×Int)=>ku v most zz.1 zz.2) (fun _=>.exit 0) tk y) (ku v most n i):=by
 obtain⟨o2,bo2,h⟩:=aA h
 have p4:=fun{sc F} (r:PS sc F)=>oe 1<|di (HI v most n i bo2)<|r
 rcases aX h with⟨c3,h⟩|⟨c3,h⟩
 ·obtain⟨x5,bx5,h⟩:=aA h
  obtain⟨q6,bq6,h⟩:=aA h
  obtain⟨x7,bx7,h⟩:=aA h
  obtain⟨r8,br8,h⟩:=aA h
  obtain rfl:=lf h
  exact rF qaw (p4<|sg 0 c3<|sv (cd.ia (k:=.i64) bx5)<|sv (cx x5)<|sv (cJ x5)<|cw (gG underlying9 x5.Name)<|sv (yG (P:=Pg) (t:=3) bq6)<|sv (cd.ia (k:=.i64) bx7)<|sv (bu x7)<|sv (bw x7)<|bP (hR10 _ _ _ br8)<|eF .normal (ku v most (aO ((aO ((aO (n+1))+q6))+r8)) (aO (i+1))))<|by kernel_rfl
 ·obtain rfl:=lf h
  have z:=p4<|sg 0 c3<|eF (.exit 0) (tk n)
  exact iW qaw (by intro hx;cases hx) z<|by kernel_rfl
theorem HJ(hR10:zi R10){x:Int}(h:xw R10 v most n i=some x):aQ Pg GE 0 (.loop (cA qbV 119)) (EX (.exit 0) (tk x)) (ku v most n i):=
 aQ.loop (S:=fun(zz:Int×Int)=>ku v most zz.1 zz.2) (ex:=(fun _=>.exit 0)) (s:=(n,i)) h fun zz y hy=>FH R10 v most zz.1 zz.2 hR10 hy
end
def uL(R10:uR)(a:waA)(most:Int):Option Int:=
 (xw R10 a most 0 0).bind fun o9=>
 some o9
theorem Ls(R10:uR)(hR10:zi R10){a:waA}{most:Int}{r:Int}(h:uL R10 a most=some r):CC Pg GE 76 [sl ac a,.int .i64 most] (.int .i64 r) []:=by
 obtain⟨o9,bo9,h⟩:=aA h
 obtain rfl:=lf h
 have z:=di (HJ R10 a most 0 0 hR10 bo9)<|en (aI (rP (.int .i64 o9))<|trivial)
 exact ck qaw call76 func76 (c:=qbV) rfl (aI (aq ah a) (aI trivial trivial)) z<|by kernel_rfl
def zU:((waA×Int)->Option Int)->(waA×Int)->Option Int:=fun(rec:(waA×Int)->Option Int) (x:waA×Int)=>uL (fun a most=>rec (a,most)) x.1 x.2
def FF(a:waA)(most:Int):Option Int:=oP zU (a,most)
theorem NH{a:waA}{most:Int}{r:Int}(h:FF a most=some r):CC Pg GE 76 [sl ac a,.int .i64 most] (.int .i64 r) []:=
 cR (F:=zU) (M:=fun(x:waA×Int) (r:Int)=>CC Pg GE 76 [sl ac x.1,.int .i64 x.2] (.int .i64 r) []) (fun rec hrec x r h=>Ls _ (fun a most r h=>hrec (a,most) r h) h) h
noncomputable def qbR:Code:=f51.body.getD .skip
def qat:List Nat:=[61]
section
variable(v:waC)(most:Int)(n:Int)(i:Int)
def Jm:az:=aW 62 [(0,sl af v),(1,.int .i64 most),(5,.int .i64 n),(6,.int .i64 i)] [] []
def tn(o:Bool):az:=aW 62 [(0,sl af v),(1,.int .i64 most),(5,.int .i64 n),(6,.int .i64 i),(15,.bool o)] [] []
def sk:Option Bool:=
 if(decide (i<(v.length:Int)))=true then
  some (decide (n<=most))
 else
  some false
theorem HK{x:Bool}(h:sk v most n i=some x):aQ Pg GE 0 (cA qbR 476) (EX .normal (tn v most n i x)) (Jm v most n i):=by
 rcases aX h with⟨c1,h⟩|⟨c1,h⟩
 ·obtain rfl:=lf h
  exact ct qat (cw (cQ.ln v)<|sg 5 c1<|eF .normal (tn v most n i (decide (n<=most))))<|by kernel_rfl
 ·obtain rfl:=lf h
  exact ct qat (cw (cQ.ln v)<|sg 5 c1<|eF .normal (tn v most n i false))<|by kernel_rfl
end
section
variable(R9:uS)(v:waC)(most:Int)(n:Int)(i:Int)
def kv:az:=aW 62 [(0,sl af v),(1,.int .i64 most),(5,.int .i64 n),(6,.int .i64 i)] [] []
def tp(o:Int):az:=aW 62 [(5,.int .i64 o)] [] []
def iH:Option ((Int×Int)⊕(Int)):=
 (sk v most n i).bind fun o2=>
 if o2=true then
  (cH v i).bind fun x5=>
  (qu .i64 (x5.Name.length:Int) 50).bind fun q6=>
  (cH v i).bind fun x7=>
  (cH v i).bind fun x8=>
  (cH v i).bind fun x9=>
  (app ([x8.Pred]:List aa) x9.Preds).bind fun l10=>
  (FF l10 most).bind fun r11=>
  (cH v i).bind fun x12=>
  (R9 x12.Args (aO (most - (aO ((aO ((aO ((aO (n+1))+q6))+(x7.Names.length:Int)))+r11))))).bind fun r13=>
  some (.inl (aO ((aO ((aO ((aO ((aO (n+1))+q6))+(x7.Names.length:Int)))+r11))+r13),aO (i+1)))
 else
  some (.inr n)
def xx:Option Int:=loop (fun(zz:Int×Int)=>iH R9 v most zz.1 zz.2) (n,i)
theorem FI(hR9:zj R9){y:(Int×Int)⊕(Int)}(h:iH R9 v most n i=some y):aQ Pg GE 0 (cA qbR 119) (LQ (fun(zz:Int×Int)=>kv v most zz.1 zz.2) (fun _=>.exit 0) tp y) (kv v most n i):=by
 obtain⟨o2,bo2,h⟩:=aA h
 have p4:=fun{sc F} (r:PS sc F)=>oe 1<|di (HK v most n i bo2)<|r
 rcases aX h with⟨c3,h⟩|⟨c3,h⟩
 ·obtain⟨x5,bx5,h⟩:=aA h
  obtain⟨q6,bq6,h⟩:=aA h
  obtain⟨x7,bx7,h⟩:=aA h
  obtain⟨x8,bx8,h⟩:=aA h
  obtain⟨x9,bx9,h⟩:=aA h
  obtain⟨l10,bl10,h⟩:=aA h
  obtain⟨r11,br11,h⟩:=aA h
  obtain⟨x12,bx12,h⟩:=aA h
  obtain⟨r13,br13,h⟩:=aA h
  obtain rfl:=lf h
  exact rF qat (p4<|sg 0 c3<|ra [0,1,0,0,12,28,60,124,252,511,0,0,3072,7168,15360,31744,65535,0,0,393216,917504,1966080,4063232,0,0,25165824,58720256,125829120,268304384,0,1073610752,2147483647,4294967295]<|sv (cQ.ia (k:=.i64) bx5)<|sv (df x5)<|sv (dz x5)<|cw (gG underlying9 x5.Name)<|sv (yG (P:=Pg) (t:=3) bq6)<|sv (cQ.ia (k:=.i64) bx7)<|sv (be x7)<|sv (bh x7)<|cw (bR.ln x7.Names)<|sv (cQ.ia (k:=.i64) bx8)<|sv (d9 x8)<|sv (ec x8)<|sv (cd.mk' (v:=ff) dl ([x8.Pred]:List aa) 1 (by kernel_rfl))<|sv (cQ.ia (k:=.i64) bx9)<|sv (dN x9)<|sv (dQ x9)<|sv (cd.ap bl10)<|bP (NH br11)<|sv (cQ.ia (k:=.i64) bx12)<|sv (aT x12)<|sv (aU x12)<|bP (hR9 _ _ _ br13)<|eF .normal (kv v most (aO ((aO ((aO ((aO ((aO (n+1))+q6))+(x7.Names.length:Int)))+r11))+r13)) (aO (i+1))))<|by kernel_rfl
 ·obtain rfl:=lf h
  have z:=p4<|sg 0 c3<|eF (.exit 0) (tp n)
  exact iW qat (by intro hx;cases hx) z<|by kernel_rfl
theorem HL(hR9:zj R9){x:Int}(h:xx R9 v most n i=some x):aQ Pg GE 0 (.loop (cA qbR 119)) (EX (.exit 0) (tp x)) (kv v most n i):=
 aQ.loop (S:=fun(zz:Int×Int)=>kv v most zz.1 zz.2) (ex:=(fun _=>.exit 0)) (s:=(n,i)) h fun zz y hy=>FI R9 v most zz.1 zz.2 hR9 hy
end
def uM(R9:uS)(a:waC)(most:Int):Option Int:=
 (xx R9 a most 0 0).bind fun o14=>
 some o14
theorem Lt(R9:uS)(hR9:zj R9){a:waC}{most:Int}{r:Int}(h:uM R9 a most=some r):CC Pg GE 51 [sl af a,.int .i64 most] (.int .i64 r) []:=by
 obtain⟨o14,bo14,h⟩:=aA h
 obtain rfl:=lf h
 have z:=di (HL R9 a most 0 0 hR9 bo14)<|en (aI (rP (.int .i64 o14))<|trivial)
 exact ck qat call51 func51 (c:=qbR) rfl (aI (aq av a) (aI trivial trivial)) z<|by kernel_rfl
def zV:((waC×Int)->Option Int)->(waC×Int)->Option Int:=fun(rec:(waC×Int)->Option Int) (x:waC×Int)=>uM (fun a most=>rec (a,most)) x.1 x.2
def Bn(a:waC)(most:Int):Option Int:=oP zV (a,most)
theorem D6{a:waC}{most:Int}{r:Int}(h:Bn a most=some r):CC Pg GE 51 [sl af a,.int .i64 most] (.int .i64 r) []:=
 cR (F:=zV) (M:=fun(x:waC×Int) (r:Int)=>CC Pg GE 51 [sl af x.1,.int .i64 x.2] (.int .i64 r) []) (fun rec hrec x r h=>Lt _ (fun a most r h=>hrec (a,most) r h) h) h
noncomputable def qbS:Code:=f52.body.getD .skip
def qau:List Nat:=[27]
section
variable(v:waB)(most:Int)(n:Int)(i:Int)
def Jk:az:=aW 28 [(0,sl cS v),(1,.int .i64 most),(5,.int .i64 n),(6,.int .i64 i)] [] []
def th(o:Bool):az:=aW 28 [(0,sl cS v),(1,.int .i64 most),(5,.int .i64 n),(6,.int .i64 i),(15,.bool o)] [] []
def D4:Option Bool:=
 if(decide (i<(v.length:Int)))=true then
  some (decide (n<=most))
 else
  some false
theorem HG{x:Bool}(h:D4 v most n i=some x):aQ Pg GE 0 (cA qbS 476) (EX .normal (th v most n i x)) (Jk v most n i):=by
 rcases aX h with⟨c1,h⟩|⟨c1,h⟩
 ·obtain rfl:=lf h
  exact ct qau (cw (bR.ln v)<|sg 5 c1<|eF .normal (th v most n i (decide (n<=most))))<|by kernel_rfl
 ·obtain rfl:=lf h
  exact ct qau (cw (bR.ln v)<|sg 5 c1<|eF .normal (th v most n i false))<|by kernel_rfl
end
section
variable(v:waB)(most:Int)(n:Int)(i:Int)
def kr:az:=aW 28 [(0,sl cS v),(1,.int .i64 most),(5,.int .i64 n),(6,.int .i64 i)] [] []
def ti(o:Int):az:=aW 28 [(5,.int .i64 o)] [] []
def zT:Option ((Int×Int)⊕(Int)):=
 (D4 v most n i).bind fun o2=>
 if o2=true then
  (cH v i).bind fun x5=>
  (qu .i64 (x5.length:Int) 50).bind fun q6=>
  some (.inl (aO ((aO (n+1))+q6),aO (i+1)))
 else
  some (.inr n)
def D5:Option Int:=loop (fun(zz:Int×Int)=>zT v most zz.1 zz.2) (n,i)
theorem FE{y:(Int×Int)⊕(Int)}(h:zT v most n i=some y):aQ Pg GE 0 (cA qbS 119) (LQ (fun(zz:Int×Int)=>kr v most zz.1 zz.2) (fun _=>.exit 0) ti y) (kr v most n i):=by
 obtain⟨o2,bo2,h⟩:=aA h
 have p4:=fun{sc F} (r:PS sc F)=>oe 1<|di (HG v most n i bo2)<|r
 rcases aX h with⟨c3,h⟩|⟨c3,h⟩
 ·obtain⟨x5,bx5,h⟩:=aA h
  obtain⟨q6,bq6,h⟩:=aA h
  obtain rfl:=lf h
  exact rF qau (p4<|sg 0 c3<|sv (bR.ia (k:=.i64) bx5)<|sv (iY Nd (.str x5) [])<|cw (gG underlying9 x5)<|sv (yG (P:=Pg) (t:=3) bq6)<|eF .normal (kr v most (aO ((aO (n+1))+q6)) (aO (i+1))))<|by kernel_rfl
 ·obtain rfl:=lf h
  have z:=p4<|sg 0 c3<|eF (.exit 0) (ti n)
  exact iW qau (by intro hx;cases hx) z<|by kernel_rfl
theorem HH{x:Int}(h:D5 v most n i=some x):aQ Pg GE 0 (.loop (cA qbS 119)) (EX (.exit 0) (ti x)) (kr v most n i):=
 aQ.loop (S:=fun(zz:Int×Int)=>kr v most zz.1 zz.2) (ex:=(fun _=>.exit 0)) (s:=(n,i)) h fun zz y hy=>FE v most zz.1 zz.2 hy
end
def Ml(a:waB)(most:Int):Option Int:=
 (D5 a most 0 0).bind fun o7=>
 some o7
theorem NG{a:waB}{most:Int}{r:Int}(h:Ml a most=some r):CC Pg GE 52 [sl cS a,.int .i64 most] (.int .i64 r) []:=by
 obtain⟨o7,bo7,h⟩:=aA h
 obtain rfl:=lf h
 have z:=di (HH a most 0 0 bo7)<|en (aI (rP (.int .i64 o7))<|trivial)
 exact ck qau call52 func52 (c:=qbS) rfl (aI (aq iu a) (aI trivial trivial)) z<|by kernel_rfl
end Go.Proofs.YtbaamopmfmpfaaaGreatDoor
