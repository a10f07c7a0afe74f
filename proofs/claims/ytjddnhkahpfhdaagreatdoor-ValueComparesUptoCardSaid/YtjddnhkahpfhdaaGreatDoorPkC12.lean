/- PROVED: a part of the proof. Conditions: none. -/
import Derived.Test.YtjddnhkahpfhdaaGreatDoorPkC11
set_option linter.unusedSimpArgs false
set_option linter.unusedVariables false
noncomputable section
namespace Go.Proofs.YtjddnhkahpfhdaaGreatDoor
open Go Go.Proofs.Tryz
set_option linter.unusedVariables false
set_option linter.defProp false
set_option maxRecDepth 100000
abbrev ji:=(waB->Int->Option Int)
abbrev kX(R:ji):Prop:=∀(a:waB) (most:Int),OV 30 [sl af a,.int .i64 most] (R a most) (λr=>.int .i64 r) []
abbrev jh:=(waD->Int->Option Int)
abbrev kW(R:jh):Prop:=∀(a:waD) (most:Int),OV 31 [sl aj a,.int .i64 most] (R a most) (λr=>.int .i64 r) []
noncomputable def Vr:Code:=f31.body.getD .skip
theorem Vh:ZF Pg [39] 31 f31 Vr:=zf call31 func31 rfl mixed
section
variable(v:waD)(most:Int)(n:Int)(i:Int)
def iI:Option Bool:=
 if decide (i<(v.length:Int))=true then
  some (decide (n<=most))
 else
  some false
theorem uh:OU 0 (cA Vr 476) (iI v most n i) .normal (λo=>[(15,.bool o)]) (cc 40 [(0,sl aj v),(1,.int .i64 most),(5,.int .i64 n),(6,.int .i64 i)] [] []):=Vh.j<|
 tf (λc1=>cE (my.ln v)<|tg 5 c1<|tE) λc1=>cE (my.ln v)<|tg 5 c1<|tE
end
section
variable(R5:jh)(v:waD)(most:Int)(n:Int)(i:Int)
def mO:az:=cc 40 [(0,sl aj v),(1,.int .i64 most),(5,.int .i64 n),(6,.int .i64 i)] [] []
def wj(o:Int):az:=cc 40 [(5,.int .i64 o)] [] []
def dI:Option ((Int×Int)⊕(Int)):=
 (iI v most n i).bind λo2=>
 if o2=true then
  (dn v i).bind λx4=>
  (qu .i64 (x4.Name.length:Int) 100).bind λq5=>
  (dn v i).bind λx6=>
  (R5 x6.Kids (bw (most - (bw ((bw (n+1))+q5))))).bind λr7=>
  some (.inl (bw ((bw ((bw (n+1))+q5))+r7),bw (i+1)))
 else
  some (.inr n)
def pg:Option Int:=loop (λ(zz:Int×Int)=>dI R5 v most zz.1 zz.2) (n,i)
theorem tq(hR5:kW R5):OL 0 (cA Vr 119) (dI R5 v most n i) (λ(zz:Int×Int)=>mO v most zz.1 zz.2) (λ_=>.exit 0) wj (mO v most n i):=Vh.l<|
 tb λo2 bo2=>tH 1<|eo (uh v most n i _ bo2)<|tF (tb λx4 bx4=>tb λq5 bq5=>tb λx6 bx6=>tb λr7 br7=>tv (my.ia (k:=.i64) bx4)<|tw (iR x4)<|cE (pU underlying9 x4.Name)<|tv (po (P:=Pg) (t:=3) bq5)<|tv (my.ia (k:=.i64) bx6)<|tw (gR x6)<|bV (hR5 _ _ _ br7)<|tE)<|tE
def ui(hR5:kW R5):=uO (s:=(n,i)) λzz=>tq R5 v most zz.1 zz.2 hR5
end
def je(R5:jh)(a:waD)(most:Int):Option Int:=
 (pg R5 a most 0 0).bind λo8=>
 some o8
theorem xf(R5:jh)(hR5:kW R5){a:waD}{most:Int}:OV 31 [sl aj a,.int .i64 most] (je R5 a most) (λr=>.int .i64 r) []:=Vh.v<|
 tb λo8 bo8=>eo (ui R5 a most 0 0 hR5 _ bo8)<|tE
def kY:((waD×Int)->Option Int)->(waD×Int)->Option Int:=λ(rec:(waD×Int)->Option Int) (x:waD×Int)=>je (λa most=>rec (a,most)) x.1 x.2
def dw(a:waD)(most:Int):Option Int:=oc kY (a,most)
theorem dy{a:waD}{most:Int}:OV 31 [sl aj a,.int .i64 most] (dw a most) (λr=>.int .i64 r) []:=pM λ_ h=>
 cV (F:=kY) (M:=λ(x:waD×Int) (r:Int)=>CC Pg GE 31 [sl aj x.1,.int .i64 x.2] (.int .i64 r) []) (λrec hrec x r h=>xf _ (λa most=>pM λr h=>hrec (a,most) r h) _ h) h
noncomputable def Vq:Code:=f30.body.getD .skip
theorem Vg:ZF Pg [63] 30 f30 Vq:=zf call30 func30 rfl mixed
section
variable(v:waB)(most:Int)(n:Int)(i:Int)
def iJ:Option Bool:=
 if decide (i<(v.length:Int))=true then
  some (decide (n<=most))
 else
  some false
theorem uj:OU 0 (cA Vq 476) (iJ v most n i) .normal (λo=>[(15,.bool o)]) (cc 64 [(0,sl af v),(1,.int .i64 most),(5,.int .i64 n),(6,.int .i64 i)] [] []):=Vg.j<|
 tf (λc1=>cE (fe.ln v)<|tg 5 c1<|tE) λc1=>cE (fe.ln v)<|tg 5 c1<|tE
end
section
variable(R4:ji)(v:waB)(most:Int)(n:Int)(i:Int)
def mP:az:=cc 64 [(0,sl af v),(1,.int .i64 most),(5,.int .i64 n),(6,.int .i64 i)] [] []
def wk(o:Int):az:=cc 64 [(5,.int .i64 o)] [] []
def dJ:Option ((Int×Int)⊕(Int)):=
 (iJ v most n i).bind λo2=>
 if o2=true then
  (dn v i).bind λx4=>
  (qu .i64 (x4.Name.length:Int) 100).bind λq5=>
  (dn v i).bind λx6=>
  (dn v i).bind λx7=>
  (dw x7.Preds most).bind λr8=>
  (dn v i).bind λx9=>
  (dw ([x9.Pred]:List ah) most).bind λr10=>
  (dn v i).bind λx11=>
  (R4 x11.Args (bw (most - (bw ((bw ((bw ((bw ((bw (n+1))+q5))+(x6.Names.length:Int)))+r8))+r10))))).bind λr12=>
  some (.inl (bw ((bw ((bw ((bw ((bw ((bw (n+1))+q5))+(x6.Names.length:Int)))+r8))+r10))+r12),bw (i+1)))
 else
  some (.inr n)
def ph:Option Int:=loop (λ(zz:Int×Int)=>dJ R4 v most zz.1 zz.2) (n,i)
theorem tt(hR4:kX R4):OL 0 (cA Vq 119) (dJ R4 v most n i) (λ(zz:Int×Int)=>mP v most zz.1 zz.2) (λ_=>.exit 0) wk (mP v most n i):=Vg.l<|
 tb λo2 bo2=>tH 1<|eo (uj v most n i _ bo2)<|tF (tb λx4 bx4=>tb λq5 bq5=>tb λx6 bx6=>tb λx7 bx7=>tb λr8 br8=>tb λx9 bx9=>tb λr10 br10=>tb λx11 bx11=>tb λr12 br12=>tK [0,1,0,0,12,28,60,124,252,511,0,0,3072,7168,15360,31744,65535,0,0,393216,917504,1966080,0,8257536,16777215,0,0,100663296,234881024,503316480,1040187392,0,4278059008,8589934591,17179869183]<|tv (fe.ia (k:=.i64) bx4)<|tw (cz x4)<|cE (pU underlying9 x4.Name)<|tv (po (P:=Pg) (t:=3) bq5)<|tv (fe.ia (k:=.i64) bx6)<|tw (gS x6)<|cE (qO.ln x6.Names)<|tv (fe.ia (k:=.i64) bx7)<|tw (gU x7)<|bV (dy _ br8)<|tv (fe.ia (k:=.i64) bx9)<|tw (gT x9)<|tv (my.mk' (v:=sw) nK ([x9.Pred]:List ah) 1 (by kernel_rfl))<|bV (dy _ br10)<|tv (fe.ia (k:=.i64) bx11)<|tw (bo x11)<|bV (hR4 _ _ _ br12)<|tE)<|tE
def uk(hR4:kX R4):=uO (s:=(n,i)) λzz=>tt R4 v most zz.1 zz.2 hR4
end
def jf(R4:ji)(a:waB)(most:Int):Option Int:=
 (ph R4 a most 0 0).bind λo13=>
 some o13
theorem xg(R4:ji)(hR4:kX R4){a:waB}{most:Int}:OV 30 [sl af a,.int .i64 most] (jf R4 a most) (λr=>.int .i64 r) []:=Vg.v<|
 tb λo13 bo13=>eo (uk R4 a most 0 0 hR4 _ bo13)<|tE
def kZ:((waB×Int)->Option Int)->(waB×Int)->Option Int:=λ(rec:(waB×Int)->Option Int) (x:waB×Int)=>jf (λa most=>rec (a,most)) x.1 x.2
def er(a:waB)(most:Int):Option Int:=oc kZ (a,most)
theorem eA{a:waB}{most:Int}:OV 30 [sl af a,.int .i64 most] (er a most) (λr=>.int .i64 r) []:=pM λ_ h=>
 cV (F:=kZ) (M:=λ(x:waB×Int) (r:Int)=>CC Pg GE 30 [sl af x.1,.int .i64 x.2] (.int .i64 r) []) (λrec hrec x r h=>xg _ (λa most=>pM λr h=>hrec (a,most) r h) _ h) h
abbrev lT:=(al->Int->Option Int)
abbrev lS(R:lT):Prop:=∀(e:al) (most:Int),OV 70 [.agg (ak e),.int .i64 most] (R e most) (λr=>.int .i64 r) []
noncomputable def Sm:Code:=f70.body.getD .skip
theorem Sb:ZF Pg [107] 70 f70 Sm:=zf call70 func70 rfl mixed
section
variable(most:Int)(e:al)(n:Int)(i:Int)
def mV:Option Bool:=
 if decide (i<(e.Params.length:Int))=true then
  some (decide (n<=most))
 else
  some false
theorem BU:OU 0 (cA Sm 476) (mV most e n i) .normal (λo=>[(28,.bool o)]) (cc 108 [(1,.int .i64 most),(2,.eptr (ak e)),(5,.int .i64 n),(6,.int .i64 i)] [.dead] []):=Sb.j<|
 have pp4:=λ{X Y Z} (r:PV _ X Y Z)=>tw (cH e)<|cE (En.ln e.Params)<|r;tf (λc3=>pp4<|tg 6 c3<|tE) λc3=>pp4<|tg 6 c3<|tE
end
section
variable(most:Int)(e:al)(n:Int)(i:Int)
def tX:az:=cc 108 [(1,.int .i64 most),(2,.eptr (ak e)),(5,.int .i64 n),(6,.int .i64 i)] [.dead] []
def C1(o:Int):az:=cc 108 [(1,.int .i64 most),(2,.eptr (ak e)),(5,.int .i64 o)] [.dead] []
def gj:Option ((Int×Int)⊕(Int)):=
 (mV most e n i).bind λo5=>
 if o5=true then
  (dn e.Params i).bind λx7=>
  (qu .i64 (x7.Name.length:Int) 100).bind λq8=>
  (dn e.Params i).bind λx9=>
  (er ([x9.Type_]:List ae) most).bind λr10=>
  some (.inl (bw ((bw ((bw (n+1))+q8))+r10),bw (i+1)))
 else
  some (.inr n)
def yk:Option Int:=loop (λ(zz:Int×Int)=>gj most e zz.1 zz.2) (n,i)
theorem zQ:OL 0 (cA Sm 119) (gj most e n i) (λ(zz:Int×Int)=>tX most e zz.1 zz.2) (λ_=>.exit 0) (C1 most e) (tX most e n i):=Sb.l<|
 tb λo5 bo5=>tH 1<|eo (BU most e n i _ bo5)<|tF (tb λx7 bx7=>tb λq8 bq8=>tb λx9 bx9=>tb λr10 br10=>tK [0,1,0,4,0,28,60,124,252,508,1023,0,2048,0,14336,30720,63488,129024,0,522240,1048575,2097151]<|tw (cH e)<|tv (En.ia (k:=.i64) bx7)<|tw (gQ x7)<|cE (pU underlying9 x7.Name)<|tv (po (P:=Pg) (t:=3) bq8)<|tw (cH e)<|tv (En.ia (k:=.i64) bx9)<|tw (gb x9)<|tv (fe.mk' (v:=pX) ll ([x9.Type_]:List ae) 1 (by kernel_rfl))<|bV (eA _ br10)<|tE)<|tE
def BX:=uO (s:=(n,i)) λzz=>zQ most e zz.1 zz.2
end
section
variable(most:Int)(e:al)(n:Int)(i:Int)
def mW:Option Bool:=
 if decide (i<(e.Kids.length:Int))=true then
  some (decide (n<=most))
 else
  some false
theorem BV:OU 0 (cA Sm 988) (mW most e n i) .normal (λo=>[(61,.bool o)]) (cc 108 [(1,.int .i64 most),(2,.eptr (ak e)),(5,.int .i64 n),(7,.int .i64 i)] [.dead] []):=Sb.j<|
 have pp13:=λ{X Y Z} (r:PV _ X Y Z)=>tw (eb e)<|cE (zb.ln e.Kids)<|r;tf (λc12=>pp13<|tg 6 c12<|tE) λc12=>pp13<|tg 6 c12<|tE
end
section
variable(R6:lT)(most:Int)(e:al)(n:Int)(i:Int)
def tY:az:=cc 108 [(1,.int .i64 most),(2,.eptr (ak e)),(5,.int .i64 n),(7,.int .i64 i)] [.dead] []
def C2(o:Int):az:=cc 108 [(1,.int .i64 most),(2,.eptr (ak e)),(5,.int .i64 o)] [.dead] []
def gm:Option ((Int×Int)⊕(Int)):=
 (mW most e n i).bind λo14=>
 if o14=true then
  (dn e.Kids i).bind λx16=>
  (R6 x16 (bw (most - n))).bind λr17=>
  some (.inl (bw (n+r17),bw (i+1)))
 else
  some (.inr n)
def yl:Option Int:=loop (λ(zz:Int×Int)=>gm R6 most e zz.1 zz.2) (n,i)
theorem zR(hR6:lS R6):OL 0 (cA Sm 247) (gm R6 most e n i) (λ(zz:Int×Int)=>tY most e zz.1 zz.2) (λ_=>.exit 2) (C2 most e) (tY most e n i):=Sb.l<|
 tb λo14 bo14=>tH 1<|eo (BV most e n i _ bo14)<|tF (tb λx16 bx16=>tb λr17 br17=>tw (eb e)<|tv (zb.ia (k:=.i64) bx16)<|tv (uK x16)<|bV (hR6 _ _ _ br17)<|tE)<|tE
def BY(hR6:lS R6):=uO (s:=(n,i)) λzz=>zR R6 most e zz.1 zz.2 hR6
end
section
variable(most:Int)(e:al)(n:Int)(i:Int)
def mX:Option Bool:=
 if decide (i<(e.Alts.length:Int))=true then
  some (decide (n<=most))
 else
  some false
theorem BW:OU 0 (cA Sm 2012) (mX most e n i) .normal (λo=>[(84,.bool o)]) (cc 108 [(1,.int .i64 most),(2,.eptr (ak e)),(5,.int .i64 n),(8,.int .i64 i)] [.dead] []):=Sb.j<|
 have pp20:=λ{X Y Z} (r:PV _ X Y Z)=>tw (ct e)<|cE (Cm.ln e.Alts)<|r;tf (λc19=>pp20<|tg 6 c19<|tE) λc19=>pp20<|tg 6 c19<|tE
end
section
variable(R6:lT)(most:Int)(e:al)(n:Int)(i:Int)
def tZ:az:=cc 108 [(1,.int .i64 most),(2,.eptr (ak e)),(5,.int .i64 n),(8,.int .i64 i)] [.dead] []
def C3(o:Int):az:=cc 108 [(5,.int .i64 o)] [.dead] []
def gn:Option ((Int×Int)⊕(Int)):=
 (mX most e n i).bind λo21=>
 if o21=true then
  (dn e.Alts i).bind λx23=>
  (dn e.Alts i).bind λx24=>
  (R6 x24.Body (bw (most - n))).bind λr25=>
  some (.inl (bw ((bw (n+(x23.Names.length:Int)))+r25),bw (i+1)))
 else
  some (.inr n)
def ym:Option Int:=loop (λ(zz:Int×Int)=>gn R6 most e zz.1 zz.2) (n,i)
theorem zS(hR6:lS R6):OL 0 (cA Sm 503) (gn R6 most e n i) (λ(zz:Int×Int)=>tZ most e zz.1 zz.2) (λ_=>.exit 4) C3 (tZ most e n i):=Sb.l<|
 tb λo21 bo21=>tH 1<|eo (BW most e n i _ bo21)<|tF (tb λx23 bx23=>tb λx24 bx24=>tb λr25 br25=>tK [0,0,2,0,14,30,62,126,255,0,512,0,3584,7680,15872,0,0,98304,261632,524287,1048575]<|tw (ct e)<|tv (Cm.ia (k:=.i64) bx23)<|tw (iO x23)<|cE (qO.ln x23.Names)<|tw (ct e)<|tv (Cm.ia (k:=.i64) bx24)<|tw (iP x24)<|bV (hR6 _ _ _ br25)<|tE)<|tE
def BZ(hR6:lS R6):=uO (s:=(n,i)) λzz=>zS R6 most e zz.1 zz.2 hR6
end
def pf(R6:lT)(e:al)(most:Int):Option Int:=
 (qu .i64 (e.Name.length:Int) 100).bind λq1=>
 (er e.Types most).bind λr2=>
 (yk most e (bw ((bw (1+q1))+r2)) 0).bind λo11=>
 (yl R6 most e o11 0).bind λo18=>
 (ym R6 most e o18 0).bind λo26=>
 some o26
theorem EV(R6:lT)(hR6:lS R6){e:al}{most:Int}:OV 70 [.agg (ak e),.int .i64 most] (pf R6 e most) (λr=>.int .i64 r) []:=Sb.v<|
 tb λq1 bq1=>tb λr2 br2=>tb λo11 bo11=>tb λo18 bo18=>tb λo26 bo26=>te (y0 e)<|tK [0,1,3,7,15,0,32,0,224,511,1023]<|tw (iQ e)<|cE (pU underlying9 e.Name)<|tv (po (P:=Pg) (t:=3) bq1)<|tw (gP e)<|bV (eA _ br2)<|eo (BX most e (bw ((bw (1+q1))+r2)) 0 _ bo11)<|eo (BY R6 most e o11 0 hR6 _ bo18)<|eo (BZ R6 most e o18 0 hR6 _ bo26)<|tE
def tW:((al×Int)->Option Int)->(al×Int)->Option Int:=λ(rec:(al×Int)->Option Int) (x:al×Int)=>pf (λe most=>rec (e,most)) x.1 x.2
def zP(e:al)(most:Int):Option Int:=oc tW (e,most)
theorem G7{e:al}{most:Int}:OV 70 [.agg (ak e),.int .i64 most] (zP e most) (λr=>.int .i64 r) []:=pM λ_ h=>
 cV (F:=tW) (M:=λ(x:al×Int) (r:Int)=>CC Pg GE 70 [.agg (ak x.1),.int .i64 x.2] (.int .i64 r) []) (λrec hrec x r h=>EV _ (λe most=>pM λr h=>hrec (e,most) r h) _ h) h
noncomputable def TL:Code:=f29.body.getD .skip
theorem TH:ZF Pg [112] 29 f29 TL:=zf call29 func29 rfl mixed
section
variable(v:waH)(most:Int)(n:Int)(i:Int)
def jc:Option Bool:=
 if decide (i<(v.length:Int))=true then
  some (decide (n<=most))
 else
  some false
theorem wd:OU 0 (cA TL 476) (jc v most n i) .normal (λo=>[(17,.bool o)]) (cc 113 [(0,sl bI v),(1,.int .i64 most),(5,.int .i64 n),(6,.int .i64 i)] [] []):=TH.j<|
 tf (λc1=>cE (Li.ln v)<|tg 5 c1<|tE) λc1=>cE (Li.ln v)<|tg 5 c1<|tE
end
section
variable(v:waH)(most:Int)(n:Int)(i:Int)(k:Int)(m:waC)(m2:(List vw))(m3:(List FK))(m4:(List kT))(m5:Int)(m6:ai)(m7:waB)(m8:waC)(m9:Int)(m10:ai)(m11:Int)(m12:waD)(m13:waD)(m14:waD)
def jd:Option Bool:=
 if decide (k<(m4.length:Int))=true then
  some (decide (n<=most))
 else
  some false
theorem we:OU 0 (cA TL 245212) (jd most n k m4) .normal (λo=>[(74,.bool o)]) (cc 113 [(0,sl bI v),(1,.int .i64 most),(5,.int .i64 n),(6,.int .i64 i),(7,.bptr 0 0),(8,.int .i64 k)] [.cells [sl cS m,sl fP m2,sl kB m3,sl bZ m4,.int .i64 m5,.str m6,sl af m7,sl cS m8,.int .i64 m9,.str m10,.int .i64 m11,sl aj m12,sl aj m13,sl aj m14] []] []):=TH.j<|
 have pp11:=λ{X Y Z} (r:PV _ X Y Z)=>ts<|cE (Mk.ln m4)<|r;tf (λc10=>pp11<|tg 6 c10<|tE) λc10=>pp11<|tg 6 c10<|tE
end
section
variable(v:waH)(most:Int)(i:Int)(m:waC)(m2:(List vw))(m3:(List FK))(m4:(List kT))(m5:Int)(m6:ai)(m7:waB)(m8:waC)(m9:Int)(m10:ai)(m11:Int)(m12:waD)(m13:waD)(m14:waD)(n:Int)(k:Int)
def nR:az:=cc 113 [(0,sl bI v),(1,.int .i64 most),(5,.int .i64 n),(6,.int .i64 i),(7,.bptr 0 0),(8,.int .i64 k)] [.cells [sl cS m,sl fP m2,sl kB m3,sl bZ m4,.int .i64 m5,.str m6,sl af m7,sl cS m8,.int .i64 m9,.str m10,.int .i64 m11,sl aj m12,sl aj m13,sl aj m14] []] []
def xe(o:Int):az:=cc 113 [(0,sl bI v),(1,.int .i64 most),(5,.int .i64 o),(6,.int .i64 i)] [.cells [sl cS m,sl fP m2,sl kB m3,sl bZ m4,.int .i64 m5,.str m6,sl af m7,sl cS m8,.int .i64 m9,.str m10,.int .i64 m11,sl aj m12,sl aj m13,sl aj m14] []] []
def dZ:Option ((Int×Int)⊕(Int)):=
 (jd most n k m4).bind λo12=>
 if o12=true then
  (dn m4 k).bind λx14=>
  (dn m4 k).bind λx15=>
  (dn m4 k).bind λx16=>
  (dw ([x15.Hyp,x16.Goal]:List ah) most).bind λr17=>
  some (.inl (bw ((bw ((bw (n+1))+(x14.Vars.length:Int)))+r17),bw (k+1)))
 else
  some (.inr n)
def qr:Option Int:=loop (λ(zz:Int×Int)=>dZ most m4 zz.1 zz.2) (n,k)
theorem ug:OL 0 (cA TL 61303) (dZ most m4 n k) (λ(zz:Int×Int)=>nR v most i m m2 m3 m4 m5 m6 m7 m8 m9 m10 m11 m12 m13 m14 zz.1 zz.2) (λ_=>.exit 2) (xe v most i m m2 m3 m4 m5 m6 m7 m8 m9 m10 m11 m12 m13 m14) (nR v most i m m2 m3 m4 m5 m6 m7 m8 m9 m10 m11 m12 m13 m14 n k):=TH.l<|
 tb λo12 bo12=>tH 1<|eo (we v most n i k m m2 m3 m4 m5 m6 m7 m8 m9 m10 m11 m12 m13 m14 _ bo12)<|tF (tb λx14 bx14=>tb λx15 bx15=>tb λx16 bx16=>tb λr17 br17=>tK [0,1,0,4,0,28,60,124,252,511,0,1024,0,7168,15360,31744,0,65536,0,458752,983040,2031616,4193280,0,16776192,33554431,67108863]<|ts<|tv (Mk.ia (k:=.i64) bx14)<|tw (uB x14)<|cE (S8.ln x14.Vars)<|ts<|tv (Mk.ia (k:=.i64) bx15)<|tw (uC x15)<|ts<|tv (Mk.ia (k:=.i64) bx16)<|tw (uD x16)<|tv (my.mk' (v:=sw) nK ([x15.Hyp,x16.Goal]:List ah) 2 (by kernel_rfl))<|bV (dy _ br17)<|tE)<|tE
def wh:=uO (s:=(n,k)) λzz=>ug v most i m m2 m3 m4 m5 m6 m7 m8 m9 m10 m11 m12 m13 m14 zz.1 zz.2
end
section
variable(v:waH)(most:Int)(n:Int)(i:Int)
def ka:az:=cc 113 [(0,sl bI v),(1,.int .i64 most),(5,.int .i64 n),(6,.int .i64 i)] [] []
def nQ(o:Int):az:=cc 113 [(5,.int .i64 o)] [] []
instance iS_R23_countDefs_L1:KS 0 (ka v most n i):=ks 0 rfl
instance iO_R23_countDefs_L1{o:Int}:KS 0 (nQ o):=ks 0 rfl
def dY:Option ((Int×Int)⊕(Int)):=
 (jc v most n i).bind λo2=>
 if o2=true then
  (dn v i).bind λx4=>
  (dn v i).bind λx5=>
  (qu .i64 (x5.Name.length:Int) 100).bind λq6=>
  (dn v i).bind λx7=>
  (er ([x4.Sig.Type_]:List ae) most).bind λr8=>
  (dw x4.Sig.Metric most).bind λr9=>
  (qr most x4.Sig.Bounds (bw ((bw ((bw ((bw ((bw ((bw ((bw ((bw (n+1))+q6))+(x7.Params.length:Int)))+(x4.Sig.Vars.length:Int)))+(x4.Sig.Needs.length:Int)))+(x4.Sig.Abs.length:Int)))+r8))+r9)) 0).bind λo18=>
  (dn v i).bind λx19=>
  (zP x19.Body most).bind λr20=>
  some (.inl (bw (o18+r20),bw (i+1)))
 else
  some (.inr n)
def qq:Option Int:=loop (λ(zz:Int×Int)=>dY v most zz.1 zz.2) (n,i)
theorem uf:OL 0 (cA TL 119) (dY v most n i) (λ(zz:Int×Int)=>ka v most zz.1 zz.2) (λ_=>.exit 0) nQ (ka v most n i):=TH.lx<|
 tb λo2 bo2=>tH 1<|eo (wd v most n i _ bo2)<|tF (tb λx4 bx4=>tb λx5 bx5=>tb λq6 bq6=>tb λx7 bx7=>tb λr8 br8=>tb λr9 br9=>tb λo18 bo18=>tb λx19 bx19=>tb λr20 br20=>tv (Li.ia (k:=.i64) bx4)<|tw (uE x4)<|tx Ut<|tx (PC x4.Sig)<|tK [0,1,0,0,12,28,60,124,252,511,0,0,3072,7168,15360,31744,65535,0,131072,393216,1048575,0,2097152,6291456,16777215,0,33554432,100663296,268435455,0,536870912,1610612736,0,8053063680,17179869183,0,34359738368,0,257161166848,549755813887,1099511627775]<|tv (Li.ia (k:=.i64) bx5)<|tw (yN x5)<|cE (pU underlying9 x5.Name)<|tv (po (P:=Pg) (t:=3) bq6)<|tv (Li.ia (k:=.i64) bx7)<|tw (xt x7)<|cE (qO.ln x7.Params)<|ts<|cE (qO.ln x4.Sig.Vars)<|ts<|cE (UG.ln x4.Sig.Needs)<|ts<|cE (UE.ln x4.Sig.Abs)<|tv (fH x4.Sig.Type_ [sl aj x4.Sig.Metric])<|tv (fe.mk' (v:=pX) ll ([x4.Sig.Type_]:List ae) 1 (by kernel_rfl))<|bV (eA _ br8)<|ts<|bV (dy _ br9)<|eo (wh v most i x4.Sig.Vars x4.Sig.Needs x4.Sig.Abs x4.Sig.Bounds x4.Sig.Type_.Op x4.Sig.Type_.Name x4.Sig.Type_.Args x4.Sig.Type_.Names x4.Sig.Type_.Pred.Op x4.Sig.Type_.Pred.Name x4.Sig.Type_.Pred.N x4.Sig.Type_.Pred.Kids x4.Sig.Type_.Preds x4.Sig.Metric (bw ((bw ((bw ((bw ((bw ((bw ((bw ((bw (n+1))+q6))+(x7.Params.length:Int)))+(x4.Sig.Vars.length:Int)))+(x4.Sig.Needs.length:Int)))+(x4.Sig.Abs.length:Int)))+r8))+r9)) 0 _ bo18)<|tv (Li.ia (k:=.i64) bx19)<|tw (xu x19)<|bV (G7 _ br20)<|tE)<|tE
def wg:=uO (s:=(n,i)) λzz=>uf v most zz.1 zz.2
end
def jH(a:waH)(most:Int):Option Int:=
 (qq a most 0 0).bind λo21=>
 some o21
theorem qt{a:waH}{most:Int}:OV 29 [sl bI a,.int .i64 most] (jH a most) (λr=>.int .i64 r) []:=TH.v<|
 tb λo21 bo21=>eo (wg a most 0 0 _ bo21)<|tE
noncomputable def b7:Code:=Tryz.f7.body.getD .skip
theorem Z7:ZF Pg [] 7 Tryz.f7 b7:=zf call7 func7 rfl mixed
section
variable(m:am)
def rz:Option Bool:=
 if decide ((m.Datas.length:Int)>80)=true then
  some true
 else if decide ((m.Classes.length:Int)>80)=true then
  some true
 else if decide ((m.Instances.length:Int)>80)=true then
  some true
 else if decide ((m.Measures.length:Int)>80)=true then
  some true
 else if decide ((m.Quals.length:Int)>80)=true then
  some true
 else
  some (decide ((m.Defs.length:Int)>80))
theorem B3:OU 0 (cA b7 12) (rz m) .normal (λo=>[(45,.bool o)]) (cc 303 [(1,.eptr (aq m))] [.dead] []):=Z7.j<|
 have pp2:=λ{X Y Z} (r:PV _ X Y Z)=>tw (bO m)<|cE (AQ.ln m.Datas)<|r;tf (λc1=>pp2<|tg 5 c1<|tE) λc1=>have pp4:=λ{X Y Z} (r:PV _ X Y Z)=>pp2<|tg 5 c1<|tw (fQ m)<|cE (Rt.ln m.Classes)<|r;tf (λc3=>pp4<|tg 11 c3<|tE) λc3=>have pp6:=λ{X Y Z} (r:PV _ X Y Z)=>pp4<|tg 11 c3<|tw (eu m)<|cE (PU.ln m.Instances)<|r;tf (λc5=>pp6<|tg 17 c5<|tE) λc5=>have pp8:=λ{X Y Z} (r:PV _ X Y Z)=>pp6<|tg 17 c5<|tw (dm m)<|cE (NG.ln m.Measures)<|r;tf (λc7=>pp8<|tg 23 c7<|tE) λc7=>have pp10:=λ{X Y Z} (r:PV _ X Y Z)=>pp8<|tg 23 c7<|tw (fR m)<|cE (Ru.ln m.Quals)<|r;tf (λc9=>pp10<|tg 29 c9<|tE) λc9=>pp10<|tg 29 c9<|tw (mg m)<|cE (Li.ln m.Defs)<|tE
end
section
variable(m:am)(n:Int)(i:Int)
def mY:Option Bool:=
 if decide (i<(m.Datas.length:Int))=true then
  some (decide (n<=4000))
 else
  some false
theorem B4:OU 0 (cA b7 988) (mY m n i) .normal (λo=>[(57,.bool o)]) (cc 303 [(1,.eptr (aq m)),(3,.int .i64 n),(4,.int .i64 i)] [.dead] []):=Z7.j<|
 have pp15:=λ{X Y Z} (r:PV _ X Y Z)=>tw (bO m)<|cE (AQ.ln m.Datas)<|r;tf (λc14=>pp15<|tg 6 c14<|tE) λc14=>pp15<|tg 6 c14<|tE
end
section
variable(m:am)(n:Int)(i:Int)(k:Int)
def mZ:Option Bool:=
 (dn m.Datas i).bind λx22=>
 if decide (k<(x22.Cons.length:Int))=true then
  some (decide (n<=4000))
 else
  some false
theorem B5:OU 0 (cA b7 126844) (mZ m n i k) .normal (λo=>[(99,.bool o)]) (cc 303 [(1,.eptr (aq m)),(3,.int .i64 n),(4,.int .i64 i),(5,.int .i64 k)] [.dead] []):=Z7.j<|
 tb λx22 bx22=>have pp24:=λ{X Y Z} (r:PV _ X Y Z)=>tw (bO m)<|tv (AQ.ia (k:=.i64) bx22)<|tw (ke x22)<|cE (Im.ln x22.Cons)<|r;tf (λc23=>pp24<|tg 10 c23<|tE) λc23=>pp24<|tg 10 c23<|tE
end
section
variable(m:am)(i:Int)(n:Int)(k:Int)
def ub:az:=cc 303 [(1,.eptr (aq m)),(3,.int .i64 n),(4,.int .i64 i),(5,.int .i64 k)] [.dead] []
def C5(o:Int):az:=cc 303 [(1,.eptr (aq m)),(3,.int .i64 o),(4,.int .i64 i)] [.dead] []
def gq:Option ((Int×Int)⊕(Int)):=
 (mZ m n i k).bind λo25=>
 if o25=true then
  (dn m.Datas i).bind λx27=>
  (dn x27.Cons k).bind λx28=>
  (dn m.Datas i).bind λx29=>
  (dn x29.Cons k).bind λx30=>
  (er x30.Fields 4000).bind λr31=>
  some (.inl (bw ((bw ((bw (n+1))+(x28.Names.length:Int)))+r31),bw (k+1)))
 else
  some (.inr n)
def yt:Option Int:=loop (λ(zz:Int×Int)=>gq m i zz.1 zz.2) (n,k)
theorem z8:OL 0 (cA b7 31711) (gq m i n k) (λ(zz:Int×Int)=>ub m i zz.1 zz.2) (λ_=>.exit 2) (C5 m i) (ub m i n k):=Z7.l<|
 tb λo25 bo25=>tH 1<|eo (B5 m n i k _ bo25)<|tF (tb λx27 bx27=>tb λx28 bx28=>tb λx29 bx29=>tb λx30 bx30=>tb λr31 br31=>tK [0,1,0,4,0,28,60,124,0,508,1020,2044,4092,8191,0,16384,0,114688,245760,507904,0,2080768,4177920,8372224,16760832,33554431,67108863]<|tw (bO m)<|tv (AQ.ia (k:=.i64) bx27)<|tw (ke x27)<|tv (Im.ia (k:=.i64) bx28)<|tw (yL x28)<|cE (qO.ln x28.Names)<|tw (bO m)<|tv (AQ.ia (k:=.i64) bx29)<|tw (ke x29)<|tv (Im.ia (k:=.i64) bx30)<|tw (pz x30)<|bV (eA _ br31)<|tE)<|tE
def Cd:=uO (s:=(n,k)) λzz=>z8 m i zz.1 zz.2
end
section
variable(m:am)(n:Int)(i:Int)
def ua:az:=cc 303 [(1,.eptr (aq m)),(3,.int .i64 n),(4,.int .i64 i)] [.dead] []
def C4(o:Int):az:=cc 303 [(1,.eptr (aq m)),(3,.int .i64 o)] [.dead] []
def gp:Option ((Int×Int)⊕(Int)):=
 (mY m n i).bind λo16=>
 if o16=true then
  (dn m.Datas i).bind λx18=>
  (qu .i64 (x18.Name.length:Int) 100).bind λq19=>
  (dn m.Datas i).bind λx20=>
  (dn m.Datas i).bind λx21=>
  (yt m i (bw ((bw ((bw ((bw (n+1))+q19))+(x20.Vars.length:Int)))+(x21.Preds.length:Int))) 0).bind λo32=>
  some (.inl (o32,bw (i+1)))
 else
  some (.inr n)
def yr:Option Int:=loop (λ(zz:Int×Int)=>gp m zz.1 zz.2) (n,i)
theorem z7:OL 0 (cA b7 247) (gp m n i) (λ(zz:Int×Int)=>ua m zz.1 zz.2) (λ_=>.exit 0) (C4 m) (ua m n i):=Z7.l<|
 tb λo16 bo16=>tH 1<|eo (B4 m n i _ bo16)<|tF (tb λx18 bx18=>tb λq19 bq19=>tb λx20 bx20=>tb λx21 bx21=>tb λo32 bo32=>tK [0,1,0,4,0,28,60,124,252,508,1023,0,2048,0,14336,30720,63488,129024,262143,0,524288,0,3670016,7864320,16252928,33030144,67108863,134217727]<|tw (bO m)<|tv (AQ.ia (k:=.i64) bx18)<|tw (yM x18)<|cE (pU underlying9 x18.Name)<|tv (po (P:=Pg) (t:=3) bq19)<|tw (bO m)<|tv (AQ.ia (k:=.i64) bx20)<|tw (xq x20)<|cE (qO.ln x20.Vars)<|tw (bO m)<|tv (AQ.ia (k:=.i64) bx21)<|tw (xr x21)<|cE (S8.ln x21.Preds)<|eo (Cd m i (bw ((bw ((bw ((bw (n+1))+q19))+(x20.Vars.length:Int)))+(x21.Preds.length:Int))) 0 _ bo32)<|tE)<|tE
def Cc:=uO (s:=(n,i)) λzz=>z7 m zz.1 zz.2
end
section
variable(m:am)(n:Int)(i:Int)
def na:Option Bool:=
 if decide (i<(m.Classes.length:Int))=true then
  some (decide (n<=4000))
 else
  some false
theorem B6:OU 0 (cA b7 2012) (na m n i) .normal (λo=>[(136,.bool o)]) (cc 303 [(1,.eptr (aq m)),(3,.int .i64 n),(6,.int .i64 i)] [.dead] []):=Z7.j<|
 have pp35:=λ{X Y Z} (r:PV _ X Y Z)=>tw (fQ m)<|cE (Rt.ln m.Classes)<|r;tf (λc34=>pp35<|tg 6 c34<|tE) λc34=>pp35<|tg 6 c34<|tE
end
section
variable(m:am)(n:Int)(i:Int)(k:Int)
def nc:Option Bool:=
 (dn m.Classes i).bind λx38=>
 if decide (k<(x38.Methods.length:Int))=true then
  some (decide (n<=4000))
 else
  some false
theorem B7:OU 0 (cA b7 128956) (nc m n i k) .normal (λo=>[(151,.bool o)]) (cc 303 [(1,.eptr (aq m)),(3,.int .i64 n),(6,.int .i64 i),(7,.int .i64 k)] [.dead] []):=Z7.j<|
 tb λx38 bx38=>have pp40:=λ{X Y Z} (r:PV _ X Y Z)=>tw (fQ m)<|tv (Rt.ia (k:=.i64) bx38)<|tw (mQ x38)<|cE (UF.ln x38.Methods)<|r;tf (λc39=>pp40<|tg 10 c39<|tE) λc39=>pp40<|tg 10 c39<|tE
end
section
variable(m:am)(i:Int)(n:Int)(k:Int)
def ue:az:=cc 303 [(1,.eptr (aq m)),(3,.int .i64 n),(6,.int .i64 i),(7,.int .i64 k)] [.dead] []
def C7(o:Int):az:=cc 303 [(1,.eptr (aq m)),(3,.int .i64 o),(6,.int .i64 i)] [.dead] []
def gu:Option ((Int×Int)⊕(Int)):=
 (nc m n i k).bind λo41=>
 if o41=true then
  (dn m.Classes i).bind λx43=>
  (dn x43.Methods k).bind λx44=>
  (er ([x44.Type_]:List ae) 4000).bind λr45=>
  some (.inl (bw ((bw (n+1))+r45),bw (k+1)))
 else
  some (.inr n)
def yw:Option Int:=loop (λ(zz:Int×Int)=>gu m i zz.1 zz.2) (n,k)
theorem Ab:OL 0 (cA b7 32239) (gu m i n k) (λ(zz:Int×Int)=>ue m i zz.1 zz.2) (λ_=>.exit 6) (C7 m i) (ue m i n k):=Z7.l<|
 tb λo41 bo41=>tH 1<|eo (B7 m n i k _ bo41)<|tF (tb λx43 bx43=>tb λx44 bx44=>tb λr45 br45=>tw (fQ m)<|tv (Rt.ia (k:=.i64) bx43)<|tw (mQ x43)<|tv (UF.ia (k:=.i64) bx44)<|tw (uF x44)<|tv (fe.mk' (v:=pX) ll ([x44.Type_]:List ae) 1 (by kernel_rfl))<|bV (eA _ br45)<|tE)<|tE
def Cf:=uO (s:=(n,k)) λzz=>Ab m i zz.1 zz.2
end
section
variable(m:am)(n:Int)(i:Int)
def uc:az:=cc 303 [(1,.eptr (aq m)),(3,.int .i64 n),(6,.int .i64 i)] [.dead] []
def C6(o:Int):az:=cc 303 [(1,.eptr (aq m)),(3,.int .i64 o)] [.dead] []
def gr:Option ((Int×Int)⊕(Int)):=
 (na m n i).bind λo36=>
 if o36=true then
  (yw m i n 0).bind λo46=>
  some (.inl (o46,bw (i+1)))
 else
  some (.inr n)
def yu:Option Int:=loop (λ(zz:Int×Int)=>gr m zz.1 zz.2) (n,i)
theorem Aa:OL 0 (cA b7 503) (gr m n i) (λ(zz:Int×Int)=>uc m zz.1 zz.2) (λ_=>.exit 4) (C6 m) (uc m n i):=Z7.l<|
 tb λo36 bo36=>tH 1<|eo (B6 m n i _ bo36)<|tF (tb λo46 bo46=>eo (Cf m i n 0 _ bo46)<|tE)<|tE
def Ce:=uO (s:=(n,i)) λzz=>Aa m zz.1 zz.2
end
section
variable(m:am)(n:Int)(i:Int)
def lB:Option Bool:=
 if decide (i<(m.Instances.length:Int))=true then
  some (decide (n<=4000))
 else
  some false
theorem zT:OU 0 (cA b7 4060) (lB m n i) .normal (λo=>[(177,.bool o)]) (cc 303 [(1,.eptr (aq m)),(3,.int .i64 n),(8,.int .i64 i)] [.dead] []):=Z7.j<|
 have pp49:=λ{X Y Z} (r:PV _ X Y Z)=>tw (eu m)<|cE (PU.ln m.Instances)<|r;tf (λc48=>pp49<|tg 6 c48<|tE) λc48=>pp49<|tg 6 c48<|tE
end
section
variable(m:am)(n:Int)(i:Int)
def sD:az:=cc 303 [(1,.eptr (aq m)),(3,.int .i64 n),(8,.int .i64 i)] [.dead] []
def B8(o:Int):az:=cc 303 [(1,.eptr (aq m)),(3,.int .i64 o)] [.dead] []
def fC:Option ((Int×Int)⊕(Int)):=
 (lB m n i).bind λo50=>
 if o50=true then
  (dn m.Instances i).bind λx52=>
  (dn m.Instances i).bind λx53=>
  (er ([x53.Type_]:List ae) 4000).bind λr54=>
  (dn m.Instances i).bind λx55=>
  (jH x55.Defs 4000).bind λr56=>
  some (.inl (bw ((bw ((bw ((bw (n+1))+(x52.Needs.length:Int)))+r54))+r56),bw (i+1)))
 else
  some (.inr n)
def wv:Option Int:=loop (λ(zz:Int×Int)=>fC m zz.1 zz.2) (n,i)
theorem yn:OL 0 (cA b7 1015) (fC m n i) (λ(zz:Int×Int)=>sD m zz.1 zz.2) (λ_=>.exit 8) (B8 m) (sD m n i):=Z7.l<|
 tb λo50 bo50=>tH 1<|eo (zT m n i _ bo50)<|tF (tb λx52 bx52=>tb λx53 bx53=>tb λr54 br54=>tb λx55 bx55=>tb λr56 br56=>tK [0,1,0,4,0,28,60,124,252,511,0,1024,0,7168,15360,31744,64512,130048,262143,0,524288,0,3670016,7864320,16252928,33291264,67108863,134217727]<|tw (eu m)<|tv (PU.ia (k:=.i64) bx52)<|tw (qD x52)<|cE (UG.ln x52.Needs)<|tw (eu m)<|tv (PU.ia (k:=.i64) bx53)<|tw (rO x53)<|tv (fe.mk' (v:=pX) ll ([x53.Type_]:List ae) 1 (by kernel_rfl))<|bV (eA _ br54)<|tw (eu m)<|tv (PU.ia (k:=.i64) bx55)<|tw (qE x55)<|bV (qt _ br56)<|tE)<|tE
def zX:=uO (s:=(n,i)) λzz=>yn m zz.1 zz.2
end
section
variable(m:am)(n:Int)(i:Int)
def lC:Option Bool:=
 if decide (i<(m.Measures.length:Int))=true then
  some (decide (n<=4000))
 else
  some false
theorem zU:OU 0 (cA b7 8156) (lC m n i) .normal (λo=>[(215,.bool o)]) (cc 303 [(1,.eptr (aq m)),(3,.int .i64 n),(9,.int .i64 i)] [.dead] []):=Z7.j<|
 have pp59:=λ{X Y Z} (r:PV _ X Y Z)=>tw (dm m)<|cE (NG.ln m.Measures)<|r;tf (λc58=>pp59<|tg 6 c58<|tE) λc58=>pp59<|tg 6 c58<|tE
end
section
variable(m:am)(n:Int)(i:Int)(k:Int)
def lD:Option Bool:=
 (dn m.Measures i).bind λx64=>
 if decide (k<(x64.Cases.length:Int))=true then
  some (decide (n<=4000))
 else
  some false
theorem zV:OU 0 (cA b7 1044348) (lD m n i k) .normal (λo=>[(241,.bool o)]) (cc 303 [(1,.eptr (aq m)),(3,.int .i64 n),(9,.int .i64 i),(10,.int .i64 k)] [.dead] []):=Z7.j<|
 tb λx64 bx64=>have pp66:=λ{X Y Z} (r:PV _ X Y Z)=>tw (dm m)<|tv (NG.ia (k:=.i64) bx64)<|tw (iz x64)<|cE (S9.ln x64.Cases)<|r;tf (λc65=>pp66<|tg 10 c65<|tE) λc65=>pp66<|tg 10 c65<|tE
end
section
variable(m:am)(i:Int)(n:Int)(k:Int)
def sF:az:=cc 303 [(1,.eptr (aq m)),(3,.int .i64 n),(9,.int .i64 i),(10,.int .i64 k)] [.dead] []
def Ca(o:Int):az:=cc 303 [(1,.eptr (aq m)),(3,.int .i64 o),(9,.int .i64 i)] [.dead] []
def fE:Option ((Int×Int)⊕(Int)):=
 (lD m n i k).bind λo67=>
 if o67=true then
  (dn m.Measures i).bind λx69=>
  (dn x69.Cases k).bind λx70=>
  (dn m.Measures i).bind λx71=>
  (dn x71.Cases k).bind λx72=>
  (dw ([x72.Body]:List ah) 4000).bind λr73=>
  some (.inl (bw ((bw ((bw (n+1))+(x70.Names.length:Int)))+r73),bw (k+1)))
 else
  some (.inr n)
def wx:Option Int:=loop (λ(zz:Int×Int)=>fE m i zz.1 zz.2) (n,k)
theorem yp:OL 0 (cA b7 261087) (fE m i n k) (λ(zz:Int×Int)=>sF m i zz.1 zz.2) (λ_=>.exit 12) (Ca m i) (sF m i n k):=Z7.l<|
 tb λo67 bo67=>tH 1<|eo (zV m n i k _ bo67)<|tF (tb λx69 bx69=>tb λx70 bx70=>tb λx71 bx71=>tb λx72 bx72=>tb λr73 br73=>tK [0,1,0,4,0,28,60,124,0,508,1020,2044,4092,8191,0,16384,0,114688,245760,507904,0,2080768,4177920,8372224,16760832,33538048,67108863,134217727]<|tw (dm m)<|tv (NG.ia (k:=.i64) bx69)<|tw (iz x69)<|tv (S9.ia (k:=.i64) bx70)<|tw (xo x70)<|cE (qO.ln x70.Names)<|tw (dm m)<|tv (NG.ia (k:=.i64) bx71)<|tw (iz x71)<|tv (S9.ia (k:=.i64) bx72)<|tw (xp x72)<|tv (my.mk' (v:=sw) nK ([x72.Body]:List ah) 1 (by kernel_rfl))<|bV (dy _ br73)<|tE)<|tE
def zZ:=uO (s:=(n,k)) λzz=>yp m i zz.1 zz.2
end
section
variable(m:am)(n:Int)(i:Int)
def sE:az:=cc 303 [(1,.eptr (aq m)),(3,.int .i64 n),(9,.int .i64 i)] [.dead] []
def B9(o:Int):az:=cc 303 [(1,.eptr (aq m)),(3,.int .i64 o)] [.dead] []
def fD:Option ((Int×Int)⊕(Int)):=
 (lC m n i).bind λo60=>
 if o60=true then
  (dn m.Measures i).bind λx62=>
  (dw ([x62.Inv]:List ah) 4000).bind λr63=>
  (wx m i (bw ((bw (n+1))+r63)) 0).bind λo74=>
  some (.inl (o74,bw (i+1)))
 else
  some (.inr n)
def ww:Option Int:=loop (λ(zz:Int×Int)=>fD m zz.1 zz.2) (n,i)
theorem yo:OL 0 (cA b7 2039) (fD m n i) (λ(zz:Int×Int)=>sE m zz.1 zz.2) (λ_=>.exit 10) (B9 m) (sE m n i):=Z7.l<|
 tb λo60 bo60=>tH 1<|eo (zU m n i _ bo60)<|tF (tb λx62 bx62=>tb λr63 br63=>tb λo74 bo74=>tw (dm m)<|tv (NG.ia (k:=.i64) bx62)<|tw (tA x62)<|tv (my.mk' (v:=sw) nK ([x62.Inv]:List ah) 1 (by kernel_rfl))<|bV (dy _ br63)<|eo (zZ m i (bw ((bw (n+1))+r63)) 0 _ bo74)<|tE)<|tE
def zY:=uO (s:=(n,i)) λzz=>yo m zz.1 zz.2
end
section
variable(m:am)(n:Int)(i:Int)
def lE:Option Bool:=
 if decide (i<(m.Quals.length:Int))=true then
  some (decide (n<=4000))
 else
  some false
theorem zW:OU 0 (cA b7 16348) (lE m n i) .normal (λo=>[(279,.bool o)]) (cc 303 [(1,.eptr (aq m)),(3,.int .i64 n),(11,.int .i64 i)] [.dead] []):=Z7.j<|
 have pp77:=λ{X Y Z} (r:PV _ X Y Z)=>tw (fR m)<|cE (Ru.ln m.Quals)<|r;tf (λc76=>pp77<|tg 6 c76<|tE) λc76=>pp77<|tg 6 c76<|tE
end
section
variable(m:am)(n:Int)(i:Int)
def sG:az:=cc 303 [(1,.eptr (aq m)),(3,.int .i64 n),(11,.int .i64 i)] [.dead] []
def Cb(o:Int):az:=cc 303 [(3,.int .i64 o)] [.dead] []
def fF:Option ((Int×Int)⊕(Int)):=
 (lE m n i).bind λo78=>
 if o78=true then
  (dn m.Quals i).bind λx80=>
  (dn m.Quals i).bind λx81=>
  (dw ([x81.Body]:List ah) 4000).bind λr82=>
  some (.inl (bw ((bw ((bw (n+1))+(x80.Vars.length:Int)))+r82),bw (i+1)))
 else
  some (.inr n)
def wy:Option Int:=loop (λ(zz:Int×Int)=>fF m zz.1 zz.2) (n,i)
theorem yq:OL 0 (cA b7 4087) (fF m n i) (λ(zz:Int×Int)=>sG m zz.1 zz.2) (λ_=>.exit 14) Cb (sG m n i):=Z7.l<|
 tb λo78 bo78=>tH 1<|eo (zW m n i _ bo78)<|tF (tb λx80 bx80=>tb λx81 bx81=>tb λr82 br82=>tK [0,1,0,4,0,28,60,124,252,511,0,1024,0,7168,15360,31744,64512,130048,262143,524287]<|tw (fR m)<|tv (Ru.ia (k:=.i64) bx80)<|tw (xv x80)<|cE (S8.ln x80.Vars)<|tw (fR m)<|tv (Ru.ia (k:=.i64) bx81)<|tw (xw x81)<|tv (my.mk' (v:=sw) nK ([x81.Body]:List ah) 1 (by kernel_rfl))<|bV (dy _ br82)<|tE)<|tE
def z6:=uO (s:=(n,i)) λzz=>yq m zz.1 zz.2
end
def vG(m:am):Option Bool:=
 (rz m).bind λo11=>
 if o11=true then
  some false
 else
  (jH m.Defs 4000).bind λr13=>
  (yr m r13 0).bind λo33=>
  (yu m o33 0).bind λo47=>
  (wv m o47 0).bind λo57=>
  (ww m o57 0).bind λo75=>
  (wy m o75 0).bind λo83=>
  some (decide (o83<=4000))
theorem G8{m:am}:OV 7 [.agg (aq m)] (vG m) (λr=>.bool r) []:=Z7.v<|
 tb λo11 bo11=>te (fU m)<|tH 1<|eo (B3 m _ bo11)<|tF tE<|tb λr13 br13=>tb λo33 bo33=>tb λo47 bo47=>tb λo57 bo57=>tb λo75 bo75=>tb λo83 bo83=>tw (mg m)<|bV (qt _ br13)<|eo (Cc m r13 0 _ bo33)<|eo (Ce m o33 0 _ bo47)<|eo (zX m o47 0 _ bo57)<|eo (zY m o57 0 _ bo75)<|eo (z6 m o75 0 _ bo83)<|tE
abbrev nU:=(aa->Int->Option Int)
abbrev nO(R:nU):Prop:=∀(v:aa) (most:Int),OV 32 [.agg (ac v),.int .i64 most] (R v most) (λr=>.int .i64 r) []
abbrev nT:=(al->Int->Option Int)
abbrev nN(R:nT):Prop:=∀(e:al) (most:Int),OV 9 [.agg (ak e),.int .i64 most] (R e most) (λr=>.int .i64 r) []
abbrev pn:=(waB->Int->Option Int)
abbrev tO(R:pn):Prop:=∀(a:waB) (most:Int),OV 33 [sl af a,.int .i64 most] (R a most) (λr=>.int .i64 r) []
abbrev pl:=(waD->Int->Option Int)
abbrev tN(R:pl):Prop:=∀(a:waD) (most:Int),OV 71 [sl aj a,.int .i64 most] (R a most) (λr=>.int .i64 r) []
noncomputable def Vz:Code:=f71.body.getD .skip
theorem Vl:ZF Pg [39] 71 f71 Vz:=zf call71 func71 rfl mixed
section
variable(v:waD)(most:Int)(n:Int)(i:Int)
def mT:Option Bool:=
 if decide (i<(v.length:Int))=true then
  some (decide (n<=most))
 else
  some false
theorem BP:OU 0 (cA Vz 476) (mT v most n i) .normal (λo=>[(15,.bool o)]) (cc 40 [(0,sl aj v),(1,.int .i64 most),(5,.int .i64 n),(6,.int .i64 i)] [] []):=Vl.j<|
 tf (λc1=>cE (my.ln v)<|tg 5 c1<|tE) λc1=>cE (my.ln v)<|tg 5 c1<|tE
end
section
variable(R11:pl)(v:waD)(most:Int)(n:Int)(i:Int)
def tS:az:=cc 40 [(0,sl aj v),(1,.int .i64 most),(5,.int .i64 n),(6,.int .i64 i)] [] []
def CZ(o:Int):az:=cc 40 [(5,.int .i64 o)] [] []
def gh:Option ((Int×Int)⊕(Int)):=
 (mT v most n i).bind λo2=>
 if o2=true then
  (dn v i).bind λx4=>
  (qu .i64 (x4.Name.length:Int) 50).bind λq5=>
  (dn v i).bind λx6=>
  (R11 x6.Kids (bw (most - (bw ((bw (n+1))+q5))))).bind λr7=>
  some (.inl (bw ((bw ((bw (n+1))+q5))+r7),bw (i+1)))
 else
  some (.inr n)
def yh:Option Int:=loop (λ(zz:Int×Int)=>gh R11 v most zz.1 zz.2) (n,i)
theorem zN(hR11:tN R11):OL 0 (cA Vz 119) (gh R11 v most n i) (λ(zz:Int×Int)=>tS v most zz.1 zz.2) (λ_=>.exit 0) CZ (tS v most n i):=Vl.l<|
 tb λo2 bo2=>tH 1<|eo (BP v most n i _ bo2)<|tF (tb λx4 bx4=>tb λq5 bq5=>tb λx6 bx6=>tb λr7 br7=>tv (my.ia (k:=.i64) bx4)<|tw (iR x4)<|cE (pU underlying9 x4.Name)<|tv (po (P:=Pg) (t:=3) bq5)<|tv (my.ia (k:=.i64) bx6)<|tw (gR x6)<|bV (hR11 _ _ _ br7)<|tE)<|tE
def BQ(hR11:tN R11):=uO (s:=(n,i)) λzz=>zN R11 v most zz.1 zz.2 hR11
end
def pd(R11:pl)(a:waD)(most:Int):Option Int:=
 (yh R11 a most 0 0).bind λo8=>
 some o8
theorem ET(R11:pl)(hR11:tN R11){a:waD}{most:Int}:OV 71 [sl aj a,.int .i64 most] (pd R11 a most) (λr=>.int .i64 r) []:=Vl.v<|
 tb λo8 bo8=>eo (BQ R11 a most 0 0 hR11 _ bo8)<|tE
def tR:((waD×Int)->Option Int)->(waD×Int)->Option Int:=λ(rec:(waD×Int)->Option Int) (x:waD×Int)=>pd (λa most=>rec (a,most)) x.1 x.2
def zM(a:waD)(most:Int):Option Int:=oc tR (a,most)
theorem G6{a:waD}{most:Int}:OV 71 [sl aj a,.int .i64 most] (zM a most) (λr=>.int .i64 r) []:=pM λ_ h=>
 cV (F:=tR) (M:=λ(x:waD×Int) (r:Int)=>CC Pg GE 71 [sl aj x.1,.int .i64 x.2] (.int .i64 r) []) (λrec hrec x r h=>ET _ (λa most=>pM λr h=>hrec (a,most) r h) _ h) h
noncomputable def Vs:Code:=f33.body.getD .skip
theorem Vi:ZF Pg [61] 33 f33 Vs:=zf call33 func33 rfl mixed
section
variable(v:waB)(most:Int)(n:Int)(i:Int)
def mU:Option Bool:=
 if decide (i<(v.length:Int))=true then
  some (decide (n<=most))
 else
  some false
theorem BS:OU 0 (cA Vs 476) (mU v most n i) .normal (λo=>[(15,.bool o)]) (cc 62 [(0,sl af v),(1,.int .i64 most),(5,.int .i64 n),(6,.int .i64 i)] [] []):=Vi.j<|
 tf (λc1=>cE (fe.ln v)<|tg 5 c1<|tE) λc1=>cE (fe.ln v)<|tg 5 c1<|tE
end
section
variable(R10:pn)(v:waB)(most:Int)(n:Int)(i:Int)
def tU:az:=cc 62 [(0,sl af v),(1,.int .i64 most),(5,.int .i64 n),(6,.int .i64 i)] [] []
def C0(o:Int):az:=cc 62 [(5,.int .i64 o)] [] []
def gi:Option ((Int×Int)⊕(Int)):=
 (mU v most n i).bind λo2=>
 if o2=true then
  (dn v i).bind λx4=>
  (qu .i64 (x4.Name.length:Int) 50).bind λq5=>
  (dn v i).bind λx6=>
  (dn v i).bind λx7=>
  (dn v i).bind λx8=>
  (app ([x7.Pred]:List ah) x8.Preds).bind λl9=>
  (zM l9 most).bind λr10=>
  (dn v i).bind λx11=>
  (R10 x11.Args (bw (most - (bw ((bw ((bw ((bw (n+1))+q5))+(x6.Names.length:Int)))+r10))))).bind λr12=>
  some (.inl (bw ((bw ((bw ((bw ((bw (n+1))+q5))+(x6.Names.length:Int)))+r10))+r12),bw (i+1)))
 else
  some (.inr n)
def yi:Option Int:=loop (λ(zz:Int×Int)=>gi R10 v most zz.1 zz.2) (n,i)
theorem zO(hR10:tO R10):OL 0 (cA Vs 119) (gi R10 v most n i) (λ(zz:Int×Int)=>tU v most zz.1 zz.2) (λ_=>.exit 0) C0 (tU v most n i):=Vi.l<|
 tb λo2 bo2=>tH 1<|eo (BS v most n i _ bo2)<|tF (tb λx4 bx4=>tb λq5 bq5=>tb λx6 bx6=>tb λx7 bx7=>tb λx8 bx8=>tb λl9 bl9=>tb λr10 br10=>tb λx11 bx11=>tb λr12 br12=>tK [0,1,0,0,12,28,60,124,252,511,0,0,3072,7168,15360,31744,65535,0,0,393216,917504,1966080,4063232,0,0,25165824,58720256,125829120,268304384,0,1073610752,2147483647,4294967295]<|tv (fe.ia (k:=.i64) bx4)<|tw (cz x4)<|cE (pU underlying9 x4.Name)<|tv (po (P:=Pg) (t:=3) bq5)<|tv (fe.ia (k:=.i64) bx6)<|tw (gS x6)<|cE (qO.ln x6.Names)<|tv (fe.ia (k:=.i64) bx7)<|tw (gT x7)<|tv (my.mk' (v:=sw) nK ([x7.Pred]:List ah) 1 (by kernel_rfl))<|tv (fe.ia (k:=.i64) bx8)<|tw (gU x8)<|tv (my.ap bl9)<|bV (G6 _ br10)<|tv (fe.ia (k:=.i64) bx11)<|tw (bo x11)<|bV (hR10 _ _ _ br12)<|tE)<|tE
def BT(hR10:tO R10):=uO (s:=(n,i)) λzz=>zO R10 v most zz.1 zz.2 hR10
end
def pe(R10:pn)(a:waB)(most:Int):Option Int:=
 (yi R10 a most 0 0).bind λo13=>
 some o13
theorem EU(R10:pn)(hR10:tO R10){a:waB}{most:Int}:OV 33 [sl af a,.int .i64 most] (pe R10 a most) (λr=>.int .i64 r) []:=Vi.v<|
 tb λo13 bo13=>eo (BT R10 a most 0 0 hR10 _ bo13)<|tE
def tT:((waB×Int)->Option Int)->(waB×Int)->Option Int:=λ(rec:(waB×Int)->Option Int) (x:waB×Int)=>pe (λa most=>rec (a,most)) x.1 x.2
def vF(a:waB)(most:Int):Option Int:=oc tT (a,most)
theorem yj{a:waB}{most:Int}:OV 33 [sl af a,.int .i64 most] (vF a most) (λr=>.int .i64 r) []:=pM λ_ h=>
 cV (F:=tT) (M:=λ(x:waB×Int) (r:Int)=>CC Pg GE 33 [sl af x.1,.int .i64 x.2] (.int .i64 r) []) (λrec hrec x r h=>EU _ (λa most=>pM λr h=>hrec (a,most) r h) _ h) h
noncomputable def Vt:Code:=f34.body.getD .skip
theorem Vj:ZF Pg [27] 34 f34 Vt:=zf call34 func34 rfl mixed
section
variable(v:waC)(most:Int)(n:Int)(i:Int)
def mS:Option Bool:=
 if decide (i<(v.length:Int))=true then
  some (decide (n<=most))
 else
  some false
theorem BN:OU 0 (cA Vt 476) (mS v most n i) .normal (λo=>[(15,.bool o)]) (cc 28 [(0,sl cS v),(1,.int .i64 most),(5,.int .i64 n),(6,.int .i64 i)] [] []):=Vj.j<|
 tf (λc1=>cE (qO.ln v)<|tg 5 c1<|tE) λc1=>cE (qO.ln v)<|tg 5 c1<|tE
end
section
variable(v:waC)(most:Int)(n:Int)(i:Int)
def tQ:az:=cc 28 [(0,sl cS v),(1,.int .i64 most),(5,.int .i64 n),(6,.int .i64 i)] [] []
def CY(o:Int):az:=cc 28 [(5,.int .i64 o)] [] []
def gf:Option ((Int×Int)⊕(Int)):=
 (mS v most n i).bind λo2=>
 if o2=true then
  (dn v i).bind λx4=>
  (qu .i64 (x4.length:Int) 50).bind λq5=>
  some (.inl (bw ((bw (n+1))+q5),bw (i+1)))
 else
  some (.inr n)
def yg:Option Int:=loop (λ(zz:Int×Int)=>gf v most zz.1 zz.2) (n,i)
theorem zL:OL 0 (cA Vt 119) (gf v most n i) (λ(zz:Int×Int)=>tQ v most zz.1 zz.2) (λ_=>.exit 0) CY (tQ v most n i):=Vj.l<|
 tb λo2 bo2=>tH 1<|eo (BN v most n i _ bo2)<|tF (tb λx4 bx4=>tb λq5 bq5=>tv (qO.ia (k:=.i64) bx4)<|tv (AL Wo (.str x4) [])<|cE (pU underlying9 x4)<|tv (po (P:=Pg) (t:=3) bq5)<|tE)<|tE
def BO:=uO (s:=(n,i)) λzz=>zL v most zz.1 zz.2
end
def vE(a:waC)(most:Int):Option Int:=
 (yg a most 0 0).bind λo6=>
 some o6
theorem G5{a:waC}{most:Int}:OV 34 [sl cS a,.int .i64 most] (vE a most) (λr=>.int .i64 r) []:=Vj.v<|
 tb λo6 bo6=>eo (BO a most 0 0 _ bo6)<|tE
end Go.Proofs.YtjddnhkahpfhdaaGreatDoor
