/- PROVED: a part of the proof. Conditions: none. -/
import Derived.Test.YtjddnhkahpfhdaaGreatDoorPkV11
set_option linter.unusedSimpArgs false
set_option linter.unusedVariables false
noncomputable section
namespace Go.Proofs.YtjddnhkahpfhdaaGreatDoor
open Go Go.Proofs.Tryz
set_option linter.unusedVariables false
set_option linter.defProp false
set_option maxRecDepth 100000
abbrev iU:=(waB->Int->Option Int)
abbrev kM(R:iU):Prop:=∀(a:waB) (most:Int),OV 30 [sl af a,.int .i64 most] (R a most) (λr=>.int .i64 r) []
abbrev iT:=(waF->Int->Option Int)
abbrev kL(R:iT):Prop:=∀(a:waF) (most:Int),OV 31 [sl aj a,.int .i64 most] (R a most) (λr=>.int .i64 r) []
noncomputable def UU:Code:=f31.body.getD .skip
theorem UH:ZF Pg [39] 31 f31 UU:=zf call31 func31 rfl mixed
section
variable(v:waF)(most:Int)(n:Int)(i:Int)
def ic:Option Bool:=
 if decide (i<(v.length:Int))=true then
  some (decide (n<=most))
 else
  some false
theorem uz:OU 0 (cA UU 476) (ic v most n i) .normal (λo=>[(15,.bool o)]) (bO 40 [(0,sl aj v),(1,.int .i64 most),(5,.int .i64 n),(6,.int .i64 i)] [] []):=UH.j<|
 tf (λc1=>ck (iC.ln v)<|tg 5 c1<|tE) λc1=>ck (iC.ln v)<|tg 5 c1<|tE
end
section
variable(R5:iT)(v:waF)(most:Int)(n:Int)(i:Int)
def mL:az:=bO 40 [(0,sl aj v),(1,.int .i64 most),(5,.int .i64 n),(6,.int .i64 i)] [] []
def wE(o:Int):az:=bO 40 [(5,.int .i64 o)] [] []
def dF:Option ((Int×Int)⊕(Int)):=
 (ic v most n i).bind λo2=>
 if o2=true then
  (cH v i).bind λx4=>
  (qu .i64 (x4.Name.length:Int) 100).bind λq5=>
  (cH v i).bind λx6=>
  (R5 x6.Kids (bw (most - (bw ((bw (n+1))+q5))))).bind λr7=>
  some (.inl (bw ((bw ((bw (n+1))+q5))+r7),bw (i+1)))
 else
  some (.inr n)
def pr:Option Int:=loop (λ(zz:Int×Int)=>dF R5 v most zz.1 zz.2) (n,i)
theorem tG(hR5:kL R5):OL 0 (cA UU 119) (dF R5 v most n i) (λ(zz:Int×Int)=>mL v most zz.1 zz.2) (λ_=>.exit 0) wE (mL v most n i):=UH.l<|
 tb λo2 bo2=>qT 1<|dn (uz v most n i _ bo2)<|tF (tb λx4 bx4=>tb λq5 bq5=>tb λx6 bx6=>tb λr7 br7=>tv (iC.ia (k:=.i64) bx4)<|tw (eu x4)<|ck (pZ underlying9 x4.Name)<|tv (pC (P:=Pg) (t:=3) bq5)<|tv (iC.ia (k:=.i64) bx6)<|tw (co x6)<|bP (hR5 _ _ _ br7)<|tE)<|tE
def uA(hR5:kL R5):=vd (s:=(n,i)) λzz=>tG R5 v most zz.1 zz.2 hR5
end
def iP(R5:iT)(a:waF)(most:Int):Option Int:=
 (pr R5 a most 0 0).bind λo8=>
 some o8
theorem xU(R5:iT)(hR5:kL R5){a:waF}{most:Int}:OV 31 [sl aj a,.int .i64 most] (iP R5 a most) (λr=>.int .i64 r) []:=UH.v<|
 tb λo8 bo8=>dn (uA R5 a most 0 0 hR5 _ bo8)<|tE
def kP:((waF×Int)->Option Int)->(waF×Int)->Option Int:=λ(rec:(waF×Int)->Option Int) (x:waF×Int)=>iP (λa most=>rec (a,most)) x.1 x.2
def du(a:waF)(most:Int):Option Int:=kT kP (a,most)
theorem dv{a:waF}{most:Int}:OV 31 [sl aj a,.int .i64 most] (du a most) (λr=>.int .i64 r) []:=mP λ_ h=>
 ct (F:=kP) (M:=λ(x:waF×Int) (r:Int)=>CC Pg GE 31 [sl aj x.1,.int .i64 x.2] (.int .i64 r) []) (λrec hrec x r h=>xU _ (λa most=>mP λr h=>hrec (a,most) r h) _ h) h
noncomputable def UT:Code:=f30.body.getD .skip
theorem UG:ZF Pg [63] 30 f30 UT:=zf call30 func30 rfl mixed
section
variable(v:waB)(most:Int)(n:Int)(i:Int)
def ie:Option Bool:=
 if decide (i<(v.length:Int))=true then
  some (decide (n<=most))
 else
  some false
theorem uB:OU 0 (cA UT 476) (ie v most n i) .normal (λo=>[(15,.bool o)]) (bO 64 [(0,sl af v),(1,.int .i64 most),(5,.int .i64 n),(6,.int .i64 i)] [] []):=UG.j<|
 tf (λc1=>ck (dl.ln v)<|tg 5 c1<|tE) λc1=>ck (dl.ln v)<|tg 5 c1<|tE
end
section
variable(R4:iU)(v:waB)(most:Int)(n:Int)(i:Int)
def mM:az:=bO 64 [(0,sl af v),(1,.int .i64 most),(5,.int .i64 n),(6,.int .i64 i)] [] []
def wF(o:Int):az:=bO 64 [(5,.int .i64 o)] [] []
def dG:Option ((Int×Int)⊕(Int)):=
 (ie v most n i).bind λo2=>
 if o2=true then
  (cH v i).bind λx4=>
  (qu .i64 (x4.Name.length:Int) 100).bind λq5=>
  (cH v i).bind λx6=>
  (cH v i).bind λx7=>
  (du x7.Preds most).bind λr8=>
  (cH v i).bind λx9=>
  (du ([x9.Pred]:List ag) most).bind λr10=>
  (cH v i).bind λx11=>
  (R4 x11.Args (bw (most - (bw ((bw ((bw ((bw ((bw (n+1))+q5))+(x6.Names.length:Int)))+r8))+r10))))).bind λr12=>
  some (.inl (bw ((bw ((bw ((bw ((bw ((bw (n+1))+q5))+(x6.Names.length:Int)))+r8))+r10))+r12),bw (i+1)))
 else
  some (.inr n)
def pu:Option Int:=loop (λ(zz:Int×Int)=>dG R4 v most zz.1 zz.2) (n,i)
theorem tH(hR4:kM R4):OL 0 (cA UT 119) (dG R4 v most n i) (λ(zz:Int×Int)=>mM v most zz.1 zz.2) (λ_=>.exit 0) wF (mM v most n i):=UG.l<|
 tb λo2 bo2=>qT 1<|dn (uB v most n i _ bo2)<|tF (tb λx4 bx4=>tb λq5 bq5=>tb λx6 bx6=>tb λx7 bx7=>tb λr8 br8=>tb λx9 bx9=>tb λr10 br10=>tb λx11 bx11=>tb λr12 br12=>oY [0,1,0,0,12,28,60,124,252,511,0,0,3072,7168,15360,31744,65535,0,0,393216,917504,1966080,0,8257536,16777215,0,0,100663296,234881024,503316480,1040187392,0,4278059008,8589934591,17179869183]<|tv (dl.ia (k:=.i64) bx4)<|tw (bM x4)<|ck (pZ underlying9 x4.Name)<|tv (pC (P:=Pg) (t:=3) bq5)<|tv (dl.ia (k:=.i64) bx6)<|tw (dW x6)<|ck (lY.ln x6.Names)<|tv (dl.ia (k:=.i64) bx7)<|tw (cp x7)<|bP (dv _ br8)<|tv (dl.ia (k:=.i64) bx9)<|tw (dY x9)<|tv (iC.mk' (v:=sB) nF ([x9.Pred]:List ag) 1 (by kernel_rfl))<|bP (dv _ br10)<|tv (dl.ia (k:=.i64) bx11)<|tw (aL x11)<|bP (hR4 _ _ _ br12)<|tE)<|tE
def uC(hR4:kM R4):=vd (s:=(n,i)) λzz=>tH R4 v most zz.1 zz.2 hR4
end
def iQ(R4:iU)(a:waB)(most:Int):Option Int:=
 (pu R4 a most 0 0).bind λo13=>
 some o13
theorem xW(R4:iU)(hR4:kM R4){a:waB}{most:Int}:OV 30 [sl af a,.int .i64 most] (iQ R4 a most) (λr=>.int .i64 r) []:=UG.v<|
 tb λo13 bo13=>dn (uC R4 a most 0 0 hR4 _ bo13)<|tE
def kQ:((waB×Int)->Option Int)->(waB×Int)->Option Int:=λ(rec:(waB×Int)->Option Int) (x:waB×Int)=>iQ (λa most=>rec (a,most)) x.1 x.2
def ei(a:waB)(most:Int):Option Int:=kT kQ (a,most)
theorem er{a:waB}{most:Int}:OV 30 [sl af a,.int .i64 most] (ei a most) (λr=>.int .i64 r) []:=mP λ_ h=>
 ct (F:=kQ) (M:=λ(x:waB×Int) (r:Int)=>CC Pg GE 30 [sl af x.1,.int .i64 x.2] (.int .i64 r) []) (λrec hrec x r h=>xW _ (λa most=>mP λr h=>hrec (a,most) r h) _ h) h
abbrev lK:=(aq->Int->Option Int)
abbrev lJ(R:lK):Prop:=∀(e:aq) (most:Int),OV 70 [.agg (ak e),.int .i64 most] (R e most) (λr=>.int .i64 r) []
noncomputable def RO:Code:=f70.body.getD .skip
theorem RG:ZF Pg [107] 70 f70 RO:=zf call70 func70 rfl mixed
section
variable(most:Int)(e:aq)(n:Int)(i:Int)
def mU:Option Bool:=
 if decide (i<(e.Params.length:Int))=true then
  some (decide (n<=most))
 else
  some false
theorem CQ:OU 0 (cA RO 476) (mU most e n i) .normal (λo=>[(28,.bool o)]) (bO 108 [(1,.int .i64 most),(2,.eptr (ak e)),(5,.int .i64 n),(6,.int .i64 i)] [.dead] []):=RG.j<|
 have pp4:=λ{X Y Z} (r:PV _ X Y Z)=>tw (cE e)<|ck (Fl.ln e.Params)<|r;tf (λc3=>pp4<|tg 6 c3<|tE) λc3=>pp4<|tg 6 c3<|tE
end
section
variable(most:Int)(e:aq)(n:Int)(i:Int)
def ul:az:=bO 108 [(1,.int .i64 most),(2,.eptr (ak e)),(5,.int .i64 n),(6,.int .i64 i)] [.dead] []
def DY(o:Int):az:=bO 108 [(1,.int .i64 most),(2,.eptr (ak e)),(5,.int .i64 o)] [.dead] []
def fO:Option ((Int×Int)⊕(Int)):=
 (mU most e n i).bind λo5=>
 if o5=true then
  (cH e.Params i).bind λx7=>
  (qu .i64 (x7.Name.length:Int) 100).bind λq8=>
  (cH e.Params i).bind λx9=>
  (ei ([x9.Type_]:List ae) most).bind λr10=>
  some (.inl (bw ((bw ((bw (n+1))+q8))+r10),bw (i+1)))
 else
  some (.inr n)
def za:Option Int:=loop (λ(zz:Int×Int)=>fO most e zz.1 zz.2) (n,i)
theorem AM:OL 0 (cA RO 119) (fO most e n i) (λ(zz:Int×Int)=>ul most e zz.1 zz.2) (λ_=>.exit 0) (DY most e) (ul most e n i):=RG.l<|
 tb λo5 bo5=>qT 1<|dn (CQ most e n i _ bo5)<|tF (tb λx7 bx7=>tb λq8 bq8=>tb λx9 bx9=>tb λr10 br10=>oY [0,1,0,4,0,28,60,124,252,508,1023,0,2048,0,14336,30720,63488,129024,0,522240,1048575,2097151]<|tw (cE e)<|tv (Fl.ia (k:=.i64) bx7)<|tw (gC x7)<|ck (pZ underlying9 x7.Name)<|tv (pC (P:=Pg) (t:=3) bq8)<|tw (cE e)<|tv (Fl.ia (k:=.i64) bx9)<|tw (fK x9)<|tv (dl.mk' (v:=nz) jR ([x9.Type_]:List ae) 1 (by kernel_rfl))<|bP (er _ br10)<|tE)<|tE
def CT:=vd (s:=(n,i)) λzz=>AM most e zz.1 zz.2
end
section
variable(most:Int)(e:aq)(n:Int)(i:Int)
def mV:Option Bool:=
 if decide (i<(e.Kids.length:Int))=true then
  some (decide (n<=most))
 else
  some false
theorem CR:OU 0 (cA RO 988) (mV most e n i) .normal (λo=>[(61,.bool o)]) (bO 108 [(1,.int .i64 most),(2,.eptr (ak e)),(5,.int .i64 n),(7,.int .i64 i)] [.dead] []):=RG.j<|
 have pp13:=λ{X Y Z} (r:PV _ X Y Z)=>tw (dV e)<|ck (yF.ln e.Kids)<|r;tf (λc12=>pp13<|tg 6 c12<|tE) λc12=>pp13<|tg 6 c12<|tE
end
section
variable(R6:lK)(most:Int)(e:aq)(n:Int)(i:Int)
def um:az:=bO 108 [(1,.int .i64 most),(2,.eptr (ak e)),(5,.int .i64 n),(7,.int .i64 i)] [.dead] []
def DZ(o:Int):az:=bO 108 [(1,.int .i64 most),(2,.eptr (ak e)),(5,.int .i64 o)] [.dead] []
def fP:Option ((Int×Int)⊕(Int)):=
 (mV most e n i).bind λo14=>
 if o14=true then
  (cH e.Kids i).bind λx16=>
  (R6 x16 (bw (most - n))).bind λr17=>
  some (.inl (bw (n+r17),bw (i+1)))
 else
  some (.inr n)
def zb:Option Int:=loop (λ(zz:Int×Int)=>fP R6 most e zz.1 zz.2) (n,i)
theorem AN(hR6:lJ R6):OL 0 (cA RO 247) (fP R6 most e n i) (λ(zz:Int×Int)=>um most e zz.1 zz.2) (λ_=>.exit 2) (DZ most e) (um most e n i):=RG.l<|
 tb λo14 bo14=>qT 1<|dn (CR most e n i _ bo14)<|tF (tb λx16 bx16=>tb λr17 br17=>tw (dV e)<|tv (yF.ia (k:=.i64) bx16)<|tv (uZ x16)<|bP (hR6 _ _ _ br17)<|tE)<|tE
def CU(hR6:lJ R6):=vd (s:=(n,i)) λzz=>AN R6 most e zz.1 zz.2 hR6
end
section
variable(most:Int)(e:aq)(n:Int)(i:Int)
def mW:Option Bool:=
 if decide (i<(e.Alts.length:Int))=true then
  some (decide (n<=most))
 else
  some false
theorem CS:OU 0 (cA RO 2012) (mW most e n i) .normal (λo=>[(84,.bool o)]) (bO 108 [(1,.int .i64 most),(2,.eptr (ak e)),(5,.int .i64 n),(8,.int .i64 i)] [.dead] []):=RG.j<|
 have pp20:=λ{X Y Z} (r:PV _ X Y Z)=>tw (cm e)<|ck (Di.ln e.Alts)<|r;tf (λc19=>pp20<|tg 6 c19<|tE) λc19=>pp20<|tg 6 c19<|tE
end
section
variable(R6:lK)(most:Int)(e:aq)(n:Int)(i:Int)
def uo:az:=bO 108 [(1,.int .i64 most),(2,.eptr (ak e)),(5,.int .i64 n),(8,.int .i64 i)] [.dead] []
def D0(o:Int):az:=bO 108 [(5,.int .i64 o)] [.dead] []
def fQ:Option ((Int×Int)⊕(Int)):=
 (mW most e n i).bind λo21=>
 if o21=true then
  (cH e.Alts i).bind λx23=>
  (cH e.Alts i).bind λx24=>
  (R6 x24.Body (bw (most - n))).bind λr25=>
  some (.inl (bw ((bw (n+(x23.Names.length:Int)))+r25),bw (i+1)))
 else
  some (.inr n)
def zc:Option Int:=loop (λ(zz:Int×Int)=>fQ R6 most e zz.1 zz.2) (n,i)
theorem AO(hR6:lJ R6):OL 0 (cA RO 503) (fQ R6 most e n i) (λ(zz:Int×Int)=>uo most e zz.1 zz.2) (λ_=>.exit 4) D0 (uo most e n i):=RG.l<|
 tb λo21 bo21=>qT 1<|dn (CS most e n i _ bo21)<|tF (tb λx23 bx23=>tb λx24 bx24=>tb λr25 br25=>oY [0,0,2,0,14,30,62,126,255,0,512,0,3584,7680,15872,0,0,98304,261632,524287,1048575]<|tw (cm e)<|tv (Di.ia (k:=.i64) bx23)<|tw (ii x23)<|ck (lY.ln x23.Names)<|tw (cm e)<|tv (Di.ia (k:=.i64) bx24)<|tw (ij x24)<|bP (hR6 _ _ _ br25)<|tE)<|tE
def CV(hR6:lJ R6):=vd (s:=(n,i)) λzz=>AO R6 most e zz.1 zz.2 hR6
end
def pq(R6:lK)(e:aq)(most:Int):Option Int:=
 (qu .i64 (e.Name.length:Int) 100).bind λq1=>
 (ei e.Types most).bind λr2=>
 (za most e (bw ((bw (1+q1))+r2)) 0).bind λo11=>
 (zb R6 most e o11 0).bind λo18=>
 (zc R6 most e o18 0).bind λo26=>
 some o26
theorem FY(R6:lK)(hR6:lJ R6){e:aq}{most:Int}:OV 70 [.agg (ak e),.int .i64 most] (pq R6 e most) (λr=>.int .i64 r) []:=RG.v<|
 tb λq1 bq1=>tb λr2 br2=>tb λo11 bo11=>tb λo18 bo18=>tb λo26 bo26=>te (zO e)<|oY [0,1,3,7,15,0,32,0,224,511,1023]<|tw (ik e)<|ck (pZ underlying9 e.Name)<|tv (pC (P:=Pg) (t:=3) bq1)<|tw (gB e)<|bP (er _ br2)<|dn (CT most e (bw ((bw (1+q1))+r2)) 0 _ bo11)<|dn (CU R6 most e o11 0 hR6 _ bo18)<|dn (CV R6 most e o18 0 hR6 _ bo26)<|tE
def uk:((aq×Int)->Option Int)->(aq×Int)->Option Int:=λ(rec:(aq×Int)->Option Int) (x:aq×Int)=>pq (λe most=>rec (e,most)) x.1 x.2
def AL(e:aq)(most:Int):Option Int:=kT uk (e,most)
theorem HZ{e:aq}{most:Int}:OV 70 [.agg (ak e),.int .i64 most] (AL e most) (λr=>.int .i64 r) []:=mP λ_ h=>
 ct (F:=uk) (M:=λ(x:aq×Int) (r:Int)=>CC Pg GE 70 [.agg (ak x.1),.int .i64 x.2] (.int .i64 r) []) (λrec hrec x r h=>FY _ (λe most=>mP λr h=>hrec (e,most) r h) _ h) h
noncomputable def S9:Code:=f29.body.getD .skip
theorem S4:ZF Pg [112] 29 f29 S9:=zf call29 func29 rfl mixed
section
variable(v:waH)(most:Int)(n:Int)(i:Int)
def iN:Option Bool:=
 if decide (i<(v.length:Int))=true then
  some (decide (n<=most))
 else
  some false
theorem wz:OU 0 (cA S9 476) (iN v most n i) .normal (λo=>[(17,.bool o)]) (bO 113 [(0,sl bN v),(1,.int .i64 most),(5,.int .i64 n),(6,.int .i64 i)] [] []):=S4.j<|
 tf (λc1=>ck (LN.ln v)<|tg 5 c1<|tE) λc1=>ck (LN.ln v)<|tg 5 c1<|tE
end
section
variable(v:waH)(most:Int)(n:Int)(i:Int)(k:Int)(m:waA)(m2:(List vN))(m3:(List GS))(m4:(List kE))(m5:Int)(m6:ai)(m7:waB)(m8:waA)(m9:Int)(m10:ai)(m11:Int)(m12:waF)(m13:waF)(m14:waF)
def iO:Option Bool:=
 if decide (k<(m4.length:Int))=true then
  some (decide (n<=most))
 else
  some false
theorem wB:OU 0 (cA S9 245212) (iO most n k m4) .normal (λo=>[(74,.bool o)]) (bO 113 [(0,sl bN v),(1,.int .i64 most),(5,.int .i64 n),(6,.int .i64 i),(7,.bptr 0 0),(8,.int .i64 k)] [.cells [sl cS m,sl fA m2,sl kh m3,sl bZ m4,.int .i64 m5,.str m6,sl af m7,sl cS m8,.int .i64 m9,.str m10,.int .i64 m11,sl aj m12,sl aj m13,sl aj m14] []] []):=S4.j<|
 have pp11:=λ{X Y Z} (r:PV _ X Y Z)=>ts<|ck (MB.ln m4)<|r;tf (λc10=>pp11<|tg 6 c10<|tE) λc10=>pp11<|tg 6 c10<|tE
end
section
variable(v:waH)(most:Int)(i:Int)(m:waA)(m2:(List vN))(m3:(List GS))(m4:(List kE))(m5:Int)(m6:ai)(m7:waB)(m8:waA)(m9:Int)(m10:ai)(m11:Int)(m12:waF)(m13:waF)(m14:waF)(n:Int)(k:Int)
def nV:az:=bO 113 [(0,sl bN v),(1,.int .i64 most),(5,.int .i64 n),(6,.int .i64 i),(7,.bptr 0 0),(8,.int .i64 k)] [.cells [sl cS m,sl fA m2,sl kh m3,sl bZ m4,.int .i64 m5,.str m6,sl af m7,sl cS m8,.int .i64 m9,.str m10,.int .i64 m11,sl aj m12,sl aj m13,sl aj m14] []] []
def xT(o:Int):az:=bO 113 [(0,sl bN v),(1,.int .i64 most),(5,.int .i64 o),(6,.int .i64 i)] [.cells [sl cS m,sl fA m2,sl kh m3,sl bZ m4,.int .i64 m5,.str m6,sl af m7,sl cS m8,.int .i64 m9,.str m10,.int .i64 m11,sl aj m12,sl aj m13,sl aj m14] []] []
def dU:Option ((Int×Int)⊕(Int)):=
 (iO most n k m4).bind λo12=>
 if o12=true then
  (cH m4 k).bind λx14=>
  (cH m4 k).bind λx15=>
  (cH m4 k).bind λx16=>
  (du ([x15.Hyp,x16.Goal]:List ag) most).bind λr17=>
  some (.inl (bw ((bw ((bw (n+1))+(x14.Vars.length:Int)))+r17),bw (k+1)))
 else
  some (.inr n)
def qx:Option Int:=loop (λ(zz:Int×Int)=>dU most m4 zz.1 zz.2) (n,k)
theorem uy:OL 0 (cA S9 61303) (dU most m4 n k) (λ(zz:Int×Int)=>nV v most i m m2 m3 m4 m5 m6 m7 m8 m9 m10 m11 m12 m13 m14 zz.1 zz.2) (λ_=>.exit 2) (xT v most i m m2 m3 m4 m5 m6 m7 m8 m9 m10 m11 m12 m13 m14) (nV v most i m m2 m3 m4 m5 m6 m7 m8 m9 m10 m11 m12 m13 m14 n k):=S4.l<|
 tb λo12 bo12=>qT 1<|dn (wB v most n i k m m2 m3 m4 m5 m6 m7 m8 m9 m10 m11 m12 m13 m14 _ bo12)<|tF (tb λx14 bx14=>tb λx15 bx15=>tb λx16 bx16=>tb λr17 br17=>oY [0,1,0,4,0,28,60,124,252,511,0,1024,0,7168,15360,31744,0,65536,0,458752,983040,2031616,4193280,0,16776192,33554431,67108863]<|ts<|tv (MB.ia (k:=.i64) bx14)<|tw (uQ x14)<|ck (Sw.ln x14.Vars)<|ts<|tv (MB.ia (k:=.i64) bx15)<|tw (uR x15)<|ts<|tv (MB.ia (k:=.i64) bx16)<|tw (uS x16)<|tv (iC.mk' (v:=sB) nF ([x15.Hyp,x16.Goal]:List ag) 2 (by kernel_rfl))<|bP (dv _ br17)<|tE)<|tE
def wD:=vd (s:=(n,k)) λzz=>uy v most i m m2 m3 m4 m5 m6 m7 m8 m9 m10 m11 m12 m13 m14 zz.1 zz.2
end
section
variable(v:waH)(most:Int)(n:Int)(i:Int)
def jI:az:=bO 113 [(0,sl bN v),(1,.int .i64 most),(5,.int .i64 n),(6,.int .i64 i)] [] []
def nU(o:Int):az:=bO 113 [(5,.int .i64 o)] [] []
instance iS_R23_countDefs_L1:KS 0 (jI v most n i):=ks 0 rfl
instance iO_R23_countDefs_L1{o:Int}:KS 0 (nU o):=ks 0 rfl
def dT:Option ((Int×Int)⊕(Int)):=
 (iN v most n i).bind λo2=>
 if o2=true then
  (cH v i).bind λx4=>
  (cH v i).bind λx5=>
  (qu .i64 (x5.Name.length:Int) 100).bind λq6=>
  (cH v i).bind λx7=>
  (ei ([x4.Sig.Type_]:List ae) most).bind λr8=>
  (du x4.Sig.Metric most).bind λr9=>
  (qx most x4.Sig.Bounds (bw ((bw ((bw ((bw ((bw ((bw ((bw ((bw (n+1))+q6))+(x7.Params.length:Int)))+(x4.Sig.Vars.length:Int)))+(x4.Sig.Needs.length:Int)))+(x4.Sig.Abs.length:Int)))+r8))+r9)) 0).bind λo18=>
  (cH v i).bind λx19=>
  (AL x19.Body most).bind λr20=>
  some (.inl (bw (o18+r20),bw (i+1)))
 else
  some (.inr n)
def qw:Option Int:=loop (λ(zz:Int×Int)=>dT v most zz.1 zz.2) (n,i)
theorem uw:OL 0 (cA S9 119) (dT v most n i) (λ(zz:Int×Int)=>jI v most zz.1 zz.2) (λ_=>.exit 0) nU (jI v most n i):=S4.lx<|
 tb λo2 bo2=>qT 1<|dn (wz v most n i _ bo2)<|tF (tb λx4 bx4=>tb λx5 bx5=>tb λq6 bq6=>tb λx7 bx7=>tb λr8 br8=>tb λr9 br9=>tb λo18 bo18=>tb λx19 bx19=>tb λr20 br20=>tv (LN.ia (k:=.i64) bx4)<|tw (uT x4)<|tx TM<|tx (Pm x4.Sig)<|oY [0,1,0,0,12,28,60,124,252,511,0,0,3072,7168,15360,31744,65535,0,131072,393216,1048575,0,2097152,6291456,16777215,0,33554432,100663296,268435455,0,536870912,1610612736,0,8053063680,17179869183,0,34359738368,0,257161166848,549755813887,1099511627775]<|tv (LN.ia (k:=.i64) bx5)<|tw (zG x5)<|ck (pZ underlying9 x5.Name)<|tv (pC (P:=Pg) (t:=3) bq6)<|tv (LN.ia (k:=.i64) bx7)<|tw (yk x7)<|ck (lY.ln x7.Params)<|ts<|ck (lY.ln x4.Sig.Vars)<|ts<|ck (T0.ln x4.Sig.Needs)<|ts<|ck (TY.ln x4.Sig.Abs)<|tv (cx x4.Sig.Type_ [sl aj x4.Sig.Metric])<|tv (dl.mk' (v:=nz) jR ([x4.Sig.Type_]:List ae) 1 (by kernel_rfl))<|bP (er _ br8)<|ts<|bP (dv _ br9)<|dn (wD v most i x4.Sig.Vars x4.Sig.Needs x4.Sig.Abs x4.Sig.Bounds x4.Sig.Type_.Op x4.Sig.Type_.Name x4.Sig.Type_.Args x4.Sig.Type_.Names x4.Sig.Type_.Pred.Op x4.Sig.Type_.Pred.Name x4.Sig.Type_.Pred.N x4.Sig.Type_.Pred.Kids x4.Sig.Type_.Preds x4.Sig.Metric (bw ((bw ((bw ((bw ((bw ((bw ((bw ((bw (n+1))+q6))+(x7.Params.length:Int)))+(x4.Sig.Vars.length:Int)))+(x4.Sig.Needs.length:Int)))+(x4.Sig.Abs.length:Int)))+r8))+r9)) 0 _ bo18)<|tv (LN.ia (k:=.i64) bx19)<|tw (yl x19)<|bP (HZ _ br20)<|tE)<|tE
def wC:=vd (s:=(n,i)) λzz=>uw v most zz.1 zz.2
end
def jk(a:waH)(most:Int):Option Int:=
 (qw a most 0 0).bind λo21=>
 some o21
theorem qy{a:waH}{most:Int}:OV 29 [sl bN a,.int .i64 most] (jk a most) (λr=>.int .i64 r) []:=S4.v<|
 tb λo21 bo21=>dn (wC a most 0 0 _ bo21)<|tE
noncomputable def b7:Code:=Tryz.f7.body.getD .skip
theorem Z7:ZF Pg [] 7 Tryz.f7 b7:=zf call7 func7 rfl mixed
section
variable(m:al)
def rE:Option Bool:=
 if decide ((m.Datas.length:Int)>80)=true then
  some true
 else if decide ((m.Classes.length:Int)>80)=true then
  some true
 else if decide ((m.Instances.length:Int)>80)=true then
  some true
 else if decide ((m.Measures.length:Int)>80)=true then
  some true
 else if decide ((m.Quals.length:Int)>80)=true then
  some true
 else
  some (decide ((m.Defs.length:Int)>80))
theorem CW:OU 0 (cA b7 12) (rE m) .normal (λo=>[(45,.bool o)]) (bO 303 [(1,.eptr (am m))] [.dead] []):=Z7.j<|
 have pp2:=λ{X Y Z} (r:PV _ X Y Z)=>tw (bj m)<|ck (vI.ln m.Datas)<|r;tf (λc1=>pp2<|tg 5 c1<|tE) λc1=>have pp4:=λ{X Y Z} (r:PV _ X Y Z)=>pp2<|tg 5 c1<|tw (fB m)<|ck (Q4.ln m.Classes)<|r;tf (λc3=>pp4<|tg 11 c3<|tE) λc3=>have pp6:=λ{X Y Z} (r:PV _ X Y Z)=>pp4<|tg 11 c3<|tw (ej m)<|ck (PH.ln m.Instances)<|r;tf (λc5=>pp6<|tg 17 c5<|tE) λc5=>have pp8:=λ{X Y Z} (r:PV _ X Y Z)=>pp6<|tg 17 c5<|tw (dj m)<|ck (NO.ln m.Measures)<|r;tf (λc7=>pp8<|tg 23 c7<|tE) λc7=>have pp10:=λ{X Y Z} (r:PV _ X Y Z)=>pp8<|tg 23 c7<|tw (fC m)<|ck (Q5.ln m.Quals)<|r;tf (λc9=>pp10<|tg 29 c9<|tE) λc9=>pp10<|tg 29 c9<|tw (lS m)<|ck (LN.ln m.Defs)<|tE
end
section
variable(m:al)(n:Int)(i:Int)
def mX:Option Bool:=
 if decide (i<(m.Datas.length:Int))=true then
  some (decide (n<=4000))
 else
  some false
theorem CX:OU 0 (cA b7 988) (mX m n i) .normal (λo=>[(57,.bool o)]) (bO 303 [(1,.eptr (am m)),(3,.int .i64 n),(4,.int .i64 i)] [.dead] []):=Z7.j<|
 have pp15:=λ{X Y Z} (r:PV _ X Y Z)=>tw (bj m)<|ck (vI.ln m.Datas)<|r;tf (λc14=>pp15<|tg 6 c14<|tE) λc14=>pp15<|tg 6 c14<|tE
end
section
variable(m:al)(n:Int)(i:Int)(k:Int)
def mY:Option Bool:=
 (cH m.Datas i).bind λx22=>
 if decide (k<(x22.Cons.length:Int))=true then
  some (decide (n<=4000))
 else
  some false
theorem CY:OU 0 (cA b7 126844) (mY m n i k) .normal (λo=>[(99,.bool o)]) (bO 303 [(1,.eptr (am m)),(3,.int .i64 n),(4,.int .i64 i),(5,.int .i64 k)] [.dead] []):=Z7.j<|
 tb λx22 bx22=>have pp24:=λ{X Y Z} (r:PV _ X Y Z)=>tw (bj m)<|tv (vI.ia (k:=.i64) bx22)<|tw (eY x22)<|ck (Dj.ln x22.Cons)<|r;tf (λc23=>pp24<|tg 10 c23<|tE) λc23=>pp24<|tg 10 c23<|tE
end
section
variable(m:al)(i:Int)(n:Int)(k:Int)
def ur:az:=bO 303 [(1,.eptr (am m)),(3,.int .i64 n),(4,.int .i64 i),(5,.int .i64 k)] [.dead] []
def D2(o:Int):az:=bO 303 [(1,.eptr (am m)),(3,.int .i64 o),(4,.int .i64 i)] [.dead] []
def fS:Option ((Int×Int)⊕(Int)):=
 (mY m n i k).bind λo25=>
 if o25=true then
  (cH m.Datas i).bind λx27=>
  (cH x27.Cons k).bind λx28=>
  (cH m.Datas i).bind λx29=>
  (cH x29.Cons k).bind λx30=>
  (ei x30.Fields 4000).bind λr31=>
  some (.inl (bw ((bw ((bw (n+1))+(x28.Names.length:Int)))+r31),bw (k+1)))
 else
  some (.inr n)
def zk:Option Int:=loop (λ(zz:Int×Int)=>fS m i zz.1 zz.2) (n,k)
theorem AY:OL 0 (cA b7 31711) (fS m i n k) (λ(zz:Int×Int)=>ur m i zz.1 zz.2) (λ_=>.exit 2) (D2 m i) (ur m i n k):=Z7.l<|
 tb λo25 bo25=>qT 1<|dn (CY m n i k _ bo25)<|tF (tb λx27 bx27=>tb λx28 bx28=>tb λx29 bx29=>tb λx30 bx30=>tb λr31 br31=>oY [0,1,0,4,0,28,60,124,0,508,1020,2044,4092,8191,0,16384,0,114688,245760,507904,0,2080768,4177920,8372224,16760832,33554431,67108863]<|tw (bj m)<|tv (vI.ia (k:=.i64) bx27)<|tw (eY x27)<|tv (Dj.ia (k:=.i64) bx28)<|tw (zE x28)<|ck (lY.ln x28.Names)<|tw (bj m)<|tv (vI.ia (k:=.i64) bx29)<|tw (eY x29)<|tv (Dj.ia (k:=.i64) bx30)<|tw (km x30)<|bP (er _ br31)<|tE)<|tE
def C6:=vd (s:=(n,k)) λzz=>AY m i zz.1 zz.2
end
section
variable(m:al)(n:Int)(i:Int)
def uq:az:=bO 303 [(1,.eptr (am m)),(3,.int .i64 n),(4,.int .i64 i)] [.dead] []
def D1(o:Int):az:=bO 303 [(1,.eptr (am m)),(3,.int .i64 o)] [.dead] []
def fR:Option ((Int×Int)⊕(Int)):=
 (mX m n i).bind λo16=>
 if o16=true then
  (cH m.Datas i).bind λx18=>
  (qu .i64 (x18.Name.length:Int) 100).bind λq19=>
  (cH m.Datas i).bind λx20=>
  (cH m.Datas i).bind λx21=>
  (zk m i (bw ((bw ((bw ((bw (n+1))+q19))+(x20.Vars.length:Int)))+(x21.Preds.length:Int))) 0).bind λo32=>
  some (.inl (o32,bw (i+1)))
 else
  some (.inr n)
def zj:Option Int:=loop (λ(zz:Int×Int)=>fR m zz.1 zz.2) (n,i)
theorem AX:OL 0 (cA b7 247) (fR m n i) (λ(zz:Int×Int)=>uq m zz.1 zz.2) (λ_=>.exit 0) (D1 m) (uq m n i):=Z7.l<|
 tb λo16 bo16=>qT 1<|dn (CX m n i _ bo16)<|tF (tb λx18 bx18=>tb λq19 bq19=>tb λx20 bx20=>tb λx21 bx21=>tb λo32 bo32=>oY [0,1,0,4,0,28,60,124,252,508,1023,0,2048,0,14336,30720,63488,129024,262143,0,524288,0,3670016,7864320,16252928,33030144,67108863,134217727]<|tw (bj m)<|tv (vI.ia (k:=.i64) bx18)<|tw (zF x18)<|ck (pZ underlying9 x18.Name)<|tv (pC (P:=Pg) (t:=3) bq19)<|tw (bj m)<|tv (vI.ia (k:=.i64) bx20)<|tw (yi x20)<|ck (lY.ln x20.Vars)<|tw (bj m)<|tv (vI.ia (k:=.i64) bx21)<|tw (yj x21)<|ck (Sw.ln x21.Preds)<|dn (C6 m i (bw ((bw ((bw ((bw (n+1))+q19))+(x20.Vars.length:Int)))+(x21.Preds.length:Int))) 0 _ bo32)<|tE)<|tE
def C5:=vd (s:=(n,i)) λzz=>AX m zz.1 zz.2
end
section
variable(m:al)(n:Int)(i:Int)
def mZ:Option Bool:=
 if decide (i<(m.Classes.length:Int))=true then
  some (decide (n<=4000))
 else
  some false
theorem CZ:OU 0 (cA b7 2012) (mZ m n i) .normal (λo=>[(136,.bool o)]) (bO 303 [(1,.eptr (am m)),(3,.int .i64 n),(6,.int .i64 i)] [.dead] []):=Z7.j<|
 have pp35:=λ{X Y Z} (r:PV _ X Y Z)=>tw (fB m)<|ck (Q4.ln m.Classes)<|r;tf (λc34=>pp35<|tg 6 c34<|tE) λc34=>pp35<|tg 6 c34<|tE
end
section
variable(m:al)(n:Int)(i:Int)(k:Int)
def na:Option Bool:=
 (cH m.Classes i).bind λx38=>
 if decide (k<(x38.Methods.length:Int))=true then
  some (decide (n<=4000))
 else
  some false
theorem C0:OU 0 (cA b7 128956) (na m n i k) .normal (λo=>[(151,.bool o)]) (bO 303 [(1,.eptr (am m)),(3,.int .i64 n),(6,.int .i64 i),(7,.int .i64 k)] [.dead] []):=Z7.j<|
 tb λx38 bx38=>have pp40:=λ{X Y Z} (r:PV _ X Y Z)=>tw (fB m)<|tv (Q4.ia (k:=.i64) bx38)<|tw (mN x38)<|ck (TZ.ln x38.Methods)<|r;tf (λc39=>pp40<|tg 10 c39<|tE) λc39=>pp40<|tg 10 c39<|tE
end
section
variable(m:al)(i:Int)(n:Int)(k:Int)
def uv:az:=bO 303 [(1,.eptr (am m)),(3,.int .i64 n),(6,.int .i64 i),(7,.int .i64 k)] [.dead] []
def D4(o:Int):az:=bO 303 [(1,.eptr (am m)),(3,.int .i64 o),(6,.int .i64 i)] [.dead] []
def fU:Option ((Int×Int)⊕(Int)):=
 (na m n i k).bind λo41=>
 if o41=true then
  (cH m.Classes i).bind λx43=>
  (cH x43.Methods k).bind λx44=>
  (ei ([x44.Type_]:List ae) 4000).bind λr45=>
  some (.inl (bw ((bw (n+1))+r45),bw (k+1)))
 else
  some (.inr n)
def zm:Option Int:=loop (λ(zz:Int×Int)=>fU m i zz.1 zz.2) (n,k)
theorem A0:OL 0 (cA b7 32239) (fU m i n k) (λ(zz:Int×Int)=>uv m i zz.1 zz.2) (λ_=>.exit 6) (D4 m i) (uv m i n k):=Z7.l<|
 tb λo41 bo41=>qT 1<|dn (C0 m n i k _ bo41)<|tF (tb λx43 bx43=>tb λx44 bx44=>tb λr45 br45=>tw (fB m)<|tv (Q4.ia (k:=.i64) bx43)<|tw (mN x43)<|tv (TZ.ia (k:=.i64) bx44)<|tw (uU x44)<|tv (dl.mk' (v:=nz) jR ([x44.Type_]:List ae) 1 (by kernel_rfl))<|bP (er _ br45)<|tE)<|tE
def C8:=vd (s:=(n,k)) λzz=>A0 m i zz.1 zz.2
end
section
variable(m:al)(n:Int)(i:Int)
def ut:az:=bO 303 [(1,.eptr (am m)),(3,.int .i64 n),(6,.int .i64 i)] [.dead] []
def D3(o:Int):az:=bO 303 [(1,.eptr (am m)),(3,.int .i64 o)] [.dead] []
def fT:Option ((Int×Int)⊕(Int)):=
 (mZ m n i).bind λo36=>
 if o36=true then
  (zm m i n 0).bind λo46=>
  some (.inl (o46,bw (i+1)))
 else
  some (.inr n)
def zl:Option Int:=loop (λ(zz:Int×Int)=>fT m zz.1 zz.2) (n,i)
theorem AZ:OL 0 (cA b7 503) (fT m n i) (λ(zz:Int×Int)=>ut m zz.1 zz.2) (λ_=>.exit 4) (D3 m) (ut m n i):=Z7.l<|
 tb λo36 bo36=>qT 1<|dn (CZ m n i _ bo36)<|tF (tb λo46 bo46=>dn (C8 m i n 0 _ bo46)<|tE)<|tE
def C7:=vd (s:=(n,i)) λzz=>AZ m zz.1 zz.2
end
section
variable(m:al)(n:Int)(i:Int)
def ls:Option Bool:=
 if decide (i<(m.Instances.length:Int))=true then
  some (decide (n<=4000))
 else
  some false
theorem AP:OU 0 (cA b7 4060) (ls m n i) .normal (λo=>[(177,.bool o)]) (bO 303 [(1,.eptr (am m)),(3,.int .i64 n),(8,.int .i64 i)] [.dead] []):=Z7.j<|
 have pp49:=λ{X Y Z} (r:PV _ X Y Z)=>tw (ej m)<|ck (PH.ln m.Instances)<|r;tf (λc48=>pp49<|tg 6 c48<|tE) λc48=>pp49<|tg 6 c48<|tE
end
section
variable(m:al)(n:Int)(i:Int)
def sG:az:=bO 303 [(1,.eptr (am m)),(3,.int .i64 n),(8,.int .i64 i)] [.dead] []
def C1(o:Int):az:=bO 303 [(1,.eptr (am m)),(3,.int .i64 o)] [.dead] []
def fl:Option ((Int×Int)⊕(Int)):=
 (ls m n i).bind λo50=>
 if o50=true then
  (cH m.Instances i).bind λx52=>
  (cH m.Instances i).bind λx53=>
  (ei ([x53.Type_]:List ae) 4000).bind λr54=>
  (cH m.Instances i).bind λx55=>
  (jk x55.Defs 4000).bind λr56=>
  some (.inl (bw ((bw ((bw ((bw (n+1))+(x52.Needs.length:Int)))+r54))+r56),bw (i+1)))
 else
  some (.inr n)
def wU:Option Int:=loop (λ(zz:Int×Int)=>fl m zz.1 zz.2) (n,i)
theorem zd:OL 0 (cA b7 1015) (fl m n i) (λ(zz:Int×Int)=>sG m zz.1 zz.2) (λ_=>.exit 8) (C1 m) (sG m n i):=Z7.l<|
 tb λo50 bo50=>qT 1<|dn (AP m n i _ bo50)<|tF (tb λx52 bx52=>tb λx53 bx53=>tb λr54 br54=>tb λx55 bx55=>tb λr56 br56=>oY [0,1,0,4,0,28,60,124,252,511,0,1024,0,7168,15360,31744,64512,130048,262143,0,524288,0,3670016,7864320,16252928,33291264,67108863,134217727]<|tw (ej m)<|tv (PH.ia (k:=.i64) bx52)<|tw (qD x52)<|ck (T0.ln x52.Needs)<|tw (ej m)<|tv (PH.ia (k:=.i64) bx53)<|tw (rU x53)<|tv (dl.mk' (v:=nz) jR ([x53.Type_]:List ae) 1 (by kernel_rfl))<|bP (er _ br54)<|tw (ej m)<|tv (PH.ia (k:=.i64) bx55)<|tw (qE x55)<|bP (qy _ br56)<|tE)<|tE
def AT:=vd (s:=(n,i)) λzz=>zd m zz.1 zz.2
end
section
variable(m:al)(n:Int)(i:Int)
def lu:Option Bool:=
 if decide (i<(m.Measures.length:Int))=true then
  some (decide (n<=4000))
 else
  some false
theorem AQ:OU 0 (cA b7 8156) (lu m n i) .normal (λo=>[(215,.bool o)]) (bO 303 [(1,.eptr (am m)),(3,.int .i64 n),(9,.int .i64 i)] [.dead] []):=Z7.j<|
 have pp59:=λ{X Y Z} (r:PV _ X Y Z)=>tw (dj m)<|ck (NO.ln m.Measures)<|r;tf (λc58=>pp59<|tg 6 c58<|tE) λc58=>pp59<|tg 6 c58<|tE
end
section
variable(m:al)(n:Int)(i:Int)(k:Int)
def ly:Option Bool:=
 (cH m.Measures i).bind λx64=>
 if decide (k<(x64.Cases.length:Int))=true then
  some (decide (n<=4000))
 else
  some false
theorem AR:OU 0 (cA b7 1044348) (ly m n i k) .normal (λo=>[(241,.bool o)]) (bO 303 [(1,.eptr (am m)),(3,.int .i64 n),(9,.int .i64 i),(10,.int .i64 k)] [.dead] []):=Z7.j<|
 tb λx64 bx64=>have pp66:=λ{X Y Z} (r:PV _ X Y Z)=>tw (dj m)<|tv (NO.ia (k:=.i64) bx64)<|tw (hU x64)<|ck (Sx.ln x64.Cases)<|r;tf (λc65=>pp66<|tg 10 c65<|tE) λc65=>pp66<|tg 10 c65<|tE
end
section
variable(m:al)(i:Int)(n:Int)(k:Int)
def sI:az:=bO 303 [(1,.eptr (am m)),(3,.int .i64 n),(9,.int .i64 i),(10,.int .i64 k)] [.dead] []
def C3(o:Int):az:=bO 303 [(1,.eptr (am m)),(3,.int .i64 o),(9,.int .i64 i)] [.dead] []
def fp:Option ((Int×Int)⊕(Int)):=
 (ly m n i k).bind λo67=>
 if o67=true then
  (cH m.Measures i).bind λx69=>
  (cH x69.Cases k).bind λx70=>
  (cH m.Measures i).bind λx71=>
  (cH x71.Cases k).bind λx72=>
  (du ([x72.Body]:List ag) 4000).bind λr73=>
  some (.inl (bw ((bw ((bw (n+1))+(x70.Names.length:Int)))+r73),bw (k+1)))
 else
  some (.inr n)
def wW:Option Int:=loop (λ(zz:Int×Int)=>fp m i zz.1 zz.2) (n,k)
theorem zg:OL 0 (cA b7 261087) (fp m i n k) (λ(zz:Int×Int)=>sI m i zz.1 zz.2) (λ_=>.exit 12) (C3 m i) (sI m i n k):=Z7.l<|
 tb λo67 bo67=>qT 1<|dn (AR m n i k _ bo67)<|tF (tb λx69 bx69=>tb λx70 bx70=>tb λx71 bx71=>tb λx72 bx72=>tb λr73 br73=>oY [0,1,0,4,0,28,60,124,0,508,1020,2044,4092,8191,0,16384,0,114688,245760,507904,0,2080768,4177920,8372224,16760832,33538048,67108863,134217727]<|tw (dj m)<|tv (NO.ia (k:=.i64) bx69)<|tw (hU x69)<|tv (Sx.ia (k:=.i64) bx70)<|tw (yg x70)<|ck (lY.ln x70.Names)<|tw (dj m)<|tv (NO.ia (k:=.i64) bx71)<|tw (hU x71)<|tv (Sx.ia (k:=.i64) bx72)<|tw (yh x72)<|tv (iC.mk' (v:=sB) nF ([x72.Body]:List ag) 1 (by kernel_rfl))<|bP (dv _ br73)<|tE)<|tE
def AV:=vd (s:=(n,k)) λzz=>zg m i zz.1 zz.2
end
section
variable(m:al)(n:Int)(i:Int)
def sH:az:=bO 303 [(1,.eptr (am m)),(3,.int .i64 n),(9,.int .i64 i)] [.dead] []
def C2(o:Int):az:=bO 303 [(1,.eptr (am m)),(3,.int .i64 o)] [.dead] []
def fm:Option ((Int×Int)⊕(Int)):=
 (lu m n i).bind λo60=>
 if o60=true then
  (cH m.Measures i).bind λx62=>
  (du ([x62.Inv]:List ag) 4000).bind λr63=>
  (wW m i (bw ((bw (n+1))+r63)) 0).bind λo74=>
  some (.inl (o74,bw (i+1)))
 else
  some (.inr n)
def wV:Option Int:=loop (λ(zz:Int×Int)=>fm m zz.1 zz.2) (n,i)
theorem ze:OL 0 (cA b7 2039) (fm m n i) (λ(zz:Int×Int)=>sH m zz.1 zz.2) (λ_=>.exit 10) (C2 m) (sH m n i):=Z7.l<|
 tb λo60 bo60=>qT 1<|dn (AQ m n i _ bo60)<|tF (tb λx62 bx62=>tb λr63 br63=>tb λo74 bo74=>tw (dj m)<|tv (NO.ia (k:=.i64) bx62)<|tw (tJ x62)<|tv (iC.mk' (v:=sB) nF ([x62.Inv]:List ag) 1 (by kernel_rfl))<|bP (dv _ br63)<|dn (AV m i (bw ((bw (n+1))+r63)) 0 _ bo74)<|tE)<|tE
def AU:=vd (s:=(n,i)) λzz=>ze m zz.1 zz.2
end
section
variable(m:al)(n:Int)(i:Int)
def lz:Option Bool:=
 if decide (i<(m.Quals.length:Int))=true then
  some (decide (n<=4000))
 else
  some false
theorem AS:OU 0 (cA b7 16348) (lz m n i) .normal (λo=>[(279,.bool o)]) (bO 303 [(1,.eptr (am m)),(3,.int .i64 n),(11,.int .i64 i)] [.dead] []):=Z7.j<|
 have pp77:=λ{X Y Z} (r:PV _ X Y Z)=>tw (fC m)<|ck (Q5.ln m.Quals)<|r;tf (λc76=>pp77<|tg 6 c76<|tE) λc76=>pp77<|tg 6 c76<|tE
end
section
variable(m:al)(n:Int)(i:Int)
def sJ:az:=bO 303 [(1,.eptr (am m)),(3,.int .i64 n),(11,.int .i64 i)] [.dead] []
def C4(o:Int):az:=bO 303 [(3,.int .i64 o)] [.dead] []
def fq:Option ((Int×Int)⊕(Int)):=
 (lz m n i).bind λo78=>
 if o78=true then
  (cH m.Quals i).bind λx80=>
  (cH m.Quals i).bind λx81=>
  (du ([x81.Body]:List ag) 4000).bind λr82=>
  some (.inl (bw ((bw ((bw (n+1))+(x80.Vars.length:Int)))+r82),bw (i+1)))
 else
  some (.inr n)
def wX:Option Int:=loop (λ(zz:Int×Int)=>fq m zz.1 zz.2) (n,i)
theorem zh:OL 0 (cA b7 4087) (fq m n i) (λ(zz:Int×Int)=>sJ m zz.1 zz.2) (λ_=>.exit 14) C4 (sJ m n i):=Z7.l<|
 tb λo78 bo78=>qT 1<|dn (AS m n i _ bo78)<|tF (tb λx80 bx80=>tb λx81 bx81=>tb λr82 br82=>oY [0,1,0,4,0,28,60,124,252,511,0,1024,0,7168,15360,31744,64512,130048,262143,524287]<|tw (fC m)<|tv (Q5.ia (k:=.i64) bx80)<|tw (ym x80)<|ck (Sw.ln x80.Vars)<|tw (fC m)<|tv (Q5.ia (k:=.i64) bx81)<|tw (yn x81)<|tv (iC.mk' (v:=sB) nF ([x81.Body]:List ag) 1 (by kernel_rfl))<|bP (dv _ br82)<|tE)<|tE
def AW:=vd (s:=(n,i)) λzz=>zh m zz.1 zz.2
end
def vV(m:al):Option Bool:=
 (rE m).bind λo11=>
 if o11=true then
  some false
 else
  (jk m.Defs 4000).bind λr13=>
  (zj m r13 0).bind λo33=>
  (zl m o33 0).bind λo47=>
  (wU m o47 0).bind λo57=>
  (wV m o57 0).bind λo75=>
  (wX m o75 0).bind λo83=>
  some (decide (o83<=4000))
theorem H1{m:al}:OV 7 [.agg (am m)] (vV m) (λr=>.bool r) []:=Z7.v<|
 tb λo11 bo11=>te (de m)<|qT 1<|dn (CW m _ bo11)<|tF tE<|tb λr13 br13=>tb λo33 bo33=>tb λo47 bo47=>tb λo57 bo57=>tb λo75 bo75=>tb λo83 bo83=>tw (lS m)<|bP (qy _ br13)<|dn (C5 m r13 0 _ bo33)<|dn (C7 m o33 0 _ bo47)<|dn (AT m o47 0 _ bo57)<|dn (AU m o57 0 _ bo75)<|dn (AW m o75 0 _ bo83)<|tE
abbrev n5:=(aa->Int->Option Int)
abbrev nJ(R:n5):Prop:=∀(v:aa) (most:Int),OV 32 [.agg (ac v),.int .i64 most] (R v most) (λr=>.int .i64 r) []
abbrev nZ:=(aq->Int->Option Int)
abbrev nI(R:nZ):Prop:=∀(e:aq) (most:Int),OV 9 [.agg (ak e),.int .i64 most] (R e most) (λr=>.int .i64 r) []
abbrev pA:=(waB->Int->Option Int)
abbrev tS(R:pA):Prop:=∀(a:waB) (most:Int),OV 33 [sl af a,.int .i64 most] (R a most) (λr=>.int .i64 r) []
abbrev pz:=(waF->Int->Option Int)
abbrev tR(R:pz):Prop:=∀(a:waF) (most:Int),OV 71 [sl aj a,.int .i64 most] (R a most) (λr=>.int .i64 r) []
noncomputable def U6:Code:=f71.body.getD .skip
theorem UO:ZF Pg [39] 71 f71 U6:=zf call71 func71 rfl mixed
section
variable(v:waF)(most:Int)(n:Int)(i:Int)
def mS:Option Bool:=
 if decide (i<(v.length:Int))=true then
  some (decide (n<=most))
 else
  some false
theorem CL:OU 0 (cA U6 476) (mS v most n i) .normal (λo=>[(15,.bool o)]) (bO 40 [(0,sl aj v),(1,.int .i64 most),(5,.int .i64 n),(6,.int .i64 i)] [] []):=UO.j<|
 tf (λc1=>ck (iC.ln v)<|tg 5 c1<|tE) λc1=>ck (iC.ln v)<|tg 5 c1<|tE
end
section
variable(R11:pz)(v:waF)(most:Int)(n:Int)(i:Int)
def uh:az:=bO 40 [(0,sl aj v),(1,.int .i64 most),(5,.int .i64 n),(6,.int .i64 i)] [] []
def DW(o:Int):az:=bO 40 [(5,.int .i64 o)] [] []
def fM:Option ((Int×Int)⊕(Int)):=
 (mS v most n i).bind λo2=>
 if o2=true then
  (cH v i).bind λx4=>
  (qu .i64 (x4.Name.length:Int) 50).bind λq5=>
  (cH v i).bind λx6=>
  (R11 x6.Kids (bw (most - (bw ((bw (n+1))+q5))))).bind λr7=>
  some (.inl (bw ((bw ((bw (n+1))+q5))+r7),bw (i+1)))
 else
  some (.inr n)
def y7:Option Int:=loop (λ(zz:Int×Int)=>fM R11 v most zz.1 zz.2) (n,i)
theorem AJ(hR11:tR R11):OL 0 (cA U6 119) (fM R11 v most n i) (λ(zz:Int×Int)=>uh v most zz.1 zz.2) (λ_=>.exit 0) DW (uh v most n i):=UO.l<|
 tb λo2 bo2=>qT 1<|dn (CL v most n i _ bo2)<|tF (tb λx4 bx4=>tb λq5 bq5=>tb λx6 bx6=>tb λr7 br7=>tv (iC.ia (k:=.i64) bx4)<|tw (eu x4)<|ck (pZ underlying9 x4.Name)<|tv (pC (P:=Pg) (t:=3) bq5)<|tv (iC.ia (k:=.i64) bx6)<|tw (co x6)<|bP (hR11 _ _ _ br7)<|tE)<|tE
def CM(hR11:tR R11):=vd (s:=(n,i)) λzz=>AJ R11 v most zz.1 zz.2 hR11
end
def po(R11:pz)(a:waF)(most:Int):Option Int:=
 (y7 R11 a most 0 0).bind λo8=>
 some o8
theorem FW(R11:pz)(hR11:tR R11){a:waF}{most:Int}:OV 71 [sl aj a,.int .i64 most] (po R11 a most) (λr=>.int .i64 r) []:=UO.v<|
 tb λo8 bo8=>dn (CM R11 a most 0 0 hR11 _ bo8)<|tE
def ug:((waF×Int)->Option Int)->(waF×Int)->Option Int:=λ(rec:(waF×Int)->Option Int) (x:waF×Int)=>po (λa most=>rec (a,most)) x.1 x.2
def AI(a:waF)(most:Int):Option Int:=kT ug (a,most)
theorem HY{a:waF}{most:Int}:OV 71 [sl aj a,.int .i64 most] (AI a most) (λr=>.int .i64 r) []:=mP λ_ h=>
 ct (F:=ug) (M:=λ(x:waF×Int) (r:Int)=>CC Pg GE 71 [sl aj x.1,.int .i64 x.2] (.int .i64 r) []) (λrec hrec x r h=>FW _ (λa most=>mP λr h=>hrec (a,most) r h) _ h) h
noncomputable def UV:Code:=f33.body.getD .skip
theorem UI:ZF Pg [61] 33 f33 UV:=zf call33 func33 rfl mixed
section
variable(v:waB)(most:Int)(n:Int)(i:Int)
def mT:Option Bool:=
 if decide (i<(v.length:Int))=true then
  some (decide (n<=most))
 else
  some false
theorem CO:OU 0 (cA UV 476) (mT v most n i) .normal (λo=>[(15,.bool o)]) (bO 62 [(0,sl af v),(1,.int .i64 most),(5,.int .i64 n),(6,.int .i64 i)] [] []):=UI.j<|
 tf (λc1=>ck (dl.ln v)<|tg 5 c1<|tE) λc1=>ck (dl.ln v)<|tg 5 c1<|tE
end
section
variable(R10:pA)(v:waB)(most:Int)(n:Int)(i:Int)
def uj:az:=bO 62 [(0,sl af v),(1,.int .i64 most),(5,.int .i64 n),(6,.int .i64 i)] [] []
def DX(o:Int):az:=bO 62 [(5,.int .i64 o)] [] []
def fN:Option ((Int×Int)⊕(Int)):=
 (mT v most n i).bind λo2=>
 if o2=true then
  (cH v i).bind λx4=>
  (qu .i64 (x4.Name.length:Int) 50).bind λq5=>
  (cH v i).bind λx6=>
  (cH v i).bind λx7=>
  (cH v i).bind λx8=>
  (app ([x7.Pred]:List ag) x8.Preds).bind λl9=>
  (AI l9 most).bind λr10=>
  (cH v i).bind λx11=>
  (R10 x11.Args (bw (most - (bw ((bw ((bw ((bw (n+1))+q5))+(x6.Names.length:Int)))+r10))))).bind λr12=>
  some (.inl (bw ((bw ((bw ((bw ((bw (n+1))+q5))+(x6.Names.length:Int)))+r10))+r12),bw (i+1)))
 else
  some (.inr n)
def y8:Option Int:=loop (λ(zz:Int×Int)=>fN R10 v most zz.1 zz.2) (n,i)
theorem AK(hR10:tS R10):OL 0 (cA UV 119) (fN R10 v most n i) (λ(zz:Int×Int)=>uj v most zz.1 zz.2) (λ_=>.exit 0) DX (uj v most n i):=UI.l<|
 tb λo2 bo2=>qT 1<|dn (CO v most n i _ bo2)<|tF (tb λx4 bx4=>tb λq5 bq5=>tb λx6 bx6=>tb λx7 bx7=>tb λx8 bx8=>tb λl9 bl9=>tb λr10 br10=>tb λx11 bx11=>tb λr12 br12=>oY [0,1,0,0,12,28,60,124,252,511,0,0,3072,7168,15360,31744,65535,0,0,393216,917504,1966080,4063232,0,0,25165824,58720256,125829120,268304384,0,1073610752,2147483647,4294967295]<|tv (dl.ia (k:=.i64) bx4)<|tw (bM x4)<|ck (pZ underlying9 x4.Name)<|tv (pC (P:=Pg) (t:=3) bq5)<|tv (dl.ia (k:=.i64) bx6)<|tw (dW x6)<|ck (lY.ln x6.Names)<|tv (dl.ia (k:=.i64) bx7)<|tw (dY x7)<|tv (iC.mk' (v:=sB) nF ([x7.Pred]:List ag) 1 (by kernel_rfl))<|tv (dl.ia (k:=.i64) bx8)<|tw (cp x8)<|tv (iC.ap bl9)<|bP (HY _ br10)<|tv (dl.ia (k:=.i64) bx11)<|tw (aL x11)<|bP (hR10 _ _ _ br12)<|tE)<|tE
def CP(hR10:tS R10):=vd (s:=(n,i)) λzz=>AK R10 v most zz.1 zz.2 hR10
end
def pp(R10:pA)(a:waB)(most:Int):Option Int:=
 (y8 R10 a most 0 0).bind λo13=>
 some o13
theorem FX(R10:pA)(hR10:tS R10){a:waB}{most:Int}:OV 33 [sl af a,.int .i64 most] (pp R10 a most) (λr=>.int .i64 r) []:=UI.v<|
 tb λo13 bo13=>dn (CP R10 a most 0 0 hR10 _ bo13)<|tE
def ui:((waB×Int)->Option Int)->(waB×Int)->Option Int:=λ(rec:(waB×Int)->Option Int) (x:waB×Int)=>pp (λa most=>rec (a,most)) x.1 x.2
def vU(a:waB)(most:Int):Option Int:=kT ui (a,most)
theorem y9{a:waB}{most:Int}:OV 33 [sl af a,.int .i64 most] (vU a most) (λr=>.int .i64 r) []:=mP λ_ h=>
 ct (F:=ui) (M:=λ(x:waB×Int) (r:Int)=>CC Pg GE 33 [sl af x.1,.int .i64 x.2] (.int .i64 r) []) (λrec hrec x r h=>FX _ (λa most=>mP λr h=>hrec (a,most) r h) _ h) h
noncomputable def UW:Code:=f34.body.getD .skip
theorem UJ:ZF Pg [27] 34 f34 UW:=zf call34 func34 rfl mixed
section
variable(v:waA)(most:Int)(n:Int)(i:Int)
def mR:Option Bool:=
 if decide (i<(v.length:Int))=true then
  some (decide (n<=most))
 else
  some false
theorem CJ:OU 0 (cA UW 476) (mR v most n i) .normal (λo=>[(15,.bool o)]) (bO 28 [(0,sl cS v),(1,.int .i64 most),(5,.int .i64 n),(6,.int .i64 i)] [] []):=UJ.j<|
 tf (λc1=>ck (lY.ln v)<|tg 5 c1<|tE) λc1=>ck (lY.ln v)<|tg 5 c1<|tE
end
section
variable(v:waA)(most:Int)(n:Int)(i:Int)
def uf:az:=bO 28 [(0,sl cS v),(1,.int .i64 most),(5,.int .i64 n),(6,.int .i64 i)] [] []
def DV(o:Int):az:=bO 28 [(5,.int .i64 o)] [] []
def fL:Option ((Int×Int)⊕(Int)):=
 (mR v most n i).bind λo2=>
 if o2=true then
  (cH v i).bind λx4=>
  (qu .i64 (x4.length:Int) 50).bind λq5=>
  some (.inl (bw ((bw (n+1))+q5),bw (i+1)))
 else
  some (.inr n)
def y6:Option Int:=loop (λ(zz:Int×Int)=>fL v most zz.1 zz.2) (n,i)
theorem AH:OL 0 (cA UW 119) (fL v most n i) (λ(zz:Int×Int)=>uf v most zz.1 zz.2) (λ_=>.exit 0) DV (uf v most n i):=UJ.l<|
 tb λo2 bo2=>qT 1<|dn (CJ v most n i _ bo2)<|tF (tb λx4 bx4=>tb λq5 bq5=>tv (lY.ia (k:=.i64) bx4)<|tv (yB T8 (.str x4) [])<|ck (pZ underlying9 x4)<|tv (pC (P:=Pg) (t:=3) bq5)<|tE)<|tE
def CK:=vd (s:=(n,i)) λzz=>AH v most zz.1 zz.2
end
def vT(a:waA)(most:Int):Option Int:=
 (y6 a most 0 0).bind λo6=>
 some o6
theorem HX{a:waA}{most:Int}:OV 34 [sl cS a,.int .i64 most] (vT a most) (λr=>.int .i64 r) []:=UJ.v<|
 tb λo6 bo6=>dn (CK a most 0 0 _ bo6)<|tE
end Go.Proofs.YtjddnhkahpfhdaaGreatDoor
