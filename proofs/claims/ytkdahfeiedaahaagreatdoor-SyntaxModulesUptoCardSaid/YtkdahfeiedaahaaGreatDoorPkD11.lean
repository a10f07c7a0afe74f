/- PROVED: a part of the proof. Conditions: none. -/
import Derived.Test.YtkdahfeiedaahaaGreatDoorPkD9
import Derived.Test.YtkdahfeiedaahaaGreatDoorPkD10
noncomputable section
namespace Go.Proofs.YtkdahfeiedaahaaGreatDoor
open Go Go.Proofs.Tryz
set_option linter.unusedVariables false
set_option maxRecDepth 100000
abbrev wx:=(af->Int->Option Int)
abbrev vW(R:wx):Prop:=∀(e:af) (most:Int) (r:Int),R e most=some r->CC Pg GE 46 [.agg (ac e),.int .i64 most] (.int .i64 r) []
abbrev xL:=(waC->Int->Option Int)
abbrev BG(R:xL):Prop:=∀(a:waC) (most:Int) (r:Int),R a most=some r->CC Pg GE 95 [sl ah a,.int .i64 most] (.int .i64 r) []
abbrev xK:=(waB->Int->Option Int)
abbrev BF(R:xK):Prop:=∀(a:waB) (most:Int) (r:Int),R a most=some r->CC Pg GE 132 [sl al a,.int .i64 most] (.int .i64 r) []
noncomputable def Wc:Code:=f132.body.getD .skip
def Ui:List Nat:=[39]
theorem Z132:ZF Ui 132 f132 Wc:=⟨call132,func132,rfl⟩
section
variable(v:waB)(most:Int)(n:Int)(i:Int)
def La:aB:=aS 40 [(0,sl al v),(1,.int .i64 most),(5,.int .i64 n),(6,.int .i64 i)] [] []
def wo(o:Bool):aB:=aS 40 [(0,sl al v),(1,.int .i64 most),(5,.int .i64 n),(6,.int .i64 i),(15,.bool o)] [] []
def uY:Option Bool:=
 if(decide (i<(v.length:Int)))=true then
  some (decide (n<=most))
 else
  some false
theorem JM{x:Bool}(h:uY v most n i=some x):aW Pg GE 0 (cA Wc 476) (EX .normal (wo v most n i x)) (La v most n i):=by
 rcases aO h with⟨c1,h⟩|⟨c1,h⟩
 ·obtain rfl:=lf h
  exact bv Ui (bQ (oh.ln v)<|sg 5 c1<|eF .normal (wo v most n i (decide (n<=most))))<|by kernel_rfl
 ·obtain rfl:=lf h
  exact bv Ui (bQ (oh.ln v)<|sg 5 c1<|eF .normal (wo v most n i false))<|by kernel_rfl
end
section
variable(R5:xK)(v:waB)(most:Int)(n:Int)(i:Int)
def qp:aB:=aS 40 [(0,sl al v),(1,.int .i64 most),(5,.int .i64 n),(6,.int .i64 i)] [] []
def wq(o:Int):aB:=aS 40 [(5,.int .i64 o)] [] []
def ku:Option ((Int×Int)⊕(Int)):=
 (uY v most n i).bind fun o2=>
 if o2=true then
  (eT v i).bind fun x5=>
  (qu .i64 (x5.Name.length:Int) 50).bind fun q6=>
  (eT v i).bind fun x7=>
  (R5 x7.Kids (bB (most - (bB ((bB (n+1))+q6))))).bind fun r8=>
  some (.inl (bB ((bB ((bB (n+1))+q6))+r8),bB (i+1)))
 else
  some (.inr n)
def Aa:Option Int:=loop (fun(zz:Int×Int)=>ku R5 v most zz.1 zz.2) (n,i)
theorem HK(hR5:BF R5){y:(Int×Int)⊕(Int)}(h:ku R5 v most n i=some y):aW Pg GE 0 (cA Wc 119) (LQ (fun(zz:Int×Int)=>qp v most zz.1 zz.2) (fun _=>.exit 0) wq y) (qp v most n i):=by
 obtain⟨o2,bo2,h⟩:=ck h
 have p4:=fun{sc F} (r:PS sc F)=>nF 1<|cT (JM v most n i bo2)<|r
 rcases aO h with⟨c3,h⟩|⟨c3,h⟩
 ·obtain⟨x5,bx5,q6,bq6,x7,bx7,r8,br8,h⟩:=Zb4 h
  obtain rfl:=lf h
  exact wJ Ui (p4<|sg 0 c3<|sv (oh.ia (k:=.i64) bx5)<|sv (oF x5)<|sv (qG x5)<|bQ (oL underlying9 x5.Name)<|sv (Nr (P:=Pg) (t:=3) bq6)<|sv (oh.ia (k:=.i64) bx7)<|sv (gG x7)<|sv (gI x7)<|cD (hR5 _ _ _ br8)<|eF .normal (qp v most (bB ((bB ((bB (n+1))+q6))+r8)) (bB (i+1))))<|by kernel_rfl
 ·obtain rfl:=lf h
  have z:=p4<|sg 0 c3<|eF (.exit 0) (wq n)
  exact hU Ui (Zn rfl) z<|by kernel_rfl
theorem JN(hR5:BF R5){x:Int}(h:Aa R5 v most n i=some x):aW Pg GE 0 (.loop (cA Wc 119)) (EX (.exit 0) (wq x)) (qp v most n i):=
 ZL h fun _ _ hy=>HK _ _ _ _ _ hR5 hy
end
def xE(R5:xK)(a:waB)(most:Int):Option Int:=
 (Aa R5 a most 0 0).bind fun o9=>
 some o9
theorem MM(R5:xK)(hR5:BF R5){a:waB}{most:Int}{r:Int}(h:xE R5 a most=some r):CC Pg GE 132 [sl al a,.int .i64 most] (.int .i64 r) []:=by
 obtain⟨o9,bo9,h⟩:=ck h
 obtain rfl:=lf h
 have z:=cT (JN R5 a most 0 0 hR5 bo9)<|en (aI (rP (.int .i64 o9))<|trivial)
 exact Z132.v (aI (aj aQ a) (aI trivial trivial)) z<|by kernel_rfl
def BZ:((waB×Int)->Option Int)->(waB×Int)->Option Int:=fun(rec:(waB×Int)->Option Int) (x:waB×Int)=>xE (fun a most=>rec (a,most)) x.1 x.2
def HJ(a:waB)(most:Int):Option Int:=rE BZ (a,most)
theorem Ol{a:waB}{most:Int}{r:Int}(h:HJ a most=some r):CC Pg GE 132 [sl al a,.int .i64 most] (.int .i64 r) []:=
 ek (F:=BZ) (M:=fun(x:waB×Int) (r:Int)=>CC Pg GE 132 [sl al x.1,.int .i64 x.2] (.int .i64 r) []) (fun rec hrec x r h=>MM _ (fun a most r h=>hrec (a,most) r h) h) h
noncomputable def ZQ:Code:=f95.body.getD .skip
def Yz:List Nat:=[61]
theorem Z95:ZF Yz 95 f95 ZQ:=⟨call95,func95,rfl⟩
section
variable(v:waC)(most:Int)(n:Int)(i:Int)
def Lb:aB:=aS 62 [(0,sl ah v),(1,.int .i64 most),(5,.int .i64 n),(6,.int .i64 i)] [] []
def wr(o:Bool):aB:=aS 62 [(0,sl ah v),(1,.int .i64 most),(5,.int .i64 n),(6,.int .i64 i),(15,.bool o)] [] []
def uZ:Option Bool:=
 if(decide (i<(v.length:Int)))=true then
  some (decide (n<=most))
 else
  some false
theorem JO{x:Bool}(h:uZ v most n i=some x):aW Pg GE 0 (cA ZQ 476) (EX .normal (wr v most n i x)) (Lb v most n i):=by
 rcases aO h with⟨c1,h⟩|⟨c1,h⟩
 ·obtain rfl:=lf h
  exact bv Yz (bQ (ee.ln v)<|sg 5 c1<|eF .normal (wr v most n i (decide (n<=most))))<|by kernel_rfl
 ·obtain rfl:=lf h
  exact bv Yz (bQ (ee.ln v)<|sg 5 c1<|eF .normal (wr v most n i false))<|by kernel_rfl
end
section
variable(R4:xL)(v:waC)(most:Int)(n:Int)(i:Int)
def qq:aB:=aS 62 [(0,sl ah v),(1,.int .i64 most),(5,.int .i64 n),(6,.int .i64 i)] [] []
def ws(o:Int):aB:=aS 62 [(5,.int .i64 o)] [] []
def kv:Option ((Int×Int)⊕(Int)):=
 (uZ v most n i).bind fun o2=>
 if o2=true then
  (eT v i).bind fun x5=>
  (qu .i64 (x5.Name.length:Int) 50).bind fun q6=>
  (eT v i).bind fun x7=>
  (eT v i).bind fun x8=>
  (eT v i).bind fun x9=>
  (app ([x8.Pred]:List am) x9.Preds).bind fun l10=>
  (HJ l10 most).bind fun r11=>
  (eT v i).bind fun x12=>
  (R4 x12.Args (bB (most - (bB ((bB ((bB ((bB (n+1))+q6))+(x7.Names.length:Int)))+r11))))).bind fun r13=>
  some (.inl (bB ((bB ((bB ((bB ((bB (n+1))+q6))+(x7.Names.length:Int)))+r11))+r13),bB (i+1)))
 else
  some (.inr n)
def Ab:Option Int:=loop (fun(zz:Int×Int)=>kv R4 v most zz.1 zz.2) (n,i)
theorem HL(hR4:BG R4){y:(Int×Int)⊕(Int)}(h:kv R4 v most n i=some y):aW Pg GE 0 (cA ZQ 119) (LQ (fun(zz:Int×Int)=>qq v most zz.1 zz.2) (fun _=>.exit 0) ws y) (qq v most n i):=by
 obtain⟨o2,bo2,h⟩:=ck h
 have p4:=fun{sc F} (r:PS sc F)=>nF 1<|cT (JO v most n i bo2)<|r
 rcases aO h with⟨c3,h⟩|⟨c3,h⟩
 ·obtain⟨x5,bx5,q6,bq6,x7,bx7,x8,bx8,h⟩:=Zb4 h
  obtain⟨x9,bx9,l10,bl10,r11,br11,x12,bx12,h⟩:=Zb4 h
  obtain⟨r13,br13,h⟩:=ck h
  obtain rfl:=lf h
  exact wJ Yz (p4<|sg 0 c3<|G0 [0,1,0,0,12,28,60,124,252,511,0,0,3072,7168,15360,31744,65535,0,0,393216,917504,1966080,4063232,0,0,25165824,58720256,125829120,268304384,0,1073610752,2147483647,4294967295]<|sv (ee.ia (k:=.i64) bx5)<|sv (gH x5)<|sv (iK x5)<|bQ (oL underlying9 x5.Name)<|sv (Nr (P:=Pg) (t:=3) bq6)<|sv (ee.ia (k:=.i64) bx7)<|sv (e9 x7)<|sv (fb x7)<|bQ (bN.ln x7.Names)<|sv (ee.ia (k:=.i64) bx8)<|sv (oG x8)<|sv (oH x8)<|sv (oh.mk' (v:=Py) NT ([x8.Pred]:List am) 1 (by kernel_rfl))<|sv (ee.ia (k:=.i64) bx9)<|sv (iO x9)<|sv (iQ x9)<|sv (oh.ap bl10)<|cD (Ol br11)<|sv (ee.ia (k:=.i64) bx12)<|sv (dA x12)<|sv (dB x12)<|cD (hR4 _ _ _ br13)<|eF .normal (qq v most (bB ((bB ((bB ((bB ((bB (n+1))+q6))+(x7.Names.length:Int)))+r11))+r13)) (bB (i+1))))<|by kernel_rfl
 ·obtain rfl:=lf h
  have z:=p4<|sg 0 c3<|eF (.exit 0) (ws n)
  exact hU Yz (Zn rfl) z<|by kernel_rfl
theorem JP(hR4:BG R4){x:Int}(h:Ab R4 v most n i=some x):aW Pg GE 0 (.loop (cA ZQ 119)) (EX (.exit 0) (ws x)) (qq v most n i):=
 ZL h fun _ _ hy=>HL _ _ _ _ _ hR4 hy
end
def xI(R4:xL)(a:waC)(most:Int):Option Int:=
 (Ab R4 a most 0 0).bind fun o14=>
 some o14
theorem MN(R4:xL)(hR4:BG R4){a:waC}{most:Int}{r:Int}(h:xI R4 a most=some r):CC Pg GE 95 [sl ah a,.int .i64 most] (.int .i64 r) []:=by
 obtain⟨o14,bo14,h⟩:=ck h
 obtain rfl:=lf h
 have z:=cT (JP R4 a most 0 0 hR4 bo14)<|en (aI (rP (.int .i64 o14))<|trivial)
 exact Z95.v (aI (aj aF a) (aI trivial trivial)) z<|by kernel_rfl
def B5:((waC×Int)->Option Int)->(waC×Int)->Option Int:=fun(rec:(waC×Int)->Option Int) (x:waC×Int)=>xI (fun a most=>rec (a,most)) x.1 x.2
def De(a:waC)(most:Int):Option Int:=rE B5 (a,most)
theorem F6{a:waC}{most:Int}{r:Int}(h:De a most=some r):CC Pg GE 95 [sl ah a,.int .i64 most] (.int .i64 r) []:=
 ek (F:=B5) (M:=fun(x:waC×Int) (r:Int)=>CC Pg GE 95 [sl ah x.1,.int .i64 x.2] (.int .i64 r) []) (fun rec hrec x r h=>MN _ (fun a most r h=>hrec (a,most) r h) h) h
noncomputable def ZR:Code:=f96.body.getD .skip
def YA:List Nat:=[27]
theorem Z96:ZF YA 96 f96 ZR:=⟨call96,func96,rfl⟩
section
variable(v:waA)(most:Int)(n:Int)(i:Int)
def K9:aB:=aS 28 [(0,sl cS v),(1,.int .i64 most),(5,.int .i64 n),(6,.int .i64 i)] [] []
def wm(o:Bool):aB:=aS 28 [(0,sl cS v),(1,.int .i64 most),(5,.int .i64 n),(6,.int .i64 i),(15,.bool o)] [] []
def uX:Option Bool:=
 if(decide (i<(v.length:Int)))=true then
  some (decide (n<=most))
 else
  some false
theorem JK{x:Bool}(h:uX v most n i=some x):aW Pg GE 0 (cA ZR 476) (EX .normal (wm v most n i x)) (K9 v most n i):=by
 rcases aO h with⟨c1,h⟩|⟨c1,h⟩
 ·obtain rfl:=lf h
  exact bv YA (bQ (bN.ln v)<|sg 5 c1<|eF .normal (wm v most n i (decide (n<=most))))<|by kernel_rfl
 ·obtain rfl:=lf h
  exact bv YA (bQ (bN.ln v)<|sg 5 c1<|eF .normal (wm v most n i false))<|by kernel_rfl
end
section
variable(v:waA)(most:Int)(n:Int)(i:Int)
def qo:aB:=aS 28 [(0,sl cS v),(1,.int .i64 most),(5,.int .i64 n),(6,.int .i64 i)] [] []
def wn(o:Int):aB:=aS 28 [(5,.int .i64 o)] [] []
def kr:Option ((Int×Int)⊕(Int)):=
 (uX v most n i).bind fun o2=>
 if o2=true then
  (eT v i).bind fun x5=>
  (qu .i64 (x5.length:Int) 50).bind fun q6=>
  some (.inl (bB ((bB (n+1))+q6),bB (i+1)))
 else
  some (.inr n)
def z8:Option Int:=loop (fun(zz:Int×Int)=>kr v most zz.1 zz.2) (n,i)
theorem HI{y:(Int×Int)⊕(Int)}(h:kr v most n i=some y):aW Pg GE 0 (cA ZR 119) (LQ (fun(zz:Int×Int)=>qo v most zz.1 zz.2) (fun _=>.exit 0) wn y) (qo v most n i):=by
 obtain⟨o2,bo2,h⟩:=ck h
 have p4:=fun{sc F} (r:PS sc F)=>nF 1<|cT (JK v most n i bo2)<|r
 rcases aO h with⟨c3,h⟩|⟨c3,h⟩
 ·obtain⟨x5,bx5,q6,bq6,h⟩:=Zb2 h
  obtain rfl:=lf h
  exact wJ YA (p4<|sg 0 c3<|sv (bN.ia (k:=.i64) bx5)<|sv (b8 AF (.str x5) [])<|bQ (oL underlying9 x5)<|sv (Nr (P:=Pg) (t:=3) bq6)<|eF .normal (qo v most (bB ((bB (n+1))+q6)) (bB (i+1))))<|by kernel_rfl
 ·obtain rfl:=lf h
  have z:=p4<|sg 0 c3<|eF (.exit 0) (wn n)
  exact hU YA (Zn rfl) z<|by kernel_rfl
theorem JL{x:Int}(h:z8 v most n i=some x):aW Pg GE 0 (.loop (cA ZR 119)) (EX (.exit 0) (wn x)) (qo v most n i):=
 ZL h fun _ _ hy=>HI _ _ _ _ hy
end
def Dd(a:waA)(most:Int):Option Int:=
 (z8 a most 0 0).bind fun o7=>
 some o7
theorem Ok{a:waA}{most:Int}{r:Int}(h:Dd a most=some r):CC Pg GE 96 [sl cS a,.int .i64 most] (.int .i64 r) []:=by
 obtain⟨o7,bo7,h⟩:=ck h
 obtain rfl:=lf h
 have z:=cT (JL a most 0 0 bo7)<|en (aI (rP (.int .i64 o7))<|trivial)
 exact Z96.v (aI (aj bz a) (aI trivial trivial)) z<|by kernel_rfl
noncomputable def VO:Code:=f46.body.getD .skip
def SY:List Nat:=[119]
theorem Z46:ZF SY 46 f46 VO:=⟨call46,func46,rfl⟩
section
variable(most:Int)(e:af)(n:Int)(i:Int)
def MB:aB:=aS 120 [(1,.int .i64 most),(2,.eptr (ac e)),(5,.int .i64 n),(6,.int .i64 i)] [.dead] []
def yq(o:Bool):aB:=aS 120 [(1,.int .i64 most),(2,.eptr (ac e)),(5,.int .i64 n),(6,.int .i64 i),(28,.bool o)] [.dead] []
def xu:Option Bool:=
 if(decide (i<(e.Params.length:Int)))=true then
  some (decide (n<=most))
 else
  some false
theorem KM{x:Bool}(h:xu most e n i=some x):aW Pg GE 0 (cA VO 476) (EX .normal (yq most e n i x)) (MB most e n i):=by
 have p4:=fun{sc F} (r:PS sc F)=>sv (bH e)<|sv (bJ e)<|bQ (lH.ln e.Params)<|r
 rcases aO h with⟨c3,h⟩|⟨c3,h⟩
 ·obtain rfl:=lf h
  exact bv SY (p4<|sg 6 c3<|eF .normal (yq most e n i (decide (n<=most))))<|by kernel_rfl
 ·obtain rfl:=lf h
  exact bv SY (p4<|sg 6 c3<|eF .normal (yq most e n i false))<|by kernel_rfl
end
section
variable(most:Int)(e:af)(n:Int)(i:Int)
def s9:aB:=aS 120 [(1,.int .i64 most),(2,.eptr (ac e)),(5,.int .i64 n),(6,.int .i64 i)] [.dead] []
def yu(o:Int):aB:=aS 120 [(1,.int .i64 most),(2,.eptr (ac e)),(5,.int .i64 o)] [.dead] []
def ma:Option ((Int×Int)⊕(Int)):=
 (xu most e n i).bind fun o5=>
 if o5=true then
  (eT e.Params i).bind fun x8=>
  (qu .i64 (x8.Name.length:Int) 50).bind fun q9=>
  (eT e.Params i).bind fun x10=>
  (De ([x10.Type_]:List ai) most).bind fun r11=>
  some (.inl (bB ((bB ((bB (n+1))+q9))+r11),bB (i+1)))
 else
  some (.inr n)
def BL:Option Int:=loop (fun(zz:Int×Int)=>ma most e zz.1 zz.2) (n,i)
theorem Jt{y:(Int×Int)⊕(Int)}(h:ma most e n i=some y):aW Pg GE 0 (cA VO 119) (LQ (fun(zz:Int×Int)=>s9 most e zz.1 zz.2) (fun _=>.exit 0) (yu most e) y) (s9 most e n i):=by
 obtain⟨o5,bo5,h⟩:=ck h
 have p7:=fun{sc F} (r:PS sc F)=>nF 1<|cT (KM most e n i bo5)<|r
 rcases aO h with⟨c6,h⟩|⟨c6,h⟩
 ·obtain⟨x8,bx8,q9,bq9,x10,bx10,r11,br11,h⟩:=Zb4 h
  obtain rfl:=lf h
  exact wJ SY (p7<|sg 0 c6<|G0 [0,1,0,4,0,28,60,124,252,508,1023,0,2048,0,14336,30720,63488,129024,0,522240,1048575,2097151]<|sv (bH e)<|sv (bJ e)<|sv (lH.ia (k:=.i64) bx8)<|sv (qA x8)<|sv (tv x8)<|bQ (oL underlying9 x8.Name)<|sv (Nr (P:=Pg) (t:=3) bq9)<|sv (bH e)<|sv (bJ e)<|sv (lH.ia (k:=.i64) bx10)<|sv (wD x10)<|sv (wG x10)<|sv (ee.mk' (v:=Pz) NU ([x10.Type_]:List ai) 1 (by kernel_rfl))<|cD (F6 br11)<|eF .normal (s9 most e (bB ((bB ((bB (n+1))+q9))+r11)) (bB (i+1))))<|by kernel_rfl
 ·obtain rfl:=lf h
  have z:=p7<|sg 0 c6<|eF (.exit 0) (yu most e n)
  exact hU SY (Zn rfl) z<|by kernel_rfl
theorem KP{x:Int}(h:BL most e n i=some x):aW Pg GE 0 (.loop (cA VO 119)) (EX (.exit 0) (yu most e x)) (s9 most e n i):=
 ZL h fun _ _ hy=>Jt _ _ _ _ hy
end
section
variable(most:Int)(e:af)(n:Int)(i:Int)
def MC:aB:=aS 120 [(1,.int .i64 most),(2,.eptr (ac e)),(5,.int .i64 n),(7,.int .i64 i)] [.dead] []
def yr(o:Bool):aB:=aS 120 [(1,.int .i64 most),(2,.eptr (ac e)),(5,.int .i64 n),(7,.int .i64 i),(61,.bool o)] [.dead] []
def xv:Option Bool:=
 if(decide (i<(e.Kids.length:Int)))=true then
  some (decide (n<=most))
 else
  some false
theorem KN{x:Bool}(h:xv most e n i=some x):aW Pg GE 0 (cA VO 988) (EX .normal (yr most e n i x)) (MC most e n i):=by
 have p14:=fun{sc F} (r:PS sc F)=>sv (ba e)<|sv (be e)<|bQ (fQ.ln e.Kids)<|r
 rcases aO h with⟨c13,h⟩|⟨c13,h⟩
 ·obtain rfl:=lf h
  exact bv SY (p14<|sg 6 c13<|eF .normal (yr most e n i (decide (n<=most))))<|by kernel_rfl
 ·obtain rfl:=lf h
  exact bv SY (p14<|sg 6 c13<|eF .normal (yr most e n i false))<|by kernel_rfl
end
section
variable(R3:wx)(most:Int)(e:af)(n:Int)(i:Int)
def ta:aB:=aS 120 [(1,.int .i64 most),(2,.eptr (ac e)),(5,.int .i64 n),(7,.int .i64 i)] [.dead] []
def yv(o:Int):aB:=aS 120 [(1,.int .i64 most),(2,.eptr (ac e)),(5,.int .i64 o)] [.dead] []
def mb:Option ((Int×Int)⊕(Int)):=
 (xv most e n i).bind fun o15=>
 if o15=true then
  (eT e.Kids i).bind fun x18=>
  (R3 x18 (bB (most - n))).bind fun r19=>
  some (.inl (bB (n+r19),bB (i+1)))
 else
  some (.inr n)
def BM:Option Int:=loop (fun(zz:Int×Int)=>mb R3 most e zz.1 zz.2) (n,i)
theorem Ju(hR3:vW R3){y:(Int×Int)⊕(Int)}(h:mb R3 most e n i=some y):aW Pg GE 0 (cA VO 247) (LQ (fun(zz:Int×Int)=>ta most e zz.1 zz.2) (fun _=>.exit 2) (yv most e) y) (ta most e n i):=by
 obtain⟨o15,bo15,h⟩:=ck h
 have p17:=fun{sc F} (r:PS sc F)=>nF 1<|cT (KN most e n i bo15)<|r
 rcases aO h with⟨c16,h⟩|⟨c16,h⟩
 ·obtain⟨x18,bx18,r19,br19,h⟩:=Zb2 h
  obtain rfl:=lf h
  exact wJ SY (p17<|sg 0 c16<|sv (ba e)<|sv (be e)<|sv (fQ.ia (k:=.i64) bx18)<|sv (bM x18)<|cD (hR3 _ _ _ br19)<|eF .normal (ta most e (bB (n+r19)) (bB (i+1))))<|by kernel_rfl
 ·obtain rfl:=lf h
  have z:=p17<|sg 0 c16<|eF (.exit 2) (yv most e n)
  exact hU SY (Zn rfl) z<|by kernel_rfl
theorem KQ(hR3:vW R3){x:Int}(h:BM R3 most e n i=some x):aW Pg GE 0 (.loop (cA VO 247)) (EX (.exit 2) (yv most e x)) (ta most e n i):=
 ZL h fun _ _ hy=>Ju _ _ _ _ _ hR3 hy
end
section
variable(most:Int)(e:af)(n:Int)(i:Int)
def MD:aB:=aS 120 [(1,.int .i64 most),(2,.eptr (ac e)),(5,.int .i64 n),(8,.int .i64 i)] [.dead] []
def yt(o:Bool):aB:=aS 120 [(1,.int .i64 most),(2,.eptr (ac e)),(5,.int .i64 n),(8,.int .i64 i),(84,.bool o)] [.dead] []
def xw:Option Bool:=
 if(decide (i<(e.Alts.length:Int)))=true then
  some (decide (n<=most))
 else
  some false
theorem KO{x:Bool}(h:xw most e n i=some x):aW Pg GE 0 (cA VO 2012) (EX .normal (yt most e n i x)) (MD most e n i):=by
 have p22:=fun{sc F} (r:PS sc F)=>sv (aG e)<|sv (aH e)<|bQ (eZ.ln e.Alts)<|r
 rcases aO h with⟨c21,h⟩|⟨c21,h⟩
 ·obtain rfl:=lf h
  exact bv SY (p22<|sg 6 c21<|eF .normal (yt most e n i (decide (n<=most))))<|by kernel_rfl
 ·obtain rfl:=lf h
  exact bv SY (p22<|sg 6 c21<|eF .normal (yt most e n i false))<|by kernel_rfl
end
section
variable(R3:wx)(most:Int)(e:af)(n:Int)(i:Int)
def tb:aB:=aS 120 [(1,.int .i64 most),(2,.eptr (ac e)),(5,.int .i64 n),(8,.int .i64 i)] [.dead] []
def yw(o:Int):aB:=aS 120 [(5,.int .i64 o)] [.dead] []
def mc:Option ((Int×Int)⊕(Int)):=
 (xw most e n i).bind fun o23=>
 if o23=true then
  (eT e.Alts i).bind fun x26=>
  (qu .i64 (x26.Con.length:Int) 50).bind fun q27=>
  (eT e.Alts i).bind fun x28=>
  (Dd x28.Names most).bind fun r29=>
  (eT e.Alts i).bind fun x30=>
  (R3 x30.Body (bB (most - (bB ((bB ((bB (n+1))+q27))+r29))))).bind fun r31=>
  some (.inl (bB ((bB ((bB ((bB (n+1))+q27))+r29))+r31),bB (i+1)))
 else
  some (.inr n)
def BN:Option Int:=loop (fun(zz:Int×Int)=>mc R3 most e zz.1 zz.2) (n,i)
theorem Jv(hR3:vW R3){y:(Int×Int)⊕(Int)}(h:mc R3 most e n i=some y):aW Pg GE 0 (cA VO 503) (LQ (fun(zz:Int×Int)=>tb most e zz.1 zz.2) (fun _=>.exit 4) yw y) (tb most e n i):=by
 obtain⟨o23,bo23,h⟩:=ck h
 have p25:=fun{sc F} (r:PS sc F)=>nF 1<|cT (KO most e n i bo23)<|r
 rcases aO h with⟨c24,h⟩|⟨c24,h⟩
 ·obtain⟨x26,bx26,q27,bq27,x28,bx28,r29,br29,h⟩:=Zb4 h
  obtain⟨x30,bx30,r31,br31,h⟩:=Zb2 h
  obtain rfl:=lf h
  exact wJ SY (p25<|sg 0 c24<|G0 [0,1,0,4,0,28,60,124,252,508,1023,0,2048,0,14336,30720,63488,0,260096,524287,1048575]<|sv (aG e)<|sv (aH e)<|sv (eZ.ia (k:=.i64) bx26)<|sv (Aq x26)<|sv (Cn x26)<|bQ (oL underlying9 x26.Con)<|sv (Nr (P:=Pg) (t:=3) bq27)<|sv (aG e)<|sv (aH e)<|sv (eZ.ia (k:=.i64) bx28)<|sv (qy x28)<|sv (qE x28)<|cD (Ok br29)<|sv (aG e)<|sv (aH e)<|sv (eZ.ia (k:=.i64) bx30)<|sv (qz x30)<|sv (qF x30)<|cD (hR3 _ _ _ br31)<|eF .normal (tb most e (bB ((bB ((bB ((bB (n+1))+q27))+r29))+r31)) (bB (i+1))))<|by kernel_rfl
 ·obtain rfl:=lf h
  have z:=p25<|sg 0 c24<|eF (.exit 4) (yw n)
  exact hU SY (Zn rfl) z<|by kernel_rfl
theorem KR(hR3:vW R3){x:Int}(h:BN R3 most e n i=some x):aW Pg GE 0 (.loop (cA VO 503)) (EX (.exit 4) (yw x)) (tb most e n i):=
 ZL h fun _ _ hy=>Jv _ _ _ _ _ hR3 hy
end
def zV(R3:wx)(e:af)(most:Int):Option Int:=
 (qu .i64 (e.Name.length:Int) 50).bind fun q1=>
 (De e.Types most).bind fun r2=>
 (BL most e (bB ((bB (1+q1))+r2)) 0).bind fun o12=>
 (BM R3 most e o12 0).bind fun o20=>
 (BN R3 most e o20 0).bind fun o32=>
 some o32
theorem Of(R3:wx)(hR3:vW R3){e:af}{most:Int}{r:Int}(h:zV R3 e most=some r):CC Pg GE 46 [.agg (ac e),.int .i64 most] (.int .i64 r) []:=by
 obtain⟨q1,bq1,r2,br2,o12,bo12,o20,bo20,h⟩:=Zb4 h
 obtain⟨o32,bo32,h⟩:=ck h
 obtain rfl:=lf h
 have z:=se (cF e)<|G0 [0,1,3,7,15,0,32,0,224,511,1023]<|sv (da e)<|sv (dv e)<|bQ (oL underlying9 e.Name)<|sv (Nr (P:=Pg) (t:=3) bq1)<|sv (aM e)<|sv (aN e)<|cD (F6 br2)<|cT (KP most e (bB ((bB (1+q1))+r2)) 0 bo12)<|cT (KQ R3 most e o12 0 hR3 bo20)<|cT (KR R3 most e o20 0 hR3 bo32)<|en (aI (rP (.int .i64 o32))<|trivial)
 exact Z46.v (aI (az e) (aI trivial trivial)) z<|by kernel_rfl
def ET:((af×Int)->Option Int)->(af×Int)->Option Int:=fun(rec:(af×Int)->Option Int) (x:af×Int)=>zV (fun e most=>rec (e,most)) x.1 x.2
def KL(e:af)(most:Int):Option Int:=rE ET (e,most)
theorem PI{e:af}{most:Int}{r:Int}(h:KL e most=some r):CC Pg GE 46 [.agg (ac e),.int .i64 most] (.int .i64 r) []:=
 ek (F:=ET) (M:=fun(x:af×Int) (r:Int)=>CC Pg GE 46 [.agg (ac x.1),.int .i64 x.2] (.int .i64 r) []) (fun rec hrec x r h=>Of _ (fun e most r h=>hrec (e,most) r h) h) h
noncomputable def qcu:Code:=f48.body.getD .skip
def qb4:List Nat:=[]
theorem Z48:ZF qb4 48 f48 qcu:=⟨call48,func48,rfl⟩
def gE(s:ae):Option af:=
 some (⟨3,s,0,([]:List af),([]:List aw),([]:List aJ),([]:List ai)⟩:af)
theorem fe{s:ae}{r:af}(h:gE s=some r):CC Pg GE 48 [.str s] (.agg (ac r)) [(3,28),(4,85),(5,89),(6,60)]:=by
 obtain rfl:=lf h
 have z:=sx AD<|sb (Gh 3 s) (Gc 3 s)<|sy (bE (⟨3,s,0,([]:List af),([]:List aw),([]:List aJ),([]:List ai)⟩:af))<|en (aI (sK (⟨3,s,0,([]:List af),([]:List aw),([]:List aJ),([]:List ai)⟩:af))<|aI (az (⟨3,s,0,([]:List af),([]:List aw),([]:List aJ),([]:List ai)⟩:af))<|rT)
 exact Z48.v (aI trivial trivial) z<|by kernel_rfl
noncomputable def qct:Code:=f47.body.getD .skip
def qb3:List Nat:=[]
theorem Z47:ZF qb3 47 f47 qct:=⟨call47,func47,rfl⟩
def Di(s:ae)(a:af)(a2:af):Option af:=
 some (⟨7,s,0,([a,a2]:List af),([]:List aw),([]:List aJ),([]:List ai)⟩:af)
theorem wz{s:ae}{a:af}{a2:af}{r:af}(h:Di s a a2=some r):CC Pg GE 47 [.str s,.agg (ac a),.agg (ac a2)] (.agg (ac r)) [(4,85),(5,89),(6,60)]:=by
 obtain rfl:=lf h
 have z:=se (cF a)<|se (cF a2)<|sx AD<|sv (bM a)<|sv (bM a2)<|sv (fQ.mk' (v:=pA) kE ([a,a2]:List af) 2 (by kernel_rfl))<|sb (Cc 7 s ([a,a2]:List af)) (Ca 7 s ([a,a2]:List af))<|sy (bE (⟨7,s,0,([a,a2]:List af),([]:List aw),([]:List aJ),([]:List ai)⟩:af))<|en (aI (sK (⟨7,s,0,([a,a2]:List af),([]:List aw),([]:List aJ),([]:List ai)⟩:af))<|aI (az (⟨7,s,0,([a,a2]:List af),([]:List aw),([]:List aJ),([]:List ai)⟩:af))<|rT)
 exact Z47.v (aI trivial (aI (az a) (aI (az a2) trivial))) z<|by kernel_rfl
noncomputable def qaV:Code:=f81.body.getD .skip
def qap:List Nat:=[]
theorem Z81:ZF qap 81 f81 qaV:=⟨call81,func81,rfl⟩
section
variable(t6:waA)(t7:Int)(t8:Int)(m1:(List (ae×Bool)))
def kp:aB:=aS 18 [(0,.bptr 0 0),(6,sl cS t6),(7,.int .i64 t7),(8,.int .i64 t8)] [.cells [.mapr 1] [],.map (aL PVal.bool m1)] []
def oq(o:(List (ae×Bool))):aB:=aS 18 [] [.cells [.mapr 1] [],.map (aL PVal.bool o)] []
def eR:Option ((Int×(List (ae×Bool)))⊕(((List (ae×Bool))))):=
 if(decide (t8<t7))=true then
  (eT t6 t8).bind fun x2=>
  some (.inl (bB (t8+1),tN m1 x2 true))
 else
  some (.inr m1)
def mM:Option (((List (ae×Bool)))):=loop (fun(zz:Int×(List (ae×Bool)))=>eR t6 t7 zz.1 zz.2) (t8,m1)
theorem BD{y:(Int×(List (ae×Bool)))⊕(((List (ae×Bool))))}(h:eR t6 t7 t8 m1=some y):aW Pg GE 2 (cA qaV 15) (LQ (fun(zz:Int×(List (ae×Bool)))=>kp t6 t7 zz.1 zz.2) (fun _=>.exit 0) oq y) (kp t6 t7 t8 m1):=by
 rcases aO h with⟨c1,h⟩|⟨c1,h⟩
 ·obtain⟨x2,bx2,h⟩:=ck h
  obtain rfl:=lf h
  exact wJ qap (sg 0 c1<|sv (bN.ia (k:=.i64) bx2)<|sv (b8 AF (.str x2) [])<|ss<|qbw (RL (f:=PVal.bool) underlying124 underlying9 m1 x2 true)<|eF .normal (kp t6 t7 (bB (t8+1)) (tN m1 x2 true)))<|by kernel_rfl
 ·obtain rfl:=lf h
  have z:=sg 0 c1<|eF (.exit 0) (oq m1)
  exact hU qap (Zn rfl) z<|by kernel_rfl
theorem C4{x:((List (ae×Bool)))}(h:mM t6 t7 t8 m1=some x):aW Pg GE 2 (.loop (cA qaV 15)) (EX (.exit 0) (oq x)) (kp t6 t7 t8 m1):=
 ZL h fun _ _ hy=>BD _ _ _ _ hy
end
def fH(a:waA)(k1:(List (ae×Bool))):Option ((List (ae×Bool))):=
 (mM a (a.length:Int) 0 k1).bind fun o3=>
 some o3
theorem iw{a:waA}{k1:(List (ae×Bool))}{r:(List (ae×Bool))}(h:fH a k1=some r):C Pg GE 81 [.bptr 0 0,sl cS a] [] [.cells [.mapr 1] [],.map (aL PVal.bool k1)] (.tuple []) [] [.cells [.mapr 1] [],.map (aL PVal.bool r)]:=by
 obtain⟨o3,bo3,h⟩:=ck h
 obtain rfl:=lf h
 have z:=bQ (bN.ln a)<|cT (C4 a (a.length:Int) 0 k1 bo3)<|en (aI (rP (.tuple []))<|aI trivial<|aI (rL [.cells [.mapr 1] [],.map (aL PVal.bool o3)])<|(aI (aI (aT (i:=1) (n:=2) rfl) trivial) (aI (qb (n:=2) PVal.bool (fun x=>trivial) o3) trivial)))
 exact Z81.g (m:=2) rfl z<|by kernel_rfl
noncomputable def qcD:Code:=f78.body.getD .skip
def qcd:List Nat:=[10]
def mj(a:waA):Option ((List (ae×Bool))):=
 (fH a ([]:List (ae×Bool))).bind fun r1=>
 some r1
theorem sQ{a:waA}{r:(List (ae×Bool))}(h:mj a=some r):CN Pg GE 78 [sl cS a] (.bptr 1 0) [] [.map (aL PVal.bool r),.cells [.mapr 0] []]:=by
 obtain⟨r1,br1,h⟩:=ck h
 obtain rfl:=lf h
 have z:=sv (show dG Pg 126 [(0,.mapr 0)]=some (.agg [.mapr 0]) by kernel_rfl)<|sx (Zs [.mapr 0])<|si (.cg ⟨[1,0],[.bptr 0 0,sl cS a],[],[.cells [.mapr 0] [],.map (aL PVal.bool ([]:List (ae×Bool)))],[.cells [.mapr 1] [],.map (aL PVal.bool ([]:List (ae×Bool)))],[.cells [.mapr 0] [],.map (aL PVal.bool r1)],[.cells [.mapr 1] [],.map (aL PVal.bool r1)],.tuple [],.tuple [],[]⟩) (iw br1)<|sf (aI (xB [1,0] 0 1 0 rfl) (aI (xR [1,0] (sl cS a) (aj bz a)) trivial))<|sf (aI (aI (rB (.cells [.mapr 0] [])) (aI (rW []) (aI (xM [1,0] 1 0 rfl) trivial))) (aI (aI (rB (.map (aL PVal.bool ([]:List (ae×Bool))))) (aI (rM (aL PVal.bool ([]:List (ae×Bool)))) (qb (n:=0) PVal.bool (fun x=>trivial) ([]:List (ae×Bool))))) trivial))<|sf (aI (aI (rW []) (aI (xM [1,0] 1 0 rfl) trivial)) (aI (aI (rM (aL PVal.bool r1)) (qb (n:=0) PVal.bool (fun x=>trivial) r1)) trivial))<|sf (xR [1,0] (.tuple []) trivial)<|en (aI (rP (.bptr 1 0))<|aI (aT (i:=1) (n:=2) rfl)<|aI (rL [.map (aL PVal.bool r1),.cells [.mapr 0] []])<|(aI (qb (n:=2) PVal.bool (fun x=>trivial) r1) (aI (aI (aT (i:=0) (n:=2) rfl) trivial) trivial)))
 exact CN.evNp (A:=qcd) mixed (c:=qcD) call78 func78 rfl z<|by kernel_rfl
abbrev d9:=(af->waA->(List (ae×Bool))->Option ((List (ae×Bool))))
abbrev d7(R:d9):Prop:=∀(e:af) (hidden:waA) (k2:(List (ae×Bool))) (r:(List (ae×Bool))),R e hidden k2=some r->C Pg GE 79 [.agg (ac e),sl cS hidden,.func (.func 80) [] [.bptr 0 0]] [] [.cells [.bptr 1 0] [],.cells [.mapr 2] [],.map (aL PVal.bool k2)] (.tuple []) [] [.cells [.bptr 1 0] [],.cells [.mapr 2] [],.map (aL PVal.bool r)]
noncomputable def qav:Code:=f100.body.getD .skip
def Z3:List Nat:=[]
theorem Z100:ZF Z3 100 f100 qav:=⟨call100,func100,rfl⟩
def fj(e:af):Option Bool:=
 if(e.Op==3)=true then
  some true
 else
  some (e.Op==5)
theorem jj{e:af}{r:Bool}(h:fj e=some r):CC Pg GE 100 [.agg (ac e)] (.bool r) []:=by
 have p2:=fun{sc F} (r:PS sc F)=>se (cF e)<|sv (cK e)<|sv (cM e)<|r
 rcases aO h with⟨c1,h⟩|⟨c1,h⟩
 ·obtain rfl:=lf h
  have z:=p2<|sg 4 c1<|en (aI (rP (.bool true))<|trivial)
  exact Z100.v (aI (az e) trivial) z<|by kernel_rfl
 ·obtain rfl:=lf h
  have z:=p2<|sg 4 c1<|sv (cK e)<|sv (cM e)<|en (aI (rP (.bool (e.Op==5)))<|trivial)
  exact Z100.v (aI (az e) trivial) z<|by kernel_rfl
noncomputable def XA:Code:=f131.body.getD .skip
def VU:List Nat:=[10,17]
theorem Z131:ZF VU 131 f131 XA:=⟨call131,func131,rfl⟩
section
variable(s:waA)(v:ae)(t7:Int)(t8:Int)
def mF:aB:=aS 19 [(0,sl cS s),(1,.str v),(7,.int .i64 t7),(8,.int .i64 t8)] [] []
def mG(o:Int⊕(Unit)):Exit:=match o with
 |(.inl _)=>.ret
 |(.inr _)=>.exit 0
def ip(o:Int⊕(Unit)):aB:=match o with
 |(.inl o)=>aS 19 [(4,.int .i64 o)] [] []
 |(.inr o)=>aS 19 [] [] []
def jX:Option (Int⊕(Int⊕(Unit))):=
 if(decide (t8<t7))=true then
  (eT s t8).bind fun x2=>
  if(v==x2)=true then
   some (.inr (.inl t8))
  else
   some (.inl (bB (t8+1)))
 else
  some (.inr (.inr ()))
def ul:Option (Int⊕(Unit)):=loop (fun(zz:Int)=>jX s v t7 zz) t8
theorem DT{y:Int⊕(Int⊕(Unit))}(h:jX s v t7 t8=some y):aW Pg GE 0 (cA XA 55) (LQ (fun(zz:Int)=>mF s v t7 zz) mG ip y) (mF s v t7 t8):=by
 rcases aO h with⟨c1,h⟩|⟨c1,h⟩
 ·obtain⟨x2,bx2,h⟩:=ck h
  have p4:=fun{sc F} (r:PS sc F)=>sg 0 c1<|sv (bN.ia (k:=.i64) bx2)<|sv (b8 AF (.str x2) [])<|r
  rcases aO h with⟨c3,h⟩|⟨c3,h⟩
  ·obtain rfl:=lf h
   have z:=p4<|sg 0 c3<|eF (mG (.inl t8)) (ip (.inl t8))
   exact hU VU (Zn rfl) z<|by kernel_rfl
  ·obtain rfl:=lf h
   exact wJ VU (p4<|sg 0 c3<|eF .normal (mF s v t7 (bB (t8+1))))<|by kernel_rfl
 ·obtain rfl:=lf h
  have z:=sg 0 c1<|eF (mG (.inr ())) (ip (.inr ()))
  exact hU VU (Zn rfl) z<|by kernel_rfl
theorem wN{x:Int⊕(Unit)}(h:ul s v t7 t8=some x):aW Pg GE 0 (.loop (cA XA 55)) (EX (mG x) (ip x)) (mF s v t7 t8):=
 ZL h fun _ _ hy=>DT _ _ _ _ hy
end
def slices_Index(s:waA)(v:ae):Option Int:=
 (ul s v (s.length:Int) 0).bind fun o5=>match o5 with
 |(.inl o5)=>
  some o5
 |(.inr o5)=>
  some (-1)
theorem Ka{s:waA}{v:ae}{r:Int}(h:slices_Index s v=some r):CC Pg GE 131 [sl cS s,.str v] (.int .i64 r) []:=by
 obtain⟨o5,bo5,h⟩:=ck h
 rcases o5 with o5|o5
 ·obtain rfl:=lf h
  have z:=bQ (bN.ln s)<|cT (e:=.ret) (s1:=ip (.inl o5)) (wN s v (s.length:Int) 0 bo5)<|en (aI (rP (.int .i64 o5))<|trivial)
  exact Z131.v (aI (aj bz s) (aI trivial trivial)) z<|by kernel_rfl
 ·obtain rfl:=lf h
  have z:=bQ (bN.ln s)<|cT (e:=.exit 0) (s1:=ip (.inr o5)) (wN s v (s.length:Int) 0 bo5)<|en (aI (rP (.int .i64 (-1)))<|trivial)
  exact Z131.v (aI (aj bz s) (aI trivial trivial)) z<|by kernel_rfl
noncomputable def qcH:Code:=f94.body.getD .skip
def qch:List Nat:=[]
theorem Z94:ZF qch 94 f94 qcH:=⟨call94,func94,rfl⟩
def ka(a:waA)(s:ae):Option Int:=
 (slices_Index a s).bind fun r1=>
 some r1
theorem oI{a:waA}{s:ae}{r:Int}(h:ka a s=some r):CC Pg GE 94 [sl cS a,.str s] (.int .i64 r) []:=by
 obtain⟨r1,br1,h⟩:=ck h
 obtain rfl:=lf h
 have z:=cD (Ka br1)<|en (aI (rP (.int .i64 r1))<|trivial)
 exact Z94.v (aI (aj bz a) (aI trivial trivial)) z<|by kernel_rfl
noncomputable def qcE:Code:=f80.body.getD .skip
def qce:List Nat:=[]
theorem Z80:ZF qce 80 f80 qcE:=⟨call80,func80,rfl⟩
def EE(a:af)(k2:(List (ae×Bool))):Option ((List (ae×Bool))):=
 (fH ([a.Name]:List ae) k2).bind fun r1=>
 some r1
theorem Iv{a:af}{k2:(List (ae×Bool))}{r:(List (ae×Bool))}(h:EE a k2=some r):C Pg GE 80 [.agg (ac a),.bptr 0 0] [] [.cells [.bptr 1 0] [],.cells [.mapr 2] [],.map (aL PVal.bool k2)] (.tuple []) [] [.cells [.bptr 1 0] [],.cells [.mapr 2] [],.map (aL PVal.bool r)]:=by
 obtain⟨r1,br1,h⟩:=ck h
 obtain rfl:=lf h
 have z:=se (cF a)<|ss<|sv (da a)<|sv (dv a)<|sv (bN.mk' (v:=PVal.str) Ij ([a.Name]:List ae) 1 (by kernel_rfl))<|si (.cg ⟨[1,2],[.bptr 0 0,sl cS ([a.Name]:List ae)],[],[.cells [.mapr 2] [],.map (aL PVal.bool k2)],[.cells [.mapr 1] [],.map (aL PVal.bool k2)],[.cells [.mapr 2] [],.map (aL PVal.bool r1)],[.cells [.mapr 1] [],.map (aL PVal.bool r1)],.tuple [],.tuple [],[]⟩) (iw br1)<|sf (aI (xB [1,2] 0 1 0 rfl) (aI (xR [1,2] (sl cS ([a.Name]:List ae)) (aj bz ([a.Name]:List ae))) trivial))<|sf (aI (aI (rB (.cells [.mapr 2] [])) (aI (rW []) (aI (xM [1,2] 1 2 rfl) trivial))) (aI (aI (rB (.map (aL PVal.bool k2))) (aI (rM (aL PVal.bool k2)) (qb (n:=0) PVal.bool (fun x=>trivial) k2))) trivial))<|sf (aI (aI (rW []) (aI (xM [1,2] 1 2 rfl) trivial)) (aI (aI (rM (aL PVal.bool r1)) (qb (n:=0) PVal.bool (fun x=>trivial) r1)) trivial))<|sf (xR [1,2] (.tuple []) trivial)<|en (aI (rP (.tuple []))<|aI trivial<|aI (rL [.cells [.bptr 1 0] [],.cells [.mapr 2] [],.map (aL PVal.bool r1)])<|(aI (aI (aT (i:=1) (n:=3) rfl) trivial) (aI (aI (aT (i:=2) (n:=3) rfl) trivial) (aI (qb (n:=3) PVal.bool (fun x=>trivial) r1) trivial))))
 exact Z80.g (m:=3) rfl z<|by kernel_rfl
noncomputable def Xv:Code:=f101.body.getD .skip
def Xg:List Nat:=[12,18]
theorem Z101:ZF Xg 101 f101 Xv:=⟨call101,func101,rfl⟩
section
variable(t6:waE)(t7:Int)(out:waA)(t8:Int)
def mJ:aB:=aS 19 [(3,sl cS out),(6,sl au t6),(7,.int .i64 t7),(8,.int .i64 t8)] [] [((3,0),9)]
def qZ(o:waA):aB:=aS 19 [(3,sl cS o)] [] [((3,0),9)]
def fB:Option ((waA×Int)⊕(waA)):=
 if(decide (t8<t7))=true then
  (eT t6 t8).bind fun x2=>
  (app out ([x2.Name]:List ae)).bind fun l3=>
  some (.inl (l3,bB (t8+1)))
 else
  some (.inr out)
def pw:Option waA:=loop (fun(zz:waA×Int)=>fB t6 t7 zz.1 zz.2) (out,t8)
theorem DY{y:(waA×Int)⊕(waA)}(h:fB t6 t7 out t8=some y):aW Pg GE 0 (cA Xv 119) (LQ (fun(zz:waA×Int)=>mJ t6 t7 zz.1 zz.2) (fun _=>.exit 0) qZ y) (mJ t6 t7 out t8):=by
 rcases aO h with⟨c1,h⟩|⟨c1,h⟩
 ·obtain⟨x2,bx2,l3,bl3,h⟩:=Zb2 h
  obtain rfl:=lf h
  have z:=sg 0 c1<|sv (lH.ia (k:=.i64) bx2)<|sv (Dr x2)<|sx TU<|sx (nb x2)<|ss<|sv (bN.mk' (v:=PVal.str) Ij ([x2.Name]:List ae) 1 (by kernel_rfl))<|sv (bN.ap bl3)<|tr 0 .normal (mJ t6 t7 l3 (bB (t8+1))) rfl (du (aI (up (aj bz l3)) (aI (up (aj aZ t6)) (aI trivial (aI trivial trivial))))) trivial
  exact dy (A:=Xg) mixed z<|by kernel_rfl
 ·obtain rfl:=lf h
  have z:=sg 0 c1<|eF (.exit 0) (qZ out)
  exact hU Xg (Zn rfl) z<|by kernel_rfl
theorem FA{x:waA}(h:pw t6 t7 out t8=some x):aW Pg GE 0 (.loop (cA Xv 119)) (EX (.exit 0) (qZ x)) (mJ t6 t7 out t8):=
 ZL h fun _ _ hy=>DY _ _ _ _ hy
end
def lx(a:waE):Option waA:=
 (pw a (a.length:Int) ([]:List ae) 0).bind fun o4=>
 some o4
theorem px{a:waE}{r:waA}(h:lx a=some r):CC Pg GE 101 [sl au a] (sl cS r) [(0,9)]:=by
 obtain⟨o4,bo4,h⟩:=ck h
 obtain rfl:=lf h
 have z:=bQ (lH.ln a)<|cT (FA a (a.length:Int) ([]:List ae) 0 bo4)<|en (aI (rP (sl cS o4))<|(aj bz o4))
 exact Z101.v (aI (aj aZ a) trivial) z<|by kernel_rfl
noncomputable def YL:Code:=f126.body.getD .skip
def Xi:List Nat:=[]
theorem Z126:ZF Xi 126 f126 YL:=⟨call126,func126,rfl⟩
section
variable(kid:Int)(e:af)
def FF:aB:=aS 23 [(1,.int .i64 kid),(2,.eptr (ac e))] [.dead] []
def pK(o:Bool):aB:=aS 23 [(2,.eptr (ac e)),(5,.bool o)] [.dead] []
def sP:Option Bool:=
 if(e.Op==7)=true then
  some (decide (kid>0))
 else
  some false
theorem D1{x:Bool}(h:sP kid e=some x):aW Pg GE 0 (cA YL 26) (EX .normal (pK e x)) (FF kid e):=by
 have p2:=fun{sc F} (r:PS sc F)=>sv (cK e)<|sv (cM e)<|r
 rcases aO h with⟨c1,h⟩|⟨c1,h⟩
 ·obtain rfl:=lf h
  exact bv Xi (p2<|sg 4 c1<|eF .normal (pK e (decide (kid>0))))<|by kernel_rfl
 ·obtain rfl:=lf h
  exact bv Xi (p2<|sg 4 c1<|eF .normal (pK e false))<|by kernel_rfl
end
def oQ(e:af)(kid:Int):Option waA:=
 (sP kid e).bind fun o3=>
 if o3=true then
  some ([e.Name]:List ae)
 else
  if(e.Op==6)=true then
   (lx e.Params).bind fun r8=>
   some r8
  else
   some ([]:List ae)
theorem zB{e:af}{kid:Int}{r:waA}(h:oQ e kid=some r):CC Pg GE 126 [.agg (ac e),.int .i64 kid] (sl cS r) [(0,9)]:=by
 obtain⟨o3,bo3,h⟩:=ck h
 have p5:=fun{sc F} (r:PS sc F)=>se (cF e)<|nF 1<|cT (D1 kid e bo3)<|r
 rcases aO h with⟨c4,h⟩|⟨c4,h⟩
 ·obtain rfl:=lf h
  have z:=p5<|sg 0 c4<|sv (da e)<|sv (dv e)<|sv (bN.mk' (v:=PVal.str) Ij ([e.Name]:List ae) 1 (by kernel_rfl))<|en (aI (rP (sl cS ([e.Name]:List ae)))<|(aj bz ([e.Name]:List ae)))
  exact Z126.v (aI (az e) (aI trivial trivial)) z<|by kernel_rfl
 ·have p7:=fun{sc F} (r:PS sc F)=>p5<|sg 0 c4<|sv (cK e)<|sv (cM e)<|r
  rcases aO h with⟨c6,h⟩|⟨c6,h⟩
  ·obtain⟨r8,br8,h⟩:=ck h
   obtain rfl:=lf h
   have z:=p7<|sg 0 c6<|sv (bH e)<|sv (bJ e)<|cD (px br8)<|en (aI (rP (sl cS r8))<|(aj bz r8))
   exact Z126.v (aI (az e) (aI trivial trivial)) z<|by kernel_rfl
  ·obtain rfl:=lf h
   have z:=p7<|sg 0 c6<|en (aI (rP (sl cS ([]:List ae)))<|(aj bz ([]:List ae)))
   exact Z126.v (aI (az e) (aI trivial trivial)) z<|by kernel_rfl
noncomputable def Sj:Code:=f79.body.getD .skip
def PB:List Nat:=[27]
theorem Z79:ZF PB 79 f79 Sj:=⟨call79,func79,rfl⟩
section
variable(hidden:waA)(e:af)(m2:(List (ae×Bool)))
def sV:aB:=aS 57 [(1,sl cS hidden),(2,.func (.func 80) [] [.bptr 0 0]),(3,.eptr (ac e))] [.cells [.bptr 1 0] [],.cells [.mapr 2] [],.map (aL PVal.bool m2),.dead] []
def gA(o:Bool):aB:=aS 57 [(1,sl cS hidden),(2,.func (.func 80) [] [.bptr 0 0]),(3,.eptr (ac e)),(18,.bool o)] [.cells [.bptr 1 0] [],.cells [.mapr 2] [],.map (aL PVal.bool m2),.dead] []
def lR:Option Bool:=
 (fj e).bind fun r1=>
 if r1=true then
  (ka hidden e.Name).bind fun r4=>
  some (decide (r4<0))
 else
  some false
theorem rN{x:Bool}(h:lR hidden e=some x):aW Pg GE 3 (cA Sj 12) (EX .normal (gA hidden e m2 x)) (sV hidden e m2):=by
 obtain⟨r1,br1,h⟩:=ck h
 have p3:=fun{sc F} (r:PS sc F)=>sv (bM e)<|cD (jj br1)<|r
 rcases aO h with⟨c2,h⟩|⟨c2,h⟩
 ·obtain⟨r4,br4,h⟩:=ck h
  obtain rfl:=lf h
  exact bv PB (p3<|sg 3 c2<|sv (da e)<|sv (dv e)<|cD (oI br4)<|eF .normal (gA hidden e m2 (decide (r4<0))))<|by kernel_rfl
 ·obtain rfl:=lf h
  exact bv PB (p3<|sg 3 c2<|eF .normal (gA hidden e m2 false))<|by kernel_rfl
end
section
variable(hidden:waA)(e:af)(m2:(List (ae×Bool)))
def sU:aB:=aS 57 [(1,sl cS hidden),(2,.func (.func 80) [] [.bptr 0 0]),(3,.eptr (ac e))] [.cells [.bptr 1 0] [],.cells [.mapr 2] [],.map (aL PVal.bool m2),.dead] []
def gz(o:(List (ae×Bool))):aB:=aS 57 [(1,sl cS hidden),(2,.func (.func 80) [] [.bptr 0 0]),(3,.eptr (ac e))] [.cells [.bptr 1 0] [],.cells [.mapr 2] [],.map (aL PVal.bool o),.dead] []
def lQ:Option (((List (ae×Bool)))):=
 (lR hidden e).bind fun o5=>
 if o5=true then
  (EE e m2).bind fun r8=>
  some r8
 else
  some m2
theorem rK{x:((List (ae×Bool)))}(h:lQ hidden e m2=some x):aW Pg GE 3 (cA Sj 6) (EX .normal (gz hidden e x)) (sU hidden e m2):=by
 obtain⟨o5,bo5,h⟩:=ck h
 have p7:=fun{sc F} (r:PS sc F)=>nF 0<|cT (rN hidden e m2 bo5)<|r
 rcases aO h with⟨c6,h⟩|⟨c6,h⟩
 ·obtain⟨r8,br8,h⟩:=ck h
  obtain rfl:=lf h
  exact bv PB (p7<|sg 0 c6<|sv (bM e)<|si (.cg ⟨[0,1,2],[.agg (ac e),.bptr 0 0],[],[.cells [.bptr 1 0] [],.cells [.mapr 2] [],.map (aL PVal.bool m2)],[.cells [.bptr 1 0] [],.cells [.mapr 2] [],.map (aL PVal.bool m2)],[.cells [.bptr 1 0] [],.cells [.mapr 2] [],.map (aL PVal.bool r8)],[.cells [.bptr 1 0] [],.cells [.mapr 2] [],.map (aL PVal.bool r8)],.tuple [],.tuple [],[]⟩) (Iv br8)<|sf (aI (xR [0,1,2] (.agg (ac e)) (az e)) (aI (xB [0,1,2] 0 0 0 rfl) trivial))<|sf (aI (aI (rB (.cells [.bptr 1 0] [])) (aI (rW []) (aI (xB [0,1,2] 1 1 0 rfl) trivial))) (aI (aI (rB (.cells [.mapr 2] [])) (aI (rW []) (aI (xM [0,1,2] 2 2 rfl) trivial))) (aI (aI (rB (.map (aL PVal.bool m2))) (aI (rM (aL PVal.bool m2)) (qb (n:=0) PVal.bool (fun x=>trivial) m2))) trivial)))<|sf (aI (aI (rW []) (aI (xB [0,1,2] 1 1 0 rfl) trivial)) (aI (aI (rW []) (aI (xM [0,1,2] 2 2 rfl) trivial)) (aI (aI (rM (aL PVal.bool r8)) (qb (n:=0) PVal.bool (fun x=>trivial) r8)) trivial)))<|sf (xR [0,1,2] (.tuple []) trivial)<|eF .normal (gz hidden e r8))<|by kernel_rfl
 ·obtain rfl:=lf h
  exact bv PB (p7<|sg 0 c6<|eF .normal (gz hidden e m2))<|by kernel_rfl
end
section
variable(R14:d9)(hidden:waA)(e:af)(t23:waF)(t24:Int)(t25:Int)(m2:(List (ae×Bool)))
def eI:aB:=aS 57 [(1,sl cS hidden),(2,.func (.func 80) [] [.bptr 0 0]),(3,.eptr (ac e)),(23,sl ac t23),(24,.int .i64 t24),(25,.int .i64 t25)] [.cells [.bptr 1 0] [],.cells [.mapr 2] [],.map (aL PVal.bool m2),.dead] []
def gB(o:(List (ae×Bool))):aB:=aS 57 [(1,sl cS hidden),(2,.func (.func 80) [] [.bptr 0 0]),(3,.eptr (ac e))] [.cells [.bptr 1 0] [],.cells [.mapr 2] [],.map (aL PVal.bool o),.dead] []
def kM:Option ((Int×(List (ae×Bool)))⊕(((List (ae×Bool))))):=
 if(decide (t25<t24))=true then
  (eT t23 t25).bind fun x11=>
  (pC hidden).bind fun r12=>
  (oQ e t25).bind fun r13=>
  (app r12 r13).bind fun l14=>
  (R14 x11 l14 m2).bind fun r15=>
  some (.inl (bB (t25+1),r15))
 else
  some (.inr m2)
def lS:Option (((List (ae×Bool)))):=loop (fun(zz:Int×(List (ae×Bool)))=>kM R14 hidden e t23 t24 zz.1 zz.2) (t25,m2)
theorem rq(hR14:d7 R14){y:(Int×(List (ae×Bool)))⊕(((List (ae×Bool))))}(h:kM R14 hidden e t23 t24 t25 m2=some y):aW Pg GE 3 (cA Sj 119) (LQ (fun(zz:Int×(List (ae×Bool)))=>eI hidden e t23 t24 zz.1 zz.2) (fun _=>.exit 0) (gB hidden e) y) (eI hidden e t23 t24 t25 m2):=by
 rcases aO h with⟨c10,h⟩|⟨c10,h⟩
 ·obtain⟨x11,bx11,r12,br12,r13,br13,l14,bl14,h⟩:=Zb4 h
  obtain⟨r15,br15,h⟩:=ck h
  obtain rfl:=lf h
  have z:=sg 0 c10<|sv (fQ.ia (k:=.i64) bx11)<|sv (bM x11)<|sx AD<|sx (kF x11)<|sk<|X8 (.dx [0,0,2,0,0,30,62,0] [] [] [])<|sv (bW x11 [])<|cD (tJ br12)<|sv (bM e)<|cD (zB br13)<|sv (bN.ap bl14)<|si (.cg ⟨[0,1,2],[.agg (ac x11),sl cS l14,.func (.func 80) [] [.bptr 0 0]],[],[.cells [.bptr 1 0] [],.cells [.mapr 2] [],.map (aL PVal.bool m2)],[.cells [.bptr 1 0] [],.cells [.mapr 2] [],.map (aL PVal.bool m2)],[.cells [.bptr 1 0] [],.cells [.mapr 2] [],.map (aL PVal.bool r15)],[.cells [.bptr 1 0] [],.cells [.mapr 2] [],.map (aL PVal.bool r15)],.tuple [],.tuple [],[]⟩) (hR14 _ _ _ _ br15)<|sf (aI (xR [0,1,2] (.agg (ac x11)) (az x11)) (aI (xR [0,1,2] (sl cS l14) (aj bz l14)) (aI (xF [0,1,2] (.func 80) [] [.bptr 0 0] [] [.bptr 0 0] trivial (aI (xB [0,1,2] 0 0 0 rfl) trivial)) trivial)))<|sf (aI (aI (rB (.cells [.bptr 1 0] [])) (aI (rW []) (aI (xB [0,1,2] 1 1 0 rfl) trivial))) (aI (aI (rB (.cells [.mapr 2] [])) (aI (rW []) (aI (xM [0,1,2] 2 2 rfl) trivial))) (aI (aI (rB (.map (aL PVal.bool m2))) (aI (rM (aL PVal.bool m2)) (qb (n:=0) PVal.bool (fun x=>trivial) m2))) trivial)))<|sf (aI (aI (rW []) (aI (xB [0,1,2] 1 1 0 rfl) trivial)) (aI (aI (rW []) (aI (xM [0,1,2] 2 2 rfl) trivial)) (aI (aI (rM (aL PVal.bool r15)) (qb (n:=0) PVal.bool (fun x=>trivial) r15)) trivial)))<|sf (xR [0,1,2] (.tuple []) trivial)<|tr 3 .normal (eI hidden e t23 t24 (bB (t25+1)) r15) rfl (du (aI (up (aj bz hidden)) (aI (aI trivial (aI (aT rfl) trivial)) (aI (a8 (az e)) (aI (up (aj az t23)) (aI trivial (aI trivial trivial))))))) (aI (aI (aT rfl) trivial) (aI (aI (aT rfl) trivial) (aI (qb PVal.bool (fun x=>trivial) r15) (aI trivial trivial))))
  exact dy (A:=PB) mixed z<|by kernel_rfl
 ·obtain rfl:=lf h
  have z:=sg 0 c10<|eF (.exit 0) (gB hidden e m2)
  exact hU PB (Zn rfl) z<|by kernel_rfl
theorem rO(hR14:d7 R14){x:((List (ae×Bool)))}(h:lS R14 hidden e t23 t24 t25 m2=some x):aW Pg GE 3 (.loop (cA Sj 119)) (EX (.exit 0) (gB hidden e x)) (eI hidden e t23 t24 t25 m2):=
 ZL h fun _ _ hy=>rq _ hidden _ _ _ _ _ hR14 hy
end
section
variable(R14:d9)(hidden:waA)(t41:waD)(t42:Int)(t43:Int)(m2:(List (ae×Bool)))
def eJ:aB:=aS 57 [(1,sl cS hidden),(2,.func (.func 80) [] [.bptr 0 0]),(41,sl aA t41),(42,.int .i64 t42),(43,.int .i64 t43)] [.cells [.bptr 1 0] [],.cells [.mapr 2] [],.map (aL PVal.bool m2),.dead] []
def gC(o:(List (ae×Bool))):aB:=aS 57 [] [.cells [.bptr 1 0] [],.cells [.mapr 2] [],.map (aL PVal.bool o),.dead] []
def kN:Option ((Int×(List (ae×Bool)))⊕(((List (ae×Bool))))):=
 if(decide (t43<t42))=true then
  (eT t41 t43).bind fun x18=>
  (pC hidden).bind fun r19=>
  (app r19 x18.Names).bind fun l20=>
  (R14 x18.Body l20 m2).bind fun r21=>
  some (.inl (bB (t43+1),r21))
 else
  some (.inr m2)
def lT:Option (((List (ae×Bool)))):=loop (fun(zz:Int×(List (ae×Bool)))=>kN R14 hidden t41 t42 zz.1 zz.2) (t43,m2)
theorem rr(hR14:d7 R14){y:(Int×(List (ae×Bool)))⊕(((List (ae×Bool))))}(h:kN R14 hidden t41 t42 t43 m2=some y):aW Pg GE 3 (cA Sj 127) (LQ (fun(zz:Int×(List (ae×Bool)))=>eJ hidden t41 t42 zz.1 zz.2) (fun _=>.exit 2) gC y) (eJ hidden t41 t42 t43 m2):=by
 rcases aO h with⟨c17,h⟩|⟨c17,h⟩
 ·obtain⟨x18,bx18,r19,br19,l20,bl20,r21,br21,h⟩:=Zb4 h
  obtain rfl:=lf h
  have z:=sg 0 c17<|sv (eZ.ia (k:=.i64) bx18)<|sv (mA x18)<|sx Io<|sx (i7 x18)<|sk<|X8 (.dx [0,1,0,4,0,16,60,0] [] [] [])<|sv (bW x18.Body [])<|cD (tJ br19)<|ss<|sv (bN.ap bl20)<|si (.cg ⟨[0,1,2],[.agg (ac x18.Body),sl cS l20,.func (.func 80) [] [.bptr 0 0]],[],[.cells [.bptr 1 0] [],.cells [.mapr 2] [],.map (aL PVal.bool m2)],[.cells [.bptr 1 0] [],.cells [.mapr 2] [],.map (aL PVal.bool m2)],[.cells [.bptr 1 0] [],.cells [.mapr 2] [],.map (aL PVal.bool r21)],[.cells [.bptr 1 0] [],.cells [.mapr 2] [],.map (aL PVal.bool r21)],.tuple [],.tuple [],[]⟩) (hR14 _ _ _ _ br21)<|sf (aI (xR [0,1,2] (.agg (ac x18.Body)) (az x18.Body)) (aI (xR [0,1,2] (sl cS l20) (aj bz l20)) (aI (xF [0,1,2] (.func 80) [] [.bptr 0 0] [] [.bptr 0 0] trivial (aI (xB [0,1,2] 0 0 0 rfl) trivial)) trivial)))<|sf (aI (aI (rB (.cells [.bptr 1 0] [])) (aI (rW []) (aI (xB [0,1,2] 1 1 0 rfl) trivial))) (aI (aI (rB (.cells [.mapr 2] [])) (aI (rW []) (aI (xM [0,1,2] 2 2 rfl) trivial))) (aI (aI (rB (.map (aL PVal.bool m2))) (aI (rM (aL PVal.bool m2)) (qb (n:=0) PVal.bool (fun x=>trivial) m2))) trivial)))<|sf (aI (aI (rW []) (aI (xB [0,1,2] 1 1 0 rfl) trivial)) (aI (aI (rW []) (aI (xM [0,1,2] 2 2 rfl) trivial)) (aI (aI (rM (aL PVal.bool r21)) (qb (n:=0) PVal.bool (fun x=>trivial) r21)) trivial)))<|sf (xR [0,1,2] (.tuple []) trivial)<|tr 3 .normal (eJ hidden t41 t42 (bB (t43+1)) r21) rfl (du (aI (up (aj bz hidden)) (aI (aI trivial (aI (aT rfl) trivial)) (aI (up (aj bF t41)) (aI trivial (aI trivial trivial)))))) (aI (aI (aT rfl) trivial) (aI (aI (aT rfl) trivial) (aI (qb PVal.bool (fun x=>trivial) r21) (aI trivial trivial))))
  exact dy (A:=PB) mixed z<|by kernel_rfl
 ·obtain rfl:=lf h
  have z:=sg 0 c17<|eF (.exit 2) (gC m2)
  exact hU PB (Zn rfl) z<|by kernel_rfl
theorem rQ(hR14:d7 R14){x:((List (ae×Bool)))}(h:lT R14 hidden t41 t42 t43 m2=some x):aW Pg GE 3 (.loop (cA Sj 127)) (EX (.exit 2) (gC x)) (eJ hidden t41 t42 t43 m2):=
 ZL h fun _ _ hy=>rr _ hidden _ _ _ _ hR14 hy
end
def mK(R14:d9)(e:af)(hidden:waA)(k2:(List (ae×Bool))):Option ((List (ae×Bool))):=
 (lQ hidden e k2).bind fun o9=>
 (lS R14 hidden e e.Kids (e.Kids.length:Int) 0 o9).bind fun o16=>
 (lT R14 hidden e.Alts (e.Alts.length:Int) 0 o16).bind fun o22=>
 some o22
theorem tX(R14:d9)(hR14:d7 R14){e:af}{hidden:waA}{k2:(List (ae×Bool))}{r:(List (ae×Bool))}(h:mK R14 e hidden k2=some r):C Pg GE 79 [.agg (ac e),sl cS hidden,.func (.func 80) [] [.bptr 0 0]] [] [.cells [.bptr 1 0] [],.cells [.mapr 2] [],.map (aL PVal.bool k2)] (.tuple []) [] [.cells [.bptr 1 0] [],.cells [.mapr 2] [],.map (aL PVal.bool r)]:=by
 obtain⟨o9,bo9,o16,bo16,o22,bo22,h⟩:=Zb3 h
 obtain rfl:=lf h
 have z:=se (cF e)<|nF 0<|cT (rK hidden e k2 bo9)<|sv (ba e)<|sv (be e)<|bQ (fQ.ln e.Kids)<|cT (rO R14 hidden e e.Kids (e.Kids.length:Int) 0 o9 hR14 bo16)<|sv (aG e)<|sv (aH e)<|bQ (eZ.ln e.Alts)<|cT (rQ R14 hidden e.Alts (e.Alts.length:Int) 0 o16 hR14 bo22)<|en (aI (rP (.tuple []))<|aI trivial<|aI (rL [.cells [.bptr 1 0] [],.cells [.mapr 2] [],.map (aL PVal.bool o22)])<|(aI (aI (aT (i:=1) (n:=3) rfl) trivial) (aI (aI (aT (i:=2) (n:=3) rfl) trivial) (aI (qb (n:=3) PVal.bool (fun x=>trivial) o22) trivial))))
 exact Z79.g (m:=3) rfl z<|by kernel_rfl
def mL:((af×waA×(List (ae×Bool)))->Option ((List (ae×Bool))))->(af×waA×(List (ae×Bool)))->Option ((List (ae×Bool))):=fun(rec:(af×waA×(List (ae×Bool)))->Option ((List (ae×Bool)))) (x:af×waA×(List (ae×Bool)))=>mK (fun e hidden k2=>rec (e,hidden,k2)) x.1 x.2.1 x.2.2
def nX(e:af)(hidden:waA)(k2:(List (ae×Bool))):Option ((List (ae×Bool))):=rE mL (e,hidden,k2)
theorem uw{e:af}{hidden:waA}{k2:(List (ae×Bool))}{r:(List (ae×Bool))}(h:nX e hidden k2=some r):C Pg GE 79 [.agg (ac e),sl cS hidden,.func (.func 80) [] [.bptr 0 0]] [] [.cells [.bptr 1 0] [],.cells [.mapr 2] [],.map (aL PVal.bool k2)] (.tuple []) [] [.cells [.bptr 1 0] [],.cells [.mapr 2] [],.map (aL PVal.bool r)]:=
 ek (F:=mL) (M:=fun(x:af×waA×(List (ae×Bool))) (r:(List (ae×Bool)))=>C Pg GE 79 [.agg (ac x.1),sl cS x.2.1,.func (.func 80) [] [.bptr 0 0]] [] [.cells [.bptr 1 0] [],.cells [.mapr 2] [],.map (aL PVal.bool x.2.2)] (.tuple []) [] [.cells [.bptr 1 0] [],.cells [.mapr 2] [],.map (aL PVal.bool r)]) (fun rec hrec x r h=>tX _ (fun e hidden k2 r h=>hrec (e,hidden,k2) r h) h) h
noncomputable def qcn:Code:=f24.body.getD .skip
def qbX:List Nat:=[]
theorem Z24:ZF qbX 24 f24 qcn:=⟨call24,func24,rfl⟩
def CQ(e:af):Option waA:=
 (mj ([]:List ae)).bind fun r1=>
 (nX e ([]:List ae) r1).bind fun r2=>
 (sL r2).bind fun r3=>
 some r3
theorem CR{e:af}{r:waA}(h:CQ e=some r):CC Pg GE 24 [.agg (ac e)] (sl cS r) [(0,9)]:=by
 obtain⟨r1,br1,r2,br2,r3,br3,h⟩:=Zb3 h
 obtain rfl:=lf h
 have z:=se (cF e)<|si (.cn ⟨[2,3],[],[],[],[],[.map (aL PVal.bool r1),.cells [.mapr 2] []],[.map (aL PVal.bool r1),.cells [.mapr 0] []],.bptr 3 0,.bptr 1 0,[]⟩) (sQ br1)<|sf (aI (aj bz ([]:List ae)) trivial)<|sf (aI (aI (rM (aL PVal.bool r1)) (qb (n:=0) PVal.bool (fun x=>trivial) r1)) (aI (aI (rW []) (aI (xM [2,3] 0 2 rfl) trivial)) trivial))<|sf (xB [2,3] 1 3 0 rfl)<|sx Xb<|ss<|sv (bM e)<|si (.cg ⟨[1,3,2],[.agg (ac e),sl cS ([]:List ae),.func (.func 80) [] [.bptr 0 0]],[],[.cells [.bptr 3 0] [],.cells [.mapr 2] [],.map (aL PVal.bool r1)],[.cells [.bptr 1 0] [],.cells [.mapr 2] [],.map (aL PVal.bool r1)],[.cells [.bptr 3 0] [],.cells [.mapr 2] [],.map (aL PVal.bool r2)],[.cells [.bptr 1 0] [],.cells [.mapr 2] [],.map (aL PVal.bool r2)],.tuple [],.tuple [],[]⟩) (uw br2)<|sf (aI (xR [1,3,2] (.agg (ac e)) (az e)) (aI (xR [1,3,2] (sl cS ([]:List ae)) (aj bz ([]:List ae))) (aI (xF [1,3,2] (.func 80) [] [.bptr 1 0] [] [.bptr 0 0] trivial (aI (xB [1,3,2] 0 1 0 rfl) trivial)) trivial)))<|sf (aI (aI (rB (.cells [.bptr 3 0] [])) (aI (rW []) (aI (xB [1,3,2] 1 3 0 rfl) trivial))) (aI (aI (rB (.cells [.mapr 2] [])) (aI (rW []) (aI (xM [1,3,2] 2 2 rfl) trivial))) (aI (aI (rB (.map (aL PVal.bool r1))) (aI (rM (aL PVal.bool r1)) (qb (n:=0) PVal.bool (fun x=>trivial) r1))) trivial)))<|sf (aI (aI (rW []) (aI (xB [1,3,2] 1 3 0 rfl) trivial)) (aI (aI (rW []) (aI (xM [1,3,2] 2 2 rfl) trivial)) (aI (aI (rM (aL PVal.bool r2)) (qb (n:=0) PVal.bool (fun x=>trivial) r2)) trivial)))<|sf (xR [1,3,2] (.tuple []) trivial)<|ss<|si (.cg ⟨[3,2],[.bptr 0 0],[],[.cells [.mapr 2] [],.map (aL PVal.bool r2)],[.cells [.mapr 1] [],.map (aL PVal.bool r2)],[.cells [.mapr 2] [],.map (aL PVal.bool r2)],[.cells [.mapr 1] [],.map (aL PVal.bool r2)],sl cS r3,sl cS r3,[(0,9)]⟩) (yP br3)<|sf (aI (xB [3,2] 0 3 0 rfl) trivial)<|sf (aI (aI (rB (.cells [.mapr 2] [])) (aI (rW []) (aI (xM [3,2] 1 2 rfl) trivial))) (aI (aI (rB (.map (aL PVal.bool r2))) (aI (rM (aL PVal.bool r2)) (qb (n:=0) PVal.bool (fun x=>trivial) r2))) trivial))<|sf (aI (aI (rW []) (aI (xM [3,2] 1 2 rfl) trivial)) (aI (aI (rM (aL PVal.bool r2)) (qb (n:=0) PVal.bool (fun x=>trivial) r2)) trivial))<|sf (xR [3,2] (sl cS r3) (aj bz r3))<|en (aI (rP (sl cS r3))<|(aj bz r3))
 exact Z24.v (aI (az e) trivial) z<|by kernel_rfl
abbrev aY:=(af->(List ag)->waA->Option (af×waA))
abbrev bG(R:aY):Prop:=∀(e:af) (scope:(List ag)) (k0:waA) (r:af×waA),R e scope k0=some r->C Pg GE 56 [.agg [.func (.func 62) [] [.bptr 0 0],.func (.func 61) [] []],.agg (ac e),sl aa scope] [] [.cells [sl cS k0] [(0,9)]] (.agg (ac r.1)) [(3,28),(4,85),(5,89),(6,60)] [.cells [sl cS r.2] [(0,9)]]
abbrev ef:=(waC->Option waC)
abbrev ic(R:ef):Prop:=∀(a:waC) (r:waC),R a=some r->CC Pg GE 102 [sl ah a,.func (.func 103) [] []] (sl ah r) [(0,60)]
abbrev gn:=(am->Option am)
abbrev kX(R:gn):Prop:=∀(p:am) (r:am),R p=some r->CC Pg GE 135 [.agg (al p)] (.agg (al r)) [(3,58)]
noncomputable def XB:Code:=f136.body.getD .skip
def Xj:List Nat:=[14,21]
theorem Z136:ZF Xj 136 f136 XB:=⟨call136,func136,rfl⟩
section
variable(R24:gn)(t8:waB)(t9:Int)(out:waB)(t10:Int)
def fC:aB:=aS 22 [(1,.func (.func 135) [] []),(5,sl al out),(8,sl al t8),(9,.int .i64 t9),(10,.int .i64 t10)] [] [((5,0),58)]
def je(o:waB):aB:=aS 22 [(5,sl al o)] [] [((5,0),58)]
def nf:Option ((waB×Int)⊕(waB)):=
 if(decide (t10<t9))=true then
  (eT t8 t10).bind fun x2=>
  (R24 x2).bind fun r3=>
  (app out ([r3]:List am)).bind fun l4=>
  some (.inl (l4,bB (t10+1)))
 else
  some (.inr out)
def oN:Option waB:=loop (fun(zz:waB×Int)=>nf R24 t8 t9 zz.1 zz.2) (out,t10)
theorem uu(hR24:kX R24){y:(waB×Int)⊕(waB)}(h:nf R24 t8 t9 out t10=some y):aW Pg GE 0 (cA XB 119) (LQ (fun(zz:waB×Int)=>fC t8 t9 zz.1 zz.2) (fun _=>.exit 0) je y) (fC t8 t9 out t10):=by
 rcases aO h with⟨c1,h⟩|⟨c1,h⟩
 ·obtain⟨x2,bx2,r3,br3,l4,bl4,h⟩:=Zb3 h
  obtain rfl:=lf h
  have z:=sg 0 c1<|sv (oh.ia (k:=.i64) bx2)<|sv (qH x2)<|sx WU<|sx (Dx x2)<|sv (za x2 [])<|cD (hR24 _ _ br3)<|sv (oh.mk' (v:=Py) NT ([r3]:List am) 1 (by kernel_rfl))<|sv (oh.ap bl4)<|tr 0 .normal (fC t8 t9 l4 (bB (t10+1))) rfl (du (aI (aI trivial trivial) (aI (up (aj aQ l4)) (aI (up (aj aQ t8)) (aI trivial (aI trivial trivial)))))) trivial
  exact dy (A:=Xj) mixed z<|by kernel_rfl
 ·obtain rfl:=lf h
  have z:=sg 0 c1<|eF (.exit 0) (je out)
  exact hU Xj (Zn rfl) z<|by kernel_rfl
theorem vL(hR24:kX R24){x:waB}(h:oN R24 t8 t9 out t10=some x):aW Pg GE 0 (.loop (cA XB 119)) (EX (.exit 0) (je x)) (fC t8 t9 out t10):=
 ZL h fun _ _ hy=>uu _ _ _ _ _ hR24 hy
end
def ml(R24:gn)(a:waB):Option waB:=
 (oN R24 a (a.length:Int) ([]:List am) 0).bind fun o5=>
 some o5
theorem oO(R24:gn)(hR24:kX R24){a:waB}{r:waB}(h:ml R24 a=some r):CC Pg GE 136 [sl al a,.func (.func 135) [] []] (sl al r) [(0,58)]:=by
 obtain⟨o5,bo5,h⟩:=ck h
 obtain rfl:=lf h
 have z:=bQ (oh.ln a)<|cT (vL R24 a (a.length:Int) ([]:List am) 0 hR24 bo5)<|en (aI (rP (sl al o5))<|(aj aQ o5))
 exact Z136.v (aI (aj aQ a) (aI (aI trivial trivial) trivial)) z<|by kernel_rfl
noncomputable def qaC:Code:=f135.body.getD .skip
def qab:List Nat:=[]
theorem Z135:ZF qab 135 f135 qaC:=⟨call135,func135,rfl⟩
def wY(R24:gn)(p:am):Option am:=
 (ml R24 p.Kids).bind fun r1=>
 some (⟨p.Op,p.Name,p.N,r1⟩:am)
theorem CV(R24:gn)(hR24:kX R24){p:am}{r:am}(h:wY R24 p=some r):CC Pg GE 135 [.agg (al p)] (.agg (al r)) [(3,58)]:=by
 obtain⟨r1,br1,h⟩:=ck h
 obtain rfl:=lf h
 have z:=sx (Dx p)<|sx WU<|ss<|cD (oO R24 hR24 br1)<|sz (za (⟨p.Op,p.Name,p.N,r1⟩:am) [])<|sy (cx (⟨p.Op,p.Name,p.N,r1⟩:am))<|en (aI (TZ (⟨p.Op,p.Name,p.N,r1⟩:am))<|aI (aQ (⟨p.Op,p.Name,p.N,r1⟩:am))<|rT)
 exact Z135.v (aI (aQ p) trivial) z<|by kernel_rfl
def wZ:(am->Option am)->(am)->Option am:=fun(rec:am->Option am) (x:am)=>wY (fun p=>rec p) x
def nI(p:am):Option am:=rE wZ p
theorem uO{p:am}{r:am}(h:nI p=some r):CC Pg GE 135 [.agg (al p)] (.agg (al r)) [(3,58)]:=
 ek (F:=wZ) (M:=fun(x:am) (r:am)=>CC Pg GE 135 [.agg (al x)] (.agg (al r)) [(3,58)]) (fun rec hrec x r h=>CV _ (fun p r h=>hrec p r h) h) h
noncomputable def qaw:Code:=f103.body.getD .skip
def Z4:List Nat:=[]
theorem Z103:ZF Z4 103 f103 qaw:=⟨call103,func103,rfl⟩
def nJ(R22:ef)(t:ai):Option ai:=
 (R22 t.Args).bind fun r1=>
 (pC t.Names).bind fun r2=>
 (nI t.Pred).bind fun r3=>
 (ml nI t.Preds).bind fun r4=>
 some (⟨t.Op,t.Name,r1,r2,r3,r4⟩:ai)
theorem om(R22:ef)(hR22:ic R22){t:ai}{r:ai}(h:nJ R22 t=some r):CC Pg GE 103 [.agg (ah t)] (.agg (ah r)) [(2,60),(3,9),(7,58),(8,58)]:=by
 obtain⟨r1,br1,r2,br2,r3,br3,r4,br4,h⟩:=Zb4 h
 obtain rfl:=lf h
 have z:=sx (sH t)<|sx R2<|ss<|cD (hR22 _ _ br1)<|ss<|cD (tJ br2)<|sv (za t.Pred [sl al t.Preds])<|cD (uO br3)<|sy (cx r3)<|ss<|cD (oO nI (fun _ _ h=>uO h) br4)<|sz (kz (⟨t.Op,t.Name,r1,r2,r3,r4⟩:ai) [])<|sy (cJ (⟨t.Op,t.Name,r1,r2,r3,r4⟩:ai))<|en (aI (T4 (⟨t.Op,t.Name,r1,r2,r3,r4⟩:ai))<|aI (aF (⟨t.Op,t.Name,r1,r2,r3,r4⟩:ai))<|rT)
 exact Z103.v (aI (aF t) trivial) z<|by kernel_rfl
noncomputable def Xw:Code:=f102.body.getD .skip
def Xh:List Nat:=[14,21]
theorem Z102:ZF Xh 102 f102 Xw:=⟨call102,func102,rfl⟩
section
variable(R22:ef)(t8:waC)(t9:Int)(out:waC)(t10:Int)
def fD:aB:=aS 22 [(1,.func (.func 103) [] []),(5,sl ah out),(8,sl ah t8),(9,.int .i64 t9),(10,.int .i64 t10)] [] [((5,0),60)]
def jf(o:waC):aB:=aS 22 [(5,sl ah o)] [] [((5,0),60)]
def ng:Option ((waC×Int)⊕(waC)):=
 if(decide (t10<t9))=true then
  (eT t8 t10).bind fun x2=>
  (nJ R22 x2).bind fun r3=>
  (app out ([r3]:List ai)).bind fun l4=>
  some (.inl (l4,bB (t10+1)))
 else
  some (.inr out)
def oP:Option waC:=loop (fun(zz:waC×Int)=>ng R22 t8 t9 zz.1 zz.2) (out,t10)
theorem uv(hR22:ic R22){y:(waC×Int)⊕(waC)}(h:ng R22 t8 t9 out t10=some y):aW Pg GE 0 (cA Xw 119) (LQ (fun(zz:waC×Int)=>fD t8 t9 zz.1 zz.2) (fun _=>.exit 0) jf y) (fD t8 t9 out t10):=by
 rcases aO h with⟨c1,h⟩|⟨c1,h⟩
 ·obtain⟨x2,bx2,r3,br3,l4,bl4,h⟩:=Zb3 h
  obtain rfl:=lf h
  have z:=sg 0 c1<|sv (ee.ia (k:=.i64) bx2)<|sv (lC x2)<|sx R2<|sx (sH x2)<|sv (kz x2 [])<|cD (om R22 hR22 br3)<|sv (ee.mk' (v:=Pz) NU ([r3]:List ai) 1 (by kernel_rfl))<|sv (ee.ap bl4)<|tr 0 .normal (fD t8 t9 l4 (bB (t10+1))) rfl (du (aI (aI trivial trivial) (aI (up (aj aF l4)) (aI (up (aj aF t8)) (aI trivial (aI trivial trivial)))))) trivial
  exact dy (A:=Xh) mixed z<|by kernel_rfl
 ·obtain rfl:=lf h
  have z:=sg 0 c1<|eF (.exit 0) (jf out)
  exact hU Xh (Zn rfl) z<|by kernel_rfl
theorem vM(hR22:ic R22){x:waC}(h:oP R22 t8 t9 out t10=some x):aW Pg GE 0 (.loop (cA Xw 119)) (EX (.exit 0) (jf x)) (fD t8 t9 out t10):=
 ZL h fun _ _ hy=>uv _ _ _ _ _ hR22 hy
end
def pZ(R22:ef)(a:waC):Option waC:=
 (oP R22 a (a.length:Int) ([]:List ai) 0).bind fun o5=>
 some o5
theorem xq(R22:ef)(hR22:ic R22){a:waC}{r:waC}(h:pZ R22 a=some r):CC Pg GE 102 [sl ah a,.func (.func 103) [] []] (sl ah r) [(0,60)]:=by
 obtain⟨o5,bo5,h⟩:=ck h
 obtain rfl:=lf h
 have z:=bQ (ee.ln a)<|cT (vM R22 a (a.length:Int) ([]:List ai) 0 hR22 bo5)<|en (aI (rP (sl ah o5))<|(aj aF o5))
 exact Z102.v (aI (aj aF a) (aI (aI trivial trivial) trivial)) z<|by kernel_rfl
def qa:(waC->Option waC)->(waC)->Option waC:=fun(rec:waC->Option waC) (x:waC)=>pZ (fun a=>rec a) x
def dW(a:waC):Option waC:=rE qa a
theorem gL{a:waC}{r:waC}(h:dW a=some r):CC Pg GE 102 [sl ah a,.func (.func 103) [] []] (sl ah r) [(0,60)]:=
 ek (F:=qa) (M:=fun(x:waC) (r:waC)=>CC Pg GE 102 [sl ah x,.func (.func 103) [] []] (sl ah r) [(0,60)]) (fun rec hrec x r h=>xq _ (fun a r h=>hrec a r h) h) h
noncomputable def qcy:Code:=f61.body.getD .skip
def qb8:List Nat:=[3]
theorem Z61:ZF qb8 61 f61 qcy:=⟨call61,func61,rfl⟩
def Jl(s:ae):Option ae:=
 some s
theorem Mm{s:ae}{r:ae}(h:Jl s=some r):CC Pg GE 61 [.str s] (.str r) []:=by
 obtain rfl:=lf h
 have z:=en (aI (rP (.str s))<|trivial)
 exact Z61.v (aI trivial trivial) z<|by kernel_rfl
noncomputable def YP:Code:=f52.body.getD .skip
def Yx:List Nat:=[24,35]
theorem Z52:ZF Yx 52 f52 YP:=⟨call52,func52,rfl⟩
section
variable(base:ae)(t11:waA)(t12:Int)(t13:Int)(m0:(List (ae×Bool)))
def nz:aB:=aS 36 [(1,.str base),(5,.mapr 0),(11,sl cS t11),(12,.int .i64 t12),(13,.int .i64 t13)] [.map (aL PVal.bool m0)] []
def sB(o:(List (ae×Bool))):aB:=aS 36 [(1,.str base),(5,.mapr 0)] [.map (aL PVal.bool o)] []
def zf:Option ((Int×(List (ae×Bool)))⊕(((List (ae×Bool))))):=
 if(decide (t13<t12))=true then
  (eT t11 t13).bind fun x2=>
  some (.inl (bB (t13+1),tN m0 x2 true))
 else
  some (.inr m0)
def Ct:Option (((List (ae×Bool)))):=loop (fun(zz:Int×(List (ae×Bool)))=>zf t11 t12 zz.1 zz.2) (t13,m0)
theorem Fh{y:(Int×(List (ae×Bool)))⊕(((List (ae×Bool))))}(h:zf t11 t12 t13 m0=some y):aW Pg GE 0 (cA YP 119) (LQ (fun(zz:Int×(List (ae×Bool)))=>nz base t11 t12 zz.1 zz.2) (fun _=>.exit 0) (sB base) y) (nz base t11 t12 t13 m0):=by
 rcases aO h with⟨c1,h⟩|⟨c1,h⟩
 ·obtain⟨x2,bx2,h⟩:=ck h
  obtain rfl:=lf h
  exact wJ Yx (sg 0 c1<|sv (bN.ia (k:=.i64) bx2)<|sv (b8 AF (.str x2) [])<|qbw (RL (f:=PVal.bool) underlying124 underlying9 m0 x2 true)<|eF .normal (nz base t11 t12 (bB (t13+1)) (tN m0 x2 true)))<|by kernel_rfl
 ·obtain rfl:=lf h
  have z:=sg 0 c1<|eF (.exit 0) (sB base m0)
  exact hU Yx (Zn rfl) z<|by kernel_rfl
theorem Gz{x:((List (ae×Bool)))}(h:Ct t11 t12 t13 m0=some x):aW Pg GE 0 (.loop (cA YP 119)) (EX (.exit 0) (sB base x)) (nz base t11 t12 t13 m0):=
 ZL h fun _ _ hy=>Fh _ _ _ _ _ hy
end
section
variable(base:ae)(m0:(List (ae×Bool)))(n:Int)
def nB:aB:=aS 36 [(1,.str base),(5,.mapr 0),(8,.int .i64 n)] [.map (aL PVal.bool m0)] []
def sC(o:ae):aB:=aS 36 [(4,.str o)] [.map (aL PVal.bool m0)] []
def zg:Option (Int⊕(ae)):=
 (W8 n).bind fun r6=>
 (qa5 base r6).bind fun s7=>
 if(!((yK m0 s7).getD false))=true then
  some (.inr s7)
 else
  some (.inl (bB (n+1)))
def Cu:Option ae:=loop (fun(zz:Int)=>zg base m0 zz) n
theorem Fi{y:Int⊕(ae)}(h:zg base m0 n=some y):aW Pg GE 0 (cA YP 255) (LQ (fun(zz:Int)=>nB base m0 zz) (fun _=>.ret) (sC m0) y) (nB base m0 n):=by
 obtain⟨r6,br6,s7,bs7,h⟩:=Zb2 h
 have p9:=fun{sc F} (r:PS sc F)=>cD (WD br6)<|sv (Yc (P:=Pg) (t:=9) bs7)<|sv (O9 (f:=PVal.bool) underlying124 underlying9 Z2 m0 s7)<|r
 rcases aO h with⟨c8,h⟩|⟨c8,h⟩
 ·obtain rfl:=lf h
  have z:=p9<|sg 0 c8<|eF .ret (sC m0 s7)
  exact hU Yx (Zn rfl) z<|by kernel_rfl
 ·obtain rfl:=lf h
  exact wJ Yx (p9<|sg 0 c8<|eF .normal (nB base m0 (bB (n+1))))<|by kernel_rfl
theorem GA{x:ae}(h:Cu base m0 n=some x):aW Pg GE 0 (.loop (cA YP 255)) (EX .ret (sC m0 x)) (nB base m0 n):=
 ZL h fun _ _ hy=>Fi _ _ _ hy
end
def Cs(used:waA)(base:ae):Option ae:=
 (Ct used (used.length:Int) 0 ([]:List (ae×Bool))).bind fun o3=>
 if(!((yK o3 base).getD false))=true then
  some base
 else
  (Cu base o3 1).bind fun o10=>
  some o10
theorem Cv{used:waA}{base:ae}{r:ae}(h:Cs used base=some r):CC Pg GE 52 [sl cS used,.str base] (.str r) []:=by
 obtain⟨o3,bo3,h⟩:=ck h
 have p5:=fun{sc F} (r:PS sc F)=>bQ (bN.ln used)<|cT (Gz base used (used.length:Int) 0 ([]:List (ae×Bool)) bo3)<|sv (O9 (f:=PVal.bool) underlying124 underlying9 Z2 o3 base)<|r
 rcases aO h with⟨c4,h⟩|⟨c4,h⟩
 ·obtain rfl:=lf h
  have z:=p5<|sg 0 c4<|en (aI (rP (.str base))<|trivial)
  exact Z52.v (aI (aj bz used) (aI trivial trivial)) z<|by kernel_rfl
 ·obtain⟨o10,bo10,h⟩:=ck h
  obtain rfl:=lf h
  have z:=p5<|sg 0 c4<|cT (GA base o3 1 bo10)<|en (aI (rP (.str o10))<|trivial)
  exact Z52.v (aI (aj bz used) (aI trivial trivial)) z<|by kernel_rfl
noncomputable def qcz:Code:=f62.body.getD .skip
def qb9:List Nat:=[10,14]
theorem Z62:ZF qb9 62 f62 qcz:=⟨call62,func62,rfl⟩
def ut(s:ae)(a:(List ag))(k0:waA):Option (ae×waA):=
 (Cs k0 s).bind fun r1=>
 (app k0 ([r1]:List ae)).bind fun l2=>
 some (r1,l2)
theorem wQ{s:ae}{a:(List ag)}{k0:waA}{r:ae×waA}(h:ut s a k0=some r):C Pg GE 62 [.str s,sl aa a,.bptr 0 0] [] [.cells [sl cS k0] [(0,9)]] (.str r.1) [] [.cells [sl cS r.2] [(0,9)]]:=by
 obtain⟨r1,br1,l2,bl2,h⟩:=Zb2 h
 obtain rfl:=lf h
 have z:=ss<|cD (Cv br1)<|sv (bN.mk' (v:=PVal.str) Ij ([r1]:List ae) 1 (by kernel_rfl))<|sv (bN.ap bl2)<|en (aI (rP (.str r1))<|aI trivial<|aI (rL [.cells [sl cS l2] [(0,9)]])<|(aI (aI (up (n:=1) (aj bz l2)) trivial) trivial))
 exact Z62.g (m:=1) rfl z<|by kernel_rfl
noncomputable def YK:Code:=f105.body.getD .skip
def Yv:List Nat:=[12,18]
theorem Z105:ZF Yv 105 f105 YK:=⟨call105,func105,rfl⟩
def fc(s:ae)(a:(List ag))(k1:waA)(k2:(List ag)):Option (ae×waA×(List ag)):=
 (ut s a k1).bind fun r1=>
 (app k2 ([(⟨s,r1.1⟩:ag)]:List ag)).bind fun l2=>
 some (r1.1,r1.2,l2)
theorem gX{s:ae}{a:(List ag)}{k1:waA}{k2:(List ag)}{r:ae×waA×(List ag)}(h:fc s a k1 k2=some r):C Pg GE 105 [.str s,.bptr 0 0,.eptr ((cL aa) a),.bptr 2 0] [] [.cells [.func (.func 62) [] [.bptr 1 0],.func (.func 61) [] []] [],.cells [sl cS k1] [(0,9)],.cells [sl aa k2] [(0,137)]] (.str r.1) [] [.cells [.func (.func 62) [] [.bptr 1 0],.func (.func 61) [] []] [],.cells [sl cS r.2.1] [(0,9)],.cells [sl aa r.2.2] [(0,137)]]:=by
 obtain⟨r1,br1,l2,bl2,h⟩:=Zb2 h
 obtain rfl:=lf h
 have z:=ss<|sv (b8 J7 (sl aa a) [])<|si (.cg ⟨[1],[.str s,sl aa a,.bptr 0 0],[],[.cells [sl cS k1] [(0,9)]],[.cells [sl cS k1] [(0,9)]],[.cells [sl cS r1.2] [(0,9)]],[.cells [sl cS r1.2] [(0,9)]],.str r1.1,.str r1.1,[]⟩) (wQ br1)<|sf (aI (xR [1] (.str s) trivial) (aI (xR [1] (sl aa a) (aj av a)) (aI (xB [1] 0 1 0 rfl) trivial)))<|sf (aI (aI (rB (.cells [sl cS k1] [(0,9)])) (aI (rW [(0,9)]) (aI (xR [1] (sl cS k1) (aj bz k1)) trivial))) trivial)<|sf (aI (aI (rW [(0,9)]) (aI (xR [1] (sl cS r1.2) (aj bz r1.2)) trivial)) trivial)<|sf (xR [1] (.str r1.1) trivial)<|sv (lj s r1.1)<|sv (Mc.mk' (v:=oT) pn ([(⟨s,r1.1⟩:ag)]:List ag) 1 (by kernel_rfl))<|sv (Mc.ap bl2)<|en (aI (rP (.str r1.1))<|aI trivial<|aI (rL [.cells [.func (.func 62) [] [.bptr 1 0],.func (.func 61) [] []] [],.cells [sl cS r1.2] [(0,9)],.cells [sl aa l2] [(0,137)]])<|(aI (aI (aI trivial (aI (aT (i:=1) (n:=3) rfl) trivial)) (aI (aI trivial trivial) trivial)) (aI (aI (up (n:=3) (aj bz r1.2)) trivial) (aI (aI (up (n:=3) (aj av l2)) trivial) trivial))))
 exact Z105.g (m:=3) rfl z<|by kernel_rfl
noncomputable def Wa:Code:=f108.body.getD .skip
def SV:List Nat:=[]
theorem Z108:ZF SV 108 f108 Wa:=⟨call108,func108,rfl⟩
section
variable(t1:Bool)(v:(List ag))(m:waA)(m2:(List ag))(m3:ae)(m4:Int)(m5:ae)(m6:waC)(m7:waA)(m8:Int)(m9:ae)(m10:Int)(m11:waB)(m12:waB)(m13:waC)(m14:waB)
def hX:aB:=aS 17 [(1,.eptr (cB t1)),(2,.bptr 0 0),(3,.bptr 4 0),(4,.bptr 5 0)] [.cells [.func (.func 105) [] [.bptr 1 0,.eptr ((cL aa) v),.bptr 3 0]] [],.cells [.func (.func 62) [] [.bptr 2 0],.func (.func 61) [] []] [],.cells [sl cS m] [(0,9)],.cells [sl aa m2] [(0,137)],.cells [.str m3,.int .i64 m4,.str m5,sl ah m6,sl cS m7,.int .i64 m8,.str m9,.int .i64 m10,sl al m11,sl al m12] [],.cells [.str ([]:ae),.int .i64 0,.str ([]:ae),sl ah m13,sl cS ([]:List ae),.int .i64 0,.str ([]:ae),.int .i64 0,sl al m14,sl al m14] [(3,60),(4,9),(8,58),(9,58)]] []
def cu(o:waA×(List ag)×ae):aB:=aS 17 [(3,.bptr 4 0),(4,.bptr 5 0)] [.cells [.func (.func 105) [] [.bptr 1 0,.eptr ((cL aa) v),.bptr 3 0]] [],.cells [.func (.func 62) [] [.bptr 2 0],.func (.func 61) [] []] [],.cells [sl cS o.1] [(0,9)],.cells [sl aa o.2.1] [(0,137)],.cells [.str o.2.2,.int .i64 m4,.str m5,sl ah m6,sl cS m7,.int .i64 m8,.str m9,.int .i64 m10,sl al m11,sl al m12] [],.cells [.str ([]:ae),.int .i64 0,.str ([]:ae),sl ah m13,sl cS ([]:List ae),.int .i64 0,.str ([]:ae),.int .i64 0,sl al m14,sl al m14] [(3,60),(4,9),(8,58),(9,58)]] []
def dV:Option ((waA×(List ag)×ae)):=
 if t1=true then
  (fc m3 v m m2).bind fun r2=>
  some (r2.2.1,r2.2.2,r2.1)
 else
  some (m,m2,m3)
theorem gY{x:(waA×(List ag)×ae)}(h:dV t1 v m m2 m3=some x):aW Pg GE 4 (cA Wa 6) (EX .normal (cu v m4 m5 m6 m7 m8 m9 m10 m11 m12 m13 m14 x)) (hX t1 v m m2 m3 m4 m5 m6 m7 m8 m9 m10 m11 m12 m13 m14):=by
 rcases aO h with⟨c1,h⟩|⟨c1,h⟩
 ·obtain⟨r2,br2,h⟩:=ck h
  obtain rfl:=lf h
  exact bv SV (sv (b8 Z1 (.bool t1) [])<|sg 0 c1<|ss<|ss<|si (.cg ⟨[1,2,3],[.str m3,.bptr 0 0,.eptr ((cL aa) v),.bptr 2 0],[],[.cells [.func (.func 62) [] [.bptr 2 0],.func (.func 61) [] []] [],.cells [sl cS m] [(0,9)],.cells [sl aa m2] [(0,137)]],[.cells [.func (.func 62) [] [.bptr 1 0],.func (.func 61) [] []] [],.cells [sl cS m] [(0,9)],.cells [sl aa m2] [(0,137)]],[.cells [.func (.func 62) [] [.bptr 2 0],.func (.func 61) [] []] [],.cells [sl cS r2.2.1] [(0,9)],.cells [sl aa r2.2.2] [(0,137)]],[.cells [.func (.func 62) [] [.bptr 1 0],.func (.func 61) [] []] [],.cells [sl cS r2.2.1] [(0,9)],.cells [sl aa r2.2.2] [(0,137)]],.str r2.1,.str r2.1,[]⟩) (gX br2)<|sf (aI (xR [1,2,3] (.str m3) trivial) (aI (xB [1,2,3] 0 1 0 rfl) (aI (xR [1,2,3] (.eptr ((cL aa) v)) (mP av v)) (aI (xB [1,2,3] 2 3 0 rfl) trivial))))<|sf (aI (aI (rB (.cells [.func (.func 62) [] [.bptr 2 0],.func (.func 61) [] []] [])) (aI (rW []) (aI (xF [1,2,3] (.func 62) [] [.bptr 2 0] [] [.bptr 1 0] trivial (aI (xB [1,2,3] 1 2 0 rfl) trivial)) (aI (xR [1,2,3] (.func (.func 61) [] []) (aI trivial trivial)) trivial)))) (aI (aI (rB (.cells [sl cS m] [(0,9)])) (aI (rW [(0,9)]) (aI (xR [1,2,3] (sl cS m) (aj bz m)) trivial))) (aI (aI (rB (.cells [sl aa m2] [(0,137)])) (aI (rW [(0,137)]) (aI (xR [1,2,3] (sl aa m2) (aj av m2)) trivial))) trivial)))<|sf (aI (aI (rW []) (aI (xF [1,2,3] (.func 62) [] [.bptr 2 0] [] [.bptr 1 0] trivial (aI (xB [1,2,3] 1 2 0 rfl) trivial)) (aI (xR [1,2,3] (.func (.func 61) [] []) (aI trivial trivial)) trivial))) (aI (aI (rW [(0,9)]) (aI (xR [1,2,3] (sl cS r2.2.1) (aj bz r2.2.1)) trivial)) (aI (aI (rW [(0,137)]) (aI (xR [1,2,3] (sl aa r2.2.2) (aj av r2.2.2)) trivial)) trivial)))<|sf (xR [1,2,3] (.str r2.1) trivial)<|ss<|eF .normal (cu v m4 m5 m6 m7 m8 m9 m10 m11 m12 m13 m14 (r2.2.1,r2.2.2,r2.1)))<|by kernel_rfl
 ·obtain rfl:=lf h
  exact bv SV (sv (b8 Z1 (.bool t1) [])<|sg 0 c1<|eF .normal (cu v m4 m5 m6 m7 m8 m9 m10 m11 m12 m13 m14 (m,m2,m3)))<|by kernel_rfl
end
def ew(p:aw)(a:Bool)(c:(List ag))(k2:waA)(k3:(List ag)):Option (aw×waA×(List ag)):=
 (dV a c k2 k3 p.Name).bind fun o3=>
 (nJ dW p.Type_).bind fun r4=>
 some ((⟨o3.2.2,r4⟩:aw),o3.1,o3.2.1)
theorem iE{p:aw}{a:Bool}{c:(List ag)}{k2:waA}{k3:(List ag)}{r:aw×waA×(List ag)}(h:ew p a c k2 k3=some r):C Pg GE 108 [.agg (au p),.eptr (cB a),.bptr 0 0] [] [.cells [.func (.func 105) [] [.bptr 1 0,.eptr ((cL aa) c),.bptr 3 0]] [],.cells [.func (.func 62) [] [.bptr 2 0],.func (.func 61) [] []] [],.cells [sl cS k2] [(0,9)],.cells [sl aa k3] [(0,137)]] (.agg (au r.1)) [] [.cells [.func (.func 105) [] [.bptr 1 0,.eptr ((cL aa) c),.bptr 3 0]] [],.cells [.func (.func 62) [] [.bptr 2 0],.func (.func 61) [] []] [],.cells [sl cS r.2.1] [(0,9)],.cells [sl aa r.2.2] [(0,137)]]:=by
 obtain⟨o3,bo3,r4,br4,h⟩:=Zb2 h
 obtain rfl:=lf h
 have z:=sx (nb p)<|sx TU<|nF 0<|cT (gY a c k2 k3 p.Name p.Type_.Op p.Type_.Name p.Type_.Args p.Type_.Names p.Type_.Pred.Op p.Type_.Pred.Name p.Type_.Pred.N p.Type_.Pred.Kids p.Type_.Preds ([]:List ai) ([]:List am) bo3)<|G0 [0,1,0,4,12,31,63]<|ss<|sv (kz p.Type_ [])<|cD (om dW (fun _ _ h=>gL h) br4)<|sv (Eg o3.2.2 r4)<|sx (nb (⟨o3.2.2,r4⟩:aw))<|en (aI (Ma (⟨o3.2.2,r4⟩:aw))<|aI (ZD (n:=4) (aZ (⟨o3.2.2,r4⟩:aw)))<|aI (rL [.cells [.func (.func 105) [] [.bptr 1 0,.eptr ((cL aa) c),.bptr 3 0]] [],.cells [.func (.func 62) [] [.bptr 2 0],.func (.func 61) [] []] [],.cells [sl cS o3.1] [(0,9)],.cells [sl aa o3.2.1] [(0,137)]])<|(aI (aI (aI trivial (aI (aT (i:=1) (n:=4) rfl) (aI (a8 (n:=4) (mP av c)) (aI (aT (i:=3) (n:=4) rfl) trivial)))) trivial) (aI (aI (aI trivial (aI (aT (i:=2) (n:=4) rfl) trivial)) (aI (aI trivial trivial) trivial)) (aI (aI (up (n:=4) (aj bz o3.1)) trivial) (aI (aI (up (n:=4) (aj av o3.2.1)) trivial) trivial)))))
 exact Z108.g (m:=4) rfl z<|by kernel_rfl
end Go.Proofs.YtkdahfeiedaahaaGreatDoor
