/- PROVED: a part of the proof. Conditions: none. -/
import Derived.Test.YtkdahfeiedaahaaGreatDoorPkF9
import Derived.Test.YtkdahfeiedaahaaGreatDoorPkF10
noncomputable section
namespace Go.Proofs.YtkdahfeiedaahaaGreatDoor
open Go Go.Proofs.Tryz
set_option linter.unusedVariables false
set_option maxRecDepth 100000
abbrev vE:=(ag->Int->Option Int)
abbrev vg(R:vE):Prop:=∀(e:ag) (most:Int) (r:Int),R e most=some r->CC Pg GE 46 [.agg (ae e),.int .i64 most] (.int .i64 r) []
abbrev wS:=(waB->Int->Option Int)
abbrev AG(R:wS):Prop:=∀(a:waB) (most:Int) (r:Int),R a most=some r->CC Pg GE 95 [sl ai a,.int .i64 most] (.int .i64 r) []
abbrev wR:=(waC->Int->Option Int)
abbrev AF(R:wR):Prop:=∀(a:waC) (most:Int) (r:Int),R a most=some r->CC Pg GE 132 [sl al a,.int .i64 most] (.int .i64 r) []
noncomputable def Vl:Code:=f132.body.getD .skip
def SW:List Nat:=[39]
theorem Z132:ZF SW 132 f132 Vl:=⟨call132,func132,rfl⟩
section
variable(v:waC)(most:Int)(n:Int)(i:Int)
def Jm:aB:=bg 40 [(0,sl al v),(1,.int .i64 most),(5,.int .i64 n),(6,.int .i64 i)] [] []
def vA(o:Bool):aB:=bg 40 [(0,sl al v),(1,.int .i64 most),(5,.int .i64 n),(6,.int .i64 i),(15,.bool o)] [] []
def uu:Option Bool:=
 if(decide (i<(v.length:Int)))=true then
  some (decide (n<=most))
 else
  some false
theorem If{x:Bool}(h:uu v most n i=some x):bh Pg GE 0 (cA Vl 476) (EX .normal (vA v most n i x)) (Jm v most n i):=by
 rcases aQ h with⟨c1,h⟩|⟨c1,h⟩
 ·obtain rfl:=lf h
  exact bF SW (bW (oo.ln v)<|sg 5 c1<|eF .normal (vA v most n i (decide (n<=most))))<|by kernel_rfl
 ·obtain rfl:=lf h
  exact bF SW (bW (oo.ln v)<|sg 5 c1<|eF .normal (vA v most n i false))<|by kernel_rfl
end
section
variable(R5:wR)(v:waC)(most:Int)(n:Int)(i:Int)
def qa:aB:=bg 40 [(0,sl al v),(1,.int .i64 most),(5,.int .i64 n),(6,.int .i64 i)] [] []
def vB(o:Int):aB:=bg 40 [(5,.int .i64 o)] [] []
def kP:Option ((Int×Int)⊕(Int)):=
 (uu v most n i).bind fun o2=>
 if o2=true then
  (gn v i).bind fun x5=>
  (qu .i64 (x5.Name.length:Int) 50).bind fun q6=>
  (gn v i).bind fun x7=>
  (R5 x7.Kids (bV (most - (bV ((bV (n+1))+q6))))).bind fun r8=>
  some (.inl (bV ((bV ((bV (n+1))+q6))+r8),bV (i+1)))
 else
  some (.inr n)
def y6:Option Int:=loop (fun(zz:Int×Int)=>kP R5 v most zz.1 zz.2) (n,i)
theorem Gp(hR5:AF R5){y:(Int×Int)⊕(Int)}(h:kP R5 v most n i=some y):bh Pg GE 0 (cA Vl 119) (LQ (fun(zz:Int×Int)=>qa v most zz.1 zz.2) (fun _=>.exit 0) vB y) (qa v most n i):=by
 obtain⟨o2,bo2,h⟩:=cP h
 have p4:=fun{sc F} (r:PS sc F)=>rh 1<|du (If v most n i bo2)<|r
 rcases aQ h with⟨c3,h⟩|⟨c3,h⟩
 ·obtain⟨x5,bx5,q6,bq6,x7,bx7,r8,br8,h⟩:=Zb4 h
  obtain rfl:=lf h
  exact AC SW (p4<|sg 0 c3<|sv (oo.ia (k:=.i64) bx5)<|sv (oD x5)<|sv (qi x5)<|bW (oJ underlying9 x5.Name)<|sv (LA (P:=Pg) (t:=3) bq6)<|sv (oo.ia (k:=.i64) bx7)<|sv (gY x7)<|sv (g5 x7)<|dj (hR5 _ _ _ br8)<|eF .normal (qa v most (bV ((bV ((bV (n+1))+q6))+r8)) (bV (i+1))))<|by kernel_rfl
 ·obtain rfl:=lf h
  have z:=p4<|sg 0 c3<|eF (.exit 0) (vB n)
  exact jy SW (Zn rfl) z<|by kernel_rfl
theorem Ig(hR5:AF R5){x:Int}(h:y6 R5 v most n i=some x):bh Pg GE 0 (.loop (cA Vl 119)) (EX (.exit 0) (vB x)) (qa v most n i):=
 ZL h fun _ _ hy=>Gp _ _ _ _ _ hR5 hy
end
def wN(R5:wR)(a:waC)(most:Int):Option Int:=
 (y6 R5 a most 0 0).bind fun o9=>
 some o9
theorem KR(R5:wR)(hR5:AF R5){a:waC}{most:Int}{r:Int}(h:wN R5 a most=some r):CC Pg GE 132 [sl al a,.int .i64 most] (.int .i64 r) []:=by
 obtain⟨o9,bo9,h⟩:=cP h
 obtain rfl:=lf h
 have z:=du (Ig R5 a most 0 0 hR5 bo9)<|en (aI (rP (.int .i64 o9))<|trivial)
 exact Z132.v (aI (ak aR a) (aI trivial trivial)) z<|by kernel_rfl
def AS:((waC×Int)->Option Int)->(waC×Int)->Option Int:=fun(rec:(waC×Int)->Option Int) (x:waC×Int)=>wN (fun a most=>rec (a,most)) x.1 x.2
def Gn(a:waC)(most:Int):Option Int:=tn AS (a,most)
theorem Mv{a:waC}{most:Int}{r:Int}(h:Gn a most=some r):CC Pg GE 132 [sl al a,.int .i64 most] (.int .i64 r) []:=
 fj (F:=AS) (M:=fun(x:waC×Int) (r:Int)=>CC Pg GE 132 [sl al x.1,.int .i64 x.2] (.int .i64 r) []) (fun rec hrec x r h=>KR _ (fun a most r h=>hrec (a,most) r h) h) h
noncomputable def Y0:Code:=f95.body.getD .skip
def XS:List Nat:=[61]
theorem Z95:ZF XS 95 f95 Y0:=⟨call95,func95,rfl⟩
section
variable(v:waB)(most:Int)(n:Int)(i:Int)
def Jn:aB:=bg 62 [(0,sl ai v),(1,.int .i64 most),(5,.int .i64 n),(6,.int .i64 i)] [] []
def vC(o:Bool):aB:=bg 62 [(0,sl ai v),(1,.int .i64 most),(5,.int .i64 n),(6,.int .i64 i),(15,.bool o)] [] []
def uv:Option Bool:=
 if(decide (i<(v.length:Int)))=true then
  some (decide (n<=most))
 else
  some false
theorem Ih{x:Bool}(h:uv v most n i=some x):bh Pg GE 0 (cA Y0 476) (EX .normal (vC v most n i x)) (Jn v most n i):=by
 rcases aQ h with⟨c1,h⟩|⟨c1,h⟩
 ·obtain rfl:=lf h
  exact bF XS (bW (er.ln v)<|sg 5 c1<|eF .normal (vC v most n i (decide (n<=most))))<|by kernel_rfl
 ·obtain rfl:=lf h
  exact bF XS (bW (er.ln v)<|sg 5 c1<|eF .normal (vC v most n i false))<|by kernel_rfl
end
section
variable(R4:wS)(v:waB)(most:Int)(n:Int)(i:Int)
def qb:aB:=bg 62 [(0,sl ai v),(1,.int .i64 most),(5,.int .i64 n),(6,.int .i64 i)] [] []
def vD(o:Int):aB:=bg 62 [(5,.int .i64 o)] [] []
def kQ:Option ((Int×Int)⊕(Int)):=
 (uv v most n i).bind fun o2=>
 if o2=true then
  (gn v i).bind fun x5=>
  (qu .i64 (x5.Name.length:Int) 50).bind fun q6=>
  (gn v i).bind fun x7=>
  (gn v i).bind fun x8=>
  (gn v i).bind fun x9=>
  (app ([x8.Pred]:List am) x9.Preds).bind fun l10=>
  (Gn l10 most).bind fun r11=>
  (gn v i).bind fun x12=>
  (R4 x12.Args (bV (most - (bV ((bV ((bV ((bV (n+1))+q6))+(x7.Names.length:Int)))+r11))))).bind fun r13=>
  some (.inl (bV ((bV ((bV ((bV ((bV (n+1))+q6))+(x7.Names.length:Int)))+r11))+r13),bV (i+1)))
 else
  some (.inr n)
def y7:Option Int:=loop (fun(zz:Int×Int)=>kQ R4 v most zz.1 zz.2) (n,i)
theorem Gq(hR4:AG R4){y:(Int×Int)⊕(Int)}(h:kQ R4 v most n i=some y):bh Pg GE 0 (cA Y0 119) (LQ (fun(zz:Int×Int)=>qb v most zz.1 zz.2) (fun _=>.exit 0) vD y) (qb v most n i):=by
 obtain⟨o2,bo2,h⟩:=cP h
 have p4:=fun{sc F} (r:PS sc F)=>rh 1<|du (Ih v most n i bo2)<|r
 rcases aQ h with⟨c3,h⟩|⟨c3,h⟩
 ·obtain⟨x5,bx5,q6,bq6,x7,bx7,x8,bx8,h⟩:=Zb4 h
  obtain⟨x9,bx9,l10,bl10,r11,br11,x12,bx12,h⟩:=Zb4 h
  obtain⟨r13,br13,h⟩:=cP h
  obtain rfl:=lf h
  exact AC XS (p4<|sg 0 c3<|Kw [0,1,0,0,12,28,60,124,252,511,0,0,3072,7168,15360,31744,65535,0,0,393216,917504,1966080,4063232,0,0,25165824,58720256,125829120,268304384,0,1073610752,2147483647,4294967295]<|sv (er.ia (k:=.i64) bx5)<|sv (gZ x5)<|sv (jb x5)<|bW (oJ underlying9 x5.Name)<|sv (LA (P:=Pg) (t:=3) bq6)<|sv (er.ia (k:=.i64) bx7)<|sv (fi x7)<|sv (fl x7)<|bW (dp.ln x7.Names)<|sv (er.ia (k:=.i64) bx8)<|sv (oE x8)<|sv (oF x8)<|sv (oo.mk' (v:=NA) Md ([x8.Pred]:List am) 1 (by kernel_rfl))<|sv (er.ia (k:=.i64) bx9)<|sv (jj x9)<|sv (jl x9)<|sv (oo.ap bl10)<|dj (Mv br11)<|sv (er.ia (k:=.i64) bx12)<|sv (dH x12)<|sv (dI x12)<|dj (hR4 _ _ _ br13)<|eF .normal (qb v most (bV ((bV ((bV ((bV ((bV (n+1))+q6))+(x7.Names.length:Int)))+r11))+r13)) (bV (i+1))))<|by kernel_rfl
 ·obtain rfl:=lf h
  have z:=p4<|sg 0 c3<|eF (.exit 0) (vD n)
  exact jy XS (Zn rfl) z<|by kernel_rfl
theorem Ii(hR4:AG R4){x:Int}(h:y7 R4 v most n i=some x):bh Pg GE 0 (.loop (cA Y0 119)) (EX (.exit 0) (vD x)) (qb v most n i):=
 ZL h fun _ _ hy=>Gq _ _ _ _ _ hR4 hy
end
def wQ(R4:wS)(a:waB)(most:Int):Option Int:=
 (y7 R4 a most 0 0).bind fun o14=>
 some o14
theorem KS(R4:wS)(hR4:AG R4){a:waB}{most:Int}{r:Int}(h:wQ R4 a most=some r):CC Pg GE 95 [sl ai a,.int .i64 most] (.int .i64 r) []:=by
 obtain⟨o14,bo14,h⟩:=cP h
 obtain rfl:=lf h
 have z:=du (Ii R4 a most 0 0 hR4 bo14)<|en (aI (rP (.int .i64 o14))<|trivial)
 exact Z95.v (aI (ak aE a) (aI trivial trivial)) z<|by kernel_rfl
def AV:((waB×Int)->Option Int)->(waB×Int)->Option Int:=fun(rec:(waB×Int)->Option Int) (x:waB×Int)=>wQ (fun a most=>rec (a,most)) x.1 x.2
def Ca(a:waB)(most:Int):Option Int:=tn AV (a,most)
theorem EH{a:waB}{most:Int}{r:Int}(h:Ca a most=some r):CC Pg GE 95 [sl ai a,.int .i64 most] (.int .i64 r) []:=
 fj (F:=AV) (M:=fun(x:waB×Int) (r:Int)=>CC Pg GE 95 [sl ai x.1,.int .i64 x.2] (.int .i64 r) []) (fun rec hrec x r h=>KS _ (fun a most r h=>hrec (a,most) r h) h) h
noncomputable def Y1:Code:=f96.body.getD .skip
def XT:List Nat:=[27]
theorem Z96:ZF XT 96 f96 Y1:=⟨call96,func96,rfl⟩
section
variable(v:waA)(most:Int)(n:Int)(i:Int)
def Jl:aB:=bg 28 [(0,sl cS v),(1,.int .i64 most),(5,.int .i64 n),(6,.int .i64 i)] [] []
def vq(o:Bool):aB:=bg 28 [(0,sl cS v),(1,.int .i64 most),(5,.int .i64 n),(6,.int .i64 i),(15,.bool o)] [] []
def ut:Option Bool:=
 if(decide (i<(v.length:Int)))=true then
  some (decide (n<=most))
 else
  some false
theorem Id{x:Bool}(h:ut v most n i=some x):bh Pg GE 0 (cA Y1 476) (EX .normal (vq v most n i x)) (Jl v most n i):=by
 rcases aQ h with⟨c1,h⟩|⟨c1,h⟩
 ·obtain rfl:=lf h
  exact bF XT (bW (dp.ln v)<|sg 5 c1<|eF .normal (vq v most n i (decide (n<=most))))<|by kernel_rfl
 ·obtain rfl:=lf h
  exact bF XT (bW (dp.ln v)<|sg 5 c1<|eF .normal (vq v most n i false))<|by kernel_rfl
end
section
variable(v:waA)(most:Int)(n:Int)(i:Int)
def pZ:aB:=bg 28 [(0,sl cS v),(1,.int .i64 most),(5,.int .i64 n),(6,.int .i64 i)] [] []
def vw(o:Int):aB:=bg 28 [(5,.int .i64 o)] [] []
def kO:Option ((Int×Int)⊕(Int)):=
 (ut v most n i).bind fun o2=>
 if o2=true then
  (gn v i).bind fun x5=>
  (qu .i64 (x5.length:Int) 50).bind fun q6=>
  some (.inl (bV ((bV (n+1))+q6),bV (i+1)))
 else
  some (.inr n)
def y5:Option Int:=loop (fun(zz:Int×Int)=>kO v most zz.1 zz.2) (n,i)
theorem Gm{y:(Int×Int)⊕(Int)}(h:kO v most n i=some y):bh Pg GE 0 (cA Y1 119) (LQ (fun(zz:Int×Int)=>pZ v most zz.1 zz.2) (fun _=>.exit 0) vw y) (pZ v most n i):=by
 obtain⟨o2,bo2,h⟩:=cP h
 have p4:=fun{sc F} (r:PS sc F)=>rh 1<|du (Id v most n i bo2)<|r
 rcases aQ h with⟨c3,h⟩|⟨c3,h⟩
 ·obtain⟨x5,bx5,q6,bq6,h⟩:=Zb2 h
  obtain rfl:=lf h
  exact AC XT (p4<|sg 0 c3<|sv (dp.ia (k:=.i64) bx5)<|sv (cY ED (.str x5) [])<|bW (oJ underlying9 x5)<|sv (LA (P:=Pg) (t:=3) bq6)<|eF .normal (pZ v most (bV ((bV (n+1))+q6)) (bV (i+1))))<|by kernel_rfl
 ·obtain rfl:=lf h
  have z:=p4<|sg 0 c3<|eF (.exit 0) (vw n)
  exact jy XT (Zn rfl) z<|by kernel_rfl
theorem Ie{x:Int}(h:y5 v most n i=some x):bh Pg GE 0 (.loop (cA Y1 119)) (EX (.exit 0) (vw x)) (pZ v most n i):=
 ZL h fun _ _ hy=>Gm _ _ _ _ hy
end
def B9(a:waA)(most:Int):Option Int:=
 (y5 a most 0 0).bind fun o7=>
 some o7
theorem Mu{a:waA}{most:Int}{r:Int}(h:B9 a most=some r):CC Pg GE 96 [sl cS a,.int .i64 most] (.int .i64 r) []:=by
 obtain⟨o7,bo7,h⟩:=cP h
 obtain rfl:=lf h
 have z:=du (Ie a most 0 0 bo7)<|en (aI (rP (.int .i64 o7))<|trivial)
 exact Z96.v (aI (ak bD a) (aI trivial trivial)) z<|by kernel_rfl
noncomputable def UY:Code:=f46.body.getD .skip
def Rq:List Nat:=[119]
theorem Z46:ZF Rq 46 f46 UY:=⟨call46,func46,rfl⟩
section
variable(most:Int)(e:ag)(n:Int)(i:Int)
def KL:aB:=bg 120 [(1,.int .i64 most),(2,.eptr (ae e)),(5,.int .i64 n),(6,.int .i64 i)] [.dead] []
def xw(o:Bool):aB:=bg 120 [(1,.int .i64 most),(2,.eptr (ae e)),(5,.int .i64 n),(6,.int .i64 i),(28,.bool o)] [.dead] []
def wJ:Option Bool:=
 if(decide (i<(e.Params.length:Int)))=true then
  some (decide (n<=most))
 else
  some false
theorem I9{x:Bool}(h:wJ most e n i=some x):bh Pg GE 0 (cA UY 476) (EX .normal (xw most e n i x)) (KL most e n i):=by
 have p4:=fun{sc F} (r:PS sc F)=>sv (bP e)<|sv (bQ e)<|bW (mV.ln e.Params)<|r
 rcases aQ h with⟨c3,h⟩|⟨c3,h⟩
 ·obtain rfl:=lf h
  exact bF Rq (p4<|sg 6 c3<|eF .normal (xw most e n i (decide (n<=most))))<|by kernel_rfl
 ·obtain rfl:=lf h
  exact bF Rq (p4<|sg 6 c3<|eF .normal (xw most e n i false))<|by kernel_rfl
end
section
variable(most:Int)(e:ag)(n:Int)(i:Int)
def sN:aB:=bg 120 [(1,.int .i64 most),(2,.eptr (ae e)),(5,.int .i64 n),(6,.int .i64 i)] [.dead] []
def xz(o:Int):aB:=bg 120 [(1,.int .i64 most),(2,.eptr (ae e)),(5,.int .i64 o)] [.dead] []
def ml:Option ((Int×Int)⊕(Int)):=
 (wJ most e n i).bind fun o5=>
 if o5=true then
  (gn e.Params i).bind fun x8=>
  (qu .i64 (x8.Name.length:Int) 50).bind fun q9=>
  (gn e.Params i).bind fun x10=>
  (Ca ([x10.Type_]:List aj) most).bind fun r11=>
  some (.inl (bV ((bV ((bV (n+1))+q9))+r11),bV (i+1)))
 else
  some (.inr n)
def AK:Option Int:=loop (fun(zz:Int×Int)=>ml most e zz.1 zz.2) (n,i)
theorem H8{y:(Int×Int)⊕(Int)}(h:ml most e n i=some y):bh Pg GE 0 (cA UY 119) (LQ (fun(zz:Int×Int)=>sN most e zz.1 zz.2) (fun _=>.exit 0) (xz most e) y) (sN most e n i):=by
 obtain⟨o5,bo5,h⟩:=cP h
 have p7:=fun{sc F} (r:PS sc F)=>rh 1<|du (I9 most e n i bo5)<|r
 rcases aQ h with⟨c6,h⟩|⟨c6,h⟩
 ·obtain⟨x8,bx8,q9,bq9,x10,bx10,r11,br11,h⟩:=Zb4 h
  obtain rfl:=lf h
  exact AC Rq (p7<|sg 0 c6<|Kw [0,1,0,4,0,28,60,124,252,508,1023,0,2048,0,14336,30720,63488,129024,0,522240,1048575,2097151]<|sv (bP e)<|sv (bQ e)<|sv (mV.ia (k:=.i64) bx8)<|sv (vL x8)<|sv (xO x8)<|bW (oJ underlying9 x8.Name)<|sv (LA (P:=Pg) (t:=3) bq9)<|sv (bP e)<|sv (bQ e)<|sv (mV.ia (k:=.i64) bx10)<|sv (vM x10)<|sv (vQ x10)<|sv (er.mk' (v:=NB) Me ([x10.Type_]:List aj) 1 (by kernel_rfl))<|dj (EH br11)<|eF .normal (sN most e (bV ((bV ((bV (n+1))+q9))+r11)) (bV (i+1))))<|by kernel_rfl
 ·obtain rfl:=lf h
  have z:=p7<|sg 0 c6<|eF (.exit 0) (xz most e n)
  exact jy Rq (Zn rfl) z<|by kernel_rfl
theorem Jc{x:Int}(h:AK most e n i=some x):bh Pg GE 0 (.loop (cA UY 119)) (EX (.exit 0) (xz most e x)) (sN most e n i):=
 ZL h fun _ _ hy=>H8 _ _ _ _ hy
end
section
variable(most:Int)(e:ag)(n:Int)(i:Int)
def KM:aB:=bg 120 [(1,.int .i64 most),(2,.eptr (ae e)),(5,.int .i64 n),(7,.int .i64 i)] [.dead] []
def xx(o:Bool):aB:=bg 120 [(1,.int .i64 most),(2,.eptr (ae e)),(5,.int .i64 n),(7,.int .i64 i),(61,.bool o)] [.dead] []
def wK:Option Bool:=
 if(decide (i<(e.Kids.length:Int)))=true then
  some (decide (n<=most))
 else
  some false
theorem Ja{x:Bool}(h:wK most e n i=some x):bh Pg GE 0 (cA UY 988) (EX .normal (xx most e n i x)) (KM most e n i):=by
 have p14:=fun{sc F} (r:PS sc F)=>sv (bw e)<|sv (bz e)<|bW (jt.ln e.Kids)<|r
 rcases aQ h with⟨c13,h⟩|⟨c13,h⟩
 ·obtain rfl:=lf h
  exact bF Rq (p14<|sg 6 c13<|eF .normal (xx most e n i (decide (n<=most))))<|by kernel_rfl
 ·obtain rfl:=lf h
  exact bF Rq (p14<|sg 6 c13<|eF .normal (xx most e n i false))<|by kernel_rfl
end
section
variable(R3:vE)(most:Int)(e:ag)(n:Int)(i:Int)
def sO:aB:=bg 120 [(1,.int .i64 most),(2,.eptr (ae e)),(5,.int .i64 n),(7,.int .i64 i)] [.dead] []
def xC(o:Int):aB:=bg 120 [(1,.int .i64 most),(2,.eptr (ae e)),(5,.int .i64 o)] [.dead] []
def mm:Option ((Int×Int)⊕(Int)):=
 (wK most e n i).bind fun o15=>
 if o15=true then
  (gn e.Kids i).bind fun x18=>
  (R3 x18 (bV (most - n))).bind fun r19=>
  some (.inl (bV (n+r19),bV (i+1)))
 else
  some (.inr n)
def AL:Option Int:=loop (fun(zz:Int×Int)=>mm R3 most e zz.1 zz.2) (n,i)
theorem H9(hR3:vg R3){y:(Int×Int)⊕(Int)}(h:mm R3 most e n i=some y):bh Pg GE 0 (cA UY 247) (LQ (fun(zz:Int×Int)=>sO most e zz.1 zz.2) (fun _=>.exit 2) (xC most e) y) (sO most e n i):=by
 obtain⟨o15,bo15,h⟩:=cP h
 have p17:=fun{sc F} (r:PS sc F)=>rh 1<|du (Ja most e n i bo15)<|r
 rcases aQ h with⟨c16,h⟩|⟨c16,h⟩
 ·obtain⟨x18,bx18,r19,br19,h⟩:=Zb2 h
  obtain rfl:=lf h
  exact AC Rq (p17<|sg 0 c16<|sv (bw e)<|sv (bz e)<|sv (jt.ia (k:=.i64) bx18)<|sv (b9 x18)<|dj (hR3 _ _ _ br19)<|eF .normal (sO most e (bV (n+r19)) (bV (i+1))))<|by kernel_rfl
 ·obtain rfl:=lf h
  have z:=p17<|sg 0 c16<|eF (.exit 2) (xC most e n)
  exact jy Rq (Zn rfl) z<|by kernel_rfl
theorem Jd(hR3:vg R3){x:Int}(h:AL R3 most e n i=some x):bh Pg GE 0 (.loop (cA UY 247)) (EX (.exit 2) (xC most e x)) (sO most e n i):=
 ZL h fun _ _ hy=>H9 _ _ _ _ _ hR3 hy
end
section
variable(most:Int)(e:ag)(n:Int)(i:Int)
def KN:aB:=bg 120 [(1,.int .i64 most),(2,.eptr (ae e)),(5,.int .i64 n),(8,.int .i64 i)] [.dead] []
def xy(o:Bool):aB:=bg 120 [(1,.int .i64 most),(2,.eptr (ae e)),(5,.int .i64 n),(8,.int .i64 i),(84,.bool o)] [.dead] []
def wL:Option Bool:=
 if(decide (i<(e.Alts.length:Int)))=true then
  some (decide (n<=most))
 else
  some false
theorem Jb{x:Bool}(h:wL most e n i=some x):bh Pg GE 0 (cA UY 2012) (EX .normal (xy most e n i x)) (KN most e n i):=by
 have p22:=fun{sc F} (r:PS sc F)=>sv (aK e)<|sv (aL e)<|bW (fO.ln e.Alts)<|r
 rcases aQ h with⟨c21,h⟩|⟨c21,h⟩
 ·obtain rfl:=lf h
  exact bF Rq (p22<|sg 6 c21<|eF .normal (xy most e n i (decide (n<=most))))<|by kernel_rfl
 ·obtain rfl:=lf h
  exact bF Rq (p22<|sg 6 c21<|eF .normal (xy most e n i false))<|by kernel_rfl
end
section
variable(R3:vE)(most:Int)(e:ag)(n:Int)(i:Int)
def sP:aB:=bg 120 [(1,.int .i64 most),(2,.eptr (ae e)),(5,.int .i64 n),(8,.int .i64 i)] [.dead] []
def xD(o:Int):aB:=bg 120 [(5,.int .i64 o)] [.dead] []
def mn:Option ((Int×Int)⊕(Int)):=
 (wL most e n i).bind fun o23=>
 if o23=true then
  (gn e.Alts i).bind fun x26=>
  (qu .i64 (x26.Con.length:Int) 50).bind fun q27=>
  (gn e.Alts i).bind fun x28=>
  (B9 x28.Names most).bind fun r29=>
  (gn e.Alts i).bind fun x30=>
  (R3 x30.Body (bV (most - (bV ((bV ((bV (n+1))+q27))+r29))))).bind fun r31=>
  some (.inl (bV ((bV ((bV ((bV (n+1))+q27))+r29))+r31),bV (i+1)))
 else
  some (.inr n)
def AM:Option Int:=loop (fun(zz:Int×Int)=>mn R3 most e zz.1 zz.2) (n,i)
theorem Ia(hR3:vg R3){y:(Int×Int)⊕(Int)}(h:mn R3 most e n i=some y):bh Pg GE 0 (cA UY 503) (LQ (fun(zz:Int×Int)=>sP most e zz.1 zz.2) (fun _=>.exit 4) xD y) (sP most e n i):=by
 obtain⟨o23,bo23,h⟩:=cP h
 have p25:=fun{sc F} (r:PS sc F)=>rh 1<|du (Jb most e n i bo23)<|r
 rcases aQ h with⟨c24,h⟩|⟨c24,h⟩
 ·obtain⟨x26,bx26,q27,bq27,x28,bx28,r29,br29,h⟩:=Zb4 h
  obtain⟨x30,bx30,r31,br31,h⟩:=Zb2 h
  obtain rfl:=lf h
  exact AC Rq (p25<|sg 0 c24<|Kw [0,1,0,4,0,28,60,124,252,508,1023,0,2048,0,14336,30720,63488,0,260096,524287,1048575]<|sv (aK e)<|sv (aL e)<|sv (fO.ia (k:=.i64) bx26)<|sv (zm x26)<|sv (Bn x26)<|bW (oJ underlying9 x26.Con)<|sv (LA (P:=Pg) (t:=3) bq27)<|sv (aK e)<|sv (aL e)<|sv (fO.ia (k:=.i64) bx28)<|sv (uJ x28)<|sv (uM x28)<|dj (Mu br29)<|sv (aK e)<|sv (aL e)<|sv (fO.ia (k:=.i64) bx30)<|sv (zn x30)<|sv (zr x30)<|dj (hR3 _ _ _ br31)<|eF .normal (sP most e (bV ((bV ((bV ((bV (n+1))+q27))+r29))+r31)) (bV (i+1))))<|by kernel_rfl
 ·obtain rfl:=lf h
  have z:=p25<|sg 0 c24<|eF (.exit 4) (xD n)
  exact jy Rq (Zn rfl) z<|by kernel_rfl
theorem Je(hR3:vg R3){x:Int}(h:AM R3 most e n i=some x):bh Pg GE 0 (.loop (cA UY 503)) (EX (.exit 4) (xD x)) (sP most e n i):=
 ZL h fun _ _ hy=>Ia _ _ _ _ _ hR3 hy
end
def yZ(R3:vE)(e:ag)(most:Int):Option Int:=
 (qu .i64 (e.Name.length:Int) 50).bind fun q1=>
 (Ca e.Types most).bind fun r2=>
 (AK most e (bV ((bV (1+q1))+r2)) 0).bind fun o12=>
 (AL R3 most e o12 0).bind fun o20=>
 (AM R3 most e o20 0).bind fun o32=>
 some o32
theorem Ms(R3:vE)(hR3:vg R3){e:ag}{most:Int}{r:Int}(h:yZ R3 e most=some r):CC Pg GE 46 [.agg (ae e),.int .i64 most] (.int .i64 r) []:=by
 obtain⟨q1,bq1,r2,br2,o12,bo12,o20,bo20,h⟩:=Zb4 h
 obtain⟨o32,bo32,h⟩:=cP h
 obtain rfl:=lf h
 have z:=se (dy e)<|Kw [0,1,3,7,15,0,32,0,224,511,1023]<|sv (eJ e)<|sv (ft e)<|bW (oJ underlying9 e.Name)<|sv (LA (P:=Pg) (t:=3) bq1)<|sv (aM e)<|sv (aN e)<|dj (EH br2)<|du (Jc most e (bV ((bV (1+q1))+r2)) 0 bo12)<|du (Jd R3 most e o12 0 hR3 bo20)<|du (Je R3 most e o20 0 hR3 bo32)<|en (aI (rP (.int .i64 o32))<|trivial)
 exact Z46.v (aI (ay e) (aI trivial trivial)) z<|by kernel_rfl
def DK:((ag×Int)->Option Int)->(ag×Int)->Option Int:=fun(rec:(ag×Int)->Option Int) (x:ag×Int)=>yZ (fun e most=>rec (e,most)) x.1 x.2
def I8(e:ag)(most:Int):Option Int:=tn DK (e,most)
theorem NL{e:ag}{most:Int}{r:Int}(h:I8 e most=some r):CC Pg GE 46 [.agg (ae e),.int .i64 most] (.int .i64 r) []:=
 fj (F:=DK) (M:=fun(x:ag×Int) (r:Int)=>CC Pg GE 46 [.agg (ae x.1),.int .i64 x.2] (.int .i64 r) []) (fun rec hrec x r h=>Ms _ (fun e most r h=>hrec (e,most) r h) h) h
noncomputable def qbu:Code:=f48.body.getD .skip
def qa8:List Nat:=[]
theorem Z48:ZF qa8 48 f48 qbu:=⟨call48,func48,rfl⟩
def gW(s:af):Option ag:=
 some (⟨3,s,0,([]:List ag),([]:List ax),([]:List aG),([]:List aj)⟩:ag)
theorem fp{s:af}{r:ag}(h:gW s=some r):CC Pg GE 48 [.str s] (.agg (ae r)) [(3,28),(4,85),(5,89),(6,60)]:=by
 obtain rfl:=lf h
 have z:=sx zB<|sb (EU 3 s) (EP 3 s)<|sy (bE (⟨3,s,0,([]:List ag),([]:List ax),([]:List aG),([]:List aj)⟩:ag))<|en (aI (sj (⟨3,s,0,([]:List ag),([]:List ax),([]:List aG),([]:List aj)⟩:ag))<|aI (ay (⟨3,s,0,([]:List ag),([]:List ax),([]:List aG),([]:List aj)⟩:ag))<|rT)
 exact Z48.v (aI trivial trivial) z<|by kernel_rfl
noncomputable def qbt:Code:=f47.body.getD .skip
def qa7:List Nat:=[]
theorem Z47:ZF qa7 47 f47 qbt:=⟨call47,func47,rfl⟩
def Cc(s:af)(a:ag)(a2:ag):Option ag:=
 some (⟨7,s,0,([a,a2]:List ag),([]:List ax),([]:List aG),([]:List aj)⟩:ag)
theorem vF{s:af}{a:ag}{a2:ag}{r:ag}(h:Cc s a a2=some r):CC Pg GE 47 [.str s,.agg (ae a),.agg (ae a2)] (.agg (ae r)) [(4,85),(5,89),(6,60)]:=by
 obtain rfl:=lf h
 have z:=se (dy a)<|se (dy a2)<|sx zB<|sv (b9 a)<|sv (b9 a2)<|sv (jt.mk' (v:=td) nR ([a,a2]:List ag) 2 (by kernel_rfl))<|sb (Ba 7 s ([a,a2]:List ag)) (A7 7 s ([a,a2]:List ag))<|sy (bE (⟨7,s,0,([a,a2]:List ag),([]:List ax),([]:List aG),([]:List aj)⟩:ag))<|en (aI (sj (⟨7,s,0,([a,a2]:List ag),([]:List ax),([]:List aG),([]:List aj)⟩:ag))<|aI (ay (⟨7,s,0,([a,a2]:List ag),([]:List ax),([]:List aG),([]:List aj)⟩:ag))<|rT)
 exact Z47.v (aI trivial (aI (ay a) (aI (ay a2) trivial))) z<|by kernel_rfl
noncomputable def Z5:Code:=f81.body.getD .skip
def Zz:List Nat:=[]
theorem Z81:ZF Zz 81 f81 Z5:=⟨call81,func81,rfl⟩
section
variable(t6:waA)(t7:Int)(t8:Int)(m1:(List (af×Bool)))
def kN:aB:=bg 18 [(0,.bptr 0 0),(6,sl cS t6),(7,.int .i64 t7),(8,.int .i64 t8)] [.cells [.mapr 1] [],.map (aJ PVal.bool m1)] []
def oA(o:(List (af×Bool))):aB:=bg 18 [] [.cells [.mapr 1] [],.map (aJ PVal.bool o)] []
def fa:Option ((Int×(List (af×Bool)))⊕(((List (af×Bool))))):=
 if(decide (t8<t7))=true then
  (gn t6 t8).bind fun x2=>
  some (.inl (bV (t8+1),ri m1 x2 true))
 else
  some (.inr m1)
def mS:Option (((List (af×Bool)))):=loop (fun(zz:Int×(List (af×Bool)))=>fa t6 t7 zz.1 zz.2) (t8,m1)
theorem AD{y:(Int×(List (af×Bool)))⊕(((List (af×Bool))))}(h:fa t6 t7 t8 m1=some y):bh Pg GE 2 (cA Z5 15) (LQ (fun(zz:Int×(List (af×Bool)))=>kN t6 t7 zz.1 zz.2) (fun _=>.exit 0) oA y) (kN t6 t7 t8 m1):=by
 rcases aQ h with⟨c1,h⟩|⟨c1,h⟩
 ·obtain⟨x2,bx2,h⟩:=cP h
  obtain rfl:=lf h
  exact AC Zz (sg 0 c1<|sv (dp.ia (k:=.i64) bx2)<|sv (cY ED (.str x2) [])<|ss<|qaF (P4 (f:=PVal.bool) underlying124 underlying9 m1 x2 true)<|eF .normal (kN t6 t7 (bV (t8+1)) (ri m1 x2 true)))<|by kernel_rfl
 ·obtain rfl:=lf h
  have z:=sg 0 c1<|eF (.exit 0) (oA m1)
  exact jy Zz (Zn rfl) z<|by kernel_rfl
theorem BY{x:((List (af×Bool)))}(h:mS t6 t7 t8 m1=some x):bh Pg GE 2 (.loop (cA Z5 15)) (EX (.exit 0) (oA x)) (kN t6 t7 t8 m1):=
 ZL h fun _ _ hy=>AD _ _ _ _ hy
end
def fY(a:waA)(k1:(List (af×Bool))):Option ((List (af×Bool))):=
 (mS a (a.length:Int) 0 k1).bind fun o3=>
 some o3
theorem iN{a:waA}{k1:(List (af×Bool))}{r:(List (af×Bool))}(h:fY a k1=some r):C Pg GE 81 [.bptr 0 0,sl cS a] [] [.cells [.mapr 1] [],.map (aJ PVal.bool k1)] (.tuple []) [] [.cells [.mapr 1] [],.map (aJ PVal.bool r)]:=by
 obtain⟨o3,bo3,h⟩:=cP h
 obtain rfl:=lf h
 have z:=bW (dp.ln a)<|du (BY a (a.length:Int) 0 k1 bo3)<|en (aI (rP (.tuple []))<|aI trivial<|aI (rL [.cells [.mapr 1] [],.map (aJ PVal.bool o3)])<|(aI (aI (aW (i:=1) (n:=2) rfl) trivial) (aI (pU (n:=2) PVal.bool (fun x=>trivial) o3) trivial)))
 exact Z81.g (m:=2) rfl z<|by kernel_rfl
noncomputable def qbD:Code:=f78.body.getD .skip
def qbh:List Nat:=[10]
def ms(a:waA):Option ((List (af×Bool))):=
 (fY a ([]:List (af×Bool))).bind fun r1=>
 some r1
theorem sA{a:waA}{r:(List (af×Bool))}(h:ms a=some r):CN Pg GE 78 [sl cS a] (.bptr 1 0) [] [.map (aJ PVal.bool r),.cells [.mapr 0] []]:=by
 obtain⟨r1,br1,h⟩:=cP h
 obtain rfl:=lf h
 have z:=sv (show dQ Pg 126 [(0,.mapr 0)]=some (.agg [.mapr 0]) by kernel_rfl)<|sx (YG [.mapr 0])<|si (.cg ⟨[1,0],[.bptr 0 0,sl cS a],[],[.cells [.mapr 0] [],.map (aJ PVal.bool ([]:List (af×Bool)))],[.cells [.mapr 1] [],.map (aJ PVal.bool ([]:List (af×Bool)))],[.cells [.mapr 0] [],.map (aJ PVal.bool r1)],[.cells [.mapr 1] [],.map (aJ PVal.bool r1)],.tuple [],.tuple [],[]⟩) (iN br1)<|sf (aI (xB [1,0] 0 1 0 rfl) (aI (xR [1,0] (sl cS a) (ak bD a)) trivial))<|sf (aI (aI (rB (.cells [.mapr 0] [])) (aI (rW []) (aI (xM [1,0] 1 0 rfl) trivial))) (aI (aI (rB (.map (aJ PVal.bool ([]:List (af×Bool))))) (aI (rM (aJ PVal.bool ([]:List (af×Bool)))) (pU (n:=0) PVal.bool (fun x=>trivial) ([]:List (af×Bool))))) trivial))<|sf (aI (aI (rW []) (aI (xM [1,0] 1 0 rfl) trivial)) (aI (aI (rM (aJ PVal.bool r1)) (pU (n:=0) PVal.bool (fun x=>trivial) r1)) trivial))<|sf (xR [1,0] (.tuple []) trivial)<|en (aI (rP (.bptr 1 0))<|aI (aW (i:=1) (n:=2) rfl)<|aI (rL [.map (aJ PVal.bool r1),.cells [.mapr 0] []])<|(aI (pU (n:=2) PVal.bool (fun x=>trivial) r1) (aI (aI (aW (i:=0) (n:=2) rfl) trivial) trivial)))
 exact CN.evNp (A:=qbh) mixed (c:=qbD) call78 func78 rfl z<|by kernel_rfl
abbrev ej:=(ag->waA->(List (af×Bool))->Option ((List (af×Bool))))
abbrev eh(R:ej):Prop:=∀(e:ag) (hidden:waA) (k2:(List (af×Bool))) (r:(List (af×Bool))),R e hidden k2=some r->C Pg GE 79 [.agg (ae e),sl cS hidden,.func (.func 80) [] [.bptr 0 0]] [] [.cells [.bptr 1 0] [],.cells [.mapr 2] [],.map (aJ PVal.bool k2)] (.tuple []) [] [.cells [.bptr 1 0] [],.cells [.mapr 2] [],.map (aJ PVal.bool r)]
noncomputable def ZH:Code:=f100.body.getD .skip
def Zf:List Nat:=[]
theorem Z100:ZF Zf 100 f100 ZH:=⟨call100,func100,rfl⟩
def fD(e:ag):Option Bool:=
 if(e.Op==3)=true then
  some true
 else
  some (e.Op==5)
theorem jI{e:ag}{r:Bool}(h:fD e=some r):CC Pg GE 100 [.agg (ae e)] (.bool r) []:=by
 have p2:=fun{sc F} (r:PS sc F)=>se (dy e)<|sv (dZ e)<|sv (d7 e)<|r
 rcases aQ h with⟨c1,h⟩|⟨c1,h⟩
 ·obtain rfl:=lf h
  have z:=p2<|sg 4 c1<|en (aI (rP (.bool true))<|trivial)
  exact Z100.v (aI (ay e) trivial) z<|by kernel_rfl
 ·obtain rfl:=lf h
  have z:=p2<|sg 4 c1<|sv (dZ e)<|sv (d7 e)<|en (aI (rP (.bool (e.Op==5)))<|trivial)
  exact Z100.v (aI (ay e) trivial) z<|by kernel_rfl
noncomputable def W2:Code:=f131.body.getD .skip
def U2:List Nat:=[10,17]
theorem Z131:ZF U2 131 f131 W2:=⟨call131,func131,rfl⟩
section
variable(s:waA)(v:af)(t7:Int)(t8:Int)
def mN:aB:=bg 19 [(0,sl cS s),(1,.str v),(7,.int .i64 t7),(8,.int .i64 t8)] [] []
def mO(o:Int⊕(Unit)):Exit:=match o with
 |(.inl _)=>.ret
 |(.inr _)=>.exit 0
def iI(o:Int⊕(Unit)):aB:=match o with
 |(.inl o)=>bg 19 [(4,.int .i64 o)] [] []
 |(.inr o)=>bg 19 [] [] []
def km:Option (Int⊕(Int⊕(Unit))):=
 if(decide (t8<t7))=true then
  (gn s t8).bind fun x2=>
  if(v==x2)=true then
   some (.inr (.inl t8))
  else
   some (.inl (bV (t8+1)))
 else
  some (.inr (.inr ()))
def tO:Option (Int⊕(Unit)):=loop (fun(zz:Int)=>km s v t7 zz) t8
theorem CQ{y:Int⊕(Int⊕(Unit))}(h:km s v t7 t8=some y):bh Pg GE 0 (cA W2 55) (LQ (fun(zz:Int)=>mN s v t7 zz) mO iI y) (mN s v t7 t8):=by
 rcases aQ h with⟨c1,h⟩|⟨c1,h⟩
 ·obtain⟨x2,bx2,h⟩:=cP h
  have p4:=fun{sc F} (r:PS sc F)=>sg 0 c1<|sv (dp.ia (k:=.i64) bx2)<|sv (cY ED (.str x2) [])<|r
  rcases aQ h with⟨c3,h⟩|⟨c3,h⟩
  ·obtain rfl:=lf h
   have z:=p4<|sg 0 c3<|eF (mO (.inl t8)) (iI (.inl t8))
   exact jy U2 (Zn rfl) z<|by kernel_rfl
  ·obtain rfl:=lf h
   exact AC U2 (p4<|sg 0 c3<|eF .normal (mN s v t7 (bV (t8+1))))<|by kernel_rfl
 ·obtain rfl:=lf h
  have z:=sg 0 c1<|eF (mO (.inr ())) (iI (.inr ()))
  exact jy U2 (Zn rfl) z<|by kernel_rfl
theorem wa{x:Int⊕(Unit)}(h:tO s v t7 t8=some x):bh Pg GE 0 (.loop (cA W2 55)) (EX (mO x) (iI x)) (mN s v t7 t8):=
 ZL h fun _ _ hy=>CQ _ _ _ _ hy
end
def slices_Index(s:waA)(v:af):Option Int:=
 (tO s v (s.length:Int) 0).bind fun o5=>match o5 with
 |(.inl o5)=>
  some o5
 |(.inr o5)=>
  some (-1)
theorem IA{s:waA}{v:af}{r:Int}(h:slices_Index s v=some r):CC Pg GE 131 [sl cS s,.str v] (.int .i64 r) []:=by
 obtain⟨o5,bo5,h⟩:=cP h
 rcases o5 with o5|o5
 ·obtain rfl:=lf h
  have z:=bW (dp.ln s)<|du (e:=.ret) (s1:=iI (.inl o5)) (wa s v (s.length:Int) 0 bo5)<|en (aI (rP (.int .i64 o5))<|trivial)
  exact Z131.v (aI (ak bD s) (aI trivial trivial)) z<|by kernel_rfl
 ·obtain rfl:=lf h
  have z:=bW (dp.ln s)<|du (e:=.exit 0) (s1:=iI (.inr o5)) (wa s v (s.length:Int) 0 bo5)<|en (aI (rP (.int .i64 (-1)))<|trivial)
  exact Z131.v (aI (ak bD s) (aI trivial trivial)) z<|by kernel_rfl
noncomputable def qbG:Code:=f94.body.getD .skip
def qbk:List Nat:=[]
theorem Z94:ZF qbk 94 f94 qbG:=⟨call94,func94,rfl⟩
def pA(a:waA)(s:af):Option Int:=
 (slices_Index a s).bind fun r1=>
 some r1
theorem xQ{a:waA}{s:af}{r:Int}(h:pA a s=some r):CC Pg GE 94 [sl cS a,.str s] (.int .i64 r) []:=by
 obtain⟨r1,br1,h⟩:=cP h
 obtain rfl:=lf h
 have z:=dj (IA br1)<|en (aI (rP (.int .i64 r1))<|trivial)
 exact Z94.v (aI (ak bD a) (aI trivial trivial)) z<|by kernel_rfl
noncomputable def qbE:Code:=f80.body.getD .skip
def qbi:List Nat:=[]
theorem Z80:ZF qbi 80 f80 qbE:=⟨call80,func80,rfl⟩
def tb(a:ag)(k2:(List (af×Bool))):Option ((List (af×Bool))):=
 (fY ([a.Name]:List af) k2).bind fun r1=>
 some r1
theorem Hb{a:ag}{k2:(List (af×Bool))}{r:(List (af×Bool))}(h:tb a k2=some r):C Pg GE 80 [.agg (ae a),.bptr 0 0] [] [.cells [.bptr 1 0] [],.cells [.mapr 2] [],.map (aJ PVal.bool k2)] (.tuple []) [] [.cells [.bptr 1 0] [],.cells [.mapr 2] [],.map (aJ PVal.bool r)]:=by
 obtain⟨r1,br1,h⟩:=cP h
 obtain rfl:=lf h
 have z:=se (dy a)<|ss<|sv (eJ a)<|sv (ft a)<|sv (dp.mk' (v:=PVal.str) NF ([a.Name]:List af) 1 (by kernel_rfl))<|si (.cg ⟨[1,2],[.bptr 0 0,sl cS ([a.Name]:List af)],[],[.cells [.mapr 2] [],.map (aJ PVal.bool k2)],[.cells [.mapr 1] [],.map (aJ PVal.bool k2)],[.cells [.mapr 2] [],.map (aJ PVal.bool r1)],[.cells [.mapr 1] [],.map (aJ PVal.bool r1)],.tuple [],.tuple [],[]⟩) (iN br1)<|sf (aI (xB [1,2] 0 1 0 rfl) (aI (xR [1,2] (sl cS ([a.Name]:List af)) (ak bD ([a.Name]:List af))) trivial))<|sf (aI (aI (rB (.cells [.mapr 2] [])) (aI (rW []) (aI (xM [1,2] 1 2 rfl) trivial))) (aI (aI (rB (.map (aJ PVal.bool k2))) (aI (rM (aJ PVal.bool k2)) (pU (n:=0) PVal.bool (fun x=>trivial) k2))) trivial))<|sf (aI (aI (rW []) (aI (xM [1,2] 1 2 rfl) trivial)) (aI (aI (rM (aJ PVal.bool r1)) (pU (n:=0) PVal.bool (fun x=>trivial) r1)) trivial))<|sf (xR [1,2] (.tuple []) trivial)<|en (aI (rP (.tuple []))<|aI trivial<|aI (rL [.cells [.bptr 1 0] [],.cells [.mapr 2] [],.map (aJ PVal.bool r1)])<|(aI (aI (aW (i:=1) (n:=3) rfl) trivial) (aI (aI (aW (i:=2) (n:=3) rfl) trivial) (aI (pU (n:=3) PVal.bool (fun x=>trivial) r1) trivial))))
 exact Z80.g (m:=3) rfl z<|by kernel_rfl
noncomputable def WY:Code:=f101.body.getD .skip
def WC:List Nat:=[12,18]
theorem Z101:ZF WC 101 f101 WY:=⟨call101,func101,rfl⟩
section
variable(t6:waE)(t7:Int)(out:waA)(t8:Int)
def mR:aB:=bg 19 [(3,sl cS out),(6,sl aw t6),(7,.int .i64 t7),(8,.int .i64 t8)] [] [((3,0),9)]
def qK(o:waA):aB:=bg 19 [(3,sl cS o)] [] [((3,0),9)]
def fU:Option ((waA×Int)⊕(waA)):=
 if(decide (t8<t7))=true then
  (gn t6 t8).bind fun x2=>
  (app out ([x2.Name]:List af)).bind fun l3=>
  some (.inl (l3,bV (t8+1)))
 else
  some (.inr out)
def pq:Option waA:=loop (fun(zz:waA×Int)=>fU t6 t7 zz.1 zz.2) (out,t8)
theorem CU{y:(waA×Int)⊕(waA)}(h:fU t6 t7 out t8=some y):bh Pg GE 0 (cA WY 119) (LQ (fun(zz:waA×Int)=>mR t6 t7 zz.1 zz.2) (fun _=>.exit 0) qK y) (mR t6 t7 out t8):=by
 rcases aQ h with⟨c1,h⟩|⟨c1,h⟩
 ·obtain⟨x2,bx2,l3,bl3,h⟩:=Zb2 h
  obtain rfl:=lf h
  have z:=sg 0 c1<|sv (mV.ia (k:=.i64) bx2)<|sv (Co x2)<|sx SC<|sx (nl x2)<|ss<|sv (dp.mk' (v:=PVal.str) NF ([x2.Name]:List af) 1 (by kernel_rfl))<|sv (dp.ap bl3)<|ue 0 .normal (mR t6 t7 l3 (bV (t8+1))) rfl (dU (aI (up (ak bD l3)) (aI (up (ak aY t6)) (aI trivial (aI trivial trivial))))) trivial
  exact ed (A:=WC) mixed z<|by kernel_rfl
 ·obtain rfl:=lf h
  have z:=sg 0 c1<|eF (.exit 0) (qK out)
  exact jy WC (Zn rfl) z<|by kernel_rfl
theorem El{x:waA}(h:pq t6 t7 out t8=some x):bh Pg GE 0 (.loop (cA WY 119)) (EX (.exit 0) (qK x)) (mR t6 t7 out t8):=
 ZL h fun _ _ hy=>CU _ _ _ _ hy
end
def lM(a:waE):Option waA:=
 (pq a (a.length:Int) ([]:List af) 0).bind fun o4=>
 some o4
theorem pr{a:waE}{r:waA}(h:lM a=some r):CC Pg GE 101 [sl aw a] (sl cS r) [(0,9)]:=by
 obtain⟨o4,bo4,h⟩:=cP h
 obtain rfl:=lf h
 have z:=bW (mV.ln a)<|du (El a (a.length:Int) ([]:List af) 0 bo4)<|en (aI (rP (sl cS o4))<|(ak bD o4))
 exact Z101.v (aI (ak aY a) trivial) z<|by kernel_rfl
noncomputable def X5:Code:=f126.body.getD .skip
def WE:List Nat:=[]
theorem Z126:ZF WE 126 f126 X5:=⟨call126,func126,rfl⟩
section
variable(kid:Int)(e:ag)
def Er:aB:=bg 23 [(1,.int .i64 kid),(2,.eptr (ae e))] [.dead] []
def pF(o:Bool):aB:=bg 23 [(2,.eptr (ae e)),(5,.bool o)] [.dead] []
def sw:Option Bool:=
 if(e.Op==7)=true then
  some (decide (kid>0))
 else
  some false
theorem CX{x:Bool}(h:sw kid e=some x):bh Pg GE 0 (cA X5 26) (EX .normal (pF e x)) (Er kid e):=by
 have p2:=fun{sc F} (r:PS sc F)=>sv (dZ e)<|sv (d7 e)<|r
 rcases aQ h with⟨c1,h⟩|⟨c1,h⟩
 ·obtain rfl:=lf h
  exact bF WE (p2<|sg 4 c1<|eF .normal (pF e (decide (kid>0))))<|by kernel_rfl
 ·obtain rfl:=lf h
  exact bF WE (p2<|sg 4 c1<|eF .normal (pF e false))<|by kernel_rfl
end
def oM(e:ag)(kid:Int):Option waA:=
 (sw kid e).bind fun o3=>
 if o3=true then
  some ([e.Name]:List af)
 else
  if(e.Op==6)=true then
   (lM e.Params).bind fun r8=>
   some r8
  else
   some ([]:List af)
theorem yM{e:ag}{kid:Int}{r:waA}(h:oM e kid=some r):CC Pg GE 126 [.agg (ae e),.int .i64 kid] (sl cS r) [(0,9)]:=by
 obtain⟨o3,bo3,h⟩:=cP h
 have p5:=fun{sc F} (r:PS sc F)=>se (dy e)<|rh 1<|du (CX kid e bo3)<|r
 rcases aQ h with⟨c4,h⟩|⟨c4,h⟩
 ·obtain rfl:=lf h
  have z:=p5<|sg 0 c4<|sv (eJ e)<|sv (ft e)<|sv (dp.mk' (v:=PVal.str) NF ([e.Name]:List af) 1 (by kernel_rfl))<|en (aI (rP (sl cS ([e.Name]:List af)))<|(ak bD ([e.Name]:List af)))
  exact Z126.v (aI (ay e) (aI trivial trivial)) z<|by kernel_rfl
 ·have p7:=fun{sc F} (r:PS sc F)=>p5<|sg 0 c4<|sv (dZ e)<|sv (d7 e)<|r
  rcases aQ h with⟨c6,h⟩|⟨c6,h⟩
  ·obtain⟨r8,br8,h⟩:=cP h
   obtain rfl:=lf h
   have z:=p7<|sg 0 c6<|sv (bP e)<|sv (bQ e)<|dj (pr br8)<|en (aI (rP (sl cS r8))<|(ak bD r8))
   exact Z126.v (aI (ay e) (aI trivial trivial)) z<|by kernel_rfl
  ·obtain rfl:=lf h
   have z:=p7<|sg 0 c6<|en (aI (rP (sl cS ([]:List af)))<|(ak bD ([]:List af)))
   exact Z126.v (aI (ay e) (aI trivial trivial)) z<|by kernel_rfl
noncomputable def QF:Code:=f79.body.getD .skip
def ND:List Nat:=[27]
theorem Z79:ZF ND 79 f79 QF:=⟨call79,func79,rfl⟩
section
variable(hidden:waA)(e:ag)(m2:(List (af×Bool)))
def sG:aB:=bg 57 [(1,sl cS hidden),(2,.func (.func 80) [] [.bptr 0 0]),(3,.eptr (ae e))] [.cells [.bptr 1 0] [],.cells [.mapr 2] [],.map (aJ PVal.bool m2),.dead] []
def gS(o:Bool):aB:=bg 57 [(1,sl cS hidden),(2,.func (.func 80) [] [.bptr 0 0]),(3,.eptr (ae e)),(18,.bool o)] [.cells [.bptr 1 0] [],.cells [.mapr 2] [],.map (aJ PVal.bool m2),.dead] []
def iS:Option Bool:=
 (fD e).bind fun r1=>
 if r1=true then
  (pA hidden e.Name).bind fun r4=>
  some (decide (r4<0))
 else
  some false
theorem ru{x:Bool}(h:iS hidden e=some x):bh Pg GE 3 (cA QF 12) (EX .normal (gS hidden e m2 x)) (sG hidden e m2):=by
 obtain⟨r1,br1,h⟩:=cP h
 have p3:=fun{sc F} (r:PS sc F)=>sv (b9 e)<|dj (jI br1)<|r
 rcases aQ h with⟨c2,h⟩|⟨c2,h⟩
 ·obtain⟨r4,br4,h⟩:=cP h
  obtain rfl:=lf h
  exact bF ND (p3<|sg 3 c2<|sv (eJ e)<|sv (ft e)<|dj (xQ br4)<|eF .normal (gS hidden e m2 (decide (r4<0))))<|by kernel_rfl
 ·obtain rfl:=lf h
  exact bF ND (p3<|sg 3 c2<|eF .normal (gS hidden e m2 false))<|by kernel_rfl
end
section
variable(hidden:waA)(e:ag)(m2:(List (af×Bool)))
def sF:aB:=bg 57 [(1,sl cS hidden),(2,.func (.func 80) [] [.bptr 0 0]),(3,.eptr (ae e))] [.cells [.bptr 1 0] [],.cells [.mapr 2] [],.map (aJ PVal.bool m2),.dead] []
def gR(o:(List (af×Bool))):aB:=bg 57 [(1,sl cS hidden),(2,.func (.func 80) [] [.bptr 0 0]),(3,.eptr (ae e))] [.cells [.bptr 1 0] [],.cells [.mapr 2] [],.map (aJ PVal.bool o),.dead] []
def iR:Option (((List (af×Bool)))):=
 (iS hidden e).bind fun o5=>
 if o5=true then
  (tb e m2).bind fun r8=>
  some r8
 else
  some m2
theorem rr{x:((List (af×Bool)))}(h:iR hidden e m2=some x):bh Pg GE 3 (cA QF 6) (EX .normal (gR hidden e x)) (sF hidden e m2):=by
 obtain⟨o5,bo5,h⟩:=cP h
 have p7:=fun{sc F} (r:PS sc F)=>rh 0<|du (ru hidden e m2 bo5)<|r
 rcases aQ h with⟨c6,h⟩|⟨c6,h⟩
 ·obtain⟨r8,br8,h⟩:=cP h
  obtain rfl:=lf h
  exact bF ND (p7<|sg 0 c6<|sv (b9 e)<|si (.cg ⟨[0,1,2],[.agg (ae e),.bptr 0 0],[],[.cells [.bptr 1 0] [],.cells [.mapr 2] [],.map (aJ PVal.bool m2)],[.cells [.bptr 1 0] [],.cells [.mapr 2] [],.map (aJ PVal.bool m2)],[.cells [.bptr 1 0] [],.cells [.mapr 2] [],.map (aJ PVal.bool r8)],[.cells [.bptr 1 0] [],.cells [.mapr 2] [],.map (aJ PVal.bool r8)],.tuple [],.tuple [],[]⟩) (Hb br8)<|sf (aI (xR [0,1,2] (.agg (ae e)) (ay e)) (aI (xB [0,1,2] 0 0 0 rfl) trivial))<|sf (aI (aI (rB (.cells [.bptr 1 0] [])) (aI (rW []) (aI (xB [0,1,2] 1 1 0 rfl) trivial))) (aI (aI (rB (.cells [.mapr 2] [])) (aI (rW []) (aI (xM [0,1,2] 2 2 rfl) trivial))) (aI (aI (rB (.map (aJ PVal.bool m2))) (aI (rM (aJ PVal.bool m2)) (pU (n:=0) PVal.bool (fun x=>trivial) m2))) trivial)))<|sf (aI (aI (rW []) (aI (xB [0,1,2] 1 1 0 rfl) trivial)) (aI (aI (rW []) (aI (xM [0,1,2] 2 2 rfl) trivial)) (aI (aI (rM (aJ PVal.bool r8)) (pU (n:=0) PVal.bool (fun x=>trivial) r8)) trivial)))<|sf (xR [0,1,2] (.tuple []) trivial)<|eF .normal (gR hidden e r8))<|by kernel_rfl
 ·obtain rfl:=lf h
  exact bF ND (p7<|sg 0 c6<|eF .normal (gR hidden e m2))<|by kernel_rfl
end
section
variable(R14:ej)(hidden:waA)(e:ag)(t23:waF)(t24:Int)(t25:Int)(m2:(List (af×Bool)))
def eV:aB:=bg 57 [(1,sl cS hidden),(2,.func (.func 80) [] [.bptr 0 0]),(3,.eptr (ae e)),(23,sl ae t23),(24,.int .i64 t24),(25,.int .i64 t25)] [.cells [.bptr 1 0] [],.cells [.mapr 2] [],.map (aJ PVal.bool m2),.dead] []
def gT(o:(List (af×Bool))):aB:=bg 57 [(1,sl cS hidden),(2,.func (.func 80) [] [.bptr 0 0]),(3,.eptr (ae e))] [.cells [.bptr 1 0] [],.cells [.mapr 2] [],.map (aJ PVal.bool o),.dead] []
def cf:Option ((Int×(List (af×Bool)))⊕(((List (af×Bool))))):=
 if(decide (t25<t24))=true then
  (gn t23 t25).bind fun x11=>
  (px hidden).bind fun r12=>
  (oM e t25).bind fun r13=>
  (app r12 r13).bind fun l14=>
  (R14 x11 l14 m2).bind fun r15=>
  some (.inl (bV (t25+1),r15))
 else
  some (.inr m2)
def fB:Option (((List (af×Bool)))):=loop (fun(zz:Int×(List (af×Bool)))=>cf R14 hidden e t23 t24 zz.1 zz.2) (t25,m2)
theorem qU(hR14:eh R14){y:(Int×(List (af×Bool)))⊕(((List (af×Bool))))}(h:cf R14 hidden e t23 t24 t25 m2=some y):bh Pg GE 3 (cA QF 119) (LQ (fun(zz:Int×(List (af×Bool)))=>eV hidden e t23 t24 zz.1 zz.2) (fun _=>.exit 0) (gT hidden e) y) (eV hidden e t23 t24 t25 m2):=by
 rcases aQ h with⟨c10,h⟩|⟨c10,h⟩
 ·obtain⟨x11,bx11,r12,br12,r13,br13,l14,bl14,h⟩:=Zb4 h
  obtain⟨r15,br15,h⟩:=cP h
  obtain rfl:=lf h
  have z:=sg 0 c10<|sv (jt.ia (k:=.i64) bx11)<|sv (b9 x11)<|sx zB<|sx (lb x11)<|sk<|Xx (.dx [0,0,2,0,0,30,62,0] [] [] [])<|sv (ce x11 [])<|dj (tj br12)<|sv (b9 e)<|dj (yM br13)<|sv (dp.ap bl14)<|si (.cg ⟨[0,1,2],[.agg (ae x11),sl cS l14,.func (.func 80) [] [.bptr 0 0]],[],[.cells [.bptr 1 0] [],.cells [.mapr 2] [],.map (aJ PVal.bool m2)],[.cells [.bptr 1 0] [],.cells [.mapr 2] [],.map (aJ PVal.bool m2)],[.cells [.bptr 1 0] [],.cells [.mapr 2] [],.map (aJ PVal.bool r15)],[.cells [.bptr 1 0] [],.cells [.mapr 2] [],.map (aJ PVal.bool r15)],.tuple [],.tuple [],[]⟩) (hR14 _ _ _ _ br15)<|sf (aI (xR [0,1,2] (.agg (ae x11)) (ay x11)) (aI (xR [0,1,2] (sl cS l14) (ak bD l14)) (aI (xF [0,1,2] (.func 80) [] [.bptr 0 0] [] [.bptr 0 0] trivial (aI (xB [0,1,2] 0 0 0 rfl) trivial)) trivial)))<|sf (aI (aI (rB (.cells [.bptr 1 0] [])) (aI (rW []) (aI (xB [0,1,2] 1 1 0 rfl) trivial))) (aI (aI (rB (.cells [.mapr 2] [])) (aI (rW []) (aI (xM [0,1,2] 2 2 rfl) trivial))) (aI (aI (rB (.map (aJ PVal.bool m2))) (aI (rM (aJ PVal.bool m2)) (pU (n:=0) PVal.bool (fun x=>trivial) m2))) trivial)))<|sf (aI (aI (rW []) (aI (xB [0,1,2] 1 1 0 rfl) trivial)) (aI (aI (rW []) (aI (xM [0,1,2] 2 2 rfl) trivial)) (aI (aI (rM (aJ PVal.bool r15)) (pU (n:=0) PVal.bool (fun x=>trivial) r15)) trivial)))<|sf (xR [0,1,2] (.tuple []) trivial)<|ue 3 .normal (eV hidden e t23 t24 (bV (t25+1)) r15) rfl (dU (aI (up (ak bD hidden)) (aI (aI trivial (aI (aW rfl) trivial)) (aI (aZ (ay e)) (aI (up (ak ay t23)) (aI trivial (aI trivial trivial))))))) (aI (aI (aW rfl) trivial) (aI (aI (aW rfl) trivial) (aI (pU PVal.bool (fun x=>trivial) r15) (aI trivial trivial))))
  exact ed (A:=ND) mixed z<|by kernel_rfl
 ·obtain rfl:=lf h
  have z:=sg 0 c10<|eF (.exit 0) (gT hidden e m2)
  exact jy ND (Zn rfl) z<|by kernel_rfl
theorem rv(hR14:eh R14){x:((List (af×Bool)))}(h:fB R14 hidden e t23 t24 t25 m2=some x):bh Pg GE 3 (.loop (cA QF 119)) (EX (.exit 0) (gT hidden e x)) (eV hidden e t23 t24 t25 m2):=
 ZL h fun _ _ hy=>qU _ hidden _ _ _ _ _ hR14 hy
end
section
variable(R14:ej)(hidden:waA)(t41:waD)(t42:Int)(t43:Int)(m2:(List (af×Bool)))
def eW:aB:=bg 57 [(1,sl cS hidden),(2,.func (.func 80) [] [.bptr 0 0]),(41,sl aA t41),(42,.int .i64 t42),(43,.int .i64 t43)] [.cells [.bptr 1 0] [],.cells [.mapr 2] [],.map (aJ PVal.bool m2),.dead] []
def gU(o:(List (af×Bool))):aB:=bg 57 [] [.cells [.bptr 1 0] [],.cells [.mapr 2] [],.map (aJ PVal.bool o),.dead] []
def ch:Option ((Int×(List (af×Bool)))⊕(((List (af×Bool))))):=
 if(decide (t43<t42))=true then
  (gn t41 t43).bind fun x18=>
  (px hidden).bind fun r19=>
  (app r19 x18.Names).bind fun l20=>
  (R14 x18.Body l20 m2).bind fun r21=>
  some (.inl (bV (t43+1),r21))
 else
  some (.inr m2)
def fC:Option (((List (af×Bool)))):=loop (fun(zz:Int×(List (af×Bool)))=>ch R14 hidden t41 t42 zz.1 zz.2) (t43,m2)
theorem qV(hR14:eh R14){y:(Int×(List (af×Bool)))⊕(((List (af×Bool))))}(h:ch R14 hidden t41 t42 t43 m2=some y):bh Pg GE 3 (cA QF 127) (LQ (fun(zz:Int×(List (af×Bool)))=>eW hidden t41 t42 zz.1 zz.2) (fun _=>.exit 2) gU y) (eW hidden t41 t42 t43 m2):=by
 rcases aQ h with⟨c17,h⟩|⟨c17,h⟩
 ·obtain⟨x18,bx18,r19,br19,l20,bl20,r21,br21,h⟩:=Zb4 h
  obtain rfl:=lf h
  have z:=sg 0 c17<|sv (fO.ia (k:=.i64) bx18)<|sv (mH x18)<|sx G4<|sx (jz x18)<|sk<|Xx (.dx [0,1,0,4,0,16,60,0] [] [] [])<|sv (ce x18.Body [])<|dj (tj br19)<|ss<|sv (dp.ap bl20)<|si (.cg ⟨[0,1,2],[.agg (ae x18.Body),sl cS l20,.func (.func 80) [] [.bptr 0 0]],[],[.cells [.bptr 1 0] [],.cells [.mapr 2] [],.map (aJ PVal.bool m2)],[.cells [.bptr 1 0] [],.cells [.mapr 2] [],.map (aJ PVal.bool m2)],[.cells [.bptr 1 0] [],.cells [.mapr 2] [],.map (aJ PVal.bool r21)],[.cells [.bptr 1 0] [],.cells [.mapr 2] [],.map (aJ PVal.bool r21)],.tuple [],.tuple [],[]⟩) (hR14 _ _ _ _ br21)<|sf (aI (xR [0,1,2] (.agg (ae x18.Body)) (ay x18.Body)) (aI (xR [0,1,2] (sl cS l20) (ak bD l20)) (aI (xF [0,1,2] (.func 80) [] [.bptr 0 0] [] [.bptr 0 0] trivial (aI (xB [0,1,2] 0 0 0 rfl) trivial)) trivial)))<|sf (aI (aI (rB (.cells [.bptr 1 0] [])) (aI (rW []) (aI (xB [0,1,2] 1 1 0 rfl) trivial))) (aI (aI (rB (.cells [.mapr 2] [])) (aI (rW []) (aI (xM [0,1,2] 2 2 rfl) trivial))) (aI (aI (rB (.map (aJ PVal.bool m2))) (aI (rM (aJ PVal.bool m2)) (pU (n:=0) PVal.bool (fun x=>trivial) m2))) trivial)))<|sf (aI (aI (rW []) (aI (xB [0,1,2] 1 1 0 rfl) trivial)) (aI (aI (rW []) (aI (xM [0,1,2] 2 2 rfl) trivial)) (aI (aI (rM (aJ PVal.bool r21)) (pU (n:=0) PVal.bool (fun x=>trivial) r21)) trivial)))<|sf (xR [0,1,2] (.tuple []) trivial)<|ue 3 .normal (eW hidden t41 t42 (bV (t43+1)) r21) rfl (dU (aI (up (ak bD hidden)) (aI (aI trivial (aI (aW rfl) trivial)) (aI (up (ak bK t41)) (aI trivial (aI trivial trivial)))))) (aI (aI (aW rfl) trivial) (aI (aI (aW rfl) trivial) (aI (pU PVal.bool (fun x=>trivial) r21) (aI trivial trivial))))
  exact ed (A:=ND) mixed z<|by kernel_rfl
 ·obtain rfl:=lf h
  have z:=sg 0 c17<|eF (.exit 2) (gU m2)
  exact jy ND (Zn rfl) z<|by kernel_rfl
theorem rx(hR14:eh R14){x:((List (af×Bool)))}(h:fC R14 hidden t41 t42 t43 m2=some x):bh Pg GE 3 (.loop (cA QF 127)) (EX (.exit 2) (gU x)) (eW hidden t41 t42 t43 m2):=
 ZL h fun _ _ hy=>qV _ hidden _ _ _ _ hR14 hy
end
def fM(R14:ej)(e:ag)(hidden:waA)(k2:(List (af×Bool))):Option ((List (af×Bool))):=
 (iR hidden e k2).bind fun o9=>
 (fB R14 hidden e e.Kids (e.Kids.length:Int) 0 o9).bind fun o16=>
 (fC R14 hidden e.Alts (e.Alts.length:Int) 0 o16).bind fun o22=>
 some o22
theorem tD(R14:ej)(hR14:eh R14){e:ag}{hidden:waA}{k2:(List (af×Bool))}{r:(List (af×Bool))}(h:fM R14 e hidden k2=some r):C Pg GE 79 [.agg (ae e),sl cS hidden,.func (.func 80) [] [.bptr 0 0]] [] [.cells [.bptr 1 0] [],.cells [.mapr 2] [],.map (aJ PVal.bool k2)] (.tuple []) [] [.cells [.bptr 1 0] [],.cells [.mapr 2] [],.map (aJ PVal.bool r)]:=by
 obtain⟨o9,bo9,o16,bo16,o22,bo22,h⟩:=Zb3 h
 obtain rfl:=lf h
 have z:=se (dy e)<|rh 0<|du (rr hidden e k2 bo9)<|sv (bw e)<|sv (bz e)<|bW (jt.ln e.Kids)<|du (rv R14 hidden e e.Kids (e.Kids.length:Int) 0 o9 hR14 bo16)<|sv (aK e)<|sv (aL e)<|bW (fO.ln e.Alts)<|du (rx R14 hidden e.Alts (e.Alts.length:Int) 0 o16 hR14 bo22)<|en (aI (rP (.tuple []))<|aI trivial<|aI (rL [.cells [.bptr 1 0] [],.cells [.mapr 2] [],.map (aJ PVal.bool o22)])<|(aI (aI (aW (i:=1) (n:=3) rfl) trivial) (aI (aI (aW (i:=2) (n:=3) rfl) trivial) (aI (pU (n:=3) PVal.bool (fun x=>trivial) o22) trivial))))
 exact Z79.g (m:=3) rfl z<|by kernel_rfl
def je:((ag×waA×(List (af×Bool)))->Option ((List (af×Bool))))->(ag×waA×(List (af×Bool)))->Option ((List (af×Bool))):=fun(rec:(ag×waA×(List (af×Bool)))->Option ((List (af×Bool)))) (x:ag×waA×(List (af×Bool)))=>fM (fun e hidden k2=>rec (e,hidden,k2)) x.1 x.2.1 x.2.2
def j1(e:ag)(hidden:waA)(k2:(List (af×Bool))):Option ((List (af×Bool))):=tn je (e,hidden,k2)
theorem tU{e:ag}{hidden:waA}{k2:(List (af×Bool))}{r:(List (af×Bool))}(h:j1 e hidden k2=some r):C Pg GE 79 [.agg (ae e),sl cS hidden,.func (.func 80) [] [.bptr 0 0]] [] [.cells [.bptr 1 0] [],.cells [.mapr 2] [],.map (aJ PVal.bool k2)] (.tuple []) [] [.cells [.bptr 1 0] [],.cells [.mapr 2] [],.map (aJ PVal.bool r)]:=
 fj (F:=je) (M:=fun(x:ag×waA×(List (af×Bool))) (r:(List (af×Bool)))=>C Pg GE 79 [.agg (ae x.1),sl cS x.2.1,.func (.func 80) [] [.bptr 0 0]] [] [.cells [.bptr 1 0] [],.cells [.mapr 2] [],.map (aJ PVal.bool x.2.2)] (.tuple []) [] [.cells [.bptr 1 0] [],.cells [.mapr 2] [],.map (aJ PVal.bool r)]) (fun rec hrec x r h=>tD _ (fun e hidden k2 r h=>hrec (e,hidden,k2) r h) h) h
noncomputable def qbq:Code:=f24.body.getD .skip
def qa4:List Nat:=[]
theorem Z24:ZF qa4 24 f24 qbq:=⟨call24,func24,rfl⟩
def np(e:ag):Option waA:=
 (ms ([]:List af)).bind fun r1=>
 (j1 e ([]:List af) r1).bind fun r2=>
 (sq r2).bind fun r3=>
 some r3
theorem qF{e:ag}{r:waA}(h:np e=some r):CC Pg GE 24 [.agg (ae e)] (sl cS r) [(0,9)]:=by
 obtain⟨r1,br1,r2,br2,r3,br3,h⟩:=Zb3 h
 obtain rfl:=lf h
 have z:=se (dy e)<|si (.cn ⟨[2,3],[],[],[],[],[.map (aJ PVal.bool r1),.cells [.mapr 2] []],[.map (aJ PVal.bool r1),.cells [.mapr 0] []],.bptr 3 0,.bptr 1 0,[]⟩) (sA br1)<|sf (aI (ak bD ([]:List af)) trivial)<|sf (aI (aI (rM (aJ PVal.bool r1)) (pU (n:=0) PVal.bool (fun x=>trivial) r1)) (aI (aI (rW []) (aI (xM [2,3] 0 2 rfl) trivial)) trivial))<|sf (xB [2,3] 1 3 0 rfl)<|sx Wx<|ss<|sv (b9 e)<|si (.cg ⟨[1,3,2],[.agg (ae e),sl cS ([]:List af),.func (.func 80) [] [.bptr 0 0]],[],[.cells [.bptr 3 0] [],.cells [.mapr 2] [],.map (aJ PVal.bool r1)],[.cells [.bptr 1 0] [],.cells [.mapr 2] [],.map (aJ PVal.bool r1)],[.cells [.bptr 3 0] [],.cells [.mapr 2] [],.map (aJ PVal.bool r2)],[.cells [.bptr 1 0] [],.cells [.mapr 2] [],.map (aJ PVal.bool r2)],.tuple [],.tuple [],[]⟩) (tU br2)<|sf (aI (xR [1,3,2] (.agg (ae e)) (ay e)) (aI (xR [1,3,2] (sl cS ([]:List af)) (ak bD ([]:List af))) (aI (xF [1,3,2] (.func 80) [] [.bptr 1 0] [] [.bptr 0 0] trivial (aI (xB [1,3,2] 0 1 0 rfl) trivial)) trivial)))<|sf (aI (aI (rB (.cells [.bptr 3 0] [])) (aI (rW []) (aI (xB [1,3,2] 1 3 0 rfl) trivial))) (aI (aI (rB (.cells [.mapr 2] [])) (aI (rW []) (aI (xM [1,3,2] 2 2 rfl) trivial))) (aI (aI (rB (.map (aJ PVal.bool r1))) (aI (rM (aJ PVal.bool r1)) (pU (n:=0) PVal.bool (fun x=>trivial) r1))) trivial)))<|sf (aI (aI (rW []) (aI (xB [1,3,2] 1 3 0 rfl) trivial)) (aI (aI (rW []) (aI (xM [1,3,2] 2 2 rfl) trivial)) (aI (aI (rM (aJ PVal.bool r2)) (pU (n:=0) PVal.bool (fun x=>trivial) r2)) trivial)))<|sf (xR [1,3,2] (.tuple []) trivial)<|ss<|si (.cg ⟨[3,2],[.bptr 0 0],[],[.cells [.mapr 2] [],.map (aJ PVal.bool r2)],[.cells [.mapr 1] [],.map (aJ PVal.bool r2)],[.cells [.mapr 2] [],.map (aJ PVal.bool r2)],[.cells [.mapr 1] [],.map (aJ PVal.bool r2)],sl cS r3,sl cS r3,[(0,9)]⟩) (xY br3)<|sf (aI (xB [3,2] 0 3 0 rfl) trivial)<|sf (aI (aI (rB (.cells [.mapr 2] [])) (aI (rW []) (aI (xM [3,2] 1 2 rfl) trivial))) (aI (aI (rB (.map (aJ PVal.bool r2))) (aI (rM (aJ PVal.bool r2)) (pU (n:=0) PVal.bool (fun x=>trivial) r2))) trivial))<|sf (aI (aI (rW []) (aI (xM [3,2] 1 2 rfl) trivial)) (aI (aI (rM (aJ PVal.bool r2)) (pU (n:=0) PVal.bool (fun x=>trivial) r2)) trivial))<|sf (xR [3,2] (sl cS r3) (ak bD r3))<|en (aI (rP (sl cS r3))<|(ak bD r3))
 exact Z24.v (aI (ay e) trivial) z<|by kernel_rfl
abbrev aX:=(ag->(List ac)->waA->Option (ag×waA))
abbrev bG(R:aX):Prop:=∀(e:ag) (scope:(List ac)) (k0:waA) (r:ag×waA),R e scope k0=some r->C Pg GE 56 [.agg [.func (.func 62) [] [.bptr 0 0],.func (.func 61) [] []],.agg (ae e),sl aa scope] [] [.cells [sl cS k0] [(0,9)]] (.agg (ae r.1)) [(3,28),(4,85),(5,89),(6,60)] [.cells [sl cS r.2] [(0,9)]]
abbrev ew:=(waB->Option waB)
abbrev iA(R:ew):Prop:=∀(a:waB) (r:waB),R a=some r->CC Pg GE 102 [sl ai a,.func (.func 103) [] []] (sl ai r) [(0,60)]
abbrev gK:=(am->Option am)
abbrev ly(R:gK):Prop:=∀(p:am) (r:am),R p=some r->CC Pg GE 135 [.agg (al p)] (.agg (al r)) [(3,58)]
noncomputable def W3:Code:=f136.body.getD .skip
def WF:List Nat:=[14,21]
theorem Z136:ZF WF 136 f136 W3:=⟨call136,func136,rfl⟩
section
variable(R24:gK)(t8:waC)(t9:Int)(out:waC)(t10:Int)
def fV:aB:=bg 22 [(1,.func (.func 135) [] []),(5,sl al out),(8,sl al t8),(9,.int .i64 t9),(10,.int .i64 t10)] [] [((5,0),58)]
def jD(o:waC):aB:=bg 22 [(5,sl al o)] [] [((5,0),58)]
def jC:Option ((waC×Int)⊕(waC)):=
 if(decide (t10<t9))=true then
  (gn t8 t10).bind fun x2=>
  (R24 x2).bind fun r3=>
  (app out ([r3]:List am)).bind fun l4=>
  some (.inl (l4,bV (t10+1)))
 else
  some (.inr out)
def ky:Option waC:=loop (fun(zz:waC×Int)=>jC R24 t8 t9 zz.1 zz.2) (out,t10)
theorem tS(hR24:ly R24){y:(waC×Int)⊕(waC)}(h:jC R24 t8 t9 out t10=some y):bh Pg GE 0 (cA W3 119) (LQ (fun(zz:waC×Int)=>fV t8 t9 zz.1 zz.2) (fun _=>.exit 0) jD y) (fV t8 t9 out t10):=by
 rcases aQ h with⟨c1,h⟩|⟨c1,h⟩
 ·obtain⟨x2,bx2,r3,br3,l4,bl4,h⟩:=Zb3 h
  obtain rfl:=lf h
  have z:=sg 0 c1<|sv (oo.ia (k:=.i64) bx2)<|sv (qj x2)<|sx Wd<|sx (Ct x2)<|sv (yr x2 [])<|dj (hR24 _ _ br3)<|sv (oo.mk' (v:=NA) Md ([r3]:List am) 1 (by kernel_rfl))<|sv (oo.ap bl4)<|ue 0 .normal (fV t8 t9 l4 (bV (t10+1))) rfl (dU (aI (aI trivial trivial) (aI (up (ak aR l4)) (aI (up (ak aR t8)) (aI trivial (aI trivial trivial)))))) trivial
  exact ed (A:=WF) mixed z<|by kernel_rfl
 ·obtain rfl:=lf h
  have z:=sg 0 c1<|eF (.exit 0) (jD out)
  exact jy WF (Zn rfl) z<|by kernel_rfl
theorem uW(hR24:ly R24){x:waC}(h:ky R24 t8 t9 out t10=some x):bh Pg GE 0 (.loop (cA W3 119)) (EX (.exit 0) (jD x)) (fV t8 t9 out t10):=
 ZL h fun _ _ hy=>tS _ _ _ _ _ hR24 hy
end
def gA(R24:gK)(a:waC):Option waC:=
 (ky R24 a (a.length:Int) ([]:List am) 0).bind fun o5=>
 some o5
theorem oL(R24:gK)(hR24:ly R24){a:waC}{r:waC}(h:gA R24 a=some r):CC Pg GE 136 [sl al a,.func (.func 135) [] []] (sl al r) [(0,58)]:=by
 obtain⟨o5,bo5,h⟩:=cP h
 obtain rfl:=lf h
 have z:=bW (oo.ln a)<|du (uW R24 a (a.length:Int) ([]:List am) 0 hR24 bo5)<|en (aI (rP (sl al o5))<|(ak aR o5))
 exact Z136.v (aI (ak aR a) (aI (aI trivial trivial) trivial)) z<|by kernel_rfl
noncomputable def ZP:Code:=f135.body.getD .skip
def Zo:List Nat:=[]
theorem Z135:ZF Zo 135 f135 ZP:=⟨call135,func135,rfl⟩
def lN(R24:gK)(p:am):Option am:=
 (gA R24 p.Kids).bind fun r1=>
 some (⟨p.Op,p.Name,p.N,r1⟩:am)
theorem BO(R24:gK)(hR24:ly R24){p:am}{r:am}(h:lN R24 p=some r):CC Pg GE 135 [.agg (al p)] (.agg (al r)) [(3,58)]:=by
 obtain⟨r1,br1,h⟩:=cP h
 obtain rfl:=lf h
 have z:=sx (Ct p)<|sx Wd<|ss<|dj (oL R24 hR24 br1)<|sz (yr (⟨p.Op,p.Name,p.N,r1⟩:am) [])<|sy (cC (⟨p.Op,p.Name,p.N,r1⟩:am))<|en (aI (SH (⟨p.Op,p.Name,p.N,r1⟩:am))<|aI (aR (⟨p.Op,p.Name,p.N,r1⟩:am))<|rT)
 exact Z135.v (aI (aR p) trivial) z<|by kernel_rfl
def pE:(am->Option am)->(am)->Option am:=fun(rec:am->Option am) (x:am)=>lN (fun p=>rec p) x
def lm(p:am):Option am:=tn pE p
theorem ul{p:am}{r:am}(h:lm p=some r):CC Pg GE 135 [.agg (al p)] (.agg (al r)) [(3,58)]:=
 fj (F:=pE) (M:=fun(x:am) (r:am)=>CC Pg GE 135 [.agg (al x)] (.agg (al r)) [(3,58)]) (fun rec hrec x r h=>BO _ (fun p r h=>hrec p r h) h) h
noncomputable def ZI:Code:=f103.body.getD .skip
def Zg:List Nat:=[]
theorem Z103:ZF Zg 103 f103 ZI:=⟨call103,func103,rfl⟩
def eT(R22:ew)(t:aj):Option aj:=
 (R22 t.Args).bind fun r1=>
 (px t.Names).bind fun r2=>
 (lm t.Pred).bind fun r3=>
 (gA lm t.Preds).bind fun r4=>
 some (⟨t.Op,t.Name,r1,r2,r3,r4⟩:aj)
theorem ou(R22:ew)(hR22:iA R22){t:aj}{r:aj}(h:eT R22 t=some r):CC Pg GE 103 [.agg (ai t)] (.agg (ai r)) [(2,60),(3,9),(7,58),(8,58)]:=by
 obtain⟨r1,br1,r2,br2,r3,br3,r4,br4,h⟩:=Zb4 h
 obtain rfl:=lf h
 have z:=sx (sa t)<|sx Ql<|ss<|dj (hR22 _ _ br1)<|ss<|dj (tj br2)<|sv (yr t.Pred [sl al t.Preds])<|dj (ul br3)<|sy (cC r3)<|ss<|dj (oL lm (fun _ _ h=>ul h) br4)<|sz (kW (⟨t.Op,t.Name,r1,r2,r3,r4⟩:aj) [])<|sy (cO (⟨t.Op,t.Name,r1,r2,r3,r4⟩:aj))<|en (aI (SI (⟨t.Op,t.Name,r1,r2,r3,r4⟩:aj))<|aI (aE (⟨t.Op,t.Name,r1,r2,r3,r4⟩:aj))<|rT)
 exact Z103.v (aI (aE t) trivial) z<|by kernel_rfl
noncomputable def WZ:Code:=f102.body.getD .skip
def WD:List Nat:=[14,21]
theorem Z102:ZF WD 102 f102 WZ:=⟨call102,func102,rfl⟩
section
variable(R22:ew)(t8:waB)(t9:Int)(out:waB)(t10:Int)
def fW:aB:=bg 22 [(1,.func (.func 103) [] []),(5,sl ai out),(8,sl ai t8),(9,.int .i64 t9),(10,.int .i64 t10)] [] [((5,0),60)]
def jF(o:waB):aB:=bg 22 [(5,sl ai o)] [] [((5,0),60)]
def jE:Option ((waB×Int)⊕(waB)):=
 if(decide (t10<t9))=true then
  (gn t8 t10).bind fun x2=>
  (eT R22 x2).bind fun r3=>
  (app out ([r3]:List aj)).bind fun l4=>
  some (.inl (l4,bV (t10+1)))
 else
  some (.inr out)
def kz:Option waB:=loop (fun(zz:waB×Int)=>jE R22 t8 t9 zz.1 zz.2) (out,t10)
theorem tT(hR22:iA R22){y:(waB×Int)⊕(waB)}(h:jE R22 t8 t9 out t10=some y):bh Pg GE 0 (cA WZ 119) (LQ (fun(zz:waB×Int)=>fW t8 t9 zz.1 zz.2) (fun _=>.exit 0) jF y) (fW t8 t9 out t10):=by
 rcases aQ h with⟨c1,h⟩|⟨c1,h⟩
 ·obtain⟨x2,bx2,r3,br3,l4,bl4,h⟩:=Zb3 h
  obtain rfl:=lf h
  have z:=sg 0 c1<|sv (er.ia (k:=.i64) bx2)<|sv (lT x2)<|sx Ql<|sx (sa x2)<|sv (kW x2 [])<|dj (ou R22 hR22 br3)<|sv (er.mk' (v:=NB) Me ([r3]:List aj) 1 (by kernel_rfl))<|sv (er.ap bl4)<|ue 0 .normal (fW t8 t9 l4 (bV (t10+1))) rfl (dU (aI (aI trivial trivial) (aI (up (ak aE l4)) (aI (up (ak aE t8)) (aI trivial (aI trivial trivial)))))) trivial
  exact ed (A:=WD) mixed z<|by kernel_rfl
 ·obtain rfl:=lf h
  have z:=sg 0 c1<|eF (.exit 0) (jF out)
  exact jy WD (Zn rfl) z<|by kernel_rfl
theorem uX(hR22:iA R22){x:waB}(h:kz R22 t8 t9 out t10=some x):bh Pg GE 0 (.loop (cA WZ 119)) (EX (.exit 0) (jF x)) (fW t8 t9 out t10):=
 ZL h fun _ _ hy=>tT _ _ _ _ _ hR22 hy
end
def iM(R22:ew)(a:waB):Option waB:=
 (kz R22 a (a.length:Int) ([]:List aj) 0).bind fun o5=>
 some o5
theorem wE(R22:ew)(hR22:iA R22){a:waB}{r:waB}(h:iM R22 a=some r):CC Pg GE 102 [sl ai a,.func (.func 103) [] []] (sl ai r) [(0,60)]:=by
 obtain⟨o5,bo5,h⟩:=cP h
 obtain rfl:=lf h
 have z:=bW (er.ln a)<|du (uX R22 a (a.length:Int) ([]:List aj) 0 hR22 bo5)<|en (aI (rP (sl ai o5))<|(ak aE o5))
 exact Z102.v (aI (ak aE a) (aI (aI trivial trivial) trivial)) z<|by kernel_rfl
def lp:(waB->Option waB)->(waB)->Option waB:=fun(rec:waB->Option waB) (x:waB)=>iM (fun a=>rec a) x
def cG(a:waB):Option waB:=tn lp a
theorem g8{a:waB}{r:waB}(h:cG a=some r):CC Pg GE 102 [sl ai a,.func (.func 103) [] []] (sl ai r) [(0,60)]:=
 fj (F:=lp) (M:=fun(x:waB) (r:waB)=>CC Pg GE 102 [sl ai x,.func (.func 103) [] []] (sl ai r) [(0,60)]) (fun rec hrec x r h=>wE _ (fun a r h=>hrec a r h) h) h
noncomputable def qby:Code:=f61.body.getD .skip
def qbc:List Nat:=[3]
theorem Z61:ZF qbc 61 f61 qby:=⟨call61,func61,rfl⟩
def H3(s:af):Option af:=
 some s
theorem KB{s:af}{r:af}(h:H3 s=some r):CC Pg GE 61 [.str s] (.str r) []:=by
 obtain rfl:=lf h
 have z:=en (aI (rP (.str s))<|trivial)
 exact Z61.v (aI trivial trivial) z<|by kernel_rfl
noncomputable def X9:Code:=f52.body.getD .skip
def XR:List Nat:=[24,35]
theorem Z52:ZF XR 52 f52 X9:=⟨call52,func52,rfl⟩
section
variable(base:af)(t11:waA)(t12:Int)(t13:Int)(m0:(List (af×Bool)))
def nM:aB:=bg 36 [(1,.str base),(5,.mapr 0),(11,sl cS t11),(12,.int .i64 t12),(13,.int .i64 t13)] [.map (aJ PVal.bool m0)] []
def rU(o:(List (af×Bool))):aB:=bg 36 [(1,.str base),(5,.mapr 0)] [.map (aJ PVal.bool o)] []
def kX:Option ((Int×(List (af×Bool)))⊕(((List (af×Bool))))):=
 if(decide (t13<t12))=true then
  (gn t11 t13).bind fun x2=>
  some (.inl (bV (t13+1),ri m0 x2 true))
 else
  some (.inr m0)
def qk:Option (((List (af×Bool)))):=loop (fun(zz:Int×(List (af×Bool)))=>kX t11 t12 zz.1 zz.2) (t13,m0)
theorem D6{y:(Int×(List (af×Bool)))⊕(((List (af×Bool))))}(h:kX t11 t12 t13 m0=some y):bh Pg GE 0 (cA X9 119) (LQ (fun(zz:Int×(List (af×Bool)))=>nM base t11 t12 zz.1 zz.2) (fun _=>.exit 0) (rU base) y) (nM base t11 t12 t13 m0):=by
 rcases aQ h with⟨c1,h⟩|⟨c1,h⟩
 ·obtain⟨x2,bx2,h⟩:=cP h
  obtain rfl:=lf h
  exact AC XR (sg 0 c1<|sv (dp.ia (k:=.i64) bx2)<|sv (cY ED (.str x2) [])<|qaF (P4 (f:=PVal.bool) underlying124 underlying9 m0 x2 true)<|eF .normal (nM base t11 t12 (bV (t13+1)) (ri m0 x2 true)))<|by kernel_rfl
 ·obtain rfl:=lf h
  have z:=sg 0 c1<|eF (.exit 0) (rU base m0)
  exact jy XR (Zn rfl) z<|by kernel_rfl
theorem Fj{x:((List (af×Bool)))}(h:qk t11 t12 t13 m0=some x):bh Pg GE 0 (.loop (cA X9 119)) (EX (.exit 0) (rU base x)) (nM base t11 t12 t13 m0):=
 ZL h fun _ _ hy=>D6 _ _ _ _ _ hy
end
section
variable(base:af)(m0:(List (af×Bool)))(n:Int)
def nN:aB:=bg 36 [(1,.str base),(5,.mapr 0),(8,.int .i64 n)] [.map (aJ PVal.bool m0)] []
def rV(o:af):aB:=bg 36 [(4,.str o)] [.map (aJ PVal.bool m0)] []
def jr:Option (Int⊕(af)):=
 (QV n).bind fun r6=>
 (Xm base r6).bind fun s7=>
 if(!((wx m0 s7).getD false))=true then
  some (.inr s7)
 else
  some (.inl (bV (n+1)))
def nk:Option af:=loop (fun(zz:Int)=>jr base m0 zz) n
theorem D7{y:Int⊕(af)}(h:jr base m0 n=some y):bh Pg GE 0 (cA X9 255) (LQ (fun(zz:Int)=>nN base m0 zz) (fun _=>.ret) (rV m0) y) (nN base m0 n):=by
 obtain⟨r6,br6,s7,bs7,h⟩:=Zb2 h
 have p9:=fun{sc F} (r:PS sc F)=>dj (VP br6)<|sv (XB (P:=Pg) (t:=9) bs7)<|sv (M8 (f:=PVal.bool) underlying124 underlying9 Ze m0 s7)<|r
 rcases aQ h with⟨c8,h⟩|⟨c8,h⟩
 ·obtain rfl:=lf h
  have z:=p9<|sg 0 c8<|eF .ret (rV m0 s7)
  exact jy XR (Zn rfl) z<|by kernel_rfl
 ·obtain rfl:=lf h
  exact AC XR (p9<|sg 0 c8<|eF .normal (nN base m0 (bV (n+1))))<|by kernel_rfl
theorem Fk{x:af}(h:nk base m0 n=some x):bh Pg GE 0 (.loop (cA X9 255)) (EX .ret (rV m0 x)) (nN base m0 n):=
 ZL h fun _ _ hy=>D7 _ _ _ hy
end
def tt(used:waA)(base:af):Option af:=
 (qk used (used.length:Int) 0 ([]:List (af×Bool))).bind fun o3=>
 if(!((wx o3 base).getD false))=true then
  some base
 else
  (nk base o3 1).bind fun o10=>
  some o10
theorem Bu{used:waA}{base:af}{r:af}(h:tt used base=some r):CC Pg GE 52 [sl cS used,.str base] (.str r) []:=by
 obtain⟨o3,bo3,h⟩:=cP h
 have p5:=fun{sc F} (r:PS sc F)=>bW (dp.ln used)<|du (Fj base used (used.length:Int) 0 ([]:List (af×Bool)) bo3)<|sv (M8 (f:=PVal.bool) underlying124 underlying9 Ze o3 base)<|r
 rcases aQ h with⟨c4,h⟩|⟨c4,h⟩
 ·obtain rfl:=lf h
  have z:=p5<|sg 0 c4<|en (aI (rP (.str base))<|trivial)
  exact Z52.v (aI (ak bD used) (aI trivial trivial)) z<|by kernel_rfl
 ·obtain⟨o10,bo10,h⟩:=cP h
  obtain rfl:=lf h
  have z:=p5<|sg 0 c4<|du (Fk base o3 1 bo10)<|en (aI (rP (.str o10))<|trivial)
  exact Z52.v (aI (ak bD used) (aI trivial trivial)) z<|by kernel_rfl
noncomputable def qbz:Code:=f62.body.getD .skip
def qbd:List Nat:=[10,14]
theorem Z62:ZF qbd 62 f62 qbz:=⟨call62,func62,rfl⟩
def tR(s:af)(a:(List ac))(k0:waA):Option (af×waA):=
 (tt k0 s).bind fun r1=>
 (app k0 ([r1]:List af)).bind fun l2=>
 some (r1,l2)
theorem wd{s:af}{a:(List ac)}{k0:waA}{r:af×waA}(h:tR s a k0=some r):C Pg GE 62 [.str s,sl aa a,.bptr 0 0] [] [.cells [sl cS k0] [(0,9)]] (.str r.1) [] [.cells [sl cS r.2] [(0,9)]]:=by
 obtain⟨r1,br1,l2,bl2,h⟩:=Zb2 h
 obtain rfl:=lf h
 have z:=ss<|dj (Bu br1)<|sv (dp.mk' (v:=PVal.str) NF ([r1]:List af) 1 (by kernel_rfl))<|sv (dp.ap bl2)<|en (aI (rP (.str r1))<|aI trivial<|aI (rL [.cells [sl cS l2] [(0,9)]])<|(aI (aI (up (n:=1) (ak bD l2)) trivial) trivial))
 exact Z62.g (m:=1) rfl z<|by kernel_rfl
noncomputable def X4:Code:=f105.body.getD .skip
def XP:List Nat:=[12,18]
theorem Z105:ZF XP 105 f105 X4:=⟨call105,func105,rfl⟩
def fm(s:af)(a:(List ac))(k1:waA)(k2:(List ac)):Option (af×waA×(List ac)):=
 (tR s a k1).bind fun r1=>
 (app k2 ([(⟨s,r1.1⟩:ac)]:List ac)).bind fun l2=>
 some (r1.1,r1.2,l2)
theorem ik{s:af}{a:(List ac)}{k1:waA}{k2:(List ac)}{r:af×waA×(List ac)}(h:fm s a k1 k2=some r):C Pg GE 105 [.str s,.bptr 0 0,.eptr ((cL aa) a),.bptr 2 0] [] [.cells [.func (.func 62) [] [.bptr 1 0],.func (.func 61) [] []] [],.cells [sl cS k1] [(0,9)],.cells [sl aa k2] [(0,137)]] (.str r.1) [] [.cells [.func (.func 62) [] [.bptr 1 0],.func (.func 61) [] []] [],.cells [sl cS r.2.1] [(0,9)],.cells [sl aa r.2.2] [(0,137)]]:=by
 obtain⟨r1,br1,l2,bl2,h⟩:=Zb2 h
 obtain rfl:=lf h
 have z:=ss<|sv (cY Iy (sl aa a) [])<|si (.cg ⟨[1],[.str s,sl aa a,.bptr 0 0],[],[.cells [sl cS k1] [(0,9)]],[.cells [sl cS k1] [(0,9)]],[.cells [sl cS r1.2] [(0,9)]],[.cells [sl cS r1.2] [(0,9)]],.str r1.1,.str r1.1,[]⟩) (wd br1)<|sf (aI (xR [1] (.str s) trivial) (aI (xR [1] (sl aa a) (ak au a)) (aI (xB [1] 0 1 0 rfl) trivial)))<|sf (aI (aI (rB (.cells [sl cS k1] [(0,9)])) (aI (rW [(0,9)]) (aI (xR [1] (sl cS k1) (ak bD k1)) trivial))) trivial)<|sf (aI (aI (rW [(0,9)]) (aI (xR [1] (sl cS r1.2) (ak bD r1.2)) trivial)) trivial)<|sf (xR [1] (.str r1.1) trivial)<|sv (lG s r1.1)<|sv (Ku.mk' (v:=oR) pk ([(⟨s,r1.1⟩:ac)]:List ac) 1 (by kernel_rfl))<|sv (Ku.ap bl2)<|en (aI (rP (.str r1.1))<|aI trivial<|aI (rL [.cells [.func (.func 62) [] [.bptr 1 0],.func (.func 61) [] []] [],.cells [sl cS r1.2] [(0,9)],.cells [sl aa l2] [(0,137)]])<|(aI (aI (aI trivial (aI (aW (i:=1) (n:=3) rfl) trivial)) (aI (aI trivial trivial) trivial)) (aI (aI (up (n:=3) (ak bD r1.2)) trivial) (aI (aI (up (n:=3) (ak au l2)) trivial) trivial))))
 exact Z105.g (m:=3) rfl z<|by kernel_rfl
noncomputable def Vj:Code:=f108.body.getD .skip
def Rn:List Nat:=[]
theorem Z108:ZF Rn 108 f108 Vj:=⟨call108,func108,rfl⟩
section
variable(t1:Bool)(v:(List ac))(m:waA)(m2:(List ac))(m3:af)(m4:Int)(m5:af)(m6:waB)(m7:waA)(m8:Int)(m9:af)(m10:Int)(m11:waC)(m12:waC)(m13:waB)(m14:waC)
def iw:aB:=bg 17 [(1,.eptr (cB t1)),(2,.bptr 0 0),(3,.bptr 4 0),(4,.bptr 5 0)] [.cells [.func (.func 105) [] [.bptr 1 0,.eptr ((cL aa) v),.bptr 3 0]] [],.cells [.func (.func 62) [] [.bptr 2 0],.func (.func 61) [] []] [],.cells [sl cS m] [(0,9)],.cells [sl aa m2] [(0,137)],.cells [.str m3,.int .i64 m4,.str m5,sl ai m6,sl cS m7,.int .i64 m8,.str m9,.int .i64 m10,sl al m11,sl al m12] [],.cells [.str ([]:af),.int .i64 0,.str ([]:af),sl ai m13,sl cS ([]:List af),.int .i64 0,.str ([]:af),.int .i64 0,sl al m14,sl al m14] [(3,60),(4,9),(8,58),(9,58)]] []
def cy(o:waA×(List ac)×af):aB:=bg 17 [(3,.bptr 4 0),(4,.bptr 5 0)] [.cells [.func (.func 105) [] [.bptr 1 0,.eptr ((cL aa) v),.bptr 3 0]] [],.cells [.func (.func 62) [] [.bptr 2 0],.func (.func 61) [] []] [],.cells [sl cS o.1] [(0,9)],.cells [sl aa o.2.1] [(0,137)],.cells [.str o.2.2,.int .i64 m4,.str m5,sl ai m6,sl cS m7,.int .i64 m8,.str m9,.int .i64 m10,sl al m11,sl al m12] [],.cells [.str ([]:af),.int .i64 0,.str ([]:af),sl ai m13,sl cS ([]:List af),.int .i64 0,.str ([]:af),.int .i64 0,sl al m14,sl al m14] [(3,60),(4,9),(8,58),(9,58)]] []
def eb:Option ((waA×(List ac)×af)):=
 if t1=true then
  (fm m3 v m m2).bind fun r2=>
  some (r2.2.1,r2.2.2,r2.1)
 else
  some (m,m2,m3)
theorem il{x:(waA×(List ac)×af)}(h:eb t1 v m m2 m3=some x):bh Pg GE 4 (cA Vj 6) (EX .normal (cy v m4 m5 m6 m7 m8 m9 m10 m11 m12 m13 m14 x)) (iw t1 v m m2 m3 m4 m5 m6 m7 m8 m9 m10 m11 m12 m13 m14):=by
 rcases aQ h with⟨c1,h⟩|⟨c1,h⟩
 ·obtain⟨r2,br2,h⟩:=cP h
  obtain rfl:=lf h
  exact bF Rn (sv (cY Zc (.bool t1) [])<|sg 0 c1<|ss<|ss<|si (.cg ⟨[1,2,3],[.str m3,.bptr 0 0,.eptr ((cL aa) v),.bptr 2 0],[],[.cells [.func (.func 62) [] [.bptr 2 0],.func (.func 61) [] []] [],.cells [sl cS m] [(0,9)],.cells [sl aa m2] [(0,137)]],[.cells [.func (.func 62) [] [.bptr 1 0],.func (.func 61) [] []] [],.cells [sl cS m] [(0,9)],.cells [sl aa m2] [(0,137)]],[.cells [.func (.func 62) [] [.bptr 2 0],.func (.func 61) [] []] [],.cells [sl cS r2.2.1] [(0,9)],.cells [sl aa r2.2.2] [(0,137)]],[.cells [.func (.func 62) [] [.bptr 1 0],.func (.func 61) [] []] [],.cells [sl cS r2.2.1] [(0,9)],.cells [sl aa r2.2.2] [(0,137)]],.str r2.1,.str r2.1,[]⟩) (ik br2)<|sf (aI (xR [1,2,3] (.str m3) trivial) (aI (xB [1,2,3] 0 1 0 rfl) (aI (xR [1,2,3] (.eptr ((cL aa) v)) (mT au v)) (aI (xB [1,2,3] 2 3 0 rfl) trivial))))<|sf (aI (aI (rB (.cells [.func (.func 62) [] [.bptr 2 0],.func (.func 61) [] []] [])) (aI (rW []) (aI (xF [1,2,3] (.func 62) [] [.bptr 2 0] [] [.bptr 1 0] trivial (aI (xB [1,2,3] 1 2 0 rfl) trivial)) (aI (xR [1,2,3] (.func (.func 61) [] []) (aI trivial trivial)) trivial)))) (aI (aI (rB (.cells [sl cS m] [(0,9)])) (aI (rW [(0,9)]) (aI (xR [1,2,3] (sl cS m) (ak bD m)) trivial))) (aI (aI (rB (.cells [sl aa m2] [(0,137)])) (aI (rW [(0,137)]) (aI (xR [1,2,3] (sl aa m2) (ak au m2)) trivial))) trivial)))<|sf (aI (aI (rW []) (aI (xF [1,2,3] (.func 62) [] [.bptr 2 0] [] [.bptr 1 0] trivial (aI (xB [1,2,3] 1 2 0 rfl) trivial)) (aI (xR [1,2,3] (.func (.func 61) [] []) (aI trivial trivial)) trivial))) (aI (aI (rW [(0,9)]) (aI (xR [1,2,3] (sl cS r2.2.1) (ak bD r2.2.1)) trivial)) (aI (aI (rW [(0,137)]) (aI (xR [1,2,3] (sl aa r2.2.2) (ak au r2.2.2)) trivial)) trivial)))<|sf (xR [1,2,3] (.str r2.1) trivial)<|ss<|eF .normal (cy v m4 m5 m6 m7 m8 m9 m10 m11 m12 m13 m14 (r2.2.1,r2.2.2,r2.1)))<|by kernel_rfl
 ·obtain rfl:=lf h
  exact bF Rn (sv (cY Zc (.bool t1) [])<|sg 0 c1<|eF .normal (cy v m4 m5 m6 m7 m8 m9 m10 m11 m12 m13 m14 (m,m2,m3)))<|by kernel_rfl
end
def eE(p:ax)(a:Bool)(c:(List ac))(k2:waA)(k3:(List ac)):Option (ax×waA×(List ac)):=
 (eb a c k2 k3 p.Name).bind fun o3=>
 (eT cG p.Type_).bind fun r4=>
 some ((⟨o3.2.2,r4⟩:ax),o3.1,o3.2.1)
theorem iT{p:ax}{a:Bool}{c:(List ac)}{k2:waA}{k3:(List ac)}{r:ax×waA×(List ac)}(h:eE p a c k2 k3=some r):C Pg GE 108 [.agg (aw p),.eptr (cB a),.bptr 0 0] [] [.cells [.func (.func 105) [] [.bptr 1 0,.eptr ((cL aa) c),.bptr 3 0]] [],.cells [.func (.func 62) [] [.bptr 2 0],.func (.func 61) [] []] [],.cells [sl cS k2] [(0,9)],.cells [sl aa k3] [(0,137)]] (.agg (aw r.1)) [] [.cells [.func (.func 105) [] [.bptr 1 0,.eptr ((cL aa) c),.bptr 3 0]] [],.cells [.func (.func 62) [] [.bptr 2 0],.func (.func 61) [] []] [],.cells [sl cS r.2.1] [(0,9)],.cells [sl aa r.2.2] [(0,137)]]:=by
 obtain⟨o3,bo3,r4,br4,h⟩:=Zb2 h
 obtain rfl:=lf h
 have z:=sx (nl p)<|sx SC<|rh 0<|du (il a c k2 k3 p.Name p.Type_.Op p.Type_.Name p.Type_.Args p.Type_.Names p.Type_.Pred.Op p.Type_.Pred.Name p.Type_.Pred.N p.Type_.Pred.Kids p.Type_.Preds ([]:List aj) ([]:List am) bo3)<|Kw [0,1,0,4,12,31,63]<|ss<|sv (kW p.Type_ [])<|dj (ou cG (fun _ _ h=>g8 h) br4)<|sv (Db o3.2.2 r4)<|sx (nl (⟨o3.2.2,r4⟩:ax))<|en (aI (Ks (⟨o3.2.2,r4⟩:ax))<|aI (YQ (n:=4) (aY (⟨o3.2.2,r4⟩:ax)))<|aI (rL [.cells [.func (.func 105) [] [.bptr 1 0,.eptr ((cL aa) c),.bptr 3 0]] [],.cells [.func (.func 62) [] [.bptr 2 0],.func (.func 61) [] []] [],.cells [sl cS o3.1] [(0,9)],.cells [sl aa o3.2.1] [(0,137)]])<|(aI (aI (aI trivial (aI (aW (i:=1) (n:=4) rfl) (aI (aZ (n:=4) (mT au c)) (aI (aW (i:=3) (n:=4) rfl) trivial)))) trivial) (aI (aI (aI trivial (aI (aW (i:=2) (n:=4) rfl) trivial)) (aI (aI trivial trivial) trivial)) (aI (aI (up (n:=4) (ak bD o3.1)) trivial) (aI (aI (up (n:=4) (ak au o3.2.1)) trivial) trivial)))))
 exact Z108.g (m:=4) rfl z<|by kernel_rfl
end Go.Proofs.YtkdahfeiedaahaaGreatDoor
