/- PROVED: a part of the proof. Conditions: none. -/
import Derived.Test.YtkdahfeiedaahaaGreatDoorPkC9
import Derived.Test.YtkdahfeiedaahaaGreatDoorPkC10
noncomputable section
namespace Go.Proofs.YtkdahfeiedaahaaGreatDoor
open Go Go.Proofs.Tryz
set_option linter.unusedVariables false
set_option maxRecDepth 100000
abbrev tp:=(ag->Int->Option Int)
abbrev tc(R:tp):Prop:=∀(e:ag) (most:Int) (r:Int),R e most=some r->CC Pg GE 46 [.agg (af e),.int .i64 most] (.int .i64 r) []
abbrev uv:=(waC->Int->Option Int)
abbrev yB(R:uv):Prop:=∀(a:waC) (most:Int) (r:Int),R a most=some r->CC Pg GE 95 [sl ai a,.int .i64 most] (.int .i64 r) []
abbrev uu:=(waB->Int->Option Int)
abbrev yA(R:uu):Prop:=∀(a:waB) (most:Int) (r:Int),R a most=some r->CC Pg GE 132 [sl al a,.int .i64 most] (.int .i64 r) []
noncomputable def Rh:Code:=f132.body.getD .skip
def Pk:List Nat:=[39]
section
variable(v:waB)(most:Int)(n:Int)(i:Int)
def GX:aA:=bg 40 [(0,sl al v),(1,.int .i64 most),(5,.int .i64 n),(6,.int .i64 i)] [] []
def ti(o:Bool):aA:=bg 40 [(0,sl al v),(1,.int .i64 most),(5,.int .i64 n),(6,.int .i64 i),(15,.bool o)] [] []
def sD:Option Bool:=
 if(decide (i<(v.length:Int)))=true then
  some (decide (n<=most))
 else
  some false
theorem FQ{x:Bool}(h:sD v most n i=some x):aQ Pg GE 0 (cA Rh 476) (EX .normal (ti v most n i x)) (GX v most n i):=by
 rcases aN h with⟨c1,h⟩|⟨c1,h⟩
 ·obtain rfl:=lf h
  exact bA Pk (bU (nb.ln v)<|sg 5 c1<|eF .normal (ti v most n i (decide (n<=most))))<|by kernel_rfl
 ·obtain rfl:=lf h
  exact bA Pk (bU (nb.ln v)<|sg 5 c1<|eF .normal (ti v most n i false))<|by kernel_rfl
end
section
variable(R5:uu)(v:waB)(most:Int)(n:Int)(i:Int)
def l7:aA:=bg 40 [(0,sl al v),(1,.int .i64 most),(5,.int .i64 n),(6,.int .i64 i)] [] []
def tj(o:Int):aA:=bg 40 [(5,.int .i64 o)] [] []
def jJ:Option ((Int×Int)⊕(Int)):=
 (sD v most n i).bind fun o2=>
 if o2=true then
  (fJ v i).bind fun x5=>
  (qu .i64 (x5.Name.length:Int) 50).bind fun q6=>
  (fJ v i).bind fun x7=>
  (R5 x7.Kids (ca (most - (ca ((ca (n+1))+q6))))).bind fun r8=>
  some (.inl (ca ((ca ((ca (n+1))+q6))+r8),ca (i+1)))
 else
  some (.inr n)
def wP:Option Int:=loop (fun(zz:Int×Int)=>jJ R5 v most zz.1 zz.2) (n,i)
theorem Ei(hR5:yA R5){y:(Int×Int)⊕(Int)}(h:jJ R5 v most n i=some y):aQ Pg GE 0 (cA Rh 119) (LQ (fun(zz:Int×Int)=>l7 v most zz.1 zz.2) (fun _=>.exit 0) tj y) (l7 v most n i):=by
 obtain⟨o2,bo2,h⟩:=aG h
 have p4:=fun{sc F} (r:PS sc F)=>qk 1<|cY (FQ v most n i bo2)<|r
 rcases aN h with⟨c3,h⟩|⟨c3,h⟩
 ·obtain⟨x5,bx5,h⟩:=aG h
  obtain⟨q6,bq6,h⟩:=aG h
  obtain⟨x7,bx7,h⟩:=aG h
  obtain⟨r8,br8,h⟩:=aG h
  obtain rfl:=lf h
  exact yz Pk (p4<|sg 0 c3<|sv (nb.ia (k:=.i64) bx5)<|sv (nC x5)<|sv (pr x5)<|bU (oL underlying9 x5.Name)<|sv (Ja (P:=Pg) (t:=3) bq6)<|sv (nb.ia (k:=.i64) bx7)<|sv (gh x7)<|sv (gk x7)<|du (hR5 _ _ _ br8)<|eF .normal (l7 v most (ca ((ca ((ca (n+1))+q6))+r8)) (ca (i+1))))<|by kernel_rfl
 ·obtain rfl:=lf h
  have z:=p4<|sg 0 c3<|eF (.exit 0) (tj n)
  exact iI Pk (by intro hx;cases hx) z<|by kernel_rfl
theorem FT(hR5:yA R5){x:Int}(h:wP R5 v most n i=some x):aQ Pg GE 0 (.loop (cA Rh 119)) (EX (.exit 0) (tj x)) (l7 v most n i):=
 aQ.loop (S:=fun(zz:Int×Int)=>l7 v most zz.1 zz.2) (ex:=(fun _=>.exit 0)) (s:=(n,i)) h fun zz y hy=>Ei R5 v most zz.1 zz.2 hR5 hy
end
def ur(R5:uu)(a:waB)(most:Int):Option Int:=
 (wP R5 a most 0 0).bind fun o9=>
 some o9
theorem Iq(R5:uu)(hR5:yA R5){a:waB}{most:Int}{r:Int}(h:ur R5 a most=some r):CC Pg GE 132 [sl al a,.int .i64 most] (.int .i64 r) []:=by
 obtain⟨o9,bo9,h⟩:=aG h
 obtain rfl:=lf h
 have z:=cY (FT R5 a most 0 0 hR5 bo9)<|en (aI (rP (.int .i64 o9))<|trivial)
 exact cH Pk call132 func132 (c:=Rh) rfl (aI (am aS a) (aI trivial trivial)) z<|by kernel_rfl
def yW:((waB×Int)->Option Int)->(waB×Int)->Option Int:=fun(rec:(waB×Int)->Option Int) (x:waB×Int)=>ur (fun a most=>rec (a,most)) x.1 x.2
def Eh(a:waB)(most:Int):Option Int:=uc yW (a,most)
theorem JR{a:waB}{most:Int}{r:Int}(h:Eh a most=some r):CC Pg GE 132 [sl al a,.int .i64 most] (.int .i64 r) []:=
 fk (F:=yW) (M:=fun(x:waB×Int) (r:Int)=>CC Pg GE 132 [sl al x.1,.int .i64 x.2] (.int .i64 r) []) (fun rec hrec x r h=>Iq _ (fun a most r h=>hrec (a,most) r h) h) h
noncomputable def UX:Code:=f95.body.getD .skip
def TM:List Nat:=[61]
section
variable(v:waC)(most:Int)(n:Int)(i:Int)
def GY:aA:=bg 62 [(0,sl ai v),(1,.int .i64 most),(5,.int .i64 n),(6,.int .i64 i)] [] []
def tk(o:Bool):aA:=bg 62 [(0,sl ai v),(1,.int .i64 most),(5,.int .i64 n),(6,.int .i64 i),(15,.bool o)] [] []
def sF:Option Bool:=
 if(decide (i<(v.length:Int)))=true then
  some (decide (n<=most))
 else
  some false
theorem FU{x:Bool}(h:sF v most n i=some x):aQ Pg GE 0 (cA UX 476) (EX .normal (tk v most n i x)) (GY v most n i):=by
 rcases aN h with⟨c1,h⟩|⟨c1,h⟩
 ·obtain rfl:=lf h
  exact bA TM (bU (d5.ln v)<|sg 5 c1<|eF .normal (tk v most n i (decide (n<=most))))<|by kernel_rfl
 ·obtain rfl:=lf h
  exact bA TM (bU (d5.ln v)<|sg 5 c1<|eF .normal (tk v most n i false))<|by kernel_rfl
end
section
variable(R4:uv)(v:waC)(most:Int)(n:Int)(i:Int)
def l9:aA:=bg 62 [(0,sl ai v),(1,.int .i64 most),(5,.int .i64 n),(6,.int .i64 i)] [] []
def tn(o:Int):aA:=bg 62 [(5,.int .i64 o)] [] []
def jK:Option ((Int×Int)⊕(Int)):=
 (sF v most n i).bind fun o2=>
 if o2=true then
  (fJ v i).bind fun x5=>
  (qu .i64 (x5.Name.length:Int) 50).bind fun q6=>
  (fJ v i).bind fun x7=>
  (fJ v i).bind fun x8=>
  (fJ v i).bind fun x9=>
  (app ([x8.Pred]:List aj) x9.Preds).bind fun l10=>
  (Eh l10 most).bind fun r11=>
  (fJ v i).bind fun x12=>
  (R4 x12.Args (ca (most - (ca ((ca ((ca ((ca (n+1))+q6))+(x7.Names.length:Int)))+r11))))).bind fun r13=>
  some (.inl (ca ((ca ((ca ((ca ((ca (n+1))+q6))+(x7.Names.length:Int)))+r11))+r13),ca (i+1)))
 else
  some (.inr n)
def wQ:Option Int:=loop (fun(zz:Int×Int)=>jK R4 v most zz.1 zz.2) (n,i)
theorem Ej(hR4:yB R4){y:(Int×Int)⊕(Int)}(h:jK R4 v most n i=some y):aQ Pg GE 0 (cA UX 119) (LQ (fun(zz:Int×Int)=>l9 v most zz.1 zz.2) (fun _=>.exit 0) tn y) (l9 v most n i):=by
 obtain⟨o2,bo2,h⟩:=aG h
 have p4:=fun{sc F} (r:PS sc F)=>qk 1<|cY (FU v most n i bo2)<|r
 rcases aN h with⟨c3,h⟩|⟨c3,h⟩
 ·obtain⟨x5,bx5,h⟩:=aG h
  obtain⟨q6,bq6,h⟩:=aG h
  obtain⟨x7,bx7,h⟩:=aG h
  obtain⟨x8,bx8,h⟩:=aG h
  obtain⟨x9,bx9,h⟩:=aG h
  obtain⟨l10,bl10,h⟩:=aG h
  obtain⟨r11,br11,h⟩:=aG h
  obtain⟨x12,bx12,h⟩:=aG h
  obtain⟨r13,br13,h⟩:=aG h
  obtain rfl:=lf h
  exact yz TM (p4<|sg 0 c3<|IY [0,1,0,0,12,28,60,124,252,511,0,0,3072,7168,15360,31744,65535,0,0,393216,917504,1966080,4063232,0,0,25165824,58720256,125829120,268304384,0,1073610752,2147483647,4294967295]<|sv (d5.ia (k:=.i64) bx5)<|sv (gi x5)<|sv (g9 x5)<|bU (oL underlying9 x5.Name)<|sv (Ja (P:=Pg) (t:=3) bq6)<|sv (d5.ia (k:=.i64) bx7)<|sv (eA x7)<|sv (eC x7)<|bU (eu.ln x7.Names)<|sv (d5.ia (k:=.i64) bx8)<|sv (nD x8)<|sv (nG x8)<|sv (nb.mk' (v:=KU) JA ([x8.Pred]:List aj) 1 (by kernel_rfl))<|sv (d5.ia (k:=.i64) bx9)<|sv (hX x9)<|sv (ib x9)<|sv (nb.ap bl10)<|du (JR br11)<|sv (d5.ia (k:=.i64) bx12)<|sv (dy x12)<|sv (dz x12)<|du (hR4 _ _ _ br13)<|eF .normal (l9 v most (ca ((ca ((ca ((ca ((ca (n+1))+q6))+(x7.Names.length:Int)))+r11))+r13)) (ca (i+1))))<|by kernel_rfl
 ·obtain rfl:=lf h
  have z:=p4<|sg 0 c3<|eF (.exit 0) (tn n)
  exact iI TM (by intro hx;cases hx) z<|by kernel_rfl
theorem FV(hR4:yB R4){x:Int}(h:wQ R4 v most n i=some x):aQ Pg GE 0 (.loop (cA UX 119)) (EX (.exit 0) (tn x)) (l9 v most n i):=
 aQ.loop (S:=fun(zz:Int×Int)=>l9 v most zz.1 zz.2) (ex:=(fun _=>.exit 0)) (s:=(n,i)) h fun zz y hy=>Ej R4 v most zz.1 zz.2 hR4 hy
end
def ut(R4:uv)(a:waC)(most:Int):Option Int:=
 (wQ R4 a most 0 0).bind fun o14=>
 some o14
theorem Ir(R4:uv)(hR4:yB R4){a:waC}{most:Int}{r:Int}(h:ut R4 a most=some r):CC Pg GE 95 [sl ai a,.int .i64 most] (.int .i64 r) []:=by
 obtain⟨o14,bo14,h⟩:=aG h
 obtain rfl:=lf h
 have z:=cY (FV R4 a most 0 0 hR4 bo14)<|en (aI (rP (.int .i64 o14))<|trivial)
 exact cH TM call95 func95 (c:=UX) rfl (aI (am aE a) (aI trivial trivial)) z<|by kernel_rfl
def yY:((waC×Int)->Option Int)->(waC×Int)->Option Int:=fun(rec:(waC×Int)->Option Int) (x:waC×Int)=>ut (fun a most=>rec (a,most)) x.1 x.2
def Aj(a:waC)(most:Int):Option Int:=uc yY (a,most)
theorem C0{a:waC}{most:Int}{r:Int}(h:Aj a most=some r):CC Pg GE 95 [sl ai a,.int .i64 most] (.int .i64 r) []:=
 fk (F:=yY) (M:=fun(x:waC×Int) (r:Int)=>CC Pg GE 95 [sl ai x.1,.int .i64 x.2] (.int .i64 r) []) (fun rec hrec x r h=>Ir _ (fun a most r h=>hrec (a,most) r h) h) h
noncomputable def UY:Code:=f96.body.getD .skip
def TN:List Nat:=[27]
section
variable(v:waA)(most:Int)(n:Int)(i:Int)
def GW:aA:=bg 28 [(0,sl cS v),(1,.int .i64 most),(5,.int .i64 n),(6,.int .i64 i)] [] []
def tg(o:Bool):aA:=bg 28 [(0,sl cS v),(1,.int .i64 most),(5,.int .i64 n),(6,.int .i64 i),(15,.bool o)] [] []
def sC:Option Bool:=
 if(decide (i<(v.length:Int)))=true then
  some (decide (n<=most))
 else
  some false
theorem FO{x:Bool}(h:sC v most n i=some x):aQ Pg GE 0 (cA UY 476) (EX .normal (tg v most n i x)) (GW v most n i):=by
 rcases aN h with⟨c1,h⟩|⟨c1,h⟩
 ·obtain rfl:=lf h
  exact bA TN (bU (eu.ln v)<|sg 5 c1<|eF .normal (tg v most n i (decide (n<=most))))<|by kernel_rfl
 ·obtain rfl:=lf h
  exact bA TN (bU (eu.ln v)<|sg 5 c1<|eF .normal (tg v most n i false))<|by kernel_rfl
end
section
variable(v:waA)(most:Int)(n:Int)(i:Int)
def lZ:aA:=bg 28 [(0,sl cS v),(1,.int .i64 most),(5,.int .i64 n),(6,.int .i64 i)] [] []
def th(o:Int):aA:=bg 28 [(5,.int .i64 o)] [] []
def jI:Option ((Int×Int)⊕(Int)):=
 (sC v most n i).bind fun o2=>
 if o2=true then
  (fJ v i).bind fun x5=>
  (qu .i64 (x5.length:Int) 50).bind fun q6=>
  some (.inl (ca ((ca (n+1))+q6),ca (i+1)))
 else
  some (.inr n)
def wO:Option Int:=loop (fun(zz:Int×Int)=>jI v most zz.1 zz.2) (n,i)
theorem Eg{y:(Int×Int)⊕(Int)}(h:jI v most n i=some y):aQ Pg GE 0 (cA UY 119) (LQ (fun(zz:Int×Int)=>lZ v most zz.1 zz.2) (fun _=>.exit 0) th y) (lZ v most n i):=by
 obtain⟨o2,bo2,h⟩:=aG h
 have p4:=fun{sc F} (r:PS sc F)=>qk 1<|cY (FO v most n i bo2)<|r
 rcases aN h with⟨c3,h⟩|⟨c3,h⟩
 ·obtain⟨x5,bx5,h⟩:=aG h
  obtain⟨q6,bq6,h⟩:=aG h
  obtain rfl:=lf h
  exact yz TN (p4<|sg 0 c3<|sv (eu.ia (k:=.i64) bx5)<|sv (de GB (.str x5) [])<|bU (oL underlying9 x5)<|sv (Ja (P:=Pg) (t:=3) bq6)<|eF .normal (lZ v most (ca ((ca (n+1))+q6)) (ca (i+1))))<|by kernel_rfl
 ·obtain rfl:=lf h
  have z:=p4<|sg 0 c3<|eF (.exit 0) (th n)
  exact iI TN (by intro hx;cases hx) z<|by kernel_rfl
theorem FP{x:Int}(h:wO v most n i=some x):aQ Pg GE 0 (.loop (cA UY 119)) (EX (.exit 0) (th x)) (lZ v most n i):=
 aQ.loop (S:=fun(zz:Int×Int)=>lZ v most zz.1 zz.2) (ex:=(fun _=>.exit 0)) (s:=(n,i)) h fun zz y hy=>Eg v most zz.1 zz.2 hy
end
def Ai(a:waA)(most:Int):Option Int:=
 (wO a most 0 0).bind fun o7=>
 some o7
theorem JQ{a:waA}{most:Int}{r:Int}(h:Ai a most=some r):CC Pg GE 96 [sl cS a,.int .i64 most] (.int .i64 r) []:=by
 obtain⟨o7,bo7,h⟩:=aG h
 obtain rfl:=lf h
 have z:=cY (FP a most 0 0 bo7)<|en (aI (rP (.int .i64 o7))<|trivial)
 exact cH TN call96 func96 (c:=UY) rfl (aI (am bO a) (aI trivial trivial)) z<|by kernel_rfl
noncomputable def QZ:Code:=f46.body.getD .skip
def N5:List Nat:=[119]
section
variable(most:Int)(e:ag)(n:Int)(i:Int)
def Ij:aA:=bg 120 [(1,.int .i64 most),(2,.eptr (af e)),(5,.int .i64 n),(6,.int .i64 i)] [.dead] []
def u7(o:Bool):aA:=bg 120 [(1,.int .i64 most),(2,.eptr (af e)),(5,.int .i64 n),(6,.int .i64 i),(28,.bool o)] [.dead] []
def um:Option Bool:=
 if(decide (i<(e.Params.length:Int)))=true then
  some (decide (n<=most))
 else
  some false
theorem GK{x:Bool}(h:um most e n i=some x):aQ Pg GE 0 (cA QZ 476) (EX .normal (u7 most e n i x)) (Ij most e n i):=by
 have p4:=fun{sc F} (r:PS sc F)=>sv (bM e)<|sv (bN e)<|bU (lT.ln e.Params)<|r
 rcases aN h with⟨c3,h⟩|⟨c3,h⟩
 ·obtain rfl:=lf h
  exact bA N5 (p4<|sg 6 c3<|eF .normal (u7 most e n i (decide (n<=most))))<|by kernel_rfl
 ·obtain rfl:=lf h
  exact bA N5 (p4<|sg 6 c3<|eF .normal (u7 most e n i false))<|by kernel_rfl
end
section
variable(most:Int)(e:ag)(n:Int)(i:Int)
def nl:aA:=bg 120 [(1,.int .i64 most),(2,.eptr (af e)),(5,.int .i64 n),(6,.int .i64 i)] [.dead] []
def vb(o:Int):aA:=bg 120 [(1,.int .i64 most),(2,.eptr (af e)),(5,.int .i64 o)] [.dead] []
def lp:Option ((Int×Int)⊕(Int)):=
 (um most e n i).bind fun o5=>
 if o5=true then
  (fJ e.Params i).bind fun x8=>
  (qu .i64 (x8.Name.length:Int) 50).bind fun q9=>
  (fJ e.Params i).bind fun x10=>
  (Aj ([x10.Type_]:List ah) most).bind fun r11=>
  some (.inl (ca ((ca ((ca (n+1))+q9))+r11),ca (i+1)))
 else
  some (.inr n)
def yG:Option Int:=loop (fun(zz:Int×Int)=>lp most e zz.1 zz.2) (n,i)
theorem FH{y:(Int×Int)⊕(Int)}(h:lp most e n i=some y):aQ Pg GE 0 (cA QZ 119) (LQ (fun(zz:Int×Int)=>nl most e zz.1 zz.2) (fun _=>.exit 0) (vb most e) y) (nl most e n i):=by
 obtain⟨o5,bo5,h⟩:=aG h
 have p7:=fun{sc F} (r:PS sc F)=>qk 1<|cY (GK most e n i bo5)<|r
 rcases aN h with⟨c6,h⟩|⟨c6,h⟩
 ·obtain⟨x8,bx8,h⟩:=aG h
  obtain⟨q9,bq9,h⟩:=aG h
  obtain⟨x10,bx10,h⟩:=aG h
  obtain⟨r11,br11,h⟩:=aG h
  obtain rfl:=lf h
  exact yz N5 (p7<|sg 0 c6<|IY [0,1,0,4,0,28,60,124,252,508,1023,0,2048,0,14336,30720,63488,129024,0,522240,1048575,2097151]<|sv (bM e)<|sv (bN e)<|sv (lT.ia (k:=.i64) bx8)<|sv (tv x8)<|sv (vB x8)<|bU (oL underlying9 x8.Name)<|sv (Ja (P:=Pg) (t:=3) bq9)<|sv (bM e)<|sv (bN e)<|sv (lT.ia (k:=.i64) bx10)<|sv (tw x10)<|sv (tB x10)<|sv (d5.mk' (v:=KV) JB ([x10.Type_]:List ah) 1 (by kernel_rfl))<|du (C0 br11)<|eF .normal (nl most e (ca ((ca ((ca (n+1))+q9))+r11)) (ca (i+1))))<|by kernel_rfl
 ·obtain rfl:=lf h
  have z:=p7<|sg 0 c6<|eF (.exit 0) (vb most e n)
  exact iI N5 (by intro hx;cases hx) z<|by kernel_rfl
theorem GN{x:Int}(h:yG most e n i=some x):aQ Pg GE 0 (.loop (cA QZ 119)) (EX (.exit 0) (vb most e x)) (nl most e n i):=
 aQ.loop (S:=fun(zz:Int×Int)=>nl most e zz.1 zz.2) (ex:=(fun _=>.exit 0)) (s:=(n,i)) h fun zz y hy=>FH most e zz.1 zz.2 hy
end
section
variable(most:Int)(e:ag)(n:Int)(i:Int)
def Ik:aA:=bg 120 [(1,.int .i64 most),(2,.eptr (af e)),(5,.int .i64 n),(7,.int .i64 i)] [.dead] []
def u9(o:Bool):aA:=bg 120 [(1,.int .i64 most),(2,.eptr (af e)),(5,.int .i64 n),(7,.int .i64 i),(61,.bool o)] [.dead] []
def uo:Option Bool:=
 if(decide (i<(e.Kids.length:Int)))=true then
  some (decide (n<=most))
 else
  some false
theorem GL{x:Bool}(h:uo most e n i=some x):aQ Pg GE 0 (cA QZ 988) (EX .normal (u9 most e n i x)) (Ik most e n i):=by
 have p14:=fun{sc F} (r:PS sc F)=>sv (bu e)<|sv (bv e)<|bU (iJ.ln e.Kids)<|r
 rcases aN h with⟨c13,h⟩|⟨c13,h⟩
 ·obtain rfl:=lf h
  exact bA N5 (p14<|sg 6 c13<|eF .normal (u9 most e n i (decide (n<=most))))<|by kernel_rfl
 ·obtain rfl:=lf h
  exact bA N5 (p14<|sg 6 c13<|eF .normal (u9 most e n i false))<|by kernel_rfl
end
section
variable(R3:tp)(most:Int)(e:ag)(n:Int)(i:Int)
def nn:aA:=bg 120 [(1,.int .i64 most),(2,.eptr (af e)),(5,.int .i64 n),(7,.int .i64 i)] [.dead] []
def vd(o:Int):aA:=bg 120 [(1,.int .i64 most),(2,.eptr (af e)),(5,.int .i64 o)] [.dead] []
def lq:Option ((Int×Int)⊕(Int)):=
 (uo most e n i).bind fun o15=>
 if o15=true then
  (fJ e.Kids i).bind fun x18=>
  (R3 x18 (ca (most - n))).bind fun r19=>
  some (.inl (ca (n+r19),ca (i+1)))
 else
  some (.inr n)
def yH:Option Int:=loop (fun(zz:Int×Int)=>lq R3 most e zz.1 zz.2) (n,i)
theorem FI(hR3:tc R3){y:(Int×Int)⊕(Int)}(h:lq R3 most e n i=some y):aQ Pg GE 0 (cA QZ 247) (LQ (fun(zz:Int×Int)=>nn most e zz.1 zz.2) (fun _=>.exit 2) (vd most e) y) (nn most e n i):=by
 obtain⟨o15,bo15,h⟩:=aG h
 have p17:=fun{sc F} (r:PS sc F)=>qk 1<|cY (GL most e n i bo15)<|r
 rcases aN h with⟨c16,h⟩|⟨c16,h⟩
 ·obtain⟨x18,bx18,h⟩:=aG h
  obtain⟨r19,br19,h⟩:=aG h
  obtain rfl:=lf h
  exact yz N5 (p17<|sg 0 c16<|sv (bu e)<|sv (bv e)<|sv (iJ.ia (k:=.i64) bx18)<|sv (cu x18)<|du (hR3 _ _ _ br19)<|eF .normal (nn most e (ca (n+r19)) (ca (i+1))))<|by kernel_rfl
 ·obtain rfl:=lf h
  have z:=p17<|sg 0 c16<|eF (.exit 2) (vd most e n)
  exact iI N5 (by intro hx;cases hx) z<|by kernel_rfl
theorem GO(hR3:tc R3){x:Int}(h:yH R3 most e n i=some x):aQ Pg GE 0 (.loop (cA QZ 247)) (EX (.exit 2) (vd most e x)) (nn most e n i):=
 aQ.loop (S:=fun(zz:Int×Int)=>nn most e zz.1 zz.2) (ex:=(fun _=>.exit 2)) (s:=(n,i)) h fun zz y hy=>FI R3 most e zz.1 zz.2 hR3 hy
end
section
variable(most:Int)(e:ag)(n:Int)(i:Int)
def Il:aA:=bg 120 [(1,.int .i64 most),(2,.eptr (af e)),(5,.int .i64 n),(8,.int .i64 i)] [.dead] []
def va(o:Bool):aA:=bg 120 [(1,.int .i64 most),(2,.eptr (af e)),(5,.int .i64 n),(8,.int .i64 i),(84,.bool o)] [.dead] []
def uq:Option Bool:=
 if(decide (i<(e.Alts.length:Int)))=true then
  some (decide (n<=most))
 else
  some false
theorem GM{x:Bool}(h:uq most e n i=some x):aQ Pg GE 0 (cA QZ 2012) (EX .normal (va most e n i x)) (Il most e n i):=by
 have p22:=fun{sc F} (r:PS sc F)=>sv (aH e)<|sv (aJ e)<|bU (fo.ln e.Alts)<|r
 rcases aN h with⟨c21,h⟩|⟨c21,h⟩
 ·obtain rfl:=lf h
  exact bA N5 (p22<|sg 6 c21<|eF .normal (va most e n i (decide (n<=most))))<|by kernel_rfl
 ·obtain rfl:=lf h
  exact bA N5 (p22<|sg 6 c21<|eF .normal (va most e n i false))<|by kernel_rfl
end
section
variable(R3:tp)(most:Int)(e:ag)(n:Int)(i:Int)
def np:aA:=bg 120 [(1,.int .i64 most),(2,.eptr (af e)),(5,.int .i64 n),(8,.int .i64 i)] [.dead] []
def vg(o:Int):aA:=bg 120 [(5,.int .i64 o)] [.dead] []
def lr:Option ((Int×Int)⊕(Int)):=
 (uq most e n i).bind fun o23=>
 if o23=true then
  (fJ e.Alts i).bind fun x26=>
  (qu .i64 (x26.Con.length:Int) 50).bind fun q27=>
  (fJ e.Alts i).bind fun x28=>
  (Ai x28.Names most).bind fun r29=>
  (fJ e.Alts i).bind fun x30=>
  (R3 x30.Body (ca (most - (ca ((ca ((ca (n+1))+q27))+r29))))).bind fun r31=>
  some (.inl (ca ((ca ((ca ((ca (n+1))+q27))+r29))+r31),ca (i+1)))
 else
  some (.inr n)
def yI:Option Int:=loop (fun(zz:Int×Int)=>lr R3 most e zz.1 zz.2) (n,i)
theorem FJ(hR3:tc R3){y:(Int×Int)⊕(Int)}(h:lr R3 most e n i=some y):aQ Pg GE 0 (cA QZ 503) (LQ (fun(zz:Int×Int)=>np most e zz.1 zz.2) (fun _=>.exit 4) vg y) (np most e n i):=by
 obtain⟨o23,bo23,h⟩:=aG h
 have p25:=fun{sc F} (r:PS sc F)=>qk 1<|cY (GM most e n i bo23)<|r
 rcases aN h with⟨c24,h⟩|⟨c24,h⟩
 ·obtain⟨x26,bx26,h⟩:=aG h
  obtain⟨q27,bq27,h⟩:=aG h
  obtain⟨x28,bx28,h⟩:=aG h
  obtain⟨r29,br29,h⟩:=aG h
  obtain⟨x30,bx30,h⟩:=aG h
  obtain⟨r31,br31,h⟩:=aG h
  obtain rfl:=lf h
  exact yz N5 (p25<|sg 0 c24<|IY [0,1,0,4,0,28,60,124,252,508,1023,0,2048,0,14336,30720,63488,0,260096,524287,1048575]<|sv (aH e)<|sv (aJ e)<|sv (fo.ia (k:=.i64) bx26)<|sv (xa x26)<|sv (zo x26)<|bU (oL underlying9 x26.Con)<|sv (Ja (P:=Pg) (t:=3) bq27)<|sv (aH e)<|sv (aJ e)<|sv (fo.ia (k:=.i64) bx28)<|sv (sL x28)<|sv (sO x28)<|du (JQ br29)<|sv (aH e)<|sv (aJ e)<|sv (fo.ia (k:=.i64) bx30)<|sv (xc x30)<|sv (xg x30)<|du (hR3 _ _ _ br31)<|eF .normal (np most e (ca ((ca ((ca ((ca (n+1))+q27))+r29))+r31)) (ca (i+1))))<|by kernel_rfl
 ·obtain rfl:=lf h
  have z:=p25<|sg 0 c24<|eF (.exit 4) (vg n)
  exact iI N5 (by intro hx;cases hx) z<|by kernel_rfl
theorem GP(hR3:tc R3){x:Int}(h:yI R3 most e n i=some x):aQ Pg GE 0 (.loop (cA QZ 503)) (EX (.exit 4) (vg x)) (np most e n i):=
 aQ.loop (S:=fun(zz:Int×Int)=>np most e zz.1 zz.2) (ex:=(fun _=>.exit 4)) (s:=(n,i)) h fun zz y hy=>FJ R3 most e zz.1 zz.2 hR3 hy
end
def wM(R3:tp)(e:ag)(most:Int):Option Int:=
 (qu .i64 (e.Name.length:Int) 50).bind fun q1=>
 (Aj e.Types most).bind fun r2=>
 (yG most e (ca ((ca (1+q1))+r2)) 0).bind fun o12=>
 (yH R3 most e o12 0).bind fun o20=>
 (yI R3 most e o20 0).bind fun o32=>
 some o32
theorem JO(R3:tp)(hR3:tc R3){e:ag}{most:Int}{r:Int}(h:wM R3 e most=some r):CC Pg GE 46 [.agg (af e),.int .i64 most] (.int .i64 r) []:=by
 obtain⟨q1,bq1,h⟩:=aG h
 obtain⟨r2,br2,h⟩:=aG h
 obtain⟨o12,bo12,h⟩:=aG h
 obtain⟨o20,bo20,h⟩:=aG h
 obtain⟨o32,bo32,h⟩:=aG h
 obtain rfl:=lf h
 have z:=se (dM e)<|IY [0,1,3,7,15,0,32,0,224,511,1023]<|sv (fg e)<|sv (gj e)<|bU (oL underlying9 e.Name)<|sv (Ja (P:=Pg) (t:=3) bq1)<|sv (aK e)<|sv (aL e)<|du (C0 br2)<|cY (GN most e (ca ((ca (1+q1))+r2)) 0 bo12)<|cY (GO R3 most e o12 0 hR3 bo20)<|cY (GP R3 most e o20 0 hR3 bo32)<|en (aI (rP (.int .i64 o32))<|trivial)
 exact cH N5 call46 func46 (c:=QZ) rfl (aI (az e) (aI trivial trivial)) z<|by kernel_rfl
def BW:((ag×Int)->Option Int)->(ag×Int)->Option Int:=fun(rec:(ag×Int)->Option Int) (x:ag×Int)=>wM (fun e most=>rec (e,most)) x.1 x.2
def GJ(e:ag)(most:Int):Option Int:=uc BW (e,most)
theorem K1{e:ag}{most:Int}{r:Int}(h:GJ e most=some r):CC Pg GE 46 [.agg (af e),.int .i64 most] (.int .i64 r) []:=
 fk (F:=BW) (M:=fun(x:ag×Int) (r:Int)=>CC Pg GE 46 [.agg (af x.1),.int .i64 x.2] (.int .i64 r) []) (fun rec hrec x r h=>JO _ (fun e most r h=>hrec (e,most) r h) h) h
noncomputable def WJ:Code:=f48.body.getD .skip
def Wu:List Nat:=[]
def gg(s:ae):Option ag:=
 some (⟨3,s,0,([]:List ag),([]:List aw),([]:List aF),([]:List ah)⟩:ag)
theorem eO{s:ae}{r:ag}(h:gg s=some r):CC Pg GE 48 [.str s] (.agg (af r)) [(3,28),(4,85),(5,89),(6,60)]:=by
 obtain rfl:=lf h
 have z:=sx yx<|sb (Dc 3 s) (C7 3 s)<|sy (bz (⟨3,s,0,([]:List ag),([]:List aw),([]:List aF),([]:List ah)⟩:ag))<|en (aI (qF (⟨3,s,0,([]:List ag),([]:List aw),([]:List aF),([]:List ah)⟩:ag))<|aI (az (⟨3,s,0,([]:List ag),([]:List aw),([]:List aF),([]:List ah)⟩:ag))<|rT)
 exact cH Wu call48 func48 (c:=WJ) rfl (aI trivial trivial) z<|by kernel_rfl
noncomputable def WI:Code:=f47.body.getD .skip
def Wt:List Nat:=[]
def Al(s:ae)(a:ag)(a2:ag):Option ag:=
 some (⟨7,s,0,([a,a2]:List ag),([]:List aw),([]:List aF),([]:List ah)⟩:ag)
theorem tq{s:ae}{a:ag}{a2:ag}{r:ag}(h:Al s a a2=some r):CC Pg GE 47 [.str s,.agg (af a),.agg (af a2)] (.agg (af r)) [(4,85),(5,89),(6,60)]:=by
 obtain rfl:=lf h
 have z:=se (dM a)<|se (dM a2)<|sx yx<|sv (cu a)<|sv (cu a2)<|sv (iJ.mk' (v:=qX) mJ ([a,a2]:List ag) 2 (by kernel_rfl))<|sb (zc 7 s ([a,a2]:List ag)) (za 7 s ([a,a2]:List ag))<|sy (bz (⟨7,s,0,([a,a2]:List ag),([]:List aw),([]:List aF),([]:List ah)⟩:ag))<|en (aI (qF (⟨7,s,0,([a,a2]:List ag),([]:List aw),([]:List aF),([]:List ah)⟩:ag))<|aI (az (⟨7,s,0,([a,a2]:List ag),([]:List aw),([]:List aF),([]:List ah)⟩:ag))<|rT)
 exact cH Wt call47 func47 (c:=WI) rfl (aI trivial (aI (az a) (aI (az a2) trivial))) z<|by kernel_rfl
noncomputable def Vw:Code:=f81.body.getD .skip
def Vg:List Nat:=[]
section
variable(t6:waA)(t7:Int)(t8:Int)(m1:(List (ae×Bool)))
def g8:aA:=bg 18 [(0,.bptr 0 0),(6,sl cS t6),(7,.int .i64 t7),(8,.int .i64 t8)] [.cells [.mapr 1] [],.map (aP PVal.bool m1)] []
def nh(o:(List (ae×Bool))):aA:=bg 18 [] [.cells [.mapr 1] [],.map (aP PVal.bool o)] []
def sw:Option ((Int×(List (ae×Bool)))⊕(((List (ae×Bool))))):=
 if(decide (t8<t7))=true then
  (fJ t6 t8).bind fun x2=>
  some (.inl (ca (t8+1),F2 m1 x2 true))
 else
  some (.inr m1)
def u5:Option (((List (ae×Bool)))):=loop (fun(zz:Int×(List (ae×Bool)))=>sw t6 t7 zz.1 zz.2) (t8,m1)
theorem yy{y:(Int×(List (ae×Bool)))⊕(((List (ae×Bool))))}(h:sw t6 t7 t8 m1=some y):aQ Pg GE 2 (cA Vw 15) (LQ (fun(zz:Int×(List (ae×Bool)))=>g8 t6 t7 zz.1 zz.2) (fun _=>.exit 0) nh y) (g8 t6 t7 t8 m1):=by
 rcases aN h with⟨c1,h⟩|⟨c1,h⟩
 ·obtain⟨x2,bx2,h⟩:=aG h
  obtain rfl:=lf h
  exact yz Vg (sg 0 c1<|sv (eu.ia (k:=.i64) bx2)<|sv (de GB (.str x2) [])<|ss<|V7 (MU (f:=PVal.bool) underlying124 underlying9 m1 x2 true)<|eF .normal (g8 t6 t7 (ca (t8+1)) (F2 m1 x2 true)))<|by kernel_rfl
 ·obtain rfl:=lf h
  have z:=sg 0 c1<|eF (.exit 0) (nh m1)
  exact iI Vg (by intro hx;cases hx) z<|by kernel_rfl
theorem Ab{x:((List (ae×Bool)))}(h:u5 t6 t7 t8 m1=some x):aQ Pg GE 2 (.loop (cA Vw 15)) (EX (.exit 0) (nh x)) (g8 t6 t7 t8 m1):=
 aQ.loop (S:=fun(zz:Int×(List (ae×Bool)))=>g8 t6 t7 zz.1 zz.2) (ex:=(fun _=>.exit 0)) (s:=(t8,m1)) h fun zz y hy=>yy t6 t7 zz.1 zz.2 hy
end
def j7(a:waA)(k1:(List (ae×Bool))):Option ((List (ae×Bool))):=
 (u5 a (a.length:Int) 0 k1).bind fun o3=>
 some o3
theorem jr{a:waA}{k1:(List (ae×Bool))}{r:(List (ae×Bool))}(h:j7 a k1=some r):C Pg GE 81 [.bptr 0 0,sl cS a] [] [.cells [.mapr 1] [],.map (aP PVal.bool k1)] (.tuple []) [] [.cells [.mapr 1] [],.map (aP PVal.bool r)]:=by
 obtain⟨o3,bo3,h⟩:=aG h
 obtain rfl:=lf h
 have z:=bU (eu.ln a)<|cY (Ab a (a.length:Int) 0 k1 bo3)<|en (aI (rP (.tuple []))<|aI trivial<|aI (rL [.cells [.mapr 1] [],.map (aP PVal.bool o3)])<|(aI (aI (bh (i:=1) (n:=2) rfl) trivial) (aI (s4 (n:=2) PVal.bool (fun x=>trivial) o3) trivial)))
 exact C.evGp (A:=Vg) mixed (m:=2) (c:=Vw) rfl call81 func81 rfl z<|by kernel_rfl
noncomputable def WQ:Code:=f78.body.getD .skip
def WB:List Nat:=[10]
def vJ(a:waA):Option ((List (ae×Bool))):=
 (j7 a ([]:List (ae×Bool))).bind fun r1=>
 some r1
theorem wx{a:waA}{r:(List (ae×Bool))}(h:vJ a=some r):CN Pg GE 78 [sl cS a] (.bptr 1 0) [] [.map (aP PVal.bool r),.cells [.mapr 0] []]:=by
 obtain⟨r1,br1,h⟩:=aG h
 obtain rfl:=lf h
 have z:=sv (show dB Pg 126 [(0,.mapr 0)]=some (.agg [.mapr 0]) by kernel_rfl)<|sx (UF [.mapr 0])<|si (.cg ⟨[1,0],[.bptr 0 0,sl cS a],[],[.cells [.mapr 0] [],.map (aP PVal.bool ([]:List (ae×Bool)))],[.cells [.mapr 1] [],.map (aP PVal.bool ([]:List (ae×Bool)))],[.cells [.mapr 0] [],.map (aP PVal.bool r1)],[.cells [.mapr 1] [],.map (aP PVal.bool r1)],.tuple [],.tuple [],[]⟩) (jr br1)<|sf (aI (xB [1,0] 0 1 0 rfl) (aI (xR [1,0] (sl cS a) (am bO a)) trivial))<|sf (aI (aI (rB (.cells [.mapr 0] [])) (aI (rW []) (aI (xM [1,0] 1 0 rfl) trivial))) (aI (aI (rB (.map (aP PVal.bool ([]:List (ae×Bool))))) (aI (rM (aP PVal.bool ([]:List (ae×Bool)))) (s4 (n:=0) PVal.bool (fun x=>trivial) ([]:List (ae×Bool))))) trivial))<|sf (aI (aI (rW []) (aI (xM [1,0] 1 0 rfl) trivial)) (aI (aI (rM (aP PVal.bool r1)) (s4 (n:=0) PVal.bool (fun x=>trivial) r1)) trivial))<|sf (xR [1,0] (.tuple []) trivial)<|en (aI (rP (.bptr 1 0))<|aI (bh (i:=1) (n:=2) rfl)<|aI (rL [.map (aP PVal.bool r1),.cells [.mapr 0] []])<|(aI (s4 (n:=2) PVal.bool (fun x=>trivial) r1) (aI (aI (bh (i:=0) (n:=2) rfl) trivial) trivial)))
 exact CN.evNp (A:=WB) mixed (c:=WQ) call78 func78 rfl z<|by kernel_rfl
abbrev dX:=(ag->waA->(List (ae×Bool))->Option ((List (ae×Bool))))
abbrev dV(R:dX):Prop:=∀(e:ag) (hidden:waA) (k2:(List (ae×Bool))) (r:(List (ae×Bool))),R e hidden k2=some r->C Pg GE 79 [.agg (af e),sl cS hidden,.func (.func 80) [] [.bptr 0 0]] [] [.cells [.bptr 1 0] [],.cells [.mapr 2] [],.map (aP PVal.bool k2)] (.tuple []) [] [.cells [.bptr 1 0] [],.cells [.mapr 2] [],.map (aP PVal.bool r)]
noncomputable def TW:Code:=f100.body.getD .skip
def Tz:List Nat:=[]
def lc(e:ag):Option Bool:=
 if(e.Op==3)=true then
  some true
 else
  some (e.Op==5)
theorem kp{e:ag}{r:Bool}(h:lc e=some r):CC Pg GE 100 [.agg (af e)] (.bool r) []:=by
 have p2:=fun{sc F} (r:PS sc F)=>se (dM e)<|sv (ei e)<|sv (ej e)<|r
 rcases aN h with⟨c1,h⟩|⟨c1,h⟩
 ·obtain rfl:=lf h
  have z:=p2<|sg 4 c1<|en (aI (rP (.bool true))<|trivial)
  exact cH Tz call100 func100 (c:=TW) rfl (aI (az e) trivial) z<|by kernel_rfl
 ·obtain rfl:=lf h
  have z:=p2<|sg 4 c1<|sv (ei e)<|sv (ej e)<|en (aI (rP (.bool (e.Op==5)))<|trivial)
  exact cH Tz call100 func100 (c:=TW) rfl (aI (az e) trivial) z<|by kernel_rfl
noncomputable def Rg:Code:=f131.body.getD .skip
def Pj:List Nat:=[10,17]
section
variable(s:waA)(v:ae)(t7:Int)(t8:Int)
def jl:aA:=bg 19 [(0,sl cS s),(1,.str v),(7,.int .i64 t7),(8,.int .i64 t8)] [] []
def jm(o:Int⊕(Unit)):Exit:=match o with
 |(.inl _)=>.ret
 |(.inr _)=>.exit 0
def gN(o:Int⊕(Unit)):aA:=match o with
 |(.inl o)=>bg 19 [(4,.int .i64 o)] [] []
 |(.inr o)=>bg 19 [] [] []
def uO:Option (Int⊕(Int⊕(Unit))):=
 if(decide (t8<t7))=true then
  (fJ s t8).bind fun x2=>
  if(v==x2)=true then
   some (.inr (.inl t8))
  else
   some (.inl (ca (t8+1)))
 else
  some (.inr (.inr ()))
def xU:Option (Int⊕(Unit)):=loop (fun(zz:Int)=>uO s v t7 zz) t8
theorem AT{y:Int⊕(Int⊕(Unit))}(h:uO s v t7 t8=some y):aQ Pg GE 0 (cA Rg 55) (LQ (fun(zz:Int)=>jl s v t7 zz) jm gN y) (jl s v t7 t8):=by
 rcases aN h with⟨c1,h⟩|⟨c1,h⟩
 ·obtain⟨x2,bx2,h⟩:=aG h
  have p4:=fun{sc F} (r:PS sc F)=>sg 0 c1<|sv (eu.ia (k:=.i64) bx2)<|sv (de GB (.str x2) [])<|r
  rcases aN h with⟨c3,h⟩|⟨c3,h⟩
  ·obtain rfl:=lf h
   have z:=p4<|sg 0 c3<|eF (jm (.inl t8)) (gN (.inl t8))
   exact iI Pj (by intro hx;cases hx) z<|by kernel_rfl
  ·obtain rfl:=lf h
   exact yz Pj (p4<|sg 0 c3<|eF .normal (jl s v t7 (ca (t8+1))))<|by kernel_rfl
 ·obtain rfl:=lf h
  have z:=sg 0 c1<|eF (jm (.inr ())) (gN (.inr ()))
  exact iI Pj (by intro hx;cases hx) z<|by kernel_rfl
theorem tI{x:Int⊕(Unit)}(h:xU s v t7 t8=some x):aQ Pg GE 0 (.loop (cA Rg 55)) (EX (jm x) (gN x)) (jl s v t7 t8):=
 aQ.loop (S:=fun(zz:Int)=>jl s v t7 zz) (ex:=jm) (s:=t8) h fun zz y hy=>AT s v t7 zz hy
end
def DR(s:waA)(v:ae):Option Int:=
 (xU s v (s.length:Int) 0).bind fun o5=>match o5 with
 |(.inl o5)=>
  some o5
 |(.inr o5)=>
  some (-1)
theorem Gg{s:waA}{v:ae}{r:Int}(h:DR s v=some r):CC Pg GE 131 [sl cS s,.str v] (.int .i64 r) []:=by
 obtain⟨o5,bo5,h⟩:=aG h
 rcases o5 with o5|o5
 ·obtain rfl:=lf h
  have z:=bU (eu.ln s)<|cY (e:=.ret) (s1:=gN (.inl o5)) (tI s v (s.length:Int) 0 bo5)<|en (aI (rP (.int .i64 o5))<|trivial)
  exact cH Pj call131 func131 (c:=Rg) rfl (aI (am bO s) (aI trivial trivial)) z<|by kernel_rfl
 ·obtain rfl:=lf h
  have z:=bU (eu.ln s)<|cY (e:=.exit 0) (s1:=gN (.inr o5)) (tI s v (s.length:Int) 0 bo5)<|en (aI (rP (.int .i64 (-1)))<|trivial)
  exact cH Pj call131 func131 (c:=Rg) rfl (aI (am bO s) (aI trivial trivial)) z<|by kernel_rfl
noncomputable def WS:Code:=f94.body.getD .skip
def WD:List Nat:=[]
def Ht(a:waA)(s:ae):Option Int:=
 (DR a s).bind fun r1=>
 some r1
theorem IL{a:waA}{s:ae}{r:Int}(h:Ht a s=some r):CC Pg GE 94 [sl cS a,.str s] (.int .i64 r) []:=by
 obtain⟨r1,br1,h⟩:=aG h
 obtain rfl:=lf h
 have z:=du (Gg br1)<|en (aI (rP (.int .i64 r1))<|trivial)
 exact cH WD call94 func94 (c:=WS) rfl (aI (am bO a) (aI trivial trivial)) z<|by kernel_rfl
noncomputable def WR:Code:=f80.body.getD .skip
def WC:List Nat:=[]
def BF(a:ag)(k2:(List (ae×Bool))):Option ((List (ae×Bool))):=
 (j7 ([a.Name]:List ae) k2).bind fun r1=>
 some r1
theorem EW{a:ag}{k2:(List (ae×Bool))}{r:(List (ae×Bool))}(h:BF a k2=some r):C Pg GE 80 [.agg (af a),.bptr 0 0] [] [.cells [.bptr 1 0] [],.cells [.mapr 2] [],.map (aP PVal.bool k2)] (.tuple []) [] [.cells [.bptr 1 0] [],.cells [.mapr 2] [],.map (aP PVal.bool r)]:=by
 obtain⟨r1,br1,h⟩:=aG h
 obtain rfl:=lf h
 have z:=se (dM a)<|ss<|sv (fg a)<|sv (gj a)<|sv (eu.mk' (v:=PVal.str) Mj ([a.Name]:List ae) 1 (by kernel_rfl))<|si (.cg ⟨[1,2],[.bptr 0 0,sl cS ([a.Name]:List ae)],[],[.cells [.mapr 2] [],.map (aP PVal.bool k2)],[.cells [.mapr 1] [],.map (aP PVal.bool k2)],[.cells [.mapr 2] [],.map (aP PVal.bool r1)],[.cells [.mapr 1] [],.map (aP PVal.bool r1)],.tuple [],.tuple [],[]⟩) (jr br1)<|sf (aI (xB [1,2] 0 1 0 rfl) (aI (xR [1,2] (sl cS ([a.Name]:List ae)) (am bO ([a.Name]:List ae))) trivial))<|sf (aI (aI (rB (.cells [.mapr 2] [])) (aI (rW []) (aI (xM [1,2] 1 2 rfl) trivial))) (aI (aI (rB (.map (aP PVal.bool k2))) (aI (rM (aP PVal.bool k2)) (s4 (n:=0) PVal.bool (fun x=>trivial) k2))) trivial))<|sf (aI (aI (rW []) (aI (xM [1,2] 1 2 rfl) trivial)) (aI (aI (rM (aP PVal.bool r1)) (s4 (n:=0) PVal.bool (fun x=>trivial) r1)) trivial))<|sf (xR [1,2] (.tuple []) trivial)<|en (aI (rP (.tuple []))<|aI trivial<|aI (rL [.cells [.bptr 1 0] [],.cells [.mapr 2] [],.map (aP PVal.bool r1)])<|(aI (aI (bh (i:=1) (n:=3) rfl) trivial) (aI (aI (bh (i:=2) (n:=3) rfl) trivial) (aI (s4 (n:=3) PVal.bool (fun x=>trivial) r1) trivial))))
 exact C.evGp (A:=WC) mixed (m:=3) (c:=WR) rfl call80 func80 rfl z<|by kernel_rfl
noncomputable def SI:Code:=f101.body.getD .skip
def Su:List Nat:=[12,18]
section
variable(t6:waG)(t7:Int)(out:waA)(t8:Int)
def jp:aA:=bg 19 [(3,sl cS out),(6,sl av t6),(7,.int .i64 t7),(8,.int .i64 t8)] [] [((3,0),9)]
def pJ(o:waA):aA:=bg 19 [(3,sl cS o)] [] [((3,0),9)]
def uW:Option ((waA×Int)⊕(waA)):=
 if(decide (t8<t7))=true then
  (fJ t6 t8).bind fun x2=>
  (app out ([x2.Name]:List ae)).bind fun l3=>
  some (.inl (l3,ca (t8+1)))
 else
  some (.inr out)
def ya:Option waA:=loop (fun(zz:waA×Int)=>uW t6 t7 zz.1 zz.2) (out,t8)
theorem AX{y:(waA×Int)⊕(waA)}(h:uW t6 t7 out t8=some y):aQ Pg GE 0 (cA SI 119) (LQ (fun(zz:waA×Int)=>jp t6 t7 zz.1 zz.2) (fun _=>.exit 0) pJ y) (jp t6 t7 out t8):=by
 rcases aN h with⟨c1,h⟩|⟨c1,h⟩
 ·obtain⟨x2,bx2,h⟩:=aG h
  obtain⟨l3,bl3,h⟩:=aG h
  obtain rfl:=lf h
  have z:=sg 0 c1<|sv (lT.ia (k:=.i64) bx2)<|sv (As x2)<|sx OY<|sx (mi x2)<|ss<|sv (eu.mk' (v:=PVal.str) Mj ([x2.Name]:List ae) 1 (by kernel_rfl))<|sv (eu.ap bl3)<|rx 0 .normal (jp t6 t7 l3 (ca (t8+1))) rfl (dv (aI (up (am bO l3)) (aI (up (am ba t6)) (aI trivial (aI trivial trivial))))) trivial
  exact d4 (A:=Su) mixed z<|by kernel_rfl
 ·obtain rfl:=lf h
  have z:=sg 0 c1<|eF (.exit 0) (pJ out)
  exact iI Su (by intro hx;cases hx) z<|by kernel_rfl
theorem CB{x:waA}(h:ya t6 t7 out t8=some x):aQ Pg GE 0 (.loop (cA SI 119)) (EX (.exit 0) (pJ x)) (jp t6 t7 out t8):=
 aQ.loop (S:=fun(zz:waA×Int)=>jp t6 t7 zz.1 zz.2) (ex:=(fun _=>.exit 0)) (s:=(out,t8)) h fun zz y hy=>AX t6 t7 zz.1 zz.2 hy
end
def pI(a:waG):Option waA:=
 (ya a (a.length:Int) ([]:List ae) 0).bind fun o4=>
 some o4
theorem od{a:waG}{r:waA}(h:pI a=some r):CC Pg GE 101 [sl av a] (sl cS r) [(0,9)]:=by
 obtain⟨o4,bo4,h⟩:=aG h
 obtain rfl:=lf h
 have z:=bU (lT.ln a)<|cY (CB a (a.length:Int) ([]:List ae) 0 bo4)<|en (aI (rP (sl cS o4))<|(am bO o4))
 exact cH Su call101 func101 (c:=SI) rfl (aI (am ba a) trivial) z<|by kernel_rfl
noncomputable def Rf:Code:=f126.body.getD .skip
def Ph:List Nat:=[]
section
variable(kid:Int)(e:ag)
def CG:aA:=bg 23 [(1,.int .i64 kid),(2,.eptr (af e))] [.dead] []
def oz(o:Bool):aA:=bg 23 [(2,.eptr (af e)),(5,.bool o)] [.dead] []
def ww:Option Bool:=
 if(e.Op==7)=true then
  some (decide (kid>0))
 else
  some false
theorem A5{x:Bool}(h:ww kid e=some x):aQ Pg GE 0 (cA Rf 26) (EX .normal (oz e x)) (CG kid e):=by
 have p2:=fun{sc F} (r:PS sc F)=>sv (ei e)<|sv (ej e)<|r
 rcases aN h with⟨c1,h⟩|⟨c1,h⟩
 ·obtain rfl:=lf h
  exact bA Ph (p2<|sg 4 c1<|eF .normal (oz e (decide (kid>0))))<|by kernel_rfl
 ·obtain rfl:=lf h
  exact bA Ph (p2<|sg 4 c1<|eF .normal (oz e false))<|by kernel_rfl
end
def BI(e:ag)(kid:Int):Option waA:=
 (ww kid e).bind fun o3=>
 if o3=true then
  some ([e.Name]:List ae)
 else
  if(e.Op==6)=true then
   (pI e.Params).bind fun r8=>
   some r8
  else
   some ([]:List ae)
theorem E0{e:ag}{kid:Int}{r:waA}(h:BI e kid=some r):CC Pg GE 126 [.agg (af e),.int .i64 kid] (sl cS r) [(0,9)]:=by
 obtain⟨o3,bo3,h⟩:=aG h
 have p5:=fun{sc F} (r:PS sc F)=>se (dM e)<|qk 1<|cY (A5 kid e bo3)<|r
 rcases aN h with⟨c4,h⟩|⟨c4,h⟩
 ·obtain rfl:=lf h
  have z:=p5<|sg 0 c4<|sv (fg e)<|sv (gj e)<|sv (eu.mk' (v:=PVal.str) Mj ([e.Name]:List ae) 1 (by kernel_rfl))<|en (aI (rP (sl cS ([e.Name]:List ae)))<|(am bO ([e.Name]:List ae)))
  exact cH Ph call126 func126 (c:=Rf) rfl (aI (az e) (aI trivial trivial)) z<|by kernel_rfl
 ·have p7:=fun{sc F} (r:PS sc F)=>p5<|sg 0 c4<|sv (ei e)<|sv (ej e)<|r
  rcases aN h with⟨c6,h⟩|⟨c6,h⟩
  ·obtain⟨r8,br8,h⟩:=aG h
   obtain rfl:=lf h
   have z:=p7<|sg 0 c6<|sv (bM e)<|sv (bN e)<|du (od br8)<|en (aI (rP (sl cS r8))<|(am bO r8))
   exact cH Ph call126 func126 (c:=Rf) rfl (aI (az e) (aI trivial trivial)) z<|by kernel_rfl
  ·obtain rfl:=lf h
   have z:=p7<|sg 0 c6<|en (aI (rP (sl cS ([]:List ae)))<|(am bO ([]:List ae)))
   exact cH Ph call126 func126 (c:=Rf) rfl (aI (az e) (aI trivial trivial)) z<|by kernel_rfl
noncomputable def SN:Code:=f79.body.getD .skip
def Q5:List Nat:=[27]
section
variable(hidden:waA)(e:ag)(m2:(List (ae×Bool)))
def qK:aA:=bg 57 [(1,sl cS hidden),(2,.func (.func 80) [] [.bptr 0 0]),(3,.eptr (af e))] [.cells [.bptr 1 0] [],.cells [.mapr 2] [],.map (aP PVal.bool m2),.dead] []
def gb(o:Bool):aA:=bg 57 [(1,sl cS hidden),(2,.func (.func 80) [] [.bptr 0 0]),(3,.eptr (af e)),(18,.bool o)] [.cells [.bptr 1 0] [],.cells [.mapr 2] [],.map (aP PVal.bool m2),.dead] []
def kZ:Option Bool:=
 (lc e).bind fun r1=>
 if r1=true then
  (Ht hidden e.Name).bind fun r4=>
  some (decide (r4<0))
 else
  some false
theorem qb{x:Bool}(h:kZ hidden e=some x):aQ Pg GE 3 (cA SN 12) (EX .normal (gb hidden e m2 x)) (qK hidden e m2):=by
 obtain⟨r1,br1,h⟩:=aG h
 have p3:=fun{sc F} (r:PS sc F)=>sv (cu e)<|du (kp br1)<|r
 rcases aN h with⟨c2,h⟩|⟨c2,h⟩
 ·obtain⟨r4,br4,h⟩:=aG h
  obtain rfl:=lf h
  exact bA Q5 (p3<|sg 3 c2<|sv (fg e)<|sv (gj e)<|du (IL br4)<|eF .normal (gb hidden e m2 (decide (r4<0))))<|by kernel_rfl
 ·obtain rfl:=lf h
  exact bA Q5 (p3<|sg 3 c2<|eF .normal (gb hidden e m2 false))<|by kernel_rfl
end
section
variable(hidden:waA)(e:ag)(m2:(List (ae×Bool)))
def qJ:aA:=bg 57 [(1,sl cS hidden),(2,.func (.func 80) [] [.bptr 0 0]),(3,.eptr (af e))] [.cells [.bptr 1 0] [],.cells [.mapr 2] [],.map (aP PVal.bool m2),.dead] []
def ga(o:(List (ae×Bool))):aA:=bg 57 [(1,sl cS hidden),(2,.func (.func 80) [] [.bptr 0 0]),(3,.eptr (af e))] [.cells [.bptr 1 0] [],.cells [.mapr 2] [],.map (aP PVal.bool o),.dead] []
def kY:Option (((List (ae×Bool)))):=
 (kZ hidden e).bind fun o5=>
 if o5=true then
  (BF e m2).bind fun r8=>
  some r8
 else
  some m2
theorem qa{x:((List (ae×Bool)))}(h:kY hidden e m2=some x):aQ Pg GE 3 (cA SN 6) (EX .normal (ga hidden e x)) (qJ hidden e m2):=by
 obtain⟨o5,bo5,h⟩:=aG h
 have p7:=fun{sc F} (r:PS sc F)=>qk 0<|cY (qb hidden e m2 bo5)<|r
 rcases aN h with⟨c6,h⟩|⟨c6,h⟩
 ·obtain⟨r8,br8,h⟩:=aG h
  obtain rfl:=lf h
  exact bA Q5 (p7<|sg 0 c6<|sv (cu e)<|si (.cg ⟨[0,1,2],[.agg (af e),.bptr 0 0],[],[.cells [.bptr 1 0] [],.cells [.mapr 2] [],.map (aP PVal.bool m2)],[.cells [.bptr 1 0] [],.cells [.mapr 2] [],.map (aP PVal.bool m2)],[.cells [.bptr 1 0] [],.cells [.mapr 2] [],.map (aP PVal.bool r8)],[.cells [.bptr 1 0] [],.cells [.mapr 2] [],.map (aP PVal.bool r8)],.tuple [],.tuple [],[]⟩) (EW br8)<|sf (aI (xR [0,1,2] (.agg (af e)) (az e)) (aI (xB [0,1,2] 0 0 0 rfl) trivial))<|sf (aI (aI (rB (.cells [.bptr 1 0] [])) (aI (rW []) (aI (xB [0,1,2] 1 1 0 rfl) trivial))) (aI (aI (rB (.cells [.mapr 2] [])) (aI (rW []) (aI (xM [0,1,2] 2 2 rfl) trivial))) (aI (aI (rB (.map (aP PVal.bool m2))) (aI (rM (aP PVal.bool m2)) (s4 (n:=0) PVal.bool (fun x=>trivial) m2))) trivial)))<|sf (aI (aI (rW []) (aI (xB [0,1,2] 1 1 0 rfl) trivial)) (aI (aI (rW []) (aI (xM [0,1,2] 2 2 rfl) trivial)) (aI (aI (rM (aP PVal.bool r8)) (s4 (n:=0) PVal.bool (fun x=>trivial) r8)) trivial)))<|sf (xR [0,1,2] (.tuple []) trivial)<|eF .normal (ga hidden e r8))<|by kernel_rfl
 ·obtain rfl:=lf h
  exact bA Q5 (p7<|sg 0 c6<|eF .normal (ga hidden e m2))<|by kernel_rfl
end
section
variable(R14:dX)(hidden:waA)(e:ag)(t23:waH)(t24:Int)(t25:Int)(m2:(List (ae×Bool)))
def dl:aA:=bg 57 [(1,sl cS hidden),(2,.func (.func 80) [] [.bptr 0 0]),(3,.eptr (af e)),(23,sl af t23),(24,.int .i64 t24),(25,.int .i64 t25)] [.cells [.bptr 1 0] [],.cells [.mapr 2] [],.map (aP PVal.bool m2),.dead] []
def gd(o:(List (ae×Bool))):aA:=bg 57 [(1,sl cS hidden),(2,.func (.func 80) [] [.bptr 0 0]),(3,.eptr (af e))] [.cells [.bptr 1 0] [],.cells [.mapr 2] [],.map (aP PVal.bool o),.dead] []
def j5:Option ((Int×(List (ae×Bool)))⊕(((List (ae×Bool))))):=
 if(decide (t25<t24))=true then
  (fJ t23 t25).bind fun x11=>
  (rE hidden).bind fun r12=>
  (BI e t25).bind fun r13=>
  (app r12 r13).bind fun l14=>
  (R14 x11 l14 m2).bind fun r15=>
  some (.inl (ca (t25+1),r15))
 else
  some (.inr m2)
def la:Option (((List (ae×Bool)))):=loop (fun(zz:Int×(List (ae×Bool)))=>j5 R14 hidden e t23 t24 zz.1 zz.2) (t25,m2)
theorem pP(hR14:dV R14){y:(Int×(List (ae×Bool)))⊕(((List (ae×Bool))))}(h:j5 R14 hidden e t23 t24 t25 m2=some y):aQ Pg GE 3 (cA SN 119) (LQ (fun(zz:Int×(List (ae×Bool)))=>dl hidden e t23 t24 zz.1 zz.2) (fun _=>.exit 0) (gd hidden e) y) (dl hidden e t23 t24 t25 m2):=by
 rcases aN h with⟨c10,h⟩|⟨c10,h⟩
 ·obtain⟨x11,bx11,h⟩:=aG h
  obtain⟨r12,br12,h⟩:=aG h
  obtain⟨r13,br13,h⟩:=aG h
  obtain⟨l14,bl14,h⟩:=aG h
  obtain⟨r15,br15,h⟩:=aG h
  obtain rfl:=lf h
  have z:=sg 0 c10<|sv (iJ.ia (k:=.i64) bx11)<|sv (cu x11)<|sx yx<|sx (ly x11)<|sk<|UP (.dx [0,0,2,0,0,30,62,0] [] [] [])<|sv (b8 x11 [])<|du (zg br12)<|sv (cu e)<|du (E0 br13)<|sv (eu.ap bl14)<|si (.cg ⟨[0,1,2],[.agg (af x11),sl cS l14,.func (.func 80) [] [.bptr 0 0]],[],[.cells [.bptr 1 0] [],.cells [.mapr 2] [],.map (aP PVal.bool m2)],[.cells [.bptr 1 0] [],.cells [.mapr 2] [],.map (aP PVal.bool m2)],[.cells [.bptr 1 0] [],.cells [.mapr 2] [],.map (aP PVal.bool r15)],[.cells [.bptr 1 0] [],.cells [.mapr 2] [],.map (aP PVal.bool r15)],.tuple [],.tuple [],[]⟩) (hR14 _ _ _ _ br15)<|sf (aI (xR [0,1,2] (.agg (af x11)) (az x11)) (aI (xR [0,1,2] (sl cS l14) (am bO l14)) (aI (xF [0,1,2] (.func 80) [] [.bptr 0 0] [] [.bptr 0 0] trivial (aI (xB [0,1,2] 0 0 0 rfl) trivial)) trivial)))<|sf (aI (aI (rB (.cells [.bptr 1 0] [])) (aI (rW []) (aI (xB [0,1,2] 1 1 0 rfl) trivial))) (aI (aI (rB (.cells [.mapr 2] [])) (aI (rW []) (aI (xM [0,1,2] 2 2 rfl) trivial))) (aI (aI (rB (.map (aP PVal.bool m2))) (aI (rM (aP PVal.bool m2)) (s4 (n:=0) PVal.bool (fun x=>trivial) m2))) trivial)))<|sf (aI (aI (rW []) (aI (xB [0,1,2] 1 1 0 rfl) trivial)) (aI (aI (rW []) (aI (xM [0,1,2] 2 2 rfl) trivial)) (aI (aI (rM (aP PVal.bool r15)) (s4 (n:=0) PVal.bool (fun x=>trivial) r15)) trivial)))<|sf (xR [0,1,2] (.tuple []) trivial)<|rx 3 .normal (dl hidden e t23 t24 (ca (t25+1)) r15) rfl (dv (aI (up (am bO hidden)) (aI (aI trivial (aI (bh rfl) trivial)) (aI (bk (az e)) (aI (up (am az t23)) (aI trivial (aI trivial trivial))))))) (aI (aI (bh rfl) trivial) (aI (aI (bh rfl) trivial) (aI (s4 PVal.bool (fun x=>trivial) r15) (aI trivial trivial))))
  exact d4 (A:=Q5) mixed z<|by kernel_rfl
 ·obtain rfl:=lf h
  have z:=sg 0 c10<|eF (.exit 0) (gd hidden e m2)
  exact iI Q5 (by intro hx;cases hx) z<|by kernel_rfl
theorem qc(hR14:dV R14){x:((List (ae×Bool)))}(h:la R14 hidden e t23 t24 t25 m2=some x):aQ Pg GE 3 (.loop (cA SN 119)) (EX (.exit 0) (gd hidden e x)) (dl hidden e t23 t24 t25 m2):=
 aQ.loop (S:=fun(zz:Int×(List (ae×Bool)))=>dl hidden e t23 t24 zz.1 zz.2) (ex:=(fun _=>.exit 0)) (s:=(t25,m2)) h fun zz y hy=>pP R14 hidden e t23 t24 zz.1 zz.2 hR14 hy
end
section
variable(R14:dX)(hidden:waA)(t41:waD)(t42:Int)(t43:Int)(m2:(List (ae×Bool)))
def dm:aA:=bg 57 [(1,sl cS hidden),(2,.func (.func 80) [] [.bptr 0 0]),(41,sl ay t41),(42,.int .i64 t42),(43,.int .i64 t43)] [.cells [.bptr 1 0] [],.cells [.mapr 2] [],.map (aP PVal.bool m2),.dead] []
def gf(o:(List (ae×Bool))):aA:=bg 57 [] [.cells [.bptr 1 0] [],.cells [.mapr 2] [],.map (aP PVal.bool o),.dead] []
def j6:Option ((Int×(List (ae×Bool)))⊕(((List (ae×Bool))))):=
 if(decide (t43<t42))=true then
  (fJ t41 t43).bind fun x18=>
  (rE hidden).bind fun r19=>
  (app r19 x18.Names).bind fun l20=>
  (R14 x18.Body l20 m2).bind fun r21=>
  some (.inl (ca (t43+1),r21))
 else
  some (.inr m2)
def lb:Option (((List (ae×Bool)))):=loop (fun(zz:Int×(List (ae×Bool)))=>j6 R14 hidden t41 t42 zz.1 zz.2) (t43,m2)
theorem pQ(hR14:dV R14){y:(Int×(List (ae×Bool)))⊕(((List (ae×Bool))))}(h:j6 R14 hidden t41 t42 t43 m2=some y):aQ Pg GE 3 (cA SN 127) (LQ (fun(zz:Int×(List (ae×Bool)))=>dm hidden t41 t42 zz.1 zz.2) (fun _=>.exit 2) gf y) (dm hidden t41 t42 t43 m2):=by
 rcases aN h with⟨c17,h⟩|⟨c17,h⟩
 ·obtain⟨x18,bx18,h⟩:=aG h
  obtain⟨r19,br19,h⟩:=aG h
  obtain⟨l20,bl20,h⟩:=aG h
  obtain⟨r21,br21,h⟩:=aG h
  obtain rfl:=lf h
  have z:=sg 0 c17<|sv (fo.ia (k:=.i64) bx18)<|sv (mF x18)<|sx Gd<|sx (ji x18)<|sk<|UP (.dx [0,1,0,4,0,16,60,0] [] [] [])<|sv (b8 x18.Body [])<|du (zg br19)<|ss<|sv (eu.ap bl20)<|si (.cg ⟨[0,1,2],[.agg (af x18.Body),sl cS l20,.func (.func 80) [] [.bptr 0 0]],[],[.cells [.bptr 1 0] [],.cells [.mapr 2] [],.map (aP PVal.bool m2)],[.cells [.bptr 1 0] [],.cells [.mapr 2] [],.map (aP PVal.bool m2)],[.cells [.bptr 1 0] [],.cells [.mapr 2] [],.map (aP PVal.bool r21)],[.cells [.bptr 1 0] [],.cells [.mapr 2] [],.map (aP PVal.bool r21)],.tuple [],.tuple [],[]⟩) (hR14 _ _ _ _ br21)<|sf (aI (xR [0,1,2] (.agg (af x18.Body)) (az x18.Body)) (aI (xR [0,1,2] (sl cS l20) (am bO l20)) (aI (xF [0,1,2] (.func 80) [] [.bptr 0 0] [] [.bptr 0 0] trivial (aI (xB [0,1,2] 0 0 0 rfl) trivial)) trivial)))<|sf (aI (aI (rB (.cells [.bptr 1 0] [])) (aI (rW []) (aI (xB [0,1,2] 1 1 0 rfl) trivial))) (aI (aI (rB (.cells [.mapr 2] [])) (aI (rW []) (aI (xM [0,1,2] 2 2 rfl) trivial))) (aI (aI (rB (.map (aP PVal.bool m2))) (aI (rM (aP PVal.bool m2)) (s4 (n:=0) PVal.bool (fun x=>trivial) m2))) trivial)))<|sf (aI (aI (rW []) (aI (xB [0,1,2] 1 1 0 rfl) trivial)) (aI (aI (rW []) (aI (xM [0,1,2] 2 2 rfl) trivial)) (aI (aI (rM (aP PVal.bool r21)) (s4 (n:=0) PVal.bool (fun x=>trivial) r21)) trivial)))<|sf (xR [0,1,2] (.tuple []) trivial)<|rx 3 .normal (dm hidden t41 t42 (ca (t43+1)) r21) rfl (dv (aI (up (am bO hidden)) (aI (aI trivial (aI (bh rfl) trivial)) (aI (up (am bL t41)) (aI trivial (aI trivial trivial)))))) (aI (aI (bh rfl) trivial) (aI (aI (bh rfl) trivial) (aI (s4 PVal.bool (fun x=>trivial) r21) (aI trivial trivial))))
  exact d4 (A:=Q5) mixed z<|by kernel_rfl
 ·obtain rfl:=lf h
  have z:=sg 0 c17<|eF (.exit 2) (gf m2)
  exact iI Q5 (by intro hx;cases hx) z<|by kernel_rfl
theorem qd(hR14:dV R14){x:((List (ae×Bool)))}(h:lb R14 hidden t41 t42 t43 m2=some x):aQ Pg GE 3 (.loop (cA SN 127)) (EX (.exit 2) (gf x)) (dm hidden t41 t42 t43 m2):=
 aQ.loop (S:=fun(zz:Int×(List (ae×Bool)))=>dm hidden t41 t42 zz.1 zz.2) (ex:=(fun _=>.exit 2)) (s:=(t43,m2)) h fun zz y hy=>pQ R14 hidden t41 t42 zz.1 zz.2 hR14 hy
end
def lO(R14:dX)(e:ag)(hidden:waA)(k2:(List (ae×Bool))):Option ((List (ae×Bool))):=
 (kY hidden e k2).bind fun o9=>
 (la R14 hidden e e.Kids (e.Kids.length:Int) 0 o9).bind fun o16=>
 (lb R14 hidden e.Alts (e.Alts.length:Int) 0 o16).bind fun o22=>
 some o22
theorem ru(R14:dX)(hR14:dV R14){e:ag}{hidden:waA}{k2:(List (ae×Bool))}{r:(List (ae×Bool))}(h:lO R14 e hidden k2=some r):C Pg GE 79 [.agg (af e),sl cS hidden,.func (.func 80) [] [.bptr 0 0]] [] [.cells [.bptr 1 0] [],.cells [.mapr 2] [],.map (aP PVal.bool k2)] (.tuple []) [] [.cells [.bptr 1 0] [],.cells [.mapr 2] [],.map (aP PVal.bool r)]:=by
 obtain⟨o9,bo9,h⟩:=aG h
 obtain⟨o16,bo16,h⟩:=aG h
 obtain⟨o22,bo22,h⟩:=aG h
 obtain rfl:=lf h
 have z:=se (dM e)<|qk 0<|cY (qa hidden e k2 bo9)<|sv (bu e)<|sv (bv e)<|bU (iJ.ln e.Kids)<|cY (qc R14 hidden e e.Kids (e.Kids.length:Int) 0 o9 hR14 bo16)<|sv (aH e)<|sv (aJ e)<|bU (fo.ln e.Alts)<|cY (qd R14 hidden e.Alts (e.Alts.length:Int) 0 o16 hR14 bo22)<|en (aI (rP (.tuple []))<|aI trivial<|aI (rL [.cells [.bptr 1 0] [],.cells [.mapr 2] [],.map (aP PVal.bool o22)])<|(aI (aI (bh (i:=1) (n:=3) rfl) trivial) (aI (aI (bh (i:=2) (n:=3) rfl) trivial) (aI (s4 (n:=3) PVal.bool (fun x=>trivial) o22) trivial))))
 exact C.evGp (A:=Q5) mixed (m:=3) (c:=SN) rfl call79 func79 rfl z<|by kernel_rfl
def lP:((ag×waA×(List (ae×Bool)))->Option ((List (ae×Bool))))->(ag×waA×(List (ae×Bool)))->Option ((List (ae×Bool))):=fun(rec:(ag×waA×(List (ae×Bool)))->Option ((List (ae×Bool)))) (x:ag×waA×(List (ae×Bool)))=>lO (fun e hidden k2=>rec (e,hidden,k2)) x.1 x.2.1 x.2.2
def mS(e:ag)(hidden:waA)(k2:(List (ae×Bool))):Option ((List (ae×Bool))):=uc lP (e,hidden,k2)
theorem rN{e:ag}{hidden:waA}{k2:(List (ae×Bool))}{r:(List (ae×Bool))}(h:mS e hidden k2=some r):C Pg GE 79 [.agg (af e),sl cS hidden,.func (.func 80) [] [.bptr 0 0]] [] [.cells [.bptr 1 0] [],.cells [.mapr 2] [],.map (aP PVal.bool k2)] (.tuple []) [] [.cells [.bptr 1 0] [],.cells [.mapr 2] [],.map (aP PVal.bool r)]:=
 fk (F:=lP) (M:=fun(x:ag×waA×(List (ae×Bool))) (r:(List (ae×Bool)))=>C Pg GE 79 [.agg (af x.1),sl cS x.2.1,.func (.func 80) [] [.bptr 0 0]] [] [.cells [.bptr 1 0] [],.cells [.mapr 2] [],.map (aP PVal.bool x.2.2)] (.tuple []) [] [.cells [.bptr 1 0] [],.cells [.mapr 2] [],.map (aP PVal.bool r)]) (fun rec hrec x r h=>ru _ (fun e hidden k2 r h=>hrec (e,hidden,k2) r h) h) h
noncomputable def WH:Code:=f24.body.getD .skip
def Ws:List Nat:=[]
def zQ(e:ag):Option waA:=
 (vJ ([]:List ae)).bind fun r1=>
 (mS e ([]:List ae) r1).bind fun r2=>
 (Cw r2).bind fun r3=>
 some r3
theorem zR{e:ag}{r:waA}(h:zQ e=some r):CC Pg GE 24 [.agg (af e)] (sl cS r) [(0,9)]:=by
 obtain⟨r1,br1,h⟩:=aG h
 obtain⟨r2,br2,h⟩:=aG h
 obtain⟨r3,br3,h⟩:=aG h
 obtain rfl:=lf h
 have z:=se (dM e)<|si (.cn ⟨[2,3],[],[],[],[],[.map (aP PVal.bool r1),.cells [.mapr 2] []],[.map (aP PVal.bool r1),.cells [.mapr 0] []],.bptr 3 0,.bptr 1 0,[]⟩) (wx br1)<|sf (aI (am bO ([]:List ae)) trivial)<|sf (aI (aI (rM (aP PVal.bool r1)) (s4 (n:=0) PVal.bool (fun x=>trivial) r1)) (aI (aI (rW []) (aI (xM [2,3] 0 2 rfl) trivial)) trivial))<|sf (xB [2,3] 1 3 0 rfl)<|sx UG<|ss<|sv (cu e)<|si (.cg ⟨[1,3,2],[.agg (af e),sl cS ([]:List ae),.func (.func 80) [] [.bptr 0 0]],[],[.cells [.bptr 3 0] [],.cells [.mapr 2] [],.map (aP PVal.bool r1)],[.cells [.bptr 1 0] [],.cells [.mapr 2] [],.map (aP PVal.bool r1)],[.cells [.bptr 3 0] [],.cells [.mapr 2] [],.map (aP PVal.bool r2)],[.cells [.bptr 1 0] [],.cells [.mapr 2] [],.map (aP PVal.bool r2)],.tuple [],.tuple [],[]⟩) (rN br2)<|sf (aI (xR [1,3,2] (.agg (af e)) (az e)) (aI (xR [1,3,2] (sl cS ([]:List ae)) (am bO ([]:List ae))) (aI (xF [1,3,2] (.func 80) [] [.bptr 1 0] [] [.bptr 0 0] trivial (aI (xB [1,3,2] 0 1 0 rfl) trivial)) trivial)))<|sf (aI (aI (rB (.cells [.bptr 3 0] [])) (aI (rW []) (aI (xB [1,3,2] 1 3 0 rfl) trivial))) (aI (aI (rB (.cells [.mapr 2] [])) (aI (rW []) (aI (xM [1,3,2] 2 2 rfl) trivial))) (aI (aI (rB (.map (aP PVal.bool r1))) (aI (rM (aP PVal.bool r1)) (s4 (n:=0) PVal.bool (fun x=>trivial) r1))) trivial)))<|sf (aI (aI (rW []) (aI (xB [1,3,2] 1 3 0 rfl) trivial)) (aI (aI (rW []) (aI (xM [1,3,2] 2 2 rfl) trivial)) (aI (aI (rM (aP PVal.bool r2)) (s4 (n:=0) PVal.bool (fun x=>trivial) r2)) trivial)))<|sf (xR [1,3,2] (.tuple []) trivial)<|ss<|si (.cg ⟨[3,2],[.bptr 0 0],[],[.cells [.mapr 2] [],.map (aP PVal.bool r2)],[.cells [.mapr 1] [],.map (aP PVal.bool r2)],[.cells [.mapr 2] [],.map (aP PVal.bool r2)],[.cells [.mapr 1] [],.map (aP PVal.bool r2)],sl cS r3,sl cS r3,[(0,9)]⟩) (BE br3)<|sf (aI (xB [3,2] 0 3 0 rfl) trivial)<|sf (aI (aI (rB (.cells [.mapr 2] [])) (aI (rW []) (aI (xM [3,2] 1 2 rfl) trivial))) (aI (aI (rB (.map (aP PVal.bool r2))) (aI (rM (aP PVal.bool r2)) (s4 (n:=0) PVal.bool (fun x=>trivial) r2))) trivial))<|sf (aI (aI (rW []) (aI (xM [3,2] 1 2 rfl) trivial)) (aI (aI (rM (aP PVal.bool r2)) (s4 (n:=0) PVal.bool (fun x=>trivial) r2)) trivial))<|sf (xR [3,2] (sl cS r3) (am bO r3))<|en (aI (rP (sl cS r3))<|(am bO r3))
 exact cH Ws call24 func24 (c:=WH) rfl (aI (az e) trivial) z<|by kernel_rfl
abbrev aX:=(ag->(List ac)->waA->Option (ag×waA))
abbrev bD(R:aX):Prop:=∀(e:ag) (scope:(List ac)) (k0:waA) (r:ag×waA),R e scope k0=some r->C Pg GE 56 [.agg [.func (.func 62) [] [.bptr 0 0],.func (.func 61) [] []],.agg (af e),sl aa scope] [] [.cells [sl cS k0] [(0,9)]] (.agg (af r.1)) [(3,28),(4,85),(5,89),(6,60)] [.cells [sl cS r.2] [(0,9)]]
abbrev d6:=(waC->Option waC)
abbrev gH(R:d6):Prop:=∀(a:waC) (r:waC),R a=some r->CC Pg GE 102 [sl ai a,.func (.func 103) [] []] (sl ai r) [(0,60)]
abbrev fX:=(aj->Option aj)
abbrev kg(R:fX):Prop:=∀(p:aj) (r:aj),R p=some r->CC Pg GE 135 [.agg (al p)] (.agg (al r)) [(3,58)]
noncomputable def SL:Code:=f136.body.getD .skip
def Sx:List Nat:=[14,21]
section
variable(R24:fX)(t8:waB)(t9:Int)(out:waB)(t10:Int)
def eb:aA:=bg 22 [(1,.func (.func 135) [] []),(5,sl al out),(8,sl al t8),(9,.int .i64 t9),(10,.int .i64 t10)] [] [((5,0),58)]
def iE(o:waB):aA:=bg 22 [(5,sl al o)] [] [((5,0),58)]
def ml:Option ((waB×Int)⊕(waB)):=
 if(decide (t10<t9))=true then
  (fJ t8 t10).bind fun x2=>
  (R24 x2).bind fun r3=>
  (app out ([r3]:List aj)).bind fun l4=>
  some (.inl (l4,ca (t10+1)))
 else
  some (.inr out)
def nK:Option waB:=loop (fun(zz:waB×Int)=>ml R24 t8 t9 zz.1 zz.2) (out,t10)
theorem rJ(hR24:kg R24){y:(waB×Int)⊕(waB)}(h:ml R24 t8 t9 out t10=some y):aQ Pg GE 0 (cA SL 119) (LQ (fun(zz:waB×Int)=>eb t8 t9 zz.1 zz.2) (fun _=>.exit 0) iE y) (eb t8 t9 out t10):=by
 rcases aN h with⟨c1,h⟩|⟨c1,h⟩
 ·obtain⟨x2,bx2,h⟩:=aG h
  obtain⟨r3,br3,h⟩:=aG h
  obtain⟨l4,bl4,h⟩:=aG h
  obtain rfl:=lf h
  have z:=sg 0 c1<|sv (nb.ia (k:=.i64) bx2)<|sv (pu x2)<|sx R0<|sx (Aw x2)<|sv (vV x2 [])<|du (hR24 _ _ br3)<|sv (nb.mk' (v:=KU) JA ([r3]:List aj) 1 (by kernel_rfl))<|sv (nb.ap bl4)<|rx 0 .normal (eb t8 t9 l4 (ca (t10+1))) rfl (dv (aI (aI trivial trivial) (aI (up (am aS l4)) (aI (up (am aS t8)) (aI trivial (aI trivial trivial)))))) trivial
  exact d4 (A:=Sx) mixed z<|by kernel_rfl
 ·obtain rfl:=lf h
  have z:=sg 0 c1<|eF (.exit 0) (iE out)
  exact iI Sx (by intro hx;cases hx) z<|by kernel_rfl
theorem sV(hR24:kg R24){x:waB}(h:nK R24 t8 t9 out t10=some x):aQ Pg GE 0 (.loop (cA SL 119)) (EX (.exit 0) (iE x)) (eb t8 t9 out t10):=
 aQ.loop (S:=fun(zz:waB×Int)=>eb t8 t9 zz.1 zz.2) (ex:=(fun _=>.exit 0)) (s:=(out,t10)) h fun zz y hy=>rJ R24 t8 t9 zz.1 zz.2 hR24 hy
end
def lC(R24:fX)(a:waB):Option waB:=
 (nK R24 a (a.length:Int) ([]:List aj) 0).bind fun o5=>
 some o5
theorem nM(R24:fX)(hR24:kg R24){a:waB}{r:waB}(h:lC R24 a=some r):CC Pg GE 136 [sl al a,.func (.func 135) [] []] (sl al r) [(0,58)]:=by
 obtain⟨o5,bo5,h⟩:=aG h
 obtain rfl:=lf h
 have z:=bU (nb.ln a)<|cY (sV R24 a (a.length:Int) ([]:List aj) 0 hR24 bo5)<|en (aI (rP (sl al o5))<|(am aS o5))
 exact cH Sx call136 func136 (c:=SL) rfl (aI (am aS a) (aI (aI trivial trivial) trivial)) z<|by kernel_rfl
noncomputable def Vo:Code:=f135.body.getD .skip
def U9:List Nat:=[]
def tQ(R24:fX)(p:aj):Option aj:=
 (lC R24 p.Kids).bind fun r1=>
 some (⟨p.Op,p.Name,p.N,r1⟩:aj)
theorem zV(R24:fX)(hR24:kg R24){p:aj}{r:aj}(h:tQ R24 p=some r):CC Pg GE 135 [.agg (al p)] (.agg (al r)) [(3,58)]:=by
 obtain⟨r1,br1,h⟩:=aG h
 obtain rfl:=lf h
 have z:=sx (Aw p)<|sx R0<|ss<|du (nM R24 hR24 br1)<|sz (vV (⟨p.Op,p.Name,p.N,r1⟩:aj) [])<|sy (cj (⟨p.Op,p.Name,p.N,r1⟩:aj))<|en (aI (O0 (⟨p.Op,p.Name,p.N,r1⟩:aj))<|aI (aS (⟨p.Op,p.Name,p.N,r1⟩:aj))<|rT)
 exact cH U9 call135 func135 (c:=Vo) rfl (aI (aS p) trivial) z<|by kernel_rfl
def tR:(aj->Option aj)->(aj)->Option aj:=fun(rec:aj->Option aj) (x:aj)=>tQ (fun p=>rec p) x
def mK(p:aj):Option aj:=uc tR p
theorem sq{p:aj}{r:aj}(h:mK p=some r):CC Pg GE 135 [.agg (al p)] (.agg (al r)) [(3,58)]:=
 fk (F:=tR) (M:=fun(x:aj) (r:aj)=>CC Pg GE 135 [.agg (al x)] (.agg (al r)) [(3,58)]) (fun rec hrec x r h=>zV _ (fun p r h=>hrec p r h) h) h
noncomputable def Vm:Code:=f103.body.getD .skip
def U7:List Nat:=[]
def mL(R22:d6)(t:ah):Option ah:=
 (R22 t.Args).bind fun r1=>
 (rE t.Names).bind fun r2=>
 (mK t.Pred).bind fun r3=>
 (lC mK t.Preds).bind fun r4=>
 some (⟨t.Op,t.Name,r1,r2,r3,r4⟩:ah)
theorem nf(R22:d6)(hR22:gH R22){t:ah}{r:ah}(h:mL R22 t=some r):CC Pg GE 103 [.agg (ai t)] (.agg (ai r)) [(2,60),(3,9),(7,58),(8,58)]:=by
 obtain⟨r1,br1,h⟩:=aG h
 obtain⟨r2,br2,h⟩:=aG h
 obtain⟨r3,br3,h⟩:=aG h
 obtain⟨r4,br4,h⟩:=aG h
 obtain rfl:=lf h
 have z:=sx (qB t)<|sx Na<|ss<|du (hR22 _ _ br1)<|ss<|du (zg br2)<|sv (vV t.Pred [sl al t.Preds])<|du (sq br3)<|sy (cj r3)<|ss<|du (nM mK (fun _ _ h=>sq h) br4)<|sz (jO (⟨t.Op,t.Name,r1,r2,r3,r4⟩:ah) [])<|sy (ct (⟨t.Op,t.Name,r1,r2,r3,r4⟩:ah))<|en (aI (O1 (⟨t.Op,t.Name,r1,r2,r3,r4⟩:ah))<|aI (aE (⟨t.Op,t.Name,r1,r2,r3,r4⟩:ah))<|rT)
 exact cH U7 call103 func103 (c:=Vm) rfl (aI (aE t) trivial) z<|by kernel_rfl
noncomputable def SJ:Code:=f102.body.getD .skip
def Sv:List Nat:=[14,21]
section
variable(R22:d6)(t8:waC)(t9:Int)(out:waC)(t10:Int)
def ec:aA:=bg 22 [(1,.func (.func 103) [] []),(5,sl ai out),(8,sl ai t8),(9,.int .i64 t9),(10,.int .i64 t10)] [] [((5,0),60)]
def iF(o:waC):aA:=bg 22 [(5,sl ai o)] [] [((5,0),60)]
def mm:Option ((waC×Int)⊕(waC)):=
 if(decide (t10<t9))=true then
  (fJ t8 t10).bind fun x2=>
  (mL R22 x2).bind fun r3=>
  (app out ([r3]:List ah)).bind fun l4=>
  some (.inl (l4,ca (t10+1)))
 else
  some (.inr out)
def nN:Option waC:=loop (fun(zz:waC×Int)=>mm R22 t8 t9 zz.1 zz.2) (out,t10)
theorem rK(hR22:gH R22){y:(waC×Int)⊕(waC)}(h:mm R22 t8 t9 out t10=some y):aQ Pg GE 0 (cA SJ 119) (LQ (fun(zz:waC×Int)=>ec t8 t9 zz.1 zz.2) (fun _=>.exit 0) iF y) (ec t8 t9 out t10):=by
 rcases aN h with⟨c1,h⟩|⟨c1,h⟩
 ·obtain⟨x2,bx2,h⟩:=aG h
  obtain⟨r3,br3,h⟩:=aG h
  obtain⟨l4,bl4,h⟩:=aG h
  obtain rfl:=lf h
  have z:=sg 0 c1<|sv (d5.ia (k:=.i64) bx2)<|sv (ku x2)<|sx Na<|sx (qB x2)<|sv (jO x2 [])<|du (nf R22 hR22 br3)<|sv (d5.mk' (v:=KV) JB ([r3]:List ah) 1 (by kernel_rfl))<|sv (d5.ap bl4)<|rx 0 .normal (ec t8 t9 l4 (ca (t10+1))) rfl (dv (aI (aI trivial trivial) (aI (up (am aE l4)) (aI (up (am aE t8)) (aI trivial (aI trivial trivial)))))) trivial
  exact d4 (A:=Sv) mixed z<|by kernel_rfl
 ·obtain rfl:=lf h
  have z:=sg 0 c1<|eF (.exit 0) (iF out)
  exact iI Sv (by intro hx;cases hx) z<|by kernel_rfl
theorem sW(hR22:gH R22){x:waC}(h:nN R22 t8 t9 out t10=some x):aQ Pg GE 0 (.loop (cA SJ 119)) (EX (.exit 0) (iF x)) (ec t8 t9 out t10):=
 aQ.loop (S:=fun(zz:waC×Int)=>ec t8 t9 zz.1 zz.2) (ex:=(fun _=>.exit 0)) (s:=(out,t10)) h fun zz y hy=>rK R22 t8 t9 zz.1 zz.2 hR22 hy
end
def oQ(R22:d6)(a:waC):Option waC:=
 (nN R22 a (a.length:Int) ([]:List ah) 0).bind fun o5=>
 some o5
theorem uj(R22:d6)(hR22:gH R22){a:waC}{r:waC}(h:oQ R22 a=some r):CC Pg GE 102 [sl ai a,.func (.func 103) [] []] (sl ai r) [(0,60)]:=by
 obtain⟨o5,bo5,h⟩:=aG h
 obtain rfl:=lf h
 have z:=bU (d5.ln a)<|cY (sW R22 a (a.length:Int) ([]:List ah) 0 hR22 bo5)<|en (aI (rP (sl ai o5))<|(am aE o5))
 exact cH Sv call102 func102 (c:=SJ) rfl (aI (am aE a) (aI (aI trivial trivial) trivial)) z<|by kernel_rfl
def oR:(waC->Option waC)->(waC)->Option waC:=fun(rec:waC->Option waC) (x:waC)=>oQ (fun a=>rec a) x
def dR(a:waC):Option waC:=uc oR a
theorem gm{a:waC}{r:waC}(h:dR a=some r):CC Pg GE 102 [sl ai a,.func (.func 103) [] []] (sl ai r) [(0,60)]:=
 fk (F:=oR) (M:=fun(x:waC) (r:waC)=>CC Pg GE 102 [sl ai x,.func (.func 103) [] []] (sl ai r) [(0,60)]) (fun rec hrec x r h=>uj _ (fun a r h=>hrec a r h) h) h
noncomputable def WM:Code:=f61.body.getD .skip
def Wx:List Nat:=[3]
def FB(s:ae):Option ae:=
 some s
theorem H5{s:ae}{r:ae}(h:FB s=some r):CC Pg GE 61 [.str s] (.str r) []:=by
 obtain rfl:=lf h
 have z:=en (aI (rP (.str s))<|trivial)
 exact cH Wx call61 func61 (c:=WM) rfl (aI trivial trivial) z<|by kernel_rfl
noncomputable def Tq:Code:=f52.body.getD .skip
def Tj:List Nat:=[24,35]
section
variable(base:ae)(t11:waA)(t12:Int)(t13:Int)(m0:(List (ae×Bool)))
def jP:aA:=bg 36 [(1,.str base),(5,.mapr 0),(11,sl cS t11),(12,.int .i64 t12),(13,.int .i64 t13)] [.map (aP PVal.bool m0)] []
def qx(o:(List (ae×Bool))):aA:=bg 36 [(1,.str base),(5,.mapr 0)] [.map (aP PVal.bool o)] []
def vZ:Option ((Int×(List (ae×Bool)))⊕(((List (ae×Bool))))):=
 if(decide (t13<t12))=true then
  (fJ t11 t13).bind fun x2=>
  some (.inl (ca (t13+1),F2 m0 x2 true))
 else
  some (.inr m0)
def zu:Option (((List (ae×Bool)))):=loop (fun(zz:Int×(List (ae×Bool)))=>vZ t11 t12 zz.1 zz.2) (t13,m0)
theorem Cm{y:(Int×(List (ae×Bool)))⊕(((List (ae×Bool))))}(h:vZ t11 t12 t13 m0=some y):aQ Pg GE 0 (cA Tq 119) (LQ (fun(zz:Int×(List (ae×Bool)))=>jP base t11 t12 zz.1 zz.2) (fun _=>.exit 0) (qx base) y) (jP base t11 t12 t13 m0):=by
 rcases aN h with⟨c1,h⟩|⟨c1,h⟩
 ·obtain⟨x2,bx2,h⟩:=aG h
  obtain rfl:=lf h
  exact yz Tj (sg 0 c1<|sv (eu.ia (k:=.i64) bx2)<|sv (de GB (.str x2) [])<|V7 (MU (f:=PVal.bool) underlying124 underlying9 m0 x2 true)<|eF .normal (jP base t11 t12 (ca (t13+1)) (F2 m0 x2 true)))<|by kernel_rfl
 ·obtain rfl:=lf h
  have z:=sg 0 c1<|eF (.exit 0) (qx base m0)
  exact iI Tj (by intro hx;cases hx) z<|by kernel_rfl
theorem Ds{x:((List (ae×Bool)))}(h:zu t11 t12 t13 m0=some x):aQ Pg GE 0 (.loop (cA Tq 119)) (EX (.exit 0) (qx base x)) (jP base t11 t12 t13 m0):=
 aQ.loop (S:=fun(zz:Int×(List (ae×Bool)))=>jP base t11 t12 zz.1 zz.2) (ex:=(fun _=>.exit 0)) (s:=(t13,m0)) h fun zz y hy=>Cm base t11 t12 zz.1 zz.2 hy
end
section
variable(base:ae)(m0:(List (ae×Bool)))(n:Int)
def jQ:aA:=bg 36 [(1,.str base),(5,.mapr 0),(8,.int .i64 n)] [.map (aP PVal.bool m0)] []
def qy(o:ae):aA:=bg 36 [(4,.str o)] [.map (aP PVal.bool m0)] []
def wa:Option (Int⊕(ae)):=
 (Sn n).bind fun r6=>
 (VF base r6).bind fun s7=>
 if(!((F0 m0 s7).getD false))=true then
  some (.inr s7)
 else
  some (.inl (ca (n+1)))
def zv:Option ae:=loop (fun(zz:Int)=>wa base m0 zz) n
theorem Cn{y:Int⊕(ae)}(h:wa base m0 n=some y):aQ Pg GE 0 (cA Tq 255) (LQ (fun(zz:Int)=>jQ base m0 zz) (fun _=>.ret) (qy m0) y) (jQ base m0 n):=by
 obtain⟨r6,br6,h⟩:=aG h
 obtain⟨s7,bs7,h⟩:=aG h
 have p9:=fun{sc F} (r:PS sc F)=>du (RJ br6)<|sv (Tc (P:=Pg) (t:=9) bs7)<|sv (MT (f:=PVal.bool) underlying124 underlying9 V9 m0 s7)<|r
 rcases aN h with⟨c8,h⟩|⟨c8,h⟩
 ·obtain rfl:=lf h
  have z:=p9<|sg 0 c8<|eF .ret (qy m0 s7)
  exact iI Tj (by intro hx;cases hx) z<|by kernel_rfl
 ·obtain rfl:=lf h
  exact yz Tj (p9<|sg 0 c8<|eF .normal (jQ base m0 (ca (n+1))))<|by kernel_rfl
theorem Dt{x:ae}(h:zv base m0 n=some x):aQ Pg GE 0 (.loop (cA Tq 255)) (EX .ret (qy m0 x)) (jQ base m0 n):=
 aQ.loop (S:=fun(zz:Int)=>jQ base m0 zz) (ex:=(fun _=>.ret)) (s:=n) h fun zz y hy=>Cn base m0 zz hy
end
def zt(used:waA)(base:ae):Option ae:=
 (zu used (used.length:Int) 0 ([]:List (ae×Bool))).bind fun o3=>
 if(!((F0 o3 base).getD false))=true then
  some base
 else
  (zv base o3 1).bind fun o10=>
  some o10
theorem zw{used:waA}{base:ae}{r:ae}(h:zt used base=some r):CC Pg GE 52 [sl cS used,.str base] (.str r) []:=by
 obtain⟨o3,bo3,h⟩:=aG h
 have p5:=fun{sc F} (r:PS sc F)=>bU (eu.ln used)<|cY (Ds base used (used.length:Int) 0 ([]:List (ae×Bool)) bo3)<|sv (MT (f:=PVal.bool) underlying124 underlying9 V9 o3 base)<|r
 rcases aN h with⟨c4,h⟩|⟨c4,h⟩
 ·obtain rfl:=lf h
  have z:=p5<|sg 0 c4<|en (aI (rP (.str base))<|trivial)
  exact cH Tj call52 func52 (c:=Tq) rfl (aI (am bO used) (aI trivial trivial)) z<|by kernel_rfl
 ·obtain⟨o10,bo10,h⟩:=aG h
  obtain rfl:=lf h
  have z:=p5<|sg 0 c4<|cY (Dt base o3 1 bo10)<|en (aI (rP (.str o10))<|trivial)
  exact cH Tj call52 func52 (c:=Tq) rfl (aI (am bO used) (aI trivial trivial)) z<|by kernel_rfl
noncomputable def WN:Code:=f62.body.getD .skip
def Wy:List Nat:=[10,14]
def rI(s:ae)(a:(List ac))(k0:waA):Option (ae×waA):=
 (zt k0 s).bind fun r1=>
 (app k0 ([r1]:List ae)).bind fun l2=>
 some (r1,l2)
theorem tK{s:ae}{a:(List ac)}{k0:waA}{r:ae×waA}(h:rI s a k0=some r):C Pg GE 62 [.str s,sl aa a,.bptr 0 0] [] [.cells [sl cS k0] [(0,9)]] (.str r.1) [] [.cells [sl cS r.2] [(0,9)]]:=by
 obtain⟨r1,br1,h⟩:=aG h
 obtain⟨l2,bl2,h⟩:=aG h
 obtain rfl:=lf h
 have z:=ss<|du (zw br1)<|sv (eu.mk' (v:=PVal.str) Mj ([r1]:List ae) 1 (by kernel_rfl))<|sv (eu.ap bl2)<|en (aI (rP (.str r1))<|aI trivial<|aI (rL [.cells [sl cS l2] [(0,9)]])<|(aI (aI (up (n:=1) (am bO l2)) trivial) trivial))
 exact C.evGp (A:=Wy) mixed (m:=1) (c:=WN) rfl call62 func62 rfl z<|by kernel_rfl
noncomputable def TX:Code:=f105.body.getD .skip
def TA:List Nat:=[12,18]
def eE(s:ae)(a:(List ac))(k1:waA)(k2:(List ac)):Option (ae×waA×(List ac)):=
 (rI s a k1).bind fun r1=>
 (app k2 ([(⟨s,r1.1⟩:ac)]:List ac)).bind fun l2=>
 some (r1.1,r1.2,l2)
theorem gv{s:ae}{a:(List ac)}{k1:waA}{k2:(List ac)}{r:ae×waA×(List ac)}(h:eE s a k1 k2=some r):C Pg GE 105 [.str s,.bptr 0 0,.eptr ((cL aa) a),.bptr 2 0] [] [.cells [.func (.func 62) [] [.bptr 1 0],.func (.func 61) [] []] [],.cells [sl cS k1] [(0,9)],.cells [sl aa k2] [(0,137)]] (.str r.1) [] [.cells [.func (.func 62) [] [.bptr 1 0],.func (.func 61) [] []] [],.cells [sl cS r.2.1] [(0,9)],.cells [sl aa r.2.2] [(0,137)]]:=by
 obtain⟨r1,br1,h⟩:=aG h
 obtain⟨l2,bl2,h⟩:=aG h
 obtain rfl:=lf h
 have z:=ss<|sv (de Ge (sl aa a) [])<|si (.cg ⟨[1],[.str s,sl aa a,.bptr 0 0],[],[.cells [sl cS k1] [(0,9)]],[.cells [sl cS k1] [(0,9)]],[.cells [sl cS r1.2] [(0,9)]],[.cells [sl cS r1.2] [(0,9)]],.str r1.1,.str r1.1,[]⟩) (tK br1)<|sf (aI (xR [1] (.str s) trivial) (aI (xR [1] (sl aa a) (am au a)) (aI (xB [1] 0 1 0 rfl) trivial)))<|sf (aI (aI (rB (.cells [sl cS k1] [(0,9)])) (aI (rW [(0,9)]) (aI (xR [1] (sl cS k1) (am bO k1)) trivial))) trivial)<|sf (aI (aI (rW [(0,9)]) (aI (xR [1] (sl cS r1.2) (am bO r1.2)) trivial)) trivial)<|sf (xR [1] (.str r1.1) trivial)<|sv (kl s r1.1)<|sv (HV.mk' (v:=nT) oc ([(⟨s,r1.1⟩:ac)]:List ac) 1 (by kernel_rfl))<|sv (HV.ap bl2)<|en (aI (rP (.str r1.1))<|aI trivial<|aI (rL [.cells [.func (.func 62) [] [.bptr 1 0],.func (.func 61) [] []] [],.cells [sl cS r1.2] [(0,9)],.cells [sl aa l2] [(0,137)]])<|(aI (aI (aI trivial (aI (bh (i:=1) (n:=3) rfl) trivial)) (aI (aI trivial trivial) trivial)) (aI (aI (up (n:=3) (am bO r1.2)) trivial) (aI (aI (up (n:=3) (am au l2)) trivial) trivial))))
 exact C.evGp (A:=TA) mixed (m:=3) (c:=TX) rfl call105 func105 rfl z<|by kernel_rfl
noncomputable def Rd:Code:=f108.body.getD .skip
def N0:List Nat:=[]
section
variable(t1:Bool)(v:(List ac))(m:waA)(m2:(List ac))(m3:ae)(m4:Int)(m5:ae)(m6:waC)(m7:waA)(m8:Int)(m9:ae)(m10:Int)(m11:waB)(m12:waB)(m13:waC)(m14:waB)
def gD:aA:=bg 17 [(1,.eptr (cB t1)),(2,.bptr 0 0),(3,.bptr 4 0),(4,.bptr 5 0)] [.cells [.func (.func 105) [] [.bptr 1 0,.eptr ((cL aa) v),.bptr 3 0]] [],.cells [.func (.func 62) [] [.bptr 2 0],.func (.func 61) [] []] [],.cells [sl cS m] [(0,9)],.cells [sl aa m2] [(0,137)],.cells [.str m3,.int .i64 m4,.str m5,sl ai m6,sl cS m7,.int .i64 m8,.str m9,.int .i64 m10,sl al m11,sl al m12] [],.cells [.str ([]:ae),.int .i64 0,.str ([]:ae),sl ai m13,sl cS ([]:List ae),.int .i64 0,.str ([]:ae),.int .i64 0,sl al m14,sl al m14] [(3,60),(4,9),(8,58),(9,58)]] []
def ch(o:waA×(List ac)×ae):aA:=bg 17 [(3,.bptr 4 0),(4,.bptr 5 0)] [.cells [.func (.func 105) [] [.bptr 1 0,.eptr ((cL aa) v),.bptr 3 0]] [],.cells [.func (.func 62) [] [.bptr 2 0],.func (.func 61) [] []] [],.cells [sl cS o.1] [(0,9)],.cells [sl aa o.2.1] [(0,137)],.cells [.str o.2.2,.int .i64 m4,.str m5,sl ai m6,sl cS m7,.int .i64 m8,.str m9,.int .i64 m10,sl al m11,sl al m12] [],.cells [.str ([]:ae),.int .i64 0,.str ([]:ae),sl ai m13,sl cS ([]:List ae),.int .i64 0,.str ([]:ae),.int .i64 0,sl al m14,sl al m14] [(3,60),(4,9),(8,58),(9,58)]] []
def dQ:Option ((waA×(List ac)×ae)):=
 if t1=true then
  (eE m3 v m m2).bind fun r2=>
  some (r2.2.1,r2.2.2,r2.1)
 else
  some (m,m2,m3)
theorem gw{x:(waA×(List ac)×ae)}(h:dQ t1 v m m2 m3=some x):aQ Pg GE 4 (cA Rd 6) (EX .normal (ch v m4 m5 m6 m7 m8 m9 m10 m11 m12 m13 m14 x)) (gD t1 v m m2 m3 m4 m5 m6 m7 m8 m9 m10 m11 m12 m13 m14):=by
 rcases aN h with⟨c1,h⟩|⟨c1,h⟩
 ·obtain⟨r2,br2,h⟩:=aG h
  obtain rfl:=lf h
  exact bA N0 (sv (de U5 (.bool t1) [])<|sg 0 c1<|ss<|ss<|si (.cg ⟨[1,2,3],[.str m3,.bptr 0 0,.eptr ((cL aa) v),.bptr 2 0],[],[.cells [.func (.func 62) [] [.bptr 2 0],.func (.func 61) [] []] [],.cells [sl cS m] [(0,9)],.cells [sl aa m2] [(0,137)]],[.cells [.func (.func 62) [] [.bptr 1 0],.func (.func 61) [] []] [],.cells [sl cS m] [(0,9)],.cells [sl aa m2] [(0,137)]],[.cells [.func (.func 62) [] [.bptr 2 0],.func (.func 61) [] []] [],.cells [sl cS r2.2.1] [(0,9)],.cells [sl aa r2.2.2] [(0,137)]],[.cells [.func (.func 62) [] [.bptr 1 0],.func (.func 61) [] []] [],.cells [sl cS r2.2.1] [(0,9)],.cells [sl aa r2.2.2] [(0,137)]],.str r2.1,.str r2.1,[]⟩) (gv br2)<|sf (aI (xR [1,2,3] (.str m3) trivial) (aI (xB [1,2,3] 0 1 0 rfl) (aI (xR [1,2,3] (.eptr ((cL aa) v)) (lS au v)) (aI (xB [1,2,3] 2 3 0 rfl) trivial))))<|sf (aI (aI (rB (.cells [.func (.func 62) [] [.bptr 2 0],.func (.func 61) [] []] [])) (aI (rW []) (aI (xF [1,2,3] (.func 62) [] [.bptr 2 0] [] [.bptr 1 0] trivial (aI (xB [1,2,3] 1 2 0 rfl) trivial)) (aI (xR [1,2,3] (.func (.func 61) [] []) (aI trivial trivial)) trivial)))) (aI (aI (rB (.cells [sl cS m] [(0,9)])) (aI (rW [(0,9)]) (aI (xR [1,2,3] (sl cS m) (am bO m)) trivial))) (aI (aI (rB (.cells [sl aa m2] [(0,137)])) (aI (rW [(0,137)]) (aI (xR [1,2,3] (sl aa m2) (am au m2)) trivial))) trivial)))<|sf (aI (aI (rW []) (aI (xF [1,2,3] (.func 62) [] [.bptr 2 0] [] [.bptr 1 0] trivial (aI (xB [1,2,3] 1 2 0 rfl) trivial)) (aI (xR [1,2,3] (.func (.func 61) [] []) (aI trivial trivial)) trivial))) (aI (aI (rW [(0,9)]) (aI (xR [1,2,3] (sl cS r2.2.1) (am bO r2.2.1)) trivial)) (aI (aI (rW [(0,137)]) (aI (xR [1,2,3] (sl aa r2.2.2) (am au r2.2.2)) trivial)) trivial)))<|sf (xR [1,2,3] (.str r2.1) trivial)<|ss<|eF .normal (ch v m4 m5 m6 m7 m8 m9 m10 m11 m12 m13 m14 (r2.2.1,r2.2.2,r2.1)))<|by kernel_rfl
 ·obtain rfl:=lf h
  exact bA N0 (sv (de U5 (.bool t1) [])<|sg 0 c1<|eF .normal (ch v m4 m5 m6 m7 m8 m9 m10 m11 m12 m13 m14 (m,m2,m3)))<|by kernel_rfl
end
def ed(p:aw)(a:Bool)(c:(List ac))(k2:waA)(k3:(List ac)):Option (aw×waA×(List ac)):=
 (dQ a c k2 k3 p.Name).bind fun o3=>
 (mL dR p.Type_).bind fun r4=>
 some ((⟨o3.2.2,r4⟩:aw),o3.1,o3.2.1)
theorem g4{p:aw}{a:Bool}{c:(List ac)}{k2:waA}{k3:(List ac)}{r:aw×waA×(List ac)}(h:ed p a c k2 k3=some r):C Pg GE 108 [.agg (av p),.eptr (cB a),.bptr 0 0] [] [.cells [.func (.func 105) [] [.bptr 1 0,.eptr ((cL aa) c),.bptr 3 0]] [],.cells [.func (.func 62) [] [.bptr 2 0],.func (.func 61) [] []] [],.cells [sl cS k2] [(0,9)],.cells [sl aa k3] [(0,137)]] (.agg (av r.1)) [] [.cells [.func (.func 105) [] [.bptr 1 0,.eptr ((cL aa) c),.bptr 3 0]] [],.cells [.func (.func 62) [] [.bptr 2 0],.func (.func 61) [] []] [],.cells [sl cS r.2.1] [(0,9)],.cells [sl aa r.2.2] [(0,137)]]:=by
 obtain⟨o3,bo3,h⟩:=aG h
 obtain⟨r4,br4,h⟩:=aG h
 obtain rfl:=lf h
 have z:=sx (mi p)<|sx OY<|qk 0<|cY (gw a c k2 k3 p.Name p.Type_.Op p.Type_.Name p.Type_.Args p.Type_.Names p.Type_.Pred.Op p.Type_.Pred.Name p.Type_.Pred.N p.Type_.Pred.Kids p.Type_.Preds ([]:List ah) ([]:List aj) bo3)<|IY [0,1,0,4,12,31,63]<|ss<|sv (jO p.Type_ [])<|du (nf dR (fun _ _ h=>gm h) br4)<|sv (Bk o3.2.2 r4)<|sx (mi (⟨o3.2.2,r4⟩:aw))<|en (aI (HT (⟨o3.2.2,r4⟩:aw))<|aI (UQ (n:=4) (ba (⟨o3.2.2,r4⟩:aw)))<|aI (rL [.cells [.func (.func 105) [] [.bptr 1 0,.eptr ((cL aa) c),.bptr 3 0]] [],.cells [.func (.func 62) [] [.bptr 2 0],.func (.func 61) [] []] [],.cells [sl cS o3.1] [(0,9)],.cells [sl aa o3.2.1] [(0,137)]])<|(aI (aI (aI trivial (aI (bh (i:=1) (n:=4) rfl) (aI (bk (n:=4) (lS au c)) (aI (bh (i:=3) (n:=4) rfl) trivial)))) trivial) (aI (aI (aI trivial (aI (bh (i:=2) (n:=4) rfl) trivial)) (aI (aI trivial trivial) trivial)) (aI (aI (up (n:=4) (am bO o3.1)) trivial) (aI (aI (up (n:=4) (am au o3.2.1)) trivial) trivial)))))
 exact C.evGp (A:=N0) mixed (m:=4) (c:=Rd) rfl call108 func108 rfl z<|by kernel_rfl
end Go.Proofs.YtkdahfeiedaahaaGreatDoor
