/- PROVED: a part of the proof. Conditions: none. -/
import Derived.Test.YtjddnhkahpfhdaaGreatDoorPkV12
import Derived.Test.YtjddnhkahpfhdaaGreatDoorPkV8
import Derived.Test.YtjddnhkahpfhdaaGreatDoorPkV11
set_option linter.unusedSimpArgs false
set_option linter.unusedVariables false
noncomputable section
namespace Go.Proofs.YtjddnhkahpfhdaaGreatDoor
open Go Go.Proofs.Tryz
set_option linter.unusedVariables false
set_option linter.defProp false
set_option maxRecDepth 100000
noncomputable def b9:Code:=Tryz.f9.body.getD .skip
theorem Z9:ZF Pg [119] 9 Tryz.f9 b9:=zf call9 func9 rfl mixed
section
variable(most:Int)(e:aq)(n:Int)(i:Int)
def ph:Option Bool:=
 if decide (i<(e.Params.length:Int))=true then
  some (decide (n<=most))
 else
  some false
theorem DM:OU 0 (cA b9 476) (ph most e n i) .normal (λo=>[(28,.bool o)]) (bO 120 [(1,.int .i64 most),(2,.eptr (ak e)),(5,.int .i64 n),(6,.int .i64 i)] [.dead] []):=Z9.j<|
 have pp4:=λ{X Y Z} (r:PV _ X Y Z)=>tw (cE e)<|ck (Fl.ln e.Params)<|r;tf (λc3=>pp4<|tg 6 c3<|tE) λc3=>pp4<|tg 6 c3<|tE
end
section
variable(most:Int)(e:aq)(n:Int)(i:Int)
def wO:az:=bO 120 [(1,.int .i64 most),(2,.eptr (ak e)),(5,.int .i64 n),(6,.int .i64 i)] [.dead] []
def FT(o:Int):az:=bO 120 [(1,.int .i64 most),(2,.eptr (ak e)),(5,.int .i64 o)] [.dead] []
def gQ:Option ((Int×Int)⊕(Int)):=
 (ph most e n i).bind λo5=>
 if o5=true then
  (cH e.Params i).bind λx7=>
  (qu .i64 (x7.Name.length:Int) 50).bind λq8=>
  (cH e.Params i).bind λx9=>
  (vU ([x9.Type_]:List ae) most).bind λr10=>
  some (.inl (bw ((bw ((bw (n+1))+q8))+r10),bw (i+1)))
 else
  some (.inr n)
def BV:Option Int:=loop (λ(zz:Int×Int)=>gQ most e zz.1 zz.2) (n,i)
theorem CF:OL 0 (cA b9 119) (gQ most e n i) (λ(zz:Int×Int)=>wO most e zz.1 zz.2) (λ_=>.exit 0) (FT most e) (wO most e n i):=Z9.l<|
 tb λo5 bo5=>qT 1<|dn (DM most e n i _ bo5)<|tF (tb λx7 bx7=>tb λq8 bq8=>tb λx9 bx9=>tb λr10 br10=>oY [0,1,0,4,0,28,60,124,252,508,1023,0,2048,0,14336,30720,63488,129024,0,522240,1048575,2097151]<|tw (cE e)<|tv (Fl.ia (k:=.i64) bx7)<|tw (gC x7)<|ck (pZ underlying9 x7.Name)<|tv (pC (P:=Pg) (t:=3) bq8)<|tw (cE e)<|tv (Fl.ia (k:=.i64) bx9)<|tw (fK x9)<|tv (dl.mk' (v:=nz) jR ([x9.Type_]:List ae) 1 (by kernel_rfl))<|bP (y9 _ br10)<|tE)<|tE
def DP:=vd (s:=(n,i)) λzz=>CF most e zz.1 zz.2
end
section
variable(most:Int)(e:aq)(n:Int)(i:Int)
def pj:Option Bool:=
 if decide (i<(e.Kids.length:Int))=true then
  some (decide (n<=most))
 else
  some false
theorem DN:OU 0 (cA b9 988) (pj most e n i) .normal (λo=>[(61,.bool o)]) (bO 120 [(1,.int .i64 most),(2,.eptr (ak e)),(5,.int .i64 n),(7,.int .i64 i)] [.dead] []):=Z9.j<|
 have pp13:=λ{X Y Z} (r:PV _ X Y Z)=>tw (dV e)<|ck (yF.ln e.Kids)<|r;tf (λc12=>pp13<|tg 6 c12<|tE) λc12=>pp13<|tg 6 c12<|tE
end
section
variable(R9:nZ)(most:Int)(e:aq)(n:Int)(i:Int)
def wP:az:=bO 120 [(1,.int .i64 most),(2,.eptr (ak e)),(5,.int .i64 n),(7,.int .i64 i)] [.dead] []
def FU(o:Int):az:=bO 120 [(1,.int .i64 most),(2,.eptr (ak e)),(5,.int .i64 o)] [.dead] []
def gR:Option ((Int×Int)⊕(Int)):=
 (pj most e n i).bind λo14=>
 if o14=true then
  (cH e.Kids i).bind λx16=>
  (R9 x16 (bw (most - n))).bind λr17=>
  some (.inl (bw (n+r17),bw (i+1)))
 else
  some (.inr n)
def BW:Option Int:=loop (λ(zz:Int×Int)=>gR R9 most e zz.1 zz.2) (n,i)
theorem CG(hR9:nI R9):OL 0 (cA b9 247) (gR R9 most e n i) (λ(zz:Int×Int)=>wP most e zz.1 zz.2) (λ_=>.exit 2) (FU most e) (wP most e n i):=Z9.l<|
 tb λo14 bo14=>qT 1<|dn (DN most e n i _ bo14)<|tF (tb λx16 bx16=>tb λr17 br17=>tw (dV e)<|tv (yF.ia (k:=.i64) bx16)<|tv (uZ x16)<|bP (hR9 _ _ _ br17)<|tE)<|tE
def DQ(hR9:nI R9):=vd (s:=(n,i)) λzz=>CG R9 most e zz.1 zz.2 hR9
end
section
variable(most:Int)(e:aq)(n:Int)(i:Int)
def pk:Option Bool:=
 if decide (i<(e.Alts.length:Int))=true then
  some (decide (n<=most))
 else
  some false
theorem DO:OU 0 (cA b9 2012) (pk most e n i) .normal (λo=>[(84,.bool o)]) (bO 120 [(1,.int .i64 most),(2,.eptr (ak e)),(5,.int .i64 n),(8,.int .i64 i)] [.dead] []):=Z9.j<|
 have pp20:=λ{X Y Z} (r:PV _ X Y Z)=>tw (cm e)<|ck (Di.ln e.Alts)<|r;tf (λc19=>pp20<|tg 6 c19<|tE) λc19=>pp20<|tg 6 c19<|tE
end
section
variable(R9:nZ)(most:Int)(e:aq)(n:Int)(i:Int)
def wQ:az:=bO 120 [(1,.int .i64 most),(2,.eptr (ak e)),(5,.int .i64 n),(8,.int .i64 i)] [.dead] []
def FV(o:Int):az:=bO 120 [(5,.int .i64 o)] [.dead] []
def gS:Option ((Int×Int)⊕(Int)):=
 (pk most e n i).bind λo21=>
 if o21=true then
  (cH e.Alts i).bind λx23=>
  (qu .i64 (x23.Con.length:Int) 50).bind λq24=>
  (cH e.Alts i).bind λx25=>
  (vT x25.Names most).bind λr26=>
  (cH e.Alts i).bind λx27=>
  (R9 x27.Body (bw (most - (bw ((bw ((bw (n+1))+q24))+r26))))).bind λr28=>
  some (.inl (bw ((bw ((bw ((bw (n+1))+q24))+r26))+r28),bw (i+1)))
 else
  some (.inr n)
def BX:Option Int:=loop (λ(zz:Int×Int)=>gS R9 most e zz.1 zz.2) (n,i)
theorem CH(hR9:nI R9):OL 0 (cA b9 503) (gS R9 most e n i) (λ(zz:Int×Int)=>wQ most e zz.1 zz.2) (λ_=>.exit 4) FV (wQ most e n i):=Z9.l<|
 tb λo21 bo21=>qT 1<|dn (DO most e n i _ bo21)<|tF (tb λx23 bx23=>tb λq24 bq24=>tb λx25 bx25=>tb λr26 br26=>tb λx27 bx27=>tb λr28 br28=>oY [0,1,0,4,0,28,60,124,252,508,1023,0,2048,0,14336,30720,63488,0,260096,524287,1048575]<|tw (cm e)<|tv (Di.ia (k:=.i64) bx23)<|tw (kU x23)<|ck (pZ underlying9 x23.Con)<|tv (pC (P:=Pg) (t:=3) bq24)<|tw (cm e)<|tv (Di.ia (k:=.i64) bx25)<|tw (ii x25)<|bP (HX _ br26)<|tw (cm e)<|tv (Di.ia (k:=.i64) bx27)<|tw (ij x27)<|bP (hR9 _ _ _ br28)<|tE)<|tE
def DR(hR9:nI R9):=vd (s:=(n,i)) λzz=>CH R9 most e zz.1 zz.2 hR9
end
def rz(R9:nZ)(e:aq)(most:Int):Option Int:=
 (qu .i64 (e.Name.length:Int) 50).bind λq1=>
 (vU e.Types most).bind λr2=>
 (BV most e (bw ((bw (1+q1))+r2)) 0).bind λo11=>
 (BW R9 most e o11 0).bind λo18=>
 (BX R9 most e o18 0).bind λo29=>
 some o29
theorem HW(R9:nZ)(hR9:nI R9){e:aq}{most:Int}:OV 9 [.agg (ak e),.int .i64 most] (rz R9 e most) (λr=>.int .i64 r) []:=Z9.v<|
 tb λq1 bq1=>tb λr2 br2=>tb λo11 bo11=>tb λo18 bo18=>tb λo29 bo29=>te (zO e)<|oY [0,1,3,7,15,0,32,0,224,511,1023]<|tw (ik e)<|ck (pZ underlying9 e.Name)<|tv (pC (P:=Pg) (t:=3) bq1)<|tw (gB e)<|bP (y9 _ br2)<|dn (DP most e (bw ((bw (1+q1))+r2)) 0 _ bo11)<|dn (DQ R9 most e o11 0 hR9 _ bo18)<|dn (DR R9 most e o18 0 hR9 _ bo29)<|tE
def xO:((aq×Int)->Option Int)->(aq×Int)->Option Int:=λ(rec:(aq×Int)->Option Int) (x:aq×Int)=>rz (λe most=>rec (e,most)) x.1 x.2
def y1(e:aq)(most:Int):Option Int:=kT xO (e,most)
theorem BY{e:aq}{most:Int}:OV 9 [.agg (ak e),.int .i64 most] (y1 e most) (λr=>.int .i64 r) []:=mP λ_ h=>
 ct (F:=xO) (M:=λ(x:aq×Int) (r:Int)=>CC Pg GE 9 [.agg (ak x.1),.int .i64 x.2] (.int .i64 r) []) (λrec hrec x r h=>HW _ (λe most=>mP λr h=>hrec (e,most) r h) _ h) h
noncomputable def SM:Code:=f32.body.getD .skip
theorem SK:ZF Pg [92] 32 f32 SM:=zf call32 func32 rfl mixed
section
variable(most:Int)(v:aa)(n:Int)(i:Int)
def wY:az:=bO 93 [(1,.int .i64 most),(2,.eptr (ac v)),(5,.int .i64 n),(6,.int .i64 i)] [.dead] []
def F8(o:Int):az:=bO 93 [(1,.int .i64 most),(2,.eptr (ac v)),(5,.int .i64 o)] [.dead] []
def gT:Option ((Int×Int)⊕(Int)):=
 if decide (i<(v.Body.length:Int))=true then
  (cH v.Body i).bind λx3=>
  (y1 x3 most).bind λr4=>
  some (.inl (bw (n+r4),bw (i+1)))
 else
  some (.inr n)
def BZ:Option Int:=loop (λ(zz:Int×Int)=>gT most v zz.1 zz.2) (n,i)
theorem C9:OL 0 (cA SM 119) (gT most v n i) (λ(zz:Int×Int)=>wY most v zz.1 zz.2) (λ_=>.exit 0) (F8 most v) (wY most v n i):=SK.l<|
 tw (cy v)<|ck (yF.ln v.Body)<|tF (tb λx3 bx3=>tb λr4 br4=>tw (cy v)<|tv (yF.ia (k:=.i64) bx3)<|tv (uZ x3)<|bP (BY _ br4)<|tE)<|tE
def D8:=vd (s:=(n,i)) λzz=>C9 most v zz.1 zz.2
end
section
variable(most:Int)(v:aa)(n:Int)(i:Int)
def pw:Option Bool:=
 if decide (i<(v.Kids.length:Int))=true then
  some (decide (n<=most))
 else
  some false
theorem D6:OU 0 (cA SM 988) (pw most v n i) .normal (λo=>[(43,.bool o)]) (bO 93 [(1,.int .i64 most),(2,.eptr (ac v)),(5,.int .i64 n),(7,.int .i64 i)] [.dead] []):=SK.j<|
 have pp7:=λ{X Y Z} (r:PV _ X Y Z)=>tw (aU v)<|ck (bE.ln v.Kids)<|r;tf (λc6=>pp7<|tg 6 c6<|tE) λc6=>pp7<|tg 6 c6<|tE
end
section
variable(R8:n5)(most:Int)(v:aa)(n:Int)(i:Int)
def wZ:az:=bO 93 [(1,.int .i64 most),(2,.eptr (ac v)),(5,.int .i64 n),(7,.int .i64 i)] [.dead] []
def F9(o:Int):az:=bO 93 [(1,.int .i64 most),(2,.eptr (ac v)),(5,.int .i64 o)] [.dead] []
def gU:Option ((Int×Int)⊕(Int)):=
 (pw most v n i).bind λo8=>
 if o8=true then
  (cH v.Kids i).bind λx10=>
  (R8 x10 (bw (most - n))).bind λr11=>
  some (.inl (bw (n+r11),bw (i+1)))
 else
  some (.inr n)
def B3:Option Int:=loop (λ(zz:Int×Int)=>gU R8 most v zz.1 zz.2) (n,i)
theorem Da(hR8:nJ R8):OL 0 (cA SM 247) (gU R8 most v n i) (λ(zz:Int×Int)=>wZ most v zz.1 zz.2) (λ_=>.exit 2) (F9 most v) (wZ most v n i):=SK.l<|
 tb λo8 bo8=>qT 1<|dn (D6 most v n i _ bo8)<|tF (tb λx10 bx10=>tb λr11 br11=>tw (aU v)<|tv (bE.ia (k:=.i64) bx10)<|tv (aB x10)<|bP (hR8 _ _ _ br11)<|tE)<|tE
def D9(hR8:nJ R8):=vd (s:=(n,i)) λzz=>Da R8 most v zz.1 zz.2 hR8
end
section
variable(most:Int)(v:aa)(n:Int)(i:Int)
def px:Option Bool:=
 if decide (i<(v.Binds.length:Int))=true then
  some (decide (n<=most))
 else
  some false
theorem D7:OU 0 (cA SM 2012) (px most v n i) .normal (λo=>[(66,.bool o)]) (bO 93 [(1,.int .i64 most),(2,.eptr (ac v)),(5,.int .i64 n),(8,.int .i64 i)] [.dead] []):=SK.j<|
 have pp14:=λ{X Y Z} (r:PV _ X Y Z)=>tw (cU v)<|ck (GR.ln v.Binds)<|r;tf (λc13=>pp14<|tg 6 c13<|tE) λc13=>pp14<|tg 6 c13<|tE
end
section
variable(R8:n5)(most:Int)(v:aa)(n:Int)(i:Int)
def xc:az:=bO 93 [(1,.int .i64 most),(2,.eptr (ac v)),(5,.int .i64 n),(8,.int .i64 i)] [.dead] []
def Ga(o:Int):az:=bO 93 [(5,.int .i64 o)] [.dead] []
def gV:Option ((Int×Int)⊕(Int)):=
 (px most v n i).bind λo15=>
 if o15=true then
  (cH v.Binds i).bind λx17=>
  (qu .i64 (x17.Name.length:Int) 50).bind λq18=>
  (cH v.Binds i).bind λx19=>
  (R8 x19.Value (bw (most - (bw ((bw (n+1))+q18))))).bind λr20=>
  some (.inl (bw ((bw ((bw (n+1))+q18))+r20),bw (i+1)))
 else
  some (.inr n)
def B4:Option Int:=loop (λ(zz:Int×Int)=>gV R8 most v zz.1 zz.2) (n,i)
theorem Db(hR8:nJ R8):OL 0 (cA SM 503) (gV R8 most v n i) (λ(zz:Int×Int)=>xc most v zz.1 zz.2) (λ_=>.exit 4) Ga (xc most v n i):=SK.l<|
 tb λo15 bo15=>qT 1<|dn (D7 most v n i _ bo15)<|tF (tb λx17 bx17=>tb λq18 bq18=>tb λx19 bx19=>tb λr20 br20=>tw (cU v)<|tv (GR.ia (k:=.i64) bx17)<|tw (jJ x17)<|ck (pZ underlying9 x17.Name)<|tv (pC (P:=Pg) (t:=3) bq18)<|tw (cU v)<|tv (GR.ia (k:=.i64) bx19)<|tw (jf x19)<|bP (hR8 _ _ _ br20)<|tE)<|tE
def Ea(hR8:nJ R8):=vd (s:=(n,i)) λzz=>Db R8 most v zz.1 zz.2 hR8
end
def rF(R8:n5)(v:aa)(most:Int):Option Int:=
 (qu .i64 (v.Name.length:Int) 50).bind λq1=>
 (BZ most v (bw ((bw (1+q1))+(v.Params.length:Int))) 0).bind λo5=>
 (B3 R8 most v o5 0).bind λo12=>
 (B4 R8 most v o12 0).bind λo21=>
 some o21
theorem H3(R8:n5)(hR8:nJ R8){v:aa}{most:Int}:OV 32 [.agg (ac v),.int .i64 most] (rF R8 v most) (λr=>.int .i64 r) []:=SK.v<|
 tb λq1 bq1=>tb λo5 bo5=>tb λo12 bo12=>tb λo21 bo21=>te (cD v)<|tw (bH v)<|ck (pZ underlying9 v.Name)<|tv (pC (P:=Pg) (t:=3) bq1)<|tw (eI v)<|ck (lY.ln v.Params)<|dn (D8 most v (bw ((bw (1+q1))+(v.Params.length:Int))) 0 _ bo5)<|dn (D9 R8 most v o5 0 hR8 _ bo12)<|dn (Ea R8 most v o12 0 hR8 _ bo21)<|tE
def xX:((aa×Int)->Option Int)->(aa×Int)->Option Int:=λ(rec:(aa×Int)->Option Int) (x:aa×Int)=>rF (λv most=>rec (v,most)) x.1 x.2
def D5(v:aa)(most:Int):Option Int:=kT xX (v,most)
theorem Jn{v:aa}{most:Int}:OV 32 [.agg (ac v),.int .i64 most] (D5 v most) (λr=>.int .i64 r) []:=mP λ_ h=>
 ct (F:=xX) (M:=λ(x:aa×Int) (r:Int)=>CC Pg GE 32 [.agg (ac x.1),.int .i64 x.2] (.int .i64 r) []) (λrec hrec x r h=>H3 _ (λv most=>mP λr h=>hrec (v,most) r h) _ h) h
noncomputable def b8:Code:=Tryz.f8.body.getD .skip
theorem Z8:ZF Pg [] 8 Tryz.f8 b8:=zf call8 func8 rfl mixed
def vY(v:aa):Option Bool:=
 (D5 v 300).bind λr1=>
 some (decide (r1<=300))
theorem H6{v:aa}:OV 8 [.agg (ac v)] (vY v) (λr=>.bool r) []:=Z8.v<|
 tb λr1 br1=>te (cD v)<|tv (aB v)<|bP (Jn _ br1)<|tE
noncomputable def Xk:Code:=f35.body.getD .skip
theorem WX:ZF Pg [] 35 f35 Xk:=zf call35 func35 rfl mixed
def xZ(n:Int):Option aa:=
 some (⟨1,n,([]:ai),([]:List aa),([]:List ai),([]:List aq),([]:List aD)⟩:aa)
theorem jm{n:Int}:OV 35 [.int .i64 n] (xZ n) (λr=>.agg (ac r)) [(3,36),(4,9),(5,52),(6,113)]:=WX.va<|
 tx zX<|AD (lE 1 n) (lC 1 n)<|ty (bz (⟨1,n,([]:ai),([]:List aa),([]:List ai),([]:List aq),([]:List aD)⟩:aa))<|GT λq=>aI (Fj (⟨1,n,([]:ai),([]:List aa),([]:List ai),([]:List aq),([]:List aD)⟩:aa)) q.2
abbrev lA:=(ae->Option ae)
abbrev p8(R:lA):Prop:=∀(t:ae),OV 68 [.agg (af t)] (R t) (λr=>.agg (af r)) [(2,44),(3,9),(7,42),(8,42)]
noncomputable def Wm:Code:=f68.body.getD .skip
theorem Wd:ZF Pg [19] 68 f68 Wm:=zf call68 func68 rfl mixed
section
variable(R16:lA)(t12:waB)(t13:Int)(m:waB)(m2:waF)(m3:Int)(m4:ai)(t14:Int)(m5:waB)
def li:az:=bO 27 [(2,.bptr 1 0),(3,.bptr 2 0),(12,sl af t12),(13,.int .i64 t13),(14,.int .i64 t14)] [.dead,.cells [.int .i64 0,.str ([]:ai),sl af m,sl cS ([]:List ai),.int .i64 0,.str ([]:ai),.int .i64 0,sl aj m2,sl aj m2] [(2,44),(3,9),(7,42),(8,42)],.cells [.int .i64 m3,.str m4,sl af m5,sl cS ([]:List ai),.int .i64 0,.str ([]:ai),.int .i64 0,sl aj m2,sl aj m2] [(2,44),(3,9),(7,42),(8,42)]] []
def qW(o:waB):az:=bO 27 [(2,.bptr 1 0),(3,.bptr 2 0)] [.dead,.cells [.int .i64 0,.str ([]:ai),sl af m,sl cS ([]:List ai),.int .i64 0,.str ([]:ai),.int .i64 0,sl aj m2,sl aj m2] [(2,44),(3,9),(7,42),(8,42)],.cells [.int .i64 m3,.str m4,sl af o,sl cS ([]:List ai),.int .i64 0,.str ([]:ai),.int .i64 0,sl aj m2,sl aj m2] [(2,44),(3,9),(7,42),(8,42)]] []
instance iS_types_Plain_L1:KS 0 (li t12 t13 m m2 m3 m4 t14 m5):=ks 3 rfl
instance iO_types_Plain_L1{o:waB}:KS 0 (qW m m2 m3 m4 o):=ks 3 rfl
def qV:Option ((Int×waB)⊕(waB)):=
 if decide (t14<t13)=true then
  (cH t12 t14).bind λx2=>
  (R16 x2).bind λr3=>
  (app m5 ([r3]:List ae)).bind λl4=>
  some (.inl (bw (t14+1),l4))
 else
  some (.inr m5)
def Fx:Option waB:=loop (λ(zz:Int×waB)=>qV R16 t12 t13 zz.1 zz.2) (t14,m5)
theorem yL(hR16:p8 R16):OL 0 (cA Wm 119) (qV R16 t12 t13 t14 m5) (λ(zz:Int×waB)=>li t12 t13 m m2 m3 m4 zz.1 zz.2) (λ_=>.exit 0) (qW m m2 m3 m4) (li t12 t13 m m2 m3 m4 t14 m5):=Wd.lx<|
 tF (tb λx2 bx2=>tb λr3 br3=>tb λl4 bl4=>tv (dl.ia (k:=.i64) bx2)<|tv (cw x2)<|tx tK<|tx (fu x2)<|oY [0,1,0,4,12,31,63,127]<|tv (cx x2 [])<|bP (hR16 _ _ br3)<|tv (dl.mk' (v:=nz) jR ([r3]:List ae) 1 (by kernel_rfl))<|tv (dl.ap bl4)<|Yc (rfl:bA (sl af l4)=some [sl af l4])<|tE)<|tE
def Ab(hR16:p8 R16):=vd (s:=(t14,m5)) λzz=>yL R16 t12 t13 m m2 m3 m4 zz.1 zz.2 hR16
end
def xz(R16:lA)(t:ae):Option ae:=
 (Fx R16 t.Args (t.Args.length:Int) 0 ([]:List ae)).bind λo5=>
 some (⟨t.Op,t.Name,o5,([]:List ai),(⟨0,([]:ai),0,([]:List ag)⟩:ag),([]:List ag)⟩:ae)
theorem Dl(R16:lA)(hR16:p8 R16){t:ae}:OV 68 [.agg (af t)] (xz R16 t) (λr=>.agg (af r)) [(2,44),(3,9),(7,42),(8,42)]:=Wd.va<|
 tb λo5 bo5=>te (eZ t)<|tx tK<|tw (bW t)<|tw (bM t)<|AD (nh t.Op t.Name) (ng t.Op t.Name)<|tx tK<|ty (aR (⟨t.Op,t.Name,([]:List ae),([]:List ai),(⟨0,([]:ai),0,([]:List ag)⟩:ag),([]:List ag)⟩:ae))<|tw (aL t)<|ck (dl.ln t.Args)<|dn (Ab R16 t.Args (t.Args.length:Int) ([]:List ae) ([]:List ag) t.Op t.Name 0 ([]:List ae) hR16 _ bo5)<|tz (cx (⟨t.Op,t.Name,o5,([]:List ai),(⟨0,([]:ai),0,([]:List ag)⟩:ag),([]:List ag)⟩:ae) [])<|ty (aR (⟨t.Op,t.Name,o5,([]:List ai),(⟨0,([]:ai),0,([]:List ag)⟩:ag),([]:List ag)⟩:ae))<|GT λq=>aI (eT (⟨t.Op,t.Name,o5,([]:List ai),(⟨0,([]:ai),0,([]:List ag)⟩:ag),([]:List ag)⟩:ae)) q.2
def xB:(ae->Option ae)->(ae)->Option ae:=λ(rec:ae->Option ae) (x:ae)=>xz (λt=>rec t) x
def Cy(t:ae):Option ae:=kT xB t
theorem Fy{t:ae}:OV 68 [.agg (af t)] (Cy t) (λr=>.agg (af r)) [(2,44),(3,9),(7,42),(8,42)]:=mP λ_ h=>
 ct (F:=xB) (M:=λ(x:ae) (r:ae)=>CC Pg GE 68 [.agg (af x)] (.agg (af r)) [(2,44),(3,9),(7,42),(8,42)]) (λrec hrec x r h=>Dl _ (λt=>mP λr h=>hrec t r h) _ h) h
abbrev gv:=(ae->Option ai)
abbrev iJ(R:gv):Prop:=∀(t:ae),OV 95 [.agg (af t)] (R t) (λr=>.str r) []
noncomputable def S7:Code:=f122.body.getD .skip
theorem S2:ZF Pg [] 122 f122 S7:=zf call122 func122 rfl mixed
section
variable(t:ae)
def p6:Option Bool:=
 if(t.Op==6)=true then
  some true
 else
  some (decide ((t.Args.length:Int)>0))
theorem vP:OU 0 (cA S7 12) (p6 t) .normal (λo=>[(11,.bool o)]) (bO 18 [(1,.eptr (af t))] [.dead] []):=S2.j<|
 have pp2:=λ{X Y Z} (r:PV _ X Y Z)=>tw (bW t)<|r;tf (λc1=>pp2<|tg 4 c1<|tE) λc1=>pp2<|tg 4 c1<|tw (aL t)<|ck (dl.ln t.Args)<|tE
end
def vO(R17:gv)(t:ae):Option ai:=
 (p6 t).bind λo3=>
 if o3=true then
  (R17 t).bind λr5=>
  (Jk ([40]:ai) r5).bind λs6=>
  (Jk s6 ([41]:ai)).bind λs7=>
  some s7
 else
  (R17 t).bind λr8=>
  some r8
theorem Ah(R17:gv)(hR17:iJ R17){t:ae}:OV 122 [.agg (af t)] (vO R17 t) (λr=>.str r) []:=S2.v<|
 tb λo3 bo3=>te (eZ t)<|qT 1<|dn (vP t _ bo3)<|tF (tb λr5 br5=>tb λs6 bs6=>tb λs7 bs7=>tv (cw t)<|bP (hR17 _ _ br5)<|tv (kD (P:=Pg) (t:=9) bs6)<|tv (kD (P:=Pg) (t:=9) bs7)<|tE)<|tb λr8 br8=>tv (cw t)<|bP (hR17 _ _ br8)<|tE
noncomputable def Up:Code:=f95.body.getD .skip
theorem Uj:ZF Pg [38,50,72] 95 f95 Up:=zf call95 func95 rfl mixed
section
variable(R17:gv)(t26:waB)(t27:Int)(s:ai)(t28:Int)
def mz:az:=bO 73 [(3,.str s),(26,sl af t26),(27,.int .i64 t27),(28,.int .i64 t28)] [.dead] []
def ti(o:ai):az:=bO 73 [(3,.str o)] [.dead] []
instance iS_types_Text_L1:KS 0 (mz t26 t27 s t28):=ks 1 rfl
instance iO_types_Text_L1{o:ai}:KS 0 (ti o):=ks 1 rfl
def th:Option ((ai×Int)⊕(ai)):=
 if decide (t28<t27)=true then
  (cH t26 t28).bind λx7=>
  (vO R17 x7).bind λr8=>
  (Jk ([32]:ai) r8).bind λs9=>
  (Jk s s9).bind λs10=>
  some (.inl (s10,bw (t28+1)))
 else
  some (.inr s)
def GV:Option ai:=loop (λ(zz:ai×Int)=>th R17 t26 t27 zz.1 zz.2) (s,t28)
theorem Af(hR17:iJ R17):OL 0 (cA Up 917463) (th R17 t26 t27 s t28) (λ(zz:ai×Int)=>mz t26 t27 zz.1 zz.2) (λ_=>.exit 1) ti (mz t26 t27 s t28):=Uj.lx<|
 tF (tb λx7 bx7=>tb λr8 br8=>tb λs9 bs9=>tb λs10 bs10=>tv (dl.ia (k:=.i64) bx7)<|tv (cw x7)<|tx tK<|tx (fu x7)<|tv (cx x7 [])<|bP (Ah R17 hR17 _ br8)<|tv (kD (P:=Pg) (t:=9) bs9)<|tv (kD (P:=Pg) (t:=9) bs10)<|tE)<|tE
def BH(hR17:iJ R17):=vd (s:=(s,t28)) λzz=>Af R17 t26 t27 zz.1 zz.2 hR17
end
section
variable(t:ae)(s:ai)(i:Int)(t46:waB)(t47:Int)(m:Int)(m2:ai)(m3:waB)(m4:waA)(m5:Int)(m6:ai)(m7:Int)(m8:waF)(m9:waF)
def xD:Option ai:=
 if(i==(bw ((t.Args.length:Int) - 1)))=true then
  (Jk s ([41,32,45,62,32]:ai)).bind λs17=>
  some s17
 else if decide (i>0)=true then
  (Jk s ([44,32]:ai)).bind λs19=>
  some s19
 else
  some s
theorem BG:OU 0 (cA Up 469757430) (xD t s i) .normal (λo=>[(6,.str o),(7,.undef)]) (bO 73 [(1,.eptr (af t)),(6,.str s),(7,.int .i64 i),(8,.bptr 1 0),(46,sl af t46),(47,.int .i64 t47),(48,.int .i64 i)] [.dead,.cells [.int .i64 m,.str m2,sl af m3,sl cS m4,.int .i64 m5,.str m6,.int .i64 m7,sl aj m8,sl aj m9] []] []):=Uj.j<|
 tw (aL t)<|ck (dl.ln t.Args)<|tF (tb λs17 bs17=>tv (kD (P:=Pg) (t:=9) bs17)<|tE)<|tF (tb λs19 bs19=>tv (kD (P:=Pg) (t:=9) bs19)<|tE)<|tE
end
section
variable(R17:gv)(t:ae)(t46:waB)(t47:Int)(s:ai)(t48:Int)
def mB:az:=bO 73 [(1,.eptr (af t)),(6,.str s),(46,sl af t46),(47,.int .i64 t47),(48,.int .i64 t48)] [.dead] []
def tk(o:ai):az:=bO 73 [(6,.str o)] [.dead] []
instance iS_types_Text_L2:KS 0 (mB t t46 t47 s t48):=ks 1 rfl
instance iO_types_Text_L2{o:ai}:KS 0 (tk o):=ks 1 rfl
def tj:Option ((ai×Int)⊕(ai)):=
 if decide (t48<t47)=true then
  (cH t46 t48).bind λx15=>
  (xD t s t48).bind λo20=>
  (R17 x15).bind λr21=>
  (Jk o20 r21).bind λs22=>
  some (.inl (s22,bw (t48+1)))
 else
  some (.inr s)
def GW:Option ai:=loop (λ(zz:ai×Int)=>tj R17 t t46 t47 zz.1 zz.2) (s,t48)
theorem Ag(hR17:iJ R17):OL 0 (cA Up 7339959) (tj R17 t t46 t47 s t48) (λ(zz:ai×Int)=>mB t t46 t47 zz.1 zz.2) (λ_=>.exit 3) tk (mB t t46 t47 s t48):=Uj.lx<|
 tF (tb λx15 bx15=>tb λo20 bo20=>tb λr21 br21=>tb λs22 bs22=>tv (dl.ia (k:=.i64) bx15)<|tv (cw x15)<|tx tK<|tx (fu x15)<|qT 0<|dn (BG t s t48 t46 t47 x15.Op x15.Name x15.Args x15.Names x15.Pred.Op x15.Pred.Name x15.Pred.N x15.Pred.Kids x15.Preds _ bo20)<|tv (cx x15 [])<|bP (hR17 _ _ br21)<|tv (kD (P:=Pg) (t:=9) bs22)<|tE)<|tE
def BI(hR17:iJ R17):=vd (s:=(s,t48)) λzz=>Ag R17 t t46 t47 zz.1 zz.2 hR17
end
def Ad(R17:gv)(t:ae):Option ai:=
 if(t.Op==1)=true then
  some ([73,110,116]:ai)
 else if(t.Op==2)=true then
  some ([66,111,111,108]:ai)
 else if(t.Op==3)=true then
  some ([67,101,108,108]:ai)
 else if(t.Op==5)=true then
  some t.Name
 else if(t.Op==4)=true then
  (GV R17 t.Args (t.Args.length:Int) t.Name 0).bind λo11=>
  some o11
 else if(t.Op==6)=true then
  if((t.Args.length:Int)==0)=true then
   some ([63]:ai)
  else
   (GW R17 t t.Args (t.Args.length:Int) ([40]:ai) 0).bind λo23=>
   some o23
 else
  some ([63]:ai)
theorem FB(R17:gv)(hR17:iJ R17){t:ae}:OV 95 [.agg (af t)] (Ad R17 t) (λr=>.str r) []:=Uj.v<|
 te (eZ t)<|tw (bW t)<|tF tE<|tF tE<|tF tE<|tF (tw (bM t)<|tE)<|tF (tb λo11 bo11=>tw (bM t)<|tw (aL t)<|ck (dl.ln t.Args)<|dn (BH R17 t.Args (t.Args.length:Int) t.Name 0 hR17 _ bo11)<|tE)<|tF (tw (aL t)<|ck (dl.ln t.Args)<|tF tE<|tb λo23 bo23=>tw (aL t)<|ck (dl.ln t.Args)<|dn (BI R17 t t.Args (t.Args.length:Int) ([40]:ai) 0 hR17 _ bo23)<|tE)<|tE
def Ae:(ae->Option ai)->(ae)->Option ai:=λ(rec:ae->Option ai) (x:ae)=>Ad (λt=>rec t) x
def yM(t:ae):Option ai:=kT Ae t
theorem GX{t:ae}:OV 95 [.agg (af t)] (yM t) (λr=>.str r) []:=mP λ_ h=>
 ct (F:=Ae) (M:=λ(x:ae) (r:ai)=>CC Pg GE 95 [.agg (af x)] (.str r) []) (λrec hrec x r h=>FB _ (λt=>mP λr h=>hrec t r h) _ h) h
noncomputable def Xu:Code:=f62.body.getD .skip
theorem W7:ZF Pg [] 62 f62 Xu:=zf call62 func62 rfl mixed
def u9(n:Int):Option ai:=
 (Rv n).bind λr1=>
 some r1
theorem vb{n:Int}:OV 62 [.int .i64 n] (u9 n) (λr=>.str r) []:=W7.v<|
 tb λr1 br1=>bP (QL br1)<|tE
noncomputable def Vb:Code:=f97.body.getD .skip
theorem Wi:ZF Pg [] 97 f97 Vb:=zf call97 func97 rfl mixed
section
variable(name:ai)(t9:(List aN))(t10:Int)(t11:Int)(m:ai)(m2:waA)(m3:waD)(m4:waE)
def i8:az:=bO 22 [(1,.str name),(4,.bptr 1 0),(9,sl ax t9),(10,.int .i64 t10),(11,.int .i64 t11)] [.dead,.cells [.str m,sl cS m2,sl bG m3,sl aF m4] [(1,9),(2,223),(3,76)]] []
def qR(o:(ai×waA×waD×waE)⊕(ai×waA×waD×waE)):Exit:=match o with
 |(.inl _)=>.ret
 |(.inr _)=>.exit 0
def lh(o:(ai×waA×waD×waE)⊕(ai×waA×waD×waE)):az:=match o with
 |(.inl o)=>bO 22 [(4,.bptr 1 0),(5,.bool true)] [.dead,.cells [.str o.1,sl cS o.2.1,sl bG o.2.2.1,sl aF o.2.2.2] []] []
 |(.inr o)=>bO 22 [(4,.bptr 1 0)] [.dead,.cells [.str o.1,sl cS o.2.1,sl bG o.2.2.1,sl aF o.2.2.2] [(1,9),(2,223),(3,76)]] []
instance iS_syntax_Data_L1:KS 0 (i8 name t9 t10 t11 m m2 m3 m4):=ks 2 rfl
instance iO_syntax_Data_L1{o:(ai×waA×waD×waE)⊕(ai×waA×waD×waE)}:KS 0 (lh o):=match o with
 |(.inl o)=>ks 2 rfl
 |(.inr o)=>ks 2 rfl
def qQ:Option ((Int×ai×waA×waD×waE)⊕((ai×waA×waD×waE)⊕(ai×waA×waD×waE))):=
 if decide (t11<t10)=true then
  (cH t9 t11).bind λx2=>
  if(x2.Name==name)=true then
   some (.inr (.inl (x2.Name,x2.Vars,x2.Preds,x2.Cons)))
  else
   some (.inl (bw (t11+1),m,m2,m3,m4))
 else
  some (.inr (.inr (m,m2,m3,m4)))
def vM:Option ((ai×waA×waD×waE)⊕(ai×waA×waD×waE)):=loop (λ(zz:Int×ai×waA×waD×waE)=>qQ name t9 t10 zz.1 zz.2.1 zz.2.2.1 zz.2.2.2.1 zz.2.2.2.2) (t11,m,m2,m3,m4)
theorem yI:OL 0 (cA Vb 55) (qQ name t9 t10 t11 m m2 m3 m4) (λ(zz:Int×ai×waA×waD×waE)=>i8 name t9 t10 zz.1 zz.2.1 zz.2.2.1 zz.2.2.2.1 zz.2.2.2.2) qR lh (i8 name t9 t10 t11 m m2 m3 m4):=Wi.lx<|
 tF (tb λx2 bx2=>tv (vI.ia (k:=.i64) bx2)<|tv (zI x2)<|tx By<|tx (eS x2)<|ts<|tF (tv (Hx x2 [])<|tx (eS x2)<|tE)<|tE)<|tE
theorem p5:OK 0 (.loop (cA Vb 55)) (vM name t9 t10 t11 m m2 m3 m4) qR lh (i8 name t9 t10 t11 m m2 m3 m4):=DF λ_=>yI _ _ _ _ _ _ _ _
end
def vL(m:al)(name:ai):Option (aN×Bool):=
 (vM name m.Datas (m.Datas.length:Int) 0 ([]:ai) ([]:List ai) ([]:List bC) ([]:List aH)).bind λo4=>match o4 with
 |(.inl o4)=>
  some ((⟨o4.1,o4.2.1,o4.2.2.1,o4.2.2.2⟩:aN),true)
 |(.inr o4)=>
  some ((⟨([]:ai),([]:List ai),([]:List bC),([]:List aH)⟩:aN),false)
theorem Fu{m:al}{name:ai}:OV 97 [.agg (am m),.str name] (vL m name) (λr=>.tuple [.agg (ax r.1),.bool r.2]) []:=Wi.v<|
 te (de m)<|tx By<|tw (bj m)<|ck (vI.ln m.Datas)<|t2 (λo4 bo4=>dn (p5 name m.Datas (m.Datas.length:Int) 0 ([]:ai) ([]:List ai) ([]:List bC) ([]:List aH) _ bo4)<|GT λq=>aI (vbj PVal.tuple (eL (nG (⟨o4.1,o4.2.1,o4.2.2.1,o4.2.2.2⟩:aN)) (eL (rP (.bool true)) (rfl:([]:List PVal)=[])))) q.2) λo4 bo4=>dn (p5 name m.Datas (m.Datas.length:Int) 0 ([]:ai) ([]:List ai) ([]:List bC) ([]:List aH) _ bo4)<|AD (yd) (yc)<|ty (jp (⟨([]:ai),([]:List ai),([]:List bC),([]:List aH)⟩:aN))<|GT λq=>aI (vbj PVal.tuple (eL (nG (⟨([]:ai),([]:List ai),([]:List bC),([]:List aH)⟩:aN)) (eL (rP (.bool false)) (rfl:([]:List PVal)=[])))) q.2
noncomputable def Tb:Code:=f72.body.getD .skip
theorem UP:ZF Pg [23,31] 72 f72 Tb:=zf call72 func72 rfl mixed
section
variable(name:ai)(t12:(List aN))(t13:Int)(t14:Int)(t19:waE)(t20:Int)(m5:ai)(m6:waA)(m7:waD)(t21:Int)(m:ai)(m2:waA)(m3:waD)(m4:waE)
def jD:az:=bO 35 [(1,.str name),(4,.bptr 1 0),(8,.bptr 2 0),(12,sl ax t12),(13,.int .i64 t13),(14,.int .i64 t14),(19,sl aF t19),(20,.int .i64 t20),(21,.int .i64 t21)] [.dead,.cells [.str m,sl cS m2,sl bG m3,sl aF m4] [(1,9),(2,223),(3,76)],.cells [.str m5,sl cS m6,sl bG m7,sl aF t19] []] []
def sZ(o:Int⊕(ai×waA×waD×waE)):Exit:=match o with
 |(.inl _)=>.ret
 |(.inr _)=>.exit 2
def mt(o:Int⊕(ai×waA×waD×waE)):az:=match o with
 |(.inl o)=>bO 35 [(4,.bptr 1 0),(5,.int .i64 o),(6,.bool true)] [.dead,.cells [.str m5,sl cS m6,sl bG m7,sl aF t19] [],.cells [.str m5,sl cS m6,sl bG m7,sl aF t19] []] []
 |(.inr o)=>bO 35 [(1,.str name),(4,.bptr 1 0),(12,sl ax t12),(13,.int .i64 t13),(14,.int .i64 t14)] [.dead,.cells [.str o.1,sl cS o.2.1,sl bG o.2.2.1,sl aF o.2.2.2] [(1,9),(2,223),(3,76)],.cells [.str m5,sl cS m6,sl bG m7,sl aF t19] []] []
instance iS_syntax_Con_L2:KS 0 (jD name t12 t13 t14 t19 t20 m5 m6 m7 t21 m m2 m3 m4):=ks 3 rfl
instance iO_syntax_Con_L2{o:Int⊕(ai×waA×waD×waE)}:KS 0 (mt name t12 t13 t14 t19 m5 m6 m7 o):=match o with
 |(.inl o)=>ks 3 rfl
 |(.inr o)=>ks 3 rfl
def eH:Option ((Int×ai×waA×waD×waE)⊕(Int⊕(ai×waA×waD×waE))):=
 if decide (t21<t20)=true then
  (cH t19 t21).bind λx4=>
  if(x4.Name==name)=true then
   some (.inr (.inl t21))
  else
   some (.inl (bw (t21+1),m,m2,m3,m4))
 else
  some (.inr (.inr (m,m2,m3,m4)))
def qm:Option (Int⊕(ai×waA×waD×waE)):=loop (λ(zz:Int×ai×waA×waD×waE)=>eH name t19 t20 zz.1 zz.2.1 zz.2.2.1 zz.2.2.2.1 zz.2.2.2.2) (t21,m,m2,m3,m4)
theorem z8:OL 0 (cA Tb 14303) (eH name t19 t20 t21 m m2 m3 m4) (λ(zz:Int×ai×waA×waD×waE)=>jD name t12 t13 t14 t19 t20 m5 m6 m7 zz.1 zz.2.1 zz.2.2.1 zz.2.2.2.1 zz.2.2.2.2) sZ (mt name t12 t13 t14 t19 m5 m6 m7) (jD name t12 t13 t14 t19 t20 m5 m6 m7 t21 m m2 m3 m4):=UP.lx<|
 tF (tb λx4 bx4=>tv (Dj.ia (k:=.i64) bx4)<|tv (Mm x4)<|tx TQ<|tx (J2 x4)<|ts<|tF (tv (Hx (⟨m5,m6,m7,t19⟩:aN) [])<|tx (eS (⟨m5,m6,m7,t19⟩:aN))<|tE)<|tE)<|tE
theorem qP:OK 0 (.loop (cA Tb 14303)) (qm name t19 t20 t21 m m2 m3 m4) sZ (mt name t12 t13 t14 t19 m5 m6 m7) (jD name t12 t13 t14 t19 t20 m5 m6 m7 t21 m m2 m3 m4):=DF λ_=>z8 _ _ _ _ _ _ _ _ _ _ _ _ _ _
end
section
variable(name:ai)(t12:(List aN))(t13:Int)(t14:Int)(m:ai)(m2:waA)(m3:waD)(m4:waE)
def jC:az:=bO 35 [(1,.str name),(4,.bptr 1 0),(12,sl ax t12),(13,.int .i64 t13),(14,.int .i64 t14)] [.dead,.cells [.str m,sl cS m2,sl bG m3,sl aF m4] [(1,9),(2,223),(3,76)]] []
def sW(o:(Int×ai×waA×waD×waE)⊕(ai×waA×waD×waE)):Exit:=match o with
 |(.inl _)=>.ret
 |(.inr _)=>.exit 0
def ms(o:(Int×ai×waA×waD×waE)⊕(ai×waA×waD×waE)):az:=match o with
 |(.inl o)=>bO 35 [(4,.bptr 1 0),(5,.int .i64 o.1),(6,.bool true)] [.dead,.cells [.str o.2.1,sl cS o.2.2.1,sl bG o.2.2.2.1,sl aF o.2.2.2.2] []] []
 |(.inr o)=>bO 35 [(4,.bptr 1 0)] [.dead,.cells [.str o.1,sl cS o.2.1,sl bG o.2.2.1,sl aF o.2.2.2] [(1,9),(2,223),(3,76)]] []
instance iS_syntax_Con_L1:KS 0 (jC name t12 t13 t14 m m2 m3 m4):=ks 2 rfl
instance iO_syntax_Con_L1{o:(Int×ai×waA×waD×waE)⊕(ai×waA×waD×waE)}:KS 0 (ms o):=match o with
 |(.inl o)=>ks 2 rfl
 |(.inr o)=>ks 2 rfl
def eG:Option ((Int×ai×waA×waD×waE)⊕((Int×ai×waA×waD×waE)⊕(ai×waA×waD×waE))):=
 if decide (t14<t13)=true then
  (cH t12 t14).bind λx2=>
  (qm name x2.Cons (x2.Cons.length:Int) 0 m m2 m3 m4).bind λo6=>match o6 with
  |(.inl o6)=>
   some (.inr (.inl (o6,x2.Name,x2.Vars,x2.Preds,x2.Cons)))
  |(.inr o6)=>
   some (.inl (bw (t14+1),o6.1,o6.2.1,o6.2.2.1,o6.2.2.2))
 else
  some (.inr (.inr (m,m2,m3,m4)))
def ql:Option ((Int×ai×waA×waD×waE)⊕(ai×waA×waD×waE)):=loop (λ(zz:Int×ai×waA×waD×waE)=>eG name t12 t13 zz.1 zz.2.1 zz.2.2.1 zz.2.2.2.1 zz.2.2.2.2) (t14,m,m2,m3,m4)
theorem z7:OL 0 (cA Tb 55) (eG name t12 t13 t14 m m2 m3 m4) (λ(zz:Int×ai×waA×waD×waE)=>jC name t12 t13 zz.1 zz.2.1 zz.2.2.1 zz.2.2.2.1 zz.2.2.2.2) sW ms (jC name t12 t13 t14 m m2 m3 m4):=UP.lx<|
 tF (tb λx2 bx2=>tv (vI.ia (k:=.i64) bx2)<|tv (zI x2)<|tx By<|tx (eS x2)<|ts<|ck (Dj.ln x2.Cons)<|t2 (λo6 bo6=>dn (qP name t12 t13 t14 x2.Cons (x2.Cons.length:Int) x2.Name x2.Vars x2.Preds 0 m m2 m3 m4 _ bo6)<|tE) λo6 bo6=>dn (qP name t12 t13 t14 x2.Cons (x2.Cons.length:Int) x2.Name x2.Vars x2.Preds 0 m m2 m3 m4 _ bo6)<|tE)<|tE
theorem qO:OK 0 (.loop (cA Tb 55)) (ql name t12 t13 t14 m m2 m3 m4) sW ms (jC name t12 t13 t14 m m2 m3 m4):=DF λ_=>z7 _ _ _ _ _ _ _ _
end
def fG(m:al)(name:ai):Option (aN×Int×Bool):=
 (ql name m.Datas (m.Datas.length:Int) 0 ([]:ai) ([]:List ai) ([]:List bC) ([]:List aH)).bind λo7=>match o7 with
 |(.inl o7)=>
  some ((⟨o7.2.1,o7.2.2.1,o7.2.2.2.1,o7.2.2.2.2⟩:aN),o7.1,true)
 |(.inr o7)=>
  some ((⟨([]:ai),([]:List ai),([]:List bC),([]:List aH)⟩:aN),0,false)
theorem jw{m:al}{name:ai}:OV 72 [.agg (am m),.str name] (fG m name) (λr=>.tuple [.agg (ax r.1),.int .i64 r.2.1,.bool r.2.2]) []:=UP.v<|
 te (de m)<|tx By<|tw (bj m)<|ck (vI.ln m.Datas)<|t2 (λo7 bo7=>dn (qO name m.Datas (m.Datas.length:Int) 0 ([]:ai) ([]:List ai) ([]:List bC) ([]:List aH) _ bo7)<|GT λq=>aI (vbj PVal.tuple (eL (nG (⟨o7.2.1,o7.2.2.1,o7.2.2.2.1,o7.2.2.2.2⟩:aN)) (eL (rP (.int .i64 o7.1)) (eL (rP (.bool true)) (rfl:([]:List PVal)=[]))))) q.2) λo7 bo7=>dn (qO name m.Datas (m.Datas.length:Int) 0 ([]:ai) ([]:List ai) ([]:List bC) ([]:List aH) _ bo7)<|AD (yd) (yc)<|ty (jp (⟨([]:ai),([]:List ai),([]:List bC),([]:List aH)⟩:aN))<|GT λq=>aI (vbj PVal.tuple (eL (nG (⟨([]:ai),([]:List ai),([]:List bC),([]:List aH)⟩:aN)) (eL (rP (.int .i64 0)) (eL (rP (.bool false)) (rfl:([]:List PVal)=[]))))) q.2
abbrev eB:=(aa->aa->Option Int)
abbrev gw:=(aa->Option Int)
abbrev ru(R:gw):Prop:=∀(v:aa),OV 22 [.agg (ac v)] (R v) (λr=>.int .i64 r) []
noncomputable def US:Code:=f22.body.getD .skip
theorem Uh:ZF Pg [18] 22 f22 US:=zf call22 func22 rfl mixed
section
variable(R23:gw)(t7:waC)(t8:Int)(n:Int)(t9:Int)
def gP:az:=bO 19 [(3,.int .i64 n),(7,sl ac t7),(8,.int .i64 t8),(9,.int .i64 t9)] [.dead] []
def mE(o:Int):az:=bO 19 [(3,.int .i64 o)] [.dead] []
instance iS_value_Size_L1:KS 0 (gP t7 t8 n t9):=ks 1 rfl
instance iO_value_Size_L1{o:Int}:KS 0 (mE o):=ks 1 rfl
def mD:Option ((Int×Int)⊕(Int)):=
 if decide (t9<t8)=true then
  (cH t7 t9).bind λx2=>
  (R23 x2).bind λr3=>
  some (.inl (bw (n+r3),bw (t9+1)))
 else
  some (.inr n)
def G0:Option Int:=loop (λ(zz:Int×Int)=>mD R23 t7 t8 zz.1 zz.2) (n,t9)
theorem Au(hR23:ru R23):OL 0 (cA US 119) (mD R23 t7 t8 n t9) (λ(zz:Int×Int)=>gP t7 t8 zz.1 zz.2) (λ_=>.exit 0) mE (gP t7 t8 n t9):=Uh.lx<|
 tF (tb λx2 bx2=>tb λr3 br3=>tv (bE.ia (k:=.i64) bx2)<|tv (aB x2)<|tx zX<|tx (eC x2)<|tv (aM x2 [])<|bP (hR23 _ _ br3)<|tE)<|tE
def BN(hR23:ru R23):=vd (s:=(n,t9)) λzz=>Au R23 t7 t8 zz.1 zz.2 hR23
end
def sC(R23:gw)(v:aa):Option Int:=
 (G0 R23 v.Kids (v.Kids.length:Int) 1 0).bind λo4=>
 some o4
theorem FF(R23:gw)(hR23:ru R23){v:aa}:OV 22 [.agg (ac v)] (sC R23 v) (λr=>.int .i64 r) []:=Uh.v<|
 tb λo4 bo4=>te (cD v)<|tw (aU v)<|ck (bE.ln v.Kids)<|dn (BN R23 v.Kids (v.Kids.length:Int) 1 0 hR23 _ bo4)<|tE
def sD:(aa->Option Int)->(aa)->Option Int:=λ(rec:aa->Option Int) (x:aa)=>sC (λv=>rec v) x
def oV(v:aa):Option Int:=kT sD v
theorem cN{v:aa}:OV 22 [.agg (ac v)] (oV v) (λr=>.int .i64 r) []:=mP λ_ h=>
 ct (F:=sD) (M:=λ(x:aa) (r:Int)=>CC Pg GE 22 [.agg (ac x)] (.int .i64 r) []) (λrec hrec x r h=>FF _ (λv=>mP λr h=>hrec v r h) _ h) h
noncomputable def Xy:Code:=f80.body.getD .skip
theorem Xb:ZF Pg [] 80 f80 Xy:=zf call80 func80 rfl mixed
def Ba(a:Int):Option Bool:=
 some (a !=a)
noncomputable def Xr:Code:=f57.body.getD .skip
theorem W4:ZF Pg [] 57 f57 Xr:=zf call57 func57 rfl mixed
def uL(a:Int)(a2:Int):Option Int:=
 (Ba a).bind λr1=>
 (Ba a2).bind λr2=>
 if r1=true then
  if r2=true then
   some 0
  else
   some (-1)
 else if r2=true then
  some 1
 else if decide (a<a2)=true then
  some (-1)
 else if decide (a>a2)=true then
  some 1
 else
  some 0
noncomputable def Xz:Code:=f81.body.getD .skip
theorem Xc:ZF Pg [] 81 f81 Xz:=zf call81 func81 rfl mixed
def uN(a:Int):Option Bool:=
 some (a !=a)
noncomputable def Xs:Code:=f58.body.getD .skip
theorem W5:ZF Pg [] 58 f58 Xs:=zf call58 func58 rfl mixed
def xf(a:Int)(a2:Int):Option Int:=
 (uN a).bind λr1=>
 (uN a2).bind λr2=>
 if r1=true then
  if r2=true then
   some 0
  else
   some (-1)
 else if r2=true then
  some 1
 else if decide (a<a2)=true then
  some (-1)
 else if decide (a>a2)=true then
  some 1
 else
  some 0
noncomputable def XA:Code:=f82.body.getD .skip
theorem Xd:ZF Pg [] 82 f82 XA:=zf call82 func82 rfl mixed
def uO(a:ai):Option Bool:=
 some (!(a==a))
noncomputable def Xt:Code:=f59.body.getD .skip
theorem W6:ZF Pg [] 59 f59 Xt:=zf call59 func59 rfl mixed
def xg(a:ai)(a2:ai):Option Int:=
 (uO a).bind λr1=>
 (uO a2).bind λr2=>
 if r1=true then
  if r2=true then
   some 0
  else
   some (-1)
 else if r2=true then
  some 1
 else if(Op.bytesLess a a2)=true then
  some (-1)
 else if(!(Op.bytesLess a a2||a==a2))=true then
  some 1
 else
  some 0
noncomputable def U4:Code:=f56.body.getD .skip
theorem Wb:ZF Pg [15,17] 56 f56 U4:=zf call56 func56 rfl mixed
section
variable(t6:(List Int))(t7:Int)(t8:Int)
def uM:az:=bO 18 [(3,.int .i64 0),(6,sl (cI .i64) t6),(7,.int .i64 t7),(8,.int .i64 t8)] [] []
def Ca(o:Int⊕(Unit)):Exit:=match o with
 |(.inl _)=>.ret
 |(.inr _)=>.exit 0
def Cb(o:Int⊕(Unit)):az:=match o with
 |(.inl o)=>bO 18 [(2,.int .i64 o)] [] []
 |(.inr o)=>bO 18 [(3,.int .i64 0)] [] []
def B9:Option (Int⊕(Int⊕(Unit))):=
 if decide (t8<t7)=true then
  (cH t6 t8).bind λx2=>
  if(x2 !=0)=true then
   some (.inr (.inl x2))
  else
   some (.inl (bw (t8+1)))
 else
  some (.inr (.inr ()))
def Hk:Option (Int⊕(Unit)):=loop (λ(zz:Int)=>B9 t6 t7 zz) t8
end
def Ou(vals:(List Int)):Option Int:=
 (Hk vals (vals.length:Int) 0).bind λo4=>match o4 with
 |(.inl o4)=>
  some o4
 |(.inr o4)=>
  some 0
noncomputable def U5:Code:=f60.body.getD .skip
theorem Wc:ZF Pg [15,32] 60 f60 U5:=zf call60 func60 rfl mixed
section
variable(R22:eB)(s1:waC)(s2:waC)(t12:Int)(t13:Int)
def ey:az:=bO 39 [(0,sl ac s1),(1,sl ac s2),(2,.func (.func 20) [] []),(11,sl ac s1),(12,.int .i64 t12),(13,.int .i64 t13)] [] []
def jV(o:Int⊕(Unit)):Exit:=match o with
 |(.inl _)=>.ret
 |(.inr _)=>.exit 0
def ga(o:Int⊕(Unit)):az:=match o with
 |(.inl o)=>bO 39 [(6,.int .i64 o)] [] []
 |(.inr o)=>bO 39 [(0,sl ac s1),(1,sl ac s2)] [] []
instance iS_slices_CompareFunc_L1:KS 0 (ey s1 s2 t12 t13):=ks 0 rfl
instance iO_slices_CompareFunc_L1{o:Int⊕(Unit)}:KS 0 (ga s1 s2 o):=match o with
 |(.inl o)=>ks 0 rfl
 |(.inr o)=>ks 0 rfl
def jU:Option (Int⊕(Int⊕(Unit))):=
 if decide (t13<t12)=true then
  (cH s1 t13).bind λx2=>
  if decide (t13>=(s2.length:Int))=true then
   some (.inr (.inl 1))
  else
   (cH s2 t13).bind λx4=>
   (R22 x2 x4).bind λr5=>
   if(r5 !=0)=true then
    some (.inr (.inl r5))
   else
    some (.inl (bw (t13+1)))
 else
  some (.inr (.inr ()))
def kF:Option (Int⊕(Unit)):=loop (λ(zz:Int)=>jU R22 s1 s2 t12 zz) t13
end
def oB(R22:eB)(s1:waC)(s2:waC):Option Int:=
 (kF R22 s1 s2 (s1.length:Int) 0).bind λo7=>match o7 with
 |(.inl o7)=>
  some o7
 | (.inr o7) =>
  if decide ((s1.length:Int)<(s2.length:Int))=true then
   some (-1)
  else
   some 0
noncomputable def Xj:Code:=f20.body.getD .skip
theorem WW:ZF Pg [30] 20 f20 Xj:=zf call20 func20 rfl mixed
def tn(R22:eB)(a:aa)(a2:aa):Option Int:=
 (oV a).bind λr1=>
 (oV a2).bind λr2=>
 (uL r1 r2).bind λr3=>
 (xf a.Op a2.Op).bind λr4=>
 (uL a.N a2.N).bind λr5=>
 (xg a.Name a2.Name).bind λr6=>
 (Ou ([r3,r4,r5,r6]:List Int)).bind λr7=>
 if(r7 !=0)=true then
  some r7
 else
  (oB R22 a.Kids a2.Kids).bind λr9=>
  some r9
def tp:((aa×aa)->Option Int)->(aa×aa)->Option Int:=λ(rec:(aa×aa)->Option Int) (x:aa×aa)=>tn (λa a2=>rec (a,a2)) x.1 x.2
def qq(a:aa)(a2:aa):Option Int:=kT tp (a,a2)
noncomputable def Va:Code:=f96.body.getD .skip
theorem UQ:ZF Pg [11,27,32] 96 f96 Va:=zf call96 func96 rfl mixed
section
variable(out:waC)(n:Int)
def qY:az:=bO 33 [(3,sl ac out),(4,.int .i64 n)] [] [((3,0),36)]
def BP(o:waC):az:=bO 33 [(3,sl ac o)] [] [((3,0),36)]
def qZ:Option ((waC×Int)⊕(waC)):=
 if decide (n<=2)=true then
  (app out ([(⟨4,n,([]:ai),([]:List aa),([]:List ai),([]:List aq),([]:List aD)⟩:aa)]:List aa)).bind λl4=>
  some (.inl (l4,bw (n+1)))
 else
  some (.inr out)
def FI:Option waC:=loop (λ(zz:waC×Int)=>qZ zz.1 zz.2) (out,n)
theorem yR:OL 0 (cA Va 7671) (qZ out n) (λ(zz:waC×Int)=>qY zz.1 zz.2) (λ_=>.exit 3) BP (qY out n):=UQ.l<|
 tF (tb λl4 bl4=>AD (lE 4 n) (lC 4 n)<|tv (bE.mk' (v:=oN) kZ ([(⟨4,n,([]:ai),([]:List aa),([]:List ai),([]:List aq),([]:List aD)⟩:aa)]:List aa) 1 (by kernel_rfl))<|tv (bE.ap bl4)<|tE)<|tE
def Az:=vd (s:=(out,n)) λzz=>yR zz.1 zz.2
end
section
variable(out:waC)(n:Int)
def ra:az:=bO 33 [(3,sl ac out),(5,.int .i64 n)] [] [((3,0),36)]
def BQ(o:waC):az:=bO 33 [(3,sl ac o)] [] [((3,0),36)]
def rb:Option ((waC×Int)⊕(waC)):=
 if decide (n<=2)=true then
  (app out ([(⟨1,n,([]:ai),([]:List aa),([]:List ai),([]:List aq),([]:List aD)⟩:aa)]:List aa)).bind λl7=>
  some (.inl (l7,bw (n+1)))
 else
  some (.inr out)
def FJ:Option waC:=loop (λ(zz:waC×Int)=>rb zz.1 zz.2) (out,n)
theorem yS:OL 0 (cA Va 7679) (rb out n) (λ(zz:waC×Int)=>ra zz.1 zz.2) (λ_=>.exit 1) BQ (ra out n):=UQ.l<|
 tF (tb λl7 bl7=>AD (lE 1 n) (lC 1 n)<|tv (bE.mk' (v:=oN) kZ ([(⟨1,n,([]:ai),([]:List aa),([]:List ai),([]:List aq),([]:List aD)⟩:aa)]:List aa) 1 (by kernel_rfl))<|tv (bE.ap bl7)<|tE)<|tE
def AA:=vd (s:=(out,n)) λzz=>yS zz.1 zz.2
end
def p7(op:Int):Option waC:=
 if(op==2)=true then
  some ([(⟨2,0,([]:ai),([]:List aa),([]:List ai),([]:List aq),([]:List aD)⟩:aa),(⟨2,1,([]:ai),([]:List aa),([]:List ai),([]:List aq),([]:List aD)⟩:aa)]:List aa)
 else if(op==3)=true then
  (FI ([]:List aa) (-2)).bind λo5=>
  some o5
 else
  (FJ ([]:List aa) (-2)).bind λo8=>
  some o8
theorem FK{op:Int}:OV 96 [.int .i64 op] (p7 op) (λr=>sl ac r) [(0,36)]:=UQ.v<|
 tF (AD (Jt 2) (Jr 2)<|AD (lE 2 1) (lC 2 1)<|tv (bE.mk' (v:=oN) kZ ([(⟨2,0,([]:ai),([]:List aa),([]:List ai),([]:List aq),([]:List aD)⟩:aa),(⟨2,1,([]:ai),([]:List aa),([]:List ai),([]:List aq),([]:List aD)⟩:aa)]:List aa) 2 (by kernel_rfl))<|tE)<|tF (tb λo5 bo5=>dn (Az ([]:List aa) (-2) _ bo5)<|tE)<|tb λo8 bo8=>dn (AA ([]:List aa) (-2) _ bo8)<|tE
open Go
theorem bX{n:Int}(h1: -9223372036854775808<=n)(h2:n<9223372036854775808):bw n=n:=SE h1 h2
theorem bu{α:Type}(l:List α)(i:Nat)(h:i<l.length):cH l (i:Int)=some l[i]:=by
 unfold cH
 rw[vaD (by omega)]
 simp[h]
theorem RK{α:Type}{l r:List α}(h:l.length+r.length<=1073741824):app l r=some (l++r):=vaD h
theorem Nh{σ X:Type}{body:σ->Option (σ⊕X)}{s s':σ}(h:body s=some (.inl s')):loop body s=loop body s':=by rw[iW,h]
theorem qF{σ X:Type}{body:σ->Option (σ⊕X)}{s:σ}{x:X}(h:body s=some (.inr x)):loop body s=some x:=by rw[iW,h]
def NN{α σ X:Type}(f:Nat->α->σ->σ⊕X)(e:σ->X):List α->Nat->σ->X
 |[],_,s=>e s
 |x::r,i,s=>match f i x s with
  |.inl s'=>NN f e r (i+1) s'
  |.inr y=>y
theorem O5{α σ τ X:Type}(l:List α)(hl:l.length<9223372036854775808)(mk:Int->σ->τ)(body:τ->Option (τ⊕X))(I:Nat->σ->Prop)(f:Nat->α->σ->σ⊕X)(e:σ->X)
  (hin:∀(i:Nat) (h:i<l.length) s,I i s->body (mk i s)=some (match f i l[i] s with|.inl s'=>.inl (mk (bw ((i:Int)+1)) s')|.inr y=>.inr y)/\∀s',f i l[i] s=.inl s'->I (i+1) s')
  (hend:∀s,I l.length s->body (mk l.length s)=some (.inr (e s))):∀(i:Nat) (s:σ),i<=l.length->I i s->loop body (mk i s)=some (NN f e (l.drop i) i s):=by
 intro i s hi hI
 obtain⟨k,hk⟩:∃k,k+i=l.length:=⟨l.length - i,by omega⟩
 induction k generalizing i s with
 |zero=>
  have:i=l.length:=by omega
  subst this
  rw[iW,hend s hI,vb2]
  rfl
 | succ k ih =>
  have hlt:i<l.length:=by omega
  obtain⟨h1,h2⟩:=hin i hlt s hI
  rw[iW,h1,va6 hlt]
  unfold NN
  cases hf:f i l[i] s with
  |inl s'=>
   simp only
   rw[bX (by omega) (by omega)]
   have:=ih (i+1) s' (by omega) (h2 s' hf) (by omega)
   rw[show((i:Int)+1)=((i+1:Nat):Int) by omega]
   exact this
  |inr y=>rfl
theorem Km{α X:Type}(p:α->Bool)(y e:X):∀(l:List α) (i:Nat),NN (λ_ x (_:Unit)=>if p x=true then Sum.inr y else .inl ()) (λ_=>e) l i ()=if l.any p=true then y else e
 |[],i=>by simp[NN]
 | x :: l,i => by
  have ih:=Km p y e l (i+1)
  unfold NN
  by_cases h:p x=true
  ·simp[h]
  ·simp only[h,if_false,ih,List.any_cons,Bool.false_or,vaL]
theorem O4{α X:Type}(l:List α)(hl:l.length<9223372036854775808)(body:Int->Option (Int⊕X))(p:α->Bool)(y e:X)
  (hin:∀(i:Nat) (h:i<l.length),body i=some (if p l[i]=true then .inr y else .inl (bw ((i:Int)+1)))) (hend:body l.length=some (.inr e)) (i:Nat) (hi:i<=l.length):
  loop body (i:Int)=some (if(l.drop i).any p=true then y else e):=by
 have:=O5 l hl (λi (_:Unit)=>i) body (λ_ _=>True) (λ_ x _=>if p x=true then Sum.inr y else .inl ()) (λ_=>e) (λi h s _=>⟨?_,λ_ _=>trivial⟩) (λs _=>hend) i () hi vzz
 ·rw[this,Km]
 ·rw[hin i h]
  by_cases hp:p l[i]=true<;>simp[hp]
open Go Go.RowKit Go.Proofs.Tryz
section
variable{α τ:Type}
def Ey(f:τ->α->Option (Bool×τ)):List α->τ->Option (Bool×τ)
 |[],s=>some (true,s)
 |x::l,s=>(f s x).bind λr=>match r.1 with
  |true=>Ey f l r.2
  |false=>some (false,r.2)
end
abbrev fe:=List (ai×List aa)
def Q9(size:Int)(k:Nat):List Int:=(List.range (size - k).toNat).map λ(i:Nat)=>(i:Int)+1
section
variable{S:Type}(R:ae->Int->fe->Option (List aa×fe))(step:S->List aa->Option (Bool×S))
def G3:List ae->Int->List aa->S×fe->Option (Bool×S×fe)
 |[],size,kids,s=>if(size !=0)=true then some (true,s)else(step s.1 kids).bind λr=>some (r.1,r.2,s.2)
 |t::ts,size,kids,s=>Ey (λs n=>(R t n s.2).bind λq=>Ey (λs v=>(app kids [v]).bind λks=>G3 ts (size - n) ks s) q.1 (s.1,q.2)) (Q9 size ts.length) s
end
abbrev Sc:Nat:=147
abbrev Rt:Nat:=67
abbrev eV:Nat:=36
abbrev tV:Nat:=31
noncomputable def Qf:Code:=f147.body.getD .skip
abbrev Wx:Code:=be Qf [false]
abbrev Wy:Code:=be Qf [true,false,false]
abbrev DA:Code:=be Qf [true,false,true,false,false]
abbrev Wz:Code:=be Qf [true,true,false,false]
abbrev iL:Code:=be Qf [true,true,false,true,true,true]
abbrev WA:Code:=be iL [false,false]
abbrev rm:Code:=be iL [true,false,true,false]
abbrev iM:Code:=be iL [true,false,true,true,true,true]
abbrev WB:Code:=be iL [true,true]
abbrev WC:Code:=be iM [false]
abbrev iB:Code:=be iM [true,true,false,true]
abbrev TA:Code:=be iM [true,true,true]
abbrev Vv:Code:=be iB [false]
abbrev wc:Code:=be iB [true,false]
abbrev hZ:Code:=be iB [true,true,false,false]
abbrev Tz:Code:=be iB [true,true,false,true,false,false]
abbrev nl:Code:=be iB [true,true,true]
abbrev TB:Code:=be Qf [true,true,true,false]
theorem RS:Qf=.seq Wx (.seq (.seq Wy (.cond (.tmp 14) (.seq DA .ret) .skip)) (.seq (.seq Wz (.block 0 (.loop iL))) (.seq TB .ret))):=by kernel_rfl
theorem Tx:iL=.seq (.seq WA (.cond (.tmp 28) .skip (.exit 0))) (.seq (.block 1 (.seq rm (.block 2 (.loop iM)))) WB):=by kernel_rfl
theorem Ty:iM=.seq WC (.seq (.cond (.tmp 39) .skip (.exit 2)) (.seq (.block 3 iB) TA)):=by kernel_rfl
theorem Tw:iB=.seq Vv (.seq wc (.seq (.seq hZ (.cond (.tmp 55) (.seq Tz .ret) .skip)) nl)):=by kernel_rfl
theorem Sf:DA=.region (xn DA) (bY DA) false:=by kernel_rfl
theorem Sg:rm=.region (xn rm) (bY rm) true:=by kernel_rfl
theorem Si:wc=.region (xn wc) (bY wc) true:=by kernel_rfl
theorem QE:hZ=.region (xn hZ) (bY hZ) true:=by kernel_rfl
theorem QF:nl=.region (xn nl) (bY nl) false:=by kernel_rfl
abbrev yv(l:Nat):PVal:=.val (.func (.yield l) #[] #[])
structure Cx where
 l:Nat
 kb:Nat
 mb:Nat
 m:al
 fv:Value
abbrev Cx.mv(x:Cx):Value:=.map (some x.mb)
abbrev Cx.kp(x:Cx):Value:=.pointer (some ⟨x.kb,0,none⟩)
abbrev Cx.sp(x:Cx):List PVal:=am x.m++[.val x.mv]
abbrev Dr(x:Cx)(ts:List ae)(size:Int)(L:List (Nat×PVal))(H:List av):az:=bO 62 ((0,sl af ts)::(1,.int .i64 size)::(2,.eptr [yv x.l])::(3,.val x.kp)::(4,.eptr x.sp)::(5,.eptr [.val x.fv])::L) H []
theorem Rm(x:Cx):dO 0 x.sp:=kR.2 ⟨rQ x.m,vzz,vzz⟩
theorem Oq(x:Cx)(ts:List ae)(size:Int){L:List (Nat×PVal)}(h:Jw 0 L)(H:List av):dO 0 (Dr x ts size L H).tmps:=
 pD ⟨bB dy ts,vzz,⟨vzz,vzz⟩,vzz,(show dO 0 x.sp from Rm x),⟨vzz,vzz⟩,h⟩
abbrev PW(b:Bool):az:=bO 62 [(8,.bool b)] [] []
section
variable(x:Cx)(ts:List ae)(size n i:Int)(l:List aa)(y:aa)
theorem XI:cO Pg GE 0 Wx (EX .normal (Dr x ts size [] [])) (Dr x ts size [] []):=by
 have z:=eF .normal (Dr x ts size [] [])
 exact cK (A:=[]) mixed z (by kernel_rfl)
theorem XJ:cO Pg GE 0 Wy (EX .normal (Dr x ts size [(14,.bool ((ts.length:Int)==0))] [])) (Dr x ts size [] []):=by
 have z:=Ux (dl.ln ts)<|eF .normal (Dr x ts size [(14,.bool ((ts.length:Int)==0))] [])
 exact cK (A:=[]) mixed z (by kernel_rfl)
theorem XK(c:(size !=0)=true):cO Pg GE 0 (.seq DA .ret) (EX .ret (PW true)) (Dr x ts size [] []):=by
 have z:=sg 3 c<|eF .ret (PW true)
 exact cK (A:=[]) mixed z (by kernel_rfl)
theorem XL:cO Pg GE 0 Wz (EX .normal (Dr x ts size [(9,.int .i64 1)] [])) (Dr x ts size [] []):=by
 have z:=eF .normal (Dr x ts size [(9,.int .i64 1)] [])
 exact cK (A:=[]) mixed z (by kernel_rfl)
theorem XM:cO Pg GE 0 WA (EX .normal (Dr x ts size [(9,.int .i64 n),(28,.bool (decide (n<=bw (bw (size - (ts.length:Int))+1))))] [])) (Dr x ts size [(9,.int .i64 n)] []):=by
 have z:=Ux (dl.ln ts)<|eF .normal (Dr x ts size [(9,.int .i64 n),(28,.bool (decide (n<=bw (bw (size - (ts.length:Int))+1))))] [])
 exact cK (A:=[]) mixed z (by kernel_rfl)
theorem XN:cO Pg GE 0 WB (EX .normal (Dr x ts size [(9,.int .i64 (bw (n+1)))] [])) (Dr x ts size [(9,.int .i64 n)] []):=by
 have z:=eF .normal (Dr x ts size [(9,.int .i64 (bw (n+1)))] [])
 exact cK (A:=[]) mixed z (by kernel_rfl)
abbrev yV(L:List (Nat×PVal))(H:List av):az:=Dr x ts size ((9,.int .i64 n)::L++[(36,sl ac l),(37,.int .i64 (l.length:Int)),(38,.int .i64 i)]) H
theorem XP:cO Pg GE 0 WC (EX .normal (Dr x ts size [(9,.int .i64 n),(36,sl ac l),(37,.int .i64 (l.length:Int)),(38,.int .i64 i),(39,.bool (decide (i<(l.length:Int))))] [])) (yV x ts size n i l [] []):=by
 have z:=eF .normal (Dr x ts size [(9,.int .i64 n),(36,sl ac l),(37,.int .i64 (l.length:Int)),(38,.int .i64 i),(39,.bool (decide (i<(l.length:Int))))] [])
 exact cK (A:=[]) mixed z (by kernel_rfl)
theorem Vm:dO 0 ([.int .i64 y.Op,.int .i64 y.N,.str y.Name,sl ac y.Kids,sl cS y.Params,sl ak y.Body,sl aW y.Binds]:List PVal):=by have:=cQ y;rwa[bz]at this
abbrev xV:List PVal:=[.int .i64 y.Op,.int .i64 y.N,.str y.Name,sl ac y.Kids,sl cS y.Params,sl ak y.Body,sl aW y.Binds]
theorem XQ(hy:cH l i=some y):cO Pg GE 0 Vv (EX .normal (yV x ts size n i l [(11,.eptr (ac y))] [.dead])) (yV x ts size n i l [] []):=by
 have z:=sv (bE.ia (k:=.i64) hy)<|sv (aB y)<|sx zX<|sx (eC y)<|eF .normal (yV x ts size n i l [(11,.bptr 0 0)] [.cells (xV y) []])
 have h1:cO Pg GE 0 Vv (EX .normal (yV x ts size n i l [(11,.bptr 0 0)] [.cells (xV y) []])) (yV x ts size n i l [] []):=cK (A:=[]) mixed z (by kernel_rfl)
 have z2:=VU 0 [xV y] [0,1,2,3,4,5,9,11,36,37,38] [] (Vr (m:=0) (b:=0) rfl (xV y) rfl) (Vs 0 (Vm y)) (Vt (l:=xV y) (r:=xV y) rfl)<|sf (Ut 0 (p:=sl af ts) (bB dy ts))<|sf (Lt 0 (p:=[yv x.l]) ⟨vzz,vzz⟩)<|sf (Lt 0 (p:=x.sp) (Rm x))<|sf (Lt 0 (p:=[.val x.fv]) ⟨vzz,vzz⟩)<|sf (Ut 0 (p:=sl ac l) (bB cQ l))<|en (fr (yV x ts size n i l [(11,.eptr (xV y))] [.dead]))
 have h2:=h1.thenW (st2:=yV x ts size n i l [(11,.eptr (xV y))] [.dead]) (Vu z2 (by kernel_rfl))
 rw[bz]
 exact h2
theorem Vx:cO Pg GE 0 (.seq Tz .ret) (EX .ret (PW false)) (Dr x ts size [] []):=by
 have z:=eF .ret (PW false)
 exact cK (A:=[]) mixed z (by kernel_rfl)
theorem Vz:cO Pg GE 0 TA (EX .normal (yV x ts size n (bw (i+1)) l [] [])) (yV x ts size n i l [] []):=by
 have z:=eF .normal (yV x ts size n (bw (i+1)) l [] [])
 exact cK (A:=[]) mixed z (by kernel_rfl)
theorem VA:cO Pg GE 0 (.seq TB .ret) (EX .ret (PW true)) (Dr x ts size [] []):=by
 have z:=eF .ret (PW true)
 exact cK (A:=[]) mixed z (by kernel_rfl)
end
open Go Go.RowKit
set_option linter.unusedSimpArgs false
def At(Γ:ay)(w:World)(a:Array Value)(d:Nat)(p:PVal):Prop:=∃v,a[d]? =some v/\VR Γ [] w p v
section
variable{P:Program}{GE:List (Nat×List PVal)}{Γ Γ':ay}{w w':World}{a:Array Value}{tm:List PVal}{ds:List Deferred}{n:Nat}{next:Act->World->Prop}{Q:Exit->Act->World->Prop}{Fc:Fence}[hF:OkF Fc]
theorem At.mv{d:Nat}{p:PVal}(h:At Γ w a d p)(hle:Γ.Le w Γ' w'):At Γ' w' a d p:=h.imp λv h=>⟨h.1,h.2.mono hle (.refl _)⟩
theorem At.ne{d d':Nat}{p:PVal}{v:Value}(h:At Γ w a d p)(hd:d'≠d):At Γ w (a.setIfInBounds d' v) d p:=h.imp λu h=>⟨by rw[vas hd];exact h.1,h.2⟩
theorem At.here{d:Nat}{p:PVal}{v:Value}(hd:d<a.size)(hv:VR Γ [] w p v):At Γ w (a.setIfInBounds d v) d p:=⟨v,by simp[hd],hv⟩
theorem At.ev{d:Nat}{p:PVal}(h:At Γ w a d p)(ds:List Deferred):VR Γ [] w p ((Act.mk a ds).eval (.tmp d)):=by
 obtain⟨v,h1,h2⟩:=h
 rw[show(Act.mk a ds).eval (.tmp d)=v from aP h1]
 exact h2
theorem Fr.at(h:Fr Γ w a tm){t:Nat}{p:PVal}(hp:tm[t]? =some p):At Γ w a t p:=h.get hp
theorem Fr.add(h:Fr Γ w a tm){d:Nat}{p:PVal}(hp:At Γ w a d p):Fr Γ w a (tm.set d p):=⟨by simp[h.sz],λt q u hq hu=>by
 obtain⟨v,h1,h2⟩:=hp
 simp only[vbh]at hq
 by_cases hdt:d=t
 ·subst hdt
  simp only[if_true]at hq
  split at hq
  ·cases hq;rw[h1]at hu;cases hu;exact h2
  ·cases hq
 ·simp only[hdt,if_false]at hq
  exact h.tm t q u hq hu⟩
theorem Fr.blank(h:Fr Γ w a tm){d:Nat}{v:Value}(hu:tm[d]? =some .undef):Fr Γ w (a.setIfInBounds d v) tm:=by
 have:=h.set (d:=d) (p:=.undef) (v:=v) (.undef v)
 rwa[show tm.set d .undef=tm from vbi λi=>by
  rw[vbh]
  split
  ·rename_i hi;subst hi
   split
   ·exact hu.symm
   ·rename_i hl;rw[vaT (by omega)]
  ·rfl]at this
theorem Fr.opS(h:Fr Γ w a tm)(hB:dJ GE Γ w){o:Oper}{p:PVal}{d:Nat}(hdst:o.dst=some d)(hd:cq o=true)(hm:aw o.op=false)(hp:iu P o.op 0 (opv GE tm) []=some (p,[]))
  (hn:∀a' Γ' w',Mv GE no Γ w Γ' w'->Fr Γ' w' a' (tm.set d p)->next ⟨a',ds⟩ w'):o.wpIn Fc n P ⟨a,ds⟩ w next Q:=by
 refine h.op hB hd hm hp λv Γ' w' hmv hv=>?_
 rw[hdst]
 exact hn _ Γ' w' hmv ((h.mv hmv.le).set hv)
structure mI(tm:List PVal)(tbl:List (Nat×Nat×PVal))(L:Nat->Prop)(a:Array Value)(Γ:ay)(w:World):Prop where
 fr:Fr Γ w a tm
 at':∀x∈tbl,L x.1->At Γ w a x.2.1 x.2.2
theorem mI.mv{tbl:List (Nat×Nat×PVal)}{L:Nat->Prop}(h:mI tm tbl L a Γ w)(hle:Γ.Le w Γ' w'):mI tm tbl L a Γ' w':=⟨h.fr.mv hle,λx hx hl=>(h.at' x hx hl).mv hle⟩
def Fw(tm:List PVal)(tbl:List (Nat×Nat×PVal)):Prop:=(∀x∈tbl,tm[x.2.1]? =some .undef)/\∀x∈tbl,∀y∈tbl,x.2.1=y.2.1\/x.1=y.1->x=y
theorem mI.put{tbl:List (Nat×Nat×PVal)}{L:Nat->Prop}(ht:Fw tm tbl)(h:mI tm tbl L a Γ w){i d:Nat}{p:PVal}{v:Value}(hx:(i,d,p)∈tbl)(hv:VR Γ [] w p v):mI tm tbl (λj=>L j\/j=i) (a.setIfInBounds d v) Γ w:=by
 have hu:=ht.1 _ hx
 have hd:d<a.size:=by rw[h.fr.sz];exact ah hu
 refine⟨h.fr.blank hu,λy hy hl=>?_⟩
 by_cases hyd:y.2.1=d
 ·have:=ht.2 y hy _ hx (.inl hyd)
  subst this
  exact .here hd hv
 ·refine(h.at' y hy (hl.resolve_right λe=>hyd ?_)).ne λe=>hyd e.symm
  have:=ht.2 y hy _ hx (.inr e)
  rw[this]
theorem mI.other{tbl:List (Nat×Nat×PVal)}{L:Nat->Prop}(h:mI tm tbl L a Γ w){i d:Nat}{v:Value}(hu:tm[d]? =some .undef)(hd:∀x∈tbl,x.2.1≠d/\x.1≠i):mI tm tbl (λj=>L j\/j=i) (a.setIfInBounds d v) Γ w:=
 ⟨h.fr.blank hu,λy hy hl=>(h.at' y hy (hl.resolve_right (hd y hy).2)).ne λe=>(hd y hy).1 e.symm⟩
def kw(tm:List PVal)(l:List (Nat×Nat×PVal)):List PVal:=l.foldl (λt x=>t.set x.2.1 x.2.2) tm
theorem BB:∀{l:List (Nat×Nat×PVal)} {tm:List PVal},Fr Γ w a tm->(∀x∈l,At Γ w a x.2.1 x.2.2)->Fr Γ w a (kw tm l)
 |[],_,h,_=>h
 |x::l,tm,h,hl=>BB (l:=l) (tm:=tm.set x.2.1 x.2.2) (h.add (hl x (by simp))) λy hy=>hl y (by simp[hy])
theorem i7{tbl:List (Nat×Nat×PVal)}{L:Nat->Prop}(ht:Fw tm tbl)(hB:dJ GE Γ w)(h:mI tm tbl L a Γ w){o:Oper}{i d:Nat}{p:PVal}(hx:(i,d,p)∈tbl)(hdst:o.dst=some d)(hd:cq o=true)(hm:aw o.op=false)
  (need:List (Nat×Nat×PVal)) (hn:∀x∈need,x∈tbl/\(Gk o).contains x.1=true) (hed:∀e∈o.after.toList,Region.binds .any e=true->L e.on) (hp:iu P o.op 0 (opv GE (kw tm need)) []=some (p,[])):
  o.wpIn Fc n P ⟨a,ds⟩ w (λa' w'=>∃Γ',Mv GE no Γ w Γ' w'/\a'.defers=ds/\mI tm tbl (λj=>L j\/j=i) a'.tmps Γ' w'/\∃u,a'.tmps=a.setIfInBounds d u) Q:=by
 have hf:Fr Γ w a (kw tm need):=BB h.fr λx hx=>h.at' x (hn x hx).1 (gA (hn x hx).2 hed)
 refine hf.op hB hd hm hp λv Γ' w' hmv hv=>⟨Γ',hmv,aV _ _ _,?_⟩
 rw[hdst]
 exact⟨(h.mv hmv.le).put ht hx hv,v,rfl⟩
end
def PQ(tm:List PVal)(tbl:List (Nat×Nat×PVal)):Bool:=tbl.all (λx=>match tm[x.2.1]? with
 |some .undef=>true
 |_=>false)&&(tbl.map λx=>x.2.1).Nodup&&(tbl.map λx=>x.1).Nodup
theorem Bt{α β:Type}{f:α->β}:∀{l:List α},(l.map f).Nodup->∀x∈l,∀y∈l,f x=f y->x=y
 |[],_,x,hx,_,_,_=>by cases hx
 | a :: l,h,x,hx,y,hy,e => by
  rw[vaQ,vby]at h
  rcases vau.1 hx with hx1|hx1<;>rcases vau.1 hy with hy1|hy1
  ·rw[hx1,hy1]
  ·exact absurd (vah.2 ⟨y,hy1,by rw[<-e,hx1]⟩) h.1
  ·exact absurd (vah.2 ⟨x,hx1,by rw[e,hy1]⟩) h.1
  ·exact Bt h.2 x hx1 y hy1 e
theorem wu{tm:List PVal}{tbl:List (Nat×Nat×PVal)}(h:PQ tm tbl=true):Fw tm tbl:=by
 unfold PQ at h
 simp only[vae,vam,vao]at h
 refine⟨λx hx=>?_,λx hx y hy e=>?_⟩
 ·have:=h.1.1 x hx
  split at this
  ·assumption
  ·cases this
 ·rcases e with e|e
  ·exact Bt h.1.2 x hx y hy e
  ·exact Bt h.2 x hx y hy e
structure Yv{S:Type}(lo l:Nat)(step:S->List aa->Option (Bool×S))(J:(Nat->Prop)->Bool->S->ay->World->Prop):Prop where
 base:∀{F b s Γ w},J F b s Γ w->dJ GE Γ w
 low:∀{F b s Γ w},J F b s Γ w->∀b,F b->b<w.heap.size
 side:∀{F b s Γ w M Γ' w'},J F b s Γ w->Mv GE M Γ w Γ' w'->(∀b,M b->¬F b)->J F b s Γ' w'
 yield:∀{F s Γ w kids v r} n,J F true s Γ w->fj Pg GE eV Γ w (pG ac kids) kids.length v->(∀b,v.ownBlock=some b->¬F b/\lo<=b)->step s kids=some r->
  YieldAt Fence.wide n Pg l #[v] w λe w'=>∃Γ' F',e=.returned (.bool r.1)/\Mv GE F Γ w Γ' w'/\(∀b,F' b->F b\/w.heap.size<=b)/\J F' r.1 r.2 Γ' w'
structure KM(mb:Nat)(K:fe)(Γ:ay)(w:World):Prop where
 off:nB GE Γ w mb
 br:BR Γ [] w (.map (jo (sl ac) K)) mb
theorem KM.mv{mb:Nat}{K:fe}{Γ Γ':ay}{w w':World}{M:Nat->Prop}(h:KM mb K Γ w)(hm:Mv GE M Γ w Γ' w')(hM:¬M mb):KM mb K Γ' w':=⟨h.off.mv hm hM,h.br.mono hm.le (.refl _) (hm.keep h.off.2.1 hM)⟩
theorem KT(K:fe):∀x∈jo (sl ac) K,x.1.cl 0/\x.2.cl 0:=Vl (sl ac) (λl=>bB cQ l) K
theorem BR.up{Γ:ay}{bs:bo}{w:World}{es:List (PVal×PVal)}{b:Nat}(h:BR Γ [] w (.map es) b):BR Γ bs w (.map es) b:=h.mono (.refl _ _) (λi b h=>by simp at h) rfl
theorem BR.down{Γ:ay}{bs:bo}{w:World}{es:List (PVal×PVal)}{b:Nat}(hc:∀x∈es,x.1.cl 0/\x.2.cl 0)(h:BR Γ bs w (.map es) b):BR Γ [] w (.map es) b:=by
 obtain⟨ents,clock,h1,h2,h3,h4⟩:=h
 exact⟨ents,clock,h1,h2,λj k u x hj hx=>by
  obtain⟨k1,k2⟩:=hc _ (vaq hj)
  exact⟨(h3 j k u x hj hx).1.clo k1,(h3 j k u x hj hx).2.clo k2⟩,h4⟩
theorem Qc{Γ:ay}{w:World}{cs:List PVal}{mb:Nat}{v:Value}(h:VR Γ [] w (.agg (cs++[.val (.map (some mb))])) v):VR Γ [some mb] w (.agg (cs++[.mapr 0])) v:=by
 cases h with
 | agg _ vs hl hx =>
  refine .agg _ vs (by simpa using hl) λi p u hp hu=>?_
  by_cases hi:i<cs.length
  ·rw[vac hi]at hp
   exact(hx i p u (by rw[vac hi];exact hp) hu).mono (.refl _ _) (λi b h=>by simp at h)
  ·rw[vad (by omega)]at hp
   have hi0:i - cs.length=0:=by have:=ah hp;simp at this;exact this
   rw[hi0]at hp
   simp at hp;subst hp
   have:=hx i (.val (.map (some mb))) u (by rw[vad (by omega),hi0];rfl) hu
   cases this
   exact .mapr 0 mb rfl
theorem O1(x:Cx):aG Pg 135 x.sp=some (.agg x.sp):=by
 have hl:x.sp.length=Pg.cellsOf 135:=by
  rw[show Pg.cellsOf 135=7 by kernel_rfl]
  show(am x.m++[_]).length=7
  rw[vaB,jP];rfl
 have hu:aG Pg 135 x.sp=if Pg.cellsOf 135<=x.sp.length then some (.agg (x.sp.take (Pg.cellsOf 135)))else none:=by kernel_rfl
 rw[hu,<-hl,vaD (vaj _),vbv]
def Od(m:al)(R:ae->Int->fe->Option (List aa×fe)):Prop:=∀t n K r,R t n K=some r->C Pg GE Rt [.agg (am m++[.mapr 0]),.agg (af t),.int .i64 n] [] [.map (jo (sl ac) K)] (sl ac r.1) [] [.map (jo (sl ac) r.2)]
theorem LP{m:al}{mb:Nat}{t:ae}{n:Int}{K:fe}{r:List aa×fe}{Γ:ay}{w:World}{v1 v2 v3:Value}(hC:C Pg GE Rt [.agg (am m++[.mapr 0]),.agg (af t),.int .i64 n] [] [.map (jo (sl ac) K)] (sl ac r.1) [] [.map (jo (sl ac) r.2)])
  (hB:dJ GE Γ w) (hk:KM mb K Γ w) (h1:VR Γ [] w (.agg (am m++[.val (.map (some mb))])) v1) (h2:VR Γ [] w (.agg (af t)) v2) (h3:VR Γ [] w (.int .i64 n) v3):
  Calls Pg Rt #[v1,v2,v3] w λe w'=>∃v Γ',e=.returned v/\Mv GE (λb=>b=mb) Γ w Γ' w'/\KM mb r.2 Γ' w'/\VR Γ' [] w' (sl ac r.1) v:=by
 have hT:∀b,ch [some mb] (λ_=>none) b↔b=mb:=λb=>⟨λh=>by
  rcases h with⟨i,hi⟩|h
  ·cases i with
   |zero=>simpa using hi.symm
   |succ i=>simp at hi
  ·exact absurd rfl h,λh=>.inl ⟨0,by rw[h];rfl⟩⟩
 have up:∀{p v},VR Γ [] w p v->VR Γ [some mb] w p v:=λh=>h.mono (.refl _ _) (λi b h=>by simp at h)
 have hS:SR Pg ⟨GE,Γ,w,ch [some mb] λ_=>none⟩ Γ [some mb] (λ_=>none) w #[v1,v2,v3] ⟨[.agg (am m++[.mapr 0]),.agg (af t),.int .i64 n],[.map (jo (sl ac) K)],[]⟩:={
  wi:=hB.wi
  sz:=rfl
  tm:=λi p v hp hv=>by
   match i with
   |0=>simp at hp hv;subst hp;subst hv;exact Qc h1
   |1=>simp at hp hv;subst hp;subst hv;exact up h2
   |2=>simp at hp hv;subst hp;subst hv;exact up h3
   |i+3=>simp at hp
  bl:=rfl
  bx:=λi b B hb hBx=>by
   cases i with
   |zero=>
    simp at hb hBx;subst hb;subst hBx
    exact⟨hk.off.1,hk.off.2.1,hk.br.up⟩
   |succ i=>simp at hb
  inj:=λi j b hi hj=>by
   cases i<;>cases j<;>simp at hi hj ⊢
  bn:=λi b hb=>.inl (.inl ⟨i,hb⟩)
  on:=λb L hL=>by cases hL
  ot:=λt k e he=>by simp at he
  ob:=λi j e cs own b hBx=>by
   cases i<;>simp at hBx
  gl:=λg cs hg=>up (hB.gl g cs hg)
  gc:=hB.gc
  gx:=λg cs hg=>⟨(hB.gx g cs hg).1,λh=>hk.off.2.2 g cs hg ((hT g).1 h),(hB.gx g cs hg).2⟩
  step:=.refl _ _ _ _}
 refine(hC.2 Γ [some mb] (λ_=>none) w _ hS).mono λe w' he=>?_
 obtain⟨v,Γ',ow',rfl,h'⟩:=he
 obtain⟨k1,k2,k3⟩:=h'.bx 0 mb _ rfl rfl
 refine⟨v,Γ',rfl,(Mv.of h').mono λb hb=>.inl ((hT b).1 hb),⟨⟨k1,k2,hk.off.2.2⟩,k3.down (KT _)⟩,(h'.tm 0 _ v rfl rfl).clo (bB cQ _)⟩
section
variable{x:Cx}{t:ae}{ts:List ae}{size n:Int}{K:fe}{a:Array Value}{Γ:ay}{w:World}{ds:List Deferred}{nn:Nat}
def GU(x:Cx)(t:ae)(ts:List ae)(n:Int)(l:List aa):List (Nat×Nat×PVal):=
 [(0,31,.agg x.sp),(1,32,sl af (t::ts)),(2,33,.eptr (af t)),(3,34,.agg (af t)),(4,35,.int .i64 n),(5,36,sl ac l),(6,37,.int .i64 (l.length:Int)),(7,38,.int .i64 0)]
abbrev N4(x:Cx)(ts:List ae)(size n:Int):List PVal:=(Dr x ts size [(9,.int .i64 n)] []).tmps
theorem PO(l:List aa):Fw (N4 x (t::ts) size n) (GU x t ts n l):=wu (by kernel_rfl)
theorem VC(l:List ae):cH (t::l) 0=some t:=rfl
def I6(x:Cx)(t:ae)(ts:List ae)(size n:Int)(K:fe)(r:List aa×fe)(Γ0:ay)(w0:World)(ds:List Deferred)(L:Nat->Prop)(a:Act)(w:World):Prop:=
 a.defers=ds/\∃Γ K1,Mv GE (λb=>b=x.mb) Γ0 w0 Γ w/\KM x.mb K1 Γ w/\(¬L 5->K1=K)/\(L 5->K1=r.2)/\mI (N4 x (t::ts) size n) (GU x t ts n r.1) L a.tmps Γ w
theorem I6.pure{r:List aa×fe}{Γ0:ay}{w0:World}{L:Nat->Prop}{Q:Exit->Act->World->Prop}{a:Act}(h:I6 x t ts size n K r Γ0 w0 ds L a w){o:Oper}{i d:Nat}{p:PVal}(hi:i≠5)(hx:(i,d,p)∈GU x t ts n r.1)(hdst:o.dst=some d)(hd:cq o=true)(hm:aw o.op=false)
  (need:List (Nat×Nat×PVal)) (hn:∀y∈need,y∈GU x t ts n r.1/\(Gk o).contains y.1=true) (hed:∀e∈o.after.toList,Region.binds .any e=true->L e.on) (hp:iu Pg o.op 0 (opv GE (kw (N4 x (t::ts) size n) need)) []=some (p,[])):
  o.wpIn Fence.wide nn Pg a w (I6 x t ts size n K r Γ0 w0 ds λj=>L j\/j=i) Q:=by
 obtain⟨a,ds'⟩:=a
 obtain⟨rfl,Γ,K1,h1,h2,h3,h4,h5⟩:=h
 refine Oper.wpIn_mono (λa' w' hq=>?_) (i7 (PO r.1) h1.base h5 hx hdst hd hm need hn hed hp)
 obtain⟨Γ',hm',hd',hP,_⟩:=hq
 exact⟨hd',Γ',K1,h1.trans hm' (λb h=>.inl h.elim),h2.mv hm' id,λh=>h3 λh'=>h (.inl h'),λh=>h4 (h.resolve_right λe=>hi e.symm),hP⟩
theorem XO{r:List aa×fe}(hC:C Pg GE Rt [.agg (am x.m++[.mapr 0]),.agg (af t),.int .i64 n] [] [.map (jo (sl ac) K)] (sl ac r.1) [] [.map (jo (sl ac) r.2)])(hB:dJ GE Γ w)(hk:KM x.mb K Γ w)(hfr:Fr Γ w a (N4 x (t::ts) size n)):rm.wpIn Fence.wide nn Pg (λe a' w'=>e=.normal/\a'.defers=ds/\∃Γ',Mv GE (λb=>b=x.mb) Γ w Γ' w'/\KM x.mb r.2 Γ' w'/\Fr Γ' w' a'.tmps (yV x (t::ts) size n 0 r.1 [] []).tmps) ⟨a,ds⟩ w:=by
 have key:(Code.region (xn rm) (bY rm) true).wpIn Fence.wide nn Pg (λe a' w'=>e=.normal/\a'.defers=ds/\∃Γ',Mv GE (λb=>b=x.mb) Γ w Γ' w'/\KM x.mb r.2 Γ' w'/\Fr Γ' w' a'.tmps (yV x (t::ts) size n 0 r.1 [] []).tmps) ⟨a,ds⟩ w:=by
  refine Eo mixed (by kernel_rfl) (by kernel_rfl) (I6 x t ts size n K r Γ w ds) ?_ ?_ ?_
  ·intro L a1 w1 i o hI ho hnl hed
   have hi:i<8:=by
    have h1:=(vaf.1 ho).1
    have h2:(bY rm).size=8:=by kernel_rfl
    omega
   have hlk:∀q,(aG Pg 135 x.sp).map (λp=>(p,([]:List av)))=some q->q=(.agg x.sp,[])\/True:=λ_ _=>.inr vzz
   rcases(show i=0\/i=1\/i=2\/i=3\/i=4\/i=5\/i=6\/i=7 by omega)with rfl|rfl|rfl|rfl|rfl|rfl|rfl|rfl
   ·obtain rfl:bF rm 0=o:=vat ((show(bY rm)[0]? =some (bF rm 0) by kernel_rfl).symm.trans ho)
    refine hI.pure (d:=31) (p:=.agg x.sp) (by decide) (by simp[GU]) (by kernel_rfl) (by kernel_rfl) (by kernel_rfl) [] (by simp) hed ?_
    have e1:iu Pg (bF rm 0).op 0 (opv GE (kw (N4 x (t::ts) size n) [])) []=(aG Pg 135 x.sp).map (λp=>(p,[])):=by kernel_rfl
    rw[e1,O1];rfl
   ·obtain rfl:bF rm 1=o:=vat ((show(bY rm)[1]? =some (bF rm 1) by kernel_rfl).symm.trans ho)
    exact hI.pure (d:=32) (p:=sl af (t::ts)) (by decide) (by simp[GU]) (by kernel_rfl) (by kernel_rfl) (by kernel_rfl) [] (by simp) hed (by kernel_rfl)
   ·obtain rfl:bF rm 2=o:=vat ((show(bY rm)[2]? =some (bF rm 2) by kernel_rfl).symm.trans ho)
    refine hI.pure (d:=33) (p:=.eptr (af t)) (by decide) (by simp[GU]) (by kernel_rfl) (by kernel_rfl) (by kernel_rfl) [(1,32,sl af (t::ts))] (by intro y hy;obtain rfl:=vbd.1 hy;exact⟨by simp[GU],by kernel_rfl⟩) hed ?_
    have e1:iu Pg (bF rm 2).op 0 (opv GE (kw (N4 x (t::ts) size n) [(1,32,sl af (t::ts))])) []=(jM Pg 38 (sl af (t::ts)) (.int .i64 0)).map (λp=>(p,[])):=by kernel_rfl
    rw[e1,dl.ia (k:=.i64) (VC ts)];rfl
   ·obtain rfl:bF rm 3=o:=vat ((show(bY rm)[3]? =some (bF rm 3) by kernel_rfl).symm.trans ho)
    refine hI.pure (d:=34) (p:=.agg (af t)) (by decide) (by simp[GU]) (by kernel_rfl) (by kernel_rfl) (by kernel_rfl) [(2,33,.eptr (af t))] (by intro y hy;obtain rfl:=vbd.1 hy;exact⟨by simp[GU],by kernel_rfl⟩) hed ?_
    have e1:iu Pg (bF rm 3).op 0 (opv GE (kw (N4 x (t::ts) size n) [(2,33,.eptr (af t))])) []=(aG Pg 44 (af t)).map (λp=>(p,[])):=by kernel_rfl
    rw[e1,cw];rfl
   ·obtain rfl:bF rm 4=o:=vat ((show(bY rm)[4]? =some (bF rm 4) by kernel_rfl).symm.trans ho)
    exact hI.pure (d:=35) (p:=.int .i64 n) (by decide) (by simp[GU]) (by kernel_rfl) (by kernel_rfl) (by kernel_rfl) [] (by simp) hed (by kernel_rfl)
   ·obtain rfl:bF rm 5=o:=vat ((show(bY rm)[5]? =some (bF rm 5) by kernel_rfl).symm.trans ho)
    obtain⟨a1,ds'⟩:=a1
    obtain⟨rfl,Γ1,K1,h1,h2,h3,h4,h5⟩:=hI
    obtain rfl:=h3 hnl
    have c1:=h5.at' (0,31,.agg x.sp) (by simp[GU]) (gA (j:=0) (by kernel_rfl) hed)
    have c2:=h5.at' (3,34,.agg (af t)) (by simp[GU]) (gA (j:=3) (by kernel_rfl) hed)
    have c3:=h5.at' (4,35,.int .i64 n) (by simp[GU]) (gA (j:=4) (by kernel_rfl) hed)
    have hop:(bF rm 5).op=.call {callee:=.value (.func Rt),args:=#[.tmp 31,.tmp 34,.tmp 35],argTypes:=Kt (bF rm 5)}:=by kernel_rfl
    refine A7 hop (g:=Rt) (fs:=#[]) (cs:=#[]) rfl call67 (callsIn_wide.2 (by
     have e:(#[]++(#[.tmp 31,.tmp 34,.tmp 35]:Array Operand).map (Act.mk a1 ds').eval++#[])=#[(Act.mk a1 ds').eval (.tmp 31),(Act.mk a1 ds').eval (.tmp 34),(Act.mk a1 ds').eval (.tmp 35)]:=by simp
     rw[e]
     exact LP hC h1.base h2 (c1.ev ds') (c2.ev ds') (c3.ev ds'))) ?_
    rintro e w' ⟨v,Γ',rfl,hmv,hk',hv⟩
    refine⟨v,rfl,aV _ _ _,Γ',r.2,h1.trans hmv (λb h=>.inl h),hk',λh=>absurd (.inr rfl) h,λ_=>rfl,?_⟩
    rw[show(bF rm 5).dst=some 36 by kernel_rfl]
    exact(h5.mv hmv.le).put (PO r.1) (i:=5) (d:=36) (p:=sl ac r.1) (by simp[GU]) hv
   ·obtain rfl:bF rm 6=o:=vat ((show(bY rm)[6]? =some (bF rm 6) by kernel_rfl).symm.trans ho)
    refine hI.pure (d:=37) (p:=.int .i64 (r.1.length:Int)) (by decide) (by simp[GU]) (by kernel_rfl) (by kernel_rfl) (by kernel_rfl) [(5,36,sl ac r.1)] (by intro y hy;obtain rfl:=vbd.1 hy;exact⟨by simp[GU],by kernel_rfl⟩) hed ?_
    have e1:iu Pg (bF rm 6).op 0 (opv GE (kw (N4 x (t::ts) size n) [(5,36,sl ac r.1)])) []=(wG Pg 31 (sl ac r.1) []).map (λp=>(p,[])):=by kernel_rfl
    rw[e1,bE.ln r.1];rfl
   ·obtain rfl:bF rm 7=o:=vat ((show(bY rm)[7]? =some (bF rm 7) by kernel_rfl).symm.trans ho)
    exact hI.pure (d:=38) (p:=.int .i64 0) (by decide) (by simp[GU]) (by kernel_rfl) (by kernel_rfl) (by kernel_rfl) [] (by simp) hed (by kernel_rfl)
  ·rintro L a1 w1 ⟨hd,Γ1,K1,h1,h2,h3,h4,h5⟩ hall
   have hs:(bY rm).size=8:=by kernel_rfl
   obtain rfl:=h4 (hall 5 (by omega))
   refine⟨rfl,hd,Γ1,h1,h2,?_⟩
   have hf:=BB (l:=[(5,36,sl ac r.1),(6,37,.int .i64 (r.1.length:Int)),(7,38,.int .i64 0)]) h5.fr λy hy=>by
    rcases vau.1 hy with rfl|hy
    ·exact h5.at' _ (by simp[GU]) (hall 5 (by omega))
    rcases vau.1 hy with rfl|hy
    ·exact h5.at' _ (by simp[GU]) (hall 6 (by omega))
    rcases vau.1 hy with rfl|hy
    ·exact h5.at' _ (by simp[GU]) (hall 7 (by omega))
    ·cases hy
   exact hf
  ·exact⟨rfl,Γ,K,(Mv.drawn hB 1),hk.mv (M:=no) (Mv.drawn hB 1) id,λ_=>rfl,λh=>h.elim,⟨hfr.mv (Mv.drawn (M:=no) hB 1).le,λy _ h=>h.elim⟩⟩
 rw[<-Sg]at key
 exact key
end
end Go.Proofs.YtjddnhkahpfhdaaGreatDoor
