/- PROVED: a part of the proof. Conditions: none. -/
import Derived.Test.YtjddnhkahpfhdaaGreatDoorPkC12
import Derived.Test.YtjddnhkahpfhdaaGreatDoorPkC8
import Derived.Test.YtjddnhkahpfhdaaGreatDoorPkC11
set_option linter.unusedSimpArgs false
set_option linter.unusedVariables false
noncomputable section
namespace Go.Proofs.YtjddnhkahpfhdaaGreatDoor
open Go Go.Proofs.Tryz
set_option linter.unusedVariables false
set_option linter.defProp false
set_option maxRecDepth 100000
noncomputable def b9:Code:=Tryz.f9.body.getD .skip
theorem Z9:ZF Pg [119] 9 Tryz.f9 b9:=zf call9 func9 rfl mixed
section
variable(most:Int)(e:al)(n:Int)(i:Int)
def o0:Option Bool:=
 if decide (i<(e.Params.length:Int))=true then
  some (decide (n<=most))
 else
  some false
theorem CS:OU 0 (cA b9 476) (o0 most e n i) .normal (λo=>[(28,.bool o)]) (cc 120 [(1,.int .i64 most),(2,.eptr (ak e)),(5,.int .i64 n),(6,.int .i64 i)] [.dead] []):=Z9.j<|
 have pp4:=λ{X Y Z} (r:PV _ X Y Z)=>tw (cH e)<|cE (En.ln e.Params)<|r;tf (λc3=>pp4<|tg 6 c3<|tE) λc3=>pp4<|tg 6 c3<|tE
end
section
variable(most:Int)(e:al)(n:Int)(i:Int)
def ws:az:=cc 120 [(1,.int .i64 most),(2,.eptr (ak e)),(5,.int .i64 n),(6,.int .i64 i)] [.dead] []
def EQ(o:Int):az:=cc 120 [(1,.int .i64 most),(2,.eptr (ak e)),(5,.int .i64 o)] [.dead] []
def ik:Option ((Int×Int)⊕(Int)):=
 (o0 most e n i).bind λo5=>
 if o5=true then
  (dn e.Params i).bind λx7=>
  (qu .i64 (x7.Name.length:Int) 50).bind λq8=>
  (dn e.Params i).bind λx9=>
  (vF ([x9.Type_]:List ae) most).bind λr10=>
  some (.inl (bw ((bw ((bw (n+1))+q8))+r10),bw (i+1)))
 else
  some (.inr n)
def Bb:Option Int:=loop (λ(zz:Int×Int)=>ik most e zz.1 zz.2) (n,i)
theorem BK:OL 0 (cA b9 119) (ik most e n i) (λ(zz:Int×Int)=>ws most e zz.1 zz.2) (λ_=>.exit 0) (EQ most e) (ws most e n i):=Z9.l<|
 tb λo5 bo5=>tH 1<|eo (CS most e n i _ bo5)<|tF (tb λx7 bx7=>tb λq8 bq8=>tb λx9 bx9=>tb λr10 br10=>tK [0,1,0,4,0,28,60,124,252,508,1023,0,2048,0,14336,30720,63488,129024,0,522240,1048575,2097151]<|tw (cH e)<|tv (En.ia (k:=.i64) bx7)<|tw (gQ x7)<|cE (pU underlying9 x7.Name)<|tv (po (P:=Pg) (t:=3) bq8)<|tw (cH e)<|tv (En.ia (k:=.i64) bx9)<|tw (gb x9)<|tv (fe.mk' (v:=pX) ll ([x9.Type_]:List ae) 1 (by kernel_rfl))<|bV (yj _ br10)<|tE)<|tE
def CV:=uO (s:=(n,i)) λzz=>BK most e zz.1 zz.2
end
section
variable(most:Int)(e:al)(n:Int)(i:Int)
def o9:Option Bool:=
 if decide (i<(e.Kids.length:Int))=true then
  some (decide (n<=most))
 else
  some false
theorem CT:OU 0 (cA b9 988) (o9 most e n i) .normal (λo=>[(61,.bool o)]) (cc 120 [(1,.int .i64 most),(2,.eptr (ak e)),(5,.int .i64 n),(7,.int .i64 i)] [.dead] []):=Z9.j<|
 have pp13:=λ{X Y Z} (r:PV _ X Y Z)=>tw (eb e)<|cE (zb.ln e.Kids)<|r;tf (λc12=>pp13<|tg 6 c12<|tE) λc12=>pp13<|tg 6 c12<|tE
end
section
variable(R9:nT)(most:Int)(e:al)(n:Int)(i:Int)
def wt:az:=cc 120 [(1,.int .i64 most),(2,.eptr (ak e)),(5,.int .i64 n),(7,.int .i64 i)] [.dead] []
def ER(o:Int):az:=cc 120 [(1,.int .i64 most),(2,.eptr (ak e)),(5,.int .i64 o)] [.dead] []
def il:Option ((Int×Int)⊕(Int)):=
 (o9 most e n i).bind λo14=>
 if o14=true then
  (dn e.Kids i).bind λx16=>
  (R9 x16 (bw (most - n))).bind λr17=>
  some (.inl (bw (n+r17),bw (i+1)))
 else
  some (.inr n)
def Bd:Option Int:=loop (λ(zz:Int×Int)=>il R9 most e zz.1 zz.2) (n,i)
theorem BL(hR9:nN R9):OL 0 (cA b9 247) (il R9 most e n i) (λ(zz:Int×Int)=>wt most e zz.1 zz.2) (λ_=>.exit 2) (ER most e) (wt most e n i):=Z9.l<|
 tb λo14 bo14=>tH 1<|eo (CT most e n i _ bo14)<|tF (tb λx16 bx16=>tb λr17 br17=>tw (eb e)<|tv (zb.ia (k:=.i64) bx16)<|tv (uK x16)<|bV (hR9 _ _ _ br17)<|tE)<|tE
def CW(hR9:nN R9):=uO (s:=(n,i)) λzz=>BL R9 most e zz.1 zz.2 hR9
end
section
variable(most:Int)(e:al)(n:Int)(i:Int)
def pb:Option Bool:=
 if decide (i<(e.Alts.length:Int))=true then
  some (decide (n<=most))
 else
  some false
theorem CU:OU 0 (cA b9 2012) (pb most e n i) .normal (λo=>[(84,.bool o)]) (cc 120 [(1,.int .i64 most),(2,.eptr (ak e)),(5,.int .i64 n),(8,.int .i64 i)] [.dead] []):=Z9.j<|
 have pp20:=λ{X Y Z} (r:PV _ X Y Z)=>tw (ct e)<|cE (Cm.ln e.Alts)<|r;tf (λc19=>pp20<|tg 6 c19<|tE) λc19=>pp20<|tg 6 c19<|tE
end
section
variable(R9:nT)(most:Int)(e:al)(n:Int)(i:Int)
def wu:az:=cc 120 [(1,.int .i64 most),(2,.eptr (ak e)),(5,.int .i64 n),(8,.int .i64 i)] [.dead] []
def ES(o:Int):az:=cc 120 [(5,.int .i64 o)] [.dead] []
def im:Option ((Int×Int)⊕(Int)):=
 (pb most e n i).bind λo21=>
 if o21=true then
  (dn e.Alts i).bind λx23=>
  (qu .i64 (x23.Con.length:Int) 50).bind λq24=>
  (dn e.Alts i).bind λx25=>
  (vE x25.Names most).bind λr26=>
  (dn e.Alts i).bind λx27=>
  (R9 x27.Body (bw (most - (bw ((bw ((bw (n+1))+q24))+r26))))).bind λr28=>
  some (.inl (bw ((bw ((bw ((bw (n+1))+q24))+r26))+r28),bw (i+1)))
 else
  some (.inr n)
def Be:Option Int:=loop (λ(zz:Int×Int)=>im R9 most e zz.1 zz.2) (n,i)
theorem BM(hR9:nN R9):OL 0 (cA b9 503) (im R9 most e n i) (λ(zz:Int×Int)=>wu most e zz.1 zz.2) (λ_=>.exit 4) ES (wu most e n i):=Z9.l<|
 tb λo21 bo21=>tH 1<|eo (CU most e n i _ bo21)<|tF (tb λx23 bx23=>tb λq24 bq24=>tb λx25 bx25=>tb λr26 br26=>tb λx27 bx27=>tb λr28 br28=>tK [0,1,0,4,0,28,60,124,252,508,1023,0,2048,0,14336,30720,63488,0,260096,524287,1048575]<|tw (ct e)<|tv (Cm.ia (k:=.i64) bx23)<|tw (lh x23)<|cE (pU underlying9 x23.Con)<|tv (po (P:=Pg) (t:=3) bq24)<|tw (ct e)<|tv (Cm.ia (k:=.i64) bx25)<|tw (iO x25)<|bV (G5 _ br26)<|tw (ct e)<|tv (Cm.ia (k:=.i64) bx27)<|tw (iP x27)<|bV (hR9 _ _ _ br28)<|tE)<|tE
def CX(hR9:nN R9):=uO (s:=(n,i)) λzz=>BM R9 most e zz.1 zz.2 hR9
end
def ry(R9:nT)(e:al)(most:Int):Option Int:=
 (qu .i64 (e.Name.length:Int) 50).bind λq1=>
 (vF e.Types most).bind λr2=>
 (Bb most e (bw ((bw (1+q1))+r2)) 0).bind λo11=>
 (Bd R9 most e o11 0).bind λo18=>
 (Be R9 most e o18 0).bind λo29=>
 some o29
theorem G4(R9:nT)(hR9:nN R9){e:al}{most:Int}:OV 9 [.agg (ak e),.int .i64 most] (ry R9 e most) (λr=>.int .i64 r) []:=Z9.v<|
 tb λq1 bq1=>tb λr2 br2=>tb λo11 bo11=>tb λo18 bo18=>tb λo29 bo29=>te (y0 e)<|tK [0,1,3,7,15,0,32,0,224,511,1023]<|tw (iQ e)<|cE (pU underlying9 e.Name)<|tv (po (P:=Pg) (t:=3) bq1)<|tw (gP e)<|bV (yj _ br2)<|eo (CV most e (bw ((bw (1+q1))+r2)) 0 _ bo11)<|eo (CW R9 most e o11 0 hR9 _ bo18)<|eo (CX R9 most e o18 0 hR9 _ bo29)<|tE
def xc:((al×Int)->Option Int)->(al×Int)->Option Int:=λ(rec:(al×Int)->Option Int) (x:al×Int)=>ry (λe most=>rec (e,most)) x.1 x.2
def CR(e:al)(most:Int):Option Int:=oc xc (e,most)
theorem IB{e:al}{most:Int}:OV 9 [.agg (ak e),.int .i64 most] (CR e most) (λr=>.int .i64 r) []:=pM λ_ h=>
 cV (F:=xc) (M:=λ(x:al×Int) (r:Int)=>CC Pg GE 9 [.agg (ak x.1),.int .i64 x.2] (.int .i64 r) []) (λrec hrec x r h=>G4 _ (λe most=>pM λr h=>hrec (e,most) r h) _ h) h
noncomputable def Tp:Code:=f32.body.getD .skip
theorem Tn:ZF Pg [92] 32 f32 Tp:=zf call32 func32 rfl mixed
section
variable(most:Int)(v:aa)(n:Int)(i:Int)
def wz:az:=cc 93 [(1,.int .i64 most),(2,.eptr (ac v)),(5,.int .i64 n),(6,.int .i64 i)] [.dead] []
def EW(o:Int):az:=cc 93 [(1,.int .i64 most),(2,.eptr (ac v)),(5,.int .i64 o)] [.dead] []
def io:Option ((Int×Int)⊕(Int)):=
 if decide (i<(v.Body.length:Int))=true then
  (dn v.Body i).bind λx3=>
  (CR x3 most).bind λr4=>
  some (.inl (bw (n+r4),bw (i+1)))
 else
  some (.inr n)
def Bf:Option Int:=loop (λ(zz:Int×Int)=>io most v zz.1 zz.2) (n,i)
theorem Cg:OL 0 (cA Tp 119) (io most v n i) (λ(zz:Int×Int)=>wz most v zz.1 zz.2) (λ_=>.exit 0) (EW most v) (wz most v n i):=Tn.l<|
 tw (cW v)<|cE (zb.ln v.Body)<|tF (tb λx3 bx3=>tb λr4 br4=>tw (cW v)<|tv (zb.ia (k:=.i64) bx3)<|tv (uK x3)<|bV (IB _ br4)<|tE)<|tE
def Db:=uO (s:=(n,i)) λzz=>Cg most v zz.1 zz.2
end
section
variable(most:Int)(v:aa)(n:Int)(i:Int)
def pj:Option Bool:=
 if decide (i<(v.Kids.length:Int))=true then
  some (decide (n<=most))
 else
  some false
theorem C9:OU 0 (cA Tp 988) (pj most v n i) .normal (λo=>[(43,.bool o)]) (cc 93 [(1,.int .i64 most),(2,.eptr (ac v)),(5,.int .i64 n),(7,.int .i64 i)] [.dead] []):=Tn.j<|
 have pp7:=λ{X Y Z} (r:PV _ X Y Z)=>tw (bh v)<|cE (bz.ln v.Kids)<|r;tf (λc6=>pp7<|tg 6 c6<|tE) λc6=>pp7<|tg 6 c6<|tE
end
section
variable(R8:nU)(most:Int)(v:aa)(n:Int)(i:Int)
def wB:az:=cc 93 [(1,.int .i64 most),(2,.eptr (ac v)),(5,.int .i64 n),(7,.int .i64 i)] [.dead] []
def EY(o:Int):az:=cc 93 [(1,.int .i64 most),(2,.eptr (ac v)),(5,.int .i64 o)] [.dead] []
def ip:Option ((Int×Int)⊕(Int)):=
 (pj most v n i).bind λo8=>
 if o8=true then
  (dn v.Kids i).bind λx10=>
  (R8 x10 (bw (most - n))).bind λr11=>
  some (.inl (bw (n+r11),bw (i+1)))
 else
  some (.inr n)
def Bg:Option Int:=loop (λ(zz:Int×Int)=>ip R8 most v zz.1 zz.2) (n,i)
theorem Ch(hR8:nO R8):OL 0 (cA Tp 247) (ip R8 most v n i) (λ(zz:Int×Int)=>wB most v zz.1 zz.2) (λ_=>.exit 2) (EY most v) (wB most v n i):=Tn.l<|
 tb λo8 bo8=>tH 1<|eo (C9 most v n i _ bo8)<|tF (tb λx10 bx10=>tb λr11 br11=>tw (bh v)<|tv (bz.ia (k:=.i64) bx10)<|tv (aK x10)<|bV (hR8 _ _ _ br11)<|tE)<|tE
def Dc(hR8:nO R8):=uO (s:=(n,i)) λzz=>Ch R8 most v zz.1 zz.2 hR8
end
section
variable(most:Int)(v:aa)(n:Int)(i:Int)
def pk:Option Bool:=
 if decide (i<(v.Binds.length:Int))=true then
  some (decide (n<=most))
 else
  some false
theorem Da:OU 0 (cA Tp 2012) (pk most v n i) .normal (λo=>[(66,.bool o)]) (cc 93 [(1,.int .i64 most),(2,.eptr (ac v)),(5,.int .i64 n),(8,.int .i64 i)] [.dead] []):=Tn.j<|
 have pp14:=λ{X Y Z} (r:PV _ X Y Z)=>tw (dO v)<|cE (Il.ln v.Binds)<|r;tf (λc13=>pp14<|tg 6 c13<|tE) λc13=>pp14<|tg 6 c13<|tE
end
section
variable(R8:nU)(most:Int)(v:aa)(n:Int)(i:Int)
def wC:az:=cc 93 [(1,.int .i64 most),(2,.eptr (ac v)),(5,.int .i64 n),(8,.int .i64 i)] [.dead] []
def EZ(o:Int):az:=cc 93 [(5,.int .i64 o)] [.dead] []
def iq:Option ((Int×Int)⊕(Int)):=
 (pk most v n i).bind λo15=>
 if o15=true then
  (dn v.Binds i).bind λx17=>
  (qu .i64 (x17.Name.length:Int) 50).bind λq18=>
  (dn v.Binds i).bind λx19=>
  (R8 x19.Value (bw (most - (bw ((bw (n+1))+q18))))).bind λr20=>
  some (.inl (bw ((bw ((bw (n+1))+q18))+r20),bw (i+1)))
 else
  some (.inr n)
def Bh:Option Int:=loop (λ(zz:Int×Int)=>iq R8 most v zz.1 zz.2) (n,i)
theorem Ci(hR8:nO R8):OL 0 (cA Tp 503) (iq R8 most v n i) (λ(zz:Int×Int)=>wC most v zz.1 zz.2) (λ_=>.exit 4) EZ (wC most v n i):=Tn.l<|
 tb λo15 bo15=>tH 1<|eo (Da most v n i _ bo15)<|tF (tb λx17 bx17=>tb λq18 bq18=>tb λx19 bx19=>tb λr20 br20=>tw (dO v)<|tv (Il.ia (k:=.i64) bx17)<|tw (kc x17)<|cE (pU underlying9 x17.Name)<|tv (po (P:=Pg) (t:=3) bq18)<|tw (dO v)<|tv (Il.ia (k:=.i64) bx19)<|tw (jB x19)<|bV (hR8 _ _ _ br20)<|tE)<|tE
def Dd(hR8:nO R8):=uO (s:=(n,i)) λzz=>Ci R8 most v zz.1 zz.2 hR8
end
def rA(R8:nU)(v:aa)(most:Int):Option Int:=
 (qu .i64 (v.Name.length:Int) 50).bind λq1=>
 (Bf most v (bw ((bw (1+q1))+(v.Params.length:Int))) 0).bind λo5=>
 (Bg R8 most v o5 0).bind λo12=>
 (Bh R8 most v o12 0).bind λo21=>
 some o21
theorem G9(R8:nU)(hR8:nO R8){v:aa}{most:Int}:OV 32 [.agg (ac v),.int .i64 most] (rA R8 v most) (λr=>.int .i64 r) []:=Tn.v<|
 tb λq1 bq1=>tb λo5 bo5=>tb λo12 bo12=>tb λo21 bo21=>te (dP v)<|tw (bJ v)<|cE (pU underlying9 v.Name)<|tv (po (P:=Pg) (t:=3) bq1)<|tw (gd v)<|cE (qO.ln v.Params)<|eo (Db most v (bw ((bw (1+q1))+(v.Params.length:Int))) 0 _ bo5)<|eo (Dc R8 most v o5 0 hR8 _ bo12)<|eo (Dd R8 most v o12 0 hR8 _ bo21)<|tE
def xh:((aa×Int)->Option Int)->(aa×Int)->Option Int:=λ(rec:(aa×Int)->Option Int) (x:aa×Int)=>rA (λv most=>rec (v,most)) x.1 x.2
def C8(v:aa)(most:Int):Option Int:=oc xh (v,most)
theorem ID{v:aa}{most:Int}:OV 32 [.agg (ac v),.int .i64 most] (C8 v most) (λr=>.int .i64 r) []:=pM λ_ h=>
 cV (F:=xh) (M:=λ(x:aa×Int) (r:Int)=>CC Pg GE 32 [.agg (ac x.1),.int .i64 x.2] (.int .i64 r) []) (λrec hrec x r h=>G9 _ (λv most=>pM λr h=>hrec (v,most) r h) _ h) h
noncomputable def b8:Code:=Tryz.f8.body.getD .skip
theorem Z8:ZF Pg [] 8 Tryz.f8 b8:=zf call8 func8 rfl mixed
def nF(v:aa):Option Bool:=
 (C8 v 300).bind λr1=>
 some (decide (r1<=300))
theorem rC{v:aa}:OV 8 [.agg (ac v)] (nF v) (λr=>.bool r) []:=Z8.v<|
 tb λr1 br1=>te (dP v)<|tv (aK v)<|bV (ID _ br1)<|tE
noncomputable def XC:Code:=f35.body.getD .skip
theorem Xp:ZF Pg [] 35 f35 XC:=zf call35 func35 rfl mixed
def xi(n:Int):Option aa:=
 some (⟨1,n,([]:ai),([]:List aa),([]:List ai),([]:List al),([]:List aB)⟩:aa)
theorem jJ{n:Int}:OV 35 [.int .i64 n] (xi n) (λr=>.agg (ac r)) [(3,36),(4,9),(5,52),(6,113)]:=Xp.va<|
 tx wo<|FM (lJ 1 n) (lH 1 n)<|ty (aZ (⟨1,n,([]:ai),([]:List aa),([]:List ai),([]:List al),([]:List aB)⟩:aa))<|NP λq=>aI (El (⟨1,n,([]:ai),([]:List aa),([]:List ai),([]:List al),([]:List aB)⟩:aa)) q.2
abbrev lF:=(ae->Option ae)
abbrev pZ(R:lF):Prop:=∀(t:ae),OV 68 [.agg (af t)] (R t) (λr=>.agg (af r)) [(2,44),(3,9),(7,42),(8,42)]
noncomputable def WS:Code:=f68.body.getD .skip
theorem WH:ZF Pg [19] 68 f68 WS:=zf call68 func68 rfl mixed
section
variable(R16:lF)(t12:waB)(t13:Int)(m:waB)(m2:waD)(m3:Int)(m4:ai)(t14:Int)(m5:waB)
def lu:az:=cc 27 [(2,.bptr 1 0),(3,.bptr 2 0),(12,sl af t12),(13,.int .i64 t13),(14,.int .i64 t14)] [.dead,.cells [.int .i64 0,.str ([]:ai),sl af m,sl cS ([]:List ai),.int .i64 0,.str ([]:ai),.int .i64 0,sl aj m2,sl aj m2] [(2,44),(3,9),(7,42),(8,42)],.cells [.int .i64 m3,.str m4,sl af m5,sl cS ([]:List ai),.int .i64 0,.str ([]:ai),.int .i64 0,sl aj m2,sl aj m2] [(2,44),(3,9),(7,42),(8,42)]] []
def qW(o:waB):az:=cc 27 [(2,.bptr 1 0),(3,.bptr 2 0)] [.dead,.cells [.int .i64 0,.str ([]:ai),sl af m,sl cS ([]:List ai),.int .i64 0,.str ([]:ai),.int .i64 0,sl aj m2,sl aj m2] [(2,44),(3,9),(7,42),(8,42)],.cells [.int .i64 m3,.str m4,sl af o,sl cS ([]:List ai),.int .i64 0,.str ([]:ai),.int .i64 0,sl aj m2,sl aj m2] [(2,44),(3,9),(7,42),(8,42)]] []
instance iS_types_Plain_L1:KS 0 (lu t12 t13 m m2 m3 m4 t14 m5):=ks 3 rfl
instance iO_types_Plain_L1{o:waB}:KS 0 (qW m m2 m3 m4 o):=ks 3 rfl
def qV:Option ((Int×waB)⊕(waB)):=
 if decide (t14<t13)=true then
  (dn t12 t14).bind λx2=>
  (R16 x2).bind λr3=>
  (app m5 ([r3]:List ae)).bind λl4=>
  some (.inl (bw (t14+1),l4))
 else
  some (.inr m5)
def Ez:Option waB:=loop (λ(zz:Int×waB)=>qV R16 t12 t13 zz.1 zz.2) (t14,m5)
theorem xQ(hR16:pZ R16):OL 0 (cA WS 119) (qV R16 t12 t13 t14 m5) (λ(zz:Int×waB)=>lu t12 t13 m m2 m3 m4 zz.1 zz.2) (λ_=>.exit 0) (qW m m2 m3 m4) (lu t12 t13 m m2 m3 m4 t14 m5):=WH.lx<|
 tF (tb λx2 bx2=>tb λr3 br3=>tb λl4 bl4=>tv (fe.ia (k:=.i64) bx2)<|tv (fT x2)<|tx AN<|tx (jn x2)<|tK [0,1,0,4,12,31,63,127]<|tv (fH x2 [])<|bV (hR16 _ _ br3)<|tv (fe.mk' (v:=pX) ll ([r3]:List ae) 1 (by kernel_rfl))<|tv (fe.ap bl4)<|Yq (rfl:bv (sl af l4)=some [sl af l4])<|tE)<|tE
def zk(hR16:pZ R16):=uO (s:=(t14,m5)) λzz=>xQ R16 t12 t13 m m2 m3 m4 zz.1 zz.2 hR16
end
def wP(R16:lF)(t:ae):Option ae:=
 (Ez R16 t.Args (t.Args.length:Int) 0 ([]:List ae)).bind λo5=>
 some (⟨t.Op,t.Name,o5,([]:List ai),(⟨0,([]:ai),0,([]:List ah)⟩:ah),([]:List ah)⟩:ae)
theorem Co(R16:lF)(hR16:pZ R16){t:ae}:OV 68 [.agg (af t)] (wP R16 t) (λr=>.agg (af r)) [(2,44),(3,9),(7,42),(8,42)]:=WH.va<|
 tb λo5 bo5=>te (kH t)<|tx AN<|tw (df t)<|tw (cz t)<|FM (rH t.Op t.Name) (rG t.Op t.Name)<|tx AN<|ty (aV (⟨t.Op,t.Name,([]:List ae),([]:List ai),(⟨0,([]:ai),0,([]:List ah)⟩:ah),([]:List ah)⟩:ae))<|tw (bo t)<|cE (fe.ln t.Args)<|eo (zk R16 t.Args (t.Args.length:Int) ([]:List ae) ([]:List ah) t.Op t.Name 0 ([]:List ae) hR16 _ bo5)<|tz (fH (⟨t.Op,t.Name,o5,([]:List ai),(⟨0,([]:ai),0,([]:List ah)⟩:ah),([]:List ah)⟩:ae) [])<|ty (aV (⟨t.Op,t.Name,o5,([]:List ai),(⟨0,([]:ai),0,([]:List ah)⟩:ah),([]:List ah)⟩:ae))<|NP λq=>aI (lp (⟨t.Op,t.Name,o5,([]:List ai),(⟨0,([]:ai),0,([]:List ah)⟩:ah),([]:List ah)⟩:ae)) q.2
def wQ:(ae->Option ae)->(ae)->Option ae:=λ(rec:ae->Option ae) (x:ae)=>wP (λt=>rec t) x
def BF(t:ae):Option ae:=oc wQ t
theorem EA{t:ae}:OV 68 [.agg (af t)] (BF t) (λr=>.agg (af r)) [(2,44),(3,9),(7,42),(8,42)]:=pM λ_ h=>
 cV (F:=wQ) (M:=λ(x:ae) (r:ae)=>CC Pg GE 68 [.agg (af x)] (.agg (af r)) [(2,44),(3,9),(7,42),(8,42)]) (λrec hrec x r h=>Co _ (λt=>pM λr h=>hrec t r h) _ h) h
abbrev gL:=(ae->Option ai)
abbrev ja(R:gL):Prop:=∀(t:ae),OV 95 [.agg (af t)] (R t) (λr=>.str r) []
noncomputable def TK:Code:=f122.body.getD .skip
theorem TF:ZF Pg [] 122 f122 TK:=zf call122 func122 rfl mixed
section
variable(t:ae)
def pW:Option Bool:=
 if(t.Op==6)=true then
  some true
 else
  some (decide ((t.Args.length:Int)>0))
theorem vB:OU 0 (cA TK 12) (pW t) .normal (λo=>[(11,.bool o)]) (cc 18 [(1,.eptr (af t))] [.dead] []):=TF.j<|
 have pp2:=λ{X Y Z} (r:PV _ X Y Z)=>tw (df t)<|r;tf (λc1=>pp2<|tg 4 c1<|tE) λc1=>pp2<|tg 4 c1<|tw (bo t)<|cE (fe.ln t.Args)<|tE
end
def vA(R17:gL)(t:ae):Option ai:=
 (pW t).bind λo3=>
 if o3=true then
  (R17 t).bind λr5=>
  (Iw ([40]:ai) r5).bind λs6=>
  (Iw s6 ([41]:ai)).bind λs7=>
  some s7
 else
  (R17 t).bind λr8=>
  some r8
theorem zq(R17:gL)(hR17:ja R17){t:ae}:OV 122 [.agg (af t)] (vA R17 t) (λr=>.str r) []:=TF.v<|
 tb λo3 bo3=>te (kH t)<|tH 1<|eo (vB t _ bo3)<|tF (tb λr5 br5=>tb λs6 bs6=>tb λs7 bs7=>tv (fT t)<|bV (hR17 _ _ br5)<|tv (kS (P:=Pg) (t:=9) bs6)<|tv (kS (P:=Pg) (t:=9) bs7)<|tE)<|tb λr8 br8=>tv (fT t)<|bV (hR17 _ _ br8)<|tE
noncomputable def U0:Code:=f95.body.getD .skip
theorem UX:ZF Pg [38,50,72] 95 f95 U0:=zf call95 func95 rfl mixed
section
variable(R17:gL)(t26:waB)(t27:Int)(s:ai)(t28:Int)
def mH:az:=cc 73 [(3,.str s),(26,sl af t26),(27,.int .i64 t27),(28,.int .i64 t28)] [.dead] []
def sW(o:ai):az:=cc 73 [(3,.str o)] [.dead] []
instance iS_types_Text_L1:KS 0 (mH t26 t27 s t28):=ks 1 rfl
instance iO_types_Text_L1{o:ai}:KS 0 (sW o):=ks 1 rfl
def sV:Option ((ai×Int)⊕(ai)):=
 if decide (t28<t27)=true then
  (dn t26 t28).bind λx7=>
  (vA R17 x7).bind λr8=>
  (Iw ([32]:ai) r8).bind λs9=>
  (Iw s s9).bind λs10=>
  some (.inl (s10,bw (t28+1)))
 else
  some (.inr s)
def FO:Option ai:=loop (λ(zz:ai×Int)=>sV R17 t26 t27 zz.1 zz.2) (s,t28)
theorem zo(hR17:ja R17):OL 0 (cA U0 917463) (sV R17 t26 t27 s t28) (λ(zz:ai×Int)=>mH t26 t27 zz.1 zz.2) (λ_=>.exit 1) sW (mH t26 t27 s t28):=UX.lx<|
 tF (tb λx7 bx7=>tb λr8 br8=>tb λs9 bs9=>tb λs10 bs10=>tv (fe.ia (k:=.i64) bx7)<|tv (fT x7)<|tx AN<|tx (jn x7)<|tv (fH x7 [])<|bV (zq R17 hR17 _ br8)<|tv (kS (P:=Pg) (t:=9) bs9)<|tv (kS (P:=Pg) (t:=9) bs10)<|tE)<|tE
def AY(hR17:ja R17):=uO (s:=(s,t28)) λzz=>zo R17 t26 t27 zz.1 zz.2 hR17
end
section
variable(t:ae)(s:ai)(i:Int)(t46:waB)(t47:Int)(m:Int)(m2:ai)(m3:waB)(m4:waC)(m5:Int)(m6:ai)(m7:Int)(m8:waD)(m9:waD)
def wS:Option ai:=
 if(i==(bw ((t.Args.length:Int) - 1)))=true then
  (Iw s ([41,32,45,62,32]:ai)).bind λs17=>
  some s17
 else if decide (i>0)=true then
  (Iw s ([44,32]:ai)).bind λs19=>
  some s19
 else
  some s
theorem AX:OU 0 (cA U0 469757430) (wS t s i) .normal (λo=>[(6,.str o),(7,.undef)]) (cc 73 [(1,.eptr (af t)),(6,.str s),(7,.int .i64 i),(8,.bptr 1 0),(46,sl af t46),(47,.int .i64 t47),(48,.int .i64 i)] [.dead,.cells [.int .i64 m,.str m2,sl af m3,sl cS m4,.int .i64 m5,.str m6,.int .i64 m7,sl aj m8,sl aj m9] []] []):=UX.j<|
 tw (bo t)<|cE (fe.ln t.Args)<|tF (tb λs17 bs17=>tv (kS (P:=Pg) (t:=9) bs17)<|tE)<|tF (tb λs19 bs19=>tv (kS (P:=Pg) (t:=9) bs19)<|tE)<|tE
end
section
variable(R17:gL)(t:ae)(t46:waB)(t47:Int)(s:ai)(t48:Int)
def mI:az:=cc 73 [(1,.eptr (af t)),(6,.str s),(46,sl af t46),(47,.int .i64 t47),(48,.int .i64 t48)] [.dead] []
def ta(o:ai):az:=cc 73 [(6,.str o)] [.dead] []
instance iS_types_Text_L2:KS 0 (mI t t46 t47 s t48):=ks 1 rfl
instance iO_types_Text_L2{o:ai}:KS 0 (ta o):=ks 1 rfl
def sZ:Option ((ai×Int)⊕(ai)):=
 if decide (t48<t47)=true then
  (dn t46 t48).bind λx15=>
  (wS t s t48).bind λo20=>
  (R17 x15).bind λr21=>
  (Iw o20 r21).bind λs22=>
  some (.inl (s22,bw (t48+1)))
 else
  some (.inr s)
def FP:Option ai:=loop (λ(zz:ai×Int)=>sZ R17 t t46 t47 zz.1 zz.2) (s,t48)
theorem zp(hR17:ja R17):OL 0 (cA U0 7339959) (sZ R17 t t46 t47 s t48) (λ(zz:ai×Int)=>mI t t46 t47 zz.1 zz.2) (λ_=>.exit 3) ta (mI t t46 t47 s t48):=UX.lx<|
 tF (tb λx15 bx15=>tb λo20 bo20=>tb λr21 br21=>tb λs22 bs22=>tv (fe.ia (k:=.i64) bx15)<|tv (fT x15)<|tx AN<|tx (jn x15)<|tH 0<|eo (AX t s t48 t46 t47 x15.Op x15.Name x15.Args x15.Names x15.Pred.Op x15.Pred.Name x15.Pred.N x15.Pred.Kids x15.Preds _ bo20)<|tv (fH x15 [])<|bV (hR17 _ _ br21)<|tv (kS (P:=Pg) (t:=9) bs22)<|tE)<|tE
def AZ(hR17:ja R17):=uO (s:=(s,t48)) λzz=>zp R17 t t46 t47 zz.1 zz.2 hR17
end
def zm(R17:gL)(t:ae):Option ai:=
 if(t.Op==1)=true then
  some ([73,110,116]:ai)
 else if(t.Op==2)=true then
  some ([66,111,111,108]:ai)
 else if(t.Op==3)=true then
  some ([67,101,108,108]:ai)
 else if(t.Op==5)=true then
  some t.Name
 else if(t.Op==4)=true then
  (FO R17 t.Args (t.Args.length:Int) t.Name 0).bind λo11=>
  some o11
 else if(t.Op==6)=true then
  if((t.Args.length:Int)==0)=true then
   some ([63]:ai)
  else
   (FP R17 t t.Args (t.Args.length:Int) ([40]:ai) 0).bind λo23=>
   some o23
 else
  some ([63]:ai)
theorem EC(R17:gL)(hR17:ja R17){t:ae}:OV 95 [.agg (af t)] (zm R17 t) (λr=>.str r) []:=UX.v<|
 te (kH t)<|tw (df t)<|tF tE<|tF tE<|tF tE<|tF (tw (cz t)<|tE)<|tF (tb λo11 bo11=>tw (cz t)<|tw (bo t)<|cE (fe.ln t.Args)<|eo (AY R17 t.Args (t.Args.length:Int) t.Name 0 hR17 _ bo11)<|tE)<|tF (tw (bo t)<|cE (fe.ln t.Args)<|tF tE<|tb λo23 bo23=>tw (bo t)<|cE (fe.ln t.Args)<|eo (AZ R17 t t.Args (t.Args.length:Int) ([40]:ai) 0 hR17 _ bo23)<|tE)<|tE
def zn:(ae->Option ai)->(ae)->Option ai:=λ(rec:ae->Option ai) (x:ae)=>zm (λt=>rec t) x
def xS(t:ae):Option ai:=oc zn t
theorem FQ{t:ae}:OV 95 [.agg (af t)] (xS t) (λr=>.str r) []:=pM λ_ h=>
 cV (F:=zn) (M:=λ(x:ae) (r:ai)=>CC Pg GE 95 [.agg (af x)] (.str r) []) (λrec hrec x r h=>EC _ (λt=>pM λr h=>hrec t r h) _ h) h
noncomputable def XK:Code:=f62.body.getD .skip
theorem Xu:ZF Pg [] 62 f62 XK:=zf call62 func62 rfl mixed
def uM(n:Int):Option ai:=
 (RR n).bind λr1=>
 some r1
theorem uN{n:Int}:OV 62 [.int .i64 n] (uM n) (λr=>.str r) []:=Xu.v<|
 tb λr1 br1=>bV (Q2 br1)<|tE
noncomputable def VE:Code:=f97.body.getD .skip
theorem WP:ZF Pg [] 97 f97 VE:=zf call97 func97 rfl mixed
section
variable(name:ai)(t9:(List aM))(t10:Int)(t11:Int)(m:ai)(m2:waC)(m3:waE)(m4:waF)
def jt:az:=cc 22 [(1,.str name),(4,.bptr 1 0),(9,sl ay t9),(10,.int .i64 t10),(11,.int .i64 t11)] [.dead,.cells [.str m,sl cS m2,sl bT m3,sl aG m4] [(1,9),(2,223),(3,76)]] []
def qT(o:(ai×waC×waE×waF)⊕(ai×waC×waE×waF)):Exit:=match o with
 |(.inl _)=>.ret
 |(.inr _)=>.exit 0
def ls(o:(ai×waC×waE×waF)⊕(ai×waC×waE×waF)):az:=match o with
 |(.inl o)=>cc 22 [(4,.bptr 1 0),(5,.bool true)] [.dead,.cells [.str o.1,sl cS o.2.1,sl bT o.2.2.1,sl aG o.2.2.2] []] []
 |(.inr o)=>cc 22 [(4,.bptr 1 0)] [.dead,.cells [.str o.1,sl cS o.2.1,sl bT o.2.2.1,sl aG o.2.2.2] [(1,9),(2,223),(3,76)]] []
instance iS_syntax_Data_L1:KS 0 (jt name t9 t10 t11 m m2 m3 m4):=ks 2 rfl
instance iO_syntax_Data_L1{o:(ai×waC×waE×waF)⊕(ai×waC×waE×waF)}:KS 0 (ls o):=match o with
 |(.inl o)=>ks 2 rfl
 |(.inr o)=>ks 2 rfl
def qS:Option ((Int×ai×waC×waE×waF)⊕((ai×waC×waE×waF)⊕(ai×waC×waE×waF))):=
 if decide (t11<t10)=true then
  (dn t9 t11).bind λx2=>
  if(x2.Name==name)=true then
   some (.inr (.inl (x2.Name,x2.Vars,x2.Preds,x2.Cons)))
  else
   some (.inl (bw (t11+1),m,m2,m3,m4))
 else
  some (.inr (.inr (m,m2,m3,m4)))
def vp:Option ((ai×waC×waE×waF)⊕(ai×waC×waE×waF)):=loop (λ(zz:Int×ai×waC×waE×waF)=>qS name t9 t10 zz.1 zz.2.1 zz.2.2.1 zz.2.2.2.1 zz.2.2.2.2) (t11,m,m2,m3,m4)
theorem xO:OL 0 (cA VE 55) (qS name t9 t10 t11 m m2 m3 m4) (λ(zz:Int×ai×waC×waE×waF)=>jt name t9 t10 zz.1 zz.2.1 zz.2.2.1 zz.2.2.2.1 zz.2.2.2.2) qT ls (jt name t9 t10 t11 m m2 m3 m4):=WP.lx<|
 tF (tb λx2 bx2=>tv (AQ.ia (k:=.i64) bx2)<|tv (DQ x2)<|tx FI<|tx (iy x2)<|ts<|tF (tv (Gx x2 [])<|tx (iy x2)<|tE)<|tE)<|tE
theorem pV:OK 0 (.loop (cA VE 55)) (vp name t9 t10 t11 m m2 m3 m4) qT ls (jt name t9 t10 t11 m m2 m3 m4):=Iy λ_=>xO _ _ _ _ _ _ _ _
end
def vj(m:am)(name:ai):Option (aM×Bool):=
 (vp name m.Datas (m.Datas.length:Int) 0 ([]:ai) ([]:List ai) ([]:List ch) ([]:List aO)).bind λo4=>match o4 with
 |(.inl o4)=>
  some ((⟨o4.1,o4.2.1,o4.2.2.1,o4.2.2.2⟩:aM),true)
 |(.inr o4)=>
  some ((⟨([]:ai),([]:List ai),([]:List ch),([]:List aO)⟩:aM),false)
theorem Ev{m:am}{name:ai}:OV 97 [.agg (aq m),.str name] (vj m name) (λr=>.tuple [.agg (ay r.1),.bool r.2]) []:=WP.v<|
 te (fU m)<|tx FI<|tw (bO m)<|cE (AQ.ln m.Datas)<|t2 (λo4 bo4=>eo (pV name m.Datas (m.Datas.length:Int) 0 ([]:ai) ([]:List ai) ([]:List ch) ([]:List aO) _ bo4)<|NP λq=>aI (vbp PVal.tuple (jy (vV (⟨o4.1,o4.2.1,o4.2.2.1,o4.2.2.2⟩:aM)) (jy (rP (.bool true)) (rfl:([]:List PVal)=[])))) q.2) λo4 bo4=>eo (pV name m.Datas (m.Datas.length:Int) 0 ([]:ai) ([]:List ai) ([]:List ch) ([]:List aO) _ bo4)<|FM (Dj) (Di)<|ty (kE (⟨([]:ai),([]:List ai),([]:List ch),([]:List aO)⟩:aM))<|NP λq=>aI (vbp PVal.tuple (jy (vV (⟨([]:ai),([]:List ai),([]:List ch),([]:List aO)⟩:aM)) (jy (rP (.bool false)) (rfl:([]:List PVal)=[])))) q.2
noncomputable def TO:Code:=f72.body.getD .skip
theorem Vm:ZF Pg [23,31] 72 f72 TO:=zf call72 func72 rfl mixed
section
variable(name:ai)(t12:(List aM))(t13:Int)(t14:Int)(t19:waF)(t20:Int)(m5:ai)(m6:waC)(m7:waE)(t21:Int)(m:ai)(m2:waC)(m3:waE)(m4:waF)
def j0:az:=cc 35 [(1,.str name),(4,.bptr 1 0),(8,.bptr 2 0),(12,sl ay t12),(13,.int .i64 t13),(14,.int .i64 t14),(19,sl aG t19),(20,.int .i64 t20),(21,.int .i64 t21)] [.dead,.cells [.str m,sl cS m2,sl bT m3,sl aG m4] [(1,9),(2,223),(3,76)],.cells [.str m5,sl cS m6,sl bT m7,sl aG t19] []] []
def sS(o:Int⊕(ai×waC×waE×waF)):Exit:=match o with
 |(.inl _)=>.ret
 |(.inr _)=>.exit 2
def mE(o:Int⊕(ai×waC×waE×waF)):az:=match o with
 |(.inl o)=>cc 35 [(4,.bptr 1 0),(5,.int .i64 o),(6,.bool true)] [.dead,.cells [.str m5,sl cS m6,sl bT m7,sl aG t19] [],.cells [.str m5,sl cS m6,sl bT m7,sl aG t19] []] []
 |(.inr o)=>cc 35 [(1,.str name),(4,.bptr 1 0),(12,sl ay t12),(13,.int .i64 t13),(14,.int .i64 t14)] [.dead,.cells [.str o.1,sl cS o.2.1,sl bT o.2.2.1,sl aG o.2.2.2] [(1,9),(2,223),(3,76)],.cells [.str m5,sl cS m6,sl bT m7,sl aG t19] []] []
instance iS_syntax_Con_L2:KS 0 (j0 name t12 t13 t14 t19 t20 m5 m6 m7 t21 m m2 m3 m4):=ks 3 rfl
instance iO_syntax_Con_L2{o:Int⊕(ai×waC×waE×waF)}:KS 0 (mE name t12 t13 t14 t19 m5 m6 m7 o):=match o with
 |(.inl o)=>ks 3 rfl
 |(.inr o)=>ks 3 rfl
def eO:Option ((Int×ai×waC×waE×waF)⊕(Int⊕(ai×waC×waE×waF))):=
 if decide (t21<t20)=true then
  (dn t19 t21).bind λx4=>
  if(x4.Name==name)=true then
   some (.inr (.inl t21))
  else
   some (.inl (bw (t21+1),m,m2,m3,m4))
 else
  some (.inr (.inr (m,m2,m3,m4)))
def qj:Option (Int⊕(ai×waC×waE×waF)):=loop (λ(zz:Int×ai×waC×waE×waF)=>eO name t19 t20 zz.1 zz.2.1 zz.2.2.1 zz.2.2.2.1 zz.2.2.2.2) (t21,m,m2,m3,m4)
theorem zg:OL 0 (cA TO 14303) (eO name t19 t20 t21 m m2 m3 m4) (λ(zz:Int×ai×waC×waE×waF)=>j0 name t12 t13 t14 t19 t20 m5 m6 m7 zz.1 zz.2.1 zz.2.2.1 zz.2.2.2.1 zz.2.2.2.2) sS (mE name t12 t13 t14 t19 m5 m6 m7) (j0 name t12 t13 t14 t19 t20 m5 m6 m7 t21 m m2 m3 m4):=Vm.lx<|
 tF (tb λx4 bx4=>tv (Im.ia (k:=.i64) bx4)<|tv (L3 x4)<|tx Ux<|tx (Jv x4)<|ts<|tF (tv (Gx (⟨m5,m6,m7,t19⟩:aM) [])<|tx (iy (⟨m5,m6,m7,t19⟩:aM))<|tE)<|tE)<|tE
theorem qR:OK 0 (.loop (cA TO 14303)) (qj name t19 t20 t21 m m2 m3 m4) sS (mE name t12 t13 t14 t19 m5 m6 m7) (j0 name t12 t13 t14 t19 t20 m5 m6 m7 t21 m m2 m3 m4):=Iy λ_=>zg _ _ _ _ _ _ _ _ _ _ _ _ _ _
end
section
variable(name:ai)(t12:(List aM))(t13:Int)(t14:Int)(m:ai)(m2:waC)(m3:waE)(m4:waF)
def jZ:az:=cc 35 [(1,.str name),(4,.bptr 1 0),(12,sl ay t12),(13,.int .i64 t13),(14,.int .i64 t14)] [.dead,.cells [.str m,sl cS m2,sl bT m3,sl aG m4] [(1,9),(2,223),(3,76)]] []
def sR(o:(Int×ai×waC×waE×waF)⊕(ai×waC×waE×waF)):Exit:=match o with
 |(.inl _)=>.ret
 |(.inr _)=>.exit 0
def mD(o:(Int×ai×waC×waE×waF)⊕(ai×waC×waE×waF)):az:=match o with
 |(.inl o)=>cc 35 [(4,.bptr 1 0),(5,.int .i64 o.1),(6,.bool true)] [.dead,.cells [.str o.2.1,sl cS o.2.2.1,sl bT o.2.2.2.1,sl aG o.2.2.2.2] []] []
 |(.inr o)=>cc 35 [(4,.bptr 1 0)] [.dead,.cells [.str o.1,sl cS o.2.1,sl bT o.2.2.1,sl aG o.2.2.2] [(1,9),(2,223),(3,76)]] []
instance iS_syntax_Con_L1:KS 0 (jZ name t12 t13 t14 m m2 m3 m4):=ks 2 rfl
instance iO_syntax_Con_L1{o:(Int×ai×waC×waE×waF)⊕(ai×waC×waE×waF)}:KS 0 (mD o):=match o with
 |(.inl o)=>ks 2 rfl
 |(.inr o)=>ks 2 rfl
def eN:Option ((Int×ai×waC×waE×waF)⊕((Int×ai×waC×waE×waF)⊕(ai×waC×waE×waF))):=
 if decide (t14<t13)=true then
  (dn t12 t14).bind λx2=>
  (qj name x2.Cons (x2.Cons.length:Int) 0 m m2 m3 m4).bind λo6=>match o6 with
  |(.inl o6)=>
   some (.inr (.inl (o6,x2.Name,x2.Vars,x2.Preds,x2.Cons)))
  |(.inr o6)=>
   some (.inl (bw (t14+1),o6.1,o6.2.1,o6.2.2.1,o6.2.2.2))
 else
  some (.inr (.inr (m,m2,m3,m4)))
def qi:Option ((Int×ai×waC×waE×waF)⊕(ai×waC×waE×waF)):=loop (λ(zz:Int×ai×waC×waE×waF)=>eN name t12 t13 zz.1 zz.2.1 zz.2.2.1 zz.2.2.2.1 zz.2.2.2.2) (t14,m,m2,m3,m4)
theorem ze:OL 0 (cA TO 55) (eN name t12 t13 t14 m m2 m3 m4) (λ(zz:Int×ai×waC×waE×waF)=>jZ name t12 t13 zz.1 zz.2.1 zz.2.2.1 zz.2.2.2.1 zz.2.2.2.2) sR mD (jZ name t12 t13 t14 m m2 m3 m4):=Vm.lx<|
 tF (tb λx2 bx2=>tv (AQ.ia (k:=.i64) bx2)<|tv (DQ x2)<|tx FI<|tx (iy x2)<|ts<|cE (Im.ln x2.Cons)<|t2 (λo6 bo6=>eo (qR name t12 t13 t14 x2.Cons (x2.Cons.length:Int) x2.Name x2.Vars x2.Preds 0 m m2 m3 m4 _ bo6)<|tE) λo6 bo6=>eo (qR name t12 t13 t14 x2.Cons (x2.Cons.length:Int) x2.Name x2.Vars x2.Preds 0 m m2 m3 m4 _ bo6)<|tE)<|tE
theorem qQ:OK 0 (.loop (cA TO 55)) (qi name t12 t13 t14 m m2 m3 m4) sR mD (jZ name t12 t13 t14 m m2 m3 m4):=Iy λ_=>ze _ _ _ _ _ _ _ _
end
def fZ(m:am)(name:ai):Option (aM×Int×Bool):=
 (qi name m.Datas (m.Datas.length:Int) 0 ([]:ai) ([]:List ai) ([]:List ch) ([]:List aO)).bind λo7=>match o7 with
 |(.inl o7)=>
  some ((⟨o7.2.1,o7.2.2.1,o7.2.2.2.1,o7.2.2.2.2⟩:aM),o7.1,true)
 |(.inr o7)=>
  some ((⟨([]:ai),([]:List ai),([]:List ch),([]:List aO)⟩:aM),0,false)
theorem jT{m:am}{name:ai}:OV 72 [.agg (aq m),.str name] (fZ m name) (λr=>.tuple [.agg (ay r.1),.int .i64 r.2.1,.bool r.2.2]) []:=Vm.v<|
 te (fU m)<|tx FI<|tw (bO m)<|cE (AQ.ln m.Datas)<|t2 (λo7 bo7=>eo (qQ name m.Datas (m.Datas.length:Int) 0 ([]:ai) ([]:List ai) ([]:List ch) ([]:List aO) _ bo7)<|NP λq=>aI (vbp PVal.tuple (jy (vV (⟨o7.2.1,o7.2.2.1,o7.2.2.2.1,o7.2.2.2.2⟩:aM)) (jy (rP (.int .i64 o7.1)) (jy (rP (.bool true)) (rfl:([]:List PVal)=[]))))) q.2) λo7 bo7=>eo (qQ name m.Datas (m.Datas.length:Int) 0 ([]:ai) ([]:List ai) ([]:List ch) ([]:List aO) _ bo7)<|FM (Dj) (Di)<|ty (kE (⟨([]:ai),([]:List ai),([]:List ch),([]:List aO)⟩:aM))<|NP λq=>aI (vbp PVal.tuple (jy (vV (⟨([]:ai),([]:List ai),([]:List ch),([]:List aO)⟩:aM)) (jy (rP (.int .i64 0)) (jy (rP (.bool false)) (rfl:([]:List PVal)=[]))))) q.2
abbrev cO:=(aa->aa->Option Int)
abbrev jU(R:cO):Prop:=∀(a:aa) (a2:aa),OV 20 [.agg (ac a),.agg (ac a2)] (R a a2) (λr=>.int .i64 r) []
abbrev gM:=(aa->Option Int)
abbrev rv(R:gM):Prop:=∀(v:aa),OV 22 [.agg (ac v)] (R v) (λr=>.int .i64 r) []
noncomputable def Vp:Code:=f22.body.getD .skip
theorem UT:ZF Pg [18] 22 f22 Vp:=zf call22 func22 rfl mixed
section
variable(R23:gM)(t7:waA)(t8:Int)(n:Int)(t9:Int)
def ij:az:=cc 19 [(3,.int .i64 n),(7,sl ac t7),(8,.int .i64 t8),(9,.int .i64 t9)] [.dead] []
def mK(o:Int):az:=cc 19 [(3,.int .i64 o)] [.dead] []
instance iS_value_Size_L1:KS 0 (ij t7 t8 n t9):=ks 1 rfl
instance iO_value_Size_L1{o:Int}:KS 0 (mK o):=ks 1 rfl
def dT:Option ((Int×Int)⊕(Int)):=
 if decide (t9<t8)=true then
  (dn t7 t9).bind λx2=>
  (R23 x2).bind λr3=>
  some (.inl (bw (n+r3),bw (t9+1)))
 else
  some (.inr n)
def wW:Option Int:=loop (λ(zz:Int×Int)=>dT R23 t7 t8 zz.1 zz.2) (n,t9)
theorem zC(hR23:rv R23):OL 0 (cA Vp 119) (dT R23 t7 t8 n t9) (λ(zz:Int×Int)=>ij t7 t8 zz.1 zz.2) (λ_=>.exit 0) mK (ij t7 t8 n t9):=UT.lx<|
 tF (tb λx2 bx2=>tb λr3 br3=>tv (bz.ia (k:=.i64) bx2)<|tv (aK x2)<|tx wo<|tx (dG x2)<|tv (aF x2 [])<|bV (hR23 _ _ br3)<|tE)<|tE
def A7(hR23:rv R23):=uO (s:=(n,t9)) λzz=>zC R23 t7 t8 zz.1 zz.2 hR23
end
def kU(R23:gM)(v:aa):Option Int:=
 (wW R23 v.Kids (v.Kids.length:Int) 1 0).bind λo4=>
 some o4
theorem EF(R23:gM)(hR23:rv R23){v:aa}:OV 22 [.agg (ac v)] (kU R23 v) (λr=>.int .i64 r) []:=UT.v<|
 tb λo4 bo4=>te (dP v)<|tw (bh v)<|cE (bz.ln v.Kids)<|eo (A7 R23 v.Kids (v.Kids.length:Int) 1 0 hR23 _ bo4)<|tE
def nC:(aa->Option Int)->(aa)->Option Int:=λ(rec:aa->Option Int) (x:aa)=>kU (λv=>rec v) x
def ly(v:aa):Option Int:=oc nC v
theorem cp{v:aa}:OV 22 [.agg (ac v)] (ly v) (λr=>.int .i64 r) []:=pM λ_ h=>
 cV (F:=nC) (M:=λ(x:aa) (r:Int)=>CC Pg GE 22 [.agg (ac x)] (.int .i64 r) []) (λrec hrec x r h=>EF _ (λv=>pM λr h=>hrec v r h) _ h) h
noncomputable def XO:Code:=f80.body.getD .skip
theorem WM:ZF Pg [] 80 f80 XO:=zf call80 func80 rfl mixed
def qC(a:Int):Option Bool:=
 some (a !=a)
theorem yF{a:Int}:OV 80 [.int .i64 a] (qC a) (λr=>.bool r) []:=WM.v<|
 tE
noncomputable def XH:Code:=f57.body.getD .skip
theorem WE:ZF Pg [] 57 f57 XH:=zf call57 func57 rfl mixed
def km(a:Int)(a2:Int):Option Int:=
 (qC a).bind λr1=>
 (qC a2).bind λr2=>
 if r1=true then
  if r2=true then
   some 0
  else
   some (-1)
 else if r2=true then
  some 1
 else if decide (a<a2)=true then
  some (-1)
 else if decide (a>a2)=true then
  some 1
 else
  some 0
theorem ut{a:Int}{a2:Int}:OV 57 [.int .i64 a,.int .i64 a2] (km a a2) (λr=>.int .i64 r) []:=WE.v<|
 tb λr1 br1=>tb λr2 br2=>bV (yF _ br1)<|bV (yF _ br2)<|tF (tF tE<|tE)<|tF tE<|tF tE<|tF tE<|tE
noncomputable def XP:Code:=f81.body.getD .skip
theorem WN:ZF Pg [] 81 f81 XP:=zf call81 func81 rfl mixed
def lX(a:Int):Option Bool:=
 some (a !=a)
theorem uv{a:Int}:OV 81 [.int .i64 a] (lX a) (λr=>.bool r) []:=WN.v<|
 tE
noncomputable def XI:Code:=f58.body.getD .skip
theorem WF:ZF Pg [] 58 f58 XI:=zf call58 func58 rfl mixed
def jM(a:Int)(a2:Int):Option Int:=
 (lX a).bind λr1=>
 (lX a2).bind λr2=>
 if r1=true then
  if r2=true then
   some 0
  else
   some (-1)
 else if r2=true then
  some 1
 else if decide (a<a2)=true then
  some (-1)
 else if decide (a>a2)=true then
  some 1
 else
  some 0
theorem Aj{a:Int}{a2:Int}:OV 58 [.int .i64 a,.int .i64 a2] (jM a a2) (λr=>.int .i64 r) []:=WF.v<|
 tb λr1 br1=>tb λr2 br2=>bV (uv _ br1)<|bV (uv _ br2)<|tF (tF tE<|tE)<|tF tE<|tF tE<|tF tE<|tE
noncomputable def XQ:Code:=f82.body.getD .skip
theorem WO:ZF Pg [] 82 f82 XQ:=zf call82 func82 rfl mixed
def lY(a:ai):Option Bool:=
 some (!(a==a))
theorem uw{a:ai}:OV 82 [.str a] (lY a) (λr=>.bool r) []:=WO.v<|
 tE
noncomputable def XJ:Code:=f59.body.getD .skip
theorem WG:ZF Pg [] 59 f59 XJ:=zf call59 func59 rfl mixed
def jN(a:ai)(a2:ai):Option Int:=
 (lY a).bind λr1=>
 (lY a2).bind λr2=>
 if r1=true then
  if r2=true then
   some 0
  else
   some (-1)
 else if r2=true then
  some 1
 else if(Op.bytesLess a a2)=true then
  some (-1)
 else if(!(Op.bytesLess a a2||a==a2))=true then
  some 1
 else
  some 0
theorem Ak{a:ai}{a2:ai}:OV 59 [.str a,.str a2] (jN a a2) (λr=>.int .i64 r) []:=WG.v<|
 tb λr1 br1=>tb λr2 br2=>bV (uw _ br1)<|bV (uw _ br2)<|tF (tF tE<|tE)<|tF tE<|tF tE<|tF tE<|tE
noncomputable def TM:Code:=f56.body.getD .skip
theorem UV:ZF Pg [15,17] 56 f56 TM:=zf call56 func56 rfl mixed
section
variable(t6:(List Int))(t7:Int)(t8:Int)
def kn:az:=cc 18 [(3,.int .i64 0),(6,sl (cI .i64) t6),(7,.int .i64 t7),(8,.int .i64 t8)] [] []
def pq(o:Int⊕(Unit)):Exit:=match o with
 |(.inl _)=>.ret
 |(.inr _)=>.exit 0
def pr(o:Int⊕(Unit)):az:=match o with
 |(.inl o)=>cc 18 [(2,.int .i64 o)] [] []
 |(.inr o)=>cc 18 [(3,.int .i64 0)] [] []
def eS:Option (Int⊕(Int⊕(Unit))):=
 if decide (t8<t7)=true then
  (dn t6 t8).bind λx2=>
  if(x2 !=0)=true then
   some (.inr (.inl x2))
  else
   some (.inl (bw (t8+1)))
 else
  some (.inr (.inr ()))
def vJ:Option (Int⊕(Unit)):=loop (λ(zz:Int)=>eS t6 t7 zz) t8
theorem E7:OL 0 (cA TM 119) (eS t6 t7 t8) (λ(zz:Int)=>kn t6 t7 zz) pq pr (kn t6 t7 t8):=UV.l<|
 tF (tb λx2 bx2=>tv (GZ.ia (k:=.i64) bx2)<|tv (AL Xi (.int .i64 x2) [])<|tF tE<|tE)<|tE
theorem yE:OK 0 (.loop (cA TM 119)) (vJ t6 t7 t8) pq pr (kn t6 t7 t8):=Iy λ_=>E7 _ _ _
end
def Dp(vals:(List Int)):Option Int:=
 (vJ vals (vals.length:Int) 0).bind λo4=>match o4 with
 |(.inl o4)=>
  some o4
 |(.inr o4)=>
  some 0
theorem MK{vals:(List Int)}:OV 56 [sl (cI .i64) vals] (Dp vals) (λr=>.int .i64 r) []:=UV.v<|
 cE (GZ.ln vals)<|t2 (λo4 bo4=>eo (yE vals (vals.length:Int) 0 _ bo4)<|tE) λo4 bo4=>eo (yE vals (vals.length:Int) 0 _ bo4)<|tE
noncomputable def TN:Code:=f60.body.getD .skip
theorem UW:ZF Pg [15,32] 60 f60 TN:=zf call60 func60 rfl mixed
section
variable(R22:cO)(s1:waA)(s2:waA)(t12:Int)(t13:Int)
def cm:az:=cc 39 [(0,sl ac s1),(1,sl ac s2),(2,.func (.func 20) [] []),(11,sl ac s1),(12,.int .i64 t12),(13,.int .i64 t13)] [] []
def eB(o:Int⊕(Unit)):Exit:=match o with
 |(.inl _)=>.ret
 |(.inr _)=>.exit 0
def dq(o:Int⊕(Unit)):az:=match o with
 |(.inl o)=>cc 39 [(6,.int .i64 o)] [] []
 |(.inr o)=>cc 39 [(0,sl ac s1),(1,sl ac s2)] [] []
instance iS_slices_CompareFunc_L1:KS 0 (cm s1 s2 t12 t13):=ks 0 rfl
instance iO_slices_CompareFunc_L1{o:Int⊕(Unit)}:KS 0 (dq s1 s2 o):=match o with
 |(.inl o)=>ks 0 rfl
 |(.inr o)=>ks 0 rfl
def bC:Option (Int⊕(Int⊕(Unit))):=
 if decide (t13<t12)=true then
  (dn s1 t13).bind λx2=>
  if decide (t13>=(s2.length:Int))=true then
   some (.inr (.inl 1))
  else
   (dn s2 t13).bind λx4=>
   (R22 x2 x4).bind λr5=>
   if(r5 !=0)=true then
    some (.inr (.inl r5))
   else
    some (.inl (bw (t13+1)))
 else
  some (.inr (.inr ()))
def fw:Option (Int⊕(Unit)):=loop (λ(zz:Int)=>bC R22 s1 s2 t12 zz) t13
theorem oT(hR22:jU R22):OL 0 (cA TN 55) (bC R22 s1 s2 t12 t13) (λ(zz:Int)=>cm s1 s2 t12 zz) eB (dq s1 s2) (cm s1 s2 t12 t13):=UW.lx<|
 tF (tb λx2 bx2=>tv (bz.ia (k:=.i64) bx2)<|tv (aK x2)<|tx wo<|tx (dG x2)<|cE (bz.ln s2)<|tF tE<|tb λx4 bx4=>tb λr5 br5=>tv (bz.ia (k:=.i64) bx4)<|tv (aK x4)<|tx wo<|tx (dG x4)<|tv (aF x2 [])<|tv (aF x4 [])<|bV (hR22 _ _ _ br5)<|tF tE<|tE)<|tE
theorem jQ(hR22:jU R22):OK 0 (.loop (cA TN 55)) (fw R22 s1 s2 t12 t13) eB (dq s1 s2) (cm s1 s2 t12 t13):=Iy λ_=>oT _ _ _ _ _ hR22
end
def fi(R22:cO)(s1:waA)(s2:waA):Option Int:=
 (fw R22 s1 s2 (s1.length:Int) 0).bind λo7=>match o7 with
 |(.inl o7)=>
  some o7
 | (.inr o7) =>
  if decide ((s1.length:Int)<(s2.length:Int))=true then
   some (-1)
  else
   some 0
theorem tC(R22:cO)(hR22:jU R22){s1:waA}{s2:waA}:OV 60 [sl ac s1,sl ac s2,.func (.func 20) [] []] (fi R22 s1 s2) (λr=>.int .i64 r) []:=UW.v<|
 cE (bz.ln s1)<|t2 (λo7 bo7=>eo (jQ R22 s1 s2 (s1.length:Int) 0 hR22 _ bo7)<|tE) λo7 bo7=>eo (jQ R22 s1 s2 (s1.length:Int) 0 hR22 _ bo7)<|cE (bz.ln s1)<|cE (bz.ln s2)<|tF tE<|tE
noncomputable def XB:Code:=f20.body.getD .skip
theorem Wx:ZF Pg [30] 20 f20 XB:=zf call20 func20 rfl mixed
def ii(R22:cO)(a:aa)(a2:aa):Option Int:=
 (ly a).bind λr1=>
 (ly a2).bind λr2=>
 (km r1 r2).bind λr3=>
 (jM a.Op a2.Op).bind λr4=>
 (km a.N a2.N).bind λr5=>
 (jN a.Name a2.Name).bind λr6=>
 (Dp ([r3,r4,r5,r6]:List Int)).bind λr7=>
 if(r7 !=0)=true then
  some r7
 else
  (fi R22 a.Kids a2.Kids).bind λr9=>
  some r9
theorem zx(R22:cO)(hR22:jU R22){a:aa}{a2:aa}:OV 20 [.agg (ac a),.agg (ac a2)] (ii R22 a a2) (λr=>.int .i64 r) []:=Wx.v<|
 tb λr1 br1=>tb λr2 br2=>tb λr3 br3=>tb λr4 br4=>tb λr5 br5=>tb λr6 br6=>tb λr7 br7=>te (dP a)<|te (dP a2)<|tK [0,1,0,7,15,0,32,0,128,511,0,1024,0,4096,16383,0,32768,0,131072,524287,1048575,2097151,4194303]<|tv (aK a)<|bV (cp _ br1)<|tv (aK a2)<|bV (cp _ br2)<|bV (ut _ br3)<|tw (bA a)<|tw (bA a2)<|bV (Aj _ br4)<|tw (aS a)<|tw (aS a2)<|bV (ut _ br5)<|tw (bJ a)<|tw (bJ a2)<|bV (Ak _ br6)<|tv (GZ.mk' (v:=(PVal.int .i64)) (Xc .i64) ([r3,r4,r5,r6]:List Int) 4 (by kernel_rfl))<|bV (MK _ br7)<|tF tE<|tb λr9 br9=>tw (bh a)<|tw (bh a2)<|bV (tC R22 hR22 _ br9)<|tE
def j2:((aa×aa)->Option Int)->(aa×aa)->Option Int:=λ(rec:(aa×aa)->Option Int) (x:aa×aa)=>ii (λa a2=>rec (a,a2)) x.1 x.2
def ek(a:aa)(a2:aa):Option Int:=oc j2 (a,a2)
theorem jw{a:aa}{a2:aa}:OV 20 [.agg (ac a),.agg (ac a2)] (ek a a2) (λr=>.int .i64 r) []:=pM λ_ h=>
 cV (F:=j2) (M:=λ(x:aa×aa) (r:Int)=>CC Pg GE 20 [.agg (ac x.1),.agg (ac x.2)] (.int .i64 r) []) (λrec hrec x r h=>zx _ (λa a2=>pM λr h=>hrec (a,a2) r h) _ h) h
noncomputable def VD:Code:=f96.body.getD .skip
theorem Vn:ZF Pg [11,27,32] 96 f96 VD:=zf call96 func96 rfl mixed
section
variable(out:waA)(n:Int)
def qY:az:=cc 33 [(3,sl ac out),(4,.int .i64 n)] [] [((3,0),36)]
def A9(o:waA):az:=cc 33 [(3,sl ac o)] [] [((3,0),36)]
def qZ:Option ((waA×Int)⊕(waA)):=
 if decide (n<=2)=true then
  (app out ([(⟨4,n,([]:ai),([]:List aa),([]:List ai),([]:List al),([]:List aB)⟩:aa)]:List aa)).bind λl4=>
  some (.inl (l4,bw (n+1)))
 else
  some (.inr out)
def EH:Option waA:=loop (λ(zz:waA×Int)=>qZ zz.1 zz.2) (out,n)
theorem xZ:OL 0 (cA VD 7671) (qZ out n) (λ(zz:waA×Int)=>qY zz.1 zz.2) (λ_=>.exit 3) A9 (qY out n):=Vn.l<|
 tF (tb λl4 bl4=>FM (lJ 4 n) (lH 4 n)<|tv (bz.mk' (v:=oJ) lm ([(⟨4,n,([]:ai),([]:List aa),([]:List ai),([]:List al),([]:List aB)⟩:aa)]:List aa) 1 (by kernel_rfl))<|tv (bz.ap bl4)<|tE)<|tE
def zH:=uO (s:=(out,n)) λzz=>xZ zz.1 zz.2
end
section
variable(out:waA)(n:Int)
def ra:az:=cc 33 [(3,sl ac out),(5,.int .i64 n)] [] [((3,0),36)]
def Ba(o:waA):az:=cc 33 [(3,sl ac o)] [] [((3,0),36)]
def rb:Option ((waA×Int)⊕(waA)):=
 if decide (n<=2)=true then
  (app out ([(⟨1,n,([]:ai),([]:List aa),([]:List ai),([]:List al),([]:List aB)⟩:aa)]:List aa)).bind λl7=>
  some (.inl (l7,bw (n+1)))
 else
  some (.inr out)
def EI:Option waA:=loop (λ(zz:waA×Int)=>rb zz.1 zz.2) (out,n)
theorem ya:OL 0 (cA VD 7679) (rb out n) (λ(zz:waA×Int)=>ra zz.1 zz.2) (λ_=>.exit 1) Ba (ra out n):=Vn.l<|
 tF (tb λl7 bl7=>FM (lJ 1 n) (lH 1 n)<|tv (bz.mk' (v:=oJ) lm ([(⟨1,n,([]:ai),([]:List aa),([]:List ai),([]:List al),([]:List aB)⟩:aa)]:List aa) 1 (by kernel_rfl))<|tv (bz.ap bl7)<|tE)<|tE
def zI:=uO (s:=(out,n)) λzz=>ya zz.1 zz.2
end
def pY(op:Int):Option waA:=
 if(op==2)=true then
  some ([(⟨2,0,([]:ai),([]:List aa),([]:List ai),([]:List al),([]:List aB)⟩:aa),(⟨2,1,([]:ai),([]:List aa),([]:List ai),([]:List al),([]:List aB)⟩:aa)]:List aa)
 else if(op==3)=true then
  (EH ([]:List aa) (-2)).bind λo5=>
  some o5
 else
  (EI ([]:List aa) (-2)).bind λo8=>
  some o8
theorem EJ{op:Int}:OV 96 [.int .i64 op] (pY op) (λr=>sl ac r) [(0,36)]:=Vn.v<|
 tF (FM (IM 2) (IK 2)<|FM (lJ 2 1) (lH 2 1)<|tv (bz.mk' (v:=oJ) lm ([(⟨2,0,([]:ai),([]:List aa),([]:List ai),([]:List al),([]:List aB)⟩:aa),(⟨2,1,([]:ai),([]:List aa),([]:List ai),([]:List al),([]:List aB)⟩:aa)]:List aa) 2 (by kernel_rfl))<|tE)<|tF (tb λo5 bo5=>eo (zH ([]:List aa) (-2) _ bo5)<|tE)<|tb λo8 bo8=>eo (zI ([]:List aa) (-2) _ bo8)<|tE
open Go
theorem bK{n:Int}(h1: -9223372036854775808<=n)(h2:n<9223372036854775808):bw n=n:=Th h1 h2
theorem aU{α:Type}(l:List α)(i:Nat)(h:i<l.length):dn l (i:Int)=some l[i]:=by
 unfold dn
 rw[vaA (by omega)]
 simp[h]
theorem Sg{α:Type}{l r:List α}(h:l.length+r.length<=1073741824):app l r=some (l++r):=vaA h
theorem Ay{σ X:Type}{body:σ->Option (σ⊕X)}{s s':σ}(h:body s=some (.inl s')):loop body s=loop body s':=by rw[jl,h]
theorem jk{σ X:Type}{body:σ->Option (σ⊕X)}{s:σ}{x:X}(h:body s=some (.inr x)):loop body s=some x:=by rw[jl,h]
def NF{α σ X:Type}(f:Nat->α->σ->σ⊕X)(e:σ->X):List α->Nat->σ->X
 |[],_,s=>e s
 |x::r,i,s=>match f i x s with
  |.inl s'=>NF f e r (i+1) s'
  |.inr y=>y
theorem O9{α σ τ X:Type}(l:List α)(hl:l.length<9223372036854775808)(mk:Int->σ->τ)(body:τ->Option (τ⊕X))(I:Nat->σ->Prop)(f:Nat->α->σ->σ⊕X)(e:σ->X)
  (hin:∀(i:Nat) (h:i<l.length) s,I i s->body (mk i s)=some (match f i l[i] s with|.inl s'=>.inl (mk (bw ((i:Int)+1)) s')|.inr y=>.inr y)/\∀s',f i l[i] s=.inl s'->I (i+1) s')
  (hend:∀s,I l.length s->body (mk l.length s)=some (.inr (e s))):∀(i:Nat) (s:σ),i<=l.length->I i s->loop body (mk i s)=some (NF f e (l.drop i) i s):=by
 intro i s hi hI
 obtain⟨k,hk⟩:∃k,k+i=l.length:=⟨l.length - i,by omega⟩
 induction k generalizing i s with
 |zero=>
  have:i=l.length:=by omega
  subst this
  rw[jl,hend s hI,vbU]
  rfl
 | succ k ih =>
  have hlt:i<l.length:=by omega
  obtain⟨h1,h2⟩:=hin i hlt s hI
  rw[jl,h1,vaR hlt]
  unfold NF
  cases hf:f i l[i] s with
  |inl s'=>
   simp only
   rw[bK (by omega) (by omega)]
   have:=ih (i+1) s' (by omega) (h2 s' hf) (by omega)
   rw[show((i:Int)+1)=((i+1:Nat):Int) by omega]
   exact this
  |inr y=>rfl
theorem JP{α X:Type}(p:α->Bool)(y e:X):∀(l:List α) (i:Nat),NF (λ_ x (_:Unit)=>if p x=true then Sum.inr y else .inl ()) (λ_=>e) l i ()=if l.any p=true then y else e
 |[],i=>by simp[NF]
 | x :: l,i => by
  have ih:=JP p y e l (i+1)
  unfold NF
  by_cases h:p x=true
  ·simp[h]
  ·simp only[h,if_false,ih,List.any_cons,Bool.false_or,vba]
theorem O8{α X:Type}(l:List α)(hl:l.length<9223372036854775808)(body:Int->Option (Int⊕X))(p:α->Bool)(y e:X)
  (hin:∀(i:Nat) (h:i<l.length),body i=some (if p l[i]=true then .inr y else .inl (bw ((i:Int)+1)))) (hend:body l.length=some (.inr e)) (i:Nat) (hi:i<=l.length):
  loop body (i:Int)=some (if(l.drop i).any p=true then y else e):=by
 have:=O9 l hl (λi (_:Unit)=>i) body (λ_ _=>True) (λ_ x _=>if p x=true then Sum.inr y else .inl ()) (λ_=>e) (λi h s _=>⟨?_,λ_ _=>trivial⟩) (λs _=>hend) i () hi vzz
 ·rw[this,JP]
 ·rw[hin i h]
  by_cases hp:p l[i]=true<;>simp[hp]
open Go Go.RowKit Go.Proofs.Tryz
section
variable{α τ:Type}
def DD(f:τ->α->Option (Bool×τ)):List α->τ->Option (Bool×τ)
 |[],s=>some (true,s)
 |x::l,s=>(f s x).bind λr=>match r.1 with
  |true=>DD f l r.2
  |false=>some (false,r.2)
end
abbrev fq:=List (ai×List aa)
def Ry(size:Int)(k:Nat):List Int:=(List.range (size - k).toNat).map λ(i:Nat)=>(i:Int)+1
section
variable{S:Type}(R:ae->Int->fq->Option (List aa×fq))(step:S->List aa->Option (Bool×S))
def FY:List ae->Int->List aa->S×fq->Option (Bool×S×fq)
 |[],size,kids,s=>if(size !=0)=true then some (true,s)else(step s.1 kids).bind λr=>some (r.1,r.2,s.2)
 |t::ts,size,kids,s=>DD (λs n=>(R t n s.2).bind λq=>DD (λs v=>(app kids [v]).bind λks=>FY ts (size - n) ks s) q.1 (s.1,q.2)) (Ry size ts.length) s
end
abbrev SF:Nat:=147
abbrev RP:Nat:=67
abbrev eV:Nat:=36
abbrev tV:Nat:=31
noncomputable def Qu:Code:=f147.body.getD .skip
abbrev W3:Code:=bg Qu [false]
abbrev W4:Code:=bg Qu [true,false,false]
abbrev CE:Code:=bg Qu [true,false,true,false,false]
abbrev W5:Code:=bg Qu [true,true,false,false]
abbrev iL:Code:=bg Qu [true,true,false,true,true,true]
abbrev W6:Code:=bg iL [false,false]
abbrev rq:Code:=bg iL [true,false,true,false]
abbrev iM:Code:=bg iL [true,false,true,true,true,true]
abbrev W7:Code:=bg iL [true,true]
abbrev W8:Code:=bg iM [false]
abbrev iB:Code:=bg iM [true,true,false,true]
abbrev Uf:Code:=bg iM [true,true,true]
abbrev VZ:Code:=bg iB [false]
abbrev vL:Code:=bg iB [true,false]
abbrev iC:Code:=bg iB [true,true,false,false]
abbrev Ue:Code:=bg iB [true,true,false,true,false,false]
abbrev np:Code:=bg iB [true,true,true]
abbrev Ug:Code:=bg Qu [true,true,true,false]
theorem Sq:Qu=.seq W3 (.seq (.seq W4 (.cond (.tmp 14) (.seq CE .ret) .skip)) (.seq (.seq W5 (.block 0 (.loop iL))) (.seq Ug .ret))):=by kernel_rfl
theorem Uc:iL=.seq (.seq W6 (.cond (.tmp 28) .skip (.exit 0))) (.seq (.block 1 (.seq rq (.block 2 (.loop iM)))) W7):=by kernel_rfl
theorem Ud:iM=.seq W8 (.seq (.cond (.tmp 39) .skip (.exit 2)) (.seq (.block 3 iB) Uf)):=by kernel_rfl
theorem Ub:iB=.seq VZ (.seq vL (.seq (.seq iC (.cond (.tmp 55) (.seq Ue .ret) .skip)) np)):=by kernel_rfl
theorem SI:CE=.region (wJ CE) (bW CE) false:=by kernel_rfl
theorem SJ:rq=.region (wJ rq) (bW rq) true:=by kernel_rfl
theorem SK:vL=.region (wJ vL) (bW vL) true:=by kernel_rfl
theorem QV:iC=.region (wJ iC) (bW iC) true:=by kernel_rfl
theorem QW:np=.region (wJ np) (bW np) false:=by kernel_rfl
abbrev yv(l:Nat):PVal:=.val (.func (.yield l) #[] #[])
structure Cx where
 l:Nat
 kb:Nat
 mb:Nat
 m:am
 fv:Value
abbrev Cx.mv(x:Cx):Value:=.map (some x.mb)
abbrev Cx.kp(x:Cx):Value:=.pointer (some ⟨x.kb,0,none⟩)
abbrev Cx.sp(x:Cx):List PVal:=aq x.m++[.val x.mv]
abbrev Cu(x:Cx)(ts:List ae)(size:Int)(L:List (Nat×PVal))(H:List av):az:=cc 62 ((0,sl af ts)::(1,.int .i64 size)::(2,.eptr [yv x.l])::(3,.val x.kp)::(4,.eptr x.sp)::(5,.eptr [.val x.fv])::L) H []
theorem RJ(x:Cx):dU 0 x.sp:=la.2 ⟨rK x.m,vzz,vzz⟩
theorem Oo(x:Cx)(ts:List ae)(size:Int){L:List (Nat×PVal)}(h:IS 0 L)(H:List av):dU 0 (Cu x ts size L H).tmps:=
 pp ⟨ba dD ts,vzz,⟨vzz,vzz⟩,vzz,(show dU 0 x.sp from RJ x),⟨vzz,vzz⟩,h⟩
abbrev Qc(b:Bool):az:=cc 62 [(8,.bool b)] [] []
section
variable(x:Cx)(ts:List ae)(size n i:Int)(l:List aa)(y:aa)
theorem XY:cQ Pg GE 0 W3 (EX .normal (Cu x ts size [] [])) (Cu x ts size [] []):=by
 have z:=eF .normal (Cu x ts size [] [])
 exact cN (A:=[]) mixed z (by kernel_rfl)
theorem XZ:cQ Pg GE 0 W4 (EX .normal (Cu x ts size [(14,.bool ((ts.length:Int)==0))] [])) (Cu x ts size [] []):=by
 have z:=U8 (fe.ln ts)<|eF .normal (Cu x ts size [(14,.bool ((ts.length:Int)==0))] [])
 exact cN (A:=[]) mixed z (by kernel_rfl)
theorem X0(c:(size !=0)=true):cQ Pg GE 0 (.seq CE .ret) (EX .ret (Qc true)) (Cu x ts size [] []):=by
 have z:=sg 3 c<|eF .ret (Qc true)
 exact cN (A:=[]) mixed z (by kernel_rfl)
theorem X1:cQ Pg GE 0 W5 (EX .normal (Cu x ts size [(9,.int .i64 1)] [])) (Cu x ts size [] []):=by
 have z:=eF .normal (Cu x ts size [(9,.int .i64 1)] [])
 exact cN (A:=[]) mixed z (by kernel_rfl)
theorem X2:cQ Pg GE 0 W6 (EX .normal (Cu x ts size [(9,.int .i64 n),(28,.bool (decide (n<=bw (bw (size - (ts.length:Int))+1))))] [])) (Cu x ts size [(9,.int .i64 n)] []):=by
 have z:=U8 (fe.ln ts)<|eF .normal (Cu x ts size [(9,.int .i64 n),(28,.bool (decide (n<=bw (bw (size - (ts.length:Int))+1))))] [])
 exact cN (A:=[]) mixed z (by kernel_rfl)
theorem X3:cQ Pg GE 0 W7 (EX .normal (Cu x ts size [(9,.int .i64 (bw (n+1)))] [])) (Cu x ts size [(9,.int .i64 n)] []):=by
 have z:=eF .normal (Cu x ts size [(9,.int .i64 (bw (n+1)))] [])
 exact cN (A:=[]) mixed z (by kernel_rfl)
abbrev yc(L:List (Nat×PVal))(H:List av):az:=Cu x ts size ((9,.int .i64 n)::L++[(36,sl ac l),(37,.int .i64 (l.length:Int)),(38,.int .i64 i)]) H
theorem X5:cQ Pg GE 0 W8 (EX .normal (Cu x ts size [(9,.int .i64 n),(36,sl ac l),(37,.int .i64 (l.length:Int)),(38,.int .i64 i),(39,.bool (decide (i<(l.length:Int))))] [])) (yc x ts size n i l [] []):=by
 have z:=eF .normal (Cu x ts size [(9,.int .i64 n),(36,sl ac l),(37,.int .i64 (l.length:Int)),(38,.int .i64 i),(39,.bool (decide (i<(l.length:Int))))] [])
 exact cN (A:=[]) mixed z (by kernel_rfl)
theorem VP:dU 0 ([.int .i64 y.Op,.int .i64 y.N,.str y.Name,sl ac y.Kids,sl cS y.Params,sl ak y.Body,sl aP y.Binds]:List PVal):=by have:=cq y;rwa[aZ]at this
abbrev xV:List PVal:=[.int .i64 y.Op,.int .i64 y.N,.str y.Name,sl ac y.Kids,sl cS y.Params,sl ak y.Body,sl aP y.Binds]
theorem X6(hy:dn l i=some y):cQ Pg GE 0 VZ (EX .normal (yc x ts size n i l [(11,.eptr (ac y))] [.dead])) (yc x ts size n i l [] []):=by
 have z:=sv (bz.ia (k:=.i64) hy)<|sv (aK y)<|sx wo<|sx (dG y)<|eF .normal (yc x ts size n i l [(11,.bptr 0 0)] [.cells (xV y) []])
 have h1:cQ Pg GE 0 VZ (EX .normal (yc x ts size n i l [(11,.bptr 0 0)] [.cells (xV y) []])) (yc x ts size n i l [] []):=cN (A:=[]) mixed z (by kernel_rfl)
 have z2:=Wp 0 [xV y] [0,1,2,3,4,5,9,11,36,37,38] [] (VV (m:=0) (b:=0) rfl (xV y) rfl) (VW 0 (VP y)) (VX (l:=xV y) (r:=xV y) rfl)<|sf (U4 0 (p:=sl af ts) (ba dD ts))<|sf (KQ 0 (p:=[yv x.l]) ⟨vzz,vzz⟩)<|sf (KQ 0 (p:=x.sp) (RJ x))<|sf (KQ 0 (p:=[.val x.fv]) ⟨vzz,vzz⟩)<|sf (U4 0 (p:=sl ac l) (ba cq l))<|en (fr (yc x ts size n i l [(11,.eptr (xV y))] [.dead]))
 have h2:=h1.thenW (st2:=yc x ts size n i l [(11,.eptr (xV y))] [.dead]) (VY z2 (by kernel_rfl))
 rw[aZ]
 exact h2
theorem V1:cQ Pg GE 0 (.seq Ue .ret) (EX .ret (Qc false)) (Cu x ts size [] []):=by
 have z:=eF .ret (Qc false)
 exact cN (A:=[]) mixed z (by kernel_rfl)
theorem V3:cQ Pg GE 0 Uf (EX .normal (yc x ts size n (bw (i+1)) l [] [])) (yc x ts size n i l [] []):=by
 have z:=eF .normal (yc x ts size n (bw (i+1)) l [] [])
 exact cN (A:=[]) mixed z (by kernel_rfl)
theorem V4:cQ Pg GE 0 (.seq Ug .ret) (EX .ret (Qc true)) (Cu x ts size [] []):=by
 have z:=eF .ret (Qc true)
 exact cN (A:=[]) mixed z (by kernel_rfl)
end
open Go Go.RowKit
set_option linter.unusedSimpArgs false
def At(Γ:ax)(w:World)(a:Array Value)(d:Nat)(p:PVal):Prop:=∃v,a[d]? =some v/\VR Γ [] w p v
section
variable{P:Program}{GE:List (Nat×List PVal)}{Γ Γ':ax}{w w':World}{a:Array Value}{tm:List PVal}{ds:List Deferred}{n:Nat}{next:Act->World->Prop}{Q:Exit->Act->World->Prop}{Fc:Fence}[hF:OkF Fc]
theorem At.mv{d:Nat}{p:PVal}(h:At Γ w a d p)(hle:Γ.Le w Γ' w'):At Γ' w' a d p:=h.imp λv h=>⟨h.1,h.2.mono hle (.refl _)⟩
theorem At.ne{d d':Nat}{p:PVal}{v:Value}(h:At Γ w a d p)(hd:d'≠d):At Γ w (a.setIfInBounds d' v) d p:=h.imp λu h=>⟨by rw[vau hd];exact h.1,h.2⟩
theorem At.here{d:Nat}{p:PVal}{v:Value}(hd:d<a.size)(hv:VR Γ [] w p v):At Γ w (a.setIfInBounds d v) d p:=⟨v,by simp[hd],hv⟩
theorem At.ev{d:Nat}{p:PVal}(h:At Γ w a d p)(ds:List Deferred):VR Γ [] w p ((Act.mk a ds).eval (.tmp d)):=by
 obtain⟨v,h1,h2⟩:=h
 rw[show(Act.mk a ds).eval (.tmp d)=v from aL h1]
 exact h2
theorem Fr.at(h:Fr Γ w a tm){t:Nat}{p:PVal}(hp:tm[t]? =some p):At Γ w a t p:=h.get hp
theorem Fr.add(h:Fr Γ w a tm){d:Nat}{p:PVal}(hp:At Γ w a d p):Fr Γ w a (tm.set d p):=⟨by simp[h.sz],λt q u hq hu=>by
 obtain⟨v,h1,h2⟩:=hp
 simp only[vbh]at hq
 by_cases hdt:d=t
 ·subst hdt
  simp only[if_true]at hq
  split at hq
  ·cases hq;rw[h1]at hu;cases hu;exact h2
  ·cases hq
 ·simp only[hdt,if_false]at hq
  exact h.tm t q u hq hu⟩
theorem Fr.blank(h:Fr Γ w a tm){d:Nat}{v:Value}(hu:tm[d]? =some .undef):Fr Γ w (a.setIfInBounds d v) tm:=by
 have:=h.set (d:=d) (p:=.undef) (v:=v) (.undef v)
 rwa[show tm.set d .undef=tm from vbi λi=>by
  rw[vbh]
  split
  ·rename_i hi;subst hi
   split
   ·exact hu.symm
   ·rename_i hl;rw[vaU (by omega)]
  ·rfl]at this
theorem Fr.opS(h:Fr Γ w a tm)(hB:dQ GE Γ w){o:Oper}{p:PVal}{d:Nat}(hdst:o.dst=some d)(hd:cw o=true)(hm:aw o.op=false)(hp:iW P o.op 0 (opv GE tm) []=some (p,[]))
  (hn:∀a' Γ' w',Mv GE no Γ w Γ' w'->Fr Γ' w' a' (tm.set d p)->next ⟨a',ds⟩ w'):o.wpIn Fc n P ⟨a,ds⟩ w next Q:=by
 refine h.op hB hd hm hp λv Γ' w' hmv hv=>?_
 rw[hdst]
 exact hn _ Γ' w' hmv ((h.mv hmv.le).set hv)
structure mN(tm:List PVal)(tbl:List (Nat×Nat×PVal))(L:Nat->Prop)(a:Array Value)(Γ:ax)(w:World):Prop where
 fr:Fr Γ w a tm
 at':∀x∈tbl,L x.1->At Γ w a x.2.1 x.2.2
theorem mN.mv{tbl:List (Nat×Nat×PVal)}{L:Nat->Prop}(h:mN tm tbl L a Γ w)(hle:Γ.Le w Γ' w'):mN tm tbl L a Γ' w':=⟨h.fr.mv hle,λx hx hl=>(h.at' x hx hl).mv hle⟩
def Ey(tm:List PVal)(tbl:List (Nat×Nat×PVal)):Prop:=(∀x∈tbl,tm[x.2.1]? =some .undef)/\∀x∈tbl,∀y∈tbl,x.2.1=y.2.1\/x.1=y.1->x=y
theorem mN.put{tbl:List (Nat×Nat×PVal)}{L:Nat->Prop}(ht:Ey tm tbl)(h:mN tm tbl L a Γ w){i d:Nat}{p:PVal}{v:Value}(hx:(i,d,p)∈tbl)(hv:VR Γ [] w p v):mN tm tbl (λj=>L j\/j=i) (a.setIfInBounds d v) Γ w:=by
 have hu:=ht.1 _ hx
 have hd:d<a.size:=by rw[h.fr.sz];exact ag hu
 refine⟨h.fr.blank hu,λy hy hl=>?_⟩
 by_cases hyd:y.2.1=d
 ·have:=ht.2 y hy _ hx (.inl hyd)
  subst this
  exact .here hd hv
 ·refine(h.at' y hy (hl.resolve_right λe=>hyd ?_)).ne λe=>hyd e.symm
  have:=ht.2 y hy _ hx (.inr e)
  rw[this]
theorem mN.other{tbl:List (Nat×Nat×PVal)}{L:Nat->Prop}(h:mN tm tbl L a Γ w){i d:Nat}{v:Value}(hu:tm[d]? =some .undef)(hd:∀x∈tbl,x.2.1≠d/\x.1≠i):mN tm tbl (λj=>L j\/j=i) (a.setIfInBounds d v) Γ w:=
 ⟨h.fr.blank hu,λy hy hl=>(h.at' y hy (hl.resolve_right (hd y hy).2)).ne λe=>(hd y hy).1 e.symm⟩
def kM(tm:List PVal)(l:List (Nat×Nat×PVal)):List PVal:=l.foldl (λt x=>t.set x.2.1 x.2.2) tm
theorem AR:∀{l:List (Nat×Nat×PVal)} {tm:List PVal},Fr Γ w a tm->(∀x∈l,At Γ w a x.2.1 x.2.2)->Fr Γ w a (kM tm l)
 |[],_,h,_=>h
 |x::l,tm,h,hl=>AR (l:=l) (tm:=tm.set x.2.1 x.2.2) (h.add (hl x (by simp))) λy hy=>hl y (by simp[hy])
theorem jp{tbl:List (Nat×Nat×PVal)}{L:Nat->Prop}(ht:Ey tm tbl)(hB:dQ GE Γ w)(h:mN tm tbl L a Γ w){o:Oper}{i d:Nat}{p:PVal}(hx:(i,d,p)∈tbl)(hdst:o.dst=some d)(hd:cw o=true)(hm:aw o.op=false)
  (need:List (Nat×Nat×PVal)) (hn:∀x∈need,x∈tbl/\(E9 o).contains x.1=true) (hed:∀e∈o.after.toList,Region.binds .any e=true->L e.on) (hp:iW P o.op 0 (opv GE (kM tm need)) []=some (p,[])):
  o.wpIn Fc n P ⟨a,ds⟩ w (λa' w'=>∃Γ',Mv GE no Γ w Γ' w'/\a'.defers=ds/\mN tm tbl (λj=>L j\/j=i) a'.tmps Γ' w'/\∃u,a'.tmps=a.setIfInBounds d u) Q:=by
 have hf:Fr Γ w a (kM tm need):=AR h.fr λx hx=>h.at' x (hn x hx).1 (gO (hn x hx).2 hed)
 refine hf.op hB hd hm hp λv Γ' w' hmv hv=>⟨Γ',hmv,aT _ _ _,?_⟩
 rw[hdst]
 exact⟨(h.mv hmv.le).put ht hx hv,v,rfl⟩
end
def P7(tm:List PVal)(tbl:List (Nat×Nat×PVal)):Bool:=tbl.all (λx=>match tm[x.2.1]? with
 |some .undef=>true
 |_=>false)&&(tbl.map λx=>x.2.1).Nodup&&(tbl.map λx=>x.1).Nodup
theorem AF{α β:Type}{f:α->β}:∀{l:List α},(l.map f).Nodup->∀x∈l,∀y∈l,f x=f y->x=y
 |[],_,x,hx,_,_,_=>by cases hx
 | a :: l,h,x,hx,y,hy,e => by
  rw[vaM,vbz]at h
  rcases vat.1 hx with hx1|hx1<;>rcases vat.1 hy with hy1|hy1
  ·rw[hx1,hy1]
  ·exact absurd (vah.2 ⟨y,hy1,by rw[<-e,hx1]⟩) h.1
  ·exact absurd (vah.2 ⟨x,hx1,by rw[e,hy1]⟩) h.1
  ·exact AF h.2 x hx1 y hy1 e
theorem v8{tm:List PVal}{tbl:List (Nat×Nat×PVal)}(h:P7 tm tbl=true):Ey tm tbl:=by
 unfold P7 at h
 simp only[vae,vam,vao]at h
 refine⟨λx hx=>?_,λx hx y hy e=>?_⟩
 ·have:=h.1.1 x hx
  split at this
  ·assumption
  ·cases this
 ·rcases e with e|e
  ·exact AF h.1.2 x hx y hy e
  ·exact AF h.2 x hx y hy e
structure Yv{S:Type}(lo l:Nat)(step:S->List aa->Option (Bool×S))(J:(Nat->Prop)->Bool->S->ax->World->Prop):Prop where
 base:∀{F b s Γ w},J F b s Γ w->dQ GE Γ w
 low:∀{F b s Γ w},J F b s Γ w->∀b,F b->b<w.heap.size
 side:∀{F b s Γ w M Γ' w'},J F b s Γ w->Mv GE M Γ w Γ' w'->(∀b,M b->¬F b)->J F b s Γ' w'
 yield:∀{F s Γ w kids v r} n,J F true s Γ w->fA Pg GE eV Γ w (py ac kids) kids.length v->(∀b,v.ownBlock=some b->¬F b/\lo<=b)->step s kids=some r->
  YieldAt Fence.wide n Pg l #[v] w λe w'=>∃Γ' F',e=.returned (.bool r.1)/\Mv GE F Γ w Γ' w'/\(∀b,F' b->F b\/w.heap.size<=b)/\J F' r.1 r.2 Γ' w'
structure KM(mb:Nat)(K:fq)(Γ:ax)(w:World):Prop where
 off:nD GE Γ w mb
 br:BR Γ [] w (.map (jO (sl ac) K)) mb
theorem KM.mv{mb:Nat}{K:fq}{Γ Γ':ax}{w w':World}{M:Nat->Prop}(h:KM mb K Γ w)(hm:Mv GE M Γ w Γ' w')(hM:¬M mb):KM mb K Γ' w':=⟨h.off.mv hm hM,h.br.mono hm.le (.refl _) (hm.keep h.off.2.1 hM)⟩
theorem Kf(K:fq):∀x∈jO (sl ac) K,x.1.cl 0/\x.2.cl 0:=VO (sl ac) (λl=>ba cq l) K
theorem BR.up{Γ:ax}{bs:bp}{w:World}{es:List (PVal×PVal)}{b:Nat}(h:BR Γ [] w (.map es) b):BR Γ bs w (.map es) b:=h.mono (.refl _ _) (λi b h=>by simp at h) rfl
theorem BR.down{Γ:ax}{bs:bp}{w:World}{es:List (PVal×PVal)}{b:Nat}(hc:∀x∈es,x.1.cl 0/\x.2.cl 0)(h:BR Γ bs w (.map es) b):BR Γ [] w (.map es) b:=by
 obtain⟨ents,clock,h1,h2,h3,h4⟩:=h
 exact⟨ents,clock,h1,h2,λj k u x hj hx=>by
  obtain⟨k1,k2⟩:=hc _ (vaq hj)
  exact⟨(h3 j k u x hj hx).1.clo k1,(h3 j k u x hj hx).2.clo k2⟩,h4⟩
theorem Qr{Γ:ax}{w:World}{cs:List PVal}{mb:Nat}{v:Value}(h:VR Γ [] w (.agg (cs++[.val (.map (some mb))])) v):VR Γ [some mb] w (.agg (cs++[.mapr 0])) v:=by
 cases h with
 | agg _ vs hl hx =>
  refine .agg _ vs (by simpa using hl) λi p u hp hu=>?_
  by_cases hi:i<cs.length
  ·rw[vac hi]at hp
   exact(hx i p u (by rw[vac hi];exact hp) hu).mono (.refl _ _) (λi b h=>by simp at h)
  ·rw[vad (by omega)]at hp
   have hi0:i - cs.length=0:=by have:=ag hp;simp at this;exact this
   rw[hi0]at hp
   simp at hp;subst hp
   have:=hx i (.val (.map (some mb))) u (by rw[vad (by omega),hi0];rfl) hu
   cases this
   exact .mapr 0 mb rfl
theorem O5(x:Cx):aC Pg 135 x.sp=some (.agg x.sp):=by
 have hl:x.sp.length=Pg.cellsOf 135:=by
  rw[show Pg.cellsOf 135=7 by kernel_rfl]
  show(aq x.m++[_]).length=7
  rw[vaD,ko];rfl
 have hu:aC Pg 135 x.sp=if Pg.cellsOf 135<=x.sp.length then some (.agg (x.sp.take (Pg.cellsOf 135)))else none:=by kernel_rfl
 rw[hu,<-hl,vaA (vaj _),vbm]
def Ob(m:am)(R:ae->Int->fq->Option (List aa×fq)):Prop:=∀t n K r,R t n K=some r->C Pg GE RP [.agg (aq m++[.mapr 0]),.agg (af t),.int .i64 n] [] [.map (jO (sl ac) K)] (sl ac r.1) [] [.map (jO (sl ac) r.2)]
theorem Lk{m:am}{mb:Nat}{t:ae}{n:Int}{K:fq}{r:List aa×fq}{Γ:ax}{w:World}{v1 v2 v3:Value}(hC:C Pg GE RP [.agg (aq m++[.mapr 0]),.agg (af t),.int .i64 n] [] [.map (jO (sl ac) K)] (sl ac r.1) [] [.map (jO (sl ac) r.2)])
  (hB:dQ GE Γ w) (hk:KM mb K Γ w) (h1:VR Γ [] w (.agg (aq m++[.val (.map (some mb))])) v1) (h2:VR Γ [] w (.agg (af t)) v2) (h3:VR Γ [] w (.int .i64 n) v3):
  Calls Pg RP #[v1,v2,v3] w λe w'=>∃v Γ',e=.returned v/\Mv GE (λb=>b=mb) Γ w Γ' w'/\KM mb r.2 Γ' w'/\VR Γ' [] w' (sl ac r.1) v:=by
 have hT:∀b,cj [some mb] (λ_=>none) b↔b=mb:=λb=>⟨λh=>by
  rcases h with⟨i,hi⟩|h
  ·cases i with
   |zero=>simpa using hi.symm
   |succ i=>simp at hi
  ·exact absurd rfl h,λh=>.inl ⟨0,by rw[h];rfl⟩⟩
 have up:∀{p v},VR Γ [] w p v->VR Γ [some mb] w p v:=λh=>h.mono (.refl _ _) (λi b h=>by simp at h)
 have hS:SR Pg ⟨GE,Γ,w,cj [some mb] λ_=>none⟩ Γ [some mb] (λ_=>none) w #[v1,v2,v3] ⟨[.agg (aq m++[.mapr 0]),.agg (af t),.int .i64 n],[.map (jO (sl ac) K)],[]⟩:={
  wi:=hB.wi
  sz:=rfl
  tm:=λi p v hp hv=>by
   match i with
   |0=>simp at hp hv;subst hp;subst hv;exact Qr h1
   |1=>simp at hp hv;subst hp;subst hv;exact up h2
   |2=>simp at hp hv;subst hp;subst hv;exact up h3
   |i+3=>simp at hp
  bl:=rfl
  bx:=λi b B hb hBx=>by
   cases i with
   |zero=>
    simp at hb hBx;subst hb;subst hBx
    exact⟨hk.off.1,hk.off.2.1,hk.br.up⟩
   |succ i=>simp at hb
  inj:=λi j b hi hj=>by
   cases i<;>cases j<;>simp at hi hj ⊢
  bn:=λi b hb=>.inl (.inl ⟨i,hb⟩)
  on:=λb L hL=>by cases hL
  ot:=λt k e he=>by simp at he
  ob:=λi j e cs own b hBx=>by
   cases i<;>simp at hBx
  gl:=λg cs hg=>up (hB.gl g cs hg)
  gc:=hB.gc
  gx:=λg cs hg=>⟨(hB.gx g cs hg).1,λh=>hk.off.2.2 g cs hg ((hT g).1 h),(hB.gx g cs hg).2⟩
  step:=.refl _ _ _ _}
 refine(hC.2 Γ [some mb] (λ_=>none) w _ hS).mono λe w' he=>?_
 obtain⟨v,Γ',ow',rfl,h'⟩:=he
 obtain⟨k1,k2,k3⟩:=h'.bx 0 mb _ rfl rfl
 refine⟨v,Γ',rfl,(Mv.of h').mono λb hb=>.inl ((hT b).1 hb),⟨⟨k1,k2,hk.off.2.2⟩,k3.down (Kf _)⟩,(h'.tm 0 _ v rfl rfl).clo (ba cq _)⟩
section
variable{x:Cx}{t:ae}{ts:List ae}{size n:Int}{K:fq}{a:Array Value}{Γ:ax}{w:World}{ds:List Deferred}{nn:Nat}
def FL(x:Cx)(t:ae)(ts:List ae)(n:Int)(l:List aa):List (Nat×Nat×PVal):=
 [(0,31,.agg x.sp),(1,32,sl af (t::ts)),(2,33,.eptr (af t)),(3,34,.agg (af t)),(4,35,.int .i64 n),(5,36,sl ac l),(6,37,.int .i64 (l.length:Int)),(7,38,.int .i64 0)]
abbrev N1(x:Cx)(ts:List ae)(size n:Int):List PVal:=(Cu x ts size [(9,.int .i64 n)] []).tmps
theorem P4(l:List aa):Ey (N1 x (t::ts) size n) (FL x t ts n l):=v8 (by kernel_rfl)
theorem V6(l:List ae):dn (t::l) 0=some t:=rfl
def I6(x:Cx)(t:ae)(ts:List ae)(size n:Int)(K:fq)(r:List aa×fq)(Γ0:ax)(w0:World)(ds:List Deferred)(L:Nat->Prop)(a:Act)(w:World):Prop:=
 a.defers=ds/\∃Γ K1,Mv GE (λb=>b=x.mb) Γ0 w0 Γ w/\KM x.mb K1 Γ w/\(¬L 5->K1=K)/\(L 5->K1=r.2)/\mN (N1 x (t::ts) size n) (FL x t ts n r.1) L a.tmps Γ w
theorem I6.pure{r:List aa×fq}{Γ0:ax}{w0:World}{L:Nat->Prop}{Q:Exit->Act->World->Prop}{a:Act}(h:I6 x t ts size n K r Γ0 w0 ds L a w){o:Oper}{i d:Nat}{p:PVal}(hi:i≠5)(hx:(i,d,p)∈FL x t ts n r.1)(hdst:o.dst=some d)(hd:cw o=true)(hm:aw o.op=false)
  (need:List (Nat×Nat×PVal)) (hn:∀y∈need,y∈FL x t ts n r.1/\(E9 o).contains y.1=true) (hed:∀e∈o.after.toList,Region.binds .any e=true->L e.on) (hp:iW Pg o.op 0 (opv GE (kM (N1 x (t::ts) size n) need)) []=some (p,[])):
  o.wpIn Fence.wide nn Pg a w (I6 x t ts size n K r Γ0 w0 ds λj=>L j\/j=i) Q:=by
 obtain⟨a,ds'⟩:=a
 obtain⟨rfl,Γ,K1,h1,h2,h3,h4,h5⟩:=h
 refine Oper.wpIn_mono (λa' w' hq=>?_) (jp (P4 r.1) h1.base h5 hx hdst hd hm need hn hed hp)
 obtain⟨Γ',hm',hd',hP,_⟩:=hq
 exact⟨hd',Γ',K1,h1.trans hm' (λb h=>.inl h.elim),h2.mv hm' id,λh=>h3 λh'=>h (.inl h'),λh=>h4 (h.resolve_right λe=>hi e.symm),hP⟩
theorem X4{r:List aa×fq}(hC:C Pg GE RP [.agg (aq x.m++[.mapr 0]),.agg (af t),.int .i64 n] [] [.map (jO (sl ac) K)] (sl ac r.1) [] [.map (jO (sl ac) r.2)])(hB:dQ GE Γ w)(hk:KM x.mb K Γ w)(hfr:Fr Γ w a (N1 x (t::ts) size n)):rq.wpIn Fence.wide nn Pg (λe a' w'=>e=.normal/\a'.defers=ds/\∃Γ',Mv GE (λb=>b=x.mb) Γ w Γ' w'/\KM x.mb r.2 Γ' w'/\Fr Γ' w' a'.tmps (yc x (t::ts) size n 0 r.1 [] []).tmps) ⟨a,ds⟩ w:=by
 have key:(Code.region (wJ rq) (bW rq) true).wpIn Fence.wide nn Pg (λe a' w'=>e=.normal/\a'.defers=ds/\∃Γ',Mv GE (λb=>b=x.mb) Γ w Γ' w'/\KM x.mb r.2 Γ' w'/\Fr Γ' w' a'.tmps (yc x (t::ts) size n 0 r.1 [] []).tmps) ⟨a,ds⟩ w:=by
  refine Du mixed (by kernel_rfl) (by kernel_rfl) (I6 x t ts size n K r Γ w ds) ?_ ?_ ?_
  ·intro L a1 w1 i o hI ho hnl hed
   have hi:i<8:=by
    have h1:=(vaf.1 ho).1
    have h2:(bW rq).size=8:=by kernel_rfl
    omega
   have hlk:∀q,(aC Pg 135 x.sp).map (λp=>(p,([]:List av)))=some q->q=(.agg x.sp,[])\/True:=λ_ _=>.inr vzz
   rcases(show i=0\/i=1\/i=2\/i=3\/i=4\/i=5\/i=6\/i=7 by omega)with rfl|rfl|rfl|rfl|rfl|rfl|rfl|rfl
   ·obtain rfl:bD rq 0=o:=vaw ((show(bW rq)[0]? =some (bD rq 0) by kernel_rfl).symm.trans ho)
    refine hI.pure (d:=31) (p:=.agg x.sp) (by decide) (by simp[FL]) (by kernel_rfl) (by kernel_rfl) (by kernel_rfl) [] (by simp) hed ?_
    have e1:iW Pg (bD rq 0).op 0 (opv GE (kM (N1 x (t::ts) size n) [])) []=(aC Pg 135 x.sp).map (λp=>(p,[])):=by kernel_rfl
    rw[e1,O5];rfl
   ·obtain rfl:bD rq 1=o:=vaw ((show(bW rq)[1]? =some (bD rq 1) by kernel_rfl).symm.trans ho)
    exact hI.pure (d:=32) (p:=sl af (t::ts)) (by decide) (by simp[FL]) (by kernel_rfl) (by kernel_rfl) (by kernel_rfl) [] (by simp) hed (by kernel_rfl)
   ·obtain rfl:bD rq 2=o:=vaw ((show(bW rq)[2]? =some (bD rq 2) by kernel_rfl).symm.trans ho)
    refine hI.pure (d:=33) (p:=.eptr (af t)) (by decide) (by simp[FL]) (by kernel_rfl) (by kernel_rfl) (by kernel_rfl) [(1,32,sl af (t::ts))] (by intro y hy;obtain rfl:=vbd.1 hy;exact⟨by simp[FL],by kernel_rfl⟩) hed ?_
    have e1:iW Pg (bD rq 2).op 0 (opv GE (kM (N1 x (t::ts) size n) [(1,32,sl af (t::ts))])) []=(fV Pg 38 (sl af (t::ts)) (.int .i64 0)).map (λp=>(p,[])):=by kernel_rfl
    rw[e1,fe.ia (k:=.i64) (V6 ts)];rfl
   ·obtain rfl:bD rq 3=o:=vaw ((show(bW rq)[3]? =some (bD rq 3) by kernel_rfl).symm.trans ho)
    refine hI.pure (d:=34) (p:=.agg (af t)) (by decide) (by simp[FL]) (by kernel_rfl) (by kernel_rfl) (by kernel_rfl) [(2,33,.eptr (af t))] (by intro y hy;obtain rfl:=vbd.1 hy;exact⟨by simp[FL],by kernel_rfl⟩) hed ?_
    have e1:iW Pg (bD rq 3).op 0 (opv GE (kM (N1 x (t::ts) size n) [(2,33,.eptr (af t))])) []=(aC Pg 44 (af t)).map (λp=>(p,[])):=by kernel_rfl
    rw[e1,fT];rfl
   ·obtain rfl:bD rq 4=o:=vaw ((show(bW rq)[4]? =some (bD rq 4) by kernel_rfl).symm.trans ho)
    exact hI.pure (d:=35) (p:=.int .i64 n) (by decide) (by simp[FL]) (by kernel_rfl) (by kernel_rfl) (by kernel_rfl) [] (by simp) hed (by kernel_rfl)
   ·obtain rfl:bD rq 5=o:=vaw ((show(bW rq)[5]? =some (bD rq 5) by kernel_rfl).symm.trans ho)
    obtain⟨a1,ds'⟩:=a1
    obtain⟨rfl,Γ1,K1,h1,h2,h3,h4,h5⟩:=hI
    obtain rfl:=h3 hnl
    have c1:=h5.at' (0,31,.agg x.sp) (by simp[FL]) (gO (j:=0) (by kernel_rfl) hed)
    have c2:=h5.at' (3,34,.agg (af t)) (by simp[FL]) (gO (j:=3) (by kernel_rfl) hed)
    have c3:=h5.at' (4,35,.int .i64 n) (by simp[FL]) (gO (j:=4) (by kernel_rfl) hed)
    have hop:(bD rq 5).op=.call {callee:=.value (.func RP),args:=#[.tmp 31,.tmp 34,.tmp 35],argTypes:=JX (bD rq 5)}:=by kernel_rfl
    refine Ag hop (g:=RP) (fs:=#[]) (cs:=#[]) rfl call67 (callsIn_wide.2 (by
     have e:(#[]++(#[.tmp 31,.tmp 34,.tmp 35]:Array Operand).map (Act.mk a1 ds').eval++#[])=#[(Act.mk a1 ds').eval (.tmp 31),(Act.mk a1 ds').eval (.tmp 34),(Act.mk a1 ds').eval (.tmp 35)]:=by simp
     rw[e]
     exact Lk hC h1.base h2 (c1.ev ds') (c2.ev ds') (c3.ev ds'))) ?_
    rintro e w' ⟨v,Γ',rfl,hmv,hk',hv⟩
    refine⟨v,rfl,aT _ _ _,Γ',r.2,h1.trans hmv (λb h=>.inl h),hk',λh=>absurd (.inr rfl) h,λ_=>rfl,?_⟩
    rw[show(bD rq 5).dst=some 36 by kernel_rfl]
    exact(h5.mv hmv.le).put (P4 r.1) (i:=5) (d:=36) (p:=sl ac r.1) (by simp[FL]) hv
   ·obtain rfl:bD rq 6=o:=vaw ((show(bW rq)[6]? =some (bD rq 6) by kernel_rfl).symm.trans ho)
    refine hI.pure (d:=37) (p:=.int .i64 (r.1.length:Int)) (by decide) (by simp[FL]) (by kernel_rfl) (by kernel_rfl) (by kernel_rfl) [(5,36,sl ac r.1)] (by intro y hy;obtain rfl:=vbd.1 hy;exact⟨by simp[FL],by kernel_rfl⟩) hed ?_
    have e1:iW Pg (bD rq 6).op 0 (opv GE (kM (N1 x (t::ts) size n) [(5,36,sl ac r.1)])) []=(wm Pg 31 (sl ac r.1) []).map (λp=>(p,[])):=by kernel_rfl
    rw[e1,bz.ln r.1];rfl
   ·obtain rfl:bD rq 7=o:=vaw ((show(bW rq)[7]? =some (bD rq 7) by kernel_rfl).symm.trans ho)
    exact hI.pure (d:=38) (p:=.int .i64 0) (by decide) (by simp[FL]) (by kernel_rfl) (by kernel_rfl) (by kernel_rfl) [] (by simp) hed (by kernel_rfl)
  ·rintro L a1 w1 ⟨hd,Γ1,K1,h1,h2,h3,h4,h5⟩ hall
   have hs:(bW rq).size=8:=by kernel_rfl
   obtain rfl:=h4 (hall 5 (by omega))
   refine⟨rfl,hd,Γ1,h1,h2,?_⟩
   have hf:=AR (l:=[(5,36,sl ac r.1),(6,37,.int .i64 (r.1.length:Int)),(7,38,.int .i64 0)]) h5.fr λy hy=>by
    rcases vat.1 hy with rfl|hy
    ·exact h5.at' _ (by simp[FL]) (hall 5 (by omega))
    rcases vat.1 hy with rfl|hy
    ·exact h5.at' _ (by simp[FL]) (hall 6 (by omega))
    rcases vat.1 hy with rfl|hy
    ·exact h5.at' _ (by simp[FL]) (hall 7 (by omega))
    ·cases hy
   exact hf
  ·exact⟨rfl,Γ,K,(Mv.drawn hB 1),hk.mv (M:=no) (Mv.drawn hB 1) id,λ_=>rfl,λh=>h.elim,⟨hfr.mv (Mv.drawn (M:=no) hB 1).le,λy _ h=>h.elim⟩⟩
 rw[<-SJ]at key
 exact key
end
end Go.Proofs.YtjddnhkahpfhdaaGreatDoor
