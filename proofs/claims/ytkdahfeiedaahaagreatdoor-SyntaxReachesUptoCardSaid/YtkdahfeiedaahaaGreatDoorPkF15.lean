/- PROVED: a part of the proof. Conditions: none. -/
import Derived.Test.YtkdahfeiedaahaaGreatDoorPkF14
noncomputable section
namespace Go.Proofs.YtkdahfeiedaahaaGreatDoor
open Go Go.Proofs.Tryz
set_option linter.unusedVariables false
set_option maxRecDepth 100000
noncomputable def Z6:Code:=f84.body.getD .skip
def ZA:List Nat:=[12,18]
theorem Z84:ZF ZA 84 f84 Z6:=⟨call84,func84,rfl⟩
section
variable(t6:waD)(t7:Int)(out:waA)(t8:Int)
def g7:aB:=bg 19 [(3,sl cS out),(6,sl aA t6),(7,.int .i64 t7),(8,.int .i64 t8)] [] [((3,0),9)]
def kw(o:waA):aB:=bg 19 [(3,sl cS o)] [] [((3,0),9)]
def oK:Option ((waA×Int)⊕(waA)):=
 if(decide (t8<t7))=true then
  (gn t6 t8).bind fun x2=>
  (app out ([x2.Con]:List af)).bind fun l3=>
  some (.inl (l3,bV (t8+1)))
 else
  some (.inr out)
def qL:Option waA:=loop (fun(zz:waA×Int)=>oK t6 t7 zz.1 zz.2) (out,t8)
theorem wm{y:(waA×Int)⊕(waA)}(h:oK t6 t7 out t8=some y):bh Pg GE 0 (cA Z6 119) (LQ (fun(zz:waA×Int)=>g7 t6 t7 zz.1 zz.2) (fun _=>.exit 0) kw y) (g7 t6 t7 out t8):=by
 rcases aQ h with⟨c1,h⟩|⟨c1,h⟩
 ·obtain⟨x2,bx2,l3,bl3,h⟩:=Zb2 h
  obtain rfl:=lf h
  have z:=sg 0 c1<|sv (fO.ia (k:=.i64) bx2)<|sv (mH x2)<|sx G4<|sx (jz x2)<|ss<|sv (dp.mk' (v:=PVal.str) NF ([x2.Con]:List af) 1 (by kernel_rfl))<|sv (dp.ap bl3)<|ue 0 .normal (g7 t6 t7 l3 (bV (t8+1))) rfl (dU (aI (up (ak bD l3)) (aI (up (ak bK t6)) (aI trivial (aI trivial trivial))))) trivial
  exact ed (A:=ZA) mixed z<|by kernel_rfl
 ·obtain rfl:=lf h
  have z:=sg 0 c1<|eF (.exit 0) (kw out)
  exact jy ZA (Zn rfl) z<|by kernel_rfl
theorem wD{x:waA}(h:qL t6 t7 out t8=some x):bh Pg GE 0 (.loop (cA Z6 119)) (EX (.exit 0) (kw x)) (g7 t6 t7 out t8):=
 ZL h fun _ _ hy=>wm _ _ _ _ hy
end
def um(a:waD):Option waA:=
 (qL a (a.length:Int) ([]:List af) 0).bind fun o4=>
 some o4
theorem zM{a:waD}{r:waA}(h:um a=some r):CC Pg GE 84 [sl aA a] (sl cS r) [(0,9)]:=by
 obtain⟨o4,bo4,h⟩:=cP h
 obtain rfl:=lf h
 have z:=bW (fO.ln a)<|du (wD a (a.length:Int) ([]:List af) 0 bo4)<|en (aI (rP (sl cS o4))<|(ak bD o4))
 exact Z84.v (aI (ak bK a) trivial) z<|by kernel_rfl
noncomputable def W8:Code:=f160.body.getD .skip
def U6:List Nat:=[23]
theorem Z160:ZF U6 160 f160 W8:=⟨call160,func160,rfl⟩
section
variable(s:af)(i:Int)
def ql:aB:=bg 24 [(0,.str s),(5,.int .i64 i)] [] []
def qm(o:(af×af)⊕(Unit)):Exit:=match o with
 |(.inl _)=>.ret
 |(.inr _)=>.exit 0
def kY(o:(af×af)⊕(Unit)):aB:=match o with
 |(.inl o)=>bg 24 [(2,.str o.1),(3,.str o.2),(4,.bool true)] [] []
 |(.inr o)=>bg 24 [(0,.str s)] [] []
def Bw:Option (Int⊕((af×af)⊕(Unit))):=
 if(decide (i<(s.length:Int)))=true then
  (CF s i).bind fun c2=>
  if(c2==46)=true then
   (Zd s none (some i)).bind fun s5=>
   (Zd s (some (bV (i+1))) none).bind fun s6=>
   some (.inr (.inl (s5,s6)))
  else
   some (.inl (bV (i+1)))
 else
  some (.inr (.inr ()))
def Fl:Option ((af×af)⊕(Unit)):=loop (fun(zz:Int)=>Bw s zz) i
theorem GL{y:Int⊕((af×af)⊕(Unit))}(h:Bw s i=some y):bh Pg GE 0 (cA W8 55) (LQ (fun(zz:Int)=>ql s zz) qm (kY s) y) (ql s i):=by
 rcases aQ h with⟨c1,h⟩|⟨c1,h⟩
 ·obtain⟨c2,bc2,h⟩:=cP h
  have p4:=fun{sc F} (r:PS sc F)=>bW (oJ underlying9 s)<|sg 0 c1<|sv (xm (k:=.i64) underlying9 bc2)<|r
  rcases aQ h with⟨c3,h⟩|⟨c3,h⟩
  ·obtain⟨s5,bs5,s6,bs6,h⟩:=Zb2 h
   obtain rfl:=lf h
   have z:=p4<|sg 0 c3<|Kw [0,0,3,0,0,16,56,7,255,511]<|sv (WB underlying9 bs5)<|sv (WB underlying9 bs6)<|eF (qm (.inl (s5,s6))) (kY s (.inl (s5,s6)))
   exact jy U6 (Zn rfl) z<|by kernel_rfl
  ·obtain rfl:=lf h
   exact AC U6 (p4<|sg 0 c3<|eF .normal (ql s (bV (i+1))))<|by kernel_rfl
 ·obtain rfl:=lf h
  have z:=bW (oJ underlying9 s)<|sg 0 c1<|eF (qm (.inr ())) (kY s (.inr ()))
  exact jy U6 (Zn rfl) z<|by kernel_rfl
theorem zW{x:(af×af)⊕(Unit)}(h:Fl s i=some x):bh Pg GE 0 (.loop (cA W8 55)) (EX (qm x) (kY s x)) (ql s i):=
 ZL h fun _ _ hy=>GL _ _ hy
end
def GK(s:af):Option (af×af×Bool):=
 (Fl s 0).bind fun o7=>match o7 with
 |(.inl o7)=>
  some (o7.1,o7.2,true)
 |(.inr o7)=>
  some (s,([]:af),false)
theorem Fm{s:af}{r:af×af×Bool}(h:GK s=some r):CC Pg GE 160 [.str s] (.tuple [.str r.1,.str r.2.1,.bool r.2.2]) []:=by
 obtain⟨o7,bo7,h⟩:=cP h
 rcases o7 with o7|o7
 ·obtain rfl:=lf h
  have z:=du (e:=.ret) (s1:=kY s (.inl o7)) (zW s 0 bo7)<|en (aI (rP (.tuple [.str o7.1,.str o7.2,.bool true]))<|(aI trivial (aI trivial (aI trivial trivial))))
  exact Z160.v (aI trivial trivial) z<|by kernel_rfl
 ·obtain rfl:=lf h
  have z:=du (e:=.exit 0) (s1:=kY s (.inr o7)) (zW s 0 bo7)<|en (aI (rP (.tuple [.str s,.str ([]:af),.bool false]))<|(aI trivial (aI trivial (aI trivial trivial))))
  exact Z160.v (aI trivial trivial) z<|by kernel_rfl
noncomputable def ZV:Code:=f163.body.getD .skip
def Zu:List Nat:=[]
theorem Z163:ZF Zu 163 f163 ZV:=⟨call163,func163,rfl⟩
def xg(s:af):Option Bool:=
 if(decide ((s.length:Int)>=1))=true then
  some (decide ((s.length:Int)<=24))
 else
  some false
theorem kZ{s:af}{r:Bool}(h:xg s=some r):CC Pg GE 163 [.str s] (.bool r) []:=by
 rcases aQ h with⟨c1,h⟩|⟨c1,h⟩
 ·obtain rfl:=lf h
  have z:=bW (oJ underlying9 s)<|sg 4 c1<|bW (oJ underlying9 s)<|en (aI (rP (.bool (decide ((s.length:Int)<=24))))<|trivial)
  exact Z163.v (aI trivial trivial) z<|by kernel_rfl
 ·obtain rfl:=lf h
  have z:=bW (oJ underlying9 s)<|sg 4 c1<|en (aI (rP (.bool false))<|trivial)
  exact Z163.v (aI trivial trivial) z<|by kernel_rfl
noncomputable def ZW:Code:=f186.body.getD .skip
def Zv:List Nat:=[]
theorem Z186:ZF Zv 186 f186 ZW:=⟨call186,func186,rfl⟩
def tu(c:Int):Option Bool:=
 if(decide (97<=c))=true then
  some (decide (c<=122))
 else
  some false
theorem qn{c:Int}{r:Bool}(h:tu c=some r):CC Pg GE 186 [.int .u8 c] (.bool r) []:=by
 rcases aQ h with⟨c1,h⟩|⟨c1,h⟩
 ·obtain rfl:=lf h
  have z:=sg 3 c1<|en (aI (rP (.bool (decide (c<=122))))<|trivial)
  exact Z186.v (aI trivial trivial) z<|by kernel_rfl
 ·obtain rfl:=lf h
  have z:=sg 3 c1<|en (aI (rP (.bool false))<|trivial)
  exact Z186.v (aI trivial trivial) z<|by kernel_rfl
noncomputable def W9:Code:=f187.body.getD .skip
def U8:List Nat:=[]
theorem Z187:ZF U8 187 f187 W9:=⟨call187,func187,rfl⟩
section
variable(s:af)(t6:Int)
def lI:aB:=bg 13 [(0,.str s),(5,.agg (jx.map PVal.str)),(6,.int .i64 t6)] [] []
def lJ(o:Unit⊕(Unit)):Exit:=match o with
 |(.inl _)=>.ret
 |(.inr _)=>.exit 0
def gM(o:Unit⊕(Unit)):aB:=match o with
 |(.inl o)=>bg 13 [(2,.bool true)] [] []
 |(.inr o)=>bg 13 [] [] []
def vR:Option (Int⊕(Unit⊕(Unit))):=
 if(decide (t6<42))=true then
  (gn jx t6).bind fun x2=>
  if(x2==s)=true then
   some (.inr (.inl ()))
  else
   some (.inl (bV (t6+1)))
 else
  some (.inr (.inr ()))
def yy:Option (Unit⊕(Unit)):=loop (fun(zz:Int)=>vR s zz) t6
theorem Bv{y:Int⊕(Unit⊕(Unit))}(h:vR s t6=some y):bh Pg GE 0 (cA W9 55) (LQ (fun(zz:Int)=>lI s zz) lJ gM y) (lI s t6):=by
 rcases aQ h with⟨c1,h⟩|⟨c1,h⟩
 ·obtain⟨x2,bx2,h⟩:=cP h
  have p4:=fun{sc F} (r:PS sc F)=>sg 0 c1<|sv (Fo (k:=.i64) bx2)<|r
  rcases aQ h with⟨c3,h⟩|⟨c3,h⟩
  ·obtain rfl:=lf h
   have z:=p4<|sg 0 c3<|eF (lJ (.inl ())) (gM (.inl ()))
   exact jy U8 (Zn rfl) z<|by kernel_rfl
  ·obtain rfl:=lf h
   exact AC U8 (p4<|sg 0 c3<|eF .normal (lI s (bV (t6+1))))<|by kernel_rfl
 ·obtain rfl:=lf h
  have z:=sg 0 c1<|eF (lJ (.inr ())) (gM (.inr ()))
  exact jy U8 (Zn rfl) z<|by kernel_rfl
theorem uj{x:Unit⊕(Unit)}(h:yy s t6=some x):bh Pg GE 0 (.loop (cA W9 55)) (EX (lJ x) (gM x)) (lI s t6):=
 ZL h fun _ _ hy=>Bv _ _ hy
end
def Do(s:af):Option Bool:=
 (yy s 0).bind fun o5=>match o5 with
 |(.inl o5)=>
  some true
 |(.inr o5)=>
  some false
theorem GJ{s:af}{r:Bool}(h:Do s=some r):CC Pg GE 187 [.str s] (.bool r) []:=by
 obtain⟨o5,bo5,h⟩:=cP h
 rcases o5 with o5|o5
 ·obtain rfl:=lf h
  have z:=sv xf<|du (e:=.ret) (s1:=gM (.inl o5)) (uj s 0 bo5)<|en (aI (rP (.bool true))<|trivial)
  exact Z187.v (aI trivial trivial) z<|by kernel_rfl
 ·obtain rfl:=lf h
  have z:=sv xf<|du (e:=.exit 0) (s1:=gM (.inr o5)) (uj s 0 bo5)<|en (aI (rP (.bool false))<|trivial)
  exact Z187.v (aI trivial trivial) z<|by kernel_rfl
noncomputable def ZX:Code:=f188.body.getD .skip
def Zw:List Nat:=[]
theorem Z188:ZF Zw 188 f188 ZX:=⟨call188,func188,rfl⟩
def xe(c:Int):Option Bool:=
 if(decide (48<=c))=true then
  some (decide (c<=57))
 else
  some false
theorem vS{c:Int}{r:Bool}(h:xe c=some r):CC Pg GE 188 [.int .u8 c] (.bool r) []:=by
 rcases aQ h with⟨c1,h⟩|⟨c1,h⟩
 ·obtain rfl:=lf h
  have z:=sg 3 c1<|en (aI (rP (.bool (decide (c<=57))))<|trivial)
  exact Z188.v (aI trivial trivial) z<|by kernel_rfl
 ·obtain rfl:=lf h
  have z:=sg 3 c1<|en (aI (rP (.bool false))<|trivial)
  exact Z188.v (aI trivial trivial) z<|by kernel_rfl
noncomputable def Ty:Code:=f161.body.getD .skip
def KI:List Nat:=[]
theorem Z161:ZF KI 161 f161 Ty:=⟨call161,func161,rfl⟩
section
variable(s:af)
def Iq:aB:=bg 41 [(0,.str s)] [] []
def pb(o:Bool):aB:=bg 41 [(0,.str s),(16,.bool o)] [] []
def Dp:Option Bool:=
 (xg s).bind fun r1=>
 if(!r1)=true then
  some true
 else
  (CF s 0).bind fun c3=>
  (tu c3).bind fun r4=>
  if(!r4)=true then
   some true
  else
   (Do s).bind fun r7=>
   some r7
theorem GM{x:Bool}(h:Dp s=some x):bh Pg GE 0 (cA Ty 12) (EX .normal (pb s x)) (Iq s):=by
 obtain⟨r1,br1,h⟩:=cP h
 rcases aQ h with⟨c2,h⟩|⟨c2,h⟩
 ·obtain rfl:=lf h
  exact bF KI (dj (kZ br1)<|sg 4 c2<|eF .normal (pb s true))<|by kernel_rfl
 ·obtain⟨c3,bc3,r4,br4,h⟩:=Zb2 h
  have p6:=fun{sc F} (r:PS sc F)=>dj (kZ br1)<|sg 4 c2<|sv (xm (k:=.i64) underlying9 bc3)<|dj (qn br4)<|r
  rcases aQ h with⟨c5,h⟩|⟨c5,h⟩
  ·obtain rfl:=lf h
   exact bF KI (p6<|sg 10 c5<|eF .normal (pb s true))<|by kernel_rfl
  ·obtain⟨r7,br7,h⟩:=cP h
   obtain rfl:=lf h
   exact bF KI (p6<|sg 10 c5<|dj (GJ br7)<|eF .normal (pb s r7))<|by kernel_rfl
end
section
variable(s:af)(i:Int)
def Ir:aB:=bg 41 [(0,.str s),(3,.int .i64 i)] [] []
def pd(o:Bool):aB:=bg 41 [(0,.str s),(3,.int .i64 i),(40,.bool o)] [] []
def Dq:Option Bool:=
 (CF s i).bind fun c12=>
 (tu c12).bind fun r13=>
 if(!r13)=true then
  (CF s i).bind fun c16=>
  (xe c16).bind fun r17=>
  if(!r17)=true then
   (CF s i).bind fun c20=>
   some (c20 !=95)
  else
   some false
 else
  some false
theorem GN{x:Bool}(h:Dq s i=some x):bh Pg GE 0 (cA Ty 1914) (EX .normal (pd s i x)) (Ir s i):=by
 obtain⟨c12,bc12,r13,br13,h⟩:=Zb2 h
 have p15:=fun{sc F} (r:PS sc F)=>sv (xm (k:=.i64) underlying9 bc12)<|dj (qn br13)<|r
 rcases aQ h with⟨c14,h⟩|⟨c14,h⟩
 ·obtain⟨c16,bc16,r17,br17,h⟩:=Zb2 h
  have p19:=fun{sc F} (r:PS sc F)=>p15<|sg 6 c14<|sv (xm (k:=.i64) underlying9 bc16)<|dj (vS br17)<|r
  rcases aQ h with⟨c18,h⟩|⟨c18,h⟩
  ·obtain⟨c20,bc20,h⟩:=cP h
   obtain rfl:=lf h
   exact bF KI (p19<|sg 13 c18<|sv (xm (k:=.i64) underlying9 bc20)<|eF .normal (pd s i (c20 !=95)))<|by kernel_rfl
  ·obtain rfl:=lf h
   exact bF KI (p19<|sg 13 c18<|eF .normal (pd s i false))<|by kernel_rfl
 ·obtain rfl:=lf h
  exact bF KI (p15<|sg 6 c14<|eF .normal (pd s i false))<|by kernel_rfl
end
section
variable(s:af)(i:Int)
def pe:aB:=bg 41 [(0,.str s),(3,.int .i64 i)] [] []
def pf(o:Unit⊕(Unit)):Exit:=match o with
 |(.inl _)=>.ret
 |(.inr _)=>.exit 0
def j6(o:Unit⊕(Unit)):aB:=match o with
 |(.inl o)=>bg 41 [(2,.bool false)] [] []
 |(.inr o)=>bg 41 [] [] []
def zX:Option (Int⊕(Unit⊕(Unit))):=
 if(decide (i<(s.length:Int)))=true then
  (Dq s i).bind fun o21=>
  if o21=true then
   some (.inr (.inl ()))
  else
   some (.inl (bV (i+1)))
 else
  some (.inr (.inr ()))
def Dr:Option (Unit⊕(Unit)):=loop (fun(zz:Int)=>zX s zz) i
theorem Fp{y:Int⊕(Unit⊕(Unit))}(h:zX s i=some y):bh Pg GE 0 (cA Ty 119) (LQ (fun(zz:Int)=>pe s zz) pf j6 y) (pe s i):=by
 rcases aQ h with⟨c11,h⟩|⟨c11,h⟩
 ·obtain⟨o21,bo21,h⟩:=cP h
  have p23:=fun{sc F} (r:PS sc F)=>bW (oJ underlying9 s)<|sg 0 c11<|rh 1<|du (GN s i bo21)<|r
  rcases aQ h with⟨c22,h⟩|⟨c22,h⟩
  ·obtain rfl:=lf h
   have z:=p23<|sg 0 c22<|eF (pf (.inl ())) (j6 (.inl ()))
   exact jy KI (Zn rfl) z<|by kernel_rfl
  ·obtain rfl:=lf h
   exact AC KI (p23<|sg 0 c22<|eF .normal (pe s (bV (i+1))))<|by kernel_rfl
 ·obtain rfl:=lf h
  have z:=bW (oJ underlying9 s)<|sg 0 c11<|eF (pf (.inr ())) (j6 (.inr ()))
  exact jy KI (Zn rfl) z<|by kernel_rfl
theorem yB{x:Unit⊕(Unit)}(h:Dr s i=some x):bh Pg GE 0 (.loop (cA Ty 119)) (EX (pf x) (j6 x)) (pe s i):=
 ZL h fun _ _ hy=>Fp _ _ hy
end
def J0(s:af):Option Bool:=
 (Dp s).bind fun o8=>
 if o8=true then
  some false
 else
  (Dr s 1).bind fun o24=>match o24 with
  |(.inl o24)=>
   some false
  |(.inr o24)=>
   some true
theorem Ds{s:af}{r:Bool}(h:J0 s=some r):CC Pg GE 161 [.str s] (.bool r) []:=by
 obtain⟨o8,bo8,h⟩:=cP h
 have p10:=fun{sc F} (r:PS sc F)=>rh 2<|du (GM s bo8)<|r
 rcases aQ h with⟨c9,h⟩|⟨c9,h⟩
 ·obtain rfl:=lf h
  have z:=p10<|sg 0 c9<|en (aI (rP (.bool false))<|trivial)
  exact Z161.v (aI trivial trivial) z<|by kernel_rfl
 ·obtain⟨o24,bo24,h⟩:=cP h
  rcases o24 with o24|o24
  ·obtain rfl:=lf h
   have z:=p10<|sg 0 c9<|du (e:=.ret) (s1:=j6 (.inl o24)) (yB s 1 bo24)<|en (aI (rP (.bool false))<|trivial)
   exact Z161.v (aI trivial trivial) z<|by kernel_rfl
  ·obtain rfl:=lf h
   have z:=p10<|sg 0 c9<|du (e:=.exit 0) (s1:=j6 (.inr o24)) (yB s 1 bo24)<|en (aI (rP (.bool true))<|trivial)
   exact Z161.v (aI trivial trivial) z<|by kernel_rfl
noncomputable def ZY:Code:=f189.body.getD .skip
def Zx:List Nat:=[]
theorem Z189:ZF Zx 189 f189 ZY:=⟨call189,func189,rfl⟩
def xT(c:Int):Option Bool:=
 if(decide (65<=c))=true then
  some (decide (c<=90))
 else
  some false
theorem yA{c:Int}{r:Bool}(h:xT c=some r):CC Pg GE 189 [.int .u8 c] (.bool r) []:=by
 rcases aQ h with⟨c1,h⟩|⟨c1,h⟩
 ·obtain rfl:=lf h
  have z:=sg 3 c1<|en (aI (rP (.bool (decide (c<=90))))<|trivial)
  exact Z189.v (aI trivial trivial) z<|by kernel_rfl
 ·obtain rfl:=lf h
  have z:=sg 3 c1<|en (aI (rP (.bool false))<|trivial)
  exact Z189.v (aI trivial trivial) z<|by kernel_rfl
noncomputable def Vn:Code:=f164.body.getD .skip
def Po:List Nat:=[]
theorem Z164:ZF Po 164 f164 Vn:=⟨call164,func164,rfl⟩
section
variable(s:af)(i:Int)
def yz:aB:=bg 29 [(0,.str s),(3,.int .i64 i)] [] []
def iE(o:Bool):aB:=bg 29 [(0,.str s),(3,.int .i64 i),(28,.bool o)] [] []
def rz:Option Bool:=
 (CF s i).bind fun c2=>
 (tu c2).bind fun r3=>
 if(!r3)=true then
  (CF s i).bind fun c6=>
  (xT c6).bind fun r7=>
  if(!r7)=true then
   (CF s i).bind fun c10=>
   (xe c10).bind fun r11=>
   some (!r11)
  else
   some false
 else
  some false
theorem xS{x:Bool}(h:rz s i=some x):bh Pg GE 0 (cA Vn 890) (EX .normal (iE s i x)) (yz s i):=by
 obtain⟨c2,bc2,r3,br3,h⟩:=Zb2 h
 have p5:=fun{sc F} (r:PS sc F)=>sv (xm (k:=.i64) underlying9 bc2)<|dj (qn br3)<|r
 rcases aQ h with⟨c4,h⟩|⟨c4,h⟩
 ·obtain⟨c6,bc6,r7,br7,h⟩:=Zb2 h
  have p9:=fun{sc F} (r:PS sc F)=>p5<|sg 6 c4<|sv (xm (k:=.i64) underlying9 bc6)<|dj (yA br7)<|r
  rcases aQ h with⟨c8,h⟩|⟨c8,h⟩
  ·obtain⟨c10,bc10,r11,br11,h⟩:=Zb2 h
   obtain rfl:=lf h
   exact bF Po (p9<|sg 13 c8<|sv (xm (k:=.i64) underlying9 bc10)<|dj (vS br11)<|eF .normal (iE s i (!r11)))<|by kernel_rfl
  ·obtain rfl:=lf h
   exact bF Po (p9<|sg 13 c8<|eF .normal (iE s i false))<|by kernel_rfl
 ·obtain rfl:=lf h
  exact bF Po (p5<|sg 6 c4<|eF .normal (iE s i false))<|by kernel_rfl
end
section
variable(s:af)(i:Int)
def iF:aB:=bg 29 [(0,.str s),(3,.int .i64 i)] [] []
def iG(o:Unit⊕(Unit)):Exit:=match o with
 |(.inl _)=>.ret
 |(.inr _)=>.exit 0
def ey(o:Unit⊕(Unit)):aB:=match o with
 |(.inl o)=>bg 29 [(2,.bool false)] [] []
 |(.inr o)=>bg 29 [] [] []
def pL:Option (Int⊕(Unit⊕(Unit))):=
 if(decide (i<(s.length:Int)))=true then
  (rz s i).bind fun o12=>
  if o12=true then
   some (.inr (.inl ()))
  else
   some (.inl (bV (i+1)))
 else
  some (.inr (.inr ()))
def rA:Option (Unit⊕(Unit)):=loop (fun(zz:Int)=>pL s zz) i
theorem wy{y:Int⊕(Unit⊕(Unit))}(h:pL s i=some y):bh Pg GE 0 (cA Vn 55) (LQ (fun(zz:Int)=>iF s zz) iG ey y) (iF s i):=by
 rcases aQ h with⟨c1,h⟩|⟨c1,h⟩
 ·obtain⟨o12,bo12,h⟩:=cP h
  have p14:=fun{sc F} (r:PS sc F)=>bW (oJ underlying9 s)<|sg 0 c1<|rh 1<|du (xS s i bo12)<|r
  rcases aQ h with⟨c13,h⟩|⟨c13,h⟩
  ·obtain rfl:=lf h
   have z:=p14<|sg 0 c13<|eF (iG (.inl ())) (ey (.inl ()))
   exact jy Po (Zn rfl) z<|by kernel_rfl
  ·obtain rfl:=lf h
   exact AC Po (p14<|sg 0 c13<|eF .normal (iF s (bV (i+1))))<|by kernel_rfl
 ·obtain rfl:=lf h
  have z:=bW (oJ underlying9 s)<|sg 0 c1<|eF (iG (.inr ())) (ey (.inr ()))
  exact jy Po (Zn rfl) z<|by kernel_rfl
theorem oG{x:Unit⊕(Unit)}(h:rA s i=some x):bh Pg GE 0 (.loop (cA Vn 55)) (EX (iG x) (ey x)) (iF s i):=
 ZL h fun _ _ hy=>wy _ _ hy
end
def pB(s:af):Option Bool:=
 (rA s 0).bind fun o15=>match o15 with
 |(.inl o15)=>
  some false
 |(.inr o15)=>
  some true
theorem rC{s:af}{r:Bool}(h:pB s=some r):CC Pg GE 164 [.str s] (.bool r) []:=by
 obtain⟨o15,bo15,h⟩:=cP h
 rcases o15 with o15|o15
 ·obtain rfl:=lf h
  have z:=du (e:=.ret) (s1:=ey (.inl o15)) (oG s 0 bo15)<|en (aI (rP (.bool false))<|trivial)
  exact Z164.v (aI trivial trivial) z<|by kernel_rfl
 ·obtain rfl:=lf h
  have z:=du (e:=.exit 0) (s1:=ey (.inr o15)) (oG s 0 bo15)<|en (aI (rP (.bool true))<|trivial)
  exact Z164.v (aI trivial trivial) z<|by kernel_rfl
noncomputable def X6:Code:=f162.body.getD .skip
def U7:List Nat:=[]
theorem Z162:ZF U7 162 f162 X6:=⟨call162,func162,rfl⟩
section
variable(s:af)
def GO:aB:=bg 31 [(0,.str s)] [] []
def nO(o:Bool):aB:=bg 31 [(0,.str s),(16,.bool o)] [] []
def Bx:Option Bool:=
 (xg s).bind fun r1=>
 if(!r1)=true then
  some true
 else
  (CF s 0).bind fun c3=>
  (xT c3).bind fun r4=>
  if(!r4)=true then
   some true
  else
   (pB s).bind fun r7=>
   some (!r7)
theorem Fq{x:Bool}(h:Bx s=some x):bh Pg GE 0 (cA X6 12) (EX .normal (nO s x)) (GO s):=by
 obtain⟨r1,br1,h⟩:=cP h
 rcases aQ h with⟨c2,h⟩|⟨c2,h⟩
 ·obtain rfl:=lf h
  exact bF U7 (dj (kZ br1)<|sg 4 c2<|eF .normal (nO s true))<|by kernel_rfl
 ·obtain⟨c3,bc3,r4,br4,h⟩:=Zb2 h
  have p6:=fun{sc F} (r:PS sc F)=>dj (kZ br1)<|sg 4 c2<|sv (xm (k:=.i64) underlying9 bc3)<|dj (yA br4)<|r
  rcases aQ h with⟨c5,h⟩|⟨c5,h⟩
  ·obtain rfl:=lf h
   exact bF U7 (p6<|sg 10 c5<|eF .normal (nO s true))<|by kernel_rfl
  ·obtain⟨r7,br7,h⟩:=cP h
   obtain rfl:=lf h
   exact bF U7 (p6<|sg 10 c5<|dj (rC br7)<|eF .normal (nO s (!r7)))<|by kernel_rfl
end
def HQ(s:af):Option Bool:=
 (Bx s).bind fun o8=>
 if o8=true then
  some false
 else
  if (!(s == ([73,110,116]:af))) = true then
   if(!(s==([66,111,111,108]:af)))=true then
    if(!(s==([67,101,108,108]:af)))=true then
     some (!(s==([70,117,110]:af)))
    else
     some false
   else
    some false
  else
   some false
theorem J1{s:af}{r:Bool}(h:HQ s=some r):CC Pg GE 162 [.str s] (.bool r) []:=by
 obtain⟨o8,bo8,h⟩:=cP h
 have p10:=fun{sc F} (r:PS sc F)=>rh 2<|du (Fq s bo8)<|r
 rcases aQ h with⟨c9,h⟩|⟨c9,h⟩
 ·obtain rfl:=lf h
  have z:=p10<|sg 0 c9<|en (aI (rP (.bool false))<|trivial)
  exact Z162.v (aI trivial trivial) z<|by kernel_rfl
 ·have p12:=fun{sc F} (r:PS sc F)=>p10<|sg 0 c9<|r
  rcases aQ h with⟨c11,h⟩|⟨c11,h⟩
  ·have p14:=fun{sc F} (r:PS sc F)=>p12<|sg 3 c11<|r
   rcases aQ h with⟨c13,h⟩|⟨c13,h⟩
   ·have p16:=fun{sc F} (r:PS sc F)=>p14<|sg 7 c13<|r
    rcases aQ h with⟨c15,h⟩|⟨c15,h⟩
    ·obtain rfl:=lf h
     have z:=p16<|sg 11 c15<|en (aI (rP (.bool (!(s==([70,117,110]:af)))))<|trivial)
     exact Z162.v (aI trivial trivial) z<|by kernel_rfl
    ·obtain rfl:=lf h
     have z:=p16<|sg 11 c15<|en (aI (rP (.bool false))<|trivial)
     exact Z162.v (aI trivial trivial) z<|by kernel_rfl
   ·obtain rfl:=lf h
    have z:=p14<|sg 7 c13<|en (aI (rP (.bool false))<|trivial)
    exact Z162.v (aI trivial trivial) z<|by kernel_rfl
  ·obtain rfl:=lf h
   have z:=p12<|sg 3 c11<|en (aI (rP (.bool false))<|trivial)
   exact Z162.v (aI trivial trivial) z<|by kernel_rfl
noncomputable def Vo:Code:=f165.body.getD .skip
def NJ:List Nat:=[]
theorem Z165:ZF NJ 165 f165 Vo:=⟨call165,func165,rfl⟩
section
variable(s:af)(i:Int)
def Is:aB:=bg 32 [(0,.str s),(3,.int .i64 i)] [] []
def lV(o:Bool):aB:=bg 32 [(0,.str s),(3,.int .i64 i),(31,.bool o)] [] []
def Dt:Option Bool:=
 (CF s i).bind fun c2=>
 (tu c2).bind fun r3=>
 if (!r3) = true then
  if(i==0)=true then
   some true
  else
   (CF s i).bind fun c8=>
   (xe c8).bind fun r9=>
   if(!r9)=true then
    (CF s i).bind fun c12=>
    some (c12 !=95)
   else
    some false
 else
  some false
theorem GP{x:Bool}(h:Dt s i=some x):bh Pg GE 0 (cA Vo 890) (EX .normal (lV s i x)) (Is s i):=by
 obtain⟨c2,bc2,r3,br3,h⟩:=Zb2 h
 have p5:=fun{sc F} (r:PS sc F)=>sv (xm (k:=.i64) underlying9 bc2)<|dj (qn br3)<|r
 rcases aQ h with⟨c4,h⟩|⟨c4,h⟩
 ·have p7:=fun{sc F} (r:PS sc F)=>p5<|sg 6 c4<|r
  rcases aQ h with⟨c6,h⟩|⟨c6,h⟩
  ·obtain rfl:=lf h
   exact bF NJ (p7<|sg 9 c6<|eF .normal (lV s i true))<|by kernel_rfl
  ·obtain⟨c8,bc8,r9,br9,h⟩:=Zb2 h
   have p11:=fun{sc F} (r:PS sc F)=>p7<|sg 9 c6<|sv (xm (k:=.i64) underlying9 bc8)<|dj (vS br9)<|r
   rcases aQ h with⟨c10,h⟩|⟨c10,h⟩
   ·obtain⟨c12,bc12,h⟩:=cP h
    obtain rfl:=lf h
    exact bF NJ (p11<|sg 15 c10<|sv (xm (k:=.i64) underlying9 bc12)<|eF .normal (lV s i (c12 !=95)))<|by kernel_rfl
   ·obtain rfl:=lf h
    exact bF NJ (p11<|sg 15 c10<|eF .normal (lV s i false))<|by kernel_rfl
 ·obtain rfl:=lf h
  exact bF NJ (p5<|sg 6 c4<|eF .normal (lV s i false))<|by kernel_rfl
end
section
variable(s:af)(i:Int)
def pg:aB:=bg 32 [(0,.str s),(3,.int .i64 i)] [] []
def ph(o:Unit⊕(Unit)):Exit:=match o with
 |(.inl _)=>.ret
 |(.inr _)=>.exit 0
def j7(o:Unit⊕(Unit)):aB:=match o with
 |(.inl o)=>bg 32 [(2,.bool false)] [] []
 |(.inr o)=>bg 32 [] [] []
def zY:Option (Int⊕(Unit⊕(Unit))):=
 if(decide (i<(s.length:Int)))=true then
  (Dt s i).bind fun o13=>
  if o13=true then
   some (.inr (.inl ()))
  else
   some (.inl (bV (i+1)))
 else
  some (.inr (.inr ()))
def Du:Option (Unit⊕(Unit)):=loop (fun(zz:Int)=>zY s zz) i
theorem Fr{y:Int⊕(Unit⊕(Unit))}(h:zY s i=some y):bh Pg GE 0 (cA Vo 55) (LQ (fun(zz:Int)=>pg s zz) ph j7 y) (pg s i):=by
 rcases aQ h with⟨c1,h⟩|⟨c1,h⟩
 ·obtain⟨o13,bo13,h⟩:=cP h
  have p15:=fun{sc F} (r:PS sc F)=>bW (oJ underlying9 s)<|sg 0 c1<|rh 1<|du (GP s i bo13)<|r
  rcases aQ h with⟨c14,h⟩|⟨c14,h⟩
  ·obtain rfl:=lf h
   have z:=p15<|sg 0 c14<|eF (ph (.inl ())) (j7 (.inl ()))
   exact jy NJ (Zn rfl) z<|by kernel_rfl
  ·obtain rfl:=lf h
   exact AC NJ (p15<|sg 0 c14<|eF .normal (pg s (bV (i+1))))<|by kernel_rfl
 ·obtain rfl:=lf h
  have z:=bW (oJ underlying9 s)<|sg 0 c1<|eF (ph (.inr ())) (j7 (.inr ()))
  exact jy NJ (Zn rfl) z<|by kernel_rfl
theorem yC{x:Unit⊕(Unit)}(h:Du s i=some x):bh Pg GE 0 (.loop (cA Vo 55)) (EX (ph x) (j7 x)) (pg s i):=
 ZL h fun _ _ hy=>Fr _ _ hy
end
def J2(s:af):Option Bool:=
 (Du s 0).bind fun o16=>match o16 with
 |(.inl o16)=>
  some false
 |(.inr o16)=>
  some true
theorem Lc{s:af}{r:Bool}(h:J2 s=some r):CC Pg GE 165 [.str s] (.bool r) []:=by
 obtain⟨o16,bo16,h⟩:=cP h
 rcases o16 with o16|o16
 ·obtain rfl:=lf h
  have z:=du (e:=.ret) (s1:=j7 (.inl o16)) (yC s 0 bo16)<|en (aI (rP (.bool false))<|trivial)
  exact Z165.v (aI trivial trivial) z<|by kernel_rfl
 ·obtain rfl:=lf h
  have z:=du (e:=.exit 0) (s1:=j7 (.inr o16)) (yC s 0 bo16)<|en (aI (rP (.bool true))<|trivial)
  exact Z165.v (aI trivial trivial) z<|by kernel_rfl
noncomputable def Tx:Code:=f143.body.getD .skip
def IY:List Nat:=[]
theorem Z143:ZF IY 143 f143 Tx:=⟨call143,func143,rfl⟩
section
variable(first:af)(rest:af)(more:Bool)
def Io:aB:=bg 52 [(3,.str first),(4,.str rest),(5,.bool more)] [] []
def lU(o:Bool):aB:=bg 52 [(4,.str rest),(5,.bool more),(31,.bool o)] [] []
def Dk:Option Bool:=
 (J0 first).bind fun r3=>
 if (!r3) = true then
  (HQ first).bind fun r5=>
  if(!r5)=true then
   if(!(first==([118]:af)))=true then
    some true
   else
    some (!more)
  else
   some false
 else
  some false
theorem GH{x:Bool}(h:Dk first more=some x):bh Pg GE 0 (cA Tx 60) (EX .normal (lU rest more x)) (Io first rest more):=by
 obtain⟨r3,br3,h⟩:=cP h
 rcases aQ h with⟨c4,h⟩|⟨c4,h⟩
 ·obtain⟨r5,br5,h⟩:=cP h
  have p7:=fun{sc F} (r:PS sc F)=>dj (Ds br3)<|sg 4 c4<|dj (J1 br5)<|r
  rcases aQ h with⟨c6,h⟩|⟨c6,h⟩
  ·have p9:=fun{sc F} (r:PS sc F)=>p7<|sg 9 c6<|r
   rcases aQ h with⟨c8,h⟩|⟨c8,h⟩
   ·obtain rfl:=lf h
    exact bF IY (p9<|sg 12 c8<|eF .normal (lU rest more true))<|by kernel_rfl
   ·obtain rfl:=lf h
    exact bF IY (p9<|sg 12 c8<|eF .normal (lU rest more (!more)))<|by kernel_rfl
  ·obtain rfl:=lf h
   exact bF IY (p7<|sg 9 c6<|eF .normal (lU rest more false))<|by kernel_rfl
 ·obtain rfl:=lf h
  exact bF IY (dj (Ds br3)<|sg 4 c4<|eF .normal (lU rest more false))<|by kernel_rfl
end
section
variable(rest:af)(more:Bool)(part:af)
def Ip:aB:=bg 52 [(4,.str rest),(5,.bool more),(6,.str part)] [] []
def oY(o:Bool):aB:=bg 52 [(4,.str rest),(5,.bool more),(51,.bool o)] [] []
def Dl:Option Bool:=
 (xg part).bind fun r15=>
 if(!r15)=true then
  some true
 else
  (pB part).bind fun r17=>
  if(!r17)=true then
   (J2 part).bind fun r20=>
   some (!r20)
  else
   some false
theorem GI{x:Bool}(h:Dl part=some x):bh Pg GE 0 (cA Tx 8062) (EX .normal (oY rest more x)) (Ip rest more part):=by
 obtain⟨r15,br15,h⟩:=cP h
 rcases aQ h with⟨c16,h⟩|⟨c16,h⟩
 ·obtain rfl:=lf h
  exact bF IY (dj (kZ br15)<|sg 4 c16<|eF .normal (oY rest more true))<|by kernel_rfl
 ·obtain⟨r17,br17,h⟩:=cP h
  have p19:=fun{sc F} (r:PS sc F)=>dj (kZ br15)<|sg 4 c16<|dj (rC br17)<|r
  rcases aQ h with⟨c18,h⟩|⟨c18,h⟩
  ·obtain⟨r20,br20,h⟩:=cP h
   obtain rfl:=lf h
   exact bF IY (p19<|sg 8 c18<|dj (Lc br20)<|eF .normal (oY rest more (!r20)))<|by kernel_rfl
  ·obtain rfl:=lf h
   exact bF IY (p19<|sg 8 c18<|eF .normal (oY rest more false))<|by kernel_rfl
end
section
variable(rest:af)(more:Bool)
def oZ:aB:=bg 52 [(4,.str rest),(5,.bool more)] [] []
def o0(o:Unit⊕(Unit)):Exit:=match o with
 |(.inl _)=>.ret
 |(.inr _)=>.exit 0
def j5(o:Unit⊕(Unit)):aB:=match o with
 |(.inl o)=>bg 52 [(2,.int .i64 3)] [] []
 |(.inr o)=>bg 52 [] [] []
def zV:Option ((af×Bool)⊕(Unit⊕(Unit))):=
 if more=true then
  (GK rest).bind fun r14=>
  (Dl r14.1).bind fun o21=>
  if o21=true then
   some (.inr (.inl ()))
  else
   some (.inl (r14.2.1,r14.2.2))
 else
  some (.inr (.inr ()))
def Dm:Option (Unit⊕(Unit)):=loop (fun(zz:af×Bool)=>zV zz.1 zz.2) (rest,more)
theorem Fg{y:(af×Bool)⊕(Unit⊕(Unit))}(h:zV rest more=some y):bh Pg GE 0 (cA Tx 251) (LQ (fun(zz:af×Bool)=>oZ zz.1 zz.2) o0 j5 y) (oZ rest more):=by
 rcases aQ h with⟨c13,h⟩|⟨c13,h⟩
 ·obtain⟨r14,br14,o21,bo21,h⟩:=Zb2 h
  have p23:=fun{sc F} (r:PS sc F)=>sg 0 c13<|dj (Fm br14)<|rh 0<|du (GI r14.2.1 r14.2.2 r14.1 bo21)<|r
  rcases aQ h with⟨c22,h⟩|⟨c22,h⟩
  ·obtain rfl:=lf h
   have z:=p23<|sg 0 c22<|eF (o0 (.inl ())) (j5 (.inl ()))
   exact jy IY (Zn rfl) z<|by kernel_rfl
  ·obtain rfl:=lf h
   exact AC IY (p23<|sg 0 c22<|eF .normal (oZ r14.2.1 r14.2.2))<|by kernel_rfl
 ·obtain rfl:=lf h
  have z:=sg 0 c13<|eF (o0 (.inr ())) (j5 (.inr ()))
  exact jy IY (Zn rfl) z<|by kernel_rfl
theorem yx{x:Unit⊕(Unit)}(h:Dm rest more=some x):bh Pg GE 0 (.loop (cA Tx 251)) (EX (o0 x) (j5 x)) (oZ rest more):=
 ZL h fun _ _ hy=>Fg _ _ hy
end
def D5(s:af):Option Int:=
 if(decide ((s.length:Int)>120))=true then
  some 3
 else
  (GK s).bind fun r2=>
  (Dk r2.1 r2.2.2).bind fun o10=>
  if o10=true then
   some 3
  else
   (Dm r2.2.1 r2.2.2).bind fun o24=>match o24 with
   |(.inl o24)=>
    some 3
   |(.inr o24)=>
    some 0
theorem Dn{s:af}{r:Int}(h:D5 s=some r):CC Pg GE 143 [.str s] (.int .i64 r) []:=by
 rcases aQ h with⟨c1,h⟩|⟨c1,h⟩
 ·obtain rfl:=lf h
  have z:=bW (oJ underlying9 s)<|sg 0 c1<|en (aI (rP (.int .i64 3))<|trivial)
  exact Z143.v (aI trivial trivial) z<|by kernel_rfl
 ·obtain⟨r2,br2,o10,bo10,h⟩:=Zb2 h
  have p12:=fun{sc F} (r:PS sc F)=>bW (oJ underlying9 s)<|sg 0 c1<|dj (Fm br2)<|rh 1<|du (GH r2.1 r2.2.1 r2.2.2 bo10)<|r
  rcases aQ h with⟨c11,h⟩|⟨c11,h⟩
  ·obtain rfl:=lf h
   have z:=p12<|sg 0 c11<|en (aI (rP (.int .i64 3))<|trivial)
   exact Z143.v (aI trivial trivial) z<|by kernel_rfl
  ·obtain⟨o24,bo24,h⟩:=cP h
   rcases o24 with o24|o24
   ·obtain rfl:=lf h
    have z:=p12<|sg 0 c11<|du (e:=.ret) (s1:=j5 (.inl o24)) (yx r2.2.1 r2.2.2 bo24)<|en (aI (rP (.int .i64 3))<|trivial)
    exact Z143.v (aI trivial trivial) z<|by kernel_rfl
   ·obtain rfl:=lf h
    have z:=p12<|sg 0 c11<|du (e:=.exit 0) (s1:=j5 (.inr o24)) (yx r2.2.1 r2.2.2 bo24)<|en (aI (rP (.int .i64 0))<|trivial)
    exact Z143.v (aI trivial trivial) z<|by kernel_rfl
noncomputable def ZU:Code:=f142.body.getD .skip
def Zt:List Nat:=[]
theorem Z142:ZF Zt 142 f142 ZU:=⟨call142,func142,rfl⟩
def BQ(a:af):Option Bool:=
 (D5 a).bind fun r1=>
 some (r1 !=0)
theorem FX{a:af}{r:Bool}(h:BQ a=some r):CC Pg GE 142 [.str a] (.bool r) []:=by
 obtain⟨r1,br1,h⟩:=cP h
 obtain rfl:=lf h
 have z:=dj (Dn br1)<|en (aI (rP (.bool (r1 !=0)))<|trivial)
 exact Z142.v (aI trivial trivial) z<|by kernel_rfl
noncomputable def Px:Code:=f155.body.getD .skip
def Mq:List Nat:=[10,17]
theorem Z155:ZF Mq 155 f155 Px:=⟨call155,func155,rfl⟩
section
variable(s:waA)(t7:Int)(t8:Int)
def fb:aB:=bg 19 [(0,sl cS s),(1,.func (.func 142) [] []),(7,.int .i64 t7),(8,.int .i64 t8)] [] []
def fc(o:Int⊕(Unit)):Exit:=match o with
 |(.inl _)=>.ret
 |(.inr _)=>.exit 0
def db(o:Int⊕(Unit)):aB:=match o with
 |(.inl o)=>bg 19 [(4,.int .i64 o)] [] []
 |(.inr o)=>bg 19 [] [] []
def lx:Option (Int⊕(Int⊕(Unit))):=
 if(decide (t8<t7))=true then
  (gn s t8).bind fun x2=>
  (BQ x2).bind fun r3=>
  if r3=true then
   some (.inr (.inl t8))
  else
   some (.inl (bV (t8+1)))
 else
  some (.inr (.inr ()))
def mM:Option (Int⊕(Unit)):=loop (fun(zz:Int)=>lx s t7 zz) t8
theorem rl{y:Int⊕(Int⊕(Unit))}(h:lx s t7 t8=some y):bh Pg GE 0 (cA Px 55) (LQ (fun(zz:Int)=>fb s t7 zz) fc db y) (fb s t7 t8):=by
 rcases aQ h with⟨c1,h⟩|⟨c1,h⟩
 ·obtain⟨x2,bx2,r3,br3,h⟩:=Zb2 h
  have p5:=fun{sc F} (r:PS sc F)=>sg 0 c1<|sv (dp.ia (k:=.i64) bx2)<|sv (cY ED (.str x2) [])<|dj (FX br3)<|r
  rcases aQ h with⟨c4,h⟩|⟨c4,h⟩
  ·obtain rfl:=lf h
   have z:=p5<|sg 0 c4<|eF (fc (.inl t8)) (db (.inl t8))
   exact jy Mq (Zn rfl) z<|by kernel_rfl
  ·obtain rfl:=lf h
   exact AC Mq (p5<|sg 0 c4<|eF .normal (fb s t7 (bV (t8+1))))<|by kernel_rfl
 ·obtain rfl:=lf h
  have z:=sg 0 c1<|eF (fc (.inr ())) (db (.inr ()))
  exact jy Mq (Zn rfl) z<|by kernel_rfl
theorem lj{x:Int⊕(Unit)}(h:mM s t7 t8=some x):bh Pg GE 0 (.loop (cA Px 55)) (EX (fc x) (db x)) (fb s t7 t8):=
 ZL h fun _ _ hy=>rl _ _ _ hy
end
def oI(s:waA):Option Int:=
 (mM s (s.length:Int) 0).bind fun o6=>match o6 with
 |(.inl o6)=>
  some o6
 |(.inr o6)=>
  some (-1)
theorem uS{s:waA}{r:Int}(h:oI s=some r):CC Pg GE 155 [sl cS s,.func (.func 142) [] []] (.int .i64 r) []:=by
 obtain⟨o6,bo6,h⟩:=cP h
 rcases o6 with o6|o6
 ·obtain rfl:=lf h
  have z:=bW (dp.ln s)<|du (e:=.ret) (s1:=db (.inl o6)) (lj s (s.length:Int) 0 bo6)<|en (aI (rP (.int .i64 o6))<|trivial)
  exact Z155.v (aI (ak bD s) (aI (aI trivial trivial) trivial)) z<|by kernel_rfl
 ·obtain rfl:=lf h
  have z:=bW (dp.ln s)<|du (e:=.exit 0) (s1:=db (.inr o6)) (lj s (s.length:Int) 0 bo6)<|en (aI (rP (.int .i64 (-1)))<|trivial)
  exact Z155.v (aI (ak bD s) (aI (aI trivial trivial) trivial)) z<|by kernel_rfl
noncomputable def ZT:Code:=f141.body.getD .skip
def Zs:List Nat:=[]
theorem Z141:ZF Zs 141 f141 ZT:=⟨call141,func141,rfl⟩
def mJ(s:waA):Option Bool:=
 (oI s).bind fun r1=>
 some (decide (r1>=0))
theorem su{s:waA}{r:Bool}(h:mJ s=some r):CC Pg GE 141 [sl cS s,.func (.func 142) [] []] (.bool r) []:=by
 obtain⟨r1,br1,h⟩:=cP h
 obtain rfl:=lf h
 have z:=dj (uS br1)<|en (aI (rP (.bool (decide (r1>=0))))<|trivial)
 exact Z141.v (aI (ak bD s) (aI (aI trivial trivial) trivial)) z<|by kernel_rfl
noncomputable def Tw:Code:=f119.body.getD .skip
def NG:List Nat:=[14,36]
theorem Z119:ZF NG 119 f119 Tw:=⟨call119,func119,rfl⟩
section
variable(e:ag)(s:av)(v:waA)
def FY:aB:=bg 54 [(2,.eptr (ae e)),(3,.eptr (aD s)),(5,sl cS v)] [.dead,.dead] [((5,0),9)]
def qM(o:waA):aB:=bg 54 [(2,.eptr (ae e)),(5,sl cS o)] [.dead,.dead] [((5,0),9)]
def Aj:Option waA:=
 if s.name=true then
  (app v ([e.Name]:List af)).bind fun l4=>
  some l4
 else
  some v
theorem Es{x:waA}(h:Aj e s v=some x):bh Pg GE 0 (cA Tw 14) (EX .normal (qM e x)) (FY e s v):=by
 have p3:=fun{sc F} (r:PS sc F)=>sv (Av s)<|sv (CG s)<|r
 rcases aQ h with⟨c2,h⟩|⟨c2,h⟩
 ·obtain⟨l4,bl4,h⟩:=cP h
  obtain rfl:=lf h
  exact bF NG (p3<|sg 0 c2<|sv (eJ e)<|sv (ft e)<|sv (dp.mk' (v:=PVal.str) NF ([e.Name]:List af) 1 (by kernel_rfl))<|sv (dp.ap bl4)<|eF .normal (qM e l4))<|by kernel_rfl
 ·obtain rfl:=lf h
  exact bF NG (p3<|sg 0 c2<|eF .normal (qM e v))<|by kernel_rfl
end
section
variable(e:ag)(v:waA)
def F0:aB:=bg 54 [(2,.eptr (ae e)),(5,sl cS v)] [.dead,.dead] [((5,0),9)]
def qN(o:Bool):aB:=bg 54 [(2,.eptr (ae e)),(5,sl cS v),(6,.bool o)] [.dead,.dead] [((5,0),9)]
def Ak:Option Bool:=
 (lM e.Params).bind fun r6=>
 (uY r6).bind fun r7=>
 if r7=true then
  some true
 else
  (um e.Alts).bind fun r10=>
  (uY r10).bind fun r11=>
  some r11
theorem Et{x:Bool}(h:Ak e=some x):bh Pg GE 0 (cA Tw 30) (EX .normal (qN e v x)) (F0 e v):=by
 obtain⟨r6,br6,r7,br7,h⟩:=Zb2 h
 have p9:=fun{sc F} (r:PS sc F)=>sv (bP e)<|sv (bQ e)<|dj (pr br6)<|dj (tV br7)<|r
 rcases aQ h with⟨c8,h⟩|⟨c8,h⟩
 ·obtain rfl:=lf h
  exact bF NG (p9<|sg 5 c8<|eF .normal (qN e v true))<|by kernel_rfl
 ·obtain⟨r10,br10,r11,br11,h⟩:=Zb2 h
  obtain rfl:=lf h
  exact bF NG (p9<|sg 5 c8<|sv (aK e)<|sv (aL e)<|dj (zM br10)<|dj (tV br11)<|eF .normal (qN e v r11))<|by kernel_rfl
end
section
variable(t30:waD)(t31:Int)(v:waA)(doubled:Bool)(t32:Int)
def ko:aB:=bg 54 [(5,sl cS v),(6,.bool doubled),(30,sl aA t30),(31,.int .i64 t31),(32,.int .i64 t32)] [.dead,.dead] [((5,0),9)]
def qO(o:waA×Bool):aB:=bg 54 [(5,sl cS o.1),(6,.bool o.2)] [.dead,.dead] [((5,0),9)]
def xq:Option ((waA×Bool×Int)⊕((waA×Bool))):=
 if(decide (t32<t31))=true then
  (gn t30 t32).bind fun x14=>
  (app v ([x14.Con]:List af)).bind fun l15=>
  (app l15 x14.Names).bind fun l16=>
  if doubled=true then
   some (.inl (l16,true,bV (t32+1)))
  else
   (uY x14.Names).bind fun r19=>
   some (.inl (l16,r19,bV (t32+1)))
 else
  some (.inr (v,doubled))
def Al:Option ((waA×Bool)):=loop (fun(zz:waA×Bool×Int)=>xq t30 t31 zz.1 zz.2.1 zz.2.2) (v,doubled,t32)
theorem CY{y:(waA×Bool×Int)⊕((waA×Bool))}(h:xq t30 t31 v doubled t32=some y):bh Pg GE 0 (cA Tw 503) (LQ (fun(zz:waA×Bool×Int)=>ko t30 t31 zz.1 zz.2.1 zz.2.2) (fun _=>.exit 0) qO y) (ko t30 t31 v doubled t32):=by
 rcases aQ h with⟨c13,h⟩|⟨c13,h⟩
 ·obtain⟨x14,bx14,l15,bl15,l16,bl16,h⟩:=Zb3 h
  have p18:=fun{sc F} (r:PS sc F)=>sg 0 c13<|sv (fO.ia (k:=.i64) bx14)<|sv (mH x14)<|sx G4<|sx (jz x14)<|Kw [0,0,2,6,15,0,32,127,255]<|ss<|sv (dp.mk' (v:=PVal.str) NF ([x14.Con]:List af) 1 (by kernel_rfl))<|sv (dp.ap bl15)<|ss<|sv (dp.ap bl16)<|r
  rcases aQ h with⟨c17,h⟩|⟨c17,h⟩
  ·obtain rfl:=lf h
   have z:=p18<|sg 2 c17<|ue 0 .normal (ko t30 t31 l16 true (bV (t32+1))) rfl (dU (aI (up (ak bD l16)) (aI trivial (aI (up (ak bK t30)) (aI trivial (aI trivial trivial)))))) (aI trivial (aI trivial trivial))
   exact ed (A:=NG) mixed z<|by kernel_rfl
  ·obtain⟨r19,br19,h⟩:=cP h
   obtain rfl:=lf h
   have z:=p18<|sg 2 c17<|ss<|dj (tV br19)<|ue 0 .normal (ko t30 t31 l16 r19 (bV (t32+1))) rfl (dU (aI (up (ak bD l16)) (aI trivial (aI (up (ak bK t30)) (aI trivial (aI trivial trivial)))))) (aI trivial (aI trivial trivial))
   exact ed (A:=NG) mixed z<|by kernel_rfl
 ·obtain rfl:=lf h
  have z:=sg 0 c13<|eF (.exit 0) (qO (v,doubled))
  exact jy NG (Zn rfl) z<|by kernel_rfl
theorem Eu{x:(waA×Bool)}(h:Al t30 t31 v doubled t32=some x):bh Pg GE 0 (.loop (cA Tw 503)) (EX (.exit 0) (qO x)) (ko t30 t31 v doubled t32):=
 ZL h fun _ _ hy=>CY _ _ _ _ _ hy
end
def FW(e:ag)(s:av):Option Int:=
 (lM e.Params).bind fun r1=>
 (Aj e s r1).bind fun o5=>
 (Ak e).bind fun o12=>
 (Al e.Alts (e.Alts.length:Int) o5 o12 0).bind fun o20=>
 (mJ o20.1).bind fun r21=>
 if r21=true then
  some 3
 else
  if o20.2=true then
   some 4
  else
   some 0
theorem ID{e:ag}{s:av}{r:Int}(h:FW e s=some r):CC Pg GE 119 [.agg (ae e),.agg (aD s)] (.int .i64 r) []:=by
 obtain⟨r1,br1,o5,bo5,o12,bo12,o20,bo20,h⟩:=Zb4 h
 obtain⟨r21,br21,h⟩:=cP h
 have p23:=fun{sc F} (r:PS sc F)=>se (dy e)<|se (z6 s)<|sv (bP e)<|sv (bQ e)<|dj (pr br1)<|rh 0<|du (Es e s r1 bo5)<|rh 0<|du (Et e o5 bo12)<|sv (aK e)<|sv (aL e)<|bW (fO.ln e.Alts)<|du (Eu e.Alts (e.Alts.length:Int) o5 o12 0 bo20)<|dj (su br21)<|r
 rcases aQ h with⟨c22,h⟩|⟨c22,h⟩
 ·obtain rfl:=lf h
  have z:=p23<|sg 0 c22<|en (aI (rP (.int .i64 3))<|trivial)
  exact Z119.v (aI (ay e) (aI (bJ s) trivial)) z<|by kernel_rfl
 ·have p25:=fun{sc F} (r:PS sc F)=>p23<|sg 0 c22<|r
  rcases aQ h with⟨c24,h⟩|⟨c24,h⟩
  ·obtain rfl:=lf h
   have z:=p25<|sg 0 c24<|en (aI (rP (.int .i64 4))<|trivial)
   exact Z119.v (aI (ay e) (aI (bJ s) trivial)) z<|by kernel_rfl
  ·obtain rfl:=lf h
   have z:=p25<|sg 0 c24<|en (aI (rP (.int .i64 0))<|trivial)
   exact Z119.v (aI (ay e) (aI (bJ s) trivial)) z<|by kernel_rfl
abbrev sV:=(aj->Option Int)
abbrev xv(R:sV):Prop:=∀(t:aj) (r:Int),R t=some r->CC Pg GE 144 [.agg (ai t)] (.int .i64 r) []
noncomputable def W4:Code:=f144.body.getD .skip
def WG:List Nat:=[]
theorem Z144:ZF WG 144 f144 W4:=⟨call144,func144,rfl⟩
section
variable(R86:sV)(t7:waB)(t8:Int)(n:Int)(t9:Int)
def nY:aB:=bg 20 [(3,.int .i64 n),(7,sl ai t7),(8,.int .i64 t8),(9,.int .i64 t9)] [.dead] []
def sH(o:Int):aB:=bg 20 [(3,.int .i64 o)] [.dead] []
def yV:Option ((Int×Int)⊕(Int)):=
 if(decide (t9<t8))=true then
  (gn t7 t9).bind fun x2=>
  (R86 x2).bind fun r3=>
  some (.inl ((if r3>n then r3 else n),bV (t9+1)))
 else
  some (.inr n)
def B6:Option Int:=loop (fun(zz:Int×Int)=>yV R86 t7 t8 zz.1 zz.2) (n,t9)
theorem EC(hR86:xv R86){y:(Int×Int)⊕(Int)}(h:yV R86 t7 t8 n t9=some y):bh Pg GE 0 (cA W4 119) (LQ (fun(zz:Int×Int)=>nY t7 t8 zz.1 zz.2) (fun _=>.exit 0) sH y) (nY t7 t8 n t9):=by
 rcases aQ h with⟨c1,h⟩|⟨c1,h⟩
 ·obtain⟨x2,bx2,r3,br3,h⟩:=Zb2 h
  obtain rfl:=lf h
  have z:=sg 0 c1<|sv (er.ia (k:=.i64) bx2)<|sv (lT x2)<|sx Ql<|sx (sa x2)<|sv (kW x2 [])<|dj (hR86 _ _ br3)<|ue 0 .normal (nY t7 t8 (if r3>n then r3 else n) (bV (t9+1))) rfl (dU (aI trivial (aI (up (ak aE t7)) (aI trivial (aI trivial trivial))))) (aI trivial trivial)
  exact ed (A:=WG) mixed z<|by kernel_rfl
 ·obtain rfl:=lf h
  have z:=sg 0 c1<|eF (.exit 0) (sH n)
  exact jy WG (Zn rfl) z<|by kernel_rfl
theorem Gd(hR86:xv R86){x:Int}(h:B6 R86 t7 t8 n t9=some x):bh Pg GE 0 (.loop (cA W4 119)) (EX (.exit 0) (sH x)) (nY t7 t8 n t9):=
 ZL h fun _ _ hy=>EC _ _ _ _ _ hR86 hy
end
def DB(R86:sV)(t:aj):Option Int:=
 (B6 R86 t.Args (t.Args.length:Int) 0 0).bind fun o4=>
 some (bV (o4+1))
theorem IF(R86:sV)(hR86:xv R86){t:aj}{r:Int}(h:DB R86 t=some r):CC Pg GE 144 [.agg (ai t)] (.int .i64 r) []:=by
 obtain⟨o4,bo4,h⟩:=cP h
 obtain rfl:=lf h
 have z:=se (qp t)<|sv (dH t)<|sv (dI t)<|bW (er.ln t.Args)<|du (Gd R86 t.Args (t.Args.length:Int) 0 0 hR86 bo4)<|en (aI (rP (.int .i64 (bV (o4+1))))<|trivial)
 exact Z144.v (aI (aE t) trivial) z<|by kernel_rfl
def DC:(aj->Option Int)->(aj)->Option Int:=fun(rec:aj->Option Int) (x:aj)=>DB (fun t=>rec t) x
def H5(t:aj):Option Int:=tn DC t
theorem KE{t:aj}{r:Int}(h:H5 t=some r):CC Pg GE 144 [.agg (ai t)] (.int .i64 r) []:=
 fj (F:=DC) (M:=fun(x:aj) (r:Int)=>CC Pg GE 144 [.agg (ai x)] (.int .i64 r) []) (fun rec hrec x r h=>IF _ (fun t r h=>hrec t r h) h) h
end Go.Proofs.YtkdahfeiedaahaaGreatDoor
