/- PROVED: a part of the proof. Conditions: none. -/
import Derived.Test.YtkdahfeiedaahaaGreatDoorPkD14
noncomputable section
namespace Go.Proofs.YtkdahfeiedaahaaGreatDoor
open Go Go.Proofs.Tryz
set_option linter.unusedVariables false
set_option maxRecDepth 100000
noncomputable def qaW:Code:=f84.body.getD .skip
def qaq:List Nat:=[12,18]
theorem Z84:ZF qaq 84 f84 qaW:=⟨call84,func84,rfl⟩
section
variable(t6:waD)(t7:Int)(out:waA)(t8:Int)
def gK:aB:=aS 19 [(3,sl cS out),(6,sl aA t6),(7,.int .i64 t7),(8,.int .i64 t8)] [] [((3,0),9)]
def kc(o:waA):aB:=aS 19 [(3,sl cS o)] [] [((3,0),9)]
def oM:Option ((waA×Int)⊕(waA)):=
 if(decide (t8<t7))=true then
  (eT t6 t8).bind fun x2=>
  (app out ([x2.Con]:List ae)).bind fun l3=>
  some (.inl (l3,bB (t8+1)))
 else
  some (.inr out)
def ra:Option waA:=loop (fun(zz:waA×Int)=>oM t6 t7 zz.1 zz.2) (out,t8)
theorem w8{y:(waA×Int)⊕(waA)}(h:oM t6 t7 out t8=some y):aW Pg GE 0 (cA qaW 119) (LQ (fun(zz:waA×Int)=>gK t6 t7 zz.1 zz.2) (fun _=>.exit 0) kc y) (gK t6 t7 out t8):=by
 rcases aO h with⟨c1,h⟩|⟨c1,h⟩
 ·obtain⟨x2,bx2,l3,bl3,h⟩:=Zb2 h
  obtain rfl:=lf h
  have z:=sg 0 c1<|sv (eZ.ia (k:=.i64) bx2)<|sv (mA x2)<|sx Io<|sx (i7 x2)<|ss<|sv (bN.mk' (v:=PVal.str) Ij ([x2.Con]:List ae) 1 (by kernel_rfl))<|sv (bN.ap bl3)<|tr 0 .normal (gK t6 t7 l3 (bB (t8+1))) rfl (du (aI (up (aj bz l3)) (aI (up (aj bF t6)) (aI trivial (aI trivial trivial))))) trivial
  exact dy (A:=qaq) mixed z<|by kernel_rfl
 ·obtain rfl:=lf h
  have z:=sg 0 c1<|eF (.exit 0) (kc out)
  exact hU qaq (Zn rfl) z<|by kernel_rfl
theorem xp{x:waA}(h:ra t6 t7 out t8=some x):aW Pg GE 0 (.loop (cA qaW 119)) (EX (.exit 0) (kc x)) (gK t6 t7 out t8):=
 ZL h fun _ _ hy=>w8 _ _ _ _ hy
end
def uP(a:waD):Option waA:=
 (ra a (a.length:Int) ([]:List ae) 0).bind fun o4=>
 some o4
theorem AM{a:waD}{r:waA}(h:uP a=some r):CC Pg GE 84 [sl aA a] (sl cS r) [(0,9)]:=by
 obtain⟨o4,bo4,h⟩:=ck h
 obtain rfl:=lf h
 have z:=bQ (eZ.ln a)<|cT (xp a (a.length:Int) ([]:List ae) 0 bo4)<|en (aI (rP (sl cS o4))<|(aj bz o4))
 exact Z84.v (aI (aj bF a) trivial) z<|by kernel_rfl
noncomputable def XG:Code:=f160.body.getD .skip
def VY:List Nat:=[23]
theorem Z160:ZF VY 160 f160 XG:=⟨call160,func160,rfl⟩
section
variable(s:ae)(i:Int)
def qI:aB:=aS 24 [(0,.str s),(5,.int .i64 i)] [] []
def qJ(o:(ae×ae)⊕(Unit)):Exit:=match o with
 |(.inl _)=>.ret
 |(.inr _)=>.exit 0
def kC(o:(ae×ae)⊕(Unit)):aB:=match o with
 |(.inl o)=>aS 24 [(2,.str o.1),(3,.str o.2),(4,.bool true)] [] []
 |(.inr o)=>aS 24 [(0,.str s)] [] []
def Cx:Option (Int⊕((ae×ae)⊕(Unit))):=
 if(decide (i<(s.length:Int)))=true then
  (DJ s i).bind fun c2=>
  if(c2==46)=true then
   (WW s none (some i)).bind fun s5=>
   (WW s (some (bB (i+1))) none).bind fun s6=>
   some (.inr (.inl (s5,s6)))
  else
   some (.inl (bB (i+1)))
 else
  some (.inr (.inr ()))
def GB:Option ((ae×ae)⊕(Unit)):=loop (fun(zz:Int)=>Cx s zz) i
theorem H5{y:Int⊕((ae×ae)⊕(Unit))}(h:Cx s i=some y):aW Pg GE 0 (cA XG 55) (LQ (fun(zz:Int)=>qI s zz) qJ (kC s) y) (qI s i):=by
 rcases aO h with⟨c1,h⟩|⟨c1,h⟩
 ·obtain⟨c2,bc2,h⟩:=ck h
  have p4:=fun{sc F} (r:PS sc F)=>bQ (oL underlying9 s)<|sg 0 c1<|sv (ye (k:=.i64) underlying9 bc2)<|r
  rcases aO h with⟨c3,h⟩|⟨c3,h⟩
  ·obtain⟨s5,bs5,s6,bs6,h⟩:=Zb2 h
   obtain rfl:=lf h
   have z:=p4<|sg 0 c3<|G0 [0,0,3,0,0,16,56,7,255,511]<|sv (Xf underlying9 bs5)<|sv (Xf underlying9 bs6)<|eF (qJ (.inl (s5,s6))) (kC s (.inl (s5,s6)))
   exact hU VY (Zn rfl) z<|by kernel_rfl
  ·obtain rfl:=lf h
   exact wJ VY (p4<|sg 0 c3<|eF .normal (qI s (bB (i+1))))<|by kernel_rfl
 ·obtain rfl:=lf h
  have z:=bQ (oL underlying9 s)<|sg 0 c1<|eF (qJ (.inr ())) (kC s (.inr ()))
  exact hU VY (Zn rfl) z<|by kernel_rfl
theorem AX{x:(ae×ae)⊕(Unit)}(h:GB s i=some x):aW Pg GE 0 (.loop (cA XG 55)) (EX (qJ x) (kC s x)) (qI s i):=
 ZL h fun _ _ hy=>H5 _ _ hy
end
def H4(s:ae):Option (ae×ae×Bool):=
 (GB s 0).bind fun o7=>match o7 with
 |(.inl o7)=>
  some (o7.1,o7.2,true)
 |(.inr o7)=>
  some (s,([]:ae),false)
theorem GD{s:ae}{r:ae×ae×Bool}(h:H4 s=some r):CC Pg GE 160 [.str s] (.tuple [.str r.1,.str r.2.1,.bool r.2.2]) []:=by
 obtain⟨o7,bo7,h⟩:=ck h
 rcases o7 with o7|o7
 ·obtain rfl:=lf h
  have z:=cT (e:=.ret) (s1:=kC s (.inl o7)) (AX s 0 bo7)<|en (aI (rP (.tuple [.str o7.1,.str o7.2,.bool true]))<|(aI trivial (aI trivial (aI trivial trivial))))
  exact Z160.v (aI trivial trivial) z<|by kernel_rfl
 ·obtain rfl:=lf h
  have z:=cT (e:=.exit 0) (s1:=kC s (.inr o7)) (AX s 0 bo7)<|en (aI (rP (.tuple [.str s,.str ([]:ae),.bool false]))<|(aI trivial (aI trivial (aI trivial trivial))))
  exact Z160.v (aI trivial trivial) z<|by kernel_rfl
noncomputable def qaI:Code:=f163.body.getD .skip
def qah:List Nat:=[]
theorem Z163:ZF qah 163 f163 qaI:=⟨call163,func163,rfl⟩
def xZ(s:ae):Option Bool:=
 if(decide ((s.length:Int)>=1))=true then
  some (decide ((s.length:Int)<=24))
 else
  some false
theorem kD{s:ae}{r:Bool}(h:xZ s=some r):CC Pg GE 163 [.str s] (.bool r) []:=by
 rcases aO h with⟨c1,h⟩|⟨c1,h⟩
 ·obtain rfl:=lf h
  have z:=bQ (oL underlying9 s)<|sg 4 c1<|bQ (oL underlying9 s)<|en (aI (rP (.bool (decide ((s.length:Int)<=24))))<|trivial)
  exact Z163.v (aI trivial trivial) z<|by kernel_rfl
 ·obtain rfl:=lf h
  have z:=bQ (oL underlying9 s)<|sg 4 c1<|en (aI (rP (.bool false))<|trivial)
  exact Z163.v (aI trivial trivial) z<|by kernel_rfl
noncomputable def qaJ:Code:=f186.body.getD .skip
def qai:List Nat:=[]
theorem Z186:ZF qai 186 f186 qaJ:=⟨call186,func186,rfl⟩
def tP(c:Int):Option Bool:=
 if(decide (97<=c))=true then
  some (decide (c<=122))
 else
  some false
theorem qK{c:Int}{r:Bool}(h:tP c=some r):CC Pg GE 186 [.int .u8 c] (.bool r) []:=by
 rcases aO h with⟨c1,h⟩|⟨c1,h⟩
 ·obtain rfl:=lf h
  have z:=sg 3 c1<|en (aI (rP (.bool (decide (c<=122))))<|trivial)
  exact Z186.v (aI trivial trivial) z<|by kernel_rfl
 ·obtain rfl:=lf h
  have z:=sg 3 c1<|en (aI (rP (.bool false))<|trivial)
  exact Z186.v (aI trivial trivial) z<|by kernel_rfl
noncomputable def XH:Code:=f187.body.getD .skip
def V0:List Nat:=[]
theorem Z187:ZF V0 187 f187 XH:=⟨call187,func187,rfl⟩
section
variable(s:ae)(t6:Int)
def lq:aB:=aS 13 [(0,.str s),(5,.agg (i6.map PVal.str)),(6,.int .i64 t6)] [] []
def lr(o:Unit⊕(Unit)):Exit:=match o with
 |(.inl _)=>.ret
 |(.inr _)=>.exit 0
def gq(o:Unit⊕(Unit)):aB:=match o with
 |(.inl o)=>aS 13 [(2,.bool true)] [] []
 |(.inr o)=>aS 13 [] [] []
def wH:Option (Int⊕(Unit⊕(Unit))):=
 if(decide (t6<42))=true then
  (eT i6 t6).bind fun x2=>
  if(x2==s)=true then
   some (.inr (.inl ()))
  else
   some (.inl (bB (t6+1)))
 else
  some (.inr (.inr ()))
def zh:Option (Unit⊕(Unit)):=loop (fun(zz:Int)=>wH s zz) t6
theorem Cw{y:Int⊕(Unit⊕(Unit))}(h:wH s t6=some y):aW Pg GE 0 (cA XH 55) (LQ (fun(zz:Int)=>lq s zz) lr gq y) (lq s t6):=by
 rcases aO h with⟨c1,h⟩|⟨c1,h⟩
 ·obtain⟨x2,bx2,h⟩:=ck h
  have p4:=fun{sc F} (r:PS sc F)=>sg 0 c1<|sv (GF (k:=.i64) bx2)<|r
  rcases aO h with⟨c3,h⟩|⟨c3,h⟩
  ·obtain rfl:=lf h
   have z:=p4<|sg 0 c3<|eF (lr (.inl ())) (gq (.inl ()))
   exact hU V0 (Zn rfl) z<|by kernel_rfl
  ·obtain rfl:=lf h
   exact wJ V0 (p4<|sg 0 c3<|eF .normal (lq s (bB (t6+1))))<|by kernel_rfl
 ·obtain rfl:=lf h
  have z:=sg 0 c1<|eF (lr (.inr ())) (gq (.inr ()))
  exact hU V0 (Zn rfl) z<|by kernel_rfl
theorem uL{x:Unit⊕(Unit)}(h:zh s t6=some x):aW Pg GE 0 (.loop (cA XH 55)) (EX (lr x) (gq x)) (lq s t6):=
 ZL h fun _ _ hy=>Cw _ _ hy
end
def Eu(s:ae):Option Bool:=
 (zh s 0).bind fun o5=>match o5 with
 |(.inl o5)=>
  some true
 |(.inr o5)=>
  some false
theorem H3{s:ae}{r:Bool}(h:Eu s=some r):CC Pg GE 187 [.str s] (.bool r) []:=by
 obtain⟨o5,bo5,h⟩:=ck h
 rcases o5 with o5|o5
 ·obtain rfl:=lf h
  have z:=sv xY<|cT (e:=.ret) (s1:=gq (.inl o5)) (uL s 0 bo5)<|en (aI (rP (.bool true))<|trivial)
  exact Z187.v (aI trivial trivial) z<|by kernel_rfl
 ·obtain rfl:=lf h
  have z:=sv xY<|cT (e:=.exit 0) (s1:=gq (.inr o5)) (uL s 0 bo5)<|en (aI (rP (.bool false))<|trivial)
  exact Z187.v (aI trivial trivial) z<|by kernel_rfl
noncomputable def qaK:Code:=f188.body.getD .skip
def qaj:List Nat:=[]
theorem Z188:ZF qaj 188 f188 qaK:=⟨call188,func188,rfl⟩
def xX(c:Int):Option Bool:=
 if(decide (48<=c))=true then
  some (decide (c<=57))
 else
  some false
theorem wI{c:Int}{r:Bool}(h:xX c=some r):CC Pg GE 188 [.int .u8 c] (.bool r) []:=by
 rcases aO h with⟨c1,h⟩|⟨c1,h⟩
 ·obtain rfl:=lf h
  have z:=sg 3 c1<|en (aI (rP (.bool (decide (c<=57))))<|trivial)
  exact Z188.v (aI trivial trivial) z<|by kernel_rfl
 ·obtain rfl:=lf h
  have z:=sg 3 c1<|en (aI (rP (.bool false))<|trivial)
  exact Z188.v (aI trivial trivial) z<|by kernel_rfl
noncomputable def Uw:Code:=f161.body.getD .skip
def Mu:List Nat:=[]
theorem Z161:ZF Mu 161 f161 Uw:=⟨call161,func161,rfl⟩
section
variable(s:ae)
def J0:aB:=aS 41 [(0,.str s)] [] []
def pe(o:Bool):aB:=aS 41 [(0,.str s),(16,.bool o)] [] []
def Ev:Option Bool:=
 (xZ s).bind fun r1=>
 if(!r1)=true then
  some true
 else
  (DJ s 0).bind fun c3=>
  (tP c3).bind fun r4=>
  if(!r4)=true then
   some true
  else
   (Eu s).bind fun r7=>
   some r7
theorem H6{x:Bool}(h:Ev s=some x):aW Pg GE 0 (cA Uw 12) (EX .normal (pe s x)) (J0 s):=by
 obtain⟨r1,br1,h⟩:=ck h
 rcases aO h with⟨c2,h⟩|⟨c2,h⟩
 ·obtain rfl:=lf h
  exact bv Mu (cD (kD br1)<|sg 4 c2<|eF .normal (pe s true))<|by kernel_rfl
 ·obtain⟨c3,bc3,r4,br4,h⟩:=Zb2 h
  have p6:=fun{sc F} (r:PS sc F)=>cD (kD br1)<|sg 4 c2<|sv (ye (k:=.i64) underlying9 bc3)<|cD (qK br4)<|r
  rcases aO h with⟨c5,h⟩|⟨c5,h⟩
  ·obtain rfl:=lf h
   exact bv Mu (p6<|sg 10 c5<|eF .normal (pe s true))<|by kernel_rfl
  ·obtain⟨r7,br7,h⟩:=ck h
   obtain rfl:=lf h
   exact bv Mu (p6<|sg 10 c5<|cD (H3 br7)<|eF .normal (pe s r7))<|by kernel_rfl
end
section
variable(s:ae)(i:Int)
def J1:aB:=aS 41 [(0,.str s),(3,.int .i64 i)] [] []
def pf(o:Bool):aB:=aS 41 [(0,.str s),(3,.int .i64 i),(40,.bool o)] [] []
def Ew:Option Bool:=
 (DJ s i).bind fun c12=>
 (tP c12).bind fun r13=>
 if(!r13)=true then
  (DJ s i).bind fun c16=>
  (xX c16).bind fun r17=>
  if(!r17)=true then
   (DJ s i).bind fun c20=>
   some (c20 !=95)
  else
   some false
 else
  some false
theorem H7{x:Bool}(h:Ew s i=some x):aW Pg GE 0 (cA Uw 1914) (EX .normal (pf s i x)) (J1 s i):=by
 obtain⟨c12,bc12,r13,br13,h⟩:=Zb2 h
 have p15:=fun{sc F} (r:PS sc F)=>sv (ye (k:=.i64) underlying9 bc12)<|cD (qK br13)<|r
 rcases aO h with⟨c14,h⟩|⟨c14,h⟩
 ·obtain⟨c16,bc16,r17,br17,h⟩:=Zb2 h
  have p19:=fun{sc F} (r:PS sc F)=>p15<|sg 6 c14<|sv (ye (k:=.i64) underlying9 bc16)<|cD (wI br17)<|r
  rcases aO h with⟨c18,h⟩|⟨c18,h⟩
  ·obtain⟨c20,bc20,h⟩:=ck h
   obtain rfl:=lf h
   exact bv Mu (p19<|sg 13 c18<|sv (ye (k:=.i64) underlying9 bc20)<|eF .normal (pf s i (c20 !=95)))<|by kernel_rfl
  ·obtain rfl:=lf h
   exact bv Mu (p19<|sg 13 c18<|eF .normal (pf s i false))<|by kernel_rfl
 ·obtain rfl:=lf h
  exact bv Mu (p15<|sg 6 c14<|eF .normal (pf s i false))<|by kernel_rfl
end
section
variable(s:ae)(i:Int)
def pg:aB:=aS 41 [(0,.str s),(3,.int .i64 i)] [] []
def ph(o:Unit⊕(Unit)):Exit:=match o with
 |(.inl _)=>.ret
 |(.inr _)=>.exit 0
def jK(o:Unit⊕(Unit)):aB:=match o with
 |(.inl o)=>aS 41 [(2,.bool false)] [] []
 |(.inr o)=>aS 41 [] [] []
def AY:Option (Int⊕(Unit⊕(Unit))):=
 if(decide (i<(s.length:Int)))=true then
  (Ew s i).bind fun o21=>
  if o21=true then
   some (.inr (.inl ()))
  else
   some (.inl (bB (i+1)))
 else
  some (.inr (.inr ()))
def Ex:Option (Unit⊕(Unit)):=loop (fun(zz:Int)=>AY s zz) i
theorem GG{y:Int⊕(Unit⊕(Unit))}(h:AY s i=some y):aW Pg GE 0 (cA Uw 119) (LQ (fun(zz:Int)=>pg s zz) ph jK y) (pg s i):=by
 rcases aO h with⟨c11,h⟩|⟨c11,h⟩
 ·obtain⟨o21,bo21,h⟩:=ck h
  have p23:=fun{sc F} (r:PS sc F)=>bQ (oL underlying9 s)<|sg 0 c11<|nF 1<|cT (H7 s i bo21)<|r
  rcases aO h with⟨c22,h⟩|⟨c22,h⟩
  ·obtain rfl:=lf h
   have z:=p23<|sg 0 c22<|eF (ph (.inl ())) (jK (.inl ()))
   exact hU Mu (Zn rfl) z<|by kernel_rfl
  ·obtain rfl:=lf h
   exact wJ Mu (p23<|sg 0 c22<|eF .normal (pg s (bB (i+1))))<|by kernel_rfl
 ·obtain rfl:=lf h
  have z:=bQ (oL underlying9 s)<|sg 0 c11<|eF (ph (.inr ())) (jK (.inr ()))
  exact hU Mu (Zn rfl) z<|by kernel_rfl
theorem zk{x:Unit⊕(Unit)}(h:Ex s i=some x):aW Pg GE 0 (.loop (cA Uw 119)) (EX (ph x) (jK x)) (pg s i):=
 ZL h fun _ _ hy=>GG _ _ hy
end
def LI(s:ae):Option Bool:=
 (Ev s).bind fun o8=>
 if o8=true then
  some false
 else
  (Ex s 1).bind fun o24=>match o24 with
  |(.inl o24)=>
   some false
  |(.inr o24)=>
   some true
theorem Ey{s:ae}{r:Bool}(h:LI s=some r):CC Pg GE 161 [.str s] (.bool r) []:=by
 obtain⟨o8,bo8,h⟩:=ck h
 have p10:=fun{sc F} (r:PS sc F)=>nF 2<|cT (H6 s bo8)<|r
 rcases aO h with⟨c9,h⟩|⟨c9,h⟩
 ·obtain rfl:=lf h
  have z:=p10<|sg 0 c9<|en (aI (rP (.bool false))<|trivial)
  exact Z161.v (aI trivial trivial) z<|by kernel_rfl
 ·obtain⟨o24,bo24,h⟩:=ck h
  rcases o24 with o24|o24
  ·obtain rfl:=lf h
   have z:=p10<|sg 0 c9<|cT (e:=.ret) (s1:=jK (.inl o24)) (zk s 1 bo24)<|en (aI (rP (.bool false))<|trivial)
   exact Z161.v (aI trivial trivial) z<|by kernel_rfl
  ·obtain rfl:=lf h
   have z:=p10<|sg 0 c9<|cT (e:=.exit 0) (s1:=jK (.inr o24)) (zk s 1 bo24)<|en (aI (rP (.bool true))<|trivial)
   exact Z161.v (aI trivial trivial) z<|by kernel_rfl
noncomputable def qaL:Code:=f189.body.getD .skip
def qak:List Nat:=[]
theorem Z189:ZF qak 189 f189 qaL:=⟨call189,func189,rfl⟩
def yM(c:Int):Option Bool:=
 if(decide (65<=c))=true then
  some (decide (c<=90))
 else
  some false
theorem zj{c:Int}{r:Bool}(h:yM c=some r):CC Pg GE 189 [.int .u8 c] (.bool r) []:=by
 rcases aO h with⟨c1,h⟩|⟨c1,h⟩
 ·obtain rfl:=lf h
  have z:=sg 3 c1<|en (aI (rP (.bool (decide (c<=90))))<|trivial)
  exact Z189.v (aI trivial trivial) z<|by kernel_rfl
 ·obtain rfl:=lf h
  have z:=sg 3 c1<|en (aI (rP (.bool false))<|trivial)
  exact Z189.v (aI trivial trivial) z<|by kernel_rfl
noncomputable def We:Code:=f164.body.getD .skip
def Rc:List Nat:=[]
theorem Z164:ZF Rc 164 f164 We:=⟨call164,func164,rfl⟩
section
variable(s:ae)(i:Int)
def zi:aB:=aS 29 [(0,.str s),(3,.int .i64 i)] [] []
def ik(o:Bool):aB:=aS 29 [(0,.str s),(3,.int .i64 i),(28,.bool o)] [] []
def rS:Option Bool:=
 (DJ s i).bind fun c2=>
 (tP c2).bind fun r3=>
 if(!r3)=true then
  (DJ s i).bind fun c6=>
  (yM c6).bind fun r7=>
  if(!r7)=true then
   (DJ s i).bind fun c10=>
   (xX c10).bind fun r11=>
   some (!r11)
  else
   some false
 else
  some false
theorem yL{x:Bool}(h:rS s i=some x):aW Pg GE 0 (cA We 890) (EX .normal (ik s i x)) (zi s i):=by
 obtain⟨c2,bc2,r3,br3,h⟩:=Zb2 h
 have p5:=fun{sc F} (r:PS sc F)=>sv (ye (k:=.i64) underlying9 bc2)<|cD (qK br3)<|r
 rcases aO h with⟨c4,h⟩|⟨c4,h⟩
 ·obtain⟨c6,bc6,r7,br7,h⟩:=Zb2 h
  have p9:=fun{sc F} (r:PS sc F)=>p5<|sg 6 c4<|sv (ye (k:=.i64) underlying9 bc6)<|cD (zj br7)<|r
  rcases aO h with⟨c8,h⟩|⟨c8,h⟩
  ·obtain⟨c10,bc10,r11,br11,h⟩:=Zb2 h
   obtain rfl:=lf h
   exact bv Rc (p9<|sg 13 c8<|sv (ye (k:=.i64) underlying9 bc10)<|cD (wI br11)<|eF .normal (ik s i (!r11)))<|by kernel_rfl
  ·obtain rfl:=lf h
   exact bv Rc (p9<|sg 13 c8<|eF .normal (ik s i false))<|by kernel_rfl
 ·obtain rfl:=lf h
  exact bv Rc (p5<|sg 6 c4<|eF .normal (ik s i false))<|by kernel_rfl
end
section
variable(s:ae)(i:Int)
def il:aB:=aS 29 [(0,.str s),(3,.int .i64 i)] [] []
def im(o:Unit⊕(Unit)):Exit:=match o with
 |(.inl _)=>.ret
 |(.inr _)=>.exit 0
def eg(o:Unit⊕(Unit)):aB:=match o with
 |(.inl o)=>aS 29 [(2,.bool false)] [] []
 |(.inr o)=>aS 29 [] [] []
def pO:Option (Int⊕(Unit⊕(Unit))):=
 if(decide (i<(s.length:Int)))=true then
  (rS s i).bind fun o12=>
  if o12=true then
   some (.inr (.inl ()))
  else
   some (.inl (bB (i+1)))
 else
  some (.inr (.inr ()))
def rU:Option (Unit⊕(Unit)):=loop (fun(zz:Int)=>pO s zz) i
theorem xj{y:Int⊕(Unit⊕(Unit))}(h:pO s i=some y):aW Pg GE 0 (cA We 55) (LQ (fun(zz:Int)=>il s zz) im eg y) (il s i):=by
 rcases aO h with⟨c1,h⟩|⟨c1,h⟩
 ·obtain⟨o12,bo12,h⟩:=ck h
  have p14:=fun{sc F} (r:PS sc F)=>bQ (oL underlying9 s)<|sg 0 c1<|nF 1<|cT (yL s i bo12)<|r
  rcases aO h with⟨c13,h⟩|⟨c13,h⟩
  ·obtain rfl:=lf h
   have z:=p14<|sg 0 c13<|eF (im (.inl ())) (eg (.inl ()))
   exact hU Rc (Zn rfl) z<|by kernel_rfl
  ·obtain rfl:=lf h
   exact wJ Rc (p14<|sg 0 c13<|eF .normal (il s (bB (i+1))))<|by kernel_rfl
 ·obtain rfl:=lf h
  have z:=bQ (oL underlying9 s)<|sg 0 c1<|eF (im (.inr ())) (eg (.inr ()))
  exact hU Rc (Zn rfl) z<|by kernel_rfl
theorem oJ{x:Unit⊕(Unit)}(h:rU s i=some x):aW Pg GE 0 (.loop (cA We 55)) (EX (im x) (eg x)) (il s i):=
 ZL h fun _ _ hy=>xj _ _ hy
end
def pH(s:ae):Option Bool:=
 (rU s 0).bind fun o15=>match o15 with
 |(.inl o15)=>
  some false
 |(.inr o15)=>
  some true
theorem rV{s:ae}{r:Bool}(h:pH s=some r):CC Pg GE 164 [.str s] (.bool r) []:=by
 obtain⟨o15,bo15,h⟩:=ck h
 rcases o15 with o15|o15
 ·obtain rfl:=lf h
  have z:=cT (e:=.ret) (s1:=eg (.inl o15)) (oJ s 0 bo15)<|en (aI (rP (.bool false))<|trivial)
  exact Z164.v (aI trivial trivial) z<|by kernel_rfl
 ·obtain rfl:=lf h
  have z:=cT (e:=.exit 0) (s1:=eg (.inr o15)) (oJ s 0 bo15)<|en (aI (rP (.bool true))<|trivial)
  exact Z164.v (aI trivial trivial) z<|by kernel_rfl
noncomputable def YM:Code:=f162.body.getD .skip
def VZ:List Nat:=[]
theorem Z162:ZF VZ 162 f162 YM:=⟨call162,func162,rfl⟩
section
variable(s:ae)
def H8:aB:=aS 31 [(0,.str s)] [] []
def nC(o:Bool):aB:=aS 31 [(0,.str s),(16,.bool o)] [] []
def Cy:Option Bool:=
 (xZ s).bind fun r1=>
 if(!r1)=true then
  some true
 else
  (DJ s 0).bind fun c3=>
  (yM c3).bind fun r4=>
  if(!r4)=true then
   some true
  else
   (pH s).bind fun r7=>
   some (!r7)
theorem GH{x:Bool}(h:Cy s=some x):aW Pg GE 0 (cA YM 12) (EX .normal (nC s x)) (H8 s):=by
 obtain⟨r1,br1,h⟩:=ck h
 rcases aO h with⟨c2,h⟩|⟨c2,h⟩
 ·obtain rfl:=lf h
  exact bv VZ (cD (kD br1)<|sg 4 c2<|eF .normal (nC s true))<|by kernel_rfl
 ·obtain⟨c3,bc3,r4,br4,h⟩:=Zb2 h
  have p6:=fun{sc F} (r:PS sc F)=>cD (kD br1)<|sg 4 c2<|sv (ye (k:=.i64) underlying9 bc3)<|cD (zj br4)<|r
  rcases aO h with⟨c5,h⟩|⟨c5,h⟩
  ·obtain rfl:=lf h
   exact bv VZ (p6<|sg 10 c5<|eF .normal (nC s true))<|by kernel_rfl
  ·obtain⟨r7,br7,h⟩:=ck h
   obtain rfl:=lf h
   exact bv VZ (p6<|sg 10 c5<|cD (rV br7)<|eF .normal (nC s (!r7)))<|by kernel_rfl
end
def I9(s:ae):Option Bool:=
 (Cy s).bind fun o8=>
 if o8=true then
  some false
 else
  if (!(s == ([73,110,116]:ae))) = true then
   if(!(s==([66,111,111,108]:ae)))=true then
    if(!(s==([67,101,108,108]:ae)))=true then
     some (!(s==([70,117,110]:ae)))
    else
     some false
   else
    some false
  else
   some false
theorem LJ{s:ae}{r:Bool}(h:I9 s=some r):CC Pg GE 162 [.str s] (.bool r) []:=by
 obtain⟨o8,bo8,h⟩:=ck h
 have p10:=fun{sc F} (r:PS sc F)=>nF 2<|cT (GH s bo8)<|r
 rcases aO h with⟨c9,h⟩|⟨c9,h⟩
 ·obtain rfl:=lf h
  have z:=p10<|sg 0 c9<|en (aI (rP (.bool false))<|trivial)
  exact Z162.v (aI trivial trivial) z<|by kernel_rfl
 ·have p12:=fun{sc F} (r:PS sc F)=>p10<|sg 0 c9<|r
  rcases aO h with⟨c11,h⟩|⟨c11,h⟩
  ·have p14:=fun{sc F} (r:PS sc F)=>p12<|sg 3 c11<|r
   rcases aO h with⟨c13,h⟩|⟨c13,h⟩
   ·have p16:=fun{sc F} (r:PS sc F)=>p14<|sg 7 c13<|r
    rcases aO h with⟨c15,h⟩|⟨c15,h⟩
    ·obtain rfl:=lf h
     have z:=p16<|sg 11 c15<|en (aI (rP (.bool (!(s==([70,117,110]:ae)))))<|trivial)
     exact Z162.v (aI trivial trivial) z<|by kernel_rfl
    ·obtain rfl:=lf h
     have z:=p16<|sg 11 c15<|en (aI (rP (.bool false))<|trivial)
     exact Z162.v (aI trivial trivial) z<|by kernel_rfl
   ·obtain rfl:=lf h
    have z:=p14<|sg 7 c13<|en (aI (rP (.bool false))<|trivial)
    exact Z162.v (aI trivial trivial) z<|by kernel_rfl
  ·obtain rfl:=lf h
   have z:=p12<|sg 3 c11<|en (aI (rP (.bool false))<|trivial)
   exact Z162.v (aI trivial trivial) z<|by kernel_rfl
noncomputable def Wf:Code:=f165.body.getD .skip
def PG:List Nat:=[]
theorem Z165:ZF PG 165 f165 Wf:=⟨call165,func165,rfl⟩
section
variable(s:ae)(i:Int)
def J2:aB:=aS 32 [(0,.str s),(3,.int .i64 i)] [] []
def lE(o:Bool):aB:=aS 32 [(0,.str s),(3,.int .i64 i),(31,.bool o)] [] []
def Ez:Option Bool:=
 (DJ s i).bind fun c2=>
 (tP c2).bind fun r3=>
 if (!r3) = true then
  if(i==0)=true then
   some true
  else
   (DJ s i).bind fun c8=>
   (xX c8).bind fun r9=>
   if(!r9)=true then
    (DJ s i).bind fun c12=>
    some (c12 !=95)
   else
    some false
 else
  some false
theorem H9{x:Bool}(h:Ez s i=some x):aW Pg GE 0 (cA Wf 890) (EX .normal (lE s i x)) (J2 s i):=by
 obtain⟨c2,bc2,r3,br3,h⟩:=Zb2 h
 have p5:=fun{sc F} (r:PS sc F)=>sv (ye (k:=.i64) underlying9 bc2)<|cD (qK br3)<|r
 rcases aO h with⟨c4,h⟩|⟨c4,h⟩
 ·have p7:=fun{sc F} (r:PS sc F)=>p5<|sg 6 c4<|r
  rcases aO h with⟨c6,h⟩|⟨c6,h⟩
  ·obtain rfl:=lf h
   exact bv PG (p7<|sg 9 c6<|eF .normal (lE s i true))<|by kernel_rfl
  ·obtain⟨c8,bc8,r9,br9,h⟩:=Zb2 h
   have p11:=fun{sc F} (r:PS sc F)=>p7<|sg 9 c6<|sv (ye (k:=.i64) underlying9 bc8)<|cD (wI br9)<|r
   rcases aO h with⟨c10,h⟩|⟨c10,h⟩
   ·obtain⟨c12,bc12,h⟩:=ck h
    obtain rfl:=lf h
    exact bv PG (p11<|sg 15 c10<|sv (ye (k:=.i64) underlying9 bc12)<|eF .normal (lE s i (c12 !=95)))<|by kernel_rfl
   ·obtain rfl:=lf h
    exact bv PG (p11<|sg 15 c10<|eF .normal (lE s i false))<|by kernel_rfl
 ·obtain rfl:=lf h
  exact bv PG (p5<|sg 6 c4<|eF .normal (lE s i false))<|by kernel_rfl
end
section
variable(s:ae)(i:Int)
def pj:aB:=aS 32 [(0,.str s),(3,.int .i64 i)] [] []
def pk(o:Unit⊕(Unit)):Exit:=match o with
 |(.inl _)=>.ret
 |(.inr _)=>.exit 0
def jL(o:Unit⊕(Unit)):aB:=match o with
 |(.inl o)=>aS 32 [(2,.bool false)] [] []
 |(.inr o)=>aS 32 [] [] []
def AZ:Option (Int⊕(Unit⊕(Unit))):=
 if(decide (i<(s.length:Int)))=true then
  (Ez s i).bind fun o13=>
  if o13=true then
   some (.inr (.inl ()))
  else
   some (.inl (bB (i+1)))
 else
  some (.inr (.inr ()))
def EA:Option (Unit⊕(Unit)):=loop (fun(zz:Int)=>AZ s zz) i
theorem GI{y:Int⊕(Unit⊕(Unit))}(h:AZ s i=some y):aW Pg GE 0 (cA Wf 55) (LQ (fun(zz:Int)=>pj s zz) pk jL y) (pj s i):=by
 rcases aO h with⟨c1,h⟩|⟨c1,h⟩
 ·obtain⟨o13,bo13,h⟩:=ck h
  have p15:=fun{sc F} (r:PS sc F)=>bQ (oL underlying9 s)<|sg 0 c1<|nF 1<|cT (H9 s i bo13)<|r
  rcases aO h with⟨c14,h⟩|⟨c14,h⟩
  ·obtain rfl:=lf h
   have z:=p15<|sg 0 c14<|eF (pk (.inl ())) (jL (.inl ()))
   exact hU PG (Zn rfl) z<|by kernel_rfl
  ·obtain rfl:=lf h
   exact wJ PG (p15<|sg 0 c14<|eF .normal (pj s (bB (i+1))))<|by kernel_rfl
 ·obtain rfl:=lf h
  have z:=bQ (oL underlying9 s)<|sg 0 c1<|eF (pk (.inr ())) (jL (.inr ()))
  exact hU PG (Zn rfl) z<|by kernel_rfl
theorem zl{x:Unit⊕(Unit)}(h:EA s i=some x):aW Pg GE 0 (.loop (cA Wf 55)) (EX (pk x) (jL x)) (pj s i):=
 ZL h fun _ _ hy=>GI _ _ hy
end
def LK(s:ae):Option Bool:=
 (EA s 0).bind fun o16=>match o16 with
 |(.inl o16)=>
  some false
 |(.inr o16)=>
  some true
theorem M6{s:ae}{r:Bool}(h:LK s=some r):CC Pg GE 165 [.str s] (.bool r) []:=by
 obtain⟨o16,bo16,h⟩:=ck h
 rcases o16 with o16|o16
 ·obtain rfl:=lf h
  have z:=cT (e:=.ret) (s1:=jL (.inl o16)) (zl s 0 bo16)<|en (aI (rP (.bool false))<|trivial)
  exact Z165.v (aI trivial trivial) z<|by kernel_rfl
 ·obtain rfl:=lf h
  have z:=cT (e:=.exit 0) (s1:=jL (.inr o16)) (zl s 0 bo16)<|en (aI (rP (.bool true))<|trivial)
  exact Z165.v (aI trivial trivial) z<|by kernel_rfl
noncomputable def Uv:Code:=f143.body.getD .skip
def KA:List Nat:=[]
theorem Z143:ZF KA 143 f143 Uv:=⟨call143,func143,rfl⟩
section
variable(first:ae)(rest:ae)(more:Bool)
def JY:aB:=aS 52 [(3,.str first),(4,.str rest),(5,.bool more)] [] []
def lD(o:Bool):aB:=aS 52 [(4,.str rest),(5,.bool more),(31,.bool o)] [] []
def Eo:Option Bool:=
 (LI first).bind fun r3=>
 if (!r3) = true then
  (I9 first).bind fun r5=>
  if(!r5)=true then
   if(!(first==([118]:ae)))=true then
    some true
   else
    some (!more)
  else
   some false
 else
  some false
theorem HZ{x:Bool}(h:Eo first more=some x):aW Pg GE 0 (cA Uv 60) (EX .normal (lD rest more x)) (JY first rest more):=by
 obtain⟨r3,br3,h⟩:=ck h
 rcases aO h with⟨c4,h⟩|⟨c4,h⟩
 ·obtain⟨r5,br5,h⟩:=ck h
  have p7:=fun{sc F} (r:PS sc F)=>cD (Ey br3)<|sg 4 c4<|cD (LJ br5)<|r
  rcases aO h with⟨c6,h⟩|⟨c6,h⟩
  ·have p9:=fun{sc F} (r:PS sc F)=>p7<|sg 9 c6<|r
   rcases aO h with⟨c8,h⟩|⟨c8,h⟩
   ·obtain rfl:=lf h
    exact bv KA (p9<|sg 12 c8<|eF .normal (lD rest more true))<|by kernel_rfl
   ·obtain rfl:=lf h
    exact bv KA (p9<|sg 12 c8<|eF .normal (lD rest more (!more)))<|by kernel_rfl
  ·obtain rfl:=lf h
   exact bv KA (p7<|sg 9 c6<|eF .normal (lD rest more false))<|by kernel_rfl
 ·obtain rfl:=lf h
  exact bv KA (cD (Ey br3)<|sg 4 c4<|eF .normal (lD rest more false))<|by kernel_rfl
end
section
variable(rest:ae)(more:Bool)(part:ae)
def JZ:aB:=aS 52 [(4,.str rest),(5,.bool more),(6,.str part)] [] []
def o0(o:Bool):aB:=aS 52 [(4,.str rest),(5,.bool more),(51,.bool o)] [] []
def Ep:Option Bool:=
 (xZ part).bind fun r15=>
 if(!r15)=true then
  some true
 else
  (pH part).bind fun r17=>
  if(!r17)=true then
   (LK part).bind fun r20=>
   some (!r20)
  else
   some false
theorem H1{x:Bool}(h:Ep part=some x):aW Pg GE 0 (cA Uv 8062) (EX .normal (o0 rest more x)) (JZ rest more part):=by
 obtain⟨r15,br15,h⟩:=ck h
 rcases aO h with⟨c16,h⟩|⟨c16,h⟩
 ·obtain rfl:=lf h
  exact bv KA (cD (kD br15)<|sg 4 c16<|eF .normal (o0 rest more true))<|by kernel_rfl
 ·obtain⟨r17,br17,h⟩:=ck h
  have p19:=fun{sc F} (r:PS sc F)=>cD (kD br15)<|sg 4 c16<|cD (rV br17)<|r
  rcases aO h with⟨c18,h⟩|⟨c18,h⟩
  ·obtain⟨r20,br20,h⟩:=ck h
   obtain rfl:=lf h
   exact bv KA (p19<|sg 8 c18<|cD (M6 br20)<|eF .normal (o0 rest more (!r20)))<|by kernel_rfl
  ·obtain rfl:=lf h
   exact bv KA (p19<|sg 8 c18<|eF .normal (o0 rest more false))<|by kernel_rfl
end
section
variable(rest:ae)(more:Bool)
def pb:aB:=aS 52 [(4,.str rest),(5,.bool more)] [] []
def pd(o:Unit⊕(Unit)):Exit:=match o with
 |(.inl _)=>.ret
 |(.inr _)=>.exit 0
def jJ(o:Unit⊕(Unit)):aB:=match o with
 |(.inl o)=>aS 52 [(2,.int .i64 3)] [] []
 |(.inr o)=>aS 52 [] [] []
def AW:Option ((ae×Bool)⊕(Unit⊕(Unit))):=
 if more=true then
  (H4 rest).bind fun r14=>
  (Ep r14.1).bind fun o21=>
  if o21=true then
   some (.inr (.inl ()))
  else
   some (.inl (r14.2.1,r14.2.2))
 else
  some (.inr (.inr ()))
def Er:Option (Unit⊕(Unit)):=loop (fun(zz:ae×Bool)=>AW zz.1 zz.2) (rest,more)
theorem Gx{y:(ae×Bool)⊕(Unit⊕(Unit))}(h:AW rest more=some y):aW Pg GE 0 (cA Uv 251) (LQ (fun(zz:ae×Bool)=>pb zz.1 zz.2) pd jJ y) (pb rest more):=by
 rcases aO h with⟨c13,h⟩|⟨c13,h⟩
 ·obtain⟨r14,br14,o21,bo21,h⟩:=Zb2 h
  have p23:=fun{sc F} (r:PS sc F)=>sg 0 c13<|cD (GD br14)<|nF 0<|cT (H1 r14.2.1 r14.2.2 r14.1 bo21)<|r
  rcases aO h with⟨c22,h⟩|⟨c22,h⟩
  ·obtain rfl:=lf h
   have z:=p23<|sg 0 c22<|eF (pd (.inl ())) (jJ (.inl ()))
   exact hU KA (Zn rfl) z<|by kernel_rfl
  ·obtain rfl:=lf h
   exact wJ KA (p23<|sg 0 c22<|eF .normal (pb r14.2.1 r14.2.2))<|by kernel_rfl
 ·obtain rfl:=lf h
  have z:=sg 0 c13<|eF (pd (.inr ())) (jJ (.inr ()))
  exact hU KA (Zn rfl) z<|by kernel_rfl
theorem ze{x:Unit⊕(Unit)}(h:Er rest more=some x):aW Pg GE 0 (.loop (cA Uv 251)) (EX (pd x) (jJ x)) (pb rest more):=
 ZL h fun _ _ hy=>Gx _ _ hy
end
def Fg(s:ae):Option Int:=
 if(decide ((s.length:Int)>120))=true then
  some 3
 else
  (H4 s).bind fun r2=>
  (Eo r2.1 r2.2.2).bind fun o10=>
  if o10=true then
   some 3
  else
   (Er r2.2.1 r2.2.2).bind fun o24=>match o24 with
   |(.inl o24)=>
    some 3
   |(.inr o24)=>
    some 0
theorem Es{s:ae}{r:Int}(h:Fg s=some r):CC Pg GE 143 [.str s] (.int .i64 r) []:=by
 rcases aO h with⟨c1,h⟩|⟨c1,h⟩
 ·obtain rfl:=lf h
  have z:=bQ (oL underlying9 s)<|sg 0 c1<|en (aI (rP (.int .i64 3))<|trivial)
  exact Z143.v (aI trivial trivial) z<|by kernel_rfl
 ·obtain⟨r2,br2,o10,bo10,h⟩:=Zb2 h
  have p12:=fun{sc F} (r:PS sc F)=>bQ (oL underlying9 s)<|sg 0 c1<|cD (GD br2)<|nF 1<|cT (HZ r2.1 r2.2.1 r2.2.2 bo10)<|r
  rcases aO h with⟨c11,h⟩|⟨c11,h⟩
  ·obtain rfl:=lf h
   have z:=p12<|sg 0 c11<|en (aI (rP (.int .i64 3))<|trivial)
   exact Z143.v (aI trivial trivial) z<|by kernel_rfl
  ·obtain⟨o24,bo24,h⟩:=ck h
   rcases o24 with o24|o24
   ·obtain rfl:=lf h
    have z:=p12<|sg 0 c11<|cT (e:=.ret) (s1:=jJ (.inl o24)) (ze r2.2.1 r2.2.2 bo24)<|en (aI (rP (.int .i64 3))<|trivial)
    exact Z143.v (aI trivial trivial) z<|by kernel_rfl
   ·obtain rfl:=lf h
    have z:=p12<|sg 0 c11<|cT (e:=.exit 0) (s1:=jJ (.inr o24)) (ze r2.2.1 r2.2.2 bo24)<|en (aI (rP (.int .i64 0))<|trivial)
    exact Z143.v (aI trivial trivial) z<|by kernel_rfl
noncomputable def qaH:Code:=f142.body.getD .skip
def qag:List Nat:=[]
theorem Z142:ZF qag 142 f142 qaH:=⟨call142,func142,rfl⟩
def CX(a:ae):Option Bool:=
 (Fg a).bind fun r1=>
 some (r1 !=0)
theorem He{a:ae}{r:Bool}(h:CX a=some r):CC Pg GE 142 [.str a] (.bool r) []:=by
 obtain⟨r1,br1,h⟩:=ck h
 obtain rfl:=lf h
 have z:=cD (Es br1)<|en (aI (rP (.bool (r1 !=0)))<|trivial)
 exact Z142.v (aI trivial trivial) z<|by kernel_rfl
noncomputable def Rh:Code:=f155.body.getD .skip
def N8:List Nat:=[10,17]
theorem Z155:ZF N8 155 f155 Rh:=⟨call155,func155,rfl⟩
section
variable(s:waA)(t7:Int)(t8:Int)
def eU:aB:=aS 19 [(0,sl cS s),(1,.func (.func 142) [] []),(7,.int .i64 t7),(8,.int .i64 t8)] [] []
def eV(o:Int⊕(Unit)):Exit:=match o with
 |(.inl _)=>.ret
 |(.inr _)=>.exit 0
def cY(o:Int⊕(Unit)):aB:=match o with
 |(.inl o)=>aS 19 [(4,.int .i64 o)] [] []
 |(.inr o)=>aS 19 [] [] []
def kW:Option (Int⊕(Int⊕(Unit))):=
 if(decide (t8<t7))=true then
  (eT s t8).bind fun x2=>
  (CX x2).bind fun r3=>
  if r3=true then
   some (.inr (.inl t8))
  else
   some (.inl (bB (t8+1)))
 else
  some (.inr (.inr ()))
def mE:Option (Int⊕(Unit)):=loop (fun(zz:Int)=>kW s t7 zz) t8
theorem rH{y:Int⊕(Int⊕(Unit))}(h:kW s t7 t8=some y):aW Pg GE 0 (cA Rh 55) (LQ (fun(zz:Int)=>eU s t7 zz) eV cY y) (eU s t7 t8):=by
 rcases aO h with⟨c1,h⟩|⟨c1,h⟩
 ·obtain⟨x2,bx2,r3,br3,h⟩:=Zb2 h
  have p5:=fun{sc F} (r:PS sc F)=>sg 0 c1<|sv (bN.ia (k:=.i64) bx2)<|sv (b8 AF (.str x2) [])<|cD (He br3)<|r
  rcases aO h with⟨c4,h⟩|⟨c4,h⟩
  ·obtain rfl:=lf h
   have z:=p5<|sg 0 c4<|eF (eV (.inl t8)) (cY (.inl t8))
   exact hU N8 (Zn rfl) z<|by kernel_rfl
  ·obtain rfl:=lf h
   exact wJ N8 (p5<|sg 0 c4<|eF .normal (eU s t7 (bB (t8+1))))<|by kernel_rfl
 ·obtain rfl:=lf h
  have z:=sg 0 c1<|eF (eV (.inr ())) (cY (.inr ()))
  exact hU N8 (Zn rfl) z<|by kernel_rfl
theorem kJ{x:Int⊕(Unit)}(h:mE s t7 t8=some x):aW Pg GE 0 (.loop (cA Rh 55)) (EX (eV x) (cY x)) (eU s t7 t8):=
 ZL h fun _ _ hy=>rH _ _ _ hy
end
def oK(s:waA):Option Int:=
 (mE s (s.length:Int) 0).bind fun o6=>match o6 with
 |(.inl o6)=>
  some o6
 |(.inr o6)=>
  some (-1)
theorem vH{s:waA}{r:Int}(h:oK s=some r):CC Pg GE 155 [sl cS s,.func (.func 142) [] []] (.int .i64 r) []:=by
 obtain⟨o6,bo6,h⟩:=ck h
 rcases o6 with o6|o6
 ·obtain rfl:=lf h
  have z:=bQ (bN.ln s)<|cT (e:=.ret) (s1:=cY (.inl o6)) (kJ s (s.length:Int) 0 bo6)<|en (aI (rP (.int .i64 o6))<|trivial)
  exact Z155.v (aI (aj bz s) (aI (aI trivial trivial) trivial)) z<|by kernel_rfl
 ·obtain rfl:=lf h
  have z:=bQ (bN.ln s)<|cT (e:=.exit 0) (s1:=cY (.inr o6)) (kJ s (s.length:Int) 0 bo6)<|en (aI (rP (.int .i64 (-1)))<|trivial)
  exact Z155.v (aI (aj bz s) (aI (aI trivial trivial) trivial)) z<|by kernel_rfl
noncomputable def qaG:Code:=f141.body.getD .skip
def qaf:List Nat:=[]
theorem Z141:ZF qaf 141 f141 qaG:=⟨call141,func141,rfl⟩
def mB(s:waA):Option Bool:=
 (oK s).bind fun r1=>
 some (decide (r1>=0))
theorem sM{s:waA}{r:Bool}(h:mB s=some r):CC Pg GE 141 [sl cS s,.func (.func 142) [] []] (.bool r) []:=by
 obtain⟨r1,br1,h⟩:=ck h
 obtain rfl:=lf h
 have z:=cD (vH br1)<|en (aI (rP (.bool (decide (r1>=0))))<|trivial)
 exact Z141.v (aI (aj bz s) (aI (aI trivial trivial) trivial)) z<|by kernel_rfl
noncomputable def Uu:Code:=f119.body.getD .skip
def PD:List Nat:=[14,36]
theorem Z119:ZF PD 119 f119 Uu:=⟨call119,func119,rfl⟩
section
variable(e:af)(s:ax)(v:waA)
def Hf:aB:=aS 54 [(2,.eptr (ac e)),(3,.eptr (aD s)),(5,sl cS v)] [.dead,.dead] [((5,0),9)]
def rb(o:waA):aB:=aS 54 [(2,.eptr (ac e)),(5,sl cS o)] [.dead,.dead] [((5,0),9)]
def Bi:Option waA:=
 if s.name=true then
  (app v ([e.Name]:List ae)).bind fun l4=>
  some l4
 else
  some v
theorem FH{x:waA}(h:Bi e s v=some x):aW Pg GE 0 (cA Uu 14) (EX .normal (rb e x)) (Hf e s v):=by
 have p3:=fun{sc F} (r:PS sc F)=>sv (Bv s)<|sv (DK s)<|r
 rcases aO h with⟨c2,h⟩|⟨c2,h⟩
 ·obtain⟨l4,bl4,h⟩:=ck h
  obtain rfl:=lf h
  exact bv PD (p3<|sg 0 c2<|sv (da e)<|sv (dv e)<|sv (bN.mk' (v:=PVal.str) Ij ([e.Name]:List ae) 1 (by kernel_rfl))<|sv (bN.ap bl4)<|eF .normal (rb e l4))<|by kernel_rfl
 ·obtain rfl:=lf h
  exact bv PD (p3<|sg 0 c2<|eF .normal (rb e v))<|by kernel_rfl
end
section
variable(e:af)(v:waA)
def Hg:aB:=aS 54 [(2,.eptr (ac e)),(5,sl cS v)] [.dead,.dead] [((5,0),9)]
def re(o:Bool):aB:=aS 54 [(2,.eptr (ac e)),(5,sl cS v),(6,.bool o)] [.dead,.dead] [((5,0),9)]
def Bj:Option Bool:=
 (lx e.Params).bind fun r6=>
 (vN r6).bind fun r7=>
 if r7=true then
  some true
 else
  (uP e.Alts).bind fun r10=>
  (vN r10).bind fun r11=>
  some r11
theorem FI{x:Bool}(h:Bj e=some x):aW Pg GE 0 (cA Uu 30) (EX .normal (re e v x)) (Hg e v):=by
 obtain⟨r6,br6,r7,br7,h⟩:=Zb2 h
 have p9:=fun{sc F} (r:PS sc F)=>sv (bH e)<|sv (bJ e)<|cD (px br6)<|cD (uy br7)<|r
 rcases aO h with⟨c8,h⟩|⟨c8,h⟩
 ·obtain rfl:=lf h
  exact bv PD (p9<|sg 5 c8<|eF .normal (re e v true))<|by kernel_rfl
 ·obtain⟨r10,br10,r11,br11,h⟩:=Zb2 h
  obtain rfl:=lf h
  exact bv PD (p9<|sg 5 c8<|sv (aG e)<|sv (aH e)<|cD (AM br10)<|cD (uy br11)<|eF .normal (re e v r11))<|by kernel_rfl
end
section
variable(t30:waD)(t31:Int)(v:waA)(doubled:Bool)(t32:Int)
def jZ:aB:=aS 54 [(5,sl cS v),(6,.bool doubled),(30,sl aA t30),(31,.int .i64 t31),(32,.int .i64 t32)] [.dead,.dead] [((5,0),9)]
def rf(o:waA×Bool):aB:=aS 54 [(5,sl cS o.1),(6,.bool o.2)] [.dead,.dead] [((5,0),9)]
def yl:Option ((waA×Bool×Int)⊕((waA×Bool))):=
 if(decide (t32<t31))=true then
  (eT t30 t32).bind fun x14=>
  (app v ([x14.Con]:List ae)).bind fun l15=>
  (app l15 x14.Names).bind fun l16=>
  if doubled=true then
   some (.inl (l16,true,bB (t32+1)))
  else
   (vN x14.Names).bind fun r19=>
   some (.inl (l16,r19,bB (t32+1)))
 else
  some (.inr (v,doubled))
def Bk:Option ((waA×Bool)):=loop (fun(zz:waA×Bool×Int)=>yl t30 t31 zz.1 zz.2.1 zz.2.2) (v,doubled,t32)
theorem D2{y:(waA×Bool×Int)⊕((waA×Bool))}(h:yl t30 t31 v doubled t32=some y):aW Pg GE 0 (cA Uu 503) (LQ (fun(zz:waA×Bool×Int)=>jZ t30 t31 zz.1 zz.2.1 zz.2.2) (fun _=>.exit 0) rf y) (jZ t30 t31 v doubled t32):=by
 rcases aO h with⟨c13,h⟩|⟨c13,h⟩
 ·obtain⟨x14,bx14,l15,bl15,l16,bl16,h⟩:=Zb3 h
  have p18:=fun{sc F} (r:PS sc F)=>sg 0 c13<|sv (eZ.ia (k:=.i64) bx14)<|sv (mA x14)<|sx Io<|sx (i7 x14)<|G0 [0,0,2,6,15,0,32,127,255]<|ss<|sv (bN.mk' (v:=PVal.str) Ij ([x14.Con]:List ae) 1 (by kernel_rfl))<|sv (bN.ap bl15)<|ss<|sv (bN.ap bl16)<|r
  rcases aO h with⟨c17,h⟩|⟨c17,h⟩
  ·obtain rfl:=lf h
   have z:=p18<|sg 2 c17<|tr 0 .normal (jZ t30 t31 l16 true (bB (t32+1))) rfl (du (aI (up (aj bz l16)) (aI trivial (aI (up (aj bF t30)) (aI trivial (aI trivial trivial)))))) (aI trivial (aI trivial trivial))
   exact dy (A:=PD) mixed z<|by kernel_rfl
  ·obtain⟨r19,br19,h⟩:=ck h
   obtain rfl:=lf h
   have z:=p18<|sg 2 c17<|ss<|cD (uy br19)<|tr 0 .normal (jZ t30 t31 l16 r19 (bB (t32+1))) rfl (du (aI (up (aj bz l16)) (aI trivial (aI (up (aj bF t30)) (aI trivial (aI trivial trivial)))))) (aI trivial (aI trivial trivial))
   exact dy (A:=PD) mixed z<|by kernel_rfl
 ·obtain rfl:=lf h
  have z:=sg 0 c13<|eF (.exit 0) (rf (v,doubled))
  exact hU PD (Zn rfl) z<|by kernel_rfl
theorem FJ{x:(waA×Bool)}(h:Bk t30 t31 v doubled t32=some x):aW Pg GE 0 (.loop (cA Uu 503)) (EX (.exit 0) (rf x)) (jZ t30 t31 v doubled t32):=
 ZL h fun _ _ hy=>D2 _ _ _ _ _ hy
end
def Hd(e:af)(s:ax):Option Int:=
 (lx e.Params).bind fun r1=>
 (Bi e s r1).bind fun o5=>
 (Bj e).bind fun o12=>
 (Bk e.Alts (e.Alts.length:Int) o5 o12 0).bind fun o20=>
 (mB o20.1).bind fun r21=>
 if r21=true then
  some 3
 else
  if o20.2=true then
   some 4
  else
   some 0
theorem Kd{e:af}{s:ax}{r:Int}(h:Hd e s=some r):CC Pg GE 119 [.agg (ac e),.agg (aD s)] (.int .i64 r) []:=by
 obtain⟨r1,br1,o5,bo5,o12,bo12,o20,bo20,h⟩:=Zb4 h
 obtain⟨r21,br21,h⟩:=ck h
 have p23:=fun{sc F} (r:PS sc F)=>se (cF e)<|se (A6 s)<|sv (bH e)<|sv (bJ e)<|cD (px br1)<|nF 0<|cT (FH e s r1 bo5)<|nF 0<|cT (FI e o5 bo12)<|sv (aG e)<|sv (aH e)<|bQ (eZ.ln e.Alts)<|cT (FJ e.Alts (e.Alts.length:Int) o5 o12 0 bo20)<|cD (sM br21)<|r
 rcases aO h with⟨c22,h⟩|⟨c22,h⟩
 ·obtain rfl:=lf h
  have z:=p23<|sg 0 c22<|en (aI (rP (.int .i64 3))<|trivial)
  exact Z119.v (aI (az e) (aI (bK s) trivial)) z<|by kernel_rfl
 ·have p25:=fun{sc F} (r:PS sc F)=>p23<|sg 0 c22<|r
  rcases aO h with⟨c24,h⟩|⟨c24,h⟩
  ·obtain rfl:=lf h
   have z:=p25<|sg 0 c24<|en (aI (rP (.int .i64 4))<|trivial)
   exact Z119.v (aI (az e) (aI (bK s) trivial)) z<|by kernel_rfl
  ·obtain rfl:=lf h
   have z:=p25<|sg 0 c24<|en (aI (rP (.int .i64 0))<|trivial)
   exact Z119.v (aI (az e) (aI (bK s) trivial)) z<|by kernel_rfl
abbrev tp:=(ai->Option Int)
abbrev yp(R:tp):Prop:=∀(t:ai) (r:Int),R t=some r->CC Pg GE 144 [.agg (ah t)] (.int .i64 r) []
noncomputable def XC:Code:=f144.body.getD .skip
def Xk:List Nat:=[]
theorem Z144:ZF Xk 144 f144 XC:=⟨call144,func144,rfl⟩
section
variable(R86:tp)(t7:waC)(t8:Int)(n:Int)(t9:Int)
def nS:aB:=aS 20 [(3,.int .i64 n),(7,sl ah t7),(8,.int .i64 t8),(9,.int .i64 t9)] [.dead] []
def sW(o:Int):aB:=aS 20 [(3,.int .i64 o)] [.dead] []
def zK:Option ((Int×Int)⊕(Int)):=
 if(decide (t9<t8))=true then
  (eT t7 t9).bind fun x2=>
  (R86 x2).bind fun r3=>
  some (.inl ((if r3>n then r3 else n),bB (t9+1)))
 else
  some (.inr n)
def C9:Option Int:=loop (fun(zz:Int×Int)=>zK R86 t7 t8 zz.1 zz.2) (n,t9)
theorem FU(hR86:yp R86){y:(Int×Int)⊕(Int)}(h:zK R86 t7 t8 n t9=some y):aW Pg GE 0 (cA XC 119) (LQ (fun(zz:Int×Int)=>nS t7 t8 zz.1 zz.2) (fun _=>.exit 0) sW y) (nS t7 t8 n t9):=by
 rcases aO h with⟨c1,h⟩|⟨c1,h⟩
 ·obtain⟨x2,bx2,r3,br3,h⟩:=Zb2 h
  obtain rfl:=lf h
  have z:=sg 0 c1<|sv (ee.ia (k:=.i64) bx2)<|sv (lC x2)<|sx R2<|sx (sH x2)<|sv (kz x2 [])<|cD (hR86 _ _ br3)<|tr 0 .normal (nS t7 t8 (if r3>n then r3 else n) (bB (t9+1))) rfl (du (aI trivial (aI (up (aj aF t7)) (aI trivial (aI trivial trivial))))) (aI trivial trivial)
  exact dy (A:=Xk) mixed z<|by kernel_rfl
 ·obtain rfl:=lf h
  have z:=sg 0 c1<|eF (.exit 0) (sW n)
  exact hU Xk (Zn rfl) z<|by kernel_rfl
theorem Hq(hR86:yp R86){x:Int}(h:C9 R86 t7 t8 n t9=some x):aW Pg GE 0 (.loop (cA XC 119)) (EX (.exit 0) (sW x)) (nS t7 t8 n t9):=
 ZL h fun _ _ hy=>FU _ _ _ _ _ hR86 hy
end
def EI(R86:tp)(t:ai):Option Int:=
 (C9 R86 t.Args (t.Args.length:Int) 0 0).bind fun o4=>
 some (bB (o4+1))
theorem Ke(R86:tp)(hR86:yp R86){t:ai}{r:Int}(h:EI R86 t=some r):CC Pg GE 144 [.agg (ah t)] (.int .i64 r) []:=by
 obtain⟨o4,bo4,h⟩:=ck h
 obtain rfl:=lf h
 have z:=se (qL t)<|sv (dA t)<|sv (dB t)<|bQ (ee.ln t.Args)<|cT (Hq R86 t.Args (t.Args.length:Int) 0 0 hR86 bo4)<|en (aI (rP (.int .i64 (bB (o4+1))))<|trivial)
 exact Z144.v (aI (aF t) trivial) z<|by kernel_rfl
def EJ:(ai->Option Int)->(ai)->Option Int:=fun(rec:ai->Option Int) (x:ai)=>EI (fun t=>rec t) x
def Jn(t:ai):Option Int:=rE EJ t
theorem Mp{t:ai}{r:Int}(h:Jn t=some r):CC Pg GE 144 [.agg (ah t)] (.int .i64 r) []:=
 ek (F:=EJ) (M:=fun(x:ai) (r:Int)=>CC Pg GE 144 [.agg (ah x)] (.int .i64 r) []) (fun rec hrec x r h=>Ke _ (fun t r h=>hrec t r h) h) h
end Go.Proofs.YtkdahfeiedaahaaGreatDoor
