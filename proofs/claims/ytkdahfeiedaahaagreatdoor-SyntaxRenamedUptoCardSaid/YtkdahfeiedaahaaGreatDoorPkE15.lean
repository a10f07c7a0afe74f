/- PROVED: a part of the proof. Conditions: none. -/
import Derived.Test.YtkdahfeiedaahaaGreatDoorPkE14
noncomputable section
namespace Go.Proofs.YtkdahfeiedaahaaGreatDoor
open Go Go.Proofs.Tryz
set_option linter.unusedVariables false
set_option maxRecDepth 100000
noncomputable def Xm:Code:=f84.body.getD .skip
def W4:List Nat:=[12,18]
section
variable(t6:waC)(t7:Int)(out:waA)(t8:Int)
def eR:aA:=bj 19 [(3,sl cS out),(6,sl az t6),(7,.int .i64 t7),(8,.int .i64 t8)] [] [((3,0),9)]
def j3(o:waA):aA:=bj 19 [(3,sl cS o)] [] [((3,0),9)]
def da:Option ((waA×Int)⊕(waA)):=
 if(decide (t8<t7))=true then
  (gY t6 t8).bind fun x2=>
  (app out ([x2.Con]:List ag)).bind fun l3=>
  some (.inl (l3,cp (t8+1)))
 else
  some (.inr out)
def iF:Option waA:=loop (fun(zz:waA×Int)=>da t6 t7 zz.1 zz.2) (out,t8)
theorem uW{y:(waA×Int)⊕(waA)}(h:da t6 t7 out t8=some y):aR Pg GE 0 (cA Xm 119) (LQ (fun(zz:waA×Int)=>eR t6 t7 zz.1 zz.2) (fun _=>.exit 0) j3 y) (eR t6 t7 out t8):=by
 rcases aP h with⟨c1,h⟩|⟨c1,h⟩
 ·obtain⟨x2,bx2,h⟩:=aJ h
  obtain⟨l3,bl3,h⟩:=aJ h
  obtain rfl:=lf h
  have z:=sg 0 c1<|sv (eQ.ia (k:=.i64) bx2)<|sv (mi x2)<|sx Fh<|sx (i8 x2)<|ss<|sv (dK.mk' (v:=PVal.str) Lz ([x2.Con]:List ag) 1 (by kernel_rfl))<|sv (dK.ap bl3)<|tN 0 .normal (eR t6 t7 l3 (cp (t8+1))) rfl (d5 (aI (up (au cb l3)) (aI (up (au bW t6)) (aI trivial (aI trivial trivial))))) trivial
  exact ez (A:=W4) mixed z<|by kernel_rfl
 ·obtain rfl:=lf h
  have z:=sg 0 c1<|eF (.exit 0) (j3 out)
  exact kc W4 (by intro hx;cases hx) z<|by kernel_rfl
theorem vo{x:waA}(h:iF t6 t7 out t8=some x):aR Pg GE 0 (.loop (cA Xm 119)) (EX (.exit 0) (j3 x)) (eR t6 t7 out t8):=
 aR.loop (S:=fun(zz:waA×Int)=>eR t6 t7 zz.1 zz.2) (ex:=(fun _=>.exit 0)) (s:=(out,t8)) h fun zz y hy=>uW t6 t7 zz.1 zz.2 hy
end
def iy(a:waC):Option waA:=
 (iF a (a.length:Int) ([]:List ag) 0).bind fun o4=>
 some o4
theorem qf{a:waC}{r:waA}(h:iy a=some r):CC Pg GE 84 [sl az a] (sl cS r) [(0,9)]:=by
 obtain⟨o4,bo4,h⟩:=aJ h
 obtain rfl:=lf h
 have z:=cq (eQ.ln a)<|dS (vo a (a.length:Int) ([]:List ag) 0 bo4)<|en (aI (rP (sl cS o4))<|(au cb o4))
 exact cR W4 call84 func84 (c:=Xm) rfl (aI (au bW a) trivial) z<|by kernel_rfl
noncomputable def S9:Code:=f160.body.getD .skip
def QD:List Nat:=[23]
section
variable(s:ag)(i:Int)
def mO:aA:=bj 24 [(0,.str s),(5,.int .i64 i)] [] []
def mP(o:(ag×ag)⊕(Unit)):Exit:=match o with
 |(.inl _)=>.ret
 |(.inr _)=>.exit 0
def kr(o:(ag×ag)⊕(Unit)):aA:=match o with
 |(.inl o)=>bj 24 [(2,.str o.1),(3,.str o.2),(4,.bool true)] [] []
 |(.inr o)=>bj 24 [(0,.str s)] [] []
def zY:Option (Int⊕((ag×ag)⊕(Unit))):=
 if(decide (i<(s.length:Int)))=true then
  (Bh s i).bind fun c2=>
  if(c2==46)=true then
   (WS s none (some i)).bind fun s5=>
   (WS s (some (cp (i+1))) none).bind fun s6=>
   some (.inr (.inl (s5,s6)))
  else
   some (.inl (cp (i+1)))
 else
  some (.inr (.inr ()))
def DM:Option ((ag×ag)⊕(Unit)):=loop (fun(zz:Int)=>zY s zz) i
theorem E1{y:Int⊕((ag×ag)⊕(Unit))}(h:zY s i=some y):aR Pg GE 0 (cA S9 55) (LQ (fun(zz:Int)=>mO s zz) mP (kr s) y) (mO s i):=by
 rcases aP h with⟨c1,h⟩|⟨c1,h⟩
 ·obtain⟨c2,bc2,h⟩:=aJ h
  have p4:=fun{sc F} (r:PS sc F)=>cq (qa underlying9 s)<|sg 0 c1<|sv (wa (k:=.i64) underlying9 bc2)<|r
  rcases aP h with⟨c3,h⟩|⟨c3,h⟩
  ·obtain⟨s5,bs5,h⟩:=aJ h
   obtain⟨s6,bs6,h⟩:=aJ h
   obtain rfl:=lf h
   have z:=p4<|sg 0 c3<|I1 [0,0,3,0,0,16,56,7,255,511]<|sv (Ud underlying9 bs5)<|sv (Ud underlying9 bs6)<|eF (mP (.inl (s5,s6))) (kr s (.inl (s5,s6)))
   exact kc QD (by intro hx;cases hx) z<|by kernel_rfl
  ·obtain rfl:=lf h
   exact AU QD (p4<|sg 0 c3<|eF .normal (mO s (cp (i+1))))<|by kernel_rfl
 ·obtain rfl:=lf h
  have z:=cq (qa underlying9 s)<|sg 0 c1<|eF (mP (.inr ())) (kr s (.inr ()))
  exact kc QD (by intro hx;cases hx) z<|by kernel_rfl
theorem yx{x:(ag×ag)⊕(Unit)}(h:DM s i=some x):aR Pg GE 0 (.loop (cA S9 55)) (EX (mP x) (kr s x)) (mO s i):=
 aR.loop (S:=fun(zz:Int)=>mO s zz) (ex:=mP) (s:=i) h fun zz y hy=>E1 s zz hy
end
def E0(s:ag):Option (ag×ag×Bool):=
 (DM s 0).bind fun o7=>match o7 with
 |(.inl o7)=>
  some (o7.1,o7.2,true)
 |(.inr o7)=>
  some (s,([]:ag),false)
theorem DN{s:ag}{r:ag×ag×Bool}(h:E0 s=some r):CC Pg GE 160 [.str s] (.tuple [.str r.1,.str r.2.1,.bool r.2.2]) []:=by
 obtain⟨o7,bo7,h⟩:=aJ h
 rcases o7 with o7|o7
 ·obtain rfl:=lf h
  have z:=dS (e:=.ret) (s1:=kr s (.inl o7)) (yx s 0 bo7)<|en (aI (rP (.tuple [.str o7.1,.str o7.2,.bool true]))<|(aI trivial (aI trivial (aI trivial trivial))))
  exact cR QD call160 func160 (c:=S9) rfl (aI trivial trivial) z<|by kernel_rfl
 ·obtain rfl:=lf h
  have z:=dS (e:=.exit 0) (s1:=kr s (.inr o7)) (yx s 0 bo7)<|en (aI (rP (.tuple [.str s,.str ([]:ag),.bool false]))<|(aI trivial (aI trivial (aI trivial trivial))))
  exact cR QD call160 func160 (c:=S9) rfl (aI trivial trivial) z<|by kernel_rfl
noncomputable def VS:Code:=f163.body.getD .skip
def Vu:List Nat:=[]
def vV(s:ag):Option Bool:=
 if(decide ((s.length:Int)>=1))=true then
  some (decide ((s.length:Int)<=24))
 else
  some false
theorem ku{s:ag}{r:Bool}(h:vV s=some r):CC Pg GE 163 [.str s] (.bool r) []:=by
 rcases aP h with⟨c1,h⟩|⟨c1,h⟩
 ·obtain rfl:=lf h
  have z:=cq (qa underlying9 s)<|sg 4 c1<|cq (qa underlying9 s)<|en (aI (rP (.bool (decide ((s.length:Int)<=24))))<|trivial)
  exact cR Vu call163 func163 (c:=VS) rfl (aI trivial trivial) z<|by kernel_rfl
 ·obtain rfl:=lf h
  have z:=cq (qa underlying9 s)<|sg 4 c1<|en (aI (rP (.bool false))<|trivial)
  exact cR Vu call163 func163 (c:=VS) rfl (aI trivial trivial) z<|by kernel_rfl
noncomputable def VT:Code:=f186.body.getD .skip
def Vv:List Nat:=[]
def sq(c:Int):Option Bool:=
 if(decide (97<=c))=true then
  some (decide (c<=122))
 else
  some false
theorem pP{c:Int}{r:Bool}(h:sq c=some r):CC Pg GE 186 [.int .u8 c] (.bool r) []:=by
 rcases aP h with⟨c1,h⟩|⟨c1,h⟩
 ·obtain rfl:=lf h
  have z:=sg 3 c1<|en (aI (rP (.bool (decide (c<=122))))<|trivial)
  exact cR Vv call186 func186 (c:=VT) rfl (aI trivial trivial) z<|by kernel_rfl
 ·obtain rfl:=lf h
  have z:=sg 3 c1<|en (aI (rP (.bool false))<|trivial)
  exact cR Vv call186 func186 (c:=VT) rfl (aI trivial trivial) z<|by kernel_rfl
noncomputable def Ta:Code:=f187.body.getD .skip
def QE:List Nat:=[]
section
variable(s:ag)(t6:Int)
def iZ:aA:=bj 13 [(0,.str s),(5,.agg (i7.map PVal.str)),(6,.int .i64 t6)] [] []
def i6(o:Unit⊕(Unit)):Exit:=match o with
 |(.inl _)=>.ret
 |(.inr _)=>.exit 0
def gy(o:Unit⊕(Unit)):aA:=match o with
 |(.inl o)=>bj 13 [(2,.bool true)] [] []
 |(.inr o)=>bj 13 [] [] []
def uE:Option (Int⊕(Unit⊕(Unit))):=
 if(decide (t6<42))=true then
  (gY i7 t6).bind fun x2=>
  if(x2==s)=true then
   some (.inr (.inl ()))
  else
   some (.inl (cp (t6+1)))
 else
  some (.inr (.inr ()))
def w9:Option (Unit⊕(Unit)):=loop (fun(zz:Int)=>uE s zz) t6
theorem zX{y:Int⊕(Unit⊕(Unit))}(h:uE s t6=some y):aR Pg GE 0 (cA Ta 55) (LQ (fun(zz:Int)=>iZ s zz) i6 gy y) (iZ s t6):=by
 rcases aP h with⟨c1,h⟩|⟨c1,h⟩
 ·obtain⟨x2,bx2,h⟩:=aJ h
  have p4:=fun{sc F} (r:PS sc F)=>sg 0 c1<|sv (DO (k:=.i64) bx2)<|r
  rcases aP h with⟨c3,h⟩|⟨c3,h⟩
  ·obtain rfl:=lf h
   have z:=p4<|sg 0 c3<|eF (i6 (.inl ())) (gy (.inl ()))
   exact kc QE (by intro hx;cases hx) z<|by kernel_rfl
  ·obtain rfl:=lf h
   exact AU QE (p4<|sg 0 c3<|eF .normal (iZ s (cp (t6+1))))<|by kernel_rfl
 ·obtain rfl:=lf h
  have z:=sg 0 c1<|eF (i6 (.inr ())) (gy (.inr ()))
  exact kc QE (by intro hx;cases hx) z<|by kernel_rfl
theorem td{x:Unit⊕(Unit)}(h:w9 s t6=some x):aR Pg GE 0 (.loop (cA Ta 55)) (EX (i6 x) (gy x)) (iZ s t6):=
 aR.loop (S:=fun(zz:Int)=>iZ s zz) (ex:=i6) (s:=t6) h fun zz y hy=>zX s zz hy
end
def BU(s:ag):Option Bool:=
 (w9 s 0).bind fun o5=>match o5 with
 |(.inl o5)=>
  some true
 |(.inr o5)=>
  some false
theorem EZ{s:ag}{r:Bool}(h:BU s=some r):CC Pg GE 187 [.str s] (.bool r) []:=by
 obtain⟨o5,bo5,h⟩:=aJ h
 rcases o5 with o5|o5
 ·obtain rfl:=lf h
  have z:=sv vU<|dS (e:=.ret) (s1:=gy (.inl o5)) (td s 0 bo5)<|en (aI (rP (.bool true))<|trivial)
  exact cR QE call187 func187 (c:=Ta) rfl (aI trivial trivial) z<|by kernel_rfl
 ·obtain rfl:=lf h
  have z:=sv vU<|dS (e:=.exit 0) (s1:=gy (.inr o5)) (td s 0 bo5)<|en (aI (rP (.bool false))<|trivial)
  exact cR QE call187 func187 (c:=Ta) rfl (aI trivial trivial) z<|by kernel_rfl
noncomputable def VU:Code:=f188.body.getD .skip
def Vw:List Nat:=[]
def vT(c:Int):Option Bool:=
 if(decide (48<=c))=true then
  some (decide (c<=57))
 else
  some false
theorem uF{c:Int}{r:Bool}(h:vT c=some r):CC Pg GE 188 [.int .u8 c] (.bool r) []:=by
 rcases aP h with⟨c1,h⟩|⟨c1,h⟩
 ·obtain rfl:=lf h
  have z:=sg 3 c1<|en (aI (rP (.bool (decide (c<=57))))<|trivial)
  exact cR Vw call188 func188 (c:=VU) rfl (aI trivial trivial) z<|by kernel_rfl
 ·obtain rfl:=lf h
  have z:=sg 3 c1<|en (aI (rP (.bool false))<|trivial)
  exact cR Vw call188 func188 (c:=VU) rfl (aI trivial trivial) z<|by kernel_rfl
noncomputable def Nu:Code:=f161.body.getD .skip
def Gm:List Nat:=[]
section
variable(s:ag)
def GN:aA:=bj 41 [(0,.str s)] [] []
def oC(o:Bool):aA:=bj 41 [(0,.str s),(16,.bool o)] [] []
def BV:Option Bool:=
 (vV s).bind fun r1=>
 if(!r1)=true then
  some true
 else
  (Bh s 0).bind fun c3=>
  (sq c3).bind fun r4=>
  if(!r4)=true then
   some true
  else
   (BU s).bind fun r7=>
   some r7
theorem E2{x:Bool}(h:BV s=some x):aR Pg GE 0 (cA Nu 12) (EX .normal (oC s x)) (GN s):=by
 obtain⟨r1,br1,h⟩:=aJ h
 rcases aP h with⟨c2,h⟩|⟨c2,h⟩
 ·obtain rfl:=lf h
  exact bJ Gm (cW (ku br1)<|sg 4 c2<|eF .normal (oC s true))<|by kernel_rfl
 ·obtain⟨c3,bc3,h⟩:=aJ h
  obtain⟨r4,br4,h⟩:=aJ h
  have p6:=fun{sc F} (r:PS sc F)=>cW (ku br1)<|sg 4 c2<|sv (wa (k:=.i64) underlying9 bc3)<|cW (pP br4)<|r
  rcases aP h with⟨c5,h⟩|⟨c5,h⟩
  ·obtain rfl:=lf h
   exact bJ Gm (p6<|sg 10 c5<|eF .normal (oC s true))<|by kernel_rfl
  ·obtain⟨r7,br7,h⟩:=aJ h
   obtain rfl:=lf h
   exact bJ Gm (p6<|sg 10 c5<|cW (EZ br7)<|eF .normal (oC s r7))<|by kernel_rfl
end
section
variable(s:ag)(i:Int)
def GO:aA:=bj 41 [(0,.str s),(3,.int .i64 i)] [] []
def oD(o:Bool):aA:=bj 41 [(0,.str s),(3,.int .i64 i),(40,.bool o)] [] []
def BW:Option Bool:=
 (Bh s i).bind fun c12=>
 (sq c12).bind fun r13=>
 if(!r13)=true then
  (Bh s i).bind fun c16=>
  (vT c16).bind fun r17=>
  if(!r17)=true then
   (Bh s i).bind fun c20=>
   some (c20 !=95)
  else
   some false
 else
  some false
theorem E3{x:Bool}(h:BW s i=some x):aR Pg GE 0 (cA Nu 1914) (EX .normal (oD s i x)) (GO s i):=by
 obtain⟨c12,bc12,h⟩:=aJ h
 obtain⟨r13,br13,h⟩:=aJ h
 have p15:=fun{sc F} (r:PS sc F)=>sv (wa (k:=.i64) underlying9 bc12)<|cW (pP br13)<|r
 rcases aP h with⟨c14,h⟩|⟨c14,h⟩
 ·obtain⟨c16,bc16,h⟩:=aJ h
  obtain⟨r17,br17,h⟩:=aJ h
  have p19:=fun{sc F} (r:PS sc F)=>p15<|sg 6 c14<|sv (wa (k:=.i64) underlying9 bc16)<|cW (uF br17)<|r
  rcases aP h with⟨c18,h⟩|⟨c18,h⟩
  ·obtain⟨c20,bc20,h⟩:=aJ h
   obtain rfl:=lf h
   exact bJ Gm (p19<|sg 13 c18<|sv (wa (k:=.i64) underlying9 bc20)<|eF .normal (oD s i (c20 !=95)))<|by kernel_rfl
  ·obtain rfl:=lf h
   exact bJ Gm (p19<|sg 13 c18<|eF .normal (oD s i false))<|by kernel_rfl
 ·obtain rfl:=lf h
  exact bJ Gm (p15<|sg 6 c14<|eF .normal (oD s i false))<|by kernel_rfl
end
section
variable(s:ag)(i:Int)
def ls:aA:=bj 41 [(0,.str s),(3,.int .i64 i)] [] []
def lu(o:Unit⊕(Unit)):Exit:=match o with
 |(.inl _)=>.ret
 |(.inr _)=>.exit 0
def jz(o:Unit⊕(Unit)):aA:=match o with
 |(.inl o)=>bj 41 [(2,.bool false)] [] []
 |(.inr o)=>bj 41 [] [] []
def yy:Option (Int⊕(Unit⊕(Unit))):=
 if(decide (i<(s.length:Int)))=true then
  (BW s i).bind fun o21=>
  if o21=true then
   some (.inr (.inl ()))
  else
   some (.inl (cp (i+1)))
 else
  some (.inr (.inr ()))
def BX:Option (Unit⊕(Unit)):=loop (fun(zz:Int)=>yy s zz) i
theorem DP{y:Int⊕(Unit⊕(Unit))}(h:yy s i=some y):aR Pg GE 0 (cA Nu 119) (LQ (fun(zz:Int)=>ls s zz) lu jz y) (ls s i):=by
 rcases aP h with⟨c11,h⟩|⟨c11,h⟩
 ·obtain⟨o21,bo21,h⟩:=aJ h
  have p23:=fun{sc F} (r:PS sc F)=>cq (qa underlying9 s)<|sg 0 c11<|rN 1<|dS (E3 s i bo21)<|r
  rcases aP h with⟨c22,h⟩|⟨c22,h⟩
  ·obtain rfl:=lf h
   have z:=p23<|sg 0 c22<|eF (lu (.inl ())) (jz (.inl ()))
   exact kc Gm (by intro hx;cases hx) z<|by kernel_rfl
  ·obtain rfl:=lf h
   exact AU Gm (p23<|sg 0 c22<|eF .normal (ls s (cp (i+1))))<|by kernel_rfl
 ·obtain rfl:=lf h
  have z:=cq (qa underlying9 s)<|sg 0 c11<|eF (lu (.inr ())) (jz (.inr ()))
  exact kc Gm (by intro hx;cases hx) z<|by kernel_rfl
theorem xd{x:Unit⊕(Unit)}(h:BX s i=some x):aR Pg GE 0 (.loop (cA Nu 119)) (EX (lu x) (jz x)) (ls s i):=
 aR.loop (S:=fun(zz:Int)=>ls s zz) (ex:=lu) (s:=i) h fun zz y hy=>DP s zz hy
end
def Ic(s:ag):Option Bool:=
 (BV s).bind fun o8=>
 if o8=true then
  some false
 else
  (BX s 1).bind fun o24=>match o24 with
  |(.inl o24)=>
   some false
  |(.inr o24)=>
   some true
theorem BY{s:ag}{r:Bool}(h:Ic s=some r):CC Pg GE 161 [.str s] (.bool r) []:=by
 obtain⟨o8,bo8,h⟩:=aJ h
 have p10:=fun{sc F} (r:PS sc F)=>rN 2<|dS (E2 s bo8)<|r
 rcases aP h with⟨c9,h⟩|⟨c9,h⟩
 ·obtain rfl:=lf h
  have z:=p10<|sg 0 c9<|en (aI (rP (.bool false))<|trivial)
  exact cR Gm call161 func161 (c:=Nu) rfl (aI trivial trivial) z<|by kernel_rfl
 ·obtain⟨o24,bo24,h⟩:=aJ h
  rcases o24 with o24|o24
  ·obtain rfl:=lf h
   have z:=p10<|sg 0 c9<|dS (e:=.ret) (s1:=jz (.inl o24)) (xd s 1 bo24)<|en (aI (rP (.bool false))<|trivial)
   exact cR Gm call161 func161 (c:=Nu) rfl (aI trivial trivial) z<|by kernel_rfl
  ·obtain rfl:=lf h
   have z:=p10<|sg 0 c9<|dS (e:=.exit 0) (s1:=jz (.inr o24)) (xd s 1 bo24)<|en (aI (rP (.bool true))<|trivial)
   exact cR Gm call161 func161 (c:=Nu) rfl (aI trivial trivial) z<|by kernel_rfl
noncomputable def VV:Code:=f189.body.getD .skip
def Vx:List Nat:=[]
def wD(c:Int):Option Bool:=
 if(decide (65<=c))=true then
  some (decide (c<=90))
 else
  some false
theorem xc{c:Int}{r:Bool}(h:wD c=some r):CC Pg GE 189 [.int .u8 c] (.bool r) []:=by
 rcases aP h with⟨c1,h⟩|⟨c1,h⟩
 ·obtain rfl:=lf h
  have z:=sg 3 c1<|en (aI (rP (.bool (decide (c<=90))))<|trivial)
  exact cR Vx call189 func189 (c:=VV) rfl (aI trivial trivial) z<|by kernel_rfl
 ·obtain rfl:=lf h
  have z:=sg 3 c1<|en (aI (rP (.bool false))<|trivial)
  exact cR Vx call189 func189 (c:=VV) rfl (aI trivial trivial) z<|by kernel_rfl
noncomputable def Rq:Code:=f164.body.getD .skip
def LW:List Nat:=[]
section
variable(s:ag)(i:Int)
def xa:aA:=bj 29 [(0,.str s),(3,.int .i64 i)] [] []
def ib(o:Bool):aA:=bj 29 [(0,.str s),(3,.int .i64 i),(28,.bool o)] [] []
def qD:Option Bool:=
 (Bh s i).bind fun c2=>
 (sq c2).bind fun r3=>
 if(!r3)=true then
  (Bh s i).bind fun c6=>
  (wD c6).bind fun r7=>
  if(!r7)=true then
   (Bh s i).bind fun c10=>
   (vT c10).bind fun r11=>
   some (!r11)
  else
   some false
 else
  some false
theorem wC{x:Bool}(h:qD s i=some x):aR Pg GE 0 (cA Rq 890) (EX .normal (ib s i x)) (xa s i):=by
 obtain⟨c2,bc2,h⟩:=aJ h
 obtain⟨r3,br3,h⟩:=aJ h
 have p5:=fun{sc F} (r:PS sc F)=>sv (wa (k:=.i64) underlying9 bc2)<|cW (pP br3)<|r
 rcases aP h with⟨c4,h⟩|⟨c4,h⟩
 ·obtain⟨c6,bc6,h⟩:=aJ h
  obtain⟨r7,br7,h⟩:=aJ h
  have p9:=fun{sc F} (r:PS sc F)=>p5<|sg 6 c4<|sv (wa (k:=.i64) underlying9 bc6)<|cW (xc br7)<|r
  rcases aP h with⟨c8,h⟩|⟨c8,h⟩
  ·obtain⟨c10,bc10,h⟩:=aJ h
   obtain⟨r11,br11,h⟩:=aJ h
   obtain rfl:=lf h
   exact bJ LW (p9<|sg 13 c8<|sv (wa (k:=.i64) underlying9 bc10)<|cW (uF br11)<|eF .normal (ib s i (!r11)))<|by kernel_rfl
  ·obtain rfl:=lf h
   exact bJ LW (p9<|sg 13 c8<|eF .normal (ib s i false))<|by kernel_rfl
 ·obtain rfl:=lf h
  exact bJ LW (p5<|sg 6 c4<|eF .normal (ib s i false))<|by kernel_rfl
end
section
variable(s:ag)(i:Int)
def fp:aA:=bj 29 [(0,.str s),(3,.int .i64 i)] [] []
def fq(o:Unit⊕(Unit)):Exit:=match o with
 |(.inl _)=>.ret
 |(.inr _)=>.exit 0
def eg(o:Unit⊕(Unit)):aA:=match o with
 |(.inl o)=>bj 29 [(2,.bool false)] [] []
 |(.inr o)=>bj 29 [] [] []
def pd:Option (Int⊕(Unit⊕(Unit))):=
 if(decide (i<(s.length:Int)))=true then
  (qD s i).bind fun o12=>
  if o12=true then
   some (.inr (.inl ()))
  else
   some (.inl (cp (i+1)))
 else
  some (.inr (.inr ()))
def qE:Option (Unit⊕(Unit)):=loop (fun(zz:Int)=>pd s zz) i
theorem vb{y:Int⊕(Unit⊕(Unit))}(h:pd s i=some y):aR Pg GE 0 (cA Rq 55) (LQ (fun(zz:Int)=>fp s zz) fq eg y) (fp s i):=by
 rcases aP h with⟨c1,h⟩|⟨c1,h⟩
 ·obtain⟨o12,bo12,h⟩:=aJ h
  have p14:=fun{sc F} (r:PS sc F)=>cq (qa underlying9 s)<|sg 0 c1<|rN 1<|dS (wC s i bo12)<|r
  rcases aP h with⟨c13,h⟩|⟨c13,h⟩
  ·obtain rfl:=lf h
   have z:=p14<|sg 0 c13<|eF (fq (.inl ())) (eg (.inl ()))
   exact kc LW (by intro hx;cases hx) z<|by kernel_rfl
  ·obtain rfl:=lf h
   exact AU LW (p14<|sg 0 c13<|eF .normal (fp s (cp (i+1))))<|by kernel_rfl
 ·obtain rfl:=lf h
  have z:=cq (qa underlying9 s)<|sg 0 c1<|eF (fq (.inr ())) (eg (.inr ()))
  exact kc LW (by intro hx;cases hx) z<|by kernel_rfl
theorem od{x:Unit⊕(Unit)}(h:qE s i=some x):aR Pg GE 0 (.loop (cA Rq 55)) (EX (fq x) (eg x)) (fp s i):=
 aR.loop (S:=fun(zz:Int)=>fp s zz) (ex:=fq) (s:=i) h fun zz y hy=>vb s zz hy
end
def oR(s:ag):Option Bool:=
 (qE s 0).bind fun o15=>match o15 with
 |(.inl o15)=>
  some false
 |(.inr o15)=>
  some true
theorem qF{s:ag}{r:Bool}(h:oR s=some r):CC Pg GE 164 [.str s] (.bool r) []:=by
 obtain⟨o15,bo15,h⟩:=aJ h
 rcases o15 with o15|o15
 ·obtain rfl:=lf h
  have z:=dS (e:=.ret) (s1:=eg (.inl o15)) (od s 0 bo15)<|en (aI (rP (.bool false))<|trivial)
  exact cR LW call164 func164 (c:=Rq) rfl (aI trivial trivial) z<|by kernel_rfl
 ·obtain rfl:=lf h
  have z:=dS (e:=.exit 0) (s1:=eg (.inr o15)) (od s 0 bo15)<|en (aI (rP (.bool true))<|trivial)
  exact cR LW call164 func164 (c:=Rq) rfl (aI trivial trivial) z<|by kernel_rfl
noncomputable def Pt:Code:=f162.body.getD .skip
def LV:List Nat:=[]
section
variable(s:ag)
def E4:aA:=bj 31 [(0,.str s)] [] []
def ni(o:Bool):aA:=bj 31 [(0,.str s),(16,.bool o)] [] []
def zZ:Option Bool:=
 (vV s).bind fun r1=>
 if(!r1)=true then
  some true
 else
  (Bh s 0).bind fun c3=>
  (wD c3).bind fun r4=>
  if(!r4)=true then
   some true
  else
   (oR s).bind fun r7=>
   some (!r7)
theorem DQ{x:Bool}(h:zZ s=some x):aR Pg GE 0 (cA Pt 12) (EX .normal (ni s x)) (E4 s):=by
 obtain⟨r1,br1,h⟩:=aJ h
 rcases aP h with⟨c2,h⟩|⟨c2,h⟩
 ·obtain rfl:=lf h
  exact bJ LV (cW (ku br1)<|sg 4 c2<|eF .normal (ni s true))<|by kernel_rfl
 ·obtain⟨c3,bc3,h⟩:=aJ h
  obtain⟨r4,br4,h⟩:=aJ h
  have p6:=fun{sc F} (r:PS sc F)=>cW (ku br1)<|sg 4 c2<|sv (wa (k:=.i64) underlying9 bc3)<|cW (xc br4)<|r
  rcases aP h with⟨c5,h⟩|⟨c5,h⟩
  ·obtain rfl:=lf h
   exact bJ LV (p6<|sg 10 c5<|eF .normal (ni s true))<|by kernel_rfl
  ·obtain⟨r7,br7,h⟩:=aJ h
   obtain rfl:=lf h
   exact bJ LV (p6<|sg 10 c5<|cW (qF br7)<|eF .normal (ni s (!r7)))<|by kernel_rfl
end
def F4(s:ag):Option Bool:=
 (zZ s).bind fun o8=>
 if o8=true then
  some false
 else
  if (!(s == ([73,110,116]:ag))) = true then
   if(!(s==([66,111,111,108]:ag)))=true then
    if(!(s==([67,101,108,108]:ag)))=true then
     some (!(s==([70,117,110]:ag)))
    else
     some false
   else
    some false
  else
   some false
theorem Id{s:ag}{r:Bool}(h:F4 s=some r):CC Pg GE 162 [.str s] (.bool r) []:=by
 obtain⟨o8,bo8,h⟩:=aJ h
 have p10:=fun{sc F} (r:PS sc F)=>rN 2<|dS (DQ s bo8)<|r
 rcases aP h with⟨c9,h⟩|⟨c9,h⟩
 ·obtain rfl:=lf h
  have z:=p10<|sg 0 c9<|en (aI (rP (.bool false))<|trivial)
  exact cR LV call162 func162 (c:=Pt) rfl (aI trivial trivial) z<|by kernel_rfl
 ·have p12:=fun{sc F} (r:PS sc F)=>p10<|sg 0 c9<|r
  rcases aP h with⟨c11,h⟩|⟨c11,h⟩
  ·have p14:=fun{sc F} (r:PS sc F)=>p12<|sg 3 c11<|r
   rcases aP h with⟨c13,h⟩|⟨c13,h⟩
   ·have p16:=fun{sc F} (r:PS sc F)=>p14<|sg 7 c13<|r
    rcases aP h with⟨c15,h⟩|⟨c15,h⟩
    ·obtain rfl:=lf h
     have z:=p16<|sg 11 c15<|en (aI (rP (.bool (!(s==([70,117,110]:ag)))))<|trivial)
     exact cR LV call162 func162 (c:=Pt) rfl (aI trivial trivial) z<|by kernel_rfl
    ·obtain rfl:=lf h
     have z:=p16<|sg 11 c15<|en (aI (rP (.bool false))<|trivial)
     exact cR LV call162 func162 (c:=Pt) rfl (aI trivial trivial) z<|by kernel_rfl
   ·obtain rfl:=lf h
    have z:=p14<|sg 7 c13<|en (aI (rP (.bool false))<|trivial)
    exact cR LV call162 func162 (c:=Pt) rfl (aI trivial trivial) z<|by kernel_rfl
  ·obtain rfl:=lf h
   have z:=p12<|sg 3 c11<|en (aI (rP (.bool false))<|trivial)
   exact cR LV call162 func162 (c:=Pt) rfl (aI trivial trivial) z<|by kernel_rfl
noncomputable def Rr:Code:=f165.body.getD .skip
def KF:List Nat:=[]
section
variable(s:ag)(i:Int)
def GP:aA:=bj 32 [(0,.str s),(3,.int .i64 i)] [] []
def lw(o:Bool):aA:=bj 32 [(0,.str s),(3,.int .i64 i),(31,.bool o)] [] []
def BZ:Option Bool:=
 (Bh s i).bind fun c2=>
 (sq c2).bind fun r3=>
 if (!r3) = true then
  if(i==0)=true then
   some true
  else
   (Bh s i).bind fun c8=>
   (vT c8).bind fun r9=>
   if(!r9)=true then
    (Bh s i).bind fun c12=>
    some (c12 !=95)
   else
    some false
 else
  some false
theorem E5{x:Bool}(h:BZ s i=some x):aR Pg GE 0 (cA Rr 890) (EX .normal (lw s i x)) (GP s i):=by
 obtain⟨c2,bc2,h⟩:=aJ h
 obtain⟨r3,br3,h⟩:=aJ h
 have p5:=fun{sc F} (r:PS sc F)=>sv (wa (k:=.i64) underlying9 bc2)<|cW (pP br3)<|r
 rcases aP h with⟨c4,h⟩|⟨c4,h⟩
 ·have p7:=fun{sc F} (r:PS sc F)=>p5<|sg 6 c4<|r
  rcases aP h with⟨c6,h⟩|⟨c6,h⟩
  ·obtain rfl:=lf h
   exact bJ KF (p7<|sg 9 c6<|eF .normal (lw s i true))<|by kernel_rfl
  ·obtain⟨c8,bc8,h⟩:=aJ h
   obtain⟨r9,br9,h⟩:=aJ h
   have p11:=fun{sc F} (r:PS sc F)=>p7<|sg 9 c6<|sv (wa (k:=.i64) underlying9 bc8)<|cW (uF br9)<|r
   rcases aP h with⟨c10,h⟩|⟨c10,h⟩
   ·obtain⟨c12,bc12,h⟩:=aJ h
    obtain rfl:=lf h
    exact bJ KF (p11<|sg 15 c10<|sv (wa (k:=.i64) underlying9 bc12)<|eF .normal (lw s i (c12 !=95)))<|by kernel_rfl
   ·obtain rfl:=lf h
    exact bJ KF (p11<|sg 15 c10<|eF .normal (lw s i false))<|by kernel_rfl
 ·obtain rfl:=lf h
  exact bJ KF (p5<|sg 6 c4<|eF .normal (lw s i false))<|by kernel_rfl
end
section
variable(s:ag)(i:Int)
def lx:aA:=bj 32 [(0,.str s),(3,.int .i64 i)] [] []
def ly(o:Unit⊕(Unit)):Exit:=match o with
 |(.inl _)=>.ret
 |(.inr _)=>.exit 0
def jA(o:Unit⊕(Unit)):aA:=match o with
 |(.inl o)=>bj 32 [(2,.bool false)] [] []
 |(.inr o)=>bj 32 [] [] []
def yz:Option (Int⊕(Unit⊕(Unit))):=
 if(decide (i<(s.length:Int)))=true then
  (BZ s i).bind fun o13=>
  if o13=true then
   some (.inr (.inl ()))
  else
   some (.inl (cp (i+1)))
 else
  some (.inr (.inr ()))
def B3:Option (Unit⊕(Unit)):=loop (fun(zz:Int)=>yz s zz) i
theorem DR{y:Int⊕(Unit⊕(Unit))}(h:yz s i=some y):aR Pg GE 0 (cA Rr 55) (LQ (fun(zz:Int)=>lx s zz) ly jA y) (lx s i):=by
 rcases aP h with⟨c1,h⟩|⟨c1,h⟩
 ·obtain⟨o13,bo13,h⟩:=aJ h
  have p15:=fun{sc F} (r:PS sc F)=>cq (qa underlying9 s)<|sg 0 c1<|rN 1<|dS (E5 s i bo13)<|r
  rcases aP h with⟨c14,h⟩|⟨c14,h⟩
  ·obtain rfl:=lf h
   have z:=p15<|sg 0 c14<|eF (ly (.inl ())) (jA (.inl ()))
   exact kc KF (by intro hx;cases hx) z<|by kernel_rfl
  ·obtain rfl:=lf h
   exact AU KF (p15<|sg 0 c14<|eF .normal (lx s (cp (i+1))))<|by kernel_rfl
 ·obtain rfl:=lf h
  have z:=cq (qa underlying9 s)<|sg 0 c1<|eF (ly (.inr ())) (jA (.inr ()))
  exact kc KF (by intro hx;cases hx) z<|by kernel_rfl
theorem xe{x:Unit⊕(Unit)}(h:B3 s i=some x):aR Pg GE 0 (.loop (cA Rr 55)) (EX (ly x) (jA x)) (lx s i):=
 aR.loop (S:=fun(zz:Int)=>lx s zz) (ex:=ly) (s:=i) h fun zz y hy=>DR s zz hy
end
def Ie(s:ag):Option Bool:=
 (B3 s 0).bind fun o16=>match o16 with
 |(.inl o16)=>
  some false
 |(.inr o16)=>
  some true
theorem Jv{s:ag}{r:Bool}(h:Ie s=some r):CC Pg GE 165 [.str s] (.bool r) []:=by
 obtain⟨o16,bo16,h⟩:=aJ h
 rcases o16 with o16|o16
 ·obtain rfl:=lf h
  have z:=dS (e:=.ret) (s1:=jA (.inl o16)) (xe s 0 bo16)<|en (aI (rP (.bool false))<|trivial)
  exact cR KF call165 func165 (c:=Rr) rfl (aI trivial trivial) z<|by kernel_rfl
 ·obtain rfl:=lf h
  have z:=dS (e:=.exit 0) (s1:=jA (.inr o16)) (xe s 0 bo16)<|en (aI (rP (.bool true))<|trivial)
  exact cR KF call165 func165 (c:=Rr) rfl (aI trivial trivial) z<|by kernel_rfl
noncomputable def L9:Code:=f143.body.getD .skip
def C5:List Nat:=[]
section
variable(first:ag)(rest:ag)(more:Bool)
def GL:aA:=bj 52 [(3,.str first),(4,.str rest),(5,.bool more)] [] []
def lp(o:Bool):aA:=bj 52 [(4,.str rest),(5,.bool more),(31,.bool o)] [] []
def BP:Option Bool:=
 (Ic first).bind fun r3=>
 if (!r3) = true then
  (F4 first).bind fun r5=>
  if(!r5)=true then
   if(!(first==([118]:ag)))=true then
    some true
   else
    some (!more)
  else
   some false
 else
  some false
theorem EW{x:Bool}(h:BP first more=some x):aR Pg GE 0 (cA L9 60) (EX .normal (lp rest more x)) (GL first rest more):=by
 obtain⟨r3,br3,h⟩:=aJ h
 rcases aP h with⟨c4,h⟩|⟨c4,h⟩
 ·obtain⟨r5,br5,h⟩:=aJ h
  have p7:=fun{sc F} (r:PS sc F)=>cW (BY br3)<|sg 4 c4<|cW (Id br5)<|r
  rcases aP h with⟨c6,h⟩|⟨c6,h⟩
  ·have p9:=fun{sc F} (r:PS sc F)=>p7<|sg 9 c6<|r
   rcases aP h with⟨c8,h⟩|⟨c8,h⟩
   ·obtain rfl:=lf h
    exact bJ C5 (p9<|sg 12 c8<|eF .normal (lp rest more true))<|by kernel_rfl
   ·obtain rfl:=lf h
    exact bJ C5 (p9<|sg 12 c8<|eF .normal (lp rest more (!more)))<|by kernel_rfl
  ·obtain rfl:=lf h
   exact bJ C5 (p7<|sg 9 c6<|eF .normal (lp rest more false))<|by kernel_rfl
 ·obtain rfl:=lf h
  exact bJ C5 (cW (BY br3)<|sg 4 c4<|eF .normal (lp rest more false))<|by kernel_rfl
end
section
variable(rest:ag)(more:Bool)(part:ag)
def GM:aA:=bj 52 [(4,.str rest),(5,.bool more),(6,.str part)] [] []
def oB(o:Bool):aA:=bj 52 [(4,.str rest),(5,.bool more),(51,.bool o)] [] []
def BQ:Option Bool:=
 (vV part).bind fun r15=>
 if(!r15)=true then
  some true
 else
  (oR part).bind fun r17=>
  if(!r17)=true then
   (Ie part).bind fun r20=>
   some (!r20)
  else
   some false
theorem EY{x:Bool}(h:BQ part=some x):aR Pg GE 0 (cA L9 8062) (EX .normal (oB rest more x)) (GM rest more part):=by
 obtain⟨r15,br15,h⟩:=aJ h
 rcases aP h with⟨c16,h⟩|⟨c16,h⟩
 ·obtain rfl:=lf h
  exact bJ C5 (cW (ku br15)<|sg 4 c16<|eF .normal (oB rest more true))<|by kernel_rfl
 ·obtain⟨r17,br17,h⟩:=aJ h
  have p19:=fun{sc F} (r:PS sc F)=>cW (ku br15)<|sg 4 c16<|cW (qF br17)<|r
  rcases aP h with⟨c18,h⟩|⟨c18,h⟩
  ·obtain⟨r20,br20,h⟩:=aJ h
   obtain rfl:=lf h
   exact bJ C5 (p19<|sg 8 c18<|cW (Jv br20)<|eF .normal (oB rest more (!r20)))<|by kernel_rfl
  ·obtain rfl:=lf h
   exact bJ C5 (p19<|sg 8 c18<|eF .normal (oB rest more false))<|by kernel_rfl
end
section
variable(rest:ag)(more:Bool)
def lq:aA:=bj 52 [(4,.str rest),(5,.bool more)] [] []
def lr(o:Unit⊕(Unit)):Exit:=match o with
 |(.inl _)=>.ret
 |(.inr _)=>.exit 0
def jy(o:Unit⊕(Unit)):aA:=match o with
 |(.inl o)=>bj 52 [(2,.int .i64 3)] [] []
 |(.inr o)=>bj 52 [] [] []
def yw:Option ((ag×Bool)⊕(Unit⊕(Unit))):=
 if more=true then
  (E0 rest).bind fun r14=>
  (BQ r14.1).bind fun o21=>
  if o21=true then
   some (.inr (.inl ()))
  else
   some (.inl (r14.2.1,r14.2.2))
 else
  some (.inr (.inr ()))
def BS:Option (Unit⊕(Unit)):=loop (fun(zz:ag×Bool)=>yw zz.1 zz.2) (rest,more)
theorem DH{y:(ag×Bool)⊕(Unit⊕(Unit))}(h:yw rest more=some y):aR Pg GE 0 (cA L9 251) (LQ (fun(zz:ag×Bool)=>lq zz.1 zz.2) lr jy y) (lq rest more):=by
 rcases aP h with⟨c13,h⟩|⟨c13,h⟩
 ·obtain⟨r14,br14,h⟩:=aJ h
  obtain⟨o21,bo21,h⟩:=aJ h
  have p23:=fun{sc F} (r:PS sc F)=>sg 0 c13<|cW (DN br14)<|rN 0<|dS (EY r14.2.1 r14.2.2 r14.1 bo21)<|r
  rcases aP h with⟨c22,h⟩|⟨c22,h⟩
  ·obtain rfl:=lf h
   have z:=p23<|sg 0 c22<|eF (lr (.inl ())) (jy (.inl ()))
   exact kc C5 (by intro hx;cases hx) z<|by kernel_rfl
  ·obtain rfl:=lf h
   exact AU C5 (p23<|sg 0 c22<|eF .normal (lq r14.2.1 r14.2.2))<|by kernel_rfl
 ·obtain rfl:=lf h
  have z:=sg 0 c13<|eF (lr (.inr ())) (jy (.inr ()))
  exact kc C5 (by intro hx;cases hx) z<|by kernel_rfl
theorem w8{x:Unit⊕(Unit)}(h:BS rest more=some x):aR Pg GE 0 (.loop (cA L9 251)) (EX (lr x) (jy x)) (lq rest more):=
 aR.loop (S:=fun(zz:ag×Bool)=>lq zz.1 zz.2) (ex:=lr) (s:=(rest,more)) h fun zz y hy=>DH zz.1 zz.2 hy
end
def Cx(s:ag):Option Int:=
 if(decide ((s.length:Int)>120))=true then
  some 3
 else
  (E0 s).bind fun r2=>
  (BP r2.1 r2.2.2).bind fun o10=>
  if o10=true then
   some 3
  else
   (BS r2.2.1 r2.2.2).bind fun o24=>match o24 with
   |(.inl o24)=>
    some 3
   |(.inr o24)=>
    some 0
theorem BT{s:ag}{r:Int}(h:Cx s=some r):CC Pg GE 143 [.str s] (.int .i64 r) []:=by
 rcases aP h with⟨c1,h⟩|⟨c1,h⟩
 ·obtain rfl:=lf h
  have z:=cq (qa underlying9 s)<|sg 0 c1<|en (aI (rP (.int .i64 3))<|trivial)
  exact cR C5 call143 func143 (c:=L9) rfl (aI trivial trivial) z<|by kernel_rfl
 ·obtain⟨r2,br2,h⟩:=aJ h
  obtain⟨o10,bo10,h⟩:=aJ h
  have p12:=fun{sc F} (r:PS sc F)=>cq (qa underlying9 s)<|sg 0 c1<|cW (DN br2)<|rN 1<|dS (EW r2.1 r2.2.1 r2.2.2 bo10)<|r
  rcases aP h with⟨c11,h⟩|⟨c11,h⟩
  ·obtain rfl:=lf h
   have z:=p12<|sg 0 c11<|en (aI (rP (.int .i64 3))<|trivial)
   exact cR C5 call143 func143 (c:=L9) rfl (aI trivial trivial) z<|by kernel_rfl
  ·obtain⟨o24,bo24,h⟩:=aJ h
   rcases o24 with o24|o24
   ·obtain rfl:=lf h
    have z:=p12<|sg 0 c11<|dS (e:=.ret) (s1:=jy (.inl o24)) (w8 r2.2.1 r2.2.2 bo24)<|en (aI (rP (.int .i64 3))<|trivial)
    exact cR C5 call143 func143 (c:=L9) rfl (aI trivial trivial) z<|by kernel_rfl
   ·obtain rfl:=lf h
    have z:=p12<|sg 0 c11<|dS (e:=.exit 0) (s1:=jy (.inr o24)) (w8 r2.2.1 r2.2.2 bo24)<|en (aI (rP (.int .i64 0))<|trivial)
    exact cR C5 call143 func143 (c:=L9) rfl (aI trivial trivial) z<|by kernel_rfl
noncomputable def Xi:Code:=f142.body.getD .skip
def W0:List Nat:=[]
def An(a:ag):Option Bool:=
 (Cx a).bind fun r1=>
 some (r1 !=0)
theorem Eg{a:ag}{r:Bool}(h:An a=some r):CC Pg GE 142 [.str a] (.bool r) []:=by
 obtain⟨r1,br1,h⟩:=aJ h
 obtain rfl:=lf h
 have z:=cW (BT br1)<|en (aI (rP (.bool (r1 !=0)))<|trivial)
 exact cR W0 call142 func142 (c:=Xi) rfl (aI trivial trivial) z<|by kernel_rfl
noncomputable def S6:Code:=f155.body.getD .skip
def QA:List Nat:=[10,17]
section
variable(s:waA)(t7:Int)(t8:Int)
def dM:aA:=bj 19 [(0,sl cS s),(1,.func (.func 142) [] []),(7,.int .i64 t7),(8,.int .i64 t8)] [] []
def dN(o:Int⊕(Unit)):Exit:=match o with
 |(.inl _)=>.ret
 |(.inr _)=>.exit 0
def cK(o:Int⊕(Unit)):aA:=match o with
 |(.inl o)=>bj 19 [(4,.int .i64 o)] [] []
 |(.inr o)=>bj 19 [] [] []
def kT:Option (Int⊕(Int⊕(Unit))):=
 if(decide (t8<t7))=true then
  (gY s t8).bind fun x2=>
  (An x2).bind fun r3=>
  if r3=true then
   some (.inr (.inl t8))
  else
   some (.inl (cp (t8+1)))
 else
  some (.inr (.inr ()))
def mm:Option (Int⊕(Unit)):=loop (fun(zz:Int)=>kT s t7 zz) t8
theorem qw{y:Int⊕(Int⊕(Unit))}(h:kT s t7 t8=some y):aR Pg GE 0 (cA S6 55) (LQ (fun(zz:Int)=>dM s t7 zz) dN cK y) (dM s t7 t8):=by
 rcases aP h with⟨c1,h⟩|⟨c1,h⟩
 ·obtain⟨x2,bx2,h⟩:=aJ h
  obtain⟨r3,br3,h⟩:=aJ h
  have p5:=fun{sc F} (r:PS sc F)=>sg 0 c1<|sv (dK.ia (k:=.i64) bx2)<|sv (cZ Ge (.str x2) [])<|cW (Eg br3)<|r
  rcases aP h with⟨c4,h⟩|⟨c4,h⟩
  ·obtain rfl:=lf h
   have z:=p5<|sg 0 c4<|eF (dN (.inl t8)) (cK (.inl t8))
   exact kc QA (by intro hx;cases hx) z<|by kernel_rfl
  ·obtain rfl:=lf h
   exact AU QA (p5<|sg 0 c4<|eF .normal (dM s t7 (cp (t8+1))))<|by kernel_rfl
 ·obtain rfl:=lf h
  have z:=sg 0 c1<|eF (dN (.inr ())) (cK (.inr ()))
  exact kc QA (by intro hx;cases hx) z<|by kernel_rfl
theorem kC{x:Int⊕(Unit)}(h:mm s t7 t8=some x):aR Pg GE 0 (.loop (cA S6 55)) (EX (dN x) (cK x)) (dM s t7 t8):=
 aR.loop (S:=fun(zz:Int)=>dM s t7 zz) (ex:=dN) (s:=t8) h fun zz y hy=>qw s t7 zz hy
end
def oe(s:waA):Option Int:=
 (mm s (s.length:Int) 0).bind fun o6=>match o6 with
 |(.inl o6)=>
  some o6
 |(.inr o6)=>
  some (-1)
theorem tH{s:waA}{r:Int}(h:oe s=some r):CC Pg GE 155 [sl cS s,.func (.func 142) [] []] (.int .i64 r) []:=by
 obtain⟨o6,bo6,h⟩:=aJ h
 rcases o6 with o6|o6
 ·obtain rfl:=lf h
  have z:=cq (dK.ln s)<|dS (e:=.ret) (s1:=cK (.inl o6)) (kC s (s.length:Int) 0 bo6)<|en (aI (rP (.int .i64 o6))<|trivial)
  exact cR QA call155 func155 (c:=S6) rfl (aI (au cb s) (aI (aI trivial trivial) trivial)) z<|by kernel_rfl
 ·obtain rfl:=lf h
  have z:=cq (dK.ln s)<|dS (e:=.exit 0) (s1:=cK (.inr o6)) (kC s (s.length:Int) 0 bo6)<|en (aI (rP (.int .i64 (-1)))<|trivial)
  exact cR QA call155 func155 (c:=S6) rfl (aI (au cb s) (aI (aI trivial trivial) trivial)) z<|by kernel_rfl
noncomputable def Xh:Code:=f141.body.getD .skip
def WZ:List Nat:=[]
def ml(s:waA):Option Bool:=
 (oe s).bind fun r1=>
 some (decide (r1>=0))
theorem rf{s:waA}{r:Bool}(h:ml s=some r):CC Pg GE 141 [sl cS s,.func (.func 142) [] []] (.bool r) []:=by
 obtain⟨r1,br1,h⟩:=aJ h
 obtain rfl:=lf h
 have z:=cW (tH br1)<|en (aI (rP (.bool (decide (r1>=0))))<|trivial)
 exact cR WZ call141 func141 (c:=Xh) rfl (aI (au cb s) (aI (aI trivial trivial) trivial)) z<|by kernel_rfl
noncomputable def Nt:Code:=f119.body.getD .skip
def I2:List Nat:=[14,36]
section
variable(e:af)(s:am)(v:waA)
def Eh:aA:=bj 54 [(2,.eptr (ae e)),(3,.eptr (aC s)),(5,sl cS v)] [.dead,.dead] [((5,0),9)]
def qg(o:waA):aA:=bj 54 [(2,.eptr (ae e)),(5,sl cS o)] [.dead,.dead] [((5,0),9)]
def yH:Option waA:=
 if s.name=true then
  (app v ([e.Name]:List ag)).bind fun l4=>
  some l4
 else
  some v
theorem CU{x:waA}(h:yH e s v=some x):aR Pg GE 0 (cA Nt 14) (EX .normal (qg e x)) (Eh e s v):=by
 have p3:=fun{sc F} (r:PS sc F)=>sv (yR s)<|sv (Bi s)<|r
 rcases aP h with⟨c2,h⟩|⟨c2,h⟩
 ·obtain⟨l4,bl4,h⟩:=aJ h
  obtain rfl:=lf h
  exact bJ I2 (p3<|sg 0 c2<|sv (eu e)<|sv (fc e)<|sv (dK.mk' (v:=PVal.str) Lz ([e.Name]:List ag) 1 (by kernel_rfl))<|sv (dK.ap bl4)<|eF .normal (qg e l4))<|by kernel_rfl
 ·obtain rfl:=lf h
  exact bJ I2 (p3<|sg 0 c2<|eF .normal (qg e v))<|by kernel_rfl
end
section
variable(e:af)(v:waA)
def Ei:aA:=bj 54 [(2,.eptr (ae e)),(5,sl cS v)] [.dead,.dead] [((5,0),9)]
def qh(o:Bool):aA:=bj 54 [(2,.eptr (ae e)),(5,sl cS v),(6,.bool o)] [.dead,.dead] [((5,0),9)]
def yI:Option Bool:=
 (kY e.Params).bind fun r6=>
 (tL r6).bind fun r7=>
 if r7=true then
  some true
 else
  (iy e.Alts).bind fun r10=>
  (tL r10).bind fun r11=>
  some r11
theorem CV{x:Bool}(h:yI e=some x):aR Pg GE 0 (cA Nt 30) (EX .normal (qh e v x)) (Ei e v):=by
 obtain⟨r6,br6,h⟩:=aJ h
 obtain⟨r7,br7,h⟩:=aJ h
 have p9:=fun{sc F} (r:PS sc F)=>sv (bE e)<|sv (bG e)<|cW (oL br6)<|cW (sT br7)<|r
 rcases aP h with⟨c8,h⟩|⟨c8,h⟩
 ·obtain rfl:=lf h
  exact bJ I2 (p9<|sg 5 c8<|eF .normal (qh e v true))<|by kernel_rfl
 ·obtain⟨r10,br10,h⟩:=aJ h
  obtain⟨r11,br11,h⟩:=aJ h
  obtain rfl:=lf h
  exact bJ I2 (p9<|sg 5 c8<|sv (aE e)<|sv (aF e)<|cW (qf br10)<|cW (sT br11)<|eF .normal (qh e v r11))<|by kernel_rfl
end
section
variable(t30:waC)(t31:Int)(v:waA)(doubled:Bool)(t32:Int)
def ii:aA:=bj 54 [(5,sl cS v),(6,.bool doubled),(30,sl az t30),(31,.int .i64 t31),(32,.int .i64 t32)] [.dead,.dead] [((5,0),9)]
def qi(o:waA×Bool):aA:=bj 54 [(5,sl cS o.1),(6,.bool o.2)] [.dead,.dead] [((5,0),9)]
def wd:Option ((waA×Bool×Int)⊕((waA×Bool))):=
 if(decide (t32<t31))=true then
  (gY t30 t32).bind fun x14=>
  (app v ([x14.Con]:List ag)).bind fun l15=>
  (app l15 x14.Names).bind fun l16=>
  if doubled=true then
   some (.inl (l16,true,cp (t32+1)))
  else
   (tL x14.Names).bind fun r19=>
   some (.inl (l16,r19,cp (t32+1)))
 else
  some (.inr (v,doubled))
def yJ:Option ((waA×Bool)):=loop (fun(zz:waA×Bool×Int)=>wd t30 t31 zz.1 zz.2.1 zz.2.2) (v,doubled,t32)
theorem BB{y:(waA×Bool×Int)⊕((waA×Bool))}(h:wd t30 t31 v doubled t32=some y):aR Pg GE 0 (cA Nt 503) (LQ (fun(zz:waA×Bool×Int)=>ii t30 t31 zz.1 zz.2.1 zz.2.2) (fun _=>.exit 0) qi y) (ii t30 t31 v doubled t32):=by
 rcases aP h with⟨c13,h⟩|⟨c13,h⟩
 ·obtain⟨x14,bx14,h⟩:=aJ h
  obtain⟨l15,bl15,h⟩:=aJ h
  obtain⟨l16,bl16,h⟩:=aJ h
  have p18:=fun{sc F} (r:PS sc F)=>sg 0 c13<|sv (eQ.ia (k:=.i64) bx14)<|sv (mi x14)<|sx Fh<|sx (i8 x14)<|I1 [0,0,2,6,15,0,32,127,255]<|ss<|sv (dK.mk' (v:=PVal.str) Lz ([x14.Con]:List ag) 1 (by kernel_rfl))<|sv (dK.ap bl15)<|ss<|sv (dK.ap bl16)<|r
  rcases aP h with⟨c17,h⟩|⟨c17,h⟩
  ·obtain rfl:=lf h
   have z:=p18<|sg 2 c17<|tN 0 .normal (ii t30 t31 l16 true (cp (t32+1))) rfl (d5 (aI (up (au cb l16)) (aI trivial (aI (up (au bW t30)) (aI trivial (aI trivial trivial)))))) (aI trivial (aI trivial trivial))
   exact ez (A:=I2) mixed z<|by kernel_rfl
  ·obtain⟨r19,br19,h⟩:=aJ h
   obtain rfl:=lf h
   have z:=p18<|sg 2 c17<|ss<|cW (sT br19)<|tN 0 .normal (ii t30 t31 l16 r19 (cp (t32+1))) rfl (d5 (aI (up (au cb l16)) (aI trivial (aI (up (au bW t30)) (aI trivial (aI trivial trivial)))))) (aI trivial (aI trivial trivial))
   exact ez (A:=I2) mixed z<|by kernel_rfl
 ·obtain rfl:=lf h
  have z:=sg 0 c13<|eF (.exit 0) (qi (v,doubled))
  exact kc I2 (by intro hx;cases hx) z<|by kernel_rfl
theorem CW{x:(waA×Bool)}(h:yJ t30 t31 v doubled t32=some x):aR Pg GE 0 (.loop (cA Nt 503)) (EX (.exit 0) (qi x)) (ii t30 t31 v doubled t32):=
 aR.loop (S:=fun(zz:waA×Bool×Int)=>ii t30 t31 zz.1 zz.2.1 zz.2.2) (ex:=(fun _=>.exit 0)) (s:=(v,doubled,t32)) h fun zz y hy=>BB t30 t31 zz.1 zz.2.1 zz.2.2 hy
end
def Ef(e:af)(s:am):Option Int:=
 (kY e.Params).bind fun r1=>
 (yH e s r1).bind fun o5=>
 (yI e).bind fun o12=>
 (yJ e.Alts (e.Alts.length:Int) o5 o12 0).bind fun o20=>
 (ml o20.1).bind fun r21=>
 if r21=true then
  some 3
 else
  if o20.2=true then
   some 4
  else
   some 0
theorem GY{e:af}{s:am}{r:Int}(h:Ef e s=some r):CC Pg GE 119 [.agg (ae e),.agg (aC s)] (.int .i64 r) []:=by
 obtain⟨r1,br1,h⟩:=aJ h
 obtain⟨o5,bo5,h⟩:=aJ h
 obtain⟨o12,bo12,h⟩:=aJ h
 obtain⟨o20,bo20,h⟩:=aJ h
 obtain⟨r21,br21,h⟩:=aJ h
 have p23:=fun{sc F} (r:PS sc F)=>se (cJ e)<|se (yB s)<|sv (bE e)<|sv (bG e)<|cW (oL br1)<|rN 0<|dS (CU e s r1 bo5)<|rN 0<|dS (CV e o5 bo12)<|sv (aE e)<|sv (aF e)<|cq (eQ.ln e.Alts)<|dS (CW e.Alts (e.Alts.length:Int) o5 o12 0 bo20)<|cW (rf br21)<|r
 rcases aP h with⟨c22,h⟩|⟨c22,h⟩
 ·obtain rfl:=lf h
  have z:=p23<|sg 0 c22<|en (aI (rP (.int .i64 3))<|trivial)
  exact cR I2 call119 func119 (c:=Nt) rfl (aI (ay e) (aI (bH s) trivial)) z<|by kernel_rfl
 ·have p25:=fun{sc F} (r:PS sc F)=>p23<|sg 0 c22<|r
  rcases aP h with⟨c24,h⟩|⟨c24,h⟩
  ·obtain rfl:=lf h
   have z:=p25<|sg 0 c24<|en (aI (rP (.int .i64 4))<|trivial)
   exact cR I2 call119 func119 (c:=Nt) rfl (aI (ay e) (aI (bH s) trivial)) z<|by kernel_rfl
  ·obtain rfl:=lf h
   have z:=p25<|sg 0 c24<|en (aI (rP (.int .i64 0))<|trivial)
   exact cR I2 call119 func119 (c:=Nt) rfl (aI (ay e) (aI (bH s) trivial)) z<|by kernel_rfl
abbrev rC:=(aj->Option Int)
abbrev wk(R:rC):Prop:=∀(t:aj) (r:Int),R t=some r->CC Pg GE 144 [.agg (ai t)] (.int .i64 r) []
noncomputable def UG:Code:=f144.body.getD .skip
def Ui:List Nat:=[]
section
variable(R86:rC)(t7:waB)(t8:Int)(n:Int)(t9:Int)
def kO:aA:=bj 20 [(3,.int .i64 n),(7,sl ai t7),(8,.int .i64 t8),(9,.int .i64 t9)] [.dead] []
def ru(o:Int):aA:=bj 20 [(3,.int .i64 o)] [.dead] []
def xw:Option ((Int×Int)⊕(Int)):=
 if(decide (t9<t8))=true then
  (gY t7 t9).bind fun x2=>
  (R86 x2).bind fun r3=>
  some (.inl ((if r3>n then r3 else n),cp (t9+1)))
 else
  some (.inr n)
def Ay:Option Int:=loop (fun(zz:Int×Int)=>xw R86 t7 t8 zz.1 zz.2) (n,t9)
theorem C4(hR86:wk R86){y:(Int×Int)⊕(Int)}(h:xw R86 t7 t8 n t9=some y):aR Pg GE 0 (cA UG 119) (LQ (fun(zz:Int×Int)=>kO t7 t8 zz.1 zz.2) (fun _=>.exit 0) ru y) (kO t7 t8 n t9):=by
 rcases aP h with⟨c1,h⟩|⟨c1,h⟩
 ·obtain⟨x2,bx2,h⟩:=aJ h
  obtain⟨r3,br3,h⟩:=aJ h
  obtain rfl:=lf h
  have z:=sg 0 c1<|sv (ee.ia (k:=.i64) bx2)<|sv (lm x2)<|sx Ob<|sx (qX x2)<|sv (kn x2 [])<|cW (hR86 _ _ br3)<|tN 0 .normal (kO t7 t8 (if r3>n then r3 else n) (cp (t9+1))) rfl (d5 (aI trivial (aI (up (au aN t7)) (aI trivial (aI trivial trivial))))) (aI trivial trivial)
  exact ez (A:=Ui) mixed z<|by kernel_rfl
 ·obtain rfl:=lf h
  have z:=sg 0 c1<|eF (.exit 0) (ru n)
  exact kc Ui (by intro hx;cases hx) z<|by kernel_rfl
theorem Ep(hR86:wk R86){x:Int}(h:Ay R86 t7 t8 n t9=some x):aR Pg GE 0 (.loop (cA UG 119)) (EX (.exit 0) (ru x)) (kO t7 t8 n t9):=
 aR.loop (S:=fun(zz:Int×Int)=>kO t7 t8 zz.1 zz.2) (ex:=(fun _=>.exit 0)) (s:=(n,t9)) h fun zz y hy=>C4 R86 t7 t8 zz.1 zz.2 hR86 hy
end
def B9(R86:rC)(t:aj):Option Int:=
 (Ay R86 t.Args (t.Args.length:Int) 0 0).bind fun o4=>
 some (cp (o4+1))
theorem GZ(R86:rC)(hR86:wk R86){t:aj}{r:Int}(h:B9 R86 t=some r):CC Pg GE 144 [.agg (ai t)] (.int .i64 r) []:=by
 obtain⟨o4,bo4,h⟩:=aJ h
 obtain rfl:=lf h
 have z:=se (pS t)<|sv (dG t)<|sv (dH t)<|cq (ee.ln t.Args)<|dS (Ep R86 t.Args (t.Args.length:Int) 0 0 hR86 bo4)<|en (aI (rP (.int .i64 (cp (o4+1))))<|trivial)
 exact cR Ui call144 func144 (c:=UG) rfl (aI (aN t) trivial) z<|by kernel_rfl
def Ca:(aj->Option Int)->(aj)->Option Int:=fun(rec:aj->Option Int) (x:aj)=>B9 (fun t=>rec t) x
def Gk(t:aj):Option Int:=sd Ca t
theorem IW{t:aj}{r:Int}(h:Gk t=some r):CC Pg GE 144 [.agg (ai t)] (.int .i64 r) []:=
 eM (F:=Ca) (M:=fun(x:aj) (r:Int)=>CC Pg GE 144 [.agg (ai x)] (.int .i64 r) []) (fun rec hrec x r h=>GZ _ (fun t r h=>hrec t r h) h) h
end Go.Proofs.YtkdahfeiedaahaaGreatDoor
