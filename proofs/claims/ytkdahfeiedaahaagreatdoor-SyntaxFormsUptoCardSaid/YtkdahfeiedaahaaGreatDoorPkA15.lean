/- PROVED: a part of the proof. Conditions: none. -/
import Derived.Test.YtkdahfeiedaahaaGreatDoorPkA14
noncomputable section
namespace Go.Proofs.YtkdahfeiedaahaaGreatDoor
open Go Go.Proofs.Tryz
set_option linter.unusedVariables false
set_option maxRecDepth 100000
noncomputable def qco:Code:=f84.body.getD .skip
def qb0:List Nat:=[12,18]
section
variable(t6:waC)(t7:Int)(out:waA)(t8:Int)
def fk:aB:=aZ 19 [(3,sl cS out),(6,sl aF t6),(7,.int .i64 t7),(8,.int .i64 t8)] [] [((3,0),9)]
def la(o:waA):aB:=aZ 19 [(3,sl cS o)] [] [((3,0),9)]
def dt:Option ((waA×Int)⊕(waA)):=
 if(decide (t8<t7))=true then
  (fy t6 t8).bind fun x2=>
  (app out ([x2.Con]:List ah)).bind fun l3=>
  some (.inl (l3,bN (t8+1)))
 else
  some (.inr out)
def i8:Option waA:=loop (fun(zz:waA×Int)=>dt t6 t7 zz.1 zz.2) (out,t8)
theorem zi{y:(waA×Int)⊕(waA)}(h:dt t6 t7 out t8=some y):aU Pg GE 0 (cA qco 119) (LQ (fun(zz:waA×Int)=>fk t6 t7 zz.1 zz.2) (fun _=>.exit 0) la y) (fk t6 t7 out t8):=by
 rcases aH h with⟨c1,h⟩|⟨c1,h⟩
 ·obtain⟨x2,bx2,h⟩:=aG h
  obtain⟨l3,bl3,h⟩:=aG h
  obtain rfl:=lf h
  have z:=sg 0 c1<|sv (dZ.ia (k:=.i64) bx2)<|sv (mt x2)<|sx Ip<|sx (iV x2)<|ss<|sv (cO.mk' (v:=PVal.str) OF ([x2.Con]:List ah) 1 (by kernel_rfl))<|sv (cO.ap bl3)<|vY 0 .normal (fk t6 t7 l3 (bN (t8+1))) rfl (dI (aI (up (aw cy l3)) (aI (up (aw bE t6)) (aI trivial (aI trivial trivial))))) trivial
  exact eA (A:=qb0) mixed z<|by kernel_rfl
 ·obtain rfl:=lf h
  have z:=sg 0 c1<|eF (.exit 0) (la out)
  exact gu qb0 (by intro hx;cases hx) z<|by kernel_rfl
theorem zC{x:waA}(h:i8 t6 t7 out t8=some x):aU Pg GE 0 (.loop (cA qco 119)) (EX (.exit 0) (la x)) (fk t6 t7 out t8):=
 aU.loop (S:=fun(zz:waA×Int)=>fk t6 t7 zz.1 zz.2) (ex:=(fun _=>.exit 0)) (s:=(out,t8)) h fun zz y hy=>zi t6 t7 zz.1 zz.2 hy
end
def lk(a:waC):Option waA:=
 (i8 a (a.length:Int) ([]:List ah) 0).bind fun o4=>
 some o4
theorem CF{a:waC}{r:waA}(h:lk a=some r):CC Pg GE 84 [sl aF a] (sl cS r) [(0,9)]:=by
 obtain⟨o4,bo4,h⟩:=aG h
 obtain rfl:=lf h
 have z:=bF (dZ.ln a)<|cK (zC a (a.length:Int) ([]:List ah) 0 bo4)<|en (aI (rP (sl cS o4))<|(aw cy o4))
 exact bI qb0 call84 func84 (c:=qco) rfl (aI (aw bE a) trivial) z<|by kernel_rfl
noncomputable def XT:Code:=f160.body.getD .skip
def VU:List Nat:=[23]
section
variable(s:ah)(i:Int)
def pq:aB:=aZ 24 [(0,.str s),(5,.int .i64 i)] [] []
def pu(o:(ah×ah)⊕(Unit)):Exit:=match o with
 |(.inl _)=>.ret
 |(.inr _)=>.exit 0
def lG(o:(ah×ah)⊕(Unit)):aB:=match o with
 |(.inl o)=>aZ 24 [(2,.str o.1),(3,.str o.2),(4,.bool true)] [] []
 |(.inr o)=>aZ 24 [(0,.str s)] [] []
def pr:Option (Int⊕((ah×ah)⊕(Unit))):=
 if(decide (i<(s.length:Int)))=true then
  (ms s i).bind fun c2=>
  if(c2==46)=true then
   (Rd s none (some i)).bind fun s5=>
   (Rd s (some (bN (i+1))) none).bind fun s6=>
   some (.inr (.inl (s5,s6)))
  else
   some (.inl (bN (i+1)))
 else
  some (.inr (.inr ()))
def Cp:Option ((ah×ah)⊕(Unit)):=loop (fun(zz:Int)=>pr s zz) i
theorem Ju{y:Int⊕((ah×ah)⊕(Unit))}(h:pr s i=some y):aU Pg GE 0 (cA XT 55) (LQ (fun(zz:Int)=>pq s zz) pu (lG s) y) (pq s i):=by
 rcases aH h with⟨c1,h⟩|⟨c1,h⟩
 ·obtain⟨c2,bc2,h⟩:=aG h
  have p4:=fun{sc F} (r:PS sc F)=>bF (gU underlying9 s)<|sg 0 c1<|sv (jj (k:=.i64) underlying9 bc2)<|r
  rcases aH h with⟨c3,h⟩|⟨c3,h⟩
  ·obtain⟨s5,bs5,h⟩:=aG h
   obtain⟨s6,bs6,h⟩:=aG h
   obtain rfl:=lf h
   have z:=p4<|sg 0 c3<|OO [0,0,3,0,0,16,56,7,255,511]<|sv (Uq underlying9 bs5)<|sv (Uq underlying9 bs6)<|eF (pu (.inl (s5,s6))) (lG s (.inl (s5,s6)))
   exact gu VU (by intro hx;cases hx) z<|by kernel_rfl
  ·obtain rfl:=lf h
   exact wv VU (p4<|sg 0 c3<|eF .normal (pq s (bN (i+1))))<|by kernel_rfl
 ·obtain rfl:=lf h
  have z:=bF (gU underlying9 s)<|sg 0 c1<|eF (pu (.inr ())) (lG s (.inr ()))
  exact gu VU (by intro hx;cases hx) z<|by kernel_rfl
theorem CU{x:(ah×ah)⊕(Unit)}(h:Cp s i=some x):aU Pg GE 0 (.loop (cA XT 55)) (EX (pu x) (lG s x)) (pq s i):=
 aU.loop (S:=fun(zz:Int)=>pq s zz) (ex:=pu) (s:=i) h fun zz y hy=>Ju s zz hy
end
def BB(s:ah):Option (ah×ah×Bool):=
 (Cp s 0).bind fun o7=>match o7 with
 |(.inl o7)=>
  some (o7.1,o7.2,true)
 |(.inr o7)=>
  some (s,([]:ah),false)
theorem H3{s:ah}{r:ah×ah×Bool}(h:BB s=some r):CC Pg GE 160 [.str s] (.tuple [.str r.1,.str r.2.1,.bool r.2.2]) []:=by
 obtain⟨o7,bo7,h⟩:=aG h
 rcases o7 with o7|o7
 ·obtain rfl:=lf h
  have z:=cK (e:=.ret) (s1:=lG s (.inl o7)) (CU s 0 bo7)<|en (aI (rP (.tuple [.str o7.1,.str o7.2,.bool true]))<|(aI trivial (aI trivial (aI trivial trivial))))
  exact bI VU call160 func160 (c:=XT) rfl (aI trivial trivial) z<|by kernel_rfl
 ·obtain rfl:=lf h
  have z:=cK (e:=.exit 0) (s1:=lG s (.inr o7)) (CU s 0 bo7)<|en (aI (rP (.tuple [.str s,.str ([]:ah),.bool false]))<|(aI trivial (aI trivial (aI trivial trivial))))
  exact bI VU call160 func160 (c:=XT) rfl (aI trivial trivial) z<|by kernel_rfl
noncomputable def qaz:Code:=f163.body.getD .skip
def qaa:List Nat:=[]
def sw(s:ah):Option Bool:=
 if(decide ((s.length:Int)>=1))=true then
  some (decide ((s.length:Int)<=24))
 else
  some false
theorem lH{s:ah}{r:Bool}(h:sw s=some r):CC Pg GE 163 [.str s] (.bool r) []:=by
 rcases aH h with⟨c1,h⟩|⟨c1,h⟩
 ·obtain rfl:=lf h
  have z:=bF (gU underlying9 s)<|sg 4 c1<|bF (gU underlying9 s)<|en (aI (rP (.bool (decide ((s.length:Int)<=24))))<|trivial)
  exact bI qaa call163 func163 (c:=qaz) rfl (aI trivial trivial) z<|by kernel_rfl
 ·obtain rfl:=lf h
  have z:=bF (gU underlying9 s)<|sg 4 c1<|en (aI (rP (.bool false))<|trivial)
  exact bI qaa call163 func163 (c:=qaz) rfl (aI trivial trivial) z<|by kernel_rfl
noncomputable def qaB:Code:=f186.body.getD .skip
def qac:List Nat:=[]
def pw(c:Int):Option Bool:=
 if(decide (97<=c))=true then
  some (decide (c<=122))
 else
  some false
theorem tr{c:Int}{r:Bool}(h:pw c=some r):CC Pg GE 186 [.int .u8 c] (.bool r) []:=by
 rcases aH h with⟨c1,h⟩|⟨c1,h⟩
 ·obtain rfl:=lf h
  have z:=sg 3 c1<|en (aI (rP (.bool (decide (c<=122))))<|trivial)
  exact bI qac call186 func186 (c:=qaB) rfl (aI trivial trivial) z<|by kernel_rfl
 ·obtain rfl:=lf h
  have z:=sg 3 c1<|en (aI (rP (.bool false))<|trivial)
  exact bI qac call186 func186 (c:=qaB) rfl (aI trivial trivial) z<|by kernel_rfl
noncomputable def XV:Code:=f187.body.getD .skip
def VW:List Nat:=[]
section
variable(s:ah)(t6:Int)
def jJ:aB:=aZ 13 [(0,.str s),(5,.agg (dJ.map PVal.str)),(6,.int .i64 t6)] [] []
def jL(o:Unit⊕(Unit)):Exit:=match o with
 |(.inl _)=>.ret
 |(.inr _)=>.exit 0
def gL(o:Unit⊕(Unit)):aB:=match o with
 |(.inl o)=>aZ 13 [(2,.bool true)] [] []
 |(.inr o)=>aZ 13 [] [] []
def jK:Option (Int⊕(Unit⊕(Unit))):=
 if(decide (t6<42))=true then
  (fy dJ t6).bind fun x2=>
  if(x2==s)=true then
   some (.inr (.inl ()))
  else
   some (.inl (bN (t6+1)))
 else
  some (.inr (.inr ()))
def uH:Option (Unit⊕(Unit)):=loop (fun(zz:Int)=>jK s zz) t6
theorem Ep{y:Int⊕(Unit⊕(Unit))}(h:jK s t6=some y):aU Pg GE 0 (cA XV 55) (LQ (fun(zz:Int)=>jJ s zz) jL gL y) (jJ s t6):=by
 rcases aH h with⟨c1,h⟩|⟨c1,h⟩
 ·obtain⟨x2,bx2,h⟩:=aG h
  have p4:=fun{sc F} (r:PS sc F)=>sg 0 c1<|sv (H4 (k:=.i64) bx2)<|r
  rcases aH h with⟨c3,h⟩|⟨c3,h⟩
  ·obtain rfl:=lf h
   have z:=p4<|sg 0 c3<|eF (jL (.inl ())) (gL (.inl ()))
   exact gu VW (by intro hx;cases hx) z<|by kernel_rfl
  ·obtain rfl:=lf h
   exact wv VW (p4<|sg 0 c3<|eF .normal (jJ s (bN (t6+1))))<|by kernel_rfl
 ·obtain rfl:=lf h
  have z:=sg 0 c1<|eF (jL (.inr ())) (gL (.inr ()))
  exact gu VW (by intro hx;cases hx) z<|by kernel_rfl
theorem xk{x:Unit⊕(Unit)}(h:uH s t6=some x):aU Pg GE 0 (.loop (cA XV 55)) (EX (jL x) (gL x)) (jJ s t6):=
 aU.loop (S:=fun(zz:Int)=>jJ s zz) (ex:=jL) (s:=t6) h fun zz y hy=>Ep s zz hy
end
def vA(s:ah):Option Bool:=
 (uH s 0).bind fun o5=>match o5 with
 |(.inl o5)=>
  some true
 |(.inr o5)=>
  some false
theorem Jt{s:ah}{r:Bool}(h:vA s=some r):CC Pg GE 187 [.str s] (.bool r) []:=by
 obtain⟨o5,bo5,h⟩:=aG h
 rcases o5 with o5|o5
 ·obtain rfl:=lf h
  have z:=sv Af<|cK (e:=.ret) (s1:=gL (.inl o5)) (xk s 0 bo5)<|en (aI (rP (.bool true))<|trivial)
  exact bI VW call187 func187 (c:=XV) rfl (aI trivial trivial) z<|by kernel_rfl
 ·obtain rfl:=lf h
  have z:=sv Af<|cK (e:=.exit 0) (s1:=gL (.inr o5)) (xk s 0 bo5)<|en (aI (rP (.bool false))<|trivial)
  exact bI VW call187 func187 (c:=XV) rfl (aI trivial trivial) z<|by kernel_rfl
noncomputable def qaC:Code:=f188.body.getD .skip
def qad:List Nat:=[]
def su(c:Int):Option Bool:=
 if(decide (48<=c))=true then
  some (decide (c<=57))
 else
  some false
theorem yV{c:Int}{r:Bool}(h:su c=some r):CC Pg GE 188 [.int .u8 c] (.bool r) []:=by
 rcases aH h with⟨c1,h⟩|⟨c1,h⟩
 ·obtain rfl:=lf h
  have z:=sg 3 c1<|en (aI (rP (.bool (decide (c<=57))))<|trivial)
  exact bI qad call188 func188 (c:=qaC) rfl (aI trivial trivial) z<|by kernel_rfl
 ·obtain rfl:=lf h
  have z:=sg 3 c1<|en (aI (rP (.bool false))<|trivial)
  exact bI qad call188 func188 (c:=qaC) rfl (aI trivial trivial) z<|by kernel_rfl
noncomputable def SV:Code:=f161.body.getD .skip
def Kx:List Nat:=[]
section
variable(s:ah)
def Lh:aB:=aZ 41 [(0,.str s)] [] []
def ry(o:Bool):aB:=aZ 41 [(0,.str s),(16,.bool o)] [] []
def vB:Option Bool:=
 (sw s).bind fun r1=>
 if(!r1)=true then
  some true
 else
  (ms s 0).bind fun c3=>
  (pw c3).bind fun r4=>
  if(!r4)=true then
   some true
  else
   (vA s).bind fun r7=>
   some r7
theorem Jw{x:Bool}(h:vB s=some x):aU Pg GE 0 (cA SV 12) (EX .normal (ry s x)) (Lh s):=by
 obtain⟨r1,br1,h⟩:=aG h
 rcases aH h with⟨c2,h⟩|⟨c2,h⟩
 ·obtain rfl:=lf h
  exact aY Kx (cm (lH br1)<|sg 4 c2<|eF .normal (ry s true))<|by kernel_rfl
 ·obtain⟨c3,bc3,h⟩:=aG h
  obtain⟨r4,br4,h⟩:=aG h
  have p6:=fun{sc F} (r:PS sc F)=>cm (lH br1)<|sg 4 c2<|sv (jj (k:=.i64) underlying9 bc3)<|cm (tr br4)<|r
  rcases aH h with⟨c5,h⟩|⟨c5,h⟩
  ·obtain rfl:=lf h
   exact aY Kx (p6<|sg 10 c5<|eF .normal (ry s true))<|by kernel_rfl
  ·obtain⟨r7,br7,h⟩:=aG h
   obtain rfl:=lf h
   exact aY Kx (p6<|sg 10 c5<|cm (Jt br7)<|eF .normal (ry s r7))<|by kernel_rfl
end
section
variable(s:ah)(i:Int)
def Li:aB:=aZ 41 [(0,.str s),(3,.int .i64 i)] [] []
def rz(o:Bool):aB:=aZ 41 [(0,.str s),(3,.int .i64 i),(40,.bool o)] [] []
def vC:Option Bool:=
 (ms s i).bind fun c12=>
 (pw c12).bind fun r13=>
 if(!r13)=true then
  (ms s i).bind fun c16=>
  (su c16).bind fun r17=>
  if(!r17)=true then
   (ms s i).bind fun c20=>
   some (c20 !=95)
  else
   some false
 else
  some false
theorem Jy{x:Bool}(h:vC s i=some x):aU Pg GE 0 (cA SV 1914) (EX .normal (rz s i x)) (Li s i):=by
 obtain⟨c12,bc12,h⟩:=aG h
 obtain⟨r13,br13,h⟩:=aG h
 have p15:=fun{sc F} (r:PS sc F)=>sv (jj (k:=.i64) underlying9 bc12)<|cm (tr br13)<|r
 rcases aH h with⟨c14,h⟩|⟨c14,h⟩
 ·obtain⟨c16,bc16,h⟩:=aG h
  obtain⟨r17,br17,h⟩:=aG h
  have p19:=fun{sc F} (r:PS sc F)=>p15<|sg 6 c14<|sv (jj (k:=.i64) underlying9 bc16)<|cm (yV br17)<|r
  rcases aH h with⟨c18,h⟩|⟨c18,h⟩
  ·obtain⟨c20,bc20,h⟩:=aG h
   obtain rfl:=lf h
   exact aY Kx (p19<|sg 13 c18<|sv (jj (k:=.i64) underlying9 bc20)<|eF .normal (rz s i (c20 !=95)))<|by kernel_rfl
  ·obtain rfl:=lf h
   exact aY Kx (p19<|sg 13 c18<|eF .normal (rz s i false))<|by kernel_rfl
 ·obtain rfl:=lf h
  exact aY Kx (p15<|sg 6 c14<|eF .normal (rz s i false))<|by kernel_rfl
end
section
variable(s:ah)(i:Int)
def mO:aB:=aZ 41 [(0,.str s),(3,.int .i64 i)] [] []
def mP(o:Unit⊕(Unit)):Exit:=match o with
 |(.inl _)=>.ret
 |(.inr _)=>.exit 0
def kj(o:Unit⊕(Unit)):aB:=match o with
 |(.inl o)=>aZ 41 [(2,.bool false)] [] []
 |(.inr o)=>aZ 41 [] [] []
def rA:Option (Int⊕(Unit⊕(Unit))):=
 if(decide (i<(s.length:Int)))=true then
  (vC s i).bind fun o21=>
  if o21=true then
   some (.inr (.inl ()))
  else
   some (.inl (bN (i+1)))
 else
  some (.inr (.inr ()))
def vD:Option (Unit⊕(Unit)):=loop (fun(zz:Int)=>rA s zz) i
theorem H5{y:Int⊕(Unit⊕(Unit))}(h:rA s i=some y):aU Pg GE 0 (cA SV 119) (LQ (fun(zz:Int)=>mO s zz) mP kj y) (mO s i):=by
 rcases aH h with⟨c11,h⟩|⟨c11,h⟩
 ·obtain⟨o21,bo21,h⟩:=aG h
  have p23:=fun{sc F} (r:PS sc F)=>bF (gU underlying9 s)<|sg 0 c11<|nN 1<|cK (Jy s i bo21)<|r
  rcases aH h with⟨c22,h⟩|⟨c22,h⟩
  ·obtain rfl:=lf h
   have z:=p23<|sg 0 c22<|eF (mP (.inl ())) (kj (.inl ()))
   exact gu Kx (by intro hx;cases hx) z<|by kernel_rfl
  ·obtain rfl:=lf h
   exact wv Kx (p23<|sg 0 c22<|eF .normal (mO s (bN (i+1))))<|by kernel_rfl
 ·obtain rfl:=lf h
  have z:=bF (gU underlying9 s)<|sg 0 c11<|eF (mP (.inr ())) (kj (.inr ()))
  exact gu Kx (by intro hx;cases hx) z<|by kernel_rfl
theorem BC{x:Unit⊕(Unit)}(h:vD s i=some x):aU Pg GE 0 (.loop (cA SV 119)) (EX (mP x) (kj x)) (mO s i):=
 aU.loop (S:=fun(zz:Int)=>mO s zz) (ex:=mP) (s:=i) h fun zz y hy=>H5 s zz hy
end
def Cq(s:ah):Option Bool:=
 (vB s).bind fun o8=>
 if o8=true then
  some false
 else
  (vD s 1).bind fun o24=>match o24 with
  |(.inl o24)=>
   some false
  |(.inr o24)=>
   some true
theorem Ge{s:ah}{r:Bool}(h:Cq s=some r):CC Pg GE 161 [.str s] (.bool r) []:=by
 obtain⟨o8,bo8,h⟩:=aG h
 have p10:=fun{sc F} (r:PS sc F)=>nN 2<|cK (Jw s bo8)<|r
 rcases aH h with⟨c9,h⟩|⟨c9,h⟩
 ·obtain rfl:=lf h
  have z:=p10<|sg 0 c9<|en (aI (rP (.bool false))<|trivial)
  exact bI Kx call161 func161 (c:=SV) rfl (aI trivial trivial) z<|by kernel_rfl
 ·obtain⟨o24,bo24,h⟩:=aG h
  rcases o24 with o24|o24
  ·obtain rfl:=lf h
   have z:=p10<|sg 0 c9<|cK (e:=.ret) (s1:=kj (.inl o24)) (BC s 1 bo24)<|en (aI (rP (.bool false))<|trivial)
   exact bI Kx call161 func161 (c:=SV) rfl (aI trivial trivial) z<|by kernel_rfl
  ·obtain rfl:=lf h
   have z:=p10<|sg 0 c9<|cK (e:=.exit 0) (s1:=kj (.inr o24)) (BC s 1 bo24)<|en (aI (rP (.bool true))<|trivial)
   exact bI Kx call161 func161 (c:=SV) rfl (aI trivial trivial) z<|by kernel_rfl
noncomputable def qaD:Code:=f189.body.getD .skip
def qae:List Nat:=[]
def rb(c:Int):Option Bool:=
 if(decide (65<=c))=true then
  some (decide (c<=90))
 else
  some false
theorem BA{c:Int}{r:Bool}(h:rb c=some r):CC Pg GE 189 [.int .u8 c] (.bool r) []:=by
 rcases aH h with⟨c1,h⟩|⟨c1,h⟩
 ·obtain rfl:=lf h
  have z:=sg 3 c1<|en (aI (rP (.bool (decide (c<=90))))<|trivial)
  exact bI qae call189 func189 (c:=qaD) rfl (aI trivial trivial) z<|by kernel_rfl
 ·obtain rfl:=lf h
  have z:=sg 3 c1<|en (aI (rP (.bool false))<|trivial)
  exact bI qae call189 func189 (c:=qaD) rfl (aI trivial trivial) z<|by kernel_rfl
noncomputable def Wc:Code:=f164.body.getD .skip
def Rg:List Nat:=[]
section
variable(s:ah)(i:Int)
def By:aB:=aZ 29 [(0,.str s),(3,.int .i64 i)] [] []
def iC(o:Bool):aB:=aZ 29 [(0,.str s),(3,.int .i64 i),(28,.bool o)] [] []
def jY:Option Bool:=
 (ms s i).bind fun c2=>
 (pw c2).bind fun r3=>
 if(!r3)=true then
  (ms s i).bind fun c6=>
  (rb c6).bind fun r7=>
  if(!r7)=true then
   (ms s i).bind fun c10=>
   (su c10).bind fun r11=>
   some (!r11)
  else
   some false
 else
  some false
theorem AS{x:Bool}(h:jY s i=some x):aU Pg GE 0 (cA Wc 890) (EX .normal (iC s i x)) (By s i):=by
 obtain⟨c2,bc2,h⟩:=aG h
 obtain⟨r3,br3,h⟩:=aG h
 have p5:=fun{sc F} (r:PS sc F)=>sv (jj (k:=.i64) underlying9 bc2)<|cm (tr br3)<|r
 rcases aH h with⟨c4,h⟩|⟨c4,h⟩
 ·obtain⟨c6,bc6,h⟩:=aG h
  obtain⟨r7,br7,h⟩:=aG h
  have p9:=fun{sc F} (r:PS sc F)=>p5<|sg 6 c4<|sv (jj (k:=.i64) underlying9 bc6)<|cm (BA br7)<|r
  rcases aH h with⟨c8,h⟩|⟨c8,h⟩
  ·obtain⟨c10,bc10,h⟩:=aG h
   obtain⟨r11,br11,h⟩:=aG h
   obtain rfl:=lf h
   exact aY Rg (p9<|sg 13 c8<|sv (jj (k:=.i64) underlying9 bc10)<|cm (yV br11)<|eF .normal (iC s i (!r11)))<|by kernel_rfl
  ·obtain rfl:=lf h
   exact aY Rg (p9<|sg 13 c8<|eF .normal (iC s i false))<|by kernel_rfl
 ·obtain rfl:=lf h
  exact aY Rg (p5<|sg 6 c4<|eF .normal (iC s i false))<|by kernel_rfl
end
section
variable(s:ah)(i:Int)
def fK:aB:=aZ 29 [(0,.str s),(3,.int .i64 i)] [] []
def fM(o:Unit⊕(Unit)):Exit:=match o with
 |(.inl _)=>.ret
 |(.inr _)=>.exit 0
def eN(o:Unit⊕(Unit)):aB:=match o with
 |(.inl o)=>aZ 29 [(2,.bool false)] [] []
 |(.inr o)=>aZ 29 [] [] []
def fL:Option (Int⊕(Unit⊕(Unit))):=
 if(decide (i<(s.length:Int)))=true then
  (jY s i).bind fun o12=>
  if o12=true then
   some (.inr (.inl ()))
  else
   some (.inl (bN (i+1)))
 else
  some (.inr (.inr ()))
def nS:Option (Unit⊕(Unit)):=loop (fun(zz:Int)=>fL s zz) i
theorem zx{y:Int⊕(Unit⊕(Unit))}(h:fL s i=some y):aU Pg GE 0 (cA Wc 55) (LQ (fun(zz:Int)=>fK s zz) fM eN y) (fK s i):=by
 rcases aH h with⟨c1,h⟩|⟨c1,h⟩
 ·obtain⟨o12,bo12,h⟩:=aG h
  have p14:=fun{sc F} (r:PS sc F)=>bF (gU underlying9 s)<|sg 0 c1<|nN 1<|cK (AS s i bo12)<|r
  rcases aH h with⟨c13,h⟩|⟨c13,h⟩
  ·obtain rfl:=lf h
   have z:=p14<|sg 0 c13<|eF (fM (.inl ())) (eN (.inl ()))
   exact gu Rg (by intro hx;cases hx) z<|by kernel_rfl
  ·obtain rfl:=lf h
   exact wv Rg (p14<|sg 0 c13<|eF .normal (fK s (bN (i+1))))<|by kernel_rfl
 ·obtain rfl:=lf h
  have z:=bF (gU underlying9 s)<|sg 0 c1<|eF (fM (.inr ())) (eN (.inr ()))
  exact gu Rg (by intro hx;cases hx) z<|by kernel_rfl
theorem ra{x:Unit⊕(Unit)}(h:nS s i=some x):aU Pg GE 0 (.loop (cA Wc 55)) (EX (fM x) (eN x)) (fK s i):=
 aU.loop (S:=fun(zz:Int)=>fK s zz) (ex:=fM) (s:=i) h fun zz y hy=>zx s zz hy
end
def jM(s:ah):Option Bool:=
 (nS s 0).bind fun o15=>match o15 with
 |(.inl o15)=>
  some false
 |(.inr o15)=>
  some true
theorem ur{s:ah}{r:Bool}(h:jM s=some r):CC Pg GE 164 [.str s] (.bool r) []:=by
 obtain⟨o15,bo15,h⟩:=aG h
 rcases o15 with o15|o15
 ·obtain rfl:=lf h
  have z:=cK (e:=.ret) (s1:=eN (.inl o15)) (ra s 0 bo15)<|en (aI (rP (.bool false))<|trivial)
  exact bI Rg call164 func164 (c:=Wc) rfl (aI trivial trivial) z<|by kernel_rfl
 ·obtain rfl:=lf h
  have z:=cK (e:=.exit 0) (s1:=eN (.inr o15)) (ra s 0 bo15)<|en (aI (rP (.bool true))<|trivial)
  exact bI Rg call164 func164 (c:=Wc) rfl (aI trivial trivial) z<|by kernel_rfl
noncomputable def UL:Code:=f162.body.getD .skip
def Rf:List Nat:=[]
section
variable(s:ah)
def JA:aB:=aZ 31 [(0,.str s)] [] []
def pP(o:Bool):aB:=aZ 31 [(0,.str s),(16,.bool o)] [] []
def tt:Option Bool:=
 (sw s).bind fun r1=>
 if(!r1)=true then
  some true
 else
  (ms s 0).bind fun c3=>
  (rb c3).bind fun r4=>
  if(!r4)=true then
   some true
  else
   (jM s).bind fun r7=>
   some (!r7)
theorem H7{x:Bool}(h:tt s=some x):aU Pg GE 0 (cA UL 12) (EX .normal (pP s x)) (JA s):=by
 obtain⟨r1,br1,h⟩:=aG h
 rcases aH h with⟨c2,h⟩|⟨c2,h⟩
 ·obtain rfl:=lf h
  exact aY Rf (cm (lH br1)<|sg 4 c2<|eF .normal (pP s true))<|by kernel_rfl
 ·obtain⟨c3,bc3,h⟩:=aG h
  obtain⟨r4,br4,h⟩:=aG h
  have p6:=fun{sc F} (r:PS sc F)=>cm (lH br1)<|sg 4 c2<|sv (jj (k:=.i64) underlying9 bc3)<|cm (BA br4)<|r
  rcases aH h with⟨c5,h⟩|⟨c5,h⟩
  ·obtain rfl:=lf h
   exact aY Rf (p6<|sg 10 c5<|eF .normal (pP s true))<|by kernel_rfl
  ·obtain⟨r7,br7,h⟩:=aG h
   obtain rfl:=lf h
   exact aY Rf (p6<|sg 10 c5<|cm (ur br7)<|eF .normal (pP s (!r7)))<|by kernel_rfl
end
def Ag(s:ah):Option Bool:=
 (tt s).bind fun o8=>
 if o8=true then
  some false
 else
  if (!(s == ([73,110,116]:ah))) = true then
   if(!(s==([66,111,111,108]:ah)))=true then
    if(!(s==([67,101,108,108]:ah)))=true then
     some (!(s==([70,117,110]:ah)))
    else
     some false
   else
    some false
  else
   some false
theorem M6{s:ah}{r:Bool}(h:Ag s=some r):CC Pg GE 162 [.str s] (.bool r) []:=by
 obtain⟨o8,bo8,h⟩:=aG h
 have p10:=fun{sc F} (r:PS sc F)=>nN 2<|cK (H7 s bo8)<|r
 rcases aH h with⟨c9,h⟩|⟨c9,h⟩
 ·obtain rfl:=lf h
  have z:=p10<|sg 0 c9<|en (aI (rP (.bool false))<|trivial)
  exact bI Rf call162 func162 (c:=UL) rfl (aI trivial trivial) z<|by kernel_rfl
 ·have p12:=fun{sc F} (r:PS sc F)=>p10<|sg 0 c9<|r
  rcases aH h with⟨c11,h⟩|⟨c11,h⟩
  ·have p14:=fun{sc F} (r:PS sc F)=>p12<|sg 3 c11<|r
   rcases aH h with⟨c13,h⟩|⟨c13,h⟩
   ·have p16:=fun{sc F} (r:PS sc F)=>p14<|sg 7 c13<|r
    rcases aH h with⟨c15,h⟩|⟨c15,h⟩
    ·obtain rfl:=lf h
     have z:=p16<|sg 11 c15<|en (aI (rP (.bool (!(s==([70,117,110]:ah)))))<|trivial)
     exact bI Rf call162 func162 (c:=UL) rfl (aI trivial trivial) z<|by kernel_rfl
    ·obtain rfl:=lf h
     have z:=p16<|sg 11 c15<|en (aI (rP (.bool false))<|trivial)
     exact bI Rf call162 func162 (c:=UL) rfl (aI trivial trivial) z<|by kernel_rfl
   ·obtain rfl:=lf h
    have z:=p14<|sg 7 c13<|en (aI (rP (.bool false))<|trivial)
    exact bI Rf call162 func162 (c:=UL) rfl (aI trivial trivial) z<|by kernel_rfl
  ·obtain rfl:=lf h
   have z:=p12<|sg 3 c11<|en (aI (rP (.bool false))<|trivial)
   exact bI Rf call162 func162 (c:=UL) rfl (aI trivial trivial) z<|by kernel_rfl
noncomputable def Wd:Code:=f165.body.getD .skip
def PQ:List Nat:=[]
section
variable(s:ah)(i:Int)
def Lj:aB:=aZ 32 [(0,.str s),(3,.int .i64 i)] [] []
def mQ(o:Bool):aB:=aZ 32 [(0,.str s),(3,.int .i64 i),(31,.bool o)] [] []
def vE:Option Bool:=
 (ms s i).bind fun c2=>
 (pw c2).bind fun r3=>
 if (!r3) = true then
  if(i==0)=true then
   some true
  else
   (ms s i).bind fun c8=>
   (su c8).bind fun r9=>
   if(!r9)=true then
    (ms s i).bind fun c12=>
    some (c12 !=95)
   else
    some false
 else
  some false
theorem JC{x:Bool}(h:vE s i=some x):aU Pg GE 0 (cA Wd 890) (EX .normal (mQ s i x)) (Lj s i):=by
 obtain⟨c2,bc2,h⟩:=aG h
 obtain⟨r3,br3,h⟩:=aG h
 have p5:=fun{sc F} (r:PS sc F)=>sv (jj (k:=.i64) underlying9 bc2)<|cm (tr br3)<|r
 rcases aH h with⟨c4,h⟩|⟨c4,h⟩
 ·have p7:=fun{sc F} (r:PS sc F)=>p5<|sg 6 c4<|r
  rcases aH h with⟨c6,h⟩|⟨c6,h⟩
  ·obtain rfl:=lf h
   exact aY PQ (p7<|sg 9 c6<|eF .normal (mQ s i true))<|by kernel_rfl
  ·obtain⟨c8,bc8,h⟩:=aG h
   obtain⟨r9,br9,h⟩:=aG h
   have p11:=fun{sc F} (r:PS sc F)=>p7<|sg 9 c6<|sv (jj (k:=.i64) underlying9 bc8)<|cm (yV br9)<|r
   rcases aH h with⟨c10,h⟩|⟨c10,h⟩
   ·obtain⟨c12,bc12,h⟩:=aG h
    obtain rfl:=lf h
    exact aY PQ (p11<|sg 15 c10<|sv (jj (k:=.i64) underlying9 bc12)<|eF .normal (mQ s i (c12 !=95)))<|by kernel_rfl
   ·obtain rfl:=lf h
    exact aY PQ (p11<|sg 15 c10<|eF .normal (mQ s i false))<|by kernel_rfl
 ·obtain rfl:=lf h
  exact aY PQ (p5<|sg 6 c4<|eF .normal (mQ s i false))<|by kernel_rfl
end
section
variable(s:ah)(i:Int)
def mR:aB:=aZ 32 [(0,.str s),(3,.int .i64 i)] [] []
def mT(o:Unit⊕(Unit)):Exit:=match o with
 |(.inl _)=>.ret
 |(.inr _)=>.exit 0
def kk(o:Unit⊕(Unit)):aB:=match o with
 |(.inl o)=>aZ 32 [(2,.bool false)] [] []
 |(.inr o)=>aZ 32 [] [] []
def mS:Option (Int⊕(Unit⊕(Unit))):=
 if(decide (i<(s.length:Int)))=true then
  (vE s i).bind fun o13=>
  if o13=true then
   some (.inr (.inl ()))
  else
   some (.inl (bN (i+1)))
 else
  some (.inr (.inr ()))
def AT:Option (Unit⊕(Unit)):=loop (fun(zz:Int)=>mS s zz) i
theorem H8{y:Int⊕(Unit⊕(Unit))}(h:mS s i=some y):aU Pg GE 0 (cA Wd 55) (LQ (fun(zz:Int)=>mR s zz) mT kk y) (mR s i):=by
 rcases aH h with⟨c1,h⟩|⟨c1,h⟩
 ·obtain⟨o13,bo13,h⟩:=aG h
  have p15:=fun{sc F} (r:PS sc F)=>bF (gU underlying9 s)<|sg 0 c1<|nN 1<|cK (JC s i bo13)<|r
  rcases aH h with⟨c14,h⟩|⟨c14,h⟩
  ·obtain rfl:=lf h
   have z:=p15<|sg 0 c14<|eF (mT (.inl ())) (kk (.inl ()))
   exact gu PQ (by intro hx;cases hx) z<|by kernel_rfl
  ·obtain rfl:=lf h
   exact wv PQ (p15<|sg 0 c14<|eF .normal (mR s (bN (i+1))))<|by kernel_rfl
 ·obtain rfl:=lf h
  have z:=bF (gU underlying9 s)<|sg 0 c1<|eF (mT (.inr ())) (kk (.inr ()))
  exact gu PQ (by intro hx;cases hx) z<|by kernel_rfl
theorem BD{x:Unit⊕(Unit)}(h:AT s i=some x):aU Pg GE 0 (.loop (cA Wd 55)) (EX (mT x) (kk x)) (mR s i):=
 aU.loop (S:=fun(zz:Int)=>mR s zz) (ex:=mT) (s:=i) h fun zz y hy=>H8 s zz hy
end
def Cr(s:ah):Option Bool:=
 (AT s 0).bind fun o16=>match o16 with
 |(.inl o16)=>
  some false
 |(.inr o16)=>
  some true
theorem OD{s:ah}{r:Bool}(h:Cr s=some r):CC Pg GE 165 [.str s] (.bool r) []:=by
 obtain⟨o16,bo16,h⟩:=aG h
 rcases o16 with o16|o16
 ·obtain rfl:=lf h
  have z:=cK (e:=.ret) (s1:=kk (.inl o16)) (BD s 0 bo16)<|en (aI (rP (.bool false))<|trivial)
  exact bI PQ call165 func165 (c:=Wd) rfl (aI trivial trivial) z<|by kernel_rfl
 ·obtain rfl:=lf h
  have z:=cK (e:=.exit 0) (s1:=kk (.inr o16)) (BD s 0 bo16)<|en (aI (rP (.bool true))<|trivial)
  exact bI PQ call165 func165 (c:=Wd) rfl (aI trivial trivial) z<|by kernel_rfl
noncomputable def Rx:Code:=f143.body.getD .skip
def Hg:List Nat:=[]
section
variable(first:ah)(rest:ah)(more:Bool)
def Lf:aB:=aZ 52 [(3,.str first),(4,.str rest),(5,.bool more)] [] []
def mL(o:Bool):aB:=aZ 52 [(4,.str rest),(5,.bool more),(31,.bool o)] [] []
def vq:Option Bool:=
 (Cq first).bind fun r3=>
 if (!r3) = true then
  (Ag first).bind fun r5=>
  if(!r5)=true then
   if(!(first==([118]:ah)))=true then
    some true
   else
    some (!more)
  else
   some false
 else
  some false
theorem Jo{x:Bool}(h:vq first more=some x):aU Pg GE 0 (cA Rx 60) (EX .normal (mL rest more x)) (Lf first rest more):=by
 obtain⟨r3,br3,h⟩:=aG h
 rcases aH h with⟨c4,h⟩|⟨c4,h⟩
 ·obtain⟨r5,br5,h⟩:=aG h
  have p7:=fun{sc F} (r:PS sc F)=>cm (Ge br3)<|sg 4 c4<|cm (M6 br5)<|r
  rcases aH h with⟨c6,h⟩|⟨c6,h⟩
  ·have p9:=fun{sc F} (r:PS sc F)=>p7<|sg 9 c6<|r
   rcases aH h with⟨c8,h⟩|⟨c8,h⟩
   ·obtain rfl:=lf h
    exact aY Hg (p9<|sg 12 c8<|eF .normal (mL rest more true))<|by kernel_rfl
   ·obtain rfl:=lf h
    exact aY Hg (p9<|sg 12 c8<|eF .normal (mL rest more (!more)))<|by kernel_rfl
  ·obtain rfl:=lf h
   exact aY Hg (p7<|sg 9 c6<|eF .normal (mL rest more false))<|by kernel_rfl
 ·obtain rfl:=lf h
  exact aY Hg (cm (Ge br3)<|sg 4 c4<|eF .normal (mL rest more false))<|by kernel_rfl
end
section
variable(rest:ah)(more:Bool)(part:ah)
def Lg:aB:=aZ 52 [(4,.str rest),(5,.bool more),(6,.str part)] [] []
def rx(o:Bool):aB:=aZ 52 [(4,.str rest),(5,.bool more),(51,.bool o)] [] []
def vw:Option Bool:=
 (sw part).bind fun r15=>
 if(!r15)=true then
  some true
 else
  (jM part).bind fun r17=>
  if(!r17)=true then
   (Cr part).bind fun r20=>
   some (!r20)
  else
   some false
theorem Jq{x:Bool}(h:vw part=some x):aU Pg GE 0 (cA Rx 8062) (EX .normal (rx rest more x)) (Lg rest more part):=by
 obtain⟨r15,br15,h⟩:=aG h
 rcases aH h with⟨c16,h⟩|⟨c16,h⟩
 ·obtain rfl:=lf h
  exact aY Hg (cm (lH br15)<|sg 4 c16<|eF .normal (rx rest more true))<|by kernel_rfl
 ·obtain⟨r17,br17,h⟩:=aG h
  have p19:=fun{sc F} (r:PS sc F)=>cm (lH br15)<|sg 4 c16<|cm (ur br17)<|r
  rcases aH h with⟨c18,h⟩|⟨c18,h⟩
  ·obtain⟨r20,br20,h⟩:=aG h
   obtain rfl:=lf h
   exact aY Hg (p19<|sg 8 c18<|cm (OD br20)<|eF .normal (rx rest more (!r20)))<|by kernel_rfl
  ·obtain rfl:=lf h
   exact aY Hg (p19<|sg 8 c18<|eF .normal (rx rest more false))<|by kernel_rfl
end
section
variable(rest:ah)(more:Bool)
def mM:aB:=aZ 52 [(4,.str rest),(5,.bool more)] [] []
def mN(o:Unit⊕(Unit)):Exit:=match o with
 |(.inl _)=>.ret
 |(.inr _)=>.exit 0
def ki(o:Unit⊕(Unit)):aB:=match o with
 |(.inl o)=>aZ 52 [(2,.int .i64 3)] [] []
 |(.inr o)=>aZ 52 [] [] []
def kh:Option ((ah×Bool)⊕(Unit⊕(Unit))):=
 if more=true then
  (BB rest).bind fun r14=>
  (vw r14.1).bind fun o21=>
  if o21=true then
   some (.inr (.inl ()))
  else
   some (.inl (r14.2.1,r14.2.2))
 else
  some (.inr (.inr ()))
def ji:Option (Unit⊕(Unit)):=loop (fun(zz:ah×Bool)=>kh zz.1 zz.2) (rest,more)
theorem HW{y:(ah×Bool)⊕(Unit⊕(Unit))}(h:kh rest more=some y):aU Pg GE 0 (cA Rx 251) (LQ (fun(zz:ah×Bool)=>mM zz.1 zz.2) mN ki y) (mM rest more):=by
 rcases aH h with⟨c13,h⟩|⟨c13,h⟩
 ·obtain⟨r14,br14,h⟩:=aG h
  obtain⟨o21,bo21,h⟩:=aG h
  have p23:=fun{sc F} (r:PS sc F)=>sg 0 c13<|cm (H3 br14)<|nN 0<|cK (Jq r14.2.1 r14.2.2 r14.1 bo21)<|r
  rcases aH h with⟨c22,h⟩|⟨c22,h⟩
  ·obtain rfl:=lf h
   have z:=p23<|sg 0 c22<|eF (mN (.inl ())) (ki (.inl ()))
   exact gu Hg (by intro hx;cases hx) z<|by kernel_rfl
  ·obtain rfl:=lf h
   exact wv Hg (p23<|sg 0 c22<|eF .normal (mM r14.2.1 r14.2.2))<|by kernel_rfl
 ·obtain rfl:=lf h
  have z:=sg 0 c13<|eF (mN (.inr ())) (ki (.inr ()))
  exact gu Hg (by intro hx;cases hx) z<|by kernel_rfl
theorem Bv{x:Unit⊕(Unit)}(h:ji rest more=some x):aU Pg GE 0 (.loop (cA Rx 251)) (EX (mN x) (ki x)) (mM rest more):=
 aU.loop (S:=fun(zz:ah×Bool)=>mM zz.1 zz.2) (ex:=mN) (s:=(rest,more)) h fun zz y hy=>HW zz.1 zz.2 hy
end
def yR(s:ah):Option Int:=
 if(decide ((s.length:Int)>120))=true then
  some 3
 else
  (BB s).bind fun r2=>
  (vq r2.1 r2.2.2).bind fun o10=>
  if o10=true then
   some 3
  else
   (ji r2.2.1 r2.2.2).bind fun o24=>match o24 with
   |(.inl o24)=>
    some 3
   |(.inr o24)=>
    some 0
theorem Gd{s:ah}{r:Int}(h:yR s=some r):CC Pg GE 143 [.str s] (.int .i64 r) []:=by
 rcases aH h with⟨c1,h⟩|⟨c1,h⟩
 ·obtain rfl:=lf h
  have z:=bF (gU underlying9 s)<|sg 0 c1<|en (aI (rP (.int .i64 3))<|trivial)
  exact bI Hg call143 func143 (c:=Rx) rfl (aI trivial trivial) z<|by kernel_rfl
 ·obtain⟨r2,br2,h⟩:=aG h
  obtain⟨o10,bo10,h⟩:=aG h
  have p12:=fun{sc F} (r:PS sc F)=>bF (gU underlying9 s)<|sg 0 c1<|cm (H3 br2)<|nN 1<|cK (Jo r2.1 r2.2.1 r2.2.2 bo10)<|r
  rcases aH h with⟨c11,h⟩|⟨c11,h⟩
  ·obtain rfl:=lf h
   have z:=p12<|sg 0 c11<|en (aI (rP (.int .i64 3))<|trivial)
   exact bI Hg call143 func143 (c:=Rx) rfl (aI trivial trivial) z<|by kernel_rfl
  ·obtain⟨o24,bo24,h⟩:=aG h
   rcases o24 with o24|o24
   ·obtain rfl:=lf h
    have z:=p12<|sg 0 c11<|cK (e:=.ret) (s1:=ki (.inl o24)) (Bv r2.2.1 r2.2.2 bo24)<|en (aI (rP (.int .i64 3))<|trivial)
    exact bI Hg call143 func143 (c:=Rx) rfl (aI trivial trivial) z<|by kernel_rfl
   ·obtain rfl:=lf h
    have z:=p12<|sg 0 c11<|cK (e:=.exit 0) (s1:=ki (.inr o24)) (Bv r2.2.1 r2.2.2 bo24)<|en (aI (rP (.int .i64 0))<|trivial)
    exact bI Hg call143 func143 (c:=Rx) rfl (aI trivial trivial) z<|by kernel_rfl
noncomputable def qcc:Code:=f142.body.getD .skip
def qbP:List Nat:=[]
def zj(a:ah):Option Bool:=
 (yR a).bind fun r1=>
 some (r1 !=0)
theorem IA{a:ah}{r:Bool}(h:zj a=some r):CC Pg GE 142 [.str a] (.bool r) []:=by
 obtain⟨r1,br1,h⟩:=aG h
 obtain rfl:=lf h
 have z:=cm (Gd br1)<|en (aI (rP (.bool (r1 !=0)))<|trivial)
 exact bI qbP call142 func142 (c:=qcc) rfl (aI trivial trivial) z<|by kernel_rfl
noncomputable def XQ:Code:=f155.body.getD .skip
def VQ:List Nat:=[10,17]
section
variable(s:waA)(t7:Int)(t8:Int)
def d4:aB:=aZ 19 [(0,sl cS s),(1,.func (.func 142) [] []),(7,.int .i64 t7),(8,.int .i64 t8)] [] []
def d6(o:Int⊕(Unit)):Exit:=match o with
 |(.inl _)=>.ret
 |(.inr _)=>.exit 0
def dc(o:Int⊕(Unit)):aB:=match o with
 |(.inl o)=>aZ 19 [(4,.int .i64 o)] [] []
 |(.inr o)=>aZ 19 [] [] []
def d5:Option (Int⊕(Int⊕(Unit))):=
 if(decide (t8<t7))=true then
  (fy s t8).bind fun x2=>
  (zj x2).bind fun r3=>
  if r3=true then
   some (.inr (.inl t8))
  else
   some (.inl (bN (t8+1)))
 else
  some (.inr (.inr ()))
def i7:Option (Int⊕(Unit)):=loop (fun(zz:Int)=>d5 s t7 zz) t8
theorem ui{y:Int⊕(Int⊕(Unit))}(h:d5 s t7 t8=some y):aU Pg GE 0 (cA XQ 55) (LQ (fun(zz:Int)=>d4 s t7 zz) d6 dc y) (d4 s t7 t8):=by
 rcases aH h with⟨c1,h⟩|⟨c1,h⟩
 ·obtain⟨x2,bx2,h⟩:=aG h
  obtain⟨r3,br3,h⟩:=aG h
  have p5:=fun{sc F} (r:PS sc F)=>sg 0 c1<|sv (cO.ia (k:=.i64) bx2)<|sv (cT GS (.str x2) [])<|cm (IA br3)<|r
  rcases aH h with⟨c4,h⟩|⟨c4,h⟩
  ·obtain rfl:=lf h
   have z:=p5<|sg 0 c4<|eF (d6 (.inl t8)) (dc (.inl t8))
   exact gu VQ (by intro hx;cases hx) z<|by kernel_rfl
  ·obtain rfl:=lf h
   exact wv VQ (p5<|sg 0 c4<|eF .normal (d4 s t7 (bN (t8+1))))<|by kernel_rfl
 ·obtain rfl:=lf h
  have z:=sg 0 c1<|eF (d6 (.inr ())) (dc (.inr ()))
  exact gu VQ (by intro hx;cases hx) z<|by kernel_rfl
theorem lK{x:Int⊕(Unit)}(h:i7 s t7 t8=some x):aU Pg GE 0 (.loop (cA XQ 55)) (EX (d6 x) (dc x)) (d4 s t7 t8):=
 aU.loop (S:=fun(zz:Int)=>d4 s t7 zz) (ex:=d6) (s:=t8) h fun zz y hy=>ui s t7 zz hy
end
def kZ(s:waA):Option Int:=
 (i7 s (s.length:Int) 0).bind fun o6=>match o6 with
 |(.inl o6)=>
  some o6
 |(.inr o6)=>
  some (-1)
theorem ya{s:waA}{r:Int}(h:kZ s=some r):CC Pg GE 155 [sl cS s,.func (.func 142) [] []] (.int .i64 r) []:=by
 obtain⟨o6,bo6,h⟩:=aG h
 rcases o6 with o6|o6
 ·obtain rfl:=lf h
  have z:=bF (cO.ln s)<|cK (e:=.ret) (s1:=dc (.inl o6)) (lK s (s.length:Int) 0 bo6)<|en (aI (rP (.int .i64 o6))<|trivial)
  exact bI VQ call155 func155 (c:=XQ) rfl (aI (aw cy s) (aI (aI trivial trivial) trivial)) z<|by kernel_rfl
 ·obtain rfl:=lf h
  have z:=bF (cO.ln s)<|cK (e:=.exit 0) (s1:=dc (.inr o6)) (lK s (s.length:Int) 0 bo6)<|en (aI (rP (.int .i64 (-1)))<|trivial)
  exact bI VQ call155 func155 (c:=XQ) rfl (aI (aw cy s) (aI (aI trivial trivial) trivial)) z<|by kernel_rfl
noncomputable def qcb:Code:=f141.body.getD .skip
def qbO:List Nat:=[]
def fP(s:waA):Option Bool:=
 (kZ s).bind fun r1=>
 some (decide (r1>=0))
theorem uO{s:waA}{r:Bool}(h:fP s=some r):CC Pg GE 141 [sl cS s,.func (.func 142) [] []] (.bool r) []:=by
 obtain⟨r1,br1,h⟩:=aG h
 obtain rfl:=lf h
 have z:=cm (ya br1)<|en (aI (rP (.bool (decide (r1>=0))))<|trivial)
 exact bI qbO call141 func141 (c:=qcb) rfl (aI (aw cy s) (aI (aI trivial trivial) trivial)) z<|by kernel_rfl
noncomputable def ST:Code:=f119.body.getD .skip
def NM:List Nat:=[14,36]
section
variable(e:af)(s:au)(v:waA)
def IB:aB:=aZ 54 [(2,.eptr (ac e)),(3,.eptr (aN s)),(5,sl cS v)] [.dead,.dead] [((5,0),9)]
def tJ(o:waA):aB:=aZ 54 [(2,.eptr (ac e)),(5,sl cS o)] [.dead,.dead] [((5,0),9)]
def wW:Option waA:=
 if s.name=true then
  (app v ([e.Name]:List ah)).bind fun l4=>
  some l4
 else
  some v
theorem G3{x:waA}(h:wW e s v=some x):aU Pg GE 0 (cA ST 14) (EX .normal (tJ e x)) (IB e s v):=by
 have p3:=fun{sc F} (r:PS sc F)=>sv (C7 s)<|sv (Fx s)<|r
 rcases aH h with⟨c2,h⟩|⟨c2,h⟩
 ·obtain⟨l4,bl4,h⟩:=aG h
  obtain rfl:=lf h
  exact aY NM (p3<|sg 0 c2<|sv (dq e)<|sv (d8 e)<|sv (cO.mk' (v:=PVal.str) OF ([e.Name]:List ah) 1 (by kernel_rfl))<|sv (cO.ap bl4)<|eF .normal (tJ e l4))<|by kernel_rfl
 ·obtain rfl:=lf h
  exact aY NM (p3<|sg 0 c2<|eF .normal (tJ e v))<|by kernel_rfl
end
section
variable(e:af)(v:waA)
def IC:aB:=aZ 54 [(2,.eptr (ac e)),(5,sl cS v)] [.dead,.dead] [((5,0),9)]
def tK(o:Bool):aB:=aZ 54 [(2,.eptr (ac e)),(5,sl cS v),(6,.bool o)] [.dead,.dead] [((5,0),9)]
def wX:Option Bool:=
 (mz e.Params).bind fun r6=>
 (pY r6).bind fun r7=>
 if r7=true then
  some true
 else
  (lk e.Alts).bind fun r10=>
  (pY r10).bind fun r11=>
  some r11
theorem G4{x:Bool}(h:wX e=some x):aU Pg GE 0 (cA ST 30) (EX .normal (tK e v x)) (IC e v):=by
 obtain⟨r6,br6,h⟩:=aG h
 obtain⟨r7,br7,h⟩:=aG h
 have p9:=fun{sc F} (r:PS sc F)=>sv (ba e)<|sv (bh e)<|cm (rH br6)<|cm (wZ br7)<|r
 rcases aH h with⟨c8,h⟩|⟨c8,h⟩
 ·obtain rfl:=lf h
  exact aY NM (p9<|sg 5 c8<|eF .normal (tK e v true))<|by kernel_rfl
 ·obtain⟨r10,br10,h⟩:=aG h
  obtain⟨r11,br11,h⟩:=aG h
  obtain rfl:=lf h
  exact aY NM (p9<|sg 5 c8<|sv (aD e)<|sv (aE e)<|cm (CF br10)<|cm (wZ br11)<|eF .normal (tK e v r11))<|by kernel_rfl
end
section
variable(t30:waC)(t31:Int)(v:waA)(doubled:Bool)(t32:Int)
def iI:aB:=aZ 54 [(5,sl cS v),(6,.bool doubled),(30,sl aF t30),(31,.int .i64 t31),(32,.int .i64 t32)] [.dead,.dead] [((5,0),9)]
def tL(o:waA×Bool):aB:=aZ 54 [(5,sl cS o.1),(6,.bool o.2)] [.dead,.dead] [((5,0),9)]
def ga:Option ((waA×Bool×Int)⊕((waA×Bool))):=
 if(decide (t32<t31))=true then
  (fy t30 t32).bind fun x14=>
  (app v ([x14.Con]:List ah)).bind fun l15=>
  (app l15 x14.Names).bind fun l16=>
  if doubled=true then
   some (.inl (l16,true,bN (t32+1)))
  else
   (pY x14.Names).bind fun r19=>
   some (.inl (l16,r19,bN (t32+1)))
 else
  some (.inr (v,doubled))
def rI:Option ((waA×Bool)):=loop (fun(zz:waA×Bool×Int)=>ga t30 t31 zz.1 zz.2.1 zz.2.2) (v,doubled,t32)
theorem FQ{y:(waA×Bool×Int)⊕((waA×Bool))}(h:ga t30 t31 v doubled t32=some y):aU Pg GE 0 (cA ST 503) (LQ (fun(zz:waA×Bool×Int)=>iI t30 t31 zz.1 zz.2.1 zz.2.2) (fun _=>.exit 0) tL y) (iI t30 t31 v doubled t32):=by
 rcases aH h with⟨c13,h⟩|⟨c13,h⟩
 ·obtain⟨x14,bx14,h⟩:=aG h
  obtain⟨l15,bl15,h⟩:=aG h
  obtain⟨l16,bl16,h⟩:=aG h
  have p18:=fun{sc F} (r:PS sc F)=>sg 0 c13<|sv (dZ.ia (k:=.i64) bx14)<|sv (mt x14)<|sx Ip<|sx (iV x14)<|OO [0,0,2,6,15,0,32,127,255]<|ss<|sv (cO.mk' (v:=PVal.str) OF ([x14.Con]:List ah) 1 (by kernel_rfl))<|sv (cO.ap bl15)<|ss<|sv (cO.ap bl16)<|r
  rcases aH h with⟨c17,h⟩|⟨c17,h⟩
  ·obtain rfl:=lf h
   have z:=p18<|sg 2 c17<|vY 0 .normal (iI t30 t31 l16 true (bN (t32+1))) rfl (dI (aI (up (aw cy l16)) (aI trivial (aI (up (aw bE t30)) (aI trivial (aI trivial trivial)))))) (aI trivial (aI trivial trivial))
   exact eA (A:=NM) mixed z<|by kernel_rfl
  ·obtain⟨r19,br19,h⟩:=aG h
   obtain rfl:=lf h
   have z:=p18<|sg 2 c17<|ss<|cm (wZ br19)<|vY 0 .normal (iI t30 t31 l16 r19 (bN (t32+1))) rfl (dI (aI (up (aw cy l16)) (aI trivial (aI (up (aw bE t30)) (aI trivial (aI trivial trivial)))))) (aI trivial (aI trivial trivial))
   exact eA (A:=NM) mixed z<|by kernel_rfl
 ·obtain rfl:=lf h
  have z:=sg 0 c13<|eF (.exit 0) (tL (v,doubled))
  exact gu NM (by intro hx;cases hx) z<|by kernel_rfl
theorem G5{x:(waA×Bool)}(h:rI t30 t31 v doubled t32=some x):aU Pg GE 0 (.loop (cA ST 503)) (EX (.exit 0) (tL x)) (iI t30 t31 v doubled t32):=
 aU.loop (S:=fun(zz:waA×Bool×Int)=>iI t30 t31 zz.1 zz.2.1 zz.2.2) (ex:=(fun _=>.exit 0)) (s:=(v,doubled,t32)) h fun zz y hy=>FQ t30 t31 zz.1 zz.2.1 zz.2.2 hy
end
def ye(e:af)(s:au):Option Int:=
 (mz e.Params).bind fun r1=>
 (wW e s r1).bind fun o5=>
 (wX e).bind fun o12=>
 (rI e.Alts (e.Alts.length:Int) o5 o12 0).bind fun o20=>
 (fP o20.1).bind fun r21=>
 if r21=true then
  some 3
 else
  if o20.2=true then
   some 4
  else
   some 0
theorem Ls{e:af}{s:au}{r:Int}(h:ye e s=some r):CC Pg GE 119 [.agg (ac e),.agg (aN s)] (.int .i64 r) []:=by
 obtain⟨r1,br1,h⟩:=aG h
 obtain⟨o5,bo5,h⟩:=aG h
 obtain⟨o12,bo12,h⟩:=aG h
 obtain⟨o20,bo20,h⟩:=aG h
 obtain⟨r21,br21,h⟩:=aG h
 have p23:=fun{sc F} (r:PS sc F)=>se (bX e)<|se (CW s)<|sv (ba e)<|sv (bh e)<|cm (rH br1)<|nN 0<|cK (G3 e s r1 bo5)<|nN 0<|cK (G4 e o5 bo12)<|sv (aD e)<|sv (aE e)<|bF (dZ.ln e.Alts)<|cK (G5 e.Alts (e.Alts.length:Int) o5 o12 0 bo20)<|cm (uO br21)<|r
 rcases aH h with⟨c22,h⟩|⟨c22,h⟩
 ·obtain rfl:=lf h
  have z:=p23<|sg 0 c22<|en (aI (rP (.int .i64 3))<|trivial)
  exact bI NM call119 func119 (c:=ST) rfl (aI (al e) (aI (bY s) trivial)) z<|by kernel_rfl
 ·have p25:=fun{sc F} (r:PS sc F)=>p23<|sg 0 c22<|r
  rcases aH h with⟨c24,h⟩|⟨c24,h⟩
  ·obtain rfl:=lf h
   have z:=p25<|sg 0 c24<|en (aI (rP (.int .i64 4))<|trivial)
   exact bI NM call119 func119 (c:=ST) rfl (aI (al e) (aI (bY s) trivial)) z<|by kernel_rfl
  ·obtain rfl:=lf h
   have z:=p25<|sg 0 c24<|en (aI (rP (.int .i64 0))<|trivial)
   exact bI NM call119 func119 (c:=ST) rfl (aI (al e) (aI (bY s) trivial)) z<|by kernel_rfl
abbrev vb:=(ak->Option Int)
abbrev Av(R:vb):Prop:=∀(t:ak) (r:Int),R t=some r->CC Pg GE 144 [.agg (aj t)] (.int .i64 r) []
noncomputable def Y9:Code:=f144.body.getD .skip
def YS:List Nat:=[]
section
variable(R86:vb)(t7:waB)(t8:Int)(n:Int)(t9:Int)
def lY:aB:=aZ 20 [(3,.int .i64 n),(7,sl aj t7),(8,.int .i64 t8),(9,.int .i64 t9)] [.dead] []
def u5(o:Int):aB:=aZ 20 [(3,.int .i64 o)] [.dead] []
def BT:Option ((Int×Int)⊕(Int)):=
 if(decide (t9<t8))=true then
  (fy t7 t9).bind fun x2=>
  (R86 x2).bind fun r3=>
  some (.inl ((if r3>n then r3 else n),bN (t9+1)))
 else
  some (.inr n)
def EO:Option Int:=loop (fun(zz:Int×Int)=>BT R86 t7 t8 zz.1 zz.2) (n,t9)
theorem He(hR86:Av R86){y:(Int×Int)⊕(Int)}(h:BT R86 t7 t8 n t9=some y):aU Pg GE 0 (cA Y9 119) (LQ (fun(zz:Int×Int)=>lY t7 t8 zz.1 zz.2) (fun _=>.exit 0) u5 y) (lY t7 t8 n t9):=by
 rcases aH h with⟨c1,h⟩|⟨c1,h⟩
 ·obtain⟨x2,bx2,h⟩:=aG h
  obtain⟨r3,br3,h⟩:=aG h
  obtain rfl:=lf h
  have z:=sg 0 c1<|sv (db.ia (k:=.i64) bx2)<|sv (fZ x2)<|sx QY<|sx (pR x2)<|sv (jr x2 [])<|cm (hR86 _ _ br3)<|vY 0 .normal (lY t7 t8 (if r3>n then r3 else n) (bN (t9+1))) rfl (dI (aI trivial (aI (up (aw aO t7)) (aI trivial (aI trivial trivial))))) (aI trivial trivial)
  exact eA (A:=YS) mixed z<|by kernel_rfl
 ·obtain rfl:=lf h
  have z:=sg 0 c1<|eF (.exit 0) (u5 n)
  exact gu YS (by intro hx;cases hx) z<|by kernel_rfl
theorem IJ(hR86:Av R86){x:Int}(h:EO R86 t7 t8 n t9=some x):aU Pg GE 0 (.loop (cA Y9 119)) (EX (.exit 0) (u5 x)) (lY t7 t8 n t9):=
 aU.loop (S:=fun(zz:Int×Int)=>lY t7 t8 zz.1 zz.2) (ex:=(fun _=>.exit 0)) (s:=(n,t9)) h fun zz y hy=>He R86 t7 t8 zz.1 zz.2 hR86 hy
end
def Gk(R86:vb)(t:ak):Option Int:=
 (EO R86 t.Args (t.Args.length:Int) 0 0).bind fun o4=>
 some (bN (o4+1))
theorem Lt(R86:vb)(hR86:Av R86){t:ak}{r:Int}(h:Gk R86 t=some r):CC Pg GE 144 [.agg (aj t)] (.int .i64 r) []:=by
 obtain⟨o4,bo4,h⟩:=aG h
 obtain rfl:=lf h
 have z:=se (kF t)<|sv (bO t)<|sv (bP t)<|bF (db.ln t.Args)<|cK (IJ R86 t.Args (t.Args.length:Int) 0 0 hR86 bo4)<|en (aI (rP (.int .i64 (bN (o4+1))))<|trivial)
 exact bI YS call144 func144 (c:=Y9) rfl (aI (aO t) trivial) z<|by kernel_rfl
def A5:(ak->Option Int)->(ak)->Option Int:=fun(rec:ak->Option Int) (x:ak)=>Gk (fun t=>rec t) x
def Au(t:ak):Option Int:=sS A5 t
theorem NJ{t:ak}{r:Int}(h:Au t=some r):CC Pg GE 144 [.agg (aj t)] (.int .i64 r) []:=
 eg (F:=A5) (M:=fun(x:ak) (r:Int)=>CC Pg GE 144 [.agg (aj x)] (.int .i64 r) []) (fun rec hrec x r h=>Lt _ (fun t r h=>hrec t r h) h) h
end Go.Proofs.YtkdahfeiedaahaaGreatDoor
