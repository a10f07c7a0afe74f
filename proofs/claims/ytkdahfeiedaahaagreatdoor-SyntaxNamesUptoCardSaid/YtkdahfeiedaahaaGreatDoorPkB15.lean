/- PROVED: a part of the proof. Conditions: none. -/
import Derived.Test.YtkdahfeiedaahaaGreatDoorPkB14
noncomputable section
namespace Go.Proofs.YtkdahfeiedaahaaGreatDoor
open Go Go.Proofs.Tryz
set_option linter.unusedVariables false
set_option maxRecDepth 100000
noncomputable def Vr:Code:=f84.body.getD .skip
def Va:List Nat:=[12,18]
section
variable(t6:waC)(t7:Int)(out:waA)(t8:Int)
def eC:az:=aZ 19 [(3,sl cS out),(6,sl aA t6),(7,.int .i64 t7),(8,.int .i64 t8)] [] [((3,0),9)]
def jN(o:waA):az:=aZ 19 [(3,sl cS o)] [] [((3,0),9)]
def cQ:Option ((waA×Int)⊕(waA)):=
 if(decide (t8<t7))=true then
  (fO t6 t8).bind fun x2=>
  (app out ([x2.Con]:List ag)).bind fun l3=>
  some (.inl (l3,bZ (t8+1)))
 else
  some (.inr out)
def il:Option waA:=loop (fun(zz:waA×Int)=>cQ t6 t7 zz.1 zz.2) (out,t8)
theorem uq{y:(waA×Int)⊕(waA)}(h:cQ t6 t7 out t8=some y):aP Pg GE 0 (cA Vr 119) (LQ (fun(zz:waA×Int)=>eC t6 t7 zz.1 zz.2) (fun _=>.exit 0) jN y) (eC t6 t7 out t8):=by
 rcases aN h with⟨c1,h⟩|⟨c1,h⟩
 ·obtain⟨x2,bx2,h⟩:=aG h
  obtain⟨l3,bl3,h⟩:=aG h
  obtain rfl:=lf h
  have z:=sg 0 c1<|sv (ea.ia (k:=.i64) bx2)<|sv (ku x2)<|sx D2<|sx (hX x2)<|ss<|sv (ch.mk' (v:=PVal.str) E7 ([x2.Con]:List ag) 1 (by kernel_rfl))<|sv (ch.ap bl3)<|sK 0 .normal (eC t6 t7 l3 (bZ (t8+1))) rfl (dF (aI (up (aj bD l3)) (aI (up (aj bL t6)) (aI trivial (aI trivial trivial))))) trivial
  exact dZ (A:=Va) mixed z<|by kernel_rfl
 ·obtain rfl:=lf h
  have z:=sg 0 c1<|eF (.exit 0) (jN out)
  exact iZ Va (by intro hx;cases hx) z<|by kernel_rfl
theorem uG{x:waA}(h:il t6 t7 out t8=some x):aP Pg GE 0 (.loop (cA Vr 119)) (EX (.exit 0) (jN x)) (eC t6 t7 out t8):=
 aP.loop (S:=fun(zz:waA×Int)=>eC t6 t7 zz.1 zz.2) (ex:=(fun _=>.exit 0)) (s:=(out,t8)) h fun zz y hy=>uq t6 t7 zz.1 zz.2 hy
end
def hZ(a:waC):Option waA:=
 (il a (a.length:Int) ([]:List ag) 0).bind fun o4=>
 some o4
theorem pK{a:waC}{r:waA}(h:hZ a=some r):CC Pg GE 84 [sl aA a] (sl cS r) [(0,9)]:=by
 obtain⟨o4,bo4,h⟩:=aG h
 obtain rfl:=lf h
 have z:=bW (ea.ln a)<|cU (uG a (a.length:Int) ([]:List ag) 0 bo4)<|en (aI (rP (sl cS o4))<|(aj bD o4))
 exact cC Va call84 func84 (c:=Vr) rfl (aI (aj bL a) trivial) z<|by kernel_rfl
noncomputable def Rz:Code:=f160.body.getD .skip
def PL:List Nat:=[23]
section
variable(s:ag)(i:Int)
def mn:az:=aZ 24 [(0,.str s),(5,.int .i64 i)] [] []
def mo(o:(ag×ag)⊕(Unit)):Exit:=match o with
 |(.inl _)=>.ret
 |(.inr _)=>.exit 0
def j2(o:(ag×ag)⊕(Unit)):az:=match o with
 |(.inl o)=>aZ 24 [(2,.str o.1),(3,.str o.2),(4,.bool true)] [] []
 |(.inr o)=>aZ 24 [(0,.str s)] [] []
def zJ:Option (Int⊕((ag×ag)⊕(Unit))):=
 if(decide (i<(s.length:Int)))=true then
  (AV s i).bind fun c2=>
  if(c2==46)=true then
   (Sc s none (some i)).bind fun s5=>
   (Sc s (some (bZ (i+1))) none).bind fun s6=>
   some (.inr (.inl (s5,s6)))
  else
   some (.inl (bZ (i+1)))
 else
  some (.inr (.inr ()))
def DJ:Option ((ag×ag)⊕(Unit)):=loop (fun(zz:Int)=>zJ s zz) i
theorem EV{y:Int⊕((ag×ag)⊕(Unit))}(h:zJ s i=some y):aP Pg GE 0 (cA Rz 55) (LQ (fun(zz:Int)=>mn s zz) mo (j2 s) y) (mn s i):=by
 rcases aN h with⟨c1,h⟩|⟨c1,h⟩
 ·obtain⟨c2,bc2,h⟩:=aG h
  have p4:=fun{sc F} (r:PS sc F)=>bW (pF underlying9 s)<|sg 0 c1<|sv (vD (k:=.i64) underlying9 bc2)<|r
  rcases aN h with⟨c3,h⟩|⟨c3,h⟩
  ·obtain⟨s5,bs5,h⟩:=aG h
   obtain⟨s6,bs6,h⟩:=aG h
   obtain rfl:=lf h
   have z:=p4<|sg 0 c3<|IS [0,0,3,0,0,16,56,7,255,511]<|sv (Sw underlying9 bs5)<|sv (Sw underlying9 bs6)<|eF (mo (.inl (s5,s6))) (j2 s (.inl (s5,s6)))
   exact iZ PL (by intro hx;cases hx) z<|by kernel_rfl
  ·obtain rfl:=lf h
   exact xO PL (p4<|sg 0 c3<|eF .normal (mn s (bZ (i+1))))<|by kernel_rfl
 ·obtain rfl:=lf h
  have z:=bW (pF underlying9 s)<|sg 0 c1<|eF (mo (.inr ())) (j2 s (.inr ()))
  exact iZ PL (by intro hx;cases hx) z<|by kernel_rfl
theorem ym{x:(ag×ag)⊕(Unit)}(h:DJ s i=some x):aP Pg GE 0 (.loop (cA Rz 55)) (EX (mo x) (j2 s x)) (mn s i):=
 aP.loop (S:=fun(zz:Int)=>mn s zz) (ex:=mo) (s:=i) h fun zz y hy=>EV s zz hy
end
def EU(s:ag):Option (ag×ag×Bool):=
 (DJ s 0).bind fun o7=>match o7 with
 |(.inl o7)=>
  some (o7.1,o7.2,true)
 |(.inr o7)=>
  some (s,([]:ag),false)
theorem DK{s:ag}{r:ag×ag×Bool}(h:EU s=some r):CC Pg GE 160 [.str s] (.tuple [.str r.1,.str r.2.1,.bool r.2.2]) []:=by
 obtain⟨o7,bo7,h⟩:=aG h
 rcases o7 with o7|o7
 ·obtain rfl:=lf h
  have z:=cU (e:=.ret) (s1:=j2 s (.inl o7)) (ym s 0 bo7)<|en (aI (rP (.tuple [.str o7.1,.str o7.2,.bool true]))<|(aI trivial (aI trivial (aI trivial trivial))))
  exact cC PL call160 func160 (c:=Rz) rfl (aI trivial trivial) z<|by kernel_rfl
 ·obtain rfl:=lf h
  have z:=cU (e:=.exit 0) (s1:=j2 s (.inr o7)) (ym s 0 bo7)<|en (aI (rP (.tuple [.str s,.str ([]:ag),.bool false]))<|(aI trivial (aI trivial (aI trivial trivial))))
  exact cC PL call160 func160 (c:=Rz) rfl (aI trivial trivial) z<|by kernel_rfl
noncomputable def TY:Code:=f163.body.getD .skip
def TE:List Nat:=[]
def vq(s:ag):Option Bool:=
 if(decide ((s.length:Int)>=1))=true then
  some (decide ((s.length:Int)<=24))
 else
  some false
theorem j3{s:ag}{r:Bool}(h:vq s=some r):CC Pg GE 163 [.str s] (.bool r) []:=by
 rcases aN h with⟨c1,h⟩|⟨c1,h⟩
 ·obtain rfl:=lf h
  have z:=bW (pF underlying9 s)<|sg 4 c1<|bW (pF underlying9 s)<|en (aI (rP (.bool (decide ((s.length:Int)<=24))))<|trivial)
  exact cC TE call163 func163 (c:=TY) rfl (aI trivial trivial) z<|by kernel_rfl
 ·obtain rfl:=lf h
  have z:=bW (pF underlying9 s)<|sg 4 c1<|en (aI (rP (.bool false))<|trivial)
  exact cC TE call163 func163 (c:=TY) rfl (aI trivial trivial) z<|by kernel_rfl
noncomputable def TZ:Code:=f186.body.getD .skip
def TF:List Nat:=[]
def rF(c:Int):Option Bool:=
 if(decide (97<=c))=true then
  some (decide (c<=122))
 else
  some false
theorem pr{c:Int}{r:Bool}(h:rF c=some r):CC Pg GE 186 [.int .u8 c] (.bool r) []:=by
 rcases aN h with⟨c1,h⟩|⟨c1,h⟩
 ·obtain rfl:=lf h
  have z:=sg 3 c1<|en (aI (rP (.bool (decide (c<=122))))<|trivial)
  exact cC TF call186 func186 (c:=TZ) rfl (aI trivial trivial) z<|by kernel_rfl
 ·obtain rfl:=lf h
  have z:=sg 3 c1<|en (aI (rP (.bool false))<|trivial)
  exact cC TF call186 func186 (c:=TZ) rfl (aI trivial trivial) z<|by kernel_rfl
noncomputable def RA:Code:=f187.body.getD .skip
def PM:List Nat:=[]
section
variable(s:ag)(t6:Int)
def iK:az:=aZ 13 [(0,.str s),(5,.agg (iM.map PVal.str)),(6,.int .i64 t6)] [] []
def iL(o:Unit⊕(Unit)):Exit:=match o with
 |(.inl _)=>.ret
 |(.inr _)=>.exit 0
def f9(o:Unit⊕(Unit)):az:=match o with
 |(.inl o)=>aZ 13 [(2,.bool true)] [] []
 |(.inr o)=>aZ 13 [] [] []
def tX:Option (Int⊕(Unit⊕(Unit))):=
 if(decide (t6<42))=true then
  (fO iM t6).bind fun x2=>
  if(x2==s)=true then
   some (.inr (.inl ()))
  else
   some (.inl (bZ (t6+1)))
 else
  some (.inr (.inr ()))
def wH:Option (Unit⊕(Unit)):=loop (fun(zz:Int)=>tX s zz) t6
theorem zI{y:Int⊕(Unit⊕(Unit))}(h:tX s t6=some y):aP Pg GE 0 (cA RA 55) (LQ (fun(zz:Int)=>iK s zz) iL f9 y) (iK s t6):=by
 rcases aN h with⟨c1,h⟩|⟨c1,h⟩
 ·obtain⟨x2,bx2,h⟩:=aG h
  have p4:=fun{sc F} (r:PS sc F)=>sg 0 c1<|sv (DL (k:=.i64) bx2)<|r
  rcases aN h with⟨c3,h⟩|⟨c3,h⟩
  ·obtain rfl:=lf h
   have z:=p4<|sg 0 c3<|eF (iL (.inl ())) (f9 (.inl ()))
   exact iZ PM (by intro hx;cases hx) z<|by kernel_rfl
  ·obtain rfl:=lf h
   exact xO PM (p4<|sg 0 c3<|eF .normal (iK s (bZ (t6+1))))<|by kernel_rfl
 ·obtain rfl:=lf h
  have z:=sg 0 c1<|eF (iL (.inr ())) (f9 (.inr ()))
  exact iZ PM (by intro hx;cases hx) z<|by kernel_rfl
theorem sP{x:Unit⊕(Unit)}(h:wH s t6=some x):aP Pg GE 0 (.loop (cA RA 55)) (EX (iL x) (f9 x)) (iK s t6):=
 aP.loop (S:=fun(zz:Int)=>iK s zz) (ex:=iL) (s:=t6) h fun zz y hy=>zI s zz hy
end
def BM(s:ag):Option Bool:=
 (wH s 0).bind fun o5=>match o5 with
 |(.inl o5)=>
  some true
 |(.inr o5)=>
  some false
theorem ET{s:ag}{r:Bool}(h:BM s=some r):CC Pg GE 187 [.str s] (.bool r) []:=by
 obtain⟨o5,bo5,h⟩:=aG h
 rcases o5 with o5|o5
 ·obtain rfl:=lf h
  have z:=sv vp<|cU (e:=.ret) (s1:=f9 (.inl o5)) (sP s 0 bo5)<|en (aI (rP (.bool true))<|trivial)
  exact cC PM call187 func187 (c:=RA) rfl (aI trivial trivial) z<|by kernel_rfl
 ·obtain rfl:=lf h
  have z:=sv vp<|cU (e:=.exit 0) (s1:=f9 (.inr o5)) (sP s 0 bo5)<|en (aI (rP (.bool false))<|trivial)
  exact cC PM call187 func187 (c:=RA) rfl (aI trivial trivial) z<|by kernel_rfl
noncomputable def T0:Code:=f188.body.getD .skip
def TG:List Nat:=[]
def vo(c:Int):Option Bool:=
 if(decide (48<=c))=true then
  some (decide (c<=57))
 else
  some false
theorem tY{c:Int}{r:Bool}(h:vo c=some r):CC Pg GE 188 [.int .u8 c] (.bool r) []:=by
 rcases aN h with⟨c1,h⟩|⟨c1,h⟩
 ·obtain rfl:=lf h
  have z:=sg 3 c1<|en (aI (rP (.bool (decide (c<=57))))<|trivial)
  exact cC TG call188 func188 (c:=T0) rfl (aI trivial trivial) z<|by kernel_rfl
 ·obtain rfl:=lf h
  have z:=sg 3 c1<|en (aI (rP (.bool false))<|trivial)
  exact cC TG call188 func188 (c:=T0) rfl (aI trivial trivial) z<|by kernel_rfl
noncomputable def M5:Code:=f161.body.getD .skip
def Ge:List Nat:=[]
section
variable(s:ag)
def GM:az:=aZ 41 [(0,.str s)] [] []
def n7(o:Bool):az:=aZ 41 [(0,.str s),(16,.bool o)] [] []
def BN:Option Bool:=
 (vq s).bind fun r1=>
 if(!r1)=true then
  some true
 else
  (AV s 0).bind fun c3=>
  (rF c3).bind fun r4=>
  if(!r4)=true then
   some true
  else
   (BM s).bind fun r7=>
   some r7
theorem EW{x:Bool}(h:BN s=some x):aP Pg GE 0 (cA M5 12) (EX .normal (n7 s x)) (GM s):=by
 obtain⟨r1,br1,h⟩:=aG h
 rcases aN h with⟨c2,h⟩|⟨c2,h⟩
 ·obtain rfl:=lf h
  exact bk Ge (cH (j3 br1)<|sg 4 c2<|eF .normal (n7 s true))<|by kernel_rfl
 ·obtain⟨c3,bc3,h⟩:=aG h
  obtain⟨r4,br4,h⟩:=aG h
  have p6:=fun{sc F} (r:PS sc F)=>cH (j3 br1)<|sg 4 c2<|sv (vD (k:=.i64) underlying9 bc3)<|cH (pr br4)<|r
  rcases aN h with⟨c5,h⟩|⟨c5,h⟩
  ·obtain rfl:=lf h
   exact bk Ge (p6<|sg 10 c5<|eF .normal (n7 s true))<|by kernel_rfl
  ·obtain⟨r7,br7,h⟩:=aG h
   obtain rfl:=lf h
   exact bk Ge (p6<|sg 10 c5<|cH (ET br7)<|eF .normal (n7 s r7))<|by kernel_rfl
end
section
variable(s:ag)(i:Int)
def GN:az:=aZ 41 [(0,.str s),(3,.int .i64 i)] [] []
def n8(o:Bool):az:=aZ 41 [(0,.str s),(3,.int .i64 i),(40,.bool o)] [] []
def BO:Option Bool:=
 (AV s i).bind fun c12=>
 (rF c12).bind fun r13=>
 if(!r13)=true then
  (AV s i).bind fun c16=>
  (vo c16).bind fun r17=>
  if(!r17)=true then
   (AV s i).bind fun c20=>
   some (c20 !=95)
  else
   some false
 else
  some false
theorem EY{x:Bool}(h:BO s i=some x):aP Pg GE 0 (cA M5 1914) (EX .normal (n8 s i x)) (GN s i):=by
 obtain⟨c12,bc12,h⟩:=aG h
 obtain⟨r13,br13,h⟩:=aG h
 have p15:=fun{sc F} (r:PS sc F)=>sv (vD (k:=.i64) underlying9 bc12)<|cH (pr br13)<|r
 rcases aN h with⟨c14,h⟩|⟨c14,h⟩
 ·obtain⟨c16,bc16,h⟩:=aG h
  obtain⟨r17,br17,h⟩:=aG h
  have p19:=fun{sc F} (r:PS sc F)=>p15<|sg 6 c14<|sv (vD (k:=.i64) underlying9 bc16)<|cH (tY br17)<|r
  rcases aN h with⟨c18,h⟩|⟨c18,h⟩
  ·obtain⟨c20,bc20,h⟩:=aG h
   obtain rfl:=lf h
   exact bk Ge (p19<|sg 13 c18<|sv (vD (k:=.i64) underlying9 bc20)<|eF .normal (n8 s i (c20 !=95)))<|by kernel_rfl
  ·obtain rfl:=lf h
   exact bk Ge (p19<|sg 13 c18<|eF .normal (n8 s i false))<|by kernel_rfl
 ·obtain rfl:=lf h
  exact bk Ge (p15<|sg 6 c14<|eF .normal (n8 s i false))<|by kernel_rfl
end
section
variable(s:ag)(i:Int)
def kK:az:=aZ 41 [(0,.str s),(3,.int .i64 i)] [] []
def kL(o:Unit⊕(Unit)):Exit:=match o with
 |(.inl _)=>.ret
 |(.inr _)=>.exit 0
def jh(o:Unit⊕(Unit)):az:=match o with
 |(.inl o)=>aZ 41 [(2,.bool false)] [] []
 |(.inr o)=>aZ 41 [] [] []
def yn:Option (Int⊕(Unit⊕(Unit))):=
 if(decide (i<(s.length:Int)))=true then
  (BO s i).bind fun o21=>
  if o21=true then
   some (.inr (.inl ()))
  else
   some (.inl (bZ (i+1)))
 else
  some (.inr (.inr ()))
def BP:Option (Unit⊕(Unit)):=loop (fun(zz:Int)=>yn s zz) i
theorem DM{y:Int⊕(Unit⊕(Unit))}(h:yn s i=some y):aP Pg GE 0 (cA M5 119) (LQ (fun(zz:Int)=>kK s zz) kL jh y) (kK s i):=by
 rcases aN h with⟨c11,h⟩|⟨c11,h⟩
 ·obtain⟨o21,bo21,h⟩:=aG h
  have p23:=fun{sc F} (r:PS sc F)=>bW (pF underlying9 s)<|sg 0 c11<|oz 1<|cU (EY s i bo21)<|r
  rcases aN h with⟨c22,h⟩|⟨c22,h⟩
  ·obtain rfl:=lf h
   have z:=p23<|sg 0 c22<|eF (kL (.inl ())) (jh (.inl ()))
   exact iZ Ge (by intro hx;cases hx) z<|by kernel_rfl
  ·obtain rfl:=lf h
   exact xO Ge (p23<|sg 0 c22<|eF .normal (kK s (bZ (i+1))))<|by kernel_rfl
 ·obtain rfl:=lf h
  have z:=bW (pF underlying9 s)<|sg 0 c11<|eF (kL (.inr ())) (jh (.inr ()))
  exact iZ Ge (by intro hx;cases hx) z<|by kernel_rfl
theorem wK{x:Unit⊕(Unit)}(h:BP s i=some x):aP Pg GE 0 (.loop (cA M5 119)) (EX (kL x) (jh x)) (kK s i):=
 aP.loop (S:=fun(zz:Int)=>kK s zz) (ex:=kL) (s:=i) h fun zz y hy=>DM s zz hy
end
def Im(s:ag):Option Bool:=
 (BN s).bind fun o8=>
 if o8=true then
  some false
 else
  (BP s 1).bind fun o24=>match o24 with
  |(.inl o24)=>
   some false
  |(.inr o24)=>
   some true
theorem BQ{s:ag}{r:Bool}(h:Im s=some r):CC Pg GE 161 [.str s] (.bool r) []:=by
 obtain⟨o8,bo8,h⟩:=aG h
 have p10:=fun{sc F} (r:PS sc F)=>oz 2<|cU (EW s bo8)<|r
 rcases aN h with⟨c9,h⟩|⟨c9,h⟩
 ·obtain rfl:=lf h
  have z:=p10<|sg 0 c9<|en (aI (rP (.bool false))<|trivial)
  exact cC Ge call161 func161 (c:=M5) rfl (aI trivial trivial) z<|by kernel_rfl
 ·obtain⟨o24,bo24,h⟩:=aG h
  rcases o24 with o24|o24
  ·obtain rfl:=lf h
   have z:=p10<|sg 0 c9<|cU (e:=.ret) (s1:=jh (.inl o24)) (wK s 1 bo24)<|en (aI (rP (.bool false))<|trivial)
   exact cC Ge call161 func161 (c:=M5) rfl (aI trivial trivial) z<|by kernel_rfl
  ·obtain rfl:=lf h
   have z:=p10<|sg 0 c9<|cU (e:=.exit 0) (s1:=jh (.inr o24)) (wK s 1 bo24)<|en (aI (rP (.bool true))<|trivial)
   exact cC Ge call161 func161 (c:=M5) rfl (aI trivial trivial) z<|by kernel_rfl
noncomputable def T1:Code:=f189.body.getD .skip
def TH:List Nat:=[]
def wk(c:Int):Option Bool:=
 if(decide (65<=c))=true then
  some (decide (c<=90))
 else
  some false
theorem wJ{c:Int}{r:Bool}(h:wk c=some r):CC Pg GE 189 [.int .u8 c] (.bool r) []:=by
 rcases aN h with⟨c1,h⟩|⟨c1,h⟩
 ·obtain rfl:=lf h
  have z:=sg 3 c1<|en (aI (rP (.bool (decide (c<=90))))<|trivial)
  exact cC TH call189 func189 (c:=T1) rfl (aI trivial trivial) z<|by kernel_rfl
 ·obtain rfl:=lf h
  have z:=sg 3 c1<|en (aI (rP (.bool false))<|trivial)
  exact cC TH call189 func189 (c:=T1) rfl (aI trivial trivial) z<|by kernel_rfl
noncomputable def P2:Code:=f164.body.getD .skip
def LM:List Nat:=[]
section
variable(s:ag)(i:Int)
def wI:az:=aZ 29 [(0,.str s),(3,.int .i64 i)] [] []
def gS(o:Bool):az:=aZ 29 [(0,.str s),(3,.int .i64 i),(28,.bool o)] [] []
def qn:Option Bool:=
 (AV s i).bind fun c2=>
 (rF c2).bind fun r3=>
 if(!r3)=true then
  (AV s i).bind fun c6=>
  (wk c6).bind fun r7=>
  if(!r7)=true then
   (AV s i).bind fun c10=>
   (vo c10).bind fun r11=>
   some (!r11)
  else
   some false
 else
  some false
theorem wj{x:Bool}(h:qn s i=some x):aP Pg GE 0 (cA P2 890) (EX .normal (gS s i x)) (wI s i):=by
 obtain⟨c2,bc2,h⟩:=aG h
 obtain⟨r3,br3,h⟩:=aG h
 have p5:=fun{sc F} (r:PS sc F)=>sv (vD (k:=.i64) underlying9 bc2)<|cH (pr br3)<|r
 rcases aN h with⟨c4,h⟩|⟨c4,h⟩
 ·obtain⟨c6,bc6,h⟩:=aG h
  obtain⟨r7,br7,h⟩:=aG h
  have p9:=fun{sc F} (r:PS sc F)=>p5<|sg 6 c4<|sv (vD (k:=.i64) underlying9 bc6)<|cH (wJ br7)<|r
  rcases aN h with⟨c8,h⟩|⟨c8,h⟩
  ·obtain⟨c10,bc10,h⟩:=aG h
   obtain⟨r11,br11,h⟩:=aG h
   obtain rfl:=lf h
   exact bk LM (p9<|sg 13 c8<|sv (vD (k:=.i64) underlying9 bc10)<|cH (tY br11)<|eF .normal (gS s i (!r11)))<|by kernel_rfl
  ·obtain rfl:=lf h
   exact bk LM (p9<|sg 13 c8<|eF .normal (gS s i false))<|by kernel_rfl
 ·obtain rfl:=lf h
  exact bk LM (p5<|sg 6 c4<|eF .normal (gS s i false))<|by kernel_rfl
end
section
variable(s:ag)(i:Int)
def e7:az:=aZ 29 [(0,.str s),(3,.int .i64 i)] [] []
def e8(o:Unit⊕(Unit)):Exit:=match o with
 |(.inl _)=>.ret
 |(.inr _)=>.exit 0
def d6(o:Unit⊕(Unit)):az:=match o with
 |(.inl o)=>aZ 29 [(2,.bool false)] [] []
 |(.inr o)=>aZ 29 [] [] []
def oG:Option (Int⊕(Unit⊕(Unit))):=
 if(decide (i<(s.length:Int)))=true then
  (qn s i).bind fun o12=>
  if o12=true then
   some (.inr (.inl ()))
  else
   some (.inl (bZ (i+1)))
 else
  some (.inr (.inr ()))
def qo:Option (Unit⊕(Unit)):=loop (fun(zz:Int)=>oG s zz) i
theorem uC{y:Int⊕(Unit⊕(Unit))}(h:oG s i=some y):aP Pg GE 0 (cA P2 55) (LQ (fun(zz:Int)=>e7 s zz) e8 d6 y) (e7 s i):=by
 rcases aN h with⟨c1,h⟩|⟨c1,h⟩
 ·obtain⟨o12,bo12,h⟩:=aG h
  have p14:=fun{sc F} (r:PS sc F)=>bW (pF underlying9 s)<|sg 0 c1<|oz 1<|cU (wj s i bo12)<|r
  rcases aN h with⟨c13,h⟩|⟨c13,h⟩
  ·obtain rfl:=lf h
   have z:=p14<|sg 0 c13<|eF (e8 (.inl ())) (d6 (.inl ()))
   exact iZ LM (by intro hx;cases hx) z<|by kernel_rfl
  ·obtain rfl:=lf h
   exact xO LM (p14<|sg 0 c13<|eF .normal (e7 s (bZ (i+1))))<|by kernel_rfl
 ·obtain rfl:=lf h
  have z:=bW (pF underlying9 s)<|sg 0 c1<|eF (e8 (.inr ())) (d6 (.inr ()))
  exact iZ LM (by intro hx;cases hx) z<|by kernel_rfl
theorem nI{x:Unit⊕(Unit)}(h:qo s i=some x):aP Pg GE 0 (.loop (cA P2 55)) (EX (e8 x) (d6 x)) (e7 s i):=
 aP.loop (S:=fun(zz:Int)=>e7 s zz) (ex:=e8) (s:=i) h fun zz y hy=>uC s zz hy
end
def oq(s:ag):Option Bool:=
 (qo s 0).bind fun o15=>match o15 with
 |(.inl o15)=>
  some false
 |(.inr o15)=>
  some true
theorem qp{s:ag}{r:Bool}(h:oq s=some r):CC Pg GE 164 [.str s] (.bool r) []:=by
 obtain⟨o15,bo15,h⟩:=aG h
 rcases o15 with o15|o15
 ·obtain rfl:=lf h
  have z:=cU (e:=.ret) (s1:=d6 (.inl o15)) (nI s 0 bo15)<|en (aI (rP (.bool false))<|trivial)
  exact cC LM call164 func164 (c:=P2) rfl (aI trivial trivial) z<|by kernel_rfl
 ·obtain rfl:=lf h
  have z:=cU (e:=.exit 0) (s1:=d6 (.inr o15)) (nI s 0 bo15)<|en (aI (rP (.bool true))<|trivial)
  exact cC LM call164 func164 (c:=P2) rfl (aI trivial trivial) z<|by kernel_rfl
noncomputable def OG:Code:=f162.body.getD .skip
def LL:List Nat:=[]
section
variable(s:ag)
def EZ:az:=aZ 31 [(0,.str s)] [] []
def mG(o:Bool):az:=aZ 31 [(0,.str s),(16,.bool o)] [] []
def zK:Option Bool:=
 (vq s).bind fun r1=>
 if(!r1)=true then
  some true
 else
  (AV s 0).bind fun c3=>
  (wk c3).bind fun r4=>
  if(!r4)=true then
   some true
  else
   (oq s).bind fun r7=>
   some (!r7)
theorem DN{x:Bool}(h:zK s=some x):aP Pg GE 0 (cA OG 12) (EX .normal (mG s x)) (EZ s):=by
 obtain⟨r1,br1,h⟩:=aG h
 rcases aN h with⟨c2,h⟩|⟨c2,h⟩
 ·obtain rfl:=lf h
  exact bk LL (cH (j3 br1)<|sg 4 c2<|eF .normal (mG s true))<|by kernel_rfl
 ·obtain⟨c3,bc3,h⟩:=aG h
  obtain⟨r4,br4,h⟩:=aG h
  have p6:=fun{sc F} (r:PS sc F)=>cH (j3 br1)<|sg 4 c2<|sv (vD (k:=.i64) underlying9 bc3)<|cH (wJ br4)<|r
  rcases aN h with⟨c5,h⟩|⟨c5,h⟩
  ·obtain rfl:=lf h
   exact bk LL (p6<|sg 10 c5<|eF .normal (mG s true))<|by kernel_rfl
  ·obtain⟨r7,br7,h⟩:=aG h
   obtain rfl:=lf h
   exact bk LL (p6<|sg 10 c5<|cH (qp br7)<|eF .normal (mG s (!r7)))<|by kernel_rfl
end
def FW(s:ag):Option Bool:=
 (zK s).bind fun o8=>
 if o8=true then
  some false
 else
  if (!(s == ([73,110,116]:ag))) = true then
   if(!(s==([66,111,111,108]:ag)))=true then
    if(!(s==([67,101,108,108]:ag)))=true then
     some (!(s==([70,117,110]:ag)))
    else
     some false
   else
    some false
  else
   some false
theorem Io{s:ag}{r:Bool}(h:FW s=some r):CC Pg GE 162 [.str s] (.bool r) []:=by
 obtain⟨o8,bo8,h⟩:=aG h
 have p10:=fun{sc F} (r:PS sc F)=>oz 2<|cU (DN s bo8)<|r
 rcases aN h with⟨c9,h⟩|⟨c9,h⟩
 ·obtain rfl:=lf h
  have z:=p10<|sg 0 c9<|en (aI (rP (.bool false))<|trivial)
  exact cC LL call162 func162 (c:=OG) rfl (aI trivial trivial) z<|by kernel_rfl
 ·have p12:=fun{sc F} (r:PS sc F)=>p10<|sg 0 c9<|r
  rcases aN h with⟨c11,h⟩|⟨c11,h⟩
  ·have p14:=fun{sc F} (r:PS sc F)=>p12<|sg 3 c11<|r
   rcases aN h with⟨c13,h⟩|⟨c13,h⟩
   ·have p16:=fun{sc F} (r:PS sc F)=>p14<|sg 7 c13<|r
    rcases aN h with⟨c15,h⟩|⟨c15,h⟩
    ·obtain rfl:=lf h
     have z:=p16<|sg 11 c15<|en (aI (rP (.bool (!(s==([70,117,110]:ag)))))<|trivial)
     exact cC LL call162 func162 (c:=OG) rfl (aI trivial trivial) z<|by kernel_rfl
    ·obtain rfl:=lf h
     have z:=p16<|sg 11 c15<|en (aI (rP (.bool false))<|trivial)
     exact cC LL call162 func162 (c:=OG) rfl (aI trivial trivial) z<|by kernel_rfl
   ·obtain rfl:=lf h
    have z:=p14<|sg 7 c13<|en (aI (rP (.bool false))<|trivial)
    exact cC LL call162 func162 (c:=OG) rfl (aI trivial trivial) z<|by kernel_rfl
  ·obtain rfl:=lf h
   have z:=p12<|sg 3 c11<|en (aI (rP (.bool false))<|trivial)
   exact cC LL call162 func162 (c:=OG) rfl (aI trivial trivial) z<|by kernel_rfl
noncomputable def P3:Code:=f165.body.getD .skip
def KF:List Nat:=[]
section
variable(s:ag)(i:Int)
def GO:az:=aZ 32 [(0,.str s),(3,.int .i64 i)] [] []
def kM(o:Bool):az:=aZ 32 [(0,.str s),(3,.int .i64 i),(31,.bool o)] [] []
def BS:Option Bool:=
 (AV s i).bind fun c2=>
 (rF c2).bind fun r3=>
 if (!r3) = true then
  if(i==0)=true then
   some true
  else
   (AV s i).bind fun c8=>
   (vo c8).bind fun r9=>
   if(!r9)=true then
    (AV s i).bind fun c12=>
    some (c12 !=95)
   else
    some false
 else
  some false
theorem E0{x:Bool}(h:BS s i=some x):aP Pg GE 0 (cA P3 890) (EX .normal (kM s i x)) (GO s i):=by
 obtain⟨c2,bc2,h⟩:=aG h
 obtain⟨r3,br3,h⟩:=aG h
 have p5:=fun{sc F} (r:PS sc F)=>sv (vD (k:=.i64) underlying9 bc2)<|cH (pr br3)<|r
 rcases aN h with⟨c4,h⟩|⟨c4,h⟩
 ·have p7:=fun{sc F} (r:PS sc F)=>p5<|sg 6 c4<|r
  rcases aN h with⟨c6,h⟩|⟨c6,h⟩
  ·obtain rfl:=lf h
   exact bk KF (p7<|sg 9 c6<|eF .normal (kM s i true))<|by kernel_rfl
  ·obtain⟨c8,bc8,h⟩:=aG h
   obtain⟨r9,br9,h⟩:=aG h
   have p11:=fun{sc F} (r:PS sc F)=>p7<|sg 9 c6<|sv (vD (k:=.i64) underlying9 bc8)<|cH (tY br9)<|r
   rcases aN h with⟨c10,h⟩|⟨c10,h⟩
   ·obtain⟨c12,bc12,h⟩:=aG h
    obtain rfl:=lf h
    exact bk KF (p11<|sg 15 c10<|sv (vD (k:=.i64) underlying9 bc12)<|eF .normal (kM s i (c12 !=95)))<|by kernel_rfl
   ·obtain rfl:=lf h
    exact bk KF (p11<|sg 15 c10<|eF .normal (kM s i false))<|by kernel_rfl
 ·obtain rfl:=lf h
  exact bk KF (p5<|sg 6 c4<|eF .normal (kM s i false))<|by kernel_rfl
end
section
variable(s:ag)(i:Int)
def kN:az:=aZ 32 [(0,.str s),(3,.int .i64 i)] [] []
def kO(o:Unit⊕(Unit)):Exit:=match o with
 |(.inl _)=>.ret
 |(.inr _)=>.exit 0
def ji(o:Unit⊕(Unit)):az:=match o with
 |(.inl o)=>aZ 32 [(2,.bool false)] [] []
 |(.inr o)=>aZ 32 [] [] []
def yo:Option (Int⊕(Unit⊕(Unit))):=
 if(decide (i<(s.length:Int)))=true then
  (BS s i).bind fun o13=>
  if o13=true then
   some (.inr (.inl ()))
  else
   some (.inl (bZ (i+1)))
 else
  some (.inr (.inr ()))
def BT:Option (Unit⊕(Unit)):=loop (fun(zz:Int)=>yo s zz) i
theorem DO{y:Int⊕(Unit⊕(Unit))}(h:yo s i=some y):aP Pg GE 0 (cA P3 55) (LQ (fun(zz:Int)=>kN s zz) kO ji y) (kN s i):=by
 rcases aN h with⟨c1,h⟩|⟨c1,h⟩
 ·obtain⟨o13,bo13,h⟩:=aG h
  have p15:=fun{sc F} (r:PS sc F)=>bW (pF underlying9 s)<|sg 0 c1<|oz 1<|cU (E0 s i bo13)<|r
  rcases aN h with⟨c14,h⟩|⟨c14,h⟩
  ·obtain rfl:=lf h
   have z:=p15<|sg 0 c14<|eF (kO (.inl ())) (ji (.inl ()))
   exact iZ KF (by intro hx;cases hx) z<|by kernel_rfl
  ·obtain rfl:=lf h
   exact xO KF (p15<|sg 0 c14<|eF .normal (kN s (bZ (i+1))))<|by kernel_rfl
 ·obtain rfl:=lf h
  have z:=bW (pF underlying9 s)<|sg 0 c1<|eF (kO (.inr ())) (ji (.inr ()))
  exact iZ KF (by intro hx;cases hx) z<|by kernel_rfl
theorem wL{x:Unit⊕(Unit)}(h:BT s i=some x):aP Pg GE 0 (.loop (cA P3 55)) (EX (kO x) (ji x)) (kN s i):=
 aP.loop (S:=fun(zz:Int)=>kN s zz) (ex:=kO) (s:=i) h fun zz y hy=>DO s zz hy
end
def Ip(s:ag):Option Bool:=
 (BT s 0).bind fun o16=>match o16 with
 |(.inl o16)=>
  some false
 |(.inr o16)=>
  some true
theorem JK{s:ag}{r:Bool}(h:Ip s=some r):CC Pg GE 165 [.str s] (.bool r) []:=by
 obtain⟨o16,bo16,h⟩:=aG h
 rcases o16 with o16|o16
 ·obtain rfl:=lf h
  have z:=cU (e:=.ret) (s1:=ji (.inl o16)) (wL s 0 bo16)<|en (aI (rP (.bool false))<|trivial)
  exact cC KF call165 func165 (c:=P3) rfl (aI trivial trivial) z<|by kernel_rfl
 ·obtain rfl:=lf h
  have z:=cU (e:=.exit 0) (s1:=ji (.inr o16)) (wL s 0 bo16)<|en (aI (rP (.bool true))<|trivial)
  exact cC KF call165 func165 (c:=P3) rfl (aI trivial trivial) z<|by kernel_rfl
noncomputable def LX:Code:=f143.body.getD .skip
def C3:List Nat:=[]
section
variable(first:ag)(rest:ag)(more:Bool)
def GK:az:=aZ 52 [(3,.str first),(4,.str rest),(5,.bool more)] [] []
def kH(o:Bool):az:=aZ 52 [(4,.str rest),(5,.bool more),(31,.bool o)] [] []
def BH:Option Bool:=
 (Im first).bind fun r3=>
 if (!r3) = true then
  (FW first).bind fun r5=>
  if(!r5)=true then
   if(!(first==([118]:ag)))=true then
    some true
   else
    some (!more)
  else
   some false
 else
  some false
theorem ER{x:Bool}(h:BH first more=some x):aP Pg GE 0 (cA LX 60) (EX .normal (kH rest more x)) (GK first rest more):=by
 obtain⟨r3,br3,h⟩:=aG h
 rcases aN h with⟨c4,h⟩|⟨c4,h⟩
 ·obtain⟨r5,br5,h⟩:=aG h
  have p7:=fun{sc F} (r:PS sc F)=>cH (BQ br3)<|sg 4 c4<|cH (Io br5)<|r
  rcases aN h with⟨c6,h⟩|⟨c6,h⟩
  ·have p9:=fun{sc F} (r:PS sc F)=>p7<|sg 9 c6<|r
   rcases aN h with⟨c8,h⟩|⟨c8,h⟩
   ·obtain rfl:=lf h
    exact bk C3 (p9<|sg 12 c8<|eF .normal (kH rest more true))<|by kernel_rfl
   ·obtain rfl:=lf h
    exact bk C3 (p9<|sg 12 c8<|eF .normal (kH rest more (!more)))<|by kernel_rfl
  ·obtain rfl:=lf h
   exact bk C3 (p7<|sg 9 c6<|eF .normal (kH rest more false))<|by kernel_rfl
 ·obtain rfl:=lf h
  exact bk C3 (cH (BQ br3)<|sg 4 c4<|eF .normal (kH rest more false))<|by kernel_rfl
end
section
variable(rest:ag)(more:Bool)(part:ag)
def GL:az:=aZ 52 [(4,.str rest),(5,.bool more),(6,.str part)] [] []
def nZ(o:Bool):az:=aZ 52 [(4,.str rest),(5,.bool more),(51,.bool o)] [] []
def BI:Option Bool:=
 (vq part).bind fun r15=>
 if(!r15)=true then
  some true
 else
  (oq part).bind fun r17=>
  if(!r17)=true then
   (Ip part).bind fun r20=>
   some (!r20)
  else
   some false
theorem ES{x:Bool}(h:BI part=some x):aP Pg GE 0 (cA LX 8062) (EX .normal (nZ rest more x)) (GL rest more part):=by
 obtain⟨r15,br15,h⟩:=aG h
 rcases aN h with⟨c16,h⟩|⟨c16,h⟩
 ·obtain rfl:=lf h
  exact bk C3 (cH (j3 br15)<|sg 4 c16<|eF .normal (nZ rest more true))<|by kernel_rfl
 ·obtain⟨r17,br17,h⟩:=aG h
  have p19:=fun{sc F} (r:PS sc F)=>cH (j3 br15)<|sg 4 c16<|cH (qp br17)<|r
  rcases aN h with⟨c18,h⟩|⟨c18,h⟩
  ·obtain⟨r20,br20,h⟩:=aG h
   obtain rfl:=lf h
   exact bk C3 (p19<|sg 8 c18<|cH (JK br20)<|eF .normal (nZ rest more (!r20)))<|by kernel_rfl
  ·obtain rfl:=lf h
   exact bk C3 (p19<|sg 8 c18<|eF .normal (nZ rest more false))<|by kernel_rfl
end
section
variable(rest:ag)(more:Bool)
def kI:az:=aZ 52 [(4,.str rest),(5,.bool more)] [] []
def kJ(o:Unit⊕(Unit)):Exit:=match o with
 |(.inl _)=>.ret
 |(.inr _)=>.exit 0
def jf(o:Unit⊕(Unit)):az:=match o with
 |(.inl o)=>aZ 52 [(2,.int .i64 3)] [] []
 |(.inr o)=>aZ 52 [] [] []
def yl:Option ((ag×Bool)⊕(Unit⊕(Unit))):=
 if more=true then
  (EU rest).bind fun r14=>
  (BI r14.1).bind fun o21=>
  if o21=true then
   some (.inr (.inl ()))
  else
   some (.inl (r14.2.1,r14.2.2))
 else
  some (.inr (.inr ()))
def BJ:Option (Unit⊕(Unit)):=loop (fun(zz:ag×Bool)=>yl zz.1 zz.2) (rest,more)
theorem DF{y:(ag×Bool)⊕(Unit⊕(Unit))}(h:yl rest more=some y):aP Pg GE 0 (cA LX 251) (LQ (fun(zz:ag×Bool)=>kI zz.1 zz.2) kJ jf y) (kI rest more):=by
 rcases aN h with⟨c13,h⟩|⟨c13,h⟩
 ·obtain⟨r14,br14,h⟩:=aG h
  obtain⟨o21,bo21,h⟩:=aG h
  have p23:=fun{sc F} (r:PS sc F)=>sg 0 c13<|cH (DK br14)<|oz 0<|cU (ES r14.2.1 r14.2.2 r14.1 bo21)<|r
  rcases aN h with⟨c22,h⟩|⟨c22,h⟩
  ·obtain rfl:=lf h
   have z:=p23<|sg 0 c22<|eF (kJ (.inl ())) (jf (.inl ()))
   exact iZ C3 (by intro hx;cases hx) z<|by kernel_rfl
  ·obtain rfl:=lf h
   exact xO C3 (p23<|sg 0 c22<|eF .normal (kI r14.2.1 r14.2.2))<|by kernel_rfl
 ·obtain rfl:=lf h
  have z:=sg 0 c13<|eF (kJ (.inr ())) (jf (.inr ()))
  exact iZ C3 (by intro hx;cases hx) z<|by kernel_rfl
theorem wE{x:Unit⊕(Unit)}(h:BJ rest more=some x):aP Pg GE 0 (.loop (cA LX 251)) (EX (kJ x) (jf x)) (kI rest more):=
 aP.loop (S:=fun(zz:ag×Bool)=>kI zz.1 zz.2) (ex:=kJ) (s:=(rest,more)) h fun zz y hy=>DF zz.1 zz.2 hy
end
def Cv(s:ag):Option Int:=
 if(decide ((s.length:Int)>120))=true then
  some 3
 else
  (EU s).bind fun r2=>
  (BH r2.1 r2.2.2).bind fun o10=>
  if o10=true then
   some 3
  else
   (BJ r2.2.1 r2.2.2).bind fun o24=>match o24 with
   |(.inl o24)=>
    some 3
   |(.inr o24)=>
    some 0
theorem BK{s:ag}{r:Int}(h:Cv s=some r):CC Pg GE 143 [.str s] (.int .i64 r) []:=by
 rcases aN h with⟨c1,h⟩|⟨c1,h⟩
 ·obtain rfl:=lf h
  have z:=bW (pF underlying9 s)<|sg 0 c1<|en (aI (rP (.int .i64 3))<|trivial)
  exact cC C3 call143 func143 (c:=LX) rfl (aI trivial trivial) z<|by kernel_rfl
 ·obtain⟨r2,br2,h⟩:=aG h
  obtain⟨o10,bo10,h⟩:=aG h
  have p12:=fun{sc F} (r:PS sc F)=>bW (pF underlying9 s)<|sg 0 c1<|cH (DK br2)<|oz 1<|cU (ER r2.1 r2.2.1 r2.2.2 bo10)<|r
  rcases aN h with⟨c11,h⟩|⟨c11,h⟩
  ·obtain rfl:=lf h
   have z:=p12<|sg 0 c11<|en (aI (rP (.int .i64 3))<|trivial)
   exact cC C3 call143 func143 (c:=LX) rfl (aI trivial trivial) z<|by kernel_rfl
  ·obtain⟨o24,bo24,h⟩:=aG h
   rcases o24 with o24|o24
   ·obtain rfl:=lf h
    have z:=p12<|sg 0 c11<|cU (e:=.ret) (s1:=jf (.inl o24)) (wE r2.2.1 r2.2.2 bo24)<|en (aI (rP (.int .i64 3))<|trivial)
    exact cC C3 call143 func143 (c:=LX) rfl (aI trivial trivial) z<|by kernel_rfl
   ·obtain rfl:=lf h
    have z:=p12<|sg 0 c11<|cU (e:=.exit 0) (s1:=jf (.inr o24)) (wE r2.2.1 r2.2.2 bo24)<|en (aI (rP (.int .i64 0))<|trivial)
    exact cC C3 call143 func143 (c:=LX) rfl (aI trivial trivial) z<|by kernel_rfl
noncomputable def Vm:Code:=f142.body.getD .skip
def U5:List Nat:=[]
def Aa(a:ag):Option Bool:=
 (Cv a).bind fun r1=>
 some (r1 !=0)
theorem Ef{a:ag}{r:Bool}(h:Aa a=some r):CC Pg GE 142 [.str a] (.bool r) []:=by
 obtain⟨r1,br1,h⟩:=aG h
 obtain rfl:=lf h
 have z:=cH (BK br1)<|en (aI (rP (.bool (r1 !=0)))<|trivial)
 exact cC U5 call142 func142 (c:=Vm) rfl (aI trivial trivial) z<|by kernel_rfl
noncomputable def Rw:Code:=f155.body.getD .skip
def PI:List Nat:=[10,17]
section
variable(s:waA)(t7:Int)(t8:Int)
def dy:az:=aZ 19 [(0,sl cS s),(1,.func (.func 142) [] []),(7,.int .i64 t7),(8,.int .i64 t8)] [] []
def dz(o:Int⊕(Unit)):Exit:=match o with
 |(.inl _)=>.ret
 |(.inr _)=>.exit 0
def cD(o:Int⊕(Unit)):az:=match o with
 |(.inl o)=>aZ 19 [(4,.int .i64 o)] [] []
 |(.inr o)=>aZ 19 [] [] []
def kp:Option (Int⊕(Int⊕(Unit))):=
 if(decide (t8<t7))=true then
  (fO s t8).bind fun x2=>
  (Aa x2).bind fun r3=>
  if r3=true then
   some (.inr (.inl t8))
  else
   some (.inl (bZ (t8+1)))
 else
  some (.inr (.inr ()))
def lO:Option (Int⊕(Unit)):=loop (fun(zz:Int)=>kp s t7 zz) t8
theorem qf{y:Int⊕(Int⊕(Unit))}(h:kp s t7 t8=some y):aP Pg GE 0 (cA Rw 55) (LQ (fun(zz:Int)=>dy s t7 zz) dz cD y) (dy s t7 t8):=by
 rcases aN h with⟨c1,h⟩|⟨c1,h⟩
 ·obtain⟨x2,bx2,h⟩:=aG h
  obtain⟨r3,br3,h⟩:=aG h
  have p5:=fun{sc F} (r:PS sc F)=>sg 0 c1<|sv (ch.ia (k:=.i64) bx2)<|sv (cy C2 (.str x2) [])<|cH (Ef br3)<|r
  rcases aN h with⟨c4,h⟩|⟨c4,h⟩
  ·obtain rfl:=lf h
   have z:=p5<|sg 0 c4<|eF (dz (.inl t8)) (cD (.inl t8))
   exact iZ PI (by intro hx;cases hx) z<|by kernel_rfl
  ·obtain rfl:=lf h
   exact xO PI (p5<|sg 0 c4<|eF .normal (dy s t7 (bZ (t8+1))))<|by kernel_rfl
 ·obtain rfl:=lf h
  have z:=sg 0 c1<|eF (dz (.inr ())) (cD (.inr ()))
  exact iZ PI (by intro hx;cases hx) z<|by kernel_rfl
theorem j8{x:Int⊕(Unit)}(h:lO s t7 t8=some x):aP Pg GE 0 (.loop (cA Rw 55)) (EX (dz x) (cD x)) (dy s t7 t8):=
 aP.loop (S:=fun(zz:Int)=>dy s t7 zz) (ex:=dz) (s:=t8) h fun zz y hy=>qf s t7 zz hy
end
def nJ(s:waA):Option Int:=
 (lO s (s.length:Int) 0).bind fun o6=>match o6 with
 |(.inl o6)=>
  some o6
 |(.inr o6)=>
  some (-1)
theorem th{s:waA}{r:Int}(h:nJ s=some r):CC Pg GE 155 [sl cS s,.func (.func 142) [] []] (.int .i64 r) []:=by
 obtain⟨o6,bo6,h⟩:=aG h
 rcases o6 with o6|o6
 ·obtain rfl:=lf h
  have z:=bW (ch.ln s)<|cU (e:=.ret) (s1:=cD (.inl o6)) (j8 s (s.length:Int) 0 bo6)<|en (aI (rP (.int .i64 o6))<|trivial)
  exact cC PI call155 func155 (c:=Rw) rfl (aI (aj bD s) (aI (aI trivial trivial) trivial)) z<|by kernel_rfl
 ·obtain rfl:=lf h
  have z:=bW (ch.ln s)<|cU (e:=.exit 0) (s1:=cD (.inr o6)) (j8 s (s.length:Int) 0 bo6)<|en (aI (rP (.int .i64 (-1)))<|trivial)
  exact cC PI call155 func155 (c:=Rw) rfl (aI (aj bD s) (aI (aI trivial trivial) trivial)) z<|by kernel_rfl
noncomputable def Vl:Code:=f141.body.getD .skip
def U4:List Nat:=[]
def lN(s:waA):Option Bool:=
 (nJ s).bind fun r1=>
 some (decide (r1>=0))
theorem qP{s:waA}{r:Bool}(h:lN s=some r):CC Pg GE 141 [sl cS s,.func (.func 142) [] []] (.bool r) []:=by
 obtain⟨r1,br1,h⟩:=aG h
 obtain rfl:=lf h
 have z:=cH (th br1)<|en (aI (rP (.bool (decide (r1>=0))))<|trivial)
 exact cC U4 call141 func141 (c:=Vl) rfl (aI (aj bD s) (aI (aI trivial trivial) trivial)) z<|by kernel_rfl
noncomputable def M4:Code:=f119.body.getD .skip
def I8:List Nat:=[14,36]
section
variable(e:af)(s:aq)(v:waA)
def Eg:az:=aZ 54 [(2,.eptr (ac e)),(3,.eptr (aE s)),(5,sl cS v)] [.dead,.dead] [((5,0),9)]
def pL(o:waA):az:=aZ 54 [(2,.eptr (ac e)),(5,sl cS o)] [.dead,.dead] [((5,0),9)]
def yB:Option waA:=
 if s.name=true then
  (app v ([e.Name]:List ag)).bind fun l4=>
  some l4
 else
  some v
theorem CR{x:waA}(h:yB e s v=some x):aP Pg GE 0 (cA M4 14) (EX .normal (pL e x)) (Eg e s v):=by
 have p3:=fun{sc F} (r:PS sc F)=>sv (yL s)<|sv (AW s)<|r
 rcases aN h with⟨c2,h⟩|⟨c2,h⟩
 ·obtain⟨l4,bl4,h⟩:=aG h
  obtain rfl:=lf h
  exact bk I8 (p3<|sg 0 c2<|sv (cp e)<|sv (cz e)<|sv (ch.mk' (v:=PVal.str) E7 ([e.Name]:List ag) 1 (by kernel_rfl))<|sv (ch.ap bl4)<|eF .normal (pL e l4))<|by kernel_rfl
 ·obtain rfl:=lf h
  exact bk I8 (p3<|sg 0 c2<|eF .normal (pL e v))<|by kernel_rfl
end
section
variable(e:af)(v:waA)
def Eh:az:=aZ 54 [(2,.eptr (ac e)),(5,sl cS v)] [.dead,.dead] [((5,0),9)]
def pM(o:Bool):az:=aZ 54 [(2,.eptr (ac e)),(5,sl cS v),(6,.bool o)] [.dead,.dead] [((5,0),9)]
def yC:Option Bool:=
 (kw e.Params).bind fun r6=>
 (tp r6).bind fun r7=>
 if r7=true then
  some true
 else
  (hZ e.Alts).bind fun r10=>
  (tp r10).bind fun r11=>
  some r11
theorem CS{x:Bool}(h:yC e=some x):aP Pg GE 0 (cA M4 30) (EX .normal (pM e v x)) (Eh e v):=by
 obtain⟨r6,br6,h⟩:=aG h
 obtain⟨r7,br7,h⟩:=aG h
 have p9:=fun{sc F} (r:PS sc F)=>sv (bw e)<|sv (bA e)<|cH (oe br6)<|cH (sw br7)<|r
 rcases aN h with⟨c8,h⟩|⟨c8,h⟩
 ·obtain rfl:=lf h
  exact bk I8 (p9<|sg 5 c8<|eF .normal (pM e v true))<|by kernel_rfl
 ·obtain⟨r10,br10,h⟩:=aG h
  obtain⟨r11,br11,h⟩:=aG h
  obtain rfl:=lf h
  exact bk I8 (p9<|sg 5 c8<|sv (aB e)<|sv (aC e)<|cH (pK br10)<|cH (sw br11)<|eF .normal (pM e v r11))<|by kernel_rfl
end
section
variable(t30:waC)(t31:Int)(v:waA)(doubled:Bool)(t32:Int)
def gV:az:=aZ 54 [(5,sl cS v),(6,.bool doubled),(30,sl aA t30),(31,.int .i64 t31),(32,.int .i64 t32)] [.dead,.dead] [((5,0),9)]
def pN(o:waA×Bool):az:=aZ 54 [(5,sl cS o.1),(6,.bool o.2)] [.dead,.dead] [((5,0),9)]
def vK:Option ((waA×Bool×Int)⊕((waA×Bool))):=
 if(decide (t32<t31))=true then
  (fO t30 t32).bind fun x14=>
  (app v ([x14.Con]:List ag)).bind fun l15=>
  (app l15 x14.Names).bind fun l16=>
  if doubled=true then
   some (.inl (l16,true,bZ (t32+1)))
  else
   (tp x14.Names).bind fun r19=>
   some (.inl (l16,r19,bZ (t32+1)))
 else
  some (.inr (v,doubled))
def yD:Option ((waA×Bool)):=loop (fun(zz:waA×Bool×Int)=>vK t30 t31 zz.1 zz.2.1 zz.2.2) (v,doubled,t32)
theorem Bl{y:(waA×Bool×Int)⊕((waA×Bool))}(h:vK t30 t31 v doubled t32=some y):aP Pg GE 0 (cA M4 503) (LQ (fun(zz:waA×Bool×Int)=>gV t30 t31 zz.1 zz.2.1 zz.2.2) (fun _=>.exit 0) pN y) (gV t30 t31 v doubled t32):=by
 rcases aN h with⟨c13,h⟩|⟨c13,h⟩
 ·obtain⟨x14,bx14,h⟩:=aG h
  obtain⟨l15,bl15,h⟩:=aG h
  obtain⟨l16,bl16,h⟩:=aG h
  have p18:=fun{sc F} (r:PS sc F)=>sg 0 c13<|sv (ea.ia (k:=.i64) bx14)<|sv (ku x14)<|sx D2<|sx (hX x14)<|IS [0,0,2,6,15,0,32,127,255]<|ss<|sv (ch.mk' (v:=PVal.str) E7 ([x14.Con]:List ag) 1 (by kernel_rfl))<|sv (ch.ap bl15)<|ss<|sv (ch.ap bl16)<|r
  rcases aN h with⟨c17,h⟩|⟨c17,h⟩
  ·obtain rfl:=lf h
   have z:=p18<|sg 2 c17<|sK 0 .normal (gV t30 t31 l16 true (bZ (t32+1))) rfl (dF (aI (up (aj bD l16)) (aI trivial (aI (up (aj bL t30)) (aI trivial (aI trivial trivial)))))) (aI trivial (aI trivial trivial))
   exact dZ (A:=I8) mixed z<|by kernel_rfl
  ·obtain⟨r19,br19,h⟩:=aG h
   obtain rfl:=lf h
   have z:=p18<|sg 2 c17<|ss<|cH (sw br19)<|sK 0 .normal (gV t30 t31 l16 r19 (bZ (t32+1))) rfl (dF (aI (up (aj bD l16)) (aI trivial (aI (up (aj bL t30)) (aI trivial (aI trivial trivial)))))) (aI trivial (aI trivial trivial))
   exact dZ (A:=I8) mixed z<|by kernel_rfl
 ·obtain rfl:=lf h
  have z:=sg 0 c13<|eF (.exit 0) (pN (v,doubled))
  exact iZ I8 (by intro hx;cases hx) z<|by kernel_rfl
theorem CT{x:(waA×Bool)}(h:yD t30 t31 v doubled t32=some x):aP Pg GE 0 (.loop (cA M4 503)) (EX (.exit 0) (pN x)) (gV t30 t31 v doubled t32):=
 aP.loop (S:=fun(zz:waA×Bool×Int)=>gV t30 t31 zz.1 zz.2.1 zz.2.2) (ex:=(fun _=>.exit 0)) (s:=(v,doubled,t32)) h fun zz y hy=>Bl t30 t31 zz.1 zz.2.1 zz.2.2 hy
end
def Ee(e:af)(s:aq):Option Int:=
 (kw e.Params).bind fun r1=>
 (yB e s r1).bind fun o5=>
 (yC e).bind fun o12=>
 (yD e.Alts (e.Alts.length:Int) o5 o12 0).bind fun o20=>
 (lN o20.1).bind fun r21=>
 if r21=true then
  some 3
 else
  if o20.2=true then
   some 4
  else
   some 0
theorem GY{e:af}{s:aq}{r:Int}(h:Ee e s=some r):CC Pg GE 119 [.agg (ac e),.agg (aE s)] (.int .i64 r) []:=by
 obtain⟨r1,br1,h⟩:=aG h
 obtain⟨o5,bo5,h⟩:=aG h
 obtain⟨o12,bo12,h⟩:=aG h
 obtain⟨o20,bo20,h⟩:=aG h
 obtain⟨r21,br21,h⟩:=aG h
 have p23:=fun{sc F} (r:PS sc F)=>se (bK e)<|se (yq s)<|sv (bw e)<|sv (bA e)<|cH (oe br1)<|oz 0<|cU (CR e s r1 bo5)<|oz 0<|cU (CS e o5 bo12)<|sv (aB e)<|sv (aC e)<|bW (ea.ln e.Alts)<|cU (CT e.Alts (e.Alts.length:Int) o5 o12 0 bo20)<|cH (qP br21)<|r
 rcases aN h with⟨c22,h⟩|⟨c22,h⟩
 ·obtain rfl:=lf h
  have z:=p23<|sg 0 c22<|en (aI (rP (.int .i64 3))<|trivial)
  exact cC I8 call119 func119 (c:=M4) rfl (aI (av e) (aI (bB s) trivial)) z<|by kernel_rfl
 ·have p25:=fun{sc F} (r:PS sc F)=>p23<|sg 0 c22<|r
  rcases aN h with⟨c24,h⟩|⟨c24,h⟩
  ·obtain rfl:=lf h
   have z:=p25<|sg 0 c24<|en (aI (rP (.int .i64 4))<|trivial)
   exact cC I8 call119 func119 (c:=M4) rfl (aI (av e) (aI (bB s) trivial)) z<|by kernel_rfl
  ·obtain rfl:=lf h
   have z:=p25<|sg 0 c24<|en (aI (rP (.int .i64 0))<|trivial)
   exact cC I8 call119 func119 (c:=M4) rfl (aI (av e) (aI (bB s) trivial)) z<|by kernel_rfl
abbrev rb:=(am->Option Int)
abbrev vO(R:rb):Prop:=∀(t:am) (r:Int),R t=some r->CC Pg GE 144 [.agg (ai t)] (.int .i64 r) []
noncomputable def SS:Code:=f144.body.getD .skip
def SB:List Nat:=[]
section
variable(R86:rb)(t7:waB)(t8:Int)(n:Int)(t9:Int)
def kj:az:=aZ 20 [(3,.int .i64 n),(7,sl ai t7),(8,.int .i64 t8),(9,.int .i64 t9)] [.dead] []
def qY(o:Int):az:=aZ 20 [(3,.int .i64 o)] [.dead] []
def xg:Option ((Int×Int)⊕(Int)):=
 if(decide (t9<t8))=true then
  (fO t7 t9).bind fun x2=>
  (R86 x2).bind fun r3=>
  some (.inl ((if r3>n then r3 else n),bZ (t9+1)))
 else
  some (.inr n)
def Al:Option Int:=loop (fun(zz:Int×Int)=>xg R86 t7 t8 zz.1 zz.2) (n,t9)
theorem C1(hR86:vO R86){y:(Int×Int)⊕(Int)}(h:xg R86 t7 t8 n t9=some y):aP Pg GE 0 (cA SS 119) (LQ (fun(zz:Int×Int)=>kj t7 t8 zz.1 zz.2) (fun _=>.exit 0) qY y) (kj t7 t8 n t9):=by
 rcases aN h with⟨c1,h⟩|⟨c1,h⟩
 ·obtain⟨x2,bx2,h⟩:=aG h
  obtain⟨r3,br3,h⟩:=aG h
  obtain rfl:=lf h
  have z:=sg 0 c1<|sv (d4.ia (k:=.i64) bx2)<|sv (kG x2)<|sx NN<|sx (qK x2)<|sv (jZ x2 [])<|cH (hR86 _ _ br3)<|sK 0 .normal (kj t7 t8 (if r3>n then r3 else n) (bZ (t9+1))) rfl (dF (aI trivial (aI (up (aj aL t7)) (aI trivial (aI trivial trivial))))) (aI trivial trivial)
  exact dZ (A:=SB) mixed z<|by kernel_rfl
 ·obtain rfl:=lf h
  have z:=sg 0 c1<|eF (.exit 0) (qY n)
  exact iZ SB (by intro hx;cases hx) z<|by kernel_rfl
theorem Eo(hR86:vO R86){x:Int}(h:Al R86 t7 t8 n t9=some x):aP Pg GE 0 (.loop (cA SS 119)) (EX (.exit 0) (qY x)) (kj t7 t8 n t9):=
 aP.loop (S:=fun(zz:Int×Int)=>kj t7 t8 zz.1 zz.2) (ex:=(fun _=>.exit 0)) (s:=(n,t9)) h fun zz y hy=>C1 R86 t7 t8 zz.1 zz.2 hR86 hy
end
def BZ(R86:rb)(t:am):Option Int:=
 (Al R86 t.Args (t.Args.length:Int) 0 0).bind fun o4=>
 some (bZ (o4+1))
theorem GZ(R86:rb)(hR86:vO R86){t:am}{r:Int}(h:BZ R86 t=some r):CC Pg GE 144 [.agg (ai t)] (.int .i64 r) []:=by
 obtain⟨o4,bo4,h⟩:=aG h
 obtain rfl:=lf h
 have z:=se (px t)<|sv (du t)<|sv (dv t)<|bW (d4.ln t.Args)<|cU (Eo R86 t.Args (t.Args.length:Int) 0 0 hR86 bo4)<|en (aI (rP (.int .i64 (bZ (o4+1))))<|trivial)
 exact cC SB call144 func144 (c:=SS) rfl (aI (aL t) trivial) z<|by kernel_rfl
def B3:(am->Option Int)->(am)->Option Int:=fun(rec:am->Option Int) (x:am)=>BZ (fun t=>rec t) x
def Gd(t:am):Option Int:=qc B3 t
theorem I3{t:am}{r:Int}(h:Gd t=some r):CC Pg GE 144 [.agg (ai t)] (.int .i64 r) []:=
 d9 (F:=B3) (M:=fun(x:am) (r:Int)=>CC Pg GE 144 [.agg (ai x)] (.int .i64 r) []) (fun rec hrec x r h=>GZ _ (fun t r h=>hrec t r h) h) h
end Go.Proofs.YtkdahfeiedaahaaGreatDoor
