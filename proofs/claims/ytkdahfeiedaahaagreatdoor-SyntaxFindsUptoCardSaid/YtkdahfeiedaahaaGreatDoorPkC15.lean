/- PROVED: a part of the proof. Conditions: none. -/
import Derived.Test.YtkdahfeiedaahaaGreatDoorPkC14
noncomputable section
namespace Go.Proofs.YtkdahfeiedaahaaGreatDoor
open Go Go.Proofs.Tryz
set_option linter.unusedVariables false
set_option maxRecDepth 100000
noncomputable def Vx:Code:=f84.body.getD .skip
def Vh:List Nat:=[12,18]
section
variable(t6:waD)(t7:Int)(out:waA)(t8:Int)
def eD:aA:=bg 19 [(3,sl cS out),(6,sl ay t6),(7,.int .i64 t7),(8,.int .i64 t8)] [] [((3,0),9)]
def jA(o:waA):aA:=bg 19 [(3,sl cS o)] [] [((3,0),9)]
def nJ:Option ((waA×Int)⊕(waA)):=
 if(decide (t8<t7))=true then
  (fJ t6 t8).bind fun x2=>
  (app out ([x2.Con]:List ae)).bind fun l3=>
  some (.inl (l3,ca (t8+1)))
 else
  some (.inr out)
def pK:Option waA:=loop (fun(zz:waA×Int)=>nJ t6 t7 zz.1 zz.2) (out,t8)
theorem tS{y:(waA×Int)⊕(waA)}(h:nJ t6 t7 out t8=some y):aQ Pg GE 0 (cA Vx 119) (LQ (fun(zz:waA×Int)=>eD t6 t7 zz.1 zz.2) (fun _=>.exit 0) jA y) (eD t6 t7 out t8):=by
 rcases aN h with⟨c1,h⟩|⟨c1,h⟩
 ·obtain⟨x2,bx2,h⟩:=aG h
  obtain⟨l3,bl3,h⟩:=aG h
  obtain rfl:=lf h
  have z:=sg 0 c1<|sv (fo.ia (k:=.i64) bx2)<|sv (mF x2)<|sx Gd<|sx (ji x2)<|ss<|sv (eu.mk' (v:=PVal.str) Mj ([x2.Con]:List ae) 1 (by kernel_rfl))<|sv (eu.ap bl3)<|rx 0 .normal (eD t6 t7 l3 (ca (t8+1))) rfl (dv (aI (up (am bO l3)) (aI (up (am bL t6)) (aI trivial (aI trivial trivial))))) trivial
  exact d4 (A:=Vh) mixed z<|by kernel_rfl
 ·obtain rfl:=lf h
  have z:=sg 0 c1<|eF (.exit 0) (jA out)
  exact iI Vh (by intro hx;cases hx) z<|by kernel_rfl
theorem ui{x:waA}(h:pK t6 t7 out t8=some x):aQ Pg GE 0 (.loop (cA Vx 119)) (EX (.exit 0) (jA x)) (eD t6 t7 out t8):=
 aQ.loop (S:=fun(zz:waA×Int)=>eD t6 t7 zz.1 zz.2) (ex:=(fun _=>.exit 0)) (s:=(out,t8)) h fun zz y hy=>tS t6 t7 zz.1 zz.2 hy
end
def su(a:waD):Option waA:=
 (pK a (a.length:Int) ([]:List ae) 0).bind fun o4=>
 some o4
theorem xz{a:waD}{r:waA}(h:su a=some r):CC Pg GE 84 [sl ay a] (sl cS r) [(0,9)]:=by
 obtain⟨o4,bo4,h⟩:=aG h
 obtain rfl:=lf h
 have z:=bU (fo.ln a)<|cY (ui a (a.length:Int) ([]:List ae) 0 bo4)<|en (aI (rP (sl cS o4))<|(am bO o4))
 exact cH Vh call84 func84 (c:=Vx) rfl (aI (am bL a) trivial) z<|by kernel_rfl
noncomputable def Rl:Code:=f160.body.getD .skip
def Po:List Nat:=[23]
section
variable(s:ae)(i:Int)
def mg:aA:=bg 24 [(0,.str s),(5,.int .i64 i)] [] []
def mh(o:(ae×ae)⊕(Unit)):Exit:=match o with
 |(.inl _)=>.ret
 |(.inr _)=>.exit 0
def jR(o:(ae×ae)⊕(Unit)):aA:=match o with
 |(.inl o)=>bg 24 [(2,.str o.1),(3,.str o.2),(4,.bool true)] [] []
 |(.inr o)=>bg 24 [(0,.str s)] [] []
def zy:Option (Int⊕((ae×ae)⊕(Unit))):=
 if(decide (i<(s.length:Int)))=true then
  (AJ s i).bind fun c2=>
  if(c2==46)=true then
   (U6 s none (some i)).bind fun s5=>
   (U6 s (some (ca (i+1))) none).bind fun s6=>
   some (.inr (.inl (s5,s6)))
  else
   some (.inl (ca (i+1)))
 else
  some (.inr (.inr ()))
def Du:Option ((ae×ae)⊕(Unit)):=loop (fun(zz:Int)=>zy s zz) i
theorem ED{y:Int⊕((ae×ae)⊕(Unit))}(h:zy s i=some y):aQ Pg GE 0 (cA Rl 55) (LQ (fun(zz:Int)=>mg s zz) mh (jR s) y) (mg s i):=by
 rcases aN h with⟨c1,h⟩|⟨c1,h⟩
 ·obtain⟨c2,bc2,h⟩:=aG h
  have p4:=fun{sc F} (r:PS sc F)=>bU (oL underlying9 s)<|sg 0 c1<|sv (uP (k:=.i64) underlying9 bc2)<|r
  rcases aN h with⟨c3,h⟩|⟨c3,h⟩
  ·obtain⟨s5,bs5,h⟩:=aG h
   obtain⟨s6,bs6,h⟩:=aG h
   obtain rfl:=lf h
   have z:=p4<|sg 0 c3<|IY [0,0,3,0,0,16,56,7,255,511]<|sv (St underlying9 bs5)<|sv (St underlying9 bs6)<|eF (mh (.inl (s5,s6))) (jR s (.inl (s5,s6)))
   exact iI Po (by intro hx;cases hx) z<|by kernel_rfl
  ·obtain rfl:=lf h
   exact yz Po (p4<|sg 0 c3<|eF .normal (mg s (ca (i+1))))<|by kernel_rfl
 ·obtain rfl:=lf h
  have z:=bU (oL underlying9 s)<|sg 0 c1<|eF (mh (.inr ())) (jR s (.inr ()))
  exact iI Po (by intro hx;cases hx) z<|by kernel_rfl
theorem xK{x:(ae×ae)⊕(Unit)}(h:Du s i=some x):aQ Pg GE 0 (.loop (cA Rl 55)) (EX (mh x) (jR s x)) (mg s i):=
 aQ.loop (S:=fun(zz:Int)=>mg s zz) (ex:=mh) (s:=i) h fun zz y hy=>ED s zz hy
end
def EC(s:ae):Option (ae×ae×Bool):=
 (Du s 0).bind fun o7=>match o7 with
 |(.inl o7)=>
  some (o7.1,o7.2,true)
 |(.inr o7)=>
  some (s,([]:ae),false)
theorem Dv{s:ae}{r:ae×ae×Bool}(h:EC s=some r):CC Pg GE 160 [.str s] (.tuple [.str r.1,.str r.2.1,.bool r.2.2]) []:=by
 obtain⟨o7,bo7,h⟩:=aG h
 rcases o7 with o7|o7
 ·obtain rfl:=lf h
  have z:=cY (e:=.ret) (s1:=jR s (.inl o7)) (xK s 0 bo7)<|en (aI (rP (.tuple [.str o7.1,.str o7.2,.bool true]))<|(aI trivial (aI trivial (aI trivial trivial))))
  exact cH Po call160 func160 (c:=Rl) rfl (aI trivial trivial) z<|by kernel_rfl
 ·obtain rfl:=lf h
  have z:=cY (e:=.exit 0) (s1:=jR s (.inr o7)) (xK s 0 bo7)<|en (aI (rP (.tuple [.str s,.str ([]:ae),.bool false]))<|(aI trivial (aI trivial (aI trivial trivial))))
  exact cH Po call160 func160 (c:=Rl) rfl (aI trivial trivial) z<|by kernel_rfl
noncomputable def T0:Code:=f163.body.getD .skip
def TD:List Nat:=[]
def uI(s:ae):Option Bool:=
 if(decide ((s.length:Int)>=1))=true then
  some (decide ((s.length:Int)<=24))
 else
  some false
theorem jS{s:ae}{r:Bool}(h:uI s=some r):CC Pg GE 163 [.str s] (.bool r) []:=by
 rcases aN h with⟨c1,h⟩|⟨c1,h⟩
 ·obtain rfl:=lf h
  have z:=bU (oL underlying9 s)<|sg 4 c1<|bU (oL underlying9 s)<|en (aI (rP (.bool (decide ((s.length:Int)<=24))))<|trivial)
  exact cH TD call163 func163 (c:=T0) rfl (aI trivial trivial) z<|by kernel_rfl
 ·obtain rfl:=lf h
  have z:=bU (oL underlying9 s)<|sg 4 c1<|en (aI (rP (.bool false))<|trivial)
  exact cH TD call163 func163 (c:=T0) rfl (aI trivial trivial) z<|by kernel_rfl
noncomputable def T1:Code:=f186.body.getD .skip
def TE:List Nat:=[]
def ri(c:Int):Option Bool:=
 if(decide (97<=c))=true then
  some (decide (c<=122))
 else
  some false
theorem pw{c:Int}{r:Bool}(h:ri c=some r):CC Pg GE 186 [.int .u8 c] (.bool r) []:=by
 rcases aN h with⟨c1,h⟩|⟨c1,h⟩
 ·obtain rfl:=lf h
  have z:=sg 3 c1<|en (aI (rP (.bool (decide (c<=122))))<|trivial)
  exact cH TE call186 func186 (c:=T1) rfl (aI trivial trivial) z<|by kernel_rfl
 ·obtain rfl:=lf h
  have z:=sg 3 c1<|en (aI (rP (.bool false))<|trivial)
  exact cH TE call186 func186 (c:=T1) rfl (aI trivial trivial) z<|by kernel_rfl
noncomputable def Rm:Code:=f187.body.getD .skip
def Pp:List Nat:=[]
section
variable(s:ae)(t6:Int)
def iy:aA:=bg 13 [(0,.str s),(5,.agg (iA.map PVal.str)),(6,.int .i64 t6)] [] []
def iz(o:Unit⊕(Unit)):Exit:=match o with
 |(.inl _)=>.ret
 |(.inr _)=>.exit 0
def fZ(o:Unit⊕(Unit)):aA:=match o with
 |(.inl o)=>bg 13 [(2,.bool true)] [] []
 |(.inr o)=>bg 13 [] [] []
def tC:Option (Int⊕(Unit⊕(Unit))):=
 if(decide (t6<42))=true then
  (fJ iA t6).bind fun x2=>
  if(x2==s)=true then
   some (.inr (.inl ()))
  else
   some (.inl (ca (t6+1)))
 else
  some (.inr (.inr ()))
def wb:Option (Unit⊕(Unit)):=loop (fun(zz:Int)=>tC s zz) t6
theorem zx{y:Int⊕(Unit⊕(Unit))}(h:tC s t6=some y):aQ Pg GE 0 (cA Rm 55) (LQ (fun(zz:Int)=>iy s zz) iz fZ y) (iy s t6):=by
 rcases aN h with⟨c1,h⟩|⟨c1,h⟩
 ·obtain⟨x2,bx2,h⟩:=aG h
  have p4:=fun{sc F} (r:PS sc F)=>sg 0 c1<|sv (Dw (k:=.i64) bx2)<|r
  rcases aN h with⟨c3,h⟩|⟨c3,h⟩
  ·obtain rfl:=lf h
   have z:=p4<|sg 0 c3<|eF (iz (.inl ())) (fZ (.inl ()))
   exact iI Pp (by intro hx;cases hx) z<|by kernel_rfl
  ·obtain rfl:=lf h
   exact yz Pp (p4<|sg 0 c3<|eF .normal (iy s (ca (t6+1))))<|by kernel_rfl
 ·obtain rfl:=lf h
  have z:=sg 0 c1<|eF (iz (.inr ())) (fZ (.inr ()))
  exact iI Pp (by intro hx;cases hx) z<|by kernel_rfl
theorem sj{x:Unit⊕(Unit)}(h:wb s t6=some x):aQ Pg GE 0 (.loop (cA Rm 55)) (EX (iz x) (fZ x)) (iy s t6):=
 aQ.loop (S:=fun(zz:Int)=>iy s zz) (ex:=iz) (s:=t6) h fun zz y hy=>zx s zz hy
end
def Bv(s:ae):Option Bool:=
 (wb s 0).bind fun o5=>match o5 with
 |(.inl o5)=>
  some true
 |(.inr o5)=>
  some false
theorem EB{s:ae}{r:Bool}(h:Bv s=some r):CC Pg GE 187 [.str s] (.bool r) []:=by
 obtain⟨o5,bo5,h⟩:=aG h
 rcases o5 with o5|o5
 ·obtain rfl:=lf h
  have z:=sv uH<|cY (e:=.ret) (s1:=fZ (.inl o5)) (sj s 0 bo5)<|en (aI (rP (.bool true))<|trivial)
  exact cH Pp call187 func187 (c:=Rm) rfl (aI trivial trivial) z<|by kernel_rfl
 ·obtain rfl:=lf h
  have z:=sv uH<|cY (e:=.exit 0) (s1:=fZ (.inr o5)) (sj s 0 bo5)<|en (aI (rP (.bool false))<|trivial)
  exact cH Pp call187 func187 (c:=Rm) rfl (aI trivial trivial) z<|by kernel_rfl
noncomputable def T2:Code:=f188.body.getD .skip
def TF:List Nat:=[]
def uG(c:Int):Option Bool:=
 if(decide (48<=c))=true then
  some (decide (c<=57))
 else
  some false
theorem tD{c:Int}{r:Bool}(h:uG c=some r):CC Pg GE 188 [.int .u8 c] (.bool r) []:=by
 rcases aN h with⟨c1,h⟩|⟨c1,h⟩
 ·obtain rfl:=lf h
  have z:=sg 3 c1<|en (aI (rP (.bool (decide (c<=57))))<|trivial)
  exact cH TF call188 func188 (c:=T2) rfl (aI trivial trivial) z<|by kernel_rfl
 ·obtain rfl:=lf h
  have z:=sg 3 c1<|en (aI (rP (.bool false))<|trivial)
  exact cH TF call188 func188 (c:=T2) rfl (aI trivial trivial) z<|by kernel_rfl
noncomputable def Ms:Code:=f161.body.getD .skip
def FE:List Nat:=[]
section
variable(s:ae)
def F6:aA:=bg 41 [(0,.str s)] [] []
def n7(o:Bool):aA:=bg 41 [(0,.str s),(16,.bool o)] [] []
def Bw:Option Bool:=
 (uI s).bind fun r1=>
 if(!r1)=true then
  some true
 else
  (AJ s 0).bind fun c3=>
  (ri c3).bind fun r4=>
  if(!r4)=true then
   some true
  else
   (Bv s).bind fun r7=>
   some r7
theorem EE{x:Bool}(h:Bw s=some x):aQ Pg GE 0 (cA Ms 12) (EX .normal (n7 s x)) (F6 s):=by
 obtain⟨r1,br1,h⟩:=aG h
 rcases aN h with⟨c2,h⟩|⟨c2,h⟩
 ·obtain rfl:=lf h
  exact bA FE (du (jS br1)<|sg 4 c2<|eF .normal (n7 s true))<|by kernel_rfl
 ·obtain⟨c3,bc3,h⟩:=aG h
  obtain⟨r4,br4,h⟩:=aG h
  have p6:=fun{sc F} (r:PS sc F)=>du (jS br1)<|sg 4 c2<|sv (uP (k:=.i64) underlying9 bc3)<|du (pw br4)<|r
  rcases aN h with⟨c5,h⟩|⟨c5,h⟩
  ·obtain rfl:=lf h
   exact bA FE (p6<|sg 10 c5<|eF .normal (n7 s true))<|by kernel_rfl
  ·obtain⟨r7,br7,h⟩:=aG h
   obtain rfl:=lf h
   exact bA FE (p6<|sg 10 c5<|du (EB br7)<|eF .normal (n7 s r7))<|by kernel_rfl
end
section
variable(s:ae)(i:Int)
def F7:aA:=bg 41 [(0,.str s),(3,.int .i64 i)] [] []
def n8(o:Bool):aA:=bg 41 [(0,.str s),(3,.int .i64 i),(40,.bool o)] [] []
def Bx:Option Bool:=
 (AJ s i).bind fun c12=>
 (ri c12).bind fun r13=>
 if(!r13)=true then
  (AJ s i).bind fun c16=>
  (uG c16).bind fun r17=>
  if(!r17)=true then
   (AJ s i).bind fun c20=>
   some (c20 !=95)
  else
   some false
 else
  some false
theorem EF{x:Bool}(h:Bx s i=some x):aQ Pg GE 0 (cA Ms 1914) (EX .normal (n8 s i x)) (F7 s i):=by
 obtain⟨c12,bc12,h⟩:=aG h
 obtain⟨r13,br13,h⟩:=aG h
 have p15:=fun{sc F} (r:PS sc F)=>sv (uP (k:=.i64) underlying9 bc12)<|du (pw br13)<|r
 rcases aN h with⟨c14,h⟩|⟨c14,h⟩
 ·obtain⟨c16,bc16,h⟩:=aG h
  obtain⟨r17,br17,h⟩:=aG h
  have p19:=fun{sc F} (r:PS sc F)=>p15<|sg 6 c14<|sv (uP (k:=.i64) underlying9 bc16)<|du (tD br17)<|r
  rcases aN h with⟨c18,h⟩|⟨c18,h⟩
  ·obtain⟨c20,bc20,h⟩:=aG h
   obtain rfl:=lf h
   exact bA FE (p19<|sg 13 c18<|sv (uP (k:=.i64) underlying9 bc20)<|eF .normal (n8 s i (c20 !=95)))<|by kernel_rfl
  ·obtain rfl:=lf h
   exact bA FE (p19<|sg 13 c18<|eF .normal (n8 s i false))<|by kernel_rfl
 ·obtain rfl:=lf h
  exact bA FE (p15<|sg 6 c14<|eF .normal (n8 s i false))<|by kernel_rfl
end
section
variable(s:ae)(i:Int)
def kz:aA:=bg 41 [(0,.str s),(3,.int .i64 i)] [] []
def kC(o:Unit⊕(Unit)):Exit:=match o with
 |(.inl _)=>.ret
 |(.inr _)=>.exit 0
def iW(o:Unit⊕(Unit)):aA:=match o with
 |(.inl o)=>bg 41 [(2,.bool false)] [] []
 |(.inr o)=>bg 41 [] [] []
def xL:Option (Int⊕(Unit⊕(Unit))):=
 if(decide (i<(s.length:Int)))=true then
  (Bx s i).bind fun o21=>
  if o21=true then
   some (.inr (.inl ()))
  else
   some (.inl (ca (i+1)))
 else
  some (.inr (.inr ()))
def By:Option (Unit⊕(Unit)):=loop (fun(zz:Int)=>xL s zz) i
theorem Dx{y:Int⊕(Unit⊕(Unit))}(h:xL s i=some y):aQ Pg GE 0 (cA Ms 119) (LQ (fun(zz:Int)=>kz s zz) kC iW y) (kz s i):=by
 rcases aN h with⟨c11,h⟩|⟨c11,h⟩
 ·obtain⟨o21,bo21,h⟩:=aG h
  have p23:=fun{sc F} (r:PS sc F)=>bU (oL underlying9 s)<|sg 0 c11<|qk 1<|cY (EF s i bo21)<|r
  rcases aN h with⟨c22,h⟩|⟨c22,h⟩
  ·obtain rfl:=lf h
   have z:=p23<|sg 0 c22<|eF (kC (.inl ())) (iW (.inl ()))
   exact iI FE (by intro hx;cases hx) z<|by kernel_rfl
  ·obtain rfl:=lf h
   exact yz FE (p23<|sg 0 c22<|eF .normal (kz s (ca (i+1))))<|by kernel_rfl
 ·obtain rfl:=lf h
  have z:=bU (oL underlying9 s)<|sg 0 c11<|eF (kC (.inr ())) (iW (.inr ()))
  exact iI FE (by intro hx;cases hx) z<|by kernel_rfl
theorem wg{x:Unit⊕(Unit)}(h:By s i=some x):aQ Pg GE 0 (.loop (cA Ms 119)) (EX (kC x) (iW x)) (kz s i):=
 aQ.loop (S:=fun(zz:Int)=>kz s zz) (ex:=kC) (s:=i) h fun zz y hy=>Dx s zz hy
end
def Hu(s:ae):Option Bool:=
 (Bw s).bind fun o8=>
 if o8=true then
  some false
 else
  (By s 1).bind fun o24=>match o24 with
  |(.inl o24)=>
   some false
  |(.inr o24)=>
   some true
theorem Bz{s:ae}{r:Bool}(h:Hu s=some r):CC Pg GE 161 [.str s] (.bool r) []:=by
 obtain⟨o8,bo8,h⟩:=aG h
 have p10:=fun{sc F} (r:PS sc F)=>qk 2<|cY (EE s bo8)<|r
 rcases aN h with⟨c9,h⟩|⟨c9,h⟩
 ·obtain rfl:=lf h
  have z:=p10<|sg 0 c9<|en (aI (rP (.bool false))<|trivial)
  exact cH FE call161 func161 (c:=Ms) rfl (aI trivial trivial) z<|by kernel_rfl
 ·obtain⟨o24,bo24,h⟩:=aG h
  rcases o24 with o24|o24
  ·obtain rfl:=lf h
   have z:=p10<|sg 0 c9<|cY (e:=.ret) (s1:=iW (.inl o24)) (wg s 1 bo24)<|en (aI (rP (.bool false))<|trivial)
   exact cH FE call161 func161 (c:=Ms) rfl (aI trivial trivial) z<|by kernel_rfl
  ·obtain rfl:=lf h
   have z:=p10<|sg 0 c9<|cY (e:=.exit 0) (s1:=iW (.inr o24)) (wg s 1 bo24)<|en (aI (rP (.bool true))<|trivial)
   exact cH FE call161 func161 (c:=Ms) rfl (aI trivial trivial) z<|by kernel_rfl
noncomputable def T3:Code:=f189.body.getD .skip
def TG:List Nat:=[]
def vD(c:Int):Option Bool:=
 if(decide (65<=c))=true then
  some (decide (c<=90))
 else
  some false
theorem wd{c:Int}{r:Bool}(h:vD c=some r):CC Pg GE 189 [.int .u8 c] (.bool r) []:=by
 rcases aN h with⟨c1,h⟩|⟨c1,h⟩
 ·obtain rfl:=lf h
  have z:=sg 3 c1<|en (aI (rP (.bool (decide (c<=90))))<|trivial)
  exact cH TG call189 func189 (c:=T3) rfl (aI trivial trivial) z<|by kernel_rfl
 ·obtain rfl:=lf h
  have z:=sg 3 c1<|en (aI (rP (.bool false))<|trivial)
  exact cH TG call189 func189 (c:=T3) rfl (aI trivial trivial) z<|by kernel_rfl
noncomputable def PF:Code:=f164.body.getD .skip
def KZ:List Nat:=[]
section
variable(s:ae)(i:Int)
def wc:aA:=bg 29 [(0,.str s),(3,.int .i64 i)] [] []
def gL(o:Bool):aA:=bg 29 [(0,.str s),(3,.int .i64 i),(28,.bool o)] [] []
def qf:Option Bool:=
 (AJ s i).bind fun c2=>
 (ri c2).bind fun r3=>
 if(!r3)=true then
  (AJ s i).bind fun c6=>
  (vD c6).bind fun r7=>
  if(!r7)=true then
   (AJ s i).bind fun c10=>
   (uG c10).bind fun r11=>
   some (!r11)
  else
   some false
 else
  some false
theorem vC{x:Bool}(h:qf s i=some x):aQ Pg GE 0 (cA PF 890) (EX .normal (gL s i x)) (wc s i):=by
 obtain⟨c2,bc2,h⟩:=aG h
 obtain⟨r3,br3,h⟩:=aG h
 have p5:=fun{sc F} (r:PS sc F)=>sv (uP (k:=.i64) underlying9 bc2)<|du (pw br3)<|r
 rcases aN h with⟨c4,h⟩|⟨c4,h⟩
 ·obtain⟨c6,bc6,h⟩:=aG h
  obtain⟨r7,br7,h⟩:=aG h
  have p9:=fun{sc F} (r:PS sc F)=>p5<|sg 6 c4<|sv (uP (k:=.i64) underlying9 bc6)<|du (wd br7)<|r
  rcases aN h with⟨c8,h⟩|⟨c8,h⟩
  ·obtain⟨c10,bc10,h⟩:=aG h
   obtain⟨r11,br11,h⟩:=aG h
   obtain rfl:=lf h
   exact bA KZ (p9<|sg 13 c8<|sv (uP (k:=.i64) underlying9 bc10)<|du (tD br11)<|eF .normal (gL s i (!r11)))<|by kernel_rfl
  ·obtain rfl:=lf h
   exact bA KZ (p9<|sg 13 c8<|eF .normal (gL s i false))<|by kernel_rfl
 ·obtain rfl:=lf h
  exact bA KZ (p5<|sg 6 c4<|eF .normal (gL s i false))<|by kernel_rfl
end
section
variable(s:ae)(i:Int)
def e8:aA:=bg 29 [(0,.str s),(3,.int .i64 i)] [] []
def e9(o:Unit⊕(Unit)):Exit:=match o with
 |(.inl _)=>.ret
 |(.inr _)=>.exit 0
def d7(o:Unit⊕(Unit)):aA:=match o with
 |(.inl o)=>bg 29 [(2,.bool false)] [] []
 |(.inr o)=>bg 29 [] [] []
def oD:Option (Int⊕(Unit⊕(Unit))):=
 if(decide (i<(s.length:Int)))=true then
  (qf s i).bind fun o12=>
  if o12=true then
   some (.inr (.inl ()))
  else
   some (.inl (ca (i+1)))
 else
  some (.inr (.inr ()))
def qg:Option (Unit⊕(Unit)):=loop (fun(zz:Int)=>oD s zz) i
theorem ue{y:Int⊕(Unit⊕(Unit))}(h:oD s i=some y):aQ Pg GE 0 (cA PF 55) (LQ (fun(zz:Int)=>e8 s zz) e9 d7 y) (e8 s i):=by
 rcases aN h with⟨c1,h⟩|⟨c1,h⟩
 ·obtain⟨o12,bo12,h⟩:=aG h
  have p14:=fun{sc F} (r:PS sc F)=>bU (oL underlying9 s)<|sg 0 c1<|qk 1<|cY (vC s i bo12)<|r
  rcases aN h with⟨c13,h⟩|⟨c13,h⟩
  ·obtain rfl:=lf h
   have z:=p14<|sg 0 c13<|eF (e9 (.inl ())) (d7 (.inl ()))
   exact iI KZ (by intro hx;cases hx) z<|by kernel_rfl
  ·obtain rfl:=lf h
   exact yz KZ (p14<|sg 0 c13<|eF .normal (e8 s (ca (i+1))))<|by kernel_rfl
 ·obtain rfl:=lf h
  have z:=bU (oL underlying9 s)<|sg 0 c1<|eF (e9 (.inr ())) (d7 (.inr ()))
  exact iI KZ (by intro hx;cases hx) z<|by kernel_rfl
theorem nH{x:Unit⊕(Unit)}(h:qg s i=some x):aQ Pg GE 0 (.loop (cA PF 55)) (EX (e9 x) (d7 x)) (e8 s i):=
 aQ.loop (S:=fun(zz:Int)=>e8 s zz) (ex:=e9) (s:=i) h fun zz y hy=>ue s zz hy
end
def oq(s:ae):Option Bool:=
 (qg s 0).bind fun o15=>match o15 with
 |(.inl o15)=>
  some false
 |(.inr o15)=>
  some true
theorem qh{s:ae}{r:Bool}(h:oq s=some r):CC Pg GE 164 [.str s] (.bool r) []:=by
 obtain⟨o15,bo15,h⟩:=aG h
 rcases o15 with o15|o15
 ·obtain rfl:=lf h
  have z:=cY (e:=.ret) (s1:=d7 (.inl o15)) (nH s 0 bo15)<|en (aI (rP (.bool false))<|trivial)
  exact cH KZ call164 func164 (c:=PF) rfl (aI trivial trivial) z<|by kernel_rfl
 ·obtain rfl:=lf h
  have z:=cY (e:=.exit 0) (s1:=d7 (.inr o15)) (nH s 0 bo15)<|en (aI (rP (.bool true))<|trivial)
  exact cH KZ call164 func164 (c:=PF) rfl (aI trivial trivial) z<|by kernel_rfl
noncomputable def Oe:Code:=f162.body.getD .skip
def KY:List Nat:=[]
section
variable(s:ae)
def EG:aA:=bg 31 [(0,.str s)] [] []
def mH(o:Bool):aA:=bg 31 [(0,.str s),(16,.bool o)] [] []
def zA:Option Bool:=
 (uI s).bind fun r1=>
 if(!r1)=true then
  some true
 else
  (AJ s 0).bind fun c3=>
  (vD c3).bind fun r4=>
  if(!r4)=true then
   some true
  else
   (oq s).bind fun r7=>
   some (!r7)
theorem Dy{x:Bool}(h:zA s=some x):aQ Pg GE 0 (cA Oe 12) (EX .normal (mH s x)) (EG s):=by
 obtain⟨r1,br1,h⟩:=aG h
 rcases aN h with⟨c2,h⟩|⟨c2,h⟩
 ·obtain rfl:=lf h
  exact bA KY (du (jS br1)<|sg 4 c2<|eF .normal (mH s true))<|by kernel_rfl
 ·obtain⟨c3,bc3,h⟩:=aG h
  obtain⟨r4,br4,h⟩:=aG h
  have p6:=fun{sc F} (r:PS sc F)=>du (jS br1)<|sg 4 c2<|sv (uP (k:=.i64) underlying9 bc3)<|du (wd br4)<|r
  rcases aN h with⟨c5,h⟩|⟨c5,h⟩
  ·obtain rfl:=lf h
   exact bA KY (p6<|sg 10 c5<|eF .normal (mH s true))<|by kernel_rfl
  ·obtain⟨r7,br7,h⟩:=aG h
   obtain rfl:=lf h
   exact bA KY (p6<|sg 10 c5<|du (qh br7)<|eF .normal (mH s (!r7)))<|by kernel_rfl
end
def Fq(s:ae):Option Bool:=
 (zA s).bind fun o8=>
 if o8=true then
  some false
 else
  if (!(s == ([73,110,116]:ae))) = true then
   if(!(s==([66,111,111,108]:ae)))=true then
    if(!(s==([67,101,108,108]:ae)))=true then
     some (!(s==([70,117,110]:ae)))
    else
     some false
   else
    some false
  else
   some false
theorem Hv{s:ae}{r:Bool}(h:Fq s=some r):CC Pg GE 162 [.str s] (.bool r) []:=by
 obtain⟨o8,bo8,h⟩:=aG h
 have p10:=fun{sc F} (r:PS sc F)=>qk 2<|cY (Dy s bo8)<|r
 rcases aN h with⟨c9,h⟩|⟨c9,h⟩
 ·obtain rfl:=lf h
  have z:=p10<|sg 0 c9<|en (aI (rP (.bool false))<|trivial)
  exact cH KY call162 func162 (c:=Oe) rfl (aI trivial trivial) z<|by kernel_rfl
 ·have p12:=fun{sc F} (r:PS sc F)=>p10<|sg 0 c9<|r
  rcases aN h with⟨c11,h⟩|⟨c11,h⟩
  ·have p14:=fun{sc F} (r:PS sc F)=>p12<|sg 3 c11<|r
   rcases aN h with⟨c13,h⟩|⟨c13,h⟩
   ·have p16:=fun{sc F} (r:PS sc F)=>p14<|sg 7 c13<|r
    rcases aN h with⟨c15,h⟩|⟨c15,h⟩
    ·obtain rfl:=lf h
     have z:=p16<|sg 11 c15<|en (aI (rP (.bool (!(s==([70,117,110]:ae)))))<|trivial)
     exact cH KY call162 func162 (c:=Oe) rfl (aI trivial trivial) z<|by kernel_rfl
    ·obtain rfl:=lf h
     have z:=p16<|sg 11 c15<|en (aI (rP (.bool false))<|trivial)
     exact cH KY call162 func162 (c:=Oe) rfl (aI trivial trivial) z<|by kernel_rfl
   ·obtain rfl:=lf h
    have z:=p14<|sg 7 c13<|en (aI (rP (.bool false))<|trivial)
    exact cH KY call162 func162 (c:=Oe) rfl (aI trivial trivial) z<|by kernel_rfl
  ·obtain rfl:=lf h
   have z:=p12<|sg 3 c11<|en (aI (rP (.bool false))<|trivial)
   exact cH KY call162 func162 (c:=Oe) rfl (aI trivial trivial) z<|by kernel_rfl
noncomputable def PG:Code:=f165.body.getD .skip
def JL:List Nat:=[]
section
variable(s:ae)(i:Int)
def F8:aA:=bg 32 [(0,.str s),(3,.int .i64 i)] [] []
def kD(o:Bool):aA:=bg 32 [(0,.str s),(3,.int .i64 i),(31,.bool o)] [] []
def BA:Option Bool:=
 (AJ s i).bind fun c2=>
 (ri c2).bind fun r3=>
 if (!r3) = true then
  if(i==0)=true then
   some true
  else
   (AJ s i).bind fun c8=>
   (uG c8).bind fun r9=>
   if(!r9)=true then
    (AJ s i).bind fun c12=>
    some (c12 !=95)
   else
    some false
 else
  some false
theorem EH{x:Bool}(h:BA s i=some x):aQ Pg GE 0 (cA PG 890) (EX .normal (kD s i x)) (F8 s i):=by
 obtain⟨c2,bc2,h⟩:=aG h
 obtain⟨r3,br3,h⟩:=aG h
 have p5:=fun{sc F} (r:PS sc F)=>sv (uP (k:=.i64) underlying9 bc2)<|du (pw br3)<|r
 rcases aN h with⟨c4,h⟩|⟨c4,h⟩
 ·have p7:=fun{sc F} (r:PS sc F)=>p5<|sg 6 c4<|r
  rcases aN h with⟨c6,h⟩|⟨c6,h⟩
  ·obtain rfl:=lf h
   exact bA JL (p7<|sg 9 c6<|eF .normal (kD s i true))<|by kernel_rfl
  ·obtain⟨c8,bc8,h⟩:=aG h
   obtain⟨r9,br9,h⟩:=aG h
   have p11:=fun{sc F} (r:PS sc F)=>p7<|sg 9 c6<|sv (uP (k:=.i64) underlying9 bc8)<|du (tD br9)<|r
   rcases aN h with⟨c10,h⟩|⟨c10,h⟩
   ·obtain⟨c12,bc12,h⟩:=aG h
    obtain rfl:=lf h
    exact bA JL (p11<|sg 15 c10<|sv (uP (k:=.i64) underlying9 bc12)<|eF .normal (kD s i (c12 !=95)))<|by kernel_rfl
   ·obtain rfl:=lf h
    exact bA JL (p11<|sg 15 c10<|eF .normal (kD s i false))<|by kernel_rfl
 ·obtain rfl:=lf h
  exact bA JL (p5<|sg 6 c4<|eF .normal (kD s i false))<|by kernel_rfl
end
section
variable(s:ae)(i:Int)
def kE:aA:=bg 32 [(0,.str s),(3,.int .i64 i)] [] []
def kF(o:Unit⊕(Unit)):Exit:=match o with
 |(.inl _)=>.ret
 |(.inr _)=>.exit 0
def iX(o:Unit⊕(Unit)):aA:=match o with
 |(.inl o)=>bg 32 [(2,.bool false)] [] []
 |(.inr o)=>bg 32 [] [] []
def xN:Option (Int⊕(Unit⊕(Unit))):=
 if(decide (i<(s.length:Int)))=true then
  (BA s i).bind fun o13=>
  if o13=true then
   some (.inr (.inl ()))
  else
   some (.inl (ca (i+1)))
 else
  some (.inr (.inr ()))
def BB:Option (Unit⊕(Unit)):=loop (fun(zz:Int)=>xN s zz) i
theorem Dz{y:Int⊕(Unit⊕(Unit))}(h:xN s i=some y):aQ Pg GE 0 (cA PG 55) (LQ (fun(zz:Int)=>kE s zz) kF iX y) (kE s i):=by
 rcases aN h with⟨c1,h⟩|⟨c1,h⟩
 ·obtain⟨o13,bo13,h⟩:=aG h
  have p15:=fun{sc F} (r:PS sc F)=>bU (oL underlying9 s)<|sg 0 c1<|qk 1<|cY (EH s i bo13)<|r
  rcases aN h with⟨c14,h⟩|⟨c14,h⟩
  ·obtain rfl:=lf h
   have z:=p15<|sg 0 c14<|eF (kF (.inl ())) (iX (.inl ()))
   exact iI JL (by intro hx;cases hx) z<|by kernel_rfl
  ·obtain rfl:=lf h
   exact yz JL (p15<|sg 0 c14<|eF .normal (kE s (ca (i+1))))<|by kernel_rfl
 ·obtain rfl:=lf h
  have z:=bU (oL underlying9 s)<|sg 0 c1<|eF (kF (.inr ())) (iX (.inr ()))
  exact iI JL (by intro hx;cases hx) z<|by kernel_rfl
theorem wh{x:Unit⊕(Unit)}(h:BB s i=some x):aQ Pg GE 0 (.loop (cA PG 55)) (EX (kF x) (iX x)) (kE s i):=
 aQ.loop (S:=fun(zz:Int)=>kE s zz) (ex:=kF) (s:=i) h fun zz y hy=>Dz s zz hy
end
def Hw(s:ae):Option Bool:=
 (BB s 0).bind fun o16=>match o16 with
 |(.inl o16)=>
  some false
 |(.inr o16)=>
  some true
theorem IM{s:ae}{r:Bool}(h:Hw s=some r):CC Pg GE 165 [.str s] (.bool r) []:=by
 obtain⟨o16,bo16,h⟩:=aG h
 rcases o16 with o16|o16
 ·obtain rfl:=lf h
  have z:=cY (e:=.ret) (s1:=iX (.inl o16)) (wh s 0 bo16)<|en (aI (rP (.bool false))<|trivial)
  exact cH JL call165 func165 (c:=PG) rfl (aI trivial trivial) z<|by kernel_rfl
 ·obtain rfl:=lf h
  have z:=cY (e:=.exit 0) (s1:=iX (.inr o16)) (wh s 0 bo16)<|en (aI (rP (.bool true))<|trivial)
  exact cH JL call165 func165 (c:=PG) rfl (aI trivial trivial) z<|by kernel_rfl
noncomputable def K8:Code:=f143.body.getD .skip
def CU:List Nat:=[]
section
variable(first:ae)(rest:ae)(more:Bool)
def F4:aA:=bg 52 [(3,.str first),(4,.str rest),(5,.bool more)] [] []
def kv(o:Bool):aA:=bg 52 [(4,.str rest),(5,.bool more),(31,.bool o)] [] []
def Bq:Option Bool:=
 (Hu first).bind fun r3=>
 if (!r3) = true then
  (Fq first).bind fun r5=>
  if(!r5)=true then
   if(!(first==([118]:ae)))=true then
    some true
   else
    some (!more)
  else
   some false
 else
  some false
theorem Ez{x:Bool}(h:Bq first more=some x):aQ Pg GE 0 (cA K8 60) (EX .normal (kv rest more x)) (F4 first rest more):=by
 obtain⟨r3,br3,h⟩:=aG h
 rcases aN h with⟨c4,h⟩|⟨c4,h⟩
 ·obtain⟨r5,br5,h⟩:=aG h
  have p7:=fun{sc F} (r:PS sc F)=>du (Bz br3)<|sg 4 c4<|du (Hv br5)<|r
  rcases aN h with⟨c6,h⟩|⟨c6,h⟩
  ·have p9:=fun{sc F} (r:PS sc F)=>p7<|sg 9 c6<|r
   rcases aN h with⟨c8,h⟩|⟨c8,h⟩
   ·obtain rfl:=lf h
    exact bA CU (p9<|sg 12 c8<|eF .normal (kv rest more true))<|by kernel_rfl
   ·obtain rfl:=lf h
    exact bA CU (p9<|sg 12 c8<|eF .normal (kv rest more (!more)))<|by kernel_rfl
  ·obtain rfl:=lf h
   exact bA CU (p7<|sg 9 c6<|eF .normal (kv rest more false))<|by kernel_rfl
 ·obtain rfl:=lf h
  exact bA CU (du (Bz br3)<|sg 4 c4<|eF .normal (kv rest more false))<|by kernel_rfl
end
section
variable(rest:ae)(more:Bool)(part:ae)
def F5:aA:=bg 52 [(4,.str rest),(5,.bool more),(6,.str part)] [] []
def nZ(o:Bool):aA:=bg 52 [(4,.str rest),(5,.bool more),(51,.bool o)] [] []
def Br:Option Bool:=
 (uI part).bind fun r15=>
 if(!r15)=true then
  some true
 else
  (oq part).bind fun r17=>
  if(!r17)=true then
   (Hw part).bind fun r20=>
   some (!r20)
  else
   some false
theorem EA{x:Bool}(h:Br part=some x):aQ Pg GE 0 (cA K8 8062) (EX .normal (nZ rest more x)) (F5 rest more part):=by
 obtain⟨r15,br15,h⟩:=aG h
 rcases aN h with⟨c16,h⟩|⟨c16,h⟩
 ·obtain rfl:=lf h
  exact bA CU (du (jS br15)<|sg 4 c16<|eF .normal (nZ rest more true))<|by kernel_rfl
 ·obtain⟨r17,br17,h⟩:=aG h
  have p19:=fun{sc F} (r:PS sc F)=>du (jS br15)<|sg 4 c16<|du (qh br17)<|r
  rcases aN h with⟨c18,h⟩|⟨c18,h⟩
  ·obtain⟨r20,br20,h⟩:=aG h
   obtain rfl:=lf h
   exact bA CU (p19<|sg 8 c18<|du (IM br20)<|eF .normal (nZ rest more (!r20)))<|by kernel_rfl
  ·obtain rfl:=lf h
   exact bA CU (p19<|sg 8 c18<|eF .normal (nZ rest more false))<|by kernel_rfl
end
section
variable(rest:ae)(more:Bool)
def kw:aA:=bg 52 [(4,.str rest),(5,.bool more)] [] []
def ky(o:Unit⊕(Unit)):Exit:=match o with
 |(.inl _)=>.ret
 |(.inr _)=>.exit 0
def iV(o:Unit⊕(Unit)):aA:=match o with
 |(.inl o)=>bg 52 [(2,.int .i64 3)] [] []
 |(.inr o)=>bg 52 [] [] []
def xJ:Option ((ae×Bool)⊕(Unit⊕(Unit))):=
 if more=true then
  (EC rest).bind fun r14=>
  (Br r14.1).bind fun o21=>
  if o21=true then
   some (.inr (.inl ()))
  else
   some (.inl (r14.2.1,r14.2.2))
 else
  some (.inr (.inr ()))
def Bt:Option (Unit⊕(Unit)):=loop (fun(zz:ae×Bool)=>xJ zz.1 zz.2) (rest,more)
theorem Dq{y:(ae×Bool)⊕(Unit⊕(Unit))}(h:xJ rest more=some y):aQ Pg GE 0 (cA K8 251) (LQ (fun(zz:ae×Bool)=>kw zz.1 zz.2) ky iV y) (kw rest more):=by
 rcases aN h with⟨c13,h⟩|⟨c13,h⟩
 ·obtain⟨r14,br14,h⟩:=aG h
  obtain⟨o21,bo21,h⟩:=aG h
  have p23:=fun{sc F} (r:PS sc F)=>sg 0 c13<|du (Dv br14)<|qk 0<|cY (EA r14.2.1 r14.2.2 r14.1 bo21)<|r
  rcases aN h with⟨c22,h⟩|⟨c22,h⟩
  ·obtain rfl:=lf h
   have z:=p23<|sg 0 c22<|eF (ky (.inl ())) (iV (.inl ()))
   exact iI CU (by intro hx;cases hx) z<|by kernel_rfl
  ·obtain rfl:=lf h
   exact yz CU (p23<|sg 0 c22<|eF .normal (kw r14.2.1 r14.2.2))<|by kernel_rfl
 ·obtain rfl:=lf h
  have z:=sg 0 c13<|eF (ky (.inr ())) (iV (.inr ()))
  exact iI CU (by intro hx;cases hx) z<|by kernel_rfl
theorem vY{x:Unit⊕(Unit)}(h:Bt rest more=some x):aQ Pg GE 0 (.loop (cA K8 251)) (EX (ky x) (iV x)) (kw rest more):=
 aQ.loop (S:=fun(zz:ae×Bool)=>kw zz.1 zz.2) (ex:=ky) (s:=(rest,more)) h fun zz y hy=>Dq zz.1 zz.2 hy
end
def Cl(s:ae):Option Int:=
 if(decide ((s.length:Int)>120))=true then
  some 3
 else
  (EC s).bind fun r2=>
  (Bq r2.1 r2.2.2).bind fun o10=>
  if o10=true then
   some 3
  else
   (Bt r2.2.1 r2.2.2).bind fun o24=>match o24 with
   |(.inl o24)=>
    some 3
   |(.inr o24)=>
    some 0
theorem Bu{s:ae}{r:Int}(h:Cl s=some r):CC Pg GE 143 [.str s] (.int .i64 r) []:=by
 rcases aN h with⟨c1,h⟩|⟨c1,h⟩
 ·obtain rfl:=lf h
  have z:=bU (oL underlying9 s)<|sg 0 c1<|en (aI (rP (.int .i64 3))<|trivial)
  exact cH CU call143 func143 (c:=K8) rfl (aI trivial trivial) z<|by kernel_rfl
 ·obtain⟨r2,br2,h⟩:=aG h
  obtain⟨o10,bo10,h⟩:=aG h
  have p12:=fun{sc F} (r:PS sc F)=>bU (oL underlying9 s)<|sg 0 c1<|du (Dv br2)<|qk 1<|cY (Ez r2.1 r2.2.1 r2.2.2 bo10)<|r
  rcases aN h with⟨c11,h⟩|⟨c11,h⟩
  ·obtain rfl:=lf h
   have z:=p12<|sg 0 c11<|en (aI (rP (.int .i64 3))<|trivial)
   exact cH CU call143 func143 (c:=K8) rfl (aI trivial trivial) z<|by kernel_rfl
  ·obtain⟨o24,bo24,h⟩:=aG h
   rcases o24 with o24|o24
   ·obtain rfl:=lf h
    have z:=p12<|sg 0 c11<|cY (e:=.ret) (s1:=iV (.inl o24)) (vY r2.2.1 r2.2.2 bo24)<|en (aI (rP (.int .i64 3))<|trivial)
    exact cH CU call143 func143 (c:=K8) rfl (aI trivial trivial) z<|by kernel_rfl
   ·obtain rfl:=lf h
    have z:=p12<|sg 0 c11<|cY (e:=.exit 0) (s1:=iV (.inr o24)) (vY r2.2.1 r2.2.2 bo24)<|en (aI (rP (.int .i64 0))<|trivial)
    exact cH CU call143 func143 (c:=K8) rfl (aI trivial trivial) z<|by kernel_rfl
noncomputable def Vt:Code:=f142.body.getD .skip
def Ve:List Nat:=[]
def zX(a:ae):Option Bool:=
 (Cl a).bind fun r1=>
 some (r1 !=0)
theorem D0{a:ae}{r:Bool}(h:zX a=some r):CC Pg GE 142 [.str a] (.bool r) []:=by
 obtain⟨r1,br1,h⟩:=aG h
 obtain rfl:=lf h
 have z:=du (Bu br1)<|en (aI (rP (.bool (r1 !=0)))<|trivial)
 exact cH Ve call142 func142 (c:=Vt) rfl (aI trivial trivial) z<|by kernel_rfl
noncomputable def Ri:Code:=f155.body.getD .skip
def Pl:List Nat:=[10,17]
section
variable(s:waA)(t7:Int)(t8:Int)
def dD:aA:=bg 19 [(0,sl cS s),(1,.func (.func 142) [] []),(7,.int .i64 t7),(8,.int .i64 t8)] [] []
def dE(o:Int⊕(Unit)):Exit:=match o with
 |(.inl _)=>.ret
 |(.inr _)=>.exit 0
def cJ(o:Int⊕(Unit)):aA:=match o with
 |(.inl o)=>bg 19 [(4,.int .i64 o)] [] []
 |(.inr o)=>bg 19 [] [] []
def kf:Option (Int⊕(Int⊕(Unit))):=
 if(decide (t8<t7))=true then
  (fJ s t8).bind fun x2=>
  (zX x2).bind fun r3=>
  if r3=true then
   some (.inr (.inl t8))
  else
   some (.inl (ca (t8+1)))
 else
  some (.inr (.inr ()))
def lN:Option (Int⊕(Unit)):=loop (fun(zz:Int)=>kf s t7 zz) t8
theorem pZ{y:Int⊕(Int⊕(Unit))}(h:kf s t7 t8=some y):aQ Pg GE 0 (cA Ri 55) (LQ (fun(zz:Int)=>dD s t7 zz) dE cJ y) (dD s t7 t8):=by
 rcases aN h with⟨c1,h⟩|⟨c1,h⟩
 ·obtain⟨x2,bx2,h⟩:=aG h
  obtain⟨r3,br3,h⟩:=aG h
  have p5:=fun{sc F} (r:PS sc F)=>sg 0 c1<|sv (eu.ia (k:=.i64) bx2)<|sv (de GB (.str x2) [])<|du (D0 br3)<|r
  rcases aN h with⟨c4,h⟩|⟨c4,h⟩
  ·obtain rfl:=lf h
   have z:=p5<|sg 0 c4<|eF (dE (.inl t8)) (cJ (.inl t8))
   exact iI Pl (by intro hx;cases hx) z<|by kernel_rfl
  ·obtain rfl:=lf h
   exact yz Pl (p5<|sg 0 c4<|eF .normal (dD s t7 (ca (t8+1))))<|by kernel_rfl
 ·obtain rfl:=lf h
  have z:=sg 0 c1<|eF (dE (.inr ())) (cJ (.inr ()))
  exact iI Pl (by intro hx;cases hx) z<|by kernel_rfl
theorem jX{x:Int⊕(Unit)}(h:lN s t7 t8=some x):aQ Pg GE 0 (.loop (cA Ri 55)) (EX (dE x) (cJ x)) (dD s t7 t8):=
 aQ.loop (S:=fun(zz:Int)=>dD s t7 zz) (ex:=dE) (s:=t8) h fun zz y hy=>pZ s t7 zz hy
end
def nI(s:waA):Option Int:=
 (lN s (s.length:Int) 0).bind fun o6=>match o6 with
 |(.inl o6)=>
  some o6
 |(.inr o6)=>
  some (-1)
theorem sT{s:waA}{r:Int}(h:nI s=some r):CC Pg GE 155 [sl cS s,.func (.func 142) [] []] (.int .i64 r) []:=by
 obtain⟨o6,bo6,h⟩:=aG h
 rcases o6 with o6|o6
 ·obtain rfl:=lf h
  have z:=bU (eu.ln s)<|cY (e:=.ret) (s1:=cJ (.inl o6)) (jX s (s.length:Int) 0 bo6)<|en (aI (rP (.int .i64 o6))<|trivial)
  exact cH Pl call155 func155 (c:=Ri) rfl (aI (am bO s) (aI (aI trivial trivial) trivial)) z<|by kernel_rfl
 ·obtain rfl:=lf h
  have z:=bU (eu.ln s)<|cY (e:=.exit 0) (s1:=cJ (.inr o6)) (jX s (s.length:Int) 0 bo6)<|en (aI (rP (.int .i64 (-1)))<|trivial)
  exact cH Pl call155 func155 (c:=Ri) rfl (aI (am bO s) (aI (aI trivial trivial) trivial)) z<|by kernel_rfl
noncomputable def Vs:Code:=f141.body.getD .skip
def Vd:List Nat:=[]
def lM(s:waA):Option Bool:=
 (nI s).bind fun r1=>
 some (decide (r1>=0))
theorem qG{s:waA}{r:Bool}(h:lM s=some r):CC Pg GE 141 [sl cS s,.func (.func 142) [] []] (.bool r) []:=by
 obtain⟨r1,br1,h⟩:=aG h
 obtain rfl:=lf h
 have z:=du (sT br1)<|en (aI (rP (.bool (decide (r1>=0))))<|trivial)
 exact cH Vd call141 func141 (c:=Vs) rfl (aI (am bO s) (aI (aI trivial trivial) trivial)) z<|by kernel_rfl
noncomputable def Mr:Code:=f119.body.getD .skip
def Id:List Nat:=[14,36]
section
variable(e:ag)(s:ax)(v:waA)
def D1:aA:=bg 54 [(2,.eptr (af e)),(3,.eptr (aC s)),(5,sl cS v)] [.dead,.dead] [((5,0),9)]
def pL(o:waA):aA:=bg 54 [(2,.eptr (af e)),(5,sl cS o)] [.dead,.dead] [((5,0),9)]
def yc:Option waA:=
 if s.name=true then
  (app v ([e.Name]:List ae)).bind fun l4=>
  some l4
 else
  some v
theorem CH{x:waA}(h:yc e s v=some x):aQ Pg GE 0 (cA Mr 14) (EX .normal (pL e x)) (D1 e s v):=by
 have p3:=fun{sc F} (r:PS sc F)=>sv (yp s)<|sv (AK s)<|r
 rcases aN h with⟨c2,h⟩|⟨c2,h⟩
 ·obtain⟨l4,bl4,h⟩:=aG h
  obtain rfl:=lf h
  exact bA Id (p3<|sg 0 c2<|sv (fg e)<|sv (gj e)<|sv (eu.mk' (v:=PVal.str) Mj ([e.Name]:List ae) 1 (by kernel_rfl))<|sv (eu.ap bl4)<|eF .normal (pL e l4))<|by kernel_rfl
 ·obtain rfl:=lf h
  exact bA Id (p3<|sg 0 c2<|eF .normal (pL e v))<|by kernel_rfl
end
section
variable(e:ag)(v:waA)
def D2:aA:=bg 54 [(2,.eptr (af e)),(5,sl cS v)] [.dead,.dead] [((5,0),9)]
def pM(o:Bool):aA:=bg 54 [(2,.eptr (af e)),(5,sl cS v),(6,.bool o)] [.dead,.dead] [((5,0),9)]
def yd:Option Bool:=
 (pI e.Params).bind fun r6=>
 (sX r6).bind fun r7=>
 if r7=true then
  some true
 else
  (su e.Alts).bind fun r10=>
  (sX r10).bind fun r11=>
  some r11
theorem CI{x:Bool}(h:yd e=some x):aQ Pg GE 0 (cA Mr 30) (EX .normal (pM e v x)) (D2 e v):=by
 obtain⟨r6,br6,h⟩:=aG h
 obtain⟨r7,br7,h⟩:=aG h
 have p9:=fun{sc F} (r:PS sc F)=>sv (bM e)<|sv (bN e)<|du (od br6)<|du (rO br7)<|r
 rcases aN h with⟨c8,h⟩|⟨c8,h⟩
 ·obtain rfl:=lf h
  exact bA Id (p9<|sg 5 c8<|eF .normal (pM e v true))<|by kernel_rfl
 ·obtain⟨r10,br10,h⟩:=aG h
  obtain⟨r11,br11,h⟩:=aG h
  obtain rfl:=lf h
  exact bA Id (p9<|sg 5 c8<|sv (aH e)<|sv (aJ e)<|du (xz br10)<|du (rO br11)<|eF .normal (pM e v r11))<|by kernel_rfl
end
section
variable(t30:waD)(t31:Int)(v:waA)(doubled:Bool)(t32:Int)
def gO:aA:=bg 54 [(5,sl cS v),(6,.bool doubled),(30,sl ay t30),(31,.int .i64 t31),(32,.int .i64 t32)] [.dead,.dead] [((5,0),9)]
def pN(o:waA×Bool):aA:=bg 54 [(5,sl cS o.1),(6,.bool o.2)] [.dead,.dead] [((5,0),9)]
def uY:Option ((waA×Bool×Int)⊕((waA×Bool))):=
 if(decide (t32<t31))=true then
  (fJ t30 t32).bind fun x14=>
  (app v ([x14.Con]:List ae)).bind fun l15=>
  (app l15 x14.Names).bind fun l16=>
  if doubled=true then
   some (.inl (l16,true,ca (t32+1)))
  else
   (sX x14.Names).bind fun r19=>
   some (.inl (l16,r19,ca (t32+1)))
 else
  some (.inr (v,doubled))
def ye:Option ((waA×Bool)):=loop (fun(zz:waA×Bool×Int)=>uY t30 t31 zz.1 zz.2.1 zz.2.2) (v,doubled,t32)
theorem A6{y:(waA×Bool×Int)⊕((waA×Bool))}(h:uY t30 t31 v doubled t32=some y):aQ Pg GE 0 (cA Mr 503) (LQ (fun(zz:waA×Bool×Int)=>gO t30 t31 zz.1 zz.2.1 zz.2.2) (fun _=>.exit 0) pN y) (gO t30 t31 v doubled t32):=by
 rcases aN h with⟨c13,h⟩|⟨c13,h⟩
 ·obtain⟨x14,bx14,h⟩:=aG h
  obtain⟨l15,bl15,h⟩:=aG h
  obtain⟨l16,bl16,h⟩:=aG h
  have p18:=fun{sc F} (r:PS sc F)=>sg 0 c13<|sv (fo.ia (k:=.i64) bx14)<|sv (mF x14)<|sx Gd<|sx (ji x14)<|IY [0,0,2,6,15,0,32,127,255]<|ss<|sv (eu.mk' (v:=PVal.str) Mj ([x14.Con]:List ae) 1 (by kernel_rfl))<|sv (eu.ap bl15)<|ss<|sv (eu.ap bl16)<|r
  rcases aN h with⟨c17,h⟩|⟨c17,h⟩
  ·obtain rfl:=lf h
   have z:=p18<|sg 2 c17<|rx 0 .normal (gO t30 t31 l16 true (ca (t32+1))) rfl (dv (aI (up (am bO l16)) (aI trivial (aI (up (am bL t30)) (aI trivial (aI trivial trivial)))))) (aI trivial (aI trivial trivial))
   exact d4 (A:=Id) mixed z<|by kernel_rfl
  ·obtain⟨r19,br19,h⟩:=aG h
   obtain rfl:=lf h
   have z:=p18<|sg 2 c17<|ss<|du (rO br19)<|rx 0 .normal (gO t30 t31 l16 r19 (ca (t32+1))) rfl (dv (aI (up (am bO l16)) (aI trivial (aI (up (am bL t30)) (aI trivial (aI trivial trivial)))))) (aI trivial (aI trivial trivial))
   exact d4 (A:=Id) mixed z<|by kernel_rfl
 ·obtain rfl:=lf h
  have z:=sg 0 c13<|eF (.exit 0) (pN (v,doubled))
  exact iI Id (by intro hx;cases hx) z<|by kernel_rfl
theorem CJ{x:(waA×Bool)}(h:ye t30 t31 v doubled t32=some x):aQ Pg GE 0 (.loop (cA Mr 503)) (EX (.exit 0) (pN x)) (gO t30 t31 v doubled t32):=
 aQ.loop (S:=fun(zz:waA×Bool×Int)=>gO t30 t31 zz.1 zz.2.1 zz.2.2) (ex:=(fun _=>.exit 0)) (s:=(v,doubled,t32)) h fun zz y hy=>A6 t30 t31 zz.1 zz.2.1 zz.2.2 hy
end
def DZ(e:ag)(s:ax):Option Int:=
 (pI e.Params).bind fun r1=>
 (yc e s r1).bind fun o5=>
 (yd e).bind fun o12=>
 (ye e.Alts (e.Alts.length:Int) o5 o12 0).bind fun o20=>
 (lM o20.1).bind fun r21=>
 if r21=true then
  some 3
 else
  if o20.2=true then
   some 4
  else
   some 0
theorem Gi{e:ag}{s:ax}{r:Int}(h:DZ e s=some r):CC Pg GE 119 [.agg (af e),.agg (aC s)] (.int .i64 r) []:=by
 obtain⟨r1,br1,h⟩:=aG h
 obtain⟨o5,bo5,h⟩:=aG h
 obtain⟨o12,bo12,h⟩:=aG h
 obtain⟨o20,bo20,h⟩:=aG h
 obtain⟨r21,br21,h⟩:=aG h
 have p23:=fun{sc F} (r:PS sc F)=>se (dM e)<|se (xP s)<|sv (bM e)<|sv (bN e)<|du (od br1)<|qk 0<|cY (CH e s r1 bo5)<|qk 0<|cY (CI e o5 bo12)<|sv (aH e)<|sv (aJ e)<|bU (fo.ln e.Alts)<|cY (CJ e.Alts (e.Alts.length:Int) o5 o12 0 bo20)<|du (qG br21)<|r
 rcases aN h with⟨c22,h⟩|⟨c22,h⟩
 ·obtain rfl:=lf h
  have z:=p23<|sg 0 c22<|en (aI (rP (.int .i64 3))<|trivial)
  exact cH Id call119 func119 (c:=Mr) rfl (aI (az e) (aI (bF s) trivial)) z<|by kernel_rfl
 ·have p25:=fun{sc F} (r:PS sc F)=>p23<|sg 0 c22<|r
  rcases aN h with⟨c24,h⟩|⟨c24,h⟩
  ·obtain rfl:=lf h
   have z:=p25<|sg 0 c24<|en (aI (rP (.int .i64 4))<|trivial)
   exact cH Id call119 func119 (c:=Mr) rfl (aI (az e) (aI (bF s) trivial)) z<|by kernel_rfl
  ·obtain rfl:=lf h
   have z:=p25<|sg 0 c24<|en (aI (rP (.int .i64 0))<|trivial)
   exact cH Id call119 func119 (c:=Mr) rfl (aI (az e) (aI (bF s) trivial)) z<|by kernel_rfl
abbrev qP:=(ah->Option Int)
abbrev u6(R:qP):Prop:=∀(t:ah) (r:Int),R t=some r->CC Pg GE 144 [.agg (ai t)] (.int .i64 r) []
noncomputable def SM:Code:=f144.body.getD .skip
def Sy:List Nat:=[]
section
variable(R86:qP)(t7:waC)(t8:Int)(n:Int)(t9:Int)
def kb:aA:=bg 20 [(3,.int .i64 n),(7,sl ai t7),(8,.int .i64 t8),(9,.int .i64 t9)] [.dead] []
def qL(o:Int):aA:=bg 20 [(3,.int .i64 o)] [.dead] []
def wG:Option ((Int×Int)⊕(Int)):=
 if(decide (t9<t8))=true then
  (fJ t7 t9).bind fun x2=>
  (R86 x2).bind fun r3=>
  some (.inl ((if r3>n then r3 else n),ca (t9+1)))
 else
  some (.inr n)
def Ag:Option Int:=loop (fun(zz:Int×Int)=>wG R86 t7 t8 zz.1 zz.2) (n,t9)
theorem CS(hR86:u6 R86){y:(Int×Int)⊕(Int)}(h:wG R86 t7 t8 n t9=some y):aQ Pg GE 0 (cA SM 119) (LQ (fun(zz:Int×Int)=>kb t7 t8 zz.1 zz.2) (fun _=>.exit 0) qL y) (kb t7 t8 n t9):=by
 rcases aN h with⟨c1,h⟩|⟨c1,h⟩
 ·obtain⟨x2,bx2,h⟩:=aG h
  obtain⟨r3,br3,h⟩:=aG h
  obtain rfl:=lf h
  have z:=sg 0 c1<|sv (d5.ia (k:=.i64) bx2)<|sv (ku x2)<|sx Na<|sx (qB x2)<|sv (jO x2 [])<|du (hR86 _ _ br3)<|rx 0 .normal (kb t7 t8 (if r3>n then r3 else n) (ca (t9+1))) rfl (dv (aI trivial (aI (up (am aE t7)) (aI trivial (aI trivial trivial))))) (aI trivial trivial)
  exact d4 (A:=Sy) mixed z<|by kernel_rfl
 ·obtain rfl:=lf h
  have z:=sg 0 c1<|eF (.exit 0) (qL n)
  exact iI Sy (by intro hx;cases hx) z<|by kernel_rfl
theorem Ea(hR86:u6 R86){x:Int}(h:Ag R86 t7 t8 n t9=some x):aQ Pg GE 0 (.loop (cA SM 119)) (EX (.exit 0) (qL x)) (kb t7 t8 n t9):=
 aQ.loop (S:=fun(zz:Int×Int)=>kb t7 t8 zz.1 zz.2) (ex:=(fun _=>.exit 0)) (s:=(n,t9)) h fun zz y hy=>CS R86 t7 t8 zz.1 zz.2 hR86 hy
end
def BK(R86:qP)(t:ah):Option Int:=
 (Ag R86 t.Args (t.Args.length:Int) 0 0).bind fun o4=>
 some (ca (o4+1))
theorem Gj(R86:qP)(hR86:u6 R86){t:ah}{r:Int}(h:BK R86 t=some r):CC Pg GE 144 [.agg (ai t)] (.int .i64 r) []:=by
 obtain⟨o4,bo4,h⟩:=aG h
 obtain rfl:=lf h
 have z:=se (py t)<|sv (dy t)<|sv (dz t)<|bU (d5.ln t.Args)<|cY (Ea R86 t.Args (t.Args.length:Int) 0 0 hR86 bo4)<|en (aI (rP (.int .i64 (ca (o4+1))))<|trivial)
 exact cH Sy call144 func144 (c:=SM) rfl (aI (aE t) trivial) z<|by kernel_rfl
def BL:(ah->Option Int)->(ah)->Option Int:=fun(rec:ah->Option Int) (x:ah)=>BK (fun t=>rec t) x
def FD(t:ah):Option Int:=uc BL t
theorem H9{t:ah}{r:Int}(h:FD t=some r):CC Pg GE 144 [.agg (ai t)] (.int .i64 r) []:=
 fk (F:=BL) (M:=fun(x:ah) (r:Int)=>CC Pg GE 144 [.agg (ai x)] (.int .i64 r) []) (fun rec hrec x r h=>Gj _ (fun t r h=>hrec t r h) h) h
end Go.Proofs.YtkdahfeiedaahaaGreatDoor
