/- PROVED: a part of the proof. Conditions: none. -/
import Derived.Test.YtggeppllafbidaaGreatDoorPkB13
noncomputable section
namespace Go.Proofs.YtggeppllafbidaaGreatDoor
open Go Go.Proofs.Tryz
set_option linter.unusedVariables false
set_option maxRecDepth 100000
noncomputable def Iy:Code:=f133.body.getD .skip
def EI:List Nat:=[]
section
variable(t:ae)
def Ab:aq:=aP 39 [(1,.eptr (af t))] [.dead] []
def f0(o:Bool):aq:=aP 39 [(38,.bool o)] [.dead] []
def uo:Option Bool:=
 if(decide ((t.Args.length:Int)<2))=true then
  some true
 else
  if(decide ((t.Args.length:Int)>7))=true then
   some true
  else
   if((t.Names.length:Int)!=0)=true then
    some ((t.Names.length:Int)!=(cf ((t.Args.length:Int) - 1)))
   else
    some false
theorem y4{x:Bool}(h:uo t=some x):aC Pg GE 0 (cA Iy 892) (EX .normal (f0 x)) (Ab t):=by
 have p8:=fun{sc F} (r:PS sc F)=>sv (aL t)<|sv (aM t)<|cx (dF.ln t.Args)<|r
 rcases aT h with⟨c7,h⟩|⟨c7,h⟩
 ·obtain rfl:=lf h
  exact ct EI (p8<|sg 5 c7<|eF .normal (f0 true))<|by kernel_rfl
 ·have p10:=fun{sc F} (r:PS sc F)=>p8<|sg 5 c7<|sv (aL t)<|sv (aM t)<|cx (dF.ln t.Args)<|r
  rcases aT h with⟨c9,h⟩|⟨c9,h⟩
  ·obtain rfl:=lf h
   exact ct EI (p10<|sg 11 c9<|eF .normal (f0 true))<|by kernel_rfl
  ·have p12:=fun{sc F} (r:PS sc F)=>p10<|sg 11 c9<|sv (aY t)<|sv (aZ t)<|cx (cn.ln t.Names)<|r
   rcases aT h with⟨c11,h⟩|⟨c11,h⟩
   ·obtain rfl:=lf h
    exact ct EI (p12<|sg 16 c11<|sv (aY t)<|sv (aZ t)<|cx (cn.ln t.Names)<|sv (aL t)<|sv (aM t)<|cx (dF.ln t.Args)<|eF .normal (f0 ((t.Names.length:Int)!=(cf ((t.Args.length:Int) - 1)))))<|by kernel_rfl
   ·obtain rfl:=lf h
    exact ct EI (p12<|sg 16 c11<|eF .normal (f0 false))<|by kernel_rfl
end
def AG(t:ae):Option Int:=
 if(t.Op==4)=true then
  if(decide ((t.Args.length:Int)>6))=true then
   some 13
  else
   some 0
 else
  if(t.Op==6)=true then
   (uo t).bind fun o13=>
   if o13=true then
    some 13
   else
    some 0
  else
   some 0
theorem Dp{t:ae}{r:Int}(h:AG t=some r):CC Pg GE 133 [.agg (af t)] (.int .i64 r) []:=by
 have p2:=fun{sc F} (r:PS sc F)=>se (bY t)<|sv (aH t)<|sv (aJ t)<|r
 rcases aT h with⟨c1,h⟩|⟨c1,h⟩
 ·have p4:=fun{sc F} (r:PS sc F)=>p2<|sg 0 c1<|sv (aL t)<|sv (aM t)<|cx (dF.ln t.Args)<|r
  rcases aT h with⟨c3,h⟩|⟨c3,h⟩
  ·obtain rfl:=lf h
   have z:=p4<|sg 0 c3<|en (aI (rP (.int .i64 13))<|trivial)
   exact cb EI call133 func133 (c:=Iy) rfl (aI (al t) trivial) z<|by kernel_rfl
  ·obtain rfl:=lf h
   have z:=p4<|sg 0 c3<|en (aI (rP (.int .i64 0))<|trivial)
   exact cb EI call133 func133 (c:=Iy) rfl (aI (al t) trivial) z<|by kernel_rfl
 ·have p6:=fun{sc F} (r:PS sc F)=>p2<|sg 0 c1<|r
  rcases aT h with⟨c5,h⟩|⟨c5,h⟩
  ·obtain⟨o13,bo13,h⟩:=av h
   have p15:=fun{sc F} (r:PS sc F)=>p6<|sg 0 c5<|mG 0<|cC (y4 t bo13)<|r
   rcases aT h with⟨c14,h⟩|⟨c14,h⟩
   ·obtain rfl:=lf h
    have z:=p15<|sg 0 c14<|en (aI (rP (.int .i64 13))<|trivial)
    exact cb EI call133 func133 (c:=Iy) rfl (aI (al t) trivial) z<|by kernel_rfl
   ·obtain rfl:=lf h
    have z:=p15<|sg 0 c14<|en (aI (rP (.int .i64 0))<|trivial)
    exact cb EI call133 func133 (c:=Iy) rfl (aI (al t) trivial) z<|by kernel_rfl
  ·obtain rfl:=lf h
   have z:=p6<|sg 0 c5<|en (aI (rP (.int .i64 0))<|trivial)
   exact cb EI call133 func133 (c:=Iy) rfl (aI (al t) trivial) z<|by kernel_rfl
noncomputable def K8:Code:=f157.body.getD .skip
def Jv:List Nat:=[23]
section
variable(s:ai)(i:Int)
def ij:aq:=aP 24 [(0,.str s),(5,.int .i64 i)] [] []
def ik(o:(ai×ai)⊕(Unit)):Exit:=match o with
 |(.inl _)=>.ret
 |(.inr _)=>.exit 0
def fK(o:(ai×ai)⊕(Unit)):aq:=match o with
 |(.inl o)=>aP 24 [(2,.str o.1),(3,.str o.2),(4,.bool true)] [] []
 |(.inr o)=>aP 24 [(0,.str s)] [] []
def tJ:Option (Int⊕((ai×ai)⊕(Unit))):=
 if(decide (i<(s.length:Int)))=true then
  (uR s i).bind fun c2=>
  if(c2==46)=true then
   (LF s none (some i)).bind fun s5=>
   (LF s (some (cf (i+1))) none).bind fun s6=>
   some (.inr (.inl (s5,s6)))
  else
   some (.inl (cf (i+1)))
 else
  some (.inr (.inr ()))
def xX:Option ((ai×ai)⊕(Unit)):=loop (fun(zz:Int)=>tJ s zz) i
theorem zB{y:Int⊕((ai×ai)⊕(Unit))}(h:tJ s i=some y):aC Pg GE 0 (cA K8 55) (LQ (fun(zz:Int)=>ij s zz) ik (fK s) y) (ij s i):=by
 rcases aT h with⟨c1,h⟩|⟨c1,h⟩
 ·obtain⟨c2,bc2,h⟩:=av h
  have p4:=fun{sc F} (r:PS sc F)=>cx (qB underlying9 s)<|sg 0 c1<|sv (pn (k:=.i64) underlying9 bc2)<|r
  rcases aT h with⟨c3,h⟩|⟨c3,h⟩
  ·obtain⟨s5,bs5,h⟩:=av h
   obtain⟨s6,bs6,h⟩:=av h
   obtain rfl:=lf h
   have z:=p4<|sg 0 c3<|ue [0,0,3,0,0,16,56,7,255,511]<|sv (Mc underlying9 bs5)<|sv (Mc underlying9 bs6)<|eF (ik (.inl (s5,s6))) (fK s (.inl (s5,s6)))
   exact gZ Jv (by intro hx;cases hx) z<|by kernel_rfl
  ·obtain rfl:=lf h
   exact Bd Jv (p4<|sg 0 c3<|eF .normal (ij s (cf (i+1))))<|by kernel_rfl
 ·obtain rfl:=lf h
  have z:=cx (qB underlying9 s)<|sg 0 c1<|eF (ik (.inr ())) (fK s (.inr ()))
  exact gZ Jv (by intro hx;cases hx) z<|by kernel_rfl
theorem rV{x:(ai×ai)⊕(Unit)}(h:xX s i=some x):aC Pg GE 0 (.loop (cA K8 55)) (EX (ik x) (fK s x)) (ij s i):=
 aC.loop (S:=fun(zz:Int)=>ij s zz) (ex:=ik) (s:=i) h fun zz y hy=>zB s zz hy
end
def zA(s:ai):Option (ai×ai×Bool):=
 (xX s 0).bind fun o7=>match o7 with
 |(.inl o7)=>
  some (o7.1,o7.2,true)
 |(.inr o7)=>
  some (s,([]:ai),false)
theorem xY{s:ai}{r:ai×ai×Bool}(h:zA s=some r):CC Pg GE 157 [.str s] (.tuple [.str r.1,.str r.2.1,.bool r.2.2]) []:=by
 obtain⟨o7,bo7,h⟩:=av h
 rcases o7 with o7|o7
 ·obtain rfl:=lf h
  have z:=cC (e:=.ret) (s1:=fK s (.inl o7)) (rV s 0 bo7)<|en (aI (rP (.tuple [.str o7.1,.str o7.2,.bool true]))<|(aI trivial (aI trivial (aI trivial trivial))))
  exact cb Jv call157 func157 (c:=K8) rfl (aI trivial trivial) z<|by kernel_rfl
 ·obtain rfl:=lf h
  have z:=cC (e:=.exit 0) (s1:=fK s (.inr o7)) (rV s 0 bo7)<|en (aI (rP (.tuple [.str s,.str ([]:ai),.bool false]))<|(aI trivial (aI trivial (aI trivial trivial))))
  exact cb Jv call157 func157 (c:=K8) rfl (aI trivial trivial) z<|by kernel_rfl
noncomputable def NB:Code:=f160.body.getD .skip
def Nh:List Nat:=[]
def oR(s:ai):Option Bool:=
 if(decide ((s.length:Int)>=1))=true then
  some (decide ((s.length:Int)<=24))
 else
  some false
theorem fL{s:ai}{r:Bool}(h:oR s=some r):CC Pg GE 160 [.str s] (.bool r) []:=by
 rcases aT h with⟨c1,h⟩|⟨c1,h⟩
 ·obtain rfl:=lf h
  have z:=cx (qB underlying9 s)<|sg 4 c1<|cx (qB underlying9 s)<|en (aI (rP (.bool (decide ((s.length:Int)<=24))))<|trivial)
  exact cb Nh call160 func160 (c:=NB) rfl (aI trivial trivial) z<|by kernel_rfl
 ·obtain rfl:=lf h
  have z:=cx (qB underlying9 s)<|sg 4 c1<|en (aI (rP (.bool false))<|trivial)
  exact cb Nh call160 func160 (c:=NB) rfl (aI trivial trivial) z<|by kernel_rfl
noncomputable def ND:Code:=f178.body.getD .skip
def Nj:List Nat:=[]
def lV(c:Int):Option Bool:=
 if(decide (97<=c))=true then
  some (decide (c<=122))
 else
  some false
theorem km{c:Int}{r:Bool}(h:lV c=some r):CC Pg GE 178 [.int .u8 c] (.bool r) []:=by
 rcases aT h with⟨c1,h⟩|⟨c1,h⟩
 ·obtain rfl:=lf h
  have z:=sg 3 c1<|en (aI (rP (.bool (decide (c<=122))))<|trivial)
  exact cb Nj call178 func178 (c:=ND) rfl (aI trivial trivial) z<|by kernel_rfl
 ·obtain rfl:=lf h
  have z:=sg 3 c1<|en (aI (rP (.bool false))<|trivial)
  exact cb Nj call178 func178 (c:=ND) rfl (aI trivial trivial) z<|by kernel_rfl
noncomputable def K9:Code:=f179.body.getD .skip
def Jw:List Nat:=[]
section
variable(s:ai)(t6:Int)
def eG:aq:=aP 13 [(0,.str s),(5,.agg (eI.map PVal.str)),(6,.int .i64 t6)] [] []
def eH(o:Unit⊕(Unit)):Exit:=match o with
 |(.inl _)=>.ret
 |(.inr _)=>.exit 0
def dG(o:Unit⊕(Unit)):aq:=match o with
 |(.inl o)=>aP 13 [(2,.bool true)] [] []
 |(.inr o)=>aP 13 [] [] []
def nE:Option (Int⊕(Unit⊕(Unit))):=
 if(decide (t6<42))=true then
  (eh eI t6).bind fun x2=>
  if(x2==s)=true then
   some (.inr (.inl ()))
  else
   some (.inl (cf (t6+1)))
 else
  some (.inr (.inr ()))
def qg:Option (Unit⊕(Unit)):=loop (fun(zz:Int)=>nE s zz) t6
theorem tH{y:Int⊕(Unit⊕(Unit))}(h:nE s t6=some y):aC Pg GE 0 (cA K9 55) (LQ (fun(zz:Int)=>eG s zz) eH dG y) (eG s t6):=by
 rcases aT h with⟨c1,h⟩|⟨c1,h⟩
 ·obtain⟨x2,bx2,h⟩:=av h
  have p4:=fun{sc F} (r:PS sc F)=>sg 0 c1<|sv (xZ (k:=.i64) bx2)<|r
  rcases aT h with⟨c3,h⟩|⟨c3,h⟩
  ·obtain rfl:=lf h
   have z:=p4<|sg 0 c3<|eF (eH (.inl ())) (dG (.inl ()))
   exact gZ Jw (by intro hx;cases hx) z<|by kernel_rfl
  ·obtain rfl:=lf h
   exact Bd Jw (p4<|sg 0 c3<|eF .normal (eG s (cf (t6+1))))<|by kernel_rfl
 ·obtain rfl:=lf h
  have z:=sg 0 c1<|eF (eH (.inr ())) (dG (.inr ()))
  exact gZ Jw (by intro hx;cases hx) z<|by kernel_rfl
theorem mA{x:Unit⊕(Unit)}(h:qg s t6=some x):aC Pg GE 0 (.loop (cA K9 55)) (EX (eH x) (dG x)) (eG s t6):=
 aC.loop (S:=fun(zz:Int)=>eG s zz) (ex:=eH) (s:=t6) h fun zz y hy=>tH s zz hy
end
def vJ(s:ai):Option Bool:=
 (qg s 0).bind fun o5=>match o5 with
 |(.inl o5)=>
  some true
 |(.inr o5)=>
  some false
theorem zy{s:ai}{r:Bool}(h:vJ s=some r):CC Pg GE 179 [.str s] (.bool r) []:=by
 obtain⟨o5,bo5,h⟩:=av h
 rcases o5 with o5|o5
 ·obtain rfl:=lf h
  have z:=sv oQ<|cC (e:=.ret) (s1:=dG (.inl o5)) (mA s 0 bo5)<|en (aI (rP (.bool true))<|trivial)
  exact cb Jw call179 func179 (c:=K9) rfl (aI trivial trivial) z<|by kernel_rfl
 ·obtain rfl:=lf h
  have z:=sv oQ<|cC (e:=.exit 0) (s1:=dG (.inr o5)) (mA s 0 bo5)<|en (aI (rP (.bool false))<|trivial)
  exact cb Jw call179 func179 (c:=K9) rfl (aI trivial trivial) z<|by kernel_rfl
noncomputable def NF:Code:=f180.body.getD .skip
def Nk:List Nat:=[]
def oP(c:Int):Option Bool:=
 if(decide (48<=c))=true then
  some (decide (c<=57))
 else
  some false
theorem nF{c:Int}{r:Bool}(h:oP c=some r):CC Pg GE 180 [.int .u8 c] (.bool r) []:=by
 rcases aT h with⟨c1,h⟩|⟨c1,h⟩
 ·obtain rfl:=lf h
  have z:=sg 3 c1<|en (aI (rP (.bool (decide (c<=57))))<|trivial)
  exact cb Nk call180 func180 (c:=NF) rfl (aI trivial trivial) z<|by kernel_rfl
 ·obtain rfl:=lf h
  have z:=sg 3 c1<|en (aI (rP (.bool false))<|trivial)
  exact cb Nk call180 func180 (c:=NF) rfl (aI trivial trivial) z<|by kernel_rfl
noncomputable def G2:Code:=f158.body.getD .skip
def AK:List Nat:=[]
section
variable(s:ai)
def A7:aq:=aP 41 [(0,.str s)] [] []
def jA(o:Bool):aq:=aP 41 [(0,.str s),(16,.bool o)] [] []
def vK:Option Bool:=
 (oR s).bind fun r1=>
 if(!r1)=true then
  some true
 else
  (uR s 0).bind fun c3=>
  (lV c3).bind fun r4=>
  if(!r4)=true then
   some true
  else
   (vJ s).bind fun r7=>
   some r7
theorem zC{x:Bool}(h:vK s=some x):aC Pg GE 0 (cA G2 12) (EX .normal (jA s x)) (A7 s):=by
 obtain⟨r1,br1,h⟩:=av h
 rcases aT h with⟨c2,h⟩|⟨c2,h⟩
 ·obtain rfl:=lf h
  exact ct AK (bg (fL br1)<|sg 4 c2<|eF .normal (jA s true))<|by kernel_rfl
 ·obtain⟨c3,bc3,h⟩:=av h
  obtain⟨r4,br4,h⟩:=av h
  have p6:=fun{sc F} (r:PS sc F)=>bg (fL br1)<|sg 4 c2<|sv (pn (k:=.i64) underlying9 bc3)<|bg (km br4)<|r
  rcases aT h with⟨c5,h⟩|⟨c5,h⟩
  ·obtain rfl:=lf h
   exact ct AK (p6<|sg 10 c5<|eF .normal (jA s true))<|by kernel_rfl
  ·obtain⟨r7,br7,h⟩:=av h
   obtain rfl:=lf h
   exact ct AK (p6<|sg 10 c5<|bg (zy br7)<|eF .normal (jA s r7))<|by kernel_rfl
end
section
variable(s:ai)(i:Int)
def A9:aq:=aP 41 [(0,.str s),(3,.int .i64 i)] [] []
def jB(o:Bool):aq:=aP 41 [(0,.str s),(3,.int .i64 i),(40,.bool o)] [] []
def vM:Option Bool:=
 (uR s i).bind fun c12=>
 (lV c12).bind fun r13=>
 if(!r13)=true then
  (uR s i).bind fun c16=>
  (oP c16).bind fun r17=>
  if(!r17)=true then
   (uR s i).bind fun c20=>
   some (c20 !=95)
  else
   some false
 else
  some false
theorem zD{x:Bool}(h:vM s i=some x):aC Pg GE 0 (cA G2 1914) (EX .normal (jB s i x)) (A9 s i):=by
 obtain⟨c12,bc12,h⟩:=av h
 obtain⟨r13,br13,h⟩:=av h
 have p15:=fun{sc F} (r:PS sc F)=>sv (pn (k:=.i64) underlying9 bc12)<|bg (km br13)<|r
 rcases aT h with⟨c14,h⟩|⟨c14,h⟩
 ·obtain⟨c16,bc16,h⟩:=av h
  obtain⟨r17,br17,h⟩:=av h
  have p19:=fun{sc F} (r:PS sc F)=>p15<|sg 6 c14<|sv (pn (k:=.i64) underlying9 bc16)<|bg (nF br17)<|r
  rcases aT h with⟨c18,h⟩|⟨c18,h⟩
  ·obtain⟨c20,bc20,h⟩:=av h
   obtain rfl:=lf h
   exact ct AK (p19<|sg 13 c18<|sv (pn (k:=.i64) underlying9 bc20)<|eF .normal (jB s i (c20 !=95)))<|by kernel_rfl
  ·obtain rfl:=lf h
   exact ct AK (p19<|sg 13 c18<|eF .normal (jB s i false))<|by kernel_rfl
 ·obtain rfl:=lf h
  exact ct AK (p15<|sg 6 c14<|eF .normal (jB s i false))<|by kernel_rfl
end
section
variable(s:ai)(i:Int)
def gv:aq:=aP 41 [(0,.str s),(3,.int .i64 i)] [] []
def gw(o:Unit⊕(Unit)):Exit:=match o with
 |(.inl _)=>.ret
 |(.inr _)=>.exit 0
def eW(o:Unit⊕(Unit)):aq:=match o with
 |(.inl o)=>aP 41 [(2,.bool false)] [] []
 |(.inr o)=>aP 41 [] [] []
def rW:Option (Int⊕(Unit⊕(Unit))):=
 if(decide (i<(s.length:Int)))=true then
  (vM s i).bind fun o21=>
  if o21=true then
   some (.inr (.inl ()))
  else
   some (.inl (cf (i+1)))
 else
  some (.inr (.inr ()))
def vN:Option (Unit⊕(Unit)):=loop (fun(zz:Int)=>rW s zz) i
theorem ya{y:Int⊕(Unit⊕(Unit))}(h:rW s i=some y):aC Pg GE 0 (cA G2 119) (LQ (fun(zz:Int)=>gv s zz) gw eW y) (gv s i):=by
 rcases aT h with⟨c11,h⟩|⟨c11,h⟩
 ·obtain⟨o21,bo21,h⟩:=av h
  have p23:=fun{sc F} (r:PS sc F)=>cx (qB underlying9 s)<|sg 0 c11<|mG 1<|cC (zD s i bo21)<|r
  rcases aT h with⟨c22,h⟩|⟨c22,h⟩
  ·obtain rfl:=lf h
   have z:=p23<|sg 0 c22<|eF (gw (.inl ())) (eW (.inl ()))
   exact gZ AK (by intro hx;cases hx) z<|by kernel_rfl
  ·obtain rfl:=lf h
   exact Bd AK (p23<|sg 0 c22<|eF .normal (gv s (cf (i+1))))<|by kernel_rfl
 ·obtain rfl:=lf h
  have z:=cx (qB underlying9 s)<|sg 0 c11<|eF (gw (.inr ())) (eW (.inr ()))
  exact gZ AK (by intro hx;cases hx) z<|by kernel_rfl
theorem qj{x:Unit⊕(Unit)}(h:vN s i=some x):aC Pg GE 0 (.loop (cA G2 119)) (EX (gw x) (eW x)) (gv s i):=
 aC.loop (S:=fun(zz:Int)=>gv s zz) (ex:=gw) (s:=i) h fun zz y hy=>ya s zz hy
end
def wP(s:ai):Option Bool:=
 (vK s).bind fun o8=>
 if o8=true then
  some false
 else
  (vN s 1).bind fun o24=>match o24 with
  |(.inl o24)=>
   some false
  |(.inr o24)=>
   some true
theorem pH{s:ai}{r:Bool}(h:wP s=some r):CC Pg GE 158 [.str s] (.bool r) []:=by
 obtain⟨o8,bo8,h⟩:=av h
 have p10:=fun{sc F} (r:PS sc F)=>mG 2<|cC (zC s bo8)<|r
 rcases aT h with⟨c9,h⟩|⟨c9,h⟩
 ·obtain rfl:=lf h
  have z:=p10<|sg 0 c9<|en (aI (rP (.bool false))<|trivial)
  exact cb AK call158 func158 (c:=G2) rfl (aI trivial trivial) z<|by kernel_rfl
 ·obtain⟨o24,bo24,h⟩:=av h
  rcases o24 with o24|o24
  ·obtain rfl:=lf h
   have z:=p10<|sg 0 c9<|cC (e:=.ret) (s1:=eW (.inl o24)) (qj s 1 bo24)<|en (aI (rP (.bool false))<|trivial)
   exact cb AK call158 func158 (c:=G2) rfl (aI trivial trivial) z<|by kernel_rfl
  ·obtain rfl:=lf h
   have z:=p10<|sg 0 c9<|cC (e:=.exit 0) (s1:=eW (.inr o24)) (qj s 1 bo24)<|en (aI (rP (.bool true))<|trivial)
   exact cb AK call158 func158 (c:=G2) rfl (aI trivial trivial) z<|by kernel_rfl
noncomputable def NG:Code:=f181.body.getD .skip
def Nl:List Nat:=[]
def pG(c:Int):Option Bool:=
 if(decide (65<=c))=true then
  some (decide (c<=90))
 else
  some false
theorem qi{c:Int}{r:Bool}(h:pG c=some r):CC Pg GE 181 [.int .u8 c] (.bool r) []:=by
 rcases aT h with⟨c1,h⟩|⟨c1,h⟩
 ·obtain rfl:=lf h
  have z:=sg 3 c1<|en (aI (rP (.bool (decide (c<=90))))<|trivial)
  exact cb Nl call181 func181 (c:=NG) rfl (aI trivial trivial) z<|by kernel_rfl
 ·obtain rfl:=lf h
  have z:=sg 3 c1<|en (aI (rP (.bool false))<|trivial)
  exact cb Nl call181 func181 (c:=NG) rfl (aI trivial trivial) z<|by kernel_rfl
noncomputable def JJ:Code:=f161.body.getD .skip
def FI:List Nat:=[]
section
variable(s:ai)(i:Int)
def qh:aq:=aP 29 [(0,.str s),(3,.int .i64 i)] [] []
def dY(o:Bool):aq:=aP 29 [(0,.str s),(3,.int .i64 i),(28,.bool o)] [] []
def kM:Option Bool:=
 (uR s i).bind fun c2=>
 (lV c2).bind fun r3=>
 if(!r3)=true then
  (uR s i).bind fun c6=>
  (pG c6).bind fun r7=>
  if(!r7)=true then
   (uR s i).bind fun c10=>
   (oP c10).bind fun r11=>
   some (!r11)
  else
   some false
 else
  some false
theorem pF{x:Bool}(h:kM s i=some x):aC Pg GE 0 (cA JJ 890) (EX .normal (dY s i x)) (qh s i):=by
 obtain⟨c2,bc2,h⟩:=av h
 obtain⟨r3,br3,h⟩:=av h
 have p5:=fun{sc F} (r:PS sc F)=>sv (pn (k:=.i64) underlying9 bc2)<|bg (km br3)<|r
 rcases aT h with⟨c4,h⟩|⟨c4,h⟩
 ·obtain⟨c6,bc6,h⟩:=av h
  obtain⟨r7,br7,h⟩:=av h
  have p9:=fun{sc F} (r:PS sc F)=>p5<|sg 6 c4<|sv (pn (k:=.i64) underlying9 bc6)<|bg (qi br7)<|r
  rcases aT h with⟨c8,h⟩|⟨c8,h⟩
  ·obtain⟨c10,bc10,h⟩:=av h
   obtain⟨r11,br11,h⟩:=av h
   obtain rfl:=lf h
   exact ct FI (p9<|sg 13 c8<|sv (pn (k:=.i64) underlying9 bc10)<|bg (nF br11)<|eF .normal (dY s i (!r11)))<|by kernel_rfl
  ·obtain rfl:=lf h
   exact ct FI (p9<|sg 13 c8<|eF .normal (dY s i false))<|by kernel_rfl
 ·obtain rfl:=lf h
  exact ct FI (p5<|sg 6 c4<|eF .normal (dY s i false))<|by kernel_rfl
end
section
variable(s:ai)(i:Int)
def cW:aq:=aP 29 [(0,.str s),(3,.int .i64 i)] [] []
def cX(o:Unit⊕(Unit)):Exit:=match o with
 |(.inl _)=>.ret
 |(.inr _)=>.exit 0
def cy(o:Unit⊕(Unit)):aq:=match o with
 |(.inl o)=>aP 29 [(2,.bool false)] [] []
 |(.inr o)=>aP 29 [] [] []
def jT:Option (Int⊕(Unit⊕(Unit))):=
 if(decide (i<(s.length:Int)))=true then
  (kM s i).bind fun o12=>
  if o12=true then
   some (.inr (.inl ()))
  else
   some (.inl (cf (i+1)))
 else
  some (.inr (.inr ()))
def kN:Option (Unit⊕(Unit)):=loop (fun(zz:Int)=>jT s zz) i
theorem om{y:Int⊕(Unit⊕(Unit))}(h:jT s i=some y):aC Pg GE 0 (cA JJ 55) (LQ (fun(zz:Int)=>cW s zz) cX cy y) (cW s i):=by
 rcases aT h with⟨c1,h⟩|⟨c1,h⟩
 ·obtain⟨o12,bo12,h⟩:=av h
  have p14:=fun{sc F} (r:PS sc F)=>cx (qB underlying9 s)<|sg 0 c1<|mG 1<|cC (pF s i bo12)<|r
  rcases aT h with⟨c13,h⟩|⟨c13,h⟩
  ·obtain rfl:=lf h
   have z:=p14<|sg 0 c13<|eF (cX (.inl ())) (cy (.inl ()))
   exact gZ FI (by intro hx;cases hx) z<|by kernel_rfl
  ·obtain rfl:=lf h
   exact Bd FI (p14<|sg 0 c13<|eF .normal (cW s (cf (i+1))))<|by kernel_rfl
 ·obtain rfl:=lf h
  have z:=cx (qB underlying9 s)<|sg 0 c1<|eF (cX (.inr ())) (cy (.inr ()))
  exact gZ FI (by intro hx;cases hx) z<|by kernel_rfl
theorem jf{x:Unit⊕(Unit)}(h:kN s i=some x):aC Pg GE 0 (.loop (cA JJ 55)) (EX (cX x) (cy x)) (cW s i):=
 aC.loop (S:=fun(zz:Int)=>cW s zz) (ex:=cX) (s:=i) h fun zz y hy=>om s zz hy
end
def jH(s:ai):Option Bool:=
 (kN s 0).bind fun o15=>match o15 with
 |(.inl o15)=>
  some false
 |(.inr o15)=>
  some true
theorem kO{s:ai}{r:Bool}(h:jH s=some r):CC Pg GE 161 [.str s] (.bool r) []:=by
 obtain⟨o15,bo15,h⟩:=av h
 rcases o15 with o15|o15
 ·obtain rfl:=lf h
  have z:=cC (e:=.ret) (s1:=cy (.inl o15)) (jf s 0 bo15)<|en (aI (rP (.bool false))<|trivial)
  exact cb FI call161 func161 (c:=JJ) rfl (aI trivial trivial) z<|by kernel_rfl
 ·obtain rfl:=lf h
  have z:=cC (e:=.exit 0) (s1:=cy (.inr o15)) (jf s 0 bo15)<|en (aI (rP (.bool true))<|trivial)
  exact cb FI call161 func161 (c:=JJ) rfl (aI trivial trivial) z<|by kernel_rfl
noncomputable def Iz:Code:=f159.body.getD .skip
def FH:List Nat:=[]
section
variable(s:ai)
def zE:aq:=aP 31 [(0,.str s)] [] []
def iy(o:Bool):aq:=aP 31 [(0,.str s),(16,.bool o)] [] []
def tK:Option Bool:=
 (oR s).bind fun r1=>
 if(!r1)=true then
  some true
 else
  (uR s 0).bind fun c3=>
  (pG c3).bind fun r4=>
  if(!r4)=true then
   some true
  else
   (jH s).bind fun r7=>
   some (!r7)
theorem yb{x:Bool}(h:tK s=some x):aC Pg GE 0 (cA Iz 12) (EX .normal (iy s x)) (zE s):=by
 obtain⟨r1,br1,h⟩:=av h
 rcases aT h with⟨c2,h⟩|⟨c2,h⟩
 ·obtain rfl:=lf h
  exact ct FH (bg (fL br1)<|sg 4 c2<|eF .normal (iy s true))<|by kernel_rfl
 ·obtain⟨c3,bc3,h⟩:=av h
  obtain⟨r4,br4,h⟩:=av h
  have p6:=fun{sc F} (r:PS sc F)=>bg (fL br1)<|sg 4 c2<|sv (pn (k:=.i64) underlying9 bc3)<|bg (qi br4)<|r
  rcases aT h with⟨c5,h⟩|⟨c5,h⟩
  ·obtain rfl:=lf h
   exact ct FH (p6<|sg 10 c5<|eF .normal (iy s true))<|by kernel_rfl
  ·obtain⟨r7,br7,h⟩:=av h
   obtain rfl:=lf h
   exact ct FH (p6<|sg 10 c5<|bg (kO br7)<|eF .normal (iy s (!r7)))<|by kernel_rfl
end
def Aw(s:ai):Option Bool:=
 (tK s).bind fun o8=>
 if o8=true then
  some false
 else
  if (!(s == ([73,110,116]:ai))) = true then
   if(!(s==([66,111,111,108]:ai)))=true then
    if(!(s==([67,101,108,108]:ai)))=true then
     some (!(s==([70,117,110]:ai)))
    else
     some false
   else
    some false
  else
   some false
theorem CD{s:ai}{r:Bool}(h:Aw s=some r):CC Pg GE 159 [.str s] (.bool r) []:=by
 obtain⟨o8,bo8,h⟩:=av h
 have p10:=fun{sc F} (r:PS sc F)=>mG 2<|cC (yb s bo8)<|r
 rcases aT h with⟨c9,h⟩|⟨c9,h⟩
 ·obtain rfl:=lf h
  have z:=p10<|sg 0 c9<|en (aI (rP (.bool false))<|trivial)
  exact cb FH call159 func159 (c:=Iz) rfl (aI trivial trivial) z<|by kernel_rfl
 ·have p12:=fun{sc F} (r:PS sc F)=>p10<|sg 0 c9<|r
  rcases aT h with⟨c11,h⟩|⟨c11,h⟩
  ·have p14:=fun{sc F} (r:PS sc F)=>p12<|sg 3 c11<|r
   rcases aT h with⟨c13,h⟩|⟨c13,h⟩
   ·have p16:=fun{sc F} (r:PS sc F)=>p14<|sg 7 c13<|r
    rcases aT h with⟨c15,h⟩|⟨c15,h⟩
    ·obtain rfl:=lf h
     have z:=p16<|sg 11 c15<|en (aI (rP (.bool (!(s==([70,117,110]:ai)))))<|trivial)
     exact cb FH call159 func159 (c:=Iz) rfl (aI trivial trivial) z<|by kernel_rfl
    ·obtain rfl:=lf h
     have z:=p16<|sg 11 c15<|en (aI (rP (.bool false))<|trivial)
     exact cb FH call159 func159 (c:=Iz) rfl (aI trivial trivial) z<|by kernel_rfl
   ·obtain rfl:=lf h
    have z:=p14<|sg 7 c13<|en (aI (rP (.bool false))<|trivial)
    exact cb FH call159 func159 (c:=Iz) rfl (aI trivial trivial) z<|by kernel_rfl
  ·obtain rfl:=lf h
   have z:=p12<|sg 3 c11<|en (aI (rP (.bool false))<|trivial)
   exact cb FH call159 func159 (c:=Iz) rfl (aI trivial trivial) z<|by kernel_rfl
noncomputable def JK:Code:=f162.body.getD .skip
def EJ:List Nat:=[]
section
variable(s:ai)(i:Int)
def Ba:aq:=aP 32 [(0,.str s),(3,.int .i64 i)] [] []
def gy(o:Bool):aq:=aP 32 [(0,.str s),(3,.int .i64 i),(31,.bool o)] [] []
def vO:Option Bool:=
 (uR s i).bind fun c2=>
 (lV c2).bind fun r3=>
 if (!r3) = true then
  if(i==0)=true then
   some true
  else
   (uR s i).bind fun c8=>
   (oP c8).bind fun r9=>
   if(!r9)=true then
    (uR s i).bind fun c12=>
    some (c12 !=95)
   else
    some false
 else
  some false
theorem zF{x:Bool}(h:vO s i=some x):aC Pg GE 0 (cA JK 890) (EX .normal (gy s i x)) (Ba s i):=by
 obtain⟨c2,bc2,h⟩:=av h
 obtain⟨r3,br3,h⟩:=av h
 have p5:=fun{sc F} (r:PS sc F)=>sv (pn (k:=.i64) underlying9 bc2)<|bg (km br3)<|r
 rcases aT h with⟨c4,h⟩|⟨c4,h⟩
 ·have p7:=fun{sc F} (r:PS sc F)=>p5<|sg 6 c4<|r
  rcases aT h with⟨c6,h⟩|⟨c6,h⟩
  ·obtain rfl:=lf h
   exact ct EJ (p7<|sg 9 c6<|eF .normal (gy s i true))<|by kernel_rfl
  ·obtain⟨c8,bc8,h⟩:=av h
   obtain⟨r9,br9,h⟩:=av h
   have p11:=fun{sc F} (r:PS sc F)=>p7<|sg 9 c6<|sv (pn (k:=.i64) underlying9 bc8)<|bg (nF br9)<|r
   rcases aT h with⟨c10,h⟩|⟨c10,h⟩
   ·obtain⟨c12,bc12,h⟩:=av h
    obtain rfl:=lf h
    exact ct EJ (p11<|sg 15 c10<|sv (pn (k:=.i64) underlying9 bc12)<|eF .normal (gy s i (c12 !=95)))<|by kernel_rfl
   ·obtain rfl:=lf h
    exact ct EJ (p11<|sg 15 c10<|eF .normal (gy s i false))<|by kernel_rfl
 ·obtain rfl:=lf h
  exact ct EJ (p5<|sg 6 c4<|eF .normal (gy s i false))<|by kernel_rfl
end
section
variable(s:ai)(i:Int)
def gz:aq:=aP 32 [(0,.str s),(3,.int .i64 i)] [] []
def gA(o:Unit⊕(Unit)):Exit:=match o with
 |(.inl _)=>.ret
 |(.inr _)=>.exit 0
def eX(o:Unit⊕(Unit)):aq:=match o with
 |(.inl o)=>aP 32 [(2,.bool false)] [] []
 |(.inr o)=>aP 32 [] [] []
def rX:Option (Int⊕(Unit⊕(Unit))):=
 if(decide (i<(s.length:Int)))=true then
  (vO s i).bind fun o13=>
  if o13=true then
   some (.inr (.inl ()))
  else
   some (.inl (cf (i+1)))
 else
  some (.inr (.inr ()))
def vP:Option (Unit⊕(Unit)):=loop (fun(zz:Int)=>rX s zz) i
theorem yc{y:Int⊕(Unit⊕(Unit))}(h:rX s i=some y):aC Pg GE 0 (cA JK 55) (LQ (fun(zz:Int)=>gz s zz) gA eX y) (gz s i):=by
 rcases aT h with⟨c1,h⟩|⟨c1,h⟩
 ·obtain⟨o13,bo13,h⟩:=av h
  have p15:=fun{sc F} (r:PS sc F)=>cx (qB underlying9 s)<|sg 0 c1<|mG 1<|cC (zF s i bo13)<|r
  rcases aT h with⟨c14,h⟩|⟨c14,h⟩
  ·obtain rfl:=lf h
   have z:=p15<|sg 0 c14<|eF (gA (.inl ())) (eX (.inl ()))
   exact gZ EJ (by intro hx;cases hx) z<|by kernel_rfl
  ·obtain rfl:=lf h
   exact Bd EJ (p15<|sg 0 c14<|eF .normal (gz s (cf (i+1))))<|by kernel_rfl
 ·obtain rfl:=lf h
  have z:=cx (qB underlying9 s)<|sg 0 c1<|eF (gA (.inr ())) (eX (.inr ()))
  exact gZ EJ (by intro hx;cases hx) z<|by kernel_rfl
theorem qk{x:Unit⊕(Unit)}(h:vP s i=some x):aC Pg GE 0 (.loop (cA JK 55)) (EX (gA x) (eX x)) (gz s i):=
 aC.loop (S:=fun(zz:Int)=>gz s zz) (ex:=gA) (s:=i) h fun zz y hy=>yc s zz hy
end
def CE(s:ai):Option Bool:=
 (vP s 0).bind fun o16=>match o16 with
 |(.inl o16)=>
  some false
 |(.inr o16)=>
  some true
theorem DN{s:ai}{r:Bool}(h:CE s=some r):CC Pg GE 162 [.str s] (.bool r) []:=by
 obtain⟨o16,bo16,h⟩:=av h
 rcases o16 with o16|o16
 ·obtain rfl:=lf h
  have z:=cC (e:=.ret) (s1:=eX (.inl o16)) (qk s 0 bo16)<|en (aI (rP (.bool false))<|trivial)
  exact cb EJ call162 func162 (c:=JK) rfl (aI trivial trivial) z<|by kernel_rfl
 ·obtain rfl:=lf h
  have z:=cC (e:=.exit 0) (s1:=eX (.inr o16)) (qk s 0 bo16)<|en (aI (rP (.bool true))<|trivial)
  exact cb EJ call162 func162 (c:=JK) rfl (aI trivial trivial) z<|by kernel_rfl
noncomputable def F0:Code:=f134.body.getD .skip
def xu:List Nat:=[]
section
variable(first:ai)(rest:ai)(more:Bool)
def A4:aq:=aP 52 [(3,.str first),(4,.str rest),(5,.bool more)] [] []
def gq(o:Bool):aq:=aP 52 [(4,.str rest),(5,.bool more),(31,.bool o)] [] []
def vD:Option Bool:=
 (wP first).bind fun r3=>
 if (!r3) = true then
  (Aw first).bind fun r5=>
  if(!r5)=true then
   if(!(first==([118]:ai)))=true then
    some true
   else
    some (!more)
  else
   some false
 else
  some false
theorem zw{x:Bool}(h:vD first more=some x):aC Pg GE 0 (cA F0 60) (EX .normal (gq rest more x)) (A4 first rest more):=by
 obtain⟨r3,br3,h⟩:=av h
 rcases aT h with⟨c4,h⟩|⟨c4,h⟩
 ·obtain⟨r5,br5,h⟩:=av h
  have p7:=fun{sc F} (r:PS sc F)=>bg (pH br3)<|sg 4 c4<|bg (CD br5)<|r
  rcases aT h with⟨c6,h⟩|⟨c6,h⟩
  ·have p9:=fun{sc F} (r:PS sc F)=>p7<|sg 9 c6<|r
   rcases aT h with⟨c8,h⟩|⟨c8,h⟩
   ·obtain rfl:=lf h
    exact ct xu (p9<|sg 12 c8<|eF .normal (gq rest more true))<|by kernel_rfl
   ·obtain rfl:=lf h
    exact ct xu (p9<|sg 12 c8<|eF .normal (gq rest more (!more)))<|by kernel_rfl
  ·obtain rfl:=lf h
   exact ct xu (p7<|sg 9 c6<|eF .normal (gq rest more false))<|by kernel_rfl
 ·obtain rfl:=lf h
  exact ct xu (bg (pH br3)<|sg 4 c4<|eF .normal (gq rest more false))<|by kernel_rfl
end
section
variable(rest:ai)(more:Bool)(part:ai)
def A5:aq:=aP 52 [(4,.str rest),(5,.bool more),(6,.str part)] [] []
def jz(o:Bool):aq:=aP 52 [(4,.str rest),(5,.bool more),(51,.bool o)] [] []
def vF:Option Bool:=
 (oR part).bind fun r15=>
 if(!r15)=true then
  some true
 else
  (jH part).bind fun r17=>
  if(!r17)=true then
   (CE part).bind fun r20=>
   some (!r20)
  else
   some false
theorem zx{x:Bool}(h:vF part=some x):aC Pg GE 0 (cA F0 8062) (EX .normal (jz rest more x)) (A5 rest more part):=by
 obtain⟨r15,br15,h⟩:=av h
 rcases aT h with⟨c16,h⟩|⟨c16,h⟩
 ·obtain rfl:=lf h
  exact ct xu (bg (fL br15)<|sg 4 c16<|eF .normal (jz rest more true))<|by kernel_rfl
 ·obtain⟨r17,br17,h⟩:=av h
  have p19:=fun{sc F} (r:PS sc F)=>bg (fL br15)<|sg 4 c16<|bg (kO br17)<|r
  rcases aT h with⟨c18,h⟩|⟨c18,h⟩
  ·obtain⟨r20,br20,h⟩:=av h
   obtain rfl:=lf h
   exact ct xu (p19<|sg 8 c18<|bg (DN br20)<|eF .normal (jz rest more (!r20)))<|by kernel_rfl
  ·obtain rfl:=lf h
   exact ct xu (p19<|sg 8 c18<|eF .normal (jz rest more false))<|by kernel_rfl
end
section
variable(rest:ai)(more:Bool)
def gr:aq:=aP 52 [(4,.str rest),(5,.bool more)] [] []
def gu(o:Unit⊕(Unit)):Exit:=match o with
 |(.inl _)=>.ret
 |(.inr _)=>.exit 0
def eV(o:Unit⊕(Unit)):aq:=match o with
 |(.inl o)=>aP 52 [(2,.int .i64 3)] [] []
 |(.inr o)=>aP 52 [] [] []
def rU:Option ((ai×Bool)⊕(Unit⊕(Unit))):=
 if more=true then
  (zA rest).bind fun r14=>
  (vF r14.1).bind fun o21=>
  if o21=true then
   some (.inr (.inl ()))
  else
   some (.inl (r14.2.1,r14.2.2))
 else
  some (.inr (.inr ()))
def vG:Option (Unit⊕(Unit)):=loop (fun(zz:ai×Bool)=>rU zz.1 zz.2) (rest,more)
theorem xT{y:(ai×Bool)⊕(Unit⊕(Unit))}(h:rU rest more=some y):aC Pg GE 0 (cA F0 251) (LQ (fun(zz:ai×Bool)=>gr zz.1 zz.2) gu eV y) (gr rest more):=by
 rcases aT h with⟨c13,h⟩|⟨c13,h⟩
 ·obtain⟨r14,br14,h⟩:=av h
  obtain⟨o21,bo21,h⟩:=av h
  have p23:=fun{sc F} (r:PS sc F)=>sg 0 c13<|bg (xY br14)<|mG 0<|cC (zx r14.2.1 r14.2.2 r14.1 bo21)<|r
  rcases aT h with⟨c22,h⟩|⟨c22,h⟩
  ·obtain rfl:=lf h
   have z:=p23<|sg 0 c22<|eF (gu (.inl ())) (eV (.inl ()))
   exact gZ xu (by intro hx;cases hx) z<|by kernel_rfl
  ·obtain rfl:=lf h
   exact Bd xu (p23<|sg 0 c22<|eF .normal (gr r14.2.1 r14.2.2))<|by kernel_rfl
 ·obtain rfl:=lf h
  have z:=sg 0 c13<|eF (gu (.inr ())) (eV (.inr ()))
  exact gZ xu (by intro hx;cases hx) z<|by kernel_rfl
theorem qd{x:Unit⊕(Unit)}(h:vG rest more=some x):aC Pg GE 0 (.loop (cA F0 251)) (EX (gu x) (eV x)) (gr rest more):=
 aC.loop (S:=fun(zz:ai×Bool)=>gr zz.1 zz.2) (ex:=gu) (s:=(rest,more)) h fun zz y hy=>xT zz.1 zz.2 hy
end
def wM(s:ai):Option Int:=
 if(decide ((s.length:Int)>120))=true then
  some 3
 else
  (zA s).bind fun r2=>
  (vD r2.1 r2.2.2).bind fun o10=>
  if o10=true then
   some 3
  else
   (vG r2.2.1 r2.2.2).bind fun o24=>match o24 with
   |(.inl o24)=>
    some 3
   |(.inr o24)=>
    some 0
theorem vH{s:ai}{r:Int}(h:wM s=some r):CC Pg GE 134 [.str s] (.int .i64 r) []:=by
 rcases aT h with⟨c1,h⟩|⟨c1,h⟩
 ·obtain rfl:=lf h
  have z:=cx (qB underlying9 s)<|sg 0 c1<|en (aI (rP (.int .i64 3))<|trivial)
  exact cb xu call134 func134 (c:=F0) rfl (aI trivial trivial) z<|by kernel_rfl
 ·obtain⟨r2,br2,h⟩:=av h
  obtain⟨o10,bo10,h⟩:=av h
  have p12:=fun{sc F} (r:PS sc F)=>cx (qB underlying9 s)<|sg 0 c1<|bg (xY br2)<|mG 1<|cC (zw r2.1 r2.2.1 r2.2.2 bo10)<|r
  rcases aT h with⟨c11,h⟩|⟨c11,h⟩
  ·obtain rfl:=lf h
   have z:=p12<|sg 0 c11<|en (aI (rP (.int .i64 3))<|trivial)
   exact cb xu call134 func134 (c:=F0) rfl (aI trivial trivial) z<|by kernel_rfl
  ·obtain⟨o24,bo24,h⟩:=av h
   rcases o24 with o24|o24
   ·obtain rfl:=lf h
    have z:=p12<|sg 0 c11<|cC (e:=.ret) (s1:=eV (.inl o24)) (qd r2.2.1 r2.2.2 bo24)<|en (aI (rP (.int .i64 3))<|trivial)
    exact cb xu call134 func134 (c:=F0) rfl (aI trivial trivial) z<|by kernel_rfl
   ·obtain rfl:=lf h
    have z:=p12<|sg 0 c11<|cC (e:=.exit 0) (s1:=eV (.inr o24)) (qd r2.2.1 r2.2.2 bo24)<|en (aI (rP (.int .i64 0))<|trivial)
    exact cb xu call134 func134 (c:=F0) rfl (aI trivial trivial) z<|by kernel_rfl
noncomputable def A0:Code:=f113.body.getD .skip
def jD:List Nat:=[68,100]
section
variable(t:ae)
def BB:aq:=aP 102 [(1,.eptr (af t))] [.dead] []
def mr(o:Bool):aq:=aP 102 [(1,.eptr (af t)),(3,.bool o)] [.dead] []
def wc:Option Bool:=
 if(t.Op==4)=true then
  some true
 else
  some (t.Op==5)
theorem Ac{x:Bool}(h:wc t=some x):aC Pg GE 0 (cA A0 6) (EX .normal (mr t x)) (BB t):=by
 have p2:=fun{sc F} (r:PS sc F)=>sv (aH t)<|sv (aJ t)<|r
 rcases aT h with⟨c1,h⟩|⟨c1,h⟩
 ·obtain rfl:=lf h
  exact ct jD (p2<|sg 4 c1<|eF .normal (mr t true))<|by kernel_rfl
 ·obtain rfl:=lf h
  exact ct jD (p2<|sg 4 c1<|sv (aH t)<|sv (aJ t)<|eF .normal (mr t (t.Op==5)))<|by kernel_rfl
end
section
variable(t:ae)(named:Bool)
def BC:aq:=aP 102 [(1,.eptr (af t)),(3,.bool named)] [.dead] []
def ms(o:Bool):aq:=aP 102 [(1,.eptr (af t)),(3,.bool named),(4,.bool o)] [.dead] []
def wd:Option Bool:=
 if(t.Op==4)=true then
  some true
 else
  some (t.Op==6)
theorem Ad{x:Bool}(h:wd t=some x):aC Pg GE 0 (cA A0 14) (EX .normal (ms t named x)) (BC t named):=by
 have p5:=fun{sc F} (r:PS sc F)=>sv (aH t)<|sv (aJ t)<|r
 rcases aT h with⟨c4,h⟩|⟨c4,h⟩
 ·obtain rfl:=lf h
  exact ct jD (p5<|sg 4 c4<|eF .normal (ms t named true))<|by kernel_rfl
 ·obtain rfl:=lf h
  exact ct jD (p5<|sg 4 c4<|sv (aH t)<|sv (aJ t)<|eF .normal (ms t named (t.Op==6)))<|by kernel_rfl
end
section
variable(t:ae)(named:Bool)(compound:Bool)
def BD:aq:=aP 102 [(1,.eptr (af t)),(3,.bool named),(4,.bool compound)] [.dead] []
def b7(o:Bool):aq:=aP 102 [(1,.eptr (af t)),(3,.bool named),(63,.bool o)] [.dead] []
def wg:Option Bool:=
 if(decide (t.Op<1))=true then
  some true
 else
  if(decide (t.Op>6))=true then
   some true
  else
   if (!(t.Name == ([]:ai))) = true then
    if(!named)=true then
     some true
    else
     if (decide ((t.Args.length:Int) > 0)) = true then
      if(!compound)=true then
       some true
      else
       if(decide ((t.Names.length:Int)>0))=true then
        some (t.Op !=6)
       else
        some false
     else
      if(decide ((t.Names.length:Int)>0))=true then
       some (t.Op !=6)
      else
       some false
   else
    if (decide ((t.Args.length:Int) > 0)) = true then
     if(!compound)=true then
      some true
     else
      if(decide ((t.Names.length:Int)>0))=true then
       some (t.Op !=6)
      else
       some false
    else
     if(decide ((t.Names.length:Int)>0))=true then
      some (t.Op !=6)
     else
      some false
theorem Ae{x:Bool}(h:wg t named compound=some x):aC Pg GE 0 (cA A0 60) (EX .normal (b7 t named x)) (BD t named compound):=by
 have p8:=fun{sc F} (r:PS sc F)=>sv (aH t)<|sv (aJ t)<|r
 rcases aT h with⟨c7,h⟩|⟨c7,h⟩
 ·obtain rfl:=lf h
  exact ct jD (p8<|sg 4 c7<|eF .normal (b7 t named true))<|by kernel_rfl
 ·have p10:=fun{sc F} (r:PS sc F)=>p8<|sg 4 c7<|sv (aH t)<|sv (aJ t)<|r
  rcases aT h with⟨c9,h⟩|⟨c9,h⟩
  ·obtain rfl:=lf h
   exact ct jD (p10<|sg 9 c9<|eF .normal (b7 t named true))<|by kernel_rfl
  ·have p12:=fun{sc F} (r:PS sc F)=>p10<|sg 9 c9<|sv (cF t)<|sv (cO t)<|r
   rcases aT h with⟨c11,h⟩|⟨c11,h⟩
   ·have p14:=fun{sc F} (r:PS sc F)=>p12<|sg 13 c11<|r
    rcases aT h with⟨c13,h⟩|⟨c13,h⟩
    ·obtain rfl:=lf h
     exact ct jD (p14<|sg 18 c13<|eF .normal (b7 t named true))<|by kernel_rfl
    ·have p16:=fun{sc F} (r:PS sc F)=>p14<|sg 18 c13<|sv (aL t)<|sv (aM t)<|cx (dF.ln t.Args)<|r
     rcases aT h with⟨c15,h⟩|⟨c15,h⟩
     ·have p18:=fun{sc F} (r:PS sc F)=>p16<|sg 23 c15<|r
      rcases aT h with⟨c17,h⟩|⟨c17,h⟩
      ·obtain rfl:=lf h
       exact ct jD (p18<|sg 28 c17<|eF .normal (b7 t named true))<|by kernel_rfl
      ·have p20:=fun{sc F} (r:PS sc F)=>p18<|sg 28 c17<|sv (aY t)<|sv (aZ t)<|cx (cn.ln t.Names)<|r
       rcases aT h with⟨c19,h⟩|⟨c19,h⟩
       ·obtain rfl:=lf h
        exact ct jD (p20<|sg 33 c19<|sv (aH t)<|sv (aJ t)<|eF .normal (b7 t named (t.Op !=6)))<|by kernel_rfl
       ·obtain rfl:=lf h
        exact ct jD (p20<|sg 33 c19<|eF .normal (b7 t named false))<|by kernel_rfl
     ·have p22:=fun{sc F} (r:PS sc F)=>p16<|sg 23 c15<|sv (aY t)<|sv (aZ t)<|cx (cn.ln t.Names)<|r
      rcases aT h with⟨c21,h⟩|⟨c21,h⟩
      ·obtain rfl:=lf h
       exact ct jD (p22<|sg 33 c21<|sv (aH t)<|sv (aJ t)<|eF .normal (b7 t named (t.Op !=6)))<|by kernel_rfl
      ·obtain rfl:=lf h
       exact ct jD (p22<|sg 33 c21<|eF .normal (b7 t named false))<|by kernel_rfl
   ·have p24:=fun{sc F} (r:PS sc F)=>p12<|sg 13 c11<|sv (aL t)<|sv (aM t)<|cx (dF.ln t.Args)<|r
    rcases aT h with⟨c23,h⟩|⟨c23,h⟩
    ·have p26:=fun{sc F} (r:PS sc F)=>p24<|sg 23 c23<|r
     rcases aT h with⟨c25,h⟩|⟨c25,h⟩
     ·obtain rfl:=lf h
      exact ct jD (p26<|sg 28 c25<|eF .normal (b7 t named true))<|by kernel_rfl
     ·have p28:=fun{sc F} (r:PS sc F)=>p26<|sg 28 c25<|sv (aY t)<|sv (aZ t)<|cx (cn.ln t.Names)<|r
      rcases aT h with⟨c27,h⟩|⟨c27,h⟩
      ·obtain rfl:=lf h
       exact ct jD (p28<|sg 33 c27<|sv (aH t)<|sv (aJ t)<|eF .normal (b7 t named (t.Op !=6)))<|by kernel_rfl
      ·obtain rfl:=lf h
       exact ct jD (p28<|sg 33 c27<|eF .normal (b7 t named false))<|by kernel_rfl
    ·have p30:=fun{sc F} (r:PS sc F)=>p24<|sg 23 c23<|sv (aY t)<|sv (aZ t)<|cx (cn.ln t.Names)<|r
     rcases aT h with⟨c29,h⟩|⟨c29,h⟩
     ·obtain rfl:=lf h
      exact ct jD (p30<|sg 33 c29<|sv (aH t)<|sv (aJ t)<|eF .normal (b7 t named (t.Op !=6)))<|by kernel_rfl
     ·obtain rfl:=lf h
      exact ct jD (p30<|sg 33 c29<|eF .normal (b7 t named false))<|by kernel_rfl
end
section
variable(t:ae)
def BF:aq:=aP 102 [(1,.eptr (af t))] [.dead] []
def mt(o:Bool):aq:=aP 102 [(1,.eptr (af t)),(6,.bool o)] [.dead] []
def wj:Option Bool:=
 (uR t.Name 0).bind fun c41=>
 if(decide (c41>=65))=true then
  (uR t.Name 0).bind fun c44=>
  some (decide (c44<=90))
 else
  some false
theorem Af{x:Bool}(h:wj t=some x):aC Pg GE 0 (cA A0 2026) (EX .normal (mt t x)) (BF t):=by
 obtain⟨c41,bc41,h⟩:=av h
 have p43:=fun{sc F} (r:PS sc F)=>sv (cF t)<|sv (cO t)<|sv (pn (k:=.i64) underlying9 bc41)<|r
 rcases aT h with⟨c42,h⟩|⟨c42,h⟩
 ·obtain⟨c44,bc44,h⟩:=av h
  obtain rfl:=lf h
  exact ct jD (p43<|sg 5 c42<|sv (cF t)<|sv (cO t)<|sv (pn (k:=.i64) underlying9 bc44)<|eF .normal (mt t (decide (c44<=90))))<|by kernel_rfl
 ·obtain rfl:=lf h
  exact ct jD (p43<|sg 5 c42<|eF .normal (mt t false))<|by kernel_rfl
end
section
variable(t:ae)(named:Bool)
def BE:aq:=aP 102 [(1,.eptr (af t)),(3,.bool named)] [.dead] []
def gO(o:Unit⊕(Unit)):Exit:=match o with
 |(.inl _)=>.ret
 |(.inr _)=>.normal
def dq(o:Unit⊕(Unit)):aq:=match o with
 |(.inl o)=>aP 102 [(2,.int .i64 3)] [.dead] []
 |(.inr o)=>aP 102 [(1,.eptr (af t))] [.dead] []
def wh:Option (Unit⊕(Unit)):=
 if named=true then
  (wM t.Name).bind fun r38=>
  if(r38 !=0)=true then
   some (.inl ())
  else
   (wj t).bind fun o45=>
   if(!(o45==(t.Op==4)))=true then
    some (.inl ())
   else
    some (.inr ())
 else
  some (.inr ())
theorem lC{x:Unit⊕(Unit)}(h:wh t named=some x):aC Pg GE 0 (cA A0 126) (EX (gO x) (dq t x)) (BE t named):=by
 rcases aT h with⟨c37,h⟩|⟨c37,h⟩
 ·obtain⟨r38,br38,h⟩:=av h
  have p40:=fun{sc F} (r:PS sc F)=>sg 0 c37<|sv (cF t)<|sv (cO t)<|bg (vH br38)<|r
  rcases aT h with⟨c39,h⟩|⟨c39,h⟩
  ·obtain rfl:=lf h
   exact ct jD (p40<|sg 0 c39<|eF (gO (.inl ())) (dq t (.inl ())))<|by kernel_rfl
  ·obtain⟨o45,bo45,h⟩:=av h
   have p47:=fun{sc F} (r:PS sc F)=>p40<|sg 0 c39<|mG 0<|cC (Af t bo45)<|sv (aH t)<|sv (aJ t)<|r
   rcases aT h with⟨c46,h⟩|⟨c46,h⟩
   ·obtain rfl:=lf h
    exact ct jD (p47<|sg 0 c46<|eF (gO (.inl ())) (dq t (.inl ())))<|by kernel_rfl
   ·obtain rfl:=lf h
    exact ct jD (p47<|sg 0 c46<|eF (gO (.inr ())) (dq t (.inr ())))<|by kernel_rfl
 ·obtain rfl:=lf h
  exact ct jD (sg 0 c37<|eF (gO (.inr ())) (dq t (.inr ())))<|by kernel_rfl
end
section
variable(R46:mL)(t90:waC)(t91:Int)(t92:Int)
def gP:aq:=aP 102 [(90,sl af t90),(91,.int .i64 t91),(92,.int .i64 t92)] [.dead] []
def gQ(o:Int⊕(Unit)):Exit:=match o with
 |(.inl _)=>.ret
 |(.inr _)=>.exit 0
def eZ(o:Int⊕(Unit)):aq:=match o with
 |(.inl o)=>aP 102 [(2,.int .i64 o)] [.dead] []
 |(.inr o)=>aP 102 [] [.dead] []
def sE:Option (Int⊕(Int⊕(Unit))):=
 if(decide (t92<t91))=true then
  (eh t90 t92).bind fun x50=>
  (R46 x50).bind fun r51=>
  if(r51 !=0)=true then
   some (.inr (.inl r51))
  else
   some (.inl (cf (t92+1)))
 else
  some (.inr (.inr ()))
def wk:Option (Int⊕(Unit)):=loop (fun(zz:Int)=>sE R46 t90 t91 zz) t92
theorem y8(hR46:qM R46){y:Int⊕(Int⊕(Unit))}(h:sE R46 t90 t91 t92=some y):aC Pg GE 0 (cA A0 2039) (LQ (fun(zz:Int)=>gP t90 t91 zz) gQ eZ y) (gP t90 t91 t92):=by
 rcases aT h with⟨c49,h⟩|⟨c49,h⟩
 ·obtain⟨x50,bx50,h⟩:=av h
  obtain⟨r51,br51,h⟩:=av h
  have p53:=fun{sc F} (r:PS sc F)=>sg 0 c49<|sv (dF.ia (k:=.i64) bx50)<|sv (bA x50)<|sx io<|sx (cB x50)<|sv (bk x50 [])<|bg (hR46 _ _ br51)<|r
  rcases aT h with⟨c52,h⟩|⟨c52,h⟩
  ·obtain rfl:=lf h
   have z:=p53<|sg 0 c52<|jw 0 (gQ (.inl r51)) (eZ (.inl r51)) rfl (bS (aI trivial trivial)) (aI trivial trivial)
   exact gg (A:=jD) mixed (by intro hx;cases hx) z<|by kernel_rfl
  ·obtain rfl:=lf h
   have z:=p53<|sg 0 c52<|jw 0 .normal (gP t90 t91 (cf (t92+1))) rfl (bS (aI (up (ak al t90)) (aI trivial (aI trivial trivial)))) (aI trivial trivial)
   exact cd (A:=jD) mixed z<|by kernel_rfl
 ·obtain rfl:=lf h
  have z:=sg 0 c49<|eF (gQ (.inr ())) (eZ (.inr ()))
  exact gZ jD (by intro hx;cases hx) z<|by kernel_rfl
theorem qG(hR46:qM R46){x:Int⊕(Unit)}(h:wk R46 t90 t91 t92=some x):aC Pg GE 0 (.loop (cA A0 2039)) (EX (gQ x) (eZ x)) (gP t90 t91 t92):=
 aC.loop (S:=fun(zz:Int)=>gP t90 t91 zz) (ex:=gQ) (s:=t92) h fun zz y hy=>y8 R46 t90 t91 zz hR46 hy
end
def y6(R46:mL)(t:ae):Option Int:=
 (wc t).bind fun o3=>
 (wd t).bind fun o6=>
 (wg t o3 o6).bind fun o31=>
 if o31=true then
  some 1
 else
  (AG t).bind fun r34=>
  if(r34 !=0)=true then
   some r34
  else
   (wh t o3).bind fun o48=>match o48 with
   |(.inl o48)=>
    some 3
   | (.inr o48) =>
    (wk R46 t.Args (t.Args.length:Int) 0).bind fun o54=>match o54 with
    |(.inl o54)=>
     some o54
    |(.inr o54)=>
     some 0
theorem Ds(R46:mL)(hR46:qM R46){t:ae}{r:Int}(h:y6 R46 t=some r):CC Pg GE 113 [.agg (af t)] (.int .i64 r) []:=by
 obtain⟨o3,bo3,h⟩:=av h
 obtain⟨o6,bo6,h⟩:=av h
 obtain⟨o31,bo31,h⟩:=av h
 have p33:=fun{sc F} (r:PS sc F)=>se (bY t)<|mG 0<|cC (Ac t bo3)<|mG 0<|cC (Ad t o3 bo6)<|mG 1<|cC (Ae t o3 o6 bo31)<|r
 rcases aT h with⟨c32,h⟩|⟨c32,h⟩
 ·obtain rfl:=lf h
  have z:=p33<|sg 0 c32<|en (aI (rP (.int .i64 1))<|trivial)
  exact cb jD call113 func113 (c:=A0) rfl (aI (al t) trivial) z<|by kernel_rfl
 ·obtain⟨r34,br34,h⟩:=av h
  have p36:=fun{sc F} (r:PS sc F)=>p33<|sg 0 c32<|sv (bA t)<|bg (Dp br34)<|r
  rcases aT h with⟨c35,h⟩|⟨c35,h⟩
  ·obtain rfl:=lf h
   have z:=p36<|sg 0 c35<|en (aI (rP (.int .i64 r34))<|trivial)
   exact cb jD call113 func113 (c:=A0) rfl (aI (al t) trivial) z<|by kernel_rfl
  ·obtain⟨o48,bo48,h⟩:=av h
   rcases o48 with o48|o48
   ·obtain rfl:=lf h
    have z:=p36<|sg 0 c35<|mG 0<|cC (e:=.ret) (s1:=dq t (.inl o48)) (lC t o3 bo48)<|en (aI (rP (.int .i64 3))<|trivial)
    exact cb jD call113 func113 (c:=A0) rfl (aI (al t) trivial) z<|by kernel_rfl
   ·obtain⟨o54,bo54,h⟩:=av h
    rcases o54 with o54|o54
    ·obtain rfl:=lf h
     have z:=p36<|sg 0 c35<|mG 0<|cC (e:=.normal) (s1:=dq t (.inr o48)) (lC t o3 bo48)<|sv (aL t)<|sv (aM t)<|cx (dF.ln t.Args)<|cC (e:=.ret) (s1:=eZ (.inl o54)) (qG R46 t.Args (t.Args.length:Int) 0 hR46 bo54)<|en (aI (rP (.int .i64 o54))<|trivial)
     exact cb jD call113 func113 (c:=A0) rfl (aI (al t) trivial) z<|by kernel_rfl
    ·obtain rfl:=lf h
     have z:=p36<|sg 0 c35<|mG 0<|cC (e:=.normal) (s1:=dq t (.inr o48)) (lC t o3 bo48)<|sv (aL t)<|sv (aM t)<|cx (dF.ln t.Args)<|cC (e:=.exit 0) (s1:=eZ (.inr o54)) (qG R46 t.Args (t.Args.length:Int) 0 hR46 bo54)<|en (aI (rP (.int .i64 0))<|trivial)
     exact cb jD call113 func113 (c:=A0) rfl (aI (al t) trivial) z<|by kernel_rfl
def y7:(ae->Option Int)->(ae)->Option Int:=fun(rec:ae->Option Int) (x:ae)=>y6 (fun t=>rec t) x
def Dr(t:ae):Option Int:=kY y7 t
theorem D2{t:ae}{r:Int}(h:Dr t=some r):CC Pg GE 113 [.agg (af t)] (.int .i64 r) []:=
 cw (F:=y7) (M:=fun(x:ae) (r:Int)=>CC Pg GE 113 [.agg (af x)] (.int .i64 r) []) (fun rec hrec x r h=>Ds _ (fun t r h=>hrec t r h) h) h
noncomputable def PF:Code:=f77.body.getD .skip
def Pw:List Nat:=[]
def AE(t:ae):Option Int:=
 (AH t).bind fun r1=>
 if(decide (r1>40))=true then
  some 8
 else
  (Dr t).bind fun r4=>
  some r4
theorem Dn{t:ae}{r:Int}(h:AE t=some r):CC Pg GE 77 [.agg (af t)] (.int .i64 r) []:=by
 obtain⟨r1,br1,h⟩:=av h
 have p3:=fun{sc F} (r:PS sc F)=>se (bY t)<|sv (bA t)<|bg (Dq br1)<|r
 rcases aT h with⟨c2,h⟩|⟨c2,h⟩
 ·obtain rfl:=lf h
  have z:=p3<|sg 0 c2<|en (aI (rP (.int .i64 8))<|trivial)
  exact cb Pw call77 func77 (c:=PF) rfl (aI (al t) trivial) z<|by kernel_rfl
 ·obtain⟨r4,br4,h⟩:=av h
  obtain rfl:=lf h
  have z:=p3<|sg 0 c2<|sv (bA t)<|bg (D2 br4)<|en (aI (rP (.int .i64 r4))<|trivial)
  exact cb Pw call77 func77 (c:=PF) rfl (aI (al t) trivial) z<|by kernel_rfl
abbrev jv:=(ae->Option Int)
abbrev mc(R:jv):Prop:=∀(t:ae) (r:Int),R t=some r->CC Pg GE 78 [.agg (af t)] (.int .i64 r) []
noncomputable def Qy:Code:=f56.body.getD .skip
def Qh:List Nat:=[]
def nb(p:aa):Option Bool:=
 (jV p (⟨0,([]:ai),0,([]:List aa)⟩:aa)).bind fun r1=>
 some r1
theorem mo{p:aa}{r:Bool}(h:nb p=some r):CC Pg GE 56 [.agg (ac p)] (.bool r) []:=by
 obtain⟨r1,br1,h⟩:=av h
 obtain rfl:=lf h
 have z:=se (bj p)<|sv (aB p)<|sb (nA) (ny)<|bg (kn br1)<|en (aI (rP (.bool r1))<|trivial)
 exact cb Qh call56 func56 (c:=Qy) rfl (aI (ag p) trivial) z<|by kernel_rfl
noncomputable def NC:Code:=f163.body.getD .skip
def Ni:List Nat:=[]
def Av(ok:Bool):Option Int:=
 if ok=true then
  some 0
 else
  some 3
theorem CB{ok:Bool}{r:Int}(h:Av ok=some r):CC Pg GE 163 [.bool ok] (.int .i64 r) []:=by
 rcases aT h with⟨c1,h⟩|⟨c1,h⟩
 ·obtain rfl:=lf h
  have z:=sg 0 c1<|en (aI (rP (.int .i64 0))<|trivial)
  exact cb Ni call163 func163 (c:=NC) rfl (aI trivial trivial) z<|by kernel_rfl
 ·obtain rfl:=lf h
  have z:=sg 0 c1<|en (aI (rP (.int .i64 3))<|trivial)
  exact cb Ni call163 func163 (c:=NC) rfl (aI trivial trivial) z<|by kernel_rfl
noncomputable def ON:Code:=f135.body.getD .skip
def OD:List Nat:=[]
def At(s:ai):Option Int:=
 (wP s).bind fun r1=>
 (Av r1).bind fun r2=>
 some r2
theorem Cz{s:ai}{r:Int}(h:At s=some r):CC Pg GE 135 [.str s] (.int .i64 r) []:=by
 obtain⟨r1,br1,h⟩:=av h
 obtain⟨r2,br2,h⟩:=av h
 obtain rfl:=lf h
 have z:=bg (pH br1)<|bg (CB br2)<|en (aI (rP (.int .i64 r2))<|trivial)
 exact cb OD call135 func135 (c:=ON) rfl (aI trivial trivial) z<|by kernel_rfl
noncomputable def K7:Code:=f136.body.getD .skip
def Ju:List Nat:=[]
section
variable(t7:waB)(t8:Int)(t9:Int)(m0:(List (ai×Bool)))
def ei:aq:=aP 19 [(3,.mapr 0),(7,sl cS t7),(8,.int .i64 t8),(9,.int .i64 t9)] [.map (sL PVal.bool m0)] []
def ej(o:((List (ai×Bool)))⊕((List (ai×Bool)))):Exit:=match o with
 |(.inl _)=>.ret
 |(.inr _)=>.exit 0
def dp(o:((List (ai×Bool)))⊕((List (ai×Bool)))):aq:=match o with
 |(.inl o)=>aP 19 [(2,.bool false)] [.map (sL PVal.bool o)] []
 |(.inr o)=>aP 19 [] [.map (sL PVal.bool o)] []
def mz:Option ((Int×(List (ai×Bool)))⊕(((List (ai×Bool)))⊕((List (ai×Bool))))):=
 if(decide (t9<t8))=true then
  (eh t7 t9).bind fun x2=>
  if((A3 m0 x2).getD false)=true then
   some (.inr (.inl m0))
  else
   some (.inl (cf (t9+1),DM m0 x2 true))
 else
  some (.inr (.inr m0))
def oN:Option (((List (ai×Bool)))⊕((List (ai×Bool)))):=loop (fun(zz:Int×(List (ai×Bool)))=>mz t7 t8 zz.1 zz.2) (t9,m0)
theorem sM{y:(Int×(List (ai×Bool)))⊕(((List (ai×Bool)))⊕((List (ai×Bool))))}(h:mz t7 t8 t9 m0=some y):aC Pg GE 0 (cA K7 119) (LQ (fun(zz:Int×(List (ai×Bool)))=>ei t7 t8 zz.1 zz.2) ej dp y) (ei t7 t8 t9 m0):=by
 rcases aT h with⟨c1,h⟩|⟨c1,h⟩
 ·obtain⟨x2,bx2,h⟩:=av h
  have p4:=fun{sc F} (r:PS sc F)=>sg 0 c1<|sv (cn.ia (k:=.i64) bx2)<|sv (gh Iq (.str x2) [])<|sv (Ht (f:=PVal.bool) underlying121 underlying9 Pr m0 x2)<|r
  rcases aT h with⟨c3,h⟩|⟨c3,h⟩
  ·obtain rfl:=lf h
   have z:=p4<|sg 0 c3<|eF (ej (.inl m0)) (dp (.inl m0))
   exact gZ Ju (by intro hx;cases hx) z<|by kernel_rfl
  ·obtain rfl:=lf h
   exact Bd Ju (p4<|sg 0 c3<|PZ (Kg (f:=PVal.bool) underlying121 underlying9 m0 x2 true)<|eF .normal (ei t7 t8 (cf (t9+1)) (DM m0 x2 true)))<|by kernel_rfl
 ·obtain rfl:=lf h
  have z:=sg 0 c1<|eF (ej (.inr m0)) (dp (.inr m0))
  exact gZ Ju (by intro hx;cases hx) z<|by kernel_rfl
theorem lU{x:((List (ai×Bool)))⊕((List (ai×Bool)))}(h:oN t7 t8 t9 m0=some x):aC Pg GE 0 (.loop (cA K7 119)) (EX (ej x) (dp x)) (ei t7 t8 t9 m0):=
 aC.loop (S:=fun(zz:Int×(List (ai×Bool)))=>ei t7 t8 zz.1 zz.2) (ex:=ej) (s:=(t9,m0)) h fun zz y hy=>sM t7 t8 zz.1 zz.2 hy
end
def tE(a:waB):Option Bool:=
 (oN a (a.length:Int) 0 ([]:List (ai×Bool))).bind fun o5=>match o5 with
 |(.inl o5)=>
  some false
 |(.inr o5)=>
  some true
theorem xU{a:waB}{r:Bool}(h:tE a=some r):CC Pg GE 136 [sl cS a] (.bool r) []:=by
 obtain⟨o5,bo5,h⟩:=av h
 rcases o5 with o5|o5
 ·obtain rfl:=lf h
  have z:=cx (cn.ln a)<|cC (e:=.ret) (s1:=dp (.inl o5)) (lU a (a.length:Int) 0 ([]:List (ai×Bool)) bo5)<|en (aI (rP (.bool false))<|trivial)
  exact cb Ju call136 func136 (c:=K7) rfl (aI (ak hZ a) trivial) z<|by kernel_rfl
 ·obtain rfl:=lf h
  have z:=cx (cn.ln a)<|cC (e:=.exit 0) (s1:=dp (.inr o5)) (lU a (a.length:Int) 0 ([]:List (ai×Bool)) bo5)<|en (aI (rP (.bool true))<|trivial)
  exact cb Ju call136 func136 (c:=K7) rfl (aI (ak hZ a) trivial) z<|by kernel_rfl
abbrev mK:=(aa->Option Int)
abbrev qL(R:mK):Prop:=∀(p:aa) (r:Int),R p=some r->CC Pg GE 164 [.agg (ac p)] (.int .i64 r) []
noncomputable def Mw:Code:=f164.body.getD .skip
def Mi:List Nat:=[18]
section
variable(R65:mK)(t7:waA)(t8:Int)(n:Int)(t9:Int)
def gD:aq:=aP 19 [(3,.int .i64 n),(7,sl ac t7),(8,.int .i64 t8),(9,.int .i64 t9)] [.dead] []
def mj(o:Int):aq:=aP 19 [(3,.int .i64 o)] [.dead] []
def sa:Option ((Int×Int)⊕(Int)):=
 if(decide (t9<t8))=true then
  (eh t7 t9).bind fun x2=>
  (R65 x2).bind fun r3=>
  some (.inl (cf (n+r3),cf (t9+1)))
 else
  some (.inr n)
def vU:Option Int:=loop (fun(zz:Int×Int)=>sa R65 t7 t8 zz.1 zz.2) (n,t9)
theorem yr(hR65:qL R65){y:(Int×Int)⊕(Int)}(h:sa R65 t7 t8 n t9=some y):aC Pg GE 0 (cA Mw 119) (LQ (fun(zz:Int×Int)=>gD t7 t8 zz.1 zz.2) (fun _=>.exit 0) mj y) (gD t7 t8 n t9):=by
 rcases aT h with⟨c1,h⟩|⟨c1,h⟩
 ·obtain⟨x2,bx2,h⟩:=av h
  obtain⟨r3,br3,h⟩:=av h
  obtain rfl:=lf h
  have z:=sg 0 c1<|sv (aQ.ia (k:=.i64) bx2)<|sv (aB x2)<|sx dB<|sx (aW x2)<|sv (aD x2 [])<|bg (hR65 _ _ br3)<|jw 0 .normal (gD t7 t8 (cf (n+r3)) (cf (t9+1))) rfl (bS (aI trivial (aI (up (ak ag t7)) (aI trivial (aI trivial trivial))))) (aI trivial trivial)
  exact cd (A:=Mi) mixed z<|by kernel_rfl
 ·obtain rfl:=lf h
  have z:=sg 0 c1<|eF (.exit 0) (mj n)
  exact gZ Mi (by intro hx;cases hx) z<|by kernel_rfl
theorem zR(hR65:qL R65){x:Int}(h:vU R65 t7 t8 n t9=some x):aC Pg GE 0 (.loop (cA Mw 119)) (EX (.exit 0) (mj x)) (gD t7 t8 n t9):=
 aC.loop (S:=fun(zz:Int×Int)=>gD t7 t8 zz.1 zz.2) (ex:=(fun _=>.exit 0)) (s:=(n,t9)) h fun zz y hy=>yr R65 t7 t8 zz.1 zz.2 hR65 hy
end
def yp(R65:mK)(p:aa):Option Int:=
 (vU R65 p.Kids (p.Kids.length:Int) 1 0).bind fun o4=>
 some o4
theorem CT(R65:mK)(hR65:qL R65){p:aa}{r:Int}(h:yp R65 p=some r):CC Pg GE 164 [.agg (ac p)] (.int .i64 r) []:=by
 obtain⟨o4,bo4,h⟩:=av h
 obtain rfl:=lf h
 have z:=se (bj p)<|sv (ay p)<|sv (az p)<|cx (aQ.ln p.Kids)<|cC (zR R65 p.Kids (p.Kids.length:Int) 1 0 hR65 bo4)<|en (aI (rP (.int .i64 o4))<|trivial)
 exact cb Mi call164 func164 (c:=Mw) rfl (aI (ag p) trivial) z<|by kernel_rfl
def yq:(aa->Option Int)->(aa)->Option Int:=fun(rec:aa->Option Int) (x:aa)=>yp (fun p=>rec p) x
def rE(p:aa):Option Int:=kY yq p
theorem vV{p:aa}{r:Int}(h:rE p=some r):CC Pg GE 164 [.agg (ac p)] (.int .i64 r) []:=
 cw (F:=yq) (M:=fun(x:aa) (r:Int)=>CC Pg GE 164 [.agg (ac x)] (.int .i64 r) []) (fun rec hrec x r h=>CT _ (fun p r h=>hrec p r h) h) h
abbrev mJ:=(aa->Option Int)
abbrev qK(R:mJ):Prop:=∀(p:aa) (r:Int),R p=some r->CC Pg GE 165 [.agg (ac p)] (.int .i64 r) []
noncomputable def Mx:Code:=f165.body.getD .skip
def Mj:List Nat:=[]
section
variable(R66:mJ)(t7:waA)(t8:Int)(n:Int)(t9:Int)
def gC:aq:=aP 20 [(3,.int .i64 n),(7,sl ac t7),(8,.int .i64 t8),(9,.int .i64 t9)] [.dead] []
def mi(o:Int):aq:=aP 20 [(3,.int .i64 o)] [.dead] []
def rZ:Option ((Int×Int)⊕(Int)):=
 if(decide (t9<t8))=true then
  (eh t7 t9).bind fun x2=>
  (R66 x2).bind fun r3=>
  some (.inl ((if r3>n then r3 else n),cf (t9+1)))
 else
  some (.inr n)
def vS:Option Int:=loop (fun(zz:Int×Int)=>rZ R66 t7 t8 zz.1 zz.2) (n,t9)
theorem yn(hR66:qK R66){y:(Int×Int)⊕(Int)}(h:rZ R66 t7 t8 n t9=some y):aC Pg GE 0 (cA Mx 119) (LQ (fun(zz:Int×Int)=>gC t7 t8 zz.1 zz.2) (fun _=>.exit 0) mi y) (gC t7 t8 n t9):=by
 rcases aT h with⟨c1,h⟩|⟨c1,h⟩
 ·obtain⟨x2,bx2,h⟩:=av h
  obtain⟨r3,br3,h⟩:=av h
  obtain rfl:=lf h
  have z:=sg 0 c1<|sv (aQ.ia (k:=.i64) bx2)<|sv (aB x2)<|sx dB<|sx (aW x2)<|sv (aD x2 [])<|bg (hR66 _ _ br3)<|jw 0 .normal (gC t7 t8 (if r3>n then r3 else n) (cf (t9+1))) rfl (bS (aI trivial (aI (up (ak ag t7)) (aI trivial (aI trivial trivial))))) (aI trivial trivial)
  exact cd (A:=Mj) mixed z<|by kernel_rfl
 ·obtain rfl:=lf h
  have z:=sg 0 c1<|eF (.exit 0) (mi n)
  exact gZ Mj (by intro hx;cases hx) z<|by kernel_rfl
theorem zN(hR66:qK R66){x:Int}(h:vS R66 t7 t8 n t9=some x):aC Pg GE 0 (.loop (cA Mx 119)) (EX (.exit 0) (mi x)) (gC t7 t8 n t9):=
 aC.loop (S:=fun(zz:Int×Int)=>gC t7 t8 zz.1 zz.2) (ex:=(fun _=>.exit 0)) (s:=(n,t9)) h fun zz y hy=>yn R66 t7 t8 zz.1 zz.2 hR66 hy
end
def yl(R66:mJ)(p:aa):Option Int:=
 (vS R66 p.Kids (p.Kids.length:Int) 0 0).bind fun o4=>
 some (cf (o4+1))
theorem CS(R66:mJ)(hR66:qK R66){p:aa}{r:Int}(h:yl R66 p=some r):CC Pg GE 165 [.agg (ac p)] (.int .i64 r) []:=by
 obtain⟨o4,bo4,h⟩:=av h
 obtain rfl:=lf h
 have z:=se (bj p)<|sv (ay p)<|sv (az p)<|cx (aQ.ln p.Kids)<|cC (zN R66 p.Kids (p.Kids.length:Int) 0 0 hR66 bo4)<|en (aI (rP (.int .i64 (cf (o4+1))))<|trivial)
 exact cb Mj call165 func165 (c:=Mx) rfl (aI (ag p) trivial) z<|by kernel_rfl
def ym:(aa->Option Int)->(aa)->Option Int:=fun(rec:aa->Option Int) (x:aa)=>yl (fun p=>rec p) x
def rC(p:aa):Option Int:=kY ym p
theorem vT{p:aa}{r:Int}(h:rC p=some r):CC Pg GE 165 [.agg (ac p)] (.int .i64 r) []:=
 cw (F:=ym) (M:=fun(x:aa) (r:Int)=>CC Pg GE 165 [.agg (ac x)] (.int .i64 r) []) (fun rec hrec x r h=>CS _ (fun p r h=>hrec p r h) h) h
noncomputable def G3:Code:=f182.body.getD .skip
def BQ:List Nat:=[]
section
variable(t4:Int)
def CW:aq:=aP 15 [(4,.int .i64 t4)] [] []
def kq(o:Bool):aq:=aP 15 [(4,.int .i64 t4),(5,.bool o)] [] []
def yy:Option Bool:=
 if(t4==1)=true then
  some (t4==1)
 else
  if(t4==2)=true then
   some (t4==2)
  else
   some (t4==3)
theorem Bj{x:Bool}(h:yy t4=some x):aC Pg GE 0 (cA G3 54) (EX .normal (kq t4 x)) (CW t4):=by
 rcases aT h with⟨c1,h⟩|⟨c1,h⟩
 ·obtain rfl:=lf h
  exact ct BQ (sg 0 c1<|eF .normal (kq t4 (t4==1)))<|by kernel_rfl
 ·rcases aT h with⟨c2,h⟩|⟨c2,h⟩
  ·obtain rfl:=lf h
   exact ct BQ (sg 0 c1<|sg 0 c2<|eF .normal (kq t4 (t4==2)))<|by kernel_rfl
  ·obtain rfl:=lf h
   exact ct BQ (sg 0 c1<|sg 0 c2<|eF .normal (kq t4 (t4==3)))<|by kernel_rfl
end
section
variable(t4:Int)
def CX:aq:=aP 15 [(4,.int .i64 t4)] [] []
def nO(o:Bool):aq:=aP 15 [(4,.int .i64 t4),(9,.bool o)] [] []
def yz:Option Bool:=
 if(t4==4)=true then
  some (t4==4)
 else
  some (t4==5)
theorem Bk{x:Bool}(h:yz t4=some x):aC Pg GE 0 (cA G3 222) (EX .normal (nO t4 x)) (CX t4):=by
 rcases aT h with⟨c6,h⟩|⟨c6,h⟩
 ·obtain rfl:=lf h
  exact ct BQ (sg 0 c6<|eF .normal (nO t4 (t4==4)))<|by kernel_rfl
 ·obtain rfl:=lf h
  exact ct BQ (sg 0 c6<|eF .normal (nO t4 (t4==5)))<|by kernel_rfl
end
section
variable(t4:Int)
def CY:aq:=aP 15 [(4,.int .i64 t4)] [] []
def nQ(o:Bool):aq:=aP 15 [(12,.bool o)] [] []
def yA:Option Bool:=
 if(t4==9)=true then
  some (t4==9)
 else
  some (t4==14)
theorem Bl{x:Bool}(h:yA t4=some x):aC Pg GE 0 (cA G3 894) (EX .normal (nQ x)) (CY t4):=by
 rcases aT h with⟨c10,h⟩|⟨c10,h⟩
 ·obtain rfl:=lf h
  exact ct BQ (sg 0 c10<|eF .normal (nQ (t4==9)))<|by kernel_rfl
 ·obtain rfl:=lf h
  exact ct BQ (sg 0 c10<|eF .normal (nQ (t4==14)))<|by kernel_rfl
end
def Ex(op:Int):Option (Int×Int):=
 (yy op).bind fun o3=>
 if o3=true then
  some (0,0)
 else
  (yz op).bind fun o7=>
  if o7=true then
   some (1,24)
  else
   (yA op).bind fun o11=>
   if o11=true then
    some (1,1)
   else
    some (2,2)
theorem Ft{op:Int}{r:Int×Int}(h:Ex op=some r):CC Pg GE 182 [.int .i64 op] (.tuple [.int .i64 r.1,.int .i64 r.2]) []:=by
 obtain⟨o3,bo3,h⟩:=av h
 have p5:=fun{sc F} (r:PS sc F)=>mG 3<|cC (Bj op bo3)<|r
 rcases aT h with⟨c4,h⟩|⟨c4,h⟩
 ·obtain rfl:=lf h
  have z:=p5<|sg 0 c4<|en (aI (rP (.tuple [.int .i64 0,.int .i64 0]))<|(aI trivial (aI trivial trivial)))
  exact cb BQ call182 func182 (c:=G3) rfl (aI trivial trivial) z<|by kernel_rfl
 ·obtain⟨o7,bo7,h⟩:=av h
  have p9:=fun{sc F} (r:PS sc F)=>p5<|sg 0 c4<|mG 0<|cC (Bk op bo7)<|r
  rcases aT h with⟨c8,h⟩|⟨c8,h⟩
  ·obtain rfl:=lf h
   have z:=p9<|sg 0 c8<|en (aI (rP (.tuple [.int .i64 1,.int .i64 24]))<|(aI trivial (aI trivial trivial)))
   exact cb BQ call182 func182 (c:=G3) rfl (aI trivial trivial) z<|by kernel_rfl
  ·obtain⟨o11,bo11,h⟩:=av h
   have p13:=fun{sc F} (r:PS sc F)=>p9<|sg 0 c8<|mG 0<|cC (Bl op bo11)<|r
   rcases aT h with⟨c12,h⟩|⟨c12,h⟩
   ·obtain rfl:=lf h
    have z:=p13<|sg 0 c12<|en (aI (rP (.tuple [.int .i64 1,.int .i64 1]))<|(aI trivial (aI trivial trivial)))
    exact cb BQ call182 func182 (c:=G3) rfl (aI trivial trivial) z<|by kernel_rfl
   ·obtain rfl:=lf h
    have z:=p13<|sg 0 c12<|en (aI (rP (.tuple [.int .i64 2,.int .i64 2]))<|(aI trivial (aI trivial trivial)))
    exact cb BQ call182 func182 (c:=G3) rfl (aI trivial trivial) z<|by kernel_rfl
noncomputable def My:Code:=f183.body.getD .skip
def Ml:List Nat:=[]
def xe(op:Int):Option Bool:=
 if(op==3)=true then
  some true
 else
  if(op==4)=true then
   some true
  else
   some (op==5)
theorem vW{op:Int}{r:Bool}(h:xe op=some r):CC Pg GE 183 [.int .i64 op] (.bool r) []:=by
 rcases aT h with⟨c1,h⟩|⟨c1,h⟩
 ·obtain rfl:=lf h
  have z:=sg 3 c1<|en (aI (rP (.bool true))<|trivial)
  exact cb Ml call183 func183 (c:=My) rfl (aI trivial trivial) z<|by kernel_rfl
 ·rcases aT h with⟨c2,h⟩|⟨c2,h⟩
  ·obtain rfl:=lf h
   have z:=sg 3 c1<|sg 7 c2<|en (aI (rP (.bool true))<|trivial)
   exact cb Ml call183 func183 (c:=My) rfl (aI trivial trivial) z<|by kernel_rfl
  ·obtain rfl:=lf h
   have z:=sg 3 c1<|sg 7 c2<|en (aI (rP (.bool (op==5)))<|trivial)
   exact cb Ml call183 func183 (c:=My) rfl (aI trivial trivial) z<|by kernel_rfl
noncomputable def NH:Code:=f184.body.getD .skip
def Nm:List Nat:=[]
def Kh(n:Int):Option Bool:=
 if(decide (n>=(-1000000000000)))=true then
  some (decide (n<=1000000000000))
 else
  some false
theorem I0{n:Int}{r:Bool}(h:Kh n=some r):CC Pg GE 184 [.int .i64 n] (.bool r) []:=by
 rcases aT h with⟨c1,h⟩|⟨c1,h⟩
 ·obtain rfl:=lf h
  have z:=sg 3 c1<|en (aI (rP (.bool (decide (n<=1000000000000))))<|trivial)
  exact cb Nm call184 func184 (c:=NH) rfl (aI trivial trivial) z<|by kernel_rfl
 ·obtain rfl:=lf h
  have z:=sg 3 c1<|en (aI (rP (.bool false))<|trivial)
  exact cb Nm call184 func184 (c:=NH) rfl (aI trivial trivial) z<|by kernel_rfl
end Go.Proofs.YtggeppllafbidaaGreatDoor
