/- PROVED: a part of the proof. Conditions: none. -/
import Derived.Test.YtggeppllafbidaaGreatDoorPkC11
noncomputable section
namespace Go.Proofs.YtggeppllafbidaaGreatDoor
open Go Go.Proofs.Tryz
set_option linter.unusedVariables false
set_option maxRecDepth 100000
noncomputable def Nq:Code:=f133.body.getD .skip
def IP:List Nat:=[]
section
variable(t:ae)
def Df:av:=aM 39 [(1,.eptr (af t))] [.dead] []
def gy(o:Bool):av:=aM 39 [(38,.bool o)] [.dead] []
def xh:Option Bool:=
 if(decide ((t.Args.length:Int)<2))=true then
  some true
 else
  if(decide ((t.Args.length:Int)>7))=true then
   some true
  else
   if((t.Names.length:Int)!=0)=true then
    some ((t.Names.length:Int)!=(bC ((t.Args.length:Int) - 1)))
   else
    some false
theorem B9{x:Bool}(h:xh t=some x):aF Pg GE 0 (cA Nq 892) (EX .normal (gy x)) (Df t):=by
 have p8:=fun{sc F} (r:PS sc F)=>sv (aH t)<|sv (aJ t)<|cG (dP.ln t.Args)<|r
 rcases aU h with⟨c7,h⟩|⟨c7,h⟩
 ·obtain rfl:=lf h
  exact cm IP (p8<|sg 5 c7<|eF .normal (gy true))<|by kernel_rfl
 ·have p10:=fun{sc F} (r:PS sc F)=>p8<|sg 5 c7<|sv (aH t)<|sv (aJ t)<|cG (dP.ln t.Args)<|r
  rcases aU h with⟨c9,h⟩|⟨c9,h⟩
  ·obtain rfl:=lf h
   exact cm IP (p10<|sg 11 c9<|eF .normal (gy true))<|by kernel_rfl
  ·have p12:=fun{sc F} (r:PS sc F)=>p10<|sg 11 c9<|sv (aB t)<|sv (aD t)<|cG (ba.ln t.Names)<|r
   rcases aU h with⟨c11,h⟩|⟨c11,h⟩
   ·obtain rfl:=lf h
    exact cm IP (p12<|sg 16 c11<|sv (aB t)<|sv (aD t)<|cG (ba.ln t.Names)<|sv (aH t)<|sv (aJ t)<|cG (dP.ln t.Args)<|eF .normal (gy ((t.Names.length:Int)!=(bC ((t.Args.length:Int) - 1)))))<|by kernel_rfl
   ·obtain rfl:=lf h
    exact cm IP (p12<|sg 16 c11<|eF .normal (gy false))<|by kernel_rfl
end
def DL(t:ae):Option Int:=
 if(t.Op==4)=true then
  if(decide ((t.Args.length:Int)>6))=true then
   some 13
  else
   some 0
 else
  if(t.Op==6)=true then
   (xh t).bind fun o13=>
   if o13=true then
    some 13
   else
    some 0
  else
   some 0
theorem G7{t:ae}{r:Int}(h:DL t=some r):CC Pg GE 133 [.agg (af t)] (.int .i64 r) []:=by
 have p2:=fun{sc F} (r:PS sc F)=>se (bE t)<|sv (aA t)<|sv (aC t)<|r
 rcases aU h with⟨c1,h⟩|⟨c1,h⟩
 ·have p4:=fun{sc F} (r:PS sc F)=>p2<|sg 0 c1<|sv (aH t)<|sv (aJ t)<|cG (dP.ln t.Args)<|r
  rcases aU h with⟨c3,h⟩|⟨c3,h⟩
  ·obtain rfl:=lf h
   have z:=p4<|sg 0 c3<|en (aI (rP (.int .i64 13))<|trivial)
   exact bS IP call133 func133 (c:=Nq) rfl (aI (ak t) trivial) z<|by kernel_rfl
  ·obtain rfl:=lf h
   have z:=p4<|sg 0 c3<|en (aI (rP (.int .i64 0))<|trivial)
   exact bS IP call133 func133 (c:=Nq) rfl (aI (ak t) trivial) z<|by kernel_rfl
 ·have p6:=fun{sc F} (r:PS sc F)=>p2<|sg 0 c1<|r
  rcases aU h with⟨c5,h⟩|⟨c5,h⟩
  ·obtain⟨o13,bo13,h⟩:=aw h
   have p15:=fun{sc F} (r:PS sc F)=>p6<|sg 0 c5<|kq 0<|cC (B9 t bo13)<|r
   rcases aU h with⟨c14,h⟩|⟨c14,h⟩
   ·obtain rfl:=lf h
    have z:=p15<|sg 0 c14<|en (aI (rP (.int .i64 13))<|trivial)
    exact bS IP call133 func133 (c:=Nq) rfl (aI (ak t) trivial) z<|by kernel_rfl
   ·obtain rfl:=lf h
    have z:=p15<|sg 0 c14<|en (aI (rP (.int .i64 0))<|trivial)
    exact bS IP call133 func133 (c:=Nq) rfl (aI (ak t) trivial) z<|by kernel_rfl
  ·obtain rfl:=lf h
   have z:=p6<|sg 0 c5<|en (aI (rP (.int .i64 0))<|trivial)
   exact bS IP call133 func133 (c:=Nq) rfl (aI (ak t) trivial) z<|by kernel_rfl
noncomputable def QJ:Code:=f157.body.getD .skip
def OF:List Nat:=[23]
section
variable(s:ag)(i:Int)
def jo:av:=aM 24 [(0,.str s),(5,.int .i64 i)] [] []
def jp(o:(ag×ag)⊕(Unit)):Exit:=match o with
 |(.inl _)=>.ret
 |(.inr _)=>.exit 0
def gk(o:(ag×ag)⊕(Unit)):av:=match o with
 |(.inl o)=>aM 24 [(2,.str o.1),(3,.str o.2),(4,.bool true)] [] []
 |(.inr o)=>aM 24 [(0,.str s)] [] []
def wG:Option (Int⊕((ag×ag)⊕(Unit))):=
 if(decide (i<(s.length:Int)))=true then
  (xU s i).bind fun c2=>
  if(c2==46)=true then
   (Lo s none (some i)).bind fun s5=>
   (Lo s (some (bC (i+1))) none).bind fun s6=>
   some (.inr (.inl (s5,s6)))
  else
   some (.inl (bC (i+1)))
 else
  some (.inr (.inr ()))
def A6:Option ((ag×ag)⊕(Unit)):=loop (fun(zz:Int)=>wG s zz) i
theorem CO{y:Int⊕((ag×ag)⊕(Unit))}(h:wG s i=some y):aF Pg GE 0 (cA QJ 55) (LQ (fun(zz:Int)=>jo s zz) jp (gk s) y) (jo s i):=by
 rcases aU h with⟨c1,h⟩|⟨c1,h⟩
 ·obtain⟨c2,bc2,h⟩:=aw h
  have p4:=fun{sc F} (r:PS sc F)=>cG (tG underlying9 s)<|sg 0 c1<|sv (rN (k:=.i64) underlying9 bc2)<|r
  rcases aU h with⟨c3,h⟩|⟨c3,h⟩
  ·obtain⟨s5,bs5,h⟩:=aw h
   obtain⟨s6,bs6,h⟩:=aw h
   obtain rfl:=lf h
   have z:=p4<|sg 0 c3<|sU [0,0,3,0,0,16,56,7,255,511]<|sv (RM underlying9 bs5)<|sv (RM underlying9 bs6)<|eF (jp (.inl (s5,s6))) (gk s (.inl (s5,s6)))
   exact fX OF (by intro hx;cases hx) z<|by kernel_rfl
  ·obtain rfl:=lf h
   exact sT OF (p4<|sg 0 c3<|eF .normal (jo s (bC (i+1))))<|by kernel_rfl
 ·obtain rfl:=lf h
  have z:=cG (tG underlying9 s)<|sg 0 c1<|eF (jp (.inr ())) (gk s (.inr ()))
  exact fX OF (by intro hx;cases hx) z<|by kernel_rfl
theorem uZ{x:(ag×ag)⊕(Unit)}(h:A6 s i=some x):aF Pg GE 0 (.loop (cA QJ 55)) (EX (jp x) (gk s x)) (jo s i):=
 aF.loop (S:=fun(zz:Int)=>jo s zz) (ex:=jp) (s:=i) h fun zz y hy=>CO s zz hy
end
def CN(s:ag):Option (ag×ag×Bool):=
 (A6 s 0).bind fun o7=>match o7 with
 |(.inl o7)=>
  some (o7.1,o7.2,true)
 |(.inr o7)=>
  some (s,([]:ag),false)
theorem A7{s:ag}{r:ag×ag×Bool}(h:CN s=some r):CC Pg GE 157 [.str s] (.tuple [.str r.1,.str r.2.1,.bool r.2.2]) []:=by
 obtain⟨o7,bo7,h⟩:=aw h
 rcases o7 with o7|o7
 ·obtain rfl:=lf h
  have z:=cC (e:=.ret) (s1:=gk s (.inl o7)) (uZ s 0 bo7)<|en (aI (rP (.tuple [.str o7.1,.str o7.2,.bool true]))<|(aI trivial (aI trivial (aI trivial trivial))))
  exact bS OF call157 func157 (c:=QJ) rfl (aI trivial trivial) z<|by kernel_rfl
 ·obtain rfl:=lf h
  have z:=cC (e:=.exit 0) (s1:=gk s (.inr o7)) (uZ s 0 bo7)<|en (aI (rP (.tuple [.str s,.str ([]:ag),.bool false]))<|(aI trivial (aI trivial (aI trivial trivial))))
  exact bS OF call157 func157 (c:=QJ) rfl (aI trivial trivial) z<|by kernel_rfl
noncomputable def Tr:Code:=f160.body.getD .skip
def S5:List Nat:=[]
def rz(s:ag):Option Bool:=
 if(decide ((s.length:Int)>=1))=true then
  some (decide ((s.length:Int)<=24))
 else
  some false
theorem gm{s:ag}{r:Bool}(h:rz s=some r):CC Pg GE 160 [.str s] (.bool r) []:=by
 rcases aU h with⟨c1,h⟩|⟨c1,h⟩
 ·obtain rfl:=lf h
  have z:=cG (tG underlying9 s)<|sg 4 c1<|cG (tG underlying9 s)<|en (aI (rP (.bool (decide ((s.length:Int)<=24))))<|trivial)
  exact bS S5 call160 func160 (c:=Tr) rfl (aI trivial trivial) z<|by kernel_rfl
 ·obtain rfl:=lf h
  have z:=cG (tG underlying9 s)<|sg 4 c1<|en (aI (rP (.bool false))<|trivial)
  exact bS S5 call160 func160 (c:=Tr) rfl (aI trivial trivial) z<|by kernel_rfl
noncomputable def Tt:Code:=f178.body.getD .skip
def S7:List Nat:=[]
def nX(c:Int):Option Bool:=
 if(decide (97<=c))=true then
  some (decide (c<=122))
 else
  some false
theorem lV{c:Int}{r:Bool}(h:nX c=some r):CC Pg GE 178 [.int .u8 c] (.bool r) []:=by
 rcases aU h with⟨c1,h⟩|⟨c1,h⟩
 ·obtain rfl:=lf h
  have z:=sg 3 c1<|en (aI (rP (.bool (decide (c<=122))))<|trivial)
  exact bS S7 call178 func178 (c:=Tt) rfl (aI trivial trivial) z<|by kernel_rfl
 ·obtain rfl:=lf h
  have z:=sg 3 c1<|en (aI (rP (.bool false))<|trivial)
  exact bS S7 call178 func178 (c:=Tt) rfl (aI trivial trivial) z<|by kernel_rfl
noncomputable def QK:Code:=f179.body.getD .skip
def OG:List Nat:=[]
section
variable(s:ag)(t6:Int)
def eY:av:=aM 13 [(0,.str s),(5,.agg (e7.map PVal.str)),(6,.int .i64 t6)] [] []
def eZ(o:Unit⊕(Unit)):Exit:=match o with
 |(.inl _)=>.ret
 |(.inr _)=>.exit 0
def dT(o:Unit⊕(Unit)):av:=match o with
 |(.inl o)=>aM 13 [(2,.bool true)] [] []
 |(.inr o)=>aM 13 [] [] []
def qm:Option (Int⊕(Unit⊕(Unit))):=
 if(decide (t6<42))=true then
  (dz e7 t6).bind fun x2=>
  if(x2==s)=true then
   some (.inr (.inl ()))
  else
   some (.inl (bC (t6+1)))
 else
  some (.inr (.inr ()))
def tp:Option (Unit⊕(Unit)):=loop (fun(zz:Int)=>qm s zz) t6
theorem wD{y:Int⊕(Unit⊕(Unit))}(h:qm s t6=some y):aF Pg GE 0 (cA QK 55) (LQ (fun(zz:Int)=>eY s zz) eZ dT y) (eY s t6):=by
 rcases aU h with⟨c1,h⟩|⟨c1,h⟩
 ·obtain⟨x2,bx2,h⟩:=aw h
  have p4:=fun{sc F} (r:PS sc F)=>sg 0 c1<|sv (Ba (k:=.i64) bx2)<|r
  rcases aU h with⟨c3,h⟩|⟨c3,h⟩
  ·obtain rfl:=lf h
   have z:=p4<|sg 0 c3<|eF (eZ (.inl ())) (dT (.inl ()))
   exact fX OG (by intro hx;cases hx) z<|by kernel_rfl
  ·obtain rfl:=lf h
   exact sT OG (p4<|sg 0 c3<|eF .normal (eY s (bC (t6+1))))<|by kernel_rfl
 ·obtain rfl:=lf h
  have z:=sg 0 c1<|eF (eZ (.inr ())) (dT (.inr ()))
  exact fX OG (by intro hx;cases hx) z<|by kernel_rfl
theorem oT{x:Unit⊕(Unit)}(h:tp s t6=some x):aF Pg GE 0 (.loop (cA QK 55)) (EX (eZ x) (dT x)) (eY s t6):=
 aF.loop (S:=fun(zz:Int)=>eY s zz) (ex:=eZ) (s:=t6) h fun zz y hy=>wD s zz hy
end
def yD(s:ag):Option Bool:=
 (tp s 0).bind fun o5=>match o5 with
 |(.inl o5)=>
  some true
 |(.inr o5)=>
  some false
theorem CM{s:ag}{r:Bool}(h:yD s=some r):CC Pg GE 179 [.str s] (.bool r) []:=by
 obtain⟨o5,bo5,h⟩:=aw h
 rcases o5 with o5|o5
 ·obtain rfl:=lf h
  have z:=sv ry<|cC (e:=.ret) (s1:=dT (.inl o5)) (oT s 0 bo5)<|en (aI (rP (.bool true))<|trivial)
  exact bS OG call179 func179 (c:=QK) rfl (aI trivial trivial) z<|by kernel_rfl
 ·obtain rfl:=lf h
  have z:=sv ry<|cC (e:=.exit 0) (s1:=dT (.inr o5)) (oT s 0 bo5)<|en (aI (rP (.bool false))<|trivial)
  exact bS OG call179 func179 (c:=QK) rfl (aI trivial trivial) z<|by kernel_rfl
noncomputable def Tv:Code:=f180.body.getD .skip
def S8:List Nat:=[]
def rx(c:Int):Option Bool:=
 if(decide (48<=c))=true then
  some (decide (c<=57))
 else
  some false
theorem qn{c:Int}{r:Bool}(h:rx c=some r):CC Pg GE 180 [.int .u8 c] (.bool r) []:=by
 rcases aU h with⟨c1,h⟩|⟨c1,h⟩
 ·obtain rfl:=lf h
  have z:=sg 3 c1<|en (aI (rP (.bool (decide (c<=57))))<|trivial)
  exact bS S8 call180 func180 (c:=Tv) rfl (aI trivial trivial) z<|by kernel_rfl
 ·obtain rfl:=lf h
  have z:=sg 3 c1<|en (aI (rP (.bool false))<|trivial)
  exact bS S8 call180 func180 (c:=Tv) rfl (aI trivial trivial) z<|by kernel_rfl
noncomputable def LH:Code:=f158.body.getD .skip
def DN:List Nat:=[]
section
variable(s:ag)
def Eg:av:=aM 41 [(0,.str s)] [] []
def kE(o:Bool):av:=aM 41 [(0,.str s),(16,.bool o)] [] []
def yE:Option Bool:=
 (rz s).bind fun r1=>
 if(!r1)=true then
  some true
 else
  (xU s 0).bind fun c3=>
  (nX c3).bind fun r4=>
  if(!r4)=true then
   some true
  else
   (yD s).bind fun r7=>
   some r7
theorem CP{x:Bool}(h:yE s=some x):aF Pg GE 0 (cA LH 12) (EX .normal (kE s x)) (Eg s):=by
 obtain⟨r1,br1,h⟩:=aw h
 rcases aU h with⟨c2,h⟩|⟨c2,h⟩
 ·obtain rfl:=lf h
  exact cm DN (bg (gm br1)<|sg 4 c2<|eF .normal (kE s true))<|by kernel_rfl
 ·obtain⟨c3,bc3,h⟩:=aw h
  obtain⟨r4,br4,h⟩:=aw h
  have p6:=fun{sc F} (r:PS sc F)=>bg (gm br1)<|sg 4 c2<|sv (rN (k:=.i64) underlying9 bc3)<|bg (lV br4)<|r
  rcases aU h with⟨c5,h⟩|⟨c5,h⟩
  ·obtain rfl:=lf h
   exact cm DN (p6<|sg 10 c5<|eF .normal (kE s true))<|by kernel_rfl
  ·obtain⟨r7,br7,h⟩:=aw h
   obtain rfl:=lf h
   exact cm DN (p6<|sg 10 c5<|bg (CM br7)<|eF .normal (kE s r7))<|by kernel_rfl
end
section
variable(s:ag)(i:Int)
def Eh:av:=aM 41 [(0,.str s),(3,.int .i64 i)] [] []
def kF(o:Bool):av:=aM 41 [(0,.str s),(3,.int .i64 i),(40,.bool o)] [] []
def yF:Option Bool:=
 (xU s i).bind fun c12=>
 (nX c12).bind fun r13=>
 if(!r13)=true then
  (xU s i).bind fun c16=>
  (rx c16).bind fun r17=>
  if(!r17)=true then
   (xU s i).bind fun c20=>
   some (c20 !=95)
  else
   some false
 else
  some false
theorem CQ{x:Bool}(h:yF s i=some x):aF Pg GE 0 (cA LH 1914) (EX .normal (kF s i x)) (Eh s i):=by
 obtain⟨c12,bc12,h⟩:=aw h
 obtain⟨r13,br13,h⟩:=aw h
 have p15:=fun{sc F} (r:PS sc F)=>sv (rN (k:=.i64) underlying9 bc12)<|bg (lV br13)<|r
 rcases aU h with⟨c14,h⟩|⟨c14,h⟩
 ·obtain⟨c16,bc16,h⟩:=aw h
  obtain⟨r17,br17,h⟩:=aw h
  have p19:=fun{sc F} (r:PS sc F)=>p15<|sg 6 c14<|sv (rN (k:=.i64) underlying9 bc16)<|bg (qn br17)<|r
  rcases aU h with⟨c18,h⟩|⟨c18,h⟩
  ·obtain⟨c20,bc20,h⟩:=aw h
   obtain rfl:=lf h
   exact cm DN (p19<|sg 13 c18<|sv (rN (k:=.i64) underlying9 bc20)<|eF .normal (kF s i (c20 !=95)))<|by kernel_rfl
  ·obtain rfl:=lf h
   exact cm DN (p19<|sg 13 c18<|eF .normal (kF s i false))<|by kernel_rfl
 ·obtain rfl:=lf h
  exact cm DN (p15<|sg 6 c14<|eF .normal (kF s i false))<|by kernel_rfl
end
section
variable(s:ag)(i:Int)
def ib:av:=aM 41 [(0,.str s),(3,.int .i64 i)] [] []
def ic(o:Unit⊕(Unit)):Exit:=match o with
 |(.inl _)=>.ret
 |(.inr _)=>.exit 0
def fp(o:Unit⊕(Unit)):av:=match o with
 |(.inl o)=>aM 41 [(2,.bool false)] [] []
 |(.inr o)=>aM 41 [] [] []
def u3:Option (Int⊕(Unit⊕(Unit))):=
 if(decide (i<(s.length:Int)))=true then
  (yF s i).bind fun o21=>
  if o21=true then
   some (.inr (.inl ()))
  else
   some (.inl (bC (i+1)))
 else
  some (.inr (.inr ()))
def yG:Option (Unit⊕(Unit)):=loop (fun(zz:Int)=>u3 s zz) i
theorem Bb{y:Int⊕(Unit⊕(Unit))}(h:u3 s i=some y):aF Pg GE 0 (cA LH 119) (LQ (fun(zz:Int)=>ib s zz) ic fp y) (ib s i):=by
 rcases aU h with⟨c11,h⟩|⟨c11,h⟩
 ·obtain⟨o21,bo21,h⟩:=aw h
  have p23:=fun{sc F} (r:PS sc F)=>cG (tG underlying9 s)<|sg 0 c11<|kq 1<|cC (CQ s i bo21)<|r
  rcases aU h with⟨c22,h⟩|⟨c22,h⟩
  ·obtain rfl:=lf h
   have z:=p23<|sg 0 c22<|eF (ic (.inl ())) (fp (.inl ()))
   exact fX DN (by intro hx;cases hx) z<|by kernel_rfl
  ·obtain rfl:=lf h
   exact sT DN (p23<|sg 0 c22<|eF .normal (ib s (bC (i+1))))<|by kernel_rfl
 ·obtain rfl:=lf h
  have z:=cG (tG underlying9 s)<|sg 0 c11<|eF (ic (.inr ())) (fp (.inr ()))
  exact fX DN (by intro hx;cases hx) z<|by kernel_rfl
theorem tt{x:Unit⊕(Unit)}(h:yG s i=some x):aF Pg GE 0 (.loop (cA LH 119)) (EX (ic x) (fp x)) (ib s i):=
 aF.loop (S:=fun(zz:Int)=>ib s zz) (ex:=ic) (s:=i) h fun zz y hy=>Bb s zz hy
end
def zJ(s:ag):Option Bool:=
 (yE s).bind fun o8=>
 if o8=true then
  some false
 else
  (yG s 1).bind fun o24=>match o24 with
  |(.inl o24)=>
   some false
  |(.inr o24)=>
   some true
theorem sH{s:ag}{r:Bool}(h:zJ s=some r):CC Pg GE 158 [.str s] (.bool r) []:=by
 obtain⟨o8,bo8,h⟩:=aw h
 have p10:=fun{sc F} (r:PS sc F)=>kq 2<|cC (CP s bo8)<|r
 rcases aU h with⟨c9,h⟩|⟨c9,h⟩
 ·obtain rfl:=lf h
  have z:=p10<|sg 0 c9<|en (aI (rP (.bool false))<|trivial)
  exact bS DN call158 func158 (c:=LH) rfl (aI trivial trivial) z<|by kernel_rfl
 ·obtain⟨o24,bo24,h⟩:=aw h
  rcases o24 with o24|o24
  ·obtain rfl:=lf h
   have z:=p10<|sg 0 c9<|cC (e:=.ret) (s1:=fp (.inl o24)) (tt s 1 bo24)<|en (aI (rP (.bool false))<|trivial)
   exact bS DN call158 func158 (c:=LH) rfl (aI trivial trivial) z<|by kernel_rfl
  ·obtain rfl:=lf h
   have z:=p10<|sg 0 c9<|cC (e:=.exit 0) (s1:=fp (.inr o24)) (tt s 1 bo24)<|en (aI (rP (.bool true))<|trivial)
   exact bS DN call158 func158 (c:=LH) rfl (aI trivial trivial) z<|by kernel_rfl
noncomputable def Tw:Code:=f181.body.getD .skip
def S9:List Nat:=[]
def sG(c:Int):Option Bool:=
 if(decide (65<=c))=true then
  some (decide (c<=90))
 else
  some false
theorem tr{c:Int}{r:Bool}(h:sG c=some r):CC Pg GE 181 [.int .u8 c] (.bool r) []:=by
 rcases aU h with⟨c1,h⟩|⟨c1,h⟩
 ·obtain rfl:=lf h
  have z:=sg 3 c1<|en (aI (rP (.bool (decide (c<=90))))<|trivial)
  exact bS S9 call181 func181 (c:=Tw) rfl (aI trivial trivial) z<|by kernel_rfl
 ·obtain rfl:=lf h
  have z:=sg 3 c1<|en (aI (rP (.bool false))<|trivial)
  exact bS S9 call181 func181 (c:=Tw) rfl (aI trivial trivial) z<|by kernel_rfl
noncomputable def OS:Code:=f161.body.getD .skip
def J9:List Nat:=[]
section
variable(s:ag)(i:Int)
def tq:av:=aM 29 [(0,.str s),(3,.int .i64 i)] [] []
def ef(o:Bool):av:=aM 29 [(0,.str s),(3,.int .i64 i),(28,.bool o)] [] []
def mz:Option Bool:=
 (xU s i).bind fun c2=>
 (nX c2).bind fun r3=>
 if(!r3)=true then
  (xU s i).bind fun c6=>
  (sG c6).bind fun r7=>
  if(!r7)=true then
   (xU s i).bind fun c10=>
   (rx c10).bind fun r11=>
   some (!r11)
  else
   some false
 else
  some false
theorem sF{x:Bool}(h:mz s i=some x):aF Pg GE 0 (cA OS 890) (EX .normal (ef s i x)) (tq s i):=by
 obtain⟨c2,bc2,h⟩:=aw h
 obtain⟨r3,br3,h⟩:=aw h
 have p5:=fun{sc F} (r:PS sc F)=>sv (rN (k:=.i64) underlying9 bc2)<|bg (lV br3)<|r
 rcases aU h with⟨c4,h⟩|⟨c4,h⟩
 ·obtain⟨c6,bc6,h⟩:=aw h
  obtain⟨r7,br7,h⟩:=aw h
  have p9:=fun{sc F} (r:PS sc F)=>p5<|sg 6 c4<|sv (rN (k:=.i64) underlying9 bc6)<|bg (tr br7)<|r
  rcases aU h with⟨c8,h⟩|⟨c8,h⟩
  ·obtain⟨c10,bc10,h⟩:=aw h
   obtain⟨r11,br11,h⟩:=aw h
   obtain rfl:=lf h
   exact cm J9 (p9<|sg 13 c8<|sv (rN (k:=.i64) underlying9 bc10)<|bg (qn br11)<|eF .normal (ef s i (!r11)))<|by kernel_rfl
  ·obtain rfl:=lf h
   exact cm J9 (p9<|sg 13 c8<|eF .normal (ef s i false))<|by kernel_rfl
 ·obtain rfl:=lf h
  exact cm J9 (p5<|sg 6 c4<|eF .normal (ef s i false))<|by kernel_rfl
end
section
variable(s:ag)(i:Int)
def dq:av:=aM 29 [(0,.str s),(3,.int .i64 i)] [] []
def dt(o:Unit⊕(Unit)):Exit:=match o with
 |(.inl _)=>.ret
 |(.inr _)=>.exit 0
def cN(o:Unit⊕(Unit)):av:=match o with
 |(.inl o)=>aM 29 [(2,.bool false)] [] []
 |(.inr o)=>aM 29 [] [] []
def lh:Option (Int⊕(Unit⊕(Unit))):=
 if(decide (i<(s.length:Int)))=true then
  (mz s i).bind fun o12=>
  if o12=true then
   some (.inr (.inl ()))
  else
   some (.inl (bC (i+1)))
 else
  some (.inr (.inr ()))
def mA:Option (Unit⊕(Unit)):=loop (fun(zz:Int)=>lh s zz) i
theorem qP{y:Int⊕(Unit⊕(Unit))}(h:lh s i=some y):aF Pg GE 0 (cA OS 55) (LQ (fun(zz:Int)=>dq s zz) dt cN y) (dq s i):=by
 rcases aU h with⟨c1,h⟩|⟨c1,h⟩
 ·obtain⟨o12,bo12,h⟩:=aw h
  have p14:=fun{sc F} (r:PS sc F)=>cG (tG underlying9 s)<|sg 0 c1<|kq 1<|cC (sF s i bo12)<|r
  rcases aU h with⟨c13,h⟩|⟨c13,h⟩
  ·obtain rfl:=lf h
   have z:=p14<|sg 0 c13<|eF (dt (.inl ())) (cN (.inl ()))
   exact fX J9 (by intro hx;cases hx) z<|by kernel_rfl
  ·obtain rfl:=lf h
   exact sT J9 (p14<|sg 0 c13<|eF .normal (dq s (bC (i+1))))<|by kernel_rfl
 ·obtain rfl:=lf h
  have z:=cG (tG underlying9 s)<|sg 0 c1<|eF (dt (.inr ())) (cN (.inr ()))
  exact fX J9 (by intro hx;cases hx) z<|by kernel_rfl
theorem kg{x:Unit⊕(Unit)}(h:mA s i=some x):aF Pg GE 0 (.loop (cA OS 55)) (EX (dt x) (cN x)) (dq s i):=
 aF.loop (S:=fun(zz:Int)=>dq s zz) (ex:=dt) (s:=i) h fun zz y hy=>qP s zz hy
end
def kL(s:ag):Option Bool:=
 (mA s 0).bind fun o15=>match o15 with
 |(.inl o15)=>
  some false
 |(.inr o15)=>
  some true
theorem mB{s:ag}{r:Bool}(h:kL s=some r):CC Pg GE 161 [.str s] (.bool r) []:=by
 obtain⟨o15,bo15,h⟩:=aw h
 rcases o15 with o15|o15
 ·obtain rfl:=lf h
  have z:=cC (e:=.ret) (s1:=cN (.inl o15)) (kg s 0 bo15)<|en (aI (rP (.bool false))<|trivial)
  exact bS J9 call161 func161 (c:=OS) rfl (aI trivial trivial) z<|by kernel_rfl
 ·obtain rfl:=lf h
  have z:=cC (e:=.exit 0) (s1:=cN (.inr o15)) (kg s 0 bo15)<|en (aI (rP (.bool true))<|trivial)
  exact bS J9 call161 func161 (c:=OS) rfl (aI trivial trivial) z<|by kernel_rfl
noncomputable def Nr:Code:=f159.body.getD .skip
def J8:List Nat:=[]
section
variable(s:ag)
def CR:av:=aM 31 [(0,.str s)] [] []
def jH(o:Bool):av:=aM 31 [(0,.str s),(16,.bool o)] [] []
def wH:Option Bool:=
 (rz s).bind fun r1=>
 if(!r1)=true then
  some true
 else
  (xU s 0).bind fun c3=>
  (sG c3).bind fun r4=>
  if(!r4)=true then
   some true
  else
   (kL s).bind fun r7=>
   some (!r7)
theorem Bd{x:Bool}(h:wH s=some x):aF Pg GE 0 (cA Nr 12) (EX .normal (jH s x)) (CR s):=by
 obtain⟨r1,br1,h⟩:=aw h
 rcases aU h with⟨c2,h⟩|⟨c2,h⟩
 ·obtain rfl:=lf h
  exact cm J8 (bg (gm br1)<|sg 4 c2<|eF .normal (jH s true))<|by kernel_rfl
 ·obtain⟨c3,bc3,h⟩:=aw h
  obtain⟨r4,br4,h⟩:=aw h
  have p6:=fun{sc F} (r:PS sc F)=>bg (gm br1)<|sg 4 c2<|sv (rN (k:=.i64) underlying9 bc3)<|bg (tr br4)<|r
  rcases aU h with⟨c5,h⟩|⟨c5,h⟩
  ·obtain rfl:=lf h
   exact cm J8 (p6<|sg 10 c5<|eF .normal (jH s true))<|by kernel_rfl
  ·obtain⟨r7,br7,h⟩:=aw h
   obtain rfl:=lf h
   exact cm J8 (p6<|sg 10 c5<|bg (mB br7)<|eF .normal (jH s (!r7)))<|by kernel_rfl
end
def DA(s:ag):Option Bool:=
 (wH s).bind fun o8=>
 if o8=true then
  some false
 else
  if (!(s == ([73,110,116]:ag))) = true then
   if(!(s==([66,111,111,108]:ag)))=true then
    if(!(s==([67,101,108,108]:ag)))=true then
     some (!(s==([70,117,110]:ag)))
    else
     some false
   else
    some false
  else
   some false
theorem Gg{s:ag}{r:Bool}(h:DA s=some r):CC Pg GE 159 [.str s] (.bool r) []:=by
 obtain⟨o8,bo8,h⟩:=aw h
 have p10:=fun{sc F} (r:PS sc F)=>kq 2<|cC (Bd s bo8)<|r
 rcases aU h with⟨c9,h⟩|⟨c9,h⟩
 ·obtain rfl:=lf h
  have z:=p10<|sg 0 c9<|en (aI (rP (.bool false))<|trivial)
  exact bS J8 call159 func159 (c:=Nr) rfl (aI trivial trivial) z<|by kernel_rfl
 ·have p12:=fun{sc F} (r:PS sc F)=>p10<|sg 0 c9<|r
  rcases aU h with⟨c11,h⟩|⟨c11,h⟩
  ·have p14:=fun{sc F} (r:PS sc F)=>p12<|sg 3 c11<|r
   rcases aU h with⟨c13,h⟩|⟨c13,h⟩
   ·have p16:=fun{sc F} (r:PS sc F)=>p14<|sg 7 c13<|r
    rcases aU h with⟨c15,h⟩|⟨c15,h⟩
    ·obtain rfl:=lf h
     have z:=p16<|sg 11 c15<|en (aI (rP (.bool (!(s==([70,117,110]:ag)))))<|trivial)
     exact bS J8 call159 func159 (c:=Nr) rfl (aI trivial trivial) z<|by kernel_rfl
    ·obtain rfl:=lf h
     have z:=p16<|sg 11 c15<|en (aI (rP (.bool false))<|trivial)
     exact bS J8 call159 func159 (c:=Nr) rfl (aI trivial trivial) z<|by kernel_rfl
   ·obtain rfl:=lf h
    have z:=p14<|sg 7 c13<|en (aI (rP (.bool false))<|trivial)
    exact bS J8 call159 func159 (c:=Nr) rfl (aI trivial trivial) z<|by kernel_rfl
  ·obtain rfl:=lf h
   have z:=p12<|sg 3 c11<|en (aI (rP (.bool false))<|trivial)
   exact bS J8 call159 func159 (c:=Nr) rfl (aI trivial trivial) z<|by kernel_rfl
noncomputable def OT:Code:=f162.body.getD .skip
def IQ:List Nat:=[]
section
variable(s:ag)(i:Int)
def Ei:av:=aM 32 [(0,.str s),(3,.int .i64 i)] [] []
def ie(o:Bool):av:=aM 32 [(0,.str s),(3,.int .i64 i),(31,.bool o)] [] []
def yH:Option Bool:=
 (xU s i).bind fun c2=>
 (nX c2).bind fun r3=>
 if (!r3) = true then
  if(i==0)=true then
   some true
  else
   (xU s i).bind fun c8=>
   (rx c8).bind fun r9=>
   if(!r9)=true then
    (xU s i).bind fun c12=>
    some (c12 !=95)
   else
    some false
 else
  some false
theorem CS{x:Bool}(h:yH s i=some x):aF Pg GE 0 (cA OT 890) (EX .normal (ie s i x)) (Ei s i):=by
 obtain⟨c2,bc2,h⟩:=aw h
 obtain⟨r3,br3,h⟩:=aw h
 have p5:=fun{sc F} (r:PS sc F)=>sv (rN (k:=.i64) underlying9 bc2)<|bg (lV br3)<|r
 rcases aU h with⟨c4,h⟩|⟨c4,h⟩
 ·have p7:=fun{sc F} (r:PS sc F)=>p5<|sg 6 c4<|r
  rcases aU h with⟨c6,h⟩|⟨c6,h⟩
  ·obtain rfl:=lf h
   exact cm IQ (p7<|sg 9 c6<|eF .normal (ie s i true))<|by kernel_rfl
  ·obtain⟨c8,bc8,h⟩:=aw h
   obtain⟨r9,br9,h⟩:=aw h
   have p11:=fun{sc F} (r:PS sc F)=>p7<|sg 9 c6<|sv (rN (k:=.i64) underlying9 bc8)<|bg (qn br9)<|r
   rcases aU h with⟨c10,h⟩|⟨c10,h⟩
   ·obtain⟨c12,bc12,h⟩:=aw h
    obtain rfl:=lf h
    exact cm IQ (p11<|sg 15 c10<|sv (rN (k:=.i64) underlying9 bc12)<|eF .normal (ie s i (c12 !=95)))<|by kernel_rfl
   ·obtain rfl:=lf h
    exact cm IQ (p11<|sg 15 c10<|eF .normal (ie s i false))<|by kernel_rfl
 ·obtain rfl:=lf h
  exact cm IQ (p5<|sg 6 c4<|eF .normal (ie s i false))<|by kernel_rfl
end
section
variable(s:ag)(i:Int)
def ig:av:=aM 32 [(0,.str s),(3,.int .i64 i)] [] []
def ii(o:Unit⊕(Unit)):Exit:=match o with
 |(.inl _)=>.ret
 |(.inr _)=>.exit 0
def fq(o:Unit⊕(Unit)):av:=match o with
 |(.inl o)=>aM 32 [(2,.bool false)] [] []
 |(.inr o)=>aM 32 [] [] []
def u4:Option (Int⊕(Unit⊕(Unit))):=
 if(decide (i<(s.length:Int)))=true then
  (yH s i).bind fun o13=>
  if o13=true then
   some (.inr (.inl ()))
  else
   some (.inl (bC (i+1)))
 else
  some (.inr (.inr ()))
def yI:Option (Unit⊕(Unit)):=loop (fun(zz:Int)=>u4 s zz) i
theorem Be{y:Int⊕(Unit⊕(Unit))}(h:u4 s i=some y):aF Pg GE 0 (cA OT 55) (LQ (fun(zz:Int)=>ig s zz) ii fq y) (ig s i):=by
 rcases aU h with⟨c1,h⟩|⟨c1,h⟩
 ·obtain⟨o13,bo13,h⟩:=aw h
  have p15:=fun{sc F} (r:PS sc F)=>cG (tG underlying9 s)<|sg 0 c1<|kq 1<|cC (CS s i bo13)<|r
  rcases aU h with⟨c14,h⟩|⟨c14,h⟩
  ·obtain rfl:=lf h
   have z:=p15<|sg 0 c14<|eF (ii (.inl ())) (fq (.inl ()))
   exact fX IQ (by intro hx;cases hx) z<|by kernel_rfl
  ·obtain rfl:=lf h
   exact sT IQ (p15<|sg 0 c14<|eF .normal (ig s (bC (i+1))))<|by kernel_rfl
 ·obtain rfl:=lf h
  have z:=cG (tG underlying9 s)<|sg 0 c1<|eF (ii (.inr ())) (fq (.inr ()))
  exact fX IQ (by intro hx;cases hx) z<|by kernel_rfl
theorem tu{x:Unit⊕(Unit)}(h:yI s i=some x):aF Pg GE 0 (.loop (cA OT 55)) (EX (ii x) (fq x)) (ig s i):=
 aF.loop (S:=fun(zz:Int)=>ig s zz) (ex:=ii) (s:=i) h fun zz y hy=>Be s zz hy
end
def Gh(s:ag):Option Bool:=
 (yI s 0).bind fun o16=>match o16 with
 |(.inl o16)=>
  some false
 |(.inr o16)=>
  some true
theorem HJ{s:ag}{r:Bool}(h:Gh s=some r):CC Pg GE 162 [.str s] (.bool r) []:=by
 obtain⟨o16,bo16,h⟩:=aw h
 rcases o16 with o16|o16
 ·obtain rfl:=lf h
  have z:=cC (e:=.ret) (s1:=fq (.inl o16)) (tu s 0 bo16)<|en (aI (rP (.bool false))<|trivial)
  exact bS IQ call162 func162 (c:=OT) rfl (aI trivial trivial) z<|by kernel_rfl
 ·obtain rfl:=lf h
  have z:=cC (e:=.exit 0) (s1:=fq (.inr o16)) (tu s 0 bo16)<|en (aI (rP (.bool true))<|trivial)
  exact bS IQ call162 func162 (c:=OT) rfl (aI trivial trivial) z<|by kernel_rfl
noncomputable def Kx:Code:=f134.body.getD .skip
def Ai:List Nat:=[]
section
variable(first:ag)(rest:ag)(more:Bool)
def Ee:av:=aM 52 [(3,.str first),(4,.str rest),(5,.bool more)] [] []
def hX(o:Bool):av:=aM 52 [(4,.str rest),(5,.bool more),(31,.bool o)] [] []
def yy:Option Bool:=
 (zJ first).bind fun r3=>
 if (!r3) = true then
  (DA first).bind fun r5=>
  if(!r5)=true then
   if(!(first==([118]:ag)))=true then
    some true
   else
    some (!more)
  else
   some false
 else
  some false
theorem CK{x:Bool}(h:yy first more=some x):aF Pg GE 0 (cA Kx 60) (EX .normal (hX rest more x)) (Ee first rest more):=by
 obtain⟨r3,br3,h⟩:=aw h
 rcases aU h with⟨c4,h⟩|⟨c4,h⟩
 ·obtain⟨r5,br5,h⟩:=aw h
  have p7:=fun{sc F} (r:PS sc F)=>bg (sH br3)<|sg 4 c4<|bg (Gg br5)<|r
  rcases aU h with⟨c6,h⟩|⟨c6,h⟩
  ·have p9:=fun{sc F} (r:PS sc F)=>p7<|sg 9 c6<|r
   rcases aU h with⟨c8,h⟩|⟨c8,h⟩
   ·obtain rfl:=lf h
    exact cm Ai (p9<|sg 12 c8<|eF .normal (hX rest more true))<|by kernel_rfl
   ·obtain rfl:=lf h
    exact cm Ai (p9<|sg 12 c8<|eF .normal (hX rest more (!more)))<|by kernel_rfl
  ·obtain rfl:=lf h
   exact cm Ai (p7<|sg 9 c6<|eF .normal (hX rest more false))<|by kernel_rfl
 ·obtain rfl:=lf h
  exact cm Ai (bg (sH br3)<|sg 4 c4<|eF .normal (hX rest more false))<|by kernel_rfl
end
section
variable(rest:ag)(more:Bool)(part:ag)
def Ef:av:=aM 52 [(4,.str rest),(5,.bool more),(6,.str part)] [] []
def kD(o:Bool):av:=aM 52 [(4,.str rest),(5,.bool more),(51,.bool o)] [] []
def yz:Option Bool:=
 (rz part).bind fun r15=>
 if(!r15)=true then
  some true
 else
  (kL part).bind fun r17=>
  if(!r17)=true then
   (Gh part).bind fun r20=>
   some (!r20)
  else
   some false
theorem CL{x:Bool}(h:yz part=some x):aF Pg GE 0 (cA Kx 8062) (EX .normal (kD rest more x)) (Ef rest more part):=by
 obtain⟨r15,br15,h⟩:=aw h
 rcases aU h with⟨c16,h⟩|⟨c16,h⟩
 ·obtain rfl:=lf h
  exact cm Ai (bg (gm br15)<|sg 4 c16<|eF .normal (kD rest more true))<|by kernel_rfl
 ·obtain⟨r17,br17,h⟩:=aw h
  have p19:=fun{sc F} (r:PS sc F)=>bg (gm br15)<|sg 4 c16<|bg (mB br17)<|r
  rcases aU h with⟨c18,h⟩|⟨c18,h⟩
  ·obtain⟨r20,br20,h⟩:=aw h
   obtain rfl:=lf h
   exact cm Ai (p19<|sg 8 c18<|bg (HJ br20)<|eF .normal (kD rest more (!r20)))<|by kernel_rfl
  ·obtain rfl:=lf h
   exact cm Ai (p19<|sg 8 c18<|eF .normal (kD rest more false))<|by kernel_rfl
end
section
variable(rest:ag)(more:Bool)
def hZ:av:=aM 52 [(4,.str rest),(5,.bool more)] [] []
def h9(o:Unit⊕(Unit)):Exit:=match o with
 |(.inl _)=>.ret
 |(.inr _)=>.exit 0
def fo(o:Unit⊕(Unit)):av:=match o with
 |(.inl o)=>aM 52 [(2,.int .i64 3)] [] []
 |(.inr o)=>aM 52 [] [] []
def uY:Option ((ag×Bool)⊕(Unit⊕(Unit))):=
 if more=true then
  (CN rest).bind fun r14=>
  (yz r14.1).bind fun o21=>
  if o21=true then
   some (.inr (.inl ()))
  else
   some (.inl (r14.2.1,r14.2.2))
 else
  some (.inr (.inr ()))
def yA:Option (Unit⊕(Unit)):=loop (fun(zz:ag×Bool)=>uY zz.1 zz.2) (rest,more)
theorem A0{y:(ag×Bool)⊕(Unit⊕(Unit))}(h:uY rest more=some y):aF Pg GE 0 (cA Kx 251) (LQ (fun(zz:ag×Bool)=>hZ zz.1 zz.2) h9 fo y) (hZ rest more):=by
 rcases aU h with⟨c13,h⟩|⟨c13,h⟩
 ·obtain⟨r14,br14,h⟩:=aw h
  obtain⟨o21,bo21,h⟩:=aw h
  have p23:=fun{sc F} (r:PS sc F)=>sg 0 c13<|bg (A7 br14)<|kq 0<|cC (CL r14.2.1 r14.2.2 r14.1 bo21)<|r
  rcases aU h with⟨c22,h⟩|⟨c22,h⟩
  ·obtain rfl:=lf h
   have z:=p23<|sg 0 c22<|eF (h9 (.inl ())) (fo (.inl ()))
   exact fX Ai (by intro hx;cases hx) z<|by kernel_rfl
  ·obtain rfl:=lf h
   exact sT Ai (p23<|sg 0 c22<|eF .normal (hZ r14.2.1 r14.2.2))<|by kernel_rfl
 ·obtain rfl:=lf h
  have z:=sg 0 c13<|eF (h9 (.inr ())) (fo (.inr ()))
  exact fX Ai (by intro hx;cases hx) z<|by kernel_rfl
theorem tn{x:Unit⊕(Unit)}(h:yA rest more=some x):aF Pg GE 0 (.loop (cA Kx 251)) (EX (h9 x) (fo x)) (hZ rest more):=
 aF.loop (S:=fun(zz:ag×Bool)=>hZ zz.1 zz.2) (ex:=h9) (s:=(rest,more)) h fun zz y hy=>A0 zz.1 zz.2 hy
end
def zG(s:ag):Option Int:=
 if(decide ((s.length:Int)>120))=true then
  some 3
 else
  (CN s).bind fun r2=>
  (yy r2.1 r2.2.2).bind fun o10=>
  if o10=true then
   some 3
  else
   (yA r2.2.1 r2.2.2).bind fun o24=>match o24 with
   |(.inl o24)=>
    some 3
   |(.inr o24)=>
    some 0
theorem yB{s:ag}{r:Int}(h:zG s=some r):CC Pg GE 134 [.str s] (.int .i64 r) []:=by
 rcases aU h with⟨c1,h⟩|⟨c1,h⟩
 ·obtain rfl:=lf h
  have z:=cG (tG underlying9 s)<|sg 0 c1<|en (aI (rP (.int .i64 3))<|trivial)
  exact bS Ai call134 func134 (c:=Kx) rfl (aI trivial trivial) z<|by kernel_rfl
 ·obtain⟨r2,br2,h⟩:=aw h
  obtain⟨o10,bo10,h⟩:=aw h
  have p12:=fun{sc F} (r:PS sc F)=>cG (tG underlying9 s)<|sg 0 c1<|bg (A7 br2)<|kq 1<|cC (CK r2.1 r2.2.1 r2.2.2 bo10)<|r
  rcases aU h with⟨c11,h⟩|⟨c11,h⟩
  ·obtain rfl:=lf h
   have z:=p12<|sg 0 c11<|en (aI (rP (.int .i64 3))<|trivial)
   exact bS Ai call134 func134 (c:=Kx) rfl (aI trivial trivial) z<|by kernel_rfl
  ·obtain⟨o24,bo24,h⟩:=aw h
   rcases o24 with o24|o24
   ·obtain rfl:=lf h
    have z:=p12<|sg 0 c11<|cC (e:=.ret) (s1:=fo (.inl o24)) (tn r2.2.1 r2.2.2 bo24)<|en (aI (rP (.int .i64 3))<|trivial)
    exact bS Ai call134 func134 (c:=Kx) rfl (aI trivial trivial) z<|by kernel_rfl
   ·obtain rfl:=lf h
    have z:=p12<|sg 0 c11<|cC (e:=.exit 0) (s1:=fo (.inr o24)) (tn r2.2.1 r2.2.2 bo24)<|en (aI (rP (.int .i64 0))<|trivial)
    exact bS Ai call134 func134 (c:=Kx) rfl (aI trivial trivial) z<|by kernel_rfl
noncomputable def Ec:Code:=f113.body.getD .skip
def kH:List Nat:=[68,100]
section
variable(t:ae)
def ED:av:=aM 102 [(1,.eptr (af t))] [.dead] []
def oM(o:Bool):av:=aM 102 [(1,.eptr (af t)),(3,.bool o)] [.dead] []
def yV:Option Bool:=
 if(t.Op==4)=true then
  some true
 else
  some (t.Op==5)
theorem Dg{x:Bool}(h:yV t=some x):aF Pg GE 0 (cA Ec 6) (EX .normal (oM t x)) (ED t):=by
 have p2:=fun{sc F} (r:PS sc F)=>sv (aA t)<|sv (aC t)<|r
 rcases aU h with⟨c1,h⟩|⟨c1,h⟩
 ·obtain rfl:=lf h
  exact cm kH (p2<|sg 4 c1<|eF .normal (oM t true))<|by kernel_rfl
 ·obtain rfl:=lf h
  exact cm kH (p2<|sg 4 c1<|sv (aA t)<|sv (aC t)<|eF .normal (oM t (t.Op==5)))<|by kernel_rfl
end
section
variable(t:ae)(named:Bool)
def EE:av:=aM 102 [(1,.eptr (af t)),(3,.bool named)] [.dead] []
def oN(o:Bool):av:=aM 102 [(1,.eptr (af t)),(3,.bool named),(4,.bool o)] [.dead] []
def yW:Option Bool:=
 if(t.Op==4)=true then
  some true
 else
  some (t.Op==6)
theorem Dh{x:Bool}(h:yW t=some x):aF Pg GE 0 (cA Ec 14) (EX .normal (oN t named x)) (EE t named):=by
 have p5:=fun{sc F} (r:PS sc F)=>sv (aA t)<|sv (aC t)<|r
 rcases aU h with⟨c4,h⟩|⟨c4,h⟩
 ·obtain rfl:=lf h
  exact cm kH (p5<|sg 4 c4<|eF .normal (oN t named true))<|by kernel_rfl
 ·obtain rfl:=lf h
  exact cm kH (p5<|sg 4 c4<|sv (aA t)<|sv (aC t)<|eF .normal (oN t named (t.Op==6)))<|by kernel_rfl
end
section
variable(t:ae)(named:Bool)(compound:Bool)
def EF:av:=aM 102 [(1,.eptr (af t)),(3,.bool named),(4,.bool compound)] [.dead] []
def cd(o:Bool):av:=aM 102 [(1,.eptr (af t)),(3,.bool named),(63,.bool o)] [.dead] []
def yX:Option Bool:=
 if(decide (t.Op<1))=true then
  some true
 else
  if(decide (t.Op>6))=true then
   some true
  else
   if (!(t.Name == ([]:ag))) = true then
    if(!named)=true then
     some true
    else
     if (decide ((t.Args.length:Int) > 0)) = true then
      if(!compound)=true then
       some true
      else
       if(decide ((t.Names.length:Int)>0))=true then
        some (t.Op !=6)
       else
        some false
     else
      if(decide ((t.Names.length:Int)>0))=true then
       some (t.Op !=6)
      else
       some false
   else
    if (decide ((t.Args.length:Int) > 0)) = true then
     if(!compound)=true then
      some true
     else
      if(decide ((t.Names.length:Int)>0))=true then
       some (t.Op !=6)
      else
       some false
    else
     if(decide ((t.Names.length:Int)>0))=true then
      some (t.Op !=6)
     else
      some false
theorem Di{x:Bool}(h:yX t named compound=some x):aF Pg GE 0 (cA Ec 60) (EX .normal (cd t named x)) (EF t named compound):=by
 have p8:=fun{sc F} (r:PS sc F)=>sv (aA t)<|sv (aC t)<|r
 rcases aU h with⟨c7,h⟩|⟨c7,h⟩
 ·obtain rfl:=lf h
  exact cm kH (p8<|sg 4 c7<|eF .normal (cd t named true))<|by kernel_rfl
 ·have p10:=fun{sc F} (r:PS sc F)=>p8<|sg 4 c7<|sv (aA t)<|sv (aC t)<|r
  rcases aU h with⟨c9,h⟩|⟨c9,h⟩
  ·obtain rfl:=lf h
   exact cm kH (p10<|sg 9 c9<|eF .normal (cd t named true))<|by kernel_rfl
  ·have p12:=fun{sc F} (r:PS sc F)=>p10<|sg 9 c9<|sv (dc t)<|sv (dB t)<|r
   rcases aU h with⟨c11,h⟩|⟨c11,h⟩
   ·have p14:=fun{sc F} (r:PS sc F)=>p12<|sg 13 c11<|r
    rcases aU h with⟨c13,h⟩|⟨c13,h⟩
    ·obtain rfl:=lf h
     exact cm kH (p14<|sg 18 c13<|eF .normal (cd t named true))<|by kernel_rfl
    ·have p16:=fun{sc F} (r:PS sc F)=>p14<|sg 18 c13<|sv (aH t)<|sv (aJ t)<|cG (dP.ln t.Args)<|r
     rcases aU h with⟨c15,h⟩|⟨c15,h⟩
     ·have p18:=fun{sc F} (r:PS sc F)=>p16<|sg 23 c15<|r
      rcases aU h with⟨c17,h⟩|⟨c17,h⟩
      ·obtain rfl:=lf h
       exact cm kH (p18<|sg 28 c17<|eF .normal (cd t named true))<|by kernel_rfl
      ·have p20:=fun{sc F} (r:PS sc F)=>p18<|sg 28 c17<|sv (aB t)<|sv (aD t)<|cG (ba.ln t.Names)<|r
       rcases aU h with⟨c19,h⟩|⟨c19,h⟩
       ·obtain rfl:=lf h
        exact cm kH (p20<|sg 33 c19<|sv (aA t)<|sv (aC t)<|eF .normal (cd t named (t.Op !=6)))<|by kernel_rfl
       ·obtain rfl:=lf h
        exact cm kH (p20<|sg 33 c19<|eF .normal (cd t named false))<|by kernel_rfl
     ·have p22:=fun{sc F} (r:PS sc F)=>p16<|sg 23 c15<|sv (aB t)<|sv (aD t)<|cG (ba.ln t.Names)<|r
      rcases aU h with⟨c21,h⟩|⟨c21,h⟩
      ·obtain rfl:=lf h
       exact cm kH (p22<|sg 33 c21<|sv (aA t)<|sv (aC t)<|eF .normal (cd t named (t.Op !=6)))<|by kernel_rfl
      ·obtain rfl:=lf h
       exact cm kH (p22<|sg 33 c21<|eF .normal (cd t named false))<|by kernel_rfl
   ·have p24:=fun{sc F} (r:PS sc F)=>p12<|sg 13 c11<|sv (aH t)<|sv (aJ t)<|cG (dP.ln t.Args)<|r
    rcases aU h with⟨c23,h⟩|⟨c23,h⟩
    ·have p26:=fun{sc F} (r:PS sc F)=>p24<|sg 23 c23<|r
     rcases aU h with⟨c25,h⟩|⟨c25,h⟩
     ·obtain rfl:=lf h
      exact cm kH (p26<|sg 28 c25<|eF .normal (cd t named true))<|by kernel_rfl
     ·have p28:=fun{sc F} (r:PS sc F)=>p26<|sg 28 c25<|sv (aB t)<|sv (aD t)<|cG (ba.ln t.Names)<|r
      rcases aU h with⟨c27,h⟩|⟨c27,h⟩
      ·obtain rfl:=lf h
       exact cm kH (p28<|sg 33 c27<|sv (aA t)<|sv (aC t)<|eF .normal (cd t named (t.Op !=6)))<|by kernel_rfl
      ·obtain rfl:=lf h
       exact cm kH (p28<|sg 33 c27<|eF .normal (cd t named false))<|by kernel_rfl
    ·have p30:=fun{sc F} (r:PS sc F)=>p24<|sg 23 c23<|sv (aB t)<|sv (aD t)<|cG (ba.ln t.Names)<|r
     rcases aU h with⟨c29,h⟩|⟨c29,h⟩
     ·obtain rfl:=lf h
      exact cm kH (p30<|sg 33 c29<|sv (aA t)<|sv (aC t)<|eF .normal (cd t named (t.Op !=6)))<|by kernel_rfl
     ·obtain rfl:=lf h
      exact cm kH (p30<|sg 33 c29<|eF .normal (cd t named false))<|by kernel_rfl
end
section
variable(t:ae)
def EH:av:=aM 102 [(1,.eptr (af t))] [.dead] []
def oO(o:Bool):av:=aM 102 [(1,.eptr (af t)),(6,.bool o)] [.dead] []
def yZ:Option Bool:=
 (xU t.Name 0).bind fun c41=>
 if(decide (c41>=65))=true then
  (xU t.Name 0).bind fun c44=>
  some (decide (c44<=90))
 else
  some false
theorem Dj{x:Bool}(h:yZ t=some x):aF Pg GE 0 (cA Ec 2026) (EX .normal (oO t x)) (EH t):=by
 obtain⟨c41,bc41,h⟩:=aw h
 have p43:=fun{sc F} (r:PS sc F)=>sv (dc t)<|sv (dB t)<|sv (rN (k:=.i64) underlying9 bc41)<|r
 rcases aU h with⟨c42,h⟩|⟨c42,h⟩
 ·obtain⟨c44,bc44,h⟩:=aw h
  obtain rfl:=lf h
  exact cm kH (p43<|sg 5 c42<|sv (dc t)<|sv (dB t)<|sv (rN (k:=.i64) underlying9 bc44)<|eF .normal (oO t (decide (c44<=90))))<|by kernel_rfl
 ·obtain rfl:=lf h
  exact cm kH (p43<|sg 5 c42<|eF .normal (oO t false))<|by kernel_rfl
end
section
variable(t:ae)(named:Bool)
def EG:av:=aM 102 [(1,.eptr (af t)),(3,.bool named)] [.dead] []
def iy(o:Unit⊕(Unit)):Exit:=match o with
 |(.inl _)=>.ret
 |(.inr _)=>.normal
def dL(o:Unit⊕(Unit)):av:=match o with
 |(.inl o)=>aM 102 [(2,.int .i64 3)] [.dead] []
 |(.inr o)=>aM 102 [(1,.eptr (af t))] [.dead] []
def yY:Option (Unit⊕(Unit)):=
 if named=true then
  (zG t.Name).bind fun r38=>
  if(r38 !=0)=true then
   some (.inl ())
  else
   (yZ t).bind fun o45=>
   if(!(o45==(t.Op==4)))=true then
    some (.inl ())
   else
    some (.inr ())
 else
  some (.inr ())
theorem nm{x:Unit⊕(Unit)}(h:yY t named=some x):aF Pg GE 0 (cA Ec 126) (EX (iy x) (dL t x)) (EG t named):=by
 rcases aU h with⟨c37,h⟩|⟨c37,h⟩
 ·obtain⟨r38,br38,h⟩:=aw h
  have p40:=fun{sc F} (r:PS sc F)=>sg 0 c37<|sv (dc t)<|sv (dB t)<|bg (yB br38)<|r
  rcases aU h with⟨c39,h⟩|⟨c39,h⟩
  ·obtain rfl:=lf h
   exact cm kH (p40<|sg 0 c39<|eF (iy (.inl ())) (dL t (.inl ())))<|by kernel_rfl
  ·obtain⟨o45,bo45,h⟩:=aw h
   have p47:=fun{sc F} (r:PS sc F)=>p40<|sg 0 c39<|kq 0<|cC (Dj t bo45)<|sv (aA t)<|sv (aC t)<|r
   rcases aU h with⟨c46,h⟩|⟨c46,h⟩
   ·obtain rfl:=lf h
    exact cm kH (p47<|sg 0 c46<|eF (iy (.inl ())) (dL t (.inl ())))<|by kernel_rfl
   ·obtain rfl:=lf h
    exact cm kH (p47<|sg 0 c46<|eF (iy (.inr ())) (dL t (.inr ())))<|by kernel_rfl
 ·obtain rfl:=lf h
  exact cm kH (sg 0 c37<|eF (iy (.inr ())) (dL t (.inr ())))<|by kernel_rfl
end
section
variable(R46:pg)(t90:waC)(t91:Int)(t92:Int)
def iz:av:=aM 102 [(90,sl af t90),(91,.int .i64 t91),(92,.int .i64 t92)] [.dead] []
def iA(o:Int⊕(Unit)):Exit:=match o with
 |(.inl _)=>.ret
 |(.inr _)=>.exit 0
def fu(o:Int⊕(Unit)):av:=match o with
 |(.inl o)=>aM 102 [(2,.int .i64 o)] [.dead] []
 |(.inr o)=>aM 102 [] [.dead] []
def vw:Option (Int⊕(Int⊕(Unit))):=
 if(decide (t92<t91))=true then
  (dz t90 t92).bind fun x50=>
  (R46 x50).bind fun r51=>
  if(r51 !=0)=true then
   some (.inr (.inl r51))
  else
   some (.inl (bC (t92+1)))
 else
  some (.inr (.inr ()))
def y0:Option (Int⊕(Unit)):=loop (fun(zz:Int)=>vw R46 t90 t91 zz) t92
theorem Cd(hR46:tR R46){y:Int⊕(Int⊕(Unit))}(h:vw R46 t90 t91 t92=some y):aF Pg GE 0 (cA Ec 2039) (LQ (fun(zz:Int)=>iz t90 t91 zz) iA fu y) (iz t90 t91 t92):=by
 rcases aU h with⟨c49,h⟩|⟨c49,h⟩
 ·obtain⟨x50,bx50,h⟩:=aw h
  obtain⟨r51,br51,h⟩:=aw h
  have p53:=fun{sc F} (r:PS sc F)=>sg 0 c49<|sv (dP.ia (k:=.i64) bx50)<|sv (aW x50)<|sx iq<|sx (cn x50)<|sv (bh x50 [])<|bg (hR46 _ _ br51)<|r
  rcases aU h with⟨c52,h⟩|⟨c52,h⟩
  ·obtain rfl:=lf h
   have z:=p53<|sg 0 c52<|oz 0 (iA (.inl r51)) (fu (.inl r51)) rfl (cz (aI trivial trivial)) (aI trivial trivial)
   exact sI (A:=kH) mixed (by intro hx;cases hx) z<|by kernel_rfl
  ·obtain rfl:=lf h
   have z:=p53<|sg 0 c52<|oz 0 .normal (iz t90 t91 (bC (t92+1))) rfl (cz (aI (up (am ak t90)) (aI trivial (aI trivial trivial)))) (aI trivial trivial)
   exact cw (A:=kH) mixed z<|by kernel_rfl
 ·obtain rfl:=lf h
  have z:=sg 0 c49<|eF (iA (.inr ())) (fu (.inr ()))
  exact fX kH (by intro hx;cases hx) z<|by kernel_rfl
theorem tL(hR46:tR R46){x:Int⊕(Unit)}(h:y0 R46 t90 t91 t92=some x):aF Pg GE 0 (.loop (cA Ec 2039)) (EX (iA x) (fu x)) (iz t90 t91 t92):=
 aF.loop (S:=fun(zz:Int)=>iz t90 t91 zz) (ex:=iA) (s:=t92) h fun zz y hy=>Cd R46 t90 t91 zz hR46 hy
end
def Cb(R46:pg)(t:ae):Option Int:=
 (yV t).bind fun o3=>
 (yW t).bind fun o6=>
 (yX t o3 o6).bind fun o31=>
 if o31=true then
  some 1
 else
  (DL t).bind fun r34=>
  if(r34 !=0)=true then
   some r34
  else
   (yY t o3).bind fun o48=>match o48 with
   |(.inl o48)=>
    some 3
   | (.inr o48) =>
    (y0 R46 t.Args (t.Args.length:Int) 0).bind fun o54=>match o54 with
    |(.inl o54)=>
     some o54
    |(.inr o54)=>
     some 0
theorem Ha(R46:pg)(hR46:tR R46){t:ae}{r:Int}(h:Cb R46 t=some r):CC Pg GE 113 [.agg (af t)] (.int .i64 r) []:=by
 obtain⟨o3,bo3,h⟩:=aw h
 obtain⟨o6,bo6,h⟩:=aw h
 obtain⟨o31,bo31,h⟩:=aw h
 have p33:=fun{sc F} (r:PS sc F)=>se (bE t)<|kq 0<|cC (Dg t bo3)<|kq 0<|cC (Dh t o3 bo6)<|kq 1<|cC (Di t o3 o6 bo31)<|r
 rcases aU h with⟨c32,h⟩|⟨c32,h⟩
 ·obtain rfl:=lf h
  have z:=p33<|sg 0 c32<|en (aI (rP (.int .i64 1))<|trivial)
  exact bS kH call113 func113 (c:=Ec) rfl (aI (ak t) trivial) z<|by kernel_rfl
 ·obtain⟨r34,br34,h⟩:=aw h
  have p36:=fun{sc F} (r:PS sc F)=>p33<|sg 0 c32<|sv (aW t)<|bg (G7 br34)<|r
  rcases aU h with⟨c35,h⟩|⟨c35,h⟩
  ·obtain rfl:=lf h
   have z:=p36<|sg 0 c35<|en (aI (rP (.int .i64 r34))<|trivial)
   exact bS kH call113 func113 (c:=Ec) rfl (aI (ak t) trivial) z<|by kernel_rfl
  ·obtain⟨o48,bo48,h⟩:=aw h
   rcases o48 with o48|o48
   ·obtain rfl:=lf h
    have z:=p36<|sg 0 c35<|kq 0<|cC (e:=.ret) (s1:=dL t (.inl o48)) (nm t o3 bo48)<|en (aI (rP (.int .i64 3))<|trivial)
    exact bS kH call113 func113 (c:=Ec) rfl (aI (ak t) trivial) z<|by kernel_rfl
   ·obtain⟨o54,bo54,h⟩:=aw h
    rcases o54 with o54|o54
    ·obtain rfl:=lf h
     have z:=p36<|sg 0 c35<|kq 0<|cC (e:=.normal) (s1:=dL t (.inr o48)) (nm t o3 bo48)<|sv (aH t)<|sv (aJ t)<|cG (dP.ln t.Args)<|cC (e:=.ret) (s1:=fu (.inl o54)) (tL R46 t.Args (t.Args.length:Int) 0 hR46 bo54)<|en (aI (rP (.int .i64 o54))<|trivial)
     exact bS kH call113 func113 (c:=Ec) rfl (aI (ak t) trivial) z<|by kernel_rfl
    ·obtain rfl:=lf h
     have z:=p36<|sg 0 c35<|kq 0<|cC (e:=.normal) (s1:=dL t (.inr o48)) (nm t o3 bo48)<|sv (aH t)<|sv (aJ t)<|cG (dP.ln t.Args)<|cC (e:=.exit 0) (s1:=fu (.inr o54)) (tL R46 t.Args (t.Args.length:Int) 0 hR46 bo54)<|en (aI (rP (.int .i64 0))<|trivial)
     exact bS kH call113 func113 (c:=Ec) rfl (aI (ak t) trivial) z<|by kernel_rfl
def Cc:(ae->Option Int)->(ae)->Option Int:=fun(rec:ae->Option Int) (x:ae)=>Cb (fun t=>rec t) x
def G9(t:ae):Option Int:=nS Cc t
theorem HV{t:ae}{r:Int}(h:G9 t=some r):CC Pg GE 113 [.agg (af t)] (.int .i64 r) []:=
 cU (F:=Cc) (M:=fun(x:ae) (r:Int)=>CC Pg GE 113 [.agg (af x)] (.int .i64 r) []) (fun rec hrec x r h=>Ha _ (fun t r h=>hrec t r h) h) h
noncomputable def VM:Code:=f77.body.getD .skip
def VA:List Nat:=[]
def DK(t:ae):Option Int:=
 (DM t).bind fun r1=>
 if(decide (r1>40))=true then
  some 8
 else
  (G9 t).bind fun r4=>
  some r4
theorem G5{t:ae}{r:Int}(h:DK t=some r):CC Pg GE 77 [.agg (af t)] (.int .i64 r) []:=by
 obtain⟨r1,br1,h⟩:=aw h
 have p3:=fun{sc F} (r:PS sc F)=>se (bE t)<|sv (aW t)<|bg (G8 br1)<|r
 rcases aU h with⟨c2,h⟩|⟨c2,h⟩
 ·obtain rfl:=lf h
  have z:=p3<|sg 0 c2<|en (aI (rP (.int .i64 8))<|trivial)
  exact bS VA call77 func77 (c:=VM) rfl (aI (ak t) trivial) z<|by kernel_rfl
 ·obtain⟨r4,br4,h⟩:=aw h
  obtain rfl:=lf h
  have z:=p3<|sg 0 c2<|sv (aW t)<|bg (HV br4)<|en (aI (rP (.int .i64 r4))<|trivial)
  exact bS VA call77 func77 (c:=VM) rfl (aI (ak t) trivial) z<|by kernel_rfl
abbrev kv:=(ae->Option Int)
abbrev oh(R:kv):Prop:=∀(t:ae) (r:Int),R t=some r->CC Pg GE 78 [.agg (af t)] (.int .i64 r) []
noncomputable def WE:Code:=f56.body.getD .skip
def Wo:List Nat:=[]
def mj(p:aa):Option Bool:=
 (jI p (⟨0,([]:ag),0,([]:List aa)⟩:aa)).bind fun r1=>
 some r1
theorem oK{p:aa}{r:Bool}(h:mj p=some r):CC Pg GE 56 [.agg (ac p)] (.bool r) []:=by
 obtain⟨r1,br1,h⟩:=aw h
 obtain rfl:=lf h
 have z:=se (bz p)<|sv (az p)<|sb (qh) (qf)<|bg (px br1)<|en (aI (rP (.bool r1))<|trivial)
 exact bS Wo call56 func56 (c:=WE) rfl (aI (ah p) trivial) z<|by kernel_rfl
noncomputable def Ts:Code:=f163.body.getD .skip
def S6:List Nat:=[]
def Dz(ok:Bool):Option Int:=
 if ok=true then
  some 0
 else
  some 3
theorem Gf{ok:Bool}{r:Int}(h:Dz ok=some r):CC Pg GE 163 [.bool ok] (.int .i64 r) []:=by
 rcases aU h with⟨c1,h⟩|⟨c1,h⟩
 ·obtain rfl:=lf h
  have z:=sg 0 c1<|en (aI (rP (.int .i64 0))<|trivial)
  exact bS S6 call163 func163 (c:=Ts) rfl (aI trivial trivial) z<|by kernel_rfl
 ·obtain rfl:=lf h
  have z:=sg 0 c1<|en (aI (rP (.int .i64 3))<|trivial)
  exact bS S6 call163 func163 (c:=Ts) rfl (aI trivial trivial) z<|by kernel_rfl
noncomputable def UK:Code:=f135.body.getD .skip
def Uv:List Nat:=[]
def Dy(s:ag):Option Int:=
 (zJ s).bind fun r1=>
 (Dz r1).bind fun r2=>
 some r2
theorem Gd{s:ag}{r:Int}(h:Dy s=some r):CC Pg GE 135 [.str s] (.int .i64 r) []:=by
 obtain⟨r1,br1,h⟩:=aw h
 obtain⟨r2,br2,h⟩:=aw h
 obtain rfl:=lf h
 have z:=bg (sH br1)<|bg (Gf br2)<|en (aI (rP (.int .i64 r2))<|trivial)
 exact bS Uv call135 func135 (c:=UK) rfl (aI trivial trivial) z<|by kernel_rfl
noncomputable def QI:Code:=f136.body.getD .skip
def OE:List Nat:=[]
section
variable(t7:waA)(t8:Int)(t9:Int)(m0:(List (ag×Bool)))
def eE:av:=aM 19 [(3,.mapr 0),(7,sl cS t7),(8,.int .i64 t8),(9,.int .i64 t9)] [.map (vH PVal.bool m0)] []
def eG(o:((List (ag×Bool)))⊕((List (ag×Bool)))):Exit:=match o with
 |(.inl _)=>.ret
 |(.inr _)=>.exit 0
def dI(o:((List (ag×Bool)))⊕((List (ag×Bool)))):av:=match o with
 |(.inl o)=>aM 19 [(2,.bool false)] [.map (vH PVal.bool o)] []
 |(.inr o)=>aM 19 [] [.map (vH PVal.bool o)] []
def oS:Option ((Int×(List (ag×Bool)))⊕(((List (ag×Bool)))⊕((List (ag×Bool))))):=
 if(decide (t9<t8))=true then
  (dz t7 t9).bind fun x2=>
  if((uB m0 x2).getD false)=true then
   some (.inr (.inl m0))
  else
   some (.inl (bC (t9+1),xV m0 x2 true))
 else
  some (.inr (.inr m0))
def ru:Option (((List (ag×Bool)))⊕((List (ag×Bool)))):=loop (fun(zz:Int×(List (ag×Bool)))=>oS t7 t8 zz.1 zz.2) (t9,m0)
theorem vI{y:(Int×(List (ag×Bool)))⊕(((List (ag×Bool)))⊕((List (ag×Bool))))}(h:oS t7 t8 t9 m0=some y):aF Pg GE 0 (cA QI 119) (LQ (fun(zz:Int×(List (ag×Bool)))=>eE t7 t8 zz.1 zz.2) eG dI y) (eE t7 t8 t9 m0):=by
 rcases aU h with⟨c1,h⟩|⟨c1,h⟩
 ·obtain⟨x2,bx2,h⟩:=aw h
  have p4:=fun{sc F} (r:PS sc F)=>sg 0 c1<|sv (ba.ia (k:=.i64) bx2)<|sv (cY yR (.str x2) [])<|sv (L7 (f:=PVal.bool) underlying121 underlying9 Vt m0 x2)<|r
  rcases aU h with⟨c3,h⟩|⟨c3,h⟩
  ·obtain rfl:=lf h
   have z:=p4<|sg 0 c3<|eF (eG (.inl m0)) (dI (.inl m0))
   exact fX OE (by intro hx;cases hx) z<|by kernel_rfl
  ·obtain rfl:=lf h
   exact sT OE (p4<|sg 0 c3<|V6 (Ps (f:=PVal.bool) underlying121 underlying9 m0 x2 true)<|eF .normal (eE t7 t8 (bC (t9+1)) (xV m0 x2 true)))<|by kernel_rfl
 ·obtain rfl:=lf h
  have z:=sg 0 c1<|eF (eG (.inr m0)) (dI (.inr m0))
  exact fX OE (by intro hx;cases hx) z<|by kernel_rfl
theorem nW{x:((List (ag×Bool)))⊕((List (ag×Bool)))}(h:ru t7 t8 t9 m0=some x):aF Pg GE 0 (.loop (cA QI 119)) (EX (eG x) (dI x)) (eE t7 t8 t9 m0):=
 aF.loop (S:=fun(zz:Int×(List (ag×Bool)))=>eE t7 t8 zz.1 zz.2) (ex:=eG) (s:=(t9,m0)) h fun zz y hy=>vI t7 t8 zz.1 zz.2 hy
end
def wC(a:waA):Option Bool:=
 (ru a (a.length:Int) 0 ([]:List (ag×Bool))).bind fun o5=>match o5 with
 |(.inl o5)=>
  some false
 |(.inr o5)=>
  some true
theorem A1{a:waA}{r:Bool}(h:wC a=some r):CC Pg GE 136 [sl cS a] (.bool r) []:=by
 obtain⟨o5,bo5,h⟩:=aw h
 rcases o5 with o5|o5
 ·obtain rfl:=lf h
  have z:=cG (ba.ln a)<|cC (e:=.ret) (s1:=dI (.inl o5)) (nW a (a.length:Int) 0 ([]:List (ag×Bool)) bo5)<|en (aI (rP (.bool false))<|trivial)
  exact bS OE call136 func136 (c:=QI) rfl (aI (am d7 a) trivial) z<|by kernel_rfl
 ·obtain rfl:=lf h
  have z:=cG (ba.ln a)<|cC (e:=.exit 0) (s1:=dI (.inr o5)) (nW a (a.length:Int) 0 ([]:List (ag×Bool)) bo5)<|en (aI (rP (.bool true))<|trivial)
  exact bS OE call136 func136 (c:=QI) rfl (aI (am d7 a) trivial) z<|by kernel_rfl
abbrev pf:=(aa->Option Int)
abbrev tQ(R:pf):Prop:=∀(p:aa) (r:Int),R p=some r->CC Pg GE 164 [.agg (ac p)] (.int .i64 r) []
noncomputable def Sf:Code:=f164.body.getD .skip
def RT:List Nat:=[18]
section
variable(R65:pf)(t7:waB)(t8:Int)(n:Int)(t9:Int)
def il:av:=aM 19 [(3,.int .i64 n),(7,sl ac t7),(8,.int .i64 t8),(9,.int .i64 t9)] [.dead] []
def oC(o:Int):av:=aM 19 [(3,.int .i64 o)] [.dead] []
def u7:Option ((Int×Int)⊕(Int)):=
 if(decide (t9<t8))=true then
  (dz t7 t9).bind fun x2=>
  (R65 x2).bind fun r3=>
  some (.inl (bC (n+r3),bC (t9+1)))
 else
  some (.inr n)
def yL:Option Int:=loop (fun(zz:Int×Int)=>u7 R65 t7 t8 zz.1 zz.2) (n,t9)
theorem Bv(hR65:tQ R65){y:(Int×Int)⊕(Int)}(h:u7 R65 t7 t8 n t9=some y):aF Pg GE 0 (cA Sf 119) (LQ (fun(zz:Int×Int)=>il t7 t8 zz.1 zz.2) (fun _=>.exit 0) oC y) (il t7 t8 n t9):=by
 rcases aU h with⟨c1,h⟩|⟨c1,h⟩
 ·obtain⟨x2,bx2,h⟩:=aw h
  obtain⟨r3,br3,h⟩:=aw h
  obtain rfl:=lf h
  have z:=sg 0 c1<|sv (aP.ia (k:=.i64) bx2)<|sv (az x2)<|sx dW<|sx (aZ x2)<|sv (aO x2 [])<|bg (hR65 _ _ br3)<|oz 0 .normal (il t7 t8 (bC (n+r3)) (bC (t9+1))) rfl (cz (aI trivial (aI (up (am ah t7)) (aI trivial (aI trivial trivial))))) (aI trivial trivial)
  exact cw (A:=RT) mixed z<|by kernel_rfl
 ·obtain rfl:=lf h
  have z:=sg 0 c1<|eF (.exit 0) (oC n)
  exact fX RT (by intro hx;cases hx) z<|by kernel_rfl
theorem C2(hR65:tQ R65){x:Int}(h:yL R65 t7 t8 n t9=some x):aF Pg GE 0 (.loop (cA Sf 119)) (EX (.exit 0) (oC x)) (il t7 t8 n t9):=
 aF.loop (S:=fun(zz:Int×Int)=>il t7 t8 zz.1 zz.2) (ex:=(fun _=>.exit 0)) (s:=(n,t9)) h fun zz y hy=>Bv R65 t7 t8 zz.1 zz.2 hR65 hy
end
def Bt(R65:pf)(p:aa):Option Int:=
 (yL R65 p.Kids (p.Kids.length:Int) 1 0).bind fun o4=>
 some o4
theorem GA(R65:pf)(hR65:tQ R65){p:aa}{r:Int}(h:Bt R65 p=some r):CC Pg GE 164 [.agg (ac p)] (.int .i64 r) []:=by
 obtain⟨o4,bo4,h⟩:=aw h
 obtain rfl:=lf h
 have z:=se (bz p)<|sv (aK p)<|sv (aL p)<|cG (aP.ln p.Kids)<|cC (C2 R65 p.Kids (p.Kids.length:Int) 1 0 hR65 bo4)<|en (aI (rP (.int .i64 o4))<|trivial)
 exact bS RT call164 func164 (c:=Sf) rfl (aI (ah p) trivial) z<|by kernel_rfl
def Bu:(aa->Option Int)->(aa)->Option Int:=fun(rec:aa->Option Int) (x:aa)=>Bt (fun p=>rec p) x
def uK(p:aa):Option Int:=nS Bu p
theorem yM{p:aa}{r:Int}(h:uK p=some r):CC Pg GE 164 [.agg (ac p)] (.int .i64 r) []:=
 cU (F:=Bu) (M:=fun(x:aa) (r:Int)=>CC Pg GE 164 [.agg (ac x)] (.int .i64 r) []) (fun rec hrec x r h=>GA _ (fun p r h=>hrec p r h) h) h
abbrev pe:=(aa->Option Int)
abbrev tP(R:pe):Prop:=∀(p:aa) (r:Int),R p=some r->CC Pg GE 165 [.agg (ac p)] (.int .i64 r) []
noncomputable def Sg:Code:=f165.body.getD .skip
def RU:List Nat:=[]
section
variable(R66:pe)(t7:waB)(t8:Int)(n:Int)(t9:Int)
def ik:av:=aM 20 [(3,.int .i64 n),(7,sl ac t7),(8,.int .i64 t8),(9,.int .i64 t9)] [.dead] []
def oB(o:Int):av:=aM 20 [(3,.int .i64 o)] [.dead] []
def u6:Option ((Int×Int)⊕(Int)):=
 if(decide (t9<t8))=true then
  (dz t7 t9).bind fun x2=>
  (R66 x2).bind fun r3=>
  some (.inl ((if r3>n then r3 else n),bC (t9+1)))
 else
  some (.inr n)
def yJ:Option Int:=loop (fun(zz:Int×Int)=>u6 R66 t7 t8 zz.1 zz.2) (n,t9)
theorem Bq(hR66:tP R66){y:(Int×Int)⊕(Int)}(h:u6 R66 t7 t8 n t9=some y):aF Pg GE 0 (cA Sg 119) (LQ (fun(zz:Int×Int)=>ik t7 t8 zz.1 zz.2) (fun _=>.exit 0) oB y) (ik t7 t8 n t9):=by
 rcases aU h with⟨c1,h⟩|⟨c1,h⟩
 ·obtain⟨x2,bx2,h⟩:=aw h
  obtain⟨r3,br3,h⟩:=aw h
  obtain rfl:=lf h
  have z:=sg 0 c1<|sv (aP.ia (k:=.i64) bx2)<|sv (az x2)<|sx dW<|sx (aZ x2)<|sv (aO x2 [])<|bg (hR66 _ _ br3)<|oz 0 .normal (ik t7 t8 (if r3>n then r3 else n) (bC (t9+1))) rfl (cz (aI trivial (aI (up (am ah t7)) (aI trivial (aI trivial trivial))))) (aI trivial trivial)
  exact cw (A:=RU) mixed z<|by kernel_rfl
 ·obtain rfl:=lf h
  have z:=sg 0 c1<|eF (.exit 0) (oB n)
  exact fX RU (by intro hx;cases hx) z<|by kernel_rfl
theorem C1(hR66:tP R66){x:Int}(h:yJ R66 t7 t8 n t9=some x):aF Pg GE 0 (.loop (cA Sg 119)) (EX (.exit 0) (oB x)) (ik t7 t8 n t9):=
 aF.loop (S:=fun(zz:Int×Int)=>ik t7 t8 zz.1 zz.2) (ex:=(fun _=>.exit 0)) (s:=(n,t9)) h fun zz y hy=>Bq R66 t7 t8 zz.1 zz.2 hR66 hy
end
def Bo(R66:pe)(p:aa):Option Int:=
 (yJ R66 p.Kids (p.Kids.length:Int) 0 0).bind fun o4=>
 some (bC (o4+1))
theorem Gz(R66:pe)(hR66:tP R66){p:aa}{r:Int}(h:Bo R66 p=some r):CC Pg GE 165 [.agg (ac p)] (.int .i64 r) []:=by
 obtain⟨o4,bo4,h⟩:=aw h
 obtain rfl:=lf h
 have z:=se (bz p)<|sv (aK p)<|sv (aL p)<|cG (aP.ln p.Kids)<|cC (C1 R66 p.Kids (p.Kids.length:Int) 0 0 hR66 bo4)<|en (aI (rP (.int .i64 (bC (o4+1))))<|trivial)
 exact bS RU call165 func165 (c:=Sg) rfl (aI (ah p) trivial) z<|by kernel_rfl
def Bp:(aa->Option Int)->(aa)->Option Int:=fun(rec:aa->Option Int) (x:aa)=>Bo (fun p=>rec p) x
def uJ(p:aa):Option Int:=nS Bp p
theorem yK{p:aa}{r:Int}(h:uJ p=some r):CC Pg GE 165 [.agg (ac p)] (.int .i64 r) []:=
 cU (F:=Bp) (M:=fun(x:aa) (r:Int)=>CC Pg GE 165 [.agg (ac x)] (.int .i64 r) []) (fun rec hrec x r h=>Gz _ (fun p r h=>hrec p r h) h) h
noncomputable def LI:Code:=f182.body.getD .skip
def EZ:List Nat:=[]
section
variable(t4:Int)
def GB:av:=aM 15 [(4,.int .i64 t4)] [] []
def lW(o:Bool):av:=aM 15 [(4,.int .i64 t4),(5,.bool o)] [] []
def BA:Option Bool:=
 if(t4==1)=true then
  some (t4==1)
 else
  if(t4==2)=true then
   some (t4==2)
  else
   some (t4==3)
theorem En{x:Bool}(h:BA t4=some x):aF Pg GE 0 (cA LI 54) (EX .normal (lW t4 x)) (GB t4):=by
 rcases aU h with⟨c1,h⟩|⟨c1,h⟩
 ·obtain rfl:=lf h
  exact cm EZ (sg 0 c1<|eF .normal (lW t4 (t4==1)))<|by kernel_rfl
 ·rcases aU h with⟨c2,h⟩|⟨c2,h⟩
  ·obtain rfl:=lf h
   exact cm EZ (sg 0 c1<|sg 0 c2<|eF .normal (lW t4 (t4==2)))<|by kernel_rfl
  ·obtain rfl:=lf h
   exact cm EZ (sg 0 c1<|sg 0 c2<|eF .normal (lW t4 (t4==3)))<|by kernel_rfl
end
section
variable(t4:Int)
def GD:av:=aM 15 [(4,.int .i64 t4)] [] []
def qw(o:Bool):av:=aM 15 [(4,.int .i64 t4),(9,.bool o)] [] []
def BB:Option Bool:=
 if(t4==4)=true then
  some (t4==4)
 else
  some (t4==5)
theorem Eo{x:Bool}(h:BB t4=some x):aF Pg GE 0 (cA LI 222) (EX .normal (qw t4 x)) (GD t4):=by
 rcases aU h with⟨c6,h⟩|⟨c6,h⟩
 ·obtain rfl:=lf h
  exact cm EZ (sg 0 c6<|eF .normal (qw t4 (t4==4)))<|by kernel_rfl
 ·obtain rfl:=lf h
  exact cm EZ (sg 0 c6<|eF .normal (qw t4 (t4==5)))<|by kernel_rfl
end
section
variable(t4:Int)
def GF:av:=aM 15 [(4,.int .i64 t4)] [] []
def qx(o:Bool):av:=aM 15 [(12,.bool o)] [] []
def BC:Option Bool:=
 if(t4==9)=true then
  some (t4==9)
 else
  some (t4==14)
theorem Ep{x:Bool}(h:BC t4=some x):aF Pg GE 0 (cA LI 894) (EX .normal (qx x)) (GF t4):=by
 rcases aU h with⟨c10,h⟩|⟨c10,h⟩
 ·obtain rfl:=lf h
  exact cm EZ (sg 0 c10<|eF .normal (qx (t4==9)))<|by kernel_rfl
 ·obtain rfl:=lf h
  exact cm EZ (sg 0 c10<|eF .normal (qx (t4==14)))<|by kernel_rfl
end
def Ix(op:Int):Option (Int×Int):=
 (BA op).bind fun o3=>
 if o3=true then
  some (0,0)
 else
  (BB op).bind fun o7=>
  if o7=true then
   some (1,24)
  else
   (BC op).bind fun o11=>
   if o11=true then
    some (1,1)
   else
    some (2,2)
theorem JP{op:Int}{r:Int×Int}(h:Ix op=some r):CC Pg GE 182 [.int .i64 op] (.tuple [.int .i64 r.1,.int .i64 r.2]) []:=by
 obtain⟨o3,bo3,h⟩:=aw h
 have p5:=fun{sc F} (r:PS sc F)=>kq 3<|cC (En op bo3)<|r
 rcases aU h with⟨c4,h⟩|⟨c4,h⟩
 ·obtain rfl:=lf h
  have z:=p5<|sg 0 c4<|en (aI (rP (.tuple [.int .i64 0,.int .i64 0]))<|(aI trivial (aI trivial trivial)))
  exact bS EZ call182 func182 (c:=LI) rfl (aI trivial trivial) z<|by kernel_rfl
 ·obtain⟨o7,bo7,h⟩:=aw h
  have p9:=fun{sc F} (r:PS sc F)=>p5<|sg 0 c4<|kq 0<|cC (Eo op bo7)<|r
  rcases aU h with⟨c8,h⟩|⟨c8,h⟩
  ·obtain rfl:=lf h
   have z:=p9<|sg 0 c8<|en (aI (rP (.tuple [.int .i64 1,.int .i64 24]))<|(aI trivial (aI trivial trivial)))
   exact bS EZ call182 func182 (c:=LI) rfl (aI trivial trivial) z<|by kernel_rfl
  ·obtain⟨o11,bo11,h⟩:=aw h
   have p13:=fun{sc F} (r:PS sc F)=>p9<|sg 0 c8<|kq 0<|cC (Ep op bo11)<|r
   rcases aU h with⟨c12,h⟩|⟨c12,h⟩
   ·obtain rfl:=lf h
    have z:=p13<|sg 0 c12<|en (aI (rP (.tuple [.int .i64 1,.int .i64 1]))<|(aI trivial (aI trivial trivial)))
    exact bS EZ call182 func182 (c:=LI) rfl (aI trivial trivial) z<|by kernel_rfl
   ·obtain rfl:=lf h
    have z:=p13<|sg 0 c12<|en (aI (rP (.tuple [.int .i64 2,.int .i64 2]))<|(aI trivial (aI trivial trivial)))
    exact bS EZ call182 func182 (c:=LI) rfl (aI trivial trivial) z<|by kernel_rfl
noncomputable def Si:Code:=f183.body.getD .skip
def RW:List Nat:=[]
def zT(op:Int):Option Bool:=
 if(op==3)=true then
  some true
 else
  if(op==4)=true then
   some true
  else
   some (op==5)
theorem yN{op:Int}{r:Bool}(h:zT op=some r):CC Pg GE 183 [.int .i64 op] (.bool r) []:=by
 rcases aU h with⟨c1,h⟩|⟨c1,h⟩
 ·obtain rfl:=lf h
  have z:=sg 3 c1<|en (aI (rP (.bool true))<|trivial)
  exact bS RW call183 func183 (c:=Si) rfl (aI trivial trivial) z<|by kernel_rfl
 ·rcases aU h with⟨c2,h⟩|⟨c2,h⟩
  ·obtain rfl:=lf h
   have z:=sg 3 c1<|sg 7 c2<|en (aI (rP (.bool true))<|trivial)
   exact bS RW call183 func183 (c:=Si) rfl (aI trivial trivial) z<|by kernel_rfl
  ·obtain rfl:=lf h
   have z:=sg 3 c1<|sg 7 c2<|en (aI (rP (.bool (op==5)))<|trivial)
   exact bS RW call183 func183 (c:=Si) rfl (aI trivial trivial) z<|by kernel_rfl
noncomputable def Tx:Code:=f184.body.getD .skip
def Ta:List Nat:=[]
def Pz(n:Int):Option Bool:=
 if(decide (n>=(-1000000000000)))=true then
  some (decide (n<=1000000000000))
 else
  some false
theorem NR{n:Int}{r:Bool}(h:Pz n=some r):CC Pg GE 184 [.int .i64 n] (.bool r) []:=by
 rcases aU h with⟨c1,h⟩|⟨c1,h⟩
 ·obtain rfl:=lf h
  have z:=sg 3 c1<|en (aI (rP (.bool (decide (n<=1000000000000))))<|trivial)
  exact bS Ta call184 func184 (c:=Tx) rfl (aI trivial trivial) z<|by kernel_rfl
 ·obtain rfl:=lf h
  have z:=sg 3 c1<|en (aI (rP (.bool false))<|trivial)
  exact bS Ta call184 func184 (c:=Tx) rfl (aI trivial trivial) z<|by kernel_rfl
noncomputable def zt:Code:=f166.body.getD .skip
def fw:List Nat:=[]
section
variable(p:aa)
def GG:av:=aM 130 [(1,.eptr (ac p))] [.dead] []
def qy(o:Bool):av:=aM 130 [(1,.eptr (ac p)),(14,.bool o)] [.dead] []
def BD:Option Bool:=
 if(decide (p.Op<1))=true then
  some true
 else
  some (decide (p.Op>18))
theorem Er{x:Bool}(h:BD p=some x):aF Pg GE 0 (cA zt 12) (EX .normal (qy p x)) (GG p):=by
 have p2:=fun{sc F} (r:PS sc F)=>sv (aR p)<|sv (aS p)<|r
 rcases aU h with⟨c1,h⟩|⟨c1,h⟩
 ·obtain rfl:=lf h
  exact cm fw (p2<|sg 4 c1<|eF .normal (qy p true))<|by kernel_rfl
 ·obtain rfl:=lf h
  exact cm fw (p2<|sg 4 c1<|sv (aR p)<|sv (aS p)<|eF .normal (qy p (decide (p.Op>18))))<|by kernel_rfl
end
section
variable(p:aa)(least:Int)(most:Int)
def GH:av:=aM 130 [(1,.eptr (ac p)),(3,.int .i64 least),(4,.int .i64 most)] [.dead] []
def b7(o:Bool):av:=aM 130 [(1,.eptr (ac p)),(58,.bool o)] [.dead] []
def BE:Option Bool:=
 (zT p.Op).bind fun r7=>
 if (!r7) = true then
  if(!(p.Name==([]:ag)))=true then
   some true
  else
   if (p.Op != 1) = true then
    if (p.Op != 2) = true then
     if(p.N !=0)=true then
      some true
     else
      if(decide ((p.Kids.length:Int)<least))=true then
       some true
      else
       some (decide ((p.Kids.length:Int)>most))
    else
     if(decide ((p.Kids.length:Int)<least))=true then
      some true
     else
      some (decide ((p.Kids.length:Int)>most))
   else
    if(decide ((p.Kids.length:Int)<least))=true then
     some true
    else
     some (decide ((p.Kids.length:Int)>most))
 else
  if (p.Op != 1) = true then
   if (p.Op != 2) = true then
    if(p.N !=0)=true then
     some true
    else
     if(decide ((p.Kids.length:Int)<least))=true then
      some true
     else
      some (decide ((p.Kids.length:Int)>most))
   else
    if(decide ((p.Kids.length:Int)<least))=true then
     some true
    else
     some (decide ((p.Kids.length:Int)>most))
  else
   if(decide ((p.Kids.length:Int)<least))=true then
    some true
   else
    some (decide ((p.Kids.length:Int)>most))
theorem Es{x:Bool}(h:BE p least most=some x):aF Pg GE 0 (cA zt 60) (EX .normal (b7 p x)) (GH p least most):=by
 obtain⟨r7,br7,h⟩:=aw h
 have p9:=fun{sc F} (r:PS sc F)=>sv (aR p)<|sv (aS p)<|bg (yN br7)<|r
 rcases aU h with⟨c8,h⟩|⟨c8,h⟩
 ·have p11:=fun{sc F} (r:PS sc F)=>p9<|sg 5 c8<|sv (ca p)<|sv (cq p)<|r
  rcases aU h with⟨c10,h⟩|⟨c10,h⟩
  ·obtain rfl:=lf h
   exact cm fw (p11<|sg 10 c10<|eF .normal (b7 p true))<|by kernel_rfl
  ·have p13:=fun{sc F} (r:PS sc F)=>p11<|sg 10 c10<|sv (aR p)<|sv (aS p)<|r
   rcases aU h with⟨c12,h⟩|⟨c12,h⟩
   ·have p15:=fun{sc F} (r:PS sc F)=>p13<|sg 14 c12<|sv (aR p)<|sv (aS p)<|r
    rcases aU h with⟨c14,h⟩|⟨c14,h⟩
    ·have p17:=fun{sc F} (r:PS sc F)=>p15<|sg 19 c14<|sv (ch p)<|sv (ct p)<|r
     rcases aU h with⟨c16,h⟩|⟨c16,h⟩
     ·obtain rfl:=lf h
      exact cm fw (p17<|sg 25 c16<|eF .normal (b7 p true))<|by kernel_rfl
     ·have p19:=fun{sc F} (r:PS sc F)=>p17<|sg 25 c16<|sv (aK p)<|sv (aL p)<|cG (aP.ln p.Kids)<|r
      rcases aU h with⟨c18,h⟩|⟨c18,h⟩
      ·obtain rfl:=lf h
       exact cm fw (p19<|sg 32 c18<|eF .normal (b7 p true))<|by kernel_rfl
      ·obtain rfl:=lf h
       exact cm fw (p19<|sg 32 c18<|sv (aK p)<|sv (aL p)<|cG (aP.ln p.Kids)<|eF .normal (b7 p (decide ((p.Kids.length:Int)>most))))<|by kernel_rfl
    ·have p21:=fun{sc F} (r:PS sc F)=>p15<|sg 19 c14<|sv (aK p)<|sv (aL p)<|cG (aP.ln p.Kids)<|r
     rcases aU h with⟨c20,h⟩|⟨c20,h⟩
     ·obtain rfl:=lf h
      exact cm fw (p21<|sg 32 c20<|eF .normal (b7 p true))<|by kernel_rfl
     ·obtain rfl:=lf h
      exact cm fw (p21<|sg 32 c20<|sv (aK p)<|sv (aL p)<|cG (aP.ln p.Kids)<|eF .normal (b7 p (decide ((p.Kids.length:Int)>most))))<|by kernel_rfl
   ·have p23:=fun{sc F} (r:PS sc F)=>p13<|sg 14 c12<|sv (aK p)<|sv (aL p)<|cG (aP.ln p.Kids)<|r
    rcases aU h with⟨c22,h⟩|⟨c22,h⟩
    ·obtain rfl:=lf h
     exact cm fw (p23<|sg 32 c22<|eF .normal (b7 p true))<|by kernel_rfl
    ·obtain rfl:=lf h
     exact cm fw (p23<|sg 32 c22<|sv (aK p)<|sv (aL p)<|cG (aP.ln p.Kids)<|eF .normal (b7 p (decide ((p.Kids.length:Int)>most))))<|by kernel_rfl
 ·have p25:=fun{sc F} (r:PS sc F)=>p9<|sg 5 c8<|sv (aR p)<|sv (aS p)<|r
  rcases aU h with⟨c24,h⟩|⟨c24,h⟩
  ·have p27:=fun{sc F} (r:PS sc F)=>p25<|sg 14 c24<|sv (aR p)<|sv (aS p)<|r
   rcases aU h with⟨c26,h⟩|⟨c26,h⟩
   ·have p29:=fun{sc F} (r:PS sc F)=>p27<|sg 19 c26<|sv (ch p)<|sv (ct p)<|r
    rcases aU h with⟨c28,h⟩|⟨c28,h⟩
    ·obtain rfl:=lf h
     exact cm fw (p29<|sg 25 c28<|eF .normal (b7 p true))<|by kernel_rfl
    ·have p31:=fun{sc F} (r:PS sc F)=>p29<|sg 25 c28<|sv (aK p)<|sv (aL p)<|cG (aP.ln p.Kids)<|r
     rcases aU h with⟨c30,h⟩|⟨c30,h⟩
     ·obtain rfl:=lf h
      exact cm fw (p31<|sg 32 c30<|eF .normal (b7 p true))<|by kernel_rfl
     ·obtain rfl:=lf h
      exact cm fw (p31<|sg 32 c30<|sv (aK p)<|sv (aL p)<|cG (aP.ln p.Kids)<|eF .normal (b7 p (decide ((p.Kids.length:Int)>most))))<|by kernel_rfl
   ·have p33:=fun{sc F} (r:PS sc F)=>p27<|sg 19 c26<|sv (aK p)<|sv (aL p)<|cG (aP.ln p.Kids)<|r
    rcases aU h with⟨c32,h⟩|⟨c32,h⟩
    ·obtain rfl:=lf h
     exact cm fw (p33<|sg 32 c32<|eF .normal (b7 p true))<|by kernel_rfl
    ·obtain rfl:=lf h
     exact cm fw (p33<|sg 32 c32<|sv (aK p)<|sv (aL p)<|cG (aP.ln p.Kids)<|eF .normal (b7 p (decide ((p.Kids.length:Int)>most))))<|by kernel_rfl
  ·have p35:=fun{sc F} (r:PS sc F)=>p25<|sg 14 c24<|sv (aK p)<|sv (aL p)<|cG (aP.ln p.Kids)<|r
   rcases aU h with⟨c34,h⟩|⟨c34,h⟩
   ·obtain rfl:=lf h
    exact cm fw (p35<|sg 32 c34<|eF .normal (b7 p true))<|by kernel_rfl
   ·obtain rfl:=lf h
    exact cm fw (p35<|sg 32 c34<|sv (aK p)<|sv (aL p)<|cG (aP.ln p.Kids)<|eF .normal (b7 p (decide ((p.Kids.length:Int)>most))))<|by kernel_rfl
end
section
variable(p:aa)
def GI:av:=aM 130 [(1,.eptr (ac p))] [.dead] []
def d9(o:Bool):av:=aM 130 [(1,.eptr (ac p)),(82,.bool o)] [.dead] []
def BF:Option Bool:=
 if (p.Op == 1) = true then
  (Pz p.N).bind fun r41=>
  if(!r41)=true then
   some true
  else
   if(p.Op==2)=true then
    if(p.N !=0)=true then
     some (p.N !=1)
    else
     some false
   else
    some false
 else
  if(p.Op==2)=true then
   if(p.N !=0)=true then
    some (p.N !=1)
   else
    some false
  else
   some false
theorem Et{x:Bool}(h:BF p=some x):aF Pg GE 0 (cA zt 124) (EX .normal (d9 p x)) (GI p):=by
 have p40:=fun{sc F} (r:PS sc F)=>sv (aR p)<|sv (aS p)<|r
 rcases aU h with⟨c39,h⟩|⟨c39,h⟩
 ·obtain⟨r41,br41,h⟩:=aw h
  have p43:=fun{sc F} (r:PS sc F)=>p40<|sg 4 c39<|sv (ch p)<|sv (ct p)<|bg (NR br41)<|r
  rcases aU h with⟨c42,h⟩|⟨c42,h⟩
  ·obtain rfl:=lf h
   exact cm fw (p43<|sg 10 c42<|eF .normal (d9 p true))<|by kernel_rfl
  ·have p45:=fun{sc F} (r:PS sc F)=>p43<|sg 10 c42<|sv (aR p)<|sv (aS p)<|r
   rcases aU h with⟨c44,h⟩|⟨c44,h⟩
   ·have p47:=fun{sc F} (r:PS sc F)=>p45<|sg 14 c44<|sv (ch p)<|sv (ct p)<|r
    rcases aU h with⟨c46,h⟩|⟨c46,h⟩
    ·obtain rfl:=lf h
     exact cm fw (p47<|sg 19 c46<|sv (ch p)<|sv (ct p)<|eF .normal (d9 p (p.N !=1)))<|by kernel_rfl
    ·obtain rfl:=lf h
     exact cm fw (p47<|sg 19 c46<|eF .normal (d9 p false))<|by kernel_rfl
   ·obtain rfl:=lf h
    exact cm fw (p45<|sg 14 c44<|eF .normal (d9 p false))<|by kernel_rfl
 ·have p49:=fun{sc F} (r:PS sc F)=>p40<|sg 4 c39<|sv (aR p)<|sv (aS p)<|r
  rcases aU h with⟨c48,h⟩|⟨c48,h⟩
  ·have p51:=fun{sc F} (r:PS sc F)=>p49<|sg 14 c48<|sv (ch p)<|sv (ct p)<|r
   rcases aU h with⟨c50,h⟩|⟨c50,h⟩
   ·obtain rfl:=lf h
    exact cm fw (p51<|sg 19 c50<|sv (ch p)<|sv (ct p)<|eF .normal (d9 p (p.N !=1)))<|by kernel_rfl
   ·obtain rfl:=lf h
    exact cm fw (p51<|sg 19 c50<|eF .normal (d9 p false))<|by kernel_rfl
  ·obtain rfl:=lf h
   exact cm fw (p49<|sg 14 c48<|eF .normal (d9 p false))<|by kernel_rfl
end
section
variable(p:aa)
def GK:av:=aM 130 [(1,.eptr (ac p))] [.dead] []
def qz(o:Bool):av:=aM 130 [(1,.eptr (ac p)),(91,.bool o)] [.dead] []
def BH:Option Bool:=
 (zT p.Op).bind fun r55=>
 if r55=true then
  (zG p.Name).bind fun r58=>
  some (r58 !=0)
 else
  some false
theorem Eu{x:Bool}(h:BH p=some x):aF Pg GE 0 (cA zt 252) (EX .normal (qz p x)) (GK p):=by
 obtain⟨r55,br55,h⟩:=aw h
 have p57:=fun{sc F} (r:PS sc F)=>sv (aR p)<|sv (aS p)<|bg (yN br55)<|r
 rcases aU h with⟨c56,h⟩|⟨c56,h⟩
 ·obtain⟨r58,br58,h⟩:=aw h
  obtain rfl:=lf h
  exact cm fw (p57<|sg 4 c56<|sv (ca p)<|sv (cq p)<|bg (yB br58)<|eF .normal (qz p (r58 !=0)))<|by kernel_rfl
 ·obtain rfl:=lf h
  exact cm fw (p57<|sg 4 c56<|eF .normal (qz p false))<|by kernel_rfl
end
section
variable(p:aa)
def GL:av:=aM 130 [(1,.eptr (ac p))] [.dead] []
def qA(o:Bool):av:=aM 130 [(1,.eptr (ac p)),(5,.bool o)] [.dead] []
def BI:Option Bool:=
 if(p.Op==3)=true then
  some (p.Name==([118]:ag))
 else
  some false
theorem Ev{x:Bool}(h:BI p=some x):aF Pg GE 0 (cA zt 1012) (EX .normal (qA p x)) (GL p):=by
 have p63:=fun{sc F} (r:PS sc F)=>sv (aR p)<|sv (aS p)<|r
 rcases aU h with⟨c62,h⟩|⟨c62,h⟩
 ·obtain rfl:=lf h
  exact cm fw (p63<|sg 4 c62<|sv (ca p)<|sv (cq p)<|eF .normal (qA p (p.Name==([118]:ag))))<|by kernel_rfl
 ·obtain rfl:=lf h
  exact cm fw (p63<|sg 4 c62<|eF .normal (qA p false))<|by kernel_rfl
end
section
variable(p:aa)(v:Bool)
def GM:av:=aM 130 [(1,.eptr (ac p)),(5,.bool v)] [.dead] []
def lY(o:Bool):av:=aM 130 [(1,.eptr (ac p)),(5,.bool v),(6,.bool o)] [.dead] []
def BJ:Option Bool:=
 if(p.Op==4)=true then
  if(p.Name==([116,97,103]:ag))=true then
   some true
  else
   some (p.Name==([118,97,108]:ag))
 else
  some false
theorem Ew{x:Bool}(h:BJ p=some x):aF Pg GE 0 (cA zt 2026) (EX .normal (lY p v x)) (GM p v):=by
 have p66:=fun{sc F} (r:PS sc F)=>sv (aR p)<|sv (aS p)<|r
 rcases aU h with⟨c65,h⟩|⟨c65,h⟩
 ·have p68:=fun{sc F} (r:PS sc F)=>p66<|sg 4 c65<|sv (ca p)<|sv (cq p)<|r
  rcases aU h with⟨c67,h⟩|⟨c67,h⟩
  ·obtain rfl:=lf h
   exact cm fw (p68<|sg 8 c67<|eF .normal (lY p v true))<|by kernel_rfl
  ·obtain rfl:=lf h
   exact cm fw (p68<|sg 8 c67<|sv (ca p)<|sv (cq p)<|eF .normal (lY p v (p.Name==([118,97,108]:ag))))<|by kernel_rfl
 ·obtain rfl:=lf h
  exact cm fw (p66<|sg 4 c65<|eF .normal (lY p v false))<|by kernel_rfl
end
section
variable(p:aa)(v:Bool)(symbol:Bool)
def GN:av:=aM 130 [(1,.eptr (ac p)),(5,.bool v),(6,.bool symbol)] [.dead] []
def qB(o:Bool):av:=aM 130 [(1,.eptr (ac p)),(118,.bool o)] [.dead] []
def BK:Option Bool:=
 if(!v)=true then
  some (!symbol)
 else
  some false
theorem Ex{x:Bool}(h:BK v symbol=some x):aF Pg GE 0 (cA zt 4054) (EX .normal (qB p x)) (GN p v symbol):=by
 rcases aU h with⟨c70,h⟩|⟨c70,h⟩
 ·obtain rfl:=lf h
  exact cm fw (sg 3 c70<|eF .normal (qB p (!symbol)))<|by kernel_rfl
 ·obtain rfl:=lf h
  exact cm fw (sg 3 c70<|eF .normal (qB p false))<|by kernel_rfl
end
section
variable(p:aa)
def GJ:av:=aM 130 [(1,.eptr (ac p))] [.dead] []
def lX(o:Unit⊕(Unit)):Exit:=match o with
 |(.inl _)=>.ret
 |(.inr _)=>.normal
def gq(o:Unit⊕(Unit)):av:=match o with
 |(.inl o)=>aM 130 [(2,.int .i64 3)] [.dead] []
 |(.inr o)=>aM 130 [(1,.eptr (ac p))] [.dead] []
def BG:Option (Unit⊕(Unit)):=
 (BH p).bind fun o59=>
 if o59=true then
  (BI p).bind fun o64=>
  (BJ p).bind fun o69=>
  (BK o64 o69).bind fun o71=>
  if o71=true then
   some (.inl ())
  else
   some (.inr ())
 else
  some (.inr ())
theorem u9{x:Unit⊕(Unit)}(h:BG p=some x):aF Pg GE 0 (cA zt 126) (EX (lX x) (gq p x)) (GJ p):=by
 obtain⟨o59,bo59,h⟩:=aw h
 have p61:=fun{sc F} (r:PS sc F)=>kq 0<|cC (Eu p bo59)<|r
 rcases aU h with⟨c60,h⟩|⟨c60,h⟩
 ·obtain⟨o64,bo64,h⟩:=aw h
  obtain⟨o69,bo69,h⟩:=aw h
  obtain⟨o71,bo71,h⟩:=aw h
  have p73:=fun{sc F} (r:PS sc F)=>p61<|sg 0 c60<|kq 0<|cC (Ev p bo64)<|kq 0<|cC (Ew p o64 bo69)<|kq 0<|cC (Ex p o64 o69 bo71)<|r
  rcases aU h with⟨c72,h⟩|⟨c72,h⟩
  ·obtain rfl:=lf h
   exact cm fw (p73<|sg 0 c72<|eF (lX (.inl ())) (gq p (.inl ())))<|by kernel_rfl
  ·obtain rfl:=lf h
   exact cm fw (p73<|sg 0 c72<|eF (lX (.inr ())) (gq p (.inr ())))<|by kernel_rfl
 ·obtain rfl:=lf h
  exact cm fw (p61<|sg 0 c60<|eF (lX (.inr ())) (gq p (.inr ())))<|by kernel_rfl
end
section
variable(p:aa)
def GO:av:=aM 130 [(1,.eptr (ac p))] [.dead] []
def qC(o:Bool):av:=aM 130 [(129,.bool o)] [.dead] []
def BL:Option Bool:=
 if(p.Op==8)=true then
  (dz p.Kids 0).bind fun x77=>
  some (x77.Op !=1)
 else
  some false
theorem Ey{x:Bool}(h:BL p=some x):aF Pg GE 0 (cA zt 508) (EX .normal (qC x)) (GO p):=by
 have p76:=fun{sc F} (r:PS sc F)=>sv (aR p)<|sv (aS p)<|r
 rcases aU h with⟨c75,h⟩|⟨c75,h⟩
 ·obtain⟨x77,bx77,h⟩:=aw h
  obtain rfl:=lf h
  exact cm fw (p76<|sg 4 c75<|sv (aK p)<|sv (aL p)<|sv (aP.ia (k:=.i64) bx77)<|sv (aR x77)<|sv (aS x77)<|eF .normal (qC (x77.Op !=1)))<|by kernel_rfl
 ·obtain rfl:=lf h
  exact cm fw (p76<|sg 4 c75<|eF .normal (qC false))<|by kernel_rfl
end
def Iy(p:aa):Option Int:=
 (BD p).bind fun o3=>
 if o3=true then
  some 1
 else
  (Ix p.Op).bind fun r6=>
  (BE p r6.1 r6.2).bind fun o36=>
  if o36=true then
   some 1
  else
   (BF p).bind fun o52=>
   if o52=true then
    some 2
   else
    (BG p).bind fun o74=>match o74 with
    |(.inl o74)=>
     some 3
    | (.inr o74) =>
     (BL p).bind fun o78=>
     if o78=true then
      some 6
     else
      some 0
theorem BM{p:aa}{r:Int}(h:Iy p=some r):CC Pg GE 166 [.agg (ac p)] (.int .i64 r) []:=by
 obtain⟨o3,bo3,h⟩:=aw h
 have p5:=fun{sc F} (r:PS sc F)=>se (bz p)<|kq 1<|cC (Er p bo3)<|r
 rcases aU h with⟨c4,h⟩|⟨c4,h⟩
 ·obtain rfl:=lf h
  have z:=p5<|sg 0 c4<|en (aI (rP (.int .i64 1))<|trivial)
  exact bS fw call166 func166 (c:=zt) rfl (aI (ah p) trivial) z<|by kernel_rfl
 ·obtain⟨r6,br6,h⟩:=aw h
  obtain⟨o36,bo36,h⟩:=aw h
  have p38:=fun{sc F} (r:PS sc F)=>p5<|sg 0 c4<|sv (aR p)<|sv (aS p)<|bg (JP br6)<|kq 1<|cC (Es p r6.1 r6.2 bo36)<|r
  rcases aU h with⟨c37,h⟩|⟨c37,h⟩
  ·obtain rfl:=lf h
   have z:=p38<|sg 0 c37<|en (aI (rP (.int .i64 1))<|trivial)
   exact bS fw call166 func166 (c:=zt) rfl (aI (ah p) trivial) z<|by kernel_rfl
  ·obtain⟨o52,bo52,h⟩:=aw h
   have p54:=fun{sc F} (r:PS sc F)=>p38<|sg 0 c37<|kq 1<|cC (Et p bo52)<|r
   rcases aU h with⟨c53,h⟩|⟨c53,h⟩
   ·obtain rfl:=lf h
    have z:=p54<|sg 0 c53<|en (aI (rP (.int .i64 2))<|trivial)
    exact bS fw call166 func166 (c:=zt) rfl (aI (ah p) trivial) z<|by kernel_rfl
   ·obtain⟨o74,bo74,h⟩:=aw h
    rcases o74 with o74|o74
    ·obtain rfl:=lf h
     have z:=p54<|sg 0 c53<|kq 0<|cC (e:=.ret) (s1:=gq p (.inl o74)) (u9 p bo74)<|en (aI (rP (.int .i64 3))<|trivial)
     exact bS fw call166 func166 (c:=zt) rfl (aI (ah p) trivial) z<|by kernel_rfl
    ·obtain⟨o78,bo78,h⟩:=aw h
     have p80:=fun{sc F} (r:PS sc F)=>p54<|sg 0 c53<|kq 0<|cC (e:=.normal) (s1:=gq p (.inr o74)) (u9 p bo74)<|kq 1<|cC (Ey p bo78)<|r
     rcases aU h with⟨c79,h⟩|⟨c79,h⟩
     ·obtain rfl:=lf h
      have z:=p80<|sg 0 c79<|en (aI (rP (.int .i64 6))<|trivial)
      exact bS fw call166 func166 (c:=zt) rfl (aI (ah p) trivial) z<|by kernel_rfl
     ·obtain rfl:=lf h
      have z:=p80<|sg 0 c79<|en (aI (rP (.int .i64 0))<|trivial)
      exact bS fw call166 func166 (c:=zt) rfl (aI (ah p) trivial) z<|by kernel_rfl
end Go.Proofs.YtggeppllafbidaaGreatDoor
