/- PROVED: a part of the proof. Conditions: none. -/
import Derived.Test.YtggeppllafbidaaGreatDoorPkA11
noncomputable section
namespace Go.Proofs.YtggeppllafbidaaGreatDoor
open Go Go.Proofs.Tryz
set_option linter.unusedVariables false
set_option maxRecDepth 100000
noncomputable def L9:Code:=f133.body.getD .skip
def HE:List Nat:=[]
section
variable(t:ae)
def Cg:av:=aN 39 [(1,.eptr (af t))] [.dead] []
def gm(o:Bool):av:=aN 39 [(38,.bool o)] [.dead] []
def wd:Option Bool:=
 if(decide ((t.Args.length:Int)<2))=true then
  some true
 else
  if(decide ((t.Args.length:Int)>7))=true then
   some true
  else
   if((t.Names.length:Int)!=0)=true then
    some ((t.Names.length:Int)!=(bA ((t.Args.length:Int) - 1)))
   else
    some false
theorem A4{x:Bool}(h:wd t=some x):aB Pg GE 0 (cA L9 892) (EX .normal (gm x)) (Cg t):=by
 have p8:=fun{sc F} (r:PS sc F)=>sv (aK t)<|sv (aL t)<|cD (d5.ln t.Args)<|r
 rcases aT h with⟨c7,h⟩|⟨c7,h⟩
 ·obtain rfl:=lf h
  exact co HE (p8<|sg 5 c7<|eF .normal (gm true))<|by kernel_rfl
 ·have p10:=fun{sc F} (r:PS sc F)=>p8<|sg 5 c7<|sv (aK t)<|sv (aL t)<|cD (d5.ln t.Args)<|r
  rcases aT h with⟨c9,h⟩|⟨c9,h⟩
  ·obtain rfl:=lf h
   exact co HE (p10<|sg 11 c9<|eF .normal (gm true))<|by kernel_rfl
  ·have p12:=fun{sc F} (r:PS sc F)=>p10<|sg 11 c9<|sv (aC t)<|sv (aD t)<|cD (aW.ln t.Names)<|r
   rcases aT h with⟨c11,h⟩|⟨c11,h⟩
   ·obtain rfl:=lf h
    exact co HE (p12<|sg 16 c11<|sv (aC t)<|sv (aD t)<|cD (aW.ln t.Names)<|sv (aK t)<|sv (aL t)<|cD (d5.ln t.Args)<|eF .normal (gm ((t.Names.length:Int)!=(bA ((t.Args.length:Int) - 1)))))<|by kernel_rfl
   ·obtain rfl:=lf h
    exact co HE (p12<|sg 16 c11<|eF .normal (gm false))<|by kernel_rfl
end
def CR(t:ae):Option Int:=
 if(t.Op==4)=true then
  if(decide ((t.Args.length:Int)>6))=true then
   some 13
  else
   some 0
 else
  if(t.Op==6)=true then
   (wd t).bind fun o13=>
   if o13=true then
    some 13
   else
    some 0
  else
   some 0
theorem F2{t:ae}{r:Int}(h:CR t=some r):CC Pg GE 133 [.agg (af t)] (.int .i64 r) []:=by
 have p2:=fun{sc F} (r:PS sc F)=>se (bQ t)<|sv (aG t)<|sv (aJ t)<|r
 rcases aT h with⟨c1,h⟩|⟨c1,h⟩
 ·have p4:=fun{sc F} (r:PS sc F)=>p2<|sg 0 c1<|sv (aK t)<|sv (aL t)<|cD (d5.ln t.Args)<|r
  rcases aT h with⟨c3,h⟩|⟨c3,h⟩
  ·obtain rfl:=lf h
   have z:=p4<|sg 0 c3<|en (aI (rP (.int .i64 13))<|trivial)
   exact b7 HE call133 func133 (c:=L9) rfl (aI (al t) trivial) z<|by kernel_rfl
  ·obtain rfl:=lf h
   have z:=p4<|sg 0 c3<|en (aI (rP (.int .i64 0))<|trivial)
   exact b7 HE call133 func133 (c:=L9) rfl (aI (al t) trivial) z<|by kernel_rfl
 ·have p6:=fun{sc F} (r:PS sc F)=>p2<|sg 0 c1<|r
  rcases aT h with⟨c5,h⟩|⟨c5,h⟩
  ·obtain⟨o13,bo13,h⟩:=aw h
   have p15:=fun{sc F} (r:PS sc F)=>p6<|sg 0 c5<|kK 0<|cC (A4 t bo13)<|r
   rcases aT h with⟨c14,h⟩|⟨c14,h⟩
   ·obtain rfl:=lf h
    have z:=p15<|sg 0 c14<|en (aI (rP (.int .i64 13))<|trivial)
    exact b7 HE call133 func133 (c:=L9) rfl (aI (al t) trivial) z<|by kernel_rfl
   ·obtain rfl:=lf h
    have z:=p15<|sg 0 c14<|en (aI (rP (.int .i64 0))<|trivial)
    exact b7 HE call133 func133 (c:=L9) rfl (aI (al t) trivial) z<|by kernel_rfl
  ·obtain rfl:=lf h
   have z:=p6<|sg 0 c5<|en (aI (rP (.int .i64 0))<|trivial)
   exact b7 HE call133 func133 (c:=L9) rfl (aI (al t) trivial) z<|by kernel_rfl
noncomputable def Pf:Code:=f157.body.getD .skip
def Nf:List Nat:=[23]
section
variable(s:ag)(i:Int)
def iT:av:=aN 24 [(0,.str s),(5,.int .i64 i)] [] []
def iU(o:(ag×ag)⊕(Unit)):Exit:=match o with
 |(.inl _)=>.ret
 |(.inr _)=>.exit 0
def gb(o:(ag×ag)⊕(Unit)):av:=match o with
 |(.inl o)=>aN 24 [(2,.str o.1),(3,.str o.2),(4,.bool true)] [] []
 |(.inr o)=>aN 24 [(0,.str s)] [] []
def vD:Option (Int⊕((ag×ag)⊕(Unit))):=
 if(decide (i<(s.length:Int)))=true then
  (wP s i).bind fun c2=>
  if(c2==46)=true then
   (IK s none (some i)).bind fun s5=>
   (IK s (some (bA (i+1))) none).bind fun s6=>
   some (.inr (.inl (s5,s6)))
  else
   some (.inl (bA (i+1)))
 else
  some (.inr (.inr ()))
def Ab:Option ((ag×ag)⊕(Unit)):=loop (fun(zz:Int)=>vD s zz) i
theorem BL{y:Int⊕((ag×ag)⊕(Unit))}(h:vD s i=some y):aB Pg GE 0 (cA Pf 55) (LQ (fun(zz:Int)=>iT s zz) iU (gb s) y) (iT s i):=by
 rcases aT h with⟨c1,h⟩|⟨c1,h⟩
 ·obtain⟨c2,bc2,h⟩:=aw h
  have p4:=fun{sc F} (r:PS sc F)=>cD (sA underlying9 s)<|sg 0 c1<|sv (qB (k:=.i64) underlying9 bc2)<|r
  rcases aT h with⟨c3,h⟩|⟨c3,h⟩
  ·obtain⟨s5,bs5,h⟩:=aw h
   obtain⟨s6,bs6,h⟩:=aw h
   obtain rfl:=lf h
   have z:=p4<|sg 0 c3<|rp [0,0,3,0,0,16,56,7,255,511]<|sv (Qh underlying9 bs5)<|sv (Qh underlying9 bs6)<|eF (iU (.inl (s5,s6))) (gb s (.inl (s5,s6)))
   exact gf Nf (by intro hx;cases hx) z<|by kernel_rfl
  ·obtain rfl:=lf h
   exact rY Nf (p4<|sg 0 c3<|eF .normal (iT s (bA (i+1))))<|by kernel_rfl
 ·obtain rfl:=lf h
  have z:=cD (sA underlying9 s)<|sg 0 c1<|eF (iU (.inr ())) (gb s (.inr ()))
  exact gf Nf (by intro hx;cases hx) z<|by kernel_rfl
theorem tX{x:(ag×ag)⊕(Unit)}(h:Ab s i=some x):aB Pg GE 0 (.loop (cA Pf 55)) (EX (iU x) (gb s x)) (iT s i):=
 aB.loop (S:=fun(zz:Int)=>iT s zz) (ex:=iU) (s:=i) h fun zz y hy=>BL s zz hy
end
def BK(s:ag):Option (ag×ag×Bool):=
 (Ab s 0).bind fun o7=>match o7 with
 |(.inl o7)=>
  some (o7.1,o7.2,true)
 |(.inr o7)=>
  some (s,([]:ag),false)
theorem Ac{s:ag}{r:ag×ag×Bool}(h:BK s=some r):CC Pg GE 157 [.str s] (.tuple [.str r.1,.str r.2.1,.bool r.2.2]) []:=by
 obtain⟨o7,bo7,h⟩:=aw h
 rcases o7 with o7|o7
 ·obtain rfl:=lf h
  have z:=cC (e:=.ret) (s1:=gb s (.inl o7)) (tX s 0 bo7)<|en (aI (rP (.tuple [.str o7.1,.str o7.2,.bool true]))<|(aI trivial (aI trivial (aI trivial trivial))))
  exact b7 Nf call157 func157 (c:=Pf) rfl (aI trivial trivial) z<|by kernel_rfl
 ·obtain rfl:=lf h
  have z:=cC (e:=.exit 0) (s1:=gb s (.inr o7)) (tX s 0 bo7)<|en (aI (rP (.tuple [.str s,.str ([]:ag),.bool false]))<|(aI trivial (aI trivial (aI trivial trivial))))
  exact b7 Nf call157 func157 (c:=Pf) rfl (aI trivial trivial) z<|by kernel_rfl
noncomputable def RK:Code:=f160.body.getD .skip
def Rn:List Nat:=[]
def qo(s:ag):Option Bool:=
 if(decide ((s.length:Int)>=1))=true then
  some (decide ((s.length:Int)<=24))
 else
  some false
theorem gd{s:ag}{r:Bool}(h:qo s=some r):CC Pg GE 160 [.str s] (.bool r) []:=by
 rcases aT h with⟨c1,h⟩|⟨c1,h⟩
 ·obtain rfl:=lf h
  have z:=cD (sA underlying9 s)<|sg 4 c1<|cD (sA underlying9 s)<|en (aI (rP (.bool (decide ((s.length:Int)<=24))))<|trivial)
  exact b7 Rn call160 func160 (c:=RK) rfl (aI trivial trivial) z<|by kernel_rfl
 ·obtain rfl:=lf h
  have z:=cD (sA underlying9 s)<|sg 4 c1<|en (aI (rP (.bool false))<|trivial)
  exact b7 Rn call160 func160 (c:=RK) rfl (aI trivial trivial) z<|by kernel_rfl
noncomputable def RM:Code:=f178.body.getD .skip
def Rp:List Nat:=[]
def nh(c:Int):Option Bool:=
 if(decide (97<=c))=true then
  some (decide (c<=122))
 else
  some false
theorem lA{c:Int}{r:Bool}(h:nh c=some r):CC Pg GE 178 [.int .u8 c] (.bool r) []:=by
 rcases aT h with⟨c1,h⟩|⟨c1,h⟩
 ·obtain rfl:=lf h
  have z:=sg 3 c1<|en (aI (rP (.bool (decide (c<=122))))<|trivial)
  exact b7 Rp call178 func178 (c:=RM) rfl (aI trivial trivial) z<|by kernel_rfl
 ·obtain rfl:=lf h
  have z:=sg 3 c1<|en (aI (rP (.bool false))<|trivial)
  exact b7 Rp call178 func178 (c:=RM) rfl (aI trivial trivial) z<|by kernel_rfl
noncomputable def Ph:Code:=f179.body.getD .skip
def Ng:List Nat:=[]
section
variable(s:ag)(t6:Int)
def eR:av:=aN 13 [(0,.str s),(5,.agg (eT.map PVal.str)),(6,.int .i64 t6)] [] []
def eS(o:Unit⊕(Unit)):Exit:=match o with
 |(.inl _)=>.ret
 |(.inr _)=>.exit 0
def dT(o:Unit⊕(Unit)):av:=match o with
 |(.inl o)=>aN 13 [(2,.bool true)] [] []
 |(.inr o)=>aN 13 [] [] []
def pk:Option (Int⊕(Unit⊕(Unit))):=
 if(decide (t6<42))=true then
  (dv eT t6).bind fun x2=>
  if(x2==s)=true then
   some (.inr (.inl ()))
  else
   some (.inl (bA (t6+1)))
 else
  some (.inr (.inr ()))
def rR:Option (Unit⊕(Unit)):=loop (fun(zz:Int)=>pk s zz) t6
theorem vA{y:Int⊕(Unit⊕(Unit))}(h:pk s t6=some y):aB Pg GE 0 (cA Ph 55) (LQ (fun(zz:Int)=>eR s zz) eS dT y) (eR s t6):=by
 rcases aT h with⟨c1,h⟩|⟨c1,h⟩
 ·obtain⟨x2,bx2,h⟩:=aw h
  have p4:=fun{sc F} (r:PS sc F)=>sg 0 c1<|sv (Ad (k:=.i64) bx2)<|r
  rcases aT h with⟨c3,h⟩|⟨c3,h⟩
  ·obtain rfl:=lf h
   have z:=p4<|sg 0 c3<|eF (eS (.inl ())) (dT (.inl ()))
   exact gf Ng (by intro hx;cases hx) z<|by kernel_rfl
  ·obtain rfl:=lf h
   exact rY Ng (p4<|sg 0 c3<|eF .normal (eR s (bA (t6+1))))<|by kernel_rfl
 ·obtain rfl:=lf h
  have z:=sg 0 c1<|eF (eS (.inr ())) (dT (.inr ()))
  exact gf Ng (by intro hx;cases hx) z<|by kernel_rfl
theorem nQ{x:Unit⊕(Unit)}(h:rR s t6=some x):aB Pg GE 0 (.loop (cA Ph 55)) (EX (eS x) (dT x)) (eR s t6):=
 aB.loop (S:=fun(zz:Int)=>eR s zz) (ex:=eS) (s:=t6) h fun zz y hy=>vA s zz hy
end
def xA(s:ag):Option Bool:=
 (rR s 0).bind fun o5=>match o5 with
 |(.inl o5)=>
  some true
 |(.inr o5)=>
  some false
theorem BJ{s:ag}{r:Bool}(h:xA s=some r):CC Pg GE 179 [.str s] (.bool r) []:=by
 obtain⟨o5,bo5,h⟩:=aw h
 rcases o5 with o5|o5
 ·obtain rfl:=lf h
  have z:=sv qn<|cC (e:=.ret) (s1:=dT (.inl o5)) (nQ s 0 bo5)<|en (aI (rP (.bool true))<|trivial)
  exact b7 Ng call179 func179 (c:=Ph) rfl (aI trivial trivial) z<|by kernel_rfl
 ·obtain rfl:=lf h
  have z:=sv qn<|cC (e:=.exit 0) (s1:=dT (.inr o5)) (nQ s 0 bo5)<|en (aI (rP (.bool false))<|trivial)
  exact b7 Ng call179 func179 (c:=Ph) rfl (aI trivial trivial) z<|by kernel_rfl
noncomputable def RO:Code:=f180.body.getD .skip
def Rq:List Nat:=[]
def qm(c:Int):Option Bool:=
 if(decide (48<=c))=true then
  some (decide (c<=57))
 else
  some false
theorem pl{c:Int}{r:Bool}(h:qm c=some r):CC Pg GE 180 [.int .u8 c] (.bool r) []:=by
 rcases aT h with⟨c1,h⟩|⟨c1,h⟩
 ·obtain rfl:=lf h
  have z:=sg 3 c1<|en (aI (rP (.bool (decide (c<=57))))<|trivial)
  exact b7 Rq call180 func180 (c:=RO) rfl (aI trivial trivial) z<|by kernel_rfl
 ·obtain rfl:=lf h
  have z:=sg 3 c1<|en (aI (rP (.bool false))<|trivial)
  exact b7 Rq call180 func180 (c:=RO) rfl (aI trivial trivial) z<|by kernel_rfl
noncomputable def Km:Code:=f158.body.getD .skip
def CT:List Nat:=[]
section
variable(s:ag)
def Dj:av:=aN 41 [(0,.str s)] [] []
def j9(o:Bool):av:=aN 41 [(0,.str s),(16,.bool o)] [] []
def xB:Option Bool:=
 (qo s).bind fun r1=>
 if(!r1)=true then
  some true
 else
  (wP s 0).bind fun c3=>
  (nh c3).bind fun r4=>
  if(!r4)=true then
   some true
  else
   (xA s).bind fun r7=>
   some r7
theorem BM{x:Bool}(h:xB s=some x):aB Pg GE 0 (cA Km 12) (EX .normal (j9 s x)) (Dj s):=by
 obtain⟨r1,br1,h⟩:=aw h
 rcases aT h with⟨c2,h⟩|⟨c2,h⟩
 ·obtain rfl:=lf h
  exact co CT (ba (gd br1)<|sg 4 c2<|eF .normal (j9 s true))<|by kernel_rfl
 ·obtain⟨c3,bc3,h⟩:=aw h
  obtain⟨r4,br4,h⟩:=aw h
  have p6:=fun{sc F} (r:PS sc F)=>ba (gd br1)<|sg 4 c2<|sv (qB (k:=.i64) underlying9 bc3)<|ba (lA br4)<|r
  rcases aT h with⟨c5,h⟩|⟨c5,h⟩
  ·obtain rfl:=lf h
   exact co CT (p6<|sg 10 c5<|eF .normal (j9 s true))<|by kernel_rfl
  ·obtain⟨r7,br7,h⟩:=aw h
   obtain rfl:=lf h
   exact co CT (p6<|sg 10 c5<|ba (BJ br7)<|eF .normal (j9 s r7))<|by kernel_rfl
end
section
variable(s:ag)(i:Int)
def Dk:av:=aN 41 [(0,.str s),(3,.int .i64 i)] [] []
def ka(o:Bool):av:=aN 41 [(0,.str s),(3,.int .i64 i),(40,.bool o)] [] []
def xC:Option Bool:=
 (wP s i).bind fun c12=>
 (nh c12).bind fun r13=>
 if(!r13)=true then
  (wP s i).bind fun c16=>
  (qm c16).bind fun r17=>
  if(!r17)=true then
   (wP s i).bind fun c20=>
   some (c20 !=95)
  else
   some false
 else
  some false
theorem BN{x:Bool}(h:xC s i=some x):aB Pg GE 0 (cA Km 1914) (EX .normal (ka s i x)) (Dk s i):=by
 obtain⟨c12,bc12,h⟩:=aw h
 obtain⟨r13,br13,h⟩:=aw h
 have p15:=fun{sc F} (r:PS sc F)=>sv (qB (k:=.i64) underlying9 bc12)<|ba (lA br13)<|r
 rcases aT h with⟨c14,h⟩|⟨c14,h⟩
 ·obtain⟨c16,bc16,h⟩:=aw h
  obtain⟨r17,br17,h⟩:=aw h
  have p19:=fun{sc F} (r:PS sc F)=>p15<|sg 6 c14<|sv (qB (k:=.i64) underlying9 bc16)<|ba (pl br17)<|r
  rcases aT h with⟨c18,h⟩|⟨c18,h⟩
  ·obtain⟨c20,bc20,h⟩:=aw h
   obtain rfl:=lf h
   exact co CT (p19<|sg 13 c18<|sv (qB (k:=.i64) underlying9 bc20)<|eF .normal (ka s i (c20 !=95)))<|by kernel_rfl
  ·obtain rfl:=lf h
   exact co CT (p19<|sg 13 c18<|eF .normal (ka s i false))<|by kernel_rfl
 ·obtain rfl:=lf h
  exact co CT (p15<|sg 6 c14<|eF .normal (ka s i false))<|by kernel_rfl
end
section
variable(s:ag)(i:Int)
def gP:av:=aN 41 [(0,.str s),(3,.int .i64 i)] [] []
def gQ(o:Unit⊕(Unit)):Exit:=match o with
 |(.inl _)=>.ret
 |(.inr _)=>.exit 0
def fj(o:Unit⊕(Unit)):av:=match o with
 |(.inl o)=>aN 41 [(2,.bool false)] [] []
 |(.inr o)=>aN 41 [] [] []
def tY:Option (Int⊕(Unit⊕(Unit))):=
 if(decide (i<(s.length:Int)))=true then
  (xC s i).bind fun o21=>
  if o21=true then
   some (.inr (.inl ()))
  else
   some (.inl (bA (i+1)))
 else
  some (.inr (.inr ()))
def xD:Option (Unit⊕(Unit)):=loop (fun(zz:Int)=>tY s zz) i
theorem Ae{y:Int⊕(Unit⊕(Unit))}(h:tY s i=some y):aB Pg GE 0 (cA Km 119) (LQ (fun(zz:Int)=>gP s zz) gQ fj y) (gP s i):=by
 rcases aT h with⟨c11,h⟩|⟨c11,h⟩
 ·obtain⟨o21,bo21,h⟩:=aw h
  have p23:=fun{sc F} (r:PS sc F)=>cD (sA underlying9 s)<|sg 0 c11<|kK 1<|cC (BN s i bo21)<|r
  rcases aT h with⟨c22,h⟩|⟨c22,h⟩
  ·obtain rfl:=lf h
   have z:=p23<|sg 0 c22<|eF (gQ (.inl ())) (fj (.inl ()))
   exact gf CT (by intro hx;cases hx) z<|by kernel_rfl
  ·obtain rfl:=lf h
   exact rY CT (p23<|sg 0 c22<|eF .normal (gP s (bA (i+1))))<|by kernel_rfl
 ·obtain rfl:=lf h
  have z:=cD (sA underlying9 s)<|sg 0 c11<|eF (gQ (.inr ())) (fj (.inr ()))
  exact gf CT (by intro hx;cases hx) z<|by kernel_rfl
theorem rV{x:Unit⊕(Unit)}(h:xD s i=some x):aB Pg GE 0 (.loop (cA Km 119)) (EX (gQ x) (fj x)) (gP s i):=
 aB.loop (S:=fun(zz:Int)=>gP s zz) (ex:=gQ) (s:=i) h fun zz y hy=>Ae s zz hy
end
def yW(s:ag):Option Bool:=
 (xB s).bind fun o8=>
 if o8=true then
  some false
 else
  (xD s 1).bind fun o24=>match o24 with
  |(.inl o24)=>
   some false
  |(.inr o24)=>
   some true
theorem rf{s:ag}{r:Bool}(h:yW s=some r):CC Pg GE 158 [.str s] (.bool r) []:=by
 obtain⟨o8,bo8,h⟩:=aw h
 have p10:=fun{sc F} (r:PS sc F)=>kK 2<|cC (BM s bo8)<|r
 rcases aT h with⟨c9,h⟩|⟨c9,h⟩
 ·obtain rfl:=lf h
  have z:=p10<|sg 0 c9<|en (aI (rP (.bool false))<|trivial)
  exact b7 CT call158 func158 (c:=Km) rfl (aI trivial trivial) z<|by kernel_rfl
 ·obtain⟨o24,bo24,h⟩:=aw h
  rcases o24 with o24|o24
  ·obtain rfl:=lf h
   have z:=p10<|sg 0 c9<|cC (e:=.ret) (s1:=fj (.inl o24)) (rV s 1 bo24)<|en (aI (rP (.bool false))<|trivial)
   exact b7 CT call158 func158 (c:=Km) rfl (aI trivial trivial) z<|by kernel_rfl
  ·obtain rfl:=lf h
   have z:=p10<|sg 0 c9<|cC (e:=.exit 0) (s1:=fj (.inr o24)) (rV s 1 bo24)<|en (aI (rP (.bool true))<|trivial)
   exact b7 CT call158 func158 (c:=Km) rfl (aI trivial trivial) z<|by kernel_rfl
noncomputable def RP:Code:=f181.body.getD .skip
def Rr:List Nat:=[]
def rb(c:Int):Option Bool:=
 if(decide (65<=c))=true then
  some (decide (c<=90))
 else
  some false
theorem rU{c:Int}{r:Bool}(h:rb c=some r):CC Pg GE 181 [.int .u8 c] (.bool r) []:=by
 rcases aT h with⟨c1,h⟩|⟨c1,h⟩
 ·obtain rfl:=lf h
  have z:=sg 3 c1<|en (aI (rP (.bool (decide (c<=90))))<|trivial)
  exact b7 Rr call181 func181 (c:=RP) rfl (aI trivial trivial) z<|by kernel_rfl
 ·obtain rfl:=lf h
  have z:=sg 3 c1<|en (aI (rP (.bool false))<|trivial)
  exact b7 Rr call181 func181 (c:=RP) rfl (aI trivial trivial) z<|by kernel_rfl
noncomputable def Nt:Code:=f161.body.getD .skip
def IY:List Nat:=[]
section
variable(s:ag)(i:Int)
def rS:av:=aN 29 [(0,.str s),(3,.int .i64 i)] [] []
def ec(o:Bool):av:=aN 29 [(0,.str s),(3,.int .i64 i),(28,.bool o)] [] []
def lW:Option Bool:=
 (wP s i).bind fun c2=>
 (nh c2).bind fun r3=>
 if(!r3)=true then
  (wP s i).bind fun c6=>
  (rb c6).bind fun r7=>
  if(!r7)=true then
   (wP s i).bind fun c10=>
   (qm c10).bind fun r11=>
   some (!r11)
  else
   some false
 else
  some false
theorem ra{x:Bool}(h:lW s i=some x):aB Pg GE 0 (cA Nt 890) (EX .normal (ec s i x)) (rS s i):=by
 obtain⟨c2,bc2,h⟩:=aw h
 obtain⟨r3,br3,h⟩:=aw h
 have p5:=fun{sc F} (r:PS sc F)=>sv (qB (k:=.i64) underlying9 bc2)<|ba (lA br3)<|r
 rcases aT h with⟨c4,h⟩|⟨c4,h⟩
 ·obtain⟨c6,bc6,h⟩:=aw h
  obtain⟨r7,br7,h⟩:=aw h
  have p9:=fun{sc F} (r:PS sc F)=>p5<|sg 6 c4<|sv (qB (k:=.i64) underlying9 bc6)<|ba (rU br7)<|r
  rcases aT h with⟨c8,h⟩|⟨c8,h⟩
  ·obtain⟨c10,bc10,h⟩:=aw h
   obtain⟨r11,br11,h⟩:=aw h
   obtain rfl:=lf h
   exact co IY (p9<|sg 13 c8<|sv (qB (k:=.i64) underlying9 bc10)<|ba (pl br11)<|eF .normal (ec s i (!r11)))<|by kernel_rfl
  ·obtain rfl:=lf h
   exact co IY (p9<|sg 13 c8<|eF .normal (ec s i false))<|by kernel_rfl
 ·obtain rfl:=lf h
  exact co IY (p5<|sg 6 c4<|eF .normal (ec s i false))<|by kernel_rfl
end
section
variable(s:ag)(i:Int)
def dp:av:=aN 29 [(0,.str s),(3,.int .i64 i)] [] []
def dq(o:Unit⊕(Unit)):Exit:=match o with
 |(.inl _)=>.ret
 |(.inr _)=>.exit 0
def cH(o:Unit⊕(Unit)):av:=match o with
 |(.inl o)=>aN 29 [(2,.bool false)] [] []
 |(.inr o)=>aN 29 [] [] []
def kG:Option (Int⊕(Unit⊕(Unit))):=
 if(decide (i<(s.length:Int)))=true then
  (lW s i).bind fun o12=>
  if o12=true then
   some (.inr (.inl ()))
  else
   some (.inl (bA (i+1)))
 else
  some (.inr (.inr ()))
def lX:Option (Unit⊕(Unit)):=loop (fun(zz:Int)=>kG s zz) i
theorem pQ{y:Int⊕(Unit⊕(Unit))}(h:kG s i=some y):aB Pg GE 0 (cA Nt 55) (LQ (fun(zz:Int)=>dp s zz) dq cH y) (dp s i):=by
 rcases aT h with⟨c1,h⟩|⟨c1,h⟩
 ·obtain⟨o12,bo12,h⟩:=aw h
  have p14:=fun{sc F} (r:PS sc F)=>cD (sA underlying9 s)<|sg 0 c1<|kK 1<|cC (ra s i bo12)<|r
  rcases aT h with⟨c13,h⟩|⟨c13,h⟩
  ·obtain rfl:=lf h
   have z:=p14<|sg 0 c13<|eF (dq (.inl ())) (cH (.inl ()))
   exact gf IY (by intro hx;cases hx) z<|by kernel_rfl
  ·obtain rfl:=lf h
   exact rY IY (p14<|sg 0 c13<|eF .normal (dp s (bA (i+1))))<|by kernel_rfl
 ·obtain rfl:=lf h
  have z:=cD (sA underlying9 s)<|sg 0 c1<|eF (dq (.inr ())) (cH (.inr ()))
  exact gf IY (by intro hx;cases hx) z<|by kernel_rfl
theorem jQ{x:Unit⊕(Unit)}(h:lX s i=some x):aB Pg GE 0 (.loop (cA Nt 55)) (EX (dq x) (cH x)) (dp s i):=
 aB.loop (S:=fun(zz:Int)=>dp s zz) (ex:=dq) (s:=i) h fun zz y hy=>pQ s zz hy
end
def kh(s:ag):Option Bool:=
 (lX s 0).bind fun o15=>match o15 with
 |(.inl o15)=>
  some false
 |(.inr o15)=>
  some true
theorem lY{s:ag}{r:Bool}(h:kh s=some r):CC Pg GE 161 [.str s] (.bool r) []:=by
 obtain⟨o15,bo15,h⟩:=aw h
 rcases o15 with o15|o15
 ·obtain rfl:=lf h
  have z:=cC (e:=.ret) (s1:=cH (.inl o15)) (jQ s 0 bo15)<|en (aI (rP (.bool false))<|trivial)
  exact b7 IY call161 func161 (c:=Nt) rfl (aI trivial trivial) z<|by kernel_rfl
 ·obtain rfl:=lf h
  have z:=cC (e:=.exit 0) (s1:=cH (.inr o15)) (jQ s 0 bo15)<|en (aI (rP (.bool true))<|trivial)
  exact b7 IY call161 func161 (c:=Nt) rfl (aI trivial trivial) z<|by kernel_rfl
noncomputable def Ma:Code:=f159.body.getD .skip
def IX:List Nat:=[]
section
variable(s:ag)
def BO:av:=aN 31 [(0,.str s)] [] []
def jd(o:Bool):av:=aN 31 [(0,.str s),(16,.bool o)] [] []
def vF:Option Bool:=
 (qo s).bind fun r1=>
 if(!r1)=true then
  some true
 else
  (wP s 0).bind fun c3=>
  (rb c3).bind fun r4=>
  if(!r4)=true then
   some true
  else
   (kh s).bind fun r7=>
   some (!r7)
theorem Af{x:Bool}(h:vF s=some x):aB Pg GE 0 (cA Ma 12) (EX .normal (jd s x)) (BO s):=by
 obtain⟨r1,br1,h⟩:=aw h
 rcases aT h with⟨c2,h⟩|⟨c2,h⟩
 ·obtain rfl:=lf h
  exact co IX (ba (gd br1)<|sg 4 c2<|eF .normal (jd s true))<|by kernel_rfl
 ·obtain⟨c3,bc3,h⟩:=aw h
  obtain⟨r4,br4,h⟩:=aw h
  have p6:=fun{sc F} (r:PS sc F)=>ba (gd br1)<|sg 4 c2<|sv (qB (k:=.i64) underlying9 bc3)<|ba (rU br4)<|r
  rcases aT h with⟨c5,h⟩|⟨c5,h⟩
  ·obtain rfl:=lf h
   exact co IX (p6<|sg 10 c5<|eF .normal (jd s true))<|by kernel_rfl
  ·obtain⟨r7,br7,h⟩:=aw h
   obtain rfl:=lf h
   exact co IX (p6<|sg 10 c5<|ba (lY br7)<|eF .normal (jd s (!r7)))<|by kernel_rfl
end
def CB(s:ag):Option Bool:=
 (vF s).bind fun o8=>
 if o8=true then
  some false
 else
  if (!(s == ([73,110,116]:ag))) = true then
   if(!(s==([66,111,111,108]:ag)))=true then
    if(!(s==([67,101,108,108]:ag)))=true then
     some (!(s==([70,117,110]:ag)))
    else
     some false
   else
    some false
  else
   some false
theorem E3{s:ag}{r:Bool}(h:CB s=some r):CC Pg GE 159 [.str s] (.bool r) []:=by
 obtain⟨o8,bo8,h⟩:=aw h
 have p10:=fun{sc F} (r:PS sc F)=>kK 2<|cC (Af s bo8)<|r
 rcases aT h with⟨c9,h⟩|⟨c9,h⟩
 ·obtain rfl:=lf h
  have z:=p10<|sg 0 c9<|en (aI (rP (.bool false))<|trivial)
  exact b7 IX call159 func159 (c:=Ma) rfl (aI trivial trivial) z<|by kernel_rfl
 ·have p12:=fun{sc F} (r:PS sc F)=>p10<|sg 0 c9<|r
  rcases aT h with⟨c11,h⟩|⟨c11,h⟩
  ·have p14:=fun{sc F} (r:PS sc F)=>p12<|sg 3 c11<|r
   rcases aT h with⟨c13,h⟩|⟨c13,h⟩
   ·have p16:=fun{sc F} (r:PS sc F)=>p14<|sg 7 c13<|r
    rcases aT h with⟨c15,h⟩|⟨c15,h⟩
    ·obtain rfl:=lf h
     have z:=p16<|sg 11 c15<|en (aI (rP (.bool (!(s==([70,117,110]:ag)))))<|trivial)
     exact b7 IX call159 func159 (c:=Ma) rfl (aI trivial trivial) z<|by kernel_rfl
    ·obtain rfl:=lf h
     have z:=p16<|sg 11 c15<|en (aI (rP (.bool false))<|trivial)
     exact b7 IX call159 func159 (c:=Ma) rfl (aI trivial trivial) z<|by kernel_rfl
   ·obtain rfl:=lf h
    have z:=p14<|sg 7 c13<|en (aI (rP (.bool false))<|trivial)
    exact b7 IX call159 func159 (c:=Ma) rfl (aI trivial trivial) z<|by kernel_rfl
  ·obtain rfl:=lf h
   have z:=p12<|sg 3 c11<|en (aI (rP (.bool false))<|trivial)
   exact b7 IX call159 func159 (c:=Ma) rfl (aI trivial trivial) z<|by kernel_rfl
noncomputable def Nu:Code:=f162.body.getD .skip
def HF:List Nat:=[]
section
variable(s:ag)(i:Int)
def Dl:av:=aN 32 [(0,.str s),(3,.int .i64 i)] [] []
def gR(o:Bool):av:=aN 32 [(0,.str s),(3,.int .i64 i),(31,.bool o)] [] []
def xE:Option Bool:=
 (wP s i).bind fun c2=>
 (nh c2).bind fun r3=>
 if (!r3) = true then
  if(i==0)=true then
   some true
  else
   (wP s i).bind fun c8=>
   (qm c8).bind fun r9=>
   if(!r9)=true then
    (wP s i).bind fun c12=>
    some (c12 !=95)
   else
    some false
 else
  some false
theorem BP{x:Bool}(h:xE s i=some x):aB Pg GE 0 (cA Nu 890) (EX .normal (gR s i x)) (Dl s i):=by
 obtain⟨c2,bc2,h⟩:=aw h
 obtain⟨r3,br3,h⟩:=aw h
 have p5:=fun{sc F} (r:PS sc F)=>sv (qB (k:=.i64) underlying9 bc2)<|ba (lA br3)<|r
 rcases aT h with⟨c4,h⟩|⟨c4,h⟩
 ·have p7:=fun{sc F} (r:PS sc F)=>p5<|sg 6 c4<|r
  rcases aT h with⟨c6,h⟩|⟨c6,h⟩
  ·obtain rfl:=lf h
   exact co HF (p7<|sg 9 c6<|eF .normal (gR s i true))<|by kernel_rfl
  ·obtain⟨c8,bc8,h⟩:=aw h
   obtain⟨r9,br9,h⟩:=aw h
   have p11:=fun{sc F} (r:PS sc F)=>p7<|sg 9 c6<|sv (qB (k:=.i64) underlying9 bc8)<|ba (pl br9)<|r
   rcases aT h with⟨c10,h⟩|⟨c10,h⟩
   ·obtain⟨c12,bc12,h⟩:=aw h
    obtain rfl:=lf h
    exact co HF (p11<|sg 15 c10<|sv (qB (k:=.i64) underlying9 bc12)<|eF .normal (gR s i (c12 !=95)))<|by kernel_rfl
   ·obtain rfl:=lf h
    exact co HF (p11<|sg 15 c10<|eF .normal (gR s i false))<|by kernel_rfl
 ·obtain rfl:=lf h
  exact co HF (p5<|sg 6 c4<|eF .normal (gR s i false))<|by kernel_rfl
end
section
variable(s:ag)(i:Int)
def gS:av:=aN 32 [(0,.str s),(3,.int .i64 i)] [] []
def gT(o:Unit⊕(Unit)):Exit:=match o with
 |(.inl _)=>.ret
 |(.inr _)=>.exit 0
def fk(o:Unit⊕(Unit)):av:=match o with
 |(.inl o)=>aN 32 [(2,.bool false)] [] []
 |(.inr o)=>aN 32 [] [] []
def tZ:Option (Int⊕(Unit⊕(Unit))):=
 if(decide (i<(s.length:Int)))=true then
  (xE s i).bind fun o13=>
  if o13=true then
   some (.inr (.inl ()))
  else
   some (.inl (bA (i+1)))
 else
  some (.inr (.inr ()))
def xF:Option (Unit⊕(Unit)):=loop (fun(zz:Int)=>tZ s zz) i
theorem Ag{y:Int⊕(Unit⊕(Unit))}(h:tZ s i=some y):aB Pg GE 0 (cA Nu 55) (LQ (fun(zz:Int)=>gS s zz) gT fk y) (gS s i):=by
 rcases aT h with⟨c1,h⟩|⟨c1,h⟩
 ·obtain⟨o13,bo13,h⟩:=aw h
  have p15:=fun{sc F} (r:PS sc F)=>cD (sA underlying9 s)<|sg 0 c1<|kK 1<|cC (BP s i bo13)<|r
  rcases aT h with⟨c14,h⟩|⟨c14,h⟩
  ·obtain rfl:=lf h
   have z:=p15<|sg 0 c14<|eF (gT (.inl ())) (fk (.inl ()))
   exact gf HF (by intro hx;cases hx) z<|by kernel_rfl
  ·obtain rfl:=lf h
   exact rY HF (p15<|sg 0 c14<|eF .normal (gS s (bA (i+1))))<|by kernel_rfl
 ·obtain rfl:=lf h
  have z:=cD (sA underlying9 s)<|sg 0 c1<|eF (gT (.inr ())) (fk (.inr ()))
  exact gf HF (by intro hx;cases hx) z<|by kernel_rfl
theorem rX{x:Unit⊕(Unit)}(h:xF s i=some x):aB Pg GE 0 (.loop (cA Nu 55)) (EX (gT x) (fk x)) (gS s i):=
 aB.loop (S:=fun(zz:Int)=>gS s zz) (ex:=gT) (s:=i) h fun zz y hy=>Ag s zz hy
end
def E4(s:ag):Option Bool:=
 (xF s 0).bind fun o16=>match o16 with
 |(.inl o16)=>
  some false
 |(.inr o16)=>
  some true
theorem GA{s:ag}{r:Bool}(h:E4 s=some r):CC Pg GE 162 [.str s] (.bool r) []:=by
 obtain⟨o16,bo16,h⟩:=aw h
 rcases o16 with o16|o16
 ·obtain rfl:=lf h
  have z:=cC (e:=.ret) (s1:=fk (.inl o16)) (rX s 0 bo16)<|en (aI (rP (.bool false))<|trivial)
  exact b7 HF call162 func162 (c:=Nu) rfl (aI trivial trivial) z<|by kernel_rfl
 ·obtain rfl:=lf h
  have z:=cC (e:=.exit 0) (s1:=fk (.inr o16)) (rX s 0 bo16)<|en (aI (rP (.bool true))<|trivial)
  exact b7 HF call162 func162 (c:=Nu) rfl (aI trivial trivial) z<|by kernel_rfl
noncomputable def Jh:Code:=f134.body.getD .skip
def zn:List Nat:=[]
section
variable(first:ag)(rest:ag)(more:Bool)
def Dh:av:=aN 52 [(3,.str first),(4,.str rest),(5,.bool more)] [] []
def gM(o:Bool):av:=aN 52 [(4,.str rest),(5,.bool more),(31,.bool o)] [] []
def xv:Option Bool:=
 (yW first).bind fun r3=>
 if (!r3) = true then
  (CB first).bind fun r5=>
  if(!r5)=true then
   if(!(first==([118]:ag)))=true then
    some true
   else
    some (!more)
  else
   some false
 else
  some false
theorem BH{x:Bool}(h:xv first more=some x):aB Pg GE 0 (cA Jh 60) (EX .normal (gM rest more x)) (Dh first rest more):=by
 obtain⟨r3,br3,h⟩:=aw h
 rcases aT h with⟨c4,h⟩|⟨c4,h⟩
 ·obtain⟨r5,br5,h⟩:=aw h
  have p7:=fun{sc F} (r:PS sc F)=>ba (rf br3)<|sg 4 c4<|ba (E3 br5)<|r
  rcases aT h with⟨c6,h⟩|⟨c6,h⟩
  ·have p9:=fun{sc F} (r:PS sc F)=>p7<|sg 9 c6<|r
   rcases aT h with⟨c8,h⟩|⟨c8,h⟩
   ·obtain rfl:=lf h
    exact co zn (p9<|sg 12 c8<|eF .normal (gM rest more true))<|by kernel_rfl
   ·obtain rfl:=lf h
    exact co zn (p9<|sg 12 c8<|eF .normal (gM rest more (!more)))<|by kernel_rfl
  ·obtain rfl:=lf h
   exact co zn (p7<|sg 9 c6<|eF .normal (gM rest more false))<|by kernel_rfl
 ·obtain rfl:=lf h
  exact co zn (ba (rf br3)<|sg 4 c4<|eF .normal (gM rest more false))<|by kernel_rfl
end
section
variable(rest:ag)(more:Bool)(part:ag)
def Di:av:=aN 52 [(4,.str rest),(5,.bool more),(6,.str part)] [] []
def j8(o:Bool):av:=aN 52 [(4,.str rest),(5,.bool more),(51,.bool o)] [] []
def xw:Option Bool:=
 (qo part).bind fun r15=>
 if(!r15)=true then
  some true
 else
  (kh part).bind fun r17=>
  if(!r17)=true then
   (E4 part).bind fun r20=>
   some (!r20)
  else
   some false
theorem BI{x:Bool}(h:xw part=some x):aB Pg GE 0 (cA Jh 8062) (EX .normal (j8 rest more x)) (Di rest more part):=by
 obtain⟨r15,br15,h⟩:=aw h
 rcases aT h with⟨c16,h⟩|⟨c16,h⟩
 ·obtain rfl:=lf h
  exact co zn (ba (gd br15)<|sg 4 c16<|eF .normal (j8 rest more true))<|by kernel_rfl
 ·obtain⟨r17,br17,h⟩:=aw h
  have p19:=fun{sc F} (r:PS sc F)=>ba (gd br15)<|sg 4 c16<|ba (lY br17)<|r
  rcases aT h with⟨c18,h⟩|⟨c18,h⟩
  ·obtain⟨r20,br20,h⟩:=aw h
   obtain rfl:=lf h
   exact co zn (p19<|sg 8 c18<|ba (GA br20)<|eF .normal (j8 rest more (!r20)))<|by kernel_rfl
  ·obtain rfl:=lf h
   exact co zn (p19<|sg 8 c18<|eF .normal (j8 rest more false))<|by kernel_rfl
end
section
variable(rest:ag)(more:Bool)
def gN:av:=aN 52 [(4,.str rest),(5,.bool more)] [] []
def gO(o:Unit⊕(Unit)):Exit:=match o with
 |(.inl _)=>.ret
 |(.inr _)=>.exit 0
def fi(o:Unit⊕(Unit)):av:=match o with
 |(.inl o)=>aN 52 [(2,.int .i64 3)] [] []
 |(.inr o)=>aN 52 [] [] []
def tW:Option ((ag×Bool)⊕(Unit⊕(Unit))):=
 if more=true then
  (BK rest).bind fun r14=>
  (xw r14.1).bind fun o21=>
  if o21=true then
   some (.inr (.inl ()))
  else
   some (.inl (r14.2.1,r14.2.2))
 else
  some (.inr (.inr ()))
def xx:Option (Unit⊕(Unit)):=loop (fun(zz:ag×Bool)=>tW zz.1 zz.2) (rest,more)
theorem zZ{y:(ag×Bool)⊕(Unit⊕(Unit))}(h:tW rest more=some y):aB Pg GE 0 (cA Jh 251) (LQ (fun(zz:ag×Bool)=>gN zz.1 zz.2) gO fi y) (gN rest more):=by
 rcases aT h with⟨c13,h⟩|⟨c13,h⟩
 ·obtain⟨r14,br14,h⟩:=aw h
  obtain⟨o21,bo21,h⟩:=aw h
  have p23:=fun{sc F} (r:PS sc F)=>sg 0 c13<|ba (Ac br14)<|kK 0<|cC (BI r14.2.1 r14.2.2 r14.1 bo21)<|r
  rcases aT h with⟨c22,h⟩|⟨c22,h⟩
  ·obtain rfl:=lf h
   have z:=p23<|sg 0 c22<|eF (gO (.inl ())) (fi (.inl ()))
   exact gf zn (by intro hx;cases hx) z<|by kernel_rfl
  ·obtain rfl:=lf h
   exact rY zn (p23<|sg 0 c22<|eF .normal (gN r14.2.1 r14.2.2))<|by kernel_rfl
 ·obtain rfl:=lf h
  have z:=sg 0 c13<|eF (gO (.inr ())) (fi (.inr ()))
  exact gf zn (by intro hx;cases hx) z<|by kernel_rfl
theorem rQ{x:Unit⊕(Unit)}(h:xx rest more=some x):aB Pg GE 0 (.loop (cA Jh 251)) (EX (gO x) (fi x)) (gN rest more):=
 aB.loop (S:=fun(zz:ag×Bool)=>gN zz.1 zz.2) (ex:=gO) (s:=(rest,more)) h fun zz y hy=>zZ zz.1 zz.2 hy
end
def yS(s:ag):Option Int:=
 if(decide ((s.length:Int)>120))=true then
  some 3
 else
  (BK s).bind fun r2=>
  (xv r2.1 r2.2.2).bind fun o10=>
  if o10=true then
   some 3
  else
   (xx r2.2.1 r2.2.2).bind fun o24=>match o24 with
   |(.inl o24)=>
    some 3
   |(.inr o24)=>
    some 0
theorem xy{s:ag}{r:Int}(h:yS s=some r):CC Pg GE 134 [.str s] (.int .i64 r) []:=by
 rcases aT h with⟨c1,h⟩|⟨c1,h⟩
 ·obtain rfl:=lf h
  have z:=cD (sA underlying9 s)<|sg 0 c1<|en (aI (rP (.int .i64 3))<|trivial)
  exact b7 zn call134 func134 (c:=Jh) rfl (aI trivial trivial) z<|by kernel_rfl
 ·obtain⟨r2,br2,h⟩:=aw h
  obtain⟨o10,bo10,h⟩:=aw h
  have p12:=fun{sc F} (r:PS sc F)=>cD (sA underlying9 s)<|sg 0 c1<|ba (Ac br2)<|kK 1<|cC (BH r2.1 r2.2.1 r2.2.2 bo10)<|r
  rcases aT h with⟨c11,h⟩|⟨c11,h⟩
  ·obtain rfl:=lf h
   have z:=p12<|sg 0 c11<|en (aI (rP (.int .i64 3))<|trivial)
   exact b7 zn call134 func134 (c:=Jh) rfl (aI trivial trivial) z<|by kernel_rfl
  ·obtain⟨o24,bo24,h⟩:=aw h
   rcases o24 with o24|o24
   ·obtain rfl:=lf h
    have z:=p12<|sg 0 c11<|cC (e:=.ret) (s1:=fi (.inl o24)) (rQ r2.2.1 r2.2.2 bo24)<|en (aI (rP (.int .i64 3))<|trivial)
    exact b7 zn call134 func134 (c:=Jh) rfl (aI trivial trivial) z<|by kernel_rfl
   ·obtain rfl:=lf h
    have z:=p12<|sg 0 c11<|cC (e:=.exit 0) (s1:=fi (.inr o24)) (rQ r2.2.1 r2.2.2 bo24)<|en (aI (rP (.int .i64 0))<|trivial)
    exact b7 zn call134 func134 (c:=Jh) rfl (aI trivial trivial) z<|by kernel_rfl
noncomputable def Df:Code:=f113.body.getD .skip
def kc:List Nat:=[68,100]
section
variable(t:ae)
def DH:av:=aN 102 [(1,.eptr (af t))] [.dead] []
def nG(o:Bool):av:=aN 102 [(1,.eptr (af t)),(3,.bool o)] [.dead] []
def xX:Option Bool:=
 if(t.Op==4)=true then
  some true
 else
  some (t.Op==5)
theorem Ch{x:Bool}(h:xX t=some x):aB Pg GE 0 (cA Df 6) (EX .normal (nG t x)) (DH t):=by
 have p2:=fun{sc F} (r:PS sc F)=>sv (aG t)<|sv (aJ t)<|r
 rcases aT h with⟨c1,h⟩|⟨c1,h⟩
 ·obtain rfl:=lf h
  exact co kc (p2<|sg 4 c1<|eF .normal (nG t true))<|by kernel_rfl
 ·obtain rfl:=lf h
  exact co kc (p2<|sg 4 c1<|sv (aG t)<|sv (aJ t)<|eF .normal (nG t (t.Op==5)))<|by kernel_rfl
end
section
variable(t:ae)(named:Bool)
def DI:av:=aN 102 [(1,.eptr (af t)),(3,.bool named)] [.dead] []
def nH(o:Bool):av:=aN 102 [(1,.eptr (af t)),(3,.bool named),(4,.bool o)] [.dead] []
def xY:Option Bool:=
 if(t.Op==4)=true then
  some true
 else
  some (t.Op==6)
theorem Ci{x:Bool}(h:xY t=some x):aB Pg GE 0 (cA Df 14) (EX .normal (nH t named x)) (DI t named):=by
 have p5:=fun{sc F} (r:PS sc F)=>sv (aG t)<|sv (aJ t)<|r
 rcases aT h with⟨c4,h⟩|⟨c4,h⟩
 ·obtain rfl:=lf h
  exact co kc (p5<|sg 4 c4<|eF .normal (nH t named true))<|by kernel_rfl
 ·obtain rfl:=lf h
  exact co kc (p5<|sg 4 c4<|sv (aG t)<|sv (aJ t)<|eF .normal (nH t named (t.Op==6)))<|by kernel_rfl
end
section
variable(t:ae)(named:Bool)(compound:Bool)
def DJ:av:=aN 102 [(1,.eptr (af t)),(3,.bool named),(4,.bool compound)] [.dead] []
def bZ(o:Bool):av:=aN 102 [(1,.eptr (af t)),(3,.bool named),(63,.bool o)] [.dead] []
def xZ:Option Bool:=
 if(decide (t.Op<1))=true then
  some true
 else
  if(decide (t.Op>6))=true then
   some true
  else
   if (!(t.Name == ([]:ag))) = true then
    if(!named)=true then
     some true
    else
     if (decide ((t.Args.length:Int) > 0)) = true then
      if(!compound)=true then
       some true
      else
       if(decide ((t.Names.length:Int)>0))=true then
        some (t.Op !=6)
       else
        some false
     else
      if(decide ((t.Names.length:Int)>0))=true then
       some (t.Op !=6)
      else
       some false
   else
    if (decide ((t.Args.length:Int) > 0)) = true then
     if(!compound)=true then
      some true
     else
      if(decide ((t.Names.length:Int)>0))=true then
       some (t.Op !=6)
      else
       some false
    else
     if(decide ((t.Names.length:Int)>0))=true then
      some (t.Op !=6)
     else
      some false
theorem Cj{x:Bool}(h:xZ t named compound=some x):aB Pg GE 0 (cA Df 60) (EX .normal (bZ t named x)) (DJ t named compound):=by
 have p8:=fun{sc F} (r:PS sc F)=>sv (aG t)<|sv (aJ t)<|r
 rcases aT h with⟨c7,h⟩|⟨c7,h⟩
 ·obtain rfl:=lf h
  exact co kc (p8<|sg 4 c7<|eF .normal (bZ t named true))<|by kernel_rfl
 ·have p10:=fun{sc F} (r:PS sc F)=>p8<|sg 4 c7<|sv (aG t)<|sv (aJ t)<|r
  rcases aT h with⟨c9,h⟩|⟨c9,h⟩
  ·obtain rfl:=lf h
   exact co kc (p10<|sg 9 c9<|eF .normal (bZ t named true))<|by kernel_rfl
  ·have p12:=fun{sc F} (r:PS sc F)=>p10<|sg 9 c9<|sv (dc t)<|sv (dC t)<|r
   rcases aT h with⟨c11,h⟩|⟨c11,h⟩
   ·have p14:=fun{sc F} (r:PS sc F)=>p12<|sg 13 c11<|r
    rcases aT h with⟨c13,h⟩|⟨c13,h⟩
    ·obtain rfl:=lf h
     exact co kc (p14<|sg 18 c13<|eF .normal (bZ t named true))<|by kernel_rfl
    ·have p16:=fun{sc F} (r:PS sc F)=>p14<|sg 18 c13<|sv (aK t)<|sv (aL t)<|cD (d5.ln t.Args)<|r
     rcases aT h with⟨c15,h⟩|⟨c15,h⟩
     ·have p18:=fun{sc F} (r:PS sc F)=>p16<|sg 23 c15<|r
      rcases aT h with⟨c17,h⟩|⟨c17,h⟩
      ·obtain rfl:=lf h
       exact co kc (p18<|sg 28 c17<|eF .normal (bZ t named true))<|by kernel_rfl
      ·have p20:=fun{sc F} (r:PS sc F)=>p18<|sg 28 c17<|sv (aC t)<|sv (aD t)<|cD (aW.ln t.Names)<|r
       rcases aT h with⟨c19,h⟩|⟨c19,h⟩
       ·obtain rfl:=lf h
        exact co kc (p20<|sg 33 c19<|sv (aG t)<|sv (aJ t)<|eF .normal (bZ t named (t.Op !=6)))<|by kernel_rfl
       ·obtain rfl:=lf h
        exact co kc (p20<|sg 33 c19<|eF .normal (bZ t named false))<|by kernel_rfl
     ·have p22:=fun{sc F} (r:PS sc F)=>p16<|sg 23 c15<|sv (aC t)<|sv (aD t)<|cD (aW.ln t.Names)<|r
      rcases aT h with⟨c21,h⟩|⟨c21,h⟩
      ·obtain rfl:=lf h
       exact co kc (p22<|sg 33 c21<|sv (aG t)<|sv (aJ t)<|eF .normal (bZ t named (t.Op !=6)))<|by kernel_rfl
      ·obtain rfl:=lf h
       exact co kc (p22<|sg 33 c21<|eF .normal (bZ t named false))<|by kernel_rfl
   ·have p24:=fun{sc F} (r:PS sc F)=>p12<|sg 13 c11<|sv (aK t)<|sv (aL t)<|cD (d5.ln t.Args)<|r
    rcases aT h with⟨c23,h⟩|⟨c23,h⟩
    ·have p26:=fun{sc F} (r:PS sc F)=>p24<|sg 23 c23<|r
     rcases aT h with⟨c25,h⟩|⟨c25,h⟩
     ·obtain rfl:=lf h
      exact co kc (p26<|sg 28 c25<|eF .normal (bZ t named true))<|by kernel_rfl
     ·have p28:=fun{sc F} (r:PS sc F)=>p26<|sg 28 c25<|sv (aC t)<|sv (aD t)<|cD (aW.ln t.Names)<|r
      rcases aT h with⟨c27,h⟩|⟨c27,h⟩
      ·obtain rfl:=lf h
       exact co kc (p28<|sg 33 c27<|sv (aG t)<|sv (aJ t)<|eF .normal (bZ t named (t.Op !=6)))<|by kernel_rfl
      ·obtain rfl:=lf h
       exact co kc (p28<|sg 33 c27<|eF .normal (bZ t named false))<|by kernel_rfl
    ·have p30:=fun{sc F} (r:PS sc F)=>p24<|sg 23 c23<|sv (aC t)<|sv (aD t)<|cD (aW.ln t.Names)<|r
     rcases aT h with⟨c29,h⟩|⟨c29,h⟩
     ·obtain rfl:=lf h
      exact co kc (p30<|sg 33 c29<|sv (aG t)<|sv (aJ t)<|eF .normal (bZ t named (t.Op !=6)))<|by kernel_rfl
     ·obtain rfl:=lf h
      exact co kc (p30<|sg 33 c29<|eF .normal (bZ t named false))<|by kernel_rfl
end
section
variable(t:ae)
def DL:av:=aN 102 [(1,.eptr (af t))] [.dead] []
def nI(o:Bool):av:=aN 102 [(1,.eptr (af t)),(6,.bool o)] [.dead] []
def yb:Option Bool:=
 (wP t.Name 0).bind fun c41=>
 if(decide (c41>=65))=true then
  (wP t.Name 0).bind fun c44=>
  some (decide (c44<=90))
 else
  some false
theorem Ck{x:Bool}(h:yb t=some x):aB Pg GE 0 (cA Df 2026) (EX .normal (nI t x)) (DL t):=by
 obtain⟨c41,bc41,h⟩:=aw h
 have p43:=fun{sc F} (r:PS sc F)=>sv (dc t)<|sv (dC t)<|sv (qB (k:=.i64) underlying9 bc41)<|r
 rcases aT h with⟨c42,h⟩|⟨c42,h⟩
 ·obtain⟨c44,bc44,h⟩:=aw h
  obtain rfl:=lf h
  exact co kc (p43<|sg 5 c42<|sv (dc t)<|sv (dC t)<|sv (qB (k:=.i64) underlying9 bc44)<|eF .normal (nI t (decide (c44<=90))))<|by kernel_rfl
 ·obtain rfl:=lf h
  exact co kc (p43<|sg 5 c42<|eF .normal (nI t false))<|by kernel_rfl
end
section
variable(t:ae)(named:Bool)
def DK:av:=aN 102 [(1,.eptr (af t)),(3,.bool named)] [.dead] []
def hZ(o:Unit⊕(Unit)):Exit:=match o with
 |(.inl _)=>.ret
 |(.inr _)=>.normal
def dM(o:Unit⊕(Unit)):av:=match o with
 |(.inl o)=>aN 102 [(2,.int .i64 3)] [.dead] []
 |(.inr o)=>aN 102 [(1,.eptr (af t))] [.dead] []
def ya:Option (Unit⊕(Unit)):=
 if named=true then
  (yS t.Name).bind fun r38=>
  if(r38 !=0)=true then
   some (.inl ())
  else
   (yb t).bind fun o45=>
   if(!(o45==(t.Op==4)))=true then
    some (.inl ())
   else
    some (.inr ())
 else
  some (.inr ())
theorem mG{x:Unit⊕(Unit)}(h:ya t named=some x):aB Pg GE 0 (cA Df 126) (EX (hZ x) (dM t x)) (DK t named):=by
 rcases aT h with⟨c37,h⟩|⟨c37,h⟩
 ·obtain⟨r38,br38,h⟩:=aw h
  have p40:=fun{sc F} (r:PS sc F)=>sg 0 c37<|sv (dc t)<|sv (dC t)<|ba (xy br38)<|r
  rcases aT h with⟨c39,h⟩|⟨c39,h⟩
  ·obtain rfl:=lf h
   exact co kc (p40<|sg 0 c39<|eF (hZ (.inl ())) (dM t (.inl ())))<|by kernel_rfl
  ·obtain⟨o45,bo45,h⟩:=aw h
   have p47:=fun{sc F} (r:PS sc F)=>p40<|sg 0 c39<|kK 0<|cC (Ck t bo45)<|sv (aG t)<|sv (aJ t)<|r
   rcases aT h with⟨c46,h⟩|⟨c46,h⟩
   ·obtain rfl:=lf h
    exact co kc (p47<|sg 0 c46<|eF (hZ (.inl ())) (dM t (.inl ())))<|by kernel_rfl
   ·obtain rfl:=lf h
    exact co kc (p47<|sg 0 c46<|eF (hZ (.inr ())) (dM t (.inr ())))<|by kernel_rfl
 ·obtain rfl:=lf h
  exact co kc (sg 0 c37<|eF (hZ (.inr ())) (dM t (.inr ())))<|by kernel_rfl
end
section
variable(R46:nX)(t90:waC)(t91:Int)(t92:Int)
def h9:av:=aN 102 [(90,sl af t90),(91,.int .i64 t91),(92,.int .i64 t92)] [.dead] []
def ib(o:Int⊕(Unit)):Exit:=match o with
 |(.inl _)=>.ret
 |(.inr _)=>.exit 0
def fm(o:Int⊕(Unit)):av:=match o with
 |(.inl o)=>aN 102 [(2,.int .i64 o)] [.dead] []
 |(.inr o)=>aN 102 [] [.dead] []
def ur:Option (Int⊕(Int⊕(Unit))):=
 if(decide (t92<t91))=true then
  (dv t90 t92).bind fun x50=>
  (R46 x50).bind fun r51=>
  if(r51 !=0)=true then
   some (.inr (.inl r51))
  else
   some (.inl (bA (t92+1)))
 else
  some (.inr (.inr ()))
def yc:Option (Int⊕(Unit)):=loop (fun(zz:Int)=>ur R46 t90 t91 zz) t92
theorem Ba(hR46:sL R46){y:Int⊕(Int⊕(Unit))}(h:ur R46 t90 t91 t92=some y):aB Pg GE 0 (cA Df 2039) (LQ (fun(zz:Int)=>h9 t90 t91 zz) ib fm y) (h9 t90 t91 t92):=by
 rcases aT h with⟨c49,h⟩|⟨c49,h⟩
 ·obtain⟨x50,bx50,h⟩:=aw h
  obtain⟨r51,br51,h⟩:=aw h
  have p53:=fun{sc F} (r:PS sc F)=>sg 0 c49<|sv (d5.ia (k:=.i64) bx50)<|sv (bh x50)<|sx jh<|sx (db x50)<|sv (bz x50 [])<|ba (hR46 _ _ br51)<|r
  rcases aT h with⟨c52,h⟩|⟨c52,h⟩
  ·obtain rfl:=lf h
   have z:=p53<|sg 0 c52<|pg 0 (ib (.inl r51)) (fm (.inl r51)) rfl (cF (aI trivial trivial)) (aI trivial trivial)
   exact tE (A:=kc) mixed (by intro hx;cases hx) z<|by kernel_rfl
  ·obtain rfl:=lf h
   have z:=p53<|sg 0 c52<|pg 0 .normal (h9 t90 t91 (bA (t92+1))) rfl (cF (aI (up (am al t90)) (aI trivial (aI trivial trivial)))) (aI trivial trivial)
   exact cz (A:=kc) mixed z<|by kernel_rfl
 ·obtain rfl:=lf h
  have z:=sg 0 c49<|eF (ib (.inr ())) (fm (.inr ()))
  exact gf kc (by intro hx;cases hx) z<|by kernel_rfl
theorem sF(hR46:sL R46){x:Int⊕(Unit)}(h:yc R46 t90 t91 t92=some x):aB Pg GE 0 (.loop (cA Df 2039)) (EX (ib x) (fm x)) (h9 t90 t91 t92):=
 aB.loop (S:=fun(zz:Int)=>h9 t90 t91 zz) (ex:=ib) (s:=t92) h fun zz y hy=>Ba R46 t90 t91 zz hR46 hy
end
def A6(R46:nX)(t:ae):Option Int:=
 (xX t).bind fun o3=>
 (xY t).bind fun o6=>
 (xZ t o3 o6).bind fun o31=>
 if o31=true then
  some 1
 else
  (CR t).bind fun r34=>
  if(r34 !=0)=true then
   some r34
  else
   (ya t o3).bind fun o48=>match o48 with
   |(.inl o48)=>
    some 3
   | (.inr o48) =>
    (yc R46 t.Args (t.Args.length:Int) 0).bind fun o54=>match o54 with
    |(.inl o54)=>
     some o54
    |(.inr o54)=>
     some 0
theorem F5(R46:nX)(hR46:sL R46){t:ae}{r:Int}(h:A6 R46 t=some r):CC Pg GE 113 [.agg (af t)] (.int .i64 r) []:=by
 obtain⟨o3,bo3,h⟩:=aw h
 obtain⟨o6,bo6,h⟩:=aw h
 obtain⟨o31,bo31,h⟩:=aw h
 have p33:=fun{sc F} (r:PS sc F)=>se (bQ t)<|kK 0<|cC (Ch t bo3)<|kK 0<|cC (Ci t o3 bo6)<|kK 1<|cC (Cj t o3 o6 bo31)<|r
 rcases aT h with⟨c32,h⟩|⟨c32,h⟩
 ·obtain rfl:=lf h
  have z:=p33<|sg 0 c32<|en (aI (rP (.int .i64 1))<|trivial)
  exact b7 kc call113 func113 (c:=Df) rfl (aI (al t) trivial) z<|by kernel_rfl
 ·obtain⟨r34,br34,h⟩:=aw h
  have p36:=fun{sc F} (r:PS sc F)=>p33<|sg 0 c32<|sv (bh t)<|ba (F2 br34)<|r
  rcases aT h with⟨c35,h⟩|⟨c35,h⟩
  ·obtain rfl:=lf h
   have z:=p36<|sg 0 c35<|en (aI (rP (.int .i64 r34))<|trivial)
   exact b7 kc call113 func113 (c:=Df) rfl (aI (al t) trivial) z<|by kernel_rfl
  ·obtain⟨o48,bo48,h⟩:=aw h
   rcases o48 with o48|o48
   ·obtain rfl:=lf h
    have z:=p36<|sg 0 c35<|kK 0<|cC (e:=.ret) (s1:=dM t (.inl o48)) (mG t o3 bo48)<|en (aI (rP (.int .i64 3))<|trivial)
    exact b7 kc call113 func113 (c:=Df) rfl (aI (al t) trivial) z<|by kernel_rfl
   ·obtain⟨o54,bo54,h⟩:=aw h
    rcases o54 with o54|o54
    ·obtain rfl:=lf h
     have z:=p36<|sg 0 c35<|kK 0<|cC (e:=.normal) (s1:=dM t (.inr o48)) (mG t o3 bo48)<|sv (aK t)<|sv (aL t)<|cD (d5.ln t.Args)<|cC (e:=.ret) (s1:=fm (.inl o54)) (sF R46 t.Args (t.Args.length:Int) 0 hR46 bo54)<|en (aI (rP (.int .i64 o54))<|trivial)
     exact b7 kc call113 func113 (c:=Df) rfl (aI (al t) trivial) z<|by kernel_rfl
    ·obtain rfl:=lf h
     have z:=p36<|sg 0 c35<|kK 0<|cC (e:=.normal) (s1:=dM t (.inr o48)) (mG t o3 bo48)<|sv (aK t)<|sv (aL t)<|cD (d5.ln t.Args)<|cC (e:=.exit 0) (s1:=fm (.inr o54)) (sF R46 t.Args (t.Args.length:Int) 0 hR46 bo54)<|en (aI (rP (.int .i64 0))<|trivial)
     exact b7 kc call113 func113 (c:=Df) rfl (aI (al t) trivial) z<|by kernel_rfl
def A7:(ae->Option Int)->(ae)->Option Int:=fun(rec:ae->Option Int) (x:ae)=>A6 (fun t=>rec t) x
def F4(t:ae):Option Int:=nw A7 t
theorem GP{t:ae}{r:Int}(h:F4 t=some r):CC Pg GE 113 [.agg (af t)] (.int .i64 r) []:=
 cT (F:=A7) (M:=fun(x:ae) (r:Int)=>CC Pg GE 113 [.agg (af x)] (.int .i64 r) []) (fun rec hrec x r h=>F5 _ (fun t r h=>hrec t r h) h) h
noncomputable def TZ:Code:=f77.body.getD .skip
def TQ:List Nat:=[]
def CP(t:ae):Option Int:=
 (CS t).bind fun r1=>
 if(decide (r1>40))=true then
  some 8
 else
  (F4 t).bind fun r4=>
  some r4
theorem F0{t:ae}{r:Int}(h:CP t=some r):CC Pg GE 77 [.agg (af t)] (.int .i64 r) []:=by
 obtain⟨r1,br1,h⟩:=aw h
 have p3:=fun{sc F} (r:PS sc F)=>se (bQ t)<|sv (bh t)<|ba (F3 br1)<|r
 rcases aT h with⟨c2,h⟩|⟨c2,h⟩
 ·obtain rfl:=lf h
  have z:=p3<|sg 0 c2<|en (aI (rP (.int .i64 8))<|trivial)
  exact b7 TQ call77 func77 (c:=TZ) rfl (aI (al t) trivial) z<|by kernel_rfl
 ·obtain⟨r4,br4,h⟩:=aw h
  obtain rfl:=lf h
  have z:=p3<|sg 0 c2<|sv (bh t)<|ba (GP br4)<|en (aI (rP (.int .i64 r4))<|trivial)
  exact b7 TQ call77 func77 (c:=TZ) rfl (aI (al t) trivial) z<|by kernel_rfl
abbrev j2:=(ae->Option Int)
abbrev np(R:j2):Prop:=∀(t:ae) (r:Int),R t=some r->CC Pg GE 78 [.agg (af t)] (.int .i64 r) []
noncomputable def UQ:Code:=f56.body.getD .skip
def UB:List Nat:=[]
def oz(p:aa):Option Bool:=
 (sd p (⟨0,([]:ag),0,([]:List aa)⟩:aa)).bind fun r1=>
 some r1
theorem nE{p:aa}{r:Bool}(h:oz p=some r):CC Pg GE 56 [.agg (ac p)] (.bool r) []:=by
 obtain⟨r1,br1,h⟩:=aw h
 obtain rfl:=lf h
 have z:=se (bM p)<|sv (az p)<|sb (tn) (tk)<|ba (om br1)<|en (aI (rP (.bool r1))<|trivial)
 exact b7 UB call56 func56 (c:=UQ) rfl (aI (ah p) trivial) z<|by kernel_rfl
noncomputable def RL:Code:=f163.body.getD .skip
def Ro:List Nat:=[]
def CA(ok:Bool):Option Int:=
 if ok=true then
  some 0
 else
  some 3
theorem E2{ok:Bool}{r:Int}(h:CA ok=some r):CC Pg GE 163 [.bool ok] (.int .i64 r) []:=by
 rcases aT h with⟨c1,h⟩|⟨c1,h⟩
 ·obtain rfl:=lf h
  have z:=sg 0 c1<|en (aI (rP (.int .i64 0))<|trivial)
  exact b7 Ro call163 func163 (c:=RL) rfl (aI trivial trivial) z<|by kernel_rfl
 ·obtain rfl:=lf h
  have z:=sg 0 c1<|en (aI (rP (.int .i64 3))<|trivial)
  exact b7 Ro call163 func163 (c:=RL) rfl (aI trivial trivial) z<|by kernel_rfl
noncomputable def S4:Code:=f135.body.getD .skip
def SO:List Nat:=[]
def Cz(s:ag):Option Int:=
 (yW s).bind fun r1=>
 (CA r1).bind fun r2=>
 some r2
theorem E0{s:ag}{r:Int}(h:Cz s=some r):CC Pg GE 135 [.str s] (.int .i64 r) []:=by
 obtain⟨r1,br1,h⟩:=aw h
 obtain⟨r2,br2,h⟩:=aw h
 obtain rfl:=lf h
 have z:=ba (rf br1)<|ba (E2 br2)<|en (aI (rP (.int .i64 r2))<|trivial)
 exact b7 SO call135 func135 (c:=S4) rfl (aI trivial trivial) z<|by kernel_rfl
noncomputable def Pe:Code:=f136.body.getD .skip
def Nd:List Nat:=[]
section
variable(t7:waA)(t8:Int)(t9:Int)(m0:(List (ag×Bool)))
def eA:av:=aN 19 [(3,.mapr 0),(7,sl cS t7),(8,.int .i64 t8),(9,.int .i64 t9)] [.map (uz PVal.bool m0)] []
def eB(o:((List (ag×Bool)))⊕((List (ag×Bool)))):Exit:=match o with
 |(.inl _)=>.ret
 |(.inr _)=>.exit 0
def dJ(o:((List (ag×Bool)))⊕((List (ag×Bool)))):av:=match o with
 |(.inl o)=>aN 19 [(2,.bool false)] [.map (uz PVal.bool o)] []
 |(.inr o)=>aN 19 [] [.map (uz PVal.bool o)] []
def nO:Option ((Int×(List (ag×Bool)))⊕(((List (ag×Bool)))⊕((List (ag×Bool))))):=
 if(decide (t9<t8))=true then
  (dv t7 t9).bind fun x2=>
  if((tz m0 x2).getD false)=true then
   some (.inr (.inl m0))
  else
   some (.inl (bA (t9+1),wQ m0 x2 true))
 else
  some (.inr (.inr m0))
def qk:Option (((List (ag×Bool)))⊕((List (ag×Bool)))):=loop (fun(zz:Int×(List (ag×Bool)))=>nO t7 t8 zz.1 zz.2) (t9,m0)
theorem uA{y:(Int×(List (ag×Bool)))⊕(((List (ag×Bool)))⊕((List (ag×Bool))))}(h:nO t7 t8 t9 m0=some y):aB Pg GE 0 (cA Pe 119) (LQ (fun(zz:Int×(List (ag×Bool)))=>eA t7 t8 zz.1 zz.2) eB dJ y) (eA t7 t8 t9 m0):=by
 rcases aT h with⟨c1,h⟩|⟨c1,h⟩
 ·obtain⟨x2,bx2,h⟩:=aw h
  have p4:=fun{sc F} (r:PS sc F)=>sg 0 c1<|sv (aW.ia (k:=.i64) bx2)<|sv (cP xe (.str x2) [])<|sv (KQ (f:=PVal.bool) underlying121 underlying9 TL m0 x2)<|r
  rcases aT h with⟨c3,h⟩|⟨c3,h⟩
  ·obtain rfl:=lf h
   have z:=p4<|sg 0 c3<|eF (eB (.inl m0)) (dJ (.inl m0))
   exact gf Nd (by intro hx;cases hx) z<|by kernel_rfl
  ·obtain rfl:=lf h
   exact rY Nd (p4<|sg 0 c3<|Ui (N0 (f:=PVal.bool) underlying121 underlying9 m0 x2 true)<|eF .normal (eA t7 t8 (bA (t9+1)) (wQ m0 x2 true)))<|by kernel_rfl
 ·obtain rfl:=lf h
  have z:=sg 0 c1<|eF (eB (.inr m0)) (dJ (.inr m0))
  exact gf Nd (by intro hx;cases hx) z<|by kernel_rfl
theorem ng{x:((List (ag×Bool)))⊕((List (ag×Bool)))}(h:qk t7 t8 t9 m0=some x):aB Pg GE 0 (.loop (cA Pe 119)) (EX (eB x) (dJ x)) (eA t7 t8 t9 m0):=
 aB.loop (S:=fun(zz:Int×(List (ag×Bool)))=>eA t7 t8 zz.1 zz.2) (ex:=eB) (s:=(t9,m0)) h fun zz y hy=>uA t7 t8 zz.1 zz.2 hy
end
def vw(a:waA):Option Bool:=
 (qk a (a.length:Int) 0 ([]:List (ag×Bool))).bind fun o5=>match o5 with
 |(.inl o5)=>
  some false
 |(.inr o5)=>
  some true
theorem z6{a:waA}{r:Bool}(h:vw a=some r):CC Pg GE 136 [sl cS a] (.bool r) []:=by
 obtain⟨o5,bo5,h⟩:=aw h
 rcases o5 with o5|o5
 ·obtain rfl:=lf h
  have z:=cD (aW.ln a)<|cC (e:=.ret) (s1:=dJ (.inl o5)) (ng a (a.length:Int) 0 ([]:List (ag×Bool)) bo5)<|en (aI (rP (.bool false))<|trivial)
  exact b7 Nd call136 func136 (c:=Pe) rfl (aI (am dS a) trivial) z<|by kernel_rfl
 ·obtain rfl:=lf h
  have z:=cD (aW.ln a)<|cC (e:=.exit 0) (s1:=dJ (.inr o5)) (ng a (a.length:Int) 0 ([]:List (ag×Bool)) bo5)<|en (aI (rP (.bool true))<|trivial)
  exact b7 Nd call136 func136 (c:=Pe) rfl (aI (am dS a) trivial) z<|by kernel_rfl
abbrev nW:=(aa->Option Int)
abbrev sK(R:nW):Prop:=∀(p:aa) (r:Int),R p=some r->CC Pg GE 164 [.agg (ac p)] (.int .i64 r) []
noncomputable def QD:Code:=f164.body.getD .skip
def Qo:List Nat:=[18]
section
variable(R65:nW)(t7:waB)(t8:Int)(n:Int)(t9:Int)
def gW:av:=aN 19 [(3,.int .i64 n),(7,sl ac t7),(8,.int .i64 t8),(9,.int .i64 t9)] [.dead] []
def ny(o:Int):av:=aN 19 [(3,.int .i64 o)] [.dead] []
def uc:Option ((Int×Int)⊕(Int)):=
 if(decide (t9<t8))=true then
  (dv t7 t9).bind fun x2=>
  (R65 x2).bind fun r3=>
  some (.inl (bA (n+r3),bA (t9+1)))
 else
  some (.inr n)
def xJ:Option Int:=loop (fun(zz:Int×Int)=>uc R65 t7 t8 zz.1 zz.2) (n,t9)
theorem At(hR65:sK R65){y:(Int×Int)⊕(Int)}(h:uc R65 t7 t8 n t9=some y):aB Pg GE 0 (cA QD 119) (LQ (fun(zz:Int×Int)=>gW t7 t8 zz.1 zz.2) (fun _=>.exit 0) ny y) (gW t7 t8 n t9):=by
 rcases aT h with⟨c1,h⟩|⟨c1,h⟩
 ·obtain⟨x2,bx2,h⟩:=aw h
  obtain⟨r3,br3,h⟩:=aw h
  obtain rfl:=lf h
  have z:=sg 0 c1<|sv (aR.ia (k:=.i64) bx2)<|sv (az x2)<|sx eX<|sx (bv x2)<|sv (aX x2 [])<|ba (hR65 _ _ br3)<|pg 0 .normal (gW t7 t8 (bA (n+r3)) (bA (t9+1))) rfl (cF (aI trivial (aI (up (am ah t7)) (aI trivial (aI trivial trivial))))) (aI trivial trivial)
  exact cz (A:=Qo) mixed z<|by kernel_rfl
 ·obtain rfl:=lf h
  have z:=sg 0 c1<|eF (.exit 0) (ny n)
  exact gf Qo (by intro hx;cases hx) z<|by kernel_rfl
theorem BZ(hR65:sK R65){x:Int}(h:xJ R65 t7 t8 n t9=some x):aB Pg GE 0 (.loop (cA QD 119)) (EX (.exit 0) (ny x)) (gW t7 t8 n t9):=
 aB.loop (S:=fun(zz:Int×Int)=>gW t7 t8 zz.1 zz.2) (ex:=(fun _=>.exit 0)) (s:=(n,t9)) h fun zz y hy=>At R65 t7 t8 zz.1 zz.2 hR65 hy
end
def Ar(R65:nW)(p:aa):Option Int:=
 (xJ R65 p.Kids (p.Kids.length:Int) 1 0).bind fun o4=>
 some o4
theorem Fo(R65:nW)(hR65:sK R65){p:aa}{r:Int}(h:Ar R65 p=some r):CC Pg GE 164 [.agg (ac p)] (.int .i64 r) []:=by
 obtain⟨o4,bo4,h⟩:=aw h
 obtain rfl:=lf h
 have z:=se (bM p)<|sv (aF p)<|sv (aH p)<|cD (aR.ln p.Kids)<|cC (BZ R65 p.Kids (p.Kids.length:Int) 1 0 hR65 bo4)<|en (aI (rP (.int .i64 o4))<|trivial)
 exact b7 Qo call164 func164 (c:=QD) rfl (aI (ah p) trivial) z<|by kernel_rfl
def As:(aa->Option Int)->(aa)->Option Int:=fun(rec:aa->Option Int) (x:aa)=>Ar (fun p=>rec p) x
def tJ(p:aa):Option Int:=nw As p
theorem xK{p:aa}{r:Int}(h:tJ p=some r):CC Pg GE 164 [.agg (ac p)] (.int .i64 r) []:=
 cT (F:=As) (M:=fun(x:aa) (r:Int)=>CC Pg GE 164 [.agg (ac x)] (.int .i64 r) []) (fun rec hrec x r h=>Fo _ (fun p r h=>hrec p r h) h) h
abbrev nV:=(aa->Option Int)
abbrev sJ(R:nV):Prop:=∀(p:aa) (r:Int),R p=some r->CC Pg GE 165 [.agg (ac p)] (.int .i64 r) []
noncomputable def QE:Code:=f165.body.getD .skip
def Qp:List Nat:=[]
section
variable(R66:nV)(t7:waB)(t8:Int)(n:Int)(t9:Int)
def gV:av:=aN 20 [(3,.int .i64 n),(7,sl ac t7),(8,.int .i64 t8),(9,.int .i64 t9)] [.dead] []
def nx(o:Int):av:=aN 20 [(3,.int .i64 o)] [.dead] []
def ub:Option ((Int×Int)⊕(Int)):=
 if(decide (t9<t8))=true then
  (dv t7 t9).bind fun x2=>
  (R66 x2).bind fun r3=>
  some (.inl ((if r3>n then r3 else n),bA (t9+1)))
 else
  some (.inr n)
def xH:Option Int:=loop (fun(zz:Int×Int)=>ub R66 t7 t8 zz.1 zz.2) (n,t9)
theorem Ap(hR66:sJ R66){y:(Int×Int)⊕(Int)}(h:ub R66 t7 t8 n t9=some y):aB Pg GE 0 (cA QE 119) (LQ (fun(zz:Int×Int)=>gV t7 t8 zz.1 zz.2) (fun _=>.exit 0) nx y) (gV t7 t8 n t9):=by
 rcases aT h with⟨c1,h⟩|⟨c1,h⟩
 ·obtain⟨x2,bx2,h⟩:=aw h
  obtain⟨r3,br3,h⟩:=aw h
  obtain rfl:=lf h
  have z:=sg 0 c1<|sv (aR.ia (k:=.i64) bx2)<|sv (az x2)<|sx eX<|sx (bv x2)<|sv (aX x2 [])<|ba (hR66 _ _ br3)<|pg 0 .normal (gV t7 t8 (if r3>n then r3 else n) (bA (t9+1))) rfl (cF (aI trivial (aI (up (am ah t7)) (aI trivial (aI trivial trivial))))) (aI trivial trivial)
  exact cz (A:=Qp) mixed z<|by kernel_rfl
 ·obtain rfl:=lf h
  have z:=sg 0 c1<|eF (.exit 0) (nx n)
  exact gf Qp (by intro hx;cases hx) z<|by kernel_rfl
theorem BY(hR66:sJ R66){x:Int}(h:xH R66 t7 t8 n t9=some x):aB Pg GE 0 (.loop (cA QE 119)) (EX (.exit 0) (nx x)) (gV t7 t8 n t9):=
 aB.loop (S:=fun(zz:Int×Int)=>gV t7 t8 zz.1 zz.2) (ex:=(fun _=>.exit 0)) (s:=(n,t9)) h fun zz y hy=>Ap R66 t7 t8 zz.1 zz.2 hR66 hy
end
def An(R66:nV)(p:aa):Option Int:=
 (xH R66 p.Kids (p.Kids.length:Int) 0 0).bind fun o4=>
 some (bA (o4+1))
theorem Fm(R66:nV)(hR66:sJ R66){p:aa}{r:Int}(h:An R66 p=some r):CC Pg GE 165 [.agg (ac p)] (.int .i64 r) []:=by
 obtain⟨o4,bo4,h⟩:=aw h
 obtain rfl:=lf h
 have z:=se (bM p)<|sv (aF p)<|sv (aH p)<|cD (aR.ln p.Kids)<|cC (BY R66 p.Kids (p.Kids.length:Int) 0 0 hR66 bo4)<|en (aI (rP (.int .i64 (bA (o4+1))))<|trivial)
 exact b7 Qp call165 func165 (c:=QE) rfl (aI (ah p) trivial) z<|by kernel_rfl
def Ao:(aa->Option Int)->(aa)->Option Int:=fun(rec:aa->Option Int) (x:aa)=>An (fun p=>rec p) x
def tI(p:aa):Option Int:=nw Ao p
theorem xI{p:aa}{r:Int}(h:tI p=some r):CC Pg GE 165 [.agg (ac p)] (.int .i64 r) []:=
 cT (F:=Ao) (M:=fun(x:aa) (r:Int)=>CC Pg GE 165 [.agg (ac x)] (.int .i64 r) []) (fun rec hrec x r h=>Fm _ (fun p r h=>hrec p r h) h) h
noncomputable def Kn:Code:=f182.body.getD .skip
def D0:List Nat:=[]
section
variable(t4:Int)
def Fr:av:=aN 15 [(4,.int .i64 t4)] [] []
def lC(o:Bool):av:=aN 15 [(4,.int .i64 t4),(5,.bool o)] [] []
def Ax:Option Bool:=
 if(t4==1)=true then
  some (t4==1)
 else
  if(t4==2)=true then
   some (t4==2)
  else
   some (t4==3)
theorem Dq{x:Bool}(h:Ax t4=some x):aB Pg GE 0 (cA Kn 54) (EX .normal (lC t4 x)) (Fr t4):=by
 rcases aT h with⟨c1,h⟩|⟨c1,h⟩
 ·obtain rfl:=lf h
  exact co D0 (sg 0 c1<|eF .normal (lC t4 (t4==1)))<|by kernel_rfl
 ·rcases aT h with⟨c2,h⟩|⟨c2,h⟩
  ·obtain rfl:=lf h
   exact co D0 (sg 0 c1<|sg 0 c2<|eF .normal (lC t4 (t4==2)))<|by kernel_rfl
  ·obtain rfl:=lf h
   exact co D0 (sg 0 c1<|sg 0 c2<|eF .normal (lC t4 (t4==3)))<|by kernel_rfl
end
section
variable(t4:Int)
def Fs:av:=aN 15 [(4,.int .i64 t4)] [] []
def pw(o:Bool):av:=aN 15 [(4,.int .i64 t4),(9,.bool o)] [] []
def Ay:Option Bool:=
 if(t4==4)=true then
  some (t4==4)
 else
  some (t4==5)
theorem Dr{x:Bool}(h:Ay t4=some x):aB Pg GE 0 (cA Kn 222) (EX .normal (pw t4 x)) (Fs t4):=by
 rcases aT h with⟨c6,h⟩|⟨c6,h⟩
 ·obtain rfl:=lf h
  exact co D0 (sg 0 c6<|eF .normal (pw t4 (t4==4)))<|by kernel_rfl
 ·obtain rfl:=lf h
  exact co D0 (sg 0 c6<|eF .normal (pw t4 (t4==5)))<|by kernel_rfl
end
section
variable(t4:Int)
def Ft:av:=aN 15 [(4,.int .i64 t4)] [] []
def px(o:Bool):av:=aN 15 [(12,.bool o)] [] []
def Az:Option Bool:=
 if(t4==9)=true then
  some (t4==9)
 else
  some (t4==14)
theorem Ds{x:Bool}(h:Az t4=some x):aB Pg GE 0 (cA Kn 894) (EX .normal (px x)) (Ft t4):=by
 rcases aT h with⟨c10,h⟩|⟨c10,h⟩
 ·obtain rfl:=lf h
  exact co D0 (sg 0 c10<|eF .normal (px (t4==9)))<|by kernel_rfl
 ·obtain rfl:=lf h
  exact co D0 (sg 0 c10<|eF .normal (px (t4==14)))<|by kernel_rfl
end
def Hl(op:Int):Option (Int×Int):=
 (Ax op).bind fun o3=>
 if o3=true then
  some (0,0)
 else
  (Ay op).bind fun o7=>
  if o7=true then
   some (1,24)
  else
   (Az op).bind fun o11=>
   if o11=true then
    some (1,1)
   else
    some (2,2)
theorem ID{op:Int}{r:Int×Int}(h:Hl op=some r):CC Pg GE 182 [.int .i64 op] (.tuple [.int .i64 r.1,.int .i64 r.2]) []:=by
 obtain⟨o3,bo3,h⟩:=aw h
 have p5:=fun{sc F} (r:PS sc F)=>kK 3<|cC (Dq op bo3)<|r
 rcases aT h with⟨c4,h⟩|⟨c4,h⟩
 ·obtain rfl:=lf h
  have z:=p5<|sg 0 c4<|en (aI (rP (.tuple [.int .i64 0,.int .i64 0]))<|(aI trivial (aI trivial trivial)))
  exact b7 D0 call182 func182 (c:=Kn) rfl (aI trivial trivial) z<|by kernel_rfl
 ·obtain⟨o7,bo7,h⟩:=aw h
  have p9:=fun{sc F} (r:PS sc F)=>p5<|sg 0 c4<|kK 0<|cC (Dr op bo7)<|r
  rcases aT h with⟨c8,h⟩|⟨c8,h⟩
  ·obtain rfl:=lf h
   have z:=p9<|sg 0 c8<|en (aI (rP (.tuple [.int .i64 1,.int .i64 24]))<|(aI trivial (aI trivial trivial)))
   exact b7 D0 call182 func182 (c:=Kn) rfl (aI trivial trivial) z<|by kernel_rfl
  ·obtain⟨o11,bo11,h⟩:=aw h
   have p13:=fun{sc F} (r:PS sc F)=>p9<|sg 0 c8<|kK 0<|cC (Ds op bo11)<|r
   rcases aT h with⟨c12,h⟩|⟨c12,h⟩
   ·obtain rfl:=lf h
    have z:=p13<|sg 0 c12<|en (aI (rP (.tuple [.int .i64 1,.int .i64 1]))<|(aI trivial (aI trivial trivial)))
    exact b7 D0 call182 func182 (c:=Kn) rfl (aI trivial trivial) z<|by kernel_rfl
   ·obtain rfl:=lf h
    have z:=p13<|sg 0 c12<|en (aI (rP (.tuple [.int .i64 2,.int .i64 2]))<|(aI trivial (aI trivial trivial)))
    exact b7 D0 call182 func182 (c:=Kn) rfl (aI trivial trivial) z<|by kernel_rfl
noncomputable def QF:Code:=f183.body.getD .skip
def Qr:List Nat:=[]
def y7(op:Int):Option Bool:=
 if(op==3)=true then
  some true
 else
  if(op==4)=true then
   some true
  else
   some (op==5)
theorem xM{op:Int}{r:Bool}(h:y7 op=some r):CC Pg GE 183 [.int .i64 op] (.bool r) []:=by
 rcases aT h with⟨c1,h⟩|⟨c1,h⟩
 ·obtain rfl:=lf h
  have z:=sg 3 c1<|en (aI (rP (.bool true))<|trivial)
  exact b7 Qr call183 func183 (c:=QF) rfl (aI trivial trivial) z<|by kernel_rfl
 ·rcases aT h with⟨c2,h⟩|⟨c2,h⟩
  ·obtain rfl:=lf h
   have z:=sg 3 c1<|sg 7 c2<|en (aI (rP (.bool true))<|trivial)
   exact b7 Qr call183 func183 (c:=QF) rfl (aI trivial trivial) z<|by kernel_rfl
  ·obtain rfl:=lf h
   have z:=sg 3 c1<|sg 7 c2<|en (aI (rP (.bool (op==5)))<|trivial)
   exact b7 Qr call183 func183 (c:=QF) rfl (aI trivial trivial) z<|by kernel_rfl
noncomputable def RQ:Code:=f184.body.getD .skip
def Rt:List Nat:=[]
def N6(n:Int):Option Bool:=
 if(decide (n>=(-1000000000000)))=true then
  some (decide (n<=1000000000000))
 else
  some false
theorem My{n:Int}{r:Bool}(h:N6 n=some r):CC Pg GE 184 [.int .i64 n] (.bool r) []:=by
 rcases aT h with⟨c1,h⟩|⟨c1,h⟩
 ·obtain rfl:=lf h
  have z:=sg 3 c1<|en (aI (rP (.bool (decide (n<=1000000000000))))<|trivial)
  exact b7 Rt call184 func184 (c:=RQ) rfl (aI trivial trivial) z<|by kernel_rfl
 ·obtain rfl:=lf h
  have z:=sg 3 c1<|en (aI (rP (.bool false))<|trivial)
  exact b7 Rt call184 func184 (c:=RQ) rfl (aI trivial trivial) z<|by kernel_rfl
noncomputable def yG:Code:=f166.body.getD .skip
def fo:List Nat:=[]
section
variable(p:aa)
def Fu:av:=aN 130 [(1,.eptr (ac p))] [.dead] []
def py(o:Bool):av:=aN 130 [(1,.eptr (ac p)),(14,.bool o)] [.dead] []
def AA:Option Bool:=
 if(decide (p.Op<1))=true then
  some true
 else
  some (decide (p.Op>18))
theorem Dt{x:Bool}(h:AA p=some x):aB Pg GE 0 (cA yG 12) (EX .normal (py p x)) (Fu p):=by
 have p2:=fun{sc F} (r:PS sc F)=>sv (aP p)<|sv (aQ p)<|r
 rcases aT h with⟨c1,h⟩|⟨c1,h⟩
 ·obtain rfl:=lf h
  exact co fo (p2<|sg 4 c1<|eF .normal (py p true))<|by kernel_rfl
 ·obtain rfl:=lf h
  exact co fo (p2<|sg 4 c1<|sv (aP p)<|sv (aQ p)<|eF .normal (py p (decide (p.Op>18))))<|by kernel_rfl
end
section
variable(p:aa)(least:Int)(most:Int)
def Fv:av:=aN 130 [(1,.eptr (ac p)),(3,.int .i64 least),(4,.int .i64 most)] [.dead] []
def bS(o:Bool):av:=aN 130 [(1,.eptr (ac p)),(58,.bool o)] [.dead] []
def AB:Option Bool:=
 (y7 p.Op).bind fun r7=>
 if (!r7) = true then
  if(!(p.Name==([]:ag)))=true then
   some true
  else
   if (p.Op != 1) = true then
    if (p.Op != 2) = true then
     if(p.N !=0)=true then
      some true
     else
      if(decide ((p.Kids.length:Int)<least))=true then
       some true
      else
       some (decide ((p.Kids.length:Int)>most))
    else
     if(decide ((p.Kids.length:Int)<least))=true then
      some true
     else
      some (decide ((p.Kids.length:Int)>most))
   else
    if(decide ((p.Kids.length:Int)<least))=true then
     some true
    else
     some (decide ((p.Kids.length:Int)>most))
 else
  if (p.Op != 1) = true then
   if (p.Op != 2) = true then
    if(p.N !=0)=true then
     some true
    else
     if(decide ((p.Kids.length:Int)<least))=true then
      some true
     else
      some (decide ((p.Kids.length:Int)>most))
   else
    if(decide ((p.Kids.length:Int)<least))=true then
     some true
    else
     some (decide ((p.Kids.length:Int)>most))
  else
   if(decide ((p.Kids.length:Int)<least))=true then
    some true
   else
    some (decide ((p.Kids.length:Int)>most))
theorem Du{x:Bool}(h:AB p least most=some x):aB Pg GE 0 (cA yG 60) (EX .normal (bS p x)) (Fv p least most):=by
 obtain⟨r7,br7,h⟩:=aw h
 have p9:=fun{sc F} (r:PS sc F)=>sv (aP p)<|sv (aQ p)<|ba (xM br7)<|r
 rcases aT h with⟨c8,h⟩|⟨c8,h⟩
 ·have p11:=fun{sc F} (r:PS sc F)=>p9<|sg 5 c8<|sv (bT p)<|sv (cm p)<|r
  rcases aT h with⟨c10,h⟩|⟨c10,h⟩
  ·obtain rfl:=lf h
   exact co fo (p11<|sg 10 c10<|eF .normal (bS p true))<|by kernel_rfl
  ·have p13:=fun{sc F} (r:PS sc F)=>p11<|sg 10 c10<|sv (aP p)<|sv (aQ p)<|r
   rcases aT h with⟨c12,h⟩|⟨c12,h⟩
   ·have p15:=fun{sc F} (r:PS sc F)=>p13<|sg 14 c12<|sv (aP p)<|sv (aQ p)<|r
    rcases aT h with⟨c14,h⟩|⟨c14,h⟩
    ·have p17:=fun{sc F} (r:PS sc F)=>p15<|sg 19 c14<|sv (cf p)<|sv (cp p)<|r
     rcases aT h with⟨c16,h⟩|⟨c16,h⟩
     ·obtain rfl:=lf h
      exact co fo (p17<|sg 25 c16<|eF .normal (bS p true))<|by kernel_rfl
     ·have p19:=fun{sc F} (r:PS sc F)=>p17<|sg 25 c16<|sv (aF p)<|sv (aH p)<|cD (aR.ln p.Kids)<|r
      rcases aT h with⟨c18,h⟩|⟨c18,h⟩
      ·obtain rfl:=lf h
       exact co fo (p19<|sg 32 c18<|eF .normal (bS p true))<|by kernel_rfl
      ·obtain rfl:=lf h
       exact co fo (p19<|sg 32 c18<|sv (aF p)<|sv (aH p)<|cD (aR.ln p.Kids)<|eF .normal (bS p (decide ((p.Kids.length:Int)>most))))<|by kernel_rfl
    ·have p21:=fun{sc F} (r:PS sc F)=>p15<|sg 19 c14<|sv (aF p)<|sv (aH p)<|cD (aR.ln p.Kids)<|r
     rcases aT h with⟨c20,h⟩|⟨c20,h⟩
     ·obtain rfl:=lf h
      exact co fo (p21<|sg 32 c20<|eF .normal (bS p true))<|by kernel_rfl
     ·obtain rfl:=lf h
      exact co fo (p21<|sg 32 c20<|sv (aF p)<|sv (aH p)<|cD (aR.ln p.Kids)<|eF .normal (bS p (decide ((p.Kids.length:Int)>most))))<|by kernel_rfl
   ·have p23:=fun{sc F} (r:PS sc F)=>p13<|sg 14 c12<|sv (aF p)<|sv (aH p)<|cD (aR.ln p.Kids)<|r
    rcases aT h with⟨c22,h⟩|⟨c22,h⟩
    ·obtain rfl:=lf h
     exact co fo (p23<|sg 32 c22<|eF .normal (bS p true))<|by kernel_rfl
    ·obtain rfl:=lf h
     exact co fo (p23<|sg 32 c22<|sv (aF p)<|sv (aH p)<|cD (aR.ln p.Kids)<|eF .normal (bS p (decide ((p.Kids.length:Int)>most))))<|by kernel_rfl
 ·have p25:=fun{sc F} (r:PS sc F)=>p9<|sg 5 c8<|sv (aP p)<|sv (aQ p)<|r
  rcases aT h with⟨c24,h⟩|⟨c24,h⟩
  ·have p27:=fun{sc F} (r:PS sc F)=>p25<|sg 14 c24<|sv (aP p)<|sv (aQ p)<|r
   rcases aT h with⟨c26,h⟩|⟨c26,h⟩
   ·have p29:=fun{sc F} (r:PS sc F)=>p27<|sg 19 c26<|sv (cf p)<|sv (cp p)<|r
    rcases aT h with⟨c28,h⟩|⟨c28,h⟩
    ·obtain rfl:=lf h
     exact co fo (p29<|sg 25 c28<|eF .normal (bS p true))<|by kernel_rfl
    ·have p31:=fun{sc F} (r:PS sc F)=>p29<|sg 25 c28<|sv (aF p)<|sv (aH p)<|cD (aR.ln p.Kids)<|r
     rcases aT h with⟨c30,h⟩|⟨c30,h⟩
     ·obtain rfl:=lf h
      exact co fo (p31<|sg 32 c30<|eF .normal (bS p true))<|by kernel_rfl
     ·obtain rfl:=lf h
      exact co fo (p31<|sg 32 c30<|sv (aF p)<|sv (aH p)<|cD (aR.ln p.Kids)<|eF .normal (bS p (decide ((p.Kids.length:Int)>most))))<|by kernel_rfl
   ·have p33:=fun{sc F} (r:PS sc F)=>p27<|sg 19 c26<|sv (aF p)<|sv (aH p)<|cD (aR.ln p.Kids)<|r
    rcases aT h with⟨c32,h⟩|⟨c32,h⟩
    ·obtain rfl:=lf h
     exact co fo (p33<|sg 32 c32<|eF .normal (bS p true))<|by kernel_rfl
    ·obtain rfl:=lf h
     exact co fo (p33<|sg 32 c32<|sv (aF p)<|sv (aH p)<|cD (aR.ln p.Kids)<|eF .normal (bS p (decide ((p.Kids.length:Int)>most))))<|by kernel_rfl
  ·have p35:=fun{sc F} (r:PS sc F)=>p25<|sg 14 c24<|sv (aF p)<|sv (aH p)<|cD (aR.ln p.Kids)<|r
   rcases aT h with⟨c34,h⟩|⟨c34,h⟩
   ·obtain rfl:=lf h
    exact co fo (p35<|sg 32 c34<|eF .normal (bS p true))<|by kernel_rfl
   ·obtain rfl:=lf h
    exact co fo (p35<|sg 32 c34<|sv (aF p)<|sv (aH p)<|cD (aR.ln p.Kids)<|eF .normal (bS p (decide ((p.Kids.length:Int)>most))))<|by kernel_rfl
end
section
variable(p:aa)
def Fw:av:=aN 130 [(1,.eptr (ac p))] [.dead] []
def d7(o:Bool):av:=aN 130 [(1,.eptr (ac p)),(82,.bool o)] [.dead] []
def AC:Option Bool:=
 if (p.Op == 1) = true then
  (N6 p.N).bind fun r41=>
  if(!r41)=true then
   some true
  else
   if(p.Op==2)=true then
    if(p.N !=0)=true then
     some (p.N !=1)
    else
     some false
   else
    some false
 else
  if(p.Op==2)=true then
   if(p.N !=0)=true then
    some (p.N !=1)
   else
    some false
  else
   some false
theorem Dv{x:Bool}(h:AC p=some x):aB Pg GE 0 (cA yG 124) (EX .normal (d7 p x)) (Fw p):=by
 have p40:=fun{sc F} (r:PS sc F)=>sv (aP p)<|sv (aQ p)<|r
 rcases aT h with⟨c39,h⟩|⟨c39,h⟩
 ·obtain⟨r41,br41,h⟩:=aw h
  have p43:=fun{sc F} (r:PS sc F)=>p40<|sg 4 c39<|sv (cf p)<|sv (cp p)<|ba (My br41)<|r
  rcases aT h with⟨c42,h⟩|⟨c42,h⟩
  ·obtain rfl:=lf h
   exact co fo (p43<|sg 10 c42<|eF .normal (d7 p true))<|by kernel_rfl
  ·have p45:=fun{sc F} (r:PS sc F)=>p43<|sg 10 c42<|sv (aP p)<|sv (aQ p)<|r
   rcases aT h with⟨c44,h⟩|⟨c44,h⟩
   ·have p47:=fun{sc F} (r:PS sc F)=>p45<|sg 14 c44<|sv (cf p)<|sv (cp p)<|r
    rcases aT h with⟨c46,h⟩|⟨c46,h⟩
    ·obtain rfl:=lf h
     exact co fo (p47<|sg 19 c46<|sv (cf p)<|sv (cp p)<|eF .normal (d7 p (p.N !=1)))<|by kernel_rfl
    ·obtain rfl:=lf h
     exact co fo (p47<|sg 19 c46<|eF .normal (d7 p false))<|by kernel_rfl
   ·obtain rfl:=lf h
    exact co fo (p45<|sg 14 c44<|eF .normal (d7 p false))<|by kernel_rfl
 ·have p49:=fun{sc F} (r:PS sc F)=>p40<|sg 4 c39<|sv (aP p)<|sv (aQ p)<|r
  rcases aT h with⟨c48,h⟩|⟨c48,h⟩
  ·have p51:=fun{sc F} (r:PS sc F)=>p49<|sg 14 c48<|sv (cf p)<|sv (cp p)<|r
   rcases aT h with⟨c50,h⟩|⟨c50,h⟩
   ·obtain rfl:=lf h
    exact co fo (p51<|sg 19 c50<|sv (cf p)<|sv (cp p)<|eF .normal (d7 p (p.N !=1)))<|by kernel_rfl
   ·obtain rfl:=lf h
    exact co fo (p51<|sg 19 c50<|eF .normal (d7 p false))<|by kernel_rfl
  ·obtain rfl:=lf h
   exact co fo (p49<|sg 14 c48<|eF .normal (d7 p false))<|by kernel_rfl
end
section
variable(p:aa)
def Fy:av:=aN 130 [(1,.eptr (ac p))] [.dead] []
def pz(o:Bool):av:=aN 130 [(1,.eptr (ac p)),(91,.bool o)] [.dead] []
def AE:Option Bool:=
 (y7 p.Op).bind fun r55=>
 if r55=true then
  (yS p.Name).bind fun r58=>
  some (r58 !=0)
 else
  some false
theorem Dw{x:Bool}(h:AE p=some x):aB Pg GE 0 (cA yG 252) (EX .normal (pz p x)) (Fy p):=by
 obtain⟨r55,br55,h⟩:=aw h
 have p57:=fun{sc F} (r:PS sc F)=>sv (aP p)<|sv (aQ p)<|ba (xM br55)<|r
 rcases aT h with⟨c56,h⟩|⟨c56,h⟩
 ·obtain⟨r58,br58,h⟩:=aw h
  obtain rfl:=lf h
  exact co fo (p57<|sg 4 c56<|sv (bT p)<|sv (cm p)<|ba (xy br58)<|eF .normal (pz p (r58 !=0)))<|by kernel_rfl
 ·obtain rfl:=lf h
  exact co fo (p57<|sg 4 c56<|eF .normal (pz p false))<|by kernel_rfl
end
section
variable(p:aa)
def FA:av:=aN 130 [(1,.eptr (ac p))] [.dead] []
def pA(o:Bool):av:=aN 130 [(1,.eptr (ac p)),(5,.bool o)] [.dead] []
def AF:Option Bool:=
 if(p.Op==3)=true then
  some (p.Name==([118]:ag))
 else
  some false
theorem Dx{x:Bool}(h:AF p=some x):aB Pg GE 0 (cA yG 1012) (EX .normal (pA p x)) (FA p):=by
 have p63:=fun{sc F} (r:PS sc F)=>sv (aP p)<|sv (aQ p)<|r
 rcases aT h with⟨c62,h⟩|⟨c62,h⟩
 ·obtain rfl:=lf h
  exact co fo (p63<|sg 4 c62<|sv (bT p)<|sv (cm p)<|eF .normal (pA p (p.Name==([118]:ag))))<|by kernel_rfl
 ·obtain rfl:=lf h
  exact co fo (p63<|sg 4 c62<|eF .normal (pA p false))<|by kernel_rfl
end
section
variable(p:aa)(v:Bool)
def FB:av:=aN 130 [(1,.eptr (ac p)),(5,.bool v)] [.dead] []
def lE(o:Bool):av:=aN 130 [(1,.eptr (ac p)),(5,.bool v),(6,.bool o)] [.dead] []
def AG:Option Bool:=
 if(p.Op==4)=true then
  if(p.Name==([116,97,103]:ag))=true then
   some true
  else
   some (p.Name==([118,97,108]:ag))
 else
  some false
theorem Dy{x:Bool}(h:AG p=some x):aB Pg GE 0 (cA yG 2026) (EX .normal (lE p v x)) (FB p v):=by
 have p66:=fun{sc F} (r:PS sc F)=>sv (aP p)<|sv (aQ p)<|r
 rcases aT h with⟨c65,h⟩|⟨c65,h⟩
 ·have p68:=fun{sc F} (r:PS sc F)=>p66<|sg 4 c65<|sv (bT p)<|sv (cm p)<|r
  rcases aT h with⟨c67,h⟩|⟨c67,h⟩
  ·obtain rfl:=lf h
   exact co fo (p68<|sg 8 c67<|eF .normal (lE p v true))<|by kernel_rfl
  ·obtain rfl:=lf h
   exact co fo (p68<|sg 8 c67<|sv (bT p)<|sv (cm p)<|eF .normal (lE p v (p.Name==([118,97,108]:ag))))<|by kernel_rfl
 ·obtain rfl:=lf h
  exact co fo (p66<|sg 4 c65<|eF .normal (lE p v false))<|by kernel_rfl
end
section
variable(p:aa)(v:Bool)(symbol:Bool)
def FC:av:=aN 130 [(1,.eptr (ac p)),(5,.bool v),(6,.bool symbol)] [.dead] []
def pB(o:Bool):av:=aN 130 [(1,.eptr (ac p)),(118,.bool o)] [.dead] []
def AH:Option Bool:=
 if(!v)=true then
  some (!symbol)
 else
  some false
theorem Dz{x:Bool}(h:AH v symbol=some x):aB Pg GE 0 (cA yG 4054) (EX .normal (pB p x)) (FC p v symbol):=by
 rcases aT h with⟨c70,h⟩|⟨c70,h⟩
 ·obtain rfl:=lf h
  exact co fo (sg 3 c70<|eF .normal (pB p (!symbol)))<|by kernel_rfl
 ·obtain rfl:=lf h
  exact co fo (sg 3 c70<|eF .normal (pB p false))<|by kernel_rfl
end
section
variable(p:aa)
def Fx:av:=aN 130 [(1,.eptr (ac p))] [.dead] []
def lD(o:Unit⊕(Unit)):Exit:=match o with
 |(.inl _)=>.ret
 |(.inr _)=>.normal
def gi(o:Unit⊕(Unit)):av:=match o with
 |(.inl o)=>aN 130 [(2,.int .i64 3)] [.dead] []
 |(.inr o)=>aN 130 [(1,.eptr (ac p))] [.dead] []
def AD:Option (Unit⊕(Unit)):=
 (AE p).bind fun o59=>
 if o59=true then
  (AF p).bind fun o64=>
  (AG p).bind fun o69=>
  (AH o64 o69).bind fun o71=>
  if o71=true then
   some (.inl ())
  else
   some (.inr ())
 else
  some (.inr ())
theorem ue{x:Unit⊕(Unit)}(h:AD p=some x):aB Pg GE 0 (cA yG 126) (EX (lD x) (gi p x)) (Fx p):=by
 obtain⟨o59,bo59,h⟩:=aw h
 have p61:=fun{sc F} (r:PS sc F)=>kK 0<|cC (Dw p bo59)<|r
 rcases aT h with⟨c60,h⟩|⟨c60,h⟩
 ·obtain⟨o64,bo64,h⟩:=aw h
  obtain⟨o69,bo69,h⟩:=aw h
  obtain⟨o71,bo71,h⟩:=aw h
  have p73:=fun{sc F} (r:PS sc F)=>p61<|sg 0 c60<|kK 0<|cC (Dx p bo64)<|kK 0<|cC (Dy p o64 bo69)<|kK 0<|cC (Dz p o64 o69 bo71)<|r
  rcases aT h with⟨c72,h⟩|⟨c72,h⟩
  ·obtain rfl:=lf h
   exact co fo (p73<|sg 0 c72<|eF (lD (.inl ())) (gi p (.inl ())))<|by kernel_rfl
  ·obtain rfl:=lf h
   exact co fo (p73<|sg 0 c72<|eF (lD (.inr ())) (gi p (.inr ())))<|by kernel_rfl
 ·obtain rfl:=lf h
  exact co fo (p61<|sg 0 c60<|eF (lD (.inr ())) (gi p (.inr ())))<|by kernel_rfl
end
section
variable(p:aa)
def FD:av:=aN 130 [(1,.eptr (ac p))] [.dead] []
def pC(o:Bool):av:=aN 130 [(129,.bool o)] [.dead] []
def AI:Option Bool:=
 if(p.Op==8)=true then
  (dv p.Kids 0).bind fun x77=>
  some (x77.Op !=1)
 else
  some false
theorem DA{x:Bool}(h:AI p=some x):aB Pg GE 0 (cA yG 508) (EX .normal (pC x)) (FD p):=by
 have p76:=fun{sc F} (r:PS sc F)=>sv (aP p)<|sv (aQ p)<|r
 rcases aT h with⟨c75,h⟩|⟨c75,h⟩
 ·obtain⟨x77,bx77,h⟩:=aw h
  obtain rfl:=lf h
  exact co fo (p76<|sg 4 c75<|sv (aF p)<|sv (aH p)<|sv (aR.ia (k:=.i64) bx77)<|sv (aP x77)<|sv (aQ x77)<|eF .normal (pC (x77.Op !=1)))<|by kernel_rfl
 ·obtain rfl:=lf h
  exact co fo (p76<|sg 4 c75<|eF .normal (pC false))<|by kernel_rfl
end
def Hm(p:aa):Option Int:=
 (AA p).bind fun o3=>
 if o3=true then
  some 1
 else
  (Hl p.Op).bind fun r6=>
  (AB p r6.1 r6.2).bind fun o36=>
  if o36=true then
   some 1
  else
   (AC p).bind fun o52=>
   if o52=true then
    some 2
   else
    (AD p).bind fun o74=>match o74 with
    |(.inl o74)=>
     some 3
    | (.inr o74) =>
     (AI p).bind fun o78=>
     if o78=true then
      some 6
     else
      some 0
theorem AJ{p:aa}{r:Int}(h:Hm p=some r):CC Pg GE 166 [.agg (ac p)] (.int .i64 r) []:=by
 obtain⟨o3,bo3,h⟩:=aw h
 have p5:=fun{sc F} (r:PS sc F)=>se (bM p)<|kK 1<|cC (Dt p bo3)<|r
 rcases aT h with⟨c4,h⟩|⟨c4,h⟩
 ·obtain rfl:=lf h
  have z:=p5<|sg 0 c4<|en (aI (rP (.int .i64 1))<|trivial)
  exact b7 fo call166 func166 (c:=yG) rfl (aI (ah p) trivial) z<|by kernel_rfl
 ·obtain⟨r6,br6,h⟩:=aw h
  obtain⟨o36,bo36,h⟩:=aw h
  have p38:=fun{sc F} (r:PS sc F)=>p5<|sg 0 c4<|sv (aP p)<|sv (aQ p)<|ba (ID br6)<|kK 1<|cC (Du p r6.1 r6.2 bo36)<|r
  rcases aT h with⟨c37,h⟩|⟨c37,h⟩
  ·obtain rfl:=lf h
   have z:=p38<|sg 0 c37<|en (aI (rP (.int .i64 1))<|trivial)
   exact b7 fo call166 func166 (c:=yG) rfl (aI (ah p) trivial) z<|by kernel_rfl
  ·obtain⟨o52,bo52,h⟩:=aw h
   have p54:=fun{sc F} (r:PS sc F)=>p38<|sg 0 c37<|kK 1<|cC (Dv p bo52)<|r
   rcases aT h with⟨c53,h⟩|⟨c53,h⟩
   ·obtain rfl:=lf h
    have z:=p54<|sg 0 c53<|en (aI (rP (.int .i64 2))<|trivial)
    exact b7 fo call166 func166 (c:=yG) rfl (aI (ah p) trivial) z<|by kernel_rfl
   ·obtain⟨o74,bo74,h⟩:=aw h
    rcases o74 with o74|o74
    ·obtain rfl:=lf h
     have z:=p54<|sg 0 c53<|kK 0<|cC (e:=.ret) (s1:=gi p (.inl o74)) (ue p bo74)<|en (aI (rP (.int .i64 3))<|trivial)
     exact b7 fo call166 func166 (c:=yG) rfl (aI (ah p) trivial) z<|by kernel_rfl
    ·obtain⟨o78,bo78,h⟩:=aw h
     have p80:=fun{sc F} (r:PS sc F)=>p54<|sg 0 c53<|kK 0<|cC (e:=.normal) (s1:=gi p (.inr o74)) (ue p bo74)<|kK 1<|cC (DA p bo78)<|r
     rcases aT h with⟨c79,h⟩|⟨c79,h⟩
     ·obtain rfl:=lf h
      have z:=p80<|sg 0 c79<|en (aI (rP (.int .i64 6))<|trivial)
      exact b7 fo call166 func166 (c:=yG) rfl (aI (ah p) trivial) z<|by kernel_rfl
     ·obtain rfl:=lf h
      have z:=p80<|sg 0 c79<|en (aI (rP (.int .i64 0))<|trivial)
      exact b7 fo call166 func166 (c:=yG) rfl (aI (ah p) trivial) z<|by kernel_rfl
end Go.Proofs.YtggeppllafbidaaGreatDoor
