/- PROVED: parts of the proof (G5). Conditions: none. -/
import Derived.Test.YtggeppllafbidaaGreatDoorPkA16
noncomputable section
namespace Go.Proofs.YtggeppllafbidaaGreatDoor
open Go
set_option linter.unusedVariables false
set_option maxRecDepth 100000
def L9:Code:=Tryz.f133.body.getD .skip
def HE:List Nat:=[]
section
variable(t:ae)
def Cg:av:=aN 39 [(1,.eptr (af t))] [.dead] []
def gm(o:Bool):av:=aN 39 [(38,.bool o)] [.dead] []
def wd:Option Bool:=
 if(decide ((t.Args.length:Int)<2))=true then
  some true
 else
  if(decide ((t.Args.length:Int)>7))=true then
   some true
  else
   if((t.Names.length:Int)!=0)=true then
    some ((t.Names.length:Int)!=(bA ((t.Args.length:Int) - 1)))
   else
    some false
theorem A4{x:Bool}(h:wd t=some x):
  aB Pg GE 0 (cA L9 892) (EX .normal (gm x)) (Cg t):=by
 have p8:=fun{sc F} (r:PS sc F)=>sv (aK t)<|sv (aL t)<|cD (d5.ln t.Args)<|r
 rcases aT h with⟨c7,h⟩|⟨c7,h⟩
 ·obtain rfl:=lf h
  exact co HE (p8<|sg 5 c7<|eF .normal (gm true)) (by kernel_rfl)
 ·have p10:=fun{sc F} (r:PS sc F)=>p8<|sg 5 c7<|sv (aK t)<|sv (aL t)<|cD (d5.ln t.Args)<|r
  rcases aT h with⟨c9,h⟩|⟨c9,h⟩
  ·obtain rfl:=lf h
   exact co HE (p10<|sg 11 c9<|eF .normal (gm true)) (by kernel_rfl)
  ·have p12:=fun{sc F} (r:PS sc F)=>p10<|sg 11 c9<|sv (aC t)<|sv (aD t)<|cD (aW.ln t.Names)<|r
   rcases aT h with⟨c11,h⟩|⟨c11,h⟩
   ·obtain rfl:=lf h
    exact co HE (p12<|sg 16 c11<|sv (aC t)<|sv (aD t)<|cD (aW.ln t.Names)<|sv (aK t)<|sv (aL t)<|cD (d5.ln t.Args)<|eF .normal (gm ((t.Names.length:Int)!=(bA ((t.Args.length:Int) - 1))))) (by kernel_rfl)
   ·obtain rfl:=lf h
    exact co HE (p12<|sg 16 c11<|eF .normal (gm false)) (by kernel_rfl)
end
def CR(t:ae):Option Int:=
 if(t.Op==4)=true then
  if(decide ((t.Args.length:Int)>6))=true then
   some 13
  else
   some 0
 else
  if(t.Op==6)=true then
   (wd t).bind fun o13=>
   if o13=true then
    some 13
   else
    some 0
  else
   some 0
theorem F2{t:ae}{r:Int}(h:CR t=some r):CC Pg GE 133 [.agg (af t)] (.int .i64 r) []:=by
 have p2:=fun{sc F} (r:PS sc F)=>se (bQ t)<|sv (aG t)<|sv (aJ t)<|r
 rcases aT h with⟨c1,h⟩|⟨c1,h⟩
 ·have p4:=fun{sc F} (r:PS sc F)=>p2<|sg 0 c1<|sv (aK t)<|sv (aL t)<|cD (d5.ln t.Args)<|r
  rcases aT h with⟨c3,h⟩|⟨c3,h⟩
  ·obtain rfl:=lf h
   have z:=p4<|sg 0 c3<|en (aI (rP (.int .i64 13))<|trivial)
   exact b7 HE Tryz.call133 Tryz.func133 (c:=L9) rfl (aI (al t) trivial) z (by kernel_rfl)
  ·obtain rfl:=lf h
   have z:=p4<|sg 0 c3<|en (aI (rP (.int .i64 0))<|trivial)
   exact b7 HE Tryz.call133 Tryz.func133 (c:=L9) rfl (aI (al t) trivial) z (by kernel_rfl)
 ·have p6:=fun{sc F} (r:PS sc F)=>p2<|sg 0 c1<|r
  rcases aT h with⟨c5,h⟩|⟨c5,h⟩
  ·obtain⟨o13,bo13,h⟩:=aw h
   have p15:=fun{sc F} (r:PS sc F)=>p6<|sg 0 c5<|kK 0<|cC (A4 t bo13)<|r
   rcases aT h with⟨c14,h⟩|⟨c14,h⟩
   ·obtain rfl:=lf h
    have z:=p15<|sg 0 c14<|en (aI (rP (.int .i64 13))<|trivial)
    exact b7 HE Tryz.call133 Tryz.func133 (c:=L9) rfl (aI (al t) trivial) z (by kernel_rfl)
   ·obtain rfl:=lf h
    have z:=p15<|sg 0 c14<|en (aI (rP (.int .i64 0))<|trivial)
    exact b7 HE Tryz.call133 Tryz.func133 (c:=L9) rfl (aI (al t) trivial) z (by kernel_rfl)
  ·obtain rfl:=lf h
   have z:=p6<|sg 0 c5<|en (aI (rP (.int .i64 0))<|trivial)
   exact b7 HE Tryz.call133 Tryz.func133 (c:=L9) rfl (aI (al t) trivial) z (by kernel_rfl)
def Pf:Code:=Tryz.f157.body.getD .skip
def Nf:List Nat:=[23]
section
variable(s:ag)(i:Int)
def iT:av:=aN 24 [(0,.str s),(5,.int .i64 i)] [] []
def iU(o:(ag×ag)⊕(Unit)):Exit:=match o with
 |(.inl _)=>.ret
 |(.inr _)=>.exit 0
def gb(o:(ag×ag)⊕(Unit)):av:=match o with
 |(.inl o)=>aN 24 [(2,.str o.1),(3,.str o.2),(4,.bool true)] [] []
 |(.inr o)=>aN 24 [(0,.str s)] [] []
def vD:Option (Int⊕((ag×ag)⊕(Unit))):=
 if(decide (i<(s.length:Int)))=true then
  (wP s i).bind fun c2=>
  if(c2==46)=true then
   (IK s none (some i)).bind fun s5=>
   (IK s (some (bA (i+1))) none).bind fun s6=>
   some (.inr (.inl (s5,s6)))
  else
   some (.inl (bA (i+1)))
 else
  some (.inr (.inr ()))
def Ab:Option ((ag×ag)⊕(Unit)):=loop (fun(zz:Int)=>vD s zz) i
theorem BL{y:Int⊕((ag×ag)⊕(Unit))}(h:vD s i=some y):
  aB Pg GE 0 (cA Pf 55) (LQ (fun(zz:Int)=>iT s zz) iU (gb s) y) (iT s i):=by
 rcases aT h with⟨c1,h⟩|⟨c1,h⟩
 ·obtain⟨c2,bc2,h⟩:=aw h
  have p4:=fun{sc F} (r:PS sc F)=>cD (sA Tryz.underlying9 s)<|sg 0 c1<|sv (qB (k:=.i64) Tryz.underlying9 bc2)<|r
  rcases aT h with⟨c3,h⟩|⟨c3,h⟩
  ·obtain⟨s5,bs5,h⟩:=aw h
   obtain⟨s6,bs6,h⟩:=aw h
   obtain rfl:=lf h
   have z:=p4<|sg 0 c3<|rp [0,0,3,0,0,16,56,7,255,511]<|sv (Qh Tryz.underlying9 bs5)<|sv (Qh Tryz.underlying9 bs6)<|eF (iU (.inl (s5,s6))) (gb s (.inl (s5,s6)))
   exact gf Nf (by intro hx;cases hx) z (by kernel_rfl)
  ·obtain rfl:=lf h
   exact rY Nf (p4<|sg 0 c3<|eF .normal (iT s (bA (i+1)))) (by kernel_rfl)
 ·obtain rfl:=lf h
  have z:=cD (sA Tryz.underlying9 s)<|sg 0 c1<|eF (iU (.inr ())) (gb s (.inr ()))
  exact gf Nf (by intro hx;cases hx) z (by kernel_rfl)
theorem tX{x:(ag×ag)⊕(Unit)}(h:Ab s i=some x):
  aB Pg GE 0 (.loop (cA Pf 55)) (EX (iU x) (gb s x)) (iT s i):=
 aB.loop (S:=fun(zz:Int)=>iT s zz) (ex:=iU) (s:=i) h fun zz y hy=>BL s zz hy
end
def BK(s:ag):Option (ag×ag×Bool):=
 (Ab s 0).bind fun o7=>match o7 with
 |(.inl o7)=>
  some (o7.1,o7.2,true)
 |(.inr o7)=>
  some (s,([]:ag),false)
theorem Ac{s:ag}{r:ag×ag×Bool}(h:BK s=some r):CC Pg GE 157 [.str s] (.tuple [.str r.1,.str r.2.1,.bool r.2.2]) []:=by
 obtain⟨o7,bo7,h⟩:=aw h
 rcases o7 with o7|o7
 ·obtain rfl:=lf h
  have z:=cC (e:=.ret) (s1:=gb s (.inl o7)) (tX s 0 bo7)<|en (aI (rP (.tuple [.str o7.1,.str o7.2,.bool true]))<|(aI trivial (aI trivial (aI trivial trivial))))
  exact b7 Nf Tryz.call157 Tryz.func157 (c:=Pf) rfl (aI trivial trivial) z (by kernel_rfl)
 ·obtain rfl:=lf h
  have z:=cC (e:=.exit 0) (s1:=gb s (.inr o7)) (tX s 0 bo7)<|en (aI (rP (.tuple [.str s,.str ([]:ag),.bool false]))<|(aI trivial (aI trivial (aI trivial trivial))))
  exact b7 Nf Tryz.call157 Tryz.func157 (c:=Pf) rfl (aI trivial trivial) z (by kernel_rfl)
def RK:Code:=Tryz.f160.body.getD .skip
def Rn:List Nat:=[]
def qo(s:ag):Option Bool:=
 if(decide ((s.length:Int)>=1))=true then
  some (decide ((s.length:Int)<=24))
 else
  some false
theorem gd{s:ag}{r:Bool}(h:qo s=some r):CC Pg GE 160 [.str s] (.bool r) []:=by
 rcases aT h with⟨c1,h⟩|⟨c1,h⟩
 ·obtain rfl:=lf h
  have z:=cD (sA Tryz.underlying9 s)<|sg 4 c1<|cD (sA Tryz.underlying9 s)<|en (aI (rP (.bool (decide ((s.length:Int)<=24))))<|trivial)
  exact b7 Rn Tryz.call160 Tryz.func160 (c:=RK) rfl (aI trivial trivial) z (by kernel_rfl)
 ·obtain rfl:=lf h
  have z:=cD (sA Tryz.underlying9 s)<|sg 4 c1<|en (aI (rP (.bool false))<|trivial)
  exact b7 Rn Tryz.call160 Tryz.func160 (c:=RK) rfl (aI trivial trivial) z (by kernel_rfl)
def RM:Code:=Tryz.f178.body.getD .skip
def Rp:List Nat:=[]
def nh(c:Int):Option Bool:=
 if(decide (97<=c))=true then
  some (decide (c<=122))
 else
  some false
theorem lA{c:Int}{r:Bool}(h:nh c=some r):CC Pg GE 178 [.int .u8 c] (.bool r) []:=by
 rcases aT h with⟨c1,h⟩|⟨c1,h⟩
 ·obtain rfl:=lf h
  have z:=sg 3 c1<|en (aI (rP (.bool (decide (c<=122))))<|trivial)
  exact b7 Rp Tryz.call178 Tryz.func178 (c:=RM) rfl (aI trivial trivial) z (by kernel_rfl)
 ·obtain rfl:=lf h
  have z:=sg 3 c1<|en (aI (rP (.bool false))<|trivial)
  exact b7 Rp Tryz.call178 Tryz.func178 (c:=RM) rfl (aI trivial trivial) z (by kernel_rfl)
def Ph:Code:=Tryz.f179.body.getD .skip
def Ng:List Nat:=[]
section
variable(s:ag)(t6:Int)
def eR:av:=aN 13 [(0,.str s),(5,.agg (eT.map PVal.str)),(6,.int .i64 t6)] [] []
def eS(o:Unit⊕(Unit)):Exit:=match o with
 |(.inl _)=>.ret
 |(.inr _)=>.exit 0
def dT(o:Unit⊕(Unit)):av:=match o with
 |(.inl o)=>aN 13 [(2,.bool true)] [] []
 |(.inr o)=>aN 13 [] [] []
def pk:Option (Int⊕(Unit⊕(Unit))):=
 if(decide (t6<42))=true then
  (dv eT t6).bind fun x2=>
  if(x2==s)=true then
   some (.inr (.inl ()))
  else
   some (.inl (bA (t6+1)))
 else
  some (.inr (.inr ()))
def rR:Option (Unit⊕(Unit)):=loop (fun(zz:Int)=>pk s zz) t6
theorem vA{y:Int⊕(Unit⊕(Unit))}(h:pk s t6=some y):
  aB Pg GE 0 (cA Ph 55) (LQ (fun(zz:Int)=>eR s zz) eS dT y) (eR s t6):=by
 rcases aT h with⟨c1,h⟩|⟨c1,h⟩
 ·obtain⟨x2,bx2,h⟩:=aw h
  have p4:=fun{sc F} (r:PS sc F)=>sg 0 c1<|sv (Ad (k:=.i64) bx2)<|r
  rcases aT h with⟨c3,h⟩|⟨c3,h⟩
  ·obtain rfl:=lf h
   have z:=p4<|sg 0 c3<|eF (eS (.inl ())) (dT (.inl ()))
   exact gf Ng (by intro hx;cases hx) z (by kernel_rfl)
  ·obtain rfl:=lf h
   exact rY Ng (p4<|sg 0 c3<|eF .normal (eR s (bA (t6+1)))) (by kernel_rfl)
 ·obtain rfl:=lf h
  have z:=sg 0 c1<|eF (eS (.inr ())) (dT (.inr ()))
  exact gf Ng (by intro hx;cases hx) z (by kernel_rfl)
theorem nQ{x:Unit⊕(Unit)}(h:rR s t6=some x):
  aB Pg GE 0 (.loop (cA Ph 55)) (EX (eS x) (dT x)) (eR s t6):=
 aB.loop (S:=fun(zz:Int)=>eR s zz) (ex:=eS) (s:=t6) h fun zz y hy=>vA s zz hy
end
def xA(s:ag):Option Bool:=
 (rR s 0).bind fun o5=>match o5 with
 |(.inl o5)=>
  some true
 |(.inr o5)=>
  some false
theorem BJ{s:ag}{r:Bool}(h:xA s=some r):CC Pg GE 179 [.str s] (.bool r) []:=by
 obtain⟨o5,bo5,h⟩:=aw h
 rcases o5 with o5|o5
 ·obtain rfl:=lf h
  have z:=sv qn<|cC (e:=.ret) (s1:=dT (.inl o5)) (nQ s 0 bo5)<|en (aI (rP (.bool true))<|trivial)
  exact b7 Ng Tryz.call179 Tryz.func179 (c:=Ph) rfl (aI trivial trivial) z (by kernel_rfl)
 ·obtain rfl:=lf h
  have z:=sv qn<|cC (e:=.exit 0) (s1:=dT (.inr o5)) (nQ s 0 bo5)<|en (aI (rP (.bool false))<|trivial)
  exact b7 Ng Tryz.call179 Tryz.func179 (c:=Ph) rfl (aI trivial trivial) z (by kernel_rfl)
def RO:Code:=Tryz.f180.body.getD .skip
def Rq:List Nat:=[]
def qm(c:Int):Option Bool:=
 if(decide (48<=c))=true then
  some (decide (c<=57))
 else
  some false
theorem pl{c:Int}{r:Bool}(h:qm c=some r):CC Pg GE 180 [.int .u8 c] (.bool r) []:=by
 rcases aT h with⟨c1,h⟩|⟨c1,h⟩
 ·obtain rfl:=lf h
  have z:=sg 3 c1<|en (aI (rP (.bool (decide (c<=57))))<|trivial)
  exact b7 Rq Tryz.call180 Tryz.func180 (c:=RO) rfl (aI trivial trivial) z (by kernel_rfl)
 ·obtain rfl:=lf h
  have z:=sg 3 c1<|en (aI (rP (.bool false))<|trivial)
  exact b7 Rq Tryz.call180 Tryz.func180 (c:=RO) rfl (aI trivial trivial) z (by kernel_rfl)
def Km:Code:=Tryz.f158.body.getD .skip
def CT:List Nat:=[]
section
variable(s:ag)
def Dj:av:=aN 41 [(0,.str s)] [] []
def j9(o:Bool):av:=aN 41 [(0,.str s),(16,.bool o)] [] []
def xB:Option Bool:=
 (qo s).bind fun r1=>
 if(!r1)=true then
  some true
 else
  (wP s 0).bind fun c3=>
  (nh c3).bind fun r4=>
  if(!r4)=true then
   some true
  else
   (xA s).bind fun r7=>
   some r7
theorem BM{x:Bool}(h:xB s=some x):
  aB Pg GE 0 (cA Km 12) (EX .normal (j9 s x)) (Dj s):=by
 obtain⟨r1,br1,h⟩:=aw h
 rcases aT h with⟨c2,h⟩|⟨c2,h⟩
 ·obtain rfl:=lf h
  exact co CT (ba (gd br1)<|sg 4 c2<|eF .normal (j9 s true)) (by kernel_rfl)
 ·obtain⟨c3,bc3,h⟩:=aw h
  obtain⟨r4,br4,h⟩:=aw h
  have p6:=fun{sc F} (r:PS sc F)=>ba (gd br1)<|sg 4 c2<|sv (qB (k:=.i64) Tryz.underlying9 bc3)<|ba (lA br4)<|r
  rcases aT h with⟨c5,h⟩|⟨c5,h⟩
  ·obtain rfl:=lf h
   exact co CT (p6<|sg 10 c5<|eF .normal (j9 s true)) (by kernel_rfl)
  ·obtain⟨r7,br7,h⟩:=aw h
   obtain rfl:=lf h
   exact co CT (p6<|sg 10 c5<|ba (BJ br7)<|eF .normal (j9 s r7)) (by kernel_rfl)
end
section
variable(s:ag)(i:Int)
def Dk:av:=aN 41 [(0,.str s),(3,.int .i64 i)] [] []
def ka(o:Bool):av:=aN 41 [(0,.str s),(3,.int .i64 i),(40,.bool o)] [] []
def xC:Option Bool:=
 (wP s i).bind fun c12=>
 (nh c12).bind fun r13=>
 if(!r13)=true then
  (wP s i).bind fun c16=>
  (qm c16).bind fun r17=>
  if(!r17)=true then
   (wP s i).bind fun c20=>
   some (c20 !=95)
  else
   some false
 else
  some false
theorem BN{x:Bool}(h:xC s i=some x):
  aB Pg GE 0 (cA Km 1914) (EX .normal (ka s i x)) (Dk s i):=by
 obtain⟨c12,bc12,h⟩:=aw h
 obtain⟨r13,br13,h⟩:=aw h
 have p15:=fun{sc F} (r:PS sc F)=>sv (qB (k:=.i64) Tryz.underlying9 bc12)<|ba (lA br13)<|r
 rcases aT h with⟨c14,h⟩|⟨c14,h⟩
 ·obtain⟨c16,bc16,h⟩:=aw h
  obtain⟨r17,br17,h⟩:=aw h
  have p19:=fun{sc F} (r:PS sc F)=>p15<|sg 6 c14<|sv (qB (k:=.i64) Tryz.underlying9 bc16)<|ba (pl br17)<|r
  rcases aT h with⟨c18,h⟩|⟨c18,h⟩
  ·obtain⟨c20,bc20,h⟩:=aw h
   obtain rfl:=lf h
   exact co CT (p19<|sg 13 c18<|sv (qB (k:=.i64) Tryz.underlying9 bc20)<|eF .normal (ka s i (c20 !=95))) (by kernel_rfl)
  ·obtain rfl:=lf h
   exact co CT (p19<|sg 13 c18<|eF .normal (ka s i false)) (by kernel_rfl)
 ·obtain rfl:=lf h
  exact co CT (p15<|sg 6 c14<|eF .normal (ka s i false)) (by kernel_rfl)
end
section
variable(s:ag)(i:Int)
def gP:av:=aN 41 [(0,.str s),(3,.int .i64 i)] [] []
def gQ(o:Unit⊕(Unit)):Exit:=match o with
 |(.inl _)=>.ret
 |(.inr _)=>.exit 0
def fj(o:Unit⊕(Unit)):av:=match o with
 |(.inl o)=>aN 41 [(2,.bool false)] [] []
 |(.inr o)=>aN 41 [] [] []
def tY:Option (Int⊕(Unit⊕(Unit))):=
 if(decide (i<(s.length:Int)))=true then
  (xC s i).bind fun o21=>
  if o21=true then
   some (.inr (.inl ()))
  else
   some (.inl (bA (i+1)))
 else
  some (.inr (.inr ()))
def xD:Option (Unit⊕(Unit)):=loop (fun(zz:Int)=>tY s zz) i
theorem Ae{y:Int⊕(Unit⊕(Unit))}(h:tY s i=some y):
  aB Pg GE 0 (cA Km 119) (LQ (fun(zz:Int)=>gP s zz) gQ fj y) (gP s i):=by
 rcases aT h with⟨c11,h⟩|⟨c11,h⟩
 ·obtain⟨o21,bo21,h⟩:=aw h
  have p23:=fun{sc F} (r:PS sc F)=>cD (sA Tryz.underlying9 s)<|sg 0 c11<|kK 1<|cC (BN s i bo21)<|r
  rcases aT h with⟨c22,h⟩|⟨c22,h⟩
  ·obtain rfl:=lf h
   have z:=p23<|sg 0 c22<|eF (gQ (.inl ())) (fj (.inl ()))
   exact gf CT (by intro hx;cases hx) z (by kernel_rfl)
  ·obtain rfl:=lf h
   exact rY CT (p23<|sg 0 c22<|eF .normal (gP s (bA (i+1)))) (by kernel_rfl)
 ·obtain rfl:=lf h
  have z:=cD (sA Tryz.underlying9 s)<|sg 0 c11<|eF (gQ (.inr ())) (fj (.inr ()))
  exact gf CT (by intro hx;cases hx) z (by kernel_rfl)
theorem rV{x:Unit⊕(Unit)}(h:xD s i=some x):
  aB Pg GE 0 (.loop (cA Km 119)) (EX (gQ x) (fj x)) (gP s i):=
 aB.loop (S:=fun(zz:Int)=>gP s zz) (ex:=gQ) (s:=i) h fun zz y hy=>Ae s zz hy
end
def yW(s:ag):Option Bool:=
 (xB s).bind fun o8=>
 if o8=true then
  some false
 else
  (xD s 1).bind fun o24=>match o24 with
  |(.inl o24)=>
   some false
  |(.inr o24)=>
   some true
theorem rf{s:ag}{r:Bool}(h:yW s=some r):CC Pg GE 158 [.str s] (.bool r) []:=by
 obtain⟨o8,bo8,h⟩:=aw h
 have p10:=fun{sc F} (r:PS sc F)=>kK 2<|cC (BM s bo8)<|r
 rcases aT h with⟨c9,h⟩|⟨c9,h⟩
 ·obtain rfl:=lf h
  have z:=p10<|sg 0 c9<|en (aI (rP (.bool false))<|trivial)
  exact b7 CT Tryz.call158 Tryz.func158 (c:=Km) rfl (aI trivial trivial) z (by kernel_rfl)
 ·obtain⟨o24,bo24,h⟩:=aw h
  rcases o24 with o24|o24
  ·obtain rfl:=lf h
   have z:=p10<|sg 0 c9<|cC (e:=.ret) (s1:=fj (.inl o24)) (rV s 1 bo24)<|en (aI (rP (.bool false))<|trivial)
   exact b7 CT Tryz.call158 Tryz.func158 (c:=Km) rfl (aI trivial trivial) z (by kernel_rfl)
  ·obtain rfl:=lf h
   have z:=p10<|sg 0 c9<|cC (e:=.exit 0) (s1:=fj (.inr o24)) (rV s 1 bo24)<|en (aI (rP (.bool true))<|trivial)
   exact b7 CT Tryz.call158 Tryz.func158 (c:=Km) rfl (aI trivial trivial) z (by kernel_rfl)
def RP:Code:=Tryz.f181.body.getD .skip
def Rr:List Nat:=[]
def rb(c:Int):Option Bool:=
 if(decide (65<=c))=true then
  some (decide (c<=90))
 else
  some false
theorem rU{c:Int}{r:Bool}(h:rb c=some r):CC Pg GE 181 [.int .u8 c] (.bool r) []:=by
 rcases aT h with⟨c1,h⟩|⟨c1,h⟩
 ·obtain rfl:=lf h
  have z:=sg 3 c1<|en (aI (rP (.bool (decide (c<=90))))<|trivial)
  exact b7 Rr Tryz.call181 Tryz.func181 (c:=RP) rfl (aI trivial trivial) z (by kernel_rfl)
 ·obtain rfl:=lf h
  have z:=sg 3 c1<|en (aI (rP (.bool false))<|trivial)
  exact b7 Rr Tryz.call181 Tryz.func181 (c:=RP) rfl (aI trivial trivial) z (by kernel_rfl)
def Nt:Code:=Tryz.f161.body.getD .skip
def IY:List Nat:=[]
section
variable(s:ag)(i:Int)
def rS:av:=aN 29 [(0,.str s),(3,.int .i64 i)] [] []
def ec(o:Bool):av:=aN 29 [(0,.str s),(3,.int .i64 i),(28,.bool o)] [] []
def lW:Option Bool:=
 (wP s i).bind fun c2=>
 (nh c2).bind fun r3=>
 if(!r3)=true then
  (wP s i).bind fun c6=>
  (rb c6).bind fun r7=>
  if(!r7)=true then
   (wP s i).bind fun c10=>
   (qm c10).bind fun r11=>
   some (!r11)
  else
   some false
 else
  some false
theorem ra{x:Bool}(h:lW s i=some x):
  aB Pg GE 0 (cA Nt 890) (EX .normal (ec s i x)) (rS s i):=by
 obtain⟨c2,bc2,h⟩:=aw h
 obtain⟨r3,br3,h⟩:=aw h
 have p5:=fun{sc F} (r:PS sc F)=>sv (qB (k:=.i64) Tryz.underlying9 bc2)<|ba (lA br3)<|r
 rcases aT h with⟨c4,h⟩|⟨c4,h⟩
 ·obtain⟨c6,bc6,h⟩:=aw h
  obtain⟨r7,br7,h⟩:=aw h
  have p9:=fun{sc F} (r:PS sc F)=>p5<|sg 6 c4<|sv (qB (k:=.i64) Tryz.underlying9 bc6)<|ba (rU br7)<|r
  rcases aT h with⟨c8,h⟩|⟨c8,h⟩
  ·obtain⟨c10,bc10,h⟩:=aw h
   obtain⟨r11,br11,h⟩:=aw h
   obtain rfl:=lf h
   exact co IY (p9<|sg 13 c8<|sv (qB (k:=.i64) Tryz.underlying9 bc10)<|ba (pl br11)<|eF .normal (ec s i (!r11))) (by kernel_rfl)
  ·obtain rfl:=lf h
   exact co IY (p9<|sg 13 c8<|eF .normal (ec s i false)) (by kernel_rfl)
 ·obtain rfl:=lf h
  exact co IY (p5<|sg 6 c4<|eF .normal (ec s i false)) (by kernel_rfl)
end
section
variable(s:ag)(i:Int)
def dp:av:=aN 29 [(0,.str s),(3,.int .i64 i)] [] []
def dq(o:Unit⊕(Unit)):Exit:=match o with
 |(.inl _)=>.ret
 |(.inr _)=>.exit 0
def cH(o:Unit⊕(Unit)):av:=match o with
 |(.inl o)=>aN 29 [(2,.bool false)] [] []
 |(.inr o)=>aN 29 [] [] []
def kG:Option (Int⊕(Unit⊕(Unit))):=
 if(decide (i<(s.length:Int)))=true then
  (lW s i).bind fun o12=>
  if o12=true then
   some (.inr (.inl ()))
  else
   some (.inl (bA (i+1)))
 else
  some (.inr (.inr ()))
def lX:Option (Unit⊕(Unit)):=loop (fun(zz:Int)=>kG s zz) i
theorem pQ{y:Int⊕(Unit⊕(Unit))}(h:kG s i=some y):
  aB Pg GE 0 (cA Nt 55) (LQ (fun(zz:Int)=>dp s zz) dq cH y) (dp s i):=by
 rcases aT h with⟨c1,h⟩|⟨c1,h⟩
 ·obtain⟨o12,bo12,h⟩:=aw h
  have p14:=fun{sc F} (r:PS sc F)=>cD (sA Tryz.underlying9 s)<|sg 0 c1<|kK 1<|cC (ra s i bo12)<|r
  rcases aT h with⟨c13,h⟩|⟨c13,h⟩
  ·obtain rfl:=lf h
   have z:=p14<|sg 0 c13<|eF (dq (.inl ())) (cH (.inl ()))
   exact gf IY (by intro hx;cases hx) z (by kernel_rfl)
  ·obtain rfl:=lf h
   exact rY IY (p14<|sg 0 c13<|eF .normal (dp s (bA (i+1)))) (by kernel_rfl)
 ·obtain rfl:=lf h
  have z:=cD (sA Tryz.underlying9 s)<|sg 0 c1<|eF (dq (.inr ())) (cH (.inr ()))
  exact gf IY (by intro hx;cases hx) z (by kernel_rfl)
theorem jQ{x:Unit⊕(Unit)}(h:lX s i=some x):
  aB Pg GE 0 (.loop (cA Nt 55)) (EX (dq x) (cH x)) (dp s i):=
 aB.loop (S:=fun(zz:Int)=>dp s zz) (ex:=dq) (s:=i) h fun zz y hy=>pQ s zz hy
end
def kh(s:ag):Option Bool:=
 (lX s 0).bind fun o15=>match o15 with
 |(.inl o15)=>
  some false
 |(.inr o15)=>
  some true
theorem lY{s:ag}{r:Bool}(h:kh s=some r):CC Pg GE 161 [.str s] (.bool r) []:=by
 obtain⟨o15,bo15,h⟩:=aw h
 rcases o15 with o15|o15
 ·obtain rfl:=lf h
  have z:=cC (e:=.ret) (s1:=cH (.inl o15)) (jQ s 0 bo15)<|en (aI (rP (.bool false))<|trivial)
  exact b7 IY Tryz.call161 Tryz.func161 (c:=Nt) rfl (aI trivial trivial) z (by kernel_rfl)
 ·obtain rfl:=lf h
  have z:=cC (e:=.exit 0) (s1:=cH (.inr o15)) (jQ s 0 bo15)<|en (aI (rP (.bool true))<|trivial)
  exact b7 IY Tryz.call161 Tryz.func161 (c:=Nt) rfl (aI trivial trivial) z (by kernel_rfl)
def Ma:Code:=Tryz.f159.body.getD .skip
def IX:List Nat:=[]
section
variable(s:ag)
def BO:av:=aN 31 [(0,.str s)] [] []
def jd(o:Bool):av:=aN 31 [(0,.str s),(16,.bool o)] [] []
def vF:Option Bool:=
 (qo s).bind fun r1=>
 if(!r1)=true then
  some true
 else
  (wP s 0).bind fun c3=>
  (rb c3).bind fun r4=>
  if(!r4)=true then
   some true
  else
   (kh s).bind fun r7=>
   some (!r7)
theorem Af{x:Bool}(h:vF s=some x):
  aB Pg GE 0 (cA Ma 12) (EX .normal (jd s x)) (BO s):=by
 obtain⟨r1,br1,h⟩:=aw h
 rcases aT h with⟨c2,h⟩|⟨c2,h⟩
 ·obtain rfl:=lf h
  exact co IX (ba (gd br1)<|sg 4 c2<|eF .normal (jd s true)) (by kernel_rfl)
 ·obtain⟨c3,bc3,h⟩:=aw h
  obtain⟨r4,br4,h⟩:=aw h
  have p6:=fun{sc F} (r:PS sc F)=>ba (gd br1)<|sg 4 c2<|sv (qB (k:=.i64) Tryz.underlying9 bc3)<|ba (rU br4)<|r
  rcases aT h with⟨c5,h⟩|⟨c5,h⟩
  ·obtain rfl:=lf h
   exact co IX (p6<|sg 10 c5<|eF .normal (jd s true)) (by kernel_rfl)
  ·obtain⟨r7,br7,h⟩:=aw h
   obtain rfl:=lf h
   exact co IX (p6<|sg 10 c5<|ba (lY br7)<|eF .normal (jd s (!r7))) (by kernel_rfl)
end
def CB(s:ag):Option Bool:=
 (vF s).bind fun o8=>
 if o8=true then
  some false
 else
  if (!(s == ([73,110,116]:ag))) = true then
   if(!(s==([66,111,111,108]:ag)))=true then
    if(!(s==([67,101,108,108]:ag)))=true then
     some (!(s==([70,117,110]:ag)))
    else
     some false
   else
    some false
  else
   some false
theorem E3{s:ag}{r:Bool}(h:CB s=some r):CC Pg GE 159 [.str s] (.bool r) []:=by
 obtain⟨o8,bo8,h⟩:=aw h
 have p10:=fun{sc F} (r:PS sc F)=>kK 2<|cC (Af s bo8)<|r
 rcases aT h with⟨c9,h⟩|⟨c9,h⟩
 ·obtain rfl:=lf h
  have z:=p10<|sg 0 c9<|en (aI (rP (.bool false))<|trivial)
  exact b7 IX Tryz.call159 Tryz.func159 (c:=Ma) rfl (aI trivial trivial) z (by kernel_rfl)
 ·have p12:=fun{sc F} (r:PS sc F)=>p10<|sg 0 c9<|r
  rcases aT h with⟨c11,h⟩|⟨c11,h⟩
  ·have p14:=fun{sc F} (r:PS sc F)=>p12<|sg 3 c11<|r
   rcases aT h with⟨c13,h⟩|⟨c13,h⟩
   ·have p16:=fun{sc F} (r:PS sc F)=>p14<|sg 7 c13<|r
    rcases aT h with⟨c15,h⟩|⟨c15,h⟩
    ·obtain rfl:=lf h
     have z:=p16<|sg 11 c15<|en (aI (rP (.bool (!(s==([70,117,110]:ag)))))<|trivial)
     exact b7 IX Tryz.call159 Tryz.func159 (c:=Ma) rfl (aI trivial trivial) z (by kernel_rfl)
    ·obtain rfl:=lf h
     have z:=p16<|sg 11 c15<|en (aI (rP (.bool false))<|trivial)
     exact b7 IX Tryz.call159 Tryz.func159 (c:=Ma) rfl (aI trivial trivial) z (by kernel_rfl)
   ·obtain rfl:=lf h
    have z:=p14<|sg 7 c13<|en (aI (rP (.bool false))<|trivial)
    exact b7 IX Tryz.call159 Tryz.func159 (c:=Ma) rfl (aI trivial trivial) z (by kernel_rfl)
  ·obtain rfl:=lf h
   have z:=p12<|sg 3 c11<|en (aI (rP (.bool false))<|trivial)
   exact b7 IX Tryz.call159 Tryz.func159 (c:=Ma) rfl (aI trivial trivial) z (by kernel_rfl)
def Nu:Code:=Tryz.f162.body.getD .skip
def HF:List Nat:=[]
section
variable(s:ag)(i:Int)
def Dl:av:=aN 32 [(0,.str s),(3,.int .i64 i)] [] []
def gR(o:Bool):av:=aN 32 [(0,.str s),(3,.int .i64 i),(31,.bool o)] [] []
def xE:Option Bool:=
 (wP s i).bind fun c2=>
 (nh c2).bind fun r3=>
 if (!r3) = true then
  if(i==0)=true then
   some true
  else
   (wP s i).bind fun c8=>
   (qm c8).bind fun r9=>
   if(!r9)=true then
    (wP s i).bind fun c12=>
    some (c12 !=95)
   else
    some false
 else
  some false
theorem BP{x:Bool}(h:xE s i=some x):
  aB Pg GE 0 (cA Nu 890) (EX .normal (gR s i x)) (Dl s i):=by
 obtain⟨c2,bc2,h⟩:=aw h
 obtain⟨r3,br3,h⟩:=aw h
 have p5:=fun{sc F} (r:PS sc F)=>sv (qB (k:=.i64) Tryz.underlying9 bc2)<|ba (lA br3)<|r
 rcases aT h with⟨c4,h⟩|⟨c4,h⟩
 ·have p7:=fun{sc F} (r:PS sc F)=>p5<|sg 6 c4<|r
  rcases aT h with⟨c6,h⟩|⟨c6,h⟩
  ·obtain rfl:=lf h
   exact co HF (p7<|sg 9 c6<|eF .normal (gR s i true)) (by kernel_rfl)
  ·obtain⟨c8,bc8,h⟩:=aw h
   obtain⟨r9,br9,h⟩:=aw h
   have p11:=fun{sc F} (r:PS sc F)=>p7<|sg 9 c6<|sv (qB (k:=.i64) Tryz.underlying9 bc8)<|ba (pl br9)<|r
   rcases aT h with⟨c10,h⟩|⟨c10,h⟩
   ·obtain⟨c12,bc12,h⟩:=aw h
    obtain rfl:=lf h
    exact co HF (p11<|sg 15 c10<|sv (qB (k:=.i64) Tryz.underlying9 bc12)<|eF .normal (gR s i (c12 !=95))) (by kernel_rfl)
   ·obtain rfl:=lf h
    exact co HF (p11<|sg 15 c10<|eF .normal (gR s i false)) (by kernel_rfl)
 ·obtain rfl:=lf h
  exact co HF (p5<|sg 6 c4<|eF .normal (gR s i false)) (by kernel_rfl)
end
section
variable(s:ag)(i:Int)
def gS:av:=aN 32 [(0,.str s),(3,.int .i64 i)] [] []
def gT(o:Unit⊕(Unit)):Exit:=match o with
 |(.inl _)=>.ret
 |(.inr _)=>.exit 0
def fk(o:Unit⊕(Unit)):av:=match o with
 |(.inl o)=>aN 32 [(2,.bool false)] [] []
 |(.inr o)=>aN 32 [] [] []
def tZ:Option (Int⊕(Unit⊕(Unit))):=
 if(decide (i<(s.length:Int)))=true then
  (xE s i).bind fun o13=>
  if o13=true then
   some (.inr (.inl ()))
  else
   some (.inl (bA (i+1)))
 else
  some (.inr (.inr ()))
def xF:Option (Unit⊕(Unit)):=loop (fun(zz:Int)=>tZ s zz) i
theorem Ag{y:Int⊕(Unit⊕(Unit))}(h:tZ s i=some y):
  aB Pg GE 0 (cA Nu 55) (LQ (fun(zz:Int)=>gS s zz) gT fk y) (gS s i):=by
 rcases aT h with⟨c1,h⟩|⟨c1,h⟩
 ·obtain⟨o13,bo13,h⟩:=aw h
  have p15:=fun{sc F} (r:PS sc F)=>cD (sA Tryz.underlying9 s)<|sg 0 c1<|kK 1<|cC (BP s i bo13)<|r
  rcases aT h with⟨c14,h⟩|⟨c14,h⟩
  ·obtain rfl:=lf h
   have z:=p15<|sg 0 c14<|eF (gT (.inl ())) (fk (.inl ()))
   exact gf HF (by intro hx;cases hx) z (by kernel_rfl)
  ·obtain rfl:=lf h
   exact rY HF (p15<|sg 0 c14<|eF .normal (gS s (bA (i+1)))) (by kernel_rfl)
 ·obtain rfl:=lf h
  have z:=cD (sA Tryz.underlying9 s)<|sg 0 c1<|eF (gT (.inr ())) (fk (.inr ()))
  exact gf HF (by intro hx;cases hx) z (by kernel_rfl)
theorem rX{x:Unit⊕(Unit)}(h:xF s i=some x):
  aB Pg GE 0 (.loop (cA Nu 55)) (EX (gT x) (fk x)) (gS s i):=
 aB.loop (S:=fun(zz:Int)=>gS s zz) (ex:=gT) (s:=i) h fun zz y hy=>Ag s zz hy
end
def E4(s:ag):Option Bool:=
 (xF s 0).bind fun o16=>match o16 with
 |(.inl o16)=>
  some false
 |(.inr o16)=>
  some true
theorem GA{s:ag}{r:Bool}(h:E4 s=some r):CC Pg GE 162 [.str s] (.bool r) []:=by
 obtain⟨o16,bo16,h⟩:=aw h
 rcases o16 with o16|o16
 ·obtain rfl:=lf h
  have z:=cC (e:=.ret) (s1:=fk (.inl o16)) (rX s 0 bo16)<|en (aI (rP (.bool false))<|trivial)
  exact b7 HF Tryz.call162 Tryz.func162 (c:=Nu) rfl (aI trivial trivial) z (by kernel_rfl)
 ·obtain rfl:=lf h
  have z:=cC (e:=.exit 0) (s1:=fk (.inr o16)) (rX s 0 bo16)<|en (aI (rP (.bool true))<|trivial)
  exact b7 HF Tryz.call162 Tryz.func162 (c:=Nu) rfl (aI trivial trivial) z (by kernel_rfl)
def Jh:Code:=Tryz.f134.body.getD .skip
def zn:List Nat:=[]
section
variable(first:ag)(rest:ag)(more:Bool)
def Dh:av:=aN 52 [(3,.str first),(4,.str rest),(5,.bool more)] [] []
def gM(o:Bool):av:=aN 52 [(4,.str rest),(5,.bool more),(31,.bool o)] [] []
def xv:Option Bool:=
 (yW first).bind fun r3=>
 if (!r3) = true then
  (CB first).bind fun r5=>
  if(!r5)=true then
   if(!(first==([118]:ag)))=true then
    some true
   else
    some (!more)
  else
   some false
 else
  some false
theorem BH{x:Bool}(h:xv first more=some x):
  aB Pg GE 0 (cA Jh 60) (EX .normal (gM rest more x)) (Dh first rest more):=by
 obtain⟨r3,br3,h⟩:=aw h
 rcases aT h with⟨c4,h⟩|⟨c4,h⟩
 ·obtain⟨r5,br5,h⟩:=aw h
  have p7:=fun{sc F} (r:PS sc F)=>ba (rf br3)<|sg 4 c4<|ba (E3 br5)<|r
  rcases aT h with⟨c6,h⟩|⟨c6,h⟩
  ·have p9:=fun{sc F} (r:PS sc F)=>p7<|sg 9 c6<|r
   rcases aT h with⟨c8,h⟩|⟨c8,h⟩
   ·obtain rfl:=lf h
    exact co zn (p9<|sg 12 c8<|eF .normal (gM rest more true)) (by kernel_rfl)
   ·obtain rfl:=lf h
    exact co zn (p9<|sg 12 c8<|eF .normal (gM rest more (!more))) (by kernel_rfl)
  ·obtain rfl:=lf h
   exact co zn (p7<|sg 9 c6<|eF .normal (gM rest more false)) (by kernel_rfl)
 ·obtain rfl:=lf h
  exact co zn (ba (rf br3)<|sg 4 c4<|eF .normal (gM rest more false)) (by kernel_rfl)
end
section
variable(rest:ag)(more:Bool)(part:ag)
def Di:av:=aN 52 [(4,.str rest),(5,.bool more),(6,.str part)] [] []
def j8(o:Bool):av:=aN 52 [(4,.str rest),(5,.bool more),(51,.bool o)] [] []
def xw:Option Bool:=
 (qo part).bind fun r15=>
 if(!r15)=true then
  some true
 else
  (kh part).bind fun r17=>
  if(!r17)=true then
   (E4 part).bind fun r20=>
   some (!r20)
  else
   some false
theorem BI{x:Bool}(h:xw part=some x):
  aB Pg GE 0 (cA Jh 8062) (EX .normal (j8 rest more x)) (Di rest more part):=by
 obtain⟨r15,br15,h⟩:=aw h
 rcases aT h with⟨c16,h⟩|⟨c16,h⟩
 ·obtain rfl:=lf h
  exact co zn (ba (gd br15)<|sg 4 c16<|eF .normal (j8 rest more true)) (by kernel_rfl)
 ·obtain⟨r17,br17,h⟩:=aw h
  have p19:=fun{sc F} (r:PS sc F)=>ba (gd br15)<|sg 4 c16<|ba (lY br17)<|r
  rcases aT h with⟨c18,h⟩|⟨c18,h⟩
  ·obtain⟨r20,br20,h⟩:=aw h
   obtain rfl:=lf h
   exact co zn (p19<|sg 8 c18<|ba (GA br20)<|eF .normal (j8 rest more (!r20))) (by kernel_rfl)
  ·obtain rfl:=lf h
   exact co zn (p19<|sg 8 c18<|eF .normal (j8 rest more false)) (by kernel_rfl)
end
section
variable(rest:ag)(more:Bool)
def gN:av:=aN 52 [(4,.str rest),(5,.bool more)] [] []
def gO(o:Unit⊕(Unit)):Exit:=match o with
 |(.inl _)=>.ret
 |(.inr _)=>.exit 0
def fi(o:Unit⊕(Unit)):av:=match o with
 |(.inl o)=>aN 52 [(2,.int .i64 3)] [] []
 |(.inr o)=>aN 52 [] [] []
def tW:Option ((ag×Bool)⊕(Unit⊕(Unit))):=
 if more=true then
  (BK rest).bind fun r14=>
  (xw r14.1).bind fun o21=>
  if o21=true then
   some (.inr (.inl ()))
  else
   some (.inl (r14.2.1,r14.2.2))
 else
  some (.inr (.inr ()))
def xx:Option (Unit⊕(Unit)):=loop (fun(zz:ag×Bool)=>tW zz.1 zz.2) (rest,more)
theorem zZ{y:(ag×Bool)⊕(Unit⊕(Unit))}(h:tW rest more=some y):
  aB Pg GE 0 (cA Jh 251) (LQ (fun(zz:ag×Bool)=>gN zz.1 zz.2) gO fi y) (gN rest more):=by
 rcases aT h with⟨c13,h⟩|⟨c13,h⟩
 ·obtain⟨r14,br14,h⟩:=aw h
  obtain⟨o21,bo21,h⟩:=aw h
  have p23:=fun{sc F} (r:PS sc F)=>sg 0 c13<|ba (Ac br14)<|kK 0<|cC (BI r14.2.1 r14.2.2 r14.1 bo21)<|r
  rcases aT h with⟨c22,h⟩|⟨c22,h⟩
  ·obtain rfl:=lf h
   have z:=p23<|sg 0 c22<|eF (gO (.inl ())) (fi (.inl ()))
   exact gf zn (by intro hx;cases hx) z (by kernel_rfl)
  ·obtain rfl:=lf h
   exact rY zn (p23<|sg 0 c22<|eF .normal (gN r14.2.1 r14.2.2)) (by kernel_rfl)
 ·obtain rfl:=lf h
  have z:=sg 0 c13<|eF (gO (.inr ())) (fi (.inr ()))
  exact gf zn (by intro hx;cases hx) z (by kernel_rfl)
theorem rQ{x:Unit⊕(Unit)}(h:xx rest more=some x):
  aB Pg GE 0 (.loop (cA Jh 251)) (EX (gO x) (fi x)) (gN rest more):=
 aB.loop (S:=fun(zz:ag×Bool)=>gN zz.1 zz.2) (ex:=gO) (s:=(rest,more)) h fun zz y hy=>zZ zz.1 zz.2 hy
end
def yS(s:ag):Option Int:=
 if(decide ((s.length:Int)>120))=true then
  some 3
 else
  (BK s).bind fun r2=>
  (xv r2.1 r2.2.2).bind fun o10=>
  if o10=true then
   some 3
  else
   (xx r2.2.1 r2.2.2).bind fun o24=>match o24 with
   |(.inl o24)=>
    some 3
   |(.inr o24)=>
    some 0
theorem xy{s:ag}{r:Int}(h:yS s=some r):CC Pg GE 134 [.str s] (.int .i64 r) []:=by
 rcases aT h with⟨c1,h⟩|⟨c1,h⟩
 ·obtain rfl:=lf h
  have z:=cD (sA Tryz.underlying9 s)<|sg 0 c1<|en (aI (rP (.int .i64 3))<|trivial)
  exact b7 zn Tryz.call134 Tryz.func134 (c:=Jh) rfl (aI trivial trivial) z (by kernel_rfl)
 ·obtain⟨r2,br2,h⟩:=aw h
  obtain⟨o10,bo10,h⟩:=aw h
  have p12:=fun{sc F} (r:PS sc F)=>cD (sA Tryz.underlying9 s)<|sg 0 c1<|ba (Ac br2)<|kK 1<|cC (BH r2.1 r2.2.1 r2.2.2 bo10)<|r
  rcases aT h with⟨c11,h⟩|⟨c11,h⟩
  ·obtain rfl:=lf h
   have z:=p12<|sg 0 c11<|en (aI (rP (.int .i64 3))<|trivial)
   exact b7 zn Tryz.call134 Tryz.func134 (c:=Jh) rfl (aI trivial trivial) z (by kernel_rfl)
  ·obtain⟨o24,bo24,h⟩:=aw h
   rcases o24 with o24|o24
   ·obtain rfl:=lf h
    have z:=p12<|sg 0 c11<|cC (e:=.ret) (s1:=fi (.inl o24)) (rQ r2.2.1 r2.2.2 bo24)<|en (aI (rP (.int .i64 3))<|trivial)
    exact b7 zn Tryz.call134 Tryz.func134 (c:=Jh) rfl (aI trivial trivial) z (by kernel_rfl)
   ·obtain rfl:=lf h
    have z:=p12<|sg 0 c11<|cC (e:=.exit 0) (s1:=fi (.inr o24)) (rQ r2.2.1 r2.2.2 bo24)<|en (aI (rP (.int .i64 0))<|trivial)
    exact b7 zn Tryz.call134 Tryz.func134 (c:=Jh) rfl (aI trivial trivial) z (by kernel_rfl)
end Go.Proofs.YtggeppllafbidaaGreatDoor
