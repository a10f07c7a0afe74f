/- PROVED: parts of the proof (G2). Conditions: none. -/
import Derived.Test.YtggeppllafbidaaGreatDoorPkA13
noncomputable section
namespace Go.Proofs.YtggeppllafbidaaGreatDoor
open Go
set_option linter.unusedVariables false
set_option maxRecDepth 100000
def Tf:Code:=Tryz.f99.body.getD .skip
def SX:List Nat:=[21]
section
variable(R23:mL)(t14:waB)(t15:Int)(m:waB)(m2:Int)(m3:ag)(m4:Int)(t16:Int)(m5:waB)
def gh:av:=aN 29 [(2,.bptr 1 0),(3,.bptr 2 0),(14,sl ac t14),(15,.int .i64 t15),(16,.int .i64 t16)] [.dead,.cells [.int .i64 0,.str ([]:ag),.int .i64 0,sl ac m] [(3,28)],.cells [.int .i64 m2,.str m3,.int .i64 m4,sl ac m5] [(3,28)]] []
def mz(o:waB):av:=aN 29 [(2,.bptr 1 0),(3,.bptr 2 0)] [.dead,.cells [.int .i64 0,.str ([]:ag),.int .i64 0,sl ac m] [(3,28)],.cells [.int .i64 m2,.str m3,.int .i64 m4,sl ac o] [(3,28)]] []
def jf:Option ((Int×waB)⊕(waB)):=
 if(decide (t16<t15))=true then
  (dv t14 t16).bind fun x2=>
  (R23 x2).bind fun r3=>
  (app m5 ([r3]:List aa)).bind fun l4=>
  some (.inl (bA (t16+1),l4))
 else
  some (.inr m5)
def pr:Option waB:=loop (fun(zz:Int×waB)=>jf R23 t14 t15 zz.1 zz.2) (t16,m5)
theorem y6(hR23:qE R23){y:(Int×waB)⊕(waB)}(h:jf R23 t14 t15 t16 m5=some y):
  aB Pg GE 0 (cA Tf 119) (LQ (fun(zz:Int×waB)=>gh t14 t15 m m2 m3 m4 zz.1 zz.2) (fun _=>.exit 0) (mz m m2 m3 m4) y) (gh t14 t15 m m2 m3 m4 t16 m5):=by
 rcases aT h with⟨c1,h⟩|⟨c1,h⟩
 ·obtain⟨x2,bx2,h⟩:=aw h
  obtain⟨r3,br3,h⟩:=aw h
  obtain⟨l4,bl4,h⟩:=aw h
  obtain rfl:=lf h
  have z:=sg 0 c1<|sv (aR.ia (k:=.i64) bx2)<|sv (az x2)<|sx eX<|sx (bv x2)<|rp [0,1,0,4,12,31,63,127]<|sv (aX x2 [])<|ba (hR23 _ _ br3)<|sv (aR.mk' (v:=ce) aY ([r3]:List aa) 1 (by kernel_rfl))<|sv (aR.ap bl4)<|M0 (rfl:bR (sl ac l4)=some [sl ac l4])<|pg 0 .normal (gh t14 t15 m m2 m3 m4 (bA (t16+1)) l4) rfl (cF (aI (cV rfl) (aI (cV rfl) (aI (up (am ah t14)) (aI trivial (aI trivial trivial)))))) (aI trivial (aI (aI trivial (aI trivial (aI trivial (aI (up (am ah m)) trivial)))) (aI (aI trivial (aI trivial (aI trivial (aI (up (am ah l4)) trivial)))) trivial)))
  exact cz (A:=SX) mixed z (by kernel_rfl)
 ·obtain rfl:=lf h
  have z:=sg 0 c1<|eF (.exit 0) (mz m m2 m3 m4 m5)
  exact gf SX (by intro hx;cases hx) z (by kernel_rfl)
theorem Av(hR23:qE R23){x:waB}(h:pr R23 t14 t15 t16 m5=some x):
  aB Pg GE 0 (.loop (cA Tf 119)) (EX (.exit 0) (mz m m2 m3 m4 x)) (gh t14 t15 m m2 m3 m4 t16 m5):=
 aB.loop (S:=fun(zz:Int×waB)=>gh t14 t15 m m2 m3 m4 zz.1 zz.2) (ex:=(fun _=>.exit 0)) (s:=(t16,m5)) h fun zz y hy=>y6 R23 t14 t15 m m2 m3 m4 zz.1 zz.2 hR23 hy
end
def rj(R23:mL)(p:aa):Option aa:=
 (pr R23 p.Kids (p.Kids.length:Int) 0 ([]:List aa)).bind fun o5=>
 some (⟨p.Op,p.Name,p.N,o5⟩:aa)
theorem Dp(R23:mL)(hR23:qE R23){p:aa}{r:aa}(h:rj R23 p=some r):CC Pg GE 99 [.agg (ac p)] (.agg (ac r)) [(3,28)]:=by
 obtain⟨o5,bo5,h⟩:=aw h
 obtain rfl:=lf h
 have z:=se (bM p)<|sx eX<|sv (aP p)<|sv (aQ p)<|sv (bT p)<|sv (cm p)<|sv (cf p)<|sv (cp p)<|sb (pd p.Op p.Name p.N) (pb p.Op p.Name p.N)<|sx eX<|sy (aE (⟨p.Op,p.Name,p.N,([]:List aa)⟩:aa))<|sv (aF p)<|sv (aH p)<|cD (aR.ln p.Kids)<|cC (Av R23 p.Kids (p.Kids.length:Int) ([]:List aa) p.Op p.Name p.N 0 ([]:List aa) hR23 bo5)<|sz (aX (⟨p.Op,p.Name,p.N,o5⟩:aa) [])<|sy (aE (⟨p.Op,p.Name,p.N,o5⟩:aa))<|en (aI (cQ (⟨p.Op,p.Name,p.N,o5⟩:aa))<|aI (ah (⟨p.Op,p.Name,p.N,o5⟩:aa))<|rT)
 exact b7 SX Tryz.call99 Tryz.func99 (c:=Tf) rfl (aI (ah p) trivial) z (by kernel_rfl)
def mQ:(aa->Option aa)->(aa)->Option aa:=fun(rec:aa->Option aa) (x:aa)=>rj (fun p=>rec p) x
def nj(p:aa):Option aa:=nw mQ p
theorem pu{p:aa}{r:aa}(h:nj p=some r):CC Pg GE 99 [.agg (ac p)] (.agg (ac r)) [(3,28)]:=
 cT (F:=mQ) (M:=fun(x:aa) (r:aa)=>CC Pg GE 99 [.agg (ac x)] (.agg (ac r)) [(3,28)]) (fun rec hrec x r h=>Dp _ (fun p r h=>hrec p r h) h) h
def L6:Code:=Tryz.f101.body.getD .skip
def HD:List Nat:=[46]
section
variable(v:waA)(v2:waB)(p:aa)(i:Int)(m:waB)
def y5:av:=aN 56 [(1,sl cS v),(2,sl ac v2),(3,.eptr (ac p)),(6,.bptr 1 0),(7,.int .i64 i)] [.dead,.cells [.int .i64 0,.str ([]:ag),.int .i64 0,sl ac m] [(3,28)]] []
def km(o:Bool):av:=aN 56 [(1,sl cS v),(2,sl ac v2),(3,.eptr (ac p)),(6,.bptr 1 0),(7,.int .i64 i),(25,.bool o)] [.dead,.cells [.int .i64 0,.str ([]:ag),.int .i64 0,sl ac m] [(3,28)]] []
def mw:Option Bool:=
 if(decide (i>=0))=true then
  some (decide (i<(v2.length:Int)))
 else
  some false
theorem wS{x:Bool}(h:mw v2 i=some x):
  aB Pg GE 0 (cA L6 106) (EX .normal (km v v2 p i m x)) (y5 v v2 p i m):=by
 rcases aT h with⟨c4,h⟩|⟨c4,h⟩
 ·obtain rfl:=lf h
  exact co HD (sg 3 c4<|cD (aR.ln v2)<|eF .normal (km v v2 p i m (decide (i<(v2.length:Int))))) (by kernel_rfl)
 ·obtain rfl:=lf h
  exact co HD (sg 3 c4<|eF .normal (km v v2 p i m false)) (by kernel_rfl)
end
section
variable(v:waA)(v2:waB)(p:aa)(m:waB)
def y4:av:=aN 56 [(1,sl cS v),(2,sl ac v2),(3,.eptr (ac p)),(6,.bptr 1 0)] [.dead,.cells [.int .i64 0,.str ([]:ag),.int .i64 0,sl ac m] [(3,28)]] []
def gv(o:(Int×ag×Int×waB)⊕(Unit)):Exit:=match o with
 |(.inl _)=>.ret
 |(.inr _)=>.normal
def dV(o:(Int×ag×Int×waB)⊕(Unit)):av:=match o with
 |(.inl o)=>aN 56 [(6,.bptr 1 0)] [.dead,.cells [.int .i64 o.1,.str o.2.1,.int .i64 o.2.2.1,sl ac o.2.2.2] [(3,28)]] []
 |(.inr o)=>aN 56 [(1,sl cS v),(2,sl ac v2),(3,.eptr (ac p)),(6,.bptr 1 0)] [.dead,.cells [.int .i64 0,.str ([]:ag),.int .i64 0,sl ac m] [(3,28)]] []
def je:Option ((Int×ag×Int×waB)⊕(Unit)):=
 if(p.Op==3)=true then
  (tC v p.Name).bind fun r3=>
  (mw v2 r3).bind fun o5=>
  if o5=true then
   (dv v2 r3).bind fun x8=>
   (nj x8).bind fun r9=>
   some (.inl (r9.Op,r9.Name,r9.N,r9.Kids))
  else
   some (.inr ())
 else
  some (.inr ())
theorem nR{x:(Int×ag×Int×waB)⊕(Unit)}(h:je v v2 p=some x):
  aB Pg GE 0 (cA L6 6) (EX (gv x) (dV v v2 p m x)) (y4 v v2 p m):=by
 have p2:=fun{sc F} (r:PS sc F)=>sv (aP p)<|sv (aQ p)<|r
 rcases aT h with⟨c1,h⟩|⟨c1,h⟩
 ·obtain⟨r3,br3,h⟩:=aw h
  obtain⟨o5,bo5,h⟩:=aw h
  have p7:=fun{sc F} (r:PS sc F)=>p2<|sg 0 c1<|sv (bT p)<|sv (cm p)<|ba (xz br3)<|kK 0<|cC (wS v v2 p r3 m bo5)<|r
  rcases aT h with⟨c6,h⟩|⟨c6,h⟩
  ·obtain⟨x8,bx8,h⟩:=aw h
   obtain⟨r9,br9,h⟩:=aw h
   obtain rfl:=lf h
   exact co HD (p7<|sg 0 c6<|sv (aR.ia (k:=.i64) bx8)<|sv (az x8)<|ba (pu br9)<|sy (aE r9)<|eF (gv (.inl (r9.Op,r9.Name,r9.N,r9.Kids))) (dV v v2 p m (.inl (r9.Op,r9.Name,r9.N,r9.Kids)))) (by kernel_rfl)
  ·obtain rfl:=lf h
   exact co HD (p7<|sg 0 c6<|eF (gv (.inr ())) (dV v v2 p m (.inr ()))) (by kernel_rfl)
 ·obtain rfl:=lf h
  exact co HD (p2<|sg 0 c1<|eF (gv (.inr ())) (dV v v2 p m (.inr ()))) (by kernel_rfl)
end
section
variable(R21:j1)(v:waA)(v2:waB)(t39:waB)(t40:Int)(m:waB)(m2:Int)(m3:ag)(m4:Int)(t41:Int)(m5:waB)
def eW:av:=aN 56 [(1,sl cS v),(2,sl ac v2),(6,.bptr 1 0),(8,.bptr 2 0),(39,sl ac t39),(40,.int .i64 t40),(41,.int .i64 t41)] [.dead,.cells [.int .i64 0,.str ([]:ag),.int .i64 0,sl ac m] [(3,28)],.cells [.int .i64 m2,.str m3,.int .i64 m4,sl ac m5] [(3,28)]] []
def ko(o:waB):av:=aN 56 [(6,.bptr 1 0),(8,.bptr 2 0)] [.dead,.cells [.int .i64 0,.str ([]:ag),.int .i64 0,sl ac m] [(3,28)],.cells [.int .i64 m2,.str m3,.int .i64 m4,sl ac o] [(3,28)]] []
def pq:Option ((Int×waB)⊕(waB)):=
 if(decide (t41<t40))=true then
  (dv t39 t41).bind fun x12=>
  (R21 x12 v v2).bind fun r13=>
  (app m5 ([r13]:List aa)).bind fun l14=>
  some (.inl (bA (t41+1),l14))
 else
  some (.inr m5)
def my:Option waB:=loop (fun(zz:Int×waB)=>pq R21 v v2 t39 t40 zz.1 zz.2) (t41,m5)
theorem vN(hR21:nn R21){y:(Int×waB)⊕(waB)}(h:pq R21 v v2 t39 t40 t41 m5=some y):
  aB Pg GE 0 (cA L6 247) (LQ (fun(zz:Int×waB)=>eW v v2 t39 t40 m m2 m3 m4 zz.1 zz.2) (fun _=>.exit 0) (ko m m2 m3 m4) y) (eW v v2 t39 t40 m m2 m3 m4 t41 m5):=by
 rcases aT h with⟨c11,h⟩|⟨c11,h⟩
 ·obtain⟨x12,bx12,h⟩:=aw h
  obtain⟨r13,br13,h⟩:=aw h
  obtain⟨l14,bl14,h⟩:=aw h
  obtain rfl:=lf h
  have z:=sg 0 c11<|sv (aR.ia (k:=.i64) bx12)<|sv (az x12)<|sx eX<|sx (bv x12)<|rp [0,1,0,0,0,28,60,127,255,511]<|sv (aX x12 [])<|ba (hR21 _ _ _ _ br13)<|sv (aR.mk' (v:=ce) aY ([r13]:List aa) 1 (by kernel_rfl))<|sv (aR.ap bl14)<|M0 (rfl:bR (sl ac l14)=some [sl ac l14])<|pg 0 .normal (eW v v2 t39 t40 m m2 m3 m4 (bA (t41+1)) l14) rfl (cF (aI (up (am dS v)) (aI (up (am ah v2)) (aI (cV rfl) (aI (cV rfl) (aI (up (am ah t39)) (aI trivial (aI trivial trivial)))))))) (aI trivial (aI (aI trivial (aI trivial (aI trivial (aI (up (am ah m)) trivial)))) (aI (aI trivial (aI trivial (aI trivial (aI (up (am ah l14)) trivial)))) trivial)))
  exact cz (A:=HD) mixed z (by kernel_rfl)
 ·obtain rfl:=lf h
  have z:=sg 0 c11<|eF (.exit 0) (ko m m2 m3 m4 m5)
  exact gf HD (by intro hx;cases hx) z (by kernel_rfl)
theorem wU(hR21:nn R21){x:waB}(h:my R21 v v2 t39 t40 t41 m5=some x):
  aB Pg GE 0 (.loop (cA L6 247)) (EX (.exit 0) (ko m m2 m3 m4 x)) (eW v v2 t39 t40 m m2 m3 m4 t41 m5):=
 aB.loop (S:=fun(zz:Int×waB)=>eW v v2 t39 t40 m m2 m3 m4 zz.1 zz.2) (ex:=(fun _=>.exit 0)) (s:=(t41,m5)) h fun zz y hy=>vN R21 v v2 t39 t40 m m2 m3 m4 zz.1 zz.2 hR21 hy
end
def kb(R21:j1)(p:aa)(a:waA)(a2:waB):Option aa:=
 (je a a2 p).bind fun o10=>match o10 with
 |(.inl o10)=>
  some (⟨o10.1,o10.2.1,o10.2.2.1,o10.2.2.2⟩:aa)
 |(.inr o10)=>
  (my R21 a a2 p.Kids (p.Kids.length:Int) 0 ([]:List aa)).bind fun o15=>
  some (⟨p.Op,p.Name,p.N,o15⟩:aa)
theorem Au(R21:j1)(hR21:nn R21){p:aa}{a:waA}{a2:waB}{r:aa}(h:kb R21 p a a2=some r):CC Pg GE 101 [.agg (ac p),sl cS a,sl ac a2] (.agg (ac r)) [(3,28)]:=by
 obtain⟨o10,bo10,h⟩:=aw h
 rcases o10 with o10|o10
 ·obtain rfl:=lf h
  have z:=se (bM p)<|sx eX<|kK 0<|cC (e:=.ret) (s1:=dV a a2 p ([]:List aa) (.inl o10)) (nR a a2 p ([]:List aa) bo10)<|en (aI (cQ (⟨o10.1,o10.2.1,o10.2.2.1,o10.2.2.2⟩:aa))<|aI (ah (⟨o10.1,o10.2.1,o10.2.2.1,o10.2.2.2⟩:aa))<|rT)
  exact b7 HD Tryz.call101 Tryz.func101 (c:=L6) rfl (aI (ah p) (aI (am dS a) (aI (am ah a2) trivial))) z (by kernel_rfl)
 ·obtain⟨o15,bo15,h⟩:=aw h
  obtain rfl:=lf h
  have z:=se (bM p)<|sx eX<|kK 0<|cC (e:=.normal) (s1:=dV a a2 p ([]:List aa) (.inr o10)) (nR a a2 p ([]:List aa) bo10)<|sv (aP p)<|sv (aQ p)<|sv (bT p)<|sv (cm p)<|sv (cf p)<|sv (cp p)<|sb (pd p.Op p.Name p.N) (pb p.Op p.Name p.N)<|sx eX<|sy (aE (⟨p.Op,p.Name,p.N,([]:List aa)⟩:aa))<|sv (aF p)<|sv (aH p)<|cD (aR.ln p.Kids)<|cC (wU R21 a a2 p.Kids (p.Kids.length:Int) ([]:List aa) p.Op p.Name p.N 0 ([]:List aa) hR21 bo15)<|sz (aX (⟨p.Op,p.Name,p.N,o15⟩:aa) [])<|sy (aE (⟨p.Op,p.Name,p.N,o15⟩:aa))<|en (aI (cQ (⟨p.Op,p.Name,p.N,o15⟩:aa))<|aI (ah (⟨p.Op,p.Name,p.N,o15⟩:aa))<|rT)
  exact b7 HD Tryz.call101 Tryz.func101 (c:=L6) rfl (aI (ah p) (aI (am dS a) (aI (am ah a2) trivial))) z (by kernel_rfl)
def nz:((aa×waA×waB)->Option aa)->(aa×waA×waB)->Option aa:=fun(rec:(aa×waA×waB)->Option aa) (x:aa×waA×waB)=>kb (fun p a a2=>rec (p,a,a2)) x.1 x.2.1 x.2.2
def mP(p:aa)(a:waA)(a2:waB):Option aa:=nw nz (p,a,a2)
theorem sh{p:aa}{a:waA}{a2:waB}{r:aa}(h:mP p a a2=some r):CC Pg GE 101 [.agg (ac p),sl cS a,sl ac a2] (.agg (ac r)) [(3,28)]:=
 cT (F:=nz) (M:=fun(x:aa×waA×waB) (r:aa)=>CC Pg GE 101 [.agg (ac x.1),sl cS x.2.1,sl ac x.2.2] (.agg (ac r)) [(3,28)]) (fun rec hrec x r h=>Au _ (fun p a a2 r h=>hrec (p,a,a2) r h) h) h
def UU:Code:=Tryz.f89.body.getD .skip
def UF:List Nat:=[]
def cj(s:ai)(p:aa):Option aa:=
 (mP p s.names s.by_).bind fun r1=>
 some r1
theorem ew{s:ai}{p:aa}{r:aa}(h:cj s p=some r):CC Pg GE 89 [.agg (aq s),.agg (ac p)] (.agg (ac r)) [(3,28)]:=by
 obtain⟨r1,br1,h⟩:=aw h
 obtain rfl:=lf h
 have z:=se (cJ s)<|se (bM p)<|sx eX<|sv (az p)<|sv (gJ s)<|sv (gL s)<|sv (ep s)<|sv (er s)<|ba (sh br1)<|sy (aE r1)<|en (aI (cQ r1)<|aI (ah r1)<|rT)
 exact b7 UF Tryz.call89 Tryz.func89 (c:=UU) rfl (aI (aU s) (aI (ah p) trivial)) z (by kernel_rfl)
def S9:Code:=Tryz.f73.body.getD .skip
def ST:List Nat:=[14,21]
section
variable(v:ai)(t8:waB)(t9:Int)(out:waB)(t10:Int)
def eD:av:=aN 22 [(1,.func (.func 89) [.agg (aq v)] []),(5,sl ac out),(8,sl ac t8),(9,.int .i64 t9),(10,.int .i64 t10)] [] [((5,0),28)]
def jp(o:waB):av:=aN 22 [(5,sl ac o)] [] [((5,0),28)]
def nS:Option ((waB×Int)⊕(waB)):=
 if(decide (t10<t9))=true then
  (dv t8 t10).bind fun x2=>
  (cj v x2).bind fun r3=>
  (app out ([r3]:List aa)).bind fun l4=>
  some (.inl (l4,bA (t10+1)))
 else
  some (.inr out)
def lK:Option waB:=loop (fun(zz:waB×Int)=>nS v t8 t9 zz.1 zz.2) (out,t10)
theorem uB{y:(waB×Int)⊕(waB)}(h:nS v t8 t9 out t10=some y):
  aB Pg GE 0 (cA S9 119) (LQ (fun(zz:waB×Int)=>eD v t8 t9 zz.1 zz.2) (fun _=>.exit 0) jp y) (eD v t8 t9 out t10):=by
 rcases aT h with⟨c1,h⟩|⟨c1,h⟩
 ·obtain⟨x2,bx2,h⟩:=aw h
  obtain⟨r3,br3,h⟩:=aw h
  obtain⟨l4,bl4,h⟩:=aw h
  obtain rfl:=lf h
  have z:=sg 0 c1<|sv (aR.ia (k:=.i64) bx2)<|sv (az x2)<|sx eX<|sx (bv x2)<|sv (aX x2 [])<|ba (ew br3)<|sv (aR.mk' (v:=ce) aY ([r3]:List aa) 1 (by kernel_rfl))<|sv (aR.ap bl4)<|pg 0 .normal (eD v t8 t9 l4 (bA (t10+1))) rfl (cF (aI (aI (aI (up (aU v)) trivial) trivial) (aI (up (am ah l4)) (aI (up (am ah t8)) (aI trivial (aI trivial trivial)))))) trivial
  exact cz (A:=ST) mixed z (by kernel_rfl)
 ·obtain rfl:=lf h
  have z:=sg 0 c1<|eF (.exit 0) (jp out)
  exact gf ST (by intro hx;cases hx) z (by kernel_rfl)
theorem vU{x:waB}(h:lK v t8 t9 out t10=some x):
  aB Pg GE 0 (.loop (cA S9 119)) (EX (.exit 0) (jp x)) (eD v t8 t9 out t10):=
 aB.loop (S:=fun(zz:waB×Int)=>eD v t8 t9 zz.1 zz.2) (ex:=(fun _=>.exit 0)) (s:=(out,t10)) h fun zz y hy=>uB v t8 t9 zz.1 zz.2 hy
end
def iX(a:waB)(c:ai):Option waB:=
 (lK c a (a.length:Int) ([]:List aa) 0).bind fun o5=>
 some o5
theorem qx{a:waB}{c:ai}{r:waB}(h:iX a c=some r):CC Pg GE 73 [sl ac a,.func (.func 89) [.agg (aq c)] []] (sl ac r) [(0,28)]:=by
 obtain⟨o5,bo5,h⟩:=aw h
 obtain rfl:=lf h
 have z:=cD (aR.ln a)<|cC (vU c a (a.length:Int) ([]:List aa) 0 bo5)<|en (aI (rP (sl ac o5))<|(am ah o5))
 exact b7 ST Tryz.call73 Tryz.func73 (c:=S9) rfl (aI (am ah a) (aI (aI (aI (aU c) trivial) trivial) trivial)) z (by kernel_rfl)
def QB:Code:=Tryz.f118.body.getD .skip
def Ql:List Nat:=[13,18]
section
variable(t7:waB)(t8:Int)(out:waA)(t9:Int)
def ct:av:=aN 19 [(3,sl cS out),(7,sl ac t7),(8,.int .i64 t8),(9,.int .i64 t9)] [.dead] [((3,0),9)]
def d4(o:waA):av:=aN 19 [(3,sl cS o)] [.dead] [((3,0),9)]
def dZ:Option ((waA×Int)⊕(waA)):=
 if(decide (t9<t8))=true then
  (dv t7 t9).bind fun x2=>
  (mt x2).bind fun r3=>
  (app out r3).bind fun l4=>
  some (.inl (l4,bA (t9+1)))
 else
  some (.inr out)
def eu:Option waA:=loop (fun(zz:waA×Int)=>dZ t7 t8 zz.1 zz.2) (out,t9)
theorem lL{y:(waA×Int)⊕(waA)}(h:dZ t7 t8 out t9=some y):
  aB Pg GE 0 (cA QB 119) (LQ (fun(zz:waA×Int)=>ct t7 t8 zz.1 zz.2) (fun _=>.exit 0) d4 y) (ct t7 t8 out t9):=by
 rcases aT h with⟨c1,h⟩|⟨c1,h⟩
 ·obtain⟨x2,bx2,h⟩:=aw h
  obtain⟨r3,br3,h⟩:=aw h
  obtain⟨l4,bl4,h⟩:=aw h
  obtain rfl:=lf h
  have z:=sg 0 c1<|sv (aR.ia (k:=.i64) bx2)<|sv (az x2)<|sx eX<|sx (bv x2)<|sv (aX x2 [])<|ba (Aq br3)<|sv (aW.ap bl4)<|pg 0 .normal (ct t7 t8 l4 (bA (t9+1))) rfl (cF (aI (up (am dS l4)) (aI (up (am ah t7)) (aI trivial (aI trivial trivial))))) (aI trivial trivial)
  exact cz (A:=Ql) mixed z (by kernel_rfl)
 ·obtain rfl:=lf h
  have z:=sg 0 c1<|eF (.exit 0) (d4 out)
  exact gf Ql (by intro hx;cases hx) z (by kernel_rfl)
theorem lV{x:waA}(h:eu t7 t8 out t9=some x):
  aB Pg GE 0 (.loop (cA QB 119)) (EX (.exit 0) (d4 x)) (ct t7 t8 out t9):=
 aB.loop (S:=fun(zz:waA×Int)=>ct t7 t8 zz.1 zz.2) (ex:=(fun _=>.exit 0)) (s:=(out,t9)) h fun zz y hy=>lL t7 t8 zz.1 zz.2 hy
end
def cW(s:ai):Option waA:=
 (eu s.by_ (s.by_.length:Int) ([]:List ag) 0).bind fun o5=>
 some o5
theorem g9{s:ai}{r:waA}(h:cW s=some r):CC Pg GE 118 [.agg (aq s)] (sl cS r) [(0,9)]:=by
 obtain⟨o5,bo5,h⟩:=aw h
 obtain rfl:=lf h
 have z:=se (cJ s)<|sv (ep s)<|sv (er s)<|cD (aR.ln s.by_)<|cC (lV s.by_ (s.by_.length:Int) ([]:List ag) 0 bo5)<|en (aI (rP (sl cS o5))<|(am dS o5))
 exact b7 Ql Tryz.call118 Tryz.func118 (c:=QB) rfl (aI (aU s) trivial) z (by kernel_rfl)
abbrev lc:=(ae->Option waA)
abbrev oK(R:lc):Prop:=∀(t:ae) (r:waA),R t=some r->CC Pg GE 29 [.agg (af t)] (sl cS r) [(0,9)]
def TY:Code:=Tryz.f65.body.getD .skip
def TP:List Nat:=[]
def iW(t:ae)(i:Int):Option waA:=
 if(t.Op !=6)=true then
  some ([]:List ag)
 else
  (IK t.Names none (some (if(t.Names.length:Int)<i then(t.Names.length:Int)else i))).bind fun l3=>
  some l3
theorem AP{t:ae}{i:Int}{r:waA}(h:iW t i=some r):CC Pg GE 65 [.agg (af t),.int .i64 i] (sl cS r) []:=by
 have p2:=fun{sc F} (r:PS sc F)=>se (bQ t)<|sv (aG t)<|sv (aJ t)<|r
 rcases aT h with⟨c1,h⟩|⟨c1,h⟩
 ·obtain rfl:=lf h
  have z:=p2<|sg 0 c1<|en (aI (rP (sl cS ([]:List ag)))<|(am dS ([]:List ag)))
  exact b7 TP Tryz.call65 Tryz.func65 (c:=TY) rfl (aI (al t) (aI trivial trivial)) z (by kernel_rfl)
 ·obtain⟨l3,bl3,h⟩:=aw h
  obtain rfl:=lf h
  have z:=p2<|sg 0 c1<|sv (aC t)<|sv (aD t)<|sv (aC t)<|sv (aD t)<|cD (aW.ln t.Names)<|sv (aW.sc bl3)<|en (aI (rP (sl cS l3))<|(am dS l3))
  exact b7 TP Tryz.call65 Tryz.func65 (c:=TY) rfl (aI (al t) (aI trivial trivial)) z (by kernel_rfl)
def Pj:Code:=Tryz.f29.body.getD .skip
def Nh:List Nat:=[33,44,61]
section
variable(t:ae)(t18:waB)(t19:Int)(t20:Int)(t25:waA)(t26:Int)(m:Int)(m2:ag)(m3:Int)(m4:waB)(out:waA)(t27:Int)
def ee:av:=aN 69 [(1,.eptr (af t)),(3,sl cS out),(18,sl ac t18),(19,.int .i64 t19),(20,.int .i64 t20),(25,sl cS t25),(26,.int .i64 t26),(27,.int .i64 t27)] [.dead,.cells [.int .i64 m,.str m2,.int .i64 m3,sl ac m4] []] [((25,0),9),((18,0),28),((3,0),9)]
def lH(o:waA):av:=aN 69 [(1,.eptr (af t)),(3,sl cS o),(18,sl ac t18),(19,.int .i64 t19),(20,.int .i64 t20)] [.dead,.cells [.int .i64 m,.str m2,.int .i64 m3,sl ac m4] []] [((18,0),28),((3,0),9)]
def qr:Option ((waA×Int)⊕(waA)):=
 if(decide (t27<t26))=true then
  (dv t25 t27).bind fun x6=>
  if(!(x6==([118]:ag)))=true then
   (app out ([x6]:List ag)).bind fun l9=>
   some (.inl (l9,bA (t27+1)))
  else
   some (.inl (out,bA (t27+1)))
 else
  some (.inr out)
def gZ:Option waA:=loop (fun(zz:waA×Int)=>qr t25 t26 zz.1 zz.2) (out,t27)
theorem wY{y:(waA×Int)⊕(waA)}(h:qr t25 t26 out t27=some y):
  aB Pg GE 0 (cA Pj 30687) (LQ (fun(zz:waA×Int)=>ee t t18 t19 t20 t25 t26 m m2 m3 m4 zz.1 zz.2) (fun _=>.exit 2) (lH t t18 t19 t20 m m2 m3 m4) y) (ee t t18 t19 t20 t25 t26 m m2 m3 m4 out t27):=by
 rcases aT h with⟨c5,h⟩|⟨c5,h⟩
 ·obtain⟨x6,bx6,h⟩:=aw h
  have p8:=fun{sc F} (r:PS sc F)=>sg 0 c5<|sv (aW.ia (k:=.i64) bx6)<|sv (cP xe (.str x6) [])<|r
  rcases aT h with⟨c7,h⟩|⟨c7,h⟩
  ·obtain⟨l9,bl9,h⟩:=aw h
   obtain rfl:=lf h
   exact rY Nh (p8<|sg 0 c7<|sv (aW.mk' (v:=PVal.str) CE ([x6]:List ag) 1 (by kernel_rfl))<|sv (aW.ap bl9)<|eF .normal (ee t t18 t19 t20 t25 t26 m m2 m3 m4 l9 (bA (t27+1)))) (by kernel_rfl)
  ·obtain rfl:=lf h
   exact rY Nh (p8<|sg 0 c7<|eF .normal (ee t t18 t19 t20 t25 t26 m m2 m3 m4 out (bA (t27+1)))) (by kernel_rfl)
 ·obtain rfl:=lf h
  have z:=sg 0 c5<|eF (.exit 2) (lH t t18 t19 t20 m m2 m3 m4 out)
  exact gf Nh (by intro hx;cases hx) z (by kernel_rfl)
theorem zb{x:waA}(h:gZ t25 t26 out t27=some x):
  aB Pg GE 0 (.loop (cA Pj 30687)) (EX (.exit 2) (lH t t18 t19 t20 m m2 m3 m4 x)) (ee t t18 t19 t20 t25 t26 m m2 m3 m4 out t27):=
 aB.loop (S:=fun(zz:waA×Int)=>ee t t18 t19 t20 t25 t26 m m2 m3 m4 zz.1 zz.2) (ex:=(fun _=>.exit 2)) (s:=(out,t27)) h fun zz y hy=>wY t t18 t19 t20 t25 t26 m m2 m3 m4 zz.1 zz.2 hy
end
section
variable(t:ae)(t18:waB)(t19:Int)(out:waA)(t20:Int)
def fx:av:=aN 69 [(1,.eptr (af t)),(3,sl cS out),(18,sl ac t18),(19,.int .i64 t19),(20,.int .i64 t20)] [.dead] [((18,0),28),((3,0),9)]
def lG(o:waA):av:=aN 69 [(1,.eptr (af t)),(3,sl cS o)] [.dead] [((3,0),9)]
def qq:Option ((waA×Int)⊕(waA)):=
 if(decide (t20<t19))=true then
  (dv t18 t20).bind fun x3=>
  (mt x3).bind fun r4=>
  (gZ r4 (r4.length:Int) out 0).bind fun o10=>
  some (.inl (o10,bA (t20+1)))
 else
  some (.inr out)
def nB:Option waA:=loop (fun(zz:waA×Int)=>qq t18 t19 zz.1 zz.2) (out,t20)
theorem wX{y:(waA×Int)⊕(waA)}(h:qq t18 t19 out t20=some y):
  aB Pg GE 0 (cA Pj 119) (LQ (fun(zz:waA×Int)=>fx t t18 t19 zz.1 zz.2) (fun _=>.exit 0) (lG t) y) (fx t t18 t19 out t20):=by
 rcases aT h with⟨c2,h⟩|⟨c2,h⟩
 ·obtain⟨x3,bx3,h⟩:=aw h
  obtain⟨r4,br4,h⟩:=aw h
  obtain⟨o10,bo10,h⟩:=aw h
  obtain rfl:=lf h
  have z:=sg 0 c2<|sv (aR.ia (k:=.i64) bx3)<|sv (az x3)<|sx eX<|sx (bv x3)<|sv (aX x3 [])<|ba (Aq br4)<|cD (aW.ln r4)<|cC (zb t t18 t19 t20 r4 (r4.length:Int) x3.Op x3.Name x3.N x3.Kids out 0 bo10)<|pg 0 .normal (fx t t18 t19 o10 (bA (t20+1))) rfl (cF (aI (lq (al t)) (aI (up (am dS o10)) (aI (up (am ah t18)) (aI trivial (aI trivial trivial)))))) (aI trivial trivial)
  exact cz (A:=Nh) mixed z (by kernel_rfl)
 ·obtain rfl:=lf h
  have z:=sg 0 c2<|eF (.exit 0) (lG t out)
  exact gf Nh (by intro hx;cases hx) z (by kernel_rfl)
theorem za{x:waA}(h:nB t18 t19 out t20=some x):
  aB Pg GE 0 (.loop (cA Pj 119)) (EX (.exit 0) (lG t x)) (fx t t18 t19 out t20):=
 aB.loop (S:=fun(zz:waA×Int)=>fx t t18 t19 zz.1 zz.2) (ex:=(fun _=>.exit 0)) (s:=(out,t20)) h fun zz y hy=>wX t t18 t19 zz.1 zz.2 hy
end
section
variable(t:ae)(bound:waA)(t40:waC)(t41:Int)(t42:Int)(t51:waA)(t52:Int)(m:Int)(m2:ag)(m3:waC)(m4:waA)(m5:Int)(m6:ag)(m7:Int)(m8:waB)(m9:waB)(out:waA)(t53:Int)
def ef:av:=aN 69 [(1,.eptr (af t)),(3,sl cS out),(10,sl cS bound),(40,sl af t40),(41,.int .i64 t41),(42,.int .i64 t42),(51,sl cS t51),(52,.int .i64 t52),(53,.int .i64 t53)] [.dead,.cells [.int .i64 m,.str m2,sl af m3,sl cS m4,.int .i64 m5,.str m6,.int .i64 m7,sl ac m8,sl ac m9] []] [((51,0),9),((3,0),9)]
def lJ(o:waA):av:=aN 69 [(1,.eptr (af t)),(3,sl cS o),(40,sl af t40),(41,.int .i64 t41),(42,.int .i64 t42)] [.dead,.cells [.int .i64 m,.str m2,sl af m3,sl cS m4,.int .i64 m5,.str m6,.int .i64 m7,sl ac m8,sl ac m9] []] [((3,0),9)]
def qv:Option ((waA×Int)⊕(waA)):=
 if(decide (t53<t52))=true then
  (dv t51 t53).bind fun x17=>
  (dL bound x17).bind fun r18=>
  if(!r18)=true then
   (app out ([x17]:List ag)).bind fun l21=>
   some (.inl (l21,bA (t53+1)))
  else
   some (.inl (out,bA (t53+1)))
 else
  some (.inr out)
def g8:Option waA:=loop (fun(zz:waA×Int)=>qv bound t51 t52 zz.1 zz.2) (out,t53)
theorem w9{y:(waA×Int)⊕(waA)}(h:qv bound t51 t52 out t53=some y):
  aB Pg GE 0 (cA Pj 126911) (LQ (fun(zz:waA×Int)=>ef t bound t40 t41 t42 t51 t52 m m2 m3 m4 m5 m6 m7 m8 m9 zz.1 zz.2) (fun _=>.exit 6) (lJ t t40 t41 t42 m m2 m3 m4 m5 m6 m7 m8 m9) y) (ef t bound t40 t41 t42 t51 t52 m m2 m3 m4 m5 m6 m7 m8 m9 out t53):=by
 rcases aT h with⟨c16,h⟩|⟨c16,h⟩
 ·obtain⟨x17,bx17,h⟩:=aw h
  obtain⟨r18,br18,h⟩:=aw h
  have p20:=fun{sc F} (r:PS sc F)=>sg 0 c16<|sv (aW.ia (k:=.i64) bx17)<|sv (cP xe (.str x17) [])<|ba (e8 br18)<|r
  rcases aT h with⟨c19,h⟩|⟨c19,h⟩
  ·obtain⟨l21,bl21,h⟩:=aw h
   obtain rfl:=lf h
   exact rY Nh (p20<|sg 0 c19<|sv (aW.mk' (v:=PVal.str) CE ([x17]:List ag) 1 (by kernel_rfl))<|sv (aW.ap bl21)<|eF .normal (ef t bound t40 t41 t42 t51 t52 m m2 m3 m4 m5 m6 m7 m8 m9 l21 (bA (t53+1)))) (by kernel_rfl)
  ·obtain rfl:=lf h
   exact rY Nh (p20<|sg 0 c19<|eF .normal (ef t bound t40 t41 t42 t51 t52 m m2 m3 m4 m5 m6 m7 m8 m9 out (bA (t53+1)))) (by kernel_rfl)
 ·obtain rfl:=lf h
  have z:=sg 0 c16<|eF (.exit 6) (lJ t t40 t41 t42 m m2 m3 m4 m5 m6 m7 m8 m9 out)
  exact gf Nh (by intro hx;cases hx) z (by kernel_rfl)
theorem zd{x:waA}(h:g8 bound t51 t52 out t53=some x):
  aB Pg GE 0 (.loop (cA Pj 126911)) (EX (.exit 6) (lJ t t40 t41 t42 m m2 m3 m4 m5 m6 m7 m8 m9 x)) (ef t bound t40 t41 t42 t51 t52 m m2 m3 m4 m5 m6 m7 m8 m9 out t53):=
 aB.loop (S:=fun(zz:waA×Int)=>ef t bound t40 t41 t42 t51 t52 m m2 m3 m4 m5 m6 m7 m8 m9 zz.1 zz.2) (ex:=(fun _=>.exit 6)) (s:=(out,t53)) h fun zz y hy=>w9 t bound t40 t41 t42 t51 t52 m m2 m3 m4 m5 m6 m7 m8 m9 zz.1 zz.2 hy
end
section
variable(R26:lc)(t:ae)(t40:waC)(t41:Int)(out:waA)(t42:Int)
def fy:av:=aN 69 [(1,.eptr (af t)),(3,sl cS out),(40,sl af t40),(41,.int .i64 t41),(42,.int .i64 t42)] [.dead] [((3,0),9)]
def lI(o:waA):av:=aN 69 [(3,sl cS o)] [.dead] [((3,0),9)]
def qt:Option ((waA×Int)⊕(waA)):=
 if(decide (t42<t41))=true then
  (dv t40 t42).bind fun x13=>
  (iW t t42).bind fun r14=>
  (R26 x13).bind fun r15=>
  (g8 r14 r15 (r15.length:Int) out 0).bind fun o22=>
  some (.inl (o22,bA (t42+1)))
 else
  some (.inr out)
def nC:Option waA:=loop (fun(zz:waA×Int)=>qt R26 t t40 t41 zz.1 zz.2) (out,t42)
theorem wZ(hR26:oK R26){y:(waA×Int)⊕(waA)}(h:qt R26 t t40 t41 out t42=some y):
  aB Pg GE 0 (cA Pj 247) (LQ (fun(zz:waA×Int)=>fy t t40 t41 zz.1 zz.2) (fun _=>.exit 4) lI y) (fy t t40 t41 out t42):=by
 rcases aT h with⟨c12,h⟩|⟨c12,h⟩
 ·obtain⟨x13,bx13,h⟩:=aw h
  obtain⟨r14,br14,h⟩:=aw h
  obtain⟨r15,br15,h⟩:=aw h
  obtain⟨o22,bo22,h⟩:=aw h
  obtain rfl:=lf h
  have z:=sg 0 c12<|sv (d5.ia (k:=.i64) bx13)<|sv (bh x13)<|sx jh<|sx (db x13)<|sv (bh t)<|ba (AP br14)<|sv (bz x13 [])<|ba (hR26 _ _ br15)<|cD (aW.ln r15)<|cC (zd t r14 t40 t41 t42 r15 (r15.length:Int) x13.Op x13.Name x13.Args x13.Names x13.Pred.Op x13.Pred.Name x13.Pred.N x13.Pred.Kids x13.Preds out 0 bo22)<|pg 0 .normal (fy t t40 t41 o22 (bA (t42+1))) rfl (cF (aI (lq (al t)) (aI (up (am dS o22)) (aI (up (am al t40)) (aI trivial (aI trivial trivial)))))) (aI trivial trivial)
  exact cz (A:=Nh) mixed z (by kernel_rfl)
 ·obtain rfl:=lf h
  have z:=sg 0 c12<|eF (.exit 4) (lI out)
  exact gf Nh (by intro hx;cases hx) z (by kernel_rfl)
theorem zc(hR26:oK R26){x:waA}(h:nC R26 t t40 t41 out t42=some x):
  aB Pg GE 0 (.loop (cA Pj 247)) (EX (.exit 4) (lI x)) (fy t t40 t41 out t42):=
 aB.loop (S:=fun(zz:waA×Int)=>fy t t40 t41 zz.1 zz.2) (ex:=(fun _=>.exit 4)) (s:=(out,t42)) h fun zz y hy=>wZ R26 t t40 t41 zz.1 zz.2 hR26 hy
end
def lF(R26:lc)(t:ae):Option waA:=
 (app ([t.Pred]:List aa) t.Preds).bind fun l1=>
 (nB l1 (l1.length:Int) ([]:List ag) 0).bind fun o11=>
 (nC R26 t t.Args (t.Args.length:Int) o11 0).bind fun o23=>
 (kF o23 ([]:List ag)).bind fun r24=>
 some r24
theorem B8(R26:lc)(hR26:oK R26){t:ae}{r:waA}(h:lF R26 t=some r):CC Pg GE 29 [.agg (af t)] (sl cS r) [(0,9)]:=by
 obtain⟨l1,bl1,h⟩:=aw h
 obtain⟨o11,bo11,h⟩:=aw h
 obtain⟨o23,bo23,h⟩:=aw h
 obtain⟨r24,br24,h⟩:=aw h
 obtain rfl:=lf h
 have z:=se (bQ t)<|sv (bU t)<|sv (bX t)<|sv (aR.mk' (v:=ce) aY ([t.Pred]:List aa) 1 (by kernel_rfl))<|sv (bN t)<|sv (bO t)<|sv (aR.ap bl1)<|cD (aR.ln l1)<|cC (za t l1 (l1.length:Int) ([]:List ag) 0 bo11)<|sv (aK t)<|sv (aL t)<|cD (d5.ln t.Args)<|cC (zc R26 t t.Args (t.Args.length:Int) o11 0 hR26 bo23)<|ba (vC br24)<|en (aI (rP (sl cS r24))<|(am dS r24))
 exact b7 Nh Tryz.call29 Tryz.func29 (c:=Pj) rfl (aI (al t) trivial) z (by kernel_rfl)
def pE:(ae->Option waA)->(ae)->Option waA:=fun(rec:ae->Option waA) (x:ae)=>lF (fun t=>rec t) x
def oq(t:ae):Option waA:=nw pE t
theorem uf{t:ae}{r:waA}(h:oq t=some r):CC Pg GE 29 [.agg (af t)] (sl cS r) [(0,9)]:=
 cT (F:=pE) (M:=fun(x:ae) (r:waA)=>CC Pg GE 29 [.agg (af x)] (sl cS r) [(0,9)]) (fun rec hrec x r h=>B8 _ (fun t r h=>hrec t r h) h) h
def L7:Code:=Tryz.f119.body.getD .skip
def L3:List Nat:=[24,35]
section
variable(base:ag)(t11:waA)(t12:Int)(t13:Int)(m0:(List (ag×Bool)))
def f6:av:=aN 36 [(1,.str base),(5,.mapr 0),(11,sl cS t11),(12,.int .i64 t12),(13,.int .i64 t13)] [.map (uz PVal.bool m0)] []
def mo(o:(List (ag×Bool))):av:=aN 36 [(1,.str base),(5,.mapr 0)] [.map (uz PVal.bool o)] []
def f7:Option ((Int×(List (ag×Bool)))⊕(((List (ag×Bool))))):=
 if(decide (t13<t12))=true then
  (dv t11 t13).bind fun x2=>
  some (.inl (bA (t13+1),wQ m0 x2 true))
 else
  some (.inr m0)
def lz:Option (((List (ag×Bool)))):=loop (fun(zz:Int×(List (ag×Bool)))=>f7 t11 t12 zz.1 zz.2) (t13,m0)
theorem yU{y:(Int×(List (ag×Bool)))⊕(((List (ag×Bool))))}(h:f7 t11 t12 t13 m0=some y):
  aB Pg GE 0 (cA L7 119) (LQ (fun(zz:Int×(List (ag×Bool)))=>f6 base t11 t12 zz.1 zz.2) (fun _=>.exit 0) (mo base) y) (f6 base t11 t12 t13 m0):=by
 rcases aT h with⟨c1,h⟩|⟨c1,h⟩
 ·obtain⟨x2,bx2,h⟩:=aw h
  obtain rfl:=lf h
  exact rY L3 (sg 0 c1<|sv (aW.ia (k:=.i64) bx2)<|sv (cP xe (.str x2) [])<|Ui (N0 (f:=PVal.bool) Tryz.underlying121 Tryz.underlying9 m0 x2 true)<|eF .normal (f6 base t11 t12 (bA (t13+1)) (wQ m0 x2 true))) (by kernel_rfl)
 ·obtain rfl:=lf h
  have z:=sg 0 c1<|eF (.exit 0) (mo base m0)
  exact gf L3 (by intro hx;cases hx) z (by kernel_rfl)
theorem z8{x:((List (ag×Bool)))}(h:lz t11 t12 t13 m0=some x):
  aB Pg GE 0 (.loop (cA L7 119)) (EX (.exit 0) (mo base x)) (f6 base t11 t12 t13 m0):=
 aB.loop (S:=fun(zz:Int×(List (ag×Bool)))=>f6 base t11 t12 zz.1 zz.2) (ex:=(fun _=>.exit 0)) (s:=(t13,m0)) h fun zz y hy=>yU base t11 t12 zz.1 zz.2 hy
end
section
variable(base:ag)(m0:(List (ag×Bool)))(n:Int)
def ga:av:=aN 36 [(1,.str base),(5,.mapr 0),(8,.int .i64 n)] [.map (uz PVal.bool m0)] []
def mq(o:ag):av:=aN 36 [(4,.str o)] [.map (uz PVal.bool m0)] []
def eM:Option (Int⊕(ag)):=
 (LB n).bind fun r6=>
 (QL base r6).bind fun s7=>
 if(!((tz m0 s7).getD false))=true then
  some (.inr s7)
 else
  some (.inl (bA (n+1)))
def iS:Option ag:=loop (fun(zz:Int)=>eM base m0 zz) n
theorem yV{y:Int⊕(ag)}(h:eM base m0 n=some y):
  aB Pg GE 0 (cA L7 255) (LQ (fun(zz:Int)=>ga base m0 zz) (fun _=>.ret) (mq m0) y) (ga base m0 n):=by
 obtain⟨r6,br6,h⟩:=aw h
 obtain⟨s7,bs7,h⟩:=aw h
 have p9:=fun{sc F} (r:PS sc F)=>ba (PA br6)<|sv (IM (P:=Pg) (t:=9) bs7)<|sv (KQ (f:=PVal.bool) Tryz.underlying121 Tryz.underlying9 TL m0 s7)<|r
 rcases aT h with⟨c8,h⟩|⟨c8,h⟩
 ·obtain rfl:=lf h
  have z:=p9<|sg 0 c8<|eF .ret (mq m0 s7)
  exact gf L3 (by intro hx;cases hx) z (by kernel_rfl)
 ·obtain rfl:=lf h
  exact rY L3 (p9<|sg 0 c8<|eF .normal (ga base m0 (bA (n+1)))) (by kernel_rfl)
theorem Aa{x:ag}(h:iS base m0 n=some x):
  aB Pg GE 0 (.loop (cA L7 255)) (EX .ret (mq m0 x)) (ga base m0 n):=
 aB.loop (S:=fun(zz:Int)=>ga base m0 zz) (ex:=(fun _=>.ret)) (s:=n) h fun zz y hy=>yV base m0 zz hy
end
def ql(used:waA)(base:ag):Option ag:=
 (lz used (used.length:Int) 0 ([]:List (ag×Bool))).bind fun o3=>
 if(!((tz o3 base).getD false))=true then
  some base
 else
  (iS base o3 1).bind fun o10=>
  some o10
theorem E1{used:waA}{base:ag}{r:ag}(h:ql used base=some r):CC Pg GE 119 [sl cS used,.str base] (.str r) []:=by
 obtain⟨o3,bo3,h⟩:=aw h
 have p5:=fun{sc F} (r:PS sc F)=>cD (aW.ln used)<|cC (z8 base used (used.length:Int) 0 ([]:List (ag×Bool)) bo3)<|sv (KQ (f:=PVal.bool) Tryz.underlying121 Tryz.underlying9 TL o3 base)<|r
 rcases aT h with⟨c4,h⟩|⟨c4,h⟩
 ·obtain rfl:=lf h
  have z:=p5<|sg 0 c4<|en (aI (rP (.str base))<|trivial)
  exact b7 L3 Tryz.call119 Tryz.func119 (c:=L7) rfl (aI (am dS used) (aI trivial trivial)) z (by kernel_rfl)
 ·obtain⟨o10,bo10,h⟩:=aw h
  obtain rfl:=lf h
  have z:=p5<|sg 0 c4<|cC (Aa base o3 1 bo10)<|en (aI (rP (.str o10))<|trivial)
  exact b7 L3 Tryz.call119 Tryz.func119 (c:=L7) rfl (aI (am dS used) (aI trivial trivial)) z (by kernel_rfl)
def UO:Code:=Tryz.f52.body.getD .skip
def Uz:List Nat:=[13,19]
def cX(s:ai)(name:ag)(a:aa):Option ai:=
 (bw s ([name]:List ag)).bind fun r1=>
 (app r1.names ([name]:List ag)).bind fun l2=>
 (app r1.by_ ([a]:List aa)).bind fun l3=>
 some (⟨l2,l3⟩:ai)
theorem hO{s:ai}{name:ag}{a:aa}{r:ai}(h:cX s name a=some r):CC Pg GE 52 [.agg (aq s),.str name,.agg (ac a)] (.agg (aq r)) [(0,9),(1,28)]:=by
 obtain⟨r1,br1,h⟩:=aw h
 obtain⟨l2,bl2,h⟩:=aw h
 obtain⟨l3,bl3,h⟩:=aw h
 obtain rfl:=lf h
 have z:=se (cJ s)<|se (bM a)<|sx K3<|sv (bL s)<|sv (aW.mk' (v:=PVal.str) CE ([name]:List ag) 1 (by kernel_rfl))<|ba (dP br1)<|sx K3<|sy (bK r1)<|sv (aW.mk' (v:=PVal.str) CE ([name]:List ag) 1 (by kernel_rfl))<|sv (aW.ap bl2)<|sv (az a)<|sv (aR.mk' (v:=ce) aY ([a]:List aa) 1 (by kernel_rfl))<|sv (aR.ap bl3)<|sz (bC (⟨l2,l3⟩:ai) [])<|sy (bK (⟨l2,l3⟩:ai))<|en (aI (jX (⟨l2,l3⟩:ai))<|aI (aU (⟨l2,l3⟩:ai))<|rT)
 exact b7 Uz Tryz.call52 Tryz.func52 (c:=UO) rfl (aI (aU s) (aI trivial (aI (ah a) trivial))) z (by kernel_rfl)
end Go.Proofs.YtggeppllafbidaaGreatDoor
