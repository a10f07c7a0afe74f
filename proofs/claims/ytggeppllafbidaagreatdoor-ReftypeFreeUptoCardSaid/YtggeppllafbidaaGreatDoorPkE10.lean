/- PROVED: a part of the proof. Conditions: none. -/
import Derived.Test.YtggeppllafbidaaGreatDoorPkE9
noncomputable section
namespace Go.Proofs.YtggeppllafbidaaGreatDoor
open Go Go.Proofs.Tryz
set_option linter.unusedVariables false
set_option maxRecDepth 100000
noncomputable def UR:Code:=f99.body.getD .skip
def UB:List Nat:=[21]
section
variable(R23:mf)(t14:waB)(t15:Int)(m:waB)(m2:Int)(m3:ag)(m4:Int)(t16:Int)(m5:waB)
def fU:ax:=aP 29 [(2,.bptr 1 0),(3,.bptr 2 0),(14,sl ac t14),(15,.int .i64 t15),(16,.int .i64 t16)] [.dead,.cells [.int .i64 0,.str ([]:ag),.int .i64 0,sl ac m] [(3,28)],.cells [.int .i64 m2,.str m3,.int .i64 m4,sl ac m5] [(3,28)]] []
def lS(o:waB):ax:=aP 29 [(2,.bptr 1 0),(3,.bptr 2 0)] [.dead,.cells [.int .i64 0,.str ([]:ag),.int .i64 0,sl ac m] [(3,28)],.cells [.int .i64 m2,.str m3,.int .i64 m4,sl ac o] [(3,28)]] []
def iY:Option ((Int×waB)⊕(waB)):=
 if(decide (t16<t15))=true then
  (dT t14 t16).bind fun x2=>
  (R23 x2).bind fun r3=>
  (app m5 ([r3]:List aa)).bind fun l4=>
  some (.inl (bL (t16+1),l4))
 else
  some (.inr m5)
def oQ:Option waB:=loop (fun(zz:Int×waB)=>iY R23 t14 t15 zz.1 zz.2) (t16,m5)
theorem y3(hR23:qm R23){y:(Int×waB)⊕(waB)}(h:iY R23 t14 t15 t16 m5=some y):aL Pg GE 0 (cA UR 119) (LQ (fun(zz:Int×waB)=>fU t14 t15 m m2 m3 m4 zz.1 zz.2) (fun _=>.exit 0) (lS m m2 m3 m4) y) (fU t14 t15 m m2 m3 m4 t16 m5):=by
 rcases aJ h with⟨c1,h⟩|⟨c1,h⟩
 ·obtain⟨x2,bx2,h⟩:=ay h
  obtain⟨r3,br3,h⟩:=ay h
  obtain⟨l4,bl4,h⟩:=ay h
  obtain rfl:=lf h
  have z:=sg 0 c1<|sv (aZ.ia (k:=.i64) bx2)<|sv (aM x2)<|sx fY<|sx (cb x2)<|ze [0,1,0,4,12,31,63,127]<|sv (bj x2 [])<|aX (hR23 _ _ br3)<|sv (aZ.mk' (v:=cu) bK ([r3]:List aa) 1 (by kernel_rfl))<|sv (aZ.ap bl4)<|SE (rfl:cp (sl ac l4)=some [sl ac l4])<|pq 0 .normal (fU t14 t15 m m2 m3 m4 (bL (t16+1)) l4) rfl (cG (aI (fh rfl) (aI (fh rfl) (aI (up (aw ah t14)) (aI trivial (aI trivial trivial)))))) (aI trivial (aI (aI trivial (aI trivial (aI trivial (aI (up (aw ah m)) trivial)))) (aI (aI trivial (aI trivial (aI trivial (aI (up (aw ah l4)) trivial)))) trivial)))
  exact cJ (A:=UB) mixed z<|by kernel_rfl
 ·obtain rfl:=lf h
  have z:=sg 0 c1<|eF (.exit 0) (lS m m2 m3 m4 m5)
  exact fG UB (by intro hx;cases hx) z<|by kernel_rfl
theorem Ap(hR23:qm R23){x:waB}(h:oQ R23 t14 t15 t16 m5=some x):aL Pg GE 0 (.loop (cA UR 119)) (EX (.exit 0) (lS m m2 m3 m4 x)) (fU t14 t15 m m2 m3 m4 t16 m5):=
 aL.loop (S:=fun(zz:Int×waB)=>fU t14 t15 m m2 m3 m4 zz.1 zz.2) (ex:=(fun _=>.exit 0)) (s:=(t16,m5)) h fun zz y hy=>y3 R23 t14 t15 m m2 m3 m4 zz.1 zz.2 hR23 hy
end
def qI(R23:mf)(p:aa):Option aa:=
 (oQ R23 p.Kids (p.Kids.length:Int) 0 ([]:List aa)).bind fun o5=>
 some (⟨p.Op,p.Name,p.N,o5⟩:aa)
theorem DD(R23:mf)(hR23:qm R23){p:aa}{r:aa}(h:qI R23 p=some r):CC Pg GE 99 [.agg (ac p)] (.agg (ac r)) [(3,28)]:=by
 obtain⟨o5,bo5,h⟩:=ay h
 obtain rfl:=lf h
 have z:=se (bJ p)<|sx fY<|sv (aD p)<|sv (aE p)<|sv (bp p)<|sv (bH p)<|sv (bu p)<|sv (bI p)<|sb (oB p.Op p.Name p.N) (oz p.Op p.Name p.N)<|sx fY<|sy (aQ (⟨p.Op,p.Name,p.N,([]:List aa)⟩:aa))<|sv (aG p)<|sv (aH p)<|cf (aZ.ln p.Kids)<|ct (Ap R23 p.Kids (p.Kids.length:Int) ([]:List aa) p.Op p.Name p.N 0 ([]:List aa) hR23 bo5)<|sz (bj (⟨p.Op,p.Name,p.N,o5⟩:aa) [])<|sy (aQ (⟨p.Op,p.Name,p.N,o5⟩:aa))<|en (aI (dw (⟨p.Op,p.Name,p.N,o5⟩:aa))<|aI (ah (⟨p.Op,p.Name,p.N,o5⟩:aa))<|rT)
 exact bo UB call99 func99 (c:=UR) rfl (aI (ah p) trivial) z<|by kernel_rfl
def mm:(aa->Option aa)->(aa)->Option aa:=fun(rec:aa->Option aa) (x:aa)=>qI (fun p=>rec p) x
def mJ(p:aa):Option aa:=lH mm p
theorem oR{p:aa}{r:aa}(h:mJ p=some r):CC Pg GE 99 [.agg (ac p)] (.agg (ac r)) [(3,28)]:=
 cC (F:=mm) (M:=fun(x:aa) (r:aa)=>CC Pg GE 99 [.agg (ac x)] (.agg (ac r)) [(3,28)]) (fun rec hrec x r h=>DD _ (fun p r h=>hrec p r h) h) h
noncomputable def Nk:Code:=f101.body.getD .skip
def Io:List Nat:=[46]
section
variable(v:waA)(v2:waB)(p:aa)(i:Int)(m:waB)
def y2:ax:=aP 56 [(1,sl cS v),(2,sl ac v2),(3,.eptr (ac p)),(6,.bptr 1 0),(7,.int .i64 i)] [.dead,.cells [.int .i64 0,.str ([]:ag),.int .i64 0,sl ac m] [(3,28)]] []
def kg(o:Bool):ax:=aP 56 [(1,sl cS v),(2,sl ac v2),(3,.eptr (ac p)),(6,.bptr 1 0),(7,.int .i64 i),(25,.bool o)] [.dead,.cells [.int .i64 0,.str ([]:ag),.int .i64 0,sl ac m] [(3,28)]] []
def lQ:Option Bool:=
 if(decide (i>=0))=true then
  some (decide (i<(v2.length:Int)))
 else
  some false
theorem wO{x:Bool}(h:lQ v2 i=some x):aL Pg GE 0 (cA Nk 106) (EX .normal (kg v v2 p i m x)) (y2 v v2 p i m):=by
 rcases aJ h with⟨c4,h⟩|⟨c4,h⟩
 ·obtain rfl:=lf h
  exact bm Io (sg 3 c4<|cf (aZ.ln v2)<|eF .normal (kg v v2 p i m (decide (i<(v2.length:Int)))))<|by kernel_rfl
 ·obtain rfl:=lf h
  exact bm Io (sg 3 c4<|eF .normal (kg v v2 p i m false))<|by kernel_rfl
end
section
variable(v:waA)(v2:waB)(p:aa)(m:waB)
def y1:ax:=aP 56 [(1,sl cS v),(2,sl ac v2),(3,.eptr (ac p)),(6,.bptr 1 0)] [.dead,.cells [.int .i64 0,.str ([]:ag),.int .i64 0,sl ac m] [(3,28)]] []
def gh(o:(Int×ag×Int×waB)⊕(Unit)):Exit:=match o with
 |(.inl _)=>.ret
 |(.inr _)=>.normal
def dI(o:(Int×ag×Int×waB)⊕(Unit)):ax:=match o with
 |(.inl o)=>aP 56 [(6,.bptr 1 0)] [.dead,.cells [.int .i64 o.1,.str o.2.1,.int .i64 o.2.2.1,sl ac o.2.2.2] [(3,28)]] []
 |(.inr o)=>aP 56 [(1,sl cS v),(2,sl ac v2),(3,.eptr (ac p)),(6,.bptr 1 0)] [.dead,.cells [.int .i64 0,.str ([]:ag),.int .i64 0,sl ac m] [(3,28)]] []
def iX:Option ((Int×ag×Int×waB)⊕(Unit)):=
 if(p.Op==3)=true then
  (sT v p.Name).bind fun r3=>
  (lQ v2 r3).bind fun o5=>
  if o5=true then
   (dT v2 r3).bind fun x8=>
   (mJ x8).bind fun r9=>
   some (.inl (r9.Op,r9.Name,r9.N,r9.Kids))
  else
   some (.inr ())
 else
  some (.inr ())
theorem nk{x:(Int×ag×Int×waB)⊕(Unit)}(h:iX v v2 p=some x):aL Pg GE 0 (cA Nk 6) (EX (gh x) (dI v v2 p m x)) (y1 v v2 p m):=by
 have p2:=fun{sc F} (r:PS sc F)=>sv (aD p)<|sv (aE p)<|r
 rcases aJ h with⟨c1,h⟩|⟨c1,h⟩
 ·obtain⟨r3,br3,h⟩:=ay h
  obtain⟨o5,bo5,h⟩:=ay h
  have p7:=fun{sc F} (r:PS sc F)=>p2<|sg 0 c1<|sv (bp p)<|sv (bH p)<|aX (xA br3)<|iO 0<|ct (wO v v2 p r3 m bo5)<|r
  rcases aJ h with⟨c6,h⟩|⟨c6,h⟩
  ·obtain⟨x8,bx8,h⟩:=ay h
   obtain⟨r9,br9,h⟩:=ay h
   obtain rfl:=lf h
   exact bm Io (p7<|sg 0 c6<|sv (aZ.ia (k:=.i64) bx8)<|sv (aM x8)<|aX (oR br9)<|sy (aQ r9)<|eF (gh (.inl (r9.Op,r9.Name,r9.N,r9.Kids))) (dI v v2 p m (.inl (r9.Op,r9.Name,r9.N,r9.Kids))))<|by kernel_rfl
  ·obtain rfl:=lf h
   exact bm Io (p7<|sg 0 c6<|eF (gh (.inr ())) (dI v v2 p m (.inr ())))<|by kernel_rfl
 ·obtain rfl:=lf h
  exact bm Io (p2<|sg 0 c1<|eF (gh (.inr ())) (dI v v2 p m (.inr ())))<|by kernel_rfl
end
section
variable(R21:jZ)(v:waA)(v2:waB)(t39:waB)(t40:Int)(m:waB)(m2:Int)(m3:ag)(m4:Int)(t41:Int)(m5:waB)
def eQ:ax:=aP 56 [(1,sl cS v),(2,sl ac v2),(6,.bptr 1 0),(8,.bptr 2 0),(39,sl ac t39),(40,.int .i64 t40),(41,.int .i64 t41)] [.dead,.cells [.int .i64 0,.str ([]:ag),.int .i64 0,sl ac m] [(3,28)],.cells [.int .i64 m2,.str m3,.int .i64 m4,sl ac m5] [(3,28)]] []
def kh(o:waB):ax:=aP 56 [(6,.bptr 1 0),(8,.bptr 2 0)] [.dead,.cells [.int .i64 0,.str ([]:ag),.int .i64 0,sl ac m] [(3,28)],.cells [.int .i64 m2,.str m3,.int .i64 m4,sl ac o] [(3,28)]] []
def oP:Option ((Int×waB)⊕(waB)):=
 if(decide (t41<t40))=true then
  (dT t39 t41).bind fun x12=>
  (R21 x12 v v2).bind fun r13=>
  (app m5 ([r13]:List aa)).bind fun l14=>
  some (.inl (bL (t41+1),l14))
 else
  some (.inr m5)
def lR:Option waB:=loop (fun(zz:Int×waB)=>oP R21 v v2 t39 t40 zz.1 zz.2) (t41,m5)
theorem vI(hR21:mN R21){y:(Int×waB)⊕(waB)}(h:oP R21 v v2 t39 t40 t41 m5=some y):aL Pg GE 0 (cA Nk 247) (LQ (fun(zz:Int×waB)=>eQ v v2 t39 t40 m m2 m3 m4 zz.1 zz.2) (fun _=>.exit 0) (kh m m2 m3 m4) y) (eQ v v2 t39 t40 m m2 m3 m4 t41 m5):=by
 rcases aJ h with⟨c11,h⟩|⟨c11,h⟩
 ·obtain⟨x12,bx12,h⟩:=ay h
  obtain⟨r13,br13,h⟩:=ay h
  obtain⟨l14,bl14,h⟩:=ay h
  obtain rfl:=lf h
  have z:=sg 0 c11<|sv (aZ.ia (k:=.i64) bx12)<|sv (aM x12)<|sx fY<|sx (cb x12)<|ze [0,1,0,0,0,28,60,127,255,511]<|sv (bj x12 [])<|aX (hR21 _ _ _ _ br13)<|sv (aZ.mk' (v:=cu) bK ([r13]:List aa) 1 (by kernel_rfl))<|sv (aZ.ap bl14)<|SE (rfl:cp (sl ac l14)=some [sl ac l14])<|pq 0 .normal (eQ v v2 t39 t40 m m2 m3 m4 (bL (t41+1)) l14) rfl (cG (aI (up (aw ie v)) (aI (up (aw ah v2)) (aI (fh rfl) (aI (fh rfl) (aI (up (aw ah t39)) (aI trivial (aI trivial trivial)))))))) (aI trivial (aI (aI trivial (aI trivial (aI trivial (aI (up (aw ah m)) trivial)))) (aI (aI trivial (aI trivial (aI trivial (aI (up (aw ah l14)) trivial)))) trivial)))
  exact cJ (A:=Io) mixed z<|by kernel_rfl
 ·obtain rfl:=lf h
  have z:=sg 0 c11<|eF (.exit 0) (kh m m2 m3 m4 m5)
  exact fG Io (by intro hx;cases hx) z<|by kernel_rfl
theorem wP(hR21:mN R21){x:waB}(h:lR R21 v v2 t39 t40 t41 m5=some x):aL Pg GE 0 (.loop (cA Nk 247)) (EX (.exit 0) (kh m m2 m3 m4 x)) (eQ v v2 t39 t40 m m2 m3 m4 t41 m5):=
 aL.loop (S:=fun(zz:Int×waB)=>eQ v v2 t39 t40 m m2 m3 m4 zz.1 zz.2) (ex:=(fun _=>.exit 0)) (s:=(t41,m5)) h fun zz y hy=>vI R21 v v2 t39 t40 m m2 m3 m4 zz.1 zz.2 hR21 hy
end
def j5(R21:jZ)(p:aa)(a:waA)(a2:waB):Option aa:=
 (iX a a2 p).bind fun o10=>match o10 with
 |(.inl o10)=>
  some (⟨o10.1,o10.2.1,o10.2.2.1,o10.2.2.2⟩:aa)
 |(.inr o10)=>
  (lR R21 a a2 p.Kids (p.Kids.length:Int) 0 ([]:List aa)).bind fun o15=>
  some (⟨p.Op,p.Name,p.N,o15⟩:aa)
theorem Ao(R21:jZ)(hR21:mN R21){p:aa}{a:waA}{a2:waB}{r:aa}(h:j5 R21 p a a2=some r):CC Pg GE 101 [.agg (ac p),sl cS a,sl ac a2] (.agg (ac r)) [(3,28)]:=by
 obtain⟨o10,bo10,h⟩:=ay h
 rcases o10 with o10|o10
 ·obtain rfl:=lf h
  have z:=se (bJ p)<|sx fY<|iO 0<|ct (e:=.ret) (s1:=dI a a2 p ([]:List aa) (.inl o10)) (nk a a2 p ([]:List aa) bo10)<|en (aI (dw (⟨o10.1,o10.2.1,o10.2.2.1,o10.2.2.2⟩:aa))<|aI (ah (⟨o10.1,o10.2.1,o10.2.2.1,o10.2.2.2⟩:aa))<|rT)
  exact bo Io call101 func101 (c:=Nk) rfl (aI (ah p) (aI (aw ie a) (aI (aw ah a2) trivial))) z<|by kernel_rfl
 ·obtain⟨o15,bo15,h⟩:=ay h
  obtain rfl:=lf h
  have z:=se (bJ p)<|sx fY<|iO 0<|ct (e:=.normal) (s1:=dI a a2 p ([]:List aa) (.inr o10)) (nk a a2 p ([]:List aa) bo10)<|sv (aD p)<|sv (aE p)<|sv (bp p)<|sv (bH p)<|sv (bu p)<|sv (bI p)<|sb (oB p.Op p.Name p.N) (oz p.Op p.Name p.N)<|sx fY<|sy (aQ (⟨p.Op,p.Name,p.N,([]:List aa)⟩:aa))<|sv (aG p)<|sv (aH p)<|cf (aZ.ln p.Kids)<|ct (wP R21 a a2 p.Kids (p.Kids.length:Int) ([]:List aa) p.Op p.Name p.N 0 ([]:List aa) hR21 bo15)<|sz (bj (⟨p.Op,p.Name,p.N,o15⟩:aa) [])<|sy (aQ (⟨p.Op,p.Name,p.N,o15⟩:aa))<|en (aI (dw (⟨p.Op,p.Name,p.N,o15⟩:aa))<|aI (ah (⟨p.Op,p.Name,p.N,o15⟩:aa))<|rT)
  exact bo Io call101 func101 (c:=Nk) rfl (aI (ah p) (aI (aw ie a) (aI (aw ah a2) trivial))) z<|by kernel_rfl
def mU:((aa×waA×waB)->Option aa)->(aa×waA×waB)->Option aa:=fun(rec:(aa×waA×waB)->Option aa) (x:aa×waA×waB)=>j5 (fun p a a2=>rec (p,a,a2)) x.1 x.2.1 x.2.2
def ml(p:aa)(a:waA)(a2:waB):Option aa:=lH mU (p,a,a2)
theorem rm{p:aa}{a:waA}{a2:waB}{r:aa}(h:ml p a a2=some r):CC Pg GE 101 [.agg (ac p),sl cS a,sl ac a2] (.agg (ac r)) [(3,28)]:=
 cC (F:=mU) (M:=fun(x:aa×waA×waB) (r:aa)=>CC Pg GE 101 [.agg (ac x.1),sl cS x.2.1,sl ac x.2.2] (.agg (ac r)) [(3,28)]) (fun rec hrec x r h=>Ao _ (fun p a a2 r h=>hrec (p,a,a2) r h) h) h
noncomputable def Wy:Code:=f89.body.getD .skip
def Wj:List Nat:=[]
def cj(s:ai)(p:aa):Option aa:=
 (ml p s.names s.by_).bind fun r1=>
 some r1
theorem eh{s:ai}{p:aa}{r:aa}(h:cj s p=some r):CC Pg GE 89 [.agg (am s),.agg (ac p)] (.agg (ac r)) [(3,28)]:=by
 obtain⟨r1,br1,h⟩:=ay h
 obtain rfl:=lf h
 have z:=se (cE s)<|se (bJ p)<|sx fY<|sv (aM p)<|sv (gj s)<|sv (gn s)<|sv (ed s)<|sv (ee s)<|aX (rm br1)<|sy (aQ r1)<|en (aI (dw r1)<|aI (ah r1)<|rT)
 exact bo Wj call89 func89 (c:=Wy) rfl (aI (aT s) (aI (ah p) trivial)) z<|by kernel_rfl
noncomputable def UO:Code:=f73.body.getD .skip
def Uz:List Nat:=[14,21]
section
variable(v:ai)(t8:waB)(t9:Int)(out:waB)(t10:Int)
def ew:ax:=aP 22 [(1,.func (.func 89) [.agg (am v)] []),(5,sl ac out),(8,sl ac t8),(9,.int .i64 t9),(10,.int .i64 t10)] [] [((5,0),28)]
def je(o:waB):ax:=aP 22 [(5,sl ac o)] [] [((5,0),28)]
def nn:Option ((waB×Int)⊕(waB)):=
 if(decide (t10<t9))=true then
  (dT t8 t10).bind fun x2=>
  (cj v x2).bind fun r3=>
  (app out ([r3]:List aa)).bind fun l4=>
  some (.inl (l4,bL (t10+1)))
 else
  some (.inr out)
def lj:Option waB:=loop (fun(zz:waB×Int)=>nn v t8 t9 zz.1 zz.2) (out,t10)
theorem tU{y:(waB×Int)⊕(waB)}(h:nn v t8 t9 out t10=some y):aL Pg GE 0 (cA UO 119) (LQ (fun(zz:waB×Int)=>ew v t8 t9 zz.1 zz.2) (fun _=>.exit 0) je y) (ew v t8 t9 out t10):=by
 rcases aJ h with⟨c1,h⟩|⟨c1,h⟩
 ·obtain⟨x2,bx2,h⟩:=ay h
  obtain⟨r3,br3,h⟩:=ay h
  obtain⟨l4,bl4,h⟩:=ay h
  obtain rfl:=lf h
  have z:=sg 0 c1<|sv (aZ.ia (k:=.i64) bx2)<|sv (aM x2)<|sx fY<|sx (cb x2)<|sv (bj x2 [])<|aX (eh br3)<|sv (aZ.mk' (v:=cu) bK ([r3]:List aa) 1 (by kernel_rfl))<|sv (aZ.ap bl4)<|pq 0 .normal (ew v t8 t9 l4 (bL (t10+1))) rfl (cG (aI (aI (aI (up (aT v)) trivial) trivial) (aI (up (aw ah l4)) (aI (up (aw ah t8)) (aI trivial (aI trivial trivial)))))) trivial
  exact cJ (A:=Uz) mixed z<|by kernel_rfl
 ·obtain rfl:=lf h
  have z:=sg 0 c1<|eF (.exit 0) (je out)
  exact fG Uz (by intro hx;cases hx) z<|by kernel_rfl
theorem vP{x:waB}(h:lj v t8 t9 out t10=some x):aL Pg GE 0 (.loop (cA UO 119)) (EX (.exit 0) (je x)) (ew v t8 t9 out t10):=
 aL.loop (S:=fun(zz:waB×Int)=>ew v t8 t9 zz.1 zz.2) (ex:=(fun _=>.exit 0)) (s:=(out,t10)) h fun zz y hy=>tU v t8 t9 zz.1 zz.2 hy
end
def iL(a:waB)(c:ai):Option waB:=
 (lj c a (a.length:Int) ([]:List aa) 0).bind fun o5=>
 some o5
theorem qg{a:waB}{c:ai}{r:waB}(h:iL a c=some r):CC Pg GE 73 [sl ac a,.func (.func 89) [.agg (am c)] []] (sl ac r) [(0,28)]:=by
 obtain⟨o5,bo5,h⟩:=ay h
 obtain rfl:=lf h
 have z:=cf (aZ.ln a)<|ct (vP c a (a.length:Int) ([]:List aa) 0 bo5)<|en (aI (rP (sl ac o5))<|(aw ah o5))
 exact bo Uz call73 func73 (c:=UO) rfl (aI (aw ah a) (aI (aI (aI (aT c) trivial) trivial) trivial)) z<|by kernel_rfl
noncomputable def R7:Code:=f118.body.getD .skip
def RM:List Nat:=[13,18]
section
variable(t7:waB)(t8:Int)(out:waA)(t9:Int)
def cr:ax:=aP 19 [(3,sl cS out),(7,sl ac t7),(8,.int .i64 t8),(9,.int .i64 t9)] [.dead] [((3,0),9)]
def dN(o:waA):ax:=aP 19 [(3,sl cS o)] [.dead] [((3,0),9)]
def dM:Option ((waA×Int)⊕(waA)):=
 if(decide (t9<t8))=true then
  (dT t7 t9).bind fun x2=>
  (lP x2).bind fun r3=>
  (app out r3).bind fun l4=>
  some (.inl (l4,bL (t9+1)))
 else
  some (.inr out)
def eg:Option waA:=loop (fun(zz:waA×Int)=>dM t7 t8 zz.1 zz.2) (out,t9)
theorem lk{y:(waA×Int)⊕(waA)}(h:dM t7 t8 out t9=some y):aL Pg GE 0 (cA R7 119) (LQ (fun(zz:waA×Int)=>cr t7 t8 zz.1 zz.2) (fun _=>.exit 0) dN y) (cr t7 t8 out t9):=by
 rcases aJ h with⟨c1,h⟩|⟨c1,h⟩
 ·obtain⟨x2,bx2,h⟩:=ay h
  obtain⟨r3,br3,h⟩:=ay h
  obtain⟨l4,bl4,h⟩:=ay h
  obtain rfl:=lf h
  have z:=sg 0 c1<|sv (aZ.ia (k:=.i64) bx2)<|sv (aM x2)<|sx fY<|sx (cb x2)<|sv (bj x2 [])<|aX (Ak br3)<|sv (bh.ap bl4)<|pq 0 .normal (cr t7 t8 l4 (bL (t9+1))) rfl (cG (aI (up (aw ie l4)) (aI (up (aw ah t7)) (aI trivial (aI trivial trivial))))) (aI trivial trivial)
  exact cJ (A:=RM) mixed z<|by kernel_rfl
 ·obtain rfl:=lf h
  have z:=sg 0 c1<|eF (.exit 0) (dN out)
  exact fG RM (by intro hx;cases hx) z<|by kernel_rfl
theorem lu{x:waA}(h:eg t7 t8 out t9=some x):aL Pg GE 0 (.loop (cA R7 119)) (EX (.exit 0) (dN x)) (cr t7 t8 out t9):=
 aL.loop (S:=fun(zz:waA×Int)=>cr t7 t8 zz.1 zz.2) (ex:=(fun _=>.exit 0)) (s:=(out,t9)) h fun zz y hy=>lk t7 t8 zz.1 zz.2 hy
end
def cK(s:ai):Option waA:=
 (eg s.by_ (s.by_.length:Int) ([]:List ag) 0).bind fun o5=>
 some o5
theorem gI{s:ai}{r:waA}(h:cK s=some r):CC Pg GE 118 [.agg (am s)] (sl cS r) [(0,9)]:=by
 obtain⟨o5,bo5,h⟩:=ay h
 obtain rfl:=lf h
 have z:=se (cE s)<|sv (ed s)<|sv (ee s)<|cf (aZ.ln s.by_)<|ct (lu s.by_ (s.by_.length:Int) ([]:List ag) 0 bo5)<|en (aI (rP (sl cS o5))<|(aw ie o5))
 exact bo RM call118 func118 (c:=R7) rfl (aI (aT s) trivial) z<|by kernel_rfl
abbrev kM:=(ae->Option waA)
abbrev nZ(R:kM):Prop:=∀(t:ae) (r:waA),R t=some r->CC Pg GE 29 [.agg (af t)] (sl cS r) [(0,9)]
noncomputable def VC:Code:=f65.body.getD .skip
def Vr:List Nat:=[]
def iK(t:ae)(i:Int):Option waA:=
 if(t.Op !=6)=true then
  some ([]:List ag)
 else
  (GA t.Names none (some (if(t.Names.length:Int)<i then(t.Names.length:Int)else i))).bind fun l3=>
  some l3
theorem AJ{t:ae}{i:Int}{r:waA}(h:iK t i=some r):CC Pg GE 65 [.agg (af t),.int .i64 i] (sl cS r) []:=by
 have p2:=fun{sc F} (r:PS sc F)=>se (bR t)<|sv (aq t)<|sv (au t)<|r
 rcases aJ h with⟨c1,h⟩|⟨c1,h⟩
 ·obtain rfl:=lf h
  have z:=p2<|sg 0 c1<|en (aI (rP (sl cS ([]:List ag)))<|(aw ie ([]:List ag)))
  exact bo Vr call65 func65 (c:=VC) rfl (aI (al t) (aI trivial trivial)) z<|by kernel_rfl
 ·obtain⟨l3,bl3,h⟩:=ay h
  obtain rfl:=lf h
  have z:=p2<|sg 0 c1<|sv (aN t)<|sv (aO t)<|sv (aN t)<|sv (aO t)<|cf (bh.ln t.Names)<|sv (bh.sc bl3)<|en (aI (rP (sl cS l3))<|(aw ie l3))
  exact bo Vr call65 func65 (c:=VC) rfl (aI (al t) (aI trivial trivial)) z<|by kernel_rfl
noncomputable def QA:Code:=f29.body.getD .skip
def Ox:List Nat:=[33,44,61]
section
variable(t:ae)(t18:waB)(t19:Int)(t20:Int)(t25:waA)(t26:Int)(m:Int)(m2:ag)(m3:Int)(m4:waB)(out:waA)(t27:Int)
def d5:ax:=aP 69 [(1,.eptr (af t)),(3,sl cS out),(18,sl ac t18),(19,.int .i64 t19),(20,.int .i64 t20),(25,sl cS t25),(26,.int .i64 t26),(27,.int .i64 t27)] [.dead,.cells [.int .i64 m,.str m2,.int .i64 m3,sl ac m4] []] [((25,0),9),((18,0),28),((3,0),9)]
def lc(o:waA):ax:=aP 69 [(1,.eptr (af t)),(3,sl cS o),(18,sl ac t18),(19,.int .i64 t19),(20,.int .i64 t20)] [.dead,.cells [.int .i64 m,.str m2,.int .i64 m3,sl ac m4] []] [((18,0),28),((3,0),9)]
def qc:Option ((waA×Int)⊕(waA)):=
 if(decide (t27<t26))=true then
  (dT t25 t27).bind fun x6=>
  if(!(x6==([118]:ag)))=true then
   (app out ([x6]:List ag)).bind fun l9=>
   some (.inl (l9,bL (t27+1)))
  else
   some (.inl (out,bL (t27+1)))
 else
  some (.inr out)
def gG:Option waA:=loop (fun(zz:waA×Int)=>qc t25 t26 zz.1 zz.2) (out,t27)
theorem wU{y:(waA×Int)⊕(waA)}(h:qc t25 t26 out t27=some y):aL Pg GE 0 (cA QA 30687) (LQ (fun(zz:waA×Int)=>d5 t t18 t19 t20 t25 t26 m m2 m3 m4 zz.1 zz.2) (fun _=>.exit 2) (lc t t18 t19 t20 m m2 m3 m4) y) (d5 t t18 t19 t20 t25 t26 m m2 m3 m4 out t27):=by
 rcases aJ h with⟨c5,h⟩|⟨c5,h⟩
 ·obtain⟨x6,bx6,h⟩:=ay h
  have p8:=fun{sc F} (r:PS sc F)=>sg 0 c5<|sv (bh.ia (k:=.i64) bx6)<|sv (dB Cb (.str x6) [])<|r
  rcases aJ h with⟨c7,h⟩|⟨c7,h⟩
  ·obtain⟨l9,bl9,h⟩:=ay h
   obtain rfl:=lf h
   exact pZ Ox (p8<|sg 0 c7<|sv (bh.mk' (v:=PVal.str) D8 ([x6]:List ag) 1 (by kernel_rfl))<|sv (bh.ap bl9)<|eF .normal (d5 t t18 t19 t20 t25 t26 m m2 m3 m4 l9 (bL (t27+1))))<|by kernel_rfl
  ·obtain rfl:=lf h
   exact pZ Ox (p8<|sg 0 c7<|eF .normal (d5 t t18 t19 t20 t25 t26 m m2 m3 m4 out (bL (t27+1))))<|by kernel_rfl
 ·obtain rfl:=lf h
  have z:=sg 0 c5<|eF (.exit 2) (lc t t18 t19 t20 m m2 m3 m4 out)
  exact fG Ox (by intro hx;cases hx) z<|by kernel_rfl
theorem y8{x:waA}(h:gG t25 t26 out t27=some x):aL Pg GE 0 (.loop (cA QA 30687)) (EX (.exit 2) (lc t t18 t19 t20 m m2 m3 m4 x)) (d5 t t18 t19 t20 t25 t26 m m2 m3 m4 out t27):=
 aL.loop (S:=fun(zz:waA×Int)=>d5 t t18 t19 t20 t25 t26 m m2 m3 m4 zz.1 zz.2) (ex:=(fun _=>.exit 2)) (s:=(out,t27)) h fun zz y hy=>wU t t18 t19 t20 t25 t26 m m2 m3 m4 zz.1 zz.2 hy
end
section
variable(t:ae)(t18:waB)(t19:Int)(out:waA)(t20:Int)
def fi:ax:=aP 69 [(1,.eptr (af t)),(3,sl cS out),(18,sl ac t18),(19,.int .i64 t19),(20,.int .i64 t20)] [.dead] [((18,0),28),((3,0),9)]
def lb(o:waA):ax:=aP 69 [(1,.eptr (af t)),(3,sl cS o)] [.dead] [((3,0),9)]
def qb:Option ((waA×Int)⊕(waA)):=
 if(decide (t20<t19))=true then
  (dT t18 t20).bind fun x3=>
  (lP x3).bind fun r4=>
  (gG r4 (r4.length:Int) out 0).bind fun o10=>
  some (.inl (o10,bL (t20+1)))
 else
  some (.inr out)
def mW:Option waA:=loop (fun(zz:waA×Int)=>qb t18 t19 zz.1 zz.2) (out,t20)
theorem wS{y:(waA×Int)⊕(waA)}(h:qb t18 t19 out t20=some y):aL Pg GE 0 (cA QA 119) (LQ (fun(zz:waA×Int)=>fi t t18 t19 zz.1 zz.2) (fun _=>.exit 0) (lb t) y) (fi t t18 t19 out t20):=by
 rcases aJ h with⟨c2,h⟩|⟨c2,h⟩
 ·obtain⟨x3,bx3,h⟩:=ay h
  obtain⟨r4,br4,h⟩:=ay h
  obtain⟨o10,bo10,h⟩:=ay h
  obtain rfl:=lf h
  have z:=sg 0 c2<|sv (aZ.ia (k:=.i64) bx3)<|sv (aM x3)<|sx fY<|sx (cb x3)<|sv (bj x3 [])<|aX (Ak br4)<|cf (bh.ln r4)<|ct (y8 t t18 t19 t20 r4 (r4.length:Int) x3.Op x3.Name x3.N x3.Kids out 0 bo10)<|pq 0 .normal (fi t t18 t19 o10 (bL (t20+1))) rfl (cG (aI (yG (al t)) (aI (up (aw ie o10)) (aI (up (aw ah t18)) (aI trivial (aI trivial trivial)))))) (aI trivial trivial)
  exact cJ (A:=Ox) mixed z<|by kernel_rfl
 ·obtain rfl:=lf h
  have z:=sg 0 c2<|eF (.exit 0) (lb t out)
  exact fG Ox (by intro hx;cases hx) z<|by kernel_rfl
theorem y7{x:waA}(h:mW t18 t19 out t20=some x):aL Pg GE 0 (.loop (cA QA 119)) (EX (.exit 0) (lb t x)) (fi t t18 t19 out t20):=
 aL.loop (S:=fun(zz:waA×Int)=>fi t t18 t19 zz.1 zz.2) (ex:=(fun _=>.exit 0)) (s:=(out,t20)) h fun zz y hy=>wS t t18 t19 zz.1 zz.2 hy
end
section
variable(t:ae)(bound:waA)(t40:waC)(t41:Int)(t42:Int)(t51:waA)(t52:Int)(m:Int)(m2:ag)(m3:waC)(m4:waA)(m5:Int)(m6:ag)(m7:Int)(m8:waB)(m9:waB)(out:waA)(t53:Int)
def d6:ax:=aP 69 [(1,.eptr (af t)),(3,sl cS out),(10,sl cS bound),(40,sl af t40),(41,.int .i64 t41),(42,.int .i64 t42),(51,sl cS t51),(52,.int .i64 t52),(53,.int .i64 t53)] [.dead,.cells [.int .i64 m,.str m2,sl af m3,sl cS m4,.int .i64 m5,.str m6,.int .i64 m7,sl ac m8,sl ac m9] []] [((51,0),9),((3,0),9)]
def li(o:waA):ax:=aP 69 [(1,.eptr (af t)),(3,sl cS o),(40,sl af t40),(41,.int .i64 t41),(42,.int .i64 t42)] [.dead,.cells [.int .i64 m,.str m2,sl af m3,sl cS m4,.int .i64 m5,.str m6,.int .i64 m7,sl ac m8,sl ac m9] []] [((3,0),9)]
def qe:Option ((waA×Int)⊕(waA)):=
 if(decide (t53<t52))=true then
  (dT t51 t53).bind fun x17=>
  (dz bound x17).bind fun r18=>
  if(!r18)=true then
   (app out ([x17]:List ag)).bind fun l21=>
   some (.inl (l21,bL (t53+1)))
  else
   some (.inl (out,bL (t53+1)))
 else
  some (.inr out)
def gH:Option waA:=loop (fun(zz:waA×Int)=>qe bound t51 t52 zz.1 zz.2) (out,t53)
theorem wW{y:(waA×Int)⊕(waA)}(h:qe bound t51 t52 out t53=some y):aL Pg GE 0 (cA QA 126911) (LQ (fun(zz:waA×Int)=>d6 t bound t40 t41 t42 t51 t52 m m2 m3 m4 m5 m6 m7 m8 m9 zz.1 zz.2) (fun _=>.exit 6) (li t t40 t41 t42 m m2 m3 m4 m5 m6 m7 m8 m9) y) (d6 t bound t40 t41 t42 t51 t52 m m2 m3 m4 m5 m6 m7 m8 m9 out t53):=by
 rcases aJ h with⟨c16,h⟩|⟨c16,h⟩
 ·obtain⟨x17,bx17,h⟩:=ay h
  obtain⟨r18,br18,h⟩:=ay h
  have p20:=fun{sc F} (r:PS sc F)=>sg 0 c16<|sv (bh.ia (k:=.i64) bx17)<|sv (dB Cb (.str x17) [])<|aX (eU br18)<|r
  rcases aJ h with⟨c19,h⟩|⟨c19,h⟩
  ·obtain⟨l21,bl21,h⟩:=ay h
   obtain rfl:=lf h
   exact pZ Ox (p20<|sg 0 c19<|sv (bh.mk' (v:=PVal.str) D8 ([x17]:List ag) 1 (by kernel_rfl))<|sv (bh.ap bl21)<|eF .normal (d6 t bound t40 t41 t42 t51 t52 m m2 m3 m4 m5 m6 m7 m8 m9 l21 (bL (t53+1))))<|by kernel_rfl
  ·obtain rfl:=lf h
   exact pZ Ox (p20<|sg 0 c19<|eF .normal (d6 t bound t40 t41 t42 t51 t52 m m2 m3 m4 m5 m6 m7 m8 m9 out (bL (t53+1))))<|by kernel_rfl
 ·obtain rfl:=lf h
  have z:=sg 0 c16<|eF (.exit 6) (li t t40 t41 t42 m m2 m3 m4 m5 m6 m7 m8 m9 out)
  exact fG Ox (by intro hx;cases hx) z<|by kernel_rfl
theorem za{x:waA}(h:gH bound t51 t52 out t53=some x):aL Pg GE 0 (.loop (cA QA 126911)) (EX (.exit 6) (li t t40 t41 t42 m m2 m3 m4 m5 m6 m7 m8 m9 x)) (d6 t bound t40 t41 t42 t51 t52 m m2 m3 m4 m5 m6 m7 m8 m9 out t53):=
 aL.loop (S:=fun(zz:waA×Int)=>d6 t bound t40 t41 t42 t51 t52 m m2 m3 m4 m5 m6 m7 m8 m9 zz.1 zz.2) (ex:=(fun _=>.exit 6)) (s:=(out,t53)) h fun zz y hy=>wW t bound t40 t41 t42 t51 t52 m m2 m3 m4 m5 m6 m7 m8 m9 zz.1 zz.2 hy
end
section
variable(R26:kM)(t:ae)(t40:waC)(t41:Int)(out:waA)(t42:Int)
def fj:ax:=aP 69 [(1,.eptr (af t)),(3,sl cS out),(40,sl af t40),(41,.int .i64 t41),(42,.int .i64 t42)] [.dead] [((3,0),9)]
def lh(o:waA):ax:=aP 69 [(3,sl cS o)] [.dead] [((3,0),9)]
def qd:Option ((waA×Int)⊕(waA)):=
 if(decide (t42<t41))=true then
  (dT t40 t42).bind fun x13=>
  (iK t t42).bind fun r14=>
  (R26 x13).bind fun r15=>
  (gH r14 r15 (r15.length:Int) out 0).bind fun o22=>
  some (.inl (o22,bL (t42+1)))
 else
  some (.inr out)
def mX:Option waA:=loop (fun(zz:waA×Int)=>qd R26 t t40 t41 zz.1 zz.2) (out,t42)
theorem wV(hR26:nZ R26){y:(waA×Int)⊕(waA)}(h:qd R26 t t40 t41 out t42=some y):aL Pg GE 0 (cA QA 247) (LQ (fun(zz:waA×Int)=>fj t t40 t41 zz.1 zz.2) (fun _=>.exit 4) lh y) (fj t t40 t41 out t42):=by
 rcases aJ h with⟨c12,h⟩|⟨c12,h⟩
 ·obtain⟨x13,bx13,h⟩:=ay h
  obtain⟨r14,br14,h⟩:=ay h
  obtain⟨r15,br15,h⟩:=ay h
  obtain⟨o22,bo22,h⟩:=ay h
  obtain rfl:=lf h
  have z:=sg 0 c12<|sv (cO.ia (k:=.i64) bx13)<|sv (aV x13)<|sx jc<|sx (cQ x13)<|sv (aV t)<|aX (AJ br14)<|sv (bw x13 [])<|aX (hR26 _ _ br15)<|cf (bh.ln r15)<|ct (za t r14 t40 t41 t42 r15 (r15.length:Int) x13.Op x13.Name x13.Args x13.Names x13.Pred.Op x13.Pred.Name x13.Pred.N x13.Pred.Kids x13.Preds out 0 bo22)<|pq 0 .normal (fj t t40 t41 o22 (bL (t42+1))) rfl (cG (aI (yG (al t)) (aI (up (aw ie o22)) (aI (up (aw al t40)) (aI trivial (aI trivial trivial)))))) (aI trivial trivial)
  exact cJ (A:=Ox) mixed z<|by kernel_rfl
 ·obtain rfl:=lf h
  have z:=sg 0 c12<|eF (.exit 4) (lh out)
  exact fG Ox (by intro hx;cases hx) z<|by kernel_rfl
theorem y9(hR26:nZ R26){x:waA}(h:mX R26 t t40 t41 out t42=some x):aL Pg GE 0 (.loop (cA QA 247)) (EX (.exit 4) (lh x)) (fj t t40 t41 out t42):=
 aL.loop (S:=fun(zz:waA×Int)=>fj t t40 t41 zz.1 zz.2) (ex:=(fun _=>.exit 4)) (s:=(out,t42)) h fun zz y hy=>wV R26 t t40 t41 zz.1 zz.2 hR26 hy
end
def la(R26:kM)(t:ae):Option waA:=
 (app ([t.Pred]:List aa) t.Preds).bind fun l1=>
 (mW l1 (l1.length:Int) ([]:List ag) 0).bind fun o11=>
 (mX R26 t t.Args (t.Args.length:Int) o11 0).bind fun o23=>
 (kr o23 ([]:List ag)).bind fun r24=>
 some r24
theorem B8(R26:kM)(hR26:nZ R26){t:ae}{r:waA}(h:la R26 t=some r):CC Pg GE 29 [.agg (af t)] (sl cS r) [(0,9)]:=by
 obtain⟨l1,bl1,h⟩:=ay h
 obtain⟨o11,bo11,h⟩:=ay h
 obtain⟨o23,bo23,h⟩:=ay h
 obtain⟨r24,br24,h⟩:=ay h
 obtain rfl:=lf h
 have z:=se (bR t)<|sv (bZ t)<|sv (b6 t)<|sv (aZ.mk' (v:=cu) bK ([t.Pred]:List aa) 1 (by kernel_rfl))<|sv (bF t)<|sv (bG t)<|sv (aZ.ap bl1)<|cf (aZ.ln l1)<|ct (y7 t l1 (l1.length:Int) ([]:List ag) 0 bo11)<|sv (aA t)<|sv (aB t)<|cf (cO.ln t.Args)<|ct (y9 R26 t t.Args (t.Args.length:Int) o11 0 hR26 bo23)<|aX (vA br24)<|en (aI (rP (sl cS r24))<|(aw ie r24))
 exact bo Ox call29 func29 (c:=QA) rfl (aI (al t) trivial) z<|by kernel_rfl
def o0:(ae->Option waA)->(ae)->Option waA:=fun(rec:ae->Option waA) (x:ae)=>la (fun t=>rec t) x
def ez(t:ae):Option waA:=lH o0 t
theorem ef{t:ae}{r:waA}(h:ez t=some r):CC Pg GE 29 [.agg (af t)] (sl cS r) [(0,9)]:=
 cC (F:=o0) (M:=fun(x:ae) (r:waA)=>CC Pg GE 29 [.agg (af x)] (sl cS r) [(0,9)]) (fun rec hrec x r h=>B8 _ (fun t r h=>hrec t r h) h) h
noncomputable def Nl:Code:=f119.body.getD .skip
def Nd:List Nat:=[24,35]
section
variable(base:ag)(t11:waA)(t12:Int)(t13:Int)(m0:(List (ag×Bool)))
def fO:ax:=aP 36 [(1,.str base),(5,.mapr 0),(11,sl cS t11),(12,.int .i64 t12),(13,.int .i64 t13)] [.map (tS PVal.bool m0)] []
def lL(o:(List (ag×Bool))):ax:=aP 36 [(1,.str base),(5,.mapr 0)] [.map (tS PVal.bool o)] []
def fP:Option ((Int×(List (ag×Bool)))⊕(((List (ag×Bool))))):=
 if(decide (t13<t12))=true then
  (dT t11 t13).bind fun x2=>
  some (.inl (bL (t13+1),wN m0 x2 true))
 else
  some (.inr m0)
def kV:Option (((List (ag×Bool)))):=loop (fun(zz:Int×(List (ag×Bool)))=>fP t11 t12 zz.1 zz.2) (t13,m0)
theorem yP{y:(Int×(List (ag×Bool)))⊕(((List (ag×Bool))))}(h:fP t11 t12 t13 m0=some y):aL Pg GE 0 (cA Nl 119) (LQ (fun(zz:Int×(List (ag×Bool)))=>fO base t11 t12 zz.1 zz.2) (fun _=>.exit 0) (lL base) y) (fO base t11 t12 t13 m0):=by
 rcases aJ h with⟨c1,h⟩|⟨c1,h⟩
 ·obtain⟨x2,bx2,h⟩:=ay h
  obtain rfl:=lf h
  exact pZ Nd (sg 0 c1<|sv (bh.ia (k:=.i64) bx2)<|sv (dB Cb (.str x2) [])<|VX (Pr (f:=PVal.bool) underlying121 underlying9 m0 x2 true)<|eF .normal (fO base t11 t12 (bL (t13+1)) (wN m0 x2 true)))<|by kernel_rfl
 ·obtain rfl:=lf h
  have z:=sg 0 c1<|eF (.exit 0) (lL base m0)
  exact fG Nd (by intro hx;cases hx) z<|by kernel_rfl
theorem zV{x:((List (ag×Bool)))}(h:kV t11 t12 t13 m0=some x):aL Pg GE 0 (.loop (cA Nl 119)) (EX (.exit 0) (lL base x)) (fO base t11 t12 t13 m0):=
 aL.loop (S:=fun(zz:Int×(List (ag×Bool)))=>fO base t11 t12 zz.1 zz.2) (ex:=(fun _=>.exit 0)) (s:=(t13,m0)) h fun zz y hy=>yP base t11 t12 zz.1 zz.2 hy
end
section
variable(base:ag)(m0:(List (ag×Bool)))(n:Int)
def fQ:ax:=aP 36 [(1,.str base),(5,.mapr 0),(8,.int .i64 n)] [.map (tS PVal.bool m0)] []
def lM(o:ag):ax:=aP 36 [(4,.str o)] [.map (tS PVal.bool m0)] []
def eH:Option (Int⊕(ag)):=
 (MM n).bind fun r6=>
 (So base r6).bind fun s7=>
 if(!((sR m0 s7).getD false))=true then
  some (.inr s7)
 else
  some (.inl (bL (n+1)))
def iG:Option ag:=loop (fun(zz:Int)=>eH base m0 zz) n
theorem yQ{y:Int⊕(ag)}(h:eH base m0 n=some y):aL Pg GE 0 (cA Nl 255) (LQ (fun(zz:Int)=>fQ base m0 zz) (fun _=>.ret) (lM m0) y) (fQ base m0 n):=by
 obtain⟨r6,br6,h⟩:=ay h
 obtain⟨s7,bs7,h⟩:=ay h
 have p9:=fun{sc F} (r:PS sc F)=>aX (QX br6)<|sv (SH (P:=Pg) (t:=9) bs7)<|sv (L2 (f:=PVal.bool) underlying121 underlying9 Vl m0 s7)<|r
 rcases aJ h with⟨c8,h⟩|⟨c8,h⟩
 ·obtain rfl:=lf h
  have z:=p9<|sg 0 c8<|eF .ret (lM m0 s7)
  exact fG Nd (by intro hx;cases hx) z<|by kernel_rfl
 ·obtain rfl:=lf h
  exact pZ Nd (p9<|sg 0 c8<|eF .normal (fQ base m0 (bL (n+1))))<|by kernel_rfl
theorem zW{x:ag}(h:iG base m0 n=some x):aL Pg GE 0 (.loop (cA Nl 255)) (EX .ret (lM m0 x)) (fQ base m0 n):=
 aL.loop (S:=fun(zz:Int)=>fQ base m0 zz) (ex:=(fun _=>.ret)) (s:=n) h fun zz y hy=>yQ base m0 zz hy
end
def pV(used:waA)(base:ag):Option ag:=
 (kV used (used.length:Int) 0 ([]:List (ag×Bool))).bind fun o3=>
 if(!((sR o3 base).getD false))=true then
  some base
 else
  (iG base o3 1).bind fun o10=>
  some o10
theorem FC{used:waA}{base:ag}{r:ag}(h:pV used base=some r):CC Pg GE 119 [sl cS used,.str base] (.str r) []:=by
 obtain⟨o3,bo3,h⟩:=ay h
 have p5:=fun{sc F} (r:PS sc F)=>cf (bh.ln used)<|ct (zV base used (used.length:Int) 0 ([]:List (ag×Bool)) bo3)<|sv (L2 (f:=PVal.bool) underlying121 underlying9 Vl o3 base)<|r
 rcases aJ h with⟨c4,h⟩|⟨c4,h⟩
 ·obtain rfl:=lf h
  have z:=p5<|sg 0 c4<|en (aI (rP (.str base))<|trivial)
  exact bo Nd call119 func119 (c:=Nl) rfl (aI (aw ie used) (aI trivial trivial)) z<|by kernel_rfl
 ·obtain⟨o10,bo10,h⟩:=ay h
  obtain rfl:=lf h
  have z:=p5<|sg 0 c4<|ct (zW base o3 1 bo10)<|en (aI (rP (.str o10))<|trivial)
  exact bo Nd call119 func119 (c:=Nl) rfl (aI (aw ie used) (aI trivial trivial)) z<|by kernel_rfl
noncomputable def Wr:Code:=f52.body.getD .skip
def Wc:List Nat:=[13,19]
def cM(s:ai)(name:ag)(a:aa):Option ai:=
 (bE s ([name]:List ag)).bind fun r1=>
 (app r1.names ([name]:List ag)).bind fun l2=>
 (app r1.by_ ([a]:List aa)).bind fun l3=>
 some (⟨l2,l3⟩:ai)
theorem gJ{s:ai}{name:ag}{a:aa}{r:ai}(h:cM s name a=some r):CC Pg GE 52 [.agg (am s),.str name,.agg (ac a)] (.agg (am r)) [(0,9),(1,28)]:=by
 obtain⟨r1,br1,h⟩:=ay h
 obtain⟨l2,bl2,h⟩:=ay h
 obtain⟨l3,bl3,h⟩:=ay h
 obtain rfl:=lf h
 have z:=se (cE s)<|se (bJ a)<|sx Mg<|sv (bY s)<|sv (bh.mk' (v:=PVal.str) D8 ([name]:List ag) 1 (by kernel_rfl))<|aX (dE br1)<|sx Mg<|sy (bX r1)<|sv (bh.mk' (v:=PVal.str) D8 ([name]:List ag) 1 (by kernel_rfl))<|sv (bh.ap bl2)<|sv (aM a)<|sv (aZ.mk' (v:=cu) bK ([a]:List aa) 1 (by kernel_rfl))<|sv (aZ.ap bl3)<|sz (bM (⟨l2,l3⟩:ai) [])<|sy (bX (⟨l2,l3⟩:ai))<|en (aI (jY (⟨l2,l3⟩:ai))<|aI (aT (⟨l2,l3⟩:ai))<|rT)
 exact bo Wc call52 func52 (c:=Wr) rfl (aI (aT s) (aI trivial (aI (ah a) trivial))) z<|by kernel_rfl
noncomputable def UQ:Code:=f88.body.getD .skip
def Ti:List Nat:=[44,48,80]
section
variable(R18:bD)(t:ae)(t40:waC)(t41:Int)(m:waC)(m2:waB)(m3:Int)(m4:ag)(n:Nat)(m6:Int)(m7:ag)(m8:Int)(m9:waB)(m10:waB)(m11:waA)(m12:waB)(used:waA)(t42:Int)(w3:List ag)(m5:waC)(m13:waA)(m14:waB)
def bk:ax:=aP 99 [(3,.eptr (af t)),(4,.bptr 2 0),(5,.bptr 4 0),(7,sl cS used),(8,.bptr 6 0),(40,sl af t40),(41,.int .i64 t41),(42,.int .i64 t42)] [.dead,.dead,.cells [.int .i64 0,.str ([]:ag),sl af m,sl cS ([]:List ag),.int .i64 0,.str ([]:ag),.int .i64 0,sl ac m2,sl ac m2] [(2,30),(3,9),(7,28),(8,28)],.cells (rE cS w3) [],.cells [.int .i64 m3,.str m4,sl af m5,.bsl 3 0 n,.int .i64 m6,.str m7,.int .i64 m8,sl ac m9,sl ac m10] [(2,30)],.cells [sl cS m11,sl ac m12] [],.cells [sl cS m13,sl ac m14] []] [((7,0),9)]
def cY(o:List ag×waC×waA×waB):ax:=aP 99 [(4,.bptr 2 0),(5,.bptr 4 0)] [.dead,.dead,.cells [.int .i64 0,.str ([]:ag),sl af m,sl cS ([]:List ag),.int .i64 0,.str ([]:ag),.int .i64 0,sl ac m2,sl ac m2] [(2,30),(3,9),(7,28),(8,28)],.cells (rE cS o.1) [],.cells [.int .i64 m3,.str m4,sl af o.2.1,.bsl 3 0 n,.int .i64 m6,.str m7,.int .i64 m8,sl ac m9,sl ac m10] [(2,30)],.cells [sl cS m11,sl ac m12] [],.cells [sl cS o.2.2.1,sl ac o.2.2.2] []] []
def aW:Option ((waA×Int×List ag×waC×waA×waB)⊕((List ag×waC×waA×waB))):=
 if (decide (t42 < t41)) = true then
  (dT t40 t42).bind fun x9=>
  (R18 (⟨m13,m14⟩:ai) x9).bind fun r10=>
  (app m5 ([r10]:List ae)).bind fun l11=>
  if(decide (t42>=(t.Names.length:Int)))=true then
   some (.inl (used,bL (t42+1),w3,l11,m13,m14))
  else
   (dT t.Names t42).bind fun x14=>
   (bE (⟨m13,m14⟩:ai) ([x14]:List ag)).bind fun r15=>
   (cK r15).bind fun r16=>
   (dz r16 x14).bind fun r17=>
   if r17=true then
    (pV used x14).bind fun r20=>
    (P9 n w3 t42).bind fun x21=>
    (S2 w3 t42 r20).bind fun l22=>
    (P9 n l22 t42).bind fun x23=>
    (app used ([x23]:List ag)).bind fun l24=>
    (P9 n l22 t42).bind fun x25=>
    (cM r15 x14 (⟨3,x25,0,([]:List aa)⟩:aa)).bind fun r26=>
    some (.inl (l24,bL (t42+1),l22,l11,r26.names,r26.by_))
   else
    some (.inl (used,bL (t42+1),w3,l11,r15.names,r15.by_))
 else
  some (.inr (w3,m5,m13,m14))
def dp:Option ((List ag×waC×waA×waB)):=loop (fun(zz:waA×Int×List ag×waC×waA×waB)=>aW R18 t t40 t41 n zz.1 zz.2.1 zz.2.2.1 zz.2.2.2.1 zz.2.2.2.2.1 zz.2.2.2.2.2) (used,t42,w3,m5,m13,m14)
theorem jf(hR18:ce R18){y:(waA×Int×List ag×waC×waA×waB)⊕((List ag×waC×waA×waB))}(h:aW R18 t t40 t41 n used t42 w3 m5 m13 m14=some y):aL Pg GE 0 (cA UQ 1015) (LQ (fun(zz:waA×Int×List ag×waC×waA×waB)=>bk t t40 t41 m m2 m3 m4 n m6 m7 m8 m9 m10 m11 m12 zz.1 zz.2.1 zz.2.2.1 zz.2.2.2.1 zz.2.2.2.2.1 zz.2.2.2.2.2) (fun _=>.exit 0) (cY m m2 m3 m4 n m6 m7 m8 m9 m10 m11 m12) y) (bk t t40 t41 m m2 m3 m4 n m6 m7 m8 m9 m10 m11 m12 used t42 w3 m5 m13 m14):=by
 rcases aJ h with⟨c8,h⟩|⟨c8,h⟩
 ·obtain⟨x9,bx9,h⟩:=ay h
  obtain⟨r10,br10,h⟩:=ay h
  obtain⟨l11,bl11,h⟩:=ay h
  have p13:=fun{sc F} (r:PS sc F)=>sg 0 c8<|sv (cO.ia (k:=.i64) bx9)<|sv (aV x9)<|sx jc<|sx (cQ x9)<|ze [0,1,0,0,12,28,63,127,255]<|sv (bM (⟨m13,m14⟩:ai) [])<|sv (bw x9 [])<|aX (hR18 _ _ _ br10)<|sv (cO.mk' (v:=wJ) ri ([r10]:List ae) 1 (by kernel_rfl))<|sv (cO.ap bl11)<|SE (rfl:cp (sl af l11)=some [sl af l11])<|sv (aN t)<|sv (aO t)<|cf (bh.ln t.Names)<|r
  rcases aJ h with⟨c12,h⟩|⟨c12,h⟩
  ·obtain rfl:=lf h
   have z:=p13<|sg 0 c12<|pq 0 .normal (bk t t40 t41 m m2 m3 m4 n m6 m7 m8 m9 m10 m11 m12 used (bL (t42+1)) w3 l11 m13 m14) rfl (cG (aI (yG (al t)) (aI (fh rfl) (aI (fh rfl) (aI (up (aw ie used)) (aI (fh rfl) (aI (up (aw al t40)) (aI trivial (aI trivial trivial))))))))) (aI trivial (aI trivial (aI (aI trivial (aI trivial (aI (up (aw al m)) (aI (up (aw ie ([]:List ag))) (aI trivial (aI trivial (aI trivial (aI (up (aw ah m2)) (aI (up (aw ah m2)) trivial))))))))) (aI (Un _ ie w3) (aI (aI trivial (aI trivial (aI (up (aw al l11)) (aI (fh rfl) (aI trivial (aI trivial (aI trivial (aI (up (aw ah m9)) (aI (up (aw ah m10)) trivial))))))))) (aI (aI (up (aw ie m11)) (aI (up (aw ah m12)) trivial)) (aI (aI (up (aw ie m13)) (aI (up (aw ah m14)) trivial)) trivial)))))))
   exact cJ (A:=Ti) mixed z<|by kernel_rfl
  ·obtain⟨x14,bx14,h⟩:=ay h
   obtain⟨r15,br15,h⟩:=ay h
   obtain⟨r16,br16,h⟩:=ay h
   obtain⟨r17,br17,h⟩:=ay h
   have p19:=fun{sc F} (r:PS sc F)=>p13<|sg 0 c12<|sv (aN t)<|sv (aO t)<|sv (bh.ia (k:=.i64) bx14)<|sv (dB Cb (.str x14) [])<|sv (bM (⟨m13,m14⟩:ai) [])<|sv (bh.mk' (v:=PVal.str) D8 ([x14]:List ag) 1 (by kernel_rfl))<|aX (dE br15)<|sy (bX r15)<|sv (bM r15 [])<|aX (gI br16)<|aX (eU br17)<|r
   rcases aJ h with⟨c18,h⟩|⟨c18,h⟩
   ·obtain⟨r20,br20,h⟩:=ay h
    obtain⟨x21,bx21,h⟩:=ay h
    obtain⟨l22,bl22,h⟩:=ay h
    obtain⟨x23,bx23,h⟩:=ay h
    obtain⟨l24,bl24,h⟩:=ay h
    obtain⟨x25,bx25,h⟩:=ay h
    obtain⟨r26,br26,h⟩:=ay h
    obtain rfl:=lf h
    have z:=p19<|sg 0 c18<|VW (.dx [0,1,0,0,0,24,63,127] [] [] [3])<|ss<|aX (FC br20)<|sv (bh.iaN 3 (k:=.i64) bx21)<|WQ (bh.stR (D8 r20) bl22)<|ss<|sv (bh.iaN 3 (k:=.i64) bx23)<|sv (bh.ldN (fun r=>dB Cb (.str x23) r) bx23)<|sv (bh.mk' (v:=PVal.str) D8 ([x23]:List ag) 1 (by kernel_rfl))<|sv (bh.ap bl24)<|ze [0,0,0,4,0,28,60,124,255,511]<|sv (bM r15 [])<|ss<|sv (bh.iaN 3 (k:=.i64) bx25)<|sv (bh.ldN (fun r=>dB Cb (.str x25) r) bx25)<|sb (nD 3 x25) (nA 3 x25)<|aX (gJ br26)<|Ri (cU r26)<|pq 0 .normal (bk t t40 t41 m m2 m3 m4 n m6 m7 m8 m9 m10 m11 m12 l24 (bL (t42+1)) l22 l11 r26.names r26.by_) rfl (cG (aI (yG (al t)) (aI (fh rfl) (aI (fh rfl) (aI (up (aw ie l24)) (aI (fh rfl) (aI (up (aw al t40)) (aI trivial (aI trivial trivial))))))))) (aI trivial (aI trivial (aI (aI trivial (aI trivial (aI (up (aw al m)) (aI (up (aw ie ([]:List ag))) (aI trivial (aI trivial (aI trivial (aI (up (aw ah m2)) (aI (up (aw ah m2)) trivial))))))))) (aI (Un _ ie l22) (aI (aI trivial (aI trivial (aI (up (aw al l11)) (aI (fh rfl) (aI trivial (aI trivial (aI trivial (aI (up (aw ah m9)) (aI (up (aw ah m10)) trivial))))))))) (aI (aI (up (aw ie m11)) (aI (up (aw ah m12)) trivial)) (aI (aI (up (aw ie r26.names)) (aI (up (aw ah r26.by_)) trivial)) trivial)))))))
    exact cJ (A:=Ti) mixed z<|by kernel_rfl
   ·obtain rfl:=lf h
    have z:=p19<|sg 0 c18<|pq 0 .normal (bk t t40 t41 m m2 m3 m4 n m6 m7 m8 m9 m10 m11 m12 used (bL (t42+1)) w3 l11 r15.names r15.by_) rfl (cG (aI (yG (al t)) (aI (fh rfl) (aI (fh rfl) (aI (up (aw ie used)) (aI (fh rfl) (aI (up (aw al t40)) (aI trivial (aI trivial trivial))))))))) (aI trivial (aI trivial (aI (aI trivial (aI trivial (aI (up (aw al m)) (aI (up (aw ie ([]:List ag))) (aI trivial (aI trivial (aI trivial (aI (up (aw ah m2)) (aI (up (aw ah m2)) trivial))))))))) (aI (Un _ ie w3) (aI (aI trivial (aI trivial (aI (up (aw al l11)) (aI (fh rfl) (aI trivial (aI trivial (aI trivial (aI (up (aw ah m9)) (aI (up (aw ah m10)) trivial))))))))) (aI (aI (up (aw ie m11)) (aI (up (aw ah m12)) trivial)) (aI (aI (up (aw ie r15.names)) (aI (up (aw ah r15.by_)) trivial)) trivial)))))))
    exact cJ (A:=Ti) mixed z<|by kernel_rfl
 ·obtain rfl:=lf h
  have z:=sg 0 c8<|eF (.exit 0) (cY m m2 m3 m4 n m6 m7 m8 m9 m10 m11 m12 (w3,m5,m13,m14))
  exact fG Ti (by intro hx;cases hx) z<|by kernel_rfl
theorem jW(hR18:ce R18){x:(List ag×waC×waA×waB)}(h:dp R18 t t40 t41 n used t42 w3 m5 m13 m14=some x):aL Pg GE 0 (.loop (cA UQ 1015)) (EX (.exit 0) (cY m m2 m3 m4 n m6 m7 m8 m9 m10 m11 m12 x)) (bk t t40 t41 m m2 m3 m4 n m6 m7 m8 m9 m10 m11 m12 used t42 w3 m5 m13 m14):=
 aL.loop (S:=fun(zz:waA×Int×List ag×waC×waA×waB)=>bk t t40 t41 m m2 m3 m4 n m6 m7 m8 m9 m10 m11 m12 zz.1 zz.2.1 zz.2.2.1 zz.2.2.2.1 zz.2.2.2.2.1 zz.2.2.2.2.2) (ex:=(fun _=>.exit 0)) (s:=(used,t42,w3,m5,m13,m14)) h fun zz y hy=>jf R18 t t40 t41 m m2 m3 m4 n m6 m7 m8 m9 m10 m11 m12 zz.1 zz.2.1 zz.2.2.1 zz.2.2.2.1 zz.2.2.2.2.1 zz.2.2.2.2.2 hR18 hy
end
def dW(R18:bD)(s:ai)(t:ae):Option ae:=
 (vj t.Names).bind fun r1=>
 (cj s t.Pred).bind fun r2=>
 (iL t.Preds s).bind fun r3=>
 (cK s).bind fun r4=>
 (ez t).bind fun r5=>
 (app r4 r5).bind fun l6=>
 (app l6 t.Names).bind fun l7=>
 (dp R18 t t.Args (t.Args.length:Int) r1.length l7 0 r1 ([]:List ae) s.names s.by_).bind fun o27=>
 (S0 r1.length o27.1).bind fun l28=>
 some (⟨t.Op,t.Name,o27.2.1,l28,r2,r3⟩:ae)
theorem ll(R18:bD)(hR18:ce R18){s:ai}{t:ae}{r:ae}(h:dW R18 s t=some r):CC Pg GE 88 [.agg (am s),.agg (af t)] (.agg (af r)) [(2,30)]:=by
 obtain⟨r1,br1,h⟩:=ay h
 obtain⟨r2,br2,h⟩:=ay h
 obtain⟨r3,br3,h⟩:=ay h
 obtain⟨r4,br4,h⟩:=ay h
 obtain⟨r5,br5,h⟩:=ay h
 obtain⟨l6,bl6,h⟩:=ay h
 obtain⟨l7,bl7,h⟩:=ay h
 obtain⟨o27,bo27,h⟩:=ay h
 obtain⟨l28,bl28,h⟩:=ay h
 obtain rfl:=lf h
 have z:=se (cE s)<|se (bR t)<|sx jc<|VW (.dx [0,1,0,4,0,16,48,0,0,256,1008,0,2048,0,8192,32752,65535,0,262143] [.cells (rE cS r1) []] [(6,3)] [])<|sv (aq t)<|sv (au t)<|sv (ch t)<|sv (cn t)<|sv (aN t)<|sv (aO t)<|WP 3 9 (bh.cloneR HN br1)<|sv (bY s)<|sv (bZ t)<|sv (b6 t)<|aX (eh br2)<|sv (bF t)<|sv (bG t)<|sv (bY s)<|aX (qg br3)<|sb (tQ t.Op t.Name 3 r1.length r2 r3) (tP t.Op t.Name 3 r1.length r2 r3)<|Ri (WO [.int .i64 t.Op,.str t.Name,sl af ([]:List ae),.bsl 3 0 r1.length,.int .i64 r2.Op,.str r2.Name,.int .i64 r2.N,sl ac r2.Kids,sl ac r3])<|sv (bY s)<|sx Mg<|sx (cU s)<|ze [0,1,0,7,15,0,32,127,255]<|sv (bM s [])<|aX (gI br4)<|sv (aV t)<|aX (ef br5)<|sv (bh.ap bl6)<|sv (aN t)<|sv (aO t)<|sv (bh.ap bl7)<|sv (bY s)<|sx Mg<|sx (cU s)<|sv (aA t)<|sv (aB t)<|cf (cO.ln t.Args)<|ct (jW R18 t t.Args (t.Args.length:Int) ([]:List ae) ([]:List aa) t.Op t.Name r1.length r2.Op r2.Name r2.N r2.Kids r3 s.names s.by_ l7 0 r1 ([]:List ae) s.names s.by_ hR18 bo27)<|Va 3 (l28.map cS) [4,5] [] (bh.fz1 (m:=0) (b:=3) rfl l28) (bh.fz2 3 l28) (WC cS bl28)<|sf (Ol 3 (p:=sl af ([]:List ae)) (aw al ([]:List ae)))<|sf (Ol 3 (p:=sl cS ([]:List ag)) (aw ie ([]:List ag)))<|sf (Ol 3 (p:=sl ac ([]:List aa)) (aw ah ([]:List aa)))<|sf (Ol 3 (p:=sl ac ([]:List aa)) (aw ah ([]:List aa)))<|sf (Ol 3 (p:=sl af o27.2.1) (aw al o27.2.1))<|sf (WD cS bl28)<|sf (Ol 3 (p:=sl ac r2.Kids) (aw ah r2.Kids))<|sf (Ol 3 (p:=sl ac r3) (aw ah r3))<|sf (Ol 3 (p:=sl cS s.names) (aw ie s.names))<|sf (Ol 3 (p:=sl ac s.by_) (aw ah s.by_))<|sf (Ol 3 (p:=sl cS o27.2.2.1) (aw ie o27.2.2.1))<|sf (Ol 3 (p:=sl ac o27.2.2.2) (aw ah o27.2.2.2))<|sz (bw (⟨t.Op,t.Name,o27.2.1,l28,r2,r3⟩:ae) [])<|sy (aU (⟨t.Op,t.Name,o27.2.1,l28,r2,r3⟩:ae))<|en (aI (dy (⟨t.Op,t.Name,o27.2.1,l28,r2,r3⟩:ae))<|aI (al (⟨t.Op,t.Name,o27.2.1,l28,r2,r3⟩:ae))<|rT)
 exact bo Ti call88 func88 (c:=UQ) rfl (aI (aT s) (aI (al t) trivial)) z<|by kernel_rfl
noncomputable def UP:Code:=f74.body.getD .skip
def UA:List Nat:=[14,21]
section
variable(R18:bD)(v:ai)(t8:waC)(t9:Int)(out:waC)(t10:Int)
def dF:ax:=aP 22 [(1,.func (.func 50) [.agg (am v)] []),(5,sl af out),(8,sl af t8),(9,.int .i64 t9),(10,.int .i64 t10)] [] [((5,0),30)]
def ib(o:waC):ax:=aP 22 [(5,sl af o)] [] [((5,0),30)]
def lA:Option ((waC×Int)⊕(waC)):=
 if(decide (t10<t9))=true then
  (dT t8 t10).bind fun x2=>
  (R18 v x2).bind fun r3=>
  (app out ([r3]:List ae)).bind fun l4=>
  some (.inl (l4,bL (t10+1)))
 else
  some (.inr out)
def jd:Option waC:=loop (fun(zz:waC×Int)=>lA R18 v t8 t9 zz.1 zz.2) (out,t10)
theorem rr(hR18:ce R18){y:(waC×Int)⊕(waC)}(h:lA R18 v t8 t9 out t10=some y):aL Pg GE 0 (cA UP 119) (LQ (fun(zz:waC×Int)=>dF v t8 t9 zz.1 zz.2) (fun _=>.exit 0) ib y) (dF v t8 t9 out t10):=by
 rcases aJ h with⟨c1,h⟩|⟨c1,h⟩
 ·obtain⟨x2,bx2,h⟩:=ay h
  obtain⟨r3,br3,h⟩:=ay h
  obtain⟨l4,bl4,h⟩:=ay h
  obtain rfl:=lf h
  have z:=sg 0 c1<|sv (cO.ia (k:=.i64) bx2)<|sv (aV x2)<|sx jc<|sx (cQ x2)<|sv (bw x2 [])<|aX (hR18 _ _ _ br3)<|sv (cO.mk' (v:=wJ) ri ([r3]:List ae) 1 (by kernel_rfl))<|sv (cO.ap bl4)<|pq 0 .normal (dF v t8 t9 l4 (bL (t10+1))) rfl (cG (aI (aI (aI (up (aT v)) trivial) trivial) (aI (up (aw al l4)) (aI (up (aw al t8)) (aI trivial (aI trivial trivial)))))) trivial
  exact cJ (A:=UA) mixed z<|by kernel_rfl
 ·obtain rfl:=lf h
  have z:=sg 0 c1<|eF (.exit 0) (ib out)
  exact fG UA (by intro hx;cases hx) z<|by kernel_rfl
theorem tc(hR18:ce R18){x:waC}(h:jd R18 v t8 t9 out t10=some x):aL Pg GE 0 (.loop (cA UP 119)) (EX (.exit 0) (ib x)) (dF v t8 t9 out t10):=
 aL.loop (S:=fun(zz:waC×Int)=>dF v t8 t9 zz.1 zz.2) (ex:=(fun _=>.exit 0)) (s:=(out,t10)) h fun zz y hy=>rr R18 v t8 t9 zz.1 zz.2 hR18 hy
end
def lT(R18:bD)(a:waC)(c:ai):Option waC:=
 (jd R18 c a (a.length:Int) ([]:List ae) 0).bind fun o5=>
 some o5
theorem wX(R18:bD)(hR18:ce R18){a:waC}{c:ai}{r:waC}(h:lT R18 a c=some r):CC Pg GE 74 [sl af a,.func (.func 50) [.agg (am c)] []] (sl af r) [(0,30)]:=by
 obtain⟨o5,bo5,h⟩:=ay h
 obtain rfl:=lf h
 have z:=cf (cO.ln a)<|ct (tc R18 c a (a.length:Int) ([]:List ae) 0 hR18 bo5)<|en (aI (rP (sl af o5))<|(aw al o5))
 exact bo UA call74 func74 (c:=UP) rfl (aI (aw al a) (aI (aI (aI (aT c) trivial) trivial) trivial)) z<|by kernel_rfl
noncomputable def VA:Code:=f50.body.getD .skip
def Vp:List Nat:=[]
def dq(R18:bD)(s:ai)(t:ae):Option ae:=
 if(t.Op==6)=true then
  (dW R18 s t).bind fun r3=>
  some r3
 else
  (vj t.Names).bind fun r4=>
  (cj s t.Pred).bind fun r5=>
  (iL t.Preds s).bind fun r6=>
  (lT R18 t.Args s).bind fun r7=>
  some (⟨t.Op,t.Name,r7,r4,r5,r6⟩:ae)
theorem mY(R18:bD)(hR18:ce R18){s:ai}{t:ae}{r:ae}(h:dq R18 s t=some r):CC Pg GE 50 [.agg (am s),.agg (af t)] (.agg (af r)) [(2,30)]:=by
 have p2:=fun{sc F} (r:PS sc F)=>se (cE s)<|se (bR t)<|sx jc<|sv (aq t)<|sv (au t)<|r
 rcases aJ h with⟨c1,h⟩|⟨c1,h⟩
 ·obtain⟨r3,br3,h⟩:=ay h
  obtain rfl:=lf h
  have z:=p2<|sg 0 c1<|sv (bY s)<|sv (aV t)<|aX (ll R18 hR18 br3)<|sy (aU r3)<|en (aI (dy r3)<|aI (al r3)<|rT)
  exact bo Vp call50 func50 (c:=VA) rfl (aI (aT s) (aI (al t) trivial)) z<|by kernel_rfl
 ·obtain⟨r4,br4,h⟩:=ay h
  obtain⟨r5,br5,h⟩:=ay h
  obtain⟨r6,br6,h⟩:=ay h
  obtain⟨r7,br7,h⟩:=ay h
  obtain rfl:=lf h
  have z:=p2<|sg 0 c1<|ze [0,1,0,4,0,16,48,0,0,256,1008,0,2048,0,8192,32752,65535,0,262143]<|sv (aq t)<|sv (au t)<|sv (ch t)<|sv (cn t)<|sv (aN t)<|sv (aO t)<|aX (LG br4)<|sv (bY s)<|sv (bZ t)<|sv (b6 t)<|aX (eh br5)<|sv (bF t)<|sv (bG t)<|sv (bY s)<|aX (qg br6)<|sb (yE t.Op t.Name r4 r5 r6) (yD t.Op t.Name r4 r5 r6)<|Ri (cQ (⟨t.Op,t.Name,([]:List ae),r4,r5,r6⟩:ae))<|sv (aA t)<|sv (aB t)<|sv (bY s)<|aX (wX R18 hR18 br7)<|sz (bw (⟨t.Op,t.Name,r7,r4,r5,r6⟩:ae) [])<|sy (aU (⟨t.Op,t.Name,r7,r4,r5,r6⟩:ae))<|en (aI (dy (⟨t.Op,t.Name,r7,r4,r5,r6⟩:ae))<|aI (al (⟨t.Op,t.Name,r7,r4,r5,r6⟩:ae))<|rT)
  exact bo Vp call50 func50 (c:=VA) rfl (aI (aT s) (aI (al t) trivial)) z<|by kernel_rfl
def eT:((ai×ae)->Option ae)->(ai×ae)->Option ae:=fun(rec:(ai×ae)->Option ae) (x:ai×ae)=>dq (fun s t=>rec (s,t)) x.1 x.2
def fA(s:ai)(t:ae):Option ae:=lH eT (s,t)
theorem nO{s:ai}{t:ae}{r:ae}(h:fA s t=some r):CC Pg GE 50 [.agg (am s),.agg (af t)] (.agg (af r)) [(2,30)]:=
 cC (F:=eT) (M:=fun(x:ai×ae) (r:ae)=>CC Pg GE 50 [.agg (am x.1),.agg (af x.2)] (.agg (af r)) [(2,30)]) (fun rec hrec x r h=>mY _ (fun s t r h=>hrec (s,t) r h) h) h
noncomputable def Wl:Code:=f15.body.getD .skip
def V6:List Nat:=[]
def iZ(t:ae)(a:waA)(a2:waB):Option ae:=
 (GA a none (some (if(a2.length:Int)<(a.length:Int)then(a2.length:Int)else(a.length:Int)))).bind fun l1=>
 (GA a2 none (some (if(a2.length:Int)<(a.length:Int)then(a2.length:Int)else(a.length:Int)))).bind fun l2=>
 (bE (⟨l1,l2⟩:ai) ([([118]:ag)]:List ag)).bind fun r3=>
 (fA r3 t).bind fun r4=>
 some r4
theorem nl{t:ae}{a:waA}{a2:waB}{r:ae}(h:iZ t a a2=some r):CC Pg GE 15 [.agg (af t),sl cS a,sl ac a2] (.agg (af r)) [(2,30)]:=by
 obtain⟨l1,bl1,h⟩:=ay h
 obtain⟨l2,bl2,h⟩:=ay h
 obtain⟨r3,br3,h⟩:=ay h
 obtain⟨r4,br4,h⟩:=ay h
 obtain rfl:=lf h
 have z:=se (bR t)<|sx jc<|cf (bh.ln a)<|cf (aZ.ln a2)<|ze [0,0,3,0,0,24,63,0,255,0,1023]<|sv (bh.sc bl1)<|sv (aZ.sc bl2)<|sv (nC l1 l2)<|sv (bh.mk' (v:=PVal.str) D8 ([([118]:ag)]:List ag) 1 (by kernel_rfl))<|aX (dE br3)<|Ri (cU r3)<|sv (bM r3 [])<|sv (aV t)<|aX (nO br4)<|sy (aU r4)<|en (aI (dy r4)<|aI (al r4)<|rT)
 exact bo V6 call15 func15 (c:=Wl) rfl (aI (al t) (aI (aw ie a) (aI (aw ah a2) trivial))) z<|by kernel_rfl
noncomputable def Wk:Code:=f13.body.getD .skip
def V5:List Nat:=[]
def fy(t:ae)(name:ag)(a:aa):Option ae:=
 (iZ t ([name]:List ag) ([a]:List aa)).bind fun r1=>
 some r1
theorem i6{t:ae}{name:ag}{a:aa}{r:ae}(h:fy t name a=some r):CC Pg GE 13 [.agg (af t),.str name,.agg (ac a)] (.agg (af r)) [(2,30)]:=by
 obtain⟨r1,br1,h⟩:=ay h
 obtain rfl:=lf h
 have z:=se (bR t)<|se (bJ a)<|sx jc<|sv (aV t)<|sv (bh.mk' (v:=PVal.str) D8 ([name]:List ag) 1 (by kernel_rfl))<|sv (aM a)<|sv (aZ.mk' (v:=cu) bK ([a]:List aa) 1 (by kernel_rfl))<|aX (nl br1)<|sy (aU r1)<|en (aI (dy r1)<|aI (al r1)<|rT)
 exact bo V5 call13 func13 (c:=Wk) rfl (aI (al t) (aI trivial (aI (ah a) trivial))) z<|by kernel_rfl
noncomputable def Tz:Code:=f18.body.getD .skip
def RS:List Nat:=[28]
section
variable(args:waB)(t:ae)(m:waC)(m2:waB)
def y6:ax:=aP 54 [(1,sl ac args),(2,.eptr (af t)),(4,.bptr 1 0)] [.dead,.cells [.int .i64 0,.str ([]:ag),sl af m,sl cS ([]:List ag),.int .i64 0,.str ([]:ag),.int .i64 0,sl ac m2,sl ac m2] [(2,30),(3,9),(7,28),(8,28)]] []
def ki(o:Bool):ax:=aP 54 [(1,sl ac args),(2,.eptr (af t)),(4,.bptr 1 0),(20,.bool o)] [.dead,.cells [.int .i64 0,.str ([]:ag),sl af m,sl cS ([]:List ag),.int .i64 0,.str ([]:ag),.int .i64 0,sl ac m2,sl ac m2] [(2,30),(3,9),(7,28),(8,28)]] []
def rp:Option Bool:=
 if(t.Op !=6)=true then
  some true
 else
  some ((t.Args.length:Int)!=(bL ((args.length:Int)+1)))
theorem wQ{x:Bool}(h:rp args t=some x):aL Pg GE 0 (cA Tz 12) (EX .normal (ki args t m m2 x)) (y6 args t m m2):=by
 have p2:=fun{sc F} (r:PS sc F)=>sv (aq t)<|sv (au t)<|r
 rcases aJ h with⟨c1,h⟩|⟨c1,h⟩
 ·obtain rfl:=lf h
  exact bm RS (p2<|sg 4 c1<|eF .normal (ki args t m m2 true))<|by kernel_rfl
 ·obtain rfl:=lf h
  exact bm RS (p2<|sg 4 c1<|sv (aA t)<|sv (aB t)<|cf (cO.ln t.Args)<|cf (aZ.ln args)<|eF .normal (ki args t m m2 ((t.Args.length:Int)!=(bL ((args.length:Int)+1)))))<|by kernel_rfl
end
section
variable(args:waB)(t:ae)(t24:waA)(t25:Int)(m:waC)(m2:waB)(t26:Int)(m3:waA)(m4:waB)
def dJ:ax:=aP 54 [(1,sl ac args),(2,.eptr (af t)),(4,.bptr 1 0),(6,.bptr 2 0),(24,sl cS t24),(25,.int .i64 t25),(26,.int .i64 t26)] [.dead,.cells [.int .i64 0,.str ([]:ag),sl af m,sl cS ([]:List ag),.int .i64 0,.str ([]:ag),.int .i64 0,sl ac m2,sl ac m2] [(2,30),(3,9),(7,28),(8,28)],.cells [sl cS m3,sl ac m4] [(0,9),(1,28)]] []
def kj(o:waA×waB):ax:=aP 54 [(1,sl ac args),(2,.eptr (af t)),(4,.bptr 1 0),(6,.bptr 2 0)] [.dead,.cells [.int .i64 0,.str ([]:ag),sl af m,sl cS ([]:List ag),.int .i64 0,.str ([]:ag),.int .i64 0,sl ac m2,sl ac m2] [(2,30),(3,9),(7,28),(8,28)],.cells [sl cS o.1,sl ac o.2] [(0,9),(1,28)]] []
def oZ:Option ((Int×waA×waB)⊕((waA×waB))):=
 if(decide (t26<t25))=true then
  (dT t24 t26).bind fun x7=>
  if(decide (t26<(args.length:Int)))=true then
   (dT args t26).bind fun x10=>
   (cM (⟨m3,m4⟩:ai) x7 x10).bind fun r11=>
   some (.inl (bL (t26+1),r11.names,r11.by_))
  else
   some (.inl (bL (t26+1),m3,m4))
 else
  some (.inr (m3,m4))
def rq:Option ((waA×waB)):=loop (fun(zz:Int×waA×waB)=>oZ args t24 t25 zz.1 zz.2.1 zz.2.2) (t26,m3,m4)
theorem vO{y:(Int×waA×waB)⊕((waA×waB))}(h:oZ args t24 t25 t26 m3 m4=some y):aL Pg GE 0 (cA Tz 247) (LQ (fun(zz:Int×waA×waB)=>dJ args t t24 t25 m m2 zz.1 zz.2.1 zz.2.2) (fun _=>.exit 0) (kj args t m m2) y) (dJ args t t24 t25 m m2 t26 m3 m4):=by
 rcases aJ h with⟨c6,h⟩|⟨c6,h⟩
 ·obtain⟨x7,bx7,h⟩:=ay h
  have p9:=fun{sc F} (r:PS sc F)=>sg 0 c6<|sv (bh.ia (k:=.i64) bx7)<|sv (dB Cb (.str x7) [])<|cf (aZ.ln args)<|r
  rcases aJ h with⟨c8,h⟩|⟨c8,h⟩
  ·obtain⟨x10,bx10,h⟩:=ay h
   obtain⟨r11,br11,h⟩:=ay h
   obtain rfl:=lf h
   exact pZ RS (p9<|sg 0 c8<|ze [0,0,0,0,12,28,63,127]<|sv (bM (⟨m3,m4⟩:ai) [])<|sv (aZ.ia (k:=.i64) bx10)<|sv (aM x10)<|aX (gJ br11)<|Ri (cU r11)<|eF .normal (dJ args t t24 t25 m m2 (bL (t26+1)) r11.names r11.by_))<|by kernel_rfl
  ·obtain rfl:=lf h
   exact pZ RS (p9<|sg 0 c8<|eF .normal (dJ args t t24 t25 m m2 (bL (t26+1)) m3 m4))<|by kernel_rfl
 ·obtain rfl:=lf h
  have z:=sg 0 c6<|eF (.exit 0) (kj args t m m2 (m3,m4))
  exact fG RS (by intro hx;cases hx) z<|by kernel_rfl
theorem wR{x:(waA×waB)}(h:rq args t24 t25 t26 m3 m4=some x):aL Pg GE 0 (.loop (cA Tz 247)) (EX (.exit 0) (kj args t m m2 x)) (dJ args t t24 t25 m m2 t26 m3 m4):=
 aL.loop (S:=fun(zz:Int×waA×waB)=>dJ args t t24 t25 m m2 zz.1 zz.2.1 zz.2.2) (ex:=(fun _=>.exit 0)) (s:=(t26,m3,m4)) h fun zz y hy=>vO args t t24 t25 m m2 zz.1 zz.2.1 zz.2.2 hy
end
def xO(t:ae)(args:waB):Option (ae×Int):=
 (rp args t).bind fun o3=>
 if o3=true then
  some ((⟨0,([]:ag),([]:List ae),([]:List ag),(⟨0,([]:ag),0,([]:List aa)⟩:aa),([]:List aa)⟩:ae),13)
 else
  (rq args t.Names (t.Names.length:Int) 0 ([]:List ag) ([]:List aa)).bind fun o12=>
  (dT t.Args (args.length:Int)).bind fun x13=>
  (iZ x13 o12.1 o12.2).bind fun r14=>
  some (r14,0)
theorem B5{t:ae}{args:waB}{r:ae×Int}(h:xO t args=some r):CC Pg GE 18 [.agg (af t),sl ac args] (.tuple [.agg (af r.1),.int .i64 r.2]) []:=by
 obtain⟨o3,bo3,h⟩:=ay h
 have p5:=fun{sc F} (r:PS sc F)=>se (bR t)<|sx jc<|iO 1<|ct (wQ args t ([]:List ae) ([]:List aa) bo3)<|r
 rcases aJ h with⟨c4,h⟩|⟨c4,h⟩
 ·obtain rfl:=lf h
  have z:=p5<|sg 0 c4<|sb (Ly) (Lw)<|sy (aU (⟨0,([]:ag),([]:List ae),([]:List ag),(⟨0,([]:ag),0,([]:List aa)⟩:aa),([]:List aa)⟩:ae))<|en (aI (vbo PVal.tuple (MA (dy (⟨0,([]:ag),([]:List ae),([]:List ag),(⟨0,([]:ag),0,([]:List aa)⟩:aa),([]:List aa)⟩:ae)) (MA (rP (.int .i64 13)) (rfl:([]:List PVal)=[]))))<|(aI (al (⟨0,([]:ag),([]:List ae),([]:List ag),(⟨0,([]:ag),0,([]:List aa)⟩:aa),([]:List aa)⟩:ae)) (aI trivial trivial)))
  exact bo RS call18 func18 (c:=Tz) rfl (aI (al t) (aI (aw ah args) trivial)) z<|by kernel_rfl
 ·obtain⟨o12,bo12,h⟩:=ay h
  obtain⟨x13,bx13,h⟩:=ay h
  obtain⟨r14,br14,h⟩:=ay h
  obtain rfl:=lf h
  have z:=p5<|sg 0 c4<|sb (pp) (po)<|sx Mg<|sy (bX (⟨([]:List ag),([]:List aa)⟩:ai))<|sv (aN t)<|sv (aO t)<|cf (bh.ln t.Names)<|ct (wR args t t.Names (t.Names.length:Int) ([]:List ae) ([]:List aa) 0 ([]:List ag) ([]:List aa) bo12)<|ze [0,1,0,4,15,31,0,64,0,256,1023,2047,4095]<|sv (aA t)<|sv (aB t)<|cf (aZ.ln args)<|sv (cO.ia (k:=.i64) bx13)<|sv (aV x13)<|ss<|ss<|aX (nl br14)<|Ri (cQ r14)<|en (aI (vbo PVal.tuple (MA (dy r14) (MA (rP (.int .i64 0)) (rfl:([]:List PVal)=[]))))<|(aI (al r14) (aI trivial trivial)))
  exact bo RS call18 func18 (c:=Tz) rfl (aI (al t) (aI (aw ah args) trivial)) z<|by kernel_rfl
abbrev jN:=(ae->waA->waC->Option ae)
abbrev l5(R:jN):Prop:=∀(t:ae) (a:waA) (a2:waC) (r:ae),R t a a2=some r->CC Pg GE 95 [.agg (af t),sl cS a,sl af a2] (.agg (af r)) [(2,30),(8,28)]
noncomputable def Qv:Code:=f122.body.getD .skip
def Qf:List Nat:=[]
def zk(p:aa):Option Bool:=
 if (p.Op == 0) = true then
  if(p.Name==([]:ag))=true then
   if(p.N==0)=true then
    some ((p.Kids.length:Int)==0)
   else
    some false
  else
   some false
 else
  some false
theorem yd{p:aa}{r:Bool}(h:zk p=some r):CC Pg GE 122 [.agg (ac p)] (.bool r) []:=by
 have p2:=fun{sc F} (r:PS sc F)=>se (bJ p)<|sv (aD p)<|sv (aE p)<|r
 rcases aJ h with⟨c1,h⟩|⟨c1,h⟩
 ·have p4:=fun{sc F} (r:PS sc F)=>p2<|sg 4 c1<|sv (bp p)<|sv (bH p)<|r
  rcases aJ h with⟨c3,h⟩|⟨c3,h⟩
  ·have p6:=fun{sc F} (r:PS sc F)=>p4<|sg 9 c3<|sv (bu p)<|sv (bI p)<|r
   rcases aJ h with⟨c5,h⟩|⟨c5,h⟩
   ·obtain rfl:=lf h
    have z:=p6<|sg 14 c5<|sv (aG p)<|sv (aH p)<|cf (aZ.ln p.Kids)<|en (aI (rP (.bool ((p.Kids.length:Int)==0)))<|trivial)
    exact bo Qf call122 func122 (c:=Qv) rfl (aI (ah p) trivial) z<|by kernel_rfl
   ·obtain rfl:=lf h
    have z:=p6<|sg 14 c5<|en (aI (rP (.bool false))<|trivial)
    exact bo Qf call122 func122 (c:=Qv) rfl (aI (ah p) trivial) z<|by kernel_rfl
  ·obtain rfl:=lf h
   have z:=p4<|sg 9 c3<|en (aI (rP (.bool false))<|trivial)
   exact bo Qf call122 func122 (c:=Qv) rfl (aI (ah p) trivial) z<|by kernel_rfl
 ·obtain rfl:=lf h
  have z:=p2<|sg 4 c1<|en (aI (rP (.bool false))<|trivial)
  exact bo Qf call122 func122 (c:=Qv) rfl (aI (ah p) trivial) z<|by kernel_rfl
abbrev ny:=(aa->Option aa)
abbrev rI(R:ny):Prop:=∀(p:aa) (r:aa),R p=some r->CC Pg GE 123 [.agg (ac p)] (.agg (ac r)) [(3,28)]
noncomputable def R8:Code:=f123.body.getD .skip
def RN:List Nat:=[21]
section
variable(R36:ny)(t14:waB)(t15:Int)(m:waB)(m2:Int)(m3:ag)(m4:Int)(t16:Int)(m5:waB)
def gO:ax:=aP 29 [(2,.bptr 1 0),(3,.bptr 2 0),(14,sl ac t14),(15,.int .i64 t15),(16,.int .i64 t16)] [.dead,.cells [.int .i64 0,.str ([]:ag),.int .i64 0,sl ac m] [(3,28)],.cells [.int .i64 m2,.str m3,.int .i64 m4,sl ac m5] [(3,28)]] []
def ng(o:waB):ax:=aP 29 [(2,.bptr 1 0),(3,.bptr 2 0)] [.dead,.cells [.int .i64 0,.str ([]:ag),.int .i64 0,sl ac m] [(3,28)],.cells [.int .i64 m2,.str m3,.int .i64 m4,sl ac o] [(3,28)]] []
def tJ:Option ((Int×waB)⊕(waB)):=
 if(decide (t16<t15))=true then
  (dT t14 t16).bind fun x2=>
  (R36 x2).bind fun r3=>
  (app m5 ([r3]:List aa)).bind fun l4=>
  some (.inl (bL (t16+1),l4))
 else
  some (.inr m5)
def yc:Option waB:=loop (fun(zz:Int×waB)=>tJ R36 t14 t15 zz.1 zz.2) (t16,m5)
theorem A6(hR36:rI R36){y:(Int×waB)⊕(waB)}(h:tJ R36 t14 t15 t16 m5=some y):aL Pg GE 0 (cA R8 119) (LQ (fun(zz:Int×waB)=>gO t14 t15 m m2 m3 m4 zz.1 zz.2) (fun _=>.exit 0) (ng m m2 m3 m4) y) (gO t14 t15 m m2 m3 m4 t16 m5):=by
 rcases aJ h with⟨c1,h⟩|⟨c1,h⟩
 ·obtain⟨x2,bx2,h⟩:=ay h
  obtain⟨r3,br3,h⟩:=ay h
  obtain⟨l4,bl4,h⟩:=ay h
  obtain rfl:=lf h
  have z:=sg 0 c1<|sv (aZ.ia (k:=.i64) bx2)<|sv (aM x2)<|sx fY<|sx (cb x2)<|ze [0,1,0,4,12,31,63,127]<|sv (bj x2 [])<|aX (hR36 _ _ br3)<|sv (aZ.mk' (v:=cu) bK ([r3]:List aa) 1 (by kernel_rfl))<|sv (aZ.ap bl4)<|SE (rfl:cp (sl ac l4)=some [sl ac l4])<|pq 0 .normal (gO t14 t15 m m2 m3 m4 (bL (t16+1)) l4) rfl (cG (aI (fh rfl) (aI (fh rfl) (aI (up (aw ah t14)) (aI trivial (aI trivial trivial)))))) (aI trivial (aI (aI trivial (aI trivial (aI trivial (aI (up (aw ah m)) trivial)))) (aI (aI trivial (aI trivial (aI trivial (aI (up (aw ah l4)) trivial)))) trivial)))
  exact cJ (A:=RN) mixed z<|by kernel_rfl
 ·obtain rfl:=lf h
  have z:=sg 0 c1<|eF (.exit 0) (ng m m2 m3 m4 m5)
  exact fG RN (by intro hx;cases hx) z<|by kernel_rfl
theorem Cn(hR36:rI R36){x:waB}(h:yc R36 t14 t15 t16 m5=some x):aL Pg GE 0 (.loop (cA R8 119)) (EX (.exit 0) (ng m m2 m3 m4 x)) (gO t14 t15 m m2 m3 m4 t16 m5):=
 aL.loop (S:=fun(zz:Int×waB)=>gO t14 t15 m m2 m3 m4 zz.1 zz.2) (ex:=(fun _=>.exit 0)) (s:=(t16,m5)) h fun zz y hy=>A6 R36 t14 t15 m m2 m3 m4 zz.1 zz.2 hR36 hy
end
def A3(R36:ny)(p:aa):Option aa:=
 (yc R36 p.Kids (p.Kids.length:Int) 0 ([]:List aa)).bind fun o5=>
 some (⟨p.Op,p.Name,p.N,o5⟩:aa)
theorem Gy(R36:ny)(hR36:rI R36){p:aa}{r:aa}(h:A3 R36 p=some r):CC Pg GE 123 [.agg (ac p)] (.agg (ac r)) [(3,28)]:=by
 obtain⟨o5,bo5,h⟩:=ay h
 obtain rfl:=lf h
 have z:=se (bJ p)<|sx fY<|sv (aD p)<|sv (aE p)<|sv (bp p)<|sv (bH p)<|sv (bu p)<|sv (bI p)<|sb (oB p.Op p.Name p.N) (oz p.Op p.Name p.N)<|sx fY<|sy (aQ (⟨p.Op,p.Name,p.N,([]:List aa)⟩:aa))<|sv (aG p)<|sv (aH p)<|cf (aZ.ln p.Kids)<|ct (Cn R36 p.Kids (p.Kids.length:Int) ([]:List aa) p.Op p.Name p.N 0 ([]:List aa) hR36 bo5)<|sz (bj (⟨p.Op,p.Name,p.N,o5⟩:aa) [])<|sy (aQ (⟨p.Op,p.Name,p.N,o5⟩:aa))<|en (aI (dw (⟨p.Op,p.Name,p.N,o5⟩:aa))<|aI (ah (⟨p.Op,p.Name,p.N,o5⟩:aa))<|rT)
 exact bo RN call123 func123 (c:=R8) rfl (aI (ah p) trivial) z<|by kernel_rfl
def A4:(aa->Option aa)->(aa)->Option aa:=fun(rec:aa->Option aa) (x:aa)=>A3 (fun p=>rec p) x
def pl(p:aa):Option aa:=lH A4 p
theorem mo{p:aa}{r:aa}(h:pl p=some r):CC Pg GE 123 [.agg (ac p)] (.agg (ac r)) [(3,28)]:=
 cC (F:=A4) (M:=fun(x:aa) (r:aa)=>CC Pg GE 123 [.agg (ac x)] (.agg (ac r)) [(3,28)]) (fun rec hrec x r h=>Gy _ (fun p r h=>hrec p r h) h) h
end Go.Proofs.YtggeppllafbidaaGreatDoor
