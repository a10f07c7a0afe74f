/- PROVED: a part of the proof. Conditions: none. -/
import Derived.Test.YtggeppllafbidaaGreatDoorPkB11
noncomputable section
namespace Go.Proofs.YtggeppllafbidaaGreatDoor
open Go Go.Proofs.Tryz
set_option linter.unusedVariables false
set_option maxRecDepth 100000
noncomputable def OU:Code:=f99.body.getD .skip
def OI:List Nat:=[21]
section
variable(R23:lF)(t14:waA)(t15:Int)(m:waA)(m2:Int)(m3:ai)(m4:Int)(t16:Int)(m5:waA)
def fM:aq:=aP 29 [(2,.bptr 1 0),(3,.bptr 2 0),(14,sl ac t14),(15,.int .i64 t15),(16,.int .i64 t16)] [.dead,.cells [.int .i64 0,.str ([]:ai),.int .i64 0,sl ac m] [(3,28)],.cells [.int .i64 m2,.str m3,.int .i64 m4,sl ac m5] [(3,28)]] []
def lp(o:waA):aq:=aP 29 [(2,.bptr 1 0),(3,.bptr 2 0)] [.dead,.cells [.int .i64 0,.str ([]:ai),.int .i64 0,sl ac m] [(3,28)],.cells [.int .i64 m2,.str m3,.int .i64 m4,sl ac o] [(3,28)]] []
def iB:Option ((Int×waA)⊕(waA)):=
 if(decide (t16<t15))=true then
  (eh t14 t16).bind fun x2=>
  (R23 x2).bind fun r3=>
  (app m5 ([r3]:List aa)).bind fun l4=>
  some (.inl (cf (t16+1),l4))
 else
  some (.inr m5)
def nK:Option waA:=loop (fun(zz:Int×waA)=>iB R23 t14 t15 zz.1 zz.2) (t16,m5)
theorem w9(hR23:pq R23){y:(Int×waA)⊕(waA)}(h:iB R23 t14 t15 t16 m5=some y):aC Pg GE 0 (cA OU 119) (LQ (fun(zz:Int×waA)=>fM t14 t15 m m2 m3 m4 zz.1 zz.2) (fun _=>.exit 0) (lp m m2 m3 m4) y) (fM t14 t15 m m2 m3 m4 t16 m5):=by
 rcases aT h with⟨c1,h⟩|⟨c1,h⟩
 ·obtain⟨x2,bx2,h⟩:=av h
  obtain⟨r3,br3,h⟩:=av h
  obtain⟨l4,bl4,h⟩:=av h
  obtain rfl:=lf h
  have z:=sg 0 c1<|sv (aQ.ia (k:=.i64) bx2)<|sv (aB x2)<|sx dB<|sx (aW x2)<|ue [0,1,0,4,12,31,63,127]<|sv (aD x2 [])<|bg (hR23 _ _ br3)<|sv (aQ.mk' (v:=b9) aV ([r3]:List aa) 1 (by kernel_rfl))<|sv (aQ.ap bl4)<|KS (rfl:bZ (sl ac l4)=some [sl ac l4])<|jw 0 .normal (fM t14 t15 m m2 m3 m4 (cf (t16+1)) l4) rfl (bS (aI (co rfl) (aI (co rfl) (aI (up (ak ag t14)) (aI trivial (aI trivial trivial)))))) (aI trivial (aI (aI trivial (aI trivial (aI trivial (aI (up (ak ag m)) trivial)))) (aI (aI trivial (aI trivial (aI trivial (aI (up (ak ag l4)) trivial)))) trivial)))
  exact cd (A:=OI) mixed z<|by kernel_rfl
 ·obtain rfl:=lf h
  have z:=sg 0 c1<|eF (.exit 0) (lp m m2 m3 m4 m5)
  exact gZ OI (by intro hx;cases hx) z<|by kernel_rfl
theorem yu(hR23:pq R23){x:waA}(h:nK R23 t14 t15 t16 m5=some x):aC Pg GE 0 (.loop (cA OU 119)) (EX (.exit 0) (lp m m2 m3 m4 x)) (fM t14 t15 m m2 m3 m4 t16 m5):=
 aC.loop (S:=fun(zz:Int×waA)=>fM t14 t15 m m2 m3 m4 zz.1 zz.2) (ex:=(fun _=>.exit 0)) (s:=(t16,m5)) h fun zz y hy=>w9 R23 t14 t15 m m2 m3 m4 zz.1 zz.2 hR23 hy
end
def pK(R23:lF)(p:aa):Option aa:=
 (nK R23 p.Kids (p.Kids.length:Int) 0 ([]:List aa)).bind fun o5=>
 some (⟨p.Op,p.Name,p.N,o5⟩:aa)
theorem Bi(R23:lF)(hR23:pq R23){p:aa}{r:aa}(h:pK R23 p=some r):CC Pg GE 99 [.agg (ac p)] (.agg (ac r)) [(3,28)]:=by
 obtain⟨o5,bo5,h⟩:=av h
 obtain rfl:=lf h
 have z:=se (bj p)<|sx dB<|sv (aE p)<|sv (aF p)<|sv (bo p)<|sv (bD p)<|sv (bU p)<|sv (ce p)<|sb (kf p.Op p.Name p.N) (ke p.Op p.Name p.N)<|sx dB<|sy (ax (⟨p.Op,p.Name,p.N,([]:List aa)⟩:aa))<|sv (ay p)<|sv (az p)<|cx (aQ.ln p.Kids)<|cC (yu R23 p.Kids (p.Kids.length:Int) ([]:List aa) p.Op p.Name p.N 0 ([]:List aa) hR23 bo5)<|sz (aD (⟨p.Op,p.Name,p.N,o5⟩:aa) [])<|sy (ax (⟨p.Op,p.Name,p.N,o5⟩:aa))<|en (aI (bR (⟨p.Op,p.Name,p.N,o5⟩:aa))<|aI (ag (⟨p.Op,p.Name,p.N,o5⟩:aa))<|rT)
 exact cb OI call99 func99 (c:=OU) rfl (aI (ag p) trivial) z<|by kernel_rfl
def lK:(aa->Option aa)->(aa)->Option aa:=fun(rec:aa->Option aa) (x:aa)=>pK (fun p=>rec p) x
def lY(p:aa):Option aa:=kY lK p
theorem nM{p:aa}{r:aa}(h:lY p=some r):CC Pg GE 99 [.agg (ac p)] (.agg (ac r)) [(3,28)]:=
 cw (F:=lK) (M:=fun(x:aa) (r:aa)=>CC Pg GE 99 [.agg (ac x)] (.agg (ac r)) [(3,28)]) (fun rec hrec x r h=>Bi _ (fun p r h=>hrec p r h) h) h
noncomputable def Iw:Code:=f101.body.getD .skip
def EH:List Nat:=[46]
section
variable(v:waB)(v2:waA)(p:aa)(i:Int)(m:waA)
def wZ:aq:=aP 56 [(1,sl cS v),(2,sl ac v2),(3,.eptr (ac p)),(6,.bptr 1 0),(7,.int .i64 i)] [.dead,.cells [.int .i64 0,.str ([]:ai),.int .i64 0,sl ac m] [(3,28)]] []
def jK(o:Bool):aq:=aP 56 [(1,sl cS v),(2,sl ac v2),(3,.eptr (ac p)),(6,.bptr 1 0),(7,.int .i64 i),(25,.bool o)] [.dead,.cells [.int .i64 0,.str ([]:ai),.int .i64 0,sl ac m] [(3,28)]] []
def lj:Option Bool:=
 if(decide (i>=0))=true then
  some (decide (i<(v2.length:Int)))
 else
  some false
theorem uS{x:Bool}(h:lj v2 i=some x):aC Pg GE 0 (cA Iw 106) (EX .normal (jK v v2 p i m x)) (wZ v v2 p i m):=by
 rcases aT h with⟨c4,h⟩|⟨c4,h⟩
 ·obtain rfl:=lf h
  exact ct EH (sg 3 c4<|cx (aQ.ln v2)<|eF .normal (jK v v2 p i m (decide (i<(v2.length:Int)))))<|by kernel_rfl
 ·obtain rfl:=lf h
  exact ct EH (sg 3 c4<|eF .normal (jK v v2 p i m false))<|by kernel_rfl
end
section
variable(v:waB)(v2:waA)(p:aa)(m:waA)
def wY:aq:=aP 56 [(1,sl cS v),(2,sl ac v2),(3,.eptr (ac p)),(6,.bptr 1 0)] [.dead,.cells [.int .i64 0,.str ([]:ai),.int .i64 0,sl ac m] [(3,28)]] []
def gi(o:(Int×ai×Int×waA)⊕(Unit)):Exit:=match o with
 |(.inl _)=>.ret
 |(.inr _)=>.normal
def dI(o:(Int×ai×Int×waA)⊕(Unit)):aq:=match o with
 |(.inl o)=>aP 56 [(6,.bptr 1 0)] [.dead,.cells [.int .i64 o.1,.str o.2.1,.int .i64 o.2.2.1,sl ac o.2.2.2] [(3,28)]] []
 |(.inr o)=>aP 56 [(1,sl cS v),(2,sl ac v2),(3,.eptr (ac p)),(6,.bptr 1 0)] [.dead,.cells [.int .i64 0,.str ([]:ai),.int .i64 0,sl ac m] [(3,28)]] []
def iA:Option ((Int×ai×Int×waA)⊕(Unit)):=
 if(p.Op==3)=true then
  (ru v p.Name).bind fun r3=>
  (lj v2 r3).bind fun o5=>
  if o5=true then
   (eh v2 r3).bind fun x8=>
   (lY x8).bind fun r9=>
   some (.inl (r9.Op,r9.Name,r9.N,r9.Kids))
  else
   some (.inr ())
 else
  some (.inr ())
theorem mB{x:(Int×ai×Int×waA)⊕(Unit)}(h:iA v v2 p=some x):aC Pg GE 0 (cA Iw 6) (EX (gi x) (dI v v2 p m x)) (wY v v2 p m):=by
 have p2:=fun{sc F} (r:PS sc F)=>sv (aE p)<|sv (aF p)<|r
 rcases aT h with⟨c1,h⟩|⟨c1,h⟩
 ·obtain⟨r3,br3,h⟩:=av h
  obtain⟨o5,bo5,h⟩:=av h
  have p7:=fun{sc F} (r:PS sc F)=>p2<|sg 0 c1<|sv (bo p)<|sv (bD p)<|bg (vI br3)<|mG 0<|cC (uS v v2 p r3 m bo5)<|r
  rcases aT h with⟨c6,h⟩|⟨c6,h⟩
  ·obtain⟨x8,bx8,h⟩:=av h
   obtain⟨r9,br9,h⟩:=av h
   obtain rfl:=lf h
   exact ct EH (p7<|sg 0 c6<|sv (aQ.ia (k:=.i64) bx8)<|sv (aB x8)<|bg (nM br9)<|sy (ax r9)<|eF (gi (.inl (r9.Op,r9.Name,r9.N,r9.Kids))) (dI v v2 p m (.inl (r9.Op,r9.Name,r9.N,r9.Kids))))<|by kernel_rfl
  ·obtain rfl:=lf h
   exact ct EH (p7<|sg 0 c6<|eF (gi (.inr ())) (dI v v2 p m (.inr ())))<|by kernel_rfl
 ·obtain rfl:=lf h
  exact ct EH (p2<|sg 0 c1<|eF (gi (.inr ())) (dI v v2 p m (.inr ())))<|by kernel_rfl
end
section
variable(R21:jt)(v:waB)(v2:waA)(t39:waA)(t40:Int)(m:waA)(m2:Int)(m3:ai)(m4:Int)(t41:Int)(m5:waA)
def eK:aq:=aP 56 [(1,sl cS v),(2,sl ac v2),(6,.bptr 1 0),(8,.bptr 2 0),(39,sl ac t39),(40,.int .i64 t40),(41,.int .i64 t41)] [.dead,.cells [.int .i64 0,.str ([]:ai),.int .i64 0,sl ac m] [(3,28)],.cells [.int .i64 m2,.str m3,.int .i64 m4,sl ac m5] [(3,28)]] []
def jL(o:waA):aq:=aP 56 [(6,.bptr 1 0),(8,.bptr 2 0)] [.dead,.cells [.int .i64 0,.str ([]:ai),.int .i64 0,sl ac m] [(3,28)],.cells [.int .i64 m2,.str m3,.int .i64 m4,sl ac o] [(3,28)]] []
def nJ:Option ((Int×waA)⊕(waA)):=
 if(decide (t41<t40))=true then
  (eh t39 t41).bind fun x12=>
  (R21 x12 v v2).bind fun r13=>
  (app m5 ([r13]:List aa)).bind fun l14=>
  some (.inl (cf (t41+1),l14))
 else
  some (.inr m5)
def lk:Option waA:=loop (fun(zz:Int×waA)=>nJ R21 v v2 t39 t40 zz.1 zz.2) (t41,m5)
theorem tS(hR21:mb R21){y:(Int×waA)⊕(waA)}(h:nJ R21 v v2 t39 t40 t41 m5=some y):aC Pg GE 0 (cA Iw 247) (LQ (fun(zz:Int×waA)=>eK v v2 t39 t40 m m2 m3 m4 zz.1 zz.2) (fun _=>.exit 0) (jL m m2 m3 m4) y) (eK v v2 t39 t40 m m2 m3 m4 t41 m5):=by
 rcases aT h with⟨c11,h⟩|⟨c11,h⟩
 ·obtain⟨x12,bx12,h⟩:=av h
  obtain⟨r13,br13,h⟩:=av h
  obtain⟨l14,bl14,h⟩:=av h
  obtain rfl:=lf h
  have z:=sg 0 c11<|sv (aQ.ia (k:=.i64) bx12)<|sv (aB x12)<|sx dB<|sx (aW x12)<|ue [0,1,0,0,0,28,60,127,255,511]<|sv (aD x12 [])<|bg (hR21 _ _ _ _ br13)<|sv (aQ.mk' (v:=b9) aV ([r13]:List aa) 1 (by kernel_rfl))<|sv (aQ.ap bl14)<|KS (rfl:bZ (sl ac l14)=some [sl ac l14])<|jw 0 .normal (eK v v2 t39 t40 m m2 m3 m4 (cf (t41+1)) l14) rfl (bS (aI (up (ak hZ v)) (aI (up (ak ag v2)) (aI (co rfl) (aI (co rfl) (aI (up (ak ag t39)) (aI trivial (aI trivial trivial)))))))) (aI trivial (aI (aI trivial (aI trivial (aI trivial (aI (up (ak ag m)) trivial)))) (aI (aI trivial (aI trivial (aI trivial (aI (up (ak ag l14)) trivial)))) trivial)))
  exact cd (A:=EH) mixed z<|by kernel_rfl
 ·obtain rfl:=lf h
  have z:=sg 0 c11<|eF (.exit 0) (jL m m2 m3 m4 m5)
  exact gZ EH (by intro hx;cases hx) z<|by kernel_rfl
theorem uT(hR21:mb R21){x:waA}(h:lk R21 v v2 t39 t40 t41 m5=some x):aC Pg GE 0 (.loop (cA Iw 247)) (EX (.exit 0) (jL m m2 m3 m4 x)) (eK v v2 t39 t40 m m2 m3 m4 t41 m5):=
 aC.loop (S:=fun(zz:Int×waA)=>eK v v2 t39 t40 m m2 m3 m4 zz.1 zz.2) (ex:=(fun _=>.exit 0)) (s:=(t41,m5)) h fun zz y hy=>tS R21 v v2 t39 t40 m m2 m3 m4 zz.1 zz.2 hR21 hy
end
def jC(R21:jt)(p:aa)(a:waB)(a2:waA):Option aa:=
 (iA a a2 p).bind fun o10=>match o10 with
 |(.inl o10)=>
  some (⟨o10.1,o10.2.1,o10.2.2.1,o10.2.2.2⟩:aa)
 |(.inr o10)=>
  (lk R21 a a2 p.Kids (p.Kids.length:Int) 0 ([]:List aa)).bind fun o15=>
  some (⟨p.Op,p.Name,p.N,o15⟩:aa)
theorem yt(R21:jt)(hR21:mb R21){p:aa}{a:waB}{a2:waA}{r:aa}(h:jC R21 p a a2=some r):CC Pg GE 101 [.agg (ac p),sl cS a,sl ac a2] (.agg (ac r)) [(3,28)]:=by
 obtain⟨o10,bo10,h⟩:=av h
 rcases o10 with o10|o10
 ·obtain rfl:=lf h
  have z:=se (bj p)<|sx dB<|mG 0<|cC (e:=.ret) (s1:=dI a a2 p ([]:List aa) (.inl o10)) (mB a a2 p ([]:List aa) bo10)<|en (aI (bR (⟨o10.1,o10.2.1,o10.2.2.1,o10.2.2.2⟩:aa))<|aI (ag (⟨o10.1,o10.2.1,o10.2.2.1,o10.2.2.2⟩:aa))<|rT)
  exact cb EH call101 func101 (c:=Iw) rfl (aI (ag p) (aI (ak hZ a) (aI (ak ag a2) trivial))) z<|by kernel_rfl
 ·obtain⟨o15,bo15,h⟩:=av h
  obtain rfl:=lf h
  have z:=se (bj p)<|sx dB<|mG 0<|cC (e:=.normal) (s1:=dI a a2 p ([]:List aa) (.inr o10)) (mB a a2 p ([]:List aa) bo10)<|sv (aE p)<|sv (aF p)<|sv (bo p)<|sv (bD p)<|sv (bU p)<|sv (ce p)<|sb (kf p.Op p.Name p.N) (ke p.Op p.Name p.N)<|sx dB<|sy (ax (⟨p.Op,p.Name,p.N,([]:List aa)⟩:aa))<|sv (ay p)<|sv (az p)<|cx (aQ.ln p.Kids)<|cC (uT R21 a a2 p.Kids (p.Kids.length:Int) ([]:List aa) p.Op p.Name p.N 0 ([]:List aa) hR21 bo15)<|sz (aD (⟨p.Op,p.Name,p.N,o15⟩:aa) [])<|sy (ax (⟨p.Op,p.Name,p.N,o15⟩:aa))<|en (aI (bR (⟨p.Op,p.Name,p.N,o15⟩:aa))<|aI (ag (⟨p.Op,p.Name,p.N,o15⟩:aa))<|rT)
  exact cb EH call101 func101 (c:=Iw) rfl (aI (ag p) (aI (ak hZ a) (aI (ak ag a2) trivial))) z<|by kernel_rfl
def ml:((aa×waB×waA)->Option aa)->(aa×waB×waA)->Option aa:=fun(rec:(aa×waB×waA)->Option aa) (x:aa×waB×waA)=>jC (fun p a a2=>rec (p,a,a2)) x.1 x.2.1 x.2.2
def jk(p:aa)(a:waB)(a2:waA):Option aa:=kY ml (p,a,a2)
theorem lm{p:aa}{a:waB}{a2:waA}{r:aa}(h:jk p a a2=some r):CC Pg GE 101 [.agg (ac p),sl cS a,sl ac a2] (.agg (ac r)) [(3,28)]:=
 cw (F:=ml) (M:=fun(x:aa×waB×waA) (r:aa)=>CC Pg GE 101 [.agg (ac x.1),sl cS x.2.1,sl ac x.2.2] (.agg (ac r)) [(3,28)]) (fun rec hrec x r h=>yt _ (fun p a a2 r h=>hrec (p,a,a2) r h) h) h
noncomputable def QE:Code:=f89.body.getD .skip
def Qn:List Nat:=[]
def du(s:ah)(p:aa):Option aa:=
 (jk p s.names s.by_).bind fun r1=>
 some r1
theorem ed{s:ah}{p:aa}{r:aa}(h:du s p=some r):CC Pg GE 89 [.agg (am s),.agg (ac p)] (.agg (ac r)) [(3,28)]:=by
 obtain⟨r1,br1,h⟩:=av h
 obtain rfl:=lf h
 have z:=se (cz s)<|se (bj p)<|sx dB<|sv (aB p)<|sv (gm s)<|sv (gp s)<|sv (eb s)<|sv (ec s)<|bg (lm br1)<|sy (ax r1)<|en (aI (bR r1)<|aI (ag r1)<|rT)
 exact cb Qn call89 func89 (c:=QE) rfl (aI (aR s) (aI (ag p) trivial)) z<|by kernel_rfl
noncomputable def Nb:Code:=f73.body.getD .skip
def M7:List Nat:=[14,21]
section
variable(v:ah)(t8:waA)(t9:Int)(out:waA)(t10:Int)
def eo:aq:=aP 22 [(1,.func (.func 89) [.agg (am v)] []),(5,sl ac out),(8,sl ac t8),(9,.int .i64 t9),(10,.int .i64 t10)] [] [((5,0),28)]
def iJ(o:waA):aq:=aP 22 [(5,sl ac o)] [] [((5,0),28)]
def mE:Option ((waA×Int)⊕(waA)):=
 if(decide (t10<t9))=true then
  (eh t8 t10).bind fun x2=>
  (du v x2).bind fun r3=>
  (app out ([r3]:List aa)).bind fun l4=>
  some (.inl (l4,cf (t10+1)))
 else
  some (.inr out)
def pf:Option waA:=loop (fun(zz:waA×Int)=>mE v t8 t9 zz.1 zz.2) (out,t10)
theorem sN{y:(waA×Int)⊕(waA)}(h:mE v t8 t9 out t10=some y):aC Pg GE 0 (cA Nb 119) (LQ (fun(zz:waA×Int)=>eo v t8 t9 zz.1 zz.2) (fun _=>.exit 0) iJ y) (eo v t8 t9 out t10):=by
 rcases aT h with⟨c1,h⟩|⟨c1,h⟩
 ·obtain⟨x2,bx2,h⟩:=av h
  obtain⟨r3,br3,h⟩:=av h
  obtain⟨l4,bl4,h⟩:=av h
  obtain rfl:=lf h
  have z:=sg 0 c1<|sv (aQ.ia (k:=.i64) bx2)<|sv (aB x2)<|sx dB<|sx (aW x2)<|sv (aD x2 [])<|bg (ed br3)<|sv (aQ.mk' (v:=b9) aV ([r3]:List aa) 1 (by kernel_rfl))<|sv (aQ.ap bl4)<|jw 0 .normal (eo v t8 t9 l4 (cf (t10+1))) rfl (bS (aI (aI (aI (up (aR v)) trivial) trivial) (aI (up (ak ag l4)) (aI (up (ak ag t8)) (aI trivial (aI trivial trivial)))))) trivial
  exact cd (A:=M7) mixed z<|by kernel_rfl
 ·obtain rfl:=lf h
  have z:=sg 0 c1<|eF (.exit 0) (iJ out)
  exact gZ M7 (by intro hx;cases hx) z<|by kernel_rfl
theorem ub{x:waA}(h:pf v t8 t9 out t10=some x):aC Pg GE 0 (.loop (cA Nb 119)) (EX (.exit 0) (iJ x)) (eo v t8 t9 out t10):=
 aC.loop (S:=fun(zz:waA×Int)=>eo v t8 t9 zz.1 zz.2) (ex:=(fun _=>.exit 0)) (s:=(out,t10)) h fun zz y hy=>sN v t8 t9 zz.1 zz.2 hy
end
def n7(a:waA)(c:ah):Option waA:=
 (pf c a (a.length:Int) ([]:List aa) 0).bind fun o5=>
 some o5
theorem pg{a:waA}{c:ah}{r:waA}(h:n7 a c=some r):CC Pg GE 73 [sl ac a,.func (.func 89) [.agg (am c)] []] (sl ac r) [(0,28)]:=by
 obtain⟨o5,bo5,h⟩:=av h
 obtain rfl:=lf h
 have z:=cx (aQ.ln a)<|cC (ub c a (a.length:Int) ([]:List aa) 0 bo5)<|en (aI (rP (sl ac o5))<|(ak ag o5))
 exact cb M7 call73 func73 (c:=Nb) rfl (aI (ak ag a) (aI (aI (aI (aR c) trivial) trivial) trivial)) z<|by kernel_rfl
noncomputable def Mu:Code:=f118.body.getD .skip
def Mg:List Nat:=[13,18]
section
variable(t7:waA)(t8:Int)(out:waB)(t9:Int)
def cm:aq:=aP 19 [(3,sl cS out),(7,sl ac t7),(8,.int .i64 t8),(9,.int .i64 t9)] [.dead] [((3,0),9)]
def dN(o:waB):aq:=aP 19 [(3,sl cS o)] [.dead] [((3,0),9)]
def fX:Option ((waB×Int)⊕(waB)):=
 if(decide (t9<t8))=true then
  (eh t7 t9).bind fun x2=>
  (zQ x2).bind fun r3=>
  (app out r3).bind fun l4=>
  some (.inl (l4,cf (t9+1)))
 else
  some (.inr out)
def gJ:Option waB:=loop (fun(zz:waB×Int)=>fX t7 t8 zz.1 zz.2) (out,t9)
theorem kE{y:(waB×Int)⊕(waB)}(h:fX t7 t8 out t9=some y):aC Pg GE 0 (cA Mu 119) (LQ (fun(zz:waB×Int)=>cm t7 t8 zz.1 zz.2) (fun _=>.exit 0) dN y) (cm t7 t8 out t9):=by
 rcases aT h with⟨c1,h⟩|⟨c1,h⟩
 ·obtain⟨x2,bx2,h⟩:=av h
  obtain⟨r3,br3,h⟩:=av h
  obtain⟨l4,bl4,h⟩:=av h
  obtain rfl:=lf h
  have z:=sg 0 c1<|sv (aQ.ia (k:=.i64) bx2)<|sv (aB x2)<|sx dB<|sx (aW x2)<|sv (aD x2 [])<|bg (yo br3)<|sv (cn.ap bl4)<|jw 0 .normal (cm t7 t8 l4 (cf (t9+1))) rfl (bS (aI (up (ak hZ l4)) (aI (up (ak ag t7)) (aI trivial (aI trivial trivial))))) (aI trivial trivial)
  exact cd (A:=Mg) mixed z<|by kernel_rfl
 ·obtain rfl:=lf h
  have z:=sg 0 c1<|eF (.exit 0) (dN out)
  exact gZ Mg (by intro hx;cases hx) z<|by kernel_rfl
theorem kJ{x:waB}(h:gJ t7 t8 out t9=some x):aC Pg GE 0 (.loop (cA Mu 119)) (EX (.exit 0) (dN x)) (cm t7 t8 out t9):=
 aC.loop (S:=fun(zz:waB×Int)=>cm t7 t8 zz.1 zz.2) (ex:=(fun _=>.exit 0)) (s:=(out,t9)) h fun zz y hy=>kE t7 t8 zz.1 zz.2 hy
end
def eS(s:ah):Option waB:=
 (gJ s.by_ (s.by_.length:Int) ([]:List ai) 0).bind fun o5=>
 some o5
theorem gK{s:ah}{r:waB}(h:eS s=some r):CC Pg GE 118 [.agg (am s)] (sl cS r) [(0,9)]:=by
 obtain⟨o5,bo5,h⟩:=av h
 obtain rfl:=lf h
 have z:=se (cz s)<|sv (eb s)<|sv (ec s)<|cx (aQ.ln s.by_)<|cC (kJ s.by_ (s.by_.length:Int) ([]:List ai) 0 bo5)<|en (aI (rP (sl cS o5))<|(ak hZ o5))
 exact cb Mg call118 func118 (c:=Mu) rfl (aI (aR s) trivial) z<|by kernel_rfl
abbrev j7:=(ae->Option waB)
abbrev nk(R:j7):Prop:=∀(t:ae) (r:waB),R t=some r->CC Pg GE 29 [.agg (af t)] (sl cS r) [(0,9)]
noncomputable def PE:Code:=f65.body.getD .skip
def Pv:List Nat:=[]
def ua(t:ae)(i:Int):Option waB:=
 if(t.Op !=6)=true then
  some ([]:List ai)
 else
  (LF t.Names none (some (if(t.Names.length:Int)<i then(t.Names.length:Int)else i))).bind fun l3=>
  some l3
theorem yR{t:ae}{i:Int}{r:waB}(h:ua t i=some r):CC Pg GE 65 [.agg (af t),.int .i64 i] (sl cS r) []:=by
 have p2:=fun{sc F} (r:PS sc F)=>se (bY t)<|sv (aH t)<|sv (aJ t)<|r
 rcases aT h with⟨c1,h⟩|⟨c1,h⟩
 ·obtain rfl:=lf h
  have z:=p2<|sg 0 c1<|en (aI (rP (sl cS ([]:List ai)))<|(ak hZ ([]:List ai)))
  exact cb Pv call65 func65 (c:=PE) rfl (aI (al t) (aI trivial trivial)) z<|by kernel_rfl
 ·obtain⟨l3,bl3,h⟩:=av h
  obtain rfl:=lf h
  have z:=p2<|sg 0 c1<|sv (aY t)<|sv (aZ t)<|sv (aY t)<|sv (aZ t)<|cx (cn.ln t.Names)<|sv (cn.sc bl3)<|en (aI (rP (sl cS l3))<|(ak hZ l3))
  exact cb Pv call65 func65 (c:=PE) rfl (aI (al t) (aI trivial trivial)) z<|by kernel_rfl
noncomputable def La:Code:=f29.body.getD .skip
def Jx:List Nat:=[33,44,61]
section
variable(t:ae)(t18:waA)(t19:Int)(t20:Int)(t25:waB)(t26:Int)(m:Int)(m2:ai)(m3:Int)(m4:waA)(out:waB)(t27:Int)
def d4:aq:=aP 69 [(1,.eptr (af t)),(3,sl cS out),(18,sl ac t18),(19,.int .i64 t19),(20,.int .i64 t20),(25,sl cS t25),(26,.int .i64 t26),(27,.int .i64 t27)] [.dead,.cells [.int .i64 m,.str m2,.int .i64 m3,sl ac m4] []] [((25,0),9),((18,0),28),((3,0),9)]
def kz(o:waB):aq:=aP 69 [(1,.eptr (af t)),(3,sl cS o),(18,sl ac t18),(19,.int .i64 t19),(20,.int .i64 t20)] [.dead,.cells [.int .i64 m,.str m2,.int .i64 m3,sl ac m4] []] [((18,0),28),((3,0),9)]
def o0:Option ((waB×Int)⊕(waB)):=
 if(decide (t27<t26))=true then
  (eh t25 t27).bind fun x6=>
  if(!(x6==([118]:ai)))=true then
   (app out ([x6]:List ai)).bind fun l9=>
   some (.inl (l9,cf (t27+1)))
  else
   some (.inl (out,cf (t27+1)))
 else
  some (.inr out)
def si:Option waB:=loop (fun(zz:waB×Int)=>o0 t25 t26 zz.1 zz.2) (out,t27)
theorem uX{y:(waB×Int)⊕(waB)}(h:o0 t25 t26 out t27=some y):aC Pg GE 0 (cA La 30687) (LQ (fun(zz:waB×Int)=>d4 t t18 t19 t20 t25 t26 m m2 m3 m4 zz.1 zz.2) (fun _=>.exit 2) (kz t t18 t19 t20 m m2 m3 m4) y) (d4 t t18 t19 t20 t25 t26 m m2 m3 m4 out t27):=by
 rcases aT h with⟨c5,h⟩|⟨c5,h⟩
 ·obtain⟨x6,bx6,h⟩:=av h
  have p8:=fun{sc F} (r:PS sc F)=>sg 0 c5<|sv (cn.ia (k:=.i64) bx6)<|sv (gh Iq (.str x6) [])<|r
  rcases aT h with⟨c7,h⟩|⟨c7,h⟩
  ·obtain⟨l9,bl9,h⟩:=av h
   obtain rfl:=lf h
   exact Bd Jx (p8<|sg 0 c7<|sv (cn.mk' (v:=PVal.str) FF ([x6]:List ai) 1 (by kernel_rfl))<|sv (cn.ap bl9)<|eF .normal (d4 t t18 t19 t20 t25 t26 m m2 m3 m4 l9 (cf (t27+1))))<|by kernel_rfl
  ·obtain rfl:=lf h
   exact Bd Jx (p8<|sg 0 c7<|eF .normal (d4 t t18 t19 t20 t25 t26 m m2 m3 m4 out (cf (t27+1))))<|by kernel_rfl
 ·obtain rfl:=lf h
  have z:=sg 0 c5<|eF (.exit 2) (kz t t18 t19 t20 m m2 m3 m4 out)
  exact gZ Jx (by intro hx;cases hx) z<|by kernel_rfl
theorem xi{x:waB}(h:si t25 t26 out t27=some x):aC Pg GE 0 (.loop (cA La 30687)) (EX (.exit 2) (kz t t18 t19 t20 m m2 m3 m4 x)) (d4 t t18 t19 t20 t25 t26 m m2 m3 m4 out t27):=
 aC.loop (S:=fun(zz:waB×Int)=>d4 t t18 t19 t20 t25 t26 m m2 m3 m4 zz.1 zz.2) (ex:=(fun _=>.exit 2)) (s:=(out,t27)) h fun zz y hy=>uX t t18 t19 t20 t25 t26 m m2 m3 m4 zz.1 zz.2 hy
end
section
variable(t:ae)(t18:waA)(t19:Int)(out:waB)(t20:Int)
def ff:aq:=aP 69 [(1,.eptr (af t)),(3,sl cS out),(18,sl ac t18),(19,.int .i64 t19),(20,.int .i64 t20)] [.dead] [((18,0),28),((3,0),9)]
def ky(o:waB):aq:=aP 69 [(1,.eptr (af t)),(3,sl cS o)] [.dead] [((3,0),9)]
def oZ:Option ((waB×Int)⊕(waB)):=
 if(decide (t20<t19))=true then
  (eh t18 t20).bind fun x3=>
  (zQ x3).bind fun r4=>
  (si r4 (r4.length:Int) out 0).bind fun o10=>
  some (.inl (o10,cf (t20+1)))
 else
  some (.inr out)
def sh:Option waB:=loop (fun(zz:waB×Int)=>oZ t18 t19 zz.1 zz.2) (out,t20)
theorem uW{y:(waB×Int)⊕(waB)}(h:oZ t18 t19 out t20=some y):aC Pg GE 0 (cA La 119) (LQ (fun(zz:waB×Int)=>ff t t18 t19 zz.1 zz.2) (fun _=>.exit 0) (ky t) y) (ff t t18 t19 out t20):=by
 rcases aT h with⟨c2,h⟩|⟨c2,h⟩
 ·obtain⟨x3,bx3,h⟩:=av h
  obtain⟨r4,br4,h⟩:=av h
  obtain⟨o10,bo10,h⟩:=av h
  obtain rfl:=lf h
  have z:=sg 0 c2<|sv (aQ.ia (k:=.i64) bx3)<|sv (aB x3)<|sx dB<|sx (aW x3)<|sv (aD x3 [])<|bg (yo br4)<|cx (cn.ln r4)<|cC (xi t t18 t19 t20 r4 (r4.length:Int) x3.Op x3.Name x3.N x3.Kids out 0 bo10)<|jw 0 .normal (ff t t18 t19 o10 (cf (t20+1))) rfl (bS (aI (eu (al t)) (aI (up (ak hZ o10)) (aI (up (ak ag t18)) (aI trivial (aI trivial trivial)))))) (aI trivial trivial)
  exact cd (A:=Jx) mixed z<|by kernel_rfl
 ·obtain rfl:=lf h
  have z:=sg 0 c2<|eF (.exit 0) (ky t out)
  exact gZ Jx (by intro hx;cases hx) z<|by kernel_rfl
theorem xh{x:waB}(h:sh t18 t19 out t20=some x):aC Pg GE 0 (.loop (cA La 119)) (EX (.exit 0) (ky t x)) (ff t t18 t19 out t20):=
 aC.loop (S:=fun(zz:waB×Int)=>ff t t18 t19 zz.1 zz.2) (ex:=(fun _=>.exit 0)) (s:=(out,t20)) h fun zz y hy=>uW t t18 t19 zz.1 zz.2 hy
end
section
variable(t:ae)(bound:waB)(t40:waC)(t41:Int)(t42:Int)(t51:waB)(t52:Int)(m:Int)(m2:ai)(m3:waC)(m4:waB)(m5:Int)(m6:ai)(m7:Int)(m8:waA)(m9:waA)(out:waB)(t53:Int)
def d5:aq:=aP 69 [(1,.eptr (af t)),(3,sl cS out),(10,sl cS bound),(40,sl af t40),(41,.int .i64 t41),(42,.int .i64 t42),(51,sl cS t51),(52,.int .i64 t52),(53,.int .i64 t53)] [.dead,.cells [.int .i64 m,.str m2,sl af m3,sl cS m4,.int .i64 m5,.str m6,.int .i64 m7,sl ac m8,sl ac m9] []] [((51,0),9),((3,0),9)]
def kD(o:waB):aq:=aP 69 [(1,.eptr (af t)),(3,sl cS o),(40,sl af t40),(41,.int .i64 t41),(42,.int .i64 t42)] [.dead,.cells [.int .i64 m,.str m2,sl af m3,sl cS m4,.int .i64 m5,.str m6,.int .i64 m7,sl ac m8,sl ac m9] []] [((3,0),9)]
def pd:Option ((waB×Int)⊕(waB)):=
 if(decide (t53<t52))=true then
  (eh t51 t53).bind fun x17=>
  (gN bound x17).bind fun r18=>
  if(!r18)=true then
   (app out ([x17]:List ai)).bind fun l21=>
   some (.inl (l21,cf (t53+1)))
  else
   some (.inl (out,cf (t53+1)))
 else
  some (.inr out)
def sk:Option waB:=loop (fun(zz:waB×Int)=>pd bound t51 t52 zz.1 zz.2) (out,t53)
theorem uZ{y:(waB×Int)⊕(waB)}(h:pd bound t51 t52 out t53=some y):aC Pg GE 0 (cA La 126911) (LQ (fun(zz:waB×Int)=>d5 t bound t40 t41 t42 t51 t52 m m2 m3 m4 m5 m6 m7 m8 m9 zz.1 zz.2) (fun _=>.exit 6) (kD t t40 t41 t42 m m2 m3 m4 m5 m6 m7 m8 m9) y) (d5 t bound t40 t41 t42 t51 t52 m m2 m3 m4 m5 m6 m7 m8 m9 out t53):=by
 rcases aT h with⟨c16,h⟩|⟨c16,h⟩
 ·obtain⟨x17,bx17,h⟩:=av h
  obtain⟨r18,br18,h⟩:=av h
  have p20:=fun{sc F} (r:PS sc F)=>sg 0 c16<|sv (cn.ia (k:=.i64) bx17)<|sv (gh Iq (.str x17) [])<|bg (eO br18)<|r
  rcases aT h with⟨c19,h⟩|⟨c19,h⟩
  ·obtain⟨l21,bl21,h⟩:=av h
   obtain rfl:=lf h
   exact Bd Jx (p20<|sg 0 c19<|sv (cn.mk' (v:=PVal.str) FF ([x17]:List ai) 1 (by kernel_rfl))<|sv (cn.ap bl21)<|eF .normal (d5 t bound t40 t41 t42 t51 t52 m m2 m3 m4 m5 m6 m7 m8 m9 l21 (cf (t53+1))))<|by kernel_rfl
  ·obtain rfl:=lf h
   exact Bd Jx (p20<|sg 0 c19<|eF .normal (d5 t bound t40 t41 t42 t51 t52 m m2 m3 m4 m5 m6 m7 m8 m9 out (cf (t53+1))))<|by kernel_rfl
 ·obtain rfl:=lf h
  have z:=sg 0 c16<|eF (.exit 6) (kD t t40 t41 t42 m m2 m3 m4 m5 m6 m7 m8 m9 out)
  exact gZ Jx (by intro hx;cases hx) z<|by kernel_rfl
theorem xk{x:waB}(h:sk bound t51 t52 out t53=some x):aC Pg GE 0 (.loop (cA La 126911)) (EX (.exit 6) (kD t t40 t41 t42 m m2 m3 m4 m5 m6 m7 m8 m9 x)) (d5 t bound t40 t41 t42 t51 t52 m m2 m3 m4 m5 m6 m7 m8 m9 out t53):=
 aC.loop (S:=fun(zz:waB×Int)=>d5 t bound t40 t41 t42 t51 t52 m m2 m3 m4 m5 m6 m7 m8 m9 zz.1 zz.2) (ex:=(fun _=>.exit 6)) (s:=(out,t53)) h fun zz y hy=>uZ t bound t40 t41 t42 t51 t52 m m2 m3 m4 m5 m6 m7 m8 m9 zz.1 zz.2 hy
end
section
variable(R26:j7)(t:ae)(t40:waC)(t41:Int)(out:waB)(t42:Int)
def fg:aq:=aP 69 [(1,.eptr (af t)),(3,sl cS out),(40,sl af t40),(41,.int .i64 t41),(42,.int .i64 t42)] [.dead] [((3,0),9)]
def kC(o:waB):aq:=aP 69 [(3,sl cS o)] [.dead] [((3,0),9)]
def pb:Option ((waB×Int)⊕(waB)):=
 if(decide (t42<t41))=true then
  (eh t40 t42).bind fun x13=>
  (ua t t42).bind fun r14=>
  (R26 x13).bind fun r15=>
  (sk r14 r15 (r15.length:Int) out 0).bind fun o22=>
  some (.inl (o22,cf (t42+1)))
 else
  some (.inr out)
def sj:Option waB:=loop (fun(zz:waB×Int)=>pb R26 t t40 t41 zz.1 zz.2) (out,t42)
theorem uY(hR26:nk R26){y:(waB×Int)⊕(waB)}(h:pb R26 t t40 t41 out t42=some y):aC Pg GE 0 (cA La 247) (LQ (fun(zz:waB×Int)=>fg t t40 t41 zz.1 zz.2) (fun _=>.exit 4) kC y) (fg t t40 t41 out t42):=by
 rcases aT h with⟨c12,h⟩|⟨c12,h⟩
 ·obtain⟨x13,bx13,h⟩:=av h
  obtain⟨r14,br14,h⟩:=av h
  obtain⟨r15,br15,h⟩:=av h
  obtain⟨o22,bo22,h⟩:=av h
  obtain rfl:=lf h
  have z:=sg 0 c12<|sv (dF.ia (k:=.i64) bx13)<|sv (bA x13)<|sx io<|sx (cB x13)<|sv (bA t)<|bg (yR br14)<|sv (bk x13 [])<|bg (hR26 _ _ br15)<|cx (cn.ln r15)<|cC (xk t r14 t40 t41 t42 r15 (r15.length:Int) x13.Op x13.Name x13.Args x13.Names x13.Pred.Op x13.Pred.Name x13.Pred.N x13.Pred.Kids x13.Preds out 0 bo22)<|jw 0 .normal (fg t t40 t41 o22 (cf (t42+1))) rfl (bS (aI (eu (al t)) (aI (up (ak hZ o22)) (aI (up (ak al t40)) (aI trivial (aI trivial trivial)))))) (aI trivial trivial)
  exact cd (A:=Jx) mixed z<|by kernel_rfl
 ·obtain rfl:=lf h
  have z:=sg 0 c12<|eF (.exit 4) (kC out)
  exact gZ Jx (by intro hx;cases hx) z<|by kernel_rfl
theorem xj(hR26:nk R26){x:waB}(h:sj R26 t t40 t41 out t42=some x):aC Pg GE 0 (.loop (cA La 247)) (EX (.exit 4) (kC x)) (fg t t40 t41 out t42):=
 aC.loop (S:=fun(zz:waB×Int)=>fg t t40 t41 zz.1 zz.2) (ex:=(fun _=>.exit 4)) (s:=(out,t42)) h fun zz y hy=>uY R26 t t40 t41 zz.1 zz.2 hR26 hy
end
def tY(R26:j7)(t:ae):Option waB:=
 (app ([t.Pred]:List aa) t.Preds).bind fun l1=>
 (sh l1 (l1.length:Int) ([]:List ai) 0).bind fun o11=>
 (sj R26 t t.Args (t.Args.length:Int) o11 0).bind fun o23=>
 (oO o23 ([]:List ai)).bind fun r24=>
 some r24
theorem zX(R26:j7)(hR26:nk R26){t:ae}{r:waB}(h:tY R26 t=some r):CC Pg GE 29 [.agg (af t)] (sl cS r) [(0,9)]:=by
 obtain⟨l1,bl1,h⟩:=av h
 obtain⟨o11,bo11,h⟩:=av h
 obtain⟨o23,bo23,h⟩:=av h
 obtain⟨r24,br24,h⟩:=av h
 obtain rfl:=lf h
 have z:=se (bY t)<|sv (bw t)<|sv (bz t)<|sv (aQ.mk' (v:=b9) aV ([t.Pred]:List aa) 1 (by kernel_rfl))<|sv (bp t)<|sv (bu t)<|sv (aQ.ap bl1)<|cx (aQ.ln l1)<|cC (xh t l1 (l1.length:Int) ([]:List ai) 0 bo11)<|sv (aL t)<|sv (aM t)<|cx (dF.ln t.Args)<|cC (xj R26 t t.Args (t.Args.length:Int) o11 0 hR26 bo23)<|bg (tI br24)<|en (aI (rP (sl cS r24))<|(ak hZ r24))
 exact cb Jx call29 func29 (c:=La) rfl (aI (al t) trivial) z<|by kernel_rfl
def tZ:(ae->Option waB)->(ae)->Option waB:=fun(rec:ae->Option waB) (x:ae)=>tY (fun t=>rec t) x
def rK(t:ae):Option waB:=kY tZ t
theorem sm{t:ae}{r:waB}(h:rK t=some r):CC Pg GE 29 [.agg (af t)] (sl cS r) [(0,9)]:=
 cw (F:=tZ) (M:=fun(x:ae) (r:waB)=>CC Pg GE 29 [.agg (af x)] (sl cS r) [(0,9)]) (fun rec hrec x r h=>zX _ (fun t r h=>hrec t r h) h) h
noncomputable def Ix:Code:=f119.body.getD .skip
def Is:List Nat:=[24,35]
section
variable(base:ai)(t11:waB)(t12:Int)(t13:Int)(m0:(List (ai×Bool)))
def fI:aq:=aP 36 [(1,.str base),(5,.mapr 0),(11,sl cS t11),(12,.int .i64 t12),(13,.int .i64 t13)] [.map (sL PVal.bool m0)] []
def kZ(o:(List (ai×Bool))):aq:=aP 36 [(1,.str base),(5,.mapr 0)] [.map (sL PVal.bool o)] []
def qe:Option ((Int×(List (ai×Bool)))⊕(((List (ai×Bool))))):=
 if(decide (t13<t12))=true then
  (eh t11 t13).bind fun x2=>
  some (.inl (cf (t13+1),DM m0 x2 true))
 else
  some (.inr m0)
def tF:Option (((List (ai×Bool)))):=loop (fun(zz:Int×(List (ai×Bool)))=>qe t11 t12 zz.1 zz.2) (t13,m0)
theorem wN{y:(Int×(List (ai×Bool)))⊕(((List (ai×Bool))))}(h:qe t11 t12 t13 m0=some y):aC Pg GE 0 (cA Ix 119) (LQ (fun(zz:Int×(List (ai×Bool)))=>fI base t11 t12 zz.1 zz.2) (fun _=>.exit 0) (kZ base) y) (fI base t11 t12 t13 m0):=by
 rcases aT h with⟨c1,h⟩|⟨c1,h⟩
 ·obtain⟨x2,bx2,h⟩:=av h
  obtain rfl:=lf h
  exact Bd Is (sg 0 c1<|sv (cn.ia (k:=.i64) bx2)<|sv (gh Iq (.str x2) [])<|PZ (Kg (f:=PVal.bool) underlying121 underlying9 m0 x2 true)<|eF .normal (fI base t11 t12 (cf (t13+1)) (DM m0 x2 true)))<|by kernel_rfl
 ·obtain rfl:=lf h
  have z:=sg 0 c1<|eF (.exit 0) (kZ base m0)
  exact gZ Is (by intro hx;cases hx) z<|by kernel_rfl
theorem xV{x:((List (ai×Bool)))}(h:tF t11 t12 t13 m0=some x):aC Pg GE 0 (.loop (cA Ix 119)) (EX (.exit 0) (kZ base x)) (fI base t11 t12 t13 m0):=
 aC.loop (S:=fun(zz:Int×(List (ai×Bool)))=>fI base t11 t12 zz.1 zz.2) (ex:=(fun _=>.exit 0)) (s:=(t13,m0)) h fun zz y hy=>wN base t11 t12 zz.1 zz.2 hy
end
section
variable(base:ai)(m0:(List (ai×Bool)))(n:Int)
def fJ:aq:=aP 36 [(1,.str base),(5,.mapr 0),(8,.int .i64 n)] [.map (sL PVal.bool m0)] []
def la(o:ai):aq:=aP 36 [(4,.str o)] [.map (sL PVal.bool m0)] []
def qf:Option (Int⊕(ai)):=
 (L5 n).bind fun r6=>
 (OY base r6).bind fun s7=>
 if(!((A3 m0 s7).getD false))=true then
  some (.inr s7)
 else
  some (.inl (cf (n+1)))
def tG:Option ai:=loop (fun(zz:Int)=>qf base m0 zz) n
theorem wO{y:Int⊕(ai)}(h:qf base m0 n=some y):aC Pg GE 0 (cA Ix 255) (LQ (fun(zz:Int)=>fJ base m0 zz) (fun _=>.ret) (la m0) y) (fJ base m0 n):=by
 obtain⟨r6,br6,h⟩:=av h
 obtain⟨s7,bs7,h⟩:=av h
 have p9:=fun{sc F} (r:PS sc F)=>bg (Lq br6)<|sv (MV (P:=Pg) (t:=9) bs7)<|sv (Ht (f:=PVal.bool) underlying121 underlying9 Pr m0 s7)<|r
 rcases aT h with⟨c8,h⟩|⟨c8,h⟩
 ·obtain rfl:=lf h
  have z:=p9<|sg 0 c8<|eF .ret (la m0 s7)
  exact gZ Is (by intro hx;cases hx) z<|by kernel_rfl
 ·obtain rfl:=lf h
  exact Bd Is (p9<|sg 0 c8<|eF .normal (fJ base m0 (cf (n+1))))<|by kernel_rfl
theorem xW{x:ai}(h:tG base m0 n=some x):aC Pg GE 0 (.loop (cA Ix 255)) (EX .ret (la m0 x)) (fJ base m0 n):=
 aC.loop (S:=fun(zz:Int)=>fJ base m0 zz) (ex:=(fun _=>.ret)) (s:=n) h fun zz y hy=>wO base m0 zz hy
end
def Au(used:waB)(base:ai):Option ai:=
 (tF used (used.length:Int) 0 ([]:List (ai×Bool))).bind fun o3=>
 if(!((A3 o3 base).getD false))=true then
  some base
 else
  (tG base o3 1).bind fun o10=>
  some o10
theorem CA{used:waB}{base:ai}{r:ai}(h:Au used base=some r):CC Pg GE 119 [sl cS used,.str base] (.str r) []:=by
 obtain⟨o3,bo3,h⟩:=av h
 have p5:=fun{sc F} (r:PS sc F)=>cx (cn.ln used)<|cC (xV base used (used.length:Int) 0 ([]:List (ai×Bool)) bo3)<|sv (Ht (f:=PVal.bool) underlying121 underlying9 Pr o3 base)<|r
 rcases aT h with⟨c4,h⟩|⟨c4,h⟩
 ·obtain rfl:=lf h
  have z:=p5<|sg 0 c4<|en (aI (rP (.str base))<|trivial)
  exact cb Is call119 func119 (c:=Ix) rfl (aI (ak hZ used) (aI trivial trivial)) z<|by kernel_rfl
 ·obtain⟨o10,bo10,h⟩:=av h
  obtain rfl:=lf h
  have z:=p5<|sg 0 c4<|cC (xW base o3 1 bo10)<|en (aI (rP (.str o10))<|trivial)
  exact cb Is call119 func119 (c:=Ix) rfl (aI (ak hZ used) (aI trivial trivial)) z<|by kernel_rfl
noncomputable def Qw:Code:=f52.body.getD .skip
def Qf:List Nat:=[13,19]
def eT(s:ah)(name:ai)(a:aa):Option ah:=
 (cQ s ([name]:List ai)).bind fun r1=>
 (app r1.names ([name]:List ai)).bind fun l2=>
 (app r1.by_ ([a]:List aa)).bind fun l3=>
 some (⟨l2,l3⟩:ah)
theorem gL{s:ah}{name:ai}{a:aa}{r:ah}(h:eT s name a=some r):CC Pg GE 52 [.agg (am s),.str name,.agg (ac a)] (.agg (am r)) [(0,9),(1,28)]:=by
 obtain⟨r1,br1,h⟩:=av h
 obtain⟨l2,bl2,h⟩:=av h
 obtain⟨l3,bl3,h⟩:=av h
 obtain rfl:=lf h
 have z:=se (cz s)<|se (bj a)<|sx HG<|sv (bN s)<|sv (cn.mk' (v:=PVal.str) FF ([name]:List ai) 1 (by kernel_rfl))<|bg (dt br1)<|sx HG<|sy (bM r1)<|sv (cn.mk' (v:=PVal.str) FF ([name]:List ai) 1 (by kernel_rfl))<|sv (cn.ap bl2)<|sv (aB a)<|sv (aQ.mk' (v:=b9) aV ([a]:List aa) 1 (by kernel_rfl))<|sv (aQ.ap bl3)<|sz (bE (⟨l2,l3⟩:ah) [])<|sy (bM (⟨l2,l3⟩:ah))<|en (aI (jo (⟨l2,l3⟩:ah))<|aI (aR (⟨l2,l3⟩:ah))<|rT)
 exact cb Qf call52 func52 (c:=Qw) rfl (aI (aR s) (aI trivial (aI (ag a) trivial))) z<|by kernel_rfl
noncomputable def OT:Code:=f88.body.getD .skip
def Np:List Nat:=[44,48,80]
section
variable(R18:bv)(t:ae)(t40:waC)(t41:Int)(m:waC)(m2:waA)(m3:Int)(m4:ai)(n:Nat)(m6:Int)(m7:ai)(m8:Int)(m9:waA)(m10:waA)(m11:waB)(m12:waA)(used:waB)(t42:Int)(w3:List ai)(m5:waC)(m13:waB)(m14:waA)
def aX:aq:=aP 99 [(3,.eptr (af t)),(4,.bptr 2 0),(5,.bptr 4 0),(7,sl cS used),(8,.bptr 6 0),(40,sl af t40),(41,.int .i64 t41),(42,.int .i64 t42)] [.dead,.dead,.cells [.int .i64 0,.str ([]:ai),sl af m,sl cS ([]:List ai),.int .i64 0,.str ([]:ai),.int .i64 0,sl ac m2,sl ac m2] [(2,30),(3,9),(7,28),(8,28)],.cells (qJ cS w3) [],.cells [.int .i64 m3,.str m4,sl af m5,.bsl 3 0 n,.int .i64 m6,.str m7,.int .i64 m8,sl ac m9,sl ac m10] [(2,30)],.cells [sl cS m11,sl ac m12] [],.cells [sl cS m13,sl ac m14] []] [((7,0),9)]
def cU(o:List ai×waC×waB×waA):aq:=aP 99 [(4,.bptr 2 0),(5,.bptr 4 0)] [.dead,.dead,.cells [.int .i64 0,.str ([]:ai),sl af m,sl cS ([]:List ai),.int .i64 0,.str ([]:ai),.int .i64 0,sl ac m2,sl ac m2] [(2,30),(3,9),(7,28),(8,28)],.cells (qJ cS o.1) [],.cells [.int .i64 m3,.str m4,sl af o.2.1,.bsl 3 0 n,.int .i64 m6,.str m7,.int .i64 m8,sl ac m9,sl ac m10] [(2,30)],.cells [sl cS m11,sl ac m12] [],.cells [sl cS o.2.2.1,sl ac o.2.2.2] []] []
def eN:Option ((waB×Int×List ai×waC×waB×waA)⊕((List ai×waC×waB×waA))):=
 if (decide (t42 < t41)) = true then
  (eh t40 t42).bind fun x9=>
  (R18 (⟨m13,m14⟩:ah) x9).bind fun r10=>
  (app m5 ([r10]:List ae)).bind fun l11=>
  if(decide (t42>=(t.Names.length:Int)))=true then
   some (.inl (used,cf (t42+1),w3,l11,m13,m14))
  else
   (eh t.Names t42).bind fun x14=>
   (cQ (⟨m13,m14⟩:ah) ([x14]:List ai)).bind fun r15=>
   (eS r15).bind fun r16=>
   (gN r16 x14).bind fun r17=>
   if r17=true then
    (Au used x14).bind fun r20=>
    (L3 n w3 t42).bind fun x21=>
    (Oz w3 t42 r20).bind fun l22=>
    (L3 n l22 t42).bind fun x23=>
    (app used ([x23]:List ai)).bind fun l24=>
    (L3 n l22 t42).bind fun x25=>
    (eT r15 x14 (⟨3,x25,0,([]:List aa)⟩:aa)).bind fun r26=>
    some (.inl (l24,cf (t42+1),l22,l11,r26.names,r26.by_))
   else
    some (.inl (used,cf (t42+1),w3,l11,r15.names,r15.by_))
 else
  some (.inr (w3,m5,m13,m14))
def fk:Option ((List ai×waC×waB×waA)):=loop (fun(zz:waB×Int×List ai×waC×waB×waA)=>eN R18 t t40 t41 n zz.1 zz.2.1 zz.2.2.1 zz.2.2.2.1 zz.2.2.2.2.1 zz.2.2.2.2.2) (used,t42,w3,m5,m13,m14)
theorem iK(hR18:ca R18){y:(waB×Int×List ai×waC×waB×waA)⊕((List ai×waC×waB×waA))}(h:eN R18 t t40 t41 n used t42 w3 m5 m13 m14=some y):aC Pg GE 0 (cA OT 1015) (LQ (fun(zz:waB×Int×List ai×waC×waB×waA)=>aX t t40 t41 m m2 m3 m4 n m6 m7 m8 m9 m10 m11 m12 zz.1 zz.2.1 zz.2.2.1 zz.2.2.2.1 zz.2.2.2.2.1 zz.2.2.2.2.2) (fun _=>.exit 0) (cU m m2 m3 m4 n m6 m7 m8 m9 m10 m11 m12) y) (aX t t40 t41 m m2 m3 m4 n m6 m7 m8 m9 m10 m11 m12 used t42 w3 m5 m13 m14):=by
 rcases aT h with⟨c8,h⟩|⟨c8,h⟩
 ·obtain⟨x9,bx9,h⟩:=av h
  obtain⟨r10,br10,h⟩:=av h
  obtain⟨l11,bl11,h⟩:=av h
  have p13:=fun{sc F} (r:PS sc F)=>sg 0 c8<|sv (dF.ia (k:=.i64) bx9)<|sv (bA x9)<|sx io<|sx (cB x9)<|ue [0,1,0,0,12,28,63,127,255]<|sv (bE (⟨m13,m14⟩:ah) [])<|sv (bk x9 [])<|bg (hR18 _ _ _ br10)<|sv (dF.mk' (v:=pp) li ([r10]:List ae) 1 (by kernel_rfl))<|sv (dF.ap bl11)<|KS (rfl:bZ (sl af l11)=some [sl af l11])<|sv (aY t)<|sv (aZ t)<|cx (cn.ln t.Names)<|r
  rcases aT h with⟨c12,h⟩|⟨c12,h⟩
  ·obtain rfl:=lf h
   have z:=p13<|sg 0 c12<|jw 0 .normal (aX t t40 t41 m m2 m3 m4 n m6 m7 m8 m9 m10 m11 m12 used (cf (t42+1)) w3 l11 m13 m14) rfl (bS (aI (eu (al t)) (aI (co rfl) (aI (co rfl) (aI (up (ak hZ used)) (aI (co rfl) (aI (up (ak al t40)) (aI trivial (aI trivial trivial))))))))) (aI trivial (aI trivial (aI (aI trivial (aI trivial (aI (up (ak al m)) (aI (up (ak hZ ([]:List ai))) (aI trivial (aI trivial (aI trivial (aI (up (ak ag m2)) (aI (up (ak ag m2)) trivial))))))))) (aI (Ov _ hZ w3) (aI (aI trivial (aI trivial (aI (up (ak al l11)) (aI (co rfl) (aI trivial (aI trivial (aI trivial (aI (up (ak ag m9)) (aI (up (ak ag m10)) trivial))))))))) (aI (aI (up (ak hZ m11)) (aI (up (ak ag m12)) trivial)) (aI (aI (up (ak hZ m13)) (aI (up (ak ag m14)) trivial)) trivial)))))))
   exact cd (A:=Np) mixed z<|by kernel_rfl
  ·obtain⟨x14,bx14,h⟩:=av h
   obtain⟨r15,br15,h⟩:=av h
   obtain⟨r16,br16,h⟩:=av h
   obtain⟨r17,br17,h⟩:=av h
   have p19:=fun{sc F} (r:PS sc F)=>p13<|sg 0 c12<|sv (aY t)<|sv (aZ t)<|sv (cn.ia (k:=.i64) bx14)<|sv (gh Iq (.str x14) [])<|sv (bE (⟨m13,m14⟩:ah) [])<|sv (cn.mk' (v:=PVal.str) FF ([x14]:List ai) 1 (by kernel_rfl))<|bg (dt br15)<|sy (bM r15)<|sv (bE r15 [])<|bg (gK br16)<|bg (eO br17)<|r
   rcases aT h with⟨c18,h⟩|⟨c18,h⟩
   ·obtain⟨r20,br20,h⟩:=av h
    obtain⟨x21,bx21,h⟩:=av h
    obtain⟨l22,bl22,h⟩:=av h
    obtain⟨x23,bx23,h⟩:=av h
    obtain⟨l24,bl24,h⟩:=av h
    obtain⟨x25,bx25,h⟩:=av h
    obtain⟨r26,br26,h⟩:=av h
    obtain rfl:=lf h
    have z:=p19<|sg 0 c18<|PY (.dx [0,1,0,0,0,24,63,127] [] [] [3])<|ss<|bg (CA br20)<|sv (cn.iaN 3 (k:=.i64) bx21)<|QW (cn.stR (FF r20) bl22)<|ss<|sv (cn.iaN 3 (k:=.i64) bx23)<|sv (cn.ldN (fun r=>gh Iq (.str x23) r) bx23)<|sv (cn.mk' (v:=PVal.str) FF ([x23]:List ai) 1 (by kernel_rfl))<|sv (cn.ap bl24)<|ue [0,0,0,4,0,28,60,124,255,511]<|sv (bE r15 [])<|ss<|sv (cn.iaN 3 (k:=.i64) bx25)<|sv (cn.ldN (fun r=>gh Iq (.str x25) r) bx25)<|sb (mS 3 x25) (mP 3 x25)<|bg (gL br26)<|KF (cN r26)<|jw 0 .normal (aX t t40 t41 m m2 m3 m4 n m6 m7 m8 m9 m10 m11 m12 l24 (cf (t42+1)) l22 l11 r26.names r26.by_) rfl (bS (aI (eu (al t)) (aI (co rfl) (aI (co rfl) (aI (up (ak hZ l24)) (aI (co rfl) (aI (up (ak al t40)) (aI trivial (aI trivial trivial))))))))) (aI trivial (aI trivial (aI (aI trivial (aI trivial (aI (up (ak al m)) (aI (up (ak hZ ([]:List ai))) (aI trivial (aI trivial (aI trivial (aI (up (ak ag m2)) (aI (up (ak ag m2)) trivial))))))))) (aI (Ov _ hZ l22) (aI (aI trivial (aI trivial (aI (up (ak al l11)) (aI (co rfl) (aI trivial (aI trivial (aI trivial (aI (up (ak ag m9)) (aI (up (ak ag m10)) trivial))))))))) (aI (aI (up (ak hZ m11)) (aI (up (ak ag m12)) trivial)) (aI (aI (up (ak hZ r26.names)) (aI (up (ak ag r26.by_)) trivial)) trivial)))))))
    exact cd (A:=Np) mixed z<|by kernel_rfl
   ·obtain rfl:=lf h
    have z:=p19<|sg 0 c18<|jw 0 .normal (aX t t40 t41 m m2 m3 m4 n m6 m7 m8 m9 m10 m11 m12 used (cf (t42+1)) w3 l11 r15.names r15.by_) rfl (bS (aI (eu (al t)) (aI (co rfl) (aI (co rfl) (aI (up (ak hZ used)) (aI (co rfl) (aI (up (ak al t40)) (aI trivial (aI trivial trivial))))))))) (aI trivial (aI trivial (aI (aI trivial (aI trivial (aI (up (ak al m)) (aI (up (ak hZ ([]:List ai))) (aI trivial (aI trivial (aI trivial (aI (up (ak ag m2)) (aI (up (ak ag m2)) trivial))))))))) (aI (Ov _ hZ w3) (aI (aI trivial (aI trivial (aI (up (ak al l11)) (aI (co rfl) (aI trivial (aI trivial (aI trivial (aI (up (ak ag m9)) (aI (up (ak ag m10)) trivial))))))))) (aI (aI (up (ak hZ m11)) (aI (up (ak ag m12)) trivial)) (aI (aI (up (ak hZ r15.names)) (aI (up (ak ag r15.by_)) trivial)) trivial)))))))
    exact cd (A:=Np) mixed z<|by kernel_rfl
 ·obtain rfl:=lf h
  have z:=sg 0 c8<|eF (.exit 0) (cU m m2 m3 m4 n m6 m7 m8 m9 m10 m11 m12 (w3,m5,m13,m14))
  exact gZ Np (by intro hx;cases hx) z<|by kernel_rfl
theorem jl(hR18:ca R18){x:(List ai×waC×waB×waA)}(h:fk R18 t t40 t41 n used t42 w3 m5 m13 m14=some x):aC Pg GE 0 (.loop (cA OT 1015)) (EX (.exit 0) (cU m m2 m3 m4 n m6 m7 m8 m9 m10 m11 m12 x)) (aX t t40 t41 m m2 m3 m4 n m6 m7 m8 m9 m10 m11 m12 used t42 w3 m5 m13 m14):=
 aC.loop (S:=fun(zz:waB×Int×List ai×waC×waB×waA)=>aX t t40 t41 m m2 m3 m4 n m6 m7 m8 m9 m10 m11 m12 zz.1 zz.2.1 zz.2.2.1 zz.2.2.2.1 zz.2.2.2.2.1 zz.2.2.2.2.2) (ex:=(fun _=>.exit 0)) (s:=(used,t42,w3,m5,m13,m14)) h fun zz y hy=>iK R18 t t40 t41 m m2 m3 m4 n m6 m7 m8 m9 m10 m11 m12 zz.1 zz.2.1 zz.2.2.1 zz.2.2.2.1 zz.2.2.2.2.1 zz.2.2.2.2.2 hR18 hy
end
def ga(R18:bv)(s:ah)(t:ae):Option ae:=
 (ri t.Names).bind fun r1=>
 (du s t.Pred).bind fun r2=>
 (n7 t.Preds s).bind fun r3=>
 (eS s).bind fun r4=>
 (rK t).bind fun r5=>
 (app r4 r5).bind fun l6=>
 (app l6 t.Names).bind fun l7=>
 (fk R18 t t.Args (t.Args.length:Int) r1.length l7 0 r1 ([]:List ae) s.names s.by_).bind fun o27=>
 (NY r1.length o27.1).bind fun l28=>
 some (⟨t.Op,t.Name,o27.2.1,l28,r2,r3⟩:ae)
theorem kF(R18:bv)(hR18:ca R18){s:ah}{t:ae}{r:ae}(h:ga R18 s t=some r):CC Pg GE 88 [.agg (am s),.agg (af t)] (.agg (af r)) [(2,30)]:=by
 obtain⟨r1,br1,h⟩:=av h
 obtain⟨r2,br2,h⟩:=av h
 obtain⟨r3,br3,h⟩:=av h
 obtain⟨r4,br4,h⟩:=av h
 obtain⟨r5,br5,h⟩:=av h
 obtain⟨l6,bl6,h⟩:=av h
 obtain⟨l7,bl7,h⟩:=av h
 obtain⟨o27,bo27,h⟩:=av h
 obtain⟨l28,bl28,h⟩:=av h
 obtain rfl:=lf h
 have z:=se (cz s)<|se (bY t)<|sx io<|PY (.dx [0,1,0,4,0,16,48,0,0,256,1008,0,2048,0,8192,32752,65535,0,262143] [.cells (qJ cS r1) []] [(6,3)] [])<|sv (aH t)<|sv (aJ t)<|sv (cF t)<|sv (cO t)<|sv (aY t)<|sv (aZ t)<|QV 3 9 (cn.cloneR Ef br1)<|sv (bN s)<|sv (bw t)<|sv (bz t)<|bg (ed br2)<|sv (bp t)<|sv (bu t)<|sv (bN s)<|bg (pg br3)<|sb (sJ t.Op t.Name 3 r1.length r2 r3) (sI t.Op t.Name 3 r1.length r2 r3)<|KF (QU [.int .i64 t.Op,.str t.Name,sl af ([]:List ae),.bsl 3 0 r1.length,.int .i64 r2.Op,.str r2.Name,.int .i64 r2.N,sl ac r2.Kids,sl ac r3])<|sv (bN s)<|sx HG<|sx (cN s)<|ue [0,1,0,7,15,0,32,127,255]<|sv (bE s [])<|bg (gK br4)<|sv (bA t)<|bg (sm br5)<|sv (cn.ap bl6)<|sv (aY t)<|sv (aZ t)<|sv (cn.ap bl7)<|sv (bN s)<|sx HG<|sx (cN s)<|sv (aL t)<|sv (aM t)<|cx (dF.ln t.Args)<|cC (jl R18 t t.Args (t.Args.length:Int) ([]:List ae) ([]:List aa) t.Op t.Name r1.length r2.Op r2.Name r2.N r2.Kids r3 s.names s.by_ l7 0 r1 ([]:List ae) s.names s.by_ hR18 bo27)<|Pe 3 (l28.map cS) [4,5] [] (cn.fz1 (m:=0) (b:=3) rfl l28) (cn.fz2 3 l28) (QI cS bl28)<|sf (Js 3 (p:=sl af ([]:List ae)) (ak al ([]:List ae)))<|sf (Js 3 (p:=sl cS ([]:List ai)) (ak hZ ([]:List ai)))<|sf (Js 3 (p:=sl ac ([]:List aa)) (ak ag ([]:List aa)))<|sf (Js 3 (p:=sl ac ([]:List aa)) (ak ag ([]:List aa)))<|sf (Js 3 (p:=sl af o27.2.1) (ak al o27.2.1))<|sf (QJ cS bl28)<|sf (Js 3 (p:=sl ac r2.Kids) (ak ag r2.Kids))<|sf (Js 3 (p:=sl ac r3) (ak ag r3))<|sf (Js 3 (p:=sl cS s.names) (ak hZ s.names))<|sf (Js 3 (p:=sl ac s.by_) (ak ag s.by_))<|sf (Js 3 (p:=sl cS o27.2.2.1) (ak hZ o27.2.2.1))<|sf (Js 3 (p:=sl ac o27.2.2.2) (ak ag o27.2.2.2))<|sz (bk (⟨t.Op,t.Name,o27.2.1,l28,r2,r3⟩:ae) [])<|sy (aO (⟨t.Op,t.Name,o27.2.1,l28,r2,r3⟩:ae))<|en (aI (cG (⟨t.Op,t.Name,o27.2.1,l28,r2,r3⟩:ae))<|aI (al (⟨t.Op,t.Name,o27.2.1,l28,r2,r3⟩:ae))<|rT)
 exact cb Np call88 func88 (c:=OT) rfl (aI (aR s) (aI (al t) trivial)) z<|by kernel_rfl
noncomputable def Nc:Code:=f74.body.getD .skip
def M8:List Nat:=[14,21]
section
variable(R18:bv)(v:ah)(t8:waC)(t9:Int)(out:waC)(t10:Int)
def dC:aq:=aP 22 [(1,.func (.func 50) [.agg (am v)] []),(5,sl af out),(8,sl af t8),(9,.int .i64 t9),(10,.int .i64 t10)] [] [((5,0),30)]
def g6(o:waC):aq:=aP 22 [(5,sl af o)] [] [((5,0),30)]
def kQ:Option ((waC×Int)⊕(waC)):=
 if(decide (t10<t9))=true then
  (eh t8 t10).bind fun x2=>
  (R18 v x2).bind fun r3=>
  (app out ([r3]:List ae)).bind fun l4=>
  some (.inl (l4,cf (t10+1)))
 else
  some (.inr out)
def mD:Option waC:=loop (fun(zz:waC×Int)=>kQ R18 v t8 t9 zz.1 zz.2) (out,t10)
theorem qu(hR18:ca R18){y:(waC×Int)⊕(waC)}(h:kQ R18 v t8 t9 out t10=some y):aC Pg GE 0 (cA Nc 119) (LQ (fun(zz:waC×Int)=>dC v t8 t9 zz.1 zz.2) (fun _=>.exit 0) g6 y) (dC v t8 t9 out t10):=by
 rcases aT h with⟨c1,h⟩|⟨c1,h⟩
 ·obtain⟨x2,bx2,h⟩:=av h
  obtain⟨r3,br3,h⟩:=av h
  obtain⟨l4,bl4,h⟩:=av h
  obtain rfl:=lf h
  have z:=sg 0 c1<|sv (dF.ia (k:=.i64) bx2)<|sv (bA x2)<|sx io<|sx (cB x2)<|sv (bk x2 [])<|bg (hR18 _ _ _ br3)<|sv (dF.mk' (v:=pp) li ([r3]:List ae) 1 (by kernel_rfl))<|sv (dF.ap bl4)<|jw 0 .normal (dC v t8 t9 l4 (cf (t10+1))) rfl (bS (aI (aI (aI (up (aR v)) trivial) trivial) (aI (up (ak al l4)) (aI (up (ak al t8)) (aI trivial (aI trivial trivial)))))) trivial
  exact cd (A:=M8) mixed z<|by kernel_rfl
 ·obtain rfl:=lf h
  have z:=sg 0 c1<|eF (.exit 0) (g6 out)
  exact gZ M8 (by intro hx;cases hx) z<|by kernel_rfl
theorem rL(hR18:ca R18){x:waC}(h:mD R18 v t8 t9 out t10=some x):aC Pg GE 0 (.loop (cA Nc 119)) (EX (.exit 0) (g6 x)) (dC v t8 t9 out t10):=
 aC.loop (S:=fun(zz:waC×Int)=>dC v t8 t9 zz.1 zz.2) (ex:=(fun _=>.exit 0)) (s:=(out,t10)) h fun zz y hy=>qu R18 v t8 t9 zz.1 zz.2 hR18 hy
end
def qt(R18:bv)(a:waC)(c:ah):Option waC:=
 (mD R18 c a (a.length:Int) ([]:List ae) 0).bind fun o5=>
 some o5
theorem u3(R18:bv)(hR18:ca R18){a:waC}{c:ah}{r:waC}(h:qt R18 a c=some r):CC Pg GE 74 [sl af a,.func (.func 50) [.agg (am c)] []] (sl af r) [(0,30)]:=by
 obtain⟨o5,bo5,h⟩:=av h
 obtain rfl:=lf h
 have z:=cx (dF.ln a)<|cC (rL R18 c a (a.length:Int) ([]:List ae) 0 hR18 bo5)<|en (aI (rP (sl af o5))<|(ak al o5))
 exact cb M8 call74 func74 (c:=Nc) rfl (aI (ak al a) (aI (aI (aI (aR c) trivial) trivial) trivial)) z<|by kernel_rfl
noncomputable def PD:Code:=f50.body.getD .skip
def Pu:List Nat:=[]
def ip(R18:bv)(s:ah)(t:ae):Option ae:=
 if(t.Op==6)=true then
  (ga R18 s t).bind fun r3=>
  some r3
 else
  (ri t.Names).bind fun r4=>
  (du s t.Pred).bind fun r5=>
  (n7 t.Preds s).bind fun r6=>
  (qt R18 t.Args s).bind fun r7=>
  some (⟨t.Op,t.Name,r7,r4,r5,r6⟩:ae)
theorem mn(R18:bv)(hR18:ca R18){s:ah}{t:ae}{r:ae}(h:ip R18 s t=some r):CC Pg GE 50 [.agg (am s),.agg (af t)] (.agg (af r)) [(2,30)]:=by
 have p2:=fun{sc F} (r:PS sc F)=>se (cz s)<|se (bY t)<|sx io<|sv (aH t)<|sv (aJ t)<|r
 rcases aT h with⟨c1,h⟩|⟨c1,h⟩
 ·obtain⟨r3,br3,h⟩:=av h
  obtain rfl:=lf h
  have z:=p2<|sg 0 c1<|sv (bN s)<|sv (bA t)<|bg (kF R18 hR18 br3)<|sy (aO r3)<|en (aI (cG r3)<|aI (al r3)<|rT)
  exact cb Pu call50 func50 (c:=PD) rfl (aI (aR s) (aI (al t) trivial)) z<|by kernel_rfl
 ·obtain⟨r4,br4,h⟩:=av h
  obtain⟨r5,br5,h⟩:=av h
  obtain⟨r6,br6,h⟩:=av h
  obtain⟨r7,br7,h⟩:=av h
  obtain rfl:=lf h
  have z:=p2<|sg 0 c1<|ue [0,1,0,4,0,16,48,0,0,256,1008,0,2048,0,8192,32752,65535,0,262143]<|sv (aH t)<|sv (aJ t)<|sv (cF t)<|sv (cO t)<|sv (aY t)<|sv (aZ t)<|bg (B9 br4)<|sv (bN s)<|sv (bw t)<|sv (bz t)<|bg (ed br5)<|sv (bp t)<|sv (bu t)<|sv (bN s)<|bg (pg br6)<|sb (nB t.Op t.Name r4 r5 r6) (nz t.Op t.Name r4 r5 r6)<|KF (cB (⟨t.Op,t.Name,([]:List ae),r4,r5,r6⟩:ae))<|sv (aL t)<|sv (aM t)<|sv (bN s)<|bg (u3 R18 hR18 br7)<|sz (bk (⟨t.Op,t.Name,r7,r4,r5,r6⟩:ae) [])<|sy (aO (⟨t.Op,t.Name,r7,r4,r5,r6⟩:ae))<|en (aI (cG (⟨t.Op,t.Name,r7,r4,r5,r6⟩:ae))<|aI (al (⟨t.Op,t.Name,r7,r4,r5,r6⟩:ae))<|rT)
  exact cb Pu call50 func50 (c:=PD) rfl (aI (aR s) (aI (al t) trivial)) z<|by kernel_rfl
def iq:((ah×ae)->Option ae)->(ah×ae)->Option ae:=fun(rec:(ah×ae)->Option ae) (x:ah×ae)=>ip (fun s t=>rec (s,t)) x.1 x.2
def jm(s:ah)(t:ae):Option ae:=kY iq (s,t)
theorem na{s:ah}{t:ae}{r:ae}(h:jm s t=some r):CC Pg GE 50 [.agg (am s),.agg (af t)] (.agg (af r)) [(2,30)]:=
 cw (F:=iq) (M:=fun(x:ah×ae) (r:ae)=>CC Pg GE 50 [.agg (am x.1),.agg (af x.2)] (.agg (af r)) [(2,30)]) (fun rec hrec x r h=>mn _ (fun s t r h=>hrec (s,t) r h) h) h
noncomputable def Qp:Code:=f15.body.getD .skip
def P8:List Nat:=[]
def lr(t:ae)(a:waB)(a2:waA):Option ae:=
 (LF a none (some (if(a2.length:Int)<(a.length:Int)then(a2.length:Int)else(a.length:Int)))).bind fun l1=>
 (LF a2 none (some (if(a2.length:Int)<(a.length:Int)then(a2.length:Int)else(a.length:Int)))).bind fun l2=>
 (cQ (⟨l1,l2⟩:ah) ([([118]:ai)]:List ai)).bind fun r3=>
 (jm r3 t).bind fun r4=>
 some r4
theorem mC{t:ae}{a:waB}{a2:waA}{r:ae}(h:lr t a a2=some r):CC Pg GE 15 [.agg (af t),sl cS a,sl ac a2] (.agg (af r)) [(2,30)]:=by
 obtain⟨l1,bl1,h⟩:=av h
 obtain⟨l2,bl2,h⟩:=av h
 obtain⟨r3,br3,h⟩:=av h
 obtain⟨r4,br4,h⟩:=av h
 obtain rfl:=lf h
 have z:=se (bY t)<|sx io<|cx (cn.ln a)<|cx (aQ.ln a2)<|ue [0,0,3,0,0,24,63,0,255,0,1023]<|sv (cn.sc bl1)<|sv (aQ.sc bl2)<|sv (mR l1 l2)<|sv (cn.mk' (v:=PVal.str) FF ([([118]:ai)]:List ai) 1 (by kernel_rfl))<|bg (dt br3)<|KF (cN r3)<|sv (bE r3 [])<|sv (bA t)<|bg (na br4)<|sy (aO r4)<|en (aI (cG r4)<|aI (al r4)<|rT)
 exact cb P8 call15 func15 (c:=Qp) rfl (aI (al t) (aI (ak hZ a) (aI (ak ag a2) trivial))) z<|by kernel_rfl
noncomputable def Qo:Code:=f13.body.getD .skip
def P7:List Nat:=[]
def lM(t:ae)(name:ai)(a:aa):Option ae:=
 (lr t ([name]:List ai) ([a]:List aa)).bind fun r1=>
 some r1
theorem ls{t:ae}{name:ai}{a:aa}{r:ae}(h:lM t name a=some r):CC Pg GE 13 [.agg (af t),.str name,.agg (ac a)] (.agg (af r)) [(2,30)]:=by
 obtain⟨r1,br1,h⟩:=av h
 obtain rfl:=lf h
 have z:=se (bY t)<|se (bj a)<|sx io<|sv (bA t)<|sv (cn.mk' (v:=PVal.str) FF ([name]:List ai) 1 (by kernel_rfl))<|sv (aB a)<|sv (aQ.mk' (v:=b9) aV ([a]:List aa) 1 (by kernel_rfl))<|bg (mC br1)<|sy (aO r1)<|en (aI (cG r1)<|aI (al r1)<|rT)
 exact cb P7 call13 func13 (c:=Qo) rfl (aI (al t) (aI trivial (aI (ag a) trivial))) z<|by kernel_rfl
noncomputable def NE:Code:=f18.body.getD .skip
def Mk:List Nat:=[28]
section
variable(args:waA)(t:ae)(m:waC)(m2:waA)
def xg:aq:=aP 54 [(1,sl ac args),(2,.eptr (af t)),(4,.bptr 1 0)] [.dead,.cells [.int .i64 0,.str ([]:ai),sl af m,sl cS ([]:List ai),.int .i64 0,.str ([]:ai),.int .i64 0,sl ac m2,sl ac m2] [(2,30),(3,9),(7,28),(8,28)]] []
def jM(o:Bool):aq:=aP 54 [(1,sl ac args),(2,.eptr (af t)),(4,.bptr 1 0),(20,.bool o)] [.dead,.cells [.int .i64 0,.str ([]:ai),sl af m,sl cS ([]:List ai),.int .i64 0,.str ([]:ai),.int .i64 0,sl ac m2,sl ac m2] [(2,30),(3,9),(7,28),(8,28)]] []
def qq:Option Bool:=
 if(t.Op !=6)=true then
  some true
 else
  some ((t.Args.length:Int)!=(cf ((args.length:Int)+1)))
theorem uU{x:Bool}(h:qq args t=some x):aC Pg GE 0 (cA NE 12) (EX .normal (jM args t m m2 x)) (xg args t m m2):=by
 have p2:=fun{sc F} (r:PS sc F)=>sv (aH t)<|sv (aJ t)<|r
 rcases aT h with⟨c1,h⟩|⟨c1,h⟩
 ·obtain rfl:=lf h
  exact ct Mk (p2<|sg 4 c1<|eF .normal (jM args t m m2 true))<|by kernel_rfl
 ·obtain rfl:=lf h
  exact ct Mk (p2<|sg 4 c1<|sv (aL t)<|sv (aM t)<|cx (dF.ln t.Args)<|cx (aQ.ln args)<|eF .normal (jM args t m m2 ((t.Args.length:Int)!=(cf ((args.length:Int)+1)))))<|by kernel_rfl
end
section
variable(args:waA)(t:ae)(t24:waB)(t25:Int)(m:waC)(m2:waA)(t26:Int)(m3:waB)(m4:waA)
def dK:aq:=aP 54 [(1,sl ac args),(2,.eptr (af t)),(4,.bptr 1 0),(6,.bptr 2 0),(24,sl cS t24),(25,.int .i64 t25),(26,.int .i64 t26)] [.dead,.cells [.int .i64 0,.str ([]:ai),sl af m,sl cS ([]:List ai),.int .i64 0,.str ([]:ai),.int .i64 0,sl ac m2,sl ac m2] [(2,30),(3,9),(7,28),(8,28)],.cells [sl cS m3,sl ac m4] [(0,9),(1,28)]] []
def jN(o:waB×waA):aq:=aP 54 [(1,sl ac args),(2,.eptr (af t)),(4,.bptr 1 0),(6,.bptr 2 0)] [.dead,.cells [.int .i64 0,.str ([]:ai),sl af m,sl cS ([]:List ai),.int .i64 0,.str ([]:ai),.int .i64 0,sl ac m2,sl ac m2] [(2,30),(3,9),(7,28),(8,28)],.cells [sl cS o.1,sl ac o.2] [(0,9),(1,28)]] []
def nW:Option ((Int×waB×waA)⊕((waB×waA))):=
 if(decide (t26<t25))=true then
  (eh t24 t26).bind fun x7=>
  if(decide (t26<(args.length:Int)))=true then
   (eh args t26).bind fun x10=>
   (eT (⟨m3,m4⟩:ah) x7 x10).bind fun r11=>
   some (.inl (cf (t26+1),r11.names,r11.by_))
  else
   some (.inl (cf (t26+1),m3,m4))
 else
  some (.inr (m3,m4))
def qr:Option ((waB×waA)):=loop (fun(zz:Int×waB×waA)=>nW args t24 t25 zz.1 zz.2.1 zz.2.2) (t26,m3,m4)
theorem tX{y:(Int×waB×waA)⊕((waB×waA))}(h:nW args t24 t25 t26 m3 m4=some y):aC Pg GE 0 (cA NE 247) (LQ (fun(zz:Int×waB×waA)=>dK args t t24 t25 m m2 zz.1 zz.2.1 zz.2.2) (fun _=>.exit 0) (jN args t m m2) y) (dK args t t24 t25 m m2 t26 m3 m4):=by
 rcases aT h with⟨c6,h⟩|⟨c6,h⟩
 ·obtain⟨x7,bx7,h⟩:=av h
  have p9:=fun{sc F} (r:PS sc F)=>sg 0 c6<|sv (cn.ia (k:=.i64) bx7)<|sv (gh Iq (.str x7) [])<|cx (aQ.ln args)<|r
  rcases aT h with⟨c8,h⟩|⟨c8,h⟩
  ·obtain⟨x10,bx10,h⟩:=av h
   obtain⟨r11,br11,h⟩:=av h
   obtain rfl:=lf h
   exact Bd Mk (p9<|sg 0 c8<|ue [0,0,0,0,12,28,63,127]<|sv (bE (⟨m3,m4⟩:ah) [])<|sv (aQ.ia (k:=.i64) bx10)<|sv (aB x10)<|bg (gL br11)<|KF (cN r11)<|eF .normal (dK args t t24 t25 m m2 (cf (t26+1)) r11.names r11.by_))<|by kernel_rfl
  ·obtain rfl:=lf h
   exact Bd Mk (p9<|sg 0 c8<|eF .normal (dK args t t24 t25 m m2 (cf (t26+1)) m3 m4))<|by kernel_rfl
 ·obtain rfl:=lf h
  have z:=sg 0 c6<|eF (.exit 0) (jN args t m m2 (m3,m4))
  exact gZ Mk (by intro hx;cases hx) z<|by kernel_rfl
theorem uV{x:(waB×waA)}(h:qr args t24 t25 t26 m3 m4=some x):aC Pg GE 0 (.loop (cA NE 247)) (EX (.exit 0) (jN args t m m2 x)) (dK args t t24 t25 m m2 t26 m3 m4):=
 aC.loop (S:=fun(zz:Int×waB×waA)=>dK args t t24 t25 m m2 zz.1 zz.2.1 zz.2.2) (ex:=(fun _=>.exit 0)) (s:=(t26,m3,m4)) h fun zz y hy=>tX args t t24 t25 m m2 zz.1 zz.2.1 zz.2.2 hy
end
def vX(t:ae)(args:waA):Option (ae×Int):=
 (qq args t).bind fun o3=>
 if o3=true then
  some ((⟨0,([]:ai),([]:List ae),([]:List ai),(⟨0,([]:ai),0,([]:List aa)⟩:aa),([]:List aa)⟩:ae),13)
 else
  (qr args t.Names (t.Names.length:Int) 0 ([]:List ai) ([]:List aa)).bind fun o12=>
  (eh t.Args (args.length:Int)).bind fun x13=>
  (lr x13 o12.1 o12.2).bind fun r14=>
  some (r14,0)
theorem zT{t:ae}{args:waA}{r:ae×Int}(h:vX t args=some r):CC Pg GE 18 [.agg (af t),sl ac args] (.tuple [.agg (af r.1),.int .i64 r.2]) []:=by
 obtain⟨o3,bo3,h⟩:=av h
 have p5:=fun{sc F} (r:PS sc F)=>se (bY t)<|sx io<|mG 1<|cC (uU args t ([]:List ae) ([]:List aa) bo3)<|r
 rcases aT h with⟨c4,h⟩|⟨c4,h⟩
 ·obtain rfl:=lf h
  have z:=p5<|sg 0 c4<|sb (G9) (G7)<|sy (aO (⟨0,([]:ai),([]:List ae),([]:List ai),(⟨0,([]:ai),0,([]:List aa)⟩:aa),([]:List aa)⟩:ae))<|en (aI (vbe PVal.tuple (HU (cG (⟨0,([]:ai),([]:List ae),([]:List ai),(⟨0,([]:ai),0,([]:List aa)⟩:aa),([]:List aa)⟩:ae)) (HU (rP (.int .i64 13)) (rfl:([]:List PVal)=[]))))<|(aI (al (⟨0,([]:ai),([]:List ae),([]:List ai),(⟨0,([]:ai),0,([]:List aa)⟩:aa),([]:List aa)⟩:ae)) (aI trivial trivial)))
  exact cb Mk call18 func18 (c:=NE) rfl (aI (al t) (aI (ak ag args) trivial)) z<|by kernel_rfl
 ·obtain⟨o12,bo12,h⟩:=av h
  obtain⟨x13,bx13,h⟩:=av h
  obtain⟨r14,br14,h⟩:=av h
  obtain rfl:=lf h
  have z:=p5<|sg 0 c4<|sb (ol) (oh)<|sx HG<|sy (bM (⟨([]:List ai),([]:List aa)⟩:ah))<|sv (aY t)<|sv (aZ t)<|cx (cn.ln t.Names)<|cC (uV args t t.Names (t.Names.length:Int) ([]:List ae) ([]:List aa) 0 ([]:List ai) ([]:List aa) bo12)<|ue [0,1,0,4,15,31,0,64,0,256,1023,2047,4095]<|sv (aL t)<|sv (aM t)<|cx (aQ.ln args)<|sv (dF.ia (k:=.i64) bx13)<|sv (bA x13)<|ss<|ss<|bg (mC br14)<|KF (cB r14)<|en (aI (vbe PVal.tuple (HU (cG r14) (HU (rP (.int .i64 0)) (rfl:([]:List PVal)=[]))))<|(aI (al r14) (aI trivial trivial)))
  exact cb Mk call18 func18 (c:=NE) rfl (aI (al t) (aI (ak ag args) trivial)) z<|by kernel_rfl
abbrev i6:=(ae->waB->waC->Option ae)
abbrev lD(R:i6):Prop:=∀(t:ae) (a:waB) (a2:waC) (r:ae),R t a a2=some r->CC Pg GE 95 [.agg (af t),sl cS a,sl af a2] (.agg (af r)) [(2,30),(8,28)]
noncomputable def K6:Code:=f122.body.getD .skip
def KU:List Nat:=[]
def xt(p:aa):Option Bool:=
 if (p.Op == 0) = true then
  if(p.Name==([]:ai))=true then
   if(p.N==0)=true then
    some ((p.Kids.length:Int)==0)
   else
    some false
  else
   some false
 else
  some false
theorem wm{p:aa}{r:Bool}(h:xt p=some r):CC Pg GE 122 [.agg (ac p)] (.bool r) []:=by
 have p2:=fun{sc F} (r:PS sc F)=>se (bj p)<|sv (aE p)<|sv (aF p)<|r
 rcases aT h with⟨c1,h⟩|⟨c1,h⟩
 ·have p4:=fun{sc F} (r:PS sc F)=>p2<|sg 4 c1<|sv (bo p)<|sv (bD p)<|r
  rcases aT h with⟨c3,h⟩|⟨c3,h⟩
  ·have p6:=fun{sc F} (r:PS sc F)=>p4<|sg 9 c3<|sv (bU p)<|sv (ce p)<|r
   rcases aT h with⟨c5,h⟩|⟨c5,h⟩
   ·obtain rfl:=lf h
    have z:=p6<|sg 14 c5<|sv (ay p)<|sv (az p)<|cx (aQ.ln p.Kids)<|en (aI (rP (.bool ((p.Kids.length:Int)==0)))<|trivial)
    exact cb KU call122 func122 (c:=K6) rfl (aI (ag p) trivial) z<|by kernel_rfl
   ·obtain rfl:=lf h
    have z:=p6<|sg 14 c5<|en (aI (rP (.bool false))<|trivial)
    exact cb KU call122 func122 (c:=K6) rfl (aI (ag p) trivial) z<|by kernel_rfl
  ·obtain rfl:=lf h
   have z:=p4<|sg 9 c3<|en (aI (rP (.bool false))<|trivial)
   exact cb KU call122 func122 (c:=K6) rfl (aI (ag p) trivial) z<|by kernel_rfl
 ·obtain rfl:=lf h
  have z:=p2<|sg 4 c1<|en (aI (rP (.bool false))<|trivial)
  exact cb KU call122 func122 (c:=K6) rfl (aI (ag p) trivial) z<|by kernel_rfl
abbrev mM:=(aa->Option aa)
abbrev qN(R:mM):Prop:=∀(p:aa) (r:aa),R p=some r->CC Pg GE 123 [.agg (ac p)] (.agg (ac r)) [(3,28)]
noncomputable def Mv:Code:=f123.body.getD .skip
def Mh:List Nat:=[21]
section
variable(R36:mM)(t14:waA)(t15:Int)(m:waA)(m2:Int)(m3:ai)(m4:Int)(t16:Int)(m5:waA)
def gR:aq:=aP 29 [(2,.bptr 1 0),(3,.bptr 2 0),(14,sl ac t14),(15,.int .i64 t15),(16,.int .i64 t16)] [.dead,.cells [.int .i64 0,.str ([]:ai),.int .i64 0,sl ac m] [(3,28)],.cells [.int .i64 m2,.str m3,.int .i64 m4,sl ac m5] [(3,28)]] []
def mw(o:waA):aq:=aP 29 [(2,.bptr 1 0),(3,.bptr 2 0)] [.dead,.cells [.int .i64 0,.str ([]:ai),.int .i64 0,sl ac m] [(3,28)],.cells [.int .i64 m2,.str m3,.int .i64 m4,sl ac o] [(3,28)]] []
def sF:Option ((Int×waA)⊕(waA)):=
 if(decide (t16<t15))=true then
  (eh t14 t16).bind fun x2=>
  (R36 x2).bind fun r3=>
  (app m5 ([r3]:List aa)).bind fun l4=>
  some (.inl (cf (t16+1),l4))
 else
  some (.inr m5)
def wl:Option waA:=loop (fun(zz:Int×waA)=>sF R36 t14 t15 zz.1 zz.2) (t16,m5)
theorem zb(hR36:qN R36){y:(Int×waA)⊕(waA)}(h:sF R36 t14 t15 t16 m5=some y):aC Pg GE 0 (cA Mv 119) (LQ (fun(zz:Int×waA)=>gR t14 t15 m m2 m3 m4 zz.1 zz.2) (fun _=>.exit 0) (mw m m2 m3 m4) y) (gR t14 t15 m m2 m3 m4 t16 m5):=by
 rcases aT h with⟨c1,h⟩|⟨c1,h⟩
 ·obtain⟨x2,bx2,h⟩:=av h
  obtain⟨r3,br3,h⟩:=av h
  obtain⟨l4,bl4,h⟩:=av h
  obtain rfl:=lf h
  have z:=sg 0 c1<|sv (aQ.ia (k:=.i64) bx2)<|sv (aB x2)<|sx dB<|sx (aW x2)<|ue [0,1,0,4,12,31,63,127]<|sv (aD x2 [])<|bg (hR36 _ _ br3)<|sv (aQ.mk' (v:=b9) aV ([r3]:List aa) 1 (by kernel_rfl))<|sv (aQ.ap bl4)<|KS (rfl:bZ (sl ac l4)=some [sl ac l4])<|jw 0 .normal (gR t14 t15 m m2 m3 m4 (cf (t16+1)) l4) rfl (bS (aI (co rfl) (aI (co rfl) (aI (up (ak ag t14)) (aI trivial (aI trivial trivial)))))) (aI trivial (aI (aI trivial (aI trivial (aI trivial (aI (up (ak ag m)) trivial)))) (aI (aI trivial (aI trivial (aI trivial (aI (up (ak ag l4)) trivial)))) trivial)))
  exact cd (A:=Mh) mixed z<|by kernel_rfl
 ·obtain rfl:=lf h
  have z:=sg 0 c1<|eF (.exit 0) (mw m m2 m3 m4 m5)
  exact gZ Mh (by intro hx;cases hx) z<|by kernel_rfl
theorem Ag(hR36:qN R36){x:waA}(h:wl R36 t14 t15 t16 m5=some x):aC Pg GE 0 (.loop (cA Mv 119)) (EX (.exit 0) (mw m m2 m3 m4 x)) (gR t14 t15 m m2 m3 m4 t16 m5):=
 aC.loop (S:=fun(zz:Int×waA)=>gR t14 t15 m m2 m3 m4 zz.1 zz.2) (ex:=(fun _=>.exit 0)) (s:=(t16,m5)) h fun zz y hy=>zb R36 t14 t15 m m2 m3 m4 zz.1 zz.2 hR36 hy
end
def y9(R36:mM)(p:aa):Option aa:=
 (wl R36 p.Kids (p.Kids.length:Int) 0 ([]:List aa)).bind fun o5=>
 some (⟨p.Op,p.Name,p.N,o5⟩:aa)
theorem Dt(R36:mM)(hR36:qN R36){p:aa}{r:aa}(h:y9 R36 p=some r):CC Pg GE 123 [.agg (ac p)] (.agg (ac r)) [(3,28)]:=by
 obtain⟨o5,bo5,h⟩:=av h
 obtain rfl:=lf h
 have z:=se (bj p)<|sx dB<|sv (aE p)<|sv (aF p)<|sv (bo p)<|sv (bD p)<|sv (bU p)<|sv (ce p)<|sb (kf p.Op p.Name p.N) (ke p.Op p.Name p.N)<|sx dB<|sy (ax (⟨p.Op,p.Name,p.N,([]:List aa)⟩:aa))<|sv (ay p)<|sv (az p)<|cx (aQ.ln p.Kids)<|cC (Ag R36 p.Kids (p.Kids.length:Int) ([]:List aa) p.Op p.Name p.N 0 ([]:List aa) hR36 bo5)<|sz (aD (⟨p.Op,p.Name,p.N,o5⟩:aa) [])<|sy (ax (⟨p.Op,p.Name,p.N,o5⟩:aa))<|en (aI (bR (⟨p.Op,p.Name,p.N,o5⟩:aa))<|aI (ag (⟨p.Op,p.Name,p.N,o5⟩:aa))<|rT)
 exact cb Mh call123 func123 (c:=Mv) rfl (aI (ag p) trivial) z<|by kernel_rfl
def za:(aa->Option aa)->(aa)->Option aa:=fun(rec:aa->Option aa) (x:aa)=>y9 (fun p=>rec p) x
def og(p:aa):Option aa:=kY za p
theorem lN{p:aa}{r:aa}(h:og p=some r):CC Pg GE 123 [.agg (ac p)] (.agg (ac r)) [(3,28)]:=
 cw (F:=za) (M:=fun(x:aa) (r:aa)=>CC Pg GE 123 [.agg (ac x)] (.agg (ac r)) [(3,28)]) (fun rec hrec x r h=>Dt _ (fun p r h=>hrec p r h) h) h
end Go.Proofs.YtggeppllafbidaaGreatDoor
