/- PROVED: a part of the proof. Conditions: none. -/
import Derived.Test.YtbaamopmfmpfaaaGreatDoorPkA14
noncomputable section
namespace Go.Proofs.YtbaamopmfmpfaaaGreatDoor
open Go Go.Proofs.Tryz
set_option linter.unusedVariables false
set_option maxRecDepth 100000
noncomputable def qcm:Code:=f110.body.getD .skip
def qas:List Nat:=[17]
section
variable(R78:qh)(v:waB)(v2:waB)(t14:Int)(t15:Int)
def kR:aA:=be 30 [(0,sl ac v),(1,sl ac v2),(2,.func (.func 93) [] []),(14,.int .i64 t14),(15,.int .i64 t15)] [] []
def kT(o:Unit⊕(Unit)):Exit:=match o with
 |(.inl _)=>.ret
 |(.inr _)=>.exit 0
def iM(o:Unit⊕(Unit)):aA:=match o with
 |(.inl o)=>be 30 [(6,.bool false)] [] []
 |(.inr o)=>be 30 [] [] []
def kS:Option (Int⊕(Unit⊕(Unit))):=
 if(decide (t15<t14))=true then
  (cz v t15).bind fun x4=>
  (cz v2 t15).bind fun x5=>
  (R78 x4 x5).bind fun r6=>
  if(!r6)=true then
   some (.inr (.inl ()))
  else
   some (.inl (aR (t15+1)))
 else
  some (.inr (.inr ()))
def Ab:Option (Unit⊕(Unit)):=loop (fun(zz:Int)=>kS R78 v v2 t14 zz) t15
theorem Kq(hR78:ym R78){y:Int⊕(Unit⊕(Unit))}(h:kS R78 v v2 t14 t15=some y):aU Pg GE 0 (cA qcm 119) (LQ (fun(zz:Int)=>kR v v2 t14 zz) kT iM y) (kR v v2 t14 t15):=by
 rcases bj h with⟨c3,h⟩|⟨c3,h⟩
 ·obtain⟨x4,bx4,h⟩:=ay h
  obtain⟨x5,bx5,h⟩:=ay h
  obtain⟨r6,br6,h⟩:=ay h
  have p8:=fun{sc F} (r:PS sc F)=>sg 0 c3<|lY [0,0,0,6,14,0,0,96,224,511,1023]<|sv (bL.ia (k:=.i64) bx4)<|sv (bh x4)<|sv (bL.ia (k:=.i64) bx5)<|sv (bh x5)<|bz (hR78 _ _ _ br6)<|r
  rcases bj h with⟨c7,h⟩|⟨c7,h⟩
  ·obtain rfl:=lf h
   have z:=p8<|sg 0 c7<|eF (kT (.inl ())) (iM (.inl ()))
   exact f6 qas (by intro hx;cases hx) z<|by kernel_rfl
  ·obtain rfl:=lf h
   exact n9 qas (p8<|sg 0 c7<|eF .normal (kR v v2 t14 (aR (t15+1))))<|by kernel_rfl
 ·obtain rfl:=lf h
  have z:=sg 0 c3<|eF (kT (.inr ())) (iM (.inr ()))
  exact f6 qas (by intro hx;cases hx) z<|by kernel_rfl
theorem AT(hR78:ym R78){x:Unit⊕(Unit)}(h:Ab R78 v v2 t14 t15=some x):aU Pg GE 0 (.loop (cA qcm 119)) (EX (kT x) (iM x)) (kR v v2 t14 t15):=
 aU.loop (S:=fun(zz:Int)=>kR v v2 t14 zz) (ex:=kT) (s:=t15) h fun zz y hy=>Kq R78 v v2 t14 zz hR78 hy
end
def CD(R78:qh)(a:waB)(a2:waB):Option Bool:=
 if((a.length:Int)!=(a2.length:Int))=true then
  some false
 else
  (Ab R78 a a2 (a.length:Int) 0).bind fun o9=>match o9 with
  |(.inl o9)=>
   some false
  |(.inr o9)=>
   some true
theorem SI(R78:qh)(hR78:ym R78){a:waB}{a2:waB}{r:Bool}(h:CD R78 a a2=some r):CC Pg GE 110 [sl ac a,sl ac a2,.func (.func 93) [] []] (.bool r) []:=by
 have p2:=fun{sc F} (r:PS sc F)=>cm (bL.ln a)<|cm (bL.ln a2)<|r
 rcases bj h with⟨c1,h⟩|⟨c1,h⟩
 ·obtain rfl:=lf h
  have z:=p2<|sg 0 c1<|en (aI (rP (.bool false))<|trivial)
  exact bN qas call110 func110 (c:=qcm) rfl (aI (aj ah a) (aI (aj ah a2) (aI (aI trivial trivial) trivial))) z<|by kernel_rfl
 ·obtain⟨o9,bo9,h⟩:=ay h
  rcases o9 with o9|o9
  ·obtain rfl:=lf h
   have z:=p2<|sg 0 c1<|cm (bL.ln a)<|cW (e:=.ret) (s1:=iM (.inl o9)) (AT R78 a a2 (a.length:Int) 0 hR78 bo9)<|en (aI (rP (.bool false))<|trivial)
   exact bN qas call110 func110 (c:=qcm) rfl (aI (aj ah a) (aI (aj ah a2) (aI (aI trivial trivial) trivial))) z<|by kernel_rfl
  ·obtain rfl:=lf h
   have z:=p2<|sg 0 c1<|cm (bL.ln a)<|cW (e:=.exit 0) (s1:=iM (.inr o9)) (AT R78 a a2 (a.length:Int) 0 hR78 bo9)<|en (aI (rP (.bool true))<|trivial)
   exact bN qas call110 func110 (c:=qcm) rfl (aI (aj ah a) (aI (aj ah a2) (aI (aI trivial trivial) trivial))) z<|by kernel_rfl
noncomputable def qjp:Code:=f93.body.getD .skip
def qi6:List Nat:=[]
def y6(R78:qh)(a:aa)(a2:aa):Option Bool:=
 if (a.Op == a2.Op) = true then
  if(a.Name==a2.Name)=true then
   if(a.N==a2.N)=true then
    (CD R78 a.Kids a2.Kids).bind fun r7=>
    some r7
   else
    some false
  else
   some false
 else
  some false
theorem SH(R78:qh)(hR78:ym R78){a:aa}{a2:aa}{r:Bool}(h:y6 R78 a a2=some r):CC Pg GE 93 [.agg (ac a),.agg (ac a2)] (.bool r) []:=by
 have p2:=fun{sc F} (r:PS sc F)=>se (bS a)<|se (bS a2)<|sv (bE a)<|sv (bF a)<|sv (bE a2)<|sv (bF a2)<|r
 rcases bj h with⟨c1,h⟩|⟨c1,h⟩
 ·have p4:=fun{sc F} (r:PS sc F)=>p2<|sg 6 c1<|sv (cp a)<|sv (cO a)<|sv (cp a2)<|sv (cO a2)<|r
  rcases bj h with⟨c3,h⟩|⟨c3,h⟩
  ·have p6:=fun{sc F} (r:PS sc F)=>p4<|sg 13 c3<|sv (dD a)<|sv (dU a)<|sv (dD a2)<|sv (dU a2)<|r
   rcases bj h with⟨c5,h⟩|⟨c5,h⟩
   ·obtain⟨r7,br7,h⟩:=ay h
    obtain rfl:=lf h
    have z:=p6<|sg 20 c5<|sv (bA a)<|sv (bC a)<|sv (bA a2)<|sv (bC a2)<|bz (SI R78 hR78 br7)<|en (aI (rP (.bool r7))<|trivial)
    exact bN qi6 call93 func93 (c:=qjp) rfl (aI (ah a) (aI (ah a2) trivial)) z<|by kernel_rfl
   ·obtain rfl:=lf h
    have z:=p6<|sg 20 c5<|en (aI (rP (.bool false))<|trivial)
    exact bN qi6 call93 func93 (c:=qjp) rfl (aI (ah a) (aI (ah a2) trivial)) z<|by kernel_rfl
  ·obtain rfl:=lf h
   have z:=p4<|sg 13 c3<|en (aI (rP (.bool false))<|trivial)
   exact bN qi6 call93 func93 (c:=qjp) rfl (aI (ah a) (aI (ah a2) trivial)) z<|by kernel_rfl
 ·obtain rfl:=lf h
  have z:=p2<|sg 6 c1<|en (aI (rP (.bool false))<|trivial)
  exact bN qi6 call93 func93 (c:=qjp) rfl (aI (ah a) (aI (ah a2) trivial)) z<|by kernel_rfl
def Fi:((aa×aa)->Option Bool)->(aa×aa)->Option Bool:=fun(rec:(aa×aa)->Option Bool) (x:aa×aa)=>y6 (fun a a2=>rec (a,a2)) x.1 x.2
def jZ(a:aa)(a2:aa):Option Bool:=kJ Fi (a,a2)
theorem rC{a:aa}{a2:aa}{r:Bool}(h:jZ a a2=some r):CC Pg GE 93 [.agg (ac a),.agg (ac a2)] (.bool r) []:=
 cy (F:=Fi) (M:=fun(x:aa×aa) (r:Bool)=>CC Pg GE 93 [.agg (ac x.1),.agg (ac x.2)] (.bool r) []) (fun rec hrec x r h=>SH _ (fun a a2 r h=>hrec (a,a2) r h) h) h
noncomputable def qlu:Code:=f69.body.getD .skip
def qle:List Nat:=[]
def CJ(p:aa):Option Bool:=
 (jZ p (⟨0,([]:ag),0,([]:List aa)⟩:aa)).bind fun r1=>
 some r1
theorem N0{p:aa}{r:Bool}(h:CJ p=some r):CC Pg GE 69 [.agg (ac p)] (.bool r) []:=by
 obtain⟨r1,br1,h⟩:=ay h
 obtain rfl:=lf h
 have z:=se (bS p)<|sv (bh p)<|sb (sP) (sO)<|bz (rC br1)<|en (aI (rP (.bool r1))<|trivial)
 exact bN qle call69 func69 (c:=qlu) rfl (aI (ah p) trivial) z<|by kernel_rfl
noncomputable def qlv:Code:=f70.body.getD .skip
def qlf:List Nat:=[]
def xT(p:aa)(name:ag)(a:aa):Option aa:=
 (lH p ([name]:List ag) ([a]:List aa)).bind fun r1=>
 some r1
theorem Hl{p:aa}{name:ag}{a:aa}{r:aa}(h:xT p name a=some r):CC Pg GE 70 [.agg (ac p),.str name,.agg (ac a)] (.agg (ac r)) [(3,36)]:=by
 obtain⟨r1,br1,h⟩:=ay h
 obtain rfl:=lf h
 have z:=se (bS p)<|se (bS a)<|sx hO<|sv (bh p)<|sv (bp.mk' (v:=PVal.str) E8 ([name]:List ag) 1 (by kernel_rfl))<|sv (bh a)<|sv (bL.mk' (v:=dW) cK ([a]:List aa) 1 (by kernel_rfl))<|bz (nE br1)<|sy (aJ r1)<|en (aI (dj r1)<|aI (ah r1)<|rT)
 exact bN qlf call70 func70 (c:=qlv) rfl (aI (ah p) (aI trivial (aI (ah a) trivial))) z<|by kernel_rfl
noncomputable def qjX:Code:=f46.body.getD .skip
def qi0:List Nat:=[]
section
variable(t:ae)(v:aa)(m:waB)
def NY:aA:=be 18 [(2,.eptr (af t)),(3,.eptr (ac v)),(4,.bptr 2 0)] [.dead,.dead,.cells [.int .i64 0,.str ([]:ag),.int .i64 0,sl ac m] [(3,36)]] []
def u4(o:Bool):aA:=be 18 [(2,.eptr (af t)),(3,.eptr (ac v)),(4,.bptr 2 0),(12,.bool o)] [.dead,.dead,.cells [.int .i64 0,.str ([]:ag),.int .i64 0,sl ac m] [(3,36)]] []
def Ae:Option Bool:=
 if(t.Op==6)=true then
  some true
 else
  (CJ t.Pred).bind fun r3=>
  some r3
theorem L0{x:Bool}(h:Ae t=some x):aU Pg GE 0 (cA qjX 12) (EX .normal (u4 t v m x)) (NY t v m):=by
 have p2:=fun{sc F} (r:PS sc F)=>sv (aC t)<|sv (aD t)<|r
 rcases bj h with⟨c1,h⟩|⟨c1,h⟩
 ·obtain rfl:=lf h
  exact cd qi0 (p2<|sg 4 c1<|eF .normal (u4 t v m true))<|by kernel_rfl
 ·obtain⟨r3,br3,h⟩:=ay h
  obtain rfl:=lf h
  exact cd qi0 (p2<|sg 4 c1<|sv (dE t)<|sv (dF t)<|bz (N0 br3)<|eF .normal (u4 t v m r3))<|by kernel_rfl
end
def te(t:ae)(a:aa):Option aa:=
 (Ae t).bind fun o4=>
 if o4=true then
  some (⟨2,([]:ag),1,([]:List aa)⟩:aa)
 else
  (xT t.Pred ([118]:ag) a).bind fun r7=>
  some r7
theorem Af{t:ae}{a:aa}{r:aa}(h:te t a=some r):CC Pg GE 46 [.agg (af t),.agg (ac a)] (.agg (ac r)) [(3,36)]:=by
 obtain⟨o4,bo4,h⟩:=ay h
 have p6:=fun{sc F} (r:PS sc F)=>se (bD t)<|se (bS a)<|sx hO<|kr 1<|cW (L0 t a ([]:List aa) bo4)<|r
 rcases bj h with⟨c5,h⟩|⟨c5,h⟩
 ·obtain rfl:=lf h
  have z:=p6<|sg 0 c5<|sb (ri 2 1) (rh 2 1)<|sy (aJ (⟨2,([]:ag),1,([]:List aa)⟩:aa))<|en (aI (dj (⟨2,([]:ag),1,([]:List aa)⟩:aa))<|aI (ah (⟨2,([]:ag),1,([]:List aa)⟩:aa))<|rT)
  exact bN qi0 call46 func46 (c:=qjX) rfl (aI (ak t) (aI (ah a) trivial)) z<|by kernel_rfl
 ·obtain⟨r7,br7,h⟩:=ay h
  obtain rfl:=lf h
  have z:=p6<|sg 0 c5<|sv (dE t)<|sv (dF t)<|sv (bh a)<|bz (Hl br7)<|sy (aJ r7)<|en (aI (dj r7)<|aI (ah r7)<|rT)
  exact bN qi0 call46 func46 (c:=qjX) rfl (aI (ak t) (aI (ah a) trivial)) z<|by kernel_rfl
noncomputable def qkK:Code:=f25.body.getD .skip
def qkB:List Nat:=[]
def wk(t:ae)(name:ag)(c:ai):Option ai:=
 (kv t).bind fun r1=>
 if(!r1)=true then
  some c
 else
  (zf t).bind fun r4=>
  (Gm r4).bind fun r5=>
  (te t (⟨3,name,0,([]:List aa)⟩:aa)).bind fun r6=>
  some (⟨2,name,r5.1,r6,0,([c]:List ai)⟩:ai)
theorem N4{t:ae}{name:ag}{c:ai}{r:ai}(h:wk t name c=some r):CC Pg GE 25 [.agg (af t),.str name,.agg (aw c)] (.agg (aw r)) []:=by
 obtain⟨r1,br1,h⟩:=ay h
 have p3:=fun{sc F} (r:PS sc F)=>se (bD t)<|se (rz c)<|sx td<|sv (aV t)<|bz (pK br1)<|r
 rcases bj h with⟨c2,h⟩|⟨c2,h⟩
 ·obtain rfl:=lf h
  have z:=p3<|sg 0 c2<|sv (iZ c)<|sx (cF c)<|en (aI (cM c)<|(ba c))
  exact bN qkB call25 func25 (c:=qkK) rfl (aI (ak t) (aI trivial (aI (ba c) trivial))) z<|by kernel_rfl
 ·obtain⟨r4,br4,h⟩:=ay h
  obtain⟨r5,br5,h⟩:=ay h
  obtain⟨r6,br6,h⟩:=ay h
  obtain rfl:=lf h
  have z:=p3<|sg 0 c2<|sv (aV t)<|bz (Fx br4)<|bz (Rd br5)<|lY [0,0,0,0,8,28,0,64,255,511]<|sv (aV t)<|sb (kj 3 name) (kh 3 name)<|bz (Af br6)<|sv (iZ c)<|sv (mX.mk' (v:=lZ) g9 ([c]:List ai) 1 (by kernel_rfl))<|sv (ki 2 name r5.1 r6 ([c]:List ai))<|sx (cF (⟨2,name,r5.1,r6,0,([c]:List ai)⟩:ai))<|en (aI (cM (⟨2,name,r5.1,r6,0,([c]:List ai)⟩:ai))<|(ba (⟨2,name,r5.1,r6,0,([c]:List ai)⟩:ai)))
  exact bN qkB call25 func25 (c:=qkK) rfl (aI (ak t) (aI trivial (aI (ba c) trivial))) z<|by kernel_rfl
abbrev nx:=(waD->Option ai)
abbrev su(R:nx):Prop:=∀(a:waD) (r:ai),R a=some r->CC Pg GE 42 [sl aw a] (.agg (aw r)) [(6,36),(8,50)]
abbrev jx:=(ai->Option ai)
abbrev nK(R:jx):Prop:=∀(c:ai) (r:ai),R c=some r->CC Pg GE 67 [.agg (aw c)] (.agg (aw r)) [(6,36),(8,50)]
noncomputable def qj3:Code:=f67.body.getD .skip
def qjH:List Nat:=[20]
section
variable(R82:jx)(t13:waD)(t14:Int)(m:waB)(m2:waD)(m3:Int)(m4:ag)(m5:ag)(m6:Int)(m7:ag)(m8:Int)(m9:waB)(m10:Int)(t15:Int)(m11:waD)
def eZ:aA:=be 28 [(2,.bptr 1 0),(3,.bptr 2 0),(13,sl aw t13),(14,.int .i64 t14),(15,.int .i64 t15)] [.dead,.cells [.int .i64 0,.str ([]:ag),.str ([]:ag),.int .i64 0,.str ([]:ag),.int .i64 0,sl ac m,.int .i64 0,sl aw m2] [(6,36),(8,50)],.cells [.int .i64 m3,.str m4,.str m5,.int .i64 m6,.str m7,.int .i64 m8,sl ac m9,.int .i64 m10,sl aw m11] [(8,50),(6,36)]] []
def kl(o:waD):aA:=be 28 [(2,.bptr 1 0),(3,.bptr 2 0)] [.dead,.cells [.int .i64 0,.str ([]:ag),.str ([]:ag),.int .i64 0,.str ([]:ag),.int .i64 0,sl ac m,.int .i64 0,sl aw m2] [(6,36),(8,50)],.cells [.int .i64 m3,.str m4,.str m5,.int .i64 m6,.str m7,.int .i64 m8,sl ac m9,.int .i64 m10,sl aw o] [(8,50),(6,36)]] []
def rn:Option ((Int×waD)⊕(waD)):=
 if(decide (t15<t14))=true then
  (cz t13 t15).bind fun x3=>
  (R82 x3).bind fun r4=>
  (app m11 ([r4]:List ai)).bind fun l5=>
  some (.inl (aR (t15+1),l5))
 else
  some (.inr m11)
def mJ:Option waD:=loop (fun(zz:Int×waD)=>rn R82 t13 t14 zz.1 zz.2) (t15,m11)
theorem zS(hR82:nK R82){y:(Int×waD)⊕(waD)}(h:rn R82 t13 t14 t15 m11=some y):aU Pg GE 0 (cA qj3 503) (LQ (fun(zz:Int×waD)=>eZ t13 t14 m m2 m3 m4 m5 m6 m7 m8 m9 m10 zz.1 zz.2) (fun _=>.exit 0) (kl m m2 m3 m4 m5 m6 m7 m8 m9 m10) y) (eZ t13 t14 m m2 m3 m4 m5 m6 m7 m8 m9 m10 t15 m11):=by
 rcases bj h with⟨c2,h⟩|⟨c2,h⟩
 ·obtain⟨x3,bx3,h⟩:=ay h
  obtain⟨r4,br4,h⟩:=ay h
  obtain⟨l5,bl5,h⟩:=ay h
  obtain rfl:=lf h
  have z:=sg 0 c2<|sv (mX.ia (k:=.i64) bx3)<|sv (iZ x3)<|sx td<|sx (cF x3)<|lY [0,1,0,4,12,31,63,127]<|sv (eM x3 [])<|bz (hR82 _ _ br4)<|sv (mX.mk' (v:=lZ) g9 ([r4]:List ai) 1 (by kernel_rfl))<|sv (mX.ap bl5)<|VP (rfl:bK (sl aw l5)=some [sl aw l5])<|uz 0 .normal (eZ t13 t14 m m2 m3 m4 m5 m6 m7 m8 m9 m10 (aR (t15+1)) l5) rfl (dC (aI (cV rfl) (aI (cV rfl) (aI (up (aj ba t13)) (aI trivial (aI trivial trivial)))))) (aI trivial (aI (aI trivial (aI trivial (aI trivial (aI trivial (aI trivial (aI trivial (aI (up (aj ah m)) (aI trivial (aI (up (aj ba m2)) trivial))))))))) (aI (aI trivial (aI trivial (aI trivial (aI trivial (aI trivial (aI trivial (aI (up (aj ah m9)) (aI trivial (aI (up (aj ba l5)) trivial))))))))) trivial)))
  exact df (A:=qjH) mixed z<|by kernel_rfl
 ·obtain rfl:=lf h
  have z:=sg 0 c2<|eF (.exit 0) (kl m m2 m3 m4 m5 m6 m7 m8 m9 m10 m11)
  exact f6 qjH (by intro hx;cases hx) z<|by kernel_rfl
theorem AF(hR82:nK R82){x:waD}(h:mJ R82 t13 t14 t15 m11=some x):aU Pg GE 0 (.loop (cA qj3 503)) (EX (.exit 0) (kl m m2 m3 m4 m5 m6 m7 m8 m9 m10 x)) (eZ t13 t14 m m2 m3 m4 m5 m6 m7 m8 m9 m10 t15 m11):=
 aU.loop (S:=fun(zz:Int×waD)=>eZ t13 t14 m m2 m3 m4 m5 m6 m7 m8 m9 m10 zz.1 zz.2) (ex:=(fun _=>.exit 0)) (s:=(t15,m11)) h fun zz y hy=>zS R82 t13 t14 m m2 m3 m4 m5 m6 m7 m8 m9 m10 zz.1 zz.2 hR82 hy
end
def jz(R82:jx)(c:ai):Option ai:=
 (lH c.Pred ([]:List ag) ([]:List aa)).bind fun r1=>
 (mJ R82 c.Kids (c.Kids.length:Int) 0 ([]:List ai)).bind fun o6=>
 some (⟨c.Op,c.Name,c.Sort_,r1,c.Tag,o6⟩:ai)
theorem Di(R82:jx)(hR82:nK R82){c:ai}{r:ai}(h:jz R82 c=some r):CC Pg GE 67 [.agg (aw c)] (.agg (aw r)) [(6,36),(8,50)]:=by
 obtain⟨r1,br1,h⟩:=ay h
 obtain⟨o6,bo6,h⟩:=ay h
 obtain rfl:=lf h
 have z:=se (rz c)<|sx td<|sv (iZ c)<|sx td<|sx (cF c)<|sv (oZ c)<|sv (pg c)<|bz (nE br1)<|sy (aJ r1)<|qhx (.ar 0 50 0 [])<|sv (jh c)<|sv (jj c)<|cm (mX.ln c.Kids)<|cW (AF R82 c.Kids (c.Kids.length:Int) ([]:List aa) ([]:List ai) c.Op c.Name c.Sort_ r1.Op r1.Name r1.N r1.Kids c.Tag 0 ([]:List ai) hR82 bo6)<|sz (eM (⟨c.Op,c.Name,c.Sort_,r1,c.Tag,o6⟩:ai) [])<|sy (cb (⟨c.Op,c.Name,c.Sort_,r1,c.Tag,o6⟩:ai))<|en (aI (cM (⟨c.Op,c.Name,c.Sort_,r1,c.Tag,o6⟩:ai))<|aI (ba (⟨c.Op,c.Name,c.Sort_,r1,c.Tag,o6⟩:ai))<|rT)
 exact bN qjH call67 func67 (c:=qj3) rfl (aI (ba c) trivial) z<|by kernel_rfl
def nW:(ai->Option ai)->(ai)->Option ai:=fun(rec:ai->Option ai) (x:ai)=>jz (fun c=>rec c) x
def lV(c:ai):Option ai:=kJ nW c
theorem ES{c:ai}{r:ai}(h:lV c=some r):CC Pg GE 67 [.agg (aw c)] (.agg (aw r)) [(6,36),(8,50)]:=
 cy (F:=nW) (M:=fun(x:ai) (r:ai)=>CC Pg GE 67 [.agg (aw x)] (.agg (aw r)) [(6,36),(8,50)]) (fun rec hrec x r h=>Di _ (fun c r h=>hrec c r h) h) h
noncomputable def qje:Code:=f42.body.getD .skip
def qhd:List Nat:=[22,29]
section
variable(t7:waD)(t8:Int)(t9:Int)(m:waB)(m2:waD)(m3:waD)(m4:Int)(m5:ag)(m6:ag)(m7:Int)(m8:ag)(m9:Int)(m10:waB)(m11:Int)(m12:waD)
def GA:aA:=be 38 [(2,.bptr 0 0),(3,.bptr 1 0),(5,.bptr 2 0),(7,sl aw t7),(8,.int .i64 t8),(9,.int .i64 t9)] [.cells [.int .i64 0,.str ([]:ag),.str ([]:ag),.int .i64 0,.str ([]:ag),.int .i64 0,sl ac m,.int .i64 0,sl aw m2] [(6,36),(8,50)],.cells [.int .i64 1,.str ([]:ag),.str ([]:ag),.int .i64 0,.str ([]:ag),.int .i64 0,sl ac m,.int .i64 0,sl aw m3] [(6,36),(8,50)],.cells [.int .i64 m4,.str m5,.str m6,.int .i64 m7,.str m8,.int .i64 m9,sl ac m10,.int .i64 m11,sl aw m12] []] []
def nU(o:Bool):aA:=be 38 [(2,.bptr 0 0),(3,.bptr 1 0),(5,.bptr 2 0),(7,sl aw t7),(8,.int .i64 t8),(9,.int .i64 t9),(20,.bool o)] [.cells [.int .i64 0,.str ([]:ag),.str ([]:ag),.int .i64 0,.str ([]:ag),.int .i64 0,sl ac m,.int .i64 0,sl aw m2] [(6,36),(8,50)],.cells [.int .i64 1,.str ([]:ag),.str ([]:ag),.int .i64 0,.str ([]:ag),.int .i64 0,sl ac m,.int .i64 0,sl aw m3] [(6,36),(8,50)],.cells [.int .i64 m4,.str m5,.str m6,.int .i64 m7,.str m8,.int .i64 m9,sl ac m10,.int .i64 m11,sl aw m12] []] []
def lU:Option Bool:=
 if(m4==2)=true then
  some true
 else
  some (m4==3)
theorem EQ{x:Bool}(h:lU m4=some x):aU Pg GE 0 (cA qje 7670) (EX .normal (nU t7 t8 t9 m m2 m3 m4 m5 m6 m7 m8 m9 m10 m11 m12 x)) (GA t7 t8 t9 m m2 m3 m4 m5 m6 m7 m8 m9 m10 m11 m12):=by
 rcases bj h with⟨c3,h⟩|⟨c3,h⟩
 ·obtain rfl:=lf h
  exact cd qhd (ss<|sg 4 c3<|eF .normal (nU t7 t8 t9 m m2 m3 m4 m5 m6 m7 m8 m9 m10 m11 m12 true))<|by kernel_rfl
 ·obtain rfl:=lf h
  exact cd qhd (ss<|sg 4 c3<|ss<|eF .normal (nU t7 t8 t9 m m2 m3 m4 m5 m6 m7 m8 m9 m10 m11 m12 (m4==3)))<|by kernel_rfl
end
section
variable(R81:nx)(t7:waD)(t8:Int)(m:waB)(m2:waD)(t9:Int)(m3:waD)
def fl:aA:=be 38 [(2,.bptr 0 0),(3,.bptr 1 0),(7,sl aw t7),(8,.int .i64 t8),(9,.int .i64 t9)] [.cells [.int .i64 0,.str ([]:ag),.str ([]:ag),.int .i64 0,.str ([]:ag),.int .i64 0,sl ac m,.int .i64 0,sl aw m2] [(6,36),(8,50)],.cells [.int .i64 1,.str ([]:ag),.str ([]:ag),.int .i64 0,.str ([]:ag),.int .i64 0,sl ac m,.int .i64 0,sl aw m3] [(6,36),(8,50)]] []
def nV(o:waD):aA:=be 38 [(2,.bptr 0 0),(3,.bptr 1 0)] [.cells [.int .i64 0,.str ([]:ag),.str ([]:ag),.int .i64 0,.str ([]:ag),.int .i64 0,sl ac m,.int .i64 0,sl aw m2] [(6,36),(8,50)],.cells [.int .i64 1,.str ([]:ag),.str ([]:ag),.int .i64 0,.str ([]:ag),.int .i64 0,sl ac m,.int .i64 0,sl aw o] [(6,36),(8,50)]] []
def vo:Option ((Int×waD)⊕(waD)):=
 if(decide (t9<t8))=true then
  (cz t7 t9).bind fun x2=>
  (lU x2.Op).bind fun o4=>
  if o4=true then
   (lV x2).bind fun r7=>
   (app m3 ([r7]:List ai)).bind fun l8=>
   some (.inl (aR (t9+1),l8))
  else
   (R81 x2.Kids).bind fun r9=>
   (app m3 r9.Kids).bind fun l10=>
   some (.inl (aR (t9+1),l10))
 else
  some (.inr m3)
def rm:Option waD:=loop (fun(zz:Int×waD)=>vo R81 t7 t8 zz.1 zz.2) (t9,m3)
theorem Dh(hR81:su R81){y:(Int×waD)⊕(waD)}(h:vo R81 t7 t8 t9 m3=some y):aU Pg GE 0 (cA qje 119) (LQ (fun(zz:Int×waD)=>fl t7 t8 m m2 zz.1 zz.2) (fun _=>.exit 0) (nV m m2) y) (fl t7 t8 m m2 t9 m3):=by
 rcases bj h with⟨c1,h⟩|⟨c1,h⟩
 ·obtain⟨x2,bx2,h⟩:=ay h
  obtain⟨o4,bo4,h⟩:=ay h
  have p6:=fun{sc F} (r:PS sc F)=>sg 0 c1<|sv (mX.ia (k:=.i64) bx2)<|sv (iZ x2)<|sx td<|sx (cF x2)<|kr 0<|cW (EQ t7 t8 t9 m m2 m3 x2.Op x2.Name x2.Sort_ x2.Pred.Op x2.Pred.Name x2.Pred.N x2.Pred.Kids x2.Tag x2.Kids bo4)<|r
  rcases bj h with⟨c5,h⟩|⟨c5,h⟩
  ·obtain⟨r7,br7,h⟩:=ay h
   obtain⟨l8,bl8,h⟩:=ay h
   obtain rfl:=lf h
   have z:=p6<|sg 0 c5<|lY [0,1,0,4,12,31,63,127]<|sv (eM x2 [])<|bz (ES br7)<|sv (mX.mk' (v:=lZ) g9 ([r7]:List ai) 1 (by kernel_rfl))<|sv (mX.ap bl8)<|VP (rfl:bK (sl aw l8)=some [sl aw l8])<|uz 0 .normal (fl t7 t8 m m2 (aR (t9+1)) l8) rfl (dC (aI (cV rfl) (aI (cV rfl) (aI (up (aj ba t7)) (aI trivial (aI trivial trivial)))))) (aI (aI trivial (aI trivial (aI trivial (aI trivial (aI trivial (aI trivial (aI (up (aj ah m)) (aI trivial (aI (up (aj ba m2)) trivial))))))))) (aI (aI trivial (aI trivial (aI trivial (aI trivial (aI trivial (aI trivial (aI (up (aj ah m)) (aI trivial (aI (up (aj ba l8)) trivial))))))))) trivial))
   exact df (A:=qhd) mixed z<|by kernel_rfl
  ·obtain⟨r9,br9,h⟩:=ay h
   obtain⟨l10,bl10,h⟩:=ay h
   obtain rfl:=lf h
   have z:=p6<|sg 0 c5<|lY [0,1,0,4,12,28,63,127,255]<|ss<|bz (hR81 _ _ br9)<|sv (P3 r9)<|sv (mX.ap bl10)<|VP (rfl:bK (sl aw l10)=some [sl aw l10])<|uz 0 .normal (fl t7 t8 m m2 (aR (t9+1)) l10) rfl (dC (aI (cV rfl) (aI (cV rfl) (aI (up (aj ba t7)) (aI trivial (aI trivial trivial)))))) (aI (aI trivial (aI trivial (aI trivial (aI trivial (aI trivial (aI trivial (aI (up (aj ah m)) (aI trivial (aI (up (aj ba m2)) trivial))))))))) (aI (aI trivial (aI trivial (aI trivial (aI trivial (aI trivial (aI trivial (aI (up (aj ah m)) (aI trivial (aI (up (aj ba l10)) trivial))))))))) trivial))
   exact df (A:=qhd) mixed z<|by kernel_rfl
 ·obtain rfl:=lf h
  have z:=sg 0 c1<|eF (.exit 0) (nV m m2 m3)
  exact f6 qhd (by intro hx;cases hx) z<|by kernel_rfl
theorem ER(hR81:su R81){x:waD}(h:rm R81 t7 t8 t9 m3=some x):aU Pg GE 0 (.loop (cA qje 119)) (EX (.exit 0) (nV m m2 x)) (fl t7 t8 m m2 t9 m3):=
 aU.loop (S:=fun(zz:Int×waD)=>fl t7 t8 m m2 zz.1 zz.2) (ex:=(fun _=>.exit 0)) (s:=(t9,m3)) h fun zz y hy=>Dh R81 t7 t8 m m2 zz.1 zz.2 hR81 hy
end
def nA(R81:nx)(a:waD):Option ai:=
 (rm R81 a (a.length:Int) 0 ([]:List ai)).bind fun o11=>
 some (⟨1,([]:ag),([]:ag),(⟨0,([]:ag),0,([]:List aa)⟩:aa),0,o11⟩:ai)
theorem H6(R81:nx)(hR81:su R81){a:waD}{r:ai}(h:nA R81 a=some r):CC Pg GE 42 [sl aw a] (.agg (aw r)) [(6,36),(8,50)]:=by
 obtain⟨o11,bo11,h⟩:=ay h
 obtain rfl:=lf h
 have z:=sx td<|sb (xz 1) (xx 1)<|sx td<|sy (cb (⟨1,([]:ag),([]:ag),(⟨0,([]:ag),0,([]:List aa)⟩:aa),0,([]:List ai)⟩:ai))<|cm (mX.ln a)<|cW (ER R81 a (a.length:Int) ([]:List aa) ([]:List ai) 0 ([]:List ai) hR81 bo11)<|sz (eM (⟨1,([]:ag),([]:ag),(⟨0,([]:ag),0,([]:List aa)⟩:aa),0,o11⟩:ai) [])<|sy (cb (⟨1,([]:ag),([]:ag),(⟨0,([]:ag),0,([]:List aa)⟩:aa),0,o11⟩:ai))<|en (aI (cM (⟨1,([]:ag),([]:ag),(⟨0,([]:ag),0,([]:List aa)⟩:aa),0,o11⟩:ai))<|aI (ba (⟨1,([]:ag),([]:ag),(⟨0,([]:ag),0,([]:List aa)⟩:aa),0,o11⟩:ai))<|rT)
 exact bN qhd call42 func42 (c:=qje) rfl (aI (aj ba a) trivial) z<|by kernel_rfl
def sR:(waD->Option ai)->(waD)->Option ai:=fun(rec:waD->Option ai) (x:waD)=>nA (fun a=>rec a) x
def rl(a:waD):Option ai:=kJ sR a
theorem yP{a:waD}{r:ai}(h:rl a=some r):CC Pg GE 42 [sl aw a] (.agg (aw r)) [(6,36),(8,50)]:=
 cy (F:=sR) (M:=fun(x:waD) (r:ai)=>CC Pg GE 42 [sl aw x] (.agg (aw r)) [(6,36),(8,50)]) (fun rec hrec x r h=>H6 _ (fun a r h=>hrec a r h) h) h
noncomputable def qfC:Code:=f54.body.getD .skip
def qeo:List Nat:=[36,57,72,76]
section
variable(used:waA)(w:aY)(v:ae)(v2:ae)(n:Int)(left:waC)(right:waC)(v3:waA)(v4:waA)(i:Int)(m:waB)(m2:waD)
def vd:aA:=be 138 [(3,sl cS used),(4,.eptr (aW w)),(5,.eptr (af v)),(6,.eptr (af v2)),(8,.bptr 3 0),(9,.int .i64 n),(10,sl af left),(11,sl af right),(12,sl cS v3),(13,sl cS v4),(14,.int .i64 i),(15,.str ([120]:ag)),(33,.int .i64 n),(34,.int .i64 i)] [.dead,.dead,.dead,.cells [.int .i64 0,.str ([]:ag),.str ([]:ag),.int .i64 0,.str ([]:ag),.int .i64 0,sl ac m,.int .i64 0,sl aw m2] [(6,36),(8,50)]] [((13,0),9),((12,0),9)]
def gD(o:ag):aA:=be 138 [(3,sl cS used),(4,.eptr (aW w)),(5,.eptr (af v)),(6,.eptr (af v2)),(8,.bptr 3 0),(9,.int .i64 n),(10,sl af left),(11,sl af right),(12,sl cS v3),(13,sl cS v4),(14,.int .i64 i),(15,.str o),(33,.int .i64 n),(34,.int .i64 i)] [.dead,.dead,.dead,.cells [.int .i64 0,.str ([]:ag),.str ([]:ag),.int .i64 0,.str ([]:ag),.int .i64 0,sl ac m,.int .i64 0,sl aw m2] [(6,36),(8,50)]] [((13,0),9),((12,0),9)]
def fe:Option ag:=
 if(decide (i<(v2.Names.length:Int)))=true then
  (cz v2.Names i).bind fun x5=>
  some x5
 else
  some ([120]:ag)
theorem ur{x:ag}(h:fe v2 i=some x):aU Pg GE 0 (cA qfC 130030) (EX .normal (gD used w v v2 n left right v3 v4 i m m2 x)) (vd used w v v2 n left right v3 v4 i m m2):=by
 have p4:=fun{sc F} (r:PS sc F)=>sv (aO v2)<|sv (aP v2)<|cm (bp.ln v2.Names)<|r
 rcases bj h with⟨c3,h⟩|⟨c3,h⟩
 ·obtain⟨x5,bx5,h⟩:=ay h
  obtain rfl:=lf h
  exact cd qeo (p4<|sg 0 c3<|sv (aO v2)<|sv (aP v2)<|sv (bp.ia (k:=.i64) bx5)<|sv (dH Ba (.str x5) [])<|eF .normal (gD used w v v2 n left right v3 v4 i m m2 x5))<|by kernel_rfl
 ·obtain rfl:=lf h
  exact cd qeo (p4<|sg 0 c3<|eF .normal (gD used w v v2 n left right v3 v4 i m m2 ([120]:ag)))<|by kernel_rfl
end
section
variable(used:waA)(w:aY)(v:ae)(v2:ae)(n:Int)(left:waC)(right:waC)(v3:waA)(v4:waA)(i:Int)(name:ag)(t51:waC)(t52:Int)(m:waB)(m2:waD)(taken:waA)(t53:Int)
def dM:aA:=be 138 [(3,sl cS used),(4,.eptr (aW w)),(5,.eptr (af v)),(6,.eptr (af v2)),(8,.bptr 3 0),(9,.int .i64 n),(10,sl af left),(11,sl af right),(12,sl cS v3),(13,sl cS v4),(14,.int .i64 i),(15,.str name),(16,sl cS taken),(33,.int .i64 n),(34,.int .i64 i),(51,sl af t51),(52,.int .i64 t52),(53,.int .i64 t53)] [.dead,.dead,.dead,.cells [.int .i64 0,.str ([]:ag),.str ([]:ag),.int .i64 0,.str ([]:ag),.int .i64 0,sl ac m,.int .i64 0,sl aw m2] [(6,36),(8,50)]] [((51,0),38),((16,0),9),((13,0),9),((12,0),9)]
def gG(o:waA):aA:=be 138 [(3,sl cS used),(4,.eptr (aW w)),(5,.eptr (af v)),(6,.eptr (af v2)),(8,.bptr 3 0),(9,.int .i64 n),(10,sl af left),(11,sl af right),(12,sl cS v3),(13,sl cS v4),(14,.int .i64 i),(15,.str name),(16,sl cS o),(33,.int .i64 n),(34,.int .i64 i)] [.dead,.dead,.dead,.cells [.int .i64 0,.str ([]:ag),.str ([]:ag),.int .i64 0,.str ([]:ag),.int .i64 0,sl ac m,.int .i64 0,sl aw m2] [(6,36),(8,50)]] [((16,0),9),((13,0),9),((12,0),9)]
def cf:Option ((waA×Int)⊕(waA)):=
 if(decide (t53<t52))=true then
  (cz t51 t53).bind fun x9=>
  (N2 x9.Names (some (if(x9.Names.length:Int)<(aR (i+1))then(x9.Names.length:Int)else aR (i+1))) none).bind fun l10=>
  (app taken l10).bind fun l11=>
  some (.inl (l11,aR (t53+1)))
 else
  some (.inr taken)
def fg:Option waA:=loop (fun(zz:waA×Int)=>cf i t51 t52 zz.1 zz.2) (taken,t53)
theorem tj{y:(waA×Int)⊕(waA)}(h:cf i t51 t52 taken t53=some y):aU Pg GE 0 (cA qfC 4161015) (LQ (fun(zz:waA×Int)=>dM used w v v2 n left right v3 v4 i name t51 t52 m m2 zz.1 zz.2) (fun _=>.exit 2) (gG used w v v2 n left right v3 v4 i name m m2) y) (dM used w v v2 n left right v3 v4 i name t51 t52 m m2 taken t53):=by
 rcases bj h with⟨c8,h⟩|⟨c8,h⟩
 ·obtain⟨x9,bx9,h⟩:=ay h
  obtain⟨l10,bl10,h⟩:=ay h
  obtain⟨l11,bl11,h⟩:=ay h
  obtain rfl:=lf h
  have z:=sg 0 c8<|sv (ck.ia (k:=.i64) bx9)<|sv (aV x9)<|sx tc<|sx (ey x9)<|ss<|ss<|cm (bp.ln x9.Names)<|sv (bp.sc bl10)<|sv (bp.ap bl11)<|uz 0 .normal (dM used w v v2 n left right v3 v4 i name t51 t52 m m2 l11 (aR (t53+1))) rfl (dC (aI (up (aj dQ used)) (aI (ij (dn w)) (aI (ij (ak v)) (aI (ij (ak v2)) (aI (cV rfl) (aI trivial (aI (up (aj ak left)) (aI (up (aj ak right)) (aI (up (aj dQ v3)) (aI (up (aj dQ v4)) (aI trivial (aI trivial (aI (up (aj dQ l11)) (aI trivial (aI trivial (aI (up (aj ak t51)) (aI trivial (aI trivial trivial))))))))))))))))))) (aI trivial (aI trivial (aI trivial (aI (aI trivial (aI trivial (aI trivial (aI trivial (aI trivial (aI trivial (aI (up (aj ah m)) (aI trivial (aI (up (aj ba m2)) trivial))))))))) trivial))))
  exact df (A:=qeo) mixed z<|by kernel_rfl
 ·obtain rfl:=lf h
  have z:=sg 0 c8<|eF (.exit 2) (gG used w v v2 n left right v3 v4 i name m m2 taken)
  exact f6 qeo (by intro hx;cases hx) z<|by kernel_rfl
theorem uu{x:waA}(h:fg i t51 t52 taken t53=some x):aU Pg GE 0 (.loop (cA qfC 4161015)) (EX (.exit 2) (gG used w v v2 n left right v3 v4 i name m m2 x)) (dM used w v v2 n left right v3 v4 i name t51 t52 m m2 taken t53):=
 aU.loop (S:=fun(zz:waA×Int)=>dM used w v v2 n left right v3 v4 i name t51 t52 m m2 zz.1 zz.2) (ex:=(fun _=>.exit 2)) (s:=(taken,t53)) h fun zz y hy=>tj used w v v2 n left right v3 v4 i name t51 t52 m m2 zz.1 zz.2 hy
end
section
variable(used:waA)(w:aY)(v:ae)(v2:ae)(n:Int)(m:waB)(m2:waD)(left:waC)(right:waC)(v3:waA)(v4:waA)(t34:Int)
def dK:aA:=be 138 [(3,sl cS used),(4,.eptr (aW w)),(5,.eptr (af v)),(6,.eptr (af v2)),(8,.bptr 3 0),(9,.int .i64 n),(10,sl af left),(11,sl af right),(12,sl cS v3),(13,sl cS v4),(33,.int .i64 n),(34,.int .i64 t34)] [.dead,.dead,.dead,.cells [.int .i64 0,.str ([]:ag),.str ([]:ag),.int .i64 0,.str ([]:ag),.int .i64 0,sl ac m,.int .i64 0,sl aw m2] [(6,36),(8,50)]] [((13,0),9),((12,0),9)]
def gE(o:waC×waC×waA×waA):aA:=be 138 [(3,sl cS used),(4,.eptr (aW w)),(8,.bptr 3 0),(9,.int .i64 n),(10,sl af o.1),(11,sl af o.2.1),(12,sl cS o.2.2.1),(13,sl cS o.2.2.2)] [.dead,.dead,.dead,.cells [.int .i64 0,.str ([]:ag),.str ([]:ag),.int .i64 0,.str ([]:ag),.int .i64 0,sl ac m,.int .i64 0,sl aw m2] [(6,36),(8,50)]] [((13,0),9),((12,0),9)]
def dl:Option ((waC×waC×waA×waA×Int)⊕((waC×waC×waA×waA))):=
 if(decide (t34<n))=true then
  (fe v2 t34).bind fun o6=>
  (nS v4).bind fun r7=>
  (fg t34 ([v,v2]:List ae) (([v,v2]:List ae).length:Int) r7 0).bind fun o12=>
  (mR o12 o6).bind fun r13=>
  (app v4 ([r13]:List ag)).bind fun l14=>
  (app v3 ([r13]:List ag)).bind fun l15=>
  (j2 left v t34 r13).bind fun r16=>
  (j2 right v2 t34 r13).bind fun r17=>
  some (.inl (r16,r17,l15,l14,aR (t34+1)))
 else
  some (.inr (left,right,v3,v4))
def ff:Option ((waC×waC×waA×waA)):=loop (fun(zz:waC×waC×waA×waA×Int)=>dl v v2 n zz.1 zz.2.1 zz.2.2.1 zz.2.2.2.1 zz.2.2.2.2) (left,right,v3,v4,t34)
theorem ti{y:(waC×waC×waA×waA×Int)⊕((waC×waC×waA×waA))}(h:dl v v2 n left right v3 v4 t34=some y):aU Pg GE 0 (cA qfC 1015) (LQ (fun(zz:waC×waC×waA×waA×Int)=>dK used w v v2 n m m2 zz.1 zz.2.1 zz.2.2.1 zz.2.2.2.1 zz.2.2.2.2) (fun _=>.exit 0) (gE used w n m m2) y) (dK used w v v2 n m m2 left right v3 v4 t34):=by
 rcases bj h with⟨c2,h⟩|⟨c2,h⟩
 ·obtain⟨o6,bo6,h⟩:=ay h
  obtain⟨r7,br7,h⟩:=ay h
  obtain⟨o12,bo12,h⟩:=ay h
  obtain⟨r13,br13,h⟩:=ay h
  obtain⟨l14,bl14,h⟩:=ay h
  obtain⟨l15,bl15,h⟩:=ay h
  obtain⟨r16,br16,h⟩:=ay h
  obtain⟨r17,br17,h⟩:=ay h
  obtain rfl:=lf h
  exact n9 qeo (sg 0 c2<|kr 3<|cW (ur used w v v2 n left right v3 v4 t34 m m2 bo6)<|bz (H5 br7)<|sv (aV v)<|sv (aV v2)<|sv (ck.mk' (v:=jC) eO ([v,v2]:List ae) 2 (by kernel_rfl))<|cm (ck.ln ([v,v2]:List ae))<|cW (uu used w v v2 n left right v3 v4 t34 o6 ([v,v2]:List ae) (([v,v2]:List ae).length:Int) m m2 r7 0 bo12)<|bz (xM br13)<|sv (bp.mk' (v:=PVal.str) E8 ([r13]:List ag) 1 (by kernel_rfl))<|sv (bp.ap bl14)<|sv (bp.mk' (v:=PVal.str) E8 ([r13]:List ag) 1 (by kernel_rfl))<|sv (bp.ap bl15)<|lY [0,0,0,0,15,0,0,0,0,511,1023,2047]<|sv (aV v)<|bz (vC br16)<|sv (aV v2)<|bz (vC br17)<|eF .normal (dK used w v v2 n m m2 r16 r17 l15 l14 (aR (t34+1))))<|by kernel_rfl
 ·obtain rfl:=lf h
  have z:=sg 0 c2<|eF (.exit 0) (gE used w n m m2 (left,right,v3,v4))
  exact f6 qeo (by intro hx;cases hx) z<|by kernel_rfl
theorem ut{x:(waC×waC×waA×waA)}(h:ff v v2 n left right v3 v4 t34=some x):aU Pg GE 0 (.loop (cA qfC 1015)) (EX (.exit 0) (gE used w n m m2 x)) (dK used w v v2 n m m2 left right v3 v4 t34):=
 aU.loop (S:=fun(zz:waC×waC×waA×waA×Int)=>dK used w v v2 n m m2 zz.1 zz.2.1 zz.2.2.1 zz.2.2.2.1 zz.2.2.2.2) (ex:=(fun _=>.exit 0)) (s:=(left,right,v3,v4,t34)) h fun zz y hy=>ti used w v v2 n m m2 zz.1 zz.2.1 zz.2.2.1 zz.2.2.2.1 zz.2.2.2.2 hy
end
section
variable(R51:d4)(used:waA)(w:aY)(left:waC)(right:waC)(v:waA)(v2:waA)(m:waB)(m2:waD)(i:Int)(m3:Int)(m4:ag)(m5:ag)(m6:Int)(m7:ag)(m8:Int)(m9:waB)(m10:Int)(m11:waD)
def dN:aA:=be 138 [(3,sl cS used),(4,.eptr (aW w)),(8,.bptr 3 0),(10,sl af left),(11,sl af right),(12,sl cS v),(13,sl cS v2),(20,.bptr 4 0),(21,.int .i64 i)] [.dead,.dead,.dead,.cells [.int .i64 0,.str ([]:ag),.str ([]:ag),.int .i64 0,.str ([]:ag),.int .i64 0,sl ac m,.int .i64 0,sl aw m2] [(6,36),(8,50)],.cells [.int .i64 m3,.str m4,.str m5,.int .i64 m6,.str m7,.int .i64 m8,sl ac m9,.int .i64 m10,sl aw m11] []] [((13,0),9),((12,0),9)]
def gH(o:Int×ag×ag×Int×ag×Int×waB×Int×waD):aA:=be 138 [(8,.bptr 3 0),(20,.bptr 4 0)] [.dead,.dead,.dead,.cells [.int .i64 0,.str ([]:ag),.str ([]:ag),.int .i64 0,.str ([]:ag),.int .i64 0,sl ac m,.int .i64 0,sl aw m2] [(6,36),(8,50)],.cells [.int .i64 o.1,.str o.2.1,.str o.2.2.1,.int .i64 o.2.2.2.1,.str o.2.2.2.2.1,.int .i64 o.2.2.2.2.2.1,sl ac o.2.2.2.2.2.2.1,.int .i64 o.2.2.2.2.2.2.2.1,sl aw o.2.2.2.2.2.2.2.2] []] []
def ch:Option ((Int×Int×ag×ag×Int×ag×Int×waB×Int×waD)⊕((Int×ag×ag×Int×ag×Int×waB×Int×waD))):=
 if(decide (i>=0))=true then
  (N2 v2 none (some (aR ((used.length:Int)+i)))).bind fun l23=>
  (cz right i).bind fun x24=>
  (cz left i).bind fun x25=>
  (R51 w x24 x25 l23).bind fun r26=>
  (cz right i).bind fun x27=>
  (cz v i).bind fun x28=>
  (wk x27 x28 (⟨m3,m4,m5,(⟨m6,m7,m8,m9⟩:aa),m10,m11⟩:ai)).bind fun r29=>
  (rl ([r26,r29]:List ai)).bind fun r30=>
  some (.inl (aR (i - 1),r30.Op,r30.Name,r30.Sort_,r30.Pred.Op,r30.Pred.Name,r30.Pred.N,r30.Pred.Kids,r30.Tag,r30.Kids))
 else
  some (.inr (m3,m4,m5,m6,m7,m8,m9,m10,m11))
def it:Option ((Int×ag×ag×Int×ag×Int×waB×Int×waD)):=loop (fun(zz:Int×Int×ag×ag×Int×ag×Int×waB×Int×waD)=>ch R51 used w left right v v2 zz.1 zz.2.1 zz.2.2.1 zz.2.2.2.1 zz.2.2.2.2.1 zz.2.2.2.2.2.1 zz.2.2.2.2.2.2.1 zz.2.2.2.2.2.2.2.1 zz.2.2.2.2.2.2.2.2.1 zz.2.2.2.2.2.2.2.2.2) (i,m3,m4,m5,m6,m7,m8,m9,m10,m11)
theorem tk(hR51:iO R51){y:(Int×Int×ag×ag×Int×ag×Int×waB×Int×waD)⊕((Int×ag×ag×Int×ag×Int×waB×Int×waD))}(h:ch R51 used w left right v v2 i m3 m4 m5 m6 m7 m8 m9 m10 m11=some y):aU Pg GE 0 (cA qfC 4087) (LQ (fun(zz:Int×Int×ag×ag×Int×ag×Int×waB×Int×waD)=>dN used w left right v v2 m m2 zz.1 zz.2.1 zz.2.2.1 zz.2.2.2.1 zz.2.2.2.2.1 zz.2.2.2.2.2.1 zz.2.2.2.2.2.2.1 zz.2.2.2.2.2.2.2.1 zz.2.2.2.2.2.2.2.2.1 zz.2.2.2.2.2.2.2.2.2) (fun _=>.exit 4) (gH m m2) y) (dN used w left right v v2 m m2 i m3 m4 m5 m6 m7 m8 m9 m10 m11):=by
 rcases bj h with⟨c22,h⟩|⟨c22,h⟩
 ·obtain⟨l23,bl23,h⟩:=ay h
  obtain⟨x24,bx24,h⟩:=ay h
  obtain⟨x25,bx25,h⟩:=ay h
  obtain⟨r26,br26,h⟩:=ay h
  obtain⟨x27,bx27,h⟩:=ay h
  obtain⟨x28,bx28,h⟩:=ay h
  obtain⟨r29,br29,h⟩:=ay h
  obtain⟨r30,br30,h⟩:=ay h
  obtain rfl:=lf h
  exact n9 qeo (sg 0 c22<|cm (bp.ln used)<|sv (bp.sc bl23)<|lY [0,0,0,6,14,0,0,96,224,0,1023,0,0,6144,14336,0,0,98304,229376,0,1048575,2097151,4194303,8388607]<|sv (e9 w)<|sv (ck.ia (k:=.i64) bx24)<|sv (aV x24)<|sv (ck.ia (k:=.i64) bx25)<|sv (aV x25)<|bz (hR51 _ _ _ _ _ br26)<|sv (ck.ia (k:=.i64) bx27)<|sv (aV x27)<|sv (bp.ia (k:=.i64) bx28)<|sv (dH Ba (.str x28) [])<|sv (eM (⟨m3,m4,m5,(⟨m6,m7,m8,m9⟩:aa),m10,m11⟩:ai) [])<|bz (N4 br29)<|sv (mX.mk' (v:=lZ) g9 ([r26,r29]:List ai) 2 (by kernel_rfl))<|bz (yP br30)<|qb2 (cF r30)<|eF .normal (dN used w left right v v2 m m2 (aR (i - 1)) r30.Op r30.Name r30.Sort_ r30.Pred.Op r30.Pred.Name r30.Pred.N r30.Pred.Kids r30.Tag r30.Kids))<|by kernel_rfl
 ·obtain rfl:=lf h
  have z:=sg 0 c22<|eF (.exit 4) (gH m m2 (m3,m4,m5,m6,m7,m8,m9,m10,m11))
  exact f6 qeo (by intro hx;cases hx) z<|by kernel_rfl
theorem uv(hR51:iO R51){x:(Int×ag×ag×Int×ag×Int×waB×Int×waD)}(h:it R51 used w left right v v2 i m3 m4 m5 m6 m7 m8 m9 m10 m11=some x):aU Pg GE 0 (.loop (cA qfC 4087)) (EX (.exit 4) (gH m m2 x)) (dN used w left right v v2 m m2 i m3 m4 m5 m6 m7 m8 m9 m10 m11):=
 aU.loop (S:=fun(zz:Int×Int×ag×ag×Int×ag×Int×waB×Int×waD)=>dN used w left right v v2 m m2 zz.1 zz.2.1 zz.2.2.1 zz.2.2.2.1 zz.2.2.2.2.1 zz.2.2.2.2.2.1 zz.2.2.2.2.2.2.1 zz.2.2.2.2.2.2.2.1 zz.2.2.2.2.2.2.2.2.1 zz.2.2.2.2.2.2.2.2.2) (ex:=(fun _=>.exit 4)) (s:=(i,m3,m4,m5,m6,m7,m8,m9,m10,m11)) h fun zz y hy=>tk R51 used w left right v v2 m m2 zz.1 zz.2.1 zz.2.2.1 zz.2.2.2.1 zz.2.2.2.2.1 zz.2.2.2.2.2.1 zz.2.2.2.2.2.2.1 zz.2.2.2.2.2.2.2.1 zz.2.2.2.2.2.2.2.2.1 zz.2.2.2.2.2.2.2.2.2 hR51 hy
end
def gw(R51:d4)(w:aY)(a:ae)(a2:ae)(used:waA):Option ai:=
 (nS used).bind fun r1=>
 (ff a a2 (aR ((a2.Args.length:Int) - 1)) a.Args a2.Args ([]:List ag) r1 0).bind fun o18=>
 (cz o18.1 (aR ((a2.Args.length:Int) - 1))).bind fun x19=>
 (cz o18.2.1 (aR ((a2.Args.length:Int) - 1))).bind fun x20=>
 (R51 w x19 x20 o18.2.2.2).bind fun r21=>
 (it R51 used w o18.1 o18.2.1 o18.2.2.1 o18.2.2.2 (aR ((aR ((a2.Args.length:Int) - 1)) - 1)) r21.Op r21.Name r21.Sort_ r21.Pred.Op r21.Pred.Name r21.Pred.N r21.Pred.Kids r21.Tag r21.Kids).bind fun o31=>
 some (⟨o31.1,o31.2.1,o31.2.2.1,(⟨o31.2.2.2.1,o31.2.2.2.2.1,o31.2.2.2.2.2.1,o31.2.2.2.2.2.2.1⟩:aa),o31.2.2.2.2.2.2.2.1,o31.2.2.2.2.2.2.2.2⟩:ai)
theorem yb(R51:d4)(hR51:iO R51){w:aY}{a:ae}{a2:ae}{used:waA}{r:ai}(h:gw R51 w a a2 used=some r):CC Pg GE 54 [.agg (aW w),.agg (af a),.agg (af a2),sl cS used] (.agg (aw r)) []:=by
 obtain⟨r1,br1,h⟩:=ay h
 obtain⟨o18,bo18,h⟩:=ay h
 obtain⟨x19,bx19,h⟩:=ay h
 obtain⟨x20,bx20,h⟩:=ay h
 obtain⟨r21,br21,h⟩:=ay h
 obtain⟨o31,bo31,h⟩:=ay h
 obtain rfl:=lf h
 have z:=se (i6 w)<|se (bD a)<|se (bD a2)<|sx td<|sv (aK a2)<|sv (aL a2)<|cm (ck.ln a2.Args)<|lY [0,1,0,4,3,31]<|sv (aK a)<|sv (aL a)<|sv (aK a2)<|sv (aL a2)<|bz (H5 br1)<|cW (ut used w a a2 (aR ((a2.Args.length:Int) - 1)) ([]:List aa) ([]:List ai) a.Args a2.Args ([]:List ag) r1 0 bo18)<|lY [0,0,0,6,14,0,0,96,224,0,1023,0,4095]<|sv (e9 w)<|sv (ck.ia (k:=.i64) bx19)<|sv (aV x19)<|sv (ck.ia (k:=.i64) bx20)<|sv (aV x20)<|bz (hR51 _ _ _ _ _ br21)<|sx (cF r21)<|cW (uv R51 used w o18.1 o18.2.1 o18.2.2.1 o18.2.2.2 ([]:List aa) ([]:List ai) (aR ((aR ((a2.Args.length:Int) - 1)) - 1)) r21.Op r21.Name r21.Sort_ r21.Pred.Op r21.Pred.Name r21.Pred.N r21.Pred.Kids r21.Tag r21.Kids hR51 bo31)<|sv (eM (⟨o31.1,o31.2.1,o31.2.2.1,(⟨o31.2.2.2.1,o31.2.2.2.2.1,o31.2.2.2.2.2.1,o31.2.2.2.2.2.2.1⟩:aa),o31.2.2.2.2.2.2.2.1,o31.2.2.2.2.2.2.2.2⟩:ai) [])<|sx (cF (⟨o31.1,o31.2.1,o31.2.2.1,(⟨o31.2.2.2.1,o31.2.2.2.2.1,o31.2.2.2.2.2.1,o31.2.2.2.2.2.2.1⟩:aa),o31.2.2.2.2.2.2.2.1,o31.2.2.2.2.2.2.2.2⟩:ai))<|en (aI (cM (⟨o31.1,o31.2.1,o31.2.2.1,(⟨o31.2.2.2.1,o31.2.2.2.2.1,o31.2.2.2.2.2.1,o31.2.2.2.2.2.2.1⟩:aa),o31.2.2.2.2.2.2.2.1,o31.2.2.2.2.2.2.2.2⟩:ai))<|(ba (⟨o31.1,o31.2.1,o31.2.2.1,(⟨o31.2.2.2.1,o31.2.2.2.2.1,o31.2.2.2.2.2.1,o31.2.2.2.2.2.2.1⟩:aa),o31.2.2.2.2.2.2.2.1,o31.2.2.2.2.2.2.2.2⟩:ai)))
 exact bN qeo call54 func54 (c:=qfC) rfl (aI (dn w) (aI (ak a) (aI (ak a2) (aI (aj dQ used) trivial)))) z<|by kernel_rfl
noncomputable def qlC:Code:=f96.body.getD .skip
def qlm:List Nat:=[]
def jB(w:aY)(p:aa):Option ai:=
 some (⟨3,([]:ag),([]:ag),p,w.tag,([]:List ai)⟩:ai)
theorem CO{w:aY}{p:aa}{r:ai}(h:jB w p=some r):CC Pg GE 96 [.agg (aW w),.agg (ac p)] (.agg (aw r)) [(8,50)]:=by
 obtain rfl:=lf h
 have z:=se (i6 w)<|se (bS p)<|sx td<|sv (bh p)<|sv (AH w)<|sv (Dn w)<|sb (xA 3 p w.tag) (xy 3 p w.tag)<|sy (cb (⟨3,([]:ag),([]:ag),p,w.tag,([]:List ai)⟩:ai))<|en (aI (cM (⟨3,([]:ag),([]:ag),p,w.tag,([]:List ai)⟩:ai))<|aI (ba (⟨3,([]:ag),([]:ag),p,w.tag,([]:List ai)⟩:ai))<|rT)
 exact bN qlm call96 func96 (c:=qlC) rfl (aI (dn w) (aI (ah p) trivial)) z<|by kernel_rfl
noncomputable def qlz:Code:=f78.body.getD .skip
def qlj:List Nat:=[]
def fh(w:aY)(name:ag)(s:ag)(hyp:aa)(goal:aa):Option ai:=
 (jB w goal).bind fun r1=>
 some (⟨2,name,s,hyp,0,([r1]:List ai)⟩:ai)
theorem nI{w:aY}{name:ag}{s:ag}{hyp:aa}{goal:aa}{r:ai}(h:fh w name s hyp goal=some r):CC Pg GE 78 [.agg (aW w),.str name,.str s,.agg (ac hyp),.agg (ac goal)] (.agg (aw r)) []:=by
 obtain⟨r1,br1,h⟩:=ay h
 obtain rfl:=lf h
 have z:=se (i6 w)<|se (bS hyp)<|se (bS goal)<|sx td<|lY [0,0,0,0,0,24,56,127,255]<|sv (bh hyp)<|sv (e9 w)<|sv (bh goal)<|bz (CO br1)<|sv (mX.mk' (v:=lZ) g9 ([r1]:List ai) 1 (by kernel_rfl))<|sv (ki 2 name s hyp ([r1]:List ai))<|sx (cF (⟨2,name,s,hyp,0,([r1]:List ai)⟩:ai))<|en (aI (cM (⟨2,name,s,hyp,0,([r1]:List ai)⟩:ai))<|(ba (⟨2,name,s,hyp,0,([r1]:List ai)⟩:ai)))
 exact bN qlj call78 func78 (c:=qlz) rfl (aI (dn w) (aI trivial (aI trivial (aI (ah hyp) (aI (ah goal) trivial))))) z<|by kernel_rfl
noncomputable def qjl:Code:=f79.body.getD .skip
def qhN:List Nat:=[]
section
variable(name:ag)(t9:(List d8))(t10:Int)(t11:Int)(m:ag)(m2:waA)(m3:waF)(m4:waG)
def j3:aA:=be 22 [(1,.str name),(4,.bptr 1 0),(9,sl cH t9),(10,.int .i64 t10),(11,.int .i64 t11)] [.dead,.cells [.str m,sl cS m2,sl bH m3,sl ec m4] [(1,9),(2,102),(3,73)]] []
def j4(o:(ag×waA×waF×waG)⊕(ag×waA×waF×waG)):Exit:=match o with
 |(.inl _)=>.ret
 |(.inr _)=>.exit 0
def hZ(o:(ag×waA×waF×waG)⊕(ag×waA×waF×waG)):aA:=match o with
 |(.inl o)=>be 22 [(4,.bptr 1 0),(5,.bool true)] [.dead,.cells [.str o.1,sl cS o.2.1,sl bH o.2.2.1,sl ec o.2.2.2] []] []
 |(.inr o)=>be 22 [(4,.bptr 1 0)] [.dead,.cells [.str o.1,sl cS o.2.1,sl bH o.2.2.1,sl ec o.2.2.2] [(1,9),(2,102),(3,73)]] []
def fN:Option ((Int×ag×waA×waF×waG)⊕((ag×waA×waF×waG)⊕(ag×waA×waF×waG))):=
 if(decide (t11<t10))=true then
  (cz t9 t11).bind fun x2=>
  if(x2.Name==name)=true then
   some (.inr (.inl (x2.Name,x2.Vars,x2.Preds,x2.Cons)))
  else
   some (.inl (aR (t11+1),m,m2,m3,m4))
 else
  some (.inr (.inr (m,m2,m3,m4)))
def yc:Option ((ag×waA×waF×waG)⊕(ag×waA×waF×waG)):=loop (fun(zz:Int×ag×waA×waF×waG)=>fN name t9 t10 zz.1 zz.2.1 zz.2.2.1 zz.2.2.2.1 zz.2.2.2.2) (t11,m,m2,m3,m4)
theorem II{y:(Int×ag×waA×waF×waG)⊕((ag×waA×waF×waG)⊕(ag×waA×waF×waG))}(h:fN name t9 t10 t11 m m2 m3 m4=some y):aU Pg GE 0 (cA qjl 55) (LQ (fun(zz:Int×ag×waA×waF×waG)=>j3 name t9 t10 zz.1 zz.2.1 zz.2.2.1 zz.2.2.2.1 zz.2.2.2.2) j4 hZ y) (j3 name t9 t10 t11 m m2 m3 m4):=by
 rcases bj h with⟨c1,h⟩|⟨c1,h⟩
 ·obtain⟨x2,bx2,h⟩:=ay h
  have p4:=fun{sc F} (r:PS sc F)=>sg 0 c1<|sv (Ky.ia (k:=.i64) bx2)<|sv (Xe x2)<|sx Zd<|sx (AP x2)<|ss<|r
  rcases bj h with⟨c3,h⟩|⟨c3,h⟩
  ·obtain rfl:=lf h
   have z:=p4<|sg 0 c3<|sv (qa9 x2 [])<|sx (AP x2)<|uz 0 (j4 (.inl (x2.Name,x2.Vars,x2.Preds,x2.Cons))) (hZ (.inl (x2.Name,x2.Vars,x2.Preds,x2.Cons))) rfl (dC (aI (cV rfl) (aI trivial trivial))) (aI trivial (aI (aI trivial (aI (up (aj dQ x2.Vars)) (aI (up (aj lT x2.Preds)) (aI (up (aj F1 x2.Cons)) trivial)))) trivial))
   exact Iq (A:=qhN) mixed (by intro hx;cases hx) z<|by kernel_rfl
  ·obtain rfl:=lf h
   have z:=p4<|sg 0 c3<|uz 0 .normal (j3 name t9 t10 (aR (t11+1)) m m2 m3 m4) rfl (dC (aI trivial (aI (cV rfl) (aI (up (aj ub t9)) (aI trivial (aI trivial trivial)))))) (aI trivial (aI (aI trivial (aI (up (aj dQ m2)) (aI (up (aj lT m3)) (aI (up (aj F1 m4)) trivial)))) trivial))
   exact df (A:=qhN) mixed z<|by kernel_rfl
 ·obtain rfl:=lf h
  have z:=sg 0 c1<|eF (j4 (.inr (m,m2,m3,m4))) (hZ (.inr (m,m2,m3,m4)))
  exact f6 qhN (by intro hx;cases hx) z<|by kernel_rfl
theorem ze{x:(ag×waA×waF×waG)⊕(ag×waA×waF×waG)}(h:yc name t9 t10 t11 m m2 m3 m4=some x):aU Pg GE 0 (.loop (cA qjl 55)) (EX (j4 x) (hZ x)) (j3 name t9 t10 t11 m m2 m3 m4):=
 aU.loop (S:=fun(zz:Int×ag×waA×waF×waG)=>j3 name t9 t10 zz.1 zz.2.1 zz.2.2.1 zz.2.2.2.1 zz.2.2.2.2) (ex:=j4) (s:=(t11,m,m2,m3,m4)) h fun zz y hy=>II name t9 t10 zz.1 zz.2.1 zz.2.2.1 zz.2.2.2.1 zz.2.2.2.2 hy
end
def zd(m:aH)(name:ag):Option (d8×Bool):=
 (yc name m.Datas (m.Datas.length:Int) 0 ([]:ag) ([]:List ag) ([]:List cG) ([]:List ee)).bind fun o5=>match o5 with
 |(.inl o5)=>
  some ((⟨o5.1,o5.2.1,o5.2.2.1,o5.2.2.2⟩:d8),true)
 |(.inr o5)=>
  some ((⟨([]:ag),([]:List ag),([]:List cG),([]:List ee)⟩:d8),false)
theorem Re{m:aH}{name:ag}{r:d8×Bool}(h:zd m name=some r):CC Pg GE 79 [.agg (aB m),.str name] (.tuple [.agg (cH r.1),.bool r.2]) []:=by
 obtain⟨o5,bo5,h⟩:=ay h
 rcases o5 with o5|o5
 ·obtain rfl:=lf h
  have z:=se (jm m)<|sx Zd<|sv (dh m)<|sv (di m)<|cm (Ky.ln m.Datas)<|cW (e:=.ret) (s1:=hZ (.inl o5)) (ze name m.Datas (m.Datas.length:Int) 0 ([]:ag) ([]:List ag) ([]:List cG) ([]:List ee) bo5)<|en (aI (va9 PVal.tuple (jv (Gj (⟨o5.1,o5.2.1,o5.2.2.1,o5.2.2.2⟩:d8)) (jv (rP (.bool true)) (rfl:([]:List PVal)=[]))))<|(aI (ub (⟨o5.1,o5.2.1,o5.2.2.1,o5.2.2.2⟩:d8)) (aI trivial trivial)))
  exact bN qhN call79 func79 (c:=qjl) rfl (aI (de m) (aI trivial trivial)) z<|by kernel_rfl
 ·obtain rfl:=lf h
  have z:=se (jm m)<|sx Zd<|sv (dh m)<|sv (di m)<|cm (Ky.ln m.Datas)<|cW (e:=.exit 0) (s1:=hZ (.inr o5)) (ze name m.Datas (m.Datas.length:Int) 0 ([]:ag) ([]:List ag) ([]:List cG) ([]:List ee) bo5)<|sb (PK) (PH)<|sy (ui (⟨([]:ag),([]:List ag),([]:List cG),([]:List ee)⟩:d8))<|en (aI (va9 PVal.tuple (jv (Gj (⟨([]:ag),([]:List ag),([]:List cG),([]:List ee)⟩:d8)) (jv (rP (.bool false)) (rfl:([]:List PVal)=[]))))<|(aI (ub (⟨([]:ag),([]:List ag),([]:List cG),([]:List ee)⟩:d8)) (aI trivial trivial)))
  exact bN qhN call79 func79 (c:=qjl) rfl (aI (de m) (aI trivial trivial)) z<|by kernel_rfl
noncomputable def qh1:Code:=f108.body.getD .skip
def qhB:List Nat:=[]
def gX(is:Bool):Option aa:=
 if is=true then
  some (⟨2,([]:ag),1,([]:List aa)⟩:aa)
 else
  some (⟨2,([]:ag),0,([]:List aa)⟩:aa)
theorem j0{is:Bool}{r:aa}(h:gX is=some r):CC Pg GE 108 [.bool is] (.agg (ac r)) [(3,36)]:=by
 rcases bj h with⟨c1,h⟩|⟨c1,h⟩
 ·obtain rfl:=lf h
  have z:=sx hO<|sg 0 c1<|sb (ri 2 1) (rh 2 1)<|sy (aJ (⟨2,([]:ag),1,([]:List aa)⟩:aa))<|en (aI (dj (⟨2,([]:ag),1,([]:List aa)⟩:aa))<|aI (ah (⟨2,([]:ag),1,([]:List aa)⟩:aa))<|rT)
  exact bN qhB call108 func108 (c:=qh1) rfl (aI trivial trivial) z<|by kernel_rfl
 ·obtain rfl:=lf h
  have z:=sx hO<|sg 0 c1<|sb (PL 2) (PI 2)<|sy (aJ (⟨2,([]:ag),0,([]:List aa)⟩:aa))<|en (aI (dj (⟨2,([]:ag),0,([]:List aa)⟩:aa))<|aI (ah (⟨2,([]:ag),0,([]:List aa)⟩:aa))<|rT)
  exact bN qhB call108 func108 (c:=qh1) rfl (aI trivial trivial) z<|by kernel_rfl
noncomputable def qkO:Code:=f90.body.getD .skip
def qkF:List Nat:=[]
def AU(p:aa):Option Bool:=
 (jZ p (⟨0,([]:ag),0,([]:List aa)⟩:aa)).bind fun r1=>
 if r1=true then
  some true
 else
  (gX true).bind fun r4=>
  (jZ p r4).bind fun r5=>
  some r5
theorem Kr{p:aa}{r:Bool}(h:AU p=some r):CC Pg GE 90 [.agg (ac p)] (.bool r) []:=by
 obtain⟨r1,br1,h⟩:=ay h
 have p3:=fun{sc F} (r:PS sc F)=>se (bS p)<|lY [0,0,3,7,15,15,63,127,255]<|sv (bh p)<|sb (sP) (sO)<|bz (rC br1)<|r
 rcases bj h with⟨c2,h⟩|⟨c2,h⟩
 ·obtain rfl:=lf h
  have z:=p3<|sg 4 c2<|en (aI (rP (.bool true))<|trivial)
  exact bN qkF call90 func90 (c:=qkO) rfl (aI (ah p) trivial) z<|by kernel_rfl
 ·obtain⟨r4,br4,h⟩:=ay h
  obtain⟨r5,br5,h⟩:=ay h
  obtain rfl:=lf h
  have z:=p3<|sg 4 c2<|sv (bh p)<|bz (j0 br4)<|bz (rC br5)<|en (aI (rP (.bool r5))<|trivial)
  exact bN qkF call90 func90 (c:=qkO) rfl (aI (ah p) trivial) z<|by kernel_rfl
noncomputable def qjq:Code:=f97.body.getD .skip
def qgh:List Nat:=[25]
section
variable(t8:waB)(t9:Int)(v:Bool)(t10:Int)(m:Int)(m2:ag)(m3:Int)(m4:waB)(m5:Int)(m6:ag)(m7:Int)(m8:waB)
def jo:aA:=be 33 [(2,.bptr 0 0),(3,.bptr 1 0),(4,.bool v),(8,sl ac t8),(9,.int .i64 t9),(10,.int .i64 t10)] [.cells [.int .i64 m,.str m2,.int .i64 m3,sl ac m4] [(3,36)],.cells [.int .i64 m5,.str m6,.int .i64 m7,sl ac m8] []] []
def po(o:(Int×ag×Int×waB×Int×ag×Int×waB)⊕(Int×ag×Int×waB×Int×ag×Int×waB)):Exit:=match o with
 |(.inl _)=>.ret
 |(.inr _)=>.exit 0
def lG(o:(Int×ag×Int×waB×Int×ag×Int×waB)⊕(Int×ag×Int×waB×Int×ag×Int×waB)):aA:=match o with
 |(.inl o)=>be 33 [(2,.bptr 0 0)] [.cells [.int .i64 o.1,.str o.2.1,.int .i64 o.2.2.1,sl ac o.2.2.2.1] [(3,36)],.cells [.int .i64 o.2.2.2.2.1,.str o.2.2.2.2.2.1,.int .i64 o.2.2.2.2.2.2.1,sl ac o.2.2.2.2.2.2.2] []] []
 |(.inr o)=>be 33 [(2,.bptr 0 0),(3,.bptr 1 0)] [.cells [.int .i64 o.1,.str o.2.1,.int .i64 o.2.2.1,sl ac o.2.2.2.1] [(3,36)],.cells [.int .i64 o.2.2.2.2.1,.str o.2.2.2.2.2.1,.int .i64 o.2.2.2.2.2.2.1,sl ac o.2.2.2.2.2.2.2] []] []
def gW:Option ((Bool×Int×Int×ag×Int×waB×Int×ag×Int×waB)⊕((Int×ag×Int×waB×Int×ag×Int×waB)⊕(Int×ag×Int×waB×Int×ag×Int×waB))):=
 if (decide (t10 < t9)) = true then
  (cz t8 t10).bind fun x3=>
  (AU x3).bind fun r4=>
  if r4=true then
   some (.inl (v,aR (t10+1),m,m2,m3,m4,m5,m6,m7,m8))
  else
   (gX false).bind fun r7=>
   (jZ x3 r7).bind fun r8=>
   if r8=true then
    (gX false).bind fun r11=>
    some (.inr (.inl (r11.Op,r11.Name,r11.N,r11.Kids,m5,m6,m7,m8)))
   else
    if v=true then
     (qp x3).bind fun r14=>
     some (.inl (v,aR (t10+1),m,m2,m3,m4,15,([]:ag),0,([(⟨m5,m6,m7,m8⟩:aa),r14]:List aa)))
    else
     (qp x3).bind fun r15=>
     some (.inl (true,aR (t10+1),m,m2,m3,m4,r15.Op,r15.Name,r15.N,r15.Kids))
 else
  some (.inr (.inr (m,m2,m3,m4,m5,m6,m7,m8)))
def Fg:Option ((Int×ag×Int×waB×Int×ag×Int×waB)⊕(Int×ag×Int×waB×Int×ag×Int×waB)):=loop (fun(zz:Bool×Int×Int×ag×Int×waB×Int×ag×Int×waB)=>gW t8 t9 zz.1 zz.2.1 zz.2.2.1 zz.2.2.2.1 zz.2.2.2.2.1 zz.2.2.2.2.2.1 zz.2.2.2.2.2.2.1 zz.2.2.2.2.2.2.2.1 zz.2.2.2.2.2.2.2.2.1 zz.2.2.2.2.2.2.2.2.2) (v,t10,m,m2,m3,m4,m5,m6,m7,m8)
theorem NV{y:(Bool×Int×Int×ag×Int×waB×Int×ag×Int×waB)⊕((Int×ag×Int×waB×Int×ag×Int×waB)⊕(Int×ag×Int×waB×Int×ag×Int×waB))}(h:gW t8 t9 v t10 m m2 m3 m4 m5 m6 m7 m8=some y):aU Pg GE 0 (cA qjq 119) (LQ (fun(zz:Bool×Int×Int×ag×Int×waB×Int×ag×Int×waB)=>jo t8 t9 zz.1 zz.2.1 zz.2.2.1 zz.2.2.2.1 zz.2.2.2.2.1 zz.2.2.2.2.2.1 zz.2.2.2.2.2.2.1 zz.2.2.2.2.2.2.2.1 zz.2.2.2.2.2.2.2.2.1 zz.2.2.2.2.2.2.2.2.2) po lG y) (jo t8 t9 v t10 m m2 m3 m4 m5 m6 m7 m8):=by
 rcases bj h with⟨c2,h⟩|⟨c2,h⟩
 ·obtain⟨x3,bx3,h⟩:=ay h
  obtain⟨r4,br4,h⟩:=ay h
  have p6:=fun{sc F} (r:PS sc F)=>sg 0 c2<|sv (bL.ia (k:=.i64) bx3)<|sv (bh x3)<|sx hO<|sx (cj x3)<|sv (bT x3 [])<|bz (Kr br4)<|r
  rcases bj h with⟨c5,h⟩|⟨c5,h⟩
  ·obtain rfl:=lf h
   have z:=p6<|sg 0 c5<|uz 0 .normal (jo t8 t9 v (aR (t10+1)) m m2 m3 m4 m5 m6 m7 m8) rfl (dC (aI (cV rfl) (aI (cV rfl) (aI trivial (aI (up (aj ah t8)) (aI trivial (aI trivial trivial))))))) (aI (aI trivial (aI trivial (aI trivial (aI (up (aj ah m4)) trivial)))) (aI (aI trivial (aI trivial (aI trivial (aI (up (aj ah m8)) trivial)))) trivial))
   exact df (A:=qgh) mixed z<|by kernel_rfl
  ·obtain⟨r7,br7,h⟩:=ay h
   obtain⟨r8,br8,h⟩:=ay h
   have p10:=fun{sc F} (r:PS sc F)=>p6<|sg 0 c5<|lY [0,0,3,7]<|sv (bT x3 [])<|bz (j0 br7)<|bz (rC br8)<|r
   rcases bj h with⟨c9,h⟩|⟨c9,h⟩
   ·obtain⟨r11,br11,h⟩:=ay h
    obtain rfl:=lf h
    have z:=p10<|sg 0 c9<|bz (j0 br11)<|sy (aJ r11)<|uz 0 (po (.inl (r11.Op,r11.Name,r11.N,r11.Kids,m5,m6,m7,m8))) (lG (.inl (r11.Op,r11.Name,r11.N,r11.Kids,m5,m6,m7,m8))) rfl (dC (aI (cV rfl) trivial)) (aI (aI trivial (aI trivial (aI trivial (aI (up (aj ah r11.Kids)) trivial)))) (aI (aI trivial (aI trivial (aI trivial (aI (up (aj ah m8)) trivial)))) trivial))
    exact Iq (A:=qgh) mixed (by intro hx;cases hx) z<|by kernel_rfl
   ·have p13:=fun{sc F} (r:PS sc F)=>p10<|sg 0 c9<|r
    rcases bj h with⟨c12,h⟩|⟨c12,h⟩
    ·obtain⟨r14,br14,h⟩:=ay h
     obtain rfl:=lf h
     have z:=p13<|sg 0 c12<|lY [0,0,2,7,15,31]<|sv (bT (⟨m5,m6,m7,m8⟩:aa) [])<|sv (bT x3 [])<|bz (rD br14)<|sv (bL.mk' (v:=dW) cK ([(⟨m5,m6,m7,m8⟩:aa),r14]:List aa) 2 (by kernel_rfl))<|sv (JG 15 ([(⟨m5,m6,m7,m8⟩:aa),r14]:List aa))<|sx (cj (⟨15,([]:ag),0,([(⟨m5,m6,m7,m8⟩:aa),r14]:List aa)⟩:aa))<|uz 0 .normal (jo t8 t9 v (aR (t10+1)) m m2 m3 m4 15 ([]:ag) 0 ([(⟨m5,m6,m7,m8⟩:aa),r14]:List aa)) rfl (dC (aI (cV rfl) (aI (cV rfl) (aI trivial (aI (up (aj ah t8)) (aI trivial (aI trivial trivial))))))) (aI (aI trivial (aI trivial (aI trivial (aI (up (aj ah m4)) trivial)))) (aI (aI trivial (aI trivial (aI trivial (aI (up (aj ah ([(⟨m5,m6,m7,m8⟩:aa),r14]:List aa))) trivial)))) trivial))
     exact df (A:=qgh) mixed z<|by kernel_rfl
    ·obtain⟨r15,br15,h⟩:=ay h
     obtain rfl:=lf h
     have z:=p13<|sg 0 c12<|sv (bT x3 [])<|bz (rD br15)<|sy (aJ r15)<|uz 0 .normal (jo t8 t9 true (aR (t10+1)) m m2 m3 m4 r15.Op r15.Name r15.N r15.Kids) rfl (dC (aI (cV rfl) (aI (cV rfl) (aI trivial (aI (up (aj ah t8)) (aI trivial (aI trivial trivial))))))) (aI (aI trivial (aI trivial (aI trivial (aI (up (aj ah m4)) trivial)))) (aI (aI trivial (aI trivial (aI trivial (aI (up (aj ah r15.Kids)) trivial)))) trivial))
     exact df (A:=qgh) mixed z<|by kernel_rfl
 ·obtain rfl:=lf h
  have z:=sg 0 c2<|eF (po (.inr (m,m2,m3,m4,m5,m6,m7,m8))) (lG (.inr (m,m2,m3,m4,m5,m6,m7,m8)))
  exact f6 qgh (by intro hx;cases hx) z<|by kernel_rfl
theorem Fh{x:(Int×ag×Int×waB×Int×ag×Int×waB)⊕(Int×ag×Int×waB×Int×ag×Int×waB)}(h:Fg t8 t9 v t10 m m2 m3 m4 m5 m6 m7 m8=some x):aU Pg GE 0 (.loop (cA qjq 119)) (EX (po x) (lG x)) (jo t8 t9 v t10 m m2 m3 m4 m5 m6 m7 m8):=
 aU.loop (S:=fun(zz:Bool×Int×Int×ag×Int×waB×Int×ag×Int×waB)=>jo t8 t9 zz.1 zz.2.1 zz.2.2.1 zz.2.2.2.1 zz.2.2.2.2.1 zz.2.2.2.2.2.1 zz.2.2.2.2.2.2.1 zz.2.2.2.2.2.2.2.1 zz.2.2.2.2.2.2.2.2.1 zz.2.2.2.2.2.2.2.2.2) (ex:=po) (s:=(v,t10,m,m2,m3,m4,m5,m6,m7,m8)) h fun zz y hy=>NV t8 t9 zz.1 zz.2.1 zz.2.2.1 zz.2.2.2.1 zz.2.2.2.2.1 zz.2.2.2.2.2.1 zz.2.2.2.2.2.2.1 zz.2.2.2.2.2.2.2.1 zz.2.2.2.2.2.2.2.2.1 zz.2.2.2.2.2.2.2.2.2 hy
end
def Kk(a:waB):Option aa:=
 (gX true).bind fun r1=>
 (Fg a (a.length:Int) false 0 0 ([]:ag) 0 ([]:List aa) r1.Op r1.Name r1.N r1.Kids).bind fun o16=>match o16 with
 |(.inl o16)=>
  some (⟨o16.1,o16.2.1,o16.2.2.1,o16.2.2.2.1⟩:aa)
 |(.inr o16)=>
  some (⟨o16.2.2.2.2.1,o16.2.2.2.2.2.1,o16.2.2.2.2.2.2.1,o16.2.2.2.2.2.2.2⟩:aa)
theorem XE{a:waB}{r:aa}(h:Kk a=some r):CC Pg GE 97 [sl ac a] (.agg (ac r)) []:=by
 obtain⟨r1,br1,h⟩:=ay h
 obtain⟨o16,bo16,h⟩:=ay h
 rcases o16 with o16|o16
 ·obtain rfl:=lf h
  have z:=sx hO<|bz (j0 br1)<|sx hO<|sy (aJ r1)<|cm (bL.ln a)<|cW (e:=.ret) (s1:=lG (.inl o16)) (Fh a (a.length:Int) false 0 0 ([]:ag) 0 ([]:List aa) r1.Op r1.Name r1.N r1.Kids bo16)<|en (aI (dj (⟨o16.1,o16.2.1,o16.2.2.1,o16.2.2.2.1⟩:aa))<|(ah (⟨o16.1,o16.2.1,o16.2.2.1,o16.2.2.2.1⟩:aa)))
  exact bN qgh call97 func97 (c:=qjq) rfl (aI (aj ah a) trivial) z<|by kernel_rfl
 ·obtain rfl:=lf h
  have z:=sx hO<|bz (j0 br1)<|sx hO<|sy (aJ r1)<|cm (bL.ln a)<|cW (e:=.exit 0) (s1:=lG (.inr o16)) (Fh a (a.length:Int) false 0 0 ([]:ag) 0 ([]:List aa) r1.Op r1.Name r1.N r1.Kids bo16)<|sv (bT (⟨o16.2.2.2.2.1,o16.2.2.2.2.2.1,o16.2.2.2.2.2.2.1,o16.2.2.2.2.2.2.2⟩:aa) [])<|sx (cj (⟨o16.2.2.2.2.1,o16.2.2.2.2.2.1,o16.2.2.2.2.2.2.1,o16.2.2.2.2.2.2.2⟩:aa))<|en (aI (dj (⟨o16.2.2.2.2.1,o16.2.2.2.2.2.1,o16.2.2.2.2.2.2.1,o16.2.2.2.2.2.2.2⟩:aa))<|(ah (⟨o16.2.2.2.2.1,o16.2.2.2.2.2.1,o16.2.2.2.2.2.2.1,o16.2.2.2.2.2.2.2⟩:aa)))
  exact bN qgh call97 func97 (c:=qjq) rfl (aI (aj ah a) trivial) z<|by kernel_rfl
noncomputable def qj5:Code:=f80.body.getD .skip
def qi4:List Nat:=[]
section
variable(v:waB)(i:Int)(v2:aa)(m:waB)
def N5:aA:=be 26 [(0,sl ac v),(1,.int .i64 i),(5,.eptr (ac v2)),(6,.bptr 1 0)] [.dead,.cells [.int .i64 0,.str ([]:ag),.int .i64 0,sl ac m] [(3,36)]] []
def vb(o:Bool):aA:=be 26 [(0,sl ac v),(1,.int .i64 i),(5,.eptr (ac v2)),(6,.bptr 1 0),(18,.bool o)] [.dead,.cells [.int .i64 0,.str ([]:ag),.int .i64 0,sl ac m] [(3,36)]] []
def Ag:Option Bool:=
 if(decide (i>=(v.length:Int)))=true then
  some true
 else
  (cz v i).bind fun x2=>
  (jZ x2 (⟨0,([]:ag),0,([]:List aa)⟩:aa)).bind fun r3=>
  some r3
theorem L6{x:Bool}(h:Ag v i=some x):aU Pg GE 0 (cA qj5 12) (EX .normal (vb v i v2 m x)) (N5 v i v2 m):=by
 rcases bj h with⟨c1,h⟩|⟨c1,h⟩
 ·obtain rfl:=lf h
  exact cd qi4 (cm (bL.ln v)<|sg 5 c1<|eF .normal (vb v i v2 m true))<|by kernel_rfl
 ·obtain⟨x2,bx2,h⟩:=ay h
  obtain⟨r3,br3,h⟩:=ay h
  obtain rfl:=lf h
  exact cd qi4 (cm (bL.ln v)<|sg 5 c1<|sv (bL.ia (k:=.i64) bx2)<|sv (bh x2)<|sb (sP) (sO)<|bz (rC br3)<|eF .normal (vb v i v2 m r3))<|by kernel_rfl
end
def xZ(a:waB)(i:Int)(a2:aa):Option aa:=
 (Ag a i).bind fun o4=>
 if o4=true then
  (Kk ([]:List aa)).bind fun r7=>
  some r7
 else
  (cz a i).bind fun x8=>
  (xT x8 ([118]:ag) a2).bind fun r9=>
  some r9
theorem Hm{a:waB}{i:Int}{a2:aa}{r:aa}(h:xZ a i a2=some r):CC Pg GE 80 [sl ac a,.int .i64 i,.agg (ac a2)] (.agg (ac r)) []:=by
 obtain⟨o4,bo4,h⟩:=ay h
 have p6:=fun{sc F} (r:PS sc F)=>se (bS a2)<|sx hO<|kr 1<|cW (L6 a i a2 ([]:List aa) bo4)<|r
 rcases bj h with⟨c5,h⟩|⟨c5,h⟩
 ·obtain⟨r7,br7,h⟩:=ay h
  obtain rfl:=lf h
  have z:=p6<|sg 0 c5<|bz (XE br7)<|sx (cj r7)<|en (aI (dj r7)<|(ah r7))
  exact bN qi4 call80 func80 (c:=qj5) rfl (aI (aj ah a) (aI trivial (aI (ah a2) trivial))) z<|by kernel_rfl
 ·obtain⟨x8,bx8,h⟩:=ay h
  obtain⟨r9,br9,h⟩:=ay h
  obtain rfl:=lf h
  have z:=p6<|sg 0 c5<|lY [0,0,3,7,0,31,63]<|sv (bL.ia (k:=.i64) bx8)<|sv (bh x8)<|sv (bh a2)<|bz (Hl br9)<|qb2 (cj r9)<|en (aI (dj r9)<|(ah r9))
  exact bN qi4 call80 func80 (c:=qj5) rfl (aI (aj ah a) (aI trivial (aI (ah a2) trivial))) z<|by kernel_rfl
noncomputable def qjh:Code:=f53.body.getD .skip
def qi2:List Nat:=[55,58]
section
variable(w:aY)(v:ae)(v2:ae)(name:ag)(t51:waF)(t52:Int)(m:waB)(m2:waD)(m3:ag)(m4:waA)(m5:waG)(v3:waD)(t53:Int)
def eC:aA:=be 82 [(4,.eptr (aW w)),(5,.eptr (af v)),(6,.eptr (af v2)),(8,.bptr 3 0),(9,.str name),(10,.bptr 4 0),(13,sl aw v3),(51,sl bH t51),(52,.int .i64 t52),(53,.int .i64 t53)] [.dead,.dead,.dead,.cells [.int .i64 0,.str ([]:ag),.str ([]:ag),.int .i64 0,.str ([]:ag),.int .i64 0,sl ac m,.int .i64 0,sl aw m2] [(6,36),(8,50)],.cells [.int .i64 3,.str name,.int .i64 0,sl ac m] [(3,36)],.cells [.str m3,sl cS m4,sl bH t51,sl ec m5] []] [((13,0),50)]
def jr(o:waD):aA:=be 82 [(8,.bptr 3 0),(13,sl aw o)] [.dead,.dead,.dead,.cells [.int .i64 0,.str ([]:ag),.str ([]:ag),.int .i64 0,.str ([]:ag),.int .i64 0,sl ac m,.int .i64 0,sl aw m2] [(6,36),(8,50)],.cells [.int .i64 3,.str name,.int .i64 0,sl ac m] [(3,36)],.cells [.str m3,sl cS m4,sl bH t51,sl ec m5] []] [((13,0),50)]
def dS:Option ((waD×Int)⊕(waD)):=
 if(decide (t53<t52))=true then
  (cz t51 t53).bind fun x11=>
  (xZ v.Preds t53 (⟨3,name,0,m⟩:aa)).bind fun r12=>
  (xZ v2.Preds t53 (⟨3,name,0,m⟩:aa)).bind fun r13=>
  (fh w name x11.Sort_ r12 r13).bind fun r14=>
  (app v3 ([r14]:List ai)).bind fun l15=>
  some (.inl (l15,aR (t53+1)))
 else
  some (.inr v3)
def kw:Option waD:=loop (fun(zz:waD×Int)=>dS w v v2 name t51 t52 m zz.1 zz.2) (v3,t53)
theorem ya{y:(waD×Int)⊕(waD)}(h:dS w v v2 name t51 t52 m v3 t53=some y):aU Pg GE 0 (cA qjh 16215) (LQ (fun(zz:waD×Int)=>eC w v v2 name t51 t52 m m2 m3 m4 m5 zz.1 zz.2) (fun _=>.exit 0) (jr name t51 m m2 m3 m4 m5) y) (eC w v v2 name t51 t52 m m2 m3 m4 m5 v3 t53):=by
 rcases bj h with⟨c10,h⟩|⟨c10,h⟩
 ·obtain⟨x11,bx11,h⟩:=ay h
  obtain⟨r12,br12,h⟩:=ay h
  obtain⟨r13,br13,h⟩:=ay h
  obtain⟨r14,br14,h⟩:=ay h
  obtain⟨l15,bl15,h⟩:=ay h
  obtain rfl:=lf h
  have z:=sg 0 c10<|sv (IG.ia (k:=.i64) bx11)<|sv (qeZ x11)<|sx qiI<|sx (qds x11)<|lY [0,0,0,0,8,0,32,0,0,480,0,1024,0,0,16352,32766,65534,131071,262143]<|sv (e9 w)<|ss<|sv (dq v)<|sv (dt v)<|sv (bT (⟨3,name,0,m⟩:aa) [])<|bz (Hm br12)<|sv (dq v2)<|sv (dt v2)<|sv (bT (⟨3,name,0,m⟩:aa) [])<|bz (Hm br13)<|bz (nI br14)<|sv (mX.mk' (v:=lZ) g9 ([r14]:List ai) 1 (by kernel_rfl))<|sv (mX.ap bl15)<|uz 0 .normal (eC w v v2 name t51 t52 m m2 m3 m4 m5 l15 (aR (t53+1))) rfl (dC (aI (ij (dn w)) (aI (ij (ak v)) (aI (ij (ak v2)) (aI (cV rfl) (aI trivial (aI (cV rfl) (aI (up (aj ba l15)) (aI (up (aj lT t51)) (aI trivial (aI trivial trivial))))))))))) (aI trivial (aI trivial (aI trivial (aI (aI trivial (aI trivial (aI trivial (aI trivial (aI trivial (aI trivial (aI (up (aj ah m)) (aI trivial (aI (up (aj ba m2)) trivial))))))))) (aI (aI trivial (aI trivial (aI trivial (aI (up (aj ah m)) trivial)))) (aI (aI trivial (aI (up (aj dQ m4)) (aI (up (aj lT t51)) (aI (up (aj F1 m5)) trivial)))) trivial))))))
  exact df (A:=qi2) mixed z<|by kernel_rfl
 ·obtain rfl:=lf h
  have z:=sg 0 c10<|eF (.exit 0) (jr name t51 m m2 m3 m4 m5 v3)
  exact f6 qi2 (by intro hx;cases hx) z<|by kernel_rfl
theorem yl{x:waD}(h:kw w v v2 name t51 t52 m v3 t53=some x):aU Pg GE 0 (.loop (cA qjh 16215)) (EX (.exit 0) (jr name t51 m m2 m3 m4 m5 x)) (eC w v v2 name t51 t52 m m2 m3 m4 m5 v3 t53):=
 aU.loop (S:=fun(zz:waD×Int)=>eC w v v2 name t51 t52 m m2 m3 m4 m5 zz.1 zz.2) (ex:=(fun _=>.exit 0)) (s:=(v3,t53)) h fun zz y hy=>ya w v v2 name t51 t52 m m2 m3 m4 m5 zz.1 zz.2 hy
end
def jA(w:aY)(a:ae)(a2:ae)(used:waA):Option ai:=
 (mR used ([118,49]:ag)).bind fun r1=>
 (zf a).bind fun r2=>
 (Gm r2).bind fun r3=>
 (te a (⟨3,r1,0,([]:List aa)⟩:aa)).bind fun r4=>
 (te a2 (⟨3,r1,0,([]:List aa)⟩:aa)).bind fun r5=>
 (fh w r1 r3.1 r4 r5).bind fun r6=>
 if(a.Op==4)=true then
  (zd w.m a.Name).bind fun r9=>
  (kw w a a2 r1 r9.1.Preds (r9.1.Preds.length:Int) ([]:List aa) ([r6]:List ai) 0).bind fun o16=>
  (rl o16).bind fun r17=>
  some r17
 else
  (cz ([r6]:List ai) 0).bind fun x18=>
  some x18
theorem CN{w:aY}{a:ae}{a2:ae}{used:waA}{r:ai}(h:jA w a a2 used=some r):CC Pg GE 53 [.agg (aW w),.agg (af a),.agg (af a2),sl cS used] (.agg (aw r)) []:=by
 obtain⟨r1,br1,h⟩:=ay h
 obtain⟨r2,br2,h⟩:=ay h
 obtain⟨r3,br3,h⟩:=ay h
 obtain⟨r4,br4,h⟩:=ay h
 obtain⟨r5,br5,h⟩:=ay h
 obtain⟨r6,br6,h⟩:=ay h
 have p8:=fun{sc F} (r:PS sc F)=>se (i6 w)<|se (bD a)<|se (bD a2)<|sx td<|bz (xM br1)<|sb (kj 3 r1) (kh 3 r1)<|sx hO<|sy (aJ (⟨3,r1,0,([]:List aa)⟩:aa))<|sv (aV a)<|bz (Fx br2)<|bz (Rd br3)<|lY [0,0,0,0,0,24,0,0,248,511,1023,2047]<|sv (e9 w)<|sv (aV a)<|sv (bT (⟨3,r1,0,([]:List aa)⟩:aa) [])<|bz (Af br4)<|sv (aV a2)<|sv (bT (⟨3,r1,0,([]:List aa)⟩:aa) [])<|bz (Af br5)<|bz (nI br6)<|sv (mX.mk' (v:=lZ) g9 ([r6]:List ai) 1 (by kernel_rfl))<|sv (aC a)<|sv (aD a)<|r
 rcases bj h with⟨c7,h⟩|⟨c7,h⟩
 ·obtain⟨r9,br9,h⟩:=ay h
  obtain⟨o16,bo16,h⟩:=ay h
  obtain⟨r17,br17,h⟩:=ay h
  obtain rfl:=lf h
  have z:=p8<|sg 0 c7<|sv (AG w)<|sv (Ct w)<|sv (cq a)<|sv (cP a)<|bz (Re br9)<|sx Zd<|sx (AP r9.1)<|ss<|cm (IG.ln r9.1.Preds)<|cW (yl w a a2 r1 r9.1.Preds (r9.1.Preds.length:Int) ([]:List aa) ([]:List ai) r9.1.Name r9.1.Vars r9.1.Cons ([r6]:List ai) 0 bo16)<|bz (yP br17)<|sy (cb r17)<|en (aI (cM r17)<|(ba r17))
  exact bN qi2 call53 func53 (c:=qjh) rfl (aI (dn w) (aI (ak a) (aI (ak a2) (aI (aj dQ used) trivial)))) z<|by kernel_rfl
 ·obtain⟨x18,bx18,h⟩:=ay h
  obtain rfl:=lf h
  have z:=p8<|sg 0 c7<|sv (mX.ia (k:=.i64) bx18)<|sv (iZ x18)<|sx (cF x18)<|en (aI (cM x18)<|(ba x18))
  exact bN qi2 call53 func53 (c:=qjh) rfl (aI (dn w) (aI (ak a) (aI (ak a2) (aI (aj dQ used) trivial)))) z<|by kernel_rfl
noncomputable def qjc:Code:=f35.body.getD .skip
def qiX:List Nat:=[]
def jc(R51:d4)(w:aY)(a:ae)(a2:ae)(used:waA):Option ai:=
 if(a.Op==6)=true then
  if((a.Args.length:Int)==0)=true then
   some (⟨1,([]:ag),([]:ag),(⟨0,([]:ag),0,([]:List aa)⟩:aa),0,([]:List ai)⟩:ai)
  else
   (gw R51 w a a2 used).bind fun r5=>
   some r5
 else
  (kv a).bind fun r6=>
  if(!r6)=true then
   some (⟨1,([]:ag),([]:ag),(⟨0,([]:ag),0,([]:List aa)⟩:aa),0,([]:List ai)⟩:ai)
  else
   (jA w a a2 used).bind fun r9=>
   some r9
theorem CP(R51:d4)(hR51:iO R51){w:aY}{a:ae}{a2:ae}{used:waA}{r:ai}(h:jc R51 w a a2 used=some r):CC Pg GE 35 [.agg (aW w),.agg (af a),.agg (af a2),sl cS used] (.agg (aw r)) []:=by
 have p2:=fun{sc F} (r:PS sc F)=>se (i6 w)<|se (bD a)<|se (bD a2)<|sx td<|sv (e9 w)<|sv (aC a)<|sv (aD a)<|r
 rcases bj h with⟨c1,h⟩|⟨c1,h⟩
 ·have p4:=fun{sc F} (r:PS sc F)=>p2<|sg 0 c1<|sv (aK a)<|sv (aL a)<|cm (ck.ln a.Args)<|r
  rcases bj h with⟨c3,h⟩|⟨c3,h⟩
  ·obtain rfl:=lf h
   have z:=p4<|sg 0 c3<|sb (xz 1) (xx 1)<|sy (cb (⟨1,([]:ag),([]:ag),(⟨0,([]:ag),0,([]:List aa)⟩:aa),0,([]:List ai)⟩:ai))<|en (aI (cM (⟨1,([]:ag),([]:ag),(⟨0,([]:ag),0,([]:List aa)⟩:aa),0,([]:List ai)⟩:ai))<|(ba (⟨1,([]:ag),([]:ag),(⟨0,([]:ag),0,([]:List aa)⟩:aa),0,([]:List ai)⟩:ai)))
   exact bN qiX call35 func35 (c:=qjc) rfl (aI (dn w) (aI (ak a) (aI (ak a2) (aI (aj dQ used) trivial)))) z<|by kernel_rfl
  ·obtain⟨r5,br5,h⟩:=ay h
   obtain rfl:=lf h
   have z:=p4<|sg 0 c3<|sv (e9 w)<|sv (aV a)<|sv (aV a2)<|bz (yb R51 hR51 br5)<|sx (cF r5)<|en (aI (cM r5)<|(ba r5))
   exact bN qiX call35 func35 (c:=qjc) rfl (aI (dn w) (aI (ak a) (aI (ak a2) (aI (aj dQ used) trivial)))) z<|by kernel_rfl
 ·obtain⟨r6,br6,h⟩:=ay h
  have p8:=fun{sc F} (r:PS sc F)=>p2<|sg 0 c1<|sv (aV a)<|bz (pK br6)<|r
  rcases bj h with⟨c7,h⟩|⟨c7,h⟩
  ·obtain rfl:=lf h
   have z:=p8<|sg 0 c7<|sb (xz 1) (xx 1)<|sy (cb (⟨1,([]:ag),([]:ag),(⟨0,([]:ag),0,([]:List aa)⟩:aa),0,([]:List ai)⟩:ai))<|en (aI (cM (⟨1,([]:ag),([]:ag),(⟨0,([]:ag),0,([]:List aa)⟩:aa),0,([]:List ai)⟩:ai))<|(ba (⟨1,([]:ag),([]:ag),(⟨0,([]:ag),0,([]:List aa)⟩:aa),0,([]:List ai)⟩:ai)))
   exact bN qiX call35 func35 (c:=qjc) rfl (aI (dn w) (aI (ak a) (aI (ak a2) (aI (aj dQ used) trivial)))) z<|by kernel_rfl
  ·obtain⟨r9,br9,h⟩:=ay h
   obtain rfl:=lf h
   have z:=p8<|sg 0 c7<|sv (aV a)<|sv (aV a2)<|bz (CN br9)<|sx (cF r9)<|en (aI (cM r9)<|(ba r9))
   exact bN qiX call35 func35 (c:=qjc) rfl (aI (dn w) (aI (ak a) (aI (ak a2) (aI (aj dQ used) trivial)))) z<|by kernel_rfl
def nf:((aY×ae×ae×waA)->Option ai)->(aY×ae×ae×waA)->Option ai:=fun(rec:(aY×ae×ae×waA)->Option ai) (x:aY×ae×ae×waA)=>jc (fun w a a2 used=>rec (w,a,a2,used)) x.1 x.2.1 x.2.2.1 x.2.2.2
def qb(w:aY)(a:ae)(a2:ae)(used:waA):Option ai:=kJ nf (w,a,a2,used)
theorem Dq{w:aY}{a:ae}{a2:ae}{used:waA}{r:ai}(h:qb w a a2 used=some r):CC Pg GE 35 [.agg (aW w),.agg (af a),.agg (af a2),sl cS used] (.agg (aw r)) []:=
 cy (F:=nf) (M:=fun(x:aY×ae×ae×waA) (r:ai)=>CC Pg GE 35 [.agg (aW x.1),.agg (af x.2.1),.agg (af x.2.2.1),sl cS x.2.2.2] (.agg (aw r)) []) (fun rec hrec x r h=>CP _ (fun w a a2 used r h=>hrec (w,a,a2,used) r h) h) h
noncomputable def qkI:Code:=f12.body.getD .skip
def qkz:List Nat:=[]
def nc(m:aH)(a:ae)(a2:ae)(tag:Int)(used:waA):Option (ai×Int):=
 (IL a a2).bind fun r1=>
 if(!r1)=true then
  some ((⟨0,([]:ag),([]:ag),(⟨0,([]:ag),0,([]:List aa)⟩:aa),0,([]:List ai)⟩:ai),12)
 else
  (qb (⟨m,tag⟩:aY) a a2 used).bind fun r4=>
  some (r4,0)
theorem rU{m:aH}{a:ae}{a2:ae}{tag:Int}{used:waA}{r:ai×Int}(h:nc m a a2 tag used=some r):CC Pg GE 12 [.agg (aB m),.agg (af a),.agg (af a2),.int .i64 tag,sl cS used] (.tuple [.agg (aw r.1),.int .i64 r.2]) []:=by
 obtain⟨r1,br1,h⟩:=ay h
 have p3:=fun{sc F} (r:PS sc F)=>se (jm m)<|se (bD a)<|se (bD a2)<|sx td<|sv (aV a)<|sv (aV a2)<|bz (SN br1)<|r
 rcases bj h with⟨c2,h⟩|⟨c2,h⟩
 ·obtain rfl:=lf h
  have z:=p3<|sg 0 c2<|sb (Cd) (Cb)<|sy (cb (⟨0,([]:ag),([]:ag),(⟨0,([]:ag),0,([]:List aa)⟩:aa),0,([]:List ai)⟩:ai))<|en (aI (va9 PVal.tuple (jv (cM (⟨0,([]:ag),([]:ag),(⟨0,([]:ag),0,([]:List aa)⟩:aa),0,([]:List ai)⟩:ai)) (jv (rP (.int .i64 12)) (rfl:([]:List PVal)=[]))))<|(aI (ba (⟨0,([]:ag),([]:ag),(⟨0,([]:ag),0,([]:List aa)⟩:aa),0,([]:List ai)⟩:ai)) (aI trivial trivial)))
  exact bN qkz call12 func12 (c:=qkI) rfl (aI (de m) (aI (ak a) (aI (ak a2) (aI trivial (aI (aj dQ used) trivial))))) z<|by kernel_rfl
 ·obtain⟨r4,br4,h⟩:=ay h
  obtain rfl:=lf h
  have z:=p3<|sg 0 c2<|sv (jl m)<|sv (Df m tag)<|sv (aV a)<|sv (aV a2)<|bz (Dq br4)<|sx (cF r4)<|en (aI (va9 PVal.tuple (jv (cM r4) (jv (rP (.int .i64 0)) (rfl:([]:List PVal)=[]))))<|(aI (ba r4) (aI trivial trivial)))
  exact bN qkz call12 func12 (c:=qkI) rfl (aI (de m) (aI (ak a) (aI (ak a2) (aI trivial (aI (aj dQ used) trivial))))) z<|by kernel_rfl
abbrev lS:=(ai->aM->waE->Option waE)
abbrev qz(R:lS):Prop:=∀(c:ai) (above:aM) (a:waE) (r:waE),R c above a=some r->C Pg GE 41 [.agg (aw c),.agg (aX above),sl aX a] [((2,0),62)] [] (sl aX r) [(0,62)] []
abbrev B8:=(aa->Option waB)
abbrev Ua(R:B8):Prop:=∀(p:aa) (r:waB),R p=some r->CC Pg GE 63 [.agg (ac p)] (sl ac r) [(0,36)]
noncomputable def qjj:Code:=f63.body.getD .skip
def qhL:List Nat:=[]
section
variable(p:aa)
def NW:aA:=be 28 [(1,.eptr (ac p))] [.dead] []
def uZ(o:Bool):aA:=be 28 [(1,.eptr (ac p)),(11,.bool o)] [.dead] []
def Hj:Option Bool:=
 if(p.Op==15)=true then
  some ((p.Kids.length:Int)==2)
 else
  some false
theorem LW{x:Bool}(h:Hj p=some x):aU Pg GE 0 (cA qjj 12) (EX .normal (uZ p x)) (NW p):=by
 have p2:=fun{sc F} (r:PS sc F)=>sv (bE p)<|sv (bF p)<|r
 rcases bj h with⟨c1,h⟩|⟨c1,h⟩
 ·obtain rfl:=lf h
  exact cd qhL (p2<|sg 4 c1<|sv (bA p)<|sv (bC p)<|cm (bL.ln p.Kids)<|eF .normal (uZ p ((p.Kids.length:Int)==2)))<|by kernel_rfl
 ·obtain rfl:=lf h
  exact cd qhL (p2<|sg 4 c1<|eF .normal (uZ p false))<|by kernel_rfl
end
def Km(R93:B8)(p:aa):Option waB:=
 (Hj p).bind fun o3=>
 if o3=true then
  (cz p.Kids 0).bind fun x6=>
  (R93 x6).bind fun r7=>
  (cz p.Kids 1).bind fun x8=>
  (R93 x8).bind fun r9=>
  (app r7 r9).bind fun l10=>
  some l10
 else
  (AU p).bind fun r11=>
  if r11=true then
   some ([]:List aa)
  else
   (qp p).bind fun r14=>
   some ([r14]:List aa)
theorem QY(R93:B8)(hR93:Ua R93){p:aa}{r:waB}(h:Km R93 p=some r):CC Pg GE 63 [.agg (ac p)] (sl ac r) [(0,36)]:=by
 obtain⟨o3,bo3,h⟩:=ay h
 have p5:=fun{sc F} (r:PS sc F)=>se (bS p)<|kr 1<|cW (LW p bo3)<|r
 rcases bj h with⟨c4,h⟩|⟨c4,h⟩
 ·obtain⟨x6,bx6,h⟩:=ay h
  obtain⟨r7,br7,h⟩:=ay h
  obtain⟨x8,bx8,h⟩:=ay h
  obtain⟨r9,br9,h⟩:=ay h
  obtain⟨l10,bl10,h⟩:=ay h
  obtain rfl:=lf h
  have z:=p5<|sg 0 c4<|lY [0,1,3,7,15,0,32,96,224,511,1023,2047]<|sv (bA p)<|sv (bC p)<|sv (bL.ia (k:=.i64) bx6)<|sv (bh x6)<|bz (hR93 _ _ br7)<|sv (bA p)<|sv (bC p)<|sv (bL.ia (k:=.i64) bx8)<|sv (bh x8)<|bz (hR93 _ _ br9)<|sv (bL.ap bl10)<|en (aI (rP (sl ac l10))<|(aj ah l10))
  exact bN qhL call63 func63 (c:=qjj) rfl (aI (ah p) trivial) z<|by kernel_rfl
 ·obtain⟨r11,br11,h⟩:=ay h
  have p13:=fun{sc F} (r:PS sc F)=>p5<|sg 0 c4<|sv (bh p)<|bz (Kr br11)<|r
  rcases bj h with⟨c12,h⟩|⟨c12,h⟩
  ·obtain rfl:=lf h
   have z:=p13<|sg 0 c12<|en (aI (rP (sl ac ([]:List aa)))<|(aj ah ([]:List aa)))
   exact bN qhL call63 func63 (c:=qjj) rfl (aI (ah p) trivial) z<|by kernel_rfl
  ·obtain⟨r14,br14,h⟩:=ay h
   obtain rfl:=lf h
   have z:=p13<|sg 0 c12<|sv (bh p)<|bz (rD br14)<|sv (bL.mk' (v:=dW) cK ([r14]:List aa) 1 (by kernel_rfl))<|en (aI (rP (sl ac ([r14]:List aa)))<|(aj ah ([r14]:List aa)))
   exact bN qhL call63 func63 (c:=qjj) rfl (aI (ah p) trivial) z<|by kernel_rfl
def Kn:(aa->Option waB)->(aa)->Option waB:=fun(rec:aa->Option waB) (x:aa)=>Km (fun p=>rec p) x
def Iw(p:aa):Option waB:=kJ Kn p
theorem Hk{p:aa}{r:waB}(h:Iw p=some r):CC Pg GE 63 [.agg (ac p)] (sl ac r) [(0,36)]:=
 cy (F:=Kn) (M:=fun(x:aa) (r:waB)=>CC Pg GE 63 [.agg (ac x)] (sl ac r) [(0,36)]) (fun rec hrec x r h=>QY _ (fun p r h=>hrec p r h) h) h
end Go.Proofs.YtbaamopmfmpfaaaGreatDoor
