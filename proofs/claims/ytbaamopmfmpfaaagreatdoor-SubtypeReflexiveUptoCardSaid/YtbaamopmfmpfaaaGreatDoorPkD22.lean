/- PROVED: parts of the proof (G8). Conditions: none. -/
import Derived.Test.YtbaamopmfmpfaaaGreatDoorPkD21
noncomputable section
namespace Go.Proofs.YtbaamopmfmpfaaaGreatDoor
open Go
set_option linter.unusedVariables false
set_option maxRecDepth 100000
def Vk:Code:=Tryz.f110.body.getD .skip
def Tu:List Nat:=[17]
section
variable(R78:nO)(v:waA)(v2:waA)(t14:Int)(t15:Int)
def jF:az:=aW 30 [(0,sl ac v),(1,sl ac v2),(2,.func (.func 93) [] []),(14,.int .i64 t14),(15,.int .i64 t15)] [] []
def jH(o:Unit⊕(Unit)):Exit:=match o with
 |(.inl _)=>.ret
 |(.inr _)=>.exit 0
def gS(o:Unit⊕(Unit)):az:=match o with
 |(.inl o)=>aW 30 [(6,.bool false)] [] []
 |(.inr o)=>aW 30 [] [] []
def jG:Option (Int⊕(Unit⊕(Unit))):=
 if(decide (t15<t14))=true then
  (cH v t15).bind fun x4=>
  (cH v2 t15).bind fun x5=>
  (R78 x4 x5).bind fun r6=>
  if(!r6)=true then
   some (.inr (.inl ()))
  else
   some (.inl (aO (t15+1)))
 else
  some (.inr (.inr ()))
def wm:Option (Unit⊕(Unit)):=loop (fun(zz:Int)=>jG R78 v v2 t14 zz) t15
theorem E5(hR78:uy R78){y:Int⊕(Unit⊕(Unit))}(h:jG R78 v v2 t14 t15=some y):
  aQ Pg GE 0 (cA Vk 119) (LQ (fun(zz:Int)=>jF v v2 t14 zz) jH gS y) (jF v v2 t14 t15):=by
 rcases aX h with⟨c3,h⟩|⟨c3,h⟩
 ·obtain⟨x4,bx4,h⟩:=aA h
  obtain⟨x5,bx5,h⟩:=aA h
  obtain⟨r6,br6,h⟩:=aA h
  have p8:=fun{sc F} (r:PS sc F)=>sg 0 c3<|ra [0,0,0,6,14,0,0,96,224,511,1023]<|sv (cd.ia (k:=.i64) bx4)<|sv (aY x4)<|sv (cd.ia (k:=.i64) bx5)<|sv (aY x5)<|bP (hR78 _ _ _ br6)<|r
  rcases aX h with⟨c7,h⟩|⟨c7,h⟩
  ·obtain rfl:=lf h
   have z:=p8<|sg 0 c7<|eF (jH (.inl ())) (gS (.inl ()))
   exact iW Tu (by intro hx;cases hx) z (by kernel_rfl)
  ·obtain rfl:=lf h
   exact rF Tu (p8<|sg 0 c7<|eF .normal (jF v v2 t14 (aO (t15+1)))) (by kernel_rfl)
 ·obtain rfl:=lf h
  have z:=sg 0 c3<|eF (jH (.inr ())) (gS (.inr ()))
  exact iW Tu (by intro hx;cases hx) z (by kernel_rfl)
theorem wS(hR78:uy R78){x:Unit⊕(Unit)}(h:wm R78 v v2 t14 t15=some x):
  aQ Pg GE 0 (.loop (cA Vk 119)) (EX (jH x) (gS x)) (jF v v2 t14 t15):=
 aQ.loop (S:=fun(zz:Int)=>jF v v2 t14 zz) (ex:=jH) (s:=t15) h fun zz y hy=>E5 R78 v v2 t14 zz hR78 hy
end
def ym(R78:nO)(a:waA)(a2:waA):Option Bool:=
 if((a.length:Int)!=(a2.length:Int))=true then
  some false
 else
  (wm R78 a a2 (a.length:Int) 0).bind fun o9=>match o9 with
  |(.inl o9)=>
   some false
  |(.inr o9)=>
   some true
theorem Me(R78:nO)(hR78:uy R78){a:waA}{a2:waA}{r:Bool}(h:ym R78 a a2=some r):CC Pg GE 110 [sl ac a,sl ac a2,.func (.func 93) [] []] (.bool r) []:=by
 have p2:=fun{sc F} (r:PS sc F)=>cw (cd.ln a)<|cw (cd.ln a2)<|r
 rcases aX h with⟨c1,h⟩|⟨c1,h⟩
 ·obtain rfl:=lf h
  have z:=p2<|sg 0 c1<|en (aI (rP (.bool false))<|trivial)
  exact ck Tu Tryz.call110 Tryz.func110 (c:=Vk) rfl (aI (aq ah a) (aI (aq ah a2) (aI (aI trivial trivial) trivial))) z (by kernel_rfl)
 ·obtain⟨o9,bo9,h⟩:=aA h
  rcases o9 with o9|o9
  ·obtain rfl:=lf h
   have z:=p2<|sg 0 c1<|cw (cd.ln a)<|di (e:=.ret) (s1:=gS (.inl o9)) (wS R78 a a2 (a.length:Int) 0 hR78 bo9)<|en (aI (rP (.bool false))<|trivial)
   exact ck Tu Tryz.call110 Tryz.func110 (c:=Vk) rfl (aI (aq ah a) (aI (aq ah a2) (aI (aI trivial trivial) trivial))) z (by kernel_rfl)
  ·obtain rfl:=lf h
   have z:=p2<|sg 0 c1<|cw (cd.ln a)<|di (e:=.exit 0) (s1:=gS (.inr o9)) (wS R78 a a2 (a.length:Int) 0 hR78 bo9)<|en (aI (rP (.bool true))<|trivial)
   exact ck Tu Tryz.call110 Tryz.func110 (c:=Vk) rfl (aI (aq ah a) (aI (aq ah a2) (aI (aI trivial trivial) trivial))) z (by kernel_rfl)
def qb0:Code:=Tryz.f93.body.getD .skip
def qbK:List Nat:=[]
def va(R78:nO)(a:aa)(a2:aa):Option Bool:=
 if (a.Op == a2.Op) = true then
  if(a.Name==a2.Name)=true then
   if(a.N==a2.N)=true then
    (ym R78 a.Kids a2.Kids).bind fun r7=>
    some r7
   else
    some false
  else
   some false
 else
  some false
theorem Md(R78:nO)(hR78:uy R78){a:aa}{a2:aa}{r:Bool}(h:va R78 a a2=some r):CC Pg GE 93 [.agg (ac a),.agg (ac a2)] (.bool r) []:=by
 have p2:=fun{sc F} (r:PS sc F)=>se (cf a)<|se (cf a2)<|sv (bq a)<|sv (bv a)<|sv (bq a2)<|sv (bv a2)<|r
 rcases aX h with⟨c1,h⟩|⟨c1,h⟩
 ·have p4:=fun{sc F} (r:PS sc F)=>p2<|sg 6 c1<|sv (cx a)<|sv (cJ a)<|sv (cx a2)<|sv (cJ a2)<|r
  rcases aX h with⟨c3,h⟩|⟨c3,h⟩
  ·have p6:=fun{sc F} (r:PS sc F)=>p4<|sg 13 c3<|sv (cO a)<|sv (dh a)<|sv (cO a2)<|sv (dh a2)<|r
   rcases aX h with⟨c5,h⟩|⟨c5,h⟩
   ·obtain⟨r7,br7,h⟩:=aA h
    obtain rfl:=lf h
    have z:=p6<|sg 20 c5<|sv (bu a)<|sv (bw a)<|sv (bu a2)<|sv (bw a2)<|bP (Me R78 hR78 br7)<|en (aI (rP (.bool r7))<|trivial)
    exact ck qbK Tryz.call93 Tryz.func93 (c:=qb0) rfl (aI (ah a) (aI (ah a2) trivial)) z (by kernel_rfl)
   ·obtain rfl:=lf h
    have z:=p6<|sg 20 c5<|en (aI (rP (.bool false))<|trivial)
    exact ck qbK Tryz.call93 Tryz.func93 (c:=qb0) rfl (aI (ah a) (aI (ah a2) trivial)) z (by kernel_rfl)
  ·obtain rfl:=lf h
   have z:=p4<|sg 13 c3<|en (aI (rP (.bool false))<|trivial)
   exact ck qbK Tryz.call93 Tryz.func93 (c:=qb0) rfl (aI (ah a) (aI (ah a2) trivial)) z (by kernel_rfl)
 ·obtain rfl:=lf h
  have z:=p2<|sg 6 c1<|en (aI (rP (.bool false))<|trivial)
  exact ck qbK Tryz.call93 Tryz.func93 (c:=qb0) rfl (aI (ah a) (aI (ah a2) trivial)) z (by kernel_rfl)
def AZ:((aa×aa)->Option Bool)->(aa×aa)->Option Bool:=fun(rec:(aa×aa)->Option Bool) (x:aa×aa)=>va (fun a a2=>rec (a,a2)) x.1 x.2
def iZ(a:aa)(a2:aa):Option Bool:=oP AZ (a,a2)
theorem oV{a:aa}{a2:aa}{r:Bool}(h:iZ a a2=some r):CC Pg GE 93 [.agg (ac a),.agg (ac a2)] (.bool r) []:=
 cR (F:=AZ) (M:=fun(x:aa×aa) (r:Bool)=>CC Pg GE 93 [.agg (ac x.1),.agg (ac x.2)] (.bool r) []) (fun rec hrec x r h=>Md _ (fun a a2 r h=>hrec (a,a2) r h) h) h
def qdK:Code:=Tryz.f69.body.getD .skip
def qdz:List Nat:=[]
def yt(p:aa):Option Bool:=
 (iZ p (⟨0,([]:ag),0,([]:List aa)⟩:aa)).bind fun r1=>
 some r1
theorem Iu{p:aa}{r:Bool}(h:yt p=some r):CC Pg GE 69 [.agg (ac p)] (.bool r) []:=by
 obtain⟨r1,br1,h⟩:=aA h
 obtain rfl:=lf h
 have z:=se (cf p)<|sv (aY p)<|sb (tN) (tL)<|bP (oV br1)<|en (aI (rP (.bool r1))<|trivial)
 exact ck qdz Tryz.call69 Tryz.func69 (c:=qdK) rfl (aI (ah p) trivial) z (by kernel_rfl)
def qdL:Code:=Tryz.f70.body.getD .skip
def qdA:List Nat:=[]
def ub(p:aa)(name:ag)(a:aa):Option aa:=
 (io p ([name]:List ag) ([a]:List aa)).bind fun r1=>
 some r1
theorem CQ{p:aa}{name:ag}{a:aa}{r:aa}(h:ub p name a=some r):CC Pg GE 70 [.agg (ac p),.str name,.agg (ac a)] (.agg (ac r)) [(3,36)]:=by
 obtain⟨r1,br1,h⟩:=aA h
 obtain rfl:=lf h
 have z:=se (cf p)<|se (cf a)<|sx lM<|sv (aY p)<|sv (bR.mk' (v:=PVal.str) L9 ([name]:List ag) 1 (by kernel_rfl))<|sv (aY a)<|sv (cd.mk' (v:=ff) dl ([a]:List aa) 1 (by kernel_rfl))<|bP (lK br1)<|sy (aE r1)<|en (aI (e9 r1)<|aI (ah r1)<|rT)
 exact ck qdA Tryz.call70 Tryz.func70 (c:=qdL) rfl (aI (ah p) (aI trivial (aI (ah a) trivial))) z (by kernel_rfl)
def qct:Code:=Tryz.f46.body.getD .skip
def qbG:List Nat:=[]
section
variable(t:ae)(v:aa)(m:waA)
def Ir:az:=aW 18 [(2,.eptr (af t)),(3,.eptr (ac v)),(4,.bptr 2 0)] [.dead,.dead,.cells [.int .i64 0,.str ([]:ag),.int .i64 0,sl ac m] [(3,36)]] []
def rI(o:Bool):az:=aW 18 [(2,.eptr (af t)),(3,.eptr (ac v)),(4,.bptr 2 0),(12,.bool o)] [.dead,.dead,.cells [.int .i64 0,.str ([]:ag),.int .i64 0,sl ac m] [(3,36)]] []
def wo:Option Bool:=
 if(t.Op==6)=true then
  some true
 else
  (yt t.Pred).bind fun r3=>
  some r3
theorem GH{x:Bool}(h:wo t=some x):
  aQ Pg GE 0 (cA qct 12) (EX .normal (rI t v m x)) (Ir t v m):=by
 have p2:=fun{sc F} (r:PS sc F)=>sv (aH t)<|sv (aJ t)<|r
 rcases aX h with⟨c1,h⟩|⟨c1,h⟩
 ·obtain rfl:=lf h
  exact ct qbG (p2<|sg 4 c1<|eF .normal (rI t v m true)) (by kernel_rfl)
 ·obtain⟨r3,br3,h⟩:=aA h
  obtain rfl:=lf h
  exact ct qbG (p2<|sg 4 c1<|sv (d9 t)<|sv (ec t)<|bP (Iu br3)<|eF .normal (rI t v m r3)) (by kernel_rfl)
end
def qa(t:ae)(a:aa):Option aa:=
 (wo t).bind fun o4=>
 if o4=true then
  some (⟨2,([]:ag),1,([]:List aa)⟩:aa)
 else
  (ub t.Pred ([118]:ag) a).bind fun r7=>
  some r7
theorem wq{t:ae}{a:aa}{r:aa}(h:qa t a=some r):CC Pg GE 46 [.agg (af t),.agg (ac a)] (.agg (ac r)) [(3,36)]:=by
 obtain⟨o4,bo4,h⟩:=aA h
 have p6:=fun{sc F} (r:PS sc F)=>se (co t)<|se (cf a)<|sx lM<|oe 1<|di (GH t a ([]:List aa) bo4)<|r
 rcases aX h with⟨c5,h⟩|⟨c5,h⟩
 ·obtain rfl:=lf h
  have z:=p6<|sg 0 c5<|sb (xT 2 1) (xQ 2 1)<|sy (aE (⟨2,([]:ag),1,([]:List aa)⟩:aa))<|en (aI (e9 (⟨2,([]:ag),1,([]:List aa)⟩:aa))<|aI (ah (⟨2,([]:ag),1,([]:List aa)⟩:aa))<|rT)
  exact ck qbG Tryz.call46 Tryz.func46 (c:=qct) rfl (aI (av t) (aI (ah a) trivial)) z (by kernel_rfl)
 ·obtain⟨r7,br7,h⟩:=aA h
  obtain rfl:=lf h
  have z:=p6<|sg 0 c5<|sv (d9 t)<|sv (ec t)<|sv (aY a)<|bP (CQ br7)<|sy (aE r7)<|en (aI (e9 r7)<|aI (ah r7)<|rT)
  exact ck qbG Tryz.call46 Tryz.func46 (c:=qct) rfl (aI (av t) (aI (ah a) trivial)) z (by kernel_rfl)
def qc5:Code:=Tryz.f25.body.getD .skip
def qcZ:List Nat:=[]
def sR(t:ae)(name:ag)(c:ak):Option ak:=
 (jp t).bind fun r1=>
 if(!r1)=true then
  some c
 else
  (vA t).bind fun r4=>
  (BU r4).bind fun r5=>
  (qa t (⟨3,name,0,([]:List aa)⟩:aa)).bind fun r6=>
  some (⟨2,name,r5.1,r6,0,([c]:List ak)⟩:ak)
theorem Iw{t:ae}{name:ag}{c:ak}{r:ak}(h:sR t name c=some r):CC Pg GE 25 [.agg (af t),.str name,.agg (ax c)] (.agg (ax r)) []:=by
 obtain⟨r1,br1,h⟩:=aA h
 have p3:=fun{sc F} (r:PS sc F)=>se (co t)<|se (AP c)<|sx y8<|sv (aZ t)<|bP (nm br1)<|r
 rcases aX h with⟨c2,h⟩|⟨c2,h⟩
 ·obtain rfl:=lf h
  have z:=p3<|sg 0 c2<|sv (qW c)<|sx (dJ c)<|en (aI (e8 c)<|(bJ c))
  exact ck qcZ Tryz.call25 Tryz.func25 (c:=qc5) rfl (aI (av t) (aI trivial (aI (bJ c) trivial))) z (by kernel_rfl)
 ·obtain⟨r4,br4,h⟩:=aA h
  obtain⟨r5,br5,h⟩:=aA h
  obtain⟨r6,br6,h⟩:=aA h
  obtain rfl:=lf h
  have z:=p3<|sg 0 c2<|sv (aZ t)<|bP (Bh br4)<|bP (KY br5)<|ra [0,0,0,0,8,28,0,64,255,511]<|sv (aZ t)<|sb (oG 3 name) (oF 3 name)<|bP (wq br6)<|sv (qW c)<|sv (za.mk' (v:=vB) pU ([c]:List ak) 1 (by kernel_rfl))<|sv (tM 2 name r5.1 r6 ([c]:List ak))<|sx (dJ (⟨2,name,r5.1,r6,0,([c]:List ak)⟩:ak))<|en (aI (e8 (⟨2,name,r5.1,r6,0,([c]:List ak)⟩:ak))<|(bJ (⟨2,name,r5.1,r6,0,([c]:List ak)⟩:ak)))
  exact ck qcZ Tryz.call25 Tryz.func25 (c:=qc5) rfl (aI (av t) (aI trivial (aI (bJ c) trivial))) z (by kernel_rfl)
abbrev lD:=(waD->Option ak)
abbrev pC(R:lD):Prop:=∀(a:waD) (r:ak),R a=some r->CC Pg GE 42 [sl ax a] (.agg (ax r)) [(6,36),(8,50)]
abbrev iw:=(ak->Option ak)
abbrev lT(R:iw):Prop:=∀(c:ak) (r:ak),R c=some r->CC Pg GE 67 [.agg (ax c)] (.agg (ax r)) [(6,36),(8,50)]
def qcv:Code:=Tryz.f67.body.getD .skip
def qcf:List Nat:=[20]
section
variable(R82:iw)(t13:waD)(t14:Int)(m:waA)(m2:waD)(m3:Int)(m4:ag)(m5:ag)(m6:Int)(m7:ag)(m8:Int)(m9:waA)(m10:Int)(t15:Int)(m11:waD)
def ej:az:=aW 28 [(2,.bptr 1 0),(3,.bptr 2 0),(13,sl ax t13),(14,.int .i64 t14),(15,.int .i64 t15)] [.dead,.cells [.int .i64 0,.str ([]:ag),.str ([]:ag),.int .i64 0,.str ([]:ag),.int .i64 0,sl ac m,.int .i64 0,sl ax m2] [(6,36),(8,50)],.cells [.int .i64 m3,.str m4,.str m5,.int .i64 m6,.str m7,.int .i64 m8,sl ac m9,.int .i64 m10,sl ax m11] [(8,50),(6,36)]] []
def ji(o:waD):az:=aW 28 [(2,.bptr 1 0),(3,.bptr 2 0)] [.dead,.cells [.int .i64 0,.str ([]:ag),.str ([]:ag),.int .i64 0,.str ([]:ag),.int .i64 0,sl ac m,.int .i64 0,sl ax m2] [(6,36),(8,50)],.cells [.int .i64 m3,.str m4,.str m5,.int .i64 m6,.str m7,.int .i64 m8,sl ac m9,.int .i64 m10,sl ax o] [(8,50),(6,36)]] []
def oL:Option ((Int×waD)⊕(waD)):=
 if(decide (t15<t14))=true then
  (cH t13 t15).bind fun x3=>
  (R82 x3).bind fun r4=>
  (app m11 ([r4]:List ak)).bind fun l5=>
  some (.inl (aO (t15+1),l5))
 else
  some (.inr m11)
def kM:Option waD:=loop (fun(zz:Int×waD)=>oL R82 t13 t14 zz.1 zz.2) (t15,m11)
theorem vZ(hR82:lT R82){y:(Int×waD)⊕(waD)}(h:oL R82 t13 t14 t15 m11=some y):
  aQ Pg GE 0 (cA qcv 503) (LQ (fun(zz:Int×waD)=>ej t13 t14 m m2 m3 m4 m5 m6 m7 m8 m9 m10 zz.1 zz.2) (fun _=>.exit 0) (ji m m2 m3 m4 m5 m6 m7 m8 m9 m10) y) (ej t13 t14 m m2 m3 m4 m5 m6 m7 m8 m9 m10 t15 m11):=by
 rcases aX h with⟨c2,h⟩|⟨c2,h⟩
 ·obtain⟨x3,bx3,h⟩:=aA h
  obtain⟨r4,br4,h⟩:=aA h
  obtain⟨l5,bl5,h⟩:=aA h
  obtain rfl:=lf h
  have z:=sg 0 c2<|sv (za.ia (k:=.i64) bx3)<|sv (qW x3)<|sx y8<|sx (dJ x3)<|ra [0,1,0,4,12,31,63,127]<|sv (iS x3 [])<|bP (hR82 _ _ br4)<|sv (za.mk' (v:=vB) pU ([r4]:List ak) 1 (by kernel_rfl))<|sv (za.ap bl5)<|WY (rfl:bQ (sl ax l5)=some [sl ax l5])<|y4 0 .normal (ej t13 t14 m m2 m3 m4 m5 m6 m7 m8 m9 m10 (aO (t15+1)) l5) rfl (eh (aI (d7 rfl) (aI (d7 rfl) (aI (up (aq bJ t13)) (aI trivial (aI trivial trivial)))))) (aI trivial (aI (aI trivial (aI trivial (aI trivial (aI trivial (aI trivial (aI trivial (aI (up (aq ah m)) (aI trivial (aI (up (aq bJ m2)) trivial))))))))) (aI (aI trivial (aI trivial (aI trivial (aI trivial (aI trivial (aI trivial (aI (up (aq ah m9)) (aI trivial (aI (up (aq bJ l5)) trivial))))))))) trivial)))
  exact dV (A:=qcf) mixed z (by kernel_rfl)
 ·obtain rfl:=lf h
  have z:=sg 0 c2<|eF (.exit 0) (ji m m2 m3 m4 m5 m6 m7 m8 m9 m10 m11)
  exact iW qcf (by intro hx;cases hx) z (by kernel_rfl)
theorem wG(hR82:lT R82){x:waD}(h:kM R82 t13 t14 t15 m11=some x):
  aQ Pg GE 0 (.loop (cA qcv 503)) (EX (.exit 0) (ji m m2 m3 m4 m5 m6 m7 m8 m9 m10 x)) (ej t13 t14 m m2 m3 m4 m5 m6 m7 m8 m9 m10 t15 m11):=
 aQ.loop (S:=fun(zz:Int×waD)=>ej t13 t14 m m2 m3 m4 m5 m6 m7 m8 m9 m10 zz.1 zz.2) (ex:=(fun _=>.exit 0)) (s:=(t15,m11)) h fun zz y hy=>vZ R82 t13 t14 m m2 m3 m4 m5 m6 m7 m8 m9 m10 zz.1 zz.2 hR82 hy
end
def iz(R82:iw)(c:ak):Option ak:=
 (io c.Pred ([]:List ag) ([]:List aa)).bind fun r1=>
 (kM R82 c.Kids (c.Kids.length:Int) 0 ([]:List ak)).bind fun o6=>
 some (⟨c.Op,c.Name,c.Sort_,r1,c.Tag,o6⟩:ak)
theorem yY(R82:iw)(hR82:lT R82){c:ak}{r:ak}(h:iz R82 c=some r):CC Pg GE 67 [.agg (ax c)] (.agg (ax r)) [(6,36),(8,50)]:=by
 obtain⟨r1,br1,h⟩:=aA h
 obtain⟨o6,bo6,h⟩:=aA h
 obtain rfl:=lf h
 have z:=se (AP c)<|sx y8<|sv (qW c)<|sx y8<|sx (dJ c)<|sv (v6 c)<|sv (wg c)<|bP (lK br1)<|sy (aE r1)<|qb5 (.ar 0 50 0 [])<|sv (CH c)<|sv (CL c)<|cw (za.ln c.Kids)<|di (wG R82 c.Kids (c.Kids.length:Int) ([]:List aa) ([]:List ak) c.Op c.Name c.Sort_ r1.Op r1.Name r1.N r1.Kids c.Tag 0 ([]:List ak) hR82 bo6)<|sz (iS (⟨c.Op,c.Name,c.Sort_,r1,c.Tag,o6⟩:ak) [])<|sy (cz (⟨c.Op,c.Name,c.Sort_,r1,c.Tag,o6⟩:ak))<|en (aI (e8 (⟨c.Op,c.Name,c.Sort_,r1,c.Tag,o6⟩:ak))<|aI (bJ (⟨c.Op,c.Name,c.Sort_,r1,c.Tag,o6⟩:ak))<|rT)
 exact ck qcf Tryz.call67 Tryz.func67 (c:=qcv) rfl (aI (bJ c) trivial) z (by kernel_rfl)
def mb:(ak->Option ak)->(ak)->Option ak:=fun(rec:ak->Option ak) (x:ak)=>iz (fun c=>rec c) x
def kh(c:ak):Option ak:=oP mb c
theorem AB{c:ak}{r:ak}(h:kh c=some r):CC Pg GE 67 [.agg (ax c)] (.agg (ax r)) [(6,36),(8,50)]:=
 cR (F:=mb) (M:=fun(x:ak) (r:ak)=>CC Pg GE 67 [.agg (ax x)] (.agg (ax r)) [(6,36),(8,50)]) (fun rec hrec x r h=>yY _ (fun c r h=>hrec c r h) h) h
def qbQ:Code:=Tryz.f42.body.getD .skip
def Z9:List Nat:=[22,29]
section
variable(t7:waD)(t8:Int)(t9:Int)(m:waA)(m2:waD)(m3:waD)(m4:Int)(m5:ag)(m6:ag)(m7:Int)(m8:ag)(m9:Int)(m10:waA)(m11:Int)(m12:waD)
def B9:az:=aW 38 [(2,.bptr 0 0),(3,.bptr 1 0),(5,.bptr 2 0),(7,sl ax t7),(8,.int .i64 t8),(9,.int .i64 t9)] [.cells [.int .i64 0,.str ([]:ag),.str ([]:ag),.int .i64 0,.str ([]:ag),.int .i64 0,sl ac m,.int .i64 0,sl ax m2] [(6,36),(8,50)],.cells [.int .i64 1,.str ([]:ag),.str ([]:ag),.int .i64 0,.str ([]:ag),.int .i64 0,sl ac m,.int .i64 0,sl ax m3] [(6,36),(8,50)],.cells [.int .i64 m4,.str m5,.str m6,.int .i64 m7,.str m8,.int .i64 m9,sl ac m10,.int .i64 m11,sl ax m12] []] []
def lZ(o:Bool):az:=aW 38 [(2,.bptr 0 0),(3,.bptr 1 0),(5,.bptr 2 0),(7,sl ax t7),(8,.int .i64 t8),(9,.int .i64 t9),(20,.bool o)] [.cells [.int .i64 0,.str ([]:ag),.str ([]:ag),.int .i64 0,.str ([]:ag),.int .i64 0,sl ac m,.int .i64 0,sl ax m2] [(6,36),(8,50)],.cells [.int .i64 1,.str ([]:ag),.str ([]:ag),.int .i64 0,.str ([]:ag),.int .i64 0,sl ac m,.int .i64 0,sl ax m3] [(6,36),(8,50)],.cells [.int .i64 m4,.str m5,.str m6,.int .i64 m7,.str m8,.int .i64 m9,sl ac m10,.int .i64 m11,sl ax m12] []] []
def kg:Option Bool:=
 if(m4==2)=true then
  some true
 else
  some (m4==3)
theorem Az{x:Bool}(h:kg m4=some x):
  aQ Pg GE 0 (cA qbQ 7670) (EX .normal (lZ t7 t8 t9 m m2 m3 m4 m5 m6 m7 m8 m9 m10 m11 m12 x)) (B9 t7 t8 t9 m m2 m3 m4 m5 m6 m7 m8 m9 m10 m11 m12):=by
 rcases aX h with⟨c3,h⟩|⟨c3,h⟩
 ·obtain rfl:=lf h
  exact ct Z9 (ss<|sg 4 c3<|eF .normal (lZ t7 t8 t9 m m2 m3 m4 m5 m6 m7 m8 m9 m10 m11 m12 true)) (by kernel_rfl)
 ·obtain rfl:=lf h
  exact ct Z9 (ss<|sg 4 c3<|ss<|eF .normal (lZ t7 t8 t9 m m2 m3 m4 m5 m6 m7 m8 m9 m10 m11 m12 (m4==3))) (by kernel_rfl)
end
section
variable(R81:lD)(t7:waD)(t8:Int)(m:waA)(m2:waD)(t9:Int)(m3:waD)
def eI:az:=aW 38 [(2,.bptr 0 0),(3,.bptr 1 0),(7,sl ax t7),(8,.int .i64 t8),(9,.int .i64 t9)] [.cells [.int .i64 0,.str ([]:ag),.str ([]:ag),.int .i64 0,.str ([]:ag),.int .i64 0,sl ac m,.int .i64 0,sl ax m2] [(6,36),(8,50)],.cells [.int .i64 1,.str ([]:ag),.str ([]:ag),.int .i64 0,.str ([]:ag),.int .i64 0,sl ac m,.int .i64 0,sl ax m3] [(6,36),(8,50)]] []
def ma(o:waD):az:=aW 38 [(2,.bptr 0 0),(3,.bptr 1 0)] [.cells [.int .i64 0,.str ([]:ag),.str ([]:ag),.int .i64 0,.str ([]:ag),.int .i64 0,sl ac m,.int .i64 0,sl ax m2] [(6,36),(8,50)],.cells [.int .i64 1,.str ([]:ag),.str ([]:ag),.int .i64 0,.str ([]:ag),.int .i64 0,sl ac m,.int .i64 0,sl ax o] [(6,36),(8,50)]] []
def rV:Option ((Int×waD)⊕(waD)):=
 if(decide (t9<t8))=true then
  (cH t7 t9).bind fun x2=>
  (kg x2.Op).bind fun o4=>
  if o4=true then
   (kh x2).bind fun r7=>
   (app m3 ([r7]:List ak)).bind fun l8=>
   some (.inl (aO (t9+1),l8))
  else
   (R81 x2.Kids).bind fun r9=>
   (app m3 r9.Kids).bind fun l10=>
   some (.inl (aO (t9+1),l10))
 else
  some (.inr m3)
def oK:Option waD:=loop (fun(zz:Int×waD)=>rV R81 t7 t8 zz.1 zz.2) (t9,m3)
theorem yX(hR81:pC R81){y:(Int×waD)⊕(waD)}(h:rV R81 t7 t8 t9 m3=some y):
  aQ Pg GE 0 (cA qbQ 119) (LQ (fun(zz:Int×waD)=>eI t7 t8 m m2 zz.1 zz.2) (fun _=>.exit 0) (ma m m2) y) (eI t7 t8 m m2 t9 m3):=by
 rcases aX h with⟨c1,h⟩|⟨c1,h⟩
 ·obtain⟨x2,bx2,h⟩:=aA h
  obtain⟨o4,bo4,h⟩:=aA h
  have p6:=fun{sc F} (r:PS sc F)=>sg 0 c1<|sv (za.ia (k:=.i64) bx2)<|sv (qW x2)<|sx y8<|sx (dJ x2)<|oe 0<|di (Az t7 t8 t9 m m2 m3 x2.Op x2.Name x2.Sort_ x2.Pred.Op x2.Pred.Name x2.Pred.N x2.Pred.Kids x2.Tag x2.Kids bo4)<|r
  rcases aX h with⟨c5,h⟩|⟨c5,h⟩
  ·obtain⟨r7,br7,h⟩:=aA h
   obtain⟨l8,bl8,h⟩:=aA h
   obtain rfl:=lf h
   have z:=p6<|sg 0 c5<|ra [0,1,0,4,12,31,63,127]<|sv (iS x2 [])<|bP (AB br7)<|sv (za.mk' (v:=vB) pU ([r7]:List ak) 1 (by kernel_rfl))<|sv (za.ap bl8)<|WY (rfl:bQ (sl ax l8)=some [sl ax l8])<|y4 0 .normal (eI t7 t8 m m2 (aO (t9+1)) l8) rfl (eh (aI (d7 rfl) (aI (d7 rfl) (aI (up (aq bJ t7)) (aI trivial (aI trivial trivial)))))) (aI (aI trivial (aI trivial (aI trivial (aI trivial (aI trivial (aI trivial (aI (up (aq ah m)) (aI trivial (aI (up (aq bJ m2)) trivial))))))))) (aI (aI trivial (aI trivial (aI trivial (aI trivial (aI trivial (aI trivial (aI (up (aq ah m)) (aI trivial (aI (up (aq bJ l8)) trivial))))))))) trivial))
   exact dV (A:=Z9) mixed z (by kernel_rfl)
  ·obtain⟨r9,br9,h⟩:=aA h
   obtain⟨l10,bl10,h⟩:=aA h
   obtain rfl:=lf h
   have z:=p6<|sg 0 c5<|ra [0,1,0,4,12,28,63,127,255]<|ss<|bP (hR81 _ _ br9)<|sv (RC r9)<|sv (za.ap bl10)<|WY (rfl:bQ (sl ax l10)=some [sl ax l10])<|y4 0 .normal (eI t7 t8 m m2 (aO (t9+1)) l10) rfl (eh (aI (d7 rfl) (aI (d7 rfl) (aI (up (aq bJ t7)) (aI trivial (aI trivial trivial)))))) (aI (aI trivial (aI trivial (aI trivial (aI trivial (aI trivial (aI trivial (aI (up (aq ah m)) (aI trivial (aI (up (aq bJ m2)) trivial))))))))) (aI (aI trivial (aI trivial (aI trivial (aI trivial (aI trivial (aI trivial (aI (up (aq ah m)) (aI trivial (aI (up (aq bJ l10)) trivial))))))))) trivial))
   exact dV (A:=Z9) mixed z (by kernel_rfl)
 ·obtain rfl:=lf h
  have z:=sg 0 c1<|eF (.exit 0) (ma m m2 m3)
  exact iW Z9 (by intro hx;cases hx) z (by kernel_rfl)
theorem AA(hR81:pC R81){x:waD}(h:oK R81 t7 t8 t9 m3=some x):
  aQ Pg GE 0 (.loop (cA qbQ 119)) (EX (.exit 0) (ma m m2 x)) (eI t7 t8 m m2 t9 m3):=
 aQ.loop (S:=fun(zz:Int×waD)=>eI t7 t8 m m2 zz.1 zz.2) (ex:=(fun _=>.exit 0)) (s:=(t9,m3)) h fun zz y hy=>yX R81 t7 t8 m m2 zz.1 zz.2 hR81 hy
end
def lH(R81:lD)(a:waD):Option ak:=
 (oK R81 a (a.length:Int) 0 ([]:List ak)).bind fun o11=>
 some (⟨1,([]:ag),([]:ag),(⟨0,([]:ag),0,([]:List aa)⟩:aa),0,o11⟩:ak)
theorem Dg(R81:lD)(hR81:pC R81){a:waD}{r:ak}(h:lH R81 a=some r):CC Pg GE 42 [sl ax a] (.agg (ax r)) [(6,36),(8,50)]:=by
 obtain⟨o11,bo11,h⟩:=aA h
 obtain rfl:=lf h
 have z:=sx y8<|sb (Dc 1) (Da 1)<|sx y8<|sy (cz (⟨1,([]:ag),([]:ag),(⟨0,([]:ag),0,([]:List aa)⟩:aa),0,([]:List ak)⟩:ak))<|cw (za.ln a)<|di (AA R81 a (a.length:Int) ([]:List aa) ([]:List ak) 0 ([]:List ak) hR81 bo11)<|sz (iS (⟨1,([]:ag),([]:ag),(⟨0,([]:ag),0,([]:List aa)⟩:aa),0,o11⟩:ak) [])<|sy (cz (⟨1,([]:ag),([]:ag),(⟨0,([]:ag),0,([]:List aa)⟩:aa),0,o11⟩:ak))<|en (aI (e8 (⟨1,([]:ag),([]:ag),(⟨0,([]:ag),0,([]:List aa)⟩:aa),0,o11⟩:ak))<|aI (bJ (⟨1,([]:ag),([]:ag),(⟨0,([]:ag),0,([]:List aa)⟩:aa),0,o11⟩:ak))<|rT)
 exact ck Z9 Tryz.call42 Tryz.func42 (c:=qbQ) rfl (aI (aq bJ a) trivial) z (by kernel_rfl)
def pK:(waD->Option ak)->(waD)->Option ak:=fun(rec:waD->Option ak) (x:waD)=>lH (fun a=>rec a) x
def oJ(a:waD):Option ak:=oP pK a
theorem uV{a:waD}{r:ak}(h:oJ a=some r):CC Pg GE 42 [sl ax a] (.agg (ax r)) [(6,36),(8,50)]:=
 cR (F:=pK) (M:=fun(x:waD) (r:ak)=>CC Pg GE 42 [sl ax x] (.agg (ax r)) [(6,36),(8,50)]) (fun rec hrec x r h=>Dg _ (fun a r h=>hrec a r h) h) h
def Yz:Code:=Tryz.f54.body.getD .skip
def Xi:List Nat:=[36,57,72,76]
section
variable(used:waB)(w:aM)(v:ae)(v2:ae)(n:Int)(left:waC)(right:waC)(v3:waB)(v4:waB)(i:Int)(m:waA)(m2:waD)
def rR:az:=aW 138 [(3,sl cS used),(4,.eptr (aL w)),(5,.eptr (af v)),(6,.eptr (af v2)),(8,.bptr 3 0),(9,.int .i64 n),(10,sl af left),(11,sl af right),(12,sl cS v3),(13,sl cS v4),(14,.int .i64 i),(15,.str ([120]:ag)),(33,.int .i64 n),(34,.int .i64 i)] [.dead,.dead,.dead,.cells [.int .i64 0,.str ([]:ag),.str ([]:ag),.int .i64 0,.str ([]:ag),.int .i64 0,sl ac m,.int .i64 0,sl ax m2] [(6,36),(8,50)]] [((13,0),9),((12,0),9)]
def fM(o:ag):az:=aW 138 [(3,sl cS used),(4,.eptr (aL w)),(5,.eptr (af v)),(6,.eptr (af v2)),(8,.bptr 3 0),(9,.int .i64 n),(10,sl af left),(11,sl af right),(12,sl cS v3),(13,sl cS v4),(14,.int .i64 i),(15,.str o),(33,.int .i64 n),(34,.int .i64 i)] [.dead,.dead,.dead,.cells [.int .i64 0,.str ([]:ag),.str ([]:ag),.int .i64 0,.str ([]:ag),.int .i64 0,sl ac m,.int .i64 0,sl ax m2] [(6,36),(8,50)]] [((13,0),9),((12,0),9)]
def eA:Option ag:=
 if(decide (i<(v2.Names.length:Int)))=true then
  (cH v2.Names i).bind fun x5=>
  some x5
 else
  some ([120]:ag)
theorem rb{x:ag}(h:eA v2 i=some x):
  aQ Pg GE 0 (cA Yz 130030) (EX .normal (fM used w v v2 n left right v3 v4 i m m2 x)) (rR used w v v2 n left right v3 v4 i m m2):=by
 have p4:=fun{sc F} (r:PS sc F)=>sv (be v2)<|sv (bh v2)<|cw (bR.ln v2.Names)<|r
 rcases aX h with⟨c3,h⟩|⟨c3,h⟩
 ·obtain⟨x5,bx5,h⟩:=aA h
  obtain rfl:=lf h
  exact ct Xi (p4<|sg 0 c3<|sv (be v2)<|sv (bh v2)<|sv (bR.ia (k:=.i64) bx5)<|sv (iY Nd (.str x5) [])<|eF .normal (fM used w v v2 n left right v3 v4 i m m2 x5)) (by kernel_rfl)
 ·obtain rfl:=lf h
  exact ct Xi (p4<|sg 0 c3<|eF .normal (fM used w v v2 n left right v3 v4 i m m2 ([120]:ag))) (by kernel_rfl)
end
section
variable(used:waB)(w:aM)(v:ae)(v2:ae)(n:Int)(left:waC)(right:waC)(v3:waB)(v4:waB)(i:Int)(name:ag)(t51:waC)(t52:Int)(m:waA)(m2:waD)(taken:waB)(t53:Int)
def da:az:=aW 138 [(3,sl cS used),(4,.eptr (aL w)),(5,.eptr (af v)),(6,.eptr (af v2)),(8,.bptr 3 0),(9,.int .i64 n),(10,sl af left),(11,sl af right),(12,sl cS v3),(13,sl cS v4),(14,.int .i64 i),(15,.str name),(16,sl cS taken),(33,.int .i64 n),(34,.int .i64 i),(51,sl af t51),(52,.int .i64 t52),(53,.int .i64 t53)] [.dead,.dead,.dead,.cells [.int .i64 0,.str ([]:ag),.str ([]:ag),.int .i64 0,.str ([]:ag),.int .i64 0,sl ac m,.int .i64 0,sl ax m2] [(6,36),(8,50)]] [((51,0),38),((16,0),9),((13,0),9),((12,0),9)]
def fO(o:waB):az:=aW 138 [(3,sl cS used),(4,.eptr (aL w)),(5,.eptr (af v)),(6,.eptr (af v2)),(8,.bptr 3 0),(9,.int .i64 n),(10,sl af left),(11,sl af right),(12,sl cS v3),(13,sl cS v4),(14,.int .i64 i),(15,.str name),(16,sl cS o),(33,.int .i64 n),(34,.int .i64 i)] [.dead,.dead,.dead,.cells [.int .i64 0,.str ([]:ag),.str ([]:ag),.int .i64 0,.str ([]:ag),.int .i64 0,sl ac m,.int .i64 0,sl ax m2] [(6,36),(8,50)]] [((16,0),9),((13,0),9),((12,0),9)]
def bN:Option ((waB×Int)⊕(waB)):=
 if(decide (t53<t52))=true then
  (cH t51 t53).bind fun x9=>
  (K3 x9.Names (some (if(x9.Names.length:Int)<(aO (i+1))then(x9.Names.length:Int)else aO (i+1))) none).bind fun l10=>
  (app taken l10).bind fun l11=>
  some (.inl (l11,aO (t53+1)))
 else
  some (.inr taken)
def eC:Option waB:=loop (fun(zz:waB×Int)=>bN i t51 t52 zz.1 zz.2) (taken,t53)
theorem qf{y:(waB×Int)⊕(waB)}(h:bN i t51 t52 taken t53=some y):
  aQ Pg GE 0 (cA Yz 4161015) (LQ (fun(zz:waB×Int)=>da used w v v2 n left right v3 v4 i name t51 t52 m m2 zz.1 zz.2) (fun _=>.exit 2) (fO used w v v2 n left right v3 v4 i name m m2) y) (da used w v v2 n left right v3 v4 i name t51 t52 m m2 taken t53):=by
 rcases aX h with⟨c8,h⟩|⟨c8,h⟩
 ·obtain⟨x9,bx9,h⟩:=aA h
  obtain⟨l10,bl10,h⟩:=aA h
  obtain⟨l11,bl11,h⟩:=aA h
  obtain rfl:=lf h
  have z:=sg 0 c8<|sv (cQ.ia (k:=.i64) bx9)<|sv (aZ x9)<|sx A6<|sx (iX x9)<|ss<|ss<|cw (bR.ln x9.Names)<|sv (bR.sc bl10)<|sv (bR.ap bl11)<|y4 0 .normal (da used w v v2 n left right v3 v4 i name t51 t52 m m2 l11 (aO (t53+1))) rfl (eh (aI (up (aq iu used)) (aI (oI (cF w)) (aI (oI (av v)) (aI (oI (av v2)) (aI (d7 rfl) (aI trivial (aI (up (aq av left)) (aI (up (aq av right)) (aI (up (aq iu v3)) (aI (up (aq iu v4)) (aI trivial (aI trivial (aI (up (aq iu l11)) (aI trivial (aI trivial (aI (up (aq av t51)) (aI trivial (aI trivial trivial))))))))))))))))))) (aI trivial (aI trivial (aI trivial (aI (aI trivial (aI trivial (aI trivial (aI trivial (aI trivial (aI trivial (aI (up (aq ah m)) (aI trivial (aI (up (aq bJ m2)) trivial))))))))) trivial))))
  exact dV (A:=Xi) mixed z (by kernel_rfl)
 ·obtain rfl:=lf h
  have z:=sg 0 c8<|eF (.exit 2) (fO used w v v2 n left right v3 v4 i name m m2 taken)
  exact iW Xi (by intro hx;cases hx) z (by kernel_rfl)
theorem rh{x:waB}(h:eC i t51 t52 taken t53=some x):
  aQ Pg GE 0 (.loop (cA Yz 4161015)) (EX (.exit 2) (fO used w v v2 n left right v3 v4 i name m m2 x)) (da used w v v2 n left right v3 v4 i name t51 t52 m m2 taken t53):=
 aQ.loop (S:=fun(zz:waB×Int)=>da used w v v2 n left right v3 v4 i name t51 t52 m m2 zz.1 zz.2) (ex:=(fun _=>.exit 2)) (s:=(taken,t53)) h fun zz y hy=>qf used w v v2 n left right v3 v4 i name t51 t52 m m2 zz.1 zz.2 hy
end
section
variable(used:waB)(w:aM)(v:ae)(v2:ae)(n:Int)(m:waA)(m2:waD)(left:waC)(right:waC)(v3:waB)(v4:waB)(t34:Int)
def cZ:az:=aW 138 [(3,sl cS used),(4,.eptr (aL w)),(5,.eptr (af v)),(6,.eptr (af v2)),(8,.bptr 3 0),(9,.int .i64 n),(10,sl af left),(11,sl af right),(12,sl cS v3),(13,sl cS v4),(33,.int .i64 n),(34,.int .i64 t34)] [.dead,.dead,.dead,.cells [.int .i64 0,.str ([]:ag),.str ([]:ag),.int .i64 0,.str ([]:ag),.int .i64 0,sl ac m,.int .i64 0,sl ax m2] [(6,36),(8,50)]] [((13,0),9),((12,0),9)]
def fN(o:waC×waC×waB×waB):az:=aW 138 [(3,sl cS used),(4,.eptr (aL w)),(8,.bptr 3 0),(9,.int .i64 n),(10,sl af o.1),(11,sl af o.2.1),(12,sl cS o.2.2.1),(13,sl cS o.2.2.2)] [.dead,.dead,.dead,.cells [.int .i64 0,.str ([]:ag),.str ([]:ag),.int .i64 0,.str ([]:ag),.int .i64 0,sl ac m,.int .i64 0,sl ax m2] [(6,36),(8,50)]] [((13,0),9),((12,0),9)]
def cE:Option ((waC×waC×waB×waB×Int)⊕((waC×waC×waB×waB))):=
 if(decide (t34<n))=true then
  (eA v2 t34).bind fun o6=>
  (kK v4).bind fun r7=>
  (eC t34 ([v,v2]:List ae) (([v,v2]:List ae).length:Int) r7 0).bind fun o12=>
  (kY o12 o6).bind fun r13=>
  (app v4 ([r13]:List ag)).bind fun l14=>
  (app v3 ([r13]:List ag)).bind fun l15=>
  (i8 left v t34 r13).bind fun r16=>
  (i8 right v2 t34 r13).bind fun r17=>
  some (.inl (r16,r17,l15,l14,aO (t34+1)))
 else
  some (.inr (left,right,v3,v4))
def eB:Option ((waC×waC×waB×waB)):=loop (fun(zz:waC×waC×waB×waB×Int)=>cE v v2 n zz.1 zz.2.1 zz.2.2.1 zz.2.2.2.1 zz.2.2.2.2) (left,right,v3,v4,t34)
theorem qe{y:(waC×waC×waB×waB×Int)⊕((waC×waC×waB×waB))}(h:cE v v2 n left right v3 v4 t34=some y):
  aQ Pg GE 0 (cA Yz 1015) (LQ (fun(zz:waC×waC×waB×waB×Int)=>cZ used w v v2 n m m2 zz.1 zz.2.1 zz.2.2.1 zz.2.2.2.1 zz.2.2.2.2) (fun _=>.exit 0) (fN used w n m m2) y) (cZ used w v v2 n m m2 left right v3 v4 t34):=by
 rcases aX h with⟨c2,h⟩|⟨c2,h⟩
 ·obtain⟨o6,bo6,h⟩:=aA h
  obtain⟨r7,br7,h⟩:=aA h
  obtain⟨o12,bo12,h⟩:=aA h
  obtain⟨r13,br13,h⟩:=aA h
  obtain⟨l14,bl14,h⟩:=aA h
  obtain⟨l15,bl15,h⟩:=aA h
  obtain⟨r16,br16,h⟩:=aA h
  obtain⟨r17,br17,h⟩:=aA h
  obtain rfl:=lf h
  exact rF Xi (sg 0 c2<|oe 3<|di (rb used w v v2 n left right v3 v4 t34 m m2 bo6)<|bP (Df br7)<|sv (aZ v)<|sv (aZ v2)<|sv (cQ.mk' (v:=lO) gi ([v,v2]:List ae) 2 (by kernel_rfl))<|cw (cQ.ln ([v,v2]:List ae))<|di (rh used w v v2 n left right v3 v4 t34 o6 ([v,v2]:List ae) (([v,v2]:List ae).length:Int) m m2 r7 0 bo12)<|bP (tV br13)<|sv (bR.mk' (v:=PVal.str) L9 ([r13]:List ag) 1 (by kernel_rfl))<|sv (bR.ap bl14)<|sv (bR.mk' (v:=PVal.str) L9 ([r13]:List ag) 1 (by kernel_rfl))<|sv (bR.ap bl15)<|ra [0,0,0,0,15,0,0,0,0,511,1023,2047]<|sv (aZ v)<|bP (rZ br16)<|sv (aZ v2)<|bP (rZ br17)<|eF .normal (cZ used w v v2 n m m2 r16 r17 l15 l14 (aO (t34+1)))) (by kernel_rfl)
 ·obtain rfl:=lf h
  have z:=sg 0 c2<|eF (.exit 0) (fN used w n m m2 (left,right,v3,v4))
  exact iW Xi (by intro hx;cases hx) z (by kernel_rfl)
theorem rf{x:(waC×waC×waB×waB)}(h:eB v v2 n left right v3 v4 t34=some x):
  aQ Pg GE 0 (.loop (cA Yz 1015)) (EX (.exit 0) (fN used w n m m2 x)) (cZ used w v v2 n m m2 left right v3 v4 t34):=
 aQ.loop (S:=fun(zz:waC×waC×waB×waB×Int)=>cZ used w v v2 n m m2 zz.1 zz.2.1 zz.2.2.1 zz.2.2.2.1 zz.2.2.2.2) (ex:=(fun _=>.exit 0)) (s:=(left,right,v3,v4,t34)) h fun zz y hy=>qe used w v v2 n m m2 zz.1 zz.2.1 zz.2.2.1 zz.2.2.2.1 zz.2.2.2.2 hy
end
section
variable(R51:du)(used:waB)(w:aM)(left:waC)(right:waC)(v:waB)(v2:waB)(m:waA)(m2:waD)(i:Int)(m3:Int)(m4:ag)(m5:ag)(m6:Int)(m7:ag)(m8:Int)(m9:waA)(m10:Int)(m11:waD)
def db:az:=aW 138 [(3,sl cS used),(4,.eptr (aL w)),(8,.bptr 3 0),(10,sl af left),(11,sl af right),(12,sl cS v),(13,sl cS v2),(20,.bptr 4 0),(21,.int .i64 i)] [.dead,.dead,.dead,.cells [.int .i64 0,.str ([]:ag),.str ([]:ag),.int .i64 0,.str ([]:ag),.int .i64 0,sl ac m,.int .i64 0,sl ax m2] [(6,36),(8,50)],.cells [.int .i64 m3,.str m4,.str m5,.int .i64 m6,.str m7,.int .i64 m8,sl ac m9,.int .i64 m10,sl ax m11] []] [((13,0),9),((12,0),9)]
def fP(o:Int×ag×ag×Int×ag×Int×waA×Int×waD):az:=aW 138 [(8,.bptr 3 0),(20,.bptr 4 0)] [.dead,.dead,.dead,.cells [.int .i64 0,.str ([]:ag),.str ([]:ag),.int .i64 0,.str ([]:ag),.int .i64 0,sl ac m,.int .i64 0,sl ax m2] [(6,36),(8,50)],.cells [.int .i64 o.1,.str o.2.1,.str o.2.2.1,.int .i64 o.2.2.2.1,.str o.2.2.2.2.1,.int .i64 o.2.2.2.2.2.1,sl ac o.2.2.2.2.2.2.1,.int .i64 o.2.2.2.2.2.2.2.1,sl ax o.2.2.2.2.2.2.2.2] []] []
def bO:Option ((Int×Int×ag×ag×Int×ag×Int×waA×Int×waD)⊕((Int×ag×ag×Int×ag×Int×waA×Int×waD))):=
 if(decide (i>=0))=true then
  (K3 v2 none (some (aO ((used.length:Int)+i)))).bind fun l23=>
  (cH right i).bind fun x24=>
  (cH left i).bind fun x25=>
  (R51 w x24 x25 l23).bind fun r26=>
  (cH right i).bind fun x27=>
  (cH v i).bind fun x28=>
  (sR x27 x28 (⟨m3,m4,m5,(⟨m6,m7,m8,m9⟩:aa),m10,m11⟩:ak)).bind fun r29=>
  (oJ ([r26,r29]:List ak)).bind fun r30=>
  some (.inl (aO (i - 1),r30.Op,r30.Name,r30.Sort_,r30.Pred.Op,r30.Pred.Name,r30.Pred.N,r30.Pred.Kids,r30.Tag,r30.Kids))
 else
  some (.inr (m3,m4,m5,m6,m7,m8,m9,m10,m11))
def gA:Option ((Int×ag×ag×Int×ag×Int×waA×Int×waD)):=loop (fun(zz:Int×Int×ag×ag×Int×ag×Int×waA×Int×waD)=>bO R51 used w left right v v2 zz.1 zz.2.1 zz.2.2.1 zz.2.2.2.1 zz.2.2.2.2.1 zz.2.2.2.2.2.1 zz.2.2.2.2.2.2.1 zz.2.2.2.2.2.2.2.1 zz.2.2.2.2.2.2.2.2.1 zz.2.2.2.2.2.2.2.2.2) (i,m3,m4,m5,m6,m7,m8,m9,m10,m11)
theorem qg(hR51:gU R51){y:(Int×Int×ag×ag×Int×ag×Int×waA×Int×waD)⊕((Int×ag×ag×Int×ag×Int×waA×Int×waD))}(h:bO R51 used w left right v v2 i m3 m4 m5 m6 m7 m8 m9 m10 m11=some y):
  aQ Pg GE 0 (cA Yz 4087) (LQ (fun(zz:Int×Int×ag×ag×Int×ag×Int×waA×Int×waD)=>db used w left right v v2 m m2 zz.1 zz.2.1 zz.2.2.1 zz.2.2.2.1 zz.2.2.2.2.1 zz.2.2.2.2.2.1 zz.2.2.2.2.2.2.1 zz.2.2.2.2.2.2.2.1 zz.2.2.2.2.2.2.2.2.1 zz.2.2.2.2.2.2.2.2.2) (fun _=>.exit 4) (fP m m2) y) (db used w left right v v2 m m2 i m3 m4 m5 m6 m7 m8 m9 m10 m11):=by
 rcases aX h with⟨c22,h⟩|⟨c22,h⟩
 ·obtain⟨l23,bl23,h⟩:=aA h
  obtain⟨x24,bx24,h⟩:=aA h
  obtain⟨x25,bx25,h⟩:=aA h
  obtain⟨r26,br26,h⟩:=aA h
  obtain⟨x27,bx27,h⟩:=aA h
  obtain⟨x28,bx28,h⟩:=aA h
  obtain⟨r29,br29,h⟩:=aA h
  obtain⟨r30,br30,h⟩:=aA h
  obtain rfl:=lf h
  exact rF Xi (sg 0 c22<|cw (bR.ln used)<|sv (bR.sc bl23)<|ra [0,0,0,6,14,0,0,96,224,0,1023,0,0,6144,14336,0,0,98304,229376,0,1048575,2097151,4194303,8388607]<|sv (er w)<|sv (cQ.ia (k:=.i64) bx24)<|sv (aZ x24)<|sv (cQ.ia (k:=.i64) bx25)<|sv (aZ x25)<|bP (hR51 _ _ _ _ _ br26)<|sv (cQ.ia (k:=.i64) bx27)<|sv (aZ x27)<|sv (bR.ia (k:=.i64) bx28)<|sv (iY Nd (.str x28) [])<|sv (iS (⟨m3,m4,m5,(⟨m6,m7,m8,m9⟩:aa),m10,m11⟩:ak) [])<|bP (Iw br29)<|sv (za.mk' (v:=vB) pU ([r26,r29]:List ak) 2 (by kernel_rfl))<|bP (uV br30)<|Ym (dJ r30)<|eF .normal (db used w left right v v2 m m2 (aO (i - 1)) r30.Op r30.Name r30.Sort_ r30.Pred.Op r30.Pred.Name r30.Pred.N r30.Pred.Kids r30.Tag r30.Kids)) (by kernel_rfl)
 ·obtain rfl:=lf h
  have z:=sg 0 c22<|eF (.exit 4) (fP m m2 (m3,m4,m5,m6,m7,m8,m9,m10,m11))
  exact iW Xi (by intro hx;cases hx) z (by kernel_rfl)
theorem ri(hR51:gU R51){x:(Int×ag×ag×Int×ag×Int×waA×Int×waD)}(h:gA R51 used w left right v v2 i m3 m4 m5 m6 m7 m8 m9 m10 m11=some x):
  aQ Pg GE 0 (.loop (cA Yz 4087)) (EX (.exit 4) (fP m m2 x)) (db used w left right v v2 m m2 i m3 m4 m5 m6 m7 m8 m9 m10 m11):=
 aQ.loop (S:=fun(zz:Int×Int×ag×ag×Int×ag×Int×waA×Int×waD)=>db used w left right v v2 m m2 zz.1 zz.2.1 zz.2.2.1 zz.2.2.2.1 zz.2.2.2.2.1 zz.2.2.2.2.2.1 zz.2.2.2.2.2.2.1 zz.2.2.2.2.2.2.2.1 zz.2.2.2.2.2.2.2.2.1 zz.2.2.2.2.2.2.2.2.2) (ex:=(fun _=>.exit 4)) (s:=(i,m3,m4,m5,m6,m7,m8,m9,m10,m11)) h fun zz y hy=>qg R51 used w left right v v2 m m2 zz.1 zz.2.1 zz.2.2.1 zz.2.2.2.1 zz.2.2.2.2.1 zz.2.2.2.2.2.1 zz.2.2.2.2.2.2.1 zz.2.2.2.2.2.2.2.1 zz.2.2.2.2.2.2.2.2.1 zz.2.2.2.2.2.2.2.2.2 hR51 hy
end
def fH(R51:du)(w:aM)(a:ae)(a2:ae)(used:waB):Option ak:=
 (kK used).bind fun r1=>
 (eB a a2 (aO ((a2.Args.length:Int) - 1)) a.Args a2.Args ([]:List ag) r1 0).bind fun o18=>
 (cH o18.1 (aO ((a2.Args.length:Int) - 1))).bind fun x19=>
 (cH o18.2.1 (aO ((a2.Args.length:Int) - 1))).bind fun x20=>
 (R51 w x19 x20 o18.2.2.2).bind fun r21=>
 (gA R51 used w o18.1 o18.2.1 o18.2.2.1 o18.2.2.2 (aO ((aO ((a2.Args.length:Int) - 1)) - 1)) r21.Op r21.Name r21.Sort_ r21.Pred.Op r21.Pred.Name r21.Pred.N r21.Pred.Kids r21.Tag r21.Kids).bind fun o31=>
 some (⟨o31.1,o31.2.1,o31.2.2.1,(⟨o31.2.2.2.1,o31.2.2.2.2.1,o31.2.2.2.2.2.1,o31.2.2.2.2.2.2.1⟩:aa),o31.2.2.2.2.2.2.2.1,o31.2.2.2.2.2.2.2.2⟩:ak)
theorem uj(R51:du)(hR51:gU R51){w:aM}{a:ae}{a2:ae}{used:waB}{r:ak}(h:fH R51 w a a2 used=some r):CC Pg GE 54 [.agg (aL w),.agg (af a),.agg (af a2),sl cS used] (.agg (ax r)) []:=by
 obtain⟨r1,br1,h⟩:=aA h
 obtain⟨o18,bo18,h⟩:=aA h
 obtain⟨x19,bx19,h⟩:=aA h
 obtain⟨x20,bx20,h⟩:=aA h
 obtain⟨r21,br21,h⟩:=aA h
 obtain⟨o31,bo31,h⟩:=aA h
 obtain rfl:=lf h
 have z:=se (g9 w)<|se (co a)<|se (co a2)<|sx y8<|sv (aT a2)<|sv (aU a2)<|cw (cQ.ln a2.Args)<|ra [0,1,0,4,3,31]<|sv (aT a)<|sv (aU a)<|sv (aT a2)<|sv (aU a2)<|bP (Df br1)<|di (rf used w a a2 (aO ((a2.Args.length:Int) - 1)) ([]:List aa) ([]:List ak) a.Args a2.Args ([]:List ag) r1 0 bo18)<|ra [0,0,0,6,14,0,0,96,224,0,1023,0,4095]<|sv (er w)<|sv (cQ.ia (k:=.i64) bx19)<|sv (aZ x19)<|sv (cQ.ia (k:=.i64) bx20)<|sv (aZ x20)<|bP (hR51 _ _ _ _ _ br21)<|sx (dJ r21)<|di (ri R51 used w o18.1 o18.2.1 o18.2.2.1 o18.2.2.2 ([]:List aa) ([]:List ak) (aO ((aO ((a2.Args.length:Int) - 1)) - 1)) r21.Op r21.Name r21.Sort_ r21.Pred.Op r21.Pred.Name r21.Pred.N r21.Pred.Kids r21.Tag r21.Kids hR51 bo31)<|sv (iS (⟨o31.1,o31.2.1,o31.2.2.1,(⟨o31.2.2.2.1,o31.2.2.2.2.1,o31.2.2.2.2.2.1,o31.2.2.2.2.2.2.1⟩:aa),o31.2.2.2.2.2.2.2.1,o31.2.2.2.2.2.2.2.2⟩:ak) [])<|sx (dJ (⟨o31.1,o31.2.1,o31.2.2.1,(⟨o31.2.2.2.1,o31.2.2.2.2.1,o31.2.2.2.2.2.1,o31.2.2.2.2.2.2.1⟩:aa),o31.2.2.2.2.2.2.2.1,o31.2.2.2.2.2.2.2.2⟩:ak))<|en (aI (e8 (⟨o31.1,o31.2.1,o31.2.2.1,(⟨o31.2.2.2.1,o31.2.2.2.2.1,o31.2.2.2.2.2.1,o31.2.2.2.2.2.2.1⟩:aa),o31.2.2.2.2.2.2.2.1,o31.2.2.2.2.2.2.2.2⟩:ak))<|(bJ (⟨o31.1,o31.2.1,o31.2.2.1,(⟨o31.2.2.2.1,o31.2.2.2.2.1,o31.2.2.2.2.2.1,o31.2.2.2.2.2.2.1⟩:aa),o31.2.2.2.2.2.2.2.1,o31.2.2.2.2.2.2.2.2⟩:ak)))
 exact ck Xi Tryz.call54 Tryz.func54 (c:=Yz) rfl (aI (cF w) (aI (av a) (aI (av a2) (aI (aq iu used) trivial)))) z (by kernel_rfl)
def qdP:Code:=Tryz.f96.body.getD .skip
def qdE:List Nat:=[]
def iB(w:aM)(p:aa):Option ak:=
 some (⟨3,([]:ag),([]:ag),p,w.tag,([]:List ak)⟩:ak)
theorem yz{w:aM}{p:aa}{r:ak}(h:iB w p=some r):CC Pg GE 96 [.agg (aL w),.agg (ac p)] (.agg (ax r)) [(8,50)]:=by
 obtain rfl:=lf h
 have z:=se (g9 w)<|se (cf p)<|sx y8<|sv (aY p)<|sv (wJ w)<|sv (y5 w)<|sb (JH 3 p w.tag) (JE 3 p w.tag)<|sy (cz (⟨3,([]:ag),([]:ag),p,w.tag,([]:List ak)⟩:ak))<|en (aI (e8 (⟨3,([]:ag),([]:ag),p,w.tag,([]:List ak)⟩:ak))<|aI (bJ (⟨3,([]:ag),([]:ag),p,w.tag,([]:List ak)⟩:ak))<|rT)
 exact ck qdE Tryz.call96 Tryz.func96 (c:=qdP) rfl (aI (cF w) (aI (ah p) trivial)) z (by kernel_rfl)
def qdN:Code:=Tryz.f78.body.getD .skip
def qdC:List Nat:=[]
def eD(w:aM)(name:ag)(s:ag)(hyp:aa)(goal:aa):Option ak:=
 (iB w goal).bind fun r1=>
 some (⟨2,name,s,hyp,0,([r1]:List ak)⟩:ak)
theorem lR{w:aM}{name:ag}{s:ag}{hyp:aa}{goal:aa}{r:ak}(h:eD w name s hyp goal=some r):CC Pg GE 78 [.agg (aL w),.str name,.str s,.agg (ac hyp),.agg (ac goal)] (.agg (ax r)) []:=by
 obtain⟨r1,br1,h⟩:=aA h
 obtain rfl:=lf h
 have z:=se (g9 w)<|se (cf hyp)<|se (cf goal)<|sx y8<|ra [0,0,0,0,0,24,56,127,255]<|sv (aY hyp)<|sv (er w)<|sv (aY goal)<|bP (yz br1)<|sv (za.mk' (v:=vB) pU ([r1]:List ak) 1 (by kernel_rfl))<|sv (tM 2 name s hyp ([r1]:List ak))<|sx (dJ (⟨2,name,s,hyp,0,([r1]:List ak)⟩:ak))<|en (aI (e8 (⟨2,name,s,hyp,0,([r1]:List ak)⟩:ak))<|(bJ (⟨2,name,s,hyp,0,([r1]:List ak)⟩:ak)))
 exact ck qdC Tryz.call78 Tryz.func78 (c:=qdN) rfl (aI (cF w) (aI trivial (aI trivial (aI (ah hyp) (aI (ah goal) trivial))))) z (by kernel_rfl)
end Go.Proofs.YtbaamopmfmpfaaaGreatDoor
