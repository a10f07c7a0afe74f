/- PROVED: a part of the proof. Conditions: none. -/
import Derived.Test.YtbaamopmfmpfaaaGreatDoorPkD14
noncomputable section
namespace Go.Proofs.YtbaamopmfmpfaaaGreatDoor
open Go Go.Proofs.Tryz
set_option linter.unusedVariables false
set_option maxRecDepth 100000
noncomputable def Vk:Code:=f110.body.getD .skip
def Tu:List Nat:=[17]
section
variable(R78:nO)(v:waA)(v2:waA)(t14:Int)(t15:Int)
def jF:az:=aW 30 [(0,sl ac v),(1,sl ac v2),(2,.func (.func 93) [] []),(14,.int .i64 t14),(15,.int .i64 t15)] [] []
def jH(o:Unit⊕(Unit)):Exit:=match o with
 |(.inl _)=>.ret
 |(.inr _)=>.exit 0
def gS(o:Unit⊕(Unit)):az:=match o with
 |(.inl o)=>aW 30 [(6,.bool false)] [] []
 |(.inr o)=>aW 30 [] [] []
def jG:Option (Int⊕(Unit⊕(Unit))):=
 if(decide (t15<t14))=true then
  (cH v t15).bind fun x4=>
  (cH v2 t15).bind fun x5=>
  (R78 x4 x5).bind fun r6=>
  if(!r6)=true then
   some (.inr (.inl ()))
  else
   some (.inl (aO (t15+1)))
 else
  some (.inr (.inr ()))
def wm:Option (Unit⊕(Unit)):=loop (fun(zz:Int)=>jG R78 v v2 t14 zz) t15
theorem E5(hR78:uy R78){y:Int⊕(Unit⊕(Unit))}(h:jG R78 v v2 t14 t15=some y):aQ Pg GE 0 (cA Vk 119) (LQ (fun(zz:Int)=>jF v v2 t14 zz) jH gS y) (jF v v2 t14 t15):=by
 rcases aX h with⟨c3,h⟩|⟨c3,h⟩
 ·obtain⟨x4,bx4,h⟩:=aA h
  obtain⟨x5,bx5,h⟩:=aA h
  obtain⟨r6,br6,h⟩:=aA h
  have p8:=fun{sc F} (r:PS sc F)=>sg 0 c3<|ra [0,0,0,6,14,0,0,96,224,511,1023]<|sv (cd.ia (k:=.i64) bx4)<|sv (aY x4)<|sv (cd.ia (k:=.i64) bx5)<|sv (aY x5)<|bP (hR78 _ _ _ br6)<|r
  rcases aX h with⟨c7,h⟩|⟨c7,h⟩
  ·obtain rfl:=lf h
   have z:=p8<|sg 0 c7<|eF (jH (.inl ())) (gS (.inl ()))
   exact iW Tu (by intro hx;cases hx) z<|by kernel_rfl
  ·obtain rfl:=lf h
   exact rF Tu (p8<|sg 0 c7<|eF .normal (jF v v2 t14 (aO (t15+1))))<|by kernel_rfl
 ·obtain rfl:=lf h
  have z:=sg 0 c3<|eF (jH (.inr ())) (gS (.inr ()))
  exact iW Tu (by intro hx;cases hx) z<|by kernel_rfl
theorem wS(hR78:uy R78){x:Unit⊕(Unit)}(h:wm R78 v v2 t14 t15=some x):aQ Pg GE 0 (.loop (cA Vk 119)) (EX (jH x) (gS x)) (jF v v2 t14 t15):=
 aQ.loop (S:=fun(zz:Int)=>jF v v2 t14 zz) (ex:=jH) (s:=t15) h fun zz y hy=>E5 R78 v v2 t14 zz hR78 hy
end
def ym(R78:nO)(a:waA)(a2:waA):Option Bool:=
 if((a.length:Int)!=(a2.length:Int))=true then
  some false
 else
  (wm R78 a a2 (a.length:Int) 0).bind fun o9=>match o9 with
  |(.inl o9)=>
   some false
  |(.inr o9)=>
   some true
theorem Me(R78:nO)(hR78:uy R78){a:waA}{a2:waA}{r:Bool}(h:ym R78 a a2=some r):CC Pg GE 110 [sl ac a,sl ac a2,.func (.func 93) [] []] (.bool r) []:=by
 have p2:=fun{sc F} (r:PS sc F)=>cw (cd.ln a)<|cw (cd.ln a2)<|r
 rcases aX h with⟨c1,h⟩|⟨c1,h⟩
 ·obtain rfl:=lf h
  have z:=p2<|sg 0 c1<|en (aI (rP (.bool false))<|trivial)
  exact ck Tu call110 func110 (c:=Vk) rfl (aI (aq ah a) (aI (aq ah a2) (aI (aI trivial trivial) trivial))) z<|by kernel_rfl
 ·obtain⟨o9,bo9,h⟩:=aA h
  rcases o9 with o9|o9
  ·obtain rfl:=lf h
   have z:=p2<|sg 0 c1<|cw (cd.ln a)<|di (e:=.ret) (s1:=gS (.inl o9)) (wS R78 a a2 (a.length:Int) 0 hR78 bo9)<|en (aI (rP (.bool false))<|trivial)
   exact ck Tu call110 func110 (c:=Vk) rfl (aI (aq ah a) (aI (aq ah a2) (aI (aI trivial trivial) trivial))) z<|by kernel_rfl
  ·obtain rfl:=lf h
   have z:=p2<|sg 0 c1<|cw (cd.ln a)<|di (e:=.exit 0) (s1:=gS (.inr o9)) (wS R78 a a2 (a.length:Int) 0 hR78 bo9)<|en (aI (rP (.bool true))<|trivial)
   exact ck Tu call110 func110 (c:=Vk) rfl (aI (aq ah a) (aI (aq ah a2) (aI (aI trivial trivial) trivial))) z<|by kernel_rfl
noncomputable def qb0:Code:=f93.body.getD .skip
def qbK:List Nat:=[]
def va(R78:nO)(a:aa)(a2:aa):Option Bool:=
 if (a.Op == a2.Op) = true then
  if(a.Name==a2.Name)=true then
   if(a.N==a2.N)=true then
    (ym R78 a.Kids a2.Kids).bind fun r7=>
    some r7
   else
    some false
  else
   some false
 else
  some false
theorem Md(R78:nO)(hR78:uy R78){a:aa}{a2:aa}{r:Bool}(h:va R78 a a2=some r):CC Pg GE 93 [.agg (ac a),.agg (ac a2)] (.bool r) []:=by
 have p2:=fun{sc F} (r:PS sc F)=>se (cf a)<|se (cf a2)<|sv (bq a)<|sv (bv a)<|sv (bq a2)<|sv (bv a2)<|r
 rcases aX h with⟨c1,h⟩|⟨c1,h⟩
 ·have p4:=fun{sc F} (r:PS sc F)=>p2<|sg 6 c1<|sv (cx a)<|sv (cJ a)<|sv (cx a2)<|sv (cJ a2)<|r
  rcases aX h with⟨c3,h⟩|⟨c3,h⟩
  ·have p6:=fun{sc F} (r:PS sc F)=>p4<|sg 13 c3<|sv (cO a)<|sv (dh a)<|sv (cO a2)<|sv (dh a2)<|r
   rcases aX h with⟨c5,h⟩|⟨c5,h⟩
   ·obtain⟨r7,br7,h⟩:=aA h
    obtain rfl:=lf h
    have z:=p6<|sg 20 c5<|sv (bu a)<|sv (bw a)<|sv (bu a2)<|sv (bw a2)<|bP (Me R78 hR78 br7)<|en (aI (rP (.bool r7))<|trivial)
    exact ck qbK call93 func93 (c:=qb0) rfl (aI (ah a) (aI (ah a2) trivial)) z<|by kernel_rfl
   ·obtain rfl:=lf h
    have z:=p6<|sg 20 c5<|en (aI (rP (.bool false))<|trivial)
    exact ck qbK call93 func93 (c:=qb0) rfl (aI (ah a) (aI (ah a2) trivial)) z<|by kernel_rfl
  ·obtain rfl:=lf h
   have z:=p4<|sg 13 c3<|en (aI (rP (.bool false))<|trivial)
   exact ck qbK call93 func93 (c:=qb0) rfl (aI (ah a) (aI (ah a2) trivial)) z<|by kernel_rfl
 ·obtain rfl:=lf h
  have z:=p2<|sg 6 c1<|en (aI (rP (.bool false))<|trivial)
  exact ck qbK call93 func93 (c:=qb0) rfl (aI (ah a) (aI (ah a2) trivial)) z<|by kernel_rfl
def AZ:((aa×aa)->Option Bool)->(aa×aa)->Option Bool:=fun(rec:(aa×aa)->Option Bool) (x:aa×aa)=>va (fun a a2=>rec (a,a2)) x.1 x.2
def iZ(a:aa)(a2:aa):Option Bool:=oP AZ (a,a2)
theorem oV{a:aa}{a2:aa}{r:Bool}(h:iZ a a2=some r):CC Pg GE 93 [.agg (ac a),.agg (ac a2)] (.bool r) []:=
 cR (F:=AZ) (M:=fun(x:aa×aa) (r:Bool)=>CC Pg GE 93 [.agg (ac x.1),.agg (ac x.2)] (.bool r) []) (fun rec hrec x r h=>Md _ (fun a a2 r h=>hrec (a,a2) r h) h) h
noncomputable def qdK:Code:=f69.body.getD .skip
def qdz:List Nat:=[]
def yt(p:aa):Option Bool:=
 (iZ p (⟨0,([]:ag),0,([]:List aa)⟩:aa)).bind fun r1=>
 some r1
theorem Iu{p:aa}{r:Bool}(h:yt p=some r):CC Pg GE 69 [.agg (ac p)] (.bool r) []:=by
 obtain⟨r1,br1,h⟩:=aA h
 obtain rfl:=lf h
 have z:=se (cf p)<|sv (aY p)<|sb (tN) (tL)<|bP (oV br1)<|en (aI (rP (.bool r1))<|trivial)
 exact ck qdz call69 func69 (c:=qdK) rfl (aI (ah p) trivial) z<|by kernel_rfl
noncomputable def qdL:Code:=f70.body.getD .skip
def qdA:List Nat:=[]
def ub(p:aa)(name:ag)(a:aa):Option aa:=
 (io p ([name]:List ag) ([a]:List aa)).bind fun r1=>
 some r1
theorem CQ{p:aa}{name:ag}{a:aa}{r:aa}(h:ub p name a=some r):CC Pg GE 70 [.agg (ac p),.str name,.agg (ac a)] (.agg (ac r)) [(3,36)]:=by
 obtain⟨r1,br1,h⟩:=aA h
 obtain rfl:=lf h
 have z:=se (cf p)<|se (cf a)<|sx lM<|sv (aY p)<|sv (bR.mk' (v:=PVal.str) L9 ([name]:List ag) 1 (by kernel_rfl))<|sv (aY a)<|sv (cd.mk' (v:=ff) dl ([a]:List aa) 1 (by kernel_rfl))<|bP (lK br1)<|sy (aE r1)<|en (aI (e9 r1)<|aI (ah r1)<|rT)
 exact ck qdA call70 func70 (c:=qdL) rfl (aI (ah p) (aI trivial (aI (ah a) trivial))) z<|by kernel_rfl
noncomputable def qct:Code:=f46.body.getD .skip
def qbG:List Nat:=[]
section
variable(t:ae)(v:aa)(m:waA)
def Ir:az:=aW 18 [(2,.eptr (af t)),(3,.eptr (ac v)),(4,.bptr 2 0)] [.dead,.dead,.cells [.int .i64 0,.str ([]:ag),.int .i64 0,sl ac m] [(3,36)]] []
def rI(o:Bool):az:=aW 18 [(2,.eptr (af t)),(3,.eptr (ac v)),(4,.bptr 2 0),(12,.bool o)] [.dead,.dead,.cells [.int .i64 0,.str ([]:ag),.int .i64 0,sl ac m] [(3,36)]] []
def wo:Option Bool:=
 if(t.Op==6)=true then
  some true
 else
  (yt t.Pred).bind fun r3=>
  some r3
theorem GH{x:Bool}(h:wo t=some x):aQ Pg GE 0 (cA qct 12) (EX .normal (rI t v m x)) (Ir t v m):=by
 have p2:=fun{sc F} (r:PS sc F)=>sv (aH t)<|sv (aJ t)<|r
 rcases aX h with⟨c1,h⟩|⟨c1,h⟩
 ·obtain rfl:=lf h
  exact ct qbG (p2<|sg 4 c1<|eF .normal (rI t v m true))<|by kernel_rfl
 ·obtain⟨r3,br3,h⟩:=aA h
  obtain rfl:=lf h
  exact ct qbG (p2<|sg 4 c1<|sv (d9 t)<|sv (ec t)<|bP (Iu br3)<|eF .normal (rI t v m r3))<|by kernel_rfl
end
def qa(t:ae)(a:aa):Option aa:=
 (wo t).bind fun o4=>
 if o4=true then
  some (⟨2,([]:ag),1,([]:List aa)⟩:aa)
 else
  (ub t.Pred ([118]:ag) a).bind fun r7=>
  some r7
theorem wq{t:ae}{a:aa}{r:aa}(h:qa t a=some r):CC Pg GE 46 [.agg (af t),.agg (ac a)] (.agg (ac r)) [(3,36)]:=by
 obtain⟨o4,bo4,h⟩:=aA h
 have p6:=fun{sc F} (r:PS sc F)=>se (co t)<|se (cf a)<|sx lM<|oe 1<|di (GH t a ([]:List aa) bo4)<|r
 rcases aX h with⟨c5,h⟩|⟨c5,h⟩
 ·obtain rfl:=lf h
  have z:=p6<|sg 0 c5<|sb (xT 2 1) (xQ 2 1)<|sy (aE (⟨2,([]:ag),1,([]:List aa)⟩:aa))<|en (aI (e9 (⟨2,([]:ag),1,([]:List aa)⟩:aa))<|aI (ah (⟨2,([]:ag),1,([]:List aa)⟩:aa))<|rT)
  exact ck qbG call46 func46 (c:=qct) rfl (aI (av t) (aI (ah a) trivial)) z<|by kernel_rfl
 ·obtain⟨r7,br7,h⟩:=aA h
  obtain rfl:=lf h
  have z:=p6<|sg 0 c5<|sv (d9 t)<|sv (ec t)<|sv (aY a)<|bP (CQ br7)<|sy (aE r7)<|en (aI (e9 r7)<|aI (ah r7)<|rT)
  exact ck qbG call46 func46 (c:=qct) rfl (aI (av t) (aI (ah a) trivial)) z<|by kernel_rfl
noncomputable def qc5:Code:=f25.body.getD .skip
def qcZ:List Nat:=[]
def sR(t:ae)(name:ag)(c:ak):Option ak:=
 (jp t).bind fun r1=>
 if(!r1)=true then
  some c
 else
  (vA t).bind fun r4=>
  (BU r4).bind fun r5=>
  (qa t (⟨3,name,0,([]:List aa)⟩:aa)).bind fun r6=>
  some (⟨2,name,r5.1,r6,0,([c]:List ak)⟩:ak)
theorem Iw{t:ae}{name:ag}{c:ak}{r:ak}(h:sR t name c=some r):CC Pg GE 25 [.agg (af t),.str name,.agg (ax c)] (.agg (ax r)) []:=by
 obtain⟨r1,br1,h⟩:=aA h
 have p3:=fun{sc F} (r:PS sc F)=>se (co t)<|se (AP c)<|sx y8<|sv (aZ t)<|bP (nm br1)<|r
 rcases aX h with⟨c2,h⟩|⟨c2,h⟩
 ·obtain rfl:=lf h
  have z:=p3<|sg 0 c2<|sv (qW c)<|sx (dJ c)<|en (aI (e8 c)<|(bJ c))
  exact ck qcZ call25 func25 (c:=qc5) rfl (aI (av t) (aI trivial (aI (bJ c) trivial))) z<|by kernel_rfl
 ·obtain⟨r4,br4,h⟩:=aA h
  obtain⟨r5,br5,h⟩:=aA h
  obtain⟨r6,br6,h⟩:=aA h
  obtain rfl:=lf h
  have z:=p3<|sg 0 c2<|sv (aZ t)<|bP (Bh br4)<|bP (KY br5)<|ra [0,0,0,0,8,28,0,64,255,511]<|sv (aZ t)<|sb (oG 3 name) (oF 3 name)<|bP (wq br6)<|sv (qW c)<|sv (za.mk' (v:=vB) pU ([c]:List ak) 1 (by kernel_rfl))<|sv (tM 2 name r5.1 r6 ([c]:List ak))<|sx (dJ (⟨2,name,r5.1,r6,0,([c]:List ak)⟩:ak))<|en (aI (e8 (⟨2,name,r5.1,r6,0,([c]:List ak)⟩:ak))<|(bJ (⟨2,name,r5.1,r6,0,([c]:List ak)⟩:ak)))
  exact ck qcZ call25 func25 (c:=qc5) rfl (aI (av t) (aI trivial (aI (bJ c) trivial))) z<|by kernel_rfl
abbrev lD:=(waD->Option ak)
abbrev pC(R:lD):Prop:=∀(a:waD) (r:ak),R a=some r->CC Pg GE 42 [sl ax a] (.agg (ax r)) [(6,36),(8,50)]
abbrev iw:=(ak->Option ak)
abbrev lT(R:iw):Prop:=∀(c:ak) (r:ak),R c=some r->CC Pg GE 67 [.agg (ax c)] (.agg (ax r)) [(6,36),(8,50)]
noncomputable def qcv:Code:=f67.body.getD .skip
def qcf:List Nat:=[20]
section
variable(R82:iw)(t13:waD)(t14:Int)(m:waA)(m2:waD)(m3:Int)(m4:ag)(m5:ag)(m6:Int)(m7:ag)(m8:Int)(m9:waA)(m10:Int)(t15:Int)(m11:waD)
def ej:az:=aW 28 [(2,.bptr 1 0),(3,.bptr 2 0),(13,sl ax t13),(14,.int .i64 t14),(15,.int .i64 t15)] [.dead,.cells [.int .i64 0,.str ([]:ag),.str ([]:ag),.int .i64 0,.str ([]:ag),.int .i64 0,sl ac m,.int .i64 0,sl ax m2] [(6,36),(8,50)],.cells [.int .i64 m3,.str m4,.str m5,.int .i64 m6,.str m7,.int .i64 m8,sl ac m9,.int .i64 m10,sl ax m11] [(8,50),(6,36)]] []
def ji(o:waD):az:=aW 28 [(2,.bptr 1 0),(3,.bptr 2 0)] [.dead,.cells [.int .i64 0,.str ([]:ag),.str ([]:ag),.int .i64 0,.str ([]:ag),.int .i64 0,sl ac m,.int .i64 0,sl ax m2] [(6,36),(8,50)],.cells [.int .i64 m3,.str m4,.str m5,.int .i64 m6,.str m7,.int .i64 m8,sl ac m9,.int .i64 m10,sl ax o] [(8,50),(6,36)]] []
def oL:Option ((Int×waD)⊕(waD)):=
 if(decide (t15<t14))=true then
  (cH t13 t15).bind fun x3=>
  (R82 x3).bind fun r4=>
  (app m11 ([r4]:List ak)).bind fun l5=>
  some (.inl (aO (t15+1),l5))
 else
  some (.inr m11)
def kM:Option waD:=loop (fun(zz:Int×waD)=>oL R82 t13 t14 zz.1 zz.2) (t15,m11)
theorem vZ(hR82:lT R82){y:(Int×waD)⊕(waD)}(h:oL R82 t13 t14 t15 m11=some y):aQ Pg GE 0 (cA qcv 503) (LQ (fun(zz:Int×waD)=>ej t13 t14 m m2 m3 m4 m5 m6 m7 m8 m9 m10 zz.1 zz.2) (fun _=>.exit 0) (ji m m2 m3 m4 m5 m6 m7 m8 m9 m10) y) (ej t13 t14 m m2 m3 m4 m5 m6 m7 m8 m9 m10 t15 m11):=by
 rcases aX h with⟨c2,h⟩|⟨c2,h⟩
 ·obtain⟨x3,bx3,h⟩:=aA h
  obtain⟨r4,br4,h⟩:=aA h
  obtain⟨l5,bl5,h⟩:=aA h
  obtain rfl:=lf h
  have z:=sg 0 c2<|sv (za.ia (k:=.i64) bx3)<|sv (qW x3)<|sx y8<|sx (dJ x3)<|ra [0,1,0,4,12,31,63,127]<|sv (iS x3 [])<|bP (hR82 _ _ br4)<|sv (za.mk' (v:=vB) pU ([r4]:List ak) 1 (by kernel_rfl))<|sv (za.ap bl5)<|WY (rfl:bQ (sl ax l5)=some [sl ax l5])<|y4 0 .normal (ej t13 t14 m m2 m3 m4 m5 m6 m7 m8 m9 m10 (aO (t15+1)) l5) rfl (eh (aI (d7 rfl) (aI (d7 rfl) (aI (up (aq bJ t13)) (aI trivial (aI trivial trivial)))))) (aI trivial (aI (aI trivial (aI trivial (aI trivial (aI trivial (aI trivial (aI trivial (aI (up (aq ah m)) (aI trivial (aI (up (aq bJ m2)) trivial))))))))) (aI (aI trivial (aI trivial (aI trivial (aI trivial (aI trivial (aI trivial (aI (up (aq ah m9)) (aI trivial (aI (up (aq bJ l5)) trivial))))))))) trivial)))
  exact dV (A:=qcf) mixed z<|by kernel_rfl
 ·obtain rfl:=lf h
  have z:=sg 0 c2<|eF (.exit 0) (ji m m2 m3 m4 m5 m6 m7 m8 m9 m10 m11)
  exact iW qcf (by intro hx;cases hx) z<|by kernel_rfl
theorem wG(hR82:lT R82){x:waD}(h:kM R82 t13 t14 t15 m11=some x):aQ Pg GE 0 (.loop (cA qcv 503)) (EX (.exit 0) (ji m m2 m3 m4 m5 m6 m7 m8 m9 m10 x)) (ej t13 t14 m m2 m3 m4 m5 m6 m7 m8 m9 m10 t15 m11):=
 aQ.loop (S:=fun(zz:Int×waD)=>ej t13 t14 m m2 m3 m4 m5 m6 m7 m8 m9 m10 zz.1 zz.2) (ex:=(fun _=>.exit 0)) (s:=(t15,m11)) h fun zz y hy=>vZ R82 t13 t14 m m2 m3 m4 m5 m6 m7 m8 m9 m10 zz.1 zz.2 hR82 hy
end
def iz(R82:iw)(c:ak):Option ak:=
 (io c.Pred ([]:List ag) ([]:List aa)).bind fun r1=>
 (kM R82 c.Kids (c.Kids.length:Int) 0 ([]:List ak)).bind fun o6=>
 some (⟨c.Op,c.Name,c.Sort_,r1,c.Tag,o6⟩:ak)
theorem yY(R82:iw)(hR82:lT R82){c:ak}{r:ak}(h:iz R82 c=some r):CC Pg GE 67 [.agg (ax c)] (.agg (ax r)) [(6,36),(8,50)]:=by
 obtain⟨r1,br1,h⟩:=aA h
 obtain⟨o6,bo6,h⟩:=aA h
 obtain rfl:=lf h
 have z:=se (AP c)<|sx y8<|sv (qW c)<|sx y8<|sx (dJ c)<|sv (v6 c)<|sv (wg c)<|bP (lK br1)<|sy (aE r1)<|qb5 (.ar 0 50 0 [])<|sv (CH c)<|sv (CL c)<|cw (za.ln c.Kids)<|di (wG R82 c.Kids (c.Kids.length:Int) ([]:List aa) ([]:List ak) c.Op c.Name c.Sort_ r1.Op r1.Name r1.N r1.Kids c.Tag 0 ([]:List ak) hR82 bo6)<|sz (iS (⟨c.Op,c.Name,c.Sort_,r1,c.Tag,o6⟩:ak) [])<|sy (cz (⟨c.Op,c.Name,c.Sort_,r1,c.Tag,o6⟩:ak))<|en (aI (e8 (⟨c.Op,c.Name,c.Sort_,r1,c.Tag,o6⟩:ak))<|aI (bJ (⟨c.Op,c.Name,c.Sort_,r1,c.Tag,o6⟩:ak))<|rT)
 exact ck qcf call67 func67 (c:=qcv) rfl (aI (bJ c) trivial) z<|by kernel_rfl
def mb:(ak->Option ak)->(ak)->Option ak:=fun(rec:ak->Option ak) (x:ak)=>iz (fun c=>rec c) x
def kh(c:ak):Option ak:=oP mb c
theorem AB{c:ak}{r:ak}(h:kh c=some r):CC Pg GE 67 [.agg (ax c)] (.agg (ax r)) [(6,36),(8,50)]:=
 cR (F:=mb) (M:=fun(x:ak) (r:ak)=>CC Pg GE 67 [.agg (ax x)] (.agg (ax r)) [(6,36),(8,50)]) (fun rec hrec x r h=>yY _ (fun c r h=>hrec c r h) h) h
noncomputable def qbQ:Code:=f42.body.getD .skip
def Z9:List Nat:=[22,29]
section
variable(t7:waD)(t8:Int)(t9:Int)(m:waA)(m2:waD)(m3:waD)(m4:Int)(m5:ag)(m6:ag)(m7:Int)(m8:ag)(m9:Int)(m10:waA)(m11:Int)(m12:waD)
def B9:az:=aW 38 [(2,.bptr 0 0),(3,.bptr 1 0),(5,.bptr 2 0),(7,sl ax t7),(8,.int .i64 t8),(9,.int .i64 t9)] [.cells [.int .i64 0,.str ([]:ag),.str ([]:ag),.int .i64 0,.str ([]:ag),.int .i64 0,sl ac m,.int .i64 0,sl ax m2] [(6,36),(8,50)],.cells [.int .i64 1,.str ([]:ag),.str ([]:ag),.int .i64 0,.str ([]:ag),.int .i64 0,sl ac m,.int .i64 0,sl ax m3] [(6,36),(8,50)],.cells [.int .i64 m4,.str m5,.str m6,.int .i64 m7,.str m8,.int .i64 m9,sl ac m10,.int .i64 m11,sl ax m12] []] []
def lZ(o:Bool):az:=aW 38 [(2,.bptr 0 0),(3,.bptr 1 0),(5,.bptr 2 0),(7,sl ax t7),(8,.int .i64 t8),(9,.int .i64 t9),(20,.bool o)] [.cells [.int .i64 0,.str ([]:ag),.str ([]:ag),.int .i64 0,.str ([]:ag),.int .i64 0,sl ac m,.int .i64 0,sl ax m2] [(6,36),(8,50)],.cells [.int .i64 1,.str ([]:ag),.str ([]:ag),.int .i64 0,.str ([]:ag),.int .i64 0,sl ac m,.int .i64 0,sl ax m3] [(6,36),(8,50)],.cells [.int .i64 m4,.str m5,.str m6,.int .i64 m7,.str m8,.int .i64 m9,sl ac m10,.int .i64 m11,sl ax m12] []] []
def kg:Option Bool:=
 if(m4==2)=true then
  some true
 else
  some (m4==3)
theorem Az{x:Bool}(h:kg m4=some x):aQ Pg GE 0 (cA qbQ 7670) (EX .normal (lZ t7 t8 t9 m m2 m3 m4 m5 m6 m7 m8 m9 m10 m11 m12 x)) (B9 t7 t8 t9 m m2 m3 m4 m5 m6 m7 m8 m9 m10 m11 m12):=by
 rcases aX h with⟨c3,h⟩|⟨c3,h⟩
 ·obtain rfl:=lf h
  exact ct Z9 (ss<|sg 4 c3<|eF .normal (lZ t7 t8 t9 m m2 m3 m4 m5 m6 m7 m8 m9 m10 m11 m12 true))<|by kernel_rfl
 ·obtain rfl:=lf h
  exact ct Z9 (ss<|sg 4 c3<|ss<|eF .normal (lZ t7 t8 t9 m m2 m3 m4 m5 m6 m7 m8 m9 m10 m11 m12 (m4==3)))<|by kernel_rfl
end
section
variable(R81:lD)(t7:waD)(t8:Int)(m:waA)(m2:waD)(t9:Int)(m3:waD)
def eI:az:=aW 38 [(2,.bptr 0 0),(3,.bptr 1 0),(7,sl ax t7),(8,.int .i64 t8),(9,.int .i64 t9)] [.cells [.int .i64 0,.str ([]:ag),.str ([]:ag),.int .i64 0,.str ([]:ag),.int .i64 0,sl ac m,.int .i64 0,sl ax m2] [(6,36),(8,50)],.cells [.int .i64 1,.str ([]:ag),.str ([]:ag),.int .i64 0,.str ([]:ag),.int .i64 0,sl ac m,.int .i64 0,sl ax m3] [(6,36),(8,50)]] []
def ma(o:waD):az:=aW 38 [(2,.bptr 0 0),(3,.bptr 1 0)] [.cells [.int .i64 0,.str ([]:ag),.str ([]:ag),.int .i64 0,.str ([]:ag),.int .i64 0,sl ac m,.int .i64 0,sl ax m2] [(6,36),(8,50)],.cells [.int .i64 1,.str ([]:ag),.str ([]:ag),.int .i64 0,.str ([]:ag),.int .i64 0,sl ac m,.int .i64 0,sl ax o] [(6,36),(8,50)]] []
def rV:Option ((Int×waD)⊕(waD)):=
 if(decide (t9<t8))=true then
  (cH t7 t9).bind fun x2=>
  (kg x2.Op).bind fun o4=>
  if o4=true then
   (kh x2).bind fun r7=>
   (app m3 ([r7]:List ak)).bind fun l8=>
   some (.inl (aO (t9+1),l8))
  else
   (R81 x2.Kids).bind fun r9=>
   (app m3 r9.Kids).bind fun l10=>
   some (.inl (aO (t9+1),l10))
 else
  some (.inr m3)
def oK:Option waD:=loop (fun(zz:Int×waD)=>rV R81 t7 t8 zz.1 zz.2) (t9,m3)
theorem yX(hR81:pC R81){y:(Int×waD)⊕(waD)}(h:rV R81 t7 t8 t9 m3=some y):aQ Pg GE 0 (cA qbQ 119) (LQ (fun(zz:Int×waD)=>eI t7 t8 m m2 zz.1 zz.2) (fun _=>.exit 0) (ma m m2) y) (eI t7 t8 m m2 t9 m3):=by
 rcases aX h with⟨c1,h⟩|⟨c1,h⟩
 ·obtain⟨x2,bx2,h⟩:=aA h
  obtain⟨o4,bo4,h⟩:=aA h
  have p6:=fun{sc F} (r:PS sc F)=>sg 0 c1<|sv (za.ia (k:=.i64) bx2)<|sv (qW x2)<|sx y8<|sx (dJ x2)<|oe 0<|di (Az t7 t8 t9 m m2 m3 x2.Op x2.Name x2.Sort_ x2.Pred.Op x2.Pred.Name x2.Pred.N x2.Pred.Kids x2.Tag x2.Kids bo4)<|r
  rcases aX h with⟨c5,h⟩|⟨c5,h⟩
  ·obtain⟨r7,br7,h⟩:=aA h
   obtain⟨l8,bl8,h⟩:=aA h
   obtain rfl:=lf h
   have z:=p6<|sg 0 c5<|ra [0,1,0,4,12,31,63,127]<|sv (iS x2 [])<|bP (AB br7)<|sv (za.mk' (v:=vB) pU ([r7]:List ak) 1 (by kernel_rfl))<|sv (za.ap bl8)<|WY (rfl:bQ (sl ax l8)=some [sl ax l8])<|y4 0 .normal (eI t7 t8 m m2 (aO (t9+1)) l8) rfl (eh (aI (d7 rfl) (aI (d7 rfl) (aI (up (aq bJ t7)) (aI trivial (aI trivial trivial)))))) (aI (aI trivial (aI trivial (aI trivial (aI trivial (aI trivial (aI trivial (aI (up (aq ah m)) (aI trivial (aI (up (aq bJ m2)) trivial))))))))) (aI (aI trivial (aI trivial (aI trivial (aI trivial (aI trivial (aI trivial (aI (up (aq ah m)) (aI trivial (aI (up (aq bJ l8)) trivial))))))))) trivial))
   exact dV (A:=Z9) mixed z<|by kernel_rfl
  ·obtain⟨r9,br9,h⟩:=aA h
   obtain⟨l10,bl10,h⟩:=aA h
   obtain rfl:=lf h
   have z:=p6<|sg 0 c5<|ra [0,1,0,4,12,28,63,127,255]<|ss<|bP (hR81 _ _ br9)<|sv (RC r9)<|sv (za.ap bl10)<|WY (rfl:bQ (sl ax l10)=some [sl ax l10])<|y4 0 .normal (eI t7 t8 m m2 (aO (t9+1)) l10) rfl (eh (aI (d7 rfl) (aI (d7 rfl) (aI (up (aq bJ t7)) (aI trivial (aI trivial trivial)))))) (aI (aI trivial (aI trivial (aI trivial (aI trivial (aI trivial (aI trivial (aI (up (aq ah m)) (aI trivial (aI (up (aq bJ m2)) trivial))))))))) (aI (aI trivial (aI trivial (aI trivial (aI trivial (aI trivial (aI trivial (aI (up (aq ah m)) (aI trivial (aI (up (aq bJ l10)) trivial))))))))) trivial))
   exact dV (A:=Z9) mixed z<|by kernel_rfl
 ·obtain rfl:=lf h
  have z:=sg 0 c1<|eF (.exit 0) (ma m m2 m3)
  exact iW Z9 (by intro hx;cases hx) z<|by kernel_rfl
theorem AA(hR81:pC R81){x:waD}(h:oK R81 t7 t8 t9 m3=some x):aQ Pg GE 0 (.loop (cA qbQ 119)) (EX (.exit 0) (ma m m2 x)) (eI t7 t8 m m2 t9 m3):=
 aQ.loop (S:=fun(zz:Int×waD)=>eI t7 t8 m m2 zz.1 zz.2) (ex:=(fun _=>.exit 0)) (s:=(t9,m3)) h fun zz y hy=>yX R81 t7 t8 m m2 zz.1 zz.2 hR81 hy
end
def lH(R81:lD)(a:waD):Option ak:=
 (oK R81 a (a.length:Int) 0 ([]:List ak)).bind fun o11=>
 some (⟨1,([]:ag),([]:ag),(⟨0,([]:ag),0,([]:List aa)⟩:aa),0,o11⟩:ak)
theorem Dg(R81:lD)(hR81:pC R81){a:waD}{r:ak}(h:lH R81 a=some r):CC Pg GE 42 [sl ax a] (.agg (ax r)) [(6,36),(8,50)]:=by
 obtain⟨o11,bo11,h⟩:=aA h
 obtain rfl:=lf h
 have z:=sx y8<|sb (Dc 1) (Da 1)<|sx y8<|sy (cz (⟨1,([]:ag),([]:ag),(⟨0,([]:ag),0,([]:List aa)⟩:aa),0,([]:List ak)⟩:ak))<|cw (za.ln a)<|di (AA R81 a (a.length:Int) ([]:List aa) ([]:List ak) 0 ([]:List ak) hR81 bo11)<|sz (iS (⟨1,([]:ag),([]:ag),(⟨0,([]:ag),0,([]:List aa)⟩:aa),0,o11⟩:ak) [])<|sy (cz (⟨1,([]:ag),([]:ag),(⟨0,([]:ag),0,([]:List aa)⟩:aa),0,o11⟩:ak))<|en (aI (e8 (⟨1,([]:ag),([]:ag),(⟨0,([]:ag),0,([]:List aa)⟩:aa),0,o11⟩:ak))<|aI (bJ (⟨1,([]:ag),([]:ag),(⟨0,([]:ag),0,([]:List aa)⟩:aa),0,o11⟩:ak))<|rT)
 exact ck Z9 call42 func42 (c:=qbQ) rfl (aI (aq bJ a) trivial) z<|by kernel_rfl
def pK:(waD->Option ak)->(waD)->Option ak:=fun(rec:waD->Option ak) (x:waD)=>lH (fun a=>rec a) x
def oJ(a:waD):Option ak:=oP pK a
theorem uV{a:waD}{r:ak}(h:oJ a=some r):CC Pg GE 42 [sl ax a] (.agg (ax r)) [(6,36),(8,50)]:=
 cR (F:=pK) (M:=fun(x:waD) (r:ak)=>CC Pg GE 42 [sl ax x] (.agg (ax r)) [(6,36),(8,50)]) (fun rec hrec x r h=>Dg _ (fun a r h=>hrec a r h) h) h
noncomputable def Yz:Code:=f54.body.getD .skip
def Xi:List Nat:=[36,57,72,76]
section
variable(used:waB)(w:aM)(v:ae)(v2:ae)(n:Int)(left:waC)(right:waC)(v3:waB)(v4:waB)(i:Int)(m:waA)(m2:waD)
def rR:az:=aW 138 [(3,sl cS used),(4,.eptr (aL w)),(5,.eptr (af v)),(6,.eptr (af v2)),(8,.bptr 3 0),(9,.int .i64 n),(10,sl af left),(11,sl af right),(12,sl cS v3),(13,sl cS v4),(14,.int .i64 i),(15,.str ([120]:ag)),(33,.int .i64 n),(34,.int .i64 i)] [.dead,.dead,.dead,.cells [.int .i64 0,.str ([]:ag),.str ([]:ag),.int .i64 0,.str ([]:ag),.int .i64 0,sl ac m,.int .i64 0,sl ax m2] [(6,36),(8,50)]] [((13,0),9),((12,0),9)]
def fM(o:ag):az:=aW 138 [(3,sl cS used),(4,.eptr (aL w)),(5,.eptr (af v)),(6,.eptr (af v2)),(8,.bptr 3 0),(9,.int .i64 n),(10,sl af left),(11,sl af right),(12,sl cS v3),(13,sl cS v4),(14,.int .i64 i),(15,.str o),(33,.int .i64 n),(34,.int .i64 i)] [.dead,.dead,.dead,.cells [.int .i64 0,.str ([]:ag),.str ([]:ag),.int .i64 0,.str ([]:ag),.int .i64 0,sl ac m,.int .i64 0,sl ax m2] [(6,36),(8,50)]] [((13,0),9),((12,0),9)]
def eA:Option ag:=
 if(decide (i<(v2.Names.length:Int)))=true then
  (cH v2.Names i).bind fun x5=>
  some x5
 else
  some ([120]:ag)
theorem rb{x:ag}(h:eA v2 i=some x):aQ Pg GE 0 (cA Yz 130030) (EX .normal (fM used w v v2 n left right v3 v4 i m m2 x)) (rR used w v v2 n left right v3 v4 i m m2):=by
 have p4:=fun{sc F} (r:PS sc F)=>sv (be v2)<|sv (bh v2)<|cw (bR.ln v2.Names)<|r
 rcases aX h with⟨c3,h⟩|⟨c3,h⟩
 ·obtain⟨x5,bx5,h⟩:=aA h
  obtain rfl:=lf h
  exact ct Xi (p4<|sg 0 c3<|sv (be v2)<|sv (bh v2)<|sv (bR.ia (k:=.i64) bx5)<|sv (iY Nd (.str x5) [])<|eF .normal (fM used w v v2 n left right v3 v4 i m m2 x5))<|by kernel_rfl
 ·obtain rfl:=lf h
  exact ct Xi (p4<|sg 0 c3<|eF .normal (fM used w v v2 n left right v3 v4 i m m2 ([120]:ag)))<|by kernel_rfl
end
section
variable(used:waB)(w:aM)(v:ae)(v2:ae)(n:Int)(left:waC)(right:waC)(v3:waB)(v4:waB)(i:Int)(name:ag)(t51:waC)(t52:Int)(m:waA)(m2:waD)(taken:waB)(t53:Int)
def da:az:=aW 138 [(3,sl cS used),(4,.eptr (aL w)),(5,.eptr (af v)),(6,.eptr (af v2)),(8,.bptr 3 0),(9,.int .i64 n),(10,sl af left),(11,sl af right),(12,sl cS v3),(13,sl cS v4),(14,.int .i64 i),(15,.str name),(16,sl cS taken),(33,.int .i64 n),(34,.int .i64 i),(51,sl af t51),(52,.int .i64 t52),(53,.int .i64 t53)] [.dead,.dead,.dead,.cells [.int .i64 0,.str ([]:ag),.str ([]:ag),.int .i64 0,.str ([]:ag),.int .i64 0,sl ac m,.int .i64 0,sl ax m2] [(6,36),(8,50)]] [((51,0),38),((16,0),9),((13,0),9),((12,0),9)]
def fO(o:waB):az:=aW 138 [(3,sl cS used),(4,.eptr (aL w)),(5,.eptr (af v)),(6,.eptr (af v2)),(8,.bptr 3 0),(9,.int .i64 n),(10,sl af left),(11,sl af right),(12,sl cS v3),(13,sl cS v4),(14,.int .i64 i),(15,.str name),(16,sl cS o),(33,.int .i64 n),(34,.int .i64 i)] [.dead,.dead,.dead,.cells [.int .i64 0,.str ([]:ag),.str ([]:ag),.int .i64 0,.str ([]:ag),.int .i64 0,sl ac m,.int .i64 0,sl ax m2] [(6,36),(8,50)]] [((16,0),9),((13,0),9),((12,0),9)]
def bN:Option ((waB×Int)⊕(waB)):=
 if(decide (t53<t52))=true then
  (cH t51 t53).bind fun x9=>
  (K3 x9.Names (some (if(x9.Names.length:Int)<(aO (i+1))then(x9.Names.length:Int)else aO (i+1))) none).bind fun l10=>
  (app taken l10).bind fun l11=>
  some (.inl (l11,aO (t53+1)))
 else
  some (.inr taken)
def eC:Option waB:=loop (fun(zz:waB×Int)=>bN i t51 t52 zz.1 zz.2) (taken,t53)
theorem qf{y:(waB×Int)⊕(waB)}(h:bN i t51 t52 taken t53=some y):aQ Pg GE 0 (cA Yz 4161015) (LQ (fun(zz:waB×Int)=>da used w v v2 n left right v3 v4 i name t51 t52 m m2 zz.1 zz.2) (fun _=>.exit 2) (fO used w v v2 n left right v3 v4 i name m m2) y) (da used w v v2 n left right v3 v4 i name t51 t52 m m2 taken t53):=by
 rcases aX h with⟨c8,h⟩|⟨c8,h⟩
 ·obtain⟨x9,bx9,h⟩:=aA h
  obtain⟨l10,bl10,h⟩:=aA h
  obtain⟨l11,bl11,h⟩:=aA h
  obtain rfl:=lf h
  have z:=sg 0 c8<|sv (cQ.ia (k:=.i64) bx9)<|sv (aZ x9)<|sx A6<|sx (iX x9)<|ss<|ss<|cw (bR.ln x9.Names)<|sv (bR.sc bl10)<|sv (bR.ap bl11)<|y4 0 .normal (da used w v v2 n left right v3 v4 i name t51 t52 m m2 l11 (aO (t53+1))) rfl (eh (aI (up (aq iu used)) (aI (oI (cF w)) (aI (oI (av v)) (aI (oI (av v2)) (aI (d7 rfl) (aI trivial (aI (up (aq av left)) (aI (up (aq av right)) (aI (up (aq iu v3)) (aI (up (aq iu v4)) (aI trivial (aI trivial (aI (up (aq iu l11)) (aI trivial (aI trivial (aI (up (aq av t51)) (aI trivial (aI trivial trivial))))))))))))))))))) (aI trivial (aI trivial (aI trivial (aI (aI trivial (aI trivial (aI trivial (aI trivial (aI trivial (aI trivial (aI (up (aq ah m)) (aI trivial (aI (up (aq bJ m2)) trivial))))))))) trivial))))
  exact dV (A:=Xi) mixed z<|by kernel_rfl
 ·obtain rfl:=lf h
  have z:=sg 0 c8<|eF (.exit 2) (fO used w v v2 n left right v3 v4 i name m m2 taken)
  exact iW Xi (by intro hx;cases hx) z<|by kernel_rfl
theorem rh{x:waB}(h:eC i t51 t52 taken t53=some x):aQ Pg GE 0 (.loop (cA Yz 4161015)) (EX (.exit 2) (fO used w v v2 n left right v3 v4 i name m m2 x)) (da used w v v2 n left right v3 v4 i name t51 t52 m m2 taken t53):=
 aQ.loop (S:=fun(zz:waB×Int)=>da used w v v2 n left right v3 v4 i name t51 t52 m m2 zz.1 zz.2) (ex:=(fun _=>.exit 2)) (s:=(taken,t53)) h fun zz y hy=>qf used w v v2 n left right v3 v4 i name t51 t52 m m2 zz.1 zz.2 hy
end
section
variable(used:waB)(w:aM)(v:ae)(v2:ae)(n:Int)(m:waA)(m2:waD)(left:waC)(right:waC)(v3:waB)(v4:waB)(t34:Int)
def cZ:az:=aW 138 [(3,sl cS used),(4,.eptr (aL w)),(5,.eptr (af v)),(6,.eptr (af v2)),(8,.bptr 3 0),(9,.int .i64 n),(10,sl af left),(11,sl af right),(12,sl cS v3),(13,sl cS v4),(33,.int .i64 n),(34,.int .i64 t34)] [.dead,.dead,.dead,.cells [.int .i64 0,.str ([]:ag),.str ([]:ag),.int .i64 0,.str ([]:ag),.int .i64 0,sl ac m,.int .i64 0,sl ax m2] [(6,36),(8,50)]] [((13,0),9),((12,0),9)]
def fN(o:waC×waC×waB×waB):az:=aW 138 [(3,sl cS used),(4,.eptr (aL w)),(8,.bptr 3 0),(9,.int .i64 n),(10,sl af o.1),(11,sl af o.2.1),(12,sl cS o.2.2.1),(13,sl cS o.2.2.2)] [.dead,.dead,.dead,.cells [.int .i64 0,.str ([]:ag),.str ([]:ag),.int .i64 0,.str ([]:ag),.int .i64 0,sl ac m,.int .i64 0,sl ax m2] [(6,36),(8,50)]] [((13,0),9),((12,0),9)]
def cE:Option ((waC×waC×waB×waB×Int)⊕((waC×waC×waB×waB))):=
 if(decide (t34<n))=true then
  (eA v2 t34).bind fun o6=>
  (kK v4).bind fun r7=>
  (eC t34 ([v,v2]:List ae) (([v,v2]:List ae).length:Int) r7 0).bind fun o12=>
  (kY o12 o6).bind fun r13=>
  (app v4 ([r13]:List ag)).bind fun l14=>
  (app v3 ([r13]:List ag)).bind fun l15=>
  (i8 left v t34 r13).bind fun r16=>
  (i8 right v2 t34 r13).bind fun r17=>
  some (.inl (r16,r17,l15,l14,aO (t34+1)))
 else
  some (.inr (left,right,v3,v4))
def eB:Option ((waC×waC×waB×waB)):=loop (fun(zz:waC×waC×waB×waB×Int)=>cE v v2 n zz.1 zz.2.1 zz.2.2.1 zz.2.2.2.1 zz.2.2.2.2) (left,right,v3,v4,t34)
theorem qe{y:(waC×waC×waB×waB×Int)⊕((waC×waC×waB×waB))}(h:cE v v2 n left right v3 v4 t34=some y):aQ Pg GE 0 (cA Yz 1015) (LQ (fun(zz:waC×waC×waB×waB×Int)=>cZ used w v v2 n m m2 zz.1 zz.2.1 zz.2.2.1 zz.2.2.2.1 zz.2.2.2.2) (fun _=>.exit 0) (fN used w n m m2) y) (cZ used w v v2 n m m2 left right v3 v4 t34):=by
 rcases aX h with⟨c2,h⟩|⟨c2,h⟩
 ·obtain⟨o6,bo6,h⟩:=aA h
  obtain⟨r7,br7,h⟩:=aA h
  obtain⟨o12,bo12,h⟩:=aA h
  obtain⟨r13,br13,h⟩:=aA h
  obtain⟨l14,bl14,h⟩:=aA h
  obtain⟨l15,bl15,h⟩:=aA h
  obtain⟨r16,br16,h⟩:=aA h
  obtain⟨r17,br17,h⟩:=aA h
  obtain rfl:=lf h
  exact rF Xi (sg 0 c2<|oe 3<|di (rb used w v v2 n left right v3 v4 t34 m m2 bo6)<|bP (Df br7)<|sv (aZ v)<|sv (aZ v2)<|sv (cQ.mk' (v:=lO) gi ([v,v2]:List ae) 2 (by kernel_rfl))<|cw (cQ.ln ([v,v2]:List ae))<|di (rh used w v v2 n left right v3 v4 t34 o6 ([v,v2]:List ae) (([v,v2]:List ae).length:Int) m m2 r7 0 bo12)<|bP (tV br13)<|sv (bR.mk' (v:=PVal.str) L9 ([r13]:List ag) 1 (by kernel_rfl))<|sv (bR.ap bl14)<|sv (bR.mk' (v:=PVal.str) L9 ([r13]:List ag) 1 (by kernel_rfl))<|sv (bR.ap bl15)<|ra [0,0,0,0,15,0,0,0,0,511,1023,2047]<|sv (aZ v)<|bP (rZ br16)<|sv (aZ v2)<|bP (rZ br17)<|eF .normal (cZ used w v v2 n m m2 r16 r17 l15 l14 (aO (t34+1))))<|by kernel_rfl
 ·obtain rfl:=lf h
  have z:=sg 0 c2<|eF (.exit 0) (fN used w n m m2 (left,right,v3,v4))
  exact iW Xi (by intro hx;cases hx) z<|by kernel_rfl
theorem rf{x:(waC×waC×waB×waB)}(h:eB v v2 n left right v3 v4 t34=some x):aQ Pg GE 0 (.loop (cA Yz 1015)) (EX (.exit 0) (fN used w n m m2 x)) (cZ used w v v2 n m m2 left right v3 v4 t34):=
 aQ.loop (S:=fun(zz:waC×waC×waB×waB×Int)=>cZ used w v v2 n m m2 zz.1 zz.2.1 zz.2.2.1 zz.2.2.2.1 zz.2.2.2.2) (ex:=(fun _=>.exit 0)) (s:=(left,right,v3,v4,t34)) h fun zz y hy=>qe used w v v2 n m m2 zz.1 zz.2.1 zz.2.2.1 zz.2.2.2.1 zz.2.2.2.2 hy
end
section
variable(R51:du)(used:waB)(w:aM)(left:waC)(right:waC)(v:waB)(v2:waB)(m:waA)(m2:waD)(i:Int)(m3:Int)(m4:ag)(m5:ag)(m6:Int)(m7:ag)(m8:Int)(m9:waA)(m10:Int)(m11:waD)
def db:az:=aW 138 [(3,sl cS used),(4,.eptr (aL w)),(8,.bptr 3 0),(10,sl af left),(11,sl af right),(12,sl cS v),(13,sl cS v2),(20,.bptr 4 0),(21,.int .i64 i)] [.dead,.dead,.dead,.cells [.int .i64 0,.str ([]:ag),.str ([]:ag),.int .i64 0,.str ([]:ag),.int .i64 0,sl ac m,.int .i64 0,sl ax m2] [(6,36),(8,50)],.cells [.int .i64 m3,.str m4,.str m5,.int .i64 m6,.str m7,.int .i64 m8,sl ac m9,.int .i64 m10,sl ax m11] []] [((13,0),9),((12,0),9)]
def fP(o:Int×ag×ag×Int×ag×Int×waA×Int×waD):az:=aW 138 [(8,.bptr 3 0),(20,.bptr 4 0)] [.dead,.dead,.dead,.cells [.int .i64 0,.str ([]:ag),.str ([]:ag),.int .i64 0,.str ([]:ag),.int .i64 0,sl ac m,.int .i64 0,sl ax m2] [(6,36),(8,50)],.cells [.int .i64 o.1,.str o.2.1,.str o.2.2.1,.int .i64 o.2.2.2.1,.str o.2.2.2.2.1,.int .i64 o.2.2.2.2.2.1,sl ac o.2.2.2.2.2.2.1,.int .i64 o.2.2.2.2.2.2.2.1,sl ax o.2.2.2.2.2.2.2.2] []] []
def bO:Option ((Int×Int×ag×ag×Int×ag×Int×waA×Int×waD)⊕((Int×ag×ag×Int×ag×Int×waA×Int×waD))):=
 if(decide (i>=0))=true then
  (K3 v2 none (some (aO ((used.length:Int)+i)))).bind fun l23=>
  (cH right i).bind fun x24=>
  (cH left i).bind fun x25=>
  (R51 w x24 x25 l23).bind fun r26=>
  (cH right i).bind fun x27=>
  (cH v i).bind fun x28=>
  (sR x27 x28 (⟨m3,m4,m5,(⟨m6,m7,m8,m9⟩:aa),m10,m11⟩:ak)).bind fun r29=>
  (oJ ([r26,r29]:List ak)).bind fun r30=>
  some (.inl (aO (i - 1),r30.Op,r30.Name,r30.Sort_,r30.Pred.Op,r30.Pred.Name,r30.Pred.N,r30.Pred.Kids,r30.Tag,r30.Kids))
 else
  some (.inr (m3,m4,m5,m6,m7,m8,m9,m10,m11))
def gA:Option ((Int×ag×ag×Int×ag×Int×waA×Int×waD)):=loop (fun(zz:Int×Int×ag×ag×Int×ag×Int×waA×Int×waD)=>bO R51 used w left right v v2 zz.1 zz.2.1 zz.2.2.1 zz.2.2.2.1 zz.2.2.2.2.1 zz.2.2.2.2.2.1 zz.2.2.2.2.2.2.1 zz.2.2.2.2.2.2.2.1 zz.2.2.2.2.2.2.2.2.1 zz.2.2.2.2.2.2.2.2.2) (i,m3,m4,m5,m6,m7,m8,m9,m10,m11)
theorem qg(hR51:gU R51){y:(Int×Int×ag×ag×Int×ag×Int×waA×Int×waD)⊕((Int×ag×ag×Int×ag×Int×waA×Int×waD))}(h:bO R51 used w left right v v2 i m3 m4 m5 m6 m7 m8 m9 m10 m11=some y):aQ Pg GE 0 (cA Yz 4087) (LQ (fun(zz:Int×Int×ag×ag×Int×ag×Int×waA×Int×waD)=>db used w left right v v2 m m2 zz.1 zz.2.1 zz.2.2.1 zz.2.2.2.1 zz.2.2.2.2.1 zz.2.2.2.2.2.1 zz.2.2.2.2.2.2.1 zz.2.2.2.2.2.2.2.1 zz.2.2.2.2.2.2.2.2.1 zz.2.2.2.2.2.2.2.2.2) (fun _=>.exit 4) (fP m m2) y) (db used w left right v v2 m m2 i m3 m4 m5 m6 m7 m8 m9 m10 m11):=by
 rcases aX h with⟨c22,h⟩|⟨c22,h⟩
 ·obtain⟨l23,bl23,h⟩:=aA h
  obtain⟨x24,bx24,h⟩:=aA h
  obtain⟨x25,bx25,h⟩:=aA h
  obtain⟨r26,br26,h⟩:=aA h
  obtain⟨x27,bx27,h⟩:=aA h
  obtain⟨x28,bx28,h⟩:=aA h
  obtain⟨r29,br29,h⟩:=aA h
  obtain⟨r30,br30,h⟩:=aA h
  obtain rfl:=lf h
  exact rF Xi (sg 0 c22<|cw (bR.ln used)<|sv (bR.sc bl23)<|ra [0,0,0,6,14,0,0,96,224,0,1023,0,0,6144,14336,0,0,98304,229376,0,1048575,2097151,4194303,8388607]<|sv (er w)<|sv (cQ.ia (k:=.i64) bx24)<|sv (aZ x24)<|sv (cQ.ia (k:=.i64) bx25)<|sv (aZ x25)<|bP (hR51 _ _ _ _ _ br26)<|sv (cQ.ia (k:=.i64) bx27)<|sv (aZ x27)<|sv (bR.ia (k:=.i64) bx28)<|sv (iY Nd (.str x28) [])<|sv (iS (⟨m3,m4,m5,(⟨m6,m7,m8,m9⟩:aa),m10,m11⟩:ak) [])<|bP (Iw br29)<|sv (za.mk' (v:=vB) pU ([r26,r29]:List ak) 2 (by kernel_rfl))<|bP (uV br30)<|Ym (dJ r30)<|eF .normal (db used w left right v v2 m m2 (aO (i - 1)) r30.Op r30.Name r30.Sort_ r30.Pred.Op r30.Pred.Name r30.Pred.N r30.Pred.Kids r30.Tag r30.Kids))<|by kernel_rfl
 ·obtain rfl:=lf h
  have z:=sg 0 c22<|eF (.exit 4) (fP m m2 (m3,m4,m5,m6,m7,m8,m9,m10,m11))
  exact iW Xi (by intro hx;cases hx) z<|by kernel_rfl
theorem ri(hR51:gU R51){x:(Int×ag×ag×Int×ag×Int×waA×Int×waD)}(h:gA R51 used w left right v v2 i m3 m4 m5 m6 m7 m8 m9 m10 m11=some x):aQ Pg GE 0 (.loop (cA Yz 4087)) (EX (.exit 4) (fP m m2 x)) (db used w left right v v2 m m2 i m3 m4 m5 m6 m7 m8 m9 m10 m11):=
 aQ.loop (S:=fun(zz:Int×Int×ag×ag×Int×ag×Int×waA×Int×waD)=>db used w left right v v2 m m2 zz.1 zz.2.1 zz.2.2.1 zz.2.2.2.1 zz.2.2.2.2.1 zz.2.2.2.2.2.1 zz.2.2.2.2.2.2.1 zz.2.2.2.2.2.2.2.1 zz.2.2.2.2.2.2.2.2.1 zz.2.2.2.2.2.2.2.2.2) (ex:=(fun _=>.exit 4)) (s:=(i,m3,m4,m5,m6,m7,m8,m9,m10,m11)) h fun zz y hy=>qg R51 used w left right v v2 m m2 zz.1 zz.2.1 zz.2.2.1 zz.2.2.2.1 zz.2.2.2.2.1 zz.2.2.2.2.2.1 zz.2.2.2.2.2.2.1 zz.2.2.2.2.2.2.2.1 zz.2.2.2.2.2.2.2.2.1 zz.2.2.2.2.2.2.2.2.2 hR51 hy
end
def fH(R51:du)(w:aM)(a:ae)(a2:ae)(used:waB):Option ak:=
 (kK used).bind fun r1=>
 (eB a a2 (aO ((a2.Args.length:Int) - 1)) a.Args a2.Args ([]:List ag) r1 0).bind fun o18=>
 (cH o18.1 (aO ((a2.Args.length:Int) - 1))).bind fun x19=>
 (cH o18.2.1 (aO ((a2.Args.length:Int) - 1))).bind fun x20=>
 (R51 w x19 x20 o18.2.2.2).bind fun r21=>
 (gA R51 used w o18.1 o18.2.1 o18.2.2.1 o18.2.2.2 (aO ((aO ((a2.Args.length:Int) - 1)) - 1)) r21.Op r21.Name r21.Sort_ r21.Pred.Op r21.Pred.Name r21.Pred.N r21.Pred.Kids r21.Tag r21.Kids).bind fun o31=>
 some (⟨o31.1,o31.2.1,o31.2.2.1,(⟨o31.2.2.2.1,o31.2.2.2.2.1,o31.2.2.2.2.2.1,o31.2.2.2.2.2.2.1⟩:aa),o31.2.2.2.2.2.2.2.1,o31.2.2.2.2.2.2.2.2⟩:ak)
theorem uj(R51:du)(hR51:gU R51){w:aM}{a:ae}{a2:ae}{used:waB}{r:ak}(h:fH R51 w a a2 used=some r):CC Pg GE 54 [.agg (aL w),.agg (af a),.agg (af a2),sl cS used] (.agg (ax r)) []:=by
 obtain⟨r1,br1,h⟩:=aA h
 obtain⟨o18,bo18,h⟩:=aA h
 obtain⟨x19,bx19,h⟩:=aA h
 obtain⟨x20,bx20,h⟩:=aA h
 obtain⟨r21,br21,h⟩:=aA h
 obtain⟨o31,bo31,h⟩:=aA h
 obtain rfl:=lf h
 have z:=se (g9 w)<|se (co a)<|se (co a2)<|sx y8<|sv (aT a2)<|sv (aU a2)<|cw (cQ.ln a2.Args)<|ra [0,1,0,4,3,31]<|sv (aT a)<|sv (aU a)<|sv (aT a2)<|sv (aU a2)<|bP (Df br1)<|di (rf used w a a2 (aO ((a2.Args.length:Int) - 1)) ([]:List aa) ([]:List ak) a.Args a2.Args ([]:List ag) r1 0 bo18)<|ra [0,0,0,6,14,0,0,96,224,0,1023,0,4095]<|sv (er w)<|sv (cQ.ia (k:=.i64) bx19)<|sv (aZ x19)<|sv (cQ.ia (k:=.i64) bx20)<|sv (aZ x20)<|bP (hR51 _ _ _ _ _ br21)<|sx (dJ r21)<|di (ri R51 used w o18.1 o18.2.1 o18.2.2.1 o18.2.2.2 ([]:List aa) ([]:List ak) (aO ((aO ((a2.Args.length:Int) - 1)) - 1)) r21.Op r21.Name r21.Sort_ r21.Pred.Op r21.Pred.Name r21.Pred.N r21.Pred.Kids r21.Tag r21.Kids hR51 bo31)<|sv (iS (⟨o31.1,o31.2.1,o31.2.2.1,(⟨o31.2.2.2.1,o31.2.2.2.2.1,o31.2.2.2.2.2.1,o31.2.2.2.2.2.2.1⟩:aa),o31.2.2.2.2.2.2.2.1,o31.2.2.2.2.2.2.2.2⟩:ak) [])<|sx (dJ (⟨o31.1,o31.2.1,o31.2.2.1,(⟨o31.2.2.2.1,o31.2.2.2.2.1,o31.2.2.2.2.2.1,o31.2.2.2.2.2.2.1⟩:aa),o31.2.2.2.2.2.2.2.1,o31.2.2.2.2.2.2.2.2⟩:ak))<|en (aI (e8 (⟨o31.1,o31.2.1,o31.2.2.1,(⟨o31.2.2.2.1,o31.2.2.2.2.1,o31.2.2.2.2.2.1,o31.2.2.2.2.2.2.1⟩:aa),o31.2.2.2.2.2.2.2.1,o31.2.2.2.2.2.2.2.2⟩:ak))<|(bJ (⟨o31.1,o31.2.1,o31.2.2.1,(⟨o31.2.2.2.1,o31.2.2.2.2.1,o31.2.2.2.2.2.1,o31.2.2.2.2.2.2.1⟩:aa),o31.2.2.2.2.2.2.2.1,o31.2.2.2.2.2.2.2.2⟩:ak)))
 exact ck Xi call54 func54 (c:=Yz) rfl (aI (cF w) (aI (av a) (aI (av a2) (aI (aq iu used) trivial)))) z<|by kernel_rfl
noncomputable def qdP:Code:=f96.body.getD .skip
def qdE:List Nat:=[]
def iB(w:aM)(p:aa):Option ak:=
 some (⟨3,([]:ag),([]:ag),p,w.tag,([]:List ak)⟩:ak)
theorem yz{w:aM}{p:aa}{r:ak}(h:iB w p=some r):CC Pg GE 96 [.agg (aL w),.agg (ac p)] (.agg (ax r)) [(8,50)]:=by
 obtain rfl:=lf h
 have z:=se (g9 w)<|se (cf p)<|sx y8<|sv (aY p)<|sv (wJ w)<|sv (y5 w)<|sb (JH 3 p w.tag) (JE 3 p w.tag)<|sy (cz (⟨3,([]:ag),([]:ag),p,w.tag,([]:List ak)⟩:ak))<|en (aI (e8 (⟨3,([]:ag),([]:ag),p,w.tag,([]:List ak)⟩:ak))<|aI (bJ (⟨3,([]:ag),([]:ag),p,w.tag,([]:List ak)⟩:ak))<|rT)
 exact ck qdE call96 func96 (c:=qdP) rfl (aI (cF w) (aI (ah p) trivial)) z<|by kernel_rfl
noncomputable def qdN:Code:=f78.body.getD .skip
def qdC:List Nat:=[]
def eD(w:aM)(name:ag)(s:ag)(hyp:aa)(goal:aa):Option ak:=
 (iB w goal).bind fun r1=>
 some (⟨2,name,s,hyp,0,([r1]:List ak)⟩:ak)
theorem lR{w:aM}{name:ag}{s:ag}{hyp:aa}{goal:aa}{r:ak}(h:eD w name s hyp goal=some r):CC Pg GE 78 [.agg (aL w),.str name,.str s,.agg (ac hyp),.agg (ac goal)] (.agg (ax r)) []:=by
 obtain⟨r1,br1,h⟩:=aA h
 obtain rfl:=lf h
 have z:=se (g9 w)<|se (cf hyp)<|se (cf goal)<|sx y8<|ra [0,0,0,0,0,24,56,127,255]<|sv (aY hyp)<|sv (er w)<|sv (aY goal)<|bP (yz br1)<|sv (za.mk' (v:=vB) pU ([r1]:List ak) 1 (by kernel_rfl))<|sv (tM 2 name s hyp ([r1]:List ak))<|sx (dJ (⟨2,name,s,hyp,0,([r1]:List ak)⟩:ak))<|en (aI (e8 (⟨2,name,s,hyp,0,([r1]:List ak)⟩:ak))<|(bJ (⟨2,name,s,hyp,0,([r1]:List ak)⟩:ak)))
 exact ck qdC call78 func78 (c:=qdN) rfl (aI (cF w) (aI trivial (aI trivial (aI (ah hyp) (aI (ah goal) trivial))))) z<|by kernel_rfl
noncomputable def qbW:Code:=f79.body.getD .skip
def qax:List Nat:=[]
section
variable(name:ag)(t9:(List eV))(t10:Int)(t11:Int)(m:ag)(m2:waB)(m3:waF)(m4:waG)
def ja:az:=aW 22 [(1,.str name),(4,.bptr 1 0),(9,sl cj t9),(10,.int .i64 t10),(11,.int .i64 t11)] [.dead,.cells [.str m,sl cS m2,sl bA m3,sl eg m4] [(1,9),(2,102),(3,73)]] []
def jb(o:(ag×waB×waF×waG)⊕(ag×waB×waF×waG)):Exit:=match o with
 |(.inl _)=>.ret
 |(.inr _)=>.exit 0
def gj(o:(ag×waB×waF×waG)⊕(ag×waB×waF×waG)):az:=match o with
 |(.inl o)=>aW 22 [(4,.bptr 1 0),(5,.bool true)] [.dead,.cells [.str o.1,sl cS o.2.1,sl bA o.2.2.1,sl eg o.2.2.2] []] []
 |(.inr o)=>aW 22 [(4,.bptr 1 0)] [.dead,.cells [.str o.1,sl cS o.2.1,sl bA o.2.2.1,sl eg o.2.2.2] [(1,9),(2,102),(3,73)]] []
def fa:Option ((Int×ag×waB×waF×waG)⊕((ag×waB×waF×waG)⊕(ag×waB×waF×waG))):=
 if(decide (t11<t10))=true then
  (cH t9 t11).bind fun x2=>
  if(x2.Name==name)=true then
   some (.inr (.inl (x2.Name,x2.Vars,x2.Preds,x2.Cons)))
  else
   some (.inl (aO (t11+1),m,m2,m3,m4))
 else
  some (.inr (.inr (m,m2,m3,m4)))
def uk:Option ((ag×waB×waF×waG)⊕(ag×waB×waF×waG)):=loop (fun(zz:Int×ag×waB×waF×waG)=>fa name t9 t10 zz.1 zz.2.1 zz.2.2.1 zz.2.2.2.1 zz.2.2.2.2) (t11,m,m2,m3,m4)
theorem DQ{y:(Int×ag×waB×waF×waG)⊕((ag×waB×waF×waG)⊕(ag×waB×waF×waG))}(h:fa name t9 t10 t11 m m2 m3 m4=some y):aQ Pg GE 0 (cA qbW 55) (LQ (fun(zz:Int×ag×waB×waF×waG)=>ja name t9 t10 zz.1 zz.2.1 zz.2.2.1 zz.2.2.2.1 zz.2.2.2.2) jb gj y) (ja name t9 t10 t11 m m2 m3 m4):=by
 rcases aX h with⟨c1,h⟩|⟨c1,h⟩
 ·obtain⟨x2,bx2,h⟩:=aA h
  have p4:=fun{sc F} (r:PS sc F)=>sg 0 c1<|sv (KU.ia (k:=.i64) bx2)<|sv (V9 x2)<|sx X8<|sx (Gu x2)<|ss<|r
  rcases aX h with⟨c3,h⟩|⟨c3,h⟩
  ·obtain rfl:=lf h
   have z:=p4<|sg 0 c3<|sv (Ud x2 [])<|sx (Gu x2)<|y4 0 (jb (.inl (x2.Name,x2.Vars,x2.Preds,x2.Cons))) (gj (.inl (x2.Name,x2.Vars,x2.Preds,x2.Cons))) rfl (eh (aI (d7 rfl) (aI trivial trivial))) (aI trivial (aI (aI trivial (aI (up (aq iu x2.Vars)) (aI (up (aq lG x2.Preds)) (aI (up (aq Er x2.Cons)) trivial)))) trivial))
   exact Gs (A:=qax) mixed (by intro hx;cases hx) z<|by kernel_rfl
  ·obtain rfl:=lf h
   have z:=p4<|sg 0 c3<|y4 0 .normal (ja name t9 t10 (aO (t11+1)) m m2 m3 m4) rfl (eh (aI trivial (aI (d7 rfl) (aI (up (aq wE t9)) (aI trivial (aI trivial trivial)))))) (aI trivial (aI (aI trivial (aI (up (aq iu m2)) (aI (up (aq lG m3)) (aI (up (aq Er m4)) trivial)))) trivial))
   exact dV (A:=qax) mixed z<|by kernel_rfl
 ·obtain rfl:=lf h
  have z:=sg 0 c1<|eF (jb (.inr (m,m2,m3,m4))) (gj (.inr (m,m2,m3,m4)))
  exact iW qax (by intro hx;cases hx) z<|by kernel_rfl
theorem vw{x:(ag×waB×waF×waG)⊕(ag×waB×waF×waG)}(h:uk name t9 t10 t11 m m2 m3 m4=some x):aQ Pg GE 0 (.loop (cA qbW 55)) (EX (jb x) (gj x)) (ja name t9 t10 t11 m m2 m3 m4):=
 aQ.loop (S:=fun(zz:Int×ag×waB×waF×waG)=>ja name t9 t10 zz.1 zz.2.1 zz.2.2.1 zz.2.2.2.1 zz.2.2.2.2) (ex:=jb) (s:=(t11,m,m2,m3,m4)) h fun zz y hy=>DQ name t9 t10 zz.1 zz.2.1 zz.2.2.1 zz.2.2.2.1 zz.2.2.2.2 hy
end
def vq(m:aR)(name:ag):Option (eV×Bool):=
 (uk name m.Datas (m.Datas.length:Int) 0 ([]:ag) ([]:List ag) ([]:List dc) ([]:List iv)).bind fun o5=>match o5 with
 |(.inl o5)=>
  some ((⟨o5.1,o5.2.1,o5.2.2.1,o5.2.2.2⟩:eV),true)
 |(.inr o5)=>
  some ((⟨([]:ag),([]:List ag),([]:List dc),([]:List iv)⟩:eV),false)
theorem K0{m:aR}{name:ag}{r:eV×Bool}(h:vq m name=some r):CC Pg GE 79 [.agg (aC m),.str name] (.tuple [.agg (cj r.1),.bool r.2]) []:=by
 obtain⟨o5,bo5,h⟩:=aA h
 rcases o5 with o5|o5
 ·obtain rfl:=lf h
  have z:=se (tX m)<|sx X8<|sv (dw m)<|sv (dy m)<|cw (KU.ln m.Datas)<|di (e:=.ret) (s1:=gj (.inl o5)) (vw name m.Datas (m.Datas.length:Int) 0 ([]:ag) ([]:List ag) ([]:List dc) ([]:List iv) bo5)<|en (aI (vbp PVal.tuple (G5 (M8 (⟨o5.1,o5.2.1,o5.2.2.1,o5.2.2.2⟩:eV)) (G5 (rP (.bool true)) (rfl:([]:List PVal)=[]))))<|(aI (wE (⟨o5.1,o5.2.1,o5.2.2.1,o5.2.2.2⟩:eV)) (aI trivial trivial)))
  exact ck qax call79 func79 (c:=qbW) rfl (aI (ij m) (aI trivial trivial)) z<|by kernel_rfl
 ·obtain rfl:=lf h
  have z:=se (tX m)<|sx X8<|sv (dw m)<|sv (dy m)<|cw (KU.ln m.Datas)<|di (e:=.exit 0) (s1:=gj (.inr o5)) (vw name m.Datas (m.Datas.length:Int) 0 ([]:ag) ([]:List ag) ([]:List dc) ([]:List iv) bo5)<|sb (Rj) (Rf)<|sy (tO (⟨([]:ag),([]:List ag),([]:List dc),([]:List iv)⟩:eV))<|en (aI (vbp PVal.tuple (G5 (M8 (⟨([]:ag),([]:List ag),([]:List dc),([]:List iv)⟩:eV)) (G5 (rP (.bool false)) (rfl:([]:List PVal)=[]))))<|(aI (wE (⟨([]:ag),([]:List ag),([]:List dc),([]:List iv)⟩:eV)) (aI trivial trivial)))
  exact ck qax call79 func79 (c:=qbW) rfl (aI (ij m) (aI trivial trivial)) z<|by kernel_rfl
noncomputable def qaL:Code:=f108.body.getD .skip
def qam:List Nat:=[]
def gg(is:Bool):Option aa:=
 if is=true then
  some (⟨2,([]:ag),1,([]:List aa)⟩:aa)
 else
  some (⟨2,([]:ag),0,([]:List aa)⟩:aa)
theorem i6{is:Bool}{r:aa}(h:gg is=some r):CC Pg GE 108 [.bool is] (.agg (ac r)) [(3,36)]:=by
 rcases aX h with⟨c1,h⟩|⟨c1,h⟩
 ·obtain rfl:=lf h
  have z:=sx lM<|sg 0 c1<|sb (xT 2 1) (xQ 2 1)<|sy (aE (⟨2,([]:ag),1,([]:List aa)⟩:aa))<|en (aI (e9 (⟨2,([]:ag),1,([]:List aa)⟩:aa))<|aI (ah (⟨2,([]:ag),1,([]:List aa)⟩:aa))<|rT)
  exact ck qam call108 func108 (c:=qaL) rfl (aI trivial trivial) z<|by kernel_rfl
 ·obtain rfl:=lf h
  have z:=sx lM<|sg 0 c1<|sb (JI 2) (JG 2)<|sy (aE (⟨2,([]:ag),0,([]:List aa)⟩:aa))<|en (aI (e9 (⟨2,([]:ag),0,([]:List aa)⟩:aa))<|aI (ah (⟨2,([]:ag),0,([]:List aa)⟩:aa))<|rT)
  exact ck qam call108 func108 (c:=qaL) rfl (aI trivial trivial) z<|by kernel_rfl
noncomputable def qc7:Code:=f90.body.getD .skip
def qc1:List Nat:=[]
def wU(p:aa):Option Bool:=
 (iZ p (⟨0,([]:ag),0,([]:List aa)⟩:aa)).bind fun r1=>
 if r1=true then
  some true
 else
  (gg true).bind fun r4=>
  (iZ p r4).bind fun r5=>
  some r5
theorem E6{p:aa}{r:Bool}(h:wU p=some r):CC Pg GE 90 [.agg (ac p)] (.bool r) []:=by
 obtain⟨r1,br1,h⟩:=aA h
 have p3:=fun{sc F} (r:PS sc F)=>se (cf p)<|ra [0,0,3,7,15,15,63,127,255]<|sv (aY p)<|sb (tN) (tL)<|bP (oV br1)<|r
 rcases aX h with⟨c2,h⟩|⟨c2,h⟩
 ·obtain rfl:=lf h
  have z:=p3<|sg 4 c2<|en (aI (rP (.bool true))<|trivial)
  exact ck qc1 call90 func90 (c:=qc7) rfl (aI (ah p) trivial) z<|by kernel_rfl
 ·obtain⟨r4,br4,h⟩:=aA h
  obtain⟨r5,br5,h⟩:=aA h
  obtain rfl:=lf h
  have z:=p3<|sg 4 c2<|sv (aY p)<|bP (i6 br4)<|bP (oV br5)<|en (aI (rP (.bool r5))<|trivial)
  exact ck qc1 call90 func90 (c:=qc7) rfl (aI (ah p) trivial) z<|by kernel_rfl
noncomputable def qb1:Code:=f97.body.getD .skip
def Zb:List Nat:=[25]
section
variable(t8:waA)(t9:Int)(v:Bool)(t10:Int)(m:Int)(m2:ag)(m3:Int)(m4:waA)(m5:Int)(m6:ag)(m7:Int)(m8:waA)
def im:az:=aW 33 [(2,.bptr 0 0),(3,.bptr 1 0),(4,.bool v),(8,sl ac t8),(9,.int .i64 t9),(10,.int .i64 t10)] [.cells [.int .i64 m,.str m2,.int .i64 m3,sl ac m4] [(3,36)],.cells [.int .i64 m5,.str m6,.int .i64 m7,sl ac m8] []] []
def mT(o:(Int×ag×Int×waA×Int×ag×Int×waA)⊕(Int×ag×Int×waA×Int×ag×Int×waA)):Exit:=match o with
 |(.inl _)=>.ret
 |(.inr _)=>.exit 0
def j6(o:(Int×ag×Int×waA×Int×ag×Int×waA)⊕(Int×ag×Int×waA×Int×ag×Int×waA)):az:=match o with
 |(.inl o)=>aW 33 [(2,.bptr 0 0)] [.cells [.int .i64 o.1,.str o.2.1,.int .i64 o.2.2.1,sl ac o.2.2.2.1] [(3,36)],.cells [.int .i64 o.2.2.2.2.1,.str o.2.2.2.2.2.1,.int .i64 o.2.2.2.2.2.2.1,sl ac o.2.2.2.2.2.2.2] []] []
 |(.inr o)=>aW 33 [(2,.bptr 0 0),(3,.bptr 1 0)] [.cells [.int .i64 o.1,.str o.2.1,.int .i64 o.2.2.1,sl ac o.2.2.2.1] [(3,36)],.cells [.int .i64 o.2.2.2.2.1,.str o.2.2.2.2.2.1,.int .i64 o.2.2.2.2.2.2.1,sl ac o.2.2.2.2.2.2.2] []] []
def gf:Option ((Bool×Int×Int×ag×Int×waA×Int×ag×Int×waA)⊕((Int×ag×Int×waA×Int×ag×Int×waA)⊕(Int×ag×Int×waA×Int×ag×Int×waA))):=
 if (decide (t10 < t9)) = true then
  (cH t8 t10).bind fun x3=>
  (wU x3).bind fun r4=>
  if r4=true then
   some (.inl (v,aO (t10+1),m,m2,m3,m4,m5,m6,m7,m8))
  else
   (gg false).bind fun r7=>
   (iZ x3 r7).bind fun r8=>
   if r8=true then
    (gg false).bind fun r11=>
    some (.inr (.inl (r11.Op,r11.Name,r11.N,r11.Kids,m5,m6,m7,m8)))
   else
    if v=true then
     (nX x3).bind fun r14=>
     some (.inl (v,aO (t10+1),m,m2,m3,m4,15,([]:ag),0,([(⟨m5,m6,m7,m8⟩:aa),r14]:List aa)))
    else
     (nX x3).bind fun r15=>
     some (.inl (true,aO (t10+1),m,m2,m3,m4,r15.Op,r15.Name,r15.N,r15.Kids))
 else
  some (.inr (.inr (m,m2,m3,m4,m5,m6,m7,m8)))
def AX:Option ((Int×ag×Int×waA×Int×ag×Int×waA)⊕(Int×ag×Int×waA×Int×ag×Int×waA)):=loop (fun(zz:Bool×Int×Int×ag×Int×waA×Int×ag×Int×waA)=>gf t8 t9 zz.1 zz.2.1 zz.2.2.1 zz.2.2.2.1 zz.2.2.2.2.1 zz.2.2.2.2.2.1 zz.2.2.2.2.2.2.1 zz.2.2.2.2.2.2.2.1 zz.2.2.2.2.2.2.2.2.1 zz.2.2.2.2.2.2.2.2.2) (v,t10,m,m2,m3,m4,m5,m6,m7,m8)
theorem Io{y:(Bool×Int×Int×ag×Int×waA×Int×ag×Int×waA)⊕((Int×ag×Int×waA×Int×ag×Int×waA)⊕(Int×ag×Int×waA×Int×ag×Int×waA))}(h:gf t8 t9 v t10 m m2 m3 m4 m5 m6 m7 m8=some y):aQ Pg GE 0 (cA qb1 119) (LQ (fun(zz:Bool×Int×Int×ag×Int×waA×Int×ag×Int×waA)=>im t8 t9 zz.1 zz.2.1 zz.2.2.1 zz.2.2.2.1 zz.2.2.2.2.1 zz.2.2.2.2.2.1 zz.2.2.2.2.2.2.1 zz.2.2.2.2.2.2.2.1 zz.2.2.2.2.2.2.2.2.1 zz.2.2.2.2.2.2.2.2.2) mT j6 y) (im t8 t9 v t10 m m2 m3 m4 m5 m6 m7 m8):=by
 rcases aX h with⟨c2,h⟩|⟨c2,h⟩
 ·obtain⟨x3,bx3,h⟩:=aA h
  obtain⟨r4,br4,h⟩:=aA h
  have p6:=fun{sc F} (r:PS sc F)=>sg 0 c2<|sv (cd.ia (k:=.i64) bx3)<|sv (aY x3)<|sx lM<|sx (dn x3)<|sv (ch x3 [])<|bP (E6 br4)<|r
  rcases aX h with⟨c5,h⟩|⟨c5,h⟩
  ·obtain rfl:=lf h
   have z:=p6<|sg 0 c5<|y4 0 .normal (im t8 t9 v (aO (t10+1)) m m2 m3 m4 m5 m6 m7 m8) rfl (eh (aI (d7 rfl) (aI (d7 rfl) (aI trivial (aI (up (aq ah t8)) (aI trivial (aI trivial trivial))))))) (aI (aI trivial (aI trivial (aI trivial (aI (up (aq ah m4)) trivial)))) (aI (aI trivial (aI trivial (aI trivial (aI (up (aq ah m8)) trivial)))) trivial))
   exact dV (A:=Zb) mixed z<|by kernel_rfl
  ·obtain⟨r7,br7,h⟩:=aA h
   obtain⟨r8,br8,h⟩:=aA h
   have p10:=fun{sc F} (r:PS sc F)=>p6<|sg 0 c5<|ra [0,0,3,7]<|sv (ch x3 [])<|bP (i6 br7)<|bP (oV br8)<|r
   rcases aX h with⟨c9,h⟩|⟨c9,h⟩
   ·obtain⟨r11,br11,h⟩:=aA h
    obtain rfl:=lf h
    have z:=p10<|sg 0 c9<|bP (i6 br11)<|sy (aE r11)<|y4 0 (mT (.inl (r11.Op,r11.Name,r11.N,r11.Kids,m5,m6,m7,m8))) (j6 (.inl (r11.Op,r11.Name,r11.N,r11.Kids,m5,m6,m7,m8))) rfl (eh (aI (d7 rfl) trivial)) (aI (aI trivial (aI trivial (aI trivial (aI (up (aq ah r11.Kids)) trivial)))) (aI (aI trivial (aI trivial (aI trivial (aI (up (aq ah m8)) trivial)))) trivial))
    exact Gs (A:=Zb) mixed (by intro hx;cases hx) z<|by kernel_rfl
   ·have p13:=fun{sc F} (r:PS sc F)=>p10<|sg 0 c9<|r
    rcases aX h with⟨c12,h⟩|⟨c12,h⟩
    ·obtain⟨r14,br14,h⟩:=aA h
     obtain rfl:=lf h
     have z:=p13<|sg 0 c12<|ra [0,0,2,7,15,31]<|sv (ch (⟨m5,m6,m7,m8⟩:aa) [])<|sv (ch x3 [])<|bP (oW br14)<|sv (cd.mk' (v:=ff) dl ([(⟨m5,m6,m7,m8⟩:aa),r14]:List aa) 2 (by kernel_rfl))<|sv (Eo 15 ([(⟨m5,m6,m7,m8⟩:aa),r14]:List aa))<|sx (dn (⟨15,([]:ag),0,([(⟨m5,m6,m7,m8⟩:aa),r14]:List aa)⟩:aa))<|y4 0 .normal (im t8 t9 v (aO (t10+1)) m m2 m3 m4 15 ([]:ag) 0 ([(⟨m5,m6,m7,m8⟩:aa),r14]:List aa)) rfl (eh (aI (d7 rfl) (aI (d7 rfl) (aI trivial (aI (up (aq ah t8)) (aI trivial (aI trivial trivial))))))) (aI (aI trivial (aI trivial (aI trivial (aI (up (aq ah m4)) trivial)))) (aI (aI trivial (aI trivial (aI trivial (aI (up (aq ah ([(⟨m5,m6,m7,m8⟩:aa),r14]:List aa))) trivial)))) trivial))
     exact dV (A:=Zb) mixed z<|by kernel_rfl
    ·obtain⟨r15,br15,h⟩:=aA h
     obtain rfl:=lf h
     have z:=p13<|sg 0 c12<|sv (ch x3 [])<|bP (oW br15)<|sy (aE r15)<|y4 0 .normal (im t8 t9 true (aO (t10+1)) m m2 m3 m4 r15.Op r15.Name r15.N r15.Kids) rfl (eh (aI (d7 rfl) (aI (d7 rfl) (aI trivial (aI (up (aq ah t8)) (aI trivial (aI trivial trivial))))))) (aI (aI trivial (aI trivial (aI trivial (aI (up (aq ah m4)) trivial)))) (aI (aI trivial (aI trivial (aI trivial (aI (up (aq ah r15.Kids)) trivial)))) trivial))
     exact dV (A:=Zb) mixed z<|by kernel_rfl
 ·obtain rfl:=lf h
  have z:=sg 0 c2<|eF (mT (.inr (m,m2,m3,m4,m5,m6,m7,m8))) (j6 (.inr (m,m2,m3,m4,m5,m6,m7,m8)))
  exact iW Zb (by intro hx;cases hx) z<|by kernel_rfl
theorem AY{x:(Int×ag×Int×waA×Int×ag×Int×waA)⊕(Int×ag×Int×waA×Int×ag×Int×waA)}(h:AX t8 t9 v t10 m m2 m3 m4 m5 m6 m7 m8=some x):aQ Pg GE 0 (.loop (cA qb1 119)) (EX (mT x) (j6 x)) (im t8 t9 v t10 m m2 m3 m4 m5 m6 m7 m8):=
 aQ.loop (S:=fun(zz:Bool×Int×Int×ag×Int×waA×Int×ag×Int×waA)=>im t8 t9 zz.1 zz.2.1 zz.2.2.1 zz.2.2.2.1 zz.2.2.2.2.1 zz.2.2.2.2.2.1 zz.2.2.2.2.2.2.1 zz.2.2.2.2.2.2.2.1 zz.2.2.2.2.2.2.2.2.1 zz.2.2.2.2.2.2.2.2.2) (ex:=mT) (s:=(v,t10,m,m2,m3,m4,m5,m6,m7,m8)) h fun zz y hy=>Io t8 t9 zz.1 zz.2.1 zz.2.2.1 zz.2.2.2.1 zz.2.2.2.2.1 zz.2.2.2.2.2.1 zz.2.2.2.2.2.2.1 zz.2.2.2.2.2.2.2.1 zz.2.2.2.2.2.2.2.2.1 zz.2.2.2.2.2.2.2.2.2 hy
end
def E1(a:waA):Option aa:=
 (gg true).bind fun r1=>
 (AX a (a.length:Int) false 0 0 ([]:ag) 0 ([]:List aa) r1.Op r1.Name r1.N r1.Kids).bind fun o16=>match o16 with
 |(.inl o16)=>
  some (⟨o16.1,o16.2.1,o16.2.2.1,o16.2.2.2.1⟩:aa)
 |(.inr o16)=>
  some (⟨o16.2.2.2.2.1,o16.2.2.2.2.2.1,o16.2.2.2.2.2.2.1,o16.2.2.2.2.2.2.2⟩:aa)
theorem Qw{a:waA}{r:aa}(h:E1 a=some r):CC Pg GE 97 [sl ac a] (.agg (ac r)) []:=by
 obtain⟨r1,br1,h⟩:=aA h
 obtain⟨o16,bo16,h⟩:=aA h
 rcases o16 with o16|o16
 ·obtain rfl:=lf h
  have z:=sx lM<|bP (i6 br1)<|sx lM<|sy (aE r1)<|cw (cd.ln a)<|di (e:=.ret) (s1:=j6 (.inl o16)) (AY a (a.length:Int) false 0 0 ([]:ag) 0 ([]:List aa) r1.Op r1.Name r1.N r1.Kids bo16)<|en (aI (e9 (⟨o16.1,o16.2.1,o16.2.2.1,o16.2.2.2.1⟩:aa))<|(ah (⟨o16.1,o16.2.1,o16.2.2.1,o16.2.2.2.1⟩:aa)))
  exact ck Zb call97 func97 (c:=qb1) rfl (aI (aq ah a) trivial) z<|by kernel_rfl
 ·obtain rfl:=lf h
  have z:=sx lM<|bP (i6 br1)<|sx lM<|sy (aE r1)<|cw (cd.ln a)<|di (e:=.exit 0) (s1:=j6 (.inr o16)) (AY a (a.length:Int) false 0 0 ([]:ag) 0 ([]:List aa) r1.Op r1.Name r1.N r1.Kids bo16)<|sv (ch (⟨o16.2.2.2.2.1,o16.2.2.2.2.2.1,o16.2.2.2.2.2.2.1,o16.2.2.2.2.2.2.2⟩:aa) [])<|sx (dn (⟨o16.2.2.2.2.1,o16.2.2.2.2.2.1,o16.2.2.2.2.2.2.1,o16.2.2.2.2.2.2.2⟩:aa))<|en (aI (e9 (⟨o16.2.2.2.2.1,o16.2.2.2.2.2.1,o16.2.2.2.2.2.2.1,o16.2.2.2.2.2.2.2⟩:aa))<|(ah (⟨o16.2.2.2.2.1,o16.2.2.2.2.2.1,o16.2.2.2.2.2.2.1,o16.2.2.2.2.2.2.2⟩:aa)))
  exact ck Zb call97 func97 (c:=qb1) rfl (aI (aq ah a) trivial) z<|by kernel_rfl
noncomputable def qcw:Code:=f80.body.getD .skip
def qbI:List Nat:=[]
section
variable(v:waA)(i:Int)(v2:aa)(m:waA)
def Ix:az:=aW 26 [(0,sl ac v),(1,.int .i64 i),(5,.eptr (ac v2)),(6,.bptr 1 0)] [.dead,.cells [.int .i64 0,.str ([]:ag),.int .i64 0,sl ac m] [(3,36)]] []
def rQ(o:Bool):az:=aW 26 [(0,sl ac v),(1,.int .i64 i),(5,.eptr (ac v2)),(6,.bptr 1 0),(18,.bool o)] [.dead,.cells [.int .i64 0,.str ([]:ag),.int .i64 0,sl ac m] [(3,36)]] []
def wr:Option Bool:=
 if(decide (i>=(v.length:Int)))=true then
  some true
 else
  (cH v i).bind fun x2=>
  (iZ x2 (⟨0,([]:ag),0,([]:List aa)⟩:aa)).bind fun r3=>
  some r3
theorem GP{x:Bool}(h:wr v i=some x):aQ Pg GE 0 (cA qcw 12) (EX .normal (rQ v i v2 m x)) (Ix v i v2 m):=by
 rcases aX h with⟨c1,h⟩|⟨c1,h⟩
 ·obtain rfl:=lf h
  exact ct qbI (cw (cd.ln v)<|sg 5 c1<|eF .normal (rQ v i v2 m true))<|by kernel_rfl
 ·obtain⟨x2,bx2,h⟩:=aA h
  obtain⟨r3,br3,h⟩:=aA h
  obtain rfl:=lf h
  exact ct qbI (cw (cd.ln v)<|sg 5 c1<|sv (cd.ia (k:=.i64) bx2)<|sv (aY x2)<|sb (tN) (tL)<|bP (oV br3)<|eF .normal (rQ v i v2 m r3))<|by kernel_rfl
end
def uh(a:waA)(i:Int)(a2:aa):Option aa:=
 (wr a i).bind fun o4=>
 if o4=true then
  (E1 ([]:List aa)).bind fun r7=>
  some r7
 else
  (cH a i).bind fun x8=>
  (ub x8 ([118]:ag) a2).bind fun r9=>
  some r9
theorem CR{a:waA}{i:Int}{a2:aa}{r:aa}(h:uh a i a2=some r):CC Pg GE 80 [sl ac a,.int .i64 i,.agg (ac a2)] (.agg (ac r)) []:=by
 obtain⟨o4,bo4,h⟩:=aA h
 have p6:=fun{sc F} (r:PS sc F)=>se (cf a2)<|sx lM<|oe 1<|di (GP a i a2 ([]:List aa) bo4)<|r
 rcases aX h with⟨c5,h⟩|⟨c5,h⟩
 ·obtain⟨r7,br7,h⟩:=aA h
  obtain rfl:=lf h
  have z:=p6<|sg 0 c5<|bP (Qw br7)<|sx (dn r7)<|en (aI (e9 r7)<|(ah r7))
  exact ck qbI call80 func80 (c:=qcw) rfl (aI (aq ah a) (aI trivial (aI (ah a2) trivial))) z<|by kernel_rfl
 ·obtain⟨x8,bx8,h⟩:=aA h
  obtain⟨r9,br9,h⟩:=aA h
  obtain rfl:=lf h
  have z:=p6<|sg 0 c5<|ra [0,0,3,7,0,31,63]<|sv (cd.ia (k:=.i64) bx8)<|sv (aY x8)<|sv (aY a2)<|bP (CQ br9)<|Ym (dn r9)<|en (aI (e9 r9)<|(ah r9))
  exact ck qbI call80 func80 (c:=qcw) rfl (aI (aq ah a) (aI trivial (aI (ah a2) trivial))) z<|by kernel_rfl
noncomputable def qbT:Code:=f53.body.getD .skip
def qbH:List Nat:=[55,58]
section
variable(w:aM)(v:ae)(v2:ae)(name:ag)(t51:waF)(t52:Int)(m:waA)(m2:waD)(m3:ag)(m4:waB)(m5:waG)(v3:waD)(t53:Int)
def dR:az:=aW 82 [(4,.eptr (aL w)),(5,.eptr (af v)),(6,.eptr (af v2)),(8,.bptr 3 0),(9,.str name),(10,.bptr 4 0),(13,sl ax v3),(51,sl bA t51),(52,.int .i64 t52),(53,.int .i64 t53)] [.dead,.dead,.dead,.cells [.int .i64 0,.str ([]:ag),.str ([]:ag),.int .i64 0,.str ([]:ag),.int .i64 0,sl ac m,.int .i64 0,sl ax m2] [(6,36),(8,50)],.cells [.int .i64 3,.str name,.int .i64 0,sl ac m] [(3,36)],.cells [.str m3,sl cS m4,sl bA t51,sl eg m5] []] [((13,0),50)]
def ir(o:waD):az:=aW 82 [(8,.bptr 3 0),(13,sl ax o)] [.dead,.dead,.dead,.cells [.int .i64 0,.str ([]:ag),.str ([]:ag),.int .i64 0,.str ([]:ag),.int .i64 0,sl ac m,.int .i64 0,sl ax m2] [(6,36),(8,50)],.cells [.int .i64 3,.str name,.int .i64 0,sl ac m] [(3,36)],.cells [.str m3,sl cS m4,sl bA t51,sl eg m5] []] [((13,0),50)]
def dg:Option ((waD×Int)⊕(waD)):=
 if(decide (t53<t52))=true then
  (cH t51 t53).bind fun x11=>
  (uh v.Preds t53 (⟨3,name,0,m⟩:aa)).bind fun r12=>
  (uh v2.Preds t53 (⟨3,name,0,m⟩:aa)).bind fun r13=>
  (eD w name x11.Sort_ r12 r13).bind fun r14=>
  (app v3 ([r14]:List ak)).bind fun l15=>
  some (.inl (l15,aO (t53+1)))
 else
  some (.inr v3)
def jq:Option waD:=loop (fun(zz:waD×Int)=>dg w v v2 name t51 t52 m zz.1 zz.2) (v3,t53)
theorem ui{y:(waD×Int)⊕(waD)}(h:dg w v v2 name t51 t52 m v3 t53=some y):aQ Pg GE 0 (cA qbT 16215) (LQ (fun(zz:waD×Int)=>dR w v v2 name t51 t52 m m2 m3 m4 m5 zz.1 zz.2) (fun _=>.exit 0) (ir name t51 m m2 m3 m4 m5) y) (dR w v v2 name t51 t52 m m2 m3 m4 m5 v3 t53):=by
 rcases aX h with⟨c10,h⟩|⟨c10,h⟩
 ·obtain⟨x11,bx11,h⟩:=aA h
  obtain⟨r12,br12,h⟩:=aA h
  obtain⟨r13,br13,h⟩:=aA h
  obtain⟨r14,br14,h⟩:=aA h
  obtain⟨l15,bl15,h⟩:=aA h
  obtain rfl:=lf h
  have z:=sg 0 c10<|sv (GN.ia (k:=.i64) bx11)<|sv (XO x11)<|sx qbq<|sx (Wv x11)<|ra [0,0,0,0,8,0,32,0,0,480,0,1024,0,0,16352,32766,65534,131071,262143]<|sv (er w)<|ss<|sv (dN v)<|sv (dQ v)<|sv (ch (⟨3,name,0,m⟩:aa) [])<|bP (CR br12)<|sv (dN v2)<|sv (dQ v2)<|sv (ch (⟨3,name,0,m⟩:aa) [])<|bP (CR br13)<|bP (lR br14)<|sv (za.mk' (v:=vB) pU ([r14]:List ak) 1 (by kernel_rfl))<|sv (za.ap bl15)<|y4 0 .normal (dR w v v2 name t51 t52 m m2 m3 m4 m5 l15 (aO (t53+1))) rfl (eh (aI (oI (cF w)) (aI (oI (av v)) (aI (oI (av v2)) (aI (d7 rfl) (aI trivial (aI (d7 rfl) (aI (up (aq bJ l15)) (aI (up (aq lG t51)) (aI trivial (aI trivial trivial))))))))))) (aI trivial (aI trivial (aI trivial (aI (aI trivial (aI trivial (aI trivial (aI trivial (aI trivial (aI trivial (aI (up (aq ah m)) (aI trivial (aI (up (aq bJ m2)) trivial))))))))) (aI (aI trivial (aI trivial (aI trivial (aI (up (aq ah m)) trivial)))) (aI (aI trivial (aI (up (aq iu m4)) (aI (up (aq lG t51)) (aI (up (aq Er m5)) trivial)))) trivial))))))
  exact dV (A:=qbH) mixed z<|by kernel_rfl
 ·obtain rfl:=lf h
  have z:=sg 0 c10<|eF (.exit 0) (ir name t51 m m2 m3 m4 m5 v3)
  exact iW qbH (by intro hx;cases hx) z<|by kernel_rfl
theorem uw{x:waD}(h:jq w v v2 name t51 t52 m v3 t53=some x):aQ Pg GE 0 (.loop (cA qbT 16215)) (EX (.exit 0) (ir name t51 m m2 m3 m4 m5 x)) (dR w v v2 name t51 t52 m m2 m3 m4 m5 v3 t53):=
 aQ.loop (S:=fun(zz:waD×Int)=>dR w v v2 name t51 t52 m m2 m3 m4 m5 zz.1 zz.2) (ex:=(fun _=>.exit 0)) (s:=(v3,t53)) h fun zz y hy=>ui w v v2 name t51 t52 m m2 m3 m4 m5 zz.1 zz.2 hy
end
def iA(w:aM)(a:ae)(a2:ae)(used:waB):Option ak:=
 (kY used ([118,49]:ag)).bind fun r1=>
 (vA a).bind fun r2=>
 (BU r2).bind fun r3=>
 (qa a (⟨3,r1,0,([]:List aa)⟩:aa)).bind fun r4=>
 (qa a2 (⟨3,r1,0,([]:List aa)⟩:aa)).bind fun r5=>
 (eD w r1 r3.1 r4 r5).bind fun r6=>
 if(a.Op==4)=true then
  (vq w.m a.Name).bind fun r9=>
  (jq w a a2 r1 r9.1.Preds (r9.1.Preds.length:Int) ([]:List aa) ([r6]:List ak) 0).bind fun o16=>
  (oJ o16).bind fun r17=>
  some r17
 else
  (cH ([r6]:List ak) 0).bind fun x18=>
  some x18
theorem yy{w:aM}{a:ae}{a2:ae}{used:waB}{r:ak}(h:iA w a a2 used=some r):CC Pg GE 53 [.agg (aL w),.agg (af a),.agg (af a2),sl cS used] (.agg (ax r)) []:=by
 obtain⟨r1,br1,h⟩:=aA h
 obtain⟨r2,br2,h⟩:=aA h
 obtain⟨r3,br3,h⟩:=aA h
 obtain⟨r4,br4,h⟩:=aA h
 obtain⟨r5,br5,h⟩:=aA h
 obtain⟨r6,br6,h⟩:=aA h
 have p8:=fun{sc F} (r:PS sc F)=>se (g9 w)<|se (co a)<|se (co a2)<|sx y8<|bP (tV br1)<|sb (oG 3 r1) (oF 3 r1)<|sx lM<|sy (aE (⟨3,r1,0,([]:List aa)⟩:aa))<|sv (aZ a)<|bP (Bh br2)<|bP (KY br3)<|ra [0,0,0,0,0,24,0,0,248,511,1023,2047]<|sv (er w)<|sv (aZ a)<|sv (ch (⟨3,r1,0,([]:List aa)⟩:aa) [])<|bP (wq br4)<|sv (aZ a2)<|sv (ch (⟨3,r1,0,([]:List aa)⟩:aa) [])<|bP (wq br5)<|bP (lR br6)<|sv (za.mk' (v:=vB) pU ([r6]:List ak) 1 (by kernel_rfl))<|sv (aH a)<|sv (aJ a)<|r
 rcases aX h with⟨c7,h⟩|⟨c7,h⟩
 ·obtain⟨r9,br9,h⟩:=aA h
  obtain⟨o16,bo16,h⟩:=aA h
  obtain⟨r17,br17,h⟩:=aA h
  obtain rfl:=lf h
  have z:=p8<|sg 0 c7<|sv (wI w)<|sv (yf w)<|sv (df a)<|sv (dz a)<|bP (K0 br9)<|sx X8<|sx (Gu r9.1)<|ss<|cw (GN.ln r9.1.Preds)<|di (uw w a a2 r1 r9.1.Preds (r9.1.Preds.length:Int) ([]:List aa) ([]:List ak) r9.1.Name r9.1.Vars r9.1.Cons ([r6]:List ak) 0 bo16)<|bP (uV br17)<|sy (cz r17)<|en (aI (e8 r17)<|(bJ r17))
  exact ck qbH call53 func53 (c:=qbT) rfl (aI (cF w) (aI (av a) (aI (av a2) (aI (aq iu used) trivial)))) z<|by kernel_rfl
 ·obtain⟨x18,bx18,h⟩:=aA h
  obtain rfl:=lf h
  have z:=p8<|sg 0 c7<|sv (za.ia (k:=.i64) bx18)<|sv (qW x18)<|sx (dJ x18)<|en (aI (e8 x18)<|(bJ x18))
  exact ck qbH call53 func53 (c:=qbT) rfl (aI (cF w) (aI (av a) (aI (av a2) (aI (aq iu used) trivial)))) z<|by kernel_rfl
noncomputable def qbP:Code:=f35.body.getD .skip
def qbF:List Nat:=[]
def ib(R51:du)(w:aM)(a:ae)(a2:ae)(used:waB):Option ak:=
 if(a.Op==6)=true then
  if((a.Args.length:Int)==0)=true then
   some (⟨1,([]:ag),([]:ag),(⟨0,([]:ag),0,([]:List aa)⟩:aa),0,([]:List ak)⟩:ak)
  else
   (fH R51 w a a2 used).bind fun r5=>
   some r5
 else
  (jp a).bind fun r6=>
  if(!r6)=true then
   some (⟨1,([]:ag),([]:ag),(⟨0,([]:ag),0,([]:List aa)⟩:aa),0,([]:List ak)⟩:ak)
  else
   (iA w a a2 used).bind fun r9=>
   some r9
theorem yA(R51:du)(hR51:gU R51){w:aM}{a:ae}{a2:ae}{used:waB}{r:ak}(h:ib R51 w a a2 used=some r):CC Pg GE 35 [.agg (aL w),.agg (af a),.agg (af a2),sl cS used] (.agg (ax r)) []:=by
 have p2:=fun{sc F} (r:PS sc F)=>se (g9 w)<|se (co a)<|se (co a2)<|sx y8<|sv (er w)<|sv (aH a)<|sv (aJ a)<|r
 rcases aX h with⟨c1,h⟩|⟨c1,h⟩
 ·have p4:=fun{sc F} (r:PS sc F)=>p2<|sg 0 c1<|sv (aT a)<|sv (aU a)<|cw (cQ.ln a.Args)<|r
  rcases aX h with⟨c3,h⟩|⟨c3,h⟩
  ·obtain rfl:=lf h
   have z:=p4<|sg 0 c3<|sb (Dc 1) (Da 1)<|sy (cz (⟨1,([]:ag),([]:ag),(⟨0,([]:ag),0,([]:List aa)⟩:aa),0,([]:List ak)⟩:ak))<|en (aI (e8 (⟨1,([]:ag),([]:ag),(⟨0,([]:ag),0,([]:List aa)⟩:aa),0,([]:List ak)⟩:ak))<|(bJ (⟨1,([]:ag),([]:ag),(⟨0,([]:ag),0,([]:List aa)⟩:aa),0,([]:List ak)⟩:ak)))
   exact ck qbF call35 func35 (c:=qbP) rfl (aI (cF w) (aI (av a) (aI (av a2) (aI (aq iu used) trivial)))) z<|by kernel_rfl
  ·obtain⟨r5,br5,h⟩:=aA h
   obtain rfl:=lf h
   have z:=p4<|sg 0 c3<|sv (er w)<|sv (aZ a)<|sv (aZ a2)<|bP (uj R51 hR51 br5)<|sx (dJ r5)<|en (aI (e8 r5)<|(bJ r5))
   exact ck qbF call35 func35 (c:=qbP) rfl (aI (cF w) (aI (av a) (aI (av a2) (aI (aq iu used) trivial)))) z<|by kernel_rfl
 ·obtain⟨r6,br6,h⟩:=aA h
  have p8:=fun{sc F} (r:PS sc F)=>p2<|sg 0 c1<|sv (aZ a)<|bP (nm br6)<|r
  rcases aX h with⟨c7,h⟩|⟨c7,h⟩
  ·obtain rfl:=lf h
   have z:=p8<|sg 0 c7<|sb (Dc 1) (Da 1)<|sy (cz (⟨1,([]:ag),([]:ag),(⟨0,([]:ag),0,([]:List aa)⟩:aa),0,([]:List ak)⟩:ak))<|en (aI (e8 (⟨1,([]:ag),([]:ag),(⟨0,([]:ag),0,([]:List aa)⟩:aa),0,([]:List ak)⟩:ak))<|(bJ (⟨1,([]:ag),([]:ag),(⟨0,([]:ag),0,([]:List aa)⟩:aa),0,([]:List ak)⟩:ak)))
   exact ck qbF call35 func35 (c:=qbP) rfl (aI (cF w) (aI (av a) (aI (av a2) (aI (aq iu used) trivial)))) z<|by kernel_rfl
  ·obtain⟨r9,br9,h⟩:=aA h
   obtain rfl:=lf h
   have z:=p8<|sg 0 c7<|sv (aZ a)<|sv (aZ a2)<|bP (yy br9)<|sx (dJ r9)<|en (aI (e8 r9)<|(bJ r9))
   exact ck qbF call35 func35 (c:=qbP) rfl (aI (cF w) (aI (av a) (aI (av a2) (aI (aq iu used) trivial)))) z<|by kernel_rfl
def lm:((aM×ae×ae×waB)->Option ak)->(aM×ae×ae×waB)->Option ak:=fun(rec:(aM×ae×ae×waB)->Option ak) (x:aM×ae×ae×waB)=>ib (fun w a a2 used=>rec (w,a,a2,used)) x.1 x.2.1 x.2.2.1 x.2.2.2
def nI(w:aM)(a:ae)(a2:ae)(used:waB):Option ak:=oP lm (w,a,a2,used)
theorem zd{w:aM}{a:ae}{a2:ae}{used:waB}{r:ak}(h:nI w a a2 used=some r):CC Pg GE 35 [.agg (aL w),.agg (af a),.agg (af a2),sl cS used] (.agg (ax r)) []:=
 cR (F:=lm) (M:=fun(x:aM×ae×ae×waB) (r:ak)=>CC Pg GE 35 [.agg (aL x.1),.agg (af x.2.1),.agg (af x.2.2.1),sl cS x.2.2.2] (.agg (ax r)) []) (fun rec hrec x r h=>yA _ (fun w a a2 used r h=>hrec (w,a,a2,used) r h) h) h
noncomputable def qc3:Code:=f12.body.getD .skip
def qcX:List Nat:=[]
def ll(m:aR)(a:ae)(a2:ae)(tag:Int)(used:waB):Option (ak×Int):=
 (DT a a2).bind fun r1=>
 if(!r1)=true then
  some ((⟨0,([]:ag),([]:ag),(⟨0,([]:ag),0,([]:List aa)⟩:aa),0,([]:List ak)⟩:ak),12)
 else
  (nI (⟨m,tag⟩:aM) a a2 used).bind fun r4=>
  some (r4,0)
theorem pn{m:aR}{a:ae}{a2:ae}{tag:Int}{used:waB}{r:ak×Int}(h:ll m a a2 tag used=some r):CC Pg GE 12 [.agg (aC m),.agg (af a),.agg (af a2),.int .i64 tag,sl cS used] (.tuple [.agg (ax r.1),.int .i64 r.2]) []:=by
 obtain⟨r1,br1,h⟩:=aA h
 have p3:=fun{sc F} (r:PS sc F)=>se (tX m)<|se (co a)<|se (co a2)<|sx y8<|sv (aZ a)<|sv (aZ a2)<|bP (Mj br1)<|r
 rcases aX h with⟨c2,h⟩|⟨c2,h⟩
 ·obtain rfl:=lf h
  have z:=p3<|sg 0 c2<|sb (Ri) (Re)<|sy (cz (⟨0,([]:ag),([]:ag),(⟨0,([]:ag),0,([]:List aa)⟩:aa),0,([]:List ak)⟩:ak))<|en (aI (vbp PVal.tuple (G5 (e8 (⟨0,([]:ag),([]:ag),(⟨0,([]:ag),0,([]:List aa)⟩:aa),0,([]:List ak)⟩:ak)) (G5 (rP (.int .i64 12)) (rfl:([]:List PVal)=[]))))<|(aI (bJ (⟨0,([]:ag),([]:ag),(⟨0,([]:ag),0,([]:List aa)⟩:aa),0,([]:List ak)⟩:ak)) (aI trivial trivial)))
  exact ck qcX call12 func12 (c:=qc3) rfl (aI (ij m) (aI (av a) (aI (av a2) (aI trivial (aI (aq iu used) trivial))))) z<|by kernel_rfl
 ·obtain⟨r4,br4,h⟩:=aA h
  obtain rfl:=lf h
  have z:=p3<|sg 0 c2<|sv (Dt m)<|sv (yV m tag)<|sv (aZ a)<|sv (aZ a2)<|bP (zd br4)<|sx (dJ r4)<|en (aI (vbp PVal.tuple (G5 (e8 r4) (G5 (rP (.int .i64 0)) (rfl:([]:List PVal)=[]))))<|(aI (bJ r4) (aI trivial trivial)))
  exact ck qcX call12 func12 (c:=qc3) rfl (aI (ij m) (aI (av a) (aI (av a2) (aI trivial (aI (aq iu used) trivial))))) z<|by kernel_rfl
abbrev kf:=(ak->ay->waE->Option waE)
abbrev og(R:kf):Prop:=∀(c:ak) (above:ay) (a:waE) (r:waE),R c above a=some r->C Pg GE 41 [.agg (ax c),.agg (aD above),sl aD a] [((2,0),62)] [] (sl aD r) [(0,62)] []
abbrev xL:=(aa->Option waA)
abbrev Ns(R:xL):Prop:=∀(p:aa) (r:waA),R p=some r->CC Pg GE 63 [.agg (ac p)] (sl ac r) [(0,36)]
noncomputable def qbU:Code:=f63.body.getD .skip
def qav:List Nat:=[]
section
variable(p:aa)
def Ip:az:=aW 28 [(1,.eptr (ac p))] [.dead] []
def rG(o:Bool):az:=aW 28 [(1,.eptr (ac p)),(11,.bool o)] [.dead] []
def wk:Option Bool:=
 if(p.Op==15)=true then
  some ((p.Kids.length:Int)==2)
 else
  some false
theorem GA{x:Bool}(h:wk p=some x):aQ Pg GE 0 (cA qbU 12) (EX .normal (rG p x)) (Ip p):=by
 have p2:=fun{sc F} (r:PS sc F)=>sv (bq p)<|sv (bv p)<|r
 rcases aX h with⟨c1,h⟩|⟨c1,h⟩
 ·obtain rfl:=lf h
  exact ct qav (p2<|sg 4 c1<|sv (bu p)<|sv (bw p)<|cw (cd.ln p.Kids)<|eF .normal (rG p ((p.Kids.length:Int)==2)))<|by kernel_rfl
 ·obtain rfl:=lf h
  exact ct qav (p2<|sg 4 c1<|eF .normal (rG p false))<|by kernel_rfl
end
def sO(R93:xL)(p:aa):Option waA:=
 (wk p).bind fun o3=>
 if o3=true then
  (cH p.Kids 0).bind fun x6=>
  (R93 x6).bind fun r7=>
  (cH p.Kids 1).bind fun x8=>
  (R93 x8).bind fun r9=>
  (app r7 r9).bind fun l10=>
  some l10
 else
  (wU p).bind fun r11=>
  if r11=true then
   some ([]:List aa)
  else
   (nX p).bind fun r14=>
   some ([r14]:List aa)
theorem KM(R93:xL)(hR93:Ns R93){p:aa}{r:waA}(h:sO R93 p=some r):CC Pg GE 63 [.agg (ac p)] (sl ac r) [(0,36)]:=by
 obtain⟨o3,bo3,h⟩:=aA h
 have p5:=fun{sc F} (r:PS sc F)=>se (cf p)<|oe 1<|di (GA p bo3)<|r
 rcases aX h with⟨c4,h⟩|⟨c4,h⟩
 ·obtain⟨x6,bx6,h⟩:=aA h
  obtain⟨r7,br7,h⟩:=aA h
  obtain⟨x8,bx8,h⟩:=aA h
  obtain⟨r9,br9,h⟩:=aA h
  obtain⟨l10,bl10,h⟩:=aA h
  obtain rfl:=lf h
  have z:=p5<|sg 0 c4<|ra [0,1,3,7,15,0,32,96,224,511,1023,2047]<|sv (bu p)<|sv (bw p)<|sv (cd.ia (k:=.i64) bx6)<|sv (aY x6)<|bP (hR93 _ _ br7)<|sv (bu p)<|sv (bw p)<|sv (cd.ia (k:=.i64) bx8)<|sv (aY x8)<|bP (hR93 _ _ br9)<|sv (cd.ap bl10)<|en (aI (rP (sl ac l10))<|(aq ah l10))
  exact ck qav call63 func63 (c:=qbU) rfl (aI (ah p) trivial) z<|by kernel_rfl
 ·obtain⟨r11,br11,h⟩:=aA h
  have p13:=fun{sc F} (r:PS sc F)=>p5<|sg 0 c4<|sv (aY p)<|bP (E6 br11)<|r
  rcases aX h with⟨c12,h⟩|⟨c12,h⟩
  ·obtain rfl:=lf h
   have z:=p13<|sg 0 c12<|en (aI (rP (sl ac ([]:List aa)))<|(aq ah ([]:List aa)))
   exact ck qav call63 func63 (c:=qbU) rfl (aI (ah p) trivial) z<|by kernel_rfl
  ·obtain⟨r14,br14,h⟩:=aA h
   obtain rfl:=lf h
   have z:=p13<|sg 0 c12<|sv (aY p)<|bP (oW br14)<|sv (cd.mk' (v:=ff) dl ([r14]:List aa) 1 (by kernel_rfl))<|en (aI (rP (sl ac ([r14]:List aa)))<|(aq ah ([r14]:List aa)))
   exact ck qav call63 func63 (c:=qbU) rfl (aI (ah p) trivial) z<|by kernel_rfl
def yl:(aa->Option waA)->(aa)->Option waA:=fun(rec:aa->Option waA) (x:aa)=>sO (fun p=>rec p) x
def yk(p:aa):Option waA:=oP yl p
theorem CP{p:aa}{r:waA}(h:yk p=some r):CC Pg GE 63 [.agg (ac p)] (sl ac r) [(0,36)]:=
 cR (F:=yl) (M:=fun(x:aa) (r:waA)=>CC Pg GE 63 [.agg (ac x)] (sl ac r) [(0,36)]) (fun rec hrec x r h=>KM _ (fun p r h=>hrec p r h) h) h
end Go.Proofs.YtbaamopmfmpfaaaGreatDoor
