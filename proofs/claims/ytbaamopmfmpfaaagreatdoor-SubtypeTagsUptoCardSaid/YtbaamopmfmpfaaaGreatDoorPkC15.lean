/- PROVED: a part of the proof. Conditions: none. -/
import Derived.Test.YtbaamopmfmpfaaaGreatDoorPkC14
noncomputable section
namespace Go.Proofs.YtbaamopmfmpfaaaGreatDoor
open Go Go.Proofs.Tryz
set_option linter.unusedVariables false
set_option maxRecDepth 100000
noncomputable def Vv:Code:=f110.body.getD .skip
def TI:List Nat:=[17]
section
variable(R78:nJ)(v:waB)(v2:waB)(t14:Int)(t15:Int)
def jz:az:=aY 30 [(0,sl ac v),(1,sl ac v2),(2,.func (.func 93) [] []),(14,.int .i64 t14),(15,.int .i64 t15)] [] []
def jB(o:Unit⊕(Unit)):Exit:=match o with
 |(.inl _)=>.ret
 |(.inr _)=>.exit 0
def gS(o:Unit⊕(Unit)):az:=match o with
 |(.inl o)=>aY 30 [(6,.bool false)] [] []
 |(.inr o)=>aY 30 [] [] []
def jA:Option (Int⊕(Unit⊕(Unit))):=
 if(decide (t15<t14))=true then
  (cR v t15).bind fun x4=>
  (cR v2 t15).bind fun x5=>
  (R78 x4 x5).bind fun r6=>
  if(!r6)=true then
   some (.inr (.inl ()))
  else
   some (.inl (aR (t15+1)))
 else
  some (.inr (.inr ()))
def wo:Option (Unit⊕(Unit)):=loop (fun(zz:Int)=>jA R78 v v2 t14 zz) t15
theorem Fh(hR78:uu R78){y:Int⊕(Unit⊕(Unit))}(h:jA R78 v v2 t14 t15=some y):aT Pg GE 0 (cA Vv 119) (LQ (fun(zz:Int)=>jz v v2 t14 zz) jB gS y) (jz v v2 t14 t15):=by
 rcases aZ h with⟨c3,h⟩|⟨c3,h⟩
 ·obtain⟨x4,bx4,h⟩:=aB h
  obtain⟨x5,bx5,h⟩:=aB h
  obtain⟨r6,br6,h⟩:=aB h
  have p8:=fun{sc F} (r:PS sc F)=>sg 0 c3<|qX [0,0,0,6,14,0,0,96,224,511,1023]<|sv (ck.ia (k:=.i64) bx4)<|sv (be x4)<|sv (ck.ia (k:=.i64) bx5)<|sv (be x5)<|bT (hR78 _ _ _ br6)<|r
  rcases aZ h with⟨c7,h⟩|⟨c7,h⟩
  ·obtain rfl:=lf h
   have z:=p8<|sg 0 c7<|eF (jB (.inl ())) (gS (.inl ()))
   exact i7 TI (by intro hx;cases hx) z<|by kernel_rfl
  ·obtain rfl:=lf h
   exact rU TI (p8<|sg 0 c7<|eF .normal (jz v v2 t14 (aR (t15+1))))<|by kernel_rfl
 ·obtain rfl:=lf h
  have z:=sg 0 c3<|eF (jB (.inr ())) (gS (.inr ()))
  exact i7 TI (by intro hx;cases hx) z<|by kernel_rfl
theorem xi(hR78:uu R78){x:Unit⊕(Unit)}(h:wo R78 v v2 t14 t15=some x):aT Pg GE 0 (.loop (cA Vv 119)) (EX (jB x) (gS x)) (jz v v2 t14 t15):=
 aT.loop (S:=fun(zz:Int)=>jz v v2 t14 zz) (ex:=jB) (s:=t15) h fun zz y hy=>Fh R78 v v2 t14 zz hR78 hy
end
def yF(R78:nJ)(a:waB)(a2:waB):Option Bool:=
 if((a.length:Int)!=(a2.length:Int))=true then
  some false
 else
  (wo R78 a a2 (a.length:Int) 0).bind fun o9=>match o9 with
  |(.inl o9)=>
   some false
  |(.inr o9)=>
   some true
theorem Ml(R78:nJ)(hR78:uu R78){a:waB}{a2:waB}{r:Bool}(h:yF R78 a a2=some r):CC Pg GE 110 [sl ac a,sl ac a2,.func (.func 93) [] []] (.bool r) []:=by
 have p2:=fun{sc F} (r:PS sc F)=>cz (ck.ln a)<|cz (ck.ln a2)<|r
 rcases aZ h with⟨c1,h⟩|⟨c1,h⟩
 ·obtain rfl:=lf h
  have z:=p2<|sg 0 c1<|en (aI (rP (.bool false))<|trivial)
  exact cn TI call110 func110 (c:=Vv) rfl (aI (aq ah a) (aI (aq ah a2) (aI (aI trivial trivial) trivial))) z<|by kernel_rfl
 ·obtain⟨o9,bo9,h⟩:=aB h
  rcases o9 with o9|o9
  ·obtain rfl:=lf h
   have z:=p2<|sg 0 c1<|cz (ck.ln a)<|di (e:=.ret) (s1:=gS (.inl o9)) (xi R78 a a2 (a.length:Int) 0 hR78 bo9)<|en (aI (rP (.bool false))<|trivial)
   exact cn TI call110 func110 (c:=Vv) rfl (aI (aq ah a) (aI (aq ah a2) (aI (aI trivial trivial) trivial))) z<|by kernel_rfl
  ·obtain rfl:=lf h
   have z:=p2<|sg 0 c1<|cz (ck.ln a)<|di (e:=.exit 0) (s1:=gS (.inr o9)) (xi R78 a a2 (a.length:Int) 0 hR78 bo9)<|en (aI (rP (.bool true))<|trivial)
   exact cn TI call110 func110 (c:=Vv) rfl (aI (aq ah a) (aI (aq ah a2) (aI (aI trivial trivial) trivial))) z<|by kernel_rfl
noncomputable def qb9:Code:=f93.body.getD .skip
def qbT:List Nat:=[]
def u6(R78:nJ)(a:aa)(a2:aa):Option Bool:=
 if (a.Op == a2.Op) = true then
  if(a.Name==a2.Name)=true then
   if(a.N==a2.N)=true then
    (yF R78 a.Kids a2.Kids).bind fun r7=>
    some r7
   else
    some false
  else
   some false
 else
  some false
theorem Mk(R78:nJ)(hR78:uu R78){a:aa}{a2:aa}{r:Bool}(h:u6 R78 a a2=some r):CC Pg GE 93 [.agg (ac a),.agg (ac a2)] (.bool r) []:=by
 have p2:=fun{sc F} (r:PS sc F)=>se (cr a)<|se (cr a2)<|sv (bC a)<|sv (bD a)<|sv (bC a2)<|sv (bD a2)<|r
 rcases aZ h with⟨c1,h⟩|⟨c1,h⟩
 ·have p4:=fun{sc F} (r:PS sc F)=>p2<|sg 6 c1<|sv (cC a)<|sv (cN a)<|sv (cC a2)<|sv (cN a2)<|r
  rcases aZ h with⟨c3,h⟩|⟨c3,h⟩
  ·have p6:=fun{sc F} (r:PS sc F)=>p4<|sg 13 c3<|sv (de a)<|sv (dz a)<|sv (de a2)<|sv (dz a2)<|r
   rcases aZ h with⟨c5,h⟩|⟨c5,h⟩
   ·obtain⟨r7,br7,h⟩:=aB h
    obtain rfl:=lf h
    have z:=p6<|sg 20 c5<|sv (bq a)<|sv (bu a)<|sv (bq a2)<|sv (bu a2)<|bT (Ml R78 hR78 br7)<|en (aI (rP (.bool r7))<|trivial)
    exact cn qbT call93 func93 (c:=qb9) rfl (aI (ah a) (aI (ah a2) trivial)) z<|by kernel_rfl
   ·obtain rfl:=lf h
    have z:=p6<|sg 20 c5<|en (aI (rP (.bool false))<|trivial)
    exact cn qbT call93 func93 (c:=qb9) rfl (aI (ah a) (aI (ah a2) trivial)) z<|by kernel_rfl
  ·obtain rfl:=lf h
   have z:=p4<|sg 13 c3<|en (aI (rP (.bool false))<|trivial)
   exact cn qbT call93 func93 (c:=qb9) rfl (aI (ah a) (aI (ah a2) trivial)) z<|by kernel_rfl
 ·obtain rfl:=lf h
  have z:=p2<|sg 6 c1<|en (aI (rP (.bool false))<|trivial)
  exact cn qbT call93 func93 (c:=qb9) rfl (aI (ah a) (aI (ah a2) trivial)) z<|by kernel_rfl
def Bh:((aa×aa)->Option Bool)->(aa×aa)->Option Bool:=fun(rec:(aa×aa)->Option Bool) (x:aa×aa)=>u6 (fun a a2=>rec (a,a2)) x.1 x.2
def iU(a:aa)(a2:aa):Option Bool:=oG Bh (a,a2)
theorem oN{a:aa}{a2:aa}{r:Bool}(h:iU a a2=some r):CC Pg GE 93 [.agg (ac a),.agg (ac a2)] (.bool r) []:=
 cU (F:=Bh) (M:=fun(x:aa×aa) (r:Bool)=>CC Pg GE 93 [.agg (ac x.1),.agg (ac x.2)] (.bool r) []) (fun rec hrec x r h=>Mk _ (fun a a2 r h=>hrec (a,a2) r h) h) h
noncomputable def qdU:Code:=f69.body.getD .skip
def qdJ:List Nat:=[]
def yL(p:aa):Option Bool:=
 (iU p (⟨0,([]:ag),0,([]:List aa)⟩:aa)).bind fun r1=>
 some r1
theorem IF{p:aa}{r:Bool}(h:yL p=some r):CC Pg GE 69 [.agg (ac p)] (.bool r) []:=by
 obtain⟨r1,br1,h⟩:=aB h
 obtain rfl:=lf h
 have z:=se (cr p)<|sv (be p)<|sb (tH) (tF)<|bT (oN br1)<|en (aI (rP (.bool r1))<|trivial)
 exact cn qdJ call69 func69 (c:=qdU) rfl (aI (ah p) trivial) z<|by kernel_rfl
noncomputable def qdV:Code:=f70.body.getD .skip
def qdK:List Nat:=[]
def ub(p:aa)(name:ag)(a:aa):Option aa:=
 (j5 p ([name]:List ag) ([a]:List aa)).bind fun r1=>
 some r1
theorem CW{p:aa}{name:ag}{a:aa}{r:aa}(h:ub p name a=some r):CC Pg GE 70 [.agg (ac p),.str name,.agg (ac a)] (.agg (ac r)) [(3,36)]:=by
 obtain⟨r1,br1,h⟩:=aB h
 obtain rfl:=lf h
 have z:=se (cr p)<|se (cr a)<|sx lC<|sv (be p)<|sv (bJ.mk' (v:=PVal.str) KI ([name]:List ag) 1 (by kernel_rfl))<|sv (be a)<|sv (ck.mk' (v:=fe) dl ([a]:List aa) 1 (by kernel_rfl))<|bT (lz br1)<|sy (aF r1)<|en (aI (e8 r1)<|aI (ah r1)<|rT)
 exact cn qdK call70 func70 (c:=qdV) rfl (aI (ah p) (aI trivial (aI (ah a) trivial))) z<|by kernel_rfl
noncomputable def qcA:Code:=f46.body.getD .skip
def qbP:List Nat:=[]
section
variable(t:ae)(v:aa)(m:waB)
def ID:az:=aY 18 [(2,.eptr (af t)),(3,.eptr (ac v)),(4,.bptr 2 0)] [.dead,.dead,.cells [.int .i64 0,.str ([]:ag),.int .i64 0,sl ac m] [(3,36)]] []
def rF(o:Bool):az:=aY 18 [(2,.eptr (af t)),(3,.eptr (ac v)),(4,.bptr 2 0),(12,.bool o)] [.dead,.dead,.cells [.int .i64 0,.str ([]:ag),.int .i64 0,sl ac m] [(3,36)]] []
def wr:Option Bool:=
 if(t.Op==6)=true then
  some true
 else
  (yL t.Pred).bind fun r3=>
  some r3
theorem GN{x:Bool}(h:wr t=some x):aT Pg GE 0 (cA qcA 12) (EX .normal (rF t v m x)) (ID t v m):=by
 have p2:=fun{sc F} (r:PS sc F)=>sv (aK t)<|sv (aL t)<|r
 rcases aZ h with⟨c1,h⟩|⟨c1,h⟩
 ·obtain rfl:=lf h
  exact cw qbP (p2<|sg 4 c1<|eF .normal (rF t v m true))<|by kernel_rfl
 ·obtain⟨r3,br3,h⟩:=aB h
  obtain rfl:=lf h
  exact cw qbP (p2<|sg 4 c1<|sv (d8 t)<|sv (d9 t)<|bT (IF br3)<|eF .normal (rF t v m r3))<|by kernel_rfl
end
def pS(t:ae)(a:aa):Option aa:=
 (wr t).bind fun o4=>
 if o4=true then
  some (⟨2,([]:ag),1,([]:List aa)⟩:aa)
 else
  (ub t.Pred ([118]:ag) a).bind fun r7=>
  some r7
theorem ws{t:ae}{a:aa}{r:aa}(h:pS t a=some r):CC Pg GE 46 [.agg (af t),.agg (ac a)] (.agg (ac r)) [(3,36)]:=by
 obtain⟨o4,bo4,h⟩:=aB h
 have p6:=fun{sc F} (r:PS sc F)=>se (cF t)<|se (cr a)<|sx lC<|nD 1<|di (GN t a ([]:List aa) bo4)<|r
 rcases aZ h with⟨c5,h⟩|⟨c5,h⟩
 ·obtain rfl:=lf h
  have z:=p6<|sg 0 c5<|sb (ym 2 1) (yk 2 1)<|sy (aF (⟨2,([]:ag),1,([]:List aa)⟩:aa))<|en (aI (e8 (⟨2,([]:ag),1,([]:List aa)⟩:aa))<|aI (ah (⟨2,([]:ag),1,([]:List aa)⟩:aa))<|rT)
  exact cn qbP call46 func46 (c:=qcA) rfl (aI (av t) (aI (ah a) trivial)) z<|by kernel_rfl
 ·obtain⟨r7,br7,h⟩:=aB h
  obtain rfl:=lf h
  have z:=p6<|sg 0 c5<|sv (d8 t)<|sv (d9 t)<|sv (be a)<|bT (CW br7)<|sy (aF r7)<|en (aI (e8 r7)<|aI (ah r7)<|rT)
  exact cn qbP call46 func46 (c:=qcA) rfl (aI (av t) (aI (ah a) trivial)) z<|by kernel_rfl
noncomputable def qdf:Code:=f25.body.getD .skip
def qc8:List Nat:=[]
def sM(t:ae)(name:ag)(c:ak):Option ak:=
 (jk t).bind fun r1=>
 if(!r1)=true then
  some c
 else
  (vp t).bind fun r4=>
  (B3 r4).bind fun r5=>
  (pS t (⟨3,name,0,([]:List aa)⟩:aa)).bind fun r6=>
  some (⟨2,name,r5.1,r6,0,([c]:List ak)⟩:ak)
theorem II{t:ae}{name:ag}{c:ak}{r:ak}(h:sM t name c=some r):CC Pg GE 25 [.agg (af t),.str name,.agg (ax c)] (.agg (ax r)) []:=by
 obtain⟨r1,br1,h⟩:=aB h
 have p3:=fun{sc F} (r:PS sc F)=>se (cF t)<|se (xf c)<|sx zq<|sv (bw t)<|bT (nh br1)<|r
 rcases aZ h with⟨c2,h⟩|⟨c2,h⟩
 ·obtain rfl:=lf h
  have z:=p3<|sg 0 c2<|sv (oJ c)<|sx (dG c)<|en (aI (e7 c)<|(bA c))
  exact cn qc8 call25 func25 (c:=qdf) rfl (aI (av t) (aI trivial (aI (bA c) trivial))) z<|by kernel_rfl
 ·obtain⟨r4,br4,h⟩:=aB h
  obtain⟨r5,br5,h⟩:=aB h
  obtain⟨r6,br6,h⟩:=aB h
  obtain rfl:=lf h
  have z:=p3<|sg 0 c2<|sv (bw t)<|bT (Bv br4)<|bT (K8 br5)<|qX [0,0,0,0,8,28,0,64,255,511]<|sv (bw t)<|sb (ou 3 name) (oq 3 name)<|bT (ws br6)<|sv (oJ c)<|sv (wt.mk' (v:=vq) pM ([c]:List ak) 1 (by kernel_rfl))<|sv (tG 2 name r5.1 r6 ([c]:List ak))<|sx (dG (⟨2,name,r5.1,r6,0,([c]:List ak)⟩:ak))<|en (aI (e7 (⟨2,name,r5.1,r6,0,([c]:List ak)⟩:ak))<|(bA (⟨2,name,r5.1,r6,0,([c]:List ak)⟩:ak)))
  exact cn qc8 call25 func25 (c:=qdf) rfl (aI (av t) (aI trivial (aI (bA c) trivial))) z<|by kernel_rfl
abbrev lq:=(waD->Option ak)
abbrev pr(R:lq):Prop:=∀(a:waD) (r:ak),R a=some r->CC Pg GE 42 [sl ax a] (.agg (ax r)) [(6,36),(8,50)]
abbrev iv:=(ak->Option ak)
abbrev lJ(R:iv):Prop:=∀(c:ak) (r:ak),R c=some r->CC Pg GE 67 [.agg (ax c)] (.agg (ax r)) [(6,36),(8,50)]
noncomputable def qcC:Code:=f67.body.getD .skip
def qcn:List Nat:=[20]
section
variable(R82:iv)(t13:waD)(t14:Int)(m:waB)(m2:waD)(m3:Int)(m4:ag)(m5:ag)(m6:Int)(m7:ag)(m8:Int)(m9:waB)(m10:Int)(t15:Int)(m11:waD)
def eh:az:=aY 28 [(2,.bptr 1 0),(3,.bptr 2 0),(13,sl ax t13),(14,.int .i64 t14),(15,.int .i64 t15)] [.dead,.cells [.int .i64 0,.str ([]:ag),.str ([]:ag),.int .i64 0,.str ([]:ag),.int .i64 0,sl ac m,.int .i64 0,sl ax m2] [(6,36),(8,50)],.cells [.int .i64 m3,.str m4,.str m5,.int .i64 m6,.str m7,.int .i64 m8,sl ac m9,.int .i64 m10,sl ax m11] [(8,50),(6,36)]] []
def jf(o:waD):az:=aY 28 [(2,.bptr 1 0),(3,.bptr 2 0)] [.dead,.cells [.int .i64 0,.str ([]:ag),.str ([]:ag),.int .i64 0,.str ([]:ag),.int .i64 0,sl ac m,.int .i64 0,sl ax m2] [(6,36),(8,50)],.cells [.int .i64 m3,.str m4,.str m5,.int .i64 m6,.str m7,.int .i64 m8,sl ac m9,.int .i64 m10,sl ax o] [(8,50),(6,36)]] []
def oD:Option ((Int×waD)⊕(waD)):=
 if(decide (t15<t14))=true then
  (cR t13 t15).bind fun x3=>
  (R82 x3).bind fun r4=>
  (app m11 ([r4]:List ak)).bind fun l5=>
  some (.inl (aR (t15+1),l5))
 else
  some (.inr m11)
def kE:Option waD:=loop (fun(zz:Int×waD)=>oD R82 t13 t14 zz.1 zz.2) (t15,m11)
theorem vZ(hR82:lJ R82){y:(Int×waD)⊕(waD)}(h:oD R82 t13 t14 t15 m11=some y):aT Pg GE 0 (cA qcC 503) (LQ (fun(zz:Int×waD)=>eh t13 t14 m m2 m3 m4 m5 m6 m7 m8 m9 m10 zz.1 zz.2) (fun _=>.exit 0) (jf m m2 m3 m4 m5 m6 m7 m8 m9 m10) y) (eh t13 t14 m m2 m3 m4 m5 m6 m7 m8 m9 m10 t15 m11):=by
 rcases aZ h with⟨c2,h⟩|⟨c2,h⟩
 ·obtain⟨x3,bx3,h⟩:=aB h
  obtain⟨r4,br4,h⟩:=aB h
  obtain⟨l5,bl5,h⟩:=aB h
  obtain rfl:=lf h
  have z:=sg 0 c2<|sv (wt.ia (k:=.i64) bx3)<|sv (oJ x3)<|sx zq<|sx (dG x3)<|qX [0,1,0,4,12,31,63,127]<|sv (j1 x3 [])<|bT (hR82 _ _ br4)<|sv (wt.mk' (v:=vq) pM ([r4]:List ak) 1 (by kernel_rfl))<|sv (wt.ap bl5)<|W6 (rfl:bO (sl ax l5)=some [sl ax l5])<|zn 0 .normal (eh t13 t14 m m2 m3 m4 m5 m6 m7 m8 m9 m10 (aR (t15+1)) l5) rfl (eg (aI (d6 rfl) (aI (d6 rfl) (aI (up (aq bA t13)) (aI trivial (aI trivial trivial)))))) (aI trivial (aI (aI trivial (aI trivial (aI trivial (aI trivial (aI trivial (aI trivial (aI (up (aq ah m)) (aI trivial (aI (up (aq bA m2)) trivial))))))))) (aI (aI trivial (aI trivial (aI trivial (aI trivial (aI trivial (aI trivial (aI (up (aq ah m9)) (aI trivial (aI (up (aq bA l5)) trivial))))))))) trivial)))
  exact dS (A:=qcn) mixed z<|by kernel_rfl
 ·obtain rfl:=lf h
  have z:=sg 0 c2<|eF (.exit 0) (jf m m2 m3 m4 m5 m6 m7 m8 m9 m10 m11)
  exact i7 qcn (by intro hx;cases hx) z<|by kernel_rfl
theorem wR(hR82:lJ R82){x:waD}(h:kE R82 t13 t14 t15 m11=some x):aT Pg GE 0 (.loop (cA qcC 503)) (EX (.exit 0) (jf m m2 m3 m4 m5 m6 m7 m8 m9 m10 x)) (eh t13 t14 m m2 m3 m4 m5 m6 m7 m8 m9 m10 t15 m11):=
 aT.loop (S:=fun(zz:Int×waD)=>eh t13 t14 m m2 m3 m4 m5 m6 m7 m8 m9 m10 zz.1 zz.2) (ex:=(fun _=>.exit 0)) (s:=(t15,m11)) h fun zz y hy=>vZ R82 t13 t14 m m2 m3 m4 m5 m6 m7 m8 m9 m10 zz.1 zz.2 hR82 hy
end
def iy(R82:iv)(c:ak):Option ak:=
 (j5 c.Pred ([]:List ag) ([]:List aa)).bind fun r1=>
 (kE R82 c.Kids (c.Kids.length:Int) 0 ([]:List ak)).bind fun o6=>
 some (⟨c.Op,c.Name,c.Sort_,r1,c.Tag,o6⟩:ak)
theorem zi(R82:iv)(hR82:lJ R82){c:ak}{r:ak}(h:iy R82 c=some r):CC Pg GE 67 [.agg (ax c)] (.agg (ax r)) [(6,36),(8,50)]:=by
 obtain⟨r1,br1,h⟩:=aB h
 obtain⟨o6,bo6,h⟩:=aB h
 obtain rfl:=lf h
 have z:=se (xf c)<|sx zq<|sv (oJ c)<|sx zq<|sx (dG c)<|sv (v7 c)<|sv (wj c)<|bT (lz br1)<|sy (aF r1)<|qce (.ar 0 50 0 [])<|sv (qn c)<|sv (qq c)<|cz (wt.ln c.Kids)<|di (wR R82 c.Kids (c.Kids.length:Int) ([]:List aa) ([]:List ak) c.Op c.Name c.Sort_ r1.Op r1.Name r1.N r1.Kids c.Tag 0 ([]:List ak) hR82 bo6)<|sz (j1 (⟨c.Op,c.Name,c.Sort_,r1,c.Tag,o6⟩:ak) [])<|sy (cE (⟨c.Op,c.Name,c.Sort_,r1,c.Tag,o6⟩:ak))<|en (aI (e7 (⟨c.Op,c.Name,c.Sort_,r1,c.Tag,o6⟩:ak))<|aI (bA (⟨c.Op,c.Name,c.Sort_,r1,c.Tag,o6⟩:ak))<|rT)
 exact cn qcn call67 func67 (c:=qcC) rfl (aI (bA c) trivial) z<|by kernel_rfl
def lS:(ak->Option ak)->(ak)->Option ak:=fun(rec:ak->Option ak) (x:ak)=>iy (fun c=>rec c) x
def ke(c:ak):Option ak:=oG lS c
theorem AR{c:ak}{r:ak}(h:ke c=some r):CC Pg GE 67 [.agg (ax c)] (.agg (ax r)) [(6,36),(8,50)]:=
 cU (F:=lS) (M:=fun(x:ak) (r:ak)=>CC Pg GE 67 [.agg (ax x)] (.agg (ax r)) [(6,36),(8,50)]) (fun rec hrec x r h=>zi _ (fun c r h=>hrec c r h) h) h
noncomputable def qbZ:Code:=f42.body.getD .skip
def qaj:List Nat:=[22,29]
section
variable(t7:waD)(t8:Int)(t9:Int)(m:waB)(m2:waD)(m3:waD)(m4:Int)(m5:ag)(m6:ag)(m7:Int)(m8:ag)(m9:Int)(m10:waB)(m11:Int)(m12:waD)
def Cf:az:=aY 38 [(2,.bptr 0 0),(3,.bptr 1 0),(5,.bptr 2 0),(7,sl ax t7),(8,.int .i64 t8),(9,.int .i64 t9)] [.cells [.int .i64 0,.str ([]:ag),.str ([]:ag),.int .i64 0,.str ([]:ag),.int .i64 0,sl ac m,.int .i64 0,sl ax m2] [(6,36),(8,50)],.cells [.int .i64 1,.str ([]:ag),.str ([]:ag),.int .i64 0,.str ([]:ag),.int .i64 0,sl ac m,.int .i64 0,sl ax m3] [(6,36),(8,50)],.cells [.int .i64 m4,.str m5,.str m6,.int .i64 m7,.str m8,.int .i64 m9,sl ac m10,.int .i64 m11,sl ax m12] []] []
def lQ(o:Bool):az:=aY 38 [(2,.bptr 0 0),(3,.bptr 1 0),(5,.bptr 2 0),(7,sl ax t7),(8,.int .i64 t8),(9,.int .i64 t9),(20,.bool o)] [.cells [.int .i64 0,.str ([]:ag),.str ([]:ag),.int .i64 0,.str ([]:ag),.int .i64 0,sl ac m,.int .i64 0,sl ax m2] [(6,36),(8,50)],.cells [.int .i64 1,.str ([]:ag),.str ([]:ag),.int .i64 0,.str ([]:ag),.int .i64 0,sl ac m,.int .i64 0,sl ax m3] [(6,36),(8,50)],.cells [.int .i64 m4,.str m5,.str m6,.int .i64 m7,.str m8,.int .i64 m9,sl ac m10,.int .i64 m11,sl ax m12] []] []
def kc:Option Bool:=
 if(m4==2)=true then
  some true
 else
  some (m4==3)
theorem AP{x:Bool}(h:kc m4=some x):aT Pg GE 0 (cA qbZ 7670) (EX .normal (lQ t7 t8 t9 m m2 m3 m4 m5 m6 m7 m8 m9 m10 m11 m12 x)) (Cf t7 t8 t9 m m2 m3 m4 m5 m6 m7 m8 m9 m10 m11 m12):=by
 rcases aZ h with⟨c3,h⟩|⟨c3,h⟩
 ·obtain rfl:=lf h
  exact cw qaj (ss<|sg 4 c3<|eF .normal (lQ t7 t8 t9 m m2 m3 m4 m5 m6 m7 m8 m9 m10 m11 m12 true))<|by kernel_rfl
 ·obtain rfl:=lf h
  exact cw qaj (ss<|sg 4 c3<|ss<|eF .normal (lQ t7 t8 t9 m m2 m3 m4 m5 m6 m7 m8 m9 m10 m11 m12 (m4==3)))<|by kernel_rfl
end
section
variable(R81:lq)(t7:waD)(t8:Int)(m:waB)(m2:waD)(t9:Int)(m3:waD)
def eG:az:=aY 38 [(2,.bptr 0 0),(3,.bptr 1 0),(7,sl ax t7),(8,.int .i64 t8),(9,.int .i64 t9)] [.cells [.int .i64 0,.str ([]:ag),.str ([]:ag),.int .i64 0,.str ([]:ag),.int .i64 0,sl ac m,.int .i64 0,sl ax m2] [(6,36),(8,50)],.cells [.int .i64 1,.str ([]:ag),.str ([]:ag),.int .i64 0,.str ([]:ag),.int .i64 0,sl ac m,.int .i64 0,sl ax m3] [(6,36),(8,50)]] []
def lR(o:waD):az:=aY 38 [(2,.bptr 0 0),(3,.bptr 1 0)] [.cells [.int .i64 0,.str ([]:ag),.str ([]:ag),.int .i64 0,.str ([]:ag),.int .i64 0,sl ac m,.int .i64 0,sl ax m2] [(6,36),(8,50)],.cells [.int .i64 1,.str ([]:ag),.str ([]:ag),.int .i64 0,.str ([]:ag),.int .i64 0,sl ac m,.int .i64 0,sl ax o] [(6,36),(8,50)]] []
def rR:Option ((Int×waD)⊕(waD)):=
 if(decide (t9<t8))=true then
  (cR t7 t9).bind fun x2=>
  (kc x2.Op).bind fun o4=>
  if o4=true then
   (ke x2).bind fun r7=>
   (app m3 ([r7]:List ak)).bind fun l8=>
   some (.inl (aR (t9+1),l8))
  else
   (R81 x2.Kids).bind fun r9=>
   (app m3 r9.Kids).bind fun l10=>
   some (.inl (aR (t9+1),l10))
 else
  some (.inr m3)
def oC:Option waD:=loop (fun(zz:Int×waD)=>rR R81 t7 t8 zz.1 zz.2) (t9,m3)
theorem zh(hR81:pr R81){y:(Int×waD)⊕(waD)}(h:rR R81 t7 t8 t9 m3=some y):aT Pg GE 0 (cA qbZ 119) (LQ (fun(zz:Int×waD)=>eG t7 t8 m m2 zz.1 zz.2) (fun _=>.exit 0) (lR m m2) y) (eG t7 t8 m m2 t9 m3):=by
 rcases aZ h with⟨c1,h⟩|⟨c1,h⟩
 ·obtain⟨x2,bx2,h⟩:=aB h
  obtain⟨o4,bo4,h⟩:=aB h
  have p6:=fun{sc F} (r:PS sc F)=>sg 0 c1<|sv (wt.ia (k:=.i64) bx2)<|sv (oJ x2)<|sx zq<|sx (dG x2)<|nD 0<|di (AP t7 t8 t9 m m2 m3 x2.Op x2.Name x2.Sort_ x2.Pred.Op x2.Pred.Name x2.Pred.N x2.Pred.Kids x2.Tag x2.Kids bo4)<|r
  rcases aZ h with⟨c5,h⟩|⟨c5,h⟩
  ·obtain⟨r7,br7,h⟩:=aB h
   obtain⟨l8,bl8,h⟩:=aB h
   obtain rfl:=lf h
   have z:=p6<|sg 0 c5<|qX [0,1,0,4,12,31,63,127]<|sv (j1 x2 [])<|bT (AR br7)<|sv (wt.mk' (v:=vq) pM ([r7]:List ak) 1 (by kernel_rfl))<|sv (wt.ap bl8)<|W6 (rfl:bO (sl ax l8)=some [sl ax l8])<|zn 0 .normal (eG t7 t8 m m2 (aR (t9+1)) l8) rfl (eg (aI (d6 rfl) (aI (d6 rfl) (aI (up (aq bA t7)) (aI trivial (aI trivial trivial)))))) (aI (aI trivial (aI trivial (aI trivial (aI trivial (aI trivial (aI trivial (aI (up (aq ah m)) (aI trivial (aI (up (aq bA m2)) trivial))))))))) (aI (aI trivial (aI trivial (aI trivial (aI trivial (aI trivial (aI trivial (aI (up (aq ah m)) (aI trivial (aI (up (aq bA l8)) trivial))))))))) trivial))
   exact dS (A:=qaj) mixed z<|by kernel_rfl
  ·obtain⟨r9,br9,h⟩:=aB h
   obtain⟨l10,bl10,h⟩:=aB h
   obtain rfl:=lf h
   have z:=p6<|sg 0 c5<|qX [0,1,0,4,12,28,63,127,255]<|ss<|bT (hR81 _ _ br9)<|sv (RN r9)<|sv (wt.ap bl10)<|W6 (rfl:bO (sl ax l10)=some [sl ax l10])<|zn 0 .normal (eG t7 t8 m m2 (aR (t9+1)) l10) rfl (eg (aI (d6 rfl) (aI (d6 rfl) (aI (up (aq bA t7)) (aI trivial (aI trivial trivial)))))) (aI (aI trivial (aI trivial (aI trivial (aI trivial (aI trivial (aI trivial (aI (up (aq ah m)) (aI trivial (aI (up (aq bA m2)) trivial))))))))) (aI (aI trivial (aI trivial (aI trivial (aI trivial (aI trivial (aI trivial (aI (up (aq ah m)) (aI trivial (aI (up (aq bA l10)) trivial))))))))) trivial))
   exact dS (A:=qaj) mixed z<|by kernel_rfl
 ·obtain rfl:=lf h
  have z:=sg 0 c1<|eF (.exit 0) (lR m m2 m3)
  exact i7 qaj (by intro hx;cases hx) z<|by kernel_rfl
theorem AQ(hR81:pr R81){x:waD}(h:oC R81 t7 t8 t9 m3=some x):aT Pg GE 0 (.loop (cA qbZ 119)) (EX (.exit 0) (lR m m2 x)) (eG t7 t8 m m2 t9 m3):=
 aT.loop (S:=fun(zz:Int×waD)=>eG t7 t8 m m2 zz.1 zz.2) (ex:=(fun _=>.exit 0)) (s:=(t9,m3)) h fun zz y hy=>zh R81 t7 t8 m m2 zz.1 zz.2 hR81 hy
end
def lw(R81:lq)(a:waD):Option ak:=
 (oC R81 a (a.length:Int) 0 ([]:List ak)).bind fun o11=>
 some (⟨1,([]:ag),([]:ag),(⟨0,([]:ag),0,([]:List aa)⟩:aa),0,o11⟩:ak)
theorem Dp(R81:lq)(hR81:pr R81){a:waD}{r:ak}(h:lw R81 a=some r):CC Pg GE 42 [sl ax a] (.agg (ax r)) [(6,36),(8,50)]:=by
 obtain⟨o11,bo11,h⟩:=aB h
 obtain rfl:=lf h
 have z:=sx zq<|sb (Dm 1) (Dk 1)<|sx zq<|sy (cE (⟨1,([]:ag),([]:ag),(⟨0,([]:ag),0,([]:List aa)⟩:aa),0,([]:List ak)⟩:ak))<|cz (wt.ln a)<|di (AQ R81 a (a.length:Int) ([]:List aa) ([]:List ak) 0 ([]:List ak) hR81 bo11)<|sz (j1 (⟨1,([]:ag),([]:ag),(⟨0,([]:ag),0,([]:List aa)⟩:aa),0,o11⟩:ak) [])<|sy (cE (⟨1,([]:ag),([]:ag),(⟨0,([]:ag),0,([]:List aa)⟩:aa),0,o11⟩:ak))<|en (aI (e7 (⟨1,([]:ag),([]:ag),(⟨0,([]:ag),0,([]:List aa)⟩:aa),0,o11⟩:ak))<|aI (bA (⟨1,([]:ag),([]:ag),(⟨0,([]:ag),0,([]:List aa)⟩:aa),0,o11⟩:ak))<|rT)
 exact cn qaj call42 func42 (c:=qbZ) rfl (aI (aq bA a) trivial) z<|by kernel_rfl
def pD:(waD->Option ak)->(waD)->Option ak:=fun(rec:waD->Option ak) (x:waD)=>lw (fun a=>rec a) x
def oB(a:waD):Option ak:=oG pD a
theorem uQ{a:waD}{r:ak}(h:oB a=some r):CC Pg GE 42 [sl ax a] (.agg (ax r)) [(6,36),(8,50)]:=
 cU (F:=pD) (M:=fun(x:waD) (r:ak)=>CC Pg GE 42 [sl ax x] (.agg (ax r)) [(6,36),(8,50)]) (fun rec hrec x r h=>Dp _ (fun a r h=>hrec a r h) h) h
noncomputable def YL:Code:=f54.body.getD .skip
def Xt:List Nat:=[36,57,72,76]
section
variable(used:waA)(w:aO)(v:ae)(v2:ae)(n:Int)(left:waC)(right:waC)(v3:waA)(v4:waA)(i:Int)(m:waB)(m2:waD)
def rN:az:=aY 138 [(3,sl cS used),(4,.eptr (aM w)),(5,.eptr (af v)),(6,.eptr (af v2)),(8,.bptr 3 0),(9,.int .i64 n),(10,sl af left),(11,sl af right),(12,sl cS v3),(13,sl cS v4),(14,.int .i64 i),(15,.str ([120]:ag)),(33,.int .i64 n),(34,.int .i64 i)] [.dead,.dead,.dead,.cells [.int .i64 0,.str ([]:ag),.str ([]:ag),.int .i64 0,.str ([]:ag),.int .i64 0,sl ac m,.int .i64 0,sl ax m2] [(6,36),(8,50)]] [((13,0),9),((12,0),9)]
def fN(o:ag):az:=aY 138 [(3,sl cS used),(4,.eptr (aM w)),(5,.eptr (af v)),(6,.eptr (af v2)),(8,.bptr 3 0),(9,.int .i64 n),(10,sl af left),(11,sl af right),(12,sl cS v3),(13,sl cS v4),(14,.int .i64 i),(15,.str o),(33,.int .i64 n),(34,.int .i64 i)] [.dead,.dead,.dead,.cells [.int .i64 0,.str ([]:ag),.str ([]:ag),.int .i64 0,.str ([]:ag),.int .i64 0,sl ac m,.int .i64 0,sl ax m2] [(6,36),(8,50)]] [((13,0),9),((12,0),9)]
def ey:Option ag:=
 if(decide (i<(v2.Names.length:Int)))=true then
  (cR v2.Names i).bind fun x5=>
  some x5
 else
  some ([120]:ag)
theorem qY{x:ag}(h:ey v2 i=some x):aT Pg GE 0 (cA YL 130030) (EX .normal (fN used w v v2 n left right v3 v4 i m m2 x)) (rN used w v v2 n left right v3 v4 i m m2):=by
 have p4:=fun{sc F} (r:PS sc F)=>sv (bh v2)<|sv (bj v2)<|cz (bJ.ln v2.Names)<|r
 rcases aZ h with⟨c3,h⟩|⟨c3,h⟩
 ·obtain⟨x5,bx5,h⟩:=aB h
  obtain rfl:=lf h
  exact cw Xt (p4<|sg 0 c3<|sv (bh v2)<|sv (bj v2)<|sv (bJ.ia (k:=.i64) bx5)<|sv (im Mo (.str x5) [])<|eF .normal (fN used w v v2 n left right v3 v4 i m m2 x5))<|by kernel_rfl
 ·obtain rfl:=lf h
  exact cw Xt (p4<|sg 0 c3<|eF .normal (fN used w v v2 n left right v3 v4 i m m2 ([120]:ag)))<|by kernel_rfl
end
section
variable(used:waA)(w:aO)(v:ae)(v2:ae)(n:Int)(left:waC)(right:waC)(v3:waA)(v4:waA)(i:Int)(name:ag)(t51:waC)(t52:Int)(m:waB)(m2:waD)(taken:waA)(t53:Int)
def da:az:=aY 138 [(3,sl cS used),(4,.eptr (aM w)),(5,.eptr (af v)),(6,.eptr (af v2)),(8,.bptr 3 0),(9,.int .i64 n),(10,sl af left),(11,sl af right),(12,sl cS v3),(13,sl cS v4),(14,.int .i64 i),(15,.str name),(16,sl cS taken),(33,.int .i64 n),(34,.int .i64 i),(51,sl af t51),(52,.int .i64 t52),(53,.int .i64 t53)] [.dead,.dead,.dead,.cells [.int .i64 0,.str ([]:ag),.str ([]:ag),.int .i64 0,.str ([]:ag),.int .i64 0,sl ac m,.int .i64 0,sl ax m2] [(6,36),(8,50)]] [((51,0),38),((16,0),9),((13,0),9),((12,0),9)]
def fP(o:waA):az:=aY 138 [(3,sl cS used),(4,.eptr (aM w)),(5,.eptr (af v)),(6,.eptr (af v2)),(8,.bptr 3 0),(9,.int .i64 n),(10,sl af left),(11,sl af right),(12,sl cS v3),(13,sl cS v4),(14,.int .i64 i),(15,.str name),(16,sl cS o),(33,.int .i64 n),(34,.int .i64 i)] [.dead,.dead,.dead,.cells [.int .i64 0,.str ([]:ag),.str ([]:ag),.int .i64 0,.str ([]:ag),.int .i64 0,sl ac m,.int .i64 0,sl ax m2] [(6,36),(8,50)]] [((16,0),9),((13,0),9),((12,0),9)]
def bR:Option ((waA×Int)⊕(waA)):=
 if(decide (t53<t52))=true then
  (cR t51 t53).bind fun x9=>
  (Ld x9.Names (some (if(x9.Names.length:Int)<(aR (i+1))then(x9.Names.length:Int)else aR (i+1))) none).bind fun l10=>
  (app taken l10).bind fun l11=>
  some (.inl (l11,aR (t53+1)))
 else
  some (.inr taken)
def eA:Option waA:=loop (fun(zz:waA×Int)=>bR i t51 t52 zz.1 zz.2) (taken,t53)
theorem pX{y:(waA×Int)⊕(waA)}(h:bR i t51 t52 taken t53=some y):aT Pg GE 0 (cA YL 4161015) (LQ (fun(zz:waA×Int)=>da used w v v2 n left right v3 v4 i name t51 t52 m m2 zz.1 zz.2) (fun _=>.exit 2) (fP used w v v2 n left right v3 v4 i name m m2) y) (da used w v v2 n left right v3 v4 i name t51 t52 m m2 taken t53):=by
 rcases aZ h with⟨c8,h⟩|⟨c8,h⟩
 ·obtain⟨x9,bx9,h⟩:=aB h
  obtain⟨l10,bl10,h⟩:=aB h
  obtain⟨l11,bl11,h⟩:=aB h
  obtain rfl:=lf h
  have z:=sg 0 c8<|sv (cX.ia (k:=.i64) bx9)<|sv (bw x9)<|sx Bn<|sx (iT x9)<|ss<|ss<|cz (bJ.ln x9.Names)<|sv (bJ.sc bl10)<|sv (bJ.ap bl11)<|zn 0 .normal (da used w v v2 n left right v3 v4 i name t51 t52 m m2 l11 (aR (t53+1))) rfl (eg (aI (up (aq gG used)) (aI (oA (cK w)) (aI (oA (av v)) (aI (oA (av v2)) (aI (d6 rfl) (aI trivial (aI (up (aq av left)) (aI (up (aq av right)) (aI (up (aq gG v3)) (aI (up (aq gG v4)) (aI trivial (aI trivial (aI (up (aq gG l11)) (aI trivial (aI trivial (aI (up (aq av t51)) (aI trivial (aI trivial trivial))))))))))))))))))) (aI trivial (aI trivial (aI trivial (aI (aI trivial (aI trivial (aI trivial (aI trivial (aI trivial (aI trivial (aI (up (aq ah m)) (aI trivial (aI (up (aq bA m2)) trivial))))))))) trivial))))
  exact dS (A:=Xt) mixed z<|by kernel_rfl
 ·obtain rfl:=lf h
  have z:=sg 0 c8<|eF (.exit 2) (fP used w v v2 n left right v3 v4 i name m m2 taken)
  exact i7 Xt (by intro hx;cases hx) z<|by kernel_rfl
theorem ra{x:waA}(h:eA i t51 t52 taken t53=some x):aT Pg GE 0 (.loop (cA YL 4161015)) (EX (.exit 2) (fP used w v v2 n left right v3 v4 i name m m2 x)) (da used w v v2 n left right v3 v4 i name t51 t52 m m2 taken t53):=
 aT.loop (S:=fun(zz:waA×Int)=>da used w v v2 n left right v3 v4 i name t51 t52 m m2 zz.1 zz.2) (ex:=(fun _=>.exit 2)) (s:=(taken,t53)) h fun zz y hy=>pX used w v v2 n left right v3 v4 i name t51 t52 m m2 zz.1 zz.2 hy
end
section
variable(used:waA)(w:aO)(v:ae)(v2:ae)(n:Int)(m:waB)(m2:waD)(left:waC)(right:waC)(v3:waA)(v4:waA)(t34:Int)
def cZ:az:=aY 138 [(3,sl cS used),(4,.eptr (aM w)),(5,.eptr (af v)),(6,.eptr (af v2)),(8,.bptr 3 0),(9,.int .i64 n),(10,sl af left),(11,sl af right),(12,sl cS v3),(13,sl cS v4),(33,.int .i64 n),(34,.int .i64 t34)] [.dead,.dead,.dead,.cells [.int .i64 0,.str ([]:ag),.str ([]:ag),.int .i64 0,.str ([]:ag),.int .i64 0,sl ac m,.int .i64 0,sl ax m2] [(6,36),(8,50)]] [((13,0),9),((12,0),9)]
def fO(o:waC×waC×waA×waA):az:=aY 138 [(3,sl cS used),(4,.eptr (aM w)),(8,.bptr 3 0),(9,.int .i64 n),(10,sl af o.1),(11,sl af o.2.1),(12,sl cS o.2.2.1),(13,sl cS o.2.2.2)] [.dead,.dead,.dead,.cells [.int .i64 0,.str ([]:ag),.str ([]:ag),.int .i64 0,.str ([]:ag),.int .i64 0,sl ac m,.int .i64 0,sl ax m2] [(6,36),(8,50)]] [((13,0),9),((12,0),9)]
def cJ:Option ((waC×waC×waA×waA×Int)⊕((waC×waC×waA×waA))):=
 if(decide (t34<n))=true then
  (ey v2 t34).bind fun o6=>
  (lP v4).bind fun r7=>
  (eA t34 ([v,v2]:List ae) (([v,v2]:List ae).length:Int) r7 0).bind fun o12=>
  (kO o12 o6).bind fun r13=>
  (app v4 ([r13]:List ag)).bind fun l14=>
  (app v3 ([r13]:List ag)).bind fun l15=>
  (iX left v t34 r13).bind fun r16=>
  (iX right v2 t34 r13).bind fun r17=>
  some (.inl (r16,r17,l15,l14,aR (t34+1)))
 else
  some (.inr (left,right,v3,v4))
def ez:Option ((waC×waC×waA×waA)):=loop (fun(zz:waC×waC×waA×waA×Int)=>cJ v v2 n zz.1 zz.2.1 zz.2.2.1 zz.2.2.2.1 zz.2.2.2.2) (left,right,v3,v4,t34)
theorem pW{y:(waC×waC×waA×waA×Int)⊕((waC×waC×waA×waA))}(h:cJ v v2 n left right v3 v4 t34=some y):aT Pg GE 0 (cA YL 1015) (LQ (fun(zz:waC×waC×waA×waA×Int)=>cZ used w v v2 n m m2 zz.1 zz.2.1 zz.2.2.1 zz.2.2.2.1 zz.2.2.2.2) (fun _=>.exit 0) (fO used w n m m2) y) (cZ used w v v2 n m m2 left right v3 v4 t34):=by
 rcases aZ h with⟨c2,h⟩|⟨c2,h⟩
 ·obtain⟨o6,bo6,h⟩:=aB h
  obtain⟨r7,br7,h⟩:=aB h
  obtain⟨o12,bo12,h⟩:=aB h
  obtain⟨r13,br13,h⟩:=aB h
  obtain⟨l14,bl14,h⟩:=aB h
  obtain⟨l15,bl15,h⟩:=aB h
  obtain⟨r16,br16,h⟩:=aB h
  obtain⟨r17,br17,h⟩:=aB h
  obtain rfl:=lf h
  exact rU Xt (sg 0 c2<|nD 3<|di (qY used w v v2 n left right v3 v4 t34 m m2 bo6)<|bT (Do br7)<|sv (bw v)<|sv (bw v2)<|sv (cX.mk' (v:=lE) gm ([v,v2]:List ae) 2 (by kernel_rfl))<|cz (cX.ln ([v,v2]:List ae))<|di (ra used w v v2 n left right v3 v4 t34 o6 ([v,v2]:List ae) (([v,v2]:List ae).length:Int) m m2 r7 0 bo12)<|bT (tV br13)<|sv (bJ.mk' (v:=PVal.str) KI ([r13]:List ag) 1 (by kernel_rfl))<|sv (bJ.ap bl14)<|sv (bJ.mk' (v:=PVal.str) KI ([r13]:List ag) 1 (by kernel_rfl))<|sv (bJ.ap bl15)<|qX [0,0,0,0,15,0,0,0,0,511,1023,2047]<|sv (bw v)<|bT (rX br16)<|sv (bw v2)<|bT (rX br17)<|eF .normal (cZ used w v v2 n m m2 r16 r17 l15 l14 (aR (t34+1))))<|by kernel_rfl
 ·obtain rfl:=lf h
  have z:=sg 0 c2<|eF (.exit 0) (fO used w n m m2 (left,right,v3,v4))
  exact i7 Xt (by intro hx;cases hx) z<|by kernel_rfl
theorem qZ{x:(waC×waC×waA×waA)}(h:ez v v2 n left right v3 v4 t34=some x):aT Pg GE 0 (.loop (cA YL 1015)) (EX (.exit 0) (fO used w n m m2 x)) (cZ used w v v2 n m m2 left right v3 v4 t34):=
 aT.loop (S:=fun(zz:waC×waC×waA×waA×Int)=>cZ used w v v2 n m m2 zz.1 zz.2.1 zz.2.2.1 zz.2.2.2.1 zz.2.2.2.2) (ex:=(fun _=>.exit 0)) (s:=(left,right,v3,v4,t34)) h fun zz y hy=>pW used w v v2 n m m2 zz.1 zz.2.1 zz.2.2.1 zz.2.2.2.1 zz.2.2.2.2 hy
end
section
variable(R51:du)(used:waA)(w:aO)(left:waC)(right:waC)(v:waA)(v2:waA)(m:waB)(m2:waD)(i:Int)(m3:Int)(m4:ag)(m5:ag)(m6:Int)(m7:ag)(m8:Int)(m9:waB)(m10:Int)(m11:waD)
def db:az:=aY 138 [(3,sl cS used),(4,.eptr (aM w)),(8,.bptr 3 0),(10,sl af left),(11,sl af right),(12,sl cS v),(13,sl cS v2),(20,.bptr 4 0),(21,.int .i64 i)] [.dead,.dead,.dead,.cells [.int .i64 0,.str ([]:ag),.str ([]:ag),.int .i64 0,.str ([]:ag),.int .i64 0,sl ac m,.int .i64 0,sl ax m2] [(6,36),(8,50)],.cells [.int .i64 m3,.str m4,.str m5,.int .i64 m6,.str m7,.int .i64 m8,sl ac m9,.int .i64 m10,sl ax m11] []] [((13,0),9),((12,0),9)]
def fQ(o:Int×ag×ag×Int×ag×Int×waB×Int×waD):az:=aY 138 [(8,.bptr 3 0),(20,.bptr 4 0)] [.dead,.dead,.dead,.cells [.int .i64 0,.str ([]:ag),.str ([]:ag),.int .i64 0,.str ([]:ag),.int .i64 0,sl ac m,.int .i64 0,sl ax m2] [(6,36),(8,50)],.cells [.int .i64 o.1,.str o.2.1,.str o.2.2.1,.int .i64 o.2.2.2.1,.str o.2.2.2.2.1,.int .i64 o.2.2.2.2.2.1,sl ac o.2.2.2.2.2.2.1,.int .i64 o.2.2.2.2.2.2.2.1,sl ax o.2.2.2.2.2.2.2.2] []] []
def bS:Option ((Int×Int×ag×ag×Int×ag×Int×waB×Int×waD)⊕((Int×ag×ag×Int×ag×Int×waB×Int×waD))):=
 if(decide (i>=0))=true then
  (Ld v2 none (some (aR ((used.length:Int)+i)))).bind fun l23=>
  (cR right i).bind fun x24=>
  (cR left i).bind fun x25=>
  (R51 w x24 x25 l23).bind fun r26=>
  (cR right i).bind fun x27=>
  (cR v i).bind fun x28=>
  (sM x27 x28 (⟨m3,m4,m5,(⟨m6,m7,m8,m9⟩:aa),m10,m11⟩:ak)).bind fun r29=>
  (oB ([r26,r29]:List ak)).bind fun r30=>
  some (.inl (aR (i - 1),r30.Op,r30.Name,r30.Sort_,r30.Pred.Op,r30.Pred.Name,r30.Pred.N,r30.Pred.Kids,r30.Tag,r30.Kids))
 else
  some (.inr (m3,m4,m5,m6,m7,m8,m9,m10,m11))
def gC:Option ((Int×ag×ag×Int×ag×Int×waB×Int×waD)):=loop (fun(zz:Int×Int×ag×ag×Int×ag×Int×waB×Int×waD)=>bS R51 used w left right v v2 zz.1 zz.2.1 zz.2.2.1 zz.2.2.2.1 zz.2.2.2.2.1 zz.2.2.2.2.2.1 zz.2.2.2.2.2.2.1 zz.2.2.2.2.2.2.2.1 zz.2.2.2.2.2.2.2.2.1 zz.2.2.2.2.2.2.2.2.2) (i,m3,m4,m5,m6,m7,m8,m9,m10,m11)
theorem pY(hR51:gU R51){y:(Int×Int×ag×ag×Int×ag×Int×waB×Int×waD)⊕((Int×ag×ag×Int×ag×Int×waB×Int×waD))}(h:bS R51 used w left right v v2 i m3 m4 m5 m6 m7 m8 m9 m10 m11=some y):aT Pg GE 0 (cA YL 4087) (LQ (fun(zz:Int×Int×ag×ag×Int×ag×Int×waB×Int×waD)=>db used w left right v v2 m m2 zz.1 zz.2.1 zz.2.2.1 zz.2.2.2.1 zz.2.2.2.2.1 zz.2.2.2.2.2.1 zz.2.2.2.2.2.2.1 zz.2.2.2.2.2.2.2.1 zz.2.2.2.2.2.2.2.2.1 zz.2.2.2.2.2.2.2.2.2) (fun _=>.exit 4) (fQ m m2) y) (db used w left right v v2 m m2 i m3 m4 m5 m6 m7 m8 m9 m10 m11):=by
 rcases aZ h with⟨c22,h⟩|⟨c22,h⟩
 ·obtain⟨l23,bl23,h⟩:=aB h
  obtain⟨x24,bx24,h⟩:=aB h
  obtain⟨x25,bx25,h⟩:=aB h
  obtain⟨r26,br26,h⟩:=aB h
  obtain⟨x27,bx27,h⟩:=aB h
  obtain⟨x28,bx28,h⟩:=aB h
  obtain⟨r29,br29,h⟩:=aB h
  obtain⟨r30,br30,h⟩:=aB h
  obtain rfl:=lf h
  exact rU Xt (sg 0 c22<|cz (bJ.ln used)<|sv (bJ.sc bl23)<|qX [0,0,0,6,14,0,0,96,224,0,1023,0,0,6144,14336,0,0,98304,229376,0,1048575,2097151,4194303,8388607]<|sv (eo w)<|sv (cX.ia (k:=.i64) bx24)<|sv (bw x24)<|sv (cX.ia (k:=.i64) bx25)<|sv (bw x25)<|bT (hR51 _ _ _ _ _ br26)<|sv (cX.ia (k:=.i64) bx27)<|sv (bw x27)<|sv (bJ.ia (k:=.i64) bx28)<|sv (im Mo (.str x28) [])<|sv (j1 (⟨m3,m4,m5,(⟨m6,m7,m8,m9⟩:aa),m10,m11⟩:ak) [])<|bT (II br29)<|sv (wt.mk' (v:=vq) pM ([r26,r29]:List ak) 2 (by kernel_rfl))<|bT (uQ br30)<|Yw (dG r30)<|eF .normal (db used w left right v v2 m m2 (aR (i - 1)) r30.Op r30.Name r30.Sort_ r30.Pred.Op r30.Pred.Name r30.Pred.N r30.Pred.Kids r30.Tag r30.Kids))<|by kernel_rfl
 ·obtain rfl:=lf h
  have z:=sg 0 c22<|eF (.exit 4) (fQ m m2 (m3,m4,m5,m6,m7,m8,m9,m10,m11))
  exact i7 Xt (by intro hx;cases hx) z<|by kernel_rfl
theorem rb(hR51:gU R51){x:(Int×ag×ag×Int×ag×Int×waB×Int×waD)}(h:gC R51 used w left right v v2 i m3 m4 m5 m6 m7 m8 m9 m10 m11=some x):aT Pg GE 0 (.loop (cA YL 4087)) (EX (.exit 4) (fQ m m2 x)) (db used w left right v v2 m m2 i m3 m4 m5 m6 m7 m8 m9 m10 m11):=
 aT.loop (S:=fun(zz:Int×Int×ag×ag×Int×ag×Int×waB×Int×waD)=>db used w left right v v2 m m2 zz.1 zz.2.1 zz.2.2.1 zz.2.2.2.1 zz.2.2.2.2.1 zz.2.2.2.2.2.1 zz.2.2.2.2.2.2.1 zz.2.2.2.2.2.2.2.1 zz.2.2.2.2.2.2.2.2.1 zz.2.2.2.2.2.2.2.2.2) (ex:=(fun _=>.exit 4)) (s:=(i,m3,m4,m5,m6,m7,m8,m9,m10,m11)) h fun zz y hy=>pY R51 used w left right v v2 m m2 zz.1 zz.2.1 zz.2.2.1 zz.2.2.2.1 zz.2.2.2.2.1 zz.2.2.2.2.2.1 zz.2.2.2.2.2.2.1 zz.2.2.2.2.2.2.2.1 zz.2.2.2.2.2.2.2.2.1 zz.2.2.2.2.2.2.2.2.2 hR51 hy
end
def fH(R51:du)(w:aO)(a:ae)(a2:ae)(used:waA):Option ak:=
 (lP used).bind fun r1=>
 (ez a a2 (aR ((a2.Args.length:Int) - 1)) a.Args a2.Args ([]:List ag) r1 0).bind fun o18=>
 (cR o18.1 (aR ((a2.Args.length:Int) - 1))).bind fun x19=>
 (cR o18.2.1 (aR ((a2.Args.length:Int) - 1))).bind fun x20=>
 (R51 w x19 x20 o18.2.2.2).bind fun r21=>
 (gC R51 used w o18.1 o18.2.1 o18.2.2.1 o18.2.2.2 (aR ((aR ((a2.Args.length:Int) - 1)) - 1)) r21.Op r21.Name r21.Sort_ r21.Pred.Op r21.Pred.Name r21.Pred.N r21.Pred.Kids r21.Tag r21.Kids).bind fun o31=>
 some (⟨o31.1,o31.2.1,o31.2.2.1,(⟨o31.2.2.2.1,o31.2.2.2.2.1,o31.2.2.2.2.2.1,o31.2.2.2.2.2.2.1⟩:aa),o31.2.2.2.2.2.2.2.1,o31.2.2.2.2.2.2.2.2⟩:ak)
theorem uj(R51:du)(hR51:gU R51){w:aO}{a:ae}{a2:ae}{used:waA}{r:ak}(h:fH R51 w a a2 used=some r):CC Pg GE 54 [.agg (aM w),.agg (af a),.agg (af a2),sl cS used] (.agg (ax r)) []:=by
 obtain⟨r1,br1,h⟩:=aB h
 obtain⟨o18,bo18,h⟩:=aB h
 obtain⟨x19,bx19,h⟩:=aB h
 obtain⟨x20,bx20,h⟩:=aB h
 obtain⟨r21,br21,h⟩:=aB h
 obtain⟨o31,bo31,h⟩:=aB h
 obtain rfl:=lf h
 have z:=se (g8 w)<|se (cF a)<|se (cF a2)<|sx zq<|sv (aW a2)<|sv (aX a2)<|cz (cX.ln a2.Args)<|qX [0,1,0,4,3,31]<|sv (aW a)<|sv (aX a)<|sv (aW a2)<|sv (aX a2)<|bT (Do br1)<|di (qZ used w a a2 (aR ((a2.Args.length:Int) - 1)) ([]:List aa) ([]:List ak) a.Args a2.Args ([]:List ag) r1 0 bo18)<|qX [0,0,0,6,14,0,0,96,224,0,1023,0,4095]<|sv (eo w)<|sv (cX.ia (k:=.i64) bx19)<|sv (bw x19)<|sv (cX.ia (k:=.i64) bx20)<|sv (bw x20)<|bT (hR51 _ _ _ _ _ br21)<|sx (dG r21)<|di (rb R51 used w o18.1 o18.2.1 o18.2.2.1 o18.2.2.2 ([]:List aa) ([]:List ak) (aR ((aR ((a2.Args.length:Int) - 1)) - 1)) r21.Op r21.Name r21.Sort_ r21.Pred.Op r21.Pred.Name r21.Pred.N r21.Pred.Kids r21.Tag r21.Kids hR51 bo31)<|sv (j1 (⟨o31.1,o31.2.1,o31.2.2.1,(⟨o31.2.2.2.1,o31.2.2.2.2.1,o31.2.2.2.2.2.1,o31.2.2.2.2.2.2.1⟩:aa),o31.2.2.2.2.2.2.2.1,o31.2.2.2.2.2.2.2.2⟩:ak) [])<|sx (dG (⟨o31.1,o31.2.1,o31.2.2.1,(⟨o31.2.2.2.1,o31.2.2.2.2.1,o31.2.2.2.2.2.1,o31.2.2.2.2.2.2.1⟩:aa),o31.2.2.2.2.2.2.2.1,o31.2.2.2.2.2.2.2.2⟩:ak))<|en (aI (e7 (⟨o31.1,o31.2.1,o31.2.2.1,(⟨o31.2.2.2.1,o31.2.2.2.2.1,o31.2.2.2.2.2.1,o31.2.2.2.2.2.2.1⟩:aa),o31.2.2.2.2.2.2.2.1,o31.2.2.2.2.2.2.2.2⟩:ak))<|(bA (⟨o31.1,o31.2.1,o31.2.2.1,(⟨o31.2.2.2.1,o31.2.2.2.2.1,o31.2.2.2.2.2.1,o31.2.2.2.2.2.2.1⟩:aa),o31.2.2.2.2.2.2.2.1,o31.2.2.2.2.2.2.2.2⟩:ak)))
 exact cn Xt call54 func54 (c:=YL) rfl (aI (cK w) (aI (av a) (aI (av a2) (aI (aq gG used) trivial)))) z<|by kernel_rfl
noncomputable def qdZ:Code:=f96.body.getD .skip
def qdO:List Nat:=[]
def iA(w:aO)(p:aa):Option ak:=
 some (⟨3,([]:ag),([]:ag),p,w.tag,([]:List ak)⟩:ak)
theorem yQ{w:aO}{p:aa}{r:ak}(h:iA w p=some r):CC Pg GE 96 [.agg (aM w),.agg (ac p)] (.agg (ax r)) [(8,50)]:=by
 obtain rfl:=lf h
 have z:=se (g8 w)<|se (cr p)<|sx zq<|sv (be p)<|sv (wV w)<|sv (zo w)<|sb (JU 3 p w.tag) (JS 3 p w.tag)<|sy (cE (⟨3,([]:ag),([]:ag),p,w.tag,([]:List ak)⟩:ak))<|en (aI (e7 (⟨3,([]:ag),([]:ag),p,w.tag,([]:List ak)⟩:ak))<|aI (bA (⟨3,([]:ag),([]:ag),p,w.tag,([]:List ak)⟩:ak))<|rT)
 exact cn qdO call96 func96 (c:=qdZ) rfl (aI (cK w) (aI (ah p) trivial)) z<|by kernel_rfl
noncomputable def qdX:Code:=f78.body.getD .skip
def qdM:List Nat:=[]
def eB(w:aO)(name:ag)(s:ag)(hyp:aa)(goal:aa):Option ak:=
 (iA w goal).bind fun r1=>
 some (⟨2,name,s,hyp,0,([r1]:List ak)⟩:ak)
theorem lH{w:aO}{name:ag}{s:ag}{hyp:aa}{goal:aa}{r:ak}(h:eB w name s hyp goal=some r):CC Pg GE 78 [.agg (aM w),.str name,.str s,.agg (ac hyp),.agg (ac goal)] (.agg (ax r)) []:=by
 obtain⟨r1,br1,h⟩:=aB h
 obtain rfl:=lf h
 have z:=se (g8 w)<|se (cr hyp)<|se (cr goal)<|sx zq<|qX [0,0,0,0,0,24,56,127,255]<|sv (be hyp)<|sv (eo w)<|sv (be goal)<|bT (yQ br1)<|sv (wt.mk' (v:=vq) pM ([r1]:List ak) 1 (by kernel_rfl))<|sv (tG 2 name s hyp ([r1]:List ak))<|sx (dG (⟨2,name,s,hyp,0,([r1]:List ak)⟩:ak))<|en (aI (e7 (⟨2,name,s,hyp,0,([r1]:List ak)⟩:ak))<|(bA (⟨2,name,s,hyp,0,([r1]:List ak)⟩:ak)))
 exact cn qdM call78 func78 (c:=qdX) rfl (aI (cK w) (aI trivial (aI trivial (aI (ah hyp) (aI (ah goal) trivial))))) z<|by kernel_rfl
noncomputable def qb5:Code:=f79.body.getD .skip
def qaH:List Nat:=[]
section
variable(name:ag)(t9:(List eS))(t10:Int)(t11:Int)(m:ag)(m2:waA)(m3:waF)(m4:waG)
def iY:az:=aY 22 [(1,.str name),(4,.bptr 1 0),(9,sl co t9),(10,.int .i64 t10),(11,.int .i64 t11)] [.dead,.cells [.str m,sl cS m2,sl bE m3,sl ef m4] [(1,9),(2,102),(3,73)]] []
def iZ(o:(ag×waA×waF×waG)⊕(ag×waA×waF×waG)):Exit:=match o with
 |(.inl _)=>.ret
 |(.inr _)=>.exit 0
def gn(o:(ag×waA×waF×waG)⊕(ag×waA×waF×waG)):az:=match o with
 |(.inl o)=>aY 22 [(4,.bptr 1 0),(5,.bool true)] [.dead,.cells [.str o.1,sl cS o.2.1,sl bE o.2.2.1,sl ef o.2.2.2] []] []
 |(.inr o)=>aY 22 [(4,.bptr 1 0)] [.dead,.cells [.str o.1,sl cS o.2.1,sl bE o.2.2.1,sl ef o.2.2.2] [(1,9),(2,102),(3,73)]] []
def e9:Option ((Int×ag×waA×waF×waG)⊕((ag×waA×waF×waG)⊕(ag×waA×waF×waG))):=
 if(decide (t11<t10))=true then
  (cR t9 t11).bind fun x2=>
  if(x2.Name==name)=true then
   some (.inr (.inl (x2.Name,x2.Vars,x2.Preds,x2.Cons)))
  else
   some (.inl (aR (t11+1),m,m2,m3,m4))
 else
  some (.inr (.inr (m,m2,m3,m4)))
def uk:Option ((ag×waA×waF×waG)⊕(ag×waA×waF×waG)):=loop (fun(zz:Int×ag×waA×waF×waG)=>e9 name t9 t10 zz.1 zz.2.1 zz.2.2.1 zz.2.2.2.1 zz.2.2.2.2) (t11,m,m2,m3,m4)
theorem DY{y:(Int×ag×waA×waF×waG)⊕((ag×waA×waF×waG)⊕(ag×waA×waF×waG))}(h:e9 name t9 t10 t11 m m2 m3 m4=some y):aT Pg GE 0 (cA qb5 55) (LQ (fun(zz:Int×ag×waA×waF×waG)=>iY name t9 t10 zz.1 zz.2.1 zz.2.2.1 zz.2.2.2.1 zz.2.2.2.2) iZ gn y) (iY name t9 t10 t11 m m2 m3 m4):=by
 rcases aZ h with⟨c1,h⟩|⟨c1,h⟩
 ·obtain⟨x2,bx2,h⟩:=aB h
  have p4:=fun{sc F} (r:PS sc F)=>sg 0 c1<|sv (K4.ia (k:=.i64) bx2)<|sv (Wl x2)<|sx Yl<|sx (Gz x2)<|ss<|r
  rcases aZ h with⟨c3,h⟩|⟨c3,h⟩
  ·obtain rfl:=lf h
   have z:=p4<|sg 0 c3<|sv (Ur x2 [])<|sx (Gz x2)<|zn 0 (iZ (.inl (x2.Name,x2.Vars,x2.Preds,x2.Cons))) (gn (.inl (x2.Name,x2.Vars,x2.Preds,x2.Cons))) rfl (eg (aI (d6 rfl) (aI trivial trivial))) (aI trivial (aI (aI trivial (aI (up (aq gG x2.Vars)) (aI (up (aq lu x2.Preds)) (aI (up (aq EC x2.Cons)) trivial)))) trivial))
   exact Gx (A:=qaH) mixed (by intro hx;cases hx) z<|by kernel_rfl
  ·obtain rfl:=lf h
   have z:=p4<|sg 0 c3<|zn 0 .normal (iY name t9 t10 (aR (t11+1)) m m2 m3 m4) rfl (eg (aI trivial (aI (d6 rfl) (aI (up (aq wO t9)) (aI trivial (aI trivial trivial)))))) (aI trivial (aI (aI trivial (aI (up (aq gG m2)) (aI (up (aq lu m3)) (aI (up (aq EC m4)) trivial)))) trivial))
   exact dS (A:=qaH) mixed z<|by kernel_rfl
 ·obtain rfl:=lf h
  have z:=sg 0 c1<|eF (iZ (.inr (m,m2,m3,m4))) (gn (.inr (m,m2,m3,m4)))
  exact i7 qaH (by intro hx;cases hx) z<|by kernel_rfl
theorem vo{x:(ag×waA×waF×waG)⊕(ag×waA×waF×waG)}(h:uk name t9 t10 t11 m m2 m3 m4=some x):aT Pg GE 0 (.loop (cA qb5 55)) (EX (iZ x) (gn x)) (iY name t9 t10 t11 m m2 m3 m4):=
 aT.loop (S:=fun(zz:Int×ag×waA×waF×waG)=>iY name t9 t10 zz.1 zz.2.1 zz.2.2.1 zz.2.2.2.1 zz.2.2.2.2) (ex:=iZ) (s:=(t11,m,m2,m3,m4)) h fun zz y hy=>DY name t9 t10 zz.1 zz.2.1 zz.2.2.1 zz.2.2.2.1 zz.2.2.2.2 hy
end
def vj(m:aQ)(name:ag):Option (eS×Bool):=
 (uk name m.Datas (m.Datas.length:Int) 0 ([]:ag) ([]:List ag) ([]:List dh) ([]:List iu)).bind fun o5=>match o5 with
 |(.inl o5)=>
  some ((⟨o5.1,o5.2.1,o5.2.2.1,o5.2.2.2⟩:eS),true)
 |(.inr o5)=>
  some ((⟨([]:ag),([]:List ag),([]:List dh),([]:List iu)⟩:eS),false)
theorem K9{m:aQ}{name:ag}{r:eS×Bool}(h:vj m name=some r):CC Pg GE 79 [.agg (aC m),.str name] (.tuple [.agg (co r.1),.bool r.2]) []:=by
 obtain⟨o5,bo5,h⟩:=aB h
 rcases o5 with o5|o5
 ·obtain rfl:=lf h
  have z:=se (tX m)<|sx Yl<|sv (dw m)<|sv (dy m)<|cz (K4.ln m.Datas)<|di (e:=.ret) (s1:=gn (.inl o5)) (vo name m.Datas (m.Datas.length:Int) 0 ([]:ag) ([]:List ag) ([]:List dh) ([]:List iu) bo5)<|en (aI (vbr PVal.tuple (Hd (Nk (⟨o5.1,o5.2.1,o5.2.2.1,o5.2.2.2⟩:eS)) (Hd (rP (.bool true)) (rfl:([]:List PVal)=[]))))<|(aI (wO (⟨o5.1,o5.2.1,o5.2.2.1,o5.2.2.2⟩:eS)) (aI trivial trivial)))
  exact cn qaH call79 func79 (c:=qb5) rfl (aI (eW m) (aI trivial trivial)) z<|by kernel_rfl
 ·obtain rfl:=lf h
  have z:=se (tX m)<|sx Yl<|sv (dw m)<|sv (dy m)<|cz (K4.ln m.Datas)<|di (e:=.exit 0) (s1:=gn (.inr o5)) (vo name m.Datas (m.Datas.length:Int) 0 ([]:ag) ([]:List ag) ([]:List dh) ([]:List iu) bo5)<|sb (Rv) (Rq)<|sy (tO (⟨([]:ag),([]:List ag),([]:List dh),([]:List iu)⟩:eS))<|en (aI (vbr PVal.tuple (Hd (Nk (⟨([]:ag),([]:List ag),([]:List dh),([]:List iu)⟩:eS)) (Hd (rP (.bool false)) (rfl:([]:List PVal)=[]))))<|(aI (wO (⟨([]:ag),([]:List ag),([]:List dh),([]:List iu)⟩:eS)) (aI trivial trivial)))
  exact cn qaH call79 func79 (c:=qb5) rfl (aI (eW m) (aI trivial trivial)) z<|by kernel_rfl
noncomputable def qaV:Code:=f108.body.getD .skip
def qaw:List Nat:=[]
def gj(is:Bool):Option aa:=
 if is=true then
  some (⟨2,([]:ag),1,([]:List aa)⟩:aa)
 else
  some (⟨2,([]:ag),0,([]:List aa)⟩:aa)
theorem iV{is:Bool}{r:aa}(h:gj is=some r):CC Pg GE 108 [.bool is] (.agg (ac r)) [(3,36)]:=by
 rcases aZ h with⟨c1,h⟩|⟨c1,h⟩
 ·obtain rfl:=lf h
  have z:=sx lC<|sg 0 c1<|sb (ym 2 1) (yk 2 1)<|sy (aF (⟨2,([]:ag),1,([]:List aa)⟩:aa))<|en (aI (e8 (⟨2,([]:ag),1,([]:List aa)⟩:aa))<|aI (ah (⟨2,([]:ag),1,([]:List aa)⟩:aa))<|rT)
  exact cn qaw call108 func108 (c:=qaV) rfl (aI trivial trivial) z<|by kernel_rfl
 ·obtain rfl:=lf h
  have z:=sx lC<|sg 0 c1<|sb (JV 2) (JT 2)<|sy (aF (⟨2,([]:ag),0,([]:List aa)⟩:aa))<|en (aI (e8 (⟨2,([]:ag),0,([]:List aa)⟩:aa))<|aI (ah (⟨2,([]:ag),0,([]:List aa)⟩:aa))<|rT)
  exact cn qaw call108 func108 (c:=qaV) rfl (aI trivial trivial) z<|by kernel_rfl
noncomputable def qdh:Code:=f90.body.getD .skip
def qda:List Nat:=[]
def xj(p:aa):Option Bool:=
 (iU p (⟨0,([]:ag),0,([]:List aa)⟩:aa)).bind fun r1=>
 if r1=true then
  some true
 else
  (gj true).bind fun r4=>
  (iU p r4).bind fun r5=>
  some r5
theorem Fi{p:aa}{r:Bool}(h:xj p=some r):CC Pg GE 90 [.agg (ac p)] (.bool r) []:=by
 obtain⟨r1,br1,h⟩:=aB h
 have p3:=fun{sc F} (r:PS sc F)=>se (cr p)<|qX [0,0,3,7,15,15,63,127,255]<|sv (be p)<|sb (tH) (tF)<|bT (oN br1)<|r
 rcases aZ h with⟨c2,h⟩|⟨c2,h⟩
 ·obtain rfl:=lf h
  have z:=p3<|sg 4 c2<|en (aI (rP (.bool true))<|trivial)
  exact cn qda call90 func90 (c:=qdh) rfl (aI (ah p) trivial) z<|by kernel_rfl
 ·obtain⟨r4,br4,h⟩:=aB h
  obtain⟨r5,br5,h⟩:=aB h
  obtain rfl:=lf h
  have z:=p3<|sg 4 c2<|sv (be p)<|bT (iV br4)<|bT (oN br5)<|en (aI (rP (.bool r5))<|trivial)
  exact cn qda call90 func90 (c:=qdh) rfl (aI (ah p) trivial) z<|by kernel_rfl
noncomputable def qca:Code:=f97.body.getD .skip
def Zn:List Nat:=[25]
section
variable(t8:waB)(t9:Int)(v:Bool)(t10:Int)(m:Int)(m2:ag)(m3:Int)(m4:waB)(m5:Int)(m6:ag)(m7:Int)(m8:waB)
def io:az:=aY 33 [(2,.bptr 0 0),(3,.bptr 1 0),(4,.bool v),(8,sl ac t8),(9,.int .i64 t9),(10,.int .i64 t10)] [.cells [.int .i64 m,.str m2,.int .i64 m3,sl ac m4] [(3,36)],.cells [.int .i64 m5,.str m6,.int .i64 m7,sl ac m8] []] []
def mQ(o:(Int×ag×Int×waB×Int×ag×Int×waB)⊕(Int×ag×Int×waB×Int×ag×Int×waB)):Exit:=match o with
 |(.inl _)=>.ret
 |(.inr _)=>.exit 0
def j4(o:(Int×ag×Int×waB×Int×ag×Int×waB)⊕(Int×ag×Int×waB×Int×ag×Int×waB)):az:=match o with
 |(.inl o)=>aY 33 [(2,.bptr 0 0)] [.cells [.int .i64 o.1,.str o.2.1,.int .i64 o.2.2.1,sl ac o.2.2.2.1] [(3,36)],.cells [.int .i64 o.2.2.2.2.1,.str o.2.2.2.2.2.1,.int .i64 o.2.2.2.2.2.2.1,sl ac o.2.2.2.2.2.2.2] []] []
 |(.inr o)=>aY 33 [(2,.bptr 0 0),(3,.bptr 1 0)] [.cells [.int .i64 o.1,.str o.2.1,.int .i64 o.2.2.1,sl ac o.2.2.2.1] [(3,36)],.cells [.int .i64 o.2.2.2.2.1,.str o.2.2.2.2.2.1,.int .i64 o.2.2.2.2.2.2.1,sl ac o.2.2.2.2.2.2.2] []] []
def gi:Option ((Bool×Int×Int×ag×Int×waB×Int×ag×Int×waB)⊕((Int×ag×Int×waB×Int×ag×Int×waB)⊕(Int×ag×Int×waB×Int×ag×Int×waB))):=
 if (decide (t10 < t9)) = true then
  (cR t8 t10).bind fun x3=>
  (xj x3).bind fun r4=>
  if r4=true then
   some (.inl (v,aR (t10+1),m,m2,m3,m4,m5,m6,m7,m8))
  else
   (gj false).bind fun r7=>
   (iU x3 r7).bind fun r8=>
   if r8=true then
    (gj false).bind fun r11=>
    some (.inr (.inl (r11.Op,r11.Name,r11.N,r11.Kids,m5,m6,m7,m8)))
   else
    if v=true then
     (nQ x3).bind fun r14=>
     some (.inl (v,aR (t10+1),m,m2,m3,m4,15,([]:ag),0,([(⟨m5,m6,m7,m8⟩:aa),r14]:List aa)))
    else
     (nQ x3).bind fun r15=>
     some (.inl (true,aR (t10+1),m,m2,m3,m4,r15.Op,r15.Name,r15.N,r15.Kids))
 else
  some (.inr (.inr (m,m2,m3,m4,m5,m6,m7,m8)))
def Bf:Option ((Int×ag×Int×waB×Int×ag×Int×waB)⊕(Int×ag×Int×waB×Int×ag×Int×waB)):=loop (fun(zz:Bool×Int×Int×ag×Int×waB×Int×ag×Int×waB)=>gi t8 t9 zz.1 zz.2.1 zz.2.2.1 zz.2.2.2.1 zz.2.2.2.2.1 zz.2.2.2.2.2.1 zz.2.2.2.2.2.2.1 zz.2.2.2.2.2.2.2.1 zz.2.2.2.2.2.2.2.2.1 zz.2.2.2.2.2.2.2.2.2) (v,t10,m,m2,m3,m4,m5,m6,m7,m8)
theorem IA{y:(Bool×Int×Int×ag×Int×waB×Int×ag×Int×waB)⊕((Int×ag×Int×waB×Int×ag×Int×waB)⊕(Int×ag×Int×waB×Int×ag×Int×waB))}(h:gi t8 t9 v t10 m m2 m3 m4 m5 m6 m7 m8=some y):aT Pg GE 0 (cA qca 119) (LQ (fun(zz:Bool×Int×Int×ag×Int×waB×Int×ag×Int×waB)=>io t8 t9 zz.1 zz.2.1 zz.2.2.1 zz.2.2.2.1 zz.2.2.2.2.1 zz.2.2.2.2.2.1 zz.2.2.2.2.2.2.1 zz.2.2.2.2.2.2.2.1 zz.2.2.2.2.2.2.2.2.1 zz.2.2.2.2.2.2.2.2.2) mQ j4 y) (io t8 t9 v t10 m m2 m3 m4 m5 m6 m7 m8):=by
 rcases aZ h with⟨c2,h⟩|⟨c2,h⟩
 ·obtain⟨x3,bx3,h⟩:=aB h
  obtain⟨r4,br4,h⟩:=aB h
  have p6:=fun{sc F} (r:PS sc F)=>sg 0 c2<|sv (ck.ia (k:=.i64) bx3)<|sv (be x3)<|sx lC<|sx (dn x3)<|sv (cm x3 [])<|bT (Fi br4)<|r
  rcases aZ h with⟨c5,h⟩|⟨c5,h⟩
  ·obtain rfl:=lf h
   have z:=p6<|sg 0 c5<|zn 0 .normal (io t8 t9 v (aR (t10+1)) m m2 m3 m4 m5 m6 m7 m8) rfl (eg (aI (d6 rfl) (aI (d6 rfl) (aI trivial (aI (up (aq ah t8)) (aI trivial (aI trivial trivial))))))) (aI (aI trivial (aI trivial (aI trivial (aI (up (aq ah m4)) trivial)))) (aI (aI trivial (aI trivial (aI trivial (aI (up (aq ah m8)) trivial)))) trivial))
   exact dS (A:=Zn) mixed z<|by kernel_rfl
  ·obtain⟨r7,br7,h⟩:=aB h
   obtain⟨r8,br8,h⟩:=aB h
   have p10:=fun{sc F} (r:PS sc F)=>p6<|sg 0 c5<|qX [0,0,3,7]<|sv (cm x3 [])<|bT (iV br7)<|bT (oN br8)<|r
   rcases aZ h with⟨c9,h⟩|⟨c9,h⟩
   ·obtain⟨r11,br11,h⟩:=aB h
    obtain rfl:=lf h
    have z:=p10<|sg 0 c9<|bT (iV br11)<|sy (aF r11)<|zn 0 (mQ (.inl (r11.Op,r11.Name,r11.N,r11.Kids,m5,m6,m7,m8))) (j4 (.inl (r11.Op,r11.Name,r11.N,r11.Kids,m5,m6,m7,m8))) rfl (eg (aI (d6 rfl) trivial)) (aI (aI trivial (aI trivial (aI trivial (aI (up (aq ah r11.Kids)) trivial)))) (aI (aI trivial (aI trivial (aI trivial (aI (up (aq ah m8)) trivial)))) trivial))
    exact Gx (A:=Zn) mixed (by intro hx;cases hx) z<|by kernel_rfl
   ·have p13:=fun{sc F} (r:PS sc F)=>p10<|sg 0 c9<|r
    rcases aZ h with⟨c12,h⟩|⟨c12,h⟩
    ·obtain⟨r14,br14,h⟩:=aB h
     obtain rfl:=lf h
     have z:=p13<|sg 0 c12<|qX [0,0,2,7,15,31]<|sv (cm (⟨m5,m6,m7,m8⟩:aa) [])<|sv (cm x3 [])<|bT (oO br14)<|sv (ck.mk' (v:=fe) dl ([(⟨m5,m6,m7,m8⟩:aa),r14]:List aa) 2 (by kernel_rfl))<|sv (EA 15 ([(⟨m5,m6,m7,m8⟩:aa),r14]:List aa))<|sx (dn (⟨15,([]:ag),0,([(⟨m5,m6,m7,m8⟩:aa),r14]:List aa)⟩:aa))<|zn 0 .normal (io t8 t9 v (aR (t10+1)) m m2 m3 m4 15 ([]:ag) 0 ([(⟨m5,m6,m7,m8⟩:aa),r14]:List aa)) rfl (eg (aI (d6 rfl) (aI (d6 rfl) (aI trivial (aI (up (aq ah t8)) (aI trivial (aI trivial trivial))))))) (aI (aI trivial (aI trivial (aI trivial (aI (up (aq ah m4)) trivial)))) (aI (aI trivial (aI trivial (aI trivial (aI (up (aq ah ([(⟨m5,m6,m7,m8⟩:aa),r14]:List aa))) trivial)))) trivial))
     exact dS (A:=Zn) mixed z<|by kernel_rfl
    ·obtain⟨r15,br15,h⟩:=aB h
     obtain rfl:=lf h
     have z:=p13<|sg 0 c12<|sv (cm x3 [])<|bT (oO br15)<|sy (aF r15)<|zn 0 .normal (io t8 t9 true (aR (t10+1)) m m2 m3 m4 r15.Op r15.Name r15.N r15.Kids) rfl (eg (aI (d6 rfl) (aI (d6 rfl) (aI trivial (aI (up (aq ah t8)) (aI trivial (aI trivial trivial))))))) (aI (aI trivial (aI trivial (aI trivial (aI (up (aq ah m4)) trivial)))) (aI (aI trivial (aI trivial (aI trivial (aI (up (aq ah r15.Kids)) trivial)))) trivial))
     exact dS (A:=Zn) mixed z<|by kernel_rfl
 ·obtain rfl:=lf h
  have z:=sg 0 c2<|eF (mQ (.inr (m,m2,m3,m4,m5,m6,m7,m8))) (j4 (.inr (m,m2,m3,m4,m5,m6,m7,m8)))
  exact i7 Zn (by intro hx;cases hx) z<|by kernel_rfl
theorem Bg{x:(Int×ag×Int×waB×Int×ag×Int×waB)⊕(Int×ag×Int×waB×Int×ag×Int×waB)}(h:Bf t8 t9 v t10 m m2 m3 m4 m5 m6 m7 m8=some x):aT Pg GE 0 (.loop (cA qca 119)) (EX (mQ x) (j4 x)) (io t8 t9 v t10 m m2 m3 m4 m5 m6 m7 m8):=
 aT.loop (S:=fun(zz:Bool×Int×Int×ag×Int×waB×Int×ag×Int×waB)=>io t8 t9 zz.1 zz.2.1 zz.2.2.1 zz.2.2.2.1 zz.2.2.2.2.1 zz.2.2.2.2.2.1 zz.2.2.2.2.2.2.1 zz.2.2.2.2.2.2.2.1 zz.2.2.2.2.2.2.2.2.1 zz.2.2.2.2.2.2.2.2.2) (ex:=mQ) (s:=(v,t10,m,m2,m3,m4,m5,m6,m7,m8)) h fun zz y hy=>IA t8 t9 zz.1 zz.2.1 zz.2.2.1 zz.2.2.2.1 zz.2.2.2.2.1 zz.2.2.2.2.2.1 zz.2.2.2.2.2.2.1 zz.2.2.2.2.2.2.2.1 zz.2.2.2.2.2.2.2.2.1 zz.2.2.2.2.2.2.2.2.2 hy
end
def Fb(a:waB):Option aa:=
 (gj true).bind fun r1=>
 (Bf a (a.length:Int) false 0 0 ([]:ag) 0 ([]:List aa) r1.Op r1.Name r1.N r1.Kids).bind fun o16=>match o16 with
 |(.inl o16)=>
  some (⟨o16.1,o16.2.1,o16.2.2.1,o16.2.2.2.1⟩:aa)
 |(.inr o16)=>
  some (⟨o16.2.2.2.2.1,o16.2.2.2.2.2.1,o16.2.2.2.2.2.2.1,o16.2.2.2.2.2.2.2⟩:aa)
theorem QI{a:waB}{r:aa}(h:Fb a=some r):CC Pg GE 97 [sl ac a] (.agg (ac r)) []:=by
 obtain⟨r1,br1,h⟩:=aB h
 obtain⟨o16,bo16,h⟩:=aB h
 rcases o16 with o16|o16
 ·obtain rfl:=lf h
  have z:=sx lC<|bT (iV br1)<|sx lC<|sy (aF r1)<|cz (ck.ln a)<|di (e:=.ret) (s1:=j4 (.inl o16)) (Bg a (a.length:Int) false 0 0 ([]:ag) 0 ([]:List aa) r1.Op r1.Name r1.N r1.Kids bo16)<|en (aI (e8 (⟨o16.1,o16.2.1,o16.2.2.1,o16.2.2.2.1⟩:aa))<|(ah (⟨o16.1,o16.2.1,o16.2.2.1,o16.2.2.2.1⟩:aa)))
  exact cn Zn call97 func97 (c:=qca) rfl (aI (aq ah a) trivial) z<|by kernel_rfl
 ·obtain rfl:=lf h
  have z:=sx lC<|bT (iV br1)<|sx lC<|sy (aF r1)<|cz (ck.ln a)<|di (e:=.exit 0) (s1:=j4 (.inr o16)) (Bg a (a.length:Int) false 0 0 ([]:ag) 0 ([]:List aa) r1.Op r1.Name r1.N r1.Kids bo16)<|sv (cm (⟨o16.2.2.2.2.1,o16.2.2.2.2.2.1,o16.2.2.2.2.2.2.1,o16.2.2.2.2.2.2.2⟩:aa) [])<|sx (dn (⟨o16.2.2.2.2.1,o16.2.2.2.2.2.1,o16.2.2.2.2.2.2.1,o16.2.2.2.2.2.2.2⟩:aa))<|en (aI (e8 (⟨o16.2.2.2.2.1,o16.2.2.2.2.2.1,o16.2.2.2.2.2.2.1,o16.2.2.2.2.2.2.2⟩:aa))<|(ah (⟨o16.2.2.2.2.1,o16.2.2.2.2.2.1,o16.2.2.2.2.2.2.1,o16.2.2.2.2.2.2.2⟩:aa)))
  exact cn Zn call97 func97 (c:=qca) rfl (aI (aq ah a) trivial) z<|by kernel_rfl
noncomputable def qcD:Code:=f80.body.getD .skip
def qbR:List Nat:=[]
section
variable(v:waB)(i:Int)(v2:aa)(m:waB)
def IJ:az:=aY 26 [(0,sl ac v),(1,.int .i64 i),(5,.eptr (ac v2)),(6,.bptr 1 0)] [.dead,.cells [.int .i64 0,.str ([]:ag),.int .i64 0,sl ac m] [(3,36)]] []
def rM(o:Bool):az:=aY 26 [(0,sl ac v),(1,.int .i64 i),(5,.eptr (ac v2)),(6,.bptr 1 0),(18,.bool o)] [.dead,.cells [.int .i64 0,.str ([]:ag),.int .i64 0,sl ac m] [(3,36)]] []
def wu:Option Bool:=
 if(decide (i>=(v.length:Int)))=true then
  some true
 else
  (cR v i).bind fun x2=>
  (iU x2 (⟨0,([]:ag),0,([]:List aa)⟩:aa)).bind fun r3=>
  some r3
theorem GW{x:Bool}(h:wu v i=some x):aT Pg GE 0 (cA qcD 12) (EX .normal (rM v i v2 m x)) (IJ v i v2 m):=by
 rcases aZ h with⟨c1,h⟩|⟨c1,h⟩
 ·obtain rfl:=lf h
  exact cw qbR (cz (ck.ln v)<|sg 5 c1<|eF .normal (rM v i v2 m true))<|by kernel_rfl
 ·obtain⟨x2,bx2,h⟩:=aB h
  obtain⟨r3,br3,h⟩:=aB h
  obtain rfl:=lf h
  exact cw qbR (cz (ck.ln v)<|sg 5 c1<|sv (ck.ia (k:=.i64) bx2)<|sv (be x2)<|sb (tH) (tF)<|bT (oN br3)<|eF .normal (rM v i v2 m r3))<|by kernel_rfl
end
def uh(a:waB)(i:Int)(a2:aa):Option aa:=
 (wu a i).bind fun o4=>
 if o4=true then
  (Fb ([]:List aa)).bind fun r7=>
  some r7
 else
  (cR a i).bind fun x8=>
  (ub x8 ([118]:ag) a2).bind fun r9=>
  some r9
theorem CX{a:waB}{i:Int}{a2:aa}{r:aa}(h:uh a i a2=some r):CC Pg GE 80 [sl ac a,.int .i64 i,.agg (ac a2)] (.agg (ac r)) []:=by
 obtain⟨o4,bo4,h⟩:=aB h
 have p6:=fun{sc F} (r:PS sc F)=>se (cr a2)<|sx lC<|nD 1<|di (GW a i a2 ([]:List aa) bo4)<|r
 rcases aZ h with⟨c5,h⟩|⟨c5,h⟩
 ·obtain⟨r7,br7,h⟩:=aB h
  obtain rfl:=lf h
  have z:=p6<|sg 0 c5<|bT (QI br7)<|sx (dn r7)<|en (aI (e8 r7)<|(ah r7))
  exact cn qbR call80 func80 (c:=qcD) rfl (aI (aq ah a) (aI trivial (aI (ah a2) trivial))) z<|by kernel_rfl
 ·obtain⟨x8,bx8,h⟩:=aB h
  obtain⟨r9,br9,h⟩:=aB h
  obtain rfl:=lf h
  have z:=p6<|sg 0 c5<|qX [0,0,3,7,0,31,63]<|sv (ck.ia (k:=.i64) bx8)<|sv (be x8)<|sv (be a2)<|bT (CW br9)<|Yw (dn r9)<|en (aI (e8 r9)<|(ah r9))
  exact cn qbR call80 func80 (c:=qcD) rfl (aI (aq ah a) (aI trivial (aI (ah a2) trivial))) z<|by kernel_rfl
noncomputable def qb2:Code:=f53.body.getD .skip
def qbQ:List Nat:=[55,58]
section
variable(w:aO)(v:ae)(v2:ae)(name:ag)(t51:waF)(t52:Int)(m:waB)(m2:waD)(m3:ag)(m4:waA)(m5:waG)(v3:waD)(t53:Int)
def dN:az:=aY 82 [(4,.eptr (aM w)),(5,.eptr (af v)),(6,.eptr (af v2)),(8,.bptr 3 0),(9,.str name),(10,.bptr 4 0),(13,sl ax v3),(51,sl bE t51),(52,.int .i64 t52),(53,.int .i64 t53)] [.dead,.dead,.dead,.cells [.int .i64 0,.str ([]:ag),.str ([]:ag),.int .i64 0,.str ([]:ag),.int .i64 0,sl ac m,.int .i64 0,sl ax m2] [(6,36),(8,50)],.cells [.int .i64 3,.str name,.int .i64 0,sl ac m] [(3,36)],.cells [.str m3,sl cS m4,sl bE t51,sl ef m5] []] [((13,0),50)]
def ir(o:waD):az:=aY 82 [(8,.bptr 3 0),(13,sl ax o)] [.dead,.dead,.dead,.cells [.int .i64 0,.str ([]:ag),.str ([]:ag),.int .i64 0,.str ([]:ag),.int .i64 0,sl ac m,.int .i64 0,sl ax m2] [(6,36),(8,50)],.cells [.int .i64 3,.str name,.int .i64 0,sl ac m] [(3,36)],.cells [.str m3,sl cS m4,sl bE t51,sl ef m5] []] [((13,0),50)]
def dg:Option ((waD×Int)⊕(waD)):=
 if(decide (t53<t52))=true then
  (cR t51 t53).bind fun x11=>
  (uh v.Preds t53 (⟨3,name,0,m⟩:aa)).bind fun r12=>
  (uh v2.Preds t53 (⟨3,name,0,m⟩:aa)).bind fun r13=>
  (eB w name x11.Sort_ r12 r13).bind fun r14=>
  (app v3 ([r14]:List ak)).bind fun l15=>
  some (.inl (l15,aR (t53+1)))
 else
  some (.inr v3)
def jl:Option waD:=loop (fun(zz:waD×Int)=>dg w v v2 name t51 t52 m zz.1 zz.2) (v3,t53)
theorem ui{y:(waD×Int)⊕(waD)}(h:dg w v v2 name t51 t52 m v3 t53=some y):aT Pg GE 0 (cA qb2 16215) (LQ (fun(zz:waD×Int)=>dN w v v2 name t51 t52 m m2 m3 m4 m5 zz.1 zz.2) (fun _=>.exit 0) (ir name t51 m m2 m3 m4 m5) y) (dN w v v2 name t51 t52 m m2 m3 m4 m5 v3 t53):=by
 rcases aZ h with⟨c10,h⟩|⟨c10,h⟩
 ·obtain⟨x11,bx11,h⟩:=aB h
  obtain⟨r12,br12,h⟩:=aB h
  obtain⟨r13,br13,h⟩:=aB h
  obtain⟨r14,br14,h⟩:=aB h
  obtain⟨l15,bl15,h⟩:=aB h
  obtain rfl:=lf h
  have z:=sg 0 c10<|sv (GT.ia (k:=.i64) bx11)<|sv (X1 x11)<|sx qbz<|sx (WE x11)<|qX [0,0,0,0,8,0,32,0,0,480,0,1024,0,0,16352,32766,65534,131071,262143]<|sv (eo w)<|ss<|sv (dJ v)<|sv (dM v)<|sv (cm (⟨3,name,0,m⟩:aa) [])<|bT (CX br12)<|sv (dJ v2)<|sv (dM v2)<|sv (cm (⟨3,name,0,m⟩:aa) [])<|bT (CX br13)<|bT (lH br14)<|sv (wt.mk' (v:=vq) pM ([r14]:List ak) 1 (by kernel_rfl))<|sv (wt.ap bl15)<|zn 0 .normal (dN w v v2 name t51 t52 m m2 m3 m4 m5 l15 (aR (t53+1))) rfl (eg (aI (oA (cK w)) (aI (oA (av v)) (aI (oA (av v2)) (aI (d6 rfl) (aI trivial (aI (d6 rfl) (aI (up (aq bA l15)) (aI (up (aq lu t51)) (aI trivial (aI trivial trivial))))))))))) (aI trivial (aI trivial (aI trivial (aI (aI trivial (aI trivial (aI trivial (aI trivial (aI trivial (aI trivial (aI (up (aq ah m)) (aI trivial (aI (up (aq bA m2)) trivial))))))))) (aI (aI trivial (aI trivial (aI trivial (aI (up (aq ah m)) trivial)))) (aI (aI trivial (aI (up (aq gG m4)) (aI (up (aq lu t51)) (aI (up (aq EC m5)) trivial)))) trivial))))))
  exact dS (A:=qbQ) mixed z<|by kernel_rfl
 ·obtain rfl:=lf h
  have z:=sg 0 c10<|eF (.exit 0) (ir name t51 m m2 m3 m4 m5 v3)
  exact i7 qbQ (by intro hx;cases hx) z<|by kernel_rfl
theorem ut{x:waD}(h:jl w v v2 name t51 t52 m v3 t53=some x):aT Pg GE 0 (.loop (cA qb2 16215)) (EX (.exit 0) (ir name t51 m m2 m3 m4 m5 x)) (dN w v v2 name t51 t52 m m2 m3 m4 m5 v3 t53):=
 aT.loop (S:=fun(zz:waD×Int)=>dN w v v2 name t51 t52 m m2 m3 m4 m5 zz.1 zz.2) (ex:=(fun _=>.exit 0)) (s:=(v3,t53)) h fun zz y hy=>ui w v v2 name t51 t52 m m2 m3 m4 m5 zz.1 zz.2 hy
end
def iz(w:aO)(a:ae)(a2:ae)(used:waA):Option ak:=
 (kO used ([118,49]:ag)).bind fun r1=>
 (vp a).bind fun r2=>
 (B3 r2).bind fun r3=>
 (pS a (⟨3,r1,0,([]:List aa)⟩:aa)).bind fun r4=>
 (pS a2 (⟨3,r1,0,([]:List aa)⟩:aa)).bind fun r5=>
 (eB w r1 r3.1 r4 r5).bind fun r6=>
 if(a.Op==4)=true then
  (vj w.m a.Name).bind fun r9=>
  (jl w a a2 r1 r9.1.Preds (r9.1.Preds.length:Int) ([]:List aa) ([r6]:List ak) 0).bind fun o16=>
  (oB o16).bind fun r17=>
  some r17
 else
  (cR ([r6]:List ak) 0).bind fun x18=>
  some x18
theorem yP{w:aO}{a:ae}{a2:ae}{used:waA}{r:ak}(h:iz w a a2 used=some r):CC Pg GE 53 [.agg (aM w),.agg (af a),.agg (af a2),sl cS used] (.agg (ax r)) []:=by
 obtain⟨r1,br1,h⟩:=aB h
 obtain⟨r2,br2,h⟩:=aB h
 obtain⟨r3,br3,h⟩:=aB h
 obtain⟨r4,br4,h⟩:=aB h
 obtain⟨r5,br5,h⟩:=aB h
 obtain⟨r6,br6,h⟩:=aB h
 have p8:=fun{sc F} (r:PS sc F)=>se (g8 w)<|se (cF a)<|se (cF a2)<|sx zq<|bT (tV br1)<|sb (ou 3 r1) (oq 3 r1)<|sx lC<|sy (aF (⟨3,r1,0,([]:List aa)⟩:aa))<|sv (bw a)<|bT (Bv br2)<|bT (K8 br3)<|qX [0,0,0,0,0,24,0,0,248,511,1023,2047]<|sv (eo w)<|sv (bw a)<|sv (cm (⟨3,r1,0,([]:List aa)⟩:aa) [])<|bT (ws br4)<|sv (bw a2)<|sv (cm (⟨3,r1,0,([]:List aa)⟩:aa) [])<|bT (ws br5)<|bT (lH br6)<|sv (wt.mk' (v:=vq) pM ([r6]:List ak) 1 (by kernel_rfl))<|sv (aK a)<|sv (aL a)<|r
 rcases aZ h with⟨c7,h⟩|⟨c7,h⟩
 ·obtain⟨r9,br9,h⟩:=aB h
  obtain⟨o16,bo16,h⟩:=aB h
  obtain⟨r17,br17,h⟩:=aB h
  obtain rfl:=lf h
  have z:=p8<|sg 0 c7<|sv (wU w)<|sv (yA w)<|sv (df a)<|sv (dA a)<|bT (K9 br9)<|sx Yl<|sx (Gz r9.1)<|ss<|cz (GT.ln r9.1.Preds)<|di (ut w a a2 r1 r9.1.Preds (r9.1.Preds.length:Int) ([]:List aa) ([]:List ak) r9.1.Name r9.1.Vars r9.1.Cons ([r6]:List ak) 0 bo16)<|bT (uQ br17)<|sy (cE r17)<|en (aI (e7 r17)<|(bA r17))
  exact cn qbQ call53 func53 (c:=qb2) rfl (aI (cK w) (aI (av a) (aI (av a2) (aI (aq gG used) trivial)))) z<|by kernel_rfl
 ·obtain⟨x18,bx18,h⟩:=aB h
  obtain rfl:=lf h
  have z:=p8<|sg 0 c7<|sv (wt.ia (k:=.i64) bx18)<|sv (oJ x18)<|sx (dG x18)<|en (aI (e7 x18)<|(bA x18))
  exact cn qbQ call53 func53 (c:=qb2) rfl (aI (cK w) (aI (av a) (aI (av a2) (aI (aq gG used) trivial)))) z<|by kernel_rfl
noncomputable def qbY:Code:=f35.body.getD .skip
def qbO:List Nat:=[]
def ib(R51:du)(w:aO)(a:ae)(a2:ae)(used:waA):Option ak:=
 if(a.Op==6)=true then
  if((a.Args.length:Int)==0)=true then
   some (⟨1,([]:ag),([]:ag),(⟨0,([]:ag),0,([]:List aa)⟩:aa),0,([]:List ak)⟩:ak)
  else
   (fH R51 w a a2 used).bind fun r5=>
   some r5
 else
  (jk a).bind fun r6=>
  if(!r6)=true then
   some (⟨1,([]:ag),([]:ag),(⟨0,([]:ag),0,([]:List aa)⟩:aa),0,([]:List ak)⟩:ak)
  else
   (iz w a a2 used).bind fun r9=>
   some r9
theorem yR(R51:du)(hR51:gU R51){w:aO}{a:ae}{a2:ae}{used:waA}{r:ak}(h:ib R51 w a a2 used=some r):CC Pg GE 35 [.agg (aM w),.agg (af a),.agg (af a2),sl cS used] (.agg (ax r)) []:=by
 have p2:=fun{sc F} (r:PS sc F)=>se (g8 w)<|se (cF a)<|se (cF a2)<|sx zq<|sv (eo w)<|sv (aK a)<|sv (aL a)<|r
 rcases aZ h with⟨c1,h⟩|⟨c1,h⟩
 ·have p4:=fun{sc F} (r:PS sc F)=>p2<|sg 0 c1<|sv (aW a)<|sv (aX a)<|cz (cX.ln a.Args)<|r
  rcases aZ h with⟨c3,h⟩|⟨c3,h⟩
  ·obtain rfl:=lf h
   have z:=p4<|sg 0 c3<|sb (Dm 1) (Dk 1)<|sy (cE (⟨1,([]:ag),([]:ag),(⟨0,([]:ag),0,([]:List aa)⟩:aa),0,([]:List ak)⟩:ak))<|en (aI (e7 (⟨1,([]:ag),([]:ag),(⟨0,([]:ag),0,([]:List aa)⟩:aa),0,([]:List ak)⟩:ak))<|(bA (⟨1,([]:ag),([]:ag),(⟨0,([]:ag),0,([]:List aa)⟩:aa),0,([]:List ak)⟩:ak)))
   exact cn qbO call35 func35 (c:=qbY) rfl (aI (cK w) (aI (av a) (aI (av a2) (aI (aq gG used) trivial)))) z<|by kernel_rfl
  ·obtain⟨r5,br5,h⟩:=aB h
   obtain rfl:=lf h
   have z:=p4<|sg 0 c3<|sv (eo w)<|sv (bw a)<|sv (bw a2)<|bT (uj R51 hR51 br5)<|sx (dG r5)<|en (aI (e7 r5)<|(bA r5))
   exact cn qbO call35 func35 (c:=qbY) rfl (aI (cK w) (aI (av a) (aI (av a2) (aI (aq gG used) trivial)))) z<|by kernel_rfl
 ·obtain⟨r6,br6,h⟩:=aB h
  have p8:=fun{sc F} (r:PS sc F)=>p2<|sg 0 c1<|sv (bw a)<|bT (nh br6)<|r
  rcases aZ h with⟨c7,h⟩|⟨c7,h⟩
  ·obtain rfl:=lf h
   have z:=p8<|sg 0 c7<|sb (Dm 1) (Dk 1)<|sy (cE (⟨1,([]:ag),([]:ag),(⟨0,([]:ag),0,([]:List aa)⟩:aa),0,([]:List ak)⟩:ak))<|en (aI (e7 (⟨1,([]:ag),([]:ag),(⟨0,([]:ag),0,([]:List aa)⟩:aa),0,([]:List ak)⟩:ak))<|(bA (⟨1,([]:ag),([]:ag),(⟨0,([]:ag),0,([]:List aa)⟩:aa),0,([]:List ak)⟩:ak)))
   exact cn qbO call35 func35 (c:=qbY) rfl (aI (cK w) (aI (av a) (aI (av a2) (aI (aq gG used) trivial)))) z<|by kernel_rfl
  ·obtain⟨r9,br9,h⟩:=aB h
   obtain rfl:=lf h
   have z:=p8<|sg 0 c7<|sv (bw a)<|sv (bw a2)<|bT (yP br9)<|sx (dG r9)<|en (aI (e7 r9)<|(bA r9))
   exact cn qbO call35 func35 (c:=qbY) rfl (aI (cK w) (aI (av a) (aI (av a2) (aI (aq gG used) trivial)))) z<|by kernel_rfl
def kX:((aO×ae×ae×waA)->Option ak)->(aO×ae×ae×waA)->Option ak:=fun(rec:(aO×ae×ae×waA)->Option ak) (x:aO×ae×ae×waA)=>ib (fun w a a2 used=>rec (w,a,a2,used)) x.1 x.2.1 x.2.2.1 x.2.2.2
def nE(w:aO)(a:ae)(a2:ae)(used:waA):Option ak:=oG kX (w,a,a2,used)
theorem zu{w:aO}{a:ae}{a2:ae}{used:waA}{r:ak}(h:nE w a a2 used=some r):CC Pg GE 35 [.agg (aM w),.agg (af a),.agg (af a2),sl cS used] (.agg (ax r)) []:=
 cU (F:=kX) (M:=fun(x:aO×ae×ae×waA) (r:ak)=>CC Pg GE 35 [.agg (aM x.1),.agg (af x.2.1),.agg (af x.2.2.1),sl cS x.2.2.2] (.agg (ax r)) []) (fun rec hrec x r h=>yR _ (fun w a a2 used r h=>hrec (w,a,a2,used) r h) h) h
noncomputable def qdd:Code:=f12.body.getD .skip
def qc6:List Nat:=[]
def kW(m:aQ)(a:ae)(a2:ae)(tag:Int)(used:waA):Option (ak×Int):=
 (D1 a a2).bind fun r1=>
 if(!r1)=true then
  some ((⟨0,([]:ag),([]:ag),(⟨0,([]:ag),0,([]:List aa)⟩:aa),0,([]:List ak)⟩:ak),12)
 else
  (nE (⟨m,tag⟩:aO) a a2 used).bind fun r4=>
  some (r4,0)
theorem o8{m:aQ}{a:ae}{a2:ae}{tag:Int}{used:waA}{r:ak×Int}(h:kW m a a2 tag used=some r):CC Pg GE 12 [.agg (aC m),.agg (af a),.agg (af a2),.int .i64 tag,sl cS used] (.tuple [.agg (ax r.1),.int .i64 r.2]) []:=by
 obtain⟨r1,br1,h⟩:=aB h
 have p3:=fun{sc F} (r:PS sc F)=>se (tX m)<|se (cF a)<|se (cF a2)<|sx zq<|sv (bw a)<|sv (bw a2)<|bT (Mr br1)<|r
 rcases aZ h with⟨c2,h⟩|⟨c2,h⟩
 ·obtain rfl:=lf h
  have z:=p3<|sg 0 c2<|sb (Ru) (Rp)<|sy (cE (⟨0,([]:ag),([]:ag),(⟨0,([]:ag),0,([]:List aa)⟩:aa),0,([]:List ak)⟩:ak))<|en (aI (vbr PVal.tuple (Hd (e7 (⟨0,([]:ag),([]:ag),(⟨0,([]:ag),0,([]:List aa)⟩:aa),0,([]:List ak)⟩:ak)) (Hd (rP (.int .i64 12)) (rfl:([]:List PVal)=[]))))<|(aI (bA (⟨0,([]:ag),([]:ag),(⟨0,([]:ag),0,([]:List aa)⟩:aa),0,([]:List ak)⟩:ak)) (aI trivial trivial)))
  exact cn qc6 call12 func12 (c:=qdd) rfl (aI (eW m) (aI (av a) (aI (av a2) (aI trivial (aI (aq gG used) trivial))))) z<|by kernel_rfl
 ·obtain⟨r4,br4,h⟩:=aB h
  obtain rfl:=lf h
  have z:=p3<|sg 0 c2<|sv (DB m)<|sv (zf m tag)<|sv (bw a)<|sv (bw a2)<|bT (zu br4)<|sx (dG r4)<|en (aI (vbr PVal.tuple (Hd (e7 r4) (Hd (rP (.int .i64 0)) (rfl:([]:List PVal)=[]))))<|(aI (bA r4) (aI trivial trivial)))
  exact cn qc6 call12 func12 (c:=qdd) rfl (aI (eW m) (aI (av a) (aI (av a2) (aI trivial (aI (aq gG used) trivial))))) z<|by kernel_rfl
abbrev kb:=(ak->aE->waE->Option waE)
abbrev nY(R:kb):Prop:=∀(c:ak) (above:aE) (a:waE) (r:waE),R c above a=some r->C Pg GE 41 [.agg (ax c),.agg (aN above),sl aN a] [((2,0),62)] [] (sl aN r) [(0,62)] []
abbrev ye:=(aa->Option waB)
abbrev ND(R:ye):Prop:=∀(p:aa) (r:waB),R p=some r->CC Pg GE 63 [.agg (ac p)] (sl ac r) [(0,36)]
noncomputable def qb3:Code:=f63.body.getD .skip
def qaF:List Nat:=[]
section
variable(p:aa)
def IB:az:=aY 28 [(1,.eptr (ac p))] [.dead] []
def rD(o:Bool):az:=aY 28 [(1,.eptr (ac p)),(11,.bool o)] [.dead] []
def CU:Option Bool:=
 if(p.Op==15)=true then
  some ((p.Kids.length:Int)==2)
 else
  some false
theorem GI{x:Bool}(h:CU p=some x):aT Pg GE 0 (cA qb3 12) (EX .normal (rD p x)) (IB p):=by
 have p2:=fun{sc F} (r:PS sc F)=>sv (bC p)<|sv (bD p)<|r
 rcases aZ h with⟨c1,h⟩|⟨c1,h⟩
 ·obtain rfl:=lf h
  exact cw qaF (p2<|sg 4 c1<|sv (bq p)<|sv (bu p)<|cz (ck.ln p.Kids)<|eF .normal (rD p ((p.Kids.length:Int)==2)))<|by kernel_rfl
 ·obtain rfl:=lf h
  exact cw qaF (p2<|sg 4 c1<|eF .normal (rD p false))<|by kernel_rfl
end
def Fd(R93:ye)(p:aa):Option waB:=
 (CU p).bind fun o3=>
 if o3=true then
  (cR p.Kids 0).bind fun x6=>
  (R93 x6).bind fun r7=>
  (cR p.Kids 1).bind fun x8=>
  (R93 x8).bind fun r9=>
  (app r7 r9).bind fun l10=>
  some l10
 else
  (xj p).bind fun r11=>
  if r11=true then
   some ([]:List aa)
  else
   (nQ p).bind fun r14=>
   some ([r14]:List aa)
theorem KX(R93:ye)(hR93:ND R93){p:aa}{r:waB}(h:Fd R93 p=some r):CC Pg GE 63 [.agg (ac p)] (sl ac r) [(0,36)]:=by
 obtain⟨o3,bo3,h⟩:=aB h
 have p5:=fun{sc F} (r:PS sc F)=>se (cr p)<|nD 1<|di (GI p bo3)<|r
 rcases aZ h with⟨c4,h⟩|⟨c4,h⟩
 ·obtain⟨x6,bx6,h⟩:=aB h
  obtain⟨r7,br7,h⟩:=aB h
  obtain⟨x8,bx8,h⟩:=aB h
  obtain⟨r9,br9,h⟩:=aB h
  obtain⟨l10,bl10,h⟩:=aB h
  obtain rfl:=lf h
  have z:=p5<|sg 0 c4<|qX [0,1,3,7,15,0,32,96,224,511,1023,2047]<|sv (bq p)<|sv (bu p)<|sv (ck.ia (k:=.i64) bx6)<|sv (be x6)<|bT (hR93 _ _ br7)<|sv (bq p)<|sv (bu p)<|sv (ck.ia (k:=.i64) bx8)<|sv (be x8)<|bT (hR93 _ _ br9)<|sv (ck.ap bl10)<|en (aI (rP (sl ac l10))<|(aq ah l10))
  exact cn qaF call63 func63 (c:=qb3) rfl (aI (ah p) trivial) z<|by kernel_rfl
 ·obtain⟨r11,br11,h⟩:=aB h
  have p13:=fun{sc F} (r:PS sc F)=>p5<|sg 0 c4<|sv (be p)<|bT (Fi br11)<|r
  rcases aZ h with⟨c12,h⟩|⟨c12,h⟩
  ·obtain rfl:=lf h
   have z:=p13<|sg 0 c12<|en (aI (rP (sl ac ([]:List aa)))<|(aq ah ([]:List aa)))
   exact cn qaF call63 func63 (c:=qb3) rfl (aI (ah p) trivial) z<|by kernel_rfl
  ·obtain⟨r14,br14,h⟩:=aB h
   obtain rfl:=lf h
   have z:=p13<|sg 0 c12<|sv (be p)<|bT (oO br14)<|sv (ck.mk' (v:=fe) dl ([r14]:List aa) 1 (by kernel_rfl))<|en (aI (rP (sl ac ([r14]:List aa)))<|(aq ah ([r14]:List aa)))
   exact cn qaF call63 func63 (c:=qb3) rfl (aI (ah p) trivial) z<|by kernel_rfl
def Fe:(aa->Option waB)->(aa)->Option waB:=fun(rec:aa->Option waB) (x:aa)=>Fd (fun p=>rec p) x
def DN(p:aa):Option waB:=oG Fe p
theorem CV{p:aa}{r:waB}(h:DN p=some r):CC Pg GE 63 [.agg (ac p)] (sl ac r) [(0,36)]:=
 cU (F:=Fe) (M:=fun(x:aa) (r:waB)=>CC Pg GE 63 [.agg (ac x)] (sl ac r) [(0,36)]) (fun rec hrec x r h=>KX _ (fun p r h=>hrec p r h) h) h
end Go.Proofs.YtbaamopmfmpfaaaGreatDoor
