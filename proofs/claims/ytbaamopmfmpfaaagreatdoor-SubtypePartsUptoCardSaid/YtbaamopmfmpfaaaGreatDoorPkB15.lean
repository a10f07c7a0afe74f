/- PROVED: a part of the proof. Conditions: none. -/
import Derived.Test.YtbaamopmfmpfaaaGreatDoorPkB14
noncomputable section
namespace Go.Proofs.YtbaamopmfmpfaaaGreatDoor
open Go Go.Proofs.Tryz
set_option linter.unusedVariables false
set_option maxRecDepth 100000
noncomputable def qcK:Code:=f110.body.getD .skip
def qaN:List Nat:=[17]
section
variable(R78:qq)(v:waB)(v2:waB)(t14:Int)(t15:Int)
def kS:aC:=be 30 [(0,sl ac v),(1,sl ac v2),(2,.func (.func 93) [] []),(14,.int .i64 t14),(15,.int .i64 t15)] [] []
def kU(o:Unit⊕(Unit)):Exit:=match o with
 |(.inl _)=>.ret
 |(.inr _)=>.exit 0
def iQ(o:Unit⊕(Unit)):aC:=match o with
 |(.inl o)=>be 30 [(6,.bool false)] [] []
 |(.inr o)=>be 30 [] [] []
def kT:Option (Int⊕(Unit⊕(Unit))):=
 if(decide (t15<t14))=true then
  (cz v t15).bind fun x4=>
  (cz v2 t15).bind fun x5=>
  (R78 x4 x5).bind fun r6=>
  if(!r6)=true then
   some (.inr (.inl ()))
  else
   some (.inl (aS (t15+1)))
 else
  some (.inr (.inr ()))
def Al:Option (Unit⊕(Unit)):=loop (fun(zz:Int)=>kT R78 v v2 t14 zz) t15
theorem KP(hR78:yz R78){y:Int⊕(Unit⊕(Unit))}(h:kT R78 v v2 t14 t15=some y):aV Pg GE 0 (cA qcK 119) (LQ (fun(zz:Int)=>kS v v2 t14 zz) kU iQ y) (kS v v2 t14 t15):=by
 rcases bj h with⟨c3,h⟩|⟨c3,h⟩
 ·obtain⟨x4,bx4,h⟩:=ay h
  obtain⟨x5,bx5,h⟩:=ay h
  obtain⟨r6,br6,h⟩:=ay h
  have p8:=fun{sc F} (r:PS sc F)=>sg 0 c3<|lK [0,0,0,6,14,0,0,96,224,511,1023]<|sv (bL.ia (k:=.i64) bx4)<|sv (bh x4)<|sv (bL.ia (k:=.i64) bx5)<|sv (bh x5)<|bz (hR78 _ _ _ br6)<|r
  rcases bj h with⟨c7,h⟩|⟨c7,h⟩
  ·obtain rfl:=lf h
   have z:=p8<|sg 0 c7<|eF (kU (.inl ())) (iQ (.inl ()))
   exact gg qaN (by intro hx;cases hx) z<|by kernel_rfl
  ·obtain rfl:=lf h
   exact oo qaN (p8<|sg 0 c7<|eF .normal (kS v v2 t14 (aS (t15+1))))<|by kernel_rfl
 ·obtain rfl:=lf h
  have z:=sg 0 c3<|eF (kU (.inr ())) (iQ (.inr ()))
  exact gg qaN (by intro hx;cases hx) z<|by kernel_rfl
theorem Bb(hR78:yz R78){x:Unit⊕(Unit)}(h:Al R78 v v2 t14 t15=some x):aV Pg GE 0 (.loop (cA qcK 119)) (EX (kU x) (iQ x)) (kS v v2 t14 t15):=
 aV.loop (S:=fun(zz:Int)=>kS v v2 t14 zz) (ex:=kU) (s:=t15) h fun zz y hy=>KP R78 v v2 t14 zz hR78 hy
end
def CR(R78:qq)(a:waB)(a2:waB):Option Bool:=
 if((a.length:Int)!=(a2.length:Int))=true then
  some false
 else
  (Al R78 a a2 (a.length:Int) 0).bind fun o9=>match o9 with
  |(.inl o9)=>
   some false
  |(.inr o9)=>
   some true
theorem S5(R78:qq)(hR78:yz R78){a:waB}{a2:waB}{r:Bool}(h:CR R78 a a2=some r):CC Pg GE 110 [sl ac a,sl ac a2,.func (.func 93) [] []] (.bool r) []:=by
 have p2:=fun{sc F} (r:PS sc F)=>cq (bL.ln a)<|cq (bL.ln a2)<|r
 rcases bj h with⟨c1,h⟩|⟨c1,h⟩
 ·obtain rfl:=lf h
  have z:=p2<|sg 0 c1<|en (aI (rP (.bool false))<|trivial)
  exact bO qaN call110 func110 (c:=qcK) rfl (aI (aj ah a) (aI (aj ah a2) (aI (aI trivial trivial) trivial))) z<|by kernel_rfl
 ·obtain⟨o9,bo9,h⟩:=ay h
  rcases o9 with o9|o9
  ·obtain rfl:=lf h
   have z:=p2<|sg 0 c1<|cq (bL.ln a)<|cY (e:=.ret) (s1:=iQ (.inl o9)) (Bb R78 a a2 (a.length:Int) 0 hR78 bo9)<|en (aI (rP (.bool false))<|trivial)
   exact bO qaN call110 func110 (c:=qcK) rfl (aI (aj ah a) (aI (aj ah a2) (aI (aI trivial trivial) trivial))) z<|by kernel_rfl
  ·obtain rfl:=lf h
   have z:=p2<|sg 0 c1<|cq (bL.ln a)<|cY (e:=.exit 0) (s1:=iQ (.inr o9)) (Bb R78 a a2 (a.length:Int) 0 hR78 bo9)<|en (aI (rP (.bool true))<|trivial)
   exact bO qaN call110 func110 (c:=qcK) rfl (aI (aj ah a) (aI (aj ah a2) (aI (aI trivial trivial) trivial))) z<|by kernel_rfl
noncomputable def qjK:Code:=f93.body.getD .skip
def qjr:List Nat:=[]
def zg(R78:qq)(a:aa)(a2:aa):Option Bool:=
 if (a.Op == a2.Op) = true then
  if(a.Name==a2.Name)=true then
   if(a.N==a2.N)=true then
    (CR R78 a.Kids a2.Kids).bind fun r7=>
    some r7
   else
    some false
  else
   some false
 else
  some false
theorem S4(R78:qq)(hR78:yz R78){a:aa}{a2:aa}{r:Bool}(h:zg R78 a a2=some r):CC Pg GE 93 [.agg (ac a),.agg (ac a2)] (.bool r) []:=by
 have p2:=fun{sc F} (r:PS sc F)=>se (bU a)<|se (bU a2)<|sv (bE a)<|sv (bF a)<|sv (bE a2)<|sv (bF a2)<|r
 rcases bj h with⟨c1,h⟩|⟨c1,h⟩
 ·have p4:=fun{sc F} (r:PS sc F)=>p2<|sg 6 c1<|sv (cw a)<|sv (cR a)<|sv (cw a2)<|sv (cR a2)<|r
  rcases bj h with⟨c3,h⟩|⟨c3,h⟩
  ·have p6:=fun{sc F} (r:PS sc F)=>p4<|sg 13 c3<|sv (dG a)<|sv (dX a)<|sv (dG a2)<|sv (dX a2)<|r
   rcases bj h with⟨c5,h⟩|⟨c5,h⟩
   ·obtain⟨r7,br7,h⟩:=ay h
    obtain rfl:=lf h
    have z:=p6<|sg 20 c5<|sv (bC a)<|sv (bD a)<|sv (bC a2)<|sv (bD a2)<|bz (S5 R78 hR78 br7)<|en (aI (rP (.bool r7))<|trivial)
    exact bO qjr call93 func93 (c:=qjK) rfl (aI (ah a) (aI (ah a2) trivial)) z<|by kernel_rfl
   ·obtain rfl:=lf h
    have z:=p6<|sg 20 c5<|en (aI (rP (.bool false))<|trivial)
    exact bO qjr call93 func93 (c:=qjK) rfl (aI (ah a) (aI (ah a2) trivial)) z<|by kernel_rfl
  ·obtain rfl:=lf h
   have z:=p4<|sg 13 c3<|en (aI (rP (.bool false))<|trivial)
   exact bO qjr call93 func93 (c:=qjK) rfl (aI (ah a) (aI (ah a2) trivial)) z<|by kernel_rfl
 ·obtain rfl:=lf h
  have z:=p2<|sg 6 c1<|en (aI (rP (.bool false))<|trivial)
  exact bO qjr call93 func93 (c:=qjK) rfl (aI (ah a) (aI (ah a2) trivial)) z<|by kernel_rfl
def FD:((aa×aa)->Option Bool)->(aa×aa)->Option Bool:=fun(rec:(aa×aa)->Option Bool) (x:aa×aa)=>zg (fun a a2=>rec (a,a2)) x.1 x.2
def j3(a:aa)(a2:aa):Option Bool:=kK FD (a,a2)
theorem rO{a:aa}{a2:aa}{r:Bool}(h:j3 a a2=some r):CC Pg GE 93 [.agg (ac a),.agg (ac a2)] (.bool r) []:=
 cG (F:=FD) (M:=fun(x:aa×aa) (r:Bool)=>CC Pg GE 93 [.agg (ac x.1),.agg (ac x.2)] (.bool r) []) (fun rec hrec x r h=>S4 _ (fun a a2 r h=>hrec (a,a2) r h) h) h
noncomputable def qlT:Code:=f69.body.getD .skip
def qlD:List Nat:=[]
def CX(p:aa):Option Bool:=
 (j3 p (⟨0,([]:af),0,([]:List aa)⟩:aa)).bind fun r1=>
 some r1
theorem Oo{p:aa}{r:Bool}(h:CX p=some r):CC Pg GE 69 [.agg (ac p)] (.bool r) []:=by
 obtain⟨r1,br1,h⟩:=ay h
 obtain rfl:=lf h
 have z:=se (bU p)<|sv (bh p)<|sb (tb) (ta)<|bz (rO br1)<|en (aI (rP (.bool r1))<|trivial)
 exact bO qlD call69 func69 (c:=qlT) rfl (aI (ah p) trivial) z<|by kernel_rfl
noncomputable def qlU:Code:=f70.body.getD .skip
def qlE:List Nat:=[]
def yg(p:aa)(name:af)(a:aa):Option aa:=
 (lJ p ([name]:List af) ([a]:List aa)).bind fun r1=>
 some r1
theorem HF{p:aa}{name:af}{a:aa}{r:aa}(h:yg p name a=some r):CC Pg GE 70 [.agg (ac p),.str name,.agg (ac a)] (.agg (ac r)) [(3,36)]:=by
 obtain⟨r1,br1,h⟩:=ay h
 obtain rfl:=lf h
 have z:=se (bU p)<|se (bU a)<|sx ib<|sv (bh p)<|sv (bq.mk' (v:=PVal.str) Fs ([name]:List af) 1 (by kernel_rfl))<|sv (bh a)<|sv (bL.mk' (v:=dZ) cP ([a]:List aa) 1 (by kernel_rfl))<|bz (nI br1)<|sy (aK r1)<|en (aI (dm r1)<|aI (ah r1)<|rT)
 exact bO qlE call70 func70 (c:=qlU) rfl (aI (ah p) (aI trivial (aI (ah a) trivial))) z<|by kernel_rfl
noncomputable def qkk:Code:=f46.body.getD .skip
def qjl:List Nat:=[]
section
variable(t:ae)(v:aa)(m:waB)
def Om:aC:=be 18 [(2,.eptr (ag t)),(3,.eptr (ac v)),(4,.bptr 2 0)] [.dead,.dead,.cells [.int .i64 0,.str ([]:af),.int .i64 0,sl ac m] [(3,36)]] []
def vB(o:Bool):aC:=be 18 [(2,.eptr (ag t)),(3,.eptr (ac v)),(4,.bptr 2 0),(12,.bool o)] [.dead,.dead,.cells [.int .i64 0,.str ([]:af),.int .i64 0,sl ac m] [(3,36)]] []
def Ao:Option Bool:=
 if(t.Op==6)=true then
  some true
 else
  (CX t.Pred).bind fun r3=>
  some r3
theorem Mr{x:Bool}(h:Ao t=some x):aV Pg GE 0 (cA qkk 12) (EX .normal (vB t v m x)) (Om t v m):=by
 have p2:=fun{sc F} (r:PS sc F)=>sv (aD t)<|sv (aE t)<|r
 rcases bj h with⟨c1,h⟩|⟨c1,h⟩
 ·obtain rfl:=lf h
  exact cf qjl (p2<|sg 4 c1<|eF .normal (vB t v m true))<|by kernel_rfl
 ·obtain⟨r3,br3,h⟩:=ay h
  obtain rfl:=lf h
  exact cf qjl (p2<|sg 4 c1<|sv (dH t)<|sv (dI t)<|bz (Oo br3)<|eF .normal (vB t v m r3))<|by kernel_rfl
end
def tv(t:ae)(a:aa):Option aa:=
 (Ao t).bind fun o4=>
 if o4=true then
  some (⟨2,([]:af),1,([]:List aa)⟩:aa)
 else
  (yg t.Pred ([118]:af) a).bind fun r7=>
  some r7
theorem Ap{t:ae}{a:aa}{r:aa}(h:tv t a=some r):CC Pg GE 46 [.agg (ag t),.agg (ac a)] (.agg (ac r)) [(3,36)]:=by
 obtain⟨o4,bo4,h⟩:=ay h
 have p6:=fun{sc F} (r:PS sc F)=>se (bw t)<|se (bU a)<|sx ib<|ka 1<|cY (Mr t a ([]:List aa) bo4)<|r
 rcases bj h with⟨c5,h⟩|⟨c5,h⟩
 ·obtain rfl:=lf h
  have z:=p6<|sg 0 c5<|sb (ry 2 1) (rv 2 1)<|sy (aK (⟨2,([]:af),1,([]:List aa)⟩:aa))<|en (aI (dm (⟨2,([]:af),1,([]:List aa)⟩:aa))<|aI (ah (⟨2,([]:af),1,([]:List aa)⟩:aa))<|rT)
  exact bO qjl call46 func46 (c:=qkk) rfl (aI (ak t) (aI (ah a) trivial)) z<|by kernel_rfl
 ·obtain⟨r7,br7,h⟩:=ay h
  obtain rfl:=lf h
  have z:=p6<|sg 0 c5<|sv (dH t)<|sv (dI t)<|sv (bh a)<|bz (HF br7)<|sy (aK r7)<|en (aI (dm r7)<|aI (ah r7)<|rT)
  exact bO qjl call46 func46 (c:=qkk) rfl (aI (ak t) (aI (ah a) trivial)) z<|by kernel_rfl
noncomputable def qk9:Code:=f25.body.getD .skip
def qkZ:List Nat:=[]
def sq(t:ae)(name:af)(c:ai):Option ai:=
 (jh t).bind fun r1=>
 if(!r1)=true then
  some c
 else
  (zp t).bind fun r4=>
  (GI r4).bind fun r5=>
  (tv t (⟨3,name,0,([]:List aa)⟩:aa)).bind fun r6=>
  some (⟨2,name,r5.1,r6,0,([c]:List ai)⟩:ai)
theorem Dn{t:ae}{name:af}{c:ai}{r:ai}(h:sq t name c=some r):CC Pg GE 25 [.agg (ag t),.str name,.agg (au c)] (.agg (au r)) []:=by
 obtain⟨r1,br1,h⟩:=ay h
 have p3:=fun{sc F} (r:PS sc F)=>se (bw t)<|se (rN c)<|sx nK<|sv (aN t)<|bz (kZ br1)<|r
 rcases bj h with⟨c2,h⟩|⟨c2,h⟩
 ·obtain rfl:=lf h
  have z:=p3<|sg 0 c2<|sv (ja c)<|sx (cj c)<|en (aI (ck c)<|(aX c))
  exact bO qkZ call25 func25 (c:=qk9) rfl (aI (ak t) (aI trivial (aI (aX c) trivial))) z<|by kernel_rfl
 ·obtain⟨r4,br4,h⟩:=ay h
  obtain⟨r5,br5,h⟩:=ay h
  obtain⟨r6,br6,h⟩:=ay h
  obtain rfl:=lf h
  have z:=p3<|sg 0 c2<|sv (aN t)<|bz (FW br4)<|bz (Ry br5)<|lK [0,0,0,0,8,28,0,64,255,511]<|sv (aN t)<|sb (ko 3 name) (kl 3 name)<|bz (Ap br6)<|sv (ja c)<|sv (lQ.mk' (v:=jF) fM ([c]:List ai) 1 (by kernel_rfl))<|sv (km 2 name r5.1 r6 ([c]:List ai))<|sx (cj (⟨2,name,r5.1,r6,0,([c]:List ai)⟩:ai))<|en (aI (ck (⟨2,name,r5.1,r6,0,([c]:List ai)⟩:ai))<|(aX (⟨2,name,r5.1,r6,0,([c]:List ai)⟩:ai)))
  exact bO qkZ call25 func25 (c:=qk9) rfl (aI (ak t) (aI trivial (aI (aX c) trivial))) z<|by kernel_rfl
abbrev nD:=(waD->Option ai)
abbrev sJ(R:nD):Prop:=∀(a:waD) (r:ai),R a=some r->CC Pg GE 42 [sl au a] (.agg (au r)) [(6,36),(8,50)]
abbrev jz:=(ai->Option ai)
abbrev nS(R:jz):Prop:=∀(c:ai) (r:ai),R c=some r->CC Pg GE 67 [.agg (au c)] (.agg (au r)) [(6,36),(8,50)]
noncomputable def qkq:Code:=f67.body.getD .skip
def qj3:List Nat:=[20]
section
variable(R82:jz)(t13:waD)(t14:Int)(m:waB)(m2:waD)(m3:Int)(m4:af)(m5:af)(m6:Int)(m7:af)(m8:Int)(m9:waB)(m10:Int)(t15:Int)(m11:waD)
def eZ:aC:=be 28 [(2,.bptr 1 0),(3,.bptr 2 0),(13,sl au t13),(14,.int .i64 t14),(15,.int .i64 t15)] [.dead,.cells [.int .i64 0,.str ([]:af),.str ([]:af),.int .i64 0,.str ([]:af),.int .i64 0,sl ac m,.int .i64 0,sl au m2] [(6,36),(8,50)],.cells [.int .i64 m3,.str m4,.str m5,.int .i64 m6,.str m7,.int .i64 m8,sl ac m9,.int .i64 m10,sl au m11] [(8,50),(6,36)]] []
def kp(o:waD):aC:=be 28 [(2,.bptr 1 0),(3,.bptr 2 0)] [.dead,.cells [.int .i64 0,.str ([]:af),.str ([]:af),.int .i64 0,.str ([]:af),.int .i64 0,sl ac m,.int .i64 0,sl au m2] [(6,36),(8,50)],.cells [.int .i64 m3,.str m4,.str m5,.int .i64 m6,.str m7,.int .i64 m8,sl ac m9,.int .i64 m10,sl au o] [(8,50),(6,36)]] []
def rE:Option ((Int×waD)⊕(waD)):=
 if(decide (t15<t14))=true then
  (cz t13 t15).bind fun x3=>
  (R82 x3).bind fun r4=>
  (app m11 ([r4]:List ai)).bind fun l5=>
  some (.inl (aS (t15+1),l5))
 else
  some (.inr m11)
def mO:Option waD:=loop (fun(zz:Int×waD)=>rE R82 t13 t14 zz.1 zz.2) (t15,m11)
theorem z8(hR82:nS R82){y:(Int×waD)⊕(waD)}(h:rE R82 t13 t14 t15 m11=some y):aV Pg GE 0 (cA qkq 503) (LQ (fun(zz:Int×waD)=>eZ t13 t14 m m2 m3 m4 m5 m6 m7 m8 m9 m10 zz.1 zz.2) (fun _=>.exit 0) (kp m m2 m3 m4 m5 m6 m7 m8 m9 m10) y) (eZ t13 t14 m m2 m3 m4 m5 m6 m7 m8 m9 m10 t15 m11):=by
 rcases bj h with⟨c2,h⟩|⟨c2,h⟩
 ·obtain⟨x3,bx3,h⟩:=ay h
  obtain⟨r4,br4,h⟩:=ay h
  obtain⟨l5,bl5,h⟩:=ay h
  obtain rfl:=lf h
  have z:=sg 0 c2<|sv (lQ.ia (k:=.i64) bx3)<|sv (ja x3)<|sx nK<|sx (cj x3)<|lK [0,1,0,4,12,31,63,127]<|sv (dA x3 [])<|bz (hR82 _ _ br4)<|sv (lQ.mk' (v:=jF) fM ([r4]:List ai) 1 (by kernel_rfl))<|sv (lQ.ap bl5)<|We (rfl:bK (sl au l5)=some [sl au l5])<|uP 0 .normal (eZ t13 t14 m m2 m3 m4 m5 m6 m7 m8 m9 m10 (aS (t15+1)) l5) rfl (dF (aI (cZ rfl) (aI (cZ rfl) (aI (up (aj aX t13)) (aI trivial (aI trivial trivial)))))) (aI trivial (aI (aI trivial (aI trivial (aI trivial (aI trivial (aI trivial (aI trivial (aI (up (aj ah m)) (aI trivial (aI (up (aj aX m2)) trivial))))))))) (aI (aI trivial (aI trivial (aI trivial (aI trivial (aI trivial (aI trivial (aI (up (aj ah m9)) (aI trivial (aI (up (aj aX l5)) trivial))))))))) trivial)))
  exact dh (A:=qj3) mixed z<|by kernel_rfl
 ·obtain rfl:=lf h
  have z:=sg 0 c2<|eF (.exit 0) (kp m m2 m3 m4 m5 m6 m7 m8 m9 m10 m11)
  exact gg qj3 (by intro hx;cases hx) z<|by kernel_rfl
theorem AU(hR82:nS R82){x:waD}(h:mO R82 t13 t14 t15 m11=some x):aV Pg GE 0 (.loop (cA qkq 503)) (EX (.exit 0) (kp m m2 m3 m4 m5 m6 m7 m8 m9 m10 x)) (eZ t13 t14 m m2 m3 m4 m5 m6 m7 m8 m9 m10 t15 m11):=
 aV.loop (S:=fun(zz:Int×waD)=>eZ t13 t14 m m2 m3 m4 m5 m6 m7 m8 m9 m10 zz.1 zz.2) (ex:=(fun _=>.exit 0)) (s:=(t15,m11)) h fun zz y hy=>z8 R82 t13 t14 m m2 m3 m4 m5 m6 m7 m8 m9 m10 zz.1 zz.2 hR82 hy
end
def jC(R82:jz)(c:ai):Option ai:=
 (lJ c.Pred ([]:List af) ([]:List aa)).bind fun r1=>
 (mO R82 c.Kids (c.Kids.length:Int) 0 ([]:List ai)).bind fun o6=>
 some (⟨c.Op,c.Name,c.Sort_,r1,c.Tag,o6⟩:ai)
theorem DA(R82:jz)(hR82:nS R82){c:ai}{r:ai}(h:jC R82 c=some r):CC Pg GE 67 [.agg (au c)] (.agg (au r)) [(6,36),(8,50)]:=by
 obtain⟨r1,br1,h⟩:=ay h
 obtain⟨o6,bo6,h⟩:=ay h
 obtain rfl:=lf h
 have z:=se (rN c)<|sx nK<|sv (ja c)<|sx nK<|sx (cj c)<|sv (pk c)<|sv (pr c)<|bz (nI br1)<|sy (aK r1)<|qhS (.ar 0 50 0 [])<|sv (jm c)<|sv (jo c)<|cq (lQ.ln c.Kids)<|cY (AU R82 c.Kids (c.Kids.length:Int) ([]:List aa) ([]:List ai) c.Op c.Name c.Sort_ r1.Op r1.Name r1.N r1.Kids c.Tag 0 ([]:List ai) hR82 bo6)<|sz (dA (⟨c.Op,c.Name,c.Sort_,r1,c.Tag,o6⟩:ai) [])<|sy (bM (⟨c.Op,c.Name,c.Sort_,r1,c.Tag,o6⟩:ai))<|en (aI (ck (⟨c.Op,c.Name,c.Sort_,r1,c.Tag,o6⟩:ai))<|aI (aX (⟨c.Op,c.Name,c.Sort_,r1,c.Tag,o6⟩:ai))<|rT)
 exact bO qj3 call67 func67 (c:=qkq) rfl (aI (aX c) trivial) z<|by kernel_rfl
def od:(ai->Option ai)->(ai)->Option ai:=fun(rec:ai->Option ai) (x:ai)=>jC (fun c=>rec c) x
def mb(c:ai):Option ai:=kK od c
theorem Fd{c:ai}{r:ai}(h:mb c=some r):CC Pg GE 67 [.agg (au c)] (.agg (au r)) [(6,36),(8,50)]:=
 cG (F:=od) (M:=fun(x:ai) (r:ai)=>CC Pg GE 67 [.agg (au x)] (.agg (au r)) [(6,36),(8,50)]) (fun rec hrec x r h=>DA _ (fun c r h=>hrec c r h) h) h
noncomputable def qjz:Code:=f42.body.getD .skip
def qhy:List Nat:=[22,29]
section
variable(t7:waD)(t8:Int)(t9:Int)(m:waB)(m2:waD)(m3:waD)(m4:Int)(m5:af)(m6:af)(m7:Int)(m8:af)(m9:Int)(m10:waB)(m11:Int)(m12:waD)
def GW:aC:=be 38 [(2,.bptr 0 0),(3,.bptr 1 0),(5,.bptr 2 0),(7,sl au t7),(8,.int .i64 t8),(9,.int .i64 t9)] [.cells [.int .i64 0,.str ([]:af),.str ([]:af),.int .i64 0,.str ([]:af),.int .i64 0,sl ac m,.int .i64 0,sl au m2] [(6,36),(8,50)],.cells [.int .i64 1,.str ([]:af),.str ([]:af),.int .i64 0,.str ([]:af),.int .i64 0,sl ac m,.int .i64 0,sl au m3] [(6,36),(8,50)],.cells [.int .i64 m4,.str m5,.str m6,.int .i64 m7,.str m8,.int .i64 m9,sl ac m10,.int .i64 m11,sl au m12] []] []
def n9(o:Bool):aC:=be 38 [(2,.bptr 0 0),(3,.bptr 1 0),(5,.bptr 2 0),(7,sl au t7),(8,.int .i64 t8),(9,.int .i64 t9),(20,.bool o)] [.cells [.int .i64 0,.str ([]:af),.str ([]:af),.int .i64 0,.str ([]:af),.int .i64 0,sl ac m,.int .i64 0,sl au m2] [(6,36),(8,50)],.cells [.int .i64 1,.str ([]:af),.str ([]:af),.int .i64 0,.str ([]:af),.int .i64 0,sl ac m,.int .i64 0,sl au m3] [(6,36),(8,50)],.cells [.int .i64 m4,.str m5,.str m6,.int .i64 m7,.str m8,.int .i64 m9,sl ac m10,.int .i64 m11,sl au m12] []] []
def ma:Option Bool:=
 if(m4==2)=true then
  some true
 else
  some (m4==3)
theorem Fb{x:Bool}(h:ma m4=some x):aV Pg GE 0 (cA qjz 7670) (EX .normal (n9 t7 t8 t9 m m2 m3 m4 m5 m6 m7 m8 m9 m10 m11 m12 x)) (GW t7 t8 t9 m m2 m3 m4 m5 m6 m7 m8 m9 m10 m11 m12):=by
 rcases bj h with⟨c3,h⟩|⟨c3,h⟩
 ·obtain rfl:=lf h
  exact cf qhy (ss<|sg 4 c3<|eF .normal (n9 t7 t8 t9 m m2 m3 m4 m5 m6 m7 m8 m9 m10 m11 m12 true))<|by kernel_rfl
 ·obtain rfl:=lf h
  exact cf qhy (ss<|sg 4 c3<|ss<|eF .normal (n9 t7 t8 t9 m m2 m3 m4 m5 m6 m7 m8 m9 m10 m11 m12 (m4==3)))<|by kernel_rfl
end
section
variable(R81:nD)(t7:waD)(t8:Int)(m:waB)(m2:waD)(t9:Int)(m3:waD)
def fm:aC:=be 38 [(2,.bptr 0 0),(3,.bptr 1 0),(7,sl au t7),(8,.int .i64 t8),(9,.int .i64 t9)] [.cells [.int .i64 0,.str ([]:af),.str ([]:af),.int .i64 0,.str ([]:af),.int .i64 0,sl ac m,.int .i64 0,sl au m2] [(6,36),(8,50)],.cells [.int .i64 1,.str ([]:af),.str ([]:af),.int .i64 0,.str ([]:af),.int .i64 0,sl ac m,.int .i64 0,sl au m3] [(6,36),(8,50)]] []
def oc(o:waD):aC:=be 38 [(2,.bptr 0 0),(3,.bptr 1 0)] [.cells [.int .i64 0,.str ([]:af),.str ([]:af),.int .i64 0,.str ([]:af),.int .i64 0,sl ac m,.int .i64 0,sl au m2] [(6,36),(8,50)],.cells [.int .i64 1,.str ([]:af),.str ([]:af),.int .i64 0,.str ([]:af),.int .i64 0,sl ac m,.int .i64 0,sl au o] [(6,36),(8,50)]] []
def vN:Option ((Int×waD)⊕(waD)):=
 if(decide (t9<t8))=true then
  (cz t7 t9).bind fun x2=>
  (ma x2.Op).bind fun o4=>
  if o4=true then
   (mb x2).bind fun r7=>
   (app m3 ([r7]:List ai)).bind fun l8=>
   some (.inl (aS (t9+1),l8))
  else
   (R81 x2.Kids).bind fun r9=>
   (app m3 r9.Kids).bind fun l10=>
   some (.inl (aS (t9+1),l10))
 else
  some (.inr m3)
def rC:Option waD:=loop (fun(zz:Int×waD)=>vN R81 t7 t8 zz.1 zz.2) (t9,m3)
theorem Dz(hR81:sJ R81){y:(Int×waD)⊕(waD)}(h:vN R81 t7 t8 t9 m3=some y):aV Pg GE 0 (cA qjz 119) (LQ (fun(zz:Int×waD)=>fm t7 t8 m m2 zz.1 zz.2) (fun _=>.exit 0) (oc m m2) y) (fm t7 t8 m m2 t9 m3):=by
 rcases bj h with⟨c1,h⟩|⟨c1,h⟩
 ·obtain⟨x2,bx2,h⟩:=ay h
  obtain⟨o4,bo4,h⟩:=ay h
  have p6:=fun{sc F} (r:PS sc F)=>sg 0 c1<|sv (lQ.ia (k:=.i64) bx2)<|sv (ja x2)<|sx nK<|sx (cj x2)<|ka 0<|cY (Fb t7 t8 t9 m m2 m3 x2.Op x2.Name x2.Sort_ x2.Pred.Op x2.Pred.Name x2.Pred.N x2.Pred.Kids x2.Tag x2.Kids bo4)<|r
  rcases bj h with⟨c5,h⟩|⟨c5,h⟩
  ·obtain⟨r7,br7,h⟩:=ay h
   obtain⟨l8,bl8,h⟩:=ay h
   obtain rfl:=lf h
   have z:=p6<|sg 0 c5<|lK [0,1,0,4,12,31,63,127]<|sv (dA x2 [])<|bz (Fd br7)<|sv (lQ.mk' (v:=jF) fM ([r7]:List ai) 1 (by kernel_rfl))<|sv (lQ.ap bl8)<|We (rfl:bK (sl au l8)=some [sl au l8])<|uP 0 .normal (fm t7 t8 m m2 (aS (t9+1)) l8) rfl (dF (aI (cZ rfl) (aI (cZ rfl) (aI (up (aj aX t7)) (aI trivial (aI trivial trivial)))))) (aI (aI trivial (aI trivial (aI trivial (aI trivial (aI trivial (aI trivial (aI (up (aj ah m)) (aI trivial (aI (up (aj aX m2)) trivial))))))))) (aI (aI trivial (aI trivial (aI trivial (aI trivial (aI trivial (aI trivial (aI (up (aj ah m)) (aI trivial (aI (up (aj aX l8)) trivial))))))))) trivial))
   exact dh (A:=qhy) mixed z<|by kernel_rfl
  ·obtain⟨r9,br9,h⟩:=ay h
   obtain⟨l10,bl10,h⟩:=ay h
   obtain rfl:=lf h
   have z:=p6<|sg 0 c5<|lK [0,1,0,4,12,28,63,127,255]<|ss<|bz (hR81 _ _ br9)<|sv (Ql r9)<|sv (lQ.ap bl10)<|We (rfl:bK (sl au l10)=some [sl au l10])<|uP 0 .normal (fm t7 t8 m m2 (aS (t9+1)) l10) rfl (dF (aI (cZ rfl) (aI (cZ rfl) (aI (up (aj aX t7)) (aI trivial (aI trivial trivial)))))) (aI (aI trivial (aI trivial (aI trivial (aI trivial (aI trivial (aI trivial (aI (up (aj ah m)) (aI trivial (aI (up (aj aX m2)) trivial))))))))) (aI (aI trivial (aI trivial (aI trivial (aI trivial (aI trivial (aI trivial (aI (up (aj ah m)) (aI trivial (aI (up (aj aX l10)) trivial))))))))) trivial))
   exact dh (A:=qhy) mixed z<|by kernel_rfl
 ·obtain rfl:=lf h
  have z:=sg 0 c1<|eF (.exit 0) (oc m m2 m3)
  exact gg qhy (by intro hx;cases hx) z<|by kernel_rfl
theorem Fc(hR81:sJ R81){x:waD}(h:rC R81 t7 t8 t9 m3=some x):aV Pg GE 0 (.loop (cA qjz 119)) (EX (.exit 0) (oc m m2 x)) (fm t7 t8 m m2 t9 m3):=
 aV.loop (S:=fun(zz:Int×waD)=>fm t7 t8 m m2 zz.1 zz.2) (ex:=(fun _=>.exit 0)) (s:=(t9,m3)) h fun zz y hy=>Dz R81 t7 t8 m m2 zz.1 zz.2 hR81 hy
end
def nG(R81:nD)(a:waD):Option ai:=
 (rC R81 a (a.length:Int) 0 ([]:List ai)).bind fun o11=>
 some (⟨1,([]:af),([]:af),(⟨0,([]:af),0,([]:List aa)⟩:aa),0,o11⟩:ai)
theorem Is(R81:nD)(hR81:sJ R81){a:waD}{r:ai}(h:nG R81 a=some r):CC Pg GE 42 [sl au a] (.agg (au r)) [(6,36),(8,50)]:=by
 obtain⟨o11,bo11,h⟩:=ay h
 obtain rfl:=lf h
 have z:=sx nK<|sb (xN 1) (xM 1)<|sx nK<|sy (bM (⟨1,([]:af),([]:af),(⟨0,([]:af),0,([]:List aa)⟩:aa),0,([]:List ai)⟩:ai))<|cq (lQ.ln a)<|cY (Fc R81 a (a.length:Int) ([]:List aa) ([]:List ai) 0 ([]:List ai) hR81 bo11)<|sz (dA (⟨1,([]:af),([]:af),(⟨0,([]:af),0,([]:List aa)⟩:aa),0,o11⟩:ai) [])<|sy (bM (⟨1,([]:af),([]:af),(⟨0,([]:af),0,([]:List aa)⟩:aa),0,o11⟩:ai))<|en (aI (ck (⟨1,([]:af),([]:af),(⟨0,([]:af),0,([]:List aa)⟩:aa),0,o11⟩:ai))<|aI (aX (⟨1,([]:af),([]:af),(⟨0,([]:af),0,([]:List aa)⟩:aa),0,o11⟩:ai))<|rT)
 exact bO qhy call42 func42 (c:=qjz) rfl (aI (aj aX a) trivial) z<|by kernel_rfl
def td:(waD->Option ai)->(waD)->Option ai:=fun(rec:waD->Option ai) (x:waD)=>nG (fun a=>rec a) x
def mN(a:waD):Option ai:=kK td a
theorem rD{a:waD}{r:ai}(h:mN a=some r):CC Pg GE 42 [sl au a] (.agg (au r)) [(6,36),(8,50)]:=
 cG (F:=td) (M:=fun(x:waD) (r:ai)=>CC Pg GE 42 [sl au x] (.agg (au r)) [(6,36),(8,50)]) (fun rec hrec x r h=>Is _ (fun a r h=>hrec a r h) h) h
noncomputable def qfY:Code:=f54.body.getD .skip
def qeN:List Nat:=[36,57,72,76]
section
variable(used:waA)(w:aZ)(v:ae)(v2:ae)(n:Int)(left:waC)(right:waC)(v3:waA)(v4:waA)(i:Int)(m:waB)(m2:waD)
def vJ:aC:=be 138 [(3,sl cS used),(4,.eptr (aW w)),(5,.eptr (ag v)),(6,.eptr (ag v2)),(8,.bptr 3 0),(9,.int .i64 n),(10,sl ag left),(11,sl ag right),(12,sl cS v3),(13,sl cS v4),(14,.int .i64 i),(15,.str ([120]:af)),(33,.int .i64 n),(34,.int .i64 i)] [.dead,.dead,.dead,.cells [.int .i64 0,.str ([]:af),.str ([]:af),.int .i64 0,.str ([]:af),.int .i64 0,sl ac m,.int .i64 0,sl au m2] [(6,36),(8,50)]] [((13,0),9),((12,0),9)]
def gI(o:af):aC:=be 138 [(3,sl cS used),(4,.eptr (aW w)),(5,.eptr (ag v)),(6,.eptr (ag v2)),(8,.bptr 3 0),(9,.int .i64 n),(10,sl ag left),(11,sl ag right),(12,sl cS v3),(13,sl cS v4),(14,.int .i64 i),(15,.str o),(33,.int .i64 n),(34,.int .i64 i)] [.dead,.dead,.dead,.cells [.int .i64 0,.str ([]:af),.str ([]:af),.int .i64 0,.str ([]:af),.int .i64 0,sl ac m,.int .i64 0,sl au m2] [(6,36),(8,50)]] [((13,0),9),((12,0),9)]
def ff:Option af:=
 if(decide (i<(v2.Names.length:Int)))=true then
  (cz v2.Names i).bind fun x5=>
  some x5
 else
  some ([120]:af)
theorem uJ{x:af}(h:ff v2 i=some x):aV Pg GE 0 (cA qfY 130030) (EX .normal (gI used w v v2 n left right v3 v4 i m m2 x)) (vJ used w v v2 n left right v3 v4 i m m2):=by
 have p4:=fun{sc F} (r:PS sc F)=>sv (aQ v2)<|sv (aR v2)<|cq (bq.ln v2.Names)<|r
 rcases bj h with⟨c3,h⟩|⟨c3,h⟩
 ·obtain⟨x5,bx5,h⟩:=ay h
  obtain rfl:=lf h
  exact cf qeN (p4<|sg 0 c3<|sv (aQ v2)<|sv (aR v2)<|sv (bq.ia (k:=.i64) bx5)<|sv (dB Bg (.str x5) [])<|eF .normal (gI used w v v2 n left right v3 v4 i m m2 x5))<|by kernel_rfl
 ·obtain rfl:=lf h
  exact cf qeN (p4<|sg 0 c3<|eF .normal (gI used w v v2 n left right v3 v4 i m m2 ([120]:af)))<|by kernel_rfl
end
section
variable(used:waA)(w:aZ)(v:ae)(v2:ae)(n:Int)(left:waC)(right:waC)(v3:waA)(v4:waA)(i:Int)(name:af)(t51:waC)(t52:Int)(m:waB)(m2:waD)(taken:waA)(t53:Int)
def dR:aC:=be 138 [(3,sl cS used),(4,.eptr (aW w)),(5,.eptr (ag v)),(6,.eptr (ag v2)),(8,.bptr 3 0),(9,.int .i64 n),(10,sl ag left),(11,sl ag right),(12,sl cS v3),(13,sl cS v4),(14,.int .i64 i),(15,.str name),(16,sl cS taken),(33,.int .i64 n),(34,.int .i64 i),(51,sl ag t51),(52,.int .i64 t52),(53,.int .i64 t53)] [.dead,.dead,.dead,.cells [.int .i64 0,.str ([]:af),.str ([]:af),.int .i64 0,.str ([]:af),.int .i64 0,sl ac m,.int .i64 0,sl au m2] [(6,36),(8,50)]] [((51,0),38),((16,0),9),((13,0),9),((12,0),9)]
def gK(o:waA):aC:=be 138 [(3,sl cS used),(4,.eptr (aW w)),(5,.eptr (ag v)),(6,.eptr (ag v2)),(8,.bptr 3 0),(9,.int .i64 n),(10,sl ag left),(11,sl ag right),(12,sl cS v3),(13,sl cS v4),(14,.int .i64 i),(15,.str name),(16,sl cS o),(33,.int .i64 n),(34,.int .i64 i)] [.dead,.dead,.dead,.cells [.int .i64 0,.str ([]:af),.str ([]:af),.int .i64 0,.str ([]:af),.int .i64 0,sl ac m,.int .i64 0,sl au m2] [(6,36),(8,50)]] [((16,0),9),((13,0),9),((12,0),9)]
def co:Option ((waA×Int)⊕(waA)):=
 if(decide (t53<t52))=true then
  (cz t51 t53).bind fun x9=>
  (Ot x9.Names (some (if(x9.Names.length:Int)<(aS (i+1))then(x9.Names.length:Int)else aS (i+1))) none).bind fun l10=>
  (app taken l10).bind fun l11=>
  some (.inl (l11,aS (t53+1)))
 else
  some (.inr taken)
def fh:Option waA:=loop (fun(zz:waA×Int)=>co i t51 t52 zz.1 zz.2) (taken,t53)
theorem tB{y:(waA×Int)⊕(waA)}(h:co i t51 t52 taken t53=some y):aV Pg GE 0 (cA qfY 4161015) (LQ (fun(zz:waA×Int)=>dR used w v v2 n left right v3 v4 i name t51 t52 m m2 zz.1 zz.2) (fun _=>.exit 2) (gK used w v v2 n left right v3 v4 i name m m2) y) (dR used w v v2 n left right v3 v4 i name t51 t52 m m2 taken t53):=by
 rcases bj h with⟨c8,h⟩|⟨c8,h⟩
 ·obtain⟨x9,bx9,h⟩:=ay h
  obtain⟨l10,bl10,h⟩:=ay h
  obtain⟨l11,bl11,h⟩:=ay h
  obtain rfl:=lf h
  have z:=sg 0 c8<|sv (ct.ia (k:=.i64) bx9)<|sv (aN x9)<|sx tu<|sx (ez x9)<|ss<|ss<|cq (bq.ln x9.Names)<|sv (bq.sc bl10)<|sv (bq.ap bl11)<|uP 0 .normal (dR used w v v2 n left right v3 v4 i name t51 t52 m m2 l11 (aS (t53+1))) rfl (dF (aI (up (aj dN used)) (aI (im (dt w)) (aI (im (ak v)) (aI (im (ak v2)) (aI (cZ rfl) (aI trivial (aI (up (aj ak left)) (aI (up (aj ak right)) (aI (up (aj dN v3)) (aI (up (aj dN v4)) (aI trivial (aI trivial (aI (up (aj dN l11)) (aI trivial (aI trivial (aI (up (aj ak t51)) (aI trivial (aI trivial trivial))))))))))))))))))) (aI trivial (aI trivial (aI trivial (aI (aI trivial (aI trivial (aI trivial (aI trivial (aI trivial (aI trivial (aI (up (aj ah m)) (aI trivial (aI (up (aj aX m2)) trivial))))))))) trivial))))
  exact dh (A:=qeN) mixed z<|by kernel_rfl
 ·obtain rfl:=lf h
  have z:=sg 0 c8<|eF (.exit 2) (gK used w v v2 n left right v3 v4 i name m m2 taken)
  exact gg qeN (by intro hx;cases hx) z<|by kernel_rfl
theorem uL{x:waA}(h:fh i t51 t52 taken t53=some x):aV Pg GE 0 (.loop (cA qfY 4161015)) (EX (.exit 2) (gK used w v v2 n left right v3 v4 i name m m2 x)) (dR used w v v2 n left right v3 v4 i name t51 t52 m m2 taken t53):=
 aV.loop (S:=fun(zz:waA×Int)=>dR used w v v2 n left right v3 v4 i name t51 t52 m m2 zz.1 zz.2) (ex:=(fun _=>.exit 2)) (s:=(taken,t53)) h fun zz y hy=>tB used w v v2 n left right v3 v4 i name t51 t52 m m2 zz.1 zz.2 hy
end
section
variable(used:waA)(w:aZ)(v:ae)(v2:ae)(n:Int)(m:waB)(m2:waD)(left:waC)(right:waC)(v3:waA)(v4:waA)(t34:Int)
def dQ:aC:=be 138 [(3,sl cS used),(4,.eptr (aW w)),(5,.eptr (ag v)),(6,.eptr (ag v2)),(8,.bptr 3 0),(9,.int .i64 n),(10,sl ag left),(11,sl ag right),(12,sl cS v3),(13,sl cS v4),(33,.int .i64 n),(34,.int .i64 t34)] [.dead,.dead,.dead,.cells [.int .i64 0,.str ([]:af),.str ([]:af),.int .i64 0,.str ([]:af),.int .i64 0,sl ac m,.int .i64 0,sl au m2] [(6,36),(8,50)]] [((13,0),9),((12,0),9)]
def gJ(o:waC×waC×waA×waA):aC:=be 138 [(3,sl cS used),(4,.eptr (aW w)),(8,.bptr 3 0),(9,.int .i64 n),(10,sl ag o.1),(11,sl ag o.2.1),(12,sl cS o.2.2.1),(13,sl cS o.2.2.2)] [.dead,.dead,.dead,.cells [.int .i64 0,.str ([]:af),.str ([]:af),.int .i64 0,.str ([]:af),.int .i64 0,sl ac m,.int .i64 0,sl au m2] [(6,36),(8,50)]] [((13,0),9),((12,0),9)]
def dn:Option ((waC×waC×waA×waA×Int)⊕((waC×waC×waA×waA))):=
 if(decide (t34<n))=true then
  (ff v2 t34).bind fun o6=>
  (n8 v4).bind fun r7=>
  (fh t34 ([v,v2]:List ae) (([v,v2]:List ae).length:Int) r7 0).bind fun o12=>
  (mW o12 o6).bind fun r13=>
  (app v4 ([r13]:List af)).bind fun l14=>
  (app v3 ([r13]:List af)).bind fun l15=>
  (j6 left v t34 r13).bind fun r16=>
  (j6 right v2 t34 r13).bind fun r17=>
  some (.inl (r16,r17,l15,l14,aS (t34+1)))
 else
  some (.inr (left,right,v3,v4))
def fg:Option ((waC×waC×waA×waA)):=loop (fun(zz:waC×waC×waA×waA×Int)=>dn v v2 n zz.1 zz.2.1 zz.2.2.1 zz.2.2.2.1 zz.2.2.2.2) (left,right,v3,v4,t34)
theorem tA{y:(waC×waC×waA×waA×Int)⊕((waC×waC×waA×waA))}(h:dn v v2 n left right v3 v4 t34=some y):aV Pg GE 0 (cA qfY 1015) (LQ (fun(zz:waC×waC×waA×waA×Int)=>dQ used w v v2 n m m2 zz.1 zz.2.1 zz.2.2.1 zz.2.2.2.1 zz.2.2.2.2) (fun _=>.exit 0) (gJ used w n m m2) y) (dQ used w v v2 n m m2 left right v3 v4 t34):=by
 rcases bj h with⟨c2,h⟩|⟨c2,h⟩
 ·obtain⟨o6,bo6,h⟩:=ay h
  obtain⟨r7,br7,h⟩:=ay h
  obtain⟨o12,bo12,h⟩:=ay h
  obtain⟨r13,br13,h⟩:=ay h
  obtain⟨l14,bl14,h⟩:=ay h
  obtain⟨l15,bl15,h⟩:=ay h
  obtain⟨r16,br16,h⟩:=ay h
  obtain⟨r17,br17,h⟩:=ay h
  obtain rfl:=lf h
  exact oo qeN (sg 0 c2<|ka 3<|cY (uJ used w v v2 n left right v3 v4 t34 m m2 bo6)<|bz (Ir br7)<|sv (aN v)<|sv (aN v2)<|sv (ct.mk' (v:=jG) eO ([v,v2]:List ae) 2 (by kernel_rfl))<|cq (ct.ln ([v,v2]:List ae))<|cY (uL used w v v2 n left right v3 v4 t34 o6 ([v,v2]:List ae) (([v,v2]:List ae).length:Int) m m2 r7 0 bo12)<|bz (yb br13)<|sv (bq.mk' (v:=PVal.str) Fs ([r13]:List af) 1 (by kernel_rfl))<|sv (bq.ap bl14)<|sv (bq.mk' (v:=PVal.str) Fs ([r13]:List af) 1 (by kernel_rfl))<|sv (bq.ap bl15)<|lK [0,0,0,0,15,0,0,0,0,511,1023,2047]<|sv (aN v)<|bz (vU br16)<|sv (aN v2)<|bz (vU br17)<|eF .normal (dQ used w v v2 n m m2 r16 r17 l15 l14 (aS (t34+1))))<|by kernel_rfl
 ·obtain rfl:=lf h
  have z:=sg 0 c2<|eF (.exit 0) (gJ used w n m m2 (left,right,v3,v4))
  exact gg qeN (by intro hx;cases hx) z<|by kernel_rfl
theorem uK{x:(waC×waC×waA×waA)}(h:fg v v2 n left right v3 v4 t34=some x):aV Pg GE 0 (.loop (cA qfY 1015)) (EX (.exit 0) (gJ used w n m m2 x)) (dQ used w v v2 n m m2 left right v3 v4 t34):=
 aV.loop (S:=fun(zz:waC×waC×waA×waA×Int)=>dQ used w v v2 n m m2 zz.1 zz.2.1 zz.2.2.1 zz.2.2.2.1 zz.2.2.2.2) (ex:=(fun _=>.exit 0)) (s:=(left,right,v3,v4,t34)) h fun zz y hy=>tA used w v v2 n m m2 zz.1 zz.2.1 zz.2.2.1 zz.2.2.2.1 zz.2.2.2.2 hy
end
section
variable(R51:d7)(used:waA)(w:aZ)(left:waC)(right:waC)(v:waA)(v2:waA)(m:waB)(m2:waD)(i:Int)(m3:Int)(m4:af)(m5:af)(m6:Int)(m7:af)(m8:Int)(m9:waB)(m10:Int)(m11:waD)
def dS:aC:=be 138 [(3,sl cS used),(4,.eptr (aW w)),(8,.bptr 3 0),(10,sl ag left),(11,sl ag right),(12,sl cS v),(13,sl cS v2),(20,.bptr 4 0),(21,.int .i64 i)] [.dead,.dead,.dead,.cells [.int .i64 0,.str ([]:af),.str ([]:af),.int .i64 0,.str ([]:af),.int .i64 0,sl ac m,.int .i64 0,sl au m2] [(6,36),(8,50)],.cells [.int .i64 m3,.str m4,.str m5,.int .i64 m6,.str m7,.int .i64 m8,sl ac m9,.int .i64 m10,sl au m11] []] [((13,0),9),((12,0),9)]
def gL(o:Int×af×af×Int×af×Int×waB×Int×waD):aC:=be 138 [(8,.bptr 3 0),(20,.bptr 4 0)] [.dead,.dead,.dead,.cells [.int .i64 0,.str ([]:af),.str ([]:af),.int .i64 0,.str ([]:af),.int .i64 0,sl ac m,.int .i64 0,sl au m2] [(6,36),(8,50)],.cells [.int .i64 o.1,.str o.2.1,.str o.2.2.1,.int .i64 o.2.2.2.1,.str o.2.2.2.2.1,.int .i64 o.2.2.2.2.2.1,sl ac o.2.2.2.2.2.2.1,.int .i64 o.2.2.2.2.2.2.2.1,sl au o.2.2.2.2.2.2.2.2] []] []
def cp:Option ((Int×Int×af×af×Int×af×Int×waB×Int×waD)⊕((Int×af×af×Int×af×Int×waB×Int×waD))):=
 if(decide (i>=0))=true then
  (Ot v2 none (some (aS ((used.length:Int)+i)))).bind fun l23=>
  (cz right i).bind fun x24=>
  (cz left i).bind fun x25=>
  (R51 w x24 x25 l23).bind fun r26=>
  (cz right i).bind fun x27=>
  (cz v i).bind fun x28=>
  (sq x27 x28 (⟨m3,m4,m5,(⟨m6,m7,m8,m9⟩:aa),m10,m11⟩:ai)).bind fun r29=>
  (mN ([r26,r29]:List ai)).bind fun r30=>
  some (.inl (aS (i - 1),r30.Op,r30.Name,r30.Sort_,r30.Pred.Op,r30.Pred.Name,r30.Pred.N,r30.Pred.Kids,r30.Tag,r30.Kids))
 else
  some (.inr (m3,m4,m5,m6,m7,m8,m9,m10,m11))
def iw:Option ((Int×af×af×Int×af×Int×waB×Int×waD)):=loop (fun(zz:Int×Int×af×af×Int×af×Int×waB×Int×waD)=>cp R51 used w left right v v2 zz.1 zz.2.1 zz.2.2.1 zz.2.2.2.1 zz.2.2.2.2.1 zz.2.2.2.2.2.1 zz.2.2.2.2.2.2.1 zz.2.2.2.2.2.2.2.1 zz.2.2.2.2.2.2.2.2.1 zz.2.2.2.2.2.2.2.2.2) (i,m3,m4,m5,m6,m7,m8,m9,m10,m11)
theorem tC(hR51:iS R51){y:(Int×Int×af×af×Int×af×Int×waB×Int×waD)⊕((Int×af×af×Int×af×Int×waB×Int×waD))}(h:cp R51 used w left right v v2 i m3 m4 m5 m6 m7 m8 m9 m10 m11=some y):aV Pg GE 0 (cA qfY 4087) (LQ (fun(zz:Int×Int×af×af×Int×af×Int×waB×Int×waD)=>dS used w left right v v2 m m2 zz.1 zz.2.1 zz.2.2.1 zz.2.2.2.1 zz.2.2.2.2.1 zz.2.2.2.2.2.1 zz.2.2.2.2.2.2.1 zz.2.2.2.2.2.2.2.1 zz.2.2.2.2.2.2.2.2.1 zz.2.2.2.2.2.2.2.2.2) (fun _=>.exit 4) (gL m m2) y) (dS used w left right v v2 m m2 i m3 m4 m5 m6 m7 m8 m9 m10 m11):=by
 rcases bj h with⟨c22,h⟩|⟨c22,h⟩
 ·obtain⟨l23,bl23,h⟩:=ay h
  obtain⟨x24,bx24,h⟩:=ay h
  obtain⟨x25,bx25,h⟩:=ay h
  obtain⟨r26,br26,h⟩:=ay h
  obtain⟨x27,bx27,h⟩:=ay h
  obtain⟨x28,bx28,h⟩:=ay h
  obtain⟨r29,br29,h⟩:=ay h
  obtain⟨r30,br30,h⟩:=ay h
  obtain rfl:=lf h
  exact oo qeN (sg 0 c22<|cq (bq.ln used)<|sv (bq.sc bl23)<|lK [0,0,0,6,14,0,0,96,224,0,1023,0,0,6144,14336,0,0,98304,229376,0,1048575,2097151,4194303,8388607]<|sv (e9 w)<|sv (ct.ia (k:=.i64) bx24)<|sv (aN x24)<|sv (ct.ia (k:=.i64) bx25)<|sv (aN x25)<|bz (hR51 _ _ _ _ _ br26)<|sv (ct.ia (k:=.i64) bx27)<|sv (aN x27)<|sv (bq.ia (k:=.i64) bx28)<|sv (dB Bg (.str x28) [])<|sv (dA (⟨m3,m4,m5,(⟨m6,m7,m8,m9⟩:aa),m10,m11⟩:ai) [])<|bz (Dn br29)<|sv (lQ.mk' (v:=jF) fM ([r26,r29]:List ai) 2 (by kernel_rfl))<|bz (rD br30)<|qcq (cj r30)<|eF .normal (dS used w left right v v2 m m2 (aS (i - 1)) r30.Op r30.Name r30.Sort_ r30.Pred.Op r30.Pred.Name r30.Pred.N r30.Pred.Kids r30.Tag r30.Kids))<|by kernel_rfl
 ·obtain rfl:=lf h
  have z:=sg 0 c22<|eF (.exit 4) (gL m m2 (m3,m4,m5,m6,m7,m8,m9,m10,m11))
  exact gg qeN (by intro hx;cases hx) z<|by kernel_rfl
theorem uM(hR51:iS R51){x:(Int×af×af×Int×af×Int×waB×Int×waD)}(h:iw R51 used w left right v v2 i m3 m4 m5 m6 m7 m8 m9 m10 m11=some x):aV Pg GE 0 (.loop (cA qfY 4087)) (EX (.exit 4) (gL m m2 x)) (dS used w left right v v2 m m2 i m3 m4 m5 m6 m7 m8 m9 m10 m11):=
 aV.loop (S:=fun(zz:Int×Int×af×af×Int×af×Int×waB×Int×waD)=>dS used w left right v v2 m m2 zz.1 zz.2.1 zz.2.2.1 zz.2.2.2.1 zz.2.2.2.2.1 zz.2.2.2.2.2.1 zz.2.2.2.2.2.2.1 zz.2.2.2.2.2.2.2.1 zz.2.2.2.2.2.2.2.2.1 zz.2.2.2.2.2.2.2.2.2) (ex:=(fun _=>.exit 4)) (s:=(i,m3,m4,m5,m6,m7,m8,m9,m10,m11)) h fun zz y hy=>tC R51 used w left right v v2 m m2 zz.1 zz.2.1 zz.2.2.1 zz.2.2.2.1 zz.2.2.2.2.1 zz.2.2.2.2.2.1 zz.2.2.2.2.2.2.1 zz.2.2.2.2.2.2.2.1 zz.2.2.2.2.2.2.2.2.1 zz.2.2.2.2.2.2.2.2.2 hR51 hy
end
def gA(R51:d7)(w:aZ)(a:ae)(a2:ae)(used:waA):Option ai:=
 (n8 used).bind fun r1=>
 (fg a a2 (aS ((a2.Args.length:Int) - 1)) a.Args a2.Args ([]:List af) r1 0).bind fun o18=>
 (cz o18.1 (aS ((a2.Args.length:Int) - 1))).bind fun x19=>
 (cz o18.2.1 (aS ((a2.Args.length:Int) - 1))).bind fun x20=>
 (R51 w x19 x20 o18.2.2.2).bind fun r21=>
 (iw R51 used w o18.1 o18.2.1 o18.2.2.1 o18.2.2.2 (aS ((aS ((a2.Args.length:Int) - 1)) - 1)) r21.Op r21.Name r21.Sort_ r21.Pred.Op r21.Pred.Name r21.Pred.N r21.Pred.Kids r21.Tag r21.Kids).bind fun o31=>
 some (⟨o31.1,o31.2.1,o31.2.2.1,(⟨o31.2.2.2.1,o31.2.2.2.2.1,o31.2.2.2.2.2.1,o31.2.2.2.2.2.2.1⟩:aa),o31.2.2.2.2.2.2.2.1,o31.2.2.2.2.2.2.2.2⟩:ai)
theorem yo(R51:d7)(hR51:iS R51){w:aZ}{a:ae}{a2:ae}{used:waA}{r:ai}(h:gA R51 w a a2 used=some r):CC Pg GE 54 [.agg (aW w),.agg (ag a),.agg (ag a2),sl cS used] (.agg (au r)) []:=by
 obtain⟨r1,br1,h⟩:=ay h
 obtain⟨o18,bo18,h⟩:=ay h
 obtain⟨x19,bx19,h⟩:=ay h
 obtain⟨x20,bx20,h⟩:=ay h
 obtain⟨r21,br21,h⟩:=ay h
 obtain⟨o31,bo31,h⟩:=ay h
 obtain rfl:=lf h
 have z:=se (jb w)<|se (bw a)<|se (bw a2)<|sx nK<|sv (aL a2)<|sv (aM a2)<|cq (ct.ln a2.Args)<|lK [0,1,0,4,3,31]<|sv (aL a)<|sv (aM a)<|sv (aL a2)<|sv (aM a2)<|bz (Ir br1)<|cY (uK used w a a2 (aS ((a2.Args.length:Int) - 1)) ([]:List aa) ([]:List ai) a.Args a2.Args ([]:List af) r1 0 bo18)<|lK [0,0,0,6,14,0,0,96,224,0,1023,0,4095]<|sv (e9 w)<|sv (ct.ia (k:=.i64) bx19)<|sv (aN x19)<|sv (ct.ia (k:=.i64) bx20)<|sv (aN x20)<|bz (hR51 _ _ _ _ _ br21)<|sx (cj r21)<|cY (uM R51 used w o18.1 o18.2.1 o18.2.2.1 o18.2.2.2 ([]:List aa) ([]:List ai) (aS ((aS ((a2.Args.length:Int) - 1)) - 1)) r21.Op r21.Name r21.Sort_ r21.Pred.Op r21.Pred.Name r21.Pred.N r21.Pred.Kids r21.Tag r21.Kids hR51 bo31)<|sv (dA (⟨o31.1,o31.2.1,o31.2.2.1,(⟨o31.2.2.2.1,o31.2.2.2.2.1,o31.2.2.2.2.2.1,o31.2.2.2.2.2.2.1⟩:aa),o31.2.2.2.2.2.2.2.1,o31.2.2.2.2.2.2.2.2⟩:ai) [])<|sx (cj (⟨o31.1,o31.2.1,o31.2.2.1,(⟨o31.2.2.2.1,o31.2.2.2.2.1,o31.2.2.2.2.2.1,o31.2.2.2.2.2.2.1⟩:aa),o31.2.2.2.2.2.2.2.1,o31.2.2.2.2.2.2.2.2⟩:ai))<|en (aI (ck (⟨o31.1,o31.2.1,o31.2.2.1,(⟨o31.2.2.2.1,o31.2.2.2.2.1,o31.2.2.2.2.2.1,o31.2.2.2.2.2.2.1⟩:aa),o31.2.2.2.2.2.2.2.1,o31.2.2.2.2.2.2.2.2⟩:ai))<|(aX (⟨o31.1,o31.2.1,o31.2.2.1,(⟨o31.2.2.2.1,o31.2.2.2.2.1,o31.2.2.2.2.2.1,o31.2.2.2.2.2.2.1⟩:aa),o31.2.2.2.2.2.2.2.1,o31.2.2.2.2.2.2.2.2⟩:ai)))
 exact bO qeN call54 func54 (c:=qfY) rfl (aI (dt w) (aI (ak a) (aI (ak a2) (aI (aj dN used) trivial)))) z<|by kernel_rfl
noncomputable def ql1:Code:=f96.body.getD .skip
def qlL:List Nat:=[]
def jE(w:aZ)(p:aa):Option ai:=
 some (⟨3,([]:af),([]:af),p,w.tag,([]:List ai)⟩:ai)
theorem C2{w:aZ}{p:aa}{r:ai}(h:jE w p=some r):CC Pg GE 96 [.agg (aW w),.agg (ac p)] (.agg (au r)) [(8,50)]:=by
 obtain rfl:=lf h
 have z:=se (jb w)<|se (bU p)<|sx nK<|sv (bh p)<|sv (AW w)<|sv (DF w)<|sb (rx 3 p w.tag) (ru 3 p w.tag)<|sy (bM (⟨3,([]:af),([]:af),p,w.tag,([]:List ai)⟩:ai))<|en (aI (ck (⟨3,([]:af),([]:af),p,w.tag,([]:List ai)⟩:ai))<|aI (aX (⟨3,([]:af),([]:af),p,w.tag,([]:List ai)⟩:ai))<|rT)
 exact bO qlL call96 func96 (c:=ql1) rfl (aI (dt w) (aI (ah p) trivial)) z<|by kernel_rfl
noncomputable def qlY:Code:=f78.body.getD .skip
def qlI:List Nat:=[]
def fi(w:aZ)(name:af)(s:af)(hyp:aa)(goal:aa):Option ai:=
 (jE w goal).bind fun r1=>
 some (⟨2,name,s,hyp,0,([r1]:List ai)⟩:ai)
theorem nQ{w:aZ}{name:af}{s:af}{hyp:aa}{goal:aa}{r:ai}(h:fi w name s hyp goal=some r):CC Pg GE 78 [.agg (aW w),.str name,.str s,.agg (ac hyp),.agg (ac goal)] (.agg (au r)) []:=by
 obtain⟨r1,br1,h⟩:=ay h
 obtain rfl:=lf h
 have z:=se (jb w)<|se (bU hyp)<|se (bU goal)<|sx nK<|lK [0,0,0,0,0,24,56,127,255]<|sv (bh hyp)<|sv (e9 w)<|sv (bh goal)<|bz (C2 br1)<|sv (lQ.mk' (v:=jF) fM ([r1]:List ai) 1 (by kernel_rfl))<|sv (km 2 name s hyp ([r1]:List ai))<|sx (cj (⟨2,name,s,hyp,0,([r1]:List ai)⟩:ai))<|en (aI (ck (⟨2,name,s,hyp,0,([r1]:List ai)⟩:ai))<|(aX (⟨2,name,s,hyp,0,([r1]:List ai)⟩:ai)))
 exact bO qlI call78 func78 (c:=qlY) rfl (aI (dt w) (aI trivial (aI trivial (aI (ah hyp) (aI (ah goal) trivial))))) z<|by kernel_rfl
noncomputable def qjG:Code:=f79.body.getD .skip
def qh8:List Nat:=[]
section
variable(name:af)(t9:(List ed))(t10:Int)(t11:Int)(m:af)(m2:waA)(m3:waF)(m4:waG)
def j7:aC:=be 22 [(1,.str name),(4,.bptr 1 0),(9,sl cN t9),(10,.int .i64 t10),(11,.int .i64 t11)] [.dead,.cells [.str m,sl cS m2,sl bH m3,sl ef m4] [(1,9),(2,102),(3,73)]] []
def j8(o:(af×waA×waF×waG)⊕(af×waA×waF×waG)):Exit:=match o with
 |(.inl _)=>.ret
 |(.inr _)=>.exit 0
def ie(o:(af×waA×waF×waG)⊕(af×waA×waF×waG)):aC:=match o with
 |(.inl o)=>be 22 [(4,.bptr 1 0),(5,.bool true)] [.dead,.cells [.str o.1,sl cS o.2.1,sl bH o.2.2.1,sl ef o.2.2.2] []] []
 |(.inr o)=>be 22 [(4,.bptr 1 0)] [.dead,.cells [.str o.1,sl cS o.2.1,sl bH o.2.2.1,sl ef o.2.2.2] [(1,9),(2,102),(3,73)]] []
def fQ:Option ((Int×af×waA×waF×waG)⊕((af×waA×waF×waG)⊕(af×waA×waF×waG))):=
 if(decide (t11<t10))=true then
  (cz t9 t11).bind fun x2=>
  if(x2.Name==name)=true then
   some (.inr (.inl (x2.Name,x2.Vars,x2.Preds,x2.Cons)))
  else
   some (.inl (aS (t11+1),m,m2,m3,m4))
 else
  some (.inr (.inr (m,m2,m3,m4)))
def yp:Option ((af×waA×waF×waG)⊕(af×waA×waF×waG)):=loop (fun(zz:Int×af×waA×waF×waG)=>fQ name t9 t10 zz.1 zz.2.1 zz.2.2.1 zz.2.2.2.1 zz.2.2.2.2) (t11,m,m2,m3,m4)
theorem I5{y:(Int×af×waA×waF×waG)⊕((af×waA×waF×waG)⊕(af×waA×waF×waG))}(h:fQ name t9 t10 t11 m m2 m3 m4=some y):aV Pg GE 0 (cA qjG 55) (LQ (fun(zz:Int×af×waA×waF×waG)=>j7 name t9 t10 zz.1 zz.2.1 zz.2.2.1 zz.2.2.2.1 zz.2.2.2.2) j8 ie y) (j7 name t9 t10 t11 m m2 m3 m4):=by
 rcases bj h with⟨c1,h⟩|⟨c1,h⟩
 ·obtain⟨x2,bx2,h⟩:=ay h
  have p4:=fun{sc F} (r:PS sc F)=>sg 0 c1<|sv (KX.ia (k:=.i64) bx2)<|sv (XC x2)<|sx Zz<|sx (A4 x2)<|ss<|r
  rcases bj h with⟨c3,h⟩|⟨c3,h⟩
  ·obtain rfl:=lf h
   have z:=p4<|sg 0 c3<|sv (qbu x2 [])<|sx (A4 x2)<|uP 0 (j8 (.inl (x2.Name,x2.Vars,x2.Preds,x2.Cons))) (ie (.inl (x2.Name,x2.Vars,x2.Preds,x2.Cons))) rfl (dF (aI (cZ rfl) (aI trivial trivial))) (aI trivial (aI (aI trivial (aI (up (aj dN x2.Vars)) (aI (up (aj lZ x2.Preds)) (aI (up (aj Gk x2.Cons)) trivial)))) trivial))
   exact IN (A:=qh8) mixed (by intro hx;cases hx) z<|by kernel_rfl
  ·obtain rfl:=lf h
   have z:=p4<|sg 0 c3<|uP 0 .normal (j7 name t9 t10 (aS (t11+1)) m m2 m3 m4) rfl (dF (aI trivial (aI (cZ rfl) (aI (up (aj ur t9)) (aI trivial (aI trivial trivial)))))) (aI trivial (aI (aI trivial (aI (up (aj dN m2)) (aI (up (aj lZ m3)) (aI (up (aj Gk m4)) trivial)))) trivial))
   exact dh (A:=qh8) mixed z<|by kernel_rfl
 ·obtain rfl:=lf h
  have z:=sg 0 c1<|eF (j8 (.inr (m,m2,m3,m4))) (ie (.inr (m,m2,m3,m4)))
  exact gg qh8 (by intro hx;cases hx) z<|by kernel_rfl
theorem zo{x:(af×waA×waF×waG)⊕(af×waA×waF×waG)}(h:yp name t9 t10 t11 m m2 m3 m4=some x):aV Pg GE 0 (.loop (cA qjG 55)) (EX (j8 x) (ie x)) (j7 name t9 t10 t11 m m2 m3 m4):=
 aV.loop (S:=fun(zz:Int×af×waA×waF×waG)=>j7 name t9 t10 zz.1 zz.2.1 zz.2.2.1 zz.2.2.2.1 zz.2.2.2.2) (ex:=j8) (s:=(t11,m,m2,m3,m4)) h fun zz y hy=>I5 name t9 t10 zz.1 zz.2.1 zz.2.2.1 zz.2.2.2.1 zz.2.2.2.2 hy
end
def zn(m:aG)(name:af):Option (ed×Bool):=
 (yp name m.Datas (m.Datas.length:Int) 0 ([]:af) ([]:List af) ([]:List cM) ([]:List eh)).bind fun o5=>match o5 with
 |(.inl o5)=>
  some ((⟨o5.1,o5.2.1,o5.2.2.1,o5.2.2.2⟩:ed),true)
 |(.inr o5)=>
  some ((⟨([]:af),([]:List af),([]:List cM),([]:List eh)⟩:ed),false)
theorem Rz{m:aG}{name:af}{r:ed×Bool}(h:zn m name=some r):CC Pg GE 79 [.agg (aB m),.str name] (.tuple [.agg (cN r.1),.bool r.2]) []:=by
 obtain⟨o5,bo5,h⟩:=ay h
 rcases o5 with o5|o5
 ·obtain rfl:=lf h
  have z:=se (gE m)<|sx Zz<|sv (dj m)<|sv (dl m)<|cq (KX.ln m.Datas)<|cY (e:=.ret) (s1:=ie (.inl o5)) (zo name m.Datas (m.Datas.length:Int) 0 ([]:af) ([]:List af) ([]:List cM) ([]:List eh) bo5)<|en (aI (va3 PVal.tuple (fp (GF (⟨o5.1,o5.2.1,o5.2.2.1,o5.2.2.2⟩:ed)) (fp (rP (.bool true)) (rfl:([]:List PVal)=[]))))<|(aI (ur (⟨o5.1,o5.2.1,o5.2.2.1,o5.2.2.2⟩:ed)) (aI trivial trivial)))
  exact bO qh8 call79 func79 (c:=qjG) rfl (aI (cu m) (aI trivial trivial)) z<|by kernel_rfl
 ·obtain rfl:=lf h
  have z:=se (gE m)<|sx Zz<|sv (dj m)<|sv (dl m)<|cq (KX.ln m.Datas)<|cY (e:=.exit 0) (s1:=ie (.inr o5)) (zo name m.Datas (m.Datas.length:Int) 0 ([]:af) ([]:List af) ([]:List cM) ([]:List eh) bo5)<|sb (P4) (P1)<|sy (uA (⟨([]:af),([]:List af),([]:List cM),([]:List eh)⟩:ed))<|en (aI (va3 PVal.tuple (fp (GF (⟨([]:af),([]:List af),([]:List cM),([]:List eh)⟩:ed)) (fp (rP (.bool false)) (rfl:([]:List PVal)=[]))))<|(aI (ur (⟨([]:af),([]:List af),([]:List cM),([]:List eh)⟩:ed)) (aI trivial trivial)))
  exact bO qh8 call79 func79 (c:=qjG) rfl (aI (cu m) (aI trivial trivial)) z<|by kernel_rfl
noncomputable def qim:Code:=f108.body.getD .skip
def qhW:List Nat:=[]
def g9(is:Bool):Option aa:=
 if is=true then
  some (⟨2,([]:af),1,([]:List aa)⟩:aa)
 else
  some (⟨2,([]:af),0,([]:List aa)⟩:aa)
theorem j4{is:Bool}{r:aa}(h:g9 is=some r):CC Pg GE 108 [.bool is] (.agg (ac r)) [(3,36)]:=by
 rcases bj h with⟨c1,h⟩|⟨c1,h⟩
 ·obtain rfl:=lf h
  have z:=sx ib<|sg 0 c1<|sb (ry 2 1) (rv 2 1)<|sy (aK (⟨2,([]:af),1,([]:List aa)⟩:aa))<|en (aI (dm (⟨2,([]:af),1,([]:List aa)⟩:aa))<|aI (ah (⟨2,([]:af),1,([]:List aa)⟩:aa))<|rT)
  exact bO qhW call108 func108 (c:=qim) rfl (aI trivial trivial) z<|by kernel_rfl
 ·obtain rfl:=lf h
  have z:=sx ib<|sg 0 c1<|sb (P5 2) (P2 2)<|sy (aK (⟨2,([]:af),0,([]:List aa)⟩:aa))<|en (aI (dm (⟨2,([]:af),0,([]:List aa)⟩:aa))<|aI (ah (⟨2,([]:af),0,([]:List aa)⟩:aa))<|rT)
  exact bO qhW call108 func108 (c:=qim) rfl (aI trivial trivial) z<|by kernel_rfl
noncomputable def qld:Code:=f90.body.getD .skip
def qk3:List Nat:=[]
def Bd(p:aa):Option Bool:=
 (j3 p (⟨0,([]:af),0,([]:List aa)⟩:aa)).bind fun r1=>
 if r1=true then
  some true
 else
  (g9 true).bind fun r4=>
  (j3 p r4).bind fun r5=>
  some r5
theorem KQ{p:aa}{r:Bool}(h:Bd p=some r):CC Pg GE 90 [.agg (ac p)] (.bool r) []:=by
 obtain⟨r1,br1,h⟩:=ay h
 have p3:=fun{sc F} (r:PS sc F)=>se (bU p)<|lK [0,0,3,7,15,15,63,127,255]<|sv (bh p)<|sb (tb) (ta)<|bz (rO br1)<|r
 rcases bj h with⟨c2,h⟩|⟨c2,h⟩
 ·obtain rfl:=lf h
  have z:=p3<|sg 4 c2<|en (aI (rP (.bool true))<|trivial)
  exact bO qk3 call90 func90 (c:=qld) rfl (aI (ah p) trivial) z<|by kernel_rfl
 ·obtain⟨r4,br4,h⟩:=ay h
  obtain⟨r5,br5,h⟩:=ay h
  obtain rfl:=lf h
  have z:=p3<|sg 4 c2<|sv (bh p)<|bz (j4 br4)<|bz (rO br5)<|en (aI (rP (.bool r5))<|trivial)
  exact bO qk3 call90 func90 (c:=qld) rfl (aI (ah p) trivial) z<|by kernel_rfl
noncomputable def qjL:Code:=f97.body.getD .skip
def qgD:List Nat:=[25]
section
variable(t8:waB)(t9:Int)(v:Bool)(t10:Int)(m:Int)(m2:af)(m3:Int)(m4:waB)(m5:Int)(m6:af)(m7:Int)(m8:waB)
def jr:aC:=be 33 [(2,.bptr 0 0),(3,.bptr 1 0),(4,.bool v),(8,sl ac t8),(9,.int .i64 t9),(10,.int .i64 t10)] [.cells [.int .i64 m,.str m2,.int .i64 m3,sl ac m4] [(3,36)],.cells [.int .i64 m5,.str m6,.int .i64 m7,sl ac m8] []] []
def pz(o:(Int×af×Int×waB×Int×af×Int×waB)⊕(Int×af×Int×waB×Int×af×Int×waB)):Exit:=match o with
 |(.inl _)=>.ret
 |(.inr _)=>.exit 0
def lI(o:(Int×af×Int×waB×Int×af×Int×waB)⊕(Int×af×Int×waB×Int×af×Int×waB)):aC:=match o with
 |(.inl o)=>be 33 [(2,.bptr 0 0)] [.cells [.int .i64 o.1,.str o.2.1,.int .i64 o.2.2.1,sl ac o.2.2.2.1] [(3,36)],.cells [.int .i64 o.2.2.2.2.1,.str o.2.2.2.2.2.1,.int .i64 o.2.2.2.2.2.2.1,sl ac o.2.2.2.2.2.2.2] []] []
 |(.inr o)=>be 33 [(2,.bptr 0 0),(3,.bptr 1 0)] [.cells [.int .i64 o.1,.str o.2.1,.int .i64 o.2.2.1,sl ac o.2.2.2.1] [(3,36)],.cells [.int .i64 o.2.2.2.2.1,.str o.2.2.2.2.2.1,.int .i64 o.2.2.2.2.2.2.1,sl ac o.2.2.2.2.2.2.2] []] []
def g8:Option ((Bool×Int×Int×af×Int×waB×Int×af×Int×waB)⊕((Int×af×Int×waB×Int×af×Int×waB)⊕(Int×af×Int×waB×Int×af×Int×waB))):=
 if (decide (t10 < t9)) = true then
  (cz t8 t10).bind fun x3=>
  (Bd x3).bind fun r4=>
  if r4=true then
   some (.inl (v,aS (t10+1),m,m2,m3,m4,m5,m6,m7,m8))
  else
   (g9 false).bind fun r7=>
   (j3 x3 r7).bind fun r8=>
   if r8=true then
    (g9 false).bind fun r11=>
    some (.inr (.inl (r11.Op,r11.Name,r11.N,r11.Kids,m5,m6,m7,m8)))
   else
    if v=true then
     (qA x3).bind fun r14=>
     some (.inl (v,aS (t10+1),m,m2,m3,m4,15,([]:af),0,([(⟨m5,m6,m7,m8⟩:aa),r14]:List aa)))
    else
     (qA x3).bind fun r15=>
     some (.inl (true,aS (t10+1),m,m2,m3,m4,r15.Op,r15.Name,r15.N,r15.Kids))
 else
  some (.inr (.inr (m,m2,m3,m4,m5,m6,m7,m8)))
def FB:Option ((Int×af×Int×waB×Int×af×Int×waB)⊕(Int×af×Int×waB×Int×af×Int×waB)):=loop (fun(zz:Bool×Int×Int×af×Int×waB×Int×af×Int×waB)=>g8 t8 t9 zz.1 zz.2.1 zz.2.2.1 zz.2.2.2.1 zz.2.2.2.2.1 zz.2.2.2.2.2.1 zz.2.2.2.2.2.2.1 zz.2.2.2.2.2.2.2.1 zz.2.2.2.2.2.2.2.2.1 zz.2.2.2.2.2.2.2.2.2) (v,t10,m,m2,m3,m4,m5,m6,m7,m8)
theorem Oj{y:(Bool×Int×Int×af×Int×waB×Int×af×Int×waB)⊕((Int×af×Int×waB×Int×af×Int×waB)⊕(Int×af×Int×waB×Int×af×Int×waB))}(h:g8 t8 t9 v t10 m m2 m3 m4 m5 m6 m7 m8=some y):aV Pg GE 0 (cA qjL 119) (LQ (fun(zz:Bool×Int×Int×af×Int×waB×Int×af×Int×waB)=>jr t8 t9 zz.1 zz.2.1 zz.2.2.1 zz.2.2.2.1 zz.2.2.2.2.1 zz.2.2.2.2.2.1 zz.2.2.2.2.2.2.1 zz.2.2.2.2.2.2.2.1 zz.2.2.2.2.2.2.2.2.1 zz.2.2.2.2.2.2.2.2.2) pz lI y) (jr t8 t9 v t10 m m2 m3 m4 m5 m6 m7 m8):=by
 rcases bj h with⟨c2,h⟩|⟨c2,h⟩
 ·obtain⟨x3,bx3,h⟩:=ay h
  obtain⟨r4,br4,h⟩:=ay h
  have p6:=fun{sc F} (r:PS sc F)=>sg 0 c2<|sv (bL.ia (k:=.i64) bx3)<|sv (bh x3)<|sx ib<|sx (cr x3)<|sv (bX x3 [])<|bz (KQ br4)<|r
  rcases bj h with⟨c5,h⟩|⟨c5,h⟩
  ·obtain rfl:=lf h
   have z:=p6<|sg 0 c5<|uP 0 .normal (jr t8 t9 v (aS (t10+1)) m m2 m3 m4 m5 m6 m7 m8) rfl (dF (aI (cZ rfl) (aI (cZ rfl) (aI trivial (aI (up (aj ah t8)) (aI trivial (aI trivial trivial))))))) (aI (aI trivial (aI trivial (aI trivial (aI (up (aj ah m4)) trivial)))) (aI (aI trivial (aI trivial (aI trivial (aI (up (aj ah m8)) trivial)))) trivial))
   exact dh (A:=qgD) mixed z<|by kernel_rfl
  ·obtain⟨r7,br7,h⟩:=ay h
   obtain⟨r8,br8,h⟩:=ay h
   have p10:=fun{sc F} (r:PS sc F)=>p6<|sg 0 c5<|lK [0,0,3,7]<|sv (bX x3 [])<|bz (j4 br7)<|bz (rO br8)<|r
   rcases bj h with⟨c9,h⟩|⟨c9,h⟩
   ·obtain⟨r11,br11,h⟩:=ay h
    obtain rfl:=lf h
    have z:=p10<|sg 0 c9<|bz (j4 br11)<|sy (aK r11)<|uP 0 (pz (.inl (r11.Op,r11.Name,r11.N,r11.Kids,m5,m6,m7,m8))) (lI (.inl (r11.Op,r11.Name,r11.N,r11.Kids,m5,m6,m7,m8))) rfl (dF (aI (cZ rfl) trivial)) (aI (aI trivial (aI trivial (aI trivial (aI (up (aj ah r11.Kids)) trivial)))) (aI (aI trivial (aI trivial (aI trivial (aI (up (aj ah m8)) trivial)))) trivial))
    exact IN (A:=qgD) mixed (by intro hx;cases hx) z<|by kernel_rfl
   ·have p13:=fun{sc F} (r:PS sc F)=>p10<|sg 0 c9<|r
    rcases bj h with⟨c12,h⟩|⟨c12,h⟩
    ·obtain⟨r14,br14,h⟩:=ay h
     obtain rfl:=lf h
     have z:=p13<|sg 0 c12<|lK [0,0,2,7,15,31]<|sv (bX (⟨m5,m6,m7,m8⟩:aa) [])<|sv (bX x3 [])<|bz (rQ br14)<|sv (bL.mk' (v:=dZ) cP ([(⟨m5,m6,m7,m8⟩:aa),r14]:List aa) 2 (by kernel_rfl))<|sv (J4 15 ([(⟨m5,m6,m7,m8⟩:aa),r14]:List aa))<|sx (cr (⟨15,([]:af),0,([(⟨m5,m6,m7,m8⟩:aa),r14]:List aa)⟩:aa))<|uP 0 .normal (jr t8 t9 v (aS (t10+1)) m m2 m3 m4 15 ([]:af) 0 ([(⟨m5,m6,m7,m8⟩:aa),r14]:List aa)) rfl (dF (aI (cZ rfl) (aI (cZ rfl) (aI trivial (aI (up (aj ah t8)) (aI trivial (aI trivial trivial))))))) (aI (aI trivial (aI trivial (aI trivial (aI (up (aj ah m4)) trivial)))) (aI (aI trivial (aI trivial (aI trivial (aI (up (aj ah ([(⟨m5,m6,m7,m8⟩:aa),r14]:List aa))) trivial)))) trivial))
     exact dh (A:=qgD) mixed z<|by kernel_rfl
    ·obtain⟨r15,br15,h⟩:=ay h
     obtain rfl:=lf h
     have z:=p13<|sg 0 c12<|sv (bX x3 [])<|bz (rQ br15)<|sy (aK r15)<|uP 0 .normal (jr t8 t9 true (aS (t10+1)) m m2 m3 m4 r15.Op r15.Name r15.N r15.Kids) rfl (dF (aI (cZ rfl) (aI (cZ rfl) (aI trivial (aI (up (aj ah t8)) (aI trivial (aI trivial trivial))))))) (aI (aI trivial (aI trivial (aI trivial (aI (up (aj ah m4)) trivial)))) (aI (aI trivial (aI trivial (aI trivial (aI (up (aj ah r15.Kids)) trivial)))) trivial))
     exact dh (A:=qgD) mixed z<|by kernel_rfl
 ·obtain rfl:=lf h
  have z:=sg 0 c2<|eF (pz (.inr (m,m2,m3,m4,m5,m6,m7,m8))) (lI (.inr (m,m2,m3,m4,m5,m6,m7,m8)))
  exact gg qgD (by intro hx;cases hx) z<|by kernel_rfl
theorem FC{x:(Int×af×Int×waB×Int×af×Int×waB)⊕(Int×af×Int×waB×Int×af×Int×waB)}(h:FB t8 t9 v t10 m m2 m3 m4 m5 m6 m7 m8=some x):aV Pg GE 0 (.loop (cA qjL 119)) (EX (pz x) (lI x)) (jr t8 t9 v t10 m m2 m3 m4 m5 m6 m7 m8):=
 aV.loop (S:=fun(zz:Bool×Int×Int×af×Int×waB×Int×af×Int×waB)=>jr t8 t9 zz.1 zz.2.1 zz.2.2.1 zz.2.2.2.1 zz.2.2.2.2.1 zz.2.2.2.2.2.1 zz.2.2.2.2.2.2.1 zz.2.2.2.2.2.2.2.1 zz.2.2.2.2.2.2.2.2.1 zz.2.2.2.2.2.2.2.2.2) (ex:=pz) (s:=(v,t10,m,m2,m3,m4,m5,m6,m7,m8)) h fun zz y hy=>Oj t8 t9 zz.1 zz.2.1 zz.2.2.1 zz.2.2.2.1 zz.2.2.2.2.1 zz.2.2.2.2.2.1 zz.2.2.2.2.2.2.1 zz.2.2.2.2.2.2.2.1 zz.2.2.2.2.2.2.2.2.1 zz.2.2.2.2.2.2.2.2.2 hy
end
def KJ(a:waB):Option aa:=
 (g9 true).bind fun r1=>
 (FB a (a.length:Int) false 0 0 ([]:af) 0 ([]:List aa) r1.Op r1.Name r1.N r1.Kids).bind fun o16=>match o16 with
 |(.inl o16)=>
  some (⟨o16.1,o16.2.1,o16.2.2.1,o16.2.2.2.1⟩:aa)
 |(.inr o16)=>
  some (⟨o16.2.2.2.2.1,o16.2.2.2.2.2.1,o16.2.2.2.2.2.2.1,o16.2.2.2.2.2.2.2⟩:aa)
theorem X3{a:waB}{r:aa}(h:KJ a=some r):CC Pg GE 97 [sl ac a] (.agg (ac r)) []:=by
 obtain⟨r1,br1,h⟩:=ay h
 obtain⟨o16,bo16,h⟩:=ay h
 rcases o16 with o16|o16
 ·obtain rfl:=lf h
  have z:=sx ib<|bz (j4 br1)<|sx ib<|sy (aK r1)<|cq (bL.ln a)<|cY (e:=.ret) (s1:=lI (.inl o16)) (FC a (a.length:Int) false 0 0 ([]:af) 0 ([]:List aa) r1.Op r1.Name r1.N r1.Kids bo16)<|en (aI (dm (⟨o16.1,o16.2.1,o16.2.2.1,o16.2.2.2.1⟩:aa))<|(ah (⟨o16.1,o16.2.1,o16.2.2.1,o16.2.2.2.1⟩:aa)))
  exact bO qgD call97 func97 (c:=qjL) rfl (aI (aj ah a) trivial) z<|by kernel_rfl
 ·obtain rfl:=lf h
  have z:=sx ib<|bz (j4 br1)<|sx ib<|sy (aK r1)<|cq (bL.ln a)<|cY (e:=.exit 0) (s1:=lI (.inr o16)) (FC a (a.length:Int) false 0 0 ([]:af) 0 ([]:List aa) r1.Op r1.Name r1.N r1.Kids bo16)<|sv (bX (⟨o16.2.2.2.2.1,o16.2.2.2.2.2.1,o16.2.2.2.2.2.2.1,o16.2.2.2.2.2.2.2⟩:aa) [])<|sx (cr (⟨o16.2.2.2.2.1,o16.2.2.2.2.2.1,o16.2.2.2.2.2.2.1,o16.2.2.2.2.2.2.2⟩:aa))<|en (aI (dm (⟨o16.2.2.2.2.1,o16.2.2.2.2.2.1,o16.2.2.2.2.2.2.1,o16.2.2.2.2.2.2.2⟩:aa))<|(ah (⟨o16.2.2.2.2.1,o16.2.2.2.2.2.1,o16.2.2.2.2.2.2.1,o16.2.2.2.2.2.2.2⟩:aa)))
  exact bO qgD call97 func97 (c:=qjL) rfl (aI (aj ah a) trivial) z<|by kernel_rfl
noncomputable def qks:Code:=f80.body.getD .skip
def qjp:List Nat:=[]
section
variable(v:waB)(i:Int)(v2:aa)(m:waB)
def Ou:aC:=be 26 [(0,sl ac v),(1,.int .i64 i),(5,.eptr (ac v2)),(6,.bptr 1 0)] [.dead,.cells [.int .i64 0,.str ([]:af),.int .i64 0,sl ac m] [(3,36)]] []
def vI(o:Bool):aC:=be 26 [(0,sl ac v),(1,.int .i64 i),(5,.eptr (ac v2)),(6,.bptr 1 0),(18,.bool o)] [.dead,.cells [.int .i64 0,.str ([]:af),.int .i64 0,sl ac m] [(3,36)]] []
def Aq:Option Bool:=
 if(decide (i>=(v.length:Int)))=true then
  some true
 else
  (cz v i).bind fun x2=>
  (j3 x2 (⟨0,([]:af),0,([]:List aa)⟩:aa)).bind fun r3=>
  some r3
theorem My{x:Bool}(h:Aq v i=some x):aV Pg GE 0 (cA qks 12) (EX .normal (vI v i v2 m x)) (Ou v i v2 m):=by
 rcases bj h with⟨c1,h⟩|⟨c1,h⟩
 ·obtain rfl:=lf h
  exact cf qjp (cq (bL.ln v)<|sg 5 c1<|eF .normal (vI v i v2 m true))<|by kernel_rfl
 ·obtain⟨x2,bx2,h⟩:=ay h
  obtain⟨r3,br3,h⟩:=ay h
  obtain rfl:=lf h
  exact cf qjp (cq (bL.ln v)<|sg 5 c1<|sv (bL.ia (k:=.i64) bx2)<|sv (bh x2)<|sb (tb) (ta)<|bz (rO br3)<|eF .normal (vI v i v2 m r3))<|by kernel_rfl
end
def ym(a:waB)(i:Int)(a2:aa):Option aa:=
 (Aq a i).bind fun o4=>
 if o4=true then
  (KJ ([]:List aa)).bind fun r7=>
  some r7
 else
  (cz a i).bind fun x8=>
  (yg x8 ([118]:af) a2).bind fun r9=>
  some r9
theorem HG{a:waB}{i:Int}{a2:aa}{r:aa}(h:ym a i a2=some r):CC Pg GE 80 [sl ac a,.int .i64 i,.agg (ac a2)] (.agg (ac r)) []:=by
 obtain⟨o4,bo4,h⟩:=ay h
 have p6:=fun{sc F} (r:PS sc F)=>se (bU a2)<|sx ib<|ka 1<|cY (My a i a2 ([]:List aa) bo4)<|r
 rcases bj h with⟨c5,h⟩|⟨c5,h⟩
 ·obtain⟨r7,br7,h⟩:=ay h
  obtain rfl:=lf h
  have z:=p6<|sg 0 c5<|bz (X3 br7)<|sx (cr r7)<|en (aI (dm r7)<|(ah r7))
  exact bO qjp call80 func80 (c:=qks) rfl (aI (aj ah a) (aI trivial (aI (ah a2) trivial))) z<|by kernel_rfl
 ·obtain⟨x8,bx8,h⟩:=ay h
  obtain⟨r9,br9,h⟩:=ay h
  obtain rfl:=lf h
  have z:=p6<|sg 0 c5<|lK [0,0,3,7,0,31,63]<|sv (bL.ia (k:=.i64) bx8)<|sv (bh x8)<|sv (bh a2)<|bz (HF br9)<|qcq (cr r9)<|en (aI (dm r9)<|(ah r9))
  exact bO qjp call80 func80 (c:=qks) rfl (aI (aj ah a) (aI trivial (aI (ah a2) trivial))) z<|by kernel_rfl
noncomputable def qjC:Code:=f53.body.getD .skip
def qjn:List Nat:=[55,58]
section
variable(w:aZ)(v:ae)(v2:ae)(name:af)(t51:waF)(t52:Int)(m:waB)(m2:waD)(m3:af)(m4:waA)(m5:waG)(v3:waD)(t53:Int)
def eD:aC:=be 82 [(4,.eptr (aW w)),(5,.eptr (ag v)),(6,.eptr (ag v2)),(8,.bptr 3 0),(9,.str name),(10,.bptr 4 0),(13,sl au v3),(51,sl bH t51),(52,.int .i64 t52),(53,.int .i64 t53)] [.dead,.dead,.dead,.cells [.int .i64 0,.str ([]:af),.str ([]:af),.int .i64 0,.str ([]:af),.int .i64 0,sl ac m,.int .i64 0,sl au m2] [(6,36),(8,50)],.cells [.int .i64 3,.str name,.int .i64 0,sl ac m] [(3,36)],.cells [.str m3,sl cS m4,sl bH t51,sl ef m5] []] [((13,0),50)]
def jw(o:waD):aC:=be 82 [(8,.bptr 3 0),(13,sl au o)] [.dead,.dead,.dead,.cells [.int .i64 0,.str ([]:af),.str ([]:af),.int .i64 0,.str ([]:af),.int .i64 0,sl ac m,.int .i64 0,sl au m2] [(6,36),(8,50)],.cells [.int .i64 3,.str name,.int .i64 0,sl ac m] [(3,36)],.cells [.str m3,sl cS m4,sl bH t51,sl ef m5] []] [((13,0),50)]
def dV:Option ((waD×Int)⊕(waD)):=
 if(decide (t53<t52))=true then
  (cz t51 t53).bind fun x11=>
  (ym v.Preds t53 (⟨3,name,0,m⟩:aa)).bind fun r12=>
  (ym v2.Preds t53 (⟨3,name,0,m⟩:aa)).bind fun r13=>
  (fi w name x11.Sort_ r12 r13).bind fun r14=>
  (app v3 ([r14]:List ai)).bind fun l15=>
  some (.inl (l15,aS (t53+1)))
 else
  some (.inr v3)
def ky:Option waD:=loop (fun(zz:waD×Int)=>dV w v v2 name t51 t52 m zz.1 zz.2) (v3,t53)
theorem yn{y:(waD×Int)⊕(waD)}(h:dV w v v2 name t51 t52 m v3 t53=some y):aV Pg GE 0 (cA qjC 16215) (LQ (fun(zz:waD×Int)=>eD w v v2 name t51 t52 m m2 m3 m4 m5 zz.1 zz.2) (fun _=>.exit 0) (jw name t51 m m2 m3 m4 m5) y) (eD w v v2 name t51 t52 m m2 m3 m4 m5 v3 t53):=by
 rcases bj h with⟨c10,h⟩|⟨c10,h⟩
 ·obtain⟨x11,bx11,h⟩:=ay h
  obtain⟨r12,br12,h⟩:=ay h
  obtain⟨r13,br13,h⟩:=ay h
  obtain⟨r14,br14,h⟩:=ay h
  obtain⟨l15,bl15,h⟩:=ay h
  obtain rfl:=lf h
  have z:=sg 0 c10<|sv (I3.ia (k:=.i64) bx11)<|sv (qfo x11)<|sx qi3<|sx (qdQ x11)<|lK [0,0,0,0,8,0,32,0,0,480,0,1024,0,0,16352,32766,65534,131071,262143]<|sv (e9 w)<|ss<|sv (du v)<|sv (dv v)<|sv (bX (⟨3,name,0,m⟩:aa) [])<|bz (HG br12)<|sv (du v2)<|sv (dv v2)<|sv (bX (⟨3,name,0,m⟩:aa) [])<|bz (HG br13)<|bz (nQ br14)<|sv (lQ.mk' (v:=jF) fM ([r14]:List ai) 1 (by kernel_rfl))<|sv (lQ.ap bl15)<|uP 0 .normal (eD w v v2 name t51 t52 m m2 m3 m4 m5 l15 (aS (t53+1))) rfl (dF (aI (im (dt w)) (aI (im (ak v)) (aI (im (ak v2)) (aI (cZ rfl) (aI trivial (aI (cZ rfl) (aI (up (aj aX l15)) (aI (up (aj lZ t51)) (aI trivial (aI trivial trivial))))))))))) (aI trivial (aI trivial (aI trivial (aI (aI trivial (aI trivial (aI trivial (aI trivial (aI trivial (aI trivial (aI (up (aj ah m)) (aI trivial (aI (up (aj aX m2)) trivial))))))))) (aI (aI trivial (aI trivial (aI trivial (aI (up (aj ah m)) trivial)))) (aI (aI trivial (aI (up (aj dN m4)) (aI (up (aj lZ t51)) (aI (up (aj Gk m5)) trivial)))) trivial))))))
  exact dh (A:=qjn) mixed z<|by kernel_rfl
 ·obtain rfl:=lf h
  have z:=sg 0 c10<|eF (.exit 0) (jw name t51 m m2 m3 m4 m5 v3)
  exact gg qjn (by intro hx;cases hx) z<|by kernel_rfl
theorem yy{x:waD}(h:ky w v v2 name t51 t52 m v3 t53=some x):aV Pg GE 0 (.loop (cA qjC 16215)) (EX (.exit 0) (jw name t51 m m2 m3 m4 m5 x)) (eD w v v2 name t51 t52 m m2 m3 m4 m5 v3 t53):=
 aV.loop (S:=fun(zz:waD×Int)=>eD w v v2 name t51 t52 m m2 m3 m4 m5 zz.1 zz.2) (ex:=(fun _=>.exit 0)) (s:=(v3,t53)) h fun zz y hy=>yn w v v2 name t51 t52 m m2 m3 m4 m5 zz.1 zz.2 hy
end
def jD(w:aZ)(a:ae)(a2:ae)(used:waA):Option ai:=
 (mW used ([118,49]:af)).bind fun r1=>
 (zp a).bind fun r2=>
 (GI r2).bind fun r3=>
 (tv a (⟨3,r1,0,([]:List aa)⟩:aa)).bind fun r4=>
 (tv a2 (⟨3,r1,0,([]:List aa)⟩:aa)).bind fun r5=>
 (fi w r1 r3.1 r4 r5).bind fun r6=>
 if(a.Op==4)=true then
  (zn w.m a.Name).bind fun r9=>
  (ky w a a2 r1 r9.1.Preds (r9.1.Preds.length:Int) ([]:List aa) ([r6]:List ai) 0).bind fun o16=>
  (mN o16).bind fun r17=>
  some r17
 else
  (cz ([r6]:List ai) 0).bind fun x18=>
  some x18
theorem C1{w:aZ}{a:ae}{a2:ae}{used:waA}{r:ai}(h:jD w a a2 used=some r):CC Pg GE 53 [.agg (aW w),.agg (ag a),.agg (ag a2),sl cS used] (.agg (au r)) []:=by
 obtain⟨r1,br1,h⟩:=ay h
 obtain⟨r2,br2,h⟩:=ay h
 obtain⟨r3,br3,h⟩:=ay h
 obtain⟨r4,br4,h⟩:=ay h
 obtain⟨r5,br5,h⟩:=ay h
 obtain⟨r6,br6,h⟩:=ay h
 have p8:=fun{sc F} (r:PS sc F)=>se (jb w)<|se (bw a)<|se (bw a2)<|sx nK<|bz (yb br1)<|sb (ko 3 r1) (kl 3 r1)<|sx ib<|sy (aK (⟨3,r1,0,([]:List aa)⟩:aa))<|sv (aN a)<|bz (FW br2)<|bz (Ry br3)<|lK [0,0,0,0,0,24,0,0,248,511,1023,2047]<|sv (e9 w)<|sv (aN a)<|sv (bX (⟨3,r1,0,([]:List aa)⟩:aa) [])<|bz (Ap br4)<|sv (aN a2)<|sv (bX (⟨3,r1,0,([]:List aa)⟩:aa) [])<|bz (Ap br5)<|bz (nQ br6)<|sv (lQ.mk' (v:=jF) fM ([r6]:List ai) 1 (by kernel_rfl))<|sv (aD a)<|sv (aE a)<|r
 rcases bj h with⟨c7,h⟩|⟨c7,h⟩
 ·obtain⟨r9,br9,h⟩:=ay h
  obtain⟨o16,bo16,h⟩:=ay h
  obtain⟨r17,br17,h⟩:=ay h
  obtain rfl:=lf h
  have z:=p8<|sg 0 c7<|sv (AV w)<|sv (CI w)<|sv (cx a)<|sv (cT a)<|bz (Rz br9)<|sx Zz<|sx (A4 r9.1)<|ss<|cq (I3.ln r9.1.Preds)<|cY (yy w a a2 r1 r9.1.Preds (r9.1.Preds.length:Int) ([]:List aa) ([]:List ai) r9.1.Name r9.1.Vars r9.1.Cons ([r6]:List ai) 0 bo16)<|bz (rD br17)<|sy (bM r17)<|en (aI (ck r17)<|(aX r17))
  exact bO qjn call53 func53 (c:=qjC) rfl (aI (dt w) (aI (ak a) (aI (ak a2) (aI (aj dN used) trivial)))) z<|by kernel_rfl
 ·obtain⟨x18,bx18,h⟩:=ay h
  obtain rfl:=lf h
  have z:=p8<|sg 0 c7<|sv (lQ.ia (k:=.i64) bx18)<|sv (ja x18)<|sx (cj x18)<|en (aI (ck x18)<|(aX x18))
  exact bO qjn call53 func53 (c:=qjC) rfl (aI (dt w) (aI (ak a) (aI (ak a2) (aI (aj dN used) trivial)))) z<|by kernel_rfl
noncomputable def qjx:Code:=f35.body.getD .skip
def qji:List Nat:=[]
def ji(R51:d7)(w:aZ)(a:ae)(a2:ae)(used:waA):Option ai:=
 if(a.Op==6)=true then
  if((a.Args.length:Int)==0)=true then
   some (⟨1,([]:af),([]:af),(⟨0,([]:af),0,([]:List aa)⟩:aa),0,([]:List ai)⟩:ai)
  else
   (gA R51 w a a2 used).bind fun r5=>
   some r5
 else
  (jh a).bind fun r6=>
  if(!r6)=true then
   some (⟨1,([]:af),([]:af),(⟨0,([]:af),0,([]:List aa)⟩:aa),0,([]:List ai)⟩:ai)
  else
   (jD w a a2 used).bind fun r9=>
   some r9
theorem C3(R51:d7)(hR51:iS R51){w:aZ}{a:ae}{a2:ae}{used:waA}{r:ai}(h:ji R51 w a a2 used=some r):CC Pg GE 35 [.agg (aW w),.agg (ag a),.agg (ag a2),sl cS used] (.agg (au r)) []:=by
 have p2:=fun{sc F} (r:PS sc F)=>se (jb w)<|se (bw a)<|se (bw a2)<|sx nK<|sv (e9 w)<|sv (aD a)<|sv (aE a)<|r
 rcases bj h with⟨c1,h⟩|⟨c1,h⟩
 ·have p4:=fun{sc F} (r:PS sc F)=>p2<|sg 0 c1<|sv (aL a)<|sv (aM a)<|cq (ct.ln a.Args)<|r
  rcases bj h with⟨c3,h⟩|⟨c3,h⟩
  ·obtain rfl:=lf h
   have z:=p4<|sg 0 c3<|sb (xN 1) (xM 1)<|sy (bM (⟨1,([]:af),([]:af),(⟨0,([]:af),0,([]:List aa)⟩:aa),0,([]:List ai)⟩:ai))<|en (aI (ck (⟨1,([]:af),([]:af),(⟨0,([]:af),0,([]:List aa)⟩:aa),0,([]:List ai)⟩:ai))<|(aX (⟨1,([]:af),([]:af),(⟨0,([]:af),0,([]:List aa)⟩:aa),0,([]:List ai)⟩:ai)))
   exact bO qji call35 func35 (c:=qjx) rfl (aI (dt w) (aI (ak a) (aI (ak a2) (aI (aj dN used) trivial)))) z<|by kernel_rfl
  ·obtain⟨r5,br5,h⟩:=ay h
   obtain rfl:=lf h
   have z:=p4<|sg 0 c3<|sv (e9 w)<|sv (aN a)<|sv (aN a2)<|bz (yo R51 hR51 br5)<|sx (cj r5)<|en (aI (ck r5)<|(aX r5))
   exact bO qji call35 func35 (c:=qjx) rfl (aI (dt w) (aI (ak a) (aI (ak a2) (aI (aj dN used) trivial)))) z<|by kernel_rfl
 ·obtain⟨r6,br6,h⟩:=ay h
  have p8:=fun{sc F} (r:PS sc F)=>p2<|sg 0 c1<|sv (aN a)<|bz (kZ br6)<|r
  rcases bj h with⟨c7,h⟩|⟨c7,h⟩
  ·obtain rfl:=lf h
   have z:=p8<|sg 0 c7<|sb (xN 1) (xM 1)<|sy (bM (⟨1,([]:af),([]:af),(⟨0,([]:af),0,([]:List aa)⟩:aa),0,([]:List ai)⟩:ai))<|en (aI (ck (⟨1,([]:af),([]:af),(⟨0,([]:af),0,([]:List aa)⟩:aa),0,([]:List ai)⟩:ai))<|(aX (⟨1,([]:af),([]:af),(⟨0,([]:af),0,([]:List aa)⟩:aa),0,([]:List ai)⟩:ai)))
   exact bO qji call35 func35 (c:=qjx) rfl (aI (dt w) (aI (ak a) (aI (ak a2) (aI (aj dN used) trivial)))) z<|by kernel_rfl
  ·obtain⟨r9,br9,h⟩:=ay h
   obtain rfl:=lf h
   have z:=p8<|sg 0 c7<|sv (aN a)<|sv (aN a2)<|bz (C1 br9)<|sx (cj r9)<|en (aI (ck r9)<|(aX r9))
   exact bO qji call35 func35 (c:=qjx) rfl (aI (dt w) (aI (ak a) (aI (ak a2) (aI (aj dN used) trivial)))) z<|by kernel_rfl
def nj:((aZ×ae×ae×waA)->Option ai)->(aZ×ae×ae×waA)->Option ai:=fun(rec:(aZ×ae×ae×waA)->Option ai) (x:aZ×ae×ae×waA)=>ji (fun w a a2 used=>rec (w,a,a2,used)) x.1 x.2.1 x.2.2.1 x.2.2.2
def qk(w:aZ)(a:ae)(a2:ae)(used:waA):Option ai:=kK nj (w,a,a2,used)
theorem DI{w:aZ}{a:ae}{a2:ae}{used:waA}{r:ai}(h:qk w a a2 used=some r):CC Pg GE 35 [.agg (aW w),.agg (ag a),.agg (ag a2),sl cS used] (.agg (au r)) []:=
 cG (F:=nj) (M:=fun(x:aZ×ae×ae×waA) (r:ai)=>CC Pg GE 35 [.agg (aW x.1),.agg (ag x.2.1),.agg (ag x.2.2.1),sl cS x.2.2.2] (.agg (au r)) []) (fun rec hrec x r h=>C3 _ (fun w a a2 used r h=>hrec (w,a,a2,used) r h) h) h
noncomputable def qk6:Code:=f12.body.getD .skip
def qkW:List Nat:=[]
def kg(m:aG)(a:ae)(a2:ae)(tag:Int)(used:waA):Option (ai×Int):=
 (I8 a a2).bind fun r1=>
 if(!r1)=true then
  some ((⟨0,([]:af),([]:af),(⟨0,([]:af),0,([]:List aa)⟩:aa),0,([]:List ai)⟩:ai),12)
 else
  (qk (⟨m,tag⟩:aZ) a a2 used).bind fun r4=>
  some (r4,0)
theorem ni{m:aG}{a:ae}{a2:ae}{tag:Int}{used:waA}{r:ai×Int}(h:kg m a a2 tag used=some r):CC Pg GE 12 [.agg (aB m),.agg (ag a),.agg (ag a2),.int .i64 tag,sl cS used] (.tuple [.agg (au r.1),.int .i64 r.2]) []:=by
 obtain⟨r1,br1,h⟩:=ay h
 have p3:=fun{sc F} (r:PS sc F)=>se (gE m)<|se (bw a)<|se (bw a2)<|sx nK<|sv (aN a)<|sv (aN a2)<|bz (Ta br1)<|r
 rcases bj h with⟨c2,h⟩|⟨c2,h⟩
 ·obtain rfl:=lf h
  have z:=p3<|sg 0 c2<|sb (pZ) (pY)<|sy (bM (⟨0,([]:af),([]:af),(⟨0,([]:af),0,([]:List aa)⟩:aa),0,([]:List ai)⟩:ai))<|en (aI (va3 PVal.tuple (fp (ck (⟨0,([]:af),([]:af),(⟨0,([]:af),0,([]:List aa)⟩:aa),0,([]:List ai)⟩:ai)) (fp (rP (.int .i64 12)) (rfl:([]:List PVal)=[]))))<|(aI (aX (⟨0,([]:af),([]:af),(⟨0,([]:af),0,([]:List aa)⟩:aa),0,([]:List ai)⟩:ai)) (aI trivial trivial)))
  exact bO qkW call12 func12 (c:=qk6) rfl (aI (cu m) (aI (ak a) (aI (ak a2) (aI trivial (aI (aj dN used) trivial))))) z<|by kernel_rfl
 ·obtain⟨r4,br4,h⟩:=ay h
  obtain rfl:=lf h
  have z:=p3<|sg 0 c2<|sv (fa m)<|sv (Dx m tag)<|sv (aN a)<|sv (aN a2)<|bz (DI br4)<|sx (cj r4)<|en (aI (va3 PVal.tuple (fp (ck r4) (fp (rP (.int .i64 0)) (rfl:([]:List PVal)=[]))))<|(aI (aX r4) (aI trivial trivial)))
  exact bO qkW call12 func12 (c:=qk6) rfl (aI (cu m) (aI (ak a) (aI (ak a2) (aI trivial (aI (aj dN used) trivial))))) z<|by kernel_rfl
abbrev lY:=(ai->aO->waE->Option waE)
abbrev qI(R:lY):Prop:=∀(c:ai) (above:aO) (a:waE) (r:waE),R c above a=some r->C Pg GE 41 [.agg (au c),.agg (aY above),sl aY a] [((2,0),62)] [] (sl aY r) [(0,62)] []
abbrev Cl:=(aa->Option waB)
abbrev Uv(R:Cl):Prop:=∀(p:aa) (r:waB),R p=some r->CC Pg GE 63 [.agg (ac p)] (sl ac r) [(0,36)]
noncomputable def qjE:Code:=f63.body.getD .skip
def qh6:List Nat:=[]
section
variable(p:aa)
def Ok:aC:=be 28 [(1,.eptr (ac p))] [.dead] []
def vw(o:Bool):aC:=be 28 [(1,.eptr (ac p)),(11,.bool o)] [.dead] []
def HD:Option Bool:=
 if(p.Op==15)=true then
  some ((p.Kids.length:Int)==2)
 else
  some false
theorem Mm{x:Bool}(h:HD p=some x):aV Pg GE 0 (cA qjE 12) (EX .normal (vw p x)) (Ok p):=by
 have p2:=fun{sc F} (r:PS sc F)=>sv (bE p)<|sv (bF p)<|r
 rcases bj h with⟨c1,h⟩|⟨c1,h⟩
 ·obtain rfl:=lf h
  exact cf qh6 (p2<|sg 4 c1<|sv (bC p)<|sv (bD p)<|cq (bL.ln p.Kids)<|eF .normal (vw p ((p.Kids.length:Int)==2)))<|by kernel_rfl
 ·obtain rfl:=lf h
  exact cf qh6 (p2<|sg 4 c1<|eF .normal (vw p false))<|by kernel_rfl
end
def KL(R93:Cl)(p:aa):Option waB:=
 (HD p).bind fun o3=>
 if o3=true then
  (cz p.Kids 0).bind fun x6=>
  (R93 x6).bind fun r7=>
  (cz p.Kids 1).bind fun x8=>
  (R93 x8).bind fun r9=>
  (app r7 r9).bind fun l10=>
  some l10
 else
  (Bd p).bind fun r11=>
  if r11=true then
   some ([]:List aa)
  else
   (qA p).bind fun r14=>
   some ([r14]:List aa)
theorem Rg(R93:Cl)(hR93:Uv R93){p:aa}{r:waB}(h:KL R93 p=some r):CC Pg GE 63 [.agg (ac p)] (sl ac r) [(0,36)]:=by
 obtain⟨o3,bo3,h⟩:=ay h
 have p5:=fun{sc F} (r:PS sc F)=>se (bU p)<|ka 1<|cY (Mm p bo3)<|r
 rcases bj h with⟨c4,h⟩|⟨c4,h⟩
 ·obtain⟨x6,bx6,h⟩:=ay h
  obtain⟨r7,br7,h⟩:=ay h
  obtain⟨x8,bx8,h⟩:=ay h
  obtain⟨r9,br9,h⟩:=ay h
  obtain⟨l10,bl10,h⟩:=ay h
  obtain rfl:=lf h
  have z:=p5<|sg 0 c4<|lK [0,1,3,7,15,0,32,96,224,511,1023,2047]<|sv (bC p)<|sv (bD p)<|sv (bL.ia (k:=.i64) bx6)<|sv (bh x6)<|bz (hR93 _ _ br7)<|sv (bC p)<|sv (bD p)<|sv (bL.ia (k:=.i64) bx8)<|sv (bh x8)<|bz (hR93 _ _ br9)<|sv (bL.ap bl10)<|en (aI (rP (sl ac l10))<|(aj ah l10))
  exact bO qh6 call63 func63 (c:=qjE) rfl (aI (ah p) trivial) z<|by kernel_rfl
 ·obtain⟨r11,br11,h⟩:=ay h
  have p13:=fun{sc F} (r:PS sc F)=>p5<|sg 0 c4<|sv (bh p)<|bz (KQ br11)<|r
  rcases bj h with⟨c12,h⟩|⟨c12,h⟩
  ·obtain rfl:=lf h
   have z:=p13<|sg 0 c12<|en (aI (rP (sl ac ([]:List aa)))<|(aj ah ([]:List aa)))
   exact bO qh6 call63 func63 (c:=qjE) rfl (aI (ah p) trivial) z<|by kernel_rfl
  ·obtain⟨r14,br14,h⟩:=ay h
   obtain rfl:=lf h
   have z:=p13<|sg 0 c12<|sv (bh p)<|bz (rQ br14)<|sv (bL.mk' (v:=dZ) cP ([r14]:List aa) 1 (by kernel_rfl))<|en (aI (rP (sl ac ([r14]:List aa)))<|(aj ah ([r14]:List aa)))
   exact bO qh6 call63 func63 (c:=qjE) rfl (aI (ah p) trivial) z<|by kernel_rfl
def KM:(aa->Option waB)->(aa)->Option waB:=fun(rec:aa->Option waB) (x:aa)=>KL (fun p=>rec p) x
def IT(p:aa):Option waB:=kK KM p
theorem HE{p:aa}{r:waB}(h:IT p=some r):CC Pg GE 63 [.agg (ac p)] (sl ac r) [(0,36)]:=
 cG (F:=KM) (M:=fun(x:aa) (r:waB)=>CC Pg GE 63 [.agg (ac x)] (sl ac r) [(0,36)]) (fun rec hrec x r h=>Rg _ (fun p r h=>hrec p r h) h) h
end Go.Proofs.YtbaamopmfmpfaaaGreatDoor
