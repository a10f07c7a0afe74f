/- PROVED: parts of the proof (G6). Conditions: none. -/
import Derived.Test.YtbaamopmfmpfaaaGreatDoorPkA19
noncomputable section
namespace Go.Proofs.YtbaamopmfmpfaaaGreatDoor
open Go
set_option linter.unusedVariables false
set_option maxRecDepth 100000
def qhl:Code:=Tryz.f34.body.getD .skip
def qem:List Nat:=[32]
section
variable(v:ae)(v2:ae)
def N7:aA:=be 46 [(2,.eptr (af v)),(3,.eptr (af v2))] [.dead,.dead] []
def pL(o:Bool):aA:=be 46 [(2,.eptr (af v)),(3,.eptr (af v2)),(26,.bool o)] [.dead,.dead] []
def Ai:Option Bool:=
 if(v.Op !=v2.Op)=true then
  some true
 else
  if(!(v.Name==v2.Name))=true then
   some true
  else
   some ((v.Args.length:Int)!=(v2.Args.length:Int))
theorem L7{x:Bool}(h:Ai v v2=some x):
  aU Pg GE 0 (cA qhl 12) (EX .normal (pL v v2 x)) (N7 v v2):=by
 have p2:=fun{sc F} (r:PS sc F)=>sv (aC v)<|sv (aD v)<|sv (aC v2)<|sv (aD v2)<|r
 rcases bj h with⟨c1,h⟩|⟨c1,h⟩
 ·obtain rfl:=lf h
  exact cd qem (p2<|sg 6 c1<|eF .normal (pL v v2 true)) (by kernel_rfl)
 ·have p4:=fun{sc F} (r:PS sc F)=>p2<|sg 6 c1<|sv (cq v)<|sv (cP v)<|sv (cq v2)<|sv (cP v2)<|r
  rcases bj h with⟨c3,h⟩|⟨c3,h⟩
  ·obtain rfl:=lf h
   exact cd qem (p4<|sg 13 c3<|eF .normal (pL v v2 true)) (by kernel_rfl)
  ·obtain rfl:=lf h
   exact cd qem (p4<|sg 13 c3<|sv (aK v)<|sv (aL v)<|cm (ck.ln v.Args)<|sv (aK v2)<|sv (aL v2)<|cm (ck.ln v2.Args)<|eF .normal (pL v v2 ((v.Args.length:Int)!=(v2.Args.length:Int)))) (by kernel_rfl)
end
section
variable(R50:vR)(v:ae)(v2:ae)(t29:Int)(t30:Int)
def kY:aA:=be 46 [(2,.eptr (af v)),(3,.eptr (af v2)),(29,.int .i64 t29),(30,.int .i64 t30)] [.dead,.dead] []
def kZ(o:Unit⊕(Unit)):Exit:=match o with
 |(.inl _)=>.ret
 |(.inr _)=>.exit 0
def iN(o:Unit⊕(Unit)):aA:=match o with
 |(.inl o)=>be 46 [(4,.bool false)] [.dead,.dead] []
 |(.inr o)=>be 46 [] [.dead,.dead] []
def vg:Option (Int⊕(Unit⊕(Unit))):=
 if(decide (t30<t29))=true then
  (cz v.Args t30).bind fun x9=>
  (cz v2.Args t30).bind fun x10=>
  (R50 x9 x10).bind fun r11=>
  if(!r11)=true then
   some (.inr (.inl ()))
  else
   some (.inl (aR (t30+1)))
 else
  some (.inr (.inr ()))
def Aj:Option (Unit⊕(Unit)):=loop (fun(zz:Int)=>vg R50 v v2 t29 zz) t30
theorem KE(hR50:Bb R50){y:Int⊕(Unit⊕(Unit))}(h:vg R50 v v2 t29 t30=some y):
  aU Pg GE 0 (cA qhl 119) (LQ (fun(zz:Int)=>kY v v2 t29 zz) kZ iN y) (kY v v2 t29 t30):=by
 rcases bj h with⟨c8,h⟩|⟨c8,h⟩
 ·obtain⟨x9,bx9,h⟩:=ay h
  obtain⟨x10,bx10,h⟩:=ay h
  obtain⟨r11,br11,h⟩:=ay h
  have p13:=fun{sc F} (r:PS sc F)=>sg 0 c8<|lY [0,1,0,7,15,0,32,0,224,480,1023,2047]<|sv (aK v)<|sv (aL v)<|sv (ck.ia (k:=.i64) bx9)<|sv (aV x9)<|sv (aK v2)<|sv (aL v2)<|sv (ck.ia (k:=.i64) bx10)<|sv (aV x10)<|bz (hR50 _ _ _ br11)<|r
  rcases bj h with⟨c12,h⟩|⟨c12,h⟩
  ·obtain rfl:=lf h
   have z:=p13<|sg 0 c12<|eF (kZ (.inl ())) (iN (.inl ()))
   exact f6 qem (by intro hx;cases hx) z (by kernel_rfl)
  ·obtain rfl:=lf h
   exact n9 qem (p13<|sg 0 c12<|eF .normal (kY v v2 t29 (aR (t30+1)))) (by kernel_rfl)
 ·obtain rfl:=lf h
  have z:=sg 0 c8<|eF (kZ (.inr ())) (iN (.inr ()))
  exact f6 qem (by intro hx;cases hx) z (by kernel_rfl)
theorem A2(hR50:Bb R50){x:Unit⊕(Unit)}(h:Aj R50 v v2 t29 t30=some x):
  aU Pg GE 0 (.loop (cA qhl 119)) (EX (kZ x) (iN x)) (kY v v2 t29 t30):=
 aU.loop (S:=fun(zz:Int)=>kY v v2 t29 zz) (ex:=kZ) (s:=t30) h fun zz y hy=>KE R50 v v2 t29 zz hR50 hy
end
def wl(R50:vR)(a:ae)(a2:ae):Option Bool:=
 (Ai a a2).bind fun o5=>
 if o5=true then
  some false
 else
  (Aj R50 a a2 (a.Args.length:Int) 0).bind fun o14=>match o14 with
  |(.inl o14)=>
   some false
  |(.inr o14)=>
   some true
theorem Rf(R50:vR)(hR50:Bb R50){a:ae}{a2:ae}{r:Bool}(h:wl R50 a a2=some r):CC Pg GE 34 [.agg (af a),.agg (af a2)] (.bool r) []:=by
 obtain⟨o5,bo5,h⟩:=ay h
 have p7:=fun{sc F} (r:PS sc F)=>se (bD a)<|se (bD a2)<|kr 1<|cW (L7 a a2 bo5)<|r
 rcases bj h with⟨c6,h⟩|⟨c6,h⟩
 ·obtain rfl:=lf h
  have z:=p7<|sg 0 c6<|en (aI (rP (.bool false))<|trivial)
  exact bN qem Tryz.call34 Tryz.func34 (c:=qhl) rfl (aI (ak a) (aI (ak a2) trivial)) z (by kernel_rfl)
 ·obtain⟨o14,bo14,h⟩:=ay h
  rcases o14 with o14|o14
  ·obtain rfl:=lf h
   have z:=p7<|sg 0 c6<|sv (aK a)<|sv (aL a)<|cm (ck.ln a.Args)<|cW (e:=.ret) (s1:=iN (.inl o14)) (A2 R50 a a2 (a.Args.length:Int) 0 hR50 bo14)<|en (aI (rP (.bool false))<|trivial)
   exact bN qem Tryz.call34 Tryz.func34 (c:=qhl) rfl (aI (ak a) (aI (ak a2) trivial)) z (by kernel_rfl)
  ·obtain rfl:=lf h
   have z:=p7<|sg 0 c6<|sv (aK a)<|sv (aL a)<|cm (ck.ln a.Args)<|cW (e:=.exit 0) (s1:=iN (.inr o14)) (A2 R50 a a2 (a.Args.length:Int) 0 hR50 bo14)<|en (aI (rP (.bool true))<|trivial)
   exact bN qem Tryz.call34 Tryz.func34 (c:=qhl) rfl (aI (ak a) (aI (ak a2) trivial)) z (by kernel_rfl)
def CR:((ae×ae)->Option Bool)->(ae×ae)->Option Bool:=fun(rec:(ae×ae)->Option Bool) (x:ae×ae)=>wl (fun a a2=>rec (a,a2)) x.1 x.2
def IL(a:ae)(a2:ae):Option Bool:=kJ CR (a,a2)
theorem SN{a:ae}{a2:ae}{r:Bool}(h:IL a a2=some r):CC Pg GE 34 [.agg (af a),.agg (af a2)] (.bool r) []:=
 cy (F:=CR) (M:=fun(x:ae×ae) (r:Bool)=>CC Pg GE 34 [.agg (af x.1),.agg (af x.2)] (.bool r) []) (fun rec hrec x r h=>Rf _ (fun a a2 r h=>hrec (a,a2) r h) h) h
abbrev d4:=(aY->ae->ae->waA->Option ai)
abbrev iO(R:d4):Prop:=∀(w:aY) (a:ae) (a2:ae) (used:waA) (r:ai),R w a a2 used=some r->CC Pg GE 35 [.agg (aW w),.agg (af a),.agg (af a2),sl cS used] (.agg (aw r)) []
def qi8:Code:=Tryz.f23.body.getD .skip
def qiV:List Nat:=[]
def kv(t:ae):Option Bool:=
 if(t.Op==1)=true then
  some true
 else
  if(t.Op==2)=true then
   some true
  else
   if(t.Op==3)=true then
    some true
   else
    some (t.Op==4)
theorem pK{t:ae}{r:Bool}(h:kv t=some r):CC Pg GE 23 [.agg (af t)] (.bool r) []:=by
 have p2:=fun{sc F} (r:PS sc F)=>se (bD t)<|sv (aC t)<|sv (aD t)<|r
 rcases bj h with⟨c1,h⟩|⟨c1,h⟩
 ·obtain rfl:=lf h
  have z:=p2<|sg 4 c1<|en (aI (rP (.bool true))<|trivial)
  exact bN qiV Tryz.call23 Tryz.func23 (c:=qi8) rfl (aI (ak t) trivial) z (by kernel_rfl)
 ·have p4:=fun{sc F} (r:PS sc F)=>p2<|sg 4 c1<|sv (aC t)<|sv (aD t)<|r
  rcases bj h with⟨c3,h⟩|⟨c3,h⟩
  ·obtain rfl:=lf h
   have z:=p4<|sg 9 c3<|en (aI (rP (.bool true))<|trivial)
   exact bN qiV Tryz.call23 Tryz.func23 (c:=qi8) rfl (aI (ak t) trivial) z (by kernel_rfl)
  ·have p6:=fun{sc F} (r:PS sc F)=>p4<|sg 9 c3<|sv (aC t)<|sv (aD t)<|r
   rcases bj h with⟨c5,h⟩|⟨c5,h⟩
   ·obtain rfl:=lf h
    have z:=p6<|sg 14 c5<|en (aI (rP (.bool true))<|trivial)
    exact bN qiV Tryz.call23 Tryz.func23 (c:=qi8) rfl (aI (ak t) trivial) z (by kernel_rfl)
   ·obtain rfl:=lf h
    have z:=p6<|sg 14 c5<|sv (aC t)<|sv (aD t)<|en (aI (rP (.bool (t.Op==4)))<|trivial)
    exact bN qiV Tryz.call23 Tryz.func23 (c:=qi8) rfl (aI (ak t) trivial) z (by kernel_rfl)
def qhr:Code:=Tryz.f77.body.getD .skip
def qhi:List Nat:=[24,35]
section
variable(base:ag)(t11:waA)(t12:Int)(t13:Int)(m0:(List (ag×Bool)))
def jW:aA:=be 36 [(1,.str base),(5,.mapr 0),(11,sl cS t11),(12,.int .i64 t12),(13,.int .i64 t13)] [.map (Ic PVal.bool m0)] []
def sV(o:(List (ag×Bool))):aA:=be 36 [(1,.str base),(5,.mapr 0)] [.map (Ic PVal.bool o)] []
def jX:Option ((Int×(List (ag×Bool)))⊕(((List (ag×Bool))))):=
 if(decide (t13<t12))=true then
  (cz t11 t13).bind fun x2=>
  some (.inl (aR (t13+1),J7 m0 x2 true))
 else
  some (.inr m0)
def ry:Option (((List (ag×Bool)))):=loop (fun(zz:Int×(List (ag×Bool)))=>jX t11 t12 zz.1 zz.2) (t13,m0)
theorem Im{y:(Int×(List (ag×Bool)))⊕(((List (ag×Bool))))}(h:jX t11 t12 t13 m0=some y):
  aU Pg GE 0 (cA qhr 119) (LQ (fun(zz:Int×(List (ag×Bool)))=>jW base t11 t12 zz.1 zz.2) (fun _=>.exit 0) (sV base) y) (jW base t11 t12 t13 m0):=by
 rcases bj h with⟨c1,h⟩|⟨c1,h⟩
 ·obtain⟨x2,bx2,h⟩:=ay h
  obtain rfl:=lf h
  exact n9 qhi (sg 0 c1<|sv (bp.ia (k:=.i64) bx2)<|sv (dH Ba (.str x2) [])<|qlS (qgQ (f:=PVal.bool) Tryz.underlying154 Tryz.underlying9 m0 x2 true)<|eF .normal (jW base t11 t12 (aR (t13+1)) (J7 m0 x2 true))) (by kernel_rfl)
 ·obtain rfl:=lf h
  have z:=sg 0 c1<|eF (.exit 0) (sV base m0)
  exact f6 qhi (by intro hx;cases hx) z (by kernel_rfl)
theorem Ka{x:((List (ag×Bool)))}(h:ry t11 t12 t13 m0=some x):
  aU Pg GE 0 (.loop (cA qhr 119)) (EX (.exit 0) (sV base x)) (jW base t11 t12 t13 m0):=
 aU.loop (S:=fun(zz:Int×(List (ag×Bool)))=>jW base t11 t12 zz.1 zz.2) (ex:=(fun _=>.exit 0)) (s:=(t13,m0)) h fun zz y hy=>Im base t11 t12 zz.1 zz.2 hy
end
section
variable(base:ag)(m0:(List (ag×Bool)))(n:Int)
def jY:aA:=be 36 [(1,.str base),(5,.mapr 0),(8,.int .i64 n)] [.map (Ic PVal.bool m0)] []
def sW(o:ag):aA:=be 36 [(4,.str o)] [.map (Ic PVal.bool m0)] []
def g8:Option (Int⊕(ag)):=
 (ZU n).bind fun r6=>
 (qgH base r6).bind fun s7=>
 if(!((Do m0 s7).getD false))=true then
  some (.inr s7)
 else
  some (.inl (aR (n+1)))
def mS:Option ag:=loop (fun(zz:Int)=>g8 base m0 zz) n
theorem Io{y:Int⊕(ag)}(h:g8 base m0 n=some y):
  aU Pg GE 0 (cA qhr 255) (LQ (fun(zz:Int)=>jY base m0 zz) (fun _=>.ret) (sW m0) y) (jY base m0 n):=by
 obtain⟨r6,br6,h⟩:=ay h
 obtain⟨s7,bs7,h⟩:=ay h
 have p9:=fun{sc F} (r:PS sc F)=>bz (qeY br6)<|sv (VS (P:=Pg) (t:=9) bs7)<|sv (qda (f:=PVal.bool) Tryz.underlying154 Tryz.underlying9 qk7 m0 s7)<|r
 rcases bj h with⟨c8,h⟩|⟨c8,h⟩
 ·obtain rfl:=lf h
  have z:=p9<|sg 0 c8<|eF .ret (sW m0 s7)
  exact f6 qhi (by intro hx;cases hx) z (by kernel_rfl)
 ·obtain rfl:=lf h
  exact n9 qhi (p9<|sg 0 c8<|eF .normal (jY base m0 (aR (n+1)))) (by kernel_rfl)
theorem Kb{x:ag}(h:mS base m0 n=some x):
  aU Pg GE 0 (.loop (cA qhr 255)) (EX .ret (sW m0 x)) (jY base m0 n):=
 aU.loop (S:=fun(zz:Int)=>jY base m0 zz) (ex:=(fun _=>.ret)) (s:=n) h fun zz y hy=>Io base m0 zz hy
end
def mR(used:waA)(base:ag):Option ag:=
 (ry used (used.length:Int) 0 ([]:List (ag×Bool))).bind fun o3=>
 if(!((Do o3 base).getD false))=true then
  some base
 else
  (mS base o3 1).bind fun o10=>
  some o10
theorem xM{used:waA}{base:ag}{r:ag}(h:mR used base=some r):CC Pg GE 77 [sl cS used,.str base] (.str r) []:=by
 obtain⟨o3,bo3,h⟩:=ay h
 have p5:=fun{sc F} (r:PS sc F)=>cm (bp.ln used)<|cW (Ka base used (used.length:Int) 0 ([]:List (ag×Bool)) bo3)<|sv (qda (f:=PVal.bool) Tryz.underlying154 Tryz.underlying9 qk7 o3 base)<|r
 rcases bj h with⟨c4,h⟩|⟨c4,h⟩
 ·obtain rfl:=lf h
  have z:=p5<|sg 0 c4<|en (aI (rP (.str base))<|trivial)
  exact bN qhi Tryz.call77 Tryz.func77 (c:=qhr) rfl (aI (aj dQ used) (aI trivial trivial)) z (by kernel_rfl)
 ·obtain⟨o10,bo10,h⟩:=ay h
  obtain rfl:=lf h
  have z:=p5<|sg 0 c4<|cW (Kb base o3 1 bo10)<|en (aI (rP (.str o10))<|trivial)
  exact bN qhi Tryz.call77 Tryz.func77 (c:=qhr) rfl (aI (aj dQ used) (aI trivial trivial)) z (by kernel_rfl)
def qeB:Code:=Tryz.f109.body.getD .skip
def qb3:List Nat:=[10,17]
section
variable(s:waA)(v:ag)(t7:Int)(t8:Int)
def ja:aA:=be 19 [(0,sl cS s),(1,.str v),(7,.int .i64 t7),(8,.int .i64 t8)] [] []
def jb(o:Int⊕(Unit)):Exit:=match o with
 |(.inl _)=>.ret
 |(.inr _)=>.exit 0
def gv(o:Int⊕(Unit)):aA:=match o with
 |(.inl o)=>be 19 [(4,.int .i64 o)] [] []
 |(.inr o)=>be 19 [] [] []
def fc:Option (Int⊕(Int⊕(Unit))):=
 if(decide (t8<t7))=true then
  (cz s t8).bind fun x2=>
  if(v==x2)=true then
   some (.inr (.inl t8))
  else
   some (.inl (aR (t8+1)))
 else
  some (.inr (.inr ()))
def va:Option (Int⊕(Unit)):=loop (fun(zz:Int)=>fc s v t7 zz) t8
theorem GN{y:Int⊕(Int⊕(Unit))}(h:fc s v t7 t8=some y):
  aU Pg GE 0 (cA qeB 55) (LQ (fun(zz:Int)=>ja s v t7 zz) jb gv y) (ja s v t7 t8):=by
 rcases bj h with⟨c1,h⟩|⟨c1,h⟩
 ·obtain⟨x2,bx2,h⟩:=ay h
  have p4:=fun{sc F} (r:PS sc F)=>sg 0 c1<|sv (bp.ia (k:=.i64) bx2)<|sv (dH Ba (.str x2) [])<|r
  rcases bj h with⟨c3,h⟩|⟨c3,h⟩
  ·obtain rfl:=lf h
   have z:=p4<|sg 0 c3<|eF (jb (.inl t8)) (gv (.inl t8))
   exact f6 qb3 (by intro hx;cases hx) z (by kernel_rfl)
  ·obtain rfl:=lf h
   exact n9 qb3 (p4<|sg 0 c3<|eF .normal (ja s v t7 (aR (t8+1)))) (by kernel_rfl)
 ·obtain rfl:=lf h
  have z:=sg 0 c1<|eF (jb (.inr ())) (gv (.inr ()))
  exact f6 qb3 (by intro hx;cases hx) z (by kernel_rfl)
theorem xY{x:Int⊕(Unit)}(h:va s v t7 t8=some x):
  aU Pg GE 0 (.loop (cA qeB 55)) (EX (jb x) (gv x)) (ja s v t7 t8):=
 aU.loop (S:=fun(zz:Int)=>ja s v t7 zz) (ex:=jb) (s:=t8) h fun zz y hy=>GN s v t7 zz hy
end
def rQ(s:waA)(v:ag):Option Int:=
 (va s v (s.length:Int) 0).bind fun o5=>match o5 with
 |(.inl o5)=>
  some o5
 |(.inr o5)=>
  some (-1)
theorem C6{s:waA}{v:ag}{r:Int}(h:rQ s v=some r):CC Pg GE 109 [sl cS s,.str v] (.int .i64 r) []:=by
 obtain⟨o5,bo5,h⟩:=ay h
 rcases o5 with o5|o5
 ·obtain rfl:=lf h
  have z:=cm (bp.ln s)<|cW (e:=.ret) (s1:=gv (.inl o5)) (xY s v (s.length:Int) 0 bo5)<|en (aI (rP (.int .i64 o5))<|trivial)
  exact bN qb3 Tryz.call109 Tryz.func109 (c:=qeB) rfl (aI (aj dQ s) (aI trivial trivial)) z (by kernel_rfl)
 ·obtain rfl:=lf h
  have z:=cm (bp.ln s)<|cW (e:=.exit 0) (s1:=gv (.inr o5)) (xY s v (s.length:Int) 0 bo5)<|en (aI (rP (.int .i64 (-1)))<|trivial)
  exact bN qb3 Tryz.call109 Tryz.func109 (c:=qeB) rfl (aI (aj dQ s) (aI trivial trivial)) z (by kernel_rfl)
def qjS:Code:=Tryz.f137.body.getD .skip
def qjA:List Nat:=[]
def fm(s:waA)(v:ag):Option Bool:=
 (rQ s v).bind fun r1=>
 some (decide (r1>=0))
theorem ir{s:waA}{v:ag}{r:Bool}(h:fm s v=some r):CC Pg GE 137 [sl cS s,.str v] (.bool r) []:=by
 obtain⟨r1,br1,h⟩:=ay h
 obtain rfl:=lf h
 have z:=bz (C6 br1)<|en (aI (rP (.bool (decide (r1>=0))))<|trivial)
 exact bN qjA Tryz.call137 Tryz.func137 (c:=qjS) rfl (aI (aj dQ s) (aI trivial trivial)) z (by kernel_rfl)
def qeC:Code:=Tryz.f119.body.getD .skip
def qat:List Nat:=[13,28,34]
section
variable(hidden:waA)(s:am)(i:Int)(n:ag)(t9:waA)(t10:Int)(m:waB)(m2:waA)(m3:waB)
def qx:aA:=be 45 [(1,sl cS hidden),(2,.eptr (az s)),(4,.bptr 1 0),(5,.bptr 2 0),(6,.int .i64 i),(7,.str n),(9,sl cS t9),(10,.int .i64 t10),(11,.int .i64 i)] [.dead,.cells [sl cS ([]:List ag),sl ac m] [(0,9),(1,36)],.cells [sl cS m2,sl ac m3] [(0,9),(1,36)]] []
def eR(o:Bool):aA:=be 45 [(1,sl cS hidden),(2,.eptr (az s)),(4,.bptr 1 0),(5,.bptr 2 0),(6,.int .i64 i),(7,.str n),(9,sl cS t9),(10,.int .i64 t10),(11,.int .i64 i),(26,.bool o)] [.dead,.cells [sl cS ([]:List ag),sl ac m] [(0,9),(1,36)],.cells [sl cS m2,sl ac m3] [(0,9),(1,36)]] []
def fp:Option Bool:=
 (fm hidden n).bind fun r3=>
 if(!r3)=true then
  (fm m2 n).bind fun r5=>
  some (!r5)
 else
  some false
theorem pZ{x:Bool}(h:fp hidden n m2=some x):
  aU Pg GE 0 (cA qeC 7670) (EX .normal (eR hidden s i n t9 t10 m m2 m3 x)) (qx hidden s i n t9 t10 m m2 m3):=by
 obtain⟨r3,br3,h⟩:=ay h
 rcases bj h with⟨c4,h⟩|⟨c4,h⟩
 ·obtain⟨r5,br5,h⟩:=ay h
  obtain rfl:=lf h
  exact cd qat (bz (ir br3)<|sg 5 c4<|ss<|bz (ir br5)<|eF .normal (eR hidden s i n t9 t10 m m2 m3 (!r5))) (by kernel_rfl)
 ·obtain rfl:=lf h
  exact cd qat (bz (ir br3)<|sg 5 c4<|eF .normal (eR hidden s i n t9 t10 m m2 m3 false)) (by kernel_rfl)
end
section
variable(hidden:waA)(s:am)(t9:waA)(t10:Int)(m:waB)(t11:Int)(m2:waA)(m3:waB)
def ct:aA:=be 45 [(1,sl cS hidden),(2,.eptr (az s)),(4,.bptr 1 0),(5,.bptr 2 0),(9,sl cS t9),(10,.int .i64 t10),(11,.int .i64 t11)] [.dead,.cells [sl cS ([]:List ag),sl ac m] [(0,9),(1,36)],.cells [sl cS m2,sl ac m3] [(0,9),(1,36)]] []
def eS(o:waA×waB):aA:=be 45 [(4,.bptr 1 0),(5,.bptr 2 0)] [.dead,.cells [sl cS ([]:List ag),sl ac m] [(0,9),(1,36)],.cells [sl cS o.1,sl ac o.2] [(0,9),(1,36)]] []
def bQ:Option ((Int×waA×waB)⊕((waA×waB))):=
 if(decide (t11<t10))=true then
  (cz t9 t11).bind fun x2=>
  (fp hidden x2 m2).bind fun o6=>
  if o6=true then
   (app m2 ([x2]:List ag)).bind fun l9=>
   (cz s.by_ t11).bind fun x10=>
   (app m3 ([x10]:List aa)).bind fun l11=>
   some (.inl (aR (t11+1),l9,l11))
  else
   some (.inl (aR (t11+1),m2,m3))
 else
  some (.inr (m2,m3))
def fq:Option ((waA×waB)):=loop (fun(zz:Int×waA×waB)=>bQ hidden s t9 t10 zz.1 zz.2.1 zz.2.2) (t11,m2,m3)
theorem pq{y:(Int×waA×waB)⊕((waA×waB))}(h:bQ hidden s t9 t10 t11 m2 m3=some y):
  aU Pg GE 0 (cA qeC 119) (LQ (fun(zz:Int×waA×waB)=>ct hidden s t9 t10 m zz.1 zz.2.1 zz.2.2) (fun _=>.exit 0) (eS m) y) (ct hidden s t9 t10 m t11 m2 m3):=by
 rcases bj h with⟨c1,h⟩|⟨c1,h⟩
 ·obtain⟨x2,bx2,h⟩:=ay h
  obtain⟨o6,bo6,h⟩:=ay h
  have p8:=fun{sc F} (r:PS sc F)=>sg 0 c1<|sv (bp.ia (k:=.i64) bx2)<|sv (dH Ba (.str x2) [])<|kr 0<|cW (pZ hidden s t11 x2 t9 t10 m m2 m3 bo6)<|r
  rcases bj h with⟨c7,h⟩|⟨c7,h⟩
  ·obtain⟨l9,bl9,h⟩:=ay h
   obtain⟨x10,bx10,h⟩:=ay h
   obtain⟨l11,bl11,h⟩:=ay h
   obtain rfl:=lf h
   exact n9 qat (p8<|sg 0 c7<|sv (bp.mk' (v:=PVal.str) E8 ([x2]:List ag) 1 (by kernel_rfl))<|sv (bp.ap bl9)<|lY [0,1,0,4,0,28,60,124,255,511,1023]<|sv (f0 s)<|sv (gA s)<|sv (bL.ia (k:=.i64) bx10)<|sv (bh x10)<|sv (bL.mk' (v:=dW) cK ([x10]:List aa) 1 (by kernel_rfl))<|sv (bL.ap bl11)<|VP (rfl:bK (sl ac l11)=some [sl ac l11])<|eF .normal (ct hidden s t9 t10 m (aR (t11+1)) l9 l11)) (by kernel_rfl)
  ·obtain rfl:=lf h
   exact n9 qat (p8<|sg 0 c7<|eF .normal (ct hidden s t9 t10 m (aR (t11+1)) m2 m3)) (by kernel_rfl)
 ·obtain rfl:=lf h
  have z:=sg 0 c1<|eF (.exit 0) (eS m (m2,m3))
  exact f6 qat (by intro hx;cases hx) z (by kernel_rfl)
theorem qa{x:(waA×waB)}(h:fq hidden s t9 t10 t11 m2 m3=some x):
  aU Pg GE 0 (.loop (cA qeC 119)) (EX (.exit 0) (eS m x)) (ct hidden s t9 t10 m t11 m2 m3):=
 aU.loop (S:=fun(zz:Int×waA×waB)=>ct hidden s t9 t10 m zz.1 zz.2.1 zz.2.2) (ex:=(fun _=>.exit 0)) (s:=(t11,m2,m3)) h fun zz y hy=>pq hidden s t9 t10 m zz.1 zz.2.1 zz.2.2 hy
end
def ce(s:am)(hidden:waA):Option am:=
 (fq hidden s s.names (s.names.length:Int) 0 ([]:List ag) ([]:List aa)).bind fun o12=>
 some (⟨o12.1,o12.2⟩:am)
theorem ft{s:am}{hidden:waA}{r:am}(h:ce s hidden=some r):CC Pg GE 119 [.agg (az s),sl cS hidden] (.agg (az r)) [(0,9),(1,36)]:=by
 obtain⟨o12,bo12,h⟩:=ay h
 obtain rfl:=lf h
 have z:=se (dX s)<|sx TG<|sx TG<|sv (j9 s)<|sv (kL s)<|cm (bp.ln s.names)<|cW (qa hidden s s.names (s.names.length:Int) ([]:List aa) 0 ([]:List ag) ([]:List aa) bo12)<|sz (cQ (⟨o12.1,o12.2⟩:am) [])<|sy (da (⟨o12.1,o12.2⟩:am))<|en (aI (pr (⟨o12.1,o12.2⟩:am))<|aI (bG (⟨o12.1,o12.2⟩:am))<|rT)
 exact bN qat Tryz.call119 Tryz.func119 (c:=qeC) rfl (aI (bG s) (aI (aj dQ hidden) trivial)) z (by kernel_rfl)
abbrev bY:=(am->ae->Option ae)
abbrev cX(R:bY):Prop:=∀(s:am) (t:ae) (r:ae),R s t=some r->CC Pg GE 120 [.agg (az s),.agg (af t)] (.agg (af r)) [(2,38)]
abbrev pB:=(aa->waA->waB->Option aa)
abbrev uC(R:pB):Prop:=∀(p:aa) (a:waA) (a2:waB) (r:aa),R p a a2=some r->CC Pg GE 65 [.agg (ac p),sl cS a,sl ac a2] (.agg (ac r)) [(3,36)]
def qlB:Code:=Tryz.f92.body.getD .skip
def qll:List Nat:=[]
def Il(a:waA)(s:ag):Option Int:=
 (rQ a s).bind fun r1=>
 some r1
theorem SB{a:waA}{s:ag}{r:Int}(h:Il a s=some r):CC Pg GE 92 [sl cS a,.str s] (.int .i64 r) []:=by
 obtain⟨r1,br1,h⟩:=ay h
 obtain rfl:=lf h
 have z:=bz (C6 br1)<|en (aI (rP (.int .i64 r1))<|trivial)
 exact bN qll Tryz.call92 Tryz.func92 (c:=qlB) rfl (aI (aj dQ a) (aI trivial trivial)) z (by kernel_rfl)
abbrev tB:=(aa->Option aa)
abbrev zh(R:tB):Prop:=∀(p:aa) (r:aa),R p=some r->CC Pg GE 91 [.agg (ac p)] (.agg (ac r)) [(3,36)]
def qj7:Code:=Tryz.f91.body.getD .skip
def qjK:List Nat:=[21]
section
variable(R66:tB)(t14:waB)(t15:Int)(m:waB)(m2:Int)(m3:ag)(m4:Int)(t16:Int)(m5:waB)
def j1:aA:=be 29 [(2,.bptr 1 0),(3,.bptr 2 0),(14,sl ac t14),(15,.int .i64 t15),(16,.int .i64 t16)] [.dead,.cells [.int .i64 0,.str ([]:ag),.int .i64 0,sl ac m] [(3,36)],.cells [.int .i64 m2,.str m3,.int .i64 m4,sl ac m5] [(3,36)]] []
def tb(o:waB):aA:=be 29 [(2,.bptr 1 0),(3,.bptr 2 0)] [.dead,.cells [.int .i64 0,.str ([]:ag),.int .i64 0,sl ac m] [(3,36)],.cells [.int .i64 m2,.str m3,.int .i64 m4,sl ac o] [(3,36)]] []
def nF:Option ((Int×waB)⊕(waB)):=
 if(decide (t16<t15))=true then
  (cz t14 t16).bind fun x2=>
  (R66 x2).bind fun r3=>
  (app m5 ([r3]:List aa)).bind fun l4=>
  some (.inl (aR (t16+1),l4))
 else
  some (.inr m5)
def xV:Option waB:=loop (fun(zz:Int×waB)=>nF R66 t14 t15 zz.1 zz.2) (t16,m5)
theorem Iz(hR66:zh R66){y:(Int×waB)⊕(waB)}(h:nF R66 t14 t15 t16 m5=some y):
  aU Pg GE 0 (cA qj7 119) (LQ (fun(zz:Int×waB)=>j1 t14 t15 m m2 m3 m4 zz.1 zz.2) (fun _=>.exit 0) (tb m m2 m3 m4) y) (j1 t14 t15 m m2 m3 m4 t16 m5):=by
 rcases bj h with⟨c1,h⟩|⟨c1,h⟩
 ·obtain⟨x2,bx2,h⟩:=ay h
  obtain⟨r3,br3,h⟩:=ay h
  obtain⟨l4,bl4,h⟩:=ay h
  obtain rfl:=lf h
  have z:=sg 0 c1<|sv (bL.ia (k:=.i64) bx2)<|sv (bh x2)<|sx hO<|sx (cj x2)<|lY [0,1,0,4,12,31,63,127]<|sv (bT x2 [])<|bz (hR66 _ _ br3)<|sv (bL.mk' (v:=dW) cK ([r3]:List aa) 1 (by kernel_rfl))<|sv (bL.ap bl4)<|VP (rfl:bK (sl ac l4)=some [sl ac l4])<|uz 0 .normal (j1 t14 t15 m m2 m3 m4 (aR (t16+1)) l4) rfl (dC (aI (cV rfl) (aI (cV rfl) (aI (up (aj ah t14)) (aI trivial (aI trivial trivial)))))) (aI trivial (aI (aI trivial (aI trivial (aI trivial (aI (up (aj ah m)) trivial)))) (aI (aI trivial (aI trivial (aI trivial (aI (up (aj ah l4)) trivial)))) trivial)))
  exact df (A:=qjK) mixed z (by kernel_rfl)
 ·obtain rfl:=lf h
  have z:=sg 0 c1<|eF (.exit 0) (tb m m2 m3 m4 m5)
  exact f6 qjK (by intro hx;cases hx) z (by kernel_rfl)
theorem Kp(hR66:zh R66){x:waB}(h:xV R66 t14 t15 t16 m5=some x):
  aU Pg GE 0 (.loop (cA qj7 119)) (EX (.exit 0) (tb m m2 m3 m4 x)) (j1 t14 t15 m m2 m3 m4 t16 m5):=
 aU.loop (S:=fun(zz:Int×waB)=>j1 t14 t15 m m2 m3 m4 zz.1 zz.2) (ex:=(fun _=>.exit 0)) (s:=(t16,m5)) h fun zz y hy=>Iz R66 t14 t15 m m2 m3 m4 zz.1 zz.2 hR66 hy
end
def Aa(R66:tB)(p:aa):Option aa:=
 (xV R66 p.Kids (p.Kids.length:Int) 0 ([]:List aa)).bind fun o5=>
 some (⟨p.Op,p.Name,p.N,o5⟩:aa)
theorem NX(R66:tB)(hR66:zh R66){p:aa}{r:aa}(h:Aa R66 p=some r):CC Pg GE 91 [.agg (ac p)] (.agg (ac r)) [(3,36)]:=by
 obtain⟨o5,bo5,h⟩:=ay h
 obtain rfl:=lf h
 have z:=se (bS p)<|sx hO<|sv (bE p)<|sv (bF p)<|sv (cp p)<|sv (cO p)<|sv (dD p)<|sv (dU p)<|sb (EK p.Op p.Name p.N) (EI p.Op p.Name p.N)<|sx hO<|sy (aJ (⟨p.Op,p.Name,p.N,([]:List aa)⟩:aa))<|sv (bA p)<|sv (bC p)<|cm (bL.ln p.Kids)<|cW (Kp R66 p.Kids (p.Kids.length:Int) ([]:List aa) p.Op p.Name p.N 0 ([]:List aa) hR66 bo5)<|sz (bT (⟨p.Op,p.Name,p.N,o5⟩:aa) [])<|sy (aJ (⟨p.Op,p.Name,p.N,o5⟩:aa))<|en (aI (dj (⟨p.Op,p.Name,p.N,o5⟩:aa))<|aI (ah (⟨p.Op,p.Name,p.N,o5⟩:aa))<|rT)
 exact bN qjK Tryz.call91 Tryz.func91 (c:=qj7) rfl (aI (ah p) trivial) z (by kernel_rfl)
def tL:(aa->Option aa)->(aa)->Option aa:=fun(rec:aa->Option aa) (x:aa)=>Aa (fun p=>rec p) x
def qp(p:aa):Option aa:=kJ tL p
theorem rD{p:aa}{r:aa}(h:qp p=some r):CC Pg GE 91 [.agg (ac p)] (.agg (ac r)) [(3,36)]:=
 cy (F:=tL) (M:=fun(x:aa) (r:aa)=>CC Pg GE 91 [.agg (ac x)] (.agg (ac r)) [(3,36)]) (fun rec hrec x r h=>NX _ (fun p r h=>hrec p r h) h) h
def qhp:Code:=Tryz.f65.body.getD .skip
def qep:List Nat:=[46]
section
variable(v:waA)(v2:waB)(p:aa)(i:Int)(m:waB)
def Iy:aA:=be 56 [(1,sl cS v),(2,sl ac v2),(3,.eptr (ac p)),(6,.bptr 1 0),(7,.int .i64 i)] [.dead,.cells [.int .i64 0,.str ([]:ag),.int .i64 0,sl ac m] [(3,36)]] []
def pX(o:Bool):aA:=be 56 [(1,sl cS v),(2,sl ac v2),(3,.eptr (ac p)),(6,.bptr 1 0),(7,.int .i64 i),(25,.bool o)] [.dead,.cells [.int .i64 0,.str ([]:ag),.int .i64 0,sl ac m] [(3,36)]] []
def s9:Option Bool:=
 if(decide (i>=0))=true then
  some (decide (i<(v2.length:Int)))
 else
  some false
theorem GD{x:Bool}(h:s9 v2 i=some x):
  aU Pg GE 0 (cA qhp 106) (EX .normal (pX v v2 p i m x)) (Iy v v2 p i m):=by
 rcases bj h with⟨c4,h⟩|⟨c4,h⟩
 ·obtain rfl:=lf h
  exact cd qep (sg 3 c4<|cm (bL.ln v2)<|eF .normal (pX v v2 p i m (decide (i<(v2.length:Int))))) (by kernel_rfl)
 ·obtain rfl:=lf h
  exact cd qep (sg 3 c4<|eF .normal (pX v v2 p i m false)) (by kernel_rfl)
end
section
variable(v:waA)(v2:waB)(p:aa)(m:waB)
def Ix:aA:=be 56 [(1,sl cS v),(2,sl ac v2),(3,.eptr (ac p)),(6,.bptr 1 0)] [.dead,.cells [.int .i64 0,.str ([]:ag),.int .i64 0,sl ac m] [(3,36)]] []
def kp(o:(Int×ag×Int×waB)⊕(Unit)):Exit:=match o with
 |(.inl _)=>.ret
 |(.inr _)=>.normal
def fK(o:(Int×ag×Int×waB)⊕(Unit)):aA:=match o with
 |(.inl o)=>be 56 [(6,.bptr 1 0)] [.dead,.cells [.int .i64 o.1,.str o.2.1,.int .i64 o.2.2.1,sl ac o.2.2.2] [(3,36)]] []
 |(.inr o)=>be 56 [(1,sl cS v),(2,sl ac v2),(3,.eptr (ac p)),(6,.bptr 1 0)] [.dead,.cells [.int .i64 0,.str ([]:ag),.int .i64 0,sl ac m] [(3,36)]] []
def nD:Option ((Int×ag×Int×waB)⊕(Unit)):=
 if(p.Op==3)=true then
  (Il v p.Name).bind fun r3=>
  (s9 v2 r3).bind fun o5=>
  if o5=true then
   (cz v2 r3).bind fun x8=>
   (qp x8).bind fun r9=>
   some (.inl (r9.Op,r9.Name,r9.N,r9.Kids))
  else
   some (.inr ())
 else
  some (.inr ())
theorem vA{x:(Int×ag×Int×waB)⊕(Unit)}(h:nD v v2 p=some x):
  aU Pg GE 0 (cA qhp 6) (EX (kp x) (fK v v2 p m x)) (Ix v v2 p m):=by
 have p2:=fun{sc F} (r:PS sc F)=>sv (bE p)<|sv (bF p)<|r
 rcases bj h with⟨c1,h⟩|⟨c1,h⟩
 ·obtain⟨r3,br3,h⟩:=ay h
  obtain⟨o5,bo5,h⟩:=ay h
  have p7:=fun{sc F} (r:PS sc F)=>p2<|sg 0 c1<|sv (cp p)<|sv (cO p)<|bz (SB br3)<|kr 0<|cW (GD v v2 p r3 m bo5)<|r
  rcases bj h with⟨c6,h⟩|⟨c6,h⟩
  ·obtain⟨x8,bx8,h⟩:=ay h
   obtain⟨r9,br9,h⟩:=ay h
   obtain rfl:=lf h
   exact cd qep (p7<|sg 0 c6<|sv (bL.ia (k:=.i64) bx8)<|sv (bh x8)<|bz (rD br9)<|sy (aJ r9)<|eF (kp (.inl (r9.Op,r9.Name,r9.N,r9.Kids))) (fK v v2 p m (.inl (r9.Op,r9.Name,r9.N,r9.Kids)))) (by kernel_rfl)
  ·obtain rfl:=lf h
   exact cd qep (p7<|sg 0 c6<|eF (kp (.inr ())) (fK v v2 p m (.inr ()))) (by kernel_rfl)
 ·obtain rfl:=lf h
  exact cd qep (p2<|sg 0 c1<|eF (kp (.inr ())) (fK v v2 p m (.inr ()))) (by kernel_rfl)
end
section
variable(R64:pB)(v:waA)(v2:waB)(t39:waB)(t40:Int)(m:waB)(m2:Int)(m3:ag)(m4:Int)(t41:Int)(m5:waB)
def ip:aA:=be 56 [(1,sl cS v),(2,sl ac v2),(6,.bptr 1 0),(8,.bptr 2 0),(39,sl ac t39),(40,.int .i64 t40),(41,.int .i64 t41)] [.dead,.cells [.int .i64 0,.str ([]:ag),.int .i64 0,sl ac m] [(3,36)],.cells [.int .i64 m2,.str m3,.int .i64 m4,sl ac m5] [(3,36)]] []
def pY(o:waB):aA:=be 56 [(6,.bptr 1 0),(8,.bptr 2 0)] [.dead,.cells [.int .i64 0,.str ([]:ag),.int .i64 0,sl ac m] [(3,36)],.cells [.int .i64 m2,.str m3,.int .i64 m4,sl ac o] [(3,36)]] []
def xU:Option ((Int×waB)⊕(waB)):=
 if(decide (t41<t40))=true then
  (cz t39 t41).bind fun x12=>
  (R64 x12 v v2).bind fun r13=>
  (app m5 ([r13]:List aa)).bind fun l14=>
  some (.inl (aR (t41+1),l14))
 else
  some (.inr m5)
def ta:Option waB:=loop (fun(zz:Int×waB)=>xU R64 v v2 t39 t40 zz.1 zz.2) (t41,m5)
theorem Fj(hR64:uC R64){y:(Int×waB)⊕(waB)}(h:xU R64 v v2 t39 t40 t41 m5=some y):
  aU Pg GE 0 (cA qhp 247) (LQ (fun(zz:Int×waB)=>ip v v2 t39 t40 m m2 m3 m4 zz.1 zz.2) (fun _=>.exit 0) (pY m m2 m3 m4) y) (ip v v2 t39 t40 m m2 m3 m4 t41 m5):=by
 rcases bj h with⟨c11,h⟩|⟨c11,h⟩
 ·obtain⟨x12,bx12,h⟩:=ay h
  obtain⟨r13,br13,h⟩:=ay h
  obtain⟨l14,bl14,h⟩:=ay h
  obtain rfl:=lf h
  have z:=sg 0 c11<|sv (bL.ia (k:=.i64) bx12)<|sv (bh x12)<|sx hO<|sx (cj x12)<|lY [0,1,0,0,0,28,60,127,255,511]<|sv (bT x12 [])<|bz (hR64 _ _ _ _ br13)<|sv (bL.mk' (v:=dW) cK ([r13]:List aa) 1 (by kernel_rfl))<|sv (bL.ap bl14)<|VP (rfl:bK (sl ac l14)=some [sl ac l14])<|uz 0 .normal (ip v v2 t39 t40 m m2 m3 m4 (aR (t41+1)) l14) rfl (dC (aI (up (aj dQ v)) (aI (up (aj ah v2)) (aI (cV rfl) (aI (cV rfl) (aI (up (aj ah t39)) (aI trivial (aI trivial trivial)))))))) (aI trivial (aI (aI trivial (aI trivial (aI trivial (aI (up (aj ah m)) trivial)))) (aI (aI trivial (aI trivial (aI trivial (aI (up (aj ah l14)) trivial)))) trivial)))
  exact df (A:=qep) mixed z (by kernel_rfl)
 ·obtain rfl:=lf h
  have z:=sg 0 c11<|eF (.exit 0) (pY m m2 m3 m4 m5)
  exact f6 qep (by intro hx;cases hx) z (by kernel_rfl)
theorem GF(hR64:uC R64){x:waB}(h:ta R64 v v2 t39 t40 t41 m5=some x):
  aU Pg GE 0 (.loop (cA qhp 247)) (EX (.exit 0) (pY m m2 m3 m4 x)) (ip v v2 t39 t40 m m2 m3 m4 t41 m5):=
 aU.loop (S:=fun(zz:Int×waB)=>ip v v2 t39 t40 m m2 m3 m4 zz.1 zz.2) (ex:=(fun _=>.exit 0)) (s:=(t41,m5)) h fun zz y hy=>Fj R64 v v2 t39 t40 m m2 m3 m4 zz.1 zz.2 hR64 hy
end
def pJ(R64:pB)(p:aa)(a:waA)(a2:waB):Option aa:=
 (nD a a2 p).bind fun o10=>match o10 with
 |(.inl o10)=>
  some (⟨o10.1,o10.2.1,o10.2.2.1,o10.2.2.2⟩:aa)
 |(.inr o10)=>
  (ta R64 a a2 p.Kids (p.Kids.length:Int) 0 ([]:List aa)).bind fun o15=>
  some (⟨p.Op,p.Name,p.N,o15⟩:aa)
theorem Ko(R64:pB)(hR64:uC R64){p:aa}{a:waA}{a2:waB}{r:aa}(h:pJ R64 p a a2=some r):CC Pg GE 65 [.agg (ac p),sl cS a,sl ac a2] (.agg (ac r)) [(3,36)]:=by
 obtain⟨o10,bo10,h⟩:=ay h
 rcases o10 with o10|o10
 ·obtain rfl:=lf h
  have z:=se (bS p)<|sx hO<|kr 0<|cW (e:=.ret) (s1:=fK a a2 p ([]:List aa) (.inl o10)) (vA a a2 p ([]:List aa) bo10)<|en (aI (dj (⟨o10.1,o10.2.1,o10.2.2.1,o10.2.2.2⟩:aa))<|aI (ah (⟨o10.1,o10.2.1,o10.2.2.1,o10.2.2.2⟩:aa))<|rT)
  exact bN qep Tryz.call65 Tryz.func65 (c:=qhp) rfl (aI (ah p) (aI (aj dQ a) (aI (aj ah a2) trivial))) z (by kernel_rfl)
 ·obtain⟨o15,bo15,h⟩:=ay h
  obtain rfl:=lf h
  have z:=se (bS p)<|sx hO<|kr 0<|cW (e:=.normal) (s1:=fK a a2 p ([]:List aa) (.inr o10)) (vA a a2 p ([]:List aa) bo10)<|sv (bE p)<|sv (bF p)<|sv (cp p)<|sv (cO p)<|sv (dD p)<|sv (dU p)<|sb (EK p.Op p.Name p.N) (EI p.Op p.Name p.N)<|sx hO<|sy (aJ (⟨p.Op,p.Name,p.N,([]:List aa)⟩:aa))<|sv (bA p)<|sv (bC p)<|cm (bL.ln p.Kids)<|cW (GF R64 a a2 p.Kids (p.Kids.length:Int) ([]:List aa) p.Op p.Name p.N 0 ([]:List aa) hR64 bo15)<|sz (bT (⟨p.Op,p.Name,p.N,o15⟩:aa) [])<|sy (aJ (⟨p.Op,p.Name,p.N,o15⟩:aa))<|en (aI (dj (⟨p.Op,p.Name,p.N,o15⟩:aa))<|aI (ah (⟨p.Op,p.Name,p.N,o15⟩:aa))<|rT)
  exact bN qep Tryz.call65 Tryz.func65 (c:=qhp) rfl (aI (ah p) (aI (aj dQ a) (aI (aj ah a2) trivial))) z (by kernel_rfl)
def u3:((aa×waA×waB)->Option aa)->(aa×waA×waB)->Option aa:=fun(rec:(aa×waA×waB)->Option aa) (x:aa×waA×waB)=>pJ (fun p a a2=>rec (p,a,a2)) x.1 x.2.1 x.2.2
def lH(p:aa)(a:waA)(a2:waB):Option aa:=kJ u3 (p,a,a2)
theorem nE{p:aa}{a:waA}{a2:waB}{r:aa}(h:lH p a a2=some r):CC Pg GE 65 [.agg (ac p),sl cS a,sl ac a2] (.agg (ac r)) [(3,36)]:=
 cy (F:=u3) (M:=fun(x:aa×waA×waB) (r:aa)=>CC Pg GE 65 [.agg (ac x.1),sl cS x.2.1,sl ac x.2.2] (.agg (ac r)) [(3,36)]) (fun rec hrec x r h=>Ko _ (fun p a a2 r h=>hrec (p,a,a2) r h) h) h
def qjT:Code:=Tryz.f139.body.getD .skip
def qjB:List Nat:=[]
def dg(s:am)(p:aa):Option aa:=
 (lH p s.names s.by_).bind fun r1=>
 some r1
theorem gC{s:am}{p:aa}{r:aa}(h:dg s p=some r):CC Pg GE 139 [.agg (az s),.agg (ac p)] (.agg (ac r)) [(3,36)]:=by
 obtain⟨r1,br1,h⟩:=ay h
 obtain rfl:=lf h
 have z:=se (dX s)<|se (bS p)<|sx hO<|sv (bh p)<|sv (j9 s)<|sv (kL s)<|sv (f0 s)<|sv (gA s)<|bz (nE br1)<|sy (aJ r1)<|en (aI (dj r1)<|aI (ah r1)<|rT)
 exact bN qjB Tryz.call139 Tryz.func139 (c:=qjT) rfl (aI (bG s) (aI (ah p) trivial)) z (by kernel_rfl)
def qgv:Code:=Tryz.f140.body.getD .skip
def qgd:List Nat:=[14,21]
section
variable(v:am)(t8:waB)(t9:Int)(out:waB)(t10:Int)
def gN:aA:=be 22 [(1,.func (.func 139) [.agg (az v)] []),(5,sl ac out),(8,sl ac t8),(9,.int .i64 t9),(10,.int .i64 t10)] [] [((5,0),36)]
def nZ(o:waB):aA:=be 22 [(5,sl ac o)] [] [((5,0),36)]
def vB:Option ((waB×Int)⊕(waB)):=
 if(decide (t10<t9))=true then
  (cz t8 t10).bind fun x2=>
  (dg v x2).bind fun r3=>
  (app out ([r3]:List aa)).bind fun l4=>
  some (.inl (l4,aR (t10+1)))
 else
  some (.inr out)
def rJ:Option waB:=loop (fun(zz:waB×Int)=>vB v t8 t9 zz.1 zz.2) (out,t10)
theorem Dp{y:(waB×Int)⊕(waB)}(h:vB v t8 t9 out t10=some y):
  aU Pg GE 0 (cA qgv 119) (LQ (fun(zz:waB×Int)=>gN v t8 t9 zz.1 zz.2) (fun _=>.exit 0) nZ y) (gN v t8 t9 out t10):=by
 rcases bj h with⟨c1,h⟩|⟨c1,h⟩
 ·obtain⟨x2,bx2,h⟩:=ay h
  obtain⟨r3,br3,h⟩:=ay h
  obtain⟨l4,bl4,h⟩:=ay h
  obtain rfl:=lf h
  have z:=sg 0 c1<|sv (bL.ia (k:=.i64) bx2)<|sv (bh x2)<|sx hO<|sx (cj x2)<|sv (bT x2 [])<|bz (gC br3)<|sv (bL.mk' (v:=dW) cK ([r3]:List aa) 1 (by kernel_rfl))<|sv (bL.ap bl4)<|uz 0 .normal (gN v t8 t9 l4 (aR (t10+1))) rfl (dC (aI (aI (aI (up (bG v)) trivial) trivial) (aI (up (aj ah l4)) (aI (up (aj ah t8)) (aI trivial (aI trivial trivial)))))) trivial
  exact df (A:=qgd) mixed z (by kernel_rfl)
 ·obtain rfl:=lf h
  have z:=sg 0 c1<|eF (.exit 0) (nZ out)
  exact f6 qgd (by intro hx;cases hx) z (by kernel_rfl)
theorem Fo{x:waB}(h:rJ v t8 t9 out t10=some x):
  aU Pg GE 0 (.loop (cA qgv 119)) (EX (.exit 0) (nZ x)) (gN v t8 t9 out t10):=
 aU.loop (S:=fun(zz:waB×Int)=>gN v t8 t9 zz.1 zz.2) (ex:=(fun _=>.exit 0)) (s:=(out,t10)) h fun zz y hy=>Dp v t8 t9 zz.1 zz.2 hy
end
def mU(a:waB)(c:am):Option waB:=
 (rJ c a (a.length:Int) ([]:List aa) 0).bind fun o5=>
 some o5
theorem zb{a:waB}{c:am}{r:waB}(h:mU a c=some r):CC Pg GE 140 [sl ac a,.func (.func 139) [.agg (az c)] []] (sl ac r) [(0,36)]:=by
 obtain⟨o5,bo5,h⟩:=ay h
 obtain rfl:=lf h
 have z:=cm (bL.ln a)<|cW (Fo c a (a.length:Int) ([]:List aa) 0 bo5)<|en (aI (rP (sl ac o5))<|(aj ah o5))
 exact bN qgd Tryz.call140 Tryz.func140 (c:=qgv) rfl (aI (aj ah a) (aI (aI (aI (bG c) trivial) trivial) trivial)) z (by kernel_rfl)
def qgy:Code:=Tryz.f151.body.getD .skip
def qgf:List Nat:=[13,18]
section
variable(t7:waB)(t8:Int)(out:waA)(t9:Int)
def dA:aA:=be 19 [(3,sl cS out),(7,sl ac t7),(8,.int .i64 t8),(9,.int .i64 t9)] [.dead] [((3,0),9)]
def fM(o:waA):aA:=be 19 [(3,sl cS o)] [.dead] [((3,0),9)]
def fL:Option ((waA×Int)⊕(waA)):=
 if(decide (t9<t8))=true then
  (cz t7 t9).bind fun x2=>
  (sZ x2).bind fun r3=>
  (app out r3).bind fun l4=>
  some (.inl (l4,aR (t9+1)))
 else
  some (.inr out)
def gB:Option waA:=loop (fun(zz:waA×Int)=>fL t7 t8 zz.1 zz.2) (out,t9)
theorem rK{y:(waA×Int)⊕(waA)}(h:fL t7 t8 out t9=some y):
  aU Pg GE 0 (cA qgy 119) (LQ (fun(zz:waA×Int)=>dA t7 t8 zz.1 zz.2) (fun _=>.exit 0) fM y) (dA t7 t8 out t9):=by
 rcases bj h with⟨c1,h⟩|⟨c1,h⟩
 ·obtain⟨x2,bx2,h⟩:=ay h
  obtain⟨r3,br3,h⟩:=ay h
  obtain⟨l4,bl4,h⟩:=ay h
  obtain rfl:=lf h
  have z:=sg 0 c1<|sv (bL.ia (k:=.i64) bx2)<|sv (bh x2)<|sx hO<|sx (cj x2)<|sv (bT x2 [])<|bz (Kl br3)<|sv (bp.ap bl4)<|uz 0 .normal (dA t7 t8 l4 (aR (t9+1))) rfl (dC (aI (up (aj dQ l4)) (aI (up (aj ah t7)) (aI trivial (aI trivial trivial))))) (aI trivial trivial)
  exact df (A:=qgf) mixed z (by kernel_rfl)
 ·obtain rfl:=lf h
  have z:=sg 0 c1<|eF (.exit 0) (fM out)
  exact f6 qgf (by intro hx;cases hx) z (by kernel_rfl)
theorem sa{x:waA}(h:gB t7 t8 out t9=some x):
  aU Pg GE 0 (.loop (cA qgy 119)) (EX (.exit 0) (fM x)) (dA t7 t8 out t9):=
 aU.loop (S:=fun(zz:waA×Int)=>dA t7 t8 zz.1 zz.2) (ex:=(fun _=>.exit 0)) (s:=(out,t9)) h fun zz y hy=>rK t7 t8 zz.1 zz.2 hy
end
def eg(s:am):Option waA:=
 (gB s.by_ (s.by_.length:Int) ([]:List ag) 0).bind fun o5=>
 some o5
theorem kW{s:am}{r:waA}(h:eg s=some r):CC Pg GE 151 [.agg (az s)] (sl cS r) [(0,9)]:=by
 obtain⟨o5,bo5,h⟩:=ay h
 obtain rfl:=lf h
 have z:=se (dX s)<|sv (f0 s)<|sv (gA s)<|cm (bL.ln s.by_)<|cW (sa s.by_ (s.by_.length:Int) ([]:List ag) 0 bo5)<|en (aI (rP (sl cS o5))<|(aj dQ o5))
 exact bN qgf Tryz.call151 Tryz.func151 (c:=qgy) rfl (aI (bG s) trivial) z (by kernel_rfl)
abbrev qZ:=(ae->Option waA)
abbrev wx(R:qZ):Prop:=∀(t:ae) (r:waA),R t=some r->CC Pg GE 152 [.agg (af t)] (sl cS r) [(0,9)]
def qh6:Code:=Tryz.f157.body.getD .skip
def qhF:List Nat:=[]
def mT(t:ae)(i:Int):Option waA:=
 if(t.Op !=6)=true then
  some ([]:List ag)
 else
  (N2 t.Names none (some (if(t.Names.length:Int)<i then(t.Names.length:Int)else i))).bind fun l3=>
  some l3
theorem Kv{t:ae}{i:Int}{r:waA}(h:mT t i=some r):CC Pg GE 157 [.agg (af t),.int .i64 i] (sl cS r) []:=by
 have p2:=fun{sc F} (r:PS sc F)=>se (bD t)<|sv (aC t)<|sv (aD t)<|r
 rcases bj h with⟨c1,h⟩|⟨c1,h⟩
 ·obtain rfl:=lf h
  have z:=p2<|sg 0 c1<|en (aI (rP (sl cS ([]:List ag)))<|(aj dQ ([]:List ag)))
  exact bN qhF Tryz.call157 Tryz.func157 (c:=qh6) rfl (aI (ak t) (aI trivial trivial)) z (by kernel_rfl)
 ·obtain⟨l3,bl3,h⟩:=ay h
  obtain rfl:=lf h
  have z:=p2<|sg 0 c1<|sv (aO t)<|sv (aP t)<|sv (aO t)<|sv (aP t)<|cm (bp.ln t.Names)<|sv (bp.sc bl3)<|en (aI (rP (sl cS l3))<|(aj dQ l3))
  exact bN qhF Tryz.call157 Tryz.func157 (c:=qh6) rfl (aI (ak t) (aI trivial trivial)) z (by kernel_rfl)
end Go.Proofs.YtbaamopmfmpfaaaGreatDoor
