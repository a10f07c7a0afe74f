/- PROVED: parts of the proof (G6). Conditions: none. -/
import Derived.Test.YtbaamopmfmpfaaaGreatDoorPkC19
noncomputable section
namespace Go.Proofs.YtbaamopmfmpfaaaGreatDoor
open Go
set_option linter.unusedVariables false
set_option maxRecDepth 100000
def qao:Code:=Tryz.f34.body.getD .skip
def Xs:List Nat:=[32]
section
variable(v:ae)(v2:ae)
def IL:az:=aY 46 [(2,.eptr (af v)),(3,.eptr (af v2))] [.dead,.dead] []
def ni(o:Bool):az:=aY 46 [(2,.eptr (af v)),(3,.eptr (af v2)),(26,.bool o)] [.dead,.dead] []
def ww:Option Bool:=
 if(v.Op !=v2.Op)=true then
  some true
 else
  if(!(v.Name==v2.Name))=true then
   some true
  else
   some ((v.Args.length:Int)!=(v2.Args.length:Int))
theorem GX{x:Bool}(h:ww v v2=some x):
  aT Pg GE 0 (cA qao 12) (EX .normal (ni v v2 x)) (IL v v2):=by
 have p2:=fun{sc F} (r:PS sc F)=>sv (aK v)<|sv (aL v)<|sv (aK v2)<|sv (aL v2)<|r
 rcases aZ h with⟨c1,h⟩|⟨c1,h⟩
 ·obtain rfl:=lf h
  exact cw Xs (p2<|sg 6 c1<|eF .normal (ni v v2 true)) (by kernel_rfl)
 ·have p4:=fun{sc F} (r:PS sc F)=>p2<|sg 6 c1<|sv (df v)<|sv (dA v)<|sv (df v2)<|sv (dA v2)<|r
  rcases aZ h with⟨c3,h⟩|⟨c3,h⟩
  ·obtain rfl:=lf h
   exact cw Xs (p4<|sg 13 c3<|eF .normal (ni v v2 true)) (by kernel_rfl)
  ·obtain rfl:=lf h
   exact cw Xs (p4<|sg 13 c3<|sv (aW v)<|sv (aX v)<|cz (cX.ln v.Args)<|sv (aW v2)<|sv (aX v2)<|cz (cX.ln v2.Args)<|eF .normal (ni v v2 ((v.Args.length:Int)!=(v2.Args.length:Int)))) (by kernel_rfl)
end
section
variable(R50:sB)(v:ae)(v2:ae)(t29:Int)(t30:Int)
def jH:az:=aY 46 [(2,.eptr (af v)),(3,.eptr (af v2)),(29,.int .i64 t29),(30,.int .i64 t30)] [.dead,.dead] []
def jI(o:Unit⊕(Unit)):Exit:=match o with
 |(.inl _)=>.ret
 |(.inr _)=>.exit 0
def gT(o:Unit⊕(Unit)):az:=match o with
 |(.inl o)=>aY 46 [(4,.bool false)] [.dead,.dead] []
 |(.inr o)=>aY 46 [] [.dead,.dead] []
def rO:Option (Int⊕(Unit⊕(Unit))):=
 if(decide (t30<t29))=true then
  (cR v.Args t30).bind fun x9=>
  (cR v2.Args t30).bind fun x10=>
  (R50 x9 x10).bind fun r11=>
  if(!r11)=true then
   some (.inr (.inl ()))
  else
   some (.inl (aR (t30+1)))
 else
  some (.inr (.inr ()))
def wx:Option (Unit⊕(Unit)):=loop (fun(zz:Int)=>rO R50 v v2 t29 zz) t30
theorem Fy(hR50:xz R50){y:Int⊕(Unit⊕(Unit))}(h:rO R50 v v2 t29 t30=some y):
  aT Pg GE 0 (cA qao 119) (LQ (fun(zz:Int)=>jH v v2 t29 zz) jI gT y) (jH v v2 t29 t30):=by
 rcases aZ h with⟨c8,h⟩|⟨c8,h⟩
 ·obtain⟨x9,bx9,h⟩:=aB h
  obtain⟨x10,bx10,h⟩:=aB h
  obtain⟨r11,br11,h⟩:=aB h
  have p13:=fun{sc F} (r:PS sc F)=>sg 0 c8<|qX [0,1,0,7,15,0,32,0,224,480,1023,2047]<|sv (aW v)<|sv (aX v)<|sv (cX.ia (k:=.i64) bx9)<|sv (bw x9)<|sv (aW v2)<|sv (aX v2)<|sv (cX.ia (k:=.i64) bx10)<|sv (bw x10)<|bT (hR50 _ _ _ br11)<|r
  rcases aZ h with⟨c12,h⟩|⟨c12,h⟩
  ·obtain rfl:=lf h
   have z:=p13<|sg 0 c12<|eF (jI (.inl ())) (gT (.inl ()))
   exact i7 Xs (by intro hx;cases hx) z (by kernel_rfl)
  ·obtain rfl:=lf h
   exact rU Xs (p13<|sg 0 c12<|eF .normal (jH v v2 t29 (aR (t30+1)))) (by kernel_rfl)
 ·obtain rfl:=lf h
  have z:=sg 0 c8<|eF (jI (.inr ())) (gT (.inr ()))
  exact i7 Xs (by intro hx;cases hx) z (by kernel_rfl)
theorem xv(hR50:xz R50){x:Unit⊕(Unit)}(h:wx R50 v v2 t29 t30=some x):
  aT Pg GE 0 (.loop (cA qao 119)) (EX (jI x) (gT x)) (jH v v2 t29 t30):=
 aT.loop (S:=fun(zz:Int)=>jH v v2 t29 zz) (ex:=jI) (s:=t30) h fun zz y hy=>Fy R50 v v2 t29 zz hR50 hy
end
def sN(R50:sB)(a:ae)(a2:ae):Option Bool:=
 (ww a a2).bind fun o5=>
 if o5=true then
  some false
 else
  (wx R50 a a2 (a.Args.length:Int) 0).bind fun o14=>match o14 with
  |(.inl o14)=>
   some false
  |(.inr o14)=>
   some true
theorem Lb(R50:sB)(hR50:xz R50){a:ae}{a2:ae}{r:Bool}(h:sN R50 a a2=some r):CC Pg GE 34 [.agg (af a),.agg (af a2)] (.bool r) []:=by
 obtain⟨o5,bo5,h⟩:=aB h
 have p7:=fun{sc F} (r:PS sc F)=>se (cF a)<|se (cF a2)<|nD 1<|di (GX a a2 bo5)<|r
 rcases aZ h with⟨c6,h⟩|⟨c6,h⟩
 ·obtain rfl:=lf h
  have z:=p7<|sg 0 c6<|en (aI (rP (.bool false))<|trivial)
  exact cn Xs Tryz.call34 Tryz.func34 (c:=qao) rfl (aI (av a) (aI (av a2) trivial)) z (by kernel_rfl)
 ·obtain⟨o14,bo14,h⟩:=aB h
  rcases o14 with o14|o14
  ·obtain rfl:=lf h
   have z:=p7<|sg 0 c6<|sv (aW a)<|sv (aX a)<|cz (cX.ln a.Args)<|di (e:=.ret) (s1:=gT (.inl o14)) (xv R50 a a2 (a.Args.length:Int) 0 hR50 bo14)<|en (aI (rP (.bool false))<|trivial)
   exact cn Xs Tryz.call34 Tryz.func34 (c:=qao) rfl (aI (av a) (aI (av a2) trivial)) z (by kernel_rfl)
  ·obtain rfl:=lf h
   have z:=p7<|sg 0 c6<|sv (aW a)<|sv (aX a)<|cz (cX.ln a.Args)<|di (e:=.exit 0) (s1:=gT (.inr o14)) (xv R50 a a2 (a.Args.length:Int) 0 hR50 bo14)<|en (aI (rP (.bool true))<|trivial)
   exact cn Xs Tryz.call34 Tryz.func34 (c:=qao) rfl (aI (av a) (aI (av a2) trivial)) z (by kernel_rfl)
def yU:((ae×ae)->Option Bool)->(ae×ae)->Option Bool:=fun(rec:(ae×ae)->Option Bool) (x:ae×ae)=>sN (fun a a2=>rec (a,a2)) x.1 x.2
def D1(a:ae)(a2:ae):Option Bool:=oG yU (a,a2)
theorem Mr{a:ae}{a2:ae}{r:Bool}(h:D1 a a2=some r):CC Pg GE 34 [.agg (af a),.agg (af a2)] (.bool r) []:=
 cU (F:=yU) (M:=fun(x:ae×ae) (r:Bool)=>CC Pg GE 34 [.agg (af x.1),.agg (af x.2)] (.bool r) []) (fun rec hrec x r h=>Lb _ (fun a a2 r h=>hrec (a,a2) r h) h) h
abbrev du:=(aO->ae->ae->waA->Option ak)
abbrev gU(R:du):Prop:=∀(w:aO) (a:ae) (a2:ae) (used:waA) (r:ak),R w a a2 used=some r->CC Pg GE 35 [.agg (aM w),.agg (af a),.agg (af a2),sl cS used] (.agg (ax r)) []
def qbV:Code:=Tryz.f23.body.getD .skip
def qbN:List Nat:=[]
def jk(t:ae):Option Bool:=
 if(t.Op==1)=true then
  some true
 else
  if(t.Op==2)=true then
   some true
  else
   if(t.Op==3)=true then
    some true
   else
    some (t.Op==4)
theorem nh{t:ae}{r:Bool}(h:jk t=some r):CC Pg GE 23 [.agg (af t)] (.bool r) []:=by
 have p2:=fun{sc F} (r:PS sc F)=>se (cF t)<|sv (aK t)<|sv (aL t)<|r
 rcases aZ h with⟨c1,h⟩|⟨c1,h⟩
 ·obtain rfl:=lf h
  have z:=p2<|sg 4 c1<|en (aI (rP (.bool true))<|trivial)
  exact cn qbN Tryz.call23 Tryz.func23 (c:=qbV) rfl (aI (av t) trivial) z (by kernel_rfl)
 ·have p4:=fun{sc F} (r:PS sc F)=>p2<|sg 4 c1<|sv (aK t)<|sv (aL t)<|r
  rcases aZ h with⟨c3,h⟩|⟨c3,h⟩
  ·obtain rfl:=lf h
   have z:=p4<|sg 9 c3<|en (aI (rP (.bool true))<|trivial)
   exact cn qbN Tryz.call23 Tryz.func23 (c:=qbV) rfl (aI (av t) trivial) z (by kernel_rfl)
  ·have p6:=fun{sc F} (r:PS sc F)=>p4<|sg 9 c3<|sv (aK t)<|sv (aL t)<|r
   rcases aZ h with⟨c5,h⟩|⟨c5,h⟩
   ·obtain rfl:=lf h
    have z:=p6<|sg 14 c5<|en (aI (rP (.bool true))<|trivial)
    exact cn qbN Tryz.call23 Tryz.func23 (c:=qbV) rfl (aI (av t) trivial) z (by kernel_rfl)
   ·obtain rfl:=lf h
    have z:=p6<|sg 14 c5<|sv (aK t)<|sv (aL t)<|en (aI (rP (.bool (t.Op==4)))<|trivial)
    exact cn qbN Tryz.call23 Tryz.func23 (c:=qbV) rfl (aI (av t) trivial) z (by kernel_rfl)
def qar:Code:=Tryz.f77.body.getD .skip
def qam:List Nat:=[24,35]
section
variable(base:ag)(t11:waA)(t12:Int)(t13:Int)(m0:(List (ag×Bool)))
def iQ:az:=aY 36 [(1,.str base),(5,.mapr 0),(11,sl cS t11),(12,.int .i64 t12),(13,.int .i64 t13)] [.map (Du PVal.bool m0)] []
def pJ(o:(List (ag×Bool))):az:=aY 36 [(1,.str base),(5,.mapr 0)] [.map (Du PVal.bool o)] []
def iR:Option ((Int×(List (ag×Bool)))⊕(((List (ag×Bool))))):=
 if(decide (t13<t12))=true then
  (cR t11 t13).bind fun x2=>
  some (.inl (aR (t13+1),EY m0 x2 true))
 else
  some (.inr m0)
def oM:Option (((List (ag×Bool)))):=loop (fun(zz:Int×(List (ag×Bool)))=>iR t11 t12 zz.1 zz.2) (t13,m0)
theorem DG{y:(Int×(List (ag×Bool)))⊕(((List (ag×Bool))))}(h:iR t11 t12 t13 m0=some y):
  aT Pg GE 0 (cA qar 119) (LQ (fun(zz:Int×(List (ag×Bool)))=>iQ base t11 t12 zz.1 zz.2) (fun _=>.exit 0) (pJ base) y) (iQ base t11 t12 t13 m0):=by
 rcases aZ h with⟨c1,h⟩|⟨c1,h⟩
 ·obtain⟨x2,bx2,h⟩:=aB h
  obtain rfl:=lf h
  exact rU qam (sg 0 c1<|sv (bJ.ia (k:=.i64) bx2)<|sv (im Mo (.str x2) [])<|qeb (ZU (f:=PVal.bool) Tryz.underlying154 Tryz.underlying9 m0 x2 true)<|eF .normal (iQ base t11 t12 (aR (t13+1)) (EY m0 x2 true))) (by kernel_rfl)
 ·obtain rfl:=lf h
  have z:=sg 0 c1<|eF (.exit 0) (pJ base m0)
  exact i7 qam (by intro hx;cases hx) z (by kernel_rfl)
theorem E1{x:((List (ag×Bool)))}(h:oM t11 t12 t13 m0=some x):
  aT Pg GE 0 (.loop (cA qar 119)) (EX (.exit 0) (pJ base x)) (iQ base t11 t12 t13 m0):=
 aT.loop (S:=fun(zz:Int×(List (ag×Bool)))=>iQ base t11 t12 zz.1 zz.2) (ex:=(fun _=>.exit 0)) (s:=(t13,m0)) h fun zz y hy=>DG base t11 t12 zz.1 zz.2 hy
end
section
variable(base:ag)(m0:(List (ag×Bool)))(n:Int)
def iS:az:=aY 36 [(1,.str base),(5,.mapr 0),(8,.int .i64 n)] [.map (Du PVal.bool m0)] []
def pK(o:ag):az:=aY 36 [(4,.str o)] [.map (Du PVal.bool m0)] []
def gk:Option (Int⊕(ag)):=
 (S6 n).bind fun r6=>
 (ZL base r6).bind fun s7=>
 if(!((zp m0 s7).getD false))=true then
  some (.inr s7)
 else
  some (.inl (aR (n+1)))
def kP:Option ag:=loop (fun(zz:Int)=>gk base m0 zz) n
theorem DH{y:Int⊕(ag)}(h:gk base m0 n=some y):
  aT Pg GE 0 (cA qar 255) (LQ (fun(zz:Int)=>iS base m0 zz) (fun _=>.ret) (pK m0) y) (iS base m0 n):=by
 obtain⟨r6,br6,h⟩:=aB h
 obtain⟨s7,bs7,h⟩:=aB h
 have p9:=fun{sc F} (r:PS sc F)=>bT (X0 br6)<|sv (Z7 (P:=Pg) (t:=9) bs7)<|sv (Wp (f:=PVal.bool) Tryz.underlying154 Tryz.underlying9 qdE m0 s7)<|r
 rcases aZ h with⟨c8,h⟩|⟨c8,h⟩
 ·obtain rfl:=lf h
  have z:=p9<|sg 0 c8<|eF .ret (pK m0 s7)
  exact i7 qam (by intro hx;cases hx) z (by kernel_rfl)
 ·obtain rfl:=lf h
  exact rU qam (p9<|sg 0 c8<|eF .normal (iS base m0 (aR (n+1)))) (by kernel_rfl)
theorem E2{x:ag}(h:kP base m0 n=some x):
  aT Pg GE 0 (.loop (cA qar 255)) (EX .ret (pK m0 x)) (iS base m0 n):=
 aT.loop (S:=fun(zz:Int)=>iS base m0 zz) (ex:=(fun _=>.ret)) (s:=n) h fun zz y hy=>DH base m0 zz hy
end
def kO(used:waA)(base:ag):Option ag:=
 (oM used (used.length:Int) 0 ([]:List (ag×Bool))).bind fun o3=>
 if(!((zp o3 base).getD false))=true then
  some base
 else
  (kP base o3 1).bind fun o10=>
  some o10
theorem tV{used:waA}{base:ag}{r:ag}(h:kO used base=some r):CC Pg GE 77 [sl cS used,.str base] (.str r) []:=by
 obtain⟨o3,bo3,h⟩:=aB h
 have p5:=fun{sc F} (r:PS sc F)=>cz (bJ.ln used)<|di (E1 base used (used.length:Int) 0 ([]:List (ag×Bool)) bo3)<|sv (Wp (f:=PVal.bool) Tryz.underlying154 Tryz.underlying9 qdE o3 base)<|r
 rcases aZ h with⟨c4,h⟩|⟨c4,h⟩
 ·obtain rfl:=lf h
  have z:=p5<|sg 0 c4<|en (aI (rP (.str base))<|trivial)
  exact cn qam Tryz.call77 Tryz.func77 (c:=qar) rfl (aI (aq gG used) (aI trivial trivial)) z (by kernel_rfl)
 ·obtain⟨o10,bo10,h⟩:=aB h
  obtain rfl:=lf h
  have z:=p5<|sg 0 c4<|di (E2 base o3 1 bo10)<|en (aI (rP (.str o10))<|trivial)
  exact cn qam Tryz.call77 Tryz.func77 (c:=qar) rfl (aI (aq gG used) (aI trivial trivial)) z (by kernel_rfl)
def XE:Code:=Tryz.f109.body.getD .skip
def Ve:List Nat:=[10,17]
section
variable(s:waA)(v:ag)(t7:Int)(t8:Int)
def hX:az:=aY 19 [(0,sl cS s),(1,.str v),(7,.int .i64 t7),(8,.int .i64 t8)] [] []
def hZ(o:Int⊕(Unit)):Exit:=match o with
 |(.inl _)=>.ret
 |(.inr _)=>.exit 0
def fG(o:Int⊕(Unit)):az:=match o with
 |(.inl o)=>aY 19 [(4,.int .i64 o)] [] []
 |(.inr o)=>aY 19 [] [] []
def ew:Option (Int⊕(Int⊕(Unit))):=
 if(decide (t8<t7))=true then
  (cR s t8).bind fun x2=>
  if(v==x2)=true then
   some (.inr (.inl t8))
  else
   some (.inl (aR (t8+1)))
 else
  some (.inr (.inr ()))
def rK:Option (Int⊕(Unit)):=loop (fun(zz:Int)=>ew s v t7 zz) t8
theorem Cq{y:Int⊕(Int⊕(Unit))}(h:ew s v t7 t8=some y):
  aT Pg GE 0 (cA XE 55) (LQ (fun(zz:Int)=>hX s v t7 zz) hZ fG y) (hX s v t7 t8):=by
 rcases aZ h with⟨c1,h⟩|⟨c1,h⟩
 ·obtain⟨x2,bx2,h⟩:=aB h
  have p4:=fun{sc F} (r:PS sc F)=>sg 0 c1<|sv (bJ.ia (k:=.i64) bx2)<|sv (im Mo (.str x2) [])<|r
  rcases aZ h with⟨c3,h⟩|⟨c3,h⟩
  ·obtain rfl:=lf h
   have z:=p4<|sg 0 c3<|eF (hZ (.inl t8)) (fG (.inl t8))
   exact i7 Ve (by intro hx;cases hx) z (by kernel_rfl)
  ·obtain rfl:=lf h
   exact rU Ve (p4<|sg 0 c3<|eF .normal (hX s v t7 (aR (t8+1)))) (by kernel_rfl)
 ·obtain rfl:=lf h
  have z:=sg 0 c1<|eF (hZ (.inr ())) (fG (.inr ()))
  exact i7 Ve (by intro hx;cases hx) z (by kernel_rfl)
theorem ug{x:Int⊕(Unit)}(h:rK s v t7 t8=some x):
  aT Pg GE 0 (.loop (cA XE 55)) (EX (hZ x) (fG x)) (hX s v t7 t8):=
 aT.loop (S:=fun(zz:Int)=>hX s v t7 zz) (ex:=hZ) (s:=t8) h fun zz y hy=>Cq s v t7 zz hy
end
def oZ(s:waA)(v:ag):Option Int:=
 (rK s v (s.length:Int) 0).bind fun o5=>match o5 with
 |(.inl o5)=>
  some o5
 |(.inr o5)=>
  some (-1)
theorem y8{s:waA}{v:ag}{r:Int}(h:oZ s v=some r):CC Pg GE 109 [sl cS s,.str v] (.int .i64 r) []:=by
 obtain⟨o5,bo5,h⟩:=aB h
 rcases o5 with o5|o5
 ·obtain rfl:=lf h
  have z:=cz (bJ.ln s)<|di (e:=.ret) (s1:=fG (.inl o5)) (ug s v (s.length:Int) 0 bo5)<|en (aI (rP (.int .i64 o5))<|trivial)
  exact cn Ve Tryz.call109 Tryz.func109 (c:=XE) rfl (aI (aq gG s) (aI trivial trivial)) z (by kernel_rfl)
 ·obtain rfl:=lf h
  have z:=cz (bJ.ln s)<|di (e:=.exit 0) (s1:=fG (.inr o5)) (ug s v (s.length:Int) 0 bo5)<|en (aI (rP (.int .i64 (-1)))<|trivial)
  exact cn Ve Tryz.call109 Tryz.func109 (c:=XE) rfl (aI (aq gG s) (aI trivial trivial)) z (by kernel_rfl)
def qcw:Code:=Tryz.f137.body.getD .skip
def qci:List Nat:=[]
def eH(s:waA)(v:ag):Option Bool:=
 (oZ s v).bind fun r1=>
 some (decide (r1>=0))
theorem gB{s:waA}{v:ag}{r:Bool}(h:eH s v=some r):CC Pg GE 137 [sl cS s,.str v] (.bool r) []:=by
 obtain⟨r1,br1,h⟩:=aB h
 obtain rfl:=lf h
 have z:=bT (y8 br1)<|en (aI (rP (.bool (decide (r1>=0))))<|trivial)
 exact cn qci Tryz.call137 Tryz.func137 (c:=qcw) rfl (aI (aq gG s) (aI trivial trivial)) z (by kernel_rfl)
def XF:Code:=Tryz.f119.body.getD .skip
def TJ:List Nat:=[13,28,34]
section
variable(hidden:waA)(s:ai)(i:Int)(n:ag)(t9:waA)(t10:Int)(m:waB)(m2:waA)(m3:waB)
def nW:az:=aY 45 [(1,sl cS hidden),(2,.eptr (aw s)),(4,.bptr 1 0),(5,.bptr 2 0),(6,.int .i64 i),(7,.str n),(9,sl cS t9),(10,.int .i64 t10),(11,.int .i64 i)] [.dead,.cells [sl cS ([]:List ag),sl ac m] [(0,9),(1,36)],.cells [sl cS m2,sl ac m3] [(0,9),(1,36)]] []
def d4(o:Bool):az:=aY 45 [(1,sl cS hidden),(2,.eptr (aw s)),(4,.bptr 1 0),(5,.bptr 2 0),(6,.int .i64 i),(7,.str n),(9,sl cS t9),(10,.int .i64 t10),(11,.int .i64 i),(26,.bool o)] [.dead,.cells [sl cS ([]:List ag),sl ac m] [(0,9),(1,36)],.cells [sl cS m2,sl ac m3] [(0,9),(1,36)]] []
def eJ:Option Bool:=
 (eH hidden n).bind fun r3=>
 if(!r3)=true then
  (eH m2 n).bind fun r5=>
  some (!r5)
 else
  some false
theorem nz{x:Bool}(h:eJ hidden n m2=some x):
  aT Pg GE 0 (cA XF 7670) (EX .normal (d4 hidden s i n t9 t10 m m2 m3 x)) (nW hidden s i n t9 t10 m m2 m3):=by
 obtain⟨r3,br3,h⟩:=aB h
 rcases aZ h with⟨c4,h⟩|⟨c4,h⟩
 ·obtain⟨r5,br5,h⟩:=aB h
  obtain rfl:=lf h
  exact cw TJ (bT (gB br3)<|sg 5 c4<|ss<|bT (gB br5)<|eF .normal (d4 hidden s i n t9 t10 m m2 m3 (!r5))) (by kernel_rfl)
 ·obtain rfl:=lf h
  exact cw TJ (bT (gB br3)<|sg 5 c4<|eF .normal (d4 hidden s i n t9 t10 m m2 m3 false)) (by kernel_rfl)
end
section
variable(hidden:waA)(s:ai)(t9:waA)(t10:Int)(m:waB)(t11:Int)(m2:waA)(m3:waB)
def bZ:az:=aY 45 [(1,sl cS hidden),(2,.eptr (aw s)),(4,.bptr 1 0),(5,.bptr 2 0),(9,sl cS t9),(10,.int .i64 t10),(11,.int .i64 t11)] [.dead,.cells [sl cS ([]:List ag),sl ac m] [(0,9),(1,36)],.cells [sl cS m2,sl ac m3] [(0,9),(1,36)]] []
def d5(o:waA×waB):az:=aY 45 [(4,.bptr 1 0),(5,.bptr 2 0)] [.dead,.cells [sl cS ([]:List ag),sl ac m] [(0,9),(1,36)],.cells [sl cS o.1,sl ac o.2] [(0,9),(1,36)]] []
def bH:Option ((Int×waA×waB)⊕((waA×waB))):=
 if(decide (t11<t10))=true then
  (cR t9 t11).bind fun x2=>
  (eJ hidden x2 m2).bind fun o6=>
  if o6=true then
   (app m2 ([x2]:List ag)).bind fun l9=>
   (cR s.by_ t11).bind fun x10=>
   (app m3 ([x10]:List aa)).bind fun l11=>
   some (.inl (aR (t11+1),l9,l11))
  else
   some (.inl (aR (t11+1),m2,m3))
 else
  some (.inr (m2,m3))
def eK:Option ((waA×waB)):=loop (fun(zz:Int×waA×waB)=>bH hidden s t9 t10 zz.1 zz.2.1 zz.2.2) (t11,m2,m3)
theorem mS{y:(Int×waA×waB)⊕((waA×waB))}(h:bH hidden s t9 t10 t11 m2 m3=some y):
  aT Pg GE 0 (cA XF 119) (LQ (fun(zz:Int×waA×waB)=>bZ hidden s t9 t10 m zz.1 zz.2.1 zz.2.2) (fun _=>.exit 0) (d5 m) y) (bZ hidden s t9 t10 m t11 m2 m3):=by
 rcases aZ h with⟨c1,h⟩|⟨c1,h⟩
 ·obtain⟨x2,bx2,h⟩:=aB h
  obtain⟨o6,bo6,h⟩:=aB h
  have p8:=fun{sc F} (r:PS sc F)=>sg 0 c1<|sv (bJ.ia (k:=.i64) bx2)<|sv (im Mo (.str x2) [])<|nD 0<|di (nz hidden s t11 x2 t9 t10 m m2 m3 bo6)<|r
  rcases aZ h with⟨c7,h⟩|⟨c7,h⟩
  ·obtain⟨l9,bl9,h⟩:=aB h
   obtain⟨x10,bx10,h⟩:=aB h
   obtain⟨l11,bl11,h⟩:=aB h
   obtain rfl:=lf h
   exact rU TJ (p8<|sg 0 c7<|sv (bJ.mk' (v:=PVal.str) KI ([x2]:List ag) 1 (by kernel_rfl))<|sv (bJ.ap bl9)<|qX [0,1,0,4,0,28,60,124,255,511,1023]<|sv (fp s)<|sv (fK s)<|sv (ck.ia (k:=.i64) bx10)<|sv (be x10)<|sv (ck.mk' (v:=fe) dl ([x10]:List aa) 1 (by kernel_rfl))<|sv (ck.ap bl11)<|W6 (rfl:bO (sl ac l11)=some [sl ac l11])<|eF .normal (bZ hidden s t9 t10 m (aR (t11+1)) l9 l11)) (by kernel_rfl)
  ·obtain rfl:=lf h
   exact rU TJ (p8<|sg 0 c7<|eF .normal (bZ hidden s t9 t10 m (aR (t11+1)) m2 m3)) (by kernel_rfl)
 ·obtain rfl:=lf h
  have z:=sg 0 c1<|eF (.exit 0) (d5 m (m2,m3))
  exact i7 TJ (by intro hx;cases hx) z (by kernel_rfl)
theorem nA{x:(waA×waB)}(h:eK hidden s t9 t10 t11 m2 m3=some x):
  aT Pg GE 0 (.loop (cA XF 119)) (EX (.exit 0) (d5 m x)) (bZ hidden s t9 t10 m t11 m2 m3):=
 aT.loop (S:=fun(zz:Int×waA×waB)=>bZ hidden s t9 t10 m zz.1 zz.2.1 zz.2.2) (ex:=(fun _=>.exit 0)) (s:=(t11,m2,m3)) h fun zz y hy=>mS hidden s t9 t10 m zz.1 zz.2.1 zz.2.2 hy
end
def bQ(s:ai)(hidden:waA):Option ai:=
 (eK hidden s s.names (s.names.length:Int) 0 ([]:List ag) ([]:List aa)).bind fun o12=>
 some (⟨o12.1,o12.2⟩:ai)
theorem eL{s:ai}{hidden:waA}{r:ai}(h:bQ s hidden=some r):CC Pg GE 119 [.agg (aw s),sl cS hidden] (.agg (aw r)) [(0,9),(1,36)]:=by
 obtain⟨o12,bo12,h⟩:=aB h
 obtain rfl:=lf h
 have z:=se (dm s)<|sx Ni<|sx Ni<|sv (jb s)<|sv (jv s)<|cz (bJ.ln s.names)<|di (nA hidden s s.names (s.names.length:Int) ([]:List aa) 0 ([]:List ag) ([]:List aa) bo12)<|sz (cp (⟨o12.1,o12.2⟩:ai) [])<|sy (cy (⟨o12.1,o12.2⟩:ai))<|en (aI (mT (⟨o12.1,o12.2⟩:ai))<|aI (bm (⟨o12.1,o12.2⟩:ai))<|rT)
 exact cn TJ Tryz.call119 Tryz.func119 (c:=XF) rfl (aI (bm s) (aI (aq gG hidden) trivial)) z (by kernel_rfl)
abbrev bN:=(ai->ae->Option ae)
abbrev cx(R:bN):Prop:=∀(s:ai) (t:ae) (r:ae),R s t=some r->CC Pg GE 120 [.agg (aw s),.agg (af t)] (.agg (af r)) [(2,38)]
abbrev mV:=(aa->waA->waB->Option aa)
abbrev rj(R:mV):Prop:=∀(p:aa) (a:waA) (a2:waB) (r:aa),R p a a2=some r->CC Pg GE 65 [.agg (ac p),sl cS a,sl ac a2] (.agg (ac r)) [(3,36)]
def qdY:Code:=Tryz.f92.body.getD .skip
def qdN:List Nat:=[]
def DF(a:waA)(s:ag):Option Int:=
 (oZ a s).bind fun r1=>
 some r1
theorem Me{a:waA}{s:ag}{r:Int}(h:DF a s=some r):CC Pg GE 92 [sl cS a,.str s] (.int .i64 r) []:=by
 obtain⟨r1,br1,h⟩:=aB h
 obtain rfl:=lf h
 have z:=bT (y8 br1)<|en (aI (rP (.int .i64 r1))<|trivial)
 exact cn qdN Tryz.call92 Tryz.func92 (c:=qdY) rfl (aI (aq gG a) (aI trivial trivial)) z (by kernel_rfl)
abbrev qi:=(aa->Option aa)
abbrev vw(R:qi):Prop:=∀(p:aa) (r:aa),R p=some r->CC Pg GE 91 [.agg (ac p)] (.agg (ac r)) [(3,36)]
def qcF:Code:=Tryz.f91.body.getD .skip
def qcp:List Nat:=[21]
section
variable(R66:qi)(t14:waB)(t15:Int)(m:waB)(m2:Int)(m3:ag)(m4:Int)(t16:Int)(m5:waB)
def iW:az:=aY 29 [(2,.bptr 1 0),(3,.bptr 2 0),(14,sl ac t14),(15,.int .i64 t15),(16,.int .i64 t16)] [.dead,.cells [.int .i64 0,.str ([]:ag),.int .i64 0,sl ac m] [(3,36)],.cells [.int .i64 m2,.str m3,.int .i64 m4,sl ac m5] [(3,36)]] []
def pR(o:waB):az:=aY 29 [(2,.bptr 1 0),(3,.bptr 2 0)] [.dead,.cells [.int .i64 0,.str ([]:ag),.int .i64 0,sl ac m] [(3,36)],.cells [.int .i64 m2,.str m3,.int .i64 m4,sl ac o] [(3,36)]] []
def lB:Option ((Int×waB)⊕(waB)):=
 if(decide (t16<t15))=true then
  (cR t14 t16).bind fun x2=>
  (R66 x2).bind fun r3=>
  (app m5 ([r3]:List aa)).bind fun l4=>
  some (.inl (aR (t16+1),l4))
 else
  some (.inr m5)
def ud:Option waB:=loop (fun(zz:Int×waB)=>lB R66 t14 t15 zz.1 zz.2) (t16,m5)
theorem DQ(hR66:vw R66){y:(Int×waB)⊕(waB)}(h:lB R66 t14 t15 t16 m5=some y):
  aT Pg GE 0 (cA qcF 119) (LQ (fun(zz:Int×waB)=>iW t14 t15 m m2 m3 m4 zz.1 zz.2) (fun _=>.exit 0) (pR m m2 m3 m4) y) (iW t14 t15 m m2 m3 m4 t16 m5):=by
 rcases aZ h with⟨c1,h⟩|⟨c1,h⟩
 ·obtain⟨x2,bx2,h⟩:=aB h
  obtain⟨r3,br3,h⟩:=aB h
  obtain⟨l4,bl4,h⟩:=aB h
  obtain rfl:=lf h
  have z:=sg 0 c1<|sv (ck.ia (k:=.i64) bx2)<|sv (be x2)<|sx lC<|sx (dn x2)<|qX [0,1,0,4,12,31,63,127]<|sv (cm x2 [])<|bT (hR66 _ _ br3)<|sv (ck.mk' (v:=fe) dl ([r3]:List aa) 1 (by kernel_rfl))<|sv (ck.ap bl4)<|W6 (rfl:bO (sl ac l4)=some [sl ac l4])<|zn 0 .normal (iW t14 t15 m m2 m3 m4 (aR (t16+1)) l4) rfl (eg (aI (d6 rfl) (aI (d6 rfl) (aI (up (aq ah t14)) (aI trivial (aI trivial trivial)))))) (aI trivial (aI (aI trivial (aI trivial (aI trivial (aI (up (aq ah m)) trivial)))) (aI (aI trivial (aI trivial (aI trivial (aI (up (aq ah l4)) trivial)))) trivial)))
  exact dS (A:=qcp) mixed z (by kernel_rfl)
 ·obtain rfl:=lf h
  have z:=sg 0 c1<|eF (.exit 0) (pR m m2 m3 m4 m5)
  exact i7 qcp (by intro hx;cases hx) z (by kernel_rfl)
theorem Fg(hR66:vw R66){x:waB}(h:ud R66 t14 t15 t16 m5=some x):
  aT Pg GE 0 (.loop (cA qcF 119)) (EX (.exit 0) (pR m m2 m3 m4 x)) (iW t14 t15 m m2 m3 m4 t16 m5):=
 aT.loop (S:=fun(zz:Int×waB)=>iW t14 t15 m m2 m3 m4 zz.1 zz.2) (ex:=(fun _=>.exit 0)) (s:=(t16,m5)) h fun zz y hy=>DQ R66 t14 t15 m m2 m3 m4 zz.1 zz.2 hR66 hy
end
def wn(R66:qi)(p:aa):Option aa:=
 (ud R66 p.Kids (p.Kids.length:Int) 0 ([]:List aa)).bind fun o5=>
 some (⟨p.Op,p.Name,p.N,o5⟩:aa)
theorem IC(R66:qi)(hR66:vw R66){p:aa}{r:aa}(h:wn R66 p=some r):CC Pg GE 91 [.agg (ac p)] (.agg (ac r)) [(3,36)]:=by
 obtain⟨o5,bo5,h⟩:=aB h
 obtain rfl:=lf h
 have z:=se (cr p)<|sx lC<|sv (bC p)<|sv (bD p)<|sv (cC p)<|sv (cN p)<|sv (de p)<|sv (dz p)<|sb (AJ p.Op p.Name p.N) (AH p.Op p.Name p.N)<|sx lC<|sy (aF (⟨p.Op,p.Name,p.N,([]:List aa)⟩:aa))<|sv (bq p)<|sv (bu p)<|cz (ck.ln p.Kids)<|di (Fg R66 p.Kids (p.Kids.length:Int) ([]:List aa) p.Op p.Name p.N 0 ([]:List aa) hR66 bo5)<|sz (cm (⟨p.Op,p.Name,p.N,o5⟩:aa) [])<|sy (aF (⟨p.Op,p.Name,p.N,o5⟩:aa))<|en (aI (e8 (⟨p.Op,p.Name,p.N,o5⟩:aa))<|aI (ah (⟨p.Op,p.Name,p.N,o5⟩:aa))<|rT)
 exact cn qcp Tryz.call91 Tryz.func91 (c:=qcF) rfl (aI (ah p) trivial) z (by kernel_rfl)
def qv:(aa->Option aa)->(aa)->Option aa:=fun(rec:aa->Option aa) (x:aa)=>wn (fun p=>rec p) x
def nQ(p:aa):Option aa:=oG qv p
theorem oO{p:aa}{r:aa}(h:nQ p=some r):CC Pg GE 91 [.agg (ac p)] (.agg (ac r)) [(3,36)]:=
 cU (F:=qv) (M:=fun(x:aa) (r:aa)=>CC Pg GE 91 [.agg (ac x)] (.agg (ac r)) [(3,36)]) (fun rec hrec x r h=>IC _ (fun p r h=>hrec p r h) h) h
def qaq:Code:=Tryz.f65.body.getD .skip
def Xu:List Nat:=[46]
section
variable(v:waA)(v2:waB)(p:aa)(i:Int)(m:waB)
def DP:az:=aY 56 [(1,sl cS v),(2,sl ac v2),(3,.eptr (ac p)),(6,.bptr 1 0),(7,.int .i64 i)] [.dead,.cells [.int .i64 0,.str ([]:ag),.int .i64 0,sl ac m] [(3,36)]] []
def nx(o:Bool):az:=aY 56 [(1,sl cS v),(2,sl ac v2),(3,.eptr (ac p)),(6,.bptr 1 0),(7,.int .i64 i),(25,.bool o)] [.dead,.cells [.int .i64 0,.str ([]:ag),.int .i64 0,sl ac m] [(3,36)]] []
def pP:Option Bool:=
 if(decide (i>=0))=true then
  some (decide (i<(v2.length:Int)))
 else
  some false
theorem Ci{x:Bool}(h:pP v2 i=some x):
  aT Pg GE 0 (cA qaq 106) (EX .normal (nx v v2 p i m x)) (DP v v2 p i m):=by
 rcases aZ h with⟨c4,h⟩|⟨c4,h⟩
 ·obtain rfl:=lf h
  exact cw Xu (sg 3 c4<|cz (ck.ln v2)<|eF .normal (nx v v2 p i m (decide (i<(v2.length:Int))))) (by kernel_rfl)
 ·obtain rfl:=lf h
  exact cw Xu (sg 3 c4<|eF .normal (nx v v2 p i m false)) (by kernel_rfl)
end
section
variable(v:waA)(v2:waB)(p:aa)(m:waB)
def DO:az:=aY 56 [(1,sl cS v),(2,sl ac v2),(3,.eptr (ac p)),(6,.bptr 1 0)] [.dead,.cells [.int .i64 0,.str ([]:ag),.int .i64 0,sl ac m] [(3,36)]] []
def ji(o:(Int×ag×Int×waB)⊕(Unit)):Exit:=match o with
 |(.inl _)=>.ret
 |(.inr _)=>.normal
def eY(o:(Int×ag×Int×waB)⊕(Unit)):az:=match o with
 |(.inl o)=>aY 56 [(6,.bptr 1 0)] [.dead,.cells [.int .i64 o.1,.str o.2.1,.int .i64 o.2.2.1,sl ac o.2.2.2] [(3,36)]] []
 |(.inr o)=>aY 56 [(1,sl cS v),(2,sl ac v2),(3,.eptr (ac p)),(6,.bptr 1 0)] [.dead,.cells [.int .i64 0,.str ([]:ag),.int .i64 0,sl ac m] [(3,36)]] []
def ly:Option ((Int×ag×Int×waB)⊕(Unit)):=
 if(p.Op==3)=true then
  (DF v p.Name).bind fun r3=>
  (pP v2 r3).bind fun o5=>
  if o5=true then
   (cR v2 r3).bind fun x8=>
   (nQ x8).bind fun r9=>
   some (.inl (r9.Op,r9.Name,r9.N,r9.Kids))
  else
   some (.inr ())
 else
  some (.inr ())
theorem rV{x:(Int×ag×Int×waB)⊕(Unit)}(h:ly v v2 p=some x):
  aT Pg GE 0 (cA qaq 6) (EX (ji x) (eY v v2 p m x)) (DO v v2 p m):=by
 have p2:=fun{sc F} (r:PS sc F)=>sv (bC p)<|sv (bD p)<|r
 rcases aZ h with⟨c1,h⟩|⟨c1,h⟩
 ·obtain⟨r3,br3,h⟩:=aB h
  obtain⟨o5,bo5,h⟩:=aB h
  have p7:=fun{sc F} (r:PS sc F)=>p2<|sg 0 c1<|sv (cC p)<|sv (cN p)<|bT (Me br3)<|nD 0<|di (Ci v v2 p r3 m bo5)<|r
  rcases aZ h with⟨c6,h⟩|⟨c6,h⟩
  ·obtain⟨x8,bx8,h⟩:=aB h
   obtain⟨r9,br9,h⟩:=aB h
   obtain rfl:=lf h
   exact cw Xu (p7<|sg 0 c6<|sv (ck.ia (k:=.i64) bx8)<|sv (be x8)<|bT (oO br9)<|sy (aF r9)<|eF (ji (.inl (r9.Op,r9.Name,r9.N,r9.Kids))) (eY v v2 p m (.inl (r9.Op,r9.Name,r9.N,r9.Kids)))) (by kernel_rfl)
  ·obtain rfl:=lf h
   exact cw Xu (p7<|sg 0 c6<|eF (ji (.inr ())) (eY v v2 p m (.inr ()))) (by kernel_rfl)
 ·obtain rfl:=lf h
  exact cw Xu (p2<|sg 0 c1<|eF (ji (.inr ())) (eY v v2 p m (.inr ()))) (by kernel_rfl)
end
section
variable(R64:mV)(v:waA)(v2:waB)(t39:waB)(t40:Int)(m:waB)(m2:Int)(m3:ag)(m4:Int)(t41:Int)(m5:waB)
def gz:az:=aY 56 [(1,sl cS v),(2,sl ac v2),(6,.bptr 1 0),(8,.bptr 2 0),(39,sl ac t39),(40,.int .i64 t40),(41,.int .i64 t41)] [.dead,.cells [.int .i64 0,.str ([]:ag),.int .i64 0,sl ac m] [(3,36)],.cells [.int .i64 m2,.str m3,.int .i64 m4,sl ac m5] [(3,36)]] []
def ny(o:waB):az:=aY 56 [(6,.bptr 1 0),(8,.bptr 2 0)] [.dead,.cells [.int .i64 0,.str ([]:ag),.int .i64 0,sl ac m] [(3,36)],.cells [.int .i64 m2,.str m3,.int .i64 m4,sl ac o] [(3,36)]] []
def uc:Option ((Int×waB)⊕(waB)):=
 if(decide (t41<t40))=true then
  (cR t39 t41).bind fun x12=>
  (R64 x12 v v2).bind fun r13=>
  (app m5 ([r13]:List aa)).bind fun l14=>
  some (.inl (aR (t41+1),l14))
 else
  some (.inr m5)
def pQ:Option waB:=loop (fun(zz:Int×waB)=>uc R64 v v2 t39 t40 zz.1 zz.2) (t41,m5)
theorem Bi(hR64:rj R64){y:(Int×waB)⊕(waB)}(h:uc R64 v v2 t39 t40 t41 m5=some y):
  aT Pg GE 0 (cA qaq 247) (LQ (fun(zz:Int×waB)=>gz v v2 t39 t40 m m2 m3 m4 zz.1 zz.2) (fun _=>.exit 0) (ny m m2 m3 m4) y) (gz v v2 t39 t40 m m2 m3 m4 t41 m5):=by
 rcases aZ h with⟨c11,h⟩|⟨c11,h⟩
 ·obtain⟨x12,bx12,h⟩:=aB h
  obtain⟨r13,br13,h⟩:=aB h
  obtain⟨l14,bl14,h⟩:=aB h
  obtain rfl:=lf h
  have z:=sg 0 c11<|sv (ck.ia (k:=.i64) bx12)<|sv (be x12)<|sx lC<|sx (dn x12)<|qX [0,1,0,0,0,28,60,127,255,511]<|sv (cm x12 [])<|bT (hR64 _ _ _ _ br13)<|sv (ck.mk' (v:=fe) dl ([r13]:List aa) 1 (by kernel_rfl))<|sv (ck.ap bl14)<|W6 (rfl:bO (sl ac l14)=some [sl ac l14])<|zn 0 .normal (gz v v2 t39 t40 m m2 m3 m4 (aR (t41+1)) l14) rfl (eg (aI (up (aq gG v)) (aI (up (aq ah v2)) (aI (d6 rfl) (aI (d6 rfl) (aI (up (aq ah t39)) (aI trivial (aI trivial trivial)))))))) (aI trivial (aI (aI trivial (aI trivial (aI trivial (aI (up (aq ah m)) trivial)))) (aI (aI trivial (aI trivial (aI trivial (aI (up (aq ah l14)) trivial)))) trivial)))
  exact dS (A:=Xu) mixed z (by kernel_rfl)
 ·obtain rfl:=lf h
  have z:=sg 0 c11<|eF (.exit 0) (ny m m2 m3 m4 m5)
  exact i7 Xu (by intro hx;cases hx) z (by kernel_rfl)
theorem Cj(hR64:rj R64){x:waB}(h:pQ R64 v v2 t39 t40 t41 m5=some x):
  aT Pg GE 0 (.loop (cA qaq 247)) (EX (.exit 0) (ny m m2 m3 m4 x)) (gz v v2 t39 t40 m m2 m3 m4 t41 m5):=
 aT.loop (S:=fun(zz:Int×waB)=>gz v v2 t39 t40 m m2 m3 m4 zz.1 zz.2) (ex:=(fun _=>.exit 0)) (s:=(t41,m5)) h fun zz y hy=>Bi R64 v v2 t39 t40 m m2 m3 m4 zz.1 zz.2 hR64 hy
end
def ng(R64:mV)(p:aa)(a:waA)(a2:waB):Option aa:=
 (ly a a2 p).bind fun o10=>match o10 with
 |(.inl o10)=>
  some (⟨o10.1,o10.2.1,o10.2.2.1,o10.2.2.2⟩:aa)
 |(.inr o10)=>
  (pQ R64 a a2 p.Kids (p.Kids.length:Int) 0 ([]:List aa)).bind fun o15=>
  some (⟨p.Op,p.Name,p.N,o15⟩:aa)
theorem Ff(R64:mV)(hR64:rj R64){p:aa}{a:waA}{a2:waB}{r:aa}(h:ng R64 p a a2=some r):CC Pg GE 65 [.agg (ac p),sl cS a,sl ac a2] (.agg (ac r)) [(3,36)]:=by
 obtain⟨o10,bo10,h⟩:=aB h
 rcases o10 with o10|o10
 ·obtain rfl:=lf h
  have z:=se (cr p)<|sx lC<|nD 0<|di (e:=.ret) (s1:=eY a a2 p ([]:List aa) (.inl o10)) (rV a a2 p ([]:List aa) bo10)<|en (aI (e8 (⟨o10.1,o10.2.1,o10.2.2.1,o10.2.2.2⟩:aa))<|aI (ah (⟨o10.1,o10.2.1,o10.2.2.1,o10.2.2.2⟩:aa))<|rT)
  exact cn Xu Tryz.call65 Tryz.func65 (c:=qaq) rfl (aI (ah p) (aI (aq gG a) (aI (aq ah a2) trivial))) z (by kernel_rfl)
 ·obtain⟨o15,bo15,h⟩:=aB h
  obtain rfl:=lf h
  have z:=se (cr p)<|sx lC<|nD 0<|di (e:=.normal) (s1:=eY a a2 p ([]:List aa) (.inr o10)) (rV a a2 p ([]:List aa) bo10)<|sv (bC p)<|sv (bD p)<|sv (cC p)<|sv (cN p)<|sv (de p)<|sv (dz p)<|sb (AJ p.Op p.Name p.N) (AH p.Op p.Name p.N)<|sx lC<|sy (aF (⟨p.Op,p.Name,p.N,([]:List aa)⟩:aa))<|sv (bq p)<|sv (bu p)<|cz (ck.ln p.Kids)<|di (Cj R64 a a2 p.Kids (p.Kids.length:Int) ([]:List aa) p.Op p.Name p.N 0 ([]:List aa) hR64 bo15)<|sz (cm (⟨p.Op,p.Name,p.N,o15⟩:aa) [])<|sy (aF (⟨p.Op,p.Name,p.N,o15⟩:aa))<|en (aI (e8 (⟨p.Op,p.Name,p.N,o15⟩:aa))<|aI (ah (⟨p.Op,p.Name,p.N,o15⟩:aa))<|rT)
  exact cn Xu Tryz.call65 Tryz.func65 (c:=qaq) rfl (aI (ah p) (aI (aq gG a) (aI (aq ah a2) trivial))) z (by kernel_rfl)
def rE:((aa×waA×waB)->Option aa)->(aa×waA×waB)->Option aa:=fun(rec:(aa×waA×waB)->Option aa) (x:aa×waA×waB)=>ng (fun p a a2=>rec (p,a,a2)) x.1 x.2.1 x.2.2
def j5(p:aa)(a:waA)(a2:waB):Option aa:=oG rE (p,a,a2)
theorem lz{p:aa}{a:waA}{a2:waB}{r:aa}(h:j5 p a a2=some r):CC Pg GE 65 [.agg (ac p),sl cS a,sl ac a2] (.agg (ac r)) [(3,36)]:=
 cU (F:=rE) (M:=fun(x:aa×waA×waB) (r:aa)=>CC Pg GE 65 [.agg (ac x.1),sl cS x.2.1,sl ac x.2.2] (.agg (ac r)) [(3,36)]) (fun rec hrec x r h=>Ff _ (fun p a a2 r h=>hrec (p,a,a2) r h) h) h
def qcx:Code:=Tryz.f139.body.getD .skip
def qcj:List Nat:=[]
def cH(s:ai)(p:aa):Option aa:=
 (j5 p s.names s.by_).bind fun r1=>
 some r1
theorem fM{s:ai}{p:aa}{r:aa}(h:cH s p=some r):CC Pg GE 139 [.agg (aw s),.agg (ac p)] (.agg (ac r)) [(3,36)]:=by
 obtain⟨r1,br1,h⟩:=aB h
 obtain rfl:=lf h
 have z:=se (dm s)<|se (cr p)<|sx lC<|sv (be p)<|sv (jb s)<|sv (jv s)<|sv (fp s)<|sv (fK s)<|bT (lz br1)<|sy (aF r1)<|en (aI (e8 r1)<|aI (ah r1)<|rT)
 exact cn qcj Tryz.call139 Tryz.func139 (c:=qcx) rfl (aI (bm s) (aI (ah p) trivial)) z (by kernel_rfl)
def ZA:Code:=Tryz.f140.body.getD .skip
def Zk:List Nat:=[14,21]
section
variable(v:ai)(t8:waB)(t9:Int)(out:waB)(t10:Int)
def fY:az:=aY 22 [(1,.func (.func 139) [.agg (aw v)] []),(5,sl ac out),(8,sl ac t8),(9,.int .i64 t9),(10,.int .i64 t10)] [] [((5,0),36)]
def lW(o:waB):az:=aY 22 [(5,sl ac o)] [] [((5,0),36)]
def rW:Option ((waB×Int)⊕(waB)):=
 if(decide (t10<t9))=true then
  (cR t8 t10).bind fun x2=>
  (cH v x2).bind fun r3=>
  (app out ([r3]:List aa)).bind fun l4=>
  some (.inl (l4,aR (t10+1)))
 else
  some (.inr out)
def oU:Option waB:=loop (fun(zz:waB×Int)=>rW v t8 t9 zz.1 zz.2) (out,t10)
theorem zr{y:(waB×Int)⊕(waB)}(h:rW v t8 t9 out t10=some y):
  aT Pg GE 0 (cA ZA 119) (LQ (fun(zz:waB×Int)=>fY v t8 t9 zz.1 zz.2) (fun _=>.exit 0) lW y) (fY v t8 t9 out t10):=by
 rcases aZ h with⟨c1,h⟩|⟨c1,h⟩
 ·obtain⟨x2,bx2,h⟩:=aB h
  obtain⟨r3,br3,h⟩:=aB h
  obtain⟨l4,bl4,h⟩:=aB h
  obtain rfl:=lf h
  have z:=sg 0 c1<|sv (ck.ia (k:=.i64) bx2)<|sv (be x2)<|sx lC<|sx (dn x2)<|sv (cm x2 [])<|bT (fM br3)<|sv (ck.mk' (v:=fe) dl ([r3]:List aa) 1 (by kernel_rfl))<|sv (ck.ap bl4)<|zn 0 .normal (fY v t8 t9 l4 (aR (t10+1))) rfl (eg (aI (aI (aI (up (bm v)) trivial) trivial) (aI (up (aq ah l4)) (aI (up (aq ah t8)) (aI trivial (aI trivial trivial)))))) trivial
  exact dS (A:=Zk) mixed z (by kernel_rfl)
 ·obtain rfl:=lf h
  have z:=sg 0 c1<|eF (.exit 0) (lW out)
  exact i7 Zk (by intro hx;cases hx) z (by kernel_rfl)
theorem Bo{x:waB}(h:oU v t8 t9 out t10=some x):
  aT Pg GE 0 (.loop (cA ZA 119)) (EX (.exit 0) (lW x)) (fY v t8 t9 out t10):=
 aT.loop (S:=fun(zz:waB×Int)=>fY v t8 t9 zz.1 zz.2) (ex:=(fun _=>.exit 0)) (s:=(out,t10)) h fun zz y hy=>zr v t8 t9 zz.1 zz.2 hy
end
def kT(a:waB)(c:ai):Option waB:=
 (oU c a (a.length:Int) ([]:List aa) 0).bind fun o5=>
 some o5
theorem vd{a:waB}{c:ai}{r:waB}(h:kT a c=some r):CC Pg GE 140 [sl ac a,.func (.func 139) [.agg (aw c)] []] (sl ac r) [(0,36)]:=by
 obtain⟨o5,bo5,h⟩:=aB h
 obtain rfl:=lf h
 have z:=cz (ck.ln a)<|di (Bo c a (a.length:Int) ([]:List aa) 0 bo5)<|en (aI (rP (sl ac o5))<|(aq ah o5))
 exact cn Zk Tryz.call140 Tryz.func140 (c:=ZA) rfl (aI (aq ah a) (aI (aI (aI (bm c) trivial) trivial) trivial)) z (by kernel_rfl)
def ZC:Code:=Tryz.f151.body.getD .skip
def Zm:List Nat:=[13,18]
section
variable(t7:waB)(t8:Int)(out:waA)(t9:Int)
def cQ:az:=aY 19 [(3,sl cS out),(7,sl ac t7),(8,.int .i64 t8),(9,.int .i64 t9)] [.dead] [((3,0),9)]
def e5(o:waA):az:=aY 19 [(3,sl cS o)] [.dead] [((3,0),9)]
def eZ:Option ((waA×Int)⊕(waA)):=
 if(decide (t9<t8))=true then
  (cR t7 t9).bind fun x2=>
  (pO x2).bind fun r3=>
  (app out r3).bind fun l4=>
  some (.inl (l4,aR (t9+1)))
 else
  some (.inr out)
def fL:Option waA:=loop (fun(zz:waA×Int)=>eZ t7 t8 zz.1 zz.2) (out,t9)
theorem oV{y:(waA×Int)⊕(waA)}(h:eZ t7 t8 out t9=some y):
  aT Pg GE 0 (cA ZC 119) (LQ (fun(zz:waA×Int)=>cQ t7 t8 zz.1 zz.2) (fun _=>.exit 0) e5 y) (cQ t7 t8 out t9):=by
 rcases aZ h with⟨c1,h⟩|⟨c1,h⟩
 ·obtain⟨x2,bx2,h⟩:=aB h
  obtain⟨r3,br3,h⟩:=aB h
  obtain⟨l4,bl4,h⟩:=aB h
  obtain rfl:=lf h
  have z:=sg 0 c1<|sv (ck.ia (k:=.i64) bx2)<|sv (be x2)<|sx lC<|sx (dn x2)<|sv (cm x2 [])<|bT (Fc br3)<|sv (bJ.ap bl4)<|zn 0 .normal (cQ t7 t8 l4 (aR (t9+1))) rfl (eg (aI (up (aq gG l4)) (aI (up (aq ah t7)) (aI trivial (aI trivial trivial))))) (aI trivial trivial)
  exact dS (A:=Zm) mixed z (by kernel_rfl)
 ·obtain rfl:=lf h
  have z:=sg 0 c1<|eF (.exit 0) (e5 out)
  exact i7 Zm (by intro hx;cases hx) z (by kernel_rfl)
theorem pg{x:waA}(h:fL t7 t8 out t9=some x):
  aT Pg GE 0 (.loop (cA ZC 119)) (EX (.exit 0) (e5 x)) (cQ t7 t8 out t9):=
 aT.loop (S:=fun(zz:waA×Int)=>cQ t7 t8 zz.1 zz.2) (ex:=(fun _=>.exit 0)) (s:=(out,t9)) h fun zz y hy=>oV t7 t8 zz.1 zz.2 hy
end
def dD(s:ai):Option waA:=
 (fL s.by_ (s.by_.length:Int) ([]:List ag) 0).bind fun o5=>
 some o5
theorem jF{s:ai}{r:waA}(h:dD s=some r):CC Pg GE 151 [.agg (aw s)] (sl cS r) [(0,9)]:=by
 obtain⟨o5,bo5,h⟩:=aB h
 obtain rfl:=lf h
 have z:=se (dm s)<|sv (fp s)<|sv (fK s)<|cz (ck.ln s.by_)<|di (pg s.by_ (s.by_.length:Int) ([]:List ag) 0 bo5)<|en (aI (rP (sl cS o5))<|(aq gG o5))
 exact cn Zm Tryz.call151 Tryz.func151 (c:=ZC) rfl (aI (bm s) trivial) z (by kernel_rfl)
abbrev oh:=(ae->Option waA)
abbrev sW(R:oh):Prop:=∀(t:ae) (r:waA),R t=some r->CC Pg GE 152 [.agg (af t)] (sl cS r) [(0,9)]
def qaZ:Code:=Tryz.f157.body.getD .skip
def qaA:List Nat:=[]
def kS(t:ae)(i:Int):Option waA:=
 if(t.Op !=6)=true then
  some ([]:List ag)
 else
  (Ld t.Names none (some (if(t.Names.length:Int)<i then(t.Names.length:Int)else i))).bind fun l3=>
  some l3
theorem Fm{t:ae}{i:Int}{r:waA}(h:kS t i=some r):CC Pg GE 157 [.agg (af t),.int .i64 i] (sl cS r) []:=by
 have p2:=fun{sc F} (r:PS sc F)=>se (cF t)<|sv (aK t)<|sv (aL t)<|r
 rcases aZ h with⟨c1,h⟩|⟨c1,h⟩
 ·obtain rfl:=lf h
  have z:=p2<|sg 0 c1<|en (aI (rP (sl cS ([]:List ag)))<|(aq gG ([]:List ag)))
  exact cn qaA Tryz.call157 Tryz.func157 (c:=qaZ) rfl (aI (av t) (aI trivial trivial)) z (by kernel_rfl)
 ·obtain⟨l3,bl3,h⟩:=aB h
  obtain rfl:=lf h
  have z:=p2<|sg 0 c1<|sv (bh t)<|sv (bj t)<|sv (bh t)<|sv (bj t)<|cz (bJ.ln t.Names)<|sv (bJ.sc bl3)<|en (aI (rP (sl cS l3))<|(aq gG l3))
  exact cn qaA Tryz.call157 Tryz.func157 (c:=qaZ) rfl (aI (av t) (aI trivial trivial)) z (by kernel_rfl)
end Go.Proofs.YtbaamopmfmpfaaaGreatDoor
