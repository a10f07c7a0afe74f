/- PROVED: a part of the proof. Conditions: none. -/
import Derived.Test.YtoficachfgggjaaDoorPkC9
noncomputable section
namespace Go.Proofs.YtoficachfgggjaaDoor
open Go Go.Proofs.Tryd
set_option linter.unusedVariables false
set_option maxRecDepth 100000
noncomputable def GR:Code:=f10.body.getD .skip
def Dg:List Nat:=[21]
section
variable(g:aa)
def qv:ak:=aY 63 [(1,.eptr (ac g))] [.dead] []
def gB(o:Bool):ak:=aY 63 [(1,.eptr (ac g)),(15,.bool o)] [.dead] []
def eY:Option Bool:=
 (mE g.Caller).bind fun r1=>
 if(r1 !=0)=true then
  some true
 else
  (mE g.Callee).bind fun r4=>
  some (r4 !=0)
theorem pS{x:Bool}(h:eY g=some x):aA Pg GE 0 (cA GR 12) (EX .normal (gB g x)) (qv g):=by
 obtain⟨r1,br1,h⟩:=ax h
 have p3:=fun{sc F} (r:PS sc F)=>sv (aD g)<|sv (aM g)<|bW (sF br1)<|r
 rcases aG h with⟨c2,h⟩|⟨c2,h⟩
 ·obtain rfl:=lf h
  exact dz Dg (p3<|sg 5 c2<|eF .normal (gB g true))<|by kernel_rfl
 ·obtain⟨r4,br4,h⟩:=ax h
  obtain rfl:=lf h
  exact dz Dg (p3<|sg 5 c2<|sv (aE g)<|sv (aN g)<|bW (sF br4)<|eF .normal (gB g (r4 !=0)))<|by kernel_rfl
end
section
variable(g:aa)(i:Int)(t17:waB)(t18:Int)(m1:lH)(m:Int)(m2:Int)(m3:Bool)
def qw:ak:=aY 63 [(1,.eptr (ac g)),(3,.bptr 1 0),(4,.int .i64 i),(5,.bptr 2 0),(17,sl ai t17),(18,.int .i64 t18),(19,.int .i64 i)] [.dead,.cells (lw m1) [],.cells [.int .i64 m,.int .i64 m2,.bool m3] []] []
def gC(o:Bool):ak:=aY 63 [(1,.eptr (ac g)),(3,.bptr 1 0),(4,.int .i64 i),(5,.bptr 2 0),(17,sl ai t17),(18,.int .i64 t18),(19,.int .i64 i),(24,.bool o)] [.dead,.cells (lw m1) [],.cells [.int .i64 m,.int .i64 m2,.bool m3] []] []
def eZ:Option Bool:=
 (fN m).bind fun r10=>
 if(!r10)=true then
  some true
 else
  (fN m2).bind fun r13=>
  some (!r13)
theorem pT{x:Bool}(h:eZ m m2=some x):aA Pg GE 0 (cA GR 63450) (EX .normal (gC g i t17 t18 m1 m m2 m3 x)) (qw g i t17 t18 m1 m m2 m3):=by
 obtain⟨r10,br10,h⟩:=ax h
 have p12:=fun{sc F} (r:PS sc F)=>ss<|bW (lE br10)<|r
 rcases aG h with⟨c11,h⟩|⟨c11,h⟩
 ·obtain rfl:=lf h
  exact dz Dg (p12<|sg 5 c11<|eF .normal (gC g i t17 t18 m1 m m2 m3 true))<|by kernel_rfl
 ·obtain⟨r13,br13,h⟩:=ax h
  obtain rfl:=lf h
  exact dz Dg (p12<|sg 5 c11<|ss<|bW (lE br13)<|eF .normal (gC g i t17 t18 m1 m m2 m3 (!r13)))<|by kernel_rfl
end
section
variable(g:aa)(i:Int)(t17:waB)(t18:Int)(m1:lH)(m:Int)(m2:Int)(m3:Bool)
def qx:ak:=aY 63 [(1,.eptr (ac g)),(3,.bptr 1 0),(4,.int .i64 i),(5,.bptr 2 0),(17,sl ai t17),(18,.int .i64 t18),(19,.int .i64 i)] [.dead,.cells (lw m1) [],.cells [.int .i64 m,.int .i64 m2,.bool m3] []] []
def gD(o:Bool):ak:=aY 63 [(1,.eptr (ac g)),(3,.bptr 1 0),(5,.bptr 2 0),(17,sl ai t17),(18,.int .i64 t18),(19,.int .i64 i),(43,.bool o)] [.dead,.cells (lw m1) [],.cells [.int .i64 m,.int .i64 m2,.bool m3] []] []
def e5:Option Bool:=
 if(decide (i>0))=true then
  (eQ g.Arcs (bA (i - 1))).bind fun x22=>
  (gO (⟨m,m2,m3⟩:ah) x22).bind fun r23=>
  some r23
 else
  some false
theorem pU{x:Bool}(h:e5 g i m m2 m3=some x):aA Pg GE 0 (cA GR 1015230) (EX .normal (gD g i t17 t18 m1 m m2 m3 x)) (qx g i t17 t18 m1 m m2 m3):=by
 rcases aG h with⟨c21,h⟩|⟨c21,h⟩
 ·obtain⟨x22,bx22,h⟩:=ax h
  obtain⟨r23,br23,h⟩:=ax h
  obtain rfl:=lf h
  exact dz Dg (zQ [0,1,3,7,7,23,7,71,247,503,1023,2047,4095]<|sg 3 c21<|sv (f0 (⟨m,m2,m3⟩:ah) [])<|sv (au g)<|sv (av g)<|sv (cx.ia (k:=.i64) bx22)<|sv (dJ x22)<|bW (rt br23)<|eF .normal (gD g i t17 t18 m1 m m2 m3 r23))<|by kernel_rfl
 ·obtain rfl:=lf h
  exact dz Dg (zQ [0,1,3,7,7,23,7,71,247,503,1023,2047,4095]<|sg 3 c21<|eF .normal (gD g i t17 t18 m1 m m2 m3 false))<|by kernel_rfl
end
section
variable(g:aa)(t17:waB)(t18:Int)(t19:Int)(m1:lH)
def cQ:ak:=aY 63 [(1,.eptr (ac g)),(3,.bptr 1 0),(17,sl ai t17),(18,.int .i64 t18),(19,.int .i64 t19)] [.dead,.cells (lw m1) []] []
def bu(o:(Int×lH)⊕(lH)):Exit:=match o with
 |(.inl _)=>.ret
 |(.inr _)=>.exit 0
def a7(o:(Int×lH)⊕(lH)):ak:=match o with
 |(.inl o)=>aY 63 [(2,.int .i64 o.1)] [.dead,.cells (lw o.2) []] []
 |(.inr o)=>aY 63 [] [.dead,.cells (lw o) []] []
def cR:Option ((Int×lH)⊕((Int×lH)⊕(lH))):=
 if (decide (t19 < t18)) = true then
  (eQ t17 t19).bind fun x9=>
  (eZ x9.From x9.To).bind fun o14=>
  if o14=true then
   some (.inr (.inl (2,m1)))
  else
   (qA 6 x9.From).bind fun i17=>
   (qA 6 x9.To).bind fun i18=>
   if(m1 (0+i17 * 6+i18 * 1))=true then
    some (.inr (.inl (4,m1)))
   else
    (e5 g t19 x9.From x9.To x9.Strict).bind fun o24=>
    if o24=true then
     some (.inr (.inl (9,m1)))
    else
     (qA 6 x9.From).bind fun i27=>
     (qA 6 x9.To).bind fun i28=>
     some (.inl (bA (t19+1),iB m1 (0+i27 * 6+i28 * 1) true))
 else
  some (.inr (.inr m1))
def cH:Option ((Int×lH)⊕(lH)):=loop (fun(zz:Int×lH)=>cR g t17 t18 zz.1 zz.2) (t19,m1)
theorem oY{y:(Int×lH)⊕((Int×lH)⊕(lH))}(h:cR g t17 t18 t19 m1=some y):aA Pg GE 0 (cA GR 247) (LQ (fun(zz:Int×lH)=>cQ g t17 t18 zz.1 zz.2) bu a7 y) (cQ g t17 t18 t19 m1):=by
 rcases aG h with⟨c8,h⟩|⟨c8,h⟩
 ·obtain⟨x9,bx9,h⟩:=ax h
  obtain⟨o14,bo14,h⟩:=ax h
  have p16:=fun{sc F} (r:PS sc F)=>sg 0 c8<|sv (cx.ia (k:=.i64) bx9)<|sv (dJ x9)<|sx tp<|sx (d7 x9)<|pZ 1<|da (pT g t19 t17 t18 m1 x9.From x9.To x9.Strict bo14)<|r
  rcases aG h with⟨c15,h⟩|⟨c15,h⟩
  ·obtain rfl:=lf h
   have z:=p16<|sg 0 c15<|mW 0 (bu (.inl (2,m1))) (a7 (.inl (2,m1))) rfl (bN (aI trivial trivial)) (aI trivial (aI (ew (wM m1)) trivial))
   exact im (A:=Dg) mixed (by intro hx;cases hx) z<|by kernel_rfl
  ·obtain⟨i17,bi17,h⟩:=ax h
   obtain⟨i18,bi18,h⟩:=ax h
   have p20:=fun{sc F} (r:PS sc F)=>p16<|sg 0 c15<|zQ [0,1,0,4,3,31,63,127]<|ss<|ss<|sv (IE (b:=1) (off:=0) (k:=.i64) bi17)<|sv (ID (b:=1) (off:=0+i17 * 6) (k:=.i64) bi18)<|sv (JD (x:=m1) (GY bi17 bi18))<|r
   rcases aG h with⟨c19,h⟩|⟨c19,h⟩
   ·obtain rfl:=lf h
    have z:=p20<|sg 0 c19<|mW 0 (bu (.inl (4,m1))) (a7 (.inl (4,m1))) rfl (bN (aI trivial trivial)) (aI trivial (aI (ew (wM m1)) trivial))
    exact im (A:=Dg) mixed (by intro hx;cases hx) z<|by kernel_rfl
   ·obtain⟨o24,bo24,h⟩:=ax h
    have p26:=fun{sc F} (r:PS sc F)=>p20<|sg 0 c19<|pZ 0<|da (pU g t19 t17 t18 m1 x9.From x9.To x9.Strict bo24)<|r
    rcases aG h with⟨c25,h⟩|⟨c25,h⟩
    ·obtain rfl:=lf h
     have z:=p26<|sg 0 c25<|mW 0 (bu (.inl (9,m1))) (a7 (.inl (9,m1))) rfl (bN (aI trivial trivial)) (aI trivial (aI (ew (wM m1)) trivial))
     exact im (A:=Dg) mixed (by intro hx;cases hx) z<|by kernel_rfl
    ·obtain⟨i27,bi27,h⟩:=ax h
     obtain⟨i28,bi28,h⟩:=ax h
     obtain rfl:=lf h
     have z:=p26<|sg 0 c25<|Ji (.dx [0,1,0,4,3,31,63] [] [] [1])<|ss<|ss<|sv (IE (b:=1) (off:=0) (k:=.i64) bi27)<|sv (ID (b:=1) (off:=0+i27 * 6) (k:=.i64) bi28)<|J2 (JE (x:=m1) (v:=true) (GY bi27 bi28))<|mW 0 .normal (cQ g t17 t18 (bA (t19+1)) (iB m1 (0+i27 * 6+i28 * 1) true)) rfl (bN (aI (ew (ae g)) (aI (dj rfl) (aI (up (aq ay t17)) (aI trivial (aI trivial trivial)))))) (aI trivial (aI (ew (wM (iB m1 (0+i27 * 6+i28 * 1) true))) trivial))
     exact cJ (A:=Dg) mixed z<|by kernel_rfl
 ·obtain rfl:=lf h
  have z:=sg 0 c8<|eF (bu (.inr m1)) (a7 (.inr m1))
  exact jI Dg (by intro hx;cases hx) z<|by kernel_rfl
theorem ke{x:(Int×lH)⊕(lH)}(h:cH g t17 t18 t19 m1=some x):aA Pg GE 0 (.loop (cA GR 247)) (EX (bu x) (a7 x)) (cQ g t17 t18 t19 m1):=
 aA.loop (S:=fun(zz:Int×lH)=>cQ g t17 t18 zz.1 zz.2) (ex:=bu) (s:=(t19,m1)) h fun zz y hy=>oY g t17 t18 zz.1 zz.2 hy
end
def cq(g:aa):Option Int:=
 (eY g).bind fun o5=>
 if o5=true then
  some 3
 else
  (cH g g.Arcs (g.Arcs.length:Int) 0 (sT false)).bind fun o29=>match o29 with
  |(.inl o29)=>
   some o29.1
  |(.inr o29)=>
   some 0
theorem dH{g:aa}{r:Int}(h:cq g=some r):CC Pg GE 10 [.agg (ac g)] (.int .i64 r) []:=by
 obtain⟨o5,bo5,h⟩:=ax h
 have p7:=fun{sc F} (r:PS sc F)=>se (ba g)<|pZ 1<|da (pS g bo5)<|r
 rcases aG h with⟨c6,h⟩|⟨c6,h⟩
 ·obtain rfl:=lf h
  have z:=p7<|sg 0 c6<|en (aI (rP (.int .i64 3))<|trivial)
  exact bm Dg call10 func10 (c:=GR) rfl (aI (ae g) trivial) z<|by kernel_rfl
 ·obtain⟨o29,bo29,h⟩:=ax h
  rcases o29 with o29|o29
  ·obtain rfl:=lf h
   have z:=p7<|sg 0 c6<|sx Jc<|sv (au g)<|sv (av g)<|dB (cx.ln g.Arcs)<|da (e:=.ret) (s1:=a7 (.inl o29)) (ke g g.Arcs (g.Arcs.length:Int) 0 (sT false) bo29)<|en (aI (rP (.int .i64 o29.1))<|trivial)
   exact bm Dg call10 func10 (c:=GR) rfl (aI (ae g) trivial) z<|by kernel_rfl
  ·obtain rfl:=lf h
   have z:=p7<|sg 0 c6<|sx Jc<|sv (au g)<|sv (av g)<|dB (cx.ln g.Arcs)<|da (e:=.exit 0) (s1:=a7 (.inr o29)) (ke g g.Arcs (g.Arcs.length:Int) 0 (sT false) bo29)<|en (aI (rP (.int .i64 0))<|trivial)
   exact bm Dg call10 func10 (c:=GR) rfl (aI (ae g) trivial) z<|by kernel_rfl
noncomputable def IH:Code:=f14.body.getD .skip
def G5:List Nat:=[19,41]
section
variable(s:ag)(i:Int)(t15:waB)(t16:Int)(m:Int)(m2:Int)(m3:Bool)
def rq:ak:=aY 42 [(3,.str s),(4,.int .i64 i),(5,.bptr 1 0),(15,sl ai t15),(16,.int .i64 t16),(17,.int .i64 i)] [.dead,.cells [.int .i64 m,.int .i64 m2,.bool m3] []] []
def io(o:ag):ak:=aY 42 [(3,.str o),(5,.bptr 1 0),(15,sl ai t15),(16,.int .i64 t16),(17,.int .i64 i)] [.dead,.cells [.int .i64 m,.int .i64 m2,.bool m3] []] []
def fT:Option ag:=
 if(decide (i>0))=true then
  (E5 s ([44]:ag)).bind fun s7=>
  some s7
 else
  some s
theorem qr{x:ag}(h:fT s i=some x):aA Pg GE 0 (cA IH 7670) (EX .normal (io i t15 t16 m m2 m3 x)) (rq s i t15 t16 m m2 m3):=by
 rcases aG h with⟨c6,h⟩|⟨c6,h⟩
 ·obtain⟨s7,bs7,h⟩:=ax h
  obtain rfl:=lf h
  exact dz G5 (sg 0 c6<|sv (rx (P:=Pg) (t:=9) bs7)<|eF .normal (io i t15 t16 m m2 m3 s7))<|by kernel_rfl
 ·obtain rfl:=lf h
  exact dz G5 (sg 0 c6<|eF .normal (io i t15 t16 m m2 m3 s))<|by kernel_rfl
end
section
variable(s:ag)(t15:waB)(t16:Int)(t17:Int)(m:Int)(m2:Int)(m3:Bool)
def rr:ak:=aY 42 [(3,.str s),(5,.bptr 1 0),(6,.str ([32,62,61,32]:ag)),(15,sl ai t15),(16,.int .i64 t16),(17,.int .i64 t17)] [.dead,.cells [.int .i64 m,.int .i64 m2,.bool m3] []] []
def ip(o:ag):ak:=aY 42 [(3,.str s),(5,.bptr 1 0),(6,.str o),(15,sl ai t15),(16,.int .i64 t16),(17,.int .i64 t17)] [.dead,.cells [.int .i64 m,.int .i64 m2,.bool m3] []] []
def fU:Option ag:=
 if m3=true then
  some ([32,62,32]:ag)
 else
  some ([32,62,61,32]:ag)
theorem qt{x:ag}(h:fU m3=some x):aA Pg GE 0 (cA IH 30686) (EX .normal (ip s t15 t16 t17 m m2 m3 x)) (rr s t15 t16 t17 m m2 m3):=by
 rcases aG h with⟨c9,h⟩|⟨c9,h⟩
 ·obtain rfl:=lf h
  exact dz G5 (ss<|sg 0 c9<|eF .normal (ip s t15 t16 t17 m m2 m3 ([32,62,32]:ag)))<|by kernel_rfl
 ·obtain rfl:=lf h
  exact dz G5 (ss<|sg 0 c9<|eF .normal (ip s t15 t16 t17 m m2 m3 ([32,62,61,32]:ag)))<|by kernel_rfl
end
section
variable(t15:waB)(t16:Int)(s:ag)(t17:Int)
def dm:ak:=aY 42 [(3,.str s),(15,sl ai t15),(16,.int .i64 t16),(17,.int .i64 t17)] [.dead] []
def iq(o:ag):ak:=aY 42 [(3,.str o)] [.dead] []
def dn:Option ((ag×Int)⊕(ag)):=
 if(decide (t17<t16))=true then
  (eQ t15 t17).bind fun x5=>
  (fT s t17).bind fun o8=>
  (fU x5.Strict).bind fun o10=>
  (DC x5.From).bind fun r11=>
  (E5 ([32]:ag) r11).bind fun s12=>
  (E5 s12 o10).bind fun s13=>
  (DC x5.To).bind fun r14=>
  (E5 s13 r14).bind fun s15=>
  (E5 o8 s15).bind fun s16=>
  some (.inl (s16,bA (t17+1)))
 else
  some (.inr s)
def cZ:Option ag:=loop (fun(zz:ag×Int)=>dn t15 t16 zz.1 zz.2) (s,t17)
theorem pR{y:(ag×Int)⊕(ag)}(h:dn t15 t16 s t17=some y):aA Pg GE 0 (cA IH 119) (LQ (fun(zz:ag×Int)=>dm t15 t16 zz.1 zz.2) (fun _=>.exit 0) iq y) (dm t15 t16 s t17):=by
 rcases aG h with⟨c4,h⟩|⟨c4,h⟩
 ·obtain⟨x5,bx5,h⟩:=ax h
  obtain⟨o8,bo8,h⟩:=ax h
  obtain⟨o10,bo10,h⟩:=ax h
  obtain⟨r11,br11,h⟩:=ax h
  obtain⟨s12,bs12,h⟩:=ax h
  obtain⟨s13,bs13,h⟩:=ax h
  obtain⟨r14,br14,h⟩:=ax h
  obtain⟨s15,bs15,h⟩:=ax h
  obtain⟨s16,bs16,h⟩:=ax h
  obtain rfl:=lf h
  have z:=sg 0 c4<|sv (cx.ia (k:=.i64) bx5)<|sv (dJ x5)<|sx tp<|sx (d7 x5)<|pZ 0<|da (qr s t17 t15 t16 x5.From x5.To x5.Strict bo8)<|pZ 1<|da (qt o8 t15 t16 t17 x5.From x5.To x5.Strict bo10)<|zQ [0,0,2,6,14,0,62,0,128,398,1022,2047,4095]<|ss<|bW (DD br11)<|sv (rx (P:=Pg) (t:=9) bs12)<|sv (rx (P:=Pg) (t:=9) bs13)<|ss<|bW (DD br14)<|sv (rx (P:=Pg) (t:=9) bs15)<|sv (rx (P:=Pg) (t:=9) bs16)<|mW 0 .normal (dm t15 t16 s16 (bA (t17+1))) rfl (bN (aI trivial (aI (up (aq ay t15)) (aI trivial (aI trivial trivial))))) (aI trivial trivial)
  exact cJ (A:=G5) mixed z<|by kernel_rfl
 ·obtain rfl:=lf h
  have z:=sg 0 c4<|eF (.exit 0) (iq s)
  exact jI G5 (by intro hx;cases hx) z<|by kernel_rfl
theorem qu{x:ag}(h:cZ t15 t16 s t17=some x):aA Pg GE 0 (.loop (cA IH 119)) (EX (.exit 0) (iq x)) (dm t15 t16 s t17):=
 aA.loop (S:=fun(zz:ag×Int)=>dm t15 t16 zz.1 zz.2) (ex:=(fun _=>.exit 0)) (s:=(s,t17)) h fun zz y hy=>pR t15 t16 zz.1 zz.2 hy
end
def gn(g:aa):Option ag:=
 (E5 g.Caller ([32,45,62,32]:ag)).bind fun s1=>
 (E5 s1 g.Callee).bind fun s2=>
 (E5 s2 ([58]:ag)).bind fun s3=>
 (cZ g.Arcs (g.Arcs.length:Int) s3 0).bind fun o17=>
 some o17
theorem mQ{g:aa}{r:ag}(h:gn g=some r):CC Pg GE 14 [.agg (ac g)] (.str r) []:=by
 obtain⟨s1,bs1,h⟩:=ax h
 obtain⟨s2,bs2,h⟩:=ax h
 obtain⟨s3,bs3,h⟩:=ax h
 obtain⟨o17,bo17,h⟩:=ax h
 obtain rfl:=lf h
 have z:=se (ba g)<|sv (aD g)<|sv (aM g)<|sv (rx (P:=Pg) (t:=9) bs1)<|sv (aE g)<|sv (aN g)<|sv (rx (P:=Pg) (t:=9) bs2)<|sv (rx (P:=Pg) (t:=9) bs3)<|sv (au g)<|sv (av g)<|dB (cx.ln g.Arcs)<|da (qu g.Arcs (g.Arcs.length:Int) s3 0 bo17)<|en (aI (rP (.str o17))<|trivial)
 exact bm G5 call14 func14 (c:=IH) rfl (aI (ae g) trivial) z<|by kernel_rfl
noncomputable def Kh:Code:=f36.body.getD .skip
def J4:List Nat:=[17]
def bK(g:aa)(k1:(List (ag×Bool)))(k2:waA):Option ((List (ag×Bool))×waA):=
 (gn g).bind fun r1=>
 if(!((q8 k1 r1).getD false))=true then
  (sW g.Arcs).bind fun r4=>
  (app k2 ([(⟨g.Caller,g.Callee,r4⟩:aa)]:List aa)).bind fun l5=>
  some (uW k1 r1 true,l5)
 else
  some (k1,k2)
theorem fB{g:aa}{k1:(List (ag×Bool))}{k2:waA}{r:(List (ag×Bool))×waA}(h:bK g k1 k2=some r):C Pg GE 36 [.agg (ac g),.bptr 0 0,.bptr 2 0] [] [.cells [.mapr 1] [],.map (dw PVal.bool k1),.cells [sl ac k2] [(0,24)]] (.tuple []) [] [.cells [.mapr 1] [],.map (dw PVal.bool r.1),.cells [sl ac r.2] [(0,24)]]:=by
 obtain⟨r1,br1,h⟩:=ax h
 have p3:=fun{sc F} (r:PS sc F)=>sx (dA g)<|sv (aV g [])<|bW (mQ br1)<|ss<|sv (HF (f:=PVal.bool) underlying56 underlying9 KO k1 r1)<|r
 rcases aG h with⟨c2,h⟩|⟨c2,h⟩
 ·obtain⟨r4,br4,h⟩:=ax h
  obtain⟨l5,bl5,h⟩:=ax h
  obtain rfl:=lf h
  have z:=p3<|sg 0 c2<|ss<|KM (HG (f:=PVal.bool) underlying56 underlying9 k1 r1 true)<|ss<|bW (CE br4)<|sv (aV (⟨g.Caller,g.Callee,r4⟩:aa) [])<|sv (bQ.mk' (v:=mT) kD ([(⟨g.Caller,g.Callee,r4⟩:aa)]:List aa) 1 (by kernel_rfl))<|sv (bQ.ap bl5)<|en (aI (rP (.tuple []))<|aI trivial<|aI (rL [.cells [.mapr 1] [],.map (dw PVal.bool (uW k1 r1 true)),.cells [sl ac l5] [(0,24)]])<|(aI (aI (dj (i:=1) (n:=3) rfl) trivial) (aI (Gk (n:=3) PVal.bool (fun x=>trivial) (uW k1 r1 true)) (aI (aI (up (n:=3) (aq ae l5)) trivial) trivial))))
  exact C.evGp (A:=J4) mixed (m:=3) (c:=Kh) rfl call36 func36 rfl z<|by kernel_rfl
 ·obtain rfl:=lf h
  have z:=p3<|sg 0 c2<|en (aI (rP (.tuple []))<|aI trivial<|aI (rL [.cells [.mapr 1] [],.map (dw PVal.bool k1),.cells [sl ac k2] [(0,24)]])<|(aI (aI (dj (i:=1) (n:=3) rfl) trivial) (aI (Gk (n:=3) PVal.bool (fun x=>trivial) k1) (aI (aI (up (n:=3) (aq ae k2)) trivial) trivial))))
  exact C.evGp (A:=J4) mixed (m:=3) (c:=Kh) rfl call36 func36 rfl z<|by kernel_rfl
noncomputable def JK:Code:=f55.body.getD .skip
def Jm:List Nat:=[]
section
variable(t7:waB)(t8:Int)(t9:Int)(m2:jK)
def bS:ak:=aY 29 [(2,.bptr 1 0),(3,.bptr 2 0),(7,sl ai t7),(8,.int .i64 t8),(9,.int .i64 t9)] [.dead,.cells (bP (sT 0)) [],.cells (bP m2) []] []
def gG(o:jK):ak:=aY 29 [(2,.bptr 1 0),(3,.bptr 2 0)] [.dead,.cells (bP (sT 0)) [],.cells (bP o) []] []
def gF:Option ((Int×jK)⊕(jK)):=
 if(decide (t9<t8))=true then
  (eQ t7 t9).bind fun x2=>
  (qA 6 x2.From).bind fun i3=>
  (qA 6 x2.To).bind fun i4=>
  if x2.Strict=true then
   (qA 6 x2.From).bind fun i7=>
   (qA 6 x2.To).bind fun i8=>
   some (.inl (bA (t9+1),iB (iB m2 (0+i3 * 6+i4 * 1) 1) (0+i7 * 6+i8 * 1) 2))
  else
   some (.inl (bA (t9+1),iB m2 (0+i3 * 6+i4 * 1) 1))
 else
  some (.inr m2)
def iK:Option jK:=loop (fun(zz:Int×jK)=>gF t7 t8 zz.1 zz.2) (t9,m2)
theorem o0{y:(Int×jK)⊕(jK)}(h:gF t7 t8 t9 m2=some y):aA Pg GE 0 (cA JK 119) (LQ (fun(zz:Int×jK)=>bS t7 t8 zz.1 zz.2) (fun _=>.exit 0) gG y) (bS t7 t8 t9 m2):=by
 rcases aG h with⟨c1,h⟩|⟨c1,h⟩
 ·obtain⟨x2,bx2,h⟩:=ax h
  obtain⟨i3,bi3,h⟩:=ax h
  obtain⟨i4,bi4,h⟩:=ax h
  have p6:=fun{sc F} (r:PS sc F)=>sg 0 c1<|sv (cx.ia (k:=.i64) bx2)<|sv (dJ x2)<|sx tp<|sx (d7 x2)<|Ji (.dx [0,1,0,4,3,31,63] [] [] [2])<|ss<|ss<|sv (DY (b:=2) (off:=0) (k:=.i64) bi3)<|sv (DX (b:=2) (off:=0+i3 * 6) (k:=.i64) bi4)<|J2 (IG (x:=m2) (v:=1) (GY bi3 bi4))<|ss<|r
  rcases aG h with⟨c5,h⟩|⟨c5,h⟩
  ·obtain⟨i7,bi7,h⟩:=ax h
   obtain⟨i8,bi8,h⟩:=ax h
   obtain rfl:=lf h
   have z:=p6<|sg 0 c5<|Ji (.dx [0,1,0,4,3,31,63] [] [] [2])<|ss<|ss<|sv (DY (b:=2) (off:=0) (k:=.i64) bi7)<|sv (DX (b:=2) (off:=0+i7 * 6) (k:=.i64) bi8)<|J2 (IG (x:=iB m2 (0+i3 * 6+i4 * 1) 1) (v:=2) (GY bi7 bi8))<|mW 0 .normal (bS t7 t8 (bA (t9+1)) (iB (iB m2 (0+i3 * 6+i4 * 1) 1) (0+i7 * 6+i8 * 1) 2)) rfl (bN (aI (dj rfl) (aI (dj rfl) (aI (up (aq ay t7)) (aI trivial (aI trivial trivial)))))) (aI trivial (aI (ew (tS (sT 0))) (aI (ew (tS (iB (iB m2 (0+i3 * 6+i4 * 1) 1) (0+i7 * 6+i8 * 1) 2))) trivial)))
   exact cJ (A:=Jm) mixed z<|by kernel_rfl
  ·obtain rfl:=lf h
   have z:=p6<|sg 0 c5<|mW 0 .normal (bS t7 t8 (bA (t9+1)) (iB m2 (0+i3 * 6+i4 * 1) 1)) rfl (bN (aI (dj rfl) (aI (dj rfl) (aI (up (aq ay t7)) (aI trivial (aI trivial trivial)))))) (aI trivial (aI (ew (tS (sT 0))) (aI (ew (tS (iB m2 (0+i3 * 6+i4 * 1) 1))) trivial)))
   exact cJ (A:=Jm) mixed z<|by kernel_rfl
 ·obtain rfl:=lf h
  have z:=sg 0 c1<|eF (.exit 0) (gG m2)
  exact jI Jm (by intro hx;cases hx) z<|by kernel_rfl
theorem pV{x:jK}(h:iK t7 t8 t9 m2=some x):aA Pg GE 0 (.loop (cA JK 119)) (EX (.exit 0) (gG x)) (bS t7 t8 t9 m2):=
 aA.loop (S:=fun(zz:Int×jK)=>bS t7 t8 zz.1 zz.2) (ex:=(fun _=>.exit 0)) (s:=(t9,m2)) h fun zz y hy=>o0 t7 t8 zz.1 zz.2 hy
end
def fO(g:aa):Option jK:=
 (iK g.Arcs (g.Arcs.length:Int) 0 (sT 0)).bind fun o9=>
 some o9
theorem lF{g:aa}{r:jK}(h:fO g=some r):CC Pg GE 55 [.agg (ac g)] (.agg (bP r)) []:=by
 obtain⟨o9,bo9,h⟩:=ax h
 obtain rfl:=lf h
 have z:=se (ba g)<|sx Jd<|sx Jd<|sv (au g)<|sv (av g)<|dB (cx.ln g.Arcs)<|da (pV g.Arcs (g.Arcs.length:Int) 0 (sT 0) bo9)<|sv (Gv o9)<|sx (yl o9)<|en (aI (rP (.agg (bP o9)))<|(tS o9))
 exact bm Jm call55 func55 (c:=JK) rfl (aI (ae g) trivial) z<|by kernel_rfl
noncomputable def GU:Code:=f34.body.getD .skip
def EI:List Nat:=[23,26,29,60]
section
variable(v:Int)(to:Int)(best:Int)(m:Int)(m2:waB)(m3:jK)(m4:jK)(m5:ag)(m6:ag)(m7:waB)
def oZ:ak:=aY 72 [(4,.bptr 2 0),(5,.bptr 3 0),(6,.bptr 4 0),(7,.bptr 5 0),(8,.int .i64 v),(9,.int .i64 to),(10,.int .i64 best),(11,.int .i64 m),(21,.int .i64 v),(24,.int .i64 to),(27,.int .i64 m)] [.dead,.dead,.cells [.str ([]:ag),.str ([]:ag),sl ai m2] [(2,43)],.cells (bP m3) [],.cells (bP m4) [],.cells [.str m5,.str m6,sl ai m7] [(2,43)]] []
def fJ(o:Bool):ak:=aY 72 [(4,.bptr 2 0),(5,.bptr 3 0),(6,.bptr 4 0),(7,.bptr 5 0),(8,.int .i64 v),(9,.int .i64 to),(10,.int .i64 best),(11,.int .i64 m),(21,.int .i64 v),(24,.int .i64 to),(27,.int .i64 m),(43,.bool o)] [.dead,.dead,.cells [.str ([]:ag),.str ([]:ag),sl ai m2] [(2,43)],.cells (bP m3) [],.cells (bP m4) [],.cells [.str m5,.str m6,sl ai m7] [(2,43)]] []
def ek:Option Bool:=
 (qA 6 v).bind fun i6=>
 (qA 6 m).bind fun i7=>
 if(decide ((m3 (0+i6 * 6+i7 * 1))>0))=true then
  (qA 6 m).bind fun i10=>
  (qA 6 to).bind fun i11=>
  some (decide ((m4 (0+i10 * 6+i11 * 1))>0))
 else
  some false
theorem om{x:Bool}(h:ek v to m m3 m4=some x):aA Pg GE 0 (cA GU 4158643702) (EX .normal (fJ v to best m m2 m3 m4 m5 m6 m7 x)) (oZ v to best m m2 m3 m4 m5 m6 m7):=by
 obtain⟨i6,bi6,h⟩:=ax h
 obtain⟨i7,bi7,h⟩:=ax h
 have p9:=fun{sc F} (r:PS sc F)=>sv (DY (b:=3) (off:=0) (k:=.i64) bi6)<|sv (DX (b:=3) (off:=0+i6 * 6) (k:=.i64) bi7)<|sv (Gh (x:=m3) (GY bi6 bi7))<|r
 rcases aG h with⟨c8,h⟩|⟨c8,h⟩
 ·obtain⟨i10,bi10,h⟩:=ax h
  obtain⟨i11,bi11,h⟩:=ax h
  obtain rfl:=lf h
  exact dz EI (p9<|sg 7 c8<|sv (DY (b:=4) (off:=0) (k:=.i64) bi10)<|sv (DX (b:=4) (off:=0+i10 * 6) (k:=.i64) bi11)<|sv (Gh (x:=m4) (GY bi10 bi11))<|eF .normal (fJ v to best m m2 m3 m4 m5 m6 m7 (decide ((m4 (0+i10 * 6+i11 * 1))>0))))<|by kernel_rfl
 ·obtain rfl:=lf h
  exact dz EI (p9<|sg 7 c8<|eF .normal (fJ v to best m m2 m3 m4 m5 m6 m7 false))<|by kernel_rfl
end
section
variable(v:Int)(to:Int)(m:waB)(m3:jK)(m4:jK)(m2:ag)(m5:ag)(m6:waB)(best:Int)(t27:Int)
def bG:ak:=aY 72 [(4,.bptr 2 0),(5,.bptr 3 0),(6,.bptr 4 0),(7,.bptr 5 0),(8,.int .i64 v),(9,.int .i64 to),(10,.int .i64 best),(21,.int .i64 v),(24,.int .i64 to),(27,.int .i64 t27)] [.dead,.dead,.cells [.str ([]:ag),.str ([]:ag),sl ai m] [(2,43)],.cells (bP m3) [],.cells (bP m4) [],.cells [.str m2,.str m5,sl ai m6] [(2,43)]] []
def fM(o:Int):ak:=aY 72 [(4,.bptr 2 0),(5,.bptr 3 0),(6,.bptr 4 0),(7,.bptr 5 0),(8,.int .i64 v),(9,.int .i64 to),(10,.int .i64 o),(21,.int .i64 v),(24,.int .i64 to)] [.dead,.dead,.cells [.str ([]:ag),.str ([]:ag),sl ai m] [(2,43)],.cells (bP m3) [],.cells (bP m4) [],.cells [.str m2,.str m5,sl ai m6] [(2,43)]] []
def du:Option ((Int×Int)⊕(Int)):=
 if(decide (t27<6))=true then
  (ek v to t27 m3 m4).bind fun o12=>
  if o12=true then
   (qA 6 v).bind fun i15=>
   (qA 6 t27).bind fun i16=>
   (qA 6 t27).bind fun i17=>
   (qA 6 to).bind fun i18=>
   some (.inl ((if(m4 (0+i17 * 6+i18 * 1))>(if(m3 (0+i15 * 6+i16 * 1))>best then m3 (0+i15 * 6+i16 * 1)else best)then m4 (0+i17 * 6+i18 * 1)else(if(m3 (0+i15 * 6+i16 * 1))>best then m3 (0+i15 * 6+i16 * 1)else best)),bA (t27+1)))
  else
   some (.inl (best,bA (t27+1)))
 else
  some (.inr best)
def eo:Option Int:=loop (fun(zz:Int×Int)=>du v to m3 m4 zz.1 zz.2) (best,t27)
theorem nk{y:(Int×Int)⊕(Int)}(h:du v to m3 m4 best t27=some y):aA Pg GE 0 (cA GU 64978807) (LQ (fun(zz:Int×Int)=>bG v to m m3 m4 m2 m5 m6 zz.1 zz.2) (fun _=>.exit 4) (fM v to m m3 m4 m2 m5 m6) y) (bG v to m m3 m4 m2 m5 m6 best t27):=by
 rcases aG h with⟨c5,h⟩|⟨c5,h⟩
 ·obtain⟨o12,bo12,h⟩:=ax h
  have p14:=fun{sc F} (r:PS sc F)=>sg 0 c5<|pZ 2<|da (om v to best t27 m m3 m4 m2 m5 m6 bo12)<|r
  rcases aG h with⟨c13,h⟩|⟨c13,h⟩
  ·obtain⟨i15,bi15,h⟩:=ax h
   obtain⟨i16,bi16,h⟩:=ax h
   obtain⟨i17,bi17,h⟩:=ax h
   obtain⟨i18,bi18,h⟩:=ax h
   obtain rfl:=lf h
   exact tg EI (p14<|sg 0 c13<|zQ [0,0,0,2,14,30,0,0,64,448,960,2047,4095]<|sv (DY (b:=3) (off:=0) (k:=.i64) bi15)<|sv (DX (b:=3) (off:=0+i15 * 6) (k:=.i64) bi16)<|sv (Gh (x:=m3) (GY bi15 bi16))<|sv (DY (b:=4) (off:=0) (k:=.i64) bi17)<|sv (DX (b:=4) (off:=0+i17 * 6) (k:=.i64) bi18)<|sv (Gh (x:=m4) (GY bi17 bi18))<|eF .normal (bG v to m m3 m4 m2 m5 m6 (if(m4 (0+i17 * 6+i18 * 1))>(if(m3 (0+i15 * 6+i16 * 1))>best then m3 (0+i15 * 6+i16 * 1)else best)then m4 (0+i17 * 6+i18 * 1)else(if(m3 (0+i15 * 6+i16 * 1))>best then m3 (0+i15 * 6+i16 * 1)else best)) (bA (t27+1))))<|by kernel_rfl
  ·obtain rfl:=lf h
   exact tg EI (p14<|sg 0 c13<|eF .normal (bG v to m m3 m4 m2 m5 m6 best (bA (t27+1))))<|by kernel_rfl
 ·obtain rfl:=lf h
  have z:=sg 0 c5<|eF (.exit 4) (fM v to m m3 m4 m2 m5 m6 best)
  exact jI EI (by intro hx;cases hx) z<|by kernel_rfl
theorem ou{x:Int}(h:eo v to m3 m4 best t27=some x):aA Pg GE 0 (.loop (cA GU 64978807)) (EX (.exit 4) (fM v to m m3 m4 m2 m5 m6 x)) (bG v to m m3 m4 m2 m5 m6 best t27):=
 aA.loop (S:=fun(zz:Int×Int)=>bG v to m m3 m4 m2 m5 m6 zz.1 zz.2) (ex:=(fun _=>.exit 4)) (s:=(best,t27)) h fun zz y hy=>nk v to m m3 m4 m2 m5 m6 zz.1 zz.2 hy
end
section
variable(v:Int)(m:waB)(m3:jK)(m4:jK)(m2:ag)(m5:ag)(t24:Int)(m6:waB)
def bF:ak:=aY 72 [(4,.bptr 2 0),(5,.bptr 3 0),(6,.bptr 4 0),(7,.bptr 5 0),(8,.int .i64 v),(21,.int .i64 v),(24,.int .i64 t24)] [.dead,.dead,.cells [.str ([]:ag),.str ([]:ag),sl ai m] [(2,43)],.cells (bP m3) [],.cells (bP m4) [],.cells [.str m2,.str m5,sl ai m6] [(2,43)]] []
def fL(o:waB):ak:=aY 72 [(4,.bptr 2 0),(5,.bptr 3 0),(6,.bptr 4 0),(7,.bptr 5 0),(21,.int .i64 v)] [.dead,.dead,.cells [.str ([]:ag),.str ([]:ag),sl ai m] [(2,43)],.cells (bP m3) [],.cells (bP m4) [],.cells [.str m2,.str m5,sl ai o] [(2,43)]] []
def cu:Option ((Int×waB)⊕(waB)):=
 if(decide (t24<6))=true then
  (eo v t24 m3 m4 0 0).bind fun o19=>
  if(decide (o19>0))=true then
   (app m6 ([(⟨v,t24,o19==2⟩:ah)]:List ah)).bind fun l22=>
   some (.inl (bA (t24+1),l22))
  else
   some (.inl (bA (t24+1),m6))
 else
  some (.inr m6)
def kn:Option waB:=loop (fun(zz:Int×waB)=>cu v m3 m4 zz.1 zz.2) (t24,m6)
theorem nj{y:(Int×waB)⊕(waB)}(h:cu v m3 m4 t24 m6=some y):aA Pg GE 0 (cA GU 63455) (LQ (fun(zz:Int×waB)=>bF v m m3 m4 m2 m5 zz.1 zz.2) (fun _=>.exit 2) (fL v m m3 m4 m2 m5) y) (bF v m m3 m4 m2 m5 t24 m6):=by
 rcases aG h with⟨c4,h⟩|⟨c4,h⟩
 ·obtain⟨o19,bo19,h⟩:=ax h
  have p21:=fun{sc F} (r:PS sc F)=>sg 0 c4<|da (ou v t24 m m3 m4 m2 m5 m6 0 0 bo19)<|r
  rcases aG h with⟨c20,h⟩|⟨c20,h⟩
  ·obtain⟨l22,bl22,h⟩:=ax h
   obtain rfl:=lf h
   exact tg EI (p21<|sg 0 c20<|sv (sr v t24 (o19==2))<|sv (cx.mk' (v:=A1) ym ([(⟨v,t24,o19==2⟩:ah)]:List ah) 1 (by kernel_rfl))<|sv (cx.ap bl22)<|eF .normal (bF v m m3 m4 m2 m5 (bA (t24+1)) l22))<|by kernel_rfl
  ·obtain rfl:=lf h
   exact tg EI (p21<|sg 0 c20<|eF .normal (bF v m m3 m4 m2 m5 (bA (t24+1)) m6))<|by kernel_rfl
 ·obtain rfl:=lf h
  have z:=sg 0 c4<|eF (.exit 2) (fL v m m3 m4 m2 m5 m6)
  exact jI EI (by intro hx;cases hx) z<|by kernel_rfl
theorem oq{x:waB}(h:kn v m3 m4 t24 m6=some x):aA Pg GE 0 (.loop (cA GU 63455)) (EX (.exit 2) (fL v m m3 m4 m2 m5 x)) (bF v m m3 m4 m2 m5 t24 m6):=
 aA.loop (S:=fun(zz:Int×waB)=>bF v m m3 m4 m2 m5 zz.1 zz.2) (ex:=(fun _=>.exit 2)) (s:=(t24,m6)) h fun zz y hy=>nj v m m3 m4 m2 m5 zz.1 zz.2 hy
end
section
variable(m:waB)(m3:jK)(m4:jK)(m2:ag)(m5:ag)(t21:Int)(m6:waB)
def cr:ak:=aY 72 [(4,.bptr 2 0),(5,.bptr 3 0),(6,.bptr 4 0),(7,.bptr 5 0),(21,.int .i64 t21)] [.dead,.dead,.cells [.str ([]:ag),.str ([]:ag),sl ai m] [(2,43)],.cells (bP m3) [],.cells (bP m4) [],.cells [.str m2,.str m5,sl ai m6] [(2,43)]] []
def fK(o:waB):ak:=aY 72 [(4,.bptr 2 0),(7,.bptr 5 0)] [.dead,.dead,.cells [.str ([]:ag),.str ([]:ag),sl ai m] [(2,43)],.cells (bP m3) [],.cells (bP m4) [],.cells [.str m2,.str m5,sl ai o] [(2,43)]] []
def ct:Option ((Int×waB)⊕(waB)):=
 if(decide (t21<6))=true then
  (kn t21 m3 m4 0 m6).bind fun o23=>
  some (.inl (bA (t21+1),o23))
 else
  some (.inr m6)
def gE:Option waB:=loop (fun(zz:Int×waB)=>ct m3 m4 zz.1 zz.2) (t21,m6)
theorem ni{y:(Int×waB)⊕(waB)}(h:ct m3 m4 t21 m6=some y):aA Pg GE 0 (cA GU 247) (LQ (fun(zz:Int×waB)=>cr m m3 m4 m2 m5 zz.1 zz.2) (fun _=>.exit 0) (fK m m3 m4 m2 m5) y) (cr m m3 m4 m2 m5 t21 m6):=by
 rcases aG h with⟨c3,h⟩|⟨c3,h⟩
 ·obtain⟨o23,bo23,h⟩:=ax h
  obtain rfl:=lf h
  exact tg EI (sg 0 c3<|da (oq t21 m m3 m4 m2 m5 0 m6 bo23)<|eF .normal (cr m m3 m4 m2 m5 (bA (t21+1)) o23))<|by kernel_rfl
 ·obtain rfl:=lf h
  have z:=sg 0 c3<|eF (.exit 0) (fK m m3 m4 m2 m5 m6)
  exact jI EI (by intro hx;cases hx) z<|by kernel_rfl
theorem oo{x:waB}(h:gE m3 m4 t21 m6=some x):aA Pg GE 0 (.loop (cA GU 247)) (EX (.exit 0) (fK m m3 m4 m2 m5 x)) (cr m m3 m4 m2 m5 t21 m6):=
 aA.loop (S:=fun(zz:Int×waB)=>cr m m3 m4 m2 m5 zz.1 zz.2) (ex:=(fun _=>.exit 0)) (s:=(t21,m6)) h fun zz y hy=>ni m m3 m4 m2 m5 zz.1 zz.2 hy
end
def bM(a:aa)(a2:aa):Option aa:=
 (fO a).bind fun r1=>
 (fO a2).bind fun r2=>
 (gE r1 r2 0 ([]:List ah)).bind fun o24=>
 some (⟨a.Caller,a2.Callee,o24⟩:aa)
theorem ep{a:aa}{a2:aa}{r:aa}(h:bM a a2=some r):CC Pg GE 34 [.agg (ac a),.agg (ac a2)] (.agg (ac r)) [(2,43)]:=by
 obtain⟨r1,br1,h⟩:=ax h
 obtain⟨r2,br2,h⟩:=ax h
 obtain⟨o24,bo24,h⟩:=ax h
 obtain rfl:=lf h
 have z:=se (ba a)<|se (ba a2)<|sx qo<|zQ [0,1,0,7,0,0,63,127]<|sv (aT a)<|bW (lF br1)<|sv (aT a2)<|bW (lF br2)<|sx (yl r1)<|sx (yl r2)<|sv (aD a)<|sv (aM a)<|sv (aE a2)<|sv (aN a2)<|sb (nU a.Caller a2.Callee) (nT a.Caller a2.Callee)<|sx qo<|sy (bC (⟨a.Caller,a2.Callee,([]:List ah)⟩:aa))<|da (oo ([]:List ah) r1 r2 a.Caller a2.Callee 0 ([]:List ah) bo24)<|sz (aV (⟨a.Caller,a2.Callee,o24⟩:aa) [])<|sy (bC (⟨a.Caller,a2.Callee,o24⟩:aa))<|en (aI (eR (⟨a.Caller,a2.Callee,o24⟩:aa))<|aI (ae (⟨a.Caller,a2.Callee,o24⟩:aa))<|rT)
 exact bm EI call34 func34 (c:=GU) rfl (aI (ae a) (aI (ae a2) trivial)) z<|by kernel_rfl
noncomputable def KG:Code:=f85.body.getD .skip
def KA:List Nat:=[]
def rI(a:ag):Option Bool:=
 some (!(a==a))
theorem tU{a:ag}{r:Bool}(h:rI a=some r):CC Pg GE 85 [.str a] (.bool r) []:=by
 obtain rfl:=lf h
 have z:=en (aI (rP (.bool (!(a==a))))<|trivial)
 exact bm KA call85 func85 (c:=KG) rfl (aI trivial trivial) z<|by kernel_rfl
noncomputable def Ig:Code:=f59.body.getD .skip
def H8:List Nat:=[]
def kY(a:ag)(a2:ag):Option Int:=
 (rI a).bind fun r1=>
 (rI a2).bind fun r2=>
 if r1=true then
  if r2=true then
   some 0
  else
   some (-1)
 else
  if r2=true then
   some 1
  else
   if(Op.bytesLess a a2)=true then
    some (-1)
   else
    if(!(Op.bytesLess a a2||a==a2))=true then
     some 1
    else
     some 0
theorem qX{a:ag}{a2:ag}{r:Int}(h:kY a a2=some r):CC Pg GE 59 [.str a,.str a2] (.int .i64 r) []:=by
 obtain⟨r1,br1,h⟩:=ax h
 obtain⟨r2,br2,h⟩:=ax h
 have p4:=fun{sc F} (r:PS sc F)=>bW (tU br1)<|bW (tU br2)<|r
 rcases aG h with⟨c3,h⟩|⟨c3,h⟩
 ·have p6:=fun{sc F} (r:PS sc F)=>p4<|sg 0 c3<|r
  rcases aG h with⟨c5,h⟩|⟨c5,h⟩
  ·obtain rfl:=lf h
   have z:=p6<|sg 0 c5<|en (aI (rP (.int .i64 0))<|trivial)
   exact bm H8 call59 func59 (c:=Ig) rfl (aI trivial (aI trivial trivial)) z<|by kernel_rfl
  ·obtain rfl:=lf h
   have z:=p6<|sg 0 c5<|en (aI (rP (.int .i64 (-1)))<|trivial)
   exact bm H8 call59 func59 (c:=Ig) rfl (aI trivial (aI trivial trivial)) z<|by kernel_rfl
 ·have p8:=fun{sc F} (r:PS sc F)=>p4<|sg 0 c3<|r
  rcases aG h with⟨c7,h⟩|⟨c7,h⟩
  ·obtain rfl:=lf h
   have z:=p8<|sg 0 c7<|en (aI (rP (.int .i64 1))<|trivial)
   exact bm H8 call59 func59 (c:=Ig) rfl (aI trivial (aI trivial trivial)) z<|by kernel_rfl
  ·have p10:=fun{sc F} (r:PS sc F)=>p8<|sg 0 c7<|r
   rcases aG h with⟨c9,h⟩|⟨c9,h⟩
   ·obtain rfl:=lf h
    have z:=p10<|sg 0 c9<|en (aI (rP (.int .i64 (-1)))<|trivial)
    exact bm H8 call59 func59 (c:=Ig) rfl (aI trivial (aI trivial trivial)) z<|by kernel_rfl
   ·have p12:=fun{sc F} (r:PS sc F)=>p10<|sg 0 c9<|r
    rcases aG h with⟨c11,h⟩|⟨c11,h⟩
    ·obtain rfl:=lf h
     have z:=p12<|sg 0 c11<|en (aI (rP (.int .i64 1))<|trivial)
     exact bm H8 call59 func59 (c:=Ig) rfl (aI trivial (aI trivial trivial)) z<|by kernel_rfl
    ·obtain rfl:=lf h
     have z:=p12<|sg 0 c11<|en (aI (rP (.int .i64 0))<|trivial)
     exact bm H8 call59 func59 (c:=Ig) rfl (aI trivial (aI trivial trivial)) z<|by kernel_rfl
noncomputable def Jp:Code:=f58.body.getD .skip
def Il:List Nat:=[15,17]
section
variable(t6:(List Int))(t7:Int)(t8:Int)
def kZ:ak:=aY 18 [(3,.int .i64 0),(6,sl (cI .i64) t6),(7,.int .i64 t7),(8,.int .i64 t8)] [] []
def lh(o:Int⊕(Unit)):Exit:=match o with
 |(.inl _)=>.ret
 |(.inr _)=>.exit 0
def jA(o:Int⊕(Unit)):ak:=match o with
 |(.inl o)=>aY 18 [(2,.int .i64 o)] [] []
 |(.inr o)=>aY 18 [(3,.int .i64 0)] [] []
def lc:Option (Int⊕(Int⊕(Unit))):=
 if(decide (t8<t7))=true then
  (eQ t6 t8).bind fun x2=>
  if(x2 !=0)=true then
   some (.inr (.inl x2))
  else
   some (.inl (bA (t8+1)))
 else
  some (.inr (.inr ()))
def mf:Option (Int⊕(Unit)):=loop (fun(zz:Int)=>lc t6 t7 zz) t8
theorem y9{y:Int⊕(Int⊕(Unit))}(h:lc t6 t7 t8=some y):aA Pg GE 0 (cA Jp 119) (LQ (fun(zz:Int)=>kZ t6 t7 zz) lh jA y) (kZ t6 t7 t8):=by
 rcases aG h with⟨c1,h⟩|⟨c1,h⟩
 ·obtain⟨x2,bx2,h⟩:=ax h
  have p4:=fun{sc F} (r:PS sc F)=>sg 0 c1<|sv (Ck.ia (k:=.i64) bx2)<|sv (pN KL (.int .i64 x2) [])<|r
  rcases aG h with⟨c3,h⟩|⟨c3,h⟩
  ·obtain rfl:=lf h
   have z:=p4<|sg 0 c3<|eF (lh (.inl x2)) (jA (.inl x2))
   exact jI Il (by intro hx;cases hx) z<|by kernel_rfl
  ·obtain rfl:=lf h
   exact tg Il (p4<|sg 0 c3<|eF .normal (kZ t6 t7 (bA (t8+1))))<|by kernel_rfl
 ·obtain rfl:=lf h
  have z:=sg 0 c1<|eF (lh (.inr ())) (jA (.inr ()))
  exact jI Il (by intro hx;cases hx) z<|by kernel_rfl
theorem tT{x:Int⊕(Unit)}(h:mf t6 t7 t8=some x):aA Pg GE 0 (.loop (cA Jp 119)) (EX (lh x) (jA x)) (kZ t6 t7 t8):=
 aA.loop (S:=fun(zz:Int)=>kZ t6 t7 zz) (ex:=lh) (s:=t8) h fun zz y hy=>y9 t6 t7 zz hy
end
def xz(vals:(List Int)):Option Int:=
 (mf vals (vals.length:Int) 0).bind fun o5=>match o5 with
 |(.inl o5)=>
  some o5
 |(.inr o5)=>
  some 0
theorem zC{vals:(List Int)}{r:Int}(h:xz vals=some r):CC Pg GE 58 [sl (cI .i64) vals] (.int .i64 r) []:=by
 obtain⟨o5,bo5,h⟩:=ax h
 rcases o5 with o5|o5
 ·obtain rfl:=lf h
  have z:=dB (Ck.ln vals)<|da (e:=.ret) (s1:=jA (.inl o5)) (tT vals (vals.length:Int) 0 bo5)<|en (aI (rP (.int .i64 o5))<|trivial)
  exact bm Il call58 func58 (c:=Jp) rfl (aI (aq (JL .i64) vals) trivial) z<|by kernel_rfl
 ·obtain rfl:=lf h
  have z:=dB (Ck.ln vals)<|da (e:=.exit 0) (s1:=jA (.inr o5)) (tT vals (vals.length:Int) 0 bo5)<|en (aI (rP (.int .i64 0))<|trivial)
  exact bm Il call58 func58 (c:=Jp) rfl (aI (aq (JL .i64) vals) trivial) z<|by kernel_rfl
noncomputable def KH:Code:=f86.body.getD .skip
def KB:List Nat:=[]
def nx(a:Int):Option Bool:=
 some (a !=a)
theorem qY{a:Int}{r:Bool}(h:nx a=some r):CC Pg GE 86 [.int .i64 a] (.bool r) []:=by
 obtain rfl:=lf h
 have z:=en (aI (rP (.bool (a !=a)))<|trivial)
 exact bm KB call86 func86 (c:=KH) rfl (aI trivial trivial) z<|by kernel_rfl
noncomputable def Ih:Code:=f62.body.getD .skip
def H9:List Nat:=[]
def gw(a:Int)(a2:Int):Option Int:=
 (nx a).bind fun r1=>
 (nx a2).bind fun r2=>
 if r1=true then
  if r2=true then
   some 0
  else
   some (-1)
 else
  if r2=true then
   some 1
  else
   if(decide (a<a2))=true then
    some (-1)
   else
    if(decide (a>a2))=true then
     some 1
    else
     some 0
theorem kB{a:Int}{a2:Int}{r:Int}(h:gw a a2=some r):CC Pg GE 62 [.int .i64 a,.int .i64 a2] (.int .i64 r) []:=by
 obtain⟨r1,br1,h⟩:=ax h
 obtain⟨r2,br2,h⟩:=ax h
 have p4:=fun{sc F} (r:PS sc F)=>bW (qY br1)<|bW (qY br2)<|r
 rcases aG h with⟨c3,h⟩|⟨c3,h⟩
 ·have p6:=fun{sc F} (r:PS sc F)=>p4<|sg 0 c3<|r
  rcases aG h with⟨c5,h⟩|⟨c5,h⟩
  ·obtain rfl:=lf h
   have z:=p6<|sg 0 c5<|en (aI (rP (.int .i64 0))<|trivial)
   exact bm H9 call62 func62 (c:=Ih) rfl (aI trivial (aI trivial trivial)) z<|by kernel_rfl
  ·obtain rfl:=lf h
   have z:=p6<|sg 0 c5<|en (aI (rP (.int .i64 (-1)))<|trivial)
   exact bm H9 call62 func62 (c:=Ih) rfl (aI trivial (aI trivial trivial)) z<|by kernel_rfl
 ·have p8:=fun{sc F} (r:PS sc F)=>p4<|sg 0 c3<|r
  rcases aG h with⟨c7,h⟩|⟨c7,h⟩
  ·obtain rfl:=lf h
   have z:=p8<|sg 0 c7<|en (aI (rP (.int .i64 1))<|trivial)
   exact bm H9 call62 func62 (c:=Ih) rfl (aI trivial (aI trivial trivial)) z<|by kernel_rfl
  ·have p10:=fun{sc F} (r:PS sc F)=>p8<|sg 0 c7<|r
   rcases aG h with⟨c9,h⟩|⟨c9,h⟩
   ·obtain rfl:=lf h
    have z:=p10<|sg 0 c9<|en (aI (rP (.int .i64 (-1)))<|trivial)
    exact bm H9 call62 func62 (c:=Ih) rfl (aI trivial (aI trivial trivial)) z<|by kernel_rfl
   ·have p12:=fun{sc F} (r:PS sc F)=>p10<|sg 0 c9<|r
    rcases aG h with⟨c11,h⟩|⟨c11,h⟩
    ·obtain rfl:=lf h
     have z:=p12<|sg 0 c11<|en (aI (rP (.int .i64 1))<|trivial)
     exact bm H9 call62 func62 (c:=Ih) rfl (aI trivial (aI trivial trivial)) z<|by kernel_rfl
    ·obtain rfl:=lf h
     have z:=p12<|sg 0 c11<|en (aI (rP (.int .i64 0))<|trivial)
     exact bm H9 call62 func62 (c:=Ih) rfl (aI trivial (aI trivial trivial)) z<|by kernel_rfl
noncomputable def Kl:Code:=f63.body.getD .skip
def J8:List Nat:=[]
def ir(a:Bool):Option Int:=
 if a=true then
  some 1
 else
  some 0
theorem nL{a:Bool}{r:Int}(h:ir a=some r):CC Pg GE 63 [.bool a] (.int .i64 r) []:=by
 rcases aG h with⟨c1,h⟩|⟨c1,h⟩
 ·obtain rfl:=lf h
  have z:=sg 0 c1<|en (aI (rP (.int .i64 1))<|trivial)
  exact bm J8 call63 func63 (c:=Kl) rfl (aI trivial trivial) z<|by kernel_rfl
 ·obtain rfl:=lf h
  have z:=sg 0 c1<|en (aI (rP (.int .i64 0))<|trivial)
  exact bm J8 call63 func63 (c:=Kl) rfl (aI trivial trivial) z<|by kernel_rfl
noncomputable def KE:Code:=f61.body.getD .skip
def Ky:List Nat:=[]
def fV(a:ah)(a2:ah):Option Int:=
 (gw a.From a2.From).bind fun r1=>
 (gw a.To a2.To).bind fun r2=>
 (ir a.Strict).bind fun r3=>
 (ir a2.Strict).bind fun r4=>
 (gw r3 r4).bind fun r5=>
 (xz ([r1,r2,r5]:List Int)).bind fun r6=>
 some r6
theorem qy{a:ah}{a2:ah}{r:Int}(h:fV a a2=some r):CC Pg GE 61 [.agg (ai a),.agg (ai a2)] (.int .i64 r) []:=by
 obtain⟨r1,br1,h⟩:=ax h
 obtain⟨r2,br2,h⟩:=ax h
 obtain⟨r3,br3,h⟩:=ax h
 obtain⟨r4,br4,h⟩:=ax h
 obtain⟨r5,br5,h⟩:=ax h
 obtain⟨r6,br6,h⟩:=ax h
 obtain rfl:=lf h
 have z:=se (pL a)<|se (pL a2)<|zQ [0,1,0,4,15,0,32,0,128,511,0,1024,4095,0,8192,32767,65535,131071,262143,524287]<|sv (cC a)<|sv (di a)<|sv (cC a2)<|sv (di a2)<|bW (kB br1)<|sv (fS a)<|sv (ig a)<|sv (fS a2)<|sv (ig a2)<|bW (kB br2)<|sv (pC a)<|sv (q7 a)<|bW (nL br3)<|sv (pC a2)<|sv (q7 a2)<|bW (nL br4)<|bW (kB br5)<|sv (Ck.mk' (v:=(PVal.int .i64)) (Kw .i64) ([r1,r2,r5]:List Int) 3 (by kernel_rfl))<|bW (zC br6)<|en (aI (rP (.int .i64 r6))<|trivial)
 exact bm Ky call61 func61 (c:=KE) rfl (aI (ay a) (aI (ay a2) trivial)) z<|by kernel_rfl
noncomputable def IN:Code:=f60.body.getD .skip
def G7:List Nat:=[15,32]
section
variable(s1:waB)(s2:waB)(t12:Int)(t13:Int)
def cw:ak:=aY 39 [(0,sl ai s1),(1,sl ai s2),(2,.func (.func 61) [] []),(11,sl ai s1),(12,.int .i64 t12),(13,.int .i64 t13)] [] []
def bI(o:Int⊕(Unit)):Exit:=match o with
 |(.inl _)=>.ret
 |(.inr _)=>.exit 0
def bj(o:Int⊕(Unit)):ak:=match o with
 |(.inl o)=>aY 39 [(6,.int .i64 o)] [] []
 |(.inr o)=>aY 39 [(0,sl ai s1),(1,sl ai s2)] [] []
def bH:Option (Int⊕(Int⊕(Unit))):=
 if (decide (t13 < t12)) = true then
  (eQ s1 t13).bind fun x2=>
  if(decide (t13>=(s2.length:Int)))=true then
   some (.inr (.inl 1))
  else
   (eQ s2 t13).bind fun x5=>
   (fV x2 x5).bind fun r6=>
   if(r6 !=0)=true then
    some (.inr (.inl r6))
   else
    some (.inl (bA (t13+1)))
 else
  some (.inr (.inr ()))
def bT:Option (Int⊕(Unit)):=loop (fun(zz:Int)=>bH s1 s2 t12 zz) t13
theorem nl{y:Int⊕(Int⊕(Unit))}(h:bH s1 s2 t12 t13=some y):aA Pg GE 0 (cA IN 55) (LQ (fun(zz:Int)=>cw s1 s2 t12 zz) bI (bj s1 s2) y) (cw s1 s2 t12 t13):=by
 rcases aG h with⟨c1,h⟩|⟨c1,h⟩
 ·obtain⟨x2,bx2,h⟩:=ax h
  have p4:=fun{sc F} (r:PS sc F)=>sg 0 c1<|sv (cx.ia (k:=.i64) bx2)<|sv (dJ x2)<|sx tp<|sx (d7 x2)<|dB (cx.ln s2)<|r
  rcases aG h with⟨c3,h⟩|⟨c3,h⟩
  ·obtain rfl:=lf h
   have z:=p4<|sg 0 c3<|mW 0 (bI (.inl 1)) (bj s1 s2 (.inl 1)) rfl (bN (aI trivial trivial)) trivial
   exact im (A:=G7) mixed (by intro hx;cases hx) z<|by kernel_rfl
  ·obtain⟨x5,bx5,h⟩:=ax h
   obtain⟨r6,br6,h⟩:=ax h
   have p8:=fun{sc F} (r:PS sc F)=>p4<|sg 0 c3<|sv (cx.ia (k:=.i64) bx5)<|sv (dJ x5)<|sx tp<|sx (d7 x5)<|sv (f0 x2 [])<|sv (f0 x5 [])<|bW (qy br6)<|r
   rcases aG h with⟨c7,h⟩|⟨c7,h⟩
   ·obtain rfl:=lf h
    have z:=p8<|sg 0 c7<|mW 0 (bI (.inl r6)) (bj s1 s2 (.inl r6)) rfl (bN (aI trivial trivial)) trivial
    exact im (A:=G7) mixed (by intro hx;cases hx) z<|by kernel_rfl
   ·obtain rfl:=lf h
    have z:=p8<|sg 0 c7<|mW 0 .normal (cw s1 s2 t12 (bA (t13+1))) rfl (bN (aI (up (aq ay s1)) (aI (up (aq ay s2)) (aI (aI trivial trivial) (aI (up (aq ay s1)) (aI trivial (aI trivial trivial))))))) trivial
    exact cJ (A:=G7) mixed z<|by kernel_rfl
 ·obtain rfl:=lf h
  have z:=sg 0 c1<|eF (bI (.inr ())) (bj s1 s2 (.inr ()))
  exact jI G7 (by intro hx;cases hx) z<|by kernel_rfl
theorem je{x:Int⊕(Unit)}(h:bT s1 s2 t12 t13=some x):aA Pg GE 0 (.loop (cA IN 55)) (EX (bI x) (bj s1 s2 x)) (cw s1 s2 t12 t13):=
 aA.loop (S:=fun(zz:Int)=>cw s1 s2 t12 zz) (ex:=bI) (s:=t13) h fun zz y hy=>nl s1 s2 t12 zz hy
end
def fW(s1:waB)(s2:waB):Option Int:=
 (bT s1 s2 (s1.length:Int) 0).bind fun o9=>match o9 with
 |(.inl o9)=>
  some o9
 | (.inr o9) =>
  if(decide ((s1.length:Int)<(s2.length:Int)))=true then
   some (-1)
  else
   some 0
theorem qz{s1:waB}{s2:waB}{r:Int}(h:fW s1 s2=some r):CC Pg GE 60 [sl ai s1,sl ai s2,.func (.func 61) [] []] (.int .i64 r) []:=by
 obtain⟨o9,bo9,h⟩:=ax h
 rcases o9 with o9|o9
 ·obtain rfl:=lf h
  have z:=dB (cx.ln s1)<|da (e:=.ret) (s1:=bj s1 s2 (.inl o9)) (je s1 s2 (s1.length:Int) 0 bo9)<|en (aI (rP (.int .i64 o9))<|trivial)
  exact bm G7 call60 func60 (c:=IN) rfl (aI (aq ay s1) (aI (aq ay s2) (aI (aI trivial trivial) trivial))) z<|by kernel_rfl
 ·have p11:=fun{sc F} (r:PS sc F)=>dB (cx.ln s1)<|da (e:=.exit 0) (s1:=bj s1 s2 (.inr o9)) (je s1 s2 (s1.length:Int) 0 bo9)<|dB (cx.ln s1)<|dB (cx.ln s2)<|r
  rcases aG h with⟨c10,h⟩|⟨c10,h⟩
  ·obtain rfl:=lf h
   have z:=p11<|sg 0 c10<|en (aI (rP (.int .i64 (-1)))<|trivial)
   exact bm G7 call60 func60 (c:=IN) rfl (aI (aq ay s1) (aI (aq ay s2) (aI (aI trivial trivial) trivial))) z<|by kernel_rfl
  ·obtain rfl:=lf h
   have z:=p11<|sg 0 c10<|en (aI (rP (.int .i64 0))<|trivial)
   exact bm G7 call60 func60 (c:=IN) rfl (aI (aq ay s1) (aI (aq ay s2) (aI (aI trivial trivial) trivial))) z<|by kernel_rfl
noncomputable def Ki:Code:=f39.body.getD .skip
def J5:List Nat:=[20]
def bo(a:aa)(a2:aa):Option Int:=
 (kY a.Caller a2.Caller).bind fun r1=>
 (kY a.Callee a2.Callee).bind fun r2=>
 (xz ([r1,r2]:List Int)).bind fun r3=>
 if(r3 !=0)=true then
  some r3
 else
  (fW a.Arcs a2.Arcs).bind fun r6=>
  some r6
theorem sh{a:aa}{a2:aa}{r:Int}(h:bo a a2=some r):CC Pg GE 39 [.agg (ac a),.agg (ac a2)] (.int .i64 r) []:=by
 obtain⟨r1,br1,h⟩:=ax h
 obtain⟨r2,br2,h⟩:=ax h
 obtain⟨r3,br3,h⟩:=ax h
 have p5:=fun{sc F} (r:PS sc F)=>se (ba a)<|se (ba a2)<|zQ [0,1,0,4,15,0,32,0,128,511,1023,2047,4095]<|sv (aD a)<|sv (aM a)<|sv (aD a2)<|sv (aM a2)<|bW (qX br1)<|sv (aE a)<|sv (aN a)<|sv (aE a2)<|sv (aN a2)<|bW (qX br2)<|sv (Ck.mk' (v:=(PVal.int .i64)) (Kw .i64) ([r1,r2]:List Int) 2 (by kernel_rfl))<|bW (zC br3)<|r
 rcases aG h with⟨c4,h⟩|⟨c4,h⟩
 ·obtain rfl:=lf h
  have z:=p5<|sg 0 c4<|en (aI (rP (.int .i64 r3))<|trivial)
  exact bm J5 call39 func39 (c:=Ki) rfl (aI (ae a) (aI (ae a2) trivial)) z<|by kernel_rfl
 ·obtain⟨r6,br6,h⟩:=ax h
  obtain rfl:=lf h
  have z:=p5<|sg 0 c4<|sv (au a)<|sv (av a)<|sv (au a2)<|sv (av a2)<|bW (qz br6)<|en (aI (rP (.int .i64 r6))<|trivial)
  exact bm J5 call39 func39 (c:=Ki) rfl (aI (ae a) (aI (ae a2) trivial)) z<|by kernel_rfl
end Go.Proofs.YtoficachfgggjaaDoor
