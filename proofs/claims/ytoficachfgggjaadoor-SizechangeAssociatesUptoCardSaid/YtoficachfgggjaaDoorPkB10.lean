/- PROVED: a part of the proof. Conditions: none. -/
import Derived.Test.YtoficachfgggjaaDoorPkB9
noncomputable section
namespace Go.Proofs.YtoficachfgggjaaDoor
open Go Go.Proofs.Tryd
set_option linter.unusedVariables false
set_option maxRecDepth 100000
noncomputable def zf:Code:=f10.body.getD .skip
def vQ:List Nat:=[21]
section
variable(g:ac)
def lA:aj:=cE 63 [(1,.eptr (ae g))] [.dead] []
def ej(o:Bool):aj:=cE 63 [(1,.eptr (ae g)),(15,.bool o)] [.dead] []
def dA:Option Bool:=
 (iL g.Caller).bind fun r1=>
 if(r1 !=0)=true then
  some true
 else
  (iL g.Callee).bind fun r4=>
  some (r4 !=0)
theorem la{x:Bool}(h:dA g=some x):aL Pg GE 0 (cA zf 12) (EX .normal (ej g x)) (lA g):=by
 obtain⟨r1,br1,h⟩:=aF h
 have p3:=fun{sc F} (r:PS sc F)=>sv (bu g)<|sv (bQ g)<|dj (mW br1)<|r
 rcases bB h with⟨c2,h⟩|⟨c2,h⟩
 ·obtain rfl:=lf h
  exact iT vQ (p3<|sg 5 c2<|eF .normal (ej g true))<|by kernel_rfl
 ·obtain⟨r4,br4,h⟩:=aF h
  obtain rfl:=lf h
  exact iT vQ (p3<|sg 5 c2<|sv (bv g)<|sv (bR g)<|dj (mW br4)<|eF .normal (ej g (r4 !=0)))<|by kernel_rfl
end
section
variable(g:ac)(i:Int)(t17:waA)(t18:Int)(m1:iq)(m:Int)(m2:Int)(m3:Bool)
def lB:aj:=cE 63 [(1,.eptr (ae g)),(3,.bptr 1 0),(4,.int .i64 i),(5,.bptr 2 0),(17,sl al t17),(18,.int .i64 t18),(19,.int .i64 i)] [.dead,.cells (g8 m1) [],.cells [.int .i64 m,.int .i64 m2,.bool m3] []] []
def ek(o:Bool):aj:=cE 63 [(1,.eptr (ae g)),(3,.bptr 1 0),(4,.int .i64 i),(5,.bptr 2 0),(17,sl al t17),(18,.int .i64 t18),(19,.int .i64 i),(24,.bool o)] [.dead,.cells (g8 m1) [],.cells [.int .i64 m,.int .i64 m2,.bool m3] []] []
def dB:Option Bool:=
 (dU m).bind fun r10=>
 if(!r10)=true then
  some true
 else
  (dU m2).bind fun r13=>
  some (!r13)
theorem lb{x:Bool}(h:dB m m2=some x):aL Pg GE 0 (cA zf 63450) (EX .normal (ek g i t17 t18 m1 m m2 m3 x)) (lB g i t17 t18 m1 m m2 m3):=by
 obtain⟨r10,br10,h⟩:=aF h
 have p12:=fun{sc F} (r:PS sc F)=>ss<|dj (ij br10)<|r
 rcases bB h with⟨c11,h⟩|⟨c11,h⟩
 ·obtain rfl:=lf h
  exact iT vQ (p12<|sg 5 c11<|eF .normal (ek g i t17 t18 m1 m m2 m3 true))<|by kernel_rfl
 ·obtain⟨r13,br13,h⟩:=aF h
  obtain rfl:=lf h
  exact iT vQ (p12<|sg 5 c11<|ss<|dj (ij br13)<|eF .normal (ek g i t17 t18 m1 m m2 m3 (!r13)))<|by kernel_rfl
end
section
variable(g:ac)(i:Int)(t17:waA)(t18:Int)(m1:iq)(m:Int)(m2:Int)(m3:Bool)
def lC:aj:=cE 63 [(1,.eptr (ae g)),(3,.bptr 1 0),(4,.int .i64 i),(5,.bptr 2 0),(17,sl al t17),(18,.int .i64 t18),(19,.int .i64 i)] [.dead,.cells (g8 m1) [],.cells [.int .i64 m,.int .i64 m2,.bool m3] []] []
def eo(o:Bool):aj:=cE 63 [(1,.eptr (ae g)),(3,.bptr 1 0),(5,.bptr 2 0),(17,sl al t17),(18,.int .i64 t18),(19,.int .i64 i),(43,.bool o)] [.dead,.cells (g8 m1) [],.cells [.int .i64 m,.int .i64 m2,.bool m3] []] []
def dC:Option Bool:=
 if(decide (i>0))=true then
  (g9 g.Arcs (eW (i - 1))).bind fun x22=>
  (eB (⟨m,m2,m3⟩:ak) x22).bind fun r23=>
  some r23
 else
  some false
theorem lc{x:Bool}(h:dC g i m m2 m3=some x):aL Pg GE 0 (cA zf 1015230) (EX .normal (eo g i t17 t18 m1 m m2 m3 x)) (lC g i t17 t18 m1 m m2 m3):=by
 rcases bB h with⟨c21,h⟩|⟨c21,h⟩
 ·obtain⟨x22,bx22,h⟩:=aF h
  obtain⟨r23,br23,h⟩:=aF h
  obtain rfl:=lf h
  exact iT vQ (wA [0,1,3,7,7,23,7,71,247,503,1023,2047,4095]<|sg 3 c21<|sv (qC (⟨m,m2,m3⟩:ak) [])<|sv (bS g)<|sv (bT g)<|sv (fK.ia (k:=.i64) bx22)<|sv (iv x22)<|dj (mj br23)<|eF .normal (eo g i t17 t18 m1 m m2 m3 r23))<|by kernel_rfl
 ·obtain rfl:=lf h
  exact iT vQ (wA [0,1,3,7,7,23,7,71,247,503,1023,2047,4095]<|sg 3 c21<|eF .normal (eo g i t17 t18 m1 m m2 m3 false))<|by kernel_rfl
end
section
variable(g:ac)(t17:waA)(t18:Int)(t19:Int)(m1:iq)
def b8:aj:=cE 63 [(1,.eptr (ae g)),(3,.bptr 1 0),(17,sl al t17),(18,.int .i64 t18),(19,.int .i64 t19)] [.dead,.cells (g8 m1) []] []
def aT(o:(Int×iq)⊕(iq)):Exit:=match o with
 |(.inl _)=>.ret
 |(.inr _)=>.exit 0
def aM(o:(Int×iq)⊕(iq)):aj:=match o with
 |(.inl o)=>cE 63 [(2,.int .i64 o.1)] [.dead,.cells (g8 o.2) []] []
 |(.inr o)=>cE 63 [] [.dead,.cells (g8 o) []] []
def ca:Option ((Int×iq)⊕((Int×iq)⊕(iq))):=
 if (decide (t19 < t18)) = true then
  (g9 t17 t19).bind fun x9=>
  (dB x9.From x9.To).bind fun o14=>
  if o14=true then
   some (.inr (.inl (2,m1)))
  else
   (lF 6 x9.From).bind fun i17=>
   (lF 6 x9.To).bind fun i18=>
   if(m1 (0+i17 * 6+i18 * 1))=true then
    some (.inr (.inl (4,m1)))
   else
    (dC g t19 x9.From x9.To x9.Strict).bind fun o24=>
    if o24=true then
     some (.inr (.inl (9,m1)))
    else
     (lF 6 x9.From).bind fun i27=>
     (lF 6 x9.To).bind fun i28=>
     some (.inl (eW (t19+1),eQ m1 (0+i27 * 6+i28 * 1) true))
 else
  some (.inr (.inr m1))
def bX:Option ((Int×iq)⊕(iq)):=loop (fun(zz:Int×iq)=>ca g t17 t18 zz.1 zz.2) (t19,m1)
theorem ku{y:(Int×iq)⊕((Int×iq)⊕(iq))}(h:ca g t17 t18 t19 m1=some y):aL Pg GE 0 (cA zf 247) (LQ (fun(zz:Int×iq)=>b8 g t17 t18 zz.1 zz.2) aT aM y) (b8 g t17 t18 t19 m1):=by
 rcases bB h with⟨c8,h⟩|⟨c8,h⟩
 ·obtain⟨x9,bx9,h⟩:=aF h
  obtain⟨o14,bo14,h⟩:=aF h
  have p16:=fun{sc F} (r:PS sc F)=>sg 0 c8<|sv (fK.ia (k:=.i64) bx9)<|sv (iv x9)<|sx yq<|sx (l7 x9)<|sw 1<|ga (lb g t19 t17 t18 m1 x9.From x9.To x9.Strict bo14)<|r
  rcases bB h with⟨c15,h⟩|⟨c15,h⟩
  ·obtain rfl:=lf h
   have z:=p16<|sg 0 c15<|sN 0 (aT (.inl (2,m1))) (aM (.inl (2,m1))) rfl (fu (aI trivial trivial)) (aI trivial (aI (kJ (pV m1)) trivial))
   exact lZ (A:=vQ) mixed (by intro hx;cases hx) z<|by kernel_rfl
  ·obtain⟨i17,bi17,h⟩:=aF h
   obtain⟨i18,bi18,h⟩:=aF h
   have p20:=fun{sc F} (r:PS sc F)=>p16<|sg 0 c15<|wA [0,1,0,4,3,31,63,127]<|ss<|ss<|sv (At (b:=1) (off:=0) (k:=.i64) bi17)<|sv (As (b:=1) (off:=0+i17 * 6) (k:=.i64) bi18)<|sv (Bi (x:=m1) (zk bi17 bi18))<|r
   rcases bB h with⟨c19,h⟩|⟨c19,h⟩
   ·obtain rfl:=lf h
    have z:=p20<|sg 0 c19<|sN 0 (aT (.inl (4,m1))) (aM (.inl (4,m1))) rfl (fu (aI trivial trivial)) (aI trivial (aI (kJ (pV m1)) trivial))
    exact lZ (A:=vQ) mixed (by intro hx;cases hx) z<|by kernel_rfl
   ·obtain⟨o24,bo24,h⟩:=aF h
    have p26:=fun{sc F} (r:PS sc F)=>p20<|sg 0 c19<|sw 0<|ga (lc g t19 t17 t18 m1 x9.From x9.To x9.Strict bo24)<|r
    rcases bB h with⟨c25,h⟩|⟨c25,h⟩
    ·obtain rfl:=lf h
     have z:=p26<|sg 0 c25<|sN 0 (aT (.inl (9,m1))) (aM (.inl (9,m1))) rfl (fu (aI trivial trivial)) (aI trivial (aI (kJ (pV m1)) trivial))
     exact lZ (A:=vQ) mixed (by intro hx;cases hx) z<|by kernel_rfl
    ·obtain⟨i27,bi27,h⟩:=aF h
     obtain⟨i28,bi28,h⟩:=aF h
     obtain rfl:=lf h
     have z:=p26<|sg 0 c25<|AY (.dx [0,1,0,4,3,31,63] [] [] [1])<|ss<|ss<|sv (At (b:=1) (off:=0) (k:=.i64) bi27)<|sv (As (b:=1) (off:=0+i27 * 6) (k:=.i64) bi28)<|BF (Bj (x:=m1) (v:=true) (zk bi27 bi28))<|sN 0 .normal (b8 g t17 t18 (eW (t19+1)) (eQ m1 (0+i27 * 6+i28 * 1) true)) rfl (fu (aI (kJ (af g)) (aI (j9 rfl) (aI (up (aK aJ t17)) (aI trivial (aI trivial trivial)))))) (aI trivial (aI (kJ (pV (eQ m1 (0+i27 * 6+i28 * 1) true))) trivial))
     exact iQ (A:=vQ) mixed z<|by kernel_rfl
 ·obtain rfl:=lf h
  have z:=sg 0 c8<|eF (aT (.inr m1)) (aM (.inr m1))
  exact mY vQ (by intro hx;cases hx) z<|by kernel_rfl
theorem fZ{x:(Int×iq)⊕(iq)}(h:bX g t17 t18 t19 m1=some x):aL Pg GE 0 (.loop (cA zf 247)) (EX (aT x) (aM x)) (b8 g t17 t18 t19 m1):=
 aL.loop (S:=fun(zz:Int×iq)=>b8 g t17 t18 zz.1 zz.2) (ex:=aT) (s:=(t19,m1)) h fun zz y hy=>ku g t17 t18 zz.1 zz.2 hy
end
def bk(g:ac):Option Int:=
 (dA g).bind fun o5=>
 if o5=true then
  some 3
 else
  (bX g g.Arcs (g.Arcs.length:Int) 0 (nc false)).bind fun o29=>match o29 with
  |(.inl o29)=>
   some o29.1
  |(.inr o29)=>
   some 0
theorem bY{g:ac}{r:Int}(h:bk g=some r):CC Pg GE 10 [.agg (ae g)] (.int .i64 r) []:=by
 obtain⟨o5,bo5,h⟩:=aF h
 have p7:=fun{sc F} (r:PS sc F)=>se (cw g)<|sw 1<|ga (la g bo5)<|r
 rcases bB h with⟨c6,h⟩|⟨c6,h⟩
 ·obtain rfl:=lf h
  have z:=p7<|sg 0 c6<|en (aI (rP (.int .i64 3))<|trivial)
  exact cq vQ call10 func10 (c:=zf) rfl (aI (af g) trivial) z<|by kernel_rfl
 ·obtain⟨o29,bo29,h⟩:=aF h
  rcases o29 with o29|o29
  ·obtain rfl:=lf h
   have z:=p7<|sg 0 c6<|sx AT<|sv (bS g)<|sv (bT g)<|jy (fK.ln g.Arcs)<|ga (e:=.ret) (s1:=aM (.inl o29)) (fZ g g.Arcs (g.Arcs.length:Int) 0 (nc false) bo29)<|en (aI (rP (.int .i64 o29.1))<|trivial)
   exact cq vQ call10 func10 (c:=zf) rfl (aI (af g) trivial) z<|by kernel_rfl
  ·obtain rfl:=lf h
   have z:=p7<|sg 0 c6<|sx AT<|sv (bS g)<|sv (bT g)<|jy (fK.ln g.Arcs)<|ga (e:=.exit 0) (s1:=aM (.inr o29)) (fZ g g.Arcs (g.Arcs.length:Int) 0 (nc false) bo29)<|en (aI (rP (.int .i64 0))<|trivial)
   exact cq vQ call10 func10 (c:=zf) rfl (aI (af g) trivial) z<|by kernel_rfl
noncomputable def Aw:Code:=f14.body.getD .skip
def zr:List Nat:=[19,41]
section
variable(s:am)(i:Int)(t15:waA)(t16:Int)(m:Int)(m2:Int)(m3:Bool)
def mh:aj:=cE 42 [(3,.str s),(4,.int .i64 i),(5,.bptr 1 0),(15,sl al t15),(16,.int .i64 t16),(17,.int .i64 i)] [.dead,.cells [.int .i64 m,.int .i64 m2,.bool m3] []] []
def eM(o:am):aj:=cE 42 [(3,.str o),(5,.bptr 1 0),(15,sl al t15),(16,.int .i64 t16),(17,.int .i64 i)] [.dead,.cells [.int .i64 m,.int .i64 m2,.bool m3] []] []
def iY:Option am:=
 if(decide (i>0))=true then
  (yD s ([44]:am)).bind fun s7=>
  some s7
 else
  some s
theorem lx{x:am}(h:iY s i=some x):aL Pg GE 0 (cA Aw 7670) (EX .normal (eM i t15 t16 m m2 m3 x)) (mh s i t15 t16 m m2 m3):=by
 rcases bB h with⟨c6,h⟩|⟨c6,h⟩
 ·obtain⟨s7,bs7,h⟩:=aF h
  obtain rfl:=lf h
  exact iT zr (sg 0 c6<|sv (mm (P:=Pg) (t:=9) bs7)<|eF .normal (eM i t15 t16 m m2 m3 s7))<|by kernel_rfl
 ·obtain rfl:=lf h
  exact iT zr (sg 0 c6<|eF .normal (eM i t15 t16 m m2 m3 s))<|by kernel_rfl
end
section
variable(s:am)(t15:waA)(t16:Int)(t17:Int)(m:Int)(m2:Int)(m3:Bool)
def mi:aj:=cE 42 [(3,.str s),(5,.bptr 1 0),(6,.str ([32,62,61,32]:am)),(15,sl al t15),(16,.int .i64 t16),(17,.int .i64 t17)] [.dead,.cells [.int .i64 m,.int .i64 m2,.bool m3] []] []
def eN(o:am):aj:=cE 42 [(3,.str s),(5,.bptr 1 0),(6,.str o),(15,sl al t15),(16,.int .i64 t16),(17,.int .i64 t17)] [.dead,.cells [.int .i64 m,.int .i64 m2,.bool m3] []] []
def iZ:Option am:=
 if m3=true then
  some ([32,62,32]:am)
 else
  some ([32,62,61,32]:am)
theorem ly{x:am}(h:iZ m3=some x):aL Pg GE 0 (cA Aw 30686) (EX .normal (eN s t15 t16 t17 m m2 m3 x)) (mi s t15 t16 t17 m m2 m3):=by
 rcases bB h with⟨c9,h⟩|⟨c9,h⟩
 ·obtain rfl:=lf h
  exact iT zr (ss<|sg 0 c9<|eF .normal (eN s t15 t16 t17 m m2 m3 ([32,62,32]:am)))<|by kernel_rfl
 ·obtain rfl:=lf h
  exact iT zr (ss<|sg 0 c9<|eF .normal (eN s t15 t16 t17 m m2 m3 ([32,62,61,32]:am)))<|by kernel_rfl
end
section
variable(t15:waA)(t16:Int)(s:am)(t17:Int)
def cp:aj:=cE 42 [(3,.str s),(15,sl al t15),(16,.int .i64 t16),(17,.int .i64 t17)] [.dead] []
def eO(o:am):aj:=cE 42 [(3,.str o)] [.dead] []
def g5:Option ((am×Int)⊕(am)):=
 if(decide (t17<t16))=true then
  (g9 t15 t17).bind fun x5=>
  (iY s t17).bind fun o8=>
  (iZ x5.Strict).bind fun o10=>
  (xY x5.From).bind fun r11=>
  (yD ([32]:am) r11).bind fun s12=>
  (yD s12 o10).bind fun s13=>
  (xY x5.To).bind fun r14=>
  (yD s13 r14).bind fun s15=>
  (yD o8 s15).bind fun s16=>
  some (.inl (s16,eW (t17+1)))
 else
  some (.inr s)
def ja:Option am:=loop (fun(zz:am×Int)=>g5 t15 t16 zz.1 zz.2) (s,t17)
theorem kZ{y:(am×Int)⊕(am)}(h:g5 t15 t16 s t17=some y):aL Pg GE 0 (cA Aw 119) (LQ (fun(zz:am×Int)=>cp t15 t16 zz.1 zz.2) (fun _=>.exit 0) eO y) (cp t15 t16 s t17):=by
 rcases bB h with⟨c4,h⟩|⟨c4,h⟩
 ·obtain⟨x5,bx5,h⟩:=aF h
  obtain⟨o8,bo8,h⟩:=aF h
  obtain⟨o10,bo10,h⟩:=aF h
  obtain⟨r11,br11,h⟩:=aF h
  obtain⟨s12,bs12,h⟩:=aF h
  obtain⟨s13,bs13,h⟩:=aF h
  obtain⟨r14,br14,h⟩:=aF h
  obtain⟨s15,bs15,h⟩:=aF h
  obtain⟨s16,bs16,h⟩:=aF h
  obtain rfl:=lf h
  have z:=sg 0 c4<|sv (fK.ia (k:=.i64) bx5)<|sv (iv x5)<|sx yq<|sx (l7 x5)<|sw 0<|ga (lx s t17 t15 t16 x5.From x5.To x5.Strict bo8)<|sw 1<|ga (ly o8 t15 t16 t17 x5.From x5.To x5.Strict bo10)<|wA [0,0,2,6,14,0,62,0,128,398,1022,2047,4095]<|ss<|dj (wk br11)<|sv (mm (P:=Pg) (t:=9) bs12)<|sv (mm (P:=Pg) (t:=9) bs13)<|ss<|dj (wk br14)<|sv (mm (P:=Pg) (t:=9) bs15)<|sv (mm (P:=Pg) (t:=9) bs16)<|sN 0 .normal (cp t15 t16 s16 (eW (t17+1))) rfl (fu (aI trivial (aI (up (aK aJ t15)) (aI trivial (aI trivial trivial))))) (aI trivial trivial)
  exact iQ (A:=zr) mixed z<|by kernel_rfl
 ·obtain rfl:=lf h
  have z:=sg 0 c4<|eF (.exit 0) (eO s)
  exact mY zr (by intro hx;cases hx) z<|by kernel_rfl
theorem lz{x:am}(h:ja t15 t16 s t17=some x):aL Pg GE 0 (.loop (cA Aw 119)) (EX (.exit 0) (eO x)) (cp t15 t16 s t17):=
 aL.loop (S:=fun(zz:am×Int)=>cp t15 t16 zz.1 zz.2) (ex:=(fun _=>.exit 0)) (s:=(s,t17)) h fun zz y hy=>kZ t15 t16 zz.1 zz.2 hy
end
def ib(g:ac):Option am:=
 (yD g.Caller ([32,45,62,32]:am)).bind fun s1=>
 (yD s1 g.Callee).bind fun s2=>
 (yD s2 ([58]:am)).bind fun s3=>
 (ja g.Arcs (g.Arcs.length:Int) s3 0).bind fun o17=>
 some o17
theorem jb{g:ac}{r:am}(h:ib g=some r):CC Pg GE 14 [.agg (ae g)] (.str r) []:=by
 obtain⟨s1,bs1,h⟩:=aF h
 obtain⟨s2,bs2,h⟩:=aF h
 obtain⟨s3,bs3,h⟩:=aF h
 obtain⟨o17,bo17,h⟩:=aF h
 obtain rfl:=lf h
 have z:=se (cw g)<|sv (bu g)<|sv (bQ g)<|sv (mm (P:=Pg) (t:=9) bs1)<|sv (bv g)<|sv (bR g)<|sv (mm (P:=Pg) (t:=9) bs2)<|sv (mm (P:=Pg) (t:=9) bs3)<|sv (bS g)<|sv (bT g)<|jy (fK.ln g.Arcs)<|ga (lz g.Arcs (g.Arcs.length:Int) s3 0 bo17)<|en (aI (rP (.str o17))<|trivial)
 exact cq zr call14 func14 (c:=Aw) rfl (aI (af g) trivial) z<|by kernel_rfl
noncomputable def BS:Code:=f36.body.getD .skip
def BH:List Nat:=[17]
def dp(g:ac)(k1:(List (am×Bool)))(k2:waB):Option ((List (am×Bool))×waB):=
 (ib g).bind fun r1=>
 if(!((rv k1 r1).getD false))=true then
  (qi g.Arcs).bind fun r4=>
  (app k2 ([(⟨g.Caller,g.Callee,r4⟩:ac)]:List ac)).bind fun l5=>
  some (sY k1 r1 true,l5)
 else
  some (k1,k2)
theorem dI{g:ac}{k1:(List (am×Bool))}{k2:waB}{r:(List (am×Bool))×waB}(h:dp g k1 k2=some r):C Pg GE 36 [.agg (ae g),.bptr 0 0,.bptr 2 0] [] [.cells [.mapr 1] [],.map (cz PVal.bool k1),.cells [sl ae k2] [(0,24)]] (.tuple []) [] [.cells [.mapr 1] [],.map (cz PVal.bool r.1),.cells [sl ae r.2] [(0,24)]]:=by
 obtain⟨r1,br1,h⟩:=aF h
 have p3:=fun{sc F} (r:PS sc F)=>sx (dy g)<|sv (ba g [])<|dj (jb br1)<|ss<|sv (zQ (f:=PVal.bool) underlying56 underlying9 Cm k1 r1)<|r
 rcases bB h with⟨c2,h⟩|⟨c2,h⟩
 ·obtain⟨r4,br4,h⟩:=aF h
  obtain⟨l5,bl5,h⟩:=aF h
  obtain rfl:=lf h
  have z:=p3<|sg 0 c2<|ss<|Ck (zR (f:=PVal.bool) underlying56 underlying9 k1 r1 true)<|ss<|dj (uS br4)<|sv (ba (⟨g.Caller,g.Callee,r4⟩:ac) [])<|sv (e7.mk' (v:=kC) iS ([(⟨g.Caller,g.Callee,r4⟩:ac)]:List ac) 1 (by kernel_rfl))<|sv (e7.ap bl5)<|en (aI (rP (.tuple []))<|aI trivial<|aI (rL [.cells [.mapr 1] [],.map (cz PVal.bool (sY k1 r1 true)),.cells [sl ae l5] [(0,24)]])<|(aI (aI (j9 (i:=1) (n:=3) rfl) trivial) (aI (yR (n:=3) PVal.bool (fun x=>trivial) (sY k1 r1 true)) (aI (aI (up (n:=3) (aK af l5)) trivial) trivial))))
  exact C.evGp (A:=BH) mixed (m:=3) (c:=BS) rfl call36 func36 rfl z<|by kernel_rfl
 ·obtain rfl:=lf h
  have z:=p3<|sg 0 c2<|en (aI (rP (.tuple []))<|aI trivial<|aI (rL [.cells [.mapr 1] [],.map (cz PVal.bool k1),.cells [sl ae k2] [(0,24)]])<|(aI (aI (j9 (i:=1) (n:=3) rfl) trivial) (aI (yR (n:=3) PVal.bool (fun x=>trivial) k1) (aI (aI (up (n:=3) (aK af k2)) trivial) trivial))))
  exact C.evGp (A:=BH) mixed (m:=3) (c:=BS) rfl call36 func36 rfl z<|by kernel_rfl
noncomputable def Bn:Code:=f55.body.getD .skip
def A1:List Nat:=[]
section
variable(t7:waA)(t8:Int)(t9:Int)(m2:fM)
def bp:aj:=cE 29 [(2,.bptr 1 0),(3,.bptr 2 0),(7,sl al t7),(8,.int .i64 t8),(9,.int .i64 t9)] [.dead,.cells (bm (nc 0)) [],.cells (bm m2) []] []
def eu(o:fM):aj:=cE 29 [(2,.bptr 1 0),(3,.bptr 2 0)] [.dead,.cells (bm (nc 0)) [],.cells (bm o) []] []
def er:Option ((Int×fM)⊕(fM)):=
 if(decide (t9<t8))=true then
  (g9 t7 t9).bind fun x2=>
  (lF 6 x2.From).bind fun i3=>
  (lF 6 x2.To).bind fun i4=>
  if x2.Strict=true then
   (lF 6 x2.From).bind fun i7=>
   (lF 6 x2.To).bind fun i8=>
   some (.inl (eW (t9+1),eQ (eQ m2 (0+i3 * 6+i4 * 1) 1) (0+i7 * 6+i8 * 1) 2))
  else
   some (.inl (eW (t9+1),eQ m2 (0+i3 * 6+i4 * 1) 1))
 else
  some (.inr m2)
def eY:Option fM:=loop (fun(zz:Int×fM)=>er t7 t8 zz.1 zz.2) (t9,m2)
theorem kw{y:(Int×fM)⊕(fM)}(h:er t7 t8 t9 m2=some y):aL Pg GE 0 (cA Bn 119) (LQ (fun(zz:Int×fM)=>bp t7 t8 zz.1 zz.2) (fun _=>.exit 0) eu y) (bp t7 t8 t9 m2):=by
 rcases bB h with⟨c1,h⟩|⟨c1,h⟩
 ·obtain⟨x2,bx2,h⟩:=aF h
  obtain⟨i3,bi3,h⟩:=aF h
  obtain⟨i4,bi4,h⟩:=aF h
  have p6:=fun{sc F} (r:PS sc F)=>sg 0 c1<|sv (fK.ia (k:=.i64) bx2)<|sv (iv x2)<|sx yq<|sx (l7 x2)<|AY (.dx [0,1,0,4,3,31,63] [] [] [2])<|ss<|ss<|sv (wD (b:=2) (off:=0) (k:=.i64) bi3)<|sv (wC (b:=2) (off:=0+i3 * 6) (k:=.i64) bi4)<|BF (Av (x:=m2) (v:=1) (zk bi3 bi4))<|ss<|r
  rcases bB h with⟨c5,h⟩|⟨c5,h⟩
  ·obtain⟨i7,bi7,h⟩:=aF h
   obtain⟨i8,bi8,h⟩:=aF h
   obtain rfl:=lf h
   have z:=p6<|sg 0 c5<|AY (.dx [0,1,0,4,3,31,63] [] [] [2])<|ss<|ss<|sv (wD (b:=2) (off:=0) (k:=.i64) bi7)<|sv (wC (b:=2) (off:=0+i7 * 6) (k:=.i64) bi8)<|BF (Av (x:=eQ m2 (0+i3 * 6+i4 * 1) 1) (v:=2) (zk bi7 bi8))<|sN 0 .normal (bp t7 t8 (eW (t9+1)) (eQ (eQ m2 (0+i3 * 6+i4 * 1) 1) (0+i7 * 6+i8 * 1) 2)) rfl (fu (aI (j9 rfl) (aI (j9 rfl) (aI (up (aK aJ t7)) (aI trivial (aI trivial trivial)))))) (aI trivial (aI (kJ (nI (nc 0))) (aI (kJ (nI (eQ (eQ m2 (0+i3 * 6+i4 * 1) 1) (0+i7 * 6+i8 * 1) 2))) trivial)))
   exact iQ (A:=A1) mixed z<|by kernel_rfl
  ·obtain rfl:=lf h
   have z:=p6<|sg 0 c5<|sN 0 .normal (bp t7 t8 (eW (t9+1)) (eQ m2 (0+i3 * 6+i4 * 1) 1)) rfl (fu (aI (j9 rfl) (aI (j9 rfl) (aI (up (aK aJ t7)) (aI trivial (aI trivial trivial)))))) (aI trivial (aI (kJ (nI (nc 0))) (aI (kJ (nI (eQ m2 (0+i3 * 6+i4 * 1) 1))) trivial)))
   exact iQ (A:=A1) mixed z<|by kernel_rfl
 ·obtain rfl:=lf h
  have z:=sg 0 c1<|eF (.exit 0) (eu m2)
  exact mY A1 (by intro hx;cases hx) z<|by kernel_rfl
theorem lh{x:fM}(h:eY t7 t8 t9 m2=some x):aL Pg GE 0 (.loop (cA Bn 119)) (EX (.exit 0) (eu x)) (bp t7 t8 t9 m2):=
 aL.loop (S:=fun(zz:Int×fM)=>bp t7 t8 zz.1 zz.2) (ex:=(fun _=>.exit 0)) (s:=(t9,m2)) h fun zz y hy=>kw t7 t8 zz.1 zz.2 hy
end
def dV(g:ac):Option fM:=
 (eY g.Arcs (g.Arcs.length:Int) 0 (nc 0)).bind fun o9=>
 some o9
theorem ik{g:ac}{r:fM}(h:dV g=some r):CC Pg GE 55 [.agg (ae g)] (.agg (bm r)) []:=by
 obtain⟨o9,bo9,h⟩:=aF h
 obtain rfl:=lf h
 have z:=se (cw g)<|sx AU<|sx AU<|sv (bS g)<|sv (bT g)<|jy (fK.ln g.Arcs)<|ga (lh g.Arcs (g.Arcs.length:Int) 0 (nc 0) bo9)<|sv (y1 o9)<|sx (qK o9)<|en (aI (rP (.agg (bm o9)))<|(nI o9))
 exact cq A1 call55 func55 (c:=Bn) rfl (aI (af g) trivial) z<|by kernel_rfl
noncomputable def zh:Code:=f34.body.getD .skip
def xp:List Nat:=[23,26,29,60]
section
variable(v:Int)(to:Int)(best:Int)(m:Int)(m2:waA)(m3:fM)(m4:fM)(m5:am)(m6:am)(m7:waA)
def kv:aj:=cE 72 [(4,.bptr 2 0),(5,.bptr 3 0),(6,.bptr 4 0),(7,.bptr 5 0),(8,.int .i64 v),(9,.int .i64 to),(10,.int .i64 best),(11,.int .i64 m),(21,.int .i64 v),(24,.int .i64 to),(27,.int .i64 m)] [.dead,.dead,.cells [.str ([]:am),.str ([]:am),sl al m2] [(2,43)],.cells (bm m3) [],.cells (bm m4) [],.cells [.str m5,.str m6,sl al m7] [(2,43)]] []
def dQ(o:Bool):aj:=cE 72 [(4,.bptr 2 0),(5,.bptr 3 0),(6,.bptr 4 0),(7,.bptr 5 0),(8,.int .i64 v),(9,.int .i64 to),(10,.int .i64 best),(11,.int .i64 m),(21,.int .i64 v),(24,.int .i64 to),(27,.int .i64 m),(43,.bool o)] [.dead,.dead,.cells [.str ([]:am),.str ([]:am),sl al m2] [(2,43)],.cells (bm m3) [],.cells (bm m4) [],.cells [.str m5,.str m6,sl al m7] [(2,43)]] []
def cZ:Option Bool:=
 (lF 6 v).bind fun i6=>
 (lF 6 m).bind fun i7=>
 if(decide ((m3 (0+i6 * 6+i7 * 1))>0))=true then
  (lF 6 m).bind fun i10=>
  (lF 6 to).bind fun i11=>
  some (decide ((m4 (0+i10 * 6+i11 * 1))>0))
 else
  some false
theorem j1{x:Bool}(h:cZ v to m m3 m4=some x):aL Pg GE 0 (cA zh 4158643702) (EX .normal (dQ v to best m m2 m3 m4 m5 m6 m7 x)) (kv v to best m m2 m3 m4 m5 m6 m7):=by
 obtain⟨i6,bi6,h⟩:=aF h
 obtain⟨i7,bi7,h⟩:=aF h
 have p9:=fun{sc F} (r:PS sc F)=>sv (wD (b:=3) (off:=0) (k:=.i64) bi6)<|sv (wC (b:=3) (off:=0+i6 * 6) (k:=.i64) bi7)<|sv (yP (x:=m3) (zk bi6 bi7))<|r
 rcases bB h with⟨c8,h⟩|⟨c8,h⟩
 ·obtain⟨i10,bi10,h⟩:=aF h
  obtain⟨i11,bi11,h⟩:=aF h
  obtain rfl:=lf h
  exact iT xp (p9<|sg 7 c8<|sv (wD (b:=4) (off:=0) (k:=.i64) bi10)<|sv (wC (b:=4) (off:=0+i10 * 6) (k:=.i64) bi11)<|sv (yP (x:=m4) (zk bi10 bi11))<|eF .normal (dQ v to best m m2 m3 m4 m5 m6 m7 (decide ((m4 (0+i10 * 6+i11 * 1))>0))))<|by kernel_rfl
 ·obtain rfl:=lf h
  exact iT xp (p9<|sg 7 c8<|eF .normal (dQ v to best m m2 m3 m4 m5 m6 m7 false))<|by kernel_rfl
end
section
variable(v:Int)(to:Int)(m:waA)(m3:fM)(m4:fM)(m2:am)(m5:am)(m6:waA)(best:Int)(t27:Int)
def a7:aj:=cE 72 [(4,.bptr 2 0),(5,.bptr 3 0),(6,.bptr 4 0),(7,.bptr 5 0),(8,.int .i64 v),(9,.int .i64 to),(10,.int .i64 best),(21,.int .i64 v),(24,.int .i64 to),(27,.int .i64 t27)] [.dead,.dead,.cells [.str ([]:am),.str ([]:am),sl al m] [(2,43)],.cells (bm m3) [],.cells (bm m4) [],.cells [.str m2,.str m5,sl al m6] [(2,43)]] []
def dT(o:Int):aj:=cE 72 [(4,.bptr 2 0),(5,.bptr 3 0),(6,.bptr 4 0),(7,.bptr 5 0),(8,.int .i64 v),(9,.int .i64 to),(10,.int .i64 o),(21,.int .i64 v),(24,.int .i64 to)] [.dead,.dead,.cells [.str ([]:am),.str ([]:am),sl al m] [(2,43)],.cells (bm m3) [],.cells (bm m4) [],.cells [.str m2,.str m5,sl al m6] [(2,43)]] []
def cx:Option ((Int×Int)⊕(Int)):=
 if(decide (t27<6))=true then
  (cZ v to t27 m3 m4).bind fun o12=>
  if o12=true then
   (lF 6 v).bind fun i15=>
   (lF 6 t27).bind fun i16=>
   (lF 6 t27).bind fun i17=>
   (lF 6 to).bind fun i18=>
   some (.inl ((if(m4 (0+i17 * 6+i18 * 1))>(if(m3 (0+i15 * 6+i16 * 1))>best then m3 (0+i15 * 6+i16 * 1)else best)then m4 (0+i17 * 6+i18 * 1)else(if(m3 (0+i15 * 6+i16 * 1))>best then m3 (0+i15 * 6+i16 * 1)else best)),eW (t27+1)))
  else
   some (.inl (best,eW (t27+1)))
 else
  some (.inr best)
def da:Option Int:=loop (fun(zz:Int×Int)=>cx v to m3 m4 zz.1 zz.2) (best,t27)
theorem jw{y:(Int×Int)⊕(Int)}(h:cx v to m3 m4 best t27=some y):aL Pg GE 0 (cA zh 64978807) (LQ (fun(zz:Int×Int)=>a7 v to m m3 m4 m2 m5 m6 zz.1 zz.2) (fun _=>.exit 4) (dT v to m m3 m4 m2 m5 m6) y) (a7 v to m m3 m4 m2 m5 m6 best t27):=by
 rcases bB h with⟨c5,h⟩|⟨c5,h⟩
 ·obtain⟨o12,bo12,h⟩:=aF h
  have p14:=fun{sc F} (r:PS sc F)=>sg 0 c5<|sw 2<|ga (j1 v to best t27 m m3 m4 m2 m5 m6 bo12)<|r
  rcases bB h with⟨c13,h⟩|⟨c13,h⟩
  ·obtain⟨i15,bi15,h⟩:=aF h
   obtain⟨i16,bi16,h⟩:=aF h
   obtain⟨i17,bi17,h⟩:=aF h
   obtain⟨i18,bi18,h⟩:=aF h
   obtain rfl:=lf h
   exact uM xp (p14<|sg 0 c13<|wA [0,0,0,2,14,30,0,0,64,448,960,2047,4095]<|sv (wD (b:=3) (off:=0) (k:=.i64) bi15)<|sv (wC (b:=3) (off:=0+i15 * 6) (k:=.i64) bi16)<|sv (yP (x:=m3) (zk bi15 bi16))<|sv (wD (b:=4) (off:=0) (k:=.i64) bi17)<|sv (wC (b:=4) (off:=0+i17 * 6) (k:=.i64) bi18)<|sv (yP (x:=m4) (zk bi17 bi18))<|eF .normal (a7 v to m m3 m4 m2 m5 m6 (if(m4 (0+i17 * 6+i18 * 1))>(if(m3 (0+i15 * 6+i16 * 1))>best then m3 (0+i15 * 6+i16 * 1)else best)then m4 (0+i17 * 6+i18 * 1)else(if(m3 (0+i15 * 6+i16 * 1))>best then m3 (0+i15 * 6+i16 * 1)else best)) (eW (t27+1))))<|by kernel_rfl
  ·obtain rfl:=lf h
   exact uM xp (p14<|sg 0 c13<|eF .normal (a7 v to m m3 m4 m2 m5 m6 best (eW (t27+1))))<|by kernel_rfl
 ·obtain rfl:=lf h
  have z:=sg 0 c5<|eF (.exit 4) (dT v to m m3 m4 m2 m5 m6 best)
  exact mY xp (by intro hx;cases hx) z<|by kernel_rfl
theorem j4{x:Int}(h:da v to m3 m4 best t27=some x):aL Pg GE 0 (.loop (cA zh 64978807)) (EX (.exit 4) (dT v to m m3 m4 m2 m5 m6 x)) (a7 v to m m3 m4 m2 m5 m6 best t27):=
 aL.loop (S:=fun(zz:Int×Int)=>a7 v to m m3 m4 m2 m5 m6 zz.1 zz.2) (ex:=(fun _=>.exit 4)) (s:=(best,t27)) h fun zz y hy=>jw v to m m3 m4 m2 m5 m6 zz.1 zz.2 hy
end
section
variable(v:Int)(m:waA)(m3:fM)(m4:fM)(m2:am)(m5:am)(t24:Int)(m6:waA)
def aZ:aj:=cE 72 [(4,.bptr 2 0),(5,.bptr 3 0),(6,.bptr 4 0),(7,.bptr 5 0),(8,.int .i64 v),(21,.int .i64 v),(24,.int .i64 t24)] [.dead,.dead,.cells [.str ([]:am),.str ([]:am),sl al m] [(2,43)],.cells (bm m3) [],.cells (bm m4) [],.cells [.str m2,.str m5,sl al m6] [(2,43)]] []
def dS(o:waA):aj:=cE 72 [(4,.bptr 2 0),(5,.bptr 3 0),(6,.bptr 4 0),(7,.bptr 5 0),(21,.int .i64 v)] [.dead,.dead,.cells [.str ([]:am),.str ([]:am),sl al m] [(2,43)],.cells (bm m3) [],.cells (bm m4) [],.cells [.str m2,.str m5,sl al o] [(2,43)]] []
def bO:Option ((Int×waA)⊕(waA)):=
 if(decide (t24<6))=true then
  (da v t24 m3 m4 0 0).bind fun o19=>
  if(decide (o19>0))=true then
   (app m6 ([(⟨v,t24,o19==2⟩:ak)]:List ak)).bind fun l22=>
   some (.inl (eW (t24+1),l22))
  else
   some (.inl (eW (t24+1),m6))
 else
  some (.inr m6)
def gp:Option waA:=loop (fun(zz:Int×waA)=>bO v m3 m4 zz.1 zz.2) (t24,m6)
theorem jv{y:(Int×waA)⊕(waA)}(h:bO v m3 m4 t24 m6=some y):aL Pg GE 0 (cA zh 63455) (LQ (fun(zz:Int×waA)=>aZ v m m3 m4 m2 m5 zz.1 zz.2) (fun _=>.exit 2) (dS v m m3 m4 m2 m5) y) (aZ v m m3 m4 m2 m5 t24 m6):=by
 rcases bB h with⟨c4,h⟩|⟨c4,h⟩
 ·obtain⟨o19,bo19,h⟩:=aF h
  have p21:=fun{sc F} (r:PS sc F)=>sg 0 c4<|ga (j4 v t24 m m3 m4 m2 m5 m6 0 0 bo19)<|r
  rcases bB h with⟨c20,h⟩|⟨c20,h⟩
  ·obtain⟨l22,bl22,h⟩:=aF h
   obtain rfl:=lf h
   exact uM xp (p21<|sg 0 c20<|sv (mM v t24 (o19==2))<|sv (fK.mk' (v:=vO) uk ([(⟨v,t24,o19==2⟩:ak)]:List ak) 1 (by kernel_rfl))<|sv (fK.ap bl22)<|eF .normal (aZ v m m3 m4 m2 m5 (eW (t24+1)) l22))<|by kernel_rfl
  ·obtain rfl:=lf h
   exact uM xp (p21<|sg 0 c20<|eF .normal (aZ v m m3 m4 m2 m5 (eW (t24+1)) m6))<|by kernel_rfl
 ·obtain rfl:=lf h
  have z:=sg 0 c4<|eF (.exit 2) (dS v m m3 m4 m2 m5 m6)
  exact mY xp (by intro hx;cases hx) z<|by kernel_rfl
theorem j3{x:waA}(h:gp v m3 m4 t24 m6=some x):aL Pg GE 0 (.loop (cA zh 63455)) (EX (.exit 2) (dS v m m3 m4 m2 m5 x)) (aZ v m m3 m4 m2 m5 t24 m6):=
 aL.loop (S:=fun(zz:Int×waA)=>aZ v m m3 m4 m2 m5 zz.1 zz.2) (ex:=(fun _=>.exit 2)) (s:=(t24,m6)) h fun zz y hy=>jv v m m3 m4 m2 m5 zz.1 zz.2 hy
end
section
variable(m:waA)(m3:fM)(m4:fM)(m2:am)(m5:am)(t21:Int)(m6:waA)
def bM:aj:=cE 72 [(4,.bptr 2 0),(5,.bptr 3 0),(6,.bptr 4 0),(7,.bptr 5 0),(21,.int .i64 t21)] [.dead,.dead,.cells [.str ([]:am),.str ([]:am),sl al m] [(2,43)],.cells (bm m3) [],.cells (bm m4) [],.cells [.str m2,.str m5,sl al m6] [(2,43)]] []
def dR(o:waA):aj:=cE 72 [(4,.bptr 2 0),(7,.bptr 5 0)] [.dead,.dead,.cells [.str ([]:am),.str ([]:am),sl al m] [(2,43)],.cells (bm m3) [],.cells (bm m4) [],.cells [.str m2,.str m5,sl al o] [(2,43)]] []
def bN:Option ((Int×waA)⊕(waA)):=
 if(decide (t21<6))=true then
  (gp t21 m3 m4 0 m6).bind fun o23=>
  some (.inl (eW (t21+1),o23))
 else
  some (.inr m6)
def ep:Option waA:=loop (fun(zz:Int×waA)=>bN m3 m4 zz.1 zz.2) (t21,m6)
theorem jt{y:(Int×waA)⊕(waA)}(h:bN m3 m4 t21 m6=some y):aL Pg GE 0 (cA zh 247) (LQ (fun(zz:Int×waA)=>bM m m3 m4 m2 m5 zz.1 zz.2) (fun _=>.exit 0) (dR m m3 m4 m2 m5) y) (bM m m3 m4 m2 m5 t21 m6):=by
 rcases bB h with⟨c3,h⟩|⟨c3,h⟩
 ·obtain⟨o23,bo23,h⟩:=aF h
  obtain rfl:=lf h
  exact uM xp (sg 0 c3<|ga (j3 t21 m m3 m4 m2 m5 0 m6 bo23)<|eF .normal (bM m m3 m4 m2 m5 (eW (t21+1)) o23))<|by kernel_rfl
 ·obtain rfl:=lf h
  have z:=sg 0 c3<|eF (.exit 0) (dR m m3 m4 m2 m5 m6)
  exact mY xp (by intro hx;cases hx) z<|by kernel_rfl
theorem j2{x:waA}(h:ep m3 m4 t21 m6=some x):aL Pg GE 0 (.loop (cA zh 247)) (EX (.exit 0) (dR m m3 m4 m2 m5 x)) (bM m m3 m4 m2 m5 t21 m6):=
 aL.loop (S:=fun(zz:Int×waA)=>bM m m3 m4 m2 m5 zz.1 zz.2) (ex:=(fun _=>.exit 0)) (s:=(t21,m6)) h fun zz y hy=>jt m m3 m4 m2 m5 zz.1 zz.2 hy
end
def bC(a:ac)(a2:ac):Option ac:=
 (dV a).bind fun r1=>
 (dV a2).bind fun r2=>
 (ep r1 r2 0 ([]:List ak)).bind fun o24=>
 some (⟨a.Caller,a2.Callee,o24⟩:ac)
theorem db{a:ac}{a2:ac}{r:ac}(h:bC a a2=some r):CC Pg GE 34 [.agg (ae a),.agg (ae a2)] (.agg (ae r)) [(2,43)]:=by
 obtain⟨r1,br1,h⟩:=aF h
 obtain⟨r2,br2,h⟩:=aF h
 obtain⟨o24,bo24,h⟩:=aF h
 obtain rfl:=lf h
 have z:=se (cw a)<|se (cw a2)<|sx ou<|wA [0,1,0,7,0,0,63,127]<|sv (aN a)<|dj (ik br1)<|sv (aN a2)<|dj (ik br2)<|sx (qK r1)<|sx (qK r2)<|sv (bu a)<|sv (bQ a)<|sv (bv a2)<|sv (bR a2)<|sb (mN a.Caller a2.Callee) (mK a.Caller a2.Callee)<|sx ou<|sy (ch (⟨a.Caller,a2.Callee,([]:List ak)⟩:ac))<|ga (j2 ([]:List ak) r1 r2 a.Caller a2.Callee 0 ([]:List ak) bo24)<|sz (ba (⟨a.Caller,a2.Callee,o24⟩:ac) [])<|sy (ch (⟨a.Caller,a2.Callee,o24⟩:ac))<|en (aI (gy (⟨a.Caller,a2.Callee,o24⟩:ac))<|aI (af (⟨a.Caller,a2.Callee,o24⟩:ac))<|rT)
 exact cq xp call34 func34 (c:=zh) rfl (aI (af a) (aI (af a2) trivial)) z<|by kernel_rfl
noncomputable def Cf:Code:=f85.body.getD .skip
def Cb:List Nat:=[]
def oJ(a:am):Option Bool:=
 some (!(a==a))
theorem nK{a:am}{r:Bool}(h:oJ a=some r):CC Pg GE 85 [.str a] (.bool r) []:=by
 obtain rfl:=lf h
 have z:=en (aI (rP (.bool (!(a==a))))<|trivial)
 exact cq Cb call85 func85 (c:=Cf) rfl (aI trivial trivial) z<|by kernel_rfl
noncomputable def Af:Code:=f59.body.getD .skip
def Ab:List Nat:=[]
def lO(a:am)(a2:am):Option Int:=
 (oJ a).bind fun r1=>
 (oJ a2).bind fun r2=>
 if r1=true then
  if r2=true then
   some 0
  else
   some (-1)
 else
  if r2=true then
   some 1
  else
   if(Op.bytesLess a a2)=true then
    some (-1)
   else
    if(!(Op.bytesLess a a2||a==a2))=true then
     some 1
    else
     some 0
theorem lP{a:am}{a2:am}{r:Int}(h:lO a a2=some r):CC Pg GE 59 [.str a,.str a2] (.int .i64 r) []:=by
 obtain⟨r1,br1,h⟩:=aF h
 obtain⟨r2,br2,h⟩:=aF h
 have p4:=fun{sc F} (r:PS sc F)=>dj (nK br1)<|dj (nK br2)<|r
 rcases bB h with⟨c3,h⟩|⟨c3,h⟩
 ·have p6:=fun{sc F} (r:PS sc F)=>p4<|sg 0 c3<|r
  rcases bB h with⟨c5,h⟩|⟨c5,h⟩
  ·obtain rfl:=lf h
   have z:=p6<|sg 0 c5<|en (aI (rP (.int .i64 0))<|trivial)
   exact cq Ab call59 func59 (c:=Af) rfl (aI trivial (aI trivial trivial)) z<|by kernel_rfl
  ·obtain rfl:=lf h
   have z:=p6<|sg 0 c5<|en (aI (rP (.int .i64 (-1)))<|trivial)
   exact cq Ab call59 func59 (c:=Af) rfl (aI trivial (aI trivial trivial)) z<|by kernel_rfl
 ·have p8:=fun{sc F} (r:PS sc F)=>p4<|sg 0 c3<|r
  rcases bB h with⟨c7,h⟩|⟨c7,h⟩
  ·obtain rfl:=lf h
   have z:=p8<|sg 0 c7<|en (aI (rP (.int .i64 1))<|trivial)
   exact cq Ab call59 func59 (c:=Af) rfl (aI trivial (aI trivial trivial)) z<|by kernel_rfl
  ·have p10:=fun{sc F} (r:PS sc F)=>p8<|sg 0 c7<|r
   rcases bB h with⟨c9,h⟩|⟨c9,h⟩
   ·obtain rfl:=lf h
    have z:=p10<|sg 0 c9<|en (aI (rP (.int .i64 (-1)))<|trivial)
    exact cq Ab call59 func59 (c:=Af) rfl (aI trivial (aI trivial trivial)) z<|by kernel_rfl
   ·have p12:=fun{sc F} (r:PS sc F)=>p10<|sg 0 c9<|r
    rcases bB h with⟨c11,h⟩|⟨c11,h⟩
    ·obtain rfl:=lf h
     have z:=p12<|sg 0 c11<|en (aI (rP (.int .i64 1))<|trivial)
     exact cq Ab call59 func59 (c:=Af) rfl (aI trivial (aI trivial trivial)) z<|by kernel_rfl
    ·obtain rfl:=lf h
     have z:=p12<|sg 0 c11<|en (aI (rP (.int .i64 0))<|trivial)
     exact cq Ab call59 func59 (c:=Af) rfl (aI trivial (aI trivial trivial)) z<|by kernel_rfl
noncomputable def A4:Code:=f58.body.getD .skip
def Aj:List Nat:=[15,17]
section
variable(t6:(List Int))(t7:Int)(t8:Int)
def gS:aj:=cE 18 [(3,.int .i64 0),(6,sl (cI .i64) t6),(7,.int .i64 t7),(8,.int .i64 t8)] [] []
def gT(o:Int⊕(Unit)):Exit:=match o with
 |(.inl _)=>.ret
 |(.inr _)=>.exit 0
def fw(o:Int⊕(Unit)):aj:=match o with
 |(.inl o)=>cE 18 [(2,.int .i64 o)] [] []
 |(.inr o)=>cE 18 [(3,.int .i64 0)] [] []
def pw:Option (Int⊕(Int⊕(Unit))):=
 if(decide (t8<t7))=true then
  (g9 t6 t8).bind fun x2=>
  if(x2 !=0)=true then
   some (.inr (.inl x2))
  else
   some (.inl (eW (t8+1)))
 else
  some (.inr (.inr ()))
def rQ:Option (Int⊕(Unit)):=loop (fun(zz:Int)=>pw t6 t7 zz) t8
theorem rl{y:Int⊕(Int⊕(Unit))}(h:pw t6 t7 t8=some y):aL Pg GE 0 (cA A4 119) (LQ (fun(zz:Int)=>gS t6 t7 zz) gT fw y) (gS t6 t7 t8):=by
 rcases bB h with⟨c1,h⟩|⟨c1,h⟩
 ·obtain⟨x2,bx2,h⟩:=aF h
  have p4:=fun{sc F} (r:PS sc F)=>sg 0 c1<|sv (uB.ia (k:=.i64) bx2)<|sv (te Cj (.int .i64 x2) [])<|r
  rcases bB h with⟨c3,h⟩|⟨c3,h⟩
  ·obtain rfl:=lf h
   have z:=p4<|sg 0 c3<|eF (gT (.inl x2)) (fw (.inl x2))
   exact mY Aj (by intro hx;cases hx) z<|by kernel_rfl
  ·obtain rfl:=lf h
   exact uM Aj (p4<|sg 0 c3<|eF .normal (gS t6 t7 (eW (t8+1))))<|by kernel_rfl
 ·obtain rfl:=lf h
  have z:=sg 0 c1<|eF (gT (.inr ())) (fw (.inr ()))
  exact mY Aj (by intro hx;cases hx) z<|by kernel_rfl
theorem nJ{x:Int⊕(Unit)}(h:rQ t6 t7 t8=some x):aL Pg GE 0 (.loop (cA A4 119)) (EX (gT x) (fw x)) (gS t6 t7 t8):=
 aL.loop (S:=fun(zz:Int)=>gS t6 t7 zz) (ex:=gT) (s:=t8) h fun zz y hy=>rl t6 t7 zz hy
end
def uW(vals:(List Int)):Option Int:=
 (rQ vals (vals.length:Int) 0).bind fun o5=>match o5 with
 |(.inl o5)=>
  some o5
 |(.inr o5)=>
  some 0
theorem rR{vals:(List Int)}{r:Int}(h:uW vals=some r):CC Pg GE 58 [sl (cI .i64) vals] (.int .i64 r) []:=by
 obtain⟨o5,bo5,h⟩:=aF h
 rcases o5 with o5|o5
 ·obtain rfl:=lf h
  have z:=jy (uB.ln vals)<|ga (e:=.ret) (s1:=fw (.inl o5)) (nJ vals (vals.length:Int) 0 bo5)<|en (aI (rP (.int .i64 o5))<|trivial)
  exact cq Aj call58 func58 (c:=A4) rfl (aI (aK (Bo .i64) vals) trivial) z<|by kernel_rfl
 ·obtain rfl:=lf h
  have z:=jy (uB.ln vals)<|ga (e:=.exit 0) (s1:=fw (.inr o5)) (nJ vals (vals.length:Int) 0 bo5)<|en (aI (rP (.int .i64 0))<|trivial)
  exact cq Aj call58 func58 (c:=A4) rfl (aI (aK (Bo .i64) vals) trivial) z<|by kernel_rfl
noncomputable def Cg:Code:=f86.body.getD .skip
def Cc:List Nat:=[]
def lQ(a:Int):Option Bool:=
 some (a !=a)
theorem lR{a:Int}{r:Bool}(h:lQ a=some r):CC Pg GE 86 [.int .i64 a] (.bool r) []:=by
 obtain rfl:=lf h
 have z:=en (aI (rP (.bool (a !=a)))<|trivial)
 exact cq Cc call86 func86 (c:=Cg) rfl (aI trivial trivial) z<|by kernel_rfl
noncomputable def Ag:Code:=f62.body.getD .skip
def Ac:List Nat:=[]
def gE(a:Int)(a2:Int):Option Int:=
 (lQ a).bind fun r1=>
 (lQ a2).bind fun r2=>
 if r1=true then
  if r2=true then
   some 0
  else
   some (-1)
 else
  if r2=true then
   some 1
  else
   if(decide (a<a2))=true then
    some (-1)
   else
    if(decide (a>a2))=true then
     some 1
    else
     some 0
theorem gv{a:Int}{a2:Int}{r:Int}(h:gE a a2=some r):CC Pg GE 62 [.int .i64 a,.int .i64 a2] (.int .i64 r) []:=by
 obtain⟨r1,br1,h⟩:=aF h
 obtain⟨r2,br2,h⟩:=aF h
 have p4:=fun{sc F} (r:PS sc F)=>dj (lR br1)<|dj (lR br2)<|r
 rcases bB h with⟨c3,h⟩|⟨c3,h⟩
 ·have p6:=fun{sc F} (r:PS sc F)=>p4<|sg 0 c3<|r
  rcases bB h with⟨c5,h⟩|⟨c5,h⟩
  ·obtain rfl:=lf h
   have z:=p6<|sg 0 c5<|en (aI (rP (.int .i64 0))<|trivial)
   exact cq Ac call62 func62 (c:=Ag) rfl (aI trivial (aI trivial trivial)) z<|by kernel_rfl
  ·obtain rfl:=lf h
   have z:=p6<|sg 0 c5<|en (aI (rP (.int .i64 (-1)))<|trivial)
   exact cq Ac call62 func62 (c:=Ag) rfl (aI trivial (aI trivial trivial)) z<|by kernel_rfl
 ·have p8:=fun{sc F} (r:PS sc F)=>p4<|sg 0 c3<|r
  rcases bB h with⟨c7,h⟩|⟨c7,h⟩
  ·obtain rfl:=lf h
   have z:=p8<|sg 0 c7<|en (aI (rP (.int .i64 1))<|trivial)
   exact cq Ac call62 func62 (c:=Ag) rfl (aI trivial (aI trivial trivial)) z<|by kernel_rfl
  ·have p10:=fun{sc F} (r:PS sc F)=>p8<|sg 0 c7<|r
   rcases bB h with⟨c9,h⟩|⟨c9,h⟩
   ·obtain rfl:=lf h
    have z:=p10<|sg 0 c9<|en (aI (rP (.int .i64 (-1)))<|trivial)
    exact cq Ac call62 func62 (c:=Ag) rfl (aI trivial (aI trivial trivial)) z<|by kernel_rfl
   ·have p12:=fun{sc F} (r:PS sc F)=>p10<|sg 0 c9<|r
    rcases bB h with⟨c11,h⟩|⟨c11,h⟩
    ·obtain rfl:=lf h
     have z:=p12<|sg 0 c11<|en (aI (rP (.int .i64 1))<|trivial)
     exact cq Ac call62 func62 (c:=Ag) rfl (aI trivial (aI trivial trivial)) z<|by kernel_rfl
    ·obtain rfl:=lf h
     have z:=p12<|sg 0 c11<|en (aI (rP (.int .i64 0))<|trivial)
     exact cq Ac call62 func62 (c:=Ag) rfl (aI trivial (aI trivial trivial)) z<|by kernel_rfl
noncomputable def BW:Code:=f63.body.getD .skip
def BL:List Nat:=[]
def jc(a:Bool):Option Int:=
 if a=true then
  some 1
 else
  some 0
theorem jJ{a:Bool}{r:Int}(h:jc a=some r):CC Pg GE 63 [.bool a] (.int .i64 r) []:=by
 rcases bB h with⟨c1,h⟩|⟨c1,h⟩
 ·obtain rfl:=lf h
  have z:=sg 0 c1<|en (aI (rP (.int .i64 1))<|trivial)
  exact cq BL call63 func63 (c:=BW) rfl (aI trivial trivial) z<|by kernel_rfl
 ·obtain rfl:=lf h
  have z:=sg 0 c1<|en (aI (rP (.int .i64 0))<|trivial)
  exact cq BL call63 func63 (c:=BW) rfl (aI trivial trivial) z<|by kernel_rfl
noncomputable def Ce:Code:=f61.body.getD .skip
def Ca:List Nat:=[]
def jd(a:ak)(a2:ak):Option Int:=
 (gE a.From a2.From).bind fun r1=>
 (gE a.To a2.To).bind fun r2=>
 (jc a.Strict).bind fun r3=>
 (jc a2.Strict).bind fun r4=>
 (gE r3 r4).bind fun r5=>
 (uW ([r1,r2,r5]:List Int)).bind fun r6=>
 some r6
theorem lD{a:ak}{a2:ak}{r:Int}(h:jd a a2=some r):CC Pg GE 61 [.agg (al a),.agg (al a2)] (.int .i64 r) []:=by
 obtain⟨r1,br1,h⟩:=aF h
 obtain⟨r2,br2,h⟩:=aF h
 obtain⟨r3,br3,h⟩:=aF h
 obtain⟨r4,br4,h⟩:=aF h
 obtain⟨r5,br5,h⟩:=aF h
 obtain⟨r6,br6,h⟩:=aF h
 obtain rfl:=lf h
 have z:=se (ol a)<|se (ol a2)<|wA [0,1,0,4,15,0,32,0,128,511,0,1024,4095,0,8192,32767,65535,131071,262143,524287]<|sv (dX a)<|sv (eG a)<|sv (dX a2)<|sv (eG a2)<|dj (gv br1)<|sv (fS a)<|sv (gX a)<|sv (fS a2)<|sv (gX a2)<|dj (gv br2)<|sv (kM a)<|sv (lW a)<|dj (jJ br3)<|sv (kM a2)<|sv (lW a2)<|dj (jJ br4)<|dj (gv br5)<|sv (uB.mk' (v:=(PVal.int .i64)) (B8 .i64) ([r1,r2,r5]:List Int) 3 (by kernel_rfl))<|dj (rR br6)<|en (aI (rP (.int .i64 r6))<|trivial)
 exact cq Ca call61 func61 (c:=Ce) rfl (aI (aJ a) (aI (aJ a2) trivial)) z<|by kernel_rfl
noncomputable def AA:Code:=f60.body.getD .skip
def zt:List Nat:=[15,32]
section
variable(s1:waA)(s2:waA)(t12:Int)(t13:Int)
def bP:aj:=cE 39 [(0,sl al s1),(1,sl al s2),(2,.func (.func 61) [] []),(11,sl al s1),(12,.int .i64 t12),(13,.int .i64 t13)] [] []
def a8(o:Int⊕(Unit)):Exit:=match o with
 |(.inl _)=>.ret
 |(.inr _)=>.exit 0
def aR(o:Int⊕(Unit)):aj:=match o with
 |(.inl o)=>cE 39 [(6,.int .i64 o)] [] []
 |(.inr o)=>cE 39 [(0,sl al s1),(1,sl al s2)] [] []
def fI:Option (Int⊕(Int⊕(Unit))):=
 if (decide (t13 < t12)) = true then
  (g9 s1 t13).bind fun x2=>
  if(decide (t13>=(s2.length:Int)))=true then
   some (.inr (.inl 1))
  else
   (g9 s2 t13).bind fun x5=>
   (jd x2 x5).bind fun r6=>
   if(r6 !=0)=true then
    some (.inr (.inl r6))
   else
    some (.inl (eW (t13+1)))
 else
  some (.inr (.inr ()))
def gq:Option (Int⊕(Unit)):=loop (fun(zz:Int)=>fI s1 s2 t12 zz) t13
theorem jx{y:Int⊕(Int⊕(Unit))}(h:fI s1 s2 t12 t13=some y):aL Pg GE 0 (cA AA 55) (LQ (fun(zz:Int)=>bP s1 s2 t12 zz) a8 (aR s1 s2) y) (bP s1 s2 t12 t13):=by
 rcases bB h with⟨c1,h⟩|⟨c1,h⟩
 ·obtain⟨x2,bx2,h⟩:=aF h
  have p4:=fun{sc F} (r:PS sc F)=>sg 0 c1<|sv (fK.ia (k:=.i64) bx2)<|sv (iv x2)<|sx yq<|sx (l7 x2)<|jy (fK.ln s2)<|r
  rcases bB h with⟨c3,h⟩|⟨c3,h⟩
  ·obtain rfl:=lf h
   have z:=p4<|sg 0 c3<|sN 0 (a8 (.inl 1)) (aR s1 s2 (.inl 1)) rfl (fu (aI trivial trivial)) trivial
   exact lZ (A:=zt) mixed (by intro hx;cases hx) z<|by kernel_rfl
  ·obtain⟨x5,bx5,h⟩:=aF h
   obtain⟨r6,br6,h⟩:=aF h
   have p8:=fun{sc F} (r:PS sc F)=>p4<|sg 0 c3<|sv (fK.ia (k:=.i64) bx5)<|sv (iv x5)<|sx yq<|sx (l7 x5)<|sv (qC x2 [])<|sv (qC x5 [])<|dj (lD br6)<|r
   rcases bB h with⟨c7,h⟩|⟨c7,h⟩
   ·obtain rfl:=lf h
    have z:=p8<|sg 0 c7<|sN 0 (a8 (.inl r6)) (aR s1 s2 (.inl r6)) rfl (fu (aI trivial trivial)) trivial
    exact lZ (A:=zt) mixed (by intro hx;cases hx) z<|by kernel_rfl
   ·obtain rfl:=lf h
    have z:=p8<|sg 0 c7<|sN 0 .normal (bP s1 s2 t12 (eW (t13+1))) rfl (fu (aI (up (aK aJ s1)) (aI (up (aK aJ s2)) (aI (aI trivial trivial) (aI (up (aK aJ s1)) (aI trivial (aI trivial trivial))))))) trivial
    exact iQ (A:=zt) mixed z<|by kernel_rfl
 ·obtain rfl:=lf h
  have z:=sg 0 c1<|eF (a8 (.inr ())) (aR s1 s2 (.inr ()))
  exact mY zt (by intro hx;cases hx) z<|by kernel_rfl
theorem fc{x:Int⊕(Unit)}(h:gq s1 s2 t12 t13=some x):aL Pg GE 0 (.loop (cA AA 55)) (EX (a8 x) (aR s1 s2 x)) (bP s1 s2 t12 t13):=
 aL.loop (S:=fun(zz:Int)=>bP s1 s2 t12 zz) (ex:=a8) (s:=t13) h fun zz y hy=>jx s1 s2 t12 zz hy
end
def je(s1:waA)(s2:waA):Option Int:=
 (gq s1 s2 (s1.length:Int) 0).bind fun o9=>match o9 with
 |(.inl o9)=>
  some o9
 | (.inr o9) =>
  if(decide ((s1.length:Int)<(s2.length:Int)))=true then
   some (-1)
  else
   some 0
theorem lE{s1:waA}{s2:waA}{r:Int}(h:je s1 s2=some r):CC Pg GE 60 [sl al s1,sl al s2,.func (.func 61) [] []] (.int .i64 r) []:=by
 obtain⟨o9,bo9,h⟩:=aF h
 rcases o9 with o9|o9
 ·obtain rfl:=lf h
  have z:=jy (fK.ln s1)<|ga (e:=.ret) (s1:=aR s1 s2 (.inl o9)) (fc s1 s2 (s1.length:Int) 0 bo9)<|en (aI (rP (.int .i64 o9))<|trivial)
  exact cq zt call60 func60 (c:=AA) rfl (aI (aK aJ s1) (aI (aK aJ s2) (aI (aI trivial trivial) trivial))) z<|by kernel_rfl
 ·have p11:=fun{sc F} (r:PS sc F)=>jy (fK.ln s1)<|ga (e:=.exit 0) (s1:=aR s1 s2 (.inr o9)) (fc s1 s2 (s1.length:Int) 0 bo9)<|jy (fK.ln s1)<|jy (fK.ln s2)<|r
  rcases bB h with⟨c10,h⟩|⟨c10,h⟩
  ·obtain rfl:=lf h
   have z:=p11<|sg 0 c10<|en (aI (rP (.int .i64 (-1)))<|trivial)
   exact cq zt call60 func60 (c:=AA) rfl (aI (aK aJ s1) (aI (aK aJ s2) (aI (aI trivial trivial) trivial))) z<|by kernel_rfl
  ·obtain rfl:=lf h
   have z:=p11<|sg 0 c10<|en (aI (rP (.int .i64 0))<|trivial)
   exact cq zt call60 func60 (c:=AA) rfl (aI (aK aJ s1) (aI (aK aJ s2) (aI (aI trivial trivial) trivial))) z<|by kernel_rfl
noncomputable def BT:Code:=f39.body.getD .skip
def BI:List Nat:=[20]
def gz(a:ac)(a2:ac):Option Int:=
 (lO a.Caller a2.Caller).bind fun r1=>
 (lO a.Callee a2.Callee).bind fun r2=>
 (uW ([r1,r2]:List Int)).bind fun r3=>
 if(r3 !=0)=true then
  some r3
 else
  (je a.Arcs a2.Arcs).bind fun r6=>
  some r6
theorem mG{a:ac}{a2:ac}{r:Int}(h:gz a a2=some r):CC Pg GE 39 [.agg (ae a),.agg (ae a2)] (.int .i64 r) []:=by
 obtain⟨r1,br1,h⟩:=aF h
 obtain⟨r2,br2,h⟩:=aF h
 obtain⟨r3,br3,h⟩:=aF h
 have p5:=fun{sc F} (r:PS sc F)=>se (cw a)<|se (cw a2)<|wA [0,1,0,4,15,0,32,0,128,511,1023,2047,4095]<|sv (bu a)<|sv (bQ a)<|sv (bu a2)<|sv (bQ a2)<|dj (lP br1)<|sv (bv a)<|sv (bR a)<|sv (bv a2)<|sv (bR a2)<|dj (lP br2)<|sv (uB.mk' (v:=(PVal.int .i64)) (B8 .i64) ([r1,r2]:List Int) 2 (by kernel_rfl))<|dj (rR br3)<|r
 rcases bB h with⟨c4,h⟩|⟨c4,h⟩
 ·obtain rfl:=lf h
  have z:=p5<|sg 0 c4<|en (aI (rP (.int .i64 r3))<|trivial)
  exact cq BI call39 func39 (c:=BT) rfl (aI (af a) (aI (af a2) trivial)) z<|by kernel_rfl
 ·obtain⟨r6,br6,h⟩:=aF h
  obtain rfl:=lf h
  have z:=p5<|sg 0 c4<|sv (bS a)<|sv (bT a)<|sv (bS a2)<|sv (bT a2)<|dj (lE br6)<|en (aI (rP (.int .i64 r6))<|trivial)
  exact cq BI call39 func39 (c:=BT) rfl (aI (af a) (aI (af a2) trivial)) z<|by kernel_rfl
end Go.Proofs.YtoficachfgggjaaDoor
