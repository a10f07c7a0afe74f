/- PROVED: a part of the proof. Conditions: none. -/
import Derived.Test.YtkdahfeiedaahaaGreatDoorPkA18
noncomputable section
namespace Go.Proofs.YtkdahfeiedaahaaGreatDoor
open Go Go.Proofs.Tryz
set_option linter.unusedVariables false
set_option maxRecDepth 100000
noncomputable def SY:Code:=f192.body.getD .skip
def Fo:List Nat:=[38]
section
variable(s:ah)
def LZ:aB:=aZ 59 [(0,.str s)] [] []
def g8(o:Bool):aB:=aZ 59 [(0,.str s),(33,.bool o)] [] []
def sY:Option Bool:=
 if(decide ((s.length:Int)<1))=true then
  some true
 else
  if(decide ((s.length:Int)>24))=true then
   some true
  else
   (ms s 0).bind fun c4=>
   (l8 c4).bind fun r5=>
   if(!r5)=true then
    some true
   else
    if(s==([73,110,116]:ah))=true then
     some true
    else
     if(s==([66,111,111,108]:ah))=true then
      some true
     else
      if(s==([67,101,108,108]:ah))=true then
       some true
      else
       some (s==([70,117,110]:ah))
theorem KG{x:Bool}(h:sY s=some x):aU Pg GE 0 (cA SY 12) (EX .normal (g8 s x)) (LZ s):=by
 rcases aH h with⟨c1,h⟩|⟨c1,h⟩
 ·obtain rfl:=lf h
  exact aY Fo (bF (gU underlying9 s)<|sg 4 c1<|eF .normal (g8 s true))<|by kernel_rfl
 ·have p3:=fun{sc F} (r:PS sc F)=>bF (gU underlying9 s)<|sg 4 c1<|bF (gU underlying9 s)<|r
  rcases aH h with⟨c2,h⟩|⟨c2,h⟩
  ·obtain rfl:=lf h
   exact aY Fo (p3<|sg 9 c2<|eF .normal (g8 s true))<|by kernel_rfl
  ·obtain⟨c4,bc4,h⟩:=aG h
   obtain⟨r5,br5,h⟩:=aG h
   have p7:=fun{sc F} (r:PS sc F)=>p3<|sg 9 c2<|sv (jj (k:=.i64) underlying9 bc4)<|cm (yu br5)<|r
   rcases aH h with⟨c6,h⟩|⟨c6,h⟩
   ·obtain rfl:=lf h
    exact aY Fo (p7<|sg 15 c6<|eF .normal (g8 s true))<|by kernel_rfl
   ·have p9:=fun{sc F} (r:PS sc F)=>p7<|sg 15 c6<|r
    rcases aH h with⟨c8,h⟩|⟨c8,h⟩
    ·obtain rfl:=lf h
     exact aY Fo (p9<|sg 19 c8<|eF .normal (g8 s true))<|by kernel_rfl
    ·have p11:=fun{sc F} (r:PS sc F)=>p9<|sg 19 c8<|r
     rcases aH h with⟨c10,h⟩|⟨c10,h⟩
     ·obtain rfl:=lf h
      exact aY Fo (p11<|sg 23 c10<|eF .normal (g8 s true))<|by kernel_rfl
     ·have p13:=fun{sc F} (r:PS sc F)=>p11<|sg 23 c10<|r
      rcases aH h with⟨c12,h⟩|⟨c12,h⟩
      ·obtain rfl:=lf h
       exact aY Fo (p13<|sg 27 c12<|eF .normal (g8 s true))<|by kernel_rfl
      ·obtain rfl:=lf h
       exact aY Fo (p13<|sg 27 c12<|eF .normal (g8 s (s==([70,117,110]:ah))))<|by kernel_rfl
end
section
variable(s:ah)(i:Int)(t35:Int)
def L0:aB:=aZ 59 [(0,.str s),(3,.int .i64 i),(35,.int .i64 t35),(36,.int .i64 i)] [] []
def sZ(o:Bool):aB:=aZ 59 [(0,.str s),(35,.int .i64 t35),(36,.int .i64 i),(57,.bool o)] [] []
def mn:Option Bool:=
 (ms s i).bind fun c18=>
 (ls c18).bind fun r19=>
 if(!r19)=true then
  (ms s i).bind fun c22=>
  (l8 c22).bind fun r23=>
  if(!r23)=true then
   (ms s i).bind fun c26=>
   (pG c26).bind fun r27=>
   some (!r27)
  else
   some false
 else
  some false
theorem KI{x:Bool}(h:mn s i=some x):aU Pg GE 0 (cA SY 7670) (EX .normal (sZ s i t35 x)) (L0 s i t35):=by
 obtain⟨c18,bc18,h⟩:=aG h
 obtain⟨r19,br19,h⟩:=aG h
 have p21:=fun{sc F} (r:PS sc F)=>sv (jj (k:=.i64) underlying9 bc18)<|cm (pI br19)<|r
 rcases aH h with⟨c20,h⟩|⟨c20,h⟩
 ·obtain⟨c22,bc22,h⟩:=aG h
  obtain⟨r23,br23,h⟩:=aG h
  have p25:=fun{sc F} (r:PS sc F)=>p21<|sg 6 c20<|sv (jj (k:=.i64) underlying9 bc22)<|cm (yu br23)<|r
  rcases aH h with⟨c24,h⟩|⟨c24,h⟩
  ·obtain⟨c26,bc26,h⟩:=aG h
   obtain⟨r27,br27,h⟩:=aG h
   obtain rfl:=lf h
   exact aY Fo (p25<|sg 13 c24<|sv (jj (k:=.i64) underlying9 bc26)<|cm (xo br27)<|eF .normal (sZ s i t35 (!r27)))<|by kernel_rfl
  ·obtain rfl:=lf h
   exact aY Fo (p25<|sg 13 c24<|eF .normal (sZ s i t35 false))<|by kernel_rfl
 ·obtain rfl:=lf h
  exact aY Fo (p21<|sg 6 c20<|eF .normal (sZ s i t35 false))<|by kernel_rfl
end
section
variable(s:ah)(t35:Int)(t36:Int)
def oK:aB:=aZ 59 [(0,.str s),(35,.int .i64 t35),(36,.int .i64 t36)] [] []
def oM(o:Unit⊕(Unit)):Exit:=match o with
 |(.inl _)=>.ret
 |(.inr _)=>.exit 0
def lq(o:Unit⊕(Unit)):aB:=match o with
 |(.inl o)=>aZ 59 [(2,.int .i64 3)] [] []
 |(.inr o)=>aZ 59 [] [] []
def oL:Option (Int⊕(Unit⊕(Unit))):=
 if(decide (t36<t35))=true then
  (mn s t36).bind fun o28=>
  if o28=true then
   some (.inr (.inl ()))
  else
   some (.inl (bN (t36+1)))
 else
  some (.inr (.inr ()))
def s4:Option (Unit⊕(Unit)):=loop (fun(zz:Int)=>oL s t35 zz) t36
theorem IP{y:Int⊕(Unit⊕(Unit))}(h:oL s t35 t36=some y):aU Pg GE 0 (cA SY 119) (LQ (fun(zz:Int)=>oK s t35 zz) oM lq y) (oK s t35 t36):=by
 rcases aH h with⟨c17,h⟩|⟨c17,h⟩
 ·obtain⟨o28,bo28,h⟩:=aG h
  have p30:=fun{sc F} (r:PS sc F)=>sg 0 c17<|nN 2<|cK (KI s t36 t35 bo28)<|r
  rcases aH h with⟨c29,h⟩|⟨c29,h⟩
  ·obtain rfl:=lf h
   have z:=p30<|sg 0 c29<|eF (oM (.inl ())) (lq (.inl ()))
   exact gu Fo (by intro hx;cases hx) z<|by kernel_rfl
  ·obtain rfl:=lf h
   exact wv Fo (p30<|sg 0 c29<|eF .normal (oK s t35 (bN (t36+1))))<|by kernel_rfl
 ·obtain rfl:=lf h
  have z:=sg 0 c17<|eF (oM (.inr ())) (lq (.inr ()))
  exact gu Fo (by intro hx;cases hx) z<|by kernel_rfl
theorem CM{x:Unit⊕(Unit)}(h:s4 s t35 t36=some x):aU Pg GE 0 (.loop (cA SY 119)) (EX (oM x) (lq x)) (oK s t35 t36):=
 aU.loop (S:=fun(zz:Int)=>oK s t35 zz) (ex:=oM) (s:=t36) h fun zz y hy=>IP s t35 zz hy
end
def yh(s:ah):Option Int:=
 (sY s).bind fun o14=>
 if o14=true then
  some 3
 else
  (s4 s (s.length:Int) 0).bind fun o31=>match o31 with
  |(.inl o31)=>
   some 3
  |(.inr o31)=>
   some 0
theorem PW{s:ah}{r:Int}(h:yh s=some r):CC Pg GE 192 [.str s] (.int .i64 r) []:=by
 obtain⟨o14,bo14,h⟩:=aG h
 have p16:=fun{sc F} (r:PS sc F)=>nN 2<|cK (KG s bo14)<|r
 rcases aH h with⟨c15,h⟩|⟨c15,h⟩
 ·obtain rfl:=lf h
  have z:=p16<|sg 0 c15<|en (aI (rP (.int .i64 3))<|trivial)
  exact bI Fo call192 func192 (c:=SY) rfl (aI trivial trivial) z<|by kernel_rfl
 ·obtain⟨o31,bo31,h⟩:=aG h
  rcases o31 with o31|o31
  ·obtain rfl:=lf h
   have z:=p16<|sg 0 c15<|bF (gU underlying9 s)<|cK (e:=.ret) (s1:=lq (.inl o31)) (CM s (s.length:Int) 0 bo31)<|en (aI (rP (.int .i64 3))<|trivial)
   exact bI Fo call192 func192 (c:=SY) rfl (aI trivial trivial) z<|by kernel_rfl
  ·obtain rfl:=lf h
   have z:=p16<|sg 0 c15<|bF (gU underlying9 s)<|cK (e:=.exit 0) (s1:=lq (.inr o31)) (CM s (s.length:Int) 0 bo31)<|en (aI (rP (.int .i64 0))<|trivial)
   exact bI Fo call192 func192 (c:=SY) rfl (aI trivial trivial) z<|by kernel_rfl
noncomputable def SZ:Code:=f193.body.getD .skip
def Hh:List Nat:=[21]
section
variable(p:ah)
def NS:aB:=aZ 65 [(0,.str p)] [] []
def Aw(o:Bool):aB:=aZ 65 [(0,.str p),(13,.bool o)] [] []
def zH:Option Bool:=
 if(decide ((p.length:Int)<1))=true then
  some true
 else
  some (decide ((p.length:Int)>24))
theorem L3{x:Bool}(h:zH p=some x):aU Pg GE 0 (cA SZ 12) (EX .normal (Aw p x)) (NS p):=by
 rcases aH h with⟨c1,h⟩|⟨c1,h⟩
 ·obtain rfl:=lf h
  exact aY Hh (bF (gU underlying9 p)<|sg 4 c1<|eF .normal (Aw p true))<|by kernel_rfl
 ·obtain rfl:=lf h
  exact aY Hh (bF (gU underlying9 p)<|sg 4 c1<|bF (gU underlying9 p)<|eF .normal (Aw p (decide ((p.length:Int)>24))))<|by kernel_rfl
end
section
variable(p:ah)(plain:Bool)(word:Bool)(i:Int)(t18:Int)
def NT:aB:=aZ 65 [(0,.str p),(3,.bool plain),(4,.bool word),(5,.int .i64 i),(18,.int .i64 t18),(19,.int .i64 i)] [] []
def qD(o:Bool):aB:=aZ 65 [(0,.str p),(3,.bool o),(4,.bool word),(5,.int .i64 i),(18,.int .i64 t18),(19,.int .i64 i)] [] []
def sa:Option Bool:=
 if plain=true then
  (ms p i).bind fun c9=>
  (ls c9).bind fun r10=>
  if r10=true then
   some true
  else
   (ms p i).bind fun c13=>
   (l8 c13).bind fun r14=>
   if r14=true then
    some true
   else
    (ms p i).bind fun c17=>
    (pG c17).bind fun r18=>
    some r18
 else
  some false
theorem L5{x:Bool}(h:sa p plain i=some x):aU Pg GE 0 (cA SZ 32246) (EX .normal (qD p word i t18 x)) (NT p plain word i t18):=by
 rcases aH h with⟨c8,h⟩|⟨c8,h⟩
 ·obtain⟨c9,bc9,h⟩:=aG h
  obtain⟨r10,br10,h⟩:=aG h
  have p12:=fun{sc F} (r:PS sc F)=>sg 2 c8<|sv (jj (k:=.i64) underlying9 bc9)<|cm (pI br10)<|r
  rcases aH h with⟨c11,h⟩|⟨c11,h⟩
  ·obtain rfl:=lf h
   exact aY Hh (p12<|sg 7 c11<|eF .normal (qD p word i t18 true))<|by kernel_rfl
  ·obtain⟨c13,bc13,h⟩:=aG h
   obtain⟨r14,br14,h⟩:=aG h
   have p16:=fun{sc F} (r:PS sc F)=>p12<|sg 7 c11<|sv (jj (k:=.i64) underlying9 bc13)<|cm (yu br14)<|r
   rcases aH h with⟨c15,h⟩|⟨c15,h⟩
   ·obtain rfl:=lf h
    exact aY Hh (p16<|sg 13 c15<|eF .normal (qD p word i t18 true))<|by kernel_rfl
   ·obtain⟨c17,bc17,h⟩:=aG h
    obtain⟨r18,br18,h⟩:=aG h
    obtain rfl:=lf h
    exact aY Hh (p16<|sg 13 c15<|sv (jj (k:=.i64) underlying9 bc17)<|cm (xo br18)<|eF .normal (qD p word i t18 r18))<|by kernel_rfl
 ·obtain rfl:=lf h
  exact aY Hh (sg 2 c8<|eF .normal (qD p word i t18 false))<|by kernel_rfl
end
section
variable(p:ah)(t18:Int)(plain:Bool)(word:Bool)(t19:Int)
def jb:aB:=aZ 65 [(0,.str p),(3,.bool plain),(4,.bool word),(18,.int .i64 t18),(19,.int .i64 t19)] [] []
def Ax(o:Bool×Bool):aB:=aZ 65 [(3,.bool o.1),(4,.bool o.2)] [] []
def gV:Option ((Bool×Bool×Int)⊕((Bool×Bool))):=
 if (decide (t19 < t18)) = true then
  (sa p plain t19).bind fun o19=>
  if word=true then
   (ms p t19).bind fun c22=>
   (ls c22).bind fun r23=>
   if r23=true then
    some (.inl (o19,true,bN (t19+1)))
   else
    (ms p t19).bind fun c26=>
    (pG c26).bind fun r27=>
    if r27=true then
     some (.inl (o19,true,bN (t19+1)))
    else
     (ms p t19).bind fun c30=>
     some (.inl (o19,c30==95,bN (t19+1)))
  else
   some (.inl (o19,false,bN (t19+1)))
 else
  some (.inr (plain,word))
def vS:Option ((Bool×Bool)):=loop (fun(zz:Bool×Bool×Int)=>gV p t18 zz.1 zz.2.1 zz.2.2) (plain,word,t19)
theorem KM{y:(Bool×Bool×Int)⊕((Bool×Bool))}(h:gV p t18 plain word t19=some y):aU Pg GE 0 (cA SZ 503) (LQ (fun(zz:Bool×Bool×Int)=>jb p t18 zz.1 zz.2.1 zz.2.2) (fun _=>.exit 0) Ax y) (jb p t18 plain word t19):=by
 rcases aH h with⟨c7,h⟩|⟨c7,h⟩
 ·obtain⟨o19,bo19,h⟩:=aG h
  have p21:=fun{sc F} (r:PS sc F)=>sg 0 c7<|nN 2<|cK (L5 p plain word t19 t18 bo19)<|r
  rcases aH h with⟨c20,h⟩|⟨c20,h⟩
  ·obtain⟨c22,bc22,h⟩:=aG h
   obtain⟨r23,br23,h⟩:=aG h
   have p25:=fun{sc F} (r:PS sc F)=>p21<|sg 2 c20<|sv (jj (k:=.i64) underlying9 bc22)<|cm (pI br23)<|r
   rcases aH h with⟨c24,h⟩|⟨c24,h⟩
   ·obtain rfl:=lf h
    exact wv Hh (p25<|sg 7 c24<|eF .normal (jb p t18 o19 true (bN (t19+1))))<|by kernel_rfl
   ·obtain⟨c26,bc26,h⟩:=aG h
    obtain⟨r27,br27,h⟩:=aG h
    have p29:=fun{sc F} (r:PS sc F)=>p25<|sg 7 c24<|sv (jj (k:=.i64) underlying9 bc26)<|cm (xo br27)<|r
    rcases aH h with⟨c28,h⟩|⟨c28,h⟩
    ·obtain rfl:=lf h
     exact wv Hh (p29<|sg 13 c28<|eF .normal (jb p t18 o19 true (bN (t19+1))))<|by kernel_rfl
    ·obtain⟨c30,bc30,h⟩:=aG h
     obtain rfl:=lf h
     exact wv Hh (p29<|sg 13 c28<|sv (jj (k:=.i64) underlying9 bc30)<|eF .normal (jb p t18 o19 (c30==95) (bN (t19+1))))<|by kernel_rfl
  ·obtain rfl:=lf h
   exact wv Hh (p21<|sg 2 c20<|eF .normal (jb p t18 o19 false (bN (t19+1))))<|by kernel_rfl
 ·obtain rfl:=lf h
  have z:=sg 0 c7<|eF (.exit 0) (Ax (plain,word))
  exact gu Hh (by intro hx;cases hx) z<|by kernel_rfl
theorem L7{x:(Bool×Bool)}(h:vS p t18 plain word t19=some x):aU Pg GE 0 (.loop (cA SZ 503)) (EX (.exit 0) (Ax x)) (jb p t18 plain word t19):=
 aU.loop (S:=fun(zz:Bool×Bool×Int)=>jb p t18 zz.1 zz.2.1 zz.2.2) (ex:=(fun _=>.exit 0)) (s:=(plain,word,t19)) h fun zz y hy=>KM p t18 zz.1 zz.2.1 zz.2.2 hy
end
def A9(p:ah):Option Bool:=
 (zH p).bind fun o2=>
 if o2=true then
  some false
 else
  (ms p 0).bind fun c5=>
  (ls c5).bind fun r6=>
  (vS p (p.length:Int) true r6 0).bind fun o31=>
  if o31.1=true then
   some true
  else
   some o31.2
theorem Rk{p:ah}{r:Bool}(h:A9 p=some r):CC Pg GE 193 [.str p] (.bool r) []:=by
 obtain⟨o2,bo2,h⟩:=aG h
 have p4:=fun{sc F} (r:PS sc F)=>nN 2<|cK (L3 p bo2)<|r
 rcases aH h with⟨c3,h⟩|⟨c3,h⟩
 ·obtain rfl:=lf h
  have z:=p4<|sg 0 c3<|en (aI (rP (.bool false))<|trivial)
  exact bI Hh call193 func193 (c:=SZ) rfl (aI trivial trivial) z<|by kernel_rfl
 ·obtain⟨c5,bc5,h⟩:=aG h
  obtain⟨r6,br6,h⟩:=aG h
  obtain⟨o31,bo31,h⟩:=aG h
  have p33:=fun{sc F} (r:PS sc F)=>p4<|sg 0 c3<|sv (jj (k:=.i64) underlying9 bc5)<|cm (pI br6)<|bF (gU underlying9 p)<|cK (L7 p (p.length:Int) true r6 0 bo31)<|r
  rcases aH h with⟨c32,h⟩|⟨c32,h⟩
  ·obtain rfl:=lf h
   have z:=p33<|sg 2 c32<|en (aI (rP (.bool true))<|trivial)
   exact bI Hh call193 func193 (c:=SZ) rfl (aI trivial trivial) z<|by kernel_rfl
  ·obtain rfl:=lf h
   have z:=p33<|sg 2 c32<|en (aI (rP (.bool o31.2))<|trivial)
   exact bI Hh call193 func193 (c:=SZ) rfl (aI trivial trivial) z<|by kernel_rfl
noncomputable def SW:Code:=f167.body.getD .skip
def LO:List Nat:=[]
section
variable(v:waA)
def NR:aB:=aZ 45 [(3,sl cS v)] [] [((3,0),9)]
def qw(o:Bool):aB:=aZ 45 [(3,sl cS v),(33,.bool o)] [] [((3,0),9)]
def rX:Option Bool:=
 (fy v 0).bind fun x3=>
 (yg x3).bind fun r4=>
 if (r4 != 0) = true then
  (fy v 0).bind fun x7=>
  (yh x7).bind fun r8=>
  if(r8 !=0)=true then
   (fy v 0).bind fun x11=>
   if(!(x11==([118]:ah)))=true then
    some true
   else
    some ((v.length:Int)==1)
  else
   some false
 else
  some false
theorem LW{x:Bool}(h:rX v=some x):aU Pg GE 0 (cA SW 60) (EX .normal (qw v x)) (NR v):=by
 obtain⟨x3,bx3,h⟩:=aG h
 obtain⟨r4,br4,h⟩:=aG h
 have p6:=fun{sc F} (r:PS sc F)=>sv (cO.ia (k:=.i64) bx3)<|sv (cT GS (.str x3) [])<|cm (PU br4)<|r
 rcases aH h with⟨c5,h⟩|⟨c5,h⟩
 ·obtain⟨x7,bx7,h⟩:=aG h
  obtain⟨r8,br8,h⟩:=aG h
  have p10:=fun{sc F} (r:PS sc F)=>p6<|sg 6 c5<|sv (cO.ia (k:=.i64) bx7)<|sv (cT GS (.str x7) [])<|cm (PW br8)<|r
  rcases aH h with⟨c9,h⟩|⟨c9,h⟩
  ·obtain⟨x11,bx11,h⟩:=aG h
   have p13:=fun{sc F} (r:PS sc F)=>p10<|sg 13 c9<|sv (cO.ia (k:=.i64) bx11)<|sv (cT GS (.str x11) [])<|r
   rcases aH h with⟨c12,h⟩|⟨c12,h⟩
   ·obtain rfl:=lf h
    exact aY LO (p13<|sg 18 c12<|eF .normal (qw v true))<|by kernel_rfl
   ·obtain rfl:=lf h
    exact aY LO (p13<|sg 18 c12<|bF (cO.ln v)<|eF .normal (qw v ((v.length:Int)==1)))<|by kernel_rfl
  ·obtain rfl:=lf h
   exact aY LO (p10<|sg 13 c9<|eF .normal (qw v false))<|by kernel_rfl
 ·obtain rfl:=lf h
  exact aY LO (p6<|sg 6 c5<|eF .normal (qw v false))<|by kernel_rfl
end
section
variable(t35:waA)(t36:Int)(t37:Int)
def qx:aB:=aZ 45 [(35,sl cS t35),(36,.int .i64 t36),(37,.int .i64 t37)] [] []
def qz(o:Unit⊕(Unit)):Exit:=match o with
 |(.inl _)=>.ret
 |(.inr _)=>.exit 0
def nv(o:Unit⊕(Unit)):aB:=match o with
 |(.inl o)=>aZ 45 [(2,.int .i64 3)] [] []
 |(.inr o)=>aZ 45 [] [] []
def qy:Option (Int⊕(Unit⊕(Unit))):=
 if(decide (t37<t36))=true then
  (fy t35 t37).bind fun x19=>
  (A9 x19).bind fun r20=>
  if(!r20)=true then
   some (.inr (.inl ()))
  else
   some (.inl (bN (t37+1)))
 else
  some (.inr (.inr ()))
def zG:Option (Unit⊕(Unit)):=loop (fun(zz:Int)=>qy t35 t36 zz) t37
theorem KD{y:Int⊕(Unit⊕(Unit))}(h:qy t35 t36 t37=some y):aU Pg GE 0 (cA SW 503) (LQ (fun(zz:Int)=>qx t35 t36 zz) qz nv y) (qx t35 t36 t37):=by
 rcases aH h with⟨c18,h⟩|⟨c18,h⟩
 ·obtain⟨x19,bx19,h⟩:=aG h
  obtain⟨r20,br20,h⟩:=aG h
  have p22:=fun{sc F} (r:PS sc F)=>sg 0 c18<|sv (cO.ia (k:=.i64) bx19)<|sv (cT GS (.str x19) [])<|cm (Rk br20)<|r
  rcases aH h with⟨c21,h⟩|⟨c21,h⟩
  ·obtain rfl:=lf h
   have z:=p22<|sg 0 c21<|eF (qz (.inl ())) (nv (.inl ()))
   exact gu LO (by intro hx;cases hx) z<|by kernel_rfl
  ·obtain rfl:=lf h
   exact wv LO (p22<|sg 0 c21<|eF .normal (qx t35 t36 (bN (t37+1))))<|by kernel_rfl
 ·obtain rfl:=lf h
  have z:=sg 0 c18<|eF (qz (.inr ())) (nv (.inr ()))
  exact gu LO (by intro hx;cases hx) z<|by kernel_rfl
theorem Dp{x:Unit⊕(Unit)}(h:zG t35 t36 t37=some x):aU Pg GE 0 (.loop (cA SW 503)) (EX (qz x) (nv x)) (qx t35 t36 t37):=
 aU.loop (S:=fun(zz:Int)=>qx t35 t36 zz) (ex:=qz) (s:=t37) h fun zz y hy=>KD t35 t36 zz hy
end
def oJ(s:ah):Option Int:=
 if(decide ((s.length:Int)>120))=true then
  some 3
 else
  (yi s).bind fun r2=>
  (rX r2).bind fun o14=>
  if o14=true then
   some 3
  else
   (Rd r2 (some 1) none).bind fun l17=>
   (zG l17 (l17.length:Int) 0).bind fun o23=>match o23 with
   |(.inl o23)=>
    some 3
   |(.inr o23)=>
    some 0
theorem rY{s:ah}{r:Int}(h:oJ s=some r):CC Pg GE 167 [.str s] (.int .i64 r) []:=by
 rcases aH h with⟨c1,h⟩|⟨c1,h⟩
 ·obtain rfl:=lf h
  have z:=bF (gU underlying9 s)<|sg 0 c1<|en (aI (rP (.int .i64 3))<|trivial)
  exact bI LO call167 func167 (c:=SW) rfl (aI trivial trivial) z<|by kernel_rfl
 ·obtain⟨r2,br2,h⟩:=aG h
  obtain⟨o14,bo14,h⟩:=aG h
  have p16:=fun{sc F} (r:PS sc F)=>bF (gU underlying9 s)<|sg 0 c1<|cm (PY br2)<|nN 1<|cK (LW r2 bo14)<|r
  rcases aH h with⟨c15,h⟩|⟨c15,h⟩
  ·obtain rfl:=lf h
   have z:=p16<|sg 0 c15<|en (aI (rP (.int .i64 3))<|trivial)
   exact bI LO call167 func167 (c:=SW) rfl (aI trivial trivial) z<|by kernel_rfl
  ·obtain⟨l17,bl17,h⟩:=aG h
   obtain⟨o23,bo23,h⟩:=aG h
   rcases o23 with o23|o23
   ·obtain rfl:=lf h
    have z:=p16<|sg 0 c15<|sv (cO.sc bl17)<|bF (cO.ln l17)<|cK (e:=.ret) (s1:=nv (.inl o23)) (Dp l17 (l17.length:Int) 0 bo23)<|en (aI (rP (.int .i64 3))<|trivial)
    exact bI LO call167 func167 (c:=SW) rfl (aI trivial trivial) z<|by kernel_rfl
   ·obtain rfl:=lf h
    have z:=p16<|sg 0 c15<|sv (cO.sc bl17)<|bF (cO.ln l17)<|cK (e:=.exit 0) (s1:=nv (.inr o23)) (Dp l17 (l17.length:Int) 0 bo23)<|en (aI (rP (.int .i64 0))<|trivial)
    exact bI LO call167 func167 (c:=SW) rfl (aI trivial trivial) z<|by kernel_rfl
noncomputable def MB:Code:=f149.body.getD .skip
def Fm:List Nat:=[]
section
variable(e:af)(v:ag)
def Mq:aB:=aZ 68 [(2,.eptr (ac e)),(3,.eptr (aq v))] [.dead,.dead] []
def yE(o:Bool):aB:=aZ 68 [(2,.eptr (ac e)),(15,.bool o)] [.dead,.dead] []
def B9:Option Bool:=
 if v.name=true then
  (oJ e.Name).bind fun r3=>
  some (r3 !=0)
 else
  some false
theorem K3{x:Bool}(h:B9 e v=some x):aU Pg GE 0 (cA MB 12) (EX .normal (yE e x)) (Mq e v):=by
 have p2:=fun{sc F} (r:PS sc F)=>sv (wa v)<|sv (xO v)<|r
 rcases aH h with⟨c1,h⟩|⟨c1,h⟩
 ·obtain⟨r3,br3,h⟩:=aG h
  obtain rfl:=lf h
  exact aY Fm (p2<|sg 3 c1<|sv (dq e)<|sv (d8 e)<|cm (rY br3)<|eF .normal (yE e (r3 !=0)))<|by kernel_rfl
 ·obtain rfl:=lf h
  exact aY Fm (p2<|sg 3 c1<|eF .normal (yE e false))<|by kernel_rfl
end
section
variable(e:af)(i:Int)
def oQ:aB:=aZ 68 [(2,.eptr (ac e)),(5,.int .i64 i)] [.dead,.dead] []
def oS(o:Unit⊕(Unit)):Exit:=match o with
 |(.inl _)=>.ret
 |(.inr _)=>.exit 0
def jB(o:Unit⊕(Unit)):aB:=match o with
 |(.inl o)=>aZ 68 [(4,.bool false)] [.dead,.dead] []
 |(.inr o)=>aZ 68 [(2,.eptr (ac e))] [.dead,.dead] []
def oR:Option (Int⊕(Unit⊕(Unit))):=
 if(decide (i<(e.Params.length:Int)))=true then
  (fy e.Params i).bind fun x9=>
  (oJ x9.Name).bind fun r10=>
  if(r10 !=0)=true then
   some (.inr (.inl ()))
  else
   some (.inl (bN (i+1)))
 else
  some (.inr (.inr ()))
def xu:Option (Unit⊕(Unit)):=loop (fun(zz:Int)=>oR e zz) i
theorem IZ{y:Int⊕(Unit⊕(Unit))}(h:oR e i=some y):aU Pg GE 0 (cA MB 119) (LQ (fun(zz:Int)=>oQ e zz) oS (jB e) y) (oQ e i):=by
 have p8:=fun{sc F} (r:PS sc F)=>sv (ba e)<|sv (bh e)<|bF (il.ln e.Params)<|r
 rcases aH h with⟨c7,h⟩|⟨c7,h⟩
 ·obtain⟨x9,bx9,h⟩:=aG h
  obtain⟨r10,br10,h⟩:=aG h
  have p12:=fun{sc F} (r:PS sc F)=>p8<|sg 0 c7<|sv (ba e)<|sv (bh e)<|sv (il.ia (k:=.i64) bx9)<|sv (jG x9)<|sv (kU x9)<|cm (rY br10)<|r
  rcases aH h with⟨c11,h⟩|⟨c11,h⟩
  ·obtain rfl:=lf h
   have z:=p12<|sg 0 c11<|eF (oS (.inl ())) (jB e (.inl ()))
   exact gu Fm (by intro hx;cases hx) z<|by kernel_rfl
  ·obtain rfl:=lf h
   exact wv Fm (p12<|sg 0 c11<|eF .normal (oQ e (bN (i+1))))<|by kernel_rfl
 ·obtain rfl:=lf h
  have z:=p8<|sg 0 c7<|eF (oS (.inr ())) (jB e (.inr ()))
  exact gu Fm (by intro hx;cases hx) z<|by kernel_rfl
theorem wE{x:Unit⊕(Unit)}(h:xu e i=some x):aU Pg GE 0 (.loop (cA MB 119)) (EX (oS x) (jB e x)) (oQ e i):=
 aU.loop (S:=fun(zz:Int)=>oQ e zz) (ex:=oS) (s:=i) h fun zz y hy=>IZ e zz hy
end
section
variable(e:af)(i:Int)(k:Int)
def oV:aB:=aZ 68 [(2,.eptr (ac e)),(6,.int .i64 i),(7,.int .i64 k)] [.dead,.dead] []
def oX(o:Unit⊕(Unit)):Exit:=match o with
 |(.inl _)=>.ret
 |(.inr _)=>.exit 4
def lw(o:Unit⊕(Unit)):aB:=match o with
 |(.inl o)=>aZ 68 [(4,.bool false)] [.dead,.dead] []
 |(.inr o)=>aZ 68 [(2,.eptr (ac e)),(6,.int .i64 i)] [.dead,.dead] []
def oW:Option (Int⊕(Unit⊕(Unit))):=
 (fy e.Alts i).bind fun x20=>
 if(decide (k<(x20.Names.length:Int)))=true then
  (fy e.Alts i).bind fun x23=>
  (fy x23.Names k).bind fun x24=>
  (oJ x24).bind fun r25=>
  if(r25 !=0)=true then
   some (.inr (.inl ()))
  else
   some (.inl (bN (k+1)))
 else
  some (.inr (.inr ()))
def xw:Option (Unit⊕(Unit)):=loop (fun(zz:Int)=>oW e i zz) k
theorem I1{y:Int⊕(Unit⊕(Unit))}(h:oW e i k=some y):aU Pg GE 0 (cA MB 31711) (LQ (fun(zz:Int)=>oV e i zz) oX (lw e i) y) (oV e i k):=by
 obtain⟨x20,bx20,h⟩:=aG h
 have p22:=fun{sc F} (r:PS sc F)=>sv (aD e)<|sv (aE e)<|sv (dZ.ia (k:=.i64) bx20)<|sv (gX x20)<|sv (gZ x20)<|bF (cO.ln x20.Names)<|r
 rcases aH h with⟨c21,h⟩|⟨c21,h⟩
 ·obtain⟨x23,bx23,h⟩:=aG h
  obtain⟨x24,bx24,h⟩:=aG h
  obtain⟨r25,br25,h⟩:=aG h
  have p27:=fun{sc F} (r:PS sc F)=>p22<|sg 0 c21<|sv (aD e)<|sv (aE e)<|sv (dZ.ia (k:=.i64) bx23)<|sv (gX x23)<|sv (gZ x23)<|sv (cO.ia (k:=.i64) bx24)<|sv (cT GS (.str x24) [])<|cm (rY br25)<|r
  rcases aH h with⟨c26,h⟩|⟨c26,h⟩
  ·obtain rfl:=lf h
   have z:=p27<|sg 0 c26<|eF (oX (.inl ())) (lw e i (.inl ()))
   exact gu Fm (by intro hx;cases hx) z<|by kernel_rfl
  ·obtain rfl:=lf h
   exact wv Fm (p27<|sg 0 c26<|eF .normal (oV e i (bN (k+1))))<|by kernel_rfl
 ·obtain rfl:=lf h
  have z:=p22<|sg 0 c21<|eF (oX (.inr ())) (lw e i (.inr ()))
  exact gu Fm (by intro hx;cases hx) z<|by kernel_rfl
theorem CP{x:Unit⊕(Unit)}(h:xw e i k=some x):aU Pg GE 0 (.loop (cA MB 31711)) (EX (oX x) (lw e i x)) (oV e i k):=
 aU.loop (S:=fun(zz:Int)=>oV e i zz) (ex:=oX) (s:=k) h fun zz y hy=>I1 e i zz hy
end
section
variable(e:af)(i:Int)
def oT:aB:=aZ 68 [(2,.eptr (ac e)),(6,.int .i64 i)] [.dead,.dead] []
def lu(o:Unit⊕(Unit)):Exit:=match o with
 |(.inl _)=>.ret
 |(.inr _)=>.exit 2
def jC(o:Unit⊕(Unit)):aB:=match o with
 |(.inl o)=>aZ 68 [(4,.bool false)] [.dead,.dead] []
 |(.inr o)=>aZ 68 [] [.dead,.dead] []
def oU:Option (Int⊕(Unit⊕(Unit))):=
 if (decide (i < (e.Alts.length:Int))) = true then
  (fy e.Alts i).bind fun x16=>
  (oJ x16.Con).bind fun r17=>
  if(r17 !=0)=true then
   some (.inr (.inl ()))
  else
   (xw e i 0).bind fun o28=>match o28 with
   |(.inl o28)=>
    some (.inr (.inl ()))
   |(.inr o28)=>
    some (.inl (bN (i+1)))
 else
  some (.inr (.inr ()))
def xv:Option (Unit⊕(Unit)):=loop (fun(zz:Int)=>oU e zz) i
theorem I0{y:Int⊕(Unit⊕(Unit))}(h:oU e i=some y):aU Pg GE 0 (cA MB 247) (LQ (fun(zz:Int)=>oT e zz) lu jC y) (oT e i):=by
 have p15:=fun{sc F} (r:PS sc F)=>sv (aD e)<|sv (aE e)<|bF (dZ.ln e.Alts)<|r
 rcases aH h with⟨c14,h⟩|⟨c14,h⟩
 ·obtain⟨x16,bx16,h⟩:=aG h
  obtain⟨r17,br17,h⟩:=aG h
  have p19:=fun{sc F} (r:PS sc F)=>p15<|sg 0 c14<|sv (aD e)<|sv (aE e)<|sv (dZ.ia (k:=.i64) bx16)<|sv (mr x16)<|sv (po x16)<|cm (rY br17)<|r
  rcases aH h with⟨c18,h⟩|⟨c18,h⟩
  ·obtain rfl:=lf h
   have z:=p19<|sg 0 c18<|eF (lu (.inl ())) (jC (.inl ()))
   exact gu Fm (by intro hx;cases hx) z<|by kernel_rfl
  ·obtain⟨o28,bo28,h⟩:=aG h
   rcases o28 with o28|o28
   ·obtain rfl:=lf h
    have z:=p19<|sg 0 c18<|cK (e:=.ret) (s1:=lw e i (.inl o28)) (CP e i 0 bo28)<|eF (lu (.inl ())) (jC (.inl ()))
    exact gu Fm (by intro hx;cases hx) z<|by kernel_rfl
   ·obtain rfl:=lf h
    exact wv Fm (p19<|sg 0 c18<|cK (e:=.exit 4) (s1:=lw e i (.inr o28)) (CP e i 0 bo28)<|eF .normal (oT e (bN (i+1))))<|by kernel_rfl
 ·obtain rfl:=lf h
  have z:=p15<|sg 0 c14<|eF (lu (.inr ())) (jC (.inr ()))
  exact gu Fm (by intro hx;cases hx) z<|by kernel_rfl
theorem CO{x:Unit⊕(Unit)}(h:xv e i=some x):aU Pg GE 0 (.loop (cA MB 247)) (EX (lu x) (jC x)) (oT e i):=
 aU.loop (S:=fun(zz:Int)=>oT e zz) (ex:=lu) (s:=i) h fun zz y hy=>I0 e zz hy
end
def ET(e:af)(a:ag):Option Bool:=
 (B9 e a).bind fun o4=>
 if o4=true then
  some false
 else
  (xu e 0).bind fun o13=>match o13 with
  |(.inl o13)=>
   some false
  | (.inr o13) =>
   (xv e 0).bind fun o29=>match o29 with
   |(.inl o29)=>
    some false
   |(.inr o29)=>
    some true
theorem P6{e:af}{a:ag}{r:Bool}(h:ET e a=some r):CC Pg GE 149 [.agg (ac e),.agg (aq a)] (.bool r) []:=by
 obtain⟨o4,bo4,h⟩:=aG h
 have p6:=fun{sc F} (r:PS sc F)=>se (bX e)<|se (sD a)<|nN 1<|cK (K3 e a bo4)<|r
 rcases aH h with⟨c5,h⟩|⟨c5,h⟩
 ·obtain rfl:=lf h
  have z:=p6<|sg 0 c5<|en (aI (rP (.bool false))<|trivial)
  exact bI Fm call149 func149 (c:=MB) rfl (aI (al e) (aI (aL a) trivial)) z<|by kernel_rfl
 ·obtain⟨o13,bo13,h⟩:=aG h
  rcases o13 with o13|o13
  ·obtain rfl:=lf h
   have z:=p6<|sg 0 c5<|cK (e:=.ret) (s1:=jB e (.inl o13)) (wE e 0 bo13)<|en (aI (rP (.bool false))<|trivial)
   exact bI Fm call149 func149 (c:=MB) rfl (aI (al e) (aI (aL a) trivial)) z<|by kernel_rfl
  ·obtain⟨o29,bo29,h⟩:=aG h
   rcases o29 with o29|o29
   ·obtain rfl:=lf h
    have z:=p6<|sg 0 c5<|cK (e:=.exit 0) (s1:=jB e (.inr o13)) (wE e 0 bo13)<|cK (e:=.ret) (s1:=jC (.inl o29)) (CO e 0 bo29)<|en (aI (rP (.bool false))<|trivial)
    exact bI Fm call149 func149 (c:=MB) rfl (aI (al e) (aI (aL a) trivial)) z<|by kernel_rfl
   ·obtain rfl:=lf h
    have z:=p6<|sg 0 c5<|cK (e:=.exit 0) (s1:=jB e (.inr o13)) (wE e 0 bo13)<|cK (e:=.exit 2) (s1:=jC (.inr o29)) (CO e 0 bo29)<|en (aI (rP (.bool true))<|trivial)
    exact bI Fm call149 func149 (c:=MB) rfl (aI (al e) (aI (aL a) trivial)) z<|by kernel_rfl
noncomputable def XU:Code:=f168.body.getD .skip
def VV:List Nat:=[8]
section
variable(v:waA)(t5:Int)(t6:Int)
def kp:aB:=aZ 18 [(0,sl cS v),(5,.int .i64 t5),(6,.int .i64 t6)] [] []
def kq(o:Unit⊕(Unit)):Exit:=match o with
 |(.inl _)=>.ret
 |(.inr _)=>.exit 0
def ir(o:Unit⊕(Unit)):aB:=match o with
 |(.inl o)=>aZ 18 [(2,.bool false)] [] []
 |(.inr o)=>aZ 18 [] [] []
def n8:Option (Int⊕(Unit⊕(Unit))):=
 if(decide (t6<t5))=true then
  (fy v t6).bind fun x2=>
  (Dq v x2).bind fun r3=>
  if(r3 !=t6)=true then
   some (.inr (.inl ()))
  else
   some (.inl (bN (t6+1)))
 else
  some (.inr (.inr ()))
def wx:Option (Unit⊕(Unit)):=loop (fun(zz:Int)=>n8 v t5 zz) t6
theorem Fp{y:Int⊕(Unit⊕(Unit))}(h:n8 v t5 t6=some y):aU Pg GE 0 (cA XU 55) (LQ (fun(zz:Int)=>kp v t5 zz) kq ir y) (kp v t5 t6):=by
 rcases aH h with⟨c1,h⟩|⟨c1,h⟩
 ·obtain⟨x2,bx2,h⟩:=aG h
  obtain⟨r3,br3,h⟩:=aG h
  have p5:=fun{sc F} (r:PS sc F)=>sg 0 c1<|sv (cO.ia (k:=.i64) bx2)<|sv (cT GS (.str x2) [])<|cm (Ka br3)<|r
  rcases aH h with⟨c4,h⟩|⟨c4,h⟩
  ·obtain rfl:=lf h
   have z:=p5<|sg 0 c4<|eF (kq (.inl ())) (ir (.inl ()))
   exact gu VV (by intro hx;cases hx) z<|by kernel_rfl
  ·obtain rfl:=lf h
   exact wv VV (p5<|sg 0 c4<|eF .normal (kp v t5 (bN (t6+1))))<|by kernel_rfl
 ·obtain rfl:=lf h
  have z:=sg 0 c1<|eF (kq (.inr ())) (ir (.inr ()))
  exact gu VV (by intro hx;cases hx) z<|by kernel_rfl
theorem yr{x:Unit⊕(Unit)}(h:wx v t5 t6=some x):aU Pg GE 0 (.loop (cA XU 55)) (EX (kq x) (ir x)) (kp v t5 t6):=
 aU.loop (S:=fun(zz:Int)=>kp v t5 zz) (ex:=kq) (s:=t6) h fun zz y hy=>Fp v t5 zz hy
end
def mm(a:waA):Option Bool:=
 (wx a (a.length:Int) 0).bind fun o6=>match o6 with
 |(.inl o6)=>
  some false
 |(.inr o6)=>
  some true
theorem wy{a:waA}{r:Bool}(h:mm a=some r):CC Pg GE 168 [sl cS a] (.bool r) []:=by
 obtain⟨o6,bo6,h⟩:=aG h
 rcases o6 with o6|o6
 ·obtain rfl:=lf h
  have z:=bF (cO.ln a)<|cK (e:=.ret) (s1:=ir (.inl o6)) (yr a (a.length:Int) 0 bo6)<|en (aI (rP (.bool false))<|trivial)
  exact bI VV call168 func168 (c:=XU) rfl (aI (aw cy a) trivial) z<|by kernel_rfl
 ·obtain rfl:=lf h
  have z:=bF (cO.ln a)<|cK (e:=.exit 0) (s1:=ir (.inr o6)) (yr a (a.length:Int) 0 bo6)<|en (aI (rP (.bool true))<|trivial)
  exact bI VV call168 func168 (c:=XU) rfl (aI (aw cy a) trivial) z<|by kernel_rfl
noncomputable def SU:Code:=f150.body.getD .skip
def Re:List Nat:=[14,30]
section
variable(e:af)(params:waA)(i:Int)
def kv:aB:=aZ 53 [(1,.eptr (ac e)),(3,sl cS params),(4,sl cS ([]:List ah)),(5,.int .i64 i)] [.dead] [((4,0),9),((3,0),9)]
def ta(o:waA):aB:=aZ 53 [(1,.eptr (ac e)),(3,sl cS o),(4,sl cS ([]:List ah))] [.dead] [((4,0),9),((3,0),9)]
def fW:Option ((waA×Int)⊕(waA)):=
 if(decide (i<(e.Params.length:Int)))=true then
  (fy e.Params i).bind fun x3=>
  (app params ([x3.Name]:List ah)).bind fun l4=>
  some (.inl (l4,bN (i+1)))
 else
  some (.inr params)
def rq:Option waA:=loop (fun(zz:waA×Int)=>fW e zz.1 zz.2) (params,i)
theorem Fr{y:(waA×Int)⊕(waA)}(h:fW e params i=some y):aU Pg GE 0 (cA SU 119) (LQ (fun(zz:waA×Int)=>kv e zz.1 zz.2) (fun _=>.exit 0) (ta e) y) (kv e params i):=by
 have p2:=fun{sc F} (r:PS sc F)=>sv (ba e)<|sv (bh e)<|bF (il.ln e.Params)<|r
 rcases aH h with⟨c1,h⟩|⟨c1,h⟩
 ·obtain⟨x3,bx3,h⟩:=aG h
  obtain⟨l4,bl4,h⟩:=aG h
  obtain rfl:=lf h
  exact wv Re (p2<|sg 0 c1<|sv (ba e)<|sv (bh e)<|sv (il.ia (k:=.i64) bx3)<|sv (jG x3)<|sv (kU x3)<|sv (cO.mk' (v:=PVal.str) OF ([x3.Name]:List ah) 1 (by kernel_rfl))<|sv (cO.ap bl4)<|eF .normal (kv e l4 (bN (i+1))))<|by kernel_rfl
 ·obtain rfl:=lf h
  have z:=p2<|sg 0 c1<|eF (.exit 0) (ta e params)
  exact gu Re (by intro hx;cases hx) z<|by kernel_rfl
theorem yC{x:waA}(h:rq e params i=some x):aU Pg GE 0 (.loop (cA SU 119)) (EX (.exit 0) (ta e x)) (kv e params i):=
 aU.loop (S:=fun(zz:waA×Int)=>kv e zz.1 zz.2) (ex:=(fun _=>.exit 0)) (s:=(params,i)) h fun zz y hy=>Fr e zz.1 zz.2 hy
end
section
variable(e:af)(params:waA)(cons:waA)(i:Int)
def kw:aB:=aZ 53 [(1,.eptr (ac e)),(3,sl cS params),(4,sl cS cons),(6,.int .i64 i)] [.dead] [((4,0),9),((3,0),9)]
def ky(o:Unit⊕(waA)):Exit:=match o with
 |(.inl _)=>.ret
 |(.inr _)=>.exit 2
def iz(o:Unit⊕(waA)):aB:=match o with
 |(.inl o)=>aZ 53 [(2,.bool false)] [.dead] []
 |(.inr o)=>aZ 53 [(3,sl cS params),(4,sl cS o)] [.dead] [((4,0),9),((3,0),9)]
def iy:Option ((waA×Int)⊕(Unit⊕(waA))):=
 if(decide (i<(e.Alts.length:Int)))=true then
  (fy e.Alts i).bind fun x8=>
  (app cons ([x8.Con]:List ah)).bind fun l9=>
  (fy e.Alts i).bind fun x10=>
  (mm x10.Names).bind fun r11=>
  if(!r11)=true then
   some (.inr (.inl ()))
  else
   some (.inl (l9,bN (i+1)))
 else
  some (.inr (.inr cons))
def iN:Option (Unit⊕(waA)):=loop (fun(zz:waA×Int)=>iy e zz.1 zz.2) (cons,i)
theorem Fs{y:(waA×Int)⊕(Unit⊕(waA))}(h:iy e cons i=some y):aU Pg GE 0 (cA SU 247) (LQ (fun(zz:waA×Int)=>kw e params zz.1 zz.2) ky (iz params) y) (kw e params cons i):=by
 have p7:=fun{sc F} (r:PS sc F)=>sv (aD e)<|sv (aE e)<|bF (dZ.ln e.Alts)<|r
 rcases aH h with⟨c6,h⟩|⟨c6,h⟩
 ·obtain⟨x8,bx8,h⟩:=aG h
  obtain⟨l9,bl9,h⟩:=aG h
  obtain⟨x10,bx10,h⟩:=aG h
  obtain⟨r11,br11,h⟩:=aG h
  have p13:=fun{sc F} (r:PS sc F)=>p7<|sg 0 c6<|sv (aD e)<|sv (aE e)<|sv (dZ.ia (k:=.i64) bx8)<|sv (mr x8)<|sv (po x8)<|sv (cO.mk' (v:=PVal.str) OF ([x8.Con]:List ah) 1 (by kernel_rfl))<|sv (cO.ap bl9)<|sv (aD e)<|sv (aE e)<|sv (dZ.ia (k:=.i64) bx10)<|sv (gX x10)<|sv (gZ x10)<|cm (wy br11)<|r
  rcases aH h with⟨c12,h⟩|⟨c12,h⟩
  ·obtain rfl:=lf h
   have z:=p13<|sg 0 c12<|eF (ky (.inl ())) (iz params (.inl ()))
   exact gu Re (by intro hx;cases hx) z<|by kernel_rfl
  ·obtain rfl:=lf h
   exact wv Re (p13<|sg 0 c12<|eF .normal (kw e params l9 (bN (i+1))))<|by kernel_rfl
 ·obtain rfl:=lf h
  have z:=p7<|sg 0 c6<|eF (ky (.inr cons)) (iz params (.inr cons))
  exact gu Re (by intro hx;cases hx) z<|by kernel_rfl
theorem yD{x:Unit⊕(waA)}(h:iN e cons i=some x):aU Pg GE 0 (.loop (cA SU 247)) (EX (ky x) (iz params x)) (kw e params cons i):=
 aU.loop (S:=fun(zz:waA×Int)=>kw e params zz.1 zz.2) (ex:=ky) (s:=(cons,i)) h fun zz y hy=>Fs e params zz.1 zz.2 hy
end
def xt(e:af):Option Bool:=
 (rq e ([]:List ah) 0).bind fun o5=>
 (iN e ([]:List ah) 0).bind fun o14=>match o14 with
 |(.inl o14)=>
  some false
 | (.inr o14) =>
  (mm o5).bind fun r15=>
  if r15=true then
   (mm o14).bind fun r18=>
   some r18
  else
   some false
theorem K1{e:af}{r:Bool}(h:xt e=some r):CC Pg GE 150 [.agg (ac e)] (.bool r) []:=by
 obtain⟨o5,bo5,h⟩:=aG h
 obtain⟨o14,bo14,h⟩:=aG h
 rcases o14 with o14|o14
 ·obtain rfl:=lf h
  have z:=se (bX e)<|cK (yC e ([]:List ah) 0 bo5)<|cK (e:=.ret) (s1:=iz o5 (.inl o14)) (yD e o5 ([]:List ah) 0 bo14)<|en (aI (rP (.bool false))<|trivial)
  exact bI Re call150 func150 (c:=SU) rfl (aI (al e) trivial) z<|by kernel_rfl
 ·obtain⟨r15,br15,h⟩:=aG h
  have p17:=fun{sc F} (r:PS sc F)=>se (bX e)<|cK (yC e ([]:List ah) 0 bo5)<|cK (e:=.exit 2) (s1:=iz o5 (.inr o14)) (yD e o5 ([]:List ah) 0 bo14)<|cm (wy br15)<|r
  rcases aH h with⟨c16,h⟩|⟨c16,h⟩
  ·obtain⟨r18,br18,h⟩:=aG h
   obtain rfl:=lf h
   have z:=p17<|sg 3 c16<|cm (wy br18)<|en (aI (rP (.bool r18))<|trivial)
   exact bI Re call150 func150 (c:=SU) rfl (aI (al e) trivial) z<|by kernel_rfl
  ·obtain rfl:=lf h
   have z:=p17<|sg 3 c16<|en (aI (rP (.bool false))<|trivial)
   exact bI Re call150 func150 (c:=SU) rfl (aI (al e) trivial) z<|by kernel_rfl
abbrev zV:=(ak->Option Int)
abbrev Dj(R:zV):Prop:=∀(t:ak) (r:Int),R t=some r->CC Pg GE 194 [.agg (aj t)] (.int .i64 r) []
noncomputable def Zb:Code:=f194.body.getD .skip
def YT:List Nat:=[]
section
variable(R128:zV)(t7:waB)(t8:Int)(n:Int)(t9:Int)
def oN:aB:=aZ 20 [(3,.int .i64 n),(7,sl aj t7),(8,.int .i64 t8),(9,.int .i64 t9)] [.dead] []
def yw(o:Int):aB:=aZ 20 [(3,.int .i64 o)] [.dead] []
def Dx:Option ((Int×Int)⊕(Int)):=
 if(decide (t9<t8))=true then
  (fy t7 t9).bind fun x2=>
  (R128 x2).bind fun r3=>
  some (.inl ((if r3>n then r3 else n),bN (t9+1)))
 else
  some (.inr n)
def B3:Option Int:=loop (fun(zz:Int×Int)=>Dx R128 t7 t8 zz.1 zz.2) (n,t9)
theorem IR(hR128:Dj R128){y:(Int×Int)⊕(Int)}(h:Dx R128 t7 t8 n t9=some y):aU Pg GE 0 (cA Zb 119) (LQ (fun(zz:Int×Int)=>oN t7 t8 zz.1 zz.2) (fun _=>.exit 0) yw y) (oN t7 t8 n t9):=by
 rcases aH h with⟨c1,h⟩|⟨c1,h⟩
 ·obtain⟨x2,bx2,h⟩:=aG h
  obtain⟨r3,br3,h⟩:=aG h
  obtain rfl:=lf h
  have z:=sg 0 c1<|sv (db.ia (k:=.i64) bx2)<|sv (fZ x2)<|sx QY<|sx (pR x2)<|sv (jr x2 [])<|cm (hR128 _ _ br3)<|vY 0 .normal (oN t7 t8 (if r3>n then r3 else n) (bN (t9+1))) rfl (dI (aI trivial (aI (up (aw aO t7)) (aI trivial (aI trivial trivial))))) (aI trivial trivial)
  exact eA (A:=YT) mixed z<|by kernel_rfl
 ·obtain rfl:=lf h
  have z:=sg 0 c1<|eF (.exit 0) (yw n)
  exact gu YT (by intro hx;cases hx) z<|by kernel_rfl
theorem KP(hR128:Dj R128){x:Int}(h:B3 R128 t7 t8 n t9=some x):aU Pg GE 0 (.loop (cA Zb 119)) (EX (.exit 0) (yw x)) (oN t7 t8 n t9):=
 aU.loop (S:=fun(zz:Int×Int)=>oN t7 t8 zz.1 zz.2) (ex:=(fun _=>.exit 0)) (s:=(n,t9)) h fun zz y hy=>IR R128 t7 t8 zz.1 zz.2 hR128 hy
end
def zI(R128:zV)(t:ak):Option Int:=
 (B3 R128 t.Args (t.Args.length:Int) 0 0).bind fun o4=>
 some (bN (o4+1))
theorem NV(R128:zV)(hR128:Dj R128){t:ak}{r:Int}(h:zI R128 t=some r):CC Pg GE 194 [.agg (aj t)] (.int .i64 r) []:=by
 obtain⟨o4,bo4,h⟩:=aG h
 obtain rfl:=lf h
 have z:=se (kF t)<|sv (bO t)<|sv (bP t)<|bF (db.ln t.Args)<|cK (KP R128 t.Args (t.Args.length:Int) 0 0 hR128 bo4)<|en (aI (rP (.int .i64 (bN (o4+1))))<|trivial)
 exact bI YT call194 func194 (c:=Zb) rfl (aI (aO t) trivial) z<|by kernel_rfl
def zJ:(ak->Option Int)->(ak)->Option Int:=fun(rec:ak->Option Int) (x:ak)=>zI (fun t=>rec t) x
def Ba(t:ak):Option Int:=sS zJ t
theorem P0{t:ak}{r:Int}(h:Ba t=some r):CC Pg GE 194 [.agg (aj t)] (.int .i64 r) []:=
 eg (F:=zJ) (M:=fun(x:ak) (r:Int)=>CC Pg GE 194 [.agg (aj x)] (.int .i64 r) []) (fun rec hrec x r h=>NV _ (fun t r h=>hrec t r h) h) h
abbrev Ce:=(ak->Option Int)
abbrev Gn(R:Ce):Prop:=∀(t:ak) (r:Int),R t=some r->CC Pg GE 195 [.agg (aj t)] (.int .i64 r) []
noncomputable def Zc:Code:=f215.body.getD .skip
def YU:List Nat:=[]
def vT(s:ah)(capital:Bool):Option Bool:=
 (oJ s).bind fun r1=>
 if(r1==0)=true then
  (ms s 0).bind fun c3=>
  if(decide (c3>=65))=true then
   (ms s 0).bind fun c6=>
   some ((decide (c6<=90))==capital)
  else
   some (false==capital)
 else
  some false
theorem Dy{s:ah}{capital:Bool}{r:Bool}(h:vT s capital=some r):CC Pg GE 215 [.str s,.bool capital] (.bool r) []:=by
 obtain⟨r1,br1,h⟩:=aG h
 rcases aH h with⟨c2,h⟩|⟨c2,h⟩
 ·obtain⟨c3,bc3,h⟩:=aG h
  have p5:=fun{sc F} (r:PS sc F)=>cm (rY br1)<|sg 4 c2<|sv (jj (k:=.i64) underlying9 bc3)<|r
  rcases aH h with⟨c4,h⟩|⟨c4,h⟩
  ·obtain⟨c6,bc6,h⟩:=aG h
   obtain rfl:=lf h
   have z:=p5<|sg 8 c4<|sv (jj (k:=.i64) underlying9 bc6)<|en (aI (rP (.bool ((decide (c6<=90))==capital)))<|trivial)
   exact bI YU call215 func215 (c:=Zc) rfl (aI trivial (aI trivial trivial)) z<|by kernel_rfl
  ·obtain rfl:=lf h
   have z:=p5<|sg 8 c4<|en (aI (rP (.bool (false==capital)))<|trivial)
   exact bI YU call215 func215 (c:=Zc) rfl (aI trivial (aI trivial trivial)) z<|by kernel_rfl
 ·obtain rfl:=lf h
  have z:=cm (rY br1)<|sg 4 c2<|en (aI (rP (.bool false))<|trivial)
  exact bI YU call215 func215 (c:=Zc) rfl (aI trivial (aI trivial trivial)) z<|by kernel_rfl
end Go.Proofs.YtkdahfeiedaahaaGreatDoor
