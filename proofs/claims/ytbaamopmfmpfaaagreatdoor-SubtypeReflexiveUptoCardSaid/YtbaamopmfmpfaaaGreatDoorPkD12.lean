/- PROVED: a part of the proof. Conditions: none. -/
import Derived.Test.YtbaamopmfmpfaaaGreatDoorPkD11
noncomputable section
namespace Go.Proofs.YtbaamopmfmpfaaaGreatDoor
open Go Go.Proofs.Tryz
set_option linter.unusedVariables false
set_option maxRecDepth 100000
noncomputable def Q9:Code:=f128.body.getD .skip
def DU:List Nat:=[21]
section
variable(p:ag)
def K6:az:=aW 65 [(0,.str p)] [] []
def vF(o:Bool):az:=aW 65 [(0,.str p),(13,.bool o)] [] []
def zv:Option Bool:=
 if(decide ((p.length:Int)<1))=true then
  some true
 else
  some (decide ((p.length:Int)>24))
theorem IX{x:Bool}(h:zv p=some x):aQ Pg GE 0 (cA Q9 12) (EX .normal (vF p x)) (K6 p):=by
 rcases aX h with⟨c1,h⟩|⟨c1,h⟩
 ·obtain rfl:=lf h
  exact ct DU (cw (gG underlying9 p)<|sg 4 c1<|eF .normal (vF p true))<|by kernel_rfl
 ·obtain rfl:=lf h
  exact ct DU (cw (gG underlying9 p)<|sg 4 c1<|cw (gG underlying9 p)<|eF .normal (vF p (decide ((p.length:Int)>24))))<|by kernel_rfl
end
section
variable(p:ag)(plain:Bool)(word:Bool)(i:Int)(t18:Int)
def K7:az:=aW 65 [(0,.str p),(3,.bool plain),(4,.bool word),(5,.int .i64 i),(18,.int .i64 t18),(19,.int .i64 i)] [] []
def mr(o:Bool):az:=aW 65 [(0,.str p),(3,.bool o),(4,.bool word),(5,.int .i64 i),(18,.int .i64 t18),(19,.int .i64 i)] [] []
def uC:Option Bool:=
 if plain=true then
  (sK p i).bind fun c9=>
  (ls c9).bind fun r10=>
  if r10=true then
   some true
  else
   (sK p i).bind fun c13=>
   (nN c13).bind fun r14=>
   if r14=true then
    some true
   else
    (sK p i).bind fun c17=>
    (pE c17).bind fun r18=>
    some r18
 else
  some false
theorem IY{x:Bool}(h:uC p plain i=some x):aQ Pg GE 0 (cA Q9 32246) (EX .normal (mr p word i t18 x)) (K7 p plain word i t18):=by
 rcases aX h with⟨c8,h⟩|⟨c8,h⟩
 ·obtain⟨c9,bc9,h⟩:=aA h
  obtain⟨r10,br10,h⟩:=aA h
  have p12:=fun{sc F} (r:PS sc F)=>sg 2 c8<|sv (pz (k:=.i64) underlying9 bc9)<|bP (lu br10)<|r
  rcases aX h with⟨c11,h⟩|⟨c11,h⟩
  ·obtain rfl:=lf h
   exact ct DU (p12<|sg 7 c11<|eF .normal (mr p word i t18 true))<|by kernel_rfl
  ·obtain⟨c13,bc13,h⟩:=aA h
   obtain⟨r14,br14,h⟩:=aA h
   have p16:=fun{sc F} (r:PS sc F)=>p12<|sg 7 c11<|sv (pz (k:=.i64) underlying9 bc13)<|bP (tb br14)<|r
   rcases aX h with⟨c15,h⟩|⟨c15,h⟩
   ·obtain rfl:=lf h
    exact ct DU (p16<|sg 13 c15<|eF .normal (mr p word i t18 true))<|by kernel_rfl
   ·obtain⟨c17,bc17,h⟩:=aA h
    obtain⟨r18,br18,h⟩:=aA h
    obtain rfl:=lf h
    exact ct DU (p16<|sg 13 c15<|sv (pz (k:=.i64) underlying9 bc17)<|bP (sh br18)<|eF .normal (mr p word i t18 r18))<|by kernel_rfl
 ·obtain rfl:=lf h
  exact ct DU (sg 2 c8<|eF .normal (mr p word i t18 false))<|by kernel_rfl
end
section
variable(p:ag)(t18:Int)(plain:Bool)(word:Bool)(t19:Int)
def ga:az:=aW 65 [(0,.str p),(3,.bool plain),(4,.bool word),(18,.int .i64 t18),(19,.int .i64 t19)] [] []
def vG(o:Bool×Bool):az:=aW 65 [(3,.bool o.1),(4,.bool o.2)] [] []
def jR:Option ((Bool×Bool×Int)⊕((Bool×Bool))):=
 if (decide (t19 < t18)) = true then
  (uC p plain t19).bind fun o19=>
  if word=true then
   (sK p t19).bind fun c22=>
   (ls c22).bind fun r23=>
   if r23=true then
    some (.inl (o19,true,aO (t19+1)))
   else
    (sK p t19).bind fun c26=>
    (pE c26).bind fun r27=>
    if r27=true then
     some (.inl (o19,true,aO (t19+1)))
    else
     (sK p t19).bind fun c30=>
     some (.inl (o19,c30==95,aO (t19+1)))
  else
   some (.inl (o19,false,aO (t19+1)))
 else
  some (.inr (plain,word))
def zw:Option ((Bool×Bool)):=loop (fun(zz:Bool×Bool×Int)=>jR p t18 zz.1 zz.2.1 zz.2.2) (plain,word,t19)
theorem Hv{y:(Bool×Bool×Int)⊕((Bool×Bool))}(h:jR p t18 plain word t19=some y):aQ Pg GE 0 (cA Q9 503) (LQ (fun(zz:Bool×Bool×Int)=>ga p t18 zz.1 zz.2.1 zz.2.2) (fun _=>.exit 0) vG y) (ga p t18 plain word t19):=by
 rcases aX h with⟨c7,h⟩|⟨c7,h⟩
 ·obtain⟨o19,bo19,h⟩:=aA h
  have p21:=fun{sc F} (r:PS sc F)=>sg 0 c7<|oe 2<|di (IY p plain word t19 t18 bo19)<|r
  rcases aX h with⟨c20,h⟩|⟨c20,h⟩
  ·obtain⟨c22,bc22,h⟩:=aA h
   obtain⟨r23,br23,h⟩:=aA h
   have p25:=fun{sc F} (r:PS sc F)=>p21<|sg 2 c20<|sv (pz (k:=.i64) underlying9 bc22)<|bP (lu br23)<|r
   rcases aX h with⟨c24,h⟩|⟨c24,h⟩
   ·obtain rfl:=lf h
    exact rF DU (p25<|sg 7 c24<|eF .normal (ga p t18 o19 true (aO (t19+1))))<|by kernel_rfl
   ·obtain⟨c26,bc26,h⟩:=aA h
    obtain⟨r27,br27,h⟩:=aA h
    have p29:=fun{sc F} (r:PS sc F)=>p25<|sg 7 c24<|sv (pz (k:=.i64) underlying9 bc26)<|bP (sh br27)<|r
    rcases aX h with⟨c28,h⟩|⟨c28,h⟩
    ·obtain rfl:=lf h
     exact rF DU (p29<|sg 13 c28<|eF .normal (ga p t18 o19 true (aO (t19+1))))<|by kernel_rfl
    ·obtain⟨c30,bc30,h⟩:=aA h
     obtain rfl:=lf h
     exact rF DU (p29<|sg 13 c28<|sv (pz (k:=.i64) underlying9 bc30)<|eF .normal (ga p t18 o19 (c30==95) (aO (t19+1))))<|by kernel_rfl
  ·obtain rfl:=lf h
   exact rF DU (p21<|sg 2 c20<|eF .normal (ga p t18 o19 false (aO (t19+1))))<|by kernel_rfl
 ·obtain rfl:=lf h
  have z:=sg 0 c7<|eF (.exit 0) (vG (plain,word))
  exact iW DU (by intro hx;cases hx) z<|by kernel_rfl
theorem IZ{x:(Bool×Bool)}(h:zw p t18 plain word t19=some x):aQ Pg GE 0 (.loop (cA Q9 503)) (EX (.exit 0) (vG x)) (ga p t18 plain word t19):=
 aQ.loop (S:=fun(zz:Bool×Bool×Int)=>ga p t18 zz.1 zz.2.1 zz.2.2) (ex:=(fun _=>.exit 0)) (s:=(plain,word,t19)) h fun zz y hy=>Hv p t18 zz.1 zz.2.1 zz.2.2 hy
end
def D0(p:ag):Option Bool:=
 (zv p).bind fun o2=>
 if o2=true then
  some false
 else
  (sK p 0).bind fun c5=>
  (ls c5).bind fun r6=>
  (zw p (p.length:Int) true r6 0).bind fun o31=>
  if o31.1=true then
   some true
  else
   some o31.2
theorem Pm{p:ag}{r:Bool}(h:D0 p=some r):CC Pg GE 128 [.str p] (.bool r) []:=by
 obtain⟨o2,bo2,h⟩:=aA h
 have p4:=fun{sc F} (r:PS sc F)=>oe 2<|di (IX p bo2)<|r
 rcases aX h with⟨c3,h⟩|⟨c3,h⟩
 ·obtain rfl:=lf h
  have z:=p4<|sg 0 c3<|en (aI (rP (.bool false))<|trivial)
  exact ck DU call128 func128 (c:=Q9) rfl (aI trivial trivial) z<|by kernel_rfl
 ·obtain⟨c5,bc5,h⟩:=aA h
  obtain⟨r6,br6,h⟩:=aA h
  obtain⟨o31,bo31,h⟩:=aA h
  have p33:=fun{sc F} (r:PS sc F)=>p4<|sg 0 c3<|sv (pz (k:=.i64) underlying9 bc5)<|bP (lu br6)<|cw (gG underlying9 p)<|di (IZ p (p.length:Int) true r6 0 bo31)<|r
  rcases aX h with⟨c32,h⟩|⟨c32,h⟩
  ·obtain rfl:=lf h
   have z:=p33<|sg 2 c32<|en (aI (rP (.bool true))<|trivial)
   exact ck DU call128 func128 (c:=Q9) rfl (aI trivial trivial) z<|by kernel_rfl
  ·obtain rfl:=lf h
   have z:=p33<|sg 2 c32<|en (aI (rP (.bool o31.2))<|trivial)
   exact ck DU call128 func128 (c:=Q9) rfl (aI trivial trivial) z<|by kernel_rfl
noncomputable def Q7:Code:=f115.body.getD .skip
def IN:List Nat:=[]
section
variable(v:waB)
def K5:az:=aW 45 [(3,sl cS v)] [] [((3,0),9)]
def mj(o:Bool):az:=aW 45 [(3,sl cS v),(33,.bool o)] [] [((3,0),9)]
def uz:Option Bool:=
 (cH v 0).bind fun x3=>
 (pD x3).bind fun r4=>
 if (r4 != 0) = true then
  (cH v 0).bind fun x7=>
  (Bi x7).bind fun r8=>
  if(r8 !=0)=true then
   (cH v 0).bind fun x11=>
   if(!(x11==([118]:ag)))=true then
    some true
   else
    some ((v.length:Int)==1)
  else
   some false
 else
  some false
theorem IT{x:Bool}(h:uz v=some x):aQ Pg GE 0 (cA Q7 60) (EX .normal (mj v x)) (K5 v):=by
 obtain⟨x3,bx3,h⟩:=aA h
 obtain⟨r4,br4,h⟩:=aA h
 have p6:=fun{sc F} (r:PS sc F)=>sv (bR.ia (k:=.i64) bx3)<|sv (iY Nd (.str x3) [])<|bP (DY br4)<|r
 rcases aX h with⟨c5,h⟩|⟨c5,h⟩
 ·obtain⟨x7,bx7,h⟩:=aA h
  obtain⟨r8,br8,h⟩:=aA h
  have p10:=fun{sc F} (r:PS sc F)=>p6<|sg 6 c5<|sv (bR.ia (k:=.i64) bx7)<|sv (iY Nd (.str x7) [])<|bP (Nu br8)<|r
  rcases aX h with⟨c9,h⟩|⟨c9,h⟩
  ·obtain⟨x11,bx11,h⟩:=aA h
   have p13:=fun{sc F} (r:PS sc F)=>p10<|sg 13 c9<|sv (bR.ia (k:=.i64) bx11)<|sv (iY Nd (.str x11) [])<|r
   rcases aX h with⟨c12,h⟩|⟨c12,h⟩
   ·obtain rfl:=lf h
    exact ct IN (p13<|sg 18 c12<|eF .normal (mj v true))<|by kernel_rfl
   ·obtain rfl:=lf h
    exact ct IN (p13<|sg 18 c12<|cw (bR.ln v)<|eF .normal (mj v ((v.length:Int)==1)))<|by kernel_rfl
  ·obtain rfl:=lf h
   exact ct IN (p10<|sg 13 c9<|eF .normal (mj v false))<|by kernel_rfl
 ·obtain rfl:=lf h
  exact ct IN (p6<|sg 6 c5<|eF .normal (mj v false))<|by kernel_rfl
end
section
variable(t35:waB)(t36:Int)(t37:Int)
def ml:az:=aW 45 [(35,sl cS t35),(36,.int .i64 t36),(37,.int .i64 t37)] [] []
def mm(o:Unit⊕(Unit)):Exit:=match o with
 |(.inl _)=>.ret
 |(.inr _)=>.exit 0
def jP(o:Unit⊕(Unit)):az:=match o with
 |(.inl o)=>aW 45 [(2,.int .i64 3)] [] []
 |(.inr o)=>aW 45 [] [] []
def Ck:Option (Int⊕(Unit⊕(Unit))):=
 if(decide (t37<t36))=true then
  (cH t35 t37).bind fun x19=>
  (D0 x19).bind fun r20=>
  if(!r20)=true then
   some (.inr (.inl ()))
  else
   some (.inl (aO (t37+1)))
 else
  some (.inr (.inr ()))
def zo:Option (Unit⊕(Unit)):=loop (fun(zz:Int)=>Ck t35 t36 zz) t37
theorem Hp{y:Int⊕(Unit⊕(Unit))}(h:Ck t35 t36 t37=some y):aQ Pg GE 0 (cA Q7 503) (LQ (fun(zz:Int)=>ml t35 t36 zz) mm jP y) (ml t35 t36 t37):=by
 rcases aX h with⟨c18,h⟩|⟨c18,h⟩
 ·obtain⟨x19,bx19,h⟩:=aA h
  obtain⟨r20,br20,h⟩:=aA h
  have p22:=fun{sc F} (r:PS sc F)=>sg 0 c18<|sv (bR.ia (k:=.i64) bx19)<|sv (iY Nd (.str x19) [])<|bP (Pm br20)<|r
  rcases aX h with⟨c21,h⟩|⟨c21,h⟩
  ·obtain rfl:=lf h
   have z:=p22<|sg 0 c21<|eF (mm (.inl ())) (jP (.inl ()))
   exact iW IN (by intro hx;cases hx) z<|by kernel_rfl
  ·obtain rfl:=lf h
   exact rF IN (p22<|sg 0 c21<|eF .normal (ml t35 t36 (aO (t37+1))))<|by kernel_rfl
 ·obtain rfl:=lf h
  have z:=sg 0 c18<|eF (mm (.inr ())) (jP (.inr ()))
  exact iW IN (by intro hx;cases hx) z<|by kernel_rfl
theorem zp{x:Unit⊕(Unit)}(h:zo t35 t36 t37=some x):aQ Pg GE 0 (.loop (cA Q7 503)) (EX (mm x) (jP x)) (ml t35 t36 t37):=
 aQ.loop (S:=fun(zz:Int)=>ml t35 t36 zz) (ex:=mm) (s:=t37) h fun zz y hy=>Hp t35 t36 zz hy
end
def qH(s:ag):Option Int:=
 if(decide ((s.length:Int)>120))=true then
  some 3
 else
  (Bj s).bind fun r2=>
  (uz r2).bind fun o14=>
  if o14=true then
   some 3
  else
   (K3 r2 (some 1) none).bind fun l17=>
   (zo l17 (l17.length:Int) 0).bind fun o23=>match o23 with
   |(.inl o23)=>
    some 3
   |(.inr o23)=>
    some 0
theorem qI{s:ag}{r:Int}(h:qH s=some r):CC Pg GE 115 [.str s] (.int .i64 r) []:=by
 rcases aX h with⟨c1,h⟩|⟨c1,h⟩
 ·obtain rfl:=lf h
  have z:=cw (gG underlying9 s)<|sg 0 c1<|en (aI (rP (.int .i64 3))<|trivial)
  exact ck IN call115 func115 (c:=Q7) rfl (aI trivial trivial) z<|by kernel_rfl
 ·obtain⟨r2,br2,h⟩:=aA h
  obtain⟨o14,bo14,h⟩:=aA h
  have p16:=fun{sc F} (r:PS sc F)=>cw (gG underlying9 s)<|sg 0 c1<|bP (Nv br2)<|oe 1<|di (IT r2 bo14)<|r
  rcases aX h with⟨c15,h⟩|⟨c15,h⟩
  ·obtain rfl:=lf h
   have z:=p16<|sg 0 c15<|en (aI (rP (.int .i64 3))<|trivial)
   exact ck IN call115 func115 (c:=Q7) rfl (aI trivial trivial) z<|by kernel_rfl
  ·obtain⟨l17,bl17,h⟩:=aA h
   obtain⟨o23,bo23,h⟩:=aA h
   rcases o23 with o23|o23
   ·obtain rfl:=lf h
    have z:=p16<|sg 0 c15<|sv (bR.sc bl17)<|cw (bR.ln l17)<|di (e:=.ret) (s1:=jP (.inl o23)) (zp l17 (l17.length:Int) 0 bo23)<|en (aI (rP (.int .i64 3))<|trivial)
    exact ck IN call115 func115 (c:=Q7) rfl (aI trivial trivial) z<|by kernel_rfl
   ·obtain rfl:=lf h
    have z:=p16<|sg 0 c15<|sv (bR.sc bl17)<|cw (bR.ln l17)<|di (e:=.exit 0) (s1:=jP (.inr o23)) (zp l17 (l17.length:Int) 0 bo23)<|en (aI (rP (.int .i64 0))<|trivial)
    exact ck IN call115 func115 (c:=Q7) rfl (aI trivial trivial) z<|by kernel_rfl
noncomputable def Zi:Code:=f101.body.getD .skip
def Y4:List Nat:=[]
def wy(s:ag)(capital:Bool):Option Bool:=
 (qH s).bind fun r1=>
 if(r1==0)=true then
  (sK s 0).bind fun c3=>
  if(decide (c3>=65))=true then
   (sK s 0).bind fun c6=>
   some ((decide (c6<=90))==capital)
  else
   some (false==capital)
 else
  some false
theorem zM{s:ag}{capital:Bool}{r:Bool}(h:wy s capital=some r):CC Pg GE 101 [.str s,.bool capital] (.bool r) []:=by
 obtain⟨r1,br1,h⟩:=aA h
 rcases aX h with⟨c2,h⟩|⟨c2,h⟩
 ·obtain⟨c3,bc3,h⟩:=aA h
  have p5:=fun{sc F} (r:PS sc F)=>bP (qI br1)<|sg 4 c2<|sv (pz (k:=.i64) underlying9 bc3)<|r
  rcases aX h with⟨c4,h⟩|⟨c4,h⟩
  ·obtain⟨c6,bc6,h⟩:=aA h
   obtain rfl:=lf h
   have z:=p5<|sg 8 c4<|sv (pz (k:=.i64) underlying9 bc6)<|en (aI (rP (.bool ((decide (c6<=90))==capital)))<|trivial)
   exact ck Y4 call101 func101 (c:=Zi) rfl (aI trivial (aI trivial trivial)) z<|by kernel_rfl
  ·obtain rfl:=lf h
   have z:=p5<|sg 8 c4<|en (aI (rP (.bool (false==capital)))<|trivial)
   exact ck Y4 call101 func101 (c:=Zi) rfl (aI trivial (aI trivial trivial)) z<|by kernel_rfl
 ·obtain rfl:=lf h
  have z:=bP (qI br1)<|sg 4 c2<|en (aI (rP (.bool false))<|trivial)
  exact ck Y4 call101 func101 (c:=Zi) rfl (aI trivial (aI trivial trivial)) z<|by kernel_rfl
noncomputable def Xv:Code:=f86.body.getD .skip
def ww:List Nat:=[]
section
variable(t:ae)
def Ll:az:=aW 113 [(1,.eptr (af t))] [.dead] []
def bp(o:Bool):az:=aW 113 [(1,.eptr (af t)),(52,.bool o)] [.dead] []
def zP:Option Bool:=
 if(decide (t.Op<1))=true then
  some true
 else
  if(decide (t.Op>6))=true then
   some true
  else
   if (!(t.Name == ([]:ag))) = true then
    if (t.Op != 4) = true then
     if(t.Op !=5)=true then
      some true
     else
      if (decide ((t.Args.length:Int) > 0)) = true then
       if (t.Op != 4) = true then
        if(t.Op !=6)=true then
         some true
        else
         if(decide ((t.Names.length:Int)>0))=true then
          some (t.Op !=6)
         else
          some false
       else
        if(decide ((t.Names.length:Int)>0))=true then
         some (t.Op !=6)
        else
         some false
      else
       if(decide ((t.Names.length:Int)>0))=true then
        some (t.Op !=6)
       else
        some false
    else
     if (decide ((t.Args.length:Int) > 0)) = true then
      if (t.Op != 4) = true then
       if(t.Op !=6)=true then
        some true
       else
        if(decide ((t.Names.length:Int)>0))=true then
         some (t.Op !=6)
        else
         some false
      else
       if(decide ((t.Names.length:Int)>0))=true then
        some (t.Op !=6)
       else
        some false
     else
      if(decide ((t.Names.length:Int)>0))=true then
       some (t.Op !=6)
      else
       some false
   else
    if (decide ((t.Args.length:Int) > 0)) = true then
     if (t.Op != 4) = true then
      if(t.Op !=6)=true then
       some true
      else
       if(decide ((t.Names.length:Int)>0))=true then
        some (t.Op !=6)
       else
        some false
     else
      if(decide ((t.Names.length:Int)>0))=true then
       some (t.Op !=6)
      else
       some false
    else
     if(decide ((t.Names.length:Int)>0))=true then
      some (t.Op !=6)
     else
      some false
theorem Ja{x:Bool}(h:zP t=some x):aQ Pg GE 0 (cA Xv 12) (EX .normal (bp t x)) (Ll t):=by
 have p2:=fun{sc F} (r:PS sc F)=>sv (aH t)<|sv (aJ t)<|r
 rcases aX h with⟨c1,h⟩|⟨c1,h⟩
 ·obtain rfl:=lf h
  exact ct ww (p2<|sg 4 c1<|eF .normal (bp t true))<|by kernel_rfl
 ·have p4:=fun{sc F} (r:PS sc F)=>p2<|sg 4 c1<|sv (aH t)<|sv (aJ t)<|r
  rcases aX h with⟨c3,h⟩|⟨c3,h⟩
  ·obtain rfl:=lf h
   exact ct ww (p4<|sg 9 c3<|eF .normal (bp t true))<|by kernel_rfl
  ·have p6:=fun{sc F} (r:PS sc F)=>p4<|sg 9 c3<|sv (df t)<|sv (dz t)<|r
   rcases aX h with⟨c5,h⟩|⟨c5,h⟩
   ·have p8:=fun{sc F} (r:PS sc F)=>p6<|sg 13 c5<|sv (aH t)<|sv (aJ t)<|r
    rcases aX h with⟨c7,h⟩|⟨c7,h⟩
    ·have p10:=fun{sc F} (r:PS sc F)=>p8<|sg 18 c7<|sv (aH t)<|sv (aJ t)<|r
     rcases aX h with⟨c9,h⟩|⟨c9,h⟩
     ·obtain rfl:=lf h
      exact ct ww (p10<|sg 24 c9<|eF .normal (bp t true))<|by kernel_rfl
     ·have p12:=fun{sc F} (r:PS sc F)=>p10<|sg 24 c9<|sv (aT t)<|sv (aU t)<|cw (cQ.ln t.Args)<|r
      rcases aX h with⟨c11,h⟩|⟨c11,h⟩
      ·have p14:=fun{sc F} (r:PS sc F)=>p12<|sg 29 c11<|sv (aH t)<|sv (aJ t)<|r
       rcases aX h with⟨c13,h⟩|⟨c13,h⟩
       ·have p16:=fun{sc F} (r:PS sc F)=>p14<|sg 34 c13<|sv (aH t)<|sv (aJ t)<|r
        rcases aX h with⟨c15,h⟩|⟨c15,h⟩
        ·obtain rfl:=lf h
         exact ct ww (p16<|sg 40 c15<|eF .normal (bp t true))<|by kernel_rfl
        ·have p18:=fun{sc F} (r:PS sc F)=>p16<|sg 40 c15<|sv (be t)<|sv (bh t)<|cw (bR.ln t.Names)<|r
         rcases aX h with⟨c17,h⟩|⟨c17,h⟩
         ·obtain rfl:=lf h
          exact ct ww (p18<|sg 45 c17<|sv (aH t)<|sv (aJ t)<|eF .normal (bp t (t.Op !=6)))<|by kernel_rfl
         ·obtain rfl:=lf h
          exact ct ww (p18<|sg 45 c17<|eF .normal (bp t false))<|by kernel_rfl
       ·have p20:=fun{sc F} (r:PS sc F)=>p14<|sg 34 c13<|sv (be t)<|sv (bh t)<|cw (bR.ln t.Names)<|r
        rcases aX h with⟨c19,h⟩|⟨c19,h⟩
        ·obtain rfl:=lf h
         exact ct ww (p20<|sg 45 c19<|sv (aH t)<|sv (aJ t)<|eF .normal (bp t (t.Op !=6)))<|by kernel_rfl
        ·obtain rfl:=lf h
         exact ct ww (p20<|sg 45 c19<|eF .normal (bp t false))<|by kernel_rfl
      ·have p22:=fun{sc F} (r:PS sc F)=>p12<|sg 29 c11<|sv (be t)<|sv (bh t)<|cw (bR.ln t.Names)<|r
       rcases aX h with⟨c21,h⟩|⟨c21,h⟩
       ·obtain rfl:=lf h
        exact ct ww (p22<|sg 45 c21<|sv (aH t)<|sv (aJ t)<|eF .normal (bp t (t.Op !=6)))<|by kernel_rfl
       ·obtain rfl:=lf h
        exact ct ww (p22<|sg 45 c21<|eF .normal (bp t false))<|by kernel_rfl
    ·have p24:=fun{sc F} (r:PS sc F)=>p8<|sg 18 c7<|sv (aT t)<|sv (aU t)<|cw (cQ.ln t.Args)<|r
     rcases aX h with⟨c23,h⟩|⟨c23,h⟩
     ·have p26:=fun{sc F} (r:PS sc F)=>p24<|sg 29 c23<|sv (aH t)<|sv (aJ t)<|r
      rcases aX h with⟨c25,h⟩|⟨c25,h⟩
      ·have p28:=fun{sc F} (r:PS sc F)=>p26<|sg 34 c25<|sv (aH t)<|sv (aJ t)<|r
       rcases aX h with⟨c27,h⟩|⟨c27,h⟩
       ·obtain rfl:=lf h
        exact ct ww (p28<|sg 40 c27<|eF .normal (bp t true))<|by kernel_rfl
       ·have p30:=fun{sc F} (r:PS sc F)=>p28<|sg 40 c27<|sv (be t)<|sv (bh t)<|cw (bR.ln t.Names)<|r
        rcases aX h with⟨c29,h⟩|⟨c29,h⟩
        ·obtain rfl:=lf h
         exact ct ww (p30<|sg 45 c29<|sv (aH t)<|sv (aJ t)<|eF .normal (bp t (t.Op !=6)))<|by kernel_rfl
        ·obtain rfl:=lf h
         exact ct ww (p30<|sg 45 c29<|eF .normal (bp t false))<|by kernel_rfl
      ·have p32:=fun{sc F} (r:PS sc F)=>p26<|sg 34 c25<|sv (be t)<|sv (bh t)<|cw (bR.ln t.Names)<|r
       rcases aX h with⟨c31,h⟩|⟨c31,h⟩
       ·obtain rfl:=lf h
        exact ct ww (p32<|sg 45 c31<|sv (aH t)<|sv (aJ t)<|eF .normal (bp t (t.Op !=6)))<|by kernel_rfl
       ·obtain rfl:=lf h
        exact ct ww (p32<|sg 45 c31<|eF .normal (bp t false))<|by kernel_rfl
     ·have p34:=fun{sc F} (r:PS sc F)=>p24<|sg 29 c23<|sv (be t)<|sv (bh t)<|cw (bR.ln t.Names)<|r
      rcases aX h with⟨c33,h⟩|⟨c33,h⟩
      ·obtain rfl:=lf h
       exact ct ww (p34<|sg 45 c33<|sv (aH t)<|sv (aJ t)<|eF .normal (bp t (t.Op !=6)))<|by kernel_rfl
      ·obtain rfl:=lf h
       exact ct ww (p34<|sg 45 c33<|eF .normal (bp t false))<|by kernel_rfl
   ·have p36:=fun{sc F} (r:PS sc F)=>p6<|sg 13 c5<|sv (aT t)<|sv (aU t)<|cw (cQ.ln t.Args)<|r
    rcases aX h with⟨c35,h⟩|⟨c35,h⟩
    ·have p38:=fun{sc F} (r:PS sc F)=>p36<|sg 29 c35<|sv (aH t)<|sv (aJ t)<|r
     rcases aX h with⟨c37,h⟩|⟨c37,h⟩
     ·have p40:=fun{sc F} (r:PS sc F)=>p38<|sg 34 c37<|sv (aH t)<|sv (aJ t)<|r
      rcases aX h with⟨c39,h⟩|⟨c39,h⟩
      ·obtain rfl:=lf h
       exact ct ww (p40<|sg 40 c39<|eF .normal (bp t true))<|by kernel_rfl
      ·have p42:=fun{sc F} (r:PS sc F)=>p40<|sg 40 c39<|sv (be t)<|sv (bh t)<|cw (bR.ln t.Names)<|r
       rcases aX h with⟨c41,h⟩|⟨c41,h⟩
       ·obtain rfl:=lf h
        exact ct ww (p42<|sg 45 c41<|sv (aH t)<|sv (aJ t)<|eF .normal (bp t (t.Op !=6)))<|by kernel_rfl
       ·obtain rfl:=lf h
        exact ct ww (p42<|sg 45 c41<|eF .normal (bp t false))<|by kernel_rfl
     ·have p44:=fun{sc F} (r:PS sc F)=>p38<|sg 34 c37<|sv (be t)<|sv (bh t)<|cw (bR.ln t.Names)<|r
      rcases aX h with⟨c43,h⟩|⟨c43,h⟩
      ·obtain rfl:=lf h
       exact ct ww (p44<|sg 45 c43<|sv (aH t)<|sv (aJ t)<|eF .normal (bp t (t.Op !=6)))<|by kernel_rfl
      ·obtain rfl:=lf h
       exact ct ww (p44<|sg 45 c43<|eF .normal (bp t false))<|by kernel_rfl
    ·have p46:=fun{sc F} (r:PS sc F)=>p36<|sg 29 c35<|sv (be t)<|sv (bh t)<|cw (bR.ln t.Names)<|r
     rcases aX h with⟨c45,h⟩|⟨c45,h⟩
     ·obtain rfl:=lf h
      exact ct ww (p46<|sg 45 c45<|sv (aH t)<|sv (aJ t)<|eF .normal (bp t (t.Op !=6)))<|by kernel_rfl
     ·obtain rfl:=lf h
      exact ct ww (p46<|sg 45 c45<|eF .normal (bp t false))<|by kernel_rfl
end
section
variable(t:ae)
def Lm:az:=aW 113 [(1,.eptr (af t))] [.dead] []
def vM(o:Bool):az:=aW 113 [(1,.eptr (af t)),(61,.bool o)] [.dead] []
def zQ:Option Bool:=
 if(t.Op==4)=true then
  some (decide ((t.Args.length:Int)>6))
 else
  some false
theorem Jb{x:Bool}(h:zQ t=some x):aQ Pg GE 0 (cA Xv 28) (EX .normal (vM t x)) (Lm t):=by
 have p51:=fun{sc F} (r:PS sc F)=>sv (aH t)<|sv (aJ t)<|r
 rcases aX h with⟨c50,h⟩|⟨c50,h⟩
 ·obtain rfl:=lf h
  exact ct ww (p51<|sg 4 c50<|sv (aT t)<|sv (aU t)<|cw (cQ.ln t.Args)<|eF .normal (vM t (decide ((t.Args.length:Int)>6))))<|by kernel_rfl
 ·obtain rfl:=lf h
  exact ct ww (p51<|sg 4 c50<|eF .normal (vM t false))<|by kernel_rfl
end
section
variable(t:ae)
def Ln:az:=aW 113 [(1,.eptr (af t))] [.dead] []
def jV(o:Bool):az:=aW 113 [(1,.eptr (af t)),(92,.bool o)] [.dead] []
def zR:Option Bool:=
 if (t.Op == 6) = true then
  if(decide ((t.Args.length:Int)<2))=true then
   some true
  else
   if(decide ((t.Args.length:Int)>7))=true then
    some true
   else
    if(decide ((t.Names.length:Int)>0))=true then
     some ((t.Names.length:Int)!=(aO ((t.Args.length:Int) - 1)))
    else
     some false
 else
  some false
theorem Jc{x:Bool}(h:zR t=some x):aQ Pg GE 0 (cA Xv 60) (EX .normal (jV t x)) (Ln t):=by
 have p56:=fun{sc F} (r:PS sc F)=>sv (aH t)<|sv (aJ t)<|r
 rcases aX h with⟨c55,h⟩|⟨c55,h⟩
 ·have p58:=fun{sc F} (r:PS sc F)=>p56<|sg 4 c55<|sv (aT t)<|sv (aU t)<|cw (cQ.ln t.Args)<|r
  rcases aX h with⟨c57,h⟩|⟨c57,h⟩
  ·obtain rfl:=lf h
   exact ct ww (p58<|sg 9 c57<|eF .normal (jV t true))<|by kernel_rfl
  ·have p60:=fun{sc F} (r:PS sc F)=>p58<|sg 9 c57<|sv (aT t)<|sv (aU t)<|cw (cQ.ln t.Args)<|r
   rcases aX h with⟨c59,h⟩|⟨c59,h⟩
   ·obtain rfl:=lf h
    exact ct ww (p60<|sg 15 c59<|eF .normal (jV t true))<|by kernel_rfl
   ·have p62:=fun{sc F} (r:PS sc F)=>p60<|sg 15 c59<|sv (be t)<|sv (bh t)<|cw (bR.ln t.Names)<|r
    rcases aX h with⟨c61,h⟩|⟨c61,h⟩
    ·obtain rfl:=lf h
     exact ct ww (p62<|sg 20 c61<|sv (be t)<|sv (bh t)<|cw (bR.ln t.Names)<|sv (aT t)<|sv (aU t)<|cw (cQ.ln t.Args)<|eF .normal (jV t ((t.Names.length:Int)!=(aO ((t.Args.length:Int) - 1)))))<|by kernel_rfl
    ·obtain rfl:=lf h
     exact ct ww (p62<|sg 20 c61<|eF .normal (jV t false))<|by kernel_rfl
 ·obtain rfl:=lf h
  exact ct ww (p56<|sg 4 c55<|eF .normal (jV t false))<|by kernel_rfl
end
section
variable(t:ae)
def Lo:az:=aW 113 [(1,.eptr (af t))] [.dead] []
def jW(o:Bool):az:=aW 113 [(112,.bool o)] [.dead] []
def zS:Option Bool:=
 if (t.Op == 4) = true then
  (wy t.Name true).bind fun r68=>
  if(!r68)=true then
   some true
  else
   if(t.Op==5)=true then
    (wy t.Name false).bind fun r73=>
    some (!r73)
   else
    some false
 else
  if(t.Op==5)=true then
   (wy t.Name false).bind fun r76=>
   some (!r76)
  else
   some false
theorem Jd{x:Bool}(h:zS t=some x):aQ Pg GE 0 (cA Xv 124) (EX .normal (jW x)) (Lo t):=by
 have p67:=fun{sc F} (r:PS sc F)=>sv (aH t)<|sv (aJ t)<|r
 rcases aX h with⟨c66,h⟩|⟨c66,h⟩
 ·obtain⟨r68,br68,h⟩:=aA h
  have p70:=fun{sc F} (r:PS sc F)=>p67<|sg 4 c66<|sv (df t)<|sv (dz t)<|bP (zM br68)<|r
  rcases aX h with⟨c69,h⟩|⟨c69,h⟩
  ·obtain rfl:=lf h
   exact ct ww (p70<|sg 10 c69<|eF .normal (jW true))<|by kernel_rfl
  ·have p72:=fun{sc F} (r:PS sc F)=>p70<|sg 10 c69<|sv (aH t)<|sv (aJ t)<|r
   rcases aX h with⟨c71,h⟩|⟨c71,h⟩
   ·obtain⟨r73,br73,h⟩:=aA h
    obtain rfl:=lf h
    exact ct ww (p72<|sg 14 c71<|sv (df t)<|sv (dz t)<|bP (zM br73)<|eF .normal (jW (!r73)))<|by kernel_rfl
   ·obtain rfl:=lf h
    exact ct ww (p72<|sg 14 c71<|eF .normal (jW false))<|by kernel_rfl
 ·have p75:=fun{sc F} (r:PS sc F)=>p67<|sg 4 c66<|sv (aH t)<|sv (aJ t)<|r
  rcases aX h with⟨c74,h⟩|⟨c74,h⟩
  ·obtain⟨r76,br76,h⟩:=aA h
   obtain rfl:=lf h
   exact ct ww (p75<|sg 14 c74<|sv (df t)<|sv (dz t)<|bP (zM br76)<|eF .normal (jW (!r76)))<|by kernel_rfl
  ·obtain rfl:=lf h
   exact ct ww (p75<|sg 14 c74<|eF .normal (jW false))<|by kernel_rfl
end
def D2(t:ae):Option Int:=
 (zP t).bind fun o47=>
 if o47=true then
  some 1
 else
  (zQ t).bind fun o52=>
  if o52=true then
   some 13
  else
   (zR t).bind fun o63=>
   if o63=true then
    some 13
   else
    (zS t).bind fun o77=>
    if o77=true then
     some 3
    else
     some 0
theorem Pq{t:ae}{r:Int}(h:D2 t=some r):CC Pg GE 86 [.agg (af t)] (.int .i64 r) []:=by
 obtain⟨o47,bo47,h⟩:=aA h
 have p49:=fun{sc F} (r:PS sc F)=>se (co t)<|oe 1<|di (Ja t bo47)<|r
 rcases aX h with⟨c48,h⟩|⟨c48,h⟩
 ·obtain rfl:=lf h
  have z:=p49<|sg 0 c48<|en (aI (rP (.int .i64 1))<|trivial)
  exact ck ww call86 func86 (c:=Xv) rfl (aI (av t) trivial) z<|by kernel_rfl
 ·obtain⟨o52,bo52,h⟩:=aA h
  have p54:=fun{sc F} (r:PS sc F)=>p49<|sg 0 c48<|oe 1<|di (Jb t bo52)<|r
  rcases aX h with⟨c53,h⟩|⟨c53,h⟩
  ·obtain rfl:=lf h
   have z:=p54<|sg 0 c53<|en (aI (rP (.int .i64 13))<|trivial)
   exact ck ww call86 func86 (c:=Xv) rfl (aI (av t) trivial) z<|by kernel_rfl
  ·obtain⟨o63,bo63,h⟩:=aA h
   have p65:=fun{sc F} (r:PS sc F)=>p54<|sg 0 c53<|oe 1<|di (Jc t bo63)<|r
   rcases aX h with⟨c64,h⟩|⟨c64,h⟩
   ·obtain rfl:=lf h
    have z:=p65<|sg 0 c64<|en (aI (rP (.int .i64 13))<|trivial)
    exact ck ww call86 func86 (c:=Xv) rfl (aI (av t) trivial) z<|by kernel_rfl
   ·obtain⟨o77,bo77,h⟩:=aA h
    have p79:=fun{sc F} (r:PS sc F)=>p65<|sg 0 c64<|oe 1<|di (Jd t bo77)<|r
    rcases aX h with⟨c78,h⟩|⟨c78,h⟩
    ·obtain rfl:=lf h
     have z:=p79<|sg 0 c78<|en (aI (rP (.int .i64 3))<|trivial)
     exact ck ww call86 func86 (c:=Xv) rfl (aI (av t) trivial) z<|by kernel_rfl
    ·obtain rfl:=lf h
     have z:=p79<|sg 0 c78<|en (aI (rP (.int .i64 0))<|trivial)
     exact ck ww call86 func86 (c:=Xv) rfl (aI (av t) trivial) z<|by kernel_rfl
noncomputable def qaS:Code:=f61.body.getD .skip
def qab:List Nat:=[11,23]
section
variable(R17:xJ)(t13:waC)(t14:Int)(t15:Int)
def mA:az:=aW 25 [(13,sl af t13),(14,.int .i64 t14),(15,.int .i64 t15)] [.dead] []
def mB(o:Int⊕(Unit)):Exit:=match o with
 |(.inl _)=>.ret
 |(.inr _)=>.exit 0
def jU(o:Int⊕(Unit)):az:=match o with
 |(.inl o)=>aW 25 [(2,.int .i64 o)] [.dead] []
 |(.inr o)=>aW 25 [] [.dead] []
def Cm:Option (Int⊕(Int⊕(Unit))):=
 if(decide (t15<t14))=true then
  (cH t13 t15).bind fun x5=>
  (R17 x5).bind fun r6=>
  if(r6 !=0)=true then
   some (.inr (.inl r6))
  else
   some (.inl (aO (t15+1)))
 else
  some (.inr (.inr ()))
def zN:Option (Int⊕(Unit)):=loop (fun(zz:Int)=>Cm R17 t13 t14 zz) t15
theorem HC(hR17:CW R17){y:Int⊕(Int⊕(Unit))}(h:Cm R17 t13 t14 t15=some y):aQ Pg GE 0 (cA qaS 119) (LQ (fun(zz:Int)=>mA t13 t14 zz) mB jU y) (mA t13 t14 t15):=by
 rcases aX h with⟨c4,h⟩|⟨c4,h⟩
 ·obtain⟨x5,bx5,h⟩:=aA h
  obtain⟨r6,br6,h⟩:=aA h
  have p8:=fun{sc F} (r:PS sc F)=>sg 0 c4<|sv (cQ.ia (k:=.i64) bx5)<|sv (aZ x5)<|sx A6<|sx (iX x5)<|sv (dj x5 [])<|bP (hR17 _ _ br6)<|r
  rcases aX h with⟨c7,h⟩|⟨c7,h⟩
  ·obtain rfl:=lf h
   have z:=p8<|sg 0 c7<|y4 0 (mB (.inl r6)) (jU (.inl r6)) rfl (eh (aI trivial trivial)) (aI trivial trivial)
   exact Gs (A:=qab) mixed (by intro hx;cases hx) z<|by kernel_rfl
  ·obtain rfl:=lf h
   have z:=p8<|sg 0 c7<|y4 0 .normal (mA t13 t14 (aO (t15+1))) rfl (eh (aI (up (aq av t13)) (aI trivial (aI trivial trivial)))) (aI trivial trivial)
   exact dV (A:=qab) mixed z<|by kernel_rfl
 ·obtain rfl:=lf h
  have z:=sg 0 c4<|eF (mB (.inr ())) (jU (.inr ()))
  exact iW qab (by intro hx;cases hx) z<|by kernel_rfl
theorem zO(hR17:CW R17){x:Int⊕(Unit)}(h:zN R17 t13 t14 t15=some x):aQ Pg GE 0 (.loop (cA qaS 119)) (EX (mB x) (jU x)) (mA t13 t14 t15):=
 aQ.loop (S:=fun(zz:Int)=>mA t13 t14 zz) (ex:=mB) (s:=t15) h fun zz y hy=>HC R17 t13 t14 zz hR17 hy
end
def xu(R17:xJ)(t:ae):Option Int:=
 (D2 t).bind fun r1=>
 if(r1 !=0)=true then
  some r1
 else
  (zN R17 t.Args (t.Args.length:Int) 0).bind fun o9=>match o9 with
  |(.inl o9)=>
   some o9
  |(.inr o9)=>
   some 0
theorem NE(R17:xJ)(hR17:CW R17){t:ae}{r:Int}(h:xu R17 t=some r):CC Pg GE 61 [.agg (af t)] (.int .i64 r) []:=by
 obtain⟨r1,br1,h⟩:=aA h
 have p3:=fun{sc F} (r:PS sc F)=>se (co t)<|sv (aZ t)<|bP (Pq br1)<|r
 rcases aX h with⟨c2,h⟩|⟨c2,h⟩
 ·obtain rfl:=lf h
  have z:=p3<|sg 0 c2<|en (aI (rP (.int .i64 r1))<|trivial)
  exact ck qab call61 func61 (c:=qaS) rfl (aI (av t) trivial) z<|by kernel_rfl
 ·obtain⟨o9,bo9,h⟩:=aA h
  rcases o9 with o9|o9
  ·obtain rfl:=lf h
   have z:=p3<|sg 0 c2<|sv (aT t)<|sv (aU t)<|cw (cQ.ln t.Args)<|di (e:=.ret) (s1:=jU (.inl o9)) (zO R17 t.Args (t.Args.length:Int) 0 hR17 bo9)<|en (aI (rP (.int .i64 o9))<|trivial)
   exact ck qab call61 func61 (c:=qaS) rfl (aI (av t) trivial) z<|by kernel_rfl
  ·obtain rfl:=lf h
   have z:=p3<|sg 0 c2<|sv (aT t)<|sv (aU t)<|cw (cQ.ln t.Args)<|di (e:=.exit 0) (s1:=jU (.inr o9)) (zO R17 t.Args (t.Args.length:Int) 0 hR17 bo9)<|en (aI (rP (.int .i64 0))<|trivial)
   exact ck qab call61 func61 (c:=qaS) rfl (aI (av t) trivial) z<|by kernel_rfl
def C0:(ae->Option Int)->(ae)->Option Int:=fun(rec:ae->Option Int) (x:ae)=>xu (fun t=>rec t) x
def I9(t:ae):Option Int:=oP C0 t
theorem Pp{t:ae}{r:Int}(h:I9 t=some r):CC Pg GE 61 [.agg (af t)] (.int .i64 r) []:=
 cR (F:=C0) (M:=fun(x:ae) (r:Int)=>CC Pg GE 61 [.agg (af x)] (.int .i64 r) []) (fun rec hrec x r h=>NE _ (fun t r h=>hrec t r h) h) h
noncomputable def qc6:Code:=f39.body.getD .skip
def qc0:List Nat:=[]
def Bm(t:ae):Option Int:=
 (FC t).bind fun r1=>
 if(decide (r1>40))=true then
  some 8
 else
  (I9 t).bind fun r4=>
  some r4
theorem NC{t:ae}{r:Int}(h:Bm t=some r):CC Pg GE 39 [.agg (af t)] (.int .i64 r) []:=by
 obtain⟨r1,br1,h⟩:=aA h
 have p3:=fun{sc F} (r:PS sc F)=>se (co t)<|sv (aZ t)<|bP (ND br1)<|r
 rcases aX h with⟨c2,h⟩|⟨c2,h⟩
 ·obtain rfl:=lf h
  have z:=p3<|sg 0 c2<|en (aI (rP (.int .i64 8))<|trivial)
  exact ck qc0 call39 func39 (c:=qc6) rfl (aI (av t) trivial) z<|by kernel_rfl
 ·obtain⟨r4,br4,h⟩:=aA h
  obtain rfl:=lf h
  have z:=p3<|sg 0 c2<|sv (aZ t)<|bP (Pp br4)<|en (aI (rP (.int .i64 r4))<|trivial)
  exact ck qc0 call39 func39 (c:=qc6) rfl (aI (av t) trivial) z<|by kernel_rfl
abbrev xK:=(ae->Option Int)
abbrev CX(R:xK):Prop:=∀(t:ae) (r:Int),R t=some r->CC Pg GE 40 [.agg (af t)] (.int .i64 r) []
abbrev xH:=(aa->aa->Option Bool)
abbrev CU(R:xH):Prop:=∀(a:aa) (a2:aa) (r:Bool),R a a2=some r->CC Pg GE 19 [.agg (ac a),.agg (ac a2)] (.bool r) []
noncomputable def qad:Code:=f19.body.getD .skip
def W8:List Nat:=[39]
section
variable(v:aa)(v2:aa)
def La:az:=aW 53 [(2,.eptr (ac v)),(3,.eptr (ac v2))] [.dead,.dead] []
def ms(o:Bool):az:=aW 53 [(2,.eptr (ac v)),(3,.eptr (ac v2)),(33,.bool o)] [.dead,.dead] []
def zB:Option Bool:=
 if(v.Op !=v2.Op)=true then
  some true
 else
  if(!(v.Name==v2.Name))=true then
   some true
  else
   if(v.N !=v2.N)=true then
    some true
   else
    some ((v.Kids.length:Int)!=(v2.Kids.length:Int))
theorem I0{x:Bool}(h:zB v v2=some x):aQ Pg GE 0 (cA qad 12) (EX .normal (ms v v2 x)) (La v v2):=by
 have p2:=fun{sc F} (r:PS sc F)=>sv (bq v)<|sv (bv v)<|sv (bq v2)<|sv (bv v2)<|r
 rcases aX h with⟨c1,h⟩|⟨c1,h⟩
 ·obtain rfl:=lf h
  exact ct W8 (p2<|sg 6 c1<|eF .normal (ms v v2 true))<|by kernel_rfl
 ·have p4:=fun{sc F} (r:PS sc F)=>p2<|sg 6 c1<|sv (cx v)<|sv (cJ v)<|sv (cx v2)<|sv (cJ v2)<|r
  rcases aX h with⟨c3,h⟩|⟨c3,h⟩
  ·obtain rfl:=lf h
   exact ct W8 (p4<|sg 13 c3<|eF .normal (ms v v2 true))<|by kernel_rfl
  ·have p6:=fun{sc F} (r:PS sc F)=>p4<|sg 13 c3<|sv (cO v)<|sv (dh v)<|sv (cO v2)<|sv (dh v2)<|r
   rcases aX h with⟨c5,h⟩|⟨c5,h⟩
   ·obtain rfl:=lf h
    exact ct W8 (p6<|sg 20 c5<|eF .normal (ms v v2 true))<|by kernel_rfl
   ·obtain rfl:=lf h
    exact ct W8 (p6<|sg 20 c5<|sv (bu v)<|sv (bw v)<|cw (cd.ln v.Kids)<|sv (bu v2)<|sv (bw v2)<|cw (cd.ln v2.Kids)<|eF .normal (ms v v2 ((v.Kids.length:Int)!=(v2.Kids.length:Int))))<|by kernel_rfl
end
section
variable(R34:xH)(v:aa)(v2:aa)(t36:Int)(t37:Int)
def mt:az:=aW 53 [(2,.eptr (ac v)),(3,.eptr (ac v2)),(36,.int .i64 t36),(37,.int .i64 t37)] [.dead,.dead] []
def mw(o:Unit⊕(Unit)):Exit:=match o with
 |(.inl _)=>.ret
 |(.inr _)=>.exit 0
def jS(o:Unit⊕(Unit)):az:=match o with
 |(.inl o)=>aW 53 [(4,.bool false)] [.dead,.dead] []
 |(.inr o)=>aW 53 [] [.dead,.dead] []
def qj:Option (Int⊕(Unit⊕(Unit))):=
 if(decide (t37<t36))=true then
  (cH v.Kids t37).bind fun x11=>
  (cH v2.Kids t37).bind fun x12=>
  (R34 x11 x12).bind fun r13=>
  if(!r13)=true then
   some (.inr (.inl ()))
  else
   some (.inl (aO (t37+1)))
 else
  some (.inr (.inr ()))
def zC:Option (Unit⊕(Unit)):=loop (fun(zz:Int)=>qj R34 v v2 t36 zz) t37
theorem Hz(hR34:CU R34){y:Int⊕(Unit⊕(Unit))}(h:qj R34 v v2 t36 t37=some y):aQ Pg GE 0 (cA qad 119) (LQ (fun(zz:Int)=>mt v v2 t36 zz) mw jS y) (mt v v2 t36 t37):=by
 rcases aX h with⟨c10,h⟩|⟨c10,h⟩
 ·obtain⟨x11,bx11,h⟩:=aA h
  obtain⟨x12,bx12,h⟩:=aA h
  obtain⟨r13,br13,h⟩:=aA h
  have p15:=fun{sc F} (r:PS sc F)=>sg 0 c10<|ra [0,1,0,7,15,0,32,0,224,480,1023,2047]<|sv (bu v)<|sv (bw v)<|sv (cd.ia (k:=.i64) bx11)<|sv (aY x11)<|sv (bu v2)<|sv (bw v2)<|sv (cd.ia (k:=.i64) bx12)<|sv (aY x12)<|bP (hR34 _ _ _ br13)<|r
  rcases aX h with⟨c14,h⟩|⟨c14,h⟩
  ·obtain rfl:=lf h
   have z:=p15<|sg 0 c14<|eF (mw (.inl ())) (jS (.inl ()))
   exact iW W8 (by intro hx;cases hx) z<|by kernel_rfl
  ·obtain rfl:=lf h
   exact rF W8 (p15<|sg 0 c14<|eF .normal (mt v v2 t36 (aO (t37+1))))<|by kernel_rfl
 ·obtain rfl:=lf h
  have z:=sg 0 c10<|eF (mw (.inr ())) (jS (.inr ()))
  exact iW W8 (by intro hx;cases hx) z<|by kernel_rfl
theorem zD(hR34:CU R34){x:Unit⊕(Unit)}(h:zC R34 v v2 t36 t37=some x):aQ Pg GE 0 (.loop (cA qad 119)) (EX (mw x) (jS x)) (mt v v2 t36 t37):=
 aQ.loop (S:=fun(zz:Int)=>mt v v2 t36 zz) (ex:=mw) (s:=t37) h fun zz y hy=>Hz R34 v v2 t36 zz hR34 hy
end
def xp(R34:xH)(a:aa)(a2:aa):Option Bool:=
 (zB a a2).bind fun o7=>
 if o7=true then
  some false
 else
  (zC R34 a a2 (a.Kids.length:Int) 0).bind fun o16=>match o16 with
  |(.inl o16)=>
   some false
  |(.inr o16)=>
   some true
theorem Nz(R34:xH)(hR34:CU R34){a:aa}{a2:aa}{r:Bool}(h:xp R34 a a2=some r):CC Pg GE 19 [.agg (ac a),.agg (ac a2)] (.bool r) []:=by
 obtain⟨o7,bo7,h⟩:=aA h
 have p9:=fun{sc F} (r:PS sc F)=>se (cf a)<|se (cf a2)<|oe 1<|di (I0 a a2 bo7)<|r
 rcases aX h with⟨c8,h⟩|⟨c8,h⟩
 ·obtain rfl:=lf h
  have z:=p9<|sg 0 c8<|en (aI (rP (.bool false))<|trivial)
  exact ck W8 call19 func19 (c:=qad) rfl (aI (ah a) (aI (ah a2) trivial)) z<|by kernel_rfl
 ·obtain⟨o16,bo16,h⟩:=aA h
  rcases o16 with o16|o16
  ·obtain rfl:=lf h
   have z:=p9<|sg 0 c8<|sv (bu a)<|sv (bw a)<|cw (cd.ln a.Kids)<|di (e:=.ret) (s1:=jS (.inl o16)) (zD R34 a a2 (a.Kids.length:Int) 0 hR34 bo16)<|en (aI (rP (.bool false))<|trivial)
   exact ck W8 call19 func19 (c:=qad) rfl (aI (ah a) (aI (ah a2) trivial)) z<|by kernel_rfl
  ·obtain rfl:=lf h
   have z:=p9<|sg 0 c8<|sv (bu a)<|sv (bw a)<|cw (cd.ln a.Kids)<|di (e:=.exit 0) (s1:=jS (.inr o16)) (zD R34 a a2 (a.Kids.length:Int) 0 hR34 bo16)<|en (aI (rP (.bool true))<|trivial)
   exact ck W8 call19 func19 (c:=qad) rfl (aI (ah a) (aI (ah a2) trivial)) z<|by kernel_rfl
def CY:((aa×aa)->Option Bool)->(aa×aa)->Option Bool:=fun(rec:(aa×aa)->Option Bool) (x:aa×aa)=>xp (fun a a2=>rec (a,a2)) x.1 x.2
def tf(a:aa)(a2:aa):Option Bool:=oP CY (a,a2)
theorem uF{a:aa}{a2:aa}{r:Bool}(h:tf a a2=some r):CC Pg GE 19 [.agg (ac a),.agg (ac a2)] (.bool r) []:=
 cR (F:=CY) (M:=fun(x:aa×aa) (r:Bool)=>CC Pg GE 19 [.agg (ac x.1),.agg (ac x.2)] (.bool r) []) (fun rec hrec x r h=>Nz _ (fun a a2 r h=>hrec (a,a2) r h) h) h
noncomputable def qdM:Code:=f73.body.getD .skip
def qdB:List Nat:=[]
def Aj(p:aa):Option Bool:=
 (tf p (⟨0,([]:ag),0,([]:List aa)⟩:aa)).bind fun r1=>
 some r1
theorem G0{p:aa}{r:Bool}(h:Aj p=some r):CC Pg GE 73 [.agg (ac p)] (.bool r) []:=by
 obtain⟨r1,br1,h⟩:=aA h
 obtain rfl:=lf h
 have z:=se (cf p)<|sv (aY p)<|sb (tN) (tL)<|bP (uF br1)<|en (aI (rP (.bool r1))<|trivial)
 exact ck qdB call73 func73 (c:=qdM) rfl (aI (ah p) trivial) z<|by kernel_rfl
noncomputable def qbZ:Code:=f88.body.getD .skip
def qaz:List Nat:=[8]
section
variable(v:waB)(t5:Int)(t6:Int)
def gV:az:=aW 18 [(0,sl cS v),(5,.int .i64 t5),(6,.int .i64 t6)] [] []
def gW(o:Unit⊕(Unit)):Exit:=match o with
 |(.inl _)=>.ret
 |(.inr _)=>.exit 0
def fw(o:Unit⊕(Unit)):az:=match o with
 |(.inl o)=>aW 18 [(2,.bool false)] [] []
 |(.inr o)=>aW 18 [] [] []
def uA:Option (Int⊕(Unit⊕(Unit))):=
 if(decide (t6<t5))=true then
  (cH v t6).bind fun x2=>
  (wx v x2).bind fun r3=>
  if(r3 !=t6)=true then
   some (.inr (.inl ()))
  else
   some (.inl (aO (t6+1)))
 else
  some (.inr (.inr ()))
def rq:Option (Unit⊕(Unit)):=loop (fun(zz:Int)=>uA v t5 zz) t6
theorem BY{y:Int⊕(Unit⊕(Unit))}(h:uA v t5 t6=some y):aQ Pg GE 0 (cA qbZ 55) (LQ (fun(zz:Int)=>gV v t5 zz) gW fw y) (gV v t5 t6):=by
 rcases aX h with⟨c1,h⟩|⟨c1,h⟩
 ·obtain⟨x2,bx2,h⟩:=aA h
  obtain⟨r3,br3,h⟩:=aA h
  have p5:=fun{sc F} (r:PS sc F)=>sg 0 c1<|sv (bR.ia (k:=.i64) bx2)<|sv (iY Nd (.str x2) [])<|bP (GT br3)<|r
  rcases aX h with⟨c4,h⟩|⟨c4,h⟩
  ·obtain rfl:=lf h
   have z:=p5<|sg 0 c4<|eF (gW (.inl ())) (fw (.inl ()))
   exact iW qaz (by intro hx;cases hx) z<|by kernel_rfl
  ·obtain rfl:=lf h
   exact rF qaz (p5<|sg 0 c4<|eF .normal (gV v t5 (aO (t6+1))))<|by kernel_rfl
 ·obtain rfl:=lf h
  have z:=sg 0 c1<|eF (gW (.inr ())) (fw (.inr ()))
  exact iW qaz (by intro hx;cases hx) z<|by kernel_rfl
theorem ta{x:Unit⊕(Unit)}(h:rq v t5 t6=some x):aQ Pg GE 0 (.loop (cA qbZ 55)) (EX (gW x) (fw x)) (gV v t5 t6):=
 aQ.loop (S:=fun(zz:Int)=>gV v t5 zz) (ex:=gW) (s:=t6) h fun zz y hy=>BY v t5 zz hy
end
def sd(a:waB):Option Bool:=
 (rq a (a.length:Int) 0).bind fun o6=>match o6 with
 |(.inl o6)=>
  some false
 |(.inr o6)=>
  some true
theorem Hq{a:waB}{r:Bool}(h:sd a=some r):CC Pg GE 88 [sl cS a] (.bool r) []:=by
 obtain⟨o6,bo6,h⟩:=aA h
 rcases o6 with o6|o6
 ·obtain rfl:=lf h
  have z:=cw (bR.ln a)<|di (e:=.ret) (s1:=fw (.inl o6)) (ta a (a.length:Int) 0 bo6)<|en (aI (rP (.bool false))<|trivial)
  exact ck qaz call88 func88 (c:=qbZ) rfl (aI (aq iu a) trivial) z<|by kernel_rfl
 ·obtain rfl:=lf h
  have z:=cw (bR.ln a)<|di (e:=.exit 0) (s1:=fw (.inr o6)) (ta a (a.length:Int) 0 bo6)<|en (aI (rP (.bool true))<|trivial)
  exact ck qaz call88 func88 (c:=qbZ) rfl (aI (aq iu a) trivial) z<|by kernel_rfl
abbrev uP:=(aa->Option Int)
abbrev zg(R:uP):Prop:=∀(p:aa) (r:Int),R p=some r->CC Pg GE 105 [.agg (ac p)] (.int .i64 r) []
noncomputable def Zj:Code:=f105.body.getD .skip
def Y5:List Nat:=[18]
section
variable(R37:uP)(t7:waA)(t8:Int)(n:Int)(t9:Int)
def kp:az:=aW 19 [(3,.int .i64 n),(7,sl ac t7),(8,.int .i64 t8),(9,.int .i64 t9)] [.dead] []
def te(o:Int):az:=aW 19 [(3,.int .i64 o)] [.dead] []
def oq:Option ((Int×Int)⊕(Int)):=
 if(decide (t9<t8))=true then
  (cH t7 t9).bind fun x2=>
  (R37 x2).bind fun r3=>
  some (.inl (aO (n+r3),aO (t9+1)))
 else
  some (.inr n)
def xo:Option Int:=loop (fun(zz:Int×Int)=>oq R37 t7 t8 zz.1 zz.2) (n,t9)
theorem FB(hR37:zg R37){y:(Int×Int)⊕(Int)}(h:oq R37 t7 t8 n t9=some y):aQ Pg GE 0 (cA Zj 119) (LQ (fun(zz:Int×Int)=>kp t7 t8 zz.1 zz.2) (fun _=>.exit 0) te y) (kp t7 t8 n t9):=by
 rcases aX h with⟨c1,h⟩|⟨c1,h⟩
 ·obtain⟨x2,bx2,h⟩:=aA h
  obtain⟨r3,br3,h⟩:=aA h
  obtain rfl:=lf h
  have z:=sg 0 c1<|sv (cd.ia (k:=.i64) bx2)<|sv (aY x2)<|sx lM<|sx (dn x2)<|sv (ch x2 [])<|bP (hR37 _ _ br3)<|y4 0 .normal (kp t7 t8 (aO (n+r3)) (aO (t9+1))) rfl (eh (aI trivial (aI (up (aq ah t7)) (aI trivial (aI trivial trivial))))) (aI trivial trivial)
  exact dV (A:=Y5) mixed z<|by kernel_rfl
 ·obtain rfl:=lf h
  have z:=sg 0 c1<|eF (.exit 0) (te n)
  exact iW Y5 (by intro hx;cases hx) z<|by kernel_rfl
theorem Hy(hR37:zg R37){x:Int}(h:xo R37 t7 t8 n t9=some x):aQ Pg GE 0 (.loop (cA Zj 119)) (EX (.exit 0) (te x)) (kp t7 t8 n t9):=
 aQ.loop (S:=fun(zz:Int×Int)=>kp t7 t8 zz.1 zz.2) (ex:=(fun _=>.exit 0)) (s:=(n,t9)) h fun zz y hy=>FB R37 t7 t8 zz.1 zz.2 hR37 hy
end
def uE(R37:uP)(p:aa):Option Int:=
 (xo R37 p.Kids (p.Kids.length:Int) 1 0).bind fun o4=>
 some o4
theorem K9(R37:uP)(hR37:zg R37){p:aa}{r:Int}(h:uE R37 p=some r):CC Pg GE 105 [.agg (ac p)] (.int .i64 r) []:=by
 obtain⟨o4,bo4,h⟩:=aA h
 obtain rfl:=lf h
 have z:=se (cf p)<|sv (bu p)<|sv (bw p)<|cw (cd.ln p.Kids)<|di (Hy R37 p.Kids (p.Kids.length:Int) 1 0 hR37 bo4)<|en (aI (rP (.int .i64 o4))<|trivial)
 exact ck Y5 call105 func105 (c:=Zj) rfl (aI (ah p) trivial) z<|by kernel_rfl
def zA:(aa->Option Int)->(aa)->Option Int:=fun(rec:aa->Option Int) (x:aa)=>uE (fun p=>rec p) x
def FA(p:aa):Option Int:=oP zA p
theorem Ny{p:aa}{r:Int}(h:FA p=some r):CC Pg GE 105 [.agg (ac p)] (.int .i64 r) []:=
 cR (F:=zA) (M:=fun(x:aa) (r:Int)=>CC Pg GE 105 [.agg (ac x)] (.int .i64 r) []) (fun rec hrec x r h=>K9 _ (fun p r h=>hrec p r h) h) h
abbrev uO:=(aa->Option Int)
abbrev zf(R:uO):Prop:=∀(p:aa) (r:Int),R p=some r->CC Pg GE 106 [.agg (ac p)] (.int .i64 r) []
end Go.Proofs.YtbaamopmfmpfaaaGreatDoor
