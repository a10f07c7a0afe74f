/- PROVED: a part of the proof. Conditions: none. -/
import Derived.Test.YtbaamopmfmpfaaaGreatDoorPkC11
noncomputable section
namespace Go.Proofs.YtbaamopmfmpfaaaGreatDoor
open Go Go.Proofs.Tryz
set_option linter.unusedVariables false
set_option maxRecDepth 100000
noncomputable def Rl:Code:=f128.body.getD .skip
def D2:List Nat:=[21]
section
variable(p:ag)
def Lh:az:=aY 65 [(0,.str p)] [] []
def vB(o:Bool):az:=aY 65 [(0,.str p),(13,.bool o)] [] []
def zK:Option Bool:=
 if(decide ((p.length:Int)<1))=true then
  some true
 else
  some (decide ((p.length:Int)>24))
theorem I9{x:Bool}(h:zK p=some x):aT Pg GE 0 (cA Rl 12) (EX .normal (vB p x)) (Lh p):=by
 rcases aZ h with⟨c1,h⟩|⟨c1,h⟩
 ·obtain rfl:=lf h
  exact cw D2 (cz (gI underlying9 p)<|sg 4 c1<|eF .normal (vB p true))<|by kernel_rfl
 ·obtain rfl:=lf h
  exact cw D2 (cz (gI underlying9 p)<|sg 4 c1<|cz (gI underlying9 p)<|eF .normal (vB p (decide ((p.length:Int)>24))))<|by kernel_rfl
end
section
variable(p:ag)(plain:Bool)(word:Bool)(i:Int)(t18:Int)
def Li:az:=aY 65 [(0,.str p),(3,.bool plain),(4,.bool word),(5,.int .i64 i),(18,.int .i64 t18),(19,.int .i64 i)] [] []
def mg(o:Bool):az:=aY 65 [(0,.str p),(3,.bool o),(4,.bool word),(5,.int .i64 i),(18,.int .i64 t18),(19,.int .i64 i)] [] []
def uz:Option Bool:=
 if plain=true then
  (sG p i).bind fun c9=>
  (lc c9).bind fun r10=>
  if r10=true then
   some true
  else
   (sG p i).bind fun c13=>
   (nI c13).bind fun r14=>
   if r14=true then
    some true
   else
    (sG p i).bind fun c17=>
    (pw c17).bind fun r18=>
    some r18
 else
  some false
theorem Ja{x:Bool}(h:uz p plain i=some x):aT Pg GE 0 (cA Rl 32246) (EX .normal (mg p word i t18 x)) (Li p plain word i t18):=by
 rcases aZ h with⟨c8,h⟩|⟨c8,h⟩
 ·obtain⟨c9,bc9,h⟩:=aB h
  obtain⟨r10,br10,h⟩:=aB h
  have p12:=fun{sc F} (r:PS sc F)=>sg 2 c8<|sv (po (k:=.i64) underlying9 bc9)<|bT (lh br10)<|r
  rcases aZ h with⟨c11,h⟩|⟨c11,h⟩
  ·obtain rfl:=lf h
   exact cw D2 (p12<|sg 7 c11<|eF .normal (mg p word i t18 true))<|by kernel_rfl
  ·obtain⟨c13,bc13,h⟩:=aB h
   obtain⟨r14,br14,h⟩:=aB h
   have p16:=fun{sc F} (r:PS sc F)=>p12<|sg 7 c11<|sv (po (k:=.i64) underlying9 bc13)<|bT (sY br14)<|r
   rcases aZ h with⟨c15,h⟩|⟨c15,h⟩
   ·obtain rfl:=lf h
    exact cw D2 (p16<|sg 13 c15<|eF .normal (mg p word i t18 true))<|by kernel_rfl
   ·obtain⟨c17,bc17,h⟩:=aB h
    obtain⟨r18,br18,h⟩:=aB h
    obtain rfl:=lf h
    exact cw D2 (p16<|sg 13 c15<|sv (po (k:=.i64) underlying9 bc17)<|bT (sa br18)<|eF .normal (mg p word i t18 r18))<|by kernel_rfl
 ·obtain rfl:=lf h
  exact cw D2 (sg 2 c8<|eF .normal (mg p word i t18 false))<|by kernel_rfl
end
section
variable(p:ag)(t18:Int)(plain:Bool)(word:Bool)(t19:Int)
def gf:az:=aY 65 [(0,.str p),(3,.bool plain),(4,.bool word),(18,.int .i64 t18),(19,.int .i64 t19)] [] []
def vC(o:Bool×Bool):az:=aY 65 [(3,.bool o.1),(4,.bool o.2)] [] []
def jL:Option ((Bool×Bool×Int)⊕((Bool×Bool))):=
 if (decide (t19 < t18)) = true then
  (uz p plain t19).bind fun o19=>
  if word=true then
   (sG p t19).bind fun c22=>
   (lc c22).bind fun r23=>
   if r23=true then
    some (.inl (o19,true,aR (t19+1)))
   else
    (sG p t19).bind fun c26=>
    (pw c26).bind fun r27=>
    if r27=true then
     some (.inl (o19,true,aR (t19+1)))
    else
     (sG p t19).bind fun c30=>
     some (.inl (o19,c30==95,aR (t19+1)))
  else
   some (.inl (o19,false,aR (t19+1)))
 else
  some (.inr (plain,word))
def zL:Option ((Bool×Bool)):=loop (fun(zz:Bool×Bool×Int)=>jL p t18 zz.1 zz.2.1 zz.2.2) (plain,word,t19)
theorem HE{y:(Bool×Bool×Int)⊕((Bool×Bool))}(h:jL p t18 plain word t19=some y):aT Pg GE 0 (cA Rl 503) (LQ (fun(zz:Bool×Bool×Int)=>gf p t18 zz.1 zz.2.1 zz.2.2) (fun _=>.exit 0) vC y) (gf p t18 plain word t19):=by
 rcases aZ h with⟨c7,h⟩|⟨c7,h⟩
 ·obtain⟨o19,bo19,h⟩:=aB h
  have p21:=fun{sc F} (r:PS sc F)=>sg 0 c7<|nD 2<|di (Ja p plain word t19 t18 bo19)<|r
  rcases aZ h with⟨c20,h⟩|⟨c20,h⟩
  ·obtain⟨c22,bc22,h⟩:=aB h
   obtain⟨r23,br23,h⟩:=aB h
   have p25:=fun{sc F} (r:PS sc F)=>p21<|sg 2 c20<|sv (po (k:=.i64) underlying9 bc22)<|bT (lh br23)<|r
   rcases aZ h with⟨c24,h⟩|⟨c24,h⟩
   ·obtain rfl:=lf h
    exact rU D2 (p25<|sg 7 c24<|eF .normal (gf p t18 o19 true (aR (t19+1))))<|by kernel_rfl
   ·obtain⟨c26,bc26,h⟩:=aB h
    obtain⟨r27,br27,h⟩:=aB h
    have p29:=fun{sc F} (r:PS sc F)=>p25<|sg 7 c24<|sv (po (k:=.i64) underlying9 bc26)<|bT (sa br27)<|r
    rcases aZ h with⟨c28,h⟩|⟨c28,h⟩
    ·obtain rfl:=lf h
     exact rU D2 (p29<|sg 13 c28<|eF .normal (gf p t18 o19 true (aR (t19+1))))<|by kernel_rfl
    ·obtain⟨c30,bc30,h⟩:=aB h
     obtain rfl:=lf h
     exact rU D2 (p29<|sg 13 c28<|sv (po (k:=.i64) underlying9 bc30)<|eF .normal (gf p t18 o19 (c30==95) (aR (t19+1))))<|by kernel_rfl
  ·obtain rfl:=lf h
   exact rU D2 (p21<|sg 2 c20<|eF .normal (gf p t18 o19 false (aR (t19+1))))<|by kernel_rfl
 ·obtain rfl:=lf h
  have z:=sg 0 c7<|eF (.exit 0) (vC (plain,word))
  exact i7 D2 (by intro hx;cases hx) z<|by kernel_rfl
theorem Jb{x:(Bool×Bool)}(h:zL p t18 plain word t19=some x):aT Pg GE 0 (.loop (cA Rl 503)) (EX (.exit 0) (vC x)) (gf p t18 plain word t19):=
 aT.loop (S:=fun(zz:Bool×Bool×Int)=>gf p t18 zz.1 zz.2.1 zz.2.2) (ex:=(fun _=>.exit 0)) (s:=(plain,word,t19)) h fun zz y hy=>HE p t18 zz.1 zz.2.1 zz.2.2 hy
end
def D7(p:ag):Option Bool:=
 (zK p).bind fun o2=>
 if o2=true then
  some false
 else
  (sG p 0).bind fun c5=>
  (lc c5).bind fun r6=>
  (zL p (p.length:Int) true r6 0).bind fun o31=>
  if o31.1=true then
   some true
  else
   some o31.2
theorem Pv{p:ag}{r:Bool}(h:D7 p=some r):CC Pg GE 128 [.str p] (.bool r) []:=by
 obtain⟨o2,bo2,h⟩:=aB h
 have p4:=fun{sc F} (r:PS sc F)=>nD 2<|di (I9 p bo2)<|r
 rcases aZ h with⟨c3,h⟩|⟨c3,h⟩
 ·obtain rfl:=lf h
  have z:=p4<|sg 0 c3<|en (aI (rP (.bool false))<|trivial)
  exact cn D2 call128 func128 (c:=Rl) rfl (aI trivial trivial) z<|by kernel_rfl
 ·obtain⟨c5,bc5,h⟩:=aB h
  obtain⟨r6,br6,h⟩:=aB h
  obtain⟨o31,bo31,h⟩:=aB h
  have p33:=fun{sc F} (r:PS sc F)=>p4<|sg 0 c3<|sv (po (k:=.i64) underlying9 bc5)<|bT (lh br6)<|cz (gI underlying9 p)<|di (Jb p (p.length:Int) true r6 0 bo31)<|r
  rcases aZ h with⟨c32,h⟩|⟨c32,h⟩
  ·obtain rfl:=lf h
   have z:=p33<|sg 2 c32<|en (aI (rP (.bool true))<|trivial)
   exact cn D2 call128 func128 (c:=Rl) rfl (aI trivial trivial) z<|by kernel_rfl
  ·obtain rfl:=lf h
   have z:=p33<|sg 2 c32<|en (aI (rP (.bool o31.2))<|trivial)
   exact cn D2 call128 func128 (c:=Rl) rfl (aI trivial trivial) z<|by kernel_rfl
noncomputable def Rj:Code:=f115.body.getD .skip
def IZ:List Nat:=[]
section
variable(v:waA)
def Lg:az:=aY 45 [(3,sl cS v)] [] [((3,0),9)]
def lZ(o:Bool):az:=aY 45 [(3,sl cS v),(33,.bool o)] [] [((3,0),9)]
def uv:Option Bool:=
 (cR v 0).bind fun x3=>
 (pu x3).bind fun r4=>
 if (r4 != 0) = true then
  (cR v 0).bind fun x7=>
  (Bw x7).bind fun r8=>
  if(r8 !=0)=true then
   (cR v 0).bind fun x11=>
   if(!(x11==([118]:ag)))=true then
    some true
   else
    some ((v.length:Int)==1)
  else
   some false
 else
  some false
theorem I5{x:Bool}(h:uv v=some x):aT Pg GE 0 (cA Rj 60) (EX .normal (lZ v x)) (Lg v):=by
 obtain⟨x3,bx3,h⟩:=aB h
 obtain⟨r4,br4,h⟩:=aB h
 have p6:=fun{sc F} (r:PS sc F)=>sv (bJ.ia (k:=.i64) bx3)<|sv (im Mo (.str x3) [])<|bT (D5 br4)<|r
 rcases aZ h with⟨c5,h⟩|⟨c5,h⟩
 ·obtain⟨x7,bx7,h⟩:=aB h
  obtain⟨r8,br8,h⟩:=aB h
  have p10:=fun{sc F} (r:PS sc F)=>p6<|sg 6 c5<|sv (bJ.ia (k:=.i64) bx7)<|sv (im Mo (.str x7) [])<|bT (NF br8)<|r
  rcases aZ h with⟨c9,h⟩|⟨c9,h⟩
  ·obtain⟨x11,bx11,h⟩:=aB h
   have p13:=fun{sc F} (r:PS sc F)=>p10<|sg 13 c9<|sv (bJ.ia (k:=.i64) bx11)<|sv (im Mo (.str x11) [])<|r
   rcases aZ h with⟨c12,h⟩|⟨c12,h⟩
   ·obtain rfl:=lf h
    exact cw IZ (p13<|sg 18 c12<|eF .normal (lZ v true))<|by kernel_rfl
   ·obtain rfl:=lf h
    exact cw IZ (p13<|sg 18 c12<|cz (bJ.ln v)<|eF .normal (lZ v ((v.length:Int)==1)))<|by kernel_rfl
  ·obtain rfl:=lf h
   exact cw IZ (p10<|sg 13 c9<|eF .normal (lZ v false))<|by kernel_rfl
 ·obtain rfl:=lf h
  exact cw IZ (p6<|sg 6 c5<|eF .normal (lZ v false))<|by kernel_rfl
end
section
variable(t35:waA)(t36:Int)(t37:Int)
def ma:az:=aY 45 [(35,sl cS t35),(36,.int .i64 t36),(37,.int .i64 t37)] [] []
def mb(o:Unit⊕(Unit)):Exit:=match o with
 |(.inl _)=>.ret
 |(.inr _)=>.exit 0
def jJ(o:Unit⊕(Unit)):az:=match o with
 |(.inl o)=>aY 45 [(2,.int .i64 3)] [] []
 |(.inr o)=>aY 45 [] [] []
def Cr:Option (Int⊕(Unit⊕(Unit))):=
 if(decide (t37<t36))=true then
  (cR t35 t37).bind fun x19=>
  (D7 x19).bind fun r20=>
  if(!r20)=true then
   some (.inr (.inl ()))
  else
   some (.inl (aR (t37+1)))
 else
  some (.inr (.inr ()))
def zF:Option (Unit⊕(Unit)):=loop (fun(zz:Int)=>Cr t35 t36 zz) t37
theorem Hy{y:Int⊕(Unit⊕(Unit))}(h:Cr t35 t36 t37=some y):aT Pg GE 0 (cA Rj 503) (LQ (fun(zz:Int)=>ma t35 t36 zz) mb jJ y) (ma t35 t36 t37):=by
 rcases aZ h with⟨c18,h⟩|⟨c18,h⟩
 ·obtain⟨x19,bx19,h⟩:=aB h
  obtain⟨r20,br20,h⟩:=aB h
  have p22:=fun{sc F} (r:PS sc F)=>sg 0 c18<|sv (bJ.ia (k:=.i64) bx19)<|sv (im Mo (.str x19) [])<|bT (Pv br20)<|r
  rcases aZ h with⟨c21,h⟩|⟨c21,h⟩
  ·obtain rfl:=lf h
   have z:=p22<|sg 0 c21<|eF (mb (.inl ())) (jJ (.inl ()))
   exact i7 IZ (by intro hx;cases hx) z<|by kernel_rfl
  ·obtain rfl:=lf h
   exact rU IZ (p22<|sg 0 c21<|eF .normal (ma t35 t36 (aR (t37+1))))<|by kernel_rfl
 ·obtain rfl:=lf h
  have z:=sg 0 c18<|eF (mb (.inr ())) (jJ (.inr ()))
  exact i7 IZ (by intro hx;cases hx) z<|by kernel_rfl
theorem zG{x:Unit⊕(Unit)}(h:zF t35 t36 t37=some x):aT Pg GE 0 (.loop (cA Rj 503)) (EX (mb x) (jJ x)) (ma t35 t36 t37):=
 aT.loop (S:=fun(zz:Int)=>ma t35 t36 zz) (ex:=mb) (s:=t37) h fun zz y hy=>Hy t35 t36 zz hy
end
def qD(s:ag):Option Int:=
 if(decide ((s.length:Int)>120))=true then
  some 3
 else
  (Bx s).bind fun r2=>
  (uv r2).bind fun o14=>
  if o14=true then
   some 3
  else
   (Ld r2 (some 1) none).bind fun l17=>
   (zF l17 (l17.length:Int) 0).bind fun o23=>match o23 with
   |(.inl o23)=>
    some 3
   |(.inr o23)=>
    some 0
theorem qE{s:ag}{r:Int}(h:qD s=some r):CC Pg GE 115 [.str s] (.int .i64 r) []:=by
 rcases aZ h with⟨c1,h⟩|⟨c1,h⟩
 ·obtain rfl:=lf h
  have z:=cz (gI underlying9 s)<|sg 0 c1<|en (aI (rP (.int .i64 3))<|trivial)
  exact cn IZ call115 func115 (c:=Rj) rfl (aI trivial trivial) z<|by kernel_rfl
 ·obtain⟨r2,br2,h⟩:=aB h
  obtain⟨o14,bo14,h⟩:=aB h
  have p16:=fun{sc F} (r:PS sc F)=>cz (gI underlying9 s)<|sg 0 c1<|bT (NG br2)<|nD 1<|di (I5 r2 bo14)<|r
  rcases aZ h with⟨c15,h⟩|⟨c15,h⟩
  ·obtain rfl:=lf h
   have z:=p16<|sg 0 c15<|en (aI (rP (.int .i64 3))<|trivial)
   exact cn IZ call115 func115 (c:=Rj) rfl (aI trivial trivial) z<|by kernel_rfl
  ·obtain⟨l17,bl17,h⟩:=aB h
   obtain⟨o23,bo23,h⟩:=aB h
   rcases o23 with o23|o23
   ·obtain rfl:=lf h
    have z:=p16<|sg 0 c15<|sv (bJ.sc bl17)<|cz (bJ.ln l17)<|di (e:=.ret) (s1:=jJ (.inl o23)) (zG l17 (l17.length:Int) 0 bo23)<|en (aI (rP (.int .i64 3))<|trivial)
    exact cn IZ call115 func115 (c:=Rj) rfl (aI trivial trivial) z<|by kernel_rfl
   ·obtain rfl:=lf h
    have z:=p16<|sg 0 c15<|sv (bJ.sc bl17)<|cz (bJ.ln l17)<|di (e:=.exit 0) (s1:=jJ (.inr o23)) (zG l17 (l17.length:Int) 0 bo23)<|en (aI (rP (.int .i64 0))<|trivial)
    exact cn IZ call115 func115 (c:=Rj) rfl (aI trivial trivial) z<|by kernel_rfl
noncomputable def Zu:Code:=f101.body.getD .skip
def Zg:List Nat:=[]
def wE(s:ag)(capital:Bool):Option Bool:=
 (qD s).bind fun r1=>
 if(r1==0)=true then
  (sG s 0).bind fun c3=>
  if(decide (c3>=65))=true then
   (sG s 0).bind fun c6=>
   some ((decide (c6<=90))==capital)
  else
   some (false==capital)
 else
  some false
theorem z7{s:ag}{capital:Bool}{r:Bool}(h:wE s capital=some r):CC Pg GE 101 [.str s,.bool capital] (.bool r) []:=by
 obtain⟨r1,br1,h⟩:=aB h
 rcases aZ h with⟨c2,h⟩|⟨c2,h⟩
 ·obtain⟨c3,bc3,h⟩:=aB h
  have p5:=fun{sc F} (r:PS sc F)=>bT (qE br1)<|sg 4 c2<|sv (po (k:=.i64) underlying9 bc3)<|r
  rcases aZ h with⟨c4,h⟩|⟨c4,h⟩
  ·obtain⟨c6,bc6,h⟩:=aB h
   obtain rfl:=lf h
   have z:=p5<|sg 8 c4<|sv (po (k:=.i64) underlying9 bc6)<|en (aI (rP (.bool ((decide (c6<=90))==capital)))<|trivial)
   exact cn Zg call101 func101 (c:=Zu) rfl (aI trivial (aI trivial trivial)) z<|by kernel_rfl
  ·obtain rfl:=lf h
   have z:=p5<|sg 8 c4<|en (aI (rP (.bool (false==capital)))<|trivial)
   exact cn Zg call101 func101 (c:=Zu) rfl (aI trivial (aI trivial trivial)) z<|by kernel_rfl
 ·obtain rfl:=lf h
  have z:=bT (qE br1)<|sg 4 c2<|en (aI (rP (.bool false))<|trivial)
  exact cn Zg call101 func101 (c:=Zu) rfl (aI trivial (aI trivial trivial)) z<|by kernel_rfl
noncomputable def XG:Code:=f86.body.getD .skip
def wA:List Nat:=[]
section
variable(t:ae)
def Lv:az:=aY 113 [(1,.eptr (af t))] [.dead] []
def bp(o:Bool):az:=aY 113 [(1,.eptr (af t)),(52,.bool o)] [.dead] []
def Ab:Option Bool:=
 if(decide (t.Op<1))=true then
  some true
 else
  if(decide (t.Op>6))=true then
   some true
  else
   if (!(t.Name == ([]:ag))) = true then
    if (t.Op != 4) = true then
     if(t.Op !=5)=true then
      some true
     else
      if (decide ((t.Args.length:Int) > 0)) = true then
       if (t.Op != 4) = true then
        if(t.Op !=6)=true then
         some true
        else
         if(decide ((t.Names.length:Int)>0))=true then
          some (t.Op !=6)
         else
          some false
       else
        if(decide ((t.Names.length:Int)>0))=true then
         some (t.Op !=6)
        else
         some false
      else
       if(decide ((t.Names.length:Int)>0))=true then
        some (t.Op !=6)
       else
        some false
    else
     if (decide ((t.Args.length:Int) > 0)) = true then
      if (t.Op != 4) = true then
       if(t.Op !=6)=true then
        some true
       else
        if(decide ((t.Names.length:Int)>0))=true then
         some (t.Op !=6)
        else
         some false
      else
       if(decide ((t.Names.length:Int)>0))=true then
        some (t.Op !=6)
       else
        some false
     else
      if(decide ((t.Names.length:Int)>0))=true then
       some (t.Op !=6)
      else
       some false
   else
    if (decide ((t.Args.length:Int) > 0)) = true then
     if (t.Op != 4) = true then
      if(t.Op !=6)=true then
       some true
      else
       if(decide ((t.Names.length:Int)>0))=true then
        some (t.Op !=6)
       else
        some false
     else
      if(decide ((t.Names.length:Int)>0))=true then
       some (t.Op !=6)
      else
       some false
    else
     if(decide ((t.Names.length:Int)>0))=true then
      some (t.Op !=6)
     else
      some false
theorem Jm{x:Bool}(h:Ab t=some x):aT Pg GE 0 (cA XG 12) (EX .normal (bp t x)) (Lv t):=by
 have p2:=fun{sc F} (r:PS sc F)=>sv (aK t)<|sv (aL t)<|r
 rcases aZ h with⟨c1,h⟩|⟨c1,h⟩
 ·obtain rfl:=lf h
  exact cw wA (p2<|sg 4 c1<|eF .normal (bp t true))<|by kernel_rfl
 ·have p4:=fun{sc F} (r:PS sc F)=>p2<|sg 4 c1<|sv (aK t)<|sv (aL t)<|r
  rcases aZ h with⟨c3,h⟩|⟨c3,h⟩
  ·obtain rfl:=lf h
   exact cw wA (p4<|sg 9 c3<|eF .normal (bp t true))<|by kernel_rfl
  ·have p6:=fun{sc F} (r:PS sc F)=>p4<|sg 9 c3<|sv (df t)<|sv (dA t)<|r
   rcases aZ h with⟨c5,h⟩|⟨c5,h⟩
   ·have p8:=fun{sc F} (r:PS sc F)=>p6<|sg 13 c5<|sv (aK t)<|sv (aL t)<|r
    rcases aZ h with⟨c7,h⟩|⟨c7,h⟩
    ·have p10:=fun{sc F} (r:PS sc F)=>p8<|sg 18 c7<|sv (aK t)<|sv (aL t)<|r
     rcases aZ h with⟨c9,h⟩|⟨c9,h⟩
     ·obtain rfl:=lf h
      exact cw wA (p10<|sg 24 c9<|eF .normal (bp t true))<|by kernel_rfl
     ·have p12:=fun{sc F} (r:PS sc F)=>p10<|sg 24 c9<|sv (aW t)<|sv (aX t)<|cz (cX.ln t.Args)<|r
      rcases aZ h with⟨c11,h⟩|⟨c11,h⟩
      ·have p14:=fun{sc F} (r:PS sc F)=>p12<|sg 29 c11<|sv (aK t)<|sv (aL t)<|r
       rcases aZ h with⟨c13,h⟩|⟨c13,h⟩
       ·have p16:=fun{sc F} (r:PS sc F)=>p14<|sg 34 c13<|sv (aK t)<|sv (aL t)<|r
        rcases aZ h with⟨c15,h⟩|⟨c15,h⟩
        ·obtain rfl:=lf h
         exact cw wA (p16<|sg 40 c15<|eF .normal (bp t true))<|by kernel_rfl
        ·have p18:=fun{sc F} (r:PS sc F)=>p16<|sg 40 c15<|sv (bh t)<|sv (bj t)<|cz (bJ.ln t.Names)<|r
         rcases aZ h with⟨c17,h⟩|⟨c17,h⟩
         ·obtain rfl:=lf h
          exact cw wA (p18<|sg 45 c17<|sv (aK t)<|sv (aL t)<|eF .normal (bp t (t.Op !=6)))<|by kernel_rfl
         ·obtain rfl:=lf h
          exact cw wA (p18<|sg 45 c17<|eF .normal (bp t false))<|by kernel_rfl
       ·have p20:=fun{sc F} (r:PS sc F)=>p14<|sg 34 c13<|sv (bh t)<|sv (bj t)<|cz (bJ.ln t.Names)<|r
        rcases aZ h with⟨c19,h⟩|⟨c19,h⟩
        ·obtain rfl:=lf h
         exact cw wA (p20<|sg 45 c19<|sv (aK t)<|sv (aL t)<|eF .normal (bp t (t.Op !=6)))<|by kernel_rfl
        ·obtain rfl:=lf h
         exact cw wA (p20<|sg 45 c19<|eF .normal (bp t false))<|by kernel_rfl
      ·have p22:=fun{sc F} (r:PS sc F)=>p12<|sg 29 c11<|sv (bh t)<|sv (bj t)<|cz (bJ.ln t.Names)<|r
       rcases aZ h with⟨c21,h⟩|⟨c21,h⟩
       ·obtain rfl:=lf h
        exact cw wA (p22<|sg 45 c21<|sv (aK t)<|sv (aL t)<|eF .normal (bp t (t.Op !=6)))<|by kernel_rfl
       ·obtain rfl:=lf h
        exact cw wA (p22<|sg 45 c21<|eF .normal (bp t false))<|by kernel_rfl
    ·have p24:=fun{sc F} (r:PS sc F)=>p8<|sg 18 c7<|sv (aW t)<|sv (aX t)<|cz (cX.ln t.Args)<|r
     rcases aZ h with⟨c23,h⟩|⟨c23,h⟩
     ·have p26:=fun{sc F} (r:PS sc F)=>p24<|sg 29 c23<|sv (aK t)<|sv (aL t)<|r
      rcases aZ h with⟨c25,h⟩|⟨c25,h⟩
      ·have p28:=fun{sc F} (r:PS sc F)=>p26<|sg 34 c25<|sv (aK t)<|sv (aL t)<|r
       rcases aZ h with⟨c27,h⟩|⟨c27,h⟩
       ·obtain rfl:=lf h
        exact cw wA (p28<|sg 40 c27<|eF .normal (bp t true))<|by kernel_rfl
       ·have p30:=fun{sc F} (r:PS sc F)=>p28<|sg 40 c27<|sv (bh t)<|sv (bj t)<|cz (bJ.ln t.Names)<|r
        rcases aZ h with⟨c29,h⟩|⟨c29,h⟩
        ·obtain rfl:=lf h
         exact cw wA (p30<|sg 45 c29<|sv (aK t)<|sv (aL t)<|eF .normal (bp t (t.Op !=6)))<|by kernel_rfl
        ·obtain rfl:=lf h
         exact cw wA (p30<|sg 45 c29<|eF .normal (bp t false))<|by kernel_rfl
      ·have p32:=fun{sc F} (r:PS sc F)=>p26<|sg 34 c25<|sv (bh t)<|sv (bj t)<|cz (bJ.ln t.Names)<|r
       rcases aZ h with⟨c31,h⟩|⟨c31,h⟩
       ·obtain rfl:=lf h
        exact cw wA (p32<|sg 45 c31<|sv (aK t)<|sv (aL t)<|eF .normal (bp t (t.Op !=6)))<|by kernel_rfl
       ·obtain rfl:=lf h
        exact cw wA (p32<|sg 45 c31<|eF .normal (bp t false))<|by kernel_rfl
     ·have p34:=fun{sc F} (r:PS sc F)=>p24<|sg 29 c23<|sv (bh t)<|sv (bj t)<|cz (bJ.ln t.Names)<|r
      rcases aZ h with⟨c33,h⟩|⟨c33,h⟩
      ·obtain rfl:=lf h
       exact cw wA (p34<|sg 45 c33<|sv (aK t)<|sv (aL t)<|eF .normal (bp t (t.Op !=6)))<|by kernel_rfl
      ·obtain rfl:=lf h
       exact cw wA (p34<|sg 45 c33<|eF .normal (bp t false))<|by kernel_rfl
   ·have p36:=fun{sc F} (r:PS sc F)=>p6<|sg 13 c5<|sv (aW t)<|sv (aX t)<|cz (cX.ln t.Args)<|r
    rcases aZ h with⟨c35,h⟩|⟨c35,h⟩
    ·have p38:=fun{sc F} (r:PS sc F)=>p36<|sg 29 c35<|sv (aK t)<|sv (aL t)<|r
     rcases aZ h with⟨c37,h⟩|⟨c37,h⟩
     ·have p40:=fun{sc F} (r:PS sc F)=>p38<|sg 34 c37<|sv (aK t)<|sv (aL t)<|r
      rcases aZ h with⟨c39,h⟩|⟨c39,h⟩
      ·obtain rfl:=lf h
       exact cw wA (p40<|sg 40 c39<|eF .normal (bp t true))<|by kernel_rfl
      ·have p42:=fun{sc F} (r:PS sc F)=>p40<|sg 40 c39<|sv (bh t)<|sv (bj t)<|cz (bJ.ln t.Names)<|r
       rcases aZ h with⟨c41,h⟩|⟨c41,h⟩
       ·obtain rfl:=lf h
        exact cw wA (p42<|sg 45 c41<|sv (aK t)<|sv (aL t)<|eF .normal (bp t (t.Op !=6)))<|by kernel_rfl
       ·obtain rfl:=lf h
        exact cw wA (p42<|sg 45 c41<|eF .normal (bp t false))<|by kernel_rfl
     ·have p44:=fun{sc F} (r:PS sc F)=>p38<|sg 34 c37<|sv (bh t)<|sv (bj t)<|cz (bJ.ln t.Names)<|r
      rcases aZ h with⟨c43,h⟩|⟨c43,h⟩
      ·obtain rfl:=lf h
       exact cw wA (p44<|sg 45 c43<|sv (aK t)<|sv (aL t)<|eF .normal (bp t (t.Op !=6)))<|by kernel_rfl
      ·obtain rfl:=lf h
       exact cw wA (p44<|sg 45 c43<|eF .normal (bp t false))<|by kernel_rfl
    ·have p46:=fun{sc F} (r:PS sc F)=>p36<|sg 29 c35<|sv (bh t)<|sv (bj t)<|cz (bJ.ln t.Names)<|r
     rcases aZ h with⟨c45,h⟩|⟨c45,h⟩
     ·obtain rfl:=lf h
      exact cw wA (p46<|sg 45 c45<|sv (aK t)<|sv (aL t)<|eF .normal (bp t (t.Op !=6)))<|by kernel_rfl
     ·obtain rfl:=lf h
      exact cw wA (p46<|sg 45 c45<|eF .normal (bp t false))<|by kernel_rfl
end
section
variable(t:ae)
def Lw:az:=aY 113 [(1,.eptr (af t))] [.dead] []
def vI(o:Bool):az:=aY 113 [(1,.eptr (af t)),(61,.bool o)] [.dead] []
def Ac:Option Bool:=
 if(t.Op==4)=true then
  some (decide ((t.Args.length:Int)>6))
 else
  some false
theorem Jn{x:Bool}(h:Ac t=some x):aT Pg GE 0 (cA XG 28) (EX .normal (vI t x)) (Lw t):=by
 have p51:=fun{sc F} (r:PS sc F)=>sv (aK t)<|sv (aL t)<|r
 rcases aZ h with⟨c50,h⟩|⟨c50,h⟩
 ·obtain rfl:=lf h
  exact cw wA (p51<|sg 4 c50<|sv (aW t)<|sv (aX t)<|cz (cX.ln t.Args)<|eF .normal (vI t (decide ((t.Args.length:Int)>6))))<|by kernel_rfl
 ·obtain rfl:=lf h
  exact cw wA (p51<|sg 4 c50<|eF .normal (vI t false))<|by kernel_rfl
end
section
variable(t:ae)
def Lx:az:=aY 113 [(1,.eptr (af t))] [.dead] []
def jP(o:Bool):az:=aY 113 [(1,.eptr (af t)),(92,.bool o)] [.dead] []
def Ad:Option Bool:=
 if (t.Op == 6) = true then
  if(decide ((t.Args.length:Int)<2))=true then
   some true
  else
   if(decide ((t.Args.length:Int)>7))=true then
    some true
   else
    if(decide ((t.Names.length:Int)>0))=true then
     some ((t.Names.length:Int)!=(aR ((t.Args.length:Int) - 1)))
    else
     some false
 else
  some false
theorem Jo{x:Bool}(h:Ad t=some x):aT Pg GE 0 (cA XG 60) (EX .normal (jP t x)) (Lx t):=by
 have p56:=fun{sc F} (r:PS sc F)=>sv (aK t)<|sv (aL t)<|r
 rcases aZ h with⟨c55,h⟩|⟨c55,h⟩
 ·have p58:=fun{sc F} (r:PS sc F)=>p56<|sg 4 c55<|sv (aW t)<|sv (aX t)<|cz (cX.ln t.Args)<|r
  rcases aZ h with⟨c57,h⟩|⟨c57,h⟩
  ·obtain rfl:=lf h
   exact cw wA (p58<|sg 9 c57<|eF .normal (jP t true))<|by kernel_rfl
  ·have p60:=fun{sc F} (r:PS sc F)=>p58<|sg 9 c57<|sv (aW t)<|sv (aX t)<|cz (cX.ln t.Args)<|r
   rcases aZ h with⟨c59,h⟩|⟨c59,h⟩
   ·obtain rfl:=lf h
    exact cw wA (p60<|sg 15 c59<|eF .normal (jP t true))<|by kernel_rfl
   ·have p62:=fun{sc F} (r:PS sc F)=>p60<|sg 15 c59<|sv (bh t)<|sv (bj t)<|cz (bJ.ln t.Names)<|r
    rcases aZ h with⟨c61,h⟩|⟨c61,h⟩
    ·obtain rfl:=lf h
     exact cw wA (p62<|sg 20 c61<|sv (bh t)<|sv (bj t)<|cz (bJ.ln t.Names)<|sv (aW t)<|sv (aX t)<|cz (cX.ln t.Args)<|eF .normal (jP t ((t.Names.length:Int)!=(aR ((t.Args.length:Int) - 1)))))<|by kernel_rfl
    ·obtain rfl:=lf h
     exact cw wA (p62<|sg 20 c61<|eF .normal (jP t false))<|by kernel_rfl
 ·obtain rfl:=lf h
  exact cw wA (p56<|sg 4 c55<|eF .normal (jP t false))<|by kernel_rfl
end
section
variable(t:ae)
def Ly:az:=aY 113 [(1,.eptr (af t))] [.dead] []
def jQ(o:Bool):az:=aY 113 [(112,.bool o)] [.dead] []
def Ae:Option Bool:=
 if (t.Op == 4) = true then
  (wE t.Name true).bind fun r68=>
  if(!r68)=true then
   some true
  else
   if(t.Op==5)=true then
    (wE t.Name false).bind fun r73=>
    some (!r73)
   else
    some false
 else
  if(t.Op==5)=true then
   (wE t.Name false).bind fun r76=>
   some (!r76)
  else
   some false
theorem Jp{x:Bool}(h:Ae t=some x):aT Pg GE 0 (cA XG 124) (EX .normal (jQ x)) (Ly t):=by
 have p67:=fun{sc F} (r:PS sc F)=>sv (aK t)<|sv (aL t)<|r
 rcases aZ h with⟨c66,h⟩|⟨c66,h⟩
 ·obtain⟨r68,br68,h⟩:=aB h
  have p70:=fun{sc F} (r:PS sc F)=>p67<|sg 4 c66<|sv (df t)<|sv (dA t)<|bT (z7 br68)<|r
  rcases aZ h with⟨c69,h⟩|⟨c69,h⟩
  ·obtain rfl:=lf h
   exact cw wA (p70<|sg 10 c69<|eF .normal (jQ true))<|by kernel_rfl
  ·have p72:=fun{sc F} (r:PS sc F)=>p70<|sg 10 c69<|sv (aK t)<|sv (aL t)<|r
   rcases aZ h with⟨c71,h⟩|⟨c71,h⟩
   ·obtain⟨r73,br73,h⟩:=aB h
    obtain rfl:=lf h
    exact cw wA (p72<|sg 14 c71<|sv (df t)<|sv (dA t)<|bT (z7 br73)<|eF .normal (jQ (!r73)))<|by kernel_rfl
   ·obtain rfl:=lf h
    exact cw wA (p72<|sg 14 c71<|eF .normal (jQ false))<|by kernel_rfl
 ·have p75:=fun{sc F} (r:PS sc F)=>p67<|sg 4 c66<|sv (aK t)<|sv (aL t)<|r
  rcases aZ h with⟨c74,h⟩|⟨c74,h⟩
  ·obtain⟨r76,br76,h⟩:=aB h
   obtain rfl:=lf h
   exact cw wA (p75<|sg 14 c74<|sv (df t)<|sv (dA t)<|bT (z7 br76)<|eF .normal (jQ (!r76)))<|by kernel_rfl
  ·obtain rfl:=lf h
   exact cw wA (p75<|sg 14 c74<|eF .normal (jQ false))<|by kernel_rfl
end
def D9(t:ae):Option Int:=
 (Ab t).bind fun o47=>
 if o47=true then
  some 1
 else
  (Ac t).bind fun o52=>
  if o52=true then
   some 13
  else
   (Ad t).bind fun o63=>
   if o63=true then
    some 13
   else
    (Ae t).bind fun o77=>
    if o77=true then
     some 3
    else
     some 0
theorem Pz{t:ae}{r:Int}(h:D9 t=some r):CC Pg GE 86 [.agg (af t)] (.int .i64 r) []:=by
 obtain⟨o47,bo47,h⟩:=aB h
 have p49:=fun{sc F} (r:PS sc F)=>se (cF t)<|nD 1<|di (Jm t bo47)<|r
 rcases aZ h with⟨c48,h⟩|⟨c48,h⟩
 ·obtain rfl:=lf h
  have z:=p49<|sg 0 c48<|en (aI (rP (.int .i64 1))<|trivial)
  exact cn wA call86 func86 (c:=XG) rfl (aI (av t) trivial) z<|by kernel_rfl
 ·obtain⟨o52,bo52,h⟩:=aB h
  have p54:=fun{sc F} (r:PS sc F)=>p49<|sg 0 c48<|nD 1<|di (Jn t bo52)<|r
  rcases aZ h with⟨c53,h⟩|⟨c53,h⟩
  ·obtain rfl:=lf h
   have z:=p54<|sg 0 c53<|en (aI (rP (.int .i64 13))<|trivial)
   exact cn wA call86 func86 (c:=XG) rfl (aI (av t) trivial) z<|by kernel_rfl
  ·obtain⟨o63,bo63,h⟩:=aB h
   have p65:=fun{sc F} (r:PS sc F)=>p54<|sg 0 c53<|nD 1<|di (Jo t bo63)<|r
   rcases aZ h with⟨c64,h⟩|⟨c64,h⟩
   ·obtain rfl:=lf h
    have z:=p65<|sg 0 c64<|en (aI (rP (.int .i64 13))<|trivial)
    exact cn wA call86 func86 (c:=XG) rfl (aI (av t) trivial) z<|by kernel_rfl
   ·obtain⟨o77,bo77,h⟩:=aB h
    have p79:=fun{sc F} (r:PS sc F)=>p65<|sg 0 c64<|nD 1<|di (Jp t bo77)<|r
    rcases aZ h with⟨c78,h⟩|⟨c78,h⟩
    ·obtain rfl:=lf h
     have z:=p79<|sg 0 c78<|en (aI (rP (.int .i64 3))<|trivial)
     exact cn wA call86 func86 (c:=XG) rfl (aI (av t) trivial) z<|by kernel_rfl
    ·obtain rfl:=lf h
     have z:=p79<|sg 0 c78<|en (aI (rP (.int .i64 0))<|trivial)
     exact cn wA call86 func86 (c:=XG) rfl (aI (av t) trivial) z<|by kernel_rfl
noncomputable def qa1:Code:=f61.body.getD .skip
def qal:List Nat:=[11,23]
section
variable(R17:yb)(t13:waC)(t14:Int)(t15:Int)
def mn:az:=aY 25 [(13,sl af t13),(14,.int .i64 t14),(15,.int .i64 t15)] [.dead] []
def mo(o:Int⊕(Unit)):Exit:=match o with
 |(.inl _)=>.ret
 |(.inr _)=>.exit 0
def jO(o:Int⊕(Unit)):az:=match o with
 |(.inl o)=>aY 25 [(2,.int .i64 o)] [.dead] []
 |(.inr o)=>aY 25 [] [.dead] []
def Ct:Option (Int⊕(Int⊕(Unit))):=
 if(decide (t15<t14))=true then
  (cR t13 t15).bind fun x5=>
  (R17 x5).bind fun r6=>
  if(r6 !=0)=true then
   some (.inr (.inl r6))
  else
   some (.inl (aR (t15+1)))
 else
  some (.inr (.inr ()))
def z8:Option (Int⊕(Unit)):=loop (fun(zz:Int)=>Ct R17 t13 t14 zz) t15
theorem HL(hR17:C1 R17){y:Int⊕(Int⊕(Unit))}(h:Ct R17 t13 t14 t15=some y):aT Pg GE 0 (cA qa1 119) (LQ (fun(zz:Int)=>mn t13 t14 zz) mo jO y) (mn t13 t14 t15):=by
 rcases aZ h with⟨c4,h⟩|⟨c4,h⟩
 ·obtain⟨x5,bx5,h⟩:=aB h
  obtain⟨r6,br6,h⟩:=aB h
  have p8:=fun{sc F} (r:PS sc F)=>sg 0 c4<|sv (cX.ia (k:=.i64) bx5)<|sv (bw x5)<|sx Bn<|sx (iT x5)<|sv (dj x5 [])<|bT (hR17 _ _ br6)<|r
  rcases aZ h with⟨c7,h⟩|⟨c7,h⟩
  ·obtain rfl:=lf h
   have z:=p8<|sg 0 c7<|zn 0 (mo (.inl r6)) (jO (.inl r6)) rfl (eg (aI trivial trivial)) (aI trivial trivial)
   exact Gx (A:=qal) mixed (by intro hx;cases hx) z<|by kernel_rfl
  ·obtain rfl:=lf h
   have z:=p8<|sg 0 c7<|zn 0 .normal (mn t13 t14 (aR (t15+1))) rfl (eg (aI (up (aq av t13)) (aI trivial (aI trivial trivial)))) (aI trivial trivial)
   exact dS (A:=qal) mixed z<|by kernel_rfl
 ·obtain rfl:=lf h
  have z:=sg 0 c4<|eF (mo (.inr ())) (jO (.inr ()))
  exact i7 qal (by intro hx;cases hx) z<|by kernel_rfl
theorem Aa(hR17:C1 R17){x:Int⊕(Unit)}(h:z8 R17 t13 t14 t15=some x):aT Pg GE 0 (.loop (cA qa1 119)) (EX (mo x) (jO x)) (mn t13 t14 t15):=
 aT.loop (S:=fun(zz:Int)=>mn t13 t14 zz) (ex:=mo) (s:=t15) h fun zz y hy=>HL R17 t13 t14 zz hR17 hy
end
def xL(R17:yb)(t:ae):Option Int:=
 (D9 t).bind fun r1=>
 if(r1 !=0)=true then
  some r1
 else
  (z8 R17 t.Args (t.Args.length:Int) 0).bind fun o9=>match o9 with
  |(.inl o9)=>
   some o9
  |(.inr o9)=>
   some 0
theorem NP(R17:yb)(hR17:C1 R17){t:ae}{r:Int}(h:xL R17 t=some r):CC Pg GE 61 [.agg (af t)] (.int .i64 r) []:=by
 obtain⟨r1,br1,h⟩:=aB h
 have p3:=fun{sc F} (r:PS sc F)=>se (cF t)<|sv (bw t)<|bT (Pz br1)<|r
 rcases aZ h with⟨c2,h⟩|⟨c2,h⟩
 ·obtain rfl:=lf h
  have z:=p3<|sg 0 c2<|en (aI (rP (.int .i64 r1))<|trivial)
  exact cn qal call61 func61 (c:=qa1) rfl (aI (av t) trivial) z<|by kernel_rfl
 ·obtain⟨o9,bo9,h⟩:=aB h
  rcases o9 with o9|o9
  ·obtain rfl:=lf h
   have z:=p3<|sg 0 c2<|sv (aW t)<|sv (aX t)<|cz (cX.ln t.Args)<|di (e:=.ret) (s1:=jO (.inl o9)) (Aa R17 t.Args (t.Args.length:Int) 0 hR17 bo9)<|en (aI (rP (.int .i64 o9))<|trivial)
   exact cn qal call61 func61 (c:=qa1) rfl (aI (av t) trivial) z<|by kernel_rfl
  ·obtain rfl:=lf h
   have z:=p3<|sg 0 c2<|sv (aW t)<|sv (aX t)<|cz (cX.ln t.Args)<|di (e:=.exit 0) (s1:=jO (.inr o9)) (Aa R17 t.Args (t.Args.length:Int) 0 hR17 bo9)<|en (aI (rP (.int .i64 0))<|trivial)
   exact cn qal call61 func61 (c:=qa1) rfl (aI (av t) trivial) z<|by kernel_rfl
def C6:(ae->Option Int)->(ae)->Option Int:=fun(rec:ae->Option Int) (x:ae)=>xL (fun t=>rec t) x
def Jl(t:ae):Option Int:=oG C6 t
theorem Py{t:ae}{r:Int}(h:Jl t=some r):CC Pg GE 61 [.agg (af t)] (.int .i64 r) []:=
 cU (F:=C6) (M:=fun(x:ae) (r:Int)=>CC Pg GE 61 [.agg (af x)] (.int .i64 r) []) (fun rec hrec x r h=>NP _ (fun t r h=>hrec t r h) h) h
noncomputable def qdg:Code:=f39.body.getD .skip
def qc9:List Nat:=[]
def BA(t:ae):Option Int:=
 (FM t).bind fun r1=>
 if(decide (r1>40))=true then
  some 8
 else
  (Jl t).bind fun r4=>
  some r4
theorem NN{t:ae}{r:Int}(h:BA t=some r):CC Pg GE 39 [.agg (af t)] (.int .i64 r) []:=by
 obtain⟨r1,br1,h⟩:=aB h
 have p3:=fun{sc F} (r:PS sc F)=>se (cF t)<|sv (bw t)<|bT (NO br1)<|r
 rcases aZ h with⟨c2,h⟩|⟨c2,h⟩
 ·obtain rfl:=lf h
  have z:=p3<|sg 0 c2<|en (aI (rP (.int .i64 8))<|trivial)
  exact cn qc9 call39 func39 (c:=qdg) rfl (aI (av t) trivial) z<|by kernel_rfl
 ·obtain⟨r4,br4,h⟩:=aB h
  obtain rfl:=lf h
  have z:=p3<|sg 0 c2<|sv (bw t)<|bT (Py br4)<|en (aI (rP (.int .i64 r4))<|trivial)
  exact cn qc9 call39 func39 (c:=qdg) rfl (aI (av t) trivial) z<|by kernel_rfl
abbrev yc:=(ae->Option Int)
abbrev C2(R:yc):Prop:=∀(t:ae) (r:Int),R t=some r->CC Pg GE 40 [.agg (af t)] (.int .i64 r) []
abbrev xZ:=(aa->aa->Option Bool)
abbrev CZ(R:xZ):Prop:=∀(a:aa) (a2:aa) (r:Bool),R a a2=some r->CC Pg GE 19 [.agg (ac a),.agg (ac a2)] (.bool r) []
noncomputable def qan:Code:=f19.body.getD .skip
def Xi:List Nat:=[39]
section
variable(v:aa)(v2:aa)
def Ll:az:=aY 53 [(2,.eptr (ac v)),(3,.eptr (ac v2))] [.dead,.dead] []
def mh(o:Bool):az:=aY 53 [(2,.eptr (ac v)),(3,.eptr (ac v2)),(33,.bool o)] [.dead,.dead] []
def zP:Option Bool:=
 if(v.Op !=v2.Op)=true then
  some true
 else
  if(!(v.Name==v2.Name))=true then
   some true
  else
   if(v.N !=v2.N)=true then
    some true
   else
    some ((v.Kids.length:Int)!=(v2.Kids.length:Int))
theorem Jc{x:Bool}(h:zP v v2=some x):aT Pg GE 0 (cA qan 12) (EX .normal (mh v v2 x)) (Ll v v2):=by
 have p2:=fun{sc F} (r:PS sc F)=>sv (bC v)<|sv (bD v)<|sv (bC v2)<|sv (bD v2)<|r
 rcases aZ h with⟨c1,h⟩|⟨c1,h⟩
 ·obtain rfl:=lf h
  exact cw Xi (p2<|sg 6 c1<|eF .normal (mh v v2 true))<|by kernel_rfl
 ·have p4:=fun{sc F} (r:PS sc F)=>p2<|sg 6 c1<|sv (cC v)<|sv (cN v)<|sv (cC v2)<|sv (cN v2)<|r
  rcases aZ h with⟨c3,h⟩|⟨c3,h⟩
  ·obtain rfl:=lf h
   exact cw Xi (p4<|sg 13 c3<|eF .normal (mh v v2 true))<|by kernel_rfl
  ·have p6:=fun{sc F} (r:PS sc F)=>p4<|sg 13 c3<|sv (de v)<|sv (dz v)<|sv (de v2)<|sv (dz v2)<|r
   rcases aZ h with⟨c5,h⟩|⟨c5,h⟩
   ·obtain rfl:=lf h
    exact cw Xi (p6<|sg 20 c5<|eF .normal (mh v v2 true))<|by kernel_rfl
   ·obtain rfl:=lf h
    exact cw Xi (p6<|sg 20 c5<|sv (bq v)<|sv (bu v)<|cz (ck.ln v.Kids)<|sv (bq v2)<|sv (bu v2)<|cz (ck.ln v2.Kids)<|eF .normal (mh v v2 ((v.Kids.length:Int)!=(v2.Kids.length:Int))))<|by kernel_rfl
end
section
variable(R34:xZ)(v:aa)(v2:aa)(t36:Int)(t37:Int)
def mi:az:=aY 53 [(2,.eptr (ac v)),(3,.eptr (ac v2)),(36,.int .i64 t36),(37,.int .i64 t37)] [.dead,.dead] []
def mj(o:Unit⊕(Unit)):Exit:=match o with
 |(.inl _)=>.ret
 |(.inr _)=>.exit 0
def jM(o:Unit⊕(Unit)):az:=match o with
 |(.inl o)=>aY 53 [(4,.bool false)] [.dead,.dead] []
 |(.inr o)=>aY 53 [] [.dead,.dead] []
def qc:Option (Int⊕(Unit⊕(Unit))):=
 if(decide (t37<t36))=true then
  (cR v.Kids t37).bind fun x11=>
  (cR v2.Kids t37).bind fun x12=>
  (R34 x11 x12).bind fun r13=>
  if(!r13)=true then
   some (.inr (.inl ()))
  else
   some (.inl (aR (t37+1)))
 else
  some (.inr (.inr ()))
def zQ:Option (Unit⊕(Unit)):=loop (fun(zz:Int)=>qc R34 v v2 t36 zz) t37
theorem HI(hR34:CZ R34){y:Int⊕(Unit⊕(Unit))}(h:qc R34 v v2 t36 t37=some y):aT Pg GE 0 (cA qan 119) (LQ (fun(zz:Int)=>mi v v2 t36 zz) mj jM y) (mi v v2 t36 t37):=by
 rcases aZ h with⟨c10,h⟩|⟨c10,h⟩
 ·obtain⟨x11,bx11,h⟩:=aB h
  obtain⟨x12,bx12,h⟩:=aB h
  obtain⟨r13,br13,h⟩:=aB h
  have p15:=fun{sc F} (r:PS sc F)=>sg 0 c10<|qX [0,1,0,7,15,0,32,0,224,480,1023,2047]<|sv (bq v)<|sv (bu v)<|sv (ck.ia (k:=.i64) bx11)<|sv (be x11)<|sv (bq v2)<|sv (bu v2)<|sv (ck.ia (k:=.i64) bx12)<|sv (be x12)<|bT (hR34 _ _ _ br13)<|r
  rcases aZ h with⟨c14,h⟩|⟨c14,h⟩
  ·obtain rfl:=lf h
   have z:=p15<|sg 0 c14<|eF (mj (.inl ())) (jM (.inl ()))
   exact i7 Xi (by intro hx;cases hx) z<|by kernel_rfl
  ·obtain rfl:=lf h
   exact rU Xi (p15<|sg 0 c14<|eF .normal (mi v v2 t36 (aR (t37+1))))<|by kernel_rfl
 ·obtain rfl:=lf h
  have z:=sg 0 c10<|eF (mj (.inr ())) (jM (.inr ()))
  exact i7 Xi (by intro hx;cases hx) z<|by kernel_rfl
theorem zR(hR34:CZ R34){x:Unit⊕(Unit)}(h:zQ R34 v v2 t36 t37=some x):aT Pg GE 0 (.loop (cA qan 119)) (EX (mj x) (jM x)) (mi v v2 t36 t37):=
 aT.loop (S:=fun(zz:Int)=>mi v v2 t36 zz) (ex:=mj) (s:=t37) h fun zz y hy=>HI R34 v v2 t36 zz hR34 hy
end
def xH(R34:xZ)(a:aa)(a2:aa):Option Bool:=
 (zP a a2).bind fun o7=>
 if o7=true then
  some false
 else
  (zQ R34 a a2 (a.Kids.length:Int) 0).bind fun o16=>match o16 with
  |(.inl o16)=>
   some false
  |(.inr o16)=>
   some true
theorem NK(R34:xZ)(hR34:CZ R34){a:aa}{a2:aa}{r:Bool}(h:xH R34 a a2=some r):CC Pg GE 19 [.agg (ac a),.agg (ac a2)] (.bool r) []:=by
 obtain⟨o7,bo7,h⟩:=aB h
 have p9:=fun{sc F} (r:PS sc F)=>se (cr a)<|se (cr a2)<|nD 1<|di (Jc a a2 bo7)<|r
 rcases aZ h with⟨c8,h⟩|⟨c8,h⟩
 ·obtain rfl:=lf h
  have z:=p9<|sg 0 c8<|en (aI (rP (.bool false))<|trivial)
  exact cn Xi call19 func19 (c:=qan) rfl (aI (ah a) (aI (ah a2) trivial)) z<|by kernel_rfl
 ·obtain⟨o16,bo16,h⟩:=aB h
  rcases o16 with o16|o16
  ·obtain rfl:=lf h
   have z:=p9<|sg 0 c8<|sv (bq a)<|sv (bu a)<|cz (ck.ln a.Kids)<|di (e:=.ret) (s1:=jM (.inl o16)) (zR R34 a a2 (a.Kids.length:Int) 0 hR34 bo16)<|en (aI (rP (.bool false))<|trivial)
   exact cn Xi call19 func19 (c:=qan) rfl (aI (ah a) (aI (ah a2) trivial)) z<|by kernel_rfl
  ·obtain rfl:=lf h
   have z:=p9<|sg 0 c8<|sv (bq a)<|sv (bu a)<|cz (ck.ln a.Kids)<|di (e:=.exit 0) (s1:=jM (.inr o16)) (zR R34 a a2 (a.Kids.length:Int) 0 hR34 bo16)<|en (aI (rP (.bool true))<|trivial)
   exact cn Xi call19 func19 (c:=qan) rfl (aI (ah a) (aI (ah a2) trivial)) z<|by kernel_rfl
def C4:((aa×aa)->Option Bool)->(aa×aa)->Option Bool:=fun(rec:(aa×aa)->Option Bool) (x:aa×aa)=>xH (fun a a2=>rec (a,a2)) x.1 x.2
def wD(a:aa)(a2:aa):Option Bool:=oG C4 (a,a2)
theorem zS{a:aa}{a2:aa}{r:Bool}(h:wD a a2=some r):CC Pg GE 19 [.agg (ac a),.agg (ac a2)] (.bool r) []:=
 cU (F:=C4) (M:=fun(x:aa×aa) (r:Bool)=>CC Pg GE 19 [.agg (ac x.1),.agg (ac x.2)] (.bool r) []) (fun rec hrec x r h=>NK _ (fun a a2 r h=>hrec (a,a2) r h) h) h
noncomputable def qdW:Code:=f73.body.getD .skip
def qdL:List Nat:=[]
def Ax(p:aa):Option Bool:=
 (wD p (⟨0,([]:ag),0,([]:List aa)⟩:aa)).bind fun r1=>
 some r1
theorem G7{p:aa}{r:Bool}(h:Ax p=some r):CC Pg GE 73 [.agg (ac p)] (.bool r) []:=by
 obtain⟨r1,br1,h⟩:=aB h
 obtain rfl:=lf h
 have z:=se (cr p)<|sv (be p)<|sb (tH) (tF)<|bT (zS br1)<|en (aI (rP (.bool r1))<|trivial)
 exact cn qdL call73 func73 (c:=qdW) rfl (aI (ah p) trivial) z<|by kernel_rfl
noncomputable def qb8:Code:=f88.body.getD .skip
def qaJ:List Nat:=[8]
section
variable(v:waA)(t5:Int)(t6:Int)
def gV:az:=aY 18 [(0,sl cS v),(5,.int .i64 t5),(6,.int .i64 t6)] [] []
def gW(o:Unit⊕(Unit)):Exit:=match o with
 |(.inl _)=>.ret
 |(.inr _)=>.exit 0
def fA(o:Unit⊕(Unit)):az:=match o with
 |(.inl o)=>aY 18 [(2,.bool false)] [] []
 |(.inr o)=>aY 18 [] [] []
def uw:Option (Int⊕(Unit⊕(Unit))):=
 if(decide (t6<t5))=true then
  (cR v t6).bind fun x2=>
  (wC v x2).bind fun r3=>
  if(r3 !=t6)=true then
   some (.inr (.inl ()))
  else
   some (.inl (aR (t6+1)))
 else
  some (.inr (.inr ()))
def rl:Option (Unit⊕(Unit)):=loop (fun(zz:Int)=>uw v t5 zz) t6
theorem B7{y:Int⊕(Unit⊕(Unit))}(h:uw v t5 t6=some y):aT Pg GE 0 (cA qb8 55) (LQ (fun(zz:Int)=>gV v t5 zz) gW fA y) (gV v t5 t6):=by
 rcases aZ h with⟨c1,h⟩|⟨c1,h⟩
 ·obtain⟨x2,bx2,h⟩:=aB h
  obtain⟨r3,br3,h⟩:=aB h
  have p5:=fun{sc F} (r:PS sc F)=>sg 0 c1<|sv (bJ.ia (k:=.i64) bx2)<|sv (im Mo (.str x2) [])<|bT (G0 br3)<|r
  rcases aZ h with⟨c4,h⟩|⟨c4,h⟩
  ·obtain rfl:=lf h
   have z:=p5<|sg 0 c4<|eF (gW (.inl ())) (fA (.inl ()))
   exact i7 qaJ (by intro hx;cases hx) z<|by kernel_rfl
  ·obtain rfl:=lf h
   exact rU qaJ (p5<|sg 0 c4<|eF .normal (gV v t5 (aR (t6+1))))<|by kernel_rfl
 ·obtain rfl:=lf h
  have z:=sg 0 c1<|eF (gW (.inr ())) (fA (.inr ()))
  exact i7 qaJ (by intro hx;cases hx) z<|by kernel_rfl
theorem sX{x:Unit⊕(Unit)}(h:rl v t5 t6=some x):aT Pg GE 0 (.loop (cA qb8 55)) (EX (gW x) (fA x)) (gV v t5 t6):=
 aT.loop (S:=fun(zz:Int)=>gV v t5 zz) (ex:=gW) (s:=t6) h fun zz y hy=>B7 v t5 zz hy
end
def rZ(a:waA):Option Bool:=
 (rl a (a.length:Int) 0).bind fun o6=>match o6 with
 |(.inl o6)=>
  some false
 |(.inr o6)=>
  some true
theorem Hz{a:waA}{r:Bool}(h:rZ a=some r):CC Pg GE 88 [sl cS a] (.bool r) []:=by
 obtain⟨o6,bo6,h⟩:=aB h
 rcases o6 with o6|o6
 ·obtain rfl:=lf h
  have z:=cz (bJ.ln a)<|di (e:=.ret) (s1:=fA (.inl o6)) (sX a (a.length:Int) 0 bo6)<|en (aI (rP (.bool false))<|trivial)
  exact cn qaJ call88 func88 (c:=qb8) rfl (aI (aq gG a) trivial) z<|by kernel_rfl
 ·obtain rfl:=lf h
  have z:=cz (bJ.ln a)<|di (e:=.exit 0) (s1:=fA (.inr o6)) (sX a (a.length:Int) 0 bo6)<|en (aI (rP (.bool true))<|trivial)
  exact cn qaJ call88 func88 (c:=qb8) rfl (aI (aq gG a) trivial) z<|by kernel_rfl
abbrev uL:=(aa->Option Int)
abbrev zx(R:uL):Prop:=∀(p:aa) (r:Int),R p=some r->CC Pg GE 105 [.agg (ac p)] (.int .i64 r) []
noncomputable def Zv:Code:=f105.body.getD .skip
def Zh:List Nat:=[18]
section
variable(R37:uL)(t7:waB)(t8:Int)(n:Int)(t9:Int)
def km:az:=aY 19 [(3,.int .i64 n),(7,sl ac t7),(8,.int .i64 t8),(9,.int .i64 t9)] [.dead] []
def ta(o:Int):az:=aY 19 [(3,.int .i64 o)] [.dead] []
def oc:Option ((Int×Int)⊕(Int)):=
 if(decide (t9<t8))=true then
  (cR t7 t9).bind fun x2=>
  (R37 x2).bind fun r3=>
  some (.inl (aR (n+r3),aR (t9+1)))
 else
  some (.inr n)
def xG:Option Int:=loop (fun(zz:Int×Int)=>oc R37 t7 t8 zz.1 zz.2) (n,t9)
theorem FL(hR37:zx R37){y:(Int×Int)⊕(Int)}(h:oc R37 t7 t8 n t9=some y):aT Pg GE 0 (cA Zv 119) (LQ (fun(zz:Int×Int)=>km t7 t8 zz.1 zz.2) (fun _=>.exit 0) ta y) (km t7 t8 n t9):=by
 rcases aZ h with⟨c1,h⟩|⟨c1,h⟩
 ·obtain⟨x2,bx2,h⟩:=aB h
  obtain⟨r3,br3,h⟩:=aB h
  obtain rfl:=lf h
  have z:=sg 0 c1<|sv (ck.ia (k:=.i64) bx2)<|sv (be x2)<|sx lC<|sx (dn x2)<|sv (cm x2 [])<|bT (hR37 _ _ br3)<|zn 0 .normal (km t7 t8 (aR (n+r3)) (aR (t9+1))) rfl (eg (aI trivial (aI (up (aq ah t7)) (aI trivial (aI trivial trivial))))) (aI trivial trivial)
  exact dS (A:=Zh) mixed z<|by kernel_rfl
 ·obtain rfl:=lf h
  have z:=sg 0 c1<|eF (.exit 0) (ta n)
  exact i7 Zh (by intro hx;cases hx) z<|by kernel_rfl
theorem HH(hR37:zx R37){x:Int}(h:xG R37 t7 t8 n t9=some x):aT Pg GE 0 (.loop (cA Zv 119)) (EX (.exit 0) (ta x)) (km t7 t8 n t9):=
 aT.loop (S:=fun(zz:Int×Int)=>km t7 t8 zz.1 zz.2) (ex:=(fun _=>.exit 0)) (s:=(n,t9)) h fun zz y hy=>FL R37 t7 t8 zz.1 zz.2 hR37 hy
end
def uB(R37:uL)(p:aa):Option Int:=
 (xG R37 p.Kids (p.Kids.length:Int) 1 0).bind fun o4=>
 some o4
theorem Lk(R37:uL)(hR37:zx R37){p:aa}{r:Int}(h:uB R37 p=some r):CC Pg GE 105 [.agg (ac p)] (.int .i64 r) []:=by
 obtain⟨o4,bo4,h⟩:=aB h
 obtain rfl:=lf h
 have z:=se (cr p)<|sv (bq p)<|sv (bu p)<|cz (ck.ln p.Kids)<|di (HH R37 p.Kids (p.Kids.length:Int) 1 0 hR37 bo4)<|en (aI (rP (.int .i64 o4))<|trivial)
 exact cn Zh call105 func105 (c:=Zv) rfl (aI (ah p) trivial) z<|by kernel_rfl
def zO:(aa->Option Int)->(aa)->Option Int:=fun(rec:aa->Option Int) (x:aa)=>uB (fun p=>rec p) x
def FK(p:aa):Option Int:=oG zO p
theorem NJ{p:aa}{r:Int}(h:FK p=some r):CC Pg GE 105 [.agg (ac p)] (.int .i64 r) []:=
 cU (F:=zO) (M:=fun(x:aa) (r:Int)=>CC Pg GE 105 [.agg (ac x)] (.int .i64 r) []) (fun rec hrec x r h=>Lk _ (fun p r h=>hrec p r h) h) h
abbrev uK:=(aa->Option Int)
abbrev zw(R:uK):Prop:=∀(p:aa) (r:Int),R p=some r->CC Pg GE 106 [.agg (ac p)] (.int .i64 r) []
end Go.Proofs.YtbaamopmfmpfaaaGreatDoor
