/- PROVED: a part of the proof. Conditions: none. -/
import Derived.Test.YtbaamopmfmpfaaaGreatDoorPkA11
noncomputable section
namespace Go.Proofs.YtbaamopmfmpfaaaGreatDoor
open Go Go.Proofs.Tryz
set_option linter.unusedVariables false
set_option maxRecDepth 100000
noncomputable def Yj:Code:=f128.body.getD .skip
def IM:List Nat:=[21]
section
variable(p:ag)
def Rl:aA:=be 65 [(0,.str p)] [] []
def zl(o:Bool):aA:=be 65 [(0,.str p),(13,.bool o)] [] []
def DE:Option Bool:=
 if(decide ((p.length:Int)<1))=true then
  some true
 else
  some (decide ((p.length:Int)>24))
theorem OG{x:Bool}(h:DE p=some x):aU Pg GE 0 (cA Yj 12) (EX .normal (zl p x)) (Rl p):=by
 rcases bj h with⟨c1,h⟩|⟨c1,h⟩
 ·obtain rfl:=lf h
  exact cd IM (cm (iz underlying9 p)<|sg 4 c1<|eF .normal (zl p true))<|by kernel_rfl
 ·obtain rfl:=lf h
  exact cd IM (cm (iz underlying9 p)<|sg 4 c1<|cm (iz underlying9 p)<|eF .normal (zl p (decide ((p.length:Int)>24))))<|by kernel_rfl
end
section
variable(p:ag)(plain:Bool)(word:Bool)(i:Int)(t18:Int)
def Rm:aA:=be 65 [(0,.str p),(3,.bool plain),(4,.bool word),(5,.int .i64 i),(18,.int .i64 t18),(19,.int .i64 i)] [] []
def oo(o:Bool):aA:=be 65 [(0,.str p),(3,.bool o),(4,.bool word),(5,.int .i64 i),(18,.int .i64 t18),(19,.int .i64 i)] [] []
def yu:Option Bool:=
 if plain=true then
  (vZ p i).bind fun c9=>
  (ni c9).bind fun r10=>
  if r10=true then
   some true
  else
   (vZ p i).bind fun c13=>
   (qf c13).bind fun r14=>
   if r14=true then
    some true
   else
    (vZ p i).bind fun c17=>
    (sD c17).bind fun r18=>
    some r18
 else
  some false
theorem OH{x:Bool}(h:yu p plain i=some x):aU Pg GE 0 (cA Yj 32246) (EX .normal (oo p word i t18 x)) (Rm p plain word i t18):=by
 rcases bj h with⟨c8,h⟩|⟨c8,h⟩
 ·obtain⟨c9,bc9,h⟩:=ay h
  obtain⟨r10,br10,h⟩:=ay h
  have p12:=fun{sc F} (r:PS sc F)=>sg 2 c8<|sv (sk (k:=.i64) underlying9 bc9)<|bz (nj br10)<|r
  rcases bj h with⟨c11,h⟩|⟨c11,h⟩
  ·obtain rfl:=lf h
   exact cd IM (p12<|sg 7 c11<|eF .normal (oo p word i t18 true))<|by kernel_rfl
  ·obtain⟨c13,bc13,h⟩:=ay h
   obtain⟨r14,br14,h⟩:=ay h
   have p16:=fun{sc F} (r:PS sc F)=>p12<|sg 7 c11<|sv (sk (k:=.i64) underlying9 bc13)<|bz (wD br14)<|r
   rcases bj h with⟨c15,h⟩|⟨c15,h⟩
   ·obtain rfl:=lf h
    exact cd IM (p16<|sg 13 c15<|eF .normal (oo p word i t18 true))<|by kernel_rfl
   ·obtain⟨c17,bc17,h⟩:=ay h
    obtain⟨r18,br18,h⟩:=ay h
    obtain rfl:=lf h
    exact cd IM (p16<|sg 13 c15<|sv (sk (k:=.i64) underlying9 bc17)<|bz (vG br18)<|eF .normal (oo p word i t18 r18))<|by kernel_rfl
 ·obtain rfl:=lf h
  exact cd IM (sg 2 c8<|eF .normal (oo p word i t18 false))<|by kernel_rfl
end
section
variable(p:ag)(t18:Int)(plain:Bool)(word:Bool)(t19:Int)
def gT:aA:=be 65 [(0,.str p),(3,.bool plain),(4,.bool word),(18,.int .i64 t18),(19,.int .i64 t19)] [] []
def zm(o:Bool×Bool):aA:=be 65 [(3,.bool o.1),(4,.bool o.2)] [] []
def li:Option ((Bool×Bool×Int)⊕((Bool×Bool))):=
 if (decide (t19 < t18)) = true then
  (yu p plain t19).bind fun o19=>
  if word=true then
   (vZ p t19).bind fun c22=>
   (ni c22).bind fun r23=>
   if r23=true then
    some (.inl (o19,true,aR (t19+1)))
   else
    (vZ p t19).bind fun c26=>
    (sD c26).bind fun r27=>
    if r27=true then
     some (.inl (o19,true,aR (t19+1)))
    else
     (vZ p t19).bind fun c30=>
     some (.inl (o19,c30==95,aR (t19+1)))
  else
   some (.inl (o19,false,aR (t19+1)))
 else
  some (.inr (plain,word))
def DF:Option ((Bool×Bool)):=loop (fun(zz:Bool×Bool×Int)=>li p t18 zz.1 zz.2.1 zz.2.2) (plain,word,t19)
theorem MR{y:(Bool×Bool×Int)⊕((Bool×Bool))}(h:li p t18 plain word t19=some y):aU Pg GE 0 (cA Yj 503) (LQ (fun(zz:Bool×Bool×Int)=>gT p t18 zz.1 zz.2.1 zz.2.2) (fun _=>.exit 0) zm y) (gT p t18 plain word t19):=by
 rcases bj h with⟨c7,h⟩|⟨c7,h⟩
 ·obtain⟨o19,bo19,h⟩:=ay h
  have p21:=fun{sc F} (r:PS sc F)=>sg 0 c7<|kr 2<|cW (OH p plain word t19 t18 bo19)<|r
  rcases bj h with⟨c20,h⟩|⟨c20,h⟩
  ·obtain⟨c22,bc22,h⟩:=ay h
   obtain⟨r23,br23,h⟩:=ay h
   have p25:=fun{sc F} (r:PS sc F)=>p21<|sg 2 c20<|sv (sk (k:=.i64) underlying9 bc22)<|bz (nj br23)<|r
   rcases bj h with⟨c24,h⟩|⟨c24,h⟩
   ·obtain rfl:=lf h
    exact n9 IM (p25<|sg 7 c24<|eF .normal (gT p t18 o19 true (aR (t19+1))))<|by kernel_rfl
   ·obtain⟨c26,bc26,h⟩:=ay h
    obtain⟨r27,br27,h⟩:=ay h
    have p29:=fun{sc F} (r:PS sc F)=>p25<|sg 7 c24<|sv (sk (k:=.i64) underlying9 bc26)<|bz (vG br27)<|r
    rcases bj h with⟨c28,h⟩|⟨c28,h⟩
    ·obtain rfl:=lf h
     exact n9 IM (p29<|sg 13 c28<|eF .normal (gT p t18 o19 true (aR (t19+1))))<|by kernel_rfl
    ·obtain⟨c30,bc30,h⟩:=ay h
     obtain rfl:=lf h
     exact n9 IM (p29<|sg 13 c28<|sv (sk (k:=.i64) underlying9 bc30)<|eF .normal (gT p t18 o19 (c30==95) (aR (t19+1))))<|by kernel_rfl
  ·obtain rfl:=lf h
   exact n9 IM (p21<|sg 2 c20<|eF .normal (gT p t18 o19 false (aR (t19+1))))<|by kernel_rfl
 ·obtain rfl:=lf h
  have z:=sg 0 c7<|eF (.exit 0) (zm (plain,word))
  exact f6 IM (by intro hx;cases hx) z<|by kernel_rfl
theorem OI{x:(Bool×Bool)}(h:DF p t18 plain word t19=some x):aU Pg GE 0 (.loop (cA Yj 503)) (EX (.exit 0) (zm x)) (gT p t18 plain word t19):=
 aU.loop (S:=fun(zz:Bool×Bool×Int)=>gT p t18 zz.1 zz.2.1 zz.2.2) (ex:=(fun _=>.exit 0)) (s:=(plain,word,t19)) h fun zz y hy=>MR p t18 zz.1 zz.2.1 zz.2.2 hy
end
def IV(p:ag):Option Bool:=
 (DE p).bind fun o2=>
 if o2=true then
  some false
 else
  (vZ p 0).bind fun c5=>
  (ni c5).bind fun r6=>
  (DF p (p.length:Int) true r6 0).bind fun o31=>
  if o31.1=true then
   some true
  else
   some o31.2
theorem Wd{p:ag}{r:Bool}(h:IV p=some r):CC Pg GE 128 [.str p] (.bool r) []:=by
 obtain⟨o2,bo2,h⟩:=ay h
 have p4:=fun{sc F} (r:PS sc F)=>kr 2<|cW (OG p bo2)<|r
 rcases bj h with⟨c3,h⟩|⟨c3,h⟩
 ·obtain rfl:=lf h
  have z:=p4<|sg 0 c3<|en (aI (rP (.bool false))<|trivial)
  exact bN IM call128 func128 (c:=Yj) rfl (aI trivial trivial) z<|by kernel_rfl
 ·obtain⟨c5,bc5,h⟩:=ay h
  obtain⟨r6,br6,h⟩:=ay h
  obtain⟨o31,bo31,h⟩:=ay h
  have p33:=fun{sc F} (r:PS sc F)=>p4<|sg 0 c3<|sv (sk (k:=.i64) underlying9 bc5)<|bz (nj br6)<|cm (iz underlying9 p)<|cW (OI p (p.length:Int) true r6 0 bo31)<|r
  rcases bj h with⟨c32,h⟩|⟨c32,h⟩
  ·obtain rfl:=lf h
   have z:=p33<|sg 2 c32<|en (aI (rP (.bool true))<|trivial)
   exact bN IM call128 func128 (c:=Yj) rfl (aI trivial trivial) z<|by kernel_rfl
  ·obtain rfl:=lf h
   have z:=p33<|sg 2 c32<|en (aI (rP (.bool o31.2))<|trivial)
   exact bN IM call128 func128 (c:=Yj) rfl (aI trivial trivial) z<|by kernel_rfl
noncomputable def Yh:Code:=f115.body.getD .skip
def Oq:List Nat:=[]
section
variable(v:waA)
def Rk:aA:=be 45 [(3,sl cS v)] [] [((3,0),9)]
def oe(o:Bool):aA:=be 45 [(3,sl cS v),(33,.bool o)] [] [((3,0),9)]
def yo:Option Bool:=
 (cz v 0).bind fun x3=>
 (sw x3).bind fun r4=>
 if (r4 != 0) = true then
  (cz v 0).bind fun x7=>
  (FB x7).bind fun r8=>
  if(r8 !=0)=true then
   (cz v 0).bind fun x11=>
   if(!(x11==([118]:ag)))=true then
    some true
   else
    some ((v.length:Int)==1)
  else
   some false
 else
  some false
theorem OB{x:Bool}(h:yo v=some x):aU Pg GE 0 (cA Yh 60) (EX .normal (oe v x)) (Rk v):=by
 obtain⟨x3,bx3,h⟩:=ay h
 obtain⟨r4,br4,h⟩:=ay h
 have p6:=fun{sc F} (r:PS sc F)=>sv (bp.ia (k:=.i64) bx3)<|sv (dH Ba (.str x3) [])<|bz (IR br4)<|r
 rcases bj h with⟨c5,h⟩|⟨c5,h⟩
 ·obtain⟨x7,bx7,h⟩:=ay h
  obtain⟨r8,br8,h⟩:=ay h
  have p10:=fun{sc F} (r:PS sc F)=>p6<|sg 6 c5<|sv (bp.ia (k:=.i64) bx7)<|sv (dH Ba (.str x7) [])<|bz (Uc br8)<|r
  rcases bj h with⟨c9,h⟩|⟨c9,h⟩
  ·obtain⟨x11,bx11,h⟩:=ay h
   have p13:=fun{sc F} (r:PS sc F)=>p10<|sg 13 c9<|sv (bp.ia (k:=.i64) bx11)<|sv (dH Ba (.str x11) [])<|r
   rcases bj h with⟨c12,h⟩|⟨c12,h⟩
   ·obtain rfl:=lf h
    exact cd Oq (p13<|sg 18 c12<|eF .normal (oe v true))<|by kernel_rfl
   ·obtain rfl:=lf h
    exact cd Oq (p13<|sg 18 c12<|cm (bp.ln v)<|eF .normal (oe v ((v.length:Int)==1)))<|by kernel_rfl
  ·obtain rfl:=lf h
   exact cd Oq (p10<|sg 13 c9<|eF .normal (oe v false))<|by kernel_rfl
 ·obtain rfl:=lf h
  exact cd Oq (p6<|sg 6 c5<|eF .normal (oe v false))<|by kernel_rfl
end
section
variable(t35:waA)(t36:Int)(t37:Int)
def og:aA:=be 45 [(35,sl cS t35),(36,.int .i64 t36),(37,.int .i64 t37)] [] []
def oh(o:Unit⊕(Unit)):Exit:=match o with
 |(.inl _)=>.ret
 |(.inr _)=>.exit 0
def lc(o:Unit⊕(Unit)):aA:=match o with
 |(.inl o)=>be 45 [(2,.int .i64 3)] [] []
 |(.inr o)=>be 45 [] [] []
def GO:Option (Int⊕(Unit⊕(Unit))):=
 if(decide (t37<t36))=true then
  (cz t35 t37).bind fun x19=>
  (IV x19).bind fun r20=>
  if(!r20)=true then
   some (.inr (.inl ()))
  else
   some (.inl (aR (t37+1)))
 else
  some (.inr (.inr ()))
def DA:Option (Unit⊕(Unit)):=loop (fun(zz:Int)=>GO t35 t36 zz) t37
theorem MI{y:Int⊕(Unit⊕(Unit))}(h:GO t35 t36 t37=some y):aU Pg GE 0 (cA Yh 503) (LQ (fun(zz:Int)=>og t35 t36 zz) oh lc y) (og t35 t36 t37):=by
 rcases bj h with⟨c18,h⟩|⟨c18,h⟩
 ·obtain⟨x19,bx19,h⟩:=ay h
  obtain⟨r20,br20,h⟩:=ay h
  have p22:=fun{sc F} (r:PS sc F)=>sg 0 c18<|sv (bp.ia (k:=.i64) bx19)<|sv (dH Ba (.str x19) [])<|bz (Wd br20)<|r
  rcases bj h with⟨c21,h⟩|⟨c21,h⟩
  ·obtain rfl:=lf h
   have z:=p22<|sg 0 c21<|eF (oh (.inl ())) (lc (.inl ()))
   exact f6 Oq (by intro hx;cases hx) z<|by kernel_rfl
  ·obtain rfl:=lf h
   exact n9 Oq (p22<|sg 0 c21<|eF .normal (og t35 t36 (aR (t37+1))))<|by kernel_rfl
 ·obtain rfl:=lf h
  have z:=sg 0 c18<|eF (oh (.inr ())) (lc (.inr ()))
  exact f6 Oq (by intro hx;cases hx) z<|by kernel_rfl
theorem DB{x:Unit⊕(Unit)}(h:DA t35 t36 t37=some x):aU Pg GE 0 (.loop (cA Yh 503)) (EX (oh x) (lc x)) (og t35 t36 t37):=
 aU.loop (S:=fun(zz:Int)=>og t35 t36 zz) (ex:=oh) (s:=t37) h fun zz y hy=>MI t35 t36 zz hy
end
def tS(s:ag):Option Int:=
 if(decide ((s.length:Int)>120))=true then
  some 3
 else
  (FC s).bind fun r2=>
  (yo r2).bind fun o14=>
  if o14=true then
   some 3
  else
   (N2 r2 (some 1) none).bind fun l17=>
   (DA l17 (l17.length:Int) 0).bind fun o23=>match o23 with
   |(.inl o23)=>
    some 3
   |(.inr o23)=>
    some 0
theorem tT{s:ag}{r:Int}(h:tS s=some r):CC Pg GE 115 [.str s] (.int .i64 r) []:=by
 rcases bj h with⟨c1,h⟩|⟨c1,h⟩
 ·obtain rfl:=lf h
  have z:=cm (iz underlying9 s)<|sg 0 c1<|en (aI (rP (.int .i64 3))<|trivial)
  exact bN Oq call115 func115 (c:=Yh) rfl (aI trivial trivial) z<|by kernel_rfl
 ·obtain⟨r2,br2,h⟩:=ay h
  obtain⟨o14,bo14,h⟩:=ay h
  have p16:=fun{sc F} (r:PS sc F)=>cm (iz underlying9 s)<|sg 0 c1<|bz (Ud br2)<|kr 1<|cW (OB r2 bo14)<|r
  rcases bj h with⟨c15,h⟩|⟨c15,h⟩
  ·obtain rfl:=lf h
   have z:=p16<|sg 0 c15<|en (aI (rP (.int .i64 3))<|trivial)
   exact bN Oq call115 func115 (c:=Yh) rfl (aI trivial trivial) z<|by kernel_rfl
  ·obtain⟨l17,bl17,h⟩:=ay h
   obtain⟨o23,bo23,h⟩:=ay h
   rcases o23 with o23|o23
   ·obtain rfl:=lf h
    have z:=p16<|sg 0 c15<|sv (bp.sc bl17)<|cm (bp.ln l17)<|cW (e:=.ret) (s1:=lc (.inl o23)) (DB l17 (l17.length:Int) 0 bo23)<|en (aI (rP (.int .i64 3))<|trivial)
    exact bN Oq call115 func115 (c:=Yh) rfl (aI trivial trivial) z<|by kernel_rfl
   ·obtain rfl:=lf h
    have z:=p16<|sg 0 c15<|sv (bp.sc bl17)<|cm (bp.ln l17)<|cW (e:=.exit 0) (s1:=lc (.inr o23)) (DB l17 (l17.length:Int) 0 bo23)<|en (aI (rP (.int .i64 0))<|trivial)
    exact bN Oq call115 func115 (c:=Yh) rfl (aI trivial trivial) z<|by kernel_rfl
noncomputable def qgo:Code:=f101.body.getD .skip
def qf8:List Nat:=[]
def Ao(s:ag)(capital:Bool):Option Bool:=
 (tS s).bind fun r1=>
 if(r1==0)=true then
  (vZ s 0).bind fun c3=>
  if(decide (c3>=65))=true then
   (vZ s 0).bind fun c6=>
   some ((decide (c6<=90))==capital)
  else
   some (false==capital)
 else
  some false
theorem D2{s:ag}{capital:Bool}{r:Bool}(h:Ao s capital=some r):CC Pg GE 101 [.str s,.bool capital] (.bool r) []:=by
 obtain⟨r1,br1,h⟩:=ay h
 rcases bj h with⟨c2,h⟩|⟨c2,h⟩
 ·obtain⟨c3,bc3,h⟩:=ay h
  have p5:=fun{sc F} (r:PS sc F)=>bz (tT br1)<|sg 4 c2<|sv (sk (k:=.i64) underlying9 bc3)<|r
  rcases bj h with⟨c4,h⟩|⟨c4,h⟩
  ·obtain⟨c6,bc6,h⟩:=ay h
   obtain rfl:=lf h
   have z:=p5<|sg 8 c4<|sv (sk (k:=.i64) underlying9 bc6)<|en (aI (rP (.bool ((decide (c6<=90))==capital)))<|trivial)
   exact bN qf8 call101 func101 (c:=qgo) rfl (aI trivial (aI trivial trivial)) z<|by kernel_rfl
  ·obtain rfl:=lf h
   have z:=p5<|sg 8 c4<|en (aI (rP (.bool (false==capital)))<|trivial)
   exact bN qf8 call101 func101 (c:=qgo) rfl (aI trivial (aI trivial trivial)) z<|by kernel_rfl
 ·obtain rfl:=lf h
  have z:=bz (tT br1)<|sg 4 c2<|en (aI (rP (.bool false))<|trivial)
  exact bN qf8 call101 func101 (c:=qgo) rfl (aI trivial (aI trivial trivial)) z<|by kernel_rfl
noncomputable def qeG:Code:=f86.body.getD .skip
def Ak:List Nat:=[]
section
variable(t:ae)
def RH:aA:=be 113 [(1,.eptr (af t))] [.dead] []
def bJ(o:Bool):aA:=be 113 [(1,.eptr (af t)),(52,.bool o)] [.dead] []
def D5:Option Bool:=
 if(decide (t.Op<1))=true then
  some true
 else
  if(decide (t.Op>6))=true then
   some true
  else
   if (!(t.Name == ([]:ag))) = true then
    if (t.Op != 4) = true then
     if(t.Op !=5)=true then
      some true
     else
      if (decide ((t.Args.length:Int) > 0)) = true then
       if (t.Op != 4) = true then
        if(t.Op !=6)=true then
         some true
        else
         if(decide ((t.Names.length:Int)>0))=true then
          some (t.Op !=6)
         else
          some false
       else
        if(decide ((t.Names.length:Int)>0))=true then
         some (t.Op !=6)
        else
         some false
      else
       if(decide ((t.Names.length:Int)>0))=true then
        some (t.Op !=6)
       else
        some false
    else
     if (decide ((t.Args.length:Int) > 0)) = true then
      if (t.Op != 4) = true then
       if(t.Op !=6)=true then
        some true
       else
        if(decide ((t.Names.length:Int)>0))=true then
         some (t.Op !=6)
        else
         some false
      else
       if(decide ((t.Names.length:Int)>0))=true then
        some (t.Op !=6)
       else
        some false
     else
      if(decide ((t.Names.length:Int)>0))=true then
       some (t.Op !=6)
      else
       some false
   else
    if (decide ((t.Args.length:Int) > 0)) = true then
     if (t.Op != 4) = true then
      if(t.Op !=6)=true then
       some true
      else
       if(decide ((t.Names.length:Int)>0))=true then
        some (t.Op !=6)
       else
        some false
     else
      if(decide ((t.Names.length:Int)>0))=true then
       some (t.Op !=6)
      else
       some false
    else
     if(decide ((t.Names.length:Int)>0))=true then
      some (t.Op !=6)
     else
      some false
theorem OZ{x:Bool}(h:D5 t=some x):aU Pg GE 0 (cA qeG 12) (EX .normal (bJ t x)) (RH t):=by
 have p2:=fun{sc F} (r:PS sc F)=>sv (aC t)<|sv (aD t)<|r
 rcases bj h with⟨c1,h⟩|⟨c1,h⟩
 ·obtain rfl:=lf h
  exact cd Ak (p2<|sg 4 c1<|eF .normal (bJ t true))<|by kernel_rfl
 ·have p4:=fun{sc F} (r:PS sc F)=>p2<|sg 4 c1<|sv (aC t)<|sv (aD t)<|r
  rcases bj h with⟨c3,h⟩|⟨c3,h⟩
  ·obtain rfl:=lf h
   exact cd Ak (p4<|sg 9 c3<|eF .normal (bJ t true))<|by kernel_rfl
  ·have p6:=fun{sc F} (r:PS sc F)=>p4<|sg 9 c3<|sv (cq t)<|sv (cP t)<|r
   rcases bj h with⟨c5,h⟩|⟨c5,h⟩
   ·have p8:=fun{sc F} (r:PS sc F)=>p6<|sg 13 c5<|sv (aC t)<|sv (aD t)<|r
    rcases bj h with⟨c7,h⟩|⟨c7,h⟩
    ·have p10:=fun{sc F} (r:PS sc F)=>p8<|sg 18 c7<|sv (aC t)<|sv (aD t)<|r
     rcases bj h with⟨c9,h⟩|⟨c9,h⟩
     ·obtain rfl:=lf h
      exact cd Ak (p10<|sg 24 c9<|eF .normal (bJ t true))<|by kernel_rfl
     ·have p12:=fun{sc F} (r:PS sc F)=>p10<|sg 24 c9<|sv (aK t)<|sv (aL t)<|cm (ck.ln t.Args)<|r
      rcases bj h with⟨c11,h⟩|⟨c11,h⟩
      ·have p14:=fun{sc F} (r:PS sc F)=>p12<|sg 29 c11<|sv (aC t)<|sv (aD t)<|r
       rcases bj h with⟨c13,h⟩|⟨c13,h⟩
       ·have p16:=fun{sc F} (r:PS sc F)=>p14<|sg 34 c13<|sv (aC t)<|sv (aD t)<|r
        rcases bj h with⟨c15,h⟩|⟨c15,h⟩
        ·obtain rfl:=lf h
         exact cd Ak (p16<|sg 40 c15<|eF .normal (bJ t true))<|by kernel_rfl
        ·have p18:=fun{sc F} (r:PS sc F)=>p16<|sg 40 c15<|sv (aO t)<|sv (aP t)<|cm (bp.ln t.Names)<|r
         rcases bj h with⟨c17,h⟩|⟨c17,h⟩
         ·obtain rfl:=lf h
          exact cd Ak (p18<|sg 45 c17<|sv (aC t)<|sv (aD t)<|eF .normal (bJ t (t.Op !=6)))<|by kernel_rfl
         ·obtain rfl:=lf h
          exact cd Ak (p18<|sg 45 c17<|eF .normal (bJ t false))<|by kernel_rfl
       ·have p20:=fun{sc F} (r:PS sc F)=>p14<|sg 34 c13<|sv (aO t)<|sv (aP t)<|cm (bp.ln t.Names)<|r
        rcases bj h with⟨c19,h⟩|⟨c19,h⟩
        ·obtain rfl:=lf h
         exact cd Ak (p20<|sg 45 c19<|sv (aC t)<|sv (aD t)<|eF .normal (bJ t (t.Op !=6)))<|by kernel_rfl
        ·obtain rfl:=lf h
         exact cd Ak (p20<|sg 45 c19<|eF .normal (bJ t false))<|by kernel_rfl
      ·have p22:=fun{sc F} (r:PS sc F)=>p12<|sg 29 c11<|sv (aO t)<|sv (aP t)<|cm (bp.ln t.Names)<|r
       rcases bj h with⟨c21,h⟩|⟨c21,h⟩
       ·obtain rfl:=lf h
        exact cd Ak (p22<|sg 45 c21<|sv (aC t)<|sv (aD t)<|eF .normal (bJ t (t.Op !=6)))<|by kernel_rfl
       ·obtain rfl:=lf h
        exact cd Ak (p22<|sg 45 c21<|eF .normal (bJ t false))<|by kernel_rfl
    ·have p24:=fun{sc F} (r:PS sc F)=>p8<|sg 18 c7<|sv (aK t)<|sv (aL t)<|cm (ck.ln t.Args)<|r
     rcases bj h with⟨c23,h⟩|⟨c23,h⟩
     ·have p26:=fun{sc F} (r:PS sc F)=>p24<|sg 29 c23<|sv (aC t)<|sv (aD t)<|r
      rcases bj h with⟨c25,h⟩|⟨c25,h⟩
      ·have p28:=fun{sc F} (r:PS sc F)=>p26<|sg 34 c25<|sv (aC t)<|sv (aD t)<|r
       rcases bj h with⟨c27,h⟩|⟨c27,h⟩
       ·obtain rfl:=lf h
        exact cd Ak (p28<|sg 40 c27<|eF .normal (bJ t true))<|by kernel_rfl
       ·have p30:=fun{sc F} (r:PS sc F)=>p28<|sg 40 c27<|sv (aO t)<|sv (aP t)<|cm (bp.ln t.Names)<|r
        rcases bj h with⟨c29,h⟩|⟨c29,h⟩
        ·obtain rfl:=lf h
         exact cd Ak (p30<|sg 45 c29<|sv (aC t)<|sv (aD t)<|eF .normal (bJ t (t.Op !=6)))<|by kernel_rfl
        ·obtain rfl:=lf h
         exact cd Ak (p30<|sg 45 c29<|eF .normal (bJ t false))<|by kernel_rfl
      ·have p32:=fun{sc F} (r:PS sc F)=>p26<|sg 34 c25<|sv (aO t)<|sv (aP t)<|cm (bp.ln t.Names)<|r
       rcases bj h with⟨c31,h⟩|⟨c31,h⟩
       ·obtain rfl:=lf h
        exact cd Ak (p32<|sg 45 c31<|sv (aC t)<|sv (aD t)<|eF .normal (bJ t (t.Op !=6)))<|by kernel_rfl
       ·obtain rfl:=lf h
        exact cd Ak (p32<|sg 45 c31<|eF .normal (bJ t false))<|by kernel_rfl
     ·have p34:=fun{sc F} (r:PS sc F)=>p24<|sg 29 c23<|sv (aO t)<|sv (aP t)<|cm (bp.ln t.Names)<|r
      rcases bj h with⟨c33,h⟩|⟨c33,h⟩
      ·obtain rfl:=lf h
       exact cd Ak (p34<|sg 45 c33<|sv (aC t)<|sv (aD t)<|eF .normal (bJ t (t.Op !=6)))<|by kernel_rfl
      ·obtain rfl:=lf h
       exact cd Ak (p34<|sg 45 c33<|eF .normal (bJ t false))<|by kernel_rfl
   ·have p36:=fun{sc F} (r:PS sc F)=>p6<|sg 13 c5<|sv (aK t)<|sv (aL t)<|cm (ck.ln t.Args)<|r
    rcases bj h with⟨c35,h⟩|⟨c35,h⟩
    ·have p38:=fun{sc F} (r:PS sc F)=>p36<|sg 29 c35<|sv (aC t)<|sv (aD t)<|r
     rcases bj h with⟨c37,h⟩|⟨c37,h⟩
     ·have p40:=fun{sc F} (r:PS sc F)=>p38<|sg 34 c37<|sv (aC t)<|sv (aD t)<|r
      rcases bj h with⟨c39,h⟩|⟨c39,h⟩
      ·obtain rfl:=lf h
       exact cd Ak (p40<|sg 40 c39<|eF .normal (bJ t true))<|by kernel_rfl
      ·have p42:=fun{sc F} (r:PS sc F)=>p40<|sg 40 c39<|sv (aO t)<|sv (aP t)<|cm (bp.ln t.Names)<|r
       rcases bj h with⟨c41,h⟩|⟨c41,h⟩
       ·obtain rfl:=lf h
        exact cd Ak (p42<|sg 45 c41<|sv (aC t)<|sv (aD t)<|eF .normal (bJ t (t.Op !=6)))<|by kernel_rfl
       ·obtain rfl:=lf h
        exact cd Ak (p42<|sg 45 c41<|eF .normal (bJ t false))<|by kernel_rfl
     ·have p44:=fun{sc F} (r:PS sc F)=>p38<|sg 34 c37<|sv (aO t)<|sv (aP t)<|cm (bp.ln t.Names)<|r
      rcases bj h with⟨c43,h⟩|⟨c43,h⟩
      ·obtain rfl:=lf h
       exact cd Ak (p44<|sg 45 c43<|sv (aC t)<|sv (aD t)<|eF .normal (bJ t (t.Op !=6)))<|by kernel_rfl
      ·obtain rfl:=lf h
       exact cd Ak (p44<|sg 45 c43<|eF .normal (bJ t false))<|by kernel_rfl
    ·have p46:=fun{sc F} (r:PS sc F)=>p36<|sg 29 c35<|sv (aO t)<|sv (aP t)<|cm (bp.ln t.Names)<|r
     rcases bj h with⟨c45,h⟩|⟨c45,h⟩
     ·obtain rfl:=lf h
      exact cd Ak (p46<|sg 45 c45<|sv (aC t)<|sv (aD t)<|eF .normal (bJ t (t.Op !=6)))<|by kernel_rfl
     ·obtain rfl:=lf h
      exact cd Ak (p46<|sg 45 c45<|eF .normal (bJ t false))<|by kernel_rfl
end
section
variable(t:ae)
def RI:aA:=be 113 [(1,.eptr (af t))] [.dead] []
def zw(o:Bool):aA:=be 113 [(1,.eptr (af t)),(61,.bool o)] [.dead] []
def D6:Option Bool:=
 if(t.Op==4)=true then
  some (decide ((t.Args.length:Int)>6))
 else
  some false
theorem O0{x:Bool}(h:D6 t=some x):aU Pg GE 0 (cA qeG 28) (EX .normal (zw t x)) (RI t):=by
 have p51:=fun{sc F} (r:PS sc F)=>sv (aC t)<|sv (aD t)<|r
 rcases bj h with⟨c50,h⟩|⟨c50,h⟩
 ·obtain rfl:=lf h
  exact cd Ak (p51<|sg 4 c50<|sv (aK t)<|sv (aL t)<|cm (ck.ln t.Args)<|eF .normal (zw t (decide ((t.Args.length:Int)>6))))<|by kernel_rfl
 ·obtain rfl:=lf h
  exact cd Ak (p51<|sg 4 c50<|eF .normal (zw t false))<|by kernel_rfl
end
section
variable(t:ae)
def RJ:aA:=be 113 [(1,.eptr (af t))] [.dead] []
def lp(o:Bool):aA:=be 113 [(1,.eptr (af t)),(92,.bool o)] [.dead] []
def D7:Option Bool:=
 if (t.Op == 6) = true then
  if(decide ((t.Args.length:Int)<2))=true then
   some true
  else
   if(decide ((t.Args.length:Int)>7))=true then
    some true
   else
    if(decide ((t.Names.length:Int)>0))=true then
     some ((t.Names.length:Int)!=(aR ((t.Args.length:Int) - 1)))
    else
     some false
 else
  some false
theorem O1{x:Bool}(h:D7 t=some x):aU Pg GE 0 (cA qeG 60) (EX .normal (lp t x)) (RJ t):=by
 have p56:=fun{sc F} (r:PS sc F)=>sv (aC t)<|sv (aD t)<|r
 rcases bj h with⟨c55,h⟩|⟨c55,h⟩
 ·have p58:=fun{sc F} (r:PS sc F)=>p56<|sg 4 c55<|sv (aK t)<|sv (aL t)<|cm (ck.ln t.Args)<|r
  rcases bj h with⟨c57,h⟩|⟨c57,h⟩
  ·obtain rfl:=lf h
   exact cd Ak (p58<|sg 9 c57<|eF .normal (lp t true))<|by kernel_rfl
  ·have p60:=fun{sc F} (r:PS sc F)=>p58<|sg 9 c57<|sv (aK t)<|sv (aL t)<|cm (ck.ln t.Args)<|r
   rcases bj h with⟨c59,h⟩|⟨c59,h⟩
   ·obtain rfl:=lf h
    exact cd Ak (p60<|sg 15 c59<|eF .normal (lp t true))<|by kernel_rfl
   ·have p62:=fun{sc F} (r:PS sc F)=>p60<|sg 15 c59<|sv (aO t)<|sv (aP t)<|cm (bp.ln t.Names)<|r
    rcases bj h with⟨c61,h⟩|⟨c61,h⟩
    ·obtain rfl:=lf h
     exact cd Ak (p62<|sg 20 c61<|sv (aO t)<|sv (aP t)<|cm (bp.ln t.Names)<|sv (aK t)<|sv (aL t)<|cm (ck.ln t.Args)<|eF .normal (lp t ((t.Names.length:Int)!=(aR ((t.Args.length:Int) - 1)))))<|by kernel_rfl
    ·obtain rfl:=lf h
     exact cd Ak (p62<|sg 20 c61<|eF .normal (lp t false))<|by kernel_rfl
 ·obtain rfl:=lf h
  exact cd Ak (p56<|sg 4 c55<|eF .normal (lp t false))<|by kernel_rfl
end
section
variable(t:ae)
def RK:aA:=be 113 [(1,.eptr (af t))] [.dead] []
def lq(o:Bool):aA:=be 113 [(112,.bool o)] [.dead] []
def D8:Option Bool:=
 if (t.Op == 4) = true then
  (Ao t.Name true).bind fun r68=>
  if(!r68)=true then
   some true
  else
   if(t.Op==5)=true then
    (Ao t.Name false).bind fun r73=>
    some (!r73)
   else
    some false
 else
  if(t.Op==5)=true then
   (Ao t.Name false).bind fun r76=>
   some (!r76)
  else
   some false
theorem O2{x:Bool}(h:D8 t=some x):aU Pg GE 0 (cA qeG 124) (EX .normal (lq x)) (RK t):=by
 have p67:=fun{sc F} (r:PS sc F)=>sv (aC t)<|sv (aD t)<|r
 rcases bj h with⟨c66,h⟩|⟨c66,h⟩
 ·obtain⟨r68,br68,h⟩:=ay h
  have p70:=fun{sc F} (r:PS sc F)=>p67<|sg 4 c66<|sv (cq t)<|sv (cP t)<|bz (D2 br68)<|r
  rcases bj h with⟨c69,h⟩|⟨c69,h⟩
  ·obtain rfl:=lf h
   exact cd Ak (p70<|sg 10 c69<|eF .normal (lq true))<|by kernel_rfl
  ·have p72:=fun{sc F} (r:PS sc F)=>p70<|sg 10 c69<|sv (aC t)<|sv (aD t)<|r
   rcases bj h with⟨c71,h⟩|⟨c71,h⟩
   ·obtain⟨r73,br73,h⟩:=ay h
    obtain rfl:=lf h
    exact cd Ak (p72<|sg 14 c71<|sv (cq t)<|sv (cP t)<|bz (D2 br73)<|eF .normal (lq (!r73)))<|by kernel_rfl
   ·obtain rfl:=lf h
    exact cd Ak (p72<|sg 14 c71<|eF .normal (lq false))<|by kernel_rfl
 ·have p75:=fun{sc F} (r:PS sc F)=>p67<|sg 4 c66<|sv (aC t)<|sv (aD t)<|r
  rcases bj h with⟨c74,h⟩|⟨c74,h⟩
  ·obtain⟨r76,br76,h⟩:=ay h
   obtain rfl:=lf h
   exact cd Ak (p75<|sg 14 c74<|sv (cq t)<|sv (cP t)<|bz (D2 br76)<|eF .normal (lq (!r76)))<|by kernel_rfl
  ·obtain rfl:=lf h
   exact cd Ak (p75<|sg 14 c74<|eF .normal (lq false))<|by kernel_rfl
end
def I0(t:ae):Option Int:=
 (D5 t).bind fun o47=>
 if o47=true then
  some 1
 else
  (D6 t).bind fun o52=>
  if o52=true then
   some 13
  else
   (D7 t).bind fun o63=>
   if o63=true then
    some 13
   else
    (D8 t).bind fun o77=>
    if o77=true then
     some 3
    else
     some 0
theorem Wm{t:ae}{r:Int}(h:I0 t=some r):CC Pg GE 86 [.agg (af t)] (.int .i64 r) []:=by
 obtain⟨o47,bo47,h⟩:=ay h
 have p49:=fun{sc F} (r:PS sc F)=>se (bD t)<|kr 1<|cW (OZ t bo47)<|r
 rcases bj h with⟨c48,h⟩|⟨c48,h⟩
 ·obtain rfl:=lf h
  have z:=p49<|sg 0 c48<|en (aI (rP (.int .i64 1))<|trivial)
  exact bN Ak call86 func86 (c:=qeG) rfl (aI (ak t) trivial) z<|by kernel_rfl
 ·obtain⟨o52,bo52,h⟩:=ay h
  have p54:=fun{sc F} (r:PS sc F)=>p49<|sg 0 c48<|kr 1<|cW (O0 t bo52)<|r
  rcases bj h with⟨c53,h⟩|⟨c53,h⟩
  ·obtain rfl:=lf h
   have z:=p54<|sg 0 c53<|en (aI (rP (.int .i64 13))<|trivial)
   exact bN Ak call86 func86 (c:=qeG) rfl (aI (ak t) trivial) z<|by kernel_rfl
  ·obtain⟨o63,bo63,h⟩:=ay h
   have p65:=fun{sc F} (r:PS sc F)=>p54<|sg 0 c53<|kr 1<|cW (O1 t bo63)<|r
   rcases bj h with⟨c64,h⟩|⟨c64,h⟩
   ·obtain rfl:=lf h
    have z:=p65<|sg 0 c64<|en (aI (rP (.int .i64 13))<|trivial)
    exact bN Ak call86 func86 (c:=qeG) rfl (aI (ak t) trivial) z<|by kernel_rfl
   ·obtain⟨o77,bo77,h⟩:=ay h
    have p79:=fun{sc F} (r:PS sc F)=>p65<|sg 0 c64<|kr 1<|cW (O2 t bo77)<|r
    rcases bj h with⟨c78,h⟩|⟨c78,h⟩
    ·obtain rfl:=lf h
     have z:=p79<|sg 0 c78<|en (aI (rP (.int .i64 3))<|trivial)
     exact bN Ak call86 func86 (c:=qeG) rfl (aI (ak t) trivial) z<|by kernel_rfl
    ·obtain rfl:=lf h
     have z:=p79<|sg 0 c78<|en (aI (rP (.int .i64 0))<|trivial)
     exact bN Ak call86 func86 (c:=qeG) rfl (aI (ak t) trivial) z<|by kernel_rfl
noncomputable def qh9:Code:=f61.body.getD .skip
def qhg:List Nat:=[11,23]
section
variable(R17:B5)(t13:waC)(t14:Int)(t15:Int)
def oF:aA:=be 25 [(13,sl af t13),(14,.int .i64 t14),(15,.int .i64 t15)] [.dead] []
def oG(o:Int⊕(Unit)):Exit:=match o with
 |(.inl _)=>.ret
 |(.inr _)=>.exit 0
def lm(o:Int⊕(Unit)):aA:=match o with
 |(.inl o)=>be 25 [(2,.int .i64 o)] [.dead] []
 |(.inr o)=>be 25 [] [.dead] []
def GR:Option (Int⊕(Int⊕(Unit))):=
 if(decide (t15<t14))=true then
  (cz t13 t15).bind fun x5=>
  (R17 x5).bind fun r6=>
  if(r6 !=0)=true then
   some (.inr (.inl r6))
  else
   some (.inl (aR (t15+1)))
 else
  some (.inr (.inr ()))
def D3:Option (Int⊕(Unit)):=loop (fun(zz:Int)=>GR R17 t13 t14 zz) t15
theorem M1(hR17:Hs R17){y:Int⊕(Int⊕(Unit))}(h:GR R17 t13 t14 t15=some y):aU Pg GE 0 (cA qh9 119) (LQ (fun(zz:Int)=>oF t13 t14 zz) oG lm y) (oF t13 t14 t15):=by
 rcases bj h with⟨c4,h⟩|⟨c4,h⟩
 ·obtain⟨x5,bx5,h⟩:=ay h
  obtain⟨r6,br6,h⟩:=ay h
  have p8:=fun{sc F} (r:PS sc F)=>sg 0 c4<|sv (ck.ia (k:=.i64) bx5)<|sv (aV x5)<|sx tc<|sx (ey x5)<|sv (cU x5 [])<|bz (hR17 _ _ br6)<|r
  rcases bj h with⟨c7,h⟩|⟨c7,h⟩
  ·obtain rfl:=lf h
   have z:=p8<|sg 0 c7<|uz 0 (oG (.inl r6)) (lm (.inl r6)) rfl (dC (aI trivial trivial)) (aI trivial trivial)
   exact Iq (A:=qhg) mixed (by intro hx;cases hx) z<|by kernel_rfl
  ·obtain rfl:=lf h
   have z:=p8<|sg 0 c7<|uz 0 .normal (oF t13 t14 (aR (t15+1))) rfl (dC (aI (up (aj ak t13)) (aI trivial (aI trivial trivial)))) (aI trivial trivial)
   exact df (A:=qhg) mixed z<|by kernel_rfl
 ·obtain rfl:=lf h
  have z:=sg 0 c4<|eF (oG (.inr ())) (lm (.inr ()))
  exact f6 qhg (by intro hx;cases hx) z<|by kernel_rfl
theorem D4(hR17:Hs R17){x:Int⊕(Unit)}(h:D3 R17 t13 t14 t15=some x):aU Pg GE 0 (.loop (cA qh9 119)) (EX (oG x) (lm x)) (oF t13 t14 t15):=
 aU.loop (S:=fun(zz:Int)=>oF t13 t14 zz) (ex:=oG) (s:=t15) h fun zz y hy=>M1 R17 t13 t14 zz hR17 hy
end
def BA(R17:B5)(t:ae):Option Int:=
 (I0 t).bind fun r1=>
 if(r1 !=0)=true then
  some r1
 else
  (D3 R17 t.Args (t.Args.length:Int) 0).bind fun o9=>match o9 with
  |(.inl o9)=>
   some o9
  |(.inr o9)=>
   some 0
theorem Us(R17:B5)(hR17:Hs R17){t:ae}{r:Int}(h:BA R17 t=some r):CC Pg GE 61 [.agg (af t)] (.int .i64 r) []:=by
 obtain⟨r1,br1,h⟩:=ay h
 have p3:=fun{sc F} (r:PS sc F)=>se (bD t)<|sv (aV t)<|bz (Wm br1)<|r
 rcases bj h with⟨c2,h⟩|⟨c2,h⟩
 ·obtain rfl:=lf h
  have z:=p3<|sg 0 c2<|en (aI (rP (.int .i64 r1))<|trivial)
  exact bN qhg call61 func61 (c:=qh9) rfl (aI (ak t) trivial) z<|by kernel_rfl
 ·obtain⟨o9,bo9,h⟩:=ay h
  rcases o9 with o9|o9
  ·obtain rfl:=lf h
   have z:=p3<|sg 0 c2<|sv (aK t)<|sv (aL t)<|cm (ck.ln t.Args)<|cW (e:=.ret) (s1:=lm (.inl o9)) (D4 R17 t.Args (t.Args.length:Int) 0 hR17 bo9)<|en (aI (rP (.int .i64 o9))<|trivial)
   exact bN qhg call61 func61 (c:=qh9) rfl (aI (ak t) trivial) z<|by kernel_rfl
  ·obtain rfl:=lf h
   have z:=p3<|sg 0 c2<|sv (aK t)<|sv (aL t)<|cm (ck.ln t.Args)<|cW (e:=.exit 0) (s1:=lm (.inr o9)) (D4 R17 t.Args (t.Args.length:Int) 0 hR17 bo9)<|en (aI (rP (.int .i64 0))<|trivial)
   exact bN qhg call61 func61 (c:=qh9) rfl (aI (ak t) trivial) z<|by kernel_rfl
def HF:(ae->Option Int)->(ae)->Option Int:=fun(rec:ae->Option Int) (x:ae)=>BA (fun t=>rec t) x
def OY(t:ae):Option Int:=kJ HF t
theorem Wl{t:ae}{r:Int}(h:OY t=some r):CC Pg GE 61 [.agg (af t)] (.int .i64 r) []:=
 cy (F:=HF) (M:=fun(x:ae) (r:Int)=>CC Pg GE 61 [.agg (af x)] (.int .i64 r) []) (fun rec hrec x r h=>Us _ (fun t r h=>hrec t r h) h) h
noncomputable def qkM:Code:=f39.body.getD .skip
def qkD:List Nat:=[]
def FF(t:ae):Option Int:=
 (KT t).bind fun r1=>
 if(decide (r1>40))=true then
  some 8
 else
  (OY t).bind fun r4=>
  some r4
theorem Uo{t:ae}{r:Int}(h:FF t=some r):CC Pg GE 39 [.agg (af t)] (.int .i64 r) []:=by
 obtain⟨r1,br1,h⟩:=ay h
 have p3:=fun{sc F} (r:PS sc F)=>se (bD t)<|sv (aV t)<|bz (Up br1)<|r
 rcases bj h with⟨c2,h⟩|⟨c2,h⟩
 ·obtain rfl:=lf h
  have z:=p3<|sg 0 c2<|en (aI (rP (.int .i64 8))<|trivial)
  exact bN qkD call39 func39 (c:=qkM) rfl (aI (ak t) trivial) z<|by kernel_rfl
 ·obtain⟨r4,br4,h⟩:=ay h
  obtain rfl:=lf h
  have z:=p3<|sg 0 c2<|sv (aV t)<|bz (Wl br4)<|en (aI (rP (.int .i64 r4))<|trivial)
  exact bN qkD call39 func39 (c:=qkM) rfl (aI (ak t) trivial) z<|by kernel_rfl
abbrev B7:=(ae->Option Int)
abbrev Hu(R:B7):Prop:=∀(t:ae) (r:Int),R t=some r->CC Pg GE 40 [.agg (af t)] (.int .i64 r) []
abbrev BZ:=(aa->aa->Option Bool)
abbrev Hp(R:BZ):Prop:=∀(a:aa) (a2:aa) (r:Bool),R a a2=some r->CC Pg GE 19 [.agg (ac a),.agg (ac a2)] (.bool r) []
noncomputable def qhk:Code:=f19.body.getD .skip
def qd9:List Nat:=[39]
section
variable(v:aa)(v2:aa)
def Rv:aA:=be 53 [(2,.eptr (ac v)),(3,.eptr (ac v2))] [.dead,.dead] []
def ou(o:Bool):aA:=be 53 [(2,.eptr (ac v)),(3,.eptr (ac v2)),(33,.bool o)] [.dead,.dead] []
def DM:Option Bool:=
 if(v.Op !=v2.Op)=true then
  some true
 else
  if(!(v.Name==v2.Name))=true then
   some true
  else
   if(v.N !=v2.N)=true then
    some true
   else
    some ((v.Kids.length:Int)!=(v2.Kids.length:Int))
theorem ON{x:Bool}(h:DM v v2=some x):aU Pg GE 0 (cA qhk 12) (EX .normal (ou v v2 x)) (Rv v v2):=by
 have p2:=fun{sc F} (r:PS sc F)=>sv (bE v)<|sv (bF v)<|sv (bE v2)<|sv (bF v2)<|r
 rcases bj h with⟨c1,h⟩|⟨c1,h⟩
 ·obtain rfl:=lf h
  exact cd qd9 (p2<|sg 6 c1<|eF .normal (ou v v2 true))<|by kernel_rfl
 ·have p4:=fun{sc F} (r:PS sc F)=>p2<|sg 6 c1<|sv (cp v)<|sv (cO v)<|sv (cp v2)<|sv (cO v2)<|r
  rcases bj h with⟨c3,h⟩|⟨c3,h⟩
  ·obtain rfl:=lf h
   exact cd qd9 (p4<|sg 13 c3<|eF .normal (ou v v2 true))<|by kernel_rfl
  ·have p6:=fun{sc F} (r:PS sc F)=>p4<|sg 13 c3<|sv (dD v)<|sv (dU v)<|sv (dD v2)<|sv (dU v2)<|r
   rcases bj h with⟨c5,h⟩|⟨c5,h⟩
   ·obtain rfl:=lf h
    exact cd qd9 (p6<|sg 20 c5<|eF .normal (ou v v2 true))<|by kernel_rfl
   ·obtain rfl:=lf h
    exact cd qd9 (p6<|sg 20 c5<|sv (bA v)<|sv (bC v)<|cm (bL.ln v.Kids)<|sv (bA v2)<|sv (bC v2)<|cm (bL.ln v2.Kids)<|eF .normal (ou v v2 ((v.Kids.length:Int)!=(v2.Kids.length:Int))))<|by kernel_rfl
end
section
variable(R34:BZ)(v:aa)(v2:aa)(t36:Int)(t37:Int)
def oz:aA:=be 53 [(2,.eptr (ac v)),(3,.eptr (ac v2)),(36,.int .i64 t36),(37,.int .i64 t37)] [.dead,.dead] []
def oA(o:Unit⊕(Unit)):Exit:=match o with
 |(.inl _)=>.ret
 |(.inr _)=>.exit 0
def lj(o:Unit⊕(Unit)):aA:=match o with
 |(.inl o)=>be 53 [(4,.bool false)] [.dead,.dead] []
 |(.inr o)=>be 53 [] [.dead,.dead] []
def tq:Option (Int⊕(Unit⊕(Unit))):=
 if(decide (t37<t36))=true then
  (cz v.Kids t37).bind fun x11=>
  (cz v2.Kids t37).bind fun x12=>
  (R34 x11 x12).bind fun r13=>
  if(!r13)=true then
   some (.inr (.inl ()))
  else
   some (.inl (aR (t37+1)))
 else
  some (.inr (.inr ()))
def DN:Option (Unit⊕(Unit)):=loop (fun(zz:Int)=>tq R34 v v2 t36 zz) t37
theorem MW(hR34:Hp R34){y:Int⊕(Unit⊕(Unit))}(h:tq R34 v v2 t36 t37=some y):aU Pg GE 0 (cA qhk 119) (LQ (fun(zz:Int)=>oz v v2 t36 zz) oA lj y) (oz v v2 t36 t37):=by
 rcases bj h with⟨c10,h⟩|⟨c10,h⟩
 ·obtain⟨x11,bx11,h⟩:=ay h
  obtain⟨x12,bx12,h⟩:=ay h
  obtain⟨r13,br13,h⟩:=ay h
  have p15:=fun{sc F} (r:PS sc F)=>sg 0 c10<|lY [0,1,0,7,15,0,32,0,224,480,1023,2047]<|sv (bA v)<|sv (bC v)<|sv (bL.ia (k:=.i64) bx11)<|sv (bh x11)<|sv (bA v2)<|sv (bC v2)<|sv (bL.ia (k:=.i64) bx12)<|sv (bh x12)<|bz (hR34 _ _ _ br13)<|r
  rcases bj h with⟨c14,h⟩|⟨c14,h⟩
  ·obtain rfl:=lf h
   have z:=p15<|sg 0 c14<|eF (oA (.inl ())) (lj (.inl ()))
   exact f6 qd9 (by intro hx;cases hx) z<|by kernel_rfl
  ·obtain rfl:=lf h
   exact n9 qd9 (p15<|sg 0 c14<|eF .normal (oz v v2 t36 (aR (t37+1))))<|by kernel_rfl
 ·obtain rfl:=lf h
  have z:=sg 0 c10<|eF (oA (.inr ())) (lj (.inr ()))
  exact f6 qd9 (by intro hx;cases hx) z<|by kernel_rfl
theorem DO(hR34:Hp R34){x:Unit⊕(Unit)}(h:DN R34 v v2 t36 t37=some x):aU Pg GE 0 (.loop (cA qhk 119)) (EX (oA x) (lj x)) (oz v v2 t36 t37):=
 aU.loop (S:=fun(zz:Int)=>oz v v2 t36 zz) (ex:=oA) (s:=t37) h fun zz y hy=>MW R34 v v2 t36 zz hR34 hy
end
def Bt(R34:BZ)(a:aa)(a2:aa):Option Bool:=
 (DM a a2).bind fun o7=>
 if o7=true then
  some false
 else
  (DN R34 a a2 (a.Kids.length:Int) 0).bind fun o16=>match o16 with
  |(.inl o16)=>
   some false
  |(.inr o16)=>
   some true
theorem Ul(R34:BZ)(hR34:Hp R34){a:aa}{a2:aa}{r:Bool}(h:Bt R34 a a2=some r):CC Pg GE 19 [.agg (ac a),.agg (ac a2)] (.bool r) []:=by
 obtain⟨o7,bo7,h⟩:=ay h
 have p9:=fun{sc F} (r:PS sc F)=>se (bS a)<|se (bS a2)<|kr 1<|cW (ON a a2 bo7)<|r
 rcases bj h with⟨c8,h⟩|⟨c8,h⟩
 ·obtain rfl:=lf h
  have z:=p9<|sg 0 c8<|en (aI (rP (.bool false))<|trivial)
  exact bN qd9 call19 func19 (c:=qhk) rfl (aI (ah a) (aI (ah a2) trivial)) z<|by kernel_rfl
 ·obtain⟨o16,bo16,h⟩:=ay h
  rcases o16 with o16|o16
  ·obtain rfl:=lf h
   have z:=p9<|sg 0 c8<|sv (bA a)<|sv (bC a)<|cm (bL.ln a.Kids)<|cW (e:=.ret) (s1:=lj (.inl o16)) (DO R34 a a2 (a.Kids.length:Int) 0 hR34 bo16)<|en (aI (rP (.bool false))<|trivial)
   exact bN qd9 call19 func19 (c:=qhk) rfl (aI (ah a) (aI (ah a2) trivial)) z<|by kernel_rfl
  ·obtain rfl:=lf h
   have z:=p9<|sg 0 c8<|sv (bA a)<|sv (bC a)<|cm (bL.ln a.Kids)<|cW (e:=.exit 0) (s1:=lj (.inr o16)) (DO R34 a a2 (a.Kids.length:Int) 0 hR34 bo16)<|en (aI (rP (.bool true))<|trivial)
   exact bN qd9 call19 func19 (c:=qhk) rfl (aI (ah a) (aI (ah a2) trivial)) z<|by kernel_rfl
def HA:((aa×aa)->Option Bool)->(aa×aa)->Option Bool:=fun(rec:(aa×aa)->Option Bool) (x:aa×aa)=>Bt (fun a a2=>rec (a,a2)) x.1 x.2
def qK(a:aa)(a2:aa):Option Bool:=kJ HA (a,a2)
theorem tV{a:aa}{a2:aa}{r:Bool}(h:qK a a2=some r):CC Pg GE 19 [.agg (ac a),.agg (ac a2)] (.bool r) []:=
 cy (F:=HA) (M:=fun(x:aa×aa) (r:Bool)=>CC Pg GE 19 [.agg (ac x.1),.agg (ac x.2)] (.bool r) []) (fun rec hrec x r h=>Ul _ (fun a a2 r h=>hrec (a,a2) r h) h) h
noncomputable def qlw:Code:=f73.body.getD .skip
def qlg:List Nat:=[]
def At(p:aa):Option Bool:=
 (qK p (⟨0,([]:ag),0,([]:List aa)⟩:aa)).bind fun r1=>
 some r1
theorem EC{p:aa}{r:Bool}(h:At p=some r):CC Pg GE 73 [.agg (ac p)] (.bool r) []:=by
 obtain⟨r1,br1,h⟩:=ay h
 obtain rfl:=lf h
 have z:=se (bS p)<|sv (bh p)<|sb (sP) (sO)<|bz (tV br1)<|en (aI (rP (.bool r1))<|trivial)
 exact bN qlg call73 func73 (c:=qlw) rfl (aI (ah p) trivial) z<|by kernel_rfl
noncomputable def qjo:Code:=f88.body.getD .skip
def qhP:List Nat:=[8]
section
variable(v:waA)(t5:Int)(t6:Int)
def iP:aA:=be 18 [(0,sl cS v),(5,.int .i64 t5),(6,.int .i64 t6)] [] []
def iQ(o:Unit⊕(Unit)):Exit:=match o with
 |(.inl _)=>.ret
 |(.inr _)=>.exit 0
def gi(o:Unit⊕(Unit)):aA:=match o with
 |(.inl o)=>be 18 [(2,.bool false)] [] []
 |(.inr o)=>be 18 [] [] []
def yp:Option (Int⊕(Unit⊕(Unit))):=
 if(decide (t6<t5))=true then
  (cz v t6).bind fun x2=>
  (gI v x2).bind fun r3=>
  if(r3 !=t6)=true then
   some (.inr (.inl ()))
  else
   some (.inl (aR (t6+1)))
 else
  some (.inr (.inr ()))
def uD:Option (Unit⊕(Unit)):=loop (fun(zz:Int)=>yp v t5 zz) t6
theorem Gq{y:Int⊕(Unit⊕(Unit))}(h:yp v t5 t6=some y):aU Pg GE 0 (cA qjo 55) (LQ (fun(zz:Int)=>iP v t5 zz) iQ gi y) (iP v t5 t6):=by
 rcases bj h with⟨c1,h⟩|⟨c1,h⟩
 ·obtain⟨x2,bx2,h⟩:=ay h
  obtain⟨r3,br3,h⟩:=ay h
  have p5:=fun{sc F} (r:PS sc F)=>sg 0 c1<|sv (bp.ia (k:=.i64) bx2)<|sv (dH Ba (.str x2) [])<|bz (j6 br3)<|r
  rcases bj h with⟨c4,h⟩|⟨c4,h⟩
  ·obtain rfl:=lf h
   have z:=p5<|sg 0 c4<|eF (iQ (.inl ())) (gi (.inl ()))
   exact f6 qhP (by intro hx;cases hx) z<|by kernel_rfl
  ·obtain rfl:=lf h
   exact n9 qhP (p5<|sg 0 c4<|eF .normal (iP v t5 (aR (t6+1))))<|by kernel_rfl
 ·obtain rfl:=lf h
  have z:=sg 0 c1<|eF (iQ (.inr ())) (gi (.inr ()))
  exact f6 qhP (by intro hx;cases hx) z<|by kernel_rfl
theorem wy{x:Unit⊕(Unit)}(h:uD v t5 t6=some x):aU Pg GE 0 (.loop (cA qjo 55)) (EX (iQ x) (gi x)) (iP v t5 t6):=
 aU.loop (S:=fun(zz:Int)=>iP v t5 zz) (ex:=iQ) (s:=t6) h fun zz y hy=>Gq v t5 zz hy
end
def vF(a:waA):Option Bool:=
 (uD a (a.length:Int) 0).bind fun o6=>match o6 with
 |(.inl o6)=>
  some false
 |(.inr o6)=>
  some true
theorem MJ{a:waA}{r:Bool}(h:vF a=some r):CC Pg GE 88 [sl cS a] (.bool r) []:=by
 obtain⟨o6,bo6,h⟩:=ay h
 rcases o6 with o6|o6
 ·obtain rfl:=lf h
  have z:=cm (bp.ln a)<|cW (e:=.ret) (s1:=gi (.inl o6)) (wy a (a.length:Int) 0 bo6)<|en (aI (rP (.bool false))<|trivial)
  exact bN qhP call88 func88 (c:=qjo) rfl (aI (aj dQ a) trivial) z<|by kernel_rfl
 ·obtain rfl:=lf h
  have z:=cm (bp.ln a)<|cW (e:=.exit 0) (s1:=gi (.inr o6)) (wy a (a.length:Int) 0 bo6)<|en (aI (rP (.bool true))<|trivial)
  exact bN qhP call88 func88 (c:=qjo) rfl (aI (aj dQ a) trivial) z<|by kernel_rfl
abbrev yK:=(aa->Option Int)
abbrev Dt(R:yK):Prop:=∀(p:aa) (r:Int),R p=some r->CC Pg GE 105 [.agg (ac p)] (.int .i64 r) []
noncomputable def qgp:Code:=f105.body.getD .skip
def qf9:List Nat:=[18]
section
variable(R37:yK)(t7:waB)(t8:Int)(n:Int)(t9:Int)
def mm:aA:=be 19 [(3,.int .i64 n),(7,sl ac t7),(8,.int .i64 t8),(9,.int .i64 t9)] [.dead] []
def wG(o:Int):aA:=be 19 [(3,.int .i64 o)] [.dead] []
def qJ:Option ((Int×Int)⊕(Int)):=
 if(decide (t9<t8))=true then
  (cz t7 t9).bind fun x2=>
  (R37 x2).bind fun r3=>
  some (.inl (aR (n+r3),aR (t9+1)))
 else
  some (.inr n)
def Br:Option Int:=loop (fun(zz:Int×Int)=>qJ R37 t7 t8 zz.1 zz.2) (n,t9)
theorem KR(hR37:Dt R37){y:(Int×Int)⊕(Int)}(h:qJ R37 t7 t8 n t9=some y):aU Pg GE 0 (cA qgp 119) (LQ (fun(zz:Int×Int)=>mm t7 t8 zz.1 zz.2) (fun _=>.exit 0) wG y) (mm t7 t8 n t9):=by
 rcases bj h with⟨c1,h⟩|⟨c1,h⟩
 ·obtain⟨x2,bx2,h⟩:=ay h
  obtain⟨r3,br3,h⟩:=ay h
  obtain rfl:=lf h
  have z:=sg 0 c1<|sv (bL.ia (k:=.i64) bx2)<|sv (bh x2)<|sx hO<|sx (cj x2)<|sv (bT x2 [])<|bz (hR37 _ _ br3)<|uz 0 .normal (mm t7 t8 (aR (n+r3)) (aR (t9+1))) rfl (dC (aI trivial (aI (up (aj ah t7)) (aI trivial (aI trivial trivial))))) (aI trivial trivial)
  exact df (A:=qf9) mixed z<|by kernel_rfl
 ·obtain rfl:=lf h
  have z:=sg 0 c1<|eF (.exit 0) (wG n)
  exact f6 qf9 (by intro hx;cases hx) z<|by kernel_rfl
theorem MV(hR37:Dt R37){x:Int}(h:Br R37 t7 t8 n t9=some x):aU Pg GE 0 (.loop (cA qgp 119)) (EX (.exit 0) (wG x)) (mm t7 t8 n t9):=
 aU.loop (S:=fun(zz:Int×Int)=>mm t7 t8 zz.1 zz.2) (ex:=(fun _=>.exit 0)) (s:=(n,t9)) h fun zz y hy=>KR R37 t7 t8 zz.1 zz.2 hR37 hy
end
def yy(R37:yK)(p:aa):Option Int:=
 (Br R37 p.Kids (p.Kids.length:Int) 1 0).bind fun o4=>
 some o4
theorem Ru(R37:yK)(hR37:Dt R37){p:aa}{r:Int}(h:yy R37 p=some r):CC Pg GE 105 [.agg (ac p)] (.int .i64 r) []:=by
 obtain⟨o4,bo4,h⟩:=ay h
 obtain rfl:=lf h
 have z:=se (bS p)<|sv (bA p)<|sv (bC p)<|cm (bL.ln p.Kids)<|cW (MV R37 p.Kids (p.Kids.length:Int) 1 0 hR37 bo4)<|en (aI (rP (.int .i64 o4))<|trivial)
 exact bN qf9 call105 func105 (c:=qgp) rfl (aI (ah p) trivial) z<|by kernel_rfl
def DL:(aa->Option Int)->(aa)->Option Int:=fun(rec:aa->Option Int) (x:aa)=>yy (fun p=>rec p) x
def KQ(p:aa):Option Int:=kJ DL p
theorem Uk{p:aa}{r:Int}(h:KQ p=some r):CC Pg GE 105 [.agg (ac p)] (.int .i64 r) []:=
 cy (F:=DL) (M:=fun(x:aa) (r:Int)=>CC Pg GE 105 [.agg (ac x)] (.int .i64 r) []) (fun rec hrec x r h=>Ru _ (fun p r h=>hrec p r h) h) h
abbrev yJ:=(aa->Option Int)
abbrev Ds(R:yJ):Prop:=∀(p:aa) (r:Int),R p=some r->CC Pg GE 106 [.agg (ac p)] (.int .i64 r) []
end Go.Proofs.YtbaamopmfmpfaaaGreatDoor
