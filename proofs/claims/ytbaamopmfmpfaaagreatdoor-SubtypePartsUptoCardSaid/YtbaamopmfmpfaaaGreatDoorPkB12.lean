/- PROVED: a part of the proof. Conditions: none. -/
import Derived.Test.YtbaamopmfmpfaaaGreatDoorPkB11
noncomputable section
namespace Go.Proofs.YtbaamopmfmpfaaaGreatDoor
open Go Go.Proofs.Tryz
set_option linter.unusedVariables false
set_option maxRecDepth 100000
noncomputable def YF:Code:=f128.body.getD .skip
def I9:List Nat:=[21]
section
variable(p:af)
def RH:aC:=be 65 [(0,.str p)] [] []
def zx(o:Bool):aC:=be 65 [(0,.str p),(13,.bool o)] [] []
def DW:Option Bool:=
 if(decide ((p.length:Int)<1))=true then
  some true
 else
  some (decide ((p.length:Int)>24))
theorem OZ{x:Bool}(h:DW p=some x):aV Pg GE 0 (cA YF 12) (EX .normal (zx p x)) (RH p):=by
 rcases bj h with⟨c1,h⟩|⟨c1,h⟩
 ·obtain rfl:=lf h
  exact cf I9 (cq (iD underlying9 p)<|sg 4 c1<|eF .normal (zx p true))<|by kernel_rfl
 ·obtain rfl:=lf h
  exact cf I9 (cq (iD underlying9 p)<|sg 4 c1<|cq (iD underlying9 p)<|eF .normal (zx p (decide ((p.length:Int)>24))))<|by kernel_rfl
end
section
variable(p:af)(plain:Bool)(word:Bool)(i:Int)(t18:Int)
def RI:aC:=be 65 [(0,.str p),(3,.bool plain),(4,.bool word),(5,.int .i64 i),(18,.int .i64 t18),(19,.int .i64 i)] [] []
def oE(o:Bool):aC:=be 65 [(0,.str p),(3,.bool o),(4,.bool word),(5,.int .i64 i),(18,.int .i64 t18),(19,.int .i64 i)] [] []
def yG:Option Bool:=
 if plain=true then
  (wr p i).bind fun c9=>
  (nn c9).bind fun r10=>
  if r10=true then
   some true
  else
   (wr p i).bind fun c13=>
   (qo c13).bind fun r14=>
   if r14=true then
    some true
   else
    (wr p i).bind fun c17=>
    (sO c17).bind fun r18=>
    some r18
 else
  some false
theorem O0{x:Bool}(h:yG p plain i=some x):aV Pg GE 0 (cA YF 32246) (EX .normal (oE p word i t18 x)) (RI p plain word i t18):=by
 rcases bj h with⟨c8,h⟩|⟨c8,h⟩
 ·obtain⟨c9,bc9,h⟩:=ay h
  obtain⟨r10,br10,h⟩:=ay h
  have p12:=fun{sc F} (r:PS sc F)=>sg 2 c8<|sv (sG (k:=.i64) underlying9 bc9)<|bz (np br10)<|r
  rcases bj h with⟨c11,h⟩|⟨c11,h⟩
  ·obtain rfl:=lf h
   exact cf I9 (p12<|sg 7 c11<|eF .normal (oE p word i t18 true))<|by kernel_rfl
  ·obtain⟨c13,bc13,h⟩:=ay h
   obtain⟨r14,br14,h⟩:=ay h
   have p16:=fun{sc F} (r:PS sc F)=>p12<|sg 7 c11<|sv (sG (k:=.i64) underlying9 bc13)<|bz (wS br14)<|r
   rcases bj h with⟨c15,h⟩|⟨c15,h⟩
   ·obtain rfl:=lf h
    exact cf I9 (p16<|sg 13 c15<|eF .normal (oE p word i t18 true))<|by kernel_rfl
   ·obtain⟨c17,bc17,h⟩:=ay h
    obtain⟨r18,br18,h⟩:=ay h
    obtain rfl:=lf h
    exact cf I9 (p16<|sg 13 c15<|sv (sG (k:=.i64) underlying9 bc17)<|bz (vX br18)<|eF .normal (oE p word i t18 r18))<|by kernel_rfl
 ·obtain rfl:=lf h
  exact cf I9 (sg 2 c8<|eF .normal (oE p word i t18 false))<|by kernel_rfl
end
section
variable(p:af)(t18:Int)(plain:Bool)(word:Bool)(t19:Int)
def gX:aC:=be 65 [(0,.str p),(3,.bool plain),(4,.bool word),(18,.int .i64 t18),(19,.int .i64 t19)] [] []
def zy(o:Bool×Bool):aC:=be 65 [(3,.bool o.1),(4,.bool o.2)] [] []
def lk:Option ((Bool×Bool×Int)⊕((Bool×Bool))):=
 if (decide (t19 < t18)) = true then
  (yG p plain t19).bind fun o19=>
  if word=true then
   (wr p t19).bind fun c22=>
   (nn c22).bind fun r23=>
   if r23=true then
    some (.inl (o19,true,aS (t19+1)))
   else
    (wr p t19).bind fun c26=>
    (sO c26).bind fun r27=>
    if r27=true then
     some (.inl (o19,true,aS (t19+1)))
    else
     (wr p t19).bind fun c30=>
     some (.inl (o19,c30==95,aS (t19+1)))
  else
   some (.inl (o19,false,aS (t19+1)))
 else
  some (.inr (plain,word))
def DX:Option ((Bool×Bool)):=loop (fun(zz:Bool×Bool×Int)=>lk p t18 zz.1 zz.2.1 zz.2.2) (plain,word,t19)
theorem Nh{y:(Bool×Bool×Int)⊕((Bool×Bool))}(h:lk p t18 plain word t19=some y):aV Pg GE 0 (cA YF 503) (LQ (fun(zz:Bool×Bool×Int)=>gX p t18 zz.1 zz.2.1 zz.2.2) (fun _=>.exit 0) zy y) (gX p t18 plain word t19):=by
 rcases bj h with⟨c7,h⟩|⟨c7,h⟩
 ·obtain⟨o19,bo19,h⟩:=ay h
  have p21:=fun{sc F} (r:PS sc F)=>sg 0 c7<|ka 2<|cY (O0 p plain word t19 t18 bo19)<|r
  rcases bj h with⟨c20,h⟩|⟨c20,h⟩
  ·obtain⟨c22,bc22,h⟩:=ay h
   obtain⟨r23,br23,h⟩:=ay h
   have p25:=fun{sc F} (r:PS sc F)=>p21<|sg 2 c20<|sv (sG (k:=.i64) underlying9 bc22)<|bz (np br23)<|r
   rcases bj h with⟨c24,h⟩|⟨c24,h⟩
   ·obtain rfl:=lf h
    exact oo I9 (p25<|sg 7 c24<|eF .normal (gX p t18 o19 true (aS (t19+1))))<|by kernel_rfl
   ·obtain⟨c26,bc26,h⟩:=ay h
    obtain⟨r27,br27,h⟩:=ay h
    have p29:=fun{sc F} (r:PS sc F)=>p25<|sg 7 c24<|sv (sG (k:=.i64) underlying9 bc26)<|bz (vX br27)<|r
    rcases bj h with⟨c28,h⟩|⟨c28,h⟩
    ·obtain rfl:=lf h
     exact oo I9 (p29<|sg 13 c28<|eF .normal (gX p t18 o19 true (aS (t19+1))))<|by kernel_rfl
    ·obtain⟨c30,bc30,h⟩:=ay h
     obtain rfl:=lf h
     exact oo I9 (p29<|sg 13 c28<|sv (sG (k:=.i64) underlying9 bc30)<|eF .normal (gX p t18 o19 (c30==95) (aS (t19+1))))<|by kernel_rfl
  ·obtain rfl:=lf h
   exact oo I9 (p21<|sg 2 c20<|eF .normal (gX p t18 o19 false (aS (t19+1))))<|by kernel_rfl
 ·obtain rfl:=lf h
  have z:=sg 0 c7<|eF (.exit 0) (zy (plain,word))
  exact gg I9 (by intro hx;cases hx) z<|by kernel_rfl
theorem O1{x:(Bool×Bool)}(h:DX p t18 plain word t19=some x):aV Pg GE 0 (.loop (cA YF 503)) (EX (.exit 0) (zy x)) (gX p t18 plain word t19):=
 aV.loop (S:=fun(zz:Bool×Bool×Int)=>gX p t18 zz.1 zz.2.1 zz.2.2) (ex:=(fun _=>.exit 0)) (s:=(plain,word,t19)) h fun zz y hy=>Nh p t18 zz.1 zz.2.1 zz.2.2 hy
end
def Jh(p:af):Option Bool:=
 (DW p).bind fun o2=>
 if o2=true then
  some false
 else
  (wr p 0).bind fun c5=>
  (nn c5).bind fun r6=>
  (DX p (p.length:Int) true r6 0).bind fun o31=>
  if o31.1=true then
   some true
  else
   some o31.2
theorem WB{p:af}{r:Bool}(h:Jh p=some r):CC Pg GE 128 [.str p] (.bool r) []:=by
 obtain⟨o2,bo2,h⟩:=ay h
 have p4:=fun{sc F} (r:PS sc F)=>ka 2<|cY (OZ p bo2)<|r
 rcases bj h with⟨c3,h⟩|⟨c3,h⟩
 ·obtain rfl:=lf h
  have z:=p4<|sg 0 c3<|en (aI (rP (.bool false))<|trivial)
  exact bO I9 call128 func128 (c:=YF) rfl (aI trivial trivial) z<|by kernel_rfl
 ·obtain⟨c5,bc5,h⟩:=ay h
  obtain⟨r6,br6,h⟩:=ay h
  obtain⟨o31,bo31,h⟩:=ay h
  have p33:=fun{sc F} (r:PS sc F)=>p4<|sg 0 c3<|sv (sG (k:=.i64) underlying9 bc5)<|bz (np br6)<|cq (iD underlying9 p)<|cY (O1 p (p.length:Int) true r6 0 bo31)<|r
  rcases bj h with⟨c32,h⟩|⟨c32,h⟩
  ·obtain rfl:=lf h
   have z:=p33<|sg 2 c32<|en (aI (rP (.bool true))<|trivial)
   exact bO I9 call128 func128 (c:=YF) rfl (aI trivial trivial) z<|by kernel_rfl
  ·obtain rfl:=lf h
   have z:=p33<|sg 2 c32<|en (aI (rP (.bool o31.2))<|trivial)
   exact bO I9 call128 func128 (c:=YF) rfl (aI trivial trivial) z<|by kernel_rfl
noncomputable def YD:Code:=f115.body.getD .skip
def OM:List Nat:=[]
section
variable(v:waA)
def RG:aC:=be 45 [(3,sl cS v)] [] [((3,0),9)]
def oz(o:Bool):aC:=be 45 [(3,sl cS v),(33,.bool o)] [] [((3,0),9)]
def yB:Option Bool:=
 (cz v 0).bind fun x3=>
 (sK x3).bind fun r4=>
 if (r4 != 0) = true then
  (cz v 0).bind fun x7=>
  (F0 x7).bind fun r8=>
  if(r8 !=0)=true then
   (cz v 0).bind fun x11=>
   if(!(x11==([118]:af)))=true then
    some true
   else
    some ((v.length:Int)==1)
  else
   some false
 else
  some false
theorem OU{x:Bool}(h:yB v=some x):aV Pg GE 0 (cA YD 60) (EX .normal (oz v x)) (RG v):=by
 obtain⟨x3,bx3,h⟩:=ay h
 obtain⟨r4,br4,h⟩:=ay h
 have p6:=fun{sc F} (r:PS sc F)=>sv (bq.ia (k:=.i64) bx3)<|sv (dB Bg (.str x3) [])<|bz (Jd br4)<|r
 rcases bj h with⟨c5,h⟩|⟨c5,h⟩
 ·obtain⟨x7,bx7,h⟩:=ay h
  obtain⟨r8,br8,h⟩:=ay h
  have p10:=fun{sc F} (r:PS sc F)=>p6<|sg 6 c5<|sv (bq.ia (k:=.i64) bx7)<|sv (dB Bg (.str x7) [])<|bz (Ux br8)<|r
  rcases bj h with⟨c9,h⟩|⟨c9,h⟩
  ·obtain⟨x11,bx11,h⟩:=ay h
   have p13:=fun{sc F} (r:PS sc F)=>p10<|sg 13 c9<|sv (bq.ia (k:=.i64) bx11)<|sv (dB Bg (.str x11) [])<|r
   rcases bj h with⟨c12,h⟩|⟨c12,h⟩
   ·obtain rfl:=lf h
    exact cf OM (p13<|sg 18 c12<|eF .normal (oz v true))<|by kernel_rfl
   ·obtain rfl:=lf h
    exact cf OM (p13<|sg 18 c12<|cq (bq.ln v)<|eF .normal (oz v ((v.length:Int)==1)))<|by kernel_rfl
  ·obtain rfl:=lf h
   exact cf OM (p10<|sg 13 c9<|eF .normal (oz v false))<|by kernel_rfl
 ·obtain rfl:=lf h
  exact cf OM (p6<|sg 6 c5<|eF .normal (oz v false))<|by kernel_rfl
end
section
variable(t35:waA)(t36:Int)(t37:Int)
def oA:aC:=be 45 [(35,sl cS t35),(36,.int .i64 t36),(37,.int .i64 t37)] [] []
def oB(o:Unit⊕(Unit)):Exit:=match o with
 |(.inl _)=>.ret
 |(.inr _)=>.exit 0
def li(o:Unit⊕(Unit)):aC:=match o with
 |(.inl o)=>be 45 [(2,.int .i64 3)] [] []
 |(.inr o)=>be 45 [] [] []
def G8:Option (Int⊕(Unit⊕(Unit))):=
 if(decide (t37<t36))=true then
  (cz t35 t37).bind fun x19=>
  (Jh x19).bind fun r20=>
  if(!r20)=true then
   some (.inr (.inl ()))
  else
   some (.inl (aS (t37+1)))
 else
  some (.inr (.inr ()))
def DS:Option (Unit⊕(Unit)):=loop (fun(zz:Int)=>G8 t35 t36 zz) t37
theorem M7{y:Int⊕(Unit⊕(Unit))}(h:G8 t35 t36 t37=some y):aV Pg GE 0 (cA YD 503) (LQ (fun(zz:Int)=>oA t35 t36 zz) oB li y) (oA t35 t36 t37):=by
 rcases bj h with⟨c18,h⟩|⟨c18,h⟩
 ·obtain⟨x19,bx19,h⟩:=ay h
  obtain⟨r20,br20,h⟩:=ay h
  have p22:=fun{sc F} (r:PS sc F)=>sg 0 c18<|sv (bq.ia (k:=.i64) bx19)<|sv (dB Bg (.str x19) [])<|bz (WB br20)<|r
  rcases bj h with⟨c21,h⟩|⟨c21,h⟩
  ·obtain rfl:=lf h
   have z:=p22<|sg 0 c21<|eF (oB (.inl ())) (li (.inl ()))
   exact gg OM (by intro hx;cases hx) z<|by kernel_rfl
  ·obtain rfl:=lf h
   exact oo OM (p22<|sg 0 c21<|eF .normal (oA t35 t36 (aS (t37+1))))<|by kernel_rfl
 ·obtain rfl:=lf h
  have z:=sg 0 c18<|eF (oB (.inr ())) (li (.inr ()))
  exact gg OM (by intro hx;cases hx) z<|by kernel_rfl
theorem DT{x:Unit⊕(Unit)}(h:DS t35 t36 t37=some x):aV Pg GE 0 (.loop (cA YD 503)) (EX (oB x) (li x)) (oA t35 t36 t37):=
 aV.loop (S:=fun(zz:Int)=>oA t35 t36 zz) (ex:=oB) (s:=t37) h fun zz y hy=>M7 t35 t36 zz hy
end
def ug(s:af):Option Int:=
 if(decide ((s.length:Int)>120))=true then
  some 3
 else
  (F1 s).bind fun r2=>
  (yB r2).bind fun o14=>
  if o14=true then
   some 3
  else
   (Ot r2 (some 1) none).bind fun l17=>
   (DS l17 (l17.length:Int) 0).bind fun o23=>match o23 with
   |(.inl o23)=>
    some 3
   |(.inr o23)=>
    some 0
theorem uh{s:af}{r:Int}(h:ug s=some r):CC Pg GE 115 [.str s] (.int .i64 r) []:=by
 rcases bj h with⟨c1,h⟩|⟨c1,h⟩
 ·obtain rfl:=lf h
  have z:=cq (iD underlying9 s)<|sg 0 c1<|en (aI (rP (.int .i64 3))<|trivial)
  exact bO OM call115 func115 (c:=YD) rfl (aI trivial trivial) z<|by kernel_rfl
 ·obtain⟨r2,br2,h⟩:=ay h
  obtain⟨o14,bo14,h⟩:=ay h
  have p16:=fun{sc F} (r:PS sc F)=>cq (iD underlying9 s)<|sg 0 c1<|bz (Uy br2)<|ka 1<|cY (OU r2 bo14)<|r
  rcases bj h with⟨c15,h⟩|⟨c15,h⟩
  ·obtain rfl:=lf h
   have z:=p16<|sg 0 c15<|en (aI (rP (.int .i64 3))<|trivial)
   exact bO OM call115 func115 (c:=YD) rfl (aI trivial trivial) z<|by kernel_rfl
  ·obtain⟨l17,bl17,h⟩:=ay h
   obtain⟨o23,bo23,h⟩:=ay h
   rcases o23 with o23|o23
   ·obtain rfl:=lf h
    have z:=p16<|sg 0 c15<|sv (bq.sc bl17)<|cq (bq.ln l17)<|cY (e:=.ret) (s1:=li (.inl o23)) (DT l17 (l17.length:Int) 0 bo23)<|en (aI (rP (.int .i64 3))<|trivial)
    exact bO OM call115 func115 (c:=YD) rfl (aI trivial trivial) z<|by kernel_rfl
   ·obtain rfl:=lf h
    have z:=p16<|sg 0 c15<|sv (bq.sc bl17)<|cq (bq.ln l17)<|cY (e:=.exit 0) (s1:=li (.inr o23)) (DT l17 (l17.length:Int) 0 bo23)<|en (aI (rP (.int .i64 0))<|trivial)
    exact bO OM call115 func115 (c:=YD) rfl (aI trivial trivial) z<|by kernel_rfl
noncomputable def qgK:Code:=f101.body.getD .skip
def qgu:List Nat:=[]
def Az(s:af)(capital:Bool):Option Bool:=
 (ug s).bind fun r1=>
 if(r1==0)=true then
  (wr s 0).bind fun c3=>
  if(decide (c3>=65))=true then
   (wr s 0).bind fun c6=>
   some ((decide (c6<=90))==capital)
  else
   some (false==capital)
 else
  some false
theorem Ek{s:af}{capital:Bool}{r:Bool}(h:Az s capital=some r):CC Pg GE 101 [.str s,.bool capital] (.bool r) []:=by
 obtain⟨r1,br1,h⟩:=ay h
 rcases bj h with⟨c2,h⟩|⟨c2,h⟩
 ·obtain⟨c3,bc3,h⟩:=ay h
  have p5:=fun{sc F} (r:PS sc F)=>bz (uh br1)<|sg 4 c2<|sv (sG (k:=.i64) underlying9 bc3)<|r
  rcases bj h with⟨c4,h⟩|⟨c4,h⟩
  ·obtain⟨c6,bc6,h⟩:=ay h
   obtain rfl:=lf h
   have z:=p5<|sg 8 c4<|sv (sG (k:=.i64) underlying9 bc6)<|en (aI (rP (.bool ((decide (c6<=90))==capital)))<|trivial)
   exact bO qgu call101 func101 (c:=qgK) rfl (aI trivial (aI trivial trivial)) z<|by kernel_rfl
  ·obtain rfl:=lf h
   have z:=p5<|sg 8 c4<|en (aI (rP (.bool (false==capital)))<|trivial)
   exact bO qgu call101 func101 (c:=qgK) rfl (aI trivial (aI trivial trivial)) z<|by kernel_rfl
 ·obtain rfl:=lf h
  have z:=bz (uh br1)<|sg 4 c2<|en (aI (rP (.bool false))<|trivial)
  exact bO qgu call101 func101 (c:=qgK) rfl (aI trivial (aI trivial trivial)) z<|by kernel_rfl
noncomputable def qe5:Code:=f86.body.getD .skip
def Av:List Nat:=[]
section
variable(t:ae)
def R3:aC:=be 113 [(1,.eptr (ag t))] [.dead] []
def bJ(o:Bool):aC:=be 113 [(1,.eptr (ag t)),(52,.bool o)] [.dead] []
def En:Option Bool:=
 if(decide (t.Op<1))=true then
  some true
 else
  if(decide (t.Op>6))=true then
   some true
  else
   if (!(t.Name == ([]:af))) = true then
    if (t.Op != 4) = true then
     if(t.Op !=5)=true then
      some true
     else
      if (decide ((t.Args.length:Int) > 0)) = true then
       if (t.Op != 4) = true then
        if(t.Op !=6)=true then
         some true
        else
         if(decide ((t.Names.length:Int)>0))=true then
          some (t.Op !=6)
         else
          some false
       else
        if(decide ((t.Names.length:Int)>0))=true then
         some (t.Op !=6)
        else
         some false
      else
       if(decide ((t.Names.length:Int)>0))=true then
        some (t.Op !=6)
       else
        some false
    else
     if (decide ((t.Args.length:Int) > 0)) = true then
      if (t.Op != 4) = true then
       if(t.Op !=6)=true then
        some true
       else
        if(decide ((t.Names.length:Int)>0))=true then
         some (t.Op !=6)
        else
         some false
      else
       if(decide ((t.Names.length:Int)>0))=true then
        some (t.Op !=6)
       else
        some false
     else
      if(decide ((t.Names.length:Int)>0))=true then
       some (t.Op !=6)
      else
       some false
   else
    if (decide ((t.Args.length:Int) > 0)) = true then
     if (t.Op != 4) = true then
      if(t.Op !=6)=true then
       some true
      else
       if(decide ((t.Names.length:Int)>0))=true then
        some (t.Op !=6)
       else
        some false
     else
      if(decide ((t.Names.length:Int)>0))=true then
       some (t.Op !=6)
      else
       some false
    else
     if(decide ((t.Names.length:Int)>0))=true then
      some (t.Op !=6)
     else
      some false
theorem Pk{x:Bool}(h:En t=some x):aV Pg GE 0 (cA qe5 12) (EX .normal (bJ t x)) (R3 t):=by
 have p2:=fun{sc F} (r:PS sc F)=>sv (aD t)<|sv (aE t)<|r
 rcases bj h with⟨c1,h⟩|⟨c1,h⟩
 ·obtain rfl:=lf h
  exact cf Av (p2<|sg 4 c1<|eF .normal (bJ t true))<|by kernel_rfl
 ·have p4:=fun{sc F} (r:PS sc F)=>p2<|sg 4 c1<|sv (aD t)<|sv (aE t)<|r
  rcases bj h with⟨c3,h⟩|⟨c3,h⟩
  ·obtain rfl:=lf h
   exact cf Av (p4<|sg 9 c3<|eF .normal (bJ t true))<|by kernel_rfl
  ·have p6:=fun{sc F} (r:PS sc F)=>p4<|sg 9 c3<|sv (cx t)<|sv (cT t)<|r
   rcases bj h with⟨c5,h⟩|⟨c5,h⟩
   ·have p8:=fun{sc F} (r:PS sc F)=>p6<|sg 13 c5<|sv (aD t)<|sv (aE t)<|r
    rcases bj h with⟨c7,h⟩|⟨c7,h⟩
    ·have p10:=fun{sc F} (r:PS sc F)=>p8<|sg 18 c7<|sv (aD t)<|sv (aE t)<|r
     rcases bj h with⟨c9,h⟩|⟨c9,h⟩
     ·obtain rfl:=lf h
      exact cf Av (p10<|sg 24 c9<|eF .normal (bJ t true))<|by kernel_rfl
     ·have p12:=fun{sc F} (r:PS sc F)=>p10<|sg 24 c9<|sv (aL t)<|sv (aM t)<|cq (ct.ln t.Args)<|r
      rcases bj h with⟨c11,h⟩|⟨c11,h⟩
      ·have p14:=fun{sc F} (r:PS sc F)=>p12<|sg 29 c11<|sv (aD t)<|sv (aE t)<|r
       rcases bj h with⟨c13,h⟩|⟨c13,h⟩
       ·have p16:=fun{sc F} (r:PS sc F)=>p14<|sg 34 c13<|sv (aD t)<|sv (aE t)<|r
        rcases bj h with⟨c15,h⟩|⟨c15,h⟩
        ·obtain rfl:=lf h
         exact cf Av (p16<|sg 40 c15<|eF .normal (bJ t true))<|by kernel_rfl
        ·have p18:=fun{sc F} (r:PS sc F)=>p16<|sg 40 c15<|sv (aQ t)<|sv (aR t)<|cq (bq.ln t.Names)<|r
         rcases bj h with⟨c17,h⟩|⟨c17,h⟩
         ·obtain rfl:=lf h
          exact cf Av (p18<|sg 45 c17<|sv (aD t)<|sv (aE t)<|eF .normal (bJ t (t.Op !=6)))<|by kernel_rfl
         ·obtain rfl:=lf h
          exact cf Av (p18<|sg 45 c17<|eF .normal (bJ t false))<|by kernel_rfl
       ·have p20:=fun{sc F} (r:PS sc F)=>p14<|sg 34 c13<|sv (aQ t)<|sv (aR t)<|cq (bq.ln t.Names)<|r
        rcases bj h with⟨c19,h⟩|⟨c19,h⟩
        ·obtain rfl:=lf h
         exact cf Av (p20<|sg 45 c19<|sv (aD t)<|sv (aE t)<|eF .normal (bJ t (t.Op !=6)))<|by kernel_rfl
        ·obtain rfl:=lf h
         exact cf Av (p20<|sg 45 c19<|eF .normal (bJ t false))<|by kernel_rfl
      ·have p22:=fun{sc F} (r:PS sc F)=>p12<|sg 29 c11<|sv (aQ t)<|sv (aR t)<|cq (bq.ln t.Names)<|r
       rcases bj h with⟨c21,h⟩|⟨c21,h⟩
       ·obtain rfl:=lf h
        exact cf Av (p22<|sg 45 c21<|sv (aD t)<|sv (aE t)<|eF .normal (bJ t (t.Op !=6)))<|by kernel_rfl
       ·obtain rfl:=lf h
        exact cf Av (p22<|sg 45 c21<|eF .normal (bJ t false))<|by kernel_rfl
    ·have p24:=fun{sc F} (r:PS sc F)=>p8<|sg 18 c7<|sv (aL t)<|sv (aM t)<|cq (ct.ln t.Args)<|r
     rcases bj h with⟨c23,h⟩|⟨c23,h⟩
     ·have p26:=fun{sc F} (r:PS sc F)=>p24<|sg 29 c23<|sv (aD t)<|sv (aE t)<|r
      rcases bj h with⟨c25,h⟩|⟨c25,h⟩
      ·have p28:=fun{sc F} (r:PS sc F)=>p26<|sg 34 c25<|sv (aD t)<|sv (aE t)<|r
       rcases bj h with⟨c27,h⟩|⟨c27,h⟩
       ·obtain rfl:=lf h
        exact cf Av (p28<|sg 40 c27<|eF .normal (bJ t true))<|by kernel_rfl
       ·have p30:=fun{sc F} (r:PS sc F)=>p28<|sg 40 c27<|sv (aQ t)<|sv (aR t)<|cq (bq.ln t.Names)<|r
        rcases bj h with⟨c29,h⟩|⟨c29,h⟩
        ·obtain rfl:=lf h
         exact cf Av (p30<|sg 45 c29<|sv (aD t)<|sv (aE t)<|eF .normal (bJ t (t.Op !=6)))<|by kernel_rfl
        ·obtain rfl:=lf h
         exact cf Av (p30<|sg 45 c29<|eF .normal (bJ t false))<|by kernel_rfl
      ·have p32:=fun{sc F} (r:PS sc F)=>p26<|sg 34 c25<|sv (aQ t)<|sv (aR t)<|cq (bq.ln t.Names)<|r
       rcases bj h with⟨c31,h⟩|⟨c31,h⟩
       ·obtain rfl:=lf h
        exact cf Av (p32<|sg 45 c31<|sv (aD t)<|sv (aE t)<|eF .normal (bJ t (t.Op !=6)))<|by kernel_rfl
       ·obtain rfl:=lf h
        exact cf Av (p32<|sg 45 c31<|eF .normal (bJ t false))<|by kernel_rfl
     ·have p34:=fun{sc F} (r:PS sc F)=>p24<|sg 29 c23<|sv (aQ t)<|sv (aR t)<|cq (bq.ln t.Names)<|r
      rcases bj h with⟨c33,h⟩|⟨c33,h⟩
      ·obtain rfl:=lf h
       exact cf Av (p34<|sg 45 c33<|sv (aD t)<|sv (aE t)<|eF .normal (bJ t (t.Op !=6)))<|by kernel_rfl
      ·obtain rfl:=lf h
       exact cf Av (p34<|sg 45 c33<|eF .normal (bJ t false))<|by kernel_rfl
   ·have p36:=fun{sc F} (r:PS sc F)=>p6<|sg 13 c5<|sv (aL t)<|sv (aM t)<|cq (ct.ln t.Args)<|r
    rcases bj h with⟨c35,h⟩|⟨c35,h⟩
    ·have p38:=fun{sc F} (r:PS sc F)=>p36<|sg 29 c35<|sv (aD t)<|sv (aE t)<|r
     rcases bj h with⟨c37,h⟩|⟨c37,h⟩
     ·have p40:=fun{sc F} (r:PS sc F)=>p38<|sg 34 c37<|sv (aD t)<|sv (aE t)<|r
      rcases bj h with⟨c39,h⟩|⟨c39,h⟩
      ·obtain rfl:=lf h
       exact cf Av (p40<|sg 40 c39<|eF .normal (bJ t true))<|by kernel_rfl
      ·have p42:=fun{sc F} (r:PS sc F)=>p40<|sg 40 c39<|sv (aQ t)<|sv (aR t)<|cq (bq.ln t.Names)<|r
       rcases bj h with⟨c41,h⟩|⟨c41,h⟩
       ·obtain rfl:=lf h
        exact cf Av (p42<|sg 45 c41<|sv (aD t)<|sv (aE t)<|eF .normal (bJ t (t.Op !=6)))<|by kernel_rfl
       ·obtain rfl:=lf h
        exact cf Av (p42<|sg 45 c41<|eF .normal (bJ t false))<|by kernel_rfl
     ·have p44:=fun{sc F} (r:PS sc F)=>p38<|sg 34 c37<|sv (aQ t)<|sv (aR t)<|cq (bq.ln t.Names)<|r
      rcases bj h with⟨c43,h⟩|⟨c43,h⟩
      ·obtain rfl:=lf h
       exact cf Av (p44<|sg 45 c43<|sv (aD t)<|sv (aE t)<|eF .normal (bJ t (t.Op !=6)))<|by kernel_rfl
      ·obtain rfl:=lf h
       exact cf Av (p44<|sg 45 c43<|eF .normal (bJ t false))<|by kernel_rfl
    ·have p46:=fun{sc F} (r:PS sc F)=>p36<|sg 29 c35<|sv (aQ t)<|sv (aR t)<|cq (bq.ln t.Names)<|r
     rcases bj h with⟨c45,h⟩|⟨c45,h⟩
     ·obtain rfl:=lf h
      exact cf Av (p46<|sg 45 c45<|sv (aD t)<|sv (aE t)<|eF .normal (bJ t (t.Op !=6)))<|by kernel_rfl
     ·obtain rfl:=lf h
      exact cf Av (p46<|sg 45 c45<|eF .normal (bJ t false))<|by kernel_rfl
end
section
variable(t:ae)
def R7:aC:=be 113 [(1,.eptr (ag t))] [.dead] []
def zH(o:Bool):aC:=be 113 [(1,.eptr (ag t)),(61,.bool o)] [.dead] []
def Eo:Option Bool:=
 if(t.Op==4)=true then
  some (decide ((t.Args.length:Int)>6))
 else
  some false
theorem Pl{x:Bool}(h:Eo t=some x):aV Pg GE 0 (cA qe5 28) (EX .normal (zH t x)) (R7 t):=by
 have p51:=fun{sc F} (r:PS sc F)=>sv (aD t)<|sv (aE t)<|r
 rcases bj h with⟨c50,h⟩|⟨c50,h⟩
 ·obtain rfl:=lf h
  exact cf Av (p51<|sg 4 c50<|sv (aL t)<|sv (aM t)<|cq (ct.ln t.Args)<|eF .normal (zH t (decide ((t.Args.length:Int)>6))))<|by kernel_rfl
 ·obtain rfl:=lf h
  exact cf Av (p51<|sg 4 c50<|eF .normal (zH t false))<|by kernel_rfl
end
section
variable(t:ae)
def Sa:aC:=be 113 [(1,.eptr (ag t))] [.dead] []
def lr(o:Bool):aC:=be 113 [(1,.eptr (ag t)),(92,.bool o)] [.dead] []
def Ep:Option Bool:=
 if (t.Op == 6) = true then
  if(decide ((t.Args.length:Int)<2))=true then
   some true
  else
   if(decide ((t.Args.length:Int)>7))=true then
    some true
   else
    if(decide ((t.Names.length:Int)>0))=true then
     some ((t.Names.length:Int)!=(aS ((t.Args.length:Int) - 1)))
    else
     some false
 else
  some false
theorem Pm{x:Bool}(h:Ep t=some x):aV Pg GE 0 (cA qe5 60) (EX .normal (lr t x)) (Sa t):=by
 have p56:=fun{sc F} (r:PS sc F)=>sv (aD t)<|sv (aE t)<|r
 rcases bj h with⟨c55,h⟩|⟨c55,h⟩
 ·have p58:=fun{sc F} (r:PS sc F)=>p56<|sg 4 c55<|sv (aL t)<|sv (aM t)<|cq (ct.ln t.Args)<|r
  rcases bj h with⟨c57,h⟩|⟨c57,h⟩
  ·obtain rfl:=lf h
   exact cf Av (p58<|sg 9 c57<|eF .normal (lr t true))<|by kernel_rfl
  ·have p60:=fun{sc F} (r:PS sc F)=>p58<|sg 9 c57<|sv (aL t)<|sv (aM t)<|cq (ct.ln t.Args)<|r
   rcases bj h with⟨c59,h⟩|⟨c59,h⟩
   ·obtain rfl:=lf h
    exact cf Av (p60<|sg 15 c59<|eF .normal (lr t true))<|by kernel_rfl
   ·have p62:=fun{sc F} (r:PS sc F)=>p60<|sg 15 c59<|sv (aQ t)<|sv (aR t)<|cq (bq.ln t.Names)<|r
    rcases bj h with⟨c61,h⟩|⟨c61,h⟩
    ·obtain rfl:=lf h
     exact cf Av (p62<|sg 20 c61<|sv (aQ t)<|sv (aR t)<|cq (bq.ln t.Names)<|sv (aL t)<|sv (aM t)<|cq (ct.ln t.Args)<|eF .normal (lr t ((t.Names.length:Int)!=(aS ((t.Args.length:Int) - 1)))))<|by kernel_rfl
    ·obtain rfl:=lf h
     exact cf Av (p62<|sg 20 c61<|eF .normal (lr t false))<|by kernel_rfl
 ·obtain rfl:=lf h
  exact cf Av (p56<|sg 4 c55<|eF .normal (lr t false))<|by kernel_rfl
end
section
variable(t:ae)
def Sc:aC:=be 113 [(1,.eptr (ag t))] [.dead] []
def ls(o:Bool):aC:=be 113 [(112,.bool o)] [.dead] []
def Er:Option Bool:=
 if (t.Op == 4) = true then
  (Az t.Name true).bind fun r68=>
  if(!r68)=true then
   some true
  else
   if(t.Op==5)=true then
    (Az t.Name false).bind fun r73=>
    some (!r73)
   else
    some false
 else
  if(t.Op==5)=true then
   (Az t.Name false).bind fun r76=>
   some (!r76)
  else
   some false
theorem Pn{x:Bool}(h:Er t=some x):aV Pg GE 0 (cA qe5 124) (EX .normal (ls x)) (Sc t):=by
 have p67:=fun{sc F} (r:PS sc F)=>sv (aD t)<|sv (aE t)<|r
 rcases bj h with⟨c66,h⟩|⟨c66,h⟩
 ·obtain⟨r68,br68,h⟩:=ay h
  have p70:=fun{sc F} (r:PS sc F)=>p67<|sg 4 c66<|sv (cx t)<|sv (cT t)<|bz (Ek br68)<|r
  rcases bj h with⟨c69,h⟩|⟨c69,h⟩
  ·obtain rfl:=lf h
   exact cf Av (p70<|sg 10 c69<|eF .normal (ls true))<|by kernel_rfl
  ·have p72:=fun{sc F} (r:PS sc F)=>p70<|sg 10 c69<|sv (aD t)<|sv (aE t)<|r
   rcases bj h with⟨c71,h⟩|⟨c71,h⟩
   ·obtain⟨r73,br73,h⟩:=ay h
    obtain rfl:=lf h
    exact cf Av (p72<|sg 14 c71<|sv (cx t)<|sv (cT t)<|bz (Ek br73)<|eF .normal (ls (!r73)))<|by kernel_rfl
   ·obtain rfl:=lf h
    exact cf Av (p72<|sg 14 c71<|eF .normal (ls false))<|by kernel_rfl
 ·have p75:=fun{sc F} (r:PS sc F)=>p67<|sg 4 c66<|sv (aD t)<|sv (aE t)<|r
  rcases bj h with⟨c74,h⟩|⟨c74,h⟩
  ·obtain⟨r76,br76,h⟩:=ay h
   obtain rfl:=lf h
   exact cf Av (p75<|sg 14 c74<|sv (cx t)<|sv (cT t)<|bz (Ek br76)<|eF .normal (ls (!r76)))<|by kernel_rfl
  ·obtain rfl:=lf h
   exact cf Av (p75<|sg 14 c74<|eF .normal (ls false))<|by kernel_rfl
end
def Jm(t:ae):Option Int:=
 (En t).bind fun o47=>
 if o47=true then
  some 1
 else
  (Eo t).bind fun o52=>
  if o52=true then
   some 13
  else
   (Ep t).bind fun o63=>
   if o63=true then
    some 13
   else
    (Er t).bind fun o77=>
    if o77=true then
     some 3
    else
     some 0
theorem WK{t:ae}{r:Int}(h:Jm t=some r):CC Pg GE 86 [.agg (ag t)] (.int .i64 r) []:=by
 obtain⟨o47,bo47,h⟩:=ay h
 have p49:=fun{sc F} (r:PS sc F)=>se (bw t)<|ka 1<|cY (Pk t bo47)<|r
 rcases bj h with⟨c48,h⟩|⟨c48,h⟩
 ·obtain rfl:=lf h
  have z:=p49<|sg 0 c48<|en (aI (rP (.int .i64 1))<|trivial)
  exact bO Av call86 func86 (c:=qe5) rfl (aI (ak t) trivial) z<|by kernel_rfl
 ·obtain⟨o52,bo52,h⟩:=ay h
  have p54:=fun{sc F} (r:PS sc F)=>p49<|sg 0 c48<|ka 1<|cY (Pl t bo52)<|r
  rcases bj h with⟨c53,h⟩|⟨c53,h⟩
  ·obtain rfl:=lf h
   have z:=p54<|sg 0 c53<|en (aI (rP (.int .i64 13))<|trivial)
   exact bO Av call86 func86 (c:=qe5) rfl (aI (ak t) trivial) z<|by kernel_rfl
  ·obtain⟨o63,bo63,h⟩:=ay h
   have p65:=fun{sc F} (r:PS sc F)=>p54<|sg 0 c53<|ka 1<|cY (Pm t bo63)<|r
   rcases bj h with⟨c64,h⟩|⟨c64,h⟩
   ·obtain rfl:=lf h
    have z:=p65<|sg 0 c64<|en (aI (rP (.int .i64 13))<|trivial)
    exact bO Av call86 func86 (c:=qe5) rfl (aI (ak t) trivial) z<|by kernel_rfl
   ·obtain⟨o77,bo77,h⟩:=ay h
    have p79:=fun{sc F} (r:PS sc F)=>p65<|sg 0 c64<|ka 1<|cY (Pn t bo77)<|r
    rcases bj h with⟨c78,h⟩|⟨c78,h⟩
    ·obtain rfl:=lf h
     have z:=p79<|sg 0 c78<|en (aI (rP (.int .i64 3))<|trivial)
     exact bO Av call86 func86 (c:=qe5) rfl (aI (ak t) trivial) z<|by kernel_rfl
    ·obtain rfl:=lf h
     have z:=p79<|sg 0 c78<|en (aI (rP (.int .i64 0))<|trivial)
     exact bO Av call86 func86 (c:=qe5) rfl (aI (ak t) trivial) z<|by kernel_rfl
noncomputable def qiu:Code:=f61.body.getD .skip
def qhB:List Nat:=[11,23]
section
variable(R17:Ci)(t13:waC)(t14:Int)(t15:Int)
def oN:aC:=be 25 [(13,sl ag t13),(14,.int .i64 t14),(15,.int .i64 t15)] [.dead] []
def oO(o:Int⊕(Unit)):Exit:=match o with
 |(.inl _)=>.ret
 |(.inr _)=>.exit 0
def lq(o:Int⊕(Unit)):aC:=match o with
 |(.inl o)=>be 25 [(2,.int .i64 o)] [.dead] []
 |(.inr o)=>be 25 [] [.dead] []
def Hb:Option (Int⊕(Int⊕(Unit))):=
 if(decide (t15<t14))=true then
  (cz t13 t15).bind fun x5=>
  (R17 x5).bind fun r6=>
  if(r6 !=0)=true then
   some (.inr (.inl r6))
  else
   some (.inl (aS (t15+1)))
 else
  some (.inr (.inr ()))
def El:Option (Int⊕(Unit)):=loop (fun(zz:Int)=>Hb R17 t13 t14 zz) t15
theorem Nr(hR17:HM R17){y:Int⊕(Int⊕(Unit))}(h:Hb R17 t13 t14 t15=some y):aV Pg GE 0 (cA qiu 119) (LQ (fun(zz:Int)=>oN t13 t14 zz) oO lq y) (oN t13 t14 t15):=by
 rcases bj h with⟨c4,h⟩|⟨c4,h⟩
 ·obtain⟨x5,bx5,h⟩:=ay h
  obtain⟨r6,br6,h⟩:=ay h
  have p8:=fun{sc F} (r:PS sc F)=>sg 0 c4<|sv (ct.ia (k:=.i64) bx5)<|sv (aN x5)<|sx tu<|sx (ez x5)<|sv (cX x5 [])<|bz (hR17 _ _ br6)<|r
  rcases bj h with⟨c7,h⟩|⟨c7,h⟩
  ·obtain rfl:=lf h
   have z:=p8<|sg 0 c7<|uP 0 (oO (.inl r6)) (lq (.inl r6)) rfl (dF (aI trivial trivial)) (aI trivial trivial)
   exact IN (A:=qhB) mixed (by intro hx;cases hx) z<|by kernel_rfl
  ·obtain rfl:=lf h
   have z:=p8<|sg 0 c7<|uP 0 .normal (oN t13 t14 (aS (t15+1))) rfl (dF (aI (up (aj ak t13)) (aI trivial (aI trivial trivial)))) (aI trivial trivial)
   exact dh (A:=qhB) mixed z<|by kernel_rfl
 ·obtain rfl:=lf h
  have z:=sg 0 c4<|eF (oO (.inr ())) (lq (.inr ()))
  exact gg qhB (by intro hx;cases hx) z<|by kernel_rfl
theorem Em(hR17:HM R17){x:Int⊕(Unit)}(h:El R17 t13 t14 t15=some x):aV Pg GE 0 (.loop (cA qiu 119)) (EX (oO x) (lq x)) (oN t13 t14 t15):=
 aV.loop (S:=fun(zz:Int)=>oN t13 t14 zz) (ex:=oO) (s:=t15) h fun zz y hy=>Nr R17 t13 t14 zz hR17 hy
end
def BO(R17:Ci)(t:ae):Option Int:=
 (Jm t).bind fun r1=>
 if(r1 !=0)=true then
  some r1
 else
  (El R17 t.Args (t.Args.length:Int) 0).bind fun o9=>match o9 with
  |(.inl o9)=>
   some o9
  |(.inr o9)=>
   some 0
theorem UN(R17:Ci)(hR17:HM R17){t:ae}{r:Int}(h:BO R17 t=some r):CC Pg GE 61 [.agg (ag t)] (.int .i64 r) []:=by
 obtain⟨r1,br1,h⟩:=ay h
 have p3:=fun{sc F} (r:PS sc F)=>se (bw t)<|sv (aN t)<|bz (WK br1)<|r
 rcases bj h with⟨c2,h⟩|⟨c2,h⟩
 ·obtain rfl:=lf h
  have z:=p3<|sg 0 c2<|en (aI (rP (.int .i64 r1))<|trivial)
  exact bO qhB call61 func61 (c:=qiu) rfl (aI (ak t) trivial) z<|by kernel_rfl
 ·obtain⟨o9,bo9,h⟩:=ay h
  rcases o9 with o9|o9
  ·obtain rfl:=lf h
   have z:=p3<|sg 0 c2<|sv (aL t)<|sv (aM t)<|cq (ct.ln t.Args)<|cY (e:=.ret) (s1:=lq (.inl o9)) (Em R17 t.Args (t.Args.length:Int) 0 hR17 bo9)<|en (aI (rP (.int .i64 o9))<|trivial)
   exact bO qhB call61 func61 (c:=qiu) rfl (aI (ak t) trivial) z<|by kernel_rfl
  ·obtain rfl:=lf h
   have z:=p3<|sg 0 c2<|sv (aL t)<|sv (aM t)<|cq (ct.ln t.Args)<|cY (e:=.exit 0) (s1:=lq (.inr o9)) (Em R17 t.Args (t.Args.length:Int) 0 hR17 bo9)<|en (aI (rP (.int .i64 0))<|trivial)
   exact bO qhB call61 func61 (c:=qiu) rfl (aI (ak t) trivial) z<|by kernel_rfl
def HZ:(ae->Option Int)->(ae)->Option Int:=fun(rec:ae->Option Int) (x:ae)=>BO (fun t=>rec t) x
def Pj(t:ae):Option Int:=kK HZ t
theorem WJ{t:ae}{r:Int}(h:Pj t=some r):CC Pg GE 61 [.agg (ag t)] (.int .i64 r) []:=
 cG (F:=HZ) (M:=fun(x:ae) (r:Int)=>CC Pg GE 61 [.agg (ag x)] (.int .i64 r) []) (fun rec hrec x r h=>UN _ (fun t r h=>hrec t r h) h) h
noncomputable def qlb:Code:=f39.body.getD .skip
def qk1:List Nat:=[]
def F4(t:ae):Option Int:=
 (Lk t).bind fun r1=>
 if(decide (r1>40))=true then
  some 8
 else
  (Pj t).bind fun r4=>
  some r4
theorem UJ{t:ae}{r:Int}(h:F4 t=some r):CC Pg GE 39 [.agg (ag t)] (.int .i64 r) []:=by
 obtain⟨r1,br1,h⟩:=ay h
 have p3:=fun{sc F} (r:PS sc F)=>se (bw t)<|sv (aN t)<|bz (UK br1)<|r
 rcases bj h with⟨c2,h⟩|⟨c2,h⟩
 ·obtain rfl:=lf h
  have z:=p3<|sg 0 c2<|en (aI (rP (.int .i64 8))<|trivial)
  exact bO qk1 call39 func39 (c:=qlb) rfl (aI (ak t) trivial) z<|by kernel_rfl
 ·obtain⟨r4,br4,h⟩:=ay h
  obtain rfl:=lf h
  have z:=p3<|sg 0 c2<|sv (aN t)<|bz (WJ br4)<|en (aI (rP (.int .i64 r4))<|trivial)
  exact bO qk1 call39 func39 (c:=qlb) rfl (aI (ak t) trivial) z<|by kernel_rfl
abbrev Ck:=(ae->Option Int)
abbrev HO(R:Ck):Prop:=∀(t:ae) (r:Int),R t=some r->CC Pg GE 40 [.agg (ag t)] (.int .i64 r) []
abbrev Cf:=(aa->aa->Option Bool)
abbrev HJ(R:Cf):Prop:=∀(a:aa) (a2:aa) (r:Bool),R a a2=some r->CC Pg GE 19 [.agg (ac a),.agg (ac a2)] (.bool r) []
noncomputable def qhF:Code:=f19.body.getD .skip
def qey:List Nat:=[39]
section
variable(v:aa)(v2:aa)
def RQ:aC:=be 53 [(2,.eptr (ac v)),(3,.eptr (ac v2))] [.dead,.dead] []
def oG(o:Bool):aC:=be 53 [(2,.eptr (ac v)),(3,.eptr (ac v2)),(33,.bool o)] [.dead,.dead] []
def D4:Option Bool:=
 if(v.Op !=v2.Op)=true then
  some true
 else
  if(!(v.Name==v2.Name))=true then
   some true
  else
   if(v.N !=v2.N)=true then
    some true
   else
    some ((v.Kids.length:Int)!=(v2.Kids.length:Int))
theorem O6{x:Bool}(h:D4 v v2=some x):aV Pg GE 0 (cA qhF 12) (EX .normal (oG v v2 x)) (RQ v v2):=by
 have p2:=fun{sc F} (r:PS sc F)=>sv (bE v)<|sv (bF v)<|sv (bE v2)<|sv (bF v2)<|r
 rcases bj h with⟨c1,h⟩|⟨c1,h⟩
 ·obtain rfl:=lf h
  exact cf qey (p2<|sg 6 c1<|eF .normal (oG v v2 true))<|by kernel_rfl
 ·have p4:=fun{sc F} (r:PS sc F)=>p2<|sg 6 c1<|sv (cw v)<|sv (cR v)<|sv (cw v2)<|sv (cR v2)<|r
  rcases bj h with⟨c3,h⟩|⟨c3,h⟩
  ·obtain rfl:=lf h
   exact cf qey (p4<|sg 13 c3<|eF .normal (oG v v2 true))<|by kernel_rfl
  ·have p6:=fun{sc F} (r:PS sc F)=>p4<|sg 13 c3<|sv (dG v)<|sv (dX v)<|sv (dG v2)<|sv (dX v2)<|r
   rcases bj h with⟨c5,h⟩|⟨c5,h⟩
   ·obtain rfl:=lf h
    exact cf qey (p6<|sg 20 c5<|eF .normal (oG v v2 true))<|by kernel_rfl
   ·obtain rfl:=lf h
    exact cf qey (p6<|sg 20 c5<|sv (bC v)<|sv (bD v)<|cq (bL.ln v.Kids)<|sv (bC v2)<|sv (bD v2)<|cq (bL.ln v2.Kids)<|eF .normal (oG v v2 ((v.Kids.length:Int)!=(v2.Kids.length:Int))))<|by kernel_rfl
end
section
variable(R34:Cf)(v:aa)(v2:aa)(t36:Int)(t37:Int)
def oH:aC:=be 53 [(2,.eptr (ac v)),(3,.eptr (ac v2)),(36,.int .i64 t36),(37,.int .i64 t37)] [.dead,.dead] []
def oI(o:Unit⊕(Unit)):Exit:=match o with
 |(.inl _)=>.ret
 |(.inr _)=>.exit 0
def ll(o:Unit⊕(Unit)):aC:=match o with
 |(.inl o)=>be 53 [(4,.bool false)] [.dead,.dead] []
 |(.inr o)=>be 53 [] [.dead,.dead] []
def tF:Option (Int⊕(Unit⊕(Unit))):=
 if(decide (t37<t36))=true then
  (cz v.Kids t37).bind fun x11=>
  (cz v2.Kids t37).bind fun x12=>
  (R34 x11 x12).bind fun r13=>
  if(!r13)=true then
   some (.inr (.inl ()))
  else
   some (.inl (aS (t37+1)))
 else
  some (.inr (.inr ()))
def D5:Option (Unit⊕(Unit)):=loop (fun(zz:Int)=>tF R34 v v2 t36 zz) t37
theorem Nm(hR34:HJ R34){y:Int⊕(Unit⊕(Unit))}(h:tF R34 v v2 t36 t37=some y):aV Pg GE 0 (cA qhF 119) (LQ (fun(zz:Int)=>oH v v2 t36 zz) oI ll y) (oH v v2 t36 t37):=by
 rcases bj h with⟨c10,h⟩|⟨c10,h⟩
 ·obtain⟨x11,bx11,h⟩:=ay h
  obtain⟨x12,bx12,h⟩:=ay h
  obtain⟨r13,br13,h⟩:=ay h
  have p15:=fun{sc F} (r:PS sc F)=>sg 0 c10<|lK [0,1,0,7,15,0,32,0,224,480,1023,2047]<|sv (bC v)<|sv (bD v)<|sv (bL.ia (k:=.i64) bx11)<|sv (bh x11)<|sv (bC v2)<|sv (bD v2)<|sv (bL.ia (k:=.i64) bx12)<|sv (bh x12)<|bz (hR34 _ _ _ br13)<|r
  rcases bj h with⟨c14,h⟩|⟨c14,h⟩
  ·obtain rfl:=lf h
   have z:=p15<|sg 0 c14<|eF (oI (.inl ())) (ll (.inl ()))
   exact gg qey (by intro hx;cases hx) z<|by kernel_rfl
  ·obtain rfl:=lf h
   exact oo qey (p15<|sg 0 c14<|eF .normal (oH v v2 t36 (aS (t37+1))))<|by kernel_rfl
 ·obtain rfl:=lf h
  have z:=sg 0 c10<|eF (oI (.inr ())) (ll (.inr ()))
  exact gg qey (by intro hx;cases hx) z<|by kernel_rfl
theorem D6(hR34:HJ R34){x:Unit⊕(Unit)}(h:D5 R34 v v2 t36 t37=some x):aV Pg GE 0 (.loop (cA qhF 119)) (EX (oI x) (ll x)) (oH v v2 t36 t37):=
 aV.loop (S:=fun(zz:Int)=>oH v v2 t36 zz) (ex:=oI) (s:=t37) h fun zz y hy=>Nm R34 v v2 t36 zz hR34 hy
end
def BI(R34:Cf)(a:aa)(a2:aa):Option Bool:=
 (D4 a a2).bind fun o7=>
 if o7=true then
  some false
 else
  (D5 R34 a a2 (a.Kids.length:Int) 0).bind fun o16=>match o16 with
  |(.inl o16)=>
   some false
  |(.inr o16)=>
   some true
theorem UG(R34:Cf)(hR34:HJ R34){a:aa}{a2:aa}{r:Bool}(h:BI R34 a a2=some r):CC Pg GE 19 [.agg (ac a),.agg (ac a2)] (.bool r) []:=by
 obtain⟨o7,bo7,h⟩:=ay h
 have p9:=fun{sc F} (r:PS sc F)=>se (bU a)<|se (bU a2)<|ka 1<|cY (O6 a a2 bo7)<|r
 rcases bj h with⟨c8,h⟩|⟨c8,h⟩
 ·obtain rfl:=lf h
  have z:=p9<|sg 0 c8<|en (aI (rP (.bool false))<|trivial)
  exact bO qey call19 func19 (c:=qhF) rfl (aI (ah a) (aI (ah a2) trivial)) z<|by kernel_rfl
 ·obtain⟨o16,bo16,h⟩:=ay h
  rcases o16 with o16|o16
  ·obtain rfl:=lf h
   have z:=p9<|sg 0 c8<|sv (bC a)<|sv (bD a)<|cq (bL.ln a.Kids)<|cY (e:=.ret) (s1:=ll (.inl o16)) (D6 R34 a a2 (a.Kids.length:Int) 0 hR34 bo16)<|en (aI (rP (.bool false))<|trivial)
   exact bO qey call19 func19 (c:=qhF) rfl (aI (ah a) (aI (ah a2) trivial)) z<|by kernel_rfl
  ·obtain rfl:=lf h
   have z:=p9<|sg 0 c8<|sv (bC a)<|sv (bD a)<|cq (bL.ln a.Kids)<|cY (e:=.exit 0) (s1:=ll (.inr o16)) (D6 R34 a a2 (a.Kids.length:Int) 0 hR34 bo16)<|en (aI (rP (.bool true))<|trivial)
   exact bO qey call19 func19 (c:=qhF) rfl (aI (ah a) (aI (ah a2) trivial)) z<|by kernel_rfl
def HU:((aa×aa)->Option Bool)->(aa×aa)->Option Bool:=fun(rec:(aa×aa)->Option Bool) (x:aa×aa)=>BI (fun a a2=>rec (a,a2)) x.1 x.2
def qT(a:aa)(a2:aa):Option Bool:=kK HU (a,a2)
theorem uj{a:aa}{a2:aa}{r:Bool}(h:qT a a2=some r):CC Pg GE 19 [.agg (ac a),.agg (ac a2)] (.bool r) []:=
 cG (F:=HU) (M:=fun(x:aa×aa) (r:Bool)=>CC Pg GE 19 [.agg (ac x.1),.agg (ac x.2)] (.bool r) []) (fun rec hrec x r h=>UG _ (fun a a2 r h=>hrec (a,a2) r h) h) h
noncomputable def qlV:Code:=f73.body.getD .skip
def qlF:List Nat:=[]
def AF(p:aa):Option Bool:=
 (qT p (⟨0,([]:af),0,([]:List aa)⟩:aa)).bind fun r1=>
 some r1
theorem EU{p:aa}{r:Bool}(h:AF p=some r):CC Pg GE 73 [.agg (ac p)] (.bool r) []:=by
 obtain⟨r1,br1,h⟩:=ay h
 obtain rfl:=lf h
 have z:=se (bU p)<|sv (bh p)<|sb (tb) (ta)<|bz (uj br1)<|en (aI (rP (.bool r1))<|trivial)
 exact bO qlF call73 func73 (c:=qlV) rfl (aI (ah p) trivial) z<|by kernel_rfl
noncomputable def qjJ:Code:=f88.body.getD .skip
def qia:List Nat:=[8]
section
variable(v:waA)(t5:Int)(t6:Int)
def iT:aC:=be 18 [(0,sl cS v),(5,.int .i64 t5),(6,.int .i64 t6)] [] []
def iU(o:Unit⊕(Unit)):Exit:=match o with
 |(.inl _)=>.ret
 |(.inr _)=>.exit 0
def gm(o:Unit⊕(Unit)):aC:=match o with
 |(.inl o)=>be 18 [(2,.bool false)] [] []
 |(.inr o)=>be 18 [] [] []
def yC:Option (Int⊕(Unit⊕(Unit))):=
 if(decide (t6<t5))=true then
  (cz v t6).bind fun x2=>
  (gM v x2).bind fun r3=>
  if(r3 !=t6)=true then
   some (.inr (.inl ()))
  else
   some (.inl (aS (t6+1)))
 else
  some (.inr (.inr ()))
def uT:Option (Unit⊕(Unit)):=loop (fun(zz:Int)=>yC v t5 zz) t6
theorem GL{y:Int⊕(Unit⊕(Unit))}(h:yC v t5 t6=some y):aV Pg GE 0 (cA qjJ 55) (LQ (fun(zz:Int)=>iT v t5 zz) iU gm y) (iT v t5 t6):=by
 rcases bj h with⟨c1,h⟩|⟨c1,h⟩
 ·obtain⟨x2,bx2,h⟩:=ay h
  obtain⟨r3,br3,h⟩:=ay h
  have p5:=fun{sc F} (r:PS sc F)=>sg 0 c1<|sv (bq.ia (k:=.i64) bx2)<|sv (dB Bg (.str x2) [])<|bz (kb br3)<|r
  rcases bj h with⟨c4,h⟩|⟨c4,h⟩
  ·obtain rfl:=lf h
   have z:=p5<|sg 0 c4<|eF (iU (.inl ())) (gm (.inl ()))
   exact gg qia (by intro hx;cases hx) z<|by kernel_rfl
  ·obtain rfl:=lf h
   exact oo qia (p5<|sg 0 c4<|eF .normal (iT v t5 (aS (t6+1))))<|by kernel_rfl
 ·obtain rfl:=lf h
  have z:=sg 0 c1<|eF (iU (.inr ())) (gm (.inr ()))
  exact gg qia (by intro hx;cases hx) z<|by kernel_rfl
theorem wN{x:Unit⊕(Unit)}(h:uT v t5 t6=some x):aV Pg GE 0 (.loop (cA qjJ 55)) (EX (iU x) (gm x)) (iT v t5 t6):=
 aV.loop (S:=fun(zz:Int)=>iT v t5 zz) (ex:=iU) (s:=t6) h fun zz y hy=>GL v t5 zz hy
end
def vW(a:waA):Option Bool:=
 (uT a (a.length:Int) 0).bind fun o6=>match o6 with
 |(.inl o6)=>
  some false
 |(.inr o6)=>
  some true
theorem M8{a:waA}{r:Bool}(h:vW a=some r):CC Pg GE 88 [sl cS a] (.bool r) []:=by
 obtain⟨o6,bo6,h⟩:=ay h
 rcases o6 with o6|o6
 ·obtain rfl:=lf h
  have z:=cq (bq.ln a)<|cY (e:=.ret) (s1:=gm (.inl o6)) (wN a (a.length:Int) 0 bo6)<|en (aI (rP (.bool false))<|trivial)
  exact bO qia call88 func88 (c:=qjJ) rfl (aI (aj dN a) trivial) z<|by kernel_rfl
 ·obtain rfl:=lf h
  have z:=cq (bq.ln a)<|cY (e:=.exit 0) (s1:=gm (.inr o6)) (wN a (a.length:Int) 0 bo6)<|en (aI (rP (.bool true))<|trivial)
  exact bO qia call88 func88 (c:=qjJ) rfl (aI (aj dN a) trivial) z<|by kernel_rfl
abbrev yW:=(aa->Option Int)
abbrev DL(R:yW):Prop:=∀(p:aa) (r:Int),R p=some r->CC Pg GE 105 [.agg (ac p)] (.int .i64 r) []
noncomputable def qgL:Code:=f105.body.getD .skip
def qgv:List Nat:=[18]
section
variable(R37:yW)(t7:waB)(t8:Int)(n:Int)(t9:Int)
def mr:aC:=be 19 [(3,.int .i64 n),(7,sl ac t7),(8,.int .i64 t8),(9,.int .i64 t9)] [.dead] []
def wW(o:Int):aC:=be 19 [(3,.int .i64 o)] [.dead] []
def qS:Option ((Int×Int)⊕(Int)):=
 if(decide (t9<t8))=true then
  (cz t7 t9).bind fun x2=>
  (R37 x2).bind fun r3=>
  some (.inl (aS (n+r3),aS (t9+1)))
 else
  some (.inr n)
def BH:Option Int:=loop (fun(zz:Int×Int)=>qS R37 t7 t8 zz.1 zz.2) (n,t9)
theorem Li(hR37:DL R37){y:(Int×Int)⊕(Int)}(h:qS R37 t7 t8 n t9=some y):aV Pg GE 0 (cA qgL 119) (LQ (fun(zz:Int×Int)=>mr t7 t8 zz.1 zz.2) (fun _=>.exit 0) wW y) (mr t7 t8 n t9):=by
 rcases bj h with⟨c1,h⟩|⟨c1,h⟩
 ·obtain⟨x2,bx2,h⟩:=ay h
  obtain⟨r3,br3,h⟩:=ay h
  obtain rfl:=lf h
  have z:=sg 0 c1<|sv (bL.ia (k:=.i64) bx2)<|sv (bh x2)<|sx ib<|sx (cr x2)<|sv (bX x2 [])<|bz (hR37 _ _ br3)<|uP 0 .normal (mr t7 t8 (aS (n+r3)) (aS (t9+1))) rfl (dF (aI trivial (aI (up (aj ah t7)) (aI trivial (aI trivial trivial))))) (aI trivial trivial)
  exact dh (A:=qgv) mixed z<|by kernel_rfl
 ·obtain rfl:=lf h
  have z:=sg 0 c1<|eF (.exit 0) (wW n)
  exact gg qgv (by intro hx;cases hx) z<|by kernel_rfl
theorem Nl(hR37:DL R37){x:Int}(h:BH R37 t7 t8 n t9=some x):aV Pg GE 0 (.loop (cA qgL 119)) (EX (.exit 0) (wW x)) (mr t7 t8 n t9):=
 aV.loop (S:=fun(zz:Int×Int)=>mr t7 t8 zz.1 zz.2) (ex:=(fun _=>.exit 0)) (s:=(n,t9)) h fun zz y hy=>Li R37 t7 t8 zz.1 zz.2 hR37 hy
end
def yJ(R37:yW)(p:aa):Option Int:=
 (BH R37 p.Kids (p.Kids.length:Int) 1 0).bind fun o4=>
 some o4
theorem RP(R37:yW)(hR37:DL R37){p:aa}{r:Int}(h:yJ R37 p=some r):CC Pg GE 105 [.agg (ac p)] (.int .i64 r) []:=by
 obtain⟨o4,bo4,h⟩:=ay h
 obtain rfl:=lf h
 have z:=se (bU p)<|sv (bC p)<|sv (bD p)<|cq (bL.ln p.Kids)<|cY (Nl R37 p.Kids (p.Kids.length:Int) 1 0 hR37 bo4)<|en (aI (rP (.int .i64 o4))<|trivial)
 exact bO qgv call105 func105 (c:=qgL) rfl (aI (ah p) trivial) z<|by kernel_rfl
def D3:(aa->Option Int)->(aa)->Option Int:=fun(rec:aa->Option Int) (x:aa)=>yJ (fun p=>rec p) x
def Lh(p:aa):Option Int:=kK D3 p
theorem UF{p:aa}{r:Int}(h:Lh p=some r):CC Pg GE 105 [.agg (ac p)] (.int .i64 r) []:=
 cG (F:=D3) (M:=fun(x:aa) (r:Int)=>CC Pg GE 105 [.agg (ac x)] (.int .i64 r) []) (fun rec hrec x r h=>RP _ (fun p r h=>hrec p r h) h) h
abbrev yV:=(aa->Option Int)
abbrev DK(R:yV):Prop:=∀(p:aa) (r:Int),R p=some r->CC Pg GE 106 [.agg (ac p)] (.int .i64 r) []
end Go.Proofs.YtbaamopmfmpfaaaGreatDoor
