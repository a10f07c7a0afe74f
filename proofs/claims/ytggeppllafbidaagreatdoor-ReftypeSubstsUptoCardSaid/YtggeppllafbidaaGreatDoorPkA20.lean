/- PROVED: parts of the proof (G9). Conditions: none. -/
import Derived.Test.YtggeppllafbidaaGreatDoorPkA19
noncomputable section
namespace Go.Proofs.YtggeppllafbidaaGreatDoor
open Go
set_option linter.unusedVariables false
set_option maxRecDepth 100000
def Pb:Code:=Tryz.f11.body.getD .skip
def OX:List Nat:=[]
def wq:Option Bool:=
 (mX ([121]:ag)).bind fun r1=>
 (Ek 1).bind fun r2=>
 (mj 6 ([r1,r2]:List aa)).bind fun r3=>
 (mX ([120]:ag)).bind fun r4=>
 (mX ([118]:ag)).bind fun r5=>
 (mj 12 ([r4,r5]:List aa)).bind fun r6=>
 (gp r6).bind fun r7=>
 (DM ([120]:ag) r7).bind fun r8=>
 (mX ([120]:ag)).bind fun r9=>
 (mX ([121]:ag)).bind fun r10=>
 (mj 6 ([r9,r10]:List aa)).bind fun r11=>
 (mX ([118]:ag)).bind fun r12=>
 (mj 12 ([r11,r12]:List aa)).bind fun r13=>
 (gp r13).bind fun r14=>
 (DM ([120]:ag) r14).bind fun r15=>
 (mX ([120]:ag)).bind fun r16=>
 (fN r15 ([121]:ag) r16).bind fun r17=>
 (Ek 5).bind fun r18=>
 (xN r8 ([r18]:List aa)).bind fun r19=>
 (Ek 0).bind fun r20=>
 (mX ([118]:ag)).bind fun r21=>
 (mj 13 ([r20,r21]:List aa)).bind fun r22=>
 (gp r22).bind fun r23=>
 (AM r23 ([110]:ag)).bind fun r24=>
 (xP r8).bind fun r25=>
 if (r25 == 0) = true then
  (fN r7 ([120]:ag) (⟨r3.Op,r3.Name,r3.N,r3.Kids⟩:aa)).bind fun r28=>
  (mX ([118]:ag)).bind fun r29=>
  (mj 12 ([(⟨r3.Op,r3.Name,r3.N,r3.Kids⟩:aa),r29]:List aa)).bind fun r30=>
  (gp r30).bind fun r31=>
  (jG r28 r31).bind fun r32=>
  if r32 = true then
   (fN r8 ([120]:ag) (⟨r3.Op,r3.Name,r3.N,r3.Kids⟩:aa)).bind fun r35=>
   (jG r35 r8).bind fun r36=>
   if r36=true then
    (mX ([120,49]:ag)).bind fun r39=>
    (mX ([120]:ag)).bind fun r40=>
    (mj 6 ([r39,r40]:List aa)).bind fun r41=>
    (mX ([118]:ag)).bind fun r42=>
    (mj 12 ([r41,r42]:List aa)).bind fun r43=>
    (gp r43).bind fun r44=>
    (DM ([120,49]:ag) r44).bind fun r45=>
    (jG r17 r45).bind fun r46=>
    if r46=true then
     if (r19.2 == 0) = true then
      (Ek 5).bind fun r51=>
      (mX ([118]:ag)).bind fun r52=>
      (mj 12 ([r51,r52]:List aa)).bind fun r53=>
      (gp r53).bind fun r54=>
      (jG r19.1 r54).bind fun r55=>
      if r55=true then
       (mX ([118]:ag)).bind fun r58=>
       (mX ([110]:ag)).bind fun r59=>
       (mj 10 ([r58,r59]:List aa)).bind fun r60=>
       (mj 15 ([r23.Pred,r60]:List aa)).bind fun r61=>
       (jA r24.Pred r61).bind fun r62=>
       if r62=true then
        (oq r7).bind fun r65=>
        (uI r65 ([([120]:ag)]:List ag)).bind fun r66=>
        if r66=true then
         (Ek 7).bind fun r69=>
         (FI r7 r69).bind fun r70=>
         (mX ([120]:ag)).bind fun r71=>
         (Ek 7).bind fun r72=>
         (mj 12 ([r71,r72]:List aa)).bind fun r73=>
         (jA r70 r73).bind fun r74=>
         some r74
        else
         some false
       else
        some false
      else
       some false
     else
      some false
    else
     some false
   else
    some false
  else
   some false
 else
  some false
theorem zD{r:Bool}(h:wq=some r):CC Pg GE 11 [] (.bool r) []:=by
 obtain⟨r1,br1,h⟩:=aw h
 obtain⟨r2,br2,h⟩:=aw h
 obtain⟨r3,br3,h⟩:=aw h
 obtain⟨r4,br4,h⟩:=aw h
 obtain⟨r5,br5,h⟩:=aw h
 obtain⟨r6,br6,h⟩:=aw h
 obtain⟨r7,br7,h⟩:=aw h
 obtain⟨r8,br8,h⟩:=aw h
 obtain⟨r9,br9,h⟩:=aw h
 obtain⟨r10,br10,h⟩:=aw h
 obtain⟨r11,br11,h⟩:=aw h
 obtain⟨r12,br12,h⟩:=aw h
 obtain⟨r13,br13,h⟩:=aw h
 obtain⟨r14,br14,h⟩:=aw h
 obtain⟨r15,br15,h⟩:=aw h
 obtain⟨r16,br16,h⟩:=aw h
 obtain⟨r17,br17,h⟩:=aw h
 obtain⟨r18,br18,h⟩:=aw h
 obtain⟨r19,br19,h⟩:=aw h
 obtain⟨r20,br20,h⟩:=aw h
 obtain⟨r21,br21,h⟩:=aw h
 obtain⟨r22,br22,h⟩:=aw h
 obtain⟨r23,br23,h⟩:=aw h
 obtain⟨r24,br24,h⟩:=aw h
 obtain⟨r25,br25,h⟩:=aw h
 have p27:=fun{sc F} (r:PS sc F)=>ba (ey br1)<|ba (rA br2)<|sv (aR.mk' (v:=ce) aY ([r1,r2]:List aa) 2 (by kernel_rfl))<|ba (fc br3)<|sx eX<|sx (bv r3)<|ba (ey br4)<|ba (ey br5)<|sv (aR.mk' (v:=ce) aY ([r4,r5]:List aa) 2 (by kernel_rfl))<|ba (fc br6)<|ba (eO br7)<|sx jh<|sy (aS r7)<|sv (bz r7 [])<|ba (yE br8)<|sx jh<|sy (aS r8)<|ba (ey br9)<|ba (ey br10)<|sv (aR.mk' (v:=ce) aY ([r9,r10]:List aa) 2 (by kernel_rfl))<|ba (fc br11)<|ba (ey br12)<|sv (aR.mk' (v:=ce) aY ([r11,r12]:List aa) 2 (by kernel_rfl))<|ba (fc br13)<|ba (eO br14)<|ba (yE br15)<|sx jh<|sy (aS r15)<|rp [0,0,3,0,15]<|sv (bz r15 [])<|ba (ey br16)<|ba (ji br17)<|OG (db r17)<|rp [0,0,2,7,15,31,31,0,191,511]<|sv (bz r8 [])<|ba (rA br18)<|sv (aR.mk' (v:=ce) aY ([r18]:List aa) 1 (by kernel_rfl))<|ba (B5 br19)<|sx (db r19.1)<|ba (rA br20)<|ba (ey br21)<|sv (aR.mk' (v:=ce) aY ([r20,r21]:List aa) 2 (by kernel_rfl))<|ba (fc br22)<|ba (eO br23)<|sx jh<|sy (aS r23)<|sv (bz r23 [])<|ba (DC br24)<|sx jh<|sy (aS r24)<|rp [0,1,3,7,15,15,63,15,127,511,1023,2047,4095,8191,16383,32767,32767,131071,32767,524287,1048575,2097151,4194303,4194303,12582911,29360127,62914559,130023423,264241151,532676607,1069547519,2143289343,4294967295,8589934591,17179869183,34359738367,68719476735,137438953471,274877906943,549755813887,549755813887,1649267441663,3848290697215,8246337208319,17042430230527,35184372088831,70368744177663,140737488355327,281474976710655,562949953421311,281474976710655,1407374883553279,281474976710655,4785074604081151,13792273858822143,31806672368304127,71213169107795967,143270763145723903,288230376151711743,576460752303423487,1152921504606846975,2305843009213693951,4611686018427387903,2305843009213693951,18446744073709551615,36893488147419103231,73786976294838206463,147573952589676412927,147573952589676412927,590295810358705651711,1180591620717411303423,2361183241434822606847,4722366482869645213695,9444732965739290427391,18889465931478580854783,37778931862957161709567,75557863725914323419135]<|sv (bz r8 [])<|ba (B7 br25)<|r
 rcases aT h with⟨c26,h⟩|⟨c26,h⟩
 ·obtain ⟨r28,br28,h⟩:=aw h
  obtain⟨r29,br29,h⟩:=aw h
  obtain⟨r30,br30,h⟩:=aw h
  obtain⟨r31,br31,h⟩:=aw h
  obtain⟨r32,br32,h⟩:=aw h
  have p34:=fun{sc F} (r:PS sc F)=>p27<|sg 4 c26<|sv (bz r7 [])<|sv (aX (⟨r3.Op,r3.Name,r3.N,r3.Kids⟩:aa) [])<|ba (ji br28)<|sv (aX (⟨r3.Op,r3.Name,r3.N,r3.Kids⟩:aa) [])<|ba (ey br29)<|sv (aR.mk' (v:=ce) aY ([(⟨r3.Op,r3.Name,r3.N,r3.Kids⟩:aa),r29]:List aa) 2 (by kernel_rfl))<|ba (fc br30)<|ba (eO br31)<|ba (kz br32)<|r
  rcases aT h with⟨c33,h⟩|⟨c33,h⟩
  ·obtain⟨r35,br35,h⟩:=aw h
   obtain⟨r36,br36,h⟩:=aw h
   have p38:=fun{sc F} (r:PS sc F)=>p34<|sg 15 c33<|sv (bz r8 [])<|sv (aX (⟨r3.Op,r3.Name,r3.N,r3.Kids⟩:aa) [])<|ba (ji br35)<|sv (bz r8 [])<|ba (kz br36)<|r
   rcases aT h with⟨c37,h⟩|⟨c37,h⟩
   ·obtain⟨r39,br39,h⟩:=aw h
    obtain⟨r40,br40,h⟩:=aw h
    obtain⟨r41,br41,h⟩:=aw h
    obtain⟨r42,br42,h⟩:=aw h
    obtain⟨r43,br43,h⟩:=aw h
    obtain⟨r44,br44,h⟩:=aw h
    obtain⟨r45,br45,h⟩:=aw h
    obtain⟨r46,br46,h⟩:=aw h
    have p48:=fun{sc F} (r:PS sc F)=>p38<|sg 22 c37<|sv (bz r17 [])<|ba (ey br39)<|ba (ey br40)<|sv (aR.mk' (v:=ce) aY ([r39,r40]:List aa) 2 (by kernel_rfl))<|ba (fc br41)<|ba (ey br42)<|sv (aR.mk' (v:=ce) aY ([r41,r42]:List aa) 2 (by kernel_rfl))<|ba (fc br43)<|ba (eO br44)<|ba (yE br45)<|ba (kz br46)<|r
    rcases aT h with⟨c47,h⟩|⟨c47,h⟩
    ·have p50:=fun{sc F} (r:PS sc F)=>p48<|sg 35 c47<|r
     rcases aT h with⟨c49,h⟩|⟨c49,h⟩
     ·obtain⟨r51,br51,h⟩:=aw h
      obtain⟨r52,br52,h⟩:=aw h
      obtain⟨r53,br53,h⟩:=aw h
      obtain⟨r54,br54,h⟩:=aw h
      obtain⟨r55,br55,h⟩:=aw h
      have p57:=fun{sc F} (r:PS sc F)=>p50<|sg 39 c49<|sv (bz r19.1 [])<|ba (rA br51)<|ba (ey br52)<|sv (aR.mk' (v:=ce) aY ([r51,r52]:List aa) 2 (by kernel_rfl))<|ba (fc br53)<|ba (eO br54)<|ba (kz br55)<|r
      rcases aT h with⟨c56,h⟩|⟨c56,h⟩
      ·obtain⟨r58,br58,h⟩:=aw h
       obtain⟨r59,br59,h⟩:=aw h
       obtain⟨r60,br60,h⟩:=aw h
       obtain⟨r61,br61,h⟩:=aw h
       obtain⟨r62,br62,h⟩:=aw h
       have p64:=fun{sc F} (r:PS sc F)=>p57<|sg 48 c56<|sv (aX r24.Pred [sl ac r24.Preds])<|sv (aX r23.Pred [sl ac r23.Preds])<|ba (ey br58)<|ba (ey br59)<|sv (aR.mk' (v:=ce) aY ([r58,r59]:List aa) 2 (by kernel_rfl))<|ba (fc br60)<|sv (aR.mk' (v:=ce) aY ([r23.Pred,r60]:List aa) 2 (by kernel_rfl))<|ba (fc br61)<|ba (ky br62)<|r
       rcases aT h with⟨c63,h⟩|⟨c63,h⟩
       ·obtain⟨r65,br65,h⟩:=aw h
        obtain⟨r66,br66,h⟩:=aw h
        have p68:=fun{sc F} (r:PS sc F)=>p64<|sg 61 c63<|sv (bz r7 [])<|ba (uf br65)<|sv (aW.mk' (v:=PVal.str) CE ([([120]:ag)]:List ag) 1 (by kernel_rfl))<|ba (Cn br66)<|r
        rcases aT h with⟨c67,h⟩|⟨c67,h⟩
        ·obtain⟨r69,br69,h⟩:=aw h
         obtain⟨r70,br70,h⟩:=aw h
         obtain⟨r71,br71,h⟩:=aw h
         obtain⟨r72,br72,h⟩:=aw h
         obtain⟨r73,br73,h⟩:=aw h
         obtain⟨r74,br74,h⟩:=aw h
         obtain rfl:=lf h
         have z:=p68<|sg 67 c67<|sv (bz r7 [])<|ba (rA br69)<|ba (GO br70)<|ba (ey br71)<|ba (rA br72)<|sv (aR.mk' (v:=ce) aY ([r71,r72]:List aa) 2 (by kernel_rfl))<|ba (fc br73)<|ba (ky br74)<|en (aI (rP (.bool r74))<|trivial)
         exact b7 OX Tryz.call11 Tryz.func11 (c:=Pb) rfl trivial z (by kernel_rfl)
        ·obtain rfl:=lf h
         have z:=p68<|sg 67 c67<|en (aI (rP (.bool false))<|trivial)
         exact b7 OX Tryz.call11 Tryz.func11 (c:=Pb) rfl trivial z (by kernel_rfl)
       ·obtain rfl:=lf h
        have z:=p64<|sg 61 c63<|en (aI (rP (.bool false))<|trivial)
        exact b7 OX Tryz.call11 Tryz.func11 (c:=Pb) rfl trivial z (by kernel_rfl)
      ·obtain rfl:=lf h
       have z:=p57<|sg 48 c56<|en (aI (rP (.bool false))<|trivial)
       exact b7 OX Tryz.call11 Tryz.func11 (c:=Pb) rfl trivial z (by kernel_rfl)
     ·obtain rfl:=lf h
      have z:=p50<|sg 39 c49<|en (aI (rP (.bool false))<|trivial)
      exact b7 OX Tryz.call11 Tryz.func11 (c:=Pb) rfl trivial z (by kernel_rfl)
    ·obtain rfl:=lf h
     have z:=p48<|sg 35 c47<|en (aI (rP (.bool false))<|trivial)
     exact b7 OX Tryz.call11 Tryz.func11 (c:=Pb) rfl trivial z (by kernel_rfl)
   ·obtain rfl:=lf h
    have z:=p38<|sg 22 c37<|en (aI (rP (.bool false))<|trivial)
    exact b7 OX Tryz.call11 Tryz.func11 (c:=Pb) rfl trivial z (by kernel_rfl)
  ·obtain rfl:=lf h
   have z:=p34<|sg 15 c33<|en (aI (rP (.bool false))<|trivial)
   exact b7 OX Tryz.call11 Tryz.func11 (c:=Pb) rfl trivial z (by kernel_rfl)
 ·obtain rfl:=lf h
  have z:=p27<|sg 4 c26<|en (aI (rP (.bool false))<|trivial)
  exact b7 OX Tryz.call11 Tryz.func11 (c:=Pb) rfl trivial z (by kernel_rfl)
def SA:Code:=Tryz.f28.body.getD .skip
def Ru:List Nat:=[10,17]
section
variable(v:waA)(s:ag)(t7:Int)(t8:Int)
def jv:av:=aN 19 [(0,sl cS v),(1,.str s),(7,.int .i64 t7),(8,.int .i64 t8)] [] []
def jw(o:Int⊕(Unit)):Exit:=match o with
 |(.inl _)=>.ret
 |(.inr _)=>.exit 0
def ie(o:Int⊕(Unit)):av:=match o with
 |(.inl o)=>aN 19 [(4,.int .i64 o)] [] []
 |(.inr o)=>aN 19 [] [] []
def dz:Option (Int⊕(Int⊕(Unit))):=
 if(decide (t8<t7))=true then
  (dv v t8).bind fun x2=>
  if(x2==s)=true then
   some (.inr (.inl t8))
  else
   some (.inl (bA (t8+1)))
 else
  some (.inr (.inr ()))
def pT:Option (Int⊕(Unit)):=loop (fun(zz:Int)=>dz v s t7 zz) t8
theorem CW{y:Int⊕(Int⊕(Unit))}(h:dz v s t7 t8=some y):
  aB Pg GE 0 (cA SA 55) (LQ (fun(zz:Int)=>jv v s t7 zz) jw ie y) (jv v s t7 t8):=by
 rcases aT h with⟨c1,h⟩|⟨c1,h⟩
 ·obtain⟨x2,bx2,h⟩:=aw h
  have p4:=fun{sc F} (r:PS sc F)=>sg 0 c1<|sv (aW.ia (k:=.i64) bx2)<|sv (cP xe (.str x2) [])<|r
  rcases aT h with⟨c3,h⟩|⟨c3,h⟩
  ·obtain rfl:=lf h
   have z:=p4<|sg 0 c3<|eF (jw (.inl t8)) (ie (.inl t8))
   exact gf Ru (by intro hx;cases hx) z (by kernel_rfl)
  ·obtain rfl:=lf h
   exact rY Ru (p4<|sg 0 c3<|eF .normal (jv v s t7 (bA (t8+1)))) (by kernel_rfl)
 ·obtain rfl:=lf h
  have z:=sg 0 c1<|eF (jw (.inr ())) (ie (.inr ()))
  exact gf Ru (by intro hx;cases hx) z (by kernel_rfl)
theorem uH{x:Int⊕(Unit)}(h:pT v s t7 t8=some x):
  aB Pg GE 0 (.loop (cA SA 55)) (EX (jw x) (ie x)) (jv v s t7 t8):=
 aB.loop (S:=fun(zz:Int)=>jv v s t7 zz) (ex:=jw) (s:=t8) h fun zz y hy=>CW v s t7 zz hy
end
def fp(a:waA)(s:ag):Option Int:=
 (pT a s (a.length:Int) 0).bind fun o5=>match o5 with
 |(.inl o5)=>
  some o5
 |(.inr o5)=>
  some (-1)
theorem kw{a:waA}{s:ag}{r:Int}(h:fp a s=some r):CC Pg GE 28 [sl cS a,.str s] (.int .i64 r) []:=by
 obtain⟨o5,bo5,h⟩:=aw h
 rcases o5 with o5|o5
 ·obtain rfl:=lf h
  have z:=cD (aW.ln a)<|cC (e:=.ret) (s1:=ie (.inl o5)) (uH a s (a.length:Int) 0 bo5)<|en (aI (rP (.int .i64 o5))<|trivial)
  exact b7 Ru Tryz.call28 Tryz.func28 (c:=SA) rfl (aI (am dS a) (aI trivial trivial)) z (by kernel_rfl)
 ·obtain rfl:=lf h
  have z:=cD (aW.ln a)<|cC (e:=.exit 0) (s1:=ie (.inr o5)) (uH a s (a.length:Int) 0 bo5)<|en (aI (rP (.int .i64 (-1)))<|trivial)
  exact b7 Ru Tryz.call28 Tryz.func28 (c:=SA) rfl (aI (am dS a) (aI trivial trivial)) z (by kernel_rfl)
abbrev mK:=(ae->aj->Option ae)
abbrev qD(R:mK):Prop:=∀(t:ae) (c:aj) (r:ae),R t c=some r->CC Pg GE 51 [.agg (af t),.agg (au c)] (.agg (af r)) [(2,30),(8,28)]
abbrev lb:=(aa->waA->waB->Option aa)
abbrev oJ(R:lb):Prop:=∀(p:aa) (names:waA) (a:waB) (r:aa),R p names a=some r->CC Pg GE 90 [.agg (ac p),sl cS names,sl ac a] (.agg (ac r)) []
def S1:Code:=Tryz.f110.body.getD .skip
def SM:List Nat:=[]
def I3(p:aa)(kids:waB):Option aa:=
 some (⟨p.Op,p.Name,p.N,kids⟩:aa)
theorem I4{p:aa}{kids:waB}{r:aa}(h:I3 p kids=some r):CC Pg GE 110 [.agg (ac p),sl ac kids] (.agg (ac r)) []:=by
 obtain rfl:=lf h
 have z:=se (bM p)<|sx eX<|sv (aP p)<|sv (aQ p)<|sv (bT p)<|sv (cm p)<|sv (cf p)<|sv (cp p)<|sv (Bv p.Op p.Name p.N kids)<|sx (bv (⟨p.Op,p.Name,p.N,kids⟩:aa))<|en (aI (cQ (⟨p.Op,p.Name,p.N,kids⟩:aa))<|(ah (⟨p.Op,p.Name,p.N,kids⟩:aa)))
 exact b7 SM Tryz.call110 Tryz.func110 (c:=S1) rfl (aI (ah p) (aI (am ah kids) trivial)) z (by kernel_rfl)
def Rj:Code:=Tryz.f90.body.getD .skip
def O1:List Nat:=[37]
section
variable(names:waA)(v:waB)(p:aa)(i:Int)(m:waB)
def zu:av:=aN 48 [(1,sl cS names),(2,sl ac v),(3,.eptr (ac p)),(6,.bptr 1 0),(7,.int .i64 i)] [.dead,.cells [.int .i64 0,.str ([]:ag),.int .i64 0,sl ac m] [(3,28)]] []
def kX(o:Bool):av:=aN 48 [(1,sl cS names),(2,sl ac v),(3,.eptr (ac p)),(6,.bptr 1 0),(7,.int .i64 i),(25,.bool o)] [.dead,.cells [.int .i64 0,.str ([]:ag),.int .i64 0,sl ac m] [(3,28)]] []
def nq:Option Bool:=
 if(decide (i>=0))=true then
  some (decide (i<(v.length:Int)))
 else
  some false
theorem yq{x:Bool}(h:nq v i=some x):
  aB Pg GE 0 (cA Rj 106) (EX .normal (kX names v p i m x)) (zu names v p i m):=by
 rcases aT h with⟨c4,h⟩|⟨c4,h⟩
 ·obtain rfl:=lf h
  exact co O1 (sg 3 c4<|cD (aR.ln v)<|eF .normal (kX names v p i m (decide (i<(v.length:Int))))) (by kernel_rfl)
 ·obtain rfl:=lf h
  exact co O1 (sg 3 c4<|eF .normal (kX names v p i m false)) (by kernel_rfl)
end
section
variable(names:waA)(v:waB)(p:aa)(m:waB)
def zt:av:=aN 48 [(1,sl cS names),(2,sl ac v),(3,.eptr (ac p)),(6,.bptr 1 0)] [.dead,.cells [.int .i64 0,.str ([]:ag),.int .i64 0,sl ac m] [(3,28)]] []
def it(o:(Int×ag×Int×waB)⊕(Unit)):Exit:=match o with
 |(.inl _)=>.ret
 |(.inr _)=>.normal
def ea(o:(Int×ag×Int×waB)⊕(Unit)):av:=match o with
 |(.inl o)=>aN 48 [(6,.bptr 1 0)] [.dead,.cells [.int .i64 o.1,.str o.2.1,.int .i64 o.2.2.1,sl ac o.2.2.2] []] []
 |(.inr o)=>aN 48 [(1,sl cS names),(2,sl ac v),(3,.eptr (ac p)),(6,.bptr 1 0)] [.dead,.cells [.int .i64 0,.str ([]:ag),.int .i64 0,sl ac m] [(3,28)]] []
def jZ:Option ((Int×ag×Int×waB)⊕(Unit)):=
 if(p.Op==3)=true then
  (fp names p.Name).bind fun r3=>
  (nq v r3).bind fun o5=>
  if o5=true then
   (dv v r3).bind fun x8=>
   some (.inl (x8.Op,x8.Name,x8.N,x8.Kids))
  else
   some (.inr ())
 else
  some (.inr ())
theorem oR{x:(Int×ag×Int×waB)⊕(Unit)}(h:jZ names v p=some x):
  aB Pg GE 0 (cA Rj 6) (EX (it x) (ea names v p m x)) (zt names v p m):=by
 have p2:=fun{sc F} (r:PS sc F)=>sv (aP p)<|sv (aQ p)<|r
 rcases aT h with⟨c1,h⟩|⟨c1,h⟩
 ·obtain⟨r3,br3,h⟩:=aw h
  obtain⟨o5,bo5,h⟩:=aw h
  have p7:=fun{sc F} (r:PS sc F)=>p2<|sg 0 c1<|sv (bT p)<|sv (cm p)<|ba (kw br3)<|kK 0<|cC (yq names v p r3 m bo5)<|r
  rcases aT h with⟨c6,h⟩|⟨c6,h⟩
  ·obtain⟨x8,bx8,h⟩:=aw h
   obtain rfl:=lf h
   exact co O1 (p7<|sg 0 c6<|sv (aR.ia (k:=.i64) bx8)<|sv (az x8)<|sx (bv x8)<|eF (it (.inl (x8.Op,x8.Name,x8.N,x8.Kids))) (ea names v p m (.inl (x8.Op,x8.Name,x8.N,x8.Kids)))) (by kernel_rfl)
  ·obtain rfl:=lf h
   exact co O1 (p7<|sg 0 c6<|eF (it (.inr ())) (ea names v p m (.inr ()))) (by kernel_rfl)
 ·obtain rfl:=lf h
  exact co O1 (p2<|sg 0 c1<|eF (it (.inr ())) (ea names v p m (.inr ()))) (by kernel_rfl)
end
section
variable(R83:lb)(names:waA)(v:waB)(p:aa)(t31:waB)(t32:Int)(m:waB)(out:waB)(t33:Int)
def fq:av:=aN 48 [(1,sl cS names),(2,sl ac v),(3,.eptr (ac p)),(6,.bptr 1 0),(8,sl ac out),(31,sl ac t31),(32,.int .i64 t32),(33,.int .i64 t33)] [.dead,.cells [.int .i64 0,.str ([]:ag),.int .i64 0,sl ac m] [(3,28)]] [((8,0),28)]
def kY(o:waB):av:=aN 48 [(3,.eptr (ac p)),(6,.bptr 1 0),(8,sl ac o)] [.dead,.cells [.int .i64 0,.str ([]:ag),.int .i64 0,sl ac m] [(3,28)]] [((8,0),28)]
def pX:Option ((waB×Int)⊕(waB)):=
 if(decide (t33<t32))=true then
  (dv t31 t33).bind fun x11=>
  (R83 x11 names v).bind fun r12=>
  (app out ([r12]:List aa)).bind fun l13=>
  some (.inl (l13,bA (t33+1)))
 else
  some (.inr out)
def nr:Option waB:=loop (fun(zz:waB×Int)=>pX R83 names v t31 t32 zz.1 zz.2) (out,t33)
theorem wN(hR83:oJ R83){y:(waB×Int)⊕(waB)}(h:pX R83 names v t31 t32 out t33=some y):
  aB Pg GE 0 (cA Rj 247) (LQ (fun(zz:waB×Int)=>fq names v p t31 t32 m zz.1 zz.2) (fun _=>.exit 0) (kY p m) y) (fq names v p t31 t32 m out t33):=by
 rcases aT h with⟨c10,h⟩|⟨c10,h⟩
 ·obtain⟨x11,bx11,h⟩:=aw h
  obtain⟨r12,br12,h⟩:=aw h
  obtain⟨l13,bl13,h⟩:=aw h
  obtain rfl:=lf h
  have z:=sg 0 c10<|sv (aR.ia (k:=.i64) bx11)<|sv (az x11)<|sx eX<|sx (bv x11)<|sv (aX x11 [])<|ba (hR83 _ _ _ _ br12)<|sv (aR.mk' (v:=ce) aY ([r12]:List aa) 1 (by kernel_rfl))<|sv (aR.ap bl13)<|pg 0 .normal (fq names v p t31 t32 m l13 (bA (t33+1))) rfl (cF (aI (up (am dS names)) (aI (up (am ah v)) (aI (lq (ah p)) (aI (cV rfl) (aI (up (am ah l13)) (aI (up (am ah t31)) (aI trivial (aI trivial trivial))))))))) (aI trivial (aI (aI trivial (aI trivial (aI trivial (aI (up (am ah m)) trivial)))) trivial))
  exact cz (A:=O1) mixed z (by kernel_rfl)
 ·obtain rfl:=lf h
  have z:=sg 0 c10<|eF (.exit 0) (kY p m out)
  exact gf O1 (by intro hx;cases hx) z (by kernel_rfl)
theorem yr(hR83:oJ R83){x:waB}(h:nr R83 names v t31 t32 out t33=some x):
  aB Pg GE 0 (.loop (cA Rj 247)) (EX (.exit 0) (kY p m x)) (fq names v p t31 t32 m out t33):=
 aB.loop (S:=fun(zz:waB×Int)=>fq names v p t31 t32 m zz.1 zz.2) (ex:=(fun _=>.exit 0)) (s:=(out,t33)) h fun zz y hy=>wN R83 names v p t31 t32 m zz.1 zz.2 hR83 hy
end
def kW(R83:lb)(p:aa)(names:waA)(a:waB):Option aa:=
 (jZ names a p).bind fun o9=>match o9 with
 |(.inl o9)=>
  some (⟨o9.1,o9.2.1,o9.2.2.1,o9.2.2.2⟩:aa)
 |(.inr o9)=>
  (nr R83 names a p.Kids (p.Kids.length:Int) ([]:List aa) 0).bind fun o14=>
  (I3 p o14).bind fun r15=>
  some r15
theorem Bk(R83:lb)(hR83:oJ R83){p:aa}{names:waA}{a:waB}{r:aa}(h:kW R83 p names a=some r):CC Pg GE 90 [.agg (ac p),sl cS names,sl ac a] (.agg (ac r)) []:=by
 obtain⟨o9,bo9,h⟩:=aw h
 rcases o9 with o9|o9
 ·obtain rfl:=lf h
  have z:=se (bM p)<|sx eX<|kK 0<|cC (e:=.ret) (s1:=ea names a p ([]:List aa) (.inl o9)) (oR names a p ([]:List aa) bo9)<|en (aI (cQ (⟨o9.1,o9.2.1,o9.2.2.1,o9.2.2.2⟩:aa))<|(ah (⟨o9.1,o9.2.1,o9.2.2.1,o9.2.2.2⟩:aa)))
  exact b7 O1 Tryz.call90 Tryz.func90 (c:=Rj) rfl (aI (ah p) (aI (am dS names) (aI (am ah a) trivial))) z (by kernel_rfl)
 ·obtain⟨o14,bo14,h⟩:=aw h
  obtain⟨r15,br15,h⟩:=aw h
  obtain rfl:=lf h
  have z:=se (bM p)<|sx eX<|kK 0<|cC (e:=.normal) (s1:=ea names a p ([]:List aa) (.inr o9)) (oR names a p ([]:List aa) bo9)<|sv (aF p)<|sv (aH p)<|cD (aR.ln p.Kids)<|cC (yr R83 names a p p.Kids (p.Kids.length:Int) ([]:List aa) ([]:List aa) 0 hR83 bo14)<|sv (az p)<|ba (I4 br15)<|sx (bv r15)<|en (aI (cQ r15)<|(ah r15))
  exact b7 O1 Tryz.call90 Tryz.func90 (c:=Rj) rfl (aI (ah p) (aI (am dS names) (aI (am ah a) trivial))) z (by kernel_rfl)
def oQ:((aa×waA×waB)->Option aa)->(aa×waA×waB)->Option aa:=fun(rec:(aa×waA×waB)->Option aa) (x:aa×waA×waB)=>kW (fun p names a=>rec (p,names,a)) x.1 x.2.1 x.2.2
def kV(p:aa)(names:waA)(a:waB):Option aa:=nw oQ (p,names,a)
theorem tS{p:aa}{names:waA}{a:waB}{r:aa}(h:kV p names a=some r):CC Pg GE 90 [.agg (ac p),sl cS names,sl ac a] (.agg (ac r)) []:=
 cT (F:=oQ) (M:=fun(x:aa×waA×waB) (r:aa)=>CC Pg GE 90 [.agg (ac x.1),sl cS x.2.1,sl ac x.2.2] (.agg (ac r)) []) (fun rec hrec x r h=>Bk _ (fun p names a r h=>hrec (p,names,a) r h) h) h
abbrev s9:=(aa->Option waA)
abbrev yg(R:s9):Prop:=∀(p:aa) (r:waA),R p=some r->CC Pg GE 30 [.agg (ac p)] (sl cS r) [(0,9)]
def Ri:Code:=Tryz.f68.body.getD .skip
def O0:List Nat:=[19,28,46,51]
section
variable(v:waA)(s:ag)(out:waA)(i:Int)
def HJ:av:=aN 52 [(0,sl cS v),(1,.str s),(5,sl cS out),(6,.int .i64 i)] [] [((5,0),9)]
def sN(o:Bool):av:=aN 52 [(0,sl cS v),(1,.str s),(5,sl cS out),(6,.int .i64 i),(18,.bool o)] [] [((5,0),9)]
def me:Option Bool:=
 if(decide (i<(v.length:Int)))=true then
  (dv v i).bind fun x2=>
  some (Op.bytesLess x2 s)
 else
  some false
theorem Gc{x:Bool}(h:me v s i=some x):
  aB Pg GE 0 (cA Ri 492) (EX .normal (sN v s out i x)) (HJ v s out i):=by
 rcases aT h with⟨c1,h⟩|⟨c1,h⟩
 ·obtain⟨x2,bx2,h⟩:=aw h
  obtain rfl:=lf h
  exact co O0 (cD (aW.ln v)<|sg 5 c1<|sv (aW.ia (k:=.i64) bx2)<|sv (cP xe (.str x2) [])<|eF .normal (sN v s out i (Op.bytesLess x2 s))) (by kernel_rfl)
 ·obtain rfl:=lf h
  exact co O0 (cD (aW.ln v)<|sg 5 c1<|eF .normal (sN v s out i false)) (by kernel_rfl)
end
section
variable(v:waA)(s:ag)(out:waA)(i:Int)
def kS:av:=aN 52 [(0,sl cS v),(1,.str s),(5,sl cS out),(6,.int .i64 i)] [] [((5,0),9)]
def sR(o:waA×Int):av:=aN 52 [(0,sl cS v),(1,.str s),(5,sl cS o.1),(6,.int .i64 o.2)] [] [((5,0),9)]
def kT:Option ((waA×Int)⊕((waA×Int))):=
 (me v s i).bind fun o3=>
 if o3=true then
  (dv v i).bind fun x6=>
  (app out ([x6]:List ag)).bind fun l7=>
  some (.inl (l7,bA (i+1)))
 else
  some (.inr (out,i))
def yn:Option ((waA×Int)):=loop (fun(zz:waA×Int)=>kT v s zz.1 zz.2) (out,i)
theorem D4{y:(waA×Int)⊕((waA×Int))}(h:kT v s out i=some y):
  aB Pg GE 0 (cA Ri 123) (LQ (fun(zz:waA×Int)=>kS v s zz.1 zz.2) (fun _=>.exit 0) (sR v s) y) (kS v s out i):=by
 obtain⟨o3,bo3,h⟩:=aw h
 have p5:=fun{sc F} (r:PS sc F)=>kK 1<|cC (Gc v s out i bo3)<|r
 rcases aT h with⟨c4,h⟩|⟨c4,h⟩
 ·obtain⟨x6,bx6,h⟩:=aw h
  obtain⟨l7,bl7,h⟩:=aw h
  obtain rfl:=lf h
  exact rY O0 (p5<|sg 0 c4<|sv (aW.ia (k:=.i64) bx6)<|sv (cP xe (.str x6) [])<|sv (aW.mk' (v:=PVal.str) CE ([x6]:List ag) 1 (by kernel_rfl))<|sv (aW.ap bl7)<|eF .normal (kS v s l7 (bA (i+1)))) (by kernel_rfl)
 ·obtain rfl:=lf h
  have z:=p5<|sg 0 c4<|eF (.exit 0) (sR v s (out,i))
  exact gf O0 (by intro hx;cases hx) z (by kernel_rfl)
theorem Gf{x:(waA×Int)}(h:yn v s out i=some x):
  aB Pg GE 0 (.loop (cA Ri 123)) (EX (.exit 0) (sR v s x)) (kS v s out i):=
 aB.loop (S:=fun(zz:waA×Int)=>kS v s zz.1 zz.2) (ex:=(fun _=>.exit 0)) (s:=(out,i)) h fun zz y hy=>D4 v s zz.1 zz.2 hy
end
section
variable(v:waA)(s:ag)(out:waA)(i:Int)
def HL:av:=aN 52 [(0,sl cS v),(1,.str s),(5,sl cS out),(6,.int .i64 i)] [] [((5,0),9)]
def sQ(o:Bool):av:=aN 52 [(0,sl cS v),(5,sl cS out),(6,.int .i64 i),(43,.bool o)] [] [((5,0),9)]
def ym:Option Bool:=
 if(decide (i<(v.length:Int)))=true then
  (dv v i).bind fun x11=>
  some (x11==s)
 else
  some false
theorem Ge{x:Bool}(h:ym v s i=some x):
  aB Pg GE 0 (cA Ri 252) (EX .normal (sQ v out i x)) (HL v s out i):=by
 rcases aT h with⟨c10,h⟩|⟨c10,h⟩
 ·obtain⟨x11,bx11,h⟩:=aw h
  obtain rfl:=lf h
  exact co O0 (cD (aW.ln v)<|sg 5 c10<|sv (aW.ia (k:=.i64) bx11)<|sv (cP xe (.str x11) [])<|eF .normal (sQ v out i (x11==s))) (by kernel_rfl)
 ·obtain rfl:=lf h
  exact co O0 (cD (aW.ln v)<|sg 5 c10<|eF .normal (sQ v out i false)) (by kernel_rfl)
end
section
variable(v:waA)(s:ag)(out:waA)(i:Int)
def HK:av:=aN 52 [(0,sl cS v),(1,.str s),(5,sl cS out),(6,.int .i64 i)] [] [((5,0),9)]
def sP(o:Int):av:=aN 52 [(0,sl cS v),(5,sl cS out),(6,.int .i64 o)] [] [((5,0),9)]
def sO:Option Int:=
 (ym v s i).bind fun o12=>
 if o12=true then
  some (bA (i+1))
 else
  some i
theorem Gd{x:Int}(h:sO v s i=some x):
  aB Pg GE 0 (cA Ri 126) (EX .normal (sP v out x)) (HK v s out i):=by
 obtain⟨o12,bo12,h⟩:=aw h
 have p14:=fun{sc F} (r:PS sc F)=>kK 0<|cC (Ge v s out i bo12)<|r
 rcases aT h with⟨c13,h⟩|⟨c13,h⟩
 ·obtain rfl:=lf h
  exact co O0 (p14<|sg 0 c13<|eF .normal (sP v out (bA (i+1)))) (by kernel_rfl)
 ·obtain rfl:=lf h
  exact co O0 (p14<|sg 0 c13<|eF .normal (sP v out i)) (by kernel_rfl)
end
def pV(a:waA)(s:ag):Option waA:=
 (yn a s ([]:List ag) 0).bind fun o8=>
 (app o8.1 ([s]:List ag)).bind fun l9=>
 (sO a s o8.2).bind fun o15=>
 (IK a (some o15) none).bind fun l16=>
 (app l9 l16).bind fun l17=>
 some l17
theorem sS{a:waA}{s:ag}{r:waA}(h:pV a s=some r):CC Pg GE 68 [sl cS a,.str s] (sl cS r) [(0,9)]:=by
 obtain⟨o8,bo8,h⟩:=aw h
 obtain⟨l9,bl9,h⟩:=aw h
 obtain⟨o15,bo15,h⟩:=aw h
 obtain⟨l16,bl16,h⟩:=aw h
 obtain⟨l17,bl17,h⟩:=aw h
 obtain rfl:=lf h
 have z:=cC (Gf a s ([]:List ag) 0 bo8)<|sv (aW.mk' (v:=PVal.str) CE ([s]:List ag) 1 (by kernel_rfl))<|sv (aW.ap bl9)<|kK 0<|cC (Gd a s l9 o8.2 bo15)<|sv (aW.sc bl16)<|sv (aW.ap bl17)<|en (aI (rP (sl cS l17))<|(am dS l17))
 exact b7 O0 Tryz.call68 Tryz.func68 (c:=Ri) rfl (aI (am dS a) (aI trivial trivial)) z (by kernel_rfl)
def OP:Code:=Tryz.f33.body.getD .skip
def OO:List Nat:=[12,24,32]
section
variable(v:waA)(v2:waA)(t9:Int)(out:waA)(t10:Int)
def iD:av:=aN 33 [(0,sl cS v),(1,sl cS v2),(5,sl cS out),(9,.int .i64 t9),(10,.int .i64 t10)] [] [((5,0),9)]
def oN(o:waA):av:=aN 33 [(1,sl cS v2),(5,sl cS o)] [] [((5,0),9)]
def iE:Option ((waA×Int)⊕(waA)):=
 if(decide (t10<t9))=true then
  (dv v t10).bind fun x2=>
  (pV out x2).bind fun r3=>
  some (.inl (r3,bA (t10+1)))
 else
  some (.inr out)
def kQ:Option waA:=loop (fun(zz:waA×Int)=>iE v t9 zz.1 zz.2) (out,t10)
theorem Bh{y:(waA×Int)⊕(waA)}(h:iE v t9 out t10=some y):
  aB Pg GE 0 (cA OP 119) (LQ (fun(zz:waA×Int)=>iD v v2 t9 zz.1 zz.2) (fun _=>.exit 0) (oN v2) y) (iD v v2 t9 out t10):=by
 rcases aT h with⟨c1,h⟩|⟨c1,h⟩
 ·obtain⟨x2,bx2,h⟩:=aw h
  obtain⟨r3,br3,h⟩:=aw h
  obtain rfl:=lf h
  exact rY OO (sg 0 c1<|sv (aW.ia (k:=.i64) bx2)<|sv (cP xe (.str x2) [])<|ba (sS br3)<|eF .normal (iD v v2 t9 r3 (bA (t10+1)))) (by kernel_rfl)
 ·obtain rfl:=lf h
  have z:=sg 0 c1<|eF (.exit 0) (oN v2 out)
  exact gf OO (by intro hx;cases hx) z (by kernel_rfl)
theorem CZ{x:waA}(h:kQ v t9 out t10=some x):
  aB Pg GE 0 (.loop (cA OP 119)) (EX (.exit 0) (oN v2 x)) (iD v v2 t9 out t10):=
 aB.loop (S:=fun(zz:waA×Int)=>iD v v2 t9 zz.1 zz.2) (ex:=(fun _=>.exit 0)) (s:=(out,t10)) h fun zz y hy=>Bh v v2 t9 zz.1 zz.2 hy
end
section
variable(v:waA)(t21:Int)(out:waA)(t22:Int)
def iF:av:=aN 33 [(1,sl cS v),(5,sl cS out),(21,.int .i64 t21),(22,.int .i64 t22)] [] [((5,0),9)]
def oO(o:waA):av:=aN 33 [(5,sl cS o)] [] [((5,0),9)]
def cq:Option ((waA×Int)⊕(waA)):=
 if(decide (t22<t21))=true then
  (dv v t22).bind fun x6=>
  (pV out x6).bind fun r7=>
  some (.inl (r7,bA (t22+1)))
 else
  some (.inr out)
def kR:Option waA:=loop (fun(zz:waA×Int)=>cq v t21 zz.1 zz.2) (out,t22)
theorem Bi{y:(waA×Int)⊕(waA)}(h:cq v t21 out t22=some y):
  aB Pg GE 0 (cA OP 247) (LQ (fun(zz:waA×Int)=>iF v t21 zz.1 zz.2) (fun _=>.exit 2) oO y) (iF v t21 out t22):=by
 rcases aT h with⟨c5,h⟩|⟨c5,h⟩
 ·obtain⟨x6,bx6,h⟩:=aw h
  obtain⟨r7,br7,h⟩:=aw h
  obtain rfl:=lf h
  exact rY OO (sg 0 c5<|sv (aW.ia (k:=.i64) bx6)<|sv (cP xe (.str x6) [])<|ba (sS br7)<|eF .normal (iF v t21 r7 (bA (t22+1)))) (by kernel_rfl)
 ·obtain rfl:=lf h
  have z:=sg 0 c5<|eF (.exit 2) (oO out)
  exact gf OO (by intro hx;cases hx) z (by kernel_rfl)
theorem C0{x:waA}(h:kR v t21 out t22=some x):
  aB Pg GE 0 (.loop (cA OP 247)) (EX (.exit 2) (oO x)) (iF v t21 out t22):=
 aB.loop (S:=fun(zz:waA×Int)=>iF v t21 zz.1 zz.2) (ex:=(fun _=>.exit 2)) (s:=(out,t22)) h fun zz y hy=>Bi v t21 zz.1 zz.2 hy
end
def d9(a:waA)(a2:waA):Option waA:=
 (kQ a (a.length:Int) ([]:List ag) 0).bind fun o4=>
 (kR a2 (a2.length:Int) o4 0).bind fun o8=>
 some o8
theorem i7{a:waA}{a2:waA}{r:waA}(h:d9 a a2=some r):CC Pg GE 33 [sl cS a,sl cS a2] (sl cS r) [(0,9)]:=by
 obtain⟨o4,bo4,h⟩:=aw h
 obtain⟨o8,bo8,h⟩:=aw h
 obtain rfl:=lf h
 have z:=cD (aW.ln a)<|cC (CZ a a2 (a.length:Int) ([]:List ag) 0 bo4)<|cD (aW.ln a2)<|cC (C0 a2 (a2.length:Int) o4 0 bo8)<|en (aI (rP (sl cS o8))<|(am dS o8))
 exact b7 OO Tryz.call33 Tryz.func33 (c:=OP) rfl (aI (am dS a) (aI (am dS a2) trivial)) z (by kernel_rfl)
def SB:Code:=Tryz.f30.body.getD .skip
def Rv:List Nat:=[24]
section
variable(p:aa)
def Gg:av:=aN 25 [(1,.eptr (ac p)),(3,sl cS ([]:List ag))] [.dead] [((3,0),9)]
def qJ(o:waA):av:=aN 25 [(1,.eptr (ac p)),(3,sl cS o)] [.dead] [((3,0),9)]
def uL:Option waA:=
 if(p.Op==3)=true then
  some ([p.Name]:List ag)
 else
  some ([]:List ag)
theorem D6{x:waA}(h:uL p=some x):
  aB Pg GE 0 (cA SB 14) (EX .normal (qJ p x)) (Gg p):=by
 have p2:=fun{sc F} (r:PS sc F)=>sv (aP p)<|sv (aQ p)<|r
 rcases aT h with⟨c1,h⟩|⟨c1,h⟩
 ·obtain rfl:=lf h
  exact co Rv (p2<|sg 0 c1<|sv (bT p)<|sv (cm p)<|sv (aW.mk' (v:=PVal.str) CE ([p.Name]:List ag) 1 (by kernel_rfl))<|eF .normal (qJ p ([p.Name]:List ag))) (by kernel_rfl)
 ·obtain rfl:=lf h
  exact co Rv (p2<|sg 0 c1<|eF .normal (qJ p ([]:List ag))) (by kernel_rfl)
end
section
variable(R86:s9)(t13:waB)(t14:Int)(out:waA)(t15:Int)
def jz:av:=aN 25 [(3,sl cS out),(13,sl ac t13),(14,.int .i64 t14),(15,.int .i64 t15)] [.dead] [((3,0),9)]
def qK(o:waA):av:=aN 25 [(3,sl cS o)] [.dead] [((3,0),9)]
def xh:Option ((waA×Int)⊕(waA)):=
 if(decide (t15<t14))=true then
  (dv t13 t15).bind fun x5=>
  (R86 x5).bind fun r6=>
  (d9 out r6).bind fun r7=>
  some (.inl (r7,bA (t15+1)))
 else
  some (.inr out)
def uM:Option waA:=loop (fun(zz:waA×Int)=>xh R86 t13 t14 zz.1 zz.2) (out,t15)
theorem C1(hR86:yg R86){y:(waA×Int)⊕(waA)}(h:xh R86 t13 t14 out t15=some y):
  aB Pg GE 0 (cA SB 247) (LQ (fun(zz:waA×Int)=>jz t13 t14 zz.1 zz.2) (fun _=>.exit 0) qK y) (jz t13 t14 out t15):=by
 rcases aT h with⟨c4,h⟩|⟨c4,h⟩
 ·obtain⟨x5,bx5,h⟩:=aw h
  obtain⟨r6,br6,h⟩:=aw h
  obtain⟨r7,br7,h⟩:=aw h
  obtain rfl:=lf h
  have z:=sg 0 c4<|sv (aR.ia (k:=.i64) bx5)<|sv (az x5)<|sx eX<|sx (bv x5)<|sv (aX x5 [])<|ba (hR86 _ _ br6)<|ba (i7 br7)<|pg 0 .normal (jz t13 t14 r7 (bA (t15+1))) rfl (cF (aI (up (am dS r7)) (aI (up (am ah t13)) (aI trivial (aI trivial trivial))))) (aI trivial trivial)
  exact cz (A:=Rv) mixed z (by kernel_rfl)
 ·obtain rfl:=lf h
  have z:=sg 0 c4<|eF (.exit 0) (qK out)
  exact gf Rv (by intro hx;cases hx) z (by kernel_rfl)
theorem D7(hR86:yg R86){x:waA}(h:uM R86 t13 t14 out t15=some x):
  aB Pg GE 0 (.loop (cA SB 247)) (EX (.exit 0) (qK x)) (jz t13 t14 out t15):=
 aB.loop (S:=fun(zz:waA×Int)=>jz t13 t14 zz.1 zz.2) (ex:=(fun _=>.exit 0)) (s:=(out,t15)) h fun zz y hy=>C1 R86 t13 t14 zz.1 zz.2 hR86 hy
end
def sT(R86:s9)(p:aa):Option waA:=
 (uL p).bind fun o3=>
 (uM R86 p.Kids (p.Kids.length:Int) o3 0).bind fun o8=>
 some o8
theorem HM(R86:s9)(hR86:yg R86){p:aa}{r:waA}(h:sT R86 p=some r):CC Pg GE 30 [.agg (ac p)] (sl cS r) [(0,9)]:=by
 obtain⟨o3,bo3,h⟩:=aw h
 obtain⟨o8,bo8,h⟩:=aw h
 obtain rfl:=lf h
 have z:=se (bM p)<|kK 1<|cC (D6 p bo3)<|sv (aF p)<|sv (aH p)<|cD (aR.ln p.Kids)<|cC (D7 R86 p.Kids (p.Kids.length:Int) o3 0 hR86 bo8)<|en (aI (rP (sl cS o8))<|(am dS o8))
 exact b7 Rv Tryz.call30 Tryz.func30 (c:=SB) rfl (aI (ah p) trivial) z (by kernel_rfl)
def yo:(aa->Option waA)->(aa)->Option waA:=fun(rec:aa->Option waA) (x:aa)=>sT (fun p=>rec p) x
def mV(p:aa):Option waA:=nw yo p
theorem uN{p:aa}{r:waA}(h:mV p=some r):CC Pg GE 30 [.agg (ac p)] (sl cS r) [(0,9)]:=
 cT (F:=yo) (M:=fun(x:aa) (r:waA)=>CC Pg GE 30 [.agg (ac x)] (sl cS r) [(0,9)]) (fun rec hrec x r h=>HM _ (fun p r h=>hrec p r h) h) h
def Td:Code:=Tryz.f91.body.getD .skip
def SV:List Nat:=[17]
section
variable(t6:waB)(t7:Int)(out:waA)(t8:Int)
def iJ:av:=aN 18 [(3,sl cS out),(6,sl ac t6),(7,.int .i64 t7),(8,.int .i64 t8)] [] [((3,0),9)]
def oW(o:waA):av:=aN 18 [(3,sl cS o)] [] [((3,0),9)]
def u5:Option ((waA×Int)⊕(waA)):=
 if(decide (t8<t7))=true then
  (dv t6 t8).bind fun x2=>
  (mV x2).bind fun r3=>
  (d9 out r3).bind fun r4=>
  some (.inl (r4,bA (t8+1)))
 else
  some (.inr out)
def s8:Option waA:=loop (fun(zz:waA×Int)=>u5 t6 t7 zz.1 zz.2) (out,t8)
theorem Bn{y:(waA×Int)⊕(waA)}(h:u5 t6 t7 out t8=some y):
  aB Pg GE 0 (cA Td 119) (LQ (fun(zz:waA×Int)=>iJ t6 t7 zz.1 zz.2) (fun _=>.exit 0) oW y) (iJ t6 t7 out t8):=by
 rcases aT h with⟨c1,h⟩|⟨c1,h⟩
 ·obtain⟨x2,bx2,h⟩:=aw h
  obtain⟨r3,br3,h⟩:=aw h
  obtain⟨r4,br4,h⟩:=aw h
  obtain rfl:=lf h
  have z:=sg 0 c1<|sv (aR.ia (k:=.i64) bx2)<|sv (az x2)<|sx eX<|sx (bv x2)<|sv (aX x2 [])<|ba (uN br3)<|ba (i7 br4)<|pg 0 .normal (iJ t6 t7 r4 (bA (t8+1))) rfl (cF (aI (up (am dS r4)) (aI (up (am ah t6)) (aI trivial (aI trivial trivial))))) trivial
  exact cz (A:=SV) mixed z (by kernel_rfl)
 ·obtain rfl:=lf h
  have z:=sg 0 c1<|eF (.exit 0) (oW out)
  exact gf SV (by intro hx;cases hx) z (by kernel_rfl)
theorem Da{x:waA}(h:s8 t6 t7 out t8=some x):
  aB Pg GE 0 (.loop (cA Td 119)) (EX (.exit 0) (oW x)) (iJ t6 t7 out t8):=
 aB.loop (S:=fun(zz:waA×Int)=>iJ t6 t7 zz.1 zz.2) (ex:=(fun _=>.exit 0)) (s:=(out,t8)) h fun zz y hy=>Bn t6 t7 zz.1 zz.2 hy
end
def wo(a:waB):Option waA:=
 (s8 a (a.length:Int) ([]:List ag) 0).bind fun o5=>
 some o5
theorem HS{a:waB}{r:waA}(h:wo a=some r):CC Pg GE 91 [sl ac a] (sl cS r) [(0,9)]:=by
 obtain⟨o5,bo5,h⟩:=aw h
 obtain rfl:=lf h
 have z:=cD (aR.ln a)<|cC (Da a (a.length:Int) ([]:List ag) 0 bo5)<|en (aI (rP (sl cS o5))<|(am dS o5))
 exact b7 SV Tryz.call91 Tryz.func91 (c:=Td) rfl (aI (am ah a) trivial) z (by kernel_rfl)
abbrev tb:=(ae->Option waA)
abbrev yi(R:tb):Prop:=∀(t:ae) (r:waA),R t=some r->CC Pg GE 38 [.agg (af t)] (sl cS r) [(0,9)]
def Tb:Code:=Tryz.f79.body.getD .skip
def Sv:List Nat:=[18,23]
section
variable(names:waA)(t8:waA)(t9:Int)(out:waA)(t10:Int)
def eL:av:=aN 24 [(1,sl cS names),(5,sl cS out),(8,sl cS t8),(9,.int .i64 t9),(10,.int .i64 t10)] [] [((5,0),9)]
def mi(o:waA):av:=aN 24 [(5,sl cS o)] [] [((5,0),9)]
def rv:Option ((waA×Int)⊕(waA)):=
 if(decide (t10<t9))=true then
  (dv t8 t10).bind fun x2=>
  (fp names x2).bind fun r3=>
  if(decide (r3<0))=true then
   (app out ([x2]:List ag)).bind fun l6=>
   some (.inl (l6,bA (t10+1)))
  else
   some (.inl (out,bA (t10+1)))
 else
  some (.inr out)
def oX:Option waA:=loop (fun(zz:waA×Int)=>rv names t8 t9 zz.1 zz.2) (out,t10)
theorem yA{y:(waA×Int)⊕(waA)}(h:rv names t8 t9 out t10=some y):
  aB Pg GE 0 (cA Tb 119) (LQ (fun(zz:waA×Int)=>eL names t8 t9 zz.1 zz.2) (fun _=>.exit 0) mi y) (eL names t8 t9 out t10):=by
 rcases aT h with⟨c1,h⟩|⟨c1,h⟩
 ·obtain⟨x2,bx2,h⟩:=aw h
  obtain⟨r3,br3,h⟩:=aw h
  have p5:=fun{sc F} (r:PS sc F)=>sg 0 c1<|sv (aW.ia (k:=.i64) bx2)<|sv (cP xe (.str x2) [])<|ba (kw br3)<|r
  rcases aT h with⟨c4,h⟩|⟨c4,h⟩
  ·obtain⟨l6,bl6,h⟩:=aw h
   obtain rfl:=lf h
   exact rY Sv (p5<|sg 0 c4<|sv (aW.mk' (v:=PVal.str) CE ([x2]:List ag) 1 (by kernel_rfl))<|sv (aW.ap bl6)<|eF .normal (eL names t8 t9 l6 (bA (t10+1)))) (by kernel_rfl)
  ·obtain rfl:=lf h
   exact rY Sv (p5<|sg 0 c4<|eF .normal (eL names t8 t9 out (bA (t10+1)))) (by kernel_rfl)
 ·obtain rfl:=lf h
  have z:=sg 0 c1<|eF (.exit 0) (mi out)
  exact gf Sv (by intro hx;cases hx) z (by kernel_rfl)
theorem zB{x:waA}(h:oX names t8 t9 out t10=some x):
  aB Pg GE 0 (.loop (cA Tb 119)) (EX (.exit 0) (mi x)) (eL names t8 t9 out t10):=
 aB.loop (S:=fun(zz:waA×Int)=>eL names t8 t9 zz.1 zz.2) (ex:=(fun _=>.exit 0)) (s:=(out,t10)) h fun zz y hy=>yA names t8 t9 zz.1 zz.2 hy
end
def iK(a:waA)(names:waA):Option waA:=
 (oX names a (a.length:Int) ([]:List ag) 0).bind fun o7=>
 some o7
theorem u6{a:waA}{names:waA}{r:waA}(h:iK a names=some r):CC Pg GE 79 [sl cS a,sl cS names] (sl cS r) [(0,9)]:=by
 obtain⟨o7,bo7,h⟩:=aw h
 obtain rfl:=lf h
 have z:=cD (aW.ln a)<|cC (zB names a (a.length:Int) ([]:List ag) 0 bo7)<|en (aI (rP (sl cS o7))<|(am dS o7))
 exact b7 Sv Tryz.call79 Tryz.func79 (c:=Tb) rfl (aI (am dS a) (aI (am dS names) trivial)) z (by kernel_rfl)
end Go.Proofs.YtggeppllafbidaaGreatDoor
