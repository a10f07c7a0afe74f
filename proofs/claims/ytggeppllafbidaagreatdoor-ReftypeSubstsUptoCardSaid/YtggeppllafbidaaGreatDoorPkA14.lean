/- PROVED: a part of the proof. Conditions: none. -/
import Derived.Test.YtggeppllafbidaaGreatDoorPkA13
noncomputable section
namespace Go.Proofs.YtggeppllafbidaaGreatDoor
open Go Go.Proofs.Tryz
set_option linter.unusedVariables false
set_option maxRecDepth 100000
noncomputable def Pb:Code:=f11.body.getD .skip
def OX:List Nat:=[]
def wq:Option Bool:=
 (mX ([121]:ag)).bind fun r1=>
 (Ek 1).bind fun r2=>
 (mj 6 ([r1,r2]:List aa)).bind fun r3=>
 (mX ([120]:ag)).bind fun r4=>
 (mX ([118]:ag)).bind fun r5=>
 (mj 12 ([r4,r5]:List aa)).bind fun r6=>
 (gp r6).bind fun r7=>
 (DM ([120]:ag) r7).bind fun r8=>
 (mX ([120]:ag)).bind fun r9=>
 (mX ([121]:ag)).bind fun r10=>
 (mj 6 ([r9,r10]:List aa)).bind fun r11=>
 (mX ([118]:ag)).bind fun r12=>
 (mj 12 ([r11,r12]:List aa)).bind fun r13=>
 (gp r13).bind fun r14=>
 (DM ([120]:ag) r14).bind fun r15=>
 (mX ([120]:ag)).bind fun r16=>
 (fN r15 ([121]:ag) r16).bind fun r17=>
 (Ek 5).bind fun r18=>
 (xN r8 ([r18]:List aa)).bind fun r19=>
 (Ek 0).bind fun r20=>
 (mX ([118]:ag)).bind fun r21=>
 (mj 13 ([r20,r21]:List aa)).bind fun r22=>
 (gp r22).bind fun r23=>
 (AM r23 ([110]:ag)).bind fun r24=>
 (xP r8).bind fun r25=>
 if (r25 == 0) = true then
  (fN r7 ([120]:ag) (⟨r3.Op,r3.Name,r3.N,r3.Kids⟩:aa)).bind fun r28=>
  (mX ([118]:ag)).bind fun r29=>
  (mj 12 ([(⟨r3.Op,r3.Name,r3.N,r3.Kids⟩:aa),r29]:List aa)).bind fun r30=>
  (gp r30).bind fun r31=>
  (jG r28 r31).bind fun r32=>
  if r32 = true then
   (fN r8 ([120]:ag) (⟨r3.Op,r3.Name,r3.N,r3.Kids⟩:aa)).bind fun r35=>
   (jG r35 r8).bind fun r36=>
   if r36=true then
    (mX ([120,49]:ag)).bind fun r39=>
    (mX ([120]:ag)).bind fun r40=>
    (mj 6 ([r39,r40]:List aa)).bind fun r41=>
    (mX ([118]:ag)).bind fun r42=>
    (mj 12 ([r41,r42]:List aa)).bind fun r43=>
    (gp r43).bind fun r44=>
    (DM ([120,49]:ag) r44).bind fun r45=>
    (jG r17 r45).bind fun r46=>
    if r46=true then
     if (r19.2 == 0) = true then
      (Ek 5).bind fun r51=>
      (mX ([118]:ag)).bind fun r52=>
      (mj 12 ([r51,r52]:List aa)).bind fun r53=>
      (gp r53).bind fun r54=>
      (jG r19.1 r54).bind fun r55=>
      if r55=true then
       (mX ([118]:ag)).bind fun r58=>
       (mX ([110]:ag)).bind fun r59=>
       (mj 10 ([r58,r59]:List aa)).bind fun r60=>
       (mj 15 ([r23.Pred,r60]:List aa)).bind fun r61=>
       (jA r24.Pred r61).bind fun r62=>
       if r62=true then
        (oq r7).bind fun r65=>
        (uI r65 ([([120]:ag)]:List ag)).bind fun r66=>
        if r66=true then
         (Ek 7).bind fun r69=>
         (FI r7 r69).bind fun r70=>
         (mX ([120]:ag)).bind fun r71=>
         (Ek 7).bind fun r72=>
         (mj 12 ([r71,r72]:List aa)).bind fun r73=>
         (jA r70 r73).bind fun r74=>
         some r74
        else
         some false
       else
        some false
      else
       some false
     else
      some false
    else
     some false
   else
    some false
  else
   some false
 else
  some false
theorem zD{r:Bool}(h:wq=some r):CC Pg GE 11 [] (.bool r) []:=by
 obtain⟨r1,br1,h⟩:=aw h
 obtain⟨r2,br2,h⟩:=aw h
 obtain⟨r3,br3,h⟩:=aw h
 obtain⟨r4,br4,h⟩:=aw h
 obtain⟨r5,br5,h⟩:=aw h
 obtain⟨r6,br6,h⟩:=aw h
 obtain⟨r7,br7,h⟩:=aw h
 obtain⟨r8,br8,h⟩:=aw h
 obtain⟨r9,br9,h⟩:=aw h
 obtain⟨r10,br10,h⟩:=aw h
 obtain⟨r11,br11,h⟩:=aw h
 obtain⟨r12,br12,h⟩:=aw h
 obtain⟨r13,br13,h⟩:=aw h
 obtain⟨r14,br14,h⟩:=aw h
 obtain⟨r15,br15,h⟩:=aw h
 obtain⟨r16,br16,h⟩:=aw h
 obtain⟨r17,br17,h⟩:=aw h
 obtain⟨r18,br18,h⟩:=aw h
 obtain⟨r19,br19,h⟩:=aw h
 obtain⟨r20,br20,h⟩:=aw h
 obtain⟨r21,br21,h⟩:=aw h
 obtain⟨r22,br22,h⟩:=aw h
 obtain⟨r23,br23,h⟩:=aw h
 obtain⟨r24,br24,h⟩:=aw h
 obtain⟨r25,br25,h⟩:=aw h
 have p27:=fun{sc F} (r:PS sc F)=>ba (ey br1)<|ba (rA br2)<|sv (aR.mk' (v:=ce) aY ([r1,r2]:List aa) 2 (by kernel_rfl))<|ba (fc br3)<|sx eX<|sx (bv r3)<|ba (ey br4)<|ba (ey br5)<|sv (aR.mk' (v:=ce) aY ([r4,r5]:List aa) 2 (by kernel_rfl))<|ba (fc br6)<|ba (eO br7)<|sx jh<|sy (aS r7)<|sv (bz r7 [])<|ba (yE br8)<|sx jh<|sy (aS r8)<|ba (ey br9)<|ba (ey br10)<|sv (aR.mk' (v:=ce) aY ([r9,r10]:List aa) 2 (by kernel_rfl))<|ba (fc br11)<|ba (ey br12)<|sv (aR.mk' (v:=ce) aY ([r11,r12]:List aa) 2 (by kernel_rfl))<|ba (fc br13)<|ba (eO br14)<|ba (yE br15)<|sx jh<|sy (aS r15)<|rp [0,0,3,0,15]<|sv (bz r15 [])<|ba (ey br16)<|ba (ji br17)<|OG (db r17)<|rp [0,0,2,7,15,31,31,0,191,511]<|sv (bz r8 [])<|ba (rA br18)<|sv (aR.mk' (v:=ce) aY ([r18]:List aa) 1 (by kernel_rfl))<|ba (B5 br19)<|sx (db r19.1)<|ba (rA br20)<|ba (ey br21)<|sv (aR.mk' (v:=ce) aY ([r20,r21]:List aa) 2 (by kernel_rfl))<|ba (fc br22)<|ba (eO br23)<|sx jh<|sy (aS r23)<|sv (bz r23 [])<|ba (DC br24)<|sx jh<|sy (aS r24)<|rp [0,1,3,7,15,15,63,15,127,511,1023,2047,4095,8191,16383,32767,32767,131071,32767,524287,1048575,2097151,4194303,4194303,12582911,29360127,62914559,130023423,264241151,532676607,1069547519,2143289343,4294967295,8589934591,17179869183,34359738367,68719476735,137438953471,274877906943,549755813887,549755813887,1649267441663,3848290697215,8246337208319,17042430230527,35184372088831,70368744177663,140737488355327,281474976710655,562949953421311,281474976710655,1407374883553279,281474976710655,4785074604081151,13792273858822143,31806672368304127,71213169107795967,143270763145723903,288230376151711743,576460752303423487,1152921504606846975,2305843009213693951,4611686018427387903,2305843009213693951,18446744073709551615,36893488147419103231,73786976294838206463,147573952589676412927,147573952589676412927,590295810358705651711,1180591620717411303423,2361183241434822606847,4722366482869645213695,9444732965739290427391,18889465931478580854783,37778931862957161709567,75557863725914323419135]<|sv (bz r8 [])<|ba (B7 br25)<|r
 rcases aT h with⟨c26,h⟩|⟨c26,h⟩
 ·obtain ⟨r28,br28,h⟩:=aw h
  obtain⟨r29,br29,h⟩:=aw h
  obtain⟨r30,br30,h⟩:=aw h
  obtain⟨r31,br31,h⟩:=aw h
  obtain⟨r32,br32,h⟩:=aw h
  have p34:=fun{sc F} (r:PS sc F)=>p27<|sg 4 c26<|sv (bz r7 [])<|sv (aX (⟨r3.Op,r3.Name,r3.N,r3.Kids⟩:aa) [])<|ba (ji br28)<|sv (aX (⟨r3.Op,r3.Name,r3.N,r3.Kids⟩:aa) [])<|ba (ey br29)<|sv (aR.mk' (v:=ce) aY ([(⟨r3.Op,r3.Name,r3.N,r3.Kids⟩:aa),r29]:List aa) 2 (by kernel_rfl))<|ba (fc br30)<|ba (eO br31)<|ba (kz br32)<|r
  rcases aT h with⟨c33,h⟩|⟨c33,h⟩
  ·obtain⟨r35,br35,h⟩:=aw h
   obtain⟨r36,br36,h⟩:=aw h
   have p38:=fun{sc F} (r:PS sc F)=>p34<|sg 15 c33<|sv (bz r8 [])<|sv (aX (⟨r3.Op,r3.Name,r3.N,r3.Kids⟩:aa) [])<|ba (ji br35)<|sv (bz r8 [])<|ba (kz br36)<|r
   rcases aT h with⟨c37,h⟩|⟨c37,h⟩
   ·obtain⟨r39,br39,h⟩:=aw h
    obtain⟨r40,br40,h⟩:=aw h
    obtain⟨r41,br41,h⟩:=aw h
    obtain⟨r42,br42,h⟩:=aw h
    obtain⟨r43,br43,h⟩:=aw h
    obtain⟨r44,br44,h⟩:=aw h
    obtain⟨r45,br45,h⟩:=aw h
    obtain⟨r46,br46,h⟩:=aw h
    have p48:=fun{sc F} (r:PS sc F)=>p38<|sg 22 c37<|sv (bz r17 [])<|ba (ey br39)<|ba (ey br40)<|sv (aR.mk' (v:=ce) aY ([r39,r40]:List aa) 2 (by kernel_rfl))<|ba (fc br41)<|ba (ey br42)<|sv (aR.mk' (v:=ce) aY ([r41,r42]:List aa) 2 (by kernel_rfl))<|ba (fc br43)<|ba (eO br44)<|ba (yE br45)<|ba (kz br46)<|r
    rcases aT h with⟨c47,h⟩|⟨c47,h⟩
    ·have p50:=fun{sc F} (r:PS sc F)=>p48<|sg 35 c47<|r
     rcases aT h with⟨c49,h⟩|⟨c49,h⟩
     ·obtain⟨r51,br51,h⟩:=aw h
      obtain⟨r52,br52,h⟩:=aw h
      obtain⟨r53,br53,h⟩:=aw h
      obtain⟨r54,br54,h⟩:=aw h
      obtain⟨r55,br55,h⟩:=aw h
      have p57:=fun{sc F} (r:PS sc F)=>p50<|sg 39 c49<|sv (bz r19.1 [])<|ba (rA br51)<|ba (ey br52)<|sv (aR.mk' (v:=ce) aY ([r51,r52]:List aa) 2 (by kernel_rfl))<|ba (fc br53)<|ba (eO br54)<|ba (kz br55)<|r
      rcases aT h with⟨c56,h⟩|⟨c56,h⟩
      ·obtain⟨r58,br58,h⟩:=aw h
       obtain⟨r59,br59,h⟩:=aw h
       obtain⟨r60,br60,h⟩:=aw h
       obtain⟨r61,br61,h⟩:=aw h
       obtain⟨r62,br62,h⟩:=aw h
       have p64:=fun{sc F} (r:PS sc F)=>p57<|sg 48 c56<|sv (aX r24.Pred [sl ac r24.Preds])<|sv (aX r23.Pred [sl ac r23.Preds])<|ba (ey br58)<|ba (ey br59)<|sv (aR.mk' (v:=ce) aY ([r58,r59]:List aa) 2 (by kernel_rfl))<|ba (fc br60)<|sv (aR.mk' (v:=ce) aY ([r23.Pred,r60]:List aa) 2 (by kernel_rfl))<|ba (fc br61)<|ba (ky br62)<|r
       rcases aT h with⟨c63,h⟩|⟨c63,h⟩
       ·obtain⟨r65,br65,h⟩:=aw h
        obtain⟨r66,br66,h⟩:=aw h
        have p68:=fun{sc F} (r:PS sc F)=>p64<|sg 61 c63<|sv (bz r7 [])<|ba (uf br65)<|sv (aW.mk' (v:=PVal.str) CE ([([120]:ag)]:List ag) 1 (by kernel_rfl))<|ba (Cn br66)<|r
        rcases aT h with⟨c67,h⟩|⟨c67,h⟩
        ·obtain⟨r69,br69,h⟩:=aw h
         obtain⟨r70,br70,h⟩:=aw h
         obtain⟨r71,br71,h⟩:=aw h
         obtain⟨r72,br72,h⟩:=aw h
         obtain⟨r73,br73,h⟩:=aw h
         obtain⟨r74,br74,h⟩:=aw h
         obtain rfl:=lf h
         have z:=p68<|sg 67 c67<|sv (bz r7 [])<|ba (rA br69)<|ba (GO br70)<|ba (ey br71)<|ba (rA br72)<|sv (aR.mk' (v:=ce) aY ([r71,r72]:List aa) 2 (by kernel_rfl))<|ba (fc br73)<|ba (ky br74)<|en (aI (rP (.bool r74))<|trivial)
         exact b7 OX call11 func11 (c:=Pb) rfl trivial z<|by kernel_rfl
        ·obtain rfl:=lf h
         have z:=p68<|sg 67 c67<|en (aI (rP (.bool false))<|trivial)
         exact b7 OX call11 func11 (c:=Pb) rfl trivial z<|by kernel_rfl
       ·obtain rfl:=lf h
        have z:=p64<|sg 61 c63<|en (aI (rP (.bool false))<|trivial)
        exact b7 OX call11 func11 (c:=Pb) rfl trivial z<|by kernel_rfl
      ·obtain rfl:=lf h
       have z:=p57<|sg 48 c56<|en (aI (rP (.bool false))<|trivial)
       exact b7 OX call11 func11 (c:=Pb) rfl trivial z<|by kernel_rfl
     ·obtain rfl:=lf h
      have z:=p50<|sg 39 c49<|en (aI (rP (.bool false))<|trivial)
      exact b7 OX call11 func11 (c:=Pb) rfl trivial z<|by kernel_rfl
    ·obtain rfl:=lf h
     have z:=p48<|sg 35 c47<|en (aI (rP (.bool false))<|trivial)
     exact b7 OX call11 func11 (c:=Pb) rfl trivial z<|by kernel_rfl
   ·obtain rfl:=lf h
    have z:=p38<|sg 22 c37<|en (aI (rP (.bool false))<|trivial)
    exact b7 OX call11 func11 (c:=Pb) rfl trivial z<|by kernel_rfl
  ·obtain rfl:=lf h
   have z:=p34<|sg 15 c33<|en (aI (rP (.bool false))<|trivial)
   exact b7 OX call11 func11 (c:=Pb) rfl trivial z<|by kernel_rfl
 ·obtain rfl:=lf h
  have z:=p27<|sg 4 c26<|en (aI (rP (.bool false))<|trivial)
  exact b7 OX call11 func11 (c:=Pb) rfl trivial z<|by kernel_rfl
noncomputable def SA:Code:=f28.body.getD .skip
def Ru:List Nat:=[10,17]
section
variable(v:waA)(s:ag)(t7:Int)(t8:Int)
def jv:av:=aN 19 [(0,sl cS v),(1,.str s),(7,.int .i64 t7),(8,.int .i64 t8)] [] []
def jw(o:Int⊕(Unit)):Exit:=match o with
 |(.inl _)=>.ret
 |(.inr _)=>.exit 0
def ie(o:Int⊕(Unit)):av:=match o with
 |(.inl o)=>aN 19 [(4,.int .i64 o)] [] []
 |(.inr o)=>aN 19 [] [] []
def dz:Option (Int⊕(Int⊕(Unit))):=
 if(decide (t8<t7))=true then
  (dv v t8).bind fun x2=>
  if(x2==s)=true then
   some (.inr (.inl t8))
  else
   some (.inl (bA (t8+1)))
 else
  some (.inr (.inr ()))
def pT:Option (Int⊕(Unit)):=loop (fun(zz:Int)=>dz v s t7 zz) t8
theorem CW{y:Int⊕(Int⊕(Unit))}(h:dz v s t7 t8=some y):aB Pg GE 0 (cA SA 55) (LQ (fun(zz:Int)=>jv v s t7 zz) jw ie y) (jv v s t7 t8):=by
 rcases aT h with⟨c1,h⟩|⟨c1,h⟩
 ·obtain⟨x2,bx2,h⟩:=aw h
  have p4:=fun{sc F} (r:PS sc F)=>sg 0 c1<|sv (aW.ia (k:=.i64) bx2)<|sv (cP xe (.str x2) [])<|r
  rcases aT h with⟨c3,h⟩|⟨c3,h⟩
  ·obtain rfl:=lf h
   have z:=p4<|sg 0 c3<|eF (jw (.inl t8)) (ie (.inl t8))
   exact gf Ru (by intro hx;cases hx) z<|by kernel_rfl
  ·obtain rfl:=lf h
   exact rY Ru (p4<|sg 0 c3<|eF .normal (jv v s t7 (bA (t8+1))))<|by kernel_rfl
 ·obtain rfl:=lf h
  have z:=sg 0 c1<|eF (jw (.inr ())) (ie (.inr ()))
  exact gf Ru (by intro hx;cases hx) z<|by kernel_rfl
theorem uH{x:Int⊕(Unit)}(h:pT v s t7 t8=some x):aB Pg GE 0 (.loop (cA SA 55)) (EX (jw x) (ie x)) (jv v s t7 t8):=
 aB.loop (S:=fun(zz:Int)=>jv v s t7 zz) (ex:=jw) (s:=t8) h fun zz y hy=>CW v s t7 zz hy
end
def fp(a:waA)(s:ag):Option Int:=
 (pT a s (a.length:Int) 0).bind fun o5=>match o5 with
 |(.inl o5)=>
  some o5
 |(.inr o5)=>
  some (-1)
theorem kw{a:waA}{s:ag}{r:Int}(h:fp a s=some r):CC Pg GE 28 [sl cS a,.str s] (.int .i64 r) []:=by
 obtain⟨o5,bo5,h⟩:=aw h
 rcases o5 with o5|o5
 ·obtain rfl:=lf h
  have z:=cD (aW.ln a)<|cC (e:=.ret) (s1:=ie (.inl o5)) (uH a s (a.length:Int) 0 bo5)<|en (aI (rP (.int .i64 o5))<|trivial)
  exact b7 Ru call28 func28 (c:=SA) rfl (aI (am dS a) (aI trivial trivial)) z<|by kernel_rfl
 ·obtain rfl:=lf h
  have z:=cD (aW.ln a)<|cC (e:=.exit 0) (s1:=ie (.inr o5)) (uH a s (a.length:Int) 0 bo5)<|en (aI (rP (.int .i64 (-1)))<|trivial)
  exact b7 Ru call28 func28 (c:=SA) rfl (aI (am dS a) (aI trivial trivial)) z<|by kernel_rfl
abbrev mK:=(ae->aj->Option ae)
abbrev qD(R:mK):Prop:=∀(t:ae) (c:aj) (r:ae),R t c=some r->CC Pg GE 51 [.agg (af t),.agg (au c)] (.agg (af r)) [(2,30),(8,28)]
abbrev lb:=(aa->waA->waB->Option aa)
abbrev oJ(R:lb):Prop:=∀(p:aa) (names:waA) (a:waB) (r:aa),R p names a=some r->CC Pg GE 90 [.agg (ac p),sl cS names,sl ac a] (.agg (ac r)) []
noncomputable def S1:Code:=f110.body.getD .skip
def SM:List Nat:=[]
def I3(p:aa)(kids:waB):Option aa:=
 some (⟨p.Op,p.Name,p.N,kids⟩:aa)
theorem I4{p:aa}{kids:waB}{r:aa}(h:I3 p kids=some r):CC Pg GE 110 [.agg (ac p),sl ac kids] (.agg (ac r)) []:=by
 obtain rfl:=lf h
 have z:=se (bM p)<|sx eX<|sv (aP p)<|sv (aQ p)<|sv (bT p)<|sv (cm p)<|sv (cf p)<|sv (cp p)<|sv (Bv p.Op p.Name p.N kids)<|sx (bv (⟨p.Op,p.Name,p.N,kids⟩:aa))<|en (aI (cQ (⟨p.Op,p.Name,p.N,kids⟩:aa))<|(ah (⟨p.Op,p.Name,p.N,kids⟩:aa)))
 exact b7 SM call110 func110 (c:=S1) rfl (aI (ah p) (aI (am ah kids) trivial)) z<|by kernel_rfl
noncomputable def Rj:Code:=f90.body.getD .skip
def O1:List Nat:=[37]
section
variable(names:waA)(v:waB)(p:aa)(i:Int)(m:waB)
def zu:av:=aN 48 [(1,sl cS names),(2,sl ac v),(3,.eptr (ac p)),(6,.bptr 1 0),(7,.int .i64 i)] [.dead,.cells [.int .i64 0,.str ([]:ag),.int .i64 0,sl ac m] [(3,28)]] []
def kX(o:Bool):av:=aN 48 [(1,sl cS names),(2,sl ac v),(3,.eptr (ac p)),(6,.bptr 1 0),(7,.int .i64 i),(25,.bool o)] [.dead,.cells [.int .i64 0,.str ([]:ag),.int .i64 0,sl ac m] [(3,28)]] []
def nq:Option Bool:=
 if(decide (i>=0))=true then
  some (decide (i<(v.length:Int)))
 else
  some false
theorem yq{x:Bool}(h:nq v i=some x):aB Pg GE 0 (cA Rj 106) (EX .normal (kX names v p i m x)) (zu names v p i m):=by
 rcases aT h with⟨c4,h⟩|⟨c4,h⟩
 ·obtain rfl:=lf h
  exact co O1 (sg 3 c4<|cD (aR.ln v)<|eF .normal (kX names v p i m (decide (i<(v.length:Int)))))<|by kernel_rfl
 ·obtain rfl:=lf h
  exact co O1 (sg 3 c4<|eF .normal (kX names v p i m false))<|by kernel_rfl
end
section
variable(names:waA)(v:waB)(p:aa)(m:waB)
def zt:av:=aN 48 [(1,sl cS names),(2,sl ac v),(3,.eptr (ac p)),(6,.bptr 1 0)] [.dead,.cells [.int .i64 0,.str ([]:ag),.int .i64 0,sl ac m] [(3,28)]] []
def it(o:(Int×ag×Int×waB)⊕(Unit)):Exit:=match o with
 |(.inl _)=>.ret
 |(.inr _)=>.normal
def ea(o:(Int×ag×Int×waB)⊕(Unit)):av:=match o with
 |(.inl o)=>aN 48 [(6,.bptr 1 0)] [.dead,.cells [.int .i64 o.1,.str o.2.1,.int .i64 o.2.2.1,sl ac o.2.2.2] []] []
 |(.inr o)=>aN 48 [(1,sl cS names),(2,sl ac v),(3,.eptr (ac p)),(6,.bptr 1 0)] [.dead,.cells [.int .i64 0,.str ([]:ag),.int .i64 0,sl ac m] [(3,28)]] []
def jZ:Option ((Int×ag×Int×waB)⊕(Unit)):=
 if(p.Op==3)=true then
  (fp names p.Name).bind fun r3=>
  (nq v r3).bind fun o5=>
  if o5=true then
   (dv v r3).bind fun x8=>
   some (.inl (x8.Op,x8.Name,x8.N,x8.Kids))
  else
   some (.inr ())
 else
  some (.inr ())
theorem oR{x:(Int×ag×Int×waB)⊕(Unit)}(h:jZ names v p=some x):aB Pg GE 0 (cA Rj 6) (EX (it x) (ea names v p m x)) (zt names v p m):=by
 have p2:=fun{sc F} (r:PS sc F)=>sv (aP p)<|sv (aQ p)<|r
 rcases aT h with⟨c1,h⟩|⟨c1,h⟩
 ·obtain⟨r3,br3,h⟩:=aw h
  obtain⟨o5,bo5,h⟩:=aw h
  have p7:=fun{sc F} (r:PS sc F)=>p2<|sg 0 c1<|sv (bT p)<|sv (cm p)<|ba (kw br3)<|kK 0<|cC (yq names v p r3 m bo5)<|r
  rcases aT h with⟨c6,h⟩|⟨c6,h⟩
  ·obtain⟨x8,bx8,h⟩:=aw h
   obtain rfl:=lf h
   exact co O1 (p7<|sg 0 c6<|sv (aR.ia (k:=.i64) bx8)<|sv (az x8)<|sx (bv x8)<|eF (it (.inl (x8.Op,x8.Name,x8.N,x8.Kids))) (ea names v p m (.inl (x8.Op,x8.Name,x8.N,x8.Kids))))<|by kernel_rfl
  ·obtain rfl:=lf h
   exact co O1 (p7<|sg 0 c6<|eF (it (.inr ())) (ea names v p m (.inr ())))<|by kernel_rfl
 ·obtain rfl:=lf h
  exact co O1 (p2<|sg 0 c1<|eF (it (.inr ())) (ea names v p m (.inr ())))<|by kernel_rfl
end
section
variable(R83:lb)(names:waA)(v:waB)(p:aa)(t31:waB)(t32:Int)(m:waB)(out:waB)(t33:Int)
def fq:av:=aN 48 [(1,sl cS names),(2,sl ac v),(3,.eptr (ac p)),(6,.bptr 1 0),(8,sl ac out),(31,sl ac t31),(32,.int .i64 t32),(33,.int .i64 t33)] [.dead,.cells [.int .i64 0,.str ([]:ag),.int .i64 0,sl ac m] [(3,28)]] [((8,0),28)]
def kY(o:waB):av:=aN 48 [(3,.eptr (ac p)),(6,.bptr 1 0),(8,sl ac o)] [.dead,.cells [.int .i64 0,.str ([]:ag),.int .i64 0,sl ac m] [(3,28)]] [((8,0),28)]
def pX:Option ((waB×Int)⊕(waB)):=
 if(decide (t33<t32))=true then
  (dv t31 t33).bind fun x11=>
  (R83 x11 names v).bind fun r12=>
  (app out ([r12]:List aa)).bind fun l13=>
  some (.inl (l13,bA (t33+1)))
 else
  some (.inr out)
def nr:Option waB:=loop (fun(zz:waB×Int)=>pX R83 names v t31 t32 zz.1 zz.2) (out,t33)
theorem wN(hR83:oJ R83){y:(waB×Int)⊕(waB)}(h:pX R83 names v t31 t32 out t33=some y):aB Pg GE 0 (cA Rj 247) (LQ (fun(zz:waB×Int)=>fq names v p t31 t32 m zz.1 zz.2) (fun _=>.exit 0) (kY p m) y) (fq names v p t31 t32 m out t33):=by
 rcases aT h with⟨c10,h⟩|⟨c10,h⟩
 ·obtain⟨x11,bx11,h⟩:=aw h
  obtain⟨r12,br12,h⟩:=aw h
  obtain⟨l13,bl13,h⟩:=aw h
  obtain rfl:=lf h
  have z:=sg 0 c10<|sv (aR.ia (k:=.i64) bx11)<|sv (az x11)<|sx eX<|sx (bv x11)<|sv (aX x11 [])<|ba (hR83 _ _ _ _ br12)<|sv (aR.mk' (v:=ce) aY ([r12]:List aa) 1 (by kernel_rfl))<|sv (aR.ap bl13)<|pg 0 .normal (fq names v p t31 t32 m l13 (bA (t33+1))) rfl (cF (aI (up (am dS names)) (aI (up (am ah v)) (aI (lq (ah p)) (aI (cV rfl) (aI (up (am ah l13)) (aI (up (am ah t31)) (aI trivial (aI trivial trivial))))))))) (aI trivial (aI (aI trivial (aI trivial (aI trivial (aI (up (am ah m)) trivial)))) trivial))
  exact cz (A:=O1) mixed z<|by kernel_rfl
 ·obtain rfl:=lf h
  have z:=sg 0 c10<|eF (.exit 0) (kY p m out)
  exact gf O1 (by intro hx;cases hx) z<|by kernel_rfl
theorem yr(hR83:oJ R83){x:waB}(h:nr R83 names v t31 t32 out t33=some x):aB Pg GE 0 (.loop (cA Rj 247)) (EX (.exit 0) (kY p m x)) (fq names v p t31 t32 m out t33):=
 aB.loop (S:=fun(zz:waB×Int)=>fq names v p t31 t32 m zz.1 zz.2) (ex:=(fun _=>.exit 0)) (s:=(out,t33)) h fun zz y hy=>wN R83 names v p t31 t32 m zz.1 zz.2 hR83 hy
end
def kW(R83:lb)(p:aa)(names:waA)(a:waB):Option aa:=
 (jZ names a p).bind fun o9=>match o9 with
 |(.inl o9)=>
  some (⟨o9.1,o9.2.1,o9.2.2.1,o9.2.2.2⟩:aa)
 |(.inr o9)=>
  (nr R83 names a p.Kids (p.Kids.length:Int) ([]:List aa) 0).bind fun o14=>
  (I3 p o14).bind fun r15=>
  some r15
theorem Bk(R83:lb)(hR83:oJ R83){p:aa}{names:waA}{a:waB}{r:aa}(h:kW R83 p names a=some r):CC Pg GE 90 [.agg (ac p),sl cS names,sl ac a] (.agg (ac r)) []:=by
 obtain⟨o9,bo9,h⟩:=aw h
 rcases o9 with o9|o9
 ·obtain rfl:=lf h
  have z:=se (bM p)<|sx eX<|kK 0<|cC (e:=.ret) (s1:=ea names a p ([]:List aa) (.inl o9)) (oR names a p ([]:List aa) bo9)<|en (aI (cQ (⟨o9.1,o9.2.1,o9.2.2.1,o9.2.2.2⟩:aa))<|(ah (⟨o9.1,o9.2.1,o9.2.2.1,o9.2.2.2⟩:aa)))
  exact b7 O1 call90 func90 (c:=Rj) rfl (aI (ah p) (aI (am dS names) (aI (am ah a) trivial))) z<|by kernel_rfl
 ·obtain⟨o14,bo14,h⟩:=aw h
  obtain⟨r15,br15,h⟩:=aw h
  obtain rfl:=lf h
  have z:=se (bM p)<|sx eX<|kK 0<|cC (e:=.normal) (s1:=ea names a p ([]:List aa) (.inr o9)) (oR names a p ([]:List aa) bo9)<|sv (aF p)<|sv (aH p)<|cD (aR.ln p.Kids)<|cC (yr R83 names a p p.Kids (p.Kids.length:Int) ([]:List aa) ([]:List aa) 0 hR83 bo14)<|sv (az p)<|ba (I4 br15)<|sx (bv r15)<|en (aI (cQ r15)<|(ah r15))
  exact b7 O1 call90 func90 (c:=Rj) rfl (aI (ah p) (aI (am dS names) (aI (am ah a) trivial))) z<|by kernel_rfl
def oQ:((aa×waA×waB)->Option aa)->(aa×waA×waB)->Option aa:=fun(rec:(aa×waA×waB)->Option aa) (x:aa×waA×waB)=>kW (fun p names a=>rec (p,names,a)) x.1 x.2.1 x.2.2
def kV(p:aa)(names:waA)(a:waB):Option aa:=nw oQ (p,names,a)
theorem tS{p:aa}{names:waA}{a:waB}{r:aa}(h:kV p names a=some r):CC Pg GE 90 [.agg (ac p),sl cS names,sl ac a] (.agg (ac r)) []:=
 cT (F:=oQ) (M:=fun(x:aa×waA×waB) (r:aa)=>CC Pg GE 90 [.agg (ac x.1),sl cS x.2.1,sl ac x.2.2] (.agg (ac r)) []) (fun rec hrec x r h=>Bk _ (fun p names a r h=>hrec (p,names,a) r h) h) h
abbrev s9:=(aa->Option waA)
abbrev yg(R:s9):Prop:=∀(p:aa) (r:waA),R p=some r->CC Pg GE 30 [.agg (ac p)] (sl cS r) [(0,9)]
noncomputable def Ri:Code:=f68.body.getD .skip
def O0:List Nat:=[19,28,46,51]
section
variable(v:waA)(s:ag)(out:waA)(i:Int)
def HJ:av:=aN 52 [(0,sl cS v),(1,.str s),(5,sl cS out),(6,.int .i64 i)] [] [((5,0),9)]
def sN(o:Bool):av:=aN 52 [(0,sl cS v),(1,.str s),(5,sl cS out),(6,.int .i64 i),(18,.bool o)] [] [((5,0),9)]
def me:Option Bool:=
 if(decide (i<(v.length:Int)))=true then
  (dv v i).bind fun x2=>
  some (Op.bytesLess x2 s)
 else
  some false
theorem Gc{x:Bool}(h:me v s i=some x):aB Pg GE 0 (cA Ri 492) (EX .normal (sN v s out i x)) (HJ v s out i):=by
 rcases aT h with⟨c1,h⟩|⟨c1,h⟩
 ·obtain⟨x2,bx2,h⟩:=aw h
  obtain rfl:=lf h
  exact co O0 (cD (aW.ln v)<|sg 5 c1<|sv (aW.ia (k:=.i64) bx2)<|sv (cP xe (.str x2) [])<|eF .normal (sN v s out i (Op.bytesLess x2 s)))<|by kernel_rfl
 ·obtain rfl:=lf h
  exact co O0 (cD (aW.ln v)<|sg 5 c1<|eF .normal (sN v s out i false))<|by kernel_rfl
end
section
variable(v:waA)(s:ag)(out:waA)(i:Int)
def kS:av:=aN 52 [(0,sl cS v),(1,.str s),(5,sl cS out),(6,.int .i64 i)] [] [((5,0),9)]
def sR(o:waA×Int):av:=aN 52 [(0,sl cS v),(1,.str s),(5,sl cS o.1),(6,.int .i64 o.2)] [] [((5,0),9)]
def kT:Option ((waA×Int)⊕((waA×Int))):=
 (me v s i).bind fun o3=>
 if o3=true then
  (dv v i).bind fun x6=>
  (app out ([x6]:List ag)).bind fun l7=>
  some (.inl (l7,bA (i+1)))
 else
  some (.inr (out,i))
def yn:Option ((waA×Int)):=loop (fun(zz:waA×Int)=>kT v s zz.1 zz.2) (out,i)
theorem D4{y:(waA×Int)⊕((waA×Int))}(h:kT v s out i=some y):aB Pg GE 0 (cA Ri 123) (LQ (fun(zz:waA×Int)=>kS v s zz.1 zz.2) (fun _=>.exit 0) (sR v s) y) (kS v s out i):=by
 obtain⟨o3,bo3,h⟩:=aw h
 have p5:=fun{sc F} (r:PS sc F)=>kK 1<|cC (Gc v s out i bo3)<|r
 rcases aT h with⟨c4,h⟩|⟨c4,h⟩
 ·obtain⟨x6,bx6,h⟩:=aw h
  obtain⟨l7,bl7,h⟩:=aw h
  obtain rfl:=lf h
  exact rY O0 (p5<|sg 0 c4<|sv (aW.ia (k:=.i64) bx6)<|sv (cP xe (.str x6) [])<|sv (aW.mk' (v:=PVal.str) CE ([x6]:List ag) 1 (by kernel_rfl))<|sv (aW.ap bl7)<|eF .normal (kS v s l7 (bA (i+1))))<|by kernel_rfl
 ·obtain rfl:=lf h
  have z:=p5<|sg 0 c4<|eF (.exit 0) (sR v s (out,i))
  exact gf O0 (by intro hx;cases hx) z<|by kernel_rfl
theorem Gf{x:(waA×Int)}(h:yn v s out i=some x):aB Pg GE 0 (.loop (cA Ri 123)) (EX (.exit 0) (sR v s x)) (kS v s out i):=
 aB.loop (S:=fun(zz:waA×Int)=>kS v s zz.1 zz.2) (ex:=(fun _=>.exit 0)) (s:=(out,i)) h fun zz y hy=>D4 v s zz.1 zz.2 hy
end
section
variable(v:waA)(s:ag)(out:waA)(i:Int)
def HL:av:=aN 52 [(0,sl cS v),(1,.str s),(5,sl cS out),(6,.int .i64 i)] [] [((5,0),9)]
def sQ(o:Bool):av:=aN 52 [(0,sl cS v),(5,sl cS out),(6,.int .i64 i),(43,.bool o)] [] [((5,0),9)]
def ym:Option Bool:=
 if(decide (i<(v.length:Int)))=true then
  (dv v i).bind fun x11=>
  some (x11==s)
 else
  some false
theorem Ge{x:Bool}(h:ym v s i=some x):aB Pg GE 0 (cA Ri 252) (EX .normal (sQ v out i x)) (HL v s out i):=by
 rcases aT h with⟨c10,h⟩|⟨c10,h⟩
 ·obtain⟨x11,bx11,h⟩:=aw h
  obtain rfl:=lf h
  exact co O0 (cD (aW.ln v)<|sg 5 c10<|sv (aW.ia (k:=.i64) bx11)<|sv (cP xe (.str x11) [])<|eF .normal (sQ v out i (x11==s)))<|by kernel_rfl
 ·obtain rfl:=lf h
  exact co O0 (cD (aW.ln v)<|sg 5 c10<|eF .normal (sQ v out i false))<|by kernel_rfl
end
section
variable(v:waA)(s:ag)(out:waA)(i:Int)
def HK:av:=aN 52 [(0,sl cS v),(1,.str s),(5,sl cS out),(6,.int .i64 i)] [] [((5,0),9)]
def sP(o:Int):av:=aN 52 [(0,sl cS v),(5,sl cS out),(6,.int .i64 o)] [] [((5,0),9)]
def sO:Option Int:=
 (ym v s i).bind fun o12=>
 if o12=true then
  some (bA (i+1))
 else
  some i
theorem Gd{x:Int}(h:sO v s i=some x):aB Pg GE 0 (cA Ri 126) (EX .normal (sP v out x)) (HK v s out i):=by
 obtain⟨o12,bo12,h⟩:=aw h
 have p14:=fun{sc F} (r:PS sc F)=>kK 0<|cC (Ge v s out i bo12)<|r
 rcases aT h with⟨c13,h⟩|⟨c13,h⟩
 ·obtain rfl:=lf h
  exact co O0 (p14<|sg 0 c13<|eF .normal (sP v out (bA (i+1))))<|by kernel_rfl
 ·obtain rfl:=lf h
  exact co O0 (p14<|sg 0 c13<|eF .normal (sP v out i))<|by kernel_rfl
end
def pV(a:waA)(s:ag):Option waA:=
 (yn a s ([]:List ag) 0).bind fun o8=>
 (app o8.1 ([s]:List ag)).bind fun l9=>
 (sO a s o8.2).bind fun o15=>
 (IK a (some o15) none).bind fun l16=>
 (app l9 l16).bind fun l17=>
 some l17
theorem sS{a:waA}{s:ag}{r:waA}(h:pV a s=some r):CC Pg GE 68 [sl cS a,.str s] (sl cS r) [(0,9)]:=by
 obtain⟨o8,bo8,h⟩:=aw h
 obtain⟨l9,bl9,h⟩:=aw h
 obtain⟨o15,bo15,h⟩:=aw h
 obtain⟨l16,bl16,h⟩:=aw h
 obtain⟨l17,bl17,h⟩:=aw h
 obtain rfl:=lf h
 have z:=cC (Gf a s ([]:List ag) 0 bo8)<|sv (aW.mk' (v:=PVal.str) CE ([s]:List ag) 1 (by kernel_rfl))<|sv (aW.ap bl9)<|kK 0<|cC (Gd a s l9 o8.2 bo15)<|sv (aW.sc bl16)<|sv (aW.ap bl17)<|en (aI (rP (sl cS l17))<|(am dS l17))
 exact b7 O0 call68 func68 (c:=Ri) rfl (aI (am dS a) (aI trivial trivial)) z<|by kernel_rfl
noncomputable def OP:Code:=f33.body.getD .skip
def OO:List Nat:=[12,24,32]
section
variable(v:waA)(v2:waA)(t9:Int)(out:waA)(t10:Int)
def iD:av:=aN 33 [(0,sl cS v),(1,sl cS v2),(5,sl cS out),(9,.int .i64 t9),(10,.int .i64 t10)] [] [((5,0),9)]
def oN(o:waA):av:=aN 33 [(1,sl cS v2),(5,sl cS o)] [] [((5,0),9)]
def iE:Option ((waA×Int)⊕(waA)):=
 if(decide (t10<t9))=true then
  (dv v t10).bind fun x2=>
  (pV out x2).bind fun r3=>
  some (.inl (r3,bA (t10+1)))
 else
  some (.inr out)
def kQ:Option waA:=loop (fun(zz:waA×Int)=>iE v t9 zz.1 zz.2) (out,t10)
theorem Bh{y:(waA×Int)⊕(waA)}(h:iE v t9 out t10=some y):aB Pg GE 0 (cA OP 119) (LQ (fun(zz:waA×Int)=>iD v v2 t9 zz.1 zz.2) (fun _=>.exit 0) (oN v2) y) (iD v v2 t9 out t10):=by
 rcases aT h with⟨c1,h⟩|⟨c1,h⟩
 ·obtain⟨x2,bx2,h⟩:=aw h
  obtain⟨r3,br3,h⟩:=aw h
  obtain rfl:=lf h
  exact rY OO (sg 0 c1<|sv (aW.ia (k:=.i64) bx2)<|sv (cP xe (.str x2) [])<|ba (sS br3)<|eF .normal (iD v v2 t9 r3 (bA (t10+1))))<|by kernel_rfl
 ·obtain rfl:=lf h
  have z:=sg 0 c1<|eF (.exit 0) (oN v2 out)
  exact gf OO (by intro hx;cases hx) z<|by kernel_rfl
theorem CZ{x:waA}(h:kQ v t9 out t10=some x):aB Pg GE 0 (.loop (cA OP 119)) (EX (.exit 0) (oN v2 x)) (iD v v2 t9 out t10):=
 aB.loop (S:=fun(zz:waA×Int)=>iD v v2 t9 zz.1 zz.2) (ex:=(fun _=>.exit 0)) (s:=(out,t10)) h fun zz y hy=>Bh v v2 t9 zz.1 zz.2 hy
end
section
variable(v:waA)(t21:Int)(out:waA)(t22:Int)
def iF:av:=aN 33 [(1,sl cS v),(5,sl cS out),(21,.int .i64 t21),(22,.int .i64 t22)] [] [((5,0),9)]
def oO(o:waA):av:=aN 33 [(5,sl cS o)] [] [((5,0),9)]
def cq:Option ((waA×Int)⊕(waA)):=
 if(decide (t22<t21))=true then
  (dv v t22).bind fun x6=>
  (pV out x6).bind fun r7=>
  some (.inl (r7,bA (t22+1)))
 else
  some (.inr out)
def kR:Option waA:=loop (fun(zz:waA×Int)=>cq v t21 zz.1 zz.2) (out,t22)
theorem Bi{y:(waA×Int)⊕(waA)}(h:cq v t21 out t22=some y):aB Pg GE 0 (cA OP 247) (LQ (fun(zz:waA×Int)=>iF v t21 zz.1 zz.2) (fun _=>.exit 2) oO y) (iF v t21 out t22):=by
 rcases aT h with⟨c5,h⟩|⟨c5,h⟩
 ·obtain⟨x6,bx6,h⟩:=aw h
  obtain⟨r7,br7,h⟩:=aw h
  obtain rfl:=lf h
  exact rY OO (sg 0 c5<|sv (aW.ia (k:=.i64) bx6)<|sv (cP xe (.str x6) [])<|ba (sS br7)<|eF .normal (iF v t21 r7 (bA (t22+1))))<|by kernel_rfl
 ·obtain rfl:=lf h
  have z:=sg 0 c5<|eF (.exit 2) (oO out)
  exact gf OO (by intro hx;cases hx) z<|by kernel_rfl
theorem C0{x:waA}(h:kR v t21 out t22=some x):aB Pg GE 0 (.loop (cA OP 247)) (EX (.exit 2) (oO x)) (iF v t21 out t22):=
 aB.loop (S:=fun(zz:waA×Int)=>iF v t21 zz.1 zz.2) (ex:=(fun _=>.exit 2)) (s:=(out,t22)) h fun zz y hy=>Bi v t21 zz.1 zz.2 hy
end
def d9(a:waA)(a2:waA):Option waA:=
 (kQ a (a.length:Int) ([]:List ag) 0).bind fun o4=>
 (kR a2 (a2.length:Int) o4 0).bind fun o8=>
 some o8
theorem i7{a:waA}{a2:waA}{r:waA}(h:d9 a a2=some r):CC Pg GE 33 [sl cS a,sl cS a2] (sl cS r) [(0,9)]:=by
 obtain⟨o4,bo4,h⟩:=aw h
 obtain⟨o8,bo8,h⟩:=aw h
 obtain rfl:=lf h
 have z:=cD (aW.ln a)<|cC (CZ a a2 (a.length:Int) ([]:List ag) 0 bo4)<|cD (aW.ln a2)<|cC (C0 a2 (a2.length:Int) o4 0 bo8)<|en (aI (rP (sl cS o8))<|(am dS o8))
 exact b7 OO call33 func33 (c:=OP) rfl (aI (am dS a) (aI (am dS a2) trivial)) z<|by kernel_rfl
noncomputable def SB:Code:=f30.body.getD .skip
def Rv:List Nat:=[24]
section
variable(p:aa)
def Gg:av:=aN 25 [(1,.eptr (ac p)),(3,sl cS ([]:List ag))] [.dead] [((3,0),9)]
def qJ(o:waA):av:=aN 25 [(1,.eptr (ac p)),(3,sl cS o)] [.dead] [((3,0),9)]
def uL:Option waA:=
 if(p.Op==3)=true then
  some ([p.Name]:List ag)
 else
  some ([]:List ag)
theorem D6{x:waA}(h:uL p=some x):aB Pg GE 0 (cA SB 14) (EX .normal (qJ p x)) (Gg p):=by
 have p2:=fun{sc F} (r:PS sc F)=>sv (aP p)<|sv (aQ p)<|r
 rcases aT h with⟨c1,h⟩|⟨c1,h⟩
 ·obtain rfl:=lf h
  exact co Rv (p2<|sg 0 c1<|sv (bT p)<|sv (cm p)<|sv (aW.mk' (v:=PVal.str) CE ([p.Name]:List ag) 1 (by kernel_rfl))<|eF .normal (qJ p ([p.Name]:List ag)))<|by kernel_rfl
 ·obtain rfl:=lf h
  exact co Rv (p2<|sg 0 c1<|eF .normal (qJ p ([]:List ag)))<|by kernel_rfl
end
section
variable(R86:s9)(t13:waB)(t14:Int)(out:waA)(t15:Int)
def jz:av:=aN 25 [(3,sl cS out),(13,sl ac t13),(14,.int .i64 t14),(15,.int .i64 t15)] [.dead] [((3,0),9)]
def qK(o:waA):av:=aN 25 [(3,sl cS o)] [.dead] [((3,0),9)]
def xh:Option ((waA×Int)⊕(waA)):=
 if(decide (t15<t14))=true then
  (dv t13 t15).bind fun x5=>
  (R86 x5).bind fun r6=>
  (d9 out r6).bind fun r7=>
  some (.inl (r7,bA (t15+1)))
 else
  some (.inr out)
def uM:Option waA:=loop (fun(zz:waA×Int)=>xh R86 t13 t14 zz.1 zz.2) (out,t15)
theorem C1(hR86:yg R86){y:(waA×Int)⊕(waA)}(h:xh R86 t13 t14 out t15=some y):aB Pg GE 0 (cA SB 247) (LQ (fun(zz:waA×Int)=>jz t13 t14 zz.1 zz.2) (fun _=>.exit 0) qK y) (jz t13 t14 out t15):=by
 rcases aT h with⟨c4,h⟩|⟨c4,h⟩
 ·obtain⟨x5,bx5,h⟩:=aw h
  obtain⟨r6,br6,h⟩:=aw h
  obtain⟨r7,br7,h⟩:=aw h
  obtain rfl:=lf h
  have z:=sg 0 c4<|sv (aR.ia (k:=.i64) bx5)<|sv (az x5)<|sx eX<|sx (bv x5)<|sv (aX x5 [])<|ba (hR86 _ _ br6)<|ba (i7 br7)<|pg 0 .normal (jz t13 t14 r7 (bA (t15+1))) rfl (cF (aI (up (am dS r7)) (aI (up (am ah t13)) (aI trivial (aI trivial trivial))))) (aI trivial trivial)
  exact cz (A:=Rv) mixed z<|by kernel_rfl
 ·obtain rfl:=lf h
  have z:=sg 0 c4<|eF (.exit 0) (qK out)
  exact gf Rv (by intro hx;cases hx) z<|by kernel_rfl
theorem D7(hR86:yg R86){x:waA}(h:uM R86 t13 t14 out t15=some x):aB Pg GE 0 (.loop (cA SB 247)) (EX (.exit 0) (qK x)) (jz t13 t14 out t15):=
 aB.loop (S:=fun(zz:waA×Int)=>jz t13 t14 zz.1 zz.2) (ex:=(fun _=>.exit 0)) (s:=(out,t15)) h fun zz y hy=>C1 R86 t13 t14 zz.1 zz.2 hR86 hy
end
def sT(R86:s9)(p:aa):Option waA:=
 (uL p).bind fun o3=>
 (uM R86 p.Kids (p.Kids.length:Int) o3 0).bind fun o8=>
 some o8
theorem HM(R86:s9)(hR86:yg R86){p:aa}{r:waA}(h:sT R86 p=some r):CC Pg GE 30 [.agg (ac p)] (sl cS r) [(0,9)]:=by
 obtain⟨o3,bo3,h⟩:=aw h
 obtain⟨o8,bo8,h⟩:=aw h
 obtain rfl:=lf h
 have z:=se (bM p)<|kK 1<|cC (D6 p bo3)<|sv (aF p)<|sv (aH p)<|cD (aR.ln p.Kids)<|cC (D7 R86 p.Kids (p.Kids.length:Int) o3 0 hR86 bo8)<|en (aI (rP (sl cS o8))<|(am dS o8))
 exact b7 Rv call30 func30 (c:=SB) rfl (aI (ah p) trivial) z<|by kernel_rfl
def yo:(aa->Option waA)->(aa)->Option waA:=fun(rec:aa->Option waA) (x:aa)=>sT (fun p=>rec p) x
def mV(p:aa):Option waA:=nw yo p
theorem uN{p:aa}{r:waA}(h:mV p=some r):CC Pg GE 30 [.agg (ac p)] (sl cS r) [(0,9)]:=
 cT (F:=yo) (M:=fun(x:aa) (r:waA)=>CC Pg GE 30 [.agg (ac x)] (sl cS r) [(0,9)]) (fun rec hrec x r h=>HM _ (fun p r h=>hrec p r h) h) h
noncomputable def Td:Code:=f91.body.getD .skip
def SV:List Nat:=[17]
section
variable(t6:waB)(t7:Int)(out:waA)(t8:Int)
def iJ:av:=aN 18 [(3,sl cS out),(6,sl ac t6),(7,.int .i64 t7),(8,.int .i64 t8)] [] [((3,0),9)]
def oW(o:waA):av:=aN 18 [(3,sl cS o)] [] [((3,0),9)]
def u5:Option ((waA×Int)⊕(waA)):=
 if(decide (t8<t7))=true then
  (dv t6 t8).bind fun x2=>
  (mV x2).bind fun r3=>
  (d9 out r3).bind fun r4=>
  some (.inl (r4,bA (t8+1)))
 else
  some (.inr out)
def s8:Option waA:=loop (fun(zz:waA×Int)=>u5 t6 t7 zz.1 zz.2) (out,t8)
theorem Bn{y:(waA×Int)⊕(waA)}(h:u5 t6 t7 out t8=some y):aB Pg GE 0 (cA Td 119) (LQ (fun(zz:waA×Int)=>iJ t6 t7 zz.1 zz.2) (fun _=>.exit 0) oW y) (iJ t6 t7 out t8):=by
 rcases aT h with⟨c1,h⟩|⟨c1,h⟩
 ·obtain⟨x2,bx2,h⟩:=aw h
  obtain⟨r3,br3,h⟩:=aw h
  obtain⟨r4,br4,h⟩:=aw h
  obtain rfl:=lf h
  have z:=sg 0 c1<|sv (aR.ia (k:=.i64) bx2)<|sv (az x2)<|sx eX<|sx (bv x2)<|sv (aX x2 [])<|ba (uN br3)<|ba (i7 br4)<|pg 0 .normal (iJ t6 t7 r4 (bA (t8+1))) rfl (cF (aI (up (am dS r4)) (aI (up (am ah t6)) (aI trivial (aI trivial trivial))))) trivial
  exact cz (A:=SV) mixed z<|by kernel_rfl
 ·obtain rfl:=lf h
  have z:=sg 0 c1<|eF (.exit 0) (oW out)
  exact gf SV (by intro hx;cases hx) z<|by kernel_rfl
theorem Da{x:waA}(h:s8 t6 t7 out t8=some x):aB Pg GE 0 (.loop (cA Td 119)) (EX (.exit 0) (oW x)) (iJ t6 t7 out t8):=
 aB.loop (S:=fun(zz:waA×Int)=>iJ t6 t7 zz.1 zz.2) (ex:=(fun _=>.exit 0)) (s:=(out,t8)) h fun zz y hy=>Bn t6 t7 zz.1 zz.2 hy
end
def wo(a:waB):Option waA:=
 (s8 a (a.length:Int) ([]:List ag) 0).bind fun o5=>
 some o5
theorem HS{a:waB}{r:waA}(h:wo a=some r):CC Pg GE 91 [sl ac a] (sl cS r) [(0,9)]:=by
 obtain⟨o5,bo5,h⟩:=aw h
 obtain rfl:=lf h
 have z:=cD (aR.ln a)<|cC (Da a (a.length:Int) ([]:List ag) 0 bo5)<|en (aI (rP (sl cS o5))<|(am dS o5))
 exact b7 SV call91 func91 (c:=Td) rfl (aI (am ah a) trivial) z<|by kernel_rfl
abbrev tb:=(ae->Option waA)
abbrev yi(R:tb):Prop:=∀(t:ae) (r:waA),R t=some r->CC Pg GE 38 [.agg (af t)] (sl cS r) [(0,9)]
noncomputable def Tb:Code:=f79.body.getD .skip
def Sv:List Nat:=[18,23]
section
variable(names:waA)(t8:waA)(t9:Int)(out:waA)(t10:Int)
def eL:av:=aN 24 [(1,sl cS names),(5,sl cS out),(8,sl cS t8),(9,.int .i64 t9),(10,.int .i64 t10)] [] [((5,0),9)]
def mi(o:waA):av:=aN 24 [(5,sl cS o)] [] [((5,0),9)]
def rv:Option ((waA×Int)⊕(waA)):=
 if(decide (t10<t9))=true then
  (dv t8 t10).bind fun x2=>
  (fp names x2).bind fun r3=>
  if(decide (r3<0))=true then
   (app out ([x2]:List ag)).bind fun l6=>
   some (.inl (l6,bA (t10+1)))
  else
   some (.inl (out,bA (t10+1)))
 else
  some (.inr out)
def oX:Option waA:=loop (fun(zz:waA×Int)=>rv names t8 t9 zz.1 zz.2) (out,t10)
theorem yA{y:(waA×Int)⊕(waA)}(h:rv names t8 t9 out t10=some y):aB Pg GE 0 (cA Tb 119) (LQ (fun(zz:waA×Int)=>eL names t8 t9 zz.1 zz.2) (fun _=>.exit 0) mi y) (eL names t8 t9 out t10):=by
 rcases aT h with⟨c1,h⟩|⟨c1,h⟩
 ·obtain⟨x2,bx2,h⟩:=aw h
  obtain⟨r3,br3,h⟩:=aw h
  have p5:=fun{sc F} (r:PS sc F)=>sg 0 c1<|sv (aW.ia (k:=.i64) bx2)<|sv (cP xe (.str x2) [])<|ba (kw br3)<|r
  rcases aT h with⟨c4,h⟩|⟨c4,h⟩
  ·obtain⟨l6,bl6,h⟩:=aw h
   obtain rfl:=lf h
   exact rY Sv (p5<|sg 0 c4<|sv (aW.mk' (v:=PVal.str) CE ([x2]:List ag) 1 (by kernel_rfl))<|sv (aW.ap bl6)<|eF .normal (eL names t8 t9 l6 (bA (t10+1))))<|by kernel_rfl
  ·obtain rfl:=lf h
   exact rY Sv (p5<|sg 0 c4<|eF .normal (eL names t8 t9 out (bA (t10+1))))<|by kernel_rfl
 ·obtain rfl:=lf h
  have z:=sg 0 c1<|eF (.exit 0) (mi out)
  exact gf Sv (by intro hx;cases hx) z<|by kernel_rfl
theorem zB{x:waA}(h:oX names t8 t9 out t10=some x):aB Pg GE 0 (.loop (cA Tb 119)) (EX (.exit 0) (mi x)) (eL names t8 t9 out t10):=
 aB.loop (S:=fun(zz:waA×Int)=>eL names t8 t9 zz.1 zz.2) (ex:=(fun _=>.exit 0)) (s:=(out,t10)) h fun zz y hy=>yA names t8 t9 zz.1 zz.2 hy
end
def iK(a:waA)(names:waA):Option waA:=
 (oX names a (a.length:Int) ([]:List ag) 0).bind fun o7=>
 some o7
theorem u6{a:waA}{names:waA}{r:waA}(h:iK a names=some r):CC Pg GE 79 [sl cS a,sl cS names] (sl cS r) [(0,9)]:=by
 obtain⟨o7,bo7,h⟩:=aw h
 obtain rfl:=lf h
 have z:=cD (aW.ln a)<|cC (zB names a (a.length:Int) ([]:List ag) 0 bo7)<|en (aI (rP (sl cS o7))<|(am dS o7))
 exact b7 Sv call79 func79 (c:=Tb) rfl (aI (am dS a) (aI (am dS names) trivial)) z<|by kernel_rfl
noncomputable def Rg:Code:=f38.body.getD .skip
def Qs:List Nat:=[32,53]
section
variable(t:ae)(t14:waB)(t15:Int)(out:waA)(t16:Int)
def jE:av:=aN 54 [(1,.eptr (af t)),(3,sl cS out),(14,sl ac t14),(15,.int .i64 t15),(16,.int .i64 t16)] [.dead] [((14,0),28),((3,0),9)]
def qM(o:waA):av:=aN 54 [(1,.eptr (af t)),(3,sl cS o)] [.dead] [((3,0),9)]
def xi:Option ((waA×Int)⊕(waA)):=
 if(decide (t16<t15))=true then
  (dv t14 t16).bind fun x3=>
  (mV x3).bind fun r4=>
  (iK r4 ([([118]:ag)]:List ag)).bind fun r5=>
  (d9 out r5).bind fun r6=>
  some (.inl (r6,bA (t16+1)))
 else
  some (.inr out)
def uT:Option waA:=loop (fun(zz:waA×Int)=>xi t14 t15 zz.1 zz.2) (out,t16)
theorem C4{y:(waA×Int)⊕(waA)}(h:xi t14 t15 out t16=some y):aB Pg GE 0 (cA Rg 119) (LQ (fun(zz:waA×Int)=>jE t t14 t15 zz.1 zz.2) (fun _=>.exit 0) (qM t) y) (jE t t14 t15 out t16):=by
 rcases aT h with⟨c2,h⟩|⟨c2,h⟩
 ·obtain⟨x3,bx3,h⟩:=aw h
  obtain⟨r4,br4,h⟩:=aw h
  obtain⟨r5,br5,h⟩:=aw h
  obtain⟨r6,br6,h⟩:=aw h
  obtain rfl:=lf h
  have z:=sg 0 c2<|sv (aR.ia (k:=.i64) bx3)<|sv (az x3)<|sx eX<|sx (bv x3)<|sv (aX x3 [])<|ba (uN br4)<|sv (aW.mk' (v:=PVal.str) CE ([([118]:ag)]:List ag) 1 (by kernel_rfl))<|ba (u6 br5)<|ba (i7 br6)<|pg 0 .normal (jE t t14 t15 r6 (bA (t16+1))) rfl (cF (aI (lq (al t)) (aI (up (am dS r6)) (aI (up (am ah t14)) (aI trivial (aI trivial trivial)))))) (aI trivial trivial)
  exact cz (A:=Qs) mixed z<|by kernel_rfl
 ·obtain rfl:=lf h
  have z:=sg 0 c2<|eF (.exit 0) (qM t out)
  exact gf Qs (by intro hx;cases hx) z<|by kernel_rfl
theorem Ec{x:waA}(h:uT t14 t15 out t16=some x):aB Pg GE 0 (.loop (cA Rg 119)) (EX (.exit 0) (qM t x)) (jE t t14 t15 out t16):=
 aB.loop (S:=fun(zz:waA×Int)=>jE t t14 t15 zz.1 zz.2) (ex:=(fun _=>.exit 0)) (s:=(out,t16)) h fun zz y hy=>C4 t t14 t15 zz.1 zz.2 hy
end
section
variable(t:ae)(out:waA)(bound:waA)(t28:waC)(t29:Int)(t30:Int)(m:Int)(m2:ag)(m3:waC)(m4:waA)(m5:Int)(m6:ag)(m7:Int)(m8:waB)(m9:waB)
def Gj:av:=aN 54 [(1,.eptr (af t)),(3,sl cS out),(7,.bptr 1 0),(8,sl cS bound),(28,sl af t28),(29,.int .i64 t29),(30,.int .i64 t30)] [.dead,.cells [.int .i64 m,.str m2,sl af m3,sl cS m4,.int .i64 m5,.str m6,.int .i64 m7,sl ac m8,sl ac m9] []] [((3,0),9)]
def qL(o:waA):av:=aN 54 [(1,.eptr (af t)),(3,sl cS out),(7,.bptr 1 0),(8,sl cS o),(28,sl af t28),(29,.int .i64 t29),(30,.int .i64 t30)] [.dead,.cells [.int .i64 m,.str m2,sl af m3,sl cS m4,.int .i64 m5,.str m6,.int .i64 m7,sl ac m8,sl ac m9] []] [((3,0),9)]
def mW:Option waA:=
 if(t.Op !=6)=true then
  some ([]:List ag)
 else
  some bound
theorem Eb{x:waA}(h:mW t bound=some x):aB Pg GE 0 (cA Rg 31726) (EX .normal (qL t out t28 t29 t30 m m2 m3 m4 m5 m6 m7 m8 m9 x)) (Gj t out bound t28 t29 t30 m m2 m3 m4 m5 m6 m7 m8 m9):=by
 have p12:=fun{sc F} (r:PS sc F)=>sv (aG t)<|sv (aJ t)<|r
 rcases aT h with⟨c11,h⟩|⟨c11,h⟩
 ·obtain rfl:=lf h
  exact co Qs (p12<|sg 0 c11<|eF .normal (qL t out t28 t29 t30 m m2 m3 m4 m5 m6 m7 m8 m9 ([]:List ag)))<|by kernel_rfl
 ·obtain rfl:=lf h
  exact co Qs (p12<|sg 0 c11<|eF .normal (qL t out t28 t29 t30 m m2 m3 m4 m5 m6 m7 m8 m9 bound))<|by kernel_rfl
end
section
variable(R89:tb)(t:ae)(t28:waC)(t29:Int)(out:waA)(t30:Int)
def jF:av:=aN 54 [(1,.eptr (af t)),(3,sl cS out),(28,sl af t28),(29,.int .i64 t29),(30,.int .i64 t30)] [.dead] [((3,0),9)]
def qN(o:waA):av:=aN 54 [(3,sl cS o)] [.dead] [((3,0),9)]
def xj:Option ((waA×Int)⊕(waA)):=
 if(decide (t30<t29))=true then
  (dv t28 t30).bind fun x9=>
  (IK t.Names none (some (if(t.Names.length:Int)<t30 then(t.Names.length:Int)else t30))).bind fun l10=>
  (mW t l10).bind fun o13=>
  (R89 x9).bind fun r14=>
  (iK r14 o13).bind fun r15=>
  (d9 out r15).bind fun r16=>
  some (.inl (r16,bA (t30+1)))
 else
  some (.inr out)
def uU:Option waA:=loop (fun(zz:waA×Int)=>xj R89 t t28 t29 zz.1 zz.2) (out,t30)
theorem C5(hR89:yi R89){y:(waA×Int)⊕(waA)}(h:xj R89 t t28 t29 out t30=some y):aB Pg GE 0 (cA Rg 247) (LQ (fun(zz:waA×Int)=>jF t t28 t29 zz.1 zz.2) (fun _=>.exit 2) qN y) (jF t t28 t29 out t30):=by
 rcases aT h with⟨c8,h⟩|⟨c8,h⟩
 ·obtain⟨x9,bx9,h⟩:=aw h
  obtain⟨l10,bl10,h⟩:=aw h
  obtain⟨o13,bo13,h⟩:=aw h
  obtain⟨r14,br14,h⟩:=aw h
  obtain⟨r15,br15,h⟩:=aw h
  obtain⟨r16,br16,h⟩:=aw h
  obtain rfl:=lf h
  have z:=sg 0 c8<|sv (d5.ia (k:=.i64) bx9)<|sv (bh x9)<|sx jh<|sx (db x9)<|sv (aC t)<|sv (aD t)<|sv (aC t)<|sv (aD t)<|cD (aW.ln t.Names)<|sv (aW.sc bl10)<|kK 0<|cC (Eb t out l10 t28 t29 t30 x9.Op x9.Name x9.Args x9.Names x9.Pred.Op x9.Pred.Name x9.Pred.N x9.Pred.Kids x9.Preds bo13)<|sv (bz x9 [])<|ba (hR89 _ _ br14)<|ba (u6 br15)<|ba (i7 br16)<|pg 0 .normal (jF t t28 t29 r16 (bA (t30+1))) rfl (cF (aI (lq (al t)) (aI (up (am dS r16)) (aI (up (am al t28)) (aI trivial (aI trivial trivial)))))) (aI trivial trivial)
  exact cz (A:=Qs) mixed z<|by kernel_rfl
 ·obtain rfl:=lf h
  have z:=sg 0 c8<|eF (.exit 2) (qN out)
  exact gf Qs (by intro hx;cases hx) z<|by kernel_rfl
theorem Ed(hR89:yi R89){x:waA}(h:uU R89 t t28 t29 out t30=some x):aB Pg GE 0 (.loop (cA Rg 247)) (EX (.exit 2) (qN x)) (jF t t28 t29 out t30):=
 aB.loop (S:=fun(zz:waA×Int)=>jF t t28 t29 zz.1 zz.2) (ex:=(fun _=>.exit 2)) (s:=(out,t30)) h fun zz y hy=>C5 R89 t t28 t29 zz.1 zz.2 hR89 hy
end
def sX(R89:tb)(t:ae):Option waA:=
 (app ([t.Pred]:List aa) t.Preds).bind fun l1=>
 (uT l1 (l1.length:Int) ([]:List ag) 0).bind fun o7=>
 (uU R89 t t.Args (t.Args.length:Int) o7 0).bind fun o17=>
 some o17
theorem HO(R89:tb)(hR89:yi R89){t:ae}{r:waA}(h:sX R89 t=some r):CC Pg GE 38 [.agg (af t)] (sl cS r) [(0,9)]:=by
 obtain⟨l1,bl1,h⟩:=aw h
 obtain⟨o7,bo7,h⟩:=aw h
 obtain⟨o17,bo17,h⟩:=aw h
 obtain rfl:=lf h
 have z:=se (bQ t)<|sv (bU t)<|sv (bX t)<|sv (aR.mk' (v:=ce) aY ([t.Pred]:List aa) 1 (by kernel_rfl))<|sv (bN t)<|sv (bO t)<|sv (aR.ap bl1)<|cD (aR.ln l1)<|cC (Ec t l1 (l1.length:Int) ([]:List ag) 0 bo7)<|sv (aK t)<|sv (aL t)<|cD (d5.ln t.Args)<|cC (Ed R89 t t.Args (t.Args.length:Int) o7 0 hR89 bo17)<|en (aI (rP (sl cS o17))<|(am dS o17))
 exact b7 Qs call38 func38 (c:=Rg) rfl (aI (al t) trivial) z<|by kernel_rfl
def yt:(ae->Option waA)->(ae)->Option waA:=fun(rec:ae->Option waA) (x:ae)=>sX (fun t=>rec t) x
def Ea(t:ae):Option waA:=nw yt t
theorem I5{t:ae}{r:waA}(h:Ea t=some r):CC Pg GE 38 [.agg (af t)] (sl cS r) [(0,9)]:=
 cT (F:=yt) (M:=fun(x:ae) (r:waA)=>CC Pg GE 38 [.agg (af x)] (sl cS r) [(0,9)]) (fun rec hrec x r h=>HO _ (fun t r h=>hrec t r h) h) h
noncomputable def SE:Code:=f92.body.getD .skip
def Re:List Nat:=[14,28,34]
section
variable(name:ag)(c:aj)(i:Int)(s:ag)(t10:waA)(t11:Int)(m:waB)(m2:waA)(m3:waB)
def Gl:av:=aN 45 [(1,.str name),(2,.eptr (au c)),(4,.bptr 1 0),(5,.bptr 2 0),(6,.int .i64 i),(7,.str s),(10,sl cS t10),(11,.int .i64 t11),(12,.int .i64 i)] [.dead,.cells [sl cS ([]:List ag),sl ac m] [(0,9),(1,28)],.cells [sl cS m2,sl ac m3] [(0,9),(1,28)]] []
def qR(o:Bool):av:=aN 45 [(1,.str name),(2,.eptr (au c)),(4,.bptr 1 0),(5,.bptr 2 0),(6,.int .i64 i),(7,.str s),(10,sl cS t10),(11,.int .i64 t11),(12,.int .i64 i),(26,.bool o)] [.dead,.cells [sl cS ([]:List ag),sl ac m] [(0,9),(1,28)],.cells [sl cS m2,sl ac m3] [(0,9),(1,28)]] []
def u3:Option Bool:=
 if(decide (i<(c.By.length:Int)))=true then
  some (!(s==name))
 else
  some false
theorem Eg{x:Bool}(h:u3 name c i s=some x):aB Pg GE 0 (cA SE 7670) (EX .normal (qR name c i s t10 t11 m m2 m3 x)) (Gl name c i s t10 t11 m m2 m3):=by
 have p4:=fun{sc F} (r:PS sc F)=>sv (cK c)<|sv (cM c)<|cD (aR.ln c.By)<|r
 rcases aT h with⟨c3,h⟩|⟨c3,h⟩
 ·obtain rfl:=lf h
  exact co Re (p4<|sg 6 c3<|eF .normal (qR name c i s t10 t11 m m2 m3 (!(s==name))))<|by kernel_rfl
 ·obtain rfl:=lf h
  exact co Re (p4<|sg 6 c3<|eF .normal (qR name c i s t10 t11 m m2 m3 false))<|by kernel_rfl
end
section
variable(name:ag)(c:aj)(t10:waA)(t11:Int)(m:waB)(t12:Int)(m2:waA)(m3:waB)
def ik:av:=aN 45 [(1,.str name),(2,.eptr (au c)),(4,.bptr 1 0),(5,.bptr 2 0),(10,sl cS t10),(11,.int .i64 t11),(12,.int .i64 t12)] [.dead,.cells [sl cS ([]:List ag),sl ac m] [(0,9),(1,28)],.cells [sl cS m2,sl ac m3] [(0,9),(1,28)]] []
def qS(o:waA×waB):av:=aN 45 [(4,.bptr 1 0),(5,.bptr 2 0)] [.dead,.cells [sl cS ([]:List ag),sl ac m] [(0,9),(1,28)],.cells [sl cS o.1,sl ac o.2] [(0,9),(1,28)]] []
def fI:Option ((Int×waA×waB)⊕((waA×waB))):=
 if(decide (t12<t11))=true then
  (dv t10 t12).bind fun x2=>
  (u3 name c t12 x2).bind fun o5=>
  if o5=true then
   (app m2 ([x2]:List ag)).bind fun l8=>
   (dv c.By t12).bind fun x9=>
   (app m3 ([x9]:List aa)).bind fun l10=>
   some (.inl (bA (t12+1),l8,l10))
  else
   some (.inl (bA (t12+1),m2,m3))
 else
  some (.inr (m2,m3))
def u4:Option ((waA×waB)):=loop (fun(zz:Int×waA×waB)=>fI name c t10 t11 zz.1 zz.2.1 zz.2.2) (t12,m2,m3)
theorem C9{y:(Int×waA×waB)⊕((waA×waB))}(h:fI name c t10 t11 t12 m2 m3=some y):aB Pg GE 0 (cA SE 119) (LQ (fun(zz:Int×waA×waB)=>ik name c t10 t11 m zz.1 zz.2.1 zz.2.2) (fun _=>.exit 0) (qS m) y) (ik name c t10 t11 m t12 m2 m3):=by
 rcases aT h with⟨c1,h⟩|⟨c1,h⟩
 ·obtain⟨x2,bx2,h⟩:=aw h
  obtain⟨o5,bo5,h⟩:=aw h
  have p7:=fun{sc F} (r:PS sc F)=>sg 0 c1<|sv (aW.ia (k:=.i64) bx2)<|sv (cP xe (.str x2) [])<|kK 0<|cC (Eg name c t12 x2 t10 t11 m m2 m3 bo5)<|r
  rcases aT h with⟨c6,h⟩|⟨c6,h⟩
  ·obtain⟨l8,bl8,h⟩:=aw h
   obtain⟨x9,bx9,h⟩:=aw h
   obtain⟨l10,bl10,h⟩:=aw h
   obtain rfl:=lf h
   exact rY Re (p7<|sg 0 c6<|sv (aW.mk' (v:=PVal.str) CE ([x2]:List ag) 1 (by kernel_rfl))<|sv (aW.ap bl8)<|rp [0,1,0,4,0,28,60,124,255,511,1023]<|sv (cK c)<|sv (cM c)<|sv (aR.ia (k:=.i64) bx9)<|sv (az x9)<|sv (aR.mk' (v:=ce) aY ([x9]:List aa) 1 (by kernel_rfl))<|sv (aR.ap bl10)<|M0 (rfl:bR (sl ac l10)=some [sl ac l10])<|eF .normal (ik name c t10 t11 m (bA (t12+1)) l8 l10))<|by kernel_rfl
  ·obtain rfl:=lf h
   exact rY Re (p7<|sg 0 c6<|eF .normal (ik name c t10 t11 m (bA (t12+1)) m2 m3))<|by kernel_rfl
 ·obtain rfl:=lf h
  have z:=sg 0 c1<|eF (.exit 0) (qS m (m2,m3))
  exact gf Re (by intro hx;cases hx) z<|by kernel_rfl
theorem Eh{x:(waA×waB)}(h:u4 name c t10 t11 t12 m2 m3=some x):aB Pg GE 0 (.loop (cA SE 119)) (EX (.exit 0) (qS m x)) (ik name c t10 t11 m t12 m2 m3):=
 aB.loop (S:=fun(zz:Int×waA×waB)=>ik name c t10 t11 m zz.1 zz.2.1 zz.2.2) (ex:=(fun _=>.exit 0)) (s:=(t12,m2,m3)) h fun zz y hy=>C9 name c t10 t11 m zz.1 zz.2.1 zz.2.2 hy
end
def zA(c:aj)(name:ag):Option aj:=
 (u4 name c c.Names (c.Names.length:Int) 0 ([]:List ag) ([]:List aa)).bind fun o11=>
 some (⟨o11.1,o11.2⟩:aj)
theorem I6{c:aj}{name:ag}{r:aj}(h:zA c name=some r):CC Pg GE 92 [.agg (au c),.str name] (.agg (au r)) [(0,9),(1,28)]:=by
 obtain⟨o11,bo11,h⟩:=aw h
 obtain rfl:=lf h
 have z:=se (eU c)<|sx QX<|sb (gI) (gH)<|sx QX<|sy (cb (⟨([]:List ag),([]:List aa)⟩:aj))<|sv (lT c)<|sv (lU c)<|cD (aW.ln c.Names)<|cC (Eh name c c.Names (c.Names.length:Int) ([]:List aa) 0 ([]:List ag) ([]:List aa) bo11)<|sz (cG (⟨o11.1,o11.2⟩:aj) [])<|sy (cb (⟨o11.1,o11.2⟩:aj))<|en (aI (oA (⟨o11.1,o11.2⟩:aj))<|aI (cO (⟨o11.1,o11.2⟩:aj))<|rT)
 exact b7 Re call92 func92 (c:=SE) rfl (aI (cO c) (aI trivial trivial)) z<|by kernel_rfl
noncomputable def SF:Code:=f93.body.getD .skip
def Rx:List Nat:=[]
section
variable(name:ag)(t8:waB)(t9:Int)(t10:Int)
def iH:av:=aN 20 [(1,.str name),(8,sl ac t8),(9,.int .i64 t9),(10,.int .i64 t10)] [.dead] []
def iI(o:Unit⊕(Unit)):Exit:=match o with
 |(.inl _)=>.ret
 |(.inr _)=>.exit 0
def fX(o:Unit⊕(Unit)):av:=match o with
 |(.inl o)=>aN 20 [(4,.bool true)] [.dead] []
 |(.inr o)=>aN 20 [] [.dead] []
def oV:Option (Int⊕(Unit⊕(Unit))):=
 if(decide (t10<t9))=true then
  (dv t8 t10).bind fun x2=>
  (mV x2).bind fun r3=>
  (fp r3 name).bind fun r4=>
  if(decide (r4>=0))=true then
   some (.inr (.inl ()))
  else
   some (.inl (bA (t10+1)))
 else
  some (.inr (.inr ()))
def sZ:Option (Unit⊕(Unit)):=loop (fun(zz:Int)=>oV name t8 t9 zz) t10
theorem Bm{y:Int⊕(Unit⊕(Unit))}(h:oV name t8 t9 t10=some y):aB Pg GE 0 (cA SF 55) (LQ (fun(zz:Int)=>iH name t8 t9 zz) iI fX y) (iH name t8 t9 t10):=by
 rcases aT h with⟨c1,h⟩|⟨c1,h⟩
 ·obtain⟨x2,bx2,h⟩:=aw h
  obtain⟨r3,br3,h⟩:=aw h
  obtain⟨r4,br4,h⟩:=aw h
  have p6:=fun{sc F} (r:PS sc F)=>sg 0 c1<|sv (aR.ia (k:=.i64) bx2)<|sv (az x2)<|sx eX<|sx (bv x2)<|sv (aX x2 [])<|ba (uN br3)<|ba (kw br4)<|r
  rcases aT h with⟨c5,h⟩|⟨c5,h⟩
  ·obtain rfl:=lf h
   have z:=p6<|sg 0 c5<|pg 0 (iI (.inl ())) (fX (.inl ())) rfl (cF (aI trivial trivial)) (aI trivial trivial)
   exact tE (A:=Rx) mixed (by intro hx;cases hx) z<|by kernel_rfl
  ·obtain rfl:=lf h
   have z:=p6<|sg 0 c5<|pg 0 .normal (iH name t8 t9 (bA (t10+1))) rfl (cF (aI trivial (aI (up (am ah t8)) (aI trivial (aI trivial trivial))))) (aI trivial trivial)
   exact cz (A:=Rx) mixed z<|by kernel_rfl
 ·obtain rfl:=lf h
  have z:=sg 0 c1<|eF (iI (.inr ())) (fX (.inr ()))
  exact gf Rx (by intro hx;cases hx) z<|by kernel_rfl
theorem tU{x:Unit⊕(Unit)}(h:sZ name t8 t9 t10=some x):aB Pg GE 0 (.loop (cA SF 55)) (EX (iI x) (fX x)) (iH name t8 t9 t10):=
 aB.loop (S:=fun(zz:Int)=>iH name t8 t9 zz) (ex:=iI) (s:=t10) h fun zz y hy=>Bm name t8 t9 zz hy
end
def wn(c:aj)(name:ag):Option Bool:=
 (sZ name c.By (c.By.length:Int) 0).bind fun o7=>match o7 with
 |(.inl o7)=>
  some true
 |(.inr o7)=>
  some false
theorem HR{c:aj}{name:ag}{r:Bool}(h:wn c name=some r):CC Pg GE 93 [.agg (au c),.str name] (.bool r) []:=by
 obtain⟨o7,bo7,h⟩:=aw h
 rcases o7 with o7|o7
 ·obtain rfl:=lf h
  have z:=se (eU c)<|sv (cK c)<|sv (cM c)<|cD (aR.ln c.By)<|cC (e:=.ret) (s1:=fX (.inl o7)) (tU name c.By (c.By.length:Int) 0 bo7)<|en (aI (rP (.bool true))<|trivial)
  exact b7 Rx call93 func93 (c:=SF) rfl (aI (cO c) (aI trivial trivial)) z<|by kernel_rfl
 ·obtain rfl:=lf h
  have z:=se (eU c)<|sv (cK c)<|sv (cM c)<|cD (aR.ln c.By)<|cC (e:=.exit 0) (s1:=fX (.inr o7)) (tU name c.By (c.By.length:Int) 0 bo7)<|en (aI (rP (.bool false))<|trivial)
  exact b7 Rx call93 func93 (c:=SF) rfl (aI (cO c) (aI trivial trivial)) z<|by kernel_rfl
noncomputable def L8:Code:=f120.body.getD .skip
def Ki:List Nat:=[8,30]
section
variable(n:Int)(s:ag)(m:Int)(d:Int)
def Gb:av:=aN 31 [(0,.int .i64 n),(3,.str s),(4,.int .i64 m),(5,.int .i64 d)] [] []
def qG(o:Int):av:=aN 31 [(0,.int .i64 n),(3,.str s),(4,.int .i64 m),(5,.int .i64 o)] [] []
def pS:Option Int:=
 if(decide (d<0))=true then
  some (IntKind.i64.wrap (0 - d))
 else
  some d
theorem D1{x:Int}(h:pS d=some x):aB Pg GE 0 (cA L8 7926) (EX .normal (qG n s m x)) (Gb n s m d):=by
 rcases aT h with⟨c4,h⟩|⟨c4,h⟩
 ·obtain rfl:=lf h
  exact co Ki (sg 0 c4<|eF .normal (qG n s m (IntKind.i64.wrap (0 - d))))<|by kernel_rfl
 ·obtain rfl:=lf h
  exact co Ki (sg 0 c4<|eF .normal (qG n s m d))<|by kernel_rfl
end
section
variable(n:Int)(s:ag)(m:Int)
def jr:av:=aN 31 [(0,.int .i64 n),(3,.str s),(4,.int .i64 m)] [] []
def qH(o:ag):av:=aN 31 [(0,.int .i64 n),(3,.str o)] [] []
def jt:Option ((ag×Int)⊕(ag)):=
 if(m !=0)=true then
  (re m 10).bind fun q3=>
  (pS q3).bind fun o5=>
  (pe ([IntKind.u8.wrap (bA (48+o5))]:List Int)).bind fun s6=>
  (QL s6 s).bind fun s7=>
  (qu .i64 m 10).bind fun q8=>
  some (.inl (s7,q8))
 else
  some (.inr s)
def kv:Option ag:=loop (fun(zz:ag×Int)=>jt zz.1 zz.2) (s,m)
theorem CV{y:(ag×Int)⊕(ag)}(h:jt s m=some y):aB Pg GE 0 (cA L8 247) (LQ (fun(zz:ag×Int)=>jr n zz.1 zz.2) (fun _=>.exit 0) (qH n) y) (jr n s m):=by
 rcases aT h with⟨c2,h⟩|⟨c2,h⟩
 ·obtain⟨q3,bq3,h⟩:=aw h
  obtain⟨o5,bo5,h⟩:=aw h
  obtain⟨s6,bs6,h⟩:=aw h
  obtain⟨s7,bs7,h⟩:=aw h
  obtain⟨q8,bq8,h⟩:=aw h
  obtain rfl:=lf h
  exact rY Ki (sg 0 c2<|sv (R0 (P:=Pg) (t:=3) (k:=.i64) bq3)<|kK 0<|cC (D1 n s m q3 bo5)<|sv (UX underlying3 underlying5 (bA (48+o5)))<|sv (Sp.mk' (v:=(PVal.int .u8)) (Vc .u8) ([IntKind.u8.wrap (bA (48+o5))]:List Int) 1 (by kernel_rfl))<|sv (UW underlying122 underlying9 underlying5 bs6)<|sv (IM (P:=Pg) (t:=9) bs7)<|sv (RZ (P:=Pg) (t:=3) bq8)<|eF .normal (jr n s7 q8))<|by kernel_rfl
 ·obtain rfl:=lf h
  have z:=sg 0 c2<|eF (.exit 0) (qH n s)
  exact gf Ki (by intro hx;cases hx) z<|by kernel_rfl
theorem D2{x:ag}(h:kv s m=some x):aB Pg GE 0 (.loop (cA L8 247)) (EX (.exit 0) (qH n x)) (jr n s m):=
 aB.loop (S:=fun(zz:ag×Int)=>jr n zz.1 zz.2) (ex:=(fun _=>.exit 0)) (s:=(s,m)) h fun zz y hy=>CV n zz.1 zz.2 hy
end
def zp(n:Int):Option ag:=
 if(n==0)=true then
  some ([48]:ag)
 else
  (kv ([]:ag) n).bind fun o9=>
  if(decide (n<0))=true then
   (QL ([45]:ag) o9).bind fun s12=>
   some s12
  else
   some o9
theorem I1{n:Int}{r:ag}(h:zp n=some r):CC Pg GE 120 [.int .i64 n] (.str r) []:=by
 rcases aT h with⟨c1,h⟩|⟨c1,h⟩
 ·obtain rfl:=lf h
  have z:=sg 0 c1<|en (aI (rP (.str ([48]:ag)))<|trivial)
  exact b7 Ki call120 func120 (c:=L8) rfl (aI trivial trivial) z<|by kernel_rfl
 ·obtain⟨o9,bo9,h⟩:=aw h
  have p11:=fun{sc F} (r:PS sc F)=>sg 0 c1<|cC (D2 n ([]:ag) n bo9)<|r
  rcases aT h with⟨c10,h⟩|⟨c10,h⟩
  ·obtain⟨s12,bs12,h⟩:=aw h
   obtain rfl:=lf h
   have z:=p11<|sg 0 c10<|sv (IM (P:=Pg) (t:=9) bs12)<|en (aI (rP (.str s12))<|trivial)
   exact b7 Ki call120 func120 (c:=L8) rfl (aI trivial trivial) z<|by kernel_rfl
  ·obtain rfl:=lf h
   have z:=p11<|sg 0 c10<|en (aI (rP (.str o9))<|trivial)
   exact b7 Ki call120 func120 (c:=L8) rfl (aI trivial trivial) z<|by kernel_rfl
noncomputable def Te:Code:=f94.body.getD .skip
def SW:List Nat:=[7,18]
section
variable(used:waA)(base:ag)(s:ag)(n:Int)
def iC:av:=aN 19 [(0,sl cS used),(1,.str base),(5,.str s),(6,.int .i64 n)] [] []
def oL(o:ag):av:=aN 19 [(5,.str o)] [] []
def ck:Option ((ag×Int)⊕(ag)):=
 (fp used s).bind fun r1=>
 if(decide (r1>=0))=true then
  (zp n).bind fun r3=>
  (QL base r3).bind fun s4=>
  some (.inl (s4,bA (n+1)))
 else
  some (.inr s)
def gq:Option ag:=loop (fun(zz:ag×Int)=>ck used base zz.1 zz.2) (s,n)
theorem Bg{y:(ag×Int)⊕(ag)}(h:ck used base s n=some y):aB Pg GE 0 (cA Te 119) (LQ (fun(zz:ag×Int)=>iC used base zz.1 zz.2) (fun _=>.exit 0) oL y) (iC used base s n):=by
 obtain⟨r1,br1,h⟩:=aw h
 rcases aT h with⟨c2,h⟩|⟨c2,h⟩
 ·obtain⟨r3,br3,h⟩:=aw h
  obtain⟨s4,bs4,h⟩:=aw h
  obtain rfl:=lf h
  exact rY SW (ba (kw br1)<|sg 0 c2<|ba (I1 br3)<|sv (IM (P:=Pg) (t:=9) bs4)<|eF .normal (iC used base s4 (bA (n+1))))<|by kernel_rfl
 ·obtain rfl:=lf h
  have z:=ba (kw br1)<|sg 0 c2<|eF (.exit 0) (oL s)
  exact gf SW (by intro hx;cases hx) z<|by kernel_rfl
theorem CX{x:ag}(h:gq used base s n=some x):aB Pg GE 0 (.loop (cA Te 119)) (EX (.exit 0) (oL x)) (iC used base s n):=
 aB.loop (S:=fun(zz:ag×Int)=>iC used base zz.1 zz.2) (ex:=(fun _=>.exit 0)) (s:=(s,n)) h fun zz y hy=>Bg used base zz.1 zz.2 hy
end
def wl(used:waA)(base:ag):Option ag:=
 (gq used base base 1).bind fun o5=>
 some o5
theorem HI{used:waA}{base:ag}{r:ag}(h:wl used base=some r):CC Pg GE 94 [sl cS used,.str base] (.str r) []:=by
 obtain⟨o5,bo5,h⟩:=aw h
 obtain rfl:=lf h
 have z:=cC (CX used base base 1 bo5)<|en (aI (rP (.str o5))<|trivial)
 exact b7 SW call94 func94 (c:=Te) rfl (aI (am dS used) (aI trivial trivial)) z<|by kernel_rfl
section
variable(v:waA)(lo:Int)(n:Nat)(t9:Int)(w0:List ag)(out:waA)(t10:Int)
def fS:av:=aN 33 [(0,sl cS v),(1,.bsl 0 (ir Pg 9 lo) n),(5,sl cS out),(9,.int .i64 t9),(10,.int .i64 t10)] [.cells (lS cS w0) []] [((5,0),9)]
def mb(o:waA):av:=aN 33 [(1,.bsl 0 (ir Pg 9 lo) n),(5,sl cS o)] [.cells (lS cS w0) []] [((5,0),9)]
def rq:Option ((waA×Int)⊕(waA)):=
 if(decide (t10<t9))=true then
  (dv v t10).bind fun x2=>
  (pV out x2).bind fun r3=>
  some (.inl (r3,bA (t10+1)))
 else
  some (.inr out)
def oM:Option waA:=loop (fun(zz:waA×Int)=>rq v t9 zz.1 zz.2) (out,t10)
theorem yk{y:(waA×Int)⊕(waA)}(h:rq v t9 out t10=some y):aB Pg GE 1 (cA OP 119) (LQ (fun(zz:waA×Int)=>fS v lo n t9 w0 zz.1 zz.2) (fun _=>.exit 0) (mb lo n w0) y) (fS v lo n t9 w0 out t10):=by
 rcases aT h with⟨c1,h⟩|⟨c1,h⟩
 ·obtain⟨x2,bx2,h⟩:=aw h
  obtain⟨r3,br3,h⟩:=aw h
  obtain rfl:=lf h
  exact rY OO (sg 0 c1<|sv (aW.ia (k:=.i64) bx2)<|sv (cP xe (.str x2) [])<|ba (sS br3)<|eF .normal (fS v lo n t9 w0 r3 (bA (t10+1))))<|by kernel_rfl
 ·obtain rfl:=lf h
  have z:=sg 0 c1<|eF (.exit 0) (mb lo n w0 out)
  exact gf OO (by intro hx;cases hx) z<|by kernel_rfl
theorem zq{x:waA}(h:oM v t9 out t10=some x):aB Pg GE 1 (.loop (cA OP 119)) (EX (.exit 0) (mb lo n w0 x)) (fS v lo n t9 w0 out t10):=
 aB.loop (S:=fun(zz:waA×Int)=>fS v lo n t9 w0 zz.1 zz.2) (ex:=(fun _=>.exit 0)) (s:=(out,t10)) h fun zz y hy=>yk v lo n t9 w0 zz.1 zz.2 hy
end
section
variable(lo:Int)(n:Nat)(t21:Int)(w0:List ag)(out:waA)(t22:Int)
def fT:av:=aN 33 [(1,.bsl 0 (ir Pg 9 lo) n),(5,sl cS out),(21,.int .i64 t21),(22,.int .i64 t22)] [.cells (lS cS w0) []] [((5,0),9)]
def mc(o:waA):av:=aN 33 [(5,sl cS o)] [.cells (lS cS w0) []] [((5,0),9)]
def eK:Option ((waA×Int)⊕(waA)):=
 if(decide (t22<t21))=true then
  (QP lo n w0 t22).bind fun x6=>
  (pV out x6).bind fun r7=>
  some (.inl (r7,bA (t22+1)))
 else
  some (.inr out)
def kP:Option waA:=loop (fun(zz:waA×Int)=>eK lo n t21 w0 zz.1 zz.2) (out,t22)
theorem yl{y:(waA×Int)⊕(waA)}(h:eK lo n t21 w0 out t22=some y):aB Pg GE 1 (cA OP 247) (LQ (fun(zz:waA×Int)=>fT lo n t21 w0 zz.1 zz.2) (fun _=>.exit 2) (mc w0) y) (fT lo n t21 w0 out t22):=by
 rcases aT h with⟨c5,h⟩|⟨c5,h⟩
 ·obtain⟨x6,bx6,h⟩:=aw h
  obtain⟨r7,br7,h⟩:=aw h
  obtain rfl:=lf h
  exact rY OO (sg 0 c5<|sv (aW.iaM 0 (k:=.i64) bx6)<|sv (aW.ldM (fun r=>cP xe (.str x6) r) bx6)<|ba (sS br7)<|eF .normal (fT lo n t21 w0 r7 (bA (t22+1))))<|by kernel_rfl
 ·obtain rfl:=lf h
  have z:=sg 0 c5<|eF (.exit 2) (mc w0 out)
  exact gf OO (by intro hx;cases hx) z<|by kernel_rfl
theorem zr{x:waA}(h:kP lo n t21 w0 out t22=some x):aB Pg GE 1 (.loop (cA OP 247)) (EX (.exit 2) (mc w0 x)) (fT lo n t21 w0 out t22):=
 aB.loop (S:=fun(zz:waA×Int)=>fT lo n t21 w0 zz.1 zz.2) (ex:=(fun _=>.exit 2)) (s:=(out,t22)) h fun zz y hy=>yl lo n t21 w0 zz.1 zz.2 hy
end
def pU(a:waA)(lo:Int)(n:Nat)(k0:List ag):Option waA:=
 (oM a (a.length:Int) ([]:List ag) 0).bind fun o4=>
 (kP lo n (n:Int) k0 o4 0).bind fun o8=>
 some o8
theorem D3{a:waA}{lo:Int}{n:Nat}{k0:List ag}{r:waA}(h:pU a lo n k0=some r):C Pg GE 33 [sl cS a,.bsl 0 (ir Pg 9 lo) n] [] [.cells (lS cS k0) []] (sl cS r) [(0,9)] [.cells (lS cS k0) []]:=by
 obtain⟨o4,bo4,h⟩:=aw h
 obtain⟨o8,bo8,h⟩:=aw h
 obtain rfl:=lf h
 have z:=cD (aW.ln a)<|cC (zq a lo n (a.length:Int) k0 ([]:List ag) 0 bo4)<|cD (aW.lnR 0 (ir Pg 9 lo) n)<|cC (zr lo n (n:Int) k0 o4 0 bo8)<|en (aI (rP (sl cS o8))<|aI (up (n:=1) (am dS o8))<|aI (rL [.cells (lS cS k0) []])<|(aI (OS 1 dS k0) trivial))
 exact C.evGp (A:=OO) mixed (m:=1) (c:=OP) rfl call33 func33 rfl z<|by kernel_rfl
noncomputable def Rh:Code:=f51.body.getD .skip
def OZ:List Nat:=[31,43,62,66,117,127]
section
variable(t:ae)(t24:waB)(t25:Int)(m:waA)(m2:waB)(m3:waC)(m4:waB)(m5:Int)(m6:ag)(m7:Int)(m8:ag)(m9:Int)(m10:waB)(t26:Int)(m11:waB)
def fU:av:=aN 139 [(2,.eptr (af t)),(3,.bptr 1 0),(4,.bptr 2 0),(5,.bptr 3 0),(24,sl ac t24),(25,.int .i64 t25),(26,.int .i64 t26)] [.dead,.cells [sl cS m,sl ac m2] [],.cells [.int .i64 0,.str ([]:ag),sl af m3,sl cS ([]:List ag),.int .i64 0,.str ([]:ag),.int .i64 0,sl ac m4,sl ac m4] [(2,30),(3,9),(7,28),(8,28)],.cells [.int .i64 m5,.str m6,sl af m3,sl cS ([]:List ag),.int .i64 m7,.str m8,.int .i64 m9,sl ac m10,sl ac m11] [(2,30),(3,9),(8,28)]] []
def mg(o:waB):av:=aN 139 [(2,.eptr (af t)),(3,.bptr 1 0),(4,.bptr 2 0),(5,.bptr 3 0)] [.dead,.cells [sl cS m,sl ac m2] [],.cells [.int .i64 0,.str ([]:ag),sl af m3,sl cS ([]:List ag),.int .i64 0,.str ([]:ag),.int .i64 0,sl ac m4,sl ac m4] [(2,30),(3,9),(7,28),(8,28)],.cells [.int .i64 m5,.str m6,sl af m3,sl cS ([]:List ag),.int .i64 m7,.str m8,.int .i64 m9,sl ac m10,sl ac o] [(2,30),(3,9),(8,28)]] []
def rt:Option ((Int×waB)⊕(waB)):=
 if(decide (t26<t25))=true then
  (dv t24 t26).bind fun x3=>
  (kV x3 m m2).bind fun r4=>
  (app m11 ([r4]:List aa)).bind fun l5=>
  some (.inl (bA (t26+1),l5))
 else
  some (.inr m11)
def la:Option waB:=loop (fun(zz:Int×waB)=>rt t24 t25 m m2 zz.1 zz.2) (t26,m11)
theorem yy{y:(Int×waB)⊕(waB)}(h:rt t24 t25 m m2 t26 m11=some y):aB Pg GE 0 (cA Rh 119) (LQ (fun(zz:Int×waB)=>fU t t24 t25 m m2 m3 m4 m5 m6 m7 m8 m9 m10 zz.1 zz.2) (fun _=>.exit 0) (mg t m m2 m3 m4 m5 m6 m7 m8 m9 m10) y) (fU t t24 t25 m m2 m3 m4 m5 m6 m7 m8 m9 m10 t26 m11):=by
 rcases aT h with⟨c2,h⟩|⟨c2,h⟩
 ·obtain⟨x3,bx3,h⟩:=aw h
  obtain⟨r4,br4,h⟩:=aw h
  obtain⟨l5,bl5,h⟩:=aw h
  obtain rfl:=lf h
  have z:=sg 0 c2<|sv (aR.ia (k:=.i64) bx3)<|sv (az x3)<|sx eX<|sx (bv x3)<|rp [0,1,0,0,8,0,32,124,252,511,1023,2047]<|sv (aX x3 [])<|ss<|ss<|ba (tS br4)<|sv (aR.mk' (v:=ce) aY ([r4]:List aa) 1 (by kernel_rfl))<|sv (aR.ap bl5)<|M0 (rfl:bR (sl ac l5)=some [sl ac l5])<|pg 0 .normal (fU t t24 t25 m m2 m3 m4 m5 m6 m7 m8 m9 m10 (bA (t26+1)) l5) rfl (cF (aI (lq (al t)) (aI (cV rfl) (aI (cV rfl) (aI (cV rfl) (aI (up (am ah t24)) (aI trivial (aI trivial trivial)))))))) (aI trivial (aI (aI (up (am dS m)) (aI (up (am ah m2)) trivial)) (aI (aI trivial (aI trivial (aI (up (am al m3)) (aI (up (am dS ([]:List ag))) (aI trivial (aI trivial (aI trivial (aI (up (am ah m4)) (aI (up (am ah m4)) trivial))))))))) (aI (aI trivial (aI trivial (aI (up (am al m3)) (aI (up (am dS ([]:List ag))) (aI trivial (aI trivial (aI trivial (aI (up (am ah m10)) (aI (up (am ah l5)) trivial))))))))) trivial))))
  exact cz (A:=OZ) mixed z<|by kernel_rfl
 ·obtain rfl:=lf h
  have z:=sg 0 c2<|eF (.exit 0) (mg t m m2 m3 m4 m5 m6 m7 m8 m9 m10 m11)
  exact gf OZ (by intro hx;cases hx) z<|by kernel_rfl
theorem zx{x:waB}(h:la t24 t25 m m2 t26 m11=some x):aB Pg GE 0 (.loop (cA Rh 119)) (EX (.exit 0) (mg t m m2 m3 m4 m5 m6 m7 m8 m9 m10 x)) (fU t t24 t25 m m2 m3 m4 m5 m6 m7 m8 m9 m10 t26 m11):=
 aB.loop (S:=fun(zz:Int×waB)=>fU t t24 t25 m m2 m3 m4 m5 m6 m7 m8 m9 m10 zz.1 zz.2) (ex:=(fun _=>.exit 0)) (s:=(t26,m11)) h fun zz y hy=>yy t t24 t25 m m2 m3 m4 m5 m6 m7 m8 m9 m10 zz.1 zz.2 hy
end
section
variable(t:ae)(used:waA)(i:Int)(t58:waC)(t59:Int)(m:waA)(m2:waB)(m3:waC)(m4:waB)(m5:Int)(m6:ag)(m7:waC)(n:Nat)(m8:Int)(m9:ag)(m10:Int)(m11:waB)(m12:waB)(w4:List ag)(m13:Int)(m14:ag)(m15:waC)(m16:waA)(m17:Int)(m18:ag)(m19:Int)(m20:waB)(m21:waB)
def Bl:av:=aN 139 [(2,.eptr (af t)),(3,.bptr 1 0),(4,.bptr 2 0),(5,.bptr 3 0),(8,sl cS used),(9,.int .i64 i),(58,sl af t58),(59,.int .i64 t59),(60,.int .i64 i)] [.dead,.cells [sl cS m,sl ac m2] [],.cells [.int .i64 0,.str ([]:ag),sl af m3,sl cS ([]:List ag),.int .i64 0,.str ([]:ag),.int .i64 0,sl ac m4,sl ac m4] [(2,30),(3,9),(7,28),(8,28)],.cells [.int .i64 m5,.str m6,sl af m7,.bsl 4 0 n,.int .i64 m8,.str m9,.int .i64 m10,sl ac m11,sl ac m12] [(2,30),(8,28)],.cells (lS cS w4) [],.cells [.int .i64 m13,.str m14,sl af m15,sl cS m16,.int .i64 m17,.str m18,.int .i64 m19,sl ac m20,sl ac m21] []] [((8,0),9)]
def mf(o:Bool):av:=aN 139 [(2,.eptr (af t)),(3,.bptr 1 0),(4,.bptr 2 0),(5,.bptr 3 0),(8,sl cS used),(9,.int .i64 i),(58,sl af t58),(59,.int .i64 t59),(60,.int .i64 i),(82,.bool o)] [.dead,.cells [sl cS m,sl ac m2] [],.cells [.int .i64 0,.str ([]:ag),sl af m3,sl cS ([]:List ag),.int .i64 0,.str ([]:ag),.int .i64 0,sl ac m4,sl ac m4] [(2,30),(3,9),(7,28),(8,28)],.cells [.int .i64 m5,.str m6,sl af m7,.bsl 4 0 n,.int .i64 m8,.str m9,.int .i64 m10,sl ac m11,sl ac m12] [(2,30),(8,28)],.cells (lS cS w4) [],.cells [.int .i64 m13,.str m14,sl af m15,sl cS m16,.int .i64 m17,.str m18,.int .i64 m19,sl ac m20,sl ac m21] []] [((8,0),9)]
def oT:Option Bool:=
 if(t.Op !=6)=true then
  some true
 else
  some (decide (i>=(t.Names.length:Int)))
theorem zw{x:Bool}(h:oT t i=some x):aB Pg GE 0 (cA Rh 260060) (EX .normal (mf t used i t58 t59 m m2 m3 m4 m5 m6 m7 n m8 m9 m10 m11 m12 w4 m13 m14 m15 m16 m17 m18 m19 m20 m21 x)) (Bl t used i t58 t59 m m2 m3 m4 m5 m6 m7 n m8 m9 m10 m11 m12 w4 m13 m14 m15 m16 m17 m18 m19 m20 m21):=by
 have p17:=fun{sc F} (r:PS sc F)=>sv (aG t)<|sv (aJ t)<|r
 rcases aT h with⟨c16,h⟩|⟨c16,h⟩
 ·obtain rfl:=lf h
  exact co OZ (p17<|sg 4 c16<|eF .normal (mf t used i t58 t59 m m2 m3 m4 m5 m6 m7 n m8 m9 m10 m11 m12 w4 m13 m14 m15 m16 m17 m18 m19 m20 m21 true))<|by kernel_rfl
 ·obtain rfl:=lf h
  exact co OZ (p17<|sg 4 c16<|sv (aC t)<|sv (aD t)<|cD (aW.ln t.Names)<|eF .normal (mf t used i t58 t59 m m2 m3 m4 m5 m6 m7 n m8 m9 m10 m11 m12 w4 m13 m14 m15 m16 m17 m18 m19 m20 m21 (decide (i>=(t.Names.length:Int)))))<|by kernel_rfl
end
section
variable(R82:mK)(t:ae)(t58:waC)(t59:Int)(m3:waC)(m4:waB)(m5:Int)(m6:ag)(n:Nat)(m8:Int)(m9:ag)(m10:Int)(m11:waB)(m12:waB)(used:waA)(t60:Int)(m:waA)(m2:waB)(m7:waC)(w4:List ag)
def dR:av:=aN 139 [(2,.eptr (af t)),(3,.bptr 1 0),(4,.bptr 2 0),(5,.bptr 3 0),(8,sl cS used),(58,sl af t58),(59,.int .i64 t59),(60,.int .i64 t60)] [.dead,.cells [sl cS m,sl ac m2] [],.cells [.int .i64 0,.str ([]:ag),sl af m3,sl cS ([]:List ag),.int .i64 0,.str ([]:ag),.int .i64 0,sl ac m4,sl ac m4] [(2,30),(3,9),(7,28),(8,28)],.cells [.int .i64 m5,.str m6,sl af m7,.bsl 4 0 n,.int .i64 m8,.str m9,.int .i64 m10,sl ac m11,sl ac m12] [(2,30),(8,28)],.cells (lS cS w4) []] [((8,0),9)]
def mh(o:waA×waB×waC×List ag):av:=aN 139 [(4,.bptr 2 0),(5,.bptr 3 0)] [.dead,.cells [sl cS o.1,sl ac o.2.1] [],.cells [.int .i64 0,.str ([]:ag),sl af m3,sl cS ([]:List ag),.int .i64 0,.str ([]:ag),.int .i64 0,sl ac m4,sl ac m4] [(2,30),(3,9),(7,28),(8,28)],.cells [.int .i64 m5,.str m6,sl af o.2.2.1,.bsl 4 0 n,.int .i64 m8,.str m9,.int .i64 m10,sl ac m11,sl ac m12] [(2,30),(8,28)],.cells (lS cS o.2.2.2) []] []
def dm:Option ((waA×Int×waA×waB×waC×List ag)⊕((waA×waB×waC×List ag))):=
 if (decide (t60 < t59)) = true then
  (dv t58 t60).bind fun x13=>
  (R82 x13 (⟨m,m2⟩:aj)).bind fun r14=>
  (app m7 ([r14]:List ae)).bind fun l15=>
  (oT t t60).bind fun o18=>
  if o18=true then
   some (.inl (used,bA (t60+1),m,m2,l15,w4))
  else
   (dv t.Names t60).bind fun x21=>
   (zA (⟨m,m2⟩:aj) x21).bind fun r22=>
   (dv t.Names t60).bind fun x23=>
   (wn r22 x23).bind fun r24=>
   if r24=true then
    (dv t.Names t60).bind fun x27=>
    (wl used x27).bind fun r28=>
    (Nb n w4 t60).bind fun x29=>
    (Q6 w4 t60 r28).bind fun l30=>
    (OD n t60 (bA (t60+1))).bind fun n31=>
    (pU used t60 n31 l30).bind fun r32=>
    (dv t.Names t60).bind fun x33=>
    (app r22.Names ([x33]:List ag)).bind fun l34=>
    (Nb n l30 t60).bind fun x35=>
    (app r22.By ([(⟨3,x35,0,([]:List aa)⟩:aa)]:List aa)).bind fun l36=>
    some (.inl (r32,bA (t60+1),l34,l36,l15,l30))
   else
    some (.inl (used,bA (t60+1),r22.Names,r22.By,l15,w4))
 else
  some (.inr (m,m2,m7,w4))
def oU:Option ((waA×waB×waC×List ag)):=loop (fun(zz:waA×Int×waA×waB×waC×List ag)=>dm R82 t t58 t59 n zz.1 zz.2.1 zz.2.2.1 zz.2.2.2.1 zz.2.2.2.2.1 zz.2.2.2.2.2) (used,t60,m,m2,m7,w4)
theorem yz(hR82:qD R82){y:(waA×Int×waA×waB×waC×List ag)⊕((waA×waB×waC×List ag))}(h:dm R82 t t58 t59 n used t60 m m2 m7 w4=some y):aB Pg GE 0 (cA Rh 1015) (LQ (fun(zz:waA×Int×waA×waB×waC×List ag)=>dR t t58 t59 m3 m4 m5 m6 n m8 m9 m10 m11 m12 zz.1 zz.2.1 zz.2.2.1 zz.2.2.2.1 zz.2.2.2.2.1 zz.2.2.2.2.2) (fun _=>.exit 2) (mh m3 m4 m5 m6 n m8 m9 m10 m11 m12) y) (dR t t58 t59 m3 m4 m5 m6 n m8 m9 m10 m11 m12 used t60 m m2 m7 w4):=by
 rcases aT h with⟨c12,h⟩|⟨c12,h⟩
 ·obtain⟨x13,bx13,h⟩:=aw h
  obtain⟨r14,br14,h⟩:=aw h
  obtain⟨l15,bl15,h⟩:=aw h
  obtain⟨o18,bo18,h⟩:=aw h
  have p20:=fun{sc F} (r:PS sc F)=>sg 0 c12<|sv (d5.ia (k:=.i64) bx13)<|sv (bh x13)<|sx jh<|sx (db x13)<|rp [0,1,0,0,12,28,63,127,255]<|sv (bz x13 [])<|sv (cG (⟨m,m2⟩:aj) [])<|ba (hR82 _ _ _ br14)<|sv (d5.mk' (v:=tR) oH ([r14]:List ae) 1 (by kernel_rfl))<|sv (d5.ap bl15)<|M0 (rfl:bR (sl af l15)=some [sl af l15])<|kK 1<|cC (zw t used t60 t58 t59 m m2 m3 m4 m5 m6 l15 n m8 m9 m10 m11 m12 w4 x13.Op x13.Name x13.Args x13.Names x13.Pred.Op x13.Pred.Name x13.Pred.N x13.Pred.Kids x13.Preds bo18)<|r
  rcases aT h with⟨c19,h⟩|⟨c19,h⟩
  ·obtain rfl:=lf h
   have z:=p20<|sg 0 c19<|pg 0 .normal (dR t t58 t59 m3 m4 m5 m6 n m8 m9 m10 m11 m12 used (bA (t60+1)) m m2 l15 w4) rfl (cF (aI (lq (al t)) (aI (cV rfl) (aI (cV rfl) (aI (cV rfl) (aI (up (am dS used)) (aI (up (am al t58)) (aI trivial (aI trivial trivial))))))))) (aI trivial (aI (aI (up (am dS m)) (aI (up (am ah m2)) trivial)) (aI (aI trivial (aI trivial (aI (up (am al m3)) (aI (up (am dS ([]:List ag))) (aI trivial (aI trivial (aI trivial (aI (up (am ah m4)) (aI (up (am ah m4)) trivial))))))))) (aI (aI trivial (aI trivial (aI (up (am al l15)) (aI (cV rfl) (aI trivial (aI trivial (aI trivial (aI (up (am ah m11)) (aI (up (am ah m12)) trivial))))))))) (aI (OS _ dS w4) trivial)))))
   exact cz (A:=OZ) mixed z<|by kernel_rfl
  ·obtain⟨x21,bx21,h⟩:=aw h
   obtain⟨r22,br22,h⟩:=aw h
   obtain⟨x23,bx23,h⟩:=aw h
   obtain⟨r24,br24,h⟩:=aw h
   have p26:=fun{sc F} (r:PS sc F)=>p20<|sg 0 c19<|rp [0,0,2,0,14,30,63,127]<|sv (cG (⟨m,m2⟩:aj) [])<|sv (aC t)<|sv (aD t)<|sv (aW.ia (k:=.i64) bx21)<|sv (cP xe (.str x21) [])<|ba (I6 br22)<|OG (iw r22)<|rp [0,0,2,0,14,30,63]<|sv (cG r22 [])<|sv (aC t)<|sv (aD t)<|sv (aW.ia (k:=.i64) bx23)<|sv (cP xe (.str x23) [])<|ba (HR br24)<|r
   rcases aT h with⟨c25,h⟩|⟨c25,h⟩
   ·obtain⟨x27,bx27,h⟩:=aw h
    obtain⟨r28,br28,h⟩:=aw h
    obtain⟨x29,bx29,h⟩:=aw h
    obtain⟨l30,bl30,h⟩:=aw h
    obtain⟨n31,bn31,h⟩:=aw h
    obtain⟨r32,br32,h⟩:=aw h
    obtain⟨x33,bx33,h⟩:=aw h
    obtain⟨l34,bl34,h⟩:=aw h
    obtain⟨x35,bx35,h⟩:=aw h
    obtain⟨l36,bl36,h⟩:=aw h
    obtain rfl:=lf h
    have z:=p26<|sg 0 c25<|Tz (.dx [0,1,0,0,0,16,0,112,240,504,1023,2047] [] [] [4])<|ss<|sv (aC t)<|sv (aD t)<|sv (aW.ia (k:=.i64) bx27)<|sv (cP xe (.str x27) [])<|ba (HI br28)<|sv (aW.iaN 4 (k:=.i64) bx29)<|Uj (aW.stR (CE r28) bl30)<|ss<|sv (aW.scN 4 bn31)<|si (.cg ⟨[4],[sl cS used,.bsl 0 (ir Pg 9 t60) n31],[],[.cells (lS cS l30) []],[.cells (lS cS l30) []],[.cells (lS cS l30) []],[.cells (lS cS l30) []],sl cS r32,sl cS r32,[(0,9)]⟩) (D3 br32)<|sf (aI (xR [4] (sl cS used) (am dS used)) (aI (xS [4] 0 4 (ir Pg 9 t60) n31 rfl) trivial))<|sf (aI (aI (rB (.cells (lS cS l30) [])) (aI (rW []) (TK [4] _ (OS 0 dS l30)))) trivial)<|sf (aI (aI (rW []) (TK [4] _ (OS 0 dS l30))) trivial)<|sf (xR [4] (sl cS r32) (am dS r32))<|rp [0,1,0,4,0,28,60,124,255,511,1023]<|sv (aC t)<|sv (aD t)<|sv (aW.ia (k:=.i64) bx33)<|sv (cP xe (.str x33) [])<|sv (aW.mk' (v:=PVal.str) CE ([x33]:List ag) 1 (by kernel_rfl))<|sv (aW.ap bl34)<|M0 (rfl:bR (sl cS l34)=some [sl cS l34])<|rp [0,1,0,4,0,28,60,124,252,511,1023,2047]<|ss<|sv (aW.iaN 4 (k:=.i64) bx35)<|sv (aW.ldN (fun r=>cP xe (.str x35) r) bx35)<|sb (lm 3 x35) (ll 3 x35)<|sv (aR.mk' (v:=ce) aY ([(⟨3,x35,0,([]:List aa)⟩:aa)]:List aa) 1 (by kernel_rfl))<|sv (aR.ap bl36)<|M0 (rfl:bR (sl ac l36)=some [sl ac l36])<|pg 0 .normal (dR t t58 t59 m3 m4 m5 m6 n m8 m9 m10 m11 m12 r32 (bA (t60+1)) l34 l36 l15 l30) rfl (cF (aI (lq (al t)) (aI (cV rfl) (aI (cV rfl) (aI (cV rfl) (aI (up (am dS r32)) (aI (up (am al t58)) (aI trivial (aI trivial trivial))))))))) (aI trivial (aI (aI (up (am dS l34)) (aI (up (am ah l36)) trivial)) (aI (aI trivial (aI trivial (aI (up (am al m3)) (aI (up (am dS ([]:List ag))) (aI trivial (aI trivial (aI trivial (aI (up (am ah m4)) (aI (up (am ah m4)) trivial))))))))) (aI (aI trivial (aI trivial (aI (up (am al l15)) (aI (cV rfl) (aI trivial (aI trivial (aI trivial (aI (up (am ah m11)) (aI (up (am ah m12)) trivial))))))))) (aI (OS _ dS l30) trivial)))))
    exact cz (A:=OZ) mixed z<|by kernel_rfl
   ·obtain rfl:=lf h
    have z:=p26<|sg 0 c25<|pg 0 .normal (dR t t58 t59 m3 m4 m5 m6 n m8 m9 m10 m11 m12 used (bA (t60+1)) r22.Names r22.By l15 w4) rfl (cF (aI (lq (al t)) (aI (cV rfl) (aI (cV rfl) (aI (cV rfl) (aI (up (am dS used)) (aI (up (am al t58)) (aI trivial (aI trivial trivial))))))))) (aI trivial (aI (aI (up (am dS r22.Names)) (aI (up (am ah r22.By)) trivial)) (aI (aI trivial (aI trivial (aI (up (am al m3)) (aI (up (am dS ([]:List ag))) (aI trivial (aI trivial (aI trivial (aI (up (am ah m4)) (aI (up (am ah m4)) trivial))))))))) (aI (aI trivial (aI trivial (aI (up (am al l15)) (aI (cV rfl) (aI trivial (aI trivial (aI trivial (aI (up (am ah m11)) (aI (up (am ah m12)) trivial))))))))) (aI (OS _ dS w4) trivial)))))
    exact cz (A:=OZ) mixed z<|by kernel_rfl
 ·obtain rfl:=lf h
  have z:=sg 0 c12<|eF (.exit 2) (mh m3 m4 m5 m6 n m8 m9 m10 m11 m12 (m,m2,m7,w4))
  exact gf OZ (by intro hx;cases hx) z<|by kernel_rfl
theorem zy(hR82:qD R82){x:(waA×waB×waC×List ag)}(h:oU R82 t t58 t59 n used t60 m m2 m7 w4=some x):aB Pg GE 0 (.loop (cA Rh 1015)) (EX (.exit 2) (mh m3 m4 m5 m6 n m8 m9 m10 m11 m12 x)) (dR t t58 t59 m3 m4 m5 m6 n m8 m9 m10 m11 m12 used t60 m m2 m7 w4):=
 aB.loop (S:=fun(zz:waA×Int×waA×waB×waC×List ag)=>dR t t58 t59 m3 m4 m5 m6 n m8 m9 m10 m11 m12 zz.1 zz.2.1 zz.2.2.1 zz.2.2.2.1 zz.2.2.2.2.1 zz.2.2.2.2.2) (ex:=(fun _=>.exit 2)) (s:=(used,t60,m,m2,m7,w4)) h fun zz y hy=>yz R82 t t58 t59 m3 m4 m5 m6 n m8 m9 m10 m11 m12 zz.1 zz.2.1 zz.2.2.1 zz.2.2.2.1 zz.2.2.2.2.1 zz.2.2.2.2.2 hR82 hy
end
def mJ(R82:mK)(t:ae)(c:aj):Option ae:=
 (kV t.Pred c.Names c.By).bind fun r1=>
 (la t.Preds (t.Preds.length:Int) c.Names c.By 0 ([]:List aa)).bind fun o6=>
 (app [] t.Names).bind fun l7=>
 (wo c.By).bind fun r8=>
 (Ea t).bind fun r9=>
 (d9 r8 r9).bind fun r10=>
 (d9 r10 t.Names).bind fun r11=>
 (oU R82 t t.Args (t.Args.length:Int) l7.length r11 0 c.Names c.By ([]:List ae) l7).bind fun o37=>
 (QO l7.length o37.2.2.2).bind fun l38=>
 some (⟨t.Op,t.Name,o37.2.2.1,l38,r1,o6⟩:ae)
theorem C8(R82:mK)(hR82:qD R82){t:ae}{c:aj}{r:ae}(h:mJ R82 t c=some r):CC Pg GE 51 [.agg (af t),.agg (au c)] (.agg (af r)) [(2,30),(8,28)]:=by
 obtain⟨r1,br1,h⟩:=aw h
 obtain⟨o6,bo6,h⟩:=aw h
 obtain⟨l7,bl7,h⟩:=aw h
 obtain⟨r8,br8,h⟩:=aw h
 obtain⟨r9,br9,h⟩:=aw h
 obtain⟨r10,br10,h⟩:=aw h
 obtain⟨r11,br11,h⟩:=aw h
 obtain⟨o37,bo37,h⟩:=aw h
 obtain⟨l38,bl38,h⟩:=aw h
 obtain rfl:=lf h
 have z:=se (bQ t)<|sx (iw c)<|sx jh<|rp [0,1,0,4,0,16,0,64,0,256,1008,2047,0,8191]<|sv (aG t)<|sv (aJ t)<|sv (dc t)<|sv (dC t)<|sv (bU t)<|sv (bX t)<|ss<|ss<|ba (tS br1)<|sb (Et t.Op t.Name r1) (Er t.Op t.Name r1)<|OG (db (⟨t.Op,t.Name,([]:List ae),([]:List ag),r1,([]:List aa)⟩:ae))<|sv (bN t)<|sv (bO t)<|cD (aR.ln t.Preds)<|cC (zx t t.Preds (t.Preds.length:Int) c.Names c.By ([]:List ae) ([]:List aa) t.Op t.Name r1.Op r1.Name r1.N r1.Kids 0 ([]:List aa) bo6)<|sv (aC t)<|sv (aD t)<|Uh 4 9 (aW.apR bl7)<|ss<|rp [0,1,3,0,15,31,0,64,255,511]<|ss<|ba (HS br8)<|sv (bh t)<|ba (I5 br9)<|ba (i7 br10)<|sv (aC t)<|sv (aD t)<|ba (i7 br11)<|sv (aK t)<|sv (aL t)<|cD (d5.ln t.Args)<|cC (zy R82 t t.Args (t.Args.length:Int) ([]:List ae) ([]:List aa) t.Op t.Name l7.length r1.Op r1.Name r1.N r1.Kids o6 r11 0 c.Names c.By ([]:List ae) l7 hR82 bo37)<|SL 4 (l38.map cS) [4,5] [] (aW.fz1 (m:=0) (b:=4) rfl l38) (aW.fz2 4 l38) (T8 cS bl38)<|sf (GB 4 (p:=sl cS o37.1) (am dS o37.1))<|sf (GB 4 (p:=sl ac o37.2.1) (am ah o37.2.1))<|sf (GB 4 (p:=sl af ([]:List ae)) (am al ([]:List ae)))<|sf (GB 4 (p:=sl cS ([]:List ag)) (am dS ([]:List ag)))<|sf (GB 4 (p:=sl ac ([]:List aa)) (am ah ([]:List aa)))<|sf (GB 4 (p:=sl ac ([]:List aa)) (am ah ([]:List aa)))<|sf (GB 4 (p:=sl af o37.2.2.1) (am al o37.2.2.1))<|sf (T9 cS bl38)<|sf (GB 4 (p:=sl ac r1.Kids) (am ah r1.Kids))<|sf (GB 4 (p:=sl ac o6) (am ah o6))<|sz (bz (⟨t.Op,t.Name,o37.2.2.1,l38,r1,o6⟩:ae) [])<|sy (aS (⟨t.Op,t.Name,o37.2.2.1,l38,r1,o6⟩:ae))<|en (aI (cR (⟨t.Op,t.Name,o37.2.2.1,l38,r1,o6⟩:ae))<|aI (al (⟨t.Op,t.Name,o37.2.2.1,l38,r1,o6⟩:ae))<|rT)
 exact b7 OZ call51 func51 (c:=Rh) rfl (aI (al t) (aI (cO c) trivial)) z<|by kernel_rfl
def qQ:((ae×aj)->Option ae)->(ae×aj)->Option ae:=fun(rec:(ae×aj)->Option ae) (x:ae×aj)=>mJ (fun t c=>rec (t,c)) x.1 x.2
def uZ(t:ae)(c:aj):Option ae:=nw qQ (t,c)
theorem Ef{t:ae}{c:aj}{r:ae}(h:uZ t c=some r):CC Pg GE 51 [.agg (af t),.agg (au c)] (.agg (af r)) [(2,30),(8,28)]:=
 cT (F:=qQ) (M:=fun(x:ae×aj) (r:ae)=>CC Pg GE 51 [.agg (af x.1),.agg (au x.2)] (.agg (af r)) [(2,30),(8,28)]) (fun rec hrec x r h=>C8 _ (fun t c r h=>hrec (t,c) r h) h) h
end Go.Proofs.YtggeppllafbidaaGreatDoor
