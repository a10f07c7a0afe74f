/- PROVED: a part of the proof. Conditions: none. -/
import Derived.Test.YtggeppllafbidaaGreatDoorPkC13
noncomputable section
namespace Go.Proofs.YtggeppllafbidaaGreatDoor
open Go Go.Proofs.Tryz
set_option linter.unusedVariables false
set_option maxRecDepth 100000
noncomputable def QF:Code:=f11.body.getD .skip
def Qq:List Nat:=[]
def xq:Option Bool:=
 (nJ ([121]:ag)).bind fun r1=>
 (Fo 1).bind fun r2=>
 (mO 6 ([r1,r2]:List aa)).bind fun r3=>
 (nJ ([120]:ag)).bind fun r4=>
 (nJ ([118]:ag)).bind fun r5=>
 (mO 12 ([r4,r5]:List aa)).bind fun r6=>
 (gB r6).bind fun r7=>
 (EJ ([120]:ag) r7).bind fun r8=>
 (nJ ([120]:ag)).bind fun r9=>
 (nJ ([121]:ag)).bind fun r10=>
 (mO 6 ([r9,r10]:List aa)).bind fun r11=>
 (nJ ([118]:ag)).bind fun r12=>
 (mO 12 ([r11,r12]:List aa)).bind fun r13=>
 (gB r13).bind fun r14=>
 (EJ ([120]:ag) r14).bind fun r15=>
 (nJ ([120]:ag)).bind fun r16=>
 (nC r15 ([121]:ag) r16).bind fun r17=>
 (Fo 5).bind fun r18=>
 (eP r8 ([r18]:List aa)).bind fun r19=>
 (Fo 0).bind fun r20=>
 (nJ ([118]:ag)).bind fun r21=>
 (mO 13 ([r20,r21]:List aa)).bind fun r22=>
 (gB r22).bind fun r23=>
 (mf r23 ([110]:ag)).bind fun r24=>
 (yP r8).bind fun r25=>
 if (r25 == 0) = true then
  (nC r7 ([120]:ag) (⟨r3.Op,r3.Name,r3.N,r3.Kids⟩:aa)).bind fun r28=>
  (nJ ([118]:ag)).bind fun r29=>
  (mO 12 ([(⟨r3.Op,r3.Name,r3.N,r3.Kids⟩:aa),r29]:List aa)).bind fun r30=>
  (gB r30).bind fun r31=>
  (f7 r28 r31).bind fun r32=>
  if r32 = true then
   (nC r8 ([120]:ag) (⟨r3.Op,r3.Name,r3.N,r3.Kids⟩:aa)).bind fun r35=>
   (f7 r35 r8).bind fun r36=>
   if r36=true then
    (nJ ([120,49]:ag)).bind fun r39=>
    (nJ ([120]:ag)).bind fun r40=>
    (mO 6 ([r39,r40]:List aa)).bind fun r41=>
    (nJ ([118]:ag)).bind fun r42=>
    (mO 12 ([r41,r42]:List aa)).bind fun r43=>
    (gB r43).bind fun r44=>
    (EJ ([120,49]:ag) r44).bind fun r45=>
    (f7 r17 r45).bind fun r46=>
    if r46=true then
     if (r19.2 == 0) = true then
      (Fo 5).bind fun r51=>
      (nJ ([118]:ag)).bind fun r52=>
      (mO 12 ([r51,r52]:List aa)).bind fun r53=>
      (gB r53).bind fun r54=>
      (f7 r19.1 r54).bind fun r55=>
      if r55=true then
       (nJ ([118]:ag)).bind fun r58=>
       (nJ ([110]:ag)).bind fun r59=>
       (mO 10 ([r58,r59]:List aa)).bind fun r60=>
       (mO 15 ([r23.Pred,r60]:List aa)).bind fun r61=>
       (fA r24.Pred r61).bind fun r62=>
       if r62=true then
        (pz r7).bind fun r65=>
        (vS r65 ([([120]:ag)]:List ag)).bind fun r66=>
        if r66=true then
         (Fo 7).bind fun r69=>
         (qD r7 r69).bind fun r70=>
         (nJ ([120]:ag)).bind fun r71=>
         (Fo 7).bind fun r72=>
         (mO 12 ([r71,r72]:List aa)).bind fun r73=>
         (fA r70 r73).bind fun r74=>
         some r74
        else
         some false
       else
        some false
      else
       some false
     else
      some false
    else
     some false
   else
    some false
  else
   some false
 else
  some false
theorem AB{r:Bool}(h:xq=some r):CC Pg GE 11 [] (.bool r) []:=by
 obtain⟨r1,br1,h⟩:=aw h
 obtain⟨r2,br2,h⟩:=aw h
 obtain⟨r3,br3,h⟩:=aw h
 obtain⟨r4,br4,h⟩:=aw h
 obtain⟨r5,br5,h⟩:=aw h
 obtain⟨r6,br6,h⟩:=aw h
 obtain⟨r7,br7,h⟩:=aw h
 obtain⟨r8,br8,h⟩:=aw h
 obtain⟨r9,br9,h⟩:=aw h
 obtain⟨r10,br10,h⟩:=aw h
 obtain⟨r11,br11,h⟩:=aw h
 obtain⟨r12,br12,h⟩:=aw h
 obtain⟨r13,br13,h⟩:=aw h
 obtain⟨r14,br14,h⟩:=aw h
 obtain⟨r15,br15,h⟩:=aw h
 obtain⟨r16,br16,h⟩:=aw h
 obtain⟨r17,br17,h⟩:=aw h
 obtain⟨r18,br18,h⟩:=aw h
 obtain⟨r19,br19,h⟩:=aw h
 obtain⟨r20,br20,h⟩:=aw h
 obtain⟨r21,br21,h⟩:=aw h
 obtain⟨r22,br22,h⟩:=aw h
 obtain⟨r23,br23,h⟩:=aw h
 obtain⟨r24,br24,h⟩:=aw h
 obtain⟨r25,br25,h⟩:=aw h
 have p27:=fun{sc F} (r:PS sc F)=>bg (eC br1)<|bg (s9 br2)<|sv (aP.mk' (v:=bR) aY ([r1,r2]:List aa) 2 (by kernel_rfl))<|bg (fi br3)<|sx dW<|sx (aZ r3)<|bg (eC br4)<|bg (eC br5)<|sv (aP.mk' (v:=bR) aY ([r4,r5]:List aa) 2 (by kernel_rfl))<|bg (fi br6)<|bg (eV br7)<|sx iq<|sy (aT r7)<|sv (bh r7 [])<|bg (zq br8)<|sx iq<|sy (aT r8)<|bg (eC br9)<|bg (eC br10)<|sv (aP.mk' (v:=bR) aY ([r9,r10]:List aa) 2 (by kernel_rfl))<|bg (fi br11)<|bg (eC br12)<|sv (aP.mk' (v:=bR) aY ([r11,r12]:List aa) 2 (by kernel_rfl))<|bg (fi br13)<|bg (eV br14)<|bg (zq br15)<|sx iq<|sy (aT r15)<|sU [0,0,3,0,15]<|sv (bh r15 [])<|bg (eC br16)<|bg (nf br17)<|P8 (cn r17)<|sU [0,0,2,7,15,31,31,0,191,511]<|sv (bh r8 [])<|bg (s9 br18)<|sv (aP.mk' (v:=bR) aY ([r18]:List aa) 1 (by kernel_rfl))<|bg (tA br19)<|sx (cn r19.1)<|bg (s9 br20)<|bg (eC br21)<|sv (aP.mk' (v:=bR) aY ([r20,r21]:List aa) 2 (by kernel_rfl))<|bg (fi br22)<|bg (eV br23)<|sx iq<|sy (aT r23)<|sv (bh r23 [])<|bg (vb br24)<|sx iq<|sy (aT r24)<|sU [0,1,3,7,15,15,63,15,127,511,1023,2047,4095,8191,16383,32767,32767,131071,32767,524287,1048575,2097151,4194303,4194303,12582911,29360127,62914559,130023423,264241151,532676607,1069547519,2143289343,4294967295,8589934591,17179869183,34359738367,68719476735,137438953471,274877906943,549755813887,549755813887,1649267441663,3848290697215,8246337208319,17042430230527,35184372088831,70368744177663,140737488355327,281474976710655,562949953421311,281474976710655,1407374883553279,281474976710655,4785074604081151,13792273858822143,31806672368304127,71213169107795967,143270763145723903,288230376151711743,576460752303423487,1152921504606846975,2305843009213693951,4611686018427387903,2305843009213693951,18446744073709551615,36893488147419103231,73786976294838206463,147573952589676412927,147573952589676412927,590295810358705651711,1180591620717411303423,2361183241434822606847,4722366482869645213695,9444732965739290427391,18889465931478580854783,37778931862957161709567,75557863725914323419135]<|sv (bh r8 [])<|bg (C6 br25)<|r
 rcases aU h with⟨c26,h⟩|⟨c26,h⟩
 ·obtain ⟨r28,br28,h⟩:=aw h
  obtain⟨r29,br29,h⟩:=aw h
  obtain⟨r30,br30,h⟩:=aw h
  obtain⟨r31,br31,h⟩:=aw h
  obtain⟨r32,br32,h⟩:=aw h
  have p34:=fun{sc F} (r:PS sc F)=>p27<|sg 4 c26<|sv (bh r7 [])<|sv (aO (⟨r3.Op,r3.Name,r3.N,r3.Kids⟩:aa) [])<|bg (nf br28)<|sv (aO (⟨r3.Op,r3.Name,r3.N,r3.Kids⟩:aa) [])<|bg (eC br29)<|sv (aP.mk' (v:=bR) aY ([(⟨r3.Op,r3.Name,r3.N,r3.Kids⟩:aa),r29]:List aa) 2 (by kernel_rfl))<|bg (fi br30)<|bg (eV br31)<|bg (ja br32)<|r
  rcases aU h with⟨c33,h⟩|⟨c33,h⟩
  ·obtain⟨r35,br35,h⟩:=aw h
   obtain⟨r36,br36,h⟩:=aw h
   have p38:=fun{sc F} (r:PS sc F)=>p34<|sg 15 c33<|sv (bh r8 [])<|sv (aO (⟨r3.Op,r3.Name,r3.N,r3.Kids⟩:aa) [])<|bg (nf br35)<|sv (bh r8 [])<|bg (ja br36)<|r
   rcases aU h with⟨c37,h⟩|⟨c37,h⟩
   ·obtain⟨r39,br39,h⟩:=aw h
    obtain⟨r40,br40,h⟩:=aw h
    obtain⟨r41,br41,h⟩:=aw h
    obtain⟨r42,br42,h⟩:=aw h
    obtain⟨r43,br43,h⟩:=aw h
    obtain⟨r44,br44,h⟩:=aw h
    obtain⟨r45,br45,h⟩:=aw h
    obtain⟨r46,br46,h⟩:=aw h
    have p48:=fun{sc F} (r:PS sc F)=>p38<|sg 22 c37<|sv (bh r17 [])<|bg (eC br39)<|bg (eC br40)<|sv (aP.mk' (v:=bR) aY ([r39,r40]:List aa) 2 (by kernel_rfl))<|bg (fi br41)<|bg (eC br42)<|sv (aP.mk' (v:=bR) aY ([r41,r42]:List aa) 2 (by kernel_rfl))<|bg (fi br43)<|bg (eV br44)<|bg (zq br45)<|bg (ja br46)<|r
    rcases aU h with⟨c47,h⟩|⟨c47,h⟩
    ·have p50:=fun{sc F} (r:PS sc F)=>p48<|sg 35 c47<|r
     rcases aU h with⟨c49,h⟩|⟨c49,h⟩
     ·obtain⟨r51,br51,h⟩:=aw h
      obtain⟨r52,br52,h⟩:=aw h
      obtain⟨r53,br53,h⟩:=aw h
      obtain⟨r54,br54,h⟩:=aw h
      obtain⟨r55,br55,h⟩:=aw h
      have p57:=fun{sc F} (r:PS sc F)=>p50<|sg 39 c49<|sv (bh r19.1 [])<|bg (s9 br51)<|bg (eC br52)<|sv (aP.mk' (v:=bR) aY ([r51,r52]:List aa) 2 (by kernel_rfl))<|bg (fi br53)<|bg (eV br54)<|bg (ja br55)<|r
      rcases aU h with⟨c56,h⟩|⟨c56,h⟩
      ·obtain⟨r58,br58,h⟩:=aw h
       obtain⟨r59,br59,h⟩:=aw h
       obtain⟨r60,br60,h⟩:=aw h
       obtain⟨r61,br61,h⟩:=aw h
       obtain⟨r62,br62,h⟩:=aw h
       have p64:=fun{sc F} (r:PS sc F)=>p57<|sg 48 c56<|sv (aO r24.Pred [sl ac r24.Preds])<|sv (aO r23.Pred [sl ac r23.Preds])<|bg (eC br58)<|bg (eC br59)<|sv (aP.mk' (v:=bR) aY ([r58,r59]:List aa) 2 (by kernel_rfl))<|bg (fi br60)<|sv (aP.mk' (v:=bR) aY ([r23.Pred,r60]:List aa) 2 (by kernel_rfl))<|bg (fi br61)<|bg (fC br62)<|r
       rcases aU h with⟨c63,h⟩|⟨c63,h⟩
       ·obtain⟨r65,br65,h⟩:=aw h
        obtain⟨r66,br66,h⟩:=aw h
        have p68:=fun{sc F} (r:PS sc F)=>p64<|sg 61 c63<|sv (bh r7 [])<|bg (va br65)<|sv (ba.mk' (v:=PVal.str) CW ([([120]:ag)]:List ag) 1 (by kernel_rfl))<|bg (Dm br66)<|r
        rcases aU h with⟨c67,h⟩|⟨c67,h⟩
        ·obtain⟨r69,br69,h⟩:=aw h
         obtain⟨r70,br70,h⟩:=aw h
         obtain⟨r71,br71,h⟩:=aw h
         obtain⟨r72,br72,h⟩:=aw h
         obtain⟨r73,br73,h⟩:=aw h
         obtain⟨r74,br74,h⟩:=aw h
         obtain rfl:=lf h
         have z:=p68<|sg 67 c67<|sv (bh r7 [])<|bg (s9 br69)<|bg (yO br70)<|bg (eC br71)<|bg (s9 br72)<|sv (aP.mk' (v:=bR) aY ([r71,r72]:List aa) 2 (by kernel_rfl))<|bg (fi br73)<|bg (fC br74)<|en (aI (rP (.bool r74))<|trivial)
         exact bS Qq call11 func11 (c:=QF) rfl trivial z<|by kernel_rfl
        ·obtain rfl:=lf h
         have z:=p68<|sg 67 c67<|en (aI (rP (.bool false))<|trivial)
         exact bS Qq call11 func11 (c:=QF) rfl trivial z<|by kernel_rfl
       ·obtain rfl:=lf h
        have z:=p64<|sg 61 c63<|en (aI (rP (.bool false))<|trivial)
        exact bS Qq call11 func11 (c:=QF) rfl trivial z<|by kernel_rfl
      ·obtain rfl:=lf h
       have z:=p57<|sg 48 c56<|en (aI (rP (.bool false))<|trivial)
       exact bS Qq call11 func11 (c:=QF) rfl trivial z<|by kernel_rfl
     ·obtain rfl:=lf h
      have z:=p50<|sg 39 c49<|en (aI (rP (.bool false))<|trivial)
      exact bS Qq call11 func11 (c:=QF) rfl trivial z<|by kernel_rfl
    ·obtain rfl:=lf h
     have z:=p48<|sg 35 c47<|en (aI (rP (.bool false))<|trivial)
     exact bS Qq call11 func11 (c:=QF) rfl trivial z<|by kernel_rfl
   ·obtain rfl:=lf h
    have z:=p38<|sg 22 c37<|en (aI (rP (.bool false))<|trivial)
    exact bS Qq call11 func11 (c:=QF) rfl trivial z<|by kernel_rfl
  ·obtain rfl:=lf h
   have z:=p34<|sg 15 c33<|en (aI (rP (.bool false))<|trivial)
   exact bS Qq call11 func11 (c:=QF) rfl trivial z<|by kernel_rfl
 ·obtain rfl:=lf h
  have z:=p27<|sg 4 c26<|en (aI (rP (.bool false))<|trivial)
  exact bS Qq call11 func11 (c:=QF) rfl trivial z<|by kernel_rfl
noncomputable def Uf:Code:=f28.body.getD .skip
def Tb:List Nat:=[10,17]
section
variable(v:waA)(s:ag)(t7:Int)(t8:Int)
def jW:av:=aM 19 [(0,sl cS v),(1,.str s),(7,.int .i64 t7),(8,.int .i64 t8)] [] []
def jX(o:Int⊕(Unit)):Exit:=match o with
 |(.inl _)=>.ret
 |(.inr _)=>.exit 0
def iC(o:Int⊕(Unit)):av:=match o with
 |(.inl o)=>aM 19 [(4,.int .i64 o)] [] []
 |(.inr o)=>aM 19 [] [] []
def dy:Option (Int⊕(Int⊕(Unit))):=
 if(decide (t8<t7))=true then
  (dz v t8).bind fun x2=>
  if(x2==s)=true then
   some (.inr (.inl t8))
  else
   some (.inl (bC (t8+1)))
 else
  some (.inr (.inr ()))
def qS:Option (Int⊕(Unit)):=loop (fun(zz:Int)=>dy v s t7 zz) t8
theorem DQ{y:Int⊕(Int⊕(Unit))}(h:dy v s t7 t8=some y):aF Pg GE 0 (cA Uf 55) (LQ (fun(zz:Int)=>jW v s t7 zz) jX iC y) (jW v s t7 t8):=by
 rcases aU h with⟨c1,h⟩|⟨c1,h⟩
 ·obtain⟨x2,bx2,h⟩:=aw h
  have p4:=fun{sc F} (r:PS sc F)=>sg 0 c1<|sv (ba.ia (k:=.i64) bx2)<|sv (cY yR (.str x2) [])<|r
  rcases aU h with⟨c3,h⟩|⟨c3,h⟩
  ·obtain rfl:=lf h
   have z:=p4<|sg 0 c3<|eF (jX (.inl t8)) (iC (.inl t8))
   exact fX Tb (by intro hx;cases hx) z<|by kernel_rfl
  ·obtain rfl:=lf h
   exact sT Tb (p4<|sg 0 c3<|eF .normal (jW v s t7 (bC (t8+1))))<|by kernel_rfl
 ·obtain rfl:=lf h
  have z:=sg 0 c1<|eF (jX (.inr ())) (iC (.inr ()))
  exact fX Tb (by intro hx;cases hx) z<|by kernel_rfl
theorem vR{x:Int⊕(Unit)}(h:qS v s t7 t8=some x):aF Pg GE 0 (.loop (cA Uf 55)) (EX (jX x) (iC x)) (jW v s t7 t8):=
 aF.loop (S:=fun(zz:Int)=>jW v s t7 zz) (ex:=jX) (s:=t8) h fun zz y hy=>DQ v s t7 zz hy
end
def fx(a:waA)(s:ag):Option Int:=
 (qS a s (a.length:Int) 0).bind fun o5=>match o5 with
 |(.inl o5)=>
  some o5
 |(.inr o5)=>
  some (-1)
theorem kY{a:waA}{s:ag}{r:Int}(h:fx a s=some r):CC Pg GE 28 [sl cS a,.str s] (.int .i64 r) []:=by
 obtain⟨o5,bo5,h⟩:=aw h
 rcases o5 with o5|o5
 ·obtain rfl:=lf h
  have z:=cG (ba.ln a)<|cC (e:=.ret) (s1:=iC (.inl o5)) (vR a s (a.length:Int) 0 bo5)<|en (aI (rP (.int .i64 o5))<|trivial)
  exact bS Tb call28 func28 (c:=Uf) rfl (aI (am d7 a) (aI trivial trivial)) z<|by kernel_rfl
 ·obtain rfl:=lf h
  have z:=cG (ba.ln a)<|cC (e:=.exit 0) (s1:=iC (.inr o5)) (vR a s (a.length:Int) 0 bo5)<|en (aI (rP (.int .i64 (-1)))<|trivial)
  exact bS Tb call28 func28 (c:=Uf) rfl (aI (am d7 a) (aI trivial trivial)) z<|by kernel_rfl
abbrev nu:=(ae->aj->Option ae)
abbrev rR(R:nu):Prop:=∀(t:ae) (c:aj) (r:ae),R t c=some r->CC Pg GE 51 [.agg (af t),.agg (au c)] (.agg (af r)) [(2,30),(8,28)]
abbrev lF:=(aa->waA->waB->Option aa)
abbrev pJ(R:lF):Prop:=∀(p:aa) (names:waA) (a:waB) (r:aa),R p names a=some r->CC Pg GE 90 [.agg (ac p),sl cS names,sl ac a] (.agg (ac r)) []
noncomputable def UI:Code:=f110.body.getD .skip
def Ut:List Nat:=[]
def Kd(p:aa)(kids:waB):Option aa:=
 some (⟨p.Op,p.Name,p.N,kids⟩:aa)
theorem Ke{p:aa}{kids:waB}{r:aa}(h:Kd p kids=some r):CC Pg GE 110 [.agg (ac p),sl ac kids] (.agg (ac r)) []:=by
 obtain rfl:=lf h
 have z:=se (bz p)<|sx dW<|sv (aR p)<|sv (aS p)<|sv (ca p)<|sv (cq p)<|sv (ch p)<|sv (ct p)<|sv (Cy p.Op p.Name p.N kids)<|sx (aZ (⟨p.Op,p.Name,p.N,kids⟩:aa))<|en (aI (co (⟨p.Op,p.Name,p.N,kids⟩:aa))<|(ah (⟨p.Op,p.Name,p.N,kids⟩:aa)))
 exact bS Ut call110 func110 (c:=UI) rfl (aI (ah p) (aI (am ah kids) trivial)) z<|by kernel_rfl
noncomputable def S0:Code:=f90.body.getD .skip
def Qu:List Nat:=[37]
section
variable(names:waA)(v:waB)(p:aa)(i:Int)(m:waB)
def Ap:av:=aM 48 [(1,sl cS names),(2,sl ac v),(3,.eptr (ac p)),(6,.bptr 1 0),(7,.int .i64 i)] [.dead,.cells [.int .i64 0,.str ([]:ag),.int .i64 0,sl ac m] [(3,28)]] []
def lB(o:Bool):av:=aM 48 [(1,sl cS names),(2,sl ac v),(3,.eptr (ac p)),(6,.bptr 1 0),(7,.int .i64 i),(25,.bool o)] [.dead,.cells [.int .i64 0,.str ([]:ag),.int .i64 0,sl ac m] [(3,28)]] []
def ol:Option Bool:=
 if(decide (i>=0))=true then
  some (decide (i<(v.length:Int)))
 else
  some false
theorem ze{x:Bool}(h:ol v i=some x):aF Pg GE 0 (cA S0 106) (EX .normal (lB names v p i m x)) (Ap names v p i m):=by
 rcases aU h with⟨c4,h⟩|⟨c4,h⟩
 ·obtain rfl:=lf h
  exact cm Qu (sg 3 c4<|cG (aP.ln v)<|eF .normal (lB names v p i m (decide (i<(v.length:Int)))))<|by kernel_rfl
 ·obtain rfl:=lf h
  exact cm Qu (sg 3 c4<|eF .normal (lB names v p i m false))<|by kernel_rfl
end
section
variable(names:waA)(v:waB)(p:aa)(m:waB)
def Ao:av:=aM 48 [(1,sl cS names),(2,sl ac v),(3,.eptr (ac p)),(6,.bptr 1 0)] [.dead,.cells [.int .i64 0,.str ([]:ag),.int .i64 0,sl ac m] [(3,28)]] []
def iN(o:(Int×ag×Int×waB)⊕(Unit)):Exit:=match o with
 |(.inl _)=>.ret
 |(.inr _)=>.normal
def ed(o:(Int×ag×Int×waB)⊕(Unit)):av:=match o with
 |(.inl o)=>aM 48 [(6,.bptr 1 0)] [.dead,.cells [.int .i64 o.1,.str o.2.1,.int .i64 o.2.2.1,sl ac o.2.2.2] []] []
 |(.inr o)=>aM 48 [(1,sl cS names),(2,sl ac v),(3,.eptr (ac p)),(6,.bptr 1 0)] [.dead,.cells [.int .i64 0,.str ([]:ag),.int .i64 0,sl ac m] [(3,28)]] []
def kr:Option ((Int×ag×Int×waB)⊕(Unit)):=
 if(p.Op==3)=true then
  (fx names p.Name).bind fun r3=>
  (ol v r3).bind fun o5=>
  if o5=true then
   (dz v r3).bind fun x8=>
   some (.inl (x8.Op,x8.Name,x8.N,x8.Kids))
  else
   some (.inr ())
 else
  some (.inr ())
theorem pR{x:(Int×ag×Int×waB)⊕(Unit)}(h:kr names v p=some x):aF Pg GE 0 (cA S0 6) (EX (iN x) (ed names v p m x)) (Ao names v p m):=by
 have p2:=fun{sc F} (r:PS sc F)=>sv (aR p)<|sv (aS p)<|r
 rcases aU h with⟨c1,h⟩|⟨c1,h⟩
 ·obtain⟨r3,br3,h⟩:=aw h
  obtain⟨o5,bo5,h⟩:=aw h
  have p7:=fun{sc F} (r:PS sc F)=>p2<|sg 0 c1<|sv (ca p)<|sv (cq p)<|bg (kY br3)<|kq 0<|cC (ze names v p r3 m bo5)<|r
  rcases aU h with⟨c6,h⟩|⟨c6,h⟩
  ·obtain⟨x8,bx8,h⟩:=aw h
   obtain rfl:=lf h
   exact cm Qu (p7<|sg 0 c6<|sv (aP.ia (k:=.i64) bx8)<|sv (az x8)<|sx (aZ x8)<|eF (iN (.inl (x8.Op,x8.Name,x8.N,x8.Kids))) (ed names v p m (.inl (x8.Op,x8.Name,x8.N,x8.Kids))))<|by kernel_rfl
  ·obtain rfl:=lf h
   exact cm Qu (p7<|sg 0 c6<|eF (iN (.inr ())) (ed names v p m (.inr ())))<|by kernel_rfl
 ·obtain rfl:=lf h
  exact cm Qu (p2<|sg 0 c1<|eF (iN (.inr ())) (ed names v p m (.inr ())))<|by kernel_rfl
end
section
variable(R83:lF)(names:waA)(v:waB)(p:aa)(t31:waB)(t32:Int)(m:waB)(out:waB)(t33:Int)
def fD:av:=aM 48 [(1,sl cS names),(2,sl ac v),(3,.eptr (ac p)),(6,.bptr 1 0),(8,sl ac out),(31,sl ac t31),(32,.int .i64 t32),(33,.int .i64 t33)] [.dead,.cells [.int .i64 0,.str ([]:ag),.int .i64 0,sl ac m] [(3,28)]] [((8,0),28)]
def lC(o:waB):av:=aM 48 [(3,.eptr (ac p)),(6,.bptr 1 0),(8,sl ac o)] [.dead,.cells [.int .i64 0,.str ([]:ag),.int .i64 0,sl ac m] [(3,28)]] [((8,0),28)]
def qW:Option ((waB×Int)⊕(waB)):=
 if(decide (t33<t32))=true then
  (dz t31 t33).bind fun x11=>
  (R83 x11 names v).bind fun r12=>
  (app out ([r12]:List aa)).bind fun l13=>
  some (.inl (l13,bC (t33+1)))
 else
  some (.inr out)
def om:Option waB:=loop (fun(zz:waB×Int)=>qW R83 names v t31 t32 zz.1 zz.2) (out,t33)
theorem xP(hR83:pJ R83){y:(waB×Int)⊕(waB)}(h:qW R83 names v t31 t32 out t33=some y):aF Pg GE 0 (cA S0 247) (LQ (fun(zz:waB×Int)=>fD names v p t31 t32 m zz.1 zz.2) (fun _=>.exit 0) (lC p m) y) (fD names v p t31 t32 m out t33):=by
 rcases aU h with⟨c10,h⟩|⟨c10,h⟩
 ·obtain⟨x11,bx11,h⟩:=aw h
  obtain⟨r12,br12,h⟩:=aw h
  obtain⟨l13,bl13,h⟩:=aw h
  obtain rfl:=lf h
  have z:=sg 0 c10<|sv (aP.ia (k:=.i64) bx11)<|sv (az x11)<|sx dW<|sx (aZ x11)<|sv (aO x11 [])<|bg (hR83 _ _ _ _ br12)<|sv (aP.mk' (v:=bR) aY ([r12]:List aa) 1 (by kernel_rfl))<|sv (aP.ap bl13)<|oz 0 .normal (fD names v p t31 t32 m l13 (bC (t33+1))) rfl (cz (aI (up (am d7 names)) (aI (up (am ah v)) (aI (lM (ah p)) (aI (cF rfl) (aI (up (am ah l13)) (aI (up (am ah t31)) (aI trivial (aI trivial trivial))))))))) (aI trivial (aI (aI trivial (aI trivial (aI trivial (aI (up (am ah m)) trivial)))) trivial))
  exact cw (A:=Qu) mixed z<|by kernel_rfl
 ·obtain rfl:=lf h
  have z:=sg 0 c10<|eF (.exit 0) (lC p m out)
  exact fX Qu (by intro hx;cases hx) z<|by kernel_rfl
theorem zf(hR83:pJ R83){x:waB}(h:om R83 names v t31 t32 out t33=some x):aF Pg GE 0 (.loop (cA S0 247)) (EX (.exit 0) (lC p m x)) (fD names v p t31 t32 m out t33):=
 aF.loop (S:=fun(zz:waB×Int)=>fD names v p t31 t32 m zz.1 zz.2) (ex:=(fun _=>.exit 0)) (s:=(out,t33)) h fun zz y hy=>xP R83 names v p t31 t32 m zz.1 zz.2 hR83 hy
end
def lA(R83:lF)(p:aa)(names:waA)(a:waB):Option aa:=
 (kr names a p).bind fun o9=>match o9 with
 |(.inl o9)=>
  some (⟨o9.1,o9.2.1,o9.2.2.1,o9.2.2.2⟩:aa)
 |(.inr o9)=>
  (om R83 names a p.Kids (p.Kids.length:Int) ([]:List aa) 0).bind fun o14=>
  (Kd p o14).bind fun r15=>
  some r15
theorem Cl(R83:lF)(hR83:pJ R83){p:aa}{names:waA}{a:waB}{r:aa}(h:lA R83 p names a=some r):CC Pg GE 90 [.agg (ac p),sl cS names,sl ac a] (.agg (ac r)) []:=by
 obtain⟨o9,bo9,h⟩:=aw h
 rcases o9 with o9|o9
 ·obtain rfl:=lf h
  have z:=se (bz p)<|sx dW<|kq 0<|cC (e:=.ret) (s1:=ed names a p ([]:List aa) (.inl o9)) (pR names a p ([]:List aa) bo9)<|en (aI (co (⟨o9.1,o9.2.1,o9.2.2.1,o9.2.2.2⟩:aa))<|(ah (⟨o9.1,o9.2.1,o9.2.2.1,o9.2.2.2⟩:aa)))
  exact bS Qu call90 func90 (c:=S0) rfl (aI (ah p) (aI (am d7 names) (aI (am ah a) trivial))) z<|by kernel_rfl
 ·obtain⟨o14,bo14,h⟩:=aw h
  obtain⟨r15,br15,h⟩:=aw h
  obtain rfl:=lf h
  have z:=se (bz p)<|sx dW<|kq 0<|cC (e:=.normal) (s1:=ed names a p ([]:List aa) (.inr o9)) (pR names a p ([]:List aa) bo9)<|sv (aK p)<|sv (aL p)<|cG (aP.ln p.Kids)<|cC (zf R83 names a p p.Kids (p.Kids.length:Int) ([]:List aa) ([]:List aa) 0 hR83 bo14)<|sv (az p)<|bg (Ke br15)<|sx (aZ r15)<|en (aI (co r15)<|(ah r15))
  exact bS Qu call90 func90 (c:=S0) rfl (aI (ah p) (aI (am d7 names) (aI (am ah a) trivial))) z<|by kernel_rfl
def pQ:((aa×waA×waB)->Option aa)->(aa×waA×waB)->Option aa:=fun(rec:(aa×waA×waB)->Option aa) (x:aa×waA×waB)=>lA (fun p names a=>rec (p,names,a)) x.1 x.2.1 x.2.2
def jB(p:aa)(names:waA)(a:waB):Option aa:=nS pQ (p,names,a)
theorem oo{p:aa}{names:waA}{a:waB}{r:aa}(h:jB p names a=some r):CC Pg GE 90 [.agg (ac p),sl cS names,sl ac a] (.agg (ac r)) []:=
 cU (F:=pQ) (M:=fun(x:aa×waA×waB) (r:aa)=>CC Pg GE 90 [.agg (ac x.1),sl cS x.2.1,sl ac x.2.2] (.agg (ac r)) []) (fun rec hrec x r h=>Cl _ (fun p names a r h=>hrec (p,names,a) r h) h) h
abbrev uh:=(aa->Option waA)
abbrev y3(R:uh):Prop:=∀(p:aa) (r:waA),R p=some r->CC Pg GE 30 [.agg (ac p)] (sl cS r) [(0,9)]
noncomputable def SZ:Code:=f68.body.getD .skip
def Qt:List Nat:=[19,28,46,51]
section
variable(v:waA)(s:ag)(out:waA)(i:Int)
def IU:av:=aM 52 [(0,sl cS v),(1,.str s),(5,sl cS out),(6,.int .i64 i)] [] [((5,0),9)]
def tT(o:Bool):av:=aM 52 [(0,sl cS v),(1,.str s),(5,sl cS out),(6,.int .i64 i),(18,.bool o)] [] [((5,0),9)]
def mH:Option Bool:=
 if(decide (i<(v.length:Int)))=true then
  (dz v i).bind fun x2=>
  some (Op.bytesLess x2 s)
 else
  some false
theorem Hk{x:Bool}(h:mH v s i=some x):aF Pg GE 0 (cA SZ 492) (EX .normal (tT v s out i x)) (IU v s out i):=by
 rcases aU h with⟨c1,h⟩|⟨c1,h⟩
 ·obtain⟨x2,bx2,h⟩:=aw h
  obtain rfl:=lf h
  exact cm Qt (cG (ba.ln v)<|sg 5 c1<|sv (ba.ia (k:=.i64) bx2)<|sv (cY yR (.str x2) [])<|eF .normal (tT v s out i (Op.bytesLess x2 s)))<|by kernel_rfl
 ·obtain rfl:=lf h
  exact cm Qt (cG (ba.ln v)<|sg 5 c1<|eF .normal (tT v s out i false))<|by kernel_rfl
end
section
variable(v:waA)(s:ag)(out:waA)(i:Int)
def lw:av:=aM 52 [(0,sl cS v),(1,.str s),(5,sl cS out),(6,.int .i64 i)] [] [((5,0),9)]
def tX(o:waA×Int):av:=aM 52 [(0,sl cS v),(1,.str s),(5,sl cS o.1),(6,.int .i64 o.2)] [] [((5,0),9)]
def lx:Option ((waA×Int)⊕((waA×Int))):=
 (mH v s i).bind fun o3=>
 if o3=true then
  (dz v i).bind fun x6=>
  (app out ([x6]:List ag)).bind fun l7=>
  some (.inl (l7,bC (i+1)))
 else
  some (.inr (out,i))
def za:Option ((waA×Int)):=loop (fun(zz:waA×Int)=>lx v s zz.1 zz.2) (out,i)
theorem E3{y:(waA×Int)⊕((waA×Int))}(h:lx v s out i=some y):aF Pg GE 0 (cA SZ 123) (LQ (fun(zz:waA×Int)=>lw v s zz.1 zz.2) (fun _=>.exit 0) (tX v s) y) (lw v s out i):=by
 obtain⟨o3,bo3,h⟩:=aw h
 have p5:=fun{sc F} (r:PS sc F)=>kq 1<|cC (Hk v s out i bo3)<|r
 rcases aU h with⟨c4,h⟩|⟨c4,h⟩
 ·obtain⟨x6,bx6,h⟩:=aw h
  obtain⟨l7,bl7,h⟩:=aw h
  obtain rfl:=lf h
  exact sT Qt (p5<|sg 0 c4<|sv (ba.ia (k:=.i64) bx6)<|sv (cY yR (.str x6) [])<|sv (ba.mk' (v:=PVal.str) CW ([x6]:List ag) 1 (by kernel_rfl))<|sv (ba.ap bl7)<|eF .normal (lw v s l7 (bC (i+1))))<|by kernel_rfl
 ·obtain rfl:=lf h
  have z:=p5<|sg 0 c4<|eF (.exit 0) (tX v s (out,i))
  exact fX Qt (by intro hx;cases hx) z<|by kernel_rfl
theorem Hn{x:(waA×Int)}(h:za v s out i=some x):aF Pg GE 0 (.loop (cA SZ 123)) (EX (.exit 0) (tX v s x)) (lw v s out i):=
 aF.loop (S:=fun(zz:waA×Int)=>lw v s zz.1 zz.2) (ex:=(fun _=>.exit 0)) (s:=(out,i)) h fun zz y hy=>E3 v s zz.1 zz.2 hy
end
section
variable(v:waA)(s:ag)(out:waA)(i:Int)
def IW:av:=aM 52 [(0,sl cS v),(1,.str s),(5,sl cS out),(6,.int .i64 i)] [] [((5,0),9)]
def tW(o:Bool):av:=aM 52 [(0,sl cS v),(5,sl cS out),(6,.int .i64 i),(43,.bool o)] [] [((5,0),9)]
def y9:Option Bool:=
 if(decide (i<(v.length:Int)))=true then
  (dz v i).bind fun x11=>
  some (x11==s)
 else
  some false
theorem Hm{x:Bool}(h:y9 v s i=some x):aF Pg GE 0 (cA SZ 252) (EX .normal (tW v out i x)) (IW v s out i):=by
 rcases aU h with⟨c10,h⟩|⟨c10,h⟩
 ·obtain⟨x11,bx11,h⟩:=aw h
  obtain rfl:=lf h
  exact cm Qt (cG (ba.ln v)<|sg 5 c10<|sv (ba.ia (k:=.i64) bx11)<|sv (cY yR (.str x11) [])<|eF .normal (tW v out i (x11==s)))<|by kernel_rfl
 ·obtain rfl:=lf h
  exact cm Qt (cG (ba.ln v)<|sg 5 c10<|eF .normal (tW v out i false))<|by kernel_rfl
end
section
variable(v:waA)(s:ag)(out:waA)(i:Int)
def IV:av:=aM 52 [(0,sl cS v),(1,.str s),(5,sl cS out),(6,.int .i64 i)] [] [((5,0),9)]
def tV(o:Int):av:=aM 52 [(0,sl cS v),(5,sl cS out),(6,.int .i64 o)] [] [((5,0),9)]
def tU:Option Int:=
 (y9 v s i).bind fun o12=>
 if o12=true then
  some (bC (i+1))
 else
  some i
theorem Hl{x:Int}(h:tU v s i=some x):aF Pg GE 0 (cA SZ 126) (EX .normal (tV v out x)) (IV v s out i):=by
 obtain⟨o12,bo12,h⟩:=aw h
 have p14:=fun{sc F} (r:PS sc F)=>kq 0<|cC (Hm v s out i bo12)<|r
 rcases aU h with⟨c13,h⟩|⟨c13,h⟩
 ·obtain rfl:=lf h
  exact cm Qt (p14<|sg 0 c13<|eF .normal (tV v out (bC (i+1))))<|by kernel_rfl
 ·obtain rfl:=lf h
  exact cm Qt (p14<|sg 0 c13<|eF .normal (tV v out i))<|by kernel_rfl
end
def qU(a:waA)(s:ag):Option waA:=
 (za a s ([]:List ag) 0).bind fun o8=>
 (app o8.1 ([s]:List ag)).bind fun l9=>
 (tU a s o8.2).bind fun o15=>
 (Lo a (some o15) none).bind fun l16=>
 (app l9 l16).bind fun l17=>
 some l17
theorem tY{a:waA}{s:ag}{r:waA}(h:qU a s=some r):CC Pg GE 68 [sl cS a,.str s] (sl cS r) [(0,9)]:=by
 obtain⟨o8,bo8,h⟩:=aw h
 obtain⟨l9,bl9,h⟩:=aw h
 obtain⟨o15,bo15,h⟩:=aw h
 obtain⟨l16,bl16,h⟩:=aw h
 obtain⟨l17,bl17,h⟩:=aw h
 obtain rfl:=lf h
 have z:=cC (Hn a s ([]:List ag) 0 bo8)<|sv (ba.mk' (v:=PVal.str) CW ([s]:List ag) 1 (by kernel_rfl))<|sv (ba.ap bl9)<|kq 0<|cC (Hl a s l9 o8.2 bo15)<|sv (ba.sc bl16)<|sv (ba.ap bl17)<|en (aI (rP (sl cS l17))<|(am d7 l17))
 exact bS Qt call68 func68 (c:=SZ) rfl (aI (am d7 a) (aI trivial trivial)) z<|by kernel_rfl
noncomputable def Qi:Code:=f33.body.getD .skip
def Qh:List Nat:=[12,24,32]
section
variable(v:waA)(v2:waA)(t9:Int)(out:waA)(t10:Int)
def iY:av:=aM 33 [(0,sl cS v),(1,sl cS v2),(5,sl cS out),(9,.int .i64 t9),(10,.int .i64 t10)] [] [((5,0),9)]
def pN(o:waA):av:=aM 33 [(1,sl cS v2),(5,sl cS o)] [] [((5,0),9)]
def iZ:Option ((waA×Int)⊕(waA)):=
 if(decide (t10<t9))=true then
  (dz v t10).bind fun x2=>
  (qU out x2).bind fun r3=>
  some (.inl (r3,bC (t10+1)))
 else
  some (.inr out)
def ls:Option waA:=loop (fun(zz:waA×Int)=>iZ v t9 zz.1 zz.2) (out,t10)
theorem Ci{y:(waA×Int)⊕(waA)}(h:iZ v t9 out t10=some y):aF Pg GE 0 (cA Qi 119) (LQ (fun(zz:waA×Int)=>iY v v2 t9 zz.1 zz.2) (fun _=>.exit 0) (pN v2) y) (iY v v2 t9 out t10):=by
 rcases aU h with⟨c1,h⟩|⟨c1,h⟩
 ·obtain⟨x2,bx2,h⟩:=aw h
  obtain⟨r3,br3,h⟩:=aw h
  obtain rfl:=lf h
  exact sT Qh (sg 0 c1<|sv (ba.ia (k:=.i64) bx2)<|sv (cY yR (.str x2) [])<|bg (tY br3)<|eF .normal (iY v v2 t9 r3 (bC (t10+1))))<|by kernel_rfl
 ·obtain rfl:=lf h
  have z:=sg 0 c1<|eF (.exit 0) (pN v2 out)
  exact fX Qh (by intro hx;cases hx) z<|by kernel_rfl
theorem DT{x:waA}(h:ls v t9 out t10=some x):aF Pg GE 0 (.loop (cA Qi 119)) (EX (.exit 0) (pN v2 x)) (iY v v2 t9 out t10):=
 aF.loop (S:=fun(zz:waA×Int)=>iY v v2 t9 zz.1 zz.2) (ex:=(fun _=>.exit 0)) (s:=(out,t10)) h fun zz y hy=>Ci v v2 t9 zz.1 zz.2 hy
end
section
variable(v:waA)(t21:Int)(out:waA)(t22:Int)
def i6:av:=aM 33 [(1,sl cS v),(5,sl cS out),(21,.int .i64 t21),(22,.int .i64 t22)] [] [((5,0),9)]
def pO(o:waA):av:=aM 33 [(5,sl cS o)] [] [((5,0),9)]
def cu:Option ((waA×Int)⊕(waA)):=
 if(decide (t22<t21))=true then
  (dz v t22).bind fun x6=>
  (qU out x6).bind fun r7=>
  some (.inl (r7,bC (t22+1)))
 else
  some (.inr out)
def lu:Option waA:=loop (fun(zz:waA×Int)=>cu v t21 zz.1 zz.2) (out,t22)
theorem Cj{y:(waA×Int)⊕(waA)}(h:cu v t21 out t22=some y):aF Pg GE 0 (cA Qi 247) (LQ (fun(zz:waA×Int)=>i6 v t21 zz.1 zz.2) (fun _=>.exit 2) pO y) (i6 v t21 out t22):=by
 rcases aU h with⟨c5,h⟩|⟨c5,h⟩
 ·obtain⟨x6,bx6,h⟩:=aw h
  obtain⟨r7,br7,h⟩:=aw h
  obtain rfl:=lf h
  exact sT Qh (sg 0 c5<|sv (ba.ia (k:=.i64) bx6)<|sv (cY yR (.str x6) [])<|bg (tY br7)<|eF .normal (i6 v t21 r7 (bC (t22+1))))<|by kernel_rfl
 ·obtain rfl:=lf h
  have z:=sg 0 c5<|eF (.exit 2) (pO out)
  exact fX Qh (by intro hx;cases hx) z<|by kernel_rfl
theorem DU{x:waA}(h:lu v t21 out t22=some x):aF Pg GE 0 (.loop (cA Qi 247)) (EX (.exit 2) (pO x)) (i6 v t21 out t22):=
 aF.loop (S:=fun(zz:waA×Int)=>i6 v t21 zz.1 zz.2) (ex:=(fun _=>.exit 2)) (s:=(out,t22)) h fun zz y hy=>Cj v t21 zz.1 zz.2 hy
end
def ec(a:waA)(a2:waA):Option waA:=
 (ls a (a.length:Int) ([]:List ag) 0).bind fun o4=>
 (lu a2 (a2.length:Int) o4 0).bind fun o8=>
 some o8
theorem jz{a:waA}{a2:waA}{r:waA}(h:ec a a2=some r):CC Pg GE 33 [sl cS a,sl cS a2] (sl cS r) [(0,9)]:=by
 obtain⟨o4,bo4,h⟩:=aw h
 obtain⟨o8,bo8,h⟩:=aw h
 obtain rfl:=lf h
 have z:=cG (ba.ln a)<|cC (DT a a2 (a.length:Int) ([]:List ag) 0 bo4)<|cG (ba.ln a2)<|cC (DU a2 (a2.length:Int) o4 0 bo8)<|en (aI (rP (sl cS o8))<|(am d7 o8))
 exact bS Qh call33 func33 (c:=Qi) rfl (aI (am d7 a) (aI (am d7 a2) trivial)) z<|by kernel_rfl
noncomputable def Ug:Code:=f30.body.getD .skip
def Tc:List Nat:=[24]
section
variable(p:aa)
def Ho:av:=aM 25 [(1,.eptr (ac p)),(3,sl cS ([]:List ag))] [.dead] [((3,0),9)]
def rZ(o:waA):av:=aM 25 [(1,.eptr (ac p)),(3,sl cS o)] [.dead] [((3,0),9)]
def vW:Option waA:=
 if(p.Op==3)=true then
  some ([p.Name]:List ag)
 else
  some ([]:List ag)
theorem E6{x:waA}(h:vW p=some x):aF Pg GE 0 (cA Ug 14) (EX .normal (rZ p x)) (Ho p):=by
 have p2:=fun{sc F} (r:PS sc F)=>sv (aR p)<|sv (aS p)<|r
 rcases aU h with⟨c1,h⟩|⟨c1,h⟩
 ·obtain rfl:=lf h
  exact cm Tc (p2<|sg 0 c1<|sv (ca p)<|sv (cq p)<|sv (ba.mk' (v:=PVal.str) CW ([p.Name]:List ag) 1 (by kernel_rfl))<|eF .normal (rZ p ([p.Name]:List ag)))<|by kernel_rfl
 ·obtain rfl:=lf h
  exact cm Tc (p2<|sg 0 c1<|eF .normal (rZ p ([]:List ag)))<|by kernel_rfl
end
section
variable(R86:uh)(t13:waB)(t14:Int)(out:waA)(t15:Int)
def j0:av:=aM 25 [(3,sl cS out),(13,sl ac t13),(14,.int .i64 t14),(15,.int .i64 t15)] [.dead] [((3,0),9)]
def sa(o:waA):av:=aM 25 [(3,sl cS o)] [.dead] [((3,0),9)]
def yk:Option ((waA×Int)⊕(waA)):=
 if(decide (t15<t14))=true then
  (dz t13 t15).bind fun x5=>
  (R86 x5).bind fun r6=>
  (ec out r6).bind fun r7=>
  some (.inl (r7,bC (t15+1)))
 else
  some (.inr out)
def vX:Option waA:=loop (fun(zz:waA×Int)=>yk R86 t13 t14 zz.1 zz.2) (out,t15)
theorem DV(hR86:y3 R86){y:(waA×Int)⊕(waA)}(h:yk R86 t13 t14 out t15=some y):aF Pg GE 0 (cA Ug 247) (LQ (fun(zz:waA×Int)=>j0 t13 t14 zz.1 zz.2) (fun _=>.exit 0) sa y) (j0 t13 t14 out t15):=by
 rcases aU h with⟨c4,h⟩|⟨c4,h⟩
 ·obtain⟨x5,bx5,h⟩:=aw h
  obtain⟨r6,br6,h⟩:=aw h
  obtain⟨r7,br7,h⟩:=aw h
  obtain rfl:=lf h
  have z:=sg 0 c4<|sv (aP.ia (k:=.i64) bx5)<|sv (az x5)<|sx dW<|sx (aZ x5)<|sv (aO x5 [])<|bg (hR86 _ _ br6)<|bg (jz br7)<|oz 0 .normal (j0 t13 t14 r7 (bC (t15+1))) rfl (cz (aI (up (am d7 r7)) (aI (up (am ah t13)) (aI trivial (aI trivial trivial))))) (aI trivial trivial)
  exact cw (A:=Tc) mixed z<|by kernel_rfl
 ·obtain rfl:=lf h
  have z:=sg 0 c4<|eF (.exit 0) (sa out)
  exact fX Tc (by intro hx;cases hx) z<|by kernel_rfl
theorem E7(hR86:y3 R86){x:waA}(h:vX R86 t13 t14 out t15=some x):aF Pg GE 0 (.loop (cA Ug 247)) (EX (.exit 0) (sa x)) (j0 t13 t14 out t15):=
 aF.loop (S:=fun(zz:waA×Int)=>j0 t13 t14 zz.1 zz.2) (ex:=(fun _=>.exit 0)) (s:=(out,t15)) h fun zz y hy=>DV R86 t13 t14 zz.1 zz.2 hR86 hy
end
def tZ(R86:uh)(p:aa):Option waA:=
 (vW p).bind fun o3=>
 (vX R86 p.Kids (p.Kids.length:Int) o3 0).bind fun o8=>
 some o8
theorem IX(R86:uh)(hR86:y3 R86){p:aa}{r:waA}(h:tZ R86 p=some r):CC Pg GE 30 [.agg (ac p)] (sl cS r) [(0,9)]:=by
 obtain⟨o3,bo3,h⟩:=aw h
 obtain⟨o8,bo8,h⟩:=aw h
 obtain rfl:=lf h
 have z:=se (bz p)<|kq 1<|cC (E6 p bo3)<|sv (aK p)<|sv (aL p)<|cG (aP.ln p.Kids)<|cC (E7 R86 p.Kids (p.Kids.length:Int) o3 0 hR86 bo8)<|en (aI (rP (sl cS o8))<|(am d7 o8))
 exact bS Tc call30 func30 (c:=Ug) rfl (aI (ah p) trivial) z<|by kernel_rfl
def zc:(aa->Option waA)->(aa)->Option waA:=fun(rec:aa->Option waA) (x:aa)=>tZ (fun p=>rec p) x
def nH(p:aa):Option waA:=nS zc p
theorem vY{p:aa}{r:waA}(h:nH p=some r):CC Pg GE 30 [.agg (ac p)] (sl cS r) [(0,9)]:=
 cU (F:=zc) (M:=fun(x:aa) (r:waA)=>CC Pg GE 30 [.agg (ac x)] (sl cS r) [(0,9)]) (fun rec hrec x r h=>IX _ (fun p r h=>hrec p r h) h) h
noncomputable def UV:Code:=f91.body.getD .skip
def UB:List Nat:=[17]
section
variable(t6:waB)(t7:Int)(out:waA)(t8:Int)
def jd:av:=aM 18 [(3,sl cS out),(6,sl ac t6),(7,.int .i64 t7),(8,.int .i64 t8)] [] [((3,0),9)]
def qa(o:waA):av:=aM 18 [(3,sl cS o)] [] [((3,0),9)]
def wn:Option ((waA×Int)⊕(waA)):=
 if(decide (t8<t7))=true then
  (dz t6 t8).bind fun x2=>
  (nH x2).bind fun r3=>
  (ec out r3).bind fun r4=>
  some (.inl (r4,bC (t8+1)))
 else
  some (.inr out)
def ug:Option waA:=loop (fun(zz:waA×Int)=>wn t6 t7 zz.1 zz.2) (out,t8)
theorem Cq{y:(waA×Int)⊕(waA)}(h:wn t6 t7 out t8=some y):aF Pg GE 0 (cA UV 119) (LQ (fun(zz:waA×Int)=>jd t6 t7 zz.1 zz.2) (fun _=>.exit 0) qa y) (jd t6 t7 out t8):=by
 rcases aU h with⟨c1,h⟩|⟨c1,h⟩
 ·obtain⟨x2,bx2,h⟩:=aw h
  obtain⟨r3,br3,h⟩:=aw h
  obtain⟨r4,br4,h⟩:=aw h
  obtain rfl:=lf h
  have z:=sg 0 c1<|sv (aP.ia (k:=.i64) bx2)<|sv (az x2)<|sx dW<|sx (aZ x2)<|sv (aO x2 [])<|bg (vY br3)<|bg (jz br4)<|oz 0 .normal (jd t6 t7 r4 (bC (t8+1))) rfl (cz (aI (up (am d7 r4)) (aI (up (am ah t6)) (aI trivial (aI trivial trivial))))) trivial
  exact cw (A:=UB) mixed z<|by kernel_rfl
 ·obtain rfl:=lf h
  have z:=sg 0 c1<|eF (.exit 0) (qa out)
  exact fX UB (by intro hx;cases hx) z<|by kernel_rfl
theorem D8{x:waA}(h:ug t6 t7 out t8=some x):aF Pg GE 0 (.loop (cA UV 119)) (EX (.exit 0) (qa x)) (jd t6 t7 out t8):=
 aF.loop (S:=fun(zz:waA×Int)=>jd t6 t7 zz.1 zz.2) (ex:=(fun _=>.exit 0)) (s:=(out,t8)) h fun zz y hy=>Cq t6 t7 zz.1 zz.2 hy
end
def xp(a:waB):Option waA:=
 (ug a (a.length:Int) ([]:List ag) 0).bind fun o5=>
 some o5
theorem I6{a:waB}{r:waA}(h:xp a=some r):CC Pg GE 91 [sl ac a] (sl cS r) [(0,9)]:=by
 obtain⟨o5,bo5,h⟩:=aw h
 obtain rfl:=lf h
 have z:=cG (aP.ln a)<|cC (D8 a (a.length:Int) ([]:List ag) 0 bo5)<|en (aI (rP (sl cS o5))<|(am d7 o5))
 exact bS UB call91 func91 (c:=UV) rfl (aI (am ah a) trivial) z<|by kernel_rfl
abbrev uj:=(ae->Option waA)
abbrev y5(R:uj):Prop:=∀(t:ae) (r:waA),R t=some r->CC Pg GE 38 [.agg (af t)] (sl cS r) [(0,9)]
noncomputable def UT:Code:=f79.body.getD .skip
def Ua:List Nat:=[18,23]
section
variable(names:waA)(t8:waA)(t9:Int)(out:waA)(t10:Int)
def eR:av:=aM 24 [(1,sl cS names),(5,sl cS out),(8,sl cS t8),(9,.int .i64 t9),(10,.int .i64 t10)] [] [((5,0),9)]
def mM(o:waA):av:=aM 24 [(5,sl cS o)] [] [((5,0),9)]
def sZ:Option ((waA×Int)⊕(waA)):=
 if(decide (t10<t9))=true then
  (dz t8 t10).bind fun x2=>
  (fx names x2).bind fun r3=>
  if(decide (r3<0))=true then
   (app out ([x2]:List ag)).bind fun l6=>
   some (.inl (l6,bC (t10+1)))
  else
   some (.inl (out,bC (t10+1)))
 else
  some (.inr out)
def qb:Option waA:=loop (fun(zz:waA×Int)=>sZ names t8 t9 zz.1 zz.2) (out,t10)
theorem zm{y:(waA×Int)⊕(waA)}(h:sZ names t8 t9 out t10=some y):aF Pg GE 0 (cA UT 119) (LQ (fun(zz:waA×Int)=>eR names t8 t9 zz.1 zz.2) (fun _=>.exit 0) mM y) (eR names t8 t9 out t10):=by
 rcases aU h with⟨c1,h⟩|⟨c1,h⟩
 ·obtain⟨x2,bx2,h⟩:=aw h
  obtain⟨r3,br3,h⟩:=aw h
  have p5:=fun{sc F} (r:PS sc F)=>sg 0 c1<|sv (ba.ia (k:=.i64) bx2)<|sv (cY yR (.str x2) [])<|bg (kY br3)<|r
  rcases aU h with⟨c4,h⟩|⟨c4,h⟩
  ·obtain⟨l6,bl6,h⟩:=aw h
   obtain rfl:=lf h
   exact sT Ua (p5<|sg 0 c4<|sv (ba.mk' (v:=PVal.str) CW ([x2]:List ag) 1 (by kernel_rfl))<|sv (ba.ap bl6)<|eF .normal (eR names t8 t9 l6 (bC (t10+1))))<|by kernel_rfl
  ·obtain rfl:=lf h
   exact sT Ua (p5<|sg 0 c4<|eF .normal (eR names t8 t9 out (bC (t10+1))))<|by kernel_rfl
 ·obtain rfl:=lf h
  have z:=sg 0 c1<|eF (.exit 0) (mM out)
  exact fX Ua (by intro hx;cases hx) z<|by kernel_rfl
theorem Ay{x:waA}(h:qb names t8 t9 out t10=some x):aF Pg GE 0 (.loop (cA UT 119)) (EX (.exit 0) (mM x)) (eR names t8 t9 out t10):=
 aF.loop (S:=fun(zz:waA×Int)=>eR names t8 t9 zz.1 zz.2) (ex:=(fun _=>.exit 0)) (s:=(out,t10)) h fun zz y hy=>zm names t8 t9 zz.1 zz.2 hy
end
def je(a:waA)(names:waA):Option waA:=
 (qb names a (a.length:Int) ([]:List ag) 0).bind fun o7=>
 some o7
theorem wo{a:waA}{names:waA}{r:waA}(h:je a names=some r):CC Pg GE 79 [sl cS a,sl cS names] (sl cS r) [(0,9)]:=by
 obtain⟨o7,bo7,h⟩:=aw h
 obtain rfl:=lf h
 have z:=cG (ba.ln a)<|cC (Ay names a (a.length:Int) ([]:List ag) 0 bo7)<|en (aI (rP (sl cS o7))<|(am d7 o7))
 exact bS Ua call79 func79 (c:=UT) rfl (aI (am d7 a) (aI (am d7 names) trivial)) z<|by kernel_rfl
noncomputable def SX:Code:=f38.body.getD .skip
def RX:List Nat:=[32,53]
section
variable(t:ae)(t14:waB)(t15:Int)(out:waA)(t16:Int)
def j4:av:=aM 54 [(1,.eptr (af t)),(3,sl cS out),(14,sl ac t14),(15,.int .i64 t15),(16,.int .i64 t16)] [.dead] [((14,0),28),((3,0),9)]
def sh(o:waA):av:=aM 54 [(1,.eptr (af t)),(3,sl cS o)] [.dead] [((3,0),9)]
def yl:Option ((waA×Int)⊕(waA)):=
 if(decide (t16<t15))=true then
  (dz t14 t16).bind fun x3=>
  (nH x3).bind fun r4=>
  (je r4 ([([118]:ag)]:List ag)).bind fun r5=>
  (ec out r5).bind fun r6=>
  some (.inl (r6,bC (t16+1)))
 else
  some (.inr out)
def wb:Option waA:=loop (fun(zz:waA×Int)=>yl t14 t15 zz.1 zz.2) (out,t16)
theorem D1{y:(waA×Int)⊕(waA)}(h:yl t14 t15 out t16=some y):aF Pg GE 0 (cA SX 119) (LQ (fun(zz:waA×Int)=>j4 t t14 t15 zz.1 zz.2) (fun _=>.exit 0) (sh t) y) (j4 t t14 t15 out t16):=by
 rcases aU h with⟨c2,h⟩|⟨c2,h⟩
 ·obtain⟨x3,bx3,h⟩:=aw h
  obtain⟨r4,br4,h⟩:=aw h
  obtain⟨r5,br5,h⟩:=aw h
  obtain⟨r6,br6,h⟩:=aw h
  obtain rfl:=lf h
  have z:=sg 0 c2<|sv (aP.ia (k:=.i64) bx3)<|sv (az x3)<|sx dW<|sx (aZ x3)<|sv (aO x3 [])<|bg (vY br4)<|sv (ba.mk' (v:=PVal.str) CW ([([118]:ag)]:List ag) 1 (by kernel_rfl))<|bg (wo br5)<|bg (jz br6)<|oz 0 .normal (j4 t t14 t15 r6 (bC (t16+1))) rfl (cz (aI (lM (ak t)) (aI (up (am d7 r6)) (aI (up (am ah t14)) (aI trivial (aI trivial trivial)))))) (aI trivial trivial)
  exact cw (A:=RX) mixed z<|by kernel_rfl
 ·obtain rfl:=lf h
  have z:=sg 0 c2<|eF (.exit 0) (sh t out)
  exact fX RX (by intro hx;cases hx) z<|by kernel_rfl
theorem Fe{x:waA}(h:wb t14 t15 out t16=some x):aF Pg GE 0 (.loop (cA SX 119)) (EX (.exit 0) (sh t x)) (j4 t t14 t15 out t16):=
 aF.loop (S:=fun(zz:waA×Int)=>j4 t t14 t15 zz.1 zz.2) (ex:=(fun _=>.exit 0)) (s:=(out,t16)) h fun zz y hy=>D1 t t14 t15 zz.1 zz.2 hy
end
section
variable(t:ae)(out:waA)(bound:waA)(t28:waC)(t29:Int)(t30:Int)(m:Int)(m2:ag)(m3:waC)(m4:waA)(m5:Int)(m6:ag)(m7:Int)(m8:waB)(m9:waB)
def Hr:av:=aM 54 [(1,.eptr (af t)),(3,sl cS out),(7,.bptr 1 0),(8,sl cS bound),(28,sl af t28),(29,.int .i64 t29),(30,.int .i64 t30)] [.dead,.cells [.int .i64 m,.str m2,sl af m3,sl cS m4,.int .i64 m5,.str m6,.int .i64 m7,sl ac m8,sl ac m9] []] [((3,0),9)]
def sd(o:waA):av:=aM 54 [(1,.eptr (af t)),(3,sl cS out),(7,.bptr 1 0),(8,sl cS o),(28,sl af t28),(29,.int .i64 t29),(30,.int .i64 t30)] [.dead,.cells [.int .i64 m,.str m2,sl af m3,sl cS m4,.int .i64 m5,.str m6,.int .i64 m7,sl ac m8,sl ac m9] []] [((3,0),9)]
def nI:Option waA:=
 if(t.Op !=6)=true then
  some ([]:List ag)
 else
  some bound
theorem Fd{x:waA}(h:nI t bound=some x):aF Pg GE 0 (cA SX 31726) (EX .normal (sd t out t28 t29 t30 m m2 m3 m4 m5 m6 m7 m8 m9 x)) (Hr t out bound t28 t29 t30 m m2 m3 m4 m5 m6 m7 m8 m9):=by
 have p12:=fun{sc F} (r:PS sc F)=>sv (aA t)<|sv (aC t)<|r
 rcases aU h with⟨c11,h⟩|⟨c11,h⟩
 ·obtain rfl:=lf h
  exact cm RX (p12<|sg 0 c11<|eF .normal (sd t out t28 t29 t30 m m2 m3 m4 m5 m6 m7 m8 m9 ([]:List ag)))<|by kernel_rfl
 ·obtain rfl:=lf h
  exact cm RX (p12<|sg 0 c11<|eF .normal (sd t out t28 t29 t30 m m2 m3 m4 m5 m6 m7 m8 m9 bound))<|by kernel_rfl
end
section
variable(R89:uj)(t:ae)(t28:waC)(t29:Int)(out:waA)(t30:Int)
def j5:av:=aM 54 [(1,.eptr (af t)),(3,sl cS out),(28,sl af t28),(29,.int .i64 t29),(30,.int .i64 t30)] [.dead] [((3,0),9)]
def sj(o:waA):av:=aM 54 [(3,sl cS o)] [.dead] [((3,0),9)]
def ym:Option ((waA×Int)⊕(waA)):=
 if(decide (t30<t29))=true then
  (dz t28 t30).bind fun x9=>
  (Lo t.Names none (some (if(t.Names.length:Int)<t30 then(t.Names.length:Int)else t30))).bind fun l10=>
  (nI t l10).bind fun o13=>
  (R89 x9).bind fun r14=>
  (je r14 o13).bind fun r15=>
  (ec out r15).bind fun r16=>
  some (.inl (r16,bC (t30+1)))
 else
  some (.inr out)
def wc:Option waA:=loop (fun(zz:waA×Int)=>ym R89 t t28 t29 zz.1 zz.2) (out,t30)
theorem D2(hR89:y5 R89){y:(waA×Int)⊕(waA)}(h:ym R89 t t28 t29 out t30=some y):aF Pg GE 0 (cA SX 247) (LQ (fun(zz:waA×Int)=>j5 t t28 t29 zz.1 zz.2) (fun _=>.exit 2) sj y) (j5 t t28 t29 out t30):=by
 rcases aU h with⟨c8,h⟩|⟨c8,h⟩
 ·obtain⟨x9,bx9,h⟩:=aw h
  obtain⟨l10,bl10,h⟩:=aw h
  obtain⟨o13,bo13,h⟩:=aw h
  obtain⟨r14,br14,h⟩:=aw h
  obtain⟨r15,br15,h⟩:=aw h
  obtain⟨r16,br16,h⟩:=aw h
  obtain rfl:=lf h
  have z:=sg 0 c8<|sv (dP.ia (k:=.i64) bx9)<|sv (aW x9)<|sx iq<|sx (cn x9)<|sv (aB t)<|sv (aD t)<|sv (aB t)<|sv (aD t)<|cG (ba.ln t.Names)<|sv (ba.sc bl10)<|kq 0<|cC (Fd t out l10 t28 t29 t30 x9.Op x9.Name x9.Args x9.Names x9.Pred.Op x9.Pred.Name x9.Pred.N x9.Pred.Kids x9.Preds bo13)<|sv (bh x9 [])<|bg (hR89 _ _ br14)<|bg (wo br15)<|bg (jz br16)<|oz 0 .normal (j5 t t28 t29 r16 (bC (t30+1))) rfl (cz (aI (lM (ak t)) (aI (up (am d7 r16)) (aI (up (am ak t28)) (aI trivial (aI trivial trivial)))))) (aI trivial trivial)
  exact cw (A:=RX) mixed z<|by kernel_rfl
 ·obtain rfl:=lf h
  have z:=sg 0 c8<|eF (.exit 2) (sj out)
  exact fX RX (by intro hx;cases hx) z<|by kernel_rfl
theorem Ff(hR89:y5 R89){x:waA}(h:wc R89 t t28 t29 out t30=some x):aF Pg GE 0 (.loop (cA SX 247)) (EX (.exit 2) (sj x)) (j5 t t28 t29 out t30):=
 aF.loop (S:=fun(zz:waA×Int)=>j5 t t28 t29 zz.1 zz.2) (ex:=(fun _=>.exit 2)) (s:=(out,t30)) h fun zz y hy=>D2 R89 t t28 t29 zz.1 zz.2 hR89 hy
end
def ud(R89:uj)(t:ae):Option waA:=
 (app ([t.Pred]:List aa) t.Preds).bind fun l1=>
 (wb l1 (l1.length:Int) ([]:List ag) 0).bind fun o7=>
 (wc R89 t t.Args (t.Args.length:Int) o7 0).bind fun o17=>
 some o17
theorem I3(R89:uj)(hR89:y5 R89){t:ae}{r:waA}(h:ud R89 t=some r):CC Pg GE 38 [.agg (af t)] (sl cS r) [(0,9)]:=by
 obtain⟨l1,bl1,h⟩:=aw h
 obtain⟨o7,bo7,h⟩:=aw h
 obtain⟨o17,bo17,h⟩:=aw h
 obtain rfl:=lf h
 have z:=se (bE t)<|sv (bF t)<|sv (bG t)<|sv (aP.mk' (v:=bR) aY ([t.Pred]:List aa) 1 (by kernel_rfl))<|sv (bT t)<|sv (bU t)<|sv (aP.ap bl1)<|cG (aP.ln l1)<|cC (Fe t l1 (l1.length:Int) ([]:List ag) 0 bo7)<|sv (aH t)<|sv (aJ t)<|cG (dP.ln t.Args)<|cC (Ff R89 t t.Args (t.Args.length:Int) o7 0 hR89 bo17)<|en (aI (rP (sl cS o17))<|(am d7 o17))
 exact bS RX call38 func38 (c:=SX) rfl (aI (ak t) trivial) z<|by kernel_rfl
def zg:(ae->Option waA)->(ae)->Option waA:=fun(rec:ae->Option waA) (x:ae)=>ud (fun t=>rec t) x
def Fc(t:ae):Option waA:=nS zg t
theorem Kh{t:ae}{r:waA}(h:Fc t=some r):CC Pg GE 38 [.agg (af t)] (sl cS r) [(0,9)]:=
 cU (F:=zg) (M:=fun(x:ae) (r:waA)=>CC Pg GE 38 [.agg (af x)] (sl cS r) [(0,9)]) (fun rec hrec x r h=>I3 _ (fun t r h=>hrec t r h) h) h
noncomputable def Uk:Code:=f92.body.getD .skip
def ST:List Nat:=[14,28,34]
section
variable(name:ag)(c:aj)(i:Int)(s:ag)(t10:waA)(t11:Int)(m:waB)(m2:waA)(m3:waB)
def Hu:av:=aM 45 [(1,.str name),(2,.eptr (au c)),(4,.bptr 1 0),(5,.bptr 2 0),(6,.int .i64 i),(7,.str s),(10,sl cS t10),(11,.int .i64 t11),(12,.int .i64 i)] [.dead,.cells [sl cS ([]:List ag),sl ac m] [(0,9),(1,28)],.cells [sl cS m2,sl ac m3] [(0,9),(1,28)]] []
def su(o:Bool):av:=aM 45 [(1,.str name),(2,.eptr (au c)),(4,.bptr 1 0),(5,.bptr 2 0),(6,.int .i64 i),(7,.str s),(10,sl cS t10),(11,.int .i64 t11),(12,.int .i64 i),(26,.bool o)] [.dead,.cells [sl cS ([]:List ag),sl ac m] [(0,9),(1,28)],.cells [sl cS m2,sl ac m3] [(0,9),(1,28)]] []
def wl:Option Bool:=
 if(decide (i<(c.By.length:Int)))=true then
  some (!(s==name))
 else
  some false
theorem Fj{x:Bool}(h:wl name c i s=some x):aF Pg GE 0 (cA Uk 7670) (EX .normal (su name c i s t10 t11 m m2 m3 x)) (Hu name c i s t10 t11 m m2 m3):=by
 have p4:=fun{sc F} (r:PS sc F)=>sv (cP c)<|sv (cQ c)<|cG (aP.ln c.By)<|r
 rcases aU h with⟨c3,h⟩|⟨c3,h⟩
 ·obtain rfl:=lf h
  exact cm ST (p4<|sg 6 c3<|eF .normal (su name c i s t10 t11 m m2 m3 (!(s==name))))<|by kernel_rfl
 ·obtain rfl:=lf h
  exact cm ST (p4<|sg 6 c3<|eF .normal (su name c i s t10 t11 m m2 m3 false))<|by kernel_rfl
end
section
variable(name:ag)(c:aj)(t10:waA)(t11:Int)(m:waB)(t12:Int)(m2:waA)(m3:waB)
def iG:av:=aM 45 [(1,.str name),(2,.eptr (au c)),(4,.bptr 1 0),(5,.bptr 2 0),(10,sl cS t10),(11,.int .i64 t11),(12,.int .i64 t12)] [.dead,.cells [sl cS ([]:List ag),sl ac m] [(0,9),(1,28)],.cells [sl cS m2,sl ac m3] [(0,9),(1,28)]] []
def sw(o:waA×waB):av:=aM 45 [(4,.bptr 1 0),(5,.bptr 2 0)] [.dead,.cells [sl cS ([]:List ag),sl ac m] [(0,9),(1,28)],.cells [sl cS o.1,sl ac o.2] [(0,9),(1,28)]] []
def fO:Option ((Int×waA×waB)⊕((waA×waB))):=
 if(decide (t12<t11))=true then
  (dz t10 t12).bind fun x2=>
  (wl name c t12 x2).bind fun o5=>
  if o5=true then
   (app m2 ([x2]:List ag)).bind fun l8=>
   (dz c.By t12).bind fun x9=>
   (app m3 ([x9]:List aa)).bind fun l10=>
   some (.inl (bC (t12+1),l8,l10))
  else
   some (.inl (bC (t12+1),m2,m3))
 else
  some (.inr (m2,m3))
def wm:Option ((waA×waB)):=loop (fun(zz:Int×waA×waB)=>fO name c t10 t11 zz.1 zz.2.1 zz.2.2) (t12,m2,m3)
theorem D7{y:(Int×waA×waB)⊕((waA×waB))}(h:fO name c t10 t11 t12 m2 m3=some y):aF Pg GE 0 (cA Uk 119) (LQ (fun(zz:Int×waA×waB)=>iG name c t10 t11 m zz.1 zz.2.1 zz.2.2) (fun _=>.exit 0) (sw m) y) (iG name c t10 t11 m t12 m2 m3):=by
 rcases aU h with⟨c1,h⟩|⟨c1,h⟩
 ·obtain⟨x2,bx2,h⟩:=aw h
  obtain⟨o5,bo5,h⟩:=aw h
  have p7:=fun{sc F} (r:PS sc F)=>sg 0 c1<|sv (ba.ia (k:=.i64) bx2)<|sv (cY yR (.str x2) [])<|kq 0<|cC (Fj name c t12 x2 t10 t11 m m2 m3 bo5)<|r
  rcases aU h with⟨c6,h⟩|⟨c6,h⟩
  ·obtain⟨l8,bl8,h⟩:=aw h
   obtain⟨x9,bx9,h⟩:=aw h
   obtain⟨l10,bl10,h⟩:=aw h
   obtain rfl:=lf h
   exact sT ST (p7<|sg 0 c6<|sv (ba.mk' (v:=PVal.str) CW ([x2]:List ag) 1 (by kernel_rfl))<|sv (ba.ap bl8)<|sU [0,1,0,4,0,28,60,124,255,511,1023]<|sv (cP c)<|sv (cQ c)<|sv (aP.ia (k:=.i64) bx9)<|sv (az x9)<|sv (aP.mk' (v:=bR) aY ([x9]:List aa) 1 (by kernel_rfl))<|sv (aP.ap bl10)<|Ol (rfl:b6 (sl ac l10)=some [sl ac l10])<|eF .normal (iG name c t10 t11 m (bC (t12+1)) l8 l10))<|by kernel_rfl
  ·obtain rfl:=lf h
   exact sT ST (p7<|sg 0 c6<|eF .normal (iG name c t10 t11 m (bC (t12+1)) m2 m3))<|by kernel_rfl
 ·obtain rfl:=lf h
  have z:=sg 0 c1<|eF (.exit 0) (sw m (m2,m3))
  exact fX ST (by intro hx;cases hx) z<|by kernel_rfl
theorem Fk{x:(waA×waB)}(h:wm name c t10 t11 t12 m2 m3=some x):aF Pg GE 0 (.loop (cA Uk 119)) (EX (.exit 0) (sw m x)) (iG name c t10 t11 m t12 m2 m3):=
 aF.loop (S:=fun(zz:Int×waA×waB)=>iG name c t10 t11 m zz.1 zz.2.1 zz.2.2) (ex:=(fun _=>.exit 0)) (s:=(t12,m2,m3)) h fun zz y hy=>D7 name c t10 t11 m zz.1 zz.2.1 zz.2.2 hy
end
def Ax(c:aj)(name:ag):Option aj:=
 (wm name c c.Names (c.Names.length:Int) 0 ([]:List ag) ([]:List aa)).bind fun o11=>
 some (⟨o11.1,o11.2⟩:aj)
theorem Kj{c:aj}{name:ag}{r:aj}(h:Ax c name=some r):CC Pg GE 92 [.agg (au c),.str name] (.agg (au r)) [(0,9),(1,28)]:=by
 obtain⟨o11,bo11,h⟩:=aw h
 obtain rfl:=lf h
 have z:=se (e8 c)<|sx SA<|sb (gX) (gW)<|sx SA<|sy (cf (⟨([]:List ag),([]:List aa)⟩:aj))<|sv (ms c)<|sv (mt c)<|cG (ba.ln c.Names)<|cC (Fk name c c.Names (c.Names.length:Int) ([]:List aa) 0 ([]:List ag) ([]:List aa) bo11)<|sz (cM (⟨o11.1,o11.2⟩:aj) [])<|sy (cf (⟨o11.1,o11.2⟩:aj))<|en (aI (pB (⟨o11.1,o11.2⟩:aj))<|aI (cT (⟨o11.1,o11.2⟩:aj))<|rT)
 exact bS ST call92 func92 (c:=Uk) rfl (aI (cT c) (aI trivial trivial)) z<|by kernel_rfl
noncomputable def Ul:Code:=f93.body.getD .skip
def Te:List Nat:=[]
section
variable(name:ag)(t8:waB)(t9:Int)(t10:Int)
def jb:av:=aM 20 [(1,.str name),(8,sl ac t8),(9,.int .i64 t9),(10,.int .i64 t10)] [.dead] []
def jc(o:Unit⊕(Unit)):Exit:=match o with
 |(.inl _)=>.ret
 |(.inr _)=>.exit 0
def gb(o:Unit⊕(Unit)):av:=match o with
 |(.inl o)=>aM 20 [(4,.bool true)] [.dead] []
 |(.inr o)=>aM 20 [] [.dead] []
def pZ:Option (Int⊕(Unit⊕(Unit))):=
 if(decide (t10<t9))=true then
  (dz t8 t10).bind fun x2=>
  (nH x2).bind fun r3=>
  (fx r3 name).bind fun r4=>
  if(decide (r4>=0))=true then
   some (.inr (.inl ()))
  else
   some (.inl (bC (t10+1)))
 else
  some (.inr (.inr ()))
def uf:Option (Unit⊕(Unit)):=loop (fun(zz:Int)=>pZ name t8 t9 zz) t10
theorem Cp{y:Int⊕(Unit⊕(Unit))}(h:pZ name t8 t9 t10=some y):aF Pg GE 0 (cA Ul 55) (LQ (fun(zz:Int)=>jb name t8 t9 zz) jc gb y) (jb name t8 t9 t10):=by
 rcases aU h with⟨c1,h⟩|⟨c1,h⟩
 ·obtain⟨x2,bx2,h⟩:=aw h
  obtain⟨r3,br3,h⟩:=aw h
  obtain⟨r4,br4,h⟩:=aw h
  have p6:=fun{sc F} (r:PS sc F)=>sg 0 c1<|sv (aP.ia (k:=.i64) bx2)<|sv (az x2)<|sx dW<|sx (aZ x2)<|sv (aO x2 [])<|bg (vY br3)<|bg (kY br4)<|r
  rcases aU h with⟨c5,h⟩|⟨c5,h⟩
  ·obtain rfl:=lf h
   have z:=p6<|sg 0 c5<|oz 0 (jc (.inl ())) (gb (.inl ())) rfl (cz (aI trivial trivial)) (aI trivial trivial)
   exact sI (A:=Te) mixed (by intro hx;cases hx) z<|by kernel_rfl
  ·obtain rfl:=lf h
   have z:=p6<|sg 0 c5<|oz 0 .normal (jb name t8 t9 (bC (t10+1))) rfl (cz (aI trivial (aI (up (am ah t8)) (aI trivial (aI trivial trivial))))) (aI trivial trivial)
   exact cw (A:=Te) mixed z<|by kernel_rfl
 ·obtain rfl:=lf h
  have z:=sg 0 c1<|eF (jc (.inr ())) (gb (.inr ()))
  exact fX Te (by intro hx;cases hx) z<|by kernel_rfl
theorem uW{x:Unit⊕(Unit)}(h:uf name t8 t9 t10=some x):aF Pg GE 0 (.loop (cA Ul 55)) (EX (jc x) (gb x)) (jb name t8 t9 t10):=
 aF.loop (S:=fun(zz:Int)=>jb name t8 t9 zz) (ex:=jc) (s:=t10) h fun zz y hy=>Cp name t8 t9 zz hy
end
def xo(c:aj)(name:ag):Option Bool:=
 (uf name c.By (c.By.length:Int) 0).bind fun o7=>match o7 with
 |(.inl o7)=>
  some true
 |(.inr o7)=>
  some false
theorem I5{c:aj}{name:ag}{r:Bool}(h:xo c name=some r):CC Pg GE 93 [.agg (au c),.str name] (.bool r) []:=by
 obtain⟨o7,bo7,h⟩:=aw h
 rcases o7 with o7|o7
 ·obtain rfl:=lf h
  have z:=se (e8 c)<|sv (cP c)<|sv (cQ c)<|cG (aP.ln c.By)<|cC (e:=.ret) (s1:=gb (.inl o7)) (uW name c.By (c.By.length:Int) 0 bo7)<|en (aI (rP (.bool true))<|trivial)
  exact bS Te call93 func93 (c:=Ul) rfl (aI (cT c) (aI trivial trivial)) z<|by kernel_rfl
 ·obtain rfl:=lf h
  have z:=se (e8 c)<|sv (cP c)<|sv (cQ c)<|cG (aP.ln c.By)<|cC (e:=.exit 0) (s1:=gb (.inr o7)) (uW name c.By (c.By.length:Int) 0 bo7)<|en (aI (rP (.bool false))<|trivial)
  exact bS Te call93 func93 (c:=Ul) rfl (aI (cT c) (aI trivial trivial)) z<|by kernel_rfl
noncomputable def Np:Code:=f120.body.getD .skip
def Lz:List Nat:=[8,30]
section
variable(n:Int)(s:ag)(m:Int)(d:Int)
def Hj:av:=aM 31 [(0,.int .i64 n),(3,.str s),(4,.int .i64 m),(5,.int .i64 d)] [] []
def rV(o:Int):av:=aM 31 [(0,.int .i64 n),(3,.str s),(4,.int .i64 m),(5,.int .i64 o)] [] []
def qR:Option Int:=
 if(decide (d<0))=true then
  some (IntKind.i64.wrap (0 - d))
 else
  some d
theorem E0{x:Int}(h:qR d=some x):aF Pg GE 0 (cA Np 7926) (EX .normal (rV n s m x)) (Hj n s m d):=by
 rcases aU h with⟨c4,h⟩|⟨c4,h⟩
 ·obtain rfl:=lf h
  exact cm Lz (sg 0 c4<|eF .normal (rV n s m (IntKind.i64.wrap (0 - d))))<|by kernel_rfl
 ·obtain rfl:=lf h
  exact cm Lz (sg 0 c4<|eF .normal (rV n s m d))<|by kernel_rfl
end
section
variable(n:Int)(s:ag)(m:Int)
def jU:av:=aM 31 [(0,.int .i64 n),(3,.str s),(4,.int .i64 m)] [] []
def rX(o:ag):av:=aM 31 [(0,.int .i64 n),(3,.str o)] [] []
def jV:Option ((ag×Int)⊕(ag)):=
 if(m !=0)=true then
  (re m 10).bind fun q3=>
  (qR q3).bind fun o5=>
  (qi ([IntKind.u8.wrap (bC (48+o5))]:List Int)).bind fun s6=>
  (So s6 s).bind fun s7=>
  (qu .i64 m 10).bind fun q8=>
  some (.inl (s7,q8))
 else
  some (.inr s)
def kX:Option ag:=loop (fun(zz:ag×Int)=>jV zz.1 zz.2) (s,m)
theorem DP{y:(ag×Int)⊕(ag)}(h:jV s m=some y):aF Pg GE 0 (cA Np 247) (LQ (fun(zz:ag×Int)=>jU n zz.1 zz.2) (fun _=>.exit 0) (rX n) y) (jU n s m):=by
 rcases aU h with⟨c2,h⟩|⟨c2,h⟩
 ·obtain⟨q3,bq3,h⟩:=aw h
  obtain⟨o5,bo5,h⟩:=aw h
  obtain⟨s6,bs6,h⟩:=aw h
  obtain⟨s7,bs7,h⟩:=aw h
  obtain⟨q8,bq8,h⟩:=aw h
  obtain rfl:=lf h
  exact sT Lz (sg 0 c2<|sv (TH (P:=Pg) (t:=3) (k:=.i64) bq3)<|kq 0<|cC (E0 n s m q3 bo5)<|sv (WN underlying3 underlying5 (bC (48+o5)))<|sv (T1.mk' (v:=(PVal.int .u8)) (W2 .u8) ([IntKind.u8.wrap (bC (48+o5))]:List Int) 1 (by kernel_rfl))<|sv (WM underlying122 underlying9 underlying5 bs6)<|sv (JY (P:=Pg) (t:=9) bs7)<|sv (TG (P:=Pg) (t:=3) bq8)<|eF .normal (jU n s7 q8))<|by kernel_rfl
 ·obtain rfl:=lf h
  have z:=sg 0 c2<|eF (.exit 0) (rX n s)
  exact fX Lz (by intro hx;cases hx) z<|by kernel_rfl
theorem E1{x:ag}(h:kX s m=some x):aF Pg GE 0 (.loop (cA Np 247)) (EX (.exit 0) (rX n x)) (jU n s m):=
 aF.loop (S:=fun(zz:ag×Int)=>jU n zz.1 zz.2) (ex:=(fun _=>.exit 0)) (s:=(s,m)) h fun zz y hy=>DP n zz.1 zz.2 hy
end
def Ak(n:Int):Option ag:=
 if(n==0)=true then
  some ([48]:ag)
 else
  (kX ([]:ag) n).bind fun o9=>
  if(decide (n<0))=true then
   (So ([45]:ag) o9).bind fun s12=>
   some s12
  else
   some o9
theorem Kc{n:Int}{r:ag}(h:Ak n=some r):CC Pg GE 120 [.int .i64 n] (.str r) []:=by
 rcases aU h with⟨c1,h⟩|⟨c1,h⟩
 ·obtain rfl:=lf h
  have z:=sg 0 c1<|en (aI (rP (.str ([48]:ag)))<|trivial)
  exact bS Lz call120 func120 (c:=Np) rfl (aI trivial trivial) z<|by kernel_rfl
 ·obtain⟨o9,bo9,h⟩:=aw h
  have p11:=fun{sc F} (r:PS sc F)=>sg 0 c1<|cC (E1 n ([]:ag) n bo9)<|r
  rcases aU h with⟨c10,h⟩|⟨c10,h⟩
  ·obtain⟨s12,bs12,h⟩:=aw h
   obtain rfl:=lf h
   have z:=p11<|sg 0 c10<|sv (JY (P:=Pg) (t:=9) bs12)<|en (aI (rP (.str s12))<|trivial)
   exact bS Lz call120 func120 (c:=Np) rfl (aI trivial trivial) z<|by kernel_rfl
  ·obtain rfl:=lf h
   have z:=p11<|sg 0 c10<|en (aI (rP (.str o9))<|trivial)
   exact bS Lz call120 func120 (c:=Np) rfl (aI trivial trivial) z<|by kernel_rfl
noncomputable def UW:Code:=f94.body.getD .skip
def UC:List Nat:=[7,18]
section
variable(used:waA)(base:ag)(s:ag)(n:Int)
def iX:av:=aM 19 [(0,sl cS used),(1,.str base),(5,.str s),(6,.int .i64 n)] [] []
def pL(o:ag):av:=aM 19 [(5,.str o)] [] []
def cp:Option ((ag×Int)⊕(ag)):=
 (fx used s).bind fun r1=>
 if(decide (r1>=0))=true then
  (Ak n).bind fun r3=>
  (So base r3).bind fun s4=>
  some (.inl (s4,bC (n+1)))
 else
  some (.inr s)
def gD:Option ag:=loop (fun(zz:ag×Int)=>cp used base zz.1 zz.2) (s,n)
theorem Ch{y:(ag×Int)⊕(ag)}(h:cp used base s n=some y):aF Pg GE 0 (cA UW 119) (LQ (fun(zz:ag×Int)=>iX used base zz.1 zz.2) (fun _=>.exit 0) pL y) (iX used base s n):=by
 obtain⟨r1,br1,h⟩:=aw h
 rcases aU h with⟨c2,h⟩|⟨c2,h⟩
 ·obtain⟨r3,br3,h⟩:=aw h
  obtain⟨s4,bs4,h⟩:=aw h
  obtain rfl:=lf h
  exact sT UC (bg (kY br1)<|sg 0 c2<|bg (Kc br3)<|sv (JY (P:=Pg) (t:=9) bs4)<|eF .normal (iX used base s4 (bC (n+1))))<|by kernel_rfl
 ·obtain rfl:=lf h
  have z:=bg (kY br1)<|sg 0 c2<|eF (.exit 0) (pL s)
  exact fX UC (by intro hx;cases hx) z<|by kernel_rfl
theorem DR{x:ag}(h:gD used base s n=some x):aF Pg GE 0 (.loop (cA UW 119)) (EX (.exit 0) (pL x)) (iX used base s n):=
 aF.loop (S:=fun(zz:ag×Int)=>iX used base zz.1 zz.2) (ex:=(fun _=>.exit 0)) (s:=(s,n)) h fun zz y hy=>Ch used base zz.1 zz.2 hy
end
def xl(used:waA)(base:ag):Option ag:=
 (gD used base base 1).bind fun o5=>
 some o5
theorem IT{used:waA}{base:ag}{r:ag}(h:xl used base=some r):CC Pg GE 94 [sl cS used,.str base] (.str r) []:=by
 obtain⟨o5,bo5,h⟩:=aw h
 obtain rfl:=lf h
 have z:=cC (DR used base base 1 bo5)<|en (aI (rP (.str o5))<|trivial)
 exact bS UC call94 func94 (c:=UW) rfl (aI (am d7 used) (aI trivial trivial)) z<|by kernel_rfl
section
variable(v:waA)(lo:Int)(n:Nat)(t9:Int)(w0:List ag)(out:waA)(t10:Int)
def f0:av:=aM 33 [(0,sl cS v),(1,.bsl 0 (iM Pg 9 lo) n),(5,sl cS out),(9,.int .i64 t9),(10,.int .i64 t10)] [.cells (mr cS w0) []] [((5,0),9)]
def mF(o:waA):av:=aM 33 [(1,.bsl 0 (iM Pg 9 lo) n),(5,sl cS o)] [.cells (mr cS w0) []] [((5,0),9)]
def sV:Option ((waA×Int)⊕(waA)):=
 if(decide (t10<t9))=true then
  (dz v t10).bind fun x2=>
  (qU out x2).bind fun r3=>
  some (.inl (r3,bC (t10+1)))
 else
  some (.inr out)
def pM:Option waA:=loop (fun(zz:waA×Int)=>sV v t9 zz.1 zz.2) (out,t10)
theorem y7{y:(waA×Int)⊕(waA)}(h:sV v t9 out t10=some y):aF Pg GE 1 (cA Qi 119) (LQ (fun(zz:waA×Int)=>f0 v lo n t9 w0 zz.1 zz.2) (fun _=>.exit 0) (mF lo n w0) y) (f0 v lo n t9 w0 out t10):=by
 rcases aU h with⟨c1,h⟩|⟨c1,h⟩
 ·obtain⟨x2,bx2,h⟩:=aw h
  obtain⟨r3,br3,h⟩:=aw h
  obtain rfl:=lf h
  exact sT Qh (sg 0 c1<|sv (ba.ia (k:=.i64) bx2)<|sv (cY yR (.str x2) [])<|bg (tY br3)<|eF .normal (f0 v lo n t9 w0 r3 (bC (t10+1))))<|by kernel_rfl
 ·obtain rfl:=lf h
  have z:=sg 0 c1<|eF (.exit 0) (mF lo n w0 out)
  exact fX Qh (by intro hx;cases hx) z<|by kernel_rfl
theorem Al{x:waA}(h:pM v t9 out t10=some x):aF Pg GE 1 (.loop (cA Qi 119)) (EX (.exit 0) (mF lo n w0 x)) (f0 v lo n t9 w0 out t10):=
 aF.loop (S:=fun(zz:waA×Int)=>f0 v lo n t9 w0 zz.1 zz.2) (ex:=(fun _=>.exit 0)) (s:=(out,t10)) h fun zz y hy=>y7 v lo n t9 w0 zz.1 zz.2 hy
end
section
variable(lo:Int)(n:Nat)(t21:Int)(w0:List ag)(out:waA)(t22:Int)
def f6:av:=aM 33 [(1,.bsl 0 (iM Pg 9 lo) n),(5,sl cS out),(21,.int .i64 t21),(22,.int .i64 t22)] [.cells (mr cS w0) []] [((5,0),9)]
def mG(o:waA):av:=aM 33 [(5,sl cS o)] [.cells (mr cS w0) []] [((5,0),9)]
def eQ:Option ((waA×Int)⊕(waA)):=
 if(decide (t22<t21))=true then
  (Ss lo n w0 t22).bind fun x6=>
  (qU out x6).bind fun r7=>
  some (.inl (r7,bC (t22+1)))
 else
  some (.inr out)
def lr:Option waA:=loop (fun(zz:waA×Int)=>eQ lo n t21 w0 zz.1 zz.2) (out,t22)
theorem y8{y:(waA×Int)⊕(waA)}(h:eQ lo n t21 w0 out t22=some y):aF Pg GE 1 (cA Qi 247) (LQ (fun(zz:waA×Int)=>f6 lo n t21 w0 zz.1 zz.2) (fun _=>.exit 2) (mG w0) y) (f6 lo n t21 w0 out t22):=by
 rcases aU h with⟨c5,h⟩|⟨c5,h⟩
 ·obtain⟨x6,bx6,h⟩:=aw h
  obtain⟨r7,br7,h⟩:=aw h
  obtain rfl:=lf h
  exact sT Qh (sg 0 c5<|sv (ba.iaM 0 (k:=.i64) bx6)<|sv (ba.ldM (fun r=>cY yR (.str x6) r) bx6)<|bg (tY br7)<|eF .normal (f6 lo n t21 w0 r7 (bC (t22+1))))<|by kernel_rfl
 ·obtain rfl:=lf h
  have z:=sg 0 c5<|eF (.exit 2) (mG w0 out)
  exact fX Qh (by intro hx;cases hx) z<|by kernel_rfl
theorem Am{x:waA}(h:lr lo n t21 w0 out t22=some x):aF Pg GE 1 (.loop (cA Qi 247)) (EX (.exit 2) (mG w0 x)) (f6 lo n t21 w0 out t22):=
 aF.loop (S:=fun(zz:waA×Int)=>f6 lo n t21 w0 zz.1 zz.2) (ex:=(fun _=>.exit 2)) (s:=(out,t22)) h fun zz y hy=>y8 lo n t21 w0 zz.1 zz.2 hy
end
def qT(a:waA)(lo:Int)(n:Nat)(k0:List ag):Option waA:=
 (pM a (a.length:Int) ([]:List ag) 0).bind fun o4=>
 (lr lo n (n:Int) k0 o4 0).bind fun o8=>
 some o8
theorem E2{a:waA}{lo:Int}{n:Nat}{k0:List ag}{r:waA}(h:qT a lo n k0=some r):C Pg GE 33 [sl cS a,.bsl 0 (iM Pg 9 lo) n] [] [.cells (mr cS k0) []] (sl cS r) [(0,9)] [.cells (mr cS k0) []]:=by
 obtain⟨o4,bo4,h⟩:=aw h
 obtain⟨o8,bo8,h⟩:=aw h
 obtain rfl:=lf h
 have z:=cG (ba.ln a)<|cC (Al a lo n (a.length:Int) k0 ([]:List ag) 0 bo4)<|cG (ba.lnR 0 (iM Pg 9 lo) n)<|cC (Am lo n (n:Int) k0 o4 0 bo8)<|en (aI (rP (sl cS o8))<|aI (up (n:=1) (am d7 o8))<|aI (rL [.cells (mr cS k0) []])<|(aI (Ql 1 d7 k0) trivial))
 exact C.evGp (A:=Qh) mixed (m:=1) (c:=Qi) rfl call33 func33 rfl z<|by kernel_rfl
noncomputable def SY:Code:=f51.body.getD .skip
def Qs:List Nat:=[31,43,62,66,117,127]
section
variable(t:ae)(t24:waB)(t25:Int)(m:waA)(m2:waB)(m3:waC)(m4:waB)(m5:Int)(m6:ag)(m7:Int)(m8:ag)(m9:Int)(m10:waB)(t26:Int)(m11:waB)
def ga:av:=aM 139 [(2,.eptr (af t)),(3,.bptr 1 0),(4,.bptr 2 0),(5,.bptr 3 0),(24,sl ac t24),(25,.int .i64 t25),(26,.int .i64 t26)] [.dead,.cells [sl cS m,sl ac m2] [],.cells [.int .i64 0,.str ([]:ag),sl af m3,sl cS ([]:List ag),.int .i64 0,.str ([]:ag),.int .i64 0,sl ac m4,sl ac m4] [(2,30),(3,9),(7,28),(8,28)],.cells [.int .i64 m5,.str m6,sl af m3,sl cS ([]:List ag),.int .i64 m7,.str m8,.int .i64 m9,sl ac m10,sl ac m11] [(2,30),(3,9),(8,28)]] []
def mK(o:waB):av:=aM 139 [(2,.eptr (af t)),(3,.bptr 1 0),(4,.bptr 2 0),(5,.bptr 3 0)] [.dead,.cells [sl cS m,sl ac m2] [],.cells [.int .i64 0,.str ([]:ag),sl af m3,sl cS ([]:List ag),.int .i64 0,.str ([]:ag),.int .i64 0,sl ac m4,sl ac m4] [(2,30),(3,9),(7,28),(8,28)],.cells [.int .i64 m5,.str m6,sl af m3,sl cS ([]:List ag),.int .i64 m7,.str m8,.int .i64 m9,sl ac m10,sl ac o] [(2,30),(3,9),(8,28)]] []
def sX:Option ((Int×waB)⊕(waB)):=
 if(decide (t26<t25))=true then
  (dz t24 t26).bind fun x3=>
  (jB x3 m m2).bind fun r4=>
  (app m11 ([r4]:List aa)).bind fun l5=>
  some (.inl (bC (t26+1),l5))
 else
  some (.inr m11)
def lE:Option waB:=loop (fun(zz:Int×waB)=>sX t24 t25 m m2 zz.1 zz.2) (t26,m11)
theorem zk{y:(Int×waB)⊕(waB)}(h:sX t24 t25 m m2 t26 m11=some y):aF Pg GE 0 (cA SY 119) (LQ (fun(zz:Int×waB)=>ga t t24 t25 m m2 m3 m4 m5 m6 m7 m8 m9 m10 zz.1 zz.2) (fun _=>.exit 0) (mK t m m2 m3 m4 m5 m6 m7 m8 m9 m10) y) (ga t t24 t25 m m2 m3 m4 m5 m6 m7 m8 m9 m10 t26 m11):=by
 rcases aU h with⟨c2,h⟩|⟨c2,h⟩
 ·obtain⟨x3,bx3,h⟩:=aw h
  obtain⟨r4,br4,h⟩:=aw h
  obtain⟨l5,bl5,h⟩:=aw h
  obtain rfl:=lf h
  have z:=sg 0 c2<|sv (aP.ia (k:=.i64) bx3)<|sv (az x3)<|sx dW<|sx (aZ x3)<|sU [0,1,0,0,8,0,32,124,252,511,1023,2047]<|sv (aO x3 [])<|ss<|ss<|bg (oo br4)<|sv (aP.mk' (v:=bR) aY ([r4]:List aa) 1 (by kernel_rfl))<|sv (aP.ap bl5)<|Ol (rfl:b6 (sl ac l5)=some [sl ac l5])<|oz 0 .normal (ga t t24 t25 m m2 m3 m4 m5 m6 m7 m8 m9 m10 (bC (t26+1)) l5) rfl (cz (aI (lM (ak t)) (aI (cF rfl) (aI (cF rfl) (aI (cF rfl) (aI (up (am ah t24)) (aI trivial (aI trivial trivial)))))))) (aI trivial (aI (aI (up (am d7 m)) (aI (up (am ah m2)) trivial)) (aI (aI trivial (aI trivial (aI (up (am ak m3)) (aI (up (am d7 ([]:List ag))) (aI trivial (aI trivial (aI trivial (aI (up (am ah m4)) (aI (up (am ah m4)) trivial))))))))) (aI (aI trivial (aI trivial (aI (up (am ak m3)) (aI (up (am d7 ([]:List ag))) (aI trivial (aI trivial (aI trivial (aI (up (am ah m10)) (aI (up (am ah l5)) trivial))))))))) trivial))))
  exact cw (A:=Qs) mixed z<|by kernel_rfl
 ·obtain rfl:=lf h
  have z:=sg 0 c2<|eF (.exit 0) (mK t m m2 m3 m4 m5 m6 m7 m8 m9 m10 m11)
  exact fX Qs (by intro hx;cases hx) z<|by kernel_rfl
theorem Av{x:waB}(h:lE t24 t25 m m2 t26 m11=some x):aF Pg GE 0 (.loop (cA SY 119)) (EX (.exit 0) (mK t m m2 m3 m4 m5 m6 m7 m8 m9 m10 x)) (ga t t24 t25 m m2 m3 m4 m5 m6 m7 m8 m9 m10 t26 m11):=
 aF.loop (S:=fun(zz:Int×waB)=>ga t t24 t25 m m2 m3 m4 m5 m6 m7 m8 m9 m10 zz.1 zz.2) (ex:=(fun _=>.exit 0)) (s:=(t26,m11)) h fun zz y hy=>zk t t24 t25 m m2 m3 m4 m5 m6 m7 m8 m9 m10 zz.1 zz.2 hy
end
section
variable(t:ae)(used:waA)(i:Int)(t58:waC)(t59:Int)(m:waA)(m2:waB)(m3:waC)(m4:waB)(m5:Int)(m6:ag)(m7:waC)(n:Nat)(m8:Int)(m9:ag)(m10:Int)(m11:waB)(m12:waB)(w4:List ag)(m13:Int)(m14:ag)(m15:waC)(m16:waA)(m17:Int)(m18:ag)(m19:Int)(m20:waB)(m21:waB)
def Co:av:=aM 139 [(2,.eptr (af t)),(3,.bptr 1 0),(4,.bptr 2 0),(5,.bptr 3 0),(8,sl cS used),(9,.int .i64 i),(58,sl af t58),(59,.int .i64 t59),(60,.int .i64 i)] [.dead,.cells [sl cS m,sl ac m2] [],.cells [.int .i64 0,.str ([]:ag),sl af m3,sl cS ([]:List ag),.int .i64 0,.str ([]:ag),.int .i64 0,sl ac m4,sl ac m4] [(2,30),(3,9),(7,28),(8,28)],.cells [.int .i64 m5,.str m6,sl af m7,.bsl 4 0 n,.int .i64 m8,.str m9,.int .i64 m10,sl ac m11,sl ac m12] [(2,30),(8,28)],.cells (mr cS w4) [],.cells [.int .i64 m13,.str m14,sl af m15,sl cS m16,.int .i64 m17,.str m18,.int .i64 m19,sl ac m20,sl ac m21] []] [((8,0),9)]
def mJ(o:Bool):av:=aM 139 [(2,.eptr (af t)),(3,.bptr 1 0),(4,.bptr 2 0),(5,.bptr 3 0),(8,sl cS used),(9,.int .i64 i),(58,sl af t58),(59,.int .i64 t59),(60,.int .i64 i),(82,.bool o)] [.dead,.cells [sl cS m,sl ac m2] [],.cells [.int .i64 0,.str ([]:ag),sl af m3,sl cS ([]:List ag),.int .i64 0,.str ([]:ag),.int .i64 0,sl ac m4,sl ac m4] [(2,30),(3,9),(7,28),(8,28)],.cells [.int .i64 m5,.str m6,sl af m7,.bsl 4 0 n,.int .i64 m8,.str m9,.int .i64 m10,sl ac m11,sl ac m12] [(2,30),(8,28)],.cells (mr cS w4) [],.cells [.int .i64 m13,.str m14,sl af m15,sl cS m16,.int .i64 m17,.str m18,.int .i64 m19,sl ac m20,sl ac m21] []] [((8,0),9)]
def pX:Option Bool:=
 if(t.Op !=6)=true then
  some true
 else
  some (decide (i>=(t.Names.length:Int)))
theorem Au{x:Bool}(h:pX t i=some x):aF Pg GE 0 (cA SY 260060) (EX .normal (mJ t used i t58 t59 m m2 m3 m4 m5 m6 m7 n m8 m9 m10 m11 m12 w4 m13 m14 m15 m16 m17 m18 m19 m20 m21 x)) (Co t used i t58 t59 m m2 m3 m4 m5 m6 m7 n m8 m9 m10 m11 m12 w4 m13 m14 m15 m16 m17 m18 m19 m20 m21):=by
 have p17:=fun{sc F} (r:PS sc F)=>sv (aA t)<|sv (aC t)<|r
 rcases aU h with⟨c16,h⟩|⟨c16,h⟩
 ·obtain rfl:=lf h
  exact cm Qs (p17<|sg 4 c16<|eF .normal (mJ t used i t58 t59 m m2 m3 m4 m5 m6 m7 n m8 m9 m10 m11 m12 w4 m13 m14 m15 m16 m17 m18 m19 m20 m21 true))<|by kernel_rfl
 ·obtain rfl:=lf h
  exact cm Qs (p17<|sg 4 c16<|sv (aB t)<|sv (aD t)<|cG (ba.ln t.Names)<|eF .normal (mJ t used i t58 t59 m m2 m3 m4 m5 m6 m7 n m8 m9 m10 m11 m12 w4 m13 m14 m15 m16 m17 m18 m19 m20 m21 (decide (i>=(t.Names.length:Int)))))<|by kernel_rfl
end
section
variable(R82:nu)(t:ae)(t58:waC)(t59:Int)(m3:waC)(m4:waB)(m5:Int)(m6:ag)(n:Nat)(m8:Int)(m9:ag)(m10:Int)(m11:waB)(m12:waB)(used:waA)(t60:Int)(m:waA)(m2:waB)(m7:waC)(w4:List ag)
def dS:av:=aM 139 [(2,.eptr (af t)),(3,.bptr 1 0),(4,.bptr 2 0),(5,.bptr 3 0),(8,sl cS used),(58,sl af t58),(59,.int .i64 t59),(60,.int .i64 t60)] [.dead,.cells [sl cS m,sl ac m2] [],.cells [.int .i64 0,.str ([]:ag),sl af m3,sl cS ([]:List ag),.int .i64 0,.str ([]:ag),.int .i64 0,sl ac m4,sl ac m4] [(2,30),(3,9),(7,28),(8,28)],.cells [.int .i64 m5,.str m6,sl af m7,.bsl 4 0 n,.int .i64 m8,.str m9,.int .i64 m10,sl ac m11,sl ac m12] [(2,30),(8,28)],.cells (mr cS w4) []] [((8,0),9)]
def mL(o:waA×waB×waC×List ag):av:=aM 139 [(4,.bptr 2 0),(5,.bptr 3 0)] [.dead,.cells [sl cS o.1,sl ac o.2.1] [],.cells [.int .i64 0,.str ([]:ag),sl af m3,sl cS ([]:List ag),.int .i64 0,.str ([]:ag),.int .i64 0,sl ac m4,sl ac m4] [(2,30),(3,9),(7,28),(8,28)],.cells [.int .i64 m5,.str m6,sl af o.2.2.1,.bsl 4 0 n,.int .i64 m8,.str m9,.int .i64 m10,sl ac m11,sl ac m12] [(2,30),(8,28)],.cells (mr cS o.2.2.2) []] []
def dn:Option ((waA×Int×waA×waB×waC×List ag)⊕((waA×waB×waC×List ag))):=
 if (decide (t60 < t59)) = true then
  (dz t58 t60).bind fun x13=>
  (R82 x13 (⟨m,m2⟩:aj)).bind fun r14=>
  (app m7 ([r14]:List ae)).bind fun l15=>
  (pX t t60).bind fun o18=>
  if o18=true then
   some (.inl (used,bC (t60+1),m,m2,l15,w4))
  else
   (dz t.Names t60).bind fun x21=>
   (Ax (⟨m,m2⟩:aj) x21).bind fun r22=>
   (dz t.Names t60).bind fun x23=>
   (xo r22 x23).bind fun r24=>
   if r24=true then
    (dz t.Names t60).bind fun x27=>
    (xl used x27).bind fun r28=>
    (OC n w4 t60).bind fun x29=>
    (SJ w4 t60 r28).bind fun l30=>
    (P7 n t60 (bC (t60+1))).bind fun n31=>
    (qT used t60 n31 l30).bind fun r32=>
    (dz t.Names t60).bind fun x33=>
    (app r22.Names ([x33]:List ag)).bind fun l34=>
    (OC n l30 t60).bind fun x35=>
    (app r22.By ([(⟨3,x35,0,([]:List aa)⟩:aa)]:List aa)).bind fun l36=>
    some (.inl (r32,bC (t60+1),l34,l36,l15,l30))
   else
    some (.inl (used,bC (t60+1),r22.Names,r22.By,l15,w4))
 else
  some (.inr (m,m2,m7,w4))
def pY:Option ((waA×waB×waC×List ag)):=loop (fun(zz:waA×Int×waA×waB×waC×List ag)=>dn R82 t t58 t59 n zz.1 zz.2.1 zz.2.2.1 zz.2.2.2.1 zz.2.2.2.2.1 zz.2.2.2.2.2) (used,t60,m,m2,m7,w4)
theorem zl(hR82:rR R82){y:(waA×Int×waA×waB×waC×List ag)⊕((waA×waB×waC×List ag))}(h:dn R82 t t58 t59 n used t60 m m2 m7 w4=some y):aF Pg GE 0 (cA SY 1015) (LQ (fun(zz:waA×Int×waA×waB×waC×List ag)=>dS t t58 t59 m3 m4 m5 m6 n m8 m9 m10 m11 m12 zz.1 zz.2.1 zz.2.2.1 zz.2.2.2.1 zz.2.2.2.2.1 zz.2.2.2.2.2) (fun _=>.exit 2) (mL m3 m4 m5 m6 n m8 m9 m10 m11 m12) y) (dS t t58 t59 m3 m4 m5 m6 n m8 m9 m10 m11 m12 used t60 m m2 m7 w4):=by
 rcases aU h with⟨c12,h⟩|⟨c12,h⟩
 ·obtain⟨x13,bx13,h⟩:=aw h
  obtain⟨r14,br14,h⟩:=aw h
  obtain⟨l15,bl15,h⟩:=aw h
  obtain⟨o18,bo18,h⟩:=aw h
  have p20:=fun{sc F} (r:PS sc F)=>sg 0 c12<|sv (dP.ia (k:=.i64) bx13)<|sv (aW x13)<|sx iq<|sx (cn x13)<|sU [0,1,0,0,12,28,63,127,255]<|sv (bh x13 [])<|sv (cM (⟨m,m2⟩:aj) [])<|bg (hR82 _ _ _ br14)<|sv (dP.mk' (v:=uV) pI ([r14]:List ae) 1 (by kernel_rfl))<|sv (dP.ap bl15)<|Ol (rfl:b6 (sl af l15)=some [sl af l15])<|kq 1<|cC (Au t used t60 t58 t59 m m2 m3 m4 m5 m6 l15 n m8 m9 m10 m11 m12 w4 x13.Op x13.Name x13.Args x13.Names x13.Pred.Op x13.Pred.Name x13.Pred.N x13.Pred.Kids x13.Preds bo18)<|r
  rcases aU h with⟨c19,h⟩|⟨c19,h⟩
  ·obtain rfl:=lf h
   have z:=p20<|sg 0 c19<|oz 0 .normal (dS t t58 t59 m3 m4 m5 m6 n m8 m9 m10 m11 m12 used (bC (t60+1)) m m2 l15 w4) rfl (cz (aI (lM (ak t)) (aI (cF rfl) (aI (cF rfl) (aI (cF rfl) (aI (up (am d7 used)) (aI (up (am ak t58)) (aI trivial (aI trivial trivial))))))))) (aI trivial (aI (aI (up (am d7 m)) (aI (up (am ah m2)) trivial)) (aI (aI trivial (aI trivial (aI (up (am ak m3)) (aI (up (am d7 ([]:List ag))) (aI trivial (aI trivial (aI trivial (aI (up (am ah m4)) (aI (up (am ah m4)) trivial))))))))) (aI (aI trivial (aI trivial (aI (up (am ak l15)) (aI (cF rfl) (aI trivial (aI trivial (aI trivial (aI (up (am ah m11)) (aI (up (am ah m12)) trivial))))))))) (aI (Ql _ d7 w4) trivial)))))
   exact cw (A:=Qs) mixed z<|by kernel_rfl
  ·obtain⟨x21,bx21,h⟩:=aw h
   obtain⟨r22,br22,h⟩:=aw h
   obtain⟨x23,bx23,h⟩:=aw h
   obtain⟨r24,br24,h⟩:=aw h
   have p26:=fun{sc F} (r:PS sc F)=>p20<|sg 0 c19<|sU [0,0,2,0,14,30,63,127]<|sv (cM (⟨m,m2⟩:aj) [])<|sv (aB t)<|sv (aD t)<|sv (ba.ia (k:=.i64) bx21)<|sv (cY yR (.str x21) [])<|bg (Kj br22)<|P8 (iS r22)<|sU [0,0,2,0,14,30,63]<|sv (cM r22 [])<|sv (aB t)<|sv (aD t)<|sv (ba.ia (k:=.i64) bx23)<|sv (cY yR (.str x23) [])<|bg (I5 br24)<|r
   rcases aU h with⟨c25,h⟩|⟨c25,h⟩
   ·obtain⟨x27,bx27,h⟩:=aw h
    obtain⟨r28,br28,h⟩:=aw h
    obtain⟨x29,bx29,h⟩:=aw h
    obtain⟨l30,bl30,h⟩:=aw h
    obtain⟨n31,bn31,h⟩:=aw h
    obtain⟨r32,br32,h⟩:=aw h
    obtain⟨x33,bx33,h⟩:=aw h
    obtain⟨l34,bl34,h⟩:=aw h
    obtain⟨x35,bx35,h⟩:=aw h
    obtain⟨l36,bl36,h⟩:=aw h
    obtain rfl:=lf h
    have z:=p26<|sg 0 c25<|Vh (.dx [0,1,0,0,0,16,0,112,240,504,1023,2047] [] [] [4])<|ss<|sv (aB t)<|sv (aD t)<|sv (ba.ia (k:=.i64) bx27)<|sv (cY yR (.str x27) [])<|bg (IT br28)<|sv (ba.iaN 4 (k:=.i64) bx29)<|V7 (ba.stR (CW r28) bl30)<|ss<|sv (ba.scN 4 bn31)<|si (.cg ⟨[4],[sl cS used,.bsl 0 (iM Pg 9 t60) n31],[],[.cells (mr cS l30) []],[.cells (mr cS l30) []],[.cells (mr cS l30) []],[.cells (mr cS l30) []],sl cS r32,sl cS r32,[(0,9)]⟩) (E2 br32)<|sf (aI (xR [4] (sl cS used) (am d7 used)) (aI (xS [4] 0 4 (iM Pg 9 t60) n31 rfl) trivial))<|sf (aI (aI (rB (.cells (mr cS l30) [])) (aI (rW []) (Vs [4] _ (Ql 0 d7 l30)))) trivial)<|sf (aI (aI (rW []) (Vs [4] _ (Ql 0 d7 l30))) trivial)<|sf (xR [4] (sl cS r32) (am d7 r32))<|sU [0,1,0,4,0,28,60,124,255,511,1023]<|sv (aB t)<|sv (aD t)<|sv (ba.ia (k:=.i64) bx33)<|sv (cY yR (.str x33) [])<|sv (ba.mk' (v:=PVal.str) CW ([x33]:List ag) 1 (by kernel_rfl))<|sv (ba.ap bl34)<|Ol (rfl:b6 (sl cS l34)=some [sl cS l34])<|sU [0,1,0,4,0,28,60,124,252,511,1023,2047]<|ss<|sv (ba.iaN 4 (k:=.i64) bx35)<|sv (ba.ldN (fun r=>cY yR (.str x35) r) bx35)<|sb (gJ 3 x35) (gI 3 x35)<|sv (aP.mk' (v:=bR) aY ([(⟨3,x35,0,([]:List aa)⟩:aa)]:List aa) 1 (by kernel_rfl))<|sv (aP.ap bl36)<|Ol (rfl:b6 (sl ac l36)=some [sl ac l36])<|oz 0 .normal (dS t t58 t59 m3 m4 m5 m6 n m8 m9 m10 m11 m12 r32 (bC (t60+1)) l34 l36 l15 l30) rfl (cz (aI (lM (ak t)) (aI (cF rfl) (aI (cF rfl) (aI (cF rfl) (aI (up (am d7 r32)) (aI (up (am ak t58)) (aI trivial (aI trivial trivial))))))))) (aI trivial (aI (aI (up (am d7 l34)) (aI (up (am ah l36)) trivial)) (aI (aI trivial (aI trivial (aI (up (am ak m3)) (aI (up (am d7 ([]:List ag))) (aI trivial (aI trivial (aI trivial (aI (up (am ah m4)) (aI (up (am ah m4)) trivial))))))))) (aI (aI trivial (aI trivial (aI (up (am ak l15)) (aI (cF rfl) (aI trivial (aI trivial (aI trivial (aI (up (am ah m11)) (aI (up (am ah m12)) trivial))))))))) (aI (Ql _ d7 l30) trivial)))))
    exact cw (A:=Qs) mixed z<|by kernel_rfl
   ·obtain rfl:=lf h
    have z:=p26<|sg 0 c25<|oz 0 .normal (dS t t58 t59 m3 m4 m5 m6 n m8 m9 m10 m11 m12 used (bC (t60+1)) r22.Names r22.By l15 w4) rfl (cz (aI (lM (ak t)) (aI (cF rfl) (aI (cF rfl) (aI (cF rfl) (aI (up (am d7 used)) (aI (up (am ak t58)) (aI trivial (aI trivial trivial))))))))) (aI trivial (aI (aI (up (am d7 r22.Names)) (aI (up (am ah r22.By)) trivial)) (aI (aI trivial (aI trivial (aI (up (am ak m3)) (aI (up (am d7 ([]:List ag))) (aI trivial (aI trivial (aI trivial (aI (up (am ah m4)) (aI (up (am ah m4)) trivial))))))))) (aI (aI trivial (aI trivial (aI (up (am ak l15)) (aI (cF rfl) (aI trivial (aI trivial (aI trivial (aI (up (am ah m11)) (aI (up (am ah m12)) trivial))))))))) (aI (Ql _ d7 w4) trivial)))))
    exact cw (A:=Qs) mixed z<|by kernel_rfl
 ·obtain rfl:=lf h
  have z:=sg 0 c12<|eF (.exit 2) (mL m3 m4 m5 m6 n m8 m9 m10 m11 m12 (m,m2,m7,w4))
  exact fX Qs (by intro hx;cases hx) z<|by kernel_rfl
theorem Aw(hR82:rR R82){x:(waA×waB×waC×List ag)}(h:pY R82 t t58 t59 n used t60 m m2 m7 w4=some x):aF Pg GE 0 (.loop (cA SY 1015)) (EX (.exit 2) (mL m3 m4 m5 m6 n m8 m9 m10 m11 m12 x)) (dS t t58 t59 m3 m4 m5 m6 n m8 m9 m10 m11 m12 used t60 m m2 m7 w4):=
 aF.loop (S:=fun(zz:waA×Int×waA×waB×waC×List ag)=>dS t t58 t59 m3 m4 m5 m6 n m8 m9 m10 m11 m12 zz.1 zz.2.1 zz.2.2.1 zz.2.2.2.1 zz.2.2.2.2.1 zz.2.2.2.2.2) (ex:=(fun _=>.exit 2)) (s:=(used,t60,m,m2,m7,w4)) h fun zz y hy=>zl R82 t t58 t59 m3 m4 m5 m6 n m8 m9 m10 m11 m12 zz.1 zz.2.1 zz.2.2.1 zz.2.2.2.1 zz.2.2.2.2.1 zz.2.2.2.2.2 hR82 hy
end
def nq(R82:nu)(t:ae)(c:aj):Option ae:=
 (jB t.Pred c.Names c.By).bind fun r1=>
 (lE t.Preds (t.Preds.length:Int) c.Names c.By 0 ([]:List aa)).bind fun o6=>
 (app [] t.Names).bind fun l7=>
 (xp c.By).bind fun r8=>
 (Fc t).bind fun r9=>
 (ec r8 r9).bind fun r10=>
 (ec r10 t.Names).bind fun r11=>
 (pY R82 t t.Args (t.Args.length:Int) l7.length r11 0 c.Names c.By ([]:List ae) l7).bind fun o37=>
 (Sr l7.length o37.2.2.2).bind fun l38=>
 some (⟨t.Op,t.Name,o37.2.2.1,l38,r1,o6⟩:ae)
theorem D6(R82:nu)(hR82:rR R82){t:ae}{c:aj}{r:ae}(h:nq R82 t c=some r):CC Pg GE 51 [.agg (af t),.agg (au c)] (.agg (af r)) [(2,30),(8,28)]:=by
 obtain⟨r1,br1,h⟩:=aw h
 obtain⟨o6,bo6,h⟩:=aw h
 obtain⟨l7,bl7,h⟩:=aw h
 obtain⟨r8,br8,h⟩:=aw h
 obtain⟨r9,br9,h⟩:=aw h
 obtain⟨r10,br10,h⟩:=aw h
 obtain⟨r11,br11,h⟩:=aw h
 obtain⟨o37,bo37,h⟩:=aw h
 obtain⟨l38,bl38,h⟩:=aw h
 obtain rfl:=lf h
 have z:=se (bE t)<|sx (iS c)<|sx iq<|sU [0,1,0,4,0,16,0,64,0,256,1008,2047,0,8191]<|sv (aA t)<|sv (aC t)<|sv (dc t)<|sv (dB t)<|sv (bF t)<|sv (bG t)<|ss<|ss<|bg (oo br1)<|sb (Fy t.Op t.Name r1) (Fu t.Op t.Name r1)<|P8 (cn (⟨t.Op,t.Name,([]:List ae),([]:List ag),r1,([]:List aa)⟩:ae))<|sv (bT t)<|sv (bU t)<|cG (aP.ln t.Preds)<|cC (Av t t.Preds (t.Preds.length:Int) c.Names c.By ([]:List ae) ([]:List aa) t.Op t.Name r1.Op r1.Name r1.N r1.Kids 0 ([]:List aa) bo6)<|sv (aB t)<|sv (aD t)<|V5 4 9 (ba.apR bl7)<|ss<|sU [0,1,3,0,15,31,0,64,255,511]<|ss<|bg (I6 br8)<|sv (aW t)<|bg (Kh br9)<|bg (jz br10)<|sv (aB t)<|sv (aD t)<|bg (jz br11)<|sv (aH t)<|sv (aJ t)<|cG (dP.ln t.Args)<|cC (Aw R82 t t.Args (t.Args.length:Int) ([]:List ae) ([]:List aa) t.Op t.Name l7.length r1.Op r1.Name r1.N r1.Kids o6 r11 0 c.Names c.By ([]:List ae) l7 hR82 bo37)<|Ur 4 (l38.map cS) [4,5] [] (ba.fz1 (m:=0) (b:=4) rfl l38) (ba.fz2 4 l38) (VW cS bl38)<|sf (HK 4 (p:=sl cS o37.1) (am d7 o37.1))<|sf (HK 4 (p:=sl ac o37.2.1) (am ah o37.2.1))<|sf (HK 4 (p:=sl af ([]:List ae)) (am ak ([]:List ae)))<|sf (HK 4 (p:=sl cS ([]:List ag)) (am d7 ([]:List ag)))<|sf (HK 4 (p:=sl ac ([]:List aa)) (am ah ([]:List aa)))<|sf (HK 4 (p:=sl ac ([]:List aa)) (am ah ([]:List aa)))<|sf (HK 4 (p:=sl af o37.2.2.1) (am ak o37.2.2.1))<|sf (VX cS bl38)<|sf (HK 4 (p:=sl ac r1.Kids) (am ah r1.Kids))<|sf (HK 4 (p:=sl ac o6) (am ah o6))<|sz (bh (⟨t.Op,t.Name,o37.2.2.1,l38,r1,o6⟩:ae) [])<|sy (aT (⟨t.Op,t.Name,o37.2.2.1,l38,r1,o6⟩:ae))<|en (aI (cr (⟨t.Op,t.Name,o37.2.2.1,l38,r1,o6⟩:ae))<|aI (ak (⟨t.Op,t.Name,o37.2.2.1,l38,r1,o6⟩:ae))<|rT)
 exact bS Qs call51 func51 (c:=SY) rfl (aI (ak t) (aI (cT c) trivial)) z<|by kernel_rfl
def sq:((ae×aj)->Option ae)->(ae×aj)->Option ae:=fun(rec:(ae×aj)->Option ae) (x:ae×aj)=>nq (fun t c=>rec (t,c)) x.1 x.2
def wk(t:ae)(c:aj):Option ae:=nS sq (t,c)
theorem Fi{t:ae}{c:aj}{r:ae}(h:wk t c=some r):CC Pg GE 51 [.agg (af t),.agg (au c)] (.agg (af r)) [(2,30),(8,28)]:=
 cU (F:=sq) (M:=fun(x:ae×aj) (r:ae)=>CC Pg GE 51 [.agg (af x.1),.agg (au x.2)] (.agg (af r)) [(2,30),(8,28)]) (fun rec hrec x r h=>D6 _ (fun t c r h=>hrec (t,c) r h) h) h
end Go.Proofs.YtggeppllafbidaaGreatDoor
