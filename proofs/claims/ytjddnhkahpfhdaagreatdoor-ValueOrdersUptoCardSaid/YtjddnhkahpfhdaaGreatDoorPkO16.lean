/- PROVED: a part of the proof. Conditions: none. -/
import Derived.Test.YtjddnhkahpfhdaaGreatDoorPkO15
set_option linter.unusedSimpArgs false
set_option linter.unusedVariables false
noncomputable section
namespace Go.Proofs.YtjddnhkahpfhdaaGreatDoor
open Go Go.Proofs.Tryz
set_option linter.unusedVariables false
set_option linter.defProp false
set_option maxRecDepth 100000
noncomputable def VX:Code:=f10.body.getD .skip
theorem VJ:ZF Pg [] 10 f10 VX:=zf call10 func10 rfl mixed
def uN:Option Bool:=
 (wW 1).bind λr1=>
 (xE (⟨([(⟨([73,110,116,76,105,115,116]:ai),([]:List ai),([]:List cq),([(⟨([78,105,108]:ai),([]:List ai),([]:List ae)⟩:aP),(⟨([67,111,110,115]:ai),([([120]:ai),([114,101,115,116]:ai)]:List ai),([(⟨1,([]:ai),([]:List ae),([]:List ai),(⟨0,([]:ai),0,([]:List ah)⟩:ah),([]:List ah)⟩:ae),(⟨4,([73,110,116,76,105,115,116]:ai),([]:List ae),([]:List ai),(⟨0,([]:ai),0,([]:List ah)⟩:ah),([]:List ah)⟩:ae)]:List ae)⟩:aP)]:List aP)⟩:aS)]:List aS),([]:List eD),([]:List bN),([]:List ce),([]:List gj),([]:List kW)⟩:aB) (⟨4,([73,110,116,76,105,115,116]:ai),([]:List ae),([]:List ai),(⟨0,([]:ai),0,([]:List ah)⟩:ah),([]:List ah)⟩:ae) 3 100).bind λr2=>
 (xE (⟨([(⟨([73,110,116,76,105,115,116]:ai),([]:List ai),([]:List cq),([(⟨([78,105,108]:ai),([]:List ai),([]:List ae)⟩:aP),(⟨([67,111,110,115]:ai),([([120]:ai),([114,101,115,116]:ai)]:List ai),([(⟨1,([]:ai),([]:List ae),([]:List ai),(⟨0,([]:ai),0,([]:List ah)⟩:ah),([]:List ah)⟩:ae),(⟨4,([73,110,116,76,105,115,116]:ai),([]:List ae),([]:List ai),(⟨0,([]:ai),0,([]:List ah)⟩:ah),([]:List ah)⟩:ae)]:List ae)⟩:aP)]:List aP)⟩:aS)]:List aS),([]:List eD),([]:List bN),([]:List ce),([]:List gj),([]:List kW)⟩:aB) (⟨2,([]:ai),([]:List ae),([]:List ai),(⟨0,([]:ai),0,([]:List ah)⟩:ah),([]:List ah)⟩:ae) 7 100).bind λr3=>
 (xG (⟨([(⟨([73,110,116,76,105,115,116]:ai),([]:List ai),([]:List cq),([(⟨([78,105,108]:ai),([]:List ai),([]:List ae)⟩:aP),(⟨([67,111,110,115]:ai),([([120]:ai),([114,101,115,116]:ai)]:List ai),([(⟨1,([]:ai),([]:List ae),([]:List ai),(⟨0,([]:ai),0,([]:List ah)⟩:ah),([]:List ah)⟩:ae),(⟨4,([73,110,116,76,105,115,116]:ai),([]:List ae),([]:List ai),(⟨0,([]:ai),0,([]:List ah)⟩:ah),([]:List ah)⟩:ae)]:List ae)⟩:aP)]:List aP)⟩:aS)]:List aS),([]:List eD),([]:List bN),([]:List ce),([]:List gj),([]:List kW)⟩:aB) (⟨3,0,([67,111,110,115]:ai),([r1,(⟨3,0,([78,105,108]:ai),([]:List aa),([]:List ai),([]:List aj),([]:List aA)⟩:aa)]:List aa),([]:List ai),([]:List aj),([]:List aA)⟩:aa)).bind λr4=>
 (jK (⟨3,0,([67,111,110,115]:ai),([r1,(⟨3,0,([78,105,108]:ai),([]:List aa),([]:List ai),([]:List aj),([]:List aA)⟩:aa)]:List aa),([]:List ai),([]:List aj),([]:List aA)⟩:aa)).bind λr5=>
 if (r5 == 3) = true then
  (kZ (⟨3,0,([67,111,110,115]:ai),([r1,(⟨3,0,([78,105,108]:ai),([]:List aa),([]:List ai),([]:List aj),([]:List aA)⟩:aa)]:List aa),([]:List ai),([]:List aj),([]:List aA)⟩:aa)).bind λr7=>
  if (r7 == ([67,111,110,115,32,40,49,44,32,78,105,108,41]:ai)) = true then
   if ((r2.length:Int) == 6) = true then
    (ed r2 0).bind λx10=>
    (kZ x10).bind λr11=>
    if (r11 == ([78,105,108]:ai)) = true then
     (ed r2 1).bind λx13=>
     (kZ x13).bind λr14=>
     if (r14 == ([67,111,110,115,32,40,45,50,44,32,78,105,108,41]:ai)) = true then
      (ed r2 4).bind λx16=>
      (om x16 (⟨3,0,([67,111,110,115]:ai),([r1,(⟨3,0,([78,105,108]:ai),([]:List aa),([]:List ai),([]:List aj),([]:List aA)⟩:aa)]:List aa),([]:List ai),([]:List aj),([]:List aA)⟩:aa)).bind λr17=>
      if r17=true then
       if ((r3.length:Int) == 2) = true then
        (ed r3 0).bind λx20=>
        if (x20.N == 0) = true then
         (wW 1000000000001).bind λr22=>
         (uC (⟨([(⟨([73,110,116,76,105,115,116]:ai),([]:List ai),([]:List cq),([(⟨([78,105,108]:ai),([]:List ai),([]:List ae)⟩:aP),(⟨([67,111,110,115]:ai),([([120]:ai),([114,101,115,116]:ai)]:List ai),([(⟨1,([]:ai),([]:List ae),([]:List ai),(⟨0,([]:ai),0,([]:List ah)⟩:ah),([]:List ah)⟩:ae),(⟨4,([73,110,116,76,105,115,116]:ai),([]:List ae),([]:List ai),(⟨0,([]:ai),0,([]:List ah)⟩:ah),([]:List ah)⟩:ae)]:List ae)⟩:aP)]:List aP)⟩:aS)]:List aS),([]:List eD),([]:List bN),([]:List ce),([]:List gj),([]:List kW)⟩:aB) r22).bind λr23=>
         if (r23 == 2) = true then
          if(r4.1.Name==([73,110,116,76,105,115,116]:ai))=true then
           if r4.2=true then
            (DY (⟨([(⟨([73,110,116,76,105,115,116]:ai),([]:List ai),([]:List cq),([(⟨([78,105,108]:ai),([]:List ai),([]:List ae)⟩:aP),(⟨([67,111,110,115]:ai),([([120]:ai),([114,101,115,116]:ai)]:List ai),([(⟨1,([]:ai),([]:List ae),([]:List ai),(⟨0,([]:ai),0,([]:List ah)⟩:ah),([]:List ah)⟩:ae),(⟨4,([73,110,116,76,105,115,116]:ai),([]:List ae),([]:List ai),(⟨0,([]:ai),0,([]:List ah)⟩:ah),([]:List ah)⟩:ae)]:List ae)⟩:aP)]:List aP)⟩:aS)]:List aS),([]:List eD),([]:List bN),([]:List ce),([]:List gj),([]:List kW)⟩:aB) (⟨3,0,([67,111,110,115]:ai),([r1,(⟨3,0,([78,105,108]:ai),([]:List aa),([]:List ai),([]:List aj),([]:List aA)⟩:aa)]:List aa),([]:List ai),([]:List aj),([]:List aA)⟩:aa) (⟨4,([73,110,116,76,105,115,116]:ai),([]:List ae),([]:List ai),(⟨0,([]:ai),0,([]:List ah)⟩:ah),([]:List ah)⟩:ae)).bind λr27=>
            some r27
           else
            some false
          else
           some false
         else
          some false
        else
         some false
       else
        some false
      else
       some false
     else
      some false
    else
     some false
   else
    some false
  else
   some false
 else
  some false
theorem yb:OV 10 [] uN (λr=>.bool r) []:=VJ.v<|
 tb λr1 br1=>tb λr2 br2=>tb λr3 br3=>tb λr4 br4=>tb λr5 br5=>E5 (rj 4 ([73,110,116,76,105,115,116]:ai)) (ri 4 ([73,110,116,76,105,115,116]:ai))<|tx Aa<|ty (bg (⟨4,([73,110,116,76,105,115,116]:ai),([]:List ae),([]:List ai),(⟨0,([]:ai),0,([]:List ah)⟩:ah),([]:List ah)⟩:ae))<|E5 (LM ([78,105,108]:ai)) (LL ([78,105,108]:ai))<|tv (Ss [([120]:ai),([114,101,115,116]:ai)] 2 rfl)<|E5 (nN 1) (nK 1)<|tv (fR (⟨4,([73,110,116,76,105,115,116]:ai),([]:List ae),([]:List ai),(⟨0,([]:ai),0,([]:List ah)⟩:ah),([]:List ah)⟩:ae) [])<|tv (fK.mk' (v:=BV) zZ ([(⟨1,([]:ai),([]:List ae),([]:List ai),(⟨0,([]:ai),0,([]:List ah)⟩:ah),([]:List ah)⟩:ae),(⟨4,([73,110,116,76,105,115,116]:ai),([]:List ae),([]:List ai),(⟨0,([]:ai),0,([]:List ah)⟩:ah),([]:List ah)⟩:ae)]:List ae) 2 (by kernel_rfl))<|tv (Ev ([67,111,110,115]:ai) ([([120]:ai),([114,101,115,116]:ai)]:List ai) ([(⟨1,([]:ai),([]:List ae),([]:List ai),(⟨0,([]:ai),0,([]:List ah)⟩:ah),([]:List ah)⟩:ae),(⟨4,([73,110,116,76,105,115,116]:ai),([]:List ae),([]:List ai),(⟨0,([]:ai),0,([]:List ah)⟩:ah),([]:List ah)⟩:ae)]:List ae))<|tv (MD.mk' (v:=OO) N4 ([(⟨([78,105,108]:ai),([]:List ai),([]:List ae)⟩:aP),(⟨([67,111,110,115]:ai),([([120]:ai),([114,101,115,116]:ai)]:List ai),([(⟨1,([]:ai),([]:List ae),([]:List ai),(⟨0,([]:ai),0,([]:List ah)⟩:ah),([]:List ah)⟩:ae),(⟨4,([73,110,116,76,105,115,116]:ai),([]:List ae),([]:List ai),(⟨0,([]:ai),0,([]:List ah)⟩:ah),([]:List ah)⟩:ae)]:List ae)⟩:aP)]:List aP) 2 (by kernel_rfl))<|E5 (GM ([73,110,116,76,105,115,116]:ai) ([(⟨([78,105,108]:ai),([]:List ai),([]:List ae)⟩:aP),(⟨([67,111,110,115]:ai),([([120]:ai),([114,101,115,116]:ai)]:List ai),([(⟨1,([]:ai),([]:List ae),([]:List ai),(⟨0,([]:ai),0,([]:List ah)⟩:ah),([]:List ah)⟩:ae),(⟨4,([73,110,116,76,105,115,116]:ai),([]:List ae),([]:List ai),(⟨0,([]:ai),0,([]:List ah)⟩:ah),([]:List ah)⟩:ae)]:List ae)⟩:aP)]:List aP)) (GK ([73,110,116,76,105,115,116]:ai) ([(⟨([78,105,108]:ai),([]:List ai),([]:List ae)⟩:aP),(⟨([67,111,110,115]:ai),([([120]:ai),([114,101,115,116]:ai)]:List ai),([(⟨1,([]:ai),([]:List ae),([]:List ai),(⟨0,([]:ai),0,([]:List ah)⟩:ah),([]:List ah)⟩:ae),(⟨4,([73,110,116,76,105,115,116]:ai),([]:List ae),([]:List ai),(⟨0,([]:ai),0,([]:List ah)⟩:ah),([]:List ah)⟩:ae)]:List ae)⟩:aP)]:List aP))<|tv (Ot.mk' (v:=LA) Ml ([(⟨([73,110,116,76,105,115,116]:ai),([]:List ai),([]:List cq),([(⟨([78,105,108]:ai),([]:List ai),([]:List ae)⟩:aP),(⟨([67,111,110,115]:ai),([([120]:ai),([114,101,115,116]:ai)]:List ai),([(⟨1,([]:ai),([]:List ae),([]:List ai),(⟨0,([]:ai),0,([]:List ah)⟩:ah),([]:List ah)⟩:ae),(⟨4,([73,110,116,76,105,115,116]:ai),([]:List ae),([]:List ai),(⟨0,([]:ai),0,([]:List ah)⟩:ah),([]:List ah)⟩:ae)]:List ae)⟩:aP)]:List aP)⟩:aS)]:List aS) 1 (by kernel_rfl))<|E5 (GN ([(⟨([73,110,116,76,105,115,116]:ai),([]:List ai),([]:List cq),([(⟨([78,105,108]:ai),([]:List ai),([]:List ae)⟩:aP),(⟨([67,111,110,115]:ai),([([120]:ai),([114,101,115,116]:ai)]:List ai),([(⟨1,([]:ai),([]:List ae),([]:List ai),(⟨0,([]:ai),0,([]:List ah)⟩:ah),([]:List ah)⟩:ae),(⟨4,([73,110,116,76,105,115,116]:ai),([]:List ae),([]:List ai),(⟨0,([]:ai),0,([]:List ah)⟩:ah),([]:List ah)⟩:ae)]:List ae)⟩:aP)]:List aP)⟩:aS)]:List aS)) (GL ([(⟨([73,110,116,76,105,115,116]:ai),([]:List ai),([]:List cq),([(⟨([78,105,108]:ai),([]:List ai),([]:List ae)⟩:aP),(⟨([67,111,110,115]:ai),([([120]:ai),([114,101,115,116]:ai)]:List ai),([(⟨1,([]:ai),([]:List ae),([]:List ai),(⟨0,([]:ai),0,([]:List ah)⟩:ah),([]:List ah)⟩:ae),(⟨4,([73,110,116,76,105,115,116]:ai),([]:List ae),([]:List ai),(⟨0,([]:ai),0,([]:List ah)⟩:ah),([]:List ah)⟩:ae)]:List ae)⟩:aP)]:List aP)⟩:aS)]:List aS))<|tx Uy<|ty (xe (⟨([(⟨([73,110,116,76,105,115,116]:ai),([]:List ai),([]:List cq),([(⟨([78,105,108]:ai),([]:List ai),([]:List ae)⟩:aP),(⟨([67,111,110,115]:ai),([([120]:ai),([114,101,115,116]:ai)]:List ai),([(⟨1,([]:ai),([]:List ae),([]:List ai),(⟨0,([]:ai),0,([]:List ah)⟩:ah),([]:List ah)⟩:ae),(⟨4,([73,110,116,76,105,115,116]:ai),([]:List ae),([]:List ai),(⟨0,([]:ai),0,([]:List ah)⟩:ah),([]:List ah)⟩:ae)]:List ae)⟩:aP)]:List aP)⟩:aS)]:List aS),([]:List eD),([]:List bN),([]:List ce),([]:List gj),([]:List kW)⟩:aB))<|bz (jl _ br1)<|E5 (Ew 3 ([78,105,108]:ai)) (Eu 3 ([78,105,108]:ai))<|tv (aZ.mk' (v:=oh) kR ([r1,(⟨3,0,([78,105,108]:ai),([]:List aa),([]:List ai),([]:List aj),([]:List aA)⟩:aa)]:List aa) 2 (by kernel_rfl))<|E5 (rN 3 ([67,111,110,115]:ai) ([r1,(⟨3,0,([78,105,108]:ai),([]:List aa),([]:List ai),([]:List aj),([]:List aA)⟩:aa)]:List aa)) (Bv 3 ([67,111,110,115]:ai) ([r1,(⟨3,0,([78,105,108]:ai),([]:List aa),([]:List ai),([]:List aj),([]:List aA)⟩:aa)]:List aa))<|tx vI<|ty (bm (⟨3,0,([67,111,110,115]:ai),([r1,(⟨3,0,([78,105,108]:ai),([]:List aa),([]:List ai),([]:List aj),([]:List aA)⟩:aa)]:List aa),([]:List ai),([]:List aj),([]:List aA)⟩:aa))<|tv (gb (⟨([(⟨([73,110,116,76,105,115,116]:ai),([]:List ai),([]:List cq),([(⟨([78,105,108]:ai),([]:List ai),([]:List ae)⟩:aP),(⟨([67,111,110,115]:ai),([([120]:ai),([114,101,115,116]:ai)]:List ai),([(⟨1,([]:ai),([]:List ae),([]:List ai),(⟨0,([]:ai),0,([]:List ah)⟩:ah),([]:List ah)⟩:ae),(⟨4,([73,110,116,76,105,115,116]:ai),([]:List ae),([]:List ai),(⟨0,([]:ai),0,([]:List ah)⟩:ah),([]:List ah)⟩:ae)]:List ae)⟩:aP)]:List aP)⟩:aS)]:List aS),([]:List eD),([]:List bN),([]:List ce),([]:List gj),([]:List kW)⟩:aB) [])<|tv (fR (⟨4,([73,110,116,76,105,115,116]:ai),([]:List ae),([]:List ai),(⟨0,([]:ai),0,([]:List ah)⟩:ah),([]:List ah)⟩:ae) [])<|bz (wB _ br2)<|tv (gb (⟨([(⟨([73,110,116,76,105,115,116]:ai),([]:List ai),([]:List cq),([(⟨([78,105,108]:ai),([]:List ai),([]:List ae)⟩:aP),(⟨([67,111,110,115]:ai),([([120]:ai),([114,101,115,116]:ai)]:List ai),([(⟨1,([]:ai),([]:List ae),([]:List ai),(⟨0,([]:ai),0,([]:List ah)⟩:ah),([]:List ah)⟩:ae),(⟨4,([73,110,116,76,105,115,116]:ai),([]:List ae),([]:List ai),(⟨0,([]:ai),0,([]:List ah)⟩:ah),([]:List ah)⟩:ae)]:List ae)⟩:aP)]:List aP)⟩:aS)]:List aS),([]:List eD),([]:List bN),([]:List ce),([]:List gj),([]:List kW)⟩:aB) [])<|E5 (nN 2) (nK 2)<|bz (wB _ br3)<|tv (gb (⟨([(⟨([73,110,116,76,105,115,116]:ai),([]:List ai),([]:List cq),([(⟨([78,105,108]:ai),([]:List ai),([]:List ae)⟩:aP),(⟨([67,111,110,115]:ai),([([120]:ai),([114,101,115,116]:ai)]:List ai),([(⟨1,([]:ai),([]:List ae),([]:List ai),(⟨0,([]:ai),0,([]:List ah)⟩:ah),([]:List ah)⟩:ae),(⟨4,([73,110,116,76,105,115,116]:ai),([]:List ae),([]:List ai),(⟨0,([]:ai),0,([]:List ah)⟩:ah),([]:List ah)⟩:ae)]:List ae)⟩:aP)]:List aP)⟩:aS)]:List aS),([]:List eD),([]:List bN),([]:List ce),([]:List gj),([]:List kW)⟩:aB) [])<|tv (aF (⟨3,0,([67,111,110,115]:ai),([r1,(⟨3,0,([78,105,108]:ai),([]:List aa),([]:List ai),([]:List aj),([]:List aA)⟩:aa)]:List aa),([]:List ai),([]:List aj),([]:List aA)⟩:aa) [])<|bz (wE _ br4)<|tx Aa<|tx (iO r4.1)<|tf (λc6=>tb λr7 br7=>tf (λc8=>tf (λc9=>tb λx10 bx10=>tb λr11 br11=>tf (λc12=>tb λx13 bx13=>tb λr14 br14=>tf (λc15=>tb λx16 bx16=>tb λr17 br17=>tf (λc18=>tf (λc19=>tb λx20 bx20=>tf (λc21=>tb λr22 br22=>tb λr23 br23=>tf (λc24=>tf (λc25=>tf (λc26=>tb λr27 br27=>pG [0,1,3,7,15,31,63,127,255,511,1023,2047,4095,8191,16383,32767,65535,131071,262143,524287,1048575,2097151,4194303,8388607,16777215,33554431,67108863,134217727,268435455,536870911,1073741823,268435455,4294967295,8589934591,17179869183,34359738367,68719476735,137438953471,274877906943,549755813887,1099511627775,2199023255551,4398046511103,8796093022207,17592186044415,35184372088831,70368744177663,140737488355327,140737488355327,562949953421311,1125899906842623,2251799813685247,4503599627370495,9007199254740991,18014398509481983,36028797018963967,72057594037927935,144115188075855871,288230376151711743,576460752303423487,1152921504606846975,2305843009213693951,2305843009213693951,2305843009213693951,18446744073709551615,36893488147419103231,73786976294838206463]<|tv (aF (⟨3,0,([67,111,110,115]:ai),([r1,(⟨3,0,([78,105,108]:ai),([]:List aa),([]:List ai),([]:List aj),([]:List aA)⟩:aa)]:List aa),([]:List ai),([]:List aj),([]:List aA)⟩:aa) [])<|bz (bI _ br5)<|tg 4 c6<|tv (aF (⟨3,0,([67,111,110,115]:ai),([r1,(⟨3,0,([78,105,108]:ai),([]:List aa),([]:List ai),([]:List aj),([]:List aA)⟩:aa)]:List aa),([]:List ai),([]:List aj),([]:List aA)⟩:aa) [])<|bz (aK _ br7)<|tg 9 c8<|cO (aZ.ln r2)<|tg 14 c9<|tv (aZ.ia (k:=.i64) bx10)<|tv (al x10)<|bz (aK _ br11)<|tg 21 c12<|tv (aZ.ia (k:=.i64) bx13)<|tv (al x13)<|bz (aK _ br14)<|tg 28 c15<|tv (aZ.ia (k:=.i64) bx16)<|tv (al x16)<|tv (aF (⟨3,0,([67,111,110,115]:ai),([r1,(⟨3,0,([78,105,108]:ai),([]:List aa),([]:List ai),([]:List aj),([]:List aA)⟩:aa)]:List aa),([]:List ai),([]:List aj),([]:List aA)⟩:aa) [])<|bz (bD _ br17)<|tg 35 c18<|cO (aZ.ln r3)<|tg 40 c19<|tv (aZ.ia (k:=.i64) bx20)<|tw (az x20)<|tg 47 c21<|tv (gb (⟨([(⟨([73,110,116,76,105,115,116]:ai),([]:List ai),([]:List cq),([(⟨([78,105,108]:ai),([]:List ai),([]:List ae)⟩:aP),(⟨([67,111,110,115]:ai),([([120]:ai),([114,101,115,116]:ai)]:List ai),([(⟨1,([]:ai),([]:List ae),([]:List ai),(⟨0,([]:ai),0,([]:List ah)⟩:ah),([]:List ah)⟩:ae),(⟨4,([73,110,116,76,105,115,116]:ai),([]:List ae),([]:List ai),(⟨0,([]:ai),0,([]:List ah)⟩:ah),([]:List ah)⟩:ae)]:List ae)⟩:aP)]:List aP)⟩:aS)]:List aS),([]:List eD),([]:List bN),([]:List ce),([]:List gj),([]:List kW)⟩:aB) [])<|bz (jl _ br22)<|bz (iD _ br23)<|tg 53 c24<|ts<|tg 58 c25<|tg 61 c26<|tv (gb (⟨([(⟨([73,110,116,76,105,115,116]:ai),([]:List ai),([]:List cq),([(⟨([78,105,108]:ai),([]:List ai),([]:List ae)⟩:aP),(⟨([67,111,110,115]:ai),([([120]:ai),([114,101,115,116]:ai)]:List ai),([(⟨1,([]:ai),([]:List ae),([]:List ai),(⟨0,([]:ai),0,([]:List ah)⟩:ah),([]:List ah)⟩:ae),(⟨4,([73,110,116,76,105,115,116]:ai),([]:List ae),([]:List ai),(⟨0,([]:ai),0,([]:List ah)⟩:ah),([]:List ah)⟩:ae)]:List ae)⟩:aP)]:List aP)⟩:aS)]:List aS),([]:List eD),([]:List bN),([]:List ce),([]:List gj),([]:List kW)⟩:aB) [])<|tv (aF (⟨3,0,([67,111,110,115]:ai),([r1,(⟨3,0,([78,105,108]:ai),([]:List aa),([]:List ai),([]:List aj),([]:List aA)⟩:aa)]:List aa),([]:List ai),([]:List aj),([]:List aA)⟩:aa) [])<|tv (fR (⟨4,([73,110,116,76,105,115,116]:ai),([]:List ae),([]:List ai),(⟨0,([]:ai),0,([]:List ah)⟩:ah),([]:List ah)⟩:ae) [])<|bz (Fb _ br27)<|tE) λc26=>pG [0,1,3,7,15,31,63,127,255,511,1023,2047,4095,8191,16383,32767,65535,131071,262143,524287,1048575,2097151,4194303,8388607,16777215,33554431,67108863,134217727,268435455,536870911,1073741823,268435455,4294967295,8589934591,17179869183,34359738367,68719476735,137438953471,274877906943,549755813887,1099511627775,2199023255551,4398046511103,8796093022207,17592186044415,35184372088831,70368744177663,140737488355327,140737488355327,562949953421311,1125899906842623,2251799813685247,4503599627370495,9007199254740991,18014398509481983,36028797018963967,72057594037927935,144115188075855871,288230376151711743,576460752303423487,1152921504606846975,2305843009213693951,2305843009213693951,2305843009213693951,18446744073709551615,36893488147419103231,73786976294838206463]<|tv (aF (⟨3,0,([67,111,110,115]:ai),([r1,(⟨3,0,([78,105,108]:ai),([]:List aa),([]:List ai),([]:List aj),([]:List aA)⟩:aa)]:List aa),([]:List ai),([]:List aj),([]:List aA)⟩:aa) [])<|bz (bI _ br5)<|tg 4 c6<|tv (aF (⟨3,0,([67,111,110,115]:ai),([r1,(⟨3,0,([78,105,108]:ai),([]:List aa),([]:List ai),([]:List aj),([]:List aA)⟩:aa)]:List aa),([]:List ai),([]:List aj),([]:List aA)⟩:aa) [])<|bz (aK _ br7)<|tg 9 c8<|cO (aZ.ln r2)<|tg 14 c9<|tv (aZ.ia (k:=.i64) bx10)<|tv (al x10)<|bz (aK _ br11)<|tg 21 c12<|tv (aZ.ia (k:=.i64) bx13)<|tv (al x13)<|bz (aK _ br14)<|tg 28 c15<|tv (aZ.ia (k:=.i64) bx16)<|tv (al x16)<|tv (aF (⟨3,0,([67,111,110,115]:ai),([r1,(⟨3,0,([78,105,108]:ai),([]:List aa),([]:List ai),([]:List aj),([]:List aA)⟩:aa)]:List aa),([]:List ai),([]:List aj),([]:List aA)⟩:aa) [])<|bz (bD _ br17)<|tg 35 c18<|cO (aZ.ln r3)<|tg 40 c19<|tv (aZ.ia (k:=.i64) bx20)<|tw (az x20)<|tg 47 c21<|tv (gb (⟨([(⟨([73,110,116,76,105,115,116]:ai),([]:List ai),([]:List cq),([(⟨([78,105,108]:ai),([]:List ai),([]:List ae)⟩:aP),(⟨([67,111,110,115]:ai),([([120]:ai),([114,101,115,116]:ai)]:List ai),([(⟨1,([]:ai),([]:List ae),([]:List ai),(⟨0,([]:ai),0,([]:List ah)⟩:ah),([]:List ah)⟩:ae),(⟨4,([73,110,116,76,105,115,116]:ai),([]:List ae),([]:List ai),(⟨0,([]:ai),0,([]:List ah)⟩:ah),([]:List ah)⟩:ae)]:List ae)⟩:aP)]:List aP)⟩:aS)]:List aS),([]:List eD),([]:List bN),([]:List ce),([]:List gj),([]:List kW)⟩:aB) [])<|bz (jl _ br22)<|bz (iD _ br23)<|tg 53 c24<|ts<|tg 58 c25<|tg 61 c26<|tE) λc25=>pG [0,1,3,7,15,31,63,127,255,511,1023,2047,4095,8191,16383,32767,65535,131071,262143,524287,1048575,2097151,4194303,8388607,16777215,33554431,67108863,134217727,268435455,536870911,1073741823,268435455,4294967295,8589934591,17179869183,34359738367,68719476735,137438953471,274877906943,549755813887,1099511627775,2199023255551,4398046511103,8796093022207,17592186044415,35184372088831,70368744177663,140737488355327,140737488355327,562949953421311,1125899906842623,2251799813685247,4503599627370495,9007199254740991,18014398509481983,36028797018963967,72057594037927935,144115188075855871,288230376151711743,576460752303423487,1152921504606846975,2305843009213693951,2305843009213693951,2305843009213693951,18446744073709551615,36893488147419103231,73786976294838206463]<|tv (aF (⟨3,0,([67,111,110,115]:ai),([r1,(⟨3,0,([78,105,108]:ai),([]:List aa),([]:List ai),([]:List aj),([]:List aA)⟩:aa)]:List aa),([]:List ai),([]:List aj),([]:List aA)⟩:aa) [])<|bz (bI _ br5)<|tg 4 c6<|tv (aF (⟨3,0,([67,111,110,115]:ai),([r1,(⟨3,0,([78,105,108]:ai),([]:List aa),([]:List ai),([]:List aj),([]:List aA)⟩:aa)]:List aa),([]:List ai),([]:List aj),([]:List aA)⟩:aa) [])<|bz (aK _ br7)<|tg 9 c8<|cO (aZ.ln r2)<|tg 14 c9<|tv (aZ.ia (k:=.i64) bx10)<|tv (al x10)<|bz (aK _ br11)<|tg 21 c12<|tv (aZ.ia (k:=.i64) bx13)<|tv (al x13)<|bz (aK _ br14)<|tg 28 c15<|tv (aZ.ia (k:=.i64) bx16)<|tv (al x16)<|tv (aF (⟨3,0,([67,111,110,115]:ai),([r1,(⟨3,0,([78,105,108]:ai),([]:List aa),([]:List ai),([]:List aj),([]:List aA)⟩:aa)]:List aa),([]:List ai),([]:List aj),([]:List aA)⟩:aa) [])<|bz (bD _ br17)<|tg 35 c18<|cO (aZ.ln r3)<|tg 40 c19<|tv (aZ.ia (k:=.i64) bx20)<|tw (az x20)<|tg 47 c21<|tv (gb (⟨([(⟨([73,110,116,76,105,115,116]:ai),([]:List ai),([]:List cq),([(⟨([78,105,108]:ai),([]:List ai),([]:List ae)⟩:aP),(⟨([67,111,110,115]:ai),([([120]:ai),([114,101,115,116]:ai)]:List ai),([(⟨1,([]:ai),([]:List ae),([]:List ai),(⟨0,([]:ai),0,([]:List ah)⟩:ah),([]:List ah)⟩:ae),(⟨4,([73,110,116,76,105,115,116]:ai),([]:List ae),([]:List ai),(⟨0,([]:ai),0,([]:List ah)⟩:ah),([]:List ah)⟩:ae)]:List ae)⟩:aP)]:List aP)⟩:aS)]:List aS),([]:List eD),([]:List bN),([]:List ce),([]:List gj),([]:List kW)⟩:aB) [])<|bz (jl _ br22)<|bz (iD _ br23)<|tg 53 c24<|ts<|tg 58 c25<|tE) λc24=>pG [0,1,3,7,15,31,63,127,255,511,1023,2047,4095,8191,16383,32767,65535,131071,262143,524287,1048575,2097151,4194303,8388607,16777215,33554431,67108863,134217727,268435455,536870911,1073741823,268435455,4294967295,8589934591,17179869183,34359738367,68719476735,137438953471,274877906943,549755813887,1099511627775,2199023255551,4398046511103,8796093022207,17592186044415,35184372088831,70368744177663,140737488355327,140737488355327,562949953421311,1125899906842623,2251799813685247,4503599627370495,9007199254740991,18014398509481983,36028797018963967,72057594037927935,144115188075855871,288230376151711743,576460752303423487,1152921504606846975,2305843009213693951,2305843009213693951,2305843009213693951,18446744073709551615,36893488147419103231,73786976294838206463]<|tv (aF (⟨3,0,([67,111,110,115]:ai),([r1,(⟨3,0,([78,105,108]:ai),([]:List aa),([]:List ai),([]:List aj),([]:List aA)⟩:aa)]:List aa),([]:List ai),([]:List aj),([]:List aA)⟩:aa) [])<|bz (bI _ br5)<|tg 4 c6<|tv (aF (⟨3,0,([67,111,110,115]:ai),([r1,(⟨3,0,([78,105,108]:ai),([]:List aa),([]:List ai),([]:List aj),([]:List aA)⟩:aa)]:List aa),([]:List ai),([]:List aj),([]:List aA)⟩:aa) [])<|bz (aK _ br7)<|tg 9 c8<|cO (aZ.ln r2)<|tg 14 c9<|tv (aZ.ia (k:=.i64) bx10)<|tv (al x10)<|bz (aK _ br11)<|tg 21 c12<|tv (aZ.ia (k:=.i64) bx13)<|tv (al x13)<|bz (aK _ br14)<|tg 28 c15<|tv (aZ.ia (k:=.i64) bx16)<|tv (al x16)<|tv (aF (⟨3,0,([67,111,110,115]:ai),([r1,(⟨3,0,([78,105,108]:ai),([]:List aa),([]:List ai),([]:List aj),([]:List aA)⟩:aa)]:List aa),([]:List ai),([]:List aj),([]:List aA)⟩:aa) [])<|bz (bD _ br17)<|tg 35 c18<|cO (aZ.ln r3)<|tg 40 c19<|tv (aZ.ia (k:=.i64) bx20)<|tw (az x20)<|tg 47 c21<|tv (gb (⟨([(⟨([73,110,116,76,105,115,116]:ai),([]:List ai),([]:List cq),([(⟨([78,105,108]:ai),([]:List ai),([]:List ae)⟩:aP),(⟨([67,111,110,115]:ai),([([120]:ai),([114,101,115,116]:ai)]:List ai),([(⟨1,([]:ai),([]:List ae),([]:List ai),(⟨0,([]:ai),0,([]:List ah)⟩:ah),([]:List ah)⟩:ae),(⟨4,([73,110,116,76,105,115,116]:ai),([]:List ae),([]:List ai),(⟨0,([]:ai),0,([]:List ah)⟩:ah),([]:List ah)⟩:ae)]:List ae)⟩:aP)]:List aP)⟩:aS)]:List aS),([]:List eD),([]:List bN),([]:List ce),([]:List gj),([]:List kW)⟩:aB) [])<|bz (jl _ br22)<|bz (iD _ br23)<|tg 53 c24<|tE) λc21=>pG [0,1,3,7,15,31,63,127,255,511,1023,2047,4095,8191,16383,32767,65535,131071,262143,524287,1048575,2097151,4194303,8388607,16777215,33554431,67108863,134217727,268435455,536870911,1073741823,268435455,4294967295,8589934591,17179869183,34359738367,68719476735,137438953471,274877906943,549755813887,1099511627775,2199023255551,4398046511103,8796093022207,17592186044415,35184372088831,70368744177663,140737488355327,140737488355327,562949953421311,1125899906842623,2251799813685247,4503599627370495,9007199254740991,18014398509481983,36028797018963967,72057594037927935,144115188075855871,288230376151711743,576460752303423487,1152921504606846975,2305843009213693951,2305843009213693951,2305843009213693951,18446744073709551615,36893488147419103231,73786976294838206463]<|tv (aF (⟨3,0,([67,111,110,115]:ai),([r1,(⟨3,0,([78,105,108]:ai),([]:List aa),([]:List ai),([]:List aj),([]:List aA)⟩:aa)]:List aa),([]:List ai),([]:List aj),([]:List aA)⟩:aa) [])<|bz (bI _ br5)<|tg 4 c6<|tv (aF (⟨3,0,([67,111,110,115]:ai),([r1,(⟨3,0,([78,105,108]:ai),([]:List aa),([]:List ai),([]:List aj),([]:List aA)⟩:aa)]:List aa),([]:List ai),([]:List aj),([]:List aA)⟩:aa) [])<|bz (aK _ br7)<|tg 9 c8<|cO (aZ.ln r2)<|tg 14 c9<|tv (aZ.ia (k:=.i64) bx10)<|tv (al x10)<|bz (aK _ br11)<|tg 21 c12<|tv (aZ.ia (k:=.i64) bx13)<|tv (al x13)<|bz (aK _ br14)<|tg 28 c15<|tv (aZ.ia (k:=.i64) bx16)<|tv (al x16)<|tv (aF (⟨3,0,([67,111,110,115]:ai),([r1,(⟨3,0,([78,105,108]:ai),([]:List aa),([]:List ai),([]:List aj),([]:List aA)⟩:aa)]:List aa),([]:List ai),([]:List aj),([]:List aA)⟩:aa) [])<|bz (bD _ br17)<|tg 35 c18<|cO (aZ.ln r3)<|tg 40 c19<|tv (aZ.ia (k:=.i64) bx20)<|tw (az x20)<|tg 47 c21<|tE) λc19=>pG [0,1,3,7,15,31,63,127,255,511,1023,2047,4095,8191,16383,32767,65535,131071,262143,524287,1048575,2097151,4194303,8388607,16777215,33554431,67108863,134217727,268435455,536870911,1073741823,268435455,4294967295,8589934591,17179869183,34359738367,68719476735,137438953471,274877906943,549755813887,1099511627775,2199023255551,4398046511103,8796093022207,17592186044415,35184372088831,70368744177663,140737488355327,140737488355327,562949953421311,1125899906842623,2251799813685247,4503599627370495,9007199254740991,18014398509481983,36028797018963967,72057594037927935,144115188075855871,288230376151711743,576460752303423487,1152921504606846975,2305843009213693951,2305843009213693951,2305843009213693951,18446744073709551615,36893488147419103231,73786976294838206463]<|tv (aF (⟨3,0,([67,111,110,115]:ai),([r1,(⟨3,0,([78,105,108]:ai),([]:List aa),([]:List ai),([]:List aj),([]:List aA)⟩:aa)]:List aa),([]:List ai),([]:List aj),([]:List aA)⟩:aa) [])<|bz (bI _ br5)<|tg 4 c6<|tv (aF (⟨3,0,([67,111,110,115]:ai),([r1,(⟨3,0,([78,105,108]:ai),([]:List aa),([]:List ai),([]:List aj),([]:List aA)⟩:aa)]:List aa),([]:List ai),([]:List aj),([]:List aA)⟩:aa) [])<|bz (aK _ br7)<|tg 9 c8<|cO (aZ.ln r2)<|tg 14 c9<|tv (aZ.ia (k:=.i64) bx10)<|tv (al x10)<|bz (aK _ br11)<|tg 21 c12<|tv (aZ.ia (k:=.i64) bx13)<|tv (al x13)<|bz (aK _ br14)<|tg 28 c15<|tv (aZ.ia (k:=.i64) bx16)<|tv (al x16)<|tv (aF (⟨3,0,([67,111,110,115]:ai),([r1,(⟨3,0,([78,105,108]:ai),([]:List aa),([]:List ai),([]:List aj),([]:List aA)⟩:aa)]:List aa),([]:List ai),([]:List aj),([]:List aA)⟩:aa) [])<|bz (bD _ br17)<|tg 35 c18<|cO (aZ.ln r3)<|tg 40 c19<|tE) λc18=>pG [0,1,3,7,15,31,63,127,255,511,1023,2047,4095,8191,16383,32767,65535,131071,262143,524287,1048575,2097151,4194303,8388607,16777215,33554431,67108863,134217727,268435455,536870911,1073741823,268435455,4294967295,8589934591,17179869183,34359738367,68719476735,137438953471,274877906943,549755813887,1099511627775,2199023255551,4398046511103,8796093022207,17592186044415,35184372088831,70368744177663,140737488355327,140737488355327,562949953421311,1125899906842623,2251799813685247,4503599627370495,9007199254740991,18014398509481983,36028797018963967,72057594037927935,144115188075855871,288230376151711743,576460752303423487,1152921504606846975,2305843009213693951,2305843009213693951,2305843009213693951,18446744073709551615,36893488147419103231,73786976294838206463]<|tv (aF (⟨3,0,([67,111,110,115]:ai),([r1,(⟨3,0,([78,105,108]:ai),([]:List aa),([]:List ai),([]:List aj),([]:List aA)⟩:aa)]:List aa),([]:List ai),([]:List aj),([]:List aA)⟩:aa) [])<|bz (bI _ br5)<|tg 4 c6<|tv (aF (⟨3,0,([67,111,110,115]:ai),([r1,(⟨3,0,([78,105,108]:ai),([]:List aa),([]:List ai),([]:List aj),([]:List aA)⟩:aa)]:List aa),([]:List ai),([]:List aj),([]:List aA)⟩:aa) [])<|bz (aK _ br7)<|tg 9 c8<|cO (aZ.ln r2)<|tg 14 c9<|tv (aZ.ia (k:=.i64) bx10)<|tv (al x10)<|bz (aK _ br11)<|tg 21 c12<|tv (aZ.ia (k:=.i64) bx13)<|tv (al x13)<|bz (aK _ br14)<|tg 28 c15<|tv (aZ.ia (k:=.i64) bx16)<|tv (al x16)<|tv (aF (⟨3,0,([67,111,110,115]:ai),([r1,(⟨3,0,([78,105,108]:ai),([]:List aa),([]:List ai),([]:List aj),([]:List aA)⟩:aa)]:List aa),([]:List ai),([]:List aj),([]:List aA)⟩:aa) [])<|bz (bD _ br17)<|tg 35 c18<|tE) λc15=>pG [0,1,3,7,15,31,63,127,255,511,1023,2047,4095,8191,16383,32767,65535,131071,262143,524287,1048575,2097151,4194303,8388607,16777215,33554431,67108863,134217727,268435455,536870911,1073741823,268435455,4294967295,8589934591,17179869183,34359738367,68719476735,137438953471,274877906943,549755813887,1099511627775,2199023255551,4398046511103,8796093022207,17592186044415,35184372088831,70368744177663,140737488355327,140737488355327,562949953421311,1125899906842623,2251799813685247,4503599627370495,9007199254740991,18014398509481983,36028797018963967,72057594037927935,144115188075855871,288230376151711743,576460752303423487,1152921504606846975,2305843009213693951,2305843009213693951,2305843009213693951,18446744073709551615,36893488147419103231,73786976294838206463]<|tv (aF (⟨3,0,([67,111,110,115]:ai),([r1,(⟨3,0,([78,105,108]:ai),([]:List aa),([]:List ai),([]:List aj),([]:List aA)⟩:aa)]:List aa),([]:List ai),([]:List aj),([]:List aA)⟩:aa) [])<|bz (bI _ br5)<|tg 4 c6<|tv (aF (⟨3,0,([67,111,110,115]:ai),([r1,(⟨3,0,([78,105,108]:ai),([]:List aa),([]:List ai),([]:List aj),([]:List aA)⟩:aa)]:List aa),([]:List ai),([]:List aj),([]:List aA)⟩:aa) [])<|bz (aK _ br7)<|tg 9 c8<|cO (aZ.ln r2)<|tg 14 c9<|tv (aZ.ia (k:=.i64) bx10)<|tv (al x10)<|bz (aK _ br11)<|tg 21 c12<|tv (aZ.ia (k:=.i64) bx13)<|tv (al x13)<|bz (aK _ br14)<|tg 28 c15<|tE) λc12=>pG [0,1,3,7,15,31,63,127,255,511,1023,2047,4095,8191,16383,32767,65535,131071,262143,524287,1048575,2097151,4194303,8388607,16777215,33554431,67108863,134217727,268435455,536870911,1073741823,268435455,4294967295,8589934591,17179869183,34359738367,68719476735,137438953471,274877906943,549755813887,1099511627775,2199023255551,4398046511103,8796093022207,17592186044415,35184372088831,70368744177663,140737488355327,140737488355327,562949953421311,1125899906842623,2251799813685247,4503599627370495,9007199254740991,18014398509481983,36028797018963967,72057594037927935,144115188075855871,288230376151711743,576460752303423487,1152921504606846975,2305843009213693951,2305843009213693951,2305843009213693951,18446744073709551615,36893488147419103231,73786976294838206463]<|tv (aF (⟨3,0,([67,111,110,115]:ai),([r1,(⟨3,0,([78,105,108]:ai),([]:List aa),([]:List ai),([]:List aj),([]:List aA)⟩:aa)]:List aa),([]:List ai),([]:List aj),([]:List aA)⟩:aa) [])<|bz (bI _ br5)<|tg 4 c6<|tv (aF (⟨3,0,([67,111,110,115]:ai),([r1,(⟨3,0,([78,105,108]:ai),([]:List aa),([]:List ai),([]:List aj),([]:List aA)⟩:aa)]:List aa),([]:List ai),([]:List aj),([]:List aA)⟩:aa) [])<|bz (aK _ br7)<|tg 9 c8<|cO (aZ.ln r2)<|tg 14 c9<|tv (aZ.ia (k:=.i64) bx10)<|tv (al x10)<|bz (aK _ br11)<|tg 21 c12<|tE) λc9=>pG [0,1,3,7,15,31,63,127,255,511,1023,2047,4095,8191,16383,32767,65535,131071,262143,524287,1048575,2097151,4194303,8388607,16777215,33554431,67108863,134217727,268435455,536870911,1073741823,268435455,4294967295,8589934591,17179869183,34359738367,68719476735,137438953471,274877906943,549755813887,1099511627775,2199023255551,4398046511103,8796093022207,17592186044415,35184372088831,70368744177663,140737488355327,140737488355327,562949953421311,1125899906842623,2251799813685247,4503599627370495,9007199254740991,18014398509481983,36028797018963967,72057594037927935,144115188075855871,288230376151711743,576460752303423487,1152921504606846975,2305843009213693951,2305843009213693951,2305843009213693951,18446744073709551615,36893488147419103231,73786976294838206463]<|tv (aF (⟨3,0,([67,111,110,115]:ai),([r1,(⟨3,0,([78,105,108]:ai),([]:List aa),([]:List ai),([]:List aj),([]:List aA)⟩:aa)]:List aa),([]:List ai),([]:List aj),([]:List aA)⟩:aa) [])<|bz (bI _ br5)<|tg 4 c6<|tv (aF (⟨3,0,([67,111,110,115]:ai),([r1,(⟨3,0,([78,105,108]:ai),([]:List aa),([]:List ai),([]:List aj),([]:List aA)⟩:aa)]:List aa),([]:List ai),([]:List aj),([]:List aA)⟩:aa) [])<|bz (aK _ br7)<|tg 9 c8<|cO (aZ.ln r2)<|tg 14 c9<|tE) λc8=>pG [0,1,3,7,15,31,63,127,255,511,1023,2047,4095,8191,16383,32767,65535,131071,262143,524287,1048575,2097151,4194303,8388607,16777215,33554431,67108863,134217727,268435455,536870911,1073741823,268435455,4294967295,8589934591,17179869183,34359738367,68719476735,137438953471,274877906943,549755813887,1099511627775,2199023255551,4398046511103,8796093022207,17592186044415,35184372088831,70368744177663,140737488355327,140737488355327,562949953421311,1125899906842623,2251799813685247,4503599627370495,9007199254740991,18014398509481983,36028797018963967,72057594037927935,144115188075855871,288230376151711743,576460752303423487,1152921504606846975,2305843009213693951,2305843009213693951,2305843009213693951,18446744073709551615,36893488147419103231,73786976294838206463]<|tv (aF (⟨3,0,([67,111,110,115]:ai),([r1,(⟨3,0,([78,105,108]:ai),([]:List aa),([]:List ai),([]:List aj),([]:List aA)⟩:aa)]:List aa),([]:List ai),([]:List aj),([]:List aA)⟩:aa) [])<|bz (bI _ br5)<|tg 4 c6<|tv (aF (⟨3,0,([67,111,110,115]:ai),([r1,(⟨3,0,([78,105,108]:ai),([]:List aa),([]:List ai),([]:List aj),([]:List aA)⟩:aa)]:List aa),([]:List ai),([]:List aj),([]:List aA)⟩:aa) [])<|bz (aK _ br7)<|tg 9 c8<|tE) λc6=>pG [0,1,3,7,15,31,63,127,255,511,1023,2047,4095,8191,16383,32767,65535,131071,262143,524287,1048575,2097151,4194303,8388607,16777215,33554431,67108863,134217727,268435455,536870911,1073741823,268435455,4294967295,8589934591,17179869183,34359738367,68719476735,137438953471,274877906943,549755813887,1099511627775,2199023255551,4398046511103,8796093022207,17592186044415,35184372088831,70368744177663,140737488355327,140737488355327,562949953421311,1125899906842623,2251799813685247,4503599627370495,9007199254740991,18014398509481983,36028797018963967,72057594037927935,144115188075855871,288230376151711743,576460752303423487,1152921504606846975,2305843009213693951,2305843009213693951,2305843009213693951,18446744073709551615,36893488147419103231,73786976294838206463]<|tv (aF (⟨3,0,([67,111,110,115]:ai),([r1,(⟨3,0,([78,105,108]:ai),([]:List aa),([]:List ai),([]:List aj),([]:List aA)⟩:aa)]:List aa),([]:List ai),([]:List aj),([]:List aA)⟩:aa) [])<|bz (bI _ br5)<|tg 4 c6<|tE
abbrev fO:=(ae->ae->Option Bool)
abbrev jV(R:fO):Prop:=∀(a:ae) (a2:ae),OV 15 [.agg (af a),.agg (af a2)] (R a a2) (λr=>.bool r) []
noncomputable def TO:Code:=f44.body.getD .skip
theorem UW:ZF Pg [] 44 f44 TO:=zf call44 func44 rfl mixed
section
variable(v:waB)(v2:waB)(i:Int)
def jE:ax:=bT 26 [(0,sl cS v),(1,sl cS v2),(5,.int .i64 i)] [] []
def nr(o:Unit⊕(Unit)):Exit:=match o with
 |(.inl _)=>.ret
 |(.inr _)=>.exit 0
def nu(o:Unit⊕(Unit)):ax:=match o with
 |(.inl o)=>bT 26 [(4,.bool false)] [] []
 |(.inr o)=>bT 26 [] [] []
def dU:Option (Int⊕(Unit⊕(Unit))):=
 if decide (i<(v.length:Int))=true then
  (ed v i).bind λx3=>
  (ed v2 i).bind λx4=>
  if(!(x3==x4))=true then
   some (.inr (.inl ()))
  else
   some (.inl (cc (i+1)))
 else
  some (.inr (.inr ()))
def kE:Option (Unit⊕(Unit)):=loop (λ(zz:Int)=>dU v v2 zz) i
theorem ta:OL 0 (cA TO 119) (dU v v2 i) (λ(zz:Int)=>jE v v2 zz) nr nu (jE v v2 i):=UW.l<|
 cO (sJ.ln v)<|tF (tb λx3 bx3=>tb λx4 bx4=>pG [0,0,3,7,0,0,48,112,255]<|tv (sJ.ia (k:=.i64) bx3)<|tv (uf SU (.str x3) [])<|tv (sJ.ia (k:=.i64) bx4)<|tv (uf SU (.str x4) [])<|tF tE<|tE)<|tE
theorem mD:OK 0 (.loop (cA TO 119)) (kE v v2 i) nr nu (jE v v2 i):=yA λ_=>ta _ _ _
end
def gR(a:waB)(a2:waB):Option Bool:=
 if((a.length:Int)!=(a2.length:Int))=true then
  some false
 else
  (kE a a2 0).bind λo6=>match o6 with
  |(.inl o6)=>
   some false
  |(.inr o6)=>
   some true
theorem kF{a:waB}{a2:waB}:OV 44 [sl cS a,sl cS a2] (gR a a2) (λr=>.bool r) []:=UW.v<|
 cO (sJ.ln a)<|cO (sJ.ln a2)<|tF tE<|t2 (λo6 bo6=>dZ (mD a a2 0 _ bo6)<|tE) λo6 bo6=>dZ (mD a a2 0 _ bo6)<|tE
abbrev qY:=(ah->ah->Option Bool)
abbrev wI(R:qY):Prop:=∀(a:ah) (a2:ah),OV 45 [.agg (am a),.agg (am a2)] (R a a2) (λr=>.bool r) []
noncomputable def Ta:Code:=f45.body.getD .skip
theorem TB:ZF Pg [39] 45 f45 Ta:=zf call45 func45 rfl mixed
section
variable(v:ah)(v2:ah)
def sV:Option Bool:=
 if(v.Op !=v2.Op)=true then
  some true
 else if(!(v.Name==v2.Name))=true then
  some true
 else if(v.N !=v2.N)=true then
  some true
 else
  some ((v.Kids.length:Int)!=(v2.Kids.length:Int))
theorem B3:OU 0 (cA Ta 12) (sV v v2) .normal (λo=>[(33,.bool o)]) (bT 53 [(2,.eptr (am v)),(3,.eptr (am v2))] [.dead,.dead] []):=TB.j<|
 have pp2:=λ{X Y Z} (r:PV _ X Y Z)=>tw (gy v)<|tw (gy v2)<|r;tf (λc1=>pp2<|tg 6 c1<|tE) λc1=>have pp4:=λ{X Y Z} (r:PV _ X Y Z)=>pp2<|tg 6 c1<|tw (fx v)<|tw (fx v2)<|r;tf (λc3=>pp4<|tg 13 c3<|tE) λc3=>have pp6:=λ{X Y Z} (r:PV _ X Y Z)=>pp4<|tg 13 c3<|tw (ij v)<|tw (ij v2)<|r;tf (λc5=>pp6<|tg 20 c5<|tE) λc5=>pp6<|tg 20 c5<|tw (cD v)<|cO (lV.ln v.Kids)<|tw (cD v2)<|cO (lV.ln v2.Kids)<|tE
end
section
variable(R67:qY)(v:ah)(v2:ah)(t36:Int)(t37:Int)
def pP:ax:=bT 53 [(2,.eptr (am v)),(3,.eptr (am v2)),(36,.int .i64 t36),(37,.int .i64 t37)] [.dead,.dead] []
def vM(o:Unit⊕(Unit)):Exit:=match o with
 |(.inl _)=>.ret
 |(.inr _)=>.exit 0
def vN(o:Unit⊕(Unit)):ax:=match o with
 |(.inl o)=>bT 53 [(4,.bool false)] [.dead,.dead] []
 |(.inr o)=>bT 53 [] [.dead,.dead] []
def lh:Option (Int⊕(Unit⊕(Unit))):=
 if decide (t37<t36)=true then
  (ed v.Kids t37).bind λx10=>
  (ed v2.Kids t37).bind λx11=>
  (R67 x10 x11).bind λr12=>
  if(!r12)=true then
   some (.inr (.inl ()))
  else
   some (.inl (cc (t37+1)))
 else
  some (.inr (.inr ()))
def sW:Option (Unit⊕(Unit)):=loop (λ(zz:Int)=>lh R67 v v2 t36 zz) t37
theorem A9(hR67:wI R67):OL 0 (cA Ta 119) (lh R67 v v2 t36 t37) (λ(zz:Int)=>pP v v2 t36 zz) vM vN (pP v v2 t36 t37):=TB.l<|
 tF (tb λx10 bx10=>tb λx11 bx11=>tb λr12 br12=>pG [0,1,0,7,15,0,32,0,224,480,1023,2047]<|tw (cD v)<|tv (lV.ia (k:=.i64) bx10)<|tv (lS x10)<|tw (cD v2)<|tv (lV.ia (k:=.i64) bx11)<|tv (lS x11)<|bz (hR67 _ _ _ br12)<|tF tE<|tE)<|tE
theorem sZ(hR67:wI R67):OK 0 (.loop (cA Ta 119)) (sW R67 v v2 t36 t37) vM vN (pP v v2 t36 t37):=yA λ_=>A9 _ _ _ _ _ hR67
end
def qR(R67:qY)(a:ah)(a2:ah):Option Bool:=
 (sV a a2).bind λo7=>
 if o7=true then
  some false
 else
  (sW R67 a a2 (a.Kids.length:Int) 0).bind λo14=>match o14 with
  |(.inl o14)=>
   some false
  |(.inr o14)=>
   some true
theorem Gt(R67:qY)(hR67:wI R67){a:ah}{a2:ah}:OV 45 [.agg (am a),.agg (am a2)] (qR R67 a a2) (λr=>.bool r) []:=TB.v<|
 tb λo7 bo7=>te (yE a)<|te (yE a2)<|xO 1<|dZ (B3 a a2 _ bo7)<|tF tE<|tw (cD a)<|cO (lV.ln a.Kids)<|t2 (λo14 bo14=>dZ (sZ R67 a a2 (a.Kids.length:Int) 0 hR67 _ bo14)<|tE) λo14 bo14=>dZ (sZ R67 a a2 (a.Kids.length:Int) 0 hR67 _ bo14)<|tE
def wL:((ah×ah)->Option Bool)->(ah×ah)->Option Bool:=λ(rec:(ah×ah)->Option Bool) (x:ah×ah)=>qR (λa a2=>rec (a,a2)) x.1 x.2
def xS(a:ah)(a2:ah):Option Bool:=kM wL (a,a2)
theorem Av{a:ah}{a2:ah}:OV 45 [.agg (am a),.agg (am a2)] (xS a a2) (λr=>.bool r) []:=lY λ_ h=>
 cd (F:=wL) (M:=λ(x:ah×ah) (r:Bool)=>CC Pg GE 45 [.agg (am x.1),.agg (am x.2)] (.bool r) []) (λrec hrec x r h=>Gt _ (λa a2=>lY λr h=>hrec (a,a2) r h) _ h) h
noncomputable def TP:Code:=f46.body.getD .skip
theorem UX:ZF Pg [] 46 f46 TP:=zf call46 func46 rfl mixed
section
variable(R65:fO)(v:waC)(v2:waC)(i:Int)
def jF:ax:=bT 27 [(0,sl af v),(1,sl af v2),(5,.int .i64 i)] [] []
def ny(o:Unit⊕(Unit)):Exit:=match o with
 |(.inl _)=>.ret
 |(.inr _)=>.exit 0
def nz(o:Unit⊕(Unit)):ax:=match o with
 |(.inl o)=>bT 27 [(4,.bool false)] [] []
 |(.inr o)=>bT 27 [] [] []
def dV:Option (Int⊕(Unit⊕(Unit))):=
 if decide (i<(v.length:Int))=true then
  (ed v i).bind λx3=>
  (ed v2 i).bind λx4=>
  (R65 x3 x4).bind λr5=>
  if(!r5)=true then
   some (.inr (.inl ()))
  else
   some (.inl (cc (i+1)))
 else
  some (.inr (.inr ()))
def kG:Option (Unit⊕(Unit)):=loop (λ(zz:Int)=>dV R65 v v2 zz) i
theorem td(hR65:jV R65):OL 0 (cA TP 119) (dV R65 v v2 i) (λ(zz:Int)=>jF v v2 zz) ny nz (jF v v2 i):=UX.l<|
 cO (fK.ln v)<|tF (tb λx3 bx3=>tb λx4 bx4=>tb λr5 br5=>pG [0,0,3,7,0,0,48,112,255,511]<|tv (fK.ia (k:=.i64) bx3)<|tv (eI x3)<|tv (fK.ia (k:=.i64) bx4)<|tv (eI x4)<|bz (hR65 _ _ _ br5)<|tF tE<|tE)<|tE
theorem mE(hR65:jV R65):OK 0 (.loop (cA TP 119)) (kG R65 v v2 i) ny nz (jF v v2 i):=yA λ_=>td _ _ _ _ hR65
end
def jj(R65:fO)(a:waC)(a2:waC):Option Bool:=
 if((a.length:Int)!=(a2.length:Int))=true then
  some false
 else
  (kG R65 a a2 0).bind λo7=>match o7 with
  |(.inl o7)=>
   some false
  |(.inr o7)=>
   some true
theorem qa(R65:fO)(hR65:jV R65){a:waC}{a2:waC}:OV 46 [sl af a,sl af a2] (jj R65 a a2) (λr=>.bool r) []:=UX.v<|
 cO (fK.ln a)<|cO (fK.ln a2)<|tF tE<|t2 (λo7 bo7=>dZ (mE R65 a a2 0 hR65 _ bo7)<|tE) λo7 bo7=>dZ (mE R65 a a2 0 hR65 _ bo7)<|tE
noncomputable def S6:Code:=f15.body.getD .skip
theorem Tv:ZF Pg [] 15 f15 S6:=zf call15 func15 rfl mixed
section
variable(v:ae)(v2:ae)
def lZ:Option Bool:=
 if(v.Op !=v2.Op)=true then
  some true
 else if(!(v.Name==v2.Name))=true then
  some true
 else
  (gR v.Names v2.Names).bind λr5=>
  if(!r5)=true then
   some true
  else
   (xS v.Pred v2.Pred).bind λr8=>
   if(!r8)=true then
    some true
   else
    some ((v.Preds.length:Int)!=(v2.Preds.length:Int))
theorem wN:OU 0 (cA S6 12) (lZ v v2) .normal (λo=>[(42,.bool o)]) (bT 67 [(2,.eptr (af v)),(3,.eptr (af v2))] [.dead,.dead] []):=Tv.j<|
 have pp2:=λ{X Y Z} (r:PV _ X Y Z)=>tw (cm v)<|tw (cm v2)<|r;tf (λc1=>pp2<|tg 6 c1<|tE) λc1=>have pp4:=λ{X Y Z} (r:PV _ X Y Z)=>pp2<|tg 6 c1<|tw (cb v)<|tw (cb v2)<|r;tf (λc3=>pp4<|tg 13 c3<|tE) λc3=>tb λr5 br5=>have pp7:=λ{X Y Z} (r:PV _ X Y Z)=>pp4<|tg 13 c3<|tw (eU v)<|tw (eU v2)<|bz (kF _ br5)<|r;tf (λc6=>pp7<|tg 21 c6<|tE) λc6=>tb λr8 br8=>have pp10:=λ{X Y Z} (r:PV _ X Y Z)=>pp7<|tg 21 c6<|tw (eW v)<|tw (eW v2)<|bz (Av _ br8)<|r;tf (λc9=>pp10<|tg 29 c9<|tE) λc9=>pp10<|tg 29 c9<|tw (cE v)<|cO (lV.ln v.Preds)<|tw (cE v2)<|cO (lV.ln v2.Preds)<|tE
end
section
variable(v:ae)(v2:ae)(i:Int)
def jX:ax:=bT 67 [(2,.eptr (af v)),(3,.eptr (af v2)),(5,.int .i64 i)] [.dead,.dead] []
def oP(o:Unit⊕(Unit)):Exit:=match o with
 |(.inl _)=>.ret
 |(.inr _)=>.exit 0
def oQ(o:Unit⊕(Unit)):ax:=match o with
 |(.inl o)=>bT 67 [(4,.bool false)] [.dead,.dead] []
 |(.inr o)=>bT 67 [(2,.eptr (af v)),(3,.eptr (af v2))] [.dead,.dead] []
def du:Option (Int⊕(Unit⊕(Unit))):=
 if decide (i<(v.Preds.length:Int))=true then
  (ed v.Preds i).bind λx14=>
  (ed v2.Preds i).bind λx15=>
  (xS x14 x15).bind λr16=>
  if(!r16)=true then
   some (.inr (.inl ()))
  else
   some (.inl (cc (i+1)))
 else
  some (.inr (.inr ()))
def ma:Option (Unit⊕(Unit)):=loop (λ(zz:Int)=>du v v2 zz) i
theorem vD:OL 0 (cA S6 119) (du v v2 i) (λ(zz:Int)=>jX v v2 zz) oP (oQ v v2) (jX v v2 i):=Tv.l<|
 tw (cE v)<|cO (lV.ln v.Preds)<|tF (tb λx14 bx14=>tb λx15 bx15=>tb λr16 br16=>pG [0,1,0,7,15,0,32,0,224,480,1023,2047]<|tw (cE v)<|tv (lV.ia (k:=.i64) bx14)<|tv (lS x14)<|tw (cE v2)<|tv (lV.ia (k:=.i64) bx15)<|tv (lS x15)<|bz (Av _ br16)<|tF tE<|tE)<|tE
theorem nx:OK 0 (.loop (cA S6 119)) (ma v v2 i) oP (oQ v v2) (jX v v2 i):=yA λ_=>vD _ _ _
end
def jW(R65:fO)(a:ae)(a2:ae):Option Bool:=
 (lZ a a2).bind λo11=>
 if o11=true then
  some false
 else
  (ma a a2 0).bind λo18=>match o18 with
  |(.inl o18)=>
   some false
  |(.inr o18)=>
   (jj R65 a.Args a2.Args).bind λr19=>
   some r19
theorem zo(R65:fO)(hR65:jV R65){a:ae}{a2:ae}:OV 15 [.agg (af a),.agg (af a2)] (jW R65 a a2) (λr=>.bool r) []:=Tv.v<|
 tb λo11 bo11=>te (iy a)<|te (iy a2)<|xO 1<|dZ (wN a a2 _ bo11)<|tF tE<|t2 (λo18 bo18=>dZ (nx a a2 0 _ bo18)<|tE) λo18 bo18=>tb λr19 br19=>dZ (nx a a2 0 _ bo18)<|tw (aY a)<|tw (aY a2)<|bz (qa R65 hR65 _ br19)<|tE
def nv:((ae×ae)->Option Bool)->(ae×ae)->Option Bool:=λ(rec:(ae×ae)->Option Bool) (x:ae×ae)=>jW (λa a2=>rec (a,a2)) x.1 x.2
def iI(a:ae)(a2:ae):Option Bool:=kM nv (a,a2)
theorem rM{a:ae}{a2:ae}:OV 15 [.agg (af a),.agg (af a2)] (iI a a2) (λr=>.bool r) []:=lY λ_ h=>
 cd (F:=nv) (M:=λ(x:ae×ae) (r:Bool)=>CC Pg GE 15 [.agg (af x.1),.agg (af x.2)] (.bool r) []) (λrec hrec x r h=>zo _ (λa a2=>lY λr h=>hrec (a,a2) r h) _ h) h
abbrev gm:=(aa->aa->Option Bool)
abbrev ip(R:gm):Prop:=∀(a:aa) (a2:aa),OV 19 [.agg (ac a),.agg (ac a2)] (R a a2) (λr=>.bool r) []
noncomputable def Tc:Code:=f54.body.getD .skip
theorem TD:ZF Pg [] 54 f54 Tc:=zf call54 func54 rfl mixed
section
variable(R71:gm)(v:waH)(v2:waH)(i:Int)
def kI:Option Bool:=
 (ed v i).bind λx3=>
 (ed v2 i).bind λx4=>
 if(!(x3.Name==x4.Name))=true then
  some true
 else
  (ed v i).bind λx6=>
  (ed v2 i).bind λx7=>
  (R71 x6.Value x7.Value).bind λr8=>
  some (!r8)
theorem vE(hR71:ip R71):OU 0 (cA Tc 1914) (kI R71 v v2 i) .normal (λo=>[(41,.bool o)]) (bT 42 [(0,sl aL v),(1,sl aL v2),(5,.int .i64 i)] [] []):=TD.j<|
 tb λx3 bx3=>tb λx4 bx4=>tf (λc5=>pG [0,0,3,7,15,0,0,96,224,480,1023,2047,4095,4095,16383,32767,65535,4095,4095,397311,921599,1970175,4194303,8388607,16777215]<|tv (sL.ia (k:=.i64) bx3)<|tw (dc x3)<|tv (sL.ia (k:=.i64) bx4)<|tw (dc x4)<|tg 12 c5<|tE) λc5=>tb λx6 bx6=>tb λx7 bx7=>tb λr8 br8=>pG [0,0,3,7,15,0,0,96,224,480,1023,2047,4095,4095,16383,32767,65535,4095,4095,397311,921599,1970175,4194303,8388607,16777215]<|tv (sL.ia (k:=.i64) bx3)<|tw (dc x3)<|tv (sL.ia (k:=.i64) bx4)<|tw (dc x4)<|tg 12 c5<|tv (sL.ia (k:=.i64) bx6)<|tw (eG x6)<|tv (sL.ia (k:=.i64) bx7)<|tw (eG x7)<|bz (hR71 _ _ _ br8)<|tE
end
section
variable(R71:gm)(v:waH)(v2:waH)(i:Int)
def jG:ax:=bT 42 [(0,sl aL v),(1,sl aL v2),(5,.int .i64 i)] [] []
def nD(o:Unit⊕(Unit)):Exit:=match o with
 |(.inl _)=>.ret
 |(.inr _)=>.exit 0
def nF(o:Unit⊕(Unit)):ax:=match o with
 |(.inl o)=>bT 42 [(4,.bool false)] [] []
 |(.inr o)=>bT 42 [] [] []
def dW:Option (Int⊕(Unit⊕(Unit))):=
 if decide (i<(v.length:Int))=true then
  (kI R71 v v2 i).bind λo9=>
  if o9=true then
   some (.inr (.inl ()))
  else
   some (.inl (cc (i+1)))
 else
  some (.inr (.inr ()))
def kJ:Option (Unit⊕(Unit)):=loop (λ(zz:Int)=>dW R71 v v2 zz) i
theorem tK(hR71:ip R71):OL 0 (cA Tc 119) (dW R71 v v2 i) (λ(zz:Int)=>jG v v2 zz) nD nF (jG v v2 i):=TD.l<|
 cO (sL.ln v)<|tF (tb λo9 bo9=>xO 1<|dZ (vE R71 v v2 i hR71 _ bo9)<|tF tE<|tE)<|tE
theorem mK(hR71:ip R71):OK 0 (.loop (cA Tc 119)) (kJ R71 v v2 i) nD nF (jG v v2 i):=yA λ_=>tK _ _ _ _ hR71
end
def lk(R71:gm)(a:waH)(a2:waH):Option Bool:=
 if((a.length:Int)!=(a2.length:Int))=true then
  some false
 else
  (kJ R71 a a2 0).bind λo11=>match o11 with
  |(.inl o11)=>
   some false
  |(.inr o11)=>
   some true
theorem zu(R71:gm)(hR71:ip R71){a:waH}{a2:waH}:OV 54 [sl aL a,sl aL a2] (lk R71 a a2) (λr=>.bool r) []:=TD.v<|
 cO (sL.ln a)<|cO (sL.ln a2)<|tF tE<|t2 (λo11 bo11=>dZ (mK R71 a a2 0 hR71 _ bo11)<|tE) λo11 bo11=>dZ (mK R71 a a2 0 hR71 _ bo11)<|tE
abbrev kK:=(aj->aj->Option Bool)
abbrev kD(R:kK):Prop:=∀(a:aj) (a2:aj),OV 79 [.agg (ak a),.agg (ak a2)] (R a a2) (λr=>.bool r) []
noncomputable def O3:Code:=f102.body.getD .skip
theorem Qt:ZF Pg [] 102 f102 O3:=zf call102 func102 rfl mixed
section
variable(v:waI)(v2:waI)(i:Int)
def jZ:Option Bool:=
 (ed v i).bind λx3=>
 (ed v2 i).bind λx4=>
 if(!(x3.Name==x4.Name))=true then
  some true
 else
  (ed v i).bind λx6=>
  (ed v2 i).bind λx7=>
  (iI x6.Type_ x7.Type_).bind λr8=>
  some (!r8)
theorem tB:OU 0 (cA O3 1914) (jZ v v2 i) .normal (λo=>[(41,.bool o)]) (bT 42 [(0,sl aG v),(1,sl aG v2),(5,.int .i64 i)] [] []):=Qt.j<|
 tb λx3 bx3=>tb λx4 bx4=>tf (λc5=>pG [0,0,3,7,15,0,0,96,224,480,1023,2047,4095,4095,16383,32767,65535,4095,4095,397311,921599,1970175,4194303,8388607,16777215]<|tv (uq.ia (k:=.i64) bx3)<|tw (df x3)<|tv (uq.ia (k:=.i64) bx4)<|tw (df x4)<|tg 12 c5<|tE) λc5=>tb λx6 bx6=>tb λx7 bx7=>tb λr8 br8=>pG [0,0,3,7,15,0,0,96,224,480,1023,2047,4095,4095,16383,32767,65535,4095,4095,397311,921599,1970175,4194303,8388607,16777215]<|tv (uq.ia (k:=.i64) bx3)<|tw (df x3)<|tv (uq.ia (k:=.i64) bx4)<|tw (df x4)<|tg 12 c5<|tv (uq.ia (k:=.i64) bx6)<|tw (eH x6)<|tv (uq.ia (k:=.i64) bx7)<|tw (eH x7)<|bz (rM _ br8)<|tE
end
section
variable(v:waI)(v2:waI)(i:Int)
def ja:ax:=bT 42 [(0,sl aG v),(1,sl aG v2),(5,.int .i64 i)] [] []
def mG(o:Unit⊕(Unit)):Exit:=match o with
 |(.inl _)=>.ret
 |(.inr _)=>.exit 0
def mH(o:Unit⊕(Unit)):ax:=match o with
 |(.inl o)=>bT 42 [(4,.bool false)] [] []
 |(.inr o)=>bT 42 [] [] []
def dG:Option (Int⊕(Unit⊕(Unit))):=
 if decide (i<(v.length:Int))=true then
  (jZ v v2 i).bind λo9=>
  if o9=true then
   some (.inr (.inl ()))
  else
   some (.inl (cc (i+1)))
 else
  some (.inr (.inr ()))
def j0:Option (Unit⊕(Unit)):=loop (λ(zz:Int)=>dG v v2 zz) i
theorem sF:OL 0 (cA O3 119) (dG v v2 i) (λ(zz:Int)=>ja v v2 zz) mG mH (ja v v2 i):=Qt.l<|
 cO (uq.ln v)<|tF (tb λo9 bo9=>xO 1<|dZ (tB v v2 i _ bo9)<|tF tE<|tE)<|tE
theorem lE:OK 0 (.loop (cA O3 119)) (j0 v v2 i) mG mH (ja v v2 i):=yA λ_=>sF _ _ _
end
def jY(a:waI)(a2:waI):Option Bool:=
 if((a.length:Int)!=(a2.length:Int))=true then
  some false
 else
  (j0 a a2 0).bind λo11=>match o11 with
  |(.inl o11)=>
   some false
  |(.inr o11)=>
   some true
theorem xW{a:waI}{a2:waI}:OV 102 [sl aG a,sl aG a2] (jY a a2) (λr=>.bool r) []:=Qt.v<|
 cO (uq.ln a)<|cO (uq.ln a2)<|tF tE<|t2 (λo11 bo11=>dZ (lE a a2 0 _ bo11)<|tE) λo11 bo11=>dZ (lE a a2 0 _ bo11)<|tE
noncomputable def P8:Code:=f79.body.getD .skip
theorem Rw:ZF Pg [] 79 f79 P8:=zf call79 func79 rfl mixed
section
variable(v:aj)(v2:aj)
def th:Option Bool:=
 if(v.Op !=v2.Op)=true then
  some true
 else if(!(v.Name==v2.Name))=true then
  some true
 else if(v.N !=v2.N)=true then
  some true
 else
  (jY v.Params v2.Params).bind λr7=>
  if(!r7)=true then
   some true
  else
   (jj iI v.Types v2.Types).bind λr10=>
   some (!r10)
theorem Cc:OU 0 (cA P8 12) (th v v2) .normal (λo=>[(43,.bool o)]) (bT 117 [(2,.eptr (ak v)),(3,.eptr (ak v2))] [.dead,.dead] []):=Rw.j<|
 have pp2:=λ{X Y Z} (r:PV _ X Y Z)=>tw (gw v)<|tw (gw v2)<|r;tf (λc1=>pp2<|tg 6 c1<|tE) λc1=>have pp4:=λ{X Y Z} (r:PV _ X Y Z)=>pp2<|tg 6 c1<|tw (fw v)<|tw (fw v2)<|r;tf (λc3=>pp4<|tg 13 c3<|tE) λc3=>have pp6:=λ{X Y Z} (r:PV _ X Y Z)=>pp4<|tg 13 c3<|tw (ii v)<|tw (ii v2)<|r;tf (λc5=>pp6<|tg 20 c5<|tE) λc5=>tb λr7 br7=>have pp9:=λ{X Y Z} (r:PV _ X Y Z)=>pp6<|tg 20 c5<|tw (de v)<|tw (de v2)<|bz (xW _ br7)<|r;tf (λc8=>pp9<|tg 28 c8<|tE) λc8=>tb λr10 br10=>pp9<|tg 28 c8<|tw (eT v)<|tw (eT v2)<|bz (qa iI (λ_ _=>rM) _ br10)<|tE
end
section
variable(v:aj)(v2:aj)
def ti:Option Bool:=
 if((v.Kids.length:Int)!=(v2.Kids.length:Int))=true then
  some true
 else
  some ((v.Alts.length:Int)!=(v2.Alts.length:Int))
theorem Cd:OU 0 (cA P8 28) (ti v v2) .normal (λo=>[(59,.bool o)]) (bT 117 [(2,.eptr (ak v)),(3,.eptr (ak v2))] [.dead,.dead] []):=Rw.j<|
 have pp14:=λ{X Y Z} (r:PV _ X Y Z)=>tw (ck v)<|cO (oC.ln v.Kids)<|tw (ck v2)<|cO (oC.ln v2.Kids)<|r;tf (λc13=>pp14<|tg 8 c13<|tE) λc13=>pp14<|tg 8 c13<|tw (bL v)<|cO (yO.ln v.Alts)<|tw (bL v2)<|cO (yO.ln v2.Alts)<|tE
end
section
variable(R74:kK)(v:aj)(v2:aj)(i:Int)
def pQ:ax:=bT 117 [(2,.eptr (ak v)),(3,.eptr (ak v2)),(5,.int .i64 i)] [.dead,.dead] []
def vR(o:Unit⊕(Unit)):Exit:=match o with
 |(.inl _)=>.ret
 |(.inr _)=>.exit 0
def vS(o:Unit⊕(Unit)):ax:=match o with
 |(.inl o)=>bT 117 [(4,.bool false)] [.dead,.dead] []
 |(.inr o)=>bT 117 [(2,.eptr (ak v)),(3,.eptr (ak v2))] [.dead,.dead] []
def fA:Option (Int⊕(Unit⊕(Unit))):=
 if decide (i<(v.Kids.length:Int))=true then
  (ed v.Kids i).bind λx18=>
  (ed v2.Kids i).bind λx19=>
  (R74 x18 x19).bind λr20=>
  if(!r20)=true then
   some (.inr (.inl ()))
  else
   some (.inl (cc (i+1)))
 else
  some (.inr (.inr ()))
def tk:Option (Unit⊕(Unit)):=loop (λ(zz:Int)=>fA R74 v v2 zz) i
theorem Be(hR74:kD R74):OL 0 (cA P8 247) (fA R74 v v2 i) (λ(zz:Int)=>pQ v v2 zz) vR (vS v v2) (pQ v v2 i):=Rw.l<|
 tw (ck v)<|cO (oC.ln v.Kids)<|tF (tb λx18 bx18=>tb λx19 bx19=>tb λr20 br20=>pG [0,1,0,7,15,0,32,0,224,480,1023,2047]<|tw (ck v)<|tv (oC.ia (k:=.i64) bx18)<|tv (lR x18)<|tw (ck v2)<|tv (oC.ia (k:=.i64) bx19)<|tv (lR x19)<|bz (hR74 _ _ _ br20)<|tF tE<|tE)<|tE
theorem tn(hR74:kD R74):OK 0 (.loop (cA P8 247)) (tk R74 v v2 i) vR (vS v v2) (pQ v v2 i):=yA λ_=>Be _ _ _ _ hR74
end
section
variable(R74:kK)(v:aj)(v2:aj)(i:Int)(m:ai)(m2:waB)(m3:Int)(m4:ai)(m5:Int)(m6:waF)(m7:waI)(m8:waJ)(m9:waC)(m10:ai)(m11:waB)(m12:Int)(m13:ai)(m14:Int)(m15:waF)(m16:waI)(m17:waJ)(m18:waC)
def tj:Option Bool:=
 if(!(m==m10))=true then
  some true
 else
  (gR m2 m11).bind λr28=>
  if(!r28)=true then
   some true
  else
   (R74 (⟨m3,m4,m5,m6,m7,m8,m9⟩:aj) (⟨m12,m13,m14,m15,m16,m17,m18⟩:aj)).bind λr31=>
   some (!r31)
theorem Ce(hR74:kD R74):OU 0 (cA P8 16118) (tj R74 m m2 m3 m4 m5 m6 m7 m8 m9 m10 m11 m12 m13 m14 m15 m16 m17 m18) .normal (λo=>[(7,.undef),(8,.undef),(116,.bool o)]) (bT 117 [(2,.eptr (ak v)),(3,.eptr (ak v2)),(6,.int .i64 i),(7,.bptr 2 0),(8,.bptr 3 0)] [.dead,.dead,.cells [.str m,sl cS m2,.int .i64 m3,.str m4,.int .i64 m5,sl ak m6,sl aG m7,sl bk m8,sl af m9] [],.cells [.str m10,sl cS m11,.int .i64 m12,.str m13,.int .i64 m14,sl ak m15,sl aG m16,sl bk m17,sl af m18] []] []):=Rw.j<|
 have pp27:=λ{X Y Z} (r:PV _ X Y Z)=>ts<|ts<|r;tf (λc26=>pp27<|tg 6 c26<|tE) λc26=>tb λr28 br28=>have pp30:=λ{X Y Z} (r:PV _ X Y Z)=>pp27<|tg 6 c26<|ts<|ts<|bz (kF _ br28)<|r;tf (λc29=>pp30<|tg 14 c29<|tE) λc29=>tb λr31 br31=>pp30<|tg 14 c29<|tv (uV (⟨m3,m4,m5,m6,m7,m8,m9⟩:aj) [])<|tv (uV (⟨m12,m13,m14,m15,m16,m17,m18⟩:aj) [])<|bz (hR74 _ _ _ br31)<|tE
end
section
variable(R74:kK)(v:aj)(v2:aj)(i:Int)
def li:ax:=bT 117 [(2,.eptr (ak v)),(3,.eptr (ak v2)),(6,.int .i64 i)] [.dead,.dead] []
def vT(o:Unit⊕(Unit)):Exit:=match o with
 |(.inl _)=>.ret
 |(.inr _)=>.exit 2
def pR(o:Unit⊕(Unit)):ax:=match o with
 |(.inl o)=>bT 117 [(4,.bool false)] [.dead,.dead] []
 |(.inr o)=>bT 117 [] [.dead,.dead] []
instance iS_R20_Same_L4:KS 0 (li v v2 i):=ks 2 rfl
instance iO_R20_Same_L4{o:Unit⊕(Unit)}:KS 0 (pR o):=match o with
 |(.inl o)=>ks 2 rfl
 |(.inr o)=>ks 2 rfl
def fB:Option (Int⊕(Unit⊕(Unit))):=
 if decide (i<(v.Alts.length:Int))=true then
  (ed v.Alts i).bind λx24=>
  (ed v2.Alts i).bind λx25=>
  (tj R74 x24.Con x24.Names x24.Body.Op x24.Body.Name x24.Body.N x24.Body.Kids x24.Body.Params x24.Body.Alts x24.Body.Types x25.Con x25.Names x25.Body.Op x25.Body.Name x25.Body.N x25.Body.Kids x25.Body.Params x25.Body.Alts x25.Body.Types).bind λo32=>
  if o32=true then
   some (.inr (.inl ()))
  else
   some (.inl (cc (i+1)))
 else
  some (.inr (.inr ()))
def tp:Option (Unit⊕(Unit)):=loop (λ(zz:Int)=>fB R74 v v2 zz) i
theorem Bf(hR74:kD R74):OL 0 (cA P8 503) (fB R74 v v2 i) (λ(zz:Int)=>li v v2 zz) vT pR (li v v2 i):=Rw.lx<|
 tw (bL v)<|cO (yO.ln v.Alts)<|tF (tb λx24 bx24=>tb λx25 bx25=>tb λo32 bo32=>VF (.dx [0,1,0,7,15,0,32,0,224,480,0,0,3103,8191] [] [] [741,765])<|tw (bL v)<|tv (yO.ia (k:=.i64) bx24)<|tv (BM x24)<|tw (bL v2)<|tv (yO.ia (k:=.i64) bx25)<|tv (BM x25)<|tx (yF x24)<|tx (yF x25)<|xO 0<|dZ (Ce R74 v v2 i x24.Con x24.Names x24.Body.Op x24.Body.Name x24.Body.N x24.Body.Kids x24.Body.Params x24.Body.Alts x24.Body.Types x25.Con x25.Names x25.Body.Op x25.Body.Name x25.Body.N x25.Body.Kids x25.Body.Params x25.Body.Alts x25.Body.Types hR74 _ bo32)<|tF tE<|tE)<|tE
theorem tq(hR74:kD R74):OK 0 (.loop (cA P8 503)) (tp R74 v v2 i) vT pR (li v v2 i):=yA λ_=>Bf _ _ _ _ hR74
end
def qT(R74:kK)(a:aj)(a2:aj):Option Bool:=
 (th a a2).bind λo11=>
 if o11=true then
  some false
 else
  (ti a a2).bind λo15=>
  if o15=true then
   some false
  else
   (tk R74 a a2 0).bind λo22=>match o22 with
   |(.inl o22)=>
    some false
   | (.inr o22) =>
    (tp R74 a a2 0).bind λo34=>match o34 with
    |(.inl o34)=>
     some false
    |(.inr o34)=>
     some true
theorem Gv(R74:kK)(hR74:kD R74){a:aj}{a2:aj}:OV 79 [.agg (ak a),.agg (ak a2)] (qT R74 a a2) (λr=>.bool r) []:=Rw.v<|
 tb λo11 bo11=>te (ub a)<|te (ub a2)<|xO 1<|dZ (Cc a a2 _ bo11)<|tF tE<|tb λo15 bo15=>xO 1<|dZ (Cd a a2 _ bo15)<|tF tE<|t2 (λo22 bo22=>dZ (tn R74 a a2 0 hR74 _ bo22)<|tE) λo22 bo22=>dZ (tn R74 a a2 0 hR74 _ bo22)<|t2 (λo34 bo34=>dZ (tq R74 a a2 0 hR74 _ bo34)<|tE) λo34 bo34=>dZ (tq R74 a a2 0 hR74 _ bo34)<|tE
def wO:((aj×aj)->Option Bool)->(aj×aj)->Option Bool:=λ(rec:(aj×aj)->Option Bool) (x:aj×aj)=>qT (λa a2=>rec (a,a2)) x.1 x.2
def Cb(a:aj)(a2:aj):Option Bool:=kM wO (a,a2)
theorem HZ{a:aj}{a2:aj}:OV 79 [.agg (ak a),.agg (ak a2)] (Cb a a2) (λr=>.bool r) []:=lY λ_ h=>
 cd (F:=wO) (M:=λ(x:aj×aj) (r:Bool)=>CC Pg GE 79 [.agg (ak x.1),.agg (ak x.2)] (.bool r) []) (λrec hrec x r h=>Gv _ (λa a2=>lY λr h=>hrec (a,a2) r h) _ h) h
noncomputable def TU:Code:=f55.body.getD .skip
theorem U2:ZF Pg [] 55 f55 TU:=zf call55 func55 rfl mixed
section
variable(v:waF)(v2:waF)(i:Int)
def jb:ax:=bT 27 [(0,sl ak v),(1,sl ak v2),(5,.int .i64 i)] [] []
def mI(o:Unit⊕(Unit)):Exit:=match o with
 |(.inl _)=>.ret
 |(.inr _)=>.exit 0
def mJ(o:Unit⊕(Unit)):ax:=match o with
 |(.inl o)=>bT 27 [(4,.bool false)] [] []
 |(.inr o)=>bT 27 [] [] []
def dH:Option (Int⊕(Unit⊕(Unit))):=
 if decide (i<(v.length:Int))=true then
  (ed v i).bind λx3=>
  (ed v2 i).bind λx4=>
  (Cb x3 x4).bind λr5=>
  if(!r5)=true then
   some (.inr (.inl ()))
  else
   some (.inl (cc (i+1)))
 else
  some (.inr (.inr ()))
def j3:Option (Unit⊕(Unit)):=loop (λ(zz:Int)=>dH v v2 zz) i
theorem sG:OL 0 (cA TU 119) (dH v v2 i) (λ(zz:Int)=>jb v v2 zz) mI mJ (jb v v2 i):=U2.l<|
 cO (oC.ln v)<|tF (tb λx3 bx3=>tb λx4 bx4=>tb λr5 br5=>pG [0,0,3,7,0,0,48,112,255,511]<|tv (oC.ia (k:=.i64) bx3)<|tv (lR x3)<|tv (oC.ia (k:=.i64) bx4)<|tv (lR x4)<|bz (HZ _ br5)<|tF tE<|tE)<|tE
theorem lF:OK 0 (.loop (cA TU 119)) (j3 v v2 i) mI mJ (jb v v2 i):=yA λ_=>sG _ _ _
end
def j2(a:waF)(a2:waF):Option Bool:=
 if((a.length:Int)!=(a2.length:Int))=true then
  some false
 else
  (j3 a a2 0).bind λo7=>match o7 with
  |(.inl o7)=>
   some false
  |(.inr o7)=>
   some true
theorem ya{a:waF}{a2:waF}:OV 55 [sl ak a,sl ak a2] (j2 a a2) (λr=>.bool r) []:=U2.v<|
 cO (oC.ln a)<|cO (oC.ln a2)<|tF tE<|t2 (λo7 bo7=>dZ (lF a a2 0 _ bo7)<|tE) λo7 bo7=>dZ (lF a a2 0 _ bo7)<|tE
end Go.Proofs.YtjddnhkahpfhdaaGreatDoor
