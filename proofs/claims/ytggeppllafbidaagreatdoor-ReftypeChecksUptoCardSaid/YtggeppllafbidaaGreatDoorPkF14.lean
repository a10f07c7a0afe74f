/- PROVED: a part of the proof. Conditions: none. -/
import Derived.Test.YtggeppllafbidaaGreatDoorPkF13
noncomputable section
namespace Go.Proofs.YtggeppllafbidaaGreatDoor
open Go Go.Proofs.Tryz
set_option linter.unusedVariables false
set_option maxRecDepth 100000
noncomputable def VG:Code:=f186.body.getD .skip
def TY:List Nat:=[10,15,25]
section
variable(s:ag)(t7:Int)(out:waA)(begin:Int)(t8:Int)
def gn:ax:=aP 31 [(0,.str s),(3,sl cS out),(4,.int .i64 begin),(7,.int .i64 t7),(8,.int .i64 t8)] [] [((3,0),9)]
def sk(o:waA×Int):ax:=aP 31 [(0,.str s),(3,sl cS o.1),(4,.int .i64 o.2)] [] [((3,0),9)]
def dw:Option ((waA×Int×Int)⊕((waA×Int))):=
 if(decide (t8<t7))=true then
  (hX s t8).bind fun c2=>
  if(c2==46)=true then
   (Hy s (some begin) (some t8)).bind fun s5=>
   (app out ([s5]:List ag)).bind fun l6=>
   some (.inl (l6,bA (t8+1),bA (t8+1)))
  else
   some (.inl (out,begin,bA (t8+1)))
 else
  some (.inr (out,begin))
def qT:Option ((waA×Int)):=loop (fun(zz:waA×Int×Int)=>dw s t7 zz.1 zz.2.1 zz.2.2) (out,begin,t8)
theorem Ey{y:(waA×Int×Int)⊕((waA×Int))}(h:dw s t7 out begin t8=some y):aL Pg GE 0 (cA VG 247) (LQ (fun(zz:waA×Int×Int)=>gn s t7 zz.1 zz.2.1 zz.2.2) (fun _=>.exit 0) (sk s) y) (gn s t7 out begin t8):=by
 rcases aK h with⟨c1,h⟩|⟨c1,h⟩
 ·obtain⟨c2,bc2,h⟩:=aw h
  have p4:=fun{sc F} (r:PS sc F)=>sg 0 c1<|sv (eQ (k:=.i64) underlying9 bc2)<|r
  rcases aK h with⟨c3,h⟩|⟨c3,h⟩
  ·obtain⟨s5,bs5,h⟩:=aw h
   obtain⟨l6,bl6,h⟩:=aw h
   obtain rfl:=lf h
   exact vJ TY (p4<|sg 0 c3<|sv (QV underlying9 bs5)<|sv (aZ.mk' (v:=PVal.str) Ge ([s5]:List ag) 1 (by kernel_rfl))<|sv (aZ.ap bl6)<|eF .normal (gn s t7 l6 (bA (t8+1)) (bA (t8+1))))<|by kernel_rfl
  ·obtain rfl:=lf h
   exact vJ TY (p4<|sg 0 c3<|eF .normal (gn s t7 out begin (bA (t8+1))))<|by kernel_rfl
 ·obtain rfl:=lf h
  have z:=sg 0 c1<|eF (.exit 0) (sk s (out,begin))
  exact eS TY (by intro hx;cases hx) z<|by kernel_rfl
theorem GL{x:(waA×Int)}(h:qT s t7 out begin t8=some x):aL Pg GE 0 (.loop (cA VG 247)) (EX (.exit 0) (sk s x)) (gn s t7 out begin t8):=
 aL.loop (S:=fun(zz:waA×Int×Int)=>gn s t7 zz.1 zz.2.1 zz.2.2) (ex:=(fun _=>.exit 0)) (s:=(out,begin,t8)) h fun zz y hy=>Ey s t7 zz.1 zz.2.1 zz.2.2 hy
end
def rG(s:ag):Option waA:=
 (qT s (s.length:Int) ([]:List ag) 0 0).bind fun o7=>
 (Hy s (some o7.2) none).bind fun s8=>
 (app o7.1 ([s8]:List ag)).bind fun l9=>
 some l9
theorem Mm{s:ag}{r:waA}(h:rG s=some r):CC Pg GE 186 [.str s] (sl cS r) [(0,9)]:=by
 obtain⟨o7,bo7,h⟩:=aw h
 obtain⟨s8,bs8,h⟩:=aw h
 obtain⟨l9,bl9,h⟩:=aw h
 obtain rfl:=lf h
 have z:=b9 (fl underlying9 s)<|cm (GL s (s.length:Int) ([]:List ag) 0 0 bo7)<|sv (QV underlying9 bs8)<|sv (aZ.mk' (v:=PVal.str) Ge ([s8]:List ag) 1 (by kernel_rfl))<|sv (aZ.ap bl9)<|en (aI (rP (sl cS l9))<|(am d8 l9))
 exact bo TY call186 func186 (c:=VG) rfl (aI trivial trivial) z<|by kernel_rfl
noncomputable def WU:Code:=f142.body.getD .skip
def Wt:List Nat:=[]
def gp(c:Int):Option Bool:=
 if(decide (c>=97))=true then
  some (decide (c<=122))
 else
  some false
theorem kl{c:Int}{r:Bool}(h:gp c=some r):CC Pg GE 142 [.int .u8 c] (.bool r) []:=by
 rcases aK h with⟨c1,h⟩|⟨c1,h⟩
 ·obtain rfl:=lf h
  have z:=sg 3 c1<|en (aI (rP (.bool (decide (c<=122))))<|trivial)
  exact bo Wt call142 func142 (c:=WU) rfl (aI trivial trivial) z<|by kernel_rfl
 ·obtain rfl:=lf h
  have z:=sg 3 c1<|en (aI (rP (.bool false))<|trivial)
  exact bo Wt call142 func142 (c:=WU) rfl (aI trivial trivial) z<|by kernel_rfl
noncomputable def Yo:Code:=f170.body.getD .skip
def X8:List Nat:=[]
def w9:Option waA:=
 some ([([97,110,100]:ag),([97,115,115,117,109,101]:ag),([98,111,111,108]:ag),([98,111,117,110,100]:ag),([99,97,115,101]:ag),([99,101,108,108]:ag),([99,108,97,115,115]:ag),([100,97,116,97]:ag),([100,101,102]:ag),([100,105,118]:ag),([101,108,115,101]:ag),([101,110,100]:ag),([102,97,108,115,101]:ag),([102,111,114,97,108,108]:ag),([102,117,110]:ag),([103,101,116]:ag),([105,102]:ag),([105,110]:ag),([105,110,115,116]:ag),([105,110,116]:ag),([105,110,118,97,114,105,97,110,116]:ag),([108,101,116]:ag),([109,97,116,99,104]:ag),([109,101,97,115,117,114,101]:ag),([109,101,116,114,105,99]:ag),([109,111,100]:ag),([109,117]:ag),([110,101,119]:ag),([110,111,116]:ag),([111,102]:ag),([111,114]:ag),([113,117,97,108]:ag),([114,101,102,108,101,99,116]:ag),([115,101,116]:ag),([116,104,101,110]:ag),([116,114,117,101]:ag),([117,115,101]:ag),([118]:ag),([118,97,108]:ag),([116,97,103]:ag),([119,104,101,114,101]:ag),([119,105,116,104]:ag)]:List ag)
theorem GJ{r:waA}(h:w9=some r):CC Pg GE 170 [] (sl cS r) [(0,9)]:=by
 obtain rfl:=lf h
 have z:=sv (aZ.mk' (v:=PVal.str) Ge ([([97,110,100]:ag),([97,115,115,117,109,101]:ag),([98,111,111,108]:ag),([98,111,117,110,100]:ag),([99,97,115,101]:ag),([99,101,108,108]:ag),([99,108,97,115,115]:ag),([100,97,116,97]:ag),([100,101,102]:ag),([100,105,118]:ag),([101,108,115,101]:ag),([101,110,100]:ag),([102,97,108,115,101]:ag),([102,111,114,97,108,108]:ag),([102,117,110]:ag),([103,101,116]:ag),([105,102]:ag),([105,110]:ag),([105,110,115,116]:ag),([105,110,116]:ag),([105,110,118,97,114,105,97,110,116]:ag),([108,101,116]:ag),([109,97,116,99,104]:ag),([109,101,97,115,117,114,101]:ag),([109,101,116,114,105,99]:ag),([109,111,100]:ag),([109,117]:ag),([110,101,119]:ag),([110,111,116]:ag),([111,102]:ag),([111,114]:ag),([113,117,97,108]:ag),([114,101,102,108,101,99,116]:ag),([115,101,116]:ag),([116,104,101,110]:ag),([116,114,117,101]:ag),([117,115,101]:ag),([118]:ag),([118,97,108]:ag),([116,97,103]:ag),([119,104,101,114,101]:ag),([119,105,116,104]:ag)]:List ag) 42 (by kernel_rfl))<|en (aI (rP (sl cS ([([97,110,100]:ag),([97,115,115,117,109,101]:ag),([98,111,111,108]:ag),([98,111,117,110,100]:ag),([99,97,115,101]:ag),([99,101,108,108]:ag),([99,108,97,115,115]:ag),([100,97,116,97]:ag),([100,101,102]:ag),([100,105,118]:ag),([101,108,115,101]:ag),([101,110,100]:ag),([102,97,108,115,101]:ag),([102,111,114,97,108,108]:ag),([102,117,110]:ag),([103,101,116]:ag),([105,102]:ag),([105,110]:ag),([105,110,115,116]:ag),([105,110,116]:ag),([105,110,118,97,114,105,97,110,116]:ag),([108,101,116]:ag),([109,97,116,99,104]:ag),([109,101,97,115,117,114,101]:ag),([109,101,116,114,105,99]:ag),([109,111,100]:ag),([109,117]:ag),([110,101,119]:ag),([110,111,116]:ag),([111,102]:ag),([111,114]:ag),([113,117,97,108]:ag),([114,101,102,108,101,99,116]:ag),([115,101,116]:ag),([116,104,101,110]:ag),([116,114,117,101]:ag),([117,115,101]:ag),([118]:ag),([118,97,108]:ag),([116,97,103]:ag),([119,104,101,114,101]:ag),([119,105,116,104]:ag)]:List ag)))<|(am d8 ([([97,110,100]:ag),([97,115,115,117,109,101]:ag),([98,111,111,108]:ag),([98,111,117,110,100]:ag),([99,97,115,101]:ag),([99,101,108,108]:ag),([99,108,97,115,115]:ag),([100,97,116,97]:ag),([100,101,102]:ag),([100,105,118]:ag),([101,108,115,101]:ag),([101,110,100]:ag),([102,97,108,115,101]:ag),([102,111,114,97,108,108]:ag),([102,117,110]:ag),([103,101,116]:ag),([105,102]:ag),([105,110]:ag),([105,110,115,116]:ag),([105,110,116]:ag),([105,110,118,97,114,105,97,110,116]:ag),([108,101,116]:ag),([109,97,116,99,104]:ag),([109,101,97,115,117,114,101]:ag),([109,101,116,114,105,99]:ag),([109,111,100]:ag),([109,117]:ag),([110,101,119]:ag),([110,111,116]:ag),([111,102]:ag),([111,114]:ag),([113,117,97,108]:ag),([114,101,102,108,101,99,116]:ag),([115,101,116]:ag),([116,104,101,110]:ag),([116,114,117,101]:ag),([117,115,101]:ag),([118]:ag),([118,97,108]:ag),([116,97,103]:ag),([119,104,101,114,101]:ag),([119,105,116,104]:ag)]:List ag)))
 exact bo X8 call170 func170 (c:=Yo) rfl trivial z<|by kernel_rfl
noncomputable def Ym:Code:=f143.body.getD .skip
def X6:List Nat:=[]
def mM(s:ag):Option Bool:=
 w9.bind fun r1=>
 (im r1 s).bind fun r2=>
 some (decide (r2>=0))
theorem H5{s:ag}{r:Bool}(h:mM s=some r):CC Pg GE 143 [.str s] (.bool r) []:=by
 obtain⟨r1,br1,h⟩:=aw h
 obtain⟨r2,br2,h⟩:=aw h
 obtain rfl:=lf h
 have z:=aX (GJ br1)<|aX (tM br2)<|en (aI (rP (.bool (decide (r2>=0))))<|trivial)
 exact bo X6 call143 func143 (c:=Ym) rfl (aI trivial trivial) z<|by kernel_rfl
noncomputable def WV:Code:=f144.body.getD .skip
def Wu:List Nat:=[]
def ki(c:Int):Option Bool:=
 if(decide (c>=48))=true then
  some (decide (c<=57))
 else
  some false
theorem qS{c:Int}{r:Bool}(h:ki c=some r):CC Pg GE 144 [.int .u8 c] (.bool r) []:=by
 rcases aK h with⟨c1,h⟩|⟨c1,h⟩
 ·obtain rfl:=lf h
  have z:=sg 3 c1<|en (aI (rP (.bool (decide (c<=57))))<|trivial)
  exact bo Wu call144 func144 (c:=WV) rfl (aI trivial trivial) z<|by kernel_rfl
 ·obtain rfl:=lf h
  have z:=sg 3 c1<|en (aI (rP (.bool false))<|trivial)
  exact bo Wu call144 func144 (c:=WV) rfl (aI trivial trivial) z<|by kernel_rfl
noncomputable def Pf:Code:=f126.body.getD .skip
def Et:List Nat:=[26]
section
variable(s:ag)
def HY:ax:=aP 46 [(0,.str s)] [] []
def jD(o:Bool):ax:=aP 46 [(0,.str s),(21,.bool o)] [] []
def nc:Option Bool:=
 if(decide ((s.length:Int)<1))=true then
  some true
 else
  if(decide ((s.length:Int)>24))=true then
   some true
  else
   (hX s 0).bind fun c4=>
   (gp c4).bind fun r5=>
   if(!r5)=true then
    some true
   else
    (mM s).bind fun r8=>
    some r8
theorem Gr{x:Bool}(h:nc s=some x):aL Pg GE 0 (cA Pf 12) (EX .normal (jD s x)) (HY s):=by
 rcases aK h with⟨c1,h⟩|⟨c1,h⟩
 ·obtain rfl:=lf h
  exact bE Et (b9 (fl underlying9 s)<|sg 4 c1<|eF .normal (jD s true))<|by kernel_rfl
 ·have p3:=fun{sc F} (r:PS sc F)=>b9 (fl underlying9 s)<|sg 4 c1<|b9 (fl underlying9 s)<|r
  rcases aK h with⟨c2,h⟩|⟨c2,h⟩
  ·obtain rfl:=lf h
   exact bE Et (p3<|sg 9 c2<|eF .normal (jD s true))<|by kernel_rfl
  ·obtain⟨c4,bc4,h⟩:=aw h
   obtain⟨r5,br5,h⟩:=aw h
   have p7:=fun{sc F} (r:PS sc F)=>p3<|sg 9 c2<|sv (eQ (k:=.i64) underlying9 bc4)<|aX (kl br5)<|r
   rcases aK h with⟨c6,h⟩|⟨c6,h⟩
   ·obtain rfl:=lf h
    exact bE Et (p7<|sg 15 c6<|eF .normal (jD s true))<|by kernel_rfl
   ·obtain⟨r8,br8,h⟩:=aw h
    obtain rfl:=lf h
    exact bE Et (p7<|sg 15 c6<|aX (H5 br8)<|eF .normal (jD s r8))<|by kernel_rfl
end
section
variable(s:ag)(i:Int)(t23:Int)
def HZ:ax:=aP 46 [(0,.str s),(3,.int .i64 i),(23,.int .i64 t23),(24,.int .i64 i)] [] []
def nd(o:Bool):ax:=aP 46 [(0,.str s),(23,.int .i64 t23),(24,.int .i64 i),(44,.bool o)] [] []
def gX:Option Bool:=
 (hX s i).bind fun c13=>
 (gp c13).bind fun r14=>
 if(!r14)=true then
  (hX s i).bind fun c17=>
  (ki c17).bind fun r18=>
  if(!r18)=true then
   (hX s i).bind fun c21=>
   some (c21 !=95)
  else
   some false
 else
  some false
theorem Gt{x:Bool}(h:gX s i=some x):aL Pg GE 0 (cA Pf 7670) (EX .normal (nd s i t23 x)) (HZ s i t23):=by
 obtain⟨c13,bc13,h⟩:=aw h
 obtain⟨r14,br14,h⟩:=aw h
 have p16:=fun{sc F} (r:PS sc F)=>sv (eQ (k:=.i64) underlying9 bc13)<|aX (kl br14)<|r
 rcases aK h with⟨c15,h⟩|⟨c15,h⟩
 ·obtain⟨c17,bc17,h⟩:=aw h
  obtain⟨r18,br18,h⟩:=aw h
  have p20:=fun{sc F} (r:PS sc F)=>p16<|sg 6 c15<|sv (eQ (k:=.i64) underlying9 bc17)<|aX (qS br18)<|r
  rcases aK h with⟨c19,h⟩|⟨c19,h⟩
  ·obtain⟨c21,bc21,h⟩:=aw h
   obtain rfl:=lf h
   exact bE Et (p20<|sg 13 c19<|sv (eQ (k:=.i64) underlying9 bc21)<|eF .normal (nd s i t23 (c21 !=95)))<|by kernel_rfl
  ·obtain rfl:=lf h
   exact bE Et (p20<|sg 13 c19<|eF .normal (nd s i t23 false))<|by kernel_rfl
 ·obtain rfl:=lf h
  exact bE Et (p16<|sg 6 c15<|eF .normal (nd s i t23 false))<|by kernel_rfl
end
section
variable(s:ag)(t23:Int)(t24:Int)
def jE:ax:=aP 46 [(0,.str s),(23,.int .i64 t23),(24,.int .i64 t24)] [] []
def jG(o:Unit⊕(Unit)):Exit:=match o with
 |(.inl _)=>.ret
 |(.inr _)=>.exit 0
def gk(o:Unit⊕(Unit)):ax:=match o with
 |(.inl o)=>aP 46 [(2,.int .i64 3)] [] []
 |(.inr o)=>aP 46 [] [] []
def jF:Option (Int⊕(Unit⊕(Unit))):=
 if(decide (t24<t23))=true then
  (gX s t24).bind fun o22=>
  if o22=true then
   some (.inr (.inl ()))
  else
   some (.inl (bA (t24+1)))
 else
  some (.inr (.inr ()))
def nf:Option (Unit⊕(Unit)):=loop (fun(zz:Int)=>jF s t23 zz) t24
theorem Eu{y:Int⊕(Unit⊕(Unit))}(h:jF s t23 t24=some y):aL Pg GE 0 (cA Pf 119) (LQ (fun(zz:Int)=>jE s t23 zz) jG gk y) (jE s t23 t24):=by
 rcases aK h with⟨c12,h⟩|⟨c12,h⟩
 ·obtain⟨o22,bo22,h⟩:=aw h
  have p24:=fun{sc F} (r:PS sc F)=>sg 0 c12<|jC 2<|cm (Gt s t24 t23 bo22)<|r
  rcases aK h with⟨c23,h⟩|⟨c23,h⟩
  ·obtain rfl:=lf h
   have z:=p24<|sg 0 c23<|eF (jG (.inl ())) (gk (.inl ()))
   exact eS Et (by intro hx;cases hx) z<|by kernel_rfl
  ·obtain rfl:=lf h
   exact vJ Et (p24<|sg 0 c23<|eF .normal (jE s t23 (bA (t24+1))))<|by kernel_rfl
 ·obtain rfl:=lf h
  have z:=sg 0 c12<|eF (jG (.inr ())) (gk (.inr ()))
  exact eS Et (by intro hx;cases hx) z<|by kernel_rfl
theorem yt{x:Unit⊕(Unit)}(h:nf s t23 t24=some x):aL Pg GE 0 (.loop (cA Pf 119)) (EX (jG x) (gk x)) (jE s t23 t24):=
 aL.loop (S:=fun(zz:Int)=>jE s t23 zz) (ex:=jG) (s:=t24) h fun zz y hy=>Eu s t23 zz hy
end
def oq(s:ag):Option Int:=
 (nc s).bind fun o9=>
 if o9=true then
  some 3
 else
  (nf s (s.length:Int) 0).bind fun o25=>match o25 with
  |(.inl o25)=>
   some 3
  |(.inr o25)=>
   some 0
theorem C1{s:ag}{r:Int}(h:oq s=some r):CC Pg GE 126 [.str s] (.int .i64 r) []:=by
 obtain⟨o9,bo9,h⟩:=aw h
 have p11:=fun{sc F} (r:PS sc F)=>jC 2<|cm (Gr s bo9)<|r
 rcases aK h with⟨c10,h⟩|⟨c10,h⟩
 ·obtain rfl:=lf h
  have z:=p11<|sg 0 c10<|en (aI (rP (.int .i64 3))<|trivial)
  exact bo Et call126 func126 (c:=Pf) rfl (aI trivial trivial) z<|by kernel_rfl
 ·obtain⟨o25,bo25,h⟩:=aw h
  rcases o25 with o25|o25
  ·obtain rfl:=lf h
   have z:=p11<|sg 0 c10<|b9 (fl underlying9 s)<|cm (e:=.ret) (s1:=gk (.inl o25)) (yt s (s.length:Int) 0 bo25)<|en (aI (rP (.int .i64 3))<|trivial)
   exact bo Et call126 func126 (c:=Pf) rfl (aI trivial trivial) z<|by kernel_rfl
  ·obtain rfl:=lf h
   have z:=p11<|sg 0 c10<|b9 (fl underlying9 s)<|cm (e:=.exit 0) (s1:=gk (.inr o25)) (yt s (s.length:Int) 0 bo25)<|en (aI (rP (.int .i64 0))<|trivial)
   exact bo Et call126 func126 (c:=Pf) rfl (aI trivial trivial) z<|by kernel_rfl
noncomputable def W4:Code:=f198.body.getD .skip
def WC:List Nat:=[]
def gN(c:Int):Option Bool:=
 if(decide (c>=65))=true then
  some (decide (c<=90))
 else
  some false
theorem sj{c:Int}{r:Bool}(h:gN c=some r):CC Pg GE 198 [.int .u8 c] (.bool r) []:=by
 rcases aK h with⟨c1,h⟩|⟨c1,h⟩
 ·obtain rfl:=lf h
  have z:=sg 3 c1<|en (aI (rP (.bool (decide (c<=90))))<|trivial)
  exact bo WC call198 func198 (c:=W4) rfl (aI trivial trivial) z<|by kernel_rfl
 ·obtain rfl:=lf h
  have z:=sg 3 c1<|en (aI (rP (.bool false))<|trivial)
  exact bo WC call198 func198 (c:=W4) rfl (aI trivial trivial) z<|by kernel_rfl
noncomputable def Pl:Code:=f187.body.getD .skip
def AT:List Nat:=[38]
section
variable(s:ag)
def H6:ax:=aP 59 [(0,.str s)] [] []
def dZ(o:Bool):ax:=aP 59 [(0,.str s),(33,.bool o)] [] []
def ng:Option Bool:=
 if(decide ((s.length:Int)<1))=true then
  some true
 else
  if(decide ((s.length:Int)>24))=true then
   some true
  else
   (hX s 0).bind fun c4=>
   (gN c4).bind fun r5=>
   if(!r5)=true then
    some true
   else
    if(s==([73,110,116]:ag))=true then
     some true
    else
     if(s==([66,111,111,108]:ag))=true then
      some true
     else
      if(s==([67,101,108,108]:ag))=true then
       some true
      else
       some (s==([70,117,110]:ag))
theorem GA{x:Bool}(h:ng s=some x):aL Pg GE 0 (cA Pl 12) (EX .normal (dZ s x)) (H6 s):=by
 rcases aK h with⟨c1,h⟩|⟨c1,h⟩
 ·obtain rfl:=lf h
  exact bE AT (b9 (fl underlying9 s)<|sg 4 c1<|eF .normal (dZ s true))<|by kernel_rfl
 ·have p3:=fun{sc F} (r:PS sc F)=>b9 (fl underlying9 s)<|sg 4 c1<|b9 (fl underlying9 s)<|r
  rcases aK h with⟨c2,h⟩|⟨c2,h⟩
  ·obtain rfl:=lf h
   exact bE AT (p3<|sg 9 c2<|eF .normal (dZ s true))<|by kernel_rfl
  ·obtain⟨c4,bc4,h⟩:=aw h
   obtain⟨r5,br5,h⟩:=aw h
   have p7:=fun{sc F} (r:PS sc F)=>p3<|sg 9 c2<|sv (eQ (k:=.i64) underlying9 bc4)<|aX (sj br5)<|r
   rcases aK h with⟨c6,h⟩|⟨c6,h⟩
   ·obtain rfl:=lf h
    exact bE AT (p7<|sg 15 c6<|eF .normal (dZ s true))<|by kernel_rfl
   ·have p9:=fun{sc F} (r:PS sc F)=>p7<|sg 15 c6<|r
    rcases aK h with⟨c8,h⟩|⟨c8,h⟩
    ·obtain rfl:=lf h
     exact bE AT (p9<|sg 19 c8<|eF .normal (dZ s true))<|by kernel_rfl
    ·have p11:=fun{sc F} (r:PS sc F)=>p9<|sg 19 c8<|r
     rcases aK h with⟨c10,h⟩|⟨c10,h⟩
     ·obtain rfl:=lf h
      exact bE AT (p11<|sg 23 c10<|eF .normal (dZ s true))<|by kernel_rfl
     ·have p13:=fun{sc F} (r:PS sc F)=>p11<|sg 23 c10<|r
      rcases aK h with⟨c12,h⟩|⟨c12,h⟩
      ·obtain rfl:=lf h
       exact bE AT (p13<|sg 27 c12<|eF .normal (dZ s true))<|by kernel_rfl
      ·obtain rfl:=lf h
       exact bE AT (p13<|sg 27 c12<|eF .normal (dZ s (s==([70,117,110]:ag))))<|by kernel_rfl
end
section
variable(s:ag)(i:Int)(t35:Int)
def H7:ax:=aP 59 [(0,.str s),(3,.int .i64 i),(35,.int .i64 t35),(36,.int .i64 i)] [] []
def nh(o:Bool):ax:=aP 59 [(0,.str s),(35,.int .i64 t35),(36,.int .i64 i),(57,.bool o)] [] []
def gZ:Option Bool:=
 (hX s i).bind fun c18=>
 (gp c18).bind fun r19=>
 if(!r19)=true then
  (hX s i).bind fun c22=>
  (gN c22).bind fun r23=>
  if(!r23)=true then
   (hX s i).bind fun c26=>
   (ki c26).bind fun r27=>
   some (!r27)
  else
   some false
 else
  some false
theorem GD{x:Bool}(h:gZ s i=some x):aL Pg GE 0 (cA Pl 7670) (EX .normal (nh s i t35 x)) (H7 s i t35):=by
 obtain⟨c18,bc18,h⟩:=aw h
 obtain⟨r19,br19,h⟩:=aw h
 have p21:=fun{sc F} (r:PS sc F)=>sv (eQ (k:=.i64) underlying9 bc18)<|aX (kl br19)<|r
 rcases aK h with⟨c20,h⟩|⟨c20,h⟩
 ·obtain⟨c22,bc22,h⟩:=aw h
  obtain⟨r23,br23,h⟩:=aw h
  have p25:=fun{sc F} (r:PS sc F)=>p21<|sg 6 c20<|sv (eQ (k:=.i64) underlying9 bc22)<|aX (sj br23)<|r
  rcases aK h with⟨c24,h⟩|⟨c24,h⟩
  ·obtain⟨c26,bc26,h⟩:=aw h
   obtain⟨r27,br27,h⟩:=aw h
   obtain rfl:=lf h
   exact bE AT (p25<|sg 13 c24<|sv (eQ (k:=.i64) underlying9 bc26)<|aX (qS br27)<|eF .normal (nh s i t35 (!r27)))<|by kernel_rfl
  ·obtain rfl:=lf h
   exact bE AT (p25<|sg 13 c24<|eF .normal (nh s i t35 false))<|by kernel_rfl
 ·obtain rfl:=lf h
  exact bE AT (p21<|sg 6 c20<|eF .normal (nh s i t35 false))<|by kernel_rfl
end
section
variable(s:ag)(t35:Int)(t36:Int)
def jH:ax:=aP 59 [(0,.str s),(35,.int .i64 t35),(36,.int .i64 t36)] [] []
def jJ(o:Unit⊕(Unit)):Exit:=match o with
 |(.inl _)=>.ret
 |(.inr _)=>.exit 0
def gm(o:Unit⊕(Unit)):ax:=match o with
 |(.inl o)=>aP 59 [(2,.int .i64 3)] [] []
 |(.inr o)=>aP 59 [] [] []
def jI:Option (Int⊕(Unit⊕(Unit))):=
 if(decide (t36<t35))=true then
  (gZ s t36).bind fun o28=>
  if o28=true then
   some (.inr (.inl ()))
  else
   some (.inl (bA (t36+1)))
 else
  some (.inr (.inr ()))
def ni:Option (Unit⊕(Unit)):=loop (fun(zz:Int)=>jI s t35 zz) t36
theorem Ev{y:Int⊕(Unit⊕(Unit))}(h:jI s t35 t36=some y):aL Pg GE 0 (cA Pl 119) (LQ (fun(zz:Int)=>jH s t35 zz) jJ gm y) (jH s t35 t36):=by
 rcases aK h with⟨c17,h⟩|⟨c17,h⟩
 ·obtain⟨o28,bo28,h⟩:=aw h
  have p30:=fun{sc F} (r:PS sc F)=>sg 0 c17<|jC 2<|cm (GD s t36 t35 bo28)<|r
  rcases aK h with⟨c29,h⟩|⟨c29,h⟩
  ·obtain rfl:=lf h
   have z:=p30<|sg 0 c29<|eF (jJ (.inl ())) (gm (.inl ()))
   exact eS AT (by intro hx;cases hx) z<|by kernel_rfl
  ·obtain rfl:=lf h
   exact vJ AT (p30<|sg 0 c29<|eF .normal (jH s t35 (bA (t36+1))))<|by kernel_rfl
 ·obtain rfl:=lf h
  have z:=sg 0 c17<|eF (jJ (.inr ())) (gm (.inr ()))
  exact eS AT (by intro hx;cases hx) z<|by kernel_rfl
theorem yu{x:Unit⊕(Unit)}(h:ni s t35 t36=some x):aL Pg GE 0 (.loop (cA Pl 119)) (EX (jJ x) (gm x)) (jH s t35 t36):=
 aL.loop (S:=fun(zz:Int)=>jH s t35 zz) (ex:=jJ) (s:=t36) h fun zz y hy=>Ev s t35 zz hy
end
def rF(s:ag):Option Int:=
 (ng s).bind fun o14=>
 if o14=true then
  some 3
 else
  (ni s (s.length:Int) 0).bind fun o31=>match o31 with
  |(.inl o31)=>
   some 3
  |(.inr o31)=>
   some 0
theorem Mk{s:ag}{r:Int}(h:rF s=some r):CC Pg GE 187 [.str s] (.int .i64 r) []:=by
 obtain⟨o14,bo14,h⟩:=aw h
 have p16:=fun{sc F} (r:PS sc F)=>jC 2<|cm (GA s bo14)<|r
 rcases aK h with⟨c15,h⟩|⟨c15,h⟩
 ·obtain rfl:=lf h
  have z:=p16<|sg 0 c15<|en (aI (rP (.int .i64 3))<|trivial)
  exact bo AT call187 func187 (c:=Pl) rfl (aI trivial trivial) z<|by kernel_rfl
 ·obtain⟨o31,bo31,h⟩:=aw h
  rcases o31 with o31|o31
  ·obtain rfl:=lf h
   have z:=p16<|sg 0 c15<|b9 (fl underlying9 s)<|cm (e:=.ret) (s1:=gm (.inl o31)) (yu s (s.length:Int) 0 bo31)<|en (aI (rP (.int .i64 3))<|trivial)
   exact bo AT call187 func187 (c:=Pl) rfl (aI trivial trivial) z<|by kernel_rfl
  ·obtain rfl:=lf h
   have z:=p16<|sg 0 c15<|b9 (fl underlying9 s)<|cm (e:=.exit 0) (s1:=gm (.inr o31)) (yu s (s.length:Int) 0 bo31)<|en (aI (rP (.int .i64 0))<|trivial)
   exact bo AT call187 func187 (c:=Pl) rfl (aI trivial trivial) z<|by kernel_rfl
noncomputable def Pm:Code:=f188.body.getD .skip
def CY:List Nat:=[21]
section
variable(p:ag)
def Kp:ax:=aP 65 [(0,.str p)] [] []
def uP(o:Bool):ax:=aP 65 [(0,.str p),(13,.bool o)] [] []
def tO:Option Bool:=
 if(decide ((p.length:Int)<1))=true then
  some true
 else
  some (decide ((p.length:Int)>24))
theorem H8{x:Bool}(h:tO p=some x):aL Pg GE 0 (cA Pm 12) (EX .normal (uP p x)) (Kp p):=by
 rcases aK h with⟨c1,h⟩|⟨c1,h⟩
 ·obtain rfl:=lf h
  exact bE CY (b9 (fl underlying9 p)<|sg 4 c1<|eF .normal (uP p true))<|by kernel_rfl
 ·obtain rfl:=lf h
  exact bE CY (b9 (fl underlying9 p)<|sg 4 c1<|b9 (fl underlying9 p)<|eF .normal (uP p (decide ((p.length:Int)>24))))<|by kernel_rfl
end
section
variable(p:ag)(plain:Bool)(word:Bool)(i:Int)(t18:Int)
def Kq:ax:=aP 65 [(0,.str p),(3,.bool plain),(4,.bool word),(5,.int .i64 i),(18,.int .i64 t18),(19,.int .i64 i)] [] []
def kX(o:Bool):ax:=aP 65 [(0,.str p),(3,.bool o),(4,.bool word),(5,.int .i64 i),(18,.int .i64 t18),(19,.int .i64 i)] [] []
def mN:Option Bool:=
 if plain=true then
  (hX p i).bind fun c9=>
  (gp c9).bind fun r10=>
  if r10=true then
   some true
  else
   (hX p i).bind fun c13=>
   (gN c13).bind fun r14=>
   if r14=true then
    some true
   else
    (hX p i).bind fun c17=>
    (ki c17).bind fun r18=>
    some r18
 else
  some false
theorem Ia{x:Bool}(h:mN p plain i=some x):aL Pg GE 0 (cA Pm 32246) (EX .normal (kX p word i t18 x)) (Kq p plain word i t18):=by
 rcases aK h with⟨c8,h⟩|⟨c8,h⟩
 ·obtain⟨c9,bc9,h⟩:=aw h
  obtain⟨r10,br10,h⟩:=aw h
  have p12:=fun{sc F} (r:PS sc F)=>sg 2 c8<|sv (eQ (k:=.i64) underlying9 bc9)<|aX (kl br10)<|r
  rcases aK h with⟨c11,h⟩|⟨c11,h⟩
  ·obtain rfl:=lf h
   exact bE CY (p12<|sg 7 c11<|eF .normal (kX p word i t18 true))<|by kernel_rfl
  ·obtain⟨c13,bc13,h⟩:=aw h
   obtain⟨r14,br14,h⟩:=aw h
   have p16:=fun{sc F} (r:PS sc F)=>p12<|sg 7 c11<|sv (eQ (k:=.i64) underlying9 bc13)<|aX (sj br14)<|r
   rcases aK h with⟨c15,h⟩|⟨c15,h⟩
   ·obtain rfl:=lf h
    exact bE CY (p16<|sg 13 c15<|eF .normal (kX p word i t18 true))<|by kernel_rfl
   ·obtain⟨c17,bc17,h⟩:=aw h
    obtain⟨r18,br18,h⟩:=aw h
    obtain rfl:=lf h
    exact bE CY (p16<|sg 13 c15<|sv (eQ (k:=.i64) underlying9 bc17)<|aX (qS br18)<|eF .normal (kX p word i t18 r18))<|by kernel_rfl
 ·obtain rfl:=lf h
  exact bE CY (sg 2 c8<|eF .normal (kX p word i t18 false))<|by kernel_rfl
end
section
variable(p:ag)(t18:Int)(plain:Bool)(word:Bool)(t19:Int)
def eL:ax:=aP 65 [(0,.str p),(3,.bool plain),(4,.bool word),(18,.int .i64 t18),(19,.int .i64 t19)] [] []
def uQ(o:Bool×Bool):ax:=aP 65 [(3,.bool o.1),(4,.bool o.2)] [] []
def dY:Option ((Bool×Bool×Int)⊕((Bool×Bool))):=
 if (decide (t19 < t18)) = true then
  (mN p plain t19).bind fun o19=>
  if word=true then
   (hX p t19).bind fun c22=>
   (gp c22).bind fun r23=>
   if r23=true then
    some (.inl (o19,true,bA (t19+1)))
   else
    (hX p t19).bind fun c26=>
    (ki c26).bind fun r27=>
    if r27=true then
     some (.inl (o19,true,bA (t19+1)))
    else
     (hX p t19).bind fun c30=>
     some (.inl (o19,c30==95,bA (t19+1)))
  else
   some (.inl (o19,false,bA (t19+1)))
 else
  some (.inr (plain,word))
def pJ:Option ((Bool×Bool)):=loop (fun(zz:Bool×Bool×Int)=>dY p t18 zz.1 zz.2.1 zz.2.2) (plain,word,t19)
theorem GK{y:(Bool×Bool×Int)⊕((Bool×Bool))}(h:dY p t18 plain word t19=some y):aL Pg GE 0 (cA Pm 503) (LQ (fun(zz:Bool×Bool×Int)=>eL p t18 zz.1 zz.2.1 zz.2.2) (fun _=>.exit 0) uQ y) (eL p t18 plain word t19):=by
 rcases aK h with⟨c7,h⟩|⟨c7,h⟩
 ·obtain⟨o19,bo19,h⟩:=aw h
  have p21:=fun{sc F} (r:PS sc F)=>sg 0 c7<|jC 2<|cm (Ia p plain word t19 t18 bo19)<|r
  rcases aK h with⟨c20,h⟩|⟨c20,h⟩
  ·obtain⟨c22,bc22,h⟩:=aw h
   obtain⟨r23,br23,h⟩:=aw h
   have p25:=fun{sc F} (r:PS sc F)=>p21<|sg 2 c20<|sv (eQ (k:=.i64) underlying9 bc22)<|aX (kl br23)<|r
   rcases aK h with⟨c24,h⟩|⟨c24,h⟩
   ·obtain rfl:=lf h
    exact vJ CY (p25<|sg 7 c24<|eF .normal (eL p t18 o19 true (bA (t19+1))))<|by kernel_rfl
   ·obtain⟨c26,bc26,h⟩:=aw h
    obtain⟨r27,br27,h⟩:=aw h
    have p29:=fun{sc F} (r:PS sc F)=>p25<|sg 7 c24<|sv (eQ (k:=.i64) underlying9 bc26)<|aX (qS br27)<|r
    rcases aK h with⟨c28,h⟩|⟨c28,h⟩
    ·obtain rfl:=lf h
     exact vJ CY (p29<|sg 13 c28<|eF .normal (eL p t18 o19 true (bA (t19+1))))<|by kernel_rfl
    ·obtain⟨c30,bc30,h⟩:=aw h
     obtain rfl:=lf h
     exact vJ CY (p29<|sg 13 c28<|sv (eQ (k:=.i64) underlying9 bc30)<|eF .normal (eL p t18 o19 (c30==95) (bA (t19+1))))<|by kernel_rfl
  ·obtain rfl:=lf h
   exact vJ CY (p21<|sg 2 c20<|eF .normal (eL p t18 o19 false (bA (t19+1))))<|by kernel_rfl
 ·obtain rfl:=lf h
  have z:=sg 0 c7<|eF (.exit 0) (uQ (plain,word))
  exact eS CY (by intro hx;cases hx) z<|by kernel_rfl
theorem Ic{x:(Bool×Bool)}(h:pJ p t18 plain word t19=some x):aL Pg GE 0 (.loop (cA Pm 503)) (EX (.exit 0) (uQ x)) (eL p t18 plain word t19):=
 aL.loop (S:=fun(zz:Bool×Bool×Int)=>eL p t18 zz.1 zz.2.1 zz.2.2) (ex:=(fun _=>.exit 0)) (s:=(plain,word,t19)) h fun zz y hy=>GK p t18 zz.1 zz.2.1 zz.2.2 hy
end
def vK(p:ag):Option Bool:=
 (tO p).bind fun o2=>
 if o2=true then
  some false
 else
  (hX p 0).bind fun c5=>
  (gp c5).bind fun r6=>
  (pJ p (p.length:Int) true r6 0).bind fun o31=>
  if o31.1=true then
   some true
  else
   some o31.2
theorem NI{p:ag}{r:Bool}(h:vK p=some r):CC Pg GE 188 [.str p] (.bool r) []:=by
 obtain⟨o2,bo2,h⟩:=aw h
 have p4:=fun{sc F} (r:PS sc F)=>jC 2<|cm (H8 p bo2)<|r
 rcases aK h with⟨c3,h⟩|⟨c3,h⟩
 ·obtain rfl:=lf h
  have z:=p4<|sg 0 c3<|en (aI (rP (.bool false))<|trivial)
  exact bo CY call188 func188 (c:=Pm) rfl (aI trivial trivial) z<|by kernel_rfl
 ·obtain⟨c5,bc5,h⟩:=aw h
  obtain⟨r6,br6,h⟩:=aw h
  obtain⟨o31,bo31,h⟩:=aw h
  have p33:=fun{sc F} (r:PS sc F)=>p4<|sg 0 c3<|sv (eQ (k:=.i64) underlying9 bc5)<|aX (kl br6)<|b9 (fl underlying9 p)<|cm (Ic p (p.length:Int) true r6 0 bo31)<|r
  rcases aK h with⟨c32,h⟩|⟨c32,h⟩
  ·obtain rfl:=lf h
   have z:=p33<|sg 2 c32<|en (aI (rP (.bool true))<|trivial)
   exact bo CY call188 func188 (c:=Pm) rfl (aI trivial trivial) z<|by kernel_rfl
  ·obtain rfl:=lf h
   have z:=p33<|sg 2 c32<|en (aI (rP (.bool o31.2))<|trivial)
   exact bo CY call188 func188 (c:=Pm) rfl (aI trivial trivial) z<|by kernel_rfl
noncomputable def Pj:Code:=f169.body.getD .skip
def HV:List Nat:=[]
section
variable(v:waA)
def Ko:ax:=aP 45 [(3,sl cS v)] [] [((3,0),9)]
def kP(o:Bool):ax:=aP 45 [(3,sl cS v),(33,.bool o)] [] [((3,0),9)]
def mL:Option Bool:=
 (dt v 0).bind fun x3=>
 (oq x3).bind fun r4=>
 if (r4 != 0) = true then
  (dt v 0).bind fun x7=>
  (rF x7).bind fun r8=>
  if(r8 !=0)=true then
   (dt v 0).bind fun x11=>
   if(!(x11==([118]:ag)))=true then
    some true
   else
    some ((v.length:Int)==1)
  else
   some false
 else
  some false
theorem H3{x:Bool}(h:mL v=some x):aL Pg GE 0 (cA Pj 60) (EX .normal (kP v x)) (Ko v):=by
 obtain⟨x3,bx3,h⟩:=aw h
 obtain⟨r4,br4,h⟩:=aw h
 have p6:=fun{sc F} (r:PS sc F)=>sv (aZ.ia (k:=.i64) bx3)<|sv (dB Es (.str x3) [])<|aX (C1 br4)<|r
 rcases aK h with⟨c5,h⟩|⟨c5,h⟩
 ·obtain⟨x7,bx7,h⟩:=aw h
  obtain⟨r8,br8,h⟩:=aw h
  have p10:=fun{sc F} (r:PS sc F)=>p6<|sg 6 c5<|sv (aZ.ia (k:=.i64) bx7)<|sv (dB Es (.str x7) [])<|aX (Mk br8)<|r
  rcases aK h with⟨c9,h⟩|⟨c9,h⟩
  ·obtain⟨x11,bx11,h⟩:=aw h
   have p13:=fun{sc F} (r:PS sc F)=>p10<|sg 13 c9<|sv (aZ.ia (k:=.i64) bx11)<|sv (dB Es (.str x11) [])<|r
   rcases aK h with⟨c12,h⟩|⟨c12,h⟩
   ·obtain rfl:=lf h
    exact bE HV (p13<|sg 18 c12<|eF .normal (kP v true))<|by kernel_rfl
   ·obtain rfl:=lf h
    exact bE HV (p13<|sg 18 c12<|b9 (aZ.ln v)<|eF .normal (kP v ((v.length:Int)==1)))<|by kernel_rfl
  ·obtain rfl:=lf h
   exact bE HV (p10<|sg 13 c9<|eF .normal (kP v false))<|by kernel_rfl
 ·obtain rfl:=lf h
  exact bE HV (p6<|sg 6 c5<|eF .normal (kP v false))<|by kernel_rfl
end
section
variable(t35:waA)(t36:Int)(t37:Int)
def kQ:ax:=aP 45 [(35,sl cS t35),(36,.int .i64 t36),(37,.int .i64 t37)] [] []
def kS(o:Unit⊕(Unit)):Exit:=match o with
 |(.inl _)=>.ret
 |(.inr _)=>.exit 0
def iU(o:Unit⊕(Unit)):ax:=match o with
 |(.inl o)=>aP 45 [(2,.int .i64 3)] [] []
 |(.inr o)=>aP 45 [] [] []
def kR:Option (Int⊕(Unit⊕(Unit))):=
 if(decide (t37<t36))=true then
  (dt t35 t37).bind fun x19=>
  (vK x19).bind fun r20=>
  if(!r20)=true then
   some (.inr (.inl ()))
  else
   some (.inl (bA (t37+1)))
 else
  some (.inr (.inr ()))
def tK:Option (Unit⊕(Unit)):=loop (fun(zz:Int)=>kR t35 t36 zz) t37
theorem Gv{y:Int⊕(Unit⊕(Unit))}(h:kR t35 t36 t37=some y):aL Pg GE 0 (cA Pj 503) (LQ (fun(zz:Int)=>kQ t35 t36 zz) kS iU y) (kQ t35 t36 t37):=by
 rcases aK h with⟨c18,h⟩|⟨c18,h⟩
 ·obtain⟨x19,bx19,h⟩:=aw h
  obtain⟨r20,br20,h⟩:=aw h
  have p22:=fun{sc F} (r:PS sc F)=>sg 0 c18<|sv (aZ.ia (k:=.i64) bx19)<|sv (dB Es (.str x19) [])<|aX (NI br20)<|r
  rcases aK h with⟨c21,h⟩|⟨c21,h⟩
  ·obtain rfl:=lf h
   have z:=p22<|sg 0 c21<|eF (kS (.inl ())) (iU (.inl ()))
   exact eS HV (by intro hx;cases hx) z<|by kernel_rfl
  ·obtain rfl:=lf h
   exact vJ HV (p22<|sg 0 c21<|eF .normal (kQ t35 t36 (bA (t37+1))))<|by kernel_rfl
 ·obtain rfl:=lf h
  have z:=sg 0 c18<|eF (kS (.inr ())) (iU (.inr ()))
  exact eS HV (by intro hx;cases hx) z<|by kernel_rfl
theorem y4{x:Unit⊕(Unit)}(h:tK t35 t36 t37=some x):aL Pg GE 0 (.loop (cA Pj 503)) (EX (kS x) (iU x)) (kQ t35 t36 t37):=
 aL.loop (S:=fun(zz:Int)=>kQ t35 t36 zz) (ex:=kS) (s:=t37) h fun zz y hy=>Gv t35 t36 zz hy
end
def kO(s:ag):Option Int:=
 if(decide ((s.length:Int)>120))=true then
  some 3
 else
  (rG s).bind fun r2=>
  (mL r2).bind fun o14=>
  if o14=true then
   some 3
  else
   (Hy r2 (some 1) none).bind fun l17=>
   (tK l17 (l17.length:Int) 0).bind fun o23=>match o23 with
   |(.inl o23)=>
    some 3
   |(.inr o23)=>
    some 0
theorem pH{s:ag}{r:Int}(h:kO s=some r):CC Pg GE 169 [.str s] (.int .i64 r) []:=by
 rcases aK h with⟨c1,h⟩|⟨c1,h⟩
 ·obtain rfl:=lf h
  have z:=b9 (fl underlying9 s)<|sg 0 c1<|en (aI (rP (.int .i64 3))<|trivial)
  exact bo HV call169 func169 (c:=Pj) rfl (aI trivial trivial) z<|by kernel_rfl
 ·obtain⟨r2,br2,h⟩:=aw h
  obtain⟨o14,bo14,h⟩:=aw h
  have p16:=fun{sc F} (r:PS sc F)=>b9 (fl underlying9 s)<|sg 0 c1<|aX (Mm br2)<|jC 1<|cm (H3 r2 bo14)<|r
  rcases aK h with⟨c15,h⟩|⟨c15,h⟩
  ·obtain rfl:=lf h
   have z:=p16<|sg 0 c15<|en (aI (rP (.int .i64 3))<|trivial)
   exact bo HV call169 func169 (c:=Pj) rfl (aI trivial trivial) z<|by kernel_rfl
  ·obtain⟨l17,bl17,h⟩:=aw h
   obtain⟨o23,bo23,h⟩:=aw h
   rcases o23 with o23|o23
   ·obtain rfl:=lf h
    have z:=p16<|sg 0 c15<|sv (aZ.sc bl17)<|b9 (aZ.ln l17)<|cm (e:=.ret) (s1:=iU (.inl o23)) (y4 l17 (l17.length:Int) 0 bo23)<|en (aI (rP (.int .i64 3))<|trivial)
    exact bo HV call169 func169 (c:=Pj) rfl (aI trivial trivial) z<|by kernel_rfl
   ·obtain rfl:=lf h
    have z:=p16<|sg 0 c15<|sv (aZ.sc bl17)<|b9 (aZ.ln l17)<|cm (e:=.exit 0) (s1:=iU (.inr o23)) (y4 l17 (l17.length:Int) 0 bo23)<|en (aI (rP (.int .i64 0))<|trivial)
    exact bo HV call169 func169 (c:=Pj) rfl (aI trivial trivial) z<|by kernel_rfl
noncomputable def VB:Code:=f141.body.getD .skip
def Vi:List Nat:=[]
def pR(s:ag)(capital:Bool):Option Bool:=
 (kO s).bind fun r1=>
 if(r1==0)=true then
  (hX s 0).bind fun c3=>
  if(decide (c3>=65))=true then
   (hX s 0).bind fun c6=>
   some ((decide (c6<=90))==capital)
  else
   some (false==capital)
 else
  some false
theorem zi{s:ag}{capital:Bool}{r:Bool}(h:pR s capital=some r):CC Pg GE 141 [.str s,.bool capital] (.bool r) []:=by
 obtain⟨r1,br1,h⟩:=aw h
 rcases aK h with⟨c2,h⟩|⟨c2,h⟩
 ·obtain⟨c3,bc3,h⟩:=aw h
  have p5:=fun{sc F} (r:PS sc F)=>aX (pH br1)<|sg 4 c2<|sv (eQ (k:=.i64) underlying9 bc3)<|r
  rcases aK h with⟨c4,h⟩|⟨c4,h⟩
  ·obtain⟨c6,bc6,h⟩:=aw h
   obtain rfl:=lf h
   have z:=p5<|sg 8 c4<|sv (eQ (k:=.i64) underlying9 bc6)<|en (aI (rP (.bool ((decide (c6<=90))==capital)))<|trivial)
   exact bo Vi call141 func141 (c:=VB) rfl (aI trivial (aI trivial trivial)) z<|by kernel_rfl
  ·obtain rfl:=lf h
   have z:=p5<|sg 8 c4<|en (aI (rP (.bool (false==capital)))<|trivial)
   exact bo Vi call141 func141 (c:=VB) rfl (aI trivial (aI trivial trivial)) z<|by kernel_rfl
 ·obtain rfl:=lf h
  have z:=aX (pH br1)<|sg 4 c2<|en (aI (rP (.bool false))<|trivial)
  exact bo Vi call141 func141 (c:=VB) rfl (aI trivial (aI trivial trivial)) z<|by kernel_rfl
noncomputable def MM:Code:=f125.body.getD .skip
def gj:List Nat:=[]
section
variable(t:ae)
def KI:ax:=aP 113 [(1,.eptr (af t))] [.dead] []
def bj(o:Bool):ax:=aP 113 [(1,.eptr (af t)),(52,.bool o)] [.dead] []
def gP:Option Bool:=
 if(decide (t.Op<1))=true then
  some true
 else
  if(decide (t.Op>6))=true then
   some true
  else
   if (!(t.Name == ([]:ag))) = true then
    if (t.Op != 4) = true then
     if(t.Op !=5)=true then
      some true
     else
      if (decide ((t.Args.length:Int) > 0)) = true then
       if (t.Op != 4) = true then
        if(t.Op !=6)=true then
         some true
        else
         if(decide ((t.Names.length:Int)>0))=true then
          some (t.Op !=6)
         else
          some false
       else
        if(decide ((t.Names.length:Int)>0))=true then
         some (t.Op !=6)
        else
         some false
      else
       if(decide ((t.Names.length:Int)>0))=true then
        some (t.Op !=6)
       else
        some false
    else
     if (decide ((t.Args.length:Int) > 0)) = true then
      if (t.Op != 4) = true then
       if(t.Op !=6)=true then
        some true
       else
        if(decide ((t.Names.length:Int)>0))=true then
         some (t.Op !=6)
        else
         some false
      else
       if(decide ((t.Names.length:Int)>0))=true then
        some (t.Op !=6)
       else
        some false
     else
      if(decide ((t.Names.length:Int)>0))=true then
       some (t.Op !=6)
      else
       some false
   else
    if (decide ((t.Args.length:Int) > 0)) = true then
     if (t.Op != 4) = true then
      if(t.Op !=6)=true then
       some true
      else
       if(decide ((t.Names.length:Int)>0))=true then
        some (t.Op !=6)
       else
        some false
     else
      if(decide ((t.Names.length:Int)>0))=true then
       some (t.Op !=6)
      else
       some false
    else
     if(decide ((t.Names.length:Int)>0))=true then
      some (t.Op !=6)
     else
      some false
theorem Iv{x:Bool}(h:gP t=some x):aL Pg GE 0 (cA MM 12) (EX .normal (bj t x)) (KI t):=by
 have p2:=fun{sc F} (r:PS sc F)=>sv (au t)<|sv (av t)<|r
 rcases aK h with⟨c1,h⟩|⟨c1,h⟩
 ·obtain rfl:=lf h
  exact bE gj (p2<|sg 4 c1<|eF .normal (bj t true))<|by kernel_rfl
 ·have p4:=fun{sc F} (r:PS sc F)=>p2<|sg 4 c1<|sv (au t)<|sv (av t)<|r
  rcases aK h with⟨c3,h⟩|⟨c3,h⟩
  ·obtain rfl:=lf h
   exact bE gj (p4<|sg 9 c3<|eF .normal (bj t true))<|by kernel_rfl
  ·have p6:=fun{sc F} (r:PS sc F)=>p4<|sg 9 c3<|sv (ck t)<|sv (cq t)<|r
   rcases aK h with⟨c5,h⟩|⟨c5,h⟩
   ·have p8:=fun{sc F} (r:PS sc F)=>p6<|sg 13 c5<|sv (au t)<|sv (av t)<|r
    rcases aK h with⟨c7,h⟩|⟨c7,h⟩
    ·have p10:=fun{sc F} (r:PS sc F)=>p8<|sg 18 c7<|sv (au t)<|sv (av t)<|r
     rcases aK h with⟨c9,h⟩|⟨c9,h⟩
     ·obtain rfl:=lf h
      exact bE gj (p10<|sg 24 c9<|eF .normal (bj t true))<|by kernel_rfl
     ·have p12:=fun{sc F} (r:PS sc F)=>p10<|sg 24 c9<|sv (aF t)<|sv (aG t)<|b9 (cJ.ln t.Args)<|r
      rcases aK h with⟨c11,h⟩|⟨c11,h⟩
      ·have p14:=fun{sc F} (r:PS sc F)=>p12<|sg 29 c11<|sv (au t)<|sv (av t)<|r
       rcases aK h with⟨c13,h⟩|⟨c13,h⟩
       ·have p16:=fun{sc F} (r:PS sc F)=>p14<|sg 34 c13<|sv (au t)<|sv (av t)<|r
        rcases aK h with⟨c15,h⟩|⟨c15,h⟩
        ·obtain rfl:=lf h
         exact bE gj (p16<|sg 40 c15<|eF .normal (bj t true))<|by kernel_rfl
        ·have p18:=fun{sc F} (r:PS sc F)=>p16<|sg 40 c15<|sv (aM t)<|sv (aN t)<|b9 (aZ.ln t.Names)<|r
         rcases aK h with⟨c17,h⟩|⟨c17,h⟩
         ·obtain rfl:=lf h
          exact bE gj (p18<|sg 45 c17<|sv (au t)<|sv (av t)<|eF .normal (bj t (t.Op !=6)))<|by kernel_rfl
         ·obtain rfl:=lf h
          exact bE gj (p18<|sg 45 c17<|eF .normal (bj t false))<|by kernel_rfl
       ·have p20:=fun{sc F} (r:PS sc F)=>p14<|sg 34 c13<|sv (aM t)<|sv (aN t)<|b9 (aZ.ln t.Names)<|r
        rcases aK h with⟨c19,h⟩|⟨c19,h⟩
        ·obtain rfl:=lf h
         exact bE gj (p20<|sg 45 c19<|sv (au t)<|sv (av t)<|eF .normal (bj t (t.Op !=6)))<|by kernel_rfl
        ·obtain rfl:=lf h
         exact bE gj (p20<|sg 45 c19<|eF .normal (bj t false))<|by kernel_rfl
      ·have p22:=fun{sc F} (r:PS sc F)=>p12<|sg 29 c11<|sv (aM t)<|sv (aN t)<|b9 (aZ.ln t.Names)<|r
       rcases aK h with⟨c21,h⟩|⟨c21,h⟩
       ·obtain rfl:=lf h
        exact bE gj (p22<|sg 45 c21<|sv (au t)<|sv (av t)<|eF .normal (bj t (t.Op !=6)))<|by kernel_rfl
       ·obtain rfl:=lf h
        exact bE gj (p22<|sg 45 c21<|eF .normal (bj t false))<|by kernel_rfl
    ·have p24:=fun{sc F} (r:PS sc F)=>p8<|sg 18 c7<|sv (aF t)<|sv (aG t)<|b9 (cJ.ln t.Args)<|r
     rcases aK h with⟨c23,h⟩|⟨c23,h⟩
     ·have p26:=fun{sc F} (r:PS sc F)=>p24<|sg 29 c23<|sv (au t)<|sv (av t)<|r
      rcases aK h with⟨c25,h⟩|⟨c25,h⟩
      ·have p28:=fun{sc F} (r:PS sc F)=>p26<|sg 34 c25<|sv (au t)<|sv (av t)<|r
       rcases aK h with⟨c27,h⟩|⟨c27,h⟩
       ·obtain rfl:=lf h
        exact bE gj (p28<|sg 40 c27<|eF .normal (bj t true))<|by kernel_rfl
       ·have p30:=fun{sc F} (r:PS sc F)=>p28<|sg 40 c27<|sv (aM t)<|sv (aN t)<|b9 (aZ.ln t.Names)<|r
        rcases aK h with⟨c29,h⟩|⟨c29,h⟩
        ·obtain rfl:=lf h
         exact bE gj (p30<|sg 45 c29<|sv (au t)<|sv (av t)<|eF .normal (bj t (t.Op !=6)))<|by kernel_rfl
        ·obtain rfl:=lf h
         exact bE gj (p30<|sg 45 c29<|eF .normal (bj t false))<|by kernel_rfl
      ·have p32:=fun{sc F} (r:PS sc F)=>p26<|sg 34 c25<|sv (aM t)<|sv (aN t)<|b9 (aZ.ln t.Names)<|r
       rcases aK h with⟨c31,h⟩|⟨c31,h⟩
       ·obtain rfl:=lf h
        exact bE gj (p32<|sg 45 c31<|sv (au t)<|sv (av t)<|eF .normal (bj t (t.Op !=6)))<|by kernel_rfl
       ·obtain rfl:=lf h
        exact bE gj (p32<|sg 45 c31<|eF .normal (bj t false))<|by kernel_rfl
     ·have p34:=fun{sc F} (r:PS sc F)=>p24<|sg 29 c23<|sv (aM t)<|sv (aN t)<|b9 (aZ.ln t.Names)<|r
      rcases aK h with⟨c33,h⟩|⟨c33,h⟩
      ·obtain rfl:=lf h
       exact bE gj (p34<|sg 45 c33<|sv (au t)<|sv (av t)<|eF .normal (bj t (t.Op !=6)))<|by kernel_rfl
      ·obtain rfl:=lf h
       exact bE gj (p34<|sg 45 c33<|eF .normal (bj t false))<|by kernel_rfl
   ·have p36:=fun{sc F} (r:PS sc F)=>p6<|sg 13 c5<|sv (aF t)<|sv (aG t)<|b9 (cJ.ln t.Args)<|r
    rcases aK h with⟨c35,h⟩|⟨c35,h⟩
    ·have p38:=fun{sc F} (r:PS sc F)=>p36<|sg 29 c35<|sv (au t)<|sv (av t)<|r
     rcases aK h with⟨c37,h⟩|⟨c37,h⟩
     ·have p40:=fun{sc F} (r:PS sc F)=>p38<|sg 34 c37<|sv (au t)<|sv (av t)<|r
      rcases aK h with⟨c39,h⟩|⟨c39,h⟩
      ·obtain rfl:=lf h
       exact bE gj (p40<|sg 40 c39<|eF .normal (bj t true))<|by kernel_rfl
      ·have p42:=fun{sc F} (r:PS sc F)=>p40<|sg 40 c39<|sv (aM t)<|sv (aN t)<|b9 (aZ.ln t.Names)<|r
       rcases aK h with⟨c41,h⟩|⟨c41,h⟩
       ·obtain rfl:=lf h
        exact bE gj (p42<|sg 45 c41<|sv (au t)<|sv (av t)<|eF .normal (bj t (t.Op !=6)))<|by kernel_rfl
       ·obtain rfl:=lf h
        exact bE gj (p42<|sg 45 c41<|eF .normal (bj t false))<|by kernel_rfl
     ·have p44:=fun{sc F} (r:PS sc F)=>p38<|sg 34 c37<|sv (aM t)<|sv (aN t)<|b9 (aZ.ln t.Names)<|r
      rcases aK h with⟨c43,h⟩|⟨c43,h⟩
      ·obtain rfl:=lf h
       exact bE gj (p44<|sg 45 c43<|sv (au t)<|sv (av t)<|eF .normal (bj t (t.Op !=6)))<|by kernel_rfl
      ·obtain rfl:=lf h
       exact bE gj (p44<|sg 45 c43<|eF .normal (bj t false))<|by kernel_rfl
    ·have p46:=fun{sc F} (r:PS sc F)=>p36<|sg 29 c35<|sv (aM t)<|sv (aN t)<|b9 (aZ.ln t.Names)<|r
     rcases aK h with⟨c45,h⟩|⟨c45,h⟩
     ·obtain rfl:=lf h
      exact bE gj (p46<|sg 45 c45<|sv (au t)<|sv (av t)<|eF .normal (bj t (t.Op !=6)))<|by kernel_rfl
     ·obtain rfl:=lf h
      exact bE gj (p46<|sg 45 c45<|eF .normal (bj t false))<|by kernel_rfl
end
section
variable(t:ae)
def KJ:ax:=aP 113 [(1,.eptr (af t))] [.dead] []
def uZ(o:Bool):ax:=aP 113 [(1,.eptr (af t)),(61,.bool o)] [.dead] []
def gQ:Option Bool:=
 if(t.Op==4)=true then
  some (decide ((t.Args.length:Int)>6))
 else
  some false
theorem Iw{x:Bool}(h:gQ t=some x):aL Pg GE 0 (cA MM 28) (EX .normal (uZ t x)) (KJ t):=by
 have p51:=fun{sc F} (r:PS sc F)=>sv (au t)<|sv (av t)<|r
 rcases aK h with⟨c50,h⟩|⟨c50,h⟩
 ·obtain rfl:=lf h
  exact bE gj (p51<|sg 4 c50<|sv (aF t)<|sv (aG t)<|b9 (cJ.ln t.Args)<|eF .normal (uZ t (decide ((t.Args.length:Int)>6))))<|by kernel_rfl
 ·obtain rfl:=lf h
  exact bE gj (p51<|sg 4 c50<|eF .normal (uZ t false))<|by kernel_rfl
end
section
variable(t:ae)
def KK:ax:=aP 113 [(1,.eptr (af t))] [.dead] []
def i6(o:Bool):ax:=aP 113 [(1,.eptr (af t)),(92,.bool o)] [.dead] []
def gR:Option Bool:=
 if (t.Op == 6) = true then
  if(decide ((t.Args.length:Int)<2))=true then
   some true
  else
   if(decide ((t.Args.length:Int)>7))=true then
    some true
   else
    if(decide ((t.Names.length:Int)>0))=true then
     some ((t.Names.length:Int)!=(bA ((t.Args.length:Int) - 1)))
    else
     some false
 else
  some false
theorem Ix{x:Bool}(h:gR t=some x):aL Pg GE 0 (cA MM 60) (EX .normal (i6 t x)) (KK t):=by
 have p56:=fun{sc F} (r:PS sc F)=>sv (au t)<|sv (av t)<|r
 rcases aK h with⟨c55,h⟩|⟨c55,h⟩
 ·have p58:=fun{sc F} (r:PS sc F)=>p56<|sg 4 c55<|sv (aF t)<|sv (aG t)<|b9 (cJ.ln t.Args)<|r
  rcases aK h with⟨c57,h⟩|⟨c57,h⟩
  ·obtain rfl:=lf h
   exact bE gj (p58<|sg 9 c57<|eF .normal (i6 t true))<|by kernel_rfl
  ·have p60:=fun{sc F} (r:PS sc F)=>p58<|sg 9 c57<|sv (aF t)<|sv (aG t)<|b9 (cJ.ln t.Args)<|r
   rcases aK h with⟨c59,h⟩|⟨c59,h⟩
   ·obtain rfl:=lf h
    exact bE gj (p60<|sg 15 c59<|eF .normal (i6 t true))<|by kernel_rfl
   ·have p62:=fun{sc F} (r:PS sc F)=>p60<|sg 15 c59<|sv (aM t)<|sv (aN t)<|b9 (aZ.ln t.Names)<|r
    rcases aK h with⟨c61,h⟩|⟨c61,h⟩
    ·obtain rfl:=lf h
     exact bE gj (p62<|sg 20 c61<|sv (aM t)<|sv (aN t)<|b9 (aZ.ln t.Names)<|sv (aF t)<|sv (aG t)<|b9 (cJ.ln t.Args)<|eF .normal (i6 t ((t.Names.length:Int)!=(bA ((t.Args.length:Int) - 1)))))<|by kernel_rfl
    ·obtain rfl:=lf h
     exact bE gj (p62<|sg 20 c61<|eF .normal (i6 t false))<|by kernel_rfl
 ·obtain rfl:=lf h
  exact bE gj (p56<|sg 4 c55<|eF .normal (i6 t false))<|by kernel_rfl
end
section
variable(t:ae)
def KL:ax:=aP 113 [(1,.eptr (af t))] [.dead] []
def i7(o:Bool):ax:=aP 113 [(112,.bool o)] [.dead] []
def gS:Option Bool:=
 if (t.Op == 4) = true then
  (pR t.Name true).bind fun r68=>
  if(!r68)=true then
   some true
  else
   if(t.Op==5)=true then
    (pR t.Name false).bind fun r73=>
    some (!r73)
   else
    some false
 else
  if(t.Op==5)=true then
   (pR t.Name false).bind fun r76=>
   some (!r76)
  else
   some false
theorem Iy{x:Bool}(h:gS t=some x):aL Pg GE 0 (cA MM 124) (EX .normal (i7 x)) (KL t):=by
 have p67:=fun{sc F} (r:PS sc F)=>sv (au t)<|sv (av t)<|r
 rcases aK h with⟨c66,h⟩|⟨c66,h⟩
 ·obtain⟨r68,br68,h⟩:=aw h
  have p70:=fun{sc F} (r:PS sc F)=>p67<|sg 4 c66<|sv (ck t)<|sv (cq t)<|aX (zi br68)<|r
  rcases aK h with⟨c69,h⟩|⟨c69,h⟩
  ·obtain rfl:=lf h
   exact bE gj (p70<|sg 10 c69<|eF .normal (i7 true))<|by kernel_rfl
  ·have p72:=fun{sc F} (r:PS sc F)=>p70<|sg 10 c69<|sv (au t)<|sv (av t)<|r
   rcases aK h with⟨c71,h⟩|⟨c71,h⟩
   ·obtain⟨r73,br73,h⟩:=aw h
    obtain rfl:=lf h
    exact bE gj (p72<|sg 14 c71<|sv (ck t)<|sv (cq t)<|aX (zi br73)<|eF .normal (i7 (!r73)))<|by kernel_rfl
   ·obtain rfl:=lf h
    exact bE gj (p72<|sg 14 c71<|eF .normal (i7 false))<|by kernel_rfl
 ·have p75:=fun{sc F} (r:PS sc F)=>p67<|sg 4 c66<|sv (au t)<|sv (av t)<|r
  rcases aK h with⟨c74,h⟩|⟨c74,h⟩
  ·obtain⟨r76,br76,h⟩:=aw h
   obtain rfl:=lf h
   exact bE gj (p75<|sg 14 c74<|sv (ck t)<|sv (cq t)<|aX (zi br76)<|eF .normal (i7 (!r76)))<|by kernel_rfl
  ·obtain rfl:=lf h
   exact bE gj (p75<|sg 14 c74<|eF .normal (i7 false))<|by kernel_rfl
end
def zl(t:ae):Option Int:=
 (gP t).bind fun o47=>
 if o47=true then
  some 1
 else
  (gQ t).bind fun o52=>
  if o52=true then
   some 13
  else
   (gR t).bind fun o63=>
   if o63=true then
    some 13
   else
    (gS t).bind fun o77=>
    if o77=true then
     some 3
    else
     some 0
theorem NO{t:ae}{r:Int}(h:zl t=some r):CC Pg GE 125 [.agg (af t)] (.int .i64 r) []:=by
 obtain⟨o47,bo47,h⟩:=aw h
 have p49:=fun{sc F} (r:PS sc F)=>se (bH t)<|jC 1<|cm (Iv t bo47)<|r
 rcases aK h with⟨c48,h⟩|⟨c48,h⟩
 ·obtain rfl:=lf h
  have z:=p49<|sg 0 c48<|en (aI (rP (.int .i64 1))<|trivial)
  exact bo gj call125 func125 (c:=MM) rfl (aI (aj t) trivial) z<|by kernel_rfl
 ·obtain⟨o52,bo52,h⟩:=aw h
  have p54:=fun{sc F} (r:PS sc F)=>p49<|sg 0 c48<|jC 1<|cm (Iw t bo52)<|r
  rcases aK h with⟨c53,h⟩|⟨c53,h⟩
  ·obtain rfl:=lf h
   have z:=p54<|sg 0 c53<|en (aI (rP (.int .i64 13))<|trivial)
   exact bo gj call125 func125 (c:=MM) rfl (aI (aj t) trivial) z<|by kernel_rfl
  ·obtain⟨o63,bo63,h⟩:=aw h
   have p65:=fun{sc F} (r:PS sc F)=>p54<|sg 0 c53<|jC 1<|cm (Ix t bo63)<|r
   rcases aK h with⟨c64,h⟩|⟨c64,h⟩
   ·obtain rfl:=lf h
    have z:=p65<|sg 0 c64<|en (aI (rP (.int .i64 13))<|trivial)
    exact bo gj call125 func125 (c:=MM) rfl (aI (aj t) trivial) z<|by kernel_rfl
   ·obtain⟨o77,bo77,h⟩:=aw h
    have p79:=fun{sc F} (r:PS sc F)=>p65<|sg 0 c64<|jC 1<|cm (Iy t bo77)<|r
    rcases aK h with⟨c78,h⟩|⟨c78,h⟩
    ·obtain rfl:=lf h
     have z:=p79<|sg 0 c78<|en (aI (rP (.int .i64 3))<|trivial)
     exact bo gj call125 func125 (c:=MM) rfl (aI (aj t) trivial) z<|by kernel_rfl
    ·obtain rfl:=lf h
     have z:=p79<|sg 0 c78<|en (aI (rP (.int .i64 0))<|trivial)
     exact bo gj call125 func125 (c:=MM) rfl (aI (aj t) trivial) z<|by kernel_rfl
noncomputable def SA:Code:=f103.body.getD .skip
def Q0:List Nat:=[11,23]
section
variable(R110:xv)(t13:waC)(t14:Int)(t15:Int)
def li:ax:=aP 25 [(13,sl af t13),(14,.int .i64 t14),(15,.int .i64 t15)] [.dead] []
def lj(o:Int⊕(Unit)):Exit:=match o with
 |(.inl _)=>.ret
 |(.inr _)=>.exit 0
def iZ(o:Int⊕(Unit)):ax:=match o with
 |(.inl o)=>aP 25 [(2,.int .i64 o)] [.dead] []
 |(.inr o)=>aP 25 [] [.dead] []
def Bh:Option (Int⊕(Int⊕(Unit))):=
 if(decide (t15<t14))=true then
  (dt t13 t15).bind fun x5=>
  (R110 x5).bind fun r6=>
  if(r6 !=0)=true then
   some (.inr (.inl r6))
  else
   some (.inl (bA (t15+1)))
 else
  some (.inr (.inr ()))
def tX:Option (Int⊕(Unit)):=loop (fun(zz:Int)=>Bh R110 t13 t14 zz) t15
theorem GT(hR110:BQ R110){y:Int⊕(Int⊕(Unit))}(h:Bh R110 t13 t14 t15=some y):aL Pg GE 0 (cA SA 119) (LQ (fun(zz:Int)=>li t13 t14 zz) lj iZ y) (li t13 t14 t15):=by
 rcases aK h with⟨c4,h⟩|⟨c4,h⟩
 ·obtain⟨x5,bx5,h⟩:=aw h
  obtain⟨r6,br6,h⟩:=aw h
  have p8:=fun{sc F} (r:PS sc F)=>sg 0 c4<|sv (cJ.ia (k:=.i64) bx5)<|sv (aQ x5)<|sx jl<|sx (cu x5)<|sv (bu x5 [])<|aX (hR110 _ _ br6)<|r
  rcases aK h with⟨c7,h⟩|⟨c7,h⟩
  ·obtain rfl:=lf h
   have z:=p8<|sg 0 c7<|lG 0 (lj (.inl r6)) (iZ (.inl r6)) rfl (cb (aI trivial trivial)) (aI trivial trivial)
   exact mC (A:=Q0) mixed (by intro hx;cases hx) z<|by kernel_rfl
  ·obtain rfl:=lf h
   have z:=p8<|sg 0 c7<|lG 0 .normal (li t13 t14 (bA (t15+1))) rfl (cb (aI (up (am aj t13)) (aI trivial (aI trivial trivial)))) (aI trivial trivial)
   exact cc (A:=Q0) mixed z<|by kernel_rfl
 ·obtain rfl:=lf h
  have z:=sg 0 c4<|eF (lj (.inr ())) (iZ (.inr ()))
  exact eS Q0 (by intro hx;cases hx) z<|by kernel_rfl
theorem zk(hR110:BQ R110){x:Int⊕(Unit)}(h:tX R110 t13 t14 t15=some x):aL Pg GE 0 (.loop (cA SA 119)) (EX (lj x) (iZ x)) (li t13 t14 t15):=
 aL.loop (S:=fun(zz:Int)=>li t13 t14 zz) (ex:=lj) (s:=t15) h fun zz y hy=>GT R110 t13 t14 zz hR110 hy
end
def oD(R110:xv)(t:ae):Option Int:=
 (zl t).bind fun r1=>
 if(r1 !=0)=true then
  some r1
 else
  (tX R110 t.Args (t.Args.length:Int) 0).bind fun o9=>match o9 with
  |(.inl o9)=>
   some o9
  |(.inr o9)=>
   some 0
theorem Mz(R110:xv)(hR110:BQ R110){t:ae}{r:Int}(h:oD R110 t=some r):CC Pg GE 103 [.agg (af t)] (.int .i64 r) []:=by
 obtain⟨r1,br1,h⟩:=aw h
 have p3:=fun{sc F} (r:PS sc F)=>se (bH t)<|sv (aQ t)<|aX (NO br1)<|r
 rcases aK h with⟨c2,h⟩|⟨c2,h⟩
 ·obtain rfl:=lf h
  have z:=p3<|sg 0 c2<|en (aI (rP (.int .i64 r1))<|trivial)
  exact bo Q0 call103 func103 (c:=SA) rfl (aI (aj t) trivial) z<|by kernel_rfl
 ·obtain⟨o9,bo9,h⟩:=aw h
  rcases o9 with o9|o9
  ·obtain rfl:=lf h
   have z:=p3<|sg 0 c2<|sv (aF t)<|sv (aG t)<|b9 (cJ.ln t.Args)<|cm (e:=.ret) (s1:=iZ (.inl o9)) (zk R110 t.Args (t.Args.length:Int) 0 hR110 bo9)<|en (aI (rP (.int .i64 o9))<|trivial)
   exact bo Q0 call103 func103 (c:=SA) rfl (aI (aj t) trivial) z<|by kernel_rfl
  ·obtain rfl:=lf h
   have z:=p3<|sg 0 c2<|sv (aF t)<|sv (aG t)<|b9 (cJ.ln t.Args)<|cm (e:=.exit 0) (s1:=iZ (.inr o9)) (zk R110 t.Args (t.Args.length:Int) 0 hR110 bo9)<|en (aI (rP (.int .i64 0))<|trivial)
   exact bo Q0 call103 func103 (c:=SA) rfl (aI (aj t) trivial) z<|by kernel_rfl
def xn:(ae->Option Int)->(ae)->Option Int:=fun(rec:ae->Option Int) (x:ae)=>oD (fun t=>rec t) x
def zj(t:ae):Option Int:=ku xn t
theorem NN{t:ae}{r:Int}(h:zj t=some r):CC Pg GE 103 [.agg (af t)] (.int .i64 r) []:=
 cn (F:=xn) (M:=fun(x:ae) (r:Int)=>CC Pg GE 103 [.agg (af x)] (.int .i64 r) []) (fun rec hrec x r h=>Mz _ (fun t r h=>hrec t r h) h) h
noncomputable def Zk:Code:=f62.body.getD .skip
def Y9:List Nat:=[]
def rJ(t:ae):Option Int:=
 (vO t).bind fun r1=>
 if(decide (r1>40))=true then
  some 8
 else
  (zj t).bind fun r4=>
  some r4
theorem Mx{t:ae}{r:Int}(h:rJ t=some r):CC Pg GE 62 [.agg (af t)] (.int .i64 r) []:=by
 obtain⟨r1,br1,h⟩:=aw h
 have p3:=fun{sc F} (r:PS sc F)=>se (bH t)<|sv (aQ t)<|aX (My br1)<|r
 rcases aK h with⟨c2,h⟩|⟨c2,h⟩
 ·obtain rfl:=lf h
  have z:=p3<|sg 0 c2<|en (aI (rP (.int .i64 8))<|trivial)
  exact bo Y9 call62 func62 (c:=Zk) rfl (aI (aj t) trivial) z<|by kernel_rfl
 ·obtain⟨r4,br4,h⟩:=aw h
  obtain rfl:=lf h
  have z:=p3<|sg 0 c2<|sv (aQ t)<|aX (NN br4)<|en (aI (rP (.int .i64 r4))<|trivial)
  exact bo Y9 call62 func62 (c:=Zk) rfl (aI (aj t) trivial) z<|by kernel_rfl
abbrev xy:=(ae->Option Int)
abbrev BU(R:xy):Prop:=∀(t:ae) (r:Int),R t=some r->CC Pg GE 63 [.agg (af t)] (.int .i64 r) []
noncomputable def Uc:Code:=f127.body.getD .skip
def Sk:List Nat:=[8]
section
variable(v:waA)(t5:Int)(t6:Int)
def fH:ax:=aP 18 [(0,sl cS v),(5,.int .i64 t5),(6,.int .i64 t6)] [] []
def fI(o:Unit⊕(Unit)):Exit:=match o with
 |(.inl _)=>.ret
 |(.inr _)=>.exit 0
def eb(o:Unit⊕(Unit)):ax:=match o with
 |(.inl o)=>aP 18 [(2,.bool false)] [] []
 |(.inr o)=>aP 18 [] [] []
def jp:Option (Int⊕(Unit⊕(Unit))):=
 if(decide (t6<t5))=true then
  (dt v t6).bind fun x2=>
  (im v x2).bind fun r3=>
  if(r3 !=t6)=true then
   some (.inr (.inl ()))
  else
   some (.inl (bA (t6+1)))
 else
  some (.inr (.inr ()))
def ma:Option (Unit⊕(Unit)):=loop (fun(zz:Int)=>jp v t5 zz) t6
theorem AU{y:Int⊕(Unit⊕(Unit))}(h:jp v t5 t6=some y):aL Pg GE 0 (cA Uc 55) (LQ (fun(zz:Int)=>fH v t5 zz) fI eb y) (fH v t5 t6):=by
 rcases aK h with⟨c1,h⟩|⟨c1,h⟩
 ·obtain⟨x2,bx2,h⟩:=aw h
  obtain⟨r3,br3,h⟩:=aw h
  have p5:=fun{sc F} (r:PS sc F)=>sg 0 c1<|sv (aZ.ia (k:=.i64) bx2)<|sv (dB Es (.str x2) [])<|aX (tM br3)<|r
  rcases aK h with⟨c4,h⟩|⟨c4,h⟩
  ·obtain rfl:=lf h
   have z:=p5<|sg 0 c4<|eF (fI (.inl ())) (eb (.inl ()))
   exact eS Sk (by intro hx;cases hx) z<|by kernel_rfl
  ·obtain rfl:=lf h
   exact vJ Sk (p5<|sg 0 c4<|eF .normal (fH v t5 (bA (t6+1))))<|by kernel_rfl
 ·obtain rfl:=lf h
  have z:=sg 0 c1<|eF (fI (.inr ())) (eb (.inr ()))
  exact eS Sk (by intro hx;cases hx) z<|by kernel_rfl
theorem rY{x:Unit⊕(Unit)}(h:ma v t5 t6=some x):aL Pg GE 0 (.loop (cA Uc 55)) (EX (fI x) (eb x)) (fH v t5 t6):=
 aL.loop (S:=fun(zz:Int)=>fH v t5 zz) (ex:=fI) (s:=t6) h fun zz y hy=>AU v t5 zz hy
end
def gY(a:waA):Option Bool:=
 (ma a (a.length:Int) 0).bind fun o6=>match o6 with
 |(.inl o6)=>
  some false
 |(.inr o6)=>
  some true
theorem Gw{a:waA}{r:Bool}(h:gY a=some r):CC Pg GE 127 [sl cS a] (.bool r) []:=by
 obtain⟨o6,bo6,h⟩:=aw h
 rcases o6 with o6|o6
 ·obtain rfl:=lf h
  have z:=b9 (aZ.ln a)<|cm (e:=.ret) (s1:=eb (.inl o6)) (rY a (a.length:Int) 0 bo6)<|en (aI (rP (.bool false))<|trivial)
  exact bo Sk call127 func127 (c:=Uc) rfl (aI (am d8 a) trivial) z<|by kernel_rfl
 ·obtain rfl:=lf h
  have z:=b9 (aZ.ln a)<|cm (e:=.exit 0) (s1:=eb (.inr o6)) (rY a (a.length:Int) 0 bo6)<|en (aI (rP (.bool true))<|trivial)
  exact bo Sk call127 func127 (c:=Uc) rfl (aI (am d8 a) trivial) z<|by kernel_rfl
abbrev ua:=(aa->Option Int)
abbrev yY(R:ua):Prop:=∀(p:aa) (r:Int),R p=some r->CC Pg GE 69 [.agg (ac p)] (.int .i64 r) []
noncomputable def Ys:Code:=f69.body.getD .skip
def Yb:List Nat:=[]
section
variable(R127:ua)(t7:waB)(t8:Int)(n:Int)(t9:Int)
def jO:ax:=aP 20 [(3,.int .i64 n),(7,sl ac t7),(8,.int .i64 t8),(9,.int .i64 t9)] [.dead] []
def sm(o:Int):ax:=aP 20 [(3,.int .i64 o)] [.dead] []
def y8:Option ((Int×Int)⊕(Int)):=
 if(decide (t9<t8))=true then
  (dt t7 t9).bind fun x2=>
  (R127 x2).bind fun r3=>
  some (.inl ((if r3>n then r3 else n),bA (t9+1)))
 else
  some (.inr n)
def xg:Option Int:=loop (fun(zz:Int×Int)=>y8 R127 t7 t8 zz.1 zz.2) (n,t9)
theorem Ez(hR127:yY R127){y:(Int×Int)⊕(Int)}(h:y8 R127 t7 t8 n t9=some y):aL Pg GE 0 (cA Ys 119) (LQ (fun(zz:Int×Int)=>jO t7 t8 zz.1 zz.2) (fun _=>.exit 0) sm y) (jO t7 t8 n t9):=by
 rcases aK h with⟨c1,h⟩|⟨c1,h⟩
 ·obtain⟨x2,bx2,h⟩:=aw h
  obtain⟨r3,br3,h⟩:=aw h
  obtain rfl:=lf h
  have z:=sg 0 c1<|sv (aS.ia (k:=.i64) bx2)<|sv (az x2)<|sx d9<|sx (bp x2)<|sv (aU x2 [])<|aX (hR127 _ _ br3)<|lG 0 .normal (jO t7 t8 (if r3>n then r3 else n) (bA (t9+1))) rfl (cb (aI trivial (aI (up (am ah t7)) (aI trivial (aI trivial trivial))))) (aI trivial trivial)
  exact cc (A:=Yb) mixed z<|by kernel_rfl
 ·obtain rfl:=lf h
  have z:=sg 0 c1<|eF (.exit 0) (sm n)
  exact eS Yb (by intro hx;cases hx) z<|by kernel_rfl
theorem GM(hR127:yY R127){x:Int}(h:xg R127 t7 t8 n t9=some x):aL Pg GE 0 (.loop (cA Ys 119)) (EX (.exit 0) (sm x)) (jO t7 t8 n t9):=
 aL.loop (S:=fun(zz:Int×Int)=>jO t7 t8 zz.1 zz.2) (ex:=(fun _=>.exit 0)) (s:=(n,t9)) h fun zz y hy=>Ez R127 t7 t8 zz.1 zz.2 hR127 hy
end
def tP(R127:ua)(p:aa):Option Int:=
 (xg R127 p.Kids (p.Kids.length:Int) 0 0).bind fun o4=>
 some (bA (o4+1))
theorem Kv(R127:ua)(hR127:yY R127){p:aa}{r:Int}(h:tP R127 p=some r):CC Pg GE 69 [.agg (ac p)] (.int .i64 r) []:=by
 obtain⟨o4,bo4,h⟩:=aw h
 obtain rfl:=lf h
 have z:=se (bh p)<|sv (aH p)<|sv (aJ p)<|b9 (aS.ln p.Kids)<|cm (GM R127 p.Kids (p.Kids.length:Int) 0 0 hR127 bo4)<|en (aI (rP (.int .i64 (bA (o4+1))))<|trivial)
 exact bo Yb call69 func69 (c:=Ys) rfl (aI (ah p) trivial) z<|by kernel_rfl
def tQ:(aa->Option Int)->(aa)->Option Int:=fun(rec:aa->Option Int) (x:aa)=>tP (fun p=>rec p) x
def vM(p:aa):Option Int:=ku tQ p
theorem Mr{p:aa}{r:Int}(h:vM p=some r):CC Pg GE 69 [.agg (ac p)] (.int .i64 r) []:=
 cn (F:=tQ) (M:=fun(x:aa) (r:Int)=>CC Pg GE 69 [.agg (ac x)] (.int .i64 r) []) (fun rec hrec x r h=>Kv _ (fun p r h=>hrec p r h) h) h
abbrev xu:=(aa->Option Int)
abbrev BP(R:xu):Prop:=∀(p:aa) (r:Int),R p=some r->CC Pg GE 145 [.agg (ac p)] (.int .i64 r) []
noncomputable def VH:Code:=f189.body.getD .skip
def Vn:List Nat:=[]
def rI(op:Int):Option Bool:=
 if(op==3)=true then
  some true
 else
  if(op==4)=true then
   some true
  else
   some (op==5)
theorem Mw{op:Int}{r:Bool}(h:rI op=some r):CC Pg GE 189 [.int .i64 op] (.bool r) []:=by
 rcases aK h with⟨c1,h⟩|⟨c1,h⟩
 ·obtain rfl:=lf h
  have z:=sg 3 c1<|en (aI (rP (.bool true))<|trivial)
  exact bo Vn call189 func189 (c:=VH) rfl (aI trivial trivial) z<|by kernel_rfl
 ·rcases aK h with⟨c2,h⟩|⟨c2,h⟩
  ·obtain rfl:=lf h
   have z:=sg 3 c1<|sg 7 c2<|en (aI (rP (.bool true))<|trivial)
   exact bo Vn call189 func189 (c:=VH) rfl (aI trivial trivial) z<|by kernel_rfl
  ·obtain rfl:=lf h
   have z:=sg 3 c1<|sg 7 c2<|en (aI (rP (.bool (op==5)))<|trivial)
   exact bo Vn call189 func189 (c:=VH) rfl (aI trivial trivial) z<|by kernel_rfl
noncomputable def N1:Code:=f190.body.getD .skip
def Gn:List Nat:=[]
section
variable(n:Int)(t5:Int)
def KA:ax:=aP 28 [(1,.int .i64 n),(5,.int .i64 t5)] [] []
def pe(o:Bool):ax:=aP 28 [(1,.int .i64 n),(5,.int .i64 t5),(6,.bool o)] [] []
def pL:Option Bool:=
 if(t5==1)=true then
  some (t5==1)
 else
  if(t5==2)=true then
   some (t5==2)
  else
   some (t5==3)
theorem Im{x:Bool}(h:pL t5=some x):aL Pg GE 0 (cA N1 54) (EX .normal (pe n t5 x)) (KA n t5):=by
 rcases aK h with⟨c1,h⟩|⟨c1,h⟩
 ·obtain rfl:=lf h
  exact bE Gn (sg 0 c1<|eF .normal (pe n t5 (t5==1)))<|by kernel_rfl
 ·rcases aK h with⟨c2,h⟩|⟨c2,h⟩
  ·obtain rfl:=lf h
   exact bE Gn (sg 0 c1<|sg 0 c2<|eF .normal (pe n t5 (t5==2)))<|by kernel_rfl
  ·obtain rfl:=lf h
   exact bE Gn (sg 0 c1<|sg 0 c2<|eF .normal (pe n t5 (t5==3)))<|by kernel_rfl
end
section
variable(n:Int)(t5:Int)
def KB:ax:=aP 28 [(1,.int .i64 n),(5,.int .i64 t5)] [] []
def uV(o:Bool):ax:=aP 28 [(1,.int .i64 n),(5,.int .i64 t5),(12,.bool o)] [] []
def pM:Option Bool:=
 if(t5==4)=true then
  some (t5==4)
 else
  some (t5==5)
theorem Io{x:Bool}(h:pM t5=some x):aL Pg GE 0 (cA N1 222) (EX .normal (uV n t5 x)) (KB n t5):=by
 rcases aK h with⟨c6,h⟩|⟨c6,h⟩
 ·obtain rfl:=lf h
  exact bE Gn (sg 0 c6<|eF .normal (uV n t5 (t5==4)))<|by kernel_rfl
 ·obtain rfl:=lf h
  exact bE Gn (sg 0 c6<|eF .normal (uV n t5 (t5==5)))<|by kernel_rfl
end
section
variable(n:Int)(t5:Int)
def KC:ax:=aP 28 [(1,.int .i64 n),(5,.int .i64 t5)] [] []
def uW(o:Bool):ax:=aP 28 [(1,.int .i64 n),(21,.bool o)] [] []
def pN:Option Bool:=
 if(t5==9)=true then
  some (t5==9)
 else
  some (t5==14)
theorem Ip{x:Bool}(h:pN t5=some x):aL Pg GE 0 (cA N1 894) (EX .normal (uW n x)) (KC n t5):=by
 rcases aK h with⟨c12,h⟩|⟨c12,h⟩
 ·obtain rfl:=lf h
  exact bE Gn (sg 0 c12<|eF .normal (uW n (t5==9)))<|by kernel_rfl
 ·obtain rfl:=lf h
  exact bE Gn (sg 0 c12<|eF .normal (uW n (t5==14)))<|by kernel_rfl
end
def jQ(op:Int)(n:Int):Option Bool:=
 (pL op).bind fun o3=>
 if o3=true then
  some (n==0)
 else
  (pM op).bind fun o7=>
  if o7=true then
   if(decide (n>=1))=true then
    some (decide (n<=24))
   else
    some false
  else
   (pN op).bind fun o13=>
   if o13=true then
    some (n==1)
   else
    some (n==2)
theorem tT{op:Int}{n:Int}{r:Bool}(h:jQ op n=some r):CC Pg GE 190 [.int .i64 op,.int .i64 n] (.bool r) []:=by
 obtain⟨o3,bo3,h⟩:=aw h
 have p5:=fun{sc F} (r:PS sc F)=>jC 3<|cm (Im n op bo3)<|r
 rcases aK h with⟨c4,h⟩|⟨c4,h⟩
 ·obtain rfl:=lf h
  have z:=p5<|sg 0 c4<|en (aI (rP (.bool (n==0)))<|trivial)
  exact bo Gn call190 func190 (c:=N1) rfl (aI trivial (aI trivial trivial)) z<|by kernel_rfl
 ·obtain⟨o7,bo7,h⟩:=aw h
  have p9:=fun{sc F} (r:PS sc F)=>p5<|sg 0 c4<|jC 0<|cm (Io n op bo7)<|r
  rcases aK h with⟨c8,h⟩|⟨c8,h⟩
  ·have p11:=fun{sc F} (r:PS sc F)=>p9<|sg 0 c8<|r
   rcases aK h with⟨c10,h⟩|⟨c10,h⟩
   ·obtain rfl:=lf h
    have z:=p11<|sg 3 c10<|en (aI (rP (.bool (decide (n<=24))))<|trivial)
    exact bo Gn call190 func190 (c:=N1) rfl (aI trivial (aI trivial trivial)) z<|by kernel_rfl
   ·obtain rfl:=lf h
    have z:=p11<|sg 3 c10<|en (aI (rP (.bool false))<|trivial)
    exact bo Gn call190 func190 (c:=N1) rfl (aI trivial (aI trivial trivial)) z<|by kernel_rfl
  ·obtain⟨o13,bo13,h⟩:=aw h
   have p15:=fun{sc F} (r:PS sc F)=>p9<|sg 0 c8<|jC 0<|cm (Ip n op bo13)<|r
   rcases aK h with⟨c14,h⟩|⟨c14,h⟩
   ·obtain rfl:=lf h
    have z:=p15<|sg 0 c14<|en (aI (rP (.bool (n==1)))<|trivial)
    exact bo Gn call190 func190 (c:=N1) rfl (aI trivial (aI trivial trivial)) z<|by kernel_rfl
   ·obtain rfl:=lf h
    have z:=p15<|sg 0 c14<|en (aI (rP (.bool (n==2)))<|trivial)
    exact bo Gn call190 func190 (c:=N1) rfl (aI trivial (aI trivial trivial)) z<|by kernel_rfl
noncomputable def W3:Code:=f191.body.getD .skip
def WB:List Nat:=[]
def HX(n:Int):Option Bool:=
 if(decide (n>=(-1000000000000)))=true then
  some (decide (n<=1000000000000))
 else
  some false
theorem Q6{n:Int}{r:Bool}(h:HX n=some r):CC Pg GE 191 [.int .i64 n] (.bool r) []:=by
 rcases aK h with⟨c1,h⟩|⟨c1,h⟩
 ·obtain rfl:=lf h
  have z:=sg 3 c1<|en (aI (rP (.bool (decide (n<=1000000000000))))<|trivial)
  exact bo WB call191 func191 (c:=W3) rfl (aI trivial trivial) z<|by kernel_rfl
 ·obtain rfl:=lf h
  have z:=sg 3 c1<|en (aI (rP (.bool false))<|trivial)
  exact bo WB call191 func191 (c:=W3) rfl (aI trivial trivial) z<|by kernel_rfl
noncomputable def Pn:Code:=f192.body.getD .skip
def O9:List Nat:=[]
def mt(p:aa):Option Bool:=
 if(p.Op==3)=true then
  if(p.Name==([118]:ag))=true then
   some true
  else
   (kO p.Name).bind fun r5=>
   some (r5==0)
 else
  if (p.Op == 4) = true then
   if(p.Name==([116,97,103]:ag))=true then
    some true
   else
    if(p.Name==([118,97,108]:ag))=true then
     some true
    else
     (kO p.Name).bind fun r12=>
     some (r12==0)
  else
   if(p.Op==5)=true then
    (kO p.Name).bind fun r15=>
    some (r15==0)
   else
    some true
theorem Kz{p:aa}{r:Bool}(h:mt p=some r):CC Pg GE 192 [.agg (ac p)] (.bool r) []:=by
 have p2:=fun{sc F} (r:PS sc F)=>se (bh p)<|sv (aB p)<|sv (aC p)<|r
 rcases aK h with⟨c1,h⟩|⟨c1,h⟩
 ·have p4:=fun{sc F} (r:PS sc F)=>p2<|sg 0 c1<|sv (bF p)<|sv (bN p)<|r
  rcases aK h with⟨c3,h⟩|⟨c3,h⟩
  ·obtain rfl:=lf h
   have z:=p4<|sg 4 c3<|en (aI (rP (.bool true))<|trivial)
   exact bo O9 call192 func192 (c:=Pn) rfl (aI (ah p) trivial) z<|by kernel_rfl
  ·obtain⟨r5,br5,h⟩:=aw h
   obtain rfl:=lf h
   have z:=p4<|sg 4 c3<|sv (bF p)<|sv (bN p)<|aX (pH br5)<|en (aI (rP (.bool (r5==0)))<|trivial)
   exact bo O9 call192 func192 (c:=Pn) rfl (aI (ah p) trivial) z<|by kernel_rfl
 ·have p7:=fun{sc F} (r:PS sc F)=>p2<|sg 0 c1<|r
  rcases aK h with⟨c6,h⟩|⟨c6,h⟩
  ·have p9:=fun{sc F} (r:PS sc F)=>p7<|sg 0 c6<|sv (bF p)<|sv (bN p)<|r
   rcases aK h with⟨c8,h⟩|⟨c8,h⟩
   ·obtain rfl:=lf h
    have z:=p9<|sg 4 c8<|en (aI (rP (.bool true))<|trivial)
    exact bo O9 call192 func192 (c:=Pn) rfl (aI (ah p) trivial) z<|by kernel_rfl
   ·have p11:=fun{sc F} (r:PS sc F)=>p9<|sg 4 c8<|sv (bF p)<|sv (bN p)<|r
    rcases aK h with⟨c10,h⟩|⟨c10,h⟩
    ·obtain rfl:=lf h
     have z:=p11<|sg 9 c10<|en (aI (rP (.bool true))<|trivial)
     exact bo O9 call192 func192 (c:=Pn) rfl (aI (ah p) trivial) z<|by kernel_rfl
    ·obtain⟨r12,br12,h⟩:=aw h
     obtain rfl:=lf h
     have z:=p11<|sg 9 c10<|sv (bF p)<|sv (bN p)<|aX (pH br12)<|en (aI (rP (.bool (r12==0)))<|trivial)
     exact bo O9 call192 func192 (c:=Pn) rfl (aI (ah p) trivial) z<|by kernel_rfl
  ·have p14:=fun{sc F} (r:PS sc F)=>p7<|sg 0 c6<|r
   rcases aK h with⟨c13,h⟩|⟨c13,h⟩
   ·obtain⟨r15,br15,h⟩:=aw h
    obtain rfl:=lf h
    have z:=p14<|sg 0 c13<|sv (bF p)<|sv (bN p)<|aX (pH br15)<|en (aI (rP (.bool (r15==0)))<|trivial)
    exact bo O9 call192 func192 (c:=Pn) rfl (aI (ah p) trivial) z<|by kernel_rfl
   ·obtain rfl:=lf h
    have z:=p14<|sg 0 c13<|en (aI (rP (.bool true))<|trivial)
    exact bo O9 call192 func192 (c:=Pn) rfl (aI (ah p) trivial) z<|by kernel_rfl
noncomputable def MN:Code:=f171.body.getD .skip
def qk:List Nat:=[]
section
variable(p:aa)
def KD:ax:=aP 87 [(1,.eptr (ac p))] [.dead] []
def uX(o:Bool):ax:=aP 87 [(1,.eptr (ac p)),(3,.bool o)] [.dead] []
def pO:Option Bool:=
 if(p.Op==1)=true then
  some true
 else
  some (p.Op==2)
theorem Iq{x:Bool}(h:pO p=some x):aL Pg GE 0 (cA MN 6) (EX .normal (uX p x)) (KD p):=by
 have p2:=fun{sc F} (r:PS sc F)=>sv (aB p)<|sv (aC p)<|r
 rcases aK h with⟨c1,h⟩|⟨c1,h⟩
 ·obtain rfl:=lf h
  exact bE qk (p2<|sg 4 c1<|eF .normal (uX p true))<|by kernel_rfl
 ·obtain rfl:=lf h
  exact bE qk (p2<|sg 4 c1<|sv (aB p)<|sv (aC p)<|eF .normal (uX p (p.Op==2)))<|by kernel_rfl
end
section
variable(p:aa)(number:Bool)
def KE:ax:=aP 87 [(1,.eptr (ac p)),(3,.bool number)] [.dead] []
def dv(o:Bool):ax:=aP 87 [(1,.eptr (ac p)),(48,.bool o)] [.dead] []
def pP:Option Bool:=
 if(decide (p.Op<1))=true then
  some true
 else
  if(decide (p.Op>18))=true then
   some true
  else
   if (!(p.Name == ([]:ag))) = true then
    (rI p.Op).bind fun r10=>
    if(!r10)=true then
     some true
    else
     if(p.N !=0)=true then
      if(!number)=true then
       some true
      else
       (jQ p.Op (p.Kids.length:Int)).bind fun r17=>
       some (!r17)
     else
      (jQ p.Op (p.Kids.length:Int)).bind fun r18=>
      some (!r18)
   else
    if(p.N !=0)=true then
     if(!number)=true then
      some true
     else
      (jQ p.Op (p.Kids.length:Int)).bind fun r23=>
      some (!r23)
    else
     (jQ p.Op (p.Kids.length:Int)).bind fun r24=>
     some (!r24)
theorem Ir{x:Bool}(h:pP p number=some x):aL Pg GE 0 (cA MN 28) (EX .normal (dv p x)) (KE p number):=by
 have p5:=fun{sc F} (r:PS sc F)=>sv (aB p)<|sv (aC p)<|r
 rcases aK h with⟨c4,h⟩|⟨c4,h⟩
 ·obtain rfl:=lf h
  exact bE qk (p5<|sg 4 c4<|eF .normal (dv p true))<|by kernel_rfl
 ·have p7:=fun{sc F} (r:PS sc F)=>p5<|sg 4 c4<|sv (aB p)<|sv (aC p)<|r
  rcases aK h with⟨c6,h⟩|⟨c6,h⟩
  ·obtain rfl:=lf h
   exact bE qk (p7<|sg 9 c6<|eF .normal (dv p true))<|by kernel_rfl
  ·have p9:=fun{sc F} (r:PS sc F)=>p7<|sg 9 c6<|sv (bF p)<|sv (bN p)<|r
   rcases aK h with⟨c8,h⟩|⟨c8,h⟩
   ·obtain⟨r10,br10,h⟩:=aw h
    have p12:=fun{sc F} (r:PS sc F)=>p9<|sg 13 c8<|sv (aB p)<|sv (aC p)<|aX (Mw br10)<|r
    rcases aK h with⟨c11,h⟩|⟨c11,h⟩
    ·obtain rfl:=lf h
     exact bE qk (p12<|sg 20 c11<|eF .normal (dv p true))<|by kernel_rfl
    ·have p14:=fun{sc F} (r:PS sc F)=>p12<|sg 20 c11<|sv (bG p)<|sv (bO p)<|r
     rcases aK h with⟨c13,h⟩|⟨c13,h⟩
     ·have p16:=fun{sc F} (r:PS sc F)=>p14<|sg 24 c13<|r
      rcases aK h with⟨c15,h⟩|⟨c15,h⟩
      ·obtain rfl:=lf h
       exact bE qk (p16<|sg 29 c15<|eF .normal (dv p true))<|by kernel_rfl
      ·obtain⟨r17,br17,h⟩:=aw h
       obtain rfl:=lf h
       exact bE qk (p16<|sg 29 c15<|sv (aB p)<|sv (aC p)<|sv (aH p)<|sv (aJ p)<|b9 (aS.ln p.Kids)<|aX (tT br17)<|eF .normal (dv p (!r17)))<|by kernel_rfl
     ·obtain⟨r18,br18,h⟩:=aw h
      obtain rfl:=lf h
      exact bE qk (p14<|sg 24 c13<|sv (aB p)<|sv (aC p)<|sv (aH p)<|sv (aJ p)<|b9 (aS.ln p.Kids)<|aX (tT br18)<|eF .normal (dv p (!r18)))<|by kernel_rfl
   ·have p20:=fun{sc F} (r:PS sc F)=>p9<|sg 13 c8<|sv (bG p)<|sv (bO p)<|r
    rcases aK h with⟨c19,h⟩|⟨c19,h⟩
    ·have p22:=fun{sc F} (r:PS sc F)=>p20<|sg 24 c19<|r
     rcases aK h with⟨c21,h⟩|⟨c21,h⟩
     ·obtain rfl:=lf h
      exact bE qk (p22<|sg 29 c21<|eF .normal (dv p true))<|by kernel_rfl
     ·obtain⟨r23,br23,h⟩:=aw h
      obtain rfl:=lf h
      exact bE qk (p22<|sg 29 c21<|sv (aB p)<|sv (aC p)<|sv (aH p)<|sv (aJ p)<|b9 (aS.ln p.Kids)<|aX (tT br23)<|eF .normal (dv p (!r23)))<|by kernel_rfl
    ·obtain⟨r24,br24,h⟩:=aw h
     obtain rfl:=lf h
     exact bE qk (p20<|sg 24 c19<|sv (aB p)<|sv (aC p)<|sv (aH p)<|sv (aJ p)<|b9 (aS.ln p.Kids)<|aX (tT br24)<|eF .normal (dv p (!r24)))<|by kernel_rfl
end
section
variable(p:aa)
def KF:ax:=aP 87 [(1,.eptr (ac p))] [.dead] []
def eN(o:Bool):ax:=aP 87 [(1,.eptr (ac p)),(72,.bool o)] [.dead] []
def pQ:Option Bool:=
 if (p.Op == 1) = true then
  (HX p.N).bind fun r30=>
  if(!r30)=true then
   some true
  else
   if(p.Op==2)=true then
    if(decide (p.N<0))=true then
     some true
    else
     some (decide (p.N>1))
   else
    some false
 else
  if(p.Op==2)=true then
   if(decide (p.N<0))=true then
    some true
   else
    some (decide (p.N>1))
  else
   some false
theorem Is{x:Bool}(h:pQ p=some x):aL Pg GE 0 (cA MN 60) (EX .normal (eN p x)) (KF p):=by
 have p29:=fun{sc F} (r:PS sc F)=>sv (aB p)<|sv (aC p)<|r
 rcases aK h with⟨c28,h⟩|⟨c28,h⟩
 ·obtain⟨r30,br30,h⟩:=aw h
  have p32:=fun{sc F} (r:PS sc F)=>p29<|sg 4 c28<|sv (bG p)<|sv (bO p)<|aX (Q6 br30)<|r
  rcases aK h with⟨c31,h⟩|⟨c31,h⟩
  ·obtain rfl:=lf h
   exact bE qk (p32<|sg 10 c31<|eF .normal (eN p true))<|by kernel_rfl
  ·have p34:=fun{sc F} (r:PS sc F)=>p32<|sg 10 c31<|sv (aB p)<|sv (aC p)<|r
   rcases aK h with⟨c33,h⟩|⟨c33,h⟩
   ·have p36:=fun{sc F} (r:PS sc F)=>p34<|sg 14 c33<|sv (bG p)<|sv (bO p)<|r
    rcases aK h with⟨c35,h⟩|⟨c35,h⟩
    ·obtain rfl:=lf h
     exact bE qk (p36<|sg 18 c35<|eF .normal (eN p true))<|by kernel_rfl
    ·obtain rfl:=lf h
     exact bE qk (p36<|sg 18 c35<|sv (bG p)<|sv (bO p)<|eF .normal (eN p (decide (p.N>1))))<|by kernel_rfl
   ·obtain rfl:=lf h
    exact bE qk (p34<|sg 14 c33<|eF .normal (eN p false))<|by kernel_rfl
 ·have p38:=fun{sc F} (r:PS sc F)=>p29<|sg 4 c28<|sv (aB p)<|sv (aC p)<|r
  rcases aK h with⟨c37,h⟩|⟨c37,h⟩
  ·have p40:=fun{sc F} (r:PS sc F)=>p38<|sg 14 c37<|sv (bG p)<|sv (bO p)<|r
   rcases aK h with⟨c39,h⟩|⟨c39,h⟩
   ·obtain rfl:=lf h
    exact bE qk (p40<|sg 18 c39<|eF .normal (eN p true))<|by kernel_rfl
   ·obtain rfl:=lf h
    exact bE qk (p40<|sg 18 c39<|sv (bG p)<|sv (bO p)<|eF .normal (eN p (decide (p.N>1))))<|by kernel_rfl
  ·obtain rfl:=lf h
   exact bE qk (p38<|sg 14 c37<|eF .normal (eN p false))<|by kernel_rfl
end
section
variable(p:aa)
def KG:ax:=aP 87 [(1,.eptr (ac p))] [.dead] []
def uY(o:Bool):ax:=aP 87 [(86,.bool o)] [.dead] []
def tU:Option Bool:=
 if(p.Op==8)=true then
  (dt p.Kids 0).bind fun x49=>
  some (x49.Op !=1)
 else
  some false
theorem Iu{x:Bool}(h:tU p=some x):aL Pg GE 0 (cA MN 252) (EX .normal (uY x)) (KG p):=by
 have p48:=fun{sc F} (r:PS sc F)=>sv (aB p)<|sv (aC p)<|r
 rcases aK h with⟨c47,h⟩|⟨c47,h⟩
 ·obtain⟨x49,bx49,h⟩:=aw h
  obtain rfl:=lf h
  exact bE qk (p48<|sg 4 c47<|sv (aH p)<|sv (aJ p)<|sv (aS.ia (k:=.i64) bx49)<|sv (aB x49)<|sv (aC x49)<|eF .normal (uY (x49.Op !=1)))<|by kernel_rfl
 ·obtain rfl:=lf h
  exact bE qk (p48<|sg 4 c47<|eF .normal (uY false))<|by kernel_rfl
end
def vN(p:aa):Option Int:=
 (pO p).bind fun o3=>
 (pP p o3).bind fun o25=>
 if o25=true then
  some 1
 else
  (pQ p).bind fun o41=>
  if o41=true then
   some 2
  else
   (mt p).bind fun r44=>
   if(!r44)=true then
    some 3
   else
    (tU p).bind fun o50=>
    if o50=true then
     some 6
    else
     some 0
theorem NM{p:aa}{r:Int}(h:vN p=some r):CC Pg GE 171 [.agg (ac p)] (.int .i64 r) []:=by
 obtain⟨o3,bo3,h⟩:=aw h
 obtain⟨o25,bo25,h⟩:=aw h
 have p27:=fun{sc F} (r:PS sc F)=>se (bh p)<|jC 0<|cm (Iq p bo3)<|jC 1<|cm (Ir p o3 bo25)<|r
 rcases aK h with⟨c26,h⟩|⟨c26,h⟩
 ·obtain rfl:=lf h
  have z:=p27<|sg 0 c26<|en (aI (rP (.int .i64 1))<|trivial)
  exact bo qk call171 func171 (c:=MN) rfl (aI (ah p) trivial) z<|by kernel_rfl
 ·obtain⟨o41,bo41,h⟩:=aw h
  have p43:=fun{sc F} (r:PS sc F)=>p27<|sg 0 c26<|jC 1<|cm (Is p bo41)<|r
  rcases aK h with⟨c42,h⟩|⟨c42,h⟩
  ·obtain rfl:=lf h
   have z:=p43<|sg 0 c42<|en (aI (rP (.int .i64 2))<|trivial)
   exact bo qk call171 func171 (c:=MN) rfl (aI (ah p) trivial) z<|by kernel_rfl
  ·obtain⟨r44,br44,h⟩:=aw h
   have p46:=fun{sc F} (r:PS sc F)=>p43<|sg 0 c42<|sv (az p)<|aX (Kz br44)<|r
   rcases aK h with⟨c45,h⟩|⟨c45,h⟩
   ·obtain rfl:=lf h
    have z:=p46<|sg 0 c45<|en (aI (rP (.int .i64 3))<|trivial)
    exact bo qk call171 func171 (c:=MN) rfl (aI (ah p) trivial) z<|by kernel_rfl
   ·obtain⟨o50,bo50,h⟩:=aw h
    have p52:=fun{sc F} (r:PS sc F)=>p46<|sg 0 c45<|jC 1<|cm (Iu p bo50)<|r
    rcases aK h with⟨c51,h⟩|⟨c51,h⟩
    ·obtain rfl:=lf h
     have z:=p52<|sg 0 c51<|en (aI (rP (.int .i64 6))<|trivial)
     exact bo qk call171 func171 (c:=MN) rfl (aI (ah p) trivial) z<|by kernel_rfl
    ·obtain rfl:=lf h
     have z:=p52<|sg 0 c51<|en (aI (rP (.int .i64 0))<|trivial)
     exact bo qk call171 func171 (c:=MN) rfl (aI (ah p) trivial) z<|by kernel_rfl
end Go.Proofs.YtggeppllafbidaaGreatDoor
