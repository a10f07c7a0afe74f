/- PROVED: a part of the proof. Conditions: none. -/
import Derived.Test.YtggeppllafbidaaGreatDoorPkE13
noncomputable section
namespace Go.Proofs.YtggeppllafbidaaGreatDoor
open Go Go.Proofs.Tryz
set_option linter.unusedVariables false
set_option maxRecDepth 100000
noncomputable def Sf:Code:=f186.body.getD .skip
def Qg:List Nat:=[10,15,25]
section
variable(s:ag)(t7:Int)(out:waA)(begin:Int)(t8:Int)
def fK:ax:=aP 31 [(0,.str s),(3,sl cS out),(4,.int .i64 begin),(7,.int .i64 t7),(8,.int .i64 t8)] [] [((3,0),9)]
def og(o:waA×Int):ax:=aP 31 [(0,.str s),(3,sl cS o.1),(4,.int .i64 o.2)] [] [((3,0),9)]
def fL:Option ((waA×Int×Int)⊕((waA×Int))):=
 if(decide (t8<t7))=true then
  (gk s t8).bind fun c2=>
  if(c2==46)=true then
   (GA s (some begin) (some t8)).bind fun s5=>
   (app out ([s5]:List ag)).bind fun l6=>
   some (.inl (l6,bL (t8+1),bL (t8+1)))
  else
   some (.inl (out,begin,bL (t8+1)))
 else
  some (.inr (out,begin))
def rQ:Option ((waA×Int)):=loop (fun(zz:waA×Int×Int)=>fL s t7 zz.1 zz.2.1 zz.2.2) (out,begin,t8)
theorem Bg{y:(waA×Int×Int)⊕((waA×Int))}(h:fL s t7 out begin t8=some y):aL Pg GE 0 (cA Sf 247) (LQ (fun(zz:waA×Int×Int)=>fK s t7 zz.1 zz.2.1 zz.2.2) (fun _=>.exit 0) (og s) y) (fK s t7 out begin t8):=by
 rcases aJ h with⟨c1,h⟩|⟨c1,h⟩
 ·obtain⟨c2,bc2,h⟩:=ay h
  have p4:=fun{sc F} (r:PS sc F)=>sg 0 c1<|sv (eE (k:=.i64) underlying9 bc2)<|r
  rcases aJ h with⟨c3,h⟩|⟨c3,h⟩
  ·obtain⟨s5,bs5,h⟩:=ay h
   obtain⟨l6,bl6,h⟩:=ay h
   obtain rfl:=lf h
   exact pZ Qg (p4<|sg 0 c3<|sv (M5 underlying9 bs5)<|sv (bh.mk' (v:=PVal.str) D8 ([s5]:List ag) 1 (by kernel_rfl))<|sv (bh.ap bl6)<|eF .normal (fK s t7 l6 (bL (t8+1)) (bL (t8+1))))<|by kernel_rfl
  ·obtain rfl:=lf h
   exact pZ Qg (p4<|sg 0 c3<|eF .normal (fK s t7 out begin (bL (t8+1))))<|by kernel_rfl
 ·obtain rfl:=lf h
  have z:=sg 0 c1<|eF (.exit 0) (og s (out,begin))
  exact fG Qg (by intro hx;cases hx) z<|by kernel_rfl
theorem Db{x:(waA×Int)}(h:rQ s t7 out begin t8=some x):aL Pg GE 0 (.loop (cA Sf 247)) (EX (.exit 0) (og s x)) (fK s t7 out begin t8):=
 aL.loop (S:=fun(zz:waA×Int×Int)=>fK s t7 zz.1 zz.2.1 zz.2.2) (ex:=(fun _=>.exit 0)) (s:=(out,begin,t8)) h fun zz y hy=>Bg s t7 zz.1 zz.2.1 zz.2.2 hy
end
def wc(s:ag):Option waA:=
 (rQ s (s.length:Int) ([]:List ag) 0 0).bind fun o7=>
 (GA s (some o7.2) none).bind fun s8=>
 (app o7.1 ([s8]:List ag)).bind fun l9=>
 some l9
theorem Iw{s:ag}{r:waA}(h:wc s=some r):CC Pg GE 186 [.str s] (sl cS r) [(0,9)]:=by
 obtain⟨o7,bo7,h⟩:=ay h
 obtain⟨s8,bs8,h⟩:=ay h
 obtain⟨l9,bl9,h⟩:=ay h
 obtain rfl:=lf h
 have z:=cf (eX underlying9 s)<|ct (Db s (s.length:Int) ([]:List ag) 0 0 bo7)<|sv (M5 underlying9 bs8)<|sv (bh.mk' (v:=PVal.str) D8 ([s8]:List ag) 1 (by kernel_rfl))<|sv (bh.ap bl9)<|en (aI (rP (sl cS l9))<|(aw ie l9))
 exact bo Qg call186 func186 (c:=Sf) rfl (aI trivial trivial) z<|by kernel_rfl
noncomputable def Tu:Code:=f142.body.getD .skip
def S5:List Nat:=[]
def iQ(c:Int):Option Bool:=
 if(decide (c>=97))=true then
  some (decide (c<=122))
 else
  some false
theorem iR{c:Int}{r:Bool}(h:iQ c=some r):CC Pg GE 142 [.int .u8 c] (.bool r) []:=by
 rcases aJ h with⟨c1,h⟩|⟨c1,h⟩
 ·obtain rfl:=lf h
  have z:=sg 3 c1<|en (aI (rP (.bool (decide (c<=122))))<|trivial)
  exact bo S5 call142 func142 (c:=Tu) rfl (aI trivial trivial) z<|by kernel_rfl
 ·obtain rfl:=lf h
  have z:=sg 3 c1<|en (aI (rP (.bool false))<|trivial)
  exact bo S5 call142 func142 (c:=Tu) rfl (aI trivial trivial) z<|by kernel_rfl
noncomputable def UJ:Code:=f170.body.getD .skip
def Uv:List Nat:=[]
def zt:Option waA:=
 some ([([97,110,100]:ag),([97,115,115,117,109,101]:ag),([98,111,111,108]:ag),([98,111,117,110,100]:ag),([99,97,115,101]:ag),([99,101,108,108]:ag),([99,108,97,115,115]:ag),([100,97,116,97]:ag),([100,101,102]:ag),([100,105,118]:ag),([101,108,115,101]:ag),([101,110,100]:ag),([102,97,108,115,101]:ag),([102,111,114,97,108,108]:ag),([102,117,110]:ag),([103,101,116]:ag),([105,102]:ag),([105,110]:ag),([105,110,115,116]:ag),([105,110,116]:ag),([105,110,118,97,114,105,97,110,116]:ag),([108,101,116]:ag),([109,97,116,99,104]:ag),([109,101,97,115,117,114,101]:ag),([109,101,116,114,105,99]:ag),([109,111,100]:ag),([109,117]:ag),([110,101,119]:ag),([110,111,116]:ag),([111,102]:ag),([111,114]:ag),([113,117,97,108]:ag),([114,101,102,108,101,99,116]:ag),([115,101,116]:ag),([116,104,101,110]:ag),([116,114,117,101]:ag),([117,115,101]:ag),([118]:ag),([118,97,108]:ag),([116,97,103]:ag),([119,104,101,114,101]:ag),([119,105,116,104]:ag)]:List ag)
theorem C9{r:waA}(h:zt=some r):CC Pg GE 170 [] (sl cS r) [(0,9)]:=by
 obtain rfl:=lf h
 have z:=sv (bh.mk' (v:=PVal.str) D8 ([([97,110,100]:ag),([97,115,115,117,109,101]:ag),([98,111,111,108]:ag),([98,111,117,110,100]:ag),([99,97,115,101]:ag),([99,101,108,108]:ag),([99,108,97,115,115]:ag),([100,97,116,97]:ag),([100,101,102]:ag),([100,105,118]:ag),([101,108,115,101]:ag),([101,110,100]:ag),([102,97,108,115,101]:ag),([102,111,114,97,108,108]:ag),([102,117,110]:ag),([103,101,116]:ag),([105,102]:ag),([105,110]:ag),([105,110,115,116]:ag),([105,110,116]:ag),([105,110,118,97,114,105,97,110,116]:ag),([108,101,116]:ag),([109,97,116,99,104]:ag),([109,101,97,115,117,114,101]:ag),([109,101,116,114,105,99]:ag),([109,111,100]:ag),([109,117]:ag),([110,101,119]:ag),([110,111,116]:ag),([111,102]:ag),([111,114]:ag),([113,117,97,108]:ag),([114,101,102,108,101,99,116]:ag),([115,101,116]:ag),([116,104,101,110]:ag),([116,114,117,101]:ag),([117,115,101]:ag),([118]:ag),([118,97,108]:ag),([116,97,103]:ag),([119,104,101,114,101]:ag),([119,105,116,104]:ag)]:List ag) 42 (by kernel_rfl))<|en (aI (rP (sl cS ([([97,110,100]:ag),([97,115,115,117,109,101]:ag),([98,111,111,108]:ag),([98,111,117,110,100]:ag),([99,97,115,101]:ag),([99,101,108,108]:ag),([99,108,97,115,115]:ag),([100,97,116,97]:ag),([100,101,102]:ag),([100,105,118]:ag),([101,108,115,101]:ag),([101,110,100]:ag),([102,97,108,115,101]:ag),([102,111,114,97,108,108]:ag),([102,117,110]:ag),([103,101,116]:ag),([105,102]:ag),([105,110]:ag),([105,110,115,116]:ag),([105,110,116]:ag),([105,110,118,97,114,105,97,110,116]:ag),([108,101,116]:ag),([109,97,116,99,104]:ag),([109,101,97,115,117,114,101]:ag),([109,101,116,114,105,99]:ag),([109,111,100]:ag),([109,117]:ag),([110,101,119]:ag),([110,111,116]:ag),([111,102]:ag),([111,114]:ag),([113,117,97,108]:ag),([114,101,102,108,101,99,116]:ag),([115,101,116]:ag),([116,104,101,110]:ag),([116,114,117,101]:ag),([117,115,101]:ag),([118]:ag),([118,97,108]:ag),([116,97,103]:ag),([119,104,101,114,101]:ag),([119,105,116,104]:ag)]:List ag)))<|(aw ie ([([97,110,100]:ag),([97,115,115,117,109,101]:ag),([98,111,111,108]:ag),([98,111,117,110,100]:ag),([99,97,115,101]:ag),([99,101,108,108]:ag),([99,108,97,115,115]:ag),([100,97,116,97]:ag),([100,101,102]:ag),([100,105,118]:ag),([101,108,115,101]:ag),([101,110,100]:ag),([102,97,108,115,101]:ag),([102,111,114,97,108,108]:ag),([102,117,110]:ag),([103,101,116]:ag),([105,102]:ag),([105,110]:ag),([105,110,115,116]:ag),([105,110,116]:ag),([105,110,118,97,114,105,97,110,116]:ag),([108,101,116]:ag),([109,97,116,99,104]:ag),([109,101,97,115,117,114,101]:ag),([109,101,116,114,105,99]:ag),([109,111,100]:ag),([109,117]:ag),([110,101,119]:ag),([110,111,116]:ag),([111,102]:ag),([111,114]:ag),([113,117,97,108]:ag),([114,101,102,108,101,99,116]:ag),([115,101,116]:ag),([116,104,101,110]:ag),([116,114,117,101]:ag),([117,115,101]:ag),([118]:ag),([118,97,108]:ag),([116,97,103]:ag),([119,104,101,114,101]:ag),([119,105,116,104]:ag)]:List ag)))
 exact bo Uv call170 func170 (c:=UJ) rfl trivial z<|by kernel_rfl
noncomputable def UH:Code:=f143.body.getD .skip
def Ut:List Nat:=[]
def px(s:ag):Option Bool:=
 zt.bind fun r1=>
 (n8 r1 s).bind fun r2=>
 some (decide (r2>=0))
theorem El{s:ag}{r:Bool}(h:px s=some r):CC Pg GE 143 [.str s] (.bool r) []:=by
 obtain⟨r1,br1,h⟩:=ay h
 obtain⟨r2,br2,h⟩:=ay h
 obtain rfl:=lf h
 have z:=aX (C9 br1)<|aX (ui br2)<|en (aI (rP (.bool (decide (r2>=0))))<|trivial)
 exact bo Ut call143 func143 (c:=UH) rfl (aI trivial trivial) z<|by kernel_rfl
noncomputable def Tv:Code:=f144.body.getD .skip
def S6:List Nat:=[]
def lD(c:Int):Option Bool:=
 if(decide (c>=48))=true then
  some (decide (c<=57))
 else
  some false
theorem nr{c:Int}{r:Bool}(h:lD c=some r):CC Pg GE 144 [.int .u8 c] (.bool r) []:=by
 rcases aJ h with⟨c1,h⟩|⟨c1,h⟩
 ·obtain rfl:=lf h
  have z:=sg 3 c1<|en (aI (rP (.bool (decide (c<=57))))<|trivial)
  exact bo S6 call144 func144 (c:=Tv) rfl (aI trivial trivial) z<|by kernel_rfl
 ·obtain rfl:=lf h
  have z:=sg 3 c1<|en (aI (rP (.bool false))<|trivial)
  exact bo S6 call144 func144 (c:=Tv) rfl (aI trivial trivial) z<|by kernel_rfl
noncomputable def Ll:Code:=f126.body.getD .skip
def Ba:List Nat:=[26]
section
variable(s:ag)
def Ei:ax:=aP 46 [(0,.str s)] [] []
def ij(o:Bool):ax:=aP 46 [(0,.str s),(21,.bool o)] [] []
def rJ:Option Bool:=
 if(decide ((s.length:Int)<1))=true then
  some true
 else
  if(decide ((s.length:Int)>24))=true then
   some true
  else
   (gk s 0).bind fun c4=>
   (iQ c4).bind fun r5=>
   if(!r5)=true then
    some true
   else
    (px s).bind fun r8=>
    some r8
theorem CZ{x:Bool}(h:rJ s=some x):aL Pg GE 0 (cA Ll 12) (EX .normal (ij s x)) (Ei s):=by
 rcases aJ h with⟨c1,h⟩|⟨c1,h⟩
 ·obtain rfl:=lf h
  exact bm Ba (cf (eX underlying9 s)<|sg 4 c1<|eF .normal (ij s true))<|by kernel_rfl
 ·have p3:=fun{sc F} (r:PS sc F)=>cf (eX underlying9 s)<|sg 4 c1<|cf (eX underlying9 s)<|r
  rcases aJ h with⟨c2,h⟩|⟨c2,h⟩
  ·obtain rfl:=lf h
   exact bm Ba (p3<|sg 9 c2<|eF .normal (ij s true))<|by kernel_rfl
  ·obtain⟨c4,bc4,h⟩:=ay h
   obtain⟨r5,br5,h⟩:=ay h
   have p7:=fun{sc F} (r:PS sc F)=>p3<|sg 9 c2<|sv (eE (k:=.i64) underlying9 bc4)<|aX (iR br5)<|r
   rcases aJ h with⟨c6,h⟩|⟨c6,h⟩
   ·obtain rfl:=lf h
    exact bm Ba (p7<|sg 15 c6<|eF .normal (ij s true))<|by kernel_rfl
   ·obtain⟨r8,br8,h⟩:=ay h
    obtain rfl:=lf h
    exact bm Ba (p7<|sg 15 c6<|aX (El br8)<|eF .normal (ij s r8))<|by kernel_rfl
end
section
variable(s:ag)(i:Int)(t23:Int)
def Ej:ax:=aP 46 [(0,.str s),(3,.int .i64 i),(23,.int .i64 t23),(24,.int .i64 i)] [] []
def kG(o:Bool):ax:=aP 46 [(0,.str s),(23,.int .i64 t23),(24,.int .i64 i),(44,.bool o)] [] []
def kF:Option Bool:=
 (gk s i).bind fun c13=>
 (iQ c13).bind fun r14=>
 if(!r14)=true then
  (gk s i).bind fun c17=>
  (lD c17).bind fun r18=>
  if(!r18)=true then
   (gk s i).bind fun c21=>
   some (c21 !=95)
  else
   some false
 else
  some false
theorem C0{x:Bool}(h:kF s i=some x):aL Pg GE 0 (cA Ll 7670) (EX .normal (kG s i t23 x)) (Ej s i t23):=by
 obtain⟨c13,bc13,h⟩:=ay h
 obtain⟨r14,br14,h⟩:=ay h
 have p16:=fun{sc F} (r:PS sc F)=>sv (eE (k:=.i64) underlying9 bc13)<|aX (iR br14)<|r
 rcases aJ h with⟨c15,h⟩|⟨c15,h⟩
 ·obtain⟨c17,bc17,h⟩:=ay h
  obtain⟨r18,br18,h⟩:=ay h
  have p20:=fun{sc F} (r:PS sc F)=>p16<|sg 6 c15<|sv (eE (k:=.i64) underlying9 bc17)<|aX (nr br18)<|r
  rcases aJ h with⟨c19,h⟩|⟨c19,h⟩
  ·obtain⟨c21,bc21,h⟩:=ay h
   obtain rfl:=lf h
   exact bm Ba (p20<|sg 13 c19<|sv (eE (k:=.i64) underlying9 bc21)<|eF .normal (kG s i t23 (c21 !=95)))<|by kernel_rfl
  ·obtain rfl:=lf h
   exact bm Ba (p20<|sg 13 c19<|eF .normal (kG s i t23 false))<|by kernel_rfl
 ·obtain rfl:=lf h
  exact bm Ba (p16<|sg 6 c15<|eF .normal (kG s i t23 false))<|by kernel_rfl
end
section
variable(s:ag)(t23:Int)(t24:Int)
def ik:ax:=aP 46 [(0,.str s),(23,.int .i64 t23),(24,.int .i64 t24)] [] []
def il(o:Unit⊕(Unit)):Exit:=match o with
 |(.inl _)=>.ret
 |(.inr _)=>.exit 0
def fI(o:Unit⊕(Unit)):ax:=match o with
 |(.inl o)=>aP 46 [(2,.int .i64 3)] [] []
 |(.inr o)=>aP 46 [] [] []
def ud:Option (Int⊕(Unit⊕(Unit))):=
 if(decide (t24<t23))=true then
  (kF s t24).bind fun o22=>
  if o22=true then
   some (.inr (.inl ()))
  else
   some (.inl (bL (t24+1)))
 else
  some (.inr (.inr ()))
def rK:Option (Unit⊕(Unit)):=loop (fun(zz:Int)=>ud s t23 zz) t24
theorem Bb{y:Int⊕(Unit⊕(Unit))}(h:ud s t23 t24=some y):aL Pg GE 0 (cA Ll 119) (LQ (fun(zz:Int)=>ik s t23 zz) il fI y) (ik s t23 t24):=by
 rcases aJ h with⟨c12,h⟩|⟨c12,h⟩
 ·obtain⟨o22,bo22,h⟩:=ay h
  have p24:=fun{sc F} (r:PS sc F)=>sg 0 c12<|iO 2<|ct (C0 s t24 t23 bo22)<|r
  rcases aJ h with⟨c23,h⟩|⟨c23,h⟩
  ·obtain rfl:=lf h
   have z:=p24<|sg 0 c23<|eF (il (.inl ())) (fI (.inl ()))
   exact fG Ba (by intro hx;cases hx) z<|by kernel_rfl
  ·obtain rfl:=lf h
   exact pZ Ba (p24<|sg 0 c23<|eF .normal (ik s t23 (bL (t24+1))))<|by kernel_rfl
 ·obtain rfl:=lf h
  have z:=sg 0 c12<|eF (il (.inr ())) (fI (.inr ()))
  exact fG Ba (by intro hx;cases hx) z<|by kernel_rfl
theorem th{x:Unit⊕(Unit)}(h:rK s t23 t24=some x):aL Pg GE 0 (.loop (cA Ll 119)) (EX (il x) (fI x)) (ik s t23 t24):=
 aL.loop (S:=fun(zz:Int)=>ik s t23 zz) (ex:=il) (s:=t24) h fun zz y hy=>Bb s t23 zz hy
end
def lC(s:ag):Option Int:=
 (rJ s).bind fun o9=>
 if o9=true then
  some 3
 else
  (rK s (s.length:Int) 0).bind fun o25=>match o25 with
  |(.inl o25)=>
   some 3
  |(.inr o25)=>
   some 0
theorem zp{s:ag}{r:Int}(h:lC s=some r):CC Pg GE 126 [.str s] (.int .i64 r) []:=by
 obtain⟨o9,bo9,h⟩:=ay h
 have p11:=fun{sc F} (r:PS sc F)=>iO 2<|ct (CZ s bo9)<|r
 rcases aJ h with⟨c10,h⟩|⟨c10,h⟩
 ·obtain rfl:=lf h
  have z:=p11<|sg 0 c10<|en (aI (rP (.int .i64 3))<|trivial)
  exact bo Ba call126 func126 (c:=Ll) rfl (aI trivial trivial) z<|by kernel_rfl
 ·obtain⟨o25,bo25,h⟩:=ay h
  rcases o25 with o25|o25
  ·obtain rfl:=lf h
   have z:=p11<|sg 0 c10<|cf (eX underlying9 s)<|ct (e:=.ret) (s1:=fI (.inl o25)) (th s (s.length:Int) 0 bo25)<|en (aI (rP (.int .i64 3))<|trivial)
   exact bo Ba call126 func126 (c:=Ll) rfl (aI trivial trivial) z<|by kernel_rfl
  ·obtain rfl:=lf h
   have z:=p11<|sg 0 c10<|cf (eX underlying9 s)<|ct (e:=.exit 0) (s1:=fI (.inr o25)) (th s (s.length:Int) 0 bo25)<|en (aI (rP (.int .i64 0))<|trivial)
   exact bo Ba call126 func126 (c:=Ll) rfl (aI trivial trivial) z<|by kernel_rfl
noncomputable def TE:Code:=f198.body.getD .skip
def Te:List Nat:=[]
def ko(c:Int):Option Bool:=
 if(decide (c>=65))=true then
  some (decide (c<=90))
 else
  some false
theorem oe{c:Int}{r:Bool}(h:ko c=some r):CC Pg GE 198 [.int .u8 c] (.bool r) []:=by
 rcases aJ h with⟨c1,h⟩|⟨c1,h⟩
 ·obtain rfl:=lf h
  have z:=sg 3 c1<|en (aI (rP (.bool (decide (c<=90))))<|trivial)
  exact bo Te call198 func198 (c:=TE) rfl (aI trivial trivial) z<|by kernel_rfl
 ·obtain rfl:=lf h
  have z:=sg 3 c1<|en (aI (rP (.bool false))<|trivial)
  exact bo Te call198 func198 (c:=TE) rfl (aI trivial trivial) z<|by kernel_rfl
noncomputable def Lp:Code:=f187.body.getD .skip
def wK:List Nat:=[38]
section
variable(s:ag)
def Em:ax:=aP 59 [(0,.str s)] [] []
def dO(o:Bool):ax:=aP 59 [(0,.str s),(33,.bool o)] [] []
def rL:Option Bool:=
 if(decide ((s.length:Int)<1))=true then
  some true
 else
  if(decide ((s.length:Int)>24))=true then
   some true
  else
   (gk s 0).bind fun c4=>
   (ko c4).bind fun r5=>
   if(!r5)=true then
    some true
   else
    if(s==([73,110,116]:ag))=true then
     some true
    else
     if(s==([66,111,111,108]:ag))=true then
      some true
     else
      if(s==([67,101,108,108]:ag))=true then
       some true
      else
       some (s==([70,117,110]:ag))
theorem C5{x:Bool}(h:rL s=some x):aL Pg GE 0 (cA Lp 12) (EX .normal (dO s x)) (Em s):=by
 rcases aJ h with⟨c1,h⟩|⟨c1,h⟩
 ·obtain rfl:=lf h
  exact bm wK (cf (eX underlying9 s)<|sg 4 c1<|eF .normal (dO s true))<|by kernel_rfl
 ·have p3:=fun{sc F} (r:PS sc F)=>cf (eX underlying9 s)<|sg 4 c1<|cf (eX underlying9 s)<|r
  rcases aJ h with⟨c2,h⟩|⟨c2,h⟩
  ·obtain rfl:=lf h
   exact bm wK (p3<|sg 9 c2<|eF .normal (dO s true))<|by kernel_rfl
  ·obtain⟨c4,bc4,h⟩:=ay h
   obtain⟨r5,br5,h⟩:=ay h
   have p7:=fun{sc F} (r:PS sc F)=>p3<|sg 9 c2<|sv (eE (k:=.i64) underlying9 bc4)<|aX (oe br5)<|r
   rcases aJ h with⟨c6,h⟩|⟨c6,h⟩
   ·obtain rfl:=lf h
    exact bm wK (p7<|sg 15 c6<|eF .normal (dO s true))<|by kernel_rfl
   ·have p9:=fun{sc F} (r:PS sc F)=>p7<|sg 15 c6<|r
    rcases aJ h with⟨c8,h⟩|⟨c8,h⟩
    ·obtain rfl:=lf h
     exact bm wK (p9<|sg 19 c8<|eF .normal (dO s true))<|by kernel_rfl
    ·have p11:=fun{sc F} (r:PS sc F)=>p9<|sg 19 c8<|r
     rcases aJ h with⟨c10,h⟩|⟨c10,h⟩
     ·obtain rfl:=lf h
      exact bm wK (p11<|sg 23 c10<|eF .normal (dO s true))<|by kernel_rfl
     ·have p13:=fun{sc F} (r:PS sc F)=>p11<|sg 23 c10<|r
      rcases aJ h with⟨c12,h⟩|⟨c12,h⟩
      ·obtain rfl:=lf h
       exact bm wK (p13<|sg 27 c12<|eF .normal (dO s true))<|by kernel_rfl
      ·obtain rfl:=lf h
       exact bm wK (p13<|sg 27 c12<|eF .normal (dO s (s==([70,117,110]:ag))))<|by kernel_rfl
end
section
variable(s:ag)(i:Int)(t35:Int)
def En:ax:=aP 59 [(0,.str s),(3,.int .i64 i),(35,.int .i64 t35),(36,.int .i64 i)] [] []
def kI(o:Bool):ax:=aP 59 [(0,.str s),(35,.int .i64 t35),(36,.int .i64 i),(57,.bool o)] [] []
def kH:Option Bool:=
 (gk s i).bind fun c18=>
 (iQ c18).bind fun r19=>
 if(!r19)=true then
  (gk s i).bind fun c22=>
  (ko c22).bind fun r23=>
  if(!r23)=true then
   (gk s i).bind fun c26=>
   (lD c26).bind fun r27=>
   some (!r27)
  else
   some false
 else
  some false
theorem C6{x:Bool}(h:kH s i=some x):aL Pg GE 0 (cA Lp 7670) (EX .normal (kI s i t35 x)) (En s i t35):=by
 obtain⟨c18,bc18,h⟩:=ay h
 obtain⟨r19,br19,h⟩:=ay h
 have p21:=fun{sc F} (r:PS sc F)=>sv (eE (k:=.i64) underlying9 bc18)<|aX (iR br19)<|r
 rcases aJ h with⟨c20,h⟩|⟨c20,h⟩
 ·obtain⟨c22,bc22,h⟩:=ay h
  obtain⟨r23,br23,h⟩:=ay h
  have p25:=fun{sc F} (r:PS sc F)=>p21<|sg 6 c20<|sv (eE (k:=.i64) underlying9 bc22)<|aX (oe br23)<|r
  rcases aJ h with⟨c24,h⟩|⟨c24,h⟩
  ·obtain⟨c26,bc26,h⟩:=ay h
   obtain⟨r27,br27,h⟩:=ay h
   obtain rfl:=lf h
   exact bm wK (p25<|sg 13 c24<|sv (eE (k:=.i64) underlying9 bc26)<|aX (nr br27)<|eF .normal (kI s i t35 (!r27)))<|by kernel_rfl
  ·obtain rfl:=lf h
   exact bm wK (p25<|sg 13 c24<|eF .normal (kI s i t35 false))<|by kernel_rfl
 ·obtain rfl:=lf h
  exact bm wK (p21<|sg 6 c20<|eF .normal (kI s i t35 false))<|by kernel_rfl
end
section
variable(s:ag)(t35:Int)(t36:Int)
def io:ax:=aP 59 [(0,.str s),(35,.int .i64 t35),(36,.int .i64 t36)] [] []
def ip(o:Unit⊕(Unit)):Exit:=match o with
 |(.inl _)=>.ret
 |(.inr _)=>.exit 0
def fJ(o:Unit⊕(Unit)):ax:=match o with
 |(.inl o)=>aP 59 [(2,.int .i64 3)] [] []
 |(.inr o)=>aP 59 [] [] []
def ul:Option (Int⊕(Unit⊕(Unit))):=
 if(decide (t36<t35))=true then
  (kH s t36).bind fun o28=>
  if o28=true then
   some (.inr (.inl ()))
  else
   some (.inl (bL (t36+1)))
 else
  some (.inr (.inr ()))
def rM:Option (Unit⊕(Unit)):=loop (fun(zz:Int)=>ul s t35 zz) t36
theorem Bd{y:Int⊕(Unit⊕(Unit))}(h:ul s t35 t36=some y):aL Pg GE 0 (cA Lp 119) (LQ (fun(zz:Int)=>io s t35 zz) ip fJ y) (io s t35 t36):=by
 rcases aJ h with⟨c17,h⟩|⟨c17,h⟩
 ·obtain⟨o28,bo28,h⟩:=ay h
  have p30:=fun{sc F} (r:PS sc F)=>sg 0 c17<|iO 2<|ct (C6 s t36 t35 bo28)<|r
  rcases aJ h with⟨c29,h⟩|⟨c29,h⟩
  ·obtain rfl:=lf h
   have z:=p30<|sg 0 c29<|eF (ip (.inl ())) (fJ (.inl ()))
   exact fG wK (by intro hx;cases hx) z<|by kernel_rfl
  ·obtain rfl:=lf h
   exact pZ wK (p30<|sg 0 c29<|eF .normal (io s t35 (bL (t36+1))))<|by kernel_rfl
 ·obtain rfl:=lf h
  have z:=sg 0 c17<|eF (ip (.inr ())) (fJ (.inr ()))
  exact fG wK (by intro hx;cases hx) z<|by kernel_rfl
theorem ti{x:Unit⊕(Unit)}(h:rM s t35 t36=some x):aL Pg GE 0 (.loop (cA Lp 119)) (EX (ip x) (fJ x)) (io s t35 t36):=
 aL.loop (S:=fun(zz:Int)=>io s t35 zz) (ex:=ip) (s:=t36) h fun zz y hy=>Bd s t35 zz hy
end
def wb(s:ag):Option Int:=
 (rL s).bind fun o14=>
 if o14=true then
  some 3
 else
  (rM s (s.length:Int) 0).bind fun o31=>match o31 with
  |(.inl o31)=>
   some 3
  |(.inr o31)=>
   some 0
theorem Iv{s:ag}{r:Int}(h:wb s=some r):CC Pg GE 187 [.str s] (.int .i64 r) []:=by
 obtain⟨o14,bo14,h⟩:=ay h
 have p16:=fun{sc F} (r:PS sc F)=>iO 2<|ct (C5 s bo14)<|r
 rcases aJ h with⟨c15,h⟩|⟨c15,h⟩
 ·obtain rfl:=lf h
  have z:=p16<|sg 0 c15<|en (aI (rP (.int .i64 3))<|trivial)
  exact bo wK call187 func187 (c:=Lp) rfl (aI trivial trivial) z<|by kernel_rfl
 ·obtain⟨o31,bo31,h⟩:=ay h
  rcases o31 with o31|o31
  ·obtain rfl:=lf h
   have z:=p16<|sg 0 c15<|cf (eX underlying9 s)<|ct (e:=.ret) (s1:=fJ (.inl o31)) (ti s (s.length:Int) 0 bo31)<|en (aI (rP (.int .i64 3))<|trivial)
   exact bo wK call187 func187 (c:=Lp) rfl (aI trivial trivial) z<|by kernel_rfl
  ·obtain rfl:=lf h
   have z:=p16<|sg 0 c15<|cf (eX underlying9 s)<|ct (e:=.exit 0) (s1:=fJ (.inr o31)) (ti s (s.length:Int) 0 bo31)<|en (aI (rP (.int .i64 0))<|trivial)
   exact bo wK call187 func187 (c:=Lp) rfl (aI trivial trivial) z<|by kernel_rfl
noncomputable def Lq:Code:=f188.body.getD .skip
def zm:List Nat:=[21]
section
variable(p:ag)
def GG:ax:=aP 65 [(0,.str p)] [] []
def qp(o:Bool):ax:=aP 65 [(0,.str p),(13,.bool o)] [] []
def um:Option Bool:=
 if(decide ((p.length:Int)<1))=true then
  some true
 else
  some (decide ((p.length:Int)>24))
theorem Eo{x:Bool}(h:um p=some x):aL Pg GE 0 (cA Lq 12) (EX .normal (qp p x)) (GG p):=by
 rcases aJ h with⟨c1,h⟩|⟨c1,h⟩
 ·obtain rfl:=lf h
  exact bm zm (cf (eX underlying9 p)<|sg 4 c1<|eF .normal (qp p true))<|by kernel_rfl
 ·obtain rfl:=lf h
  exact bm zm (cf (eX underlying9 p)<|sg 4 c1<|cf (eX underlying9 p)<|eF .normal (qp p (decide ((p.length:Int)>24))))<|by kernel_rfl
end
section
variable(p:ag)(plain:Bool)(word:Bool)(i:Int)(t18:Int)
def GH:ax:=aP 65 [(0,.str p),(3,.bool plain),(4,.bool word),(5,.int .i64 i),(18,.int .i64 t18),(19,.int .i64 i)] [] []
def jp(o:Bool):ax:=aP 65 [(0,.str p),(3,.bool o),(4,.bool word),(5,.int .i64 i),(18,.int .i64 t18),(19,.int .i64 i)] [] []
def pz:Option Bool:=
 if plain=true then
  (gk p i).bind fun c9=>
  (iQ c9).bind fun r10=>
  if r10=true then
   some true
  else
   (gk p i).bind fun c13=>
   (ko c13).bind fun r14=>
   if r14=true then
    some true
   else
    (gk p i).bind fun c17=>
    (lD c17).bind fun r18=>
    some r18
 else
  some false
theorem Ep{x:Bool}(h:pz p plain i=some x):aL Pg GE 0 (cA Lq 32246) (EX .normal (jp p word i t18 x)) (GH p plain word i t18):=by
 rcases aJ h with⟨c8,h⟩|⟨c8,h⟩
 ·obtain⟨c9,bc9,h⟩:=ay h
  obtain⟨r10,br10,h⟩:=ay h
  have p12:=fun{sc F} (r:PS sc F)=>sg 2 c8<|sv (eE (k:=.i64) underlying9 bc9)<|aX (iR br10)<|r
  rcases aJ h with⟨c11,h⟩|⟨c11,h⟩
  ·obtain rfl:=lf h
   exact bm zm (p12<|sg 7 c11<|eF .normal (jp p word i t18 true))<|by kernel_rfl
  ·obtain⟨c13,bc13,h⟩:=ay h
   obtain⟨r14,br14,h⟩:=ay h
   have p16:=fun{sc F} (r:PS sc F)=>p12<|sg 7 c11<|sv (eE (k:=.i64) underlying9 bc13)<|aX (oe br14)<|r
   rcases aJ h with⟨c15,h⟩|⟨c15,h⟩
   ·obtain rfl:=lf h
    exact bm zm (p16<|sg 13 c15<|eF .normal (jp p word i t18 true))<|by kernel_rfl
   ·obtain⟨c17,bc17,h⟩:=ay h
    obtain⟨r18,br18,h⟩:=ay h
    obtain rfl:=lf h
    exact bm zm (p16<|sg 13 c15<|sv (eE (k:=.i64) underlying9 bc17)<|aX (nr br18)<|eF .normal (jp p word i t18 r18))<|by kernel_rfl
 ·obtain rfl:=lf h
  exact bm zm (sg 2 c8<|eF .normal (jp p word i t18 false))<|by kernel_rfl
end
section
variable(p:ag)(t18:Int)(plain:Bool)(word:Bool)(t19:Int)
def eB:ax:=aP 65 [(0,.str p),(3,.bool plain),(4,.bool word),(18,.int .i64 t18),(19,.int .i64 t19)] [] []
def qq(o:Bool×Bool):ax:=aP 65 [(3,.bool o.1),(4,.bool o.2)] [] []
def gS:Option ((Bool×Bool×Int)⊕((Bool×Bool))):=
 if (decide (t19 < t18)) = true then
  (pz p plain t19).bind fun o19=>
  if word=true then
   (gk p t19).bind fun c22=>
   (iQ c22).bind fun r23=>
   if r23=true then
    some (.inl (o19,true,bL (t19+1)))
   else
    (gk p t19).bind fun c26=>
    (lD c26).bind fun r27=>
    if r27=true then
     some (.inl (o19,true,bL (t19+1)))
    else
     (gk p t19).bind fun c30=>
     some (.inl (o19,c30==95,bL (t19+1)))
  else
   some (.inl (o19,false,bL (t19+1)))
 else
  some (.inr (plain,word))
def uo:Option ((Bool×Bool)):=loop (fun(zz:Bool×Bool×Int)=>gS p t18 zz.1 zz.2.1 zz.2.2) (plain,word,t19)
theorem Da{y:(Bool×Bool×Int)⊕((Bool×Bool))}(h:gS p t18 plain word t19=some y):aL Pg GE 0 (cA Lq 503) (LQ (fun(zz:Bool×Bool×Int)=>eB p t18 zz.1 zz.2.1 zz.2.2) (fun _=>.exit 0) qq y) (eB p t18 plain word t19):=by
 rcases aJ h with⟨c7,h⟩|⟨c7,h⟩
 ·obtain⟨o19,bo19,h⟩:=ay h
  have p21:=fun{sc F} (r:PS sc F)=>sg 0 c7<|iO 2<|ct (Ep p plain word t19 t18 bo19)<|r
  rcases aJ h with⟨c20,h⟩|⟨c20,h⟩
  ·obtain⟨c22,bc22,h⟩:=ay h
   obtain⟨r23,br23,h⟩:=ay h
   have p25:=fun{sc F} (r:PS sc F)=>p21<|sg 2 c20<|sv (eE (k:=.i64) underlying9 bc22)<|aX (iR br23)<|r
   rcases aJ h with⟨c24,h⟩|⟨c24,h⟩
   ·obtain rfl:=lf h
    exact pZ zm (p25<|sg 7 c24<|eF .normal (eB p t18 o19 true (bL (t19+1))))<|by kernel_rfl
   ·obtain⟨c26,bc26,h⟩:=ay h
    obtain⟨r27,br27,h⟩:=ay h
    have p29:=fun{sc F} (r:PS sc F)=>p25<|sg 7 c24<|sv (eE (k:=.i64) underlying9 bc26)<|aX (nr br27)<|r
    rcases aJ h with⟨c28,h⟩|⟨c28,h⟩
    ·obtain rfl:=lf h
     exact pZ zm (p29<|sg 13 c28<|eF .normal (eB p t18 o19 true (bL (t19+1))))<|by kernel_rfl
    ·obtain⟨c30,bc30,h⟩:=ay h
     obtain rfl:=lf h
     exact pZ zm (p29<|sg 13 c28<|sv (eE (k:=.i64) underlying9 bc30)<|eF .normal (eB p t18 o19 (c30==95) (bL (t19+1))))<|by kernel_rfl
  ·obtain rfl:=lf h
   exact pZ zm (p21<|sg 2 c20<|eF .normal (eB p t18 o19 false (bL (t19+1))))<|by kernel_rfl
 ·obtain rfl:=lf h
  have z:=sg 0 c7<|eF (.exit 0) (qq (plain,word))
  exact fG zm (by intro hx;cases hx) z<|by kernel_rfl
theorem Er{x:(Bool×Bool)}(h:uo p t18 plain word t19=some x):aL Pg GE 0 (.loop (cA Lq 503)) (EX (.exit 0) (qq x)) (eB p t18 plain word t19):=
 aL.loop (S:=fun(zz:Bool×Bool×Int)=>eB p t18 zz.1 zz.2.1 zz.2.2) (ex:=(fun _=>.exit 0)) (s:=(plain,word,t19)) h fun zz y hy=>Da p t18 zz.1 zz.2.1 zz.2.2 hy
end
def zu(p:ag):Option Bool:=
 (um p).bind fun o2=>
 if o2=true then
  some false
 else
  (gk p 0).bind fun c5=>
  (iQ c5).bind fun r6=>
  (uo p (p.length:Int) true r6 0).bind fun o31=>
  if o31.1=true then
   some true
  else
   some o31.2
theorem JS{p:ag}{r:Bool}(h:zu p=some r):CC Pg GE 188 [.str p] (.bool r) []:=by
 obtain⟨o2,bo2,h⟩:=ay h
 have p4:=fun{sc F} (r:PS sc F)=>iO 2<|ct (Eo p bo2)<|r
 rcases aJ h with⟨c3,h⟩|⟨c3,h⟩
 ·obtain rfl:=lf h
  have z:=p4<|sg 0 c3<|en (aI (rP (.bool false))<|trivial)
  exact bo zm call188 func188 (c:=Lq) rfl (aI trivial trivial) z<|by kernel_rfl
 ·obtain⟨c5,bc5,h⟩:=ay h
  obtain⟨r6,br6,h⟩:=ay h
  obtain⟨o31,bo31,h⟩:=ay h
  have p33:=fun{sc F} (r:PS sc F)=>p4<|sg 0 c3<|sv (eE (k:=.i64) underlying9 bc5)<|aX (iR br6)<|cf (eX underlying9 p)<|ct (Er p (p.length:Int) true r6 0 bo31)<|r
  rcases aJ h with⟨c32,h⟩|⟨c32,h⟩
  ·obtain rfl:=lf h
   have z:=p33<|sg 2 c32<|en (aI (rP (.bool true))<|trivial)
   exact bo zm call188 func188 (c:=Lq) rfl (aI trivial trivial) z<|by kernel_rfl
  ·obtain rfl:=lf h
   have z:=p33<|sg 2 c32<|en (aI (rP (.bool o31.2))<|trivial)
   exact bo zm call188 func188 (c:=Lq) rfl (aI trivial trivial) z<|by kernel_rfl
noncomputable def Ln:Code:=f169.body.getD .skip
def Ed:List Nat:=[]
section
variable(v:waA)
def GF:ax:=aP 45 [(3,sl cS v)] [] [((3,0),9)]
def jh(o:Bool):ax:=aP 45 [(3,sl cS v),(33,.bool o)] [] [((3,0),9)]
def pw:Option Bool:=
 (dT v 0).bind fun x3=>
 (lC x3).bind fun r4=>
 if (r4 != 0) = true then
  (dT v 0).bind fun x7=>
  (wb x7).bind fun r8=>
  if(r8 !=0)=true then
   (dT v 0).bind fun x11=>
   if(!(x11==([118]:ag)))=true then
    some true
   else
    some ((v.length:Int)==1)
  else
   some false
 else
  some false
theorem Ek{x:Bool}(h:pw v=some x):aL Pg GE 0 (cA Ln 60) (EX .normal (jh v x)) (GF v):=by
 obtain⟨x3,bx3,h⟩:=ay h
 obtain⟨r4,br4,h⟩:=ay h
 have p6:=fun{sc F} (r:PS sc F)=>sv (bh.ia (k:=.i64) bx3)<|sv (dB Cb (.str x3) [])<|aX (zp br4)<|r
 rcases aJ h with⟨c5,h⟩|⟨c5,h⟩
 ·obtain⟨x7,bx7,h⟩:=ay h
  obtain⟨r8,br8,h⟩:=ay h
  have p10:=fun{sc F} (r:PS sc F)=>p6<|sg 6 c5<|sv (bh.ia (k:=.i64) bx7)<|sv (dB Cb (.str x7) [])<|aX (Iv br8)<|r
  rcases aJ h with⟨c9,h⟩|⟨c9,h⟩
  ·obtain⟨x11,bx11,h⟩:=ay h
   have p13:=fun{sc F} (r:PS sc F)=>p10<|sg 13 c9<|sv (bh.ia (k:=.i64) bx11)<|sv (dB Cb (.str x11) [])<|r
   rcases aJ h with⟨c12,h⟩|⟨c12,h⟩
   ·obtain rfl:=lf h
    exact bm Ed (p13<|sg 18 c12<|eF .normal (jh v true))<|by kernel_rfl
   ·obtain rfl:=lf h
    exact bm Ed (p13<|sg 18 c12<|cf (bh.ln v)<|eF .normal (jh v ((v.length:Int)==1)))<|by kernel_rfl
  ·obtain rfl:=lf h
   exact bm Ed (p10<|sg 13 c9<|eF .normal (jh v false))<|by kernel_rfl
 ·obtain rfl:=lf h
  exact bm Ed (p6<|sg 6 c5<|eF .normal (jh v false))<|by kernel_rfl
end
section
variable(t35:waA)(t36:Int)(t37:Int)
def ji:ax:=aP 45 [(35,sl cS t35),(36,.int .i64 t36),(37,.int .i64 t37)] [] []
def jj(o:Unit⊕(Unit)):Exit:=match o with
 |(.inl _)=>.ret
 |(.inr _)=>.exit 0
def gP(o:Unit⊕(Unit)):ax:=match o with
 |(.inl o)=>aP 45 [(2,.int .i64 3)] [] []
 |(.inr o)=>aP 45 [] [] []
def xc:Option (Int⊕(Unit⊕(Unit))):=
 if(decide (t37<t36))=true then
  (dT t35 t37).bind fun x19=>
  (zu x19).bind fun r20=>
  if(!r20)=true then
   some (.inr (.inl ()))
  else
   some (.inl (bL (t37+1)))
 else
  some (.inr (.inr ()))
def ue:Option (Unit⊕(Unit)):=loop (fun(zz:Int)=>xc t35 t36 zz) t37
theorem C1{y:Int⊕(Unit⊕(Unit))}(h:xc t35 t36 t37=some y):aL Pg GE 0 (cA Ln 503) (LQ (fun(zz:Int)=>ji t35 t36 zz) jj gP y) (ji t35 t36 t37):=by
 rcases aJ h with⟨c18,h⟩|⟨c18,h⟩
 ·obtain⟨x19,bx19,h⟩:=ay h
  obtain⟨r20,br20,h⟩:=ay h
  have p22:=fun{sc F} (r:PS sc F)=>sg 0 c18<|sv (bh.ia (k:=.i64) bx19)<|sv (dB Cb (.str x19) [])<|aX (JS br20)<|r
  rcases aJ h with⟨c21,h⟩|⟨c21,h⟩
  ·obtain rfl:=lf h
   have z:=p22<|sg 0 c21<|eF (jj (.inl ())) (gP (.inl ()))
   exact fG Ed (by intro hx;cases hx) z<|by kernel_rfl
  ·obtain rfl:=lf h
   exact pZ Ed (p22<|sg 0 c21<|eF .normal (ji t35 t36 (bL (t37+1))))<|by kernel_rfl
 ·obtain rfl:=lf h
  have z:=sg 0 c18<|eF (jj (.inr ())) (gP (.inr ()))
  exact fG Ed (by intro hx;cases hx) z<|by kernel_rfl
theorem uf{x:Unit⊕(Unit)}(h:ue t35 t36 t37=some x):aL Pg GE 0 (.loop (cA Ln 503)) (EX (jj x) (gP x)) (ji t35 t36 t37):=
 aL.loop (S:=fun(zz:Int)=>ji t35 t36 zz) (ex:=jj) (s:=t37) h fun zz y hy=>C1 t35 t36 zz hy
end
def mr(s:ag):Option Int:=
 if(decide ((s.length:Int)>120))=true then
  some 3
 else
  (wc s).bind fun r2=>
  (pw r2).bind fun o14=>
  if o14=true then
   some 3
  else
   (GA r2 (some 1) none).bind fun l17=>
   (ue l17 (l17.length:Int) 0).bind fun o23=>match o23 with
   |(.inl o23)=>
    some 3
   |(.inr o23)=>
    some 0
theorem ms{s:ag}{r:Int}(h:mr s=some r):CC Pg GE 169 [.str s] (.int .i64 r) []:=by
 rcases aJ h with⟨c1,h⟩|⟨c1,h⟩
 ·obtain rfl:=lf h
  have z:=cf (eX underlying9 s)<|sg 0 c1<|en (aI (rP (.int .i64 3))<|trivial)
  exact bo Ed call169 func169 (c:=Ln) rfl (aI trivial trivial) z<|by kernel_rfl
 ·obtain⟨r2,br2,h⟩:=ay h
  obtain⟨o14,bo14,h⟩:=ay h
  have p16:=fun{sc F} (r:PS sc F)=>cf (eX underlying9 s)<|sg 0 c1<|aX (Iw br2)<|iO 1<|ct (Ek r2 bo14)<|r
  rcases aJ h with⟨c15,h⟩|⟨c15,h⟩
  ·obtain rfl:=lf h
   have z:=p16<|sg 0 c15<|en (aI (rP (.int .i64 3))<|trivial)
   exact bo Ed call169 func169 (c:=Ln) rfl (aI trivial trivial) z<|by kernel_rfl
  ·obtain⟨l17,bl17,h⟩:=ay h
   obtain⟨o23,bo23,h⟩:=ay h
   rcases o23 with o23|o23
   ·obtain rfl:=lf h
    have z:=p16<|sg 0 c15<|sv (bh.sc bl17)<|cf (bh.ln l17)<|ct (e:=.ret) (s1:=gP (.inl o23)) (uf l17 (l17.length:Int) 0 bo23)<|en (aI (rP (.int .i64 3))<|trivial)
    exact bo Ed call169 func169 (c:=Ln) rfl (aI trivial trivial) z<|by kernel_rfl
   ·obtain rfl:=lf h
    have z:=p16<|sg 0 c15<|sv (bh.sc bl17)<|cf (bh.ln l17)<|ct (e:=.exit 0) (s1:=gP (.inr o23)) (uf l17 (l17.length:Int) 0 bo23)<|en (aI (rP (.int .i64 0))<|trivial)
    exact bo Ed call169 func169 (c:=Ln) rfl (aI trivial trivial) z<|by kernel_rfl
noncomputable def Sa:Code:=f141.body.getD .skip
def RP:List Nat:=[]
def qL(s:ag)(capital:Bool):Option Bool:=
 (mr s).bind fun r1=>
 if(r1==0)=true then
  (gk s 0).bind fun c3=>
  if(decide (c3>=65))=true then
   (gk s 0).bind fun c6=>
   some ((decide (c6<=90))==capital)
  else
   some (false==capital)
 else
  some false
theorem uL{s:ag}{capital:Bool}{r:Bool}(h:qL s capital=some r):CC Pg GE 141 [.str s,.bool capital] (.bool r) []:=by
 obtain⟨r1,br1,h⟩:=ay h
 rcases aJ h with⟨c2,h⟩|⟨c2,h⟩
 ·obtain⟨c3,bc3,h⟩:=ay h
  have p5:=fun{sc F} (r:PS sc F)=>aX (ms br1)<|sg 4 c2<|sv (eE (k:=.i64) underlying9 bc3)<|r
  rcases aJ h with⟨c4,h⟩|⟨c4,h⟩
  ·obtain⟨c6,bc6,h⟩:=ay h
   obtain rfl:=lf h
   have z:=p5<|sg 8 c4<|sv (eE (k:=.i64) underlying9 bc6)<|en (aI (rP (.bool ((decide (c6<=90))==capital)))<|trivial)
   exact bo RP call141 func141 (c:=Sa) rfl (aI trivial (aI trivial trivial)) z<|by kernel_rfl
  ·obtain rfl:=lf h
   have z:=p5<|sg 8 c4<|en (aI (rP (.bool (false==capital)))<|trivial)
   exact bo RP call141 func141 (c:=Sa) rfl (aI trivial (aI trivial trivial)) z<|by kernel_rfl
 ·obtain rfl:=lf h
  have z:=aX (ms br1)<|sg 4 c2<|en (aI (rP (.bool false))<|trivial)
  exact bo RP call141 func141 (c:=Sa) rfl (aI trivial (aI trivial trivial)) z<|by kernel_rfl
noncomputable def IV:Code:=f125.body.getD .skip
def fH:List Nat:=[]
section
variable(t:ae)
def G0:ax:=aP 113 [(1,.eptr (af t))] [.dead] []
def aY(o:Bool):ax:=aP 113 [(1,.eptr (af t)),(52,.bool o)] [.dead] []
def uO:Option Bool:=
 if(decide (t.Op<1))=true then
  some true
 else
  if(decide (t.Op>6))=true then
   some true
  else
   if (!(t.Name == ([]:ag))) = true then
    if (t.Op != 4) = true then
     if(t.Op !=5)=true then
      some true
     else
      if (decide ((t.Args.length:Int) > 0)) = true then
       if (t.Op != 4) = true then
        if(t.Op !=6)=true then
         some true
        else
         if(decide ((t.Names.length:Int)>0))=true then
          some (t.Op !=6)
         else
          some false
       else
        if(decide ((t.Names.length:Int)>0))=true then
         some (t.Op !=6)
        else
         some false
      else
       if(decide ((t.Names.length:Int)>0))=true then
        some (t.Op !=6)
       else
        some false
    else
     if (decide ((t.Args.length:Int) > 0)) = true then
      if (t.Op != 4) = true then
       if(t.Op !=6)=true then
        some true
       else
        if(decide ((t.Names.length:Int)>0))=true then
         some (t.Op !=6)
        else
         some false
      else
       if(decide ((t.Names.length:Int)>0))=true then
        some (t.Op !=6)
       else
        some false
     else
      if(decide ((t.Names.length:Int)>0))=true then
       some (t.Op !=6)
      else
       some false
   else
    if (decide ((t.Args.length:Int) > 0)) = true then
     if (t.Op != 4) = true then
      if(t.Op !=6)=true then
       some true
      else
       if(decide ((t.Names.length:Int)>0))=true then
        some (t.Op !=6)
       else
        some false
     else
      if(decide ((t.Names.length:Int)>0))=true then
       some (t.Op !=6)
      else
       some false
    else
     if(decide ((t.Names.length:Int)>0))=true then
      some (t.Op !=6)
     else
      some false
theorem EL{x:Bool}(h:uO t=some x):aL Pg GE 0 (cA IV 12) (EX .normal (aY t x)) (G0 t):=by
 have p2:=fun{sc F} (r:PS sc F)=>sv (aq t)<|sv (au t)<|r
 rcases aJ h with⟨c1,h⟩|⟨c1,h⟩
 ·obtain rfl:=lf h
  exact bm fH (p2<|sg 4 c1<|eF .normal (aY t true))<|by kernel_rfl
 ·have p4:=fun{sc F} (r:PS sc F)=>p2<|sg 4 c1<|sv (aq t)<|sv (au t)<|r
  rcases aJ h with⟨c3,h⟩|⟨c3,h⟩
  ·obtain rfl:=lf h
   exact bm fH (p4<|sg 9 c3<|eF .normal (aY t true))<|by kernel_rfl
  ·have p6:=fun{sc F} (r:PS sc F)=>p4<|sg 9 c3<|sv (ch t)<|sv (cn t)<|r
   rcases aJ h with⟨c5,h⟩|⟨c5,h⟩
   ·have p8:=fun{sc F} (r:PS sc F)=>p6<|sg 13 c5<|sv (aq t)<|sv (au t)<|r
    rcases aJ h with⟨c7,h⟩|⟨c7,h⟩
    ·have p10:=fun{sc F} (r:PS sc F)=>p8<|sg 18 c7<|sv (aq t)<|sv (au t)<|r
     rcases aJ h with⟨c9,h⟩|⟨c9,h⟩
     ·obtain rfl:=lf h
      exact bm fH (p10<|sg 24 c9<|eF .normal (aY t true))<|by kernel_rfl
     ·have p12:=fun{sc F} (r:PS sc F)=>p10<|sg 24 c9<|sv (aA t)<|sv (aB t)<|cf (cO.ln t.Args)<|r
      rcases aJ h with⟨c11,h⟩|⟨c11,h⟩
      ·have p14:=fun{sc F} (r:PS sc F)=>p12<|sg 29 c11<|sv (aq t)<|sv (au t)<|r
       rcases aJ h with⟨c13,h⟩|⟨c13,h⟩
       ·have p16:=fun{sc F} (r:PS sc F)=>p14<|sg 34 c13<|sv (aq t)<|sv (au t)<|r
        rcases aJ h with⟨c15,h⟩|⟨c15,h⟩
        ·obtain rfl:=lf h
         exact bm fH (p16<|sg 40 c15<|eF .normal (aY t true))<|by kernel_rfl
        ·have p18:=fun{sc F} (r:PS sc F)=>p16<|sg 40 c15<|sv (aN t)<|sv (aO t)<|cf (bh.ln t.Names)<|r
         rcases aJ h with⟨c17,h⟩|⟨c17,h⟩
         ·obtain rfl:=lf h
          exact bm fH (p18<|sg 45 c17<|sv (aq t)<|sv (au t)<|eF .normal (aY t (t.Op !=6)))<|by kernel_rfl
         ·obtain rfl:=lf h
          exact bm fH (p18<|sg 45 c17<|eF .normal (aY t false))<|by kernel_rfl
       ·have p20:=fun{sc F} (r:PS sc F)=>p14<|sg 34 c13<|sv (aN t)<|sv (aO t)<|cf (bh.ln t.Names)<|r
        rcases aJ h with⟨c19,h⟩|⟨c19,h⟩
        ·obtain rfl:=lf h
         exact bm fH (p20<|sg 45 c19<|sv (aq t)<|sv (au t)<|eF .normal (aY t (t.Op !=6)))<|by kernel_rfl
        ·obtain rfl:=lf h
         exact bm fH (p20<|sg 45 c19<|eF .normal (aY t false))<|by kernel_rfl
      ·have p22:=fun{sc F} (r:PS sc F)=>p12<|sg 29 c11<|sv (aN t)<|sv (aO t)<|cf (bh.ln t.Names)<|r
       rcases aJ h with⟨c21,h⟩|⟨c21,h⟩
       ·obtain rfl:=lf h
        exact bm fH (p22<|sg 45 c21<|sv (aq t)<|sv (au t)<|eF .normal (aY t (t.Op !=6)))<|by kernel_rfl
       ·obtain rfl:=lf h
        exact bm fH (p22<|sg 45 c21<|eF .normal (aY t false))<|by kernel_rfl
    ·have p24:=fun{sc F} (r:PS sc F)=>p8<|sg 18 c7<|sv (aA t)<|sv (aB t)<|cf (cO.ln t.Args)<|r
     rcases aJ h with⟨c23,h⟩|⟨c23,h⟩
     ·have p26:=fun{sc F} (r:PS sc F)=>p24<|sg 29 c23<|sv (aq t)<|sv (au t)<|r
      rcases aJ h with⟨c25,h⟩|⟨c25,h⟩
      ·have p28:=fun{sc F} (r:PS sc F)=>p26<|sg 34 c25<|sv (aq t)<|sv (au t)<|r
       rcases aJ h with⟨c27,h⟩|⟨c27,h⟩
       ·obtain rfl:=lf h
        exact bm fH (p28<|sg 40 c27<|eF .normal (aY t true))<|by kernel_rfl
       ·have p30:=fun{sc F} (r:PS sc F)=>p28<|sg 40 c27<|sv (aN t)<|sv (aO t)<|cf (bh.ln t.Names)<|r
        rcases aJ h with⟨c29,h⟩|⟨c29,h⟩
        ·obtain rfl:=lf h
         exact bm fH (p30<|sg 45 c29<|sv (aq t)<|sv (au t)<|eF .normal (aY t (t.Op !=6)))<|by kernel_rfl
        ·obtain rfl:=lf h
         exact bm fH (p30<|sg 45 c29<|eF .normal (aY t false))<|by kernel_rfl
      ·have p32:=fun{sc F} (r:PS sc F)=>p26<|sg 34 c25<|sv (aN t)<|sv (aO t)<|cf (bh.ln t.Names)<|r
       rcases aJ h with⟨c31,h⟩|⟨c31,h⟩
       ·obtain rfl:=lf h
        exact bm fH (p32<|sg 45 c31<|sv (aq t)<|sv (au t)<|eF .normal (aY t (t.Op !=6)))<|by kernel_rfl
       ·obtain rfl:=lf h
        exact bm fH (p32<|sg 45 c31<|eF .normal (aY t false))<|by kernel_rfl
     ·have p34:=fun{sc F} (r:PS sc F)=>p24<|sg 29 c23<|sv (aN t)<|sv (aO t)<|cf (bh.ln t.Names)<|r
      rcases aJ h with⟨c33,h⟩|⟨c33,h⟩
      ·obtain rfl:=lf h
       exact bm fH (p34<|sg 45 c33<|sv (aq t)<|sv (au t)<|eF .normal (aY t (t.Op !=6)))<|by kernel_rfl
      ·obtain rfl:=lf h
       exact bm fH (p34<|sg 45 c33<|eF .normal (aY t false))<|by kernel_rfl
   ·have p36:=fun{sc F} (r:PS sc F)=>p6<|sg 13 c5<|sv (aA t)<|sv (aB t)<|cf (cO.ln t.Args)<|r
    rcases aJ h with⟨c35,h⟩|⟨c35,h⟩
    ·have p38:=fun{sc F} (r:PS sc F)=>p36<|sg 29 c35<|sv (aq t)<|sv (au t)<|r
     rcases aJ h with⟨c37,h⟩|⟨c37,h⟩
     ·have p40:=fun{sc F} (r:PS sc F)=>p38<|sg 34 c37<|sv (aq t)<|sv (au t)<|r
      rcases aJ h with⟨c39,h⟩|⟨c39,h⟩
      ·obtain rfl:=lf h
       exact bm fH (p40<|sg 40 c39<|eF .normal (aY t true))<|by kernel_rfl
      ·have p42:=fun{sc F} (r:PS sc F)=>p40<|sg 40 c39<|sv (aN t)<|sv (aO t)<|cf (bh.ln t.Names)<|r
       rcases aJ h with⟨c41,h⟩|⟨c41,h⟩
       ·obtain rfl:=lf h
        exact bm fH (p42<|sg 45 c41<|sv (aq t)<|sv (au t)<|eF .normal (aY t (t.Op !=6)))<|by kernel_rfl
       ·obtain rfl:=lf h
        exact bm fH (p42<|sg 45 c41<|eF .normal (aY t false))<|by kernel_rfl
     ·have p44:=fun{sc F} (r:PS sc F)=>p38<|sg 34 c37<|sv (aN t)<|sv (aO t)<|cf (bh.ln t.Names)<|r
      rcases aJ h with⟨c43,h⟩|⟨c43,h⟩
      ·obtain rfl:=lf h
       exact bm fH (p44<|sg 45 c43<|sv (aq t)<|sv (au t)<|eF .normal (aY t (t.Op !=6)))<|by kernel_rfl
      ·obtain rfl:=lf h
       exact bm fH (p44<|sg 45 c43<|eF .normal (aY t false))<|by kernel_rfl
    ·have p46:=fun{sc F} (r:PS sc F)=>p36<|sg 29 c35<|sv (aN t)<|sv (aO t)<|cf (bh.ln t.Names)<|r
     rcases aJ h with⟨c45,h⟩|⟨c45,h⟩
     ·obtain rfl:=lf h
      exact bm fH (p46<|sg 45 c45<|sv (aq t)<|sv (au t)<|eF .normal (aY t (t.Op !=6)))<|by kernel_rfl
     ·obtain rfl:=lf h
      exact bm fH (p46<|sg 45 c45<|eF .normal (aY t false))<|by kernel_rfl
end
section
variable(t:ae)
def G1:ax:=aP 113 [(1,.eptr (af t))] [.dead] []
def qA(o:Bool):ax:=aP 113 [(1,.eptr (af t)),(61,.bool o)] [.dead] []
def uP:Option Bool:=
 if(t.Op==4)=true then
  some (decide ((t.Args.length:Int)>6))
 else
  some false
theorem EM{x:Bool}(h:uP t=some x):aL Pg GE 0 (cA IV 28) (EX .normal (qA t x)) (G1 t):=by
 have p51:=fun{sc F} (r:PS sc F)=>sv (aq t)<|sv (au t)<|r
 rcases aJ h with⟨c50,h⟩|⟨c50,h⟩
 ·obtain rfl:=lf h
  exact bm fH (p51<|sg 4 c50<|sv (aA t)<|sv (aB t)<|cf (cO.ln t.Args)<|eF .normal (qA t (decide ((t.Args.length:Int)>6))))<|by kernel_rfl
 ·obtain rfl:=lf h
  exact bm fH (p51<|sg 4 c50<|eF .normal (qA t false))<|by kernel_rfl
end
section
variable(t:ae)
def G2:ax:=aP 113 [(1,.eptr (af t))] [.dead] []
def gX(o:Bool):ax:=aP 113 [(1,.eptr (af t)),(92,.bool o)] [.dead] []
def uQ:Option Bool:=
 if (t.Op == 6) = true then
  if(decide ((t.Args.length:Int)<2))=true then
   some true
  else
   if(decide ((t.Args.length:Int)>7))=true then
    some true
   else
    if(decide ((t.Names.length:Int)>0))=true then
     some ((t.Names.length:Int)!=(bL ((t.Args.length:Int) - 1)))
    else
     some false
 else
  some false
theorem EN{x:Bool}(h:uQ t=some x):aL Pg GE 0 (cA IV 60) (EX .normal (gX t x)) (G2 t):=by
 have p56:=fun{sc F} (r:PS sc F)=>sv (aq t)<|sv (au t)<|r
 rcases aJ h with⟨c55,h⟩|⟨c55,h⟩
 ·have p58:=fun{sc F} (r:PS sc F)=>p56<|sg 4 c55<|sv (aA t)<|sv (aB t)<|cf (cO.ln t.Args)<|r
  rcases aJ h with⟨c57,h⟩|⟨c57,h⟩
  ·obtain rfl:=lf h
   exact bm fH (p58<|sg 9 c57<|eF .normal (gX t true))<|by kernel_rfl
  ·have p60:=fun{sc F} (r:PS sc F)=>p58<|sg 9 c57<|sv (aA t)<|sv (aB t)<|cf (cO.ln t.Args)<|r
   rcases aJ h with⟨c59,h⟩|⟨c59,h⟩
   ·obtain rfl:=lf h
    exact bm fH (p60<|sg 15 c59<|eF .normal (gX t true))<|by kernel_rfl
   ·have p62:=fun{sc F} (r:PS sc F)=>p60<|sg 15 c59<|sv (aN t)<|sv (aO t)<|cf (bh.ln t.Names)<|r
    rcases aJ h with⟨c61,h⟩|⟨c61,h⟩
    ·obtain rfl:=lf h
     exact bm fH (p62<|sg 20 c61<|sv (aN t)<|sv (aO t)<|cf (bh.ln t.Names)<|sv (aA t)<|sv (aB t)<|cf (cO.ln t.Args)<|eF .normal (gX t ((t.Names.length:Int)!=(bL ((t.Args.length:Int) - 1)))))<|by kernel_rfl
    ·obtain rfl:=lf h
     exact bm fH (p62<|sg 20 c61<|eF .normal (gX t false))<|by kernel_rfl
 ·obtain rfl:=lf h
  exact bm fH (p56<|sg 4 c55<|eF .normal (gX t false))<|by kernel_rfl
end
section
variable(t:ae)
def G3:ax:=aP 113 [(1,.eptr (af t))] [.dead] []
def gY(o:Bool):ax:=aP 113 [(112,.bool o)] [.dead] []
def uR:Option Bool:=
 if (t.Op == 4) = true then
  (qL t.Name true).bind fun r68=>
  if(!r68)=true then
   some true
  else
   if(t.Op==5)=true then
    (qL t.Name false).bind fun r73=>
    some (!r73)
   else
    some false
 else
  if(t.Op==5)=true then
   (qL t.Name false).bind fun r76=>
   some (!r76)
  else
   some false
theorem EO{x:Bool}(h:uR t=some x):aL Pg GE 0 (cA IV 124) (EX .normal (gY x)) (G3 t):=by
 have p67:=fun{sc F} (r:PS sc F)=>sv (aq t)<|sv (au t)<|r
 rcases aJ h with⟨c66,h⟩|⟨c66,h⟩
 ·obtain⟨r68,br68,h⟩:=ay h
  have p70:=fun{sc F} (r:PS sc F)=>p67<|sg 4 c66<|sv (ch t)<|sv (cn t)<|aX (uL br68)<|r
  rcases aJ h with⟨c69,h⟩|⟨c69,h⟩
  ·obtain rfl:=lf h
   exact bm fH (p70<|sg 10 c69<|eF .normal (gY true))<|by kernel_rfl
  ·have p72:=fun{sc F} (r:PS sc F)=>p70<|sg 10 c69<|sv (aq t)<|sv (au t)<|r
   rcases aJ h with⟨c71,h⟩|⟨c71,h⟩
   ·obtain⟨r73,br73,h⟩:=ay h
    obtain rfl:=lf h
    exact bm fH (p72<|sg 14 c71<|sv (ch t)<|sv (cn t)<|aX (uL br73)<|eF .normal (gY (!r73)))<|by kernel_rfl
   ·obtain rfl:=lf h
    exact bm fH (p72<|sg 14 c71<|eF .normal (gY false))<|by kernel_rfl
 ·have p75:=fun{sc F} (r:PS sc F)=>p67<|sg 4 c66<|sv (aq t)<|sv (au t)<|r
  rcases aJ h with⟨c74,h⟩|⟨c74,h⟩
  ·obtain⟨r76,br76,h⟩:=ay h
   obtain rfl:=lf h
   exact bm fH (p75<|sg 14 c74<|sv (ch t)<|sv (cn t)<|aX (uL br76)<|eF .normal (gY (!r76)))<|by kernel_rfl
  ·obtain rfl:=lf h
   exact bm fH (p75<|sg 14 c74<|eF .normal (gY false))<|by kernel_rfl
end
def zx(t:ae):Option Int:=
 (uO t).bind fun o47=>
 if o47=true then
  some 1
 else
  (uP t).bind fun o52=>
  if o52=true then
   some 13
  else
   (uQ t).bind fun o63=>
   if o63=true then
    some 13
   else
    (uR t).bind fun o77=>
    if o77=true then
     some 3
    else
     some 0
theorem J0{t:ae}{r:Int}(h:zx t=some r):CC Pg GE 125 [.agg (af t)] (.int .i64 r) []:=by
 obtain⟨o47,bo47,h⟩:=ay h
 have p49:=fun{sc F} (r:PS sc F)=>se (bR t)<|iO 1<|ct (EL t bo47)<|r
 rcases aJ h with⟨c48,h⟩|⟨c48,h⟩
 ·obtain rfl:=lf h
  have z:=p49<|sg 0 c48<|en (aI (rP (.int .i64 1))<|trivial)
  exact bo fH call125 func125 (c:=IV) rfl (aI (al t) trivial) z<|by kernel_rfl
 ·obtain⟨o52,bo52,h⟩:=ay h
  have p54:=fun{sc F} (r:PS sc F)=>p49<|sg 0 c48<|iO 1<|ct (EM t bo52)<|r
  rcases aJ h with⟨c53,h⟩|⟨c53,h⟩
  ·obtain rfl:=lf h
   have z:=p54<|sg 0 c53<|en (aI (rP (.int .i64 13))<|trivial)
   exact bo fH call125 func125 (c:=IV) rfl (aI (al t) trivial) z<|by kernel_rfl
  ·obtain⟨o63,bo63,h⟩:=ay h
   have p65:=fun{sc F} (r:PS sc F)=>p54<|sg 0 c53<|iO 1<|ct (EN t bo63)<|r
   rcases aJ h with⟨c64,h⟩|⟨c64,h⟩
   ·obtain rfl:=lf h
    have z:=p65<|sg 0 c64<|en (aI (rP (.int .i64 13))<|trivial)
    exact bo fH call125 func125 (c:=IV) rfl (aI (al t) trivial) z<|by kernel_rfl
   ·obtain⟨o77,bo77,h⟩:=ay h
    have p79:=fun{sc F} (r:PS sc F)=>p65<|sg 0 c64<|iO 1<|ct (EO t bo77)<|r
    rcases aJ h with⟨c78,h⟩|⟨c78,h⟩
    ·obtain rfl:=lf h
     have z:=p79<|sg 0 c78<|en (aI (rP (.int .i64 3))<|trivial)
     exact bo fH call125 func125 (c:=IV) rfl (aI (al t) trivial) z<|by kernel_rfl
    ·obtain rfl:=lf h
     have z:=p79<|sg 0 c78<|en (aI (rP (.int .i64 0))<|trivial)
     exact bo fH call125 func125 (c:=IV) rfl (aI (al t) trivial) z<|by kernel_rfl
noncomputable def OH:Code:=f103.body.getD .skip
def Nc:List Nat:=[11,23]
section
variable(R110:sA)(t13:waC)(t14:Int)(t15:Int)
def jB:ax:=aP 25 [(13,sl af t13),(14,.int .i64 t14),(15,.int .i64 t15)] [.dead] []
def jC(o:Int⊕(Unit)):Exit:=match o with
 |(.inl _)=>.ret
 |(.inr _)=>.exit 0
def gW(o:Int⊕(Unit)):ax:=match o with
 |(.inl o)=>aP 25 [(2,.int .i64 o)] [.dead] []
 |(.inr o)=>aP 25 [] [.dead] []
def xf:Option (Int⊕(Int⊕(Unit))):=
 if(decide (t15<t14))=true then
  (dT t13 t15).bind fun x5=>
  (R110 x5).bind fun r6=>
  if(r6 !=0)=true then
   some (.inr (.inl r6))
  else
   some (.inl (bL (t15+1)))
 else
  some (.inr (.inr ()))
def uM:Option (Int⊕(Unit)):=loop (fun(zz:Int)=>xf R110 t13 t14 zz) t15
theorem Dk(hR110:yj R110){y:Int⊕(Int⊕(Unit))}(h:xf R110 t13 t14 t15=some y):aL Pg GE 0 (cA OH 119) (LQ (fun(zz:Int)=>jB t13 t14 zz) jC gW y) (jB t13 t14 t15):=by
 rcases aJ h with⟨c4,h⟩|⟨c4,h⟩
 ·obtain⟨x5,bx5,h⟩:=ay h
  obtain⟨r6,br6,h⟩:=ay h
  have p8:=fun{sc F} (r:PS sc F)=>sg 0 c4<|sv (cO.ia (k:=.i64) bx5)<|sv (aV x5)<|sx jc<|sx (cQ x5)<|sv (bw x5 [])<|aX (hR110 _ _ br6)<|r
  rcases aJ h with⟨c7,h⟩|⟨c7,h⟩
  ·obtain rfl:=lf h
   have z:=p8<|sg 0 c7<|pq 0 (jC (.inl r6)) (gW (.inl r6)) rfl (cG (aI trivial trivial)) (aI trivial trivial)
   exact oM (A:=Nc) mixed (by intro hx;cases hx) z<|by kernel_rfl
  ·obtain rfl:=lf h
   have z:=p8<|sg 0 c7<|pq 0 .normal (jB t13 t14 (bL (t15+1))) rfl (cG (aI (up (aw al t13)) (aI trivial (aI trivial trivial)))) (aI trivial trivial)
   exact cJ (A:=Nc) mixed z<|by kernel_rfl
 ·obtain rfl:=lf h
  have z:=sg 0 c4<|eF (jC (.inr ())) (gW (.inr ()))
  exact fG Nc (by intro hx;cases hx) z<|by kernel_rfl
theorem uN(hR110:yj R110){x:Int⊕(Unit)}(h:uM R110 t13 t14 t15=some x):aL Pg GE 0 (.loop (cA OH 119)) (EX (jC x) (gW x)) (jB t13 t14 t15):=
 aL.loop (S:=fun(zz:Int)=>jB t13 t14 zz) (ex:=jC) (s:=t15) h fun zz y hy=>Dk R110 t13 t14 zz hR110 hy
end
def sk(R110:sA)(t:ae):Option Int:=
 (zx t).bind fun r1=>
 if(r1 !=0)=true then
  some r1
 else
  (uM R110 t.Args (t.Args.length:Int) 0).bind fun o9=>match o9 with
  |(.inl o9)=>
   some o9
  |(.inr o9)=>
   some 0
theorem IJ(R110:sA)(hR110:yj R110){t:ae}{r:Int}(h:sk R110 t=some r):CC Pg GE 103 [.agg (af t)] (.int .i64 r) []:=by
 obtain⟨r1,br1,h⟩:=ay h
 have p3:=fun{sc F} (r:PS sc F)=>se (bR t)<|sv (aV t)<|aX (J0 br1)<|r
 rcases aJ h with⟨c2,h⟩|⟨c2,h⟩
 ·obtain rfl:=lf h
  have z:=p3<|sg 0 c2<|en (aI (rP (.int .i64 r1))<|trivial)
  exact bo Nc call103 func103 (c:=OH) rfl (aI (al t) trivial) z<|by kernel_rfl
 ·obtain⟨o9,bo9,h⟩:=ay h
  rcases o9 with o9|o9
  ·obtain rfl:=lf h
   have z:=p3<|sg 0 c2<|sv (aA t)<|sv (aB t)<|cf (cO.ln t.Args)<|ct (e:=.ret) (s1:=gW (.inl o9)) (uN R110 t.Args (t.Args.length:Int) 0 hR110 bo9)<|en (aI (rP (.int .i64 o9))<|trivial)
   exact bo Nc call103 func103 (c:=OH) rfl (aI (al t) trivial) z<|by kernel_rfl
  ·obtain rfl:=lf h
   have z:=p3<|sg 0 c2<|sv (aA t)<|sv (aB t)<|cf (cO.ln t.Args)<|ct (e:=.exit 0) (s1:=gW (.inr o9)) (uN R110 t.Args (t.Args.length:Int) 0 hR110 bo9)<|en (aI (rP (.int .i64 0))<|trivial)
   exact bo Nc call103 func103 (c:=OH) rfl (aI (al t) trivial) z<|by kernel_rfl
def yt:(ae->Option Int)->(ae)->Option Int:=fun(rec:ae->Option Int) (x:ae)=>sk (fun t=>rec t) x
def EK(t:ae):Option Int:=lH yt t
theorem JZ{t:ae}{r:Int}(h:EK t=some r):CC Pg GE 103 [.agg (af t)] (.int .i64 r) []:=
 cC (F:=yt) (M:=fun(x:ae) (r:Int)=>CC Pg GE 103 [.agg (af x)] (.int .i64 r) []) (fun rec hrec x r h=>IJ _ (fun t r h=>hrec t r h) h) h
noncomputable def VB:Code:=f62.body.getD .skip
def Vq:List Nat:=[]
def wh(t:ae):Option Int:=
 (Bk t).bind fun r1=>
 if(decide (r1>40))=true then
  some 8
 else
  (EK t).bind fun r4=>
  some r4
theorem IG{t:ae}{r:Int}(h:wh t=some r):CC Pg GE 62 [.agg (af t)] (.int .i64 r) []:=by
 obtain⟨r1,br1,h⟩:=ay h
 have p3:=fun{sc F} (r:PS sc F)=>se (bR t)<|sv (aV t)<|aX (IH br1)<|r
 rcases aJ h with⟨c2,h⟩|⟨c2,h⟩
 ·obtain rfl:=lf h
  have z:=p3<|sg 0 c2<|en (aI (rP (.int .i64 8))<|trivial)
  exact bo Vq call62 func62 (c:=VB) rfl (aI (al t) trivial) z<|by kernel_rfl
 ·obtain⟨r4,br4,h⟩:=ay h
  obtain rfl:=lf h
  have z:=p3<|sg 0 c2<|sv (aV t)<|aX (JZ br4)<|en (aI (rP (.int .i64 r4))<|trivial)
  exact bo Vq call62 func62 (c:=VB) rfl (aI (al t) trivial) z<|by kernel_rfl
abbrev sC:=(ae->Option Int)
abbrev yl(R:sC):Prop:=∀(t:ae) (r:Int),R t=some r->CC Pg GE 63 [.agg (af t)] (.int .i64 r) []
noncomputable def Qw:Code:=f127.body.getD .skip
def Ot:List Nat:=[8]
section
variable(v:waA)(t5:Int)(t6:Int)
def fc:ax:=aP 18 [(0,sl cS v),(5,.int .i64 t5),(6,.int .i64 t6)] [] []
def fe(o:Unit⊕(Unit)):Exit:=match o with
 |(.inl _)=>.ret
 |(.inr _)=>.exit 0
def dX(o:Unit⊕(Unit)):ax:=match o with
 |(.inl o)=>aP 18 [(2,.bool false)] [] []
 |(.inr o)=>aP 18 [] [] []
def ic:Option (Int⊕(Unit⊕(Unit))):=
 if(decide (t6<t5))=true then
  (dT v t6).bind fun x2=>
  (n8 v x2).bind fun r3=>
  if(r3 !=t6)=true then
   some (.inr (.inl ()))
  else
   some (.inl (bL (t6+1)))
 else
  some (.inr (.inr ()))
def mP:Option (Unit⊕(Unit)):=loop (fun(zz:Int)=>ic v t5 zz) t6
theorem wL{y:Int⊕(Unit⊕(Unit))}(h:ic v t5 t6=some y):aL Pg GE 0 (cA Qw 55) (LQ (fun(zz:Int)=>fc v t5 zz) fe dX y) (fc v t5 t6):=by
 rcases aJ h with⟨c1,h⟩|⟨c1,h⟩
 ·obtain⟨x2,bx2,h⟩:=ay h
  obtain⟨r3,br3,h⟩:=ay h
  have p5:=fun{sc F} (r:PS sc F)=>sg 0 c1<|sv (bh.ia (k:=.i64) bx2)<|sv (dB Cb (.str x2) [])<|aX (ui br3)<|r
  rcases aJ h with⟨c4,h⟩|⟨c4,h⟩
  ·obtain rfl:=lf h
   have z:=p5<|sg 0 c4<|eF (fe (.inl ())) (dX (.inl ()))
   exact fG Ot (by intro hx;cases hx) z<|by kernel_rfl
  ·obtain rfl:=lf h
   exact pZ Ot (p5<|sg 0 c4<|eF .normal (fc v t5 (bL (t6+1))))<|by kernel_rfl
 ·obtain rfl:=lf h
  have z:=sg 0 c1<|eF (fe (.inr ())) (dX (.inr ()))
  exact fG Ot (by intro hx;cases hx) z<|by kernel_rfl
theorem n7{x:Unit⊕(Unit)}(h:mP v t5 t6=some x):aL Pg GE 0 (.loop (cA Qw 55)) (EX (fe x) (dX x)) (fc v t5 t6):=
 aL.loop (S:=fun(zz:Int)=>fc v t5 zz) (ex:=fe) (s:=t6) h fun zz y hy=>wL v t5 zz hy
end
def nq(a:waA):Option Bool:=
 (mP a (a.length:Int) 0).bind fun o6=>match o6 with
 |(.inl o6)=>
  some false
 |(.inr o6)=>
  some true
theorem C2{a:waA}{r:Bool}(h:nq a=some r):CC Pg GE 127 [sl cS a] (.bool r) []:=by
 obtain⟨o6,bo6,h⟩:=ay h
 rcases o6 with o6|o6
 ·obtain rfl:=lf h
  have z:=cf (bh.ln a)<|ct (e:=.ret) (s1:=dX (.inl o6)) (n7 a (a.length:Int) 0 bo6)<|en (aI (rP (.bool false))<|trivial)
  exact bo Ot call127 func127 (c:=Qw) rfl (aI (aw ie a) trivial) z<|by kernel_rfl
 ·obtain rfl:=lf h
  have z:=cf (bh.ln a)<|ct (e:=.exit 0) (s1:=dX (.inr o6)) (n7 a (a.length:Int) 0 bo6)<|en (aI (rP (.bool true))<|trivial)
  exact bo Ot call127 func127 (c:=Qw) rfl (aI (aw ie a) trivial) z<|by kernel_rfl
abbrev pH:=(aa->Option Int)
abbrev tX(R:pH):Prop:=∀(p:aa) (r:Int),R p=some r->CC Pg GE 69 [.agg (ac p)] (.int .i64 r) []
noncomputable def UN:Code:=f69.body.getD .skip
def Uy:List Nat:=[]
section
variable(R127:pH)(t7:waB)(t8:Int)(n:Int)(t9:Int)
def iv:ax:=aP 20 [(3,.int .i64 n),(7,sl ac t7),(8,.int .i64 t8),(9,.int .i64 t9)] [.dead] []
def oh(o:Int):ax:=aP 20 [(3,.int .i64 o)] [.dead] []
def ur:Option ((Int×Int)⊕(Int)):=
 if(decide (t9<t8))=true then
  (dT t7 t9).bind fun x2=>
  (R127 x2).bind fun r3=>
  some (.inl ((if r3>n then r3 else n),bL (t9+1)))
 else
  some (.inr n)
def rX:Option Int:=loop (fun(zz:Int×Int)=>ur R127 t7 t8 zz.1 zz.2) (n,t9)
theorem Bi(hR127:tX R127){y:(Int×Int)⊕(Int)}(h:ur R127 t7 t8 n t9=some y):aL Pg GE 0 (cA UN 119) (LQ (fun(zz:Int×Int)=>iv t7 t8 zz.1 zz.2) (fun _=>.exit 0) oh y) (iv t7 t8 n t9):=by
 rcases aJ h with⟨c1,h⟩|⟨c1,h⟩
 ·obtain⟨x2,bx2,h⟩:=ay h
  obtain⟨r3,br3,h⟩:=ay h
  obtain rfl:=lf h
  have z:=sg 0 c1<|sv (aZ.ia (k:=.i64) bx2)<|sv (aM x2)<|sx fY<|sx (cb x2)<|sv (bj x2 [])<|aX (hR127 _ _ br3)<|pq 0 .normal (iv t7 t8 (if r3>n then r3 else n) (bL (t9+1))) rfl (cG (aI trivial (aI (up (aw ah t7)) (aI trivial (aI trivial trivial))))) (aI trivial trivial)
  exact cJ (A:=Uy) mixed z<|by kernel_rfl
 ·obtain rfl:=lf h
  have z:=sg 0 c1<|eF (.exit 0) (oh n)
  exact fG Uy (by intro hx;cases hx) z<|by kernel_rfl
theorem Dc(hR127:tX R127){x:Int}(h:rX R127 t7 t8 n t9=some x):aL Pg GE 0 (.loop (cA UN 119)) (EX (.exit 0) (oh x)) (iv t7 t8 n t9):=
 aL.loop (S:=fun(zz:Int×Int)=>iv t7 t8 zz.1 zz.2) (ex:=(fun _=>.exit 0)) (s:=(n,t9)) h fun zz y hy=>Bi R127 t7 t8 zz.1 zz.2 hR127 hy
end
def pA(R127:pH)(p:aa):Option Int:=
 (rX R127 p.Kids (p.Kids.length:Int) 0 0).bind fun o4=>
 some (bL (o4+1))
theorem GM(R127:pH)(hR127:tX R127){p:aa}{r:Int}(h:pA R127 p=some r):CC Pg GE 69 [.agg (ac p)] (.int .i64 r) []:=by
 obtain⟨o4,bo4,h⟩:=ay h
 obtain rfl:=lf h
 have z:=se (bJ p)<|sv (aG p)<|sv (aH p)<|cf (aZ.ln p.Kids)<|ct (Dc R127 p.Kids (p.Kids.length:Int) 0 0 hR127 bo4)<|en (aI (rP (.int .i64 (bL (o4+1))))<|trivial)
 exact bo Uy call69 func69 (c:=UN) rfl (aI (ah p) trivial) z<|by kernel_rfl
def uq:(aa->Option Int)->(aa)->Option Int:=fun(rec:aa->Option Int) (x:aa)=>pA (fun p=>rec p) x
def Bh(p:aa):Option Int:=lH uq p
theorem IB{p:aa}{r:Int}(h:Bh p=some r):CC Pg GE 69 [.agg (ac p)] (.int .i64 r) []:=
 cC (F:=uq) (M:=fun(x:aa) (r:Int)=>CC Pg GE 69 [.agg (ac x)] (.int .i64 r) []) (fun rec hrec x r h=>GM _ (fun p r h=>hrec p r h) h) h
abbrev su:=(aa->Option Int)
abbrev yh(R:su):Prop:=∀(p:aa) (r:Int),R p=some r->CC Pg GE 145 [.agg (ac p)] (.int .i64 r) []
noncomputable def Sg:Code:=f189.body.getD .skip
def RU:List Nat:=[]
def wg(op:Int):Option Bool:=
 if(op==3)=true then
  some true
 else
  if(op==4)=true then
   some true
  else
   some (op==5)
theorem IF{op:Int}{r:Bool}(h:wg op=some r):CC Pg GE 189 [.int .i64 op] (.bool r) []:=by
 rcases aJ h with⟨c1,h⟩|⟨c1,h⟩
 ·obtain rfl:=lf h
  have z:=sg 3 c1<|en (aI (rP (.bool true))<|trivial)
  exact bo RU call189 func189 (c:=Sg) rfl (aI trivial trivial) z<|by kernel_rfl
 ·rcases aJ h with⟨c2,h⟩|⟨c2,h⟩
  ·obtain rfl:=lf h
   have z:=sg 3 c1<|sg 7 c2<|en (aI (rP (.bool true))<|trivial)
   exact bo RU call189 func189 (c:=Sg) rfl (aI trivial trivial) z<|by kernel_rfl
  ·obtain rfl:=lf h
   have z:=sg 3 c1<|sg 7 c2<|en (aI (rP (.bool (op==5)))<|trivial)
   exact bo RU call189 func189 (c:=Sg) rfl (aI trivial trivial) z<|by kernel_rfl
noncomputable def Kc:Code:=f190.body.getD .skip
def CY:List Nat:=[]
section
variable(n:Int)(t5:Int)
def GR:ax:=aP 28 [(1,.int .i64 n),(5,.int .i64 t5)] [] []
def mc(o:Bool):ax:=aP 28 [(1,.int .i64 n),(5,.int .i64 t5),(6,.bool o)] [] []
def mt:Option Bool:=
 if(t5==1)=true then
  some (t5==1)
 else
  if(t5==2)=true then
   some (t5==2)
  else
   some (t5==3)
theorem EB{x:Bool}(h:mt t5=some x):aL Pg GE 0 (cA Kc 54) (EX .normal (mc n t5 x)) (GR n t5):=by
 rcases aJ h with⟨c1,h⟩|⟨c1,h⟩
 ·obtain rfl:=lf h
  exact bm CY (sg 0 c1<|eF .normal (mc n t5 (t5==1)))<|by kernel_rfl
 ·rcases aJ h with⟨c2,h⟩|⟨c2,h⟩
  ·obtain rfl:=lf h
   exact bm CY (sg 0 c1<|sg 0 c2<|eF .normal (mc n t5 (t5==2)))<|by kernel_rfl
  ·obtain rfl:=lf h
   exact bm CY (sg 0 c1<|sg 0 c2<|eF .normal (mc n t5 (t5==3)))<|by kernel_rfl
end
section
variable(n:Int)(t5:Int)
def GS:ax:=aP 28 [(1,.int .i64 n),(5,.int .i64 t5)] [] []
def qv(o:Bool):ax:=aP 28 [(1,.int .i64 n),(5,.int .i64 t5),(12,.bool o)] [] []
def pC:Option Bool:=
 if(t5==4)=true then
  some (t5==4)
 else
  some (t5==5)
theorem EC{x:Bool}(h:pC t5=some x):aL Pg GE 0 (cA Kc 222) (EX .normal (qv n t5 x)) (GS n t5):=by
 rcases aJ h with⟨c6,h⟩|⟨c6,h⟩
 ·obtain rfl:=lf h
  exact bm CY (sg 0 c6<|eF .normal (qv n t5 (t5==4)))<|by kernel_rfl
 ·obtain rfl:=lf h
  exact bm CY (sg 0 c6<|eF .normal (qv n t5 (t5==5)))<|by kernel_rfl
end
section
variable(n:Int)(t5:Int)
def GT:ax:=aP 28 [(1,.int .i64 n),(5,.int .i64 t5)] [] []
def qw(o:Bool):ax:=aP 28 [(1,.int .i64 n),(21,.bool o)] [] []
def pD:Option Bool:=
 if(t5==9)=true then
  some (t5==9)
 else
  some (t5==14)
theorem ED{x:Bool}(h:pD t5=some x):aL Pg GE 0 (cA Kc 894) (EX .normal (qw n x)) (GT n t5):=by
 rcases aJ h with⟨c12,h⟩|⟨c12,h⟩
 ·obtain rfl:=lf h
  exact bm CY (sg 0 c12<|eF .normal (qw n (t5==9)))<|by kernel_rfl
 ·obtain rfl:=lf h
  exact bm CY (sg 0 c12<|eF .normal (qw n (t5==14)))<|by kernel_rfl
end
def iz(op:Int)(n:Int):Option Bool:=
 (mt op).bind fun o3=>
 if o3=true then
  some (n==0)
 else
  (pC op).bind fun o7=>
  if o7=true then
   if(decide (n>=1))=true then
    some (decide (n<=24))
   else
    some false
  else
   (pD op).bind fun o13=>
   if o13=true then
    some (n==1)
   else
    some (n==2)
theorem pE{op:Int}{n:Int}{r:Bool}(h:iz op n=some r):CC Pg GE 190 [.int .i64 op,.int .i64 n] (.bool r) []:=by
 obtain⟨o3,bo3,h⟩:=ay h
 have p5:=fun{sc F} (r:PS sc F)=>iO 3<|ct (EB n op bo3)<|r
 rcases aJ h with⟨c4,h⟩|⟨c4,h⟩
 ·obtain rfl:=lf h
  have z:=p5<|sg 0 c4<|en (aI (rP (.bool (n==0)))<|trivial)
  exact bo CY call190 func190 (c:=Kc) rfl (aI trivial (aI trivial trivial)) z<|by kernel_rfl
 ·obtain⟨o7,bo7,h⟩:=ay h
  have p9:=fun{sc F} (r:PS sc F)=>p5<|sg 0 c4<|iO 0<|ct (EC n op bo7)<|r
  rcases aJ h with⟨c8,h⟩|⟨c8,h⟩
  ·have p11:=fun{sc F} (r:PS sc F)=>p9<|sg 0 c8<|r
   rcases aJ h with⟨c10,h⟩|⟨c10,h⟩
   ·obtain rfl:=lf h
    have z:=p11<|sg 3 c10<|en (aI (rP (.bool (decide (n<=24))))<|trivial)
    exact bo CY call190 func190 (c:=Kc) rfl (aI trivial (aI trivial trivial)) z<|by kernel_rfl
   ·obtain rfl:=lf h
    have z:=p11<|sg 3 c10<|en (aI (rP (.bool false))<|trivial)
    exact bo CY call190 func190 (c:=Kc) rfl (aI trivial (aI trivial trivial)) z<|by kernel_rfl
  ·obtain⟨o13,bo13,h⟩:=ay h
   have p15:=fun{sc F} (r:PS sc F)=>p9<|sg 0 c8<|iO 0<|ct (ED n op bo13)<|r
   rcases aJ h with⟨c14,h⟩|⟨c14,h⟩
   ·obtain rfl:=lf h
    have z:=p15<|sg 0 c14<|en (aI (rP (.bool (n==1)))<|trivial)
    exact bo CY call190 func190 (c:=Kc) rfl (aI trivial (aI trivial trivial)) z<|by kernel_rfl
   ·obtain rfl:=lf h
    have z:=p15<|sg 0 c14<|en (aI (rP (.bool (n==2)))<|trivial)
    exact bo CY call190 func190 (c:=Kc) rfl (aI trivial (aI trivial trivial)) z<|by kernel_rfl
noncomputable def TD:Code:=f191.body.getD .skip
def Td:List Nat:=[]
def Iu(n:Int):Option Bool:=
 if(decide (n>=(-1000000000000)))=true then
  some (decide (n<=1000000000000))
 else
  some false
theorem Ni{n:Int}{r:Bool}(h:Iu n=some r):CC Pg GE 191 [.int .i64 n] (.bool r) []:=by
 rcases aJ h with⟨c1,h⟩|⟨c1,h⟩
 ·obtain rfl:=lf h
  have z:=sg 3 c1<|en (aI (rP (.bool (decide (n<=1000000000000))))<|trivial)
  exact bo Td call191 func191 (c:=TD) rfl (aI trivial trivial) z<|by kernel_rfl
 ·obtain rfl:=lf h
  have z:=sg 3 c1<|en (aI (rP (.bool false))<|trivial)
  exact bo Td call191 func191 (c:=TD) rfl (aI trivial trivial) z<|by kernel_rfl
noncomputable def Lr:Code:=f192.body.getD .skip
def Lf:List Nat:=[]
def sd(p:aa):Option Bool:=
 if(p.Op==3)=true then
  if(p.Name==([118]:ag))=true then
   some true
  else
   (mr p.Name).bind fun r5=>
   some (r5==0)
 else
  if (p.Op == 4) = true then
   if(p.Name==([116,97,103]:ag))=true then
    some true
   else
    if(p.Name==([118,97,108]:ag))=true then
     some true
    else
     (mr p.Name).bind fun r12=>
     some (r12==0)
  else
   if(p.Op==5)=true then
    (mr p.Name).bind fun r15=>
    some (r15==0)
   else
    some true
theorem GQ{p:aa}{r:Bool}(h:sd p=some r):CC Pg GE 192 [.agg (ac p)] (.bool r) []:=by
 have p2:=fun{sc F} (r:PS sc F)=>se (bJ p)<|sv (aD p)<|sv (aE p)<|r
 rcases aJ h with⟨c1,h⟩|⟨c1,h⟩
 ·have p4:=fun{sc F} (r:PS sc F)=>p2<|sg 0 c1<|sv (bp p)<|sv (bH p)<|r
  rcases aJ h with⟨c3,h⟩|⟨c3,h⟩
  ·obtain rfl:=lf h
   have z:=p4<|sg 4 c3<|en (aI (rP (.bool true))<|trivial)
   exact bo Lf call192 func192 (c:=Lr) rfl (aI (ah p) trivial) z<|by kernel_rfl
  ·obtain⟨r5,br5,h⟩:=ay h
   obtain rfl:=lf h
   have z:=p4<|sg 4 c3<|sv (bp p)<|sv (bH p)<|aX (ms br5)<|en (aI (rP (.bool (r5==0)))<|trivial)
   exact bo Lf call192 func192 (c:=Lr) rfl (aI (ah p) trivial) z<|by kernel_rfl
 ·have p7:=fun{sc F} (r:PS sc F)=>p2<|sg 0 c1<|r
  rcases aJ h with⟨c6,h⟩|⟨c6,h⟩
  ·have p9:=fun{sc F} (r:PS sc F)=>p7<|sg 0 c6<|sv (bp p)<|sv (bH p)<|r
   rcases aJ h with⟨c8,h⟩|⟨c8,h⟩
   ·obtain rfl:=lf h
    have z:=p9<|sg 4 c8<|en (aI (rP (.bool true))<|trivial)
    exact bo Lf call192 func192 (c:=Lr) rfl (aI (ah p) trivial) z<|by kernel_rfl
   ·have p11:=fun{sc F} (r:PS sc F)=>p9<|sg 4 c8<|sv (bp p)<|sv (bH p)<|r
    rcases aJ h with⟨c10,h⟩|⟨c10,h⟩
    ·obtain rfl:=lf h
     have z:=p11<|sg 9 c10<|en (aI (rP (.bool true))<|trivial)
     exact bo Lf call192 func192 (c:=Lr) rfl (aI (ah p) trivial) z<|by kernel_rfl
    ·obtain⟨r12,br12,h⟩:=ay h
     obtain rfl:=lf h
     have z:=p11<|sg 9 c10<|sv (bp p)<|sv (bH p)<|aX (ms br12)<|en (aI (rP (.bool (r12==0)))<|trivial)
     exact bo Lf call192 func192 (c:=Lr) rfl (aI (ah p) trivial) z<|by kernel_rfl
  ·have p14:=fun{sc F} (r:PS sc F)=>p7<|sg 0 c6<|r
   rcases aJ h with⟨c13,h⟩|⟨c13,h⟩
   ·obtain⟨r15,br15,h⟩:=ay h
    obtain rfl:=lf h
    have z:=p14<|sg 0 c13<|sv (bp p)<|sv (bH p)<|aX (ms br15)<|en (aI (rP (.bool (r15==0)))<|trivial)
    exact bo Lf call192 func192 (c:=Lr) rfl (aI (ah p) trivial) z<|by kernel_rfl
   ·obtain rfl:=lf h
    have z:=p14<|sg 0 c13<|en (aI (rP (.bool true))<|trivial)
    exact bo Lf call192 func192 (c:=Lr) rfl (aI (ah p) trivial) z<|by kernel_rfl
noncomputable def IW:Code:=f171.body.getD .skip
def mL:List Nat:=[]
section
variable(p:aa)
def GU:ax:=aP 87 [(1,.eptr (ac p))] [.dead] []
def qx(o:Bool):ax:=aP 87 [(1,.eptr (ac p)),(3,.bool o)] [.dead] []
def uC:Option Bool:=
 if(p.Op==1)=true then
  some true
 else
  some (p.Op==2)
theorem EE{x:Bool}(h:uC p=some x):aL Pg GE 0 (cA IW 6) (EX .normal (qx p x)) (GU p):=by
 have p2:=fun{sc F} (r:PS sc F)=>sv (aD p)<|sv (aE p)<|r
 rcases aJ h with⟨c1,h⟩|⟨c1,h⟩
 ·obtain rfl:=lf h
  exact bm mL (p2<|sg 4 c1<|eF .normal (qx p true))<|by kernel_rfl
 ·obtain rfl:=lf h
  exact bm mL (p2<|sg 4 c1<|sv (aD p)<|sv (aE p)<|eF .normal (qx p (p.Op==2)))<|by kernel_rfl
end
section
variable(p:aa)(number:Bool)
def GV:ax:=aP 87 [(1,.eptr (ac p)),(3,.bool number)] [.dead] []
def di(o:Bool):ax:=aP 87 [(1,.eptr (ac p)),(48,.bool o)] [.dead] []
def uD:Option Bool:=
 if(decide (p.Op<1))=true then
  some true
 else
  if(decide (p.Op>18))=true then
   some true
  else
   if (!(p.Name == ([]:ag))) = true then
    (wg p.Op).bind fun r10=>
    if(!r10)=true then
     some true
    else
     if(p.N !=0)=true then
      if(!number)=true then
       some true
      else
       (iz p.Op (p.Kids.length:Int)).bind fun r17=>
       some (!r17)
     else
      (iz p.Op (p.Kids.length:Int)).bind fun r18=>
      some (!r18)
   else
    if(p.N !=0)=true then
     if(!number)=true then
      some true
     else
      (iz p.Op (p.Kids.length:Int)).bind fun r23=>
      some (!r23)
    else
     (iz p.Op (p.Kids.length:Int)).bind fun r24=>
     some (!r24)
theorem EF{x:Bool}(h:uD p number=some x):aL Pg GE 0 (cA IW 28) (EX .normal (di p x)) (GV p number):=by
 have p5:=fun{sc F} (r:PS sc F)=>sv (aD p)<|sv (aE p)<|r
 rcases aJ h with⟨c4,h⟩|⟨c4,h⟩
 ·obtain rfl:=lf h
  exact bm mL (p5<|sg 4 c4<|eF .normal (di p true))<|by kernel_rfl
 ·have p7:=fun{sc F} (r:PS sc F)=>p5<|sg 4 c4<|sv (aD p)<|sv (aE p)<|r
  rcases aJ h with⟨c6,h⟩|⟨c6,h⟩
  ·obtain rfl:=lf h
   exact bm mL (p7<|sg 9 c6<|eF .normal (di p true))<|by kernel_rfl
  ·have p9:=fun{sc F} (r:PS sc F)=>p7<|sg 9 c6<|sv (bp p)<|sv (bH p)<|r
   rcases aJ h with⟨c8,h⟩|⟨c8,h⟩
   ·obtain⟨r10,br10,h⟩:=ay h
    have p12:=fun{sc F} (r:PS sc F)=>p9<|sg 13 c8<|sv (aD p)<|sv (aE p)<|aX (IF br10)<|r
    rcases aJ h with⟨c11,h⟩|⟨c11,h⟩
    ·obtain rfl:=lf h
     exact bm mL (p12<|sg 20 c11<|eF .normal (di p true))<|by kernel_rfl
    ·have p14:=fun{sc F} (r:PS sc F)=>p12<|sg 20 c11<|sv (bu p)<|sv (bI p)<|r
     rcases aJ h with⟨c13,h⟩|⟨c13,h⟩
     ·have p16:=fun{sc F} (r:PS sc F)=>p14<|sg 24 c13<|r
      rcases aJ h with⟨c15,h⟩|⟨c15,h⟩
      ·obtain rfl:=lf h
       exact bm mL (p16<|sg 29 c15<|eF .normal (di p true))<|by kernel_rfl
      ·obtain⟨r17,br17,h⟩:=ay h
       obtain rfl:=lf h
       exact bm mL (p16<|sg 29 c15<|sv (aD p)<|sv (aE p)<|sv (aG p)<|sv (aH p)<|cf (aZ.ln p.Kids)<|aX (pE br17)<|eF .normal (di p (!r17)))<|by kernel_rfl
     ·obtain⟨r18,br18,h⟩:=ay h
      obtain rfl:=lf h
      exact bm mL (p14<|sg 24 c13<|sv (aD p)<|sv (aE p)<|sv (aG p)<|sv (aH p)<|cf (aZ.ln p.Kids)<|aX (pE br18)<|eF .normal (di p (!r18)))<|by kernel_rfl
   ·have p20:=fun{sc F} (r:PS sc F)=>p9<|sg 13 c8<|sv (bu p)<|sv (bI p)<|r
    rcases aJ h with⟨c19,h⟩|⟨c19,h⟩
    ·have p22:=fun{sc F} (r:PS sc F)=>p20<|sg 24 c19<|r
     rcases aJ h with⟨c21,h⟩|⟨c21,h⟩
     ·obtain rfl:=lf h
      exact bm mL (p22<|sg 29 c21<|eF .normal (di p true))<|by kernel_rfl
     ·obtain⟨r23,br23,h⟩:=ay h
      obtain rfl:=lf h
      exact bm mL (p22<|sg 29 c21<|sv (aD p)<|sv (aE p)<|sv (aG p)<|sv (aH p)<|cf (aZ.ln p.Kids)<|aX (pE br23)<|eF .normal (di p (!r23)))<|by kernel_rfl
    ·obtain⟨r24,br24,h⟩:=ay h
     obtain rfl:=lf h
     exact bm mL (p20<|sg 24 c19<|sv (aD p)<|sv (aE p)<|sv (aG p)<|sv (aH p)<|cf (aZ.ln p.Kids)<|aX (pE br24)<|eF .normal (di p (!r24)))<|by kernel_rfl
end
section
variable(p:aa)
def GW:ax:=aP 87 [(1,.eptr (ac p))] [.dead] []
def eC(o:Bool):ax:=aP 87 [(1,.eptr (ac p)),(72,.bool o)] [.dead] []
def uE:Option Bool:=
 if (p.Op == 1) = true then
  (Iu p.N).bind fun r30=>
  if(!r30)=true then
   some true
  else
   if(p.Op==2)=true then
    if(decide (p.N<0))=true then
     some true
    else
     some (decide (p.N>1))
   else
    some false
 else
  if(p.Op==2)=true then
   if(decide (p.N<0))=true then
    some true
   else
    some (decide (p.N>1))
  else
   some false
theorem EG{x:Bool}(h:uE p=some x):aL Pg GE 0 (cA IW 60) (EX .normal (eC p x)) (GW p):=by
 have p29:=fun{sc F} (r:PS sc F)=>sv (aD p)<|sv (aE p)<|r
 rcases aJ h with⟨c28,h⟩|⟨c28,h⟩
 ·obtain⟨r30,br30,h⟩:=ay h
  have p32:=fun{sc F} (r:PS sc F)=>p29<|sg 4 c28<|sv (bu p)<|sv (bI p)<|aX (Ni br30)<|r
  rcases aJ h with⟨c31,h⟩|⟨c31,h⟩
  ·obtain rfl:=lf h
   exact bm mL (p32<|sg 10 c31<|eF .normal (eC p true))<|by kernel_rfl
  ·have p34:=fun{sc F} (r:PS sc F)=>p32<|sg 10 c31<|sv (aD p)<|sv (aE p)<|r
   rcases aJ h with⟨c33,h⟩|⟨c33,h⟩
   ·have p36:=fun{sc F} (r:PS sc F)=>p34<|sg 14 c33<|sv (bu p)<|sv (bI p)<|r
    rcases aJ h with⟨c35,h⟩|⟨c35,h⟩
    ·obtain rfl:=lf h
     exact bm mL (p36<|sg 18 c35<|eF .normal (eC p true))<|by kernel_rfl
    ·obtain rfl:=lf h
     exact bm mL (p36<|sg 18 c35<|sv (bu p)<|sv (bI p)<|eF .normal (eC p (decide (p.N>1))))<|by kernel_rfl
   ·obtain rfl:=lf h
    exact bm mL (p34<|sg 14 c33<|eF .normal (eC p false))<|by kernel_rfl
 ·have p38:=fun{sc F} (r:PS sc F)=>p29<|sg 4 c28<|sv (aD p)<|sv (aE p)<|r
  rcases aJ h with⟨c37,h⟩|⟨c37,h⟩
  ·have p40:=fun{sc F} (r:PS sc F)=>p38<|sg 14 c37<|sv (bu p)<|sv (bI p)<|r
   rcases aJ h with⟨c39,h⟩|⟨c39,h⟩
   ·obtain rfl:=lf h
    exact bm mL (p40<|sg 18 c39<|eF .normal (eC p true))<|by kernel_rfl
   ·obtain rfl:=lf h
    exact bm mL (p40<|sg 18 c39<|sv (bu p)<|sv (bI p)<|eF .normal (eC p (decide (p.N>1))))<|by kernel_rfl
  ·obtain rfl:=lf h
   exact bm mL (p38<|sg 14 c37<|eF .normal (eC p false))<|by kernel_rfl
end
section
variable(p:aa)
def GX:ax:=aP 87 [(1,.eptr (ac p))] [.dead] []
def qy(o:Bool):ax:=aP 87 [(86,.bool o)] [.dead] []
def uF:Option Bool:=
 if(p.Op==8)=true then
  (dT p.Kids 0).bind fun x49=>
  some (x49.Op !=1)
 else
  some false
theorem EH{x:Bool}(h:uF p=some x):aL Pg GE 0 (cA IW 252) (EX .normal (qy x)) (GX p):=by
 have p48:=fun{sc F} (r:PS sc F)=>sv (aD p)<|sv (aE p)<|r
 rcases aJ h with⟨c47,h⟩|⟨c47,h⟩
 ·obtain⟨x49,bx49,h⟩:=ay h
  obtain rfl:=lf h
  exact bm mL (p48<|sg 4 c47<|sv (aG p)<|sv (aH p)<|sv (aZ.ia (k:=.i64) bx49)<|sv (aD x49)<|sv (aE x49)<|eF .normal (qy (x49.Op !=1)))<|by kernel_rfl
 ·obtain rfl:=lf h
  exact bm mL (p48<|sg 4 c47<|eF .normal (qy false))<|by kernel_rfl
end
def zw(p:aa):Option Int:=
 (uC p).bind fun o3=>
 (uD p o3).bind fun o25=>
 if o25=true then
  some 1
 else
  (uE p).bind fun o41=>
  if o41=true then
   some 2
  else
   (sd p).bind fun r44=>
   if(!r44)=true then
    some 3
   else
    (uF p).bind fun o50=>
    if o50=true then
     some 6
    else
     some 0
theorem JX{p:aa}{r:Int}(h:zw p=some r):CC Pg GE 171 [.agg (ac p)] (.int .i64 r) []:=by
 obtain⟨o3,bo3,h⟩:=ay h
 obtain⟨o25,bo25,h⟩:=ay h
 have p27:=fun{sc F} (r:PS sc F)=>se (bJ p)<|iO 0<|ct (EE p bo3)<|iO 1<|ct (EF p o3 bo25)<|r
 rcases aJ h with⟨c26,h⟩|⟨c26,h⟩
 ·obtain rfl:=lf h
  have z:=p27<|sg 0 c26<|en (aI (rP (.int .i64 1))<|trivial)
  exact bo mL call171 func171 (c:=IW) rfl (aI (ah p) trivial) z<|by kernel_rfl
 ·obtain⟨o41,bo41,h⟩:=ay h
  have p43:=fun{sc F} (r:PS sc F)=>p27<|sg 0 c26<|iO 1<|ct (EG p bo41)<|r
  rcases aJ h with⟨c42,h⟩|⟨c42,h⟩
  ·obtain rfl:=lf h
   have z:=p43<|sg 0 c42<|en (aI (rP (.int .i64 2))<|trivial)
   exact bo mL call171 func171 (c:=IW) rfl (aI (ah p) trivial) z<|by kernel_rfl
  ·obtain⟨r44,br44,h⟩:=ay h
   have p46:=fun{sc F} (r:PS sc F)=>p43<|sg 0 c42<|sv (aM p)<|aX (GQ br44)<|r
   rcases aJ h with⟨c45,h⟩|⟨c45,h⟩
   ·obtain rfl:=lf h
    have z:=p46<|sg 0 c45<|en (aI (rP (.int .i64 3))<|trivial)
    exact bo mL call171 func171 (c:=IW) rfl (aI (ah p) trivial) z<|by kernel_rfl
   ·obtain⟨o50,bo50,h⟩:=ay h
    have p52:=fun{sc F} (r:PS sc F)=>p46<|sg 0 c45<|iO 1<|ct (EH p bo50)<|r
    rcases aJ h with⟨c51,h⟩|⟨c51,h⟩
    ·obtain rfl:=lf h
     have z:=p52<|sg 0 c51<|en (aI (rP (.int .i64 6))<|trivial)
     exact bo mL call171 func171 (c:=IW) rfl (aI (ah p) trivial) z<|by kernel_rfl
    ·obtain rfl:=lf h
     have z:=p52<|sg 0 c51<|en (aI (rP (.int .i64 0))<|trivial)
     exact bo mL call171 func171 (c:=IW) rfl (aI (ah p) trivial) z<|by kernel_rfl
end Go.Proofs.YtggeppllafbidaaGreatDoor
