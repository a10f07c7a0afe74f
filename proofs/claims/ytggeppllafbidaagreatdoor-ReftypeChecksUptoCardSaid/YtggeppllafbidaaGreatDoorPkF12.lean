/- PROVED: a part of the proof. Conditions: none. -/
import Derived.Test.YtggeppllafbidaaGreatDoorPkF11
import Derived.Test.YtggeppllafbidaaGreatDoorPkF9
noncomputable section
namespace Go.Proofs.YtggeppllafbidaaGreatDoor
open Go Go.Proofs.Tryz
set_option linter.unusedVariables false
set_option maxRecDepth 100000
noncomputable def G5:Code:=f113.body.getD .skip
def ms:List Nat:=[68,100]
section
variable(t:ae)
def HC:ax:=aP 102 [(1,.eptr (af t))] [.dead] []
def qC(o:Bool):ax:=aP 102 [(1,.eptr (af t)),(3,.bool o)] [.dead] []
def pB:Option Bool:=
 if(t.Op==4)=true then
  some true
 else
  some (t.Op==5)
theorem FK{x:Bool}(h:pB t=some x):aL Pg GE 0 (cA G5 6) (EX .normal (qC t x)) (HC t):=by
 have p2:=fun{sc F} (r:PS sc F)=>sv (au t)<|sv (av t)<|r
 rcases aK h with⟨c1,h⟩|⟨c1,h⟩
 ·obtain rfl:=lf h
  exact bE ms (p2<|sg 4 c1<|eF .normal (qC t true))<|by kernel_rfl
 ·obtain rfl:=lf h
  exact bE ms (p2<|sg 4 c1<|sv (au t)<|sv (av t)<|eF .normal (qC t (t.Op==5)))<|by kernel_rfl
end
section
variable(t:ae)(named:Bool)
def HD:ax:=aP 102 [(1,.eptr (af t)),(3,.bool named)] [.dead] []
def qD(o:Bool):ax:=aP 102 [(1,.eptr (af t)),(3,.bool named),(4,.bool o)] [.dead] []
def pC:Option Bool:=
 if(t.Op==4)=true then
  some true
 else
  some (t.Op==6)
theorem FL{x:Bool}(h:pC t=some x):aL Pg GE 0 (cA G5 14) (EX .normal (qD t named x)) (HD t named):=by
 have p5:=fun{sc F} (r:PS sc F)=>sv (au t)<|sv (av t)<|r
 rcases aK h with⟨c4,h⟩|⟨c4,h⟩
 ·obtain rfl:=lf h
  exact bE ms (p5<|sg 4 c4<|eF .normal (qD t named true))<|by kernel_rfl
 ·obtain rfl:=lf h
  exact bE ms (p5<|sg 4 c4<|sv (au t)<|sv (av t)<|eF .normal (qD t named (t.Op==6)))<|by kernel_rfl
end
section
variable(t:ae)(named:Bool)(compound:Bool)
def HE:ax:=aP 102 [(1,.eptr (af t)),(3,.bool named),(4,.bool compound)] [.dead] []
def cf(o:Bool):ax:=aP 102 [(1,.eptr (af t)),(3,.bool named),(63,.bool o)] [.dead] []
def pD:Option Bool:=
 if(decide (t.Op<1))=true then
  some true
 else
  if(decide (t.Op>6))=true then
   some true
  else
   if (!(t.Name == ([]:ag))) = true then
    if(!named)=true then
     some true
    else
     if (decide ((t.Args.length:Int) > 0)) = true then
      if(!compound)=true then
       some true
      else
       if(decide ((t.Names.length:Int)>0))=true then
        some (t.Op !=6)
       else
        some false
     else
      if(decide ((t.Names.length:Int)>0))=true then
       some (t.Op !=6)
      else
       some false
   else
    if (decide ((t.Args.length:Int) > 0)) = true then
     if(!compound)=true then
      some true
     else
      if(decide ((t.Names.length:Int)>0))=true then
       some (t.Op !=6)
      else
       some false
    else
     if(decide ((t.Names.length:Int)>0))=true then
      some (t.Op !=6)
     else
      some false
theorem FM{x:Bool}(h:pD t named compound=some x):aL Pg GE 0 (cA G5 60) (EX .normal (cf t named x)) (HE t named compound):=by
 have p8:=fun{sc F} (r:PS sc F)=>sv (au t)<|sv (av t)<|r
 rcases aK h with⟨c7,h⟩|⟨c7,h⟩
 ·obtain rfl:=lf h
  exact bE ms (p8<|sg 4 c7<|eF .normal (cf t named true))<|by kernel_rfl
 ·have p10:=fun{sc F} (r:PS sc F)=>p8<|sg 4 c7<|sv (au t)<|sv (av t)<|r
  rcases aK h with⟨c9,h⟩|⟨c9,h⟩
  ·obtain rfl:=lf h
   exact bE ms (p10<|sg 9 c9<|eF .normal (cf t named true))<|by kernel_rfl
  ·have p12:=fun{sc F} (r:PS sc F)=>p10<|sg 9 c9<|sv (ck t)<|sv (cq t)<|r
   rcases aK h with⟨c11,h⟩|⟨c11,h⟩
   ·have p14:=fun{sc F} (r:PS sc F)=>p12<|sg 13 c11<|r
    rcases aK h with⟨c13,h⟩|⟨c13,h⟩
    ·obtain rfl:=lf h
     exact bE ms (p14<|sg 18 c13<|eF .normal (cf t named true))<|by kernel_rfl
    ·have p16:=fun{sc F} (r:PS sc F)=>p14<|sg 18 c13<|sv (aF t)<|sv (aG t)<|b9 (cJ.ln t.Args)<|r
     rcases aK h with⟨c15,h⟩|⟨c15,h⟩
     ·have p18:=fun{sc F} (r:PS sc F)=>p16<|sg 23 c15<|r
      rcases aK h with⟨c17,h⟩|⟨c17,h⟩
      ·obtain rfl:=lf h
       exact bE ms (p18<|sg 28 c17<|eF .normal (cf t named true))<|by kernel_rfl
      ·have p20:=fun{sc F} (r:PS sc F)=>p18<|sg 28 c17<|sv (aM t)<|sv (aN t)<|b9 (aZ.ln t.Names)<|r
       rcases aK h with⟨c19,h⟩|⟨c19,h⟩
       ·obtain rfl:=lf h
        exact bE ms (p20<|sg 33 c19<|sv (au t)<|sv (av t)<|eF .normal (cf t named (t.Op !=6)))<|by kernel_rfl
       ·obtain rfl:=lf h
        exact bE ms (p20<|sg 33 c19<|eF .normal (cf t named false))<|by kernel_rfl
     ·have p22:=fun{sc F} (r:PS sc F)=>p16<|sg 23 c15<|sv (aM t)<|sv (aN t)<|b9 (aZ.ln t.Names)<|r
      rcases aK h with⟨c21,h⟩|⟨c21,h⟩
      ·obtain rfl:=lf h
       exact bE ms (p22<|sg 33 c21<|sv (au t)<|sv (av t)<|eF .normal (cf t named (t.Op !=6)))<|by kernel_rfl
      ·obtain rfl:=lf h
       exact bE ms (p22<|sg 33 c21<|eF .normal (cf t named false))<|by kernel_rfl
   ·have p24:=fun{sc F} (r:PS sc F)=>p12<|sg 13 c11<|sv (aF t)<|sv (aG t)<|b9 (cJ.ln t.Args)<|r
    rcases aK h with⟨c23,h⟩|⟨c23,h⟩
    ·have p26:=fun{sc F} (r:PS sc F)=>p24<|sg 23 c23<|r
     rcases aK h with⟨c25,h⟩|⟨c25,h⟩
     ·obtain rfl:=lf h
      exact bE ms (p26<|sg 28 c25<|eF .normal (cf t named true))<|by kernel_rfl
     ·have p28:=fun{sc F} (r:PS sc F)=>p26<|sg 28 c25<|sv (aM t)<|sv (aN t)<|b9 (aZ.ln t.Names)<|r
      rcases aK h with⟨c27,h⟩|⟨c27,h⟩
      ·obtain rfl:=lf h
       exact bE ms (p28<|sg 33 c27<|sv (au t)<|sv (av t)<|eF .normal (cf t named (t.Op !=6)))<|by kernel_rfl
      ·obtain rfl:=lf h
       exact bE ms (p28<|sg 33 c27<|eF .normal (cf t named false))<|by kernel_rfl
    ·have p30:=fun{sc F} (r:PS sc F)=>p24<|sg 23 c23<|sv (aM t)<|sv (aN t)<|b9 (aZ.ln t.Names)<|r
     rcases aK h with⟨c29,h⟩|⟨c29,h⟩
     ·obtain rfl:=lf h
      exact bE ms (p30<|sg 33 c29<|sv (au t)<|sv (av t)<|eF .normal (cf t named (t.Op !=6)))<|by kernel_rfl
     ·obtain rfl:=lf h
      exact bE ms (p30<|sg 33 c29<|eF .normal (cf t named false))<|by kernel_rfl
end
section
variable(t:ae)
def HG:ax:=aP 102 [(1,.eptr (af t))] [.dead] []
def qE(o:Bool):ax:=aP 102 [(1,.eptr (af t)),(6,.bool o)] [.dead] []
def pF:Option Bool:=
 (hX t.Name 0).bind fun c41=>
 if(decide (c41>=65))=true then
  (hX t.Name 0).bind fun c44=>
  some (decide (c44<=90))
 else
  some false
theorem FO{x:Bool}(h:pF t=some x):aL Pg GE 0 (cA G5 2026) (EX .normal (qE t x)) (HG t):=by
 obtain⟨c41,bc41,h⟩:=aw h
 have p43:=fun{sc F} (r:PS sc F)=>sv (ck t)<|sv (cq t)<|sv (eQ (k:=.i64) underlying9 bc41)<|r
 rcases aK h with⟨c42,h⟩|⟨c42,h⟩
 ·obtain⟨c44,bc44,h⟩:=aw h
  obtain rfl:=lf h
  exact bE ms (p43<|sg 5 c42<|sv (ck t)<|sv (cq t)<|sv (eQ (k:=.i64) underlying9 bc44)<|eF .normal (qE t (decide (c44<=90))))<|by kernel_rfl
 ·obtain rfl:=lf h
  exact bE ms (p43<|sg 5 c42<|eF .normal (qE t false))<|by kernel_rfl
end
section
variable(t:ae)(named:Bool)
def HF:ax:=aP 102 [(1,.eptr (af t)),(3,.bool named)] [.dead] []
def iQ(o:Unit⊕(Unit)):Exit:=match o with
 |(.inl _)=>.ret
 |(.inr _)=>.normal
def dI(o:Unit⊕(Unit)):ax:=match o with
 |(.inl o)=>aP 102 [(2,.int .i64 3)] [.dead] []
 |(.inr o)=>aP 102 [(1,.eptr (af t))] [.dead] []
def pE:Option (Unit⊕(Unit)):=
 if named=true then
  (sS t.Name).bind fun r38=>
  if(r38 !=0)=true then
   some (.inl ())
  else
   (pF t).bind fun o45=>
   if(!(o45==(t.Op==4)))=true then
    some (.inl ())
   else
    some (.inr ())
 else
  some (.inr ())
theorem oZ{x:Unit⊕(Unit)}(h:pE t named=some x):aL Pg GE 0 (cA G5 126) (EX (iQ x) (dI t x)) (HF t named):=by
 rcases aK h with⟨c37,h⟩|⟨c37,h⟩
 ·obtain⟨r38,br38,h⟩:=aw h
  have p40:=fun{sc F} (r:PS sc F)=>sg 0 c37<|sv (ck t)<|sv (cq t)<|aX (Bw br38)<|r
  rcases aK h with⟨c39,h⟩|⟨c39,h⟩
  ·obtain rfl:=lf h
   exact bE ms (p40<|sg 0 c39<|eF (iQ (.inl ())) (dI t (.inl ())))<|by kernel_rfl
  ·obtain⟨o45,bo45,h⟩:=aw h
   have p47:=fun{sc F} (r:PS sc F)=>p40<|sg 0 c39<|jC 0<|cm (FO t bo45)<|sv (au t)<|sv (av t)<|r
   rcases aK h with⟨c46,h⟩|⟨c46,h⟩
   ·obtain rfl:=lf h
    exact bE ms (p47<|sg 0 c46<|eF (iQ (.inl ())) (dI t (.inl ())))<|by kernel_rfl
   ·obtain rfl:=lf h
    exact bE ms (p47<|sg 0 c46<|eF (iQ (.inr ())) (dI t (.inr ())))<|by kernel_rfl
 ·obtain rfl:=lf h
  exact bE ms (sg 0 c37<|eF (iQ (.inr ())) (dI t (.inr ())))<|by kernel_rfl
end
section
variable(R46:ra)(t90:waC)(t91:Int)(t92:Int)
def iR:ax:=aP 102 [(90,sl af t90),(91,.int .i64 t91),(92,.int .i64 t92)] [.dead] []
def iS(o:Int⊕(Unit)):Exit:=match o with
 |(.inl _)=>.ret
 |(.inr _)=>.exit 0
def fF(o:Int⊕(Unit)):ax:=match o with
 |(.inl o)=>aP 102 [(2,.int .i64 o)] [.dead] []
 |(.inr o)=>aP 102 [] [.dead] []
def yI:Option (Int⊕(Int⊕(Unit))):=
 if(decide (t92<t91))=true then
  (dt t90 t92).bind fun x50=>
  (R46 x50).bind fun r51=>
  if(r51 !=0)=true then
   some (.inr (.inl r51))
  else
   some (.inl (bA (t92+1)))
 else
  some (.inr (.inr ()))
def vI:Option (Int⊕(Unit)):=loop (fun(zz:Int)=>yI R46 t90 t91 zz) t92
theorem Ek(hR46:wU R46){y:Int⊕(Int⊕(Unit))}(h:yI R46 t90 t91 t92=some y):aL Pg GE 0 (cA G5 2039) (LQ (fun(zz:Int)=>iR t90 t91 zz) iS fF y) (iR t90 t91 t92):=by
 rcases aK h with⟨c49,h⟩|⟨c49,h⟩
 ·obtain⟨x50,bx50,h⟩:=aw h
  obtain⟨r51,br51,h⟩:=aw h
  have p53:=fun{sc F} (r:PS sc F)=>sg 0 c49<|sv (cJ.ia (k:=.i64) bx50)<|sv (aQ x50)<|sx jl<|sx (cu x50)<|sv (bu x50 [])<|aX (hR46 _ _ br51)<|r
  rcases aK h with⟨c52,h⟩|⟨c52,h⟩
  ·obtain rfl:=lf h
   have z:=p53<|sg 0 c52<|lG 0 (iS (.inl r51)) (fF (.inl r51)) rfl (cb (aI trivial trivial)) (aI trivial trivial)
   exact mC (A:=ms) mixed (by intro hx;cases hx) z<|by kernel_rfl
  ·obtain rfl:=lf h
   have z:=p53<|sg 0 c52<|lG 0 .normal (iR t90 t91 (bA (t92+1))) rfl (cb (aI (up (am aj t90)) (aI trivial (aI trivial trivial)))) (aI trivial trivial)
   exact cc (A:=ms) mixed z<|by kernel_rfl
 ·obtain rfl:=lf h
  have z:=sg 0 c49<|eF (iS (.inr ())) (fF (.inr ()))
  exact eS ms (by intro hx;cases hx) z<|by kernel_rfl
theorem wM(hR46:wU R46){x:Int⊕(Unit)}(h:vI R46 t90 t91 t92=some x):aL Pg GE 0 (.loop (cA G5 2039)) (EX (iS x) (fF x)) (iR t90 t91 t92):=
 aL.loop (S:=fun(zz:Int)=>iR t90 t91 zz) (ex:=iS) (s:=t92) h fun zz y hy=>Ek R46 t90 t91 zz hR46 hy
end
def rE(R46:ra)(t:ae):Option Int:=
 (pB t).bind fun o3=>
 (pC t).bind fun o6=>
 (pD t o3 o6).bind fun o31=>
 if o31=true then
  some 1
 else
  (uI t).bind fun r34=>
  if(r34 !=0)=true then
   some r34
  else
   (pE t o3).bind fun o48=>match o48 with
   |(.inl o48)=>
    some 3
   | (.inr o48) =>
    (vI R46 t.Args (t.Args.length:Int) 0).bind fun o54=>match o54 with
    |(.inl o54)=>
     some o54
    |(.inr o54)=>
     some 0
theorem Kj(R46:ra)(hR46:wU R46){t:ae}{r:Int}(h:rE R46 t=some r):CC Pg GE 113 [.agg (af t)] (.int .i64 r) []:=by
 obtain⟨o3,bo3,h⟩:=aw h
 obtain⟨o6,bo6,h⟩:=aw h
 obtain⟨o31,bo31,h⟩:=aw h
 have p33:=fun{sc F} (r:PS sc F)=>se (bH t)<|jC 0<|cm (FK t bo3)<|jC 0<|cm (FL t o3 bo6)<|jC 1<|cm (FM t o3 o6 bo31)<|r
 rcases aK h with⟨c32,h⟩|⟨c32,h⟩
 ·obtain rfl:=lf h
  have z:=p33<|sg 0 c32<|en (aI (rP (.int .i64 1))<|trivial)
  exact bo ms call113 func113 (c:=G5) rfl (aI (aj t) trivial) z<|by kernel_rfl
 ·obtain⟨r34,br34,h⟩:=aw h
  have p36:=fun{sc F} (r:PS sc F)=>p33<|sg 0 c32<|sv (aQ t)<|aX (Kh br34)<|r
  rcases aK h with⟨c35,h⟩|⟨c35,h⟩
  ·obtain rfl:=lf h
   have z:=p36<|sg 0 c35<|en (aI (rP (.int .i64 r34))<|trivial)
   exact bo ms call113 func113 (c:=G5) rfl (aI (aj t) trivial) z<|by kernel_rfl
  ·obtain⟨o48,bo48,h⟩:=aw h
   rcases o48 with o48|o48
   ·obtain rfl:=lf h
    have z:=p36<|sg 0 c35<|jC 0<|cm (e:=.ret) (s1:=dI t (.inl o48)) (oZ t o3 bo48)<|en (aI (rP (.int .i64 3))<|trivial)
    exact bo ms call113 func113 (c:=G5) rfl (aI (aj t) trivial) z<|by kernel_rfl
   ·obtain⟨o54,bo54,h⟩:=aw h
    rcases o54 with o54|o54
    ·obtain rfl:=lf h
     have z:=p36<|sg 0 c35<|jC 0<|cm (e:=.normal) (s1:=dI t (.inr o48)) (oZ t o3 bo48)<|sv (aF t)<|sv (aG t)<|b9 (cJ.ln t.Args)<|cm (e:=.ret) (s1:=fF (.inl o54)) (wM R46 t.Args (t.Args.length:Int) 0 hR46 bo54)<|en (aI (rP (.int .i64 o54))<|trivial)
     exact bo ms call113 func113 (c:=G5) rfl (aI (aj t) trivial) z<|by kernel_rfl
    ·obtain rfl:=lf h
     have z:=p36<|sg 0 c35<|jC 0<|cm (e:=.normal) (s1:=dI t (.inr o48)) (oZ t o3 bo48)<|sv (aF t)<|sv (aG t)<|b9 (cJ.ln t.Args)<|cm (e:=.exit 0) (s1:=fF (.inr o54)) (wM R46 t.Args (t.Args.length:Int) 0 hR46 bo54)<|en (aI (rP (.int .i64 0))<|trivial)
     exact bo ms call113 func113 (c:=G5) rfl (aI (aj t) trivial) z<|by kernel_rfl
def yr:(ae->Option Int)->(ae)->Option Int:=fun(rec:ae->Option Int) (x:ae)=>rE (fun t=>rec t) x
def yq(t:ae):Option Int:=ku yr t
theorem Li{t:ae}{r:Int}(h:yq t=some r):CC Pg GE 113 [.agg (af t)] (.int .i64 r) []:=
 cn (F:=yr) (M:=fun(x:ae) (r:Int)=>CC Pg GE 113 [.agg (af x)] (.int .i64 r) []) (fun rec hrec x r h=>Kj _ (fun t r h=>hrec t r h) h) h
noncomputable def Zm:Code:=f77.body.getD .skip
def Zb:List Nat:=[]
def uG(t:ae):Option Int:=
 (uJ t).bind fun r1=>
 if(decide (r1>40))=true then
  some 8
 else
  (yq t).bind fun r4=>
  some r4
theorem Kf{t:ae}{r:Int}(h:uG t=some r):CC Pg GE 77 [.agg (af t)] (.int .i64 r) []:=by
 obtain⟨r1,br1,h⟩:=aw h
 have p3:=fun{sc F} (r:PS sc F)=>se (bH t)<|sv (aQ t)<|aX (Ki br1)<|r
 rcases aK h with⟨c2,h⟩|⟨c2,h⟩
 ·obtain rfl:=lf h
  have z:=p3<|sg 0 c2<|en (aI (rP (.int .i64 8))<|trivial)
  exact bo Zb call77 func77 (c:=Zm) rfl (aI (aj t) trivial) z<|by kernel_rfl
 ·obtain⟨r4,br4,h⟩:=aw h
  obtain rfl:=lf h
  have z:=p3<|sg 0 c2<|sv (aQ t)<|aX (Li br4)<|en (aI (rP (.int .i64 r4))<|trivial)
  exact bo Zb call77 func77 (c:=Zm) rfl (aI (aj t) trivial) z<|by kernel_rfl
abbrev mc:=(ae->Option Int)
abbrev qm(R:mc):Prop:=∀(t:ae) (r:Int),R t=some r->CC Pg GE 78 [.agg (af t)] (.int .i64 r) []
noncomputable def qaf:Code:=f56.body.getD .skip
def ZX:List Nat:=[]
def ii(p:aa):Option Bool:=
 (fD p (⟨0,([]:ag),0,([]:List aa)⟩:aa)).bind fun r1=>
 some r1
theorem mr{p:aa}{r:Bool}(h:ii p=some r):CC Pg GE 56 [.agg (ac p)] (.bool r) []:=by
 obtain⟨r1,br1,h⟩:=aw h
 obtain rfl:=lf h
 have z:=se (bh p)<|sv (az p)<|sb (sM) (sK)<|aX (fM br1)<|en (aI (rP (.bool r1))<|trivial)
 exact bo ZX call56 func56 (c:=qaf) rfl (aI (ah p) trivial) z<|by kernel_rfl
noncomputable def WX:Code:=f163.body.getD .skip
def Ww:List Nat:=[]
def ur(ok:Bool):Option Int:=
 if ok=true then
  some 0
 else
  some 3
theorem Jo{ok:Bool}{r:Int}(h:ur ok=some r):CC Pg GE 163 [.bool ok] (.int .i64 r) []:=by
 rcases aK h with⟨c1,h⟩|⟨c1,h⟩
 ·obtain rfl:=lf h
  have z:=sg 0 c1<|en (aI (rP (.int .i64 0))<|trivial)
  exact bo Ww call163 func163 (c:=WX) rfl (aI trivial trivial) z<|by kernel_rfl
 ·obtain rfl:=lf h
  have z:=sg 0 c1<|en (aI (rP (.int .i64 3))<|trivial)
  exact bo Ww call163 func163 (c:=WX) rfl (aI trivial trivial) z<|by kernel_rfl
noncomputable def Yl:Code:=f135.body.getD .skip
def X5:List Nat:=[]
def uq(s:ag):Option Int:=
 (sW s).bind fun r1=>
 (ur r1).bind fun r2=>
 some r2
theorem Jl{s:ag}{r:Int}(h:uq s=some r):CC Pg GE 135 [.str s] (.int .i64 r) []:=by
 obtain⟨r1,br1,h⟩:=aw h
 obtain⟨r2,br2,h⟩:=aw h
 obtain rfl:=lf h
 have z:=aX (vj br1)<|aX (Jo br2)<|en (aI (rP (.int .i64 r2))<|trivial)
 exact bo X5 call135 func135 (c:=Yl) rfl (aI trivial trivial) z<|by kernel_rfl
noncomputable def Ud:Code:=f136.body.getD .skip
def Sl:List Nat:=[]
section
variable(t7:waA)(t8:Int)(t9:Int)(m0:(List (ag×Bool)))
def eD:ax:=aP 19 [(3,.mapr 0),(7,sl cS t7),(8,.int .i64 t8),(9,.int .i64 t9)] [.map (yP PVal.bool m0)] []
def eE(o:((List (ag×Bool)))⊕((List (ag×Bool)))):Exit:=match o with
 |(.inl _)=>.ret
 |(.inr _)=>.exit 0
def dF(o:((List (ag×Bool)))⊕((List (ag×Bool)))):ax:=match o with
 |(.inl o)=>aP 19 [(2,.bool false)] [.map (yP PVal.bool o)] []
 |(.inr o)=>aP 19 [] [.map (yP PVal.bool o)] []
def bM:Option ((Int×(List (ag×Bool)))⊕(((List (ag×Bool)))⊕((List (ag×Bool))))):=
 if(decide (t9<t8))=true then
  (dt t7 t9).bind fun x2=>
  if((xJ m0 x2).getD false)=true then
   some (.inr (.inl m0))
  else
   some (.inl (bA (t9+1),Co m0 x2 true))
 else
  some (.inr (.inr m0))
def nE:Option (((List (ag×Bool)))⊕((List (ag×Bool)))):=loop (fun(zz:Int×(List (ag×Bool)))=>bM t7 t8 zz.1 zz.2) (t9,m0)
theorem yQ{y:(Int×(List (ag×Bool)))⊕(((List (ag×Bool)))⊕((List (ag×Bool))))}(h:bM t7 t8 t9 m0=some y):aL Pg GE 0 (cA Ud 119) (LQ (fun(zz:Int×(List (ag×Bool)))=>eD t7 t8 zz.1 zz.2) eE dF y) (eD t7 t8 t9 m0):=by
 rcases aK h with⟨c1,h⟩|⟨c1,h⟩
 ·obtain⟨x2,bx2,h⟩:=aw h
  have p4:=fun{sc F} (r:PS sc F)=>sg 0 c1<|sv (aZ.ia (k:=.i64) bx2)<|sv (dB Es (.str x2) [])<|sv (PT (f:=PVal.bool) underlying121 underlying9 Y4 m0 x2)<|r
  rcases aK h with⟨c3,h⟩|⟨c3,h⟩
  ·obtain rfl:=lf h
   have z:=p4<|sg 0 c3<|eF (eE (.inl m0)) (dF (.inl m0))
   exact eS Sl (by intro hx;cases hx) z<|by kernel_rfl
  ·obtain rfl:=lf h
   exact vJ Sl (p4<|sg 0 c3<|ZE (Tc (f:=PVal.bool) underlying121 underlying9 m0 x2 true)<|eF .normal (eD t7 t8 (bA (t9+1)) (Co m0 x2 true)))<|by kernel_rfl
 ·obtain rfl:=lf h
  have z:=sg 0 c1<|eF (eE (.inr m0)) (dF (.inr m0))
  exact eS Sl (by intro hx;cases hx) z<|by kernel_rfl
theorem qe{x:((List (ag×Bool)))⊕((List (ag×Bool)))}(h:nE t7 t8 t9 m0=some x):aL Pg GE 0 (.loop (cA Ud 119)) (EX (eE x) (dF x)) (eD t7 t8 t9 m0):=
 aL.loop (S:=fun(zz:Int×(List (ag×Bool)))=>eD t7 t8 zz.1 zz.2) (ex:=eE) (s:=(t9,m0)) h fun zz y hy=>yQ t7 t8 zz.1 zz.2 hy
end
def nD(a:waA):Option Bool:=
 (nE a (a.length:Int) 0 ([]:List (ag×Bool))).bind fun o5=>match o5 with
 |(.inl o5)=>
  some false
 |(.inr o5)=>
  some true
theorem Dy{a:waA}{r:Bool}(h:nD a=some r):CC Pg GE 136 [sl cS a] (.bool r) []:=by
 obtain⟨o5,bo5,h⟩:=aw h
 rcases o5 with o5|o5
 ·obtain rfl:=lf h
  have z:=b9 (aZ.ln a)<|cm (e:=.ret) (s1:=dF (.inl o5)) (qe a (a.length:Int) 0 ([]:List (ag×Bool)) bo5)<|en (aI (rP (.bool false))<|trivial)
  exact bo Sl call136 func136 (c:=Ud) rfl (aI (am d8 a) trivial) z<|by kernel_rfl
 ·obtain rfl:=lf h
  have z:=b9 (aZ.ln a)<|cm (e:=.exit 0) (s1:=dF (.inr o5)) (qe a (a.length:Int) 0 ([]:List (ag×Bool)) bo5)<|en (aI (rP (.bool true))<|trivial)
  exact bo Sl call136 func136 (c:=Ud) rfl (aI (am d8 a) trivial) z<|by kernel_rfl
abbrev qY:=(aa->Option Int)
abbrev wR(R:qY):Prop:=∀(p:aa) (r:Int),R p=some r->CC Pg GE 164 [.agg (ac p)] (.int .i64 r) []
noncomputable def VC:Code:=f164.body.getD .skip
def Vj:List Nat:=[18]
section
variable(R65:qY)(t7:waB)(t8:Int)(n:Int)(t9:Int)
def iF:ax:=aP 19 [(3,.int .i64 n),(7,sl ac t7),(8,.int .i64 t8),(9,.int .i64 t9)] [.dead] []
def qp(o:Int):ax:=aP 19 [(3,.int .i64 o)] [.dead] []
def yz:Option ((Int×Int)⊕(Int)):=
 if(decide (t9<t8))=true then
  (dt t7 t9).bind fun x2=>
  (R65 x2).bind fun r3=>
  some (.inl (bA (n+r3),bA (t9+1)))
 else
  some (.inr n)
def BC:Option Int:=loop (fun(zz:Int×Int)=>yz R65 t7 t8 zz.1 zz.2) (n,t9)
theorem DT(hR65:wR R65){y:(Int×Int)⊕(Int)}(h:yz R65 t7 t8 n t9=some y):aL Pg GE 0 (cA VC 119) (LQ (fun(zz:Int×Int)=>iF t7 t8 zz.1 zz.2) (fun _=>.exit 0) qp y) (iF t7 t8 n t9):=by
 rcases aK h with⟨c1,h⟩|⟨c1,h⟩
 ·obtain⟨x2,bx2,h⟩:=aw h
  obtain⟨r3,br3,h⟩:=aw h
  obtain rfl:=lf h
  have z:=sg 0 c1<|sv (aS.ia (k:=.i64) bx2)<|sv (az x2)<|sx d9<|sx (bp x2)<|sv (aU x2 [])<|aX (hR65 _ _ br3)<|lG 0 .normal (iF t7 t8 (bA (n+r3)) (bA (t9+1))) rfl (cb (aI trivial (aI (up (am ah t7)) (aI trivial (aI trivial trivial))))) (aI trivial trivial)
  exact cc (A:=Vj) mixed z<|by kernel_rfl
 ·obtain rfl:=lf h
  have z:=sg 0 c1<|eF (.exit 0) (qp n)
  exact eS Vj (by intro hx;cases hx) z<|by kernel_rfl
theorem Fp(hR65:wR R65){x:Int}(h:BC R65 t7 t8 n t9=some x):aL Pg GE 0 (.loop (cA VC 119)) (EX (.exit 0) (qp x)) (iF t7 t8 n t9):=
 aL.loop (S:=fun(zz:Int×Int)=>iF t7 t8 zz.1 zz.2) (ex:=(fun _=>.exit 0)) (s:=(n,t9)) h fun zz y hy=>DT R65 t7 t8 zz.1 zz.2 hR65 hy
end
def DS(R65:qY)(p:aa):Option Int:=
 (BC R65 p.Kids (p.Kids.length:Int) 1 0).bind fun o4=>
 some o4
theorem JK(R65:qY)(hR65:wR R65){p:aa}{r:Int}(h:DS R65 p=some r):CC Pg GE 164 [.agg (ac p)] (.int .i64 r) []:=by
 obtain⟨o4,bo4,h⟩:=aw h
 obtain rfl:=lf h
 have z:=se (bh p)<|sv (aH p)<|sv (aJ p)<|b9 (aS.ln p.Kids)<|cm (Fp R65 p.Kids (p.Kids.length:Int) 1 0 hR65 bo4)<|en (aI (rP (.int .i64 o4))<|trivial)
 exact bo Vj call164 func164 (c:=VC) rfl (aI (ah p) trivial) z<|by kernel_rfl
def xU:(aa->Option Int)->(aa)->Option Int:=fun(rec:aa->Option Int) (x:aa)=>DS (fun p=>rec p) x
def oQ(p:aa):Option Int:=ku xU p
theorem BD{p:aa}{r:Int}(h:oQ p=some r):CC Pg GE 164 [.agg (ac p)] (.int .i64 r) []:=
 cn (F:=xU) (M:=fun(x:aa) (r:Int)=>CC Pg GE 164 [.agg (ac x)] (.int .i64 r) []) (fun rec hrec x r h=>JK _ (fun p r h=>hrec p r h) h) h
abbrev qX:=(aa->Option Int)
abbrev wQ(R:qX):Prop:=∀(p:aa) (r:Int),R p=some r->CC Pg GE 165 [.agg (ac p)] (.int .i64 r) []
noncomputable def VD:Code:=f165.body.getD .skip
def Vk:List Nat:=[]
section
variable(R66:qX)(t7:waB)(t8:Int)(n:Int)(t9:Int)
def iE:ax:=aP 20 [(3,.int .i64 n),(7,sl ac t7),(8,.int .i64 t8),(9,.int .i64 t9)] [.dead] []
def qo(o:Int):ax:=aP 20 [(3,.int .i64 o)] [.dead] []
def yy:Option ((Int×Int)⊕(Int)):=
 if(decide (t9<t8))=true then
  (dt t7 t9).bind fun x2=>
  (R66 x2).bind fun r3=>
  some (.inl ((if r3>n then r3 else n),bA (t9+1)))
 else
  some (.inr n)
def BA:Option Int:=loop (fun(zz:Int×Int)=>yy R66 t7 t8 zz.1 zz.2) (n,t9)
theorem DQ(hR66:wQ R66){y:(Int×Int)⊕(Int)}(h:yy R66 t7 t8 n t9=some y):aL Pg GE 0 (cA VD 119) (LQ (fun(zz:Int×Int)=>iE t7 t8 zz.1 zz.2) (fun _=>.exit 0) qo y) (iE t7 t8 n t9):=by
 rcases aK h with⟨c1,h⟩|⟨c1,h⟩
 ·obtain⟨x2,bx2,h⟩:=aw h
  obtain⟨r3,br3,h⟩:=aw h
  obtain rfl:=lf h
  have z:=sg 0 c1<|sv (aS.ia (k:=.i64) bx2)<|sv (az x2)<|sx d9<|sx (bp x2)<|sv (aU x2 [])<|aX (hR66 _ _ br3)<|lG 0 .normal (iE t7 t8 (if r3>n then r3 else n) (bA (t9+1))) rfl (cb (aI trivial (aI (up (am ah t7)) (aI trivial (aI trivial trivial))))) (aI trivial trivial)
  exact cc (A:=Vk) mixed z<|by kernel_rfl
 ·obtain rfl:=lf h
  have z:=sg 0 c1<|eF (.exit 0) (qo n)
  exact eS Vk (by intro hx;cases hx) z<|by kernel_rfl
theorem Fo(hR66:wQ R66){x:Int}(h:BA R66 t7 t8 n t9=some x):aL Pg GE 0 (.loop (cA VD 119)) (EX (.exit 0) (qo x)) (iE t7 t8 n t9):=
 aL.loop (S:=fun(zz:Int×Int)=>iE t7 t8 zz.1 zz.2) (ex:=(fun _=>.exit 0)) (s:=(n,t9)) h fun zz y hy=>DQ R66 t7 t8 zz.1 zz.2 hR66 hy
end
def DP(R66:qX)(p:aa):Option Int:=
 (BA R66 p.Kids (p.Kids.length:Int) 0 0).bind fun o4=>
 some (bA (o4+1))
theorem JJ(R66:qX)(hR66:wQ R66){p:aa}{r:Int}(h:DP R66 p=some r):CC Pg GE 165 [.agg (ac p)] (.int .i64 r) []:=by
 obtain⟨o4,bo4,h⟩:=aw h
 obtain rfl:=lf h
 have z:=se (bh p)<|sv (aH p)<|sv (aJ p)<|b9 (aS.ln p.Kids)<|cm (Fo R66 p.Kids (p.Kids.length:Int) 0 0 hR66 bo4)<|en (aI (rP (.int .i64 (bA (o4+1))))<|trivial)
 exact bo Vk call165 func165 (c:=VD) rfl (aI (ah p) trivial) z<|by kernel_rfl
def xS:(aa->Option Int)->(aa)->Option Int:=fun(rec:aa->Option Int) (x:aa)=>DP (fun p=>rec p) x
def oP(p:aa):Option Int:=ku xS p
theorem BB{p:aa}{r:Int}(h:oP p=some r):CC Pg GE 165 [.agg (ac p)] (.int .i64 r) []:=
 cn (F:=xS) (M:=fun(x:aa) (r:Int)=>CC Pg GE 165 [.agg (ac x)] (.int .i64 r) []) (fun rec hrec x r h=>JJ _ (fun p r h=>hrec p r h) h) h
noncomputable def Pk:Code:=f182.body.getD .skip
def HW:List Nat:=[]
section
variable(t4:Int)
def JN:ax:=aP 15 [(4,.int .i64 t4)] [] []
def nJ(o:Bool):ax:=aP 15 [(4,.int .i64 t4),(5,.bool o)] [] []
def xX:Option Bool:=
 if(t4==1)=true then
  some (t4==1)
 else
  if(t4==2)=true then
   some (t4==2)
  else
   some (t4==3)
theorem Hk{x:Bool}(h:xX t4=some x):aL Pg GE 0 (cA Pk 54) (EX .normal (nJ t4 x)) (JN t4):=by
 rcases aK h with⟨c1,h⟩|⟨c1,h⟩
 ·obtain rfl:=lf h
  exact bE HW (sg 0 c1<|eF .normal (nJ t4 (t4==1)))<|by kernel_rfl
 ·rcases aK h with⟨c2,h⟩|⟨c2,h⟩
  ·obtain rfl:=lf h
   exact bE HW (sg 0 c1<|sg 0 c2<|eF .normal (nJ t4 (t4==2)))<|by kernel_rfl
  ·obtain rfl:=lf h
   exact bE HW (sg 0 c1<|sg 0 c2<|eF .normal (nJ t4 (t4==3)))<|by kernel_rfl
end
section
variable(t4:Int)
def JO:ax:=aP 15 [(4,.int .i64 t4)] [] []
def tc(o:Bool):ax:=aP 15 [(4,.int .i64 t4),(9,.bool o)] [] []
def xY:Option Bool:=
 if(t4==4)=true then
  some (t4==4)
 else
  some (t4==5)
theorem Hl{x:Bool}(h:xY t4=some x):aL Pg GE 0 (cA Pk 222) (EX .normal (tc t4 x)) (JO t4):=by
 rcases aK h with⟨c6,h⟩|⟨c6,h⟩
 ·obtain rfl:=lf h
  exact bE HW (sg 0 c6<|eF .normal (tc t4 (t4==4)))<|by kernel_rfl
 ·obtain rfl:=lf h
  exact bE HW (sg 0 c6<|eF .normal (tc t4 (t4==5)))<|by kernel_rfl
end
section
variable(t4:Int)
def JP:ax:=aP 15 [(4,.int .i64 t4)] [] []
def td(o:Bool):ax:=aP 15 [(12,.bool o)] [] []
def xZ:Option Bool:=
 if(t4==9)=true then
  some (t4==9)
 else
  some (t4==14)
theorem Hm{x:Bool}(h:xZ t4=some x):aL Pg GE 0 (cA Pk 894) (EX .normal (td x)) (JP t4):=by
 rcases aK h with⟨c10,h⟩|⟨c10,h⟩
 ·obtain rfl:=lf h
  exact bE HW (sg 0 c10<|eF .normal (td (t4==9)))<|by kernel_rfl
 ·obtain rfl:=lf h
  exact bE HW (sg 0 c10<|eF .normal (td (t4==14)))<|by kernel_rfl
end
def AL(op:Int):Option (Int×Int):=
 (xX op).bind fun o3=>
 if o3=true then
  some (0,0)
 else
  (xY op).bind fun o7=>
  if o7=true then
   some (1,24)
  else
   (xZ op).bind fun o11=>
   if o11=true then
    some (1,1)
   else
    some (2,2)
theorem Nm{op:Int}{r:Int×Int}(h:AL op=some r):CC Pg GE 182 [.int .i64 op] (.tuple [.int .i64 r.1,.int .i64 r.2]) []:=by
 obtain⟨o3,bo3,h⟩:=aw h
 have p5:=fun{sc F} (r:PS sc F)=>jC 3<|cm (Hk op bo3)<|r
 rcases aK h with⟨c4,h⟩|⟨c4,h⟩
 ·obtain rfl:=lf h
  have z:=p5<|sg 0 c4<|en (aI (rP (.tuple [.int .i64 0,.int .i64 0]))<|(aI trivial (aI trivial trivial)))
  exact bo HW call182 func182 (c:=Pk) rfl (aI trivial trivial) z<|by kernel_rfl
 ·obtain⟨o7,bo7,h⟩:=aw h
  have p9:=fun{sc F} (r:PS sc F)=>p5<|sg 0 c4<|jC 0<|cm (Hl op bo7)<|r
  rcases aK h with⟨c8,h⟩|⟨c8,h⟩
  ·obtain rfl:=lf h
   have z:=p9<|sg 0 c8<|en (aI (rP (.tuple [.int .i64 1,.int .i64 24]))<|(aI trivial (aI trivial trivial)))
   exact bo HW call182 func182 (c:=Pk) rfl (aI trivial trivial) z<|by kernel_rfl
  ·obtain⟨o11,bo11,h⟩:=aw h
   have p13:=fun{sc F} (r:PS sc F)=>p9<|sg 0 c8<|jC 0<|cm (Hm op bo11)<|r
   rcases aK h with⟨c12,h⟩|⟨c12,h⟩
   ·obtain rfl:=lf h
    have z:=p13<|sg 0 c12<|en (aI (rP (.tuple [.int .i64 1,.int .i64 1]))<|(aI trivial (aI trivial trivial)))
    exact bo HW call182 func182 (c:=Pk) rfl (aI trivial trivial) z<|by kernel_rfl
   ·obtain rfl:=lf h
    have z:=p13<|sg 0 c12<|en (aI (rP (.tuple [.int .i64 2,.int .i64 2]))<|(aI trivial (aI trivial trivial)))
    exact bo HW call182 func182 (c:=Pk) rfl (aI trivial trivial) z<|by kernel_rfl
noncomputable def VE:Code:=f183.body.getD .skip
def Vm:List Nat:=[]
def ya(op:Int):Option Bool:=
 if(op==3)=true then
  some true
 else
  if(op==4)=true then
   some true
  else
   some (op==5)
theorem BE{op:Int}{r:Bool}(h:ya op=some r):CC Pg GE 183 [.int .i64 op] (.bool r) []:=by
 rcases aK h with⟨c1,h⟩|⟨c1,h⟩
 ·obtain rfl:=lf h
  have z:=sg 3 c1<|en (aI (rP (.bool true))<|trivial)
  exact bo Vm call183 func183 (c:=VE) rfl (aI trivial trivial) z<|by kernel_rfl
 ·rcases aK h with⟨c2,h⟩|⟨c2,h⟩
  ·obtain rfl:=lf h
   have z:=sg 3 c1<|sg 7 c2<|en (aI (rP (.bool true))<|trivial)
   exact bo Vm call183 func183 (c:=VE) rfl (aI trivial trivial) z<|by kernel_rfl
  ·obtain rfl:=lf h
   have z:=sg 3 c1<|sg 7 c2<|en (aI (rP (.bool (op==5)))<|trivial)
   exact bo Vm call183 func183 (c:=VE) rfl (aI trivial trivial) z<|by kernel_rfl
noncomputable def W2:Code:=f184.body.getD .skip
def WA:List Nat:=[]
def PX(n:Int):Option Bool:=
 if(decide (n>=(-1000000000000)))=true then
  some (decide (n<=1000000000000))
 else
  some false
theorem RC{n:Int}{r:Bool}(h:PX n=some r):CC Pg GE 184 [.int .i64 n] (.bool r) []:=by
 rcases aK h with⟨c1,h⟩|⟨c1,h⟩
 ·obtain rfl:=lf h
  have z:=sg 3 c1<|en (aI (rP (.bool (decide (n<=1000000000000))))<|trivial)
  exact bo WA call184 func184 (c:=W2) rfl (aI trivial trivial) z<|by kernel_rfl
 ·obtain rfl:=lf h
  have z:=sg 3 c1<|en (aI (rP (.bool false))<|trivial)
  exact bo WA call184 func184 (c:=W2) rfl (aI trivial trivial) z<|by kernel_rfl
noncomputable def Cc:Code:=f166.body.getD .skip
def fG:List Nat:=[]
section
variable(p:aa)
def JQ:ax:=aP 130 [(1,.eptr (ac p))] [.dead] []
def te(o:Bool):ax:=aP 130 [(1,.eptr (ac p)),(14,.bool o)] [.dead] []
def rt:Option Bool:=
 if(decide (p.Op<1))=true then
  some true
 else
  some (decide (p.Op>18))
theorem Hn{x:Bool}(h:rt p=some x):aL Pg GE 0 (cA Cc 12) (EX .normal (te p x)) (JQ p):=by
 have p2:=fun{sc F} (r:PS sc F)=>sv (aB p)<|sv (aC p)<|r
 rcases aK h with⟨c1,h⟩|⟨c1,h⟩
 ·obtain rfl:=lf h
  exact bE fG (p2<|sg 4 c1<|eF .normal (te p true))<|by kernel_rfl
 ·obtain rfl:=lf h
  exact bE fG (p2<|sg 4 c1<|sv (aB p)<|sv (aC p)<|eF .normal (te p (decide (p.Op>18))))<|by kernel_rfl
end
section
variable(p:aa)(least:Int)(most:Int)
def JR:ax:=aP 130 [(1,.eptr (ac p)),(3,.int .i64 least),(4,.int .i64 most)] [.dead] []
def cd(o:Bool):ax:=aP 130 [(1,.eptr (ac p)),(58,.bool o)] [.dead] []
def ru:Option Bool:=
 (ya p.Op).bind fun r7=>
 if (!r7) = true then
  if(!(p.Name==([]:ag)))=true then
   some true
  else
   if (p.Op != 1) = true then
    if (p.Op != 2) = true then
     if(p.N !=0)=true then
      some true
     else
      if(decide ((p.Kids.length:Int)<least))=true then
       some true
      else
       some (decide ((p.Kids.length:Int)>most))
    else
     if(decide ((p.Kids.length:Int)<least))=true then
      some true
     else
      some (decide ((p.Kids.length:Int)>most))
   else
    if(decide ((p.Kids.length:Int)<least))=true then
     some true
    else
     some (decide ((p.Kids.length:Int)>most))
 else
  if (p.Op != 1) = true then
   if (p.Op != 2) = true then
    if(p.N !=0)=true then
     some true
    else
     if(decide ((p.Kids.length:Int)<least))=true then
      some true
     else
      some (decide ((p.Kids.length:Int)>most))
   else
    if(decide ((p.Kids.length:Int)<least))=true then
     some true
    else
     some (decide ((p.Kids.length:Int)>most))
  else
   if(decide ((p.Kids.length:Int)<least))=true then
    some true
   else
    some (decide ((p.Kids.length:Int)>most))
theorem Ho{x:Bool}(h:ru p least most=some x):aL Pg GE 0 (cA Cc 60) (EX .normal (cd p x)) (JR p least most):=by
 obtain⟨r7,br7,h⟩:=aw h
 have p9:=fun{sc F} (r:PS sc F)=>sv (aB p)<|sv (aC p)<|aX (BE br7)<|r
 rcases aK h with⟨c8,h⟩|⟨c8,h⟩
 ·have p11:=fun{sc F} (r:PS sc F)=>p9<|sg 5 c8<|sv (bF p)<|sv (bN p)<|r
  rcases aK h with⟨c10,h⟩|⟨c10,h⟩
  ·obtain rfl:=lf h
   exact bE fG (p11<|sg 10 c10<|eF .normal (cd p true))<|by kernel_rfl
  ·have p13:=fun{sc F} (r:PS sc F)=>p11<|sg 10 c10<|sv (aB p)<|sv (aC p)<|r
   rcases aK h with⟨c12,h⟩|⟨c12,h⟩
   ·have p15:=fun{sc F} (r:PS sc F)=>p13<|sg 14 c12<|sv (aB p)<|sv (aC p)<|r
    rcases aK h with⟨c14,h⟩|⟨c14,h⟩
    ·have p17:=fun{sc F} (r:PS sc F)=>p15<|sg 19 c14<|sv (bG p)<|sv (bO p)<|r
     rcases aK h with⟨c16,h⟩|⟨c16,h⟩
     ·obtain rfl:=lf h
      exact bE fG (p17<|sg 25 c16<|eF .normal (cd p true))<|by kernel_rfl
     ·have p19:=fun{sc F} (r:PS sc F)=>p17<|sg 25 c16<|sv (aH p)<|sv (aJ p)<|b9 (aS.ln p.Kids)<|r
      rcases aK h with⟨c18,h⟩|⟨c18,h⟩
      ·obtain rfl:=lf h
       exact bE fG (p19<|sg 32 c18<|eF .normal (cd p true))<|by kernel_rfl
      ·obtain rfl:=lf h
       exact bE fG (p19<|sg 32 c18<|sv (aH p)<|sv (aJ p)<|b9 (aS.ln p.Kids)<|eF .normal (cd p (decide ((p.Kids.length:Int)>most))))<|by kernel_rfl
    ·have p21:=fun{sc F} (r:PS sc F)=>p15<|sg 19 c14<|sv (aH p)<|sv (aJ p)<|b9 (aS.ln p.Kids)<|r
     rcases aK h with⟨c20,h⟩|⟨c20,h⟩
     ·obtain rfl:=lf h
      exact bE fG (p21<|sg 32 c20<|eF .normal (cd p true))<|by kernel_rfl
     ·obtain rfl:=lf h
      exact bE fG (p21<|sg 32 c20<|sv (aH p)<|sv (aJ p)<|b9 (aS.ln p.Kids)<|eF .normal (cd p (decide ((p.Kids.length:Int)>most))))<|by kernel_rfl
   ·have p23:=fun{sc F} (r:PS sc F)=>p13<|sg 14 c12<|sv (aH p)<|sv (aJ p)<|b9 (aS.ln p.Kids)<|r
    rcases aK h with⟨c22,h⟩|⟨c22,h⟩
    ·obtain rfl:=lf h
     exact bE fG (p23<|sg 32 c22<|eF .normal (cd p true))<|by kernel_rfl
    ·obtain rfl:=lf h
     exact bE fG (p23<|sg 32 c22<|sv (aH p)<|sv (aJ p)<|b9 (aS.ln p.Kids)<|eF .normal (cd p (decide ((p.Kids.length:Int)>most))))<|by kernel_rfl
 ·have p25:=fun{sc F} (r:PS sc F)=>p9<|sg 5 c8<|sv (aB p)<|sv (aC p)<|r
  rcases aK h with⟨c24,h⟩|⟨c24,h⟩
  ·have p27:=fun{sc F} (r:PS sc F)=>p25<|sg 14 c24<|sv (aB p)<|sv (aC p)<|r
   rcases aK h with⟨c26,h⟩|⟨c26,h⟩
   ·have p29:=fun{sc F} (r:PS sc F)=>p27<|sg 19 c26<|sv (bG p)<|sv (bO p)<|r
    rcases aK h with⟨c28,h⟩|⟨c28,h⟩
    ·obtain rfl:=lf h
     exact bE fG (p29<|sg 25 c28<|eF .normal (cd p true))<|by kernel_rfl
    ·have p31:=fun{sc F} (r:PS sc F)=>p29<|sg 25 c28<|sv (aH p)<|sv (aJ p)<|b9 (aS.ln p.Kids)<|r
     rcases aK h with⟨c30,h⟩|⟨c30,h⟩
     ·obtain rfl:=lf h
      exact bE fG (p31<|sg 32 c30<|eF .normal (cd p true))<|by kernel_rfl
     ·obtain rfl:=lf h
      exact bE fG (p31<|sg 32 c30<|sv (aH p)<|sv (aJ p)<|b9 (aS.ln p.Kids)<|eF .normal (cd p (decide ((p.Kids.length:Int)>most))))<|by kernel_rfl
   ·have p33:=fun{sc F} (r:PS sc F)=>p27<|sg 19 c26<|sv (aH p)<|sv (aJ p)<|b9 (aS.ln p.Kids)<|r
    rcases aK h with⟨c32,h⟩|⟨c32,h⟩
    ·obtain rfl:=lf h
     exact bE fG (p33<|sg 32 c32<|eF .normal (cd p true))<|by kernel_rfl
    ·obtain rfl:=lf h
     exact bE fG (p33<|sg 32 c32<|sv (aH p)<|sv (aJ p)<|b9 (aS.ln p.Kids)<|eF .normal (cd p (decide ((p.Kids.length:Int)>most))))<|by kernel_rfl
  ·have p35:=fun{sc F} (r:PS sc F)=>p25<|sg 14 c24<|sv (aH p)<|sv (aJ p)<|b9 (aS.ln p.Kids)<|r
   rcases aK h with⟨c34,h⟩|⟨c34,h⟩
   ·obtain rfl:=lf h
    exact bE fG (p35<|sg 32 c34<|eF .normal (cd p true))<|by kernel_rfl
   ·obtain rfl:=lf h
    exact bE fG (p35<|sg 32 c34<|sv (aH p)<|sv (aJ p)<|b9 (aS.ln p.Kids)<|eF .normal (cd p (decide ((p.Kids.length:Int)>most))))<|by kernel_rfl
end
section
variable(p:aa)
def JS:ax:=aP 130 [(1,.eptr (ac p))] [.dead] []
def d5(o:Bool):ax:=aP 130 [(1,.eptr (ac p)),(82,.bool o)] [.dead] []
def rv:Option Bool:=
 if (p.Op == 1) = true then
  (PX p.N).bind fun r41=>
  if(!r41)=true then
   some true
  else
   if(p.Op==2)=true then
    if(p.N !=0)=true then
     some (p.N !=1)
    else
     some false
   else
    some false
 else
  if(p.Op==2)=true then
   if(p.N !=0)=true then
    some (p.N !=1)
   else
    some false
  else
   some false
theorem Hp{x:Bool}(h:rv p=some x):aL Pg GE 0 (cA Cc 124) (EX .normal (d5 p x)) (JS p):=by
 have p40:=fun{sc F} (r:PS sc F)=>sv (aB p)<|sv (aC p)<|r
 rcases aK h with⟨c39,h⟩|⟨c39,h⟩
 ·obtain⟨r41,br41,h⟩:=aw h
  have p43:=fun{sc F} (r:PS sc F)=>p40<|sg 4 c39<|sv (bG p)<|sv (bO p)<|aX (RC br41)<|r
  rcases aK h with⟨c42,h⟩|⟨c42,h⟩
  ·obtain rfl:=lf h
   exact bE fG (p43<|sg 10 c42<|eF .normal (d5 p true))<|by kernel_rfl
  ·have p45:=fun{sc F} (r:PS sc F)=>p43<|sg 10 c42<|sv (aB p)<|sv (aC p)<|r
   rcases aK h with⟨c44,h⟩|⟨c44,h⟩
   ·have p47:=fun{sc F} (r:PS sc F)=>p45<|sg 14 c44<|sv (bG p)<|sv (bO p)<|r
    rcases aK h with⟨c46,h⟩|⟨c46,h⟩
    ·obtain rfl:=lf h
     exact bE fG (p47<|sg 19 c46<|sv (bG p)<|sv (bO p)<|eF .normal (d5 p (p.N !=1)))<|by kernel_rfl
    ·obtain rfl:=lf h
     exact bE fG (p47<|sg 19 c46<|eF .normal (d5 p false))<|by kernel_rfl
   ·obtain rfl:=lf h
    exact bE fG (p45<|sg 14 c44<|eF .normal (d5 p false))<|by kernel_rfl
 ·have p49:=fun{sc F} (r:PS sc F)=>p40<|sg 4 c39<|sv (aB p)<|sv (aC p)<|r
  rcases aK h with⟨c48,h⟩|⟨c48,h⟩
  ·have p51:=fun{sc F} (r:PS sc F)=>p49<|sg 14 c48<|sv (bG p)<|sv (bO p)<|r
   rcases aK h with⟨c50,h⟩|⟨c50,h⟩
   ·obtain rfl:=lf h
    exact bE fG (p51<|sg 19 c50<|sv (bG p)<|sv (bO p)<|eF .normal (d5 p (p.N !=1)))<|by kernel_rfl
   ·obtain rfl:=lf h
    exact bE fG (p51<|sg 19 c50<|eF .normal (d5 p false))<|by kernel_rfl
  ·obtain rfl:=lf h
   exact bE fG (p49<|sg 14 c48<|eF .normal (d5 p false))<|by kernel_rfl
end
section
variable(p:aa)
def JU:ax:=aP 130 [(1,.eptr (ac p))] [.dead] []
def tf(o:Bool):ax:=aP 130 [(1,.eptr (ac p)),(91,.bool o)] [.dead] []
def yb:Option Bool:=
 (ya p.Op).bind fun r55=>
 if r55=true then
  (sS p.Name).bind fun r58=>
  some (r58 !=0)
 else
  some false
theorem Hq{x:Bool}(h:yb p=some x):aL Pg GE 0 (cA Cc 252) (EX .normal (tf p x)) (JU p):=by
 obtain⟨r55,br55,h⟩:=aw h
 have p57:=fun{sc F} (r:PS sc F)=>sv (aB p)<|sv (aC p)<|aX (BE br55)<|r
 rcases aK h with⟨c56,h⟩|⟨c56,h⟩
 ·obtain⟨r58,br58,h⟩:=aw h
  obtain rfl:=lf h
  exact bE fG (p57<|sg 4 c56<|sv (bF p)<|sv (bN p)<|aX (Bw br58)<|eF .normal (tf p (r58 !=0)))<|by kernel_rfl
 ·obtain rfl:=lf h
  exact bE fG (p57<|sg 4 c56<|eF .normal (tf p false))<|by kernel_rfl
end
section
variable(p:aa)
def JV:ax:=aP 130 [(1,.eptr (ac p))] [.dead] []
def tg(o:Bool):ax:=aP 130 [(1,.eptr (ac p)),(5,.bool o)] [.dead] []
def yc:Option Bool:=
 if(p.Op==3)=true then
  some (p.Name==([118]:ag))
 else
  some false
theorem Hr{x:Bool}(h:yc p=some x):aL Pg GE 0 (cA Cc 1012) (EX .normal (tg p x)) (JV p):=by
 have p63:=fun{sc F} (r:PS sc F)=>sv (aB p)<|sv (aC p)<|r
 rcases aK h with⟨c62,h⟩|⟨c62,h⟩
 ·obtain rfl:=lf h
  exact bE fG (p63<|sg 4 c62<|sv (bF p)<|sv (bN p)<|eF .normal (tg p (p.Name==([118]:ag))))<|by kernel_rfl
 ·obtain rfl:=lf h
  exact bE fG (p63<|sg 4 c62<|eF .normal (tg p false))<|by kernel_rfl
end
section
variable(p:aa)(v:Bool)
def JW:ax:=aP 130 [(1,.eptr (ac p)),(5,.bool v)] [.dead] []
def nM(o:Bool):ax:=aP 130 [(1,.eptr (ac p)),(5,.bool v),(6,.bool o)] [.dead] []
def yd:Option Bool:=
 if(p.Op==4)=true then
  if(p.Name==([116,97,103]:ag))=true then
   some true
  else
   some (p.Name==([118,97,108]:ag))
 else
  some false
theorem Hs{x:Bool}(h:yd p=some x):aL Pg GE 0 (cA Cc 2026) (EX .normal (nM p v x)) (JW p v):=by
 have p66:=fun{sc F} (r:PS sc F)=>sv (aB p)<|sv (aC p)<|r
 rcases aK h with⟨c65,h⟩|⟨c65,h⟩
 ·have p68:=fun{sc F} (r:PS sc F)=>p66<|sg 4 c65<|sv (bF p)<|sv (bN p)<|r
  rcases aK h with⟨c67,h⟩|⟨c67,h⟩
  ·obtain rfl:=lf h
   exact bE fG (p68<|sg 8 c67<|eF .normal (nM p v true))<|by kernel_rfl
  ·obtain rfl:=lf h
   exact bE fG (p68<|sg 8 c67<|sv (bF p)<|sv (bN p)<|eF .normal (nM p v (p.Name==([118,97,108]:ag))))<|by kernel_rfl
 ·obtain rfl:=lf h
  exact bE fG (p66<|sg 4 c65<|eF .normal (nM p v false))<|by kernel_rfl
end
section
variable(p:aa)(v:Bool)(symbol:Bool)
def JX:ax:=aP 130 [(1,.eptr (ac p)),(5,.bool v),(6,.bool symbol)] [.dead] []
def th(o:Bool):ax:=aP 130 [(1,.eptr (ac p)),(118,.bool o)] [.dead] []
def ye:Option Bool:=
 if(!v)=true then
  some (!symbol)
 else
  some false
theorem Ht{x:Bool}(h:ye v symbol=some x):aL Pg GE 0 (cA Cc 4054) (EX .normal (th p x)) (JX p v symbol):=by
 rcases aK h with⟨c70,h⟩|⟨c70,h⟩
 ·obtain rfl:=lf h
  exact bE fG (sg 3 c70<|eF .normal (th p (!symbol)))<|by kernel_rfl
 ·obtain rfl:=lf h
  exact bE fG (sg 3 c70<|eF .normal (th p false))<|by kernel_rfl
end
section
variable(p:aa)
def JT:ax:=aP 130 [(1,.eptr (ac p))] [.dead] []
def nK(o:Unit⊕(Unit)):Exit:=match o with
 |(.inl _)=>.ret
 |(.inr _)=>.normal
def gE(o:Unit⊕(Unit)):ax:=match o with
 |(.inl o)=>aP 130 [(2,.int .i64 3)] [.dead] []
 |(.inr o)=>aP 130 [(1,.eptr (ac p))] [.dead] []
def rx:Option (Unit⊕(Unit)):=
 (yb p).bind fun o59=>
 if o59=true then
  (yc p).bind fun o64=>
  (yd p).bind fun o69=>
  (ye o64 o69).bind fun o71=>
  if o71=true then
   some (.inl ())
  else
   some (.inr ())
 else
  some (.inr ())
theorem yC{x:Unit⊕(Unit)}(h:rx p=some x):aL Pg GE 0 (cA Cc 126) (EX (nK x) (gE p x)) (JT p):=by
 obtain⟨o59,bo59,h⟩:=aw h
 have p61:=fun{sc F} (r:PS sc F)=>jC 0<|cm (Hq p bo59)<|r
 rcases aK h with⟨c60,h⟩|⟨c60,h⟩
 ·obtain⟨o64,bo64,h⟩:=aw h
  obtain⟨o69,bo69,h⟩:=aw h
  obtain⟨o71,bo71,h⟩:=aw h
  have p73:=fun{sc F} (r:PS sc F)=>p61<|sg 0 c60<|jC 0<|cm (Hr p bo64)<|jC 0<|cm (Hs p o64 bo69)<|jC 0<|cm (Ht p o64 o69 bo71)<|r
  rcases aK h with⟨c72,h⟩|⟨c72,h⟩
  ·obtain rfl:=lf h
   exact bE fG (p73<|sg 0 c72<|eF (nK (.inl ())) (gE p (.inl ())))<|by kernel_rfl
  ·obtain rfl:=lf h
   exact bE fG (p73<|sg 0 c72<|eF (nK (.inr ())) (gE p (.inr ())))<|by kernel_rfl
 ·obtain rfl:=lf h
  exact bE fG (p61<|sg 0 c60<|eF (nK (.inr ())) (gE p (.inr ())))<|by kernel_rfl
end
section
variable(p:aa)
def JY:ax:=aP 130 [(1,.eptr (ac p))] [.dead] []
def ti(o:Bool):ax:=aP 130 [(129,.bool o)] [.dead] []
def yf:Option Bool:=
 if(p.Op==8)=true then
  (dt p.Kids 0).bind fun x77=>
  some (x77.Op !=1)
 else
  some false
theorem Hu{x:Bool}(h:yf p=some x):aL Pg GE 0 (cA Cc 508) (EX .normal (ti x)) (JY p):=by
 have p76:=fun{sc F} (r:PS sc F)=>sv (aB p)<|sv (aC p)<|r
 rcases aK h with⟨c75,h⟩|⟨c75,h⟩
 ·obtain⟨x77,bx77,h⟩:=aw h
  obtain rfl:=lf h
  exact bE fG (p76<|sg 4 c75<|sv (aH p)<|sv (aJ p)<|sv (aS.ia (k:=.i64) bx77)<|sv (aB x77)<|sv (aC x77)<|eF .normal (ti (x77.Op !=1)))<|by kernel_rfl
 ·obtain rfl:=lf h
  exact bE fG (p76<|sg 4 c75<|eF .normal (ti false))<|by kernel_rfl
end
def AM(p:aa):Option Int:=
 (rt p).bind fun o3=>
 if o3=true then
  some 1
 else
  (AL p.Op).bind fun r6=>
  (ru p r6.1 r6.2).bind fun o36=>
  if o36=true then
   some 1
  else
   (rv p).bind fun o52=>
   if o52=true then
    some 2
   else
    (rx p).bind fun o74=>match o74 with
    |(.inl o74)=>
     some 3
    | (.inr o74) =>
     (yf p).bind fun o78=>
     if o78=true then
      some 6
     else
      some 0
theorem DZ{p:aa}{r:Int}(h:AM p=some r):CC Pg GE 166 [.agg (ac p)] (.int .i64 r) []:=by
 obtain⟨o3,bo3,h⟩:=aw h
 have p5:=fun{sc F} (r:PS sc F)=>se (bh p)<|jC 1<|cm (Hn p bo3)<|r
 rcases aK h with⟨c4,h⟩|⟨c4,h⟩
 ·obtain rfl:=lf h
  have z:=p5<|sg 0 c4<|en (aI (rP (.int .i64 1))<|trivial)
  exact bo fG call166 func166 (c:=Cc) rfl (aI (ah p) trivial) z<|by kernel_rfl
 ·obtain⟨r6,br6,h⟩:=aw h
  obtain⟨o36,bo36,h⟩:=aw h
  have p38:=fun{sc F} (r:PS sc F)=>p5<|sg 0 c4<|sv (aB p)<|sv (aC p)<|aX (Nm br6)<|jC 1<|cm (Ho p r6.1 r6.2 bo36)<|r
  rcases aK h with⟨c37,h⟩|⟨c37,h⟩
  ·obtain rfl:=lf h
   have z:=p38<|sg 0 c37<|en (aI (rP (.int .i64 1))<|trivial)
   exact bo fG call166 func166 (c:=Cc) rfl (aI (ah p) trivial) z<|by kernel_rfl
  ·obtain⟨o52,bo52,h⟩:=aw h
   have p54:=fun{sc F} (r:PS sc F)=>p38<|sg 0 c37<|jC 1<|cm (Hp p bo52)<|r
   rcases aK h with⟨c53,h⟩|⟨c53,h⟩
   ·obtain rfl:=lf h
    have z:=p54<|sg 0 c53<|en (aI (rP (.int .i64 2))<|trivial)
    exact bo fG call166 func166 (c:=Cc) rfl (aI (ah p) trivial) z<|by kernel_rfl
   ·obtain⟨o74,bo74,h⟩:=aw h
    rcases o74 with o74|o74
    ·obtain rfl:=lf h
     have z:=p54<|sg 0 c53<|jC 0<|cm (e:=.ret) (s1:=gE p (.inl o74)) (yC p bo74)<|en (aI (rP (.int .i64 3))<|trivial)
     exact bo fG call166 func166 (c:=Cc) rfl (aI (ah p) trivial) z<|by kernel_rfl
    ·obtain⟨o78,bo78,h⟩:=aw h
     have p80:=fun{sc F} (r:PS sc F)=>p54<|sg 0 c53<|jC 0<|cm (e:=.normal) (s1:=gE p (.inr o74)) (yC p bo74)<|jC 1<|cm (Hu p bo78)<|r
     rcases aK h with⟨c79,h⟩|⟨c79,h⟩
     ·obtain rfl:=lf h
      have z:=p80<|sg 0 c79<|en (aI (rP (.int .i64 6))<|trivial)
      exact bo fG call166 func166 (c:=Cc) rfl (aI (ah p) trivial) z<|by kernel_rfl
     ·obtain rfl:=lf h
      have z:=p80<|sg 0 c79<|en (aI (rP (.int .i64 0))<|trivial)
      exact bo fG call166 func166 (c:=Cc) rfl (aI (ah p) trivial) z<|by kernel_rfl
abbrev qam:Nat:=137
noncomputable def Uk:Code:=f137.body.getD .skip
abbrev Zy:Code:=dc Uk [false]
abbrev YE:Code:=dc Uk [true,false]
abbrev YF:Code:=dc Uk [true,true,false]
abbrev Zz:Code:=dc Uk [true,true,true,false,false]
abbrev TS:Code:=dc Uk [true,true,true,false,true,false]
abbrev VX:Code:=dc Uk [true,true,true,true,false]
theorem VK:Uk=.seq Zy (.seq YE (.seq YF (.seq (.seq Zz (.block 0 (.rangeFunc (.tmp 12) #[13] (TU TS) (TV TS)))) (.seq VX .ret)))):=by kernel_rfl
def cD(s:Int)(x:aa):Option (Bool×Int):=(AM x).bind fun e=>if(e !=0)=true then some (false,e)else some (true,s)
def s9(p:aa):Option Int:=
 (oQ p).bind fun n=>if decide (n>400)=true then some 7 else
 (oP p).bind fun d=>if decide (d>40)=true then some 8 else
 (Eo cD p 0).bind fun q=>if q.1=true then some 0 else some q.2
abbrev Um(s:Int):List aA:=[.dead,.cells [.int .i64 s] []]
abbrev O8(s:Int):ax:=aP 19 [(2,.bptr 1 0)] (Um s) []
abbrev Kd(p:aa):ax:=aP 19 [(1,.eptr (ac p)),(2,.bptr 1 0)] (Um 0) []
theorem qar(p:aa):aL Pg GE 0 Zy (EX .normal (Kd p)) (aP 19 [(0,.agg (ac p))] [] []):=by
 have z:=se (bh p)<|sx (show jv Pg 40=some [.int .i64 0] by kernel_rfl)<|eF .normal (Kd p)
 exact dS (A:=[]) mixed z (by kernel_rfl)
theorem YH(p:aa){n:Int}(h:oQ p=some n)(c:decide (n>400)=true):aL Pg GE 0 YE (EX .ret (O8 7)) (Kd p):=by
 have z:=sv (az p)<|aX (BD h)<|sg 0 c<|ss<|eF .ret (O8 7)
 exact dS (A:=[]) mixed z (by kernel_rfl)
theorem YI(p:aa){n:Int}(h:oQ p=some n)(c:decide (n>400)=false):aL Pg GE 0 YE (EX .normal (Kd p)) (Kd p):=by
 have z:=sv (az p)<|aX (BD h)<|sg 0 c<|eF .normal (Kd p)
 exact dS (A:=[]) mixed z (by kernel_rfl)
theorem YJ(p:aa){n:Int}(h:oP p=some n)(c:decide (n>40)=true):aL Pg GE 0 YF (EX .ret (O8 8)) (Kd p):=by
 have z:=sv (az p)<|aX (BB h)<|sg 0 c<|ss<|eF .ret (O8 8)
 exact dS (A:=[]) mixed z (by kernel_rfl)
theorem YK(p:aa){n:Int}(h:oP p=some n)(c:decide (n>40)=false):aL Pg GE 0 YF (EX .normal (Kd p)) (Kd p):=by
 have z:=sv (az p)<|aX (BB h)<|sg 0 c<|eF .normal (Kd p)
 exact dS (A:=[]) mixed z (by kernel_rfl)
abbrev UJ(p:aa):ax:=aP 19 [(2,.bptr 1 0),(12,.func (.func fW) [] [.eptr (ac p)])] (Um 0) []
theorem qas(p:aa):aL Pg GE 0 Zz (EX .normal (UJ p)) (Kd p):=by
 have z:=sv (az p)<|aX (Lq p)<|eF .normal (UJ p)
 exact dS (A:=[]) mixed z (by kernel_rfl)
abbrev V2(s:Int)(x:aa):ax:=aP 19 [(2,.bptr 1 0),(3,.bptr 2 0)] (Um s++[.cells (Ny x) []]) []
theorem qat(s:Int)(x:aa):aL Pg GE 2 (TU TS) (EX .normal (V2 s x)) (aP 19 [(2,.bptr 1 0),(13,.agg (ac x))] (Um s) []):=by
 have z:=sx d9<|sx (bp x)<|eF .normal (V2 s x)
 exact dS (A:=[]) mixed z (by kernel_rfl)
abbrev V3(r:Int):ax:=aP 19 [(2,.bptr 1 0)] (Um r++[.dead]) []
theorem qau(s:Int)(x:aa){r:Bool×Int}(h:cD s x=some r):aL Pg GE 2 (TV TS) (EX (if r.1=true then .normal else .ret) (V3 r.2)) (V2 s x):=by
 unfold cD at h
 obtain⟨e,be,h⟩:=aw h
 rcases aK h with⟨c1,h⟩|⟨c1,h⟩
 ·cases h
  have z:=sv (aU x [])<|aX (DZ be)<|sg 0 c1<|ss<|eF .ret (V3 e)
  exact dS (A:=[]) mixed z (by kernel_rfl)
 ·cases h
  have z:=sv (aU x [])<|aX (DZ be)<|sg 0 c1<|eF .normal (V3 s)
  exact dS (A:=[]) mixed z (by kernel_rfl)
theorem YG(s:Int):aL Pg GE 2 (.seq VX .ret) (EX .ret (O8 0)) (O8 s):=by
 have z:=ss<|eF .ret (O8 0)
 exact dS (A:=[]) mixed z (by kernel_rfl)
theorem Xu(s:Int):aL Pg GE 2 .ret (EX .ret (O8 s)) (O8 s):=by
 have z:=eF .ret (O8 s)
 exact dS (A:=[]) mixed z (by kernel_rfl)
abbrev yi(fn:FuncId)(a:Array Value)(D:Nat)(b:Bool):Loop:={state:=if b then .ready else .done,pending:=if b then none else some .ret,fn:=fn,tmps:=a,params:=#[13],assign:=TU TS,body:=TV TS,defers:=D}
def JC(Γe:aV)(we:World)(bs:bD)(a:Array Value)(fn:FuncId)(l D:Nat)(b:Bool)(s:Int)(Γ:aV)(w:World):Prop:=
 ∃ow,SR Pg (HK GE Γe we) Γ bs ow w a (O8 s)/\¬bL bs ow l/\¬bL bs ow D/\w.heap[l]? =some (.loop (yi fn a D b))/\w.heap[D]? =some (.deferred (some []))
theorem WN{Γe:aV}{we:World}{bs:bD}{a:Array Value}{fn:FuncId}{l D:Nat}(hl:we.heap.size<=l)(hD:we.heap.size<=D)(hne:D≠l)(hb:bs.length=2):Yd Pg GE l ac cD (JC Γe we bs a fn l D) where
 base:=fun b s Γ w ⟨ow,h,_⟩=>h.base
 side:=fun b s Γ w ⟨ow,h,hTl,hTD,hhl,hhD⟩ Γ' bs' ow' w' a' st' h'=>
  ⟨ow,h.aside h',hTl,hTD,(h'.step.keep l (cz hhl) id).1.trans hhl,(h'.step.keep D (cz hhD) id).1.trans hhD⟩
 yield:=fun s Γ w x v n r ⟨ow,h,hTl,hTD,hhl,hhD⟩ hv hr=>by
  have hS4:=qau s x hr
  refine⟨_,_,_,_,run_yield hhl rfl,?_⟩
  have hz:(((#[13]:Array Tmp).zip #[v]).foldl (fun tmps (t,a)=>tmps.setIfInBounds t a) a)=a.setIfInBounds 13 v:=by simp
  show RoundIn Fence.wide n Pg l fn (((#[13]:Array Tmp).zip #[v]).foldl (fun tmps (t,a)=>tmps.setIfInBounds t a) a) (TU TS) (TV TS) w _
  rw[hz]
  have h7:SR Pg (HK GE Γe we) Γ bs ow w (a.setIfInBounds 13 v) (aP 19 [(2,.bptr 1 0),(13,.agg (ac x))] (Um s) []):=h.set (d:=13) (p:=.agg (ac x)) (hv.mono (.refl _ _) (fun i b hi=>by simp at hi))
  refine roundIn_of_wpIn trivial (wpIn_mono (aL.on (qat s x) (by decide) h7 (by rw[hb];decide) (some l) [] n) ?_)
  rintro e ⟨a1,ds1⟩ w1 ⟨rfl,Γ1,bs1,ow1,st1,h1,⟨rfl,rfl⟩,hbs1,hle1,hsz1,hk1⟩
  obtain⟨k1,t1⟩:=hk1 l (cz hhl) hTl
  obtain⟨k1D,t1D⟩:=hk1 D (cz hhD) hTD
  have hl1:=k1.trans hhl
  refine⟨_,run_beginRound hl1 rfl,?_⟩
  obtain⟨h1',hle1'⟩:=h1.putOther (l:=l) (o:=.loop {yi fn a D true with state:=.busy}) t1 (.inr hl) (fun c t fr e=>by rw[hl1]at e;cases e)
  have hb1:2<=bs1.length:=by have:=h1.bl;rw[this];exact vcv rfl
  obtain⟨bq,s'⟩:=r
  refine wpIn_mono (aL.on hS4 (by decide) h1' hb1 (some l) [] n) ?_
  rintro e ⟨a2,ds2⟩ w2 ⟨rfl,Γ2,bs2,ow2,st2,h2,⟨rfl,rfl⟩,hbs2,hle2,hsz2,hk2⟩
  have hl1':(w1.putObj l (.loop {yi fn a D true with state:=.busy})).heap[l]? =some (.loop {yi fn a D true with state:=.busy}):=World.putObj_heap_same (cz hl1)
  have hD1':(w1.putObj l (.loop {yi fn a D true with state:=.busy})).heap[D]? =some (.deferred (some [])):=(World.putObj_heap_other hne).trans (k1D.trans hhD)
  obtain⟨k2,t2⟩:=hk2 l (cz hl1') t1
  obtain⟨k2D,t2D⟩:=hk2 D (cz hD1') t1D
  have hl2:=k2.trans hl1'
  cases bq with
  |true=>
   refine⟨_,_,run_endRound none hl2,?_⟩
   obtain⟨h3,hle3⟩:=h2.putOther (l:=l) (o:=.loop {{yi fn a D true with state:=.busy}with state:=if(none:Option Code).isNone then .ready else .done,pending:=none}) t2 (.inr hl) (fun c t fr e=>by rw[hl2]at e;cases e)
   have hle:Γ.Le w Γ2 (w2.putObj l (.loop {{yi fn a D true with state:=.busy}with state:=if(none:Option Code).isNone then .ready else .done,pending:=none})):=((hle1.trans hle1').trans hle2).trans hle3
   obtain⟨ow3,h4,hT4⟩:=h.back rfl h3 hle (H':=Um s') (fun i hi=>(hbs2 i (by omega)).trans (hbs1 i (by omega))) ⟨trivial,⟨rfl,aI trivial trivial,fun x hx=>hx⟩,trivial⟩ hb.symm
   exact⟨Γ2,rfl,hle,ow3,h4,fun hx=>t2 (hT4 l hx),fun hx=>t2D (hT4 D hx),World.putObj_heap_same (cz hl2),(World.putObj_heap_other hne).trans (k2D.trans hD1')⟩
  |false=>
   refine⟨_,_,run_endRound (some .ret) hl2,?_⟩
   obtain⟨h3,hle3⟩:=h2.putOther (l:=l) (o:=.loop {{yi fn a D true with state:=.busy}with state:=if(some Code.ret:Option Code).isNone then .ready else .done,pending:=some .ret}) t2 (.inr hl) (fun c t fr e=>by rw[hl2]at e;cases e)
   have hle:Γ.Le w Γ2 (w2.putObj l (.loop {{yi fn a D true with state:=.busy}with state:=if(some Code.ret:Option Code).isNone then .ready else .done,pending:=some .ret})):=((hle1.trans hle1').trans hle2).trans hle3
   obtain⟨ow3,h4,hT4⟩:=h.back rfl h3 hle (H':=Um s') (fun i hi=>(hbs2 i (by omega)).trans (hbs1 i (by omega))) ⟨trivial,⟨rfl,aI trivial trivial,fun x hx=>hx⟩,trivial⟩ hb.symm
   exact⟨Γ2,rfl,hle,ow3,h4,fun hx=>t2 (hT4 l hx),fun hx=>t2D (hT4 D hx),World.putObj_heap_same (cz hl2),(World.putObj_heap_other hne).trans (k2D.trans hD1')⟩
theorem K8{p:aa}{r:Int}(h:s9 p=some r):CC Pg GE qam [.agg (ac p)] (.int .i64 r) []:=by
 refine⟨aI (ah p) trivial,call137,fun Γ bs ow w vs hS=>(callsIn_wide (n:=0)).1 (callsIn_of_wp_marks func137 (c:=Uk) rfl trivial ?_)⟩
 obtain rfl:bs=[]:=vao hS.bl
 obtain⟨v,rfl⟩:∃v,vs=#[v]:=vbF.1 hS.sz
 have hB:Km GE Γ w:=hS.base
 have hE:Be GE 0 (HK GE Γ w):=hB.good
 have hvr:VR Γ [] w (.agg (ac p)) v:=hS.tm 0 _ _ rfl rfl
 have h0:SR Pg (HK GE Γ w) Γ [] (fun _=>none) w (#[v]++Array.replicate 18 undef) (aP 19 [(0,.agg (ac p))] [] []):=by
  refine hB.fresh (a:=#[v]++Array.replicate 18 undef) 0 (tmps:=[.agg (ac p)]++List.replicate 18 .undef) (by simp) fun t q u hq hu=>?_
  by_cases ht:t<1
  ·rw[vac (by simpa using ht)]at hq
   rw[vaI (by simpa using ht)]at hu
   match t,ht with
   |0,_=>simp at hq hu;subst hq;subst hu;exact hvr
  ·rw[vae (by show 1<=t;omega),vaN]at hq
   split at hq<;>cases hq
   exact .undef u
 have key:∀R:Ending->World->Prop,(∀{Γ6:aV} {bs6:bD} {ow6:Nat->Option kH} {a6:Array Value} {w6:World},SR Pg (HK GE Γ w) Γ6 bs6 ow6 w6 a6 (O8 r)->LeavesInM Fence.wide 0 Pg f137 a6 R [] .returning w6)->
   Uk.wpIn Fence.wide 0 Pg (bodyPostM Fence.wide 0 Pg f137 R) ⟨#[v]++Array.replicate 18 undef,[]⟩ w:=fun R hfin=>by
  unfold s9 at h
  obtain⟨n1,b1,h⟩:=aw h
  rw[VK]
  refine wpIn_seq (wpIn_mono (aL.wideE (qar p) hE h0 0 []) ?_)
  rintro e ⟨a1,ds1⟩ w1 ⟨rfl,Γ1,bs1,ow1,st1,h1,rfl,rfl⟩
  rcases aK h with⟨c1,h⟩|⟨c1,h⟩
  ·cases h
   refine wpIn_seq (wpIn_mono (aL.wideE (YH p b1 c1) hE h1 0 []) ?_)
   rintro e ⟨a2,ds2⟩ w2 ⟨rfl,Γ2,bs2,ow2,st2,h2,rfl,rfl⟩
   exact hfin h2
  refine wpIn_seq (wpIn_mono (aL.wideE (YI p b1 c1) hE h1 0 []) ?_)
  rintro e ⟨a2,ds2⟩ w2 ⟨rfl,Γ2,bs2,ow2,st2,h2,rfl,rfl⟩
  obtain⟨n2,b2,h⟩:=aw h
  rcases aK h with⟨c2,h⟩|⟨c2,h⟩
  ·cases h
   refine wpIn_seq (wpIn_mono (aL.wideE (YJ p b2 c2) hE h2 0 []) ?_)
   rintro e ⟨a3,ds3⟩ w3 ⟨rfl,Γ3,bs3,ow3,st3,h3,rfl,rfl⟩
   exact hfin h3
  refine wpIn_seq (wpIn_mono (aL.wideE (YK p b2 c2) hE h2 0 []) ?_)
  rintro e ⟨a22,ds22⟩ w22 ⟨rfl,Γ22,bs22,ow22,st22,h22,rfl,rfl⟩
  obtain⟨q,hq,h⟩:=aw h
  refine wpIn_seq (wpIn_seq (wpIn_mono (aL.wideE (qas p) hE h22 0 []) ?_))
  rintro e ⟨a3,ds3⟩ w3 ⟨rfl,Γ3,bs3,ow3,st3,h3,rfl,rfl⟩
  have h6:=h3.opv [] (.tmp 12)
  have e6:opv (HK GE Γ w).GE (UJ p).tmps (.tmp 12)=.func (.func fW) [] [.eptr (ac p)]:=rfl
  rw[e6]at h6
  have hbl:bs3.length=2:=h3.bl
  refine wpIn_block (wpIn_rangeFunc fun fn _=>?_)
  obtain⟨g1,l1⟩:=h3.allocO (.deferred (some []))
  obtain⟨g2,l2⟩:=g1.allocO (.loop (yi fn a3 w3.heap.size true))
  have gF:=g2.forgetT (tm:=(O8 0).tmps) rfl
  have hsz3:w.heap.size<=w3.heap.size:=h3.step.size
  have htl:∀b,w3.heap.size<=b->¬bL bs3 ow3 b:=fun b hb hx=>by
   rcases hx with⟨i,hi⟩|hx
   ·have hil:i<(UJ p).boxes.length:=by rw[<-h3.bl];exact ak hi
    have:=(h3.bx i b _ hi (vab hil)).2.1
    omega
   ·cases hL:ow3 b with
    |none=>exact hx hL
    |some L=>have:=(h3.on b L hL).1;omega
  generalize hvf:(Act.mk a3 []).eval (.tmp 12)=vf at h6
  cases h6 with
  |func _ _ _ fs cs hl1 hl2 hf hc=>
  obtain rfl:fs=#[]:=vaY hl1
  obtain⟨cv,rfl⟩:∃v,cs=#[v]:=vbF.1 hl2
  have hcv:VR Γ3 bs3 w3 (.eptr (ac p)) cv:=hc 0 _ _ rfl rfl
  have hJ:JC Γ w bs3 a3 fn (w3.heap.size+1) w3.heap.size true 0 Γ3 ((w3.alloc (.deferred (some []))).alloc (.loop (yi fn a3 w3.heap.size true))):=by
   refine⟨ow3,gF,htl _ (by omega),htl _ (vam _),?_,?_⟩
   ·have:=World.alloc_heap_new (w3.alloc (.deferred (some []))) (.loop (yi fn a3 w3.heap.size true))
    rwa[World.size_alloc]at this
   ·rw[cU _ _ (by rw[World.size_alloc];omega)]
    exact World.alloc_heap_new w3 _
  have hY:=WN (Γe:=Γ) (we:=w) (bs:=bs3) (a:=a3) (fn:=fn) (l:=w3.heap.size+1) (D:=w3.heap.size) (by omega) hsz3 (by omega) hbl
  refine⟨_,_,_,{target:=.fn (.func fW) #[cv],args:=#[.func (.yield (w3.heap.size+1)) #[] #[]]},(w3.alloc (.deferred (some []))).alloc (.loop (yi fn a3 w3.heap.size true)),fW,#[.func (.yield (w3.heap.size+1)) #[] #[],cv],(w3.alloc (.deferred (some []))).alloc (.loop (yi fn a3 w3.heap.size true)),run_enterLoop_outer fn a3 #[13] (TU TS) (TV TS),?_,fun _ _=>trivial,?_,fun hx=>by simp[Fence.wide]at hx,?_⟩
  ·have hvf':(Act.mk a3 []).eval (.tmp 12)=.func (.func fW) #[] #[cv]:=hvf
   simp only[resolve,hvf',Deferred.ofValue]
   simp[Act.eval]
   rfl
  ·simp[invoke,call129]
  ·refine(SH hY p (n:=0 - 1) hq hJ (((hcv.mono l1 (.refl _)).mono l2 (.refl _)).clo (show kI 0 (ac p)from ah p))).mono ?_
   rintro e w4 ⟨⟨u,rfl⟩,Γ4,hle4,ow4,h4,tl4,tD4,hl4,hD4⟩
   refine⟨_,_,run_endLoop hl4 (by cases q.1<;>simp),?_⟩
   obtain⟨h5,hle5⟩:=h4.putOther (l:=w3.heap.size+1) (o:=.loop {yi fn a3 w3.heap.size q.1 with state:=.exhausted}) tl4 (.inr (show w.heap.size<=_ by omega)) (fun c t fr e=>by rw[hl4]at e;cases e)
   have hD5:(w4.putObj (w3.heap.size+1) (.loop {yi fn a3 w3.heap.size q.1 with state:=.exhausted})).heap[w3.heap.size]? =some (.deferred (some [])):=(World.putObj_heap_other (by omega)).trans hD4
   generalize w4.putObj (w3.heap.size+1) (.loop {yi fn a3 w3.heap.size q.1 with state:=.exhausted})=w5 at h5 hle5 hD5
   have last:∀c:Code,aL Pg GE 2 c (EX .ret (O8 r)) (O8 q.2)->∀Q:Exit->Act->World->Prop,(∀a w,bodyPostM Fence.wide 0 Pg f137 R .ret a w->Q .ret a w)->c.wpIn Fence.wide 0 Pg Q ⟨a3,[{target:=.collected w3.heap.size,args:=#[]}]⟩ w5:=fun c hc Q hQ=>by
    refine wpIn_mono (wpIn_wide.2 (aL.on hc (by decide) h5 (by rw[hbl];decide) none [{target:=.collected w3.heap.size,args:=#[]}])) ?_
    rintro e ⟨a6,ds6⟩ w6 ⟨rfl,Γ6,bs6,ow6,st6,h6,⟨rfl,rfl⟩,hbs6,hle6,hsz6,hk6⟩
    obtain⟨k6,t6⟩:=hk6 _ (cz hD5) tD4
    have hD6:=k6.trans hD5
    obtain⟨h7,hle7⟩:=h6.putOther (l:=w3.heap.size) (o:=.deferred none) t6 (.inr hsz3) (fun c t fr e=>by rw[hD6]at e;cases e)
    exact hQ _ _ ⟨by simp,.inl ⟨w3.heap.size,_,rfl,run_takeDeferred hD6,hfin h7⟩⟩
   rcases aK h with⟨c3,h⟩|⟨c3,h⟩
   ·cases h
    have e3:(yi fn a3 w3.heap.size q.1).pending=none:=by show(if q.1=true then none else some Code.ret)=none;rw[c3];rfl
    rw[e3]
    exact last (.seq VX .ret) (YG q.2) _ (fun _ _ hx=>hx)
   ·cases h
    have e3:(yi fn a3 w3.heap.size q.1).pending=some .ret:=by show(if q.1=true then none else some Code.ret)=some .ret;rw[c3];rfl
    rw[e3]
    exact last .ret (Xu q.2) _ (fun _ _ hx=>hx)
 refine key _ fun{Γ6 bs6 ow6 a6 w6} h7=>?_
 have hS7:SR Pg ⟨GE,Γ,w,bL [] ow⟩ Γ6 bs6 ow6 w6 a6 (O8 r):={h7 with
  bn:=fun i b hb=>(h7.bn i b hb).elim False.elim .inr
  on:=fun b L hL=>⟨(h7.on b L hL).1,(h7.on b L hL).2.elim False.elim .inr⟩
  gx:=hS.gx
  step:={h7.step with keep:=fun b hb _=>h7.step.keep b hb (fun hx=>hx)}}
 obtain⟨vr,e1,e2,e3⟩:=qi hS7 (fn:=f137) (r:=.int .i64 r) (by kernel_rfl)
 refine⟨vr,e1,vr,Γ6,zI (cT f137.results.toList) [] ow6,rfl,?_⟩
 have hf:=hS7.finish (H':=[]) (src:=cT f137.results.toList) (ro:=[]) e2 trivial trivial (fun x hx=>by cases hx) (fun x hx=>by cases hx)
 simpa using hf
end Go.Proofs.YtggeppllafbidaaGreatDoor
