/- PROVED: a part of the proof. Conditions: none. -/
import Derived.Test.YtggeppllafbidaaGreatDoorPkE11
import Derived.Test.YtggeppllafbidaaGreatDoorPkE9
noncomputable section
namespace Go.Proofs.YtggeppllafbidaaGreatDoor
open Go Go.Proofs.Tryz
set_option linter.unusedVariables false
set_option maxRecDepth 100000
noncomputable def Ds:Code:=f113.body.getD .skip
def j6:List Nat:=[68,100]
section
variable(t:ae)
def DU:ax:=aP 102 [(1,.eptr (af t))] [.dead] []
def nb(o:Bool):ax:=aP 102 [(1,.eptr (af t)),(3,.bool o)] [.dead] []
def xW:Option Bool:=
 if(t.Op==4)=true then
  some true
 else
  some (t.Op==5)
theorem Cj{x:Bool}(h:xW t=some x):aL Pg GE 0 (cA Ds 6) (EX .normal (nb t x)) (DU t):=by
 have p2:=fun{sc F} (r:PS sc F)=>sv (aq t)<|sv (au t)<|r
 rcases aJ h with⟨c1,h⟩|⟨c1,h⟩
 ·obtain rfl:=lf h
  exact bm j6 (p2<|sg 4 c1<|eF .normal (nb t true))<|by kernel_rfl
 ·obtain rfl:=lf h
  exact bm j6 (p2<|sg 4 c1<|sv (aq t)<|sv (au t)<|eF .normal (nb t (t.Op==5)))<|by kernel_rfl
end
section
variable(t:ae)(named:Bool)
def DV:ax:=aP 102 [(1,.eptr (af t)),(3,.bool named)] [.dead] []
def nc(o:Bool):ax:=aP 102 [(1,.eptr (af t)),(3,.bool named),(4,.bool o)] [.dead] []
def xX:Option Bool:=
 if(t.Op==4)=true then
  some true
 else
  some (t.Op==6)
theorem Ck{x:Bool}(h:xX t=some x):aL Pg GE 0 (cA Ds 14) (EX .normal (nc t named x)) (DV t named):=by
 have p5:=fun{sc F} (r:PS sc F)=>sv (aq t)<|sv (au t)<|r
 rcases aJ h with⟨c4,h⟩|⟨c4,h⟩
 ·obtain rfl:=lf h
  exact bm j6 (p5<|sg 4 c4<|eF .normal (nc t named true))<|by kernel_rfl
 ·obtain rfl:=lf h
  exact bm j6 (p5<|sg 4 c4<|sv (aq t)<|sv (au t)<|eF .normal (nc t named (t.Op==6)))<|by kernel_rfl
end
section
variable(t:ae)(named:Bool)(compound:Bool)
def DW:ax:=aP 102 [(1,.eptr (af t)),(3,.bool named),(4,.bool compound)] [.dead] []
def cd(o:Bool):ax:=aP 102 [(1,.eptr (af t)),(3,.bool named),(63,.bool o)] [.dead] []
def xY:Option Bool:=
 if(decide (t.Op<1))=true then
  some true
 else
  if(decide (t.Op>6))=true then
   some true
  else
   if (!(t.Name == ([]:ag))) = true then
    if(!named)=true then
     some true
    else
     if (decide ((t.Args.length:Int) > 0)) = true then
      if(!compound)=true then
       some true
      else
       if(decide ((t.Names.length:Int)>0))=true then
        some (t.Op !=6)
       else
        some false
     else
      if(decide ((t.Names.length:Int)>0))=true then
       some (t.Op !=6)
      else
       some false
   else
    if (decide ((t.Args.length:Int) > 0)) = true then
     if(!compound)=true then
      some true
     else
      if(decide ((t.Names.length:Int)>0))=true then
       some (t.Op !=6)
      else
       some false
    else
     if(decide ((t.Names.length:Int)>0))=true then
      some (t.Op !=6)
     else
      some false
theorem Cl{x:Bool}(h:xY t named compound=some x):aL Pg GE 0 (cA Ds 60) (EX .normal (cd t named x)) (DW t named compound):=by
 have p8:=fun{sc F} (r:PS sc F)=>sv (aq t)<|sv (au t)<|r
 rcases aJ h with⟨c7,h⟩|⟨c7,h⟩
 ·obtain rfl:=lf h
  exact bm j6 (p8<|sg 4 c7<|eF .normal (cd t named true))<|by kernel_rfl
 ·have p10:=fun{sc F} (r:PS sc F)=>p8<|sg 4 c7<|sv (aq t)<|sv (au t)<|r
  rcases aJ h with⟨c9,h⟩|⟨c9,h⟩
  ·obtain rfl:=lf h
   exact bm j6 (p10<|sg 9 c9<|eF .normal (cd t named true))<|by kernel_rfl
  ·have p12:=fun{sc F} (r:PS sc F)=>p10<|sg 9 c9<|sv (ch t)<|sv (cn t)<|r
   rcases aJ h with⟨c11,h⟩|⟨c11,h⟩
   ·have p14:=fun{sc F} (r:PS sc F)=>p12<|sg 13 c11<|r
    rcases aJ h with⟨c13,h⟩|⟨c13,h⟩
    ·obtain rfl:=lf h
     exact bm j6 (p14<|sg 18 c13<|eF .normal (cd t named true))<|by kernel_rfl
    ·have p16:=fun{sc F} (r:PS sc F)=>p14<|sg 18 c13<|sv (aA t)<|sv (aB t)<|cf (cO.ln t.Args)<|r
     rcases aJ h with⟨c15,h⟩|⟨c15,h⟩
     ·have p18:=fun{sc F} (r:PS sc F)=>p16<|sg 23 c15<|r
      rcases aJ h with⟨c17,h⟩|⟨c17,h⟩
      ·obtain rfl:=lf h
       exact bm j6 (p18<|sg 28 c17<|eF .normal (cd t named true))<|by kernel_rfl
      ·have p20:=fun{sc F} (r:PS sc F)=>p18<|sg 28 c17<|sv (aN t)<|sv (aO t)<|cf (bh.ln t.Names)<|r
       rcases aJ h with⟨c19,h⟩|⟨c19,h⟩
       ·obtain rfl:=lf h
        exact bm j6 (p20<|sg 33 c19<|sv (aq t)<|sv (au t)<|eF .normal (cd t named (t.Op !=6)))<|by kernel_rfl
       ·obtain rfl:=lf h
        exact bm j6 (p20<|sg 33 c19<|eF .normal (cd t named false))<|by kernel_rfl
     ·have p22:=fun{sc F} (r:PS sc F)=>p16<|sg 23 c15<|sv (aN t)<|sv (aO t)<|cf (bh.ln t.Names)<|r
      rcases aJ h with⟨c21,h⟩|⟨c21,h⟩
      ·obtain rfl:=lf h
       exact bm j6 (p22<|sg 33 c21<|sv (aq t)<|sv (au t)<|eF .normal (cd t named (t.Op !=6)))<|by kernel_rfl
      ·obtain rfl:=lf h
       exact bm j6 (p22<|sg 33 c21<|eF .normal (cd t named false))<|by kernel_rfl
   ·have p24:=fun{sc F} (r:PS sc F)=>p12<|sg 13 c11<|sv (aA t)<|sv (aB t)<|cf (cO.ln t.Args)<|r
    rcases aJ h with⟨c23,h⟩|⟨c23,h⟩
    ·have p26:=fun{sc F} (r:PS sc F)=>p24<|sg 23 c23<|r
     rcases aJ h with⟨c25,h⟩|⟨c25,h⟩
     ·obtain rfl:=lf h
      exact bm j6 (p26<|sg 28 c25<|eF .normal (cd t named true))<|by kernel_rfl
     ·have p28:=fun{sc F} (r:PS sc F)=>p26<|sg 28 c25<|sv (aN t)<|sv (aO t)<|cf (bh.ln t.Names)<|r
      rcases aJ h with⟨c27,h⟩|⟨c27,h⟩
      ·obtain rfl:=lf h
       exact bm j6 (p28<|sg 33 c27<|sv (aq t)<|sv (au t)<|eF .normal (cd t named (t.Op !=6)))<|by kernel_rfl
      ·obtain rfl:=lf h
       exact bm j6 (p28<|sg 33 c27<|eF .normal (cd t named false))<|by kernel_rfl
    ·have p30:=fun{sc F} (r:PS sc F)=>p24<|sg 23 c23<|sv (aN t)<|sv (aO t)<|cf (bh.ln t.Names)<|r
     rcases aJ h with⟨c29,h⟩|⟨c29,h⟩
     ·obtain rfl:=lf h
      exact bm j6 (p30<|sg 33 c29<|sv (aq t)<|sv (au t)<|eF .normal (cd t named (t.Op !=6)))<|by kernel_rfl
     ·obtain rfl:=lf h
      exact bm j6 (p30<|sg 33 c29<|eF .normal (cd t named false))<|by kernel_rfl
end
section
variable(t:ae)
def DY:ax:=aP 102 [(1,.eptr (af t))] [.dead] []
def nf(o:Bool):ax:=aP 102 [(1,.eptr (af t)),(6,.bool o)] [.dead] []
def ya:Option Bool:=
 (gk t.Name 0).bind fun c41=>
 if(decide (c41>=65))=true then
  (gk t.Name 0).bind fun c44=>
  some (decide (c44<=90))
 else
  some false
theorem Cm{x:Bool}(h:ya t=some x):aL Pg GE 0 (cA Ds 2026) (EX .normal (nf t x)) (DY t):=by
 obtain⟨c41,bc41,h⟩:=ay h
 have p43:=fun{sc F} (r:PS sc F)=>sv (ch t)<|sv (cn t)<|sv (eE (k:=.i64) underlying9 bc41)<|r
 rcases aJ h with⟨c42,h⟩|⟨c42,h⟩
 ·obtain⟨c44,bc44,h⟩:=ay h
  obtain rfl:=lf h
  exact bm j6 (p43<|sg 5 c42<|sv (ch t)<|sv (cn t)<|sv (eE (k:=.i64) underlying9 bc44)<|eF .normal (nf t (decide (c44<=90))))<|by kernel_rfl
 ·obtain rfl:=lf h
  exact bm j6 (p43<|sg 5 c42<|eF .normal (nf t false))<|by kernel_rfl
end
section
variable(t:ae)(named:Bool)
def DX:ax:=aP 102 [(1,.eptr (af t)),(3,.bool named)] [.dead] []
def gL(o:Unit⊕(Unit)):Exit:=match o with
 |(.inl _)=>.ret
 |(.inr _)=>.normal
def dA(o:Unit⊕(Unit)):ax:=match o with
 |(.inl o)=>aP 102 [(2,.int .i64 3)] [.dead] []
 |(.inr o)=>aP 102 [(1,.eptr (af t))] [.dead] []
def xZ:Option (Unit⊕(Unit)):=
 if named=true then
  (yO t.Name).bind fun r38=>
  if(r38 !=0)=true then
   some (.inl ())
  else
   (ya t).bind fun o45=>
   if(!(o45==(t.Op==4)))=true then
    some (.inl ())
   else
    some (.inr ())
 else
  some (.inr ())
theorem lZ{x:Unit⊕(Unit)}(h:xZ t named=some x):aL Pg GE 0 (cA Ds 126) (EX (gL x) (dA t x)) (DX t named):=by
 rcases aJ h with⟨c37,h⟩|⟨c37,h⟩
 ·obtain⟨r38,br38,h⟩:=ay h
  have p40:=fun{sc F} (r:PS sc F)=>sg 0 c37<|sv (ch t)<|sv (cn t)<|aX (xz br38)<|r
  rcases aJ h with⟨c39,h⟩|⟨c39,h⟩
  ·obtain rfl:=lf h
   exact bm j6 (p40<|sg 0 c39<|eF (gL (.inl ())) (dA t (.inl ())))<|by kernel_rfl
  ·obtain⟨o45,bo45,h⟩:=ay h
   have p47:=fun{sc F} (r:PS sc F)=>p40<|sg 0 c39<|iO 0<|ct (Cm t bo45)<|sv (aq t)<|sv (au t)<|r
   rcases aJ h with⟨c46,h⟩|⟨c46,h⟩
   ·obtain rfl:=lf h
    exact bm j6 (p47<|sg 0 c46<|eF (gL (.inl ())) (dA t (.inl ())))<|by kernel_rfl
   ·obtain rfl:=lf h
    exact bm j6 (p47<|sg 0 c46<|eF (gL (.inr ())) (dA t (.inr ())))<|by kernel_rfl
 ·obtain rfl:=lf h
  exact bm j6 (sg 0 c37<|eF (gL (.inr ())) (dA t (.inr ())))<|by kernel_rfl
end
section
variable(R46:nx)(t90:waC)(t91:Int)(t92:Int)
def gM:ax:=aP 102 [(90,sl af t90),(91,.int .i64 t91),(92,.int .i64 t92)] [.dead] []
def gN(o:Int⊕(Unit)):Exit:=match o with
 |(.inl _)=>.ret
 |(.inr _)=>.exit 0
def fa(o:Int⊕(Unit)):ax:=match o with
 |(.inl o)=>aP 102 [(2,.int .i64 o)] [.dead] []
 |(.inr o)=>aP 102 [] [.dead] []
def tI:Option (Int⊕(Int⊕(Unit))):=
 if(decide (t92<t91))=true then
  (dT t90 t92).bind fun x50=>
  (R46 x50).bind fun r51=>
  if(r51 !=0)=true then
   some (.inr (.inl r51))
  else
   some (.inl (bL (t92+1)))
 else
  some (.inr (.inr ()))
def yb:Option (Int⊕(Unit)):=loop (fun(zz:Int)=>tI R46 t90 t91 zz) t92
theorem A2(hR46:rH R46){y:Int⊕(Int⊕(Unit))}(h:tI R46 t90 t91 t92=some y):aL Pg GE 0 (cA Ds 2039) (LQ (fun(zz:Int)=>gM t90 t91 zz) gN fa y) (gM t90 t91 t92):=by
 rcases aJ h with⟨c49,h⟩|⟨c49,h⟩
 ·obtain⟨x50,bx50,h⟩:=ay h
  obtain⟨r51,br51,h⟩:=ay h
  have p53:=fun{sc F} (r:PS sc F)=>sg 0 c49<|sv (cO.ia (k:=.i64) bx50)<|sv (aV x50)<|sx jc<|sx (cQ x50)<|sv (bw x50 [])<|aX (hR46 _ _ br51)<|r
  rcases aJ h with⟨c52,h⟩|⟨c52,h⟩
  ·obtain rfl:=lf h
   have z:=p53<|sg 0 c52<|pq 0 (gN (.inl r51)) (fa (.inl r51)) rfl (cG (aI trivial trivial)) (aI trivial trivial)
   exact oM (A:=j6) mixed (by intro hx;cases hx) z<|by kernel_rfl
  ·obtain rfl:=lf h
   have z:=p53<|sg 0 c52<|pq 0 .normal (gM t90 t91 (bL (t92+1))) rfl (cG (aI (up (aw al t90)) (aI trivial (aI trivial trivial)))) (aI trivial trivial)
   exact cJ (A:=j6) mixed z<|by kernel_rfl
 ·obtain rfl:=lf h
  have z:=sg 0 c49<|eF (gN (.inr ())) (fa (.inr ()))
  exact fG j6 (by intro hx;cases hx) z<|by kernel_rfl
theorem rB(hR46:rH R46){x:Int⊕(Unit)}(h:yb R46 t90 t91 t92=some x):aL Pg GE 0 (.loop (cA Ds 2039)) (EX (gN x) (fa x)) (gM t90 t91 t92):=
 aL.loop (S:=fun(zz:Int)=>gM t90 t91 zz) (ex:=gN) (s:=t92) h fun zz y hy=>A2 R46 t90 t91 zz hR46 hy
end
def A0(R46:nx)(t:ae):Option Int:=
 (xW t).bind fun o3=>
 (xX t).bind fun o6=>
 (xY t o3 o6).bind fun o31=>
 if o31=true then
  some 1
 else
  (CU t).bind fun r34=>
  if(r34 !=0)=true then
   some r34
  else
   (xZ t o3).bind fun o48=>match o48 with
   |(.inl o48)=>
    some 3
   | (.inr o48) =>
    (yb R46 t.Args (t.Args.length:Int) 0).bind fun o54=>match o54 with
    |(.inl o54)=>
     some o54
    |(.inr o54)=>
     some 0
theorem Gx(R46:nx)(hR46:rH R46){t:ae}{r:Int}(h:A0 R46 t=some r):CC Pg GE 113 [.agg (af t)] (.int .i64 r) []:=by
 obtain⟨o3,bo3,h⟩:=ay h
 obtain⟨o6,bo6,h⟩:=ay h
 obtain⟨o31,bo31,h⟩:=ay h
 have p33:=fun{sc F} (r:PS sc F)=>se (bR t)<|iO 0<|ct (Cj t bo3)<|iO 0<|ct (Ck t o3 bo6)<|iO 1<|ct (Cl t o3 o6 bo31)<|r
 rcases aJ h with⟨c32,h⟩|⟨c32,h⟩
 ·obtain rfl:=lf h
  have z:=p33<|sg 0 c32<|en (aI (rP (.int .i64 1))<|trivial)
  exact bo j6 call113 func113 (c:=Ds) rfl (aI (al t) trivial) z<|by kernel_rfl
 ·obtain⟨r34,br34,h⟩:=ay h
  have p36:=fun{sc F} (r:PS sc F)=>p33<|sg 0 c32<|sv (aV t)<|aX (Gu br34)<|r
  rcases aJ h with⟨c35,h⟩|⟨c35,h⟩
  ·obtain rfl:=lf h
   have z:=p36<|sg 0 c35<|en (aI (rP (.int .i64 r34))<|trivial)
   exact bo j6 call113 func113 (c:=Ds) rfl (aI (al t) trivial) z<|by kernel_rfl
  ·obtain⟨o48,bo48,h⟩:=ay h
   rcases o48 with o48|o48
   ·obtain rfl:=lf h
    have z:=p36<|sg 0 c35<|iO 0<|ct (e:=.ret) (s1:=dA t (.inl o48)) (lZ t o3 bo48)<|en (aI (rP (.int .i64 3))<|trivial)
    exact bo j6 call113 func113 (c:=Ds) rfl (aI (al t) trivial) z<|by kernel_rfl
   ·obtain⟨o54,bo54,h⟩:=ay h
    rcases o54 with o54|o54
    ·obtain rfl:=lf h
     have z:=p36<|sg 0 c35<|iO 0<|ct (e:=.normal) (s1:=dA t (.inr o48)) (lZ t o3 bo48)<|sv (aA t)<|sv (aB t)<|cf (cO.ln t.Args)<|ct (e:=.ret) (s1:=fa (.inl o54)) (rB R46 t.Args (t.Args.length:Int) 0 hR46 bo54)<|en (aI (rP (.int .i64 o54))<|trivial)
     exact bo j6 call113 func113 (c:=Ds) rfl (aI (al t) trivial) z<|by kernel_rfl
    ·obtain rfl:=lf h
     have z:=p36<|sg 0 c35<|iO 0<|ct (e:=.normal) (s1:=dA t (.inr o48)) (lZ t o3 bo48)<|sv (aA t)<|sv (aB t)<|cf (cO.ln t.Args)<|ct (e:=.exit 0) (s1:=fa (.inr o54)) (rB R46 t.Args (t.Args.length:Int) 0 hR46 bo54)<|en (aI (rP (.int .i64 0))<|trivial)
     exact bo j6 call113 func113 (c:=Ds) rfl (aI (al t) trivial) z<|by kernel_rfl
def A1:(ae->Option Int)->(ae)->Option Int:=fun(rec:ae->Option Int) (x:ae)=>A0 (fun t=>rec t) x
def Gw(t:ae):Option Int:=lH A1 t
theorem Hw{t:ae}{r:Int}(h:Gw t=some r):CC Pg GE 113 [.agg (af t)] (.int .i64 r) []:=
 cC (F:=A1) (M:=fun(x:ae) (r:Int)=>CC Pg GE 113 [.agg (af x)] (.int .i64 r) []) (fun rec hrec x r h=>Gx _ (fun t r h=>hrec t r h) h) h
noncomputable def VD:Code:=f77.body.getD .skip
def Vs:List Nat:=[]
def CS(t:ae):Option Int:=
 (CV t).bind fun r1=>
 if(decide (r1>40))=true then
  some 8
 else
  (Gw t).bind fun r4=>
  some r4
theorem Gs{t:ae}{r:Int}(h:CS t=some r):CC Pg GE 77 [.agg (af t)] (.int .i64 r) []:=by
 obtain⟨r1,br1,h⟩:=ay h
 have p3:=fun{sc F} (r:PS sc F)=>se (bR t)<|sv (aV t)<|aX (Gv br1)<|r
 rcases aJ h with⟨c2,h⟩|⟨c2,h⟩
 ·obtain rfl:=lf h
  have z:=p3<|sg 0 c2<|en (aI (rP (.int .i64 8))<|trivial)
  exact bo Vs call77 func77 (c:=VD) rfl (aI (al t) trivial) z<|by kernel_rfl
 ·obtain⟨r4,br4,h⟩:=ay h
  obtain rfl:=lf h
  have z:=p3<|sg 0 c2<|sv (aV t)<|aX (Hw br4)<|en (aI (rP (.int .i64 r4))<|trivial)
  exact bo Vs call77 func77 (c:=VD) rfl (aI (al t) trivial) z<|by kernel_rfl
abbrev j0:=(ae->Option Int)
abbrev mO(R:j0):Prop:=∀(t:ae) (r:Int),R t=some r->CC Pg GE 78 [.agg (af t)] (.int .i64 r) []
noncomputable def Wt:Code:=f56.body.getD .skip
def We:List Nat:=[]
def nQ(p:aa):Option Bool:=
 (rl p (⟨0,([]:ag),0,([]:List aa)⟩:aa)).bind fun r1=>
 some r1
theorem mZ{p:aa}{r:Bool}(h:nQ p=some r):CC Pg GE 56 [.agg (ac p)] (.bool r) []:=by
 obtain⟨r1,br1,h⟩:=ay h
 obtain rfl:=lf h
 have z:=se (bJ p)<|sv (aM p)<|sb (oC) (oA)<|aX (nM br1)<|en (aI (rP (.bool r1))<|trivial)
 exact bo We call56 func56 (c:=Wt) rfl (aI (ah p) trivial) z<|by kernel_rfl
noncomputable def Tx:Code:=f163.body.getD .skip
def S8:List Nat:=[]
def CH(ok:Bool):Option Int:=
 if ok=true then
  some 0
 else
  some 3
theorem FD{ok:Bool}{r:Int}(h:CH ok=some r):CC Pg GE 163 [.bool ok] (.int .i64 r) []:=by
 rcases aJ h with⟨c1,h⟩|⟨c1,h⟩
 ·obtain rfl:=lf h
  have z:=sg 0 c1<|en (aI (rP (.int .i64 0))<|trivial)
  exact bo S8 call163 func163 (c:=Tx) rfl (aI trivial trivial) z<|by kernel_rfl
 ·obtain rfl:=lf h
  have z:=sg 0 c1<|en (aI (rP (.int .i64 3))<|trivial)
  exact bo S8 call163 func163 (c:=Tx) rfl (aI trivial trivial) z<|by kernel_rfl
noncomputable def UG:Code:=f135.body.getD .skip
def Us:List Nat:=[]
def CG(s:ag):Option Int:=
 (yR s).bind fun r1=>
 (CH r1).bind fun r2=>
 some r2
theorem FB{s:ag}{r:Int}(h:CG s=some r):CC Pg GE 135 [.str s] (.int .i64 r) []:=by
 obtain⟨r1,br1,h⟩:=ay h
 obtain⟨r2,br2,h⟩:=ay h
 obtain rfl:=lf h
 have z:=aX (qF br1)<|aX (FD br2)<|en (aI (rP (.int .i64 r2))<|trivial)
 exact bo Us call135 func135 (c:=UG) rfl (aI trivial trivial) z<|by kernel_rfl
noncomputable def Qx:Code:=f136.body.getD .skip
def Ou:List Nat:=[]
section
variable(t7:waA)(t8:Int)(t9:Int)(m0:(List (ag×Bool)))
def ep:ax:=aP 19 [(3,.mapr 0),(7,sl cS t7),(8,.int .i64 t8),(9,.int .i64 t9)] [.map (tS PVal.bool m0)] []
def er(o:((List (ag×Bool)))⊕((List (ag×Bool)))):Exit:=match o with
 |(.inl _)=>.ret
 |(.inr _)=>.exit 0
def dv(o:((List (ag×Bool)))⊕((List (ag×Bool)))):ax:=match o with
 |(.inl o)=>aP 19 [(2,.bool false)] [.map (tS PVal.bool o)] []
 |(.inr o)=>aP 19 [] [.map (tS PVal.bool o)] []
def ni:Option ((Int×(List (ag×Bool)))⊕(((List (ag×Bool)))⊕((List (ag×Bool))))):=
 if(decide (t9<t8))=true then
  (dT t7 t9).bind fun x2=>
  if((sR m0 x2).getD false)=true then
   some (.inr (.inl m0))
  else
   some (.inl (bL (t9+1),wN m0 x2 true))
 else
  some (.inr (.inr m0))
def pU:Option (((List (ag×Bool)))⊕((List (ag×Bool)))):=loop (fun(zz:Int×(List (ag×Bool)))=>ni t7 t8 zz.1 zz.2) (t9,m0)
theorem tT{y:(Int×(List (ag×Bool)))⊕(((List (ag×Bool)))⊕((List (ag×Bool))))}(h:ni t7 t8 t9 m0=some y):aL Pg GE 0 (cA Qx 119) (LQ (fun(zz:Int×(List (ag×Bool)))=>ep t7 t8 zz.1 zz.2) er dv y) (ep t7 t8 t9 m0):=by
 rcases aJ h with⟨c1,h⟩|⟨c1,h⟩
 ·obtain⟨x2,bx2,h⟩:=ay h
  have p4:=fun{sc F} (r:PS sc F)=>sg 0 c1<|sv (bh.ia (k:=.i64) bx2)<|sv (dB Cb (.str x2) [])<|sv (L2 (f:=PVal.bool) underlying121 underlying9 Vl m0 x2)<|r
  rcases aJ h with⟨c3,h⟩|⟨c3,h⟩
  ·obtain rfl:=lf h
   have z:=p4<|sg 0 c3<|eF (er (.inl m0)) (dv (.inl m0))
   exact fG Ou (by intro hx;cases hx) z<|by kernel_rfl
  ·obtain rfl:=lf h
   exact pZ Ou (p4<|sg 0 c3<|VX (Pr (f:=PVal.bool) underlying121 underlying9 m0 x2 true)<|eF .normal (ep t7 t8 (bL (t9+1)) (wN m0 x2 true)))<|by kernel_rfl
 ·obtain rfl:=lf h
  have z:=sg 0 c1<|eF (er (.inr m0)) (dv (.inr m0))
  exact fG Ou (by intro hx;cases hx) z<|by kernel_rfl
theorem mF{x:((List (ag×Bool)))⊕((List (ag×Bool)))}(h:pU t7 t8 t9 m0=some x):aL Pg GE 0 (.loop (cA Qx 119)) (EX (er x) (dv x)) (ep t7 t8 t9 m0):=
 aL.loop (S:=fun(zz:Int×(List (ag×Bool)))=>ep t7 t8 zz.1 zz.2) (ex:=er) (s:=(t9,m0)) h fun zz y hy=>tT t7 t8 zz.1 zz.2 hy
end
def vp(a:waA):Option Bool:=
 (pU a (a.length:Int) 0 ([]:List (ag×Bool))).bind fun o5=>match o5 with
 |(.inl o5)=>
  some false
 |(.inr o5)=>
  some true
theorem zT{a:waA}{r:Bool}(h:vp a=some r):CC Pg GE 136 [sl cS a] (.bool r) []:=by
 obtain⟨o5,bo5,h⟩:=ay h
 rcases o5 with o5|o5
 ·obtain rfl:=lf h
  have z:=cf (bh.ln a)<|ct (e:=.ret) (s1:=dv (.inl o5)) (mF a (a.length:Int) 0 ([]:List (ag×Bool)) bo5)<|en (aI (rP (.bool false))<|trivial)
  exact bo Ou call136 func136 (c:=Qx) rfl (aI (aw ie a) trivial) z<|by kernel_rfl
 ·obtain rfl:=lf h
  have z:=cf (bh.ln a)<|ct (e:=.exit 0) (s1:=dv (.inr o5)) (mF a (a.length:Int) 0 ([]:List (ag×Bool)) bo5)<|en (aI (rP (.bool true))<|trivial)
  exact bo Ou call136 func136 (c:=Qx) rfl (aI (aw ie a) trivial) z<|by kernel_rfl
abbrev nw:=(aa->Option Int)
abbrev rG(R:nw):Prop:=∀(p:aa) (r:Int),R p=some r->CC Pg GE 164 [.agg (ac p)] (.int .i64 r) []
noncomputable def Sc:Code:=f164.body.getD .skip
def RQ:List Nat:=[18]
section
variable(R65:nw)(t7:waB)(t8:Int)(n:Int)(t9:Int)
def gC:ax:=aP 19 [(3,.int .i64 n),(7,sl ac t7),(8,.int .i64 t8),(9,.int .i64 t9)] [.dead] []
def mT(o:Int):ax:=aP 19 [(3,.int .i64 o)] [.dead] []
def tv:Option ((Int×Int)⊕(Int)):=
 if(decide (t9<t8))=true then
  (dT t7 t9).bind fun x2=>
  (R65 x2).bind fun r3=>
  some (.inl (bL (n+r3),bL (t9+1)))
 else
  some (.inr n)
def xK:Option Int:=loop (fun(zz:Int×Int)=>tv R65 t7 t8 zz.1 zz.2) (n,t9)
theorem An(hR65:rG R65){y:(Int×Int)⊕(Int)}(h:tv R65 t7 t8 n t9=some y):aL Pg GE 0 (cA Sc 119) (LQ (fun(zz:Int×Int)=>gC t7 t8 zz.1 zz.2) (fun _=>.exit 0) mT y) (gC t7 t8 n t9):=by
 rcases aJ h with⟨c1,h⟩|⟨c1,h⟩
 ·obtain⟨x2,bx2,h⟩:=ay h
  obtain⟨r3,br3,h⟩:=ay h
  obtain rfl:=lf h
  have z:=sg 0 c1<|sv (aZ.ia (k:=.i64) bx2)<|sv (aM x2)<|sx fY<|sx (cb x2)<|sv (bj x2 [])<|aX (hR65 _ _ br3)<|pq 0 .normal (gC t7 t8 (bL (n+r3)) (bL (t9+1))) rfl (cG (aI trivial (aI (up (aw ah t7)) (aI trivial (aI trivial trivial))))) (aI trivial trivial)
  exact cJ (A:=RQ) mixed z<|by kernel_rfl
 ·obtain rfl:=lf h
  have z:=sg 0 c1<|eF (.exit 0) (mT n)
  exact fG RQ (by intro hx;cases hx) z<|by kernel_rfl
theorem BZ(hR65:rG R65){x:Int}(h:xK R65 t7 t8 n t9=some x):aL Pg GE 0 (.loop (cA Sc 119)) (EX (.exit 0) (mT x)) (gC t7 t8 n t9):=
 aL.loop (S:=fun(zz:Int×Int)=>gC t7 t8 zz.1 zz.2) (ex:=(fun _=>.exit 0)) (s:=(n,t9)) h fun zz y hy=>An R65 t7 t8 zz.1 zz.2 hR65 hy
end
def Al(R65:nw)(p:aa):Option Int:=
 (xK R65 p.Kids (p.Kids.length:Int) 1 0).bind fun o4=>
 some o4
theorem F1(R65:nw)(hR65:rG R65){p:aa}{r:Int}(h:Al R65 p=some r):CC Pg GE 164 [.agg (ac p)] (.int .i64 r) []:=by
 obtain⟨o4,bo4,h⟩:=ay h
 obtain rfl:=lf h
 have z:=se (bJ p)<|sv (aG p)<|sv (aH p)<|cf (aZ.ln p.Kids)<|ct (BZ R65 p.Kids (p.Kids.length:Int) 1 0 hR65 bo4)<|en (aI (rP (.int .i64 o4))<|trivial)
 exact bo RQ call164 func164 (c:=Sc) rfl (aI (ah p) trivial) z<|by kernel_rfl
def Am:(aa->Option Int)->(aa)->Option Int:=fun(rec:aa->Option Int) (x:aa)=>Al (fun p=>rec p) x
def sZ(p:aa):Option Int:=lH Am p
theorem xL{p:aa}{r:Int}(h:sZ p=some r):CC Pg GE 164 [.agg (ac p)] (.int .i64 r) []:=
 cC (F:=Am) (M:=fun(x:aa) (r:Int)=>CC Pg GE 164 [.agg (ac x)] (.int .i64 r) []) (fun rec hrec x r h=>F1 _ (fun p r h=>hrec p r h) h) h
abbrev nv:=(aa->Option Int)
abbrev rF(R:nv):Prop:=∀(p:aa) (r:Int),R p=some r->CC Pg GE 165 [.agg (ac p)] (.int .i64 r) []
noncomputable def Sd:Code:=f165.body.getD .skip
def RR:List Nat:=[]
section
variable(R66:nv)(t7:waB)(t8:Int)(n:Int)(t9:Int)
def gB:ax:=aP 20 [(3,.int .i64 n),(7,sl ac t7),(8,.int .i64 t8),(9,.int .i64 t9)] [.dead] []
def mS(o:Int):ax:=aP 20 [(3,.int .i64 o)] [.dead] []
def tu:Option ((Int×Int)⊕(Int)):=
 if(decide (t9<t8))=true then
  (dT t7 t9).bind fun x2=>
  (R66 x2).bind fun r3=>
  some (.inl ((if r3>n then r3 else n),bL (t9+1)))
 else
  some (.inr n)
def xI:Option Int:=loop (fun(zz:Int×Int)=>tu R66 t7 t8 zz.1 zz.2) (n,t9)
theorem Aj(hR66:rF R66){y:(Int×Int)⊕(Int)}(h:tu R66 t7 t8 n t9=some y):aL Pg GE 0 (cA Sd 119) (LQ (fun(zz:Int×Int)=>gB t7 t8 zz.1 zz.2) (fun _=>.exit 0) mS y) (gB t7 t8 n t9):=by
 rcases aJ h with⟨c1,h⟩|⟨c1,h⟩
 ·obtain⟨x2,bx2,h⟩:=ay h
  obtain⟨r3,br3,h⟩:=ay h
  obtain rfl:=lf h
  have z:=sg 0 c1<|sv (aZ.ia (k:=.i64) bx2)<|sv (aM x2)<|sx fY<|sx (cb x2)<|sv (bj x2 [])<|aX (hR66 _ _ br3)<|pq 0 .normal (gB t7 t8 (if r3>n then r3 else n) (bL (t9+1))) rfl (cG (aI trivial (aI (up (aw ah t7)) (aI trivial (aI trivial trivial))))) (aI trivial trivial)
  exact cJ (A:=RR) mixed z<|by kernel_rfl
 ·obtain rfl:=lf h
  have z:=sg 0 c1<|eF (.exit 0) (mS n)
  exact fG RR (by intro hx;cases hx) z<|by kernel_rfl
theorem BY(hR66:rF R66){x:Int}(h:xI R66 t7 t8 n t9=some x):aL Pg GE 0 (.loop (cA Sd 119)) (EX (.exit 0) (mS x)) (gB t7 t8 n t9):=
 aL.loop (S:=fun(zz:Int×Int)=>gB t7 t8 zz.1 zz.2) (ex:=(fun _=>.exit 0)) (s:=(n,t9)) h fun zz y hy=>Aj R66 t7 t8 zz.1 zz.2 hR66 hy
end
def Ah(R66:nv)(p:aa):Option Int:=
 (xI R66 p.Kids (p.Kids.length:Int) 0 0).bind fun o4=>
 some (bL (o4+1))
theorem F0(R66:nv)(hR66:rF R66){p:aa}{r:Int}(h:Ah R66 p=some r):CC Pg GE 165 [.agg (ac p)] (.int .i64 r) []:=by
 obtain⟨o4,bo4,h⟩:=ay h
 obtain rfl:=lf h
 have z:=se (bJ p)<|sv (aG p)<|sv (aH p)<|cf (aZ.ln p.Kids)<|ct (BY R66 p.Kids (p.Kids.length:Int) 0 0 hR66 bo4)<|en (aI (rP (.int .i64 (bL (o4+1))))<|trivial)
 exact bo RR call165 func165 (c:=Sd) rfl (aI (ah p) trivial) z<|by kernel_rfl
def Ai:(aa->Option Int)->(aa)->Option Int:=fun(rec:aa->Option Int) (x:aa)=>Ah (fun p=>rec p) x
def sY(p:aa):Option Int:=lH Ai p
theorem xJ{p:aa}{r:Int}(h:sY p=some r):CC Pg GE 165 [.agg (ac p)] (.int .i64 r) []:=
 cC (F:=Ai) (M:=fun(x:aa) (r:Int)=>CC Pg GE 165 [.agg (ac x)] (.int .i64 r) []) (fun rec hrec x r h=>F0 _ (fun p r h=>hrec p r h) h) h
noncomputable def Lo:Code:=f182.body.getD .skip
def Ee:List Nat:=[]
section
variable(t4:Int)
def F4:ax:=aP 15 [(4,.int .i64 t4)] [] []
def kX(o:Bool):ax:=aP 15 [(4,.int .i64 t4),(5,.bool o)] [] []
def Ar:Option Bool:=
 if(t4==1)=true then
  some (t4==1)
 else
  if(t4==2)=true then
   some (t4==2)
  else
   some (t4==3)
theorem DE{x:Bool}(h:Ar t4=some x):aL Pg GE 0 (cA Lo 54) (EX .normal (kX t4 x)) (F4 t4):=by
 rcases aJ h with⟨c1,h⟩|⟨c1,h⟩
 ·obtain rfl:=lf h
  exact bm Ee (sg 0 c1<|eF .normal (kX t4 (t4==1)))<|by kernel_rfl
 ·rcases aJ h with⟨c2,h⟩|⟨c2,h⟩
  ·obtain rfl:=lf h
   exact bm Ee (sg 0 c1<|sg 0 c2<|eF .normal (kX t4 (t4==2)))<|by kernel_rfl
  ·obtain rfl:=lf h
   exact bm Ee (sg 0 c1<|sg 0 c2<|eF .normal (kX t4 (t4==3)))<|by kernel_rfl
end
section
variable(t4:Int)
def F5:ax:=aP 15 [(4,.int .i64 t4)] [] []
def oS(o:Bool):ax:=aP 15 [(4,.int .i64 t4),(9,.bool o)] [] []
def As:Option Bool:=
 if(t4==4)=true then
  some (t4==4)
 else
  some (t4==5)
theorem DF{x:Bool}(h:As t4=some x):aL Pg GE 0 (cA Lo 222) (EX .normal (oS t4 x)) (F5 t4):=by
 rcases aJ h with⟨c6,h⟩|⟨c6,h⟩
 ·obtain rfl:=lf h
  exact bm Ee (sg 0 c6<|eF .normal (oS t4 (t4==4)))<|by kernel_rfl
 ·obtain rfl:=lf h
  exact bm Ee (sg 0 c6<|eF .normal (oS t4 (t4==5)))<|by kernel_rfl
end
section
variable(t4:Int)
def F6:ax:=aP 15 [(4,.int .i64 t4)] [] []
def oT(o:Bool):ax:=aP 15 [(12,.bool o)] [] []
def At:Option Bool:=
 if(t4==9)=true then
  some (t4==9)
 else
  some (t4==14)
theorem DG{x:Bool}(h:At t4=some x):aL Pg GE 0 (cA Lo 894) (EX .normal (oT x)) (F6 t4):=by
 rcases aJ h with⟨c10,h⟩|⟨c10,h⟩
 ·obtain rfl:=lf h
  exact bm Ee (sg 0 c10<|eF .normal (oT (t4==9)))<|by kernel_rfl
 ·obtain rfl:=lf h
  exact bm Ee (sg 0 c10<|eF .normal (oT (t4==14)))<|by kernel_rfl
end
def H8(op:Int):Option (Int×Int):=
 (Ar op).bind fun o3=>
 if o3=true then
  some (0,0)
 else
  (As op).bind fun o7=>
  if o7=true then
   some (1,24)
  else
   (At op).bind fun o11=>
   if o11=true then
    some (1,1)
   else
    some (2,2)
theorem Jv{op:Int}{r:Int×Int}(h:H8 op=some r):CC Pg GE 182 [.int .i64 op] (.tuple [.int .i64 r.1,.int .i64 r.2]) []:=by
 obtain⟨o3,bo3,h⟩:=ay h
 have p5:=fun{sc F} (r:PS sc F)=>iO 3<|ct (DE op bo3)<|r
 rcases aJ h with⟨c4,h⟩|⟨c4,h⟩
 ·obtain rfl:=lf h
  have z:=p5<|sg 0 c4<|en (aI (rP (.tuple [.int .i64 0,.int .i64 0]))<|(aI trivial (aI trivial trivial)))
  exact bo Ee call182 func182 (c:=Lo) rfl (aI trivial trivial) z<|by kernel_rfl
 ·obtain⟨o7,bo7,h⟩:=ay h
  have p9:=fun{sc F} (r:PS sc F)=>p5<|sg 0 c4<|iO 0<|ct (DF op bo7)<|r
  rcases aJ h with⟨c8,h⟩|⟨c8,h⟩
  ·obtain rfl:=lf h
   have z:=p9<|sg 0 c8<|en (aI (rP (.tuple [.int .i64 1,.int .i64 24]))<|(aI trivial (aI trivial trivial)))
   exact bo Ee call182 func182 (c:=Lo) rfl (aI trivial trivial) z<|by kernel_rfl
  ·obtain⟨o11,bo11,h⟩:=ay h
   have p13:=fun{sc F} (r:PS sc F)=>p9<|sg 0 c8<|iO 0<|ct (DG op bo11)<|r
   rcases aJ h with⟨c12,h⟩|⟨c12,h⟩
   ·obtain rfl:=lf h
    have z:=p13<|sg 0 c12<|en (aI (rP (.tuple [.int .i64 1,.int .i64 1]))<|(aI trivial (aI trivial trivial)))
    exact bo Ee call182 func182 (c:=Lo) rfl (aI trivial trivial) z<|by kernel_rfl
   ·obtain rfl:=lf h
    have z:=p13<|sg 0 c12<|en (aI (rP (.tuple [.int .i64 2,.int .i64 2]))<|(aI trivial (aI trivial trivial)))
    exact bo Ee call182 func182 (c:=Lo) rfl (aI trivial trivial) z<|by kernel_rfl
noncomputable def Se:Code:=f183.body.getD .skip
def RT:List Nat:=[]
def y4(op:Int):Option Bool:=
 if(op==3)=true then
  some true
 else
  if(op==4)=true then
   some true
  else
   some (op==5)
theorem xN{op:Int}{r:Bool}(h:y4 op=some r):CC Pg GE 183 [.int .i64 op] (.bool r) []:=by
 rcases aJ h with⟨c1,h⟩|⟨c1,h⟩
 ·obtain rfl:=lf h
  have z:=sg 3 c1<|en (aI (rP (.bool true))<|trivial)
  exact bo RT call183 func183 (c:=Se) rfl (aI trivial trivial) z<|by kernel_rfl
 ·rcases aJ h with⟨c2,h⟩|⟨c2,h⟩
  ·obtain rfl:=lf h
   have z:=sg 3 c1<|sg 7 c2<|en (aI (rP (.bool true))<|trivial)
   exact bo RT call183 func183 (c:=Se) rfl (aI trivial trivial) z<|by kernel_rfl
  ·obtain rfl:=lf h
   have z:=sg 3 c1<|sg 7 c2<|en (aI (rP (.bool (op==5)))<|trivial)
   exact bo RT call183 func183 (c:=Se) rfl (aI trivial trivial) z<|by kernel_rfl
noncomputable def TC:Code:=f184.body.getD .skip
def Tc:List Nat:=[]
def Pv(n:Int):Option Bool:=
 if(decide (n>=(-1000000000000)))=true then
  some (decide (n<=1000000000000))
 else
  some false
theorem NS{n:Int}{r:Bool}(h:Pv n=some r):CC Pg GE 184 [.int .i64 n] (.bool r) []:=by
 rcases aJ h with⟨c1,h⟩|⟨c1,h⟩
 ·obtain rfl:=lf h
  have z:=sg 3 c1<|en (aI (rP (.bool (decide (n<=1000000000000))))<|trivial)
  exact bo Tc call184 func184 (c:=TC) rfl (aI trivial trivial) z<|by kernel_rfl
 ·obtain rfl:=lf h
  have z:=sg 3 c1<|en (aI (rP (.bool false))<|trivial)
  exact bo Tc call184 func184 (c:=TC) rfl (aI trivial trivial) z<|by kernel_rfl
noncomputable def yC:Code:=f166.body.getD .skip
def fb:List Nat:=[]
section
variable(p:aa)
def F7:ax:=aP 130 [(1,.eptr (ac p))] [.dead] []
def oU(o:Bool):ax:=aP 130 [(1,.eptr (ac p)),(14,.bool o)] [.dead] []
def Au:Option Bool:=
 if(decide (p.Op<1))=true then
  some true
 else
  some (decide (p.Op>18))
theorem DH{x:Bool}(h:Au p=some x):aL Pg GE 0 (cA yC 12) (EX .normal (oU p x)) (F7 p):=by
 have p2:=fun{sc F} (r:PS sc F)=>sv (aD p)<|sv (aE p)<|r
 rcases aJ h with⟨c1,h⟩|⟨c1,h⟩
 ·obtain rfl:=lf h
  exact bm fb (p2<|sg 4 c1<|eF .normal (oU p true))<|by kernel_rfl
 ·obtain rfl:=lf h
  exact bm fb (p2<|sg 4 c1<|sv (aD p)<|sv (aE p)<|eF .normal (oU p (decide (p.Op>18))))<|by kernel_rfl
end
section
variable(p:aa)(least:Int)(most:Int)
def F8:ax:=aP 130 [(1,.eptr (ac p)),(3,.int .i64 least),(4,.int .i64 most)] [.dead] []
def b9(o:Bool):ax:=aP 130 [(1,.eptr (ac p)),(58,.bool o)] [.dead] []
def Av:Option Bool:=
 (y4 p.Op).bind fun r7=>
 if (!r7) = true then
  if(!(p.Name==([]:ag)))=true then
   some true
  else
   if (p.Op != 1) = true then
    if (p.Op != 2) = true then
     if(p.N !=0)=true then
      some true
     else
      if(decide ((p.Kids.length:Int)<least))=true then
       some true
      else
       some (decide ((p.Kids.length:Int)>most))
    else
     if(decide ((p.Kids.length:Int)<least))=true then
      some true
     else
      some (decide ((p.Kids.length:Int)>most))
   else
    if(decide ((p.Kids.length:Int)<least))=true then
     some true
    else
     some (decide ((p.Kids.length:Int)>most))
 else
  if (p.Op != 1) = true then
   if (p.Op != 2) = true then
    if(p.N !=0)=true then
     some true
    else
     if(decide ((p.Kids.length:Int)<least))=true then
      some true
     else
      some (decide ((p.Kids.length:Int)>most))
   else
    if(decide ((p.Kids.length:Int)<least))=true then
     some true
    else
     some (decide ((p.Kids.length:Int)>most))
  else
   if(decide ((p.Kids.length:Int)<least))=true then
    some true
   else
    some (decide ((p.Kids.length:Int)>most))
theorem DI{x:Bool}(h:Av p least most=some x):aL Pg GE 0 (cA yC 60) (EX .normal (b9 p x)) (F8 p least most):=by
 obtain⟨r7,br7,h⟩:=ay h
 have p9:=fun{sc F} (r:PS sc F)=>sv (aD p)<|sv (aE p)<|aX (xN br7)<|r
 rcases aJ h with⟨c8,h⟩|⟨c8,h⟩
 ·have p11:=fun{sc F} (r:PS sc F)=>p9<|sg 5 c8<|sv (bp p)<|sv (bH p)<|r
  rcases aJ h with⟨c10,h⟩|⟨c10,h⟩
  ·obtain rfl:=lf h
   exact bm fb (p11<|sg 10 c10<|eF .normal (b9 p true))<|by kernel_rfl
  ·have p13:=fun{sc F} (r:PS sc F)=>p11<|sg 10 c10<|sv (aD p)<|sv (aE p)<|r
   rcases aJ h with⟨c12,h⟩|⟨c12,h⟩
   ·have p15:=fun{sc F} (r:PS sc F)=>p13<|sg 14 c12<|sv (aD p)<|sv (aE p)<|r
    rcases aJ h with⟨c14,h⟩|⟨c14,h⟩
    ·have p17:=fun{sc F} (r:PS sc F)=>p15<|sg 19 c14<|sv (bu p)<|sv (bI p)<|r
     rcases aJ h with⟨c16,h⟩|⟨c16,h⟩
     ·obtain rfl:=lf h
      exact bm fb (p17<|sg 25 c16<|eF .normal (b9 p true))<|by kernel_rfl
     ·have p19:=fun{sc F} (r:PS sc F)=>p17<|sg 25 c16<|sv (aG p)<|sv (aH p)<|cf (aZ.ln p.Kids)<|r
      rcases aJ h with⟨c18,h⟩|⟨c18,h⟩
      ·obtain rfl:=lf h
       exact bm fb (p19<|sg 32 c18<|eF .normal (b9 p true))<|by kernel_rfl
      ·obtain rfl:=lf h
       exact bm fb (p19<|sg 32 c18<|sv (aG p)<|sv (aH p)<|cf (aZ.ln p.Kids)<|eF .normal (b9 p (decide ((p.Kids.length:Int)>most))))<|by kernel_rfl
    ·have p21:=fun{sc F} (r:PS sc F)=>p15<|sg 19 c14<|sv (aG p)<|sv (aH p)<|cf (aZ.ln p.Kids)<|r
     rcases aJ h with⟨c20,h⟩|⟨c20,h⟩
     ·obtain rfl:=lf h
      exact bm fb (p21<|sg 32 c20<|eF .normal (b9 p true))<|by kernel_rfl
     ·obtain rfl:=lf h
      exact bm fb (p21<|sg 32 c20<|sv (aG p)<|sv (aH p)<|cf (aZ.ln p.Kids)<|eF .normal (b9 p (decide ((p.Kids.length:Int)>most))))<|by kernel_rfl
   ·have p23:=fun{sc F} (r:PS sc F)=>p13<|sg 14 c12<|sv (aG p)<|sv (aH p)<|cf (aZ.ln p.Kids)<|r
    rcases aJ h with⟨c22,h⟩|⟨c22,h⟩
    ·obtain rfl:=lf h
     exact bm fb (p23<|sg 32 c22<|eF .normal (b9 p true))<|by kernel_rfl
    ·obtain rfl:=lf h
     exact bm fb (p23<|sg 32 c22<|sv (aG p)<|sv (aH p)<|cf (aZ.ln p.Kids)<|eF .normal (b9 p (decide ((p.Kids.length:Int)>most))))<|by kernel_rfl
 ·have p25:=fun{sc F} (r:PS sc F)=>p9<|sg 5 c8<|sv (aD p)<|sv (aE p)<|r
  rcases aJ h with⟨c24,h⟩|⟨c24,h⟩
  ·have p27:=fun{sc F} (r:PS sc F)=>p25<|sg 14 c24<|sv (aD p)<|sv (aE p)<|r
   rcases aJ h with⟨c26,h⟩|⟨c26,h⟩
   ·have p29:=fun{sc F} (r:PS sc F)=>p27<|sg 19 c26<|sv (bu p)<|sv (bI p)<|r
    rcases aJ h with⟨c28,h⟩|⟨c28,h⟩
    ·obtain rfl:=lf h
     exact bm fb (p29<|sg 25 c28<|eF .normal (b9 p true))<|by kernel_rfl
    ·have p31:=fun{sc F} (r:PS sc F)=>p29<|sg 25 c28<|sv (aG p)<|sv (aH p)<|cf (aZ.ln p.Kids)<|r
     rcases aJ h with⟨c30,h⟩|⟨c30,h⟩
     ·obtain rfl:=lf h
      exact bm fb (p31<|sg 32 c30<|eF .normal (b9 p true))<|by kernel_rfl
     ·obtain rfl:=lf h
      exact bm fb (p31<|sg 32 c30<|sv (aG p)<|sv (aH p)<|cf (aZ.ln p.Kids)<|eF .normal (b9 p (decide ((p.Kids.length:Int)>most))))<|by kernel_rfl
   ·have p33:=fun{sc F} (r:PS sc F)=>p27<|sg 19 c26<|sv (aG p)<|sv (aH p)<|cf (aZ.ln p.Kids)<|r
    rcases aJ h with⟨c32,h⟩|⟨c32,h⟩
    ·obtain rfl:=lf h
     exact bm fb (p33<|sg 32 c32<|eF .normal (b9 p true))<|by kernel_rfl
    ·obtain rfl:=lf h
     exact bm fb (p33<|sg 32 c32<|sv (aG p)<|sv (aH p)<|cf (aZ.ln p.Kids)<|eF .normal (b9 p (decide ((p.Kids.length:Int)>most))))<|by kernel_rfl
  ·have p35:=fun{sc F} (r:PS sc F)=>p25<|sg 14 c24<|sv (aG p)<|sv (aH p)<|cf (aZ.ln p.Kids)<|r
   rcases aJ h with⟨c34,h⟩|⟨c34,h⟩
   ·obtain rfl:=lf h
    exact bm fb (p35<|sg 32 c34<|eF .normal (b9 p true))<|by kernel_rfl
   ·obtain rfl:=lf h
    exact bm fb (p35<|sg 32 c34<|sv (aG p)<|sv (aH p)<|cf (aZ.ln p.Kids)<|eF .normal (b9 p (decide ((p.Kids.length:Int)>most))))<|by kernel_rfl
end
section
variable(p:aa)
def F9:ax:=aP 130 [(1,.eptr (ac p))] [.dead] []
def dV(o:Bool):ax:=aP 130 [(1,.eptr (ac p)),(82,.bool o)] [.dead] []
def Aw:Option Bool:=
 if (p.Op == 1) = true then
  (Pv p.N).bind fun r41=>
  if(!r41)=true then
   some true
  else
   if(p.Op==2)=true then
    if(p.N !=0)=true then
     some (p.N !=1)
    else
     some false
   else
    some false
 else
  if(p.Op==2)=true then
   if(p.N !=0)=true then
    some (p.N !=1)
   else
    some false
  else
   some false
theorem DJ{x:Bool}(h:Aw p=some x):aL Pg GE 0 (cA yC 124) (EX .normal (dV p x)) (F9 p):=by
 have p40:=fun{sc F} (r:PS sc F)=>sv (aD p)<|sv (aE p)<|r
 rcases aJ h with⟨c39,h⟩|⟨c39,h⟩
 ·obtain⟨r41,br41,h⟩:=ay h
  have p43:=fun{sc F} (r:PS sc F)=>p40<|sg 4 c39<|sv (bu p)<|sv (bI p)<|aX (NS br41)<|r
  rcases aJ h with⟨c42,h⟩|⟨c42,h⟩
  ·obtain rfl:=lf h
   exact bm fb (p43<|sg 10 c42<|eF .normal (dV p true))<|by kernel_rfl
  ·have p45:=fun{sc F} (r:PS sc F)=>p43<|sg 10 c42<|sv (aD p)<|sv (aE p)<|r
   rcases aJ h with⟨c44,h⟩|⟨c44,h⟩
   ·have p47:=fun{sc F} (r:PS sc F)=>p45<|sg 14 c44<|sv (bu p)<|sv (bI p)<|r
    rcases aJ h with⟨c46,h⟩|⟨c46,h⟩
    ·obtain rfl:=lf h
     exact bm fb (p47<|sg 19 c46<|sv (bu p)<|sv (bI p)<|eF .normal (dV p (p.N !=1)))<|by kernel_rfl
    ·obtain rfl:=lf h
     exact bm fb (p47<|sg 19 c46<|eF .normal (dV p false))<|by kernel_rfl
   ·obtain rfl:=lf h
    exact bm fb (p45<|sg 14 c44<|eF .normal (dV p false))<|by kernel_rfl
 ·have p49:=fun{sc F} (r:PS sc F)=>p40<|sg 4 c39<|sv (aD p)<|sv (aE p)<|r
  rcases aJ h with⟨c48,h⟩|⟨c48,h⟩
  ·have p51:=fun{sc F} (r:PS sc F)=>p49<|sg 14 c48<|sv (bu p)<|sv (bI p)<|r
   rcases aJ h with⟨c50,h⟩|⟨c50,h⟩
   ·obtain rfl:=lf h
    exact bm fb (p51<|sg 19 c50<|sv (bu p)<|sv (bI p)<|eF .normal (dV p (p.N !=1)))<|by kernel_rfl
   ·obtain rfl:=lf h
    exact bm fb (p51<|sg 19 c50<|eF .normal (dV p false))<|by kernel_rfl
  ·obtain rfl:=lf h
   exact bm fb (p49<|sg 14 c48<|eF .normal (dV p false))<|by kernel_rfl
end
section
variable(p:aa)
def Gb:ax:=aP 130 [(1,.eptr (ac p))] [.dead] []
def oV(o:Bool):ax:=aP 130 [(1,.eptr (ac p)),(91,.bool o)] [.dead] []
def Ay:Option Bool:=
 (y4 p.Op).bind fun r55=>
 if r55=true then
  (yO p.Name).bind fun r58=>
  some (r58 !=0)
 else
  some false
theorem DK{x:Bool}(h:Ay p=some x):aL Pg GE 0 (cA yC 252) (EX .normal (oV p x)) (Gb p):=by
 obtain⟨r55,br55,h⟩:=ay h
 have p57:=fun{sc F} (r:PS sc F)=>sv (aD p)<|sv (aE p)<|aX (xN br55)<|r
 rcases aJ h with⟨c56,h⟩|⟨c56,h⟩
 ·obtain⟨r58,br58,h⟩:=ay h
  obtain rfl:=lf h
  exact bm fb (p57<|sg 4 c56<|sv (bp p)<|sv (bH p)<|aX (xz br58)<|eF .normal (oV p (r58 !=0)))<|by kernel_rfl
 ·obtain rfl:=lf h
  exact bm fb (p57<|sg 4 c56<|eF .normal (oV p false))<|by kernel_rfl
end
section
variable(p:aa)
def Gc:ax:=aP 130 [(1,.eptr (ac p))] [.dead] []
def oW(o:Bool):ax:=aP 130 [(1,.eptr (ac p)),(5,.bool o)] [.dead] []
def Az:Option Bool:=
 if(p.Op==3)=true then
  some (p.Name==([118]:ag))
 else
  some false
theorem DL{x:Bool}(h:Az p=some x):aL Pg GE 0 (cA yC 1012) (EX .normal (oW p x)) (Gc p):=by
 have p63:=fun{sc F} (r:PS sc F)=>sv (aD p)<|sv (aE p)<|r
 rcases aJ h with⟨c62,h⟩|⟨c62,h⟩
 ·obtain rfl:=lf h
  exact bm fb (p63<|sg 4 c62<|sv (bp p)<|sv (bH p)<|eF .normal (oW p (p.Name==([118]:ag))))<|by kernel_rfl
 ·obtain rfl:=lf h
  exact bm fb (p63<|sg 4 c62<|eF .normal (oW p false))<|by kernel_rfl
end
section
variable(p:aa)(v:Bool)
def Gd:ax:=aP 130 [(1,.eptr (ac p)),(5,.bool v)] [.dead] []
def kZ(o:Bool):ax:=aP 130 [(1,.eptr (ac p)),(5,.bool v),(6,.bool o)] [.dead] []
def AA:Option Bool:=
 if(p.Op==4)=true then
  if(p.Name==([116,97,103]:ag))=true then
   some true
  else
   some (p.Name==([118,97,108]:ag))
 else
  some false
theorem DM{x:Bool}(h:AA p=some x):aL Pg GE 0 (cA yC 2026) (EX .normal (kZ p v x)) (Gd p v):=by
 have p66:=fun{sc F} (r:PS sc F)=>sv (aD p)<|sv (aE p)<|r
 rcases aJ h with⟨c65,h⟩|⟨c65,h⟩
 ·have p68:=fun{sc F} (r:PS sc F)=>p66<|sg 4 c65<|sv (bp p)<|sv (bH p)<|r
  rcases aJ h with⟨c67,h⟩|⟨c67,h⟩
  ·obtain rfl:=lf h
   exact bm fb (p68<|sg 8 c67<|eF .normal (kZ p v true))<|by kernel_rfl
  ·obtain rfl:=lf h
   exact bm fb (p68<|sg 8 c67<|sv (bp p)<|sv (bH p)<|eF .normal (kZ p v (p.Name==([118,97,108]:ag))))<|by kernel_rfl
 ·obtain rfl:=lf h
  exact bm fb (p66<|sg 4 c65<|eF .normal (kZ p v false))<|by kernel_rfl
end
section
variable(p:aa)(v:Bool)(symbol:Bool)
def Ge:ax:=aP 130 [(1,.eptr (ac p)),(5,.bool v),(6,.bool symbol)] [.dead] []
def oX(o:Bool):ax:=aP 130 [(1,.eptr (ac p)),(118,.bool o)] [.dead] []
def AB:Option Bool:=
 if(!v)=true then
  some (!symbol)
 else
  some false
theorem DN{x:Bool}(h:AB v symbol=some x):aL Pg GE 0 (cA yC 4054) (EX .normal (oX p x)) (Ge p v symbol):=by
 rcases aJ h with⟨c70,h⟩|⟨c70,h⟩
 ·obtain rfl:=lf h
  exact bm fb (sg 3 c70<|eF .normal (oX p (!symbol)))<|by kernel_rfl
 ·obtain rfl:=lf h
  exact bm fb (sg 3 c70<|eF .normal (oX p false))<|by kernel_rfl
end
section
variable(p:aa)
def Ga:ax:=aP 130 [(1,.eptr (ac p))] [.dead] []
def kY(o:Unit⊕(Unit)):Exit:=match o with
 |(.inl _)=>.ret
 |(.inr _)=>.normal
def fX(o:Unit⊕(Unit)):ax:=match o with
 |(.inl o)=>aP 130 [(2,.int .i64 3)] [.dead] []
 |(.inr o)=>aP 130 [(1,.eptr (ac p))] [.dead] []
def Ax:Option (Unit⊕(Unit)):=
 (Ay p).bind fun o59=>
 if o59=true then
  (Az p).bind fun o64=>
  (AA p).bind fun o69=>
  (AB o64 o69).bind fun o71=>
  if o71=true then
   some (.inl ())
  else
   some (.inr ())
 else
  some (.inr ())
theorem tx{x:Unit⊕(Unit)}(h:Ax p=some x):aL Pg GE 0 (cA yC 126) (EX (kY x) (fX p x)) (Ga p):=by
 obtain⟨o59,bo59,h⟩:=ay h
 have p61:=fun{sc F} (r:PS sc F)=>iO 0<|ct (DK p bo59)<|r
 rcases aJ h with⟨c60,h⟩|⟨c60,h⟩
 ·obtain⟨o64,bo64,h⟩:=ay h
  obtain⟨o69,bo69,h⟩:=ay h
  obtain⟨o71,bo71,h⟩:=ay h
  have p73:=fun{sc F} (r:PS sc F)=>p61<|sg 0 c60<|iO 0<|ct (DL p bo64)<|iO 0<|ct (DM p o64 bo69)<|iO 0<|ct (DN p o64 o69 bo71)<|r
  rcases aJ h with⟨c72,h⟩|⟨c72,h⟩
  ·obtain rfl:=lf h
   exact bm fb (p73<|sg 0 c72<|eF (kY (.inl ())) (fX p (.inl ())))<|by kernel_rfl
  ·obtain rfl:=lf h
   exact bm fb (p73<|sg 0 c72<|eF (kY (.inr ())) (fX p (.inr ())))<|by kernel_rfl
 ·obtain rfl:=lf h
  exact bm fb (p61<|sg 0 c60<|eF (kY (.inr ())) (fX p (.inr ())))<|by kernel_rfl
end
section
variable(p:aa)
def Gf:ax:=aP 130 [(1,.eptr (ac p))] [.dead] []
def oY(o:Bool):ax:=aP 130 [(129,.bool o)] [.dead] []
def AC:Option Bool:=
 if(p.Op==8)=true then
  (dT p.Kids 0).bind fun x77=>
  some (x77.Op !=1)
 else
  some false
theorem DO{x:Bool}(h:AC p=some x):aL Pg GE 0 (cA yC 508) (EX .normal (oY x)) (Gf p):=by
 have p76:=fun{sc F} (r:PS sc F)=>sv (aD p)<|sv (aE p)<|r
 rcases aJ h with⟨c75,h⟩|⟨c75,h⟩
 ·obtain⟨x77,bx77,h⟩:=ay h
  obtain rfl:=lf h
  exact bm fb (p76<|sg 4 c75<|sv (aG p)<|sv (aH p)<|sv (aZ.ia (k:=.i64) bx77)<|sv (aD x77)<|sv (aE x77)<|eF .normal (oY (x77.Op !=1)))<|by kernel_rfl
 ·obtain rfl:=lf h
  exact bm fb (p76<|sg 4 c75<|eF .normal (oY false))<|by kernel_rfl
end
def H9(p:aa):Option Int:=
 (Au p).bind fun o3=>
 if o3=true then
  some 1
 else
  (H8 p.Op).bind fun r6=>
  (Av p r6.1 r6.2).bind fun o36=>
  if o36=true then
   some 1
  else
   (Aw p).bind fun o52=>
   if o52=true then
    some 2
   else
    (Ax p).bind fun o74=>match o74 with
    |(.inl o74)=>
     some 3
    | (.inr o74) =>
     (AC p).bind fun o78=>
     if o78=true then
      some 6
     else
      some 0
theorem AD{p:aa}{r:Int}(h:H9 p=some r):CC Pg GE 166 [.agg (ac p)] (.int .i64 r) []:=by
 obtain⟨o3,bo3,h⟩:=ay h
 have p5:=fun{sc F} (r:PS sc F)=>se (bJ p)<|iO 1<|ct (DH p bo3)<|r
 rcases aJ h with⟨c4,h⟩|⟨c4,h⟩
 ·obtain rfl:=lf h
  have z:=p5<|sg 0 c4<|en (aI (rP (.int .i64 1))<|trivial)
  exact bo fb call166 func166 (c:=yC) rfl (aI (ah p) trivial) z<|by kernel_rfl
 ·obtain⟨r6,br6,h⟩:=ay h
  obtain⟨o36,bo36,h⟩:=ay h
  have p38:=fun{sc F} (r:PS sc F)=>p5<|sg 0 c4<|sv (aD p)<|sv (aE p)<|aX (Jv br6)<|iO 1<|ct (DI p r6.1 r6.2 bo36)<|r
  rcases aJ h with⟨c37,h⟩|⟨c37,h⟩
  ·obtain rfl:=lf h
   have z:=p38<|sg 0 c37<|en (aI (rP (.int .i64 1))<|trivial)
   exact bo fb call166 func166 (c:=yC) rfl (aI (ah p) trivial) z<|by kernel_rfl
  ·obtain⟨o52,bo52,h⟩:=ay h
   have p54:=fun{sc F} (r:PS sc F)=>p38<|sg 0 c37<|iO 1<|ct (DJ p bo52)<|r
   rcases aJ h with⟨c53,h⟩|⟨c53,h⟩
   ·obtain rfl:=lf h
    have z:=p54<|sg 0 c53<|en (aI (rP (.int .i64 2))<|trivial)
    exact bo fb call166 func166 (c:=yC) rfl (aI (ah p) trivial) z<|by kernel_rfl
   ·obtain⟨o74,bo74,h⟩:=ay h
    rcases o74 with o74|o74
    ·obtain rfl:=lf h
     have z:=p54<|sg 0 c53<|iO 0<|ct (e:=.ret) (s1:=fX p (.inl o74)) (tx p bo74)<|en (aI (rP (.int .i64 3))<|trivial)
     exact bo fb call166 func166 (c:=yC) rfl (aI (ah p) trivial) z<|by kernel_rfl
    ·obtain⟨o78,bo78,h⟩:=ay h
     have p80:=fun{sc F} (r:PS sc F)=>p54<|sg 0 c53<|iO 0<|ct (e:=.normal) (s1:=fX p (.inr o74)) (tx p bo74)<|iO 1<|ct (DO p bo78)<|r
     rcases aJ h with⟨c79,h⟩|⟨c79,h⟩
     ·obtain rfl:=lf h
      have z:=p80<|sg 0 c79<|en (aI (rP (.int .i64 6))<|trivial)
      exact bo fb call166 func166 (c:=yC) rfl (aI (ah p) trivial) z<|by kernel_rfl
     ·obtain rfl:=lf h
      have z:=p80<|sg 0 c79<|en (aI (rP (.int .i64 0))<|trivial)
      exact bo fb call166 func166 (c:=yC) rfl (aI (ah p) trivial) z<|by kernel_rfl
abbrev Wz:Nat:=137
noncomputable def QC:Code:=f137.body.getD .skip
abbrev VQ:Code:=cX QC [false]
abbrev UW:Code:=cX QC [true,false]
abbrev UX:Code:=cX QC [true,true,false]
abbrev VS:Code:=cX QC [true,true,true,false,false]
abbrev Qa:Code:=cX QC [true,true,true,false,true,false]
abbrev Sv:Code:=cX QC [true,true,true,true,false]
theorem Si:QC=.seq VQ (.seq UW (.seq UX (.seq (.seq VS (.block 0 (.rangeFunc (.tmp 12) #[13] (Qc Qa) (Qd Qa)))) (.seq Sv .ret)))):=by kernel_rfl
def wq(s:Int)(x:aa):Option (Bool×Int):=(H9 x).bind fun e=>if(e !=0)=true then some (false,e)else some (true,s)
def y0(p:aa):Option Int:=
 (sZ p).bind fun n=>if decide (n>400)=true then some 7 else
 (sY p).bind fun d=>if decide (d>40)=true then some 8 else
 (Hy wq p 0).bind fun q=>if q.1=true then some 0 else some q.2
abbrev QE(s:Int):List aC:=[.dead,.cells [.int .i64 s] []]
abbrev Ld(s:Int):ax:=aP 19 [(2,.bptr 1 0)] (QE s) []
abbrev Gr(p:aa):ax:=aP 19 [(1,.eptr (ac p)),(2,.bptr 1 0)] (QE 0) []
theorem WE(p:aa):aL Pg GE 0 VQ (EX .normal (Gr p)) (aP 19 [(0,.agg (ac p))] [] []):=by
 have z:=se (bJ p)<|sx (show ja Pg 40=some [.int .i64 0] by kernel_rfl)<|eF .normal (Gr p)
 exact dH (A:=[]) mixed z (by kernel_rfl)
theorem UZ(p:aa){n:Int}(h:sZ p=some n)(c:decide (n>400)=true):aL Pg GE 0 UW (EX .ret (Ld 7)) (Gr p):=by
 have z:=sv (aM p)<|aX (xL h)<|sg 0 c<|ss<|eF .ret (Ld 7)
 exact dH (A:=[]) mixed z (by kernel_rfl)
theorem U0(p:aa){n:Int}(h:sZ p=some n)(c:decide (n>400)=false):aL Pg GE 0 UW (EX .normal (Gr p)) (Gr p):=by
 have z:=sv (aM p)<|aX (xL h)<|sg 0 c<|eF .normal (Gr p)
 exact dH (A:=[]) mixed z (by kernel_rfl)
theorem U1(p:aa){n:Int}(h:sY p=some n)(c:decide (n>40)=true):aL Pg GE 0 UX (EX .ret (Ld 8)) (Gr p):=by
 have z:=sv (aM p)<|aX (xJ h)<|sg 0 c<|ss<|eF .ret (Ld 8)
 exact dH (A:=[]) mixed z (by kernel_rfl)
theorem U2(p:aa){n:Int}(h:sY p=some n)(c:decide (n>40)=false):aL Pg GE 0 UX (EX .normal (Gr p)) (Gr p):=by
 have z:=sv (aM p)<|aX (xJ h)<|sg 0 c<|eF .normal (Gr p)
 exact dH (A:=[]) mixed z (by kernel_rfl)
abbrev Rg(p:aa):ax:=aP 19 [(2,.bptr 1 0),(12,.func (.func fW) [] [.eptr (ac p)])] (QE 0) []
theorem WF(p:aa):aL Pg GE 0 VS (EX .normal (Rg p)) (Gr p):=by
 have z:=sv (aM p)<|aX (HG p)<|eF .normal (Rg p)
 exact dH (A:=[]) mixed z (by kernel_rfl)
abbrev SF(s:Int)(x:aa):ax:=aP 19 [(2,.bptr 1 0),(3,.bptr 2 0)] (QE s++[.cells (JI x) []]) []
theorem WG(s:Int)(x:aa):aL Pg GE 2 (Qc Qa) (EX .normal (SF s x)) (aP 19 [(2,.bptr 1 0),(13,.agg (ac x))] (QE s) []):=by
 have z:=sx fY<|sx (cb x)<|eF .normal (SF s x)
 exact dH (A:=[]) mixed z (by kernel_rfl)
abbrev SG(r:Int):ax:=aP 19 [(2,.bptr 1 0)] (QE r++[.dead]) []
theorem WH(s:Int)(x:aa){r:Bool×Int}(h:wq s x=some r):aL Pg GE 2 (Qd Qa) (EX (if r.1=true then .normal else .ret) (SG r.2)) (SF s x):=by
 unfold wq at h
 obtain⟨e,be,h⟩:=ay h
 rcases aJ h with⟨c1,h⟩|⟨c1,h⟩
 ·cases h
  have z:=sv (bj x [])<|aX (AD be)<|sg 0 c1<|ss<|eF .ret (SG e)
  exact dH (A:=[]) mixed z (by kernel_rfl)
 ·cases h
  have z:=sv (bj x [])<|aX (AD be)<|sg 0 c1<|eF .normal (SG s)
  exact dH (A:=[]) mixed z (by kernel_rfl)
theorem UY(s:Int):aL Pg GE 2 (.seq Sv .ret) (EX .ret (Ld 0)) (Ld s):=by
 have z:=ss<|eF .ret (Ld 0)
 exact dH (A:=[]) mixed z (by kernel_rfl)
theorem T1(s:Int):aL Pg GE 2 .ret (EX .ret (Ld s)) (Ld s):=by
 have z:=eF .ret (Ld s)
 exact dH (A:=[]) mixed z (by kernel_rfl)
abbrev tb(fn:FuncId)(a:Array Value)(D:Nat)(b:Bool):Loop:={state:=if b then .ready else .done,pending:=if b then none else some .ret,fn:=fn,tmps:=a,params:=#[13],assign:=Qc Qa,body:=Qd Qa,defers:=D}
def JC(Γe:aS)(we:World)(bs:bv)(a:Array Value)(fn:FuncId)(l D:Nat)(b:Bool)(s:Int)(Γ:aS)(w:World):Prop:=
 ∃ow,SR Pg (D0 GE Γe we) Γ bs ow w a (Ld s)/\¬bS bs ow l/\¬bS bs ow D/\w.heap[l]? =some (.loop (tb fn a D b))/\w.heap[D]? =some (.deferred (some []))
theorem To{Γe:aS}{we:World}{bs:bv}{a:Array Value}{fn:FuncId}{l D:Nat}(hl:we.heap.size<=l)(hD:we.heap.size<=D)(hne:D≠l)(hb:bs.length=2):Yd Pg GE l ac wq (JC Γe we bs a fn l D) where
 base:=fun b s Γ w ⟨ow,h,_⟩=>h.base
 side:=fun b s Γ w ⟨ow,h,hTl,hTD,hhl,hhD⟩ Γ' bs' ow' w' a' st' h'=>
  ⟨ow,h.aside h',hTl,hTD,(h'.step.keep l (cy hhl) id).1.trans hhl,(h'.step.keep D (cy hhD) id).1.trans hhD⟩
 yield:=fun s Γ w x v n r ⟨ow,h,hTl,hTD,hhl,hhD⟩ hv hr=>by
  have hS4:=WH s x hr
  refine⟨_,_,_,_,run_yield hhl rfl,?_⟩
  have hz:(((#[13]:Array Tmp).zip #[v]).foldl (fun tmps (t,a)=>tmps.setIfInBounds t a) a)=a.setIfInBounds 13 v:=by simp
  show RoundIn Fence.wide n Pg l fn (((#[13]:Array Tmp).zip #[v]).foldl (fun tmps (t,a)=>tmps.setIfInBounds t a) a) (Qc Qa) (Qd Qa) w _
  rw[hz]
  have h7:SR Pg (D0 GE Γe we) Γ bs ow w (a.setIfInBounds 13 v) (aP 19 [(2,.bptr 1 0),(13,.agg (ac x))] (QE s) []):=h.set (d:=13) (p:=.agg (ac x)) (hv.mono (.refl _ _) (fun i b hi=>by simp at hi))
  refine roundIn_of_wpIn trivial (wpIn_mono (aL.on (WG s x) (by decide) h7 (by rw[hb];decide) (some l) [] n) ?_)
  rintro e ⟨a1,ds1⟩ w1 ⟨rfl,Γ1,bs1,ow1,st1,h1,⟨rfl,rfl⟩,hbs1,hle1,hsz1,hk1⟩
  obtain⟨k1,t1⟩:=hk1 l (cy hhl) hTl
  obtain⟨k1D,t1D⟩:=hk1 D (cy hhD) hTD
  have hl1:=k1.trans hhl
  refine⟨_,run_beginRound hl1 rfl,?_⟩
  obtain⟨h1',hle1'⟩:=h1.putOther (l:=l) (o:=.loop {tb fn a D true with state:=.busy}) t1 (.inr hl) (fun c t fr e=>by rw[hl1]at e;cases e)
  have hb1:2<=bs1.length:=by have:=h1.bl;rw[this];exact vcu rfl
  obtain⟨bq,s'⟩:=r
  refine wpIn_mono (aL.on hS4 (by decide) h1' hb1 (some l) [] n) ?_
  rintro e ⟨a2,ds2⟩ w2 ⟨rfl,Γ2,bs2,ow2,st2,h2,⟨rfl,rfl⟩,hbs2,hle2,hsz2,hk2⟩
  have hl1':(w1.putObj l (.loop {tb fn a D true with state:=.busy})).heap[l]? =some (.loop {tb fn a D true with state:=.busy}):=World.putObj_heap_same (cy hl1)
  have hD1':(w1.putObj l (.loop {tb fn a D true with state:=.busy})).heap[D]? =some (.deferred (some [])):=(World.putObj_heap_other hne).trans (k1D.trans hhD)
  obtain⟨k2,t2⟩:=hk2 l (cy hl1') t1
  obtain⟨k2D,t2D⟩:=hk2 D (cy hD1') t1D
  have hl2:=k2.trans hl1'
  cases bq with
  |true=>
   refine⟨_,_,run_endRound none hl2,?_⟩
   obtain⟨h3,hle3⟩:=h2.putOther (l:=l) (o:=.loop {{tb fn a D true with state:=.busy}with state:=if(none:Option Code).isNone then .ready else .done,pending:=none}) t2 (.inr hl) (fun c t fr e=>by rw[hl2]at e;cases e)
   have hle:Γ.Le w Γ2 (w2.putObj l (.loop {{tb fn a D true with state:=.busy}with state:=if(none:Option Code).isNone then .ready else .done,pending:=none})):=((hle1.trans hle1').trans hle2).trans hle3
   obtain⟨ow3,h4,hT4⟩:=h.back rfl h3 hle (H':=QE s') (fun i hi=>(hbs2 i (by omega)).trans (hbs1 i (by omega))) ⟨trivial,⟨rfl,aI trivial trivial,fun x hx=>hx⟩,trivial⟩ hb.symm
   exact⟨Γ2,rfl,hle,ow3,h4,fun hx=>t2 (hT4 l hx),fun hx=>t2D (hT4 D hx),World.putObj_heap_same (cy hl2),(World.putObj_heap_other hne).trans (k2D.trans hD1')⟩
  |false=>
   refine⟨_,_,run_endRound (some .ret) hl2,?_⟩
   obtain⟨h3,hle3⟩:=h2.putOther (l:=l) (o:=.loop {{tb fn a D true with state:=.busy}with state:=if(some Code.ret:Option Code).isNone then .ready else .done,pending:=some .ret}) t2 (.inr hl) (fun c t fr e=>by rw[hl2]at e;cases e)
   have hle:Γ.Le w Γ2 (w2.putObj l (.loop {{tb fn a D true with state:=.busy}with state:=if(some Code.ret:Option Code).isNone then .ready else .done,pending:=some .ret})):=((hle1.trans hle1').trans hle2).trans hle3
   obtain⟨ow3,h4,hT4⟩:=h.back rfl h3 hle (H':=QE s') (fun i hi=>(hbs2 i (by omega)).trans (hbs1 i (by omega))) ⟨trivial,⟨rfl,aI trivial trivial,fun x hx=>hx⟩,trivial⟩ hb.symm
   exact⟨Γ2,rfl,hle,ow3,h4,fun hx=>t2 (hT4 l hx),fun hx=>t2D (hT4 D hx),World.putObj_heap_same (cy hl2),(World.putObj_heap_other hne).trans (k2D.trans hD1')⟩
theorem Hp{p:aa}{r:Int}(h:y0 p=some r):CC Pg GE Wz [.agg (ac p)] (.int .i64 r) []:=by
 refine⟨aI (ah p) trivial,call137,fun Γ bs ow w vs hS=>(callsIn_wide (n:=0)).1 (callsIn_of_wp_marks func137 (c:=QC) rfl trivial ?_)⟩
 obtain rfl:bs=[]:=vak hS.bl
 obtain⟨v,rfl⟩:∃v,vs=#[v]:=vbG.1 hS.sz
 have hB:GB GE Γ w:=hS.base
 have hE:zo GE 0 (D0 GE Γ w):=hB.good
 have hvr:VR Γ [] w (.agg (ac p)) v:=hS.tm 0 _ _ rfl rfl
 have h0:SR Pg (D0 GE Γ w) Γ [] (fun _=>none) w (#[v]++Array.replicate 18 undef) (aP 19 [(0,.agg (ac p))] [] []):=by
  refine hB.fresh (a:=#[v]++Array.replicate 18 undef) 0 (tmps:=[.agg (ac p)]++List.replicate 18 .undef) (by simp) fun t q u hq hu=>?_
  by_cases ht:t<1
  ·rw[vac (by simpa using ht)]at hq
   rw[vaK (by simpa using ht)]at hu
   match t,ht with
   |0,_=>simp at hq hu;subst hq;subst hu;exact hvr
  ·rw[vaf (by show 1<=t;omega),vaO]at hq
   split at hq<;>cases hq
   exact .undef u
 have key:∀R:Ending->World->Prop,(∀{Γ6:aS} {bs6:bv} {ow6:Nat->Option jb} {a6:Array Value} {w6:World},SR Pg (D0 GE Γ w) Γ6 bs6 ow6 w6 a6 (Ld r)->LeavesInM Fence.wide 0 Pg f137 a6 R [] .returning w6)->
   QC.wpIn Fence.wide 0 Pg (bodyPostM Fence.wide 0 Pg f137 R) ⟨#[v]++Array.replicate 18 undef,[]⟩ w:=fun R hfin=>by
  unfold y0 at h
  obtain⟨n1,b1,h⟩:=ay h
  rw[Si]
  refine wpIn_seq (wpIn_mono (aL.wideE (WE p) hE h0 0 []) ?_)
  rintro e ⟨a1,ds1⟩ w1 ⟨rfl,Γ1,bs1,ow1,st1,h1,rfl,rfl⟩
  rcases aJ h with⟨c1,h⟩|⟨c1,h⟩
  ·cases h
   refine wpIn_seq (wpIn_mono (aL.wideE (UZ p b1 c1) hE h1 0 []) ?_)
   rintro e ⟨a2,ds2⟩ w2 ⟨rfl,Γ2,bs2,ow2,st2,h2,rfl,rfl⟩
   exact hfin h2
  refine wpIn_seq (wpIn_mono (aL.wideE (U0 p b1 c1) hE h1 0 []) ?_)
  rintro e ⟨a2,ds2⟩ w2 ⟨rfl,Γ2,bs2,ow2,st2,h2,rfl,rfl⟩
  obtain⟨n2,b2,h⟩:=ay h
  rcases aJ h with⟨c2,h⟩|⟨c2,h⟩
  ·cases h
   refine wpIn_seq (wpIn_mono (aL.wideE (U1 p b2 c2) hE h2 0 []) ?_)
   rintro e ⟨a3,ds3⟩ w3 ⟨rfl,Γ3,bs3,ow3,st3,h3,rfl,rfl⟩
   exact hfin h3
  refine wpIn_seq (wpIn_mono (aL.wideE (U2 p b2 c2) hE h2 0 []) ?_)
  rintro e ⟨a22,ds22⟩ w22 ⟨rfl,Γ22,bs22,ow22,st22,h22,rfl,rfl⟩
  obtain⟨q,hq,h⟩:=ay h
  refine wpIn_seq (wpIn_seq (wpIn_mono (aL.wideE (WF p) hE h22 0 []) ?_))
  rintro e ⟨a3,ds3⟩ w3 ⟨rfl,Γ3,bs3,ow3,st3,h3,rfl,rfl⟩
  have h6:=h3.opv [] (.tmp 12)
  have e6:opv (D0 GE Γ w).GE (Rg p).tmps (.tmp 12)=.func (.func fW) [] [.eptr (ac p)]:=rfl
  rw[e6]at h6
  have hbl:bs3.length=2:=h3.bl
  refine wpIn_block (wpIn_rangeFunc fun fn _=>?_)
  obtain⟨g1,l1⟩:=h3.allocO (.deferred (some []))
  obtain⟨g2,l2⟩:=g1.allocO (.loop (tb fn a3 w3.heap.size true))
  have gF:=g2.forgetT (tm:=(Ld 0).tmps) rfl
  have hsz3:w.heap.size<=w3.heap.size:=h3.step.size
  have htl:∀b,w3.heap.size<=b->¬bS bs3 ow3 b:=fun b hb hx=>by
   rcases hx with⟨i,hi⟩|hx
   ·have hil:i<(Rg p).boxes.length:=by rw[<-h3.bl];exact aj hi
    have:=(h3.bx i b _ hi (vaa hil)).2.1
    omega
   ·cases hL:ow3 b with
    |none=>exact hx hL
    |some L=>have:=(h3.on b L hL).1;omega
  generalize hvf:(Act.mk a3 []).eval (.tmp 12)=vf at h6
  cases h6 with
  |func _ _ _ fs cs hl1 hl2 hf hc=>
  obtain rfl:fs=#[]:=vaW hl1
  obtain⟨cv,rfl⟩:∃v,cs=#[v]:=vbG.1 hl2
  have hcv:VR Γ3 bs3 w3 (.eptr (ac p)) cv:=hc 0 _ _ rfl rfl
  have hJ:JC Γ w bs3 a3 fn (w3.heap.size+1) w3.heap.size true 0 Γ3 ((w3.alloc (.deferred (some []))).alloc (.loop (tb fn a3 w3.heap.size true))):=by
   refine⟨ow3,gF,htl _ (by omega),htl _ (van _),?_,?_⟩
   ·have:=World.alloc_heap_new (w3.alloc (.deferred (some []))) (.loop (tb fn a3 w3.heap.size true))
    rwa[World.size_alloc]at this
   ·rw[cP _ _ (by rw[World.size_alloc];omega)]
    exact World.alloc_heap_new w3 _
  have hY:=To (Γe:=Γ) (we:=w) (bs:=bs3) (a:=a3) (fn:=fn) (l:=w3.heap.size+1) (D:=w3.heap.size) (by omega) hsz3 (by omega) hbl
  refine⟨_,_,_,{target:=.fn (.func fW) #[cv],args:=#[.func (.yield (w3.heap.size+1)) #[] #[]]},(w3.alloc (.deferred (some []))).alloc (.loop (tb fn a3 w3.heap.size true)),fW,#[.func (.yield (w3.heap.size+1)) #[] #[],cv],(w3.alloc (.deferred (some []))).alloc (.loop (tb fn a3 w3.heap.size true)),run_enterLoop_outer fn a3 #[13] (Qc Qa) (Qd Qa),?_,fun _ _=>trivial,?_,fun hx=>by simp[Fence.wide]at hx,?_⟩
  ·have hvf':(Act.mk a3 []).eval (.tmp 12)=.func (.func fW) #[] #[cv]:=hvf
   simp only[resolve,hvf',Deferred.ofValue]
   simp[Act.eval]
   rfl
  ·simp[invoke,call129]
  ·refine(OM hY p (n:=0 - 1) hq hJ (((hcv.mono l1 (.refl _)).mono l2 (.refl _)).clo (show i8 0 (ac p)from ah p))).mono ?_
   rintro e w4 ⟨⟨u,rfl⟩,Γ4,hle4,ow4,h4,tl4,tD4,hl4,hD4⟩
   refine⟨_,_,run_endLoop hl4 (by cases q.1<;>simp),?_⟩
   obtain⟨h5,hle5⟩:=h4.putOther (l:=w3.heap.size+1) (o:=.loop {tb fn a3 w3.heap.size q.1 with state:=.exhausted}) tl4 (.inr (show w.heap.size<=_ by omega)) (fun c t fr e=>by rw[hl4]at e;cases e)
   have hD5:(w4.putObj (w3.heap.size+1) (.loop {tb fn a3 w3.heap.size q.1 with state:=.exhausted})).heap[w3.heap.size]? =some (.deferred (some [])):=(World.putObj_heap_other (by omega)).trans hD4
   generalize w4.putObj (w3.heap.size+1) (.loop {tb fn a3 w3.heap.size q.1 with state:=.exhausted})=w5 at h5 hle5 hD5
   have last:∀c:Code,aL Pg GE 2 c (EX .ret (Ld r)) (Ld q.2)->∀Q:Exit->Act->World->Prop,(∀a w,bodyPostM Fence.wide 0 Pg f137 R .ret a w->Q .ret a w)->c.wpIn Fence.wide 0 Pg Q ⟨a3,[{target:=.collected w3.heap.size,args:=#[]}]⟩ w5:=fun c hc Q hQ=>by
    refine wpIn_mono (wpIn_wide.2 (aL.on hc (by decide) h5 (by rw[hbl];decide) none [{target:=.collected w3.heap.size,args:=#[]}])) ?_
    rintro e ⟨a6,ds6⟩ w6 ⟨rfl,Γ6,bs6,ow6,st6,h6,⟨rfl,rfl⟩,hbs6,hle6,hsz6,hk6⟩
    obtain⟨k6,t6⟩:=hk6 _ (cy hD5) tD4
    have hD6:=k6.trans hD5
    obtain⟨h7,hle7⟩:=h6.putOther (l:=w3.heap.size) (o:=.deferred none) t6 (.inr hsz3) (fun c t fr e=>by rw[hD6]at e;cases e)
    exact hQ _ _ ⟨by simp,.inl ⟨w3.heap.size,_,rfl,run_takeDeferred hD6,hfin h7⟩⟩
   rcases aJ h with⟨c3,h⟩|⟨c3,h⟩
   ·cases h
    have e3:(tb fn a3 w3.heap.size q.1).pending=none:=by show(if q.1=true then none else some Code.ret)=none;rw[c3];rfl
    rw[e3]
    exact last (.seq Sv .ret) (UY q.2) _ (fun _ _ hx=>hx)
   ·cases h
    have e3:(tb fn a3 w3.heap.size q.1).pending=some .ret:=by show(if q.1=true then none else some Code.ret)=some .ret;rw[c3];rfl
    rw[e3]
    exact last .ret (T1 q.2) _ (fun _ _ hx=>hx)
 refine key _ fun{Γ6 bs6 ow6 a6 w6} h7=>?_
 have hS7:SR Pg ⟨GE,Γ,w,bS [] ow⟩ Γ6 bs6 ow6 w6 a6 (Ld r):={h7 with
  bn:=fun i b hb=>(h7.bn i b hb).elim False.elim .inr
  on:=fun b L hL=>⟨(h7.on b L hL).1,(h7.on b L hL).2.elim False.elim .inr⟩
  gx:=hS.gx
  step:={h7.step with keep:=fun b hb _=>h7.step.keep b hb (fun hx=>hx)}}
 obtain⟨vr,e1,e2,e3⟩:=ru hS7 (fn:=f137) (r:=.int .i64 r) (by kernel_rfl)
 refine⟨vr,e1,vr,Γ6,zK (ei f137.results.toList) [] ow6,rfl,?_⟩
 have hf:=hS7.finish (H':=[]) (src:=ei f137.results.toList) (ro:=[]) e2 trivial trivial (fun x hx=>by cases hx) (fun x hx=>by cases hx)
 simpa using hf
end Go.Proofs.YtggeppllafbidaaGreatDoor
