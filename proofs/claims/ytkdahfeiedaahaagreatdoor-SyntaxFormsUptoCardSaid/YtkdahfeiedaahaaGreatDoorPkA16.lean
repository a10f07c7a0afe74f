/- PROVED: a part of the proof. Conditions: none. -/
import Derived.Test.YtkdahfeiedaahaaGreatDoorPkA15
noncomputable section
namespace Go.Proofs.YtkdahfeiedaahaaGreatDoor
open Go Go.Proofs.Tryz
set_option linter.unusedVariables false
set_option maxRecDepth 100000
abbrev xD:=(ak->Option Int)
abbrev BX(R:xD):Prop:=∀(t:ak) (r:Int),R t=some r->CC Pg GE 145 [.agg (aj t)] (.int .i64 r) []
noncomputable def UM:Code:=f166.body.getD .skip
def PR:List Nat:=[]
section
variable(t:ak)
def J5:aB:=aZ 39 [(1,.eptr (aj t))] [.dead] []
def lX(o:Bool):aB:=aZ 39 [(38,.bool o)] [.dead] []
def zq:Option Bool:=
 if(decide ((t.Args.length:Int)<2))=true then
  some true
 else
  if(decide ((t.Args.length:Int)>7))=true then
   some true
  else
   if((t.Names.length:Int)!=0)=true then
    some ((t.Names.length:Int)!=(bN ((t.Args.length:Int) - 1)))
   else
    some false
theorem II{x:Bool}(h:zq t=some x):aU Pg GE 0 (cA UM 892) (EX .normal (lX x)) (J5 t):=by
 have p8:=fun{sc F} (r:PS sc F)=>sv (bO t)<|sv (bP t)<|bF (db.ln t.Args)<|r
 rcases aH h with⟨c7,h⟩|⟨c7,h⟩
 ·obtain rfl:=lf h
  exact aY PR (p8<|sg 5 c7<|eF .normal (lX true))<|by kernel_rfl
 ·have p10:=fun{sc F} (r:PS sc F)=>p8<|sg 5 c7<|sv (bO t)<|sv (bP t)<|bF (db.ln t.Args)<|r
  rcases aH h with⟨c9,h⟩|⟨c9,h⟩
  ·obtain rfl:=lf h
   exact aY PR (p10<|sg 11 c9<|eF .normal (lX true))<|by kernel_rfl
  ·have p12:=fun{sc F} (r:PS sc F)=>p10<|sg 11 c9<|sv (b8 t)<|sv (b9 t)<|bF (cO.ln t.Names)<|r
   rcases aH h with⟨c11,h⟩|⟨c11,h⟩
   ·obtain rfl:=lf h
    exact aY PR (p12<|sg 16 c11<|sv (b8 t)<|sv (b9 t)<|bF (cO.ln t.Names)<|sv (bO t)<|sv (bP t)<|bF (db.ln t.Args)<|eF .normal (lX ((t.Names.length:Int)!=(bN ((t.Args.length:Int) - 1)))))<|by kernel_rfl
   ·obtain rfl:=lf h
    exact aY PR (p12<|sg 16 c11<|eF .normal (lX false))<|by kernel_rfl
end
def At(t:ak):Option Int:=
 if(t.Op==4)=true then
  if(decide ((t.Args.length:Int)>6))=true then
   some 13
  else
   some 0
 else
  if(t.Op==6)=true then
   (zq t).bind fun o13=>
   if o13=true then
    some 13
   else
    some 0
  else
   some 0
theorem NI{t:ak}{r:Int}(h:At t=some r):CC Pg GE 166 [.agg (aj t)] (.int .i64 r) []:=by
 have p2:=fun{sc F} (r:PS sc F)=>se (kF t)<|sv (aR t)<|sv (aS t)<|r
 rcases aH h with⟨c1,h⟩|⟨c1,h⟩
 ·have p4:=fun{sc F} (r:PS sc F)=>p2<|sg 0 c1<|sv (bO t)<|sv (bP t)<|bF (db.ln t.Args)<|r
  rcases aH h with⟨c3,h⟩|⟨c3,h⟩
  ·obtain rfl:=lf h
   have z:=p4<|sg 0 c3<|en (aI (rP (.int .i64 13))<|trivial)
   exact bI PR call166 func166 (c:=UM) rfl (aI (aO t) trivial) z<|by kernel_rfl
  ·obtain rfl:=lf h
   have z:=p4<|sg 0 c3<|en (aI (rP (.int .i64 0))<|trivial)
   exact bI PR call166 func166 (c:=UM) rfl (aI (aO t) trivial) z<|by kernel_rfl
 ·have p6:=fun{sc F} (r:PS sc F)=>p2<|sg 0 c1<|r
  rcases aH h with⟨c5,h⟩|⟨c5,h⟩
  ·obtain⟨o13,bo13,h⟩:=aG h
   have p15:=fun{sc F} (r:PS sc F)=>p6<|sg 0 c5<|nN 0<|cK (II t bo13)<|r
   rcases aH h with⟨c14,h⟩|⟨c14,h⟩
   ·obtain rfl:=lf h
    have z:=p15<|sg 0 c14<|en (aI (rP (.int .i64 13))<|trivial)
    exact bI PR call166 func166 (c:=UM) rfl (aI (aO t) trivial) z<|by kernel_rfl
   ·obtain rfl:=lf h
    have z:=p15<|sg 0 c14<|en (aI (rP (.int .i64 0))<|trivial)
    exact bI PR call166 func166 (c:=UM) rfl (aI (aO t) trivial) z<|by kernel_rfl
  ·obtain rfl:=lf h
   have z:=p6<|sg 0 c5<|en (aI (rP (.int .i64 0))<|trivial)
   exact bI PR call166 func166 (c:=UM) rfl (aI (aO t) trivial) z<|by kernel_rfl
noncomputable def Lc:Code:=f145.body.getD .skip
def rK:List Nat:=[68,100]
section
variable(t:ak)
def Lu:aB:=aZ 102 [(1,.eptr (aj t))] [.dead] []
def w9(o:Bool):aB:=aZ 102 [(1,.eptr (aj t)),(3,.bool o)] [.dead] []
def vM:Option Bool:=
 if(t.Op==4)=true then
  some true
 else
  some (t.Op==5)
theorem J6{x:Bool}(h:vM t=some x):aU Pg GE 0 (cA Lc 6) (EX .normal (w9 t x)) (Lu t):=by
 have p2:=fun{sc F} (r:PS sc F)=>sv (aR t)<|sv (aS t)<|r
 rcases aH h with⟨c1,h⟩|⟨c1,h⟩
 ·obtain rfl:=lf h
  exact aY rK (p2<|sg 4 c1<|eF .normal (w9 t true))<|by kernel_rfl
 ·obtain rfl:=lf h
  exact aY rK (p2<|sg 4 c1<|sv (aR t)<|sv (aS t)<|eF .normal (w9 t (t.Op==5)))<|by kernel_rfl
end
section
variable(t:ak)(named:Bool)
def Lv:aB:=aZ 102 [(1,.eptr (aj t)),(3,.bool named)] [.dead] []
def xa(o:Bool):aB:=aZ 102 [(1,.eptr (aj t)),(3,.bool named),(4,.bool o)] [.dead] []
def vN:Option Bool:=
 if(t.Op==4)=true then
  some true
 else
  some (t.Op==6)
theorem J7{x:Bool}(h:vN t=some x):aU Pg GE 0 (cA Lc 14) (EX .normal (xa t named x)) (Lv t named):=by
 have p5:=fun{sc F} (r:PS sc F)=>sv (aR t)<|sv (aS t)<|r
 rcases aH h with⟨c4,h⟩|⟨c4,h⟩
 ·obtain rfl:=lf h
  exact aY rK (p5<|sg 4 c4<|eF .normal (xa t named true))<|by kernel_rfl
 ·obtain rfl:=lf h
  exact aY rK (p5<|sg 4 c4<|sv (aR t)<|sv (aS t)<|eF .normal (xa t named (t.Op==6)))<|by kernel_rfl
end
section
variable(t:ak)(named:Bool)(compound:Bool)
def Lw:aB:=aZ 102 [(1,.eptr (aj t)),(3,.bool named),(4,.bool compound)] [.dead] []
def da(o:Bool):aB:=aZ 102 [(1,.eptr (aj t)),(3,.bool named),(63,.bool o)] [.dead] []
def vO:Option Bool:=
 if(decide (t.Op<1))=true then
  some true
 else
  if(decide (t.Op>6))=true then
   some true
  else
   if (!(t.Name == ([]:ah))) = true then
    if(!named)=true then
     some true
    else
     if (decide ((t.Args.length:Int) > 0)) = true then
      if(!compound)=true then
       some true
      else
       if(decide ((t.Names.length:Int)>0))=true then
        some (t.Op !=6)
       else
        some false
     else
      if(decide ((t.Names.length:Int)>0))=true then
       some (t.Op !=6)
      else
       some false
   else
    if (decide ((t.Args.length:Int) > 0)) = true then
     if(!compound)=true then
      some true
     else
      if(decide ((t.Names.length:Int)>0))=true then
       some (t.Op !=6)
      else
       some false
    else
     if(decide ((t.Names.length:Int)>0))=true then
      some (t.Op !=6)
     else
      some false
theorem J8{x:Bool}(h:vO t named compound=some x):aU Pg GE 0 (cA Lc 60) (EX .normal (da t named x)) (Lw t named compound):=by
 have p8:=fun{sc F} (r:PS sc F)=>sv (aR t)<|sv (aS t)<|r
 rcases aH h with⟨c7,h⟩|⟨c7,h⟩
 ·obtain rfl:=lf h
  exact aY rK (p8<|sg 4 c7<|eF .normal (da t named true))<|by kernel_rfl
 ·have p10:=fun{sc F} (r:PS sc F)=>p8<|sg 4 c7<|sv (aR t)<|sv (aS t)<|r
  rcases aH h with⟨c9,h⟩|⟨c9,h⟩
  ·obtain rfl:=lf h
   exact aY rK (p10<|sg 9 c9<|eF .normal (da t named true))<|by kernel_rfl
  ·have p12:=fun{sc F} (r:PS sc F)=>p10<|sg 9 c9<|sv (er t)<|sv (e8 t)<|r
   rcases aH h with⟨c11,h⟩|⟨c11,h⟩
   ·have p14:=fun{sc F} (r:PS sc F)=>p12<|sg 13 c11<|r
    rcases aH h with⟨c13,h⟩|⟨c13,h⟩
    ·obtain rfl:=lf h
     exact aY rK (p14<|sg 18 c13<|eF .normal (da t named true))<|by kernel_rfl
    ·have p16:=fun{sc F} (r:PS sc F)=>p14<|sg 18 c13<|sv (bO t)<|sv (bP t)<|bF (db.ln t.Args)<|r
     rcases aH h with⟨c15,h⟩|⟨c15,h⟩
     ·have p18:=fun{sc F} (r:PS sc F)=>p16<|sg 23 c15<|r
      rcases aH h with⟨c17,h⟩|⟨c17,h⟩
      ·obtain rfl:=lf h
       exact aY rK (p18<|sg 28 c17<|eF .normal (da t named true))<|by kernel_rfl
      ·have p20:=fun{sc F} (r:PS sc F)=>p18<|sg 28 c17<|sv (b8 t)<|sv (b9 t)<|bF (cO.ln t.Names)<|r
       rcases aH h with⟨c19,h⟩|⟨c19,h⟩
       ·obtain rfl:=lf h
        exact aY rK (p20<|sg 33 c19<|sv (aR t)<|sv (aS t)<|eF .normal (da t named (t.Op !=6)))<|by kernel_rfl
       ·obtain rfl:=lf h
        exact aY rK (p20<|sg 33 c19<|eF .normal (da t named false))<|by kernel_rfl
     ·have p22:=fun{sc F} (r:PS sc F)=>p16<|sg 23 c15<|sv (b8 t)<|sv (b9 t)<|bF (cO.ln t.Names)<|r
      rcases aH h with⟨c21,h⟩|⟨c21,h⟩
      ·obtain rfl:=lf h
       exact aY rK (p22<|sg 33 c21<|sv (aR t)<|sv (aS t)<|eF .normal (da t named (t.Op !=6)))<|by kernel_rfl
      ·obtain rfl:=lf h
       exact aY rK (p22<|sg 33 c21<|eF .normal (da t named false))<|by kernel_rfl
   ·have p24:=fun{sc F} (r:PS sc F)=>p12<|sg 13 c11<|sv (bO t)<|sv (bP t)<|bF (db.ln t.Args)<|r
    rcases aH h with⟨c23,h⟩|⟨c23,h⟩
    ·have p26:=fun{sc F} (r:PS sc F)=>p24<|sg 23 c23<|r
     rcases aH h with⟨c25,h⟩|⟨c25,h⟩
     ·obtain rfl:=lf h
      exact aY rK (p26<|sg 28 c25<|eF .normal (da t named true))<|by kernel_rfl
     ·have p28:=fun{sc F} (r:PS sc F)=>p26<|sg 28 c25<|sv (b8 t)<|sv (b9 t)<|bF (cO.ln t.Names)<|r
      rcases aH h with⟨c27,h⟩|⟨c27,h⟩
      ·obtain rfl:=lf h
       exact aY rK (p28<|sg 33 c27<|sv (aR t)<|sv (aS t)<|eF .normal (da t named (t.Op !=6)))<|by kernel_rfl
      ·obtain rfl:=lf h
       exact aY rK (p28<|sg 33 c27<|eF .normal (da t named false))<|by kernel_rfl
    ·have p30:=fun{sc F} (r:PS sc F)=>p24<|sg 23 c23<|sv (b8 t)<|sv (b9 t)<|bF (cO.ln t.Names)<|r
     rcases aH h with⟨c29,h⟩|⟨c29,h⟩
     ·obtain rfl:=lf h
      exact aY rK (p30<|sg 33 c29<|sv (aR t)<|sv (aS t)<|eF .normal (da t named (t.Op !=6)))<|by kernel_rfl
     ·obtain rfl:=lf h
      exact aY rK (p30<|sg 33 c29<|eF .normal (da t named false))<|by kernel_rfl
end
section
variable(t:ak)
def Ly:aB:=aZ 102 [(1,.eptr (aj t))] [.dead] []
def xc(o:Bool):aB:=aZ 102 [(1,.eptr (aj t)),(6,.bool o)] [.dead] []
def vQ:Option Bool:=
 (ms t.Name 0).bind fun c41=>
 if(decide (c41>=65))=true then
  (ms t.Name 0).bind fun c44=>
  some (decide (c44<=90))
 else
  some false
theorem J9{x:Bool}(h:vQ t=some x):aU Pg GE 0 (cA Lc 2026) (EX .normal (xc t x)) (Ly t):=by
 obtain⟨c41,bc41,h⟩:=aG h
 have p43:=fun{sc F} (r:PS sc F)=>sv (er t)<|sv (e8 t)<|sv (jj (k:=.i64) underlying9 bc41)<|r
 rcases aH h with⟨c42,h⟩|⟨c42,h⟩
 ·obtain⟨c44,bc44,h⟩:=aG h
  obtain rfl:=lf h
  exact aY rK (p43<|sg 5 c42<|sv (er t)<|sv (e8 t)<|sv (jj (k:=.i64) underlying9 bc44)<|eF .normal (xc t (decide (c44<=90))))<|by kernel_rfl
 ·obtain rfl:=lf h
  exact aY rK (p43<|sg 5 c42<|eF .normal (xc t false))<|by kernel_rfl
end
section
variable(t:ak)(named:Bool)
def Lx:aB:=aZ 102 [(1,.eptr (aj t)),(3,.bool named)] [.dead] []
def nq(o:Unit⊕(Unit)):Exit:=match o with
 |(.inl _)=>.ret
 |(.inr _)=>.normal
def gj(o:Unit⊕(Unit)):aB:=match o with
 |(.inl o)=>aZ 102 [(2,.int .i64 3)] [.dead] []
 |(.inr o)=>aZ 102 [(1,.eptr (aj t))] [.dead] []
def vP:Option (Unit⊕(Unit)):=
 if named=true then
  (yR t.Name).bind fun r38=>
  if(r38 !=0)=true then
   some (.inl ())
  else
   (vQ t).bind fun o45=>
   if(!(o45==(t.Op==4)))=true then
    some (.inl ())
   else
    some (.inr ())
 else
  some (.inr ())
theorem u6{x:Unit⊕(Unit)}(h:vP t named=some x):aU Pg GE 0 (cA Lc 126) (EX (nq x) (gj t x)) (Lx t named):=by
 rcases aH h with⟨c37,h⟩|⟨c37,h⟩
 ·obtain⟨r38,br38,h⟩:=aG h
  have p40:=fun{sc F} (r:PS sc F)=>sg 0 c37<|sv (er t)<|sv (e8 t)<|cm (Gd br38)<|r
  rcases aH h with⟨c39,h⟩|⟨c39,h⟩
  ·obtain rfl:=lf h
   exact aY rK (p40<|sg 0 c39<|eF (nq (.inl ())) (gj t (.inl ())))<|by kernel_rfl
  ·obtain⟨o45,bo45,h⟩:=aG h
   have p47:=fun{sc F} (r:PS sc F)=>p40<|sg 0 c39<|nN 0<|cK (J9 t bo45)<|sv (aR t)<|sv (aS t)<|r
   rcases aH h with⟨c46,h⟩|⟨c46,h⟩
   ·obtain rfl:=lf h
    exact aY rK (p47<|sg 0 c46<|eF (nq (.inl ())) (gj t (.inl ())))<|by kernel_rfl
   ·obtain rfl:=lf h
    exact aY rK (p47<|sg 0 c46<|eF (nq (.inr ())) (gj t (.inr ())))<|by kernel_rfl
 ·obtain rfl:=lf h
  exact aY rK (sg 0 c37<|eF (nq (.inr ())) (gj t (.inr ())))<|by kernel_rfl
end
section
variable(R87:xD)(t90:waB)(t91:Int)(t92:Int)
def nr:aB:=aZ 102 [(90,sl aj t90),(91,.int .i64 t91),(92,.int .i64 t92)] [.dead] []
def nu(o:Int⊕(Unit)):Exit:=match o with
 |(.inl _)=>.ret
 |(.inr _)=>.exit 0
def kn(o:Int⊕(Unit)):aB:=match o with
 |(.inl o)=>aZ 102 [(2,.int .i64 o)] [.dead] []
 |(.inr o)=>aZ 102 [] [.dead] []
def C0:Option (Int⊕(Int⊕(Unit))):=
 if(decide (t92<t91))=true then
  (fy t90 t92).bind fun x50=>
  (R87 x50).bind fun r51=>
  if(r51 !=0)=true then
   some (.inr (.inl r51))
  else
   some (.inl (bN (t92+1)))
 else
  some (.inr (.inr ()))
def A6:Option (Int⊕(Unit)):=loop (fun(zz:Int)=>C0 R87 t90 t91 zz) t92
theorem IK(hR87:BX R87){y:Int⊕(Int⊕(Unit))}(h:C0 R87 t90 t91 t92=some y):aU Pg GE 0 (cA Lc 2039) (LQ (fun(zz:Int)=>nr t90 t91 zz) nu kn y) (nr t90 t91 t92):=by
 rcases aH h with⟨c49,h⟩|⟨c49,h⟩
 ·obtain⟨x50,bx50,h⟩:=aG h
  obtain⟨r51,br51,h⟩:=aG h
  have p53:=fun{sc F} (r:PS sc F)=>sg 0 c49<|sv (db.ia (k:=.i64) bx50)<|sv (fZ x50)<|sx QY<|sx (pR x50)<|sv (jr x50 [])<|cm (hR87 _ _ br51)<|r
  rcases aH h with⟨c52,h⟩|⟨c52,h⟩
  ·obtain rfl:=lf h
   have z:=p53<|sg 0 c52<|vY 0 (nu (.inl r51)) (kn (.inl r51)) rfl (dI (aI trivial trivial)) (aI trivial trivial)
   exact ql (A:=rK) mixed (by intro hx;cases hx) z<|by kernel_rfl
  ·obtain rfl:=lf h
   have z:=p53<|sg 0 c52<|vY 0 .normal (nr t90 t91 (bN (t92+1))) rfl (dI (aI (up (aw aO t90)) (aI trivial (aI trivial trivial)))) (aI trivial trivial)
   exact eA (A:=rK) mixed z<|by kernel_rfl
 ·obtain rfl:=lf h
  have z:=sg 0 c49<|eF (nu (.inr ())) (kn (.inr ()))
  exact gu rK (by intro hx;cases hx) z<|by kernel_rfl
theorem BU(hR87:BX R87){x:Int⊕(Unit)}(h:A6 R87 t90 t91 t92=some x):aU Pg GE 0 (.loop (cA Lc 2039)) (EX (nu x) (kn x)) (nr t90 t91 t92):=
 aU.loop (S:=fun(zz:Int)=>nr t90 t91 zz) (ex:=nu) (s:=t92) h fun zz y hy=>IK R87 t90 t91 zz hR87 hy
end
def yf(R87:xD)(t:ak):Option Int:=
 (vM t).bind fun o3=>
 (vN t).bind fun o6=>
 (vO t o3 o6).bind fun o31=>
 if o31=true then
  some 1
 else
  (At t).bind fun r34=>
  if(r34 !=0)=true then
   some r34
  else
   (vP t o3).bind fun o48=>match o48 with
   |(.inl o48)=>
    some 3
   | (.inr o48) =>
    (A6 R87 t.Args (t.Args.length:Int) 0).bind fun o54=>match o54 with
    |(.inl o54)=>
     some o54
    |(.inr o54)=>
     some 0
theorem NK(R87:xD)(hR87:BX R87){t:ak}{r:Int}(h:yf R87 t=some r):CC Pg GE 145 [.agg (aj t)] (.int .i64 r) []:=by
 obtain⟨o3,bo3,h⟩:=aG h
 obtain⟨o6,bo6,h⟩:=aG h
 obtain⟨o31,bo31,h⟩:=aG h
 have p33:=fun{sc F} (r:PS sc F)=>se (kF t)<|nN 0<|cK (J6 t bo3)<|nN 0<|cK (J7 t o3 bo6)<|nN 1<|cK (J8 t o3 o6 bo31)<|r
 rcases aH h with⟨c32,h⟩|⟨c32,h⟩
 ·obtain rfl:=lf h
  have z:=p33<|sg 0 c32<|en (aI (rP (.int .i64 1))<|trivial)
  exact bI rK call145 func145 (c:=Lc) rfl (aI (aO t) trivial) z<|by kernel_rfl
 ·obtain⟨r34,br34,h⟩:=aG h
  have p36:=fun{sc F} (r:PS sc F)=>p33<|sg 0 c32<|sv (fZ t)<|cm (NI br34)<|r
  rcases aH h with⟨c35,h⟩|⟨c35,h⟩
  ·obtain rfl:=lf h
   have z:=p36<|sg 0 c35<|en (aI (rP (.int .i64 r34))<|trivial)
   exact bI rK call145 func145 (c:=Lc) rfl (aI (aO t) trivial) z<|by kernel_rfl
  ·obtain⟨o48,bo48,h⟩:=aG h
   rcases o48 with o48|o48
   ·obtain rfl:=lf h
    have z:=p36<|sg 0 c35<|nN 0<|cK (e:=.ret) (s1:=gj t (.inl o48)) (u6 t o3 bo48)<|en (aI (rP (.int .i64 3))<|trivial)
    exact bI rK call145 func145 (c:=Lc) rfl (aI (aO t) trivial) z<|by kernel_rfl
   ·obtain⟨o54,bo54,h⟩:=aG h
    rcases o54 with o54|o54
    ·obtain rfl:=lf h
     have z:=p36<|sg 0 c35<|nN 0<|cK (e:=.normal) (s1:=gj t (.inr o48)) (u6 t o3 bo48)<|sv (bO t)<|sv (bP t)<|bF (db.ln t.Args)<|cK (e:=.ret) (s1:=kn (.inl o54)) (BU R87 t.Args (t.Args.length:Int) 0 hR87 bo54)<|en (aI (rP (.int .i64 o54))<|trivial)
     exact bI rK call145 func145 (c:=Lc) rfl (aI (aO t) trivial) z<|by kernel_rfl
    ·obtain rfl:=lf h
     have z:=p36<|sg 0 c35<|nN 0<|cK (e:=.normal) (s1:=gj t (.inr o48)) (u6 t o3 bo48)<|sv (bO t)<|sv (bP t)<|bF (db.ln t.Args)<|cK (e:=.exit 0) (s1:=kn (.inr o54)) (BU R87 t.Args (t.Args.length:Int) 0 hR87 bo54)<|en (aI (rP (.int .i64 0))<|trivial)
     exact bI rK call145 func145 (c:=Lc) rfl (aI (aO t) trivial) z<|by kernel_rfl
def CJ:(ak->Option Int)->(ak)->Option Int:=fun(rec:ak->Option Int) (x:ak)=>yf (fun t=>rec t) x
def CI(t:ak):Option Int:=sS CJ t
theorem OQ{t:ak}{r:Int}(h:CI t=some r):CC Pg GE 145 [.agg (aj t)] (.int .i64 r) []:=
 eg (F:=CJ) (M:=fun(x:ak) (r:Int)=>CC Pg GE 145 [.agg (aj x)] (.int .i64 r) []) (fun rec hrec x r h=>NK _ (fun t r h=>hrec t r h) h) h
noncomputable def qax:Code:=f120.body.getD .skip
def Z8:List Nat:=[]
def wu(t:ak):Option Int:=
 (Au t).bind fun r1=>
 if(decide (r1>40))=true then
  some 8
 else
  (CI t).bind fun r4=>
  some r4
theorem EN{t:ak}{r:Int}(h:wu t=some r):CC Pg GE 120 [.agg (aj t)] (.int .i64 r) []:=by
 obtain⟨r1,br1,h⟩:=aG h
 have p3:=fun{sc F} (r:PS sc F)=>se (kF t)<|sv (fZ t)<|cm (NJ br1)<|r
 rcases aH h with⟨c2,h⟩|⟨c2,h⟩
 ·obtain rfl:=lf h
  have z:=p3<|sg 0 c2<|en (aI (rP (.int .i64 8))<|trivial)
  exact bI Z8 call120 func120 (c:=qax) rfl (aI (aO t) trivial) z<|by kernel_rfl
 ·obtain⟨r4,br4,h⟩:=aG h
  obtain rfl:=lf h
  have z:=p3<|sg 0 c2<|sv (fZ t)<|cm (OQ br4)<|en (aI (rP (.int .i64 r4))<|trivial)
  exact bI Z8 call120 func120 (c:=qax) rfl (aI (aO t) trivial) z<|by kernel_rfl
abbrev iA:=(ak->ak->Option Bool)
abbrev n7(R:iA):Prop:=∀(a:ak) (a2:ak) (r:Bool),R a a2=some r->CC Pg GE 72 [.agg (aj a),.agg (aj a2)] (.bool r) []
noncomputable def qaO:Code:=f77.body.getD .skip
def ZS:List Nat:=[15]
section
variable(s1:waA)(s2:waA)(t12:Int)(t13:Int)
def kG:aB:=aZ 26 [(0,sl cS s1),(1,sl cS s2),(12,.int .i64 t12),(13,.int .i64 t13)] [] []
def kH(o:Unit⊕(Unit)):Exit:=match o with
 |(.inl _)=>.ret
 |(.inr _)=>.exit 0
def iG(o:Unit⊕(Unit)):aB:=match o with
 |(.inl o)=>aZ 26 [(4,.bool false)] [] []
 |(.inr o)=>aZ 26 [] [] []
def iF:Option (Int⊕(Unit⊕(Unit))):=
 if(decide (t13<t12))=true then
  (fy s1 t13).bind fun x4=>
  (fy s2 t13).bind fun x5=>
  if(!(x4==x5))=true then
   some (.inr (.inl ()))
  else
   some (.inl (bN (t13+1)))
 else
  some (.inr (.inr ()))
def wM:Option (Unit⊕(Unit)):=loop (fun(zz:Int)=>iF s1 s2 t12 zz) t13
theorem FF{y:Int⊕(Unit⊕(Unit))}(h:iF s1 s2 t12 t13=some y):aU Pg GE 0 (cA qaO 119) (LQ (fun(zz:Int)=>kG s1 s2 t12 zz) kH iG y) (kG s1 s2 t12 t13):=by
 rcases aH h with⟨c3,h⟩|⟨c3,h⟩
 ·obtain⟨x4,bx4,h⟩:=aG h
  obtain⟨x5,bx5,h⟩:=aG h
  have p7:=fun{sc F} (r:PS sc F)=>sg 0 c3<|OO [0,0,3,7,0,0,48,112,255]<|sv (cO.ia (k:=.i64) bx4)<|sv (cT GS (.str x4) [])<|sv (cO.ia (k:=.i64) bx5)<|sv (cT GS (.str x5) [])<|r
  rcases aH h with⟨c6,h⟩|⟨c6,h⟩
  ·obtain rfl:=lf h
   have z:=p7<|sg 0 c6<|eF (kH (.inl ())) (iG (.inl ()))
   exact gu ZS (by intro hx;cases hx) z<|by kernel_rfl
  ·obtain rfl:=lf h
   exact wv ZS (p7<|sg 0 c6<|eF .normal (kG s1 s2 t12 (bN (t13+1))))<|by kernel_rfl
 ·obtain rfl:=lf h
  have z:=sg 0 c3<|eF (kH (.inr ())) (iG (.inr ()))
  exact gu ZS (by intro hx;cases hx) z<|by kernel_rfl
theorem y6{x:Unit⊕(Unit)}(h:wM s1 s2 t12 t13=some x):aU Pg GE 0 (.loop (cA qaO 119)) (EX (kH x) (iG x)) (kG s1 s2 t12 t13):=
 aU.loop (S:=fun(zz:Int)=>kG s1 s2 t12 zz) (ex:=kH) (s:=t13) h fun zz y hy=>FF s1 s2 t12 zz hy
end
def tA(s1:waA)(s2:waA):Option Bool:=
 if((s1.length:Int)!=(s2.length:Int))=true then
  some false
 else
  (wM s1 s2 (s1.length:Int) 0).bind fun o8=>match o8 with
  |(.inl o8)=>
   some false
  |(.inr o8)=>
   some true
theorem CY{s1:waA}{s2:waA}{r:Bool}(h:tA s1 s2=some r):CC Pg GE 77 [sl cS s1,sl cS s2] (.bool r) []:=by
 have p2:=fun{sc F} (r:PS sc F)=>bF (cO.ln s1)<|bF (cO.ln s2)<|r
 rcases aH h with⟨c1,h⟩|⟨c1,h⟩
 ·obtain rfl:=lf h
  have z:=p2<|sg 0 c1<|en (aI (rP (.bool false))<|trivial)
  exact bI ZS call77 func77 (c:=qaO) rfl (aI (aw cy s1) (aI (aw cy s2) trivial)) z<|by kernel_rfl
 ·obtain⟨o8,bo8,h⟩:=aG h
  rcases o8 with o8|o8
  ·obtain rfl:=lf h
   have z:=p2<|sg 0 c1<|bF (cO.ln s1)<|cK (e:=.ret) (s1:=iG (.inl o8)) (y6 s1 s2 (s1.length:Int) 0 bo8)<|en (aI (rP (.bool false))<|trivial)
   exact bI ZS call77 func77 (c:=qaO) rfl (aI (aw cy s1) (aI (aw cy s2) trivial)) z<|by kernel_rfl
  ·obtain rfl:=lf h
   have z:=p2<|sg 0 c1<|bF (cO.ln s1)<|cK (e:=.exit 0) (s1:=iG (.inr o8)) (y6 s1 s2 (s1.length:Int) 0 bo8)<|en (aI (rP (.bool true))<|trivial)
   exact bI ZS call77 func77 (c:=qaO) rfl (aI (aw cy s1) (aI (aw cy s2) trivial)) z<|by kernel_rfl
abbrev sn:=(az->az->Option Bool)
abbrev zF(R:sn):Prop:=∀(a:az) (a2:az) (r:Bool),R a a2=some r->CC Pg GE 123 [.agg (ay a),.agg (ay a2)] (.bool r) []
noncomputable def Wb:Code:=f152.body.getD .skip
def UA:List Nat:=[17]
section
variable(R92:sn)(v:waF)(v2:waF)(t14:Int)(t15:Int)
def mV:aB:=aZ 30 [(0,sl ay v),(1,sl ay v2),(2,.func (.func 123) [] []),(14,.int .i64 t14),(15,.int .i64 t15)] [] []
def mX(o:Unit⊕(Unit)):Exit:=match o with
 |(.inl _)=>.ret
 |(.inr _)=>.exit 0
def km(o:Unit⊕(Unit)):aB:=match o with
 |(.inl o)=>aZ 30 [(6,.bool false)] [] []
 |(.inr o)=>aZ 30 [] [] []
def mW:Option (Int⊕(Unit⊕(Unit))):=
 if(decide (t15<t14))=true then
  (fy v t15).bind fun x4=>
  (fy v2 t15).bind fun x5=>
  (R92 x4 x5).bind fun r6=>
  if(!r6)=true then
   some (.inr (.inl ()))
  else
   some (.inl (bN (t15+1)))
 else
  some (.inr (.inr ()))
def AV:Option (Unit⊕(Unit)):=loop (fun(zz:Int)=>mW R92 v v2 t14 zz) t15
theorem Il(hR92:zF R92){y:Int⊕(Unit⊕(Unit))}(h:mW R92 v v2 t14 t15=some y):aU Pg GE 0 (cA Wb 119) (LQ (fun(zz:Int)=>mV v v2 t14 zz) mX km y) (mV v v2 t14 t15):=by
 rcases aH h with⟨c3,h⟩|⟨c3,h⟩
 ·obtain⟨x4,bx4,h⟩:=aG h
  obtain⟨x5,bx5,h⟩:=aG h
  obtain⟨r6,br6,h⟩:=aG h
  have p8:=fun{sc F} (r:PS sc F)=>sg 0 c3<|OO [0,0,0,6,14,0,0,96,224,511,1023]<|sv (qn.ia (k:=.i64) bx4)<|sv (tk x4)<|sv (qn.ia (k:=.i64) bx5)<|sv (tk x5)<|cm (hR92 _ _ _ br6)<|r
  rcases aH h with⟨c7,h⟩|⟨c7,h⟩
  ·obtain rfl:=lf h
   have z:=p8<|sg 0 c7<|eF (mX (.inl ())) (km (.inl ()))
   exact gu UA (by intro hx;cases hx) z<|by kernel_rfl
  ·obtain rfl:=lf h
   exact wv UA (p8<|sg 0 c7<|eF .normal (mV v v2 t14 (bN (t15+1))))<|by kernel_rfl
 ·obtain rfl:=lf h
  have z:=sg 0 c3<|eF (mX (.inr ())) (km (.inr ()))
  exact gu UA (by intro hx;cases hx) z<|by kernel_rfl
theorem BI(hR92:zF R92){x:Unit⊕(Unit)}(h:AV R92 v v2 t14 t15=some x):aU Pg GE 0 (.loop (cA Wb 119)) (EX (mX x) (km x)) (mV v v2 t14 t15):=
 aU.loop (S:=fun(zz:Int)=>mV v v2 t14 zz) (ex:=mX) (s:=t15) h fun zz y hy=>Il R92 v v2 t14 zz hR92 hy
end
def Cv(R92:sn)(a:waF)(a2:waF):Option Bool:=
 if((a.length:Int)!=(a2.length:Int))=true then
  some false
 else
  (AV R92 a a2 (a.length:Int) 0).bind fun o9=>match o9 with
  |(.inl o9)=>
   some false
  |(.inr o9)=>
   some true
theorem OL(R92:sn)(hR92:zF R92){a:waF}{a2:waF}{r:Bool}(h:Cv R92 a a2=some r):CC Pg GE 152 [sl ay a,sl ay a2,.func (.func 123) [] []] (.bool r) []:=by
 have p2:=fun{sc F} (r:PS sc F)=>bF (qn.ln a)<|bF (qn.ln a2)<|r
 rcases aH h with⟨c1,h⟩|⟨c1,h⟩
 ·obtain rfl:=lf h
  have z:=p2<|sg 0 c1<|en (aI (rP (.bool false))<|trivial)
  exact bI UA call152 func152 (c:=Wb) rfl (aI (aw cb a) (aI (aw cb a2) (aI (aI trivial trivial) trivial))) z<|by kernel_rfl
 ·obtain⟨o9,bo9,h⟩:=aG h
  rcases o9 with o9|o9
  ·obtain rfl:=lf h
   have z:=p2<|sg 0 c1<|bF (qn.ln a)<|cK (e:=.ret) (s1:=km (.inl o9)) (BI R92 a a2 (a.length:Int) 0 hR92 bo9)<|en (aI (rP (.bool false))<|trivial)
   exact bI UA call152 func152 (c:=Wb) rfl (aI (aw cb a) (aI (aw cb a2) (aI (aI trivial trivial) trivial))) z<|by kernel_rfl
  ·obtain rfl:=lf h
   have z:=p2<|sg 0 c1<|bF (qn.ln a)<|cK (e:=.exit 0) (s1:=km (.inr o9)) (BI R92 a a2 (a.length:Int) 0 hR92 bo9)<|en (aI (rP (.bool true))<|trivial)
   exact bI UA call152 func152 (c:=Wb) rfl (aI (aw cb a) (aI (aw cb a2) (aI (aI trivial trivial) trivial))) z<|by kernel_rfl
noncomputable def XM:Code:=f123.body.getD .skip
def XA:List Nat:=[]
def Ai(R92:sn)(a:az)(a2:az):Option Bool:=
 if (a.Op == a2.Op) = true then
  if(a.Name==a2.Name)=true then
   if(a.N==a2.N)=true then
    (Cv R92 a.Kids a2.Kids).bind fun r7=>
    some r7
   else
    some false
  else
   some false
 else
  some false
theorem OK(R92:sn)(hR92:zF R92){a:az}{a2:az}{r:Bool}(h:Ai R92 a a2=some r):CC Pg GE 123 [.agg (ay a),.agg (ay a2)] (.bool r) []:=by
 have p2:=fun{sc F} (r:PS sc F)=>se (Ie a)<|se (Ie a2)<|sv (vg a)<|sv (vp a)<|sv (vg a2)<|sv (vp a2)<|r
 rcases aH h with⟨c1,h⟩|⟨c1,h⟩
 ·have p4:=fun{sc F} (r:PS sc F)=>p2<|sg 6 c1<|sv (qV a)<|sv (tj a)<|sv (qV a2)<|sv (tj a2)<|r
  rcases aH h with⟨c3,h⟩|⟨c3,h⟩
  ·have p6:=fun{sc F} (r:PS sc F)=>p4<|sg 13 c3<|sv (vj a)<|sv (xV a)<|sv (vj a2)<|sv (xV a2)<|r
   rcases aH h with⟨c5,h⟩|⟨c5,h⟩
   ·obtain⟨r7,br7,h⟩:=aG h
    obtain rfl:=lf h
    have z:=p6<|sg 20 c5<|sv (gY a)<|sv (g5 a)<|sv (gY a2)<|sv (g5 a2)<|cm (OL R92 hR92 br7)<|en (aI (rP (.bool r7))<|trivial)
    exact bI XA call123 func123 (c:=XM) rfl (aI (cb a) (aI (cb a2) trivial)) z<|by kernel_rfl
   ·obtain rfl:=lf h
    have z:=p6<|sg 20 c5<|en (aI (rP (.bool false))<|trivial)
    exact bI XA call123 func123 (c:=XM) rfl (aI (cb a) (aI (cb a2) trivial)) z<|by kernel_rfl
  ·obtain rfl:=lf h
   have z:=p4<|sg 13 c3<|en (aI (rP (.bool false))<|trivial)
   exact bI XA call123 func123 (c:=XM) rfl (aI (cb a) (aI (cb a2) trivial)) z<|by kernel_rfl
 ·obtain rfl:=lf h
  have z:=p2<|sg 6 c1<|en (aI (rP (.bool false))<|trivial)
  exact bI XA call123 func123 (c:=XM) rfl (aI (cb a) (aI (cb a2) trivial)) z<|by kernel_rfl
def Ew:((az×az)->Option Bool)->(az×az)->Option Bool:=fun(rec:(az×az)->Option Bool) (x:az×az)=>Ai (fun a a2=>rec (a,a2)) x.1 x.2
def Fh(a:az)(a2:az):Option Bool:=sS Ew (a,a2)
theorem Ik{a:az}{a2:az}{r:Bool}(h:Fh a a2=some r):CC Pg GE 123 [.agg (ay a),.agg (ay a2)] (.bool r) []:=
 eg (F:=Ew) (M:=fun(x:az×az) (r:Bool)=>CC Pg GE 123 [.agg (ay x.1),.agg (ay x.2)] (.bool r) []) (fun rec hrec x r h=>OK _ (fun a a2 r h=>hrec (a,a2) r h) h) h
noncomputable def Wa:Code:=f124.body.getD .skip
def Uz:List Nat:=[19]
section
variable(s2:waF)(t15:waF)(t16:Int)(t17:Int)
def gw:aB:=aZ 32 [(1,sl ay s2),(2,.func (.func 123) [] []),(15,sl ay t15),(16,.int .i64 t16),(17,.int .i64 t17)] [] []
def gy(o:Unit⊕(Unit)):Exit:=match o with
 |(.inl _)=>.ret
 |(.inr _)=>.exit 0
def fh(o:Unit⊕(Unit)):aB:=match o with
 |(.inl o)=>aZ 32 [(6,.bool false)] [] []
 |(.inr o)=>aZ 32 [] [] []
def fg:Option (Int⊕(Unit⊕(Unit))):=
 if(decide (t17<t16))=true then
  (fy t15 t17).bind fun x4=>
  (fy s2 t17).bind fun x5=>
  (Fh x4 x5).bind fun r6=>
  if(!r6)=true then
   some (.inr (.inl ()))
  else
   some (.inl (bN (t17+1)))
 else
  some (.inr (.inr ()))
def qo:Option (Unit⊕(Unit)):=loop (fun(zz:Int)=>fg s2 t15 t16 zz) t17
theorem BK{y:Int⊕(Unit⊕(Unit))}(h:fg s2 t15 t16 t17=some y):aU Pg GE 0 (cA Wa 119) (LQ (fun(zz:Int)=>gw s2 t15 t16 zz) gy fh y) (gw s2 t15 t16 t17):=by
 rcases aH h with⟨c3,h⟩|⟨c3,h⟩
 ·obtain⟨x4,bx4,h⟩:=aG h
  obtain⟨x5,bx5,h⟩:=aG h
  obtain⟨r6,br6,h⟩:=aG h
  have p8:=fun{sc F} (r:PS sc F)=>sg 0 c3<|sv (qn.ia (k:=.i64) bx4)<|sv (tk x4)<|sx Ys<|sx (Fc x4)<|sv (qn.ia (k:=.i64) bx5)<|sv (tk x5)<|sx Ys<|sx (Fc x5)<|sv (Bp x4 [])<|sv (Bp x5 [])<|cm (Ik br6)<|r
  rcases aH h with⟨c7,h⟩|⟨c7,h⟩
  ·obtain rfl:=lf h
   have z:=p8<|sg 0 c7<|vY 0 (gy (.inl ())) (fh (.inl ())) rfl (dI (aI trivial trivial)) trivial
   exact ql (A:=Uz) mixed (by intro hx;cases hx) z<|by kernel_rfl
  ·obtain rfl:=lf h
   have z:=p8<|sg 0 c7<|vY 0 .normal (gw s2 t15 t16 (bN (t17+1))) rfl (dI (aI (up (aw cb s2)) (aI (aI trivial trivial) (aI (up (aw cb t15)) (aI trivial (aI trivial trivial)))))) trivial
   exact eA (A:=Uz) mixed z<|by kernel_rfl
 ·obtain rfl:=lf h
  have z:=sg 0 c3<|eF (gy (.inr ())) (fh (.inr ()))
  exact gu Uz (by intro hx;cases hx) z<|by kernel_rfl
theorem tB{x:Unit⊕(Unit)}(h:qo s2 t15 t16 t17=some x):aU Pg GE 0 (.loop (cA Wa 119)) (EX (gy x) (fh x)) (gw s2 t15 t16 t17):=
 aU.loop (S:=fun(zz:Int)=>gw s2 t15 t16 zz) (ex:=gy) (s:=t17) h fun zz y hy=>BK s2 t15 t16 zz hy
end
def pS(s1:waF)(s2:waF):Option Bool:=
 if((s1.length:Int)!=(s2.length:Int))=true then
  some false
 else
  (qo s2 s1 (s1.length:Int) 0).bind fun o9=>match o9 with
  |(.inl o9)=>
   some false
  |(.inr o9)=>
   some true
theorem FE{s1:waF}{s2:waF}{r:Bool}(h:pS s1 s2=some r):CC Pg GE 124 [sl ay s1,sl ay s2,.func (.func 123) [] []] (.bool r) []:=by
 have p2:=fun{sc F} (r:PS sc F)=>bF (qn.ln s1)<|bF (qn.ln s2)<|r
 rcases aH h with⟨c1,h⟩|⟨c1,h⟩
 ·obtain rfl:=lf h
  have z:=p2<|sg 0 c1<|en (aI (rP (.bool false))<|trivial)
  exact bI Uz call124 func124 (c:=Wa) rfl (aI (aw cb s1) (aI (aw cb s2) (aI (aI trivial trivial) trivial))) z<|by kernel_rfl
 ·obtain⟨o9,bo9,h⟩:=aG h
  rcases o9 with o9|o9
  ·obtain rfl:=lf h
   have z:=p2<|sg 0 c1<|bF (qn.ln s1)<|cK (e:=.ret) (s1:=fh (.inl o9)) (tB s2 s1 (s1.length:Int) 0 bo9)<|en (aI (rP (.bool false))<|trivial)
   exact bI Uz call124 func124 (c:=Wa) rfl (aI (aw cb s1) (aI (aw cb s2) (aI (aI trivial trivial) trivial))) z<|by kernel_rfl
  ·obtain rfl:=lf h
   have z:=p2<|sg 0 c1<|bF (qn.ln s1)<|cK (e:=.exit 0) (s1:=fh (.inr o9)) (tB s2 s1 (s1.length:Int) 0 bo9)<|en (aI (rP (.bool true))<|trivial)
   exact bI Uz call124 func124 (c:=Wa) rfl (aI (aw cb s1) (aI (aw cb s2) (aI (aI trivial trivial) trivial))) z<|by kernel_rfl
noncomputable def qaL:Code:=f71.body.getD .skip
def ZO:List Nat:=[19]
section
variable(R90:iA)(s2:waB)(t15:waB)(t16:Int)(t17:Int)
def dM:aB:=aZ 32 [(1,sl aj s2),(2,.func (.func 72) [] []),(15,sl aj t15),(16,.int .i64 t16),(17,.int .i64 t17)] [] []
def dN(o:Unit⊕(Unit)):Exit:=match o with
 |(.inl _)=>.ret
 |(.inr _)=>.exit 0
def cX(o:Unit⊕(Unit)):aB:=match o with
 |(.inl o)=>aZ 32 [(6,.bool false)] [] []
 |(.inr o)=>aZ 32 [] [] []
def cW:Option (Int⊕(Unit⊕(Unit))):=
 if(decide (t17<t16))=true then
  (fy t15 t17).bind fun x4=>
  (fy s2 t17).bind fun x5=>
  (R90 x4 x5).bind fun r6=>
  if(!r6)=true then
   some (.inr (.inl ()))
  else
   some (.inl (bN (t17+1)))
 else
  some (.inr (.inr ()))
def iO:Option (Unit⊕(Unit)):=loop (fun(zz:Int)=>cW R90 s2 t15 t16 zz) t17
theorem tC(hR90:n7 R90){y:Int⊕(Unit⊕(Unit))}(h:cW R90 s2 t15 t16 t17=some y):aU Pg GE 0 (cA qaL 119) (LQ (fun(zz:Int)=>dM s2 t15 t16 zz) dN cX y) (dM s2 t15 t16 t17):=by
 rcases aH h with⟨c3,h⟩|⟨c3,h⟩
 ·obtain⟨x4,bx4,h⟩:=aG h
  obtain⟨x5,bx5,h⟩:=aG h
  obtain⟨r6,br6,h⟩:=aG h
  have p8:=fun{sc F} (r:PS sc F)=>sg 0 c3<|sv (db.ia (k:=.i64) bx4)<|sv (fZ x4)<|sx QY<|sx (pR x4)<|sv (db.ia (k:=.i64) bx5)<|sv (fZ x5)<|sx QY<|sx (pR x5)<|sv (jr x4 [])<|sv (jr x5 [])<|cm (hR90 _ _ _ br6)<|r
  rcases aH h with⟨c7,h⟩|⟨c7,h⟩
  ·obtain rfl:=lf h
   have z:=p8<|sg 0 c7<|vY 0 (dN (.inl ())) (cX (.inl ())) rfl (dI (aI trivial trivial)) trivial
   exact ql (A:=ZO) mixed (by intro hx;cases hx) z<|by kernel_rfl
  ·obtain rfl:=lf h
   have z:=p8<|sg 0 c7<|vY 0 .normal (dM s2 t15 t16 (bN (t17+1))) rfl (dI (aI (up (aw aO s2)) (aI (aI trivial trivial) (aI (up (aw aO t15)) (aI trivial (aI trivial trivial)))))) trivial
   exact eA (A:=ZO) mixed z<|by kernel_rfl
 ·obtain rfl:=lf h
  have z:=sg 0 c3<|eF (dN (.inr ())) (cX (.inr ()))
  exact gu ZO (by intro hx;cases hx) z<|by kernel_rfl
theorem lc(hR90:n7 R90){x:Unit⊕(Unit)}(h:iO R90 s2 t15 t16 t17=some x):aU Pg GE 0 (.loop (cA qaL 119)) (EX (dN x) (cX x)) (dM s2 t15 t16 t17):=
 aU.loop (S:=fun(zz:Int)=>dM s2 t15 t16 zz) (ex:=dN) (s:=t17) h fun zz y hy=>tC R90 s2 t15 t16 zz hR90 hy
end
def fc(R90:iA)(s1:waB)(s2:waB):Option Bool:=
 if((s1.length:Int)!=(s2.length:Int))=true then
  some false
 else
  (iO R90 s2 s1 (s1.length:Int) 0).bind fun o9=>match o9 with
  |(.inl o9)=>
   some false
  |(.inr o9)=>
   some true
theorem mZ(R90:iA)(hR90:n7 R90){s1:waB}{s2:waB}{r:Bool}(h:fc R90 s1 s2=some r):CC Pg GE 71 [sl aj s1,sl aj s2,.func (.func 72) [] []] (.bool r) []:=by
 have p2:=fun{sc F} (r:PS sc F)=>bF (db.ln s1)<|bF (db.ln s2)<|r
 rcases aH h with⟨c1,h⟩|⟨c1,h⟩
 ·obtain rfl:=lf h
  have z:=p2<|sg 0 c1<|en (aI (rP (.bool false))<|trivial)
  exact bI ZO call71 func71 (c:=qaL) rfl (aI (aw aO s1) (aI (aw aO s2) (aI (aI trivial trivial) trivial))) z<|by kernel_rfl
 ·obtain⟨o9,bo9,h⟩:=aG h
  rcases o9 with o9|o9
  ·obtain rfl:=lf h
   have z:=p2<|sg 0 c1<|bF (db.ln s1)<|cK (e:=.ret) (s1:=cX (.inl o9)) (lc R90 s2 s1 (s1.length:Int) 0 hR90 bo9)<|en (aI (rP (.bool false))<|trivial)
   exact bI ZO call71 func71 (c:=qaL) rfl (aI (aw aO s1) (aI (aw aO s2) (aI (aI trivial trivial) trivial))) z<|by kernel_rfl
  ·obtain rfl:=lf h
   have z:=p2<|sg 0 c1<|bF (db.ln s1)<|cK (e:=.exit 0) (s1:=cX (.inr o9)) (lc R90 s2 s1 (s1.length:Int) 0 hR90 bo9)<|en (aI (rP (.bool true))<|trivial)
   exact bI ZO call71 func71 (c:=qaL) rfl (aI (aw aO s1) (aI (aw aO s2) (aI (aI trivial trivial) trivial))) z<|by kernel_rfl
noncomputable def ZV:Code:=f72.body.getD .skip
def ZP:List Nat:=[]
def oo(R90:iA)(a:ak)(a2:ak):Option Bool:=
 if (a.Op == a2.Op) = true then
  if (a.Name == a2.Name) = true then
   (tA a.Names a2.Names).bind fun r5=>
   if r5=true then
    (Fh a.Pred a2.Pred).bind fun r8=>
    if r8=true then
     (pS a.Preds a2.Preds).bind fun r11=>
     if r11=true then
      (fc R90 a.Args a2.Args).bind fun r14=>
      some r14
     else
      some false
    else
     some false
   else
    some false
  else
   some false
 else
  some false
theorem FT(R90:iA)(hR90:n7 R90){a:ak}{a2:ak}{r:Bool}(h:oo R90 a a2=some r):CC Pg GE 72 [.agg (aj a),.agg (aj a2)] (.bool r) []:=by
 have p2:=fun{sc F} (r:PS sc F)=>se (kF a)<|se (kF a2)<|sv (aR a)<|sv (aS a)<|sv (aR a2)<|sv (aS a2)<|r
 rcases aH h with⟨c1,h⟩|⟨c1,h⟩
 ·have p4:=fun{sc F} (r:PS sc F)=>p2<|sg 6 c1<|sv (er a)<|sv (e8 a)<|sv (er a2)<|sv (e8 a2)<|r
  rcases aH h with⟨c3,h⟩|⟨c3,h⟩
  ·obtain⟨r5,br5,h⟩:=aG h
   have p7:=fun{sc F} (r:PS sc F)=>p4<|sg 13 c3<|sv (b8 a)<|sv (b9 a)<|sv (b8 a2)<|sv (b9 a2)<|cm (CY br5)<|r
   rcases aH h with⟨c6,h⟩|⟨c6,h⟩
   ·obtain⟨r8,br8,h⟩:=aG h
    have p10:=fun{sc F} (r:PS sc F)=>p7<|sg 20 c6<|sv (qW a)<|sv (qY a)<|sv (qW a2)<|sv (qY a2)<|cm (Ik br8)<|r
    rcases aH h with⟨c9,h⟩|⟨c9,h⟩
    ·obtain⟨r11,br11,h⟩:=aG h
     have p13:=fun{sc F} (r:PS sc F)=>p10<|sg 27 c9<|sv (je a)<|sv (jh a)<|sv (je a2)<|sv (jh a2)<|cm (FE br11)<|r
     rcases aH h with⟨c12,h⟩|⟨c12,h⟩
     ·obtain⟨r14,br14,h⟩:=aG h
      obtain rfl:=lf h
      have z:=p13<|sg 34 c12<|sv (bO a)<|sv (bP a)<|sv (bO a2)<|sv (bP a2)<|cm (mZ R90 hR90 br14)<|en (aI (rP (.bool r14))<|trivial)
      exact bI ZP call72 func72 (c:=ZV) rfl (aI (aO a) (aI (aO a2) trivial)) z<|by kernel_rfl
     ·obtain rfl:=lf h
      have z:=p13<|sg 34 c12<|en (aI (rP (.bool false))<|trivial)
      exact bI ZP call72 func72 (c:=ZV) rfl (aI (aO a) (aI (aO a2) trivial)) z<|by kernel_rfl
    ·obtain rfl:=lf h
     have z:=p10<|sg 27 c9<|en (aI (rP (.bool false))<|trivial)
     exact bI ZP call72 func72 (c:=ZV) rfl (aI (aO a) (aI (aO a2) trivial)) z<|by kernel_rfl
   ·obtain rfl:=lf h
    have z:=p7<|sg 20 c6<|en (aI (rP (.bool false))<|trivial)
    exact bI ZP call72 func72 (c:=ZV) rfl (aI (aO a) (aI (aO a2) trivial)) z<|by kernel_rfl
  ·obtain rfl:=lf h
   have z:=p4<|sg 13 c3<|en (aI (rP (.bool false))<|trivial)
   exact bI ZP call72 func72 (c:=ZV) rfl (aI (aO a) (aI (aO a2) trivial)) z<|by kernel_rfl
 ·obtain rfl:=lf h
  have z:=p2<|sg 6 c1<|en (aI (rP (.bool false))<|trivial)
  exact bI ZP call72 func72 (c:=ZV) rfl (aI (aO a) (aI (aO a2) trivial)) z<|by kernel_rfl
def tU:((ak×ak)->Option Bool)->(ak×ak)->Option Bool:=fun(rec:(ak×ak)->Option Bool) (x:ak×ak)=>oo (fun a a2=>rec (a,a2)) x.1 x.2
def iQ(a:ak)(a2:ak):Option Bool:=sS tU (a,a2)
theorem rU{a:ak}{a2:ak}{r:Bool}(h:iQ a a2=some r):CC Pg GE 72 [.agg (aj a),.agg (aj a2)] (.bool r) []:=
 eg (F:=tU) (M:=fun(x:ak×ak) (r:Bool)=>CC Pg GE 72 [.agg (aj x.1),.agg (aj x.2)] (.bool r) []) (fun rec hrec x r h=>FT _ (fun a a2 r h=>hrec (a,a2) r h) h) h
noncomputable def qb6:Code:=f121.body.getD .skip
def qbJ:List Nat:=[]
def Ar(t:ak):Option Bool:=
 (iQ t (⟨0,([]:ah),([]:List ak),([]:List ah),(⟨0,([]:ah),0,([]:List az)⟩:az),([]:List az)⟩:ak)).bind fun r1=>
 some r1
theorem NE{t:ak}{r:Bool}(h:Ar t=some r):CC Pg GE 121 [.agg (aj t)] (.bool r) []:=by
 obtain⟨r1,br1,h⟩:=aG h
 obtain rfl:=lf h
 have z:=se (kF t)<|sv (fZ t)<|sb (MD) (MC)<|cm (rU br1)<|en (aI (rP (.bool r1))<|trivial)
 exact bI qbJ call121 func121 (c:=qb6) rfl (aI (aO t) trivial) z<|by kernel_rfl
end Go.Proofs.YtkdahfeiedaahaaGreatDoor
