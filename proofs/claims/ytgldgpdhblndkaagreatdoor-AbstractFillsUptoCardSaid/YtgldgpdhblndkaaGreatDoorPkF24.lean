/- WHAT IS PROVED: parts of the proof, put together by a program (G15). Conditions: none. -/
import Derived.Test.YtgldgpdhblndkaaGreatDoorPkF23
noncomputable section
namespace Go.Proofs.YtgldgpdhblndkaaGreatDoor
open Go
set_option linter.unusedVariables false
set_option maxRecDepth 100000
noncomputable def b159:Code:=Tryz.f159.body.getD .skip
def A159:List Nat:=[]
section
variable (p:tPred)
def qBs:PSt:=stt 87 [(1,.eptr (qaa p))] [.dead] []
def qni (o:Bool):PSt:=stt 87 [(1,.eptr (qaa p)),(3,.bool o)] [.dead] []
def qrq:Option ((Bool)) :=
 if (p.Op == 1) = true then
  some true
 else
  some (p.Op == 2)
theorem qy0 {x:(Bool)} (h:qrq p = some x) :
  Sat Pg GE 0 (cA b159 6) (EX .normal (qni p x)) (qBs p):=by
 have p2:=fun {sc F} (r:PS sc F) => sv (qaw p) <| sv (qau p) <| r
 rcases ifs h with ⟨c1,h⟩ | ⟨c1,h⟩
 ·obtain rfl:=lf h
  have z:=p2 <| sg 4 c1 <| eF .normal (qni p true)
  exact pcZ A159 z (by kernel_rfl)
 ·obtain rfl:=lf h
  have z:=p2 <| sg 4 c1 <| sv (qaw p) <| sv (qau p) <| eF .normal (qni p (p.Op == 2))
  exact pcZ A159 z (by kernel_rfl)
end
section
variable (p:tPred) (number:Bool)
def qA6:PSt:=stt 87 [(1,.eptr (qaa p)),(3,.bool number)] [.dead] []
def qcr (o:Bool):PSt:=stt 87 [(1,.eptr (qaa p)),(48,.bool o)] [.dead] []
def qrh:Option ((Bool)) :=
 if (decide (p.Op < 1)) = true then
  some true
 else
  if (decide (p.Op > 18)) = true then
   some true
  else
   if (!(p.Name == ([]:Str))) = true then
    (qs0 p.Op).bind fun r10 =>
    if (!r10) = true then
     some true
    else
     if (p.N != 0) = true then
      if (!number) = true then
       some true
      else
       (qjS p.Op (p.Kids.length:Int)).bind fun r17 =>
       some (!r17)
     else
      (qjS p.Op (p.Kids.length:Int)).bind fun r18 =>
      some (!r18)
   else
    if (p.N != 0) = true then
     if (!number) = true then
      some true
     else
      (qjS p.Op (p.Kids.length:Int)).bind fun r23 =>
      some (!r23)
    else
     (qjS p.Op (p.Kids.length:Int)).bind fun r24 =>
     some (!r24)
theorem qy2 {x:(Bool)} (h:qrh p number = some x) :
  Sat Pg GE 0 (cA b159 28) (EX .normal (qcr p x)) (qA6 p number):=by
 have p5:=fun {sc F} (r:PS sc F) => sv (qaw p) <| sv (qau p) <| r
 rcases ifs h with ⟨c4,h⟩ | ⟨c4,h⟩
 ·obtain rfl:=lf h
  have z:=p5 <| sg 4 c4 <| eF .normal (qcr p true)
  exact pcZ A159 z (by kernel_rfl)
 ·have p7:=fun {sc F} (r:PS sc F) => p5 <| sg 4 c4 <| sv (qaw p) <| sv (qau p) <| r
  rcases ifs h with ⟨c6,h⟩ | ⟨c6,h⟩
  ·obtain rfl:=lf h
   have z:=p7 <| sg 9 c6 <| eF .normal (qcr p true)
   exact pcZ A159 z (by kernel_rfl)
  ·have p9:=fun {sc F} (r:PS sc F) => p7 <| sg 9 c6 <| sv (qaH p) <| sv (qaO p) <| r
   rcases ifs h with ⟨c8,h⟩ | ⟨c8,h⟩
   ·obtain ⟨r10,br10,h⟩:=bnd h
    have p12:=fun {sc F} (r:PS sc F) => p9 <| sg 13 c8 <| sv (qaw p) <| sv (qau p) <| sca (qDo br10) <| r
    rcases ifs h with ⟨c11,h⟩ | ⟨c11,h⟩
    ·obtain rfl:=lf h
     have z:=p12 <| sg 20 c11 <| eF .normal (qcr p true)
     exact pcZ A159 z (by kernel_rfl)
    ·have p14:=fun {sc F} (r:PS sc F) => p12 <| sg 20 c11 <| sv (qbc p) <| sv (qbq p) <| r
     rcases ifs h with ⟨c13,h⟩ | ⟨c13,h⟩
     ·have p16:=fun {sc F} (r:PS sc F) => p14 <| sg 24 c13 <| r
      rcases ifs h with ⟨c15,h⟩ | ⟨c15,h⟩
      ·obtain rfl:=lf h
       have z:=p16 <| sg 29 c15 <| eF .normal (qcr p true)
       exact pcZ A159 z (by kernel_rfl)
      ·obtain ⟨r17,br17,h⟩:=bnd h
       obtain rfl:=lf h
       have z:=p16 <| sg 29 c15 <| sv (qaw p) <| sv (qau p) <| sv (qat p) <| sv (qav p) <| svn (sT29.ln p.Kids) <| sca (qmK br17) <| eF .normal (qcr p (!r17))
       exact pcZ A159 z (by kernel_rfl)
     ·obtain ⟨r18,br18,h⟩:=bnd h
      obtain rfl:=lf h
      have z:=p14 <| sg 24 c13 <| sv (qaw p) <| sv (qau p) <| sv (qat p) <| sv (qav p) <| svn (sT29.ln p.Kids) <| sca (qmK br18) <| eF .normal (qcr p (!r18))
      exact pcZ A159 z (by kernel_rfl)
   ·have p20:=fun {sc F} (r:PS sc F) => p9 <| sg 13 c8 <| sv (qbc p) <| sv (qbq p) <| r
    rcases ifs h with ⟨c19,h⟩ | ⟨c19,h⟩
    ·have p22:=fun {sc F} (r:PS sc F) => p20 <| sg 24 c19 <| r
     rcases ifs h with ⟨c21,h⟩ | ⟨c21,h⟩
     ·obtain rfl:=lf h
      have z:=p22 <| sg 29 c21 <| eF .normal (qcr p true)
      exact pcZ A159 z (by kernel_rfl)
     ·obtain ⟨r23,br23,h⟩:=bnd h
      obtain rfl:=lf h
      have z:=p22 <| sg 29 c21 <| sv (qaw p) <| sv (qau p) <| sv (qat p) <| sv (qav p) <| svn (sT29.ln p.Kids) <| sca (qmK br23) <| eF .normal (qcr p (!r23))
      exact pcZ A159 z (by kernel_rfl)
    ·obtain ⟨r24,br24,h⟩:=bnd h
     obtain rfl:=lf h
     have z:=p20 <| sg 24 c19 <| sv (qaw p) <| sv (qau p) <| sv (qat p) <| sv (qav p) <| svn (sT29.ln p.Kids) <| sca (qmK br24) <| eF .normal (qcr p (!r24))
     exact pcZ A159 z (by kernel_rfl)
end
section
variable (p:tPred)
def qAy:PSt:=stt 87 [(1,.eptr (qaa p))] [.dead] []
def qdn (o:Bool):PSt:=stt 87 [(1,.eptr (qaa p)),(72,.bool o)] [.dead] []
def qsa:Option ((Bool)) :=
 if (p.Op == 1) = true then
  (qFt p.N).bind fun r30 =>
  if (!r30) = true then
   some true
  else
   if (p.Op == 2) = true then
    if (decide (p.N < 0)) = true then
     some true
    else
     some (decide (p.N > 1))
   else
    some false
 else
  if (p.Op == 2) = true then
   if (decide (p.N < 0)) = true then
    some true
   else
    some (decide (p.N > 1))
  else
   some false
theorem qyp {x:(Bool)} (h:qsa p = some x) :
  Sat Pg GE 0 (cA b159 60) (EX .normal (qdn p x)) (qAy p):=by
 have p29:=fun {sc F} (r:PS sc F) => sv (qaw p) <| sv (qau p) <| r
 rcases ifs h with ⟨c28,h⟩ | ⟨c28,h⟩
 ·obtain ⟨r30,br30,h⟩:=bnd h
  have p32:=fun {sc F} (r:PS sc F) => p29 <| sg 4 c28 <| sv (qbc p) <| sv (qbq p) <| sca (qHr br30) <| r
  rcases ifs h with ⟨c31,h⟩ | ⟨c31,h⟩
  ·obtain rfl:=lf h
   have z:=p32 <| sg 10 c31 <| eF .normal (qdn p true)
   exact pcZ A159 z (by kernel_rfl)
  ·have p34:=fun {sc F} (r:PS sc F) => p32 <| sg 10 c31 <| sv (qaw p) <| sv (qau p) <| r
   rcases ifs h with ⟨c33,h⟩ | ⟨c33,h⟩
   ·have p36:=fun {sc F} (r:PS sc F) => p34 <| sg 14 c33 <| sv (qbc p) <| sv (qbq p) <| r
    rcases ifs h with ⟨c35,h⟩ | ⟨c35,h⟩
    ·obtain rfl:=lf h
     have z:=p36 <| sg 18 c35 <| eF .normal (qdn p true)
     exact pcZ A159 z (by kernel_rfl)
    ·obtain rfl:=lf h
     have z:=p36 <| sg 18 c35 <| sv (qbc p) <| sv (qbq p) <| eF .normal (qdn p (decide (p.N > 1)))
     exact pcZ A159 z (by kernel_rfl)
   ·obtain rfl:=lf h
    have z:=p34 <| sg 14 c33 <| eF .normal (qdn p false)
    exact pcZ A159 z (by kernel_rfl)
 ·have p38:=fun {sc F} (r:PS sc F) => p29 <| sg 4 c28 <| sv (qaw p) <| sv (qau p) <| r
  rcases ifs h with ⟨c37,h⟩ | ⟨c37,h⟩
  ·have p40:=fun {sc F} (r:PS sc F) => p38 <| sg 14 c37 <| sv (qbc p) <| sv (qbq p) <| r
   rcases ifs h with ⟨c39,h⟩ | ⟨c39,h⟩
   ·obtain rfl:=lf h
    have z:=p40 <| sg 18 c39 <| eF .normal (qdn p true)
    exact pcZ A159 z (by kernel_rfl)
   ·obtain rfl:=lf h
    have z:=p40 <| sg 18 c39 <| sv (qbc p) <| sv (qbq p) <| eF .normal (qdn p (decide (p.N > 1)))
    exact pcZ A159 z (by kernel_rfl)
  ·obtain rfl:=lf h
   have z:=p38 <| sg 14 c37 <| eF .normal (qdn p false)
   exact pcZ A159 z (by kernel_rfl)
end
section
variable (p:tPred)
def qBj:PSt:=stt 87 [(1,.eptr (qaa p))] [.dead] []
def qmu (o:Bool):PSt:=stt 87 [(86,.bool o)] [.dead] []
def qrz:Option ((Bool)) :=
 if (p.Op == 8) = true then
  (idx p.Kids 0).bind fun x49 =>
  some (x49.Op != 1)
 else
  some false
theorem qyA {x:(Bool)} (h:qrz p = some x) :
  Sat Pg GE 0 (cA b159 252) (EX .normal (qmu x)) (qBj p):=by
 have p48:=fun {sc F} (r:PS sc F) => sv (qaw p) <| sv (qau p) <| r
 rcases ifs h with ⟨c47,h⟩ | ⟨c47,h⟩
 ·obtain ⟨x49,bx49,h⟩:=bnd h
  obtain rfl:=lf h
  have z:=p48 <| sg 4 c47 <| sv (qat p) <| sv (qav p) <| sv (sT29.ia (k := .i64) bx49) <| sv (qaw x49) <| sv (qau x49) <| eF .normal (qmu (x49.Op != 1))
  exact pcZ A159 z (by kernel_rfl)
 ·obtain rfl:=lf h
  have z:=p48 <| sg 4 c47 <| eF .normal (qmu false)
  exact pcZ A159 z (by kernel_rfl)
end
def qwA (p:tPred):Option (Int) :=
 (qrq p).bind fun o3 =>
 (qrh p o3).bind fun o25 =>
 if o25 = true then
  some 1
 else
  (qsa p).bind fun o41 =>
  if o41 = true then
   some 2
  else
   (qpK p).bind fun r44 =>
   if (!r44) = true then
    some 3
   else
    (qrz p).bind fun o50 =>
    if o50 = true then
     some 6
    else
     some 0
theorem qDJ {p:tPred} {r:Int} (h:qwA p = some r):CC Pg GE 159 [.agg (qaa p)] (.int .i64 r) []:=by
 obtain ⟨o3,bo3,h⟩:=bnd h
 obtain ⟨o25,bo25,h⟩:=bnd h
 have p27:=fun {sc F} (r:PS sc F) => se (qaE p) <| spa 0 <| spc (qy0 p bo3) <| spa 1 <| spc (qy2 p o3 bo25) <| r
 rcases ifs h with ⟨c26,h⟩ | ⟨c26,h⟩
 ·obtain rfl:=lf h
  have z:=p27 <| sg 0 c26 <| en (aI (rP (.int .i64 1)) <| trivial)
  exact cvZ A159 Tryz.call159 Tryz.func159 (c:=b159) rfl (aI (qab p) trivial) z (by kernel_rfl)
 ·obtain ⟨o41,bo41,h⟩:=bnd h
  have p43:=fun {sc F} (r:PS sc F) => p27 <| sg 0 c26 <| spa 1 <| spc (qyp p bo41) <| r
  rcases ifs h with ⟨c42,h⟩ | ⟨c42,h⟩
  ·obtain rfl:=lf h
   have z:=p43 <| sg 0 c42 <| en (aI (rP (.int .i64 2)) <| trivial)
   exact cvZ A159 Tryz.call159 Tryz.func159 (c:=b159) rfl (aI (qab p) trivial) z (by kernel_rfl)
  ·obtain ⟨r44,br44,h⟩:=bnd h
   have p46:=fun {sc F} (r:PS sc F) => p43 <| sg 0 c42 <| sv (qaj p) <| sca (qAv br44) <| r
   rcases ifs h with ⟨c45,h⟩ | ⟨c45,h⟩
   ·obtain rfl:=lf h
    have z:=p46 <| sg 0 c45 <| en (aI (rP (.int .i64 3)) <| trivial)
    exact cvZ A159 Tryz.call159 Tryz.func159 (c:=b159) rfl (aI (qab p) trivial) z (by kernel_rfl)
   ·obtain ⟨o50,bo50,h⟩:=bnd h
    have p52:=fun {sc F} (r:PS sc F) => p46 <| sg 0 c45 <| spa 1 <| spc (qyA p bo50) <| r
    rcases ifs h with ⟨c51,h⟩ | ⟨c51,h⟩
    ·obtain rfl:=lf h
     have z:=p52 <| sg 0 c51 <| en (aI (rP (.int .i64 6)) <| trivial)
     exact cvZ A159 Tryz.call159 Tryz.func159 (c:=b159) rfl (aI (qab p) trivial) z (by kernel_rfl)
    ·obtain rfl:=lf h
     have z:=p52 <| sg 0 c51 <| en (aI (rP (.int .i64 0)) <| trivial)
     exact cvZ A159 Tryz.call159 Tryz.func159 (c:=b159) rfl (aI (qab p) trivial) z (by kernel_rfl)
noncomputable def b148:Code:=Tryz.f148.body.getD .skip
def A148:List Nat:=[11,23]
section
variable (R154:qp5) (t13:waA) (t14:Int) (t15:Int)
def qg0:PSt:=stt 25 [(13,sl qaa t13),(14,.int .i64 t14),(15,.int .i64 t15)] [.dead] []
def qhE (o:(Int)⊕(Unit)):Exit:=match o with
 | (.inl _) => .ret
 | (.inr _) => .exit 0
def qfu (o:(Int)⊕(Unit)):PSt:=match o with
 | (.inl o) => stt 25 [(2,.int .i64 o)] [.dead] []
 | (.inr o) => stt 25 [] [.dead] []
def qta:Option ((Int)⊕((Int)⊕(Unit))) :=
 if (decide (t15 < t14)) = true then
  (idx t13 t15).bind fun x5 =>
  (R154 x5).bind fun r6 =>
  if (r6 != 0) = true then
   some (.inr (.inl r6))
  else
   some (.inl (w64 (t15 + 1)))
 else
  some (.inr (.inr ()))
def qrn:Option ((Int)⊕(Unit)):=loop (fun (zz:Int) => qta R154 t13 t14 zz) t15
theorem qwR (hR154:quQ R154) {y:(Int)⊕((Int)⊕(Unit))} (h:qta R154 t13 t14 t15 = some y) :
  Sat Pg GE 0 (cA b148 119) (LQ (fun (zz:Int) => qg0 t13 t14 zz) qhE (qfu) y) (qg0 t13 t14 t15):=by
 rcases ifs h with ⟨c4,h⟩ | ⟨c4,h⟩
 ·obtain ⟨x5,bx5,h⟩:=bnd h
  obtain ⟨r6,br6,h⟩:=bnd h
  have p8:=fun {sc F} (r:PS sc F) => sg 0 c4 <| sv (sT29.ia (k := .i64) bx5) <| sv (qaj x5) <| sx pz31 <| sx (qaB x5) <| sv (qax x5 []) <| sca (hR154 _ _ br6) <| r
  rcases ifs h with ⟨c7,h⟩ | ⟨c7,h⟩
  ·obtain rfl:=lf h
   have z:=p8 <| sg 0 c7 <| eFx 0 (qhE (.inl r6)) (qfu (.inl r6)) rfl (qbn (aI trivial trivial)) (aI trivial trivial)
   exact qhP (A:=A148) mixed (by intro hx; cases hx) z (by kernel_rfl)
  ·obtain rfl:=lf h
   have z:=p8 <| sg 0 c7 <| eFx 0 .normal (qg0 t13 t14 (w64 (t15 + 1))) rfl (qbn (aI (up (qad qab t13)) (aI trivial (aI trivial trivial)))) (aI trivial trivial)
   exact qa5 (A:=A148) mixed z (by kernel_rfl)
 ·obtain rfl:=lf h
  have z:=sg 0 c4 <| eF (qhE (.inr ())) (qfu (.inr ()))
  exact ovZ A148 (by intro hx; cases hx) z (by kernel_rfl)
theorem qq7 (hR154:quQ R154) {x:(Int)⊕(Unit)} (h:qrn R154 t13 t14 t15 = some x) :
  Sat Pg GE 0 (.loop (cA b148 119)) (EX (qhE x) (qfu x)) (qg0 t13 t14 t15) :=
 Sat.loop (S:=fun (zz:Int) => qg0 t13 t14 zz) (ex:=qhE) (s:=t15) h fun zz y hy => qwR R154 t13 t14 zz hR154 hy
end
def qpU (R154:qp5) (p:tPred):Option (Int) :=
 (qwA p).bind fun r1 =>
 if (r1 != 0) = true then
  some r1
 else
  (qrn R154 p.Kids (p.Kids.length:Int) 0).bind fun o9 => match o9 with
  | (.inl o9) =>
   some o9
  | (.inr o9) =>
   some 0
theorem qCh (R154:qp5) (hR154:quQ R154) {p:tPred} {r:Int} (h:qpU R154 p = some r):CC Pg GE 148 [.agg (qaa p)] (.int .i64 r) []:=by
 obtain ⟨r1,br1,h⟩:=bnd h
 have p3:=fun {sc F} (r:PS sc F) => se (qaE p) <| sv (qaj p) <| sca (qDJ br1) <| r
 rcases ifs h with ⟨c2,h⟩ | ⟨c2,h⟩
 ·obtain rfl:=lf h
  have z:=p3 <| sg 0 c2 <| en (aI (rP (.int .i64 r1)) <| trivial)
  exact cvZ A148 Tryz.call148 Tryz.func148 (c:=b148) rfl (aI (qab p) trivial) z (by kernel_rfl)
 ·obtain ⟨o9,bo9,h⟩:=bnd h
  rcases o9 with o9 | o9
  ·obtain rfl:=lf h
   have z:=p3 <| sg 0 c2 <| sv (qat p) <| sv (qav p) <| svn (sT29.ln p.Kids) <| spc (e := .ret) (s1:=qfu (.inl o9)) (qq7 R154 p.Kids (p.Kids.length:Int) 0 hR154 bo9) <| en (aI (rP (.int .i64 o9)) <| trivial)
   exact cvZ A148 Tryz.call148 Tryz.func148 (c:=b148) rfl (aI (qab p) trivial) z (by kernel_rfl)
  ·obtain rfl:=lf h
   have z:=p3 <| sg 0 c2 <| sv (qat p) <| sv (qav p) <| svn (sT29.ln p.Kids) <| spc (e := .exit 0) (s1:=qfu (.inr o9)) (qq7 R154 p.Kids (p.Kids.length:Int) 0 hR154 bo9) <| en (aI (rP (.int .i64 0)) <| trivial)
   exact cvZ A148 Tryz.call148 Tryz.func148 (c:=b148) rfl (aI (qab p) trivial) z (by kernel_rfl)
def quS:((tPred)→Option (Int))→(tPred)→Option (Int):=fun (rec:tPred→Option (Int)) (x:tPred) => qpU (fun p => rec p) x
def qAk (p:tPred):Option (Int):=fixE (quS) p
theorem qD0 {p:tPred} {r:Int} (h:qAk p = some r):CC Pg GE 148 [.agg (qaa p)] (.int .i64 r) [] :=
 qbo (F:=quS) (M:=fun (x:tPred) (r:Int) => CC Pg GE 148 [.agg (qaa x)] (.int .i64 r) []) (fun rec hrec x r h => qCh _ (fun p r h => hrec p r h) h) h
noncomputable def b133:Code:=Tryz.f133.body.getD .skip
def A133:List Nat:=[]
def qsG (p:tPred):Option (Int) :=
 (qn5 p).bind fun r1 =>
 if (decide (r1 > 400)) = true then
  some 7
 else
  (qpq p).bind fun r4 =>
  if (decide (r4 > 40)) = true then
   some 8
  else
   (qAk p).bind fun r7 =>
   some r7
theorem qCp {p:tPred} {r:Int} (h:qsG p = some r):CC Pg GE 133 [.agg (qaa p)] (.int .i64 r) []:=by
 obtain ⟨r1,br1,h⟩:=bnd h
 have p3:=fun {sc F} (r:PS sc F) => se (qaE p) <| sv (qaj p) <| sca (qod br1) <| r
 rcases ifs h with ⟨c2,h⟩ | ⟨c2,h⟩
 ·obtain rfl:=lf h
  have z:=p3 <| sg 0 c2 <| en (aI (rP (.int .i64 7)) <| trivial)
  exact cvZ A133 Tryz.call133 Tryz.func133 (c:=b133) rfl (aI (qab p) trivial) z (by kernel_rfl)
 ·obtain ⟨r4,br4,h⟩:=bnd h
  have p6:=fun {sc F} (r:PS sc F) => p3 <| sg 0 c2 <| sv (qaj p) <| sca (qoR br4) <| r
  rcases ifs h with ⟨c5,h⟩ | ⟨c5,h⟩
  ·obtain rfl:=lf h
   have z:=p6 <| sg 0 c5 <| en (aI (rP (.int .i64 8)) <| trivial)
   exact cvZ A133 Tryz.call133 Tryz.func133 (c:=b133) rfl (aI (qab p) trivial) z (by kernel_rfl)
  ·obtain ⟨r7,br7,h⟩:=bnd h
   obtain rfl:=lf h
   have z:=p6 <| sg 0 c5 <| sv (qaj p) <| sca (qD0 br7) <| en (aI (rP (.int .i64 r7)) <| trivial)
   exact cvZ A133 Tryz.call133 Tryz.func133 (c:=b133) rfl (aI (qab p) trivial) z (by kernel_rfl)
noncomputable def b114:Code:=Tryz.f114.body.getD .skip
def A114:List Nat:=[63]
section
variable (t:tType)
def qBm:PSt:=stt 65 [(1,.eptr (qac t))] [.dead] []
def qfl (o:Bool):PSt:=stt 65 [(1,.eptr (qac t)),(27,.bool o)] [.dead] []
def qsi:Option ((Bool)) :=
 if (t.Op == 6) = true then
  (qsy t.Pred).bind fun r3 =>
  if (!r3) = true then
   some true
  else
   if (t.Op != 4) = true then
    some (decide ((t.Preds.length:Int) > 0))
   else
    some false
 else
  if (t.Op != 4) = true then
   some (decide ((t.Preds.length:Int) > 0))
  else
   some false
theorem qzb {x:(Bool)} (h:qsi t = some x) :
  Sat Pg GE 0 (cA b114 12) (EX .normal (qfl t x)) (qBm t):=by
 have p2:=fun {sc F} (r:PS sc F) => sv (qam t) <| sv (qal t) <| r
 rcases ifs h with ⟨c1,h⟩ | ⟨c1,h⟩
 ·obtain ⟨r3,br3,h⟩:=bnd h
  have p5:=fun {sc F} (r:PS sc F) => p2 <| sg 4 c1 <| sv (qbg t) <| sv (qba t) <| sca (qwZ br3) <| r
  rcases ifs h with ⟨c4,h⟩ | ⟨c4,h⟩
  ·obtain rfl:=lf h
   have z:=p5 <| sg 10 c4 <| eF .normal (qfl t true)
   exact pcZ A114 z (by kernel_rfl)
  ·have p7:=fun {sc F} (r:PS sc F) => p5 <| sg 10 c4 <| sv (qam t) <| sv (qal t) <| r
   rcases ifs h with ⟨c6,h⟩ | ⟨c6,h⟩
   ·obtain rfl:=lf h
    have z:=p7 <| sg 14 c6 <| sv (qaQ t) <| sv (qaP t) <| svn (sT29.ln t.Preds) <| eF .normal (qfl t (decide ((t.Preds.length:Int) > 0)))
    exact pcZ A114 z (by kernel_rfl)
   ·obtain rfl:=lf h
    have z:=p7 <| sg 14 c6 <| eF .normal (qfl t false)
    exact pcZ A114 z (by kernel_rfl)
 ·have p9:=fun {sc F} (r:PS sc F) => p2 <| sg 4 c1 <| sv (qam t) <| sv (qal t) <| r
  rcases ifs h with ⟨c8,h⟩ | ⟨c8,h⟩
  ·obtain rfl:=lf h
   have z:=p9 <| sg 14 c8 <| sv (qaQ t) <| sv (qaP t) <| svn (sT29.ln t.Preds) <| eF .normal (qfl t (decide ((t.Preds.length:Int) > 0)))
   exact pcZ A114 z (by kernel_rfl)
  ·obtain rfl:=lf h
   have z:=p9 <| sg 14 c8 <| eF .normal (qfl t false)
   exact pcZ A114 z (by kernel_rfl)
end
section
variable (t:tType) (t29:waB) (t30:Int) (t31:Int)
def qhM:PSt:=stt 65 [(1,.eptr (qac t)),(29,sl cS t29),(30,.int .i64 t30),(31,.int .i64 t31)] [.dead] []
def qhK (o:(Unit)⊕(Unit)):Exit:=match o with
 | (.inl _) => .ret
 | (.inr _) => .exit 0
def qfg (o:(Unit)⊕(Unit)):PSt:=match o with
 | (.inl o) => stt 65 [(2,.int .i64 3)] [.dead] []
 | (.inr o) => stt 65 [(1,.eptr (qac t))] [.dead] []
def qsK:Option ((Int)⊕((Unit)⊕(Unit))) :=
 if (decide (t31 < t30)) = true then
  (idx t29 t31).bind fun x14 =>
  (qo2 x14).bind fun r15 =>
  if (r15 != 0) = true then
   some (.inr (.inl ()))
  else
   some (.inl (w64 (t31 + 1)))
 else
  some (.inr (.inr ()))
def qr6:Option ((Unit)⊕(Unit)):=loop (fun (zz:Int) => qsK t29 t30 zz) t31
theorem qw6 {y:(Int)⊕((Unit)⊕(Unit))} (h:qsK t29 t30 t31 = some y) :
  Sat Pg GE 0 (cA b114 119) (LQ (fun (zz:Int) => qhM t t29 t30 zz) qhK (qfg t) y) (qhM t t29 t30 t31):=by
 rcases ifs h with ⟨c13,h⟩ | ⟨c13,h⟩
 ·obtain ⟨x14,bx14,h⟩:=bnd h
  obtain ⟨r15,br15,h⟩:=bnd h
  have p17:=fun {sc F} (r:PS sc F) => sg 0 c13 <| sv (sT22.ia (k := .i64) bx14) <| sv (qa9 sc9 (.str x14) []) <| sca (qvk br15) <| r
  rcases ifs h with ⟨c16,h⟩ | ⟨c16,h⟩
  ·obtain rfl:=lf h
   have z:=p17 <| sg 0 c16 <| eF (qhK (.inl ())) (qfg t (.inl ()))
   exact ovZ A114 (by intro hx; cases hx) z (by kernel_rfl)
  ·obtain rfl:=lf h
   have z:=p17 <| sg 0 c16 <| eF .normal (qhM t t29 t30 (w64 (t31 + 1)))
   exact nxZ A114 z (by kernel_rfl)
 ·obtain rfl:=lf h
  have z:=sg 0 c13 <| eF (qhK (.inr ())) (qfg t (.inr ()))
  exact ovZ A114 (by intro hx; cases hx) z (by kernel_rfl)
theorem qqQ {x:(Unit)⊕(Unit)} (h:qr6 t29 t30 t31 = some x) :
  Sat Pg GE 0 (.loop (cA b114 119)) (EX (qhK x) (qfg t x)) (qhM t t29 t30 t31) :=
 Sat.loop (S:=fun (zz:Int) => qhM t t29 t30 zz) (ex:=qhK) (s:=t31) h fun zz y hy => qw6 t t29 t30 zz hy
end
section
variable (e:Int) (t48:waA) (t49:Int) (t50:Int) (m:Int) (m2:Str) (m3:Int) (m4:waA)
def qAh:PSt:=stt 65 [(6,.bptr 1 0),(7,.int .i64 e),(48,sl qaa t48),(49,.int .i64 t49),(50,.int .i64 t50)] [.dead,.cells [.int .i64 m,.str m2,.int .i64 m3,sl qaa m4] []] [((48,0),31)]
def qne (o:Bool):PSt:=stt 65 [(7,.int .i64 e),(48,sl qaa t48),(49,.int .i64 t49),(50,.int .i64 t50),(62,.bool o)] [.dead,.cells [.int .i64 m,.str m2,.int .i64 m3,sl qaa m4] []] [((48,0),31)]
def qsk:Option ((Bool)) :=
 (qsy (⟨m,m2,m3,m4⟩:tPred)).bind fun r26 =>
 if (!r26) = true then
  some (e != 0)
 else
  some false
theorem qyT {x:(Bool)} (h:qsk e m m2 m3 m4 = some x) :
  Sat Pg GE 0 (cA b114 64494) (EX .normal (qne e t48 t49 t50 m m2 m3 m4 x)) (qAh e t48 t49 t50 m m2 m3 m4):=by
 obtain ⟨r26,br26,h⟩:=bnd h
 have p28:=fun {sc F} (r:PS sc F) => sv (qax (⟨m,m2,m3,m4⟩:tPred) []) <| sca (qwZ br26) <| r
 rcases ifs h with ⟨c27,h⟩ | ⟨c27,h⟩
 ·obtain rfl:=lf h
  have z:=p28 <| sg 4 c27 <| eF .normal (qne e t48 t49 t50 m m2 m3 m4 (e != 0))
  exact pcZ A114 z (by kernel_rfl)
 ·obtain rfl:=lf h
  have z:=p28 <| sg 4 c27 <| eF .normal (qne e t48 t49 t50 m m2 m3 m4 false)
  exact pcZ A114 z (by kernel_rfl)
end
section
variable (t48:waA) (t49:Int) (t50:Int)
def qhB:PSt:=stt 65 [(48,sl qaa t48),(49,.int .i64 t49),(50,.int .i64 t50)] [.dead] [((48,0),31)]
def qhw (o:(Int)⊕(Unit)):Exit:=match o with
 | (.inl _) => .ret
 | (.inr _) => .exit 2
def qft (o:(Int)⊕(Unit)):PSt:=match o with
 | (.inl o) => stt 65 [(2,.int .i64 o)] [.dead] []
 | (.inr o) => stt 65 [] [.dead] []
def qtL:Option ((Int)⊕((Int)⊕(Unit))) :=
 if (decide (t50 < t49)) = true then
  (idx t48 t50).bind fun x24 =>
  (qsG x24).bind fun r25 =>
  (qsk r25 x24.Op x24.Name x24.N x24.Kids).bind fun o29 =>
  if o29 = true then
   some (.inr (.inl r25))
  else
   some (.inl (w64 (t50 + 1)))
 else
  some (.inr (.inr ()))
def qsq:Option ((Int)⊕(Unit)):=loop (fun (zz:Int) => qtL t48 t49 zz) t50
theorem qxh {y:(Int)⊕((Int)⊕(Unit))} (h:qtL t48 t49 t50 = some y) :
  Sat Pg GE 0 (cA b114 503) (LQ (fun (zz:Int) => qhB t48 t49 zz) qhw (qft) y) (qhB t48 t49 t50):=by
 rcases ifs h with ⟨c23,h⟩ | ⟨c23,h⟩
 ·obtain ⟨x24,bx24,h⟩:=bnd h
  obtain ⟨r25,br25,h⟩:=bnd h
  obtain ⟨o29,bo29,h⟩:=bnd h
  have p31:=fun {sc F} (r:PS sc F) => sg 0 c23 <| sv (sT29.ia (k := .i64) bx24) <| sv (qaj x24) <| sx pz31 <| sx (qaB x24) <| sv (qax x24 []) <| sca (qCp br25) <| spa 0 <| spc (qyT r25 t48 t49 t50 x24.Op x24.Name x24.N x24.Kids bo29) <| r
  rcases ifs h with ⟨c30,h⟩ | ⟨c30,h⟩
  ·obtain rfl:=lf h
   have z:=p31 <| sg 0 c30 <| eFx 0 (qhw (.inl r25)) (qft (.inl r25)) rfl (qbn (aI trivial trivial)) (aI trivial trivial)
   exact qhP (A:=A114) mixed (by intro hx; cases hx) z (by kernel_rfl)
  ·obtain rfl:=lf h
   have z:=p31 <| sg 0 c30 <| eFx 0 .normal (qhB t48 t49 (w64 (t50 + 1))) rfl (qbn (aI (up (qad qab t48)) (aI trivial (aI trivial trivial)))) (aI trivial trivial)
   exact qa5 (A:=A114) mixed z (by kernel_rfl)
 ·obtain rfl:=lf h
  have z:=sg 0 c23 <| eF (qhw (.inr ())) (qft (.inr ()))
  exact ovZ A114 (by intro hx; cases hx) z (by kernel_rfl)
theorem qqX {x:(Int)⊕(Unit)} (h:qsq t48 t49 t50 = some x) :
  Sat Pg GE 0 (.loop (cA b114 503)) (EX (qhw x) (qft x)) (qhB t48 t49 t50) :=
 Sat.loop (S:=fun (zz:Int) => qhB t48 t49 zz) (ex:=qhw) (s:=t50) h fun zz y hy => qxh t48 t49 zz hy
end
def qwp (t:tType):Option (Int) :=
 (qsi t).bind fun o10 =>
 if o10 = true then
  some 1
 else
  (qr6 t.Names (t.Names.length:Int) 0).bind fun o18 => match o18 with
  | (.inl o18) =>
   some 3
  | (.inr o18) =>
   (qi0 t.Names).bind fun r19 =>
   if (!r19) = true then
    some 4
   else
    (app ([t.Pred]:List tPred) t.Preds).bind fun l22 =>
    (qsq l22 (l22.length:Int) 0).bind fun o32 => match o32 with
    | (.inl o32) =>
     some o32
    | (.inr o32) =>
     some 0
theorem qDT {t:tType} {r:Int} (h:qwp t = some r):CC Pg GE 114 [.agg (qac t)] (.int .i64 r) []:=by
 obtain ⟨o10,bo10,h⟩:=bnd h
 have p12:=fun {sc F} (r:PS sc F) => se (qbj t) <| spa 1 <| spc (qzb t bo10) <| r
 rcases ifs h with ⟨c11,h⟩ | ⟨c11,h⟩
 ·obtain rfl:=lf h
  have z:=p12 <| sg 0 c11 <| en (aI (rP (.int .i64 1)) <| trivial)
  exact cvZ A114 Tryz.call114 Tryz.func114 (c:=b114) rfl (aI (qaf t) trivial) z (by kernel_rfl)
 ·obtain ⟨o18,bo18,h⟩:=bnd h
  rcases o18 with o18 | o18
  ·obtain rfl:=lf h
   have z:=p12 <| sg 0 c11 <| sv (qaz t) <| sv (qay t) <| svn (sT22.ln t.Names) <| spc (e := .ret) (s1:=qfg t (.inl o18)) (qqQ t t.Names (t.Names.length:Int) 0 bo18) <| en (aI (rP (.int .i64 3)) <| trivial)
   exact cvZ A114 Tryz.call114 Tryz.func114 (c:=b114) rfl (aI (qaf t) trivial) z (by kernel_rfl)
  ·obtain ⟨r19,br19,h⟩:=bnd h
   have p21:=fun {sc F} (r:PS sc F) => p12 <| sg 0 c11 <| sv (qaz t) <| sv (qay t) <| svn (sT22.ln t.Names) <| spc (e := .exit 0) (s1:=qfg t (.inr o18)) (qqQ t t.Names (t.Names.length:Int) 0 bo18) <| sv (qaz t) <| sv (qay t) <| sca (qkJ br19) <| r
   rcases ifs h with ⟨c20,h⟩ | ⟨c20,h⟩
   ·obtain rfl:=lf h
    have z:=p21 <| sg 0 c20 <| en (aI (rP (.int .i64 4)) <| trivial)
    exact cvZ A114 Tryz.call114 Tryz.func114 (c:=b114) rfl (aI (qaf t) trivial) z (by kernel_rfl)
   ·obtain ⟨l22,bl22,h⟩:=bnd h
    obtain ⟨o32,bo32,h⟩:=bnd h
    rcases o32 with o32 | o32
    ·obtain rfl:=lf h
     have z:=p21 <| sg 0 c20 <| sv (qbg t) <| sv (qba t) <| sv (sT29.mk' (v:=qbk) qaL ([t.Pred]:List tPred) 1 (by kernel_rfl)) <| sv (qaQ t) <| sv (qaP t) <| sv (sT29.ap bl22) <| svn (sT29.ln l22) <| spc (e := .ret) (s1:=qft (.inl o32)) (qqX l22 (l22.length:Int) 0 bo32) <| en (aI (rP (.int .i64 o32)) <| trivial)
     exact cvZ A114 Tryz.call114 Tryz.func114 (c:=b114) rfl (aI (qaf t) trivial) z (by kernel_rfl)
    ·obtain rfl:=lf h
     have z:=p21 <| sg 0 c20 <| sv (qbg t) <| sv (qba t) <| sv (sT29.mk' (v:=qbk) qaL ([t.Pred]:List tPred) 1 (by kernel_rfl)) <| sv (qaQ t) <| sv (qaP t) <| sv (sT29.ap bl22) <| svn (sT29.ln l22) <| spc (e := .exit 2) (s1:=qft (.inr o32)) (qqX l22 (l22.length:Int) 0 bo32) <| en (aI (rP (.int .i64 0)) <| trivial)
     exact cvZ A114 Tryz.call114 Tryz.func114 (c:=b114) rfl (aI (qaf t) trivial) z (by kernel_rfl)
noncomputable def b79:Code:=Tryz.f79.body.getD .skip
def A79:List Nat:=[11,23]
section
variable (R149:qpx) (t13:waC) (t14:Int) (t15:Int)
def qgX:PSt:=stt 25 [(13,sl qac t13),(14,.int .i64 t14),(15,.int .i64 t15)] [.dead] []
def qgP (o:(Int)⊕(Unit)):Exit:=match o with
 | (.inl _) => .ret
 | (.inr _) => .exit 0
def qfd (o:(Int)⊕(Unit)):PSt:=match o with
 | (.inl o) => stt 25 [(2,.int .i64 o)] [.dead] []
 | (.inr o) => stt 25 [] [.dead] []
def qt0:Option ((Int)⊕((Int)⊕(Unit))) :=
 if (decide (t15 < t14)) = true then
  (idx t13 t15).bind fun x5 =>
  (R149 x5).bind fun r6 =>
  if (r6 != 0) = true then
   some (.inr (.inl r6))
  else
   some (.inl (w64 (t15 + 1)))
 else
  some (.inr (.inr ()))
def qst:Option ((Int)⊕(Unit)):=loop (fun (zz:Int) => qt0 R149 t13 t14 zz) t15
theorem qx3 (hR149:quB R149) {y:(Int)⊕((Int)⊕(Unit))} (h:qt0 R149 t13 t14 t15 = some y) :
  Sat Pg GE 0 (cA b79 119) (LQ (fun (zz:Int) => qgX t13 t14 zz) qgP (qfd) y) (qgX t13 t14 t15):=by
 rcases ifs h with ⟨c4,h⟩ | ⟨c4,h⟩
 ·obtain ⟨x5,bx5,h⟩:=bnd h
  obtain ⟨r6,br6,h⟩:=bnd h
  have p8:=fun {sc F} (r:PS sc F) => sg 0 c4 <| sv (sT27.ia (k := .i64) bx5) <| sv (qaN x5) <| sx pz33 <| sx (qbI x5) <| sv (qa3 x5 []) <| sca (hR149 _ _ br6) <| r
  rcases ifs h with ⟨c7,h⟩ | ⟨c7,h⟩
  ·obtain rfl:=lf h
   have z:=p8 <| sg 0 c7 <| eFx 0 (qgP (.inl r6)) (qfd (.inl r6)) rfl (qbn (aI trivial trivial)) (aI trivial trivial)
   exact qhP (A:=A79) mixed (by intro hx; cases hx) z (by kernel_rfl)
  ·obtain rfl:=lf h
   have z:=p8 <| sg 0 c7 <| eFx 0 .normal (qgX t13 t14 (w64 (t15 + 1))) rfl (qbn (aI (up (qad qaf t13)) (aI trivial (aI trivial trivial)))) (aI trivial trivial)
   exact qa5 (A:=A79) mixed z (by kernel_rfl)
 ·obtain rfl:=lf h
  have z:=sg 0 c4 <| eF (qgP (.inr ())) (qfd (.inr ()))
  exact ovZ A79 (by intro hx; cases hx) z (by kernel_rfl)
theorem qqM (hR149:quB R149) {x:(Int)⊕(Unit)} (h:qst R149 t13 t14 t15 = some x) :
  Sat Pg GE 0 (.loop (cA b79 119)) (EX (qgP x) (qfd x)) (qgX t13 t14 t15) :=
 Sat.loop (S:=fun (zz:Int) => qgX t13 t14 zz) (ex:=qgP) (s:=t15) h fun zz y hy => qx3 R149 t13 t14 zz hR149 hy
end
def qpN (R149:qpx) (t:tType):Option (Int) :=
 (qwp t).bind fun r1 =>
 if (r1 != 0) = true then
  some r1
 else
  (qst R149 t.Args (t.Args.length:Int) 0).bind fun o9 => match o9 with
  | (.inl o9) =>
   some o9
  | (.inr o9) =>
   some 0
theorem qCL (R149:qpx) (hR149:quB R149) {t:tType} {r:Int} (h:qpN R149 t = some r):CC Pg GE 79 [.agg (qac t)] (.int .i64 r) []:=by
 obtain ⟨r1,br1,h⟩:=bnd h
 have p3:=fun {sc F} (r:PS sc F) => se (qbj t) <| sv (qaN t) <| sca (qDT br1) <| r
 rcases ifs h with ⟨c2,h⟩ | ⟨c2,h⟩
 ·obtain rfl:=lf h
  have z:=p3 <| sg 0 c2 <| en (aI (rP (.int .i64 r1)) <| trivial)
  exact cvZ A79 Tryz.call79 Tryz.func79 (c:=b79) rfl (aI (qaf t) trivial) z (by kernel_rfl)
 ·obtain ⟨o9,bo9,h⟩:=bnd h
  rcases o9 with o9 | o9
  ·obtain rfl:=lf h
   have z:=p3 <| sg 0 c2 <| sv (qaq t) <| sv (qap t) <| svn (sT27.ln t.Args) <| spc (e := .ret) (s1:=qfd (.inl o9)) (qqM R149 t.Args (t.Args.length:Int) 0 hR149 bo9) <| en (aI (rP (.int .i64 o9)) <| trivial)
   exact cvZ A79 Tryz.call79 Tryz.func79 (c:=b79) rfl (aI (qaf t) trivial) z (by kernel_rfl)
  ·obtain rfl:=lf h
   have z:=p3 <| sg 0 c2 <| sv (qaq t) <| sv (qap t) <| svn (sT27.ln t.Args) <| spc (e := .exit 0) (s1:=qfd (.inr o9)) (qqM R149 t.Args (t.Args.length:Int) 0 hR149 bo9) <| en (aI (rP (.int .i64 0)) <| trivial)
   exact cvZ A79 Tryz.call79 Tryz.func79 (c:=b79) rfl (aI (qaf t) trivial) z (by kernel_rfl)
def qve:((tType)→Option (Int))→(tType)→Option (Int):=fun (rec:tType→Option (Int)) (x:tType) => qpN (fun t => rec t) x
def qA9 (t:tType):Option (Int):=fixE (qve) t
theorem qEI {t:tType} {r:Int} (h:qA9 t = some r):CC Pg GE 79 [.agg (qac t)] (.int .i64 r) [] :=
 qbo (F:=qve) (M:=fun (x:tType) (r:Int) => CC Pg GE 79 [.agg (qac x)] (.int .i64 r) []) (fun rec hrec x r h => qCL _ (fun t r h => hrec t r h) h) h
noncomputable def b30:Code:=Tryz.f30.body.getD .skip
def A30:List Nat:=[8]
def qsR (t:tType):Option (Int) :=
 (qsz t).bind fun r1 =>
 if (r1 != 0) = true then
  some r1
 else
  (qA9 t).bind fun r4 =>
  some r4
theorem qDD {t:tType} {r:Int} (h:qsR t = some r):CC Pg GE 30 [.agg (qac t)] (.int .i64 r) []:=by
 obtain ⟨r1,br1,h⟩:=bnd h
 have p3:=fun {sc F} (r:PS sc F) => se (qbj t) <| sv (qaN t) <| sca (qDg br1) <| r
 rcases ifs h with ⟨c2,h⟩ | ⟨c2,h⟩
 ·obtain rfl:=lf h
  have z:=p3 <| sg 0 c2 <| en (aI (rP (.int .i64 r1)) <| trivial)
  exact cvZ A30 Tryz.call30 Tryz.func30 (c:=b30) rfl (aI (qaf t) trivial) z (by kernel_rfl)
 ·obtain ⟨r4,br4,h⟩:=bnd h
  obtain rfl:=lf h
  have z:=p3 <| sg 0 c2 <| sv (qaN t) <| sca (qEI br4) <| en (aI (rP (.int .i64 r4)) <| trivial)
  exact cvZ A30 Tryz.call30 Tryz.func30 (c:=b30) rfl (aI (qaf t) trivial) z (by kernel_rfl)
noncomputable def b32:Code:=Tryz.f32.body.getD .skip
def A32:List Nat:=[]
def qf7 (p:tPred):Option (waA) :=
 (qm9 p 5 ([]:List tPred)).bind fun r1 =>
 some r1
theorem qoM {p:tPred} {r:waA} (h:qf7 p = some r):CC Pg GE 32 [.agg (qaa p)] (sl qaa r) [(0,31)]:=by
 obtain ⟨r1,br1,h⟩:=bnd h
 obtain rfl:=lf h
 have z:=se (qaE p) <| sv (qaj p) <| si (.cg ⟨[],[.agg (qaa p),.int .i64 5,sl qaa ([]:List tPred)],[⟨2,1000000,0,31⟩],[],[],[],[],sl qaa r1,sl qaa r1,[(0,31)]⟩) (qq6 br1) <| sf (aI (xR [] (.agg (qaa p)) (qab p)) (aI (xR [] (.int .i64 5) trivial) (aI (xR [] (sl qaa ([]:List tPred)) (qad qab ([]:List tPred))) trivial))) <| sf trivial <| sf trivial <| sf (xR [] (sl qaa r1) (qad qab r1)) <| en (aI (rP (sl qaa r1)) <| (qad qab r1))
 exact cvZ A32 Tryz.call32 Tryz.func32 (c:=b32) rfl (aI (qab p) trivial) z (by kernel_rfl)
abbrev qmO:=(tType→waB→Option (waB))
abbrev qrk (R:qmO):Prop := ∀ (t:tType) (a:waB) (r:waB),R t a = some r→C Pg GE 81 [.agg (qac t),sl cS a] [((1,0),9)] [] (sl cS r) [(0,9)] []
noncomputable def b81:Code:=Tryz.f81.body.getD .skip
def A81:List Nat:=[34,49,52]
section
variable (t:tType) (t16:waA) (t17:Int) (t18:Int) (t23:waA) (t24:Int) (m:Int) (m2:Str) (m3:Int) (m4:waA) (v:waB) (t25:Int)
def qel:PSt:=stt 53 [(1,sl cS v),(2,.eptr (qac t)),(16,sl qaa t16),(17,.int .i64 t17),(18,.int .i64 t18),(23,sl qaa t23),(24,.int .i64 t24),(25,.int .i64 t25)] [.dead,.cells [.int .i64 m,.str m2,.int .i64 m3,sl qaa m4] []] [((23,0),31),((16,0),31),((1,0),9)]
def qlw (o:waB):PSt:=stt 53 [(1,sl cS o),(2,.eptr (qac t)),(16,sl qaa t16),(17,.int .i64 t17),(18,.int .i64 t18)] [.dead,.cells [.int .i64 m,.str m2,.int .i64 m3,sl qaa m4] []] [((16,0),31),((1,0),9)]
def qqJ:Option ((waB×Int)⊕((waB))) :=
 if (decide (t25 < t24)) = true then
  (idx t23 t25).bind fun x6 =>
  (qgi v x6.Name).bind fun r7 =>
  if (decide (r7 < 0)) = true then
   (app v ([x6.Name]:List Str)).bind fun l10 =>
   some (.inl (l10,w64 (t25 + 1)))
  else
   some (.inl (v,w64 (t25 + 1)))
 else
  some (.inr v)
def qi8:Option ((waB)):=loop (fun (zz:waB×Int) => qqJ t23 t24 zz.1 zz.2) (v,t25)
theorem qv8 {y:(waB×Int)⊕((waB))} (h:qqJ t23 t24 v t25 = some y) :
  Sat Pg GE 1000 (cA b81 14303) (LQ (fun (zz:waB×Int) => qel t t16 t17 t18 t23 t24 m m2 m3 m4 zz.1 zz.2) (fun _ => .exit 2) (qlw t t16 t17 t18 m m2 m3 m4) y) (qel t t16 t17 t18 t23 t24 m m2 m3 m4 v t25):=by
 rcases ifs h with ⟨c5,h⟩ | ⟨c5,h⟩
 ·obtain ⟨x6,bx6,h⟩:=bnd h
  obtain ⟨r7,br7,h⟩:=bnd h
  have p9:=fun {sc F} (r:PS sc F) => sg 0 c5 <| sv (sT29.ia (k := .i64) bx6) <| sv (qaj x6) <| sx pz31 <| sx (qaB x6) <| ss <| sca (qkd br7) <| r
  rcases ifs h with ⟨c8,h⟩ | ⟨c8,h⟩
  ·obtain ⟨l10,bl10,h⟩:=bnd h
   obtain rfl:=lf h
   have z:=p9 <| sg 0 c8 <| ss <| sv (sT22.mk' (v:=PVal.str) pcS ([x6.Name]:List Str) 1 (by kernel_rfl)) <| sv (sT22.ap bl10) <| eFx 1000 .normal (qel t t16 t17 t18 t23 t24 m m2 m3 m4 l10 (w64 (t25 + 1))) rfl (qbn (aI (up (qad clS l10)) (aI (qbw (qaf t)) (aI (up (qad qab t16)) (aI trivial (aI trivial (aI (up (qad qab t23)) (aI trivial (aI trivial trivial))))))))) (aI trivial (aI (aI trivial (aI trivial (aI trivial (aI (up (qad qab m4)) trivial)))) trivial))
   exact qa5 (A:=A81) mixed z (by kernel_rfl)
  ·obtain rfl:=lf h
   have z:=p9 <| sg 0 c8 <| eFx 1000 .normal (qel t t16 t17 t18 t23 t24 m m2 m3 m4 v (w64 (t25 + 1))) rfl (qbn (aI (up (qad clS v)) (aI (qbw (qaf t)) (aI (up (qad qab t16)) (aI trivial (aI trivial (aI (up (qad qab t23)) (aI trivial (aI trivial trivial))))))))) (aI trivial (aI (aI trivial (aI trivial (aI trivial (aI (up (qad qab m4)) trivial)))) trivial))
   exact qa5 (A:=A81) mixed z (by kernel_rfl)
 ·obtain rfl:=lf h
  have z:=sg 0 c5 <| eF (.exit 2) (qlw t t16 t17 t18 m m2 m3 m4 v)
  exact ovZ A81 (by intro hx; cases hx) z (by kernel_rfl)
theorem qxJ {x:(waB)} (h:qi8 t23 t24 v t25 = some x) :
  Sat Pg GE 1000 (.loop (cA b81 14303)) (EX (.exit 2) (qlw t t16 t17 t18 m m2 m3 m4 x)) (qel t t16 t17 t18 t23 t24 m m2 m3 m4 v t25) :=
 Sat.loop (S:=fun (zz:waB×Int) => qel t t16 t17 t18 t23 t24 m m2 m3 m4 zz.1 zz.2) (ex:=(fun _ => .exit 2)) (s:=(v,t25)) h fun zz y hy => qv8 t t16 t17 t18 t23 t24 m m2 m3 m4 zz.1 zz.2 hy
end
section
variable (t:tType) (t16:waA) (t17:Int) (v:waB) (t18:Int)
def qfU:PSt:=stt 53 [(1,sl cS v),(2,.eptr (qac t)),(16,sl qaa t16),(17,.int .i64 t17),(18,.int .i64 t18)] [.dead] [((16,0),31),((1,0),9)]
def qlx (o:waB):PSt:=stt 53 [(1,sl cS o),(2,.eptr (qac t))] [.dead] [((1,0),9)]
def qqR:Option ((waB×Int)⊕((waB))) :=
 if (decide (t18 < t17)) = true then
  (idx t16 t18).bind fun x3 =>
  (qf7 x3).bind fun r4 =>
  (qi8 r4 (r4.length:Int) v 0).bind fun o11 =>
  some (.inl (o11,w64 (t18 + 1)))
 else
  some (.inr v)
def qpv:Option ((waB)):=loop (fun (zz:waB×Int) => qqR t16 t17 zz.1 zz.2) (v,t18)
theorem qvX {y:(waB×Int)⊕((waB))} (h:qqR t16 t17 v t18 = some y) :
  Sat Pg GE 1000 (cA b81 55) (LQ (fun (zz:waB×Int) => qfU t t16 t17 zz.1 zz.2) (fun _ => .exit 0) (qlx t) y) (qfU t t16 t17 v t18):=by
 rcases ifs h with ⟨c2,h⟩ | ⟨c2,h⟩
 ·obtain ⟨x3,bx3,h⟩:=bnd h
  obtain ⟨r4,br4,h⟩:=bnd h
  obtain ⟨o11,bo11,h⟩:=bnd h
  obtain rfl:=lf h
  have z:=sg 0 c2 <| sv (sT29.ia (k := .i64) bx3) <| sv (qaj x3) <| sx pz31 <| sx (qaB x3) <| sv (qax x3 []) <| sca (qoM br4) <| svn (sT29.ln r4) <| spc (qxJ t t16 t17 t18 r4 (r4.length:Int) x3.Op x3.Name x3.N x3.Kids v 0 bo11) <| eFx 1000 .normal (qfU t t16 t17 o11 (w64 (t18 + 1))) rfl (qbn (aI (up (qad clS o11)) (aI (qbw (qaf t)) (aI (up (qad qab t16)) (aI trivial (aI trivial trivial)))))) (aI trivial trivial)
  exact qa5 (A:=A81) mixed z (by kernel_rfl)
 ·obtain rfl:=lf h
  have z:=sg 0 c2 <| eF (.exit 0) (qlx t v)
  exact ovZ A81 (by intro hx; cases hx) z (by kernel_rfl)
theorem qxq {x:(waB)} (h:qpv t16 t17 v t18 = some x) :
  Sat Pg GE 1000 (.loop (cA b81 55)) (EX (.exit 0) (qlx t x)) (qfU t t16 t17 v t18) :=
 Sat.loop (S:=fun (zz:waB×Int) => qfU t t16 t17 zz.1 zz.2) (ex:=(fun _ => .exit 0)) (s:=(v,t18)) h fun zz y hy => qvX t t16 t17 zz.1 zz.2 hy
end
section
variable (R162:qmO) (t42:waC) (t43:Int) (v:waB) (t44:Int)
def qfQ:PSt:=stt 53 [(1,sl cS v),(42,sl qac t42),(43,.int .i64 t43),(44,.int .i64 t44)] [.dead] [((1,0),9)]
def qlR (o:waB):PSt:=stt 53 [(1,sl cS o)] [.dead] [((1,0),9)]
def qq8:Option ((waB×Int)⊕((waB))) :=
 if (decide (t44 < t43)) = true then
  (idx t42 t44).bind fun x14 =>
  (R162 x14 v).bind fun r15 =>
  some (.inl (r15,w64 (t44 + 1)))
 else
  some (.inr v)
def qoJ:Option ((waB)):=loop (fun (zz:waB×Int) => qq8 R162 t42 t43 zz.1 zz.2) (v,t44)
theorem qv2 (hR162:qrk R162) {y:(waB×Int)⊕((waB))} (h:qq8 R162 t42 t43 v t44 = some y) :
  Sat Pg GE 1000 (cA b81 119) (LQ (fun (zz:waB×Int) => qfQ t42 t43 zz.1 zz.2) (fun _ => .exit 4) (qlR) y) (qfQ t42 t43 v t44):=by
 rcases ifs h with ⟨c13,h⟩ | ⟨c13,h⟩
 ·obtain ⟨x14,bx14,h⟩:=bnd h
  obtain ⟨r15,br15,h⟩:=bnd h
  obtain rfl:=lf h
  have z:=sg 0 c13 <| sv (sT27.ia (k := .i64) bx14) <| sv (qaN x14) <| sx pz33 <| sx (qbI x14) <| sv (qa3 x14 []) <| si (.cg ⟨[],[.agg (qac x14),sl cS v],[⟨1,49,0,9⟩],[],[],[],[],sl cS r15,sl cS r15,[(0,9)]⟩) (hR162 _ _ _ br15) <| sf (aI (xR [] (.agg (qac x14)) (qaf x14)) (aI (xR [] (sl cS v) (qad clS v)) trivial)) <| sf trivial <| sf trivial <| sf (xR [] (sl cS r15) (qad clS r15)) <| eFx 1000 .normal (qfQ t42 t43 r15 (w64 (t44 + 1))) rfl (qbn (aI (up (qad clS r15)) (aI (up (qad qaf t42)) (aI trivial (aI trivial trivial))))) (aI trivial trivial)
  exact qa5 (A:=A81) mixed z (by kernel_rfl)
 ·obtain rfl:=lf h
  have z:=sg 0 c13 <| eF (.exit 4) (qlR v)
  exact ovZ A81 (by intro hx; cases hx) z (by kernel_rfl)
theorem qxB (hR162:qrk R162) {x:(waB)} (h:qoJ R162 t42 t43 v t44 = some x) :
  Sat Pg GE 1000 (.loop (cA b81 119)) (EX (.exit 4) (qlR x)) (qfQ t42 t43 v t44) :=
 Sat.loop (S:=fun (zz:waB×Int) => qfQ t42 t43 zz.1 zz.2) (ex:=(fun _ => .exit 4)) (s:=(v,t44)) h fun zz y hy => qv2 R162 t42 t43 zz.1 zz.2 hR162 hy
end
def qnm (R162:qmO) (t:tType) (a:waB):Option (waB) :=
 (app ([t.Pred]:List tPred) t.Preds).bind fun l1 =>
 (qpv l1 (l1.length:Int) a 0).bind fun o12 =>
 (qoJ R162 t.Args (t.Args.length:Int) o12 0).bind fun o16 =>
 some o16
theorem qAR (R162:qmO) (hR162:qrk R162) {t:tType} {a:waB} {r:waB} (h:qnm R162 t a = some r):C Pg GE 81 [.agg (qac t),sl cS a] [((1,0),9)] [] (sl cS r) [(0,9)] []:=by
 obtain ⟨l1,bl1,h⟩:=bnd h
 obtain ⟨o12,bo12,h⟩:=bnd h
 obtain ⟨o16,bo16,h⟩:=bnd h
 obtain rfl:=lf h
 have z:=se (qbj t) <| sv (qbg t) <| sv (qba t) <| sv (sT29.mk' (v:=qbk) qaL ([t.Pred]:List tPred) 1 (by kernel_rfl)) <| sv (qaQ t) <| sv (qaP t) <| sv (sT29.ap bl1) <| svn (sT29.ln l1) <| spc (qxq t l1 (l1.length:Int) a 0 bo12) <| sv (qaq t) <| sv (qap t) <| svn (sT27.ln t.Args) <| spc (qxB R162 t.Args (t.Args.length:Int) o12 0 hR162 bo16) <| en (aI (rP (sl cS o16)) <| aI (up (n:=0) (qad clS o16)) <| aI (rL []) <| trivial)
 exact C.evGp (A:=A81) mixed (m:=1000) (c:=b81) rfl Tryz.call81 Tryz.func81 rfl z (by kernel_rfl)
def qry:((tType×waB)→Option (waB))→(tType×waB)→Option (waB):=fun (rec:(tType×waB)→Option (waB)) (x:tType×waB) => qnm (fun t a => rec (t,a)) x.1 x.2
def qw0 (t:tType) (a:waB):Option (waB):=fixE (qry) (t,a)
theorem qCk {t:tType} {a:waB} {r:waB} (h:qw0 t a = some r):C Pg GE 81 [.agg (qac t),sl cS a] [((1,0),9)] [] (sl cS r) [(0,9)] [] :=
 qbo (F:=qry) (M:=fun (x:tType×waB) (r:waB) => C Pg GE 81 [.agg (qac x.1),sl cS x.2] [((1,0),9)] [] (sl cS r) [(0,9)] []) (fun rec hrec x r h => qAR _ (fun t a r h => hrec (t,a) r h) h) h
noncomputable def b34:Code:=Tryz.f34.body.getD .skip
def A34:List Nat:=[]
def qsw (t:tType):Option (waB) :=
 (qw0 t ([]:List Str)).bind fun r1 =>
 some r1
theorem qCg {t:tType} {r:waB} (h:qsw t = some r):CC Pg GE 34 [.agg (qac t)] (sl cS r) [(0,9)]:=by
 obtain ⟨r1,br1,h⟩:=bnd h
 obtain rfl:=lf h
 have z:=se (qbj t) <| sv (qaN t) <| si (.cg ⟨[],[.agg (qac t),sl cS ([]:List Str)],[⟨1,1000000,0,9⟩],[],[],[],[],sl cS r1,sl cS r1,[(0,9)]⟩) (qCk br1) <| sf (aI (xR [] (.agg (qac t)) (qaf t)) (aI (xR [] (sl cS ([]:List Str)) (qad clS ([]:List Str))) trivial)) <| sf trivial <| sf trivial <| sf (xR [] (sl cS r1) (qad clS r1)) <| en (aI (rP (sl cS r1)) <| (qad clS r1))
 exact cvZ A34 Tryz.call34 Tryz.func34 (c:=b34) rfl (aI (qaf t) trivial) z (by kernel_rfl)
abbrev qpA:=(tType→tType→Option (Bool))
abbrev que (R:qpA):Prop := ∀ (a:tType) (a2:tType) (r:Bool),R a a2 = some r→CC Pg GE 35 [.agg (qac a),.agg (qac a2)] (.bool r) []
noncomputable def b35:Code:=Tryz.f35.body.getD .skip
def A35:List Nat:=[32]
section
variable (v:tType) (v2:tType)
def qAe:PSt:=stt 46 [(2,.eptr (qac v)),(3,.eptr (qac v2))] [.dead,.dead] []
def qjP (o:Bool):PSt:=stt 46 [(2,.eptr (qac v)),(3,.eptr (qac v2)),(26,.bool o)] [.dead,.dead] []
def qse:Option ((Bool)) :=
 if (v.Op != v2.Op) = true then
  some true
 else
  if (!(v.Name == v2.Name)) = true then
   some true
  else
   some ((v.Args.length:Int) != (v2.Args.length:Int))
theorem qyy {x:(Bool)} (h:qse v v2 = some x) :
  Sat Pg GE 0 (cA b35 12) (EX .normal (qjP v v2 x)) (qAe v v2):=by
 have p2:=fun {sc F} (r:PS sc F) => sv (qam v) <| sv (qal v) <| sv (qam v2) <| sv (qal v2) <| r
 rcases ifs h with ⟨c1,h⟩ | ⟨c1,h⟩
 ·obtain rfl:=lf h
  have z:=p2 <| sg 6 c1 <| eF .normal (qjP v v2 true)
  exact pcZ A35 z (by kernel_rfl)
 ·have p4:=fun {sc F} (r:PS sc F) => p2 <| sg 6 c1 <| sv (qbs v) <| sv (qbC v) <| sv (qbs v2) <| sv (qbC v2) <| r
  rcases ifs h with ⟨c3,h⟩ | ⟨c3,h⟩
  ·obtain rfl:=lf h
   have z:=p4 <| sg 13 c3 <| eF .normal (qjP v v2 true)
   exact pcZ A35 z (by kernel_rfl)
  ·obtain rfl:=lf h
   have z:=p4 <| sg 13 c3 <| sv (qaq v) <| sv (qap v) <| svn (sT27.ln v.Args) <| sv (qaq v2) <| sv (qap v2) <| svn (sT27.ln v2.Args) <| eF .normal (qjP v v2 ((v.Args.length:Int) != (v2.Args.length:Int)))
   exact pcZ A35 z (by kernel_rfl)
end
section
variable (R163:qpA) (v:tType) (v2:tType) (t29:Int) (t30:Int)
def qgU:PSt:=stt 46 [(2,.eptr (qac v)),(3,.eptr (qac v2)),(29,.int .i64 t29),(30,.int .i64 t30)] [.dead,.dead] []
def qgR (o:(Unit)⊕(Unit)):Exit:=match o with
 | (.inl _) => .ret
 | (.inr _) => .exit 0
def qfo (o:(Unit)⊕(Unit)):PSt:=match o with
 | (.inl o) => stt 46 [(4,.bool false)] [.dead,.dead] []
 | (.inr o) => stt 46 [] [.dead,.dead] []
def qnd:Option ((Int)⊕((Unit)⊕(Unit))) :=
 if (decide (t30 < t29)) = true then
  (idx v.Args t30).bind fun x9 =>
  (idx v2.Args t30).bind fun x10 =>
  (R163 x9 x10).bind fun r11 =>
  if (!r11) = true then
   some (.inr (.inl ()))
  else
   some (.inl (w64 (t30 + 1)))
 else
  some (.inr (.inr ()))
def qrT:Option ((Unit)⊕(Unit)):=loop (fun (zz:Int) => qnd R163 v v2 t29 zz) t30
theorem qx0 (hR163:que R163) {y:(Int)⊕((Unit)⊕(Unit))} (h:qnd R163 v v2 t29 t30 = some y) :
  Sat Pg GE 0 (cA b35 119) (LQ (fun (zz:Int) => qgU v v2 t29 zz) qgR (qfo) y) (qgU v v2 t29 t30):=by
 rcases ifs h with ⟨c8,h⟩ | ⟨c8,h⟩
 ·obtain ⟨x9,bx9,h⟩:=bnd h
  obtain ⟨x10,bx10,h⟩:=bnd h
  obtain ⟨r11,br11,h⟩:=bnd h
  have p13:=fun {sc F} (r:PS sc F) => sg 0 c8 <| sdr [0,1,0,7,15,0,32,0,224,480,1023,2047] <| sv (qaq v) <| sv (qap v) <| sv (sT27.ia (k := .i64) bx9) <| sv (qaN x9) <| sv (qaq v2) <| sv (qap v2) <| sv (sT27.ia (k := .i64) bx10) <| sv (qaN x10) <| sca (hR163 _ _ _ br11) <| r
  rcases ifs h with ⟨c12,h⟩ | ⟨c12,h⟩
  ·obtain rfl:=lf h
   have z:=p13 <| sg 0 c12 <| eF (qgR (.inl ())) (qfo (.inl ()))
   exact ovZ A35 (by intro hx; cases hx) z (by kernel_rfl)
  ·obtain rfl:=lf h
   have z:=p13 <| sg 0 c12 <| eF .normal (qgU v v2 t29 (w64 (t30 + 1)))
   exact nxZ A35 z (by kernel_rfl)
 ·obtain rfl:=lf h
  have z:=sg 0 c8 <| eF (qgR (.inr ())) (qfo (.inr ()))
  exact ovZ A35 (by intro hx; cases hx) z (by kernel_rfl)
theorem qqL (hR163:que R163) {x:(Unit)⊕(Unit)} (h:qrT R163 v v2 t29 t30 = some x) :
  Sat Pg GE 0 (.loop (cA b35 119)) (EX (qgR x) (qfo x)) (qgU v v2 t29 t30) :=
 Sat.loop (S:=fun (zz:Int) => qgU v v2 t29 zz) (ex:=qgR) (s:=t30) h fun zz y hy => qx0 R163 v v2 t29 zz hR163 hy
end
def qpZ (R163:qpA) (a:tType) (a2:tType):Option (Bool) :=
 (qse a a2).bind fun o5 =>
 if o5 = true then
  some false
 else
  (qrT R163 a a2 (a.Args.length:Int) 0).bind fun o14 => match o14 with
  | (.inl o14) =>
   some false
  | (.inr o14) =>
   some true
theorem qCH (R163:qpA) (hR163:que R163) {a:tType} {a2:tType} {r:Bool} (h:qpZ R163 a a2 = some r):CC Pg GE 35 [.agg (qac a),.agg (qac a2)] (.bool r) []:=by
 obtain ⟨o5,bo5,h⟩:=bnd h
 have p7:=fun {sc F} (r:PS sc F) => se (qbj a) <| se (qbj a2) <| spa 1 <| spc (qyy a a2 bo5) <| r
 rcases ifs h with ⟨c6,h⟩ | ⟨c6,h⟩
 ·obtain rfl:=lf h
  have z:=p7 <| sg 0 c6 <| en (aI (rP (.bool false)) <| trivial)
  exact cvZ A35 Tryz.call35 Tryz.func35 (c:=b35) rfl (aI (qaf a) (aI (qaf a2) trivial)) z (by kernel_rfl)
 ·obtain ⟨o14,bo14,h⟩:=bnd h
  rcases o14 with o14 | o14
  ·obtain rfl:=lf h
   have z:=p7 <| sg 0 c6 <| sv (qaq a) <| sv (qap a) <| svn (sT27.ln a.Args) <| spc (e := .ret) (s1:=qfo (.inl o14)) (qqL R163 a a2 (a.Args.length:Int) 0 hR163 bo14) <| en (aI (rP (.bool false)) <| trivial)
   exact cvZ A35 Tryz.call35 Tryz.func35 (c:=b35) rfl (aI (qaf a) (aI (qaf a2) trivial)) z (by kernel_rfl)
  ·obtain rfl:=lf h
   have z:=p7 <| sg 0 c6 <| sv (qaq a) <| sv (qap a) <| svn (sT27.ln a.Args) <| spc (e := .exit 0) (s1:=qfo (.inr o14)) (qqL R163 a a2 (a.Args.length:Int) 0 hR163 bo14) <| en (aI (rP (.bool true)) <| trivial)
   exact cvZ A35 Tryz.call35 Tryz.func35 (c:=b35) rfl (aI (qaf a) (aI (qaf a2) trivial)) z (by kernel_rfl)
def quY:((tType×tType)→Option (Bool))→(tType×tType)→Option (Bool):=fun (rec:(tType×tType)→Option (Bool)) (x:tType×tType) => qpZ (fun a a2 => rec (a,a2)) x.1 x.2
def qwm (a:tType) (a2:tType):Option (Bool):=fixE (quY) (a,a2)
theorem qEy {a:tType} {a2:tType} {r:Bool} (h:qwm a a2 = some r):CC Pg GE 35 [.agg (qac a),.agg (qac a2)] (.bool r) [] :=
 qbo (F:=quY) (M:=fun (x:tType×tType) (r:Bool) => CC Pg GE 35 [.agg (qac x.1),.agg (qac x.2)] (.bool r) []) (fun rec hrec x r h => qCH _ (fun a a2 r h => hrec (a,a2) r h) h) h
abbrev qp2:=(tType→waD→waG→Option (tType))
abbrev qt7 (R:qp2):Prop := ∀ (t:tType) (holes:waD) (a:waG) (r:tType),R t holes a = some r→CC Pg GE 36 [.agg (qac t),sl qas holes,sl qcD a] (.agg (qac r)) [(2,33),(8,31)]
abbrev qqb:=(tPred→waD→waG→Option (tPred))
abbrev qus (R:qqb):Prop := ∀ (p:tPred) (holes:waD) (a:waG) (r:tPred),R p holes a = some r→CC Pg GE 82 [.agg (qaa p),sl qas holes,sl qcD a] (.agg (qaa r)) []
end Go.Proofs.YtgldgpdhblndkaaGreatDoor
