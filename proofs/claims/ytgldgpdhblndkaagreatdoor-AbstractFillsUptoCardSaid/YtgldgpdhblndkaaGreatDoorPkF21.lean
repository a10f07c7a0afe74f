/- WHAT IS PROVED: parts of the proof, put together by a program (G11 G12 G7 G8). Conditions: none. -/
import Derived.Test.YtgldgpdhblndkaaGreatDoorPkF20
noncomputable section
namespace Go.Proofs.YtgldgpdhblndkaaGreatDoor
open Go
set_option linter.unusedVariables false
set_option maxRecDepth 100000
noncomputable def b45:Code:=Tryz.f45.body.getD .skip
def A45:List Nat:=[18]
section
variable (R86:qmz) (t7:waC) (t8:Int) (k:Int) (t9:Int)
def qfW:PSt:=stt 19 [(3,.int .i64 k),(7,sl qac t7),(8,.int .i64 t8),(9,.int .i64 t9)] [.dead] []
def qlP (o:Int):PSt:=stt 19 [(3,.int .i64 o)] [.dead] []
def qqA:Option ((Int×Int)⊕((Int))) :=
 if (decide (t9 < t8)) = true then
  (idx t7 t9).bind fun x2 =>
  (R86 x2).bind fun r3 =>
  some (.inl (w64 (k + r3),w64 (t9 + 1)))
 else
  some (.inr k)
def qpf:Option ((Int)):=loop (fun (zz:Int×Int) => qqA R86 t7 t8 zz.1 zz.2) (k,t9)
theorem qvU (hR86:qrU R86) {y:(Int×Int)⊕((Int))} (h:qqA R86 t7 t8 k t9 = some y) :
  Sat Pg GE 0 (cA b45 119) (LQ (fun (zz:Int×Int) => qfW t7 t8 zz.1 zz.2) (fun _ => .exit 0) (qlP) y) (qfW t7 t8 k t9):=by
 rcases ifs h with ⟨c1,h⟩ | ⟨c1,h⟩
 ·obtain ⟨x2,bx2,h⟩:=bnd h
  obtain ⟨r3,br3,h⟩:=bnd h
  obtain rfl:=lf h
  have z:=sg 0 c1 <| sv (sT27.ia (k := .i64) bx2) <| sv (qaN x2) <| sx pz33 <| sx (qbI x2) <| sv (qa3 x2 []) <| sca (hR86 _ _ br3) <| eFx 0 .normal (qfW t7 t8 (w64 (k + r3)) (w64 (t9 + 1))) rfl (qbn (aI trivial (aI (up (qad qaf t7)) (aI trivial (aI trivial trivial))))) (aI trivial trivial)
  exact qa5 (A:=A45) mixed z (by kernel_rfl)
 ·obtain rfl:=lf h
  have z:=sg 0 c1 <| eF (.exit 0) (qlP k)
  exact ovZ A45 (by intro hx; cases hx) z (by kernel_rfl)
theorem qyo (hR86:qrU R86) {x:(Int)} (h:qpf R86 t7 t8 k t9 = some x) :
  Sat Pg GE 0 (.loop (cA b45 119)) (EX (.exit 0) (qlP x)) (qfW t7 t8 k t9) :=
 Sat.loop (S:=fun (zz:Int×Int) => qfW t7 t8 zz.1 zz.2) (ex:=(fun _ => .exit 0)) (s:=(k,t9)) h fun zz y hy => qvU R86 t7 t8 zz.1 zz.2 hR86 hy
end
def qmv (R86:qmz) (t:tType):Option (Int) :=
 (qpf R86 t.Args (t.Args.length:Int) 1 0).bind fun o4 =>
 some o4
theorem qBi (R86:qmz) (hR86:qrU R86) {t:tType} {r:Int} (h:qmv R86 t = some r):CC Pg GE 45 [.agg (qac t)] (.int .i64 r) []:=by
 obtain ⟨o4,bo4,h⟩:=bnd h
 obtain rfl:=lf h
 have z:=se (qbj t) <| sv (qaq t) <| sv (qap t) <| svn (sT27.ln t.Args) <| spc (qyo R86 t.Args (t.Args.length:Int) 1 0 hR86 bo4) <| en (aI (rP (.int .i64 o4)) <| trivial)
 exact cvZ A45 Tryz.call45 Tryz.func45 (c:=b45) rfl (aI (qaf t) trivial) z (by kernel_rfl)
def qrP:((tType)→Option (Int))→(tType)→Option (Int):=fun (rec:tType→Option (Int)) (x:tType) => qmv (fun t => rec t) x
def qxZ (t:tType):Option (Int):=fixE (qrP) t
theorem qCs {t:tType} {r:Int} (h:qxZ t = some r):CC Pg GE 45 [.agg (qac t)] (.int .i64 r) [] :=
 qbo (F:=qrP) (M:=fun (x:tType) (r:Int) => CC Pg GE 45 [.agg (qac x)] (.int .i64 r) []) (fun rec hrec x r h => qBi _ (fun t r h => hrec t r h) h) h
abbrev qnl:=(tPred→Option (Int))
abbrev qrd (R:qnl):Prop := ∀ (p:tPred) (r:Int),R p = some r→CC Pg GE 21 [.agg (qaa p)] (.int .i64 r) []
noncomputable def b21:Code:=Tryz.f21.body.getD .skip
def A21:List Nat:=[18]
section
variable (R88:qnl) (t7:waA) (t8:Int) (n:Int) (t9:Int)
def qfL:PSt:=stt 19 [(3,.int .i64 n),(7,sl qaa t7),(8,.int .i64 t8),(9,.int .i64 t9)] [.dead] []
def qlK (o:Int):PSt:=stt 19 [(3,.int .i64 o)] [.dead] []
def qiM:Option ((Int×Int)⊕((Int))) :=
 if (decide (t9 < t8)) = true then
  (idx t7 t9).bind fun x2 =>
  (R88 x2).bind fun r3 =>
  some (.inl (w64 (n + r3),w64 (t9 + 1)))
 else
  some (.inr n)
def qpm:Option ((Int)):=loop (fun (zz:Int×Int) => qiM R88 t7 t8 zz.1 zz.2) (n,t9)
theorem qv4 (hR88:qrd R88) {y:(Int×Int)⊕((Int))} (h:qiM R88 t7 t8 n t9 = some y) :
  Sat Pg GE 0 (cA b21 119) (LQ (fun (zz:Int×Int) => qfL t7 t8 zz.1 zz.2) (fun _ => .exit 0) (qlK) y) (qfL t7 t8 n t9):=by
 rcases ifs h with ⟨c1,h⟩ | ⟨c1,h⟩
 ·obtain ⟨x2,bx2,h⟩:=bnd h
  obtain ⟨r3,br3,h⟩:=bnd h
  obtain rfl:=lf h
  have z:=sg 0 c1 <| sv (sT29.ia (k := .i64) bx2) <| sv (qaj x2) <| sx pz31 <| sx (qaB x2) <| sv (qax x2 []) <| sca (hR88 _ _ br3) <| eFx 0 .normal (qfL t7 t8 (w64 (n + r3)) (w64 (t9 + 1))) rfl (qbn (aI trivial (aI (up (qad qab t7)) (aI trivial (aI trivial trivial))))) (aI trivial trivial)
  exact qa5 (A:=A21) mixed z (by kernel_rfl)
 ·obtain rfl:=lf h
  have z:=sg 0 c1 <| eF (.exit 0) (qlK n)
  exact ovZ A21 (by intro hx; cases hx) z (by kernel_rfl)
theorem qyn (hR88:qrd R88) {x:(Int)} (h:qpm R88 t7 t8 n t9 = some x) :
  Sat Pg GE 0 (.loop (cA b21 119)) (EX (.exit 0) (qlK x)) (qfL t7 t8 n t9) :=
 Sat.loop (S:=fun (zz:Int×Int) => qfL t7 t8 zz.1 zz.2) (ex:=(fun _ => .exit 0)) (s:=(n,t9)) h fun zz y hy => qv4 R88 t7 t8 zz.1 zz.2 hR88 hy
end
def qmX (R88:qnl) (p:tPred):Option (Int) :=
 (qpm R88 p.Kids (p.Kids.length:Int) 1 0).bind fun o4 =>
 some o4
theorem qAu (R88:qnl) (hR88:qrd R88) {p:tPred} {r:Int} (h:qmX R88 p = some r):CC Pg GE 21 [.agg (qaa p)] (.int .i64 r) []:=by
 obtain ⟨o4,bo4,h⟩:=bnd h
 obtain rfl:=lf h
 have z:=se (qaE p) <| sv (qat p) <| sv (qav p) <| svn (sT29.ln p.Kids) <| spc (qyn R88 p.Kids (p.Kids.length:Int) 1 0 hR88 bo4) <| en (aI (rP (.int .i64 o4)) <| trivial)
 exact cvZ A21 Tryz.call21 Tryz.func21 (c:=b21) rfl (aI (qab p) trivial) z (by kernel_rfl)
def qsu:((tPred)→Option (Int))→(tPred)→Option (Int):=fun (rec:tPred→Option (Int)) (x:tPred) => qmX (fun p => rec p) x
def qn5 (p:tPred):Option (Int):=fixE (qsu) p
theorem qod {p:tPred} {r:Int} (h:qn5 p = some r):CC Pg GE 21 [.agg (qaa p)] (.int .i64 r) [] :=
 qbo (F:=qsu) (M:=fun (x:tPred) (r:Int) => CC Pg GE 21 [.agg (qaa x)] (.int .i64 r) []) (fun rec hrec x r h => qAu _ (fun p r h => hrec p r h) h) h
abbrev qmI:=(tPred→Option (Int))
abbrev qrp (R:qmI):Prop := ∀ (p:tPred) (r:Int),R p = some r→CC Pg GE 60 [.agg (qaa p)] (.int .i64 r) []
noncomputable def b60:Code:=Tryz.f60.body.getD .skip
def A60:List Nat:=[]
section
variable (R89:qmI) (t7:waA) (t8:Int) (n:Int) (t9:Int)
def qfT:PSt:=stt 20 [(3,.int .i64 n),(7,sl qaa t7),(8,.int .i64 t8),(9,.int .i64 t9)] [.dead] []
def qlS (o:Int):PSt:=stt 20 [(3,.int .i64 o)] [.dead] []
def qrc:Option ((Int×Int)⊕((Int))) :=
 if (decide (t9 < t8)) = true then
  (idx t7 t9).bind fun x2 =>
  (R89 x2).bind fun r3 =>
  some (.inl ((if r3 > n then r3 else n),w64 (t9 + 1)))
 else
  some (.inr n)
def qoB:Option ((Int)):=loop (fun (zz:Int×Int) => qrc R89 t7 t8 zz.1 zz.2) (n,t9)
theorem qv7 (hR89:qrp R89) {y:(Int×Int)⊕((Int))} (h:qrc R89 t7 t8 n t9 = some y) :
  Sat Pg GE 0 (cA b60 119) (LQ (fun (zz:Int×Int) => qfT t7 t8 zz.1 zz.2) (fun _ => .exit 0) (qlS) y) (qfT t7 t8 n t9):=by
 rcases ifs h with ⟨c1,h⟩ | ⟨c1,h⟩
 ·obtain ⟨x2,bx2,h⟩:=bnd h
  obtain ⟨r3,br3,h⟩:=bnd h
  obtain rfl:=lf h
  have z:=sg 0 c1 <| sv (sT29.ia (k := .i64) bx2) <| sv (qaj x2) <| sx pz31 <| sx (qaB x2) <| sv (qax x2 []) <| sca (hR89 _ _ br3) <| eFx 0 .normal (qfT t7 t8 (if r3 > n then r3 else n) (w64 (t9 + 1))) rfl (qbn (aI trivial (aI (up (qad qab t7)) (aI trivial (aI trivial trivial))))) (aI trivial trivial)
  exact qa5 (A:=A60) mixed z (by kernel_rfl)
 ·obtain rfl:=lf h
  have z:=sg 0 c1 <| eF (.exit 0) (qlS n)
  exact ovZ A60 (by intro hx; cases hx) z (by kernel_rfl)
theorem qxI (hR89:qrp R89) {x:(Int)} (h:qoB R89 t7 t8 n t9 = some x) :
  Sat Pg GE 0 (.loop (cA b60 119)) (EX (.exit 0) (qlS x)) (qfT t7 t8 n t9) :=
 Sat.loop (S:=fun (zz:Int×Int) => qfT t7 t8 zz.1 zz.2) (ex:=(fun _ => .exit 0)) (s:=(n,t9)) h fun zz y hy => qv7 R89 t7 t8 zz.1 zz.2 hR89 hy
end
def qmW (R89:qmI) (p:tPred):Option (Int) :=
 (qoB R89 p.Kids (p.Kids.length:Int) 0 0).bind fun o4 =>
 some (w64 (o4 + 1))
theorem qAF (R89:qmI) (hR89:qrp R89) {p:tPred} {r:Int} (h:qmW R89 p = some r):CC Pg GE 60 [.agg (qaa p)] (.int .i64 r) []:=by
 obtain ⟨o4,bo4,h⟩:=bnd h
 obtain rfl:=lf h
 have z:=se (qaE p) <| sv (qat p) <| sv (qav p) <| svn (sT29.ln p.Kids) <| spc (qxI R89 p.Kids (p.Kids.length:Int) 0 0 hR89 bo4) <| en (aI (rP (.int .i64 (w64 (o4 + 1)))) <| trivial)
 exact cvZ A60 Tryz.call60 Tryz.func60 (c:=b60) rfl (aI (qab p) trivial) z (by kernel_rfl)
def qsh:((tPred)→Option (Int))→(tPred)→Option (Int):=fun (rec:tPred→Option (Int)) (x:tPred) => qmW (fun p => rec p) x
def qpq (p:tPred):Option (Int):=fixE (qsh) p
theorem qoR {p:tPred} {r:Int} (h:qpq p = some r):CC Pg GE 60 [.agg (qaa p)] (.int .i64 r) [] :=
 qbo (F:=qsh) (M:=fun (x:tPred) (r:Int) => CC Pg GE 60 [.agg (qaa x)] (.int .i64 r) []) (fun rec hrec x r h => qAF _ (fun p r h => hrec p r h) h) h
noncomputable def b46:Code:=Tryz.f46.body.getD .skip
def A46:List Nat:=[]
def qtA (p:tPred):Option (Bool) :=
 (qn5 p).bind fun r1 =>
 if (decide (r1 ≤ 60)) = true then
  (qpq p).bind fun r4 =>
  some (decide (r4 ≤ 6))
 else
  some false
theorem qCa {p:tPred} {r:Bool} (h:qtA p = some r):CC Pg GE 46 [.agg (qaa p)] (.bool r) []:=by
 obtain ⟨r1,br1,h⟩:=bnd h
 have p3:=fun {sc F} (r:PS sc F) => se (qaE p) <| sv (qaj p) <| sca (qod br1) <| r
 rcases ifs h with ⟨c2,h⟩ | ⟨c2,h⟩
 ·obtain ⟨r4,br4,h⟩:=bnd h
  obtain rfl:=lf h
  have z:=p3 <| sg 4 c2 <| sv (qaj p) <| sca (qoR br4) <| en (aI (rP (.bool (decide (r4 ≤ 6)))) <| trivial)
  exact cvZ A46 Tryz.call46 Tryz.func46 (c:=b46) rfl (aI (qab p) trivial) z (by kernel_rfl)
 ·obtain rfl:=lf h
  have z:=p3 <| sg 4 c2 <| en (aI (rP (.bool false)) <| trivial)
  exact cvZ A46 Tryz.call46 Tryz.func46 (c:=b46) rfl (aI (qab p) trivial) z (by kernel_rfl)
noncomputable def b12:Code:=Tryz.f12.body.getD .skip
def A12:List Nat:=[]
section
variable (R85:qot) (t7:waC) (t8:Int) (t9:Int) (m:Int) (m2:Str) (m3:waC) (m4:waB) (m5:Int) (m6:Str) (m7:Int) (m8:waA) (m9:waA)
def qCb:PSt:=stt 50 [(4,.bptr 0 0),(7,sl qac t7),(8,.int .i64 t8),(9,.int .i64 t9)] [.cells [.int .i64 m,.str m2,sl qac m3,sl cS m4,.int .i64 m5,.str m6,.int .i64 m7,sl qaa m8,sl qaa m9] []] []
def qi6 (o:Bool):PSt:=stt 50 [(4,.bptr 0 0),(7,sl qac t7),(8,.int .i64 t8),(9,.int .i64 t9),(33,.bool o)] [.cells [.int .i64 m,.str m2,sl qac m3,sl cS m4,.int .i64 m5,.str m6,.int .i64 m7,sl qaa m8,sl qaa m9] []] []
def qt6:Option ((Bool)) :=
 (qxZ (⟨m,m2,m3,m4,(⟨m5,m6,m7,m8⟩:tPred),m9⟩:tType)).bind fun r3 =>
 if (decide (r3 > 40)) = true then
  some true
 else
  if (decide ((m4.length:Int) > 20)) = true then
   some true
  else
   if (decide ((m9.length:Int) > 20)) = true then
    some true
   else
    (R85 m3).bind fun r10 =>
    some (!r10)
theorem qAT (hR85:qtP R85) {x:(Bool)} (h:qt6 R85 m m2 m3 m4 m5 m6 m7 m8 m9 = some x) :
  Sat Pg GE 0 (cA b12 7148) (EX .normal (qi6 t7 t8 t9 m m2 m3 m4 m5 m6 m7 m8 m9 x)) (qCb t7 t8 t9 m m2 m3 m4 m5 m6 m7 m8 m9):=by
 obtain ⟨r3,br3,h⟩:=bnd h
 have p5:=fun {sc F} (r:PS sc F) => sv (qa3 (⟨m,m2,m3,m4,(⟨m5,m6,m7,m8⟩:tPred),m9⟩:tType) []) <| sca (qCs br3) <| r
 rcases ifs h with ⟨c4,h⟩ | ⟨c4,h⟩
 ·obtain rfl:=lf h
  have z:=p5 <| sg 4 c4 <| eF .normal (qi6 t7 t8 t9 m m2 m3 m4 m5 m6 m7 m8 m9 true)
  exact pcZ A12 z (by kernel_rfl)
 ·have p7:=fun {sc F} (r:PS sc F) => p5 <| sg 4 c4 <| ss <| svn (sT22.ln m4) <| r
  rcases ifs h with ⟨c6,h⟩ | ⟨c6,h⟩
  ·obtain rfl:=lf h
   have z:=p7 <| sg 10 c6 <| eF .normal (qi6 t7 t8 t9 m m2 m3 m4 m5 m6 m7 m8 m9 true)
   exact pcZ A12 z (by kernel_rfl)
  ·have p9:=fun {sc F} (r:PS sc F) => p7 <| sg 10 c6 <| ss <| svn (sT29.ln m9) <| r
   rcases ifs h with ⟨c8,h⟩ | ⟨c8,h⟩
   ·obtain rfl:=lf h
    have z:=p9 <| sg 16 c8 <| eF .normal (qi6 t7 t8 t9 m m2 m3 m4 m5 m6 m7 m8 m9 true)
    exact pcZ A12 z (by kernel_rfl)
   ·obtain ⟨r10,br10,h⟩:=bnd h
    obtain rfl:=lf h
    have z:=p9 <| sg 16 c8 <| ss <| sca (hR85 _ _ br10) <| eF .normal (qi6 t7 t8 t9 m m2 m3 m4 m5 m6 m7 m8 m9 (!r10))
    exact pcZ A12 z (by kernel_rfl)
end
section
variable (t7:waC) (t8:Int) (t9:Int) (t39:waA) (t40:Int) (m:Int) (m2:Str) (m3:waC) (m4:waB) (m5:Int) (m6:Str) (m7:Int) (m8:waA) (m9:waA) (t41:Int)
def qiU:PSt:=stt 50 [(7,sl qac t7),(8,.int .i64 t8),(9,.int .i64 t9),(39,sl qaa t39),(40,.int .i64 t40),(41,.int .i64 t41)] [.cells [.int .i64 m,.str m2,sl qac m3,sl cS m4,.int .i64 m5,.str m6,.int .i64 m7,sl qaa m8,sl qaa m9] []] [((39,0),31)]
def qji (o:(Unit)⊕(Unit)):Exit:=match o with
 | (.inl _) => .ret
 | (.inr _) => .exit 2
def qgF (o:(Unit)⊕(Unit)):PSt:=match o with
 | (.inl o) => stt 50 [(2,.bool false)] [.cells [.int .i64 m,.str m2,sl qac m3,sl cS m4,.int .i64 m5,.str m6,.int .i64 m7,sl qaa m8,sl qaa m9] []] []
 | (.inr o) => stt 50 [(7,sl qac t7),(8,.int .i64 t8),(9,.int .i64 t9)] [.cells [.int .i64 m,.str m2,sl qac m3,sl cS m4,.int .i64 m5,.str m6,.int .i64 m7,sl qaa m8,sl qaa m9] []] []
def qvy:Option ((Int)⊕((Unit)⊕(Unit))) :=
 if (decide (t41 < t40)) = true then
  (idx t39 t41).bind fun x16 =>
  (qtA x16).bind fun r17 =>
  if (!r17) = true then
   some (.inr (.inl ()))
  else
   some (.inl (w64 (t41 + 1)))
 else
  some (.inr (.inr ()))
def qu9:Option ((Unit)⊕(Unit)):=loop (fun (zz:Int) => qvy t39 t40 zz) t41
theorem qy7 {y:(Int)⊕((Unit)⊕(Unit))} (h:qvy t39 t40 t41 = some y) :
  Sat Pg GE 0 (cA b12 28607) (LQ (fun (zz:Int) => qiU t7 t8 t9 t39 t40 m m2 m3 m4 m5 m6 m7 m8 m9 zz) qji (qgF t7 t8 t9 m m2 m3 m4 m5 m6 m7 m8 m9) y) (qiU t7 t8 t9 t39 t40 m m2 m3 m4 m5 m6 m7 m8 m9 t41):=by
 rcases ifs h with ⟨c15,h⟩ | ⟨c15,h⟩
 ·obtain ⟨x16,bx16,h⟩:=bnd h
  obtain ⟨r17,br17,h⟩:=bnd h
  have p19:=fun {sc F} (r:PS sc F) => sg 0 c15 <| sv (sT29.ia (k := .i64) bx16) <| sv (qaj x16) <| sx pz31 <| sx (qaB x16) <| sv (qax x16 []) <| sca (qCa br17) <| r
  rcases ifs h with ⟨c18,h⟩ | ⟨c18,h⟩
  ·obtain rfl:=lf h
   have z:=p19 <| sg 0 c18 <| eFx 0 (qji (.inl ())) (qgF t7 t8 t9 m m2 m3 m4 m5 m6 m7 m8 m9 (.inl ())) rfl (qbn (aI trivial trivial)) (aI (aI trivial (aI trivial (aI (up (qad qaf m3)) (aI (up (qad clS m4)) (aI trivial (aI trivial (aI trivial (aI (up (qad qab m8)) (aI (up (qad qab m9)) trivial))))))))) trivial)
   exact qhP (A:=A12) mixed (by intro hx; cases hx) z (by kernel_rfl)
  ·obtain rfl:=lf h
   have z:=p19 <| sg 0 c18 <| eFx 0 .normal (qiU t7 t8 t9 t39 t40 m m2 m3 m4 m5 m6 m7 m8 m9 (w64 (t41 + 1))) rfl (qbn (aI (up (qad qaf t7)) (aI trivial (aI trivial (aI (up (qad qab t39)) (aI trivial (aI trivial trivial))))))) (aI (aI trivial (aI trivial (aI (up (qad qaf m3)) (aI (up (qad clS m4)) (aI trivial (aI trivial (aI trivial (aI (up (qad qab m8)) (aI (up (qad qab m9)) trivial))))))))) trivial)
   exact qa5 (A:=A12) mixed z (by kernel_rfl)
 ·obtain rfl:=lf h
  have z:=sg 0 c15 <| eF (qji (.inr ())) (qgF t7 t8 t9 m m2 m3 m4 m5 m6 m7 m8 m9 (.inr ()))
  exact ovZ A12 (by intro hx; cases hx) z (by kernel_rfl)
theorem qtE {x:(Unit)⊕(Unit)} (h:qu9 t39 t40 t41 = some x) :
  Sat Pg GE 0 (.loop (cA b12 28607)) (EX (qji x) (qgF t7 t8 t9 m m2 m3 m4 m5 m6 m7 m8 m9 x)) (qiU t7 t8 t9 t39 t40 m m2 m3 m4 m5 m6 m7 m8 m9 t41) :=
 Sat.loop (S:=fun (zz:Int) => qiU t7 t8 t9 t39 t40 m m2 m3 m4 m5 m6 m7 m8 m9 zz) (ex:=qji) (s:=t41) h fun zz y hy => qy7 t7 t8 t9 t39 t40 m m2 m3 m4 m5 m6 m7 m8 m9 zz hy
end
section
variable (R85:qot) (t7:waC) (t8:Int) (t9:Int)
def qiR:PSt:=stt 50 [(7,sl qac t7),(8,.int .i64 t8),(9,.int .i64 t9)] [] []
def qgC (o:(Unit)⊕(Unit)):Exit:=match o with
 | (.inl _) => .ret
 | (.inr _) => .exit 0
def qeQ (o:(Unit)⊕(Unit)):PSt:=match o with
 | (.inl o) => stt 50 [(2,.bool false)] [] []
 | (.inr o) => stt 50 [] [] []
def qvv:Option ((Int)⊕((Unit)⊕(Unit))) :=
 if (decide (t9 < t8)) = true then
  (idx t7 t9).bind fun x2 =>
  (qt6 R85 x2.Op x2.Name x2.Args x2.Names x2.Pred.Op x2.Pred.Name x2.Pred.N x2.Pred.Kids x2.Preds).bind fun o11 =>
  if o11 = true then
   some (.inr (.inl ()))
  else
   (app ([x2.Pred]:List tPred) x2.Preds).bind fun l14 =>
   (qu9 l14 (l14.length:Int) 0).bind fun o20 => match o20 with
   | (.inl o20) =>
    some (.inr (.inl ()))
   | (.inr o20) =>
    some (.inl (w64 (t9 + 1)))
 else
  some (.inr (.inr ()))
def quq:Option ((Unit)⊕(Unit)):=loop (fun (zz:Int) => qvv R85 t7 t8 zz) t9
theorem qyq (hR85:qtP R85) {y:(Int)⊕((Unit)⊕(Unit))} (h:qvv R85 t7 t8 t9 = some y) :
  Sat Pg GE 0 (cA b12 55) (LQ (fun (zz:Int) => qiR t7 t8 zz) qgC (qeQ) y) (qiR t7 t8 t9):=by
 rcases ifs h with ⟨c1,h⟩ | ⟨c1,h⟩
 ·obtain ⟨x2,bx2,h⟩:=bnd h
  obtain ⟨o11,bo11,h⟩:=bnd h
  have p13:=fun {sc F} (r:PS sc F) => sg 0 c1 <| sv (sT27.ia (k := .i64) bx2) <| sv (qaN x2) <| sx pz33 <| sx (qbI x2) <| spa 1 <| spc (qAT R85 t7 t8 t9 x2.Op x2.Name x2.Args x2.Names x2.Pred.Op x2.Pred.Name x2.Pred.N x2.Pred.Kids x2.Preds hR85 bo11) <| r
  rcases ifs h with ⟨c12,h⟩ | ⟨c12,h⟩
  ·obtain rfl:=lf h
   have z:=p13 <| sg 0 c12 <| eFx 0 (qgC (.inl ())) (qeQ (.inl ())) rfl (qbn (aI trivial trivial)) trivial
   exact qhP (A:=A12) mixed (by intro hx; cases hx) z (by kernel_rfl)
  ·obtain ⟨l14,bl14,h⟩:=bnd h
   obtain ⟨o20,bo20,h⟩:=bnd h
   rcases o20 with o20 | o20
   ·obtain rfl:=lf h
    have z:=p13 <| sg 0 c12 <| sv (qax x2.Pred [sl qaa x2.Preds]) <| sv (sT29.mk' (v:=qbk) qaL ([x2.Pred]:List tPred) 1 (by kernel_rfl)) <| ss <| sv (sT29.ap bl14) <| svn (sT29.ln l14) <| spc (e := .ret) (s1:=qgF t7 t8 t9 x2.Op x2.Name x2.Args x2.Names x2.Pred.Op x2.Pred.Name x2.Pred.N x2.Pred.Kids x2.Preds (.inl o20)) (qtE t7 t8 t9 l14 (l14.length:Int) x2.Op x2.Name x2.Args x2.Names x2.Pred.Op x2.Pred.Name x2.Pred.N x2.Pred.Kids x2.Preds 0 bo20) <| eFx 0 (qgC (.inl ())) (qeQ (.inl ())) rfl (qbn (aI trivial trivial)) trivial
    exact qhP (A:=A12) mixed (by intro hx; cases hx) z (by kernel_rfl)
   ·obtain rfl:=lf h
    have z:=p13 <| sg 0 c12 <| sv (qax x2.Pred [sl qaa x2.Preds]) <| sv (sT29.mk' (v:=qbk) qaL ([x2.Pred]:List tPred) 1 (by kernel_rfl)) <| ss <| sv (sT29.ap bl14) <| svn (sT29.ln l14) <| spc (e := .exit 2) (s1:=qgF t7 t8 t9 x2.Op x2.Name x2.Args x2.Names x2.Pred.Op x2.Pred.Name x2.Pred.N x2.Pred.Kids x2.Preds (.inr o20)) (qtE t7 t8 t9 l14 (l14.length:Int) x2.Op x2.Name x2.Args x2.Names x2.Pred.Op x2.Pred.Name x2.Pred.N x2.Pred.Kids x2.Preds 0 bo20) <| eFx 0 .normal (qiR t7 t8 (w64 (t9 + 1))) rfl (qbn (aI (up (qad qaf t7)) (aI trivial (aI trivial trivial)))) trivial
    exact qa5 (A:=A12) mixed z (by kernel_rfl)
 ·obtain rfl:=lf h
  have z:=sg 0 c1 <| eF (qgC (.inr ())) (qeQ (.inr ()))
  exact ovZ A12 (by intro hx; cases hx) z (by kernel_rfl)
theorem qsA (hR85:qtP R85) {x:(Unit)⊕(Unit)} (h:quq R85 t7 t8 t9 = some x) :
  Sat Pg GE 0 (.loop (cA b12 55)) (EX (qgC x) (qeQ x)) (qiR t7 t8 t9) :=
 Sat.loop (S:=fun (zz:Int) => qiR t7 t8 zz) (ex:=qgC) (s:=t9) h fun zz y hy => qyq R85 t7 t8 zz hR85 hy
end
def qts (R85:qot) (a:waC):Option (Bool) :=
 (quq R85 a (a.length:Int) 0).bind fun o21 => match o21 with
 | (.inl o21) =>
  some false
 | (.inr o21) =>
  some true
theorem qEa (R85:qot) (hR85:qtP R85) {a:waC} {r:Bool} (h:qts R85 a = some r):CC Pg GE 12 [sl qac a] (.bool r) []:=by
 obtain ⟨o21,bo21,h⟩:=bnd h
 rcases o21 with o21 | o21
 ·obtain rfl:=lf h
  have z:=svn (sT27.ln a) <| spc (e := .ret) (s1:=qeQ (.inl o21)) (qsA R85 a (a.length:Int) 0 hR85 bo21) <| en (aI (rP (.bool false)) <| trivial)
  exact cvZ A12 Tryz.call12 Tryz.func12 (c:=b12) rfl (aI (qad qaf a) trivial) z (by kernel_rfl)
 ·obtain rfl:=lf h
  have z:=svn (sT27.ln a) <| spc (e := .exit 0) (s1:=qeQ (.inr o21)) (qsA R85 a (a.length:Int) 0 hR85 bo21) <| en (aI (rP (.bool true)) <| trivial)
  exact cvZ A12 Tryz.call12 Tryz.func12 (c:=b12) rfl (aI (qad qaf a) trivial) z (by kernel_rfl)
def qxb:((waC)→Option (Bool))→(waC)→Option (Bool):=fun (rec:waC→Option (Bool)) (x:waC) => qts (fun a => rec a) x
def qEr (a:waC):Option (Bool):=fixE (qxb) a
theorem qF1 {a:waC} {r:Bool} (h:qEr a = some r):CC Pg GE 12 [sl qac a] (.bool r) [] :=
 qbo (F:=qxb) (M:=fun (x:waC) (r:Bool) => CC Pg GE 12 [sl qac x] (.bool r) []) (fun rec hrec x r h => qEa _ (fun a r h => hrec a r h) h) h
noncomputable def b115:Code:=Tryz.f115.body.getD .skip
def A115:List Nat:=[19,28,46,51]
section
variable (v:waB) (s:Str) (out:waB) (i:Int)
def qC2:PSt:=stt 52 [(0,sl cS v),(1,.str s),(5,sl cS out),(6,.int .i64 i)] [] [((5,0),9)]
def qoI (o:Bool):PSt:=stt 52 [(0,sl cS v),(1,.str s),(5,sl cS out),(6,.int .i64 i),(18,.bool o)] [] [((5,0),9)]
def qjW:Option ((Bool)) :=
 if (decide (i < (v.length:Int))) = true then
  (idx v i).bind fun x2 =>
  some (Op.bytesLess x2 s)
 else
  some false
theorem qAN {x:(Bool)} (h:qjW v s i = some x) :
  Sat Pg GE 0 (cA b115 492) (EX .normal (qoI v s out i x)) (qC2 v s out i):=by
 rcases ifs h with ⟨c1,h⟩ | ⟨c1,h⟩
 ·obtain ⟨x2,bx2,h⟩:=bnd h
  obtain rfl:=lf h
  have z:=svn (sT22.ln v) <| sg 5 c1 <| sv (sT22.ia (k := .i64) bx2) <| sv (qa9 sc9 (.str x2) []) <| eF .normal (qoI v s out i (Op.bytesLess x2 s))
  exact pcZ A115 z (by kernel_rfl)
 ·obtain rfl:=lf h
  have z:=svn (sT22.ln v) <| sg 5 c1 <| eF .normal (qoI v s out i false)
  exact pcZ A115 z (by kernel_rfl)
end
section
variable (v:waB) (s:Str) (out:waB) (i:Int)
def qjf:PSt:=stt 52 [(0,sl cS v),(1,.str s),(5,sl cS out),(6,.int .i64 i)] [] [((5,0),9)]
def qoj (o:waB×Int):PSt:=stt 52 [(0,sl cS v),(1,.str s),(5,sl cS o.1),(6,.int .i64 o.2)] [] [((5,0),9)]
def qi2:Option ((waB×Int)⊕((waB×Int))) :=
 (qjW v s i).bind fun o3 =>
 if o3 = true then
  (idx v i).bind fun x6 =>
  (app out ([x6]:List Str)).bind fun l7 =>
  some (.inl (l7,w64 (i + 1)))
 else
  some (.inr (out,i))
def qux:Option ((waB×Int)):=loop (fun (zz:waB×Int) => qi2 v s zz.1 zz.2) (out,i)
theorem qyz {y:(waB×Int)⊕((waB×Int))} (h:qi2 v s out i = some y) :
  Sat Pg GE 0 (cA b115 123) (LQ (fun (zz:waB×Int) => qjf v s zz.1 zz.2) (fun _ => .exit 0) (qoj v s) y) (qjf v s out i):=by
 obtain ⟨o3,bo3,h⟩:=bnd h
 have p5:=fun {sc F} (r:PS sc F) => spa 1 <| spc (qAN v s out i bo3) <| r
 rcases ifs h with ⟨c4,h⟩ | ⟨c4,h⟩
 ·obtain ⟨x6,bx6,h⟩:=bnd h
  obtain ⟨l7,bl7,h⟩:=bnd h
  obtain rfl:=lf h
  have z:=p5 <| sg 0 c4 <| sv (sT22.ia (k := .i64) bx6) <| sv (qa9 sc9 (.str x6) []) <| sv (sT22.mk' (v:=PVal.str) pcS ([x6]:List Str) 1 (by kernel_rfl)) <| sv (sT22.ap bl7) <| eF .normal (qjf v s l7 (w64 (i + 1)))
  exact nxZ A115 z (by kernel_rfl)
 ·obtain rfl:=lf h
  have z:=p5 <| sg 0 c4 <| eF (.exit 0) (qoj v s (out,i))
  exact ovZ A115 (by intro hx; cases hx) z (by kernel_rfl)
theorem qAP {x:(waB×Int)} (h:qux v s out i = some x) :
  Sat Pg GE 0 (.loop (cA b115 123)) (EX (.exit 0) (qoj v s x)) (qjf v s out i) :=
 Sat.loop (S:=fun (zz:waB×Int) => qjf v s zz.1 zz.2) (ex:=(fun _ => .exit 0)) (s:=(out,i)) h fun zz y hy => qyz v s zz.1 zz.2 hy
end
section
variable (v:waB) (s:Str) (out:waB) (i:Int)
def qCd:PSt:=stt 52 [(0,sl cS v),(1,.str s),(5,sl cS out),(6,.int .i64 i)] [] [((5,0),9)]
def qpn (o:Bool):PSt:=stt 52 [(0,sl cS v),(5,sl cS out),(6,.int .i64 i),(43,.bool o)] [] [((5,0),9)]
def quP:Option ((Bool)) :=
 if (decide (i < (v.length:Int))) = true then
  (idx v i).bind fun x11 =>
  some (x11 == s)
 else
  some false
theorem qAY {x:(Bool)} (h:quP v s i = some x) :
  Sat Pg GE 0 (cA b115 252) (EX .normal (qpn v out i x)) (qCd v s out i):=by
 rcases ifs h with ⟨c10,h⟩ | ⟨c10,h⟩
 ·obtain ⟨x11,bx11,h⟩:=bnd h
  obtain rfl:=lf h
  have z:=svn (sT22.ln v) <| sg 5 c10 <| sv (sT22.ia (k := .i64) bx11) <| sv (qa9 sc9 (.str x11) []) <| eF .normal (qpn v out i (x11 == s))
  exact pcZ A115 z (by kernel_rfl)
 ·obtain rfl:=lf h
  have z:=svn (sT22.ln v) <| sg 5 c10 <| eF .normal (qpn v out i false)
  exact pcZ A115 z (by kernel_rfl)
end
section
variable (v:waB) (s:Str) (out:waB) (i:Int)
def qBH:PSt:=stt 52 [(0,sl cS v),(1,.str s),(5,sl cS out),(6,.int .i64 i)] [] [((5,0),9)]
def qpl (o:Int):PSt:=stt 52 [(0,sl cS v),(5,sl cS out),(6,.int .i64 o)] [] [((5,0),9)]
def qp4:Option ((Int)) :=
 (quP v s i).bind fun o12 =>
 if o12 = true then
  some (w64 (i + 1))
 else
  some i
theorem qAi {x:(Int)} (h:qp4 v s i = some x) :
  Sat Pg GE 0 (cA b115 126) (EX .normal (qpl v out x)) (qBH v s out i):=by
 obtain ⟨o12,bo12,h⟩:=bnd h
 have p14:=fun {sc F} (r:PS sc F) => spa 0 <| spc (qAY v s out i bo12) <| r
 rcases ifs h with ⟨c13,h⟩ | ⟨c13,h⟩
 ·obtain rfl:=lf h
  have z:=p14 <| sg 0 c13 <| eF .normal (qpl v out (w64 (i + 1)))
  exact pcZ A115 z (by kernel_rfl)
 ·obtain rfl:=lf h
  have z:=p14 <| sg 0 c13 <| eF .normal (qpl v out i)
  exact pcZ A115 z (by kernel_rfl)
end
def qxe (a:waB) (s:Str):Option (waB) :=
 (qux a s ([]:List Str) 0).bind fun o8 =>
 (app o8.1 ([s]:List Str)).bind fun l9 =>
 (qp4 a s o8.2).bind fun o15 =>
 (slc a (some o15) none).bind fun l16 =>
 (app l9 l16).bind fun l17 =>
 some l17
theorem qzt {a:waB} {s:Str} {r:waB} (h:qxe a s = some r):CC Pg GE 115 [sl cS a,.str s] (sl cS r) [(0,9)]:=by
 obtain ⟨o8,bo8,h⟩:=bnd h
 obtain ⟨l9,bl9,h⟩:=bnd h
 obtain ⟨o15,bo15,h⟩:=bnd h
 obtain ⟨l16,bl16,h⟩:=bnd h
 obtain ⟨l17,bl17,h⟩:=bnd h
 obtain rfl:=lf h
 have z:=spc (qAP a s ([]:List Str) 0 bo8) <| sv (sT22.mk' (v:=PVal.str) pcS ([s]:List Str) 1 (by kernel_rfl)) <| sv (sT22.ap bl9) <| spa 0 <| spc (qAi a s l9 o8.2 bo15) <| sv (sT22.sc bl16) <| sv (sT22.ap bl17) <| en (aI (rP (sl cS l17)) <| (qad clS l17))
 exact cvZ A115 Tryz.call115 Tryz.func115 (c:=b115) rfl (aI (qad clS a) (aI trivial trivial)) z (by kernel_rfl)
noncomputable def b80:Code:=Tryz.f80.body.getD .skip
def A80:List Nat:=[12,24,32]
section
variable (v:waB) (v2:waB) (t9:Int) (out:waB) (t10:Int)
def qfK:PSt:=stt 33 [(0,sl cS v),(1,sl cS v2),(5,sl cS out),(9,.int .i64 t9),(10,.int .i64 t10)] [] [((5,0),9)]
def qlN (o:waB):PSt:=stt 33 [(1,sl cS v2),(5,sl cS o)] [] [((5,0),9)]
def qfZ:Option ((waB×Int)⊕((waB))) :=
 if (decide (t10 < t9)) = true then
  (idx v t10).bind fun x2 =>
  (qxe out x2).bind fun r3 =>
  some (.inl (r3,w64 (t10 + 1)))
 else
  some (.inr out)
def qpa:Option ((waB)):=loop (fun (zz:waB×Int) => qfZ v t9 zz.1 zz.2) (out,t10)
theorem qv0 {y:(waB×Int)⊕((waB))} (h:qfZ v t9 out t10 = some y) :
  Sat Pg GE 0 (cA b80 119) (LQ (fun (zz:waB×Int) => qfK v v2 t9 zz.1 zz.2) (fun _ => .exit 0) (qlN v2) y) (qfK v v2 t9 out t10):=by
 rcases ifs h with ⟨c1,h⟩ | ⟨c1,h⟩
 ·obtain ⟨x2,bx2,h⟩:=bnd h
  obtain ⟨r3,br3,h⟩:=bnd h
  obtain rfl:=lf h
  have z:=sg 0 c1 <| sv (sT22.ia (k := .i64) bx2) <| sv (qa9 sc9 (.str x2) []) <| sca (qzt br3) <| eF .normal (qfK v v2 t9 r3 (w64 (t10 + 1)))
  exact nxZ A80 z (by kernel_rfl)
 ·obtain rfl:=lf h
  have z:=sg 0 c1 <| eF (.exit 0) (qlN v2 out)
  exact ovZ A80 (by intro hx; cases hx) z (by kernel_rfl)
theorem qyk {x:(waB)} (h:qpa v t9 out t10 = some x) :
  Sat Pg GE 0 (.loop (cA b80 119)) (EX (.exit 0) (qlN v2 x)) (qfK v v2 t9 out t10) :=
 Sat.loop (S:=fun (zz:waB×Int) => qfK v v2 t9 zz.1 zz.2) (ex:=(fun _ => .exit 0)) (s:=(out,t10)) h fun zz y hy => qv0 v v2 t9 zz.1 zz.2 hy
end
section
variable (v:waB) (t21:Int) (out:waB) (t22:Int)
def qf9:PSt:=stt 33 [(1,sl cS v),(5,sl cS out),(21,.int .i64 t21),(22,.int .i64 t22)] [] [((5,0),9)]
def qlM (o:waB):PSt:=stt 33 [(5,sl cS o)] [] [((5,0),9)]
def qf0:Option ((waB×Int)⊕((waB))) :=
 if (decide (t22 < t21)) = true then
  (idx v t22).bind fun x6 =>
  (qxe out x6).bind fun r7 =>
  some (.inl (r7,w64 (t22 + 1)))
 else
  some (.inr out)
def qps:Option ((waB)):=loop (fun (zz:waB×Int) => qf0 v t21 zz.1 zz.2) (out,t22)
theorem qv3 {y:(waB×Int)⊕((waB))} (h:qf0 v t21 out t22 = some y) :
  Sat Pg GE 0 (cA b80 247) (LQ (fun (zz:waB×Int) => qf9 v t21 zz.1 zz.2) (fun _ => .exit 2) (qlM) y) (qf9 v t21 out t22):=by
 rcases ifs h with ⟨c5,h⟩ | ⟨c5,h⟩
 ·obtain ⟨x6,bx6,h⟩:=bnd h
  obtain ⟨r7,br7,h⟩:=bnd h
  obtain rfl:=lf h
  have z:=sg 0 c5 <| sv (sT22.ia (k := .i64) bx6) <| sv (qa9 sc9 (.str x6) []) <| sca (qzt br7) <| eF .normal (qf9 v t21 r7 (w64 (t22 + 1)))
  exact nxZ A80 z (by kernel_rfl)
 ·obtain rfl:=lf h
  have z:=sg 0 c5 <| eF (.exit 2) (qlM out)
  exact ovZ A80 (by intro hx; cases hx) z (by kernel_rfl)
theorem qwU {x:(waB)} (h:qps v t21 out t22 = some x) :
  Sat Pg GE 0 (.loop (cA b80 247)) (EX (.exit 2) (qlM x)) (qf9 v t21 out t22) :=
 Sat.loop (S:=fun (zz:waB×Int) => qf9 v t21 zz.1 zz.2) (ex:=(fun _ => .exit 2)) (s:=(out,t22)) h fun zz y hy => qv3 v t21 zz.1 zz.2 hy
end
def qoU (a:waB) (a2:waB):Option (waB) :=
 (qpa a (a.length:Int) ([]:List Str) 0).bind fun o4 =>
 (qps a2 (a2.length:Int) o4 0).bind fun o8 =>
 some o8
theorem qCK {a:waB} {a2:waB} {r:waB} (h:qoU a a2 = some r):CC Pg GE 80 [sl cS a,sl cS a2] (sl cS r) [(0,9)]:=by
 obtain ⟨o4,bo4,h⟩:=bnd h
 obtain ⟨o8,bo8,h⟩:=bnd h
 obtain rfl:=lf h
 have z:=svn (sT22.ln a) <| spc (qyk a a2 (a.length:Int) ([]:List Str) 0 bo4) <| svn (sT22.ln a2) <| spc (qwU a2 (a2.length:Int) o4 0 bo8) <| en (aI (rP (sl cS o8)) <| (qad clS o8))
 exact cvZ A80 Tryz.call80 Tryz.func80 (c:=b80) rfl (aI (qad clS a) (aI (qad clS a2) trivial)) z (by kernel_rfl)
abbrev qpw:=(tPred→Option (waB))
abbrev qva (R:qpw):Prop := ∀ (p:tPred) (r:waB),R p = some r→CC Pg GE 31 [.agg (qaa p)] (sl cS r) [(0,9)]
noncomputable def b31:Code:=Tryz.f31.body.getD .skip
def A31:List Nat:=[24]
section
variable (p:tPred)
def qA1:PSt:=stt 25 [(1,.eptr (qaa p)),(3,sl cS ([]:List Str))] [.dead] [((3,0),9)]
def qnw (o:waB):PSt:=stt 25 [(1,.eptr (qaa p)),(3,sl cS o)] [.dead] [((3,0),9)]
def qrG:Option ((waB)) :=
 if (p.Op == 3) = true then
  some ([p.Name]:List Str)
 else
  some ([]:List Str)
theorem qyt {x:(waB)} (h:qrG p = some x) :
  Sat Pg GE 0 (cA b31 14) (EX .normal (qnw p x)) (qA1 p):=by
 have p2:=fun {sc F} (r:PS sc F) => sv (qaw p) <| sv (qau p) <| r
 rcases ifs h with ⟨c1,h⟩ | ⟨c1,h⟩
 ·obtain rfl:=lf h
  have z:=p2 <| sg 0 c1 <| sv (qaH p) <| sv (qaO p) <| sv (sT22.mk' (v:=PVal.str) pcS ([p.Name]:List Str) 1 (by kernel_rfl)) <| eF .normal (qnw p ([p.Name]:List Str))
  exact pcZ A31 z (by kernel_rfl)
 ·obtain rfl:=lf h
  have z:=p2 <| sg 0 c1 <| eF .normal (qnw p ([]:List Str))
  exact pcZ A31 z (by kernel_rfl)
end
section
variable (R100:qpw) (t13:waA) (t14:Int) (out:waB) (t15:Int)
def qhf:PSt:=stt 25 [(3,sl cS out),(13,sl qaa t13),(14,.int .i64 t14),(15,.int .i64 t15)] [.dead] [((3,0),9)]
def qmS (o:waB):PSt:=stt 25 [(3,sl cS o)] [.dead] [((3,0),9)]
def qtU:Option ((waB×Int)⊕((waB))) :=
 if (decide (t15 < t14)) = true then
  (idx t13 t15).bind fun x5 =>
  (R100 x5).bind fun r6 =>
  (qoU out r6).bind fun r7 =>
  some (.inl (r7,w64 (t15 + 1)))
 else
  some (.inr out)
def qro:Option ((waB)):=loop (fun (zz:waB×Int) => qtU R100 t13 t14 zz.1 zz.2) (out,t15)
theorem qwT (hR100:qva R100) {y:(waB×Int)⊕((waB))} (h:qtU R100 t13 t14 out t15 = some y) :
  Sat Pg GE 0 (cA b31 247) (LQ (fun (zz:waB×Int) => qhf t13 t14 zz.1 zz.2) (fun _ => .exit 0) (qmS) y) (qhf t13 t14 out t15):=by
 rcases ifs h with ⟨c4,h⟩ | ⟨c4,h⟩
 ·obtain ⟨x5,bx5,h⟩:=bnd h
  obtain ⟨r6,br6,h⟩:=bnd h
  obtain ⟨r7,br7,h⟩:=bnd h
  obtain rfl:=lf h
  have z:=sg 0 c4 <| sv (sT29.ia (k := .i64) bx5) <| sv (qaj x5) <| sx pz31 <| sx (qaB x5) <| sv (qax x5 []) <| sca (hR100 _ _ br6) <| sca (qCK br7) <| eFx 0 .normal (qhf t13 t14 r7 (w64 (t15 + 1))) rfl (qbn (aI (up (qad clS r7)) (aI (up (qad qab t13)) (aI trivial (aI trivial trivial))))) (aI trivial trivial)
  exact qa5 (A:=A31) mixed z (by kernel_rfl)
 ·obtain rfl:=lf h
  have z:=sg 0 c4 <| eF (.exit 0) (qmS out)
  exact ovZ A31 (by intro hx; cases hx) z (by kernel_rfl)
theorem qyS (hR100:qva R100) {x:(waB)} (h:qro R100 t13 t14 out t15 = some x) :
  Sat Pg GE 0 (.loop (cA b31 247)) (EX (.exit 0) (qmS x)) (qhf t13 t14 out t15) :=
 Sat.loop (S:=fun (zz:waB×Int) => qhf t13 t14 zz.1 zz.2) (ex:=(fun _ => .exit 0)) (s:=(out,t15)) h fun zz y hy => qwT R100 t13 t14 zz.1 zz.2 hR100 hy
end
def qp1 (R100:qpw) (p:tPred):Option (waB) :=
 (qrG p).bind fun o3 =>
 (qro R100 p.Kids (p.Kids.length:Int) o3 0).bind fun o8 =>
 some o8
theorem qDl (R100:qpw) (hR100:qva R100) {p:tPred} {r:waB} (h:qp1 R100 p = some r):CC Pg GE 31 [.agg (qaa p)] (sl cS r) [(0,9)]:=by
 obtain ⟨o3,bo3,h⟩:=bnd h
 obtain ⟨o8,bo8,h⟩:=bnd h
 obtain rfl:=lf h
 have z:=se (qaE p) <| spa 1 <| spc (qyt p bo3) <| sv (qat p) <| sv (qav p) <| svn (sT29.ln p.Kids) <| spc (qyS R100 p.Kids (p.Kids.length:Int) o3 0 hR100 bo8) <| en (aI (rP (sl cS o8)) <| (qad clS o8))
 exact cvZ A31 Tryz.call31 Tryz.func31 (c:=b31) rfl (aI (qab p) trivial) z (by kernel_rfl)
def qud:((tPred)→Option (waB))→(tPred)→Option (waB):=fun (rec:tPred→Option (waB)) (x:tPred) => qp1 (fun p => rec p) x
def qwB (p:tPred):Option (waB):=fixE (qud) p
theorem qEN {p:tPred} {r:waB} (h:qwB p = some r):CC Pg GE 31 [.agg (qaa p)] (sl cS r) [(0,9)] :=
 qbo (F:=qud) (M:=fun (x:tPred) (r:waB) => CC Pg GE 31 [.agg (qaa x)] (sl cS r) [(0,9)]) (fun rec hrec x r h => qDl _ (fun p r h => hrec p r h) h) h
noncomputable def b28:Code:=Tryz.f28.body.getD .skip
def A28:List Nat:=[10,17]
section
variable (v:waB) (s:Str) (t7:Int) (t8:Int)
def qhz:PSt:=stt 19 [(0,sl cS v),(1,.str s),(7,.int .i64 t7),(8,.int .i64 t8)] [] []
def qhp (o:(Int)⊕(Unit)):Exit:=match o with
 | (.inl _) => .ret
 | (.inr _) => .exit 0
def qfk (o:(Int)⊕(Unit)):PSt:=match o with
 | (.inl o) => stt 19 [(4,.int .i64 o)] [] []
 | (.inr o) => stt 19 [] [] []
def qcu:Option ((Int)⊕((Int)⊕(Unit))) :=
 if (decide (t8 < t7)) = true then
  (idx v t8).bind fun x2 =>
  if (x2 == s) = true then
   some (.inr (.inl t8))
  else
   some (.inl (w64 (t8 + 1)))
 else
  some (.inr (.inr ()))
def qnk:Option ((Int)⊕(Unit)):=loop (fun (zz:Int) => qcu v s t7 zz) t8
theorem qwC {y:(Int)⊕((Int)⊕(Unit))} (h:qcu v s t7 t8 = some y) :
  Sat Pg GE 0 (cA b28 55) (LQ (fun (zz:Int) => qhz v s t7 zz) qhp (qfk) y) (qhz v s t7 t8):=by
 rcases ifs h with ⟨c1,h⟩ | ⟨c1,h⟩
 ·obtain ⟨x2,bx2,h⟩:=bnd h
  have p4:=fun {sc F} (r:PS sc F) => sg 0 c1 <| sv (sT22.ia (k := .i64) bx2) <| sv (qa9 sc9 (.str x2) []) <| r
  rcases ifs h with ⟨c3,h⟩ | ⟨c3,h⟩
  ·obtain rfl:=lf h
   have z:=p4 <| sg 0 c3 <| eF (qhp (.inl t8)) (qfk (.inl t8))
   exact ovZ A28 (by intro hx; cases hx) z (by kernel_rfl)
  ·obtain rfl:=lf h
   have z:=p4 <| sg 0 c3 <| eF .normal (qhz v s t7 (w64 (t8 + 1)))
   exact nxZ A28 z (by kernel_rfl)
 ·obtain rfl:=lf h
  have z:=sg 0 c1 <| eF (qhp (.inr ())) (qfk (.inr ()))
  exact ovZ A28 (by intro hx; cases hx) z (by kernel_rfl)
theorem qq5 {x:(Int)⊕(Unit)} (h:qnk v s t7 t8 = some x) :
  Sat Pg GE 0 (.loop (cA b28 55)) (EX (qhp x) (qfk x)) (qhz v s t7 t8) :=
 Sat.loop (S:=fun (zz:Int) => qhz v s t7 zz) (ex:=qhp) (s:=t8) h fun zz y hy => qwC v s t7 zz hy
end
def qgi (a:waB) (s:Str):Option (Int) :=
 (qnk a s (a.length:Int) 0).bind fun o5 => match o5 with
 | (.inl o5) =>
  some o5
 | (.inr o5) =>
  some (-1)
theorem qkd {a:waB} {s:Str} {r:Int} (h:qgi a s = some r):CC Pg GE 28 [sl cS a,.str s] (.int .i64 r) []:=by
 obtain ⟨o5,bo5,h⟩:=bnd h
 rcases o5 with o5 | o5
 ·obtain rfl:=lf h
  have z:=svn (sT22.ln a) <| spc (e := .ret) (s1:=qfk (.inl o5)) (qq5 a s (a.length:Int) 0 bo5) <| en (aI (rP (.int .i64 o5)) <| trivial)
  exact cvZ A28 Tryz.call28 Tryz.func28 (c:=b28) rfl (aI (qad clS a) (aI trivial trivial)) z (by kernel_rfl)
 ·obtain rfl:=lf h
  have z:=svn (sT22.ln a) <| spc (e := .exit 0) (s1:=qfk (.inr o5)) (qq5 a s (a.length:Int) 0 bo5) <| en (aI (rP (.int .i64 (-1))) <| trivial)
  exact cvZ A28 Tryz.call28 Tryz.func28 (c:=b28) rfl (aI (qad clS a) (aI trivial trivial)) z (by kernel_rfl)
section
variable (n:Int) (s:Str) (m:Int) (d:Int)
def qrw:Option ((Int)) :=
 if (decide (d < 0)) = true then
  some (IntKind.i64.wrap (0 - d))
 else
  some d
end
section
variable (n:Int) (s:Str) (m:Int)
def qjR:Option ((Str×Int)⊕((Str))) :=
 if (m != 0) = true then
  (re m 10).bind fun q3 =>
  (qrw q3).bind fun o5 =>
  (qwl ([IntKind.u8.wrap (w64 (48 + o5))]:List Int)).bind fun s6 =>
  (cat s6 s).bind fun s7 =>
  (qu .i64 m 10).bind fun q8 =>
  some (.inl (s7,q8))
 else
  some (.inr s)
def qkI:Option ((Str)):=loop (fun (zz:Str×Int) => qjR zz.1 zz.2) (s,m)
end
def qAt (n:Int):Option (Str) :=
 if (n == 0) = true then
  some ([48]:Str)
 else
  (qkI ([]:Str) n).bind fun o9 =>
  if (decide (n < 0)) = true then
   (cat ([45]:Str) o9).bind fun s12 =>
   some s12
  else
   some o9
section
variable (used:waB) (base:Str) (s:Str) (n:Int)
def qby:Option ((Str×Int)⊕((Str))) :=
 (qgi used s).bind fun r1 =>
 if (decide (r1 ≥ 0)) = true then
  (qAt n).bind fun r3 =>
  (cat base r3).bind fun s4 =>
  some (.inl (s4,w64 (n + 1)))
 else
  some (.inr s)
def qgx:Option ((Str)):=loop (fun (zz:Str×Int) => qby used base zz.1 zz.2) (s,n)
end
def qDf (used:waB) (base:Str):Option (Str) :=
 (qgx used base base 1).bind fun o5 =>
 some o5
abbrev qiK:=(tPred→waB→waA→Option (tPred))
abbrev qlt (R:qiK):Prop := ∀ (p:tPred) (names:waB) (a:waA) (r:tPred),R p names a = some r→CC Pg GE 134 [.agg (qaa p),sl cS names,sl qaa a] (.agg (qaa r)) []
noncomputable def b116:Code:=Tryz.f116.body.getD .skip
def A116:List Nat:=[]
def qwo (p:tPred) (kids:waA):Option (tPred) :=
 some (⟨p.Op,p.Name,p.N,kids⟩:tPred)
theorem qw3 {p:tPred} {kids:waA} {r:tPred} (h:qwo p kids = some r):CC Pg GE 116 [.agg (qaa p),sl qaa kids] (.agg (qaa r)) []:=by
 obtain rfl:=lf h
 have z:=se (qaE p) <| sx pz31 <| sv (qaw p) <| sv (qau p) <| sv (qaH p) <| sv (qaO p) <| sv (qbc p) <| sv (qbq p) <| sv (qvW p.Op p.Name p.N kids) <| sx (qaB (⟨p.Op,p.Name,p.N,kids⟩:tPred)) <| en (aI (qaT (⟨p.Op,p.Name,p.N,kids⟩:tPred)) <| (qab (⟨p.Op,p.Name,p.N,kids⟩:tPred)))
 exact cvZ A116 Tryz.call116 Tryz.func116 (c:=b116) rfl (aI (qab p) (aI (qad qab kids) trivial)) z (by kernel_rfl)
noncomputable def b134:Code:=Tryz.f134.body.getD .skip
def A134:List Nat:=[37]
section
variable (names:waB) (v:waA) (p:tPred) (i:Int) (m:waA)
def quz:PSt:=stt 48 [(1,sl cS names),(2,sl qaa v),(3,.eptr (qaa p)),(6,.bptr 1 0),(7,.int .i64 i)] [.dead,.cells [.int .i64 0,.str ([]:Str),.int .i64 0,sl qaa m] [(3,31)]] []
def qin (o:Bool):PSt:=stt 48 [(1,sl cS names),(2,sl qaa v),(3,.eptr (qaa p)),(6,.bptr 1 0),(7,.int .i64 i),(25,.bool o)] [.dead,.cells [.int .i64 0,.str ([]:Str),.int .i64 0,sl qaa m] [(3,31)]] []
def qko:Option ((Bool)) :=
 if (decide (i ≥ 0)) = true then
  some (decide (i < (v.length:Int)))
 else
  some false
theorem qsO {x:(Bool)} (h:qko v i = some x) :
  Sat Pg GE 0 (cA b134 106) (EX .normal (qin names v p i m x)) (quz names v p i m):=by
 rcases ifs h with ⟨c4,h⟩ | ⟨c4,h⟩
 ·obtain rfl:=lf h
  have z:=sg 3 c4 <| svn (sT29.ln v) <| eF .normal (qin names v p i m (decide (i < (v.length:Int))))
  exact pcZ A134 z (by kernel_rfl)
 ·obtain rfl:=lf h
  have z:=sg 3 c4 <| eF .normal (qin names v p i m false)
  exact pcZ A134 z (by kernel_rfl)
end
section
variable (names:waB) (v:waA) (p:tPred) (m:waA)
def quf:PSt:=stt 48 [(1,sl cS names),(2,sl qaa v),(3,.eptr (qaa p)),(6,.bptr 1 0)] [.dead,.cells [.int .i64 0,.str ([]:Str),.int .i64 0,sl qaa m] [(3,31)]] []
def qe8 (o:(Int×Str×Int×waA)⊕(Unit)):Exit:=match o with
 | (.inl _) => .ret
 | (.inr _) => .normal
def qc8 (o:(Int×Str×Int×waA)⊕(Unit)):PSt:=match o with
 | (.inl o) => stt 48 [(6,.bptr 1 0)] [.dead,.cells [.int .i64 o.1,.str o.2.1,.int .i64 o.2.2.1,sl qaa o.2.2.2] []] []
 | (.inr o) => stt 48 [(1,sl cS names),(2,sl qaa v),(3,.eptr (qaa p)),(6,.bptr 1 0)] [.dead,.cells [.int .i64 0,.str ([]:Str),.int .i64 0,sl qaa m] [(3,31)]] []
def qhF:Option ((Int×Str×Int×waA)⊕(Unit)) :=
 if (p.Op == 3) = true then
  (qgi names p.Name).bind fun r3 =>
  (qko v r3).bind fun o5 =>
  if o5 = true then
   (idx v r3).bind fun x8 =>
   some (.inl (x8.Op,x8.Name,x8.N,x8.Kids))
  else
   some (.inr ())
 else
  some (.inr ())
theorem qlk {x:(Int×Str×Int×waA)⊕(Unit)} (h:qhF names v p = some x) :
  Sat Pg GE 0 (cA b134 6) (EX (qe8 x) (qc8 names v p m x)) (quf names v p m):=by
 have p2:=fun {sc F} (r:PS sc F) => sv (qaw p) <| sv (qau p) <| r
 rcases ifs h with ⟨c1,h⟩ | ⟨c1,h⟩
 ·obtain ⟨r3,br3,h⟩:=bnd h
  obtain ⟨o5,bo5,h⟩:=bnd h
  have p7:=fun {sc F} (r:PS sc F) => p2 <| sg 0 c1 <| sv (qaH p) <| sv (qaO p) <| sca (qkd br3) <| spa 0 <| spc (qsO names v p r3 m bo5) <| r
  rcases ifs h with ⟨c6,h⟩ | ⟨c6,h⟩
  ·obtain ⟨x8,bx8,h⟩:=bnd h
   obtain rfl:=lf h
   have z:=p7 <| sg 0 c6 <| sv (sT29.ia (k := .i64) bx8) <| sv (qaj x8) <| sx (qaB x8) <| eF (qe8 (.inl (x8.Op,x8.Name,x8.N,x8.Kids))) (qc8 names v p m (.inl (x8.Op,x8.Name,x8.N,x8.Kids)))
   exact pcZ A134 z (by kernel_rfl)
  ·obtain rfl:=lf h
   have z:=p7 <| sg 0 c6 <| eF (qe8 (.inr ())) (qc8 names v p m (.inr ()))
   exact pcZ A134 z (by kernel_rfl)
 ·obtain rfl:=lf h
  have z:=p2 <| sg 0 c1 <| eF (qe8 (.inr ())) (qc8 names v p m (.inr ()))
  exact pcZ A134 z (by kernel_rfl)
end
section
variable (R108:qiK) (names:waB) (v:waA) (p:tPred) (t31:waA) (t32:Int) (m:waA) (out:waA) (t33:Int)
def qdL:PSt:=stt 48 [(1,sl cS names),(2,sl qaa v),(3,.eptr (qaa p)),(6,.bptr 1 0),(8,sl qaa out),(31,sl qaa t31),(32,.int .i64 t32),(33,.int .i64 t33)] [.dead,.cells [.int .i64 0,.str ([]:Str),.int .i64 0,sl qaa m] [(3,31)]] [((8,0),31)]
def qiC (o:waA):PSt:=stt 48 [(3,.eptr (qaa p)),(6,.bptr 1 0),(8,sl qaa o)] [.dead,.cells [.int .i64 0,.str ([]:Str),.int .i64 0,sl qaa m] [(3,31)]] [((8,0),31)]
def qmt:Option ((waA×Int)⊕((waA))) :=
 if (decide (t33 < t32)) = true then
  (idx t31 t33).bind fun x11 =>
  (R108 x11 names v).bind fun r12 =>
  (app out ([r12]:List tPred)).bind fun l13 =>
  some (.inl (l13,w64 (t33 + 1)))
 else
  some (.inr out)
def qj8:Option ((waA)):=loop (fun (zz:waA×Int) => qmt R108 names v t31 t32 zz.1 zz.2) (out,t33)
theorem qre (hR108:qlt R108) {y:(waA×Int)⊕((waA))} (h:qmt R108 names v t31 t32 out t33 = some y) :
  Sat Pg GE 0 (cA b134 247) (LQ (fun (zz:waA×Int) => qdL names v p t31 t32 m zz.1 zz.2) (fun _ => .exit 0) (qiC p m) y) (qdL names v p t31 t32 m out t33):=by
 rcases ifs h with ⟨c10,h⟩ | ⟨c10,h⟩
 ·obtain ⟨x11,bx11,h⟩:=bnd h
  obtain ⟨r12,br12,h⟩:=bnd h
  obtain ⟨l13,bl13,h⟩:=bnd h
  obtain rfl:=lf h
  have z:=sg 0 c10 <| sv (sT29.ia (k := .i64) bx11) <| sv (qaj x11) <| sx pz31 <| sx (qaB x11) <| sv (qax x11 []) <| sca (hR108 _ _ _ _ br12) <| sv (sT29.mk' (v:=qbk) qaL ([r12]:List tPred) 1 (by kernel_rfl)) <| sv (sT29.ap bl13) <| eFx 0 .normal (qdL names v p t31 t32 m l13 (w64 (t33 + 1))) rfl (qbn (aI (up (qad clS names)) (aI (up (qad qab v)) (aI (qbw (qab p)) (aI (qcH rfl) (aI (up (qad qab l13)) (aI (up (qad qab t31)) (aI trivial (aI trivial trivial))))))))) (aI trivial (aI (aI trivial (aI trivial (aI trivial (aI (up (qad qab m)) trivial)))) trivial))
  exact qa5 (A:=A134) mixed z (by kernel_rfl)
 ·obtain rfl:=lf h
  have z:=sg 0 c10 <| eF (.exit 0) (qiC p m out)
  exact ovZ A134 (by intro hx; cases hx) z (by kernel_rfl)
theorem qtq (hR108:qlt R108) {x:(waA)} (h:qj8 R108 names v t31 t32 out t33 = some x) :
  Sat Pg GE 0 (.loop (cA b134 247)) (EX (.exit 0) (qiC p m x)) (qdL names v p t31 t32 m out t33) :=
 Sat.loop (S:=fun (zz:waA×Int) => qdL names v p t31 t32 m zz.1 zz.2) (ex:=(fun _ => .exit 0)) (s:=(out,t33)) h fun zz y hy => qre R108 names v p t31 t32 m zz.1 zz.2 hR108 hy
end
def qiP (R108:qiK) (p:tPred) (names:waB) (a:waA):Option (tPred) :=
 (qhF names a p).bind fun o9 => match o9 with
 | (.inl o9) =>
  some (⟨o9.1,o9.2.1,o9.2.2.1,o9.2.2.2⟩:tPred)
 | (.inr o9) =>
  (qj8 R108 names a p.Kids (p.Kids.length:Int) ([]:List tPred) 0).bind fun o14 =>
  (qwo p o14).bind fun r15 =>
  some r15
theorem qvT (R108:qiK) (hR108:qlt R108) {p:tPred} {names:waB} {a:waA} {r:tPred} (h:qiP R108 p names a = some r):CC Pg GE 134 [.agg (qaa p),sl cS names,sl qaa a] (.agg (qaa r)) []:=by
 obtain ⟨o9,bo9,h⟩:=bnd h
 rcases o9 with o9 | o9
 ·obtain rfl:=lf h
  have z:=se (qaE p) <| sx pz31 <| spa 0 <| spc (e := .ret) (s1:=qc8 names a p ([]:List tPred) (.inl o9)) (qlk names a p ([]:List tPred) bo9) <| en (aI (qaT (⟨o9.1,o9.2.1,o9.2.2.1,o9.2.2.2⟩:tPred)) <| (qab (⟨o9.1,o9.2.1,o9.2.2.1,o9.2.2.2⟩:tPred)))
  exact cvZ A134 Tryz.call134 Tryz.func134 (c:=b134) rfl (aI (qab p) (aI (qad clS names) (aI (qad qab a) trivial))) z (by kernel_rfl)
 ·obtain ⟨o14,bo14,h⟩:=bnd h
  obtain ⟨r15,br15,h⟩:=bnd h
  obtain rfl:=lf h
  have z:=se (qaE p) <| sx pz31 <| spa 0 <| spc (e := .normal) (s1:=qc8 names a p ([]:List tPred) (.inr o9)) (qlk names a p ([]:List tPred) bo9) <| sv (qat p) <| sv (qav p) <| svn (sT29.ln p.Kids) <| spc (qtq R108 names a p p.Kids (p.Kids.length:Int) ([]:List tPred) ([]:List tPred) 0 hR108 bo14) <| sv (qaj p) <| sca (qw3 br15) <| sx (qaB r15) <| en (aI (qaT r15) <| (qab r15))
  exact cvZ A134 Tryz.call134 Tryz.func134 (c:=b134) rfl (aI (qab p) (aI (qad clS names) (aI (qad qab a) trivial))) z (by kernel_rfl)
def qlU:((tPred×waB×waA)→Option (tPred))→(tPred×waB×waA)→Option (tPred):=fun (rec:(tPred×waB×waA)→Option (tPred)) (x:tPred×waB×waA) => qiP (fun p names a => rec (p,names,a)) x.1 x.2.1 x.2.2
def qkW (p:tPred) (names:waB) (a:waA):Option (tPred):=fixE (qlU) (p,names,a)
theorem qoA {p:tPred} {names:waB} {a:waA} {r:tPred} (h:qkW p names a = some r):CC Pg GE 134 [.agg (qaa p),sl cS names,sl qaa a] (.agg (qaa r)) [] :=
 qbo (F:=qlU) (M:=fun (x:tPred×waB×waA) (r:tPred) => CC Pg GE 134 [.agg (qaa x.1),sl cS x.2.1,sl qaa x.2.2] (.agg (qaa r)) []) (fun rec hrec x r h => qvT _ (fun p names a r h => hrec (p,names,a) r h) h) h
noncomputable def b118:Code:=Tryz.f118.body.getD .skip
def A118:List Nat:=[]
def qsE (p:tPred) (name:Str) (a:tPred):Option (tPred) :=
 (qkW p ([name]:List Str) ([a]:List tPred)).bind fun r1 =>
 some r1
theorem qC6 {p:tPred} {name:Str} {a:tPred} {r:tPred} (h:qsE p name a = some r):CC Pg GE 118 [.agg (qaa p),.str name,.agg (qaa a)] (.agg (qaa r)) []:=by
 obtain ⟨r1,br1,h⟩:=bnd h
 obtain rfl:=lf h
 have z:=se (qaE p) <| se (qaE a) <| sx pz31 <| sv (qaj p) <| sv (sT22.mk' (v:=PVal.str) pcS ([name]:List Str) 1 (by kernel_rfl)) <| sv (qaj a) <| sv (sT29.mk' (v:=qbk) qaL ([a]:List tPred) 1 (by kernel_rfl)) <| sca (qoA br1) <| sx (qaB r1) <| en (aI (qaT r1) <| (qab r1))
 exact cvZ A118 Tryz.call118 Tryz.func118 (c:=b118) rfl (aI (qab p) (aI trivial (aI (qab a) trivial))) z (by kernel_rfl)
abbrev qjU:=(tPred→Int→waA→Option (waA))
abbrev qnG (R:qjU):Prop := ∀ (p:tPred) (op:Int) (a:waA) (r:waA),R p op a = some r→C Pg GE 77 [.agg (qaa p),.int .i64 op,sl qaa a] [((2,0),31)] [] (sl qaa r) [(0,31)] []
noncomputable def b111:Code:=Tryz.f111.body.getD .skip
def A111:List Nat:=[]
section
variable (p:tPred) (t7:waA) (t8:Int) (t9:Int)
def qi7:PSt:=stt 17 [(3,.eptr (qaa p)),(7,sl qaa t7),(8,.int .i64 t8),(9,.int .i64 t9)] [.dead] []
def qiW (o:(Unit)⊕(Unit)):Exit:=match o with
 | (.inl _) => .ret
 | (.inr _) => .exit 0
def qgA (o:(Unit)⊕(Unit)):PSt:=match o with
 | (.inl o) => stt 17 [(4,.bool true)] [.dead] []
 | (.inr o) => stt 17 [] [.dead] []
def qe4:Option ((Int)⊕((Unit)⊕(Unit))) :=
 if (decide (t9 < t8)) = true then
  (idx t7 t9).bind fun x2 =>
  (qgg x2 p).bind fun r3 =>
  if r3 = true then
   some (.inr (.inl ()))
  else
   some (.inl (w64 (t9 + 1)))
 else
  some (.inr (.inr ()))
def qvh:Option ((Unit)⊕(Unit)):=loop (fun (zz:Int) => qe4 p t7 t8 zz) t9
theorem qzd {y:(Int)⊕((Unit)⊕(Unit))} (h:qe4 p t7 t8 t9 = some y) :
  Sat Pg GE 0 (cA b111 55) (LQ (fun (zz:Int) => qi7 p t7 t8 zz) qiW (qgA) y) (qi7 p t7 t8 t9):=by
 rcases ifs h with ⟨c1,h⟩ | ⟨c1,h⟩
 ·obtain ⟨x2,bx2,h⟩:=bnd h
  obtain ⟨r3,br3,h⟩:=bnd h
  have p5:=fun {sc F} (r:PS sc F) => sg 0 c1 <| sv (sT29.ia (k := .i64) bx2) <| sv (qaj x2) <| sx pz31 <| sx (qaB x2) <| sv (qax x2 []) <| sv (qaj p) <| sca (qgm br3) <| r
  rcases ifs h with ⟨c4,h⟩ | ⟨c4,h⟩
  ·obtain rfl:=lf h
   have z:=p5 <| sg 0 c4 <| eFx 0 (qiW (.inl ())) (qgA (.inl ())) rfl (qbn (aI trivial trivial)) (aI trivial trivial)
   exact qhP (A:=A111) mixed (by intro hx; cases hx) z (by kernel_rfl)
  ·obtain rfl:=lf h
   have z:=p5 <| sg 0 c4 <| eFx 0 .normal (qi7 p t7 t8 (w64 (t9 + 1))) rfl (qbn (aI (qbw (qab p)) (aI (up (qad qab t7)) (aI trivial (aI trivial trivial))))) (aI trivial trivial)
   exact qa5 (A:=A111) mixed z (by kernel_rfl)
 ·obtain rfl:=lf h
  have z:=sg 0 c1 <| eF (qiW (.inr ())) (qgA (.inr ()))
  exact ovZ A111 (by intro hx; cases hx) z (by kernel_rfl)
theorem qtk {x:(Unit)⊕(Unit)} (h:qvh p t7 t8 t9 = some x) :
  Sat Pg GE 0 (.loop (cA b111 55)) (EX (qiW x) (qgA x)) (qi7 p t7 t8 t9) :=
 Sat.loop (S:=fun (zz:Int) => qi7 p t7 t8 zz) (ex:=qiW) (s:=t9) h fun zz y hy => qzd p t7 t8 zz hy
end
def qBz (a:waA) (p:tPred):Option (Bool) :=
 (qvh p a (a.length:Int) 0).bind fun o6 => match o6 with
 | (.inl o6) =>
  some true
 | (.inr o6) =>
  some false
theorem qGB {a:waA} {p:tPred} {r:Bool} (h:qBz a p = some r):CC Pg GE 111 [sl qaa a,.agg (qaa p)] (.bool r) []:=by
 obtain ⟨o6,bo6,h⟩:=bnd h
 rcases o6 with o6 | o6
 ·obtain rfl:=lf h
  have z:=se (qaE p) <| svn (sT29.ln a) <| spc (e := .ret) (s1:=qgA (.inl o6)) (qtk p a (a.length:Int) 0 bo6) <| en (aI (rP (.bool true)) <| trivial)
  exact cvZ A111 Tryz.call111 Tryz.func111 (c:=b111) rfl (aI (qad qab a) (aI (qab p) trivial)) z (by kernel_rfl)
 ·obtain rfl:=lf h
  have z:=se (qaE p) <| svn (sT29.ln a) <| spc (e := .exit 0) (s1:=qgA (.inr o6)) (qtk p a (a.length:Int) 0 bo6) <| en (aI (rP (.bool false)) <| trivial)
  exact cvZ A111 Tryz.call111 Tryz.func111 (c:=b111) rfl (aI (qad qab a) (aI (qab p) trivial)) z (by kernel_rfl)
noncomputable def b77:Code:=Tryz.f77.body.getD .skip
def A77:List Nat:=[18,31,35]
section
variable (R127:qjU) (op:Int) (p:tPred) (t10:waA) (t11:Int) (v:waA) (t12:Int)
def qee:PSt:=stt 36 [(1,.int .i64 op),(2,sl qaa v),(3,.eptr (qaa p)),(10,sl qaa t10),(11,.int .i64 t11),(12,.int .i64 t12)] [.dead] [((2,0),31)]
def qjn (o:waA):PSt:=stt 36 [(1,.int .i64 op),(2,sl qaa o),(3,.eptr (qaa p))] [.dead] [((2,0),31)]
def qge:Option ((waA×Int)⊕((waA))) :=
 if (decide (t12 < t11)) = true then
  (idx t10 t12).bind fun x2 =>
  (R127 x2 op v).bind fun r3 =>
  some (.inl (r3,w64 (t12 + 1)))
 else
  some (.inr v)
def qls:Option ((waA)):=loop (fun (zz:waA×Int) => qge R127 op t10 t11 zz.1 zz.2) (v,t12)
theorem qtN (hR127:qnG R127) {y:(waA×Int)⊕((waA))} (h:qge R127 op t10 t11 v t12 = some y) :
  Sat Pg GE 1000 (cA b77 55) (LQ (fun (zz:waA×Int) => qee op p t10 t11 zz.1 zz.2) (fun _ => .exit 0) (qjn op p) y) (qee op p t10 t11 v t12):=by
 rcases ifs h with ⟨c1,h⟩ | ⟨c1,h⟩
 ·obtain ⟨x2,bx2,h⟩:=bnd h
  obtain ⟨r3,br3,h⟩:=bnd h
  obtain rfl:=lf h
  have z:=sg 0 c1 <| sv (sT29.ia (k := .i64) bx2) <| sv (qaj x2) <| sx pz31 <| sx (qaB x2) <| sv (qax x2 []) <| si (.cg ⟨[],[.agg (qaa x2),.int .i64 op,sl qaa v],[⟨2,18,0,31⟩],[],[],[],[],sl qaa r3,sl qaa r3,[(0,31)]⟩) (hR127 _ _ _ _ br3) <| sf (aI (xR [] (.agg (qaa x2)) (qab x2)) (aI (xR [] (.int .i64 op) trivial) (aI (xR [] (sl qaa v) (qad qab v)) trivial))) <| sf trivial <| sf trivial <| sf (xR [] (sl qaa r3) (qad qab r3)) <| eFx 1000 .normal (qee op p t10 t11 r3 (w64 (t12 + 1))) rfl (qbn (aI trivial (aI (up (qad qab r3)) (aI (qbw (qab p)) (aI (up (qad qab t10)) (aI trivial (aI trivial trivial))))))) (aI trivial trivial)
  exact qa5 (A:=A77) mixed z (by kernel_rfl)
 ·obtain rfl:=lf h
  have z:=sg 0 c1 <| eF (.exit 0) (qjn op p v)
  exact ovZ A77 (by intro hx; cases hx) z (by kernel_rfl)
theorem quZ (hR127:qnG R127) {x:(waA)} (h:qls R127 op t10 t11 v t12 = some x) :
  Sat Pg GE 1000 (.loop (cA b77 55)) (EX (.exit 0) (qjn op p x)) (qee op p t10 t11 v t12) :=
 Sat.loop (S:=fun (zz:waA×Int) => qee op p t10 t11 zz.1 zz.2) (ex:=(fun _ => .exit 0)) (s:=(v,t12)) h fun zz y hy => qtN R127 op p t10 t11 zz.1 zz.2 hR127 hy
end
section
variable (op:Int) (v:waA) (p:tPred)
def qvY:PSt:=stt 36 [(1,.int .i64 op),(2,sl qaa v),(3,.eptr (qaa p))] [.dead] [((2,0),31)]
def qjk (o:Bool):PSt:=stt 36 [(2,sl qaa v),(3,.eptr (qaa p)),(30,.bool o)] [.dead] [((2,0),31)]
def qlF:Option ((Bool)) :=
 if (p.Op == op) = true then
  (qBz v p).bind fun r7 =>
  some (!r7)
 else
  some false
theorem quw {x:(Bool)} (h:qlF op v p = some x) :
  Sat Pg GE 1000 (cA b77 28) (EX .normal (qjk v p x)) (qvY op v p):=by
 have p6:=fun {sc F} (r:PS sc F) => sv (qaw p) <| sv (qau p) <| r
 rcases ifs h with ⟨c5,h⟩ | ⟨c5,h⟩
 ·obtain ⟨r7,br7,h⟩:=bnd h
  obtain rfl:=lf h
  have z:=p6 <| sg 5 c5 <| sv (qaj p) <| sca (qGB br7) <| eF .normal (qjk v p (!r7))
  exact pcZ A77 z (by kernel_rfl)
 ·obtain rfl:=lf h
  have z:=p6 <| sg 5 c5 <| eF .normal (qjk v p false)
  exact pcZ A77 z (by kernel_rfl)
end
def qjV (R127:qjU) (p:tPred) (op:Int) (a:waA):Option (waA) :=
 (qls R127 op p.Kids (p.Kids.length:Int) a 0).bind fun o4 =>
 (qlF op o4 p).bind fun o8 =>
 if o8 = true then
  (app o4 ([p]:List tPred)).bind fun l11 =>
  some l11
 else
  some o4
theorem qwD (R127:qjU) (hR127:qnG R127) {p:tPred} {op:Int} {a:waA} {r:waA} (h:qjV R127 p op a = some r):C Pg GE 77 [.agg (qaa p),.int .i64 op,sl qaa a] [((2,0),31)] [] (sl qaa r) [(0,31)] []:=by
 obtain ⟨o4,bo4,h⟩:=bnd h
 obtain ⟨o8,bo8,h⟩:=bnd h
 have p10:=fun {sc F} (r:PS sc F) => se (qaE p) <| sv (qat p) <| sv (qav p) <| svn (sT29.ln p.Kids) <| spc (quZ R127 op p p.Kids (p.Kids.length:Int) a 0 hR127 bo4) <| spa 1 <| spc (quw op o4 p bo8) <| r
 rcases ifs h with ⟨c9,h⟩ | ⟨c9,h⟩
 ·obtain ⟨l11,bl11,h⟩:=bnd h
  obtain rfl:=lf h
  have z:=p10 <| sg 0 c9 <| sv (qaj p) <| sv (sT29.mk' (v:=qbk) qaL ([p]:List tPred) 1 (by kernel_rfl)) <| sv (sT29.ap bl11) <| en (aI (rP (sl qaa l11)) <| aI (up (n:=0) (qad qab l11)) <| aI (rL []) <| trivial)
  exact C.evGp (A:=A77) mixed (m:=1000) (c:=b77) rfl Tryz.call77 Tryz.func77 rfl z (by kernel_rfl)
 ·obtain rfl:=lf h
  have z:=p10 <| sg 0 c9 <| en (aI (rP (sl qaa o4)) <| aI (up (n:=0) (qad qab o4)) <| aI (rL []) <| trivial)
  exact C.evGp (A:=A77) mixed (m:=1000) (c:=b77) rfl Tryz.call77 Tryz.func77 rfl z (by kernel_rfl)
def qnv:((tPred×Int×waA)→Option (waA))→(tPred×Int×waA)→Option (waA):=fun (rec:(tPred×Int×waA)→Option (waA)) (x:tPred×Int×waA) => qjV (fun p op a => rec (p,op,a)) x.1 x.2.1 x.2.2
def qm9 (p:tPred) (op:Int) (a:waA):Option (waA):=fixE (qnv) (p,op,a)
theorem qq6 {p:tPred} {op:Int} {a:waA} {r:waA} (h:qm9 p op a = some r):C Pg GE 77 [.agg (qaa p),.int .i64 op,sl qaa a] [((2,0),31)] [] (sl qaa r) [(0,31)] [] :=
 qbo (F:=qnv) (M:=fun (x:tPred×Int×waA) (r:waA) => C Pg GE 77 [.agg (qaa x.1),.int .i64 x.2.1,sl qaa x.2.2] [((2,0),31)] [] (sl qaa r) [(0,31)] []) (fun rec hrec x r h => qwD _ (fun p op a r h => hrec (p,op,a) r h) h) h
noncomputable def b27:Code:=Tryz.f27.body.getD .skip
def A27:List Nat:=[]
def qp3 (p:tPred):Option (waA) :=
 (qm9 p 4 ([]:List tPred)).bind fun r1 =>
 some r1
theorem qxS {p:tPred} {r:waA} (h:qp3 p = some r):CC Pg GE 27 [.agg (qaa p)] (sl qaa r) [(0,31)]:=by
 obtain ⟨r1,br1,h⟩:=bnd h
 obtain rfl:=lf h
 have z:=se (qaE p) <| sv (qaj p) <| si (.cg ⟨[],[.agg (qaa p),.int .i64 4,sl qaa ([]:List tPred)],[⟨2,1000000,0,31⟩],[],[],[],[],sl qaa r1,sl qaa r1,[(0,31)]⟩) (qq6 br1) <| sf (aI (xR [] (.agg (qaa p)) (qab p)) (aI (xR [] (.int .i64 4) trivial) (aI (xR [] (sl qaa ([]:List tPred)) (qad qab ([]:List tPred))) trivial))) <| sf trivial <| sf trivial <| sf (xR [] (sl qaa r1) (qad qab r1)) <| en (aI (rP (sl qaa r1)) <| (qad qab r1))
 exact cvZ A27 Tryz.call27 Tryz.func27 (c:=b27) rfl (aI (qab p) trivial) z (by kernel_rfl)
end Go.Proofs.YtgldgpdhblndkaaGreatDoor
