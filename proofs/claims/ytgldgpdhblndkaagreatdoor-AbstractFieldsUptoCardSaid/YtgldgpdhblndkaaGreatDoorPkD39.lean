/-
  WHAT IS PROVED: parts of the proof, put together by a program out of smaller texts, their own names made short (G7). Conditions: none.
-/
import Derived.Test.YtgldgpdhblndkaaGreatDoorPkD38
namespace Go.Proofs.YtgldgpdhblndkaaGreatDoor
open Go
set_option linter.unusedVariables false
set_option maxRecDepth 100000
noncomputable def b25:Code:=Tryz.f25.body.getD .skip
def A25:List Nat:=[22]
noncomputable def qcZ (v:(List Str)) (kept:(List tPred)) (t10:(List tPred)) (t11:Int) (t12:Int) (m:(List tPred)):PSt:=stt 29 [(3,.eptr ((cL cS) v)),(4,.bptr 2 0),(5,sl qaa kept),(10,sl qaa t10),(11,.int .i64 t11),(12,.int .i64 t12)] [.dead,.dead,.cells [.int .i64 0,.str ([]:Str),.int .i64 0,sl qaa m] [(3,31)]] [((10,0),31),((5,0),31)]
noncomputable def qgL (v:(List Str)) (t10:(List tPred)) (t11:Int) (m:(List tPred)) (o:(List tPred)):PSt:=stt 29 [(4,.bptr 2 0),(5,sl qaa o)] [.dead,.dead,.cells [.int .i64 0,.str ([]:Str),.int .i64 0,sl qaa m] [(3,31)]] [((5,0),31)]
noncomputable def qkC (v:(List Str)) (t10:(List tPred)) (t11:Int) (kept:(List tPred)) (t12:Int):Option (((List tPred)×Int)⊕(((List tPred)))) :=
  if (decide (t12 < t11)) = true then
    (idx t10 t12).bind fun x3 =>
    (qwk x3).bind fun r4 =>
    (qjV r4 v).bind fun r5 =>
    if (!r5) = true then
      (app kept ([x3]:List tPred)).bind fun l7 =>
      some (.inl (l7,w64 (t12 + 1)))
    else
      some (.inl (kept,w64 (t12 + 1)))
  else
    some (.inr kept)
noncomputable def qmH (v:(List Str)) (t10:(List tPred)) (t11:Int) (kept:(List tPred)) (t12:Int):Option (((List tPred))):=loop (fun (zz:(List tPred)×Int) => qkC v t10 t11 zz.1 zz.2) (kept,t12)
theorem qoz (v:(List Str)) (kept:(List tPred)) (t10:(List tPred)) (t11:Int) (t12:Int) (m:(List tPred)) {y:((List tPred)×Int)⊕(((List tPred)))} (h:qkC v t10 t11 kept t12 = some y) :
    Sat Pg GE 0 (cA b25 119) (LQ (fun (zz:(List tPred)×Int) => qcZ v zz.1 t10 t11 zz.2 m) (fun _ => .exit 0) (qgL v t10 t11 m) y) (qcZ v kept t10 t11 t12 m):=by
  rcases ifs h with ⟨c2,h⟩ | ⟨c2,h⟩
  · obtain ⟨x3,bx3,h⟩:=bnd h
    obtain ⟨r4,br4,h⟩:=bnd h
    obtain ⟨r5,br5,h⟩:=bnd h
    rcases ifs h with ⟨c6,h⟩ | ⟨c6,h⟩
    · obtain ⟨l7,bl7,h⟩:=bnd h
      obtain rfl:=lf h
      have z:=sg 0 c2 <| sv (sT29.ia (k := .i64) bx3) <| sv (qaj x3) <| sx pz31 <| sx (qan x3) <| sv (qah x3 []) <| sca (qr0 br4) <| sca (qhF br5) <| sg 0 c6 <| sv (qah x3 []) <| sv (sT29.mk' (v:=qaP) qaq ([x3]:List tPred) 1 (by kernel_rfl)) <| sv (sT29.ap bl7) <| eFx 0 .normal (qcZ v l7 t10 t11 (w64 (t12 + 1)) m) rfl (qb1 (aI (qbQ (clLs clS v)) (aI (qdu rfl) (aI (up (qad qab l7)) (aI (up (qad qab t10)) (aI trivial (aI trivial trivial))))))) (aI trivial (aI trivial (aI (aI trivial (aI trivial (aI trivial (aI (up (qad qab m)) trivial)))) trivial)))
      exact qbK (A:=A25) mixed z (by kernel_rfl)
    · obtain rfl:=lf h
      have z:=sg 0 c2 <| sv (sT29.ia (k := .i64) bx3) <| sv (qaj x3) <| sx pz31 <| sx (qan x3) <| sv (qah x3 []) <| sca (qr0 br4) <| sca (qhF br5) <| sg 0 c6 <| eFx 0 .normal (qcZ v kept t10 t11 (w64 (t12 + 1)) m) rfl (qb1 (aI (qbQ (clLs clS v)) (aI (qdu rfl) (aI (up (qad qab kept)) (aI (up (qad qab t10)) (aI trivial (aI trivial trivial))))))) (aI trivial (aI trivial (aI (aI trivial (aI trivial (aI trivial (aI (up (qad qab m)) trivial)))) trivial)))
      exact qbK (A:=A25) mixed z (by kernel_rfl)
  · obtain rfl:=lf h
    have z:=sg 0 c2 <| eF (.exit 0) (qgL v t10 t11 m kept)
    exact qbE (A:=A25) mixed (by intro hx; cases hx) z (by kernel_rfl)
theorem qpo (v:(List Str)) (kept:(List tPred)) (t10:(List tPred)) (t11:Int) (t12:Int) (m:(List tPred)) {x:((List tPred))} (h:qmH v t10 t11 kept t12 = some x) :
    Sat Pg GE 0 (.loop (cA b25 119)) (EX (.exit 0) (qgL v t10 t11 m x)) (qcZ v kept t10 t11 t12 m) :=
  Sat.loop (S:=fun (zz:(List tPred)×Int) => qcZ v zz.1 t10 t11 zz.2 m) (ex:=(fun _ => .exit 0)) (s:=(kept,t12)) h fun zz y hy => qoz v zz.1 t10 t11 zz.2 m hy
noncomputable def qqK (p:tPred) (a:(List Str)):Option (tPred) :=
  (qt7 p).bind fun r1 =>
  (qmH a r1 (r1.length:Int) ([]:List tPred) 0).bind fun o8 =>
  (qxL o8).bind fun r9 =>
  some r9
theorem qsg {p:tPred} {a:(List Str)} {r:tPred} (h:qqK p a = some r):CC Pg GE 25 [.agg (qaa p),sl cS a] (.agg (qaa r)) []:=by
  obtain ⟨r1,br1,h⟩:=bnd h
  obtain ⟨o8,bo8,h⟩:=bnd h
  obtain ⟨r9,br9,h⟩:=bnd h
  obtain rfl:=lf h
  have z:=se (qat p) <| se (pcL cS a) <| sx pz31 <| sv (qaj p) <| sca (qvc br1) <| svn (sT29.ln r1) <| spc (qpo a ([]:List tPred) r1 (r1.length:Int) 0 ([]:List tPred) bo8) <| sca (qw3 br9) <| sx (qan r9) <| en (aI (qa4 r9) <| (qab r9))
  exact C.evp (A:=A25) mixed Tryz.call25 Tryz.func25 (c:=b25) rfl (aI (qab p) (aI (qad clS a) trivial)) z (by kernel_rfl)
end Go.Proofs.YtgldgpdhblndkaaGreatDoor
