/-
  WHAT IS PROVED: parts of the proof, put together by a program out of smaller texts, their own names made short (G15). Conditions: none.
-/
import Derived.Test.YtgldgpdhblndkaaGreatDoorPkD43
namespace Go.Proofs.YtgldgpdhblndkaaGreatDoor
open Go
set_option linter.unusedVariables false
set_option maxRecDepth 100000
noncomputable def b67:Code:=Tryz.f67.body.getD .skip
def A67:List Nat:=[32,49]
noncomputable def qf2 (v:(List tPred)) (t:tType) (d:tData) (t25:(List tPred)) (t26:Int) (t27:Int) (m:(List tType)) (m2:(List tPred)) (m3:Int) (m4:Str) (m5:(List Str)) (m6:Int) (m7:Str) (m8:Int) (m9:(List tPred)) (m10:(List tPred)):PSt:=stt 59 [(2,sl qaa v),(3,.eptr (qac t)),(4,.eptr (qau d)),(6,.bptr 2 0),(7,.bptr 3 0),(25,sl qaa t25),(26,.int .i64 t26),(27,.int .i64 t27)] [.dead,.dead,.cells [.int .i64 0,.str ([]:Str),sl qac m,sl cS ([]:List Str),.int .i64 0,.str ([]:Str),.int .i64 0,sl qaa m2,sl qaa m2] [(2,33),(3,9),(7,31),(8,31)],.cells [.int .i64 m3,.str m4,sl qac m,sl cS m5,.int .i64 m6,.str m7,.int .i64 m8,sl qaa m9,sl qaa m10] [(2,33),(8,31)]] []
noncomputable def qkT (v:(List tPred)) (t:tType) (d:tData) (t25:(List tPred)) (t26:Int) (m:(List tType)) (m2:(List tPred)) (m3:Int) (m4:Str) (m5:(List Str)) (m6:Int) (m7:Str) (m8:Int) (m9:(List tPred)) (o:(List tPred)):PSt:=stt 59 [(2,sl qaa v),(3,.eptr (qac t)),(4,.eptr (qau d)),(6,.bptr 2 0),(7,.bptr 3 0)] [.dead,.dead,.cells [.int .i64 0,.str ([]:Str),sl qac m,sl cS ([]:List Str),.int .i64 0,.str ([]:Str),.int .i64 0,sl qaa m2,sl qaa m2] [(2,33),(3,9),(7,31),(8,31)],.cells [.int .i64 m3,.str m4,sl qac m,sl cS m5,.int .i64 m6,.str m7,.int .i64 m8,sl qaa m9,sl qaa o] [(2,33),(8,31)]] []
noncomputable def qo4 (R119:qdp) (v:(List tPred)) (d:tData) (t25:(List tPred)) (t26:Int) (t27:Int) (m10:(List tPred)):Option ((Int×(List tPred))⊕(((List tPred)))) :=
  if (decide (t27 < t26)) = true then
    (idx t25 t27).bind fun x3 =>
    (qhz x3 d v).bind fun r4 =>
    (app m10 ([r4]:List tPred)).bind fun l5 =>
    some (.inl (w64 (t27 + 1),l5))
  else
    some (.inr m10)
noncomputable def qnV (R119:qdp) (v:(List tPred)) (d:tData) (t25:(List tPred)) (t26:Int) (t27:Int) (m10:(List tPred)):Option (((List tPred))):=loop (fun (zz:Int×(List tPred)) => qo4 R119 v d t25 t26 zz.1 zz.2) (t27,m10)
theorem qsk (R119:qdp) (hR119:qjS R119) (v:(List tPred)) (t:tType) (d:tData) (t25:(List tPred)) (t26:Int) (t27:Int) (m:(List tType)) (m2:(List tPred)) (m3:Int) (m4:Str) (m5:(List Str)) (m6:Int) (m7:Str) (m8:Int) (m9:(List tPred)) (m10:(List tPred)) {y:(Int×(List tPred))⊕(((List tPred)))} (h:qo4 R119 v d t25 t26 t27 m10 = some y) :
    Sat Pg GE 0 (cA b67 119) (LQ (fun (zz:Int×(List tPred)) => qf2 v t d t25 t26 zz.1 m m2 m3 m4 m5 m6 m7 m8 m9 zz.2) (fun _ => .exit 0) (qkT v t d t25 t26 m m2 m3 m4 m5 m6 m7 m8 m9) y) (qf2 v t d t25 t26 t27 m m2 m3 m4 m5 m6 m7 m8 m9 m10):=by
  rcases ifs h with ⟨c2,h⟩ | ⟨c2,h⟩
  · obtain ⟨x3,bx3,h⟩:=bnd h
    obtain ⟨r4,br4,h⟩:=bnd h
    obtain ⟨l5,bl5,h⟩:=bnd h
    obtain rfl:=lf h
    have z:=sg 0 c2 <| sv (sT29.ia (k := .i64) bx3) <| sv (qaj x3) <| sx pz31 <| sx (qan x3) <| sdr [0,1,0,0,0,28,60,127,255,511] <| sv (qah x3 []) <| sv (qig d) <| sca (qmD br4) <| sv (sT29.mk' (v:=qaP) qaq ([r4]:List tPred) 1 (by kernel_rfl)) <| sv (sT29.ap bl5) <| ssf (rfl:qbc (sl qaa l5) = some [sl qaa l5]) <| eFx 0 .normal (qf2 v t d t25 t26 (w64 (t27 + 1)) m m2 m3 m4 m5 m6 m7 m8 m9 l5) rfl (qb1 (aI (up (qad qab v)) (aI (qbQ (qag t)) (aI (qbQ (qbJ d)) (aI (qdu rfl) (aI (qdu rfl) (aI (up (qad qab t25)) (aI trivial (aI trivial trivial))))))))) (aI trivial (aI trivial (aI (aI trivial (aI trivial (aI (up (qad qag m)) (aI (up (qad clS ([]:List Str))) (aI trivial (aI trivial (aI trivial (aI (up (qad qab m2)) (aI (up (qad qab m2)) trivial))))))))) (aI (aI trivial (aI trivial (aI (up (qad qag m)) (aI (up (qad clS m5)) (aI trivial (aI trivial (aI trivial (aI (up (qad qab m9)) (aI (up (qad qab l5)) trivial))))))))) trivial))))
    exact qbK (A:=A67) mixed z (by kernel_rfl)
  · obtain rfl:=lf h
    have z:=sg 0 c2 <| eF (.exit 0) (qkT v t d t25 t26 m m2 m3 m4 m5 m6 m7 m8 m9 m10)
    exact qbE (A:=A67) mixed (by intro hx; cases hx) z (by kernel_rfl)
theorem qs2 (R119:qdp) (hR119:qjS R119) (v:(List tPred)) (t:tType) (d:tData) (t25:(List tPred)) (t26:Int) (t27:Int) (m:(List tType)) (m2:(List tPred)) (m3:Int) (m4:Str) (m5:(List Str)) (m6:Int) (m7:Str) (m8:Int) (m9:(List tPred)) (m10:(List tPred)) {x:((List tPred))} (h:qnV R119 v d t25 t26 t27 m10 = some x) :
    Sat Pg GE 0 (.loop (cA b67 119)) (EX (.exit 0) (qkT v t d t25 t26 m m2 m3 m4 m5 m6 m7 m8 m9 x)) (qf2 v t d t25 t26 t27 m m2 m3 m4 m5 m6 m7 m8 m9 m10) :=
  Sat.loop (S:=fun (zz:Int×(List tPred)) => qf2 v t d t25 t26 zz.1 m m2 m3 m4 m5 m6 m7 m8 m9 zz.2) (ex:=(fun _ => .exit 0)) (s:=(t27,m10)) h fun zz y hy => qsk R119 hR119 v t d t25 t26 zz.1 m m2 m3 m4 m5 m6 m7 m8 m9 zz.2 hy
noncomputable def qfT (v:(List tPred)) (d:tData) (t42:(List tType)) (t43:Int) (t44:Int) (m:(List tType)) (m2:(List tPred)) (m3:Int) (m4:Str) (m5:(List tType)) (m6:(List Str)) (m7:Int) (m8:Str) (m9:Int) (m10:(List tPred)) (m11:(List tPred)):PSt:=stt 59 [(2,sl qaa v),(4,.eptr (qau d)),(6,.bptr 2 0),(7,.bptr 3 0),(42,sl qac t42),(43,.int .i64 t43),(44,.int .i64 t44)] [.dead,.dead,.cells [.int .i64 0,.str ([]:Str),sl qac m,sl cS ([]:List Str),.int .i64 0,.str ([]:Str),.int .i64 0,sl qaa m2,sl qaa m2] [(2,33),(3,9),(7,31),(8,31)],.cells [.int .i64 m3,.str m4,sl qac m5,sl cS m6,.int .i64 m7,.str m8,.int .i64 m9,sl qaa m10,sl qaa m11] [(2,33),(8,31)]] []
noncomputable def qkL (v:(List tPred)) (d:tData) (t42:(List tType)) (t43:Int) (m:(List tType)) (m2:(List tPred)) (m3:Int) (m4:Str) (m6:(List Str)) (m7:Int) (m8:Str) (m9:Int) (m10:(List tPred)) (m11:(List tPred)) (o:(List tType)):PSt:=stt 59 [(6,.bptr 2 0),(7,.bptr 3 0)] [.dead,.dead,.cells [.int .i64 0,.str ([]:Str),sl qac m,sl cS ([]:List Str),.int .i64 0,.str ([]:Str),.int .i64 0,sl qaa m2,sl qaa m2] [(2,33),(3,9),(7,31),(8,31)],.cells [.int .i64 m3,.str m4,sl qac o,sl cS m6,.int .i64 m7,.str m8,.int .i64 m9,sl qaa m10,sl qaa m11] [(2,33),(8,31)]] []
noncomputable def qpc (R119:qdp) (v:(List tPred)) (d:tData) (t42:(List tType)) (t43:Int) (t44:Int) (m5:(List tType)):Option ((Int×(List tType))⊕(((List tType)))) :=
  if (decide (t44 < t43)) = true then
    (idx t42 t44).bind fun x8 =>
    (R119 x8 d v).bind fun r9 =>
    (app m5 ([r9]:List tType)).bind fun l10 =>
    some (.inl (w64 (t44 + 1),l10))
  else
    some (.inr m5)
noncomputable def qnZ (R119:qdp) (v:(List tPred)) (d:tData) (t42:(List tType)) (t43:Int) (t44:Int) (m5:(List tType)):Option (((List tType))):=loop (fun (zz:Int×(List tType)) => qpc R119 v d t42 t43 zz.1 zz.2) (t44,m5)
theorem qss (R119:qdp) (hR119:qjS R119) (v:(List tPred)) (d:tData) (t42:(List tType)) (t43:Int) (t44:Int) (m:(List tType)) (m2:(List tPred)) (m3:Int) (m4:Str) (m5:(List tType)) (m6:(List Str)) (m7:Int) (m8:Str) (m9:Int) (m10:(List tPred)) (m11:(List tPred)) {y:(Int×(List tType))⊕(((List tType)))} (h:qpc R119 v d t42 t43 t44 m5 = some y) :
    Sat Pg GE 0 (cA b67 247) (LQ (fun (zz:Int×(List tType)) => qfT v d t42 t43 zz.1 m m2 m3 m4 zz.2 m6 m7 m8 m9 m10 m11) (fun _ => .exit 2) (qkL v d t42 t43 m m2 m3 m4 m6 m7 m8 m9 m10 m11) y) (qfT v d t42 t43 t44 m m2 m3 m4 m5 m6 m7 m8 m9 m10 m11):=by
  rcases ifs h with ⟨c7,h⟩ | ⟨c7,h⟩
  · obtain ⟨x8,bx8,h⟩:=bnd h
    obtain ⟨r9,br9,h⟩:=bnd h
    obtain ⟨l10,bl10,h⟩:=bnd h
    obtain rfl:=lf h
    have z:=sg 0 c7 <| sv (sT27.ia (k := .i64) bx8) <| sv (qaZ x8) <| sx pz33 <| sx (qbr x8) <| sdr [0,1,0,0,0,28,60,127,255,511] <| sv (qaS x8 []) <| sv (qig d) <| sca (hR119 _ _ _ _ br9) <| sv (sT27.mk' (v:=qc4) qbv ([r9]:List tType) 1 (by kernel_rfl)) <| sv (sT27.ap bl10) <| ssf (rfl:qbc (sl qac l10) = some [sl qac l10]) <| eFx 0 .normal (qfT v d t42 t43 (w64 (t44 + 1)) m m2 m3 m4 l10 m6 m7 m8 m9 m10 m11) rfl (qb1 (aI (up (qad qab v)) (aI (qbQ (qbJ d)) (aI (qdu rfl) (aI (qdu rfl) (aI (up (qad qag t42)) (aI trivial (aI trivial trivial)))))))) (aI trivial (aI trivial (aI (aI trivial (aI trivial (aI (up (qad qag m)) (aI (up (qad clS ([]:List Str))) (aI trivial (aI trivial (aI trivial (aI (up (qad qab m2)) (aI (up (qad qab m2)) trivial))))))))) (aI (aI trivial (aI trivial (aI (up (qad qag l10)) (aI (up (qad clS m6)) (aI trivial (aI trivial (aI trivial (aI (up (qad qab m10)) (aI (up (qad qab m11)) trivial))))))))) trivial))))
    exact qbK (A:=A67) mixed z (by kernel_rfl)
  · obtain rfl:=lf h
    have z:=sg 0 c7 <| eF (.exit 2) (qkL v d t42 t43 m m2 m3 m4 m6 m7 m8 m9 m10 m11 m5)
    exact qbE (A:=A67) mixed (by intro hx; cases hx) z (by kernel_rfl)
theorem qtF (R119:qdp) (hR119:qjS R119) (v:(List tPred)) (d:tData) (t42:(List tType)) (t43:Int) (t44:Int) (m:(List tType)) (m2:(List tPred)) (m3:Int) (m4:Str) (m5:(List tType)) (m6:(List Str)) (m7:Int) (m8:Str) (m9:Int) (m10:(List tPred)) (m11:(List tPred)) {x:((List tType))} (h:qnZ R119 v d t42 t43 t44 m5 = some x) :
    Sat Pg GE 0 (.loop (cA b67 247)) (EX (.exit 2) (qkL v d t42 t43 m m2 m3 m4 m6 m7 m8 m9 m10 m11 x)) (qfT v d t42 t43 t44 m m2 m3 m4 m5 m6 m7 m8 m9 m10 m11) :=
  Sat.loop (S:=fun (zz:Int×(List tType)) => qfT v d t42 t43 zz.1 m m2 m3 m4 zz.2 m6 m7 m8 m9 m10 m11) (ex:=(fun _ => .exit 2)) (s:=(t44,m5)) h fun zz y hy => qss R119 hR119 v d t42 t43 zz.1 m m2 m3 m4 zz.2 m6 m7 m8 m9 m10 m11 hy
noncomputable def qmp (R119:qdp) (t:tType) (d:tData) (a:(List tPred)):Option (tType) :=
  (qhz t.Pred d a).bind fun r1 =>
  (qnV R119 a d t.Preds (t.Preds.length:Int) 0 ([]:List tPred)).bind fun o6 =>
  (qnZ R119 a d t.Args (t.Args.length:Int) 0 ([]:List tType)).bind fun o11 =>
  some (⟨t.Op,t.Name,o11,t.Names,r1,o6⟩:tType)
theorem qu2 (R119:qdp) (hR119:qjS R119) {t:tType} {d:tData} {a:(List tPred)} {r:tType} (h:qmp R119 t d a = some r):CC Pg GE 67 [.agg (qac t),.agg (qau d),sl qaa a] (.agg (qac r)) [(2,33),(8,31)]:=by
  obtain ⟨r1,br1,h⟩:=bnd h
  obtain ⟨o6,bo6,h⟩:=bnd h
  obtain ⟨o11,bo11,h⟩:=bnd h
  obtain rfl:=lf h
  have z:=se (qbX t) <| se (qsx d) <| sx pz33 <| sdr [0,1,0,4,0,16,0,64,0,0,960,2047,0,8191] <| sv (qaJ t) <| sv (qaH t) <| sv (qbp t) <| sv (qbu t) <| sv (qaM t) <| sv (qaN t) <| sv (qcJ t) <| sv (qcK t) <| sv (qig d) <| sca (qmD br1) <| sb (qso t.Op t.Name t.Names r1) (qsh t.Op t.Name t.Names r1) <| syx (qbr (⟨t.Op,t.Name,([]:List tType),t.Names,r1,([]:List tPred)⟩:tType)) <| sv (qaV t) <| sv (qaT t) <| svn (sT29.ln t.Preds) <| spc (qs2 R119 hR119 a t d t.Preds (t.Preds.length:Int) 0 ([]:List tType) ([]:List tPred) t.Op t.Name t.Names r1.Op r1.Name r1.N r1.Kids ([]:List tPred) bo6) <| sv (qaG t) <| sv (qaI t) <| svn (sT27.ln t.Args) <| spc (qtF R119 hR119 a d t.Args (t.Args.length:Int) 0 ([]:List tType) ([]:List tPred) t.Op t.Name ([]:List tType) t.Names r1.Op r1.Name r1.N r1.Kids o6 bo11) <| sz (qaS (⟨t.Op,t.Name,o11,t.Names,r1,o6⟩:tType) []) <| sy (qaB (⟨t.Op,t.Name,o11,t.Names,r1,o6⟩:tType)) <| en (aI (qc8 (⟨t.Op,t.Name,o11,t.Names,r1,o6⟩:tType)) <| aI (qag (⟨t.Op,t.Name,o11,t.Names,r1,o6⟩:tType)) <| rT)
  exact C.evp (A:=A67) mixed Tryz.call67 Tryz.func67 (c:=b67) rfl (aI (qag t) (aI (qbJ d) (aI (qad qab a) trivial))) z (by kernel_rfl)
noncomputable def qpM:((tType×tData×(List tPred))→Option (tType))→(tType×tData×(List tPred))→Option (tType):=fun (rec:(tType×tData×(List tPred))→Option (tType)) (x:tType×tData×(List tPred)) => qmp (fun t d a => rec (t,d,a)) x.1 x.2.1 x.2.2
noncomputable def qqm (t:tType) (d:tData) (a:(List tPred)):Option (tType):=fixE (qpM) (t,d,a)
theorem qv8 {t:tType} {d:tData} {a:(List tPred)} {r:tType} (h:qqm t d a = some r):CC Pg GE 67 [.agg (qac t),.agg (qau d),sl qaa a] (.agg (qac r)) [(2,33),(8,31)] :=
  qcs (F:=qpM) (M:=fun (x:tType×tData×(List tPred)) (r:tType) => CC Pg GE 67 [.agg (qac x.1),.agg (qau x.2.1),sl qaa x.2.2] (.agg (qac r)) [(2,33),(8,31)]) (fun rec hrec x r h => qu2 _ (fun t d a r h => hrec (t,d,a) r h) h) h
noncomputable def b24:Code:=Tryz.f24.body.getD .skip
def A24:List Nat:=[34,42]
noncomputable def qe4 (v:(List tPred)) (out:(List tType)) (t28:(List tType)) (t29:Int) (t30:Int) (m:Str) (m2:(List Str)) (m3:(List tVar)) (m4:(List tCon)):PSt:=stt 43 [(2,sl qaa v),(8,.bptr 1 0),(11,sl qac out),(28,sl qac t28),(29,.int .i64 t29),(30,.int .i64 t30)] [.dead,.cells [.str m,sl cS m2,sl qay m3,sl qbf m4] []] [((11,0),33)]
noncomputable def qjx (v:(List tPred)) (t28:(List tType)) (t29:Int) (m:Str) (m2:(List Str)) (m3:(List tVar)) (m4:(List tCon)) (o:(List tType)):PSt:=stt 43 [(11,sl qac o)] [.dead,.cells [.str m,sl cS m2,sl qay m3,sl qbf m4] []] [((11,0),33)]
noncomputable def qnS (v:(List tPred)) (t28:(List tType)) (t29:Int) (m:Str) (m2:(List Str)) (m3:(List tVar)) (m4:(List tCon)) (out:(List tType)) (t30:Int):Option (((List tType)×Int)⊕(((List tType)))) :=
  if (decide (t30 < t29)) = true then
    (idx t28 t30).bind fun x5 =>
    (qqm x5 (⟨m,m2,m3,m4⟩:tData) v).bind fun r6 =>
    (app out ([r6]:List tType)).bind fun l7 =>
    some (.inl (l7,w64 (t30 + 1)))
  else
    some (.inr out)
noncomputable def qmt (v:(List tPred)) (t28:(List tType)) (t29:Int) (m:Str) (m2:(List Str)) (m3:(List tVar)) (m4:(List tCon)) (out:(List tType)) (t30:Int):Option (((List tType))):=loop (fun (zz:(List tType)×Int) => qnS v t28 t29 m m2 m3 m4 zz.1 zz.2) (out,t30)
theorem qrC (v:(List tPred)) (out:(List tType)) (t28:(List tType)) (t29:Int) (t30:Int) (m:Str) (m2:(List Str)) (m3:(List tVar)) (m4:(List tCon)) {y:((List tType)×Int)⊕(((List tType)))} (h:qnS v t28 t29 m m2 m3 m4 out t30 = some y) :
    Sat Pg GE 0 (cA b24 503) (LQ (fun (zz:(List tType)×Int) => qe4 v zz.1 t28 t29 zz.2 m m2 m3 m4) (fun _ => .exit 0) (qjx v t28 t29 m m2 m3 m4) y) (qe4 v out t28 t29 t30 m m2 m3 m4):=by
  rcases ifs h with ⟨c4,h⟩ | ⟨c4,h⟩
  · obtain ⟨x5,bx5,h⟩:=bnd h
    obtain ⟨r6,br6,h⟩:=bnd h
    obtain ⟨l7,bl7,h⟩:=bnd h
    obtain rfl:=lf h
    have z:=sg 0 c4 <| sv (sT27.ia (k := .i64) bx5) <| sv (qaZ x5) <| sx pz33 <| sx (qbr x5) <| sv (qaS x5 []) <| sv (qwe (⟨m,m2,m3,m4⟩:tData) []) <| sca (qv8 br6) <| sv (sT27.mk' (v:=qc4) qbv ([r6]:List tType) 1 (by kernel_rfl)) <| sv (sT27.ap bl7) <| eFx 0 .normal (qe4 v l7 t28 t29 (w64 (t30 + 1)) m m2 m3 m4) rfl (qb1 (aI (up (qad qab v)) (aI (qdu rfl) (aI (up (qad qag l7)) (aI (up (qad qag t28)) (aI trivial (aI trivial trivial))))))) (aI trivial (aI (aI trivial (aI (up (qad clS m2)) (aI (up (qad qbG m3)) (aI (up (qad qhX m4)) trivial)))) trivial))
    exact qbK (A:=A24) mixed z (by kernel_rfl)
  · obtain rfl:=lf h
    have z:=sg 0 c4 <| eF (.exit 0) (qjx v t28 t29 m m2 m3 m4 out)
    exact qbE (A:=A24) mixed (by intro hx; cases hx) z (by kernel_rfl)
theorem qsn (v:(List tPred)) (out:(List tType)) (t28:(List tType)) (t29:Int) (t30:Int) (m:Str) (m2:(List Str)) (m3:(List tVar)) (m4:(List tCon)) {x:((List tType))} (h:qmt v t28 t29 m m2 m3 m4 out t30 = some x) :
    Sat Pg GE 0 (.loop (cA b24 503)) (EX (.exit 0) (qjx v t28 t29 m m2 m3 m4 x)) (qe4 v out t28 t29 t30 m m2 m3 m4) :=
  Sat.loop (S:=fun (zz:(List tType)×Int) => qe4 v zz.1 t28 t29 zz.2 m m2 m3 m4) (ex:=(fun _ => .exit 0)) (s:=(out,t30)) h fun zz y hy => qrC v zz.1 t28 t29 zz.2 m m2 m3 m4 hy
noncomputable def qrn (m:tModule) (con:Str) (a:(List tPred)):Option ((List tType)×Bool) :=
  (quG m con).bind fun r1 =>
  if (!r1.2.2) = true then
    some (([]:List tType),false)
  else
    (idx r1.1.Cons r1.2.1).bind fun x3 =>
    (qmt a x3.Fields (x3.Fields.length:Int) r1.1.Name r1.1.Vars r1.1.Preds r1.1.Cons ([]:List tType) 0).bind fun o8 =>
    some (o8,true)
theorem qlH {m:tModule} {con:Str} {a:(List tPred)} {r:(List tType)×Bool} (h:qrn m con a = some r):CC Pg GE 24 [.agg (qaL m),.str con,sl qaa a] (.tuple [sl qac r.1,.bool r.2]) [(0,33)]:=by
  obtain ⟨r1,br1,h⟩:=bnd h
  rcases ifs h with ⟨c2,h⟩ | ⟨c2,h⟩
  · obtain rfl:=lf h
    have z:=se (qc0 m) <| sv (qeF m) <| sca (quq br1) <| sx pz61 <| sx (qfg r1.1) <| sg 0 c2 <| en (aI (rP (.tuple [sl qac ([]:List tType),.bool false])) <| (aI (qad qag ([]:List tType)) (aI trivial trivial)))
    exact C.evp (A:=A24) mixed Tryz.call24 Tryz.func24 (c:=b24) rfl (aI (qb2 m) (aI trivial (aI (qad qab a) trivial))) z (by kernel_rfl)
  · obtain ⟨x3,bx3,h⟩:=bnd h
    obtain ⟨o8,bo8,h⟩:=bnd h
    obtain rfl:=lf h
    have z:=se (qc0 m) <| sv (qeF m) <| sca (quq br1) <| sx pz61 <| sx (qfg r1.1) <| sg 0 c2 <| ss <| sv (sT59.ia (k := .i64) bx3) <| sv (qrT x3) <| sv (qrR x3) <| svn (sT27.ln x3.Fields) <| spc (qsn a ([]:List tType) x3.Fields (x3.Fields.length:Int) 0 r1.1.Name r1.1.Vars r1.1.Preds r1.1.Cons bo8) <| en (aI (rP (.tuple [sl qac o8,.bool true])) <| (aI (qad qag o8) (aI trivial trivial)))
    exact C.evp (A:=A24) mixed Tryz.call24 Tryz.func24 (c:=b24) rfl (aI (qb2 m) (aI trivial (aI (qad qab a) trivial))) z (by kernel_rfl)
noncomputable def b5:Code:=Tryz.f5.body.getD .skip
def A5:List Nat:=[111]
noncomputable def ql7 (con:Str) (v:(List tPred)) (m:tModule):PSt:=stt 124 [(1,.str con),(2,sl qaa v),(3,.eptr (qaL m))] [.dead] []
noncomputable def qej (con:Str) (v:(List tPred)) (m:tModule) (o:Bool):PSt:=stt 124 [(1,.str con),(2,sl qaa v),(3,.eptr (qaL m)),(26,.bool o)] [.dead] []
noncomputable def qe1 (v:(List tPred)) (m:tModule):Option ((Bool)) :=
  if (decide ((m.Datas.length:Int) > 10)) = true then
    some true
  else
    some (decide ((v.length:Int) > 8))
theorem qbL (con:Str) (v:(List tPred)) (m:tModule) {x:(Bool)} (h:qe1 v m = some x) :
    Sat Pg GE 0 (cA b5 12) (EX .normal (qej con v m x)) (ql7 con v m):=by
  rcases ifs h with ⟨c1,h⟩ | ⟨c1,h⟩
  · obtain rfl:=lf h
    have z:=sv (qaY m) <| sv (qaX m) <| svn (sT50.ln m.Datas) <| sg 5 c1 <| eF .normal (qej con v m true)
    exact qaR (A:=A5) mixed z (by kernel_rfl)
  · obtain rfl:=lf h
    have z:=sv (qaY m) <| sv (qaX m) <| svn (sT50.ln m.Datas) <| sg 5 c1 <| svn (sT29.ln v) <| eF .normal (qej con v m (decide ((v.length:Int) > 8)))
    exact qaR (A:=A5) mixed z (by kernel_rfl)
noncomputable def qcd (con:Str) (v:(List tPred)) (m:tModule) (t29:Int) (t30:Int):PSt:=stt 124 [(1,.str con),(2,sl qaa v),(3,.eptr (qaL m)),(28,sl qaa v),(29,.int .i64 t29),(30,.int .i64 t30)] [.dead] []
noncomputable def qcn (o:(Bool)⊕(Unit)):Exit:=match o with
  | (.inl _) => .ret
  | (.inr _) => .exit 0
noncomputable def qa8 (con:Str) (v:(List tPred)) (m:tModule) (t29:Int) (o:(Bool)⊕(Unit)):PSt:=match o with
  | (.inl o) => stt 124 [(6,.bool o)] [.dead] []
  | (.inr o) => stt 124 [(1,.str con),(2,sl qaa v),(3,.eptr (qaL m))] [.dead] []
noncomputable def qht (v:(List tPred)) (t29:Int) (t30:Int):Option ((Int)⊕((Bool)⊕(Unit))) :=
  if (decide (t30 < t29)) = true then
    (idx v t30).bind fun x6 =>
    (qqT x6).bind fun r7 =>
    if (decide (r7 > 10)) = true then
      (qjE).bind fun r9 =>
      some (.inr (.inl r9))
    else
      some (.inl (w64 (t30 + 1)))
  else
    some (.inr (.inr ()))
noncomputable def qe2 (v:(List tPred)) (t29:Int) (t30:Int):Option ((Bool)⊕(Unit)):=loop (fun (zz:Int) => qht v t29 zz) t30
theorem qk2 (con:Str) (v:(List tPred)) (m:tModule) (t29:Int) (t30:Int) {y:(Int)⊕((Bool)⊕(Unit))} (h:qht v t29 t30 = some y) :
    Sat Pg GE 0 (cA b5 119) (LQ (fun (zz:Int) => qcd con v m t29 zz) qcn (qa8 con v m t29) y) (qcd con v m t29 t30):=by
  rcases ifs h with ⟨c5,h⟩ | ⟨c5,h⟩
  · obtain ⟨x6,bx6,h⟩:=bnd h
    obtain ⟨r7,br7,h⟩:=bnd h
    rcases ifs h with ⟨c8,h⟩ | ⟨c8,h⟩
    · obtain ⟨r9,br9,h⟩:=bnd h
      obtain rfl:=lf h
      have z:=sg 0 c5 <| sv (sT29.ia (k := .i64) bx6) <| sv (qaj x6) <| sx pz31 <| sx (qan x6) <| sv (qah x6 []) <| sca (qki br7) <| sg 0 c8 <| sca (qiw br9) <| eFx 0 (qcn (.inl r9)) (qa8 con v m t29 (.inl r9)) rfl (qb1 (aI trivial trivial)) (aI trivial trivial)
      exact qi1 (A:=A5) mixed (by intro hx; cases hx) z (by kernel_rfl)
    · obtain rfl:=lf h
      have z:=sg 0 c5 <| sv (sT29.ia (k := .i64) bx6) <| sv (qaj x6) <| sx pz31 <| sx (qan x6) <| sv (qah x6 []) <| sca (qki br7) <| sg 0 c8 <| eFx 0 .normal (qcd con v m t29 (w64 (t30 + 1))) rfl (qb1 (aI trivial (aI (up (qad qab v)) (aI (qbQ (qb2 m)) (aI (up (qad qab v)) (aI trivial (aI trivial trivial))))))) (aI trivial trivial)
      exact qbK (A:=A5) mixed z (by kernel_rfl)
  · obtain rfl:=lf h
    have z:=sg 0 c5 <| eF (qcn (.inr ())) (qa8 con v m t29 (.inr ()))
    exact qbE (A:=A5) mixed (by intro hx; cases hx) z (by kernel_rfl)
theorem qb8 (con:Str) (v:(List tPred)) (m:tModule) (t29:Int) (t30:Int) {x:(Bool)⊕(Unit)} (h:qe2 v t29 t30 = some x) :
    Sat Pg GE 0 (.loop (cA b5 119)) (EX (qcn x) (qa8 con v m t29 x)) (qcd con v m t29 t30) :=
  Sat.loop (S:=fun (zz:Int) => qcd con v m t29 zz) (ex:=qcn) (s:=t30) h fun zz y hy => qk2 con v m t29 zz hy
noncomputable def qcm (con:Str) (v:(List tPred)) (m:tModule) (t40:(List tData)) (t41:Int) (t42:Int):PSt:=stt 124 [(1,.str con),(2,sl qaa v),(3,.eptr (qaL m)),(40,sl qau t40),(41,.int .i64 t41),(42,.int .i64 t42)] [.dead] []
noncomputable def qbV (o:(Bool)⊕(Unit)):Exit:=match o with
  | (.inl _) => .ret
  | (.inr _) => .exit 2
noncomputable def qba (con:Str) (v:(List tPred)) (m:tModule) (t40:(List tData)) (t41:Int) (o:(Bool)⊕(Unit)):PSt:=match o with
  | (.inl o) => stt 124 [(6,.bool o)] [.dead] []
  | (.inr o) => stt 124 [(1,.str con),(2,sl qaa v),(3,.eptr (qaL m))] [.dead] []
noncomputable def qlG (con:Str) (v:(List tPred)) (m:tModule) (t40:(List tData)) (t41:Int) (t42:Int) (m2:Str) (m3:(List Str)) (m4:(List tVar)) (m5:(List tCon)):PSt:=stt 124 [(1,.str con),(2,sl qaa v),(3,.eptr (qaL m)),(10,.bptr 1 0),(40,sl qau t40),(41,.int .i64 t41),(42,.int .i64 t42)] [.dead,.cells [.str m2,sl cS m3,sl qay m4,sl qbf m5] []] []
noncomputable def qen (con:Str) (v:(List tPred)) (m:tModule) (t40:(List tData)) (t41:Int) (t42:Int) (m2:Str) (m3:(List Str)) (m4:(List tVar)) (m5:(List tCon)) (o:Bool):PSt:=stt 124 [(1,.str con),(2,sl qaa v),(3,.eptr (qaL m)),(10,.bptr 1 0),(40,sl qau t40),(41,.int .i64 t41),(42,.int .i64 t42),(55,.bool o)] [.dead,.cells [.str m2,sl cS m3,sl qay m4,sl qbf m5] []] []
noncomputable def qe8 (m4:(List tVar)) (m5:(List tCon)):Option ((Bool)) :=
  if (decide ((m5.length:Int) > 10)) = true then
    some true
  else
    some (decide ((m4.length:Int) > 10))
theorem qd6 (con:Str) (v:(List tPred)) (m:tModule) (t40:(List tData)) (t41:Int) (t42:Int) (m2:Str) (m3:(List Str)) (m4:(List tVar)) (m5:(List tCon)) {x:(Bool)} (h:qe8 m4 m5 = some x) :
    Sat Pg GE 0 (cA b5 31724) (EX .normal (qen con v m t40 t41 t42 m2 m3 m4 m5 x)) (qlG con v m t40 t41 t42 m2 m3 m4 m5):=by
  rcases ifs h with ⟨c13,h⟩ | ⟨c13,h⟩
  · obtain rfl:=lf h
    have z:=ss <| svn (sT59.ln m5) <| sg 5 c13 <| eF .normal (qen con v m t40 t41 t42 m2 m3 m4 m5 true)
    exact qaR (A:=A5) mixed z (by kernel_rfl)
  · obtain rfl:=lf h
    have z:=ss <| svn (sT59.ln m5) <| sg 5 c13 <| ss <| svn (sT36.ln m4) <| eF .normal (qen con v m t40 t41 t42 m2 m3 m4 m5 (decide ((m4.length:Int) > 10)))
    exact qaR (A:=A5) mixed z (by kernel_rfl)
noncomputable def qce (con:Str) (v:(List tPred)) (m:tModule) (t40:(List tData)) (t41:Int) (t42:Int) (t58:(List tCon)) (t59:Int) (t60:Int) (m2:Str) (m3:(List Str)) (m4:(List tVar)):PSt:=stt 124 [(1,.str con),(2,sl qaa v),(3,.eptr (qaL m)),(40,sl qau t40),(41,.int .i64 t41),(42,.int .i64 t42),(58,sl qbf t58),(59,.int .i64 t59),(60,.int .i64 t60)] [.dead,.cells [.str m2,sl cS m3,sl qay m4,sl qbf t58] []] []
noncomputable def qcg (o:(Bool)⊕(Unit)):Exit:=match o with
  | (.inl _) => .ret
  | (.inr _) => .exit 4
noncomputable def qbR (con:Str) (v:(List tPred)) (m:tModule) (t40:(List tData)) (t41:Int) (t42:Int) (t58:(List tCon)) (t59:Int) (m2:Str) (m3:(List Str)) (m4:(List tVar)) (o:(Bool)⊕(Unit)):PSt:=match o with
  | (.inl o) => stt 124 [(6,.bool o)] [.dead,.cells [.str m2,sl cS m3,sl qay m4,sl qbf t58] []] []
  | (.inr o) => stt 124 [(1,.str con),(2,sl qaa v),(3,.eptr (qaL m)),(40,sl qau t40),(41,.int .i64 t41),(42,.int .i64 t42)] [.dead,.cells [.str m2,sl cS m3,sl qay m4,sl qbf t58] []] []
noncomputable def ql2 (con:Str) (v:(List tPred)) (m:tModule) (t40:(List tData)) (t41:Int) (t42:Int) (t58:(List tCon)) (t59:Int) (t60:Int) (m2:Str) (m3:(List Str)) (m4:(List tVar)) (m5:Str) (m6:(List Str)) (m7:(List tType)):PSt:=stt 124 [(1,.str con),(2,sl qaa v),(3,.eptr (qaL m)),(12,.bptr 2 0),(40,sl qau t40),(41,.int .i64 t41),(42,.int .i64 t42),(58,sl qbf t58),(59,.int .i64 t59),(60,.int .i64 t60)] [.dead,.cells [.str m2,sl cS m3,sl qay m4,sl qbf t58] [],.cells [.str m5,sl cS m6,sl qac m7] []] []
noncomputable def qdd (con:Str) (v:(List tPred)) (m:tModule) (t40:(List tData)) (t41:Int) (t42:Int) (t58:(List tCon)) (t59:Int) (t60:Int) (m2:Str) (m3:(List Str)) (m4:(List tVar)) (m5:Str) (m6:(List Str)) (m7:(List tType)) (o:Bool):PSt:=stt 124 [(1,.str con),(2,sl qaa v),(3,.eptr (qaL m)),(40,sl qau t40),(41,.int .i64 t41),(42,.int .i64 t42),(58,sl qbf t58),(59,.int .i64 t59),(60,.int .i64 t60),(79,.bool o)] [.dead,.cells [.str m2,sl cS m3,sl qay m4,sl qbf t58] [],.cells [.str m5,sl cS m6,sl qac m7] []] []
noncomputable def qe3 (m7:(List tType)):Option ((Bool)) :=
  if (decide ((m7.length:Int) > 10)) = true then
    some true
  else
    (qw0 m7).bind fun r20 =>
    if (!r20) = true then
      some true
    else
      (qu8 m7).bind fun r22 =>
      some (!r22)
theorem qgw (con:Str) (v:(List tPred)) (m:tModule) (t40:(List tData)) (t41:Int) (t42:Int) (t58:(List tCon)) (t59:Int) (t60:Int) (m2:Str) (m3:(List Str)) (m4:(List tVar)) (m5:Str) (m6:(List Str)) (m7:(List tType)) {x:(Bool)} (h:qe3 m7 = some x) :
    Sat Pg GE 0 (cA b5 8122358) (EX .normal (qdd con v m t40 t41 t42 t58 t59 t60 m2 m3 m4 m5 m6 m7 x)) (ql2 con v m t40 t41 t42 t58 t59 t60 m2 m3 m4 m5 m6 m7):=by
  rcases ifs h with ⟨c19,h⟩ | ⟨c19,h⟩
  · obtain rfl:=lf h
    have z:=ss <| svn (sT27.ln m7) <| sg 5 c19 <| eF .normal (qdd con v m t40 t41 t42 t58 t59 t60 m2 m3 m4 m5 m6 m7 true)
    exact qaR (A:=A5) mixed z (by kernel_rfl)
  · obtain ⟨r20,br20,h⟩:=bnd h
    rcases ifs h with ⟨c21,h⟩ | ⟨c21,h⟩
    · obtain rfl:=lf h
      have z:=ss <| svn (sT27.ln m7) <| sg 5 c19 <| ss <| sca (qus br20) <| sg 11 c21 <| eF .normal (qdd con v m t40 t41 t42 t58 t59 t60 m2 m3 m4 m5 m6 m7 true)
      exact qaR (A:=A5) mixed z (by kernel_rfl)
    · obtain ⟨r22,br22,h⟩:=bnd h
      obtain rfl:=lf h
      have z:=ss <| svn (sT27.ln m7) <| sg 5 c19 <| ss <| sca (qus br20) <| sg 11 c21 <| ss <| sca (qwS br22) <| eF .normal (qdd con v m t40 t41 t42 t58 t59 t60 m2 m3 m4 m5 m6 m7 (!r22))
      exact qaR (A:=A5) mixed z (by kernel_rfl)
noncomputable def qhc (t58:(List tCon)) (t59:Int) (t60:Int):Option ((Int)⊕((Bool)⊕(Unit))) :=
  if (decide (t60 < t59)) = true then
    (idx t58 t60).bind fun x18 =>
    (qe3 x18.Fields).bind fun o23 =>
    if o23 = true then
      (qjE).bind fun r25 =>
      some (.inr (.inl r25))
    else
      some (.inl (w64 (t60 + 1)))
  else
    some (.inr (.inr ()))
noncomputable def qfd (t58:(List tCon)) (t59:Int) (t60:Int):Option ((Bool)⊕(Unit)):=loop (fun (zz:Int) => qhc t58 t59 zz) t60
theorem qkZ (con:Str) (v:(List tPred)) (m:tModule) (t40:(List tData)) (t41:Int) (t42:Int) (t58:(List tCon)) (t59:Int) (t60:Int) (m2:Str) (m3:(List Str)) (m4:(List tVar)) {y:(Int)⊕((Bool)⊕(Unit))} (h:qhc t58 t59 t60 = some y) :
    Sat Pg GE 0 (cA b5 126911) (LQ (fun (zz:Int) => qce con v m t40 t41 t42 t58 t59 zz m2 m3 m4) qcg (qbR con v m t40 t41 t42 t58 t59 m2 m3 m4) y) (qce con v m t40 t41 t42 t58 t59 t60 m2 m3 m4):=by
  rcases ifs h with ⟨c17,h⟩ | ⟨c17,h⟩
  · obtain ⟨x18,bx18,h⟩:=bnd h
    obtain ⟨o23,bo23,h⟩:=bnd h
    rcases ifs h with ⟨c24,h⟩ | ⟨c24,h⟩
    · obtain ⟨r25,br25,h⟩:=bnd h
      obtain rfl:=lf h
      have z:=sg 0 c17 <| sv (sT59.ia (k := .i64) bx18) <| sv (qvr x18) <| sx pz63 <| sx (qsz x18) <| spa 0 <| spc (qgw con v m t40 t41 t42 t58 t59 t60 m2 m3 m4 x18.Name x18.Names x18.Fields bo23) <| sg 0 c24 <| sca (qiw br25) <| eFx 0 (qcg (.inl r25)) (qbR con v m t40 t41 t42 t58 t59 m2 m3 m4 (.inl r25)) rfl (qb1 (aI trivial trivial)) (aI trivial (aI (aI trivial (aI (up (qad clS m3)) (aI (up (qad qbG m4)) (aI (up (qad qhX t58)) trivial)))) trivial))
      exact qi1 (A:=A5) mixed (by intro hx; cases hx) z (by kernel_rfl)
    · obtain rfl:=lf h
      have z:=sg 0 c17 <| sv (sT59.ia (k := .i64) bx18) <| sv (qvr x18) <| sx pz63 <| sx (qsz x18) <| spa 0 <| spc (qgw con v m t40 t41 t42 t58 t59 t60 m2 m3 m4 x18.Name x18.Names x18.Fields bo23) <| sg 0 c24 <| eFx 0 .normal (qce con v m t40 t41 t42 t58 t59 (w64 (t60 + 1)) m2 m3 m4) rfl (qb1 (aI trivial (aI (up (qad qab v)) (aI (qbQ (qb2 m)) (aI (up (qad qbJ t40)) (aI trivial (aI trivial (aI (up (qad qhX t58)) (aI trivial (aI trivial trivial)))))))))) (aI trivial (aI (aI trivial (aI (up (qad clS m3)) (aI (up (qad qbG m4)) (aI (up (qad qhX t58)) trivial)))) trivial))
      exact qbK (A:=A5) mixed z (by kernel_rfl)
  · obtain rfl:=lf h
    have z:=sg 0 c17 <| eF (qcg (.inr ())) (qbR con v m t40 t41 t42 t58 t59 m2 m3 m4 (.inr ()))
    exact qbE (A:=A5) mixed (by intro hx; cases hx) z (by kernel_rfl)
theorem qgv (con:Str) (v:(List tPred)) (m:tModule) (t40:(List tData)) (t41:Int) (t42:Int) (t58:(List tCon)) (t59:Int) (t60:Int) (m2:Str) (m3:(List Str)) (m4:(List tVar)) {x:(Bool)⊕(Unit)} (h:qfd t58 t59 t60 = some x) :
    Sat Pg GE 0 (.loop (cA b5 126911)) (EX (qcg x) (qbR con v m t40 t41 t42 t58 t59 m2 m3 m4 x)) (qce con v m t40 t41 t42 t58 t59 t60 m2 m3 m4) :=
  Sat.loop (S:=fun (zz:Int) => qce con v m t40 t41 t42 t58 t59 zz m2 m3 m4) (ex:=qcg) (s:=t60) h fun zz y hy => qkZ con v m t40 t41 t42 t58 t59 zz m2 m3 m4 hy
noncomputable def qgY (t40:(List tData)) (t41:Int) (t42:Int):Option ((Int)⊕((Bool)⊕(Unit))) :=
  if (decide (t42 < t41)) = true then
    (idx t40 t42).bind fun x12 =>
    (qe8 x12.Preds x12.Cons).bind fun o14 =>
    if o14 = true then
      (qjE).bind fun r16 =>
      some (.inr (.inl r16))
    else
      (qfd x12.Cons (x12.Cons.length:Int) 0).bind fun o26 => match o26 with
      | (.inl o26) =>
        some (.inr (.inl o26))
      | (.inr o26) =>
        some (.inl (w64 (t42 + 1)))
  else
    some (.inr (.inr ()))
noncomputable def qfa (t40:(List tData)) (t41:Int) (t42:Int):Option ((Bool)⊕(Unit)):=loop (fun (zz:Int) => qgY t40 t41 zz) t42
theorem qkU (con:Str) (v:(List tPred)) (m:tModule) (t40:(List tData)) (t41:Int) (t42:Int) {y:(Int)⊕((Bool)⊕(Unit))} (h:qgY t40 t41 t42 = some y) :
    Sat Pg GE 0 (cA b5 247) (LQ (fun (zz:Int) => qcm con v m t40 t41 zz) qbV (qba con v m t40 t41) y) (qcm con v m t40 t41 t42):=by
  rcases ifs h with ⟨c11,h⟩ | ⟨c11,h⟩
  · obtain ⟨x12,bx12,h⟩:=bnd h
    obtain ⟨o14,bo14,h⟩:=bnd h
    rcases ifs h with ⟨c15,h⟩ | ⟨c15,h⟩
    · obtain ⟨r16,br16,h⟩:=bnd h
      obtain rfl:=lf h
      have z:=sg 0 c11 <| sv (sT50.ia (k := .i64) bx12) <| sv (qig x12) <| sx pz61 <| sx (qfg x12) <| spa 1 <| spc (qd6 con v m t40 t41 t42 x12.Name x12.Vars x12.Preds x12.Cons bo14) <| sg 0 c15 <| sca (qiw br16) <| eFx 0 (qbV (.inl r16)) (qba con v m t40 t41 (.inl r16)) rfl (qb1 (aI trivial trivial)) (aI trivial trivial)
      exact qi1 (A:=A5) mixed (by intro hx; cases hx) z (by kernel_rfl)
    · obtain ⟨o26,bo26,h⟩:=bnd h
      rcases o26 with o26 | o26
      · obtain rfl:=lf h
        have z:=sg 0 c11 <| sv (sT50.ia (k := .i64) bx12) <| sv (qig x12) <| sx pz61 <| sx (qfg x12) <| spa 1 <| spc (qd6 con v m t40 t41 t42 x12.Name x12.Vars x12.Preds x12.Cons bo14) <| sg 0 c15 <| ss <| svn (sT59.ln x12.Cons) <| spc (e := .ret) (s1:=qbR con v m t40 t41 t42 x12.Cons (x12.Cons.length:Int) x12.Name x12.Vars x12.Preds (.inl o26)) (qgv con v m t40 t41 t42 x12.Cons (x12.Cons.length:Int) 0 x12.Name x12.Vars x12.Preds bo26) <| eFx 0 (qbV (.inl o26)) (qba con v m t40 t41 (.inl o26)) rfl (qb1 (aI trivial trivial)) (aI trivial trivial)
        exact qi1 (A:=A5) mixed (by intro hx; cases hx) z (by kernel_rfl)
      · obtain rfl:=lf h
        have z:=sg 0 c11 <| sv (sT50.ia (k := .i64) bx12) <| sv (qig x12) <| sx pz61 <| sx (qfg x12) <| spa 1 <| spc (qd6 con v m t40 t41 t42 x12.Name x12.Vars x12.Preds x12.Cons bo14) <| sg 0 c15 <| ss <| svn (sT59.ln x12.Cons) <| spc (e := .exit 4) (s1:=qbR con v m t40 t41 t42 x12.Cons (x12.Cons.length:Int) x12.Name x12.Vars x12.Preds (.inr o26)) (qgv con v m t40 t41 t42 x12.Cons (x12.Cons.length:Int) 0 x12.Name x12.Vars x12.Preds bo26) <| eFx 0 .normal (qcm con v m t40 t41 (w64 (t42 + 1))) rfl (qb1 (aI trivial (aI (up (qad qab v)) (aI (qbQ (qb2 m)) (aI (up (qad qbJ t40)) (aI trivial (aI trivial trivial))))))) (aI trivial trivial)
        exact qbK (A:=A5) mixed z (by kernel_rfl)
  · obtain rfl:=lf h
    have z:=sg 0 c11 <| eF (qbV (.inr ())) (qba con v m t40 t41 (.inr ()))
    exact qbE (A:=A5) mixed (by intro hx; cases hx) z (by kernel_rfl)
theorem qcY (con:Str) (v:(List tPred)) (m:tModule) (t40:(List tData)) (t41:Int) (t42:Int) {x:(Bool)⊕(Unit)} (h:qfa t40 t41 t42 = some x) :
    Sat Pg GE 0 (.loop (cA b5 247)) (EX (qbV x) (qba con v m t40 t41 x)) (qcm con v m t40 t41 t42) :=
  Sat.loop (S:=fun (zz:Int) => qcm con v m t40 t41 zz) (ex:=qbV) (s:=t42) h fun zz y hy => qkU con v m t40 t41 zz hy
noncomputable def qmg (v:(List tType)) (ok:Bool) (v2:(List tType)) (is:Bool):PSt:=stt 124 [(13,sl qac v),(14,.bool ok),(15,sl qac v2),(16,.bool is)] [.dead] []
noncomputable def qeo (v:(List tType)) (ok:Bool) (v2:(List tType)) (is:Bool) (o:Bool):PSt:=stt 124 [(13,sl qac v),(15,sl qac v2),(106,.bool o)] [.dead] []
noncomputable def qdE (v:(List tType)) (ok:Bool) (v2:(List tType)) (is:Bool):Option ((Bool)) :=
  if (!(ok == is)) = true then
    some true
  else
    some ((v.length:Int) != (v2.length:Int))
theorem qd8 (v:(List tType)) (ok:Bool) (v2:(List tType)) (is:Bool) {x:(Bool)} (h:qdE v ok v2 is = some x) :
    Sat Pg GE 0 (cA b5 508) (EX .normal (qeo v ok v2 is x)) (qmg v ok v2 is):=by
  rcases ifs h with ⟨c30,h⟩ | ⟨c30,h⟩
  · obtain rfl:=lf h
    have z:=sg 4 c30 <| eF .normal (qeo v ok v2 is true)
    exact qaR (A:=A5) mixed z (by kernel_rfl)
  · obtain rfl:=lf h
    have z:=sg 4 c30 <| svn (sT27.ln v) <| svn (sT27.ln v2) <| eF .normal (qeo v ok v2 is ((v.length:Int) != (v2.length:Int)))
    exact qaR (A:=A5) mixed z (by kernel_rfl)
noncomputable def qcc (v:(List tType)) (v2:(List tType)) (t108:Int) (t109:Int):PSt:=stt 124 [(13,sl qac v),(15,sl qac v2),(108,.int .i64 t108),(109,.int .i64 t109)] [.dead] []
noncomputable def qcl (o:(Unit)⊕(Unit)):Exit:=match o with
  | (.inl _) => .ret
  | (.inr _) => .exit 6
noncomputable def qbY (v:(List tType)) (v2:(List tType)) (t108:Int) (o:(Unit)⊕(Unit)):PSt:=match o with
  | (.inl o) => stt 124 [(6,.bool false)] [.dead] []
  | (.inr o) => stt 124 [] [.dead] []
noncomputable def qda (v:(List tType)) (v2:(List tType)) (t108:Int) (t109:Int):Option ((Int)⊕((Unit)⊕(Unit))) :=
  if (decide (t109 < t108)) = true then
    (idx v t109).bind fun x34 =>
    (idx v2 t109).bind fun x35 =>
    (qmj x34 x35).bind fun r36 =>
    if (!r36) = true then
      some (.inr (.inl ()))
    else
      some (.inl (w64 (t109 + 1)))
  else
    some (.inr (.inr ()))
noncomputable def qdA (v:(List tType)) (v2:(List tType)) (t108:Int) (t109:Int):Option ((Unit)⊕(Unit)):=loop (fun (zz:Int) => qda v v2 t108 zz) t109
theorem qk1 (v:(List tType)) (v2:(List tType)) (t108:Int) (t109:Int) {y:(Int)⊕((Unit)⊕(Unit))} (h:qda v v2 t108 t109 = some y) :
    Sat Pg GE 0 (cA b5 4087) (LQ (fun (zz:Int) => qcc v v2 t108 zz) qcl (qbY v v2 t108) y) (qcc v v2 t108 t109):=by
  rcases ifs h with ⟨c33,h⟩ | ⟨c33,h⟩
  · obtain ⟨x34,bx34,h⟩:=bnd h
    obtain ⟨x35,bx35,h⟩:=bnd h
    obtain ⟨r36,br36,h⟩:=bnd h
    rcases ifs h with ⟨c37,h⟩ | ⟨c37,h⟩
    · obtain rfl:=lf h
      have z:=sg 0 c33 <| sdr [0,0,3,7,0,0,48,112,255,511] <| sv (sT27.ia (k := .i64) bx34) <| sv (qaZ x34) <| sv (sT27.ia (k := .i64) bx35) <| sv (qaZ x35) <| sca (qc2 br36) <| sg 0 c37 <| eF (qcl (.inl ())) (qbY v v2 t108 (.inl ()))
      exact qbE (A:=A5) mixed (by intro hx; cases hx) z (by kernel_rfl)
    · obtain rfl:=lf h
      have z:=sg 0 c33 <| sdr [0,0,3,7,0,0,48,112,255,511] <| sv (sT27.ia (k := .i64) bx34) <| sv (qaZ x34) <| sv (sT27.ia (k := .i64) bx35) <| sv (qaZ x35) <| sca (qc2 br36) <| sg 0 c37 <| eF .normal (qcc v v2 t108 (w64 (t109 + 1)))
      exact qjk (A:=A5) mixed z (by kernel_rfl)
  · obtain rfl:=lf h
    have z:=sg 0 c33 <| eF (qcl (.inr ())) (qbY v v2 t108 (.inr ()))
    exact qbE (A:=A5) mixed (by intro hx; cases hx) z (by kernel_rfl)
theorem qgt (v:(List tType)) (v2:(List tType)) (t108:Int) (t109:Int) {x:(Unit)⊕(Unit)} (h:qdA v v2 t108 t109 = some x) :
    Sat Pg GE 0 (.loop (cA b5 4087)) (EX (qcl x) (qbY v v2 t108 x)) (qcc v v2 t108 t109) :=
  Sat.loop (S:=fun (zz:Int) => qcc v v2 t108 zz) (ex:=qcl) (s:=t109) h fun zz y hy => qk1 v v2 t108 zz hy
noncomputable def qhb (m:tModule) (con:Str) (a:(List tPred)):Option (Bool) :=
  (qe1 a m).bind fun o2 =>
  if o2 = true then
    (qjE).bind fun r4 =>
    some r4
  else
    (qe2 a (a.length:Int) 0).bind fun o10 => match o10 with
    | (.inl o10) =>
      some o10
    | (.inr o10) =>
      (qfa m.Datas (m.Datas.length:Int) 0).bind fun o27 => match o27 with
      | (.inl o27) =>
        some o27
      | (.inr o27) =>
        (qgT m con a).bind fun r28 =>
        (qrn m con a).bind fun r29 =>
        (qdE r28.1 r28.2 r29.1 r29.2).bind fun o31 =>
        if o31 = true then
          some false
        else
          (qdA r28.1 r29.1 (r28.1.length:Int) 0).bind fun o38 => match o38 with
          | (.inl o38) =>
            some false
          | (.inr o38) =>
            (qjE).bind fun r39 =>
            some r39
theorem qm1 {m:tModule} {con:Str} {a:(List tPred)} {r:Bool} (h:qhb m con a = some r):CC Pg GE 5 [.agg (qaL m),.str con,sl qaa a] (.bool r) []:=by
  obtain ⟨o2,bo2,h⟩:=bnd h
  rcases ifs h with ⟨c3,h⟩ | ⟨c3,h⟩
  · obtain ⟨r4,br4,h⟩:=bnd h
    obtain rfl:=lf h
    have z:=se (qc0 m) <| spa 1 <| spc (qbL con a m bo2) <| sg 0 c3 <| sca (qiw br4) <| en (aI (rP (.bool r4)) <| trivial)
    exact C.evp (A:=A5) mixed Tryz.call5 Tryz.func5 (c:=b5) rfl (aI (qb2 m) (aI trivial (aI (qad qab a) trivial))) z (by kernel_rfl)
  · obtain ⟨o10,bo10,h⟩:=bnd h
    rcases o10 with o10 | o10
    · obtain rfl:=lf h
      have z:=se (qc0 m) <| spa 1 <| spc (qbL con a m bo2) <| sg 0 c3 <| svn (sT29.ln a) <| spc (e := .ret) (s1:=qa8 con a m (a.length:Int) (.inl o10)) (qb8 con a m (a.length:Int) 0 bo10) <| en (aI (rP (.bool o10)) <| trivial)
      exact C.evp (A:=A5) mixed Tryz.call5 Tryz.func5 (c:=b5) rfl (aI (qb2 m) (aI trivial (aI (qad qab a) trivial))) z (by kernel_rfl)
    · obtain ⟨o27,bo27,h⟩:=bnd h
      rcases o27 with o27 | o27
      · obtain rfl:=lf h
        have z:=se (qc0 m) <| spa 1 <| spc (qbL con a m bo2) <| sg 0 c3 <| svn (sT29.ln a) <| spc (e := .exit 0) (s1:=qa8 con a m (a.length:Int) (.inr o10)) (qb8 con a m (a.length:Int) 0 bo10) <| sv (qaY m) <| sv (qaX m) <| svn (sT50.ln m.Datas) <| spc (e := .ret) (s1:=qba con a m m.Datas (m.Datas.length:Int) (.inl o27)) (qcY con a m m.Datas (m.Datas.length:Int) 0 bo27) <| en (aI (rP (.bool o27)) <| trivial)
        exact C.evp (A:=A5) mixed Tryz.call5 Tryz.func5 (c:=b5) rfl (aI (qb2 m) (aI trivial (aI (qad qab a) trivial))) z (by kernel_rfl)
      · obtain ⟨r28,br28,h⟩:=bnd h
        obtain ⟨r29,br29,h⟩:=bnd h
        obtain ⟨o31,bo31,h⟩:=bnd h
        rcases ifs h with ⟨c32,h⟩ | ⟨c32,h⟩
        · obtain rfl:=lf h
          have z:=se (qc0 m) <| spa 1 <| spc (qbL con a m bo2) <| sg 0 c3 <| svn (sT29.ln a) <| spc (e := .exit 0) (s1:=qa8 con a m (a.length:Int) (.inr o10)) (qb8 con a m (a.length:Int) 0 bo10) <| sv (qaY m) <| sv (qaX m) <| svn (sT50.ln m.Datas) <| spc (e := .exit 2) (s1:=qba con a m m.Datas (m.Datas.length:Int) (.inr o27)) (qcY con a m m.Datas (m.Datas.length:Int) 0 bo27) <| sv (qeF m) <| sca (qbI br28) <| sv (qeF m) <| sca (qlH br29) <| spa 1 <| spc (qd8 r28.1 r28.2 r29.1 r29.2 bo31) <| sg 0 c32 <| en (aI (rP (.bool false)) <| trivial)
          exact C.evp (A:=A5) mixed Tryz.call5 Tryz.func5 (c:=b5) rfl (aI (qb2 m) (aI trivial (aI (qad qab a) trivial))) z (by kernel_rfl)
        · obtain ⟨o38,bo38,h⟩:=bnd h
          rcases o38 with o38 | o38
          · obtain rfl:=lf h
            have z:=se (qc0 m) <| spa 1 <| spc (qbL con a m bo2) <| sg 0 c3 <| svn (sT29.ln a) <| spc (e := .exit 0) (s1:=qa8 con a m (a.length:Int) (.inr o10)) (qb8 con a m (a.length:Int) 0 bo10) <| sv (qaY m) <| sv (qaX m) <| svn (sT50.ln m.Datas) <| spc (e := .exit 2) (s1:=qba con a m m.Datas (m.Datas.length:Int) (.inr o27)) (qcY con a m m.Datas (m.Datas.length:Int) 0 bo27) <| sv (qeF m) <| sca (qbI br28) <| sv (qeF m) <| sca (qlH br29) <| spa 1 <| spc (qd8 r28.1 r28.2 r29.1 r29.2 bo31) <| sg 0 c32 <| svn (sT27.ln r28.1) <| spc (e := .ret) (s1:=qbY r28.1 r29.1 (r28.1.length:Int) (.inl o38)) (qgt r28.1 r29.1 (r28.1.length:Int) 0 bo38) <| en (aI (rP (.bool false)) <| trivial)
            exact C.evp (A:=A5) mixed Tryz.call5 Tryz.func5 (c:=b5) rfl (aI (qb2 m) (aI trivial (aI (qad qab a) trivial))) z (by kernel_rfl)
          · obtain ⟨r39,br39,h⟩:=bnd h
            obtain rfl:=lf h
            have z:=se (qc0 m) <| spa 1 <| spc (qbL con a m bo2) <| sg 0 c3 <| svn (sT29.ln a) <| spc (e := .exit 0) (s1:=qa8 con a m (a.length:Int) (.inr o10)) (qb8 con a m (a.length:Int) 0 bo10) <| sv (qaY m) <| sv (qaX m) <| svn (sT50.ln m.Datas) <| spc (e := .exit 2) (s1:=qba con a m m.Datas (m.Datas.length:Int) (.inr o27)) (qcY con a m m.Datas (m.Datas.length:Int) 0 bo27) <| sv (qeF m) <| sca (qbI br28) <| sv (qeF m) <| sca (qlH br29) <| spa 1 <| spc (qd8 r28.1 r28.2 r29.1 r29.2 bo31) <| sg 0 c32 <| svn (sT27.ln r28.1) <| spc (e := .exit 6) (s1:=qbY r28.1 r29.1 (r28.1.length:Int) (.inr o38)) (qgt r28.1 r29.1 (r28.1.length:Int) 0 bo38) <| sca (qiw br39) <| en (aI (rP (.bool r39)) <| trivial)
            exact C.evp (A:=A5) mixed Tryz.call5 Tryz.func5 (c:=b5) rfl (aI (qb2 m) (aI trivial (aI (qad qab a) trivial))) z (by kernel_rfl)
end Go.Proofs.YtgldgpdhblndkaaGreatDoor
