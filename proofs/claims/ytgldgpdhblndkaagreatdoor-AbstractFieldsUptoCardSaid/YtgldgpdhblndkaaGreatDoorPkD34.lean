/-
  WHAT IS PROVED: parts of the proof, put together by a program out of smaller texts, their own names made short (G2). Conditions: none.
-/
import Derived.Test.YtgldgpdhblndkaaGreatDoorPkD33
namespace Go.Proofs.YtgldgpdhblndkaaGreatDoor
open Go
set_option linter.unusedVariables false
set_option maxRecDepth 100000
noncomputable def b105:Code:=Tryz.f105.body.getD .skip
def A105:List Nat:=[21]
noncomputable def qey (t14:(List tPred)) (t15:Int) (t16:Int) (m:(List tPred)) (m2:Int) (m3:Str) (m4:Int) (m5:(List tPred)):PSt:=stt 29 [(2,.bptr 1 0),(3,.bptr 2 0),(14,sl qaa t14),(15,.int .i64 t15),(16,.int .i64 t16)] [.dead,.cells [.int .i64 0,.str ([]:Str),.int .i64 0,sl qaa m] [(3,31)],.cells [.int .i64 m2,.str m3,.int .i64 m4,sl qaa m5] [(3,31)]] []
noncomputable def qiS (t14:(List tPred)) (t15:Int) (m:(List tPred)) (m2:Int) (m3:Str) (m4:Int) (o:(List tPred)):PSt:=stt 29 [(2,.bptr 1 0),(3,.bptr 2 0)] [.dead,.cells [.int .i64 0,.str ([]:Str),.int .i64 0,sl qaa m] [(3,31)],.cells [.int .i64 m2,.str m3,.int .i64 m4,sl qaa o] [(3,31)]] []
noncomputable def qf7 (R27:qer) (t14:(List tPred)) (t15:Int) (t16:Int) (m5:(List tPred)):Option ((Int×(List tPred))⊕(((List tPred)))) :=
  if (decide (t16 < t15)) = true then
    (idx t14 t16).bind fun x2 =>
    (R27 x2).bind fun r3 =>
    (app m5 ([r3]:List tPred)).bind fun l4 =>
    some (.inl (w64 (t16 + 1),l4))
  else
    some (.inr m5)
noncomputable def qkX (R27:qer) (t14:(List tPred)) (t15:Int) (t16:Int) (m5:(List tPred)):Option (((List tPred))):=loop (fun (zz:Int×(List tPred)) => qf7 R27 t14 t15 zz.1 zz.2) (t16,m5)
theorem qqh (R27:qer) (hR27:qmk R27) (t14:(List tPred)) (t15:Int) (t16:Int) (m:(List tPred)) (m2:Int) (m3:Str) (m4:Int) (m5:(List tPred)) {y:(Int×(List tPred))⊕(((List tPred)))} (h:qf7 R27 t14 t15 t16 m5 = some y) :
    Sat Pg GE 0 (cA b105 119) (LQ (fun (zz:Int×(List tPred)) => qey t14 t15 zz.1 m m2 m3 m4 zz.2) (fun _ => .exit 0) (qiS t14 t15 m m2 m3 m4) y) (qey t14 t15 t16 m m2 m3 m4 m5):=by
  rcases ifs h with ⟨c1,h⟩ | ⟨c1,h⟩
  · obtain ⟨x2,bx2,h⟩:=bnd h
    obtain ⟨r3,br3,h⟩:=bnd h
    obtain ⟨l4,bl4,h⟩:=bnd h
    obtain rfl:=lf h
    have z:=sg 0 c1 <| sv (sT29.ia (k := .i64) bx2) <| sv (qaj x2) <| sx pz31 <| sx (qan x2) <| sdr [0,1,0,4,12,31,63,127] <| sv (qah x2 []) <| sca (hR27 _ _ br3) <| sv (sT29.mk' (v:=qaP) qaq ([r3]:List tPred) 1 (by kernel_rfl)) <| sv (sT29.ap bl4) <| ssf (rfl:qbc (sl qaa l4) = some [sl qaa l4]) <| eFx 0 .normal (qey t14 t15 (w64 (t16 + 1)) m m2 m3 m4 l4) rfl (qb1 (aI (qdu rfl) (aI (qdu rfl) (aI (up (qad qab t14)) (aI trivial (aI trivial trivial)))))) (aI trivial (aI (aI trivial (aI trivial (aI trivial (aI (up (qad qab m)) trivial)))) (aI (aI trivial (aI trivial (aI trivial (aI (up (qad qab l4)) trivial)))) trivial)))
    exact qbK (A:=A105) mixed z (by kernel_rfl)
  · obtain rfl:=lf h
    have z:=sg 0 c1 <| eF (.exit 0) (qiS t14 t15 m m2 m3 m4 m5)
    exact qbE (A:=A105) mixed (by intro hx; cases hx) z (by kernel_rfl)
theorem qrp (R27:qer) (hR27:qmk R27) (t14:(List tPred)) (t15:Int) (t16:Int) (m:(List tPred)) (m2:Int) (m3:Str) (m4:Int) (m5:(List tPred)) {x:((List tPred))} (h:qkX R27 t14 t15 t16 m5 = some x) :
    Sat Pg GE 0 (.loop (cA b105 119)) (EX (.exit 0) (qiS t14 t15 m m2 m3 m4 x)) (qey t14 t15 t16 m m2 m3 m4 m5) :=
  Sat.loop (S:=fun (zz:Int×(List tPred)) => qey t14 t15 zz.1 m m2 m3 m4 zz.2) (ex:=(fun _ => .exit 0)) (s:=(t16,m5)) h fun zz y hy => qqh R27 hR27 t14 t15 zz.1 m m2 m3 m4 zz.2 hy
noncomputable def qmv (R27:qer) (p:tPred):Option (tPred) :=
  (qkX R27 p.Kids (p.Kids.length:Int) 0 ([]:List tPred)).bind fun o5 =>
  some (⟨p.Op,p.Name,p.N,o5⟩:tPred)
theorem qtw (R27:qer) (hR27:qmk R27) {p:tPred} {r:tPred} (h:qmv R27 p = some r):CC Pg GE 105 [.agg (qaa p)] (.agg (qaa r)) [(3,31)]:=by
  obtain ⟨o5,bo5,h⟩:=bnd h
  obtain rfl:=lf h
  have z:=se (qat p) <| sx pz31 <| sv (qal p) <| sv (qak p) <| sv (qao p) <| sv (qax p) <| sv (qaW p) <| sv (qbd p) <| sb (qbN p.Op p.Name p.N) (qbP p.Op p.Name p.N) <| sx pz31 <| sy (qam (⟨p.Op,p.Name,p.N,([]:List tPred)⟩:tPred)) <| sv (qas p) <| sv (qar p) <| svn (sT29.ln p.Kids) <| spc (qrp R27 hR27 p.Kids (p.Kids.length:Int) 0 ([]:List tPred) p.Op p.Name p.N ([]:List tPred) bo5) <| sz (qah (⟨p.Op,p.Name,p.N,o5⟩:tPred) []) <| sy (qam (⟨p.Op,p.Name,p.N,o5⟩:tPred)) <| en (aI (qa4 (⟨p.Op,p.Name,p.N,o5⟩:tPred)) <| aI (qab (⟨p.Op,p.Name,p.N,o5⟩:tPred)) <| rT)
  exact C.evp (A:=A105) mixed Tryz.call105 Tryz.func105 (c:=b105) rfl (aI (qab p) trivial) z (by kernel_rfl)
noncomputable def qjf:((tPred)→Option (tPred))→(tPred)→Option (tPred):=fun (rec:tPred→Option (tPred)) (x:tPred) => qmv (fun p => rec p) x
noncomputable def qgl (p:tPred):Option (tPred):=fixE (qjf) p
theorem qfR {p:tPred} {r:tPred} (h:qgl p = some r):CC Pg GE 105 [.agg (qaa p)] (.agg (qaa r)) [(3,31)] :=
  qcs (F:=qjf) (M:=fun (x:tPred) (r:tPred) => CC Pg GE 105 [.agg (qaa x)] (.agg (qaa r)) [(3,31)]) (fun rec hrec x r h => qtw _ (fun p r h => hrec p r h) h) h
noncomputable def b128:Code:=Tryz.f128.body.getD .skip
def A128:List Nat:=[46]
noncomputable def qqS (v:(List Str)) (v2:(List tPred)) (p:tPred) (m:(List tPred)):PSt:=stt 56 [(1,sl cS v),(2,sl qaa v2),(3,.eptr (qaa p)),(6,.bptr 1 0)] [.dead,.cells [.int .i64 0,.str ([]:Str),.int .i64 0,sl qaa m] [(3,31)]] []
noncomputable def qeT (o:(Int×Str×Int×(List tPred))⊕(Unit)):Exit:=match o with
  | (.inl _) => .ret
  | (.inr _) => .normal
noncomputable def qcV (v:(List Str)) (v2:(List tPred)) (p:tPred) (m:(List tPred)) (o:(Int×Str×Int×(List tPred))⊕(Unit)):PSt:=match o with
  | (.inl o) => stt 56 [(6,.bptr 1 0)] [.dead,.cells [.int .i64 o.1,.str o.2.1,.int .i64 o.2.2.1,sl qaa o.2.2.2] [(3,31)]] []
  | (.inr o) => stt 56 [(1,sl cS v),(2,sl qaa v2),(3,.eptr (qaa p)),(6,.bptr 1 0)] [.dead,.cells [.int .i64 0,.str ([]:Str),.int .i64 0,sl qaa m] [(3,31)]] []
noncomputable def qqW (v:(List Str)) (v2:(List tPred)) (p:tPred) (i:Int) (m:(List tPred)):PSt:=stt 56 [(1,sl cS v),(2,sl qaa v2),(3,.eptr (qaa p)),(6,.bptr 1 0),(7,.int .i64 i)] [.dead,.cells [.int .i64 0,.str ([]:Str),.int .i64 0,sl qaa m] [(3,31)]] []
noncomputable def qg3 (v:(List Str)) (v2:(List tPred)) (p:tPred) (i:Int) (m:(List tPred)) (o:Bool):PSt:=stt 56 [(1,sl cS v),(2,sl qaa v2),(3,.eptr (qaa p)),(6,.bptr 1 0),(7,.int .i64 i),(25,.bool o)] [.dead,.cells [.int .i64 0,.str ([]:Str),.int .i64 0,sl qaa m] [(3,31)]] []
noncomputable def qiW (R24:qbC) (v2:(List tPred)) (i:Int):Option ((Bool)) :=
  if (decide (i ≥ 0)) = true then
    some (decide (i < (v2.length:Int)))
  else
    some false
theorem qjY (R24:qbC) (hR24:qeY R24) (v:(List Str)) (v2:(List tPred)) (p:tPred) (i:Int) (m:(List tPred)) {x:(Bool)} (h:qiW R24 v2 i = some x) :
    Sat Pg GE 0 (cA b128 106) (EX .normal (qg3 v v2 p i m x)) (qqW v v2 p i m):=by
  rcases ifs h with ⟨c3,h⟩ | ⟨c3,h⟩
  · obtain rfl:=lf h
    have z:=sg 3 c3 <| svn (sT29.ln v2) <| eF .normal (qg3 v v2 p i m (decide (i < (v2.length:Int))))
    exact qaR (A:=A128) mixed z (by kernel_rfl)
  · obtain rfl:=lf h
    have z:=sg 3 c3 <| eF .normal (qg3 v v2 p i m false)
    exact qaR (A:=A128) mixed z (by kernel_rfl)
noncomputable def qf6 (R24:qbC) (v:(List Str)) (v2:(List tPred)) (p:tPred):Option ((Int×Str×Int×(List tPred))⊕(Unit)) :=
  if (p.Op == 3) = true then
    (qrs v p.Name).bind fun r2 =>
    (qiW R24 v2 r2).bind fun o4 =>
    if o4 = true then
      (idx v2 r2).bind fun x6 =>
      (qgl x6).bind fun r7 =>
      some (.inl (r7.Op,r7.Name,r7.N,r7.Kids))
    else
      some (.inr ())
  else
    some (.inr ())
theorem qjM (R24:qbC) (hR24:qeY R24) (v:(List Str)) (v2:(List tPred)) (p:tPred) (m:(List tPred)) {x:(Int×Str×Int×(List tPred))⊕(Unit)} (h:qf6 R24 v v2 p = some x) :
    Sat Pg GE 0 (cA b128 6) (EX (qeT x) (qcV v v2 p m x)) (qqS v v2 p m):=by
  rcases ifs h with ⟨c1,h⟩ | ⟨c1,h⟩
  · obtain ⟨r2,br2,h⟩:=bnd h
    obtain ⟨o4,bo4,h⟩:=bnd h
    rcases ifs h with ⟨c5,h⟩ | ⟨c5,h⟩
    · obtain ⟨x6,bx6,h⟩:=bnd h
      obtain ⟨r7,br7,h⟩:=bnd h
      obtain rfl:=lf h
      have z:=sv (qal p) <| sv (qak p) <| sg 0 c1 <| sv (qao p) <| sv (qax p) <| sca (qqd br2) <| spa 0 <| spc (qjY R24 hR24 v v2 p r2 m bo4) <| sg 0 c5 <| sv (sT29.ia (k := .i64) bx6) <| sv (qaj x6) <| sca (qfR br7) <| sy (qam r7) <| eF (qeT (.inl (r7.Op,r7.Name,r7.N,r7.Kids))) (qcV v v2 p m (.inl (r7.Op,r7.Name,r7.N,r7.Kids)))
      exact qaR (A:=A128) mixed z (by kernel_rfl)
    · obtain rfl:=lf h
      have z:=sv (qal p) <| sv (qak p) <| sg 0 c1 <| sv (qao p) <| sv (qax p) <| sca (qqd br2) <| spa 0 <| spc (qjY R24 hR24 v v2 p r2 m bo4) <| sg 0 c5 <| eF (qeT (.inr ())) (qcV v v2 p m (.inr ()))
      exact qaR (A:=A128) mixed z (by kernel_rfl)
  · obtain rfl:=lf h
    have z:=sv (qal p) <| sv (qak p) <| sg 0 c1 <| eF (qeT (.inr ())) (qcV v v2 p m (.inr ()))
    exact qaR (A:=A128) mixed z (by kernel_rfl)
noncomputable def qdG (v:(List Str)) (v2:(List tPred)) (t39:(List tPred)) (t40:Int) (t41:Int) (m:(List tPred)) (m2:Int) (m3:Str) (m4:Int) (m5:(List tPred)):PSt:=stt 56 [(1,sl cS v),(2,sl qaa v2),(6,.bptr 1 0),(8,.bptr 2 0),(39,sl qaa t39),(40,.int .i64 t40),(41,.int .i64 t41)] [.dead,.cells [.int .i64 0,.str ([]:Str),.int .i64 0,sl qaa m] [(3,31)],.cells [.int .i64 m2,.str m3,.int .i64 m4,sl qaa m5] [(3,31)]] []
noncomputable def qhd (v:(List Str)) (v2:(List tPred)) (t39:(List tPred)) (t40:Int) (m:(List tPred)) (m2:Int) (m3:Str) (m4:Int) (o:(List tPred)):PSt:=stt 56 [(6,.bptr 1 0),(8,.bptr 2 0)] [.dead,.cells [.int .i64 0,.str ([]:Str),.int .i64 0,sl qaa m] [(3,31)],.cells [.int .i64 m2,.str m3,.int .i64 m4,sl qaa o] [(3,31)]] []
noncomputable def qkq (R24:qbC) (v:(List Str)) (v2:(List tPred)) (t39:(List tPred)) (t40:Int) (t41:Int) (m5:(List tPred)):Option ((Int×(List tPred))⊕(((List tPred)))) :=
  if (decide (t41 < t40)) = true then
    (idx t39 t41).bind fun x10 =>
    (R24 x10 v v2).bind fun r11 =>
    (app m5 ([r11]:List tPred)).bind fun l12 =>
    some (.inl (w64 (t41 + 1),l12))
  else
    some (.inr m5)
noncomputable def qiV (R24:qbC) (v:(List Str)) (v2:(List tPred)) (t39:(List tPred)) (t40:Int) (t41:Int) (m5:(List tPred)):Option (((List tPred))):=loop (fun (zz:Int×(List tPred)) => qkq R24 v v2 t39 t40 zz.1 zz.2) (t41,m5)
theorem qox (R24:qbC) (hR24:qeY R24) (v:(List Str)) (v2:(List tPred)) (t39:(List tPred)) (t40:Int) (t41:Int) (m:(List tPred)) (m2:Int) (m3:Str) (m4:Int) (m5:(List tPred)) {y:(Int×(List tPred))⊕(((List tPred)))} (h:qkq R24 v v2 t39 t40 t41 m5 = some y) :
    Sat Pg GE 0 (cA b128 247) (LQ (fun (zz:Int×(List tPred)) => qdG v v2 t39 t40 zz.1 m m2 m3 m4 zz.2) (fun _ => .exit 0) (qhd v v2 t39 t40 m m2 m3 m4) y) (qdG v v2 t39 t40 t41 m m2 m3 m4 m5):=by
  rcases ifs h with ⟨c9,h⟩ | ⟨c9,h⟩
  · obtain ⟨x10,bx10,h⟩:=bnd h
    obtain ⟨r11,br11,h⟩:=bnd h
    obtain ⟨l12,bl12,h⟩:=bnd h
    obtain rfl:=lf h
    have z:=sg 0 c9 <| sv (sT29.ia (k := .i64) bx10) <| sv (qaj x10) <| sx pz31 <| sx (qan x10) <| sdr [0,1,0,0,0,28,60,127,255,511] <| sv (qah x10 []) <| sca (hR24 _ _ _ _ br11) <| sv (sT29.mk' (v:=qaP) qaq ([r11]:List tPred) 1 (by kernel_rfl)) <| sv (sT29.ap bl12) <| ssf (rfl:qbc (sl qaa l12) = some [sl qaa l12]) <| eFx 0 .normal (qdG v v2 t39 t40 (w64 (t41 + 1)) m m2 m3 m4 l12) rfl (qb1 (aI (up (qad clS v)) (aI (up (qad qab v2)) (aI (qdu rfl) (aI (qdu rfl) (aI (up (qad qab t39)) (aI trivial (aI trivial trivial)))))))) (aI trivial (aI (aI trivial (aI trivial (aI trivial (aI (up (qad qab m)) trivial)))) (aI (aI trivial (aI trivial (aI trivial (aI (up (qad qab l12)) trivial)))) trivial)))
    exact qbK (A:=A128) mixed z (by kernel_rfl)
  · obtain rfl:=lf h
    have z:=sg 0 c9 <| eF (.exit 0) (qhd v v2 t39 t40 m m2 m3 m4 m5)
    exact qbE (A:=A128) mixed (by intro hx; cases hx) z (by kernel_rfl)
theorem qpx (R24:qbC) (hR24:qeY R24) (v:(List Str)) (v2:(List tPred)) (t39:(List tPred)) (t40:Int) (t41:Int) (m:(List tPred)) (m2:Int) (m3:Str) (m4:Int) (m5:(List tPred)) {x:((List tPred))} (h:qiV R24 v v2 t39 t40 t41 m5 = some x) :
    Sat Pg GE 0 (.loop (cA b128 247)) (EX (.exit 0) (qhd v v2 t39 t40 m m2 m3 m4 x)) (qdG v v2 t39 t40 t41 m m2 m3 m4 m5) :=
  Sat.loop (S:=fun (zz:Int×(List tPred)) => qdG v v2 t39 t40 zz.1 m m2 m3 m4 zz.2) (ex:=(fun _ => .exit 0)) (s:=(t41,m5)) h fun zz y hy => qox R24 hR24 v v2 t39 t40 zz.1 m m2 m3 m4 zz.2 hy
noncomputable def qhx (R24:qbC) (p:tPred) (a:(List Str)) (a2:(List tPred)):Option (tPred) :=
  (qf6 R24 a a2 p).bind fun o8 => match o8 with
  | (.inl o8) =>
    some (⟨o8.1,o8.2.1,o8.2.2.1,o8.2.2.2⟩:tPred)
  | (.inr o8) =>
    (qiV R24 a a2 p.Kids (p.Kids.length:Int) 0 ([]:List tPred)).bind fun o13 =>
    some (⟨p.Op,p.Name,p.N,o13⟩:tPred)
theorem qri (R24:qbC) (hR24:qeY R24) {p:tPred} {a:(List Str)} {a2:(List tPred)} {r:tPred} (h:qhx R24 p a a2 = some r):CC Pg GE 128 [.agg (qaa p),sl cS a,sl qaa a2] (.agg (qaa r)) [(3,31)]:=by
  obtain ⟨o8,bo8,h⟩:=bnd h
  rcases o8 with o8 | o8
  · obtain rfl:=lf h
    have z:=se (qat p) <| sx pz31 <| spa 0 <| spc (e := .ret) (s1:=qcV a a2 p ([]:List tPred) (.inl o8)) (qjM R24 hR24 a a2 p ([]:List tPred) bo8) <| en (aI (qa4 (⟨o8.1,o8.2.1,o8.2.2.1,o8.2.2.2⟩:tPred)) <| aI (qab (⟨o8.1,o8.2.1,o8.2.2.1,o8.2.2.2⟩:tPred)) <| rT)
    exact C.evp (A:=A128) mixed Tryz.call128 Tryz.func128 (c:=b128) rfl (aI (qab p) (aI (qad clS a) (aI (qad qab a2) trivial))) z (by kernel_rfl)
  · obtain ⟨o13,bo13,h⟩:=bnd h
    obtain rfl:=lf h
    have z:=se (qat p) <| sx pz31 <| spa 0 <| spc (e := .normal) (s1:=qcV a a2 p ([]:List tPred) (.inr o8)) (qjM R24 hR24 a a2 p ([]:List tPred) bo8) <| sv (qal p) <| sv (qak p) <| sv (qao p) <| sv (qax p) <| sv (qaW p) <| sv (qbd p) <| sb (qbN p.Op p.Name p.N) (qbP p.Op p.Name p.N) <| sx pz31 <| sy (qam (⟨p.Op,p.Name,p.N,([]:List tPred)⟩:tPred)) <| sv (qas p) <| sv (qar p) <| svn (sT29.ln p.Kids) <| spc (qpx R24 hR24 a a2 p.Kids (p.Kids.length:Int) 0 ([]:List tPred) p.Op p.Name p.N ([]:List tPred) bo13) <| sz (qah (⟨p.Op,p.Name,p.N,o13⟩:tPred) []) <| sy (qam (⟨p.Op,p.Name,p.N,o13⟩:tPred)) <| en (aI (qa4 (⟨p.Op,p.Name,p.N,o13⟩:tPred)) <| aI (qab (⟨p.Op,p.Name,p.N,o13⟩:tPred)) <| rT)
    exact C.evp (A:=A128) mixed Tryz.call128 Tryz.func128 (c:=b128) rfl (aI (qab p) (aI (qad clS a) (aI (qad qab a2) trivial))) z (by kernel_rfl)
noncomputable def qjC:((tPred×(List Str)×(List tPred))→Option (tPred))→(tPred×(List Str)×(List tPred))→Option (tPred):=fun (rec:(tPred×(List Str)×(List tPred))→Option (tPred)) (x:tPred×(List Str)×(List tPred)) => qhx (fun p a a2 => rec (p,a,a2)) x.1 x.2.1 x.2.2
noncomputable def qjg (p:tPred) (a:(List Str)) (a2:(List tPred)):Option (tPred):=fixE (qjC) (p,a,a2)
theorem qmF {p:tPred} {a:(List Str)} {a2:(List tPred)} {r:tPred} (h:qjg p a a2 = some r):CC Pg GE 128 [.agg (qaa p),sl cS a,sl qaa a2] (.agg (qaa r)) [(3,31)] :=
  qcs (F:=qjC) (M:=fun (x:tPred×(List Str)×(List tPred)) (r:tPred) => CC Pg GE 128 [.agg (qaa x.1),sl cS x.2.1,sl qaa x.2.2] (.agg (qaa r)) [(3,31)]) (fun rec hrec x r h => qri _ (fun p a a2 r h => hrec (p,a,a2) r h) h) h
noncomputable def b102:Code:=Tryz.f102.body.getD .skip
def A102:List Nat:=[]
noncomputable def qoq (p:tPred) (name:Str) (a:tPred):Option (tPred) :=
  (qjg p ([name]:List Str) ([a]:List tPred)).bind fun r1 =>
  some r1
theorem qu5 {p:tPred} {name:Str} {a:tPred} {r:tPred} (h:qoq p name a = some r):CC Pg GE 102 [.agg (qaa p),.str name,.agg (qaa a)] (.agg (qaa r)) [(3,31)]:=by
  obtain ⟨r1,br1,h⟩:=bnd h
  obtain rfl:=lf h
  have z:=se (qat p) <| se (qat a) <| sx pz31 <| sv (qaj p) <| sv (sT22.mk' (v:=PVal.str) pcS ([name]:List Str) 1 (by kernel_rfl)) <| sv (qaj a) <| sv (sT29.mk' (v:=qaP) qaq ([a]:List tPred) 1 (by kernel_rfl)) <| sca (qmF br1) <| sy (qam r1) <| en (aI (qa4 r1) <| aI (qab r1) <| rT)
  exact C.evp (A:=A102) mixed Tryz.call102 Tryz.func102 (c:=b102) rfl (aI (qab p) (aI trivial (aI (qab a) trivial))) z (by kernel_rfl)
noncomputable def b65:Code:=Tryz.f65.body.getD .skip
def A65:List Nat:=[]
noncomputable def qrb (p:tPred) (params:(List tVar)) (preds:(List tPred)) (m:(List tPred)) (m2:Int) (m3:Str) (m4:Int) (m5:(List tPred)):PSt:=stt 61 [(3,.eptr (qaa p)),(4,.eptr ((cL qay) params)),(5,.eptr ((cL qaa) preds)),(6,.bptr 3 0),(7,.bptr 4 0)] [.dead,.dead,.dead,.cells [.int .i64 0,.str ([]:Str),.int .i64 0,sl qaa m] [(3,31)],.cells [.int .i64 m2,.str m3,.int .i64 m4,sl qaa m5] [(3,31)]] []
noncomputable def qh1 (p:tPred) (params:(List tVar)) (preds:(List tPred)) (m:(List tPred)) (m2:Int) (m3:Str) (m4:Int) (m5:(List tPred)) (o:Bool):PSt:=stt 61 [(3,.eptr (qaa p)),(4,.eptr ((cL qay) params)),(5,.eptr ((cL qaa) preds)),(6,.bptr 3 0),(7,.bptr 4 0),(29,.bool o)] [.dead,.dead,.dead,.cells [.int .i64 0,.str ([]:Str),.int .i64 0,sl qaa m] [(3,31)],.cells [.int .i64 m2,.str m3,.int .i64 m4,sl qaa m5] [(3,31)]] []
noncomputable def qjW (R16:qbq) (p:tPred):Option ((Bool)) :=
  if (p.Op != 4) = true then
    some true
  else
    some ((p.Kids.length:Int) != 1)
theorem qeU (R16:qbq) (hR16:qdL R16) (p:tPred) (params:(List tVar)) (preds:(List tPred)) (m:(List tPred)) (m2:Int) (m3:Str) (m4:Int) (m5:(List tPred)) {x:(Bool)} (h:qjW R16 p = some x) :
    Sat Pg GE 0 (cA b65 60) (EX .normal (qh1 p params preds m m2 m3 m4 m5 x)) (qrb p params preds m m2 m3 m4 m5):=by
  rcases ifs h with ⟨c2,h⟩ | ⟨c2,h⟩
  · obtain rfl:=lf h
    have z:=sv (qal p) <| sv (qak p) <| sg 4 c2 <| eF .normal (qh1 p params preds m m2 m3 m4 m5 true)
    exact qaR (A:=A65) mixed z (by kernel_rfl)
  · obtain rfl:=lf h
    have z:=sv (qal p) <| sv (qak p) <| sg 4 c2 <| sv (qas p) <| sv (qar p) <| svn (sT29.ln p.Kids) <| eF .normal (qh1 p params preds m m2 m3 m4 m5 ((p.Kids.length:Int) != 1))
    exact qaR (A:=A65) mixed z (by kernel_rfl)
noncomputable def qrA (preds:(List tPred)) (i:Int) (m:(List tPred)) (m2:Int) (m3:Str) (m4:Int) (m5:(List tPred)):PSt:=stt 61 [(5,.eptr ((cL qaa) preds)),(6,.bptr 3 0),(7,.bptr 4 0),(8,.int .i64 i)] [.dead,.dead,.dead,.cells [.int .i64 0,.str ([]:Str),.int .i64 0,sl qaa m] [(3,31)],.cells [.int .i64 m2,.str m3,.int .i64 m4,sl qaa m5] [(3,31)]] []
noncomputable def qhS (preds:(List tPred)) (i:Int) (m:(List tPred)) (m2:Int) (m3:Str) (m4:Int) (m5:(List tPred)) (o:Bool):PSt:=stt 61 [(5,.eptr ((cL qaa) preds)),(6,.bptr 3 0),(7,.bptr 4 0),(8,.int .i64 i),(38,.bool o)] [.dead,.dead,.dead,.cells [.int .i64 0,.str ([]:Str),.int .i64 0,sl qaa m] [(3,31)],.cells [.int .i64 m2,.str m3,.int .i64 m4,sl qaa m5] [(3,31)]] []
noncomputable def qjQ (R16:qbq) (preds:(List tPred)) (i:Int):Option ((Bool)) :=
  if (decide (i ≥ (preds.length:Int))) = true then
    some true
  else
    (idx preds i).bind fun x8 =>
    (qix x8 (⟨0,([]:Str),0,([]:List tPred)⟩:tPred)).bind fun r9 =>
    some r9
theorem qj6 (R16:qbq) (hR16:qdL R16) (preds:(List tPred)) (i:Int) (m:(List tPred)) (m2:Int) (m3:Str) (m4:Int) (m5:(List tPred)) {x:(Bool)} (h:qjQ R16 preds i = some x) :
    Sat Pg GE 0 (cA b65 2030) (EX .normal (qhS preds i m m2 m3 m4 m5 x)) (qrA preds i m m2 m3 m4 m5):=by
  rcases ifs h with ⟨c7,h⟩ | ⟨c7,h⟩
  · obtain rfl:=lf h
    have z:=sv (qbb sc29 (sl qaa preds) []) <| svn (sT29.ln preds) <| sg 5 c7 <| eF .normal (qhS preds i m m2 m3 m4 m5 true)
    exact qaR (A:=A65) mixed z (by kernel_rfl)
  · obtain ⟨x8,bx8,h⟩:=bnd h
    obtain ⟨r9,br9,h⟩:=bnd h
    obtain rfl:=lf h
    have z:=sv (qbb sc29 (sl qaa preds) []) <| svn (sT29.ln preds) <| sg 5 c7 <| sv (qbb sc29 (sl qaa preds) []) <| sv (sT29.ia (k := .i64) bx8) <| sv (qaj x8) <| sb (qn1 ) (qn4 ) <| sca (qdy br9) <| eF .normal (qhS preds i m m2 m3 m4 m5 r9)
    exact qaR (A:=A65) mixed z (by kernel_rfl)
noncomputable def qik (R16:qbq) (p:tPred) (params:(List tVar)) (preds:(List tPred)):Option (tPred) :=
  (qhW R16 p.Kids params preds).bind fun r1 =>
  (qjW R16 p).bind fun o3 =>
  if o3 = true then
    some (⟨p.Op,p.Name,p.N,r1⟩:tPred)
  else
    (qf5 params p).bind fun r5 =>
    if (decide (r5 < 0)) = true then
      some (⟨p.Op,p.Name,p.N,r1⟩:tPred)
    else
      (qjQ R16 preds r5).bind fun o10 =>
      if o10 = true then
        some (⟨2,([]:Str),1,([]:List tPred)⟩:tPred)
      else
        (idx preds r5).bind fun x12 =>
        (idx r1 0).bind fun x13 =>
        (qoq x12 ([118]:Str) x13).bind fun r14 =>
        some r14
theorem qsj (R16:qbq) (hR16:qdL R16) {p:tPred} {params:(List tVar)} {preds:(List tPred)} {r:tPred} (h:qik R16 p params preds = some r):CC Pg GE 65 [.agg (qaa p),sl qay params,sl qaa preds] (.agg (qaa r)) [(3,31)]:=by
  obtain ⟨r1,br1,h⟩:=bnd h
  obtain ⟨o3,bo3,h⟩:=bnd h
  rcases ifs h with ⟨c4,h⟩ | ⟨c4,h⟩
  · obtain rfl:=lf h
    have z:=se (qat p) <| se (pcL qay params) <| se (pcL qaa preds) <| sx pz31 <| sv (qal p) <| sv (qak p) <| sv (qao p) <| sv (qax p) <| sv (qaW p) <| sv (qbd p) <| sb (qbN p.Op p.Name p.N) (qbP p.Op p.Name p.N) <| sx pz31 <| sy (qam (⟨p.Op,p.Name,p.N,([]:List tPred)⟩:tPred)) <| sv (qas p) <| sv (qar p) <| sca (qdS R16 hR16 br1) <| spa 1 <| spc (qeU R16 hR16 p params preds ([]:List tPred) p.Op p.Name p.N r1 bo3) <| sg 0 c4 <| sz (qah (⟨p.Op,p.Name,p.N,r1⟩:tPred) []) <| sy (qam (⟨p.Op,p.Name,p.N,r1⟩:tPred)) <| en (aI (qa4 (⟨p.Op,p.Name,p.N,r1⟩:tPred)) <| aI (qab (⟨p.Op,p.Name,p.N,r1⟩:tPred)) <| rT)
    exact C.evp (A:=A65) mixed Tryz.call65 Tryz.func65 (c:=b65) rfl (aI (qab p) (aI (qad qbG params) (aI (qad qab preds) trivial))) z (by kernel_rfl)
  · obtain ⟨r5,br5,h⟩:=bnd h
    rcases ifs h with ⟨c6,h⟩ | ⟨c6,h⟩
    · obtain rfl:=lf h
      have z:=se (qat p) <| se (pcL qay params) <| se (pcL qaa preds) <| sx pz31 <| sv (qal p) <| sv (qak p) <| sv (qao p) <| sv (qax p) <| sv (qaW p) <| sv (qbd p) <| sb (qbN p.Op p.Name p.N) (qbP p.Op p.Name p.N) <| sx pz31 <| sy (qam (⟨p.Op,p.Name,p.N,([]:List tPred)⟩:tPred)) <| sv (qas p) <| sv (qar p) <| sca (qdS R16 hR16 br1) <| spa 1 <| spc (qeU R16 hR16 p params preds ([]:List tPred) p.Op p.Name p.N r1 bo3) <| sg 0 c4 <| sv (qbb sc36 (sl qay params) []) <| sca (qf8 br5) <| sg 0 c6 <| sz (qah (⟨p.Op,p.Name,p.N,r1⟩:tPred) []) <| sy (qam (⟨p.Op,p.Name,p.N,r1⟩:tPred)) <| en (aI (qa4 (⟨p.Op,p.Name,p.N,r1⟩:tPred)) <| aI (qab (⟨p.Op,p.Name,p.N,r1⟩:tPred)) <| rT)
      exact C.evp (A:=A65) mixed Tryz.call65 Tryz.func65 (c:=b65) rfl (aI (qab p) (aI (qad qbG params) (aI (qad qab preds) trivial))) z (by kernel_rfl)
    · obtain ⟨o10,bo10,h⟩:=bnd h
      rcases ifs h with ⟨c11,h⟩ | ⟨c11,h⟩
      · obtain rfl:=lf h
        have z:=se (qat p) <| se (pcL qay params) <| se (pcL qaa preds) <| sx pz31 <| sv (qal p) <| sv (qak p) <| sv (qao p) <| sv (qax p) <| sv (qaW p) <| sv (qbd p) <| sb (qbN p.Op p.Name p.N) (qbP p.Op p.Name p.N) <| sx pz31 <| sy (qam (⟨p.Op,p.Name,p.N,([]:List tPred)⟩:tPred)) <| sv (qas p) <| sv (qar p) <| sca (qdS R16 hR16 br1) <| spa 1 <| spc (qeU R16 hR16 p params preds ([]:List tPred) p.Op p.Name p.N r1 bo3) <| sg 0 c4 <| sv (qbb sc36 (sl qay params) []) <| sca (qf8 br5) <| sg 0 c6 <| spa 0 <| spc (qj6 R16 hR16 preds r5 ([]:List tPred) p.Op p.Name p.N r1 bo10) <| sg 0 c11 <| sb (qnp 2 1) (qnW 2 1) <| sy (qam (⟨2,([]:Str),1,([]:List tPred)⟩:tPred)) <| en (aI (qa4 (⟨2,([]:Str),1,([]:List tPred)⟩:tPred)) <| aI (qab (⟨2,([]:Str),1,([]:List tPred)⟩:tPred)) <| rT)
        exact C.evp (A:=A65) mixed Tryz.call65 Tryz.func65 (c:=b65) rfl (aI (qab p) (aI (qad qbG params) (aI (qad qab preds) trivial))) z (by kernel_rfl)
      · obtain ⟨x12,bx12,h⟩:=bnd h
        obtain ⟨x13,bx13,h⟩:=bnd h
        obtain ⟨r14,br14,h⟩:=bnd h
        obtain rfl:=lf h
        have z:=se (qat p) <| se (pcL qay params) <| se (pcL qaa preds) <| sx pz31 <| sv (qal p) <| sv (qak p) <| sv (qao p) <| sv (qax p) <| sv (qaW p) <| sv (qbd p) <| sb (qbN p.Op p.Name p.N) (qbP p.Op p.Name p.N) <| sx pz31 <| sy (qam (⟨p.Op,p.Name,p.N,([]:List tPred)⟩:tPred)) <| sv (qas p) <| sv (qar p) <| sca (qdS R16 hR16 br1) <| spa 1 <| spc (qeU R16 hR16 p params preds ([]:List tPred) p.Op p.Name p.N r1 bo3) <| sg 0 c4 <| sv (qbb sc36 (sl qay params) []) <| sca (qf8 br5) <| sg 0 c6 <| spa 0 <| spc (qj6 R16 hR16 preds r5 ([]:List tPred) p.Op p.Name p.N r1 bo10) <| sg 0 c11 <| sdr [0,0,3,7,0,16,48,112,255,511] <| sv (qbb sc29 (sl qaa preds) []) <| sv (sT29.ia (k := .i64) bx12) <| sv (qaj x12) <| ss <| sv (sT29.ia (k := .i64) bx13) <| sv (qaj x13) <| sca (qu5 br14) <| syx (qan r14) <| en (aI (qa4 r14) <| aI (qab r14) <| rT)
        exact C.evp (A:=A65) mixed Tryz.call65 Tryz.func65 (c:=b65) rfl (aI (qab p) (aI (qad qbG params) (aI (qad qab preds) trivial))) z (by kernel_rfl)
noncomputable def qkM:((tPred×(List tVar)×(List tPred))→Option (tPred))→(tPred×(List tVar)×(List tPred))→Option (tPred):=fun (rec:(tPred×(List tVar)×(List tPred))→Option (tPred)) (x:tPred×(List tVar)×(List tPred)) => qik (fun p params preds => rec (p,params,preds)) x.1 x.2.1 x.2.2
noncomputable def qm5 (p:tPred) (params:(List tVar)) (preds:(List tPred)):Option (tPred):=fixE (qkM) (p,params,preds)
theorem qs1 {p:tPred} {params:(List tVar)} {preds:(List tPred)} {r:tPred} (h:qm5 p params preds = some r):CC Pg GE 65 [.agg (qaa p),sl qay params,sl qaa preds] (.agg (qaa r)) [(3,31)] :=
  qcs (F:=qkM) (M:=fun (x:tPred×(List tVar)×(List tPred)) (r:tPred) => CC Pg GE 65 [.agg (qaa x.1),sl qay x.2.1,sl qaa x.2.2] (.agg (qaa r)) [(3,31)]) (fun rec hrec x r h => qsj _ (fun p params preds r h => hrec (p,params,preds) r h) h) h
noncomputable def b64:Code:=Tryz.f64.body.getD .skip
def A64:List Nat:=[]
noncomputable def qcC (p:tPred) (a:tData) (a2:(List tPred)):Option (tPred) :=
  (qm5 p a.Preds a2).bind fun r1 =>
  some r1
theorem qhQ {p:tPred} {a:tData} {a2:(List tPred)} {r:tPred} (h:qcC p a a2 = some r):CC Pg GE 64 [.agg (qaa p),.eptr (qau a),.eptr ((cL qaa) a2)] (.agg (qaa r)) [(3,31)]:=by
  obtain ⟨r1,br1,h⟩:=bnd h
  obtain rfl:=lf h
  have z:=se (qat p) <| sx pz31 <| sv (qaj p) <| sv (qlA a) <| sv (qlL a) <| sv (qbb sc29 (sl qaa a2) []) <| sca (qs1 br1) <| sy (qam r1) <| en (aI (qa4 r1) <| aI (qab r1) <| rT)
  exact C.evp (A:=A64) mixed Tryz.call64 Tryz.func64 (c:=b64) rfl (aI (qab p) (aI (qbJ a) (aI (clLs qab a2) trivial))) z (by kernel_rfl)
noncomputable def qcx (v:tData) (v2:(List tPred)) (out:(List tPred)) (t8:(List tPred)) (t9:Int) (t10:Int):PSt:=stt 22 [(1,.func (.func 64) [] [.eptr (qau v),.eptr ((cL qaa) v2)]),(5,sl qaa out),(8,sl qaa t8),(9,.int .i64 t9),(10,.int .i64 t10)] [] [((5,0),31)]
noncomputable def qeI (v:tData) (v2:(List tPred)) (t8:(List tPred)) (t9:Int) (o:(List tPred)):PSt:=stt 22 [(5,sl qaa o)] [] [((5,0),31)]
noncomputable def qhK (v:tData) (v2:(List tPred)) (t8:(List tPred)) (t9:Int) (out:(List tPred)) (t10:Int):Option (((List tPred)×Int)⊕(((List tPred)))) :=
  if (decide (t10 < t9)) = true then
    (idx t8 t10).bind fun x2 =>
    (qcC x2 v v2).bind fun r3 =>
    (app out ([r3]:List tPred)).bind fun l4 =>
    some (.inl (l4,w64 (t10 + 1)))
  else
    some (.inr out)
noncomputable def qfK (v:tData) (v2:(List tPred)) (t8:(List tPred)) (t9:Int) (out:(List tPred)) (t10:Int):Option (((List tPred))):=loop (fun (zz:(List tPred)×Int) => qhK v v2 t8 t9 zz.1 zz.2) (out,t10)
theorem qlv (v:tData) (v2:(List tPred)) (out:(List tPred)) (t8:(List tPred)) (t9:Int) (t10:Int) {y:((List tPred)×Int)⊕(((List tPred)))} (h:qhK v v2 t8 t9 out t10 = some y) :
    Sat Pg GE 0 (cA b56 119) (LQ (fun (zz:(List tPred)×Int) => qcx v v2 zz.1 t8 t9 zz.2) (fun _ => .exit 0) (qeI v v2 t8 t9) y) (qcx v v2 out t8 t9 t10):=by
  rcases ifs h with ⟨c1,h⟩ | ⟨c1,h⟩
  · obtain ⟨x2,bx2,h⟩:=bnd h
    obtain ⟨r3,br3,h⟩:=bnd h
    obtain ⟨l4,bl4,h⟩:=bnd h
    obtain rfl:=lf h
    have z:=sg 0 c1 <| sv (sT29.ia (k := .i64) bx2) <| sv (qaj x2) <| sx pz31 <| sx (qan x2) <| sv (qah x2 []) <| sca (qhQ br3) <| sv (sT29.mk' (v:=qaP) qaq ([r3]:List tPred) 1 (by kernel_rfl)) <| sv (sT29.ap bl4) <| eFx 0 .normal (qcx v v2 l4 t8 t9 (w64 (t10 + 1))) rfl (qb1 (aI (aI trivial (aI (qbQ (qbJ v)) (aI (qbQ (clLs qab v2)) trivial))) (aI (up (qad qab l4)) (aI (up (qad qab t8)) (aI trivial (aI trivial trivial)))))) trivial
    exact qbK (A:=A56) mixed z (by kernel_rfl)
  · obtain rfl:=lf h
    have z:=sg 0 c1 <| eF (.exit 0) (qeI v v2 t8 t9 out)
    exact qbE (A:=A56) mixed (by intro hx; cases hx) z (by kernel_rfl)
theorem qlS (v:tData) (v2:(List tPred)) (out:(List tPred)) (t8:(List tPred)) (t9:Int) (t10:Int) {x:((List tPred))} (h:qfK v v2 t8 t9 out t10 = some x) :
    Sat Pg GE 0 (.loop (cA b56 119)) (EX (.exit 0) (qeI v v2 t8 t9 x)) (qcx v v2 out t8 t9 t10) :=
  Sat.loop (S:=fun (zz:(List tPred)×Int) => qcx v v2 zz.1 t8 t9 zz.2) (ex:=(fun _ => .exit 0)) (s:=(out,t10)) h fun zz y hy => qlv v v2 zz.1 t8 t9 zz.2 hy
noncomputable def qia (a:(List tPred)) (c:tData) (c2:(List tPred)):Option ((List tPred)) :=
  (qfK c c2 a (a.length:Int) ([]:List tPred) 0).bind fun o5 =>
  some o5
theorem qoB {a:(List tPred)} {c:tData} {c2:(List tPred)} {r:(List tPred)} (h:qia a c c2 = some r):CC Pg GE 56 [sl qaa a,.func (.func 64) [] [.eptr (qau c),.eptr ((cL qaa) c2)]] (sl qaa r) [(0,31)]:=by
  obtain ⟨o5,bo5,h⟩:=bnd h
  obtain rfl:=lf h
  have z:=svn (sT29.ln a) <| spc (qlS c c2 ([]:List tPred) a (a.length:Int) 0 bo5) <| en (aI (rP (sl qaa o5)) <| (qad qab o5))
  exact C.evp (A:=A56) mixed Tryz.call56 Tryz.func56 (c:=b56) rfl (aI (qad qab a) (aI (aI trivial (aI (qbJ c) (aI (clLs qab c2) trivial))) trivial)) z (by kernel_rfl)
noncomputable def b88:Code:=Tryz.f88.body.getD .skip
def A88:List Nat:=[]
noncomputable def qg8 (R14:qbo) (a:tType) (c:tData) (c2:(List tPred)):Option (tType) :=
  (R14 a c c2).bind fun r1 =>
  some r1
theorem qnq (R14:qbo) (hR14:qdK R14) {a:tType} {c:tData} {c2:(List tPred)} {r:tType} (h:qg8 R14 a c c2 = some r):CC Pg GE 88 [.agg (qac a),.eptr [.func (.func 64) [] [.eptr (qau c),.eptr ((cL qaa) c2)]]] (.agg (qac r)) [(2,33)]:=by
  obtain ⟨r1,br1,h⟩:=bnd h
  obtain rfl:=lf h
  have z:=se (qbX a) <| sx pz33 <| sv (qaZ a) <| sv (qbb qym (.func (.func 64) [] [.eptr (qau c),.eptr ((cL qaa) c2)]) []) <| sca (hR14 _ _ _ _ br1) <| sy (qaB r1) <| en (aI (qc8 r1) <| aI (qag r1) <| rT)
  exact C.evp (A:=A88) mixed Tryz.call88 Tryz.func88 (c:=b88) rfl (aI (qag a) (aI (aI (aI trivial (aI (qbJ c) (aI (clLs qab c2) trivial))) trivial) trivial)) z (by kernel_rfl)
noncomputable def b62:Code:=Tryz.f62.body.getD .skip
def A62:List Nat:=[14,21]
noncomputable def qcu (v:tData) (v2:(List tPred)) (out:(List tType)) (t8:(List tType)) (t9:Int) (t10:Int):PSt:=stt 22 [(1,.func (.func 88) [] [.eptr [.func (.func 64) [] [.eptr (qau v),.eptr ((cL qaa) v2)]]]),(5,sl qac out),(8,sl qac t8),(9,.int .i64 t9),(10,.int .i64 t10)] [] [((5,0),33)]
noncomputable def qeH (v:tData) (v2:(List tPred)) (t8:(List tType)) (t9:Int) (o:(List tType)):PSt:=stt 22 [(5,sl qac o)] [] [((5,0),33)]
noncomputable def qhL (R14:qbo) (v:tData) (v2:(List tPred)) (t8:(List tType)) (t9:Int) (out:(List tType)) (t10:Int):Option (((List tType)×Int)⊕(((List tType)))) :=
  if (decide (t10 < t9)) = true then
    (idx t8 t10).bind fun x2 =>
    (qg8 R14 x2 v v2).bind fun r3 =>
    (app out ([r3]:List tType)).bind fun l4 =>
    some (.inl (l4,w64 (t10 + 1)))
  else
    some (.inr out)
noncomputable def qfN (R14:qbo) (v:tData) (v2:(List tPred)) (t8:(List tType)) (t9:Int) (out:(List tType)) (t10:Int):Option (((List tType))):=loop (fun (zz:(List tType)×Int) => qhL R14 v v2 t8 t9 zz.1 zz.2) (out,t10)
theorem qlt (R14:qbo) (hR14:qdK R14) (v:tData) (v2:(List tPred)) (out:(List tType)) (t8:(List tType)) (t9:Int) (t10:Int) {y:((List tType)×Int)⊕(((List tType)))} (h:qhL R14 v v2 t8 t9 out t10 = some y) :
    Sat Pg GE 0 (cA b62 119) (LQ (fun (zz:(List tType)×Int) => qcu v v2 zz.1 t8 t9 zz.2) (fun _ => .exit 0) (qeH v v2 t8 t9) y) (qcu v v2 out t8 t9 t10):=by
  rcases ifs h with ⟨c1,h⟩ | ⟨c1,h⟩
  · obtain ⟨x2,bx2,h⟩:=bnd h
    obtain ⟨r3,br3,h⟩:=bnd h
    obtain ⟨l4,bl4,h⟩:=bnd h
    obtain rfl:=lf h
    have z:=sg 0 c1 <| sv (sT27.ia (k := .i64) bx2) <| sv (qaZ x2) <| sx pz33 <| sx (qbr x2) <| sv (qaS x2 []) <| sca (qnq R14 hR14 br3) <| sv (sT27.mk' (v:=qc4) qbv ([r3]:List tType) 1 (by kernel_rfl)) <| sv (sT27.ap bl4) <| eFx 0 .normal (qcu v v2 l4 t8 t9 (w64 (t10 + 1))) rfl (qb1 (aI (aI trivial (aI (aI (aI trivial (aI (qbQ (qbJ v)) (aI (qbQ (clLs qab v2)) trivial))) trivial) trivial)) (aI (up (qad qag l4)) (aI (up (qad qag t8)) (aI trivial (aI trivial trivial)))))) trivial
    exact qbK (A:=A62) mixed z (by kernel_rfl)
  · obtain rfl:=lf h
    have z:=sg 0 c1 <| eF (.exit 0) (qeH v v2 t8 t9 out)
    exact qbE (A:=A62) mixed (by intro hx; cases hx) z (by kernel_rfl)
theorem qlN (R14:qbo) (hR14:qdK R14) (v:tData) (v2:(List tPred)) (out:(List tType)) (t8:(List tType)) (t9:Int) (t10:Int) {x:((List tType))} (h:qfN R14 v v2 t8 t9 out t10 = some x) :
    Sat Pg GE 0 (.loop (cA b62 119)) (EX (.exit 0) (qeH v v2 t8 t9 x)) (qcu v v2 out t8 t9 t10) :=
  Sat.loop (S:=fun (zz:(List tType)×Int) => qcu v v2 zz.1 t8 t9 zz.2) (ex:=(fun _ => .exit 0)) (s:=(out,t10)) h fun zz y hy => qlt R14 hR14 v v2 zz.1 t8 t9 zz.2 hy
noncomputable def qhU (R14:qbo) (a:(List tType)) (c:tData) (c2:(List tPred)):Option ((List tType)) :=
  (qfN R14 c c2 a (a.length:Int) ([]:List tType) 0).bind fun o5 =>
  some o5
theorem qoG (R14:qbo) (hR14:qdK R14) {a:(List tType)} {c:tData} {c2:(List tPred)} {r:(List tType)} (h:qhU R14 a c c2 = some r):CC Pg GE 62 [sl qac a,.func (.func 88) [] [.eptr [.func (.func 64) [] [.eptr (qau c),.eptr ((cL qaa) c2)]]]] (sl qac r) [(0,33)]:=by
  obtain ⟨o5,bo5,h⟩:=bnd h
  obtain rfl:=lf h
  have z:=svn (sT27.ln a) <| spc (qlN R14 hR14 c c2 ([]:List tType) a (a.length:Int) 0 bo5) <| en (aI (rP (sl qac o5)) <| (qad qag o5))
  exact C.evp (A:=A62) mixed Tryz.call62 Tryz.func62 (c:=b62) rfl (aI (qad qag a) (aI (aI trivial (aI (aI (aI trivial (aI (qbJ c) (aI (clLs qab c2) trivial))) trivial) trivial)) trivial)) z (by kernel_rfl)
noncomputable def b51:Code:=Tryz.f51.body.getD .skip
def A51:List Nat:=[]
noncomputable def qeP (R14:qbo) (t:tType) (c:tData) (c2:(List tPred)):Option (tType) :=
  (qip t.Names).bind fun r1 =>
  (qcC t.Pred c c2).bind fun r2 =>
  (qia t.Preds c c2).bind fun r3 =>
  (qhU R14 t.Args c c2).bind fun r4 =>
  some (⟨t.Op,t.Name,r4,r1,r2,r3⟩:tType)
theorem qot (R14:qbo) (hR14:qdK R14) {t:tType} {c:tData} {c2:(List tPred)} {r:tType} (h:qeP R14 t c c2 = some r):CC Pg GE 51 [.agg (qac t),.func (.func 64) [] [.eptr (qau c),.eptr ((cL qaa) c2)]] (.agg (qac r)) [(2,33)]:=by
  obtain ⟨r1,br1,h⟩:=bnd h
  obtain ⟨r2,br2,h⟩:=bnd h
  obtain ⟨r3,br3,h⟩:=bnd h
  obtain ⟨r4,br4,h⟩:=bnd h
  obtain rfl:=lf h
  have z:=se (qbX t) <| se (rfl:qbc (.func (.func 64) [] [.eptr (qau c),.eptr ((cL qaa) c2)]) = some [.func (.func 64) [] [.eptr (qau c),.eptr ((cL qaa) c2)]]) <| sx pz33 <| sdr [0,1,0,4,0,16,48,0,0,256,1008,0,2048,0,16368,32767,0,131071] <| sv (qaJ t) <| sv (qaH t) <| sv (qbp t) <| sv (qbu t) <| sv (qaM t) <| sv (qaN t) <| sca (qol br1) <| sv (qbb qym (.func (.func 64) [] [.eptr (qau c),.eptr ((cL qaa) c2)]) []) <| sv (qcJ t) <| sv (qcK t) <| sca (qhQ br2) <| sv (qaV t) <| sv (qaT t) <| sv (qbb qym (.func (.func 64) [] [.eptr (qau c),.eptr ((cL qaa) c2)]) []) <| sca (qoB br3) <| sb (qhi t.Op t.Name r1 r2 r3) (qg2 t.Op t.Name r1 r2 r3) <| syx (qbr (⟨t.Op,t.Name,([]:List tType),r1,r2,r3⟩:tType)) <| sv (qaG t) <| sv (qaI t) <| sca (qoG R14 hR14 br4) <| sz (qaS (⟨t.Op,t.Name,r4,r1,r2,r3⟩:tType) []) <| sy (qaB (⟨t.Op,t.Name,r4,r1,r2,r3⟩:tType)) <| en (aI (qc8 (⟨t.Op,t.Name,r4,r1,r2,r3⟩:tType)) <| aI (qag (⟨t.Op,t.Name,r4,r1,r2,r3⟩:tType)) <| rT)
  exact C.evp (A:=A51) mixed Tryz.call51 Tryz.func51 (c:=b51) rfl (aI (qag t) (aI (aI trivial (aI (qbJ c) (aI (clLs qab c2) trivial))) trivial)) z (by kernel_rfl)
noncomputable def qg6:((tType×tData×(List tPred))→Option (tType))→(tType×tData×(List tPred))→Option (tType):=fun (rec:(tType×tData×(List tPred))→Option (tType)) (x:tType×tData×(List tPred)) => qeP (fun t c c2 => rec (t,c,c2)) x.1 x.2.1 x.2.2
noncomputable def qiO (t:tType) (c:tData) (c2:(List tPred)):Option (tType):=fixE (qg6) (t,c,c2)
theorem qpO {t:tType} {c:tData} {c2:(List tPred)} {r:tType} (h:qiO t c c2 = some r):CC Pg GE 51 [.agg (qac t),.func (.func 64) [] [.eptr (qau c),.eptr ((cL qaa) c2)]] (.agg (qac r)) [(2,33)] :=
  qcs (F:=qg6) (M:=fun (x:tType×tData×(List tPred)) (r:tType) => CC Pg GE 51 [.agg (qac x.1),.func (.func 64) [] [.eptr (qau x.2.1),.eptr ((cL qaa) x.2.2)]] (.agg (qac r)) [(2,33)]) (fun rec hrec x r h => qot _ (fun t c c2 r h => hrec (t,c,c2) r h) h) h
noncomputable def b63:Code:=Tryz.f63.body.getD .skip
def A63:List Nat:=[]
noncomputable def qft (t:tType) (a:tData) (a2:(List tPred)):Option (tType) :=
  (qiO t a a2).bind fun r1 =>
  some r1
theorem qoE {t:tType} {a:tData} {a2:(List tPred)} {r:tType} (h:qft t a a2 = some r):CC Pg GE 63 [.agg (qac t),.eptr (qau a),.eptr ((cL qaa) a2)] (.agg (qac r)) [(2,33)]:=by
  obtain ⟨r1,br1,h⟩:=bnd h
  obtain rfl:=lf h
  have z:=se (qbX t) <| sx pz33 <| sv (qaZ t) <| sca (qpO br1) <| sy (qaB r1) <| en (aI (qc8 r1) <| aI (qag r1) <| rT)
  exact C.evp (A:=A63) mixed Tryz.call63 Tryz.func63 (c:=b63) rfl (aI (qag t) (aI (qbJ a) (aI (clLs qab a2) trivial))) z (by kernel_rfl)
noncomputable def qcw (v:tData) (v2:(List tPred)) (out:(List tType)) (t8:(List tType)) (t9:Int) (t10:Int):PSt:=stt 22 [(1,.func (.func 63) [] [.eptr (qau v),.eptr ((cL qaa) v2)]),(5,sl qac out),(8,sl qac t8),(9,.int .i64 t9),(10,.int .i64 t10)] [] [((5,0),33)]
noncomputable def qeN (v:tData) (v2:(List tPred)) (t8:(List tType)) (t9:Int) (o:(List tType)):PSt:=stt 22 [(5,sl qac o)] [] [((5,0),33)]
noncomputable def qhR (v:tData) (v2:(List tPred)) (t8:(List tType)) (t9:Int) (out:(List tType)) (t10:Int):Option (((List tType)×Int)⊕(((List tType)))) :=
  if (decide (t10 < t9)) = true then
    (idx t8 t10).bind fun x2 =>
    (qft x2 v v2).bind fun r3 =>
    (app out ([r3]:List tType)).bind fun l4 =>
    some (.inl (l4,w64 (t10 + 1)))
  else
    some (.inr out)
noncomputable def qfP (v:tData) (v2:(List tPred)) (t8:(List tType)) (t9:Int) (out:(List tType)) (t10:Int):Option (((List tType))):=loop (fun (zz:(List tType)×Int) => qhR v v2 t8 t9 zz.1 zz.2) (out,t10)
theorem qlb (v:tData) (v2:(List tPred)) (out:(List tType)) (t8:(List tType)) (t9:Int) (t10:Int) {y:((List tType)×Int)⊕(((List tType)))} (h:qhR v v2 t8 t9 out t10 = some y) :
    Sat Pg GE 0 (cA b62 119) (LQ (fun (zz:(List tType)×Int) => qcw v v2 zz.1 t8 t9 zz.2) (fun _ => .exit 0) (qeN v v2 t8 t9) y) (qcw v v2 out t8 t9 t10):=by
  rcases ifs h with ⟨c1,h⟩ | ⟨c1,h⟩
  · obtain ⟨x2,bx2,h⟩:=bnd h
    obtain ⟨r3,br3,h⟩:=bnd h
    obtain ⟨l4,bl4,h⟩:=bnd h
    obtain rfl:=lf h
    have z:=sg 0 c1 <| sv (sT27.ia (k := .i64) bx2) <| sv (qaZ x2) <| sx pz33 <| sx (qbr x2) <| sv (qaS x2 []) <| sca (qoE br3) <| sv (sT27.mk' (v:=qc4) qbv ([r3]:List tType) 1 (by kernel_rfl)) <| sv (sT27.ap bl4) <| eFx 0 .normal (qcw v v2 l4 t8 t9 (w64 (t10 + 1))) rfl (qb1 (aI (aI trivial (aI (qbQ (qbJ v)) (aI (qbQ (clLs qab v2)) trivial))) (aI (up (qad qag l4)) (aI (up (qad qag t8)) (aI trivial (aI trivial trivial)))))) trivial
    exact qbK (A:=A62) mixed z (by kernel_rfl)
  · obtain rfl:=lf h
    have z:=sg 0 c1 <| eF (.exit 0) (qeN v v2 t8 t9 out)
    exact qbE (A:=A62) mixed (by intro hx; cases hx) z (by kernel_rfl)
theorem qmf (v:tData) (v2:(List tPred)) (out:(List tType)) (t8:(List tType)) (t9:Int) (t10:Int) {x:((List tType))} (h:qfP v v2 t8 t9 out t10 = some x) :
    Sat Pg GE 0 (.loop (cA b62 119)) (EX (.exit 0) (qeN v v2 t8 t9 x)) (qcw v v2 out t8 t9 t10) :=
  Sat.loop (S:=fun (zz:(List tType)×Int) => qcw v v2 zz.1 t8 t9 zz.2) (ex:=(fun _ => .exit 0)) (s:=(out,t10)) h fun zz y hy => qlb v v2 zz.1 t8 t9 zz.2 hy
noncomputable def qh6 (a:(List tType)) (c:tData) (c2:(List tPred)):Option ((List tType)) :=
  (qfP c c2 a (a.length:Int) ([]:List tType) 0).bind fun o5 =>
  some o5
theorem qoC {a:(List tType)} {c:tData} {c2:(List tPred)} {r:(List tType)} (h:qh6 a c c2 = some r):CC Pg GE 62 [sl qac a,.func (.func 63) [] [.eptr (qau c),.eptr ((cL qaa) c2)]] (sl qac r) [(0,33)]:=by
  obtain ⟨o5,bo5,h⟩:=bnd h
  obtain rfl:=lf h
  have z:=svn (sT27.ln a) <| spc (qmf c c2 ([]:List tType) a (a.length:Int) 0 bo5) <| en (aI (rP (sl qac o5)) <| (qad qag o5))
  exact C.evp (A:=A62) mixed Tryz.call62 Tryz.func62 (c:=b62) rfl (aI (qad qag a) (aI (aI trivial (aI (qbJ c) (aI (clLs qab c2) trivial))) trivial)) z (by kernel_rfl)
noncomputable def b23:Code:=Tryz.f23.body.getD .skip
def A23:List Nat:=[]
noncomputable def qgT (m:tModule) (con:Str) (preds:(List tPred)):Option ((List tType)×Bool) :=
  (qod m con).bind fun r1 =>
  if (!r1.2.2) = true then
    some (([]:List tType),false)
  else
    (idx r1.1.Cons r1.2.1).bind fun x3 =>
    (qh6 x3.Fields r1.1 preds).bind fun r4 =>
    some (r4,true)
theorem qbI {m:tModule} {con:Str} {preds:(List tPred)} {r:(List tType)×Bool} (h:qgT m con preds = some r):CC Pg GE 23 [.agg (qaL m),.str con,sl qaa preds] (.tuple [sl qac r.1,.bool r.2]) [(0,33)]:=by
  obtain ⟨r1,br1,h⟩:=bnd h
  rcases ifs h with ⟨c2,h⟩ | ⟨c2,h⟩
  · obtain rfl:=lf h
    have z:=se (qc0 m) <| se (pcL qaa preds) <| sv (qeF m) <| sca (qqa br1) <| sx pz61 <| sx (qfg r1.1) <| sfz 2 [qau r1.1] [5,8,9,10] [] (fb1' (m:=0) (b:=2) rfl (qnP r1.1) rfl) (fb2 2 (qbJ r1.1)) (fb3 (qhw r1.1)) <| sf (nofL 2 (clLs qab preds)) <| sg 0 c2 <| en (aI (rP (.tuple [sl qac ([]:List tType),.bool false])) <| (aI (qad qag ([]:List tType)) (aI trivial trivial)))
    exact C.evp (A:=A23) mixed Tryz.call23 Tryz.func23 (c:=b23) rfl (aI (qb2 m) (aI trivial (aI (qad qab preds) trivial))) z (by kernel_rfl)
  · obtain ⟨x3,bx3,h⟩:=bnd h
    obtain ⟨r4,br4,h⟩:=bnd h
    obtain rfl:=lf h
    have z:=se (qc0 m) <| se (pcL qaa preds) <| sv (qeF m) <| sca (qqa br1) <| sx pz61 <| sx (qfg r1.1) <| sfz 2 [qau r1.1] [5,8,9,10] [] (fb1' (m:=0) (b:=2) rfl (qnP r1.1) rfl) (fb2 2 (qbJ r1.1)) (fb3 (qhw r1.1)) <| sf (nofL 2 (clLs qab preds)) <| sg 0 c2 <| sv (qfj r1.1) <| sv (qfA r1.1) <| sv (sT59.ia (k := .i64) bx3) <| sv (qrT x3) <| sv (qrR x3) <| sca (qoC br4) <| en (aI (rP (.tuple [sl qac r4,.bool true])) <| (aI (qad qag r4) (aI trivial trivial)))
    exact C.evp (A:=A23) mixed Tryz.call23 Tryz.func23 (c:=b23) rfl (aI (qb2 m) (aI trivial (aI (qad qab preds) trivial))) z (by kernel_rfl)
noncomputable def b86:Code:=Tryz.f86.body.getD .skip
def A86:List Nat:=[]
noncomputable def qi4 (a:tAbs) (a2:Str):Option (Bool) :=
  some (a.Name == a2)
theorem qhr {a:tAbs} {a2:Str} {r:Bool} (h:qi4 a a2 = some r):CC Pg GE 86 [.agg (qaK a),.eptr (cS a2)] (.bool r) []:=by
  obtain rfl:=lf h
  have z:=se (qyX a) <| sv (qkt a) <| sv (qlR a) <| sv (qbb sc9 (.str a2) []) <| en (aI (rP (.bool (a.Name == a2))) <| trivial)
  exact C.evp (A:=A86) mixed Tryz.call86 Tryz.func86 (c:=b86) rfl (aI (qcr a) (aI (clS a2) trivial)) z (by kernel_rfl)
noncomputable def b85:Code:=Tryz.f85.body.getD .skip
def A85:List Nat:=[10,17]
noncomputable def qck (s:(List tAbs)) (v:Str) (t7:Int) (t8:Int):PSt:=stt 19 [(0,sl qaK s),(1,.func (.func 86) [] [.eptr (cS v)]),(7,.int .i64 t7),(8,.int .i64 t8)] [] []
noncomputable def qcb (o:(Int)⊕(Unit)):Exit:=match o with
  | (.inl _) => .ret
  | (.inr _) => .exit 0
noncomputable def qbW (s:(List tAbs)) (v:Str) (t7:Int) (o:(Int)⊕(Unit)):PSt:=match o with
  | (.inl o) => stt 19 [(4,.int .i64 o)] [] []
  | (.inr o) => stt 19 [] [] []
noncomputable def qhg (s:(List tAbs)) (v:Str) (t7:Int) (t8:Int):Option ((Int)⊕((Int)⊕(Unit))) :=
  if (decide (t8 < t7)) = true then
    (idx s t8).bind fun x2 =>
    (qi4 x2 v).bind fun r3 =>
    if r3 = true then
      some (.inr (.inl t8))
    else
      some (.inl (w64 (t8 + 1)))
  else
    some (.inr (.inr ()))
noncomputable def qiA (s:(List tAbs)) (v:Str) (t7:Int) (t8:Int):Option ((Int)⊕(Unit)):=loop (fun (zz:Int) => qhg s v t7 zz) t8
theorem qkP (s:(List tAbs)) (v:Str) (t7:Int) (t8:Int) {y:(Int)⊕((Int)⊕(Unit))} (h:qhg s v t7 t8 = some y) :
    Sat Pg GE 0 (cA b85 55) (LQ (fun (zz:Int) => qck s v t7 zz) qcb (qbW s v t7) y) (qck s v t7 t8):=by
  rcases ifs h with ⟨c1,h⟩ | ⟨c1,h⟩
  · obtain ⟨x2,bx2,h⟩:=bnd h
    obtain ⟨r3,br3,h⟩:=bnd h
    rcases ifs h with ⟨c4,h⟩ | ⟨c4,h⟩
    · obtain rfl:=lf h
      have z:=sg 0 c1 <| sv (sT24.ia (k := .i64) bx2) <| sv (qwY x2) <| sca (qhr br3) <| sg 0 c4 <| eF (qcb (.inl t8)) (qbW s v t7 (.inl t8))
      exact qbE (A:=A85) mixed (by intro hx; cases hx) z (by kernel_rfl)
    · obtain rfl:=lf h
      have z:=sg 0 c1 <| sv (sT24.ia (k := .i64) bx2) <| sv (qwY x2) <| sca (qhr br3) <| sg 0 c4 <| eF .normal (qck s v t7 (w64 (t8 + 1)))
      exact qjk (A:=A85) mixed z (by kernel_rfl)
  · obtain rfl:=lf h
    have z:=sg 0 c1 <| eF (qcb (.inr ())) (qbW s v t7 (.inr ()))
    exact qbE (A:=A85) mixed (by intro hx; cases hx) z (by kernel_rfl)
theorem qgu (s:(List tAbs)) (v:Str) (t7:Int) (t8:Int) {x:(Int)⊕(Unit)} (h:qiA s v t7 t8 = some x) :
    Sat Pg GE 0 (.loop (cA b85 55)) (EX (qcb x) (qbW s v t7 x)) (qck s v t7 t8) :=
  Sat.loop (S:=fun (zz:Int) => qck s v t7 zz) (ex:=qcb) (s:=t8) h fun zz y hy => qkP s v t7 zz hy
noncomputable def qks (s:(List tAbs)) (c:Str):Option (Int) :=
  (qiA s c (s.length:Int) 0).bind fun o5 => match o5 with
  | (.inl o5) =>
    some o5
  | (.inr o5) =>
    some (-1)
theorem qiq {s:(List tAbs)} {c:Str} {r:Int} (h:qks s c = some r):CC Pg GE 85 [sl qaK s,.func (.func 86) [] [.eptr (cS c)]] (.int .i64 r) []:=by
  obtain ⟨o5,bo5,h⟩:=bnd h
  rcases o5 with o5 | o5
  · obtain rfl:=lf h
    have z:=svn (sT24.ln s) <| spc (e := .ret) (s1:=qbW s c (s.length:Int) (.inl o5)) (qgu s c (s.length:Int) 0 bo5) <| en (aI (rP (.int .i64 o5)) <| trivial)
    exact C.evp (A:=A85) mixed Tryz.call85 Tryz.func85 (c:=b85) rfl (aI (qad qcr s) (aI (aI trivial (aI (clS c) trivial)) trivial)) z (by kernel_rfl)
  · obtain rfl:=lf h
    have z:=svn (sT24.ln s) <| spc (e := .exit 0) (s1:=qbW s c (s.length:Int) (.inr o5)) (qgu s c (s.length:Int) 0 bo5) <| en (aI (rP (.int .i64 (-1))) <| trivial)
    exact C.evp (A:=A85) mixed Tryz.call85 Tryz.func85 (c:=b85) rfl (aI (qad qcr s) (aI (aI trivial (aI (clS c) trivial)) trivial)) z (by kernel_rfl)
end Go.Proofs.YtgldgpdhblndkaaGreatDoor
