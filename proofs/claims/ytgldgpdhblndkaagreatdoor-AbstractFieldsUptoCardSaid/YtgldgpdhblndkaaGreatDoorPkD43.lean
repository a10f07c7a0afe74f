/-
  WHAT IS PROVED: parts of the proof, put together by a program out of smaller texts, their own names made short (G14). Conditions: none.
-/
import Derived.Test.YtgldgpdhblndkaaGreatDoorPkD42
namespace Go.Proofs.YtgldgpdhblndkaaGreatDoor
open Go
set_option linter.unusedVariables false
set_option maxRecDepth 100000
noncomputable def b4:Code:=Tryz.f4.body.getD .skip
abbrev qdW:=((List tType)→Option (Bool))
abbrev qlk (R:qdW):Prop := ∀ (a:(List tType)) (r:Bool),R a = some r→CC Pg GE 22 [sl qac a] (.bool r) []
noncomputable def b22:Code:=Tryz.f22.body.getD .skip
def A22:List Nat:=[]
noncomputable def qgX (t7:(List tType)) (t8:Int) (t9:Int):PSt:=stt 33 [(7,sl qac t7),(8,.int .i64 t8),(9,.int .i64 t9)] [] []
noncomputable def qfm (o:(Unit)⊕(Unit)):Exit:=match o with
  | (.inl _) => .ret
  | (.inr _) => .exit 0
noncomputable def qek (t7:(List tType)) (t8:Int) (o:(Unit)⊕(Unit)):PSt:=match o with
  | (.inl o) => stt 33 [(2,.bool false)] [] []
  | (.inr o) => stt 33 [] [] []
noncomputable def qgQ (t7:(List tType)) (t8:Int) (t9:Int) (t18:(List tPred)) (t19:Int) (t20:Int) (m:Int) (m2:Str) (m3:(List tType)) (m4:(List Str)) (m5:Int) (m6:Str) (m7:Int) (m8:(List tPred)) (m9:(List tPred)):PSt:=stt 33 [(4,.bptr 0 0),(7,sl qac t7),(8,.int .i64 t8),(9,.int .i64 t9),(18,sl qaa t18),(19,.int .i64 t19),(20,.int .i64 t20)] [.cells [.int .i64 m,.str m2,sl qac m3,sl cS m4,.int .i64 m5,.str m6,.int .i64 m7,sl qaa m8,sl qaa m9] []] [((18,0),31)]
noncomputable def qhy (o:(Unit)⊕(Unit)):Exit:=match o with
  | (.inl _) => .ret
  | (.inr _) => .exit 2
noncomputable def qeg (t7:(List tType)) (t8:Int) (t9:Int) (t18:(List tPred)) (t19:Int) (m:Int) (m2:Str) (m3:(List tType)) (m4:(List Str)) (m5:Int) (m6:Str) (m7:Int) (m8:(List tPred)) (m9:(List tPred)) (o:(Unit)⊕(Unit)):PSt:=match o with
  | (.inl o) => stt 33 [(2,.bool false)] [.cells [.int .i64 m,.str m2,sl qac m3,sl cS m4,.int .i64 m5,.str m6,.int .i64 m7,sl qaa m8,sl qaa m9] []] []
  | (.inr o) => stt 33 [(4,.bptr 0 0),(7,sl qac t7),(8,.int .i64 t8),(9,.int .i64 t9)] [.cells [.int .i64 m,.str m2,sl qac m3,sl cS m4,.int .i64 m5,.str m6,.int .i64 m7,sl qaa m8,sl qaa m9] []] []
noncomputable def qqY (R116:qdW) (t18:(List tPred)) (t19:Int) (t20:Int):Option ((Int)⊕((Unit)⊕(Unit))) :=
  if (decide (t20 < t19)) = true then
    (idx t18 t20).bind fun x5 =>
    (qqH x5).bind fun r6 =>
    if (decide (r6 > 3)) = true then
      some (.inr (.inl ()))
    else
      some (.inl (w64 (t20 + 1)))
  else
    some (.inr (.inr ()))
noncomputable def qpF (R116:qdW) (t18:(List tPred)) (t19:Int) (t20:Int):Option ((Unit)⊕(Unit)):=loop (fun (zz:Int) => qqY R116 t18 t19 zz) t20
theorem qs3 (R116:qdW) (hR116:qlk R116) (t7:(List tType)) (t8:Int) (t9:Int) (t18:(List tPred)) (t19:Int) (t20:Int) (m:Int) (m2:Str) (m3:(List tType)) (m4:(List Str)) (m5:Int) (m6:Str) (m7:Int) (m8:(List tPred)) (m9:(List tPred)) {y:(Int)⊕((Unit)⊕(Unit))} (h:qqY R116 t18 t19 t20 = some y) :
    Sat Pg GE 0 (cA b22 28599) (LQ (fun (zz:Int) => qgQ t7 t8 t9 t18 t19 zz m m2 m3 m4 m5 m6 m7 m8 m9) qhy (qeg t7 t8 t9 t18 t19 m m2 m3 m4 m5 m6 m7 m8 m9) y) (qgQ t7 t8 t9 t18 t19 t20 m m2 m3 m4 m5 m6 m7 m8 m9):=by
  rcases ifs h with ⟨c4,h⟩ | ⟨c4,h⟩
  · obtain ⟨x5,bx5,h⟩:=bnd h
    obtain ⟨r6,br6,h⟩:=bnd h
    rcases ifs h with ⟨c7,h⟩ | ⟨c7,h⟩
    · obtain rfl:=lf h
      have z:=sg 0 c4 <| sv (sT29.ia (k := .i64) bx5) <| sv (qaj x5) <| sx pz31 <| sx (qan x5) <| sv (qah x5 []) <| sca (qnx br6) <| sg 0 c7 <| eFx 0 (qhy (.inl ())) (qeg t7 t8 t9 t18 t19 m m2 m3 m4 m5 m6 m7 m8 m9 (.inl ())) rfl (qb1 (aI trivial trivial)) (aI (aI trivial (aI trivial (aI (up (qad qag m3)) (aI (up (qad clS m4)) (aI trivial (aI trivial (aI trivial (aI (up (qad qab m8)) (aI (up (qad qab m9)) trivial))))))))) trivial)
      exact qi1 (A:=A22) mixed (by intro hx; cases hx) z (by kernel_rfl)
    · obtain rfl:=lf h
      have z:=sg 0 c4 <| sv (sT29.ia (k := .i64) bx5) <| sv (qaj x5) <| sx pz31 <| sx (qan x5) <| sv (qah x5 []) <| sca (qnx br6) <| sg 0 c7 <| eFx 0 .normal (qgQ t7 t8 t9 t18 t19 (w64 (t20 + 1)) m m2 m3 m4 m5 m6 m7 m8 m9) rfl (qb1 (aI (qdu rfl) (aI (up (qad qag t7)) (aI trivial (aI trivial (aI (up (qad qab t18)) (aI trivial (aI trivial trivial)))))))) (aI (aI trivial (aI trivial (aI (up (qad qag m3)) (aI (up (qad clS m4)) (aI trivial (aI trivial (aI trivial (aI (up (qad qab m8)) (aI (up (qad qab m9)) trivial))))))))) trivial)
      exact qbK (A:=A22) mixed z (by kernel_rfl)
  · obtain rfl:=lf h
    have z:=sg 0 c4 <| eF (qhy (.inr ())) (qeg t7 t8 t9 t18 t19 m m2 m3 m4 m5 m6 m7 m8 m9 (.inr ()))
    exact qbE (A:=A22) mixed (by intro hx; cases hx) z (by kernel_rfl)
theorem qkK (R116:qdW) (hR116:qlk R116) (t7:(List tType)) (t8:Int) (t9:Int) (t18:(List tPred)) (t19:Int) (t20:Int) (m:Int) (m2:Str) (m3:(List tType)) (m4:(List Str)) (m5:Int) (m6:Str) (m7:Int) (m8:(List tPred)) (m9:(List tPred)) {x:(Unit)⊕(Unit)} (h:qpF R116 t18 t19 t20 = some x) :
    Sat Pg GE 0 (.loop (cA b22 28599)) (EX (qhy x) (qeg t7 t8 t9 t18 t19 m m2 m3 m4 m5 m6 m7 m8 m9 x)) (qgQ t7 t8 t9 t18 t19 t20 m m2 m3 m4 m5 m6 m7 m8 m9) :=
  Sat.loop (S:=fun (zz:Int) => qgQ t7 t8 t9 t18 t19 zz m m2 m3 m4 m5 m6 m7 m8 m9) (ex:=qhy) (s:=t20) h fun zz y hy => qs3 R116 hR116 t7 t8 t9 t18 t19 zz m m2 m3 m4 m5 m6 m7 m8 m9 hy
noncomputable def qqj (R116:qdW) (t7:(List tType)) (t8:Int) (t9:Int):Option ((Int)⊕((Unit)⊕(Unit))) :=
  if (decide (t9 < t8)) = true then
    (idx t7 t9).bind fun x2 =>
    (app ([x2.Pred]:List tPred) x2.Preds).bind fun l3 =>
    (qpF R116 l3 (l3.length:Int) 0).bind fun o8 => match o8 with
    | (.inl o8) =>
      some (.inr (.inl ()))
    | (.inr o8) =>
      (R116 x2.Args).bind fun r9 =>
      if (!r9) = true then
        some (.inr (.inl ()))
      else
        some (.inl (w64 (t9 + 1)))
  else
    some (.inr (.inr ()))
noncomputable def qpy (R116:qdW) (t7:(List tType)) (t8:Int) (t9:Int):Option ((Unit)⊕(Unit)):=loop (fun (zz:Int) => qqj R116 t7 t8 zz) t9
theorem qsY (R116:qdW) (hR116:qlk R116) (t7:(List tType)) (t8:Int) (t9:Int) {y:(Int)⊕((Unit)⊕(Unit))} (h:qqj R116 t7 t8 t9 = some y) :
    Sat Pg GE 0 (cA b22 55) (LQ (fun (zz:Int) => qgX t7 t8 zz) qfm (qek t7 t8) y) (qgX t7 t8 t9):=by
  rcases ifs h with ⟨c1,h⟩ | ⟨c1,h⟩
  · obtain ⟨x2,bx2,h⟩:=bnd h
    obtain ⟨l3,bl3,h⟩:=bnd h
    obtain ⟨o8,bo8,h⟩:=bnd h
    rcases o8 with o8 | o8
    · obtain rfl:=lf h
      have z:=sg 0 c1 <| sv (sT27.ia (k := .i64) bx2) <| sv (qaZ x2) <| sx pz33 <| sx (qbr x2) <| sv (qah x2.Pred [sl qaa x2.Preds]) <| sv (sT29.mk' (v:=qaP) qaq ([x2.Pred]:List tPred) 1 (by kernel_rfl)) <| ss <| sv (sT29.ap bl3) <| svn (sT29.ln l3) <| spc (e := .ret) (s1:=qeg t7 t8 t9 l3 (l3.length:Int) x2.Op x2.Name x2.Args x2.Names x2.Pred.Op x2.Pred.Name x2.Pred.N x2.Pred.Kids x2.Preds (.inl o8)) (qkK R116 hR116 t7 t8 t9 l3 (l3.length:Int) 0 x2.Op x2.Name x2.Args x2.Names x2.Pred.Op x2.Pred.Name x2.Pred.N x2.Pred.Kids x2.Preds bo8) <| eFx 0 (qfm (.inl ())) (qek t7 t8 (.inl ())) rfl (qb1 (aI trivial trivial)) trivial
      exact qi1 (A:=A22) mixed (by intro hx; cases hx) z (by kernel_rfl)
    · obtain ⟨r9,br9,h⟩:=bnd h
      rcases ifs h with ⟨c10,h⟩ | ⟨c10,h⟩
      · obtain rfl:=lf h
        have z:=sg 0 c1 <| sv (sT27.ia (k := .i64) bx2) <| sv (qaZ x2) <| sx pz33 <| sx (qbr x2) <| sv (qah x2.Pred [sl qaa x2.Preds]) <| sv (sT29.mk' (v:=qaP) qaq ([x2.Pred]:List tPred) 1 (by kernel_rfl)) <| ss <| sv (sT29.ap bl3) <| svn (sT29.ln l3) <| spc (e := .exit 2) (s1:=qeg t7 t8 t9 l3 (l3.length:Int) x2.Op x2.Name x2.Args x2.Names x2.Pred.Op x2.Pred.Name x2.Pred.N x2.Pred.Kids x2.Preds (.inr o8)) (qkK R116 hR116 t7 t8 t9 l3 (l3.length:Int) 0 x2.Op x2.Name x2.Args x2.Names x2.Pred.Op x2.Pred.Name x2.Pred.N x2.Pred.Kids x2.Preds bo8) <| ss <| sca (hR116 _ _ br9) <| sg 0 c10 <| eFx 0 (qfm (.inl ())) (qek t7 t8 (.inl ())) rfl (qb1 (aI trivial trivial)) trivial
        exact qi1 (A:=A22) mixed (by intro hx; cases hx) z (by kernel_rfl)
      · obtain rfl:=lf h
        have z:=sg 0 c1 <| sv (sT27.ia (k := .i64) bx2) <| sv (qaZ x2) <| sx pz33 <| sx (qbr x2) <| sv (qah x2.Pred [sl qaa x2.Preds]) <| sv (sT29.mk' (v:=qaP) qaq ([x2.Pred]:List tPred) 1 (by kernel_rfl)) <| ss <| sv (sT29.ap bl3) <| svn (sT29.ln l3) <| spc (e := .exit 2) (s1:=qeg t7 t8 t9 l3 (l3.length:Int) x2.Op x2.Name x2.Args x2.Names x2.Pred.Op x2.Pred.Name x2.Pred.N x2.Pred.Kids x2.Preds (.inr o8)) (qkK R116 hR116 t7 t8 t9 l3 (l3.length:Int) 0 x2.Op x2.Name x2.Args x2.Names x2.Pred.Op x2.Pred.Name x2.Pred.N x2.Pred.Kids x2.Preds bo8) <| ss <| sca (hR116 _ _ br9) <| sg 0 c10 <| eFx 0 .normal (qgX t7 t8 (w64 (t9 + 1))) rfl (qb1 (aI (up (qad qag t7)) (aI trivial (aI trivial trivial)))) trivial
        exact qbK (A:=A22) mixed z (by kernel_rfl)
  · obtain rfl:=lf h
    have z:=sg 0 c1 <| eF (qfm (.inr ())) (qek t7 t8 (.inr ()))
    exact qbE (A:=A22) mixed (by intro hx; cases hx) z (by kernel_rfl)
theorem qoO (R116:qdW) (hR116:qlk R116) (t7:(List tType)) (t8:Int) (t9:Int) {x:(Unit)⊕(Unit)} (h:qpy R116 t7 t8 t9 = some x) :
    Sat Pg GE 0 (.loop (cA b22 55)) (EX (qfm x) (qek t7 t8 x)) (qgX t7 t8 t9) :=
  Sat.loop (S:=fun (zz:Int) => qgX t7 t8 zz) (ex:=qfm) (s:=t9) h fun zz y hy => qsY R116 hR116 t7 t8 zz hy
noncomputable def qon (R116:qdW) (a:(List tType)):Option (Bool) :=
  (qpy R116 a (a.length:Int) 0).bind fun o11 => match o11 with
  | (.inl o11) =>
    some false
  | (.inr o11) =>
    some true
theorem qwf (R116:qdW) (hR116:qlk R116) {a:(List tType)} {r:Bool} (h:qon R116 a = some r):CC Pg GE 22 [sl qac a] (.bool r) []:=by
  obtain ⟨o11,bo11,h⟩:=bnd h
  rcases o11 with o11 | o11
  · obtain rfl:=lf h
    have z:=svn (sT27.ln a) <| spc (e := .ret) (s1:=qek a (a.length:Int) (.inl o11)) (qoO R116 hR116 a (a.length:Int) 0 bo11) <| en (aI (rP (.bool false)) <| trivial)
    exact C.evp (A:=A22) mixed Tryz.call22 Tryz.func22 (c:=b22) rfl (aI (qad qag a) trivial) z (by kernel_rfl)
  · obtain rfl:=lf h
    have z:=svn (sT27.ln a) <| spc (e := .exit 0) (s1:=qek a (a.length:Int) (.inr o11)) (qoO R116 hR116 a (a.length:Int) 0 bo11) <| en (aI (rP (.bool true)) <| trivial)
    exact C.evp (A:=A22) mixed Tryz.call22 Tryz.func22 (c:=b22) rfl (aI (qad qag a) trivial) z (by kernel_rfl)
noncomputable def qrc:(((List tType))→Option (Bool))→((List tType))→Option (Bool):=fun (rec:(List tType)→Option (Bool)) (x:(List tType)) => qon (fun a => rec a) x
noncomputable def qu8 (a:(List tType)):Option (Bool):=fixE (qrc) a
theorem qwS {a:(List tType)} {r:Bool} (h:qu8 a = some r):CC Pg GE 22 [sl qac a] (.bool r) [] :=
  qcs (F:=qrc) (M:=fun (x:(List tType)) (r:Bool) => CC Pg GE 22 [sl qac x] (.bool r) []) (fun rec hrec x r h => qwf _ (fun a r h => hrec a r h) h) h
noncomputable def b66:Code:=Tryz.f66.body.getD .skip
def A66:List Nat:=[44]
noncomputable def qiz (name:Str) (m:tModule) (i:Int) (m2:Str) (m3:(List Str)) (m4:(List tVar)) (m5:(List tCon)):PSt:=stt 46 [(1,.str name),(2,.eptr (qaL m)),(4,.bptr 1 0),(7,.int .i64 i)] [.dead,.cells [.str m2,sl cS m3,sl qay m4,sl qbf m5] [(1,9),(2,88),(3,63)]] []
noncomputable def qin (o:(Int×Str×(List Str)×(List tVar)×(List tCon))⊕(Str×(List Str)×(List tVar)×(List tCon))):Exit:=match o with
  | (.inl _) => .ret
  | (.inr _) => .exit 0
noncomputable def qgF (name:Str) (m:tModule) (o:(Int×Str×(List Str)×(List tVar)×(List tCon))⊕(Str×(List Str)×(List tVar)×(List tCon))):PSt:=match o with
  | (.inl o) => stt 46 [(4,.bptr 1 0),(5,.int .i64 o.1),(6,.bool true)] [.dead,.cells [.str o.2.1,sl cS o.2.2.1,sl qay o.2.2.2.1,sl qbf o.2.2.2.2] []] []
  | (.inr o) => stt 46 [(4,.bptr 1 0)] [.dead,.cells [.str o.1,sl cS o.2.1,sl qay o.2.2.1,sl qbf o.2.2.2] [(1,9),(2,88),(3,63)]] []
noncomputable def qiF (name:Str) (m:tModule) (i:Int) (k:Int) (m2:Str) (m3:(List Str)) (m4:(List tVar)) (m5:(List tCon)):PSt:=stt 46 [(1,.str name),(2,.eptr (qaL m)),(4,.bptr 1 0),(7,.int .i64 i),(8,.int .i64 k)] [.dead,.cells [.str m2,sl cS m3,sl qay m4,sl qbf m5] [(1,9),(2,88),(3,63)]] []
noncomputable def qiB (o:(Int×Str×(List Str)×(List tVar)×(List tCon))⊕(Str×(List Str)×(List tVar)×(List tCon))):Exit:=match o with
  | (.inl _) => .ret
  | (.inr _) => .exit 2
noncomputable def qgC (name:Str) (m:tModule) (i:Int) (o:(Int×Str×(List Str)×(List tVar)×(List tCon))⊕(Str×(List Str)×(List tVar)×(List tCon))):PSt:=match o with
  | (.inl o) => stt 46 [(4,.bptr 1 0),(5,.int .i64 o.1),(6,.bool true)] [.dead,.cells [.str o.2.1,sl cS o.2.2.1,sl qay o.2.2.2.1,sl qbf o.2.2.2.2] []] []
  | (.inr o) => stt 46 [(1,.str name),(2,.eptr (qaL m)),(4,.bptr 1 0),(7,.int .i64 i)] [.dead,.cells [.str o.1,sl cS o.2.1,sl qay o.2.2.1,sl qbf o.2.2.2] [(1,9),(2,88),(3,63)]] []
noncomputable def qeX (name:Str) (m:tModule) (i:Int) (k:Int) (m2:Str) (m3:(List Str)) (m4:(List tVar)) (m5:(List tCon)):Option ((Int×Str×(List Str)×(List tVar)×(List tCon))⊕((Int×Str×(List Str)×(List tVar)×(List tCon))⊕(Str×(List Str)×(List tVar)×(List tCon)))) :=
  (idx m.Datas i).bind fun x2 =>
  if (decide (k < (x2.Cons.length:Int))) = true then
    (idx m.Datas i).bind fun x4 =>
    (idx x4.Cons k).bind fun x5 =>
    if (x5.Name == name) = true then
      (idx m.Datas i).bind fun x7 =>
      some (.inr (.inl (k,x7.Name,x7.Vars,x7.Preds,x7.Cons)))
    else
      some (.inl (w64 (k + 1),m2,m3,m4,m5))
  else
    some (.inr (.inr (m2,m3,m4,m5)))
noncomputable def qro (name:Str) (m:tModule) (i:Int) (k:Int) (m2:Str) (m3:(List Str)) (m4:(List tVar)) (m5:(List tCon)):Option ((Int×Str×(List Str)×(List tVar)×(List tCon))⊕(Str×(List Str)×(List tVar)×(List tCon))):=loop (fun (zz:Int×Str×(List Str)×(List tVar)×(List tCon)) => qeX name m i zz.1 zz.2.1 zz.2.2.1 zz.2.2.2.1 zz.2.2.2.2) (k,m2,m3,m4,m5)
theorem qtQ (name:Str) (m:tModule) (i:Int) (k:Int) (m2:Str) (m3:(List Str)) (m4:(List tVar)) (m5:(List tCon)) {y:(Int×Str×(List Str)×(List tVar)×(List tCon))⊕((Int×Str×(List Str)×(List tVar)×(List tCon))⊕(Str×(List Str)×(List tVar)×(List tCon)))} (h:qeX name m i k m2 m3 m4 m5 = some y) :
    Sat Pg GE 0 (cA b66 3567) (LQ (fun (zz:Int×Str×(List Str)×(List tVar)×(List tCon)) => qiF name m i zz.1 zz.2.1 zz.2.2.1 zz.2.2.2.1 zz.2.2.2.2) qiB (qgC name m i) y) (qiF name m i k m2 m3 m4 m5):=by
  obtain ⟨x2,bx2,h⟩:=bnd h
  rcases ifs h with ⟨c3,h⟩ | ⟨c3,h⟩
  · obtain ⟨x4,bx4,h⟩:=bnd h
    obtain ⟨x5,bx5,h⟩:=bnd h
    rcases ifs h with ⟨c6,h⟩ | ⟨c6,h⟩
    · obtain ⟨x7,bx7,h⟩:=bnd h
      obtain rfl:=lf h
      have z:=sv (qaY m) <| sv (qaX m) <| sv (sT50.ia (k := .i64) bx2) <| sv (qfj x2) <| sv (qfA x2) <| svn (sT59.ln x2.Cons) <| sg 0 c3 <| sv (qaY m) <| sv (qaX m) <| sv (sT50.ia (k := .i64) bx4) <| sv (qfj x4) <| sv (qfA x4) <| sv (sT59.ia (k := .i64) bx5) <| sv (qr8 x5) <| sv (qs0 x5) <| sg 0 c6 <| sv (qaY m) <| sv (qaX m) <| sv (sT50.ia (k := .i64) bx7) <| sv (qig x7) <| sx (qfg x7) <| eF (qiB (.inl (k,x7.Name,x7.Vars,x7.Preds,x7.Cons))) (qgC name m i (.inl (k,x7.Name,x7.Vars,x7.Preds,x7.Cons)))
      exact qbE (A:=A66) mixed (by intro hx; cases hx) z (by kernel_rfl)
    · obtain rfl:=lf h
      have z:=sv (qaY m) <| sv (qaX m) <| sv (sT50.ia (k := .i64) bx2) <| sv (qfj x2) <| sv (qfA x2) <| svn (sT59.ln x2.Cons) <| sg 0 c3 <| sv (qaY m) <| sv (qaX m) <| sv (sT50.ia (k := .i64) bx4) <| sv (qfj x4) <| sv (qfA x4) <| sv (sT59.ia (k := .i64) bx5) <| sv (qr8 x5) <| sv (qs0 x5) <| sg 0 c6 <| eF .normal (qiF name m i (w64 (k + 1)) m2 m3 m4 m5)
      exact qjk (A:=A66) mixed z (by kernel_rfl)
  · obtain rfl:=lf h
    have z:=sv (qaY m) <| sv (qaX m) <| sv (sT50.ia (k := .i64) bx2) <| sv (qfj x2) <| sv (qfA x2) <| svn (sT59.ln x2.Cons) <| sg 0 c3 <| eF (qiB (.inr (m2,m3,m4,m5))) (qgC name m i (.inr (m2,m3,m4,m5)))
    exact qbE (A:=A66) mixed (by intro hx; cases hx) z (by kernel_rfl)
theorem qqe (name:Str) (m:tModule) (i:Int) (k:Int) (m2:Str) (m3:(List Str)) (m4:(List tVar)) (m5:(List tCon)) {x:(Int×Str×(List Str)×(List tVar)×(List tCon))⊕(Str×(List Str)×(List tVar)×(List tCon))} (h:qro name m i k m2 m3 m4 m5 = some x) :
    Sat Pg GE 0 (.loop (cA b66 3567)) (EX (qiB x) (qgC name m i x)) (qiF name m i k m2 m3 m4 m5) :=
  Sat.loop (S:=fun (zz:Int×Str×(List Str)×(List tVar)×(List tCon)) => qiF name m i zz.1 zz.2.1 zz.2.2.1 zz.2.2.2.1 zz.2.2.2.2) (ex:=qiB) (s:=(k,m2,m3,m4,m5)) h fun zz y hy => qtQ name m i zz.1 zz.2.1 zz.2.2.1 zz.2.2.2.1 zz.2.2.2.2 hy
noncomputable def qfb (name:Str) (m:tModule) (i:Int) (m2:Str) (m3:(List Str)) (m4:(List tVar)) (m5:(List tCon)):Option ((Int×Str×(List Str)×(List tVar)×(List tCon))⊕((Int×Str×(List Str)×(List tVar)×(List tCon))⊕(Str×(List Str)×(List tVar)×(List tCon)))) :=
  if (decide (i < (m.Datas.length:Int))) = true then
    (qro name m i 0 m2 m3 m4 m5).bind fun o8 => match o8 with
    | (.inl o8) =>
      some (.inr (.inl (o8.1,o8.2.1,o8.2.2.1,o8.2.2.2.1,o8.2.2.2.2)))
    | (.inr o8) =>
      some (.inl (w64 (i + 1),o8.1,o8.2.1,o8.2.2.1,o8.2.2.2))
  else
    some (.inr (.inr (m2,m3,m4,m5)))
noncomputable def qrH (name:Str) (m:tModule) (i:Int) (m2:Str) (m3:(List Str)) (m4:(List tVar)) (m5:(List tCon)):Option ((Int×Str×(List Str)×(List tVar)×(List tCon))⊕(Str×(List Str)×(List tVar)×(List tCon))):=loop (fun (zz:Int×Str×(List Str)×(List tVar)×(List tCon)) => qfb name m zz.1 zz.2.1 zz.2.2.1 zz.2.2.2.1 zz.2.2.2.2) (i,m2,m3,m4,m5)
theorem qt0 (name:Str) (m:tModule) (i:Int) (m2:Str) (m3:(List Str)) (m4:(List tVar)) (m5:(List tCon)) {y:(Int×Str×(List Str)×(List tVar)×(List tCon))⊕((Int×Str×(List Str)×(List tVar)×(List tCon))⊕(Str×(List Str)×(List tVar)×(List tCon)))} (h:qfb name m i m2 m3 m4 m5 = some y) :
    Sat Pg GE 0 (cA b66 55) (LQ (fun (zz:Int×Str×(List Str)×(List tVar)×(List tCon)) => qiz name m zz.1 zz.2.1 zz.2.2.1 zz.2.2.2.1 zz.2.2.2.2) qin (qgF name m) y) (qiz name m i m2 m3 m4 m5):=by
  rcases ifs h with ⟨c1,h⟩ | ⟨c1,h⟩
  · obtain ⟨o8,bo8,h⟩:=bnd h
    rcases o8 with o8 | o8
    · obtain rfl:=lf h
      have z:=sv (qaY m) <| sv (qaX m) <| svn (sT50.ln m.Datas) <| sg 0 c1 <| spc (e := .ret) (s1:=qgC name m i (.inl o8)) (qqe name m i 0 m2 m3 m4 m5 bo8) <| eF (qin (.inl (o8.1,o8.2.1,o8.2.2.1,o8.2.2.2.1,o8.2.2.2.2))) (qgF name m (.inl (o8.1,o8.2.1,o8.2.2.1,o8.2.2.2.1,o8.2.2.2.2)))
      exact qbE (A:=A66) mixed (by intro hx; cases hx) z (by kernel_rfl)
    · obtain rfl:=lf h
      have z:=sv (qaY m) <| sv (qaX m) <| svn (sT50.ln m.Datas) <| sg 0 c1 <| spc (e := .exit 2) (s1:=qgC name m i (.inr o8)) (qqe name m i 0 m2 m3 m4 m5 bo8) <| eF .normal (qiz name m (w64 (i + 1)) o8.1 o8.2.1 o8.2.2.1 o8.2.2.2)
      exact qjk (A:=A66) mixed z (by kernel_rfl)
  · obtain rfl:=lf h
    have z:=sv (qaY m) <| sv (qaX m) <| svn (sT50.ln m.Datas) <| sg 0 c1 <| eF (qin (.inr (m2,m3,m4,m5))) (qgF name m (.inr (m2,m3,m4,m5)))
    exact qbE (A:=A66) mixed (by intro hx; cases hx) z (by kernel_rfl)
theorem qqz (name:Str) (m:tModule) (i:Int) (m2:Str) (m3:(List Str)) (m4:(List tVar)) (m5:(List tCon)) {x:(Int×Str×(List Str)×(List tVar)×(List tCon))⊕(Str×(List Str)×(List tVar)×(List tCon))} (h:qrH name m i m2 m3 m4 m5 = some x) :
    Sat Pg GE 0 (.loop (cA b66 55)) (EX (qin x) (qgF name m x)) (qiz name m i m2 m3 m4 m5) :=
  Sat.loop (S:=fun (zz:Int×Str×(List Str)×(List tVar)×(List tCon)) => qiz name m zz.1 zz.2.1 zz.2.2.1 zz.2.2.2.1 zz.2.2.2.2) (ex:=qin) (s:=(i,m2,m3,m4,m5)) h fun zz y hy => qt0 name m zz.1 zz.2.1 zz.2.2.1 zz.2.2.2.1 zz.2.2.2.2 hy
noncomputable def quG (m:tModule) (name:Str):Option (tData×Int×Bool) :=
  (qrH name m 0 ([]:Str) ([]:List Str) ([]:List tVar) ([]:List tCon)).bind fun o9 => match o9 with
  | (.inl o9) =>
    some ((⟨o9.2.1,o9.2.2.1,o9.2.2.2.1,o9.2.2.2.2⟩:tData),o9.1,true)
  | (.inr o9) =>
    some ((⟨([]:Str),([]:List Str),([]:List tVar),([]:List tCon)⟩:tData),0,false)
theorem quq {m:tModule} {name:Str} {r:tData×Int×Bool} (h:quG m name = some r):CC Pg GE 66 [.agg (qaL m),.str name] (.tuple [.agg (qau r.1),.int .i64 r.2.1,.bool r.2.2]) []:=by
  obtain ⟨o9,bo9,h⟩:=bnd h
  rcases o9 with o9 | o9
  · obtain rfl:=lf h
    have z:=se (qc0 m) <| sx pz61 <| spc (e := .ret) (s1:=qgF name m (.inl o9)) (qqz name m 0 ([]:Str) ([]:List Str) ([]:List tVar) ([]:List tCon) bo9) <| en (aI (congrArg PVal.tuple (qoK (qqX (⟨o9.2.1,o9.2.2.1,o9.2.2.2.1,o9.2.2.2.2⟩:tData)) (qoK (rP (.int .i64 o9.1)) (qoK (rP (.bool true)) (rfl:([]:List PVal) = []))))) <| (aI (qbJ (⟨o9.2.1,o9.2.2.1,o9.2.2.2.1,o9.2.2.2.2⟩:tData)) (aI trivial (aI trivial trivial))))
    exact C.evp (A:=A66) mixed Tryz.call66 Tryz.func66 (c:=b66) rfl (aI (qb2 m) (aI trivial trivial)) z (by kernel_rfl)
  · obtain rfl:=lf h
    have z:=se (qc0 m) <| sx pz61 <| spc (e := .exit 0) (s1:=qgF name m (.inr o9)) (qqz name m 0 ([]:Str) ([]:List Str) ([]:List tVar) ([]:List tCon) bo9) <| sb (qul ) (qum ) <| sy (qhw (⟨([]:Str),([]:List Str),([]:List tVar),([]:List tCon)⟩:tData)) <| en (aI (congrArg PVal.tuple (qoK (qqX (⟨([]:Str),([]:List Str),([]:List tVar),([]:List tCon)⟩:tData)) (qoK (rP (.int .i64 0)) (qoK (rP (.bool false)) (rfl:([]:List PVal) = []))))) <| (aI (qbJ (⟨([]:Str),([]:List Str),([]:List tVar),([]:List tCon)⟩:tData)) (aI trivial (aI trivial trivial))))
    exact C.evp (A:=A66) mixed Tryz.call66 Tryz.func66 (c:=b66) rfl (aI (qb2 m) (aI trivial trivial)) z (by kernel_rfl)
abbrev qdp:=(tType→tData→(List tPred)→Option (tType))
abbrev qjS (R:qdp):Prop := ∀ (t:tType) (d:tData) (a:(List tPred)) (r:tType),R t d a = some r→CC Pg GE 67 [.agg (qac t),.agg (qau d),sl qaa a] (.agg (qac r)) [(2,33),(8,31)]
abbrev qbg:=(tPred→tData→(List tPred)→Option (tPred))
abbrev qdo (R:qbg):Prop := ∀ (p:tPred) (d:tData) (a:(List tPred)) (r:tPred),R p d a = some r→CC Pg GE 103 [.agg (qaa p),.agg (qau d),sl qaa a] (.agg (qaa r)) []
noncomputable def b118:Code:=Tryz.f118.body.getD .skip
def A118:List Nat:=[]
noncomputable def qqQ (p:tPred) (name:Str) (a:tPred):Option (tPred) :=
  (qnF p ([name]:List Str) ([a]:List tPred)).bind fun r1 =>
  some r1
theorem qvB {p:tPred} {name:Str} {a:tPred} {r:tPred} (h:qqQ p name a = some r):CC Pg GE 118 [.agg (qaa p),.str name,.agg (qaa a)] (.agg (qaa r)) []:=by
  obtain ⟨r1,br1,h⟩:=bnd h
  obtain rfl:=lf h
  have z:=se (qat p) <| se (qat a) <| sx pz31 <| sv (qaj p) <| sv (sT22.mk' (v:=PVal.str) pcS ([name]:List Str) 1 (by kernel_rfl)) <| sv (qaj a) <| sv (sT29.mk' (v:=qaP) qaq ([a]:List tPred) 1 (by kernel_rfl)) <| sca (qtz br1) <| sx (qan r1) <| en (aI (qa4 r1) <| (qab r1))
  exact C.evp (A:=A118) mixed Tryz.call118 Tryz.func118 (c:=b118) rfl (aI (qab p) (aI trivial (aI (qab a) trivial))) z (by kernel_rfl)
noncomputable def b103:Code:=Tryz.f103.body.getD .skip
def A103:List Nat:=[27,51]
noncomputable def qdC (v:(List tPred)) (p:tPred) (d:tData) (t20:(List tPred)) (t21:Int) (t22:Int) (m:(List tPred)) (m2:Int) (m3:Str) (m4:Int) (m5:(List tPred)):PSt:=stt 82 [(2,sl qaa v),(3,.eptr (qaa p)),(4,.eptr (qau d)),(6,.bptr 2 0),(7,.bptr 3 0),(20,sl qaa t20),(21,.int .i64 t21),(22,.int .i64 t22)] [.dead,.dead,.cells [.int .i64 0,.str ([]:Str),.int .i64 0,sl qaa m] [(3,31)],.cells [.int .i64 m2,.str m3,.int .i64 m4,sl qaa m5] [(3,31)]] []
noncomputable def qgU (v:(List tPred)) (p:tPred) (d:tData) (t20:(List tPred)) (t21:Int) (m:(List tPred)) (m2:Int) (m3:Str) (m4:Int) (o:(List tPred)):PSt:=stt 82 [(2,sl qaa v),(3,.eptr (qaa p)),(4,.eptr (qau d)),(6,.bptr 2 0),(7,.bptr 3 0)] [.dead,.dead,.cells [.int .i64 0,.str ([]:Str),.int .i64 0,sl qaa m] [(3,31)],.cells [.int .i64 m2,.str m3,.int .i64 m4,sl qaa o] [(3,31)]] []
noncomputable def qkh (R120:qbg) (v:(List tPred)) (d:tData) (t20:(List tPred)) (t21:Int) (t22:Int) (m5:(List tPred)):Option ((Int×(List tPred))⊕(((List tPred)))) :=
  if (decide (t22 < t21)) = true then
    (idx t20 t22).bind fun x2 =>
    (R120 x2 d v).bind fun r3 =>
    (app m5 ([r3]:List tPred)).bind fun l4 =>
    some (.inl (w64 (t22 + 1),l4))
  else
    some (.inr m5)
noncomputable def qiL (R120:qbg) (v:(List tPred)) (d:tData) (t20:(List tPred)) (t21:Int) (t22:Int) (m5:(List tPred)):Option (((List tPred))):=loop (fun (zz:Int×(List tPred)) => qkh R120 v d t20 t21 zz.1 zz.2) (t22,m5)
theorem qoy (R120:qbg) (hR120:qdo R120) (v:(List tPred)) (p:tPred) (d:tData) (t20:(List tPred)) (t21:Int) (t22:Int) (m:(List tPred)) (m2:Int) (m3:Str) (m4:Int) (m5:(List tPred)) {y:(Int×(List tPred))⊕(((List tPred)))} (h:qkh R120 v d t20 t21 t22 m5 = some y) :
    Sat Pg GE 0 (cA b103 119) (LQ (fun (zz:Int×(List tPred)) => qdC v p d t20 t21 zz.1 m m2 m3 m4 zz.2) (fun _ => .exit 0) (qgU v p d t20 t21 m m2 m3 m4) y) (qdC v p d t20 t21 t22 m m2 m3 m4 m5):=by
  rcases ifs h with ⟨c1,h⟩ | ⟨c1,h⟩
  · obtain ⟨x2,bx2,h⟩:=bnd h
    obtain ⟨r3,br3,h⟩:=bnd h
    obtain ⟨l4,bl4,h⟩:=bnd h
    obtain rfl:=lf h
    have z:=sg 0 c1 <| sv (sT29.ia (k := .i64) bx2) <| sv (qaj x2) <| sx pz31 <| sx (qan x2) <| sdr [0,1,0,0,0,28,60,127,255,511] <| sv (qah x2 []) <| sv (qig d) <| sca (hR120 _ _ _ _ br3) <| sv (sT29.mk' (v:=qaP) qaq ([r3]:List tPred) 1 (by kernel_rfl)) <| sv (sT29.ap bl4) <| ssf (rfl:qbc (sl qaa l4) = some [sl qaa l4]) <| eFx 0 .normal (qdC v p d t20 t21 (w64 (t22 + 1)) m m2 m3 m4 l4) rfl (qb1 (aI (up (qad qab v)) (aI (qbQ (qab p)) (aI (qbQ (qbJ d)) (aI (qdu rfl) (aI (qdu rfl) (aI (up (qad qab t20)) (aI trivial (aI trivial trivial))))))))) (aI trivial (aI trivial (aI (aI trivial (aI trivial (aI trivial (aI (up (qad qab m)) trivial)))) (aI (aI trivial (aI trivial (aI trivial (aI (up (qad qab l4)) trivial)))) trivial))))
    exact qbK (A:=A103) mixed z (by kernel_rfl)
  · obtain rfl:=lf h
    have z:=sg 0 c1 <| eF (.exit 0) (qgU v p d t20 t21 m m2 m3 m4 m5)
    exact qbE (A:=A103) mixed (by intro hx; cases hx) z (by kernel_rfl)
theorem qgo (R120:qbg) (hR120:qdo R120) (v:(List tPred)) (p:tPred) (d:tData) (t20:(List tPred)) (t21:Int) (t22:Int) (m:(List tPred)) (m2:Int) (m3:Str) (m4:Int) (m5:(List tPred)) {x:((List tPred))} (h:qiL R120 v d t20 t21 t22 m5 = some x) :
    Sat Pg GE 0 (.loop (cA b103 119)) (EX (.exit 0) (qgU v p d t20 t21 m m2 m3 m4 x)) (qdC v p d t20 t21 t22 m m2 m3 m4 m5) :=
  Sat.loop (S:=fun (zz:Int×(List tPred)) => qdC v p d t20 t21 zz.1 m m2 m3 m4 zz.2) (ex:=(fun _ => .exit 0)) (s:=(t22,m5)) h fun zz y hy => qoy R120 hR120 v p d t20 t21 zz.1 m m2 m3 m4 zz.2 hy
noncomputable def qp7 (v:(List tPred)) (p:tPred) (d:tData) (m:(List tPred)) (m2:Int) (m3:Str) (m4:Int) (m5:(List tPred)):PSt:=stt 82 [(2,sl qaa v),(3,.eptr (qaa p)),(4,.eptr (qau d)),(6,.bptr 2 0),(7,.bptr 3 0)] [.dead,.dead,.cells [.int .i64 0,.str ([]:Str),.int .i64 0,sl qaa m] [(3,31)],.cells [.int .i64 m2,.str m3,.int .i64 m4,sl qaa m5] [(3,31)]] []
noncomputable def qha (v:(List tPred)) (p:tPred) (d:tData) (m:(List tPred)) (m2:Int) (m3:Str) (m4:Int) (m5:(List tPred)) (o:Bool):PSt:=stt 82 [(2,sl qaa v),(3,.eptr (qaa p)),(4,.eptr (qau d)),(6,.bptr 2 0),(7,.bptr 3 0),(44,.bool o)] [.dead,.dead,.cells [.int .i64 0,.str ([]:Str),.int .i64 0,sl qaa m] [(3,31)],.cells [.int .i64 m2,.str m3,.int .i64 m4,sl qaa m5] [(3,31)]] []
noncomputable def qiU (R120:qbg) (p:tPred):Option ((Bool)) :=
  if (p.Op != 4) = true then
    some true
  else
    some ((p.Kids.length:Int) != 1)
theorem qgd (R120:qbg) (hR120:qdo R120) (v:(List tPred)) (p:tPred) (d:tData) (m:(List tPred)) (m2:Int) (m3:Str) (m4:Int) (m5:(List tPred)) {x:(Bool)} (h:qiU R120 p = some x) :
    Sat Pg GE 0 (cA b103 60) (EX .normal (qha v p d m m2 m3 m4 m5 x)) (qp7 v p d m m2 m3 m4 m5):=by
  rcases ifs h with ⟨c6,h⟩ | ⟨c6,h⟩
  · obtain rfl:=lf h
    have z:=sv (qal p) <| sv (qak p) <| sg 4 c6 <| eF .normal (qha v p d m m2 m3 m4 m5 true)
    exact qaR (A:=A103) mixed z (by kernel_rfl)
  · obtain rfl:=lf h
    have z:=sv (qal p) <| sv (qak p) <| sg 4 c6 <| sv (qas p) <| sv (qar p) <| svn (sT29.ln p.Kids) <| eF .normal (qha v p d m m2 m3 m4 m5 ((p.Kids.length:Int) != 1))
    exact qaR (A:=A103) mixed z (by kernel_rfl)
noncomputable def qdB (v:(List tPred)) (p:tPred) (t47:(List tVar)) (t48:Int) (t49:Int) (m:Int) (m2:Str) (m3:Int) (m4:(List tPred)) (m5:Int) (m6:Str) (m7:Int) (m8:(List tPred)):PSt:=stt 82 [(2,sl qaa v),(3,.eptr (qaa p)),(6,.bptr 2 0),(7,.bptr 3 0),(47,sl qay t47),(48,.int .i64 t48),(49,.int .i64 t49)] [.dead,.dead,.cells [.int .i64 m,.str m2,.int .i64 m3,sl qaa m4] [(3,31)],.cells [.int .i64 m5,.str m6,.int .i64 m7,sl qaa m8] [(3,31)]] []
noncomputable def qcW (o:(Int×Str×Int×(List tPred))⊕(Int×Str×Int×(List tPred))):Exit:=match o with
  | (.inl _) => .ret
  | (.inr _) => .exit 2
noncomputable def qcf (v:(List tPred)) (p:tPred) (t47:(List tVar)) (t48:Int) (m5:Int) (m6:Str) (m7:Int) (m8:(List tPred)) (o:(Int×Str×Int×(List tPred))⊕(Int×Str×Int×(List tPred))):PSt:=match o with
  | (.inl o) => stt 82 [(6,.bptr 2 0)] [.dead,.dead,.cells [.int .i64 o.1,.str o.2.1,.int .i64 o.2.2.1,sl qaa o.2.2.2] [],.cells [.int .i64 m5,.str m6,.int .i64 m7,sl qaa m8] [(3,31)]] []
  | (.inr o) => stt 82 [(6,.bptr 2 0),(7,.bptr 3 0)] [.dead,.dead,.cells [.int .i64 o.1,.str o.2.1,.int .i64 o.2.2.1,sl qaa o.2.2.2] [(3,31)],.cells [.int .i64 m5,.str m6,.int .i64 m7,sl qaa m8] [(3,31)]] []
noncomputable def qqk (v:(List tPred)) (i:Int) (m:Int) (m2:Str) (m3:Int) (m4:(List tPred)) (m5:Int) (m6:Str) (m7:Int) (m8:(List tPred)) (m9:Str) (m10:Str):PSt:=stt 82 [(2,sl qaa v),(6,.bptr 2 0),(7,.bptr 3 0),(10,.int .i64 i)] [.dead,.dead,.cells [.int .i64 m,.str m2,.int .i64 m3,sl qaa m4] [(3,31)],.cells [.int .i64 m5,.str m6,.int .i64 m7,sl qaa m8] [(3,31)],.cells [.str m9,.str m10] []] []
noncomputable def qgO (v:(List tPred)) (i:Int) (m:Int) (m2:Str) (m3:Int) (m4:(List tPred)) (m5:Int) (m6:Str) (m7:Int) (m8:(List tPred)) (m9:Str) (m10:Str) (o:Bool):PSt:=stt 82 [(2,sl qaa v),(6,.bptr 2 0),(7,.bptr 3 0),(10,.int .i64 i),(69,.bool o)] [.dead,.dead,.cells [.int .i64 m,.str m2,.int .i64 m3,sl qaa m4] [(3,31)],.cells [.int .i64 m5,.str m6,.int .i64 m7,sl qaa m8] [(3,31)],.cells [.str m9,.str m10] []] []
noncomputable def qiN (R120:qbg) (v:(List tPred)) (i:Int):Option ((Bool)) :=
  if (decide (i ≥ (v.length:Int))) = true then
    some true
  else
    (idx v i).bind fun x13 =>
    (ql0 x13).bind fun r14 =>
    some r14
theorem qjG (R120:qbg) (hR120:qdo R120) (v:(List tPred)) (i:Int) (m:Int) (m2:Str) (m3:Int) (m4:(List tPred)) (m5:Int) (m6:Str) (m7:Int) (m8:(List tPred)) (m9:Str) (m10:Str) {x:(Bool)} (h:qiN R120 v i = some x) :
    Sat Pg GE 0 (cA b103 128988) (EX .normal (qgO v i m m2 m3 m4 m5 m6 m7 m8 m9 m10 x)) (qqk v i m m2 m3 m4 m5 m6 m7 m8 m9 m10):=by
  rcases ifs h with ⟨c12,h⟩ | ⟨c12,h⟩
  · obtain rfl:=lf h
    have z:=svn (sT29.ln v) <| sg 5 c12 <| eF .normal (qgO v i m m2 m3 m4 m5 m6 m7 m8 m9 m10 true)
    exact qaR (A:=A103) mixed z (by kernel_rfl)
  · obtain ⟨x13,bx13,h⟩:=bnd h
    obtain ⟨r14,br14,h⟩:=bnd h
    obtain rfl:=lf h
    have z:=svn (sT29.ln v) <| sg 5 c12 <| sv (sT29.ia (k := .i64) bx13) <| sv (qaj x13) <| sca (qgn br14) <| eF .normal (qgO v i m m2 m3 m4 m5 m6 m7 m8 m9 m10 r14)
    exact qaR (A:=A103) mixed z (by kernel_rfl)
noncomputable def qdI (R120:qbg) (v:(List tPred)) (p:tPred) (t47:(List tVar)) (t48:Int) (m8:(List tPred)) (t49:Int) (m:Int) (m2:Str) (m3:Int) (m4:(List tPred)):Option ((Int×Int×Str×Int×(List tPred))⊕((Int×Str×Int×(List tPred))⊕(Int×Str×Int×(List tPred)))) :=
  if (decide (t49 < t48)) = true then
    (idx t47 t49).bind fun x10 =>
    if (!(x10.Name == p.Name)) = true then
      some (.inl (w64 (t49 + 1),m,m2,m3,m4))
    else
      (qiN R120 v t49).bind fun o15 =>
      if o15 = true then
        (qn8).bind fun r17 =>
        some (.inr (.inl (r17.Op,r17.Name,r17.N,r17.Kids)))
      else
        (idx v t49).bind fun x18 =>
        (idx m8 0).bind fun x19 =>
        (qqQ x18 ([118]:Str) x19).bind fun r20 =>
        some (.inr (.inl (r20.Op,r20.Name,r20.N,r20.Kids)))
  else
    some (.inr (.inr (m,m2,m3,m4)))
noncomputable def qiT (R120:qbg) (v:(List tPred)) (p:tPred) (t47:(List tVar)) (t48:Int) (m8:(List tPred)) (t49:Int) (m:Int) (m2:Str) (m3:Int) (m4:(List tPred)):Option ((Int×Str×Int×(List tPred))⊕(Int×Str×Int×(List tPred))):=loop (fun (zz:Int×Int×Str×Int×(List tPred)) => qdI R120 v p t47 t48 m8 zz.1 zz.2.1 zz.2.2.1 zz.2.2.2.1 zz.2.2.2.2) (t49,m,m2,m3,m4)
theorem qoF (R120:qbg) (hR120:qdo R120) (v:(List tPred)) (p:tPred) (t47:(List tVar)) (t48:Int) (t49:Int) (m:Int) (m2:Str) (m3:Int) (m4:(List tPred)) (m5:Int) (m6:Str) (m7:Int) (m8:(List tPred)) {y:(Int×Int×Str×Int×(List tPred))⊕((Int×Str×Int×(List tPred))⊕(Int×Str×Int×(List tPred)))} (h:qdI R120 v p t47 t48 m8 t49 m m2 m3 m4 = some y) :
    Sat Pg GE 0 (cA b103 503) (LQ (fun (zz:Int×Int×Str×Int×(List tPred)) => qdB v p t47 t48 zz.1 zz.2.1 zz.2.2.1 zz.2.2.2.1 zz.2.2.2.2 m5 m6 m7 m8) qcW (qcf v p t47 t48 m5 m6 m7 m8) y) (qdB v p t47 t48 t49 m m2 m3 m4 m5 m6 m7 m8):=by
  rcases ifs h with ⟨c9,h⟩ | ⟨c9,h⟩
  · obtain ⟨x10,bx10,h⟩:=bnd h
    rcases ifs h with ⟨c11,h⟩ | ⟨c11,h⟩
    · obtain rfl:=lf h
      have z:=sg 0 c9 <| sv (sT36.ia (k := .i64) bx10) <| sv (qpn x10) <| sx pz88 <| sx (qqx x10) <| ss <| sv (qao p) <| sv (qax p) <| sg 0 c11 <| eFx 0 .normal (qdB v p t47 t48 (w64 (t49 + 1)) m m2 m3 m4 m5 m6 m7 m8) rfl (qb1 (aI (up (qad qab v)) (aI (qbQ (qab p)) (aI (qdu rfl) (aI (qdu rfl) (aI (up (qad qbG t47)) (aI trivial (aI trivial trivial)))))))) (aI trivial (aI trivial (aI (aI trivial (aI trivial (aI trivial (aI (up (qad qab m4)) trivial)))) (aI (aI trivial (aI trivial (aI trivial (aI (up (qad qab m8)) trivial)))) trivial))))
      exact qbK (A:=A103) mixed z (by kernel_rfl)
    · obtain ⟨o15,bo15,h⟩:=bnd h
      rcases ifs h with ⟨c16,h⟩ | ⟨c16,h⟩
      · obtain ⟨r17,br17,h⟩:=bnd h
        obtain rfl:=lf h
        have z:=sg 0 c9 <| sv (sT36.ia (k := .i64) bx10) <| sv (qpn x10) <| sx pz88 <| sx (qqx x10) <| ss <| sv (qao p) <| sv (qax p) <| sg 0 c11 <| spa 1 <| spc (qjG R120 hR120 v t49 m m2 m3 m4 m5 m6 m7 m8 x10.Name x10.Sort_ bo15) <| sg 0 c16 <| sca (qpd br17) <| sy (qam r17) <| eFx 0 (qcW (.inl (r17.Op,r17.Name,r17.N,r17.Kids))) (qcf v p t47 t48 m5 m6 m7 m8 (.inl (r17.Op,r17.Name,r17.N,r17.Kids))) rfl (qb1 (aI (qdu rfl) trivial)) (aI trivial (aI trivial (aI (aI trivial (aI trivial (aI trivial (aI (up (qad qab r17.Kids)) trivial)))) (aI (aI trivial (aI trivial (aI trivial (aI (up (qad qab m8)) trivial)))) trivial))))
        exact qi1 (A:=A103) mixed (by intro hx; cases hx) z (by kernel_rfl)
      · obtain ⟨x18,bx18,h⟩:=bnd h
        obtain ⟨x19,bx19,h⟩:=bnd h
        obtain ⟨r20,br20,h⟩:=bnd h
        obtain rfl:=lf h
        have z:=sg 0 c9 <| sv (sT36.ia (k := .i64) bx10) <| sv (qpn x10) <| sx pz88 <| sx (qqx x10) <| ss <| sv (qao p) <| sv (qax p) <| sg 0 c11 <| spa 1 <| spc (qjG R120 hR120 v t49 m m2 m3 m4 m5 m6 m7 m8 x10.Name x10.Sort_ bo15) <| sg 0 c16 <| sdr [0,0,3,7,0,16,48,112,255,511] <| sv (sT29.ia (k := .i64) bx18) <| sv (qaj x18) <| ss <| sv (sT29.ia (k := .i64) bx19) <| sv (qaj x19) <| sca (qvB br20) <| sx (qan r20) <| eFx 0 (qcW (.inl (r20.Op,r20.Name,r20.N,r20.Kids))) (qcf v p t47 t48 m5 m6 m7 m8 (.inl (r20.Op,r20.Name,r20.N,r20.Kids))) rfl (qb1 (aI (qdu rfl) trivial)) (aI trivial (aI trivial (aI (aI trivial (aI trivial (aI trivial (aI (up (qad qab r20.Kids)) trivial)))) (aI (aI trivial (aI trivial (aI trivial (aI (up (qad qab m8)) trivial)))) trivial))))
        exact qi1 (A:=A103) mixed (by intro hx; cases hx) z (by kernel_rfl)
  · obtain rfl:=lf h
    have z:=sg 0 c9 <| eF (qcW (.inr (m,m2,m3,m4))) (qcf v p t47 t48 m5 m6 m7 m8 (.inr (m,m2,m3,m4)))
    exact qbE (A:=A103) mixed (by intro hx; cases hx) z (by kernel_rfl)
theorem qjL (R120:qbg) (hR120:qdo R120) (v:(List tPred)) (p:tPred) (t47:(List tVar)) (t48:Int) (t49:Int) (m:Int) (m2:Str) (m3:Int) (m4:(List tPred)) (m5:Int) (m6:Str) (m7:Int) (m8:(List tPred)) {x:(Int×Str×Int×(List tPred))⊕(Int×Str×Int×(List tPred))} (h:qiT R120 v p t47 t48 m8 t49 m m2 m3 m4 = some x) :
    Sat Pg GE 0 (.loop (cA b103 503)) (EX (qcW x) (qcf v p t47 t48 m5 m6 m7 m8 x)) (qdB v p t47 t48 t49 m m2 m3 m4 m5 m6 m7 m8) :=
  Sat.loop (S:=fun (zz:Int×Int×Str×Int×(List tPred)) => qdB v p t47 t48 zz.1 zz.2.1 zz.2.2.1 zz.2.2.2.1 zz.2.2.2.2 m5 m6 m7 m8) (ex:=qcW) (s:=(t49,m,m2,m3,m4)) h fun zz y hy => qoF R120 hR120 v p t47 t48 zz.1 zz.2.1 zz.2.2.1 zz.2.2.2.1 zz.2.2.2.2 m5 m6 m7 m8 hy
noncomputable def qg4 (R120:qbg) (p:tPred) (d:tData) (a:(List tPred)):Option (tPred) :=
  (qiL R120 a d p.Kids (p.Kids.length:Int) 0 ([]:List tPred)).bind fun o5 =>
  (qiU R120 p).bind fun o7 =>
  if o7 = true then
    some (⟨p.Op,p.Name,p.N,o5⟩:tPred)
  else
    (qiT R120 a p d.Preds (d.Preds.length:Int) o5 0 0 ([]:Str) 0 ([]:List tPred)).bind fun o21 => match o21 with
    | (.inl o21) =>
      some (⟨o21.1,o21.2.1,o21.2.2.1,o21.2.2.2⟩:tPred)
    | (.inr o21) =>
      some (⟨p.Op,p.Name,p.N,o5⟩:tPred)
theorem qrj (R120:qbg) (hR120:qdo R120) {p:tPred} {d:tData} {a:(List tPred)} {r:tPred} (h:qg4 R120 p d a = some r):CC Pg GE 103 [.agg (qaa p),.agg (qau d),sl qaa a] (.agg (qaa r)) []:=by
  obtain ⟨o5,bo5,h⟩:=bnd h
  obtain ⟨o7,bo7,h⟩:=bnd h
  rcases ifs h with ⟨c8,h⟩ | ⟨c8,h⟩
  · obtain rfl:=lf h
    have z:=se (qat p) <| se (qsx d) <| sx pz31 <| sv (qal p) <| sv (qak p) <| sv (qao p) <| sv (qax p) <| sv (qaW p) <| sv (qbd p) <| sb (qbN p.Op p.Name p.N) (qbP p.Op p.Name p.N) <| sx pz31 <| sy (qam (⟨p.Op,p.Name,p.N,([]:List tPred)⟩:tPred)) <| sv (qas p) <| sv (qar p) <| svn (sT29.ln p.Kids) <| spc (qgo R120 hR120 a p d p.Kids (p.Kids.length:Int) 0 ([]:List tPred) p.Op p.Name p.N ([]:List tPred) bo5) <| spa 1 <| spc (qgd R120 hR120 a p d ([]:List tPred) p.Op p.Name p.N o5 bo7) <| sg 0 c8 <| sz (qah (⟨p.Op,p.Name,p.N,o5⟩:tPred) []) <| sy (qam (⟨p.Op,p.Name,p.N,o5⟩:tPred)) <| en (aI (qa4 (⟨p.Op,p.Name,p.N,o5⟩:tPred)) <| (qab (⟨p.Op,p.Name,p.N,o5⟩:tPred)))
    exact C.evp (A:=A103) mixed Tryz.call103 Tryz.func103 (c:=b103) rfl (aI (qab p) (aI (qbJ d) (aI (qad qab a) trivial))) z (by kernel_rfl)
  · obtain ⟨o21,bo21,h⟩:=bnd h
    rcases o21 with o21 | o21
    · obtain rfl:=lf h
      have z:=se (qat p) <| se (qsx d) <| sx pz31 <| sv (qal p) <| sv (qak p) <| sv (qao p) <| sv (qax p) <| sv (qaW p) <| sv (qbd p) <| sb (qbN p.Op p.Name p.N) (qbP p.Op p.Name p.N) <| sx pz31 <| sy (qam (⟨p.Op,p.Name,p.N,([]:List tPred)⟩:tPred)) <| sv (qas p) <| sv (qar p) <| svn (sT29.ln p.Kids) <| spc (qgo R120 hR120 a p d p.Kids (p.Kids.length:Int) 0 ([]:List tPred) p.Op p.Name p.N ([]:List tPred) bo5) <| spa 1 <| spc (qgd R120 hR120 a p d ([]:List tPred) p.Op p.Name p.N o5 bo7) <| sg 0 c8 <| sv (qlA d) <| sv (qlL d) <| svn (sT36.ln d.Preds) <| spc (e := .ret) (s1:=qcf a p d.Preds (d.Preds.length:Int) p.Op p.Name p.N o5 (.inl o21)) (qjL R120 hR120 a p d.Preds (d.Preds.length:Int) 0 0 ([]:Str) 0 ([]:List tPred) p.Op p.Name p.N o5 bo21) <| en (aI (qa4 (⟨o21.1,o21.2.1,o21.2.2.1,o21.2.2.2⟩:tPred)) <| (qab (⟨o21.1,o21.2.1,o21.2.2.1,o21.2.2.2⟩:tPred)))
      exact C.evp (A:=A103) mixed Tryz.call103 Tryz.func103 (c:=b103) rfl (aI (qab p) (aI (qbJ d) (aI (qad qab a) trivial))) z (by kernel_rfl)
    · obtain rfl:=lf h
      have z:=se (qat p) <| se (qsx d) <| sx pz31 <| sv (qal p) <| sv (qak p) <| sv (qao p) <| sv (qax p) <| sv (qaW p) <| sv (qbd p) <| sb (qbN p.Op p.Name p.N) (qbP p.Op p.Name p.N) <| sx pz31 <| sy (qam (⟨p.Op,p.Name,p.N,([]:List tPred)⟩:tPred)) <| sv (qas p) <| sv (qar p) <| svn (sT29.ln p.Kids) <| spc (qgo R120 hR120 a p d p.Kids (p.Kids.length:Int) 0 ([]:List tPred) p.Op p.Name p.N ([]:List tPred) bo5) <| spa 1 <| spc (qgd R120 hR120 a p d ([]:List tPred) p.Op p.Name p.N o5 bo7) <| sg 0 c8 <| sv (qlA d) <| sv (qlL d) <| svn (sT36.ln d.Preds) <| spc (e := .exit 2) (s1:=qcf a p d.Preds (d.Preds.length:Int) p.Op p.Name p.N o5 (.inr o21)) (qjL R120 hR120 a p d.Preds (d.Preds.length:Int) 0 0 ([]:Str) 0 ([]:List tPred) p.Op p.Name p.N o5 bo21) <| sz (qah (⟨p.Op,p.Name,p.N,o5⟩:tPred) []) <| sy (qam (⟨p.Op,p.Name,p.N,o5⟩:tPred)) <| en (aI (qa4 (⟨p.Op,p.Name,p.N,o5⟩:tPred)) <| (qab (⟨p.Op,p.Name,p.N,o5⟩:tPred)))
      exact C.evp (A:=A103) mixed Tryz.call103 Tryz.func103 (c:=b103) rfl (aI (qab p) (aI (qbJ d) (aI (qad qab a) trivial))) z (by kernel_rfl)
noncomputable def qjF:((tPred×tData×(List tPred))→Option (tPred))→(tPred×tData×(List tPred))→Option (tPred):=fun (rec:(tPred×tData×(List tPred))→Option (tPred)) (x:tPred×tData×(List tPred)) => qg4 (fun p d a => rec (p,d,a)) x.1 x.2.1 x.2.2
noncomputable def qhz (p:tPred) (d:tData) (a:(List tPred)):Option (tPred):=fixE (qjF) (p,d,a)
theorem qmD {p:tPred} {d:tData} {a:(List tPred)} {r:tPred} (h:qhz p d a = some r):CC Pg GE 103 [.agg (qaa p),.agg (qau d),sl qaa a] (.agg (qaa r)) [] :=
  qcs (F:=qjF) (M:=fun (x:tPred×tData×(List tPred)) (r:tPred) => CC Pg GE 103 [.agg (qaa x.1),.agg (qau x.2.1),sl qaa x.2.2] (.agg (qaa r)) []) (fun rec hrec x r h => qrj _ (fun p d a r h => hrec (p,d,a) r h) h) h
end Go.Proofs.YtgldgpdhblndkaaGreatDoor
