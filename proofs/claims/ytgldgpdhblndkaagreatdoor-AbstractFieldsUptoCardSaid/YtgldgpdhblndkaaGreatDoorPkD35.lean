/-
  WHAT IS PROVED: parts of the proof, put together by a program out of smaller texts, their own names made short (G3). Conditions: none.
-/
import Derived.Test.YtgldgpdhblndkaaGreatDoorPkD34
namespace Go.Proofs.YtgldgpdhblndkaaGreatDoor
open Go
set_option linter.unusedVariables false
set_option maxRecDepth 100000
noncomputable def b49:Code:=Tryz.f49.body.getD .skip
def A49:List Nat:=[]
noncomputable def qlJ (holes:(List tHole)) (i:Int) (m:(List tVar)):PSt:=stt 25 [(1,sl qaz holes),(6,.bptr 1 0),(8,.int .i64 i)] [.dead,.cells [.str ([]:Str),sl qay m] [(1,88)]] []
noncomputable def qei (holes:(List tHole)) (i:Int) (m:(List tVar)) (o:Bool):PSt:=stt 25 [(1,sl qaz holes),(6,.bptr 1 0),(8,.int .i64 i),(19,.bool o)] [.dead,.cells [.str ([]:Str),sl qay m] [(1,88)]] []
noncomputable def qiG (holes:(List tHole)) (i:Int):Option ((Bool)) :=
  if (decide (i < 0)) = true then
    some true
  else
    some (decide (i ≥ (holes.length:Int)))
theorem qgB (holes:(List tHole)) (i:Int) (m:(List tVar)) {x:(Bool)} (h:qiG holes i = some x) :
    Sat Pg GE 0 (cA b49 28) (EX .normal (qei holes i m x)) (qlJ holes i m):=by
  rcases ifs h with ⟨c2,h⟩ | ⟨c2,h⟩
  · obtain rfl:=lf h
    have z:=sg 3 c2 <| eF .normal (qei holes i m true)
    exact qaR (A:=A49) mixed z (by kernel_rfl)
  · obtain rfl:=lf h
    have z:=sg 3 c2 <| svn (sT38.ln holes) <| eF .normal (qei holes i m (decide (i ≥ (holes.length:Int))))
    exact qaR (A:=A49) mixed z (by kernel_rfl)
noncomputable def qgV (abs:(List tAbs)) (holes:(List tHole)) (name:Str):Option (tHole×Bool) :=
  (qks abs name).bind fun r1 =>
  (qiG holes r1).bind fun o3 =>
  if o3 = true then
    some ((⟨([]:Str),([]:List tVar)⟩:tHole),false)
  else
    (idx holes r1).bind fun x5 =>
    some (x5,true)
theorem qdD {abs:(List tAbs)} {holes:(List tHole)} {name:Str} {r:tHole×Bool} (h:qgV abs holes name = some r):CC Pg GE 49 [sl qaK abs,sl qaz holes,.str name] (.tuple [.agg (qaz r.1),.bool r.2]) []:=by
  obtain ⟨r1,br1,h⟩:=bnd h
  obtain ⟨o3,bo3,h⟩:=bnd h
  rcases ifs h with ⟨c4,h⟩ | ⟨c4,h⟩
  · obtain rfl:=lf h
    have z:=se (pcS name) <| sx pz82 <| sca (qiq br1) <| spa 1 <| spc (qgB holes r1 ([]:List tVar) bo3) <| sg 0 c4 <| sb (qyw ) (qyy ) <| sy (qos (⟨([]:Str),([]:List tVar)⟩:tHole)) <| en (aI (congrArg PVal.tuple (qoK (qsG (⟨([]:Str),([]:List tVar)⟩:tHole)) (qoK (rP (.bool false)) (rfl:([]:List PVal) = [])))) <| (aI (qbM (⟨([]:Str),([]:List tVar)⟩:tHole)) (aI trivial trivial)))
    exact C.evp (A:=A49) mixed Tryz.call49 Tryz.func49 (c:=b49) rfl (aI (qad qcr abs) (aI (qad qbM holes) (aI trivial trivial))) z (by kernel_rfl)
  · obtain ⟨x5,bx5,h⟩:=bnd h
    obtain rfl:=lf h
    have z:=se (pcS name) <| sx pz82 <| sca (qiq br1) <| spa 1 <| spc (qgB holes r1 ([]:List tVar) bo3) <| sg 0 c4 <| sv (sT38.ia (k := .i64) bx5) <| sv (qAR x5) <| sx (qly x5) <| en (aI (congrArg PVal.tuple (qoK (qsG x5) (qoK (rP (.bool true)) (rfl:([]:List PVal) = [])))) <| (aI (qbM x5) (aI trivial trivial)))
    exact C.evp (A:=A49) mixed Tryz.call49 Tryz.func49 (c:=b49) rfl (aI (qad qcr abs) (aI (qad qbM holes) (aI trivial trivial))) z (by kernel_rfl)
noncomputable def b50:Code:=Tryz.f50.body.getD .skip
def A50:List Nat:=[]
noncomputable def qkE (a:tHole):Option ((List tVar)) :=
  if ((a.Params.length:Int) == 0) = true then
    some ([]:List tVar)
  else
    (slc a.Params (some 1) none).bind fun l2 =>
    some l2
theorem qle {a:tHole} {r:(List tVar)} (h:qkE a = some r):CC Pg GE 50 [.agg (qaz a)] (sl qay r) []:=by
  rcases ifs h with ⟨c1,h⟩ | ⟨c1,h⟩
  · obtain rfl:=lf h
    have z:=se (qxz a) <| sv (qfs a) <| sv (qfD a) <| svn (sT36.ln a.Params) <| sg 0 c1 <| en (aI (rP (sl qay ([]:List tVar))) <| (qad qbG ([]:List tVar)))
    exact C.evp (A:=A50) mixed Tryz.call50 Tryz.func50 (c:=b50) rfl (aI (qbM a) trivial) z (by kernel_rfl)
  · obtain ⟨l2,bl2,h⟩:=bnd h
    obtain rfl:=lf h
    have z:=se (qxz a) <| sv (qfs a) <| sv (qfD a) <| svn (sT36.ln a.Params) <| sg 0 c1 <| sv (qfs a) <| sv (qfD a) <| sv (sT36.sc bl2) <| en (aI (rP (sl qay l2)) <| (qad qbG l2))
    exact C.evp (A:=A50) mixed Tryz.call50 Tryz.func50 (c:=b50) rfl (aI (qbM a) trivial) z (by kernel_rfl)
abbrev qaQ:=(tType→(List Str)→Option (tType))
abbrev qcq (R:qaQ):Prop := ∀ (t:tType) (vars:(List Str)) (r:tType),R t vars = some r→CC Pg GE 52 [.agg (qac t),sl cS vars] (.agg (qac r)) [(2,33)]
abbrev qaU:=(tType→Option ((List Str)))
abbrev qcI (R:qaU):Prop := ∀ (t:tType) (r:(List Str)),R t = some r→CC Pg GE 91 [.agg (qac t)] (sl cS r) [(0,9)]
noncomputable def b120:Code:=Tryz.f120.body.getD .skip
def A120:List Nat:=[]
noncomputable def qoX (t:tType) (i:Int):Option ((List Str)) :=
  if (t.Op != 6) = true then
    some ([]:List Str)
  else
    (slc t.Names none (some (if (t.Names.length:Int) < i then (t.Names.length:Int) else i))).bind fun l2 =>
    some l2
theorem qrB {t:tType} {i:Int} {r:(List Str)} (h:qoX t i = some r):CC Pg GE 120 [.agg (qac t),.int .i64 i] (sl cS r) []:=by
  rcases ifs h with ⟨c1,h⟩ | ⟨c1,h⟩
  · obtain rfl:=lf h
    have z:=se (qbX t) <| sv (qaJ t) <| sv (qaH t) <| sg 0 c1 <| en (aI (rP (sl cS ([]:List Str))) <| (qad clS ([]:List Str)))
    exact C.evp (A:=A120) mixed Tryz.call120 Tryz.func120 (c:=b120) rfl (aI (qag t) (aI trivial trivial)) z (by kernel_rfl)
  · obtain ⟨l2,bl2,h⟩:=bnd h
    obtain rfl:=lf h
    have z:=se (qbX t) <| sv (qaJ t) <| sv (qaH t) <| sg 0 c1 <| sv (qaM t) <| sv (qaN t) <| sv (qaM t) <| sv (qaN t) <| svn (sT22.ln t.Names) <| sv (sT22.sc bl2) <| en (aI (rP (sl cS l2)) <| (qad clS l2))
    exact C.evp (A:=A120) mixed Tryz.call120 Tryz.func120 (c:=b120) rfl (aI (qag t) (aI trivial trivial)) z (by kernel_rfl)
noncomputable def b72:Code:=Tryz.f72.body.getD .skip
def A72:List Nat:=[]
noncomputable def qdr (s:(List Str)) (v:Str):Option (Bool) :=
  (qit s v).bind fun r1 =>
  some (decide (r1 ≥ 0))
theorem qbH {s:(List Str)} {v:Str} {r:Bool} (h:qdr s v = some r):CC Pg GE 72 [sl cS s,.str v] (.bool r) []:=by
  obtain ⟨r1,br1,h⟩:=bnd h
  obtain rfl:=lf h
  have z:=sca (qnK br1) <| en (aI (rP (.bool (decide (r1 ≥ 0)))) <| trivial)
  exact C.evp (A:=A72) mixed Tryz.call72 Tryz.func72 (c:=b72) rfl (aI (qad clS s) (aI trivial trivial)) z (by kernel_rfl)
noncomputable def b91:Code:=Tryz.f91.body.getD .skip
def A91:List Nat:=[33,44,61]
noncomputable def qd5 (t:tType) (out:(List Str)) (t18:(List tPred)) (t19:Int) (t20:Int):PSt:=stt 69 [(1,.eptr (qac t)),(3,sl cS out),(18,sl qaa t18),(19,.int .i64 t19),(20,.int .i64 t20)] [.dead] [((18,0),31),((3,0),9)]
noncomputable def qhZ (t:tType) (t18:(List tPred)) (t19:Int) (o:(List Str)):PSt:=stt 69 [(1,.eptr (qac t)),(3,sl cS o)] [.dead] [((3,0),9)]
noncomputable def qdk (t:tType) (out:(List Str)) (t18:(List tPred)) (t19:Int) (t20:Int) (t25:(List Str)) (t26:Int) (t27:Int) (m:Int) (m2:Str) (m3:Int) (m4:(List tPred)):PSt:=stt 69 [(1,.eptr (qac t)),(3,sl cS out),(18,sl qaa t18),(19,.int .i64 t19),(20,.int .i64 t20),(25,sl cS t25),(26,.int .i64 t26),(27,.int .i64 t27)] [.dead,.cells [.int .i64 m,.str m2,.int .i64 m3,sl qaa m4] []] [((25,0),9),((18,0),31),((3,0),9)]
noncomputable def qh0 (t:tType) (t18:(List tPred)) (t19:Int) (t20:Int) (t25:(List Str)) (t26:Int) (m:Int) (m2:Str) (m3:Int) (m4:(List tPred)) (o:(List Str)):PSt:=stt 69 [(1,.eptr (qac t)),(3,sl cS o),(18,sl qaa t18),(19,.int .i64 t19),(20,.int .i64 t20)] [.dead,.cells [.int .i64 m,.str m2,.int .i64 m3,sl qaa m4] []] [((18,0),31),((3,0),9)]
noncomputable def qlr (R37:qaU) (t25:(List Str)) (t26:Int) (out:(List Str)) (t27:Int):Option (((List Str)×Int)⊕(((List Str)))) :=
  if (decide (t27 < t26)) = true then
    (idx t25 t27).bind fun x6 =>
    if (!(x6 == ([118]:Str))) = true then
      (app out ([x6]:List Str)).bind fun l8 =>
      some (.inl (l8,w64 (t27 + 1)))
    else
      some (.inl (out,w64 (t27 + 1)))
  else
    some (.inr out)
noncomputable def qm7 (R37:qaU) (t25:(List Str)) (t26:Int) (out:(List Str)) (t27:Int):Option (((List Str))):=loop (fun (zz:(List Str)×Int) => qlr R37 t25 t26 zz.1 zz.2) (out,t27)
theorem qpB (R37:qaU) (hR37:qcI R37) (t:tType) (out:(List Str)) (t18:(List tPred)) (t19:Int) (t20:Int) (t25:(List Str)) (t26:Int) (t27:Int) (m:Int) (m2:Str) (m3:Int) (m4:(List tPred)) {y:((List Str)×Int)⊕(((List Str)))} (h:qlr R37 t25 t26 out t27 = some y) :
    Sat Pg GE 0 (cA b91 30687) (LQ (fun (zz:(List Str)×Int) => qdk t zz.1 t18 t19 t20 t25 t26 zz.2 m m2 m3 m4) (fun _ => .exit 2) (qh0 t t18 t19 t20 t25 t26 m m2 m3 m4) y) (qdk t out t18 t19 t20 t25 t26 t27 m m2 m3 m4):=by
  rcases ifs h with ⟨c5,h⟩ | ⟨c5,h⟩
  · obtain ⟨x6,bx6,h⟩:=bnd h
    rcases ifs h with ⟨c7,h⟩ | ⟨c7,h⟩
    · obtain ⟨l8,bl8,h⟩:=bnd h
      obtain rfl:=lf h
      have z:=sg 0 c5 <| sv (sT22.ia (k := .i64) bx6) <| sv (qbb sc9 (.str x6) []) <| sg 0 c7 <| sv (sT22.mk' (v:=PVal.str) pcS ([x6]:List Str) 1 (by kernel_rfl)) <| sv (sT22.ap bl8) <| eF .normal (qdk t l8 t18 t19 t20 t25 t26 (w64 (t27 + 1)) m m2 m3 m4)
      exact qjk (A:=A91) mixed z (by kernel_rfl)
    · obtain rfl:=lf h
      have z:=sg 0 c5 <| sv (sT22.ia (k := .i64) bx6) <| sv (qbb sc9 (.str x6) []) <| sg 0 c7 <| eF .normal (qdk t out t18 t19 t20 t25 t26 (w64 (t27 + 1)) m m2 m3 m4)
      exact qjk (A:=A91) mixed z (by kernel_rfl)
  · obtain rfl:=lf h
    have z:=sg 0 c5 <| eF (.exit 2) (qh0 t t18 t19 t20 t25 t26 m m2 m3 m4 out)
    exact qbE (A:=A91) mixed (by intro hx; cases hx) z (by kernel_rfl)
theorem qqp (R37:qaU) (hR37:qcI R37) (t:tType) (out:(List Str)) (t18:(List tPred)) (t19:Int) (t20:Int) (t25:(List Str)) (t26:Int) (t27:Int) (m:Int) (m2:Str) (m3:Int) (m4:(List tPred)) {x:((List Str))} (h:qm7 R37 t25 t26 out t27 = some x) :
    Sat Pg GE 0 (.loop (cA b91 30687)) (EX (.exit 2) (qh0 t t18 t19 t20 t25 t26 m m2 m3 m4 x)) (qdk t out t18 t19 t20 t25 t26 t27 m m2 m3 m4) :=
  Sat.loop (S:=fun (zz:(List Str)×Int) => qdk t zz.1 t18 t19 t20 t25 t26 zz.2 m m2 m3 m4) (ex:=(fun _ => .exit 2)) (s:=(out,t27)) h fun zz y hy => qpB R37 hR37 t zz.1 t18 t19 t20 t25 t26 zz.2 m m2 m3 m4 hy
noncomputable def qk4 (R37:qaU) (t18:(List tPred)) (t19:Int) (out:(List Str)) (t20:Int):Option (((List Str)×Int)⊕(((List Str)))) :=
  if (decide (t20 < t19)) = true then
    (idx t18 t20).bind fun x3 =>
    (qsS x3).bind fun r4 =>
    (qm7 R37 r4 (r4.length:Int) out 0).bind fun o9 =>
    some (.inl (o9,w64 (t20 + 1)))
  else
    some (.inr out)
noncomputable def qnC (R37:qaU) (t18:(List tPred)) (t19:Int) (out:(List Str)) (t20:Int):Option (((List Str))):=loop (fun (zz:(List Str)×Int) => qk4 R37 t18 t19 zz.1 zz.2) (out,t20)
theorem qpz (R37:qaU) (hR37:qcI R37) (t:tType) (out:(List Str)) (t18:(List tPred)) (t19:Int) (t20:Int) {y:((List Str)×Int)⊕(((List Str)))} (h:qk4 R37 t18 t19 out t20 = some y) :
    Sat Pg GE 0 (cA b91 119) (LQ (fun (zz:(List Str)×Int) => qd5 t zz.1 t18 t19 zz.2) (fun _ => .exit 0) (qhZ t t18 t19) y) (qd5 t out t18 t19 t20):=by
  rcases ifs h with ⟨c2,h⟩ | ⟨c2,h⟩
  · obtain ⟨x3,bx3,h⟩:=bnd h
    obtain ⟨r4,br4,h⟩:=bnd h
    obtain ⟨o9,bo9,h⟩:=bnd h
    obtain rfl:=lf h
    have z:=sg 0 c2 <| sv (sT29.ia (k := .i64) bx3) <| sv (qaj x3) <| sx pz31 <| sx (qan x3) <| sv (qah x3 []) <| sca (qrW br4) <| svn (sT22.ln r4) <| spc (qqp R37 hR37 t out t18 t19 t20 r4 (r4.length:Int) 0 x3.Op x3.Name x3.N x3.Kids bo9) <| eFx 0 .normal (qd5 t o9 t18 t19 (w64 (t20 + 1))) rfl (qb1 (aI (qbQ (qag t)) (aI (up (qad clS o9)) (aI (up (qad qab t18)) (aI trivial (aI trivial trivial)))))) (aI trivial trivial)
    exact qbK (A:=A91) mixed z (by kernel_rfl)
  · obtain rfl:=lf h
    have z:=sg 0 c2 <| eF (.exit 0) (qhZ t t18 t19 out)
    exact qbE (A:=A91) mixed (by intro hx; cases hx) z (by kernel_rfl)
theorem qqu (R37:qaU) (hR37:qcI R37) (t:tType) (out:(List Str)) (t18:(List tPred)) (t19:Int) (t20:Int) {x:((List Str))} (h:qnC R37 t18 t19 out t20 = some x) :
    Sat Pg GE 0 (.loop (cA b91 119)) (EX (.exit 0) (qhZ t t18 t19 x)) (qd5 t out t18 t19 t20) :=
  Sat.loop (S:=fun (zz:(List Str)×Int) => qd5 t zz.1 t18 t19 zz.2) (ex:=(fun _ => .exit 0)) (s:=(out,t20)) h fun zz y hy => qpz R37 hR37 t zz.1 t18 t19 zz.2 hy
noncomputable def qea (t:tType) (out:(List Str)) (t40:(List tType)) (t41:Int) (t42:Int):PSt:=stt 69 [(1,.eptr (qac t)),(3,sl cS out),(40,sl qac t40),(41,.int .i64 t41),(42,.int .i64 t42)] [.dead] [((3,0),9)]
noncomputable def qhT (t:tType) (t40:(List tType)) (t41:Int) (o:(List Str)):PSt:=stt 69 [(3,sl cS o)] [.dead] [((3,0),9)]
noncomputable def qdh (t:tType) (out:(List Str)) (bound:(List Str)) (t40:(List tType)) (t41:Int) (t42:Int) (t51:(List Str)) (t52:Int) (t53:Int) (m:Int) (m2:Str) (m3:(List tType)) (m4:(List Str)) (m5:Int) (m6:Str) (m7:Int) (m8:(List tPred)) (m9:(List tPred)):PSt:=stt 69 [(1,.eptr (qac t)),(3,sl cS out),(10,sl cS bound),(40,sl qac t40),(41,.int .i64 t41),(42,.int .i64 t42),(51,sl cS t51),(52,.int .i64 t52),(53,.int .i64 t53)] [.dead,.cells [.int .i64 m,.str m2,sl qac m3,sl cS m4,.int .i64 m5,.str m6,.int .i64 m7,sl qaa m8,sl qaa m9] []] [((51,0),9),((3,0),9)]
noncomputable def qhV (t:tType) (bound:(List Str)) (t40:(List tType)) (t41:Int) (t42:Int) (t51:(List Str)) (t52:Int) (m:Int) (m2:Str) (m3:(List tType)) (m4:(List Str)) (m5:Int) (m6:Str) (m7:Int) (m8:(List tPred)) (m9:(List tPred)) (o:(List Str)):PSt:=stt 69 [(1,.eptr (qac t)),(3,sl cS o),(40,sl qac t40),(41,.int .i64 t41),(42,.int .i64 t42)] [.dead,.cells [.int .i64 m,.str m2,sl qac m3,sl cS m4,.int .i64 m5,.str m6,.int .i64 m7,sl qaa m8,sl qaa m9] []] [((3,0),9)]
noncomputable def qlh (R37:qaU) (bound:(List Str)) (t51:(List Str)) (t52:Int) (out:(List Str)) (t53:Int):Option (((List Str)×Int)⊕(((List Str)))) :=
  if (decide (t53 < t52)) = true then
    (idx t51 t53).bind fun x16 =>
    (qdr bound x16).bind fun r17 =>
    if (!r17) = true then
      (app out ([x16]:List Str)).bind fun l19 =>
      some (.inl (l19,w64 (t53 + 1)))
    else
      some (.inl (out,w64 (t53 + 1)))
  else
    some (.inr out)
noncomputable def qnm (R37:qaU) (bound:(List Str)) (t51:(List Str)) (t52:Int) (out:(List Str)) (t53:Int):Option (((List Str))):=loop (fun (zz:(List Str)×Int) => qlh R37 bound t51 t52 zz.1 zz.2) (out,t53)
theorem qpE (R37:qaU) (hR37:qcI R37) (t:tType) (out:(List Str)) (bound:(List Str)) (t40:(List tType)) (t41:Int) (t42:Int) (t51:(List Str)) (t52:Int) (t53:Int) (m:Int) (m2:Str) (m3:(List tType)) (m4:(List Str)) (m5:Int) (m6:Str) (m7:Int) (m8:(List tPred)) (m9:(List tPred)) {y:((List Str)×Int)⊕(((List Str)))} (h:qlh R37 bound t51 t52 out t53 = some y) :
    Sat Pg GE 0 (cA b91 126911) (LQ (fun (zz:(List Str)×Int) => qdh t zz.1 bound t40 t41 t42 t51 t52 zz.2 m m2 m3 m4 m5 m6 m7 m8 m9) (fun _ => .exit 6) (qhV t bound t40 t41 t42 t51 t52 m m2 m3 m4 m5 m6 m7 m8 m9) y) (qdh t out bound t40 t41 t42 t51 t52 t53 m m2 m3 m4 m5 m6 m7 m8 m9):=by
  rcases ifs h with ⟨c15,h⟩ | ⟨c15,h⟩
  · obtain ⟨x16,bx16,h⟩:=bnd h
    obtain ⟨r17,br17,h⟩:=bnd h
    rcases ifs h with ⟨c18,h⟩ | ⟨c18,h⟩
    · obtain ⟨l19,bl19,h⟩:=bnd h
      obtain rfl:=lf h
      have z:=sg 0 c15 <| sv (sT22.ia (k := .i64) bx16) <| sv (qbb sc9 (.str x16) []) <| sca (qbH br17) <| sg 0 c18 <| sv (sT22.mk' (v:=PVal.str) pcS ([x16]:List Str) 1 (by kernel_rfl)) <| sv (sT22.ap bl19) <| eF .normal (qdh t l19 bound t40 t41 t42 t51 t52 (w64 (t53 + 1)) m m2 m3 m4 m5 m6 m7 m8 m9)
      exact qjk (A:=A91) mixed z (by kernel_rfl)
    · obtain rfl:=lf h
      have z:=sg 0 c15 <| sv (sT22.ia (k := .i64) bx16) <| sv (qbb sc9 (.str x16) []) <| sca (qbH br17) <| sg 0 c18 <| eF .normal (qdh t out bound t40 t41 t42 t51 t52 (w64 (t53 + 1)) m m2 m3 m4 m5 m6 m7 m8 m9)
      exact qjk (A:=A91) mixed z (by kernel_rfl)
  · obtain rfl:=lf h
    have z:=sg 0 c15 <| eF (.exit 6) (qhV t bound t40 t41 t42 t51 t52 m m2 m3 m4 m5 m6 m7 m8 m9 out)
    exact qbE (A:=A91) mixed (by intro hx; cases hx) z (by kernel_rfl)
theorem qqO (R37:qaU) (hR37:qcI R37) (t:tType) (out:(List Str)) (bound:(List Str)) (t40:(List tType)) (t41:Int) (t42:Int) (t51:(List Str)) (t52:Int) (t53:Int) (m:Int) (m2:Str) (m3:(List tType)) (m4:(List Str)) (m5:Int) (m6:Str) (m7:Int) (m8:(List tPred)) (m9:(List tPred)) {x:((List Str))} (h:qnm R37 bound t51 t52 out t53 = some x) :
    Sat Pg GE 0 (.loop (cA b91 126911)) (EX (.exit 6) (qhV t bound t40 t41 t42 t51 t52 m m2 m3 m4 m5 m6 m7 m8 m9 x)) (qdh t out bound t40 t41 t42 t51 t52 t53 m m2 m3 m4 m5 m6 m7 m8 m9) :=
  Sat.loop (S:=fun (zz:(List Str)×Int) => qdh t zz.1 bound t40 t41 t42 t51 t52 zz.2 m m2 m3 m4 m5 m6 m7 m8 m9) (ex:=(fun _ => .exit 6)) (s:=(out,t53)) h fun zz y hy => qpE R37 hR37 t zz.1 bound t40 t41 t42 t51 t52 zz.2 m m2 m3 m4 m5 m6 m7 m8 m9 hy
noncomputable def qlc (R37:qaU) (t:tType) (t40:(List tType)) (t41:Int) (out:(List Str)) (t42:Int):Option (((List Str)×Int)⊕(((List Str)))) :=
  if (decide (t42 < t41)) = true then
    (idx t40 t42).bind fun x12 =>
    (qoX t t42).bind fun r13 =>
    (R37 x12).bind fun r14 =>
    (qnm R37 r13 r14 (r14.length:Int) out 0).bind fun o20 =>
    some (.inl (o20,w64 (t42 + 1)))
  else
    some (.inr out)
noncomputable def qnB (R37:qaU) (t:tType) (t40:(List tType)) (t41:Int) (out:(List Str)) (t42:Int):Option (((List Str))):=loop (fun (zz:(List Str)×Int) => qlc R37 t t40 t41 zz.1 zz.2) (out,t42)
theorem qpw (R37:qaU) (hR37:qcI R37) (t:tType) (out:(List Str)) (t40:(List tType)) (t41:Int) (t42:Int) {y:((List Str)×Int)⊕(((List Str)))} (h:qlc R37 t t40 t41 out t42 = some y) :
    Sat Pg GE 0 (cA b91 247) (LQ (fun (zz:(List Str)×Int) => qea t zz.1 t40 t41 zz.2) (fun _ => .exit 4) (qhT t t40 t41) y) (qea t out t40 t41 t42):=by
  rcases ifs h with ⟨c11,h⟩ | ⟨c11,h⟩
  · obtain ⟨x12,bx12,h⟩:=bnd h
    obtain ⟨r13,br13,h⟩:=bnd h
    obtain ⟨r14,br14,h⟩:=bnd h
    obtain ⟨o20,bo20,h⟩:=bnd h
    obtain rfl:=lf h
    have z:=sg 0 c11 <| sv (sT27.ia (k := .i64) bx12) <| sv (qaZ x12) <| sx pz33 <| sx (qbr x12) <| sv (qaZ t) <| sca (qrB br13) <| sv (qaS x12 []) <| sca (hR37 _ _ br14) <| svn (sT22.ln r14) <| spc (qqO R37 hR37 t out r13 t40 t41 t42 r14 (r14.length:Int) 0 x12.Op x12.Name x12.Args x12.Names x12.Pred.Op x12.Pred.Name x12.Pred.N x12.Pred.Kids x12.Preds bo20) <| eFx 0 .normal (qea t o20 t40 t41 (w64 (t42 + 1))) rfl (qb1 (aI (qbQ (qag t)) (aI (up (qad clS o20)) (aI (up (qad qag t40)) (aI trivial (aI trivial trivial)))))) (aI trivial trivial)
    exact qbK (A:=A91) mixed z (by kernel_rfl)
  · obtain rfl:=lf h
    have z:=sg 0 c11 <| eF (.exit 4) (qhT t t40 t41 out)
    exact qbE (A:=A91) mixed (by intro hx; cases hx) z (by kernel_rfl)
theorem qqo (R37:qaU) (hR37:qcI R37) (t:tType) (out:(List Str)) (t40:(List tType)) (t41:Int) (t42:Int) {x:((List Str))} (h:qnB R37 t t40 t41 out t42 = some x) :
    Sat Pg GE 0 (.loop (cA b91 247)) (EX (.exit 4) (qhT t t40 t41 x)) (qea t out t40 t41 t42) :=
  Sat.loop (S:=fun (zz:(List Str)×Int) => qea t zz.1 t40 t41 zz.2) (ex:=(fun _ => .exit 4)) (s:=(out,t42)) h fun zz y hy => qpw R37 hR37 t zz.1 t40 t41 zz.2 hy
noncomputable def qoW (R37:qaU) (t:tType):Option ((List Str)) :=
  (app ([t.Pred]:List tPred) t.Preds).bind fun l1 =>
  (qnC R37 l1 (l1.length:Int) ([]:List Str) 0).bind fun o10 =>
  (qnB R37 t t.Args (t.Args.length:Int) o10 0).bind fun o21 =>
  (qmb o21 ([]:List Str)).bind fun r22 =>
  some r22
theorem qsi (R37:qaU) (hR37:qcI R37) {t:tType} {r:(List Str)} (h:qoW R37 t = some r):CC Pg GE 91 [.agg (qac t)] (sl cS r) [(0,9)]:=by
  obtain ⟨l1,bl1,h⟩:=bnd h
  obtain ⟨o10,bo10,h⟩:=bnd h
  obtain ⟨o21,bo21,h⟩:=bnd h
  obtain ⟨r22,br22,h⟩:=bnd h
  obtain rfl:=lf h
  have z:=se (qbX t) <| sv (qcJ t) <| sv (qcK t) <| sv (sT29.mk' (v:=qaP) qaq ([t.Pred]:List tPred) 1 (by kernel_rfl)) <| sv (qaV t) <| sv (qaT t) <| sv (sT29.ap bl1) <| svn (sT29.ln l1) <| spc (qqu R37 hR37 t ([]:List Str) l1 (l1.length:Int) 0 bo10) <| sv (qaG t) <| sv (qaI t) <| svn (sT27.ln t.Args) <| spc (qqo R37 hR37 t o10 t.Args (t.Args.length:Int) 0 bo21) <| sca (qo8 br22) <| en (aI (rP (sl cS r22)) <| (qad clS r22))
  exact C.evp (A:=A91) mixed Tryz.call91 Tryz.func91 (c:=b91) rfl (aI (qag t) trivial) z (by kernel_rfl)
noncomputable def qoS:((tType)→Option ((List Str)))→(tType)→Option ((List Str)):=fun (rec:tType→Option ((List Str))) (x:tType) => qoW (fun t => rec t) x
noncomputable def qnn (t:tType):Option ((List Str)):=fixE (qoS) t
theorem qnM {t:tType} {r:(List Str)} (h:qnn t = some r):CC Pg GE 91 [.agg (qac t)] (sl cS r) [(0,9)] :=
  qcs (F:=qoS) (M:=fun (x:tType) (r:(List Str)) => CC Pg GE 91 [.agg (qac x)] (sl cS r) [(0,9)]) (fun rec hrec x r h => qsi _ (fun t r h => hrec t r h) h) h
noncomputable def b92:Code:=Tryz.f92.body.getD .skip
def A92:List Nat:=[24,35]
noncomputable def qex (base:Str) (t11:(List Str)) (t12:Int) (t13:Int) (m0:(List (Str×Bool))):PSt:=stt 36 [(1,.str base),(5,.mapr 0),(11,sl cS t11),(12,.int .i64 t12),(13,.int .i64 t13)] [.map (encM PVal.bool m0)] []
noncomputable def qiP (base:Str) (t11:(List Str)) (t12:Int) (o:(List (Str×Bool))):PSt:=stt 36 [(1,.str base),(5,.mapr 0)] [.map (encM PVal.bool o)] []
noncomputable def qmw (t11:(List Str)) (t12:Int) (t13:Int) (m0:(List (Str×Bool))):Option ((Int×(List (Str×Bool)))⊕(((List (Str×Bool))))) :=
  if (decide (t13 < t12)) = true then
    (idx t11 t13).bind fun x2 =>
    some (.inl (w64 (t13 + 1),mput m0 x2 true))
  else
    some (.inr m0)
noncomputable def qo2 (t11:(List Str)) (t12:Int) (t13:Int) (m0:(List (Str×Bool))):Option (((List (Str×Bool)))):=loop (fun (zz:Int×(List (Str×Bool))) => qmw t11 t12 zz.1 zz.2) (t13,m0)
theorem qqw (base:Str) (t11:(List Str)) (t12:Int) (t13:Int) (m0:(List (Str×Bool))) {y:(Int×(List (Str×Bool)))⊕(((List (Str×Bool))))} (h:qmw t11 t12 t13 m0 = some y) :
    Sat Pg GE 0 (cA b92 119) (LQ (fun (zz:Int×(List (Str×Bool))) => qex base t11 t12 zz.1 zz.2) (fun _ => .exit 0) (qiP base t11 t12) y) (qex base t11 t12 t13 m0):=by
  rcases ifs h with ⟨c1,h⟩ | ⟨c1,h⟩
  · obtain ⟨x2,bx2,h⟩:=bnd h
    obtain rfl:=lf h
    have z:=sg 0 c1 <| sv (sT22.ia (k := .i64) bx2) <| sv (qbb sc9 (.str x2) []) <| swm (qCz (f:=PVal.bool) Tryz.underlying143 Tryz.underlying9 m0 x2 true) <| eF .normal (qex base t11 t12 (w64 (t13 + 1)) (mput m0 x2 true))
    exact qjk (A:=A92) mixed z (by kernel_rfl)
  · obtain rfl:=lf h
    have z:=sg 0 c1 <| eF (.exit 0) (qiP base t11 t12 m0)
    exact qbE (A:=A92) mixed (by intro hx; cases hx) z (by kernel_rfl)
theorem qk8 (base:Str) (t11:(List Str)) (t12:Int) (t13:Int) (m0:(List (Str×Bool))) {x:((List (Str×Bool)))} (h:qo2 t11 t12 t13 m0 = some x) :
    Sat Pg GE 0 (.loop (cA b92 119)) (EX (.exit 0) (qiP base t11 t12 x)) (qex base t11 t12 t13 m0) :=
  Sat.loop (S:=fun (zz:Int×(List (Str×Bool))) => qex base t11 t12 zz.1 zz.2) (ex:=(fun _ => .exit 0)) (s:=(t13,m0)) h fun zz y hy => qqw base t11 t12 zz.1 zz.2 hy
noncomputable def qet (base:Str) (n:Int) (m0:(List (Str×Bool))):PSt:=stt 36 [(1,.str base),(5,.mapr 0),(8,.int .i64 n)] [.map (encM PVal.bool m0)] []
noncomputable def qiR (base:Str) (m0:(List (Str×Bool))) (o:Str):PSt:=stt 36 [(4,.str o)] [.map (encM PVal.bool m0)] []
noncomputable def qmP (base:Str) (m0:(List (Str×Bool))) (n:Int):Option ((Int)⊕((Str))) :=
  (qCQ n).bind fun r5 =>
  (cat base r5).bind fun s6 =>
  if (!((mget m0 s6).getD false)) = true then
    some (.inr s6)
  else
    some (.inl (w64 (n + 1)))
noncomputable def qoM (base:Str) (m0:(List (Str×Bool))) (n:Int):Option ((Str)):=loop (fun (zz:Int) => qmP base m0 zz) n
theorem qqs (base:Str) (n:Int) (m0:(List (Str×Bool))) {y:(Int)⊕((Str))} (h:qmP base m0 n = some y) :
    Sat Pg GE 0 (cA b92 255) (LQ (fun (zz:Int) => qet base zz m0) (fun _ => .ret) (qiR base m0) y) (qet base n m0):=by
  obtain ⟨r5,br5,h⟩:=bnd h
  obtain ⟨s6,bs6,h⟩:=bnd h
  rcases ifs h with ⟨c7,h⟩ | ⟨c7,h⟩
  · obtain rfl:=lf h
    have z:=sca (qzE br5) <| sv (qxA (P:=Pg) (t:=9) bs6) <| sv (qxD (f:=PVal.bool) Tryz.underlying143 Tryz.underlying9 zv4 m0 s6) <| sg 0 c7 <| eF .ret (qiR base m0 s6)
    exact qbE (A:=A92) mixed (by intro hx; cases hx) z (by kernel_rfl)
  · obtain rfl:=lf h
    have z:=sca (qzE br5) <| sv (qxA (P:=Pg) (t:=9) bs6) <| sv (qxD (f:=PVal.bool) Tryz.underlying143 Tryz.underlying9 zv4 m0 s6) <| sg 0 c7 <| eF .normal (qet base (w64 (n + 1)) m0)
    exact qjk (A:=A92) mixed z (by kernel_rfl)
theorem qq9 (base:Str) (n:Int) (m0:(List (Str×Bool))) {x:(Str)} (h:qoM base m0 n = some x) :
    Sat Pg GE 0 (.loop (cA b92 255)) (EX .ret (qiR base m0 x)) (qet base n m0) :=
  Sat.loop (S:=fun (zz:Int) => qet base zz m0) (ex:=(fun _ => .ret)) (s:=n) h fun zz y hy => qqs base zz m0 hy
noncomputable def qpP (used:(List Str)) (base:Str):Option (Str) :=
  (qo2 used (used.length:Int) 0 ([]:List (Str×Bool))).bind fun o3 =>
  if (!((mget o3 base).getD false)) = true then
    some base
  else
    (qoM base o3 1).bind fun o8 =>
    some o8
theorem qoR {used:(List Str)} {base:Str} {r:Str} (h:qpP used base = some r):CC Pg GE 92 [sl cS used,.str base] (.str r) []:=by
  obtain ⟨o3,bo3,h⟩:=bnd h
  rcases ifs h with ⟨c4,h⟩ | ⟨c4,h⟩
  · obtain rfl:=lf h
    have z:=svn (sT22.ln used) <| spc (qk8 base used (used.length:Int) 0 ([]:List (Str×Bool)) bo3) <| sv (qxD (f:=PVal.bool) Tryz.underlying143 Tryz.underlying9 zv4 o3 base) <| sg 0 c4 <| en (aI (rP (.str base)) <| trivial)
    exact C.evp (A:=A92) mixed Tryz.call92 Tryz.func92 (c:=b92) rfl (aI (qad clS used) (aI trivial trivial)) z (by kernel_rfl)
  · obtain ⟨o8,bo8,h⟩:=bnd h
    obtain rfl:=lf h
    have z:=svn (sT22.ln used) <| spc (qk8 base used (used.length:Int) 0 ([]:List (Str×Bool)) bo3) <| sv (qxD (f:=PVal.bool) Tryz.underlying143 Tryz.underlying9 zv4 o3 base) <| sg 0 c4 <| spc (qq9 base 1 o3 bo8) <| en (aI (rP (.str o8)) <| trivial)
    exact C.evp (A:=A92) mixed Tryz.call92 Tryz.func92 (c:=b92) rfl (aI (qad clS used) (aI trivial trivial)) z (by kernel_rfl)
noncomputable def b154:Code:=Tryz.f154.body.getD .skip
def A154:List Nat:=[13,28,34]
noncomputable def qa1 (hidden:(List Str)) (s:reftype_substitution) (t9:(List Str)) (t10:Int) (t11:Int) (m:(List tPred)) (m2:(List Str)) (m3:(List tPred)):PSt:=stt 45 [(1,sl cS hidden),(2,.eptr (qaf s)),(4,.bptr 1 0),(5,.bptr 2 0),(9,sl cS t9),(10,.int .i64 t10),(11,.int .i64 t11)] [.dead,.cells [sl cS ([]:List Str),sl qaa m] [(0,9),(1,31)],.cells [sl cS m2,sl qaa m3] [(0,9),(1,31)]] []
noncomputable def qcj (hidden:(List Str)) (s:reftype_substitution) (t9:(List Str)) (t10:Int) (m:(List tPred)) (o:(List Str)×(List tPred)):PSt:=stt 45 [(4,.bptr 1 0),(5,.bptr 2 0)] [.dead,.cells [sl cS ([]:List Str),sl qaa m] [(0,9),(1,31)],.cells [sl cS o.1,sl qaa o.2] [(0,9),(1,31)]] []
noncomputable def qhe (hidden:(List Str)) (s:reftype_substitution) (i:Int) (n:Str) (t9:(List Str)) (t10:Int) (m:(List tPred)) (m2:(List Str)) (m3:(List tPred)):PSt:=stt 45 [(1,sl cS hidden),(2,.eptr (qaf s)),(4,.bptr 1 0),(5,.bptr 2 0),(6,.int .i64 i),(7,.str n),(9,sl cS t9),(10,.int .i64 t10),(11,.int .i64 i)] [.dead,.cells [sl cS ([]:List Str),sl qaa m] [(0,9),(1,31)],.cells [sl cS m2,sl qaa m3] [(0,9),(1,31)]] []
noncomputable def qco (hidden:(List Str)) (s:reftype_substitution) (i:Int) (n:Str) (t9:(List Str)) (t10:Int) (m:(List tPred)) (m2:(List Str)) (m3:(List tPred)) (o:Bool):PSt:=stt 45 [(1,sl cS hidden),(2,.eptr (qaf s)),(4,.bptr 1 0),(5,.bptr 2 0),(6,.int .i64 i),(7,.str n),(9,sl cS t9),(10,.int .i64 t10),(11,.int .i64 i),(26,.bool o)] [.dead,.cells [sl cS ([]:List Str),sl qaa m] [(0,9),(1,31)],.cells [sl cS m2,sl qaa m3] [(0,9),(1,31)]] []
noncomputable def qd4 (hidden:(List Str)) (n:Str) (m2:(List Str)):Option ((Bool)) :=
  (qdr hidden n).bind fun r3 =>
  if (!r3) = true then
    (qdr m2 n).bind fun r5 =>
    some (!r5)
  else
    some false
theorem qdw (hidden:(List Str)) (s:reftype_substitution) (i:Int) (n:Str) (t9:(List Str)) (t10:Int) (m:(List tPred)) (m2:(List Str)) (m3:(List tPred)) {x:(Bool)} (h:qd4 hidden n m2 = some x) :
    Sat Pg GE 0 (cA b154 7670) (EX .normal (qco hidden s i n t9 t10 m m2 m3 x)) (qhe hidden s i n t9 t10 m m2 m3):=by
  obtain ⟨r3,br3,h⟩:=bnd h
  rcases ifs h with ⟨c4,h⟩ | ⟨c4,h⟩
  · obtain ⟨r5,br5,h⟩:=bnd h
    obtain rfl:=lf h
    have z:=sca (qbH br3) <| sg 5 c4 <| ss <| sca (qbH br5) <| eF .normal (qco hidden s i n t9 t10 m m2 m3 (!r5))
    exact qaR (A:=A154) mixed z (by kernel_rfl)
  · obtain rfl:=lf h
    have z:=sca (qbH br3) <| sg 5 c4 <| eF .normal (qco hidden s i n t9 t10 m m2 m3 false)
    exact qaR (A:=A154) mixed z (by kernel_rfl)
noncomputable def qdF (hidden:(List Str)) (s:reftype_substitution) (t9:(List Str)) (t10:Int) (t11:Int) (m2:(List Str)) (m3:(List tPred)):Option ((Int×(List Str)×(List tPred))⊕(((List Str)×(List tPred)))) :=
  if (decide (t11 < t10)) = true then
    (idx t9 t11).bind fun x2 =>
    (qd4 hidden x2 m2).bind fun o6 =>
    if o6 = true then
      (app m2 ([x2]:List Str)).bind fun l8 =>
      (idx s.by_ t11).bind fun x9 =>
      (app m3 ([x9]:List tPred)).bind fun l10 =>
      some (.inl (w64 (t11 + 1),l8,l10))
    else
      some (.inl (w64 (t11 + 1),m2,m3))
  else
    some (.inr (m2,m3))
noncomputable def qd1 (hidden:(List Str)) (s:reftype_substitution) (t9:(List Str)) (t10:Int) (t11:Int) (m2:(List Str)) (m3:(List tPred)):Option (((List Str)×(List tPred))):=loop (fun (zz:Int×(List Str)×(List tPred)) => qdF hidden s t9 t10 zz.1 zz.2.1 zz.2.2) (t11,m2,m3)
theorem qgb (hidden:(List Str)) (s:reftype_substitution) (t9:(List Str)) (t10:Int) (t11:Int) (m:(List tPred)) (m2:(List Str)) (m3:(List tPred)) {y:(Int×(List Str)×(List tPred))⊕(((List Str)×(List tPred)))} (h:qdF hidden s t9 t10 t11 m2 m3 = some y) :
    Sat Pg GE 0 (cA b154 119) (LQ (fun (zz:Int×(List Str)×(List tPred)) => qa1 hidden s t9 t10 zz.1 m zz.2.1 zz.2.2) (fun _ => .exit 0) (qcj hidden s t9 t10 m) y) (qa1 hidden s t9 t10 t11 m m2 m3):=by
  rcases ifs h with ⟨c1,h⟩ | ⟨c1,h⟩
  · obtain ⟨x2,bx2,h⟩:=bnd h
    obtain ⟨o6,bo6,h⟩:=bnd h
    rcases ifs h with ⟨c7,h⟩ | ⟨c7,h⟩
    · obtain ⟨l8,bl8,h⟩:=bnd h
      obtain ⟨x9,bx9,h⟩:=bnd h
      obtain ⟨l10,bl10,h⟩:=bnd h
      obtain rfl:=lf h
      have z:=sg 0 c1 <| sv (sT22.ia (k := .i64) bx2) <| sv (qbb sc9 (.str x2) []) <| spa 0 <| spc (qdw hidden s t11 x2 t9 t10 m m2 m3 bo6) <| sg 0 c7 <| sv (sT22.mk' (v:=PVal.str) pcS ([x2]:List Str) 1 (by kernel_rfl)) <| sv (sT22.ap bl8) <| sdr [0,1,0,4,0,28,60,124,255,511,1023] <| sv (qc3 s) <| sv (qdc s) <| sv (sT29.ia (k := .i64) bx9) <| sv (qaj x9) <| sv (sT29.mk' (v:=qaP) qaq ([x9]:List tPred) 1 (by kernel_rfl)) <| sv (sT29.ap bl10) <| ssf (rfl:qbc (sl qaa l10) = some [sl qaa l10]) <| eF .normal (qa1 hidden s t9 t10 (w64 (t11 + 1)) m l8 l10)
      exact qjk (A:=A154) mixed z (by kernel_rfl)
    · obtain rfl:=lf h
      have z:=sg 0 c1 <| sv (sT22.ia (k := .i64) bx2) <| sv (qbb sc9 (.str x2) []) <| spa 0 <| spc (qdw hidden s t11 x2 t9 t10 m m2 m3 bo6) <| sg 0 c7 <| eF .normal (qa1 hidden s t9 t10 (w64 (t11 + 1)) m m2 m3)
      exact qjk (A:=A154) mixed z (by kernel_rfl)
  · obtain rfl:=lf h
    have z:=sg 0 c1 <| eF (.exit 0) (qcj hidden s t9 t10 m (m2,m3))
    exact qbE (A:=A154) mixed (by intro hx; cases hx) z (by kernel_rfl)
theorem qgK (hidden:(List Str)) (s:reftype_substitution) (t9:(List Str)) (t10:Int) (t11:Int) (m:(List tPred)) (m2:(List Str)) (m3:(List tPred)) {x:((List Str)×(List tPred))} (h:qd1 hidden s t9 t10 t11 m2 m3 = some x) :
    Sat Pg GE 0 (.loop (cA b154 119)) (EX (.exit 0) (qcj hidden s t9 t10 m x)) (qa1 hidden s t9 t10 t11 m m2 m3) :=
  Sat.loop (S:=fun (zz:Int×(List Str)×(List tPred)) => qa1 hidden s t9 t10 zz.1 m zz.2.1 zz.2.2) (ex:=(fun _ => .exit 0)) (s:=(t11,m2,m3)) h fun zz y hy => qgb hidden s t9 t10 zz.1 m zz.2.1 zz.2.2 hy
noncomputable def qb9 (s:reftype_substitution) (hidden:(List Str)):Option (reftype_substitution) :=
  (qd1 hidden s s.names (s.names.length:Int) 0 ([]:List Str) ([]:List tPred)).bind fun o11 =>
  some (⟨o11.1,o11.2⟩:reftype_substitution)
theorem qbU {s:reftype_substitution} {hidden:(List Str)} {r:reftype_substitution} (h:qb9 s hidden = some r):CC Pg GE 154 [.agg (qaf s),sl cS hidden] (.agg (qaf r)) [(0,9),(1,31)]:=by
  obtain ⟨o11,bo11,h⟩:=bnd h
  obtain rfl:=lf h
  have z:=se (qbx s) <| sx qyB <| sx qyB <| sv (qeB s) <| sv (qeQ s) <| svn (sT22.ln s.names) <| spc (qgK hidden s s.names (s.names.length:Int) 0 ([]:List tPred) ([]:List Str) ([]:List tPred) bo11) <| sz (qaE (⟨o11.1,o11.2⟩:reftype_substitution) []) <| sy (qa7 (⟨o11.1,o11.2⟩:reftype_substitution)) <| en (aI (qgs (⟨o11.1,o11.2⟩:reftype_substitution)) <| aI (qaD (⟨o11.1,o11.2⟩:reftype_substitution)) <| rT)
  exact C.evp (A:=A154) mixed Tryz.call154 Tryz.func154 (c:=b154) rfl (aI (qaD s) (aI (qad clS hidden) trivial)) z (by kernel_rfl)
abbrev qap:=(reftype_substitution→tType→Option (tType))
abbrev qbl (R:qap):Prop := ∀ (s:reftype_substitution) (t:tType) (r:tType),R s t = some r→CC Pg GE 155 [.agg (qaf s),.agg (qac t)] (.agg (qac r)) [(2,33)]
noncomputable def b176:Code:=Tryz.f176.body.getD .skip
def A176:List Nat:=[]
noncomputable def qcG (s:reftype_substitution) (p:tPred):Option (tPred) :=
  (qjg p s.names s.by_).bind fun r1 =>
  some r1
theorem qde {s:reftype_substitution} {p:tPred} {r:tPred} (h:qcG s p = some r):CC Pg GE 176 [.agg (qaf s),.agg (qaa p)] (.agg (qaa r)) [(3,31)]:=by
  obtain ⟨r1,br1,h⟩:=bnd h
  obtain rfl:=lf h
  have z:=se (qbx s) <| se (qat p) <| sx pz31 <| sv (qaj p) <| sv (qeB s) <| sv (qeQ s) <| sv (qc3 s) <| sv (qdc s) <| sca (qmF br1) <| sy (qam r1) <| en (aI (qa4 r1) <| aI (qab r1) <| rT)
  exact C.evp (A:=A176) mixed Tryz.call176 Tryz.func176 (c:=b176) rfl (aI (qaD s) (aI (qab p) trivial)) z (by kernel_rfl)
noncomputable def b177:Code:=Tryz.f177.body.getD .skip
def A177:List Nat:=[14,21]
noncomputable def qdn (v:reftype_substitution) (out:(List tPred)) (t8:(List tPred)) (t9:Int) (t10:Int):PSt:=stt 22 [(1,.func (.func 176) [.agg (qaf v)] []),(5,sl qaa out),(8,sl qaa t8),(9,.int .i64 t9),(10,.int .i64 t10)] [] [((5,0),31)]
noncomputable def qge (v:reftype_substitution) (t8:(List tPred)) (t9:Int) (o:(List tPred)):PSt:=stt 22 [(5,sl qaa o)] [] [((5,0),31)]
noncomputable def qjK (v:reftype_substitution) (t8:(List tPred)) (t9:Int) (out:(List tPred)) (t10:Int):Option (((List tPred)×Int)⊕(((List tPred)))) :=
  if (decide (t10 < t9)) = true then
    (idx t8 t10).bind fun x2 =>
    (qcG v x2).bind fun r3 =>
    (app out ([r3]:List tPred)).bind fun l4 =>
    some (.inl (l4,w64 (t10 + 1)))
  else
    some (.inr out)
noncomputable def qlw (v:reftype_substitution) (t8:(List tPred)) (t9:Int) (out:(List tPred)) (t10:Int):Option (((List tPred))):=loop (fun (zz:(List tPred)×Int) => qjK v t8 t9 zz.1 zz.2) (out,t10)
theorem qm9 (v:reftype_substitution) (out:(List tPred)) (t8:(List tPred)) (t9:Int) (t10:Int) {y:((List tPred)×Int)⊕(((List tPred)))} (h:qjK v t8 t9 out t10 = some y) :
    Sat Pg GE 0 (cA b177 119) (LQ (fun (zz:(List tPred)×Int) => qdn v zz.1 t8 t9 zz.2) (fun _ => .exit 0) (qge v t8 t9) y) (qdn v out t8 t9 t10):=by
  rcases ifs h with ⟨c1,h⟩ | ⟨c1,h⟩
  · obtain ⟨x2,bx2,h⟩:=bnd h
    obtain ⟨r3,br3,h⟩:=bnd h
    obtain ⟨l4,bl4,h⟩:=bnd h
    obtain rfl:=lf h
    have z:=sg 0 c1 <| sv (sT29.ia (k := .i64) bx2) <| sv (qaj x2) <| sx pz31 <| sx (qan x2) <| sv (qah x2 []) <| sca (qde br3) <| sv (sT29.mk' (v:=qaP) qaq ([r3]:List tPred) 1 (by kernel_rfl)) <| sv (sT29.ap bl4) <| eFx 0 .normal (qdn v l4 t8 t9 (w64 (t10 + 1))) rfl (qb1 (aI (aI (aI (up (qaD v)) trivial) trivial) (aI (up (qad qab l4)) (aI (up (qad qab t8)) (aI trivial (aI trivial trivial)))))) trivial
    exact qbK (A:=A177) mixed z (by kernel_rfl)
  · obtain rfl:=lf h
    have z:=sg 0 c1 <| eF (.exit 0) (qge v t8 t9 out)
    exact qbE (A:=A177) mixed (by intro hx; cases hx) z (by kernel_rfl)
theorem qoJ (v:reftype_substitution) (out:(List tPred)) (t8:(List tPred)) (t9:Int) (t10:Int) {x:((List tPred))} (h:qlw v t8 t9 out t10 = some x) :
    Sat Pg GE 0 (.loop (cA b177 119)) (EX (.exit 0) (qge v t8 t9 x)) (qdn v out t8 t9 t10) :=
  Sat.loop (S:=fun (zz:(List tPred)×Int) => qdn v zz.1 t8 t9 zz.2) (ex:=(fun _ => .exit 0)) (s:=(out,t10)) h fun zz y hy => qm9 v zz.1 t8 t9 zz.2 hy
noncomputable def qk0 (a:(List tPred)) (c:reftype_substitution):Option ((List tPred)) :=
  (qlw c a (a.length:Int) ([]:List tPred) 0).bind fun o5 =>
  some o5
theorem qli {a:(List tPred)} {c:reftype_substitution} {r:(List tPred)} (h:qk0 a c = some r):CC Pg GE 177 [sl qaa a,.func (.func 176) [.agg (qaf c)] []] (sl qaa r) [(0,31)]:=by
  obtain ⟨o5,bo5,h⟩:=bnd h
  obtain rfl:=lf h
  have z:=svn (sT29.ln a) <| spc (qoJ c ([]:List tPred) a (a.length:Int) 0 bo5) <| en (aI (rP (sl qaa o5)) <| (qad qab o5))
  exact C.evp (A:=A177) mixed Tryz.call177 Tryz.func177 (c:=b177) rfl (aI (qad qab a) (aI (aI (aI (qaD c) trivial) trivial) trivial)) z (by kernel_rfl)
noncomputable def b199:Code:=Tryz.f199.body.getD .skip
def A199:List Nat:=[13,18]
noncomputable def qbw (out:(List Str)) (t7:(List tPred)) (t8:Int) (t9:Int):PSt:=stt 19 [(3,sl cS out),(7,sl qaa t7),(8,.int .i64 t8),(9,.int .i64 t9)] [.dead] [((3,0),9)]
noncomputable def qcL (t7:(List tPred)) (t8:Int) (o:(List Str)):PSt:=stt 19 [(3,sl cS o)] [.dead] [((3,0),9)]
noncomputable def qeb (t7:(List tPred)) (t8:Int) (out:(List Str)) (t9:Int):Option (((List Str)×Int)⊕(((List Str)))) :=
  if (decide (t9 < t8)) = true then
    (idx t7 t9).bind fun x2 =>
    (qsS x2).bind fun r3 =>
    (app out r3).bind fun l4 =>
    some (.inl (l4,w64 (t9 + 1)))
  else
    some (.inr out)
noncomputable def qeS (t7:(List tPred)) (t8:Int) (out:(List Str)) (t9:Int):Option (((List Str))):=loop (fun (zz:(List Str)×Int) => qeb t7 t8 zz.1 zz.2) (out,t9)
theorem qhD (out:(List Str)) (t7:(List tPred)) (t8:Int) (t9:Int) {y:((List Str)×Int)⊕(((List Str)))} (h:qeb t7 t8 out t9 = some y) :
    Sat Pg GE 0 (cA b199 119) (LQ (fun (zz:(List Str)×Int) => qbw zz.1 t7 t8 zz.2) (fun _ => .exit 0) (qcL t7 t8) y) (qbw out t7 t8 t9):=by
  rcases ifs h with ⟨c1,h⟩ | ⟨c1,h⟩
  · obtain ⟨x2,bx2,h⟩:=bnd h
    obtain ⟨r3,br3,h⟩:=bnd h
    obtain ⟨l4,bl4,h⟩:=bnd h
    obtain rfl:=lf h
    have z:=sg 0 c1 <| sv (sT29.ia (k := .i64) bx2) <| sv (qaj x2) <| sx pz31 <| sx (qan x2) <| sv (qah x2 []) <| sca (qrW br3) <| sv (sT22.ap bl4) <| eFx 0 .normal (qbw l4 t7 t8 (w64 (t9 + 1))) rfl (qb1 (aI (up (qad clS l4)) (aI (up (qad qab t7)) (aI trivial (aI trivial trivial))))) (aI trivial trivial)
    exact qbK (A:=A199) mixed z (by kernel_rfl)
  · obtain rfl:=lf h
    have z:=sg 0 c1 <| eF (.exit 0) (qcL t7 t8 out)
    exact qbE (A:=A199) mixed (by intro hx; cases hx) z (by kernel_rfl)
theorem qid (out:(List Str)) (t7:(List tPred)) (t8:Int) (t9:Int) {x:((List Str))} (h:qeS t7 t8 out t9 = some x) :
    Sat Pg GE 0 (.loop (cA b199 119)) (EX (.exit 0) (qcL t7 t8 x)) (qbw out t7 t8 t9) :=
  Sat.loop (S:=fun (zz:(List Str)×Int) => qbw zz.1 t7 t8 zz.2) (ex:=(fun _ => .exit 0)) (s:=(out,t9)) h fun zz y hy => qhD zz.1 t7 t8 zz.2 hy
noncomputable def qdN (s:reftype_substitution):Option ((List Str)) :=
  (qeS s.by_ (s.by_.length:Int) ([]:List Str) 0).bind fun o5 =>
  some o5
theorem qdf {s:reftype_substitution} {r:(List Str)} (h:qdN s = some r):CC Pg GE 199 [.agg (qaf s)] (sl cS r) [(0,9)]:=by
  obtain ⟨o5,bo5,h⟩:=bnd h
  obtain rfl:=lf h
  have z:=se (qbx s) <| sv (qc3 s) <| sv (qdc s) <| svn (sT29.ln s.by_) <| spc (qid ([]:List Str) s.by_ (s.by_.length:Int) 0 bo5) <| en (aI (rP (sl cS o5)) <| (qad clS o5))
  exact C.evp (A:=A199) mixed Tryz.call199 Tryz.func199 (c:=b199) rfl (aI (qaD s) trivial) z (by kernel_rfl)
noncomputable def b200:Code:=Tryz.f200.body.getD .skip
def A200:List Nat:=[13,19]
noncomputable def qfX (s:reftype_substitution) (name:Str) (a:tPred):Option (reftype_substitution) :=
  (qb9 s ([name]:List Str)).bind fun r1 =>
  (app r1.names ([name]:List Str)).bind fun l2 =>
  (app r1.by_ ([a]:List tPred)).bind fun l3 =>
  some (⟨l2,l3⟩:reftype_substitution)
theorem qjm {s:reftype_substitution} {name:Str} {a:tPred} {r:reftype_substitution} (h:qfX s name a = some r):CC Pg GE 200 [.agg (qaf s),.str name,.agg (qaa a)] (.agg (qaf r)) [(0,9),(1,31)]:=by
  obtain ⟨r1,br1,h⟩:=bnd h
  obtain ⟨l2,bl2,h⟩:=bnd h
  obtain ⟨l3,bl3,h⟩:=bnd h
  obtain rfl:=lf h
  have z:=se (qbx s) <| se (qat a) <| sx qyB <| sv (qa6 s) <| sv (sT22.mk' (v:=PVal.str) pcS ([name]:List Str) 1 (by kernel_rfl)) <| sca (qbU br1) <| sx qyB <| sy (qa7 r1) <| sv (sT22.mk' (v:=PVal.str) pcS ([name]:List Str) 1 (by kernel_rfl)) <| sv (sT22.ap bl2) <| sv (qaj a) <| sv (sT29.mk' (v:=qaP) qaq ([a]:List tPred) 1 (by kernel_rfl)) <| sv (sT29.ap bl3) <| sz (qaE (⟨l2,l3⟩:reftype_substitution) []) <| sy (qa7 (⟨l2,l3⟩:reftype_substitution)) <| en (aI (qgs (⟨l2,l3⟩:reftype_substitution)) <| aI (qaD (⟨l2,l3⟩:reftype_substitution)) <| rT)
  exact C.evp (A:=A200) mixed Tryz.call200 Tryz.func200 (c:=b200) rfl (aI (qaD s) (aI trivial (aI (qab a) trivial))) z (by kernel_rfl)
end Go.Proofs.YtgldgpdhblndkaaGreatDoor
