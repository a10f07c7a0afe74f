/-
  WHAT IS PROVED: parts of the proof, put together by a program out of smaller texts, their own names made short (G5). Conditions: none.
-/
import Derived.Test.YtgldgpdhblndkaaGreatDoorPkD36
namespace Go.Proofs.YtgldgpdhblndkaaGreatDoor
open Go
set_option linter.unusedVariables false
set_option maxRecDepth 100000
noncomputable def b57:Code:=Tryz.f57.body.getD .skip
def A57:List Nat:=[]
noncomputable def qnA (R56:qbt) (k:tPred) (a:(List tAbs)) (a2:(List tHole)):Option (tPred) :=
  (R56 k a a2).bind fun r1 =>
  some r1
theorem qq3 (R56:qbt) (hR56:qd9 R56) {k:tPred} {a:(List tAbs)} {a2:(List tHole)} {r:tPred} (h:qnA R56 k a a2 = some r):CC Pg GE 57 [.agg (qaa k),.eptr ((cL qaK) a),.eptr ((cL qaz) a2)] (.agg (qaa r)) []:=by
  obtain ⟨r1,br1,h⟩:=bnd h
  obtain rfl:=lf h
  have z:=se (qat k) <| sx pz31 <| sv (qaj k) <| sv (qbb sc24 (sl qaK a) []) <| sv (qbb sc38 (sl qaz a2) []) <| sca (hR56 _ _ _ _ br1) <| sx (qan r1) <| en (aI (qa4 r1) <| (qab r1))
  exact C.evp (A:=A57) mixed Tryz.call57 Tryz.func57 (c:=b57) rfl (aI (qab k) (aI (clLs qcr a) (aI (clLs qbM a2) trivial))) z (by kernel_rfl)
noncomputable def qcA (v:(List tAbs)) (v2:(List tHole)) (out:(List tPred)) (t8:(List tPred)) (t9:Int) (t10:Int):PSt:=stt 22 [(1,.func (.func 57) [] [.eptr ((cL qaK) v),.eptr ((cL qaz) v2)]),(5,sl qaa out),(8,sl qaa t8),(9,.int .i64 t9),(10,.int .i64 t10)] [] [((5,0),31)]
noncomputable def qeL (v:(List tAbs)) (v2:(List tHole)) (t8:(List tPred)) (t9:Int) (o:(List tPred)):PSt:=stt 22 [(5,sl qaa o)] [] [((5,0),31)]
noncomputable def qhP (R56:qbt) (v:(List tAbs)) (v2:(List tHole)) (t8:(List tPred)) (t9:Int) (out:(List tPred)) (t10:Int):Option (((List tPred)×Int)⊕(((List tPred)))) :=
  if (decide (t10 < t9)) = true then
    (idx t8 t10).bind fun x2 =>
    (qnA R56 x2 v v2).bind fun r3 =>
    (app out ([r3]:List tPred)).bind fun l4 =>
    some (.inl (l4,w64 (t10 + 1)))
  else
    some (.inr out)
noncomputable def qi7 (R56:qbt) (v:(List tAbs)) (v2:(List tHole)) (t8:(List tPred)) (t9:Int) (out:(List tPred)) (t10:Int):Option (((List tPred))):=loop (fun (zz:(List tPred)×Int) => qhP R56 v v2 t8 t9 zz.1 zz.2) (out,t10)
theorem qlj (R56:qbt) (hR56:qd9 R56) (v:(List tAbs)) (v2:(List tHole)) (out:(List tPred)) (t8:(List tPred)) (t9:Int) (t10:Int) {y:((List tPred)×Int)⊕(((List tPred)))} (h:qhP R56 v v2 t8 t9 out t10 = some y) :
    Sat Pg GE 0 (cA b56 119) (LQ (fun (zz:(List tPred)×Int) => qcA v v2 zz.1 t8 t9 zz.2) (fun _ => .exit 0) (qeL v v2 t8 t9) y) (qcA v v2 out t8 t9 t10):=by
  rcases ifs h with ⟨c1,h⟩ | ⟨c1,h⟩
  · obtain ⟨x2,bx2,h⟩:=bnd h
    obtain ⟨r3,br3,h⟩:=bnd h
    obtain ⟨l4,bl4,h⟩:=bnd h
    obtain rfl:=lf h
    have z:=sg 0 c1 <| sv (sT29.ia (k := .i64) bx2) <| sv (qaj x2) <| sx pz31 <| sx (qan x2) <| sv (qah x2 []) <| sca (qq3 R56 hR56 br3) <| sv (sT29.mk' (v:=qaP) qaq ([r3]:List tPred) 1 (by kernel_rfl)) <| sv (sT29.ap bl4) <| eFx 0 .normal (qcA v v2 l4 t8 t9 (w64 (t10 + 1))) rfl (qb1 (aI (aI trivial (aI (qbQ (clLs qcr v)) (aI (qbQ (clLs qbM v2)) trivial))) (aI (up (qad qab l4)) (aI (up (qad qab t8)) (aI trivial (aI trivial trivial)))))) trivial
    exact qbK (A:=A56) mixed z (by kernel_rfl)
  · obtain rfl:=lf h
    have z:=sg 0 c1 <| eF (.exit 0) (qeL v v2 t8 t9 out)
    exact qbE (A:=A56) mixed (by intro hx; cases hx) z (by kernel_rfl)
theorem qmr (R56:qbt) (hR56:qd9 R56) (v:(List tAbs)) (v2:(List tHole)) (out:(List tPred)) (t8:(List tPred)) (t9:Int) (t10:Int) {x:((List tPred))} (h:qi7 R56 v v2 t8 t9 out t10 = some x) :
    Sat Pg GE 0 (.loop (cA b56 119)) (EX (.exit 0) (qeL v v2 t8 t9 x)) (qcA v v2 out t8 t9 t10) :=
  Sat.loop (S:=fun (zz:(List tPred)×Int) => qcA v v2 zz.1 t8 t9 zz.2) (ex:=(fun _ => .exit 0)) (s:=(out,t10)) h fun zz y hy => qlj R56 hR56 v v2 zz.1 t8 t9 zz.2 hy
noncomputable def qlg (R56:qbt) (a:(List tPred)) (c:(List tAbs)) (c2:(List tHole)):Option ((List tPred)) :=
  (qi7 R56 c c2 a (a.length:Int) ([]:List tPred) 0).bind fun o5 =>
  some o5
theorem qfO (R56:qbt) (hR56:qd9 R56) {a:(List tPred)} {c:(List tAbs)} {c2:(List tHole)} {r:(List tPred)} (h:qlg R56 a c c2 = some r):CC Pg GE 56 [sl qaa a,.func (.func 57) [] [.eptr ((cL qaK) c),.eptr ((cL qaz) c2)]] (sl qaa r) [(0,31)]:=by
  obtain ⟨o5,bo5,h⟩:=bnd h
  obtain rfl:=lf h
  have z:=svn (sT29.ln a) <| spc (qmr R56 hR56 c c2 ([]:List tPred) a (a.length:Int) 0 bo5) <| en (aI (rP (sl qaa o5)) <| (qad qab o5))
  exact C.evp (A:=A56) mixed Tryz.call56 Tryz.func56 (c:=b56) rfl (aI (qad qab a) (aI (aI trivial (aI (clLs qcr c) (aI (clLs qbM c2) trivial))) trivial)) z (by kernel_rfl)
noncomputable def b97:Code:=Tryz.f97.body.getD .skip
def A97:List Nat:=[]
noncomputable def qku (v:tVar):Option (tPred) :=
  some (⟨3,v.Name,0,([]:List tPred)⟩:tPred)
theorem qnI {v:tVar} {r:tPred} (h:qku v = some r):CC Pg GE 97 [.agg (qay v)] (.agg (qaa r)) [(3,31)]:=by
  obtain rfl:=lf h
  have z:=se (qAt v) <| sx pz31 <| sv (qnT v) <| sv (qpi v) <| sb (qiu 3 v.Name) (qio 3 v.Name) <| sy (qam (⟨3,v.Name,0,([]:List tPred)⟩:tPred)) <| en (aI (qa4 (⟨3,v.Name,0,([]:List tPred)⟩:tPred)) <| aI (qab (⟨3,v.Name,0,([]:List tPred)⟩:tPred)) <| rT)
  exact C.evp (A:=A97) mixed Tryz.call97 Tryz.func97 (c:=b97) rfl (aI (qbG v) trivial) z (by kernel_rfl)
noncomputable def b96:Code:=Tryz.f96.body.getD .skip
def A96:List Nat:=[14,21]
noncomputable def qcv (out:(List tPred)) (t8:(List tVar)) (t9:Int) (t10:Int):PSt:=stt 22 [(1,.func (.func 97) [] []),(5,sl qaa out),(8,sl qay t8),(9,.int .i64 t9),(10,.int .i64 t10)] [] [((5,0),31)]
noncomputable def qeK (t8:(List tVar)) (t9:Int) (o:(List tPred)):PSt:=stt 22 [(5,sl qaa o)] [] [((5,0),31)]
noncomputable def qhH (t8:(List tVar)) (t9:Int) (out:(List tPred)) (t10:Int):Option (((List tPred)×Int)⊕(((List tPred)))) :=
  if (decide (t10 < t9)) = true then
    (idx t8 t10).bind fun x2 =>
    (qku x2).bind fun r3 =>
    (app out ([r3]:List tPred)).bind fun l4 =>
    some (.inl (l4,w64 (t10 + 1)))
  else
    some (.inr out)
noncomputable def qi0 (t8:(List tVar)) (t9:Int) (out:(List tPred)) (t10:Int):Option (((List tPred))):=loop (fun (zz:(List tPred)×Int) => qhH t8 t9 zz.1 zz.2) (out,t10)
theorem qlf (out:(List tPred)) (t8:(List tVar)) (t9:Int) (t10:Int) {y:((List tPred)×Int)⊕(((List tPred)))} (h:qhH t8 t9 out t10 = some y) :
    Sat Pg GE 0 (cA b96 119) (LQ (fun (zz:(List tPred)×Int) => qcv zz.1 t8 t9 zz.2) (fun _ => .exit 0) (qeK t8 t9) y) (qcv out t8 t9 t10):=by
  rcases ifs h with ⟨c1,h⟩ | ⟨c1,h⟩
  · obtain ⟨x2,bx2,h⟩:=bnd h
    obtain ⟨r3,br3,h⟩:=bnd h
    obtain ⟨l4,bl4,h⟩:=bnd h
    obtain rfl:=lf h
    have z:=sg 0 c1 <| sv (sT36.ia (k := .i64) bx2) <| sv (qpn x2) <| sx pz88 <| sx (qqx x2) <| sv (qBl x2 []) <| sca (qnI br3) <| sv (sT29.mk' (v:=qaP) qaq ([r3]:List tPred) 1 (by kernel_rfl)) <| sv (sT29.ap bl4) <| eFx 0 .normal (qcv l4 t8 t9 (w64 (t10 + 1))) rfl (qb1 (aI (aI trivial trivial) (aI (up (qad qab l4)) (aI (up (qad qbG t8)) (aI trivial (aI trivial trivial)))))) trivial
    exact qbK (A:=A96) mixed z (by kernel_rfl)
  · obtain rfl:=lf h
    have z:=sg 0 c1 <| eF (.exit 0) (qeK t8 t9 out)
    exact qbE (A:=A96) mixed (by intro hx; cases hx) z (by kernel_rfl)
theorem ql3 (out:(List tPred)) (t8:(List tVar)) (t9:Int) (t10:Int) {x:((List tPred))} (h:qi0 t8 t9 out t10 = some x) :
    Sat Pg GE 0 (.loop (cA b96 119)) (EX (.exit 0) (qeK t8 t9 x)) (qcv out t8 t9 t10) :=
  Sat.loop (S:=fun (zz:(List tPred)×Int) => qcv zz.1 t8 t9 zz.2) (ex:=(fun _ => .exit 0)) (s:=(out,t10)) h fun zz y hy => qlf zz.1 t8 t9 zz.2 hy
noncomputable def qlu (a:(List tVar)):Option ((List tPred)) :=
  (qi0 a (a.length:Int) ([]:List tPred) 0).bind fun o5 =>
  some o5
theorem qou {a:(List tVar)} {r:(List tPred)} (h:qlu a = some r):CC Pg GE 96 [sl qay a,.func (.func 97) [] []] (sl qaa r) [(0,31)]:=by
  obtain ⟨o5,bo5,h⟩:=bnd h
  obtain rfl:=lf h
  have z:=svn (sT36.ln a) <| spc (ql3 ([]:List tPred) a (a.length:Int) 0 bo5) <| en (aI (rP (sl qaa o5)) <| (qad qab o5))
  exact C.evp (A:=A96) mixed Tryz.call96 Tryz.func96 (c:=b96) rfl (aI (qad qbG a) (aI (aI trivial trivial) trivial)) z (by kernel_rfl)
noncomputable def b58:Code:=Tryz.f58.body.getD .skip
def A58:List Nat:=[]
noncomputable def qmI (name:Str) (a:tPred) (a2:(List tVar)):Option (tPred) :=
  (qlu a2).bind fun r1 =>
  (app ([a]:List tPred) r1).bind fun l2 =>
  some (⟨5,name,0,l2⟩:tPred)
theorem qpA {name:Str} {a:tPred} {a2:(List tVar)} {r:tPred} (h:qmI name a a2 = some r):CC Pg GE 58 [.str name,.agg (qaa a),sl qay a2] (.agg (qaa r)) []:=by
  obtain ⟨r1,br1,h⟩:=bnd h
  obtain ⟨l2,bl2,h⟩:=bnd h
  obtain rfl:=lf h
  have z:=se (qat a) <| sx pz31 <| sdr [0,1,0,4,15,31] <| sv (qaj a) <| sv (sT29.mk' (v:=qaP) qaq ([a]:List tPred) 1 (by kernel_rfl)) <| sca (qou br1) <| sv (sT29.ap bl2) <| sv (qdg 5 name l2) <| sx (qan (⟨5,name,0,l2⟩:tPred)) <| en (aI (qa4 (⟨5,name,0,l2⟩:tPred)) <| (qab (⟨5,name,0,l2⟩:tPred)))
  exact C.evp (A:=A58) mixed Tryz.call58 Tryz.func58 (c:=b58) rfl (aI trivial (aI (qab a) (aI (qad qbG a2) trivial))) z (by kernel_rfl)
noncomputable def b19:Code:=Tryz.f19.body.getD .skip
def A19:List Nat:=[]
noncomputable def qp8 (p:tPred) (abs:(List tAbs)) (holes:(List tHole)) (m:(List tPred)) (m2:Int) (m3:Str) (m4:Int) (m5:(List tPred)):PSt:=stt 52 [(3,.eptr (qaa p)),(4,.eptr ((cL qaK) abs)),(5,.eptr ((cL qaz) holes)),(6,.bptr 3 0),(7,.bptr 4 0)] [.dead,.dead,.dead,.cells [.int .i64 0,.str ([]:Str),.int .i64 0,sl qaa m] [(3,31)],.cells [.int .i64 m2,.str m3,.int .i64 m4,sl qaa m5] [(3,31)]] []
noncomputable def qhu (p:tPred) (abs:(List tAbs)) (holes:(List tHole)) (m:(List tPred)) (m2:Int) (m3:Str) (m4:Int) (m5:(List tPred)) (o:Bool):PSt:=stt 52 [(3,.eptr (qaa p)),(4,.eptr ((cL qaK) abs)),(5,.eptr ((cL qaz) holes)),(6,.bptr 3 0),(7,.bptr 4 0),(30,.bool o)] [.dead,.dead,.dead,.cells [.int .i64 0,.str ([]:Str),.int .i64 0,sl qaa m] [(3,31)],.cells [.int .i64 m2,.str m3,.int .i64 m4,sl qaa m5] [(3,31)]] []
noncomputable def qmG (R56:qbt) (p:tPred):Option ((Bool)) :=
  if (p.Op != 4) = true then
    some true
  else
    some ((p.Kids.length:Int) != 1)
theorem qgp (R56:qbt) (hR56:qd9 R56) (p:tPred) (abs:(List tAbs)) (holes:(List tHole)) (m:(List tPred)) (m2:Int) (m3:Str) (m4:Int) (m5:(List tPred)) {x:(Bool)} (h:qmG R56 p = some x) :
    Sat Pg GE 0 (cA b19 60) (EX .normal (qhu p abs holes m m2 m3 m4 m5 x)) (qp8 p abs holes m m2 m3 m4 m5):=by
  rcases ifs h with ⟨c2,h⟩ | ⟨c2,h⟩
  · obtain rfl:=lf h
    have z:=sv (qal p) <| sv (qak p) <| sg 4 c2 <| eF .normal (qhu p abs holes m m2 m3 m4 m5 true)
    exact qaR (A:=A19) mixed z (by kernel_rfl)
  · obtain rfl:=lf h
    have z:=sv (qal p) <| sv (qak p) <| sg 4 c2 <| sv (qas p) <| sv (qar p) <| svn (sT29.ln p.Kids) <| eF .normal (qhu p abs holes m m2 m3 m4 m5 ((p.Kids.length:Int) != 1))
    exact qaR (A:=A19) mixed z (by kernel_rfl)
noncomputable def qne (R56:qbt) (p:tPred) (abs:(List tAbs)) (holes:(List tHole)):Option (tPred) :=
  (qlg R56 p.Kids abs holes).bind fun r1 =>
  (qmG R56 p).bind fun o3 =>
  if o3 = true then
    some (⟨p.Op,p.Name,p.N,r1⟩:tPred)
  else
    (qgV abs holes p.Name).bind fun r5 =>
    if (!r5.2) = true then
      some (⟨p.Op,p.Name,p.N,r1⟩:tPred)
    else
      (idx r1 0).bind fun x7 =>
      (qkE r5.1).bind fun r8 =>
      (qmI r5.1.Name x7 r8).bind fun r9 =>
      some r9
theorem qrG (R56:qbt) (hR56:qd9 R56) {p:tPred} {abs:(List tAbs)} {holes:(List tHole)} {r:tPred} (h:qne R56 p abs holes = some r):CC Pg GE 19 [.agg (qaa p),sl qaK abs,sl qaz holes] (.agg (qaa r)) []:=by
  obtain ⟨r1,br1,h⟩:=bnd h
  obtain ⟨o3,bo3,h⟩:=bnd h
  rcases ifs h with ⟨c4,h⟩ | ⟨c4,h⟩
  · obtain rfl:=lf h
    have z:=se (qat p) <| se (pcL qaK abs) <| se (pcL qaz holes) <| sx pz31 <| sv (qal p) <| sv (qak p) <| sv (qao p) <| sv (qax p) <| sv (qaW p) <| sv (qbd p) <| sb (qbN p.Op p.Name p.N) (qbP p.Op p.Name p.N) <| sx pz31 <| sy (qam (⟨p.Op,p.Name,p.N,([]:List tPred)⟩:tPred)) <| sv (qas p) <| sv (qar p) <| sca (qfO R56 hR56 br1) <| spa 1 <| spc (qgp R56 hR56 p abs holes ([]:List tPred) p.Op p.Name p.N r1 bo3) <| sg 0 c4 <| sz (qah (⟨p.Op,p.Name,p.N,r1⟩:tPred) []) <| sy (qam (⟨p.Op,p.Name,p.N,r1⟩:tPred)) <| en (aI (qa4 (⟨p.Op,p.Name,p.N,r1⟩:tPred)) <| (qab (⟨p.Op,p.Name,p.N,r1⟩:tPred)))
    exact C.evp (A:=A19) mixed Tryz.call19 Tryz.func19 (c:=b19) rfl (aI (qab p) (aI (qad qcr abs) (aI (qad qbM holes) trivial))) z (by kernel_rfl)
  · obtain ⟨r5,br5,h⟩:=bnd h
    rcases ifs h with ⟨c6,h⟩ | ⟨c6,h⟩
    · obtain rfl:=lf h
      have z:=se (qat p) <| se (pcL qaK abs) <| se (pcL qaz holes) <| sx pz31 <| sv (qal p) <| sv (qak p) <| sv (qao p) <| sv (qax p) <| sv (qaW p) <| sv (qbd p) <| sb (qbN p.Op p.Name p.N) (qbP p.Op p.Name p.N) <| sx pz31 <| sy (qam (⟨p.Op,p.Name,p.N,([]:List tPred)⟩:tPred)) <| sv (qas p) <| sv (qar p) <| sca (qfO R56 hR56 br1) <| spa 1 <| spc (qgp R56 hR56 p abs holes ([]:List tPred) p.Op p.Name p.N r1 bo3) <| sg 0 c4 <| sv (qbb sc24 (sl qaK abs) []) <| sv (qbb sc38 (sl qaz holes) []) <| sv (qao p) <| sv (qax p) <| sca (qdD br5) <| sx pz82 <| sx (qly r5.1) <| sg 0 c6 <| sz (qah (⟨p.Op,p.Name,p.N,r1⟩:tPred) []) <| sy (qam (⟨p.Op,p.Name,p.N,r1⟩:tPred)) <| en (aI (qa4 (⟨p.Op,p.Name,p.N,r1⟩:tPred)) <| (qab (⟨p.Op,p.Name,p.N,r1⟩:tPred)))
      exact C.evp (A:=A19) mixed Tryz.call19 Tryz.func19 (c:=b19) rfl (aI (qab p) (aI (qad qcr abs) (aI (qad qbM holes) trivial))) z (by kernel_rfl)
    · obtain ⟨x7,bx7,h⟩:=bnd h
      obtain ⟨r8,br8,h⟩:=bnd h
      obtain ⟨r9,br9,h⟩:=bnd h
      obtain rfl:=lf h
      have z:=se (qat p) <| se (pcL qaK abs) <| se (pcL qaz holes) <| sx pz31 <| sv (qal p) <| sv (qak p) <| sv (qao p) <| sv (qax p) <| sv (qaW p) <| sv (qbd p) <| sb (qbN p.Op p.Name p.N) (qbP p.Op p.Name p.N) <| sx pz31 <| sy (qam (⟨p.Op,p.Name,p.N,([]:List tPred)⟩:tPred)) <| sv (qas p) <| sv (qar p) <| sca (qfO R56 hR56 br1) <| spa 1 <| spc (qgp R56 hR56 p abs holes ([]:List tPred) p.Op p.Name p.N r1 bo3) <| sg 0 c4 <| sv (qbb sc24 (sl qaK abs) []) <| sv (qbb sc38 (sl qaz holes) []) <| sv (qao p) <| sv (qax p) <| sca (qdD br5) <| sx pz82 <| sx (qly r5.1) <| sg 0 c6 <| sdr [0,1,0,4,12,28,0,64,255,511] <| ss <| ss <| sv (sT29.ia (k := .i64) bx7) <| sv (qaj x7) <| sv (qwa r5.1 []) <| sca (qle br8) <| sca (qpA br9) <| sx (qan r9) <| en (aI (qa4 r9) <| (qab r9))
      exact C.evp (A:=A19) mixed Tryz.call19 Tryz.func19 (c:=b19) rfl (aI (qab p) (aI (qad qcr abs) (aI (qad qbM holes) trivial))) z (by kernel_rfl)
noncomputable def qnj:((tPred×(List tAbs)×(List tHole))→Option (tPred))→(tPred×(List tAbs)×(List tHole))→Option (tPred):=fun (rec:(tPred×(List tAbs)×(List tHole))→Option (tPred)) (x:tPred×(List tAbs)×(List tHole)) => qne (fun p abs holes => rec (p,abs,holes)) x.1 x.2.1 x.2.2
noncomputable def qmq (p:tPred) (abs:(List tAbs)) (holes:(List tHole)):Option (tPred):=fixE (qnj) (p,abs,holes)
theorem qez {p:tPred} {abs:(List tAbs)} {holes:(List tHole)} {r:tPred} (h:qmq p abs holes = some r):CC Pg GE 19 [.agg (qaa p),sl qaK abs,sl qaz holes] (.agg (qaa r)) [] :=
  qcs (F:=qnj) (M:=fun (x:tPred×(List tAbs)×(List tHole)) (r:tPred) => CC Pg GE 19 [.agg (qaa x.1),sl qaK x.2.1,sl qaz x.2.2] (.agg (qaa r)) []) (fun rec hrec x r h => qrG _ (fun p abs holes r h => hrec (p,abs,holes) r h) h) h
noncomputable def b53:Code:=Tryz.f53.body.getD .skip
def A53:List Nat:=[]
noncomputable def qjX (p:tPred) (a:(List tAbs)) (a2:(List tHole)):Option (tPred) :=
  (qmq p a a2).bind fun r1 =>
  some r1
theorem qkb {p:tPred} {a:(List tAbs)} {a2:(List tHole)} {r:tPred} (h:qjX p a a2 = some r):CC Pg GE 53 [.agg (qaa p),.eptr ((cL qaK) a),.eptr ((cL qaz) a2)] (.agg (qaa r)) []:=by
  obtain ⟨r1,br1,h⟩:=bnd h
  obtain rfl:=lf h
  have z:=se (qat p) <| sx pz31 <| sv (qaj p) <| sv (qbb sc24 (sl qaK a) []) <| sv (qbb sc38 (sl qaz a2) []) <| sca (qez br1) <| sx (qan r1) <| en (aI (qa4 r1) <| (qab r1))
  exact C.evp (A:=A53) mixed Tryz.call53 Tryz.func53 (c:=b53) rfl (aI (qab p) (aI (clLs qcr a) (aI (clLs qbM a2) trivial))) z (by kernel_rfl)
noncomputable def qcy (v:(List tAbs)) (v2:(List tHole)) (out:(List tPred)) (t8:(List tPred)) (t9:Int) (t10:Int):PSt:=stt 22 [(1,.func (.func 53) [] [.eptr ((cL qaK) v),.eptr ((cL qaz) v2)]),(5,sl qaa out),(8,sl qaa t8),(9,.int .i64 t9),(10,.int .i64 t10)] [] [((5,0),31)]
noncomputable def qeJ (v:(List tAbs)) (v2:(List tHole)) (t8:(List tPred)) (t9:Int) (o:(List tPred)):PSt:=stt 22 [(5,sl qaa o)] [] [((5,0),31)]
noncomputable def qhM (v:(List tAbs)) (v2:(List tHole)) (t8:(List tPred)) (t9:Int) (out:(List tPred)) (t10:Int):Option (((List tPred)×Int)⊕(((List tPred)))) :=
  if (decide (t10 < t9)) = true then
    (idx t8 t10).bind fun x2 =>
    (qjX x2 v v2).bind fun r3 =>
    (app out ([r3]:List tPred)).bind fun l4 =>
    some (.inl (l4,w64 (t10 + 1)))
  else
    some (.inr out)
noncomputable def qi9 (v:(List tAbs)) (v2:(List tHole)) (t8:(List tPred)) (t9:Int) (out:(List tPred)) (t10:Int):Option (((List tPred))):=loop (fun (zz:(List tPred)×Int) => qhM v v2 t8 t9 zz.1 zz.2) (out,t10)
theorem qk7 (v:(List tAbs)) (v2:(List tHole)) (out:(List tPred)) (t8:(List tPred)) (t9:Int) (t10:Int) {y:((List tPred)×Int)⊕(((List tPred)))} (h:qhM v v2 t8 t9 out t10 = some y) :
    Sat Pg GE 0 (cA b56 119) (LQ (fun (zz:(List tPred)×Int) => qcy v v2 zz.1 t8 t9 zz.2) (fun _ => .exit 0) (qeJ v v2 t8 t9) y) (qcy v v2 out t8 t9 t10):=by
  rcases ifs h with ⟨c1,h⟩ | ⟨c1,h⟩
  · obtain ⟨x2,bx2,h⟩:=bnd h
    obtain ⟨r3,br3,h⟩:=bnd h
    obtain ⟨l4,bl4,h⟩:=bnd h
    obtain rfl:=lf h
    have z:=sg 0 c1 <| sv (sT29.ia (k := .i64) bx2) <| sv (qaj x2) <| sx pz31 <| sx (qan x2) <| sv (qah x2 []) <| sca (qkb br3) <| sv (sT29.mk' (v:=qaP) qaq ([r3]:List tPred) 1 (by kernel_rfl)) <| sv (sT29.ap bl4) <| eFx 0 .normal (qcy v v2 l4 t8 t9 (w64 (t10 + 1))) rfl (qb1 (aI (aI trivial (aI (qbQ (clLs qcr v)) (aI (qbQ (clLs qbM v2)) trivial))) (aI (up (qad qab l4)) (aI (up (qad qab t8)) (aI trivial (aI trivial trivial)))))) trivial
    exact qbK (A:=A56) mixed z (by kernel_rfl)
  · obtain rfl:=lf h
    have z:=sg 0 c1 <| eF (.exit 0) (qeJ v v2 t8 t9 out)
    exact qbE (A:=A56) mixed (by intro hx; cases hx) z (by kernel_rfl)
theorem qlZ (v:(List tAbs)) (v2:(List tHole)) (out:(List tPred)) (t8:(List tPred)) (t9:Int) (t10:Int) {x:((List tPred))} (h:qi9 v v2 t8 t9 out t10 = some x) :
    Sat Pg GE 0 (.loop (cA b56 119)) (EX (.exit 0) (qeJ v v2 t8 t9 x)) (qcy v v2 out t8 t9 t10) :=
  Sat.loop (S:=fun (zz:(List tPred)×Int) => qcy v v2 zz.1 t8 t9 zz.2) (ex:=(fun _ => .exit 0)) (s:=(out,t10)) h fun zz y hy => qk7 v v2 zz.1 t8 t9 zz.2 hy
noncomputable def qk6 (a:(List tPred)) (c:(List tAbs)) (c2:(List tHole)):Option ((List tPred)) :=
  (qi9 c c2 a (a.length:Int) ([]:List tPred) 0).bind fun o5 =>
  some o5
theorem qoH {a:(List tPred)} {c:(List tAbs)} {c2:(List tHole)} {r:(List tPred)} (h:qk6 a c c2 = some r):CC Pg GE 56 [sl qaa a,.func (.func 53) [] [.eptr ((cL qaK) c),.eptr ((cL qaz) c2)]] (sl qaa r) [(0,31)]:=by
  obtain ⟨o5,bo5,h⟩:=bnd h
  obtain rfl:=lf h
  have z:=svn (sT29.ln a) <| spc (qlZ c c2 ([]:List tPred) a (a.length:Int) 0 bo5) <| en (aI (rP (sl qaa o5)) <| (qad qab o5))
  exact C.evp (A:=A56) mixed Tryz.call56 Tryz.func56 (c:=b56) rfl (aI (qad qab a) (aI (aI trivial (aI (clLs qcr c) (aI (clLs qbM c2) trivial))) trivial)) z (by kernel_rfl)
noncomputable def qi6 (R54:qa3) (a:tType) (c:(List tAbs)) (c2:(List tHole)):Option (tType) :=
  (R54 a c c2).bind fun r1 =>
  some r1
theorem qlX (R54:qa3) (hR54:qc6 R54) {a:tType} {c:(List tAbs)} {c2:(List tHole)} {r:tType} (h:qi6 R54 a c c2 = some r):CC Pg GE 88 [.agg (qac a),.eptr [.func (.func 53) [] [.eptr ((cL qaK) c),.eptr ((cL qaz) c2)]]] (.agg (qac r)) [(2,33)]:=by
  obtain ⟨r1,br1,h⟩:=bnd h
  obtain rfl:=lf h
  have z:=se (qbX a) <| sx pz33 <| sv (qaZ a) <| sv (qbb qym (.func (.func 53) [] [.eptr ((cL qaK) c),.eptr ((cL qaz) c2)]) []) <| sca (hR54 _ _ _ _ br1) <| sy (qaB r1) <| en (aI (qc8 r1) <| aI (qag r1) <| rT)
  exact C.evp (A:=A88) mixed Tryz.call88 Tryz.func88 (c:=b88) rfl (aI (qag a) (aI (aI (aI trivial (aI (clLs qcr c) (aI (clLs qbM c2) trivial))) trivial) trivial)) z (by kernel_rfl)
noncomputable def qcp (v:(List tAbs)) (v2:(List tHole)) (out:(List tType)) (t8:(List tType)) (t9:Int) (t10:Int):PSt:=stt 22 [(1,.func (.func 88) [] [.eptr [.func (.func 53) [] [.eptr ((cL qaK) v),.eptr ((cL qaz) v2)]]]),(5,sl qac out),(8,sl qac t8),(9,.int .i64 t9),(10,.int .i64 t10)] [] [((5,0),33)]
noncomputable def qee (v:(List tAbs)) (v2:(List tHole)) (t8:(List tType)) (t9:Int) (o:(List tType)):PSt:=stt 22 [(5,sl qac o)] [] [((5,0),33)]
noncomputable def qgR (R54:qa3) (v:(List tAbs)) (v2:(List tHole)) (t8:(List tType)) (t9:Int) (out:(List tType)) (t10:Int):Option (((List tType)×Int)⊕(((List tType)))) :=
  if (decide (t10 < t9)) = true then
    (idx t8 t10).bind fun x2 =>
    (qi6 R54 x2 v v2).bind fun r3 =>
    (app out ([r3]:List tType)).bind fun l4 =>
    some (.inl (l4,w64 (t10 + 1)))
  else
    some (.inr out)
noncomputable def qiI (R54:qa3) (v:(List tAbs)) (v2:(List tHole)) (t8:(List tType)) (t9:Int) (out:(List tType)) (t10:Int):Option (((List tType))):=loop (fun (zz:(List tType)×Int) => qgR R54 v v2 t8 t9 zz.1 zz.2) (out,t10)
theorem qkJ (R54:qa3) (hR54:qc6 R54) (v:(List tAbs)) (v2:(List tHole)) (out:(List tType)) (t8:(List tType)) (t9:Int) (t10:Int) {y:((List tType)×Int)⊕(((List tType)))} (h:qgR R54 v v2 t8 t9 out t10 = some y) :
    Sat Pg GE 0 (cA b62 119) (LQ (fun (zz:(List tType)×Int) => qcp v v2 zz.1 t8 t9 zz.2) (fun _ => .exit 0) (qee v v2 t8 t9) y) (qcp v v2 out t8 t9 t10):=by
  rcases ifs h with ⟨c1,h⟩ | ⟨c1,h⟩
  · obtain ⟨x2,bx2,h⟩:=bnd h
    obtain ⟨r3,br3,h⟩:=bnd h
    obtain ⟨l4,bl4,h⟩:=bnd h
    obtain rfl:=lf h
    have z:=sg 0 c1 <| sv (sT27.ia (k := .i64) bx2) <| sv (qaZ x2) <| sx pz33 <| sx (qbr x2) <| sv (qaS x2 []) <| sca (qlX R54 hR54 br3) <| sv (sT27.mk' (v:=qc4) qbv ([r3]:List tType) 1 (by kernel_rfl)) <| sv (sT27.ap bl4) <| eFx 0 .normal (qcp v v2 l4 t8 t9 (w64 (t10 + 1))) rfl (qb1 (aI (aI trivial (aI (aI (aI trivial (aI (qbQ (clLs qcr v)) (aI (qbQ (clLs qbM v2)) trivial))) trivial) trivial)) (aI (up (qad qag l4)) (aI (up (qad qag t8)) (aI trivial (aI trivial trivial)))))) trivial
    exact qbK (A:=A62) mixed z (by kernel_rfl)
  · obtain rfl:=lf h
    have z:=sg 0 c1 <| eF (.exit 0) (qee v v2 t8 t9 out)
    exact qbE (A:=A62) mixed (by intro hx; cases hx) z (by kernel_rfl)
theorem qlx (R54:qa3) (hR54:qc6 R54) (v:(List tAbs)) (v2:(List tHole)) (out:(List tType)) (t8:(List tType)) (t9:Int) (t10:Int) {x:((List tType))} (h:qiI R54 v v2 t8 t9 out t10 = some x) :
    Sat Pg GE 0 (.loop (cA b62 119)) (EX (.exit 0) (qee v v2 t8 t9 x)) (qcp v v2 out t8 t9 t10) :=
  Sat.loop (S:=fun (zz:(List tType)×Int) => qcp v v2 zz.1 t8 t9 zz.2) (ex:=(fun _ => .exit 0)) (s:=(out,t10)) h fun zz y hy => qkJ R54 hR54 v v2 zz.1 t8 t9 zz.2 hy
noncomputable def qj5 (R54:qa3) (a:(List tType)) (c:(List tAbs)) (c2:(List tHole)):Option ((List tType)) :=
  (qiI R54 c c2 a (a.length:Int) ([]:List tType) 0).bind fun o5 =>
  some o5
theorem qnO (R54:qa3) (hR54:qc6 R54) {a:(List tType)} {c:(List tAbs)} {c2:(List tHole)} {r:(List tType)} (h:qj5 R54 a c c2 = some r):CC Pg GE 62 [sl qac a,.func (.func 88) [] [.eptr [.func (.func 53) [] [.eptr ((cL qaK) c),.eptr ((cL qaz) c2)]]]] (sl qac r) [(0,33)]:=by
  obtain ⟨o5,bo5,h⟩:=bnd h
  obtain rfl:=lf h
  have z:=svn (sT27.ln a) <| spc (qlx R54 hR54 c c2 ([]:List tType) a (a.length:Int) 0 bo5) <| en (aI (rP (sl qac o5)) <| (qad qag o5))
  exact C.evp (A:=A62) mixed Tryz.call62 Tryz.func62 (c:=b62) rfl (aI (qad qag a) (aI (aI trivial (aI (aI (aI trivial (aI (clLs qcr c) (aI (clLs qbM c2) trivial))) trivial) trivial)) trivial)) z (by kernel_rfl)
noncomputable def qja (R54:qa3) (t:tType) (c:(List tAbs)) (c2:(List tHole)):Option (tType) :=
  (qip t.Names).bind fun r1 =>
  (qjX t.Pred c c2).bind fun r2 =>
  (qk6 t.Preds c c2).bind fun r3 =>
  (qj5 R54 t.Args c c2).bind fun r4 =>
  some (⟨t.Op,t.Name,r4,r1,r2,r3⟩:tType)
theorem qmT (R54:qa3) (hR54:qc6 R54) {t:tType} {c:(List tAbs)} {c2:(List tHole)} {r:tType} (h:qja R54 t c c2 = some r):CC Pg GE 51 [.agg (qac t),.func (.func 53) [] [.eptr ((cL qaK) c),.eptr ((cL qaz) c2)]] (.agg (qac r)) [(2,33)]:=by
  obtain ⟨r1,br1,h⟩:=bnd h
  obtain ⟨r2,br2,h⟩:=bnd h
  obtain ⟨r3,br3,h⟩:=bnd h
  obtain ⟨r4,br4,h⟩:=bnd h
  obtain rfl:=lf h
  have z:=se (qbX t) <| se (rfl:qbc (.func (.func 53) [] [.eptr ((cL qaK) c),.eptr ((cL qaz) c2)]) = some [.func (.func 53) [] [.eptr ((cL qaK) c),.eptr ((cL qaz) c2)]]) <| sx pz33 <| sdr [0,1,0,4,0,16,48,0,0,256,1008,0,2048,0,16368,32767,0,131071] <| sv (qaJ t) <| sv (qaH t) <| sv (qbp t) <| sv (qbu t) <| sv (qaM t) <| sv (qaN t) <| sca (qol br1) <| sv (qbb qym (.func (.func 53) [] [.eptr ((cL qaK) c),.eptr ((cL qaz) c2)]) []) <| sv (qcJ t) <| sv (qcK t) <| sca (qkb br2) <| sv (qaV t) <| sv (qaT t) <| sv (qbb qym (.func (.func 53) [] [.eptr ((cL qaK) c),.eptr ((cL qaz) c2)]) []) <| sca (qoH br3) <| sb (qhi t.Op t.Name r1 r2 r3) (qg2 t.Op t.Name r1 r2 r3) <| syx (qbr (⟨t.Op,t.Name,([]:List tType),r1,r2,r3⟩:tType)) <| sv (qaG t) <| sv (qaI t) <| sca (qnO R54 hR54 br4) <| sz (qaS (⟨t.Op,t.Name,r4,r1,r2,r3⟩:tType) []) <| sy (qaB (⟨t.Op,t.Name,r4,r1,r2,r3⟩:tType)) <| en (aI (qc8 (⟨t.Op,t.Name,r4,r1,r2,r3⟩:tType)) <| aI (qag (⟨t.Op,t.Name,r4,r1,r2,r3⟩:tType)) <| rT)
  exact C.evp (A:=A51) mixed Tryz.call51 Tryz.func51 (c:=b51) rfl (aI (qag t) (aI (aI trivial (aI (clLs qcr c) (aI (clLs qbM c2) trivial))) trivial)) z (by kernel_rfl)
noncomputable def qi8:((tType×(List tAbs)×(List tHole))→Option (tType))→(tType×(List tAbs)×(List tHole))→Option (tType):=fun (rec:(tType×(List tAbs)×(List tHole))→Option (tType)) (x:tType×(List tAbs)×(List tHole)) => qja (fun t c c2 => rec (t,c,c2)) x.1 x.2.1 x.2.2
noncomputable def qkc (t:tType) (c:(List tAbs)) (c2:(List tHole)):Option (tType):=fixE (qi8) (t,c,c2)
theorem qnG {t:tType} {c:(List tAbs)} {c2:(List tHole)} {r:tType} (h:qkc t c c2 = some r):CC Pg GE 51 [.agg (qac t),.func (.func 53) [] [.eptr ((cL qaK) c),.eptr ((cL qaz) c2)]] (.agg (qac r)) [(2,33)] :=
  qcs (F:=qi8) (M:=fun (x:tType×(List tAbs)×(List tHole)) (r:tType) => CC Pg GE 51 [.agg (qac x.1),.func (.func 53) [] [.eptr ((cL qaK) x.2.1),.eptr ((cL qaz) x.2.2)]] (.agg (qac r)) [(2,33)]) (fun rec hrec x r h => qmT _ (fun t c c2 r h => hrec (t,c,c2) r h) h) h
noncomputable def b16:Code:=Tryz.f16.body.getD .skip
def A16:List Nat:=[17,38]
noncomputable def qcX (t:tType) (abs:(List tAbs)) (holes:(List tHole)) (vars:(List Str)) (t14:Int) (t15:Int) (m:(List tType)) (m2:(List tPred)):PSt:=stt 50 [(3,.eptr (qac t)),(4,.eptr ((cL qaK) abs)),(5,.eptr ((cL qaz) holes)),(6,.bptr 3 0),(7,sl cS vars),(14,.int .i64 t14),(15,.int .i64 t15)] [.dead,.dead,.dead,.cells [.int .i64 0,.str ([]:Str),sl qac m,sl cS ([]:List Str),.int .i64 0,.str ([]:Str),.int .i64 0,sl qaa m2,sl qaa m2] [(2,33),(3,9),(7,31),(8,31)]] [((7,0),9)]
noncomputable def qhf (t:tType) (abs:(List tAbs)) (holes:(List tHole)) (t14:Int) (m:(List tType)) (m2:(List tPred)) (o:(List Str)):PSt:=stt 50 [(3,.eptr (qac t)),(4,.eptr ((cL qaK) abs)),(5,.eptr ((cL qaz) holes)),(6,.bptr 3 0),(7,sl cS o)] [.dead,.dead,.dead,.cells [.int .i64 0,.str ([]:Str),sl qac m,sl cS ([]:List Str),.int .i64 0,.str ([]:Str),.int .i64 0,sl qaa m2,sl qaa m2] [(2,33),(3,9),(7,31),(8,31)]] [((7,0),9)]
noncomputable def qdH (t:tType) (abs:(List tAbs)) (holes:(List tHole)) (vars:(List Str)) (t14:Int) (t15:Int) (t32:(List tVar)) (t33:Int) (t34:Int) (m:(List tType)) (m2:(List tPred)) (m3:Str) (m4:(List tVar)):PSt:=stt 50 [(3,.eptr (qac t)),(4,.eptr ((cL qaK) abs)),(5,.eptr ((cL qaz) holes)),(6,.bptr 3 0),(7,sl cS vars),(14,.int .i64 t14),(15,.int .i64 t15),(32,sl qay t32),(33,.int .i64 t33),(34,.int .i64 t34)] [.dead,.dead,.dead,.cells [.int .i64 0,.str ([]:Str),sl qac m,sl cS ([]:List Str),.int .i64 0,.str ([]:Str),.int .i64 0,sl qaa m2,sl qaa m2] [(2,33),(3,9),(7,31),(8,31)],.cells [.str m3,sl qay m4] []] [((7,0),9)]
noncomputable def qhs (t:tType) (abs:(List tAbs)) (holes:(List tHole)) (t14:Int) (t15:Int) (t32:(List tVar)) (t33:Int) (m:(List tType)) (m2:(List tPred)) (m3:Str) (m4:(List tVar)) (o:(List Str)):PSt:=stt 50 [(3,.eptr (qac t)),(4,.eptr ((cL qaK) abs)),(5,.eptr ((cL qaz) holes)),(6,.bptr 3 0),(7,sl cS o),(14,.int .i64 t14),(15,.int .i64 t15)] [.dead,.dead,.dead,.cells [.int .i64 0,.str ([]:Str),sl qac m,sl cS ([]:List Str),.int .i64 0,.str ([]:Str),.int .i64 0,sl qaa m2,sl qaa m2] [(2,33),(3,9),(7,31),(8,31)],.cells [.str m3,sl qay m4] []] [((7,0),9)]
noncomputable def qkv (t32:(List tVar)) (t33:Int) (vars:(List Str)) (t34:Int):Option (((List Str)×Int)⊕(((List Str)))) :=
  if (decide (t34 < t33)) = true then
    (idx t32 t34).bind fun x7 =>
    (app vars ([x7.Name]:List Str)).bind fun l8 =>
    some (.inl (l8,w64 (t34 + 1)))
  else
    some (.inr vars)
noncomputable def qmJ (t32:(List tVar)) (t33:Int) (vars:(List Str)) (t34:Int):Option (((List Str))):=loop (fun (zz:(List Str)×Int) => qkv t32 t33 zz.1 zz.2) (vars,t34)
theorem qoI (t:tType) (abs:(List tAbs)) (holes:(List tHole)) (vars:(List Str)) (t14:Int) (t15:Int) (t32:(List tVar)) (t33:Int) (t34:Int) (m:(List tType)) (m2:(List tPred)) (m3:Str) (m4:(List tVar)) {y:((List Str)×Int)⊕(((List Str)))} (h:qkv t32 t33 vars t34 = some y) :
    Sat Pg GE 0 (cA b16 122751) (LQ (fun (zz:(List Str)×Int) => qdH t abs holes zz.1 t14 t15 t32 t33 zz.2 m m2 m3 m4) (fun _ => .exit 2) (qhs t abs holes t14 t15 t32 t33 m m2 m3 m4) y) (qdH t abs holes vars t14 t15 t32 t33 t34 m m2 m3 m4):=by
  rcases ifs h with ⟨c6,h⟩ | ⟨c6,h⟩
  · obtain ⟨x7,bx7,h⟩:=bnd h
    obtain ⟨l8,bl8,h⟩:=bnd h
    obtain rfl:=lf h
    have z:=sg 0 c6 <| sv (sT36.ia (k := .i64) bx7) <| sv (qpn x7) <| sx pz88 <| sx (qqx x7) <| ss <| sv (sT22.mk' (v:=PVal.str) pcS ([x7.Name]:List Str) 1 (by kernel_rfl)) <| sv (sT22.ap bl8) <| eFx 0 .normal (qdH t abs holes l8 t14 t15 t32 t33 (w64 (t34 + 1)) m m2 m3 m4) rfl (qb1 (aI (qbQ (qag t)) (aI (qbQ (clLs qcr abs)) (aI (qbQ (clLs qbM holes)) (aI (qdu rfl) (aI (up (qad clS l8)) (aI trivial (aI trivial (aI (up (qad qbG t32)) (aI trivial (aI trivial trivial))))))))))) (aI trivial (aI trivial (aI trivial (aI (aI trivial (aI trivial (aI (up (qad qag m)) (aI (up (qad clS ([]:List Str))) (aI trivial (aI trivial (aI trivial (aI (up (qad qab m2)) (aI (up (qad qab m2)) trivial))))))))) (aI (aI trivial (aI (up (qad qbG m4)) trivial)) trivial)))))
    exact qbK (A:=A16) mixed z (by kernel_rfl)
  · obtain rfl:=lf h
    have z:=sg 0 c6 <| eF (.exit 2) (qhs t abs holes t14 t15 t32 t33 m m2 m3 m4 vars)
    exact qbE (A:=A16) mixed (by intro hx; cases hx) z (by kernel_rfl)
theorem qpg (t:tType) (abs:(List tAbs)) (holes:(List tHole)) (vars:(List Str)) (t14:Int) (t15:Int) (t32:(List tVar)) (t33:Int) (t34:Int) (m:(List tType)) (m2:(List tPred)) (m3:Str) (m4:(List tVar)) {x:((List Str))} (h:qmJ t32 t33 vars t34 = some x) :
    Sat Pg GE 0 (.loop (cA b16 122751)) (EX (.exit 2) (qhs t abs holes t14 t15 t32 t33 m m2 m3 m4 x)) (qdH t abs holes vars t14 t15 t32 t33 t34 m m2 m3 m4) :=
  Sat.loop (S:=fun (zz:(List Str)×Int) => qdH t abs holes zz.1 t14 t15 t32 t33 zz.2 m m2 m3 m4) (ex:=(fun _ => .exit 2)) (s:=(vars,t34)) h fun zz y hy => qoI t abs holes zz.1 t14 t15 t32 t33 zz.2 m m2 m3 m4 hy
noncomputable def qkA (abs:(List tAbs)) (holes:(List tHole)) (t14:Int) (vars:(List Str)) (t15:Int):Option (((List Str)×Int)⊕(((List Str)))) :=
  if (decide (t15 < t14)) = true then
    (idx abs t15).bind fun x2 =>
    (qgV abs holes x2.Name).bind fun r3 =>
    if (!r3.2) = true then
      some (.inl (vars,w64 (t15 + 1)))
    else
      (qkE r3.1).bind fun r5 =>
      (qmJ r5 (r5.length:Int) vars 0).bind fun o9 =>
      some (.inl (o9,w64 (t15 + 1)))
  else
    some (.inr vars)
noncomputable def qmE (abs:(List tAbs)) (holes:(List tHole)) (t14:Int) (vars:(List Str)) (t15:Int):Option (((List Str))):=loop (fun (zz:(List Str)×Int) => qkA abs holes t14 zz.1 zz.2) (vars,t15)
theorem qoL (t:tType) (abs:(List tAbs)) (holes:(List tHole)) (vars:(List Str)) (t14:Int) (t15:Int) (m:(List tType)) (m2:(List tPred)) {y:((List Str)×Int)⊕(((List Str)))} (h:qkA abs holes t14 vars t15 = some y) :
    Sat Pg GE 0 (cA b16 119) (LQ (fun (zz:(List Str)×Int) => qcX t abs holes zz.1 t14 zz.2 m m2) (fun _ => .exit 0) (qhf t abs holes t14 m m2) y) (qcX t abs holes vars t14 t15 m m2):=by
  rcases ifs h with ⟨c1,h⟩ | ⟨c1,h⟩
  · obtain ⟨x2,bx2,h⟩:=bnd h
    obtain ⟨r3,br3,h⟩:=bnd h
    rcases ifs h with ⟨c4,h⟩ | ⟨c4,h⟩
    · obtain rfl:=lf h
      have z:=sg 0 c1 <| sdr [0,0,0,0,12,28,60,127,255,511,511,0,3071,8191] <| sv (qbb sc24 (sl qaK abs) []) <| sv (qbb sc38 (sl qaz holes) []) <| sv (qbb sc24 (sl qaK abs) []) <| sv (sT24.ia (k := .i64) bx2) <| sv (qkt x2) <| sv (qlR x2) <| sca (qdD br3) <| sx (qly r3.1) <| sg 0 c4 <| eFx 0 .normal (qcX t abs holes vars t14 (w64 (t15 + 1)) m m2) rfl (qb1 (aI (qbQ (qag t)) (aI (qbQ (clLs qcr abs)) (aI (qbQ (clLs qbM holes)) (aI (qdu rfl) (aI (up (qad clS vars)) (aI trivial (aI trivial trivial)))))))) (aI trivial (aI trivial (aI trivial (aI (aI trivial (aI trivial (aI (up (qad qag m)) (aI (up (qad clS ([]:List Str))) (aI trivial (aI trivial (aI trivial (aI (up (qad qab m2)) (aI (up (qad qab m2)) trivial))))))))) trivial))))
      exact qbK (A:=A16) mixed z (by kernel_rfl)
    · obtain ⟨r5,br5,h⟩:=bnd h
      obtain ⟨o9,bo9,h⟩:=bnd h
      obtain rfl:=lf h
      have z:=sg 0 c1 <| sdr [0,0,0,0,12,28,60,127,255,511,511,0,3071,8191] <| sv (qbb sc24 (sl qaK abs) []) <| sv (qbb sc38 (sl qaz holes) []) <| sv (qbb sc24 (sl qaK abs) []) <| sv (sT24.ia (k := .i64) bx2) <| sv (qkt x2) <| sv (qlR x2) <| sca (qdD br3) <| sx (qly r3.1) <| sg 0 c4 <| sv (qwa r3.1 []) <| sca (qle br5) <| svn (sT36.ln r5) <| spc (qpg t abs holes vars t14 t15 r5 (r5.length:Int) 0 m m2 r3.1.Name r3.1.Params bo9) <| eFx 0 .normal (qcX t abs holes o9 t14 (w64 (t15 + 1)) m m2) rfl (qb1 (aI (qbQ (qag t)) (aI (qbQ (clLs qcr abs)) (aI (qbQ (clLs qbM holes)) (aI (qdu rfl) (aI (up (qad clS o9)) (aI trivial (aI trivial trivial)))))))) (aI trivial (aI trivial (aI trivial (aI (aI trivial (aI trivial (aI (up (qad qag m)) (aI (up (qad clS ([]:List Str))) (aI trivial (aI trivial (aI trivial (aI (up (qad qab m2)) (aI (up (qad qab m2)) trivial))))))))) trivial))))
      exact qbK (A:=A16) mixed z (by kernel_rfl)
  · obtain rfl:=lf h
    have z:=sg 0 c1 <| eF (.exit 0) (qhf t abs holes t14 m m2 vars)
    exact qbE (A:=A16) mixed (by intro hx; cases hx) z (by kernel_rfl)
theorem qpW (t:tType) (abs:(List tAbs)) (holes:(List tHole)) (vars:(List Str)) (t14:Int) (t15:Int) (m:(List tType)) (m2:(List tPred)) {x:((List Str))} (h:qmE abs holes t14 vars t15 = some x) :
    Sat Pg GE 0 (.loop (cA b16 119)) (EX (.exit 0) (qhf t abs holes t14 m m2 x)) (qcX t abs holes vars t14 t15 m m2) :=
  Sat.loop (S:=fun (zz:(List Str)×Int) => qcX t abs holes zz.1 t14 zz.2 m m2) (ex:=(fun _ => .exit 0)) (s:=(vars,t15)) h fun zz y hy => qoL t abs holes zz.1 t14 zz.2 m m2 hy
noncomputable def qp1 (t:tType) (abs:(List tAbs)) (holes:(List tHole)):Option (tType) :=
  (qmE abs holes (abs.length:Int) ([]:List Str) 0).bind fun o10 =>
  (qoT t o10).bind fun r11 =>
  (qkc r11 abs holes).bind fun r12 =>
  some r12
theorem qew {t:tType} {abs:(List tAbs)} {holes:(List tHole)} {r:tType} (h:qp1 t abs holes = some r):CC Pg GE 16 [.agg (qac t),sl qaK abs,sl qaz holes] (.agg (qac r)) [(2,33)]:=by
  obtain ⟨o10,bo10,h⟩:=bnd h
  obtain ⟨r11,br11,h⟩:=bnd h
  obtain ⟨r12,br12,h⟩:=bnd h
  obtain rfl:=lf h
  have z:=se (qbX t) <| se (pcL qaK abs) <| se (pcL qaz holes) <| sx pz33 <| sv (qbb sc24 (sl qaK abs) []) <| svn (sT24.ln abs) <| spc (qpW t abs holes ([]:List Str) (abs.length:Int) 0 ([]:List tType) ([]:List tPred) bo10) <| sv (qaZ t) <| sca (qrh br11) <| sca (qnG br12) <| sy (qaB r12) <| en (aI (qc8 r12) <| aI (qag r12) <| rT)
  exact C.evp (A:=A16) mixed Tryz.call16 Tryz.func16 (c:=b16) rfl (aI (qag t) (aI (qad qcr abs) (aI (qad qbM holes) trivial))) z (by kernel_rfl)
abbrev qdl:=(tType→tType→Option (Bool))
abbrev qjo (R:qdl):Prop := ∀ (a:tType) (a2:tType) (r:Bool),R a a2 = some r→CC Pg GE 15 [.agg (qac a),.agg (qac a2)] (.bool r) []
noncomputable def b47:Code:=Tryz.f47.body.getD .skip
def A47:List Nat:=[15]
noncomputable def qhn (v:(List Str)) (v2:(List Str)) (t12:Int) (t13:Int):PSt:=stt 26 [(0,sl cS v),(1,sl cS v2),(12,.int .i64 t12),(13,.int .i64 t13)] [] []
noncomputable def qhk (o:(Unit)⊕(Unit)):Exit:=match o with
  | (.inl _) => .ret
  | (.inr _) => .exit 0
noncomputable def qfr (v:(List Str)) (v2:(List Str)) (t12:Int) (o:(Unit)⊕(Unit)):PSt:=match o with
  | (.inl o) => stt 26 [(4,.bool false)] [] []
  | (.inr o) => stt 26 [] [] []
noncomputable def ql6 (v:(List Str)) (v2:(List Str)) (t12:Int) (t13:Int):Option ((Int)⊕((Unit)⊕(Unit))) :=
  if (decide (t13 < t12)) = true then
    (idx v t13).bind fun x3 =>
    (idx v2 t13).bind fun x4 =>
    if (!(x3 == x4)) = true then
      some (.inr (.inl ()))
    else
      some (.inl (w64 (t13 + 1)))
  else
    some (.inr (.inr ()))
noncomputable def qpS (v:(List Str)) (v2:(List Str)) (t12:Int) (t13:Int):Option ((Unit)⊕(Unit)):=loop (fun (zz:Int) => ql6 v v2 t12 zz) t13
theorem qtu (v:(List Str)) (v2:(List Str)) (t12:Int) (t13:Int) {y:(Int)⊕((Unit)⊕(Unit))} (h:ql6 v v2 t12 t13 = some y) :
    Sat Pg GE 0 (cA b47 119) (LQ (fun (zz:Int) => qhn v v2 t12 zz) qhk (qfr v v2 t12) y) (qhn v v2 t12 t13):=by
  rcases ifs h with ⟨c2,h⟩ | ⟨c2,h⟩
  · obtain ⟨x3,bx3,h⟩:=bnd h
    obtain ⟨x4,bx4,h⟩:=bnd h
    rcases ifs h with ⟨c5,h⟩ | ⟨c5,h⟩
    · obtain rfl:=lf h
      have z:=sg 0 c2 <| sdr [0,0,3,7,0,0,48,112,255] <| sv (sT22.ia (k := .i64) bx3) <| sv (qbb sc9 (.str x3) []) <| sv (sT22.ia (k := .i64) bx4) <| sv (qbb sc9 (.str x4) []) <| sg 0 c5 <| eF (qhk (.inl ())) (qfr v v2 t12 (.inl ()))
      exact qbE (A:=A47) mixed (by intro hx; cases hx) z (by kernel_rfl)
    · obtain rfl:=lf h
      have z:=sg 0 c2 <| sdr [0,0,3,7,0,0,48,112,255] <| sv (sT22.ia (k := .i64) bx3) <| sv (qbb sc9 (.str x3) []) <| sv (sT22.ia (k := .i64) bx4) <| sv (qbb sc9 (.str x4) []) <| sg 0 c5 <| eF .normal (qhn v v2 t12 (w64 (t13 + 1)))
      exact qjk (A:=A47) mixed z (by kernel_rfl)
  · obtain rfl:=lf h
    have z:=sg 0 c2 <| eF (qhk (.inr ())) (qfr v v2 t12 (.inr ()))
    exact qbE (A:=A47) mixed (by intro hx; cases hx) z (by kernel_rfl)
theorem qoP (v:(List Str)) (v2:(List Str)) (t12:Int) (t13:Int) {x:(Unit)⊕(Unit)} (h:qpS v v2 t12 t13 = some x) :
    Sat Pg GE 0 (.loop (cA b47 119)) (EX (qhk x) (qfr v v2 t12 x)) (qhn v v2 t12 t13) :=
  Sat.loop (S:=fun (zz:Int) => qhn v v2 t12 zz) (ex:=qhk) (s:=t13) h fun zz y hy => qtu v v2 t12 zz hy
noncomputable def qsy (a:(List Str)) (a2:(List Str)):Option (Bool) :=
  if ((a.length:Int) != (a2.length:Int)) = true then
    some false
  else
    (qpS a a2 (a.length:Int) 0).bind fun o6 => match o6 with
    | (.inl o6) =>
      some false
    | (.inr o6) =>
      some true
theorem qsW {a:(List Str)} {a2:(List Str)} {r:Bool} (h:qsy a a2 = some r):CC Pg GE 47 [sl cS a,sl cS a2] (.bool r) []:=by
  rcases ifs h with ⟨c1,h⟩ | ⟨c1,h⟩
  · obtain rfl:=lf h
    have z:=svn (sT22.ln a) <| svn (sT22.ln a2) <| sg 0 c1 <| en (aI (rP (.bool false)) <| trivial)
    exact C.evp (A:=A47) mixed Tryz.call47 Tryz.func47 (c:=b47) rfl (aI (qad clS a) (aI (qad clS a2) trivial)) z (by kernel_rfl)
  · obtain ⟨o6,bo6,h⟩:=bnd h
    rcases o6 with o6 | o6
    · obtain rfl:=lf h
      have z:=svn (sT22.ln a) <| svn (sT22.ln a2) <| sg 0 c1 <| svn (sT22.ln a) <| spc (e := .ret) (s1:=qfr a a2 (a.length:Int) (.inl o6)) (qoP a a2 (a.length:Int) 0 bo6) <| en (aI (rP (.bool false)) <| trivial)
      exact C.evp (A:=A47) mixed Tryz.call47 Tryz.func47 (c:=b47) rfl (aI (qad clS a) (aI (qad clS a2) trivial)) z (by kernel_rfl)
    · obtain rfl:=lf h
      have z:=svn (sT22.ln a) <| svn (sT22.ln a2) <| sg 0 c1 <| svn (sT22.ln a) <| spc (e := .exit 0) (s1:=qfr a a2 (a.length:Int) (.inr o6)) (qoP a a2 (a.length:Int) 0 bo6) <| en (aI (rP (.bool true)) <| trivial)
      exact C.evp (A:=A47) mixed Tryz.call47 Tryz.func47 (c:=b47) rfl (aI (qad clS a) (aI (qad clS a2) trivial)) z (by kernel_rfl)
noncomputable def b84:Code:=Tryz.f84.body.getD .skip
def A84:List Nat:=[]
noncomputable def qn8:Option (tPred) :=
  some (⟨2,([]:Str),1,([]:List tPred)⟩:tPred)
theorem qpd {r:tPred} (h:qn8 = some r):CC Pg GE 84 [] (.agg (qaa r)) [(3,31)]:=by
  obtain rfl:=lf h
  have z:=sx pz31 <| sb (qnp 2 1) (qnW 2 1) <| sy (qam (⟨2,([]:Str),1,([]:List tPred)⟩:tPred)) <| en (aI (qa4 (⟨2,([]:Str),1,([]:List tPred)⟩:tPred)) <| aI (qab (⟨2,([]:Str),1,([]:List tPred)⟩:tPred)) <| rT)
  exact C.evp (A:=A84) mixed Tryz.call84 Tryz.func84 (c:=b84) rfl trivial z (by kernel_rfl)
abbrev qfy:=(tPred→tPred→Option (Bool))
abbrev qoh (R:qfy):Prop := ∀ (a:tPred) (a2:tPred) (r:Bool),R a a2 = some r→CC Pg GE 18 [.agg (qaa a),.agg (qaa a2)] (.bool r) []
noncomputable def b18:Code:=Tryz.f18.body.getD .skip
def A18:List Nat:=[39]
noncomputable def qvt (v:tPred) (v2:tPred):PSt:=stt 53 [(2,.eptr (qaa v)),(3,.eptr (qaa v2))] [.dead,.dead] []
noncomputable def qg7 (v:tPred) (v2:tPred) (o:Bool):PSt:=stt 53 [(2,.eptr (qaa v)),(3,.eptr (qaa v2)),(33,.bool o)] [.dead,.dead] []
noncomputable def qpU (R70:qfy) (v:tPred) (v2:tPred):Option ((Bool)) :=
  if (v.Op != v2.Op) = true then
    some true
  else
    if (!(v.Name == v2.Name)) = true then
      some true
    else
      if (v.N != v2.N) = true then
        some true
      else
        some ((v.Kids.length:Int) != (v2.Kids.length:Int))
theorem qkR (R70:qfy) (hR70:qoh R70) (v:tPred) (v2:tPred) {x:(Bool)} (h:qpU R70 v v2 = some x) :
    Sat Pg GE 0 (cA b18 12) (EX .normal (qg7 v v2 x)) (qvt v v2):=by
  rcases ifs h with ⟨c1,h⟩ | ⟨c1,h⟩
  · obtain rfl:=lf h
    have z:=sv (qal v) <| sv (qak v) <| sv (qal v2) <| sv (qak v2) <| sg 6 c1 <| eF .normal (qg7 v v2 true)
    exact qaR (A:=A18) mixed z (by kernel_rfl)
  · rcases ifs h with ⟨c2,h⟩ | ⟨c2,h⟩
    · obtain rfl:=lf h
      have z:=sv (qal v) <| sv (qak v) <| sv (qal v2) <| sv (qak v2) <| sg 6 c1 <| sv (qao v) <| sv (qax v) <| sv (qao v2) <| sv (qax v2) <| sg 13 c2 <| eF .normal (qg7 v v2 true)
      exact qaR (A:=A18) mixed z (by kernel_rfl)
    · rcases ifs h with ⟨c3,h⟩ | ⟨c3,h⟩
      · obtain rfl:=lf h
        have z:=sv (qal v) <| sv (qak v) <| sv (qal v2) <| sv (qak v2) <| sg 6 c1 <| sv (qao v) <| sv (qax v) <| sv (qao v2) <| sv (qax v2) <| sg 13 c2 <| sv (qaW v) <| sv (qbd v) <| sv (qaW v2) <| sv (qbd v2) <| sg 20 c3 <| eF .normal (qg7 v v2 true)
        exact qaR (A:=A18) mixed z (by kernel_rfl)
      · obtain rfl:=lf h
        have z:=sv (qal v) <| sv (qak v) <| sv (qal v2) <| sv (qak v2) <| sg 6 c1 <| sv (qao v) <| sv (qax v) <| sv (qao v2) <| sv (qax v2) <| sg 13 c2 <| sv (qaW v) <| sv (qbd v) <| sv (qaW v2) <| sv (qbd v2) <| sg 20 c3 <| sv (qas v) <| sv (qar v) <| svn (sT29.ln v.Kids) <| sv (qas v2) <| sv (qar v2) <| svn (sT29.ln v2.Kids) <| eF .normal (qg7 v v2 ((v.Kids.length:Int) != (v2.Kids.length:Int)))
        exact qaR (A:=A18) mixed z (by kernel_rfl)
noncomputable def qgS (v:tPred) (v2:tPred) (t36:Int) (t37:Int):PSt:=stt 53 [(2,.eptr (qaa v)),(3,.eptr (qaa v2)),(36,.int .i64 t36),(37,.int .i64 t37)] [.dead,.dead] []
noncomputable def qgP (o:(Unit)⊕(Unit)):Exit:=match o with
  | (.inl _) => .ret
  | (.inr _) => .exit 0
noncomputable def qfu (v:tPred) (v2:tPred) (t36:Int) (o:(Unit)⊕(Unit)):PSt:=match o with
  | (.inl o) => stt 53 [(4,.bool false)] [.dead,.dead] []
  | (.inr o) => stt 53 [] [.dead,.dead] []
noncomputable def qjn (R70:qfy) (v:tPred) (v2:tPred) (t36:Int) (t37:Int):Option ((Int)⊕((Unit)⊕(Unit))) :=
  if (decide (t37 < t36)) = true then
    (idx v.Kids t37).bind fun x7 =>
    (idx v2.Kids t37).bind fun x8 =>
    (R70 x7 x8).bind fun r9 =>
    if (!r9) = true then
      some (.inr (.inl ()))
    else
      some (.inl (w64 (t37 + 1)))
  else
    some (.inr (.inr ()))
noncomputable def qpY (R70:qfy) (v:tPred) (v2:tPred) (t36:Int) (t37:Int):Option ((Unit)⊕(Unit)):=loop (fun (zz:Int) => qjn R70 v v2 t36 zz) t37
theorem qsN (R70:qfy) (hR70:qoh R70) (v:tPred) (v2:tPred) (t36:Int) (t37:Int) {y:(Int)⊕((Unit)⊕(Unit))} (h:qjn R70 v v2 t36 t37 = some y) :
    Sat Pg GE 0 (cA b18 119) (LQ (fun (zz:Int) => qgS v v2 t36 zz) qgP (qfu v v2 t36) y) (qgS v v2 t36 t37):=by
  rcases ifs h with ⟨c6,h⟩ | ⟨c6,h⟩
  · obtain ⟨x7,bx7,h⟩:=bnd h
    obtain ⟨x8,bx8,h⟩:=bnd h
    obtain ⟨r9,br9,h⟩:=bnd h
    rcases ifs h with ⟨c10,h⟩ | ⟨c10,h⟩
    · obtain rfl:=lf h
      have z:=sg 0 c6 <| sdr [0,1,0,7,15,0,32,0,224,480,1023,2047] <| sv (qas v) <| sv (qar v) <| sv (sT29.ia (k := .i64) bx7) <| sv (qaj x7) <| sv (qas v2) <| sv (qar v2) <| sv (sT29.ia (k := .i64) bx8) <| sv (qaj x8) <| sca (hR70 _ _ _ br9) <| sg 0 c10 <| eF (qgP (.inl ())) (qfu v v2 t36 (.inl ()))
      exact qbE (A:=A18) mixed (by intro hx; cases hx) z (by kernel_rfl)
    · obtain rfl:=lf h
      have z:=sg 0 c6 <| sdr [0,1,0,7,15,0,32,0,224,480,1023,2047] <| sv (qas v) <| sv (qar v) <| sv (sT29.ia (k := .i64) bx7) <| sv (qaj x7) <| sv (qas v2) <| sv (qar v2) <| sv (sT29.ia (k := .i64) bx8) <| sv (qaj x8) <| sca (hR70 _ _ _ br9) <| sg 0 c10 <| eF .normal (qgS v v2 t36 (w64 (t37 + 1)))
      exact qjk (A:=A18) mixed z (by kernel_rfl)
  · obtain rfl:=lf h
    have z:=sg 0 c6 <| eF (qgP (.inr ())) (qfu v v2 t36 (.inr ()))
    exact qbE (A:=A18) mixed (by intro hx; cases hx) z (by kernel_rfl)
theorem qo0 (R70:qfy) (hR70:qoh R70) (v:tPred) (v2:tPred) (t36:Int) (t37:Int) {x:(Unit)⊕(Unit)} (h:qpY R70 v v2 t36 t37 = some x) :
    Sat Pg GE 0 (.loop (cA b18 119)) (EX (qgP x) (qfu v v2 t36 x)) (qgS v v2 t36 t37) :=
  Sat.loop (S:=fun (zz:Int) => qgS v v2 t36 zz) (ex:=qgP) (s:=t37) h fun zz y hy => qsN R70 hR70 v v2 t36 zz hy
noncomputable def qoc (R70:qfy) (a:tPred) (a2:tPred):Option (Bool) :=
  (qpU R70 a a2).bind fun o4 =>
  if o4 = true then
    some false
  else
    (qpY R70 a a2 (a.Kids.length:Int) 0).bind fun o11 => match o11 with
    | (.inl o11) =>
      some false
    | (.inr o11) =>
      some true
theorem qvT (R70:qfy) (hR70:qoh R70) {a:tPred} {a2:tPred} {r:Bool} (h:qoc R70 a a2 = some r):CC Pg GE 18 [.agg (qaa a),.agg (qaa a2)] (.bool r) []:=by
  obtain ⟨o4,bo4,h⟩:=bnd h
  rcases ifs h with ⟨c5,h⟩ | ⟨c5,h⟩
  · obtain rfl:=lf h
    have z:=se (qat a) <| se (qat a2) <| spa 1 <| spc (qkR R70 hR70 a a2 bo4) <| sg 0 c5 <| en (aI (rP (.bool false)) <| trivial)
    exact C.evp (A:=A18) mixed Tryz.call18 Tryz.func18 (c:=b18) rfl (aI (qab a) (aI (qab a2) trivial)) z (by kernel_rfl)
  · obtain ⟨o11,bo11,h⟩:=bnd h
    rcases o11 with o11 | o11
    · obtain rfl:=lf h
      have z:=se (qat a) <| se (qat a2) <| spa 1 <| spc (qkR R70 hR70 a a2 bo4) <| sg 0 c5 <| sv (qas a) <| sv (qar a) <| svn (sT29.ln a.Kids) <| spc (e := .ret) (s1:=qfu a a2 (a.Kids.length:Int) (.inl o11)) (qo0 R70 hR70 a a2 (a.Kids.length:Int) 0 bo11) <| en (aI (rP (.bool false)) <| trivial)
      exact C.evp (A:=A18) mixed Tryz.call18 Tryz.func18 (c:=b18) rfl (aI (qab a) (aI (qab a2) trivial)) z (by kernel_rfl)
    · obtain rfl:=lf h
      have z:=se (qat a) <| se (qat a2) <| spa 1 <| spc (qkR R70 hR70 a a2 bo4) <| sg 0 c5 <| sv (qas a) <| sv (qar a) <| svn (sT29.ln a.Kids) <| spc (e := .exit 0) (s1:=qfu a a2 (a.Kids.length:Int) (.inr o11)) (qo0 R70 hR70 a a2 (a.Kids.length:Int) 0 bo11) <| en (aI (rP (.bool true)) <| trivial)
      exact C.evp (A:=A18) mixed Tryz.call18 Tryz.func18 (c:=b18) rfl (aI (qab a) (aI (qab a2) trivial)) z (by kernel_rfl)
noncomputable def qre:((tPred×tPred)→Option (Bool))→(tPred×tPred)→Option (Bool):=fun (rec:(tPred×tPred)→Option (Bool)) (x:tPred×tPred) => qoc (fun a a2 => rec (a,a2)) x.1 x.2
noncomputable def qjh (a:tPred) (a2:tPred):Option (Bool):=fixE (qre) (a,a2)
theorem qec {a:tPred} {a2:tPred} {r:Bool} (h:qjh a a2 = some r):CC Pg GE 18 [.agg (qaa a),.agg (qaa a2)] (.bool r) [] :=
  qcs (F:=qre) (M:=fun (x:tPred×tPred) (r:Bool) => CC Pg GE 18 [.agg (qaa x.1),.agg (qaa x.2)] (.bool r) []) (fun rec hrec x r h => qvT _ (fun a a2 r h => hrec (a,a2) r h) h) h
end Go.Proofs.YtgldgpdhblndkaaGreatDoor
