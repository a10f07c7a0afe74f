/- WHAT IS PROVED: parts of the proof, put together by a program (G9). Conditions: none. -/
import Derived.Test.YtgldgpdhblndkaaGreatDoorPkE36
noncomputable section
namespace Go.Proofs.YtgldgpdhblndkaaGreatDoor
open Go
set_option linter.unusedVariables false
set_option maxRecDepth 100000
noncomputable def b31:Code:=Tryz.f31.body.getD .skip
def A31:List Nat:=[24]
def qyz (p:tPred):PSt:=stt 25 [(1,.eptr (qaa p)),(3,sl cS ([]:List Str))] [.dead] [((3,0),9)]
def qme (p:tPred) (o:waB):PSt:=stt 25 [(1,.eptr (qaa p)),(3,sl cS o)] [.dead] [((3,0),9)]
def qqk (R100:qfH) (p:tPred):Option ((waB)) :=
 if (p.Op == 3) = true then
  some ([p.Name]:List Str)
 else
  some ([]:List Str)
theorem qwU (R100:qfH) (hR100:qoU R100) (p:tPred) {x:(waB)} (h:qqk R100 p = some x) :
  Sat Pg GE 0 (cA b31 14) (EX .normal (qme p x)) (qyz p):=by
 have p2:=fun {sc F} (r:PS sc F) => sv (qaZ p) <| sv (qa0 p) <| r
 rcases ifs h with ⟨c1,h⟩ | ⟨c1,h⟩
 ·obtain rfl:=lf h
  have z:=p2 <| sg 0 c1 <| sv (qa9 p) <| sv (qbm p) <| sv (sT22.mk' (v:=PVal.str) pcS ([p.Name]:List Str) 1 (by kernel_rfl)) <| eF .normal (qme p ([p.Name]:List Str))
  exact pcZ A31 z (by kernel_rfl)
 ·obtain rfl:=lf h
  have z:=p2 <| sg 0 c1 <| eF .normal (qme p ([]:List Str))
  exact pcZ A31 z (by kernel_rfl)
def qgY (out:waB) (t13:waA) (t14:Int) (t15:Int):PSt:=stt 25 [(3,sl cS out),(13,sl qaa t13),(14,.int .i64 t14),(15,.int .i64 t15)] [.dead] [((3,0),9)]
def qmi (t13:waA) (t14:Int) (o:waB):PSt:=stt 25 [(3,sl cS o)] [.dead] [((3,0),9)]
def qrM (R100:qfH) (t13:waA) (t14:Int) (out:waB) (t15:Int):Option ((waB×Int)⊕((waB))) :=
 if (decide (t15 < t14)) = true then
  (idx t13 t15).bind fun x5 =>
  (R100 x5).bind fun r6 =>
  (qci out r6).bind fun r7 =>
  some (.inl (r7,w64 (t15 + 1)))
 else
  some (.inr out)
def qqW (R100:qfH) (t13:waA) (t14:Int) (out:waB) (t15:Int):Option ((waB)):=loop (fun (zz:waB×Int) => qrM R100 t13 t14 zz.1 zz.2) (out,t15)
theorem qwb (R100:qfH) (hR100:qoU R100) (out:waB) (t13:waA) (t14:Int) (t15:Int) {y:(waB×Int)⊕((waB))} (h:qrM R100 t13 t14 out t15 = some y) :
  Sat Pg GE 0 (cA b31 247) (LQ (fun (zz:waB×Int) => qgY zz.1 t13 t14 zz.2) (fun _ => .exit 0) (qmi t13 t14) y) (qgY out t13 t14 t15):=by
 rcases ifs h with ⟨c4,h⟩ | ⟨c4,h⟩
 ·obtain ⟨x5,bx5,h⟩:=bnd h
  obtain ⟨r6,br6,h⟩:=bnd h
  obtain ⟨r7,br7,h⟩:=bnd h
  obtain rfl:=lf h
  have z:=sg 0 c4 <| sv (sT29.ia (k := .i64) bx5) <| sv (qaj x5) <| sx pz31 <| sx (qaw x5) <| sv (qar x5 []) <| sca (hR100 _ _ br6) <| sca (qdb br7) <| eFx 0 .normal (qgY r7 t13 t14 (w64 (t15 + 1))) rfl (qbP (aI (up (qad clS r7)) (aI (up (qad qab t13)) (aI trivial (aI trivial trivial))))) (aI trivial trivial)
  exact qbi (A:=A31) mixed z (by kernel_rfl)
 ·obtain rfl:=lf h
  have z:=sg 0 c4 <| eF (.exit 0) (qmi t13 t14 out)
  exact ovZ A31 (by intro hx; cases hx) z (by kernel_rfl)
theorem qwu (R100:qfH) (hR100:qoU R100) (out:waB) (t13:waA) (t14:Int) (t15:Int) {x:(waB)} (h:qqW R100 t13 t14 out t15 = some x) :
  Sat Pg GE 0 (.loop (cA b31 247)) (EX (.exit 0) (qmi t13 t14 x)) (qgY out t13 t14 t15) :=
 Sat.loop (S:=fun (zz:waB×Int) => qgY zz.1 t13 t14 zz.2) (ex:=(fun _ => .exit 0)) (s:=(out,t15)) h fun zz y hy => qwb R100 hR100 zz.1 t13 t14 zz.2 hy
def qo8 (R100:qfH) (p:tPred):Option (waB) :=
 (qqk R100 p).bind fun o3 =>
 (qqW R100 p.Kids (p.Kids.length:Int) o3 0).bind fun o8 =>
 some o8
theorem qAq (R100:qfH) (hR100:qoU R100) {p:tPred} {r:waB} (h:qo8 R100 p = some r):CC Pg GE 31 [.agg (qaa p)] (sl cS r) [(0,9)]:=by
 obtain ⟨o3,bo3,h⟩:=bnd h
 obtain ⟨o8,bo8,h⟩:=bnd h
 obtain rfl:=lf h
 have z:=se (qaL p) <| spa 1 <| spc (qwU R100 hR100 p bo3) <| sv (qax p) <| sv (qay p) <| svn (sT29.ln p.Kids) <| spc (qwu R100 hR100 o3 p.Kids (p.Kids.length:Int) 0 bo8) <| en (aI (rP (sl cS o8)) <| (qad clS o8))
 exact cvZ A31 Tryz.call31 Tryz.func31 (c:=b31) rfl (aI (qab p) trivial) z (by kernel_rfl)
def qsX:((tPred)→Option (waB))→(tPred)→Option (waB):=fun (rec:tPred→Option (waB)) (x:tPred) => qo8 (fun p => rec p) x
def qkZ (p:tPred):Option (waB):=fixE (qsX) p
theorem qqp {p:tPred} {r:waB} (h:qkZ p = some r):CC Pg GE 31 [.agg (qaa p)] (sl cS r) [(0,9)] :=
 qbX (F:=qsX) (M:=fun (x:tPred) (r:waB) => CC Pg GE 31 [.agg (qaa x)] (sl cS r) [(0,9)]) (fun rec hrec x r h => qAq _ (fun p r h => hrec p r h) h) h
noncomputable def b28:Code:=Tryz.f28.body.getD .skip
def A28:List Nat:=[10,17]
def qhD (v:waB) (s:Str) (t7:Int) (t8:Int):PSt:=stt 19 [(0,sl cS v),(1,.str s),(7,.int .i64 t7),(8,.int .i64 t8)] [] []
def qhO (o:(Int)⊕(Unit)):Exit:=match o with
 | (.inl _) => .ret
 | (.inr _) => .exit 0
def qfF (v:waB) (s:Str) (t7:Int) (o:(Int)⊕(Unit)):PSt:=match o with
 | (.inl o) => stt 19 [(4,.int .i64 o)] [] []
 | (.inr o) => stt 19 [] [] []
def qcz (v:waB) (s:Str) (t7:Int) (t8:Int):Option ((Int)⊕((Int)⊕(Unit))) :=
 if (decide (t8 < t7)) = true then
  (idx v t8).bind fun x2 =>
  if (x2 == s) = true then
   some (.inr (.inl t8))
  else
   some (.inl (w64 (t8 + 1)))
 else
  some (.inr (.inr ()))
def qml (v:waB) (s:Str) (t7:Int) (t8:Int):Option ((Int)⊕(Unit)):=loop (fun (zz:Int) => qcz v s t7 zz) t8
theorem qvS (v:waB) (s:Str) (t7:Int) (t8:Int) {y:(Int)⊕((Int)⊕(Unit))} (h:qcz v s t7 t8 = some y) :
  Sat Pg GE 0 (cA b28 55) (LQ (fun (zz:Int) => qhD v s t7 zz) qhO (qfF v s t7) y) (qhD v s t7 t8):=by
 rcases ifs h with ⟨c1,h⟩ | ⟨c1,h⟩
 ·obtain ⟨x2,bx2,h⟩:=bnd h
  have p4:=fun {sc F} (r:PS sc F) => sg 0 c1 <| sv (sT22.ia (k := .i64) bx2) <| sv (qaR sc9 (.str x2) []) <| r
  rcases ifs h with ⟨c3,h⟩ | ⟨c3,h⟩
  ·obtain rfl:=lf h
   have z:=p4 <| sg 0 c3 <| eF (qhO (.inl t8)) (qfF v s t7 (.inl t8))
   exact ovZ A28 (by intro hx; cases hx) z (by kernel_rfl)
  ·obtain rfl:=lf h
   have z:=p4 <| sg 0 c3 <| eF .normal (qhD v s t7 (w64 (t8 + 1)))
   exact nxZ A28 z (by kernel_rfl)
 ·obtain rfl:=lf h
  have z:=sg 0 c1 <| eF (qhO (.inr ())) (qfF v s t7 (.inr ()))
  exact ovZ A28 (by intro hx; cases hx) z (by kernel_rfl)
theorem qpR (v:waB) (s:Str) (t7:Int) (t8:Int) {x:(Int)⊕(Unit)} (h:qml v s t7 t8 = some x) :
  Sat Pg GE 0 (.loop (cA b28 55)) (EX (qhO x) (qfF v s t7 x)) (qhD v s t7 t8) :=
 Sat.loop (S:=fun (zz:Int) => qhD v s t7 zz) (ex:=qhO) (s:=t8) h fun zz y hy => qvS v s t7 zz hy
def qep (a:waB) (s:Str):Option (Int) :=
 (qml a s (a.length:Int) 0).bind fun o5 => match o5 with
 | (.inl o5) =>
  some o5
 | (.inr o5) =>
  some (-1)
theorem qfr {a:waB} {s:Str} {r:Int} (h:qep a s = some r):CC Pg GE 28 [sl cS a,.str s] (.int .i64 r) []:=by
 obtain ⟨o5,bo5,h⟩:=bnd h
 rcases o5 with o5 | o5
 ·obtain rfl:=lf h
  have z:=svn (sT22.ln a) <| spc (e := .ret) (s1:=qfF a s (a.length:Int) (.inl o5)) (qpR a s (a.length:Int) 0 bo5) <| en (aI (rP (.int .i64 o5)) <| trivial)
  exact cvZ A28 Tryz.call28 Tryz.func28 (c:=b28) rfl (aI (qad clS a) (aI trivial trivial)) z (by kernel_rfl)
 ·obtain rfl:=lf h
  have z:=svn (sT22.ln a) <| spc (e := .exit 0) (s1:=qfF a s (a.length:Int) (.inr o5)) (qpR a s (a.length:Int) 0 bo5) <| en (aI (rP (.int .i64 (-1))) <| trivial)
  exact cvZ A28 Tryz.call28 Tryz.func28 (c:=b28) rfl (aI (qad clS a) (aI trivial trivial)) z (by kernel_rfl)
noncomputable def b140:Code:=Tryz.f140.body.getD .skip
def A140:List Nat:=[18,23]
def qdv (names:waB) (out:waB) (t8:waB) (t9:Int) (t10:Int):PSt:=stt 24 [(1,sl cS names),(5,sl cS out),(8,sl cS t8),(9,.int .i64 t9),(10,.int .i64 t10)] [] [((5,0),9)]
def qjp (names:waB) (t8:waB) (t9:Int) (o:waB):PSt:=stt 24 [(5,sl cS o)] [] [((5,0),9)]
def qno (names:waB) (t8:waB) (t9:Int) (out:waB) (t10:Int):Option ((waB×Int)⊕((waB))) :=
 if (decide (t10 < t9)) = true then
  (idx t8 t10).bind fun x2 =>
  (qep names x2).bind fun r3 =>
  if (decide (r3 < 0)) = true then
   (app out ([x2]:List Str)).bind fun l6 =>
   some (.inl (l6,w64 (t10 + 1)))
  else
   some (.inl (out,w64 (t10 + 1)))
 else
  some (.inr out)
def qlj (names:waB) (t8:waB) (t9:Int) (out:waB) (t10:Int):Option ((waB)):=loop (fun (zz:waB×Int) => qno names t8 t9 zz.1 zz.2) (out,t10)
theorem qsi (names:waB) (out:waB) (t8:waB) (t9:Int) (t10:Int) {y:(waB×Int)⊕((waB))} (h:qno names t8 t9 out t10 = some y) :
  Sat Pg GE 0 (cA b140 119) (LQ (fun (zz:waB×Int) => qdv names zz.1 t8 t9 zz.2) (fun _ => .exit 0) (qjp names t8 t9) y) (qdv names out t8 t9 t10):=by
 rcases ifs h with ⟨c1,h⟩ | ⟨c1,h⟩
 ·obtain ⟨x2,bx2,h⟩:=bnd h
  obtain ⟨r3,br3,h⟩:=bnd h
  have p5:=fun {sc F} (r:PS sc F) => sg 0 c1 <| sv (sT22.ia (k := .i64) bx2) <| sv (qaR sc9 (.str x2) []) <| sca (qfr br3) <| r
  rcases ifs h with ⟨c4,h⟩ | ⟨c4,h⟩
  ·obtain ⟨l6,bl6,h⟩:=bnd h
   obtain rfl:=lf h
   have z:=p5 <| sg 0 c4 <| sv (sT22.mk' (v:=PVal.str) pcS ([x2]:List Str) 1 (by kernel_rfl)) <| sv (sT22.ap bl6) <| eF .normal (qdv names l6 t8 t9 (w64 (t10 + 1)))
   exact nxZ A140 z (by kernel_rfl)
  ·obtain rfl:=lf h
   have z:=p5 <| sg 0 c4 <| eF .normal (qdv names out t8 t9 (w64 (t10 + 1)))
   exact nxZ A140 z (by kernel_rfl)
 ·obtain rfl:=lf h
  have z:=sg 0 c1 <| eF (.exit 0) (qjp names t8 t9 out)
  exact ovZ A140 (by intro hx; cases hx) z (by kernel_rfl)
theorem qsV (names:waB) (out:waB) (t8:waB) (t9:Int) (t10:Int) {x:(waB)} (h:qlj names t8 t9 out t10 = some x) :
  Sat Pg GE 0 (.loop (cA b140 119)) (EX (.exit 0) (qjp names t8 t9 x)) (qdv names out t8 t9 t10) :=
 Sat.loop (S:=fun (zz:waB×Int) => qdv names zz.1 t8 t9 zz.2) (ex:=(fun _ => .exit 0)) (s:=(out,t10)) h fun zz y hy => qsi names zz.1 t8 t9 zz.2 hy
def qgJ (a:waB) (names:waB):Option (waB) :=
 (qlj names a (a.length:Int) ([]:List Str) 0).bind fun o7 =>
 some o7
theorem qp3 {a:waB} {names:waB} {r:waB} (h:qgJ a names = some r):CC Pg GE 140 [sl cS a,sl cS names] (sl cS r) [(0,9)]:=by
 obtain ⟨o7,bo7,h⟩:=bnd h
 obtain rfl:=lf h
 have z:=svn (sT22.ln a) <| spc (qsV names ([]:List Str) a (a.length:Int) 0 bo7) <| en (aI (rP (sl cS o7)) <| (qad clS o7))
 exact cvZ A140 Tryz.call140 Tryz.func140 (c:=b140) rfl (aI (qad clS a) (aI (qad clS names) trivial)) z (by kernel_rfl)
noncomputable def b124:Code:=Tryz.f124.body.getD .skip
def A124:List Nat:=[32,53]
def qhA (t:tType) (out:waB) (t14:waA) (t15:Int) (t16:Int):PSt:=stt 54 [(1,.eptr (qac t)),(3,sl cS out),(14,sl qaa t14),(15,.int .i64 t15),(16,.int .i64 t16)] [.dead] [((14,0),31),((3,0),9)]
def qmn (t:tType) (t14:waA) (t15:Int) (o:waB):PSt:=stt 54 [(1,.eptr (qac t)),(3,sl cS o)] [.dead] [((3,0),9)]
def qrn (R99:qdg) (t14:waA) (t15:Int) (out:waB) (t16:Int):Option ((waB×Int)⊕((waB))) :=
 if (decide (t16 < t15)) = true then
  (idx t14 t16).bind fun x3 =>
  (qkZ x3).bind fun r4 =>
  (qgJ r4 ([([118]:Str)]:List Str)).bind fun r5 =>
  (qci out r5).bind fun r6 =>
  some (.inl (r6,w64 (t16 + 1)))
 else
  some (.inr out)
def qqI (R99:qdg) (t14:waA) (t15:Int) (out:waB) (t16:Int):Option ((waB)):=loop (fun (zz:waB×Int) => qrn R99 t14 t15 zz.1 zz.2) (out,t16)
theorem qwn (R99:qdg) (hR99:qjX R99) (t:tType) (out:waB) (t14:waA) (t15:Int) (t16:Int) {y:(waB×Int)⊕((waB))} (h:qrn R99 t14 t15 out t16 = some y) :
  Sat Pg GE 0 (cA b124 119) (LQ (fun (zz:waB×Int) => qhA t zz.1 t14 t15 zz.2) (fun _ => .exit 0) (qmn t t14 t15) y) (qhA t out t14 t15 t16):=by
 rcases ifs h with ⟨c2,h⟩ | ⟨c2,h⟩
 ·obtain ⟨x3,bx3,h⟩:=bnd h
  obtain ⟨r4,br4,h⟩:=bnd h
  obtain ⟨r5,br5,h⟩:=bnd h
  obtain ⟨r6,br6,h⟩:=bnd h
  obtain rfl:=lf h
  have z:=sg 0 c2 <| sv (sT29.ia (k := .i64) bx3) <| sv (qaj x3) <| sx pz31 <| sx (qaw x3) <| sv (qar x3 []) <| sca (qqp br4) <| sv (sT22.mk' (v:=PVal.str) pcS ([([118]:Str)]:List Str) 1 (by kernel_rfl)) <| sca (qp3 br5) <| sca (qdb br6) <| eFx 0 .normal (qhA t r6 t14 t15 (w64 (t16 + 1))) rfl (qbP (aI (qbO (qaf t)) (aI (up (qad clS r6)) (aI (up (qad qab t14)) (aI trivial (aI trivial trivial)))))) (aI trivial trivial)
  exact qbi (A:=A124) mixed z (by kernel_rfl)
 ·obtain rfl:=lf h
  have z:=sg 0 c2 <| eF (.exit 0) (qmn t t14 t15 out)
  exact ovZ A124 (by intro hx; cases hx) z (by kernel_rfl)
theorem qw3 (R99:qdg) (hR99:qjX R99) (t:tType) (out:waB) (t14:waA) (t15:Int) (t16:Int) {x:(waB)} (h:qqI R99 t14 t15 out t16 = some x) :
  Sat Pg GE 0 (.loop (cA b124 119)) (EX (.exit 0) (qmn t t14 t15 x)) (qhA t out t14 t15 t16) :=
 Sat.loop (S:=fun (zz:waB×Int) => qhA t zz.1 t14 t15 zz.2) (ex:=(fun _ => .exit 0)) (s:=(out,t16)) h fun zz y hy => qwn R99 hR99 t zz.1 t14 t15 zz.2 hy
def qhL (t:tType) (out:waB) (t28:waC) (t29:Int) (t30:Int):PSt:=stt 54 [(1,.eptr (qac t)),(3,sl cS out),(28,sl qac t28),(29,.int .i64 t29),(30,.int .i64 t30)] [.dead] [((3,0),9)]
def qnd (t:tType) (t28:waC) (t29:Int) (o:waB):PSt:=stt 54 [(3,sl cS o)] [.dead] [((3,0),9)]
def qyA (t:tType) (out:waB) (bound:waB) (t28:waC) (t29:Int) (t30:Int) (m:Int) (m2:Str) (m3:waC) (m4:waB) (m5:Int) (m6:Str) (m7:Int) (m8:waA) (m9:waA):PSt:=stt 54 [(1,.eptr (qac t)),(3,sl cS out),(7,.bptr 1 0),(8,sl cS bound),(28,sl qac t28),(29,.int .i64 t29),(30,.int .i64 t30)] [.dead,.cells [.int .i64 m,.str m2,sl qac m3,sl cS m4,.int .i64 m5,.str m6,.int .i64 m7,sl qaa m8,sl qaa m9] []] [((3,0),9)]
def qmv (t:tType) (out:waB) (bound:waB) (t28:waC) (t29:Int) (t30:Int) (m:Int) (m2:Str) (m3:waC) (m4:waB) (m5:Int) (m6:Str) (m7:Int) (m8:waA) (m9:waA) (o:waB):PSt:=stt 54 [(1,.eptr (qac t)),(3,sl cS out),(7,.bptr 1 0),(8,sl cS o),(28,sl qac t28),(29,.int .i64 t29),(30,.int .i64 t30)] [.dead,.cells [.int .i64 m,.str m2,sl qac m3,sl cS m4,.int .i64 m5,.str m6,.int .i64 m7,sl qaa m8,sl qaa m9] []] [((3,0),9)]
def qj9 (R99:qdg) (t:tType) (bound:waB):Option ((waB)) :=
 if (t.Op != 6) = true then
  some ([]:List Str)
 else
  some bound
theorem qwA (R99:qdg) (hR99:qjX R99) (t:tType) (out:waB) (bound:waB) (t28:waC) (t29:Int) (t30:Int) (m:Int) (m2:Str) (m3:waC) (m4:waB) (m5:Int) (m6:Str) (m7:Int) (m8:waA) (m9:waA) {x:(waB)} (h:qj9 R99 t bound = some x) :
  Sat Pg GE 0 (cA b124 31726) (EX .normal (qmv t out bound t28 t29 t30 m m2 m3 m4 m5 m6 m7 m8 m9 x)) (qyA t out bound t28 t29 t30 m m2 m3 m4 m5 m6 m7 m8 m9):=by
 have p12:=fun {sc F} (r:PS sc F) => sv (qbv t) <| sv (qbw t) <| r
 rcases ifs h with ⟨c11,h⟩ | ⟨c11,h⟩
 ·obtain rfl:=lf h
  have z:=p12 <| sg 0 c11 <| eF .normal (qmv t out bound t28 t29 t30 m m2 m3 m4 m5 m6 m7 m8 m9 ([]:List Str))
  exact pcZ A124 z (by kernel_rfl)
 ·obtain rfl:=lf h
  have z:=p12 <| sg 0 c11 <| eF .normal (qmv t out bound t28 t29 t30 m m2 m3 m4 m5 m6 m7 m8 m9 bound)
  exact pcZ A124 z (by kernel_rfl)
def qq3 (R99:qdg) (t:tType) (t28:waC) (t29:Int) (out:waB) (t30:Int):Option ((waB×Int)⊕((waB))) :=
 if (decide (t30 < t29)) = true then
  (idx t28 t30).bind fun x9 =>
  (slc t.Names none (some (if (t.Names.length:Int) < t30 then (t.Names.length:Int) else t30))).bind fun l10 =>
  (qj9 R99 t l10).bind fun o13 =>
  (R99 x9).bind fun r14 =>
  (qgJ r14 o13).bind fun r15 =>
  (qci out r15).bind fun r16 =>
  some (.inl (r16,w64 (t30 + 1)))
 else
  some (.inr out)
def qqg (R99:qdg) (t:tType) (t28:waC) (t29:Int) (out:waB) (t30:Int):Option ((waB)):=loop (fun (zz:waB×Int) => qq3 R99 t t28 t29 zz.1 zz.2) (out,t30)
theorem qva (R99:qdg) (hR99:qjX R99) (t:tType) (out:waB) (t28:waC) (t29:Int) (t30:Int) {y:(waB×Int)⊕((waB))} (h:qq3 R99 t t28 t29 out t30 = some y) :
  Sat Pg GE 0 (cA b124 247) (LQ (fun (zz:waB×Int) => qhL t zz.1 t28 t29 zz.2) (fun _ => .exit 2) (qnd t t28 t29) y) (qhL t out t28 t29 t30):=by
 rcases ifs h with ⟨c8,h⟩ | ⟨c8,h⟩
 ·obtain ⟨x9,bx9,h⟩:=bnd h
  obtain ⟨l10,bl10,h⟩:=bnd h
  obtain ⟨o13,bo13,h⟩:=bnd h
  obtain ⟨r14,br14,h⟩:=bnd h
  obtain ⟨r15,br15,h⟩:=bnd h
  obtain ⟨r16,br16,h⟩:=bnd h
  obtain rfl:=lf h
  have z:=sg 0 c8 <| sv (sT27.ia (k := .i64) bx9) <| sv (qaW x9) <| sx pz33 <| sx (qbA x9) <| sv (qan t) <| sv (qao t) <| sv (qan t) <| sv (qao t) <| svn (sT22.ln t.Names) <| sv (sT22.sc bl10) <| spa 0 <| spc (qwA R99 hR99 t out l10 t28 t29 t30 x9.Op x9.Name x9.Args x9.Names x9.Pred.Op x9.Pred.Name x9.Pred.N x9.Pred.Kids x9.Preds bo13) <| sv (qbn x9 []) <| sca (hR99 _ _ br14) <| sca (qp3 br15) <| sca (qdb br16) <| eFx 0 .normal (qhL t r16 t28 t29 (w64 (t30 + 1))) rfl (qbP (aI (qbO (qaf t)) (aI (up (qad clS r16)) (aI (up (qad qaf t28)) (aI trivial (aI trivial trivial)))))) (aI trivial trivial)
  exact qbi (A:=A124) mixed z (by kernel_rfl)
 ·obtain rfl:=lf h
  have z:=sg 0 c8 <| eF (.exit 2) (qnd t t28 t29 out)
  exact ovZ A124 (by intro hx; cases hx) z (by kernel_rfl)
theorem qwH (R99:qdg) (hR99:qjX R99) (t:tType) (out:waB) (t28:waC) (t29:Int) (t30:Int) {x:(waB)} (h:qqg R99 t t28 t29 out t30 = some x) :
  Sat Pg GE 0 (.loop (cA b124 247)) (EX (.exit 2) (qnd t t28 t29 x)) (qhL t out t28 t29 t30) :=
 Sat.loop (S:=fun (zz:waB×Int) => qhL t zz.1 t28 t29 zz.2) (ex:=(fun _ => .exit 2)) (s:=(out,t30)) h fun zz y hy => qva R99 hR99 t zz.1 t28 t29 zz.2 hy
def qpg (R99:qdg) (t:tType):Option (waB) :=
 (app ([t.Pred]:List tPred) t.Preds).bind fun l1 =>
 (qqI R99 l1 (l1.length:Int) ([]:List Str) 0).bind fun o7 =>
 (qqg R99 t t.Args (t.Args.length:Int) o7 0).bind fun o17 =>
 some o17
theorem qzY (R99:qdg) (hR99:qjX R99) {t:tType} {r:waB} (h:qpg R99 t = some r):CC Pg GE 124 [.agg (qac t)] (sl cS r) [(0,9)]:=by
 obtain ⟨l1,bl1,h⟩:=bnd h
 obtain ⟨o7,bo7,h⟩:=bnd h
 obtain ⟨o17,bo17,h⟩:=bnd h
 obtain rfl:=lf h
 have z:=se (qbH t) <| sv (qbV t) <| sv (qbY t) <| sv (sT29.mk' (v:=qbq) qaE ([t.Pred]:List tPred) 1 (by kernel_rfl)) <| sv (qbp t) <| sv (qbo t) <| sv (sT29.ap bl1) <| svn (sT29.ln l1) <| spc (qw3 R99 hR99 t ([]:List Str) l1 (l1.length:Int) 0 bo7) <| sv (qaH t) <| sv (qaI t) <| svn (sT27.ln t.Args) <| spc (qwH R99 hR99 t o7 t.Args (t.Args.length:Int) 0 bo17) <| en (aI (rP (sl cS o17)) <| (qad clS o17))
 exact cvZ A124 Tryz.call124 Tryz.func124 (c:=b124) rfl (aI (qaf t) trivial) z (by kernel_rfl)
def qsW:((tType)→Option (waB))→(tType)→Option (waB):=fun (rec:tType→Option (waB)) (x:tType) => qpg (fun t => rec t) x
def quP (t:tType):Option (waB):=fixE (qsW) t
theorem qv2 {t:tType} {r:waB} (h:quP t = some r):CC Pg GE 124 [.agg (qac t)] (sl cS r) [(0,9)] :=
 qbX (F:=qsW) (M:=fun (x:tType) (r:waB) => CC Pg GE 124 [.agg (qac x)] (sl cS r) [(0,9)]) (fun rec hrec x r h => qzY _ (fun t r h => hrec t r h) h) h
noncomputable def b141:Code:=Tryz.f141.body.getD .skip
def A141:List Nat:=[8,30]
def qg2 (n:Int) (s:Str) (m:Int):PSt:=stt 31 [(0,.int .i64 n),(3,.str s),(4,.int .i64 m)] [] []
def qmF (n:Int) (o:Str):PSt:=stt 31 [(0,.int .i64 n),(3,.str o)] [] []
def qx8 (n:Int) (s:Str) (m:Int) (d:Int):PSt:=stt 31 [(0,.int .i64 n),(3,.str s),(4,.int .i64 m),(5,.int .i64 d)] [] []
def qmg (n:Int) (s:Str) (m:Int) (d:Int) (o:Int):PSt:=stt 31 [(0,.int .i64 n),(3,.str s),(4,.int .i64 m),(5,.int .i64 o)] [] []
def qmP (d:Int):Option ((Int)) :=
 if (decide (d < 0)) = true then
  some (IntKind.i64.wrap (0 - d))
 else
  some d
theorem qwW (n:Int) (s:Str) (m:Int) (d:Int) {x:(Int)} (h:qmP d = some x) :
  Sat Pg GE 0 (cA b141 7926) (EX .normal (qmg n s m d x)) (qx8 n s m d):=by
 rcases ifs h with ⟨c4,h⟩ | ⟨c4,h⟩
 ·obtain rfl:=lf h
  have z:=sg 0 c4 <| eF .normal (qmg n s m d (IntKind.i64.wrap (0 - d)))
  exact pcZ A141 z (by kernel_rfl)
 ·obtain rfl:=lf h
  have z:=sg 0 c4 <| eF .normal (qmg n s m d d)
  exact pcZ A141 z (by kernel_rfl)
def qg9 (s:Str) (m:Int):Option ((Str×Int)⊕((Str))) :=
 if (m != 0) = true then
  (re m 10).bind fun q3 =>
  (qmP q3).bind fun o5 =>
  (qmN ([IntKind.u8.wrap (w64 (48 + o5))]:List Int)).bind fun s6 =>
  (cat s6 s).bind fun s7 =>
  (qu .i64 m 10).bind fun q8 =>
  some (.inl (s7,q8))
 else
  some (.inr s)
def qiv (s:Str) (m:Int):Option ((Str)):=loop (fun (zz:Str×Int) => qg9 zz.1 zz.2) (s,m)
theorem qvZ (n:Int) (s:Str) (m:Int) {y:(Str×Int)⊕((Str))} (h:qg9 s m = some y) :
  Sat Pg GE 0 (cA b141 247) (LQ (fun (zz:Str×Int) => qg2 n zz.1 zz.2) (fun _ => .exit 0) (qmF n) y) (qg2 n s m):=by
 rcases ifs h with ⟨c2,h⟩ | ⟨c2,h⟩
 ·obtain ⟨q3,bq3,h⟩:=bnd h
  obtain ⟨o5,bo5,h⟩:=bnd h
  obtain ⟨s6,bs6,h⟩:=bnd h
  obtain ⟨s7,bs7,h⟩:=bnd h
  obtain ⟨q8,bq8,h⟩:=bnd h
  obtain rfl:=lf h
  have z:=sg 0 c2 <| sv (qIS (P:=Pg) (t:=3) (k := .i64) bq3) <| spa 0 <| spc (qwW n s m q3 bo5) <| sv (cvI Tryz.underlying3 Tryz.underlying5 (w64 (48 + o5))) <| sv (qIE.mk' (v:=(PVal.int .u8)) (pcI .u8) ([IntKind.u8.wrap (w64 (48 + o5))]:List Int) 1 (by kernel_rfl)) <| sv (cvB Tryz.underlying165 Tryz.underlying9 Tryz.underlying5 bs6) <| sv (qxj (P:=Pg) (t:=9) bs7) <| sv (qIW (P:=Pg) (t:=3) bq8) <| eF .normal (qg2 n s7 q8)
  exact nxZ A141 z (by kernel_rfl)
 ·obtain rfl:=lf h
  have z:=sg 0 c2 <| eF (.exit 0) (qmF n s)
  exact ovZ A141 (by intro hx; cases hx) z (by kernel_rfl)
theorem qwN (n:Int) (s:Str) (m:Int) {x:(Str)} (h:qiv s m = some x) :
  Sat Pg GE 0 (.loop (cA b141 247)) (EX (.exit 0) (qmF n x)) (qg2 n s m) :=
 Sat.loop (S:=fun (zz:Str×Int) => qg2 n zz.1 zz.2) (ex:=(fun _ => .exit 0)) (s:=(s,m)) h fun zz y hy => qvZ n zz.1 zz.2 hy
def quW (n:Int):Option (Str) :=
 if (n == 0) = true then
  some ([48]:Str)
 else
  (qiv ([]:Str) n).bind fun o9 =>
  if (decide (n < 0)) = true then
   (cat ([45]:Str) o9).bind fun s12 =>
   some s12
  else
   some o9
theorem qBi {n:Int} {r:Str} (h:quW n = some r):CC Pg GE 141 [.int .i64 n] (.str r) []:=by
 rcases ifs h with ⟨c1,h⟩ | ⟨c1,h⟩
 ·obtain rfl:=lf h
  have z:=sg 0 c1 <| en (aI (rP (.str ([48]:Str))) <| trivial)
  exact cvZ A141 Tryz.call141 Tryz.func141 (c:=b141) rfl (aI trivial trivial) z (by kernel_rfl)
 ·obtain ⟨o9,bo9,h⟩:=bnd h
  have p11:=fun {sc F} (r:PS sc F) => sg 0 c1 <| spc (qwN n ([]:Str) n bo9) <| r
  rcases ifs h with ⟨c10,h⟩ | ⟨c10,h⟩
  ·obtain ⟨s12,bs12,h⟩:=bnd h
   obtain rfl:=lf h
   have z:=p11 <| sg 0 c10 <| sv (qxj (P:=Pg) (t:=9) bs12) <| en (aI (rP (.str s12)) <| trivial)
   exact cvZ A141 Tryz.call141 Tryz.func141 (c:=b141) rfl (aI trivial trivial) z (by kernel_rfl)
  ·obtain rfl:=lf h
   have z:=p11 <| sg 0 c10 <| en (aI (rP (.str o9)) <| trivial)
   exact cvZ A141 Tryz.call141 Tryz.func141 (c:=b141) rfl (aI trivial trivial) z (by kernel_rfl)
noncomputable def b125:Code:=Tryz.f125.body.getD .skip
def A125:List Nat:=[7,18]
def qgc (used:waB) (base:Str) (s:Str) (n:Int):PSt:=stt 19 [(0,sl cS used),(1,.str base),(5,.str s),(6,.int .i64 n)] [] []
def qlr (used:waB) (base:Str) (o:Str):PSt:=stt 19 [(5,.str o)] [] []
def qbh (used:waB) (base:Str) (s:Str) (n:Int):Option ((Str×Int)⊕((Str))) :=
 (qep used s).bind fun r1 =>
 if (decide (r1 ≥ 0)) = true then
  (quW n).bind fun r3 =>
  (cat base r3).bind fun s4 =>
  some (.inl (s4,w64 (n + 1)))
 else
  some (.inr s)
def qfi (used:waB) (base:Str) (s:Str) (n:Int):Option ((Str)):=loop (fun (zz:Str×Int) => qbh used base zz.1 zz.2) (s,n)
theorem qus (used:waB) (base:Str) (s:Str) (n:Int) {y:(Str×Int)⊕((Str))} (h:qbh used base s n = some y) :
  Sat Pg GE 0 (cA b125 119) (LQ (fun (zz:Str×Int) => qgc used base zz.1 zz.2) (fun _ => .exit 0) (qlr used base) y) (qgc used base s n):=by
 obtain ⟨r1,br1,h⟩:=bnd h
 rcases ifs h with ⟨c2,h⟩ | ⟨c2,h⟩
 ·obtain ⟨r3,br3,h⟩:=bnd h
  obtain ⟨s4,bs4,h⟩:=bnd h
  obtain rfl:=lf h
  have z:=sca (qfr br1) <| sg 0 c2 <| sca (qBi br3) <| sv (qxj (P:=Pg) (t:=9) bs4) <| eF .normal (qgc used base s4 (w64 (n + 1)))
  exact nxZ A125 z (by kernel_rfl)
 ·obtain rfl:=lf h
  have z:=sca (qfr br1) <| sg 0 c2 <| eF (.exit 0) (qlr used base s)
  exact ovZ A125 (by intro hx; cases hx) z (by kernel_rfl)
theorem qvf (used:waB) (base:Str) (s:Str) (n:Int) {x:(Str)} (h:qfi used base s n = some x) :
  Sat Pg GE 0 (.loop (cA b125 119)) (EX (.exit 0) (qlr used base x)) (qgc used base s n) :=
 Sat.loop (S:=fun (zz:Str×Int) => qgc used base zz.1 zz.2) (ex:=(fun _ => .exit 0)) (s:=(s,n)) h fun zz y hy => qus used base zz.1 zz.2 hy
def qog (used:waB) (base:Str):Option (Str) :=
 (qfi used base base 1).bind fun o5 =>
 some o5
theorem qtM {used:waB} {base:Str} {r:Str} (h:qog used base = some r):CC Pg GE 125 [sl cS used,.str base] (.str r) []:=by
 obtain ⟨o5,bo5,h⟩:=bnd h
 obtain rfl:=lf h
 have z:=spc (qvf used base base 1 bo5) <| en (aI (rP (.str o5)) <| trivial)
 exact cvZ A125 Tryz.call125 Tryz.func125 (c:=b125) rfl (aI (qad clS used) (aI trivial trivial)) z (by kernel_rfl)
abbrev qbx:=(tType→liquidcheckref32_Change→Option (tType))
abbrev qfD (R:qbx):Prop := ∀ (t:tType) (c:liquidcheckref32_Change) (r:tType),R t c = some r→CC Pg GE 156 [.agg (qac t),.agg (qah c)] (.agg (qac r)) [(2,33),(8,31)]
abbrev qbD:=(tPred→waB→waA→Option (tPred))
abbrev qgb (R:qbD):Prop := ∀ (p:tPred) (names:waB) (a:waA) (r:tPred),R p names a = some r→CC Pg GE 134 [.agg (qaa p),sl cS names,sl qaa a] (.agg (qaa r)) []
noncomputable def b116:Code:=Tryz.f116.body.getD .skip
def A116:List Nat:=[]
def qBL (p:tPred) (kids:waA):Option (tPred) :=
 some (⟨p.Op,p.Name,p.N,kids⟩:tPred)
theorem qBe {p:tPred} {kids:waA} {r:tPred} (h:qBL p kids = some r):CC Pg GE 116 [.agg (qaa p),sl qaa kids] (.agg (qaa r)) []:=by
 obtain rfl:=lf h
 have z:=se (qaL p) <| sx pz31 <| sv (qaZ p) <| sv (qa0 p) <| sv (qa9 p) <| sv (qbm p) <| sv (qcx p) <| sv (qda p) <| sv (qup p.Op p.Name p.N kids) <| sx (qaw (⟨p.Op,p.Name,p.N,kids⟩:tPred)) <| en (aI (qaY (⟨p.Op,p.Name,p.N,kids⟩:tPred)) <| (qab (⟨p.Op,p.Name,p.N,kids⟩:tPred)))
 exact cvZ A116 Tryz.call116 Tryz.func116 (c:=b116) rfl (aI (qab p) (aI (qad qab kids) trivial)) z (by kernel_rfl)
noncomputable def b134:Code:=Tryz.f134.body.getD .skip
def A134:List Nat:=[37]
def qsJ (names:waB) (v:waA) (p:tPred) (m:waA):PSt:=stt 48 [(1,sl cS names),(2,sl qaa v),(3,.eptr (qaa p)),(6,.bptr 1 0)] [.dead,.cells [.int .i64 0,.str ([]:Str),.int .i64 0,sl qaa m] [(3,31)]] []
def qfI (o:(Int×Str×Int×waA)⊕(Unit)):Exit:=match o with
 | (.inl _) => .ret
 | (.inr _) => .normal
def qdd (names:waB) (v:waA) (p:tPred) (m:waA) (o:(Int×Str×Int×waA)⊕(Unit)):PSt:=match o with
 | (.inl o) => stt 48 [(6,.bptr 1 0)] [.dead,.cells [.int .i64 o.1,.str o.2.1,.int .i64 o.2.2.1,sl qaa o.2.2.2] []] []
 | (.inr o) => stt 48 [(1,sl cS names),(2,sl qaa v),(3,.eptr (qaa p)),(6,.bptr 1 0)] [.dead,.cells [.int .i64 0,.str ([]:Str),.int .i64 0,sl qaa m] [(3,31)]] []
def qsT (names:waB) (v:waA) (p:tPred) (i:Int) (m:waA):PSt:=stt 48 [(1,sl cS names),(2,sl qaa v),(3,.eptr (qaa p)),(6,.bptr 1 0),(7,.int .i64 i)] [.dead,.cells [.int .i64 0,.str ([]:Str),.int .i64 0,sl qaa m] [(3,31)]] []
def qiq (names:waB) (v:waA) (p:tPred) (i:Int) (m:waA) (o:Bool):PSt:=stt 48 [(1,sl cS names),(2,sl qaa v),(3,.eptr (qaa p)),(6,.bptr 1 0),(7,.int .i64 i),(25,.bool o)] [.dead,.cells [.int .i64 0,.str ([]:Str),.int .i64 0,sl qaa m] [(3,31)]] []
def qkc (R108:qbD) (v:waA) (i:Int):Option ((Bool)) :=
 if (decide (i ≥ 0)) = true then
  some (decide (i < (v.length:Int)))
 else
  some false
theorem qrO (R108:qbD) (hR108:qgb R108) (names:waB) (v:waA) (p:tPred) (i:Int) (m:waA) {x:(Bool)} (h:qkc R108 v i = some x) :
  Sat Pg GE 0 (cA b134 106) (EX .normal (qiq names v p i m x)) (qsT names v p i m):=by
 rcases ifs h with ⟨c4,h⟩ | ⟨c4,h⟩
 ·obtain rfl:=lf h
  have z:=sg 3 c4 <| svn (sT29.ln v) <| eF .normal (qiq names v p i m (decide (i < (v.length:Int))))
  exact pcZ A134 z (by kernel_rfl)
 ·obtain rfl:=lf h
  have z:=sg 3 c4 <| eF .normal (qiq names v p i m false)
  exact pcZ A134 z (by kernel_rfl)
def qhk (R108:qbD) (names:waB) (v:waA) (p:tPred):Option ((Int×Str×Int×waA)⊕(Unit)) :=
 if (p.Op == 3) = true then
  (qep names p.Name).bind fun r3 =>
  (qkc R108 v r3).bind fun o5 =>
  if o5 = true then
   (idx v r3).bind fun x8 =>
   some (.inl (x8.Op,x8.Name,x8.N,x8.Kids))
  else
   some (.inr ())
 else
  some (.inr ())
theorem qk7 (R108:qbD) (hR108:qgb R108) (names:waB) (v:waA) (p:tPred) (m:waA) {x:(Int×Str×Int×waA)⊕(Unit)} (h:qhk R108 names v p = some x) :
  Sat Pg GE 0 (cA b134 6) (EX (qfI x) (qdd names v p m x)) (qsJ names v p m):=by
 have p2:=fun {sc F} (r:PS sc F) => sv (qaZ p) <| sv (qa0 p) <| r
 rcases ifs h with ⟨c1,h⟩ | ⟨c1,h⟩
 ·obtain ⟨r3,br3,h⟩:=bnd h
  obtain ⟨o5,bo5,h⟩:=bnd h
  have p7:=fun {sc F} (r:PS sc F) => p2 <| sg 0 c1 <| sv (qa9 p) <| sv (qbm p) <| sca (qfr br3) <| spa 0 <| spc (qrO R108 hR108 names v p r3 m bo5) <| r
  rcases ifs h with ⟨c6,h⟩ | ⟨c6,h⟩
  ·obtain ⟨x8,bx8,h⟩:=bnd h
   obtain rfl:=lf h
   have z:=p7 <| sg 0 c6 <| sv (sT29.ia (k := .i64) bx8) <| sv (qaj x8) <| sx (qaw x8) <| eF (qfI (.inl (x8.Op,x8.Name,x8.N,x8.Kids))) (qdd names v p m (.inl (x8.Op,x8.Name,x8.N,x8.Kids)))
   exact pcZ A134 z (by kernel_rfl)
  ·obtain rfl:=lf h
   have z:=p7 <| sg 0 c6 <| eF (qfI (.inr ())) (qdd names v p m (.inr ()))
   exact pcZ A134 z (by kernel_rfl)
 ·obtain rfl:=lf h
  have z:=p2 <| sg 0 c1 <| eF (qfI (.inr ())) (qdd names v p m (.inr ()))
  exact pcZ A134 z (by kernel_rfl)
def qeb (names:waB) (v:waA) (p:tPred) (out:waA) (t31:waA) (t32:Int) (t33:Int) (m:waA):PSt:=stt 48 [(1,sl cS names),(2,sl qaa v),(3,.eptr (qaa p)),(6,.bptr 1 0),(8,sl qaa out),(31,sl qaa t31),(32,.int .i64 t32),(33,.int .i64 t33)] [.dead,.cells [.int .i64 0,.str ([]:Str),.int .i64 0,sl qaa m] [(3,31)]] [((8,0),31)]
def qim (names:waB) (v:waA) (p:tPred) (t31:waA) (t32:Int) (m:waA) (o:waA):PSt:=stt 48 [(3,.eptr (qaa p)),(6,.bptr 1 0),(8,sl qaa o)] [.dead,.cells [.int .i64 0,.str ([]:Str),.int .i64 0,sl qaa m] [(3,31)]] [((8,0),31)]
def ql0 (R108:qbD) (names:waB) (v:waA) (t31:waA) (t32:Int) (out:waA) (t33:Int):Option ((waA×Int)⊕((waA))) :=
 if (decide (t33 < t32)) = true then
  (idx t31 t33).bind fun x11 =>
  (R108 x11 names v).bind fun r12 =>
  (app out ([r12]:List tPred)).bind fun l13 =>
  some (.inl (l13,w64 (t33 + 1)))
 else
  some (.inr out)
def qkl (R108:qbD) (names:waB) (v:waA) (t31:waA) (t32:Int) (out:waA) (t33:Int):Option ((waA)):=loop (fun (zz:waA×Int) => ql0 R108 names v t31 t32 zz.1 zz.2) (out,t33)
theorem qqK (R108:qbD) (hR108:qgb R108) (names:waB) (v:waA) (p:tPred) (out:waA) (t31:waA) (t32:Int) (t33:Int) (m:waA) {y:(waA×Int)⊕((waA))} (h:ql0 R108 names v t31 t32 out t33 = some y) :
  Sat Pg GE 0 (cA b134 247) (LQ (fun (zz:waA×Int) => qeb names v p zz.1 t31 t32 zz.2 m) (fun _ => .exit 0) (qim names v p t31 t32 m) y) (qeb names v p out t31 t32 t33 m):=by
 rcases ifs h with ⟨c10,h⟩ | ⟨c10,h⟩
 ·obtain ⟨x11,bx11,h⟩:=bnd h
  obtain ⟨r12,br12,h⟩:=bnd h
  obtain ⟨l13,bl13,h⟩:=bnd h
  obtain rfl:=lf h
  have z:=sg 0 c10 <| sv (sT29.ia (k := .i64) bx11) <| sv (qaj x11) <| sx pz31 <| sx (qaw x11) <| sv (qar x11 []) <| sca (hR108 _ _ _ _ br12) <| sv (sT29.mk' (v:=qbq) qaE ([r12]:List tPred) 1 (by kernel_rfl)) <| sv (sT29.ap bl13) <| eFx 0 .normal (qeb names v p l13 t31 t32 (w64 (t33 + 1)) m) rfl (qbP (aI (up (qad clS names)) (aI (up (qad qab v)) (aI (qbO (qab p)) (aI (qch rfl) (aI (up (qad qab l13)) (aI (up (qad qab t31)) (aI trivial (aI trivial trivial))))))))) (aI trivial (aI (aI trivial (aI trivial (aI trivial (aI (up (qad qab m)) trivial)))) trivial))
  exact qbi (A:=A134) mixed z (by kernel_rfl)
 ·obtain rfl:=lf h
  have z:=sg 0 c10 <| eF (.exit 0) (qim names v p t31 t32 m out)
  exact ovZ A134 (by intro hx; cases hx) z (by kernel_rfl)
theorem qrc (R108:qbD) (hR108:qgb R108) (names:waB) (v:waA) (p:tPred) (out:waA) (t31:waA) (t32:Int) (t33:Int) (m:waA) {x:(waA)} (h:qkl R108 names v t31 t32 out t33 = some x) :
  Sat Pg GE 0 (.loop (cA b134 247)) (EX (.exit 0) (qim names v p t31 t32 m x)) (qeb names v p out t31 t32 t33 m) :=
 Sat.loop (S:=fun (zz:waA×Int) => qeb names v p zz.1 t31 t32 zz.2 m) (ex:=(fun _ => .exit 0)) (s:=(out,t33)) h fun zz y hy => qqK R108 hR108 names v p zz.1 t31 t32 zz.2 m hy
def qiE (R108:qbD) (p:tPred) (names:waB) (a:waA):Option (tPred) :=
 (qhk R108 names a p).bind fun o9 => match o9 with
 | (.inl o9) =>
  some (⟨o9.1,o9.2.1,o9.2.2.1,o9.2.2.2⟩:tPred)
 | (.inr o9) =>
  (qkl R108 names a p.Kids (p.Kids.length:Int) ([]:List tPred) 0).bind fun o14 =>
  (qBL p o14).bind fun r15 =>
  some r15
theorem quA (R108:qbD) (hR108:qgb R108) {p:tPred} {names:waB} {a:waA} {r:tPred} (h:qiE R108 p names a = some r):CC Pg GE 134 [.agg (qaa p),sl cS names,sl qaa a] (.agg (qaa r)) []:=by
 obtain ⟨o9,bo9,h⟩:=bnd h
 rcases o9 with o9 | o9
 ·obtain rfl:=lf h
  have z:=se (qaL p) <| sx pz31 <| spa 0 <| spc (e := .ret) (s1:=qdd names a p ([]:List tPred) (.inl o9)) (qk7 R108 hR108 names a p ([]:List tPred) bo9) <| en (aI (qaY (⟨o9.1,o9.2.1,o9.2.2.1,o9.2.2.2⟩:tPred)) <| (qab (⟨o9.1,o9.2.1,o9.2.2.1,o9.2.2.2⟩:tPred)))
  exact cvZ A134 Tryz.call134 Tryz.func134 (c:=b134) rfl (aI (qab p) (aI (qad clS names) (aI (qad qab a) trivial))) z (by kernel_rfl)
 ·obtain ⟨o14,bo14,h⟩:=bnd h
  obtain ⟨r15,br15,h⟩:=bnd h
  obtain rfl:=lf h
  have z:=se (qaL p) <| sx pz31 <| spa 0 <| spc (e := .normal) (s1:=qdd names a p ([]:List tPred) (.inr o9)) (qk7 R108 hR108 names a p ([]:List tPred) bo9) <| sv (qax p) <| sv (qay p) <| svn (sT29.ln p.Kids) <| spc (qrc R108 hR108 names a p ([]:List tPred) p.Kids (p.Kids.length:Int) 0 ([]:List tPred) bo14) <| sv (qaj p) <| sca (qBe br15) <| sx (qaw r15) <| en (aI (qaY r15) <| (qab r15))
  exact cvZ A134 Tryz.call134 Tryz.func134 (c:=b134) rfl (aI (qab p) (aI (qad clS names) (aI (qad qab a) trivial))) z (by kernel_rfl)
def qlh:((tPred×waB×waA)→Option (tPred))→(tPred×waB×waA)→Option (tPred):=fun (rec:(tPred×waB×waA)→Option (tPred)) (x:tPred×waB×waA) => qiE (fun p names a => rec (p,names,a)) x.1 x.2.1 x.2.2
def qiZ (p:tPred) (names:waB) (a:waA):Option (tPred):=fixE (qlh) (p,names,a)
theorem qos {p:tPred} {names:waB} {a:waA} {r:tPred} (h:qiZ p names a = some r):CC Pg GE 134 [.agg (qaa p),sl cS names,sl qaa a] (.agg (qaa r)) [] :=
 qbX (F:=qlh) (M:=fun (x:tPred×waB×waA) (r:tPred) => CC Pg GE 134 [.agg (qaa x.1),sl cS x.2.1,sl qaa x.2.2] (.agg (qaa r)) []) (fun rec hrec x r h => quA _ (fun p names a r h => hrec (p,names,a) r h) h) h
noncomputable def b179:Code:=Tryz.f179.body.getD .skip
def A179:List Nat:=[17]
def qf3 (out:waB) (t6:waA) (t7:Int) (t8:Int):PSt:=stt 18 [(3,sl cS out),(6,sl qaa t6),(7,.int .i64 t7),(8,.int .i64 t8)] [] [((3,0),9)]
def qk8 (t6:waA) (t7:Int) (o:waB):PSt:=stt 18 [(3,sl cS o)] [] [((3,0),9)]
def qpX (t6:waA) (t7:Int) (out:waB) (t8:Int):Option ((waB×Int)⊕((waB))) :=
 if (decide (t8 < t7)) = true then
  (idx t6 t8).bind fun x2 =>
  (qkZ x2).bind fun r3 =>
  (qci out r3).bind fun r4 =>
  some (.inl (r4,w64 (t8 + 1)))
 else
  some (.inr out)
def qoC (t6:waA) (t7:Int) (out:waB) (t8:Int):Option ((waB)):=loop (fun (zz:waB×Int) => qpX t6 t7 zz.1 zz.2) (out,t8)
theorem quf (out:waB) (t6:waA) (t7:Int) (t8:Int) {y:(waB×Int)⊕((waB))} (h:qpX t6 t7 out t8 = some y) :
  Sat Pg GE 0 (cA b179 119) (LQ (fun (zz:waB×Int) => qf3 zz.1 t6 t7 zz.2) (fun _ => .exit 0) (qk8 t6 t7) y) (qf3 out t6 t7 t8):=by
 rcases ifs h with ⟨c1,h⟩ | ⟨c1,h⟩
 ·obtain ⟨x2,bx2,h⟩:=bnd h
  obtain ⟨r3,br3,h⟩:=bnd h
  obtain ⟨r4,br4,h⟩:=bnd h
  obtain rfl:=lf h
  have z:=sg 0 c1 <| sv (sT29.ia (k := .i64) bx2) <| sv (qaj x2) <| sx pz31 <| sx (qaw x2) <| sv (qar x2 []) <| sca (qqp br3) <| sca (qdb br4) <| eFx 0 .normal (qf3 r4 t6 t7 (w64 (t8 + 1))) rfl (qbP (aI (up (qad clS r4)) (aI (up (qad qab t6)) (aI trivial (aI trivial trivial))))) trivial
  exact qbi (A:=A179) mixed z (by kernel_rfl)
 ·obtain rfl:=lf h
  have z:=sg 0 c1 <| eF (.exit 0) (qk8 t6 t7 out)
  exact ovZ A179 (by intro hx; cases hx) z (by kernel_rfl)
theorem qvh (out:waB) (t6:waA) (t7:Int) (t8:Int) {x:(waB)} (h:qoC t6 t7 out t8 = some x) :
  Sat Pg GE 0 (.loop (cA b179 119)) (EX (.exit 0) (qk8 t6 t7 x)) (qf3 out t6 t7 t8) :=
 Sat.loop (S:=fun (zz:waB×Int) => qf3 zz.1 t6 t7 zz.2) (ex:=(fun _ => .exit 0)) (s:=(out,t8)) h fun zz y hy => quf zz.1 t6 t7 zz.2 hy
def qr2 (a:waA):Option (waB) :=
 (qoC a (a.length:Int) ([]:List Str) 0).bind fun o5 =>
 some o5
theorem qAC {a:waA} {r:waB} (h:qr2 a = some r):CC Pg GE 179 [sl qaa a] (sl cS r) [(0,9)]:=by
 obtain ⟨o5,bo5,h⟩:=bnd h
 obtain rfl:=lf h
 have z:=svn (sT29.ln a) <| spc (qvh ([]:List Str) a (a.length:Int) 0 bo5) <| en (aI (rP (sl cS o5)) <| (qad clS o5))
 exact cvZ A179 Tryz.call179 Tryz.func179 (c:=b179) rfl (aI (qad qab a) trivial) z (by kernel_rfl)
noncomputable def b180:Code:=Tryz.f180.body.getD .skip
def A180:List Nat:=[14,28,34]
def qfE (name:Str) (c:liquidcheckref32_Change) (t10:waB) (t11:Int) (t12:Int) (m:waA) (m2:waB) (m3:waA):PSt:=stt 45 [(1,.str name),(2,.eptr (qah c)),(4,.bptr 1 0),(5,.bptr 2 0),(10,sl cS t10),(11,.int .i64 t11),(12,.int .i64 t12)] [.dead,.cells [sl cS ([]:List Str),sl qaa m] [(0,9),(1,31)],.cells [sl cS m2,sl qaa m3] [(0,9),(1,31)]] []
def qm2 (name:Str) (c:liquidcheckref32_Change) (t10:waB) (t11:Int) (m:waA) (o:waB×waA):PSt:=stt 45 [(4,.bptr 1 0),(5,.bptr 2 0)] [.dead,.cells [sl cS ([]:List Str),sl qaa m] [(0,9),(1,31)],.cells [sl cS o.1,sl qaa o.2] [(0,9),(1,31)]] []
def qyN (name:Str) (c:liquidcheckref32_Change) (i:Int) (s:Str) (t10:waB) (t11:Int) (m:waA) (m2:waB) (m3:waA):PSt:=stt 45 [(1,.str name),(2,.eptr (qah c)),(4,.bptr 1 0),(5,.bptr 2 0),(6,.int .i64 i),(7,.str s),(10,sl cS t10),(11,.int .i64 t11),(12,.int .i64 i)] [.dead,.cells [sl cS ([]:List Str),sl qaa m] [(0,9),(1,31)],.cells [sl cS m2,sl qaa m3] [(0,9),(1,31)]] []
def qmT (name:Str) (c:liquidcheckref32_Change) (i:Int) (s:Str) (t10:waB) (t11:Int) (m:waA) (m2:waB) (m3:waA) (o:Bool):PSt:=stt 45 [(1,.str name),(2,.eptr (qah c)),(4,.bptr 1 0),(5,.bptr 2 0),(6,.int .i64 i),(7,.str s),(10,sl cS t10),(11,.int .i64 t11),(12,.int .i64 i),(26,.bool o)] [.dead,.cells [sl cS ([]:List Str),sl qaa m] [(0,9),(1,31)],.cells [sl cS m2,sl qaa m3] [(0,9),(1,31)]] []
def qqO (name:Str) (c:liquidcheckref32_Change) (i:Int) (s:Str):Option ((Bool)) :=
 if (decide (i < (c.By.length:Int))) = true then
  some (!(s == name))
 else
  some false
theorem qwv (name:Str) (c:liquidcheckref32_Change) (i:Int) (s:Str) (t10:waB) (t11:Int) (m:waA) (m2:waB) (m3:waA) {x:(Bool)} (h:qqO name c i s = some x) :
  Sat Pg GE 0 (cA b180 7670) (EX .normal (qmT name c i s t10 t11 m m2 m3 x)) (qyN name c i s t10 t11 m m2 m3):=by
 have p4:=fun {sc F} (r:PS sc F) => sv (qbz c) <| sv (qbG c) <| svn (sT29.ln c.By) <| r
 rcases ifs h with ⟨c3,h⟩ | ⟨c3,h⟩
 ·obtain rfl:=lf h
  have z:=p4 <| sg 6 c3 <| eF .normal (qmT name c i s t10 t11 m m2 m3 (!(s == name)))
  exact pcZ A180 z (by kernel_rfl)
 ·obtain rfl:=lf h
  have z:=p4 <| sg 6 c3 <| eF .normal (qmT name c i s t10 t11 m m2 m3 false)
  exact pcZ A180 z (by kernel_rfl)
def qei (name:Str) (c:liquidcheckref32_Change) (t10:waB) (t11:Int) (t12:Int) (m2:waB) (m3:waA):Option ((Int×waB×waA)⊕((waB×waA))) :=
 if (decide (t12 < t11)) = true then
  (idx t10 t12).bind fun x2 =>
  (qqO name c t12 x2).bind fun o5 =>
  if o5 = true then
   (app m2 ([x2]:List Str)).bind fun l8 =>
   (idx c.By t12).bind fun x9 =>
   (app m3 ([x9]:List tPred)).bind fun l10 =>
   some (.inl (w64 (t12 + 1),l8,l10))
  else
   some (.inl (w64 (t12 + 1),m2,m3))
 else
  some (.inr (m2,m3))
def qqn (name:Str) (c:liquidcheckref32_Change) (t10:waB) (t11:Int) (t12:Int) (m2:waB) (m3:waA):Option ((waB×waA)):=loop (fun (zz:Int×waB×waA) => qei name c t10 t11 zz.1 zz.2.1 zz.2.2) (t12,m2,m3)
theorem qvc (name:Str) (c:liquidcheckref32_Change) (t10:waB) (t11:Int) (t12:Int) (m:waA) (m2:waB) (m3:waA) {y:(Int×waB×waA)⊕((waB×waA))} (h:qei name c t10 t11 t12 m2 m3 = some y) :
  Sat Pg GE 0 (cA b180 119) (LQ (fun (zz:Int×waB×waA) => qfE name c t10 t11 zz.1 m zz.2.1 zz.2.2) (fun _ => .exit 0) (qm2 name c t10 t11 m) y) (qfE name c t10 t11 t12 m m2 m3):=by
 rcases ifs h with ⟨c1,h⟩ | ⟨c1,h⟩
 ·obtain ⟨x2,bx2,h⟩:=bnd h
  obtain ⟨o5,bo5,h⟩:=bnd h
  have p7:=fun {sc F} (r:PS sc F) => sg 0 c1 <| sv (sT22.ia (k := .i64) bx2) <| sv (qaR sc9 (.str x2) []) <| spa 0 <| spc (qwv name c t12 x2 t10 t11 m m2 m3 bo5) <| r
  rcases ifs h with ⟨c6,h⟩ | ⟨c6,h⟩
  ·obtain ⟨l8,bl8,h⟩:=bnd h
   obtain ⟨x9,bx9,h⟩:=bnd h
   obtain ⟨l10,bl10,h⟩:=bnd h
   obtain rfl:=lf h
   have z:=p7 <| sg 0 c6 <| sv (sT22.mk' (v:=PVal.str) pcS ([x2]:List Str) 1 (by kernel_rfl)) <| sv (sT22.ap bl8) <| sdr [0,1,0,4,0,28,60,124,255,511,1023] <| sv (qbz c) <| sv (qbG c) <| sv (sT29.ia (k := .i64) bx9) <| sv (qaj x9) <| sv (sT29.mk' (v:=qbq) qaE ([x9]:List tPred) 1 (by kernel_rfl)) <| sv (sT29.ap bl10) <| ssf (rfl:qaJ (sl qaa l10) = some [sl qaa l10]) <| eF .normal (qfE name c t10 t11 (w64 (t12 + 1)) m l8 l10)
   exact nxZ A180 z (by kernel_rfl)
  ·obtain rfl:=lf h
   have z:=p7 <| sg 0 c6 <| eF .normal (qfE name c t10 t11 (w64 (t12 + 1)) m m2 m3)
   exact nxZ A180 z (by kernel_rfl)
 ·obtain rfl:=lf h
  have z:=sg 0 c1 <| eF (.exit 0) (qm2 name c t10 t11 m (m2,m3))
  exact ovZ A180 (by intro hx; cases hx) z (by kernel_rfl)
theorem qw2 (name:Str) (c:liquidcheckref32_Change) (t10:waB) (t11:Int) (t12:Int) (m:waA) (m2:waB) (m3:waA) {x:(waB×waA)} (h:qqn name c t10 t11 t12 m2 m3 = some x) :
  Sat Pg GE 0 (.loop (cA b180 119)) (EX (.exit 0) (qm2 name c t10 t11 m x)) (qfE name c t10 t11 t12 m m2 m3) :=
 Sat.loop (S:=fun (zz:Int×waB×waA) => qfE name c t10 t11 zz.1 m zz.2.1 zz.2.2) (ex:=(fun _ => .exit 0)) (s:=(t12,m2,m3)) h fun zz y hy => qvc name c t10 t11 zz.1 m zz.2.1 zz.2.2 hy
def quR (c:liquidcheckref32_Change) (name:Str):Option (liquidcheckref32_Change) :=
 (qqn name c c.Names (c.Names.length:Int) 0 ([]:List Str) ([]:List tPred)).bind fun o11 =>
 some (⟨o11.1,o11.2⟩:liquidcheckref32_Change)
theorem qBv {c:liquidcheckref32_Change} {name:Str} {r:liquidcheckref32_Change} (h:quR c name = some r):CC Pg GE 180 [.agg (qah c),.str name] (.agg (qah r)) [(0,9),(1,31)]:=by
 obtain ⟨o11,bo11,h⟩:=bnd h
 obtain rfl:=lf h
 have z:=se (qdt c) <| sx qHy <| sb (qeZ ) (qe2 ) <| sx qHy <| sy (qa3 (⟨([]:List Str),([]:List tPred)⟩:liquidcheckref32_Change)) <| sv (qhZ c) <| sv (qig c) <| svn (sT22.ln c.Names) <| spc (qw2 name c c.Names (c.Names.length:Int) 0 ([]:List tPred) ([]:List Str) ([]:List tPred) bo11) <| sz (qbC (⟨o11.1,o11.2⟩:liquidcheckref32_Change) []) <| sy (qa3 (⟨o11.1,o11.2⟩:liquidcheckref32_Change)) <| en (aI (qka (⟨o11.1,o11.2⟩:liquidcheckref32_Change)) <| aI (qbK (⟨o11.1,o11.2⟩:liquidcheckref32_Change)) <| rT)
 exact cvZ A180 Tryz.call180 Tryz.func180 (c:=b180) rfl (aI (qbK c) (aI trivial trivial)) z (by kernel_rfl)
noncomputable def b181:Code:=Tryz.f181.body.getD .skip
def A181:List Nat:=[]
def qgn (name:Str) (t8:waA) (t9:Int) (t10:Int):PSt:=stt 20 [(1,.str name),(8,sl qaa t8),(9,.int .i64 t9),(10,.int .i64 t10)] [.dead] []
def qf2 (o:(Unit)⊕(Unit)):Exit:=match o with
 | (.inl _) => .ret
 | (.inr _) => .exit 0
def qeL (name:Str) (t8:waA) (t9:Int) (o:(Unit)⊕(Unit)):PSt:=match o with
 | (.inl o) => stt 20 [(4,.bool true)] [.dead] []
 | (.inr o) => stt 20 [] [.dead] []
def qlo (name:Str) (t8:waA) (t9:Int) (t10:Int):Option ((Int)⊕((Unit)⊕(Unit))) :=
 if (decide (t10 < t9)) = true then
  (idx t8 t10).bind fun x2 =>
  (qkZ x2).bind fun r3 =>
  (qep r3 name).bind fun r4 =>
  if (decide (r4 ≥ 0)) = true then
   some (.inr (.inl ()))
  else
   some (.inl (w64 (t10 + 1)))
 else
  some (.inr (.inr ()))
def qn3 (name:Str) (t8:waA) (t9:Int) (t10:Int):Option ((Unit)⊕(Unit)):=loop (fun (zz:Int) => qlo name t8 t9 zz) t10
theorem qui (name:Str) (t8:waA) (t9:Int) (t10:Int) {y:(Int)⊕((Unit)⊕(Unit))} (h:qlo name t8 t9 t10 = some y) :
  Sat Pg GE 0 (cA b181 55) (LQ (fun (zz:Int) => qgn name t8 t9 zz) qf2 (qeL name t8 t9) y) (qgn name t8 t9 t10):=by
 rcases ifs h with ⟨c1,h⟩ | ⟨c1,h⟩
 ·obtain ⟨x2,bx2,h⟩:=bnd h
  obtain ⟨r3,br3,h⟩:=bnd h
  obtain ⟨r4,br4,h⟩:=bnd h
  have p6:=fun {sc F} (r:PS sc F) => sg 0 c1 <| sv (sT29.ia (k := .i64) bx2) <| sv (qaj x2) <| sx pz31 <| sx (qaw x2) <| sv (qar x2 []) <| sca (qqp br3) <| sca (qfr br4) <| r
  rcases ifs h with ⟨c5,h⟩ | ⟨c5,h⟩
  ·obtain rfl:=lf h
   have z:=p6 <| sg 0 c5 <| eFx 0 (qf2 (.inl ())) (qeL name t8 t9 (.inl ())) rfl (qbP (aI trivial trivial)) (aI trivial trivial)
   exact qpJ (A:=A181) mixed (by intro hx; cases hx) z (by kernel_rfl)
  ·obtain rfl:=lf h
   have z:=p6 <| sg 0 c5 <| eFx 0 .normal (qgn name t8 t9 (w64 (t10 + 1))) rfl (qbP (aI trivial (aI (up (qad qab t8)) (aI trivial (aI trivial trivial))))) (aI trivial trivial)
   exact qbi (A:=A181) mixed z (by kernel_rfl)
 ·obtain rfl:=lf h
  have z:=sg 0 c1 <| eF (qf2 (.inr ())) (qeL name t8 t9 (.inr ()))
  exact ovZ A181 (by intro hx; cases hx) z (by kernel_rfl)
theorem qob (name:Str) (t8:waA) (t9:Int) (t10:Int) {x:(Unit)⊕(Unit)} (h:qn3 name t8 t9 t10 = some x) :
  Sat Pg GE 0 (.loop (cA b181 55)) (EX (qf2 x) (qeL name t8 t9 x)) (qgn name t8 t9 t10) :=
 Sat.loop (S:=fun (zz:Int) => qgn name t8 t9 zz) (ex:=qf2) (s:=t10) h fun zz y hy => qui name t8 t9 zz hy
def qrT (c:liquidcheckref32_Change) (name:Str):Option (Bool) :=
 (qn3 name c.By (c.By.length:Int) 0).bind fun o7 => match o7 with
 | (.inl o7) =>
  some true
 | (.inr o7) =>
  some false
theorem qAi {c:liquidcheckref32_Change} {name:Str} {r:Bool} (h:qrT c name = some r):CC Pg GE 181 [.agg (qah c),.str name] (.bool r) []:=by
 obtain ⟨o7,bo7,h⟩:=bnd h
 rcases o7 with o7 | o7
 ·obtain rfl:=lf h
  have z:=se (qdt c) <| sv (qbz c) <| sv (qbG c) <| svn (sT29.ln c.By) <| spc (e := .ret) (s1:=qeL name c.By (c.By.length:Int) (.inl o7)) (qob name c.By (c.By.length:Int) 0 bo7) <| en (aI (rP (.bool true)) <| trivial)
  exact cvZ A181 Tryz.call181 Tryz.func181 (c:=b181) rfl (aI (qbK c) (aI trivial trivial)) z (by kernel_rfl)
 ·obtain rfl:=lf h
  have z:=se (qdt c) <| sv (qbz c) <| sv (qbG c) <| svn (sT29.ln c.By) <| spc (e := .exit 0) (s1:=qeL name c.By (c.By.length:Int) (.inr o7)) (qob name c.By (c.By.length:Int) 0 bo7) <| en (aI (rP (.bool false)) <| trivial)
  exact cvZ A181 Tryz.call181 Tryz.func181 (c:=b181) rfl (aI (qbK c) (aI trivial trivial)) z (by kernel_rfl)
end Go.Proofs.YtgldgpdhblndkaaGreatDoor
