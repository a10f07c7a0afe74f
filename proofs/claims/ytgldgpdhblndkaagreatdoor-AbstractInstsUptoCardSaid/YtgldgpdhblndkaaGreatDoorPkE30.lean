/- WHAT IS PROVED: parts of the proof, put together by a program (G2). Conditions: none. -/
import Derived.Test.YtgldgpdhblndkaaGreatDoorPkE29
noncomputable section
namespace Go.Proofs.YtgldgpdhblndkaaGreatDoor
open Go
set_option linter.unusedVariables false
set_option maxRecDepth 100000
noncomputable def b105:Code:=Tryz.f105.body.getD .skip
def A105:List Nat:=[21]
def qeB (t14:waA) (t15:Int) (t16:Int) (m:waA) (m2:Int) (m3:Str) (m4:Int) (m5:waA):PSt:=stt 29 [(2,.bptr 1 0),(3,.bptr 2 0),(14,sl qaa t14),(15,.int .i64 t15),(16,.int .i64 t16)] [.dead,.cells [.int .i64 0,.str ([]:Str),.int .i64 0,sl qaa m] [(3,31)],.cells [.int .i64 m2,.str m3,.int .i64 m4,sl qaa m5] [(3,31)]] []
def qjk (t14:waA) (t15:Int) (m:waA) (m2:Int) (m3:Str) (m4:Int) (o:waA):PSt:=stt 29 [(2,.bptr 1 0),(3,.bptr 2 0)] [.dead,.cells [.int .i64 0,.str ([]:Str),.int .i64 0,sl qaa m] [(3,31)],.cells [.int .i64 m2,.str m3,.int .i64 m4,sl qaa o] [(3,31)]] []
def qgt (R27:qeo) (t14:waA) (t15:Int) (t16:Int) (m5:waA):Option ((Int×waA)⊕((waA))) :=
 if (decide (t16 < t15)) = true then
  (idx t14 t16).bind fun x2 =>
  (R27 x2).bind fun r3 =>
  (app m5 ([r3]:List tPred)).bind fun l4 =>
  some (.inl (w64 (t16 + 1),l4))
 else
  some (.inr m5)
def qk9 (R27:qeo) (t14:waA) (t15:Int) (t16:Int) (m5:waA):Option ((waA)):=loop (fun (zz:Int×waA) => qgt R27 t14 t15 zz.1 zz.2) (t16,m5)
theorem qrV (R27:qeo) (hR27:qmm R27) (t14:waA) (t15:Int) (t16:Int) (m:waA) (m2:Int) (m3:Str) (m4:Int) (m5:waA) {y:(Int×waA)⊕((waA))} (h:qgt R27 t14 t15 t16 m5 = some y) :
  Sat Pg GE 0 (cA b105 119) (LQ (fun (zz:Int×waA) => qeB t14 t15 zz.1 m m2 m3 m4 zz.2) (fun _ => .exit 0) (qjk t14 t15 m m2 m3 m4) y) (qeB t14 t15 t16 m m2 m3 m4 m5):=by
 rcases ifs h with ⟨c1,h⟩ | ⟨c1,h⟩
 ·obtain ⟨x2,bx2,h⟩:=bnd h
  obtain ⟨r3,br3,h⟩:=bnd h
  obtain ⟨l4,bl4,h⟩:=bnd h
  obtain rfl:=lf h
  have z:=sg 0 c1 <| sv (sT29.ia (k := .i64) bx2) <| sv (qaj x2) <| sx pz31 <| sx (qaw x2) <| sdr [0,1,0,4,12,31,63,127] <| sv (qar x2 []) <| sca (hR27 _ _ br3) <| sv (sT29.mk' (v:=qbq) qaE ([r3]:List tPred) 1 (by kernel_rfl)) <| sv (sT29.ap bl4) <| ssf (rfl:qaJ (sl qaa l4) = some [sl qaa l4]) <| eFx 0 .normal (qeB t14 t15 (w64 (t16 + 1)) m m2 m3 m4 l4) rfl (qbP (aI (qch rfl) (aI (qch rfl) (aI (up (qad qab t14)) (aI trivial (aI trivial trivial)))))) (aI trivial (aI (aI trivial (aI trivial (aI trivial (aI (up (qad qab m)) trivial)))) (aI (aI trivial (aI trivial (aI trivial (aI (up (qad qab l4)) trivial)))) trivial)))
  exact qbi (A:=A105) mixed z (by kernel_rfl)
 ·obtain rfl:=lf h
  have z:=sg 0 c1 <| eF (.exit 0) (qjk t14 t15 m m2 m3 m4 m5)
  exact ovZ A105 (by intro hx; cases hx) z (by kernel_rfl)
theorem qsR (R27:qeo) (hR27:qmm R27) (t14:waA) (t15:Int) (t16:Int) (m:waA) (m2:Int) (m3:Str) (m4:Int) (m5:waA) {x:(waA)} (h:qk9 R27 t14 t15 t16 m5 = some x) :
  Sat Pg GE 0 (.loop (cA b105 119)) (EX (.exit 0) (qjk t14 t15 m m2 m3 m4 x)) (qeB t14 t15 t16 m m2 m3 m4 m5) :=
 Sat.loop (S:=fun (zz:Int×waA) => qeB t14 t15 zz.1 m m2 m3 m4 zz.2) (ex:=(fun _ => .exit 0)) (s:=(t16,m5)) h fun zz y hy => qrV R27 hR27 t14 t15 zz.1 m m2 m3 m4 zz.2 hy
def qmE (R27:qeo) (p:tPred):Option (tPred) :=
 (qk9 R27 p.Kids (p.Kids.length:Int) 0 ([]:List tPred)).bind fun o5 =>
 some (⟨p.Op,p.Name,p.N,o5⟩:tPred)
theorem qwp (R27:qeo) (hR27:qmm R27) {p:tPred} {r:tPred} (h:qmE R27 p = some r):CC Pg GE 105 [.agg (qaa p)] (.agg (qaa r)) [(3,31)]:=by
 obtain ⟨o5,bo5,h⟩:=bnd h
 obtain rfl:=lf h
 have z:=se (qaL p) <| sx pz31 <| sv (qaZ p) <| sv (qa0 p) <| sv (qa9 p) <| sv (qbm p) <| sv (qcx p) <| sv (qda p) <| sb (qgj p.Op p.Name p.N) (qgh p.Op p.Name p.N) <| sx pz31 <| sy (qal (⟨p.Op,p.Name,p.N,([]:List tPred)⟩:tPred)) <| sv (qax p) <| sv (qay p) <| svn (sT29.ln p.Kids) <| spc (qsR R27 hR27 p.Kids (p.Kids.length:Int) 0 ([]:List tPred) p.Op p.Name p.N ([]:List tPred) bo5) <| sz (qar (⟨p.Op,p.Name,p.N,o5⟩:tPred) []) <| sy (qal (⟨p.Op,p.Name,p.N,o5⟩:tPred)) <| en (aI (qaY (⟨p.Op,p.Name,p.N,o5⟩:tPred)) <| aI (qab (⟨p.Op,p.Name,p.N,o5⟩:tPred)) <| rT)
 exact cvZ A105 Tryz.call105 Tryz.func105 (c:=b105) rfl (aI (qab p) trivial) z (by kernel_rfl)
def qjK:((tPred)→Option (tPred))→(tPred)→Option (tPred):=fun (rec:tPred→Option (tPred)) (x:tPred) => qmE (fun p => rec p) x
def qgC (p:tPred):Option (tPred):=fixE (qjK) p
theorem qgp {p:tPred} {r:tPred} (h:qgC p = some r):CC Pg GE 105 [.agg (qaa p)] (.agg (qaa r)) [(3,31)] :=
 qbX (F:=qjK) (M:=fun (x:tPred) (r:tPred) => CC Pg GE 105 [.agg (qaa x)] (.agg (qaa r)) [(3,31)]) (fun rec hrec x r h => qwp _ (fun p r h => hrec p r h) h) h
noncomputable def b128:Code:=Tryz.f128.body.getD .skip
def A128:List Nat:=[46]
def qsc (v:waB) (v2:waA) (p:tPred) (m:waA):PSt:=stt 56 [(1,sl cS v),(2,sl qaa v2),(3,.eptr (qaa p)),(6,.bptr 1 0)] [.dead,.cells [.int .i64 0,.str ([]:Str),.int .i64 0,sl qaa m] [(3,31)]] []
def qeX (o:(Int×Str×Int×waA)⊕(Unit)):Exit:=match o with
 | (.inl _) => .ret
 | (.inr _) => .normal
def qcQ (v:waB) (v2:waA) (p:tPred) (m:waA) (o:(Int×Str×Int×waA)⊕(Unit)):PSt:=match o with
 | (.inl o) => stt 56 [(6,.bptr 1 0)] [.dead,.cells [.int .i64 o.1,.str o.2.1,.int .i64 o.2.2.1,sl qaa o.2.2.2] [(3,31)]] []
 | (.inr o) => stt 56 [(1,sl cS v),(2,sl qaa v2),(3,.eptr (qaa p)),(6,.bptr 1 0)] [.dead,.cells [.int .i64 0,.str ([]:Str),.int .i64 0,sl qaa m] [(3,31)]] []
def qro (v:waB) (v2:waA) (p:tPred) (i:Int) (m:waA):PSt:=stt 56 [(1,sl cS v),(2,sl qaa v2),(3,.eptr (qaa p)),(6,.bptr 1 0),(7,.int .i64 i)] [.dead,.cells [.int .i64 0,.str ([]:Str),.int .i64 0,sl qaa m] [(3,31)]] []
def qhJ (v:waB) (v2:waA) (p:tPred) (i:Int) (m:waA) (o:Bool):PSt:=stt 56 [(1,sl cS v),(2,sl qaa v2),(3,.eptr (qaa p)),(6,.bptr 1 0),(7,.int .i64 i),(25,.bool o)] [.dead,.cells [.int .i64 0,.str ([]:Str),.int .i64 0,sl qaa m] [(3,31)]] []
def qjC (R24:qbt) (v2:waA) (i:Int):Option ((Bool)) :=
 if (decide (i ≥ 0)) = true then
  some (decide (i < (v2.length:Int)))
 else
  some false
theorem qqr (R24:qbt) (hR24:qe9 R24) (v:waB) (v2:waA) (p:tPred) (i:Int) (m:waA) {x:(Bool)} (h:qjC R24 v2 i = some x) :
  Sat Pg GE 0 (cA b128 106) (EX .normal (qhJ v v2 p i m x)) (qro v v2 p i m):=by
 rcases ifs h with ⟨c4,h⟩ | ⟨c4,h⟩
 ·obtain rfl:=lf h
  have z:=sg 3 c4 <| svn (sT29.ln v2) <| eF .normal (qhJ v v2 p i m (decide (i < (v2.length:Int))))
  exact pcZ A128 z (by kernel_rfl)
 ·obtain rfl:=lf h
  have z:=sg 3 c4 <| eF .normal (qhJ v v2 p i m false)
  exact pcZ A128 z (by kernel_rfl)
def qgv (R24:qbt) (v:waB) (v2:waA) (p:tPred):Option ((Int×Str×Int×waA)⊕(Unit)) :=
 if (p.Op == 3) = true then
  (qtw v p.Name).bind fun r3 =>
  (qjC R24 v2 r3).bind fun o5 =>
  if o5 = true then
   (idx v2 r3).bind fun x8 =>
   (qgC x8).bind fun r9 =>
   some (.inl (r9.Op,r9.Name,r9.N,r9.Kids))
  else
   some (.inr ())
 else
  some (.inr ())
theorem qkd (R24:qbt) (hR24:qe9 R24) (v:waB) (v2:waA) (p:tPred) (m:waA) {x:(Int×Str×Int×waA)⊕(Unit)} (h:qgv R24 v v2 p = some x) :
  Sat Pg GE 0 (cA b128 6) (EX (qeX x) (qcQ v v2 p m x)) (qsc v v2 p m):=by
 have p2:=fun {sc F} (r:PS sc F) => sv (qaZ p) <| sv (qa0 p) <| r
 rcases ifs h with ⟨c1,h⟩ | ⟨c1,h⟩
 ·obtain ⟨r3,br3,h⟩:=bnd h
  obtain ⟨o5,bo5,h⟩:=bnd h
  have p7:=fun {sc F} (r:PS sc F) => p2 <| sg 0 c1 <| sv (qa9 p) <| sv (qbm p) <| sca (qyM br3) <| spa 0 <| spc (qqr R24 hR24 v v2 p r3 m bo5) <| r
  rcases ifs h with ⟨c6,h⟩ | ⟨c6,h⟩
  ·obtain ⟨x8,bx8,h⟩:=bnd h
   obtain ⟨r9,br9,h⟩:=bnd h
   obtain rfl:=lf h
   have z:=p7 <| sg 0 c6 <| sv (sT29.ia (k := .i64) bx8) <| sv (qaj x8) <| sca (qgp br9) <| sy (qal r9) <| eF (qeX (.inl (r9.Op,r9.Name,r9.N,r9.Kids))) (qcQ v v2 p m (.inl (r9.Op,r9.Name,r9.N,r9.Kids)))
   exact pcZ A128 z (by kernel_rfl)
  ·obtain rfl:=lf h
   have z:=p7 <| sg 0 c6 <| eF (qeX (.inr ())) (qcQ v v2 p m (.inr ()))
   exact pcZ A128 z (by kernel_rfl)
 ·obtain rfl:=lf h
  have z:=p2 <| sg 0 c1 <| eF (qeX (.inr ())) (qcQ v v2 p m (.inr ()))
  exact pcZ A128 z (by kernel_rfl)
def qdz (v:waB) (v2:waA) (t39:waA) (t40:Int) (t41:Int) (m:waA) (m2:Int) (m3:Str) (m4:Int) (m5:waA):PSt:=stt 56 [(1,sl cS v),(2,sl qaa v2),(6,.bptr 1 0),(8,.bptr 2 0),(39,sl qaa t39),(40,.int .i64 t40),(41,.int .i64 t41)] [.dead,.cells [.int .i64 0,.str ([]:Str),.int .i64 0,sl qaa m] [(3,31)],.cells [.int .i64 m2,.str m3,.int .i64 m4,sl qaa m5] [(3,31)]] []
def qht (v:waB) (v2:waA) (t39:waA) (t40:Int) (m:waA) (m2:Int) (m3:Str) (m4:Int) (o:waA):PSt:=stt 56 [(6,.bptr 1 0),(8,.bptr 2 0)] [.dead,.cells [.int .i64 0,.str ([]:Str),.int .i64 0,sl qaa m] [(3,31)],.cells [.int .i64 m2,.str m3,.int .i64 m4,sl qaa o] [(3,31)]] []
def qkX (R24:qbt) (v:waB) (v2:waA) (t39:waA) (t40:Int) (t41:Int) (m5:waA):Option ((Int×waA)⊕((waA))) :=
 if (decide (t41 < t40)) = true then
  (idx t39 t41).bind fun x12 =>
  (R24 x12 v v2).bind fun r13 =>
  (app m5 ([r13]:List tPred)).bind fun l14 =>
  some (.inl (w64 (t41 + 1),l14))
 else
  some (.inr m5)
def qjn (R24:qbt) (v:waB) (v2:waA) (t39:waA) (t40:Int) (t41:Int) (m5:waA):Option ((waA)):=loop (fun (zz:Int×waA) => qkX R24 v v2 t39 t40 zz.1 zz.2) (t41,m5)
theorem qpy (R24:qbt) (hR24:qe9 R24) (v:waB) (v2:waA) (t39:waA) (t40:Int) (t41:Int) (m:waA) (m2:Int) (m3:Str) (m4:Int) (m5:waA) {y:(Int×waA)⊕((waA))} (h:qkX R24 v v2 t39 t40 t41 m5 = some y) :
  Sat Pg GE 0 (cA b128 247) (LQ (fun (zz:Int×waA) => qdz v v2 t39 t40 zz.1 m m2 m3 m4 zz.2) (fun _ => .exit 0) (qht v v2 t39 t40 m m2 m3 m4) y) (qdz v v2 t39 t40 t41 m m2 m3 m4 m5):=by
 rcases ifs h with ⟨c11,h⟩ | ⟨c11,h⟩
 ·obtain ⟨x12,bx12,h⟩:=bnd h
  obtain ⟨r13,br13,h⟩:=bnd h
  obtain ⟨l14,bl14,h⟩:=bnd h
  obtain rfl:=lf h
  have z:=sg 0 c11 <| sv (sT29.ia (k := .i64) bx12) <| sv (qaj x12) <| sx pz31 <| sx (qaw x12) <| sdr [0,1,0,0,0,28,60,127,255,511] <| sv (qar x12 []) <| sca (hR24 _ _ _ _ br13) <| sv (sT29.mk' (v:=qbq) qaE ([r13]:List tPred) 1 (by kernel_rfl)) <| sv (sT29.ap bl14) <| ssf (rfl:qaJ (sl qaa l14) = some [sl qaa l14]) <| eFx 0 .normal (qdz v v2 t39 t40 (w64 (t41 + 1)) m m2 m3 m4 l14) rfl (qbP (aI (up (qad clS v)) (aI (up (qad qab v2)) (aI (qch rfl) (aI (qch rfl) (aI (up (qad qab t39)) (aI trivial (aI trivial trivial)))))))) (aI trivial (aI (aI trivial (aI trivial (aI trivial (aI (up (qad qab m)) trivial)))) (aI (aI trivial (aI trivial (aI trivial (aI (up (qad qab l14)) trivial)))) trivial)))
  exact qbi (A:=A128) mixed z (by kernel_rfl)
 ·obtain rfl:=lf h
  have z:=sg 0 c11 <| eF (.exit 0) (qht v v2 t39 t40 m m2 m3 m4 m5)
  exact ovZ A128 (by intro hx; cases hx) z (by kernel_rfl)
theorem qqs (R24:qbt) (hR24:qe9 R24) (v:waB) (v2:waA) (t39:waA) (t40:Int) (t41:Int) (m:waA) (m2:Int) (m3:Str) (m4:Int) (m5:waA) {x:(waA)} (h:qjn R24 v v2 t39 t40 t41 m5 = some x) :
  Sat Pg GE 0 (.loop (cA b128 247)) (EX (.exit 0) (qht v v2 t39 t40 m m2 m3 m4 x)) (qdz v v2 t39 t40 t41 m m2 m3 m4 m5) :=
 Sat.loop (S:=fun (zz:Int×waA) => qdz v v2 t39 t40 zz.1 m m2 m3 m4 zz.2) (ex:=(fun _ => .exit 0)) (s:=(t41,m5)) h fun zz y hy => qpy R24 hR24 v v2 t39 t40 zz.1 m m2 m3 m4 zz.2 hy
def qg1 (R24:qbt) (p:tPred) (a:waB) (a2:waA):Option (tPred) :=
 (qgv R24 a a2 p).bind fun o10 => match o10 with
 | (.inl o10) =>
  some (⟨o10.1,o10.2.1,o10.2.2.1,o10.2.2.2⟩:tPred)
 | (.inr o10) =>
  (qjn R24 a a2 p.Kids (p.Kids.length:Int) 0 ([]:List tPred)).bind fun o15 =>
  some (⟨p.Op,p.Name,p.N,o15⟩:tPred)
theorem qs7 (R24:qbt) (hR24:qe9 R24) {p:tPred} {a:waB} {a2:waA} {r:tPred} (h:qg1 R24 p a a2 = some r):CC Pg GE 128 [.agg (qaa p),sl cS a,sl qaa a2] (.agg (qaa r)) [(3,31)]:=by
 obtain ⟨o10,bo10,h⟩:=bnd h
 rcases o10 with o10 | o10
 ·obtain rfl:=lf h
  have z:=se (qaL p) <| sx pz31 <| spa 0 <| spc (e := .ret) (s1:=qcQ a a2 p ([]:List tPred) (.inl o10)) (qkd R24 hR24 a a2 p ([]:List tPred) bo10) <| en (aI (qaY (⟨o10.1,o10.2.1,o10.2.2.1,o10.2.2.2⟩:tPred)) <| aI (qab (⟨o10.1,o10.2.1,o10.2.2.1,o10.2.2.2⟩:tPred)) <| rT)
  exact cvZ A128 Tryz.call128 Tryz.func128 (c:=b128) rfl (aI (qab p) (aI (qad clS a) (aI (qad qab a2) trivial))) z (by kernel_rfl)
 ·obtain ⟨o15,bo15,h⟩:=bnd h
  obtain rfl:=lf h
  have z:=se (qaL p) <| sx pz31 <| spa 0 <| spc (e := .normal) (s1:=qcQ a a2 p ([]:List tPred) (.inr o10)) (qkd R24 hR24 a a2 p ([]:List tPred) bo10) <| sv (qaZ p) <| sv (qa0 p) <| sv (qa9 p) <| sv (qbm p) <| sv (qcx p) <| sv (qda p) <| sb (qgj p.Op p.Name p.N) (qgh p.Op p.Name p.N) <| sx pz31 <| sy (qal (⟨p.Op,p.Name,p.N,([]:List tPred)⟩:tPred)) <| sv (qax p) <| sv (qay p) <| svn (sT29.ln p.Kids) <| spc (qqs R24 hR24 a a2 p.Kids (p.Kids.length:Int) 0 ([]:List tPred) p.Op p.Name p.N ([]:List tPred) bo15) <| sz (qar (⟨p.Op,p.Name,p.N,o15⟩:tPred) []) <| sy (qal (⟨p.Op,p.Name,p.N,o15⟩:tPred)) <| en (aI (qaY (⟨p.Op,p.Name,p.N,o15⟩:tPred)) <| aI (qab (⟨p.Op,p.Name,p.N,o15⟩:tPred)) <| rT)
  exact cvZ A128 Tryz.call128 Tryz.func128 (c:=b128) rfl (aI (qab p) (aI (qad clS a) (aI (qad qab a2) trivial))) z (by kernel_rfl)
def qki:((tPred×waB×waA)→Option (tPred))→(tPred×waB×waA)→Option (tPred):=fun (rec:(tPred×waB×waA)→Option (tPred)) (x:tPred×waB×waA) => qg1 (fun p a a2 => rec (p,a,a2)) x.1 x.2.1 x.2.2
def qjO (p:tPred) (a:waB) (a2:waA):Option (tPred):=fixE (qki) (p,a,a2)
theorem qnm {p:tPred} {a:waB} {a2:waA} {r:tPred} (h:qjO p a a2 = some r):CC Pg GE 128 [.agg (qaa p),sl cS a,sl qaa a2] (.agg (qaa r)) [(3,31)] :=
 qbX (F:=qki) (M:=fun (x:tPred×waB×waA) (r:tPred) => CC Pg GE 128 [.agg (qaa x.1),sl cS x.2.1,sl qaa x.2.2] (.agg (qaa r)) [(3,31)]) (fun rec hrec x r h => qs7 _ (fun p a a2 r h => hrec (p,a,a2) r h) h) h
noncomputable def b102:Code:=Tryz.f102.body.getD .skip
def A102:List Nat:=[]
def qxm (p:tPred) (name:Str) (a:tPred):Option (tPred) :=
 (qjO p ([name]:List Str) ([a]:List tPred)).bind fun r1 =>
 some r1
theorem qyE {p:tPred} {name:Str} {a:tPred} {r:tPred} (h:qxm p name a = some r):CC Pg GE 102 [.agg (qaa p),.str name,.agg (qaa a)] (.agg (qaa r)) [(3,31)]:=by
 obtain ⟨r1,br1,h⟩:=bnd h
 obtain rfl:=lf h
 have z:=se (qaL p) <| se (qaL a) <| sx pz31 <| sv (qaj p) <| sv (sT22.mk' (v:=PVal.str) pcS ([name]:List Str) 1 (by kernel_rfl)) <| sv (qaj a) <| sv (sT29.mk' (v:=qbq) qaE ([a]:List tPred) 1 (by kernel_rfl)) <| sca (qnm br1) <| sy (qal r1) <| en (aI (qaY r1) <| aI (qab r1) <| rT)
 exact cvZ A102 Tryz.call102 Tryz.func102 (c:=b102) rfl (aI (qab p) (aI trivial (aI (qab a) trivial))) z (by kernel_rfl)
noncomputable def b65:Code:=Tryz.f65.body.getD .skip
def A65:List Nat:=[]
def qtn (p:tPred) (params:waF) (preds:waA) (m:waA) (m2:Int) (m3:Str) (m4:Int) (m5:waA):PSt:=stt 61 [(3,.eptr (qaa p)),(4,.eptr ((cL qaz) params)),(5,.eptr ((cL qaa) preds)),(6,.bptr 3 0),(7,.bptr 4 0)] [.dead,.dead,.dead,.cells [.int .i64 0,.str ([]:Str),.int .i64 0,sl qaa m] [(3,31)],.cells [.int .i64 m2,.str m3,.int .i64 m4,sl qaa m5] [(3,31)]] []
def qin (p:tPred) (params:waF) (preds:waA) (m:waA) (m2:Int) (m3:Str) (m4:Int) (m5:waA) (o:Bool):PSt:=stt 61 [(3,.eptr (qaa p)),(4,.eptr ((cL qaz) params)),(5,.eptr ((cL qaa) preds)),(6,.bptr 3 0),(7,.bptr 4 0),(29,.bool o)] [.dead,.dead,.dead,.cells [.int .i64 0,.str ([]:Str),.int .i64 0,sl qaa m] [(3,31)],.cells [.int .i64 m2,.str m3,.int .i64 m4,sl qaa m5] [(3,31)]] []
def qn1 (R16:qba) (p:tPred):Option ((Bool)) :=
 if (p.Op != 4) = true then
  some true
 else
  some ((p.Kids.length:Int) != 1)
theorem qr8 (R16:qba) (hR16:qdL R16) (p:tPred) (params:waF) (preds:waA) (m:waA) (m2:Int) (m3:Str) (m4:Int) (m5:waA) {x:(Bool)} (h:qn1 R16 p = some x) :
  Sat Pg GE 0 (cA b65 60) (EX .normal (qin p params preds m m2 m3 m4 m5 x)) (qtn p params preds m m2 m3 m4 m5):=by
 have p3:=fun {sc F} (r:PS sc F) => sv (qaZ p) <| sv (qa0 p) <| r
 rcases ifs h with ⟨c2,h⟩ | ⟨c2,h⟩
 ·obtain rfl:=lf h
  have z:=p3 <| sg 4 c2 <| eF .normal (qin p params preds m m2 m3 m4 m5 true)
  exact pcZ A65 z (by kernel_rfl)
 ·obtain rfl:=lf h
  have z:=p3 <| sg 4 c2 <| sv (qax p) <| sv (qay p) <| svn (sT29.ln p.Kids) <| eF .normal (qin p params preds m m2 m3 m4 m5 ((p.Kids.length:Int) != 1))
  exact pcZ A65 z (by kernel_rfl)
def qsw (preds:waA) (i:Int) (m:waA) (m2:Int) (m3:Str) (m4:Int) (m5:waA):PSt:=stt 61 [(5,.eptr ((cL qaa) preds)),(6,.bptr 3 0),(7,.bptr 4 0),(8,.int .i64 i)] [.dead,.dead,.dead,.cells [.int .i64 0,.str ([]:Str),.int .i64 0,sl qaa m] [(3,31)],.cells [.int .i64 m2,.str m3,.int .i64 m4,sl qaa m5] [(3,31)]] []
def qix (preds:waA) (i:Int) (m:waA) (m2:Int) (m3:Str) (m4:Int) (m5:waA) (o:Bool):PSt:=stt 61 [(5,.eptr ((cL qaa) preds)),(6,.bptr 3 0),(7,.bptr 4 0),(8,.int .i64 i),(38,.bool o)] [.dead,.dead,.dead,.cells [.int .i64 0,.str ([]:Str),.int .i64 0,sl qaa m] [(3,31)],.cells [.int .i64 m2,.str m3,.int .i64 m4,sl qaa m5] [(3,31)]] []
def qoq (R16:qba) (preds:waA) (i:Int):Option ((Bool)) :=
 if (decide (i ≥ (preds.length:Int))) = true then
  some true
 else
  (idx preds i).bind fun x12 =>
  (qlU x12 (⟨0,([]:Str),0,([]:List tPred)⟩:tPred)).bind fun r13 =>
  some r13
theorem qrE (R16:qba) (hR16:qdL R16) (preds:waA) (i:Int) (m:waA) (m2:Int) (m3:Str) (m4:Int) (m5:waA) {x:(Bool)} (h:qoq R16 preds i = some x) :
  Sat Pg GE 0 (cA b65 2030) (EX .normal (qix preds i m m2 m3 m4 m5 x)) (qsw preds i m m2 m3 m4 m5):=by
 have p11:=fun {sc F} (r:PS sc F) => sv (qaR sc29 (sl qaa preds) []) <| svn (sT29.ln preds) <| r
 rcases ifs h with ⟨c10,h⟩ | ⟨c10,h⟩
 ·obtain rfl:=lf h
  have z:=p11 <| sg 5 c10 <| eF .normal (qix preds i m m2 m3 m4 m5 true)
  exact pcZ A65 z (by kernel_rfl)
 ·obtain ⟨x12,bx12,h⟩:=bnd h
  obtain ⟨r13,br13,h⟩:=bnd h
  obtain rfl:=lf h
  have z:=p11 <| sg 5 c10 <| sv (qaR sc29 (sl qaa preds) []) <| sv (sT29.ia (k := .i64) bx12) <| sv (qaj x12) <| sb (qtu ) (qtm ) <| sca (qjb br13) <| eF .normal (qix preds i m m2 m3 m4 m5 r13)
  exact pcZ A65 z (by kernel_rfl)
def qpH (R16:qba) (p:tPred) (params:waF) (preds:waA):Option (tPred) :=
 (qlX R16 p.Kids params preds).bind fun r1 =>
 (qn1 R16 p).bind fun o4 =>
 if o4 = true then
  some (⟨p.Op,p.Name,p.N,r1⟩:tPred)
 else
  (qnq params p).bind fun r7 =>
  if (decide (r7 < 0)) = true then
   some (⟨p.Op,p.Name,p.N,r1⟩:tPred)
  else
   (qoq R16 preds r7).bind fun o14 =>
   if o14 = true then
    some (⟨2,([]:Str),1,([]:List tPred)⟩:tPred)
   else
    (idx preds r7).bind fun x17 =>
    (idx r1 0).bind fun x18 =>
    (qxm x17 ([118]:Str) x18).bind fun r19 =>
    some r19
theorem quk (R16:qba) (hR16:qdL R16) {p:tPred} {params:waF} {preds:waA} {r:tPred} (h:qpH R16 p params preds = some r):CC Pg GE 65 [.agg (qaa p),sl qaz params,sl qaa preds] (.agg (qaa r)) [(3,31)]:=by
 obtain ⟨r1,br1,h⟩:=bnd h
 obtain ⟨o4,bo4,h⟩:=bnd h
 have p6:=fun {sc F} (r:PS sc F) => se (qaL p) <| se (pcL qaz params) <| se (pcL qaa preds) <| sx pz31 <| sv (qaZ p) <| sv (qa0 p) <| sv (qa9 p) <| sv (qbm p) <| sv (qcx p) <| sv (qda p) <| sb (qgj p.Op p.Name p.N) (qgh p.Op p.Name p.N) <| sx pz31 <| sy (qal (⟨p.Op,p.Name,p.N,([]:List tPred)⟩:tPred)) <| sv (qax p) <| sv (qay p) <| sca (qpm R16 hR16 br1) <| spa 1 <| spc (qr8 R16 hR16 p params preds ([]:List tPred) p.Op p.Name p.N r1 bo4) <| r
 rcases ifs h with ⟨c5,h⟩ | ⟨c5,h⟩
 ·obtain rfl:=lf h
  have z:=p6 <| sg 0 c5 <| sz (qar (⟨p.Op,p.Name,p.N,r1⟩:tPred) []) <| sy (qal (⟨p.Op,p.Name,p.N,r1⟩:tPred)) <| en (aI (qaY (⟨p.Op,p.Name,p.N,r1⟩:tPred)) <| aI (qab (⟨p.Op,p.Name,p.N,r1⟩:tPred)) <| rT)
  exact cvZ A65 Tryz.call65 Tryz.func65 (c:=b65) rfl (aI (qab p) (aI (qad qbN params) (aI (qad qab preds) trivial))) z (by kernel_rfl)
 ·obtain ⟨r7,br7,h⟩:=bnd h
  have p9:=fun {sc F} (r:PS sc F) => p6 <| sg 0 c5 <| sv (qaR sc36 (sl qaz params) []) <| sca (qp7 br7) <| r
  rcases ifs h with ⟨c8,h⟩ | ⟨c8,h⟩
  ·obtain rfl:=lf h
   have z:=p9 <| sg 0 c8 <| sz (qar (⟨p.Op,p.Name,p.N,r1⟩:tPred) []) <| sy (qal (⟨p.Op,p.Name,p.N,r1⟩:tPred)) <| en (aI (qaY (⟨p.Op,p.Name,p.N,r1⟩:tPred)) <| aI (qab (⟨p.Op,p.Name,p.N,r1⟩:tPred)) <| rT)
   exact cvZ A65 Tryz.call65 Tryz.func65 (c:=b65) rfl (aI (qab p) (aI (qad qbN params) (aI (qad qab preds) trivial))) z (by kernel_rfl)
  ·obtain ⟨o14,bo14,h⟩:=bnd h
   have p16:=fun {sc F} (r:PS sc F) => p9 <| sg 0 c8 <| spa 0 <| spc (qrE R16 hR16 preds r7 ([]:List tPred) p.Op p.Name p.N r1 bo14) <| r
   rcases ifs h with ⟨c15,h⟩ | ⟨c15,h⟩
   ·obtain rfl:=lf h
    have z:=p16 <| sg 0 c15 <| sb (qoI 2 1) (qn9 2 1) <| sy (qal (⟨2,([]:Str),1,([]:List tPred)⟩:tPred)) <| en (aI (qaY (⟨2,([]:Str),1,([]:List tPred)⟩:tPred)) <| aI (qab (⟨2,([]:Str),1,([]:List tPred)⟩:tPred)) <| rT)
    exact cvZ A65 Tryz.call65 Tryz.func65 (c:=b65) rfl (aI (qab p) (aI (qad qbN params) (aI (qad qab preds) trivial))) z (by kernel_rfl)
   ·obtain ⟨x17,bx17,h⟩:=bnd h
    obtain ⟨x18,bx18,h⟩:=bnd h
    obtain ⟨r19,br19,h⟩:=bnd h
    obtain rfl:=lf h
    have z:=p16 <| sg 0 c15 <| sdr [0,0,3,7,0,16,48,112,255,511] <| sv (qaR sc29 (sl qaa preds) []) <| sv (sT29.ia (k := .i64) bx17) <| sv (qaj x17) <| ss <| sv (sT29.ia (k := .i64) bx18) <| sv (qaj x18) <| sca (qyE br19) <| syx (qaw r19) <| en (aI (qaY r19) <| aI (qab r19) <| rT)
    exact cvZ A65 Tryz.call65 Tryz.func65 (c:=b65) rfl (aI (qab p) (aI (qad qbN params) (aI (qad qab preds) trivial))) z (by kernel_rfl)
def qpL:((tPred×waF×waA)→Option (tPred))→(tPred×waF×waA)→Option (tPred):=fun (rec:(tPred×waF×waA)→Option (tPred)) (x:tPred×waF×waA) => qpH (fun p params preds => rec (p,params,preds)) x.1 x.2.1 x.2.2
def qt8 (p:tPred) (params:waF) (preds:waA):Option (tPred):=fixE (qpL) (p,params,preds)
theorem qwi {p:tPred} {params:waF} {preds:waA} {r:tPred} (h:qt8 p params preds = some r):CC Pg GE 65 [.agg (qaa p),sl qaz params,sl qaa preds] (.agg (qaa r)) [(3,31)] :=
 qbX (F:=qpL) (M:=fun (x:tPred×waF×waA) (r:tPred) => CC Pg GE 65 [.agg (qaa x.1),sl qaz x.2.1,sl qaa x.2.2] (.agg (qaa r)) [(3,31)]) (fun rec hrec x r h => quk _ (fun p params preds r h => hrec (p,params,preds) r h) h) h
noncomputable def b64:Code:=Tryz.f64.body.getD .skip
def A64:List Nat:=[]
def qgH (p:tPred) (a:tData) (a2:waA):Option (tPred) :=
 (qt8 p a.Preds a2).bind fun r1 =>
 some r1
theorem qh5 {p:tPred} {a:tData} {a2:waA} {r:tPred} (h:qgH p a a2 = some r):CC Pg GE 64 [.agg (qaa p),.eptr (qaK a),.eptr ((cL qaa) a2)] (.agg (qaa r)) [(3,31)]:=by
 obtain ⟨r1,br1,h⟩:=bnd h
 obtain rfl:=lf h
 have z:=se (qaL p) <| sx pz31 <| sv (qaj p) <| sv (qyp a) <| sv (qyJ a) <| sv (qaR sc29 (sl qaa a2) []) <| sca (qwi br1) <| sy (qal r1) <| en (aI (qaY r1) <| aI (qab r1) <| rT)
 exact cvZ A64 Tryz.call64 Tryz.func64 (c:=b64) rfl (aI (qab p) (aI (qdA a) (aI (clLs qab a2) trivial))) z (by kernel_rfl)
def qcn (v:tData) (v2:waA) (out:waA) (t8:waA) (t9:Int) (t10:Int):PSt:=stt 22 [(1,.func (.func 64) [] [.eptr (qaK v),.eptr ((cL qaa) v2)]),(5,sl qaa out),(8,sl qaa t8),(9,.int .i64 t9),(10,.int .i64 t10)] [] [((5,0),31)]
def qeR (v:tData) (v2:waA) (t8:waA) (t9:Int) (o:waA):PSt:=stt 22 [(5,sl qaa o)] [] [((5,0),31)]
def qh2 (v:tData) (v2:waA) (t8:waA) (t9:Int) (out:waA) (t10:Int):Option ((waA×Int)⊕((waA))) :=
 if (decide (t10 < t9)) = true then
  (idx t8 t10).bind fun x2 =>
  (qgH x2 v v2).bind fun r3 =>
  (app out ([r3]:List tPred)).bind fun l4 =>
  some (.inl (l4,w64 (t10 + 1)))
 else
  some (.inr out)
def qjF (v:tData) (v2:waA) (t8:waA) (t9:Int) (out:waA) (t10:Int):Option ((waA)):=loop (fun (zz:waA×Int) => qh2 v v2 t8 t9 zz.1 zz.2) (out,t10)
theorem qlQ (v:tData) (v2:waA) (out:waA) (t8:waA) (t9:Int) (t10:Int) {y:(waA×Int)⊕((waA))} (h:qh2 v v2 t8 t9 out t10 = some y) :
  Sat Pg GE 0 (cA b56 119) (LQ (fun (zz:waA×Int) => qcn v v2 zz.1 t8 t9 zz.2) (fun _ => .exit 0) (qeR v v2 t8 t9) y) (qcn v v2 out t8 t9 t10):=by
 rcases ifs h with ⟨c1,h⟩ | ⟨c1,h⟩
 ·obtain ⟨x2,bx2,h⟩:=bnd h
  obtain ⟨r3,br3,h⟩:=bnd h
  obtain ⟨l4,bl4,h⟩:=bnd h
  obtain rfl:=lf h
  have z:=sg 0 c1 <| sv (sT29.ia (k := .i64) bx2) <| sv (qaj x2) <| sx pz31 <| sx (qaw x2) <| sv (qar x2 []) <| sca (qh5 br3) <| sv (sT29.mk' (v:=qbq) qaE ([r3]:List tPred) 1 (by kernel_rfl)) <| sv (sT29.ap bl4) <| eFx 0 .normal (qcn v v2 l4 t8 t9 (w64 (t10 + 1))) rfl (qbP (aI (aI trivial (aI (qbO (qdA v)) (aI (qbO (clLs qab v2)) trivial))) (aI (up (qad qab l4)) (aI (up (qad qab t8)) (aI trivial (aI trivial trivial)))))) trivial
  exact qbi (A:=A56) mixed z (by kernel_rfl)
 ·obtain rfl:=lf h
  have z:=sg 0 c1 <| eF (.exit 0) (qeR v v2 t8 t9 out)
  exact ovZ A56 (by intro hx; cases hx) z (by kernel_rfl)
theorem qmA (v:tData) (v2:waA) (out:waA) (t8:waA) (t9:Int) (t10:Int) {x:(waA)} (h:qjF v v2 t8 t9 out t10 = some x) :
  Sat Pg GE 0 (.loop (cA b56 119)) (EX (.exit 0) (qeR v v2 t8 t9 x)) (qcn v v2 out t8 t9 t10) :=
 Sat.loop (S:=fun (zz:waA×Int) => qcn v v2 zz.1 t8 t9 zz.2) (ex:=(fun _ => .exit 0)) (s:=(out,t10)) h fun zz y hy => qlQ v v2 zz.1 t8 t9 zz.2 hy
def qlJ (a:waA) (c:tData) (c2:waA):Option (waA) :=
 (qjF c c2 a (a.length:Int) ([]:List tPred) 0).bind fun o5 =>
 some o5
theorem qpl {a:waA} {c:tData} {c2:waA} {r:waA} (h:qlJ a c c2 = some r):CC Pg GE 56 [sl qaa a,.func (.func 64) [] [.eptr (qaK c),.eptr ((cL qaa) c2)]] (sl qaa r) [(0,31)]:=by
 obtain ⟨o5,bo5,h⟩:=bnd h
 obtain rfl:=lf h
 have z:=svn (sT29.ln a) <| spc (qmA c c2 ([]:List tPred) a (a.length:Int) 0 bo5) <| en (aI (rP (sl qaa o5)) <| (qad qab o5))
 exact cvZ A56 Tryz.call56 Tryz.func56 (c:=b56) rfl (aI (qad qab a) (aI (aI trivial (aI (qdA c) (aI (clLs qab c2) trivial))) trivial)) z (by kernel_rfl)
noncomputable def b88:Code:=Tryz.f88.body.getD .skip
def A88:List Nat:=[]
def qk3 (R14:qa5) (a:tType) (c:tData) (c2:waA):Option (tType) :=
 (R14 a c c2).bind fun r1 =>
 some r1
theorem qoE (R14:qa5) (hR14:qdC R14) {a:tType} {c:tData} {c2:waA} {r:tType} (h:qk3 R14 a c c2 = some r):CC Pg GE 88 [.agg (qac a),.eptr [.func (.func 64) [] [.eptr (qaK c),.eptr ((cL qaa) c2)]]] (.agg (qac r)) [(2,33)]:=by
 obtain ⟨r1,br1,h⟩:=bnd h
 obtain rfl:=lf h
 have z:=se (qbH a) <| sx pz33 <| sv (qaW a) <| sv (qaR qC7 (.func (.func 64) [] [.eptr (qaK c),.eptr ((cL qaa) c2)]) []) <| sca (hR14 _ _ _ _ br1) <| sy (qav r1) <| en (aI (qbR r1) <| aI (qaf r1) <| rT)
 exact cvZ A88 Tryz.call88 Tryz.func88 (c:=b88) rfl (aI (qaf a) (aI (aI (aI trivial (aI (qdA c) (aI (clLs qab c2) trivial))) trivial) trivial)) z (by kernel_rfl)
noncomputable def b62:Code:=Tryz.f62.body.getD .skip
def A62:List Nat:=[14,21]
def qcm (v:tData) (v2:waA) (out:waC) (t8:waC) (t9:Int) (t10:Int):PSt:=stt 22 [(1,.func (.func 88) [] [.eptr [.func (.func 64) [] [.eptr (qaK v),.eptr ((cL qaa) v2)]]]),(5,sl qac out),(8,sl qac t8),(9,.int .i64 t9),(10,.int .i64 t10)] [] [((5,0),33)]
def qeV (v:tData) (v2:waA) (t8:waC) (t9:Int) (o:waC):PSt:=stt 22 [(5,sl qac o)] [] [((5,0),33)]
def qh8 (R14:qa5) (v:tData) (v2:waA) (t8:waC) (t9:Int) (out:waC) (t10:Int):Option ((waC×Int)⊕((waC))) :=
 if (decide (t10 < t9)) = true then
  (idx t8 t10).bind fun x2 =>
  (qk3 R14 x2 v v2).bind fun r3 =>
  (app out ([r3]:List tType)).bind fun l4 =>
  some (.inl (l4,w64 (t10 + 1)))
 else
  some (.inr out)
def qjI (R14:qa5) (v:tData) (v2:waA) (t8:waC) (t9:Int) (out:waC) (t10:Int):Option ((waC)):=loop (fun (zz:waC×Int) => qh8 R14 v v2 t8 t9 zz.1 zz.2) (out,t10)
theorem ql2 (R14:qa5) (hR14:qdC R14) (v:tData) (v2:waA) (out:waC) (t8:waC) (t9:Int) (t10:Int) {y:(waC×Int)⊕((waC))} (h:qh8 R14 v v2 t8 t9 out t10 = some y) :
  Sat Pg GE 0 (cA b62 119) (LQ (fun (zz:waC×Int) => qcm v v2 zz.1 t8 t9 zz.2) (fun _ => .exit 0) (qeV v v2 t8 t9) y) (qcm v v2 out t8 t9 t10):=by
 rcases ifs h with ⟨c1,h⟩ | ⟨c1,h⟩
 ·obtain ⟨x2,bx2,h⟩:=bnd h
  obtain ⟨r3,br3,h⟩:=bnd h
  obtain ⟨l4,bl4,h⟩:=bnd h
  obtain rfl:=lf h
  have z:=sg 0 c1 <| sv (sT27.ia (k := .i64) bx2) <| sv (qaW x2) <| sx pz33 <| sx (qbA x2) <| sv (qbn x2 []) <| sca (qoE R14 hR14 br3) <| sv (sT27.mk' (v:=qha) qdn ([r3]:List tType) 1 (by kernel_rfl)) <| sv (sT27.ap bl4) <| eFx 0 .normal (qcm v v2 l4 t8 t9 (w64 (t10 + 1))) rfl (qbP (aI (aI trivial (aI (aI (aI trivial (aI (qbO (qdA v)) (aI (qbO (clLs qab v2)) trivial))) trivial) trivial)) (aI (up (qad qaf l4)) (aI (up (qad qaf t8)) (aI trivial (aI trivial trivial)))))) trivial
  exact qbi (A:=A62) mixed z (by kernel_rfl)
 ·obtain rfl:=lf h
  have z:=sg 0 c1 <| eF (.exit 0) (qeV v v2 t8 t9 out)
  exact ovZ A62 (by intro hx; cases hx) z (by kernel_rfl)
theorem qmW (R14:qa5) (hR14:qdC R14) (v:tData) (v2:waA) (out:waC) (t8:waC) (t9:Int) (t10:Int) {x:(waC)} (h:qjI R14 v v2 t8 t9 out t10 = some x) :
  Sat Pg GE 0 (.loop (cA b62 119)) (EX (.exit 0) (qeV v v2 t8 t9 x)) (qcm v v2 out t8 t9 t10) :=
 Sat.loop (S:=fun (zz:waC×Int) => qcm v v2 zz.1 t8 t9 zz.2) (ex:=(fun _ => .exit 0)) (s:=(out,t10)) h fun zz y hy => ql2 R14 hR14 v v2 zz.1 t8 t9 zz.2 hy
def qlL (R14:qa5) (a:waC) (c:tData) (c2:waA):Option (waC) :=
 (qjI R14 c c2 a (a.length:Int) ([]:List tType) 0).bind fun o5 =>
 some o5
theorem qpr (R14:qa5) (hR14:qdC R14) {a:waC} {c:tData} {c2:waA} {r:waC} (h:qlL R14 a c c2 = some r):CC Pg GE 62 [sl qac a,.func (.func 88) [] [.eptr [.func (.func 64) [] [.eptr (qaK c),.eptr ((cL qaa) c2)]]]] (sl qac r) [(0,33)]:=by
 obtain ⟨o5,bo5,h⟩:=bnd h
 obtain rfl:=lf h
 have z:=svn (sT27.ln a) <| spc (qmW R14 hR14 c c2 ([]:List tType) a (a.length:Int) 0 bo5) <| en (aI (rP (sl qac o5)) <| (qad qaf o5))
 exact cvZ A62 Tryz.call62 Tryz.func62 (c:=b62) rfl (aI (qad qaf a) (aI (aI trivial (aI (aI (aI trivial (aI (qdA c) (aI (clLs qab c2) trivial))) trivial) trivial)) trivial)) z (by kernel_rfl)
noncomputable def b51:Code:=Tryz.f51.body.getD .skip
def A51:List Nat:=[]
def qk1 (R14:qa5) (t:tType) (c:tData) (c2:waA):Option (tType) :=
 (qi5 t.Names).bind fun r1 =>
 (qgH t.Pred c c2).bind fun r2 =>
 (qlJ t.Preds c c2).bind fun r3 =>
 (qlL R14 t.Args c c2).bind fun r4 =>
 some (⟨t.Op,t.Name,r4,r1,r2,r3⟩:tType)
theorem qpx (R14:qa5) (hR14:qdC R14) {t:tType} {c:tData} {c2:waA} {r:tType} (h:qk1 R14 t c c2 = some r):CC Pg GE 51 [.agg (qac t),.func (.func 64) [] [.eptr (qaK c),.eptr ((cL qaa) c2)]] (.agg (qac r)) [(2,33)]:=by
 obtain ⟨r1,br1,h⟩:=bnd h
 obtain ⟨r2,br2,h⟩:=bnd h
 obtain ⟨r3,br3,h⟩:=bnd h
 obtain ⟨r4,br4,h⟩:=bnd h
 obtain rfl:=lf h
 have z:=se (qbH t) <| se (rfl:qaJ (.func (.func 64) [] [.eptr (qaK c),.eptr ((cL qaa) c2)]) = some [.func (.func 64) [] [.eptr (qaK c),.eptr ((cL qaa) c2)]]) <| sx pz33 <| sdr [0,1,0,4,0,16,48,0,0,256,1008,0,2048,0,16368,32767,0,131071] <| sv (qbv t) <| sv (qbw t) <| sv (qdB t) <| sv (qef t) <| sv (qan t) <| sv (qao t) <| sca (qoY br1) <| sv (qaR qC7 (.func (.func 64) [] [.eptr (qaK c),.eptr ((cL qaa) c2)]) []) <| sv (qbV t) <| sv (qbY t) <| sca (qh5 br2) <| sv (qbp t) <| sv (qbo t) <| sv (qaR qC7 (.func (.func 64) [] [.eptr (qaK c),.eptr ((cL qaa) c2)]) []) <| sca (qpl br3) <| sb (qhe t.Op t.Name r1 r2 r3) (qhB t.Op t.Name r1 r2 r3) <| syx (qbA (⟨t.Op,t.Name,([]:List tType),r1,r2,r3⟩:tType)) <| sv (qaH t) <| sv (qaI t) <| sca (qpr R14 hR14 br4) <| sz (qbn (⟨t.Op,t.Name,r4,r1,r2,r3⟩:tType) []) <| sy (qav (⟨t.Op,t.Name,r4,r1,r2,r3⟩:tType)) <| en (aI (qbR (⟨t.Op,t.Name,r4,r1,r2,r3⟩:tType)) <| aI (qaf (⟨t.Op,t.Name,r4,r1,r2,r3⟩:tType)) <| rT)
 exact cvZ A51 Tryz.call51 Tryz.func51 (c:=b51) rfl (aI (qaf t) (aI (aI trivial (aI (qdA c) (aI (clLs qab c2) trivial))) trivial)) z (by kernel_rfl)
def qkT:((tType×tData×waA)→Option (tType))→(tType×tData×waA)→Option (tType):=fun (rec:(tType×tData×waA)→Option (tType)) (x:tType×tData×waA) => qk1 (fun t c c2 => rec (t,c,c2)) x.1 x.2.1 x.2.2
def qnu (t:tType) (c:tData) (c2:waA):Option (tType):=fixE (qkT) (t,c,c2)
theorem qqt {t:tType} {c:tData} {c2:waA} {r:tType} (h:qnu t c c2 = some r):CC Pg GE 51 [.agg (qac t),.func (.func 64) [] [.eptr (qaK c),.eptr ((cL qaa) c2)]] (.agg (qac r)) [(2,33)] :=
 qbX (F:=qkT) (M:=fun (x:tType×tData×waA) (r:tType) => CC Pg GE 51 [.agg (qac x.1),.func (.func 64) [] [.eptr (qaK x.2.1),.eptr ((cL qaa) x.2.2)]] (.agg (qac r)) [(2,33)]) (fun rec hrec x r h => qpx _ (fun t c c2 r h => hrec (t,c,c2) r h) h) h
noncomputable def b63:Code:=Tryz.f63.body.getD .skip
def A63:List Nat:=[]
def qlZ (t:tType) (a:tData) (a2:waA):Option (tType) :=
 (qnu t a a2).bind fun r1 =>
 some r1
theorem qpB {t:tType} {a:tData} {a2:waA} {r:tType} (h:qlZ t a a2 = some r):CC Pg GE 63 [.agg (qac t),.eptr (qaK a),.eptr ((cL qaa) a2)] (.agg (qac r)) [(2,33)]:=by
 obtain ⟨r1,br1,h⟩:=bnd h
 obtain rfl:=lf h
 have z:=se (qbH t) <| sx pz33 <| sv (qaW t) <| sca (qqt br1) <| sy (qav r1) <| en (aI (qbR r1) <| aI (qaf r1) <| rT)
 exact cvZ A63 Tryz.call63 Tryz.func63 (c:=b63) rfl (aI (qaf t) (aI (qdA a) (aI (clLs qab a2) trivial))) z (by kernel_rfl)
def qco (v:tData) (v2:waA) (out:waC) (t8:waC) (t9:Int) (t10:Int):PSt:=stt 22 [(1,.func (.func 63) [] [.eptr (qaK v),.eptr ((cL qaa) v2)]),(5,sl qac out),(8,sl qac t8),(9,.int .i64 t9),(10,.int .i64 t10)] [] [((5,0),33)]
def qeQ (v:tData) (v2:waA) (t8:waC) (t9:Int) (o:waC):PSt:=stt 22 [(5,sl qac o)] [] [((5,0),33)]
def qid (v:tData) (v2:waA) (t8:waC) (t9:Int) (out:waC) (t10:Int):Option ((waC×Int)⊕((waC))) :=
 if (decide (t10 < t9)) = true then
  (idx t8 t10).bind fun x2 =>
  (qlZ x2 v v2).bind fun r3 =>
  (app out ([r3]:List tType)).bind fun l4 =>
  some (.inl (l4,w64 (t10 + 1)))
 else
  some (.inr out)
def qjH (v:tData) (v2:waA) (t8:waC) (t9:Int) (out:waC) (t10:Int):Option ((waC)):=loop (fun (zz:waC×Int) => qid v v2 t8 t9 zz.1 zz.2) (out,t10)
theorem ql1 (v:tData) (v2:waA) (out:waC) (t8:waC) (t9:Int) (t10:Int) {y:(waC×Int)⊕((waC))} (h:qid v v2 t8 t9 out t10 = some y) :
  Sat Pg GE 0 (cA b62 119) (LQ (fun (zz:waC×Int) => qco v v2 zz.1 t8 t9 zz.2) (fun _ => .exit 0) (qeQ v v2 t8 t9) y) (qco v v2 out t8 t9 t10):=by
 rcases ifs h with ⟨c1,h⟩ | ⟨c1,h⟩
 ·obtain ⟨x2,bx2,h⟩:=bnd h
  obtain ⟨r3,br3,h⟩:=bnd h
  obtain ⟨l4,bl4,h⟩:=bnd h
  obtain rfl:=lf h
  have z:=sg 0 c1 <| sv (sT27.ia (k := .i64) bx2) <| sv (qaW x2) <| sx pz33 <| sx (qbA x2) <| sv (qbn x2 []) <| sca (qpB br3) <| sv (sT27.mk' (v:=qha) qdn ([r3]:List tType) 1 (by kernel_rfl)) <| sv (sT27.ap bl4) <| eFx 0 .normal (qco v v2 l4 t8 t9 (w64 (t10 + 1))) rfl (qbP (aI (aI trivial (aI (qbO (qdA v)) (aI (qbO (clLs qab v2)) trivial))) (aI (up (qad qaf l4)) (aI (up (qad qaf t8)) (aI trivial (aI trivial trivial)))))) trivial
  exact qbi (A:=A62) mixed z (by kernel_rfl)
 ·obtain rfl:=lf h
  have z:=sg 0 c1 <| eF (.exit 0) (qeQ v v2 t8 t9 out)
  exact ovZ A62 (by intro hx; cases hx) z (by kernel_rfl)
theorem qm1 (v:tData) (v2:waA) (out:waC) (t8:waC) (t9:Int) (t10:Int) {x:(waC)} (h:qjH v v2 t8 t9 out t10 = some x) :
  Sat Pg GE 0 (.loop (cA b62 119)) (EX (.exit 0) (qeQ v v2 t8 t9 x)) (qco v v2 out t8 t9 t10) :=
 Sat.loop (S:=fun (zz:waC×Int) => qco v v2 zz.1 t8 t9 zz.2) (ex:=(fun _ => .exit 0)) (s:=(out,t10)) h fun zz y hy => ql1 v v2 zz.1 t8 t9 zz.2 hy
def qlW (a:waC) (c:tData) (c2:waA):Option (waC) :=
 (qjH c c2 a (a.length:Int) ([]:List tType) 0).bind fun o5 =>
 some o5
theorem qpC {a:waC} {c:tData} {c2:waA} {r:waC} (h:qlW a c c2 = some r):CC Pg GE 62 [sl qac a,.func (.func 63) [] [.eptr (qaK c),.eptr ((cL qaa) c2)]] (sl qac r) [(0,33)]:=by
 obtain ⟨o5,bo5,h⟩:=bnd h
 obtain rfl:=lf h
 have z:=svn (sT27.ln a) <| spc (qm1 c c2 ([]:List tType) a (a.length:Int) 0 bo5) <| en (aI (rP (sl qac o5)) <| (qad qaf o5))
 exact cvZ A62 Tryz.call62 Tryz.func62 (c:=b62) rfl (aI (qad qaf a) (aI (aI trivial (aI (qdA c) (aI (clLs qab c2) trivial))) trivial)) z (by kernel_rfl)
noncomputable def b23:Code:=Tryz.f23.body.getD .skip
def A23:List Nat:=[]
def qoK (m:tModule) (con:Str) (preds:waA):Option (waC×Bool) :=
 (qxo m con).bind fun r1 =>
 if (!r1.2.2) = true then
  some (([]:List tType),false)
 else
  (idx r1.1.Cons r1.2.1).bind fun x4 =>
  (qlW x4.Fields r1.1 preds).bind fun r5 =>
  some (r5,true)
theorem qsb {m:tModule} {con:Str} {preds:waA} {r:waC×Bool} (h:qoK m con preds = some r):CC Pg GE 23 [.agg (qcI m),.str con,sl qaa preds] (.tuple [sl qac r.1,.bool r.2]) [(0,33)]:=by
 obtain ⟨r1,br1,h⟩:=bnd h
 have p3:=fun {sc F} (r:PS sc F) => se (qs5 m) <| se (pcL qaa preds) <| sv (qDp m) <| sca (qx2 br1) <| sx pz61 <| sx (qrS r1.1) <| sfz 2 [qaK r1.1] [5,8,9,10] [] (fb1' (m:=0) (b:=2) rfl (qsm r1.1) rfl) (fb2 2 (qdA r1.1)) (fb3 (qm0 r1.1)) <| sf (nofL 2 (clLs qab preds)) <| r
 rcases ifs h with ⟨c2,h⟩ | ⟨c2,h⟩
 ·obtain rfl:=lf h
  have z:=p3 <| sg 0 c2 <| en (aI (rP (.tuple [sl qac ([]:List tType),.bool false])) <| (aI (qad qaf ([]:List tType)) (aI trivial trivial)))
  exact cvZ A23 Tryz.call23 Tryz.func23 (c:=b23) rfl (aI (qlY m) (aI trivial (aI (qad qab preds) trivial))) z (by kernel_rfl)
 ·obtain ⟨x4,bx4,h⟩:=bnd h
  obtain ⟨r5,br5,h⟩:=bnd h
  obtain rfl:=lf h
  have z:=p3 <| sg 0 c2 <| sv (qyX r1.1) <| sv (qyx r1.1) <| sv (sT59.ia (k := .i64) bx4) <| sv (qzV x4) <| sv (qzw x4) <| sca (qpC br5) <| en (aI (rP (.tuple [sl qac r5,.bool true])) <| (aI (qad qaf r5) (aI trivial trivial)))
  exact cvZ A23 Tryz.call23 Tryz.func23 (c:=b23) rfl (aI (qlY m) (aI trivial (aI (qad qab preds) trivial))) z (by kernel_rfl)
noncomputable def b86:Code:=Tryz.f86.body.getD .skip
def A86:List Nat:=[]
def qdR (a:tAbs) (a2:Str):Option (Bool) :=
 some (a.Name == a2)
theorem qm3 {a:tAbs} {a2:Str} {r:Bool} (h:qdR a a2 = some r):CC Pg GE 86 [.agg (qap a),.eptr (cS a2)] (.bool r) []:=by
 obtain rfl:=lf h
 have z:=se (qEC a) <| sv (qoD a) <| sv (qqB a) <| sv (qaR sc9 (.str a2) []) <| en (aI (rP (.bool (a.Name == a2))) <| trivial)
 exact cvZ A86 Tryz.call86 Tryz.func86 (c:=b86) rfl (aI (qaO a) (aI (clS a2) trivial)) z (by kernel_rfl)
noncomputable def b85:Code:=Tryz.f85.body.getD .skip
def A85:List Nat:=[10,17]
def qcb (s:waE) (v:Str) (t7:Int) (t8:Int):PSt:=stt 19 [(0,sl qap s),(1,.func (.func 86) [] [.eptr (cS v)]),(7,.int .i64 t7),(8,.int .i64 t8)] [] []
def qb5 (o:(Int)⊕(Unit)):Exit:=match o with
 | (.inl _) => .ret
 | (.inr _) => .exit 0
def qbI (s:waE) (v:Str) (t7:Int) (o:(Int)⊕(Unit)):PSt:=match o with
 | (.inl o) => stt 19 [(4,.int .i64 o)] [] []
 | (.inr o) => stt 19 [] [] []
def qeg (s:waE) (v:Str) (t7:Int) (t8:Int):Option ((Int)⊕((Int)⊕(Unit))) :=
 if (decide (t8 < t7)) = true then
  (idx s t8).bind fun x2 =>
  (qdR x2 v).bind fun r3 =>
  if r3 = true then
   some (.inr (.inl t8))
  else
   some (.inl (w64 (t8 + 1)))
 else
  some (.inr (.inr ()))
def qff (s:waE) (v:Str) (t7:Int) (t8:Int):Option ((Int)⊕(Unit)):=loop (fun (zz:Int) => qeg s v t7 zz) t8
theorem qle (s:waE) (v:Str) (t7:Int) (t8:Int) {y:(Int)⊕((Int)⊕(Unit))} (h:qeg s v t7 t8 = some y) :
  Sat Pg GE 0 (cA b85 55) (LQ (fun (zz:Int) => qcb s v t7 zz) qb5 (qbI s v t7) y) (qcb s v t7 t8):=by
 rcases ifs h with ⟨c1,h⟩ | ⟨c1,h⟩
 ·obtain ⟨x2,bx2,h⟩:=bnd h
  obtain ⟨r3,br3,h⟩:=bnd h
  have p5:=fun {sc F} (r:PS sc F) => sg 0 c1 <| sv (sT24.ia (k := .i64) bx2) <| sv (qxX x2) <| sca (qm3 br3) <| r
  rcases ifs h with ⟨c4,h⟩ | ⟨c4,h⟩
  ·obtain rfl:=lf h
   have z:=p5 <| sg 0 c4 <| eF (qb5 (.inl t8)) (qbI s v t7 (.inl t8))
   exact ovZ A85 (by intro hx; cases hx) z (by kernel_rfl)
  ·obtain rfl:=lf h
   have z:=p5 <| sg 0 c4 <| eF .normal (qcb s v t7 (w64 (t8 + 1)))
   exact nxZ A85 z (by kernel_rfl)
 ·obtain rfl:=lf h
  have z:=sg 0 c1 <| eF (qb5 (.inr ())) (qbI s v t7 (.inr ()))
  exact ovZ A85 (by intro hx; cases hx) z (by kernel_rfl)
theorem qgT (s:waE) (v:Str) (t7:Int) (t8:Int) {x:(Int)⊕(Unit)} (h:qff s v t7 t8 = some x) :
  Sat Pg GE 0 (.loop (cA b85 55)) (EX (qb5 x) (qbI s v t7 x)) (qcb s v t7 t8) :=
 Sat.loop (S:=fun (zz:Int) => qcb s v t7 zz) (ex:=qb5) (s:=t8) h fun zz y hy => qle s v t7 zz hy
def qcR (s:waE) (c:Str):Option (Int) :=
 (qff s c (s.length:Int) 0).bind fun o6 => match o6 with
 | (.inl o6) =>
  some o6
 | (.inr o6) =>
  some (-1)
theorem qnJ {s:waE} {c:Str} {r:Int} (h:qcR s c = some r):CC Pg GE 85 [sl qap s,.func (.func 86) [] [.eptr (cS c)]] (.int .i64 r) []:=by
 obtain ⟨o6,bo6,h⟩:=bnd h
 rcases o6 with o6 | o6
 ·obtain rfl:=lf h
  have z:=svn (sT24.ln s) <| spc (e := .ret) (s1:=qbI s c (s.length:Int) (.inl o6)) (qgT s c (s.length:Int) 0 bo6) <| en (aI (rP (.int .i64 o6)) <| trivial)
  exact cvZ A85 Tryz.call85 Tryz.func85 (c:=b85) rfl (aI (qad qaO s) (aI (aI trivial (aI (clS c) trivial)) trivial)) z (by kernel_rfl)
 ·obtain rfl:=lf h
  have z:=svn (sT24.ln s) <| spc (e := .exit 0) (s1:=qbI s c (s.length:Int) (.inr o6)) (qgT s c (s.length:Int) 0 bo6) <| en (aI (rP (.int .i64 (-1))) <| trivial)
  exact cvZ A85 Tryz.call85 Tryz.func85 (c:=b85) rfl (aI (qad qaO s) (aI (aI trivial (aI (clS c) trivial)) trivial)) z (by kernel_rfl)
noncomputable def b49:Code:=Tryz.f49.body.getD .skip
def A49:List Nat:=[]
def qmq (holes:waD) (i:Int) (m:waF):PSt:=stt 25 [(1,sl qai holes),(6,.bptr 1 0),(8,.int .i64 i)] [.dead,.cells [.str ([]:Str),sl qaz m] [(1,88)]] []
def qej (holes:waD) (i:Int) (m:waF) (o:Bool):PSt:=stt 25 [(1,sl qai holes),(6,.bptr 1 0),(8,.int .i64 i),(19,.bool o)] [.dead,.cells [.str ([]:Str),sl qaz m] [(1,88)]] []
def qfq (holes:waD) (i:Int):Option ((Bool)) :=
 if (decide (i < 0)) = true then
  some true
 else
  some (decide (i ≥ (holes.length:Int)))
theorem qlT (holes:waD) (i:Int) (m:waF) {x:(Bool)} (h:qfq holes i = some x) :
  Sat Pg GE 0 (cA b49 28) (EX .normal (qej holes i m x)) (qmq holes i m):=by
 rcases ifs h with ⟨c2,h⟩ | ⟨c2,h⟩
 ·obtain rfl:=lf h
  have z:=sg 3 c2 <| eF .normal (qej holes i m true)
  exact pcZ A49 z (by kernel_rfl)
 ·obtain rfl:=lf h
  have z:=sg 3 c2 <| svn (sT38.ln holes) <| eF .normal (qej holes i m (decide (i ≥ (holes.length:Int))))
  exact pcZ A49 z (by kernel_rfl)
def qcV (abs:waE) (holes:waD) (name:Str):Option (tHole×Bool) :=
 (qcR abs name).bind fun r1 =>
 (qfq holes r1).bind fun o3 =>
 if o3 = true then
  some ((⟨([]:Str),([]:List tVar)⟩:tHole),false)
 else
  (idx holes r1).bind fun x6 =>
  some (x6,true)
theorem qiY {abs:waE} {holes:waD} {name:Str} {r:tHole×Bool} (h:qcV abs holes name = some r):CC Pg GE 49 [sl qap abs,sl qai holes,.str name] (.tuple [.agg (qai r.1),.bool r.2]) []:=by
 obtain ⟨r1,br1,h⟩:=bnd h
 obtain ⟨o3,bo3,h⟩:=bnd h
 have p5:=fun {sc F} (r:PS sc F) => se (pcS name) <| sx pz82 <| sca (qnJ br1) <| spa 1 <| spc (qlT holes r1 ([]:List tVar) bo3) <| r
 rcases ifs h with ⟨c4,h⟩ | ⟨c4,h⟩
 ·obtain rfl:=lf h
  have z:=p5 <| sg 0 c4 <| sb (qCZ ) (qCV ) <| sy (qkP (⟨([]:Str),([]:List tVar)⟩:tHole)) <| en (aI (congrArg PVal.tuple (qwI (qv3 (⟨([]:Str),([]:List tVar)⟩:tHole)) (qwI (rP (.bool false)) (rfl:([]:List PVal) = [])))) <| (aI (qaD (⟨([]:Str),([]:List tVar)⟩:tHole)) (aI trivial trivial)))
  exact cvZ A49 Tryz.call49 Tryz.func49 (c:=b49) rfl (aI (qad qaO abs) (aI (qad qaD holes) (aI trivial trivial))) z (by kernel_rfl)
 ·obtain ⟨x6,bx6,h⟩:=bnd h
  obtain rfl:=lf h
  have z:=p5 <| sg 0 c4 <| sv (sT38.ia (k := .i64) bx6) <| sv (qCI x6) <| sx (qoG x6) <| en (aI (congrArg PVal.tuple (qwI (qv3 x6) (qwI (rP (.bool true)) (rfl:([]:List PVal) = [])))) <| (aI (qaD x6) (aI trivial trivial)))
  exact cvZ A49 Tryz.call49 Tryz.func49 (c:=b49) rfl (aI (qad qaO abs) (aI (qad qaD holes) (aI trivial trivial))) z (by kernel_rfl)
noncomputable def b50:Code:=Tryz.f50.body.getD .skip
def A50:List Nat:=[]
def qeN (a:tHole):Option (waF) :=
 if ((a.Params.length:Int) == 0) = true then
  some ([]:List tVar)
 else
  (slc a.Params (some 1) none).bind fun l3 =>
  some l3
theorem qlK {a:tHole} {r:waF} (h:qeN a = some r):CC Pg GE 50 [.agg (qai a)] (sl qaz r) []:=by
 have p2:=fun {sc F} (r:PS sc F) => se (qGD a) <| sv (qdI a) <| sv (qdD a) <| svn (sT36.ln a.Params) <| r
 rcases ifs h with ⟨c1,h⟩ | ⟨c1,h⟩
 ·obtain rfl:=lf h
  have z:=p2 <| sg 0 c1 <| en (aI (rP (sl qaz ([]:List tVar))) <| (qad qbN ([]:List tVar)))
  exact cvZ A50 Tryz.call50 Tryz.func50 (c:=b50) rfl (aI (qaD a) trivial) z (by kernel_rfl)
 ·obtain ⟨l3,bl3,h⟩:=bnd h
  obtain rfl:=lf h
  have z:=p2 <| sg 0 c1 <| sv (qdI a) <| sv (qdD a) <| sv (sT36.sc bl3) <| en (aI (rP (sl qaz l3)) <| (qad qbN l3))
  exact cvZ A50 Tryz.call50 Tryz.func50 (c:=b50) rfl (aI (qaD a) trivial) z (by kernel_rfl)
abbrev qaF:=(tType→waB→Option (tType))
abbrev qcc (R:qaF):Prop := ∀ (t:tType) (vars:waB) (r:tType),R t vars = some r→CC Pg GE 52 [.agg (qac t),sl cS vars] (.agg (qac r)) [(2,33)]
abbrev qaB:=(tType→Option (waB))
abbrev qcy (R:qaB):Prop := ∀ (t:tType) (r:waB),R t = some r→CC Pg GE 91 [.agg (qac t)] (sl cS r) [(0,9)]
end Go.Proofs.YtgldgpdhblndkaaGreatDoor
