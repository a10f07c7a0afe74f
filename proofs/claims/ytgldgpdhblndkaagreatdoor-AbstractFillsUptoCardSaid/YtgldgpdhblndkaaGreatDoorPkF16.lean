/- WHAT IS PROVED: parts of the proof, put together by a program (G2). Conditions: none. -/
import Derived.Test.YtgldgpdhblndkaaGreatDoorPkF15
noncomputable section
namespace Go.Proofs.YtgldgpdhblndkaaGreatDoor
open Go
set_option linter.unusedVariables false
set_option maxRecDepth 100000
noncomputable def b128:Code:=Tryz.f128.body.getD .skip
def A128:List Nat:=[46]
section
variable (v:waB) (v2:waA) (p:tPred) (i:Int) (m:waA)
def qt3:PSt:=stt 56 [(1,sl cS v),(2,sl qaa v2),(3,.eptr (qaa p)),(6,.bptr 1 0),(7,.int .i64 i)] [.dead,.cells [.int .i64 0,.str ([]:Str),.int .i64 0,sl qaa m] [(3,31)]] []
def qhA (o:Bool):PSt:=stt 56 [(1,sl cS v),(2,sl qaa v2),(3,.eptr (qaa p)),(6,.bptr 1 0),(7,.int .i64 i),(25,.bool o)] [.dead,.cells [.int .i64 0,.str ([]:Str),.int .i64 0,sl qaa m] [(3,31)]] []
def qjr:Option ((Bool)) :=
 if (decide (i ≥ 0)) = true then
  some (decide (i < (v2.length:Int)))
 else
  some false
theorem qr1 {x:(Bool)} (h:qjr v2 i = some x) :
  Sat Pg GE 0 (cA b128 106) (EX .normal (qhA v v2 p i m x)) (qt3 v v2 p i m):=by
 rcases ifs h with ⟨c4,h⟩ | ⟨c4,h⟩
 ·obtain rfl:=lf h
  have z:=sg 3 c4 <| svn (sT29.ln v2) <| eF .normal (qhA v v2 p i m (decide (i < (v2.length:Int))))
  exact pcZ A128 z (by kernel_rfl)
 ·obtain rfl:=lf h
  have z:=sg 3 c4 <| eF .normal (qhA v v2 p i m false)
  exact pcZ A128 z (by kernel_rfl)
end
section
variable (v:waB) (v2:waA) (p:tPred) (m:waA)
def qtl:PSt:=stt 56 [(1,sl cS v),(2,sl qaa v2),(3,.eptr (qaa p)),(6,.bptr 1 0)] [.dead,.cells [.int .i64 0,.str ([]:Str),.int .i64 0,sl qaa m] [(3,31)]] []
def qeC (o:(Int×Str×Int×waA)⊕(Unit)):Exit:=match o with
 | (.inl _) => .ret
 | (.inr _) => .normal
def qcM (o:(Int×Str×Int×waA)⊕(Unit)):PSt:=match o with
 | (.inl o) => stt 56 [(6,.bptr 1 0)] [.dead,.cells [.int .i64 o.1,.str o.2.1,.int .i64 o.2.2.1,sl qaa o.2.2.2] [(3,31)]] []
 | (.inr o) => stt 56 [(1,sl cS v),(2,sl qaa v2),(3,.eptr (qaa p)),(6,.bptr 1 0)] [.dead,.cells [.int .i64 0,.str ([]:Str),.int .i64 0,sl qaa m] [(3,31)]] []
def qgb:Option ((Int×Str×Int×waA)⊕(Unit)) :=
 if (p.Op == 3) = true then
  (quJ v p.Name).bind fun r3 =>
  (qjr v2 r3).bind fun o5 =>
  if o5 = true then
   (idx v2 r3).bind fun x8 =>
   (qgr x8).bind fun r9 =>
   some (.inl (r9.Op,r9.Name,r9.N,r9.Kids))
  else
   some (.inr ())
 else
  some (.inr ())
theorem qj7 {x:(Int×Str×Int×waA)⊕(Unit)} (h:qgb v v2 p = some x) :
  Sat Pg GE 0 (cA b128 6) (EX (qeC x) (qcM v v2 p m x)) (qtl v v2 p m):=by
 have p2:=fun {sc F} (r:PS sc F) => sv (qaw p) <| sv (qau p) <| r
 rcases ifs h with ⟨c1,h⟩ | ⟨c1,h⟩
 ·obtain ⟨r3,br3,h⟩:=bnd h
  obtain ⟨o5,bo5,h⟩:=bnd h
  have p7:=fun {sc F} (r:PS sc F) => p2 <| sg 0 c1 <| sv (qaH p) <| sv (qaO p) <| sca (qAM br3) <| spa 0 <| spc (qr1 v v2 p r3 m bo5) <| r
  rcases ifs h with ⟨c6,h⟩ | ⟨c6,h⟩
  ·obtain ⟨x8,bx8,h⟩:=bnd h
   obtain ⟨r9,br9,h⟩:=bnd h
   obtain rfl:=lf h
   have z:=p7 <| sg 0 c6 <| sv (sT29.ia (k := .i64) bx8) <| sv (qaj x8) <| sca (qf2 br9) <| sy (qao r9) <| eF (qeC (.inl (r9.Op,r9.Name,r9.N,r9.Kids))) (qcM v v2 p m (.inl (r9.Op,r9.Name,r9.N,r9.Kids)))
   exact pcZ A128 z (by kernel_rfl)
  ·obtain rfl:=lf h
   have z:=p7 <| sg 0 c6 <| eF (qeC (.inr ())) (qcM v v2 p m (.inr ()))
   exact pcZ A128 z (by kernel_rfl)
 ·obtain rfl:=lf h
  have z:=p2 <| sg 0 c1 <| eF (qeC (.inr ())) (qcM v v2 p m (.inr ()))
  exact pcZ A128 z (by kernel_rfl)
end
section
variable (R24:qhQ) (v:waB) (v2:waA) (t39:waA) (t40:Int) (m:waA) (m2:Int) (m3:Str) (m4:Int) (t41:Int) (m5:waA)
def qdo:PSt:=stt 56 [(1,sl cS v),(2,sl qaa v2),(6,.bptr 1 0),(8,.bptr 2 0),(39,sl qaa t39),(40,.int .i64 t40),(41,.int .i64 t41)] [.dead,.cells [.int .i64 0,.str ([]:Str),.int .i64 0,sl qaa m] [(3,31)],.cells [.int .i64 m2,.str m3,.int .i64 m4,sl qaa m5] [(3,31)]] []
def qhj (o:waA):PSt:=stt 56 [(6,.bptr 1 0),(8,.bptr 2 0)] [.dead,.cells [.int .i64 0,.str ([]:Str),.int .i64 0,sl qaa m] [(3,31)],.cells [.int .i64 m2,.str m3,.int .i64 m4,sl qaa o] [(3,31)]] []
def qlg:Option ((Int×waA)⊕((waA))) :=
 if (decide (t41 < t40)) = true then
  (idx t39 t41).bind fun x12 =>
  (R24 x12 v v2).bind fun r13 =>
  (app m5 ([r13]:List tPred)).bind fun l14 =>
  some (.inl (w64 (t41 + 1),l14))
 else
  some (.inr m5)
def qjl:Option ((waA)):=loop (fun (zz:Int×waA) => qlg R24 v v2 t39 t40 zz.1 zz.2) (t41,m5)
theorem qqu (hR24:qkb R24) {y:(Int×waA)⊕((waA))} (h:qlg R24 v v2 t39 t40 t41 m5 = some y) :
  Sat Pg GE 0 (cA b128 247) (LQ (fun (zz:Int×waA) => qdo v v2 t39 t40 m m2 m3 m4 zz.1 zz.2) (fun _ => .exit 0) (qhj m m2 m3 m4) y) (qdo v v2 t39 t40 m m2 m3 m4 t41 m5):=by
 rcases ifs h with ⟨c11,h⟩ | ⟨c11,h⟩
 ·obtain ⟨x12,bx12,h⟩:=bnd h
  obtain ⟨r13,br13,h⟩:=bnd h
  obtain ⟨l14,bl14,h⟩:=bnd h
  obtain rfl:=lf h
  have z:=sg 0 c11 <| sv (sT29.ia (k := .i64) bx12) <| sv (qaj x12) <| sx pz31 <| sx (qaB x12) <| sdr [0,1,0,0,0,28,60,127,255,511] <| sv (qax x12 []) <| sca (hR24 _ _ _ _ br13) <| sv (sT29.mk' (v:=qbk) qaL ([r13]:List tPred) 1 (by kernel_rfl)) <| sv (sT29.ap bl14) <| ssf (rfl:qaY (sl qaa l14) = some [sl qaa l14]) <| eFx 0 .normal (qdo v v2 t39 t40 m m2 m3 m4 (w64 (t41 + 1)) l14) rfl (qbn (aI (up (qad clS v)) (aI (up (qad qab v2)) (aI (qcH rfl) (aI (qcH rfl) (aI (up (qad qab t39)) (aI trivial (aI trivial trivial)))))))) (aI trivial (aI (aI trivial (aI trivial (aI trivial (aI (up (qad qab m)) trivial)))) (aI (aI trivial (aI trivial (aI trivial (aI (up (qad qab l14)) trivial)))) trivial)))
  exact qa5 (A:=A128) mixed z (by kernel_rfl)
 ·obtain rfl:=lf h
  have z:=sg 0 c11 <| eF (.exit 0) (qhj m m2 m3 m4 m5)
  exact ovZ A128 (by intro hx; cases hx) z (by kernel_rfl)
theorem qrR (hR24:qkb R24) {x:(waA)} (h:qjl R24 v v2 t39 t40 t41 m5 = some x) :
  Sat Pg GE 0 (.loop (cA b128 247)) (EX (.exit 0) (qhj m m2 m3 m4 x)) (qdo v v2 t39 t40 m m2 m3 m4 t41 m5) :=
 Sat.loop (S:=fun (zz:Int×waA) => qdo v v2 t39 t40 m m2 m3 m4 zz.1 zz.2) (ex:=(fun _ => .exit 0)) (s:=(t41,m5)) h fun zz y hy => qqu R24 v v2 t39 t40 m m2 m3 m4 zz.1 zz.2 hR24 hy
end
def qhk (R24:qhQ) (p:tPred) (a:waB) (a2:waA):Option (tPred) :=
 (qgb a a2 p).bind fun o10 => match o10 with
 | (.inl o10) =>
  some (⟨o10.1,o10.2.1,o10.2.2.1,o10.2.2.2⟩:tPred)
 | (.inr o10) =>
  (qjl R24 a a2 p.Kids (p.Kids.length:Int) 0 ([]:List tPred)).bind fun o15 =>
  some (⟨p.Op,p.Name,p.N,o15⟩:tPred)
theorem qt9 (R24:qhQ) (hR24:qkb R24) {p:tPred} {a:waB} {a2:waA} {r:tPred} (h:qhk R24 p a a2 = some r):CC Pg GE 128 [.agg (qaa p),sl cS a,sl qaa a2] (.agg (qaa r)) [(3,31)]:=by
 obtain ⟨o10,bo10,h⟩:=bnd h
 rcases o10 with o10 | o10
 ·obtain rfl:=lf h
  have z:=se (qaE p) <| sx pz31 <| spa 0 <| spc (e := .ret) (s1:=qcM a a2 p ([]:List tPred) (.inl o10)) (qj7 a a2 p ([]:List tPred) bo10) <| en (aI (qaT (⟨o10.1,o10.2.1,o10.2.2.1,o10.2.2.2⟩:tPred)) <| aI (qab (⟨o10.1,o10.2.1,o10.2.2.1,o10.2.2.2⟩:tPred)) <| rT)
  exact cvZ A128 Tryz.call128 Tryz.func128 (c:=b128) rfl (aI (qab p) (aI (qad clS a) (aI (qad qab a2) trivial))) z (by kernel_rfl)
 ·obtain ⟨o15,bo15,h⟩:=bnd h
  obtain rfl:=lf h
  have z:=se (qaE p) <| sx pz31 <| spa 0 <| spc (e := .normal) (s1:=qcM a a2 p ([]:List tPred) (.inr o10)) (qj7 a a2 p ([]:List tPred) bo10) <| sv (qaw p) <| sv (qau p) <| sv (qaH p) <| sv (qaO p) <| sv (qbc p) <| sv (qbq p) <| sb (qfP p.Op p.Name p.N) (qf1 p.Op p.Name p.N) <| sx pz31 <| sy (qao (⟨p.Op,p.Name,p.N,([]:List tPred)⟩:tPred)) <| sv (qat p) <| sv (qav p) <| svn (sT29.ln p.Kids) <| spc (qrR R24 a a2 p.Kids (p.Kids.length:Int) ([]:List tPred) p.Op p.Name p.N 0 ([]:List tPred) hR24 bo15) <| sz (qax (⟨p.Op,p.Name,p.N,o15⟩:tPred) []) <| sy (qao (⟨p.Op,p.Name,p.N,o15⟩:tPred)) <| en (aI (qaT (⟨p.Op,p.Name,p.N,o15⟩:tPred)) <| aI (qab (⟨p.Op,p.Name,p.N,o15⟩:tPred)) <| rT)
  exact cvZ A128 Tryz.call128 Tryz.func128 (c:=b128) rfl (aI (qab p) (aI (qad clS a) (aI (qad qab a2) trivial))) z (by kernel_rfl)
def qkM:((tPred×waB×waA)→Option (tPred))→(tPred×waB×waA)→Option (tPred):=fun (rec:(tPred×waB×waA)→Option (tPred)) (x:tPred×waB×waA) => qhk (fun p a a2 => rec (p,a,a2)) x.1 x.2.1 x.2.2
def qjK (p:tPred) (a:waB) (a2:waA):Option (tPred):=fixE (qkM) (p,a,a2)
theorem qnS {p:tPred} {a:waB} {a2:waA} {r:tPred} (h:qjK p a a2 = some r):CC Pg GE 128 [.agg (qaa p),sl cS a,sl qaa a2] (.agg (qaa r)) [(3,31)] :=
 qbo (F:=qkM) (M:=fun (x:tPred×waB×waA) (r:tPred) => CC Pg GE 128 [.agg (qaa x.1),sl cS x.2.1,sl qaa x.2.2] (.agg (qaa r)) [(3,31)]) (fun rec hrec x r h => qt9 _ (fun p a a2 r h => hrec (p,a,a2) r h) h) h
noncomputable def b102:Code:=Tryz.f102.body.getD .skip
def A102:List Nat:=[]
def qzH (p:tPred) (name:Str) (a:tPred):Option (tPred) :=
 (qjK p ([name]:List Str) ([a]:List tPred)).bind fun r1 =>
 some r1
theorem qBG {p:tPred} {name:Str} {a:tPred} {r:tPred} (h:qzH p name a = some r):CC Pg GE 102 [.agg (qaa p),.str name,.agg (qaa a)] (.agg (qaa r)) [(3,31)]:=by
 obtain ⟨r1,br1,h⟩:=bnd h
 obtain rfl:=lf h
 have z:=se (qaE p) <| se (qaE a) <| sx pz31 <| sv (qaj p) <| sv (sT22.mk' (v:=PVal.str) pcS ([name]:List Str) 1 (by kernel_rfl)) <| sv (qaj a) <| sv (sT29.mk' (v:=qbk) qaL ([a]:List tPred) 1 (by kernel_rfl)) <| sca (qnS br1) <| sy (qao r1) <| en (aI (qaT r1) <| aI (qab r1) <| rT)
 exact cvZ A102 Tryz.call102 Tryz.func102 (c:=b102) rfl (aI (qab p) (aI trivial (aI (qab a) trivial))) z (by kernel_rfl)
noncomputable def b65:Code:=Tryz.f65.body.getD .skip
def A65:List Nat:=[]
section
variable (p:tPred) (params:waE) (preds:waA) (m:waA) (m2:Int) (m3:Str) (m4:Int) (m5:waA)
def quR:PSt:=stt 61 [(3,.eptr (qaa p)),(4,.eptr ((cL qaI) params)),(5,.eptr ((cL qaa) preds)),(6,.bptr 3 0),(7,.bptr 4 0)] [.dead,.dead,.dead,.cells [.int .i64 0,.str ([]:Str),.int .i64 0,sl qaa m] [(3,31)],.cells [.int .i64 m2,.str m3,.int .i64 m4,sl qaa m5] [(3,31)]] []
def qiA (o:Bool):PSt:=stt 61 [(3,.eptr (qaa p)),(4,.eptr ((cL qaI) params)),(5,.eptr ((cL qaa) preds)),(6,.bptr 3 0),(7,.bptr 4 0),(29,.bool o)] [.dead,.dead,.dead,.cells [.int .i64 0,.str ([]:Str),.int .i64 0,sl qaa m] [(3,31)],.cells [.int .i64 m2,.str m3,.int .i64 m4,sl qaa m5] [(3,31)]] []
def qoo:Option ((Bool)) :=
 if (p.Op != 4) = true then
  some true
 else
  some ((p.Kids.length:Int) != 1)
theorem qtT {x:(Bool)} (h:qoo p = some x) :
  Sat Pg GE 0 (cA b65 60) (EX .normal (qiA p params preds m m2 m3 m4 m5 x)) (quR p params preds m m2 m3 m4 m5):=by
 have p3:=fun {sc F} (r:PS sc F) => sv (qaw p) <| sv (qau p) <| r
 rcases ifs h with ⟨c2,h⟩ | ⟨c2,h⟩
 ·obtain rfl:=lf h
  have z:=p3 <| sg 4 c2 <| eF .normal (qiA p params preds m m2 m3 m4 m5 true)
  exact pcZ A65 z (by kernel_rfl)
 ·obtain rfl:=lf h
  have z:=p3 <| sg 4 c2 <| sv (qat p) <| sv (qav p) <| svn (sT29.ln p.Kids) <| eF .normal (qiA p params preds m m2 m3 m4 m5 ((p.Kids.length:Int) != 1))
  exact pcZ A65 z (by kernel_rfl)
end
section
variable (preds:waA) (i:Int) (m:waA) (m2:Int) (m3:Str) (m4:Int) (m5:waA)
def quk:PSt:=stt 61 [(5,.eptr ((cL qaa) preds)),(6,.bptr 3 0),(7,.bptr 4 0),(8,.int .i64 i)] [.dead,.dead,.dead,.cells [.int .i64 0,.str ([]:Str),.int .i64 0,sl qaa m] [(3,31)],.cells [.int .i64 m2,.str m3,.int .i64 m4,sl qaa m5] [(3,31)]] []
def qii (o:Bool):PSt:=stt 61 [(5,.eptr ((cL qaa) preds)),(6,.bptr 3 0),(7,.bptr 4 0),(8,.int .i64 i),(38,.bool o)] [.dead,.dead,.dead,.cells [.int .i64 0,.str ([]:Str),.int .i64 0,sl qaa m] [(3,31)],.cells [.int .i64 m2,.str m3,.int .i64 m4,sl qaa m5] [(3,31)]] []
def qpt:Option ((Bool)) :=
 if (decide (i ≥ (preds.length:Int))) = true then
  some true
 else
  (idx preds i).bind fun x12 =>
  (qmh x12 (⟨0,([]:Str),0,([]:List tPred)⟩:tPred)).bind fun r13 =>
  some r13
theorem qsv {x:(Bool)} (h:qpt preds i = some x) :
  Sat Pg GE 0 (cA b65 2030) (EX .normal (qii preds i m m2 m3 m4 m5 x)) (quk preds i m m2 m3 m4 m5):=by
 have p11:=fun {sc F} (r:PS sc F) => sv (qa9 sc29 (sl qaa preds) []) <| svn (sT29.ln preds) <| r
 rcases ifs h with ⟨c10,h⟩ | ⟨c10,h⟩
 ·obtain rfl:=lf h
  have z:=p11 <| sg 5 c10 <| eF .normal (qii preds i m m2 m3 m4 m5 true)
  exact pcZ A65 z (by kernel_rfl)
 ·obtain ⟨x12,bx12,h⟩:=bnd h
  obtain ⟨r13,br13,h⟩:=bnd h
  obtain rfl:=lf h
  have z:=p11 <| sg 5 c10 <| sv (qa9 sc29 (sl qaa preds) []) <| sv (sT29.ia (k := .i64) bx12) <| sv (qaj x12) <| sb (qpH ) (qpL ) <| sca (qi1 br13) <| eF .normal (qii preds i m m2 m3 m4 m5 r13)
  exact pcZ A65 z (by kernel_rfl)
end
def qqY (R16:qc1) (p:tPred) (params:waE) (preds:waA):Option (tPred) :=
 (qlV R16 p.Kids params preds).bind fun r1 =>
 (qoo p).bind fun o4 =>
 if o4 = true then
  some (⟨p.Op,p.Name,p.N,r1⟩:tPred)
 else
  (qnK params p).bind fun r7 =>
  if (decide (r7 < 0)) = true then
   some (⟨p.Op,p.Name,p.N,r1⟩:tPred)
  else
   (qpt preds r7).bind fun o14 =>
   if o14 = true then
    some (⟨2,([]:Str),1,([]:List tPred)⟩:tPred)
   else
    (idx preds r7).bind fun x17 =>
    (idx r1 0).bind fun x18 =>
    (qzH x17 ([118]:Str) x18).bind fun r19 =>
    some r19
theorem qwe (R16:qc1) (hR16:qfS R16) {p:tPred} {params:waE} {preds:waA} {r:tPred} (h:qqY R16 p params preds = some r):CC Pg GE 65 [.agg (qaa p),sl qaI params,sl qaa preds] (.agg (qaa r)) [(3,31)]:=by
 obtain ⟨r1,br1,h⟩:=bnd h
 obtain ⟨o4,bo4,h⟩:=bnd h
 have p6:=fun {sc F} (r:PS sc F) => se (qaE p) <| se (pcL qaI params) <| se (pcL qaa preds) <| sx pz31 <| sv (qaw p) <| sv (qau p) <| sv (qaH p) <| sv (qaO p) <| sv (qbc p) <| sv (qbq p) <| sb (qfP p.Op p.Name p.N) (qf1 p.Op p.Name p.N) <| sx pz31 <| sy (qao (⟨p.Op,p.Name,p.N,([]:List tPred)⟩:tPred)) <| sv (qat p) <| sv (qav p) <| sca (qqy R16 hR16 br1) <| spa 1 <| spc (qtT p params preds ([]:List tPred) p.Op p.Name p.N r1 bo4) <| r
 rcases ifs h with ⟨c5,h⟩ | ⟨c5,h⟩
 ·obtain rfl:=lf h
  have z:=p6 <| sg 0 c5 <| sz (qax (⟨p.Op,p.Name,p.N,r1⟩:tPred) []) <| sy (qao (⟨p.Op,p.Name,p.N,r1⟩:tPred)) <| en (aI (qaT (⟨p.Op,p.Name,p.N,r1⟩:tPred)) <| aI (qab (⟨p.Op,p.Name,p.N,r1⟩:tPred)) <| rT)
  exact cvZ A65 Tryz.call65 Tryz.func65 (c:=b65) rfl (aI (qab p) (aI (qad qbx params) (aI (qad qab preds) trivial))) z (by kernel_rfl)
 ·obtain ⟨r7,br7,h⟩:=bnd h
  have p9:=fun {sc F} (r:PS sc F) => p6 <| sg 0 c5 <| sv (qa9 sc36 (sl qaI params) []) <| sca (qrC br7) <| r
  rcases ifs h with ⟨c8,h⟩ | ⟨c8,h⟩
  ·obtain rfl:=lf h
   have z:=p9 <| sg 0 c8 <| sz (qax (⟨p.Op,p.Name,p.N,r1⟩:tPred) []) <| sy (qao (⟨p.Op,p.Name,p.N,r1⟩:tPred)) <| en (aI (qaT (⟨p.Op,p.Name,p.N,r1⟩:tPred)) <| aI (qab (⟨p.Op,p.Name,p.N,r1⟩:tPred)) <| rT)
   exact cvZ A65 Tryz.call65 Tryz.func65 (c:=b65) rfl (aI (qab p) (aI (qad qbx params) (aI (qad qab preds) trivial))) z (by kernel_rfl)
  ·obtain ⟨o14,bo14,h⟩:=bnd h
   have p16:=fun {sc F} (r:PS sc F) => p9 <| sg 0 c8 <| spa 0 <| spc (qsv preds r7 ([]:List tPred) p.Op p.Name p.N r1 bo14) <| r
   rcases ifs h with ⟨c15,h⟩ | ⟨c15,h⟩
   ·obtain rfl:=lf h
    have z:=p16 <| sg 0 c15 <| sb (qoa 2 1) (qo6 2 1) <| sy (qao (⟨2,([]:Str),1,([]:List tPred)⟩:tPred)) <| en (aI (qaT (⟨2,([]:Str),1,([]:List tPred)⟩:tPred)) <| aI (qab (⟨2,([]:Str),1,([]:List tPred)⟩:tPred)) <| rT)
    exact cvZ A65 Tryz.call65 Tryz.func65 (c:=b65) rfl (aI (qab p) (aI (qad qbx params) (aI (qad qab preds) trivial))) z (by kernel_rfl)
   ·obtain ⟨x17,bx17,h⟩:=bnd h
    obtain ⟨x18,bx18,h⟩:=bnd h
    obtain ⟨r19,br19,h⟩:=bnd h
    obtain rfl:=lf h
    have z:=p16 <| sg 0 c15 <| sdr [0,0,3,7,0,16,48,112,255,511] <| sv (qa9 sc29 (sl qaa preds) []) <| sv (sT29.ia (k := .i64) bx17) <| sv (qaj x17) <| ss <| sv (sT29.ia (k := .i64) bx18) <| sv (qaj x18) <| sca (qBG br19) <| syx (qaB r19) <| en (aI (qaT r19) <| aI (qab r19) <| rT)
    exact cvZ A65 Tryz.call65 Tryz.func65 (c:=b65) rfl (aI (qab p) (aI (qad qbx params) (aI (qad qab preds) trivial))) z (by kernel_rfl)
def qqE:((tPred×waE×waA)→Option (tPred))→(tPred×waE×waA)→Option (tPred):=fun (rec:(tPred×waE×waA)→Option (tPred)) (x:tPred×waE×waA) => qqY (fun p params preds => rec (p,params,preds)) x.1 x.2.1 x.2.2
def qvO (p:tPred) (params:waE) (preds:waA):Option (tPred):=fixE (qqE) (p,params,preds)
theorem qxy {p:tPred} {params:waE} {preds:waA} {r:tPred} (h:qvO p params preds = some r):CC Pg GE 65 [.agg (qaa p),sl qaI params,sl qaa preds] (.agg (qaa r)) [(3,31)] :=
 qbo (F:=qqE) (M:=fun (x:tPred×waE×waA) (r:tPred) => CC Pg GE 65 [.agg (qaa x.1),sl qaI x.2.1,sl qaa x.2.2] (.agg (qaa r)) [(3,31)]) (fun rec hrec x r h => qwe _ (fun p params preds r h => hrec (p,params,preds) r h) h) h
noncomputable def b64:Code:=Tryz.f64.body.getD .skip
def A64:List Nat:=[]
def qgp (p:tPred) (a:tData) (a2:waA):Option (tPred) :=
 (qvO p a.Preds a2).bind fun r1 =>
 some r1
theorem qh7 {p:tPred} {a:tData} {a2:waA} {r:tPred} (h:qgp p a a2 = some r):CC Pg GE 64 [.agg (qaa p),.eptr (qaV a),.eptr ((cL qaa) a2)] (.agg (qaa r)) [(3,31)]:=by
 obtain ⟨r1,br1,h⟩:=bnd h
 obtain rfl:=lf h
 have z:=se (qaE p) <| sx pz31 <| sv (qaj p) <| sv (qz7 a) <| sv (qBF a) <| sv (qa9 sc29 (sl qaa a2) []) <| sca (qxy br1) <| sy (qao r1) <| en (aI (qaT r1) <| aI (qab r1) <| rT)
 exact cvZ A64 Tryz.call64 Tryz.func64 (c:=b64) rfl (aI (qab p) (aI (qdm a) (aI (clLs qab a2) trivial))) z (by kernel_rfl)
section
variable (v:tData) (v2:waA) (t8:waA) (t9:Int) (out:waA) (t10:Int)
def qcf:PSt:=stt 22 [(1,.func (.func 64) [] [.eptr (qaV v),.eptr ((cL qaa) v2)]),(5,sl qaa out),(8,sl qaa t8),(9,.int .i64 t9),(10,.int .i64 t10)] [] [((5,0),31)]
def qew (o:waA):PSt:=stt 22 [(5,sl qaa o)] [] [((5,0),31)]
def qh4:Option ((waA×Int)⊕((waA))) :=
 if (decide (t10 < t9)) = true then
  (idx t8 t10).bind fun x2 =>
  (qgp x2 v v2).bind fun r3 =>
  (app out ([r3]:List tPred)).bind fun l4 =>
  some (.inl (l4,w64 (t10 + 1)))
 else
  some (.inr out)
def qjB:Option ((waA)):=loop (fun (zz:waA×Int) => qh4 v v2 t8 t9 zz.1 zz.2) (out,t10)
theorem ql0 {y:(waA×Int)⊕((waA))} (h:qh4 v v2 t8 t9 out t10 = some y) :
  Sat Pg GE 0 (cA b56 119) (LQ (fun (zz:waA×Int) => qcf v v2 t8 t9 zz.1 zz.2) (fun _ => .exit 0) (qew) y) (qcf v v2 t8 t9 out t10):=by
 rcases ifs h with ⟨c1,h⟩ | ⟨c1,h⟩
 ·obtain ⟨x2,bx2,h⟩:=bnd h
  obtain ⟨r3,br3,h⟩:=bnd h
  obtain ⟨l4,bl4,h⟩:=bnd h
  obtain rfl:=lf h
  have z:=sg 0 c1 <| sv (sT29.ia (k := .i64) bx2) <| sv (qaj x2) <| sx pz31 <| sx (qaB x2) <| sv (qax x2 []) <| sca (qh7 br3) <| sv (sT29.mk' (v:=qbk) qaL ([r3]:List tPred) 1 (by kernel_rfl)) <| sv (sT29.ap bl4) <| eFx 0 .normal (qcf v v2 t8 t9 l4 (w64 (t10 + 1))) rfl (qbn (aI (aI trivial (aI (qbw (qdm v)) (aI (qbw (clLs qab v2)) trivial))) (aI (up (qad qab l4)) (aI (up (qad qab t8)) (aI trivial (aI trivial trivial)))))) trivial
  exact qa5 (A:=A56) mixed z (by kernel_rfl)
 ·obtain rfl:=lf h
  have z:=sg 0 c1 <| eF (.exit 0) (qew out)
  exact ovZ A56 (by intro hx; cases hx) z (by kernel_rfl)
theorem qny {x:(waA)} (h:qjB v v2 t8 t9 out t10 = some x) :
  Sat Pg GE 0 (.loop (cA b56 119)) (EX (.exit 0) (qew x)) (qcf v v2 t8 t9 out t10) :=
 Sat.loop (S:=fun (zz:waA×Int) => qcf v v2 t8 t9 zz.1 zz.2) (ex:=(fun _ => .exit 0)) (s:=(out,t10)) h fun zz y hy => ql0 v v2 t8 t9 zz.1 zz.2 hy
end
def ql2 (a:waA) (c:tData) (c2:waA):Option (waA) :=
 (qjB c c2 a (a.length:Int) ([]:List tPred) 0).bind fun o5 =>
 some o5
theorem qqt {a:waA} {c:tData} {c2:waA} {r:waA} (h:ql2 a c c2 = some r):CC Pg GE 56 [sl qaa a,.func (.func 64) [] [.eptr (qaV c),.eptr ((cL qaa) c2)]] (sl qaa r) [(0,31)]:=by
 obtain ⟨o5,bo5,h⟩:=bnd h
 obtain rfl:=lf h
 have z:=svn (sT29.ln a) <| spc (qny c c2 a (a.length:Int) ([]:List tPred) 0 bo5) <| en (aI (rP (sl qaa o5)) <| (qad qab o5))
 exact cvZ A56 Tryz.call56 Tryz.func56 (c:=b56) rfl (aI (qad qab a) (aI (aI trivial (aI (qdm c) (aI (clLs qab c2) trivial))) trivial)) z (by kernel_rfl)
noncomputable def b88:Code:=Tryz.f88.body.getD .skip
def A88:List Nat:=[]
def qk4 (R14:qbK) (a:tType) (c:tData) (c2:waA):Option (tType) :=
 (R14 a c c2).bind fun r1 =>
 some r1
theorem qol (R14:qbK) (hR14:qdp R14) {a:tType} {c:tData} {c2:waA} {r:tType} (h:qk4 R14 a c c2 = some r):CC Pg GE 88 [.agg (qac a),.eptr [.func (.func 64) [] [.eptr (qaV c),.eptr ((cL qaa) c2)]]] (.agg (qac r)) [(2,33)]:=by
 obtain ⟨r1,br1,h⟩:=bnd h
 obtain rfl:=lf h
 have z:=se (qbj a) <| sx pz33 <| sv (qaN a) <| sv (qa9 qGe (.func (.func 64) [] [.eptr (qaV c),.eptr ((cL qaa) c2)]) []) <| sca (hR14 _ _ _ _ br1) <| sy (qaK r1) <| en (aI (qcB r1) <| aI (qaf r1) <| rT)
 exact cvZ A88 Tryz.call88 Tryz.func88 (c:=b88) rfl (aI (qaf a) (aI (aI (aI trivial (aI (qdm c) (aI (clLs qab c2) trivial))) trivial) trivial)) z (by kernel_rfl)
noncomputable def b62:Code:=Tryz.f62.body.getD .skip
def A62:List Nat:=[14,21]
section
variable (R14:qbK) (v:tData) (v2:waA) (t8:waC) (t9:Int) (out:waC) (t10:Int)
def qch:PSt:=stt 22 [(1,.func (.func 88) [] [.eptr [.func (.func 64) [] [.eptr (qaV v),.eptr ((cL qaa) v2)]]]),(5,sl qac out),(8,sl qac t8),(9,.int .i64 t9),(10,.int .i64 t10)] [] [((5,0),33)]
def qeA (o:waC):PSt:=stt 22 [(5,sl qac o)] [] [((5,0),33)]
def qh8:Option ((waC×Int)⊕((waC))) :=
 if (decide (t10 < t9)) = true then
  (idx t8 t10).bind fun x2 =>
  (qk4 R14 x2 v v2).bind fun r3 =>
  (app out ([r3]:List tType)).bind fun l4 =>
  some (.inl (l4,w64 (t10 + 1)))
 else
  some (.inr out)
def qjC:Option ((waC)):=loop (fun (zz:waC×Int) => qh8 R14 v v2 t8 t9 zz.1 zz.2) (out,t10)
theorem qmi (hR14:qdp R14) {y:(waC×Int)⊕((waC))} (h:qh8 R14 v v2 t8 t9 out t10 = some y) :
  Sat Pg GE 0 (cA b62 119) (LQ (fun (zz:waC×Int) => qch v v2 t8 t9 zz.1 zz.2) (fun _ => .exit 0) (qeA) y) (qch v v2 t8 t9 out t10):=by
 rcases ifs h with ⟨c1,h⟩ | ⟨c1,h⟩
 ·obtain ⟨x2,bx2,h⟩:=bnd h
  obtain ⟨r3,br3,h⟩:=bnd h
  obtain ⟨l4,bl4,h⟩:=bnd h
  obtain rfl:=lf h
  have z:=sg 0 c1 <| sv (sT27.ia (k := .i64) bx2) <| sv (qaN x2) <| sx pz33 <| sx (qbI x2) <| sv (qa3 x2 []) <| sca (qol R14 hR14 br3) <| sv (sT27.mk' (v:=qiq) qdE ([r3]:List tType) 1 (by kernel_rfl)) <| sv (sT27.ap bl4) <| eFx 0 .normal (qch v v2 t8 t9 l4 (w64 (t10 + 1))) rfl (qbn (aI (aI trivial (aI (aI (aI trivial (aI (qbw (qdm v)) (aI (qbw (clLs qab v2)) trivial))) trivial) trivial)) (aI (up (qad qaf l4)) (aI (up (qad qaf t8)) (aI trivial (aI trivial trivial)))))) trivial
  exact qa5 (A:=A62) mixed z (by kernel_rfl)
 ·obtain rfl:=lf h
  have z:=sg 0 c1 <| eF (.exit 0) (qeA out)
  exact ovZ A62 (by intro hx; cases hx) z (by kernel_rfl)
theorem qm0 (hR14:qdp R14) {x:(waC)} (h:qjC R14 v v2 t8 t9 out t10 = some x) :
  Sat Pg GE 0 (.loop (cA b62 119)) (EX (.exit 0) (qeA x)) (qch v v2 t8 t9 out t10) :=
 Sat.loop (S:=fun (zz:waC×Int) => qch v v2 t8 t9 zz.1 zz.2) (ex:=(fun _ => .exit 0)) (s:=(out,t10)) h fun zz y hy => qmi R14 v v2 t8 t9 zz.1 zz.2 hR14 hy
end
def qlY (R14:qbK) (a:waC) (c:tData) (c2:waA):Option (waC) :=
 (qjC R14 c c2 a (a.length:Int) ([]:List tType) 0).bind fun o5 =>
 some o5
theorem qql (R14:qbK) (hR14:qdp R14) {a:waC} {c:tData} {c2:waA} {r:waC} (h:qlY R14 a c c2 = some r):CC Pg GE 62 [sl qac a,.func (.func 88) [] [.eptr [.func (.func 64) [] [.eptr (qaV c),.eptr ((cL qaa) c2)]]]] (sl qac r) [(0,33)]:=by
 obtain ⟨o5,bo5,h⟩:=bnd h
 obtain rfl:=lf h
 have z:=svn (sT27.ln a) <| spc (qm0 R14 c c2 a (a.length:Int) ([]:List tType) 0 hR14 bo5) <| en (aI (rP (sl qac o5)) <| (qad qaf o5))
 exact cvZ A62 Tryz.call62 Tryz.func62 (c:=b62) rfl (aI (qad qaf a) (aI (aI trivial (aI (aI (aI trivial (aI (qdm c) (aI (clLs qab c2) trivial))) trivial) trivial)) trivial)) z (by kernel_rfl)
noncomputable def b51:Code:=Tryz.f51.body.getD .skip
def A51:List Nat:=[]
def qlj (R14:qbK) (t:tType) (c:tData) (c2:waA):Option (tType) :=
 (qja t.Names).bind fun r1 =>
 (qgp t.Pred c c2).bind fun r2 =>
 (ql2 t.Preds c c2).bind fun r3 =>
 (qlY R14 t.Args c c2).bind fun r4 =>
 some (⟨t.Op,t.Name,r4,r1,r2,r3⟩:tType)
theorem qqh (R14:qbK) (hR14:qdp R14) {t:tType} {c:tData} {c2:waA} {r:tType} (h:qlj R14 t c c2 = some r):CC Pg GE 51 [.agg (qac t),.func (.func 64) [] [.eptr (qaV c),.eptr ((cL qaa) c2)]] (.agg (qac r)) [(2,33)]:=by
 obtain ⟨r1,br1,h⟩:=bnd h
 obtain ⟨r2,br2,h⟩:=bnd h
 obtain ⟨r3,br3,h⟩:=bnd h
 obtain ⟨r4,br4,h⟩:=bnd h
 obtain rfl:=lf h
 have z:=se (qbj t) <| se (rfl:qaY (.func (.func 64) [] [.eptr (qaV c),.eptr ((cL qaa) c2)]) = some [.func (.func 64) [] [.eptr (qaV c),.eptr ((cL qaa) c2)]]) <| sx pz33 <| sdr [0,1,0,4,0,16,48,0,0,256,1008,0,2048,0,16368,32767,0,131071] <| sv (qam t) <| sv (qal t) <| sv (qbs t) <| sv (qbC t) <| sv (qaz t) <| sv (qay t) <| sca (qpJ br1) <| sv (qa9 qGe (.func (.func 64) [] [.eptr (qaV c),.eptr ((cL qaa) c2)]) []) <| sv (qbg t) <| sv (qba t) <| sca (qh7 br2) <| sv (qaQ t) <| sv (qaP t) <| sv (qa9 qGe (.func (.func 64) [] [.eptr (qaV c),.eptr ((cL qaa) c2)]) []) <| sca (qqt br3) <| sb (qha t.Op t.Name r1 r2 r3) (qhb t.Op t.Name r1 r2 r3) <| syx (qbI (⟨t.Op,t.Name,([]:List tType),r1,r2,r3⟩:tType)) <| sv (qaq t) <| sv (qap t) <| sca (qql R14 hR14 br4) <| sz (qa3 (⟨t.Op,t.Name,r4,r1,r2,r3⟩:tType) []) <| sy (qaK (⟨t.Op,t.Name,r4,r1,r2,r3⟩:tType)) <| en (aI (qcB (⟨t.Op,t.Name,r4,r1,r2,r3⟩:tType)) <| aI (qaf (⟨t.Op,t.Name,r4,r1,r2,r3⟩:tType)) <| rT)
 exact cvZ A51 Tryz.call51 Tryz.func51 (c:=b51) rfl (aI (qaf t) (aI (aI trivial (aI (qdm c) (aI (clLs qab c2) trivial))) trivial)) z (by kernel_rfl)
def qkQ:((tType×tData×waA)→Option (tType))→(tType×tData×waA)→Option (tType):=fun (rec:(tType×tData×waA)→Option (tType)) (x:tType×tData×waA) => qlj (fun t c c2 => rec (t,c,c2)) x.1 x.2.1 x.2.2
def qnU (t:tType) (c:tData) (c2:waA):Option (tType):=fixE (qkQ) (t,c,c2)
theorem qsl {t:tType} {c:tData} {c2:waA} {r:tType} (h:qnU t c c2 = some r):CC Pg GE 51 [.agg (qac t),.func (.func 64) [] [.eptr (qaV c),.eptr ((cL qaa) c2)]] (.agg (qac r)) [(2,33)] :=
 qbo (F:=qkQ) (M:=fun (x:tType×tData×waA) (r:tType) => CC Pg GE 51 [.agg (qac x.1),.func (.func 64) [] [.eptr (qaV x.2.1),.eptr ((cL qaa) x.2.2)]] (.agg (qac r)) [(2,33)]) (fun rec hrec x r h => qqh _ (fun t c c2 r h => hrec (t,c,c2) r h) h) h
noncomputable def b63:Code:=Tryz.f63.body.getD .skip
def A63:List Nat:=[]
def ql8 (t:tType) (a:tData) (a2:waA):Option (tType) :=
 (qnU t a a2).bind fun r1 =>
 some r1
theorem qqs {t:tType} {a:tData} {a2:waA} {r:tType} (h:ql8 t a a2 = some r):CC Pg GE 63 [.agg (qac t),.eptr (qaV a),.eptr ((cL qaa) a2)] (.agg (qac r)) [(2,33)]:=by
 obtain ⟨r1,br1,h⟩:=bnd h
 obtain rfl:=lf h
 have z:=se (qbj t) <| sx pz33 <| sv (qaN t) <| sca (qsl br1) <| sy (qaK r1) <| en (aI (qcB r1) <| aI (qaf r1) <| rT)
 exact cvZ A63 Tryz.call63 Tryz.func63 (c:=b63) rfl (aI (qaf t) (aI (qdm a) (aI (clLs qab a2) trivial))) z (by kernel_rfl)
section
variable (v:tData) (v2:waA) (t8:waC) (t9:Int) (out:waC) (t10:Int)
def qca:PSt:=stt 22 [(1,.func (.func 63) [] [.eptr (qaV v),.eptr ((cL qaa) v2)]),(5,sl qac out),(8,sl qac t8),(9,.int .i64 t9),(10,.int .i64 t10)] [] [((5,0),33)]
def qes (o:waC):PSt:=stt 22 [(5,sl qac o)] [] [((5,0),33)]
def qh2:Option ((waC×Int)⊕((waC))) :=
 if (decide (t10 < t9)) = true then
  (idx t8 t10).bind fun x2 =>
  (ql8 x2 v v2).bind fun r3 =>
  (app out ([r3]:List tType)).bind fun l4 =>
  some (.inl (l4,w64 (t10 + 1)))
 else
  some (.inr out)
def qjD:Option ((waC)):=loop (fun (zz:waC×Int) => qh2 v v2 t8 t9 zz.1 zz.2) (out,t10)
theorem qmd {y:(waC×Int)⊕((waC))} (h:qh2 v v2 t8 t9 out t10 = some y) :
  Sat Pg GE 0 (cA b62 119) (LQ (fun (zz:waC×Int) => qca v v2 t8 t9 zz.1 zz.2) (fun _ => .exit 0) (qes) y) (qca v v2 t8 t9 out t10):=by
 rcases ifs h with ⟨c1,h⟩ | ⟨c1,h⟩
 ·obtain ⟨x2,bx2,h⟩:=bnd h
  obtain ⟨r3,br3,h⟩:=bnd h
  obtain ⟨l4,bl4,h⟩:=bnd h
  obtain rfl:=lf h
  have z:=sg 0 c1 <| sv (sT27.ia (k := .i64) bx2) <| sv (qaN x2) <| sx pz33 <| sx (qbI x2) <| sv (qa3 x2 []) <| sca (qqs br3) <| sv (sT27.mk' (v:=qiq) qdE ([r3]:List tType) 1 (by kernel_rfl)) <| sv (sT27.ap bl4) <| eFx 0 .normal (qca v v2 t8 t9 l4 (w64 (t10 + 1))) rfl (qbn (aI (aI trivial (aI (qbw (qdm v)) (aI (qbw (clLs qab v2)) trivial))) (aI (up (qad qaf l4)) (aI (up (qad qaf t8)) (aI trivial (aI trivial trivial)))))) trivial
  exact qa5 (A:=A62) mixed z (by kernel_rfl)
 ·obtain rfl:=lf h
  have z:=sg 0 c1 <| eF (.exit 0) (qes out)
  exact ovZ A62 (by intro hx; cases hx) z (by kernel_rfl)
theorem qna {x:(waC)} (h:qjD v v2 t8 t9 out t10 = some x) :
  Sat Pg GE 0 (.loop (cA b62 119)) (EX (.exit 0) (qes x)) (qca v v2 t8 t9 out t10) :=
 Sat.loop (S:=fun (zz:waC×Int) => qca v v2 t8 t9 zz.1 zz.2) (ex:=(fun _ => .exit 0)) (s:=(out,t10)) h fun zz y hy => qmd v v2 t8 t9 zz.1 zz.2 hy
end
def ql9 (a:waC) (c:tData) (c2:waA):Option (waC) :=
 (qjD c c2 a (a.length:Int) ([]:List tType) 0).bind fun o5 =>
 some o5
theorem qqm {a:waC} {c:tData} {c2:waA} {r:waC} (h:ql9 a c c2 = some r):CC Pg GE 62 [sl qac a,.func (.func 63) [] [.eptr (qaV c),.eptr ((cL qaa) c2)]] (sl qac r) [(0,33)]:=by
 obtain ⟨o5,bo5,h⟩:=bnd h
 obtain rfl:=lf h
 have z:=svn (sT27.ln a) <| spc (qna c c2 a (a.length:Int) ([]:List tType) 0 bo5) <| en (aI (rP (sl qac o5)) <| (qad qaf o5))
 exact cvZ A62 Tryz.call62 Tryz.func62 (c:=b62) rfl (aI (qad qaf a) (aI (aI trivial (aI (qdm c) (aI (clLs qab c2) trivial))) trivial)) z (by kernel_rfl)
noncomputable def b23:Code:=Tryz.f23.body.getD .skip
def A23:List Nat:=[]
def qoz (m:tModule) (con:Str) (preds:waA):Option (waC×Bool) :=
 (qzV m con).bind fun r1 =>
 if (!r1.2.2) = true then
  some (([]:List tType),false)
 else
  (idx r1.1.Cons r1.2.1).bind fun x4 =>
  (ql9 x4.Fields r1.1 preds).bind fun r5 =>
  some (r5,true)
theorem qtt {m:tModule} {con:Str} {preds:waA} {r:waC×Bool} (h:qoz m con preds = some r):CC Pg GE 23 [.agg (qcE m),.str con,sl qaa preds] (.tuple [sl qac r.1,.bool r.2]) [(0,33)]:=by
 obtain ⟨r1,br1,h⟩:=bnd h
 have p3:=fun {sc F} (r:PS sc F) => se (quW m) <| se (pcL qaa preds) <| sv (qGa m) <| sca (qBt br1) <| sx pz61 <| sx (qtG r1.1) <| sfz 2 [qaV r1.1] [5,8,9,10] [] (fb1' (m:=0) (b:=2) rfl (qtp r1.1) rfl) (fb2 2 (qdm r1.1)) (fb3 (qnI r1.1)) <| sf (nofL 2 (clLs qab preds)) <| r
 rcases ifs h with ⟨c2,h⟩ | ⟨c2,h⟩
 ·obtain rfl:=lf h
  have z:=p3 <| sg 0 c2 <| en (aI (rP (.tuple [sl qac ([]:List tType),.bool false])) <| (aI (qad qaf ([]:List tType)) (aI trivial trivial)))
  exact cvZ A23 Tryz.call23 Tryz.func23 (c:=b23) rfl (aI (qme m) (aI trivial (aI (qad qab preds) trivial))) z (by kernel_rfl)
 ·obtain ⟨x4,bx4,h⟩:=bnd h
  obtain ⟨r5,br5,h⟩:=bnd h
  obtain rfl:=lf h
  have z:=p3 <| sg 0 c2 <| sv (qBD r1.1) <| sv (qAA r1.1) <| sv (sT59.ia (k := .i64) bx4) <| sv (qB2 x4) <| sv (qCB x4) <| sca (qqm br5) <| en (aI (rP (.tuple [sl qac r5,.bool true])) <| (aI (qad qaf r5) (aI trivial trivial)))
  exact cvZ A23 Tryz.call23 Tryz.func23 (c:=b23) rfl (aI (qme m) (aI trivial (aI (qad qab preds) trivial))) z (by kernel_rfl)
noncomputable def b86:Code:=Tryz.f86.body.getD .skip
def A86:List Nat:=[]
def qds (a:tAbs) (a2:Str):Option (Bool) :=
 some (a.Name == a2)
theorem qnD {a:tAbs} {a2:Str} {r:Bool} (h:qds a a2 = some r):CC Pg GE 86 [.agg (qaC a),.eptr (cS a2)] (.bool r) []:=by
 obtain rfl:=lf h
 have z:=se (qIk a) <| sv (qoZ a) <| sv (qrB a) <| sv (qa9 sc9 (.str a2) []) <| en (aI (rP (.bool (a.Name == a2))) <| trivial)
 exact cvZ A86 Tryz.call86 Tryz.func86 (c:=b86) rfl (aI (qbA a) (aI (clS a2) trivial)) z (by kernel_rfl)
noncomputable def b85:Code:=Tryz.f85.body.getD .skip
def A85:List Nat:=[10,17]
section
variable (s:waF) (v:Str) (t7:Int) (t8:Int)
def qbY:PSt:=stt 19 [(0,sl qaC s),(1,.func (.func 86) [] [.eptr (cS v)]),(7,.int .i64 t7),(8,.int .i64 t8)] [] []
def qb0 (o:(Int)⊕(Unit)):Exit:=match o with
 | (.inl _) => .ret
 | (.inr _) => .exit 0
def qbG (o:(Int)⊕(Unit)):PSt:=match o with
 | (.inl o) => stt 19 [(4,.int .i64 o)] [] []
 | (.inr o) => stt 19 [] [] []
def qdX:Option ((Int)⊕((Int)⊕(Unit))) :=
 if (decide (t8 < t7)) = true then
  (idx s t8).bind fun x2 =>
  (qds x2 v).bind fun r3 =>
  if r3 = true then
   some (.inr (.inl t8))
  else
   some (.inl (w64 (t8 + 1)))
 else
  some (.inr (.inr ()))
def qeN:Option ((Int)⊕(Unit)):=loop (fun (zz:Int) => qdX s v t7 zz) t8
theorem qlQ {y:(Int)⊕((Int)⊕(Unit))} (h:qdX s v t7 t8 = some y) :
  Sat Pg GE 0 (cA b85 55) (LQ (fun (zz:Int) => qbY s v t7 zz) qb0 (qbG) y) (qbY s v t7 t8):=by
 rcases ifs h with ⟨c1,h⟩ | ⟨c1,h⟩
 ·obtain ⟨x2,bx2,h⟩:=bnd h
  obtain ⟨r3,br3,h⟩:=bnd h
  have p5:=fun {sc F} (r:PS sc F) => sg 0 c1 <| sv (sT24.ia (k := .i64) bx2) <| sv (qEh x2) <| sca (qnD br3) <| r
  rcases ifs h with ⟨c4,h⟩ | ⟨c4,h⟩
  ·obtain rfl:=lf h
   have z:=p5 <| sg 0 c4 <| eF (qb0 (.inl t8)) (qbG (.inl t8))
   exact ovZ A85 (by intro hx; cases hx) z (by kernel_rfl)
  ·obtain rfl:=lf h
   have z:=p5 <| sg 0 c4 <| eF .normal (qbY s v t7 (w64 (t8 + 1)))
   exact nxZ A85 z (by kernel_rfl)
 ·obtain rfl:=lf h
  have z:=sg 0 c1 <| eF (qb0 (.inr ())) (qbG (.inr ()))
  exact ovZ A85 (by intro hx; cases hx) z (by kernel_rfl)
theorem qgI {x:(Int)⊕(Unit)} (h:qeN s v t7 t8 = some x) :
  Sat Pg GE 0 (.loop (cA b85 55)) (EX (qb0 x) (qbG x)) (qbY s v t7 t8) :=
 Sat.loop (S:=fun (zz:Int) => qbY s v t7 zz) (ex:=qb0) (s:=t8) h fun zz y hy => qlQ s v t7 zz hy
end
def qcI (s:waF) (c:Str):Option (Int) :=
 (qeN s c (s.length:Int) 0).bind fun o6 => match o6 with
 | (.inl o6) =>
  some o6
 | (.inr o6) =>
  some (-1)
theorem qoi {s:waF} {c:Str} {r:Int} (h:qcI s c = some r):CC Pg GE 85 [sl qaC s,.func (.func 86) [] [.eptr (cS c)]] (.int .i64 r) []:=by
 obtain ⟨o6,bo6,h⟩:=bnd h
 rcases o6 with o6 | o6
 ·obtain rfl:=lf h
  have z:=svn (sT24.ln s) <| spc (e := .ret) (s1:=qbG (.inl o6)) (qgI s c (s.length:Int) 0 bo6) <| en (aI (rP (.int .i64 o6)) <| trivial)
  exact cvZ A85 Tryz.call85 Tryz.func85 (c:=b85) rfl (aI (qad qbA s) (aI (aI trivial (aI (clS c) trivial)) trivial)) z (by kernel_rfl)
 ·obtain rfl:=lf h
  have z:=svn (sT24.ln s) <| spc (e := .exit 0) (s1:=qbG (.inr o6)) (qgI s c (s.length:Int) 0 bo6) <| en (aI (rP (.int .i64 (-1))) <| trivial)
  exact cvZ A85 Tryz.call85 Tryz.func85 (c:=b85) rfl (aI (qad qbA s) (aI (aI trivial (aI (clS c) trivial)) trivial)) z (by kernel_rfl)
noncomputable def b49:Code:=Tryz.f49.body.getD .skip
def A49:List Nat:=[]
section
variable (holes:waD) (i:Int) (m:waE)
def qnp:PSt:=stt 25 [(1,sl qas holes),(6,.bptr 1 0),(8,.int .i64 i)] [.dead,.cells [.str ([]:Str),sl qaI m] [(1,88)]] []
def qd4 (o:Bool):PSt:=stt 25 [(1,sl qas holes),(6,.bptr 1 0),(8,.int .i64 i),(19,.bool o)] [.dead,.cells [.str ([]:Str),sl qaI m] [(1,88)]] []
def qeJ:Option ((Bool)) :=
 if (decide (i < 0)) = true then
  some true
 else
  some (decide (i ≥ (holes.length:Int)))
theorem ql6 {x:(Bool)} (h:qeJ holes i = some x) :
  Sat Pg GE 0 (cA b49 28) (EX .normal (qd4 holes i m x)) (qnp holes i m):=by
 rcases ifs h with ⟨c2,h⟩ | ⟨c2,h⟩
 ·obtain rfl:=lf h
  have z:=sg 3 c2 <| eF .normal (qd4 holes i m true)
  exact pcZ A49 z (by kernel_rfl)
 ·obtain rfl:=lf h
  have z:=sg 3 c2 <| svn (sT38.ln holes) <| eF .normal (qd4 holes i m (decide (i ≥ (holes.length:Int))))
  exact pcZ A49 z (by kernel_rfl)
end
def qcK (abs:waF) (holes:waD) (name:Str):Option (tHole×Bool) :=
 (qcI abs name).bind fun r1 =>
 (qeJ holes r1).bind fun o3 =>
 if o3 = true then
  some ((⟨([]:Str),([]:List tVar)⟩:tHole),false)
 else
  (idx holes r1).bind fun x6 =>
  some (x6,true)
theorem qi9 {abs:waF} {holes:waD} {name:Str} {r:tHole×Bool} (h:qcK abs holes name = some r):CC Pg GE 49 [sl qaC abs,sl qas holes,.str name] (.tuple [.agg (qas r.1),.bool r.2]) []:=by
 obtain ⟨r1,br1,h⟩:=bnd h
 obtain ⟨o3,bo3,h⟩:=bnd h
 have p5:=fun {sc F} (r:PS sc F) => se (pcS name) <| sx pz82 <| sca (qoi br1) <| spa 1 <| spc (ql6 holes r1 ([]:List tVar) bo3) <| r
 rcases ifs h with ⟨c4,h⟩ | ⟨c4,h⟩
 ·obtain rfl:=lf h
  have z:=p5 <| sg 0 c4 <| sb (qGv ) (qGw ) <| sy (qpy (⟨([]:Str),([]:List tVar)⟩:tHole)) <| en (aI (vbn PVal.tuple (qyx (qxv (⟨([]:Str),([]:List tVar)⟩:tHole)) (qyx (rP (.bool false)) (rfl:([]:List PVal) = [])))) <| (aI (qa4 (⟨([]:Str),([]:List tVar)⟩:tHole)) (aI trivial trivial)))
  exact cvZ A49 Tryz.call49 Tryz.func49 (c:=b49) rfl (aI (qad qbA abs) (aI (qad qa4 holes) (aI trivial trivial))) z (by kernel_rfl)
 ·obtain ⟨x6,bx6,h⟩:=bnd h
  obtain rfl:=lf h
  have z:=p5 <| sg 0 c4 <| sv (sT38.ia (k := .i64) bx6) <| sv (qFH x6) <| sx (qpr x6) <| en (aI (vbn PVal.tuple (qyx (qxv x6) (qyx (rP (.bool true)) (rfl:([]:List PVal) = [])))) <| (aI (qa4 x6) (aI trivial trivial)))
  exact cvZ A49 Tryz.call49 Tryz.func49 (c:=b49) rfl (aI (qad qbA abs) (aI (qad qa4 holes) (aI trivial trivial))) z (by kernel_rfl)
noncomputable def b50:Code:=Tryz.f50.body.getD .skip
def A50:List Nat:=[]
def qen (a:tHole):Option (waE) :=
 if ((a.Params.length:Int) == 0) = true then
  some ([]:List tVar)
 else
  (slc a.Params (some 1) none).bind fun l3 =>
  some l3
theorem qmc {a:tHole} {r:waE} (h:qen a = some r):CC Pg GE 50 [.agg (qas a)] (sl qaI r) []:=by
 have p2:=fun {sc F} (r:PS sc F) => se (qJf a) <| sv (qjQ a) <| sv (qjG a) <| svn (sT36.ln a.Params) <| r
 rcases ifs h with ⟨c1,h⟩ | ⟨c1,h⟩
 ·obtain rfl:=lf h
  have z:=p2 <| sg 0 c1 <| en (aI (rP (sl qaI ([]:List tVar))) <| (qad qbx ([]:List tVar)))
  exact cvZ A50 Tryz.call50 Tryz.func50 (c:=b50) rfl (aI (qa4 a) trivial) z (by kernel_rfl)
 ·obtain ⟨l3,bl3,h⟩:=bnd h
  obtain rfl:=lf h
  have z:=p2 <| sg 0 c1 <| sv (qjQ a) <| sv (qjG a) <| sv (sT36.sc bl3) <| en (aI (rP (sl qaI l3)) <| (qad qbx l3))
  exact cvZ A50 Tryz.call50 Tryz.func50 (c:=b50) rfl (aI (qa4 a) trivial) z (by kernel_rfl)
abbrev qb3:=(tType→waB→Option (tType))
abbrev qec (R:qb3):Prop := ∀ (t:tType) (vars:waB) (r:tType),R t vars = some r→CC Pg GE 52 [.agg (qac t),sl cS vars] (.agg (qac r)) [(2,33)]
abbrev qiE:=(tType→Option (waB))
abbrev qlO (R:qiE):Prop := ∀ (t:tType) (r:waB),R t = some r→CC Pg GE 91 [.agg (qac t)] (sl cS r) [(0,9)]
noncomputable def b120:Code:=Tryz.f120.body.getD .skip
def A120:List Nat:=[]
def qfR (t:tType) (i:Int):Option (waB) :=
 if (t.Op != 6) = true then
  some ([]:List Str)
 else
  (slc t.Names none (some (if (t.Names.length:Int) < i then (t.Names.length:Int) else i))).bind fun l3 =>
  some l3
theorem qvd {t:tType} {i:Int} {r:waB} (h:qfR t i = some r):CC Pg GE 120 [.agg (qac t),.int .i64 i] (sl cS r) []:=by
 have p2:=fun {sc F} (r:PS sc F) => se (qbj t) <| sv (qam t) <| sv (qal t) <| r
 rcases ifs h with ⟨c1,h⟩ | ⟨c1,h⟩
 ·obtain rfl:=lf h
  have z:=p2 <| sg 0 c1 <| en (aI (rP (sl cS ([]:List Str))) <| (qad clS ([]:List Str)))
  exact cvZ A120 Tryz.call120 Tryz.func120 (c:=b120) rfl (aI (qaf t) (aI trivial trivial)) z (by kernel_rfl)
 ·obtain ⟨l3,bl3,h⟩:=bnd h
  obtain rfl:=lf h
  have z:=p2 <| sg 0 c1 <| sv (qaz t) <| sv (qay t) <| sv (qaz t) <| sv (qay t) <| svn (sT22.ln t.Names) <| sv (sT22.sc bl3) <| en (aI (rP (sl cS l3)) <| (qad clS l3))
  exact cvZ A120 Tryz.call120 Tryz.func120 (c:=b120) rfl (aI (qaf t) (aI trivial trivial)) z (by kernel_rfl)
noncomputable def b72:Code:=Tryz.f72.body.getD .skip
def A72:List Nat:=[]
def qbQ (s:waB) (v:Str):Option (Bool) :=
 (qje s v).bind fun r1 =>
 some (decide (r1 ≥ 0))
theorem qb1 {s:waB} {v:Str} {r:Bool} (h:qbQ s v = some r):CC Pg GE 72 [sl cS s,.str v] (.bool r) []:=by
 obtain ⟨r1,br1,h⟩:=bnd h
 obtain rfl:=lf h
 have z:=sca (qoc br1) <| en (aI (rP (.bool (decide (r1 ≥ 0)))) <| trivial)
 exact cvZ A72 Tryz.call72 Tryz.func72 (c:=b72) rfl (aI (qad clS s) (aI trivial trivial)) z (by kernel_rfl)
end Go.Proofs.YtgldgpdhblndkaaGreatDoor
