/- WHAT IS PROVED: parts of the proof, put together by a program (G16). Conditions: none. -/
import Derived.Test.YtgldgpdhblndkaaGreatDoorPkF24
noncomputable section
namespace Go.Proofs.YtgldgpdhblndkaaGreatDoor
open Go
set_option linter.unusedVariables false
set_option maxRecDepth 100000
noncomputable def b117:Code:=Tryz.f117.body.getD .skip
def A117:List Nat:=[32]
section
variable (v:waG) (p:tPred) (t26:waE) (t27:Int) (m:Int) (m2:Str) (m3:Int) (m4:waA) (m5:Str) (names:waB) (t28:Int)
def qdD:PSt:=stt 63 [(2,sl qcD v),(3,.eptr (qaa p)),(6,.bptr 1 0),(9,sl cS names),(26,sl qaI t26),(27,.int .i64 t27),(28,.int .i64 t28)] [.dead,.cells [.int .i64 m,.str m2,.int .i64 m3,sl qaa m4] [(3,31)],.cells [.str m5,sl qaI t26] []] [((9,0),9)]
def qif (o:waB):PSt:=stt 63 [(2,sl qcD v),(3,.eptr (qaa p)),(6,.bptr 1 0),(9,sl cS o)] [.dead,.cells [.int .i64 m,.str m2,.int .i64 m3,sl qaa m4] [(3,31)],.cells [.str m5,sl qaI t26] []] [((9,0),9)]
def qlZ:Option ((waB×Int)⊕((waB))) :=
 if (decide (t28 < t27)) = true then
  (idx t26 t28).bind fun x6 =>
  (app names ([x6.Name]:List Str)).bind fun l7 =>
  some (.inl (l7,w64 (t28 + 1)))
 else
  some (.inr names)
def qg2:Option ((waB)):=loop (fun (zz:waB×Int) => qlZ t26 t27 zz.1 zz.2) (names,t28)
theorem qrX {y:(waB×Int)⊕((waB))} (h:qlZ t26 t27 names t28 = some y) :
  Sat Pg GE 0 (cA b117 114423) (LQ (fun (zz:waB×Int) => qdD v p t26 t27 m m2 m3 m4 m5 zz.1 zz.2) (fun _ => .exit 2) (qif v p t26 m m2 m3 m4 m5) y) (qdD v p t26 t27 m m2 m3 m4 m5 names t28):=by
 rcases ifs h with ⟨c5,h⟩ | ⟨c5,h⟩
 ·obtain ⟨x6,bx6,h⟩:=bnd h
  obtain ⟨l7,bl7,h⟩:=bnd h
  obtain rfl:=lf h
  have z:=sg 0 c5 <| sv (sT36.ia (k := .i64) bx6) <| sv (qBx x6) <| sx pz88 <| sx (qAj x6) <| ss <| sv (sT22.mk' (v:=PVal.str) pcS ([x6.Name]:List Str) 1 (by kernel_rfl)) <| sv (sT22.ap bl7) <| eFx 0 .normal (qdD v p t26 t27 m m2 m3 m4 m5 l7 (w64 (t28 + 1))) rfl (qbn (aI (up (qad qjt v)) (aI (qbw (qab p)) (aI (qcH rfl) (aI (up (qad clS l7)) (aI (up (qad qbx t26)) (aI trivial (aI trivial trivial)))))))) (aI trivial (aI (aI trivial (aI trivial (aI trivial (aI (up (qad qab m4)) trivial)))) (aI (aI trivial (aI (up (qad qbx t26)) trivial)) trivial)))
  exact qa5 (A:=A117) mixed z (by kernel_rfl)
 ·obtain rfl:=lf h
  have z:=sg 0 c5 <| eF (.exit 2) (qif v p t26 m m2 m3 m4 m5 names)
  exact ovZ A117 (by intro hx; cases hx) z (by kernel_rfl)
theorem qkO {x:(waB)} (h:qg2 t26 t27 names t28 = some x) :
  Sat Pg GE 0 (.loop (cA b117 114423)) (EX (.exit 2) (qif v p t26 m m2 m3 m4 m5 x)) (qdD v p t26 t27 m m2 m3 m4 m5 names t28) :=
 Sat.loop (S:=fun (zz:waB×Int) => qdD v p t26 t27 m m2 m3 m4 m5 zz.1 zz.2) (ex:=(fun _ => .exit 2)) (s:=(names,t28)) h fun zz y hy => qrX v p t26 t27 m m2 m3 m4 m5 zz.1 zz.2 hy
end
section
variable (p:tPred) (names:waB) (t38:waG) (t39:Int) (m5:Str) (m6:waE) (t40:Int) (m:Int) (m2:Str) (m3:Int) (m4:waA)
def qdV:PSt:=stt 63 [(3,.eptr (qaa p)),(6,.bptr 1 0),(9,sl cS names),(38,sl qcD t38),(39,.int .i64 t39),(40,.int .i64 t40)] [.dead,.cells [.int .i64 m,.str m2,.int .i64 m3,sl qaa m4] [(3,31)],.cells [.str m5,sl qaI m6] []] [((9,0),9)]
def qc6 (o:(Int×Str×Int×waA)⊕(Int×Str×Int×waA)):Exit:=match o with
 | (.inl _) => .ret
 | (.inr _) => .exit 4
def qcm (o:(Int×Str×Int×waA)⊕(Int×Str×Int×waA)):PSt:=match o with
 | (.inl o) => stt 63 [(6,.bptr 1 0)] [.dead,.cells [.int .i64 o.1,.str o.2.1,.int .i64 o.2.2.1,sl qaa o.2.2.2] [],.cells [.str m5,sl qaI m6] []] []
 | (.inr o) => stt 63 [(6,.bptr 1 0)] [.dead,.cells [.int .i64 o.1,.str o.2.1,.int .i64 o.2.2.1,sl qaa o.2.2.2] [(3,31)],.cells [.str m5,sl qaI m6] []] []
def qdG:Option ((Int×Int×Str×Int×waA)⊕((Int×Str×Int×waA)⊕(Int×Str×Int×waA))) :=
 if (decide (t40 < t39)) = true then
  (idx t38 t40).bind fun x10 =>
  if (x10.Name == p.Name) = true then
   (qlm x10.Pred).bind fun r13 =>
   if r13 = true then
    (qkP).bind fun r16 =>
    some (.inr (.inl (r16.Op,r16.Name,r16.N,r16.Kids)))
   else
    (qkW x10.Pred names p.Kids).bind fun r17 =>
    some (.inr (.inl (r17.Op,r17.Name,r17.N,r17.Kids)))
  else
   some (.inl (w64 (t40 + 1),m,m2,m3,m4))
 else
  some (.inr (.inr (m,m2,m3,m4)))
def qg8:Option ((Int×Str×Int×waA)⊕(Int×Str×Int×waA)):=loop (fun (zz:Int×Int×Str×Int×waA) => qdG p names t38 t39 zz.1 zz.2.1 zz.2.2.1 zz.2.2.2.1 zz.2.2.2.2) (t40,m,m2,m3,m4)
theorem qrm {y:(Int×Int×Str×Int×waA)⊕((Int×Str×Int×waA)⊕(Int×Str×Int×waA))} (h:qdG p names t38 t39 t40 m m2 m3 m4 = some y) :
  Sat Pg GE 0 (cA b117 228855) (LQ (fun (zz:Int×Int×Str×Int×waA) => qdV p names t38 t39 m5 m6 zz.1 zz.2.1 zz.2.2.1 zz.2.2.2.1 zz.2.2.2.2) qc6 (qcm m5 m6) y) (qdV p names t38 t39 m5 m6 t40 m m2 m3 m4):=by
 rcases ifs h with ⟨c9,h⟩ | ⟨c9,h⟩
 ·obtain ⟨x10,bx10,h⟩:=bnd h
  have p12:=fun {sc F} (r:PS sc F) => sg 0 c9 <| sv (sT80.ia (k := .i64) bx10) <| sv (qLg x10) <| sx pz84 <| sx (qKb x10) <| ss <| sv (qaH p) <| sv (qaO p) <| r
  rcases ifs h with ⟨c11,h⟩ | ⟨c11,h⟩
  ·obtain ⟨r13,br13,h⟩:=bnd h
   have p15:=fun {sc F} (r:PS sc F) => p12 <| sg 0 c11 <| sv (qax x10.Pred []) <| sca (qkh br13) <| r
   rcases ifs h with ⟨c14,h⟩ | ⟨c14,h⟩
   ·obtain ⟨r16,br16,h⟩:=bnd h
    obtain rfl:=lf h
    have z:=p15 <| sg 0 c14 <| sca (qkA br16) <| sy (qao r16) <| eFx 0 (qc6 (.inl (r16.Op,r16.Name,r16.N,r16.Kids))) (qcm m5 m6 (.inl (r16.Op,r16.Name,r16.N,r16.Kids))) rfl (qbn (aI (qcH rfl) trivial)) (aI trivial (aI (aI trivial (aI trivial (aI trivial (aI (up (qad qab r16.Kids)) trivial)))) (aI (aI trivial (aI (up (qad qbx m6)) trivial)) trivial)))
    exact qhP (A:=A117) mixed (by intro hx; cases hx) z (by kernel_rfl)
   ·obtain ⟨r17,br17,h⟩:=bnd h
    obtain rfl:=lf h
    have z:=p15 <| sg 0 c14 <| sv (qax x10.Pred []) <| sv (qat p) <| sv (qav p) <| sca (qoA br17) <| sx (qaB r17) <| eFx 0 (qc6 (.inl (r17.Op,r17.Name,r17.N,r17.Kids))) (qcm m5 m6 (.inl (r17.Op,r17.Name,r17.N,r17.Kids))) rfl (qbn (aI (qcH rfl) trivial)) (aI trivial (aI (aI trivial (aI trivial (aI trivial (aI (up (qad qab r17.Kids)) trivial)))) (aI (aI trivial (aI (up (qad qbx m6)) trivial)) trivial)))
    exact qhP (A:=A117) mixed (by intro hx; cases hx) z (by kernel_rfl)
  ·obtain rfl:=lf h
   have z:=p12 <| sg 0 c11 <| eFx 0 .normal (qdV p names t38 t39 m5 m6 (w64 (t40 + 1)) m m2 m3 m4) rfl (qbn (aI (qbw (qab p)) (aI (qcH rfl) (aI (up (qad clS names)) (aI (up (qad qjt t38)) (aI trivial (aI trivial trivial))))))) (aI trivial (aI (aI trivial (aI trivial (aI trivial (aI (up (qad qab m4)) trivial)))) (aI (aI trivial (aI (up (qad qbx m6)) trivial)) trivial)))
   exact qa5 (A:=A117) mixed z (by kernel_rfl)
 ·obtain rfl:=lf h
  have z:=sg 0 c9 <| eF (qc6 (.inr (m,m2,m3,m4))) (qcm m5 m6 (.inr (m,m2,m3,m4)))
  exact ovZ A117 (by intro hx; cases hx) z (by kernel_rfl)
theorem qlf {x:(Int×Str×Int×waA)⊕(Int×Str×Int×waA)} (h:qg8 p names t38 t39 t40 m m2 m3 m4 = some x) :
  Sat Pg GE 0 (.loop (cA b117 228855)) (EX (qc6 x) (qcm m5 m6 x)) (qdV p names t38 t39 m5 m6 t40 m m2 m3 m4) :=
 Sat.loop (S:=fun (zz:Int×Int×Str×Int×waA) => qdV p names t38 t39 m5 m6 zz.1 zz.2.1 zz.2.2.1 zz.2.2.2.1 zz.2.2.2.2) (ex:=qc6) (s:=(t40,m,m2,m3,m4)) h fun zz y hy => qrm p names t38 t39 m5 m6 zz.1 zz.2.1 zz.2.2.1 zz.2.2.2.1 zz.2.2.2.2 hy
end
section
variable (v:waG) (p:tPred) (t14:waD) (t15:Int) (t16:Int) (m:Int) (m2:Str) (m3:Int) (m4:waA)
def qdS:PSt:=stt 63 [(2,sl qcD v),(3,.eptr (qaa p)),(6,.bptr 1 0),(14,sl qas t14),(15,.int .i64 t15),(16,.int .i64 t16)] [.dead,.cells [.int .i64 m,.str m2,.int .i64 m3,sl qaa m4] [(3,31)]] []
def qc9 (o:(Int×Str×Int×waA)⊕(Int×Str×Int×waA)):Exit:=match o with
 | (.inl _) => .ret
 | (.inr _) => .exit 0
def qcn (o:(Int×Str×Int×waA)⊕(Int×Str×Int×waA)):PSt:=match o with
 | (.inl o) => stt 63 [(6,.bptr 1 0)] [.dead,.cells [.int .i64 o.1,.str o.2.1,.int .i64 o.2.2.1,sl qaa o.2.2.2] []] []
 | (.inr o) => stt 63 [(6,.bptr 1 0)] [.dead,.cells [.int .i64 o.1,.str o.2.1,.int .i64 o.2.2.1,sl qaa o.2.2.2] [(3,31)]] []
def qdH:Option ((Int×Int×Str×Int×waA)⊕((Int×Str×Int×waA)⊕(Int×Str×Int×waA))) :=
 if (decide (t16 < t15)) = true then
  (idx t14 t16).bind fun x2 =>
  if (!(x2.Name == p.Name)) = true then
   some (.inl (w64 (t16 + 1),m,m2,m3,m4))
  else
   (qg2 x2.Params (x2.Params.length:Int) ([]:List Str) 0).bind fun o8 =>
   (qg8 p o8 v (v.length:Int) 0 m m2 m3 m4).bind fun o18 => match o18 with
   | (.inl o18) =>
    some (.inr (.inl (o18.1,o18.2.1,o18.2.2.1,o18.2.2.2)))
   | (.inr o18) =>
    (qkP).bind fun r19 =>
    some (.inr (.inl (r19.Op,r19.Name,r19.N,r19.Kids)))
 else
  some (.inr (.inr (m,m2,m3,m4)))
def qkD:Option ((Int×Str×Int×waA)⊕(Int×Str×Int×waA)):=loop (fun (zz:Int×Int×Str×Int×waA) => qdH v p t14 t15 zz.1 zz.2.1 zz.2.2.1 zz.2.2.2.1 zz.2.2.2.2) (t16,m,m2,m3,m4)
theorem qrs {y:(Int×Int×Str×Int×waA)⊕((Int×Str×Int×waA)⊕(Int×Str×Int×waA))} (h:qdH v p t14 t15 t16 m m2 m3 m4 = some y) :
  Sat Pg GE 0 (cA b117 55) (LQ (fun (zz:Int×Int×Str×Int×waA) => qdS v p t14 t15 zz.1 zz.2.1 zz.2.2.1 zz.2.2.2.1 zz.2.2.2.2) qc9 (qcn) y) (qdS v p t14 t15 t16 m m2 m3 m4):=by
 rcases ifs h with ⟨c1,h⟩ | ⟨c1,h⟩
 ·obtain ⟨x2,bx2,h⟩:=bnd h
  have p4:=fun {sc F} (r:PS sc F) => sg 0 c1 <| sv (sT38.ia (k := .i64) bx2) <| sv (qFH x2) <| sx pz82 <| sx (qpr x2) <| ss <| sv (qaH p) <| sv (qaO p) <| r
  rcases ifs h with ⟨c3,h⟩ | ⟨c3,h⟩
  ·obtain rfl:=lf h
   have z:=p4 <| sg 0 c3 <| eFx 0 .normal (qdS v p t14 t15 (w64 (t16 + 1)) m m2 m3 m4) rfl (qbn (aI (up (qad qjt v)) (aI (qbw (qab p)) (aI (qcH rfl) (aI (up (qad qa4 t14)) (aI trivial (aI trivial trivial))))))) (aI trivial (aI (aI trivial (aI trivial (aI trivial (aI (up (qad qab m4)) trivial)))) trivial))
   exact qa5 (A:=A117) mixed z (by kernel_rfl)
  ·obtain ⟨o8,bo8,h⟩:=bnd h
   obtain ⟨o18,bo18,h⟩:=bnd h
   rcases o18 with o18 | o18
   ·obtain rfl:=lf h
    have z:=p4 <| sg 0 c3 <| ss <| svn (sT36.ln x2.Params) <| spc (qkO v p x2.Params (x2.Params.length:Int) m m2 m3 m4 x2.Name ([]:List Str) 0 bo8) <| svn (sT80.ln v) <| spc (e := .ret) (s1:=qcm x2.Name x2.Params (.inl o18)) (qlf p o8 v (v.length:Int) x2.Name x2.Params 0 m m2 m3 m4 bo18) <| eFx 0 (qc9 (.inl (o18.1,o18.2.1,o18.2.2.1,o18.2.2.2))) (qcn (.inl (o18.1,o18.2.1,o18.2.2.1,o18.2.2.2))) rfl (qbn (aI (qcH rfl) trivial)) (aI trivial (aI (aI trivial (aI trivial (aI trivial (aI (up (qad qab o18.2.2.2)) trivial)))) trivial))
    exact qhP (A:=A117) mixed (by intro hx; cases hx) z (by kernel_rfl)
   ·obtain ⟨r19,br19,h⟩:=bnd h
    obtain rfl:=lf h
    have z:=p4 <| sg 0 c3 <| ss <| svn (sT36.ln x2.Params) <| spc (qkO v p x2.Params (x2.Params.length:Int) m m2 m3 m4 x2.Name ([]:List Str) 0 bo8) <| svn (sT80.ln v) <| spc (e := .exit 4) (s1:=qcm x2.Name x2.Params (.inr o18)) (qlf p o8 v (v.length:Int) x2.Name x2.Params 0 m m2 m3 m4 bo18) <| sca (qkA br19) <| sy (qao r19) <| eFx 0 (qc9 (.inl (r19.Op,r19.Name,r19.N,r19.Kids))) (qcn (.inl (r19.Op,r19.Name,r19.N,r19.Kids))) rfl (qbn (aI (qcH rfl) trivial)) (aI trivial (aI (aI trivial (aI trivial (aI trivial (aI (up (qad qab r19.Kids)) trivial)))) trivial))
    exact qhP (A:=A117) mixed (by intro hx; cases hx) z (by kernel_rfl)
 ·obtain rfl:=lf h
  have z:=sg 0 c1 <| eF (qc9 (.inr (m,m2,m3,m4))) (qcn (.inr (m,m2,m3,m4)))
  exact ovZ A117 (by intro hx; cases hx) z (by kernel_rfl)
theorem qlp {x:(Int×Str×Int×waA)⊕(Int×Str×Int×waA)} (h:qkD v p t14 t15 t16 m m2 m3 m4 = some x) :
  Sat Pg GE 0 (.loop (cA b117 55)) (EX (qc9 x) (qcn x)) (qdS v p t14 t15 t16 m m2 m3 m4) :=
 Sat.loop (S:=fun (zz:Int×Int×Str×Int×waA) => qdS v p t14 t15 zz.1 zz.2.1 zz.2.2.1 zz.2.2.2.1 zz.2.2.2.2) (ex:=qc9) (s:=(t16,m,m2,m3,m4)) h fun zz y hy => qrs v p t14 t15 zz.1 zz.2.1 zz.2.2.1 zz.2.2.2.1 zz.2.2.2.2 hy
end
def qle (p:tPred) (holes:waD) (a:waG):Option (tPred) :=
 (qkD a p holes (holes.length:Int) 0 0 ([]:Str) 0 ([]:List tPred)).bind fun o20 => match o20 with
 | (.inl o20) =>
  some (⟨o20.1,o20.2.1,o20.2.2.1,o20.2.2.2⟩:tPred)
 | (.inr o20) =>
  (qkP).bind fun r21 =>
  some r21
theorem qyj {p:tPred} {holes:waD} {a:waG} {r:tPred} (h:qle p holes a = some r):CC Pg GE 117 [.agg (qaa p),sl qas holes,sl qcD a] (.agg (qaa r)) []:=by
 obtain ⟨o20,bo20,h⟩:=bnd h
 rcases o20 with o20 | o20
 ·obtain rfl:=lf h
  have z:=se (qaE p) <| sx pz31 <| svn (sT38.ln holes) <| spc (e := .ret) (s1:=qcn (.inl o20)) (qlp a p holes (holes.length:Int) 0 0 ([]:Str) 0 ([]:List tPred) bo20) <| en (aI (qaT (⟨o20.1,o20.2.1,o20.2.2.1,o20.2.2.2⟩:tPred)) <| (qab (⟨o20.1,o20.2.1,o20.2.2.1,o20.2.2.2⟩:tPred)))
  exact cvZ A117 Tryz.call117 Tryz.func117 (c:=b117) rfl (aI (qab p) (aI (qad qa4 holes) (aI (qad qjt a) trivial))) z (by kernel_rfl)
 ·obtain ⟨r21,br21,h⟩:=bnd h
  obtain rfl:=lf h
  have z:=se (qaE p) <| sx pz31 <| svn (sT38.ln holes) <| spc (e := .exit 0) (s1:=qcn (.inr o20)) (qlp a p holes (holes.length:Int) 0 0 ([]:Str) 0 ([]:List tPred) bo20) <| sca (qkA br21) <| sy (qao r21) <| en (aI (qaT r21) <| (qab r21))
  exact cvZ A117 Tryz.call117 Tryz.func117 (c:=b117) rfl (aI (qab p) (aI (qad qa4 holes) (aI (qad qjt a) trivial))) z (by kernel_rfl)
noncomputable def b82:Code:=Tryz.f82.body.getD .skip
def A82:List Nat:=[18]
section
variable (R165:qqb) (holes:waD) (v:waG) (p:tPred) (t12:waA) (t13:Int) (m:waA) (out:waA) (t14:Int)
def qhC:PSt:=stt 37 [(1,sl qas holes),(2,sl qcD v),(3,.eptr (qaa p)),(6,.bptr 1 0),(7,sl qaa out),(12,sl qaa t12),(13,.int .i64 t13),(14,.int .i64 t14)] [.dead,.cells [.int .i64 0,.str ([]:Str),.int .i64 0,sl qaa m] [(3,31)]] [((7,0),31)]
def qmL (o:waA):PSt:=stt 37 [(1,sl qas holes),(2,sl qcD v),(3,.eptr (qaa p)),(6,.bptr 1 0),(7,sl qaa o)] [.dead,.cells [.int .i64 0,.str ([]:Str),.int .i64 0,sl qaa m] [(3,31)]] [((7,0),31)]
def qt5:Option ((waA×Int)⊕((waA))) :=
 if (decide (t14 < t13)) = true then
  (idx t12 t14).bind fun x2 =>
  (R165 x2 holes v).bind fun r3 =>
  (app out ([r3]:List tPred)).bind fun l4 =>
  some (.inl (l4,w64 (t14 + 1)))
 else
  some (.inr out)
def qsp:Option ((waA)):=loop (fun (zz:waA×Int) => qt5 R165 holes v t12 t13 zz.1 zz.2) (out,t14)
theorem qx2 (hR165:qus R165) {y:(waA×Int)⊕((waA))} (h:qt5 R165 holes v t12 t13 out t14 = some y) :
  Sat Pg GE 0 (cA b82 119) (LQ (fun (zz:waA×Int) => qhC holes v p t12 t13 m zz.1 zz.2) (fun _ => .exit 0) (qmL holes v p m) y) (qhC holes v p t12 t13 m out t14):=by
 rcases ifs h with ⟨c1,h⟩ | ⟨c1,h⟩
 ·obtain ⟨x2,bx2,h⟩:=bnd h
  obtain ⟨r3,br3,h⟩:=bnd h
  obtain ⟨l4,bl4,h⟩:=bnd h
  obtain rfl:=lf h
  have z:=sg 0 c1 <| sv (sT29.ia (k := .i64) bx2) <| sv (qaj x2) <| sx pz31 <| sx (qaB x2) <| sv (qax x2 []) <| sca (hR165 _ _ _ _ br3) <| sv (sT29.mk' (v:=qbk) qaL ([r3]:List tPred) 1 (by kernel_rfl)) <| sv (sT29.ap bl4) <| eFx 0 .normal (qhC holes v p t12 t13 m l4 (w64 (t14 + 1))) rfl (qbn (aI (up (qad qa4 holes)) (aI (up (qad qjt v)) (aI (qbw (qab p)) (aI (qcH rfl) (aI (up (qad qab l4)) (aI (up (qad qab t12)) (aI trivial (aI trivial trivial))))))))) (aI trivial (aI (aI trivial (aI trivial (aI trivial (aI (up (qad qab m)) trivial)))) trivial))
  exact qa5 (A:=A82) mixed z (by kernel_rfl)
 ·obtain rfl:=lf h
  have z:=sg 0 c1 <| eF (.exit 0) (qmL holes v p m out)
  exact ovZ A82 (by intro hx; cases hx) z (by kernel_rfl)
theorem qy9 (hR165:qus R165) {x:(waA)} (h:qsp R165 holes v t12 t13 out t14 = some x) :
  Sat Pg GE 0 (.loop (cA b82 119)) (EX (.exit 0) (qmL holes v p m x)) (qhC holes v p t12 t13 m out t14) :=
 Sat.loop (S:=fun (zz:waA×Int) => qhC holes v p t12 t13 m zz.1 zz.2) (ex:=(fun _ => .exit 0)) (s:=(out,t14)) h fun zz y hy => qx2 R165 holes v p t12 t13 m zz.1 zz.2 hR165 hy
end
def qqd (R165:qqb) (p:tPred) (holes:waD) (a:waG):Option (tPred) :=
 (qsp R165 holes a p.Kids (p.Kids.length:Int) ([]:List tPred) 0).bind fun o5 =>
 (qwo p o5).bind fun r6 =>
 if (p.Op == 5) = true then
  (qle r6 holes a).bind fun r9 =>
  some r9
 else
  some r6
theorem qCj (R165:qqb) (hR165:qus R165) {p:tPred} {holes:waD} {a:waG} {r:tPred} (h:qqd R165 p holes a = some r):CC Pg GE 82 [.agg (qaa p),sl qas holes,sl qcD a] (.agg (qaa r)) []:=by
 obtain ⟨o5,bo5,h⟩:=bnd h
 obtain ⟨r6,br6,h⟩:=bnd h
 have p8:=fun {sc F} (r:PS sc F) => se (qaE p) <| sx pz31 <| sv (qat p) <| sv (qav p) <| svn (sT29.ln p.Kids) <| spc (qy9 R165 holes a p p.Kids (p.Kids.length:Int) ([]:List tPred) ([]:List tPred) 0 hR165 bo5) <| sv (qaj p) <| sca (qw3 br6) <| sx pz31 <| sx (qaB r6) <| sv (qaw p) <| sv (qau p) <| r
 rcases ifs h with ⟨c7,h⟩ | ⟨c7,h⟩
 ·obtain ⟨r9,br9,h⟩:=bnd h
  obtain rfl:=lf h
  have z:=p8 <| sg 0 c7 <| sv (qax r6 []) <| sca (qyj br9) <| sx (qaB r9) <| en (aI (qaT r9) <| (qab r9))
  exact cvZ A82 Tryz.call82 Tryz.func82 (c:=b82) rfl (aI (qab p) (aI (qad qa4 holes) (aI (qad qjt a) trivial))) z (by kernel_rfl)
 ·obtain rfl:=lf h
  have z:=p8 <| sg 0 c7 <| sv (qax r6 []) <| sx (qaB r6) <| en (aI (qaT r6) <| (qab r6))
  exact cvZ A82 Tryz.call82 Tryz.func82 (c:=b82) rfl (aI (qab p) (aI (qad qa4 holes) (aI (qad qjt a) trivial))) z (by kernel_rfl)
def qug:((tPred×waD×waG)→Option (tPred))→(tPred×waD×waG)→Option (tPred):=fun (rec:(tPred×waD×waG)→Option (tPred)) (x:tPred×waD×waG) => qqd (fun p holes a => rec (p,holes,a)) x.1 x.2.1 x.2.2
def qsJ (p:tPred) (holes:waD) (a:waG):Option (tPred):=fixE (qug) (p,holes,a)
theorem qxs {p:tPred} {holes:waD} {a:waG} {r:tPred} (h:qsJ p holes a = some r):CC Pg GE 82 [.agg (qaa p),sl qas holes,sl qcD a] (.agg (qaa r)) [] :=
 qbo (F:=qug) (M:=fun (x:tPred×waD×waG) (r:tPred) => CC Pg GE 82 [.agg (qaa x.1),sl qas x.2.1,sl qcD x.2.2] (.agg (qaa r)) []) (fun rec hrec x r h => qCj _ (fun p holes a r h => hrec (p,holes,a) r h) h) h
noncomputable def b36:Code:=Tryz.f36.body.getD .skip
def A36:List Nat:=[32,49]
section
variable (holes:waD) (v:waG) (t:tType) (t25:waA) (t26:Int) (m:waC) (m2:waA) (m3:Int) (m4:Str) (m5:waB) (m6:Int) (m7:Str) (m8:Int) (m9:waA) (t27:Int) (m10:waA)
def qgY:PSt:=stt 59 [(1,sl qas holes),(2,sl qcD v),(3,.eptr (qac t)),(6,.bptr 1 0),(7,.bptr 2 0),(25,sl qaa t25),(26,.int .i64 t26),(27,.int .i64 t27)] [.dead,.cells [.int .i64 0,.str ([]:Str),sl qac m,sl cS ([]:List Str),.int .i64 0,.str ([]:Str),.int .i64 0,sl qaa m2,sl qaa m2] [(2,33),(3,9),(7,31),(8,31)],.cells [.int .i64 m3,.str m4,sl qac m,sl cS m5,.int .i64 m6,.str m7,.int .i64 m8,sl qaa m9,sl qaa m10] [(2,33),(8,31)]] []
def qnx (o:waA):PSt:=stt 59 [(1,sl qas holes),(2,sl qcD v),(3,.eptr (qac t)),(6,.bptr 1 0),(7,.bptr 2 0)] [.dead,.cells [.int .i64 0,.str ([]:Str),sl qac m,sl cS ([]:List Str),.int .i64 0,.str ([]:Str),.int .i64 0,sl qaa m2,sl qaa m2] [(2,33),(3,9),(7,31),(8,31)],.cells [.int .i64 m3,.str m4,sl qac m,sl cS m5,.int .i64 m6,.str m7,.int .i64 m8,sl qaa m9,sl qaa o] [(2,33),(8,31)]] []
def qtv:Option ((Int×waA)⊕((waA))) :=
 if (decide (t27 < t26)) = true then
  (idx t25 t27).bind fun x3 =>
  (qsJ x3 holes v).bind fun r4 =>
  (app m10 ([r4]:List tPred)).bind fun l5 =>
  some (.inl (w64 (t27 + 1),l5))
 else
  some (.inr m10)
def qsd:Option ((waA)):=loop (fun (zz:Int×waA) => qtv holes v t25 t26 zz.1 zz.2) (t27,m10)
theorem qwE {y:(Int×waA)⊕((waA))} (h:qtv holes v t25 t26 t27 m10 = some y) :
  Sat Pg GE 0 (cA b36 119) (LQ (fun (zz:Int×waA) => qgY holes v t t25 t26 m m2 m3 m4 m5 m6 m7 m8 m9 zz.1 zz.2) (fun _ => .exit 0) (qnx holes v t m m2 m3 m4 m5 m6 m7 m8 m9) y) (qgY holes v t t25 t26 m m2 m3 m4 m5 m6 m7 m8 m9 t27 m10):=by
 rcases ifs h with ⟨c2,h⟩ | ⟨c2,h⟩
 ·obtain ⟨x3,bx3,h⟩:=bnd h
  obtain ⟨r4,br4,h⟩:=bnd h
  obtain ⟨l5,bl5,h⟩:=bnd h
  obtain rfl:=lf h
  have z:=sg 0 c2 <| sv (sT29.ia (k := .i64) bx3) <| sv (qaj x3) <| sx pz31 <| sx (qaB x3) <| sdr [0,1,0,0,0,28,60,127,255,511] <| sv (qax x3 []) <| sca (qxs br4) <| sv (sT29.mk' (v:=qbk) qaL ([r4]:List tPred) 1 (by kernel_rfl)) <| sv (sT29.ap bl5) <| ssf (rfl:qaY (sl qaa l5) = some [sl qaa l5]) <| eFx 0 .normal (qgY holes v t t25 t26 m m2 m3 m4 m5 m6 m7 m8 m9 (w64 (t27 + 1)) l5) rfl (qbn (aI (up (qad qa4 holes)) (aI (up (qad qjt v)) (aI (qbw (qaf t)) (aI (qcH rfl) (aI (qcH rfl) (aI (up (qad qab t25)) (aI trivial (aI trivial trivial))))))))) (aI trivial (aI (aI trivial (aI trivial (aI (up (qad qaf m)) (aI (up (qad clS ([]:List Str))) (aI trivial (aI trivial (aI trivial (aI (up (qad qab m2)) (aI (up (qad qab m2)) trivial))))))))) (aI (aI trivial (aI trivial (aI (up (qad qaf m)) (aI (up (qad clS m5)) (aI trivial (aI trivial (aI trivial (aI (up (qad qab m9)) (aI (up (qad qab l5)) trivial))))))))) trivial)))
  exact qa5 (A:=A36) mixed z (by kernel_rfl)
 ·obtain rfl:=lf h
  have z:=sg 0 c2 <| eF (.exit 0) (qnx holes v t m m2 m3 m4 m5 m6 m7 m8 m9 m10)
  exact ovZ A36 (by intro hx; cases hx) z (by kernel_rfl)
theorem qyO {x:(waA)} (h:qsd holes v t25 t26 t27 m10 = some x) :
  Sat Pg GE 0 (.loop (cA b36 119)) (EX (.exit 0) (qnx holes v t m m2 m3 m4 m5 m6 m7 m8 m9 x)) (qgY holes v t t25 t26 m m2 m3 m4 m5 m6 m7 m8 m9 t27 m10) :=
 Sat.loop (S:=fun (zz:Int×waA) => qgY holes v t t25 t26 m m2 m3 m4 m5 m6 m7 m8 m9 zz.1 zz.2) (ex:=(fun _ => .exit 0)) (s:=(t27,m10)) h fun zz y hy => qwE holes v t t25 t26 m m2 m3 m4 m5 m6 m7 m8 m9 zz.1 zz.2 hy
end
section
variable (R164:qp2) (holes:waD) (v:waG) (t42:waC) (t43:Int) (m:waC) (m2:waA) (m3:Int) (m4:Str) (m6:waB) (m7:Int) (m8:Str) (m9:Int) (m10:waA) (m11:waA) (t44:Int) (m5:waC)
def qht:PSt:=stt 59 [(1,sl qas holes),(2,sl qcD v),(6,.bptr 1 0),(7,.bptr 2 0),(42,sl qac t42),(43,.int .i64 t43),(44,.int .i64 t44)] [.dead,.cells [.int .i64 0,.str ([]:Str),sl qac m,sl cS ([]:List Str),.int .i64 0,.str ([]:Str),.int .i64 0,sl qaa m2,sl qaa m2] [(2,33),(3,9),(7,31),(8,31)],.cells [.int .i64 m3,.str m4,sl qac m5,sl cS m6,.int .i64 m7,.str m8,.int .i64 m9,sl qaa m10,sl qaa m11] [(2,33),(8,31)]] []
def qnE (o:waC):PSt:=stt 59 [(6,.bptr 1 0),(7,.bptr 2 0)] [.dead,.cells [.int .i64 0,.str ([]:Str),sl qac m,sl cS ([]:List Str),.int .i64 0,.str ([]:Str),.int .i64 0,sl qaa m2,sl qaa m2] [(2,33),(3,9),(7,31),(8,31)],.cells [.int .i64 m3,.str m4,sl qac o,sl cS m6,.int .i64 m7,.str m8,.int .i64 m9,sl qaa m10,sl qaa m11] [(2,33),(8,31)]] []
def qtu:Option ((Int×waC)⊕((waC))) :=
 if (decide (t44 < t43)) = true then
  (idx t42 t44).bind fun x8 =>
  (R164 x8 holes v).bind fun r9 =>
  (app m5 ([r9]:List tType)).bind fun l10 =>
  some (.inl (w64 (t44 + 1),l10))
 else
  some (.inr m5)
def qrr:Option ((waC)):=loop (fun (zz:Int×waC) => qtu R164 holes v t42 t43 zz.1 zz.2) (t44,m5)
theorem qxa (hR164:qt7 R164) {y:(Int×waC)⊕((waC))} (h:qtu R164 holes v t42 t43 t44 m5 = some y) :
  Sat Pg GE 0 (cA b36 247) (LQ (fun (zz:Int×waC) => qht holes v t42 t43 m m2 m3 m4 m6 m7 m8 m9 m10 m11 zz.1 zz.2) (fun _ => .exit 2) (qnE m m2 m3 m4 m6 m7 m8 m9 m10 m11) y) (qht holes v t42 t43 m m2 m3 m4 m6 m7 m8 m9 m10 m11 t44 m5):=by
 rcases ifs h with ⟨c7,h⟩ | ⟨c7,h⟩
 ·obtain ⟨x8,bx8,h⟩:=bnd h
  obtain ⟨r9,br9,h⟩:=bnd h
  obtain ⟨l10,bl10,h⟩:=bnd h
  obtain rfl:=lf h
  have z:=sg 0 c7 <| sv (sT27.ia (k := .i64) bx8) <| sv (qaN x8) <| sx pz33 <| sx (qbI x8) <| sdr [0,1,0,0,0,28,60,127,255,511] <| sv (qa3 x8 []) <| sca (hR164 _ _ _ _ br9) <| sv (sT27.mk' (v:=qiq) qdE ([r9]:List tType) 1 (by kernel_rfl)) <| sv (sT27.ap bl10) <| ssf (rfl:qaY (sl qac l10) = some [sl qac l10]) <| eFx 0 .normal (qht holes v t42 t43 m m2 m3 m4 m6 m7 m8 m9 m10 m11 (w64 (t44 + 1)) l10) rfl (qbn (aI (up (qad qa4 holes)) (aI (up (qad qjt v)) (aI (qcH rfl) (aI (qcH rfl) (aI (up (qad qaf t42)) (aI trivial (aI trivial trivial)))))))) (aI trivial (aI (aI trivial (aI trivial (aI (up (qad qaf m)) (aI (up (qad clS ([]:List Str))) (aI trivial (aI trivial (aI trivial (aI (up (qad qab m2)) (aI (up (qad qab m2)) trivial))))))))) (aI (aI trivial (aI trivial (aI (up (qad qaf l10)) (aI (up (qad clS m6)) (aI trivial (aI trivial (aI trivial (aI (up (qad qab m10)) (aI (up (qad qab m11)) trivial))))))))) trivial)))
  exact qa5 (A:=A36) mixed z (by kernel_rfl)
 ·obtain rfl:=lf h
  have z:=sg 0 c7 <| eF (.exit 2) (qnE m m2 m3 m4 m6 m7 m8 m9 m10 m11 m5)
  exact ovZ A36 (by intro hx; cases hx) z (by kernel_rfl)
theorem qy3 (hR164:qt7 R164) {x:(waC)} (h:qrr R164 holes v t42 t43 t44 m5 = some x) :
  Sat Pg GE 0 (.loop (cA b36 247)) (EX (.exit 2) (qnE m m2 m3 m4 m6 m7 m8 m9 m10 m11 x)) (qht holes v t42 t43 m m2 m3 m4 m6 m7 m8 m9 m10 m11 t44 m5) :=
 Sat.loop (S:=fun (zz:Int×waC) => qht holes v t42 t43 m m2 m3 m4 m6 m7 m8 m9 m10 m11 zz.1 zz.2) (ex:=(fun _ => .exit 2)) (s:=(t44,m5)) h fun zz y hy => qxa R164 holes v t42 t43 m m2 m3 m4 m6 m7 m8 m9 m10 m11 zz.1 zz.2 hR164 hy
end
def qqe (R164:qp2) (t:tType) (holes:waD) (a:waG):Option (tType) :=
 (qsJ t.Pred holes a).bind fun r1 =>
 (qsd holes a t.Preds (t.Preds.length:Int) 0 ([]:List tPred)).bind fun o6 =>
 (qrr R164 holes a t.Args (t.Args.length:Int) 0 ([]:List tType)).bind fun o11 =>
 some (⟨t.Op,t.Name,o11,t.Names,r1,o6⟩:tType)
theorem qCX (R164:qp2) (hR164:qt7 R164) {t:tType} {holes:waD} {a:waG} {r:tType} (h:qqe R164 t holes a = some r):CC Pg GE 36 [.agg (qac t),sl qas holes,sl qcD a] (.agg (qac r)) [(2,33),(8,31)]:=by
 obtain ⟨r1,br1,h⟩:=bnd h
 obtain ⟨o6,bo6,h⟩:=bnd h
 obtain ⟨o11,bo11,h⟩:=bnd h
 obtain rfl:=lf h
 have z:=se (qbj t) <| sx pz33 <| sdr [0,1,0,4,0,16,0,64,0,0,960,2047,0,8191] <| sv (qam t) <| sv (qal t) <| sv (qbs t) <| sv (qbC t) <| sv (qaz t) <| sv (qay t) <| sv (qbg t) <| sv (qba t) <| sca (qxs br1) <| sb (qnR t.Op t.Name t.Names r1) (qnP t.Op t.Name t.Names r1) <| syx (qbI (⟨t.Op,t.Name,([]:List tType),t.Names,r1,([]:List tPred)⟩:tType)) <| sv (qaQ t) <| sv (qaP t) <| svn (sT29.ln t.Preds) <| spc (qyO holes a t t.Preds (t.Preds.length:Int) ([]:List tType) ([]:List tPred) t.Op t.Name t.Names r1.Op r1.Name r1.N r1.Kids 0 ([]:List tPred) bo6) <| sv (qaq t) <| sv (qap t) <| svn (sT27.ln t.Args) <| spc (qy3 R164 holes a t.Args (t.Args.length:Int) ([]:List tType) ([]:List tPred) t.Op t.Name t.Names r1.Op r1.Name r1.N r1.Kids o6 0 ([]:List tType) hR164 bo11) <| sz (qa3 (⟨t.Op,t.Name,o11,t.Names,r1,o6⟩:tType) []) <| sy (qaK (⟨t.Op,t.Name,o11,t.Names,r1,o6⟩:tType)) <| en (aI (qcB (⟨t.Op,t.Name,o11,t.Names,r1,o6⟩:tType)) <| aI (qaf (⟨t.Op,t.Name,o11,t.Names,r1,o6⟩:tType)) <| rT)
 exact cvZ A36 Tryz.call36 Tryz.func36 (c:=b36) rfl (aI (qaf t) (aI (qad qa4 holes) (aI (qad qjt a) trivial))) z (by kernel_rfl)
def qvg:((tType×waD×waG)→Option (tType))→(tType×waD×waG)→Option (tType):=fun (rec:(tType×waD×waG)→Option (tType)) (x:tType×waD×waG) => qqe (fun t holes a => rec (t,holes,a)) x.1 x.2.1 x.2.2
def qz4 (t:tType) (holes:waD) (a:waG):Option (tType):=fixE (qvg) (t,holes,a)
theorem qDN {t:tType} {holes:waD} {a:waG} {r:tType} (h:qz4 t holes a = some r):CC Pg GE 36 [.agg (qac t),sl qas holes,sl qcD a] (.agg (qac r)) [(2,33),(8,31)] :=
 qbo (F:=qvg) (M:=fun (x:tType×waD×waG) (r:tType) => CC Pg GE 36 [.agg (qac x.1),sl qas x.2.1,sl qcD x.2.2] (.agg (qac r)) [(2,33),(8,31)]) (fun rec hrec x r h => qCX _ (fun t holes a r h => hrec (t,holes,a) r h) h) h
abbrev qli:=(tType→waB→waA→Option (tType))
abbrev qoy (R:qli):Prop := ∀ (t:tType) (names:waB) (sols:waA) (r:tType),R t names sols = some r→CC Pg GE 37 [.agg (qac t),sl cS names,sl qaa sols] (.agg (qac r)) [(2,33),(8,31)]
abbrev qti:=(tPred→waB→waA→Option (tPred))
abbrev qwH (R:qti):Prop := ∀ (p:tPred) (names:waB) (sols:waA) (r:tPred),R p names sols = some r→CC Pg GE 83 [.agg (qaa p),sl cS names,sl qaa sols] (.agg (qaa r)) []
noncomputable def b83:Code:=Tryz.f83.body.getD .skip
def A83:List Nat:=[26]
section
variable (R168:qti) (names:waB) (sols:waA) (p:tPred) (t19:waA) (t20:Int) (m:waA) (m2:Int) (m3:Str) (m4:Int) (t21:Int) (m5:waA)
def qi3:PSt:=stt 68 [(1,sl cS names),(2,sl qaa sols),(3,.eptr (qaa p)),(6,.bptr 1 0),(7,.bptr 2 0),(19,sl qaa t19),(20,.int .i64 t20),(21,.int .i64 t21)] [.dead,.cells [.int .i64 0,.str ([]:Str),.int .i64 0,sl qaa m] [(3,31)],.cells [.int .i64 m2,.str m3,.int .i64 m4,sl qaa m5] [(3,31)]] []
def qok (o:waA):PSt:=stt 68 [(1,sl cS names),(2,sl qaa sols),(3,.eptr (qaa p)),(6,.bptr 1 0),(7,.bptr 2 0)] [.dead,.cells [.int .i64 0,.str ([]:Str),.int .i64 0,sl qaa m] [(3,31)],.cells [.int .i64 m2,.str m3,.int .i64 m4,sl qaa o] [(3,31)]] []
def qvM:Option ((Int×waA)⊕((waA))) :=
 if (decide (t21 < t20)) = true then
  (idx t19 t21).bind fun x2 =>
  (R168 x2 names sols).bind fun r3 =>
  (app m5 ([r3]:List tPred)).bind fun l4 =>
  some (.inl (w64 (t21 + 1),l4))
 else
  some (.inr m5)
def qut:Option ((waA)):=loop (fun (zz:Int×waA) => qvM R168 names sols t19 t20 zz.1 zz.2) (t21,m5)
theorem qy1 (hR168:qwH R168) {y:(Int×waA)⊕((waA))} (h:qvM R168 names sols t19 t20 t21 m5 = some y) :
  Sat Pg GE 0 (cA b83 119) (LQ (fun (zz:Int×waA) => qi3 names sols p t19 t20 m m2 m3 m4 zz.1 zz.2) (fun _ => .exit 0) (qok names sols p m m2 m3 m4) y) (qi3 names sols p t19 t20 m m2 m3 m4 t21 m5):=by
 rcases ifs h with ⟨c1,h⟩ | ⟨c1,h⟩
 ·obtain ⟨x2,bx2,h⟩:=bnd h
  obtain ⟨r3,br3,h⟩:=bnd h
  obtain ⟨l4,bl4,h⟩:=bnd h
  obtain rfl:=lf h
  have z:=sg 0 c1 <| sv (sT29.ia (k := .i64) bx2) <| sv (qaj x2) <| sx pz31 <| sx (qaB x2) <| sdr [0,1,0,0,0,28,60,127,255,511] <| sv (qax x2 []) <| sca (hR168 _ _ _ _ br3) <| sv (sT29.mk' (v:=qbk) qaL ([r3]:List tPred) 1 (by kernel_rfl)) <| sv (sT29.ap bl4) <| ssf (rfl:qaY (sl qaa l4) = some [sl qaa l4]) <| eFx 0 .normal (qi3 names sols p t19 t20 m m2 m3 m4 (w64 (t21 + 1)) l4) rfl (qbn (aI (up (qad clS names)) (aI (up (qad qab sols)) (aI (qbw (qab p)) (aI (qcH rfl) (aI (qcH rfl) (aI (up (qad qab t19)) (aI trivial (aI trivial trivial))))))))) (aI trivial (aI (aI trivial (aI trivial (aI trivial (aI (up (qad qab m)) trivial)))) (aI (aI trivial (aI trivial (aI trivial (aI (up (qad qab l4)) trivial)))) trivial)))
  exact qa5 (A:=A83) mixed z (by kernel_rfl)
 ·obtain rfl:=lf h
  have z:=sg 0 c1 <| eF (.exit 0) (qok names sols p m m2 m3 m4 m5)
  exact ovZ A83 (by intro hx; cases hx) z (by kernel_rfl)
theorem qAQ (hR168:qwH R168) {x:(waA)} (h:qut R168 names sols t19 t20 t21 m5 = some x) :
  Sat Pg GE 0 (.loop (cA b83 119)) (EX (.exit 0) (qok names sols p m m2 m3 m4 x)) (qi3 names sols p t19 t20 m m2 m3 m4 t21 m5) :=
 Sat.loop (S:=fun (zz:Int×waA) => qi3 names sols p t19 t20 m m2 m3 m4 zz.1 zz.2) (ex:=(fun _ => .exit 0)) (s:=(t21,m5)) h fun zz y hy => qy1 R168 names sols p t19 t20 m m2 m3 m4 zz.1 zz.2 hR168 hy
end
section
variable (sols:waA) (p:tPred) (i:Int) (m:waA) (m2:Int) (m3:Str) (m4:Int) (m5:waA)
def qDx:PSt:=stt 68 [(2,sl qaa sols),(3,.eptr (qaa p)),(6,.bptr 1 0),(7,.bptr 2 0),(10,.int .i64 i)] [.dead,.cells [.int .i64 0,.str ([]:Str),.int .i64 0,sl qaa m] [(3,31)],.cells [.int .i64 m2,.str m3,.int .i64 m4,sl qaa m5] [(3,31)]] []
def qkY (o:Bool):PSt:=stt 68 [(2,sl qaa sols),(6,.bptr 1 0),(7,.bptr 2 0),(10,.int .i64 i),(51,.bool o)] [.dead,.cells [.int .i64 0,.str ([]:Str),.int .i64 0,sl qaa m] [(3,31)],.cells [.int .i64 m2,.str m3,.int .i64 m4,sl qaa m5] [(3,31)]] []
def qu1:Option ((Bool)) :=
 if (p.Op != 4) = true then
  some true
 else
  if ((p.Kids.length:Int) != 1) = true then
   some true
  else
   some (decide (i < 0))
theorem qAV {x:(Bool)} (h:qu1 p i = some x) :
  Sat Pg GE 0 (cA b83 124) (EX .normal (qkY sols i m m2 m3 m4 m5 x)) (qDx sols p i m m2 m3 m4 m5):=by
 have p8:=fun {sc F} (r:PS sc F) => sv (qaw p) <| sv (qau p) <| r
 rcases ifs h with ⟨c7,h⟩ | ⟨c7,h⟩
 ·obtain rfl:=lf h
  have z:=p8 <| sg 4 c7 <| eF .normal (qkY sols i m m2 m3 m4 m5 true)
  exact pcZ A83 z (by kernel_rfl)
 ·have p10:=fun {sc F} (r:PS sc F) => p8 <| sg 4 c7 <| sv (qat p) <| sv (qav p) <| svn (sT29.ln p.Kids) <| r
  rcases ifs h with ⟨c9,h⟩ | ⟨c9,h⟩
  ·obtain rfl:=lf h
   have z:=p10 <| sg 10 c9 <| eF .normal (qkY sols i m m2 m3 m4 m5 true)
   exact pcZ A83 z (by kernel_rfl)
  ·obtain rfl:=lf h
   have z:=p10 <| sg 10 c9 <| eF .normal (qkY sols i m m2 m3 m4 m5 (decide (i < 0)))
   exact pcZ A83 z (by kernel_rfl)
end
def qsL (R168:qti) (p:tPred) (names:waB) (sols:waA):Option (tPred) :=
 (qut R168 names sols p.Kids (p.Kids.length:Int) 0 ([]:List tPred)).bind fun o5 =>
 (qgi names p.Name).bind fun r6 =>
 (qu1 p r6).bind fun o11 =>
 if o11 = true then
  some (⟨p.Op,p.Name,p.N,o5⟩:tPred)
 else
  (idx sols r6).bind fun x14 =>
  (qlm x14).bind fun r15 =>
  if r15 = true then
   (qkP).bind fun r18 =>
   some r18
  else
   (idx sols r6).bind fun x19 =>
   (idx o5 0).bind fun x20 =>
   (qsE x19 ([118]:Str) x20).bind fun r21 =>
   some r21
theorem qDW (R168:qti) (hR168:qwH R168) {p:tPred} {names:waB} {sols:waA} {r:tPred} (h:qsL R168 p names sols = some r):CC Pg GE 83 [.agg (qaa p),sl cS names,sl qaa sols] (.agg (qaa r)) []:=by
 obtain ⟨o5,bo5,h⟩:=bnd h
 obtain ⟨r6,br6,h⟩:=bnd h
 obtain ⟨o11,bo11,h⟩:=bnd h
 have p13:=fun {sc F} (r:PS sc F) => se (qaE p) <| sx pz31 <| sv (qaw p) <| sv (qau p) <| sv (qaH p) <| sv (qaO p) <| sv (qbc p) <| sv (qbq p) <| sb (qfP p.Op p.Name p.N) (qf1 p.Op p.Name p.N) <| sx pz31 <| sy (qao (⟨p.Op,p.Name,p.N,([]:List tPred)⟩:tPred)) <| sv (qat p) <| sv (qav p) <| svn (sT29.ln p.Kids) <| spc (qAQ R168 names sols p p.Kids (p.Kids.length:Int) ([]:List tPred) p.Op p.Name p.N 0 ([]:List tPred) hR168 bo5) <| sv (qaH p) <| sv (qaO p) <| sca (qkd br6) <| spa 1 <| spc (qAV sols p r6 ([]:List tPred) p.Op p.Name p.N o5 bo11) <| r
 rcases ifs h with ⟨c12,h⟩ | ⟨c12,h⟩
 ·obtain rfl:=lf h
  have z:=p13 <| sg 0 c12 <| sz (qax (⟨p.Op,p.Name,p.N,o5⟩:tPred) []) <| sy (qao (⟨p.Op,p.Name,p.N,o5⟩:tPred)) <| en (aI (qaT (⟨p.Op,p.Name,p.N,o5⟩:tPred)) <| (qab (⟨p.Op,p.Name,p.N,o5⟩:tPred)))
  exact cvZ A83 Tryz.call83 Tryz.func83 (c:=b83) rfl (aI (qab p) (aI (qad clS names) (aI (qad qab sols) trivial))) z (by kernel_rfl)
 ·obtain ⟨x14,bx14,h⟩:=bnd h
  obtain ⟨r15,br15,h⟩:=bnd h
  have p17:=fun {sc F} (r:PS sc F) => p13 <| sg 0 c12 <| sv (sT29.ia (k := .i64) bx14) <| sv (qaj x14) <| sca (qkh br15) <| r
  rcases ifs h with ⟨c16,h⟩ | ⟨c16,h⟩
  ·obtain ⟨r18,br18,h⟩:=bnd h
   obtain rfl:=lf h
   have z:=p17 <| sg 0 c16 <| sca (qkA br18) <| sy (qao r18) <| en (aI (qaT r18) <| (qab r18))
   exact cvZ A83 Tryz.call83 Tryz.func83 (c:=b83) rfl (aI (qab p) (aI (qad clS names) (aI (qad qab sols) trivial))) z (by kernel_rfl)
  ·obtain ⟨x19,bx19,h⟩:=bnd h
   obtain ⟨x20,bx20,h⟩:=bnd h
   obtain ⟨r21,br21,h⟩:=bnd h
   obtain rfl:=lf h
   have z:=p17 <| sg 0 c16 <| sdr [0,0,3,7,0,16,48,112,255,511] <| sv (sT29.ia (k := .i64) bx19) <| sv (qaj x19) <| ss <| sv (sT29.ia (k := .i64) bx20) <| sv (qaj x20) <| sca (qC6 br21) <| sx (qaB r21) <| en (aI (qaT r21) <| (qab r21))
   exact cvZ A83 Tryz.call83 Tryz.func83 (c:=b83) rfl (aI (qab p) (aI (qad clS names) (aI (qad qab sols) trivial))) z (by kernel_rfl)
def qxl:((tPred×waB×waA)→Option (tPred))→(tPred×waB×waA)→Option (tPred):=fun (rec:(tPred×waB×waA)→Option (tPred)) (x:tPred×waB×waA) => qsL (fun p names sols => rec (p,names,sols)) x.1 x.2.1 x.2.2
def qxY (p:tPred) (names:waB) (sols:waA):Option (tPred):=fixE (qxl) (p,names,sols)
theorem qzu {p:tPred} {names:waB} {sols:waA} {r:tPred} (h:qxY p names sols = some r):CC Pg GE 83 [.agg (qaa p),sl cS names,sl qaa sols] (.agg (qaa r)) [] :=
 qbo (F:=qxl) (M:=fun (x:tPred×waB×waA) (r:tPred) => CC Pg GE 83 [.agg (qaa x.1),sl cS x.2.1,sl qaa x.2.2] (.agg (qaa r)) []) (fun rec hrec x r h => qDW _ (fun p names sols r h => hrec (p,names,sols) r h) h) h
noncomputable def b37:Code:=Tryz.f37.body.getD .skip
def A37:List Nat:=[32,49]
section
variable (names:waB) (sols:waA) (t:tType) (t25:waA) (t26:Int) (m:waC) (m2:waA) (m3:Int) (m4:Str) (m5:waB) (m6:Int) (m7:Str) (m8:Int) (m9:waA) (t27:Int) (m10:waA)
def qeP:PSt:=stt 59 [(1,sl cS names),(2,sl qaa sols),(3,.eptr (qac t)),(6,.bptr 1 0),(7,.bptr 2 0),(25,sl qaa t25),(26,.int .i64 t26),(27,.int .i64 t27)] [.dead,.cells [.int .i64 0,.str ([]:Str),sl qac m,sl cS ([]:List Str),.int .i64 0,.str ([]:Str),.int .i64 0,sl qaa m2,sl qaa m2] [(2,33),(3,9),(7,31),(8,31)],.cells [.int .i64 m3,.str m4,sl qac m,sl cS m5,.int .i64 m6,.str m7,.int .i64 m8,sl qaa m9,sl qaa m10] [(2,33),(8,31)]] []
def qkL (o:waA):PSt:=stt 59 [(1,sl cS names),(2,sl qaa sols),(3,.eptr (qac t)),(6,.bptr 1 0),(7,.bptr 2 0)] [.dead,.cells [.int .i64 0,.str ([]:Str),sl qac m,sl cS ([]:List Str),.int .i64 0,.str ([]:Str),.int .i64 0,sl qaa m2,sl qaa m2] [(2,33),(3,9),(7,31),(8,31)],.cells [.int .i64 m3,.str m4,sl qac m,sl cS m5,.int .i64 m6,.str m7,.int .i64 m8,sl qaa m9,sl qaa o] [(2,33),(8,31)]] []
def qo0:Option ((Int×waA)⊕((waA))) :=
 if (decide (t27 < t26)) = true then
  (idx t25 t27).bind fun x3 =>
  (qxY x3 names sols).bind fun r4 =>
  (app m10 ([r4]:List tPred)).bind fun l5 =>
  some (.inl (w64 (t27 + 1),l5))
 else
  some (.inr m10)
def qmA:Option ((waA)):=loop (fun (zz:Int×waA) => qo0 names sols t25 t26 zz.1 zz.2) (t27,m10)
theorem qt8 {y:(Int×waA)⊕((waA))} (h:qo0 names sols t25 t26 t27 m10 = some y) :
  Sat Pg GE 0 (cA b37 119) (LQ (fun (zz:Int×waA) => qeP names sols t t25 t26 m m2 m3 m4 m5 m6 m7 m8 m9 zz.1 zz.2) (fun _ => .exit 0) (qkL names sols t m m2 m3 m4 m5 m6 m7 m8 m9) y) (qeP names sols t t25 t26 m m2 m3 m4 m5 m6 m7 m8 m9 t27 m10):=by
 rcases ifs h with ⟨c2,h⟩ | ⟨c2,h⟩
 ·obtain ⟨x3,bx3,h⟩:=bnd h
  obtain ⟨r4,br4,h⟩:=bnd h
  obtain ⟨l5,bl5,h⟩:=bnd h
  obtain rfl:=lf h
  have z:=sg 0 c2 <| sv (sT29.ia (k := .i64) bx3) <| sv (qaj x3) <| sx pz31 <| sx (qaB x3) <| sdr [0,1,0,0,0,28,60,127,255,511] <| sv (qax x3 []) <| sca (qzu br4) <| sv (sT29.mk' (v:=qbk) qaL ([r4]:List tPred) 1 (by kernel_rfl)) <| sv (sT29.ap bl5) <| ssf (rfl:qaY (sl qaa l5) = some [sl qaa l5]) <| eFx 0 .normal (qeP names sols t t25 t26 m m2 m3 m4 m5 m6 m7 m8 m9 (w64 (t27 + 1)) l5) rfl (qbn (aI (up (qad clS names)) (aI (up (qad qab sols)) (aI (qbw (qaf t)) (aI (qcH rfl) (aI (qcH rfl) (aI (up (qad qab t25)) (aI trivial (aI trivial trivial))))))))) (aI trivial (aI (aI trivial (aI trivial (aI (up (qad qaf m)) (aI (up (qad clS ([]:List Str))) (aI trivial (aI trivial (aI trivial (aI (up (qad qab m2)) (aI (up (qad qab m2)) trivial))))))))) (aI (aI trivial (aI trivial (aI (up (qad qaf m)) (aI (up (qad clS m5)) (aI trivial (aI trivial (aI trivial (aI (up (qad qab m9)) (aI (up (qad qab l5)) trivial))))))))) trivial)))
  exact qa5 (A:=A37) mixed z (by kernel_rfl)
 ·obtain rfl:=lf h
  have z:=sg 0 c2 <| eF (.exit 0) (qkL names sols t m m2 m3 m4 m5 m6 m7 m8 m9 m10)
  exact ovZ A37 (by intro hx; cases hx) z (by kernel_rfl)
theorem qwb {x:(waA)} (h:qmA names sols t25 t26 t27 m10 = some x) :
  Sat Pg GE 0 (.loop (cA b37 119)) (EX (.exit 0) (qkL names sols t m m2 m3 m4 m5 m6 m7 m8 m9 x)) (qeP names sols t t25 t26 m m2 m3 m4 m5 m6 m7 m8 m9 t27 m10) :=
 Sat.loop (S:=fun (zz:Int×waA) => qeP names sols t t25 t26 m m2 m3 m4 m5 m6 m7 m8 m9 zz.1 zz.2) (ex:=(fun _ => .exit 0)) (s:=(t27,m10)) h fun zz y hy => qt8 names sols t t25 t26 m m2 m3 m4 m5 m6 m7 m8 m9 zz.1 zz.2 hy
end
section
variable (R167:qli) (names:waB) (sols:waA) (t42:waC) (t43:Int) (m:waC) (m2:waA) (m3:Int) (m4:Str) (m6:waB) (m7:Int) (m8:Str) (m9:Int) (m10:waA) (m11:waA) (t44:Int) (m5:waC)
def qeW:PSt:=stt 59 [(1,sl cS names),(2,sl qaa sols),(6,.bptr 1 0),(7,.bptr 2 0),(42,sl qac t42),(43,.int .i64 t43),(44,.int .i64 t44)] [.dead,.cells [.int .i64 0,.str ([]:Str),sl qac m,sl cS ([]:List Str),.int .i64 0,.str ([]:Str),.int .i64 0,sl qaa m2,sl qaa m2] [(2,33),(3,9),(7,31),(8,31)],.cells [.int .i64 m3,.str m4,sl qac m5,sl cS m6,.int .i64 m7,.str m8,.int .i64 m9,sl qaa m10,sl qaa m11] [(2,33),(8,31)]] []
def qkl (o:waC):PSt:=stt 59 [(6,.bptr 1 0),(7,.bptr 2 0)] [.dead,.cells [.int .i64 0,.str ([]:Str),sl qac m,sl cS ([]:List Str),.int .i64 0,.str ([]:Str),.int .i64 0,sl qaa m2,sl qaa m2] [(2,33),(3,9),(7,31),(8,31)],.cells [.int .i64 m3,.str m4,sl qac o,sl cS m6,.int .i64 m7,.str m8,.int .i64 m9,sl qaa m10,sl qaa m11] [(2,33),(8,31)]] []
def qn6:Option ((Int×waC)⊕((waC))) :=
 if (decide (t44 < t43)) = true then
  (idx t42 t44).bind fun x8 =>
  (R167 x8 names sols).bind fun r9 =>
  (app m5 ([r9]:List tType)).bind fun l10 =>
  some (.inl (w64 (t44 + 1),l10))
 else
  some (.inr m5)
def qmw:Option ((waC)):=loop (fun (zz:Int×waC) => qn6 R167 names sols t42 t43 zz.1 zz.2) (t44,m5)
theorem quO (hR167:qoy R167) {y:(Int×waC)⊕((waC))} (h:qn6 R167 names sols t42 t43 t44 m5 = some y) :
  Sat Pg GE 0 (cA b37 247) (LQ (fun (zz:Int×waC) => qeW names sols t42 t43 m m2 m3 m4 m6 m7 m8 m9 m10 m11 zz.1 zz.2) (fun _ => .exit 2) (qkl m m2 m3 m4 m6 m7 m8 m9 m10 m11) y) (qeW names sols t42 t43 m m2 m3 m4 m6 m7 m8 m9 m10 m11 t44 m5):=by
 rcases ifs h with ⟨c7,h⟩ | ⟨c7,h⟩
 ·obtain ⟨x8,bx8,h⟩:=bnd h
  obtain ⟨r9,br9,h⟩:=bnd h
  obtain ⟨l10,bl10,h⟩:=bnd h
  obtain rfl:=lf h
  have z:=sg 0 c7 <| sv (sT27.ia (k := .i64) bx8) <| sv (qaN x8) <| sx pz33 <| sx (qbI x8) <| sdr [0,1,0,0,0,28,60,127,255,511] <| sv (qa3 x8 []) <| sca (hR167 _ _ _ _ br9) <| sv (sT27.mk' (v:=qiq) qdE ([r9]:List tType) 1 (by kernel_rfl)) <| sv (sT27.ap bl10) <| ssf (rfl:qaY (sl qac l10) = some [sl qac l10]) <| eFx 0 .normal (qeW names sols t42 t43 m m2 m3 m4 m6 m7 m8 m9 m10 m11 (w64 (t44 + 1)) l10) rfl (qbn (aI (up (qad clS names)) (aI (up (qad qab sols)) (aI (qcH rfl) (aI (qcH rfl) (aI (up (qad qaf t42)) (aI trivial (aI trivial trivial)))))))) (aI trivial (aI (aI trivial (aI trivial (aI (up (qad qaf m)) (aI (up (qad clS ([]:List Str))) (aI trivial (aI trivial (aI trivial (aI (up (qad qab m2)) (aI (up (qad qab m2)) trivial))))))))) (aI (aI trivial (aI trivial (aI (up (qad qaf l10)) (aI (up (qad clS m6)) (aI trivial (aI trivial (aI trivial (aI (up (qad qab m10)) (aI (up (qad qab m11)) trivial))))))))) trivial)))
  exact qa5 (A:=A37) mixed z (by kernel_rfl)
 ·obtain rfl:=lf h
  have z:=sg 0 c7 <| eF (.exit 2) (qkl m m2 m3 m4 m6 m7 m8 m9 m10 m11 m5)
  exact ovZ A37 (by intro hx; cases hx) z (by kernel_rfl)
theorem qvV (hR167:qoy R167) {x:(waC)} (h:qmw R167 names sols t42 t43 t44 m5 = some x) :
  Sat Pg GE 0 (.loop (cA b37 247)) (EX (.exit 2) (qkl m m2 m3 m4 m6 m7 m8 m9 m10 m11 x)) (qeW names sols t42 t43 m m2 m3 m4 m6 m7 m8 m9 m10 m11 t44 m5) :=
 Sat.loop (S:=fun (zz:Int×waC) => qeW names sols t42 t43 m m2 m3 m4 m6 m7 m8 m9 m10 m11 zz.1 zz.2) (ex:=(fun _ => .exit 2)) (s:=(t44,m5)) h fun zz y hy => quO R167 names sols t42 t43 m m2 m3 m4 m6 m7 m8 m9 m10 m11 zz.1 zz.2 hR167 hy
end
def qll (R167:qli) (t:tType) (names:waB) (sols:waA):Option (tType) :=
 (qxY t.Pred names sols).bind fun r1 =>
 (qmA names sols t.Preds (t.Preds.length:Int) 0 ([]:List tPred)).bind fun o6 =>
 (qmw R167 names sols t.Args (t.Args.length:Int) 0 ([]:List tType)).bind fun o11 =>
 some (⟨t.Op,t.Name,o11,t.Names,r1,o6⟩:tType)
theorem qy8 (R167:qli) (hR167:qoy R167) {t:tType} {names:waB} {sols:waA} {r:tType} (h:qll R167 t names sols = some r):CC Pg GE 37 [.agg (qac t),sl cS names,sl qaa sols] (.agg (qac r)) [(2,33),(8,31)]:=by
 obtain ⟨r1,br1,h⟩:=bnd h
 obtain ⟨o6,bo6,h⟩:=bnd h
 obtain ⟨o11,bo11,h⟩:=bnd h
 obtain rfl:=lf h
 have z:=se (qbj t) <| sx pz33 <| sdr [0,1,0,4,0,16,0,64,0,0,960,2047,0,8191] <| sv (qam t) <| sv (qal t) <| sv (qbs t) <| sv (qbC t) <| sv (qaz t) <| sv (qay t) <| sv (qbg t) <| sv (qba t) <| sca (qzu br1) <| sb (qnR t.Op t.Name t.Names r1) (qnP t.Op t.Name t.Names r1) <| syx (qbI (⟨t.Op,t.Name,([]:List tType),t.Names,r1,([]:List tPred)⟩:tType)) <| sv (qaQ t) <| sv (qaP t) <| svn (sT29.ln t.Preds) <| spc (qwb names sols t t.Preds (t.Preds.length:Int) ([]:List tType) ([]:List tPred) t.Op t.Name t.Names r1.Op r1.Name r1.N r1.Kids 0 ([]:List tPred) bo6) <| sv (qaq t) <| sv (qap t) <| svn (sT27.ln t.Args) <| spc (qvV R167 names sols t.Args (t.Args.length:Int) ([]:List tType) ([]:List tPred) t.Op t.Name t.Names r1.Op r1.Name r1.N r1.Kids o6 0 ([]:List tType) hR167 bo11) <| sz (qa3 (⟨t.Op,t.Name,o11,t.Names,r1,o6⟩:tType) []) <| sy (qaK (⟨t.Op,t.Name,o11,t.Names,r1,o6⟩:tType)) <| en (aI (qcB (⟨t.Op,t.Name,o11,t.Names,r1,o6⟩:tType)) <| aI (qaf (⟨t.Op,t.Name,o11,t.Names,r1,o6⟩:tType)) <| rT)
 exact cvZ A37 Tryz.call37 Tryz.func37 (c:=b37) rfl (aI (qaf t) (aI (qad clS names) (aI (qad qab sols) trivial))) z (by kernel_rfl)
def qpi:((tType×waB×waA)→Option (tType))→(tType×waB×waA)→Option (tType):=fun (rec:(tType×waB×waA)→Option (tType)) (x:tType×waB×waA) => qll (fun t names sols => rec (t,names,sols)) x.1 x.2.1 x.2.2
def quu (t:tType) (names:waB) (sols:waA):Option (tType):=fixE (qpi) (t,names,sols)
theorem qA7 {t:tType} {names:waB} {sols:waA} {r:tType} (h:quu t names sols = some r):CC Pg GE 37 [.agg (qac t),sl cS names,sl qaa sols] (.agg (qac r)) [(2,33),(8,31)] :=
 qbo (F:=qpi) (M:=fun (x:tType×waB×waA) (r:tType) => CC Pg GE 37 [.agg (qac x.1),sl cS x.2.1,sl qaa x.2.2] (.agg (qac r)) [(2,33),(8,31)]) (fun rec hrec x r h => qy8 _ (fun t names sols r h => hrec (t,names,sols) r h) h) h
end Go.Proofs.YtgldgpdhblndkaaGreatDoor
