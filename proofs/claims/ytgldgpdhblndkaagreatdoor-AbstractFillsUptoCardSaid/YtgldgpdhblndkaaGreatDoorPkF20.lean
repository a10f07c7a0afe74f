/- WHAT IS PROVED: parts of the proof, put together by a program (G6). Conditions: none. -/
import Derived.Test.YtgldgpdhblndkaaGreatDoorPkF19
noncomputable section
namespace Go.Proofs.YtgldgpdhblndkaaGreatDoor
open Go
set_option linter.unusedVariables false
set_option maxRecDepth 100000
noncomputable def b70:Code:=Tryz.f70.body.getD .skip
def A70:List Nat:=[]
def qC5 (p:tPred):Option (waA) :=
 (qzs p 4 ([]:List tPred)).bind fun r1 =>
 some r1
theorem qCu {p:tPred} {r:waA} (h:qC5 p = some r):CC Pg GE 70 [.agg (qaa p)] (sl qaa r) [(0,31)]:=by
 obtain ⟨r1,br1,h⟩:=bnd h
 obtain rfl:=lf h
 have z:=se (qaE p) <| sv (qaj p) <| si (.cg ⟨[],[.agg (qaa p),.int .i64 4,sl qaa ([]:List tPred)],[⟨2,1000000,0,31⟩],[],[],[],[],sl qaa r1,sl qaa r1,[(0,31)]⟩) (qAs br1) <| sf (aI (xR [] (.agg (qaa p)) (qab p)) (aI (xR [] (.int .i64 4) trivial) (aI (xR [] (sl qaa ([]:List tPred)) (qad qab ([]:List tPred))) trivial))) <| sf trivial <| sf trivial <| sf (xR [] (sl qaa r1) (qad qab r1)) <| en (aI (rP (sl qaa r1)) <| (qad qab r1))
 exact cvZ A70 Tryz.call70 Tryz.func70 (c:=b70) rfl (aI (qab p) trivial) z (by kernel_rfl)
noncomputable def b71:Code:=Tryz.f71.body.getD .skip
def A71:List Nat:=[]
def qob (a:tPred) (a2:waB):Option (Bool) :=
 (qbQ a2 a.Name).bind fun r1 =>
 some r1
theorem qtY {a:tPred} {a2:waB} {r:Bool} (h:qob a a2 = some r):CC Pg GE 71 [.agg (qaa a),.eptr ((cL cS) a2)] (.bool r) []:=by
 obtain ⟨r1,br1,h⟩:=bnd h
 obtain rfl:=lf h
 have z:=se (qaE a) <| sv (qa9 sc22 (sl cS a2) []) <| sv (qaH a) <| sv (qaO a) <| sca (qb1 br1) <| en (aI (rP (.bool r1)) <| trivial)
 exact cvZ A71 Tryz.call71 Tryz.func71 (c:=b71) rfl (aI (qab a) (aI (clLs clS a2) trivial)) z (by kernel_rfl)
noncomputable def b106:Code:=Tryz.f106.body.getD .skip
def A106:List Nat:=[10,17]
section
variable (s:waA) (v:waB) (t7:Int) (t8:Int)
def qbV:PSt:=stt 19 [(0,sl qaa s),(1,.func (.func 71) [] [.eptr ((cL cS) v)]),(7,.int .i64 t7),(8,.int .i64 t8)] [] []
def qb2 (o:(Int)⊕(Unit)):Exit:=match o with
 | (.inl _) => .ret
 | (.inr _) => .exit 0
def qbE (o:(Int)⊕(Unit)):PSt:=match o with
 | (.inl o) => stt 19 [(4,.int .i64 o)] [] []
 | (.inr o) => stt 19 [] [] []
def qhv:Option ((Int)⊕((Int)⊕(Unit))) :=
 if (decide (t8 < t7)) = true then
  (idx s t8).bind fun x2 =>
  (qob x2 v).bind fun r3 =>
  if r3 = true then
   some (.inr (.inl t8))
  else
   some (.inl (w64 (t8 + 1)))
 else
  some (.inr (.inr ()))
def qjh:Option ((Int)⊕(Unit)):=loop (fun (zz:Int) => qhv s v t7 zz) t8
theorem qlB {y:(Int)⊕((Int)⊕(Unit))} (h:qhv s v t7 t8 = some y) :
  Sat Pg GE 0 (cA b106 55) (LQ (fun (zz:Int) => qbV s v t7 zz) qb2 (qbE) y) (qbV s v t7 t8):=by
 rcases ifs h with ⟨c1,h⟩ | ⟨c1,h⟩
 ·obtain ⟨x2,bx2,h⟩:=bnd h
  obtain ⟨r3,br3,h⟩:=bnd h
  have p5:=fun {sc F} (r:PS sc F) => sg 0 c1 <| sv (sT29.ia (k := .i64) bx2) <| sv (qaj x2) <| sca (qtY br3) <| r
  rcases ifs h with ⟨c4,h⟩ | ⟨c4,h⟩
  ·obtain rfl:=lf h
   have z:=p5 <| sg 0 c4 <| eF (qb2 (.inl t8)) (qbE (.inl t8))
   exact ovZ A106 (by intro hx; cases hx) z (by kernel_rfl)
  ·obtain rfl:=lf h
   have z:=p5 <| sg 0 c4 <| eF .normal (qbV s v t7 (w64 (t8 + 1)))
   exact nxZ A106 z (by kernel_rfl)
 ·obtain rfl:=lf h
  have z:=sg 0 c1 <| eF (qb2 (.inr ())) (qbE (.inr ()))
  exact ovZ A106 (by intro hx; cases hx) z (by kernel_rfl)
theorem qgD {x:(Int)⊕(Unit)} (h:qjh s v t7 t8 = some x) :
  Sat Pg GE 0 (.loop (cA b106 55)) (EX (qb2 x) (qbE x)) (qbV s v t7 t8) :=
 Sat.loop (S:=fun (zz:Int) => qbV s v t7 zz) (ex:=qb2) (s:=t8) h fun zz y hy => qlB s v t7 zz hy
end
def qk0 (s:waA) (c:waB):Option (Int) :=
 (qjh s c (s.length:Int) 0).bind fun o6 => match o6 with
 | (.inl o6) =>
  some o6
 | (.inr o6) =>
  some (-1)
theorem qon {s:waA} {c:waB} {r:Int} (h:qk0 s c = some r):CC Pg GE 106 [sl qaa s,.func (.func 71) [] [.eptr ((cL cS) c)]] (.int .i64 r) []:=by
 obtain ⟨o6,bo6,h⟩:=bnd h
 rcases o6 with o6 | o6
 ·obtain rfl:=lf h
  have z:=svn (sT29.ln s) <| spc (e := .ret) (s1:=qbE (.inl o6)) (qgD s c (s.length:Int) 0 bo6) <| en (aI (rP (.int .i64 o6)) <| trivial)
  exact cvZ A106 Tryz.call106 Tryz.func106 (c:=b106) rfl (aI (qad qab s) (aI (aI trivial (aI (clLs clS c) trivial)) trivial)) z (by kernel_rfl)
 ·obtain rfl:=lf h
  have z:=svn (sT29.ln s) <| spc (e := .exit 0) (s1:=qbE (.inr o6)) (qgD s c (s.length:Int) 0 bo6) <| en (aI (rP (.int .i64 (-1))) <| trivial)
  exact cvZ A106 Tryz.call106 Tryz.func106 (c:=b106) rfl (aI (qad qab s) (aI (aI trivial (aI (clLs clS c) trivial)) trivial)) z (by kernel_rfl)
noncomputable def b69:Code:=Tryz.f69.body.getD .skip
def A69:List Nat:=[]
def qkm (s:waA) (c:waB):Option (Bool) :=
 (qk0 s c).bind fun r1 =>
 some (decide (r1 ≥ 0))
theorem qn0 {s:waA} {c:waB} {r:Bool} (h:qkm s c = some r):CC Pg GE 69 [sl qaa s,.func (.func 71) [] [.eptr ((cL cS) c)]] (.bool r) []:=by
 obtain ⟨r1,br1,h⟩:=bnd h
 obtain rfl:=lf h
 have z:=sca (qon br1) <| en (aI (rP (.bool (decide (r1 ≥ 0)))) <| trivial)
 exact cvZ A69 Tryz.call69 Tryz.func69 (c:=b69) rfl (aI (qad qab s) (aI (aI trivial (aI (clLs clS c) trivial)) trivial)) z (by kernel_rfl)
noncomputable def b73:Code:=Tryz.f73.body.getD .skip
def A73:List Nat:=[25]
section
variable (t8:waA) (t9:Int) (v:Bool) (t10:Int) (m:Int) (m2:Str) (m3:Int) (m4:waA) (m5:Int) (m6:Str) (m7:Int) (m8:waA)
def qd6:PSt:=stt 33 [(2,.bptr 0 0),(3,.bptr 1 0),(4,.bool v),(8,sl qaa t8),(9,.int .i64 t9),(10,.int .i64 t10)] [.cells [.int .i64 m,.str m2,.int .i64 m3,sl qaa m4] [(3,31)],.cells [.int .i64 m5,.str m6,.int .i64 m7,sl qaa m8] []] []
def qhq (o:(Int×Str×Int×waA×Int×Str×Int×waA)⊕(Int×Str×Int×waA×Int×Str×Int×waA)):Exit:=match o with
 | (.inl _) => .ret
 | (.inr _) => .exit 0
def qfm (o:(Int×Str×Int×waA×Int×Str×Int×waA)⊕(Int×Str×Int×waA×Int×Str×Int×waA)):PSt:=match o with
 | (.inl o) => stt 33 [(2,.bptr 0 0)] [.cells [.int .i64 o.1,.str o.2.1,.int .i64 o.2.2.1,sl qaa o.2.2.2.1] [(3,31)],.cells [.int .i64 o.2.2.2.2.1,.str o.2.2.2.2.2.1,.int .i64 o.2.2.2.2.2.2.1,sl qaa o.2.2.2.2.2.2.2] []] []
 | (.inr o) => stt 33 [(2,.bptr 0 0),(3,.bptr 1 0)] [.cells [.int .i64 o.1,.str o.2.1,.int .i64 o.2.2.1,sl qaa o.2.2.2.1] [(3,31)],.cells [.int .i64 o.2.2.2.2.1,.str o.2.2.2.2.2.1,.int .i64 o.2.2.2.2.2.2.1,sl qaa o.2.2.2.2.2.2.2] []] []
def qs8:Option ((Bool×Int×Int×Str×Int×waA×Int×Str×Int×waA)⊕((Int×Str×Int×waA×Int×Str×Int×waA)⊕(Int×Str×Int×waA×Int×Str×Int×waA))) :=
 if (decide (t10 < t9)) = true then
  (idx t8 t10).bind fun x3 =>
  (qxi x3).bind fun r4 =>
  if r4 = true then
   some (.inl (v,w64 (t10 + 1),m,m2,m3,m4,m5,m6,m7,m8))
  else
   (qgO false).bind fun r7 =>
   (qmh x3 r7).bind fun r8 =>
   if r8 = true then
    (qgO false).bind fun r11 =>
    some (.inr (.inl (r11.Op,r11.Name,r11.N,r11.Kids,m5,m6,m7,m8)))
   else
    if v = true then
     (qgr x3).bind fun r14 =>
     some (.inl (v,w64 (t10 + 1),m,m2,m3,m4,15,([]:Str),0,([(⟨m5,m6,m7,m8⟩:tPred),r14]:List tPred)))
    else
     (qgr x3).bind fun r15 =>
     some (.inl (true,w64 (t10 + 1),m,m2,m3,m4,r15.Op,r15.Name,r15.N,r15.Kids))
 else
  some (.inr (.inr (m,m2,m3,m4,m5,m6,m7,m8)))
def qx7:Option ((Int×Str×Int×waA×Int×Str×Int×waA)⊕(Int×Str×Int×waA×Int×Str×Int×waA)):=loop (fun (zz:Bool×Int×Int×Str×Int×waA×Int×Str×Int×waA) => qs8 t8 t9 zz.1 zz.2.1 zz.2.2.1 zz.2.2.2.1 zz.2.2.2.2.1 zz.2.2.2.2.2.1 zz.2.2.2.2.2.2.1 zz.2.2.2.2.2.2.2.1 zz.2.2.2.2.2.2.2.2.1 zz.2.2.2.2.2.2.2.2.2) (v,t10,m,m2,m3,m4,m5,m6,m7,m8)
theorem qw1 {y:(Bool×Int×Int×Str×Int×waA×Int×Str×Int×waA)⊕((Int×Str×Int×waA×Int×Str×Int×waA)⊕(Int×Str×Int×waA×Int×Str×Int×waA))} (h:qs8 t8 t9 v t10 m m2 m3 m4 m5 m6 m7 m8 = some y) :
  Sat Pg GE 0 (cA b73 119) (LQ (fun (zz:Bool×Int×Int×Str×Int×waA×Int×Str×Int×waA) => qd6 t8 t9 zz.1 zz.2.1 zz.2.2.1 zz.2.2.2.1 zz.2.2.2.2.1 zz.2.2.2.2.2.1 zz.2.2.2.2.2.2.1 zz.2.2.2.2.2.2.2.1 zz.2.2.2.2.2.2.2.2.1 zz.2.2.2.2.2.2.2.2.2) qhq (qfm) y) (qd6 t8 t9 v t10 m m2 m3 m4 m5 m6 m7 m8):=by
 rcases ifs h with ⟨c2,h⟩ | ⟨c2,h⟩
 ·obtain ⟨x3,bx3,h⟩:=bnd h
  obtain ⟨r4,br4,h⟩:=bnd h
  have p6:=fun {sc F} (r:PS sc F) => sg 0 c2 <| sv (sT29.ia (k := .i64) bx3) <| sv (qaj x3) <| sx pz31 <| sx (qaB x3) <| sv (qax x3 []) <| sca (qvj br4) <| r
  rcases ifs h with ⟨c5,h⟩ | ⟨c5,h⟩
  ·obtain rfl:=lf h
   have z:=p6 <| sg 0 c5 <| eFx 0 .normal (qd6 t8 t9 v (w64 (t10 + 1)) m m2 m3 m4 m5 m6 m7 m8) rfl (qbn (aI (qcH rfl) (aI (qcH rfl) (aI trivial (aI (up (qad qab t8)) (aI trivial (aI trivial trivial))))))) (aI (aI trivial (aI trivial (aI trivial (aI (up (qad qab m4)) trivial)))) (aI (aI trivial (aI trivial (aI trivial (aI (up (qad qab m8)) trivial)))) trivial))
   exact qa5 (A:=A73) mixed z (by kernel_rfl)
  ·obtain ⟨r7,br7,h⟩:=bnd h
   obtain ⟨r8,br8,h⟩:=bnd h
   have p10:=fun {sc F} (r:PS sc F) => p6 <| sg 0 c5 <| sdr [0,0,3,7] <| sv (qax x3 []) <| sca (qeh br7) <| sca (qi1 br8) <| r
   rcases ifs h with ⟨c9,h⟩ | ⟨c9,h⟩
   ·obtain ⟨r11,br11,h⟩:=bnd h
    obtain rfl:=lf h
    have z:=p10 <| sg 0 c9 <| sca (qeh br11) <| sy (qao r11) <| eFx 0 (qhq (.inl (r11.Op,r11.Name,r11.N,r11.Kids,m5,m6,m7,m8))) (qfm (.inl (r11.Op,r11.Name,r11.N,r11.Kids,m5,m6,m7,m8))) rfl (qbn (aI (qcH rfl) trivial)) (aI (aI trivial (aI trivial (aI trivial (aI (up (qad qab r11.Kids)) trivial)))) (aI (aI trivial (aI trivial (aI trivial (aI (up (qad qab m8)) trivial)))) trivial))
    exact qhP (A:=A73) mixed (by intro hx; cases hx) z (by kernel_rfl)
   ·have p13:=fun {sc F} (r:PS sc F) => p10 <| sg 0 c9 <| r
    rcases ifs h with ⟨c12,h⟩ | ⟨c12,h⟩
    ·obtain ⟨r14,br14,h⟩:=bnd h
     obtain rfl:=lf h
     have z:=p13 <| sg 0 c12 <| sdr [0,0,2,7,15,31] <| sv (qax (⟨m5,m6,m7,m8⟩:tPred) []) <| sv (qax x3 []) <| sca (qf2 br14) <| sv (sT29.mk' (v:=qbk) qaL ([(⟨m5,m6,m7,m8⟩:tPred),r14]:List tPred) 2 (by kernel_rfl)) <| sv (qvK 15 ([(⟨m5,m6,m7,m8⟩:tPred),r14]:List tPred)) <| sx (qaB (⟨15,([]:Str),0,([(⟨m5,m6,m7,m8⟩:tPred),r14]:List tPred)⟩:tPred)) <| eFx 0 .normal (qd6 t8 t9 v (w64 (t10 + 1)) m m2 m3 m4 15 ([]:Str) 0 ([(⟨m5,m6,m7,m8⟩:tPred),r14]:List tPred)) rfl (qbn (aI (qcH rfl) (aI (qcH rfl) (aI trivial (aI (up (qad qab t8)) (aI trivial (aI trivial trivial))))))) (aI (aI trivial (aI trivial (aI trivial (aI (up (qad qab m4)) trivial)))) (aI (aI trivial (aI trivial (aI trivial (aI (up (qad qab ([(⟨m5,m6,m7,m8⟩:tPred),r14]:List tPred))) trivial)))) trivial))
     exact qa5 (A:=A73) mixed z (by kernel_rfl)
    ·obtain ⟨r15,br15,h⟩:=bnd h
     obtain rfl:=lf h
     have z:=p13 <| sg 0 c12 <| sv (qax x3 []) <| sca (qf2 br15) <| sy (qao r15) <| eFx 0 .normal (qd6 t8 t9 true (w64 (t10 + 1)) m m2 m3 m4 r15.Op r15.Name r15.N r15.Kids) rfl (qbn (aI (qcH rfl) (aI (qcH rfl) (aI trivial (aI (up (qad qab t8)) (aI trivial (aI trivial trivial))))))) (aI (aI trivial (aI trivial (aI trivial (aI (up (qad qab m4)) trivial)))) (aI (aI trivial (aI trivial (aI trivial (aI (up (qad qab r15.Kids)) trivial)))) trivial))
     exact qa5 (A:=A73) mixed z (by kernel_rfl)
 ·obtain rfl:=lf h
  have z:=sg 0 c2 <| eF (qhq (.inr (m,m2,m3,m4,m5,m6,m7,m8))) (qfm (.inr (m,m2,m3,m4,m5,m6,m7,m8)))
  exact ovZ A73 (by intro hx; cases hx) z (by kernel_rfl)
theorem qq2 {x:(Int×Str×Int×waA×Int×Str×Int×waA)⊕(Int×Str×Int×waA×Int×Str×Int×waA)} (h:qx7 t8 t9 v t10 m m2 m3 m4 m5 m6 m7 m8 = some x) :
  Sat Pg GE 0 (.loop (cA b73 119)) (EX (qhq x) (qfm x)) (qd6 t8 t9 v t10 m m2 m3 m4 m5 m6 m7 m8) :=
 Sat.loop (S:=fun (zz:Bool×Int×Int×Str×Int×waA×Int×Str×Int×waA) => qd6 t8 t9 zz.1 zz.2.1 zz.2.2.1 zz.2.2.2.1 zz.2.2.2.2.1 zz.2.2.2.2.2.1 zz.2.2.2.2.2.2.1 zz.2.2.2.2.2.2.2.1 zz.2.2.2.2.2.2.2.2.1 zz.2.2.2.2.2.2.2.2.2) (ex:=qhq) (s:=(v,t10,m,m2,m3,m4,m5,m6,m7,m8)) h fun zz y hy => qw1 t8 t9 zz.1 zz.2.1 zz.2.2.1 zz.2.2.2.1 zz.2.2.2.2.1 zz.2.2.2.2.2.1 zz.2.2.2.2.2.2.1 zz.2.2.2.2.2.2.2.1 zz.2.2.2.2.2.2.2.2.1 zz.2.2.2.2.2.2.2.2.2 hy
end
def qE5 (a:waA):Option (tPred) :=
 (qgO true).bind fun r1 =>
 (qx7 a (a.length:Int) false 0 0 ([]:Str) 0 ([]:List tPred) r1.Op r1.Name r1.N r1.Kids).bind fun o16 => match o16 with
 | (.inl o16) =>
  some (⟨o16.1,o16.2.1,o16.2.2.1,o16.2.2.2.1⟩:tPred)
 | (.inr o16) =>
  some (⟨o16.2.2.2.2.1,o16.2.2.2.2.2.1,o16.2.2.2.2.2.2.1,o16.2.2.2.2.2.2.2⟩:tPred)
theorem qDF {a:waA} {r:tPred} (h:qE5 a = some r):CC Pg GE 73 [sl qaa a] (.agg (qaa r)) []:=by
 obtain ⟨r1,br1,h⟩:=bnd h
 obtain ⟨o16,bo16,h⟩:=bnd h
 rcases o16 with o16 | o16
 ·obtain rfl:=lf h
  have z:=sx pz31 <| sca (qeh br1) <| sx pz31 <| sy (qao r1) <| svn (sT29.ln a) <| spc (e := .ret) (s1:=qfm (.inl o16)) (qq2 a (a.length:Int) false 0 0 ([]:Str) 0 ([]:List tPred) r1.Op r1.Name r1.N r1.Kids bo16) <| en (aI (qaT (⟨o16.1,o16.2.1,o16.2.2.1,o16.2.2.2.1⟩:tPred)) <| (qab (⟨o16.1,o16.2.1,o16.2.2.1,o16.2.2.2.1⟩:tPred)))
  exact cvZ A73 Tryz.call73 Tryz.func73 (c:=b73) rfl (aI (qad qab a) trivial) z (by kernel_rfl)
 ·obtain rfl:=lf h
  have z:=sx pz31 <| sca (qeh br1) <| sx pz31 <| sy (qao r1) <| svn (sT29.ln a) <| spc (e := .exit 0) (s1:=qfm (.inr o16)) (qq2 a (a.length:Int) false 0 0 ([]:Str) 0 ([]:List tPred) r1.Op r1.Name r1.N r1.Kids bo16) <| sv (qax (⟨o16.2.2.2.2.1,o16.2.2.2.2.2.1,o16.2.2.2.2.2.2.1,o16.2.2.2.2.2.2.2⟩:tPred) []) <| sx (qaB (⟨o16.2.2.2.2.1,o16.2.2.2.2.2.1,o16.2.2.2.2.2.2.1,o16.2.2.2.2.2.2.2⟩:tPred)) <| en (aI (qaT (⟨o16.2.2.2.2.1,o16.2.2.2.2.2.1,o16.2.2.2.2.2.2.1,o16.2.2.2.2.2.2.2⟩:tPred)) <| (qab (⟨o16.2.2.2.2.1,o16.2.2.2.2.2.1,o16.2.2.2.2.2.2.1,o16.2.2.2.2.2.2.2⟩:tPred)))
  exact cvZ A73 Tryz.call73 Tryz.func73 (c:=b73) rfl (aI (qad qab a) trivial) z (by kernel_rfl)
noncomputable def b25:Code:=Tryz.f25.body.getD .skip
def A25:List Nat:=[22]
section
variable (v:waB) (t10:waA) (t11:Int) (m:waA) (kept:waA) (t12:Int)
def qcL:PSt:=stt 29 [(3,.eptr ((cL cS) v)),(4,.bptr 2 0),(5,sl qaa kept),(10,sl qaa t10),(11,.int .i64 t11),(12,.int .i64 t12)] [.dead,.dead,.cells [.int .i64 0,.str ([]:Str),.int .i64 0,sl qaa m] [(3,31)]] [((10,0),31),((5,0),31)]
def qhd (o:waA):PSt:=stt 29 [(4,.bptr 2 0),(5,sl qaa o)] [.dead,.dead,.cells [.int .i64 0,.str ([]:Str),.int .i64 0,sl qaa m] [(3,31)]] [((5,0),31)]
def qln:Option ((waA×Int)⊕((waA))) :=
 if (decide (t12 < t11)) = true then
  (idx t10 t12).bind fun x3 =>
  (qC5 x3).bind fun r4 =>
  (qkm r4 v).bind fun r5 =>
  if (!r5) = true then
   (app kept ([x3]:List tPred)).bind fun l8 =>
   some (.inl (l8,w64 (t12 + 1)))
  else
   some (.inl (kept,w64 (t12 + 1)))
 else
  some (.inr kept)
def qnL:Option ((waA)):=loop (fun (zz:waA×Int) => qln v t10 t11 zz.1 zz.2) (kept,t12)
theorem qqq {y:(waA×Int)⊕((waA))} (h:qln v t10 t11 kept t12 = some y) :
  Sat Pg GE 0 (cA b25 119) (LQ (fun (zz:waA×Int) => qcL v t10 t11 m zz.1 zz.2) (fun _ => .exit 0) (qhd m) y) (qcL v t10 t11 m kept t12):=by
 rcases ifs h with ⟨c2,h⟩ | ⟨c2,h⟩
 ·obtain ⟨x3,bx3,h⟩:=bnd h
  obtain ⟨r4,br4,h⟩:=bnd h
  obtain ⟨r5,br5,h⟩:=bnd h
  have p7:=fun {sc F} (r:PS sc F) => sg 0 c2 <| sv (sT29.ia (k := .i64) bx3) <| sv (qaj x3) <| sx pz31 <| sx (qaB x3) <| sv (qax x3 []) <| sca (qCu br4) <| sca (qn0 br5) <| r
  rcases ifs h with ⟨c6,h⟩ | ⟨c6,h⟩
  ·obtain ⟨l8,bl8,h⟩:=bnd h
   obtain rfl:=lf h
   have z:=p7 <| sg 0 c6 <| sv (qax x3 []) <| sv (sT29.mk' (v:=qbk) qaL ([x3]:List tPred) 1 (by kernel_rfl)) <| sv (sT29.ap bl8) <| eFx 0 .normal (qcL v t10 t11 m l8 (w64 (t12 + 1))) rfl (qbn (aI (qbw (clLs clS v)) (aI (qcH rfl) (aI (up (qad qab l8)) (aI (up (qad qab t10)) (aI trivial (aI trivial trivial))))))) (aI trivial (aI trivial (aI (aI trivial (aI trivial (aI trivial (aI (up (qad qab m)) trivial)))) trivial)))
   exact qa5 (A:=A25) mixed z (by kernel_rfl)
  ·obtain rfl:=lf h
   have z:=p7 <| sg 0 c6 <| eFx 0 .normal (qcL v t10 t11 m kept (w64 (t12 + 1))) rfl (qbn (aI (qbw (clLs clS v)) (aI (qcH rfl) (aI (up (qad qab kept)) (aI (up (qad qab t10)) (aI trivial (aI trivial trivial))))))) (aI trivial (aI trivial (aI (aI trivial (aI trivial (aI trivial (aI (up (qad qab m)) trivial)))) trivial)))
   exact qa5 (A:=A25) mixed z (by kernel_rfl)
 ·obtain rfl:=lf h
  have z:=sg 0 c2 <| eF (.exit 0) (qhd m kept)
  exact ovZ A25 (by intro hx; cases hx) z (by kernel_rfl)
theorem qrg {x:(waA)} (h:qnL v t10 t11 kept t12 = some x) :
  Sat Pg GE 0 (.loop (cA b25 119)) (EX (.exit 0) (qhd m x)) (qcL v t10 t11 m kept t12) :=
 Sat.loop (S:=fun (zz:waA×Int) => qcL v t10 t11 m zz.1 zz.2) (ex:=(fun _ => .exit 0)) (s:=(kept,t12)) h fun zz y hy => qqq v t10 t11 m zz.1 zz.2 hy
end
def qtc (p:tPred) (a:waB):Option (tPred) :=
 (qzR p).bind fun r1 =>
 (qnL a r1 (r1.length:Int) ([]:List tPred) 0).bind fun o9 =>
 (qE5 o9).bind fun r10 =>
 some r10
theorem qwa {p:tPred} {a:waB} {r:tPred} (h:qtc p a = some r):CC Pg GE 25 [.agg (qaa p),sl cS a] (.agg (qaa r)) []:=by
 obtain ⟨r1,br1,h⟩:=bnd h
 obtain ⟨o9,bo9,h⟩:=bnd h
 obtain ⟨r10,br10,h⟩:=bnd h
 obtain rfl:=lf h
 have z:=se (qaE p) <| se (pcL cS a) <| sx pz31 <| sv (qaj p) <| sca (qz1 br1) <| svn (sT29.ln r1) <| spc (qrg a r1 (r1.length:Int) ([]:List tPred) ([]:List tPred) 0 bo9) <| sca (qDF br10) <| sx (qaB r10) <| en (aI (qaT r10) <| (qab r10))
 exact cvZ A25 Tryz.call25 Tryz.func25 (c:=b25) rfl (aI (qab p) (aI (qad clS a) trivial)) z (by kernel_rfl)
noncomputable def b11:Code:=Tryz.f11.body.getD .skip
def A11:List Nat:=[]
section
variable (v:waD) (m:Int) (m2:Str) (m3:Int) (m4:waA) (m5:(List tNeed)) (m6:waF) (m7:(List tBound)) (m8:waC) (m9:waA)
def qyU:PSt:=stt 125 [(1,.bptr 0 0),(2,.bptr 1 0),(3,sl qas v)] [.cells [.int .i64 m,.str m2,.int .i64 m3,sl qaa m4] [],.cells [sl cS ([]:List Str),sl qjm m5,sl qaC m6,sl qgj m7,.int .i64 6,.str ([]:Str),sl qac m8,sl cS ([([120]:Str)]:List Str),.int .i64 0,.str ([]:Str),.int .i64 0,sl qaa m9,sl qaa m9,sl qaa m9] [(0,9),(1,226),(3,228),(13,31)]] [((3,0),82)]
def qf3 (o:Bool):PSt:=stt 125 [(1,.bptr 0 0),(2,.bptr 1 0),(3,sl qas v),(54,.bool o)] [.cells [.int .i64 m,.str m2,.int .i64 m3,sl qaa m4] [],.cells [sl cS ([]:List Str),sl qjm m5,sl qaC m6,sl qgj m7,.int .i64 6,.str ([]:Str),sl qac m8,sl cS ([([120]:Str)]:List Str),.int .i64 0,.str ([]:Str),.int .i64 0,sl qaa m9,sl qaa m9,sl qaa m9] [(0,9),(1,226),(3,228),(13,31)]] [((3,0),82)]
def qvA:Option ((Bool)) :=
 if ((v.length:Int) != 1) = true then
  some true
 else
  (idx v 0).bind fun x7 =>
  if (!(x7.Name == ([102,46,48,46,112]:Str))) = true then
   some true
  else
   (idx v 0).bind fun x10 =>
   if ((x10.Params.length:Int) != 2) = true then
    some true
   else
    (idx v 0).bind fun x13 =>
    (idx x13.Params 1).bind fun x14 =>
    some (!(x14.Name == ([121]:Str)))
theorem qxP {x:(Bool)} (h:qvA v = some x) :
  Sat Pg GE 0 (cA b11 124) (EX .normal (qf3 v m m2 m3 m4 m5 m6 m7 m8 m9 x)) (qyU v m m2 m3 m4 m5 m6 m7 m8 m9):=by
 rcases ifs h with ⟨c6,h⟩ | ⟨c6,h⟩
 ·obtain rfl:=lf h
  have z:=svn (sT38.ln v) <| sg 4 c6 <| eF .normal (qf3 v m m2 m3 m4 m5 m6 m7 m8 m9 true)
  exact pcZ A11 z (by kernel_rfl)
 ·obtain ⟨x7,bx7,h⟩:=bnd h
  have p9:=fun {sc F} (r:PS sc F) => svn (sT38.ln v) <| sg 4 c6 <| sv (sT38.ia (k := .i64) bx7) <| sv (qtF x7) <| sv (qvo x7) <| r
  rcases ifs h with ⟨c8,h⟩ | ⟨c8,h⟩
  ·obtain rfl:=lf h
   have z:=p9 <| sg 11 c8 <| eF .normal (qf3 v m m2 m3 m4 m5 m6 m7 m8 m9 true)
   exact pcZ A11 z (by kernel_rfl)
  ·obtain ⟨x10,bx10,h⟩:=bnd h
   have p12:=fun {sc F} (r:PS sc F) => p9 <| sg 11 c8 <| sv (sT38.ia (k := .i64) bx10) <| sv (qjQ x10) <| sv (qjG x10) <| svn (sT36.ln x10.Params) <| r
   rcases ifs h with ⟨c11,h⟩ | ⟨c11,h⟩
   ·obtain rfl:=lf h
    have z:=p12 <| sg 19 c11 <| eF .normal (qf3 v m m2 m3 m4 m5 m6 m7 m8 m9 true)
    exact pcZ A11 z (by kernel_rfl)
   ·obtain ⟨x13,bx13,h⟩:=bnd h
    obtain ⟨x14,bx14,h⟩:=bnd h
    obtain rfl:=lf h
    have z:=p12 <| sg 19 c11 <| sv (sT38.ia (k := .i64) bx13) <| sv (qjQ x13) <| sv (qjG x13) <| sv (sT36.ia (k := .i64) bx14) <| sv (qn9 x14) <| sv (qr5 x14) <| eF .normal (qf3 v m m2 m3 m4 m5 m6 m7 m8 m9 (!(x14.Name == ([121]:Str))))
    exact pcZ A11 z (by kernel_rfl)
end
section
variable (v:waD) (v2:waC) (ok:Bool) (m:Int) (m2:Str) (m3:Int) (m4:waA) (m5:(List tNeed)) (m6:waF) (m7:(List tBound)) (m8:waC) (m9:waA) (m10:waA) (m11:waC) (m12:waA)
def qyL:PSt:=stt 125 [(1,.bptr 0 0),(2,.bptr 1 0),(3,sl qas v),(4,.bptr 2 0),(5,.bptr 3 0),(6,.bptr 4 0),(7,sl qac v2),(8,.bool ok)] [.cells [.int .i64 m,.str m2,.int .i64 m3,sl qaa m4] [],.cells [sl cS ([]:List Str),sl qjm m5,sl qaC m6,sl qgj m7,.int .i64 6,.str ([]:Str),sl qac m8,sl cS ([([120]:Str)]:List Str),.int .i64 0,.str ([]:Str),.int .i64 0,sl qaa m9,sl qaa m9,sl qaa m9] [(0,9),(1,226),(3,228),(13,31)],.cells [.int .i64 5,.str ([102,46,48,46,112]:Str),.int .i64 0,sl qaa m10] [],.cells [.int .i64 6,.str ([]:Str),sl qac m11,sl cS ([([120]:Str)]:List Str),.int .i64 0,.str ([]:Str),.int .i64 0,sl qaa m9,sl qaa m9] [(7,31),(8,31)],.cells [.int .i64 13,.str ([]:Str),.int .i64 0,sl qaa m12] []] [((3,0),82)]
def qlv (o:Bool):PSt:=stt 125 [(1,.bptr 0 0),(2,.bptr 1 0),(3,sl qas v),(4,.bptr 2 0),(5,.bptr 3 0),(6,.bptr 4 0),(7,sl qac v2),(83,.bool o)] [.cells [.int .i64 m,.str m2,.int .i64 m3,sl qaa m4] [],.cells [sl cS ([]:List Str),sl qjm m5,sl qaC m6,sl qgj m7,.int .i64 6,.str ([]:Str),sl qac m8,sl cS ([([120]:Str)]:List Str),.int .i64 0,.str ([]:Str),.int .i64 0,sl qaa m9,sl qaa m9,sl qaa m9] [(0,9),(1,226),(3,228),(13,31)],.cells [.int .i64 5,.str ([102,46,48,46,112]:Str),.int .i64 0,sl qaa m10] [],.cells [.int .i64 6,.str ([]:Str),sl qac m11,sl cS ([([120]:Str)]:List Str),.int .i64 0,.str ([]:Str),.int .i64 0,sl qaa m9,sl qaa m9] [(7,31),(8,31)],.cells [.int .i64 13,.str ([]:Str),.int .i64 0,sl qaa m12] []] [((3,0),82)]
def qvl:Option ((Bool)) :=
 if (!ok) = true then
  some true
 else
  some ((v2.length:Int) != 2)
theorem qxx {x:(Bool)} (h:qvl v2 ok = some x) :
  Sat Pg GE 0 (cA b11 4092) (EX .normal (qlv v v2 m m2 m3 m4 m5 m6 m7 m8 m9 m10 m11 m12 x)) (qyL v v2 ok m m2 m3 m4 m5 m6 m7 m8 m9 m10 m11 m12):=by
 rcases ifs h with ⟨c25,h⟩ | ⟨c25,h⟩
 ·obtain rfl:=lf h
  have z:=sg 3 c25 <| eF .normal (qlv v v2 m m2 m3 m4 m5 m6 m7 m8 m9 m10 m11 m12 true)
  exact pcZ A11 z (by kernel_rfl)
 ·obtain rfl:=lf h
  have z:=sg 3 c25 <| svn (sT27.ln v2) <| eF .normal (qlv v v2 m m2 m3 m4 m5 m6 m7 m8 m9 m10 m11 m12 ((v2.length:Int) != 2))
  exact pcZ A11 z (by kernel_rfl)
end
def qj3:Option (Bool) :=
 (qEg ([118]:Str)).bind fun r1 =>
 (qAO ([112]:Str) ([r1]:List tPred)).bind fun r2 =>
 (qgu r2).bind fun r3 =>
 (qgu r2).bind fun r4 =>
 (qfI (⟨([]:List Str),([]:List tNeed),([(⟨([112]:Str),([73,110,116]:Str)⟩:tAbs)]:List tAbs),([]:List tBound),(⟨6,([]:Str),([r3,r4]:List tType),([([120]:Str)]:List Str),(⟨0,([]:Str),0,([]:List tPred)⟩:tPred),([]:List tPred)⟩:tType),([]:List tPred)⟩:tSig) ([102,46,48]:Str) ([(⟨([121]:Str),([73,110,116]:Str)⟩:tVar)]:List tVar)).bind fun r5 =>
 (qvA r5).bind fun o15 =>
 if o15 = true then
  some false
 else
  (qEg ([118]:Str)).bind fun r18 =>
  (qEg ([121]:Str)).bind fun r19 =>
  (qgu (⟨5,([102,46,48,46,112]:Str),0,([r18,r19]:List tPred)⟩:tPred)).bind fun r20 =>
  (qgu (⟨5,([102,46,48,46,112]:Str),0,([r18,r19]:List tPred)⟩:tPred)).bind fun r21 =>
  (qEg ([118]:Str)).bind fun r22 =>
  (qDE).bind fun r23 =>
  (qoz r23 ([67,111,110,115]:Str) ([(⟨13,([]:Str),0,([(⟨1,([]:Str),0,([]:List tPred)⟩:tPred),r22]:List tPred)⟩:tPred)]:List tPred)).bind fun r24 =>
  (qvl r24.1 r24.2).bind fun o26 =>
  if o26 = true then
   some false
  else
   (qfp (⟨6,([]:Str),([r3,r4]:List tType),([([120]:Str)]:List Str),(⟨0,([]:Str),0,([]:List tPred)⟩:tPred),([]:List tPred)⟩:tType) ([(⟨([112]:Str),([73,110,116]:Str)⟩:tAbs)]:List tAbs) r5).bind fun r29 =>
   (qlc r29 (⟨6,([]:Str),([r20,r21]:List tType),([([120]:Str)]:List Str),(⟨0,([]:Str),0,([]:List tPred)⟩:tPred),([]:List tPred)⟩:tType)).bind fun r30 =>
   if r30 = true then
    (qjO r2 ([(⟨([112]:Str),([73,110,116]:Str)⟩:tAbs)]:List tAbs) r5).bind fun r33 =>
    (qgg r33 (⟨5,([102,46,48,46,112]:Str),0,([r18,r19]:List tPred)⟩:tPred)).bind fun r34 =>
    if r34 = true then
     (idx r24.1 0).bind fun x37 =>
     (qgu (⟨13,([]:Str),0,([(⟨1,([]:Str),0,([]:List tPred)⟩:tPred),r22]:List tPred)⟩:tPred)).bind fun r38 =>
     (qlc x37 r38).bind fun r39 =>
     if r39 = true then
      (idx r24.1 1).bind fun x42 =>
      (qlc x42 (⟨4,([76,105,115,116]:Str),([]:List tType),([]:List Str),(⟨0,([]:Str),0,([]:List tPred)⟩:tPred),([(⟨13,([]:Str),0,([(⟨1,([]:Str),0,([]:List tPred)⟩:tPred),r22]:List tPred)⟩:tPred)]:List tPred)⟩:tType)).bind fun r43 =>
      if r43 = true then
       (qtc r2 ([([112]:Str)]:List Str)).bind fun r46 =>
       (qlm r46).bind fun r47 =>
       some r47
      else
       some false
     else
      some false
    else
     some false
   else
    some false
theorem qk2 {r:Bool} (h:qj3 = some r):CC Pg GE 11 [] (.bool r) []:=by
 obtain ⟨r1,br1,h⟩:=bnd h
 obtain ⟨r2,br2,h⟩:=bnd h
 obtain ⟨r3,br3,h⟩:=bnd h
 obtain ⟨r4,br4,h⟩:=bnd h
 obtain ⟨r5,br5,h⟩:=bnd h
 obtain ⟨o15,bo15,h⟩:=bnd h
 have p17:=fun {sc F} (r:PS sc F) => sca (qp6 br1) <| sv (sT29.mk' (v:=qbk) qaL ([r1]:List tPred) 1 (by kernel_rfl)) <| sca (qui br2) <| sx pz31 <| sx (qaB r2) <| sdr [0,1,0,0,8,0,56,120,252,511,0,2047] <| sv (qEK ([112]:Str) ([73,110,116]:Str)) <| sv (sT24.mk' (v:=qKr) qI8 ([(⟨([112]:Str),([73,110,116]:Str)⟩:tAbs)]:List tAbs) 1 (by kernel_rfl)) <| sv (sT22.mk' (v:=PVal.str) pcS ([([120]:Str)]:List Str) 1 (by kernel_rfl)) <| sv (qax r2 []) <| sca (qek br3) <| sv (qax r2 []) <| sca (qek br4) <| sv (sT27.mk' (v:=qiq) qdE ([r3,r4]:List tType) 2 (by kernel_rfl)) <| sb (qqG 6 ([([120]:Str)]:List Str) ([r3,r4]:List tType)) (qqK 6 ([([120]:Str)]:List Str) ([r3,r4]:List tType)) <| sb (qDV ([(⟨([112]:Str),([73,110,116]:Str)⟩:tAbs)]:List tAbs) (⟨6,([]:Str),([r3,r4]:List tType),([([120]:Str)]:List Str),(⟨0,([]:Str),0,([]:List tPred)⟩:tPred),([]:List tPred)⟩:tType)) (qEF ([(⟨([112]:Str),([73,110,116]:Str)⟩:tAbs)]:List tAbs) (⟨6,([]:Str),([r3,r4]:List tType),([([120]:Str)]:List Str),(⟨0,([]:Str),0,([]:List tPred)⟩:tPred),([]:List tPred)⟩:tType)) <| syx (qJ3 (⟨([]:List Str),([]:List tNeed),([(⟨([112]:Str),([73,110,116]:Str)⟩:tAbs)]:List tAbs),([]:List tBound),(⟨6,([]:Str),([r3,r4]:List tType),([([120]:Str)]:List Str),(⟨0,([]:Str),0,([]:List tPred)⟩:tPred),([]:List tPred)⟩:tType),([]:List tPred)⟩:tSig)) <| sv (qJ0 (⟨([]:List Str),([]:List tNeed),([(⟨([112]:Str),([73,110,116]:Str)⟩:tAbs)]:List tAbs),([]:List tBound),(⟨6,([]:Str),([r3,r4]:List tType),([([120]:Str)]:List Str),(⟨0,([]:Str),0,([]:List tPred)⟩:tPred),([]:List tPred)⟩:tType),([]:List tPred)⟩:tSig) []) <| sv (qrV ([121]:Str) ([73,110,116]:Str)) <| sv (sT36.mk' (v:=qEV) qBo ([(⟨([121]:Str),([73,110,116]:Str)⟩:tVar)]:List tVar) 1 (by kernel_rfl)) <| sca (qmg br5) <| spa 1 <| spc (qxP r5 r2.Op r2.Name r2.N r2.Kids ([]:List tNeed) ([(⟨([112]:Str),([73,110,116]:Str)⟩:tAbs)]:List tAbs) ([]:List tBound) ([r3,r4]:List tType) ([]:List tPred) bo15) <| r
 rcases ifs h with ⟨c16,h⟩ | ⟨c16,h⟩
 ·obtain rfl:=lf h
  have z:=p17 <| sg 0 c16 <| en (aI (rP (.bool false)) <| trivial)
  exact cvZ A11 Tryz.call11 Tryz.func11 (c:=b11) rfl trivial z (by kernel_rfl)
 ·obtain ⟨r18,br18,h⟩:=bnd h
  obtain ⟨r19,br19,h⟩:=bnd h
  obtain ⟨r20,br20,h⟩:=bnd h
  obtain ⟨r21,br21,h⟩:=bnd h
  obtain ⟨r22,br22,h⟩:=bnd h
  obtain ⟨r23,br23,h⟩:=bnd h
  obtain ⟨r24,br24,h⟩:=bnd h
  obtain ⟨o26,bo26,h⟩:=bnd h
  have p28:=fun {sc F} (r:PS sc F) => p17 <| sg 0 c16 <| sca (qp6 br18) <| sca (qp6 br19) <| sv (sT29.mk' (v:=qbk) qaL ([r18,r19]:List tPred) 2 (by kernel_rfl)) <| sv (qlI 5 ([102,46,48,46,112]:Str) ([r18,r19]:List tPred)) <| sx pz31 <| sx (qaB (⟨5,([102,46,48,46,112]:Str),0,([r18,r19]:List tPred)⟩:tPred)) <| sdr [0,0,2,0,14,30,63,0,255] <| sv (sT22.mk' (v:=PVal.str) pcS ([([120]:Str)]:List Str) 1 (by kernel_rfl)) <| sv (qax (⟨5,([102,46,48,46,112]:Str),0,([r18,r19]:List tPred)⟩:tPred) []) <| sca (qek br20) <| sv (qax (⟨5,([102,46,48,46,112]:Str),0,([r18,r19]:List tPred)⟩:tPred) []) <| sca (qek br21) <| sv (sT27.mk' (v:=qiq) qdE ([r20,r21]:List tType) 2 (by kernel_rfl)) <| sb (qqG 6 ([([120]:Str)]:List Str) ([r20,r21]:List tType)) (qqK 6 ([([120]:Str)]:List Str) ([r20,r21]:List tType)) <| syx (qbI (⟨6,([]:Str),([r20,r21]:List tType),([([120]:Str)]:List Str),(⟨0,([]:Str),0,([]:List tPred)⟩:tPred),([]:List tPred)⟩:tType)) <| sb (qzN 1) (qzn 1) <| sca (qp6 br22) <| sv (sT29.mk' (v:=qbk) qaL ([(⟨1,([]:Str),0,([]:List tPred)⟩:tPred),r22]:List tPred) 2 (by kernel_rfl)) <| sv (qvK 13 ([(⟨1,([]:Str),0,([]:List tPred)⟩:tPred),r22]:List tPred)) <| sx pz31 <| sx (qaB (⟨13,([]:Str),0,([(⟨1,([]:Str),0,([]:List tPred)⟩:tPred),r22]:List tPred)⟩:tPred)) <| sdr [0,0,2,7,15,31,31,63,255] <| sca (qB9 br23) <| sv (qax (⟨13,([]:Str),0,([(⟨1,([]:Str),0,([]:List tPred)⟩:tPred),r22]:List tPred)⟩:tPred) []) <| sv (sT29.mk' (v:=qbk) qaL ([(⟨13,([]:Str),0,([(⟨1,([]:Str),0,([]:List tPred)⟩:tPred),r22]:List tPred)⟩:tPred)]:List tPred) 1 (by kernel_rfl)) <| sca (qtt br24) <| spa 1 <| spc (qxx r5 r24.1 r24.2 r2.Op r2.Name r2.N r2.Kids ([]:List tNeed) ([(⟨([112]:Str),([73,110,116]:Str)⟩:tAbs)]:List tAbs) ([]:List tBound) ([r3,r4]:List tType) ([]:List tPred) ([r18,r19]:List tPred) ([r20,r21]:List tType) ([(⟨1,([]:Str),0,([]:List tPred)⟩:tPred),r22]:List tPred) bo26) <| r
  rcases ifs h with ⟨c27,h⟩ | ⟨c27,h⟩
  ·obtain rfl:=lf h
   have z:=p28 <| sg 0 c27 <| en (aI (rP (.bool false)) <| trivial)
   exact cvZ A11 Tryz.call11 Tryz.func11 (c:=b11) rfl trivial z (by kernel_rfl)
  ·obtain ⟨r29,br29,h⟩:=bnd h
   obtain ⟨r30,br30,h⟩:=bnd h
   have p32:=fun {sc F} (r:PS sc F) => p28 <| sg 0 c27 <| sv (qax (⟨13,([]:Str),0,([(⟨1,([]:Str),0,([]:List tPred)⟩:tPred),r22]:List tPred)⟩:tPred) []) <| sv (sT29.mk' (v:=qbk) qaL ([(⟨13,([]:Str),0,([(⟨1,([]:Str),0,([]:List tPred)⟩:tPred),r22]:List tPred)⟩:tPred)]:List tPred) 1 (by kernel_rfl)) <| sb (qqN 4 ([76,105,115,116]:Str) ([(⟨13,([]:Str),0,([(⟨1,([]:Str),0,([]:List tPred)⟩:tPred),r22]:List tPred)⟩:tPred)]:List tPred)) (qq3 4 ([76,105,115,116]:Str) ([(⟨13,([]:Str),0,([(⟨1,([]:Str),0,([]:List tPred)⟩:tPred),r22]:List tPred)⟩:tPred)]:List tPred)) <| sx pz33 <| sy (qaK (⟨4,([76,105,115,116]:Str),([]:List tType),([]:List Str),(⟨0,([]:Str),0,([]:List tPred)⟩:tPred),([(⟨13,([]:Str),0,([(⟨1,([]:Str),0,([]:List tPred)⟩:tPred),r22]:List tPred)⟩:tPred)]:List tPred)⟩:tType)) <| sdr [0,1,0,4,0,31,0,127,255,511,511,1535,511,8191,511,32767,65535,131071,262143,524287,1048575,262143,2359295,8388607,16777215,33554431,67108863,134217727,268435455,67108863,1073741823,2147483647,4294967295,8589934591,8589934591,34359738367,68719476735,137438953471,274877906943] <| sv (qa3 (⟨6,([]:Str),([r3,r4]:List tType),([([120]:Str)]:List Str),(⟨0,([]:Str),0,([]:List tPred)⟩:tPred),([]:List tPred)⟩:tType) [sl qaa ([]:List tPred)]) <| ss <| sca (qnM br29) <| sv (qa3 (⟨6,([]:Str),([r20,r21]:List tType),([([120]:Str)]:List Str),(⟨0,([]:Str),0,([]:List tPred)⟩:tPred),([]:List tPred)⟩:tType) []) <| sca (qku br30) <| r
   rcases ifs h with ⟨c31,h⟩ | ⟨c31,h⟩
   ·obtain ⟨r33,br33,h⟩:=bnd h
    obtain ⟨r34,br34,h⟩:=bnd h
    have p36:=fun {sc F} (r:PS sc F) => p32 <| sg 9 c31 <| sv (qax r2 []) <| ss <| sca (qnN br33) <| sv (qax (⟨5,([102,46,48,46,112]:Str),0,([r18,r19]:List tPred)⟩:tPred) []) <| sca (qgm br34) <| r
    rcases ifs h with ⟨c35,h⟩ | ⟨c35,h⟩
    ·obtain ⟨x37,bx37,h⟩:=bnd h
     obtain ⟨r38,br38,h⟩:=bnd h
     obtain ⟨r39,br39,h⟩:=bnd h
     have p41:=fun {sc F} (r:PS sc F) => p36 <| sg 18 c35 <| sv (sT27.ia (k := .i64) bx37) <| sv (qaN x37) <| sv (qax (⟨13,([]:Str),0,([(⟨1,([]:Str),0,([]:List tPred)⟩:tPred),r22]:List tPred)⟩:tPred) []) <| sca (qek br38) <| sca (qku br39) <| r
     rcases ifs h with ⟨c40,h⟩ | ⟨c40,h⟩
     ·obtain ⟨x42,bx42,h⟩:=bnd h
      obtain ⟨r43,br43,h⟩:=bnd h
      have p45:=fun {sc F} (r:PS sc F) => p41 <| sg 26 c40 <| sv (sT27.ia (k := .i64) bx42) <| sv (qaN x42) <| sv (qa3 (⟨4,([76,105,115,116]:Str),([]:List tType),([]:List Str),(⟨0,([]:Str),0,([]:List tPred)⟩:tPred),([(⟨13,([]:Str),0,([(⟨1,([]:Str),0,([]:List tPred)⟩:tPred),r22]:List tPred)⟩:tPred)]:List tPred)⟩:tType) []) <| sca (qku br43) <| r
      rcases ifs h with ⟨c44,h⟩ | ⟨c44,h⟩
      ·obtain ⟨r46,br46,h⟩:=bnd h
       obtain ⟨r47,br47,h⟩:=bnd h
       obtain rfl:=lf h
       have z:=p45 <| sg 33 c44 <| sv (qax r2 []) <| sv (sT22.mk' (v:=PVal.str) pcS ([([112]:Str)]:List Str) 1 (by kernel_rfl)) <| sca (qwa br46) <| sca (qkh br47) <| en (aI (rP (.bool r47)) <| trivial)
       exact cvZ A11 Tryz.call11 Tryz.func11 (c:=b11) rfl trivial z (by kernel_rfl)
      ·obtain rfl:=lf h
       have z:=p45 <| sg 33 c44 <| en (aI (rP (.bool false)) <| trivial)
       exact cvZ A11 Tryz.call11 Tryz.func11 (c:=b11) rfl trivial z (by kernel_rfl)
     ·obtain rfl:=lf h
      have z:=p41 <| sg 26 c40 <| en (aI (rP (.bool false)) <| trivial)
      exact cvZ A11 Tryz.call11 Tryz.func11 (c:=b11) rfl trivial z (by kernel_rfl)
    ·obtain rfl:=lf h
     have z:=p36 <| sg 18 c35 <| en (aI (rP (.bool false)) <| trivial)
     exact cvZ A11 Tryz.call11 Tryz.func11 (c:=b11) rfl trivial z (by kernel_rfl)
   ·obtain rfl:=lf h
    have z:=p32 <| sg 9 c31 <| en (aI (rP (.bool false)) <| trivial)
    exact cvZ A11 Tryz.call11 Tryz.func11 (c:=b11) rfl trivial z (by kernel_rfl)
abbrev qot:=(waC→Option (Bool))
abbrev qtP (R:qot):Prop := ∀ (a:waC) (r:Bool),R a = some r→CC Pg GE 12 [sl qac a] (.bool r) []
abbrev qmz:=(tType→Option (Int))
abbrev qrU (R:qmz):Prop := ∀ (t:tType) (r:Int),R t = some r→CC Pg GE 45 [.agg (qac t)] (.int .i64 r) []
end Go.Proofs.YtgldgpdhblndkaaGreatDoor
