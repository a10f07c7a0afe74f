/- WHAT IS PROVED: parts of the proof, put together by a program (G4). Conditions: none. -/
import Derived.Test.YtgldgpdhblndkaaGreatDoorPkF17
noncomputable section
namespace Go.Proofs.YtgldgpdhblndkaaGreatDoor
open Go
set_option linter.unusedVariables false
set_option maxRecDepth 100000
noncomputable def b155:Code:=Tryz.f155.body.getD .skip
def A155:List Nat:=[]
def qb5 (R45:qaS) (s:reftype_substitution) (t:tType):Option (tType) :=
 if (t.Op == 6) = true then
  (qcQ R45 s t).bind fun r3 =>
  some r3
 else
  (qja t.Names).bind fun r4 =>
  (qbh s t.Pred).bind fun r5 =>
  (qfJ t.Preds s).bind fun r6 =>
  (qjy R45 t.Args s).bind fun r7 =>
  some (⟨t.Op,t.Name,r7,r4,r5,r6⟩:tType)
theorem qjJ (R45:qaS) (hR45:qa8 R45) {s:reftype_substitution} {t:tType} {r:tType} (h:qb5 R45 s t = some r):CC Pg GE 155 [.agg (qah s),.agg (qac t)] (.agg (qac r)) [(2,33)]:=by
 have p2:=fun {sc F} (r:PS sc F) => se (qbF s) <| se (qbj t) <| sx pz33 <| sv (qam t) <| sv (qal t) <| r
 rcases ifs h with ⟨c1,h⟩ | ⟨c1,h⟩
 ·obtain ⟨r3,br3,h⟩:=bnd h
  obtain rfl:=lf h
  have z:=p2 <| sg 0 c1 <| sv (qaZ s) <| sv (qaN t) <| sca (qhT R45 hR45 br3) <| sy (qaK r3) <| en (aI (qcB r3) <| aI (qaf r3) <| rT)
  exact cvZ A155 Tryz.call155 Tryz.func155 (c:=b155) rfl (aI (qaF s) (aI (qaf t) trivial)) z (by kernel_rfl)
 ·obtain ⟨r4,br4,h⟩:=bnd h
  obtain ⟨r5,br5,h⟩:=bnd h
  obtain ⟨r6,br6,h⟩:=bnd h
  obtain ⟨r7,br7,h⟩:=bnd h
  obtain rfl:=lf h
  have z:=p2 <| sg 0 c1 <| sdr [0,1,0,4,0,16,48,0,0,256,1008,0,2048,0,8192,32752,65535,0,262143] <| sv (qam t) <| sv (qal t) <| sv (qbs t) <| sv (qbC t) <| sv (qaz t) <| sv (qay t) <| sca (qpJ br4) <| sv (qaZ s) <| sv (qbg t) <| sv (qba t) <| sca (qcY br5) <| sv (qaQ t) <| sv (qaP t) <| sv (qaZ s) <| sca (ql1 br6) <| sb (qha t.Op t.Name r4 r5 r6) (qhb t.Op t.Name r4 r5 r6) <| syx (qbI (⟨t.Op,t.Name,([]:List tType),r4,r5,r6⟩:tType)) <| sv (qaq t) <| sv (qap t) <| sv (qaZ s) <| sca (qrQ R45 hR45 br7) <| sz (qa3 (⟨t.Op,t.Name,r7,r4,r5,r6⟩:tType) []) <| sy (qaK (⟨t.Op,t.Name,r7,r4,r5,r6⟩:tType)) <| en (aI (qcB (⟨t.Op,t.Name,r7,r4,r5,r6⟩:tType)) <| aI (qaf (⟨t.Op,t.Name,r7,r4,r5,r6⟩:tType)) <| rT)
  exact cvZ A155 Tryz.call155 Tryz.func155 (c:=b155) rfl (aI (qaF s) (aI (qaf t) trivial)) z (by kernel_rfl)
def qdg:((reftype_substitution×tType)→Option (tType))→(reftype_substitution×tType)→Option (tType):=fun (rec:(reftype_substitution×tType)→Option (tType)) (x:reftype_substitution×tType) => qb5 (fun s t => rec (s,t)) x.1 x.2
def qdI (s:reftype_substitution) (t:tType):Option (tType):=fixE (qdg) (s,t)
theorem qkr {s:reftype_substitution} {t:tType} {r:tType} (h:qdI s t = some r):CC Pg GE 155 [.agg (qah s),.agg (qac t)] (.agg (qac r)) [(2,33)] :=
 qbo (F:=qdg) (M:=fun (x:reftype_substitution×tType) (r:tType) => CC Pg GE 155 [.agg (qah x.1),.agg (qac x.2)] (.agg (qac r)) [(2,33)]) (fun rec hrec x r h => qjJ _ (fun s t r h => hrec (s,t) r h) h) h
noncomputable def b139:Code:=Tryz.f139.body.getD .skip
def A139:List Nat:=[]
def qju (t:tType) (a:waB) (a2:waA):Option (tType) :=
 (slc a none (some (if (a2.length:Int) < (a.length:Int) then (a2.length:Int) else (a.length:Int)))).bind fun l1 =>
 (slc a2 none (some (if (a2.length:Int) < (a.length:Int) then (a2.length:Int) else (a.length:Int)))).bind fun l2 =>
 (qaU (⟨l1,l2⟩:reftype_substitution) ([([118]:Str)]:List Str)).bind fun r3 =>
 (qdI r3 t).bind fun r4 =>
 some r4
theorem qsm {t:tType} {a:waB} {a2:waA} {r:tType} (h:qju t a a2 = some r):CC Pg GE 139 [.agg (qac t),sl cS a,sl qaa a2] (.agg (qac r)) [(2,33)]:=by
 obtain ⟨l1,bl1,h⟩:=bnd h
 obtain ⟨l2,bl2,h⟩:=bnd h
 obtain ⟨r3,br3,h⟩:=bnd h
 obtain ⟨r4,br4,h⟩:=bnd h
 obtain rfl:=lf h
 have z:=se (qbj t) <| sx pz33 <| svn (sT22.ln a) <| svn (sT29.ln a2) <| sdr [0,0,3,0,0,24,63,0,255,0,1023] <| sv (sT22.sc bl1) <| sv (sT29.sc bl2) <| sv (qkz l1 l2) <| sv (sT22.mk' (v:=PVal.str) pcS ([([118]:Str)]:List Str) 1 (by kernel_rfl)) <| sca (qcl br3) <| syx (qcO r3) <| sv (qa6 r3 []) <| sv (qaN t) <| sca (qkr br4) <| sy (qaK r4) <| en (aI (qcB r4) <| aI (qaf r4) <| rT)
 exact cvZ A139 Tryz.call139 Tryz.func139 (c:=b139) rfl (aI (qaf t) (aI (qad clS a) (aI (qad qab a2) trivial))) z (by kernel_rfl)
noncomputable def b123:Code:=Tryz.f123.body.getD .skip
def A123:List Nat:=[]
def qjH (t:tType) (name:Str) (a:tPred):Option (tType) :=
 (qju t ([name]:List Str) ([a]:List tPred)).bind fun r1 =>
 some r1
theorem qv6 {t:tType} {name:Str} {a:tPred} {r:tType} (h:qjH t name a = some r):CC Pg GE 123 [.agg (qac t),.str name,.agg (qaa a)] (.agg (qac r)) [(2,33)]:=by
 obtain ⟨r1,br1,h⟩:=bnd h
 obtain rfl:=lf h
 have z:=se (qbj t) <| se (qaE a) <| sx pz33 <| sv (qaN t) <| sv (sT22.mk' (v:=PVal.str) pcS ([name]:List Str) 1 (by kernel_rfl)) <| sv (qaj a) <| sv (sT29.mk' (v:=qbk) qaL ([a]:List tPred) 1 (by kernel_rfl)) <| sca (qsm br1) <| sy (qaK r1) <| en (aI (qcB r1) <| aI (qaf r1) <| rT)
 exact cvZ A123 Tryz.call123 Tryz.func123 (c:=b123) rfl (aI (qaf t) (aI trivial (aI (qab a) trivial))) z (by kernel_rfl)
noncomputable def b93:Code:=Tryz.f93.body.getD .skip
def A93:List Nat:=[50]
section
variable (i:Int) (old:waB) (name:Str) (n:Nat) (k:Int) (w0:List tType)
def qqo:PSt:=stt 51 [(1,.int .i64 i),(2,sl cS old),(3,.str name),(9,.bsl 0 0 n),(10,.int .i64 k)] [.cells (flC qac w0) []] []
def qfx (o:Bool):PSt:=stt 51 [(1,.int .i64 i),(2,sl cS old),(3,.str name),(9,.bsl 0 0 n),(10,.int .i64 k),(49,.bool o)] [.cells (flC qac w0) []] []
def qg1:Option ((Bool)) :=
 if (decide (k < (old.length:Int))) = true then
  (idx old k).bind fun x10 =>
  (idx old i).bind fun x11 =>
  some (x10 == x11)
 else
  some false
theorem qoK {x:(Bool)} (h:qg1 i old k = some x) :
  Sat Pg GE 0 (cA b93 3830) (EX .normal (qfx i old name n k w0 x)) (qqo i old name n k w0):=by
 have p9:=fun {sc F} (r:PS sc F) => sdr [0,0,2,7,15,31,31,127,255,31,31,1567,3615,8191,16383] <| svn (sT22.ln old) <| r
 rcases ifs h with ⟨c8,h⟩ | ⟨c8,h⟩
 ·obtain ⟨x10,bx10,h⟩:=bnd h
  obtain ⟨x11,bx11,h⟩:=bnd h
  obtain rfl:=lf h
  have z:=p9 <| sg 5 c8 <| sv (sT22.ia (k := .i64) bx10) <| sv (qa9 sc9 (.str x10) []) <| sv (sT22.ia (k := .i64) bx11) <| sv (qa9 sc9 (.str x11) []) <| eF .normal (qfx i old name n k w0 (x10 == x11))
  exact pcZ A93 z (by kernel_rfl)
 ·obtain rfl:=lf h
  have z:=p9 <| sg 5 c8 <| eF .normal (qfx i old name n k w0 false)
  exact pcZ A93 z (by kernel_rfl)
end
section
variable (i:Int) (old:waB) (name:Str) (n:Nat) (k:Int) (w0:List tType)
def qcW:PSt:=stt 51 [(1,.int .i64 i),(2,sl cS old),(3,.str name),(9,.bsl 0 0 n),(10,.int .i64 k)] [.cells (flC qac w0) []] []
def qdw (o:List tType):PSt:=stt 51 [(9,.bsl 0 0 n)] [.cells (flC qac o) []] []
def qbJ:Option ((Int×List tType)⊕(waC)) :=
 if (decide (k < (n:Int))) = true then
  (idn n w0 k).bind fun x3 =>
  (idx old i).bind fun x4 =>
  (qjH x3 x4 (⟨3,name,0,([]:List tPred)⟩:tPred)).bind fun r5 =>
  (idn n w0 k).bind fun x6 =>
  (upd w0 k r5).bind fun l7 =>
  (qg1 i old k).bind fun o12 =>
  if o12 = true then
   some (.inr l7)
  else
   some (.inl (w64 (k + 1),l7))
 else
  some (.inr w0)
def qgN:Option (waC):=loop (fun (zz:Int×List tType) => qbJ i old name n zz.1 zz.2) (k,w0)
theorem qn1 {y:(Int×List tType)⊕(waC)} (h:qbJ i old name n k w0 = some y) :
  Sat Pg GE 0 (cA b93 119) (LQ (fun (zz:Int×List tType) => qcW i old name n zz.1 zz.2) (fun _ => .exit 0) (qdw n) y) (qcW i old name n k w0):=by
 rcases ifs h with ⟨c2,h⟩ | ⟨c2,h⟩
 ·obtain ⟨x3,bx3,h⟩:=bnd h
  obtain ⟨x4,bx4,h⟩:=bnd h
  obtain ⟨r5,br5,h⟩:=bnd h
  obtain ⟨x6,bx6,h⟩:=bnd h
  obtain ⟨l7,bl7,h⟩:=bnd h
  obtain ⟨o12,bo12,h⟩:=bnd h
  have p14:=fun {sc F} (r:PS sc F) => svn (sT27.lnR 0 0 n) <| sg 0 c2 <| si0 (.dx [0,0,0,0,12,28,0,0,192,448,0,1024,4092,8191,16383] [] [] [0]) <| sv (sT27.iaN 0 (k := .i64) bx3) <| sv (sT27.ldN (qHm x3) bx3) <| sv (sT22.ia (k := .i64) bx4) <| sv (qa9 sc9 (.str x4) []) <| sb (qlh 3 name) (qk1 3 name) <| sca (qv6 br5) <| sv (sT27.iaN 0 (k := .i64) bx6) <| swr (sT27.stR (qdE r5) bl7) <| spa 0 <| spc (qoK i old name n k l7 bo12) <| r
  rcases ifs h with ⟨c13,h⟩ | ⟨c13,h⟩
  ·obtain rfl:=lf h
   have z:=p14 <| sg 0 c13 <| eF (.exit 0) (qdw n l7)
   exact ovZ A93 (by intro hx; cases hx) z (by kernel_rfl)
  ·obtain rfl:=lf h
   have z:=p14 <| sg 0 c13 <| eF .normal (qcW i old name n (w64 (k + 1)) l7)
   exact nxZ A93 z (by kernel_rfl)
 ·obtain rfl:=lf h
  have z:=svn (sT27.lnR 0 0 n) <| sg 0 c2 <| eF (.exit 0) (qdw n w0)
  exact ovZ A93 (by intro hx; cases hx) z (by kernel_rfl)
theorem qor {x:waC} (h:qgN i old name n k w0 = some x) :
  Sat Pg GE 0 (.loop (cA b93 119)) (EX (.exit 0) (qdw n x)) (qcW i old name n k w0) :=
 Sat.loop (S:=fun (zz:Int×List tType) => qcW i old name n zz.1 zz.2) (ex:=(fun _ => .exit 0)) (s:=(k,w0)) h fun zz y hy => qn1 i old name n zz.1 zz.2 hy
end
def qgZ (a:waC) (i:Int) (old:waB) (name:Str):Option (waC) :=
 (qja a).bind fun r1 =>
 (qgN i old name r1.length (w64 (i + 1)) r1).bind fun o15 =>
 (frz r1.length o15).bind fun l16 =>
 some l16
theorem qsB {a:waC} {i:Int} {old:waB} {name:Str} {r:waC} (h:qgZ a i old name = some r):CC Pg GE 93 [sl qac a,.int .i64 i,sl cS old,.str name] (sl qac r) []:=by
 obtain ⟨r1,br1,h⟩:=bnd h
 obtain ⟨o15,bo15,h⟩:=bnd h
 obtain ⟨l16,bl16,h⟩:=bnd h
 obtain rfl:=lf h
 have z:=sar 0 33 (sT27.cloneR qDm br1) <| spc (qor i old name r1.length (w64 (i + 1)) r1 bo15) <| sfz 0 (l16.map qac) [9] [] (sT27.fz1 (m:=0) (b:=0) rfl l16) (sT27.fz2 0 l16) (fz3 qac bl16) <| sf (fz4 qac bl16) <| en (aI (rP (sl qac l16)) <| (qad qaf l16))
 exact cvZ A93 Tryz.call93 Tryz.func93 (c:=b93) rfl (aI (qad qaf a) (aI trivial (aI (qad clS old) (aI trivial trivial)))) z (by kernel_rfl)
noncomputable def b94:Code:=Tryz.f94.body.getD .skip
def A94:List Nat:=[]
def qgl (R36:qb3) (a:tType) (a2:waB):Option (tType) :=
 (R36 a a2).bind fun r1 =>
 some r1
theorem qsf (R36:qb3) (hR36:qec R36) {a:tType} {a2:waB} {r:tType} (h:qgl R36 a a2 = some r):CC Pg GE 94 [.agg (qac a),.eptr ((cL cS) a2)] (.agg (qac r)) [(2,33)]:=by
 obtain ⟨r1,br1,h⟩:=bnd h
 obtain rfl:=lf h
 have z:=se (qbj a) <| sx pz33 <| sv (qaN a) <| sv (qa9 sc22 (sl cS a2) []) <| sca (hR36 _ _ _ br1) <| sy (qaK r1) <| en (aI (qcB r1) <| aI (qaf r1) <| rT)
 exact cvZ A94 Tryz.call94 Tryz.func94 (c:=b94) rfl (aI (qaf a) (aI (clLs clS a2) trivial)) z (by kernel_rfl)
section
variable (R36:qb3) (v:waB) (t8:waC) (t9:Int) (out:waC) (t10:Int)
def qcb:PSt:=stt 22 [(1,.func (.func 94) [] [.eptr ((cL cS) v)]),(5,sl qac out),(8,sl qac t8),(9,.int .i64 t9),(10,.int .i64 t10)] [] [((5,0),33)]
def qex (o:waC):PSt:=stt 22 [(5,sl qac o)] [] [((5,0),33)]
def qh6:Option ((waC×Int)⊕((waC))) :=
 if (decide (t10 < t9)) = true then
  (idx t8 t10).bind fun x2 =>
  (qgl R36 x2 v).bind fun r3 =>
  (app out ([r3]:List tType)).bind fun l4 =>
  some (.inl (l4,w64 (t10 + 1)))
 else
  some (.inr out)
def qdx:Option ((waC)):=loop (fun (zz:waC×Int) => qh6 R36 v t8 t9 zz.1 zz.2) (out,t10)
theorem ql7 (hR36:qec R36) {y:(waC×Int)⊕((waC))} (h:qh6 R36 v t8 t9 out t10 = some y) :
  Sat Pg GE 0 (cA b62 119) (LQ (fun (zz:waC×Int) => qcb v t8 t9 zz.1 zz.2) (fun _ => .exit 0) (qex) y) (qcb v t8 t9 out t10):=by
 rcases ifs h with ⟨c1,h⟩ | ⟨c1,h⟩
 ·obtain ⟨x2,bx2,h⟩:=bnd h
  obtain ⟨r3,br3,h⟩:=bnd h
  obtain ⟨l4,bl4,h⟩:=bnd h
  obtain rfl:=lf h
  have z:=sg 0 c1 <| sv (sT27.ia (k := .i64) bx2) <| sv (qaN x2) <| sx pz33 <| sx (qbI x2) <| sv (qa3 x2 []) <| sca (qsf R36 hR36 br3) <| sv (sT27.mk' (v:=qiq) qdE ([r3]:List tType) 1 (by kernel_rfl)) <| sv (sT27.ap bl4) <| eFx 0 .normal (qcb v t8 t9 l4 (w64 (t10 + 1))) rfl (qbn (aI (aI trivial (aI (qbw (clLs clS v)) trivial)) (aI (up (qad qaf l4)) (aI (up (qad qaf t8)) (aI trivial (aI trivial trivial)))))) trivial
  exact qa5 (A:=A62) mixed z (by kernel_rfl)
 ·obtain rfl:=lf h
  have z:=sg 0 c1 <| eF (.exit 0) (qex out)
  exact ovZ A62 (by intro hx; cases hx) z (by kernel_rfl)
theorem qmM (hR36:qec R36) {x:(waC)} (h:qdx R36 v t8 t9 out t10 = some x) :
  Sat Pg GE 0 (.loop (cA b62 119)) (EX (.exit 0) (qex x)) (qcb v t8 t9 out t10) :=
 Sat.loop (S:=fun (zz:waC×Int) => qcb v t8 t9 zz.1 zz.2) (ex:=(fun _ => .exit 0)) (s:=(out,t10)) h fun zz y hy => ql7 R36 v t8 t9 zz.1 zz.2 hR36 hy
end
def qdO (R36:qb3) (a:waC) (c:waB):Option (waC) :=
 (qdx R36 c a (a.length:Int) ([]:List tType) 0).bind fun o5 =>
 some o5
theorem qjA (R36:qb3) (hR36:qec R36) {a:waC} {c:waB} {r:waC} (h:qdO R36 a c = some r):CC Pg GE 62 [sl qac a,.func (.func 94) [] [.eptr ((cL cS) c)]] (sl qac r) [(0,33)]:=by
 obtain ⟨o5,bo5,h⟩:=bnd h
 obtain rfl:=lf h
 have z:=svn (sT27.ln a) <| spc (qmM R36 c a (a.length:Int) ([]:List tType) 0 hR36 bo5) <| en (aI (rP (sl qac o5)) <| (qad qaf o5))
 exact cvZ A62 Tryz.call62 Tryz.func62 (c:=b62) rfl (aI (qad qaf a) (aI (aI trivial (aI (clLs clS c) trivial)) trivial)) z (by kernel_rfl)
noncomputable def b52:Code:=Tryz.f52.body.getD .skip
def A52:List Nat:=[40,68]
section
variable (t:tType) (vars:waB) (used:waB) (i:Int) (t37:Int) (m:waC) (m2:waA) (w3:List Str) (m3:Int) (m4:Str) (m5:waC) (n:Nat) (m6:Int) (m7:Str) (m8:Int) (m9:waA) (m10:waA)
def qrJ:PSt:=stt 95 [(2,.eptr (qac t)),(3,.eptr ((cL cS) vars)),(4,.bptr 2 0),(5,.bptr 4 0),(6,sl cS used),(7,.int .i64 i),(37,.int .i64 t37),(38,.int .i64 i)] [.dead,.dead,.cells [.int .i64 0,.str ([]:Str),sl qac m,sl cS ([]:List Str),.int .i64 0,.str ([]:Str),.int .i64 0,sl qaa m2,sl qaa m2] [(2,33),(3,9),(7,31),(8,31)],.cells (flC cS w3) [],.cells [.int .i64 m3,.str m4,sl qac m5,.bsl 3 0 n,.int .i64 m6,.str m7,.int .i64 m8,sl qaa m9,sl qaa m10] []] [((6,0),9)]
def qgn (o:Bool):PSt:=stt 95 [(2,.eptr (qac t)),(3,.eptr ((cL cS) vars)),(4,.bptr 2 0),(5,.bptr 4 0),(6,sl cS used),(7,.int .i64 i),(37,.int .i64 t37),(38,.int .i64 i),(56,.bool o)] [.dead,.dead,.cells [.int .i64 0,.str ([]:Str),sl qac m,sl cS ([]:List Str),.int .i64 0,.str ([]:Str),.int .i64 0,sl qaa m2,sl qaa m2] [(2,33),(3,9),(7,31),(8,31)],.cells (flC cS w3) [],.cells [.int .i64 m3,.str m4,sl qac m5,.bsl 3 0 n,.int .i64 m6,.str m7,.int .i64 m8,sl qaa m9,sl qaa m10] []] [((6,0),9)]
def qig:Option ((Bool)) :=
 if (decide (i ≥ (w64 ((t.Args.length:Int) - 1)))) = true then
  some true
 else
  (idx t.Names i).bind fun x13 =>
  (qbQ vars x13).bind fun r14 =>
  some (!r14)
theorem qqp {x:(Bool)} (h:qig t vars i = some x) :
  Sat Pg GE 0 (cA b52 120812) (EX .normal (qgn t vars used i t37 m m2 w3 m3 m4 m5 n m6 m7 m8 m9 m10 x)) (qrJ t vars used i t37 m m2 w3 m3 m4 m5 n m6 m7 m8 m9 m10):=by
 have p12:=fun {sc F} (r:PS sc F) => sdr [0,0,2,6,14,31,63,127,127,383,127,1919,3967,8191,16383,32767] <| sv (qaq t) <| sv (qap t) <| svn (sT27.ln t.Args) <| r
 rcases ifs h with ⟨c11,h⟩ | ⟨c11,h⟩
 ·obtain rfl:=lf h
  have z:=p12 <| sg 7 c11 <| eF .normal (qgn t vars used i t37 m m2 w3 m3 m4 m5 n m6 m7 m8 m9 m10 true)
  exact pcZ A52 z (by kernel_rfl)
 ·obtain ⟨x13,bx13,h⟩:=bnd h
  obtain ⟨r14,br14,h⟩:=bnd h
  obtain rfl:=lf h
  have z:=p12 <| sg 7 c11 <| sv (qa9 sc22 (sl cS vars) []) <| sv (qaz t) <| sv (qay t) <| sv (sT22.ia (k := .i64) bx13) <| sv (qa9 sc9 (.str x13) []) <| sca (qb1 br14) <| eF .normal (qgn t vars used i t37 m m2 w3 m3 m4 m5 n m6 m7 m8 m9 m10 (!r14))
  exact pcZ A52 z (by kernel_rfl)
end
section
variable (t:tType) (vars:waB) (t37:Int) (m:waC) (m2:waA) (m3:Int) (m4:Str) (n:Nat) (m6:Int) (m7:Str) (m8:Int) (m9:waA) (m10:waA) (used:waB) (t38:Int) (w3:List Str) (m5:waC)
def qci:PSt:=stt 95 [(2,.eptr (qac t)),(3,.eptr ((cL cS) vars)),(4,.bptr 2 0),(5,.bptr 4 0),(6,sl cS used),(37,.int .i64 t37),(38,.int .i64 t38)] [.dead,.dead,.cells [.int .i64 0,.str ([]:Str),sl qac m,sl cS ([]:List Str),.int .i64 0,.str ([]:Str),.int .i64 0,sl qaa m2,sl qaa m2] [(2,33),(3,9),(7,31),(8,31)],.cells (flC cS w3) [],.cells [.int .i64 m3,.str m4,sl qac m5,.bsl 3 0 n,.int .i64 m6,.str m7,.int .i64 m8,sl qaa m9,sl qaa m10] []] [((6,0),9)]
def qgv (o:List Str×waC):PSt:=stt 95 [(3,.eptr ((cL cS) vars)),(4,.bptr 2 0),(5,.bptr 4 0)] [.dead,.dead,.cells [.int .i64 0,.str ([]:Str),sl qac m,sl cS ([]:List Str),.int .i64 0,.str ([]:Str),.int .i64 0,sl qaa m2,sl qaa m2] [(2,33),(3,9),(7,31),(8,31)],.cells (flC cS o.1) [],.cells [.int .i64 m3,.str m4,sl qac o.2,.bsl 3 0 n,.int .i64 m6,.str m7,.int .i64 m8,sl qaa m9,sl qaa m10] []] []
def qbS:Option ((waB×Int×List Str×waC)⊕((List Str×waC))) :=
 if (decide (t38 < t37)) = true then
  (qig t vars t38).bind fun o15 =>
  if o15 = true then
   some (.inl (used,w64 (t38 + 1),w3,m5))
  else
   (idx t.Names t38).bind fun x18 =>
   (qkc used x18).bind fun r19 =>
   (idn n w3 t38).bind fun x20 =>
   (upd w3 t38 r19).bind fun l21 =>
   (idn n l21 t38).bind fun x22 =>
   (app used ([x22]:List Str)).bind fun l23 =>
   (idn n l21 t38).bind fun x24 =>
   (qgZ m5 t38 t.Names x24).bind fun r25 =>
   some (.inl (l23,w64 (t38 + 1),l21,r25))
 else
  some (.inr (w3,m5))
def qix:Option ((List Str×waC)):=loop (fun (zz:waB×Int×List Str×waC) => qbS t vars t37 n zz.1 zz.2.1 zz.2.2.1 zz.2.2.2) (used,t38,w3,m5)
theorem qoF {y:(waB×Int×List Str×waC)⊕((List Str×waC))} (h:qbS t vars t37 n used t38 w3 m5 = some y) :
  Sat Pg GE 0 (cA b52 943) (LQ (fun (zz:waB×Int×List Str×waC) => qci t vars t37 m m2 m3 m4 n m6 m7 m8 m9 m10 zz.1 zz.2.1 zz.2.2.1 zz.2.2.2) (fun _ => .exit 0) (qgv vars m m2 m3 m4 n m6 m7 m8 m9 m10) y) (qci t vars t37 m m2 m3 m4 n m6 m7 m8 m9 m10 used t38 w3 m5):=by
 rcases ifs h with ⟨c10,h⟩ | ⟨c10,h⟩
 ·obtain ⟨o15,bo15,h⟩:=bnd h
  have p17:=fun {sc F} (r:PS sc F) => sg 0 c10 <| spa 3 <| spc (qqp t vars used t38 t37 m m2 w3 m3 m4 m5 n m6 m7 m8 m9 m10 bo15) <| r
  rcases ifs h with ⟨c16,h⟩ | ⟨c16,h⟩
  ·obtain rfl:=lf h
   have z:=p17 <| sg 0 c16 <| eF .normal (qci t vars t37 m m2 m3 m4 n m6 m7 m8 m9 m10 used (w64 (t38 + 1)) w3 m5)
   exact nxZ A52 z (by kernel_rfl)
  ·obtain ⟨x18,bx18,h⟩:=bnd h
   obtain ⟨r19,br19,h⟩:=bnd h
   obtain ⟨x20,bx20,h⟩:=bnd h
   obtain ⟨l21,bl21,h⟩:=bnd h
   obtain ⟨x22,bx22,h⟩:=bnd h
   obtain ⟨l23,bl23,h⟩:=bnd h
   obtain ⟨x24,bx24,h⟩:=bnd h
   obtain ⟨r25,br25,h⟩:=bnd h
   obtain rfl:=lf h
   have z:=p17 <| sg 0 c16 <| si0 (.dx [0,1,0,0,0,16,0,112,240,504,1023,2047] [] [] [3]) <| ss <| sv (qaz t) <| sv (qay t) <| sv (sT22.ia (k := .i64) bx18) <| sv (qa9 sc9 (.str x18) []) <| sca (qqC br19) <| sv (sT22.iaN 3 (k := .i64) bx20) <| swr (sT22.stR (pcS r19) bl21) <| ss <| sv (sT22.iaN 3 (k := .i64) bx22) <| sv (sT22.ldN (fun r => qa9 sc9 (.str x22) r) bx22) <| sv (sT22.mk' (v:=PVal.str) pcS ([x22]:List Str) 1 (by kernel_rfl)) <| sv (sT22.ap bl23) <| sdr [0,1,0,0,8,0,32,0,224,480,1023,2047,4095] <| ss <| sv (qaz t) <| sv (qay t) <| ss <| sv (sT22.iaN 3 (k := .i64) bx24) <| sv (sT22.ldN (fun r => qa9 sc9 (.str x24) r) bx24) <| sca (qsB br25) <| ssf (rfl:qaY (sl qac r25) = some [sl qac r25]) <| eF .normal (qci t vars t37 m m2 m3 m4 n m6 m7 m8 m9 m10 l23 (w64 (t38 + 1)) l21 r25)
   exact nxZ A52 z (by kernel_rfl)
 ·obtain rfl:=lf h
  have z:=sg 0 c10 <| eF (.exit 0) (qgv vars m m2 m3 m4 n m6 m7 m8 m9 m10 (w3,m5))
  exact ovZ A52 (by intro hx; cases hx) z (by kernel_rfl)
theorem qqk {x:(List Str×waC)} (h:qix t vars t37 n used t38 w3 m5 = some x) :
  Sat Pg GE 0 (.loop (cA b52 943)) (EX (.exit 0) (qgv vars m m2 m3 m4 n m6 m7 m8 m9 m10 x)) (qci t vars t37 m m2 m3 m4 n m6 m7 m8 m9 m10 used t38 w3 m5) :=
 Sat.loop (S:=fun (zz:waB×Int×List Str×waC) => qci t vars t37 m m2 m3 m4 n m6 m7 m8 m9 m10 zz.1 zz.2.1 zz.2.2.1 zz.2.2.2) (ex:=(fun _ => .exit 0)) (s:=(used,t38,w3,m5)) h fun zz y hy => qoF t vars t37 m m2 m3 m4 n m6 m7 m8 m9 m10 zz.1 zz.2.1 zz.2.2.1 zz.2.2.2 hy
end
def qgc (R36:qb3) (t:tType) (vars:waB):Option (tType) :=
 (qja t.Names).bind fun r1 =>
 (qja t.Preds).bind fun r2 =>
 (qja t.Args).bind fun r3 =>
 if (t.Op == 6) = true then
  (qja vars).bind fun r6 =>
  (qld t).bind fun r7 =>
  (app r6 r7).bind fun l8 =>
  (app l8 t.Names).bind fun l9 =>
  (qix t vars (t.Names.length:Int) r1.length l9 0 r1 r3).bind fun o26 =>
  (frz r1.length o26.1).bind fun l27 =>
  (qdO R36 o26.2 vars).bind fun r28 =>
  some (⟨t.Op,t.Name,r28,l27,t.Pred,r2⟩:tType)
 else
  (frz r1.length r1).bind fun l29 =>
  (qdO R36 r3 vars).bind fun r30 =>
  some (⟨t.Op,t.Name,r30,l29,t.Pred,r2⟩:tType)
theorem qtw (R36:qb3) (hR36:qec R36) {t:tType} {vars:waB} {r:tType} (h:qgc R36 t vars = some r):CC Pg GE 52 [.agg (qac t),sl cS vars] (.agg (qac r)) [(2,33)]:=by
 obtain ⟨r1,br1,h⟩:=bnd h
 obtain ⟨r2,br2,h⟩:=bnd h
 obtain ⟨r3,br3,h⟩:=bnd h
 have p5:=fun {sc F} (r:PS sc F) => se (qbj t) <| se (pcL cS vars) <| sx pz33 <| si0 (.dx [0,1,0,4,0,16,48,0,128,0,512,1648,0,4096,15984,32767,0,131071] [.cells (flC cS r1) []] [(6,3)] []) <| sv (qam t) <| sv (qal t) <| sv (qbs t) <| sv (qbC t) <| sv (qaz t) <| sv (qay t) <| sar 3 9 (sT22.cloneR qxp br1) <| sv (qbg t) <| sv (qba t) <| sv (qaQ t) <| sv (qaP t) <| sca (qGH br2) <| sv (qaq t) <| sv (qap t) <| sca (qGz br3) <| sv (qmZ t.Op t.Name 3 r1.length t.Pred r2 r3) <| sx (pcA [.int .i64 t.Op,.str t.Name,sl qac r3,.bsl 3 0 r1.length,.int .i64 t.Pred.Op,.str t.Pred.Name,.int .i64 t.Pred.N,sl qaa t.Pred.Kids,sl qaa r2]) <| sv (qam t) <| sv (qal t) <| r
 rcases ifs h with ⟨c4,h⟩ | ⟨c4,h⟩
 ·obtain ⟨r6,br6,h⟩:=bnd h
  obtain ⟨r7,br7,h⟩:=bnd h
  obtain ⟨l8,bl8,h⟩:=bnd h
  obtain ⟨l9,bl9,h⟩:=bnd h
  obtain ⟨o26,bo26,h⟩:=bnd h
  obtain ⟨l27,bl27,h⟩:=bnd h
  obtain ⟨r28,br28,h⟩:=bnd h
  obtain rfl:=lf h
  have z:=p5 <| sg 0 c4 <| sdr [0,1,0,7,15,0,32,127,255] <| sv (qa9 sc22 (sl cS vars) []) <| sca (qpJ br6) <| sv (qaN t) <| sca (qoV br7) <| sv (sT22.ap bl8) <| sv (qaz t) <| sv (qay t) <| sv (sT22.ap bl9) <| sv (qaz t) <| sv (qay t) <| svn (sT22.ln t.Names) <| spc (qqk t vars (t.Names.length:Int) ([]:List tType) ([]:List tPred) t.Op t.Name r1.length t.Pred.Op t.Pred.Name t.Pred.N t.Pred.Kids r2 l9 0 r1 r3 bo26) <| sfz 3 (l27.map cS) [3,4,5] [] (sT22.fz1 (m:=0) (b:=3) rfl l27) (sT22.fz2 3 l27) (fz3 cS bl27) <| sf (nofL 3 (clLs clS vars)) <| sf (nof 3 (p:=sl qac ([]:List tType)) (qad qaf ([]:List tType))) <| sf (nof 3 (p:=sl cS ([]:List Str)) (qad clS ([]:List Str))) <| sf (nof 3 (p:=sl qaa ([]:List tPred)) (qad qab ([]:List tPred))) <| sf (nof 3 (p:=sl qaa ([]:List tPred)) (qad qab ([]:List tPred))) <| sf (nof 3 (p:=sl qac o26.2) (qad qaf o26.2)) <| sf (fz4 cS bl27) <| sf (nof 3 (p:=sl qaa t.Pred.Kids) (qad qab t.Pred.Kids)) <| sf (nof 3 (p:=sl qaa r2) (qad qab r2)) <| ss <| sca (qjA R36 hR36 br28) <| sz (qa3 (⟨t.Op,t.Name,r28,l27,t.Pred,r2⟩:tType) []) <| sy (qaK (⟨t.Op,t.Name,r28,l27,t.Pred,r2⟩:tType)) <| en (aI (qcB (⟨t.Op,t.Name,r28,l27,t.Pred,r2⟩:tType)) <| aI (qaf (⟨t.Op,t.Name,r28,l27,t.Pred,r2⟩:tType)) <| rT)
  exact cvZ A52 Tryz.call52 Tryz.func52 (c:=b52) rfl (aI (qaf t) (aI (qad clS vars) trivial)) z (by kernel_rfl)
 ·obtain ⟨l29,bl29,h⟩:=bnd h
  obtain ⟨r30,br30,h⟩:=bnd h
  obtain rfl:=lf h
  have z:=p5 <| sg 0 c4 <| sfz 3 (l29.map cS) [3,4,5] [] (sT22.fz1 (m:=0) (b:=3) rfl l29) (sT22.fz2 3 l29) (fz3 cS bl29) <| sf (nofL 3 (clLs clS vars)) <| sf (nof 3 (p:=sl qac ([]:List tType)) (qad qaf ([]:List tType))) <| sf (nof 3 (p:=sl cS ([]:List Str)) (qad clS ([]:List Str))) <| sf (nof 3 (p:=sl qaa ([]:List tPred)) (qad qab ([]:List tPred))) <| sf (nof 3 (p:=sl qaa ([]:List tPred)) (qad qab ([]:List tPred))) <| sf (nof 3 (p:=sl qac r3) (qad qaf r3)) <| sf (fz4 cS bl29) <| sf (nof 3 (p:=sl qaa t.Pred.Kids) (qad qab t.Pred.Kids)) <| sf (nof 3 (p:=sl qaa r2) (qad qab r2)) <| ss <| sca (qjA R36 hR36 br30) <| sz (qa3 (⟨t.Op,t.Name,r30,l29,t.Pred,r2⟩:tType) []) <| sy (qaK (⟨t.Op,t.Name,r30,l29,t.Pred,r2⟩:tType)) <| en (aI (qcB (⟨t.Op,t.Name,r30,l29,t.Pred,r2⟩:tType)) <| aI (qaf (⟨t.Op,t.Name,r30,l29,t.Pred,r2⟩:tType)) <| rT)
  exact cvZ A52 Tryz.call52 Tryz.func52 (c:=b52) rfl (aI (qaf t) (aI (qad clS vars) trivial)) z (by kernel_rfl)
def qjq:((tType×waB)→Option (tType))→(tType×waB)→Option (tType):=fun (rec:(tType×waB)→Option (tType)) (x:tType×waB) => qgc (fun t vars => rec (t,vars)) x.1 x.2
def qlA (t:tType) (vars:waB):Option (tType):=fixE (qjq) (t,vars)
theorem quc {t:tType} {vars:waB} {r:tType} (h:qlA t vars = some r):CC Pg GE 52 [.agg (qac t),sl cS vars] (.agg (qac r)) [(2,33)] :=
 qbo (F:=qjq) (M:=fun (x:tType×waB) (r:tType) => CC Pg GE 52 [.agg (qac x.1),sl cS x.2] (.agg (qac r)) [(2,33)]) (fun rec hrec x r h => qtw _ (fun t vars r h => hrec (t,vars) r h) h) h
abbrev qbz:=(tType→waF→waD→Option (tType))
abbrev qcS (R:qbz):Prop := ∀ (t:tType) (c:waF) (c2:waD) (r:tType),R t c c2 = some r→CC Pg GE 51 [.agg (qac t),.func (.func 53) [] [.eptr ((cL qaC) c),.eptr ((cL qas) c2)]] (.agg (qac r)) [(2,33)]
abbrev qcz:=(tPred→waF→waD→Option (tPred))
abbrev qe5 (R:qcz):Prop := ∀ (p:tPred) (abs:waF) (holes:waD) (r:tPred),R p abs holes = some r→CC Pg GE 19 [.agg (qaa p),sl qaC abs,sl qas holes] (.agg (qaa r)) []
noncomputable def b57:Code:=Tryz.f57.body.getD .skip
def A57:List Nat:=[]
def qkq (R56:qcz) (k:tPred) (a:waF) (a2:waD):Option (tPred) :=
 (R56 k a a2).bind fun r1 =>
 some r1
theorem qsI (R56:qcz) (hR56:qe5 R56) {k:tPred} {a:waF} {a2:waD} {r:tPred} (h:qkq R56 k a a2 = some r):CC Pg GE 57 [.agg (qaa k),.eptr ((cL qaC) a),.eptr ((cL qas) a2)] (.agg (qaa r)) []:=by
 obtain ⟨r1,br1,h⟩:=bnd h
 obtain rfl:=lf h
 have z:=se (qaE k) <| sx pz31 <| sv (qaj k) <| sv (qa9 sc24 (sl qaC a) []) <| sv (qa9 sc38 (sl qas a2) []) <| sca (hR56 _ _ _ _ br1) <| sx (qaB r1) <| en (aI (qaT r1) <| (qab r1))
 exact cvZ A57 Tryz.call57 Tryz.func57 (c:=b57) rfl (aI (qab k) (aI (clLs qbA a) (aI (clLs qa4 a2) trivial))) z (by kernel_rfl)
section
variable (R56:qcz) (v:waF) (v2:waD) (t8:waA) (t9:Int) (out:waA) (t10:Int)
def qcc:PSt:=stt 22 [(1,.func (.func 57) [] [.eptr ((cL qaC) v),.eptr ((cL qas) v2)]),(5,sl qaa out),(8,sl qaa t8),(9,.int .i64 t9),(10,.int .i64 t10)] [] [((5,0),31)]
def qeu (o:waA):PSt:=stt 22 [(5,sl qaa o)] [] [((5,0),31)]
def qh5:Option ((waA×Int)⊕((waA))) :=
 if (decide (t10 < t9)) = true then
  (idx t8 t10).bind fun x2 =>
  (qkq R56 x2 v v2).bind fun r3 =>
  (app out ([r3]:List tPred)).bind fun l4 =>
  some (.inl (l4,w64 (t10 + 1)))
 else
  some (.inr out)
def qfC:Option ((waA)):=loop (fun (zz:waA×Int) => qh5 R56 v v2 t8 t9 zz.1 zz.2) (out,t10)
theorem qmo (hR56:qe5 R56) {y:(waA×Int)⊕((waA))} (h:qh5 R56 v v2 t8 t9 out t10 = some y) :
  Sat Pg GE 0 (cA b56 119) (LQ (fun (zz:waA×Int) => qcc v v2 t8 t9 zz.1 zz.2) (fun _ => .exit 0) (qeu) y) (qcc v v2 t8 t9 out t10):=by
 rcases ifs h with ⟨c1,h⟩ | ⟨c1,h⟩
 ·obtain ⟨x2,bx2,h⟩:=bnd h
  obtain ⟨r3,br3,h⟩:=bnd h
  obtain ⟨l4,bl4,h⟩:=bnd h
  obtain rfl:=lf h
  have z:=sg 0 c1 <| sv (sT29.ia (k := .i64) bx2) <| sv (qaj x2) <| sx pz31 <| sx (qaB x2) <| sv (qax x2 []) <| sca (qsI R56 hR56 br3) <| sv (sT29.mk' (v:=qbk) qaL ([r3]:List tPred) 1 (by kernel_rfl)) <| sv (sT29.ap bl4) <| eFx 0 .normal (qcc v v2 t8 t9 l4 (w64 (t10 + 1))) rfl (qbn (aI (aI trivial (aI (qbw (clLs qbA v)) (aI (qbw (clLs qa4 v2)) trivial))) (aI (up (qad qab l4)) (aI (up (qad qab t8)) (aI trivial (aI trivial trivial)))))) trivial
  exact qa5 (A:=A56) mixed z (by kernel_rfl)
 ·obtain rfl:=lf h
  have z:=sg 0 c1 <| eF (.exit 0) (qeu out)
  exact ovZ A56 (by intro hx; cases hx) z (by kernel_rfl)
theorem qnC (hR56:qe5 R56) {x:(waA)} (h:qfC R56 v v2 t8 t9 out t10 = some x) :
  Sat Pg GE 0 (.loop (cA b56 119)) (EX (.exit 0) (qeu x)) (qcc v v2 t8 t9 out t10) :=
 Sat.loop (S:=fun (zz:waA×Int) => qcc v v2 t8 t9 zz.1 zz.2) (ex:=(fun _ => .exit 0)) (s:=(out,t10)) h fun zz y hy => qmo R56 v v2 t8 t9 zz.1 zz.2 hR56 hy
end
def qip (R56:qcz) (a:waA) (c:waF) (c2:waD):Option (waA) :=
 (qfC R56 c c2 a (a.length:Int) ([]:List tPred) 0).bind fun o5 =>
 some o5
theorem qqi (R56:qcz) (hR56:qe5 R56) {a:waA} {c:waF} {c2:waD} {r:waA} (h:qip R56 a c c2 = some r):CC Pg GE 56 [sl qaa a,.func (.func 57) [] [.eptr ((cL qaC) c),.eptr ((cL qas) c2)]] (sl qaa r) [(0,31)]:=by
 obtain ⟨o5,bo5,h⟩:=bnd h
 obtain rfl:=lf h
 have z:=svn (sT29.ln a) <| spc (qnC R56 c c2 a (a.length:Int) ([]:List tPred) 0 hR56 bo5) <| en (aI (rP (sl qaa o5)) <| (qad qab o5))
 exact cvZ A56 Tryz.call56 Tryz.func56 (c:=b56) rfl (aI (qad qab a) (aI (aI trivial (aI (clLs qbA c) (aI (clLs qa4 c2) trivial))) trivial)) z (by kernel_rfl)
noncomputable def b97:Code:=Tryz.f97.body.getD .skip
def A97:List Nat:=[]
def qhO (v:tVar):Option (tPred) :=
 some (⟨3,v.Name,0,([]:List tPred)⟩:tPred)
theorem qoE {v:tVar} {r:tPred} (h:qhO v = some r):CC Pg GE 97 [.agg (qaI v)] (.agg (qaa r)) [(3,31)]:=by
 obtain rfl:=lf h
 have z:=se (qIu v) <| sx pz31 <| sv (qn9 v) <| sv (qr5 v) <| sb (qlh 3 v.Name) (qk1 3 v.Name) <| sy (qao (⟨3,v.Name,0,([]:List tPred)⟩:tPred)) <| en (aI (qaT (⟨3,v.Name,0,([]:List tPred)⟩:tPred)) <| aI (qab (⟨3,v.Name,0,([]:List tPred)⟩:tPred)) <| rT)
 exact cvZ A97 Tryz.call97 Tryz.func97 (c:=b97) rfl (aI (qbx v) trivial) z (by kernel_rfl)
noncomputable def b96:Code:=Tryz.f96.body.getD .skip
def A96:List Nat:=[14,21]
section
variable (t8:waE) (t9:Int) (out:waA) (t10:Int)
def qcg:PSt:=stt 22 [(1,.func (.func 97) [] []),(5,sl qaa out),(8,sl qaI t8),(9,.int .i64 t9),(10,.int .i64 t10)] [] [((5,0),31)]
def qet (o:waA):PSt:=stt 22 [(5,sl qaa o)] [] [((5,0),31)]
def qh3:Option ((waA×Int)⊕((waA))) :=
 if (decide (t10 < t9)) = true then
  (idx t8 t10).bind fun x2 =>
  (qhO x2).bind fun r3 =>
  (app out ([r3]:List tPred)).bind fun l4 =>
  some (.inl (l4,w64 (t10 + 1)))
 else
  some (.inr out)
def qfv:Option ((waA)):=loop (fun (zz:waA×Int) => qh3 t8 t9 zz.1 zz.2) (out,t10)
theorem qmp {y:(waA×Int)⊕((waA))} (h:qh3 t8 t9 out t10 = some y) :
  Sat Pg GE 0 (cA b96 119) (LQ (fun (zz:waA×Int) => qcg t8 t9 zz.1 zz.2) (fun _ => .exit 0) (qet) y) (qcg t8 t9 out t10):=by
 rcases ifs h with ⟨c1,h⟩ | ⟨c1,h⟩
 ·obtain ⟨x2,bx2,h⟩:=bnd h
  obtain ⟨r3,br3,h⟩:=bnd h
  obtain ⟨l4,bl4,h⟩:=bnd h
  obtain rfl:=lf h
  have z:=sg 0 c1 <| sv (sT36.ia (k := .i64) bx2) <| sv (qBx x2) <| sx pz88 <| sx (qAj x2) <| sv (qJN x2 []) <| sca (qoE br3) <| sv (sT29.mk' (v:=qbk) qaL ([r3]:List tPred) 1 (by kernel_rfl)) <| sv (sT29.ap bl4) <| eFx 0 .normal (qcg t8 t9 l4 (w64 (t10 + 1))) rfl (qbn (aI (aI trivial trivial) (aI (up (qad qab l4)) (aI (up (qad qbx t8)) (aI trivial (aI trivial trivial)))))) trivial
  exact qa5 (A:=A96) mixed z (by kernel_rfl)
 ·obtain rfl:=lf h
  have z:=sg 0 c1 <| eF (.exit 0) (qet out)
  exact ovZ A96 (by intro hx; cases hx) z (by kernel_rfl)
theorem qnc {x:(waA)} (h:qfv t8 t9 out t10 = some x) :
  Sat Pg GE 0 (.loop (cA b96 119)) (EX (.exit 0) (qet x)) (qcg t8 t9 out t10) :=
 Sat.loop (S:=fun (zz:waA×Int) => qcg t8 t9 zz.1 zz.2) (ex:=(fun _ => .exit 0)) (s:=(out,t10)) h fun zz y hy => qmp t8 t9 zz.1 zz.2 hy
end
def qis (a:waE):Option (waA) :=
 (qfv a (a.length:Int) ([]:List tPred) 0).bind fun o5 =>
 some o5
theorem qqn {a:waE} {r:waA} (h:qis a = some r):CC Pg GE 96 [sl qaI a,.func (.func 97) [] []] (sl qaa r) [(0,31)]:=by
 obtain ⟨o5,bo5,h⟩:=bnd h
 obtain rfl:=lf h
 have z:=svn (sT36.ln a) <| spc (qnc a (a.length:Int) ([]:List tPred) 0 bo5) <| en (aI (rP (sl qaa o5)) <| (qad qab o5))
 exact cvZ A96 Tryz.call96 Tryz.func96 (c:=b96) rfl (aI (qad qbx a) (aI (aI trivial trivial) trivial)) z (by kernel_rfl)
noncomputable def b58:Code:=Tryz.f58.body.getD .skip
def A58:List Nat:=[]
def qgd (name:Str) (a:tPred) (a2:waE):Option (tPred) :=
 (qis a2).bind fun r1 =>
 (app ([a]:List tPred) r1).bind fun l2 =>
 some (⟨5,name,0,l2⟩:tPred)
theorem qr9 {name:Str} {a:tPred} {a2:waE} {r:tPred} (h:qgd name a a2 = some r):CC Pg GE 58 [.str name,.agg (qaa a),sl qaI a2] (.agg (qaa r)) []:=by
 obtain ⟨r1,br1,h⟩:=bnd h
 obtain ⟨l2,bl2,h⟩:=bnd h
 obtain rfl:=lf h
 have z:=se (qaE a) <| sx pz31 <| sdr [0,1,0,4,15,31] <| sv (qaj a) <| sv (sT29.mk' (v:=qbk) qaL ([a]:List tPred) 1 (by kernel_rfl)) <| sca (qqn br1) <| sv (sT29.ap bl2) <| sv (qlI 5 name l2) <| sx (qaB (⟨5,name,0,l2⟩:tPred)) <| en (aI (qaT (⟨5,name,0,l2⟩:tPred)) <| (qab (⟨5,name,0,l2⟩:tPred)))
 exact cvZ A58 Tryz.call58 Tryz.func58 (c:=b58) rfl (aI trivial (aI (qab a) (aI (qad qbx a2) trivial))) z (by kernel_rfl)
noncomputable def b19:Code:=Tryz.f19.body.getD .skip
def A19:List Nat:=[]
section
variable (p:tPred) (abs:waF) (holes:waD) (m:waA) (m2:Int) (m3:Str) (m4:Int) (m5:waA)
def qtH:PSt:=stt 52 [(3,.eptr (qaa p)),(4,.eptr ((cL qaC) abs)),(5,.eptr ((cL qas) holes)),(6,.bptr 3 0),(7,.bptr 4 0)] [.dead,.dead,.dead,.cells [.int .i64 0,.str ([]:Str),.int .i64 0,sl qaa m] [(3,31)],.cells [.int .i64 m2,.str m3,.int .i64 m4,sl qaa m5] [(3,31)]] []
def qho (o:Bool):PSt:=stt 52 [(3,.eptr (qaa p)),(4,.eptr ((cL qaC) abs)),(5,.eptr ((cL qas) holes)),(6,.bptr 3 0),(7,.bptr 4 0),(30,.bool o)] [.dead,.dead,.dead,.cells [.int .i64 0,.str ([]:Str),.int .i64 0,sl qaa m] [(3,31)],.cells [.int .i64 m2,.str m3,.int .i64 m4,sl qaa m5] [(3,31)]] []
def qjv:Option ((Bool)) :=
 if (p.Op != 4) = true then
  some true
 else
  some ((p.Kids.length:Int) != 1)
theorem qso {x:(Bool)} (h:qjv p = some x) :
  Sat Pg GE 0 (cA b19 60) (EX .normal (qho p abs holes m m2 m3 m4 m5 x)) (qtH p abs holes m m2 m3 m4 m5):=by
 have p3:=fun {sc F} (r:PS sc F) => sv (qaw p) <| sv (qau p) <| r
 rcases ifs h with ⟨c2,h⟩ | ⟨c2,h⟩
 ·obtain rfl:=lf h
  have z:=p3 <| sg 4 c2 <| eF .normal (qho p abs holes m m2 m3 m4 m5 true)
  exact pcZ A19 z (by kernel_rfl)
 ·obtain rfl:=lf h
  have z:=p3 <| sg 4 c2 <| sv (qat p) <| sv (qav p) <| svn (sT29.ln p.Kids) <| eF .normal (qho p abs holes m m2 m3 m4 m5 ((p.Kids.length:Int) != 1))
  exact pcZ A19 z (by kernel_rfl)
end
def qhL (R56:qcz) (p:tPred) (abs:waF) (holes:waD):Option (tPred) :=
 (qip R56 p.Kids abs holes).bind fun r1 =>
 (qjv p).bind fun o4 =>
 if o4 = true then
  some (⟨p.Op,p.Name,p.N,r1⟩:tPred)
 else
  (qcK abs holes p.Name).bind fun r7 =>
  if (!r7.2) = true then
   some (⟨p.Op,p.Name,p.N,r1⟩:tPred)
  else
   (idx r1 0).bind fun x10 =>
   (qen r7.1).bind fun r11 =>
   (qgd r7.1.Name x10 r11).bind fun r12 =>
   some r12
theorem qub (R56:qcz) (hR56:qe5 R56) {p:tPred} {abs:waF} {holes:waD} {r:tPred} (h:qhL R56 p abs holes = some r):CC Pg GE 19 [.agg (qaa p),sl qaC abs,sl qas holes] (.agg (qaa r)) []:=by
 obtain ⟨r1,br1,h⟩:=bnd h
 obtain ⟨o4,bo4,h⟩:=bnd h
 have p6:=fun {sc F} (r:PS sc F) => se (qaE p) <| se (pcL qaC abs) <| se (pcL qas holes) <| sx pz31 <| sv (qaw p) <| sv (qau p) <| sv (qaH p) <| sv (qaO p) <| sv (qbc p) <| sv (qbq p) <| sb (qfP p.Op p.Name p.N) (qf1 p.Op p.Name p.N) <| sx pz31 <| sy (qao (⟨p.Op,p.Name,p.N,([]:List tPred)⟩:tPred)) <| sv (qat p) <| sv (qav p) <| sca (qqi R56 hR56 br1) <| spa 1 <| spc (qso p abs holes ([]:List tPred) p.Op p.Name p.N r1 bo4) <| r
 rcases ifs h with ⟨c5,h⟩ | ⟨c5,h⟩
 ·obtain rfl:=lf h
  have z:=p6 <| sg 0 c5 <| sz (qax (⟨p.Op,p.Name,p.N,r1⟩:tPred) []) <| sy (qao (⟨p.Op,p.Name,p.N,r1⟩:tPred)) <| en (aI (qaT (⟨p.Op,p.Name,p.N,r1⟩:tPred)) <| (qab (⟨p.Op,p.Name,p.N,r1⟩:tPred)))
  exact cvZ A19 Tryz.call19 Tryz.func19 (c:=b19) rfl (aI (qab p) (aI (qad qbA abs) (aI (qad qa4 holes) trivial))) z (by kernel_rfl)
 ·obtain ⟨r7,br7,h⟩:=bnd h
  have p9:=fun {sc F} (r:PS sc F) => p6 <| sg 0 c5 <| sv (qa9 sc24 (sl qaC abs) []) <| sv (qa9 sc38 (sl qas holes) []) <| sv (qaH p) <| sv (qaO p) <| sca (qi9 br7) <| sx pz82 <| sx (qpr r7.1) <| r
  rcases ifs h with ⟨c8,h⟩ | ⟨c8,h⟩
  ·obtain rfl:=lf h
   have z:=p9 <| sg 0 c8 <| sz (qax (⟨p.Op,p.Name,p.N,r1⟩:tPred) []) <| sy (qao (⟨p.Op,p.Name,p.N,r1⟩:tPred)) <| en (aI (qaT (⟨p.Op,p.Name,p.N,r1⟩:tPred)) <| (qab (⟨p.Op,p.Name,p.N,r1⟩:tPred)))
   exact cvZ A19 Tryz.call19 Tryz.func19 (c:=b19) rfl (aI (qab p) (aI (qad qbA abs) (aI (qad qa4 holes) trivial))) z (by kernel_rfl)
  ·obtain ⟨x10,bx10,h⟩:=bnd h
   obtain ⟨r11,br11,h⟩:=bnd h
   obtain ⟨r12,br12,h⟩:=bnd h
   obtain rfl:=lf h
   have z:=p9 <| sg 0 c8 <| sdr [0,1,0,4,12,28,0,64,255,511] <| ss <| ss <| sv (sT29.ia (k := .i64) bx10) <| sv (qaj x10) <| sv (qC0 r7.1 []) <| sca (qmc br11) <| sca (qr9 br12) <| sx (qaB r12) <| en (aI (qaT r12) <| (qab r12))
   exact cvZ A19 Tryz.call19 Tryz.func19 (c:=b19) rfl (aI (qab p) (aI (qad qbA abs) (aI (qad qa4 holes) trivial))) z (by kernel_rfl)
def qkf:((tPred×waF×waD)→Option (tPred))→(tPred×waF×waD)→Option (tPred):=fun (rec:(tPred×waF×waD)→Option (tPred)) (x:tPred×waF×waD) => qhL (fun p abs holes => rec (p,abs,holes)) x.1 x.2.1 x.2.2
def qjO (p:tPred) (abs:waF) (holes:waD):Option (tPred):=fixE (qkf) (p,abs,holes)
theorem qnN {p:tPred} {abs:waF} {holes:waD} {r:tPred} (h:qjO p abs holes = some r):CC Pg GE 19 [.agg (qaa p),sl qaC abs,sl qas holes] (.agg (qaa r)) [] :=
 qbo (F:=qkf) (M:=fun (x:tPred×waF×waD) (r:tPred) => CC Pg GE 19 [.agg (qaa x.1),sl qaC x.2.1,sl qas x.2.2] (.agg (qaa r)) []) (fun rec hrec x r h => qub _ (fun p abs holes r h => hrec (p,abs,holes) r h) h) h
noncomputable def b53:Code:=Tryz.f53.body.getD .skip
def A53:List Nat:=[]
def qdB (p:tPred) (a:waF) (a2:waD):Option (tPred) :=
 (qjO p a a2).bind fun r1 =>
 some r1
theorem qk7 {p:tPred} {a:waF} {a2:waD} {r:tPred} (h:qdB p a a2 = some r):CC Pg GE 53 [.agg (qaa p),.eptr ((cL qaC) a),.eptr ((cL qas) a2)] (.agg (qaa r)) []:=by
 obtain ⟨r1,br1,h⟩:=bnd h
 obtain rfl:=lf h
 have z:=se (qaE p) <| sx pz31 <| sv (qaj p) <| sv (qa9 sc24 (sl qaC a) []) <| sv (qa9 sc38 (sl qas a2) []) <| sca (qnN br1) <| sx (qaB r1) <| en (aI (qaT r1) <| (qab r1))
 exact cvZ A53 Tryz.call53 Tryz.func53 (c:=b53) rfl (aI (qab p) (aI (clLs qbA a) (aI (clLs qa4 a2) trivial))) z (by kernel_rfl)
section
variable (v:waF) (v2:waD) (t8:waA) (t9:Int) (out:waA) (t10:Int)
def qb9:PSt:=stt 22 [(1,.func (.func 53) [] [.eptr ((cL qaC) v),.eptr ((cL qas) v2)]),(5,sl qaa out),(8,sl qaa t8),(9,.int .i64 t9),(10,.int .i64 t10)] [] [((5,0),31)]
def qez (o:waA):PSt:=stt 22 [(5,sl qaa o)] [] [((5,0),31)]
def qhZ:Option ((waA×Int)⊕((waA))) :=
 if (decide (t10 < t9)) = true then
  (idx t8 t10).bind fun x2 =>
  (qdB x2 v v2).bind fun r3 =>
  (app out ([r3]:List tPred)).bind fun l4 =>
  some (.inl (l4,w64 (t10 + 1)))
 else
  some (.inr out)
def qfz:Option ((waA)):=loop (fun (zz:waA×Int) => qhZ v v2 t8 t9 zz.1 zz.2) (out,t10)
theorem ql4 {y:(waA×Int)⊕((waA))} (h:qhZ v v2 t8 t9 out t10 = some y) :
  Sat Pg GE 0 (cA b56 119) (LQ (fun (zz:waA×Int) => qb9 v v2 t8 t9 zz.1 zz.2) (fun _ => .exit 0) (qez) y) (qb9 v v2 t8 t9 out t10):=by
 rcases ifs h with ⟨c1,h⟩ | ⟨c1,h⟩
 ·obtain ⟨x2,bx2,h⟩:=bnd h
  obtain ⟨r3,br3,h⟩:=bnd h
  obtain ⟨l4,bl4,h⟩:=bnd h
  obtain rfl:=lf h
  have z:=sg 0 c1 <| sv (sT29.ia (k := .i64) bx2) <| sv (qaj x2) <| sx pz31 <| sx (qaB x2) <| sv (qax x2 []) <| sca (qk7 br3) <| sv (sT29.mk' (v:=qbk) qaL ([r3]:List tPred) 1 (by kernel_rfl)) <| sv (sT29.ap bl4) <| eFx 0 .normal (qb9 v v2 t8 t9 l4 (w64 (t10 + 1))) rfl (qbn (aI (aI trivial (aI (qbw (clLs qbA v)) (aI (qbw (clLs qa4 v2)) trivial))) (aI (up (qad qab l4)) (aI (up (qad qab t8)) (aI trivial (aI trivial trivial)))))) trivial
  exact qa5 (A:=A56) mixed z (by kernel_rfl)
 ·obtain rfl:=lf h
  have z:=sg 0 c1 <| eF (.exit 0) (qez out)
  exact ovZ A56 (by intro hx; cases hx) z (by kernel_rfl)
theorem qmQ {x:(waA)} (h:qfz v v2 t8 t9 out t10 = some x) :
  Sat Pg GE 0 (.loop (cA b56 119)) (EX (.exit 0) (qez x)) (qb9 v v2 t8 t9 out t10) :=
 Sat.loop (S:=fun (zz:waA×Int) => qb9 v v2 t8 t9 zz.1 zz.2) (ex:=(fun _ => .exit 0)) (s:=(out,t10)) h fun zz y hy => ql4 v v2 t8 t9 zz.1 zz.2 hy
end
def qit (a:waA) (c:waF) (c2:waD):Option (waA) :=
 (qfz c c2 a (a.length:Int) ([]:List tPred) 0).bind fun o5 =>
 some o5
theorem qqx {a:waA} {c:waF} {c2:waD} {r:waA} (h:qit a c c2 = some r):CC Pg GE 56 [sl qaa a,.func (.func 53) [] [.eptr ((cL qaC) c),.eptr ((cL qas) c2)]] (sl qaa r) [(0,31)]:=by
 obtain ⟨o5,bo5,h⟩:=bnd h
 obtain rfl:=lf h
 have z:=svn (sT29.ln a) <| spc (qmQ c c2 a (a.length:Int) ([]:List tPred) 0 bo5) <| en (aI (rP (sl qaa o5)) <| (qad qab o5))
 exact cvZ A56 Tryz.call56 Tryz.func56 (c:=b56) rfl (aI (qad qab a) (aI (aI trivial (aI (clLs qbA c) (aI (clLs qa4 c2) trivial))) trivial)) z (by kernel_rfl)
def qfA (R54:qbz) (a:tType) (c:waF) (c2:waD):Option (tType) :=
 (R54 a c c2).bind fun r1 =>
 some r1
theorem qmY (R54:qbz) (hR54:qcS R54) {a:tType} {c:waF} {c2:waD} {r:tType} (h:qfA R54 a c c2 = some r):CC Pg GE 88 [.agg (qac a),.eptr [.func (.func 53) [] [.eptr ((cL qaC) c),.eptr ((cL qas) c2)]]] (.agg (qac r)) [(2,33)]:=by
 obtain ⟨r1,br1,h⟩:=bnd h
 obtain rfl:=lf h
 have z:=se (qbj a) <| sx pz33 <| sv (qaN a) <| sv (qa9 qGe (.func (.func 53) [] [.eptr ((cL qaC) c),.eptr ((cL qas) c2)]) []) <| sca (hR54 _ _ _ _ br1) <| sy (qaK r1) <| en (aI (qcB r1) <| aI (qaf r1) <| rT)
 exact cvZ A88 Tryz.call88 Tryz.func88 (c:=b88) rfl (aI (qaf a) (aI (aI (aI trivial (aI (clLs qbA c) (aI (clLs qa4 c2) trivial))) trivial) trivial)) z (by kernel_rfl)
section
variable (R54:qbz) (v:waF) (v2:waD) (t8:waC) (t9:Int) (out:waC) (t10:Int)
def qbZ:PSt:=stt 22 [(1,.func (.func 88) [] [.eptr [.func (.func 53) [] [.eptr ((cL qaC) v),.eptr ((cL qas) v2)]]]),(5,sl qac out),(8,sl qac t8),(9,.int .i64 t9),(10,.int .i64 t10)] [] [((5,0),33)]
def qdY (o:waC):PSt:=stt 22 [(5,sl qac o)] [] [((5,0),33)]
def qhI:Option ((waC×Int)⊕((waC))) :=
 if (decide (t10 < t9)) = true then
  (idx t8 t10).bind fun x2 =>
  (qfA R54 x2 v v2).bind fun r3 =>
  (app out ([r3]:List tType)).bind fun l4 =>
  some (.inl (l4,w64 (t10 + 1)))
 else
  some (.inr out)
def qeU:Option ((waC)):=loop (fun (zz:waC×Int) => qhI R54 v v2 t8 t9 zz.1 zz.2) (out,t10)
theorem qlL (hR54:qcS R54) {y:(waC×Int)⊕((waC))} (h:qhI R54 v v2 t8 t9 out t10 = some y) :
  Sat Pg GE 0 (cA b62 119) (LQ (fun (zz:waC×Int) => qbZ v v2 t8 t9 zz.1 zz.2) (fun _ => .exit 0) (qdY) y) (qbZ v v2 t8 t9 out t10):=by
 rcases ifs h with ⟨c1,h⟩ | ⟨c1,h⟩
 ·obtain ⟨x2,bx2,h⟩:=bnd h
  obtain ⟨r3,br3,h⟩:=bnd h
  obtain ⟨l4,bl4,h⟩:=bnd h
  obtain rfl:=lf h
  have z:=sg 0 c1 <| sv (sT27.ia (k := .i64) bx2) <| sv (qaN x2) <| sx pz33 <| sx (qbI x2) <| sv (qa3 x2 []) <| sca (qmY R54 hR54 br3) <| sv (sT27.mk' (v:=qiq) qdE ([r3]:List tType) 1 (by kernel_rfl)) <| sv (sT27.ap bl4) <| eFx 0 .normal (qbZ v v2 t8 t9 l4 (w64 (t10 + 1))) rfl (qbn (aI (aI trivial (aI (aI (aI trivial (aI (qbw (clLs qbA v)) (aI (qbw (clLs qa4 v2)) trivial))) trivial) trivial)) (aI (up (qad qaf l4)) (aI (up (qad qaf t8)) (aI trivial (aI trivial trivial)))))) trivial
  exact qa5 (A:=A62) mixed z (by kernel_rfl)
 ·obtain rfl:=lf h
  have z:=sg 0 c1 <| eF (.exit 0) (qdY out)
  exact ovZ A62 (by intro hx; cases hx) z (by kernel_rfl)
theorem ql3 (hR54:qcS R54) {x:(waC)} (h:qeU R54 v v2 t8 t9 out t10 = some x) :
  Sat Pg GE 0 (.loop (cA b62 119)) (EX (.exit 0) (qdY x)) (qbZ v v2 t8 t9 out t10) :=
 Sat.loop (S:=fun (zz:waC×Int) => qbZ v v2 t8 t9 zz.1 zz.2) (ex:=(fun _ => .exit 0)) (s:=(out,t10)) h fun zz y hy => qlL R54 v v2 t8 t9 zz.1 zz.2 hR54 hy
end
def qhH (R54:qbz) (a:waC) (c:waF) (c2:waD):Option (waC) :=
 (qeU R54 c c2 a (a.length:Int) ([]:List tType) 0).bind fun o5 =>
 some o5
theorem qpo (R54:qbz) (hR54:qcS R54) {a:waC} {c:waF} {c2:waD} {r:waC} (h:qhH R54 a c c2 = some r):CC Pg GE 62 [sl qac a,.func (.func 88) [] [.eptr [.func (.func 53) [] [.eptr ((cL qaC) c),.eptr ((cL qas) c2)]]]] (sl qac r) [(0,33)]:=by
 obtain ⟨o5,bo5,h⟩:=bnd h
 obtain rfl:=lf h
 have z:=svn (sT27.ln a) <| spc (ql3 R54 c c2 a (a.length:Int) ([]:List tType) 0 hR54 bo5) <| en (aI (rP (sl qac o5)) <| (qad qaf o5))
 exact cvZ A62 Tryz.call62 Tryz.func62 (c:=b62) rfl (aI (qad qaf a) (aI (aI trivial (aI (aI (aI trivial (aI (clLs qbA c) (aI (clLs qa4 c2) trivial))) trivial) trivial)) trivial)) z (by kernel_rfl)
end Go.Proofs.YtgldgpdhblndkaaGreatDoor
