/- WHAT IS PROVED: parts of the proof, put together by a program (G1). Conditions: none. -/
import Derived.Test.YtgldgpdhblndkaaGreatDoorPkF13
import Derived.Test.YtgldgpdhblndkaaGreatDoorPkF14
noncomputable section
namespace Go.Proofs.YtgldgpdhblndkaaGreatDoor
open Go
set_option linter.unusedVariables false
set_option maxRecDepth 100000
noncomputable def b41:Code:=Tryz.f41.body.getD .skip
def A41:List Nat:=[]
def qEg (s:Str):Option (tPred) :=
 some (⟨3,s,0,([]:List tPred)⟩:tPred)
theorem qp6 {s:Str} {r:tPred} (h:qEg s = some r):CC Pg GE 41 [.str s] (.agg (qaa r)) [(3,31)]:=by
 obtain rfl:=lf h
 have z:=sx pz31 <| sb (qlh 3 s) (qk1 3 s) <| sy (qao (⟨3,s,0,([]:List tPred)⟩:tPred)) <| en (aI (qaT (⟨3,s,0,([]:List tPred)⟩:tPred)) <| aI (qab (⟨3,s,0,([]:List tPred)⟩:tPred)) <| rT)
 exact cvZ A41 Tryz.call41 Tryz.func41 (c:=b41) rfl (aI trivial trivial) z (by kernel_rfl)
noncomputable def b40:Code:=Tryz.f40.body.getD .skip
def A40:List Nat:=[]
def qAO (s:Str) (a:waA):Option (tPred) :=
 some (⟨4,s,0,a⟩:tPred)
theorem qui {s:Str} {a:waA} {r:tPred} (h:qAO s a = some r):CC Pg GE 40 [.str s,sl qaa a] (.agg (qaa r)) []:=by
 obtain rfl:=lf h
 have z:=sx pz31 <| sv (qlI 4 s a) <| sx (qaB (⟨4,s,0,a⟩:tPred)) <| en (aI (qaT (⟨4,s,0,a⟩:tPred)) <| (qab (⟨4,s,0,a⟩:tPred)))
 exact cvZ A40 Tryz.call40 Tryz.func40 (c:=b40) rfl (aI trivial (aI (qad qab a) trivial)) z (by kernel_rfl)
noncomputable def b42:Code:=Tryz.f42.body.getD .skip
def A42:List Nat:=[]
def qgu (p:tPred):Option (tType) :=
 some (⟨1,([]:Str),([]:List tType),([]:List Str),p,([]:List tPred)⟩:tType)
theorem qek {p:tPred} {r:tType} (h:qgu p = some r):CC Pg GE 42 [.agg (qaa p)] (.agg (qac r)) [(2,33),(3,9),(8,31)]:=by
 obtain rfl:=lf h
 have z:=se (qaE p) <| sx pz33 <| sv (qaj p) <| sb (qBL 1 p) (qCt 1 p) <| sy (qaK (⟨1,([]:Str),([]:List tType),([]:List Str),p,([]:List tPred)⟩:tType)) <| en (aI (qcB (⟨1,([]:Str),([]:List tType),([]:List Str),p,([]:List tPred)⟩:tType)) <| aI (qaf (⟨1,([]:Str),([]:List tType),([]:List Str),p,([]:List tPred)⟩:tType)) <| rT)
 exact cvZ A42 Tryz.call42 Tryz.func42 (c:=b42) rfl (aI (qab p) trivial) z (by kernel_rfl)
noncomputable def b39:Code:=Tryz.f39.body.getD .skip
def A39:List Nat:=[15]
def qd7 (a:tAbs) (a2:Str) (a3:waE):Option (tHole) :=
 (cat a2 ([46]:Str)).bind fun s1 =>
 (cat s1 a.Name).bind fun s2 =>
 (app ([(⟨([118]:Str),a.Sort_⟩:tVar)]:List tVar) a3).bind fun l3 =>
 some (⟨s2,l3⟩:tHole)
theorem qrI {a:tAbs} {a2:Str} {a3:waE} {r:tHole} (h:qd7 a a2 a3 = some r):CC Pg GE 39 [.agg (qaC a),.eptr (cS a2),.eptr ((cL qaI) a3)] (.agg (qas r)) []:=by
 obtain ⟨s1,bs1,h⟩:=bnd h
 obtain ⟨s2,bs2,h⟩:=bnd h
 obtain ⟨l3,bl3,h⟩:=bnd h
 obtain rfl:=lf h
 have z:=se (qIk a) <| sx pz82 <| sv (qBS a) <| sv (qCc a) <| sv (qrV ([118]:Str) a.Sort_) <| sv (sT36.mk' (v:=qEV) qBo ([(⟨([118]:Str),a.Sort_⟩:tVar)]:List tVar) 1 (by kernel_rfl)) <| sdr [0,1,0,4,15,0,0,96,255,511] <| sv (qa9 sc9 (.str a2) []) <| sv (qH7 (P:=Pg) (t:=9) bs1) <| sv (qoZ a) <| sv (qrB a) <| sv (qH7 (P:=Pg) (t:=9) bs2) <| sv (qa9 sc36 (sl qaI a3) []) <| sv (sT36.ap bl3) <| sv (qCA s2 l3) <| sx (qpr (⟨s2,l3⟩:tHole)) <| en (aI (qxv (⟨s2,l3⟩:tHole)) <| (qa4 (⟨s2,l3⟩:tHole)))
 exact cvZ A39 Tryz.call39 Tryz.func39 (c:=b39) rfl (aI (qbA a) (aI (clS a2) (aI (clLs qbx a3) trivial))) z (by kernel_rfl)
noncomputable def b38:Code:=Tryz.f38.body.getD .skip
def A38:List Nat:=[14,21]
section
variable (v:Str) (v2:waE) (t8:waF) (t9:Int) (out:waD) (t10:Int)
def qcX:PSt:=stt 22 [(1,.func (.func 39) [] [.eptr (cS v),.eptr ((cL qaI) v2)]),(5,sl qas out),(8,sl qaC t8),(9,.int .i64 t9),(10,.int .i64 t10)] [] [((5,0),82)]
def qfG (o:waD):PSt:=stt 22 [(5,sl qas o)] [] [((5,0),82)]
def qfy:Option ((waD×Int)⊕((waD))) :=
 if (decide (t10 < t9)) = true then
  (idx t8 t10).bind fun x2 =>
  (qd7 x2 v v2).bind fun r3 =>
  (app out ([r3]:List tHole)).bind fun l4 =>
  some (.inl (l4,w64 (t10 + 1)))
 else
  some (.inr out)
def qgM:Option ((waD)):=loop (fun (zz:waD×Int) => qfy v v2 t8 t9 zz.1 zz.2) (out,t10)
theorem qnY {y:(waD×Int)⊕((waD))} (h:qfy v v2 t8 t9 out t10 = some y) :
  Sat Pg GE 0 (cA b38 119) (LQ (fun (zz:waD×Int) => qcX v v2 t8 t9 zz.1 zz.2) (fun _ => .exit 0) (qfG) y) (qcX v v2 t8 t9 out t10):=by
 rcases ifs h with ⟨c1,h⟩ | ⟨c1,h⟩
 ·obtain ⟨x2,bx2,h⟩:=bnd h
  obtain ⟨r3,br3,h⟩:=bnd h
  obtain ⟨l4,bl4,h⟩:=bnd h
  obtain rfl:=lf h
  have z:=sg 0 c1 <| sv (sT24.ia (k := .i64) bx2) <| sv (qEh x2) <| sx pz76 <| sx (qE4 x2) <| sv (qKj x2 []) <| sca (qrI br3) <| sv (sT38.mk' (v:=qIE) qI5 ([r3]:List tHole) 1 (by kernel_rfl)) <| sv (sT38.ap bl4) <| eFx 0 .normal (qcX v v2 t8 t9 l4 (w64 (t10 + 1))) rfl (qbn (aI (aI trivial (aI (qbw (clS v)) (aI (qbw (clLs qbx v2)) trivial))) (aI (up (qad qa4 l4)) (aI (up (qad qbA t8)) (aI trivial (aI trivial trivial)))))) trivial
  exact qa5 (A:=A38) mixed z (by kernel_rfl)
 ·obtain rfl:=lf h
  have z:=sg 0 c1 <| eF (.exit 0) (qfG out)
  exact ovZ A38 (by intro hx; cases hx) z (by kernel_rfl)
theorem qpc {x:(waD)} (h:qgM v v2 t8 t9 out t10 = some x) :
  Sat Pg GE 0 (.loop (cA b38 119)) (EX (.exit 0) (qfG x)) (qcX v v2 t8 t9 out t10) :=
 Sat.loop (S:=fun (zz:waD×Int) => qcX v v2 t8 t9 zz.1 zz.2) (ex:=(fun _ => .exit 0)) (s:=(out,t10)) h fun zz y hy => qnY v v2 t8 t9 zz.1 zz.2 hy
end
def qhy (a:waF) (c:Str) (c2:waE):Option (waD) :=
 (qgM c c2 a (a.length:Int) ([]:List tHole) 0).bind fun o5 =>
 some o5
theorem qsW {a:waF} {c:Str} {c2:waE} {r:waD} (h:qhy a c c2 = some r):CC Pg GE 38 [sl qaC a,.func (.func 39) [] [.eptr (cS c),.eptr ((cL qaI) c2)]] (sl qas r) [(0,82)]:=by
 obtain ⟨o5,bo5,h⟩:=bnd h
 obtain rfl:=lf h
 have z:=svn (sT24.ln a) <| spc (qpc c c2 a (a.length:Int) ([]:List tHole) 0 bo5) <| en (aI (rP (sl qas o5)) <| (qad qa4 o5))
 exact cvZ A38 Tryz.call38 Tryz.func38 (c:=b38) rfl (aI (qad qbA a) (aI (aI trivial (aI (clS c) (aI (clLs qbx c2) trivial))) trivial)) z (by kernel_rfl)
noncomputable def b9:Code:=Tryz.f9.body.getD .skip
def A9:List Nat:=[]
def qfI (s:tSig) (a:Str) (scope:waE):Option (waD) :=
 (qhy s.Abs a scope).bind fun r1 =>
 some r1
theorem qmg {s:tSig} {a:Str} {scope:waE} {r:waD} (h:qfI s a scope = some r):CC Pg GE 9 [.agg (qj4 s),.str a,sl qaI scope] (sl qas r) [(0,82)]:=by
 obtain ⟨r1,br1,h⟩:=bnd h
 obtain rfl:=lf h
 have z:=se (qLP s) <| se (pcS a) <| se (pcL qaI scope) <| sv (qBK s) <| sv (qBZ s) <| sca (qsW br1) <| en (aI (rP (sl qas r1)) <| (qad qa4 r1))
 exact cvZ A9 Tryz.call9 Tryz.func9 (c:=b9) rfl (aI (qLs s) (aI trivial (aI (qad qbx scope) trivial))) z (by kernel_rfl)
noncomputable def b43:Code:=Tryz.f43.body.getD .skip
def A43:List Nat:=[]
def qDE:Option (tModule) :=
 (qEg ([118]:Str)).bind fun r1 =>
 (qAO ([112]:Str) ([r1]:List tPred)).bind fun r2 =>
 (qEg ([118]:Str)).bind fun r3 =>
 (qAO ([112]:Str) ([r3]:List tPred)).bind fun r4 =>
 (qgu r4).bind fun r5 =>
 some (⟨([(⟨([76,105,115,116]:Str),([]:List Str),([(⟨([112]:Str),([73,110,116]:Str)⟩:tVar)]:List tVar),([(⟨([78,105,108]:Str),([]:List Str),([]:List tType)⟩:tCon),(⟨([67,111,110,115]:Str),([([120]:Str),([114,101,115,116]:Str)]:List Str),([r5,(⟨4,([76,105,115,116]:Str),([]:List tType),([]:List Str),(⟨0,([]:Str),0,([]:List tPred)⟩:tPred),([r2]:List tPred)⟩:tType)]:List tType)⟩:tCon)]:List tCon)⟩:tData)]:List tData),([]:List tClass),([]:List tInstance),([]:List tMeasure),([]:List tQual),([]:List tDef)⟩:tModule)
theorem qB9 {r:tModule} (h:qDE = some r):CC Pg GE 43 [] (.agg (qcE r)) [(1,231),(2,233),(3,236),(4,238),(5,247)]:=by
 obtain ⟨r1,br1,h⟩:=bnd h
 obtain ⟨r2,br2,h⟩:=bnd h
 obtain ⟨r3,br3,h⟩:=bnd h
 obtain ⟨r4,br4,h⟩:=bnd h
 obtain ⟨r5,br5,h⟩:=bnd h
 obtain rfl:=lf h
 have z:=sx pz57 <| sca (qp6 br1) <| sv (sT29.mk' (v:=qbk) qaL ([r1]:List tPred) 1 (by kernel_rfl)) <| sca (qui br2) <| sv (sT29.mk' (v:=qbk) qaL ([r2]:List tPred) 1 (by kernel_rfl)) <| sb (qqN 4 ([76,105,115,116]:Str) ([r2]:List tPred)) (qq3 4 ([76,105,115,116]:Str) ([r2]:List tPred)) <| sx pz33 <| sy (qaK (⟨4,([76,105,115,116]:Str),([]:List tType),([]:List Str),(⟨0,([]:Str),0,([]:List tPred)⟩:tPred),([r2]:List tPred)⟩:tType)) <| sdr [0,1,0,0,0,16,48,112,0,496,1016,2044,4095,8191,16383,32767] <| sv (qrV ([112]:Str) ([73,110,116]:Str)) <| sv (sT36.mk' (v:=qEV) qBo ([(⟨([112]:Str),([73,110,116]:Str)⟩:tVar)]:List tVar) 1 (by kernel_rfl)) <| sb (qG2 ([78,105,108]:Str)) (qGT ([78,105,108]:Str)) <| sv (sT22.mk' (v:=PVal.str) pcS ([([120]:Str),([114,101,115,116]:Str)]:List Str) 2 (by kernel_rfl)) <| sca (qp6 br3) <| sv (sT29.mk' (v:=qbk) qaL ([r3]:List tPred) 1 (by kernel_rfl)) <| sca (qui br4) <| sca (qek br5) <| sv (qa3 (⟨4,([76,105,115,116]:Str),([]:List tType),([]:List Str),(⟨0,([]:Str),0,([]:List tPred)⟩:tPred),([r2]:List tPred)⟩:tType) []) <| sv (sT27.mk' (v:=qiq) qdE ([r5,(⟨4,([76,105,115,116]:Str),([]:List tType),([]:List Str),(⟨0,([]:Str),0,([]:List tPred)⟩:tPred),([r2]:List tPred)⟩:tType)]:List tType) 2 (by kernel_rfl)) <| sv (qBh ([67,111,110,115]:Str) ([([120]:Str),([114,101,115,116]:Str)]:List Str) ([r5,(⟨4,([76,105,115,116]:Str),([]:List tType),([]:List Str),(⟨0,([]:Str),0,([]:List tPred)⟩:tPred),([r2]:List tPred)⟩:tType)]:List tType)) <| sv (sT59.mk' (v:=qKn) qJw ([(⟨([78,105,108]:Str),([]:List Str),([]:List tType)⟩:tCon),(⟨([67,111,110,115]:Str),([([120]:Str),([114,101,115,116]:Str)]:List Str),([r5,(⟨4,([76,105,115,116]:Str),([]:List tType),([]:List Str),(⟨0,([]:Str),0,([]:List tPred)⟩:tPred),([r2]:List tPred)⟩:tType)]:List tType)⟩:tCon)]:List tCon) 2 (by kernel_rfl)) <| sb (qzh ([76,105,115,116]:Str) ([(⟨([112]:Str),([73,110,116]:Str)⟩:tVar)]:List tVar) ([(⟨([78,105,108]:Str),([]:List Str),([]:List tType)⟩:tCon),(⟨([67,111,110,115]:Str),([([120]:Str),([114,101,115,116]:Str)]:List Str),([r5,(⟨4,([76,105,115,116]:Str),([]:List tType),([]:List Str),(⟨0,([]:Str),0,([]:List tPred)⟩:tPred),([r2]:List tPred)⟩:tType)]:List tType)⟩:tCon)]:List tCon)) (qzf ([76,105,115,116]:Str) ([(⟨([112]:Str),([73,110,116]:Str)⟩:tVar)]:List tVar) ([(⟨([78,105,108]:Str),([]:List Str),([]:List tType)⟩:tCon),(⟨([67,111,110,115]:Str),([([120]:Str),([114,101,115,116]:Str)]:List Str),([r5,(⟨4,([76,105,115,116]:Str),([]:List tType),([]:List Str),(⟨0,([]:Str),0,([]:List tPred)⟩:tPred),([r2]:List tPred)⟩:tType)]:List tType)⟩:tCon)]:List tCon)) <| sv (sT50.mk' (v:=qHh) qHW ([(⟨([76,105,115,116]:Str),([]:List Str),([(⟨([112]:Str),([73,110,116]:Str)⟩:tVar)]:List tVar),([(⟨([78,105,108]:Str),([]:List Str),([]:List tType)⟩:tCon),(⟨([67,111,110,115]:Str),([([120]:Str),([114,101,115,116]:Str)]:List Str),([r5,(⟨4,([76,105,115,116]:Str),([]:List tType),([]:List Str),(⟨0,([]:Str),0,([]:List tPred)⟩:tPred),([r2]:List tPred)⟩:tType)]:List tType)⟩:tCon)]:List tCon)⟩:tData)]:List tData) 1 (by kernel_rfl)) <| sb (qCz ([(⟨([76,105,115,116]:Str),([]:List Str),([(⟨([112]:Str),([73,110,116]:Str)⟩:tVar)]:List tVar),([(⟨([78,105,108]:Str),([]:List Str),([]:List tType)⟩:tCon),(⟨([67,111,110,115]:Str),([([120]:Str),([114,101,115,116]:Str)]:List Str),([r5,(⟨4,([76,105,115,116]:Str),([]:List tType),([]:List Str),(⟨0,([]:Str),0,([]:List tPred)⟩:tPred),([r2]:List tPred)⟩:tType)]:List tType)⟩:tCon)]:List tCon)⟩:tData)]:List tData)) (qBN ([(⟨([76,105,115,116]:Str),([]:List Str),([(⟨([112]:Str),([73,110,116]:Str)⟩:tVar)]:List tVar),([(⟨([78,105,108]:Str),([]:List Str),([]:List tType)⟩:tCon),(⟨([67,111,110,115]:Str),([([120]:Str),([114,101,115,116]:Str)]:List Str),([r5,(⟨4,([76,105,115,116]:Str),([]:List tType),([]:List Str),(⟨0,([]:Str),0,([]:List tPred)⟩:tPred),([r2]:List tPred)⟩:tType)]:List tType)⟩:tCon)]:List tCon)⟩:tData)]:List tData)) <| syx (qEx (⟨([(⟨([76,105,115,116]:Str),([]:List Str),([(⟨([112]:Str),([73,110,116]:Str)⟩:tVar)]:List tVar),([(⟨([78,105,108]:Str),([]:List Str),([]:List tType)⟩:tCon),(⟨([67,111,110,115]:Str),([([120]:Str),([114,101,115,116]:Str)]:List Str),([r5,(⟨4,([76,105,115,116]:Str),([]:List tType),([]:List Str),(⟨0,([]:Str),0,([]:List tPred)⟩:tPred),([r2]:List tPred)⟩:tType)]:List tType)⟩:tCon)]:List tCon)⟩:tData)]:List tData),([]:List tClass),([]:List tInstance),([]:List tMeasure),([]:List tQual),([]:List tDef)⟩:tModule)) <| en (aI (qEw (⟨([(⟨([76,105,115,116]:Str),([]:List Str),([(⟨([112]:Str),([73,110,116]:Str)⟩:tVar)]:List tVar),([(⟨([78,105,108]:Str),([]:List Str),([]:List tType)⟩:tCon),(⟨([67,111,110,115]:Str),([([120]:Str),([114,101,115,116]:Str)]:List Str),([r5,(⟨4,([76,105,115,116]:Str),([]:List tType),([]:List Str),(⟨0,([]:Str),0,([]:List tPred)⟩:tPred),([r2]:List tPred)⟩:tType)]:List tType)⟩:tCon)]:List tCon)⟩:tData)]:List tData),([]:List tClass),([]:List tInstance),([]:List tMeasure),([]:List tQual),([]:List tDef)⟩:tModule)) <| aI (qme (⟨([(⟨([76,105,115,116]:Str),([]:List Str),([(⟨([112]:Str),([73,110,116]:Str)⟩:tVar)]:List tVar),([(⟨([78,105,108]:Str),([]:List Str),([]:List tType)⟩:tCon),(⟨([67,111,110,115]:Str),([([120]:Str),([114,101,115,116]:Str)]:List Str),([r5,(⟨4,([76,105,115,116]:Str),([]:List tType),([]:List Str),(⟨0,([]:Str),0,([]:List tPred)⟩:tPred),([r2]:List tPred)⟩:tType)]:List tType)⟩:tCon)]:List tCon)⟩:tData)]:List tData),([]:List tClass),([]:List tInstance),([]:List tMeasure),([]:List tQual),([]:List tDef)⟩:tModule)) <| rT)
 exact cvZ A43 Tryz.call43 Tryz.func43 (c:=b43) rfl trivial z (by kernel_rfl)
noncomputable def b61:Code:=Tryz.f61.body.getD .skip
def A61:List Nat:=[23,31]
section
variable (name:Str) (t12:(List tData)) (t13:Int) (t14:Int) (t19:waH) (t20:Int) (m5:Str) (m6:waB) (m7:waE) (t21:Int) (m:Str) (m2:waB) (m3:waE) (m4:waH)
def qeK:PSt:=stt 35 [(1,.str name),(4,.bptr 1 0),(8,.bptr 2 0),(12,sl qaV t12),(13,.int .i64 t13),(14,.int .i64 t14),(19,sl qcp t19),(20,.int .i64 t20),(21,.int .i64 t21)] [.dead,.cells [.str m,sl cS m2,sl qaI m3,sl qcp m4] [(1,9),(2,88),(3,63)],.cells [.str m5,sl cS m6,sl qaI m7,sl qcp t19] []] []
def qeO (o:(Int)⊕(Str×waB×waE×waH)):Exit:=match o with
 | (.inl _) => .ret
 | (.inr _) => .exit 2
def qdC (o:(Int)⊕(Str×waB×waE×waH)):PSt:=match o with
 | (.inl o) => stt 35 [(4,.bptr 1 0),(5,.int .i64 o),(6,.bool true)] [.dead,.cells [.str m5,sl cS m6,sl qaI m7,sl qcp t19] [],.cells [.str m5,sl cS m6,sl qaI m7,sl qcp t19] []] []
 | (.inr o) => stt 35 [(1,.str name),(4,.bptr 1 0),(12,sl qaV t12),(13,.int .i64 t13),(14,.int .i64 t14)] [.dead,.cells [.str o.1,sl cS o.2.1,sl qaI o.2.2.1,sl qcp o.2.2.2] [(1,9),(2,88),(3,63)],.cells [.str m5,sl cS m6,sl qaI m7,sl qcp t19] []] []
def qo4:Option ((Int×Str×waB×waE×waH)⊕((Int)⊕(Str×waB×waE×waH))) :=
 if (decide (t21 < t20)) = true then
  (idx t19 t21).bind fun x4 =>
  if (x4.Name == name) = true then
   some (.inr (.inl t21))
  else
   some (.inl (w64 (t21 + 1),m,m2,m3,m4))
 else
  some (.inr (.inr (m,m2,m3,m4)))
def qs6:Option ((Int)⊕(Str×waB×waE×waH)):=loop (fun (zz:Int×Str×waB×waE×waH) => qo4 name t19 t20 zz.1 zz.2.1 zz.2.2.1 zz.2.2.2.1 zz.2.2.2.2) (t21,m,m2,m3,m4)
theorem quM {y:(Int×Str×waB×waE×waH)⊕((Int)⊕(Str×waB×waE×waH))} (h:qo4 name t19 t20 t21 m m2 m3 m4 = some y) :
  Sat Pg GE 0 (cA b61 14303) (LQ (fun (zz:Int×Str×waB×waE×waH) => qeK name t12 t13 t14 t19 t20 m5 m6 m7 zz.1 zz.2.1 zz.2.2.1 zz.2.2.2.1 zz.2.2.2.2) qeO (qdC name t12 t13 t14 t19 m5 m6 m7) y) (qeK name t12 t13 t14 t19 t20 m5 m6 m7 t21 m m2 m3 m4):=by
 rcases ifs h with ⟨c3,h⟩ | ⟨c3,h⟩
 ·obtain ⟨x4,bx4,h⟩:=bnd h
  have p6:=fun {sc F} (r:PS sc F) => sg 0 c3 <| sv (sT59.ia (k := .i64) bx4) <| sv (qLq x4) <| sx pz63 <| sx (qJa x4) <| ss <| r
  rcases ifs h with ⟨c5,h⟩ | ⟨c5,h⟩
  ·obtain rfl:=lf h
   have z:=p6 <| sg 0 c5 <| sv (qHk (⟨m5,m6,m7,t19⟩:tData) []) <| sx (qtG (⟨m5,m6,m7,t19⟩:tData)) <| eFx 0 (qeO (.inl t21)) (qdC name t12 t13 t14 t19 m5 m6 m7 (.inl t21)) rfl (qbn (aI (qcH rfl) (aI trivial (aI trivial trivial)))) (aI trivial (aI (aI trivial (aI (up (qad clS m6)) (aI (up (qad qbx m7)) (aI (up (qad qm6 t19)) trivial)))) (aI (aI trivial (aI (up (qad clS m6)) (aI (up (qad qbx m7)) (aI (up (qad qm6 t19)) trivial)))) trivial)))
   exact qhP (A:=A61) mixed (by intro hx; cases hx) z (by kernel_rfl)
  ·obtain rfl:=lf h
   have z:=p6 <| sg 0 c5 <| eFx 0 .normal (qeK name t12 t13 t14 t19 t20 m5 m6 m7 (w64 (t21 + 1)) m m2 m3 m4) rfl (qbn (aI trivial (aI (qcH rfl) (aI (qcH rfl) (aI (up (qad qdm t12)) (aI trivial (aI trivial (aI (up (qad qm6 t19)) (aI trivial (aI trivial trivial)))))))))) (aI trivial (aI (aI trivial (aI (up (qad clS m2)) (aI (up (qad qbx m3)) (aI (up (qad qm6 m4)) trivial)))) (aI (aI trivial (aI (up (qad clS m6)) (aI (up (qad qbx m7)) (aI (up (qad qm6 t19)) trivial)))) trivial)))
   exact qa5 (A:=A61) mixed z (by kernel_rfl)
 ·obtain rfl:=lf h
  have z:=sg 0 c3 <| eF (qeO (.inr (m,m2,m3,m4))) (qdC name t12 t13 t14 t19 m5 m6 m7 (.inr (m,m2,m3,m4)))
  exact ovZ A61 (by intro hx; cases hx) z (by kernel_rfl)
theorem qnJ {x:(Int)⊕(Str×waB×waE×waH)} (h:qs6 name t19 t20 t21 m m2 m3 m4 = some x) :
  Sat Pg GE 0 (.loop (cA b61 14303)) (EX (qeO x) (qdC name t12 t13 t14 t19 m5 m6 m7 x)) (qeK name t12 t13 t14 t19 t20 m5 m6 m7 t21 m m2 m3 m4) :=
 Sat.loop (S:=fun (zz:Int×Str×waB×waE×waH) => qeK name t12 t13 t14 t19 t20 m5 m6 m7 zz.1 zz.2.1 zz.2.2.1 zz.2.2.2.1 zz.2.2.2.2) (ex:=qeO) (s:=(t21,m,m2,m3,m4)) h fun zz y hy => quM name t12 t13 t14 t19 t20 m5 m6 m7 zz.1 zz.2.1 zz.2.2.1 zz.2.2.2.1 zz.2.2.2.2 hy
end
section
variable (name:Str) (t12:(List tData)) (t13:Int) (t14:Int) (m:Str) (m2:waB) (m3:waE) (m4:waH)
def qeM:PSt:=stt 35 [(1,.str name),(4,.bptr 1 0),(12,sl qaV t12),(13,.int .i64 t13),(14,.int .i64 t14)] [.dead,.cells [.str m,sl cS m2,sl qaI m3,sl qcp m4] [(1,9),(2,88),(3,63)]] []
def qe6 (o:(Int×Str×waB×waE×waH)⊕(Str×waB×waE×waH)):Exit:=match o with
 | (.inl _) => .ret
 | (.inr _) => .exit 0
def qdF (o:(Int×Str×waB×waE×waH)⊕(Str×waB×waE×waH)):PSt:=match o with
 | (.inl o) => stt 35 [(4,.bptr 1 0),(5,.int .i64 o.1),(6,.bool true)] [.dead,.cells [.str o.2.1,sl cS o.2.2.1,sl qaI o.2.2.2.1,sl qcp o.2.2.2.2] []] []
 | (.inr o) => stt 35 [(4,.bptr 1 0)] [.dead,.cells [.str o.1,sl cS o.2.1,sl qaI o.2.2.1,sl qcp o.2.2.2] [(1,9),(2,88),(3,63)]] []
def qoG:Option ((Int×Str×waB×waE×waH)⊕((Int×Str×waB×waE×waH)⊕(Str×waB×waE×waH))) :=
 if (decide (t14 < t13)) = true then
  (idx t12 t14).bind fun x2 =>
  (qs6 name x2.Cons (x2.Cons.length:Int) 0 m m2 m3 m4).bind fun o7 => match o7 with
  | (.inl o7) =>
   some (.inr (.inl (o7,x2.Name,x2.Vars,x2.Preds,x2.Cons)))
  | (.inr o7) =>
   some (.inl (w64 (t14 + 1),o7.1,o7.2.1,o7.2.2.1,o7.2.2.2))
 else
  some (.inr (.inr (m,m2,m3,m4)))
def qtS:Option ((Int×Str×waB×waE×waH)⊕(Str×waB×waE×waH)):=loop (fun (zz:Int×Str×waB×waE×waH) => qoG name t12 t13 zz.1 zz.2.1 zz.2.2.1 zz.2.2.2.1 zz.2.2.2.2) (t14,m,m2,m3,m4)
theorem quX {y:(Int×Str×waB×waE×waH)⊕((Int×Str×waB×waE×waH)⊕(Str×waB×waE×waH))} (h:qoG name t12 t13 t14 m m2 m3 m4 = some y) :
  Sat Pg GE 0 (cA b61 55) (LQ (fun (zz:Int×Str×waB×waE×waH) => qeM name t12 t13 zz.1 zz.2.1 zz.2.2.1 zz.2.2.2.1 zz.2.2.2.2) qe6 (qdF) y) (qeM name t12 t13 t14 m m2 m3 m4):=by
 rcases ifs h with ⟨c1,h⟩ | ⟨c1,h⟩
 ·obtain ⟨x2,bx2,h⟩:=bnd h
  obtain ⟨o7,bo7,h⟩:=bnd h
  rcases o7 with o7 | o7
  ·obtain rfl:=lf h
   have z:=sg 0 c1 <| sv (sT50.ia (k := .i64) bx2) <| sv (qE8 x2) <| sx pz61 <| sx (qtG x2) <| ss <| svn (sT59.ln x2.Cons) <| spc (e := .ret) (s1:=qdC name t12 t13 t14 x2.Cons x2.Name x2.Vars x2.Preds (.inl o7)) (qnJ name t12 t13 t14 x2.Cons (x2.Cons.length:Int) x2.Name x2.Vars x2.Preds 0 m m2 m3 m4 bo7) <| eFx 0 (qe6 (.inl (o7,x2.Name,x2.Vars,x2.Preds,x2.Cons))) (qdF (.inl (o7,x2.Name,x2.Vars,x2.Preds,x2.Cons))) rfl (qbn (aI (qcH rfl) (aI trivial (aI trivial trivial)))) (aI trivial (aI (aI trivial (aI (up (qad clS x2.Vars)) (aI (up (qad qbx x2.Preds)) (aI (up (qad qm6 x2.Cons)) trivial)))) trivial))
   exact qhP (A:=A61) mixed (by intro hx; cases hx) z (by kernel_rfl)
  ·obtain rfl:=lf h
   have z:=sg 0 c1 <| sv (sT50.ia (k := .i64) bx2) <| sv (qE8 x2) <| sx pz61 <| sx (qtG x2) <| ss <| svn (sT59.ln x2.Cons) <| spc (e := .exit 2) (s1:=qdC name t12 t13 t14 x2.Cons x2.Name x2.Vars x2.Preds (.inr o7)) (qnJ name t12 t13 t14 x2.Cons (x2.Cons.length:Int) x2.Name x2.Vars x2.Preds 0 m m2 m3 m4 bo7) <| eFx 0 .normal (qeM name t12 t13 (w64 (t14 + 1)) o7.1 o7.2.1 o7.2.2.1 o7.2.2.2) rfl (qbn (aI trivial (aI (qcH rfl) (aI (up (qad qdm t12)) (aI trivial (aI trivial trivial)))))) (aI trivial (aI (aI trivial (aI (up (qad clS o7.2.1)) (aI (up (qad qbx o7.2.2.1)) (aI (up (qad qm6 o7.2.2.2)) trivial)))) trivial))
   exact qa5 (A:=A61) mixed z (by kernel_rfl)
 ·obtain rfl:=lf h
  have z:=sg 0 c1 <| eF (qe6 (.inr (m,m2,m3,m4))) (qdF (.inr (m,m2,m3,m4)))
  exact ovZ A61 (by intro hx; cases hx) z (by kernel_rfl)
theorem qnO {x:(Int×Str×waB×waE×waH)⊕(Str×waB×waE×waH)} (h:qtS name t12 t13 t14 m m2 m3 m4 = some x) :
  Sat Pg GE 0 (.loop (cA b61 55)) (EX (qe6 x) (qdF x)) (qeM name t12 t13 t14 m m2 m3 m4) :=
 Sat.loop (S:=fun (zz:Int×Str×waB×waE×waH) => qeM name t12 t13 zz.1 zz.2.1 zz.2.2.1 zz.2.2.2.1 zz.2.2.2.2) (ex:=qe6) (s:=(t14,m,m2,m3,m4)) h fun zz y hy => quX name t12 t13 zz.1 zz.2.1 zz.2.2.1 zz.2.2.2.1 zz.2.2.2.2 hy
end
def qzV (m:tModule) (name:Str):Option (tData×Int×Bool) :=
 (qtS name m.Datas (m.Datas.length:Int) 0 ([]:Str) ([]:List Str) ([]:List tVar) ([]:List tCon)).bind fun o8 => match o8 with
 | (.inl o8) =>
  some ((⟨o8.2.1,o8.2.2.1,o8.2.2.2.1,o8.2.2.2.2⟩:tData),o8.1,true)
 | (.inr o8) =>
  some ((⟨([]:Str),([]:List Str),([]:List tVar),([]:List tCon)⟩:tData),0,false)
theorem qBt {m:tModule} {name:Str} {r:tData×Int×Bool} (h:qzV m name = some r):CC Pg GE 61 [.agg (qcE m),.str name] (.tuple [.agg (qaV r.1),.int .i64 r.2.1,.bool r.2.2]) []:=by
 obtain ⟨o8,bo8,h⟩:=bnd h
 rcases o8 with o8 | o8
 ·obtain rfl:=lf h
  have z:=se (quW m) <| sx pz61 <| sv (qoH m) <| sv (qoY m) <| svn (sT50.ln m.Datas) <| spc (e := .ret) (s1:=qdF (.inl o8)) (qnO name m.Datas (m.Datas.length:Int) 0 ([]:Str) ([]:List Str) ([]:List tVar) ([]:List tCon) bo8) <| en (aI (vbn PVal.tuple (qyx (qBU (⟨o8.2.1,o8.2.2.1,o8.2.2.2.1,o8.2.2.2.2⟩:tData)) (qyx (rP (.int .i64 o8.1)) (qyx (rP (.bool true)) (rfl:([]:List PVal) = []))))) <| (aI (qdm (⟨o8.2.1,o8.2.2.1,o8.2.2.2.1,o8.2.2.2.2⟩:tData)) (aI trivial (aI trivial trivial))))
  exact cvZ A61 Tryz.call61 Tryz.func61 (c:=b61) rfl (aI (qme m) (aI trivial trivial)) z (by kernel_rfl)
 ·obtain rfl:=lf h
  have z:=se (quW m) <| sx pz61 <| sv (qoH m) <| sv (qoY m) <| svn (sT50.ln m.Datas) <| spc (e := .exit 0) (s1:=qdF (.inr o8)) (qnO name m.Datas (m.Datas.length:Int) 0 ([]:Str) ([]:List Str) ([]:List tVar) ([]:List tCon) bo8) <| sb (qGu ) (qGI ) <| sy (qnI (⟨([]:Str),([]:List Str),([]:List tVar),([]:List tCon)⟩:tData)) <| en (aI (vbn PVal.tuple (qyx (qBU (⟨([]:Str),([]:List Str),([]:List tVar),([]:List tCon)⟩:tData)) (qyx (rP (.int .i64 0)) (qyx (rP (.bool false)) (rfl:([]:List PVal) = []))))) <| (aI (qdm (⟨([]:Str),([]:List Str),([]:List tVar),([]:List tCon)⟩:tData)) (aI trivial (aI trivial trivial))))
  exact cvZ A61 Tryz.call61 Tryz.func61 (c:=b61) rfl (aI (qme m) (aI trivial trivial)) z (by kernel_rfl)
abbrev qbK:=(tType→tData→waA→Option (tType))
abbrev qdp (R:qbK):Prop := ∀ (t:tType) (c:tData) (c2:waA) (r:tType),R t c c2 = some r→CC Pg GE 51 [.agg (qac t),.func (.func 64) [] [.eptr (qaV c),.eptr ((cL qaa) c2)]] (.agg (qac r)) [(2,33)]
abbrev qc1:=(tPred→waE→waA→Option (tPred))
abbrev qfS (R:qc1):Prop := ∀ (p:tPred) (params:waE) (preds:waA) (r:tPred),R p params preds = some r→CC Pg GE 65 [.agg (qaa p),sl qaI params,sl qaa preds] (.agg (qaa r)) [(3,31)]
noncomputable def b98:Code:=Tryz.f98.body.getD .skip
def A98:List Nat:=[]
def qqF (R16:qc1) (k:tPred) (a:waE) (a2:waA):Option (tPred) :=
 (R16 k a a2).bind fun r1 =>
 some r1
theorem qu8 (R16:qc1) (hR16:qfS R16) {k:tPred} {a:waE} {a2:waA} {r:tPred} (h:qqF R16 k a a2 = some r):CC Pg GE 98 [.agg (qaa k),.eptr ((cL qaI) a),.eptr ((cL qaa) a2)] (.agg (qaa r)) [(3,31)]:=by
 obtain ⟨r1,br1,h⟩:=bnd h
 obtain rfl:=lf h
 have z:=se (qaE k) <| sx pz31 <| sv (qaj k) <| sv (qa9 sc36 (sl qaI a) []) <| sv (qa9 sc29 (sl qaa a2) []) <| sca (hR16 _ _ _ _ br1) <| sy (qao r1) <| en (aI (qaT r1) <| aI (qab r1) <| rT)
 exact cvZ A98 Tryz.call98 Tryz.func98 (c:=b98) rfl (aI (qab k) (aI (clLs qbx a) (aI (clLs qab a2) trivial))) z (by kernel_rfl)
noncomputable def b56:Code:=Tryz.f56.body.getD .skip
def A56:List Nat:=[14,21]
section
variable (R16:qc1) (v:waE) (v2:waA) (t8:waA) (t9:Int) (out:waA) (t10:Int)
def qb7:PSt:=stt 22 [(1,.func (.func 98) [] [.eptr ((cL qaI) v),.eptr ((cL qaa) v2)]),(5,sl qaa out),(8,sl qaa t8),(9,.int .i64 t9),(10,.int .i64 t10)] [] [((5,0),31)]
def qey (o:waA):PSt:=stt 22 [(5,sl qaa o)] [] [((5,0),31)]
def qh9:Option ((waA×Int)⊕((waA))) :=
 if (decide (t10 < t9)) = true then
  (idx t8 t10).bind fun x2 =>
  (qqF R16 x2 v v2).bind fun r3 =>
  (app out ([r3]:List tPred)).bind fun l4 =>
  some (.inl (l4,w64 (t10 + 1)))
 else
  some (.inr out)
def qjz:Option ((waA)):=loop (fun (zz:waA×Int) => qh9 R16 v v2 t8 t9 zz.1 zz.2) (out,t10)
theorem qlW (hR16:qfS R16) {y:(waA×Int)⊕((waA))} (h:qh9 R16 v v2 t8 t9 out t10 = some y) :
  Sat Pg GE 0 (cA b56 119) (LQ (fun (zz:waA×Int) => qb7 v v2 t8 t9 zz.1 zz.2) (fun _ => .exit 0) (qey) y) (qb7 v v2 t8 t9 out t10):=by
 rcases ifs h with ⟨c1,h⟩ | ⟨c1,h⟩
 ·obtain ⟨x2,bx2,h⟩:=bnd h
  obtain ⟨r3,br3,h⟩:=bnd h
  obtain ⟨l4,bl4,h⟩:=bnd h
  obtain rfl:=lf h
  have z:=sg 0 c1 <| sv (sT29.ia (k := .i64) bx2) <| sv (qaj x2) <| sx pz31 <| sx (qaB x2) <| sv (qax x2 []) <| sca (qu8 R16 hR16 br3) <| sv (sT29.mk' (v:=qbk) qaL ([r3]:List tPred) 1 (by kernel_rfl)) <| sv (sT29.ap bl4) <| eFx 0 .normal (qb7 v v2 t8 t9 l4 (w64 (t10 + 1))) rfl (qbn (aI (aI trivial (aI (qbw (clLs qbx v)) (aI (qbw (clLs qab v2)) trivial))) (aI (up (qad qab l4)) (aI (up (qad qab t8)) (aI trivial (aI trivial trivial)))))) trivial
  exact qa5 (A:=A56) mixed z (by kernel_rfl)
 ·obtain rfl:=lf h
  have z:=sg 0 c1 <| eF (.exit 0) (qey out)
  exact ovZ A56 (by intro hx; cases hx) z (by kernel_rfl)
theorem qno (hR16:qfS R16) {x:(waA)} (h:qjz R16 v v2 t8 t9 out t10 = some x) :
  Sat Pg GE 0 (.loop (cA b56 119)) (EX (.exit 0) (qey x)) (qb7 v v2 t8 t9 out t10) :=
 Sat.loop (S:=fun (zz:waA×Int) => qb7 v v2 t8 t9 zz.1 zz.2) (ex:=(fun _ => .exit 0)) (s:=(out,t10)) h fun zz y hy => qlW R16 v v2 t8 t9 zz.1 zz.2 hR16 hy
end
def qlV (R16:qc1) (a:waA) (c:waE) (c2:waA):Option (waA) :=
 (qjz R16 c c2 a (a.length:Int) ([]:List tPred) 0).bind fun o5 =>
 some o5
theorem qqy (R16:qc1) (hR16:qfS R16) {a:waA} {c:waE} {c2:waA} {r:waA} (h:qlV R16 a c c2 = some r):CC Pg GE 56 [sl qaa a,.func (.func 98) [] [.eptr ((cL qaI) c),.eptr ((cL qaa) c2)]] (sl qaa r) [(0,31)]:=by
 obtain ⟨o5,bo5,h⟩:=bnd h
 obtain rfl:=lf h
 have z:=svn (sT29.ln a) <| spc (qno R16 c c2 a (a.length:Int) ([]:List tPred) 0 hR16 bo5) <| en (aI (rP (sl qaa o5)) <| (qad qab o5))
 exact cvZ A56 Tryz.call56 Tryz.func56 (c:=b56) rfl (aI (qad qab a) (aI (aI trivial (aI (clLs qbx c) (aI (clLs qab c2) trivial))) trivial)) z (by kernel_rfl)
noncomputable def b100:Code:=Tryz.f100.body.getD .skip
def A100:List Nat:=[]
def qqZ (v:tVar) (a:tPred):Option (Bool) :=
 some (v.Name == a.Name)
theorem qun {v:tVar} {a:tPred} {r:Bool} (h:qqZ v a = some r):CC Pg GE 100 [.agg (qaI v),.eptr (qaa a)] (.bool r) []:=by
 obtain rfl:=lf h
 have z:=se (qIu v) <| sv (qn9 v) <| sv (qr5 v) <| sv (qaH a) <| sv (qaO a) <| en (aI (rP (.bool (v.Name == a.Name))) <| trivial)
 exact cvZ A100 Tryz.call100 Tryz.func100 (c:=b100) rfl (aI (qbx v) (aI (qab a) trivial)) z (by kernel_rfl)
noncomputable def b99:Code:=Tryz.f99.body.getD .skip
def A99:List Nat:=[10,17]
section
variable (s:waE) (v:tPred) (t7:Int) (t8:Int)
def qcx:PSt:=stt 19 [(0,sl qaI s),(1,.func (.func 100) [] [.eptr (qaa v)]),(7,.int .i64 t7),(8,.int .i64 t8)] [] []
def qcG (o:(Int)⊕(Unit)):Exit:=match o with
 | (.inl _) => .ret
 | (.inr _) => .exit 0
def qbT (o:(Int)⊕(Unit)):PSt:=match o with
 | (.inl o) => stt 19 [(4,.int .i64 o)] [] []
 | (.inr o) => stt 19 [] [] []
def qiS:Option ((Int)⊕((Int)⊕(Unit))) :=
 if (decide (t8 < t7)) = true then
  (idx s t8).bind fun x2 =>
  (qqZ x2 v).bind fun r3 =>
  if r3 = true then
   some (.inr (.inl t8))
  else
   some (.inl (w64 (t8 + 1)))
 else
  some (.inr (.inr ()))
def qki:Option ((Int)⊕(Unit)):=loop (fun (zz:Int) => qiS s v t7 zz) t8
theorem qnj {y:(Int)⊕((Int)⊕(Unit))} (h:qiS s v t7 t8 = some y) :
  Sat Pg GE 0 (cA b99 55) (LQ (fun (zz:Int) => qcx s v t7 zz) qcG (qbT) y) (qcx s v t7 t8):=by
 rcases ifs h with ⟨c1,h⟩ | ⟨c1,h⟩
 ·obtain ⟨x2,bx2,h⟩:=bnd h
  obtain ⟨r3,br3,h⟩:=bnd h
  have p5:=fun {sc F} (r:PS sc F) => sg 0 c1 <| sv (sT36.ia (k := .i64) bx2) <| sv (qBx x2) <| sca (qun br3) <| r
  rcases ifs h with ⟨c4,h⟩ | ⟨c4,h⟩
  ·obtain rfl:=lf h
   have z:=p5 <| sg 0 c4 <| eF (qcG (.inl t8)) (qbT (.inl t8))
   exact ovZ A99 (by intro hx; cases hx) z (by kernel_rfl)
  ·obtain rfl:=lf h
   have z:=p5 <| sg 0 c4 <| eF .normal (qcx s v t7 (w64 (t8 + 1)))
   exact nxZ A99 z (by kernel_rfl)
 ·obtain rfl:=lf h
  have z:=sg 0 c1 <| eF (qcG (.inr ())) (qbT (.inr ()))
  exact ovZ A99 (by intro hx; cases hx) z (by kernel_rfl)
theorem qh0 {x:(Int)⊕(Unit)} (h:qki s v t7 t8 = some x) :
  Sat Pg GE 0 (.loop (cA b99 55)) (EX (qcG x) (qbT x)) (qcx s v t7 t8) :=
 Sat.loop (S:=fun (zz:Int) => qcx s v t7 zz) (ex:=qcG) (s:=t8) h fun zz y hy => qnj s v t7 zz hy
end
def qnK (s:waE) (c:tPred):Option (Int) :=
 (qki s c (s.length:Int) 0).bind fun o6 => match o6 with
 | (.inl o6) =>
  some o6
 | (.inr o6) =>
  some (-1)
theorem qrC {s:waE} {c:tPred} {r:Int} (h:qnK s c = some r):CC Pg GE 99 [sl qaI s,.func (.func 100) [] [.eptr (qaa c)]] (.int .i64 r) []:=by
 obtain ⟨o6,bo6,h⟩:=bnd h
 rcases o6 with o6 | o6
 ·obtain rfl:=lf h
  have z:=svn (sT36.ln s) <| spc (e := .ret) (s1:=qbT (.inl o6)) (qh0 s c (s.length:Int) 0 bo6) <| en (aI (rP (.int .i64 o6)) <| trivial)
  exact cvZ A99 Tryz.call99 Tryz.func99 (c:=b99) rfl (aI (qad qbx s) (aI (aI trivial (aI (qab c) trivial)) trivial)) z (by kernel_rfl)
 ·obtain rfl:=lf h
  have z:=svn (sT36.ln s) <| spc (e := .exit 0) (s1:=qbT (.inr o6)) (qh0 s c (s.length:Int) 0 bo6) <| en (aI (rP (.int .i64 (-1))) <| trivial)
  exact cvZ A99 Tryz.call99 Tryz.func99 (c:=b99) rfl (aI (qad qbx s) (aI (aI trivial (aI (qab c) trivial)) trivial)) z (by kernel_rfl)
abbrev qiw:=(tPred→tPred→Option (Bool))
abbrev qmJ (R:qiw):Prop := ∀ (a:tPred) (a2:tPred) (r:Bool),R a a2 = some r→CC Pg GE 101 [.agg (qaa a),.agg (qaa a2)] (.bool r) []
noncomputable def b127:Code:=Tryz.f127.body.getD .skip
def A127:List Nat:=[17]
section
variable (R21:qiw) (v:waA) (v2:waA) (t14:Int) (t15:Int)
def qeL:PSt:=stt 30 [(0,sl qaa v),(1,sl qaa v2),(2,.func (.func 101) [] []),(14,.int .i64 t14),(15,.int .i64 t15)] [] []
def qeS (o:(Unit)⊕(Unit)):Exit:=match o with
 | (.inl _) => .ret
 | (.inr _) => .exit 0
def qdU (o:(Unit)⊕(Unit)):PSt:=match o with
 | (.inl o) => stt 30 [(6,.bool false)] [] []
 | (.inr o) => stt 30 [] [] []
def qoD:Option ((Int)⊕((Unit)⊕(Unit))) :=
 if (decide (t15 < t14)) = true then
  (idx v t15).bind fun x4 =>
  (idx v2 t15).bind fun x5 =>
  (R21 x4 x5).bind fun r6 =>
  if (!r6) = true then
   some (.inr (.inl ()))
  else
   some (.inl (w64 (t15 + 1)))
 else
  some (.inr (.inr ()))
def qtb:Option ((Unit)⊕(Unit)):=loop (fun (zz:Int) => qoD R21 v v2 t14 zz) t15
theorem quj (hR21:qmJ R21) {y:(Int)⊕((Unit)⊕(Unit))} (h:qoD R21 v v2 t14 t15 = some y) :
  Sat Pg GE 0 (cA b127 119) (LQ (fun (zz:Int) => qeL v v2 t14 zz) qeS (qdU) y) (qeL v v2 t14 t15):=by
 rcases ifs h with ⟨c3,h⟩ | ⟨c3,h⟩
 ·obtain ⟨x4,bx4,h⟩:=bnd h
  obtain ⟨x5,bx5,h⟩:=bnd h
  obtain ⟨r6,br6,h⟩:=bnd h
  have p8:=fun {sc F} (r:PS sc F) => sg 0 c3 <| sdr [0,0,0,6,14,0,0,96,224,511,1023] <| sv (sT29.ia (k := .i64) bx4) <| sv (qaj x4) <| sv (sT29.ia (k := .i64) bx5) <| sv (qaj x5) <| sca (hR21 _ _ _ br6) <| r
  rcases ifs h with ⟨c7,h⟩ | ⟨c7,h⟩
  ·obtain rfl:=lf h
   have z:=p8 <| sg 0 c7 <| eF (qeS (.inl ())) (qdU (.inl ()))
   exact ovZ A127 (by intro hx; cases hx) z (by kernel_rfl)
  ·obtain rfl:=lf h
   have z:=p8 <| sg 0 c7 <| eF .normal (qeL v v2 t14 (w64 (t15 + 1)))
   exact nxZ A127 z (by kernel_rfl)
 ·obtain rfl:=lf h
  have z:=sg 0 c3 <| eF (qeS (.inr ())) (qdU (.inr ()))
  exact ovZ A127 (by intro hx; cases hx) z (by kernel_rfl)
theorem qnQ (hR21:qmJ R21) {x:(Unit)⊕(Unit)} (h:qtb R21 v v2 t14 t15 = some x) :
  Sat Pg GE 0 (.loop (cA b127 119)) (EX (qeS x) (qdU x)) (qeL v v2 t14 t15) :=
 Sat.loop (S:=fun (zz:Int) => qeL v v2 t14 zz) (ex:=qeS) (s:=t15) h fun zz y hy => quj R21 v v2 t14 zz hR21 hy
end
def qzC (R21:qiw) (a:waA) (a2:waA):Option (Bool) :=
 if ((a.length:Int) != (a2.length:Int)) = true then
  some false
 else
  (qtb R21 a a2 (a.length:Int) 0).bind fun o9 => match o9 with
  | (.inl o9) =>
   some false
  | (.inr o9) =>
   some true
theorem qAZ (R21:qiw) (hR21:qmJ R21) {a:waA} {a2:waA} {r:Bool} (h:qzC R21 a a2 = some r):CC Pg GE 127 [sl qaa a,sl qaa a2,.func (.func 101) [] []] (.bool r) []:=by
 have p2:=fun {sc F} (r:PS sc F) => svn (sT29.ln a) <| svn (sT29.ln a2) <| r
 rcases ifs h with ⟨c1,h⟩ | ⟨c1,h⟩
 ·obtain rfl:=lf h
  have z:=p2 <| sg 0 c1 <| en (aI (rP (.bool false)) <| trivial)
  exact cvZ A127 Tryz.call127 Tryz.func127 (c:=b127) rfl (aI (qad qab a) (aI (qad qab a2) (aI (aI trivial trivial) trivial))) z (by kernel_rfl)
 ·obtain ⟨o9,bo9,h⟩:=bnd h
  rcases o9 with o9 | o9
  ·obtain rfl:=lf h
   have z:=p2 <| sg 0 c1 <| svn (sT29.ln a) <| spc (e := .ret) (s1:=qdU (.inl o9)) (qnQ R21 a a2 (a.length:Int) 0 hR21 bo9) <| en (aI (rP (.bool false)) <| trivial)
   exact cvZ A127 Tryz.call127 Tryz.func127 (c:=b127) rfl (aI (qad qab a) (aI (qad qab a2) (aI (aI trivial trivial) trivial))) z (by kernel_rfl)
  ·obtain rfl:=lf h
   have z:=p2 <| sg 0 c1 <| svn (sT29.ln a) <| spc (e := .exit 0) (s1:=qdU (.inr o9)) (qnQ R21 a a2 (a.length:Int) 0 hR21 bo9) <| en (aI (rP (.bool true)) <| trivial)
   exact cvZ A127 Tryz.call127 Tryz.func127 (c:=b127) rfl (aI (qad qab a) (aI (qad qab a2) (aI (aI trivial trivial) trivial))) z (by kernel_rfl)
noncomputable def b101:Code:=Tryz.f101.body.getD .skip
def A101:List Nat:=[]
def qxt (R21:qiw) (a:tPred) (a2:tPred):Option (Bool) :=
 if (a.Op == a2.Op) = true then
  if (a.Name == a2.Name) = true then
   if (a.N == a2.N) = true then
    (qzC R21 a.Kids a2.Kids).bind fun r7 =>
    some r7
   else
    some false
  else
   some false
 else
  some false
theorem qAE (R21:qiw) (hR21:qmJ R21) {a:tPred} {a2:tPred} {r:Bool} (h:qxt R21 a a2 = some r):CC Pg GE 101 [.agg (qaa a),.agg (qaa a2)] (.bool r) []:=by
 have p2:=fun {sc F} (r:PS sc F) => se (qaE a) <| se (qaE a2) <| sv (qaw a) <| sv (qau a) <| sv (qaw a2) <| sv (qau a2) <| r
 rcases ifs h with ⟨c1,h⟩ | ⟨c1,h⟩
 ·have p4:=fun {sc F} (r:PS sc F) => p2 <| sg 6 c1 <| sv (qaH a) <| sv (qaO a) <| sv (qaH a2) <| sv (qaO a2) <| r
  rcases ifs h with ⟨c3,h⟩ | ⟨c3,h⟩
  ·have p6:=fun {sc F} (r:PS sc F) => p4 <| sg 13 c3 <| sv (qbc a) <| sv (qbq a) <| sv (qbc a2) <| sv (qbq a2) <| r
   rcases ifs h with ⟨c5,h⟩ | ⟨c5,h⟩
   ·obtain ⟨r7,br7,h⟩:=bnd h
    obtain rfl:=lf h
    have z:=p6 <| sg 20 c5 <| sv (qat a) <| sv (qav a) <| sv (qat a2) <| sv (qav a2) <| sca (qAZ R21 hR21 br7) <| en (aI (rP (.bool r7)) <| trivial)
    exact cvZ A101 Tryz.call101 Tryz.func101 (c:=b101) rfl (aI (qab a) (aI (qab a2) trivial)) z (by kernel_rfl)
   ·obtain rfl:=lf h
    have z:=p6 <| sg 20 c5 <| en (aI (rP (.bool false)) <| trivial)
    exact cvZ A101 Tryz.call101 Tryz.func101 (c:=b101) rfl (aI (qab a) (aI (qab a2) trivial)) z (by kernel_rfl)
  ·obtain rfl:=lf h
   have z:=p4 <| sg 13 c3 <| en (aI (rP (.bool false)) <| trivial)
   exact cvZ A101 Tryz.call101 Tryz.func101 (c:=b101) rfl (aI (qab a) (aI (qab a2) trivial)) z (by kernel_rfl)
 ·obtain rfl:=lf h
  have z:=p2 <| sg 6 c1 <| en (aI (rP (.bool false)) <| trivial)
  exact cvZ A101 Tryz.call101 Tryz.func101 (c:=b101) rfl (aI (qab a) (aI (qab a2) trivial)) z (by kernel_rfl)
def qxV:((tPred×tPred)→Option (Bool))→(tPred×tPred)→Option (Bool):=fun (rec:(tPred×tPred)→Option (Bool)) (x:tPred×tPred) => qxt (fun a a2 => rec (a,a2)) x.1 x.2
def qmh (a:tPred) (a2:tPred):Option (Bool):=fixE (qxV) (a,a2)
theorem qi1 {a:tPred} {a2:tPred} {r:Bool} (h:qmh a a2 = some r):CC Pg GE 101 [.agg (qaa a),.agg (qaa a2)] (.bool r) [] :=
 qbo (F:=qxV) (M:=fun (x:tPred×tPred) (r:Bool) => CC Pg GE 101 [.agg (qaa x.1),.agg (qaa x.2)] (.bool r) []) (fun rec hrec x r h => qAE _ (fun a a2 r h => hrec (a,a2) r h) h) h
abbrev qhQ:=(tPred→waB→waA→Option (tPred))
abbrev qkb (R:qhQ):Prop := ∀ (p:tPred) (a:waB) (a2:waA) (r:tPred),R p a a2 = some r→CC Pg GE 128 [.agg (qaa p),sl cS a,sl qaa a2] (.agg (qaa r)) [(3,31)]
noncomputable def b108:Code:=Tryz.f108.body.getD .skip
def A108:List Nat:=[10,17]
section
variable (s:waB) (v:Str) (t7:Int) (t8:Int)
def qdK:PSt:=stt 19 [(0,sl cS s),(1,.str v),(7,.int .i64 t7),(8,.int .i64 t8)] [] []
def qdJ (o:(Int)⊕(Unit)):Exit:=match o with
 | (.inl _) => .ret
 | (.inr _) => .exit 0
def qc7 (o:(Int)⊕(Unit)):PSt:=match o with
 | (.inl o) => stt 19 [(4,.int .i64 o)] [] []
 | (.inr o) => stt 19 [] [] []
def qcj:Option ((Int)⊕((Int)⊕(Unit))) :=
 if (decide (t8 < t7)) = true then
  (idx s t8).bind fun x2 =>
  if (v == x2) = true then
   some (.inr (.inl t8))
  else
   some (.inl (w64 (t8 + 1)))
 else
  some (.inr (.inr ()))
def qj9:Option ((Int)⊕(Unit)):=loop (fun (zz:Int) => qcj s v t7 zz) t8
theorem qr3 {y:(Int)⊕((Int)⊕(Unit))} (h:qcj s v t7 t8 = some y) :
  Sat Pg GE 0 (cA b108 55) (LQ (fun (zz:Int) => qdK s v t7 zz) qdJ (qc7) y) (qdK s v t7 t8):=by
 rcases ifs h with ⟨c1,h⟩ | ⟨c1,h⟩
 ·obtain ⟨x2,bx2,h⟩:=bnd h
  have p4:=fun {sc F} (r:PS sc F) => sg 0 c1 <| sv (sT22.ia (k := .i64) bx2) <| sv (qa9 sc9 (.str x2) []) <| r
  rcases ifs h with ⟨c3,h⟩ | ⟨c3,h⟩
  ·obtain rfl:=lf h
   have z:=p4 <| sg 0 c3 <| eF (qdJ (.inl t8)) (qc7 (.inl t8))
   exact ovZ A108 (by intro hx; cases hx) z (by kernel_rfl)
  ·obtain rfl:=lf h
   have z:=p4 <| sg 0 c3 <| eF .normal (qdK s v t7 (w64 (t8 + 1)))
   exact nxZ A108 z (by kernel_rfl)
 ·obtain rfl:=lf h
  have z:=sg 0 c1 <| eF (qdJ (.inr ())) (qc7 (.inr ()))
  exact ovZ A108 (by intro hx; cases hx) z (by kernel_rfl)
theorem qkR {x:(Int)⊕(Unit)} (h:qj9 s v t7 t8 = some x) :
  Sat Pg GE 0 (.loop (cA b108 55)) (EX (qdJ x) (qc7 x)) (qdK s v t7 t8) :=
 Sat.loop (S:=fun (zz:Int) => qdK s v t7 zz) (ex:=qdJ) (s:=t8) h fun zz y hy => qr3 s v t7 zz hy
end
def qje (s:waB) (v:Str):Option (Int) :=
 (qj9 s v (s.length:Int) 0).bind fun o5 => match o5 with
 | (.inl o5) =>
  some o5
 | (.inr o5) =>
  some (-1)
theorem qoc {s:waB} {v:Str} {r:Int} (h:qje s v = some r):CC Pg GE 108 [sl cS s,.str v] (.int .i64 r) []:=by
 obtain ⟨o5,bo5,h⟩:=bnd h
 rcases o5 with o5 | o5
 ·obtain rfl:=lf h
  have z:=svn (sT22.ln s) <| spc (e := .ret) (s1:=qc7 (.inl o5)) (qkR s v (s.length:Int) 0 bo5) <| en (aI (rP (.int .i64 o5)) <| trivial)
  exact cvZ A108 Tryz.call108 Tryz.func108 (c:=b108) rfl (aI (qad clS s) (aI trivial trivial)) z (by kernel_rfl)
 ·obtain rfl:=lf h
  have z:=svn (sT22.ln s) <| spc (e := .exit 0) (s1:=qc7 (.inr o5)) (qkR s v (s.length:Int) 0 bo5) <| en (aI (rP (.int .i64 (-1))) <| trivial)
  exact cvZ A108 Tryz.call108 Tryz.func108 (c:=b108) rfl (aI (qad clS s) (aI trivial trivial)) z (by kernel_rfl)
noncomputable def b143:Code:=Tryz.f143.body.getD .skip
def A143:List Nat:=[]
def quJ (a:waB) (s:Str):Option (Int) :=
 (qje a s).bind fun r1 =>
 some r1
theorem qAM {a:waB} {s:Str} {r:Int} (h:quJ a s = some r):CC Pg GE 143 [sl cS a,.str s] (.int .i64 r) []:=by
 obtain ⟨r1,br1,h⟩:=bnd h
 obtain rfl:=lf h
 have z:=sca (qoc br1) <| en (aI (rP (.int .i64 r1)) <| trivial)
 exact cvZ A143 Tryz.call143 Tryz.func143 (c:=b143) rfl (aI (qad clS a) (aI trivial trivial)) z (by kernel_rfl)
abbrev qjL:=(tPred→Option (tPred))
abbrev qmx (R:qjL):Prop := ∀ (p:tPred) (r:tPred),R p = some r→CC Pg GE 105 [.agg (qaa p)] (.agg (qaa r)) [(3,31)]
noncomputable def b105:Code:=Tryz.f105.body.getD .skip
def A105:List Nat:=[21]
section
variable (R27:qjL) (t14:waA) (t15:Int) (m:waA) (m2:Int) (m3:Str) (m4:Int) (t16:Int) (m5:waA)
def qeb:PSt:=stt 29 [(2,.bptr 1 0),(3,.bptr 2 0),(14,sl qaa t14),(15,.int .i64 t15),(16,.int .i64 t16)] [.dead,.cells [.int .i64 0,.str ([]:Str),.int .i64 0,sl qaa m] [(3,31)],.cells [.int .i64 m2,.str m3,.int .i64 m4,sl qaa m5] [(3,31)]] []
def qjx (o:waA):PSt:=stt 29 [(2,.bptr 1 0),(3,.bptr 2 0)] [.dead,.cells [.int .i64 0,.str ([]:Str),.int .i64 0,sl qaa m] [(3,31)],.cells [.int .i64 m2,.str m3,.int .i64 m4,sl qaa o] [(3,31)]] []
def qgf:Option ((Int×waA)⊕((waA))) :=
 if (decide (t16 < t15)) = true then
  (idx t14 t16).bind fun x2 =>
  (R27 x2).bind fun r3 =>
  (app m5 ([r3]:List tPred)).bind fun l4 =>
  some (.inl (w64 (t16 + 1),l4))
 else
  some (.inr m5)
def qlu:Option ((waA)):=loop (fun (zz:Int×waA) => qgf R27 t14 t15 zz.1 zz.2) (t16,m5)
theorem qsF (hR27:qmx R27) {y:(Int×waA)⊕((waA))} (h:qgf R27 t14 t15 t16 m5 = some y) :
  Sat Pg GE 0 (cA b105 119) (LQ (fun (zz:Int×waA) => qeb t14 t15 m m2 m3 m4 zz.1 zz.2) (fun _ => .exit 0) (qjx m m2 m3 m4) y) (qeb t14 t15 m m2 m3 m4 t16 m5):=by
 rcases ifs h with ⟨c1,h⟩ | ⟨c1,h⟩
 ·obtain ⟨x2,bx2,h⟩:=bnd h
  obtain ⟨r3,br3,h⟩:=bnd h
  obtain ⟨l4,bl4,h⟩:=bnd h
  obtain rfl:=lf h
  have z:=sg 0 c1 <| sv (sT29.ia (k := .i64) bx2) <| sv (qaj x2) <| sx pz31 <| sx (qaB x2) <| sdr [0,1,0,4,12,31,63,127] <| sv (qax x2 []) <| sca (hR27 _ _ br3) <| sv (sT29.mk' (v:=qbk) qaL ([r3]:List tPred) 1 (by kernel_rfl)) <| sv (sT29.ap bl4) <| ssf (rfl:qaY (sl qaa l4) = some [sl qaa l4]) <| eFx 0 .normal (qeb t14 t15 m m2 m3 m4 (w64 (t16 + 1)) l4) rfl (qbn (aI (qcH rfl) (aI (qcH rfl) (aI (up (qad qab t14)) (aI trivial (aI trivial trivial)))))) (aI trivial (aI (aI trivial (aI trivial (aI trivial (aI (up (qad qab m)) trivial)))) (aI (aI trivial (aI trivial (aI trivial (aI (up (qad qab l4)) trivial)))) trivial)))
  exact qa5 (A:=A105) mixed z (by kernel_rfl)
 ·obtain rfl:=lf h
  have z:=sg 0 c1 <| eF (.exit 0) (qjx m m2 m3 m4 m5)
  exact ovZ A105 (by intro hx; cases hx) z (by kernel_rfl)
theorem qua (hR27:qmx R27) {x:(waA)} (h:qlu R27 t14 t15 t16 m5 = some x) :
  Sat Pg GE 0 (.loop (cA b105 119)) (EX (.exit 0) (qjx m m2 m3 m4 x)) (qeb t14 t15 m m2 m3 m4 t16 m5) :=
 Sat.loop (S:=fun (zz:Int×waA) => qeb t14 t15 m m2 m3 m4 zz.1 zz.2) (ex:=(fun _ => .exit 0)) (s:=(t16,m5)) h fun zz y hy => qsF R27 t14 t15 m m2 m3 m4 zz.1 zz.2 hR27 hy
end
def qns (R27:qjL) (p:tPred):Option (tPred) :=
 (qlu R27 p.Kids (p.Kids.length:Int) 0 ([]:List tPred)).bind fun o5 =>
 some (⟨p.Op,p.Name,p.N,o5⟩:tPred)
theorem qym (R27:qjL) (hR27:qmx R27) {p:tPred} {r:tPred} (h:qns R27 p = some r):CC Pg GE 105 [.agg (qaa p)] (.agg (qaa r)) [(3,31)]:=by
 obtain ⟨o5,bo5,h⟩:=bnd h
 obtain rfl:=lf h
 have z:=se (qaE p) <| sx pz31 <| sv (qaw p) <| sv (qau p) <| sv (qaH p) <| sv (qaO p) <| sv (qbc p) <| sv (qbq p) <| sb (qfP p.Op p.Name p.N) (qf1 p.Op p.Name p.N) <| sx pz31 <| sy (qao (⟨p.Op,p.Name,p.N,([]:List tPred)⟩:tPred)) <| sv (qat p) <| sv (qav p) <| svn (sT29.ln p.Kids) <| spc (qua R27 p.Kids (p.Kids.length:Int) ([]:List tPred) p.Op p.Name p.N 0 ([]:List tPred) hR27 bo5) <| sz (qax (⟨p.Op,p.Name,p.N,o5⟩:tPred) []) <| sy (qao (⟨p.Op,p.Name,p.N,o5⟩:tPred)) <| en (aI (qaT (⟨p.Op,p.Name,p.N,o5⟩:tPred)) <| aI (qab (⟨p.Op,p.Name,p.N,o5⟩:tPred)) <| rT)
 exact cvZ A105 Tryz.call105 Tryz.func105 (c:=b105) rfl (aI (qab p) trivial) z (by kernel_rfl)
def qjM:((tPred)→Option (tPred))→(tPred)→Option (tPred):=fun (rec:tPred→Option (tPred)) (x:tPred) => qns (fun p => rec p) x
def qgr (p:tPred):Option (tPred):=fixE (qjM) p
theorem qf2 {p:tPred} {r:tPred} (h:qgr p = some r):CC Pg GE 105 [.agg (qaa p)] (.agg (qaa r)) [(3,31)] :=
 qbo (F:=qjM) (M:=fun (x:tPred) (r:tPred) => CC Pg GE 105 [.agg (qaa x)] (.agg (qaa r)) [(3,31)]) (fun rec hrec x r h => qym _ (fun p r h => hrec p r h) h) h
end Go.Proofs.YtgldgpdhblndkaaGreatDoor
