/-
  WHAT IS PROVED: parts of the proof, put together by a program out of smaller texts, their own names made short (G1). Conditions: none.
-/
import Derived.Test.YtgldgpdhblndkaaGreatDoorPkD29
import Derived.Test.YtgldgpdhblndkaaGreatDoorPkD32
namespace Go.Proofs.YtgldgpdhblndkaaGreatDoor
open Go
set_option linter.unusedVariables false
set_option maxRecDepth 100000
noncomputable def b41:Code:=Tryz.f41.body.getD .skip
def A41:List Nat:=[]
noncomputable def qxe (s:Str):Option (tPred) :=
  some (⟨3,s,0,([]:List tPred)⟩:tPred)
theorem qbS {s:Str} {r:tPred} (h:qxe s = some r):CC Pg GE 41 [.str s] (.agg (qaa r)) [(3,31)]:=by
  obtain rfl:=lf h
  have z:=sx pz31 <| sb (qiu 3 s) (qio 3 s) <| sy (qam (⟨3,s,0,([]:List tPred)⟩:tPred)) <| en (aI (qa4 (⟨3,s,0,([]:List tPred)⟩:tPred)) <| aI (qab (⟨3,s,0,([]:List tPred)⟩:tPred)) <| rT)
  exact C.evp (A:=A41) mixed Tryz.call41 Tryz.func41 (c:=b41) rfl (aI trivial trivial) z (by kernel_rfl)
noncomputable def b40:Code:=Tryz.f40.body.getD .skip
def A40:List Nat:=[]
noncomputable def qvg (s:Str) (a:(List tPred)):Option (tPred) :=
  some (⟨4,s,0,a⟩:tPred)
theorem qfl {s:Str} {a:(List tPred)} {r:tPred} (h:qvg s a = some r):CC Pg GE 40 [.str s,sl qaa a] (.agg (qaa r)) []:=by
  obtain rfl:=lf h
  have z:=sx pz31 <| sv (qdg 4 s a) <| sx (qan (⟨4,s,0,a⟩:tPred)) <| en (aI (qa4 (⟨4,s,0,a⟩:tPred)) <| (qab (⟨4,s,0,a⟩:tPred)))
  exact C.evp (A:=A40) mixed Tryz.call40 Tryz.func40 (c:=b40) rfl (aI trivial (aI (qad qab a) trivial)) z (by kernel_rfl)
noncomputable def b42:Code:=Tryz.f42.body.getD .skip
def A42:List Nat:=[]
noncomputable def qgh (p:tPred):Option (tType) :=
  some (⟨1,([]:Str),([]:List tType),([]:List Str),p,([]:List tPred)⟩:tType)
theorem qav {p:tPred} {r:tType} (h:qgh p = some r):CC Pg GE 42 [.agg (qaa p)] (.agg (qac r)) [(2,33),(3,9),(8,31)]:=by
  obtain rfl:=lf h
  have z:=se (qat p) <| sx pz33 <| sv (qaj p) <| sb (qvJ 1 p) (qvR 1 p) <| sy (qaB (⟨1,([]:Str),([]:List tType),([]:List Str),p,([]:List tPred)⟩:tType)) <| en (aI (qc8 (⟨1,([]:Str),([]:List tType),([]:List Str),p,([]:List tPred)⟩:tType)) <| aI (qag (⟨1,([]:Str),([]:List tType),([]:List Str),p,([]:List tPred)⟩:tType)) <| rT)
  exact C.evp (A:=A42) mixed Tryz.call42 Tryz.func42 (c:=b42) rfl (aI (qab p) trivial) z (by kernel_rfl)
noncomputable def b39:Code:=Tryz.f39.body.getD .skip
def A39:List Nat:=[15]
noncomputable def qmL (a:tAbs) (a2:Str) (a3:(List tVar)):Option (tHole) :=
  (cat a2 ([46]:Str)).bind fun s1 =>
  (cat s1 a.Name).bind fun s2 =>
  (app ([(⟨([118]:Str),a.Sort_⟩:tVar)]:List tVar) a3).bind fun l3 =>
  some (⟨s2,l3⟩:tHole)
theorem qpN {a:tAbs} {a2:Str} {a3:(List tVar)} {r:tHole} (h:qmL a a2 a3 = some r):CC Pg GE 39 [.agg (qaK a),.eptr (cS a2),.eptr ((cL qay) a3)] (.agg (qaz r)) []:=by
  obtain ⟨s1,bs1,h⟩:=bnd h
  obtain ⟨s2,bs2,h⟩:=bnd h
  obtain ⟨l3,bl3,h⟩:=bnd h
  obtain rfl:=lf h
  have z:=se (qyX a) <| sx pz82 <| sv (qvV a) <| sv (qvA a) <| sv (qel ([118]:Str) a.Sort_) <| sv (sT36.mk' (v:=qoQ) qjd ([(⟨([118]:Str),a.Sort_⟩:tVar)]:List tVar) 1 (by kernel_rfl)) <| sdr [0,1,0,4,15,0,0,96,255,511] <| sv (qbb sc9 (.str a2) []) <| sv (qxA (P:=Pg) (t:=9) bs1) <| sv (qkt a) <| sv (qlR a) <| sv (qxA (P:=Pg) (t:=9) bs2) <| sv (qbb sc36 (sl qay a3) []) <| sv (sT36.ap bl3) <| sv (qvL s2 l3) <| sx (qly (⟨s2,l3⟩:tHole)) <| en (aI (qsG (⟨s2,l3⟩:tHole)) <| (qbM (⟨s2,l3⟩:tHole)))
  exact C.evp (A:=A39) mixed Tryz.call39 Tryz.func39 (c:=b39) rfl (aI (qcr a) (aI (clS a2) (aI (clLs qbG a3) trivial))) z (by kernel_rfl)
noncomputable def b38:Code:=Tryz.f38.body.getD .skip
def A38:List Nat:=[14,21]
noncomputable def qc5 (v:Str) (v2:(List tVar)) (out:(List tHole)) (t8:(List tAbs)) (t9:Int) (t10:Int):PSt:=stt 22 [(1,.func (.func 39) [] [.eptr (cS v),.eptr ((cL qay) v2)]),(5,sl qaz out),(8,sl qaK t8),(9,.int .i64 t9),(10,.int .i64 t10)] [] [((5,0),82)]
noncomputable def qfM (v:Str) (v2:(List tVar)) (t8:(List tAbs)) (t9:Int) (o:(List tHole)):PSt:=stt 22 [(5,sl qaz o)] [] [((5,0),82)]
noncomputable def qjb (v:Str) (v2:(List tVar)) (t8:(List tAbs)) (t9:Int) (out:(List tHole)) (t10:Int):Option (((List tHole)×Int)⊕(((List tHole)))) :=
  if (decide (t10 < t9)) = true then
    (idx t8 t10).bind fun x2 =>
    (qmL x2 v v2).bind fun r3 =>
    (app out ([r3]:List tHole)).bind fun l4 =>
    some (.inl (l4,w64 (t10 + 1)))
  else
    some (.inr out)
noncomputable def qkj (v:Str) (v2:(List tVar)) (t8:(List tAbs)) (t9:Int) (out:(List tHole)) (t10:Int):Option (((List tHole))):=loop (fun (zz:(List tHole)×Int) => qjb v v2 t8 t9 zz.1 zz.2) (out,t10)
theorem qmW (v:Str) (v2:(List tVar)) (out:(List tHole)) (t8:(List tAbs)) (t9:Int) (t10:Int) {y:((List tHole)×Int)⊕(((List tHole)))} (h:qjb v v2 t8 t9 out t10 = some y) :
    Sat Pg GE 0 (cA b38 119) (LQ (fun (zz:(List tHole)×Int) => qc5 v v2 zz.1 t8 t9 zz.2) (fun _ => .exit 0) (qfM v v2 t8 t9) y) (qc5 v v2 out t8 t9 t10):=by
  rcases ifs h with ⟨c1,h⟩ | ⟨c1,h⟩
  · obtain ⟨x2,bx2,h⟩:=bnd h
    obtain ⟨r3,br3,h⟩:=bnd h
    obtain ⟨l4,bl4,h⟩:=bnd h
    obtain rfl:=lf h
    have z:=sg 0 c1 <| sv (sT24.ia (k := .i64) bx2) <| sv (qwY x2) <| sx pz76 <| sx (qAJ x2) <| sv (qAF x2 []) <| sca (qpN br3) <| sv (sT38.mk' (v:=qzx) qzL ([r3]:List tHole) 1 (by kernel_rfl)) <| sv (sT38.ap bl4) <| eFx 0 .normal (qc5 v v2 l4 t8 t9 (w64 (t10 + 1))) rfl (qb1 (aI (aI trivial (aI (qbQ (clS v)) (aI (qbQ (clLs qbG v2)) trivial))) (aI (up (qad qbM l4)) (aI (up (qad qcr t8)) (aI trivial (aI trivial trivial)))))) trivial
    exact qbK (A:=A38) mixed z (by kernel_rfl)
  · obtain rfl:=lf h
    have z:=sg 0 c1 <| eF (.exit 0) (qfM v v2 t8 t9 out)
    exact qbE (A:=A38) mixed (by intro hx; cases hx) z (by kernel_rfl)
theorem qnc (v:Str) (v2:(List tVar)) (out:(List tHole)) (t8:(List tAbs)) (t9:Int) (t10:Int) {x:((List tHole))} (h:qkj v v2 t8 t9 out t10 = some x) :
    Sat Pg GE 0 (.loop (cA b38 119)) (EX (.exit 0) (qfM v v2 t8 t9 x)) (qc5 v v2 out t8 t9 t10) :=
  Sat.loop (S:=fun (zz:(List tHole)×Int) => qc5 v v2 zz.1 t8 t9 zz.2) (ex:=(fun _ => .exit 0)) (s:=(out,t10)) h fun zz y hy => qmW v v2 zz.1 t8 t9 zz.2 hy
noncomputable def qnt (a:(List tAbs)) (c:Str) (c2:(List tVar)):Option ((List tHole)) :=
  (qkj c c2 a (a.length:Int) ([]:List tHole) 0).bind fun o5 =>
  some o5
theorem qqi {a:(List tAbs)} {c:Str} {c2:(List tVar)} {r:(List tHole)} (h:qnt a c c2 = some r):CC Pg GE 38 [sl qaK a,.func (.func 39) [] [.eptr (cS c),.eptr ((cL qay) c2)]] (sl qaz r) [(0,82)]:=by
  obtain ⟨o5,bo5,h⟩:=bnd h
  obtain rfl:=lf h
  have z:=svn (sT24.ln a) <| spc (qnc c c2 ([]:List tHole) a (a.length:Int) 0 bo5) <| en (aI (rP (sl qaz o5)) <| (qad qbM o5))
  exact C.evp (A:=A38) mixed Tryz.call38 Tryz.func38 (c:=b38) rfl (aI (qad qcr a) (aI (aI trivial (aI (clS c) (aI (clLs qbG c2) trivial))) trivial)) z (by kernel_rfl)
noncomputable def b9:Code:=Tryz.f9.body.getD .skip
def A9:List Nat:=[]
noncomputable def qoZ (s:tSig) (a:Str) (scope:(List tVar)):Option ((List tHole)) :=
  (qnt s.Abs a scope).bind fun r1 =>
  some r1
theorem qcB {s:tSig} {a:Str} {scope:(List tVar)} {r:(List tHole)} (h:qoZ s a scope = some r):CC Pg GE 9 [.agg (qjJ s),.str a,sl qay scope] (sl qaz r) [(0,82)]:=by
  obtain ⟨r1,br1,h⟩:=bnd h
  obtain rfl:=lf h
  have z:=se (qB9 s) <| se (pcS a) <| se (pcL qay scope) <| sv (qwo s) <| sv (qv4 s) <| sca (qqi br1) <| en (aI (rP (sl qaz r1)) <| (qad qbM r1))
  exact C.evp (A:=A9) mixed Tryz.call9 Tryz.func9 (c:=b9) rfl (aI (qCq s) (aI trivial (aI (qad qbG scope) trivial))) z (by kernel_rfl)
noncomputable def b43:Code:=Tryz.f43.body.getD .skip
def A43:List Nat:=[]
noncomputable def qvD:Option (tModule) :=
  (qxe ([118]:Str)).bind fun r1 =>
  (qvg ([112]:Str) ([r1]:List tPred)).bind fun r2 =>
  (qxe ([118]:Str)).bind fun r3 =>
  (qvg ([112]:Str) ([r3]:List tPred)).bind fun r4 =>
  (qgh r4).bind fun r5 =>
  some (⟨([(⟨([76,105,115,116]:Str),([]:List Str),([(⟨([112]:Str),([73,110,116]:Str)⟩:tVar)]:List tVar),([(⟨([78,105,108]:Str),([]:List Str),([]:List tType)⟩:tCon),(⟨([67,111,110,115]:Str),([([120]:Str),([114,101,115,116]:Str)]:List Str),([r5,(⟨4,([76,105,115,116]:Str),([]:List tType),([]:List Str),(⟨0,([]:Str),0,([]:List tPred)⟩:tPred),([r2]:List tPred)⟩:tType)]:List tType)⟩:tCon)]:List tCon)⟩:tData)]:List tData),([]:List tClass),([]:List tInstance),([]:List tMeasure),([]:List tQual),([]:List tDef)⟩:tModule)
theorem qgz {r:tModule} (h:qvD = some r):CC Pg GE 43 [] (.agg (qaL r)) [(1,231),(2,233),(3,236),(4,238),(5,247)]:=by
  obtain ⟨r1,br1,h⟩:=bnd h
  obtain ⟨r2,br2,h⟩:=bnd h
  obtain ⟨r3,br3,h⟩:=bnd h
  obtain ⟨r4,br4,h⟩:=bnd h
  obtain ⟨r5,br5,h⟩:=bnd h
  obtain rfl:=lf h
  have z:=sx pz57 <| sca (qbS br1) <| sv (sT29.mk' (v:=qaP) qaq ([r1]:List tPred) 1 (by kernel_rfl)) <| sca (qfl br2) <| sv (sT29.mk' (v:=qaP) qaq ([r2]:List tPred) 1 (by kernel_rfl)) <| sb (qeG 4 ([76,105,115,116]:Str) ([r2]:List tPred)) (qeD 4 ([76,105,115,116]:Str) ([r2]:List tPred)) <| sx pz33 <| sy (qaB (⟨4,([76,105,115,116]:Str),([]:List tType),([]:List Str),(⟨0,([]:Str),0,([]:List tPred)⟩:tPred),([r2]:List tPred)⟩:tType)) <| sdr [0,1,0,0,0,16,48,112,0,496,1016,2044,4095,8191,16383,32767] <| sv (qel ([112]:Str) ([73,110,116]:Str)) <| sv (sT36.mk' (v:=qoQ) qjd ([(⟨([112]:Str),([73,110,116]:Str)⟩:tVar)]:List tVar) 1 (by kernel_rfl)) <| sb (qzv ([78,105,108]:Str)) (qzo ([78,105,108]:Str)) <| sv (sT22.mk' (v:=PVal.str) pcS ([([120]:Str),([114,101,115,116]:Str)]:List Str) 2 (by kernel_rfl)) <| sca (qbS br3) <| sv (sT29.mk' (v:=qaP) qaq ([r3]:List tPred) 1 (by kernel_rfl)) <| sca (qfl br4) <| sca (qav br5) <| sv (qaS (⟨4,([76,105,115,116]:Str),([]:List tType),([]:List Str),(⟨0,([]:Str),0,([]:List tPred)⟩:tPred),([r2]:List tPred)⟩:tType) []) <| sv (sT27.mk' (v:=qc4) qbv ([r5,(⟨4,([76,105,115,116]:Str),([]:List tType),([]:List Str),(⟨0,([]:Str),0,([]:List tPred)⟩:tPred),([r2]:List tPred)⟩:tType)]:List tType) 2 (by kernel_rfl)) <| sv (qvo ([67,111,110,115]:Str) ([([120]:Str),([114,101,115,116]:Str)]:List Str) ([r5,(⟨4,([76,105,115,116]:Str),([]:List tType),([]:List Str),(⟨0,([]:Str),0,([]:List tPred)⟩:tPred),([r2]:List tPred)⟩:tType)]:List tType)) <| sv (sT59.mk' (v:=qBt) qA0 ([(⟨([78,105,108]:Str),([]:List Str),([]:List tType)⟩:tCon),(⟨([67,111,110,115]:Str),([([120]:Str),([114,101,115,116]:Str)]:List Str),([r5,(⟨4,([76,105,115,116]:Str),([]:List tType),([]:List Str),(⟨0,([]:Str),0,([]:List tPred)⟩:tPred),([r2]:List tPred)⟩:tType)]:List tType)⟩:tCon)]:List tCon) 2 (by kernel_rfl)) <| sb (qtT ([76,105,115,116]:Str) ([(⟨([112]:Str),([73,110,116]:Str)⟩:tVar)]:List tVar) ([(⟨([78,105,108]:Str),([]:List Str),([]:List tType)⟩:tCon),(⟨([67,111,110,115]:Str),([([120]:Str),([114,101,115,116]:Str)]:List Str),([r5,(⟨4,([76,105,115,116]:Str),([]:List tType),([]:List Str),(⟨0,([]:Str),0,([]:List tPred)⟩:tPred),([r2]:List tPred)⟩:tType)]:List tType)⟩:tCon)]:List tCon)) (qtO ([76,105,115,116]:Str) ([(⟨([112]:Str),([73,110,116]:Str)⟩:tVar)]:List tVar) ([(⟨([78,105,108]:Str),([]:List Str),([]:List tType)⟩:tCon),(⟨([67,111,110,115]:Str),([([120]:Str),([114,101,115,116]:Str)]:List Str),([r5,(⟨4,([76,105,115,116]:Str),([]:List tType),([]:List Str),(⟨0,([]:Str),0,([]:List tPred)⟩:tPred),([r2]:List tPred)⟩:tType)]:List tType)⟩:tCon)]:List tCon)) <| sv (sT50.mk' (v:=qzK) qzh ([(⟨([76,105,115,116]:Str),([]:List Str),([(⟨([112]:Str),([73,110,116]:Str)⟩:tVar)]:List tVar),([(⟨([78,105,108]:Str),([]:List Str),([]:List tType)⟩:tCon),(⟨([67,111,110,115]:Str),([([120]:Str),([114,101,115,116]:Str)]:List Str),([r5,(⟨4,([76,105,115,116]:Str),([]:List tType),([]:List Str),(⟨0,([]:Str),0,([]:List tPred)⟩:tPred),([r2]:List tPred)⟩:tType)]:List tType)⟩:tCon)]:List tCon)⟩:tData)]:List tData) 1 (by kernel_rfl)) <| sb (qwt ([(⟨([76,105,115,116]:Str),([]:List Str),([(⟨([112]:Str),([73,110,116]:Str)⟩:tVar)]:List tVar),([(⟨([78,105,108]:Str),([]:List Str),([]:List tType)⟩:tCon),(⟨([67,111,110,115]:Str),([([120]:Str),([114,101,115,116]:Str)]:List Str),([r5,(⟨4,([76,105,115,116]:Str),([]:List tType),([]:List Str),(⟨0,([]:Str),0,([]:List tPred)⟩:tPred),([r2]:List tPred)⟩:tType)]:List tType)⟩:tCon)]:List tCon)⟩:tData)]:List tData)) (qvM ([(⟨([76,105,115,116]:Str),([]:List Str),([(⟨([112]:Str),([73,110,116]:Str)⟩:tVar)]:List tVar),([(⟨([78,105,108]:Str),([]:List Str),([]:List tType)⟩:tCon),(⟨([67,111,110,115]:Str),([([120]:Str),([114,101,115,116]:Str)]:List Str),([r5,(⟨4,([76,105,115,116]:Str),([]:List tType),([]:List Str),(⟨0,([]:Str),0,([]:List tPred)⟩:tPred),([r2]:List tPred)⟩:tType)]:List tType)⟩:tCon)]:List tCon)⟩:tData)]:List tData)) <| syx (qxb (⟨([(⟨([76,105,115,116]:Str),([]:List Str),([(⟨([112]:Str),([73,110,116]:Str)⟩:tVar)]:List tVar),([(⟨([78,105,108]:Str),([]:List Str),([]:List tType)⟩:tCon),(⟨([67,111,110,115]:Str),([([120]:Str),([114,101,115,116]:Str)]:List Str),([r5,(⟨4,([76,105,115,116]:Str),([]:List tType),([]:List Str),(⟨0,([]:Str),0,([]:List tPred)⟩:tPred),([r2]:List tPred)⟩:tType)]:List tType)⟩:tCon)]:List tCon)⟩:tData)]:List tData),([]:List tClass),([]:List tInstance),([]:List tMeasure),([]:List tQual),([]:List tDef)⟩:tModule)) <| en (aI (qxd (⟨([(⟨([76,105,115,116]:Str),([]:List Str),([(⟨([112]:Str),([73,110,116]:Str)⟩:tVar)]:List tVar),([(⟨([78,105,108]:Str),([]:List Str),([]:List tType)⟩:tCon),(⟨([67,111,110,115]:Str),([([120]:Str),([114,101,115,116]:Str)]:List Str),([r5,(⟨4,([76,105,115,116]:Str),([]:List tType),([]:List Str),(⟨0,([]:Str),0,([]:List tPred)⟩:tPred),([r2]:List tPred)⟩:tType)]:List tType)⟩:tCon)]:List tCon)⟩:tData)]:List tData),([]:List tClass),([]:List tInstance),([]:List tMeasure),([]:List tQual),([]:List tDef)⟩:tModule)) <| aI (qb2 (⟨([(⟨([76,105,115,116]:Str),([]:List Str),([(⟨([112]:Str),([73,110,116]:Str)⟩:tVar)]:List tVar),([(⟨([78,105,108]:Str),([]:List Str),([]:List tType)⟩:tCon),(⟨([67,111,110,115]:Str),([([120]:Str),([114,101,115,116]:Str)]:List Str),([r5,(⟨4,([76,105,115,116]:Str),([]:List tType),([]:List Str),(⟨0,([]:Str),0,([]:List tPred)⟩:tPred),([r2]:List tPred)⟩:tType)]:List tType)⟩:tCon)]:List tCon)⟩:tData)]:List tData),([]:List tClass),([]:List tInstance),([]:List tMeasure),([]:List tQual),([]:List tDef)⟩:tModule)) <| rT)
  exact C.evp (A:=A43) mixed Tryz.call43 Tryz.func43 (c:=b43) rfl trivial z (by kernel_rfl)
noncomputable def b61:Code:=Tryz.f61.body.getD .skip
def A61:List Nat:=[23,31]
noncomputable def qeZ (name:Str) (t12:(List tData)) (t13:Int) (t14:Int) (m:Str) (m2:(List Str)) (m3:(List tVar)) (m4:(List tCon)):PSt:=stt 35 [(1,.str name),(4,.bptr 1 0),(12,sl qau t12),(13,.int .i64 t13),(14,.int .i64 t14)] [.dead,.cells [.str m,sl cS m2,sl qay m3,sl qbf m4] [(1,9),(2,88),(3,63)]] []
noncomputable def qfe (o:(Int×Str×(List Str)×(List tVar)×(List tCon))⊕(Str×(List Str)×(List tVar)×(List tCon))):Exit:=match o with
  | (.inl _) => .ret
  | (.inr _) => .exit 0
noncomputable def qdY (name:Str) (t12:(List tData)) (t13:Int) (o:(Int×Str×(List Str)×(List tVar)×(List tCon))⊕(Str×(List Str)×(List tVar)×(List tCon))):PSt:=match o with
  | (.inl o) => stt 35 [(4,.bptr 1 0),(5,.int .i64 o.1),(6,.bool true)] [.dead,.cells [.str o.2.1,sl cS o.2.2.1,sl qay o.2.2.2.1,sl qbf o.2.2.2.2] []] []
  | (.inr o) => stt 35 [(4,.bptr 1 0)] [.dead,.cells [.str o.1,sl cS o.2.1,sl qay o.2.2.1,sl qbf o.2.2.2] [(1,9),(2,88),(3,63)]] []
noncomputable def qfc (name:Str) (t12:(List tData)) (t13:Int) (t14:Int) (t19:(List tCon)) (t20:Int) (t21:Int) (m:Str) (m2:(List Str)) (m3:(List tVar)) (m4:(List tCon)) (m5:Str) (m6:(List Str)) (m7:(List tVar)):PSt:=stt 35 [(1,.str name),(4,.bptr 1 0),(8,.bptr 2 0),(12,sl qau t12),(13,.int .i64 t13),(14,.int .i64 t14),(19,sl qbf t19),(20,.int .i64 t20),(21,.int .i64 t21)] [.dead,.cells [.str m,sl cS m2,sl qay m3,sl qbf m4] [(1,9),(2,88),(3,63)],.cells [.str m5,sl cS m6,sl qay m7,sl qbf t19] []] []
noncomputable def qfh (o:(Int)⊕(Str×(List Str)×(List tVar)×(List tCon))):Exit:=match o with
  | (.inl _) => .ret
  | (.inr _) => .exit 2
noncomputable def qdT (name:Str) (t12:(List tData)) (t13:Int) (t14:Int) (t19:(List tCon)) (t20:Int) (m5:Str) (m6:(List Str)) (m7:(List tVar)) (o:(Int)⊕(Str×(List Str)×(List tVar)×(List tCon))):PSt:=match o with
  | (.inl o) => stt 35 [(4,.bptr 1 0),(5,.int .i64 o),(6,.bool true)] [.dead,.cells [.str m5,sl cS m6,sl qay m7,sl qbf t19] [],.cells [.str m5,sl cS m6,sl qay m7,sl qbf t19] []] []
  | (.inr o) => stt 35 [(1,.str name),(4,.bptr 1 0),(12,sl qau t12),(13,.int .i64 t13),(14,.int .i64 t14)] [.dead,.cells [.str o.1,sl cS o.2.1,sl qay o.2.2.1,sl qbf o.2.2.2] [(1,9),(2,88),(3,63)],.cells [.str m5,sl cS m6,sl qay m7,sl qbf t19] []] []
noncomputable def qdm (name:Str) (t19:(List tCon)) (t20:Int) (t21:Int) (m:Str) (m2:(List Str)) (m3:(List tVar)) (m4:(List tCon)):Option ((Int×Str×(List Str)×(List tVar)×(List tCon))⊕((Int)⊕(Str×(List Str)×(List tVar)×(List tCon)))) :=
  if (decide (t21 < t20)) = true then
    (idx t19 t21).bind fun x4 =>
    if (x4.Name == name) = true then
      some (.inr (.inl t21))
    else
      some (.inl (w64 (t21 + 1),m,m2,m3,m4))
  else
    some (.inr (.inr (m,m2,m3,m4)))
noncomputable def qmu (name:Str) (t19:(List tCon)) (t20:Int) (t21:Int) (m:Str) (m2:(List Str)) (m3:(List tVar)) (m4:(List tCon)):Option ((Int)⊕(Str×(List Str)×(List tVar)×(List tCon))):=loop (fun (zz:Int×Str×(List Str)×(List tVar)×(List tCon)) => qdm name t19 t20 zz.1 zz.2.1 zz.2.2.1 zz.2.2.2.1 zz.2.2.2.2) (t21,m,m2,m3,m4)
theorem qrl (name:Str) (t12:(List tData)) (t13:Int) (t14:Int) (t19:(List tCon)) (t20:Int) (t21:Int) (m:Str) (m2:(List Str)) (m3:(List tVar)) (m4:(List tCon)) (m5:Str) (m6:(List Str)) (m7:(List tVar)) {y:(Int×Str×(List Str)×(List tVar)×(List tCon))⊕((Int)⊕(Str×(List Str)×(List tVar)×(List tCon)))} (h:qdm name t19 t20 t21 m m2 m3 m4 = some y) :
    Sat Pg GE 0 (cA b61 14303) (LQ (fun (zz:Int×Str×(List Str)×(List tVar)×(List tCon)) => qfc name t12 t13 t14 t19 t20 zz.1 zz.2.1 zz.2.2.1 zz.2.2.2.1 zz.2.2.2.2 m5 m6 m7) qfh (qdT name t12 t13 t14 t19 t20 m5 m6 m7) y) (qfc name t12 t13 t14 t19 t20 t21 m m2 m3 m4 m5 m6 m7):=by
  rcases ifs h with ⟨c3,h⟩ | ⟨c3,h⟩
  · obtain ⟨x4,bx4,h⟩:=bnd h
    rcases ifs h with ⟨c5,h⟩ | ⟨c5,h⟩
    · obtain rfl:=lf h
      have z:=sg 0 c3 <| sv (sT59.ia (k := .i64) bx4) <| sv (qvr x4) <| sx pz63 <| sx (qsz x4) <| ss <| sg 0 c5 <| sv (qwe (⟨m5,m6,m7,t19⟩:tData) []) <| sx (qfg (⟨m5,m6,m7,t19⟩:tData)) <| eFx 0 (qfh (.inl t21)) (qdT name t12 t13 t14 t19 t20 m5 m6 m7 (.inl t21)) rfl (qb1 (aI (qdu rfl) (aI trivial (aI trivial trivial)))) (aI trivial (aI (aI trivial (aI (up (qad clS m6)) (aI (up (qad qbG m7)) (aI (up (qad qhX t19)) trivial)))) (aI (aI trivial (aI (up (qad clS m6)) (aI (up (qad qbG m7)) (aI (up (qad qhX t19)) trivial)))) trivial)))
      exact qi1 (A:=A61) mixed (by intro hx; cases hx) z (by kernel_rfl)
    · obtain rfl:=lf h
      have z:=sg 0 c3 <| sv (sT59.ia (k := .i64) bx4) <| sv (qvr x4) <| sx pz63 <| sx (qsz x4) <| ss <| sg 0 c5 <| eFx 0 .normal (qfc name t12 t13 t14 t19 t20 (w64 (t21 + 1)) m m2 m3 m4 m5 m6 m7) rfl (qb1 (aI trivial (aI (qdu rfl) (aI (qdu rfl) (aI (up (qad qbJ t12)) (aI trivial (aI trivial (aI (up (qad qhX t19)) (aI trivial (aI trivial trivial)))))))))) (aI trivial (aI (aI trivial (aI (up (qad clS m2)) (aI (up (qad qbG m3)) (aI (up (qad qhX m4)) trivial)))) (aI (aI trivial (aI (up (qad clS m6)) (aI (up (qad qbG m7)) (aI (up (qad qhX t19)) trivial)))) trivial)))
      exact qbK (A:=A61) mixed z (by kernel_rfl)
  · obtain rfl:=lf h
    have z:=sg 0 c3 <| eF (qfh (.inr (m,m2,m3,m4))) (qdT name t12 t13 t14 t19 t20 m5 m6 m7 (.inr (m,m2,m3,m4)))
    exact qbE (A:=A61) mixed (by intro hx; cases hx) z (by kernel_rfl)
theorem qmQ (name:Str) (t12:(List tData)) (t13:Int) (t14:Int) (t19:(List tCon)) (t20:Int) (t21:Int) (m:Str) (m2:(List Str)) (m3:(List tVar)) (m4:(List tCon)) (m5:Str) (m6:(List Str)) (m7:(List tVar)) {x:(Int)⊕(Str×(List Str)×(List tVar)×(List tCon))} (h:qmu name t19 t20 t21 m m2 m3 m4 = some x) :
    Sat Pg GE 0 (.loop (cA b61 14303)) (EX (qfh x) (qdT name t12 t13 t14 t19 t20 m5 m6 m7 x)) (qfc name t12 t13 t14 t19 t20 t21 m m2 m3 m4 m5 m6 m7) :=
  Sat.loop (S:=fun (zz:Int×Str×(List Str)×(List tVar)×(List tCon)) => qfc name t12 t13 t14 t19 t20 zz.1 zz.2.1 zz.2.2.1 zz.2.2.2.1 zz.2.2.2.2 m5 m6 m7) (ex:=qfh) (s:=(t21,m,m2,m3,m4)) h fun zz y hy => qrl name t12 t13 t14 t19 t20 zz.1 zz.2.1 zz.2.2.1 zz.2.2.2.1 zz.2.2.2.2 m5 m6 m7 hy
noncomputable def qdq (name:Str) (t12:(List tData)) (t13:Int) (t14:Int) (m:Str) (m2:(List Str)) (m3:(List tVar)) (m4:(List tCon)):Option ((Int×Str×(List Str)×(List tVar)×(List tCon))⊕((Int×Str×(List Str)×(List tVar)×(List tCon))⊕(Str×(List Str)×(List tVar)×(List tCon)))) :=
  if (decide (t14 < t13)) = true then
    (idx t12 t14).bind fun x2 =>
    (qmu name x2.Cons (x2.Cons.length:Int) 0 m m2 m3 m4).bind fun o6 => match o6 with
    | (.inl o6) =>
      some (.inr (.inl (o6,x2.Name,x2.Vars,x2.Preds,x2.Cons)))
    | (.inr o6) =>
      some (.inl (w64 (t14 + 1),o6.1,o6.2.1,o6.2.2.1,o6.2.2.2))
  else
    some (.inr (.inr (m,m2,m3,m4)))
noncomputable def qlY (name:Str) (t12:(List tData)) (t13:Int) (t14:Int) (m:Str) (m2:(List Str)) (m3:(List tVar)) (m4:(List tCon)):Option ((Int×Str×(List Str)×(List tVar)×(List tCon))⊕(Str×(List Str)×(List tVar)×(List tCon))):=loop (fun (zz:Int×Str×(List Str)×(List tVar)×(List tCon)) => qdq name t12 t13 zz.1 zz.2.1 zz.2.2.1 zz.2.2.2.1 zz.2.2.2.2) (t14,m,m2,m3,m4)
theorem qrI (name:Str) (t12:(List tData)) (t13:Int) (t14:Int) (m:Str) (m2:(List Str)) (m3:(List tVar)) (m4:(List tCon)) {y:(Int×Str×(List Str)×(List tVar)×(List tCon))⊕((Int×Str×(List Str)×(List tVar)×(List tCon))⊕(Str×(List Str)×(List tVar)×(List tCon)))} (h:qdq name t12 t13 t14 m m2 m3 m4 = some y) :
    Sat Pg GE 0 (cA b61 55) (LQ (fun (zz:Int×Str×(List Str)×(List tVar)×(List tCon)) => qeZ name t12 t13 zz.1 zz.2.1 zz.2.2.1 zz.2.2.2.1 zz.2.2.2.2) qfe (qdY name t12 t13) y) (qeZ name t12 t13 t14 m m2 m3 m4):=by
  rcases ifs h with ⟨c1,h⟩ | ⟨c1,h⟩
  · obtain ⟨x2,bx2,h⟩:=bnd h
    obtain ⟨o6,bo6,h⟩:=bnd h
    rcases o6 with o6 | o6
    · obtain rfl:=lf h
      have z:=sg 0 c1 <| sv (sT50.ia (k := .i64) bx2) <| sv (qig x2) <| sx pz61 <| sx (qfg x2) <| ss <| svn (sT59.ln x2.Cons) <| spc (e := .ret) (s1:=qdT name t12 t13 t14 x2.Cons (x2.Cons.length:Int) x2.Name x2.Vars x2.Preds (.inl o6)) (qmQ name t12 t13 t14 x2.Cons (x2.Cons.length:Int) 0 m m2 m3 m4 x2.Name x2.Vars x2.Preds bo6) <| eFx 0 (qfe (.inl (o6,x2.Name,x2.Vars,x2.Preds,x2.Cons))) (qdY name t12 t13 (.inl (o6,x2.Name,x2.Vars,x2.Preds,x2.Cons))) rfl (qb1 (aI (qdu rfl) (aI trivial (aI trivial trivial)))) (aI trivial (aI (aI trivial (aI (up (qad clS x2.Vars)) (aI (up (qad qbG x2.Preds)) (aI (up (qad qhX x2.Cons)) trivial)))) trivial))
      exact qi1 (A:=A61) mixed (by intro hx; cases hx) z (by kernel_rfl)
    · obtain rfl:=lf h
      have z:=sg 0 c1 <| sv (sT50.ia (k := .i64) bx2) <| sv (qig x2) <| sx pz61 <| sx (qfg x2) <| ss <| svn (sT59.ln x2.Cons) <| spc (e := .exit 2) (s1:=qdT name t12 t13 t14 x2.Cons (x2.Cons.length:Int) x2.Name x2.Vars x2.Preds (.inr o6)) (qmQ name t12 t13 t14 x2.Cons (x2.Cons.length:Int) 0 m m2 m3 m4 x2.Name x2.Vars x2.Preds bo6) <| eFx 0 .normal (qeZ name t12 t13 (w64 (t14 + 1)) o6.1 o6.2.1 o6.2.2.1 o6.2.2.2) rfl (qb1 (aI trivial (aI (qdu rfl) (aI (up (qad qbJ t12)) (aI trivial (aI trivial trivial)))))) (aI trivial (aI (aI trivial (aI (up (qad clS o6.2.1)) (aI (up (qad qbG o6.2.2.1)) (aI (up (qad qhX o6.2.2.2)) trivial)))) trivial))
      exact qbK (A:=A61) mixed z (by kernel_rfl)
  · obtain rfl:=lf h
    have z:=sg 0 c1 <| eF (qfe (.inr (m,m2,m3,m4))) (qdY name t12 t13 (.inr (m,m2,m3,m4)))
    exact qbE (A:=A61) mixed (by intro hx; cases hx) z (by kernel_rfl)
theorem qmA (name:Str) (t12:(List tData)) (t13:Int) (t14:Int) (m:Str) (m2:(List Str)) (m3:(List tVar)) (m4:(List tCon)) {x:(Int×Str×(List Str)×(List tVar)×(List tCon))⊕(Str×(List Str)×(List tVar)×(List tCon))} (h:qlY name t12 t13 t14 m m2 m3 m4 = some x) :
    Sat Pg GE 0 (.loop (cA b61 55)) (EX (qfe x) (qdY name t12 t13 x)) (qeZ name t12 t13 t14 m m2 m3 m4) :=
  Sat.loop (S:=fun (zz:Int×Str×(List Str)×(List tVar)×(List tCon)) => qeZ name t12 t13 zz.1 zz.2.1 zz.2.2.1 zz.2.2.2.1 zz.2.2.2.2) (ex:=qfe) (s:=(t14,m,m2,m3,m4)) h fun zz y hy => qrI name t12 t13 zz.1 zz.2.1 zz.2.2.1 zz.2.2.2.1 zz.2.2.2.2 hy
noncomputable def qod (m:tModule) (name:Str):Option (tData×Int×Bool) :=
  (qlY name m.Datas (m.Datas.length:Int) 0 ([]:Str) ([]:List Str) ([]:List tVar) ([]:List tCon)).bind fun o7 => match o7 with
  | (.inl o7) =>
    some ((⟨o7.2.1,o7.2.2.1,o7.2.2.2.1,o7.2.2.2.2⟩:tData),o7.1,true)
  | (.inr o7) =>
    some ((⟨([]:Str),([]:List Str),([]:List tVar),([]:List tCon)⟩:tData),0,false)
theorem qqa {m:tModule} {name:Str} {r:tData×Int×Bool} (h:qod m name = some r):CC Pg GE 61 [.agg (qaL m),.str name] (.tuple [.agg (qau r.1),.int .i64 r.2.1,.bool r.2.2]) []:=by
  obtain ⟨o7,bo7,h⟩:=bnd h
  rcases o7 with o7 | o7
  · obtain rfl:=lf h
    have z:=se (qc0 m) <| sx pz61 <| sv (qaY m) <| sv (qaX m) <| svn (sT50.ln m.Datas) <| spc (e := .ret) (s1:=qdY name m.Datas (m.Datas.length:Int) (.inl o7)) (qmA name m.Datas (m.Datas.length:Int) 0 ([]:Str) ([]:List Str) ([]:List tVar) ([]:List tCon) bo7) <| en (aI (congrArg PVal.tuple (qoK (qqX (⟨o7.2.1,o7.2.2.1,o7.2.2.2.1,o7.2.2.2.2⟩:tData)) (qoK (rP (.int .i64 o7.1)) (qoK (rP (.bool true)) (rfl:([]:List PVal) = []))))) <| (aI (qbJ (⟨o7.2.1,o7.2.2.1,o7.2.2.2.1,o7.2.2.2.2⟩:tData)) (aI trivial (aI trivial trivial))))
    exact C.evp (A:=A61) mixed Tryz.call61 Tryz.func61 (c:=b61) rfl (aI (qb2 m) (aI trivial trivial)) z (by kernel_rfl)
  · obtain rfl:=lf h
    have z:=se (qc0 m) <| sx pz61 <| sv (qaY m) <| sv (qaX m) <| svn (sT50.ln m.Datas) <| spc (e := .exit 0) (s1:=qdY name m.Datas (m.Datas.length:Int) (.inr o7)) (qmA name m.Datas (m.Datas.length:Int) 0 ([]:Str) ([]:List Str) ([]:List tVar) ([]:List tCon) bo7) <| sb (qul ) (qum ) <| sy (qhw (⟨([]:Str),([]:List Str),([]:List tVar),([]:List tCon)⟩:tData)) <| en (aI (congrArg PVal.tuple (qoK (qqX (⟨([]:Str),([]:List Str),([]:List tVar),([]:List tCon)⟩:tData)) (qoK (rP (.int .i64 0)) (qoK (rP (.bool false)) (rfl:([]:List PVal) = []))))) <| (aI (qbJ (⟨([]:Str),([]:List Str),([]:List tVar),([]:List tCon)⟩:tData)) (aI trivial (aI trivial trivial))))
    exact C.evp (A:=A61) mixed Tryz.call61 Tryz.func61 (c:=b61) rfl (aI (qb2 m) (aI trivial trivial)) z (by kernel_rfl)
abbrev qbo:=(tType→tData→(List tPred)→Option (tType))
abbrev qdK (R:qbo):Prop := ∀ (t:tType) (c:tData) (c2:(List tPred)) (r:tType),R t c c2 = some r→CC Pg GE 51 [.agg (qac t),.func (.func 64) [] [.eptr (qau c),.eptr ((cL qaa) c2)]] (.agg (qac r)) [(2,33)]
abbrev qbq:=(tPred→(List tVar)→(List tPred)→Option (tPred))
abbrev qdL (R:qbq):Prop := ∀ (p:tPred) (params:(List tVar)) (preds:(List tPred)) (r:tPred),R p params preds = some r→CC Pg GE 65 [.agg (qaa p),sl qay params,sl qaa preds] (.agg (qaa r)) [(3,31)]
noncomputable def b98:Code:=Tryz.f98.body.getD .skip
def A98:List Nat:=[]
noncomputable def qkD (R16:qbq) (k:tPred) (a:(List tVar)) (a2:(List tPred)):Option (tPred) :=
  (R16 k a a2).bind fun r1 =>
  some r1
theorem qrt (R16:qbq) (hR16:qdL R16) {k:tPred} {a:(List tVar)} {a2:(List tPred)} {r:tPred} (h:qkD R16 k a a2 = some r):CC Pg GE 98 [.agg (qaa k),.eptr ((cL qay) a),.eptr ((cL qaa) a2)] (.agg (qaa r)) [(3,31)]:=by
  obtain ⟨r1,br1,h⟩:=bnd h
  obtain rfl:=lf h
  have z:=se (qat k) <| sx pz31 <| sv (qaj k) <| sv (qbb sc36 (sl qay a) []) <| sv (qbb sc29 (sl qaa a2) []) <| sca (hR16 _ _ _ _ br1) <| sy (qam r1) <| en (aI (qa4 r1) <| aI (qab r1) <| rT)
  exact C.evp (A:=A98) mixed Tryz.call98 Tryz.func98 (c:=b98) rfl (aI (qab k) (aI (clLs qbG a) (aI (clLs qab a2) trivial))) z (by kernel_rfl)
noncomputable def b56:Code:=Tryz.f56.body.getD .skip
def A56:List Nat:=[14,21]
noncomputable def qct (v:(List tVar)) (v2:(List tPred)) (out:(List tPred)) (t8:(List tPred)) (t9:Int) (t10:Int):PSt:=stt 22 [(1,.func (.func 98) [] [.eptr ((cL qay) v),.eptr ((cL qaa) v2)]),(5,sl qaa out),(8,sl qaa t8),(9,.int .i64 t9),(10,.int .i64 t10)] [] [((5,0),31)]
noncomputable def qeM (v:(List tVar)) (v2:(List tPred)) (t8:(List tPred)) (t9:Int) (o:(List tPred)):PSt:=stt 22 [(5,sl qaa o)] [] [((5,0),31)]
noncomputable def qhG (R16:qbq) (v:(List tVar)) (v2:(List tPred)) (t8:(List tPred)) (t9:Int) (out:(List tPred)) (t10:Int):Option (((List tPred)×Int)⊕(((List tPred)))) :=
  if (decide (t10 < t9)) = true then
    (idx t8 t10).bind fun x2 =>
    (qkD R16 x2 v v2).bind fun r3 =>
    (app out ([r3]:List tPred)).bind fun l4 =>
    some (.inl (l4,w64 (t10 + 1)))
  else
    some (.inr out)
noncomputable def qfL (R16:qbq) (v:(List tVar)) (v2:(List tPred)) (t8:(List tPred)) (t9:Int) (out:(List tPred)) (t10:Int):Option (((List tPred))):=loop (fun (zz:(List tPred)×Int) => qhG R16 v v2 t8 t9 zz.1 zz.2) (out,t10)
theorem qll (R16:qbq) (hR16:qdL R16) (v:(List tVar)) (v2:(List tPred)) (out:(List tPred)) (t8:(List tPred)) (t9:Int) (t10:Int) {y:((List tPred)×Int)⊕(((List tPred)))} (h:qhG R16 v v2 t8 t9 out t10 = some y) :
    Sat Pg GE 0 (cA b56 119) (LQ (fun (zz:(List tPred)×Int) => qct v v2 zz.1 t8 t9 zz.2) (fun _ => .exit 0) (qeM v v2 t8 t9) y) (qct v v2 out t8 t9 t10):=by
  rcases ifs h with ⟨c1,h⟩ | ⟨c1,h⟩
  · obtain ⟨x2,bx2,h⟩:=bnd h
    obtain ⟨r3,br3,h⟩:=bnd h
    obtain ⟨l4,bl4,h⟩:=bnd h
    obtain rfl:=lf h
    have z:=sg 0 c1 <| sv (sT29.ia (k := .i64) bx2) <| sv (qaj x2) <| sx pz31 <| sx (qan x2) <| sv (qah x2 []) <| sca (qrt R16 hR16 br3) <| sv (sT29.mk' (v:=qaP) qaq ([r3]:List tPred) 1 (by kernel_rfl)) <| sv (sT29.ap bl4) <| eFx 0 .normal (qct v v2 l4 t8 t9 (w64 (t10 + 1))) rfl (qb1 (aI (aI trivial (aI (qbQ (clLs qbG v)) (aI (qbQ (clLs qab v2)) trivial))) (aI (up (qad qab l4)) (aI (up (qad qab t8)) (aI trivial (aI trivial trivial)))))) trivial
    exact qbK (A:=A56) mixed z (by kernel_rfl)
  · obtain rfl:=lf h
    have z:=sg 0 c1 <| eF (.exit 0) (qeM v v2 t8 t9 out)
    exact qbE (A:=A56) mixed (by intro hx; cases hx) z (by kernel_rfl)
theorem qlW (R16:qbq) (hR16:qdL R16) (v:(List tVar)) (v2:(List tPred)) (out:(List tPred)) (t8:(List tPred)) (t9:Int) (t10:Int) {x:((List tPred))} (h:qfL R16 v v2 t8 t9 out t10 = some x) :
    Sat Pg GE 0 (.loop (cA b56 119)) (EX (.exit 0) (qeM v v2 t8 t9 x)) (qct v v2 out t8 t9 t10) :=
  Sat.loop (S:=fun (zz:(List tPred)×Int) => qct v v2 zz.1 t8 t9 zz.2) (ex:=(fun _ => .exit 0)) (s:=(out,t10)) h fun zz y hy => qll R16 hR16 v v2 zz.1 t8 t9 zz.2 hy
noncomputable def qhW (R16:qbq) (a:(List tPred)) (c:(List tVar)) (c2:(List tPred)):Option ((List tPred)) :=
  (qfL R16 c c2 a (a.length:Int) ([]:List tPred) 0).bind fun o5 =>
  some o5
theorem qdS (R16:qbq) (hR16:qdL R16) {a:(List tPred)} {c:(List tVar)} {c2:(List tPred)} {r:(List tPred)} (h:qhW R16 a c c2 = some r):CC Pg GE 56 [sl qaa a,.func (.func 98) [] [.eptr ((cL qay) c),.eptr ((cL qaa) c2)]] (sl qaa r) [(0,31)]:=by
  obtain ⟨o5,bo5,h⟩:=bnd h
  obtain rfl:=lf h
  have z:=svn (sT29.ln a) <| spc (qlW R16 hR16 c c2 ([]:List tPred) a (a.length:Int) 0 bo5) <| en (aI (rP (sl qaa o5)) <| (qad qab o5))
  exact C.evp (A:=A56) mixed Tryz.call56 Tryz.func56 (c:=b56) rfl (aI (qad qab a) (aI (aI trivial (aI (clLs qbG c) (aI (clLs qab c2) trivial))) trivial)) z (by kernel_rfl)
noncomputable def b100:Code:=Tryz.f100.body.getD .skip
def A100:List Nat:=[]
noncomputable def qkV (v:tVar) (a:tPred):Option (Bool) :=
  some (v.Name == a.Name)
theorem qlo {v:tVar} {a:tPred} {r:Bool} (h:qkV v a = some r):CC Pg GE 100 [.agg (qay v),.eptr (qaa a)] (.bool r) []:=by
  obtain rfl:=lf h
  have z:=se (qAt v) <| sv (qnT v) <| sv (qpi v) <| sv (qao a) <| sv (qax a) <| en (aI (rP (.bool (v.Name == a.Name))) <| trivial)
  exact C.evp (A:=A100) mixed Tryz.call100 Tryz.func100 (c:=b100) rfl (aI (qbG v) (aI (qab a) trivial)) z (by kernel_rfl)
noncomputable def b99:Code:=Tryz.f99.body.getD .skip
def A99:List Nat:=[10,17]
noncomputable def qcS (s:(List tVar)) (v:tPred) (t7:Int) (t8:Int):PSt:=stt 19 [(0,sl qay s),(1,.func (.func 100) [] [.eptr (qaa v)]),(7,.int .i64 t7),(8,.int .i64 t8)] [] []
noncomputable def qcR (o:(Int)⊕(Unit)):Exit:=match o with
  | (.inl _) => .ret
  | (.inr _) => .exit 0
noncomputable def qb6 (s:(List tVar)) (v:tPred) (t7:Int) (o:(Int)⊕(Unit)):PSt:=match o with
  | (.inl o) => stt 19 [(4,.int .i64 o)] [] []
  | (.inr o) => stt 19 [] [] []
noncomputable def qcP (s:(List tVar)) (v:tPred) (t7:Int) (t8:Int):Option ((Int)⊕((Int)⊕(Unit))) :=
  if (decide (t8 < t7)) = true then
    (idx s t8).bind fun x2 =>
    (qkV x2 v).bind fun r3 =>
    if r3 = true then
      some (.inr (.inl t8))
    else
      some (.inl (w64 (t8 + 1)))
  else
    some (.inr (.inr ()))
noncomputable def qgk (s:(List tVar)) (v:tPred) (t7:Int) (t8:Int):Option ((Int)⊕(Unit)):=loop (fun (zz:Int) => qcP s v t7 zz) t8
theorem qmo (s:(List tVar)) (v:tPred) (t7:Int) (t8:Int) {y:(Int)⊕((Int)⊕(Unit))} (h:qcP s v t7 t8 = some y) :
    Sat Pg GE 0 (cA b99 55) (LQ (fun (zz:Int) => qcS s v t7 zz) qcR (qb6 s v t7) y) (qcS s v t7 t8):=by
  rcases ifs h with ⟨c1,h⟩ | ⟨c1,h⟩
  · obtain ⟨x2,bx2,h⟩:=bnd h
    obtain ⟨r3,br3,h⟩:=bnd h
    rcases ifs h with ⟨c4,h⟩ | ⟨c4,h⟩
    · obtain rfl:=lf h
      have z:=sg 0 c1 <| sv (sT36.ia (k := .i64) bx2) <| sv (qpn x2) <| sca (qlo br3) <| sg 0 c4 <| eF (qcR (.inl t8)) (qb6 s v t7 (.inl t8))
      exact qbE (A:=A99) mixed (by intro hx; cases hx) z (by kernel_rfl)
    · obtain rfl:=lf h
      have z:=sg 0 c1 <| sv (sT36.ia (k := .i64) bx2) <| sv (qpn x2) <| sca (qlo br3) <| sg 0 c4 <| eF .normal (qcS s v t7 (w64 (t8 + 1)))
      exact qjk (A:=A99) mixed z (by kernel_rfl)
  · obtain rfl:=lf h
    have z:=sg 0 c1 <| eF (qcR (.inr ())) (qb6 s v t7 (.inr ()))
    exact qbE (A:=A99) mixed (by intro hx; cases hx) z (by kernel_rfl)
theorem qhO (s:(List tVar)) (v:tPred) (t7:Int) (t8:Int) {x:(Int)⊕(Unit)} (h:qgk s v t7 t8 = some x) :
    Sat Pg GE 0 (.loop (cA b99 55)) (EX (qcR x) (qb6 s v t7 x)) (qcS s v t7 t8) :=
  Sat.loop (S:=fun (zz:Int) => qcS s v t7 zz) (ex:=qcR) (s:=t8) h fun zz y hy => qmo s v t7 zz hy
noncomputable def qf5 (s:(List tVar)) (c:tPred):Option (Int) :=
  (qgk s c (s.length:Int) 0).bind fun o5 => match o5 with
  | (.inl o5) =>
    some o5
  | (.inr o5) =>
    some (-1)
theorem qf8 {s:(List tVar)} {c:tPred} {r:Int} (h:qf5 s c = some r):CC Pg GE 99 [sl qay s,.func (.func 100) [] [.eptr (qaa c)]] (.int .i64 r) []:=by
  obtain ⟨o5,bo5,h⟩:=bnd h
  rcases o5 with o5 | o5
  · obtain rfl:=lf h
    have z:=svn (sT36.ln s) <| spc (e := .ret) (s1:=qb6 s c (s.length:Int) (.inl o5)) (qhO s c (s.length:Int) 0 bo5) <| en (aI (rP (.int .i64 o5)) <| trivial)
    exact C.evp (A:=A99) mixed Tryz.call99 Tryz.func99 (c:=b99) rfl (aI (qad qbG s) (aI (aI trivial (aI (qab c) trivial)) trivial)) z (by kernel_rfl)
  · obtain rfl:=lf h
    have z:=svn (sT36.ln s) <| spc (e := .exit 0) (s1:=qb6 s c (s.length:Int) (.inr o5)) (qhO s c (s.length:Int) 0 bo5) <| en (aI (rP (.int .i64 (-1))) <| trivial)
    exact C.evp (A:=A99) mixed Tryz.call99 Tryz.func99 (c:=b99) rfl (aI (qad qbG s) (aI (aI trivial (aI (qab c) trivial)) trivial)) z (by kernel_rfl)
abbrev qed:=(tPred→tPred→Option (Bool))
abbrev qlK (R:qed):Prop := ∀ (a:tPred) (a2:tPred) (r:Bool),R a a2 = some r→CC Pg GE 101 [.agg (qaa a),.agg (qaa a2)] (.bool r) []
noncomputable def b127:Code:=Tryz.f127.body.getD .skip
def A127:List Nat:=[17]
noncomputable def qeW (v:(List tPred)) (v2:(List tPred)) (t14:Int) (t15:Int):PSt:=stt 30 [(0,sl qaa v),(1,sl qaa v2),(2,.func (.func 101) [] []),(14,.int .i64 t14),(15,.int .i64 t15)] [] []
noncomputable def qe7 (o:(Unit)⊕(Unit)):Exit:=match o with
  | (.inl _) => .ret
  | (.inr _) => .exit 0
noncomputable def qdZ (v:(List tPred)) (v2:(List tPred)) (t14:Int) (o:(Unit)⊕(Unit)):PSt:=match o with
  | (.inl o) => stt 30 [(6,.bool false)] [] []
  | (.inr o) => stt 30 [] [] []
noncomputable def qe9 (R21:qed) (v:(List tPred)) (v2:(List tPred)) (t14:Int) (t15:Int):Option ((Int)⊕((Unit)⊕(Unit))) :=
  if (decide (t15 < t14)) = true then
    (idx v t15).bind fun x3 =>
    (idx v2 t15).bind fun x4 =>
    (R21 x3 x4).bind fun r5 =>
    if (!r5) = true then
      some (.inr (.inl ()))
    else
      some (.inl (w64 (t15 + 1)))
  else
    some (.inr (.inr ()))
noncomputable def qlQ (R21:qed) (v:(List tPred)) (v2:(List tPred)) (t14:Int) (t15:Int):Option ((Unit)⊕(Unit)):=loop (fun (zz:Int) => qe9 R21 v v2 t14 zz) t15
theorem qrD (R21:qed) (hR21:qlK R21) (v:(List tPred)) (v2:(List tPred)) (t14:Int) (t15:Int) {y:(Int)⊕((Unit)⊕(Unit))} (h:qe9 R21 v v2 t14 t15 = some y) :
    Sat Pg GE 0 (cA b127 119) (LQ (fun (zz:Int) => qeW v v2 t14 zz) qe7 (qdZ v v2 t14) y) (qeW v v2 t14 t15):=by
  rcases ifs h with ⟨c2,h⟩ | ⟨c2,h⟩
  · obtain ⟨x3,bx3,h⟩:=bnd h
    obtain ⟨x4,bx4,h⟩:=bnd h
    obtain ⟨r5,br5,h⟩:=bnd h
    rcases ifs h with ⟨c6,h⟩ | ⟨c6,h⟩
    · obtain rfl:=lf h
      have z:=sg 0 c2 <| sdr [0,0,0,6,14,0,0,96,224,511,1023] <| sv (sT29.ia (k := .i64) bx3) <| sv (qaj x3) <| sv (sT29.ia (k := .i64) bx4) <| sv (qaj x4) <| sca (hR21 _ _ _ br5) <| sg 0 c6 <| eF (qe7 (.inl ())) (qdZ v v2 t14 (.inl ()))
      exact qbE (A:=A127) mixed (by intro hx; cases hx) z (by kernel_rfl)
    · obtain rfl:=lf h
      have z:=sg 0 c2 <| sdr [0,0,0,6,14,0,0,96,224,511,1023] <| sv (sT29.ia (k := .i64) bx3) <| sv (qaj x3) <| sv (sT29.ia (k := .i64) bx4) <| sv (qaj x4) <| sca (hR21 _ _ _ br5) <| sg 0 c6 <| eF .normal (qeW v v2 t14 (w64 (t15 + 1)))
      exact qjk (A:=A127) mixed z (by kernel_rfl)
  · obtain rfl:=lf h
    have z:=sg 0 c2 <| eF (qe7 (.inr ())) (qdZ v v2 t14 (.inr ()))
    exact qbE (A:=A127) mixed (by intro hx; cases hx) z (by kernel_rfl)
theorem qmB (R21:qed) (hR21:qlK R21) (v:(List tPred)) (v2:(List tPred)) (t14:Int) (t15:Int) {x:(Unit)⊕(Unit)} (h:qlQ R21 v v2 t14 t15 = some x) :
    Sat Pg GE 0 (.loop (cA b127 119)) (EX (qe7 x) (qdZ v v2 t14 x)) (qeW v v2 t14 t15) :=
  Sat.loop (S:=fun (zz:Int) => qeW v v2 t14 zz) (ex:=qe7) (s:=t15) h fun zz y hy => qrD R21 hR21 v v2 t14 zz hy
noncomputable def qor (R21:qed) (a:(List tPred)) (a2:(List tPred)):Option (Bool) :=
  if ((a.length:Int) != (a2.length:Int)) = true then
    some false
  else
    (qlQ R21 a a2 (a.length:Int) 0).bind fun o7 => match o7 with
    | (.inl o7) =>
      some false
    | (.inr o7) =>
      some true
theorem qvs (R21:qed) (hR21:qlK R21) {a:(List tPred)} {a2:(List tPred)} {r:Bool} (h:qor R21 a a2 = some r):CC Pg GE 127 [sl qaa a,sl qaa a2,.func (.func 101) [] []] (.bool r) []:=by
  rcases ifs h with ⟨c1,h⟩ | ⟨c1,h⟩
  · obtain rfl:=lf h
    have z:=svn (sT29.ln a) <| svn (sT29.ln a2) <| sg 0 c1 <| en (aI (rP (.bool false)) <| trivial)
    exact C.evp (A:=A127) mixed Tryz.call127 Tryz.func127 (c:=b127) rfl (aI (qad qab a) (aI (qad qab a2) (aI (aI trivial trivial) trivial))) z (by kernel_rfl)
  · obtain ⟨o7,bo7,h⟩:=bnd h
    rcases o7 with o7 | o7
    · obtain rfl:=lf h
      have z:=svn (sT29.ln a) <| svn (sT29.ln a2) <| sg 0 c1 <| svn (sT29.ln a) <| spc (e := .ret) (s1:=qdZ a a2 (a.length:Int) (.inl o7)) (qmB R21 hR21 a a2 (a.length:Int) 0 bo7) <| en (aI (rP (.bool false)) <| trivial)
      exact C.evp (A:=A127) mixed Tryz.call127 Tryz.func127 (c:=b127) rfl (aI (qad qab a) (aI (qad qab a2) (aI (aI trivial trivial) trivial))) z (by kernel_rfl)
    · obtain rfl:=lf h
      have z:=svn (sT29.ln a) <| svn (sT29.ln a2) <| sg 0 c1 <| svn (sT29.ln a) <| spc (e := .exit 0) (s1:=qdZ a a2 (a.length:Int) (.inr o7)) (qmB R21 hR21 a a2 (a.length:Int) 0 bo7) <| en (aI (rP (.bool true)) <| trivial)
      exact C.evp (A:=A127) mixed Tryz.call127 Tryz.func127 (c:=b127) rfl (aI (qad qab a) (aI (qad qab a2) (aI (aI trivial trivial) trivial))) z (by kernel_rfl)
noncomputable def b101:Code:=Tryz.f101.body.getD .skip
def A101:List Nat:=[]
noncomputable def qms (R21:qed) (a:tPred) (a2:tPred):Option (Bool) :=
  if (a.Op == a2.Op) = true then
    if (a.Name == a2.Name) = true then
      if (a.N == a2.N) = true then
        (qor R21 a.Kids a2.Kids).bind fun r4 =>
        some r4
      else
        some false
    else
      some false
  else
    some false
theorem quD (R21:qed) (hR21:qlK R21) {a:tPred} {a2:tPred} {r:Bool} (h:qms R21 a a2 = some r):CC Pg GE 101 [.agg (qaa a),.agg (qaa a2)] (.bool r) []:=by
  rcases ifs h with ⟨c1,h⟩ | ⟨c1,h⟩
  · rcases ifs h with ⟨c2,h⟩ | ⟨c2,h⟩
    · rcases ifs h with ⟨c3,h⟩ | ⟨c3,h⟩
      · obtain ⟨r4,br4,h⟩:=bnd h
        obtain rfl:=lf h
        have z:=se (qat a) <| se (qat a2) <| sv (qal a) <| sv (qak a) <| sv (qal a2) <| sv (qak a2) <| sg 6 c1 <| sv (qao a) <| sv (qax a) <| sv (qao a2) <| sv (qax a2) <| sg 13 c2 <| sv (qaW a) <| sv (qbd a) <| sv (qaW a2) <| sv (qbd a2) <| sg 20 c3 <| sv (qas a) <| sv (qar a) <| sv (qas a2) <| sv (qar a2) <| sca (qvs R21 hR21 br4) <| en (aI (rP (.bool r4)) <| trivial)
        exact C.evp (A:=A101) mixed Tryz.call101 Tryz.func101 (c:=b101) rfl (aI (qab a) (aI (qab a2) trivial)) z (by kernel_rfl)
      · obtain rfl:=lf h
        have z:=se (qat a) <| se (qat a2) <| sv (qal a) <| sv (qak a) <| sv (qal a2) <| sv (qak a2) <| sg 6 c1 <| sv (qao a) <| sv (qax a) <| sv (qao a2) <| sv (qax a2) <| sg 13 c2 <| sv (qaW a) <| sv (qbd a) <| sv (qaW a2) <| sv (qbd a2) <| sg 20 c3 <| en (aI (rP (.bool false)) <| trivial)
        exact C.evp (A:=A101) mixed Tryz.call101 Tryz.func101 (c:=b101) rfl (aI (qab a) (aI (qab a2) trivial)) z (by kernel_rfl)
    · obtain rfl:=lf h
      have z:=se (qat a) <| se (qat a2) <| sv (qal a) <| sv (qak a) <| sv (qal a2) <| sv (qak a2) <| sg 6 c1 <| sv (qao a) <| sv (qax a) <| sv (qao a2) <| sv (qax a2) <| sg 13 c2 <| en (aI (rP (.bool false)) <| trivial)
      exact C.evp (A:=A101) mixed Tryz.call101 Tryz.func101 (c:=b101) rfl (aI (qab a) (aI (qab a2) trivial)) z (by kernel_rfl)
  · obtain rfl:=lf h
    have z:=se (qat a) <| se (qat a2) <| sv (qal a) <| sv (qak a) <| sv (qal a2) <| sv (qak a2) <| sg 6 c1 <| en (aI (rP (.bool false)) <| trivial)
    exact C.evp (A:=A101) mixed Tryz.call101 Tryz.func101 (c:=b101) rfl (aI (qab a) (aI (qab a2) trivial)) z (by kernel_rfl)
noncomputable def qpp:((tPred×tPred)→Option (Bool))→(tPred×tPred)→Option (Bool):=fun (rec:(tPred×tPred)→Option (Bool)) (x:tPred×tPred) => qms (fun a a2 => rec (a,a2)) x.1 x.2
noncomputable def qix (a:tPred) (a2:tPred):Option (Bool):=fixE (qpp) (a,a2)
theorem qdy {a:tPred} {a2:tPred} {r:Bool} (h:qix a a2 = some r):CC Pg GE 101 [.agg (qaa a),.agg (qaa a2)] (.bool r) [] :=
  qcs (F:=qpp) (M:=fun (x:tPred×tPred) (r:Bool) => CC Pg GE 101 [.agg (qaa x.1),.agg (qaa x.2)] (.bool r) []) (fun rec hrec x r h => quD _ (fun a a2 r h => hrec (a,a2) r h) h) h
abbrev qbC:=(tPred→(List Str)→(List tPred)→Option (tPred))
abbrev qeY (R:qbC):Prop := ∀ (p:tPred) (a:(List Str)) (a2:(List tPred)) (r:tPred),R p a a2 = some r→CC Pg GE 128 [.agg (qaa p),sl cS a,sl qaa a2] (.agg (qaa r)) [(3,31)]
noncomputable def b108:Code:=Tryz.f108.body.getD .skip
def A108:List Nat:=[10,17]
noncomputable def qdV (s:(List Str)) (v:Str) (t7:Int) (t8:Int):PSt:=stt 19 [(0,sl cS s),(1,.str v),(7,.int .i64 t7),(8,.int .i64 t8)] [] []
noncomputable def qdX (o:(Int)⊕(Unit)):Exit:=match o with
  | (.inl _) => .ret
  | (.inr _) => .exit 0
noncomputable def qdi (s:(List Str)) (v:Str) (t7:Int) (o:(Int)⊕(Unit)):PSt:=match o with
  | (.inl o) => stt 19 [(4,.int .i64 o)] [] []
  | (.inr o) => stt 19 [] [] []
noncomputable def qcD (s:(List Str)) (v:Str) (t7:Int) (t8:Int):Option ((Int)⊕((Int)⊕(Unit))) :=
  if (decide (t8 < t7)) = true then
    (idx s t8).bind fun x2 =>
    if (v == x2) = true then
      some (.inr (.inl t8))
    else
      some (.inl (w64 (t8 + 1)))
  else
    some (.inr (.inr ()))
noncomputable def qjv (s:(List Str)) (v:Str) (t7:Int) (t8:Int):Option ((Int)⊕(Unit)):=loop (fun (zz:Int) => qcD s v t7 zz) t8
theorem qpj (s:(List Str)) (v:Str) (t7:Int) (t8:Int) {y:(Int)⊕((Int)⊕(Unit))} (h:qcD s v t7 t8 = some y) :
    Sat Pg GE 0 (cA b108 55) (LQ (fun (zz:Int) => qdV s v t7 zz) qdX (qdi s v t7) y) (qdV s v t7 t8):=by
  rcases ifs h with ⟨c1,h⟩ | ⟨c1,h⟩
  · obtain ⟨x2,bx2,h⟩:=bnd h
    rcases ifs h with ⟨c3,h⟩ | ⟨c3,h⟩
    · obtain rfl:=lf h
      have z:=sg 0 c1 <| sv (sT22.ia (k := .i64) bx2) <| sv (qbb sc9 (.str x2) []) <| sg 0 c3 <| eF (qdX (.inl t8)) (qdi s v t7 (.inl t8))
      exact qbE (A:=A108) mixed (by intro hx; cases hx) z (by kernel_rfl)
    · obtain rfl:=lf h
      have z:=sg 0 c1 <| sv (sT22.ia (k := .i64) bx2) <| sv (qbb sc9 (.str x2) []) <| sg 0 c3 <| eF .normal (qdV s v t7 (w64 (t8 + 1)))
      exact qjk (A:=A108) mixed z (by kernel_rfl)
  · obtain rfl:=lf h
    have z:=sg 0 c1 <| eF (qdX (.inr ())) (qdi s v t7 (.inr ()))
    exact qbE (A:=A108) mixed (by intro hx; cases hx) z (by kernel_rfl)
theorem qka (s:(List Str)) (v:Str) (t7:Int) (t8:Int) {x:(Int)⊕(Unit)} (h:qjv s v t7 t8 = some x) :
    Sat Pg GE 0 (.loop (cA b108 55)) (EX (qdX x) (qdi s v t7 x)) (qdV s v t7 t8) :=
  Sat.loop (S:=fun (zz:Int) => qdV s v t7 zz) (ex:=qdX) (s:=t8) h fun zz y hy => qpj s v t7 zz hy
noncomputable def qit (s:(List Str)) (v:Str):Option (Int) :=
  (qjv s v (s.length:Int) 0).bind fun o4 => match o4 with
  | (.inl o4) =>
    some o4
  | (.inr o4) =>
    some (-1)
theorem qnK {s:(List Str)} {v:Str} {r:Int} (h:qit s v = some r):CC Pg GE 108 [sl cS s,.str v] (.int .i64 r) []:=by
  obtain ⟨o4,bo4,h⟩:=bnd h
  rcases o4 with o4 | o4
  · obtain rfl:=lf h
    have z:=svn (sT22.ln s) <| spc (e := .ret) (s1:=qdi s v (s.length:Int) (.inl o4)) (qka s v (s.length:Int) 0 bo4) <| en (aI (rP (.int .i64 o4)) <| trivial)
    exact C.evp (A:=A108) mixed Tryz.call108 Tryz.func108 (c:=b108) rfl (aI (qad clS s) (aI trivial trivial)) z (by kernel_rfl)
  · obtain rfl:=lf h
    have z:=svn (sT22.ln s) <| spc (e := .exit 0) (s1:=qdi s v (s.length:Int) (.inr o4)) (qka s v (s.length:Int) 0 bo4) <| en (aI (rP (.int .i64 (-1))) <| trivial)
    exact C.evp (A:=A108) mixed Tryz.call108 Tryz.func108 (c:=b108) rfl (aI (qad clS s) (aI trivial trivial)) z (by kernel_rfl)
noncomputable def b143:Code:=Tryz.f143.body.getD .skip
def A143:List Nat:=[]
noncomputable def qrs (a:(List Str)) (s:Str):Option (Int) :=
  (qit a s).bind fun r1 =>
  some r1
theorem qqd {a:(List Str)} {s:Str} {r:Int} (h:qrs a s = some r):CC Pg GE 143 [sl cS a,.str s] (.int .i64 r) []:=by
  obtain ⟨r1,br1,h⟩:=bnd h
  obtain rfl:=lf h
  have z:=sca (qnK br1) <| en (aI (rP (.int .i64 r1)) <| trivial)
  exact C.evp (A:=A143) mixed Tryz.call143 Tryz.func143 (c:=b143) rfl (aI (qad clS a) (aI trivial trivial)) z (by kernel_rfl)
abbrev qer:=(tPred→Option (tPred))
abbrev qmk (R:qer):Prop := ∀ (p:tPred) (r:tPred),R p = some r→CC Pg GE 105 [.agg (qaa p)] (.agg (qaa r)) [(3,31)]
end Go.Proofs.YtgldgpdhblndkaaGreatDoor
