/- WHAT IS PROVED: parts of the proof, put together by a program (G1). Conditions: none. -/
import Derived.Test.YtgldgpdhblndkaaGreatDoorPkE26
import Derived.Test.YtgldgpdhblndkaaGreatDoorPkE28
noncomputable section
namespace Go.Proofs.YtgldgpdhblndkaaGreatDoor
open Go
set_option linter.unusedVariables false
set_option maxRecDepth 100000
noncomputable def b41:Code:=Tryz.f41.body.getD .skip
def A41:List Nat:=[]
def qBf (s:Str):Option (tPred) :=
 some (⟨3,s,0,([]:List tPred)⟩:tPred)
theorem qoN {s:Str} {r:tPred} (h:qBf s = some r):CC Pg GE 41 [.str s] (.agg (qaa r)) [(3,31)]:=by
 obtain rfl:=lf h
 have z:=sx pz31 <| sb (qfj 3 s) (qfn 3 s) <| sy (qal (⟨3,s,0,([]:List tPred)⟩:tPred)) <| en (aI (qaY (⟨3,s,0,([]:List tPred)⟩:tPred)) <| aI (qab (⟨3,s,0,([]:List tPred)⟩:tPred)) <| rT)
 exact cvZ A41 Tryz.call41 Tryz.func41 (c:=b41) rfl (aI trivial trivial) z (by kernel_rfl)
noncomputable def b40:Code:=Tryz.f40.body.getD .skip
def A40:List Nat:=[]
def qy2 (s:Str) (a:waA):Option (tPred) :=
 some (⟨4,s,0,a⟩:tPred)
theorem qsz {s:Str} {a:waA} {r:tPred} (h:qy2 s a = some r):CC Pg GE 40 [.str s,sl qaa a] (.agg (qaa r)) []:=by
 obtain rfl:=lf h
 have z:=sx pz31 <| sv (qiN 4 s a) <| sx (qaw (⟨4,s,0,a⟩:tPred)) <| en (aI (qaY (⟨4,s,0,a⟩:tPred)) <| (qab (⟨4,s,0,a⟩:tPred)))
 exact cvZ A40 Tryz.call40 Tryz.func40 (c:=b40) rfl (aI trivial (aI (qad qab a) trivial)) z (by kernel_rfl)
noncomputable def b42:Code:=Tryz.f42.body.getD .skip
def A42:List Nat:=[]
def qgK (p:tPred):Option (tType) :=
 some (⟨1,([]:Str),([]:List tType),([]:List Str),p,([]:List tPred)⟩:tType)
theorem qeM {p:tPred} {r:tType} (h:qgK p = some r):CC Pg GE 42 [.agg (qaa p)] (.agg (qac r)) [(2,33),(3,9),(8,31)]:=by
 obtain rfl:=lf h
 have z:=se (qaL p) <| sx pz33 <| sv (qaj p) <| sb (qzl 1 p) (qAG 1 p) <| sy (qav (⟨1,([]:Str),([]:List tType),([]:List Str),p,([]:List tPred)⟩:tType)) <| en (aI (qbR (⟨1,([]:Str),([]:List tType),([]:List Str),p,([]:List tPred)⟩:tType)) <| aI (qaf (⟨1,([]:Str),([]:List tType),([]:List Str),p,([]:List tPred)⟩:tType)) <| rT)
 exact cvZ A42 Tryz.call42 Tryz.func42 (c:=b42) rfl (aI (qab p) trivial) z (by kernel_rfl)
noncomputable def b39:Code:=Tryz.f39.body.getD .skip
def A39:List Nat:=[15]
def qnl (a:tAbs) (a2:Str) (a3:waF):Option (tHole) :=
 (cat a2 ([46]:Str)).bind fun s1 =>
 (cat s1 a.Name).bind fun s2 =>
 (app ([(⟨([118]:Str),a.Sort_⟩:tVar)]:List tVar) a3).bind fun l3 =>
 some (⟨s2,l3⟩:tHole)
theorem qq1 {a:tAbs} {a2:Str} {a3:waF} {r:tHole} (h:qnl a a2 a3 = some r):CC Pg GE 39 [.agg (qap a),.eptr (cS a2),.eptr ((cL qaz) a3)] (.agg (qai r)) []:=by
 obtain ⟨s1,bs1,h⟩:=bnd h
 obtain ⟨s2,bs2,h⟩:=bnd h
 obtain ⟨l3,bl3,h⟩:=bnd h
 obtain rfl:=lf h
 have z:=se (qEC a) <| sx pz82 <| sv (qzn a) <| sv (qAv a) <| sv (qqN ([118]:Str) a.Sort_) <| sv (sT36.mk' (v:=qBZ) qyw ([(⟨([118]:Str),a.Sort_⟩:tVar)]:List tVar) 1 (by kernel_rfl)) <| sdr [0,1,0,4,15,0,0,96,255,511] <| sv (qaR sc9 (.str a2) []) <| sv (qxj (P:=Pg) (t:=9) bs1) <| sv (qoD a) <| sv (qqB a) <| sv (qxj (P:=Pg) (t:=9) bs2) <| sv (qaR sc36 (sl qaz a3) []) <| sv (sT36.ap bl3) <| sv (qza s2 l3) <| sx (qoG (⟨s2,l3⟩:tHole)) <| en (aI (qv3 (⟨s2,l3⟩:tHole)) <| (qaD (⟨s2,l3⟩:tHole)))
 exact cvZ A39 Tryz.call39 Tryz.func39 (c:=b39) rfl (aI (qaO a) (aI (clS a2) (aI (clLs qbN a3) trivial))) z (by kernel_rfl)
noncomputable def b38:Code:=Tryz.f38.body.getD .skip
def A38:List Nat:=[14,21]
def qc5 (v:Str) (v2:waF) (out:waD) (t8:waE) (t9:Int) (t10:Int):PSt:=stt 22 [(1,.func (.func 39) [] [.eptr (cS v),.eptr ((cL qaz) v2)]),(5,sl qai out),(8,sl qap t8),(9,.int .i64 t9),(10,.int .i64 t10)] [] [((5,0),82)]
def qfY (v:Str) (v2:waF) (t8:waE) (t9:Int) (o:waD):PSt:=stt 22 [(5,sl qai o)] [] [((5,0),82)]
def qjD (v:Str) (v2:waF) (t8:waE) (t9:Int) (out:waD) (t10:Int):Option ((waD×Int)⊕((waD))) :=
 if (decide (t10 < t9)) = true then
  (idx t8 t10).bind fun x2 =>
  (qnl x2 v v2).bind fun r3 =>
  (app out ([r3]:List tHole)).bind fun l4 =>
  some (.inl (l4,w64 (t10 + 1)))
 else
  some (.inr out)
def qk6 (v:Str) (v2:waF) (t8:waE) (t9:Int) (out:waD) (t10:Int):Option ((waD)):=loop (fun (zz:waD×Int) => qjD v v2 t8 t9 zz.1 zz.2) (out,t10)
theorem qnA (v:Str) (v2:waF) (out:waD) (t8:waE) (t9:Int) (t10:Int) {y:(waD×Int)⊕((waD))} (h:qjD v v2 t8 t9 out t10 = some y) :
  Sat Pg GE 0 (cA b38 119) (LQ (fun (zz:waD×Int) => qc5 v v2 zz.1 t8 t9 zz.2) (fun _ => .exit 0) (qfY v v2 t8 t9) y) (qc5 v v2 out t8 t9 t10):=by
 rcases ifs h with ⟨c1,h⟩ | ⟨c1,h⟩
 ·obtain ⟨x2,bx2,h⟩:=bnd h
  obtain ⟨r3,br3,h⟩:=bnd h
  obtain ⟨l4,bl4,h⟩:=bnd h
  obtain rfl:=lf h
  have z:=sg 0 c1 <| sv (sT24.ia (k := .i64) bx2) <| sv (qxX x2) <| sx pz76 <| sx (qyj x2) <| sv (qFG x2 []) <| sca (qq1 br3) <| sv (sT38.mk' (v:=qFB) qFa ([r3]:List tHole) 1 (by kernel_rfl)) <| sv (sT38.ap bl4) <| eFx 0 .normal (qc5 v v2 l4 t8 t9 (w64 (t10 + 1))) rfl (qbP (aI (aI trivial (aI (qbO (clS v)) (aI (qbO (clLs qbN v2)) trivial))) (aI (up (qad qaD l4)) (aI (up (qad qaO t8)) (aI trivial (aI trivial trivial)))))) trivial
  exact qbi (A:=A38) mixed z (by kernel_rfl)
 ·obtain rfl:=lf h
  have z:=sg 0 c1 <| eF (.exit 0) (qfY v v2 t8 t9 out)
  exact ovZ A38 (by intro hx; cases hx) z (by kernel_rfl)
theorem qoa (v:Str) (v2:waF) (out:waD) (t8:waE) (t9:Int) (t10:Int) {x:(waD)} (h:qk6 v v2 t8 t9 out t10 = some x) :
  Sat Pg GE 0 (.loop (cA b38 119)) (EX (.exit 0) (qfY v v2 t8 t9 x)) (qc5 v v2 out t8 t9 t10) :=
 Sat.loop (S:=fun (zz:waD×Int) => qc5 v v2 zz.1 t8 t9 zz.2) (ex:=(fun _ => .exit 0)) (s:=(out,t10)) h fun zz y hy => qnA v v2 zz.1 t8 t9 zz.2 hy
def qoo (a:waE) (c:Str) (c2:waF):Option (waD) :=
 (qk6 c c2 a (a.length:Int) ([]:List tHole) 0).bind fun o5 =>
 some o5
theorem qrl {a:waE} {c:Str} {c2:waF} {r:waD} (h:qoo a c c2 = some r):CC Pg GE 38 [sl qap a,.func (.func 39) [] [.eptr (cS c),.eptr ((cL qaz) c2)]] (sl qai r) [(0,82)]:=by
 obtain ⟨o5,bo5,h⟩:=bnd h
 obtain rfl:=lf h
 have z:=svn (sT24.ln a) <| spc (qoa c c2 ([]:List tHole) a (a.length:Int) 0 bo5) <| en (aI (rP (sl qai o5)) <| (qad qaD o5))
 exact cvZ A38 Tryz.call38 Tryz.func38 (c:=b38) rfl (aI (qad qaO a) (aI (aI trivial (aI (clS c) (aI (clLs qbN c2) trivial))) trivial)) z (by kernel_rfl)
noncomputable def b9:Code:=Tryz.f9.body.getD .skip
def A9:List Nat:=[]
def qp2 (s:tSig) (a:Str) (scope:waF):Option (waD) :=
 (qoo s.Abs a scope).bind fun r1 =>
 some r1
theorem qtk {s:tSig} {a:Str} {scope:waF} {r:waD} (h:qp2 s a scope = some r):CC Pg GE 9 [.agg (qkR s),.str a,sl qaz scope] (sl qai r) [(0,82)]:=by
 obtain ⟨r1,br1,h⟩:=bnd h
 obtain rfl:=lf h
 have z:=se (qHu s) <| se (pcS a) <| se (pcL qaz scope) <| sv (qzg s) <| sv (qzI s) <| sca (qrl br1) <| en (aI (rP (sl qai r1)) <| (qad qaD r1))
 exact cvZ A9 Tryz.call9 Tryz.func9 (c:=b9) rfl (aI (qHR s) (aI trivial (aI (qad qbN scope) trivial))) z (by kernel_rfl)
noncomputable def b43:Code:=Tryz.f43.body.getD .skip
def A43:List Nat:=[]
def qzy:Option (tModule) :=
 (qBf ([118]:Str)).bind fun r1 =>
 (qy2 ([112]:Str) ([r1]:List tPred)).bind fun r2 =>
 (qBf ([118]:Str)).bind fun r3 =>
 (qy2 ([112]:Str) ([r3]:List tPred)).bind fun r4 =>
 (qgK r4).bind fun r5 =>
 some (⟨([(⟨([76,105,115,116]:Str),([]:List Str),([(⟨([112]:Str),([73,110,116]:Str)⟩:tVar)]:List tVar),([(⟨([78,105,108]:Str),([]:List Str),([]:List tType)⟩:tCon),(⟨([67,111,110,115]:Str),([([120]:Str),([114,101,115,116]:Str)]:List Str),([r5,(⟨4,([76,105,115,116]:Str),([]:List tType),([]:List Str),(⟨0,([]:Str),0,([]:List tPred)⟩:tPred),([r2]:List tPred)⟩:tType)]:List tType)⟩:tCon)]:List tCon)⟩:tData)]:List tData),([]:List tClass),([]:List tInstance),([]:List tMeasure),([]:List tQual),([]:List tDef)⟩:tModule)
theorem qzX {r:tModule} (h:qzy = some r):CC Pg GE 43 [] (.agg (qcI r)) [(1,231),(2,233),(3,236),(4,238),(5,247)]:=by
 obtain ⟨r1,br1,h⟩:=bnd h
 obtain ⟨r2,br2,h⟩:=bnd h
 obtain ⟨r3,br3,h⟩:=bnd h
 obtain ⟨r4,br4,h⟩:=bnd h
 obtain ⟨r5,br5,h⟩:=bnd h
 obtain rfl:=lf h
 have z:=sx pz57 <| sca (qoN br1) <| sv (sT29.mk' (v:=qbq) qaE ([r1]:List tPred) 1 (by kernel_rfl)) <| sca (qsz br2) <| sv (sT29.mk' (v:=qbq) qaE ([r2]:List tPred) 1 (by kernel_rfl)) <| sb (qpM 4 ([76,105,115,116]:Str) ([r2]:List tPred)) (qpW 4 ([76,105,115,116]:Str) ([r2]:List tPred)) <| sx pz33 <| sy (qav (⟨4,([76,105,115,116]:Str),([]:List tType),([]:List Str),(⟨0,([]:Str),0,([]:List tPred)⟩:tPred),([r2]:List tPred)⟩:tType)) <| sdr [0,1,0,0,0,16,48,112,0,496,1016,2044,4095,8191,16383,32767] <| sv (qqN ([112]:Str) ([73,110,116]:Str)) <| sv (sT36.mk' (v:=qBZ) qyw ([(⟨([112]:Str),([73,110,116]:Str)⟩:tVar)]:List tVar) 1 (by kernel_rfl)) <| sb (qEv ([78,105,108]:Str)) (qES ([78,105,108]:Str)) <| sv (sT22.mk' (v:=PVal.str) pcS ([([120]:Str),([114,101,115,116]:Str)]:List Str) 2 (by kernel_rfl)) <| sca (qoN br3) <| sv (sT29.mk' (v:=qbq) qaE ([r3]:List tPred) 1 (by kernel_rfl)) <| sca (qsz br4) <| sca (qeM br5) <| sv (qbn (⟨4,([76,105,115,116]:Str),([]:List tType),([]:List Str),(⟨0,([]:Str),0,([]:List tPred)⟩:tPred),([r2]:List tPred)⟩:tType) []) <| sv (sT27.mk' (v:=qha) qdn ([r5,(⟨4,([76,105,115,116]:Str),([]:List tType),([]:List Str),(⟨0,([]:Str),0,([]:List tPred)⟩:tPred),([r2]:List tPred)⟩:tType)]:List tType) 2 (by kernel_rfl)) <| sv (qxN ([67,111,110,115]:Str) ([([120]:Str),([114,101,115,116]:Str)]:List Str) ([r5,(⟨4,([76,105,115,116]:Str),([]:List tType),([]:List Str),(⟨0,([]:Str),0,([]:List tPred)⟩:tPred),([r2]:List tPred)⟩:tType)]:List tType)) <| sv (sT59.mk' (v:=qG2) qGA ([(⟨([78,105,108]:Str),([]:List Str),([]:List tType)⟩:tCon),(⟨([67,111,110,115]:Str),([([120]:Str),([114,101,115,116]:Str)]:List Str),([r5,(⟨4,([76,105,115,116]:Str),([]:List tType),([]:List Str),(⟨0,([]:Str),0,([]:List tPred)⟩:tPred),([r2]:List tPred)⟩:tType)]:List tType)⟩:tCon)]:List tCon) 2 (by kernel_rfl)) <| sb (qwT ([76,105,115,116]:Str) ([(⟨([112]:Str),([73,110,116]:Str)⟩:tVar)]:List tVar) ([(⟨([78,105,108]:Str),([]:List Str),([]:List tType)⟩:tCon),(⟨([67,111,110,115]:Str),([([120]:Str),([114,101,115,116]:Str)]:List Str),([r5,(⟨4,([76,105,115,116]:Str),([]:List tType),([]:List Str),(⟨0,([]:Str),0,([]:List tPred)⟩:tPred),([r2]:List tPred)⟩:tType)]:List tType)⟩:tCon)]:List tCon)) (qw1 ([76,105,115,116]:Str) ([(⟨([112]:Str),([73,110,116]:Str)⟩:tVar)]:List tVar) ([(⟨([78,105,108]:Str),([]:List Str),([]:List tType)⟩:tCon),(⟨([67,111,110,115]:Str),([([120]:Str),([114,101,115,116]:Str)]:List Str),([r5,(⟨4,([76,105,115,116]:Str),([]:List tType),([]:List Str),(⟨0,([]:Str),0,([]:List tPred)⟩:tPred),([r2]:List tPred)⟩:tType)]:List tType)⟩:tCon)]:List tCon)) <| sv (sT50.mk' (v:=qE3) qEx ([(⟨([76,105,115,116]:Str),([]:List Str),([(⟨([112]:Str),([73,110,116]:Str)⟩:tVar)]:List tVar),([(⟨([78,105,108]:Str),([]:List Str),([]:List tType)⟩:tCon),(⟨([67,111,110,115]:Str),([([120]:Str),([114,101,115,116]:Str)]:List Str),([r5,(⟨4,([76,105,115,116]:Str),([]:List tType),([]:List Str),(⟨0,([]:Str),0,([]:List tPred)⟩:tPred),([r2]:List tPred)⟩:tType)]:List tType)⟩:tCon)]:List tCon)⟩:tData)]:List tData) 1 (by kernel_rfl)) <| sb (qAt ([(⟨([76,105,115,116]:Str),([]:List Str),([(⟨([112]:Str),([73,110,116]:Str)⟩:tVar)]:List tVar),([(⟨([78,105,108]:Str),([]:List Str),([]:List tType)⟩:tCon),(⟨([67,111,110,115]:Str),([([120]:Str),([114,101,115,116]:Str)]:List Str),([r5,(⟨4,([76,105,115,116]:Str),([]:List tType),([]:List Str),(⟨0,([]:Str),0,([]:List tPred)⟩:tPred),([r2]:List tPred)⟩:tType)]:List tType)⟩:tCon)]:List tCon)⟩:tData)]:List tData)) (qAk ([(⟨([76,105,115,116]:Str),([]:List Str),([(⟨([112]:Str),([73,110,116]:Str)⟩:tVar)]:List tVar),([(⟨([78,105,108]:Str),([]:List Str),([]:List tType)⟩:tCon),(⟨([67,111,110,115]:Str),([([120]:Str),([114,101,115,116]:Str)]:List Str),([r5,(⟨4,([76,105,115,116]:Str),([]:List tType),([]:List Str),(⟨0,([]:Str),0,([]:List tPred)⟩:tPred),([r2]:List tPred)⟩:tType)]:List tType)⟩:tCon)]:List tCon)⟩:tData)]:List tData)) <| syx (qBz (⟨([(⟨([76,105,115,116]:Str),([]:List Str),([(⟨([112]:Str),([73,110,116]:Str)⟩:tVar)]:List tVar),([(⟨([78,105,108]:Str),([]:List Str),([]:List tType)⟩:tCon),(⟨([67,111,110,115]:Str),([([120]:Str),([114,101,115,116]:Str)]:List Str),([r5,(⟨4,([76,105,115,116]:Str),([]:List tType),([]:List Str),(⟨0,([]:Str),0,([]:List tPred)⟩:tPred),([r2]:List tPred)⟩:tType)]:List tType)⟩:tCon)]:List tCon)⟩:tData)]:List tData),([]:List tClass),([]:List tInstance),([]:List tMeasure),([]:List tQual),([]:List tDef)⟩:tModule)) <| en (aI (qAM (⟨([(⟨([76,105,115,116]:Str),([]:List Str),([(⟨([112]:Str),([73,110,116]:Str)⟩:tVar)]:List tVar),([(⟨([78,105,108]:Str),([]:List Str),([]:List tType)⟩:tCon),(⟨([67,111,110,115]:Str),([([120]:Str),([114,101,115,116]:Str)]:List Str),([r5,(⟨4,([76,105,115,116]:Str),([]:List tType),([]:List Str),(⟨0,([]:Str),0,([]:List tPred)⟩:tPred),([r2]:List tPred)⟩:tType)]:List tType)⟩:tCon)]:List tCon)⟩:tData)]:List tData),([]:List tClass),([]:List tInstance),([]:List tMeasure),([]:List tQual),([]:List tDef)⟩:tModule)) <| aI (qlY (⟨([(⟨([76,105,115,116]:Str),([]:List Str),([(⟨([112]:Str),([73,110,116]:Str)⟩:tVar)]:List tVar),([(⟨([78,105,108]:Str),([]:List Str),([]:List tType)⟩:tCon),(⟨([67,111,110,115]:Str),([([120]:Str),([114,101,115,116]:Str)]:List Str),([r5,(⟨4,([76,105,115,116]:Str),([]:List tType),([]:List Str),(⟨0,([]:Str),0,([]:List tPred)⟩:tPred),([r2]:List tPred)⟩:tType)]:List tType)⟩:tCon)]:List tCon)⟩:tData)]:List tData),([]:List tClass),([]:List tInstance),([]:List tMeasure),([]:List tQual),([]:List tDef)⟩:tModule)) <| rT)
 exact cvZ A43 Tryz.call43 Tryz.func43 (c:=b43) rfl trivial z (by kernel_rfl)
noncomputable def b61:Code:=Tryz.f61.body.getD .skip
def A61:List Nat:=[23,31]
def qfA (name:Str) (t12:waH) (t13:Int) (t14:Int) (m:Str) (m2:waB) (m3:waF) (m4:waG):PSt:=stt 35 [(1,.str name),(4,.bptr 1 0),(12,sl qaK t12),(13,.int .i64 t13),(14,.int .i64 t14)] [.dead,.cells [.str m,sl cS m2,sl qaz m3,sl qcw m4] [(1,9),(2,88),(3,63)]] []
def qe8 (o:(Int×Str×waB×waF×waG)⊕(Str×waB×waF×waG)):Exit:=match o with
 | (.inl _) => .ret
 | (.inr _) => .exit 0
def qd1 (name:Str) (t12:waH) (t13:Int) (o:(Int×Str×waB×waF×waG)⊕(Str×waB×waF×waG)):PSt:=match o with
 | (.inl o) => stt 35 [(4,.bptr 1 0),(5,.int .i64 o.1),(6,.bool true)] [.dead,.cells [.str o.2.1,sl cS o.2.2.1,sl qaz o.2.2.2.1,sl qcw o.2.2.2.2] []] []
 | (.inr o) => stt 35 [(4,.bptr 1 0)] [.dead,.cells [.str o.1,sl cS o.2.1,sl qaz o.2.2.1,sl qcw o.2.2.2] [(1,9),(2,88),(3,63)]] []
def qfg (name:Str) (t12:waH) (t13:Int) (t14:Int) (t19:waG) (t20:Int) (t21:Int) (m:Str) (m2:waB) (m3:waF) (m4:waG) (m5:Str) (m6:waB) (m7:waF):PSt:=stt 35 [(1,.str name),(4,.bptr 1 0),(8,.bptr 2 0),(12,sl qaK t12),(13,.int .i64 t13),(14,.int .i64 t14),(19,sl qcw t19),(20,.int .i64 t20),(21,.int .i64 t21)] [.dead,.cells [.str m,sl cS m2,sl qaz m3,sl qcw m4] [(1,9),(2,88),(3,63)],.cells [.str m5,sl cS m6,sl qaz m7,sl qcw t19] []] []
def qfu (o:(Int)⊕(Str×waB×waF×waG)):Exit:=match o with
 | (.inl _) => .ret
 | (.inr _) => .exit 2
def qdT (name:Str) (t12:waH) (t13:Int) (t14:Int) (t19:waG) (t20:Int) (m5:Str) (m6:waB) (m7:waF) (o:(Int)⊕(Str×waB×waF×waG)):PSt:=match o with
 | (.inl o) => stt 35 [(4,.bptr 1 0),(5,.int .i64 o),(6,.bool true)] [.dead,.cells [.str m5,sl cS m6,sl qaz m7,sl qcw t19] [],.cells [.str m5,sl cS m6,sl qaz m7,sl qcw t19] []] []
 | (.inr o) => stt 35 [(1,.str name),(4,.bptr 1 0),(12,sl qaK t12),(13,.int .i64 t13),(14,.int .i64 t14)] [.dead,.cells [.str o.1,sl cS o.2.1,sl qaz o.2.2.1,sl qcw o.2.2.2] [(1,9),(2,88),(3,63)],.cells [.str m5,sl cS m6,sl qaz m7,sl qcw t19] []] []
def qnU (name:Str) (t19:waG) (t20:Int) (t21:Int) (m:Str) (m2:waB) (m3:waF) (m4:waG):Option ((Int×Str×waB×waF×waG)⊕((Int)⊕(Str×waB×waF×waG))) :=
 if (decide (t21 < t20)) = true then
  (idx t19 t21).bind fun x4 =>
  if (x4.Name == name) = true then
   some (.inr (.inl t21))
  else
   some (.inl (w64 (t21 + 1),m,m2,m3,m4))
 else
  some (.inr (.inr (m,m2,m3,m4)))
def qsd (name:Str) (t19:waG) (t20:Int) (t21:Int) (m:Str) (m2:waB) (m3:waF) (m4:waG):Option ((Int)⊕(Str×waB×waF×waG)):=loop (fun (zz:Int×Str×waB×waF×waG) => qnU name t19 t20 zz.1 zz.2.1 zz.2.2.1 zz.2.2.2.1 zz.2.2.2.2) (t21,m,m2,m3,m4)
theorem qtq (name:Str) (t12:waH) (t13:Int) (t14:Int) (t19:waG) (t20:Int) (t21:Int) (m:Str) (m2:waB) (m3:waF) (m4:waG) (m5:Str) (m6:waB) (m7:waF) {y:(Int×Str×waB×waF×waG)⊕((Int)⊕(Str×waB×waF×waG))} (h:qnU name t19 t20 t21 m m2 m3 m4 = some y) :
  Sat Pg GE 0 (cA b61 14303) (LQ (fun (zz:Int×Str×waB×waF×waG) => qfg name t12 t13 t14 t19 t20 zz.1 zz.2.1 zz.2.2.1 zz.2.2.2.1 zz.2.2.2.2 m5 m6 m7) qfu (qdT name t12 t13 t14 t19 t20 m5 m6 m7) y) (qfg name t12 t13 t14 t19 t20 t21 m m2 m3 m4 m5 m6 m7):=by
 rcases ifs h with ⟨c3,h⟩ | ⟨c3,h⟩
 ·obtain ⟨x4,bx4,h⟩:=bnd h
  have p6:=fun {sc F} (r:PS sc F) => sg 0 c3 <| sv (sT59.ia (k := .i64) bx4) <| sv (qHr x4) <| sx pz63 <| sx (qGc x4) <| ss <| r
  rcases ifs h with ⟨c5,h⟩ | ⟨c5,h⟩
  ·obtain rfl:=lf h
   have z:=p6 <| sg 0 c5 <| sv (qEd (⟨m5,m6,m7,t19⟩:tData) []) <| sx (qrS (⟨m5,m6,m7,t19⟩:tData)) <| eFx 0 (qfu (.inl t21)) (qdT name t12 t13 t14 t19 t20 m5 m6 m7 (.inl t21)) rfl (qbP (aI (qch rfl) (aI trivial (aI trivial trivial)))) (aI trivial (aI (aI trivial (aI (up (qad clS m6)) (aI (up (qad qbN m7)) (aI (up (qad qmj t19)) trivial)))) (aI (aI trivial (aI (up (qad clS m6)) (aI (up (qad qbN m7)) (aI (up (qad qmj t19)) trivial)))) trivial)))
   exact qpJ (A:=A61) mixed (by intro hx; cases hx) z (by kernel_rfl)
  ·obtain rfl:=lf h
   have z:=p6 <| sg 0 c5 <| eFx 0 .normal (qfg name t12 t13 t14 t19 t20 (w64 (t21 + 1)) m m2 m3 m4 m5 m6 m7) rfl (qbP (aI trivial (aI (qch rfl) (aI (qch rfl) (aI (up (qad qdA t12)) (aI trivial (aI trivial (aI (up (qad qmj t19)) (aI trivial (aI trivial trivial)))))))))) (aI trivial (aI (aI trivial (aI (up (qad clS m2)) (aI (up (qad qbN m3)) (aI (up (qad qmj m4)) trivial)))) (aI (aI trivial (aI (up (qad clS m6)) (aI (up (qad qbN m7)) (aI (up (qad qmj t19)) trivial)))) trivial)))
   exact qbi (A:=A61) mixed z (by kernel_rfl)
 ·obtain rfl:=lf h
  have z:=sg 0 c3 <| eF (qfu (.inr (m,m2,m3,m4))) (qdT name t12 t13 t14 t19 t20 m5 m6 m7 (.inr (m,m2,m3,m4)))
  exact ovZ A61 (by intro hx; cases hx) z (by kernel_rfl)
theorem qnt (name:Str) (t12:waH) (t13:Int) (t14:Int) (t19:waG) (t20:Int) (t21:Int) (m:Str) (m2:waB) (m3:waF) (m4:waG) (m5:Str) (m6:waB) (m7:waF) {x:(Int)⊕(Str×waB×waF×waG)} (h:qsd name t19 t20 t21 m m2 m3 m4 = some x) :
  Sat Pg GE 0 (.loop (cA b61 14303)) (EX (qfu x) (qdT name t12 t13 t14 t19 t20 m5 m6 m7 x)) (qfg name t12 t13 t14 t19 t20 t21 m m2 m3 m4 m5 m6 m7) :=
 Sat.loop (S:=fun (zz:Int×Str×waB×waF×waG) => qfg name t12 t13 t14 t19 t20 zz.1 zz.2.1 zz.2.2.1 zz.2.2.2.1 zz.2.2.2.2 m5 m6 m7) (ex:=qfu) (s:=(t21,m,m2,m3,m4)) h fun zz y hy => qtq name t12 t13 t14 t19 t20 zz.1 zz.2.1 zz.2.2.1 zz.2.2.2.1 zz.2.2.2.2 m5 m6 m7 hy
def qoM (name:Str) (t12:waH) (t13:Int) (t14:Int) (m:Str) (m2:waB) (m3:waF) (m4:waG):Option ((Int×Str×waB×waF×waG)⊕((Int×Str×waB×waF×waG)⊕(Str×waB×waF×waG))) :=
 if (decide (t14 < t13)) = true then
  (idx t12 t14).bind fun x2 =>
  (qsd name x2.Cons (x2.Cons.length:Int) 0 m m2 m3 m4).bind fun o7 => match o7 with
  | (.inl o7) =>
   some (.inr (.inl (o7,x2.Name,x2.Vars,x2.Preds,x2.Cons)))
  | (.inr o7) =>
   some (.inl (w64 (t14 + 1),o7.1,o7.2.1,o7.2.2.1,o7.2.2.2))
 else
  some (.inr (.inr (m,m2,m3,m4)))
def qrh (name:Str) (t12:waH) (t13:Int) (t14:Int) (m:Str) (m2:waB) (m3:waF) (m4:waG):Option ((Int×Str×waB×waF×waG)⊕(Str×waB×waF×waG)):=loop (fun (zz:Int×Str×waB×waF×waG) => qoM name t12 t13 zz.1 zz.2.1 zz.2.2.1 zz.2.2.2.1 zz.2.2.2.2) (t14,m,m2,m3,m4)
theorem qsD (name:Str) (t12:waH) (t13:Int) (t14:Int) (m:Str) (m2:waB) (m3:waF) (m4:waG) {y:(Int×Str×waB×waF×waG)⊕((Int×Str×waB×waF×waG)⊕(Str×waB×waF×waG))} (h:qoM name t12 t13 t14 m m2 m3 m4 = some y) :
  Sat Pg GE 0 (cA b61 55) (LQ (fun (zz:Int×Str×waB×waF×waG) => qfA name t12 t13 zz.1 zz.2.1 zz.2.2.1 zz.2.2.2.1 zz.2.2.2.2) qe8 (qd1 name t12 t13) y) (qfA name t12 t13 t14 m m2 m3 m4):=by
 rcases ifs h with ⟨c1,h⟩ | ⟨c1,h⟩
 ·obtain ⟨x2,bx2,h⟩:=bnd h
  obtain ⟨o7,bo7,h⟩:=bnd h
  rcases o7 with o7 | o7
  ·obtain rfl:=lf h
   have z:=sg 0 c1 <| sv (sT50.ia (k := .i64) bx2) <| sv (qBR x2) <| sx pz61 <| sx (qrS x2) <| ss <| svn (sT59.ln x2.Cons) <| spc (e := .ret) (s1:=qdT name t12 t13 t14 x2.Cons (x2.Cons.length:Int) x2.Name x2.Vars x2.Preds (.inl o7)) (qnt name t12 t13 t14 x2.Cons (x2.Cons.length:Int) 0 m m2 m3 m4 x2.Name x2.Vars x2.Preds bo7) <| eFx 0 (qe8 (.inl (o7,x2.Name,x2.Vars,x2.Preds,x2.Cons))) (qd1 name t12 t13 (.inl (o7,x2.Name,x2.Vars,x2.Preds,x2.Cons))) rfl (qbP (aI (qch rfl) (aI trivial (aI trivial trivial)))) (aI trivial (aI (aI trivial (aI (up (qad clS x2.Vars)) (aI (up (qad qbN x2.Preds)) (aI (up (qad qmj x2.Cons)) trivial)))) trivial))
   exact qpJ (A:=A61) mixed (by intro hx; cases hx) z (by kernel_rfl)
  ·obtain rfl:=lf h
   have z:=sg 0 c1 <| sv (sT50.ia (k := .i64) bx2) <| sv (qBR x2) <| sx pz61 <| sx (qrS x2) <| ss <| svn (sT59.ln x2.Cons) <| spc (e := .exit 2) (s1:=qdT name t12 t13 t14 x2.Cons (x2.Cons.length:Int) x2.Name x2.Vars x2.Preds (.inr o7)) (qnt name t12 t13 t14 x2.Cons (x2.Cons.length:Int) 0 m m2 m3 m4 x2.Name x2.Vars x2.Preds bo7) <| eFx 0 .normal (qfA name t12 t13 (w64 (t14 + 1)) o7.1 o7.2.1 o7.2.2.1 o7.2.2.2) rfl (qbP (aI trivial (aI (qch rfl) (aI (up (qad qdA t12)) (aI trivial (aI trivial trivial)))))) (aI trivial (aI (aI trivial (aI (up (qad clS o7.2.1)) (aI (up (qad qbN o7.2.2.1)) (aI (up (qad qmj o7.2.2.2)) trivial)))) trivial))
   exact qbi (A:=A61) mixed z (by kernel_rfl)
 ·obtain rfl:=lf h
  have z:=sg 0 c1 <| eF (qe8 (.inr (m,m2,m3,m4))) (qd1 name t12 t13 (.inr (m,m2,m3,m4)))
  exact ovZ A61 (by intro hx; cases hx) z (by kernel_rfl)
theorem qnh (name:Str) (t12:waH) (t13:Int) (t14:Int) (m:Str) (m2:waB) (m3:waF) (m4:waG) {x:(Int×Str×waB×waF×waG)⊕(Str×waB×waF×waG)} (h:qrh name t12 t13 t14 m m2 m3 m4 = some x) :
  Sat Pg GE 0 (.loop (cA b61 55)) (EX (qe8 x) (qd1 name t12 t13 x)) (qfA name t12 t13 t14 m m2 m3 m4) :=
 Sat.loop (S:=fun (zz:Int×Str×waB×waF×waG) => qfA name t12 t13 zz.1 zz.2.1 zz.2.2.1 zz.2.2.2.1 zz.2.2.2.2) (ex:=qe8) (s:=(t14,m,m2,m3,m4)) h fun zz y hy => qsD name t12 t13 zz.1 zz.2.1 zz.2.2.1 zz.2.2.2.1 zz.2.2.2.2 hy
def qxo (m:tModule) (name:Str):Option (tData×Int×Bool) :=
 (qrh name m.Datas (m.Datas.length:Int) 0 ([]:Str) ([]:List Str) ([]:List tVar) ([]:List tCon)).bind fun o8 => match o8 with
 | (.inl o8) =>
  some ((⟨o8.2.1,o8.2.2.1,o8.2.2.2.1,o8.2.2.2.2⟩:tData),o8.1,true)
 | (.inr o8) =>
  some ((⟨([]:Str),([]:List Str),([]:List tVar),([]:List tCon)⟩:tData),0,false)
theorem qx2 {m:tModule} {name:Str} {r:tData×Int×Bool} (h:qxo m name = some r):CC Pg GE 61 [.agg (qcI m),.str name] (.tuple [.agg (qaK r.1),.int .i64 r.2.1,.bool r.2.2]) []:=by
 obtain ⟨o8,bo8,h⟩:=bnd h
 rcases o8 with o8 | o8
 ·obtain rfl:=lf h
  have z:=se (qs5 m) <| sx pz61 <| sv (qn7 m) <| sv (qoe m) <| svn (sT50.ln m.Datas) <| spc (e := .ret) (s1:=qd1 name m.Datas (m.Datas.length:Int) (.inl o8)) (qnh name m.Datas (m.Datas.length:Int) 0 ([]:Str) ([]:List Str) ([]:List tVar) ([]:List tCon) bo8) <| en (aI (congrArg PVal.tuple (qwI (qz6 (⟨o8.2.1,o8.2.2.1,o8.2.2.2.1,o8.2.2.2.2⟩:tData)) (qwI (rP (.int .i64 o8.1)) (qwI (rP (.bool true)) (rfl:([]:List PVal) = []))))) <| (aI (qdA (⟨o8.2.1,o8.2.2.1,o8.2.2.2.1,o8.2.2.2.2⟩:tData)) (aI trivial (aI trivial trivial))))
  exact cvZ A61 Tryz.call61 Tryz.func61 (c:=b61) rfl (aI (qlY m) (aI trivial trivial)) z (by kernel_rfl)
 ·obtain rfl:=lf h
  have z:=se (qs5 m) <| sx pz61 <| sv (qn7 m) <| sv (qoe m) <| svn (sT50.ln m.Datas) <| spc (e := .exit 0) (s1:=qd1 name m.Datas (m.Datas.length:Int) (.inr o8)) (qnh name m.Datas (m.Datas.length:Int) 0 ([]:Str) ([]:List Str) ([]:List tVar) ([]:List tCon) bo8) <| sb (qCQ ) (qDn ) <| sy (qm0 (⟨([]:Str),([]:List Str),([]:List tVar),([]:List tCon)⟩:tData)) <| en (aI (congrArg PVal.tuple (qwI (qz6 (⟨([]:Str),([]:List Str),([]:List tVar),([]:List tCon)⟩:tData)) (qwI (rP (.int .i64 0)) (qwI (rP (.bool false)) (rfl:([]:List PVal) = []))))) <| (aI (qdA (⟨([]:Str),([]:List Str),([]:List tVar),([]:List tCon)⟩:tData)) (aI trivial (aI trivial trivial))))
  exact cvZ A61 Tryz.call61 Tryz.func61 (c:=b61) rfl (aI (qlY m) (aI trivial trivial)) z (by kernel_rfl)
abbrev qa5:=(tType→tData→waA→Option (tType))
abbrev qdC (R:qa5):Prop := ∀ (t:tType) (c:tData) (c2:waA) (r:tType),R t c c2 = some r→CC Pg GE 51 [.agg (qac t),.func (.func 64) [] [.eptr (qaK c),.eptr ((cL qaa) c2)]] (.agg (qac r)) [(2,33)]
abbrev qba:=(tPred→waF→waA→Option (tPred))
abbrev qdL (R:qba):Prop := ∀ (p:tPred) (params:waF) (preds:waA) (r:tPred),R p params preds = some r→CC Pg GE 65 [.agg (qaa p),sl qaz params,sl qaa preds] (.agg (qaa r)) [(3,31)]
noncomputable def b98:Code:=Tryz.f98.body.getD .skip
def A98:List Nat:=[]
def qpV (R16:qba) (k:tPred) (a:waF) (a2:waA):Option (tPred) :=
 (R16 k a a2).bind fun r1 =>
 some r1
theorem qsx (R16:qba) (hR16:qdL R16) {k:tPred} {a:waF} {a2:waA} {r:tPred} (h:qpV R16 k a a2 = some r):CC Pg GE 98 [.agg (qaa k),.eptr ((cL qaz) a),.eptr ((cL qaa) a2)] (.agg (qaa r)) [(3,31)]:=by
 obtain ⟨r1,br1,h⟩:=bnd h
 obtain rfl:=lf h
 have z:=se (qaL k) <| sx pz31 <| sv (qaj k) <| sv (qaR sc36 (sl qaz a) []) <| sv (qaR sc29 (sl qaa a2) []) <| sca (hR16 _ _ _ _ br1) <| sy (qal r1) <| en (aI (qaY r1) <| aI (qab r1) <| rT)
 exact cvZ A98 Tryz.call98 Tryz.func98 (c:=b98) rfl (aI (qab k) (aI (clLs qbN a) (aI (clLs qab a2) trivial))) z (by kernel_rfl)
noncomputable def b56:Code:=Tryz.f56.body.getD .skip
def A56:List Nat:=[14,21]
def qcl (v:waF) (v2:waA) (out:waA) (t8:waA) (t9:Int) (t10:Int):PSt:=stt 22 [(1,.func (.func 98) [] [.eptr ((cL qaz) v),.eptr ((cL qaa) v2)]),(5,sl qaa out),(8,sl qaa t8),(9,.int .i64 t9),(10,.int .i64 t10)] [] [((5,0),31)]
def qeT (v:waF) (v2:waA) (t8:waA) (t9:Int) (o:waA):PSt:=stt 22 [(5,sl qaa o)] [] [((5,0),31)]
def qic (R16:qba) (v:waF) (v2:waA) (t8:waA) (t9:Int) (out:waA) (t10:Int):Option ((waA×Int)⊕((waA))) :=
 if (decide (t10 < t9)) = true then
  (idx t8 t10).bind fun x2 =>
  (qpV R16 x2 v v2).bind fun r3 =>
  (app out ([r3]:List tPred)).bind fun l4 =>
  some (.inl (l4,w64 (t10 + 1)))
 else
  some (.inr out)
def qjE (R16:qba) (v:waF) (v2:waA) (t8:waA) (t9:Int) (out:waA) (t10:Int):Option ((waA)):=loop (fun (zz:waA×Int) => qic R16 v v2 t8 t9 zz.1 zz.2) (out,t10)
theorem qlO (R16:qba) (hR16:qdL R16) (v:waF) (v2:waA) (out:waA) (t8:waA) (t9:Int) (t10:Int) {y:(waA×Int)⊕((waA))} (h:qic R16 v v2 t8 t9 out t10 = some y) :
  Sat Pg GE 0 (cA b56 119) (LQ (fun (zz:waA×Int) => qcl v v2 zz.1 t8 t9 zz.2) (fun _ => .exit 0) (qeT v v2 t8 t9) y) (qcl v v2 out t8 t9 t10):=by
 rcases ifs h with ⟨c1,h⟩ | ⟨c1,h⟩
 ·obtain ⟨x2,bx2,h⟩:=bnd h
  obtain ⟨r3,br3,h⟩:=bnd h
  obtain ⟨l4,bl4,h⟩:=bnd h
  obtain rfl:=lf h
  have z:=sg 0 c1 <| sv (sT29.ia (k := .i64) bx2) <| sv (qaj x2) <| sx pz31 <| sx (qaw x2) <| sv (qar x2 []) <| sca (qsx R16 hR16 br3) <| sv (sT29.mk' (v:=qbq) qaE ([r3]:List tPred) 1 (by kernel_rfl)) <| sv (sT29.ap bl4) <| eFx 0 .normal (qcl v v2 l4 t8 t9 (w64 (t10 + 1))) rfl (qbP (aI (aI trivial (aI (qbO (clLs qbN v)) (aI (qbO (clLs qab v2)) trivial))) (aI (up (qad qab l4)) (aI (up (qad qab t8)) (aI trivial (aI trivial trivial)))))) trivial
  exact qbi (A:=A56) mixed z (by kernel_rfl)
 ·obtain rfl:=lf h
  have z:=sg 0 c1 <| eF (.exit 0) (qeT v v2 t8 t9 out)
  exact ovZ A56 (by intro hx; cases hx) z (by kernel_rfl)
theorem qmc (R16:qba) (hR16:qdL R16) (v:waF) (v2:waA) (out:waA) (t8:waA) (t9:Int) (t10:Int) {x:(waA)} (h:qjE R16 v v2 t8 t9 out t10 = some x) :
  Sat Pg GE 0 (.loop (cA b56 119)) (EX (.exit 0) (qeT v v2 t8 t9 x)) (qcl v v2 out t8 t9 t10) :=
 Sat.loop (S:=fun (zz:waA×Int) => qcl v v2 zz.1 t8 t9 zz.2) (ex:=(fun _ => .exit 0)) (s:=(out,t10)) h fun zz y hy => qlO R16 hR16 v v2 zz.1 t8 t9 zz.2 hy
def qlX (R16:qba) (a:waA) (c:waF) (c2:waA):Option (waA) :=
 (qjE R16 c c2 a (a.length:Int) ([]:List tPred) 0).bind fun o5 =>
 some o5
theorem qpm (R16:qba) (hR16:qdL R16) {a:waA} {c:waF} {c2:waA} {r:waA} (h:qlX R16 a c c2 = some r):CC Pg GE 56 [sl qaa a,.func (.func 98) [] [.eptr ((cL qaz) c),.eptr ((cL qaa) c2)]] (sl qaa r) [(0,31)]:=by
 obtain ⟨o5,bo5,h⟩:=bnd h
 obtain rfl:=lf h
 have z:=svn (sT29.ln a) <| spc (qmc R16 hR16 c c2 ([]:List tPred) a (a.length:Int) 0 bo5) <| en (aI (rP (sl qaa o5)) <| (qad qab o5))
 exact cvZ A56 Tryz.call56 Tryz.func56 (c:=b56) rfl (aI (qad qab a) (aI (aI trivial (aI (clLs qbN c) (aI (clLs qab c2) trivial))) trivial)) z (by kernel_rfl)
noncomputable def b100:Code:=Tryz.f100.body.getD .skip
def A100:List Nat:=[]
def qpY (v:tVar) (a:tPred):Option (Bool) :=
 some (v.Name == a.Name)
theorem qsN {v:tVar} {a:tPred} {r:Bool} (h:qpY v a = some r):CC Pg GE 100 [.agg (qaz v),.eptr (qaa a)] (.bool r) []:=by
 obtain rfl:=lf h
 have z:=se (qEQ v) <| sv (qjd v) <| sv (qkB v) <| sv (qa9 a) <| sv (qbm a) <| en (aI (rP (.bool (v.Name == a.Name))) <| trivial)
 exact cvZ A100 Tryz.call100 Tryz.func100 (c:=b100) rfl (aI (qbN v) (aI (qab a) trivial)) z (by kernel_rfl)
noncomputable def b99:Code:=Tryz.f99.body.getD .skip
def A99:List Nat:=[10,17]
def qcK (s:waF) (v:tPred) (t7:Int) (t8:Int):PSt:=stt 19 [(0,sl qaz s),(1,.func (.func 100) [] [.eptr (qaa v)]),(7,.int .i64 t7),(8,.int .i64 t8)] [] []
def qcD (o:(Int)⊕(Unit)):Exit:=match o with
 | (.inl _) => .ret
 | (.inr _) => .exit 0
def qb1 (s:waF) (v:tPred) (t7:Int) (o:(Int)⊕(Unit)):PSt:=match o with
 | (.inl o) => stt 19 [(4,.int .i64 o)] [] []
 | (.inr o) => stt 19 [] [] []
def qiT (s:waF) (v:tPred) (t7:Int) (t8:Int):Option ((Int)⊕((Int)⊕(Unit))) :=
 if (decide (t8 < t7)) = true then
  (idx s t8).bind fun x2 =>
  (qpY x2 v).bind fun r3 =>
  if r3 = true then
   some (.inr (.inl t8))
  else
   some (.inl (w64 (t8 + 1)))
 else
  some (.inr (.inr ()))
def qj0 (s:waF) (v:tPred) (t7:Int) (t8:Int):Option ((Int)⊕(Unit)):=loop (fun (zz:Int) => qiT s v t7 zz) t8
theorem qmB (s:waF) (v:tPred) (t7:Int) (t8:Int) {y:(Int)⊕((Int)⊕(Unit))} (h:qiT s v t7 t8 = some y) :
  Sat Pg GE 0 (cA b99 55) (LQ (fun (zz:Int) => qcK s v t7 zz) qcD (qb1 s v t7) y) (qcK s v t7 t8):=by
 rcases ifs h with ⟨c1,h⟩ | ⟨c1,h⟩
 ·obtain ⟨x2,bx2,h⟩:=bnd h
  obtain ⟨r3,br3,h⟩:=bnd h
  have p5:=fun {sc F} (r:PS sc F) => sg 0 c1 <| sv (sT36.ia (k := .i64) bx2) <| sv (qAL x2) <| sca (qsN br3) <| r
  rcases ifs h with ⟨c4,h⟩ | ⟨c4,h⟩
  ·obtain rfl:=lf h
   have z:=p5 <| sg 0 c4 <| eF (qcD (.inl t8)) (qb1 s v t7 (.inl t8))
   exact ovZ A99 (by intro hx; cases hx) z (by kernel_rfl)
  ·obtain rfl:=lf h
   have z:=p5 <| sg 0 c4 <| eF .normal (qcK s v t7 (w64 (t8 + 1)))
   exact nxZ A99 z (by kernel_rfl)
 ·obtain rfl:=lf h
  have z:=sg 0 c1 <| eF (qcD (.inr ())) (qb1 s v t7 (.inr ()))
  exact ovZ A99 (by intro hx; cases hx) z (by kernel_rfl)
theorem qh3 (s:waF) (v:tPred) (t7:Int) (t8:Int) {x:(Int)⊕(Unit)} (h:qj0 s v t7 t8 = some x) :
  Sat Pg GE 0 (.loop (cA b99 55)) (EX (qcD x) (qb1 s v t7 x)) (qcK s v t7 t8) :=
 Sat.loop (S:=fun (zz:Int) => qcK s v t7 zz) (ex:=qcD) (s:=t8) h fun zz y hy => qmB s v t7 zz hy
def qnq (s:waF) (c:tPred):Option (Int) :=
 (qj0 s c (s.length:Int) 0).bind fun o6 => match o6 with
 | (.inl o6) =>
  some o6
 | (.inr o6) =>
  some (-1)
theorem qp7 {s:waF} {c:tPred} {r:Int} (h:qnq s c = some r):CC Pg GE 99 [sl qaz s,.func (.func 100) [] [.eptr (qaa c)]] (.int .i64 r) []:=by
 obtain ⟨o6,bo6,h⟩:=bnd h
 rcases o6 with o6 | o6
 ·obtain rfl:=lf h
  have z:=svn (sT36.ln s) <| spc (e := .ret) (s1:=qb1 s c (s.length:Int) (.inl o6)) (qh3 s c (s.length:Int) 0 bo6) <| en (aI (rP (.int .i64 o6)) <| trivial)
  exact cvZ A99 Tryz.call99 Tryz.func99 (c:=b99) rfl (aI (qad qbN s) (aI (aI trivial (aI (qab c) trivial)) trivial)) z (by kernel_rfl)
 ·obtain rfl:=lf h
  have z:=svn (sT36.ln s) <| spc (e := .exit 0) (s1:=qb1 s c (s.length:Int) (.inr o6)) (qh3 s c (s.length:Int) 0 bo6) <| en (aI (rP (.int .i64 (-1))) <| trivial)
  exact cvZ A99 Tryz.call99 Tryz.func99 (c:=b99) rfl (aI (qad qbN s) (aI (aI trivial (aI (qab c) trivial)) trivial)) z (by kernel_rfl)
abbrev qen:=(tPred→tPred→Option (Bool))
abbrev qmO (R:qen):Prop := ∀ (a:tPred) (a2:tPred) (r:Bool),R a a2 = some r→CC Pg GE 101 [.agg (qaa a),.agg (qaa a2)] (.bool r) []
noncomputable def b127:Code:=Tryz.f127.body.getD .skip
def A127:List Nat:=[17]
def qfs (v:waA) (v2:waA) (t14:Int) (t15:Int):PSt:=stt 30 [(0,sl qaa v),(1,sl qaa v2),(2,.func (.func 101) [] []),(14,.int .i64 t14),(15,.int .i64 t15)] [] []
def qfo (o:(Unit)⊕(Unit)):Exit:=match o with
 | (.inl _) => .ret
 | (.inr _) => .exit 0
def qdY (v:waA) (v2:waA) (t14:Int) (o:(Unit)⊕(Unit)):PSt:=match o with
 | (.inl o) => stt 30 [(6,.bool false)] [] []
 | (.inr o) => stt 30 [] [] []
def qou (R21:qen) (v:waA) (v2:waA) (t14:Int) (t15:Int):Option ((Int)⊕((Unit)⊕(Unit))) :=
 if (decide (t15 < t14)) = true then
  (idx v t15).bind fun x4 =>
  (idx v2 t15).bind fun x5 =>
  (R21 x4 x5).bind fun r6 =>
  if (!r6) = true then
   some (.inr (.inl ()))
  else
   some (.inl (w64 (t15 + 1)))
 else
  some (.inr (.inr ()))
def qrQ (R21:qen) (v:waA) (v2:waA) (t14:Int) (t15:Int):Option ((Unit)⊕(Unit)):=loop (fun (zz:Int) => qou R21 v v2 t14 zz) t15
theorem qtz (R21:qen) (hR21:qmO R21) (v:waA) (v2:waA) (t14:Int) (t15:Int) {y:(Int)⊕((Unit)⊕(Unit))} (h:qou R21 v v2 t14 t15 = some y) :
  Sat Pg GE 0 (cA b127 119) (LQ (fun (zz:Int) => qfs v v2 t14 zz) qfo (qdY v v2 t14) y) (qfs v v2 t14 t15):=by
 rcases ifs h with ⟨c3,h⟩ | ⟨c3,h⟩
 ·obtain ⟨x4,bx4,h⟩:=bnd h
  obtain ⟨x5,bx5,h⟩:=bnd h
  obtain ⟨r6,br6,h⟩:=bnd h
  have p8:=fun {sc F} (r:PS sc F) => sg 0 c3 <| sdr [0,0,0,6,14,0,0,96,224,511,1023] <| sv (sT29.ia (k := .i64) bx4) <| sv (qaj x4) <| sv (sT29.ia (k := .i64) bx5) <| sv (qaj x5) <| sca (hR21 _ _ _ br6) <| r
  rcases ifs h with ⟨c7,h⟩ | ⟨c7,h⟩
  ·obtain rfl:=lf h
   have z:=p8 <| sg 0 c7 <| eF (qfo (.inl ())) (qdY v v2 t14 (.inl ()))
   exact ovZ A127 (by intro hx; cases hx) z (by kernel_rfl)
  ·obtain rfl:=lf h
   have z:=p8 <| sg 0 c7 <| eF .normal (qfs v v2 t14 (w64 (t15 + 1)))
   exact nxZ A127 z (by kernel_rfl)
 ·obtain rfl:=lf h
  have z:=sg 0 c3 <| eF (qfo (.inr ())) (qdY v v2 t14 (.inr ()))
  exact ovZ A127 (by intro hx; cases hx) z (by kernel_rfl)
theorem qns (R21:qen) (hR21:qmO R21) (v:waA) (v2:waA) (t14:Int) (t15:Int) {x:(Unit)⊕(Unit)} (h:qrQ R21 v v2 t14 t15 = some x) :
  Sat Pg GE 0 (.loop (cA b127 119)) (EX (qfo x) (qdY v v2 t14 x)) (qfs v v2 t14 t15) :=
 Sat.loop (S:=fun (zz:Int) => qfs v v2 t14 zz) (ex:=qfo) (s:=t15) h fun zz y hy => qtz R21 hR21 v v2 t14 zz hy
def qxc (R21:qen) (a:waA) (a2:waA):Option (Bool) :=
 if ((a.length:Int) != (a2.length:Int)) = true then
  some false
 else
  (qrQ R21 a a2 (a.length:Int) 0).bind fun o9 => match o9 with
  | (.inl o9) =>
   some false
  | (.inr o9) =>
   some true
theorem qyG (R21:qen) (hR21:qmO R21) {a:waA} {a2:waA} {r:Bool} (h:qxc R21 a a2 = some r):CC Pg GE 127 [sl qaa a,sl qaa a2,.func (.func 101) [] []] (.bool r) []:=by
 have p2:=fun {sc F} (r:PS sc F) => svn (sT29.ln a) <| svn (sT29.ln a2) <| r
 rcases ifs h with ⟨c1,h⟩ | ⟨c1,h⟩
 ·obtain rfl:=lf h
  have z:=p2 <| sg 0 c1 <| en (aI (rP (.bool false)) <| trivial)
  exact cvZ A127 Tryz.call127 Tryz.func127 (c:=b127) rfl (aI (qad qab a) (aI (qad qab a2) (aI (aI trivial trivial) trivial))) z (by kernel_rfl)
 ·obtain ⟨o9,bo9,h⟩:=bnd h
  rcases o9 with o9 | o9
  ·obtain rfl:=lf h
   have z:=p2 <| sg 0 c1 <| svn (sT29.ln a) <| spc (e := .ret) (s1:=qdY a a2 (a.length:Int) (.inl o9)) (qns R21 hR21 a a2 (a.length:Int) 0 bo9) <| en (aI (rP (.bool false)) <| trivial)
   exact cvZ A127 Tryz.call127 Tryz.func127 (c:=b127) rfl (aI (qad qab a) (aI (qad qab a2) (aI (aI trivial trivial) trivial))) z (by kernel_rfl)
  ·obtain rfl:=lf h
   have z:=p2 <| sg 0 c1 <| svn (sT29.ln a) <| spc (e := .exit 0) (s1:=qdY a a2 (a.length:Int) (.inr o9)) (qns R21 hR21 a a2 (a.length:Int) 0 bo9) <| en (aI (rP (.bool true)) <| trivial)
   exact cvZ A127 Tryz.call127 Tryz.func127 (c:=b127) rfl (aI (qad qab a) (aI (qad qab a2) (aI (aI trivial trivial) trivial))) z (by kernel_rfl)
noncomputable def b101:Code:=Tryz.f101.body.getD .skip
def A101:List Nat:=[]
def qvq (R21:qen) (a:tPred) (a2:tPred):Option (Bool) :=
 if (a.Op == a2.Op) = true then
  if (a.Name == a2.Name) = true then
   if (a.N == a2.N) = true then
    (qxc R21 a.Kids a2.Kids).bind fun r7 =>
    some r7
   else
    some false
  else
   some false
 else
  some false
theorem qxY (R21:qen) (hR21:qmO R21) {a:tPred} {a2:tPred} {r:Bool} (h:qvq R21 a a2 = some r):CC Pg GE 101 [.agg (qaa a),.agg (qaa a2)] (.bool r) []:=by
 have p2:=fun {sc F} (r:PS sc F) => se (qaL a) <| se (qaL a2) <| sv (qaZ a) <| sv (qa0 a) <| sv (qaZ a2) <| sv (qa0 a2) <| r
 rcases ifs h with ⟨c1,h⟩ | ⟨c1,h⟩
 ·have p4:=fun {sc F} (r:PS sc F) => p2 <| sg 6 c1 <| sv (qa9 a) <| sv (qbm a) <| sv (qa9 a2) <| sv (qbm a2) <| r
  rcases ifs h with ⟨c3,h⟩ | ⟨c3,h⟩
  ·have p6:=fun {sc F} (r:PS sc F) => p4 <| sg 13 c3 <| sv (qcx a) <| sv (qda a) <| sv (qcx a2) <| sv (qda a2) <| r
   rcases ifs h with ⟨c5,h⟩ | ⟨c5,h⟩
   ·obtain ⟨r7,br7,h⟩:=bnd h
    obtain rfl:=lf h
    have z:=p6 <| sg 20 c5 <| sv (qax a) <| sv (qay a) <| sv (qax a2) <| sv (qay a2) <| sca (qyG R21 hR21 br7) <| en (aI (rP (.bool r7)) <| trivial)
    exact cvZ A101 Tryz.call101 Tryz.func101 (c:=b101) rfl (aI (qab a) (aI (qab a2) trivial)) z (by kernel_rfl)
   ·obtain rfl:=lf h
    have z:=p6 <| sg 20 c5 <| en (aI (rP (.bool false)) <| trivial)
    exact cvZ A101 Tryz.call101 Tryz.func101 (c:=b101) rfl (aI (qab a) (aI (qab a2) trivial)) z (by kernel_rfl)
  ·obtain rfl:=lf h
   have z:=p4 <| sg 13 c3 <| en (aI (rP (.bool false)) <| trivial)
   exact cvZ A101 Tryz.call101 Tryz.func101 (c:=b101) rfl (aI (qab a) (aI (qab a2) trivial)) z (by kernel_rfl)
 ·obtain rfl:=lf h
  have z:=p2 <| sg 6 c1 <| en (aI (rP (.bool false)) <| trivial)
  exact cvZ A101 Tryz.call101 Tryz.func101 (c:=b101) rfl (aI (qab a) (aI (qab a2) trivial)) z (by kernel_rfl)
def qv1:((tPred×tPred)→Option (Bool))→(tPred×tPred)→Option (Bool):=fun (rec:(tPred×tPred)→Option (Bool)) (x:tPred×tPred) => qvq (fun a a2 => rec (a,a2)) x.1 x.2
def qlU (a:tPred) (a2:tPred):Option (Bool):=fixE (qv1) (a,a2)
theorem qjb {a:tPred} {a2:tPred} {r:Bool} (h:qlU a a2 = some r):CC Pg GE 101 [.agg (qaa a),.agg (qaa a2)] (.bool r) [] :=
 qbX (F:=qv1) (M:=fun (x:tPred×tPred) (r:Bool) => CC Pg GE 101 [.agg (qaa x.1),.agg (qaa x.2)] (.bool r) []) (fun rec hrec x r h => qxY _ (fun a a2 r h => hrec (a,a2) r h) h) h
abbrev qbt:=(tPred→waB→waA→Option (tPred))
abbrev qe9 (R:qbt):Prop := ∀ (p:tPred) (a:waB) (a2:waA) (r:tPred),R p a a2 = some r→CC Pg GE 128 [.agg (qaa p),sl cS a,sl qaa a2] (.agg (qaa r)) [(3,31)]
noncomputable def b108:Code:=Tryz.f108.body.getD .skip
def A108:List Nat:=[10,17]
def qd9 (s:waB) (v:Str) (t7:Int) (t8:Int):PSt:=stt 19 [(0,sl cS s),(1,.str v),(7,.int .i64 t7),(8,.int .i64 t8)] [] []
def qd2 (o:(Int)⊕(Unit)):Exit:=match o with
 | (.inl _) => .ret
 | (.inr _) => .exit 0
def qdh (s:waB) (v:Str) (t7:Int) (o:(Int)⊕(Unit)):PSt:=match o with
 | (.inl o) => stt 19 [(4,.int .i64 o)] [] []
 | (.inr o) => stt 19 [] [] []
def qcr (s:waB) (v:Str) (t7:Int) (t8:Int):Option ((Int)⊕((Int)⊕(Unit))) :=
 if (decide (t8 < t7)) = true then
  (idx s t8).bind fun x2 =>
  if (v == x2) = true then
   some (.inr (.inl t8))
  else
   some (.inl (w64 (t8 + 1)))
 else
  some (.inr (.inr ()))
def qkz (s:waB) (v:Str) (t7:Int) (t8:Int):Option ((Int)⊕(Unit)):=loop (fun (zz:Int) => qcr s v t7 zz) t8
theorem qqJ (s:waB) (v:Str) (t7:Int) (t8:Int) {y:(Int)⊕((Int)⊕(Unit))} (h:qcr s v t7 t8 = some y) :
  Sat Pg GE 0 (cA b108 55) (LQ (fun (zz:Int) => qd9 s v t7 zz) qd2 (qdh s v t7) y) (qd9 s v t7 t8):=by
 rcases ifs h with ⟨c1,h⟩ | ⟨c1,h⟩
 ·obtain ⟨x2,bx2,h⟩:=bnd h
  have p4:=fun {sc F} (r:PS sc F) => sg 0 c1 <| sv (sT22.ia (k := .i64) bx2) <| sv (qaR sc9 (.str x2) []) <| r
  rcases ifs h with ⟨c3,h⟩ | ⟨c3,h⟩
  ·obtain rfl:=lf h
   have z:=p4 <| sg 0 c3 <| eF (qd2 (.inl t8)) (qdh s v t7 (.inl t8))
   exact ovZ A108 (by intro hx; cases hx) z (by kernel_rfl)
  ·obtain rfl:=lf h
   have z:=p4 <| sg 0 c3 <| eF .normal (qd9 s v t7 (w64 (t8 + 1)))
   exact nxZ A108 z (by kernel_rfl)
 ·obtain rfl:=lf h
  have z:=sg 0 c1 <| eF (qd2 (.inr ())) (qdh s v t7 (.inr ()))
  exact ovZ A108 (by intro hx; cases hx) z (by kernel_rfl)
theorem qk2 (s:waB) (v:Str) (t7:Int) (t8:Int) {x:(Int)⊕(Unit)} (h:qkz s v t7 t8 = some x) :
  Sat Pg GE 0 (.loop (cA b108 55)) (EX (qd2 x) (qdh s v t7 x)) (qd9 s v t7 t8) :=
 Sat.loop (S:=fun (zz:Int) => qd9 s v t7 zz) (ex:=qd2) (s:=t8) h fun zz y hy => qqJ s v t7 zz hy
def qi7 (s:waB) (v:Str):Option (Int) :=
 (qkz s v (s.length:Int) 0).bind fun o5 => match o5 with
 | (.inl o5) =>
  some o5
 | (.inr o5) =>
  some (-1)
theorem qoA {s:waB} {v:Str} {r:Int} (h:qi7 s v = some r):CC Pg GE 108 [sl cS s,.str v] (.int .i64 r) []:=by
 obtain ⟨o5,bo5,h⟩:=bnd h
 rcases o5 with o5 | o5
 ·obtain rfl:=lf h
  have z:=svn (sT22.ln s) <| spc (e := .ret) (s1:=qdh s v (s.length:Int) (.inl o5)) (qk2 s v (s.length:Int) 0 bo5) <| en (aI (rP (.int .i64 o5)) <| trivial)
  exact cvZ A108 Tryz.call108 Tryz.func108 (c:=b108) rfl (aI (qad clS s) (aI trivial trivial)) z (by kernel_rfl)
 ·obtain rfl:=lf h
  have z:=svn (sT22.ln s) <| spc (e := .exit 0) (s1:=qdh s v (s.length:Int) (.inr o5)) (qk2 s v (s.length:Int) 0 bo5) <| en (aI (rP (.int .i64 (-1))) <| trivial)
  exact cvZ A108 Tryz.call108 Tryz.func108 (c:=b108) rfl (aI (qad clS s) (aI trivial trivial)) z (by kernel_rfl)
noncomputable def b143:Code:=Tryz.f143.body.getD .skip
def A143:List Nat:=[]
def qtw (a:waB) (s:Str):Option (Int) :=
 (qi7 a s).bind fun r1 =>
 some r1
theorem qyM {a:waB} {s:Str} {r:Int} (h:qtw a s = some r):CC Pg GE 143 [sl cS a,.str s] (.int .i64 r) []:=by
 obtain ⟨r1,br1,h⟩:=bnd h
 obtain rfl:=lf h
 have z:=sca (qoA br1) <| en (aI (rP (.int .i64 r1)) <| trivial)
 exact cvZ A143 Tryz.call143 Tryz.func143 (c:=b143) rfl (aI (qad clS a) (aI trivial trivial)) z (by kernel_rfl)
abbrev qeo:=(tPred→Option (tPred))
abbrev qmm (R:qeo):Prop := ∀ (p:tPred) (r:tPred),R p = some r→CC Pg GE 105 [.agg (qaa p)] (.agg (qaa r)) [(3,31)]
end Go.Proofs.YtgldgpdhblndkaaGreatDoor
