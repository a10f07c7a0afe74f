/- WHAT IS PROVED: parts of the proof, put together by a program (G5). Conditions: none. -/
import Derived.Test.YtgldgpdhblndkaaGreatDoorPkE32
noncomputable section
namespace Go.Proofs.YtgldgpdhblndkaaGreatDoor
open Go
set_option linter.unusedVariables false
set_option maxRecDepth 100000
def qcg (v:waE) (v2:waD) (out:waA) (t8:waA) (t9:Int) (t10:Int):PSt:=stt 22 [(1,.func (.func 57) [] [.eptr ((cL qap) v),.eptr ((cL qai) v2)]),(5,sl qaa out),(8,sl qaa t8),(9,.int .i64 t9),(10,.int .i64 t10)] [] [((5,0),31)]
def qeU (v:waE) (v2:waD) (t8:waA) (t9:Int) (o:waA):PSt:=stt 22 [(5,sl qaa o)] [] [((5,0),31)]
def qia (R56:qbe) (v:waE) (v2:waD) (t8:waA) (t9:Int) (out:waA) (t10:Int):Option ((waA×Int)⊕((waA))) :=
 if (decide (t10 < t9)) = true then
  (idx t8 t10).bind fun x2 =>
  (qkv R56 x2 v v2).bind fun r3 =>
  (app out ([r3]:List tPred)).bind fun l4 =>
  some (.inl (l4,w64 (t10 + 1)))
 else
  some (.inr out)
def qfS (R56:qbe) (v:waE) (v2:waD) (t8:waA) (t9:Int) (out:waA) (t10:Int):Option ((waA)):=loop (fun (zz:waA×Int) => qia R56 v v2 t8 t9 zz.1 zz.2) (out,t10)
theorem qlV (R56:qbe) (hR56:qd5 R56) (v:waE) (v2:waD) (out:waA) (t8:waA) (t9:Int) (t10:Int) {y:(waA×Int)⊕((waA))} (h:qia R56 v v2 t8 t9 out t10 = some y) :
  Sat Pg GE 0 (cA b56 119) (LQ (fun (zz:waA×Int) => qcg v v2 zz.1 t8 t9 zz.2) (fun _ => .exit 0) (qeU v v2 t8 t9) y) (qcg v v2 out t8 t9 t10):=by
 rcases ifs h with ⟨c1,h⟩ | ⟨c1,h⟩
 ·obtain ⟨x2,bx2,h⟩:=bnd h
  obtain ⟨r3,br3,h⟩:=bnd h
  obtain ⟨l4,bl4,h⟩:=bnd h
  obtain rfl:=lf h
  have z:=sg 0 c1 <| sv (sT29.ia (k := .i64) bx2) <| sv (qaj x2) <| sx pz31 <| sx (qaw x2) <| sv (qar x2 []) <| sca (qsq R56 hR56 br3) <| sv (sT29.mk' (v:=qbq) qaE ([r3]:List tPred) 1 (by kernel_rfl)) <| sv (sT29.ap bl4) <| eFx 0 .normal (qcg v v2 l4 t8 t9 (w64 (t10 + 1))) rfl (qbP (aI (aI trivial (aI (qbO (clLs qaO v)) (aI (qbO (clLs qaD v2)) trivial))) (aI (up (qad qab l4)) (aI (up (qad qab t8)) (aI trivial (aI trivial trivial)))))) trivial
  exact qbi (A:=A56) mixed z (by kernel_rfl)
 ·obtain rfl:=lf h
  have z:=sg 0 c1 <| eF (.exit 0) (qeU v v2 t8 t9 out)
  exact ovZ A56 (by intro hx; cases hx) z (by kernel_rfl)
theorem qmL (R56:qbe) (hR56:qd5 R56) (v:waE) (v2:waD) (out:waA) (t8:waA) (t9:Int) (t10:Int) {x:(waA)} (h:qfS R56 v v2 t8 t9 out t10 = some x) :
  Sat Pg GE 0 (.loop (cA b56 119)) (EX (.exit 0) (qeU v v2 t8 t9 x)) (qcg v v2 out t8 t9 t10) :=
 Sat.loop (S:=fun (zz:waA×Int) => qcg v v2 zz.1 t8 t9 zz.2) (ex:=(fun _ => .exit 0)) (s:=(out,t10)) h fun zz y hy => qlV R56 hR56 v v2 zz.1 t8 t9 zz.2 hy
def qit (R56:qbe) (a:waA) (c:waE) (c2:waD):Option (waA) :=
 (qfS R56 c c2 a (a.length:Int) ([]:List tPred) 0).bind fun o5 =>
 some o5
theorem qpu (R56:qbe) (hR56:qd5 R56) {a:waA} {c:waE} {c2:waD} {r:waA} (h:qit R56 a c c2 = some r):CC Pg GE 56 [sl qaa a,.func (.func 57) [] [.eptr ((cL qap) c),.eptr ((cL qai) c2)]] (sl qaa r) [(0,31)]:=by
 obtain ⟨o5,bo5,h⟩:=bnd h
 obtain rfl:=lf h
 have z:=svn (sT29.ln a) <| spc (qmL R56 hR56 c c2 ([]:List tPred) a (a.length:Int) 0 bo5) <| en (aI (rP (sl qaa o5)) <| (qad qab o5))
 exact cvZ A56 Tryz.call56 Tryz.func56 (c:=b56) rfl (aI (qad qab a) (aI (aI trivial (aI (clLs qaO c) (aI (clLs qaD c2) trivial))) trivial)) z (by kernel_rfl)
noncomputable def b97:Code:=Tryz.f97.body.getD .skip
def A97:List Nat:=[]
def qho (v:tVar):Option (tPred) :=
 some (⟨3,v.Name,0,([]:List tPred)⟩:tPred)
theorem qoy {v:tVar} {r:tPred} (h:qho v = some r):CC Pg GE 97 [.agg (qaz v)] (.agg (qaa r)) [(3,31)]:=by
 obtain rfl:=lf h
 have z:=se (qEQ v) <| sx pz31 <| sv (qjd v) <| sv (qkB v) <| sb (qfj 3 v.Name) (qfn 3 v.Name) <| sy (qal (⟨3,v.Name,0,([]:List tPred)⟩:tPred)) <| en (aI (qaY (⟨3,v.Name,0,([]:List tPred)⟩:tPred)) <| aI (qab (⟨3,v.Name,0,([]:List tPred)⟩:tPred)) <| rT)
 exact cvZ A97 Tryz.call97 Tryz.func97 (c:=b97) rfl (aI (qbN v) trivial) z (by kernel_rfl)
noncomputable def b96:Code:=Tryz.f96.body.getD .skip
def A96:List Nat:=[14,21]
def qcj (out:waA) (t8:waF) (t9:Int) (t10:Int):PSt:=stt 22 [(1,.func (.func 97) [] []),(5,sl qaa out),(8,sl qaz t8),(9,.int .i64 t9),(10,.int .i64 t10)] [] [((5,0),31)]
def qeP (t8:waF) (t9:Int) (o:waA):PSt:=stt 22 [(5,sl qaa o)] [] [((5,0),31)]
def qh7 (t8:waF) (t9:Int) (out:waA) (t10:Int):Option ((waA×Int)⊕((waA))) :=
 if (decide (t10 < t9)) = true then
  (idx t8 t10).bind fun x2 =>
  (qho x2).bind fun r3 =>
  (app out ([r3]:List tPred)).bind fun l4 =>
  some (.inl (l4,w64 (t10 + 1)))
 else
  some (.inr out)
def qfU (t8:waF) (t9:Int) (out:waA) (t10:Int):Option ((waA)):=loop (fun (zz:waA×Int) => qh7 t8 t9 zz.1 zz.2) (out,t10)
theorem qlD (out:waA) (t8:waF) (t9:Int) (t10:Int) {y:(waA×Int)⊕((waA))} (h:qh7 t8 t9 out t10 = some y) :
  Sat Pg GE 0 (cA b96 119) (LQ (fun (zz:waA×Int) => qcj zz.1 t8 t9 zz.2) (fun _ => .exit 0) (qeP t8 t9) y) (qcj out t8 t9 t10):=by
 rcases ifs h with ⟨c1,h⟩ | ⟨c1,h⟩
 ·obtain ⟨x2,bx2,h⟩:=bnd h
  obtain ⟨r3,br3,h⟩:=bnd h
  obtain ⟨l4,bl4,h⟩:=bnd h
  obtain rfl:=lf h
  have z:=sg 0 c1 <| sv (sT36.ia (k := .i64) bx2) <| sv (qAL x2) <| sx pz88 <| sx (qCu x2) <| sv (qGg x2 []) <| sca (qoy br3) <| sv (sT29.mk' (v:=qbq) qaE ([r3]:List tPred) 1 (by kernel_rfl)) <| sv (sT29.ap bl4) <| eFx 0 .normal (qcj l4 t8 t9 (w64 (t10 + 1))) rfl (qbP (aI (aI trivial trivial) (aI (up (qad qab l4)) (aI (up (qad qbN t8)) (aI trivial (aI trivial trivial)))))) trivial
  exact qbi (A:=A96) mixed z (by kernel_rfl)
 ·obtain rfl:=lf h
  have z:=sg 0 c1 <| eF (.exit 0) (qeP t8 t9 out)
  exact ovZ A96 (by intro hx; cases hx) z (by kernel_rfl)
theorem qmp (out:waA) (t8:waF) (t9:Int) (t10:Int) {x:(waA)} (h:qfU t8 t9 out t10 = some x) :
  Sat Pg GE 0 (.loop (cA b96 119)) (EX (.exit 0) (qeP t8 t9 x)) (qcj out t8 t9 t10) :=
 Sat.loop (S:=fun (zz:waA×Int) => qcj zz.1 t8 t9 zz.2) (ex:=(fun _ => .exit 0)) (s:=(out,t10)) h fun zz y hy => qlD zz.1 t8 t9 zz.2 hy
def qik (a:waF):Option (waA) :=
 (qfU a (a.length:Int) ([]:List tPred) 0).bind fun o5 =>
 some o5
theorem qpw {a:waF} {r:waA} (h:qik a = some r):CC Pg GE 96 [sl qaz a,.func (.func 97) [] []] (sl qaa r) [(0,31)]:=by
 obtain ⟨o5,bo5,h⟩:=bnd h
 obtain rfl:=lf h
 have z:=svn (sT36.ln a) <| spc (qmp ([]:List tPred) a (a.length:Int) 0 bo5) <| en (aI (rP (sl qaa o5)) <| (qad qab o5))
 exact cvZ A96 Tryz.call96 Tryz.func96 (c:=b96) rfl (aI (qad qbN a) (aI (aI trivial trivial) trivial)) z (by kernel_rfl)
noncomputable def b58:Code:=Tryz.f58.body.getD .skip
def A58:List Nat:=[]
def qgw (name:Str) (a:tPred) (a2:waF):Option (tPred) :=
 (qik a2).bind fun r1 =>
 (app ([a]:List tPred) r1).bind fun l2 =>
 some (⟨5,name,0,l2⟩:tPred)
theorem qqb {name:Str} {a:tPred} {a2:waF} {r:tPred} (h:qgw name a a2 = some r):CC Pg GE 58 [.str name,.agg (qaa a),sl qaz a2] (.agg (qaa r)) []:=by
 obtain ⟨r1,br1,h⟩:=bnd h
 obtain ⟨l2,bl2,h⟩:=bnd h
 obtain rfl:=lf h
 have z:=se (qaL a) <| sx pz31 <| sdr [0,1,0,4,15,31] <| sv (qaj a) <| sv (sT29.mk' (v:=qbq) qaE ([a]:List tPred) 1 (by kernel_rfl)) <| sca (qpw br1) <| sv (sT29.ap bl2) <| sv (qiN 5 name l2) <| sx (qaw (⟨5,name,0,l2⟩:tPred)) <| en (aI (qaY (⟨5,name,0,l2⟩:tPred)) <| (qab (⟨5,name,0,l2⟩:tPred)))
 exact cvZ A58 Tryz.call58 Tryz.func58 (c:=b58) rfl (aI trivial (aI (qab a) (aI (qad qbN a2) trivial))) z (by kernel_rfl)
noncomputable def b19:Code:=Tryz.f19.body.getD .skip
def A19:List Nat:=[]
def qso (p:tPred) (abs:waE) (holes:waD) (m:waA) (m2:Int) (m3:Str) (m4:Int) (m5:waA):PSt:=stt 52 [(3,.eptr (qaa p)),(4,.eptr ((cL qap) abs)),(5,.eptr ((cL qai) holes)),(6,.bptr 3 0),(7,.bptr 4 0)] [.dead,.dead,.dead,.cells [.int .i64 0,.str ([]:Str),.int .i64 0,sl qaa m] [(3,31)],.cells [.int .i64 m2,.str m3,.int .i64 m4,sl qaa m5] [(3,31)]] []
def qhf (p:tPred) (abs:waE) (holes:waD) (m:waA) (m2:Int) (m3:Str) (m4:Int) (m5:waA) (o:Bool):PSt:=stt 52 [(3,.eptr (qaa p)),(4,.eptr ((cL qap) abs)),(5,.eptr ((cL qai) holes)),(6,.bptr 3 0),(7,.bptr 4 0),(30,.bool o)] [.dead,.dead,.dead,.cells [.int .i64 0,.str ([]:Str),.int .i64 0,sl qaa m] [(3,31)],.cells [.int .i64 m2,.str m3,.int .i64 m4,sl qaa m5] [(3,31)]] []
def qjm (R56:qbe) (p:tPred):Option ((Bool)) :=
 if (p.Op != 4) = true then
  some true
 else
  some ((p.Kids.length:Int) != 1)
theorem qqo (R56:qbe) (hR56:qd5 R56) (p:tPred) (abs:waE) (holes:waD) (m:waA) (m2:Int) (m3:Str) (m4:Int) (m5:waA) {x:(Bool)} (h:qjm R56 p = some x) :
  Sat Pg GE 0 (cA b19 60) (EX .normal (qhf p abs holes m m2 m3 m4 m5 x)) (qso p abs holes m m2 m3 m4 m5):=by
 have p3:=fun {sc F} (r:PS sc F) => sv (qaZ p) <| sv (qa0 p) <| r
 rcases ifs h with ⟨c2,h⟩ | ⟨c2,h⟩
 ·obtain rfl:=lf h
  have z:=p3 <| sg 4 c2 <| eF .normal (qhf p abs holes m m2 m3 m4 m5 true)
  exact pcZ A19 z (by kernel_rfl)
 ·obtain rfl:=lf h
  have z:=p3 <| sg 4 c2 <| sv (qax p) <| sv (qay p) <| svn (sT29.ln p.Kids) <| eF .normal (qhf p abs holes m m2 m3 m4 m5 ((p.Kids.length:Int) != 1))
  exact pcZ A19 z (by kernel_rfl)
def qhC (R56:qbe) (p:tPred) (abs:waE) (holes:waD):Option (tPred) :=
 (qit R56 p.Kids abs holes).bind fun r1 =>
 (qjm R56 p).bind fun o4 =>
 if o4 = true then
  some (⟨p.Op,p.Name,p.N,r1⟩:tPred)
 else
  (qcV abs holes p.Name).bind fun r7 =>
  if (!r7.2) = true then
   some (⟨p.Op,p.Name,p.N,r1⟩:tPred)
  else
   (idx r1 0).bind fun x10 =>
   (qeN r7.1).bind fun r11 =>
   (qgw r7.1.Name x10 r11).bind fun r12 =>
   some r12
theorem qtx (R56:qbe) (hR56:qd5 R56) {p:tPred} {abs:waE} {holes:waD} {r:tPred} (h:qhC R56 p abs holes = some r):CC Pg GE 19 [.agg (qaa p),sl qap abs,sl qai holes] (.agg (qaa r)) []:=by
 obtain ⟨r1,br1,h⟩:=bnd h
 obtain ⟨o4,bo4,h⟩:=bnd h
 have p6:=fun {sc F} (r:PS sc F) => se (qaL p) <| se (pcL qap abs) <| se (pcL qai holes) <| sx pz31 <| sv (qaZ p) <| sv (qa0 p) <| sv (qa9 p) <| sv (qbm p) <| sv (qcx p) <| sv (qda p) <| sb (qgj p.Op p.Name p.N) (qgh p.Op p.Name p.N) <| sx pz31 <| sy (qal (⟨p.Op,p.Name,p.N,([]:List tPred)⟩:tPred)) <| sv (qax p) <| sv (qay p) <| sca (qpu R56 hR56 br1) <| spa 1 <| spc (qqo R56 hR56 p abs holes ([]:List tPred) p.Op p.Name p.N r1 bo4) <| r
 rcases ifs h with ⟨c5,h⟩ | ⟨c5,h⟩
 ·obtain rfl:=lf h
  have z:=p6 <| sg 0 c5 <| sz (qar (⟨p.Op,p.Name,p.N,r1⟩:tPred) []) <| sy (qal (⟨p.Op,p.Name,p.N,r1⟩:tPred)) <| en (aI (qaY (⟨p.Op,p.Name,p.N,r1⟩:tPred)) <| (qab (⟨p.Op,p.Name,p.N,r1⟩:tPred)))
  exact cvZ A19 Tryz.call19 Tryz.func19 (c:=b19) rfl (aI (qab p) (aI (qad qaO abs) (aI (qad qaD holes) trivial))) z (by kernel_rfl)
 ·obtain ⟨r7,br7,h⟩:=bnd h
  have p9:=fun {sc F} (r:PS sc F) => p6 <| sg 0 c5 <| sv (qaR sc24 (sl qap abs) []) <| sv (qaR sc38 (sl qai holes) []) <| sv (qa9 p) <| sv (qbm p) <| sca (qiY br7) <| sx pz82 <| sx (qoG r7.1) <| r
  rcases ifs h with ⟨c8,h⟩ | ⟨c8,h⟩
  ·obtain rfl:=lf h
   have z:=p9 <| sg 0 c8 <| sz (qar (⟨p.Op,p.Name,p.N,r1⟩:tPred) []) <| sy (qal (⟨p.Op,p.Name,p.N,r1⟩:tPred)) <| en (aI (qaY (⟨p.Op,p.Name,p.N,r1⟩:tPred)) <| (qab (⟨p.Op,p.Name,p.N,r1⟩:tPred)))
   exact cvZ A19 Tryz.call19 Tryz.func19 (c:=b19) rfl (aI (qab p) (aI (qad qaO abs) (aI (qad qaD holes) trivial))) z (by kernel_rfl)
  ·obtain ⟨x10,bx10,h⟩:=bnd h
   obtain ⟨r11,br11,h⟩:=bnd h
   obtain ⟨r12,br12,h⟩:=bnd h
   obtain rfl:=lf h
   have z:=p9 <| sg 0 c8 <| sdr [0,1,0,4,12,28,0,64,255,511] <| ss <| ss <| sv (sT29.ia (k := .i64) bx10) <| sv (qaj x10) <| sv (qzp r7.1 []) <| sca (qlK br11) <| sca (qqb br12) <| sx (qaw r12) <| en (aI (qaY r12) <| (qab r12))
   exact cvZ A19 Tryz.call19 Tryz.func19 (c:=b19) rfl (aI (qab p) (aI (qad qaO abs) (aI (qad qaD holes) trivial))) z (by kernel_rfl)
def qkG:((tPred×waE×waD)→Option (tPred))→(tPred×waE×waD)→Option (tPred):=fun (rec:(tPred×waE×waD)→Option (tPred)) (x:tPred×waE×waD) => qhC (fun p abs holes => rec (p,abs,holes)) x.1 x.2.1 x.2.2
def qhS (p:tPred) (abs:waE) (holes:waD):Option (tPred):=fixE (qkG) (p,abs,holes)
theorem qjs {p:tPred} {abs:waE} {holes:waD} {r:tPred} (h:qhS p abs holes = some r):CC Pg GE 19 [.agg (qaa p),sl qap abs,sl qai holes] (.agg (qaa r)) [] :=
 qbX (F:=qkG) (M:=fun (x:tPred×waE×waD) (r:tPred) => CC Pg GE 19 [.agg (qaa x.1),sl qap x.2.1,sl qai x.2.2] (.agg (qaa r)) []) (fun rec hrec x r h => qtx _ (fun p abs holes r h => hrec (p,abs,holes) r h) h) h
noncomputable def b53:Code:=Tryz.f53.body.getD .skip
def A53:List Nat:=[]
def qd6 (p:tPred) (a:waE) (a2:waD):Option (tPred) :=
 (qhS p a a2).bind fun r1 =>
 some r1
theorem qkV {p:tPred} {a:waE} {a2:waD} {r:tPred} (h:qd6 p a a2 = some r):CC Pg GE 53 [.agg (qaa p),.eptr ((cL qap) a),.eptr ((cL qai) a2)] (.agg (qaa r)) []:=by
 obtain ⟨r1,br1,h⟩:=bnd h
 obtain rfl:=lf h
 have z:=se (qaL p) <| sx pz31 <| sv (qaj p) <| sv (qaR sc24 (sl qap a) []) <| sv (qaR sc38 (sl qai a2) []) <| sca (qjs br1) <| sx (qaw r1) <| en (aI (qaY r1) <| (qab r1))
 exact cvZ A53 Tryz.call53 Tryz.func53 (c:=b53) rfl (aI (qab p) (aI (clLs qaO a) (aI (clLs qaD a2) trivial))) z (by kernel_rfl)
def qcp (v:waE) (v2:waD) (out:waA) (t8:waA) (t9:Int) (t10:Int):PSt:=stt 22 [(1,.func (.func 53) [] [.eptr ((cL qap) v),.eptr ((cL qai) v2)]),(5,sl qaa out),(8,sl qaa t8),(9,.int .i64 t9),(10,.int .i64 t10)] [] [((5,0),31)]
def qeO (v:waE) (v2:waD) (t8:waA) (t9:Int) (o:waA):PSt:=stt 22 [(5,sl qaa o)] [] [((5,0),31)]
def qh9 (v:waE) (v2:waD) (t8:waA) (t9:Int) (out:waA) (t10:Int):Option ((waA×Int)⊕((waA))) :=
 if (decide (t10 < t9)) = true then
  (idx t8 t10).bind fun x2 =>
  (qd6 x2 v v2).bind fun r3 =>
  (app out ([r3]:List tPred)).bind fun l4 =>
  some (.inl (l4,w64 (t10 + 1)))
 else
  some (.inr out)
def qf0 (v:waE) (v2:waD) (t8:waA) (t9:Int) (out:waA) (t10:Int):Option ((waA)):=loop (fun (zz:waA×Int) => qh9 v v2 t8 t9 zz.1 zz.2) (out,t10)
theorem qlM (v:waE) (v2:waD) (out:waA) (t8:waA) (t9:Int) (t10:Int) {y:(waA×Int)⊕((waA))} (h:qh9 v v2 t8 t9 out t10 = some y) :
  Sat Pg GE 0 (cA b56 119) (LQ (fun (zz:waA×Int) => qcp v v2 zz.1 t8 t9 zz.2) (fun _ => .exit 0) (qeO v v2 t8 t9) y) (qcp v v2 out t8 t9 t10):=by
 rcases ifs h with ⟨c1,h⟩ | ⟨c1,h⟩
 ·obtain ⟨x2,bx2,h⟩:=bnd h
  obtain ⟨r3,br3,h⟩:=bnd h
  obtain ⟨l4,bl4,h⟩:=bnd h
  obtain rfl:=lf h
  have z:=sg 0 c1 <| sv (sT29.ia (k := .i64) bx2) <| sv (qaj x2) <| sx pz31 <| sx (qaw x2) <| sv (qar x2 []) <| sca (qkV br3) <| sv (sT29.mk' (v:=qbq) qaE ([r3]:List tPred) 1 (by kernel_rfl)) <| sv (sT29.ap bl4) <| eFx 0 .normal (qcp v v2 l4 t8 t9 (w64 (t10 + 1))) rfl (qbP (aI (aI trivial (aI (qbO (clLs qaO v)) (aI (qbO (clLs qaD v2)) trivial))) (aI (up (qad qab l4)) (aI (up (qad qab t8)) (aI trivial (aI trivial trivial)))))) trivial
  exact qbi (A:=A56) mixed z (by kernel_rfl)
 ·obtain rfl:=lf h
  have z:=sg 0 c1 <| eF (.exit 0) (qeO v v2 t8 t9 out)
  exact ovZ A56 (by intro hx; cases hx) z (by kernel_rfl)
theorem qma (v:waE) (v2:waD) (out:waA) (t8:waA) (t9:Int) (t10:Int) {x:(waA)} (h:qf0 v v2 t8 t9 out t10 = some x) :
  Sat Pg GE 0 (.loop (cA b56 119)) (EX (.exit 0) (qeO v v2 t8 t9 x)) (qcp v v2 out t8 t9 t10) :=
 Sat.loop (S:=fun (zz:waA×Int) => qcp v v2 zz.1 t8 t9 zz.2) (ex:=(fun _ => .exit 0)) (s:=(out,t10)) h fun zz y hy => qlM v v2 zz.1 t8 t9 zz.2 hy
def qiu (a:waA) (c:waE) (c2:waD):Option (waA) :=
 (qf0 c c2 a (a.length:Int) ([]:List tPred) 0).bind fun o5 =>
 some o5
theorem qpi {a:waA} {c:waE} {c2:waD} {r:waA} (h:qiu a c c2 = some r):CC Pg GE 56 [sl qaa a,.func (.func 53) [] [.eptr ((cL qap) c),.eptr ((cL qai) c2)]] (sl qaa r) [(0,31)]:=by
 obtain ⟨o5,bo5,h⟩:=bnd h
 obtain rfl:=lf h
 have z:=svn (sT29.ln a) <| spc (qma c c2 ([]:List tPred) a (a.length:Int) 0 bo5) <| en (aI (rP (sl qaa o5)) <| (qad qab o5))
 exact cvZ A56 Tryz.call56 Tryz.func56 (c:=b56) rfl (aI (qad qab a) (aI (aI trivial (aI (clLs qaO c) (aI (clLs qaD c2) trivial))) trivial)) z (by kernel_rfl)
def qfV (R54:qaT) (a:tType) (c:waE) (c2:waD):Option (tType) :=
 (R54 a c c2).bind fun r1 =>
 some r1
theorem qmz (R54:qaT) (hR54:qc6 R54) {a:tType} {c:waE} {c2:waD} {r:tType} (h:qfV R54 a c c2 = some r):CC Pg GE 88 [.agg (qac a),.eptr [.func (.func 53) [] [.eptr ((cL qap) c),.eptr ((cL qai) c2)]]] (.agg (qac r)) [(2,33)]:=by
 obtain ⟨r1,br1,h⟩:=bnd h
 obtain rfl:=lf h
 have z:=se (qbH a) <| sx pz33 <| sv (qaW a) <| sv (qaR qC7 (.func (.func 53) [] [.eptr ((cL qap) c),.eptr ((cL qai) c2)]) []) <| sca (hR54 _ _ _ _ br1) <| sy (qav r1) <| en (aI (qbR r1) <| aI (qaf r1) <| rT)
 exact cvZ A88 Tryz.call88 Tryz.func88 (c:=b88) rfl (aI (qaf a) (aI (aI (aI trivial (aI (clLs qaO c) (aI (clLs qaD c2) trivial))) trivial) trivial)) z (by kernel_rfl)
def qb9 (v:waE) (v2:waD) (out:waC) (t8:waC) (t9:Int) (t10:Int):PSt:=stt 22 [(1,.func (.func 88) [] [.eptr [.func (.func 53) [] [.eptr ((cL qap) v),.eptr ((cL qai) v2)]]]),(5,sl qac out),(8,sl qac t8),(9,.int .i64 t9),(10,.int .i64 t10)] [] [((5,0),33)]
def qer (v:waE) (v2:waD) (t8:waC) (t9:Int) (o:waC):PSt:=stt 22 [(5,sl qac o)] [] [((5,0),33)]
def qg0 (R54:qaT) (v:waE) (v2:waD) (t8:waC) (t9:Int) (out:waC) (t10:Int):Option ((waC×Int)⊕((waC))) :=
 if (decide (t10 < t9)) = true then
  (idx t8 t10).bind fun x2 =>
  (qfV R54 x2 v v2).bind fun r3 =>
  (app out ([r3]:List tType)).bind fun l4 =>
  some (.inl (l4,w64 (t10 + 1)))
 else
  some (.inr out)
def qe5 (R54:qaT) (v:waE) (v2:waD) (t8:waC) (t9:Int) (out:waC) (t10:Int):Option ((waC)):=loop (fun (zz:waC×Int) => qg0 R54 v v2 t8 t9 zz.1 zz.2) (out,t10)
theorem qlm (R54:qaT) (hR54:qc6 R54) (v:waE) (v2:waD) (out:waC) (t8:waC) (t9:Int) (t10:Int) {y:(waC×Int)⊕((waC))} (h:qg0 R54 v v2 t8 t9 out t10 = some y) :
  Sat Pg GE 0 (cA b62 119) (LQ (fun (zz:waC×Int) => qb9 v v2 zz.1 t8 t9 zz.2) (fun _ => .exit 0) (qer v v2 t8 t9) y) (qb9 v v2 out t8 t9 t10):=by
 rcases ifs h with ⟨c1,h⟩ | ⟨c1,h⟩
 ·obtain ⟨x2,bx2,h⟩:=bnd h
  obtain ⟨r3,br3,h⟩:=bnd h
  obtain ⟨l4,bl4,h⟩:=bnd h
  obtain rfl:=lf h
  have z:=sg 0 c1 <| sv (sT27.ia (k := .i64) bx2) <| sv (qaW x2) <| sx pz33 <| sx (qbA x2) <| sv (qbn x2 []) <| sca (qmz R54 hR54 br3) <| sv (sT27.mk' (v:=qha) qdn ([r3]:List tType) 1 (by kernel_rfl)) <| sv (sT27.ap bl4) <| eFx 0 .normal (qb9 v v2 l4 t8 t9 (w64 (t10 + 1))) rfl (qbP (aI (aI trivial (aI (aI (aI trivial (aI (qbO (clLs qaO v)) (aI (qbO (clLs qaD v2)) trivial))) trivial) trivial)) (aI (up (qad qaf l4)) (aI (up (qad qaf t8)) (aI trivial (aI trivial trivial)))))) trivial
  exact qbi (A:=A62) mixed z (by kernel_rfl)
 ·obtain rfl:=lf h
  have z:=sg 0 c1 <| eF (.exit 0) (qer v v2 t8 t9 out)
  exact ovZ A62 (by intro hx; cases hx) z (by kernel_rfl)
theorem qlC (R54:qaT) (hR54:qc6 R54) (v:waE) (v2:waD) (out:waC) (t8:waC) (t9:Int) (t10:Int) {x:(waC)} (h:qe5 R54 v v2 t8 t9 out t10 = some x) :
  Sat Pg GE 0 (.loop (cA b62 119)) (EX (.exit 0) (qer v v2 t8 t9 x)) (qb9 v v2 out t8 t9 t10) :=
 Sat.loop (S:=fun (zz:waC×Int) => qb9 v v2 zz.1 t8 t9 zz.2) (ex:=(fun _ => .exit 0)) (s:=(out,t10)) h fun zz y hy => qlm R54 hR54 v v2 zz.1 t8 t9 zz.2 hy
def qhw (R54:qaT) (a:waC) (c:waE) (c2:waD):Option (waC) :=
 (qe5 R54 c c2 a (a.length:Int) ([]:List tType) 0).bind fun o5 =>
 some o5
theorem qoJ (R54:qaT) (hR54:qc6 R54) {a:waC} {c:waE} {c2:waD} {r:waC} (h:qhw R54 a c c2 = some r):CC Pg GE 62 [sl qac a,.func (.func 88) [] [.eptr [.func (.func 53) [] [.eptr ((cL qap) c),.eptr ((cL qai) c2)]]]] (sl qac r) [(0,33)]:=by
 obtain ⟨o5,bo5,h⟩:=bnd h
 obtain rfl:=lf h
 have z:=svn (sT27.ln a) <| spc (qlC R54 hR54 c c2 ([]:List tType) a (a.length:Int) 0 bo5) <| en (aI (rP (sl qac o5)) <| (qad qaf o5))
 exact cvZ A62 Tryz.call62 Tryz.func62 (c:=b62) rfl (aI (qad qaf a) (aI (aI trivial (aI (aI (aI trivial (aI (clLs qaO c) (aI (clLs qaD c2) trivial))) trivial) trivial)) trivial)) z (by kernel_rfl)
def qdP (R54:qaT) (t:tType) (c:waE) (c2:waD):Option (tType) :=
 (qi5 t.Names).bind fun r1 =>
 (qd6 t.Pred c c2).bind fun r2 =>
 (qiu t.Preds c c2).bind fun r3 =>
 (qhw R54 t.Args c c2).bind fun r4 =>
 some (⟨t.Op,t.Name,r4,r1,r2,r3⟩:tType)
theorem qnx (R54:qaT) (hR54:qc6 R54) {t:tType} {c:waE} {c2:waD} {r:tType} (h:qdP R54 t c c2 = some r):CC Pg GE 51 [.agg (qac t),.func (.func 53) [] [.eptr ((cL qap) c),.eptr ((cL qai) c2)]] (.agg (qac r)) [(2,33)]:=by
 obtain ⟨r1,br1,h⟩:=bnd h
 obtain ⟨r2,br2,h⟩:=bnd h
 obtain ⟨r3,br3,h⟩:=bnd h
 obtain ⟨r4,br4,h⟩:=bnd h
 obtain rfl:=lf h
 have z:=se (qbH t) <| se (rfl:qaJ (.func (.func 53) [] [.eptr ((cL qap) c),.eptr ((cL qai) c2)]) = some [.func (.func 53) [] [.eptr ((cL qap) c),.eptr ((cL qai) c2)]]) <| sx pz33 <| sdr [0,1,0,4,0,16,48,0,0,256,1008,0,2048,0,16368,32767,0,131071] <| sv (qbv t) <| sv (qbw t) <| sv (qdB t) <| sv (qef t) <| sv (qan t) <| sv (qao t) <| sca (qoY br1) <| sv (qaR qC7 (.func (.func 53) [] [.eptr ((cL qap) c),.eptr ((cL qai) c2)]) []) <| sv (qbV t) <| sv (qbY t) <| sca (qkV br2) <| sv (qbp t) <| sv (qbo t) <| sv (qaR qC7 (.func (.func 53) [] [.eptr ((cL qap) c),.eptr ((cL qai) c2)]) []) <| sca (qpi br3) <| sb (qhe t.Op t.Name r1 r2 r3) (qhB t.Op t.Name r1 r2 r3) <| syx (qbA (⟨t.Op,t.Name,([]:List tType),r1,r2,r3⟩:tType)) <| sv (qaH t) <| sv (qaI t) <| sca (qoJ R54 hR54 br4) <| sz (qbn (⟨t.Op,t.Name,r4,r1,r2,r3⟩:tType) []) <| sy (qav (⟨t.Op,t.Name,r4,r1,r2,r3⟩:tType)) <| en (aI (qbR (⟨t.Op,t.Name,r4,r1,r2,r3⟩:tType)) <| aI (qaf (⟨t.Op,t.Name,r4,r1,r2,r3⟩:tType)) <| rT)
 exact cvZ A51 Tryz.call51 Tryz.func51 (c:=b51) rfl (aI (qaf t) (aI (aI trivial (aI (clLs qaO c) (aI (clLs qaD c2) trivial))) trivial)) z (by kernel_rfl)
def qfR:((tType×waE×waD)→Option (tType))→(tType×waE×waD)→Option (tType):=fun (rec:(tType×waE×waD)→Option (tType)) (x:tType×waE×waD) => qdP (fun t c c2 => rec (t,c,c2)) x.1 x.2.1 x.2.2
def qhz (t:tType) (c:waE) (c2:waD):Option (tType):=fixE (qfR) (t,c,c2)
theorem qop {t:tType} {c:waE} {c2:waD} {r:tType} (h:qhz t c c2 = some r):CC Pg GE 51 [.agg (qac t),.func (.func 53) [] [.eptr ((cL qap) c),.eptr ((cL qai) c2)]] (.agg (qac r)) [(2,33)] :=
 qbX (F:=qfR) (M:=fun (x:tType×waE×waD) (r:tType) => CC Pg GE 51 [.agg (qac x.1),.func (.func 53) [] [.eptr ((cL qap) x.2.1),.eptr ((cL qai) x.2.2)]] (.agg (qac r)) [(2,33)]) (fun rec hrec x r h => qnx _ (fun t c c2 r h => hrec (t,c,c2) r h) h) h
noncomputable def b16:Code:=Tryz.f16.body.getD .skip
def A16:List Nat:=[17,38]
def qcS (t:tType) (abs:waE) (holes:waD) (vars:waB) (t14:Int) (t15:Int) (m:waC) (m2:waA):PSt:=stt 50 [(3,.eptr (qac t)),(4,.eptr ((cL qap) abs)),(5,.eptr ((cL qai) holes)),(6,.bptr 3 0),(7,sl cS vars),(14,.int .i64 t14),(15,.int .i64 t15)] [.dead,.dead,.dead,.cells [.int .i64 0,.str ([]:Str),sl qac m,sl cS ([]:List Str),.int .i64 0,.str ([]:Str),.int .i64 0,sl qaa m2,sl qaa m2] [(2,33),(3,9),(7,31),(8,31)]] [((7,0),9)]
def qhs (t:tType) (abs:waE) (holes:waD) (t14:Int) (m:waC) (m2:waA) (o:waB):PSt:=stt 50 [(3,.eptr (qac t)),(4,.eptr ((cL qap) abs)),(5,.eptr ((cL qai) holes)),(6,.bptr 3 0),(7,sl cS o)] [.dead,.dead,.dead,.cells [.int .i64 0,.str ([]:Str),sl qac m,sl cS ([]:List Str),.int .i64 0,.str ([]:Str),.int .i64 0,sl qaa m2,sl qaa m2] [(2,33),(3,9),(7,31),(8,31)]] [((7,0),9)]
def qdJ (t:tType) (abs:waE) (holes:waD) (vars:waB) (t14:Int) (t15:Int) (t32:waF) (t33:Int) (t34:Int) (m:waC) (m2:waA) (m3:Str) (m4:waF):PSt:=stt 50 [(3,.eptr (qac t)),(4,.eptr ((cL qap) abs)),(5,.eptr ((cL qai) holes)),(6,.bptr 3 0),(7,sl cS vars),(14,.int .i64 t14),(15,.int .i64 t15),(32,sl qaz t32),(33,.int .i64 t33),(34,.int .i64 t34)] [.dead,.dead,.dead,.cells [.int .i64 0,.str ([]:Str),sl qac m,sl cS ([]:List Str),.int .i64 0,.str ([]:Str),.int .i64 0,sl qaa m2,sl qaa m2] [(2,33),(3,9),(7,31),(8,31)],.cells [.str m3,sl qaz m4] []] [((7,0),9)]
def qhi (t:tType) (abs:waE) (holes:waD) (t14:Int) (t15:Int) (t32:waF) (t33:Int) (m:waC) (m2:waA) (m3:Str) (m4:waF) (o:waB):PSt:=stt 50 [(3,.eptr (qac t)),(4,.eptr ((cL qap) abs)),(5,.eptr ((cL qai) holes)),(6,.bptr 3 0),(7,sl cS o),(14,.int .i64 t14),(15,.int .i64 t15)] [.dead,.dead,.dead,.cells [.int .i64 0,.str ([]:Str),sl qac m,sl cS ([]:List Str),.int .i64 0,.str ([]:Str),.int .i64 0,sl qaa m2,sl qaa m2] [(2,33),(3,9),(7,31),(8,31)],.cells [.str m3,sl qaz m4] []] [((7,0),9)]
def qkJ (t32:waF) (t33:Int) (vars:waB) (t34:Int):Option ((waB×Int)⊕((waB))) :=
 if (decide (t34 < t33)) = true then
  (idx t32 t34).bind fun x8 =>
  (app vars ([x8.Name]:List Str)).bind fun l9 =>
  some (.inl (l9,w64 (t34 + 1)))
 else
  some (.inr vars)
def qeu (t32:waF) (t33:Int) (vars:waB) (t34:Int):Option ((waB)):=loop (fun (zz:waB×Int) => qkJ t32 t33 zz.1 zz.2) (vars,t34)
theorem qpk (t:tType) (abs:waE) (holes:waD) (vars:waB) (t14:Int) (t15:Int) (t32:waF) (t33:Int) (t34:Int) (m:waC) (m2:waA) (m3:Str) (m4:waF) {y:(waB×Int)⊕((waB))} (h:qkJ t32 t33 vars t34 = some y) :
  Sat Pg GE 0 (cA b16 122751) (LQ (fun (zz:waB×Int) => qdJ t abs holes zz.1 t14 t15 t32 t33 zz.2 m m2 m3 m4) (fun _ => .exit 2) (qhi t abs holes t14 t15 t32 t33 m m2 m3 m4) y) (qdJ t abs holes vars t14 t15 t32 t33 t34 m m2 m3 m4):=by
 rcases ifs h with ⟨c7,h⟩ | ⟨c7,h⟩
 ·obtain ⟨x8,bx8,h⟩:=bnd h
  obtain ⟨l9,bl9,h⟩:=bnd h
  obtain rfl:=lf h
  have z:=sg 0 c7 <| sv (sT36.ia (k := .i64) bx8) <| sv (qAL x8) <| sx pz88 <| sx (qCu x8) <| ss <| sv (sT22.mk' (v:=PVal.str) pcS ([x8.Name]:List Str) 1 (by kernel_rfl)) <| sv (sT22.ap bl9) <| eFx 0 .normal (qdJ t abs holes l9 t14 t15 t32 t33 (w64 (t34 + 1)) m m2 m3 m4) rfl (qbP (aI (qbO (qaf t)) (aI (qbO (clLs qaO abs)) (aI (qbO (clLs qaD holes)) (aI (qch rfl) (aI (up (qad clS l9)) (aI trivial (aI trivial (aI (up (qad qbN t32)) (aI trivial (aI trivial trivial))))))))))) (aI trivial (aI trivial (aI trivial (aI (aI trivial (aI trivial (aI (up (qad qaf m)) (aI (up (qad clS ([]:List Str))) (aI trivial (aI trivial (aI trivial (aI (up (qad qab m2)) (aI (up (qad qab m2)) trivial))))))))) (aI (aI trivial (aI (up (qad qbN m4)) trivial)) trivial)))))
  exact qbi (A:=A16) mixed z (by kernel_rfl)
 ·obtain rfl:=lf h
  have z:=sg 0 c7 <| eF (.exit 2) (qhi t abs holes t14 t15 t32 t33 m m2 m3 m4 vars)
  exact ovZ A16 (by intro hx; cases hx) z (by kernel_rfl)
theorem qqF (t:tType) (abs:waE) (holes:waD) (vars:waB) (t14:Int) (t15:Int) (t32:waF) (t33:Int) (t34:Int) (m:waC) (m2:waA) (m3:Str) (m4:waF) {x:(waB)} (h:qeu t32 t33 vars t34 = some x) :
  Sat Pg GE 0 (.loop (cA b16 122751)) (EX (.exit 2) (qhi t abs holes t14 t15 t32 t33 m m2 m3 m4 x)) (qdJ t abs holes vars t14 t15 t32 t33 t34 m m2 m3 m4) :=
 Sat.loop (S:=fun (zz:waB×Int) => qdJ t abs holes zz.1 t14 t15 t32 t33 zz.2 m m2 m3 m4) (ex:=(fun _ => .exit 2)) (s:=(vars,t34)) h fun zz y hy => qpk t abs holes zz.1 t14 t15 t32 t33 zz.2 m m2 m3 m4 hy
def qkO (abs:waE) (holes:waD) (t14:Int) (vars:waB) (t15:Int):Option ((waB×Int)⊕((waB))) :=
 if (decide (t15 < t14)) = true then
  (idx abs t15).bind fun x2 =>
  (qcV abs holes x2.Name).bind fun r3 =>
  if (!r3.2) = true then
   some (.inl (vars,w64 (t15 + 1)))
  else
   (qeN r3.1).bind fun r6 =>
   (qeu r6 (r6.length:Int) vars 0).bind fun o10 =>
   some (.inl (o10,w64 (t15 + 1)))
 else
  some (.inr vars)
def qgz (abs:waE) (holes:waD) (t14:Int) (vars:waB) (t15:Int):Option ((waB)):=loop (fun (zz:waB×Int) => qkO abs holes t14 zz.1 zz.2) (vars,t15)
theorem qpn (t:tType) (abs:waE) (holes:waD) (vars:waB) (t14:Int) (t15:Int) (m:waC) (m2:waA) {y:(waB×Int)⊕((waB))} (h:qkO abs holes t14 vars t15 = some y) :
  Sat Pg GE 0 (cA b16 119) (LQ (fun (zz:waB×Int) => qcS t abs holes zz.1 t14 zz.2 m m2) (fun _ => .exit 0) (qhs t abs holes t14 m m2) y) (qcS t abs holes vars t14 t15 m m2):=by
 rcases ifs h with ⟨c1,h⟩ | ⟨c1,h⟩
 ·obtain ⟨x2,bx2,h⟩:=bnd h
  obtain ⟨r3,br3,h⟩:=bnd h
  have p5:=fun {sc F} (r:PS sc F) => sg 0 c1 <| sdr [0,0,0,0,12,28,60,127,255,511,511,0,3071,8191] <| sv (qaR sc24 (sl qap abs) []) <| sv (qaR sc38 (sl qai holes) []) <| sv (qaR sc24 (sl qap abs) []) <| sv (sT24.ia (k := .i64) bx2) <| sv (qoD x2) <| sv (qqB x2) <| sca (qiY br3) <| sx (qoG r3.1) <| r
  rcases ifs h with ⟨c4,h⟩ | ⟨c4,h⟩
  ·obtain rfl:=lf h
   have z:=p5 <| sg 0 c4 <| eFx 0 .normal (qcS t abs holes vars t14 (w64 (t15 + 1)) m m2) rfl (qbP (aI (qbO (qaf t)) (aI (qbO (clLs qaO abs)) (aI (qbO (clLs qaD holes)) (aI (qch rfl) (aI (up (qad clS vars)) (aI trivial (aI trivial trivial)))))))) (aI trivial (aI trivial (aI trivial (aI (aI trivial (aI trivial (aI (up (qad qaf m)) (aI (up (qad clS ([]:List Str))) (aI trivial (aI trivial (aI trivial (aI (up (qad qab m2)) (aI (up (qad qab m2)) trivial))))))))) trivial))))
   exact qbi (A:=A16) mixed z (by kernel_rfl)
  ·obtain ⟨r6,br6,h⟩:=bnd h
   obtain ⟨o10,bo10,h⟩:=bnd h
   obtain rfl:=lf h
   have z:=p5 <| sg 0 c4 <| sv (qzp r3.1 []) <| sca (qlK br6) <| svn (sT36.ln r6) <| spc (qqF t abs holes vars t14 t15 r6 (r6.length:Int) 0 m m2 r3.1.Name r3.1.Params bo10) <| eFx 0 .normal (qcS t abs holes o10 t14 (w64 (t15 + 1)) m m2) rfl (qbP (aI (qbO (qaf t)) (aI (qbO (clLs qaO abs)) (aI (qbO (clLs qaD holes)) (aI (qch rfl) (aI (up (qad clS o10)) (aI trivial (aI trivial trivial)))))))) (aI trivial (aI trivial (aI trivial (aI (aI trivial (aI trivial (aI (up (qad qaf m)) (aI (up (qad clS ([]:List Str))) (aI trivial (aI trivial (aI trivial (aI (up (qad qab m2)) (aI (up (qad qab m2)) trivial))))))))) trivial))))
   exact qbi (A:=A16) mixed z (by kernel_rfl)
 ·obtain rfl:=lf h
  have z:=sg 0 c1 <| eF (.exit 0) (qhs t abs holes t14 m m2 vars)
  exact ovZ A16 (by intro hx; cases hx) z (by kernel_rfl)
theorem qqa (t:tType) (abs:waE) (holes:waD) (vars:waB) (t14:Int) (t15:Int) (m:waC) (m2:waA) {x:(waB)} (h:qgz abs holes t14 vars t15 = some x) :
  Sat Pg GE 0 (.loop (cA b16 119)) (EX (.exit 0) (qhs t abs holes t14 m m2 x)) (qcS t abs holes vars t14 t15 m m2) :=
 Sat.loop (S:=fun (zz:waB×Int) => qcS t abs holes zz.1 t14 zz.2 m m2) (ex:=(fun _ => .exit 0)) (s:=(vars,t15)) h fun zz y hy => qpn t abs holes zz.1 t14 zz.2 m m2 hy
def qhu (t:tType) (abs:waE) (holes:waD):Option (tType) :=
 (qgz abs holes (abs.length:Int) ([]:List Str) 0).bind fun o11 =>
 (qlz t o11).bind fun r12 =>
 (qhz r12 abs holes).bind fun r13 =>
 some r13
theorem qnp {t:tType} {abs:waE} {holes:waD} {r:tType} (h:qhu t abs holes = some r):CC Pg GE 16 [.agg (qac t),sl qap abs,sl qai holes] (.agg (qac r)) [(2,33)]:=by
 obtain ⟨o11,bo11,h⟩:=bnd h
 obtain ⟨r12,br12,h⟩:=bnd h
 obtain ⟨r13,br13,h⟩:=bnd h
 obtain rfl:=lf h
 have z:=se (qbH t) <| se (pcL qap abs) <| se (pcL qai holes) <| sx pz33 <| sv (qaR sc24 (sl qap abs) []) <| svn (sT24.ln abs) <| spc (qqa t abs holes ([]:List Str) (abs.length:Int) 0 ([]:List tType) ([]:List tPred) bo11) <| sv (qaW t) <| sca (qtv br12) <| sca (qop br13) <| sy (qav r13) <| en (aI (qbR r13) <| aI (qaf r13) <| rT)
 exact cvZ A16 Tryz.call16 Tryz.func16 (c:=b16) rfl (aI (qaf t) (aI (qad qaO abs) (aI (qad qaD holes) trivial))) z (by kernel_rfl)
abbrev qdf:=(tType→tType→Option (Bool))
abbrev qjU (R:qdf):Prop := ∀ (a:tType) (a2:tType) (r:Bool),R a a2 = some r→CC Pg GE 15 [.agg (qac a),.agg (qac a2)] (.bool r) []
noncomputable def b47:Code:=Tryz.f47.body.getD .skip
def A47:List Nat:=[15]
def qhd (v:waB) (v2:waB) (t12:Int) (t13:Int):PSt:=stt 26 [(0,sl cS v),(1,sl cS v2),(12,.int .i64 t12),(13,.int .i64 t13)] [] []
def qhg (o:(Unit)⊕(Unit)):Exit:=match o with
 | (.inl _) => .ret
 | (.inr _) => .exit 0
def qfL (v:waB) (v2:waB) (t12:Int) (o:(Unit)⊕(Unit)):PSt:=match o with
 | (.inl o) => stt 26 [(4,.bool false)] [] []
 | (.inr o) => stt 26 [] [] []
def qmK (v:waB) (v2:waB) (t12:Int) (t13:Int):Option ((Int)⊕((Unit)⊕(Unit))) :=
 if (decide (t13 < t12)) = true then
  (idx v t13).bind fun x4 =>
  (idx v2 t13).bind fun x5 =>
  if (!(x4 == x5)) = true then
   some (.inr (.inl ()))
  else
   some (.inl (w64 (t13 + 1)))
 else
  some (.inr (.inr ()))
def qqz (v:waB) (v2:waB) (t12:Int) (t13:Int):Option ((Unit)⊕(Unit)):=loop (fun (zz:Int) => qmK v v2 t12 zz) t13
theorem qvB (v:waB) (v2:waB) (t12:Int) (t13:Int) {y:(Int)⊕((Unit)⊕(Unit))} (h:qmK v v2 t12 t13 = some y) :
  Sat Pg GE 0 (cA b47 119) (LQ (fun (zz:Int) => qhd v v2 t12 zz) qhg (qfL v v2 t12) y) (qhd v v2 t12 t13):=by
 rcases ifs h with ⟨c3,h⟩ | ⟨c3,h⟩
 ·obtain ⟨x4,bx4,h⟩:=bnd h
  obtain ⟨x5,bx5,h⟩:=bnd h
  have p7:=fun {sc F} (r:PS sc F) => sg 0 c3 <| sdr [0,0,3,7,0,0,48,112,255] <| sv (sT22.ia (k := .i64) bx4) <| sv (qaR sc9 (.str x4) []) <| sv (sT22.ia (k := .i64) bx5) <| sv (qaR sc9 (.str x5) []) <| r
  rcases ifs h with ⟨c6,h⟩ | ⟨c6,h⟩
  ·obtain rfl:=lf h
   have z:=p7 <| sg 0 c6 <| eF (qhg (.inl ())) (qfL v v2 t12 (.inl ()))
   exact ovZ A47 (by intro hx; cases hx) z (by kernel_rfl)
  ·obtain rfl:=lf h
   have z:=p7 <| sg 0 c6 <| eF .normal (qhd v v2 t12 (w64 (t13 + 1)))
   exact nxZ A47 z (by kernel_rfl)
 ·obtain rfl:=lf h
  have z:=sg 0 c3 <| eF (qhg (.inr ())) (qfL v v2 t12 (.inr ()))
  exact ovZ A47 (by intro hx; cases hx) z (by kernel_rfl)
theorem qp0 (v:waB) (v2:waB) (t12:Int) (t13:Int) {x:(Unit)⊕(Unit)} (h:qqz v v2 t12 t13 = some x) :
  Sat Pg GE 0 (.loop (cA b47 119)) (EX (qhg x) (qfL v v2 t12 x)) (qhd v v2 t12 t13) :=
 Sat.loop (S:=fun (zz:Int) => qhd v v2 t12 zz) (ex:=qhg) (s:=t13) h fun zz y hy => qvB v v2 t12 zz hy
def quF (a:waB) (a2:waB):Option (Bool) :=
 if ((a.length:Int) != (a2.length:Int)) = true then
  some false
 else
  (qqz a a2 (a.length:Int) 0).bind fun o8 => match o8 with
  | (.inl o8) =>
   some false
  | (.inr o8) =>
   some true
theorem qBq {a:waB} {a2:waB} {r:Bool} (h:quF a a2 = some r):CC Pg GE 47 [sl cS a,sl cS a2] (.bool r) []:=by
 have p2:=fun {sc F} (r:PS sc F) => svn (sT22.ln a) <| svn (sT22.ln a2) <| r
 rcases ifs h with ⟨c1,h⟩ | ⟨c1,h⟩
 ·obtain rfl:=lf h
  have z:=p2 <| sg 0 c1 <| en (aI (rP (.bool false)) <| trivial)
  exact cvZ A47 Tryz.call47 Tryz.func47 (c:=b47) rfl (aI (qad clS a) (aI (qad clS a2) trivial)) z (by kernel_rfl)
 ·obtain ⟨o8,bo8,h⟩:=bnd h
  rcases o8 with o8 | o8
  ·obtain rfl:=lf h
   have z:=p2 <| sg 0 c1 <| svn (sT22.ln a) <| spc (e := .ret) (s1:=qfL a a2 (a.length:Int) (.inl o8)) (qp0 a a2 (a.length:Int) 0 bo8) <| en (aI (rP (.bool false)) <| trivial)
   exact cvZ A47 Tryz.call47 Tryz.func47 (c:=b47) rfl (aI (qad clS a) (aI (qad clS a2) trivial)) z (by kernel_rfl)
  ·obtain rfl:=lf h
   have z:=p2 <| sg 0 c1 <| svn (sT22.ln a) <| spc (e := .exit 0) (s1:=qfL a a2 (a.length:Int) (.inr o8)) (qp0 a a2 (a.length:Int) 0 bo8) <| en (aI (rP (.bool true)) <| trivial)
   exact cvZ A47 Tryz.call47 Tryz.func47 (c:=b47) rfl (aI (qad clS a) (aI (qad clS a2) trivial)) z (by kernel_rfl)
noncomputable def b84:Code:=Tryz.f84.body.getD .skip
def A84:List Nat:=[]
def qyL:Option (tPred) :=
 some (⟨2,([]:Str),1,([]:List tPred)⟩:tPred)
theorem qBj {r:tPred} (h:qyL = some r):CC Pg GE 84 [] (.agg (qaa r)) [(3,31)]:=by
 obtain rfl:=lf h
 have z:=sx pz31 <| sb (qoI 2 1) (qn9 2 1) <| sy (qal (⟨2,([]:Str),1,([]:List tPred)⟩:tPred)) <| en (aI (qaY (⟨2,([]:Str),1,([]:List tPred)⟩:tPred)) <| aI (qab (⟨2,([]:Str),1,([]:List tPred)⟩:tPred)) <| rT)
 exact cvZ A84 Tryz.call84 Tryz.func84 (c:=b84) rfl trivial z (by kernel_rfl)
abbrev qfG:=(tPred→tPred→Option (Bool))
abbrev qoQ (R:qfG):Prop := ∀ (a:tPred) (a2:tPred) (r:Bool),R a a2 = some r→CC Pg GE 18 [.agg (qaa a),.agg (qaa a2)] (.bool r) []
noncomputable def b18:Code:=Tryz.f18.body.getD .skip
def A18:List Nat:=[39]
def qyo (v:tPred) (v2:tPred):PSt:=stt 53 [(2,.eptr (qaa v)),(3,.eptr (qaa v2))] [.dead,.dead] []
def qg3 (v:tPred) (v2:tPred) (o:Bool):PSt:=stt 53 [(2,.eptr (qaa v)),(3,.eptr (qaa v2)),(33,.bool o)] [.dead,.dead] []
def qql (R70:qfG) (v:tPred) (v2:tPred):Option ((Bool)) :=
 if (v.Op != v2.Op) = true then
  some true
 else
  if (!(v.Name == v2.Name)) = true then
   some true
  else
   if (v.N != v2.N) = true then
    some true
   else
    some ((v.Kids.length:Int) != (v2.Kids.length:Int))
theorem qwX (R70:qfG) (hR70:qoQ R70) (v:tPred) (v2:tPred) {x:(Bool)} (h:qql R70 v v2 = some x) :
  Sat Pg GE 0 (cA b18 12) (EX .normal (qg3 v v2 x)) (qyo v v2):=by
 have p2:=fun {sc F} (r:PS sc F) => sv (qaZ v) <| sv (qa0 v) <| sv (qaZ v2) <| sv (qa0 v2) <| r
 rcases ifs h with ⟨c1,h⟩ | ⟨c1,h⟩
 ·obtain rfl:=lf h
  have z:=p2 <| sg 6 c1 <| eF .normal (qg3 v v2 true)
  exact pcZ A18 z (by kernel_rfl)
 ·have p4:=fun {sc F} (r:PS sc F) => p2 <| sg 6 c1 <| sv (qa9 v) <| sv (qbm v) <| sv (qa9 v2) <| sv (qbm v2) <| r
  rcases ifs h with ⟨c3,h⟩ | ⟨c3,h⟩
  ·obtain rfl:=lf h
   have z:=p4 <| sg 13 c3 <| eF .normal (qg3 v v2 true)
   exact pcZ A18 z (by kernel_rfl)
  ·have p6:=fun {sc F} (r:PS sc F) => p4 <| sg 13 c3 <| sv (qcx v) <| sv (qda v) <| sv (qcx v2) <| sv (qda v2) <| r
   rcases ifs h with ⟨c5,h⟩ | ⟨c5,h⟩
   ·obtain rfl:=lf h
    have z:=p6 <| sg 20 c5 <| eF .normal (qg3 v v2 true)
    exact pcZ A18 z (by kernel_rfl)
   ·obtain rfl:=lf h
    have z:=p6 <| sg 20 c5 <| sv (qax v) <| sv (qay v) <| svn (sT29.ln v.Kids) <| sv (qax v2) <| sv (qay v2) <| svn (sT29.ln v2.Kids) <| eF .normal (qg3 v v2 ((v.Kids.length:Int) != (v2.Kids.length:Int)))
    exact pcZ A18 z (by kernel_rfl)
def qhQ (v:tPred) (v2:tPred) (t36:Int) (t37:Int):PSt:=stt 53 [(2,.eptr (qaa v)),(3,.eptr (qaa v2)),(36,.int .i64 t36),(37,.int .i64 t37)] [.dead,.dead] []
def qhE (o:(Unit)⊕(Unit)):Exit:=match o with
 | (.inl _) => .ret
 | (.inr _) => .exit 0
def qfN (v:tPred) (v2:tPred) (t36:Int) (o:(Unit)⊕(Unit)):PSt:=match o with
 | (.inl o) => stt 53 [(4,.bool false)] [.dead,.dead] []
 | (.inr o) => stt 53 [] [.dead,.dead] []
def qjL (R70:qfG) (v:tPred) (v2:tPred) (t36:Int) (t37:Int):Option ((Int)⊕((Unit)⊕(Unit))) :=
 if (decide (t37 < t36)) = true then
  (idx v.Kids t37).bind fun x11 =>
  (idx v2.Kids t37).bind fun x12 =>
  (R70 x11 x12).bind fun r13 =>
  if (!r13) = true then
   some (.inr (.inl ()))
  else
   some (.inl (w64 (t37 + 1)))
 else
  some (.inr (.inr ()))
def qq0 (R70:qfG) (v:tPred) (v2:tPred) (t36:Int) (t37:Int):Option ((Unit)⊕(Unit)):=loop (fun (zz:Int) => qjL R70 v v2 t36 zz) t37
theorem qvK (R70:qfG) (hR70:qoQ R70) (v:tPred) (v2:tPred) (t36:Int) (t37:Int) {y:(Int)⊕((Unit)⊕(Unit))} (h:qjL R70 v v2 t36 t37 = some y) :
  Sat Pg GE 0 (cA b18 119) (LQ (fun (zz:Int) => qhQ v v2 t36 zz) qhE (qfN v v2 t36) y) (qhQ v v2 t36 t37):=by
 rcases ifs h with ⟨c10,h⟩ | ⟨c10,h⟩
 ·obtain ⟨x11,bx11,h⟩:=bnd h
  obtain ⟨x12,bx12,h⟩:=bnd h
  obtain ⟨r13,br13,h⟩:=bnd h
  have p15:=fun {sc F} (r:PS sc F) => sg 0 c10 <| sdr [0,1,0,7,15,0,32,0,224,480,1023,2047] <| sv (qax v) <| sv (qay v) <| sv (sT29.ia (k := .i64) bx11) <| sv (qaj x11) <| sv (qax v2) <| sv (qay v2) <| sv (sT29.ia (k := .i64) bx12) <| sv (qaj x12) <| sca (hR70 _ _ _ br13) <| r
  rcases ifs h with ⟨c14,h⟩ | ⟨c14,h⟩
  ·obtain rfl:=lf h
   have z:=p15 <| sg 0 c14 <| eF (qhE (.inl ())) (qfN v v2 t36 (.inl ()))
   exact ovZ A18 (by intro hx; cases hx) z (by kernel_rfl)
  ·obtain rfl:=lf h
   have z:=p15 <| sg 0 c14 <| eF .normal (qhQ v v2 t36 (w64 (t37 + 1)))
   exact nxZ A18 z (by kernel_rfl)
 ·obtain rfl:=lf h
  have z:=sg 0 c10 <| eF (qhE (.inr ())) (qfN v v2 t36 (.inr ()))
  exact ovZ A18 (by intro hx; cases hx) z (by kernel_rfl)
theorem qp5 (R70:qfG) (hR70:qoQ R70) (v:tPred) (v2:tPred) (t36:Int) (t37:Int) {x:(Unit)⊕(Unit)} (h:qq0 R70 v v2 t36 t37 = some x) :
  Sat Pg GE 0 (.loop (cA b18 119)) (EX (qhE x) (qfN v v2 t36 x)) (qhQ v v2 t36 t37) :=
 Sat.loop (S:=fun (zz:Int) => qhQ v v2 t36 zz) (ex:=qhE) (s:=t37) h fun zz y hy => qvK R70 hR70 v v2 t36 zz hy
def qoW (R70:qfG) (a:tPred) (a2:tPred):Option (Bool) :=
 (qql R70 a a2).bind fun o7 =>
 if o7 = true then
  some false
 else
  (qq0 R70 a a2 (a.Kids.length:Int) 0).bind fun o16 => match o16 with
  | (.inl o16) =>
   some false
  | (.inr o16) =>
   some true
theorem qzS (R70:qfG) (hR70:qoQ R70) {a:tPred} {a2:tPred} {r:Bool} (h:qoW R70 a a2 = some r):CC Pg GE 18 [.agg (qaa a),.agg (qaa a2)] (.bool r) []:=by
 obtain ⟨o7,bo7,h⟩:=bnd h
 have p9:=fun {sc F} (r:PS sc F) => se (qaL a) <| se (qaL a2) <| spa 1 <| spc (qwX R70 hR70 a a2 bo7) <| r
 rcases ifs h with ⟨c8,h⟩ | ⟨c8,h⟩
 ·obtain rfl:=lf h
  have z:=p9 <| sg 0 c8 <| en (aI (rP (.bool false)) <| trivial)
  exact cvZ A18 Tryz.call18 Tryz.func18 (c:=b18) rfl (aI (qab a) (aI (qab a2) trivial)) z (by kernel_rfl)
 ·obtain ⟨o16,bo16,h⟩:=bnd h
  rcases o16 with o16 | o16
  ·obtain rfl:=lf h
   have z:=p9 <| sg 0 c8 <| sv (qax a) <| sv (qay a) <| svn (sT29.ln a.Kids) <| spc (e := .ret) (s1:=qfN a a2 (a.Kids.length:Int) (.inl o16)) (qp5 R70 hR70 a a2 (a.Kids.length:Int) 0 bo16) <| en (aI (rP (.bool false)) <| trivial)
   exact cvZ A18 Tryz.call18 Tryz.func18 (c:=b18) rfl (aI (qab a) (aI (qab a2) trivial)) z (by kernel_rfl)
  ·obtain rfl:=lf h
   have z:=p9 <| sg 0 c8 <| sv (qax a) <| sv (qay a) <| svn (sT29.ln a.Kids) <| spc (e := .exit 0) (s1:=qfN a a2 (a.Kids.length:Int) (.inr o16)) (qp5 R70 hR70 a a2 (a.Kids.length:Int) 0 bo16) <| en (aI (rP (.bool true)) <| trivial)
   exact cvZ A18 Tryz.call18 Tryz.func18 (c:=b18) rfl (aI (qab a) (aI (qab a2) trivial)) z (by kernel_rfl)
def qsF:((tPred×tPred)→Option (Bool))→(tPred×tPred)→Option (Bool):=fun (rec:(tPred×tPred)→Option (Bool)) (x:tPred×tPred) => qoW (fun a a2 => rec (a,a2)) x.1 x.2
def qiL (a:tPred) (a2:tPred):Option (Bool):=fixE (qsF) (a,a2)
theorem qie {a:tPred} {a2:tPred} {r:Bool} (h:qiL a a2 = some r):CC Pg GE 18 [.agg (qaa a),.agg (qaa a2)] (.bool r) [] :=
 qbX (F:=qsF) (M:=fun (x:tPred×tPred) (r:Bool) => CC Pg GE 18 [.agg (qaa x.1),.agg (qaa x.2)] (.bool r) []) (fun rec hrec x r h => qzS _ (fun a a2 r h => hrec (a,a2) r h) h) h
noncomputable def b44:Code:=Tryz.f44.body.getD .skip
def A44:List Nat:=[]
def qpe (p:tPred):Option (Bool) :=
 (qyL).bind fun r1 =>
 (qiL p r1).bind fun r2 =>
 if r2 = true then
  some true
 else
  (qiL p (⟨0,([]:Str),0,([]:List tPred)⟩:tPred)).bind fun r5 =>
  some r5
theorem qqh {p:tPred} {r:Bool} (h:qpe p = some r):CC Pg GE 44 [.agg (qaa p)] (.bool r) []:=by
 obtain ⟨r1,br1,h⟩:=bnd h
 obtain ⟨r2,br2,h⟩:=bnd h
 have p4:=fun {sc F} (r:PS sc F) => se (qaL p) <| sdr [0,0,3,7,15,15,63,127,255] <| sv (qaj p) <| sca (qBj br1) <| sca (qie br2) <| r
 rcases ifs h with ⟨c3,h⟩ | ⟨c3,h⟩
 ·obtain rfl:=lf h
  have z:=p4 <| sg 4 c3 <| en (aI (rP (.bool true)) <| trivial)
  exact cvZ A44 Tryz.call44 Tryz.func44 (c:=b44) rfl (aI (qab p) trivial) z (by kernel_rfl)
 ·obtain ⟨r5,br5,h⟩:=bnd h
  obtain rfl:=lf h
  have z:=p4 <| sg 4 c3 <| sv (qaj p) <| sb (qtu ) (qtm ) <| sca (qie br5) <| en (aI (rP (.bool r5)) <| trivial)
  exact cvZ A44 Tryz.call44 Tryz.func44 (c:=b44) rfl (aI (qab p) trivial) z (by kernel_rfl)
noncomputable def b48:Code:=Tryz.f48.body.getD .skip
def A48:List Nat:=[]
def qo4 (a:tPred) (a2:tPred):Option (Bool) :=
 (qpe a).bind fun r1 =>
 if r1 = true then
  (qpe a2).bind fun r4 =>
  if r4 = true then
   some true
  else
   (qiL a a2).bind fun r7 =>
   some r7
 else
  (qiL a a2).bind fun r8 =>
  some r8
theorem qvv {a:tPred} {a2:tPred} {r:Bool} (h:qo4 a a2 = some r):CC Pg GE 48 [.agg (qaa a),.agg (qaa a2)] (.bool r) []:=by
 obtain ⟨r1,br1,h⟩:=bnd h
 have p3:=fun {sc F} (r:PS sc F) => se (qaL a) <| se (qaL a2) <| sv (qaj a) <| sca (qqh br1) <| r
 rcases ifs h with ⟨c2,h⟩ | ⟨c2,h⟩
 ·obtain ⟨r4,br4,h⟩:=bnd h
  have p6:=fun {sc F} (r:PS sc F) => p3 <| sg 3 c2 <| sv (qaj a2) <| sca (qqh br4) <| r
  rcases ifs h with ⟨c5,h⟩ | ⟨c5,h⟩
  ·obtain rfl:=lf h
   have z:=p6 <| sg 7 c5 <| en (aI (rP (.bool true)) <| trivial)
   exact cvZ A48 Tryz.call48 Tryz.func48 (c:=b48) rfl (aI (qab a) (aI (qab a2) trivial)) z (by kernel_rfl)
  ·obtain ⟨r7,br7,h⟩:=bnd h
   obtain rfl:=lf h
   have z:=p6 <| sg 7 c5 <| sv (qaj a) <| sv (qaj a2) <| sca (qie br7) <| en (aI (rP (.bool r7)) <| trivial)
   exact cvZ A48 Tryz.call48 Tryz.func48 (c:=b48) rfl (aI (qab a) (aI (qab a2) trivial)) z (by kernel_rfl)
 ·obtain ⟨r8,br8,h⟩:=bnd h
  obtain rfl:=lf h
  have z:=p3 <| sg 3 c2 <| sv (qaj a) <| sv (qaj a2) <| sca (qie br8) <| en (aI (rP (.bool r8)) <| trivial)
  exact cvZ A48 Tryz.call48 Tryz.func48 (c:=b48) rfl (aI (qab a) (aI (qab a2) trivial)) z (by kernel_rfl)
end Go.Proofs.YtgldgpdhblndkaaGreatDoor
