/-
  WHAT IS PROVED: parts of the proof, put together by a program out of smaller texts, their own names made short (G10; G9). Conditions: none.
-/
import Derived.Test.YtgldgpdhblndkaaGreatDoorPkD40
namespace Go.Proofs.YtgldgpdhblndkaaGreatDoor
open Go
set_option linter.unusedVariables false
set_option maxRecDepth 100000
noncomputable def b3:Code:=Tryz.f3.body.getD .skip
abbrev qdU:=((List tType)→Option (Bool))
abbrev qlz (R:qdU):Prop := ∀ (a:(List tType)) (r:Bool),R a = some r→CC Pg GE 12 [sl qac a] (.bool r) []
abbrev qgf:=(tType→Option (Int))
abbrev qpm (R:qgf):Prop := ∀ (t:tType) (r:Int),R t = some r→CC Pg GE 45 [.agg (qac t)] (.int .i64 r) []
noncomputable def b45:Code:=Tryz.f45.body.getD .skip
def A45:List Nat:=[18]
noncomputable def qfV (k:Int) (t7:(List tType)) (t8:Int) (t9:Int):PSt:=stt 19 [(3,.int .i64 k),(7,sl qac t7),(8,.int .i64 t8),(9,.int .i64 t9)] [.dead] []
noncomputable def qkF (t7:(List tType)) (t8:Int) (o:Int):PSt:=stt 19 [(3,.int .i64 o)] [.dead] []
noncomputable def qo6 (R86:qgf) (t7:(List tType)) (t8:Int) (k:Int) (t9:Int):Option ((Int×Int)⊕((Int))) :=
  if (decide (t9 < t8)) = true then
    (idx t7 t9).bind fun x2 =>
    (R86 x2).bind fun r3 =>
    some (.inl (w64 (k + r3),w64 (t9 + 1)))
  else
    some (.inr k)
noncomputable def qno (R86:qgf) (t7:(List tType)) (t8:Int) (k:Int) (t9:Int):Option ((Int)):=loop (fun (zz:Int×Int) => qo6 R86 t7 t8 zz.1 zz.2) (k,t9)
theorem qsr (R86:qgf) (hR86:qpm R86) (k:Int) (t7:(List tType)) (t8:Int) (t9:Int) {y:(Int×Int)⊕((Int))} (h:qo6 R86 t7 t8 k t9 = some y) :
    Sat Pg GE 0 (cA b45 119) (LQ (fun (zz:Int×Int) => qfV zz.1 t7 t8 zz.2) (fun _ => .exit 0) (qkF t7 t8) y) (qfV k t7 t8 t9):=by
  rcases ifs h with ⟨c1,h⟩ | ⟨c1,h⟩
  · obtain ⟨x2,bx2,h⟩:=bnd h
    obtain ⟨r3,br3,h⟩:=bnd h
    obtain rfl:=lf h
    have z:=sg 0 c1 <| sv (sT27.ia (k := .i64) bx2) <| sv (qaZ x2) <| sx pz33 <| sx (qbr x2) <| sv (qaS x2 []) <| sca (hR86 _ _ br3) <| eFx 0 .normal (qfV (w64 (k + r3)) t7 t8 (w64 (t9 + 1))) rfl (qb1 (aI trivial (aI (up (qad qag t7)) (aI trivial (aI trivial trivial))))) (aI trivial trivial)
    exact qbK (A:=A45) mixed z (by kernel_rfl)
  · obtain rfl:=lf h
    have z:=sg 0 c1 <| eF (.exit 0) (qkF t7 t8 k)
    exact qbE (A:=A45) mixed (by intro hx; cases hx) z (by kernel_rfl)
theorem qts (R86:qgf) (hR86:qpm R86) (k:Int) (t7:(List tType)) (t8:Int) (t9:Int) {x:(Int)} (h:qno R86 t7 t8 k t9 = some x) :
    Sat Pg GE 0 (.loop (cA b45 119)) (EX (.exit 0) (qkF t7 t8 x)) (qfV k t7 t8 t9) :=
  Sat.loop (S:=fun (zz:Int×Int) => qfV zz.1 t7 t8 zz.2) (ex:=(fun _ => .exit 0)) (s:=(k,t9)) h fun zz y hy => qsr R86 hR86 zz.1 t7 t8 zz.2 hy
noncomputable def qlE (R86:qgf) (t:tType):Option (Int) :=
  (qno R86 t.Args (t.Args.length:Int) 1 0).bind fun o4 =>
  some o4
theorem quJ (R86:qgf) (hR86:qpm R86) {t:tType} {r:Int} (h:qlE R86 t = some r):CC Pg GE 45 [.agg (qac t)] (.int .i64 r) []:=by
  obtain ⟨o4,bo4,h⟩:=bnd h
  obtain rfl:=lf h
  have z:=se (qbX t) <| sv (qaG t) <| sv (qaI t) <| svn (sT27.ln t.Args) <| spc (qts R86 hR86 1 t.Args (t.Args.length:Int) 0 bo4) <| en (aI (rP (.int .i64 o4)) <| trivial)
  exact C.evp (A:=A45) mixed Tryz.call45 Tryz.func45 (c:=b45) rfl (aI (qag t) trivial) z (by kernel_rfl)
noncomputable def qpu:((tType)→Option (Int))→(tType)→Option (Int):=fun (rec:tType→Option (Int)) (x:tType) => qlE (fun t => rec t) x
noncomputable def qtd (t:tType):Option (Int):=fixE (qpu) t
theorem qkl {t:tType} {r:Int} (h:qtd t = some r):CC Pg GE 45 [.agg (qac t)] (.int .i64 r) [] :=
  qcs (F:=qpu) (M:=fun (x:tType) (r:Int) => CC Pg GE 45 [.agg (qac x)] (.int .i64 r) []) (fun rec hrec x r h => quJ _ (fun t r h => hrec t r h) h) h
abbrev qga:=(tPred→Option (Int))
abbrev qpI (R:qga):Prop := ∀ (p:tPred) (r:Int),R p = some r→CC Pg GE 21 [.agg (qaa p)] (.int .i64 r) []
noncomputable def b21:Code:=Tryz.f21.body.getD .skip
def A21:List Nat:=[18]
noncomputable def qfU (n:Int) (t7:(List tPred)) (t8:Int) (t9:Int):PSt:=stt 19 [(3,.int .i64 n),(7,sl qaa t7),(8,.int .i64 t8),(9,.int .i64 t9)] [.dead] []
noncomputable def qkO (t7:(List tPred)) (t8:Int) (o:Int):PSt:=stt 19 [(3,.int .i64 o)] [.dead] []
noncomputable def qie (R88:qga) (t7:(List tPred)) (t8:Int) (n:Int) (t9:Int):Option ((Int×Int)⊕((Int))) :=
  if (decide (t9 < t8)) = true then
    (idx t7 t9).bind fun x2 =>
    (R88 x2).bind fun r3 =>
    some (.inl (w64 (n + r3),w64 (t9 + 1)))
  else
    some (.inr n)
noncomputable def qnh (R88:qga) (t7:(List tPred)) (t8:Int) (n:Int) (t9:Int):Option ((Int)):=loop (fun (zz:Int×Int) => qie R88 t7 t8 zz.1 zz.2) (n,t9)
theorem qsp (R88:qga) (hR88:qpI R88) (n:Int) (t7:(List tPred)) (t8:Int) (t9:Int) {y:(Int×Int)⊕((Int))} (h:qie R88 t7 t8 n t9 = some y) :
    Sat Pg GE 0 (cA b21 119) (LQ (fun (zz:Int×Int) => qfU zz.1 t7 t8 zz.2) (fun _ => .exit 0) (qkO t7 t8) y) (qfU n t7 t8 t9):=by
  rcases ifs h with ⟨c1,h⟩ | ⟨c1,h⟩
  · obtain ⟨x2,bx2,h⟩:=bnd h
    obtain ⟨r3,br3,h⟩:=bnd h
    obtain rfl:=lf h
    have z:=sg 0 c1 <| sv (sT29.ia (k := .i64) bx2) <| sv (qaj x2) <| sx pz31 <| sx (qan x2) <| sv (qah x2 []) <| sca (hR88 _ _ br3) <| eFx 0 .normal (qfU (w64 (n + r3)) t7 t8 (w64 (t9 + 1))) rfl (qb1 (aI trivial (aI (up (qad qab t7)) (aI trivial (aI trivial trivial))))) (aI trivial trivial)
    exact qbK (A:=A21) mixed z (by kernel_rfl)
  · obtain rfl:=lf h
    have z:=sg 0 c1 <| eF (.exit 0) (qkO t7 t8 n)
    exact qbE (A:=A21) mixed (by intro hx; cases hx) z (by kernel_rfl)
theorem qtJ (R88:qga) (hR88:qpI R88) (n:Int) (t7:(List tPred)) (t8:Int) (t9:Int) {x:(Int)} (h:qnh R88 t7 t8 n t9 = some x) :
    Sat Pg GE 0 (.loop (cA b21 119)) (EX (.exit 0) (qkO t7 t8 x)) (qfU n t7 t8 t9) :=
  Sat.loop (S:=fun (zz:Int×Int) => qfU zz.1 t7 t8 zz.2) (ex:=(fun _ => .exit 0)) (s:=(n,t9)) h fun zz y hy => qsp R88 hR88 zz.1 t7 t8 zz.2 hy
noncomputable def ql1 (R88:qga) (p:tPred):Option (Int) :=
  (qnh R88 p.Kids (p.Kids.length:Int) 1 0).bind fun o4 =>
  some o4
theorem quC (R88:qga) (hR88:qpI R88) {p:tPred} {r:Int} (h:ql1 R88 p = some r):CC Pg GE 21 [.agg (qaa p)] (.int .i64 r) []:=by
  obtain ⟨o4,bo4,h⟩:=bnd h
  obtain rfl:=lf h
  have z:=se (qat p) <| sv (qas p) <| sv (qar p) <| svn (sT29.ln p.Kids) <| spc (qtJ R88 hR88 1 p.Kids (p.Kids.length:Int) 0 bo4) <| en (aI (rP (.int .i64 o4)) <| trivial)
  exact C.evp (A:=A21) mixed Tryz.call21 Tryz.func21 (c:=b21) rfl (aI (qab p) trivial) z (by kernel_rfl)
noncomputable def qpk:((tPred)→Option (Int))→(tPred)→Option (Int):=fun (rec:tPred→Option (Int)) (x:tPred) => ql1 (fun p => rec p) x
noncomputable def qqT (p:tPred):Option (Int):=fixE (qpk) p
theorem qki {p:tPred} {r:Int} (h:qqT p = some r):CC Pg GE 21 [.agg (qaa p)] (.int .i64 r) [] :=
  qcs (F:=qpk) (M:=fun (x:tPred) (r:Int) => CC Pg GE 21 [.agg (qaa x)] (.int .i64 r) []) (fun rec hrec x r h => quC _ (fun p r h => hrec p r h) h) h
abbrev qgj:=(tPred→Option (Int))
abbrev qpQ (R:qgj):Prop := ∀ (p:tPred) (r:Int),R p = some r→CC Pg GE 60 [.agg (qaa p)] (.int .i64 r) []
noncomputable def b60:Code:=Tryz.f60.body.getD .skip
def A60:List Nat:=[]
noncomputable def qfS (n:Int) (t7:(List tPred)) (t8:Int) (t9:Int):PSt:=stt 20 [(3,.int .i64 n),(7,sl qaa t7),(8,.int .i64 t8),(9,.int .i64 t9)] [.dead] []
noncomputable def qkN (t7:(List tPred)) (t8:Int) (o:Int):PSt:=stt 20 [(3,.int .i64 o)] [.dead] []
noncomputable def qpa (R89:qgj) (t7:(List tPred)) (t8:Int) (n:Int) (t9:Int):Option ((Int×Int)⊕((Int))) :=
  if (decide (t9 < t8)) = true then
    (idx t7 t9).bind fun x2 =>
    (R89 x2).bind fun r3 =>
    some (.inl ((if r3 > n then r3 else n),w64 (t9 + 1)))
  else
    some (.inr n)
noncomputable def qnR (R89:qgj) (t7:(List tPred)) (t8:Int) (n:Int) (t9:Int):Option ((Int)):=loop (fun (zz:Int×Int) => qpa R89 t7 t8 zz.1 zz.2) (n,t9)
theorem qsl (R89:qgj) (hR89:qpQ R89) (n:Int) (t7:(List tPred)) (t8:Int) (t9:Int) {y:(Int×Int)⊕((Int))} (h:qpa R89 t7 t8 n t9 = some y) :
    Sat Pg GE 0 (cA b60 119) (LQ (fun (zz:Int×Int) => qfS zz.1 t7 t8 zz.2) (fun _ => .exit 0) (qkN t7 t8) y) (qfS n t7 t8 t9):=by
  rcases ifs h with ⟨c1,h⟩ | ⟨c1,h⟩
  · obtain ⟨x2,bx2,h⟩:=bnd h
    obtain ⟨r3,br3,h⟩:=bnd h
    obtain rfl:=lf h
    have z:=sg 0 c1 <| sv (sT29.ia (k := .i64) bx2) <| sv (qaj x2) <| sx pz31 <| sx (qan x2) <| sv (qah x2 []) <| sca (hR89 _ _ br3) <| eFx 0 .normal (qfS (if r3 > n then r3 else n) t7 t8 (w64 (t9 + 1))) rfl (qb1 (aI trivial (aI (up (qad qab t7)) (aI trivial (aI trivial trivial))))) (aI trivial trivial)
    exact qbK (A:=A60) mixed z (by kernel_rfl)
  · obtain rfl:=lf h
    have z:=sg 0 c1 <| eF (.exit 0) (qkN t7 t8 n)
    exact qbE (A:=A60) mixed (by intro hx; cases hx) z (by kernel_rfl)
theorem qtB (R89:qgj) (hR89:qpQ R89) (n:Int) (t7:(List tPred)) (t8:Int) (t9:Int) {x:(Int)} (h:qnR R89 t7 t8 n t9 = some x) :
    Sat Pg GE 0 (.loop (cA b60 119)) (EX (.exit 0) (qkN t7 t8 x)) (qfS n t7 t8 t9) :=
  Sat.loop (S:=fun (zz:Int×Int) => qfS zz.1 t7 t8 zz.2) (ex:=(fun _ => .exit 0)) (s:=(n,t9)) h fun zz y hy => qsl R89 hR89 zz.1 t7 t8 zz.2 hy
noncomputable def qlT (R89:qgj) (p:tPred):Option (Int) :=
  (qnR R89 p.Kids (p.Kids.length:Int) 0 0).bind fun o4 =>
  some (w64 (o4 + 1))
theorem quP (R89:qgj) (hR89:qpQ R89) {p:tPred} {r:Int} (h:qlT R89 p = some r):CC Pg GE 60 [.agg (qaa p)] (.int .i64 r) []:=by
  obtain ⟨o4,bo4,h⟩:=bnd h
  obtain rfl:=lf h
  have z:=se (qat p) <| sv (qas p) <| sv (qar p) <| svn (sT29.ln p.Kids) <| spc (qtB R89 hR89 0 p.Kids (p.Kids.length:Int) 0 bo4) <| en (aI (rP (.int .i64 (w64 (o4 + 1)))) <| trivial)
  exact C.evp (A:=A60) mixed Tryz.call60 Tryz.func60 (c:=b60) rfl (aI (qab p) trivial) z (by kernel_rfl)
noncomputable def qph:((tPred)→Option (Int))→(tPred)→Option (Int):=fun (rec:tPred→Option (Int)) (x:tPred) => qlT (fun p => rec p) x
noncomputable def qqH (p:tPred):Option (Int):=fixE (qph) p
theorem qnx {p:tPred} {r:Int} (h:qqH p = some r):CC Pg GE 60 [.agg (qaa p)] (.int .i64 r) [] :=
  qcs (F:=qph) (M:=fun (x:tPred) (r:Int) => CC Pg GE 60 [.agg (qaa x)] (.int .i64 r) []) (fun rec hrec x r h => quP _ (fun p r h => hrec p r h) h) h
noncomputable def b46:Code:=Tryz.f46.body.getD .skip
def A46:List Nat:=[]
noncomputable def qqB (p:tPred):Option (Bool) :=
  (qqT p).bind fun r1 =>
  if (decide (r1 ≤ 60)) = true then
    (qqH p).bind fun r3 =>
    some (decide (r3 ≤ 6))
  else
    some false
theorem qr6 {p:tPred} {r:Bool} (h:qqB p = some r):CC Pg GE 46 [.agg (qaa p)] (.bool r) []:=by
  obtain ⟨r1,br1,h⟩:=bnd h
  rcases ifs h with ⟨c2,h⟩ | ⟨c2,h⟩
  · obtain ⟨r3,br3,h⟩:=bnd h
    obtain rfl:=lf h
    have z:=se (qat p) <| sv (qaj p) <| sca (qki br1) <| sg 4 c2 <| sv (qaj p) <| sca (qnx br3) <| en (aI (rP (.bool (decide (r3 ≤ 6)))) <| trivial)
    exact C.evp (A:=A46) mixed Tryz.call46 Tryz.func46 (c:=b46) rfl (aI (qab p) trivial) z (by kernel_rfl)
  · obtain rfl:=lf h
    have z:=se (qat p) <| sv (qaj p) <| sca (qki br1) <| sg 4 c2 <| en (aI (rP (.bool false)) <| trivial)
    exact C.evp (A:=A46) mixed Tryz.call46 Tryz.func46 (c:=b46) rfl (aI (qab p) trivial) z (by kernel_rfl)
noncomputable def b12:Code:=Tryz.f12.body.getD .skip
def A12:List Nat:=[]
noncomputable def qiK (t7:(List tType)) (t8:Int) (t9:Int):PSt:=stt 50 [(7,sl qac t7),(8,.int .i64 t8),(9,.int .i64 t9)] [] []
noncomputable def qgI (o:(Unit)⊕(Unit)):Exit:=match o with
  | (.inl _) => .ret
  | (.inr _) => .exit 0
noncomputable def qe0 (t7:(List tType)) (t8:Int) (o:(Unit)⊕(Unit)):PSt:=match o with
  | (.inl o) => stt 50 [(2,.bool false)] [] []
  | (.inr o) => stt 50 [] [] []
noncomputable def qwi (t7:(List tType)) (t8:Int) (t9:Int) (m:Int) (m2:Str) (m3:(List tType)) (m4:(List Str)) (m5:Int) (m6:Str) (m7:Int) (m8:(List tPred)) (m9:(List tPred)):PSt:=stt 50 [(4,.bptr 0 0),(7,sl qac t7),(8,.int .i64 t8),(9,.int .i64 t9)] [.cells [.int .i64 m,.str m2,sl qac m3,sl cS m4,.int .i64 m5,.str m6,.int .i64 m7,sl qaa m8,sl qaa m9] []] []
noncomputable def qiC (t7:(List tType)) (t8:Int) (t9:Int) (m:Int) (m2:Str) (m3:(List tType)) (m4:(List Str)) (m5:Int) (m6:Str) (m7:Int) (m8:(List tPred)) (m9:(List tPred)) (o:Bool):PSt:=stt 50 [(4,.bptr 0 0),(7,sl qac t7),(8,.int .i64 t8),(9,.int .i64 t9),(33,.bool o)] [.cells [.int .i64 m,.str m2,sl qac m3,sl cS m4,.int .i64 m5,.str m6,.int .i64 m7,sl qaa m8,sl qaa m9] []] []
noncomputable def qrd (R85:qdU) (m:Int) (m2:Str) (m3:(List tType)) (m4:(List Str)) (m5:Int) (m6:Str) (m7:Int) (m8:(List tPred)) (m9:(List tPred)):Option ((Bool)) :=
  (qtd (⟨m,m2,m3,m4,(⟨m5,m6,m7,m8⟩:tPred),m9⟩:tType)).bind fun r3 =>
  if (decide (r3 > 40)) = true then
    some true
  else
    if (decide ((m4.length:Int) > 20)) = true then
      some true
    else
      if (decide ((m9.length:Int) > 20)) = true then
        some true
      else
        (R85 m3).bind fun r7 =>
        some (!r7)
theorem qmi (R85:qdU) (hR85:qlz R85) (t7:(List tType)) (t8:Int) (t9:Int) (m:Int) (m2:Str) (m3:(List tType)) (m4:(List Str)) (m5:Int) (m6:Str) (m7:Int) (m8:(List tPred)) (m9:(List tPred)) {x:(Bool)} (h:qrd R85 m m2 m3 m4 m5 m6 m7 m8 m9 = some x) :
    Sat Pg GE 0 (cA b12 7148) (EX .normal (qiC t7 t8 t9 m m2 m3 m4 m5 m6 m7 m8 m9 x)) (qwi t7 t8 t9 m m2 m3 m4 m5 m6 m7 m8 m9):=by
  obtain ⟨r3,br3,h⟩:=bnd h
  rcases ifs h with ⟨c4,h⟩ | ⟨c4,h⟩
  · obtain rfl:=lf h
    have z:=sv (qaS (⟨m,m2,m3,m4,(⟨m5,m6,m7,m8⟩:tPred),m9⟩:tType) []) <| sca (qkl br3) <| sg 4 c4 <| eF .normal (qiC t7 t8 t9 m m2 m3 m4 m5 m6 m7 m8 m9 true)
    exact qaR (A:=A12) mixed z (by kernel_rfl)
  · rcases ifs h with ⟨c5,h⟩ | ⟨c5,h⟩
    · obtain rfl:=lf h
      have z:=sv (qaS (⟨m,m2,m3,m4,(⟨m5,m6,m7,m8⟩:tPred),m9⟩:tType) []) <| sca (qkl br3) <| sg 4 c4 <| ss <| svn (sT22.ln m4) <| sg 10 c5 <| eF .normal (qiC t7 t8 t9 m m2 m3 m4 m5 m6 m7 m8 m9 true)
      exact qaR (A:=A12) mixed z (by kernel_rfl)
    · rcases ifs h with ⟨c6,h⟩ | ⟨c6,h⟩
      · obtain rfl:=lf h
        have z:=sv (qaS (⟨m,m2,m3,m4,(⟨m5,m6,m7,m8⟩:tPred),m9⟩:tType) []) <| sca (qkl br3) <| sg 4 c4 <| ss <| svn (sT22.ln m4) <| sg 10 c5 <| ss <| svn (sT29.ln m9) <| sg 16 c6 <| eF .normal (qiC t7 t8 t9 m m2 m3 m4 m5 m6 m7 m8 m9 true)
        exact qaR (A:=A12) mixed z (by kernel_rfl)
      · obtain ⟨r7,br7,h⟩:=bnd h
        obtain rfl:=lf h
        have z:=sv (qaS (⟨m,m2,m3,m4,(⟨m5,m6,m7,m8⟩:tPred),m9⟩:tType) []) <| sca (qkl br3) <| sg 4 c4 <| ss <| svn (sT22.ln m4) <| sg 10 c5 <| ss <| svn (sT29.ln m9) <| sg 16 c6 <| ss <| sca (hR85 _ _ br7) <| eF .normal (qiC t7 t8 t9 m m2 m3 m4 m5 m6 m7 m8 m9 (!r7))
        exact qaR (A:=A12) mixed z (by kernel_rfl)
noncomputable def qir (t7:(List tType)) (t8:Int) (t9:Int) (t39:(List tPred)) (t40:Int) (t41:Int) (m:Int) (m2:Str) (m3:(List tType)) (m4:(List Str)) (m5:Int) (m6:Str) (m7:Int) (m8:(List tPred)) (m9:(List tPred)):PSt:=stt 50 [(7,sl qac t7),(8,.int .i64 t8),(9,.int .i64 t9),(39,sl qaa t39),(40,.int .i64 t40),(41,.int .i64 t41)] [.cells [.int .i64 m,.str m2,sl qac m3,sl cS m4,.int .i64 m5,.str m6,.int .i64 m7,sl qaa m8,sl qaa m9] []] [((39,0),31)]
noncomputable def qim (o:(Unit)⊕(Unit)):Exit:=match o with
  | (.inl _) => .ret
  | (.inr _) => .exit 2
noncomputable def qgE (t7:(List tType)) (t8:Int) (t9:Int) (t39:(List tPred)) (t40:Int) (m:Int) (m2:Str) (m3:(List tType)) (m4:(List Str)) (m5:Int) (m6:Str) (m7:Int) (m8:(List tPred)) (m9:(List tPred)) (o:(Unit)⊕(Unit)):PSt:=match o with
  | (.inl o) => stt 50 [(2,.bool false)] [.cells [.int .i64 m,.str m2,sl qac m3,sl cS m4,.int .i64 m5,.str m6,.int .i64 m7,sl qaa m8,sl qaa m9] []] []
  | (.inr o) => stt 50 [(7,sl qac t7),(8,.int .i64 t8),(9,.int .i64 t9)] [.cells [.int .i64 m,.str m2,sl qac m3,sl cS m4,.int .i64 m5,.str m6,.int .i64 m7,sl qaa m8,sl qaa m9] []] []
noncomputable def qrP (R85:qdU) (t39:(List tPred)) (t40:Int) (t41:Int):Option ((Int)⊕((Unit)⊕(Unit))) :=
  if (decide (t41 < t40)) = true then
    (idx t39 t41).bind fun x12 =>
    (qqB x12).bind fun r13 =>
    if (!r13) = true then
      some (.inr (.inl ()))
    else
      some (.inl (w64 (t41 + 1)))
  else
    some (.inr (.inr ()))
noncomputable def qry (R85:qdU) (t39:(List tPred)) (t40:Int) (t41:Int):Option ((Unit)⊕(Unit)):=loop (fun (zz:Int) => qrP R85 t39 t40 zz) t41
theorem qtU (R85:qdU) (hR85:qlz R85) (t7:(List tType)) (t8:Int) (t9:Int) (t39:(List tPred)) (t40:Int) (t41:Int) (m:Int) (m2:Str) (m3:(List tType)) (m4:(List Str)) (m5:Int) (m6:Str) (m7:Int) (m8:(List tPred)) (m9:(List tPred)) {y:(Int)⊕((Unit)⊕(Unit))} (h:qrP R85 t39 t40 t41 = some y) :
    Sat Pg GE 0 (cA b12 28607) (LQ (fun (zz:Int) => qir t7 t8 t9 t39 t40 zz m m2 m3 m4 m5 m6 m7 m8 m9) qim (qgE t7 t8 t9 t39 t40 m m2 m3 m4 m5 m6 m7 m8 m9) y) (qir t7 t8 t9 t39 t40 t41 m m2 m3 m4 m5 m6 m7 m8 m9):=by
  rcases ifs h with ⟨c11,h⟩ | ⟨c11,h⟩
  · obtain ⟨x12,bx12,h⟩:=bnd h
    obtain ⟨r13,br13,h⟩:=bnd h
    rcases ifs h with ⟨c14,h⟩ | ⟨c14,h⟩
    · obtain rfl:=lf h
      have z:=sg 0 c11 <| sv (sT29.ia (k := .i64) bx12) <| sv (qaj x12) <| sx pz31 <| sx (qan x12) <| sv (qah x12 []) <| sca (qr6 br13) <| sg 0 c14 <| eFx 0 (qim (.inl ())) (qgE t7 t8 t9 t39 t40 m m2 m3 m4 m5 m6 m7 m8 m9 (.inl ())) rfl (qb1 (aI trivial trivial)) (aI (aI trivial (aI trivial (aI (up (qad qag m3)) (aI (up (qad clS m4)) (aI trivial (aI trivial (aI trivial (aI (up (qad qab m8)) (aI (up (qad qab m9)) trivial))))))))) trivial)
      exact qi1 (A:=A12) mixed (by intro hx; cases hx) z (by kernel_rfl)
    · obtain rfl:=lf h
      have z:=sg 0 c11 <| sv (sT29.ia (k := .i64) bx12) <| sv (qaj x12) <| sx pz31 <| sx (qan x12) <| sv (qah x12 []) <| sca (qr6 br13) <| sg 0 c14 <| eFx 0 .normal (qir t7 t8 t9 t39 t40 (w64 (t41 + 1)) m m2 m3 m4 m5 m6 m7 m8 m9) rfl (qb1 (aI (up (qad qag t7)) (aI trivial (aI trivial (aI (up (qad qab t39)) (aI trivial (aI trivial trivial))))))) (aI (aI trivial (aI trivial (aI (up (qad qag m3)) (aI (up (qad clS m4)) (aI trivial (aI trivial (aI trivial (aI (up (qad qab m8)) (aI (up (qad qab m9)) trivial))))))))) trivial)
      exact qbK (A:=A12) mixed z (by kernel_rfl)
  · obtain rfl:=lf h
    have z:=sg 0 c11 <| eF (qim (.inr ())) (qgE t7 t8 t9 t39 t40 m m2 m3 m4 m5 m6 m7 m8 m9 (.inr ()))
    exact qbE (A:=A12) mixed (by intro hx; cases hx) z (by kernel_rfl)
theorem qqM (R85:qdU) (hR85:qlz R85) (t7:(List tType)) (t8:Int) (t9:Int) (t39:(List tPred)) (t40:Int) (t41:Int) (m:Int) (m2:Str) (m3:(List tType)) (m4:(List Str)) (m5:Int) (m6:Str) (m7:Int) (m8:(List tPred)) (m9:(List tPred)) {x:(Unit)⊕(Unit)} (h:qry R85 t39 t40 t41 = some x) :
    Sat Pg GE 0 (.loop (cA b12 28607)) (EX (qim x) (qgE t7 t8 t9 t39 t40 m m2 m3 m4 m5 m6 m7 m8 m9 x)) (qir t7 t8 t9 t39 t40 t41 m m2 m3 m4 m5 m6 m7 m8 m9) :=
  Sat.loop (S:=fun (zz:Int) => qir t7 t8 t9 t39 t40 zz m m2 m3 m4 m5 m6 m7 m8 m9) (ex:=qim) (s:=t41) h fun zz y hy => qtU R85 hR85 t7 t8 t9 t39 t40 zz m m2 m3 m4 m5 m6 m7 m8 m9 hy
noncomputable def qse (R85:qdU) (t7:(List tType)) (t8:Int) (t9:Int):Option ((Int)⊕((Unit)⊕(Unit))) :=
  if (decide (t9 < t8)) = true then
    (idx t7 t9).bind fun x2 =>
    (qrd R85 x2.Op x2.Name x2.Args x2.Names x2.Pred.Op x2.Pred.Name x2.Pred.N x2.Pred.Kids x2.Preds).bind fun o8 =>
    if o8 = true then
      some (.inr (.inl ()))
    else
      (app ([x2.Pred]:List tPred) x2.Preds).bind fun l10 =>
      (qry R85 l10 (l10.length:Int) 0).bind fun o15 => match o15 with
      | (.inl o15) =>
        some (.inr (.inl ()))
      | (.inr o15) =>
        some (.inl (w64 (t9 + 1)))
  else
    some (.inr (.inr ()))
noncomputable def qrw (R85:qdU) (t7:(List tType)) (t8:Int) (t9:Int):Option ((Unit)⊕(Unit)):=loop (fun (zz:Int) => qse R85 t7 t8 zz) t9
theorem qtN (R85:qdU) (hR85:qlz R85) (t7:(List tType)) (t8:Int) (t9:Int) {y:(Int)⊕((Unit)⊕(Unit))} (h:qse R85 t7 t8 t9 = some y) :
    Sat Pg GE 0 (cA b12 55) (LQ (fun (zz:Int) => qiK t7 t8 zz) qgI (qe0 t7 t8) y) (qiK t7 t8 t9):=by
  rcases ifs h with ⟨c1,h⟩ | ⟨c1,h⟩
  · obtain ⟨x2,bx2,h⟩:=bnd h
    obtain ⟨o8,bo8,h⟩:=bnd h
    rcases ifs h with ⟨c9,h⟩ | ⟨c9,h⟩
    · obtain rfl:=lf h
      have z:=sg 0 c1 <| sv (sT27.ia (k := .i64) bx2) <| sv (qaZ x2) <| sx pz33 <| sx (qbr x2) <| spa 1 <| spc (qmi R85 hR85 t7 t8 t9 x2.Op x2.Name x2.Args x2.Names x2.Pred.Op x2.Pred.Name x2.Pred.N x2.Pred.Kids x2.Preds bo8) <| sg 0 c9 <| eFx 0 (qgI (.inl ())) (qe0 t7 t8 (.inl ())) rfl (qb1 (aI trivial trivial)) trivial
      exact qi1 (A:=A12) mixed (by intro hx; cases hx) z (by kernel_rfl)
    · obtain ⟨l10,bl10,h⟩:=bnd h
      obtain ⟨o15,bo15,h⟩:=bnd h
      rcases o15 with o15 | o15
      · obtain rfl:=lf h
        have z:=sg 0 c1 <| sv (sT27.ia (k := .i64) bx2) <| sv (qaZ x2) <| sx pz33 <| sx (qbr x2) <| spa 1 <| spc (qmi R85 hR85 t7 t8 t9 x2.Op x2.Name x2.Args x2.Names x2.Pred.Op x2.Pred.Name x2.Pred.N x2.Pred.Kids x2.Preds bo8) <| sg 0 c9 <| sv (qah x2.Pred [sl qaa x2.Preds]) <| sv (sT29.mk' (v:=qaP) qaq ([x2.Pred]:List tPred) 1 (by kernel_rfl)) <| ss <| sv (sT29.ap bl10) <| svn (sT29.ln l10) <| spc (e := .ret) (s1:=qgE t7 t8 t9 l10 (l10.length:Int) x2.Op x2.Name x2.Args x2.Names x2.Pred.Op x2.Pred.Name x2.Pred.N x2.Pred.Kids x2.Preds (.inl o15)) (qqM R85 hR85 t7 t8 t9 l10 (l10.length:Int) 0 x2.Op x2.Name x2.Args x2.Names x2.Pred.Op x2.Pred.Name x2.Pred.N x2.Pred.Kids x2.Preds bo15) <| eFx 0 (qgI (.inl ())) (qe0 t7 t8 (.inl ())) rfl (qb1 (aI trivial trivial)) trivial
        exact qi1 (A:=A12) mixed (by intro hx; cases hx) z (by kernel_rfl)
      · obtain rfl:=lf h
        have z:=sg 0 c1 <| sv (sT27.ia (k := .i64) bx2) <| sv (qaZ x2) <| sx pz33 <| sx (qbr x2) <| spa 1 <| spc (qmi R85 hR85 t7 t8 t9 x2.Op x2.Name x2.Args x2.Names x2.Pred.Op x2.Pred.Name x2.Pred.N x2.Pred.Kids x2.Preds bo8) <| sg 0 c9 <| sv (qah x2.Pred [sl qaa x2.Preds]) <| sv (sT29.mk' (v:=qaP) qaq ([x2.Pred]:List tPred) 1 (by kernel_rfl)) <| ss <| sv (sT29.ap bl10) <| svn (sT29.ln l10) <| spc (e := .exit 2) (s1:=qgE t7 t8 t9 l10 (l10.length:Int) x2.Op x2.Name x2.Args x2.Names x2.Pred.Op x2.Pred.Name x2.Pred.N x2.Pred.Kids x2.Preds (.inr o15)) (qqM R85 hR85 t7 t8 t9 l10 (l10.length:Int) 0 x2.Op x2.Name x2.Args x2.Names x2.Pred.Op x2.Pred.Name x2.Pred.N x2.Pred.Kids x2.Preds bo15) <| eFx 0 .normal (qiK t7 t8 (w64 (t9 + 1))) rfl (qb1 (aI (up (qad qag t7)) (aI trivial (aI trivial trivial)))) trivial
        exact qbK (A:=A12) mixed z (by kernel_rfl)
  · obtain rfl:=lf h
    have z:=sg 0 c1 <| eF (qgI (.inr ())) (qe0 t7 t8 (.inr ()))
    exact qbE (A:=A12) mixed (by intro hx; cases hx) z (by kernel_rfl)
theorem qqI (R85:qdU) (hR85:qlz R85) (t7:(List tType)) (t8:Int) (t9:Int) {x:(Unit)⊕(Unit)} (h:qrw R85 t7 t8 t9 = some x) :
    Sat Pg GE 0 (.loop (cA b12 55)) (EX (qgI x) (qe0 t7 t8 x)) (qiK t7 t8 t9) :=
  Sat.loop (S:=fun (zz:Int) => qiK t7 t8 zz) (ex:=qgI) (s:=t9) h fun zz y hy => qtN R85 hR85 t7 t8 zz hy
noncomputable def qp6 (R85:qdU) (a:(List tType)):Option (Bool) :=
  (qrw R85 a (a.length:Int) 0).bind fun o16 => match o16 with
  | (.inl o16) =>
    some false
  | (.inr o16) =>
    some true
theorem qw6 (R85:qdU) (hR85:qlz R85) {a:(List tType)} {r:Bool} (h:qp6 R85 a = some r):CC Pg GE 12 [sl qac a] (.bool r) []:=by
  obtain ⟨o16,bo16,h⟩:=bnd h
  rcases o16 with o16 | o16
  · obtain rfl:=lf h
    have z:=svn (sT27.ln a) <| spc (e := .ret) (s1:=qe0 a (a.length:Int) (.inl o16)) (qqI R85 hR85 a (a.length:Int) 0 bo16) <| en (aI (rP (.bool false)) <| trivial)
    exact C.evp (A:=A12) mixed Tryz.call12 Tryz.func12 (c:=b12) rfl (aI (qad qag a) trivial) z (by kernel_rfl)
  · obtain rfl:=lf h
    have z:=svn (sT27.ln a) <| spc (e := .exit 0) (s1:=qe0 a (a.length:Int) (.inr o16)) (qqI R85 hR85 a (a.length:Int) 0 bo16) <| en (aI (rP (.bool true)) <| trivial)
    exact C.evp (A:=A12) mixed Tryz.call12 Tryz.func12 (c:=b12) rfl (aI (qad qag a) trivial) z (by kernel_rfl)
noncomputable def qtp:(((List tType))→Option (Bool))→((List tType))→Option (Bool):=fun (rec:(List tType)→Option (Bool)) (x:(List tType)) => qp6 (fun a => rec a) x
noncomputable def qw0 (a:(List tType)):Option (Bool):=fixE (qtp) a
theorem qus {a:(List tType)} {r:Bool} (h:qw0 a = some r):CC Pg GE 12 [sl qac a] (.bool r) [] :=
  qcs (F:=qtp) (M:=fun (x:(List tType)) (r:Bool) => CC Pg GE 12 [sl qac x] (.bool r) []) (fun rec hrec x r h => qw6 _ (fun a r h => hrec a r h) h) h
end Go.Proofs.YtgldgpdhblndkaaGreatDoor
namespace Go.Proofs.YtgldgpdhblndkaaGreatDoor
open Go
set_option linter.unusedVariables false
set_option maxRecDepth 100000
noncomputable def b28:Code:=Tryz.f28.body.getD .skip
def A28:List Nat:=[10,17]
noncomputable def qhA (v:(List Str)) (s:Str) (t7:Int) (t8:Int):PSt:=stt 19 [(0,sl cS v),(1,.str s),(7,.int .i64 t7),(8,.int .i64 t8)] [] []
noncomputable def qhl (o:(Int)⊕(Unit)):Exit:=match o with
  | (.inl _) => .ret
  | (.inr _) => .exit 0
noncomputable def qfz (v:(List Str)) (s:Str) (t7:Int) (o:(Int)⊕(Unit)):PSt:=match o with
  | (.inl o) => stt 19 [(4,.int .i64 o)] [] []
  | (.inr o) => stt 19 [] [] []
noncomputable def qeh (v:(List Str)) (s:Str) (t7:Int) (t8:Int):Option ((Int)⊕((Int)⊕(Unit))) :=
  if (decide (t8 < t7)) = true then
    (idx v t8).bind fun x2 =>
    if (x2 == s) = true then
      some (.inr (.inl t8))
    else
      some (.inl (w64 (t8 + 1)))
  else
    some (.inr (.inr ()))
noncomputable def qpV (v:(List Str)) (s:Str) (t7:Int) (t8:Int):Option ((Int)⊕(Unit)):=loop (fun (zz:Int) => qeh v s t7 zz) t8
theorem qs4 (v:(List Str)) (s:Str) (t7:Int) (t8:Int) {y:(Int)⊕((Int)⊕(Unit))} (h:qeh v s t7 t8 = some y) :
    Sat Pg GE 0 (cA b28 55) (LQ (fun (zz:Int) => qhA v s t7 zz) qhl (qfz v s t7) y) (qhA v s t7 t8):=by
  rcases ifs h with ⟨c1,h⟩ | ⟨c1,h⟩
  · obtain ⟨x2,bx2,h⟩:=bnd h
    rcases ifs h with ⟨c3,h⟩ | ⟨c3,h⟩
    · obtain rfl:=lf h
      have z:=sg 0 c1 <| sv (sT22.ia (k := .i64) bx2) <| sv (qbb sc9 (.str x2) []) <| sg 0 c3 <| eF (qhl (.inl t8)) (qfz v s t7 (.inl t8))
      exact qbE (A:=A28) mixed (by intro hx; cases hx) z (by kernel_rfl)
    · obtain rfl:=lf h
      have z:=sg 0 c1 <| sv (sT22.ia (k := .i64) bx2) <| sv (qbb sc9 (.str x2) []) <| sg 0 c3 <| eF .normal (qhA v s t7 (w64 (t8 + 1)))
      exact qjk (A:=A28) mixed z (by kernel_rfl)
  · obtain rfl:=lf h
    have z:=sg 0 c1 <| eF (qhl (.inr ())) (qfz v s t7 (.inr ()))
    exact qbE (A:=A28) mixed (by intro hx; cases hx) z (by kernel_rfl)
theorem qo1 (v:(List Str)) (s:Str) (t7:Int) (t8:Int) {x:(Int)⊕(Unit)} (h:qpV v s t7 t8 = some x) :
    Sat Pg GE 0 (.loop (cA b28 55)) (EX (qhl x) (qfz v s t7 x)) (qhA v s t7 t8) :=
  Sat.loop (S:=fun (zz:Int) => qhA v s t7 zz) (ex:=qhl) (s:=t8) h fun zz y hy => qs4 v s t7 zz hy
noncomputable def qsA (a:(List Str)) (s:Str):Option (Int) :=
  (qpV a s (a.length:Int) 0).bind fun o4 => match o4 with
  | (.inl o4) =>
    some o4
  | (.inr o4) =>
    some (-1)
theorem qtK {a:(List Str)} {s:Str} {r:Int} (h:qsA a s = some r):CC Pg GE 28 [sl cS a,.str s] (.int .i64 r) []:=by
  obtain ⟨o4,bo4,h⟩:=bnd h
  rcases o4 with o4 | o4
  · obtain rfl:=lf h
    have z:=svn (sT22.ln a) <| spc (e := .ret) (s1:=qfz a s (a.length:Int) (.inl o4)) (qo1 a s (a.length:Int) 0 bo4) <| en (aI (rP (.int .i64 o4)) <| trivial)
    exact C.evp (A:=A28) mixed Tryz.call28 Tryz.func28 (c:=b28) rfl (aI (qad clS a) (aI trivial trivial)) z (by kernel_rfl)
  · obtain rfl:=lf h
    have z:=svn (sT22.ln a) <| spc (e := .exit 0) (s1:=qfz a s (a.length:Int) (.inr o4)) (qo1 a s (a.length:Int) 0 bo4) <| en (aI (rP (.int .i64 (-1))) <| trivial)
    exact C.evp (A:=A28) mixed Tryz.call28 Tryz.func28 (c:=b28) rfl (aI (qad clS a) (aI trivial trivial)) z (by kernel_rfl)
end Go.Proofs.YtgldgpdhblndkaaGreatDoor
