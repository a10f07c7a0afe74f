/-
  WHAT IS PROVED: parts of the proof, put together by a program out of smaller texts, their own names made short (G4). Conditions: none.
-/
import Derived.Test.YtgldgpdhblndkaaGreatDoorPkD35
namespace Go.Proofs.YtgldgpdhblndkaaGreatDoor
open Go
set_option linter.unusedVariables false
set_option maxRecDepth 100000
noncomputable def b175:Code:=Tryz.f175.body.getD .skip
def A175:List Nat:=[44,48,80]
noncomputable def qaO (t:tType) (used:(List Str)) (t40:(List tType)) (t41:Int) (t42:Int) (m:(List tType)) (m2:(List tPred)) (w3:List Str) (m3:Int) (m4:Str) (m5:(List tType)) (n:Nat) (m6:Int) (m7:Str) (m8:Int) (m9:(List tPred)) (m10:(List tPred)) (m11:(List Str)) (m12:(List tPred)) (m13:(List Str)) (m14:(List tPred)):PSt:=stt 99 [(3,.eptr (qac t)),(4,.bptr 2 0),(5,.bptr 4 0),(7,sl cS used),(8,.bptr 6 0),(40,sl qac t40),(41,.int .i64 t41),(42,.int .i64 t42)] [.dead,.dead,.cells [.int .i64 0,.str ([]:Str),sl qac m,sl cS ([]:List Str),.int .i64 0,.str ([]:Str),.int .i64 0,sl qaa m2,sl qaa m2] [(2,33),(3,9),(7,31),(8,31)],.cells (flC cS w3) [],.cells [.int .i64 m3,.str m4,sl qac m5,.bsl 3 0 n,.int .i64 m6,.str m7,.int .i64 m8,sl qaa m9,sl qaa m10] [(2,33)],.cells [sl cS m11,sl qaa m12] [],.cells [sl cS m13,sl qaa m14] []] [((7,0),9)]
noncomputable def qca (t:tType) (t40:(List tType)) (t41:Int) (m:(List tType)) (m2:(List tPred)) (m3:Int) (m4:Str) (n:Nat) (m6:Int) (m7:Str) (m8:Int) (m9:(List tPred)) (m10:(List tPred)) (m11:(List Str)) (m12:(List tPred)) (o:List Str×(List tType)×(List Str)×(List tPred)):PSt:=stt 99 [(4,.bptr 2 0),(5,.bptr 4 0)] [.dead,.dead,.cells [.int .i64 0,.str ([]:Str),sl qac m,sl cS ([]:List Str),.int .i64 0,.str ([]:Str),.int .i64 0,sl qaa m2,sl qaa m2] [(2,33),(3,9),(7,31),(8,31)],.cells (flC cS o.1) [],.cells [.int .i64 m3,.str m4,sl qac o.2.1,.bsl 3 0 n,.int .i64 m6,.str m7,.int .i64 m8,sl qaa m9,sl qaa m10] [(2,33)],.cells [sl cS m11,sl qaa m12] [],.cells [sl cS o.2.2.1,sl qaa o.2.2.2] []] []
noncomputable def qdv (R45:qap) (t:tType) (t40:(List tType)) (t41:Int) (n:Nat) (used:(List Str)) (t42:Int) (w3:List Str) (m5:(List tType)) (m13:(List Str)) (m14:(List tPred)):Option (((List Str)×Int×List Str×(List tType)×(List Str)×(List tPred))⊕((List Str×(List tType)×(List Str)×(List tPred)))) :=
  if (decide (t42 < t41)) = true then
    (idx t40 t42).bind fun x9 =>
    (R45 (⟨m13,m14⟩:reftype_substitution) x9).bind fun r10 =>
    (app m5 ([r10]:List tType)).bind fun l11 =>
    if (decide (t42 ≥ (t.Names.length:Int))) = true then
      some (.inl (used,w64 (t42 + 1),w3,l11,m13,m14))
    else
      (idx t.Names t42).bind fun x13 =>
      (qb9 (⟨m13,m14⟩:reftype_substitution) ([x13]:List Str)).bind fun r14 =>
      (qdN r14).bind fun r15 =>
      (qdr r15 x13).bind fun r16 =>
      if r16 = true then
        (qpP used x13).bind fun r18 =>
        (idn n w3 t42).bind fun x19 =>
        (upd w3 t42 r18).bind fun l20 =>
        (idn n l20 t42).bind fun x21 =>
        (app used ([x21]:List Str)).bind fun l22 =>
        (idn n l20 t42).bind fun x23 =>
        (qfX r14 x13 (⟨3,x23,0,([]:List tPred)⟩:tPred)).bind fun r24 =>
        some (.inl (l22,w64 (t42 + 1),l20,l11,r24.names,r24.by_))
      else
        some (.inl (used,w64 (t42 + 1),w3,l11,r14.names,r14.by_))
  else
    some (.inr (w3,m5,m13,m14))
noncomputable def qdO (R45:qap) (t:tType) (t40:(List tType)) (t41:Int) (n:Nat) (used:(List Str)) (t42:Int) (w3:List Str) (m5:(List tType)) (m13:(List Str)) (m14:(List tPred)):Option ((List Str×(List tType)×(List Str)×(List tPred))):=loop (fun (zz:(List Str)×Int×List Str×(List tType)×(List Str)×(List tPred)) => qdv R45 t t40 t41 n zz.1 zz.2.1 zz.2.2.1 zz.2.2.2.1 zz.2.2.2.2.1 zz.2.2.2.2.2) (used,t42,w3,m5,m13,m14)
theorem qf0 (R45:qap) (hR45:qbl R45) (t:tType) (used:(List Str)) (t40:(List tType)) (t41:Int) (t42:Int) (m:(List tType)) (m2:(List tPred)) (w3:List Str) (m3:Int) (m4:Str) (m5:(List tType)) (n:Nat) (m6:Int) (m7:Str) (m8:Int) (m9:(List tPred)) (m10:(List tPred)) (m11:(List Str)) (m12:(List tPred)) (m13:(List Str)) (m14:(List tPred)) {y:((List Str)×Int×List Str×(List tType)×(List Str)×(List tPred))⊕((List Str×(List tType)×(List Str)×(List tPred)))} (h:qdv R45 t t40 t41 n used t42 w3 m5 m13 m14 = some y) :
    Sat Pg GE 0 (cA b175 1015) (LQ (fun (zz:(List Str)×Int×List Str×(List tType)×(List Str)×(List tPred)) => qaO t zz.1 t40 t41 zz.2.1 m m2 zz.2.2.1 m3 m4 zz.2.2.2.1 n m6 m7 m8 m9 m10 m11 m12 zz.2.2.2.2.1 zz.2.2.2.2.2) (fun _ => .exit 0) (qca t t40 t41 m m2 m3 m4 n m6 m7 m8 m9 m10 m11 m12) y) (qaO t used t40 t41 t42 m m2 w3 m3 m4 m5 n m6 m7 m8 m9 m10 m11 m12 m13 m14):=by
  rcases ifs h with ⟨c8,h⟩ | ⟨c8,h⟩
  · obtain ⟨x9,bx9,h⟩:=bnd h
    obtain ⟨r10,br10,h⟩:=bnd h
    obtain ⟨l11,bl11,h⟩:=bnd h
    rcases ifs h with ⟨c12,h⟩ | ⟨c12,h⟩
    · obtain rfl:=lf h
      have z:=sg 0 c8 <| sv (sT27.ia (k := .i64) bx9) <| sv (qaZ x9) <| sx pz33 <| sx (qbr x9) <| sdr [0,1,0,0,12,28,63,127,255] <| sv (qaE (⟨m13,m14⟩:reftype_substitution) []) <| sv (qaS x9 []) <| sca (hR45 _ _ _ br10) <| sv (sT27.mk' (v:=qc4) qbv ([r10]:List tType) 1 (by kernel_rfl)) <| sv (sT27.ap bl11) <| ssf (rfl:qbc (sl qac l11) = some [sl qac l11]) <| sv (qaM t) <| sv (qaN t) <| svn (sT22.ln t.Names) <| sg 0 c12 <| eFx 0 .normal (qaO t used t40 t41 (w64 (t42 + 1)) m m2 w3 m3 m4 l11 n m6 m7 m8 m9 m10 m11 m12 m13 m14) rfl (qb1 (aI (qbQ (qag t)) (aI (qdu rfl) (aI (qdu rfl) (aI (up (qad clS used)) (aI (qdu rfl) (aI (up (qad qag t40)) (aI trivial (aI trivial trivial))))))))) (aI trivial (aI trivial (aI (aI trivial (aI trivial (aI (up (qad qag m)) (aI (up (qad clS ([]:List Str))) (aI trivial (aI trivial (aI trivial (aI (up (qad qab m2)) (aI (up (qad qab m2)) trivial))))))))) (aI (clF _ clS w3) (aI (aI trivial (aI trivial (aI (up (qad qag l11)) (aI (qdu rfl) (aI trivial (aI trivial (aI trivial (aI (up (qad qab m9)) (aI (up (qad qab m10)) trivial))))))))) (aI (aI (up (qad clS m11)) (aI (up (qad qab m12)) trivial)) (aI (aI (up (qad clS m13)) (aI (up (qad qab m14)) trivial)) trivial)))))))
      exact qbK (A:=A175) mixed z (by kernel_rfl)
    · obtain ⟨x13,bx13,h⟩:=bnd h
      obtain ⟨r14,br14,h⟩:=bnd h
      obtain ⟨r15,br15,h⟩:=bnd h
      obtain ⟨r16,br16,h⟩:=bnd h
      rcases ifs h with ⟨c17,h⟩ | ⟨c17,h⟩
      · obtain ⟨r18,br18,h⟩:=bnd h
        obtain ⟨x19,bx19,h⟩:=bnd h
        obtain ⟨l20,bl20,h⟩:=bnd h
        obtain ⟨x21,bx21,h⟩:=bnd h
        obtain ⟨l22,bl22,h⟩:=bnd h
        obtain ⟨x23,bx23,h⟩:=bnd h
        obtain ⟨r24,br24,h⟩:=bnd h
        obtain rfl:=lf h
        have z:=sg 0 c8 <| sv (sT27.ia (k := .i64) bx9) <| sv (qaZ x9) <| sx pz33 <| sx (qbr x9) <| sdr [0,1,0,0,12,28,63,127,255] <| sv (qaE (⟨m13,m14⟩:reftype_substitution) []) <| sv (qaS x9 []) <| sca (hR45 _ _ _ br10) <| sv (sT27.mk' (v:=qc4) qbv ([r10]:List tType) 1 (by kernel_rfl)) <| sv (sT27.ap bl11) <| ssf (rfl:qbc (sl qac l11) = some [sl qac l11]) <| sv (qaM t) <| sv (qaN t) <| svn (sT22.ln t.Names) <| sg 0 c12 <| sv (qaM t) <| sv (qaN t) <| sv (sT22.ia (k := .i64) bx13) <| sv (qbb sc9 (.str x13) []) <| sv (qaE (⟨m13,m14⟩:reftype_substitution) []) <| sv (sT22.mk' (v:=PVal.str) pcS ([x13]:List Str) 1 (by kernel_rfl)) <| sca (qbU br14) <| sy (qa7 r14) <| sv (qaE r14 []) <| sca (qdf br15) <| sca (qbH br16) <| sg 0 c17 <| si0 (.dx [0,1,0,0,0,24,63,127] [] [] [3]) <| ss <| sca (qoR br18) <| sv (sT22.iaN 3 (k := .i64) bx19) <| swr (sT22.stR (pcS r18) bl20) <| ss <| sv (sT22.iaN 3 (k := .i64) bx21) <| sv (sT22.ldN (fun r => qbb sc9 (.str x21) r) bx21) <| sv (sT22.mk' (v:=PVal.str) pcS ([x21]:List Str) 1 (by kernel_rfl)) <| sv (sT22.ap bl22) <| sdr [0,0,0,4,0,28,60,124,255,511] <| sv (qaE r14 []) <| ss <| sv (sT22.iaN 3 (k := .i64) bx23) <| sv (sT22.ldN (fun r => qbb sc9 (.str x23) r) bx23) <| sb (qiu 3 x23) (qio 3 x23) <| sca (qjm br24) <| syx (qcT r24) <| eFx 0 .normal (qaO t l22 t40 t41 (w64 (t42 + 1)) m m2 l20 m3 m4 l11 n m6 m7 m8 m9 m10 m11 m12 r24.names r24.by_) rfl (qb1 (aI (qbQ (qag t)) (aI (qdu rfl) (aI (qdu rfl) (aI (up (qad clS l22)) (aI (qdu rfl) (aI (up (qad qag t40)) (aI trivial (aI trivial trivial))))))))) (aI trivial (aI trivial (aI (aI trivial (aI trivial (aI (up (qad qag m)) (aI (up (qad clS ([]:List Str))) (aI trivial (aI trivial (aI trivial (aI (up (qad qab m2)) (aI (up (qad qab m2)) trivial))))))))) (aI (clF _ clS l20) (aI (aI trivial (aI trivial (aI (up (qad qag l11)) (aI (qdu rfl) (aI trivial (aI trivial (aI trivial (aI (up (qad qab m9)) (aI (up (qad qab m10)) trivial))))))))) (aI (aI (up (qad clS m11)) (aI (up (qad qab m12)) trivial)) (aI (aI (up (qad clS r24.names)) (aI (up (qad qab r24.by_)) trivial)) trivial)))))))
        exact qbK (A:=A175) mixed z (by kernel_rfl)
      · obtain rfl:=lf h
        have z:=sg 0 c8 <| sv (sT27.ia (k := .i64) bx9) <| sv (qaZ x9) <| sx pz33 <| sx (qbr x9) <| sdr [0,1,0,0,12,28,63,127,255] <| sv (qaE (⟨m13,m14⟩:reftype_substitution) []) <| sv (qaS x9 []) <| sca (hR45 _ _ _ br10) <| sv (sT27.mk' (v:=qc4) qbv ([r10]:List tType) 1 (by kernel_rfl)) <| sv (sT27.ap bl11) <| ssf (rfl:qbc (sl qac l11) = some [sl qac l11]) <| sv (qaM t) <| sv (qaN t) <| svn (sT22.ln t.Names) <| sg 0 c12 <| sv (qaM t) <| sv (qaN t) <| sv (sT22.ia (k := .i64) bx13) <| sv (qbb sc9 (.str x13) []) <| sv (qaE (⟨m13,m14⟩:reftype_substitution) []) <| sv (sT22.mk' (v:=PVal.str) pcS ([x13]:List Str) 1 (by kernel_rfl)) <| sca (qbU br14) <| sy (qa7 r14) <| sv (qaE r14 []) <| sca (qdf br15) <| sca (qbH br16) <| sg 0 c17 <| eFx 0 .normal (qaO t used t40 t41 (w64 (t42 + 1)) m m2 w3 m3 m4 l11 n m6 m7 m8 m9 m10 m11 m12 r14.names r14.by_) rfl (qb1 (aI (qbQ (qag t)) (aI (qdu rfl) (aI (qdu rfl) (aI (up (qad clS used)) (aI (qdu rfl) (aI (up (qad qag t40)) (aI trivial (aI trivial trivial))))))))) (aI trivial (aI trivial (aI (aI trivial (aI trivial (aI (up (qad qag m)) (aI (up (qad clS ([]:List Str))) (aI trivial (aI trivial (aI trivial (aI (up (qad qab m2)) (aI (up (qad qab m2)) trivial))))))))) (aI (clF _ clS w3) (aI (aI trivial (aI trivial (aI (up (qad qag l11)) (aI (qdu rfl) (aI trivial (aI trivial (aI trivial (aI (up (qad qab m9)) (aI (up (qad qab m10)) trivial))))))))) (aI (aI (up (qad clS m11)) (aI (up (qad qab m12)) trivial)) (aI (aI (up (qad clS r14.names)) (aI (up (qad qab r14.by_)) trivial)) trivial)))))))
        exact qbK (A:=A175) mixed z (by kernel_rfl)
  · obtain rfl:=lf h
    have z:=sg 0 c8 <| eF (.exit 0) (qca t t40 t41 m m2 m3 m4 n m6 m7 m8 m9 m10 m11 m12 (w3,m5,m13,m14))
    exact qbE (A:=A175) mixed (by intro hx; cases hx) z (by kernel_rfl)
theorem qgm (R45:qap) (hR45:qbl R45) (t:tType) (used:(List Str)) (t40:(List tType)) (t41:Int) (t42:Int) (m:(List tType)) (m2:(List tPred)) (w3:List Str) (m3:Int) (m4:Str) (m5:(List tType)) (n:Nat) (m6:Int) (m7:Str) (m8:Int) (m9:(List tPred)) (m10:(List tPred)) (m11:(List Str)) (m12:(List tPred)) (m13:(List Str)) (m14:(List tPred)) {x:(List Str×(List tType)×(List Str)×(List tPred))} (h:qdO R45 t t40 t41 n used t42 w3 m5 m13 m14 = some x) :
    Sat Pg GE 0 (.loop (cA b175 1015)) (EX (.exit 0) (qca t t40 t41 m m2 m3 m4 n m6 m7 m8 m9 m10 m11 m12 x)) (qaO t used t40 t41 t42 m m2 w3 m3 m4 m5 n m6 m7 m8 m9 m10 m11 m12 m13 m14) :=
  Sat.loop (S:=fun (zz:(List Str)×Int×List Str×(List tType)×(List Str)×(List tPred)) => qaO t zz.1 t40 t41 zz.2.1 m m2 zz.2.2.1 m3 m4 zz.2.2.2.1 n m6 m7 m8 m9 m10 m11 m12 zz.2.2.2.2.1 zz.2.2.2.2.2) (ex:=(fun _ => .exit 0)) (s:=(used,t42,w3,m5,m13,m14)) h fun zz y hy => qf0 R45 hR45 t zz.1 t40 t41 zz.2.1 m m2 zz.2.2.1 m3 m4 zz.2.2.2.1 n m6 m7 m8 m9 m10 m11 m12 zz.2.2.2.2.1 zz.2.2.2.2.2 hy
noncomputable def qeA (R45:qap) (s:reftype_substitution) (t:tType):Option (tType) :=
  (qip t.Names).bind fun r1 =>
  (qcG s t.Pred).bind fun r2 =>
  (qk0 t.Preds s).bind fun r3 =>
  (qdN s).bind fun r4 =>
  (qnn t).bind fun r5 =>
  (app r4 r5).bind fun l6 =>
  (app l6 t.Names).bind fun l7 =>
  (qdO R45 t t.Args (t.Args.length:Int) r1.length l7 0 r1 ([]:List tType) s.names s.by_).bind fun o25 =>
  (frz r1.length o25.1).bind fun l26 =>
  some (⟨t.Op,t.Name,o25.2.1,l26,r2,r3⟩:tType)
theorem qhC (R45:qap) (hR45:qbl R45) {s:reftype_substitution} {t:tType} {r:tType} (h:qeA R45 s t = some r):CC Pg GE 175 [.agg (qaf s),.agg (qac t)] (.agg (qac r)) [(2,33)]:=by
  obtain ⟨r1,br1,h⟩:=bnd h
  obtain ⟨r2,br2,h⟩:=bnd h
  obtain ⟨r3,br3,h⟩:=bnd h
  obtain ⟨r4,br4,h⟩:=bnd h
  obtain ⟨r5,br5,h⟩:=bnd h
  obtain ⟨l6,bl6,h⟩:=bnd h
  obtain ⟨l7,bl7,h⟩:=bnd h
  obtain ⟨o25,bo25,h⟩:=bnd h
  obtain ⟨l26,bl26,h⟩:=bnd h
  obtain rfl:=lf h
  have z:=se (qbx s) <| se (qbX t) <| sx pz33 <| si0 (.dx [0,1,0,4,0,16,48,0,0,256,1008,0,2048,0,8192,32752,65535,0,262143] [.cells (flC cS r1) []] [(6,3)] []) <| sv (qaJ t) <| sv (qaH t) <| sv (qbp t) <| sv (qbu t) <| sv (qaM t) <| sv (qaN t) <| sar 3 9 (sT22.cloneR qqv br1) <| sv (qa6 s) <| sv (qcJ t) <| sv (qcK t) <| sca (qde br2) <| sv (qaV t) <| sv (qaT t) <| sv (qa6 s) <| sca (qli br3) <| sb (qm6 t.Op t.Name 3 r1.length r2 r3) (qni t.Op t.Name 3 r1.length r2 r3) <| syx (pcA [.int .i64 t.Op,.str t.Name,sl qac ([]:List tType),.bsl 3 0 r1.length,.int .i64 r2.Op,.str r2.Name,.int .i64 r2.N,sl qaa r2.Kids,sl qaa r3]) <| sv (qa6 s) <| sx qyB <| sx (qcT s) <| sdr [0,1,0,7,15,0,32,127,255] <| sv (qaE s []) <| sca (qdf br4) <| sv (qaZ t) <| sca (qnM br5) <| sv (sT22.ap bl6) <| sv (qaM t) <| sv (qaN t) <| sv (sT22.ap bl7) <| sv (qa6 s) <| sx qyB <| sx (qcT s) <| sv (qaG t) <| sv (qaI t) <| svn (sT27.ln t.Args) <| spc (qgm R45 hR45 t l7 t.Args (t.Args.length:Int) 0 ([]:List tType) ([]:List tPred) r1 t.Op t.Name ([]:List tType) r1.length r2.Op r2.Name r2.N r2.Kids r3 s.names s.by_ s.names s.by_ bo25) <| sfz 3 (l26.map cS) [4,5] [] (sT22.fz1 (m:=0) (b:=3) rfl l26) (sT22.fz2 3 l26) (fz3 cS bl26) <| sf (nof 3 (p:=sl qac ([]:List tType)) (qad qag ([]:List tType))) <| sf (nof 3 (p:=sl cS ([]:List Str)) (qad clS ([]:List Str))) <| sf (nof 3 (p:=sl qaa ([]:List tPred)) (qad qab ([]:List tPred))) <| sf (nof 3 (p:=sl qaa ([]:List tPred)) (qad qab ([]:List tPred))) <| sf (nof 3 (p:=sl qac o25.2.1) (qad qag o25.2.1)) <| sf (fz4 cS bl26) <| sf (nof 3 (p:=sl qaa r2.Kids) (qad qab r2.Kids)) <| sf (nof 3 (p:=sl qaa r3) (qad qab r3)) <| sf (nof 3 (p:=sl cS s.names) (qad clS s.names)) <| sf (nof 3 (p:=sl qaa s.by_) (qad qab s.by_)) <| sf (nof 3 (p:=sl cS o25.2.2.1) (qad clS o25.2.2.1)) <| sf (nof 3 (p:=sl qaa o25.2.2.2) (qad qab o25.2.2.2)) <| sz (qaS (⟨t.Op,t.Name,o25.2.1,l26,r2,r3⟩:tType) []) <| sy (qaB (⟨t.Op,t.Name,o25.2.1,l26,r2,r3⟩:tType)) <| en (aI (qc8 (⟨t.Op,t.Name,o25.2.1,l26,r2,r3⟩:tType)) <| aI (qag (⟨t.Op,t.Name,o25.2.1,l26,r2,r3⟩:tType)) <| rT)
  exact C.evp (A:=A175) mixed Tryz.call175 Tryz.func175 (c:=b175) rfl (aI (qaD s) (aI (qag t) trivial)) z (by kernel_rfl)
noncomputable def b178:Code:=Tryz.f178.body.getD .skip
def A178:List Nat:=[14,21]
noncomputable def qcN (v:reftype_substitution) (out:(List tType)) (t8:(List tType)) (t9:Int) (t10:Int):PSt:=stt 22 [(1,.func (.func 155) [.agg (qaf v)] []),(5,sl qac out),(8,sl qac t8),(9,.int .i64 t9),(10,.int .i64 t10)] [] [((5,0),33)]
noncomputable def qe5 (v:reftype_substitution) (t8:(List tType)) (t9:Int) (o:(List tType)):PSt:=stt 22 [(5,sl qac o)] [] [((5,0),33)]
noncomputable def qis (R45:qap) (v:reftype_substitution) (t8:(List tType)) (t9:Int) (out:(List tType)) (t10:Int):Option (((List tType)×Int)⊕(((List tType)))) :=
  if (decide (t10 < t9)) = true then
    (idx t8 t10).bind fun x2 =>
    (R45 v x2).bind fun r3 =>
    (app out ([r3]:List tType)).bind fun l4 =>
    some (.inl (l4,w64 (t10 + 1)))
  else
    some (.inr out)
noncomputable def qjP (R45:qap) (v:reftype_substitution) (t8:(List tType)) (t9:Int) (out:(List tType)) (t10:Int):Option (((List tType))):=loop (fun (zz:(List tType)×Int) => qis R45 v t8 t9 zz.1 zz.2) (out,t10)
theorem qmh (R45:qap) (hR45:qbl R45) (v:reftype_substitution) (out:(List tType)) (t8:(List tType)) (t9:Int) (t10:Int) {y:((List tType)×Int)⊕(((List tType)))} (h:qis R45 v t8 t9 out t10 = some y) :
    Sat Pg GE 0 (cA b178 119) (LQ (fun (zz:(List tType)×Int) => qcN v zz.1 t8 t9 zz.2) (fun _ => .exit 0) (qe5 v t8 t9) y) (qcN v out t8 t9 t10):=by
  rcases ifs h with ⟨c1,h⟩ | ⟨c1,h⟩
  · obtain ⟨x2,bx2,h⟩:=bnd h
    obtain ⟨r3,br3,h⟩:=bnd h
    obtain ⟨l4,bl4,h⟩:=bnd h
    obtain rfl:=lf h
    have z:=sg 0 c1 <| sv (sT27.ia (k := .i64) bx2) <| sv (qaZ x2) <| sx pz33 <| sx (qbr x2) <| sv (qaS x2 []) <| sca (hR45 _ _ _ br3) <| sv (sT27.mk' (v:=qc4) qbv ([r3]:List tType) 1 (by kernel_rfl)) <| sv (sT27.ap bl4) <| eFx 0 .normal (qcN v l4 t8 t9 (w64 (t10 + 1))) rfl (qb1 (aI (aI (aI (up (qaD v)) trivial) trivial) (aI (up (qad qag l4)) (aI (up (qad qag t8)) (aI trivial (aI trivial trivial)))))) trivial
    exact qbK (A:=A178) mixed z (by kernel_rfl)
  · obtain rfl:=lf h
    have z:=sg 0 c1 <| eF (.exit 0) (qe5 v t8 t9 out)
    exact qbE (A:=A178) mixed (by intro hx; cases hx) z (by kernel_rfl)
theorem qmU (R45:qap) (hR45:qbl R45) (v:reftype_substitution) (out:(List tType)) (t8:(List tType)) (t9:Int) (t10:Int) {x:((List tType))} (h:qjP R45 v t8 t9 out t10 = some x) :
    Sat Pg GE 0 (.loop (cA b178 119)) (EX (.exit 0) (qe5 v t8 t9 x)) (qcN v out t8 t9 t10) :=
  Sat.loop (S:=fun (zz:(List tType)×Int) => qcN v zz.1 t8 t9 zz.2) (ex:=(fun _ => .exit 0)) (s:=(out,t10)) h fun zz y hy => qmh R45 hR45 v zz.1 t8 t9 zz.2 hy
noncomputable def qmO (R45:qap) (a:(List tType)) (c:reftype_substitution):Option ((List tType)) :=
  (qjP R45 c a (a.length:Int) ([]:List tType) 0).bind fun o5 =>
  some o5
theorem qpJ (R45:qap) (hR45:qbl R45) {a:(List tType)} {c:reftype_substitution} {r:(List tType)} (h:qmO R45 a c = some r):CC Pg GE 178 [sl qac a,.func (.func 155) [.agg (qaf c)] []] (sl qac r) [(0,33)]:=by
  obtain ⟨o5,bo5,h⟩:=bnd h
  obtain rfl:=lf h
  have z:=svn (sT27.ln a) <| spc (qmU R45 hR45 c ([]:List tType) a (a.length:Int) 0 bo5) <| en (aI (rP (sl qac o5)) <| (qad qag o5))
  exact C.evp (A:=A178) mixed Tryz.call178 Tryz.func178 (c:=b178) rfl (aI (qad qag a) (aI (aI (aI (qaD c) trivial) trivial) trivial)) z (by kernel_rfl)
noncomputable def b155:Code:=Tryz.f155.body.getD .skip
def A155:List Nat:=[]
noncomputable def qfE (R45:qap) (s:reftype_substitution) (t:tType):Option (tType) :=
  if (t.Op == 6) = true then
    (qeA R45 s t).bind fun r2 =>
    some r2
  else
    (qip t.Names).bind fun r3 =>
    (qcG s t.Pred).bind fun r4 =>
    (qk0 t.Preds s).bind fun r5 =>
    (qmO R45 t.Args s).bind fun r6 =>
    some (⟨t.Op,t.Name,r6,r3,r4,r5⟩:tType)
theorem qjj (R45:qap) (hR45:qbl R45) {s:reftype_substitution} {t:tType} {r:tType} (h:qfE R45 s t = some r):CC Pg GE 155 [.agg (qaf s),.agg (qac t)] (.agg (qac r)) [(2,33)]:=by
  rcases ifs h with ⟨c1,h⟩ | ⟨c1,h⟩
  · obtain ⟨r2,br2,h⟩:=bnd h
    obtain rfl:=lf h
    have z:=se (qbx s) <| se (qbX t) <| sx pz33 <| sv (qaJ t) <| sv (qaH t) <| sg 0 c1 <| sv (qa6 s) <| sv (qaZ t) <| sca (qhC R45 hR45 br2) <| sy (qaB r2) <| en (aI (qc8 r2) <| aI (qag r2) <| rT)
    exact C.evp (A:=A155) mixed Tryz.call155 Tryz.func155 (c:=b155) rfl (aI (qaD s) (aI (qag t) trivial)) z (by kernel_rfl)
  · obtain ⟨r3,br3,h⟩:=bnd h
    obtain ⟨r4,br4,h⟩:=bnd h
    obtain ⟨r5,br5,h⟩:=bnd h
    obtain ⟨r6,br6,h⟩:=bnd h
    obtain rfl:=lf h
    have z:=se (qbx s) <| se (qbX t) <| sx pz33 <| sv (qaJ t) <| sv (qaH t) <| sg 0 c1 <| sdr [0,1,0,4,0,16,48,0,0,256,1008,0,2048,0,8192,32752,65535,0,262143] <| sv (qaJ t) <| sv (qaH t) <| sv (qbp t) <| sv (qbu t) <| sv (qaM t) <| sv (qaN t) <| sca (qol br3) <| sv (qa6 s) <| sv (qcJ t) <| sv (qcK t) <| sca (qde br4) <| sv (qaV t) <| sv (qaT t) <| sv (qa6 s) <| sca (qli br5) <| sb (qhi t.Op t.Name r3 r4 r5) (qg2 t.Op t.Name r3 r4 r5) <| syx (qbr (⟨t.Op,t.Name,([]:List tType),r3,r4,r5⟩:tType)) <| sv (qaG t) <| sv (qaI t) <| sv (qa6 s) <| sca (qpJ R45 hR45 br6) <| sz (qaS (⟨t.Op,t.Name,r6,r3,r4,r5⟩:tType) []) <| sy (qaB (⟨t.Op,t.Name,r6,r3,r4,r5⟩:tType)) <| en (aI (qc8 (⟨t.Op,t.Name,r6,r3,r4,r5⟩:tType)) <| aI (qag (⟨t.Op,t.Name,r6,r3,r4,r5⟩:tType)) <| rT)
    exact C.evp (A:=A155) mixed Tryz.call155 Tryz.func155 (c:=b155) rfl (aI (qaD s) (aI (qag t) trivial)) z (by kernel_rfl)
noncomputable def qfG:((reftype_substitution×tType)→Option (tType))→(reftype_substitution×tType)→Option (tType):=fun (rec:(reftype_substitution×tType)→Option (tType)) (x:reftype_substitution×tType) => qfE (fun s t => rec (s,t)) x.1 x.2
noncomputable def qgx (s:reftype_substitution) (t:tType):Option (tType):=fixE (qfG) (s,t)
theorem qjN {s:reftype_substitution} {t:tType} {r:tType} (h:qgx s t = some r):CC Pg GE 155 [.agg (qaf s),.agg (qac t)] (.agg (qac r)) [(2,33)] :=
  qcs (F:=qfG) (M:=fun (x:reftype_substitution×tType) (r:tType) => CC Pg GE 155 [.agg (qaf x.1),.agg (qac x.2)] (.agg (qac r)) [(2,33)]) (fun rec hrec x r h => qjj _ (fun s t r h => hrec (s,t) r h) h) h
noncomputable def b139:Code:=Tryz.f139.body.getD .skip
def A139:List Nat:=[]
noncomputable def qmN (t:tType) (a:(List Str)) (a2:(List tPred)):Option (tType) :=
  (slc a none (some (if (a2.length:Int) < (a.length:Int) then (a2.length:Int) else (a.length:Int)))).bind fun l1 =>
  (slc a2 none (some (if (a2.length:Int) < (a.length:Int) then (a2.length:Int) else (a.length:Int)))).bind fun l2 =>
  (qb9 (⟨l1,l2⟩:reftype_substitution) ([([118]:Str)]:List Str)).bind fun r3 =>
  (qgx r3 t).bind fun r4 =>
  some r4
theorem qpC {t:tType} {a:(List Str)} {a2:(List tPred)} {r:tType} (h:qmN t a a2 = some r):CC Pg GE 139 [.agg (qac t),sl cS a,sl qaa a2] (.agg (qac r)) [(2,33)]:=by
  obtain ⟨l1,bl1,h⟩:=bnd h
  obtain ⟨l2,bl2,h⟩:=bnd h
  obtain ⟨r3,br3,h⟩:=bnd h
  obtain ⟨r4,br4,h⟩:=bnd h
  obtain rfl:=lf h
  have z:=se (qbX t) <| sx pz33 <| svn (sT22.ln a) <| svn (sT29.ln a2) <| sdr [0,0,3,0,0,24,63,0,255,0,1023] <| sv (sT22.sc bl1) <| sv (sT29.sc bl2) <| sv (qjD l1 l2) <| sv (sT22.mk' (v:=PVal.str) pcS ([([118]:Str)]:List Str) 1 (by kernel_rfl)) <| sca (qbU br3) <| syx (qcT r3) <| sv (qaE r3 []) <| sv (qaZ t) <| sca (qjN br4) <| sy (qaB r4) <| en (aI (qc8 r4) <| aI (qag r4) <| rT)
  exact C.evp (A:=A139) mixed Tryz.call139 Tryz.func139 (c:=b139) rfl (aI (qag t) (aI (qad clS a) (aI (qad qab a2) trivial))) z (by kernel_rfl)
noncomputable def b123:Code:=Tryz.f123.body.getD .skip
def A123:List Nat:=[]
noncomputable def qqr (t:tType) (name:Str) (a:tPred):Option (tType) :=
  (qmN t ([name]:List Str) ([a]:List tPred)).bind fun r1 =>
  some r1
theorem qmM {t:tType} {name:Str} {a:tPred} {r:tType} (h:qqr t name a = some r):CC Pg GE 123 [.agg (qac t),.str name,.agg (qaa a)] (.agg (qac r)) [(2,33)]:=by
  obtain ⟨r1,br1,h⟩:=bnd h
  obtain rfl:=lf h
  have z:=se (qbX t) <| se (qat a) <| sx pz33 <| sv (qaZ t) <| sv (sT22.mk' (v:=PVal.str) pcS ([name]:List Str) 1 (by kernel_rfl)) <| sv (qaj a) <| sv (sT29.mk' (v:=qaP) qaq ([a]:List tPred) 1 (by kernel_rfl)) <| sca (qpC br1) <| sy (qaB r1) <| en (aI (qc8 r1) <| aI (qag r1) <| rT)
  exact C.evp (A:=A123) mixed Tryz.call123 Tryz.func123 (c:=b123) rfl (aI (qag t) (aI trivial (aI (qab a) trivial))) z (by kernel_rfl)
noncomputable def b93:Code:=Tryz.f93.body.getD .skip
def A93:List Nat:=[50]
noncomputable def qc7 (i:Int) (old:(List Str)) (name:Str) (n:Nat) (k:Int) (w0:List tType):PSt:=stt 51 [(1,.int .i64 i),(2,sl cS old),(3,.str name),(9,.bsl 0 0 n),(10,.int .i64 k)] [.cells (flC qac w0) []] []
noncomputable def qdR (i:Int) (old:(List Str)) (name:Str) (n:Nat) (o:List tType):PSt:=stt 51 [(9,.bsl 0 0 n)] [.cells (flC qac o) []] []
noncomputable def qoA (i:Int) (old:(List Str)) (name:Str) (n:Nat) (k:Int) (w0:List tType):PSt:=stt 51 [(1,.int .i64 i),(2,sl cS old),(3,.str name),(9,.bsl 0 0 n),(10,.int .i64 k)] [.cells (flC qac w0) []] []
noncomputable def qfH (i:Int) (old:(List Str)) (name:Str) (n:Nat) (k:Int) (w0:List tType) (o:Bool):PSt:=stt 51 [(1,.int .i64 i),(2,sl cS old),(3,.str name),(9,.bsl 0 0 n),(10,.int .i64 k),(49,.bool o)] [.cells (flC qac w0) []] []
noncomputable def qj4 (i:Int) (old:(List Str)) (k:Int):Option ((Bool)) :=
  if (decide (k < (old.length:Int))) = true then
    (idx old k).bind fun x9 =>
    (idx old i).bind fun x10 =>
    some (x9 == x10)
  else
    some false
theorem qiv (i:Int) (old:(List Str)) (name:Str) (n:Nat) (k:Int) (w0:List tType) {x:(Bool)} (h:qj4 i old k = some x) :
    Sat Pg GE 0 (cA b93 3830) (EX .normal (qfH i old name n k w0 x)) (qoA i old name n k w0):=by
  rcases ifs h with ⟨c8,h⟩ | ⟨c8,h⟩
  · obtain ⟨x9,bx9,h⟩:=bnd h
    obtain ⟨x10,bx10,h⟩:=bnd h
    obtain rfl:=lf h
    have z:=sdr [0,0,2,7,15,31,31,127,255,31,31,1567,3615,8191,16383] <| svn (sT22.ln old) <| sg 5 c8 <| sv (sT22.ia (k := .i64) bx9) <| sv (qbb sc9 (.str x9) []) <| sv (sT22.ia (k := .i64) bx10) <| sv (qbb sc9 (.str x10) []) <| eF .normal (qfH i old name n k w0 (x9 == x10))
    exact qaR (A:=A93) mixed z (by kernel_rfl)
  · obtain rfl:=lf h
    have z:=sdr [0,0,2,7,15,31,31,127,255,31,31,1567,3615,8191,16383] <| svn (sT22.ln old) <| sg 5 c8 <| eF .normal (qfH i old name n k w0 false)
    exact qaR (A:=A93) mixed z (by kernel_rfl)
noncomputable def qi5 (i:Int) (old:(List Str)) (name:Str) (n:Nat) (k:Int) (w0:List tType):Option ((Int×List tType)⊕((List tType))) :=
  if (decide (k < (n:Int))) = true then
    (idn n w0 k).bind fun x3 =>
    (idx old i).bind fun x4 =>
    (qqr x3 x4 (⟨3,name,0,([]:List tPred)⟩:tPred)).bind fun r5 =>
    (idn n w0 k).bind fun x6 =>
    (upd w0 k r5).bind fun l7 =>
    (qj4 i old k).bind fun o11 =>
    if o11 = true then
      some (.inr l7)
    else
      some (.inl (w64 (k + 1),l7))
  else
    some (.inr w0)
noncomputable def qkz (i:Int) (old:(List Str)) (name:Str) (n:Nat) (k:Int) (w0:List tType):Option ((List tType)):=loop (fun (zz:Int×List tType) => qi5 i old name n zz.1 zz.2) (k,w0)
theorem qmS (i:Int) (old:(List Str)) (name:Str) (n:Nat) (k:Int) (w0:List tType) {y:(Int×List tType)⊕((List tType))} (h:qi5 i old name n k w0 = some y) :
    Sat Pg GE 0 (cA b93 119) (LQ (fun (zz:Int×List tType) => qc7 i old name n zz.1 zz.2) (fun _ => .exit 0) (qdR i old name n) y) (qc7 i old name n k w0):=by
  rcases ifs h with ⟨c2,h⟩ | ⟨c2,h⟩
  · obtain ⟨x3,bx3,h⟩:=bnd h
    obtain ⟨x4,bx4,h⟩:=bnd h
    obtain ⟨r5,br5,h⟩:=bnd h
    obtain ⟨x6,bx6,h⟩:=bnd h
    obtain ⟨l7,bl7,h⟩:=bnd h
    obtain ⟨o11,bo11,h⟩:=bnd h
    rcases ifs h with ⟨c12,h⟩ | ⟨c12,h⟩
    · obtain rfl:=lf h
      have z:=svn (sT27.lnR 0 0 n) <| sg 0 c2 <| si0 (.dx [0,0,0,0,12,28,0,0,192,448,0,1024,4092,8191,16383] [] [] [0]) <| sv (sT27.iaN 0 (k := .i64) bx3) <| sv (sT27.ldN (qwg x3) bx3) <| sv (sT22.ia (k := .i64) bx4) <| sv (qbb sc9 (.str x4) []) <| sb (qiu 3 name) (qio 3 name) <| sca (qmM br5) <| sv (sT27.iaN 0 (k := .i64) bx6) <| swr (sT27.stR (qbv r5) bl7) <| spa 0 <| spc (qiv i old name n k l7 bo11) <| sg 0 c12 <| eF (.exit 0) (qdR i old name n l7)
      exact qbE (A:=A93) mixed (by intro hx; cases hx) z (by kernel_rfl)
    · obtain rfl:=lf h
      have z:=svn (sT27.lnR 0 0 n) <| sg 0 c2 <| si0 (.dx [0,0,0,0,12,28,0,0,192,448,0,1024,4092,8191,16383] [] [] [0]) <| sv (sT27.iaN 0 (k := .i64) bx3) <| sv (sT27.ldN (qwg x3) bx3) <| sv (sT22.ia (k := .i64) bx4) <| sv (qbb sc9 (.str x4) []) <| sb (qiu 3 name) (qio 3 name) <| sca (qmM br5) <| sv (sT27.iaN 0 (k := .i64) bx6) <| swr (sT27.stR (qbv r5) bl7) <| spa 0 <| spc (qiv i old name n k l7 bo11) <| sg 0 c12 <| eF .normal (qc7 i old name n (w64 (k + 1)) l7)
      exact qjk (A:=A93) mixed z (by kernel_rfl)
  · obtain rfl:=lf h
    have z:=svn (sT27.lnR 0 0 n) <| sg 0 c2 <| eF (.exit 0) (qdR i old name n w0)
    exact qbE (A:=A93) mixed (by intro hx; cases hx) z (by kernel_rfl)
theorem qnu (i:Int) (old:(List Str)) (name:Str) (n:Nat) (k:Int) (w0:List tType) {x:(List tType)} (h:qkz i old name n k w0 = some x) :
    Sat Pg GE 0 (.loop (cA b93 119)) (EX (.exit 0) (qdR i old name n x)) (qc7 i old name n k w0) :=
  Sat.loop (S:=fun (zz:Int×List tType) => qc7 i old name n zz.1 zz.2) (ex:=(fun _ => .exit 0)) (s:=(k,w0)) h fun zz y hy => qmS i old name n zz.1 zz.2 hy
noncomputable def qnf (a:(List tType)) (i:Int) (old:(List Str)) (name:Str):Option ((List tType)) :=
  (qip a).bind fun r1 =>
  (qkz i old name r1.length (w64 (i + 1)) r1).bind fun o13 =>
  (frz r1.length o13).bind fun l14 =>
  some l14
theorem qp5 {a:(List tType)} {i:Int} {old:(List Str)} {name:Str} {r:(List tType)} (h:qnf a i old name = some r):CC Pg GE 93 [sl qac a,.int .i64 i,sl cS old,.str name] (sl qac r) []:=by
  obtain ⟨r1,br1,h⟩:=bnd h
  obtain ⟨o13,bo13,h⟩:=bnd h
  obtain ⟨l14,bl14,h⟩:=bnd h
  obtain rfl:=lf h
  have z:=sar 0 33 (sT27.cloneR qwy br1) <| spc (qnu i old name r1.length (w64 (i + 1)) r1 bo13) <| sfz 0 (l14.map qac) [9] [] (sT27.fz1 (m:=0) (b:=0) rfl l14) (sT27.fz2 0 l14) (fz3 qac bl14) <| sf (fz4 qac bl14) <| en (aI (rP (sl qac l14)) <| (qad qag l14))
  exact C.evp (A:=A93) mixed Tryz.call93 Tryz.func93 (c:=b93) rfl (aI (qad qag a) (aI trivial (aI (qad clS old) (aI trivial trivial)))) z (by kernel_rfl)
noncomputable def b94:Code:=Tryz.f94.body.getD .skip
def A94:List Nat:=[]
noncomputable def qmy (R36:qaQ) (a:tType) (a2:(List Str)):Option (tType) :=
  (R36 a a2).bind fun r1 =>
  some r1
theorem qpf (R36:qaQ) (hR36:qcq R36) {a:tType} {a2:(List Str)} {r:tType} (h:qmy R36 a a2 = some r):CC Pg GE 94 [.agg (qac a),.eptr ((cL cS) a2)] (.agg (qac r)) [(2,33)]:=by
  obtain ⟨r1,br1,h⟩:=bnd h
  obtain rfl:=lf h
  have z:=se (qbX a) <| sx pz33 <| sv (qaZ a) <| sv (qbb sc22 (sl cS a2) []) <| sca (hR36 _ _ _ br1) <| sy (qaB r1) <| en (aI (qc8 r1) <| aI (qag r1) <| rT)
  exact C.evp (A:=A94) mixed Tryz.call94 Tryz.func94 (c:=b94) rfl (aI (qag a) (aI (clLs clS a2) trivial)) z (by kernel_rfl)
noncomputable def qcz (v:(List Str)) (out:(List tType)) (t8:(List tType)) (t9:Int) (t10:Int):PSt:=stt 22 [(1,.func (.func 94) [] [.eptr ((cL cS) v)]),(5,sl qac out),(8,sl qac t8),(9,.int .i64 t9),(10,.int .i64 t10)] [] [((5,0),33)]
noncomputable def qeO (v:(List Str)) (t8:(List tType)) (t9:Int) (o:(List tType)):PSt:=stt 22 [(5,sl qac o)] [] [((5,0),33)]
noncomputable def qhJ (R36:qaQ) (v:(List Str)) (t8:(List tType)) (t9:Int) (out:(List tType)) (t10:Int):Option (((List tType)×Int)⊕(((List tType)))) :=
  if (decide (t10 < t9)) = true then
    (idx t8 t10).bind fun x2 =>
    (qmy R36 x2 v).bind fun r3 =>
    (app out ([r3]:List tType)).bind fun l4 =>
    some (.inl (l4,w64 (t10 + 1)))
  else
    some (.inr out)
noncomputable def qi3 (R36:qaQ) (v:(List Str)) (t8:(List tType)) (t9:Int) (out:(List tType)) (t10:Int):Option (((List tType))):=loop (fun (zz:(List tType)×Int) => qhJ R36 v t8 t9 zz.1 zz.2) (out,t10)
theorem qk5 (R36:qaQ) (hR36:qcq R36) (v:(List Str)) (out:(List tType)) (t8:(List tType)) (t9:Int) (t10:Int) {y:((List tType)×Int)⊕(((List tType)))} (h:qhJ R36 v t8 t9 out t10 = some y) :
    Sat Pg GE 0 (cA b62 119) (LQ (fun (zz:(List tType)×Int) => qcz v zz.1 t8 t9 zz.2) (fun _ => .exit 0) (qeO v t8 t9) y) (qcz v out t8 t9 t10):=by
  rcases ifs h with ⟨c1,h⟩ | ⟨c1,h⟩
  · obtain ⟨x2,bx2,h⟩:=bnd h
    obtain ⟨r3,br3,h⟩:=bnd h
    obtain ⟨l4,bl4,h⟩:=bnd h
    obtain rfl:=lf h
    have z:=sg 0 c1 <| sv (sT27.ia (k := .i64) bx2) <| sv (qaZ x2) <| sx pz33 <| sx (qbr x2) <| sv (qaS x2 []) <| sca (qpf R36 hR36 br3) <| sv (sT27.mk' (v:=qc4) qbv ([r3]:List tType) 1 (by kernel_rfl)) <| sv (sT27.ap bl4) <| eFx 0 .normal (qcz v l4 t8 t9 (w64 (t10 + 1))) rfl (qb1 (aI (aI trivial (aI (qbQ (clLs clS v)) trivial)) (aI (up (qad qag l4)) (aI (up (qad qag t8)) (aI trivial (aI trivial trivial)))))) trivial
    exact qbK (A:=A62) mixed z (by kernel_rfl)
  · obtain rfl:=lf h
    have z:=sg 0 c1 <| eF (.exit 0) (qeO v t8 t9 out)
    exact qbE (A:=A62) mixed (by intro hx; cases hx) z (by kernel_rfl)
theorem qml (R36:qaQ) (hR36:qcq R36) (v:(List Str)) (out:(List tType)) (t8:(List tType)) (t9:Int) (t10:Int) {x:((List tType))} (h:qi3 R36 v t8 t9 out t10 = some x) :
    Sat Pg GE 0 (.loop (cA b62 119)) (EX (.exit 0) (qeO v t8 t9 x)) (qcz v out t8 t9 t10) :=
  Sat.loop (S:=fun (zz:(List tType)×Int) => qcz v zz.1 t8 t9 zz.2) (ex:=(fun _ => .exit 0)) (s:=(out,t10)) h fun zz y hy => qk5 R36 hR36 v zz.1 t8 t9 zz.2 hy
noncomputable def qh7 (R36:qaQ) (a:(List tType)) (c:(List Str)):Option ((List tType)) :=
  (qi3 R36 c a (a.length:Int) ([]:List tType) 0).bind fun o5 =>
  some o5
theorem qi2 (R36:qaQ) (hR36:qcq R36) {a:(List tType)} {c:(List Str)} {r:(List tType)} (h:qh7 R36 a c = some r):CC Pg GE 62 [sl qac a,.func (.func 94) [] [.eptr ((cL cS) c)]] (sl qac r) [(0,33)]:=by
  obtain ⟨o5,bo5,h⟩:=bnd h
  obtain rfl:=lf h
  have z:=svn (sT27.ln a) <| spc (qml R36 hR36 c ([]:List tType) a (a.length:Int) 0 bo5) <| en (aI (rP (sl qac o5)) <| (qad qag o5))
  exact C.evp (A:=A62) mixed Tryz.call62 Tryz.func62 (c:=b62) rfl (aI (qad qag a) (aI (aI trivial (aI (clLs clS c) trivial)) trivial)) z (by kernel_rfl)
noncomputable def b52:Code:=Tryz.f52.body.getD .skip
def A52:List Nat:=[40,68]
noncomputable def qcE (t:tType) (vars:(List Str)) (used:(List Str)) (t37:Int) (t38:Int) (m:(List tType)) (m2:(List tPred)) (w3:List Str) (m3:Int) (m4:Str) (m5:(List tType)) (n:Nat) (m6:Int) (m7:Str) (m8:Int) (m9:(List tPred)) (m10:(List tPred)):PSt:=stt 95 [(2,.eptr (qac t)),(3,.eptr ((cL cS) vars)),(4,.bptr 2 0),(5,.bptr 4 0),(6,sl cS used),(37,.int .i64 t37),(38,.int .i64 t38)] [.dead,.dead,.cells [.int .i64 0,.str ([]:Str),sl qac m,sl cS ([]:List Str),.int .i64 0,.str ([]:Str),.int .i64 0,sl qaa m2,sl qaa m2] [(2,33),(3,9),(7,31),(8,31)],.cells (flC cS w3) [],.cells [.int .i64 m3,.str m4,sl qac m5,.bsl 3 0 n,.int .i64 m6,.str m7,.int .i64 m8,sl qaa m9,sl qaa m10] []] [((6,0),9)]
noncomputable def qgi (t:tType) (vars:(List Str)) (t37:Int) (m:(List tType)) (m2:(List tPred)) (m3:Int) (m4:Str) (n:Nat) (m6:Int) (m7:Str) (m8:Int) (m9:(List tPred)) (m10:(List tPred)) (o:List Str×(List tType)):PSt:=stt 95 [(3,.eptr ((cL cS) vars)),(4,.bptr 2 0),(5,.bptr 4 0)] [.dead,.dead,.cells [.int .i64 0,.str ([]:Str),sl qac m,sl cS ([]:List Str),.int .i64 0,.str ([]:Str),.int .i64 0,sl qaa m2,sl qaa m2] [(2,33),(3,9),(7,31),(8,31)],.cells (flC cS o.1) [],.cells [.int .i64 m3,.str m4,sl qac o.2,.bsl 3 0 n,.int .i64 m6,.str m7,.int .i64 m8,sl qaa m9,sl qaa m10] []] []
noncomputable def qps (t:tType) (vars:(List Str)) (used:(List Str)) (i:Int) (t37:Int) (m:(List tType)) (m2:(List tPred)) (w3:List Str) (m3:Int) (m4:Str) (m5:(List tType)) (n:Nat) (m6:Int) (m7:Str) (m8:Int) (m9:(List tPred)) (m10:(List tPred)):PSt:=stt 95 [(2,.eptr (qac t)),(3,.eptr ((cL cS) vars)),(4,.bptr 2 0),(5,.bptr 4 0),(6,sl cS used),(7,.int .i64 i),(37,.int .i64 t37),(38,.int .i64 i)] [.dead,.dead,.cells [.int .i64 0,.str ([]:Str),sl qac m,sl cS ([]:List Str),.int .i64 0,.str ([]:Str),.int .i64 0,sl qaa m2,sl qaa m2] [(2,33),(3,9),(7,31),(8,31)],.cells (flC cS w3) [],.cells [.int .i64 m3,.str m4,sl qac m5,.bsl 3 0 n,.int .i64 m6,.str m7,.int .i64 m8,sl qaa m9,sl qaa m10] []] [((6,0),9)]
noncomputable def qgc (t:tType) (vars:(List Str)) (used:(List Str)) (i:Int) (t37:Int) (m:(List tType)) (m2:(List tPred)) (w3:List Str) (m3:Int) (m4:Str) (m5:(List tType)) (n:Nat) (m6:Int) (m7:Str) (m8:Int) (m9:(List tPred)) (m10:(List tPred)) (o:Bool):PSt:=stt 95 [(2,.eptr (qac t)),(3,.eptr ((cL cS) vars)),(4,.bptr 2 0),(5,.bptr 4 0),(6,sl cS used),(7,.int .i64 i),(37,.int .i64 t37),(38,.int .i64 i),(56,.bool o)] [.dead,.dead,.cells [.int .i64 0,.str ([]:Str),sl qac m,sl cS ([]:List Str),.int .i64 0,.str ([]:Str),.int .i64 0,sl qaa m2,sl qaa m2] [(2,33),(3,9),(7,31),(8,31)],.cells (flC cS w3) [],.cells [.int .i64 m3,.str m4,sl qac m5,.bsl 3 0 n,.int .i64 m6,.str m7,.int .i64 m8,sl qaa m9,sl qaa m10] []] [((6,0),9)]
noncomputable def qln (R36:qaQ) (t:tType) (vars:(List Str)) (i:Int):Option ((Bool)) :=
  if (decide (i ≥ (w64 ((t.Args.length:Int) - 1)))) = true then
    some true
  else
    (idx t.Names i).bind fun x11 =>
    (qdr vars x11).bind fun r12 =>
    some (!r12)
theorem qjc (R36:qaQ) (hR36:qcq R36) (t:tType) (vars:(List Str)) (used:(List Str)) (i:Int) (t37:Int) (m:(List tType)) (m2:(List tPred)) (w3:List Str) (m3:Int) (m4:Str) (m5:(List tType)) (n:Nat) (m6:Int) (m7:Str) (m8:Int) (m9:(List tPred)) (m10:(List tPred)) {x:(Bool)} (h:qln R36 t vars i = some x) :
    Sat Pg GE 0 (cA b52 120812) (EX .normal (qgc t vars used i t37 m m2 w3 m3 m4 m5 n m6 m7 m8 m9 m10 x)) (qps t vars used i t37 m m2 w3 m3 m4 m5 n m6 m7 m8 m9 m10):=by
  rcases ifs h with ⟨c10,h⟩ | ⟨c10,h⟩
  · obtain rfl:=lf h
    have z:=sdr [0,0,2,6,14,31,63,127,127,383,127,1919,3967,8191,16383,32767] <| sv (qaG t) <| sv (qaI t) <| svn (sT27.ln t.Args) <| sg 7 c10 <| eF .normal (qgc t vars used i t37 m m2 w3 m3 m4 m5 n m6 m7 m8 m9 m10 true)
    exact qaR (A:=A52) mixed z (by kernel_rfl)
  · obtain ⟨x11,bx11,h⟩:=bnd h
    obtain ⟨r12,br12,h⟩:=bnd h
    obtain rfl:=lf h
    have z:=sdr [0,0,2,6,14,31,63,127,127,383,127,1919,3967,8191,16383,32767] <| sv (qaG t) <| sv (qaI t) <| svn (sT27.ln t.Args) <| sg 7 c10 <| sv (qbb sc22 (sl cS vars) []) <| sv (qaM t) <| sv (qaN t) <| sv (sT22.ia (k := .i64) bx11) <| sv (qbb sc9 (.str x11) []) <| sca (qbH br12) <| eF .normal (qgc t vars used i t37 m m2 w3 m3 m4 m5 n m6 m7 m8 m9 m10 (!r12))
    exact qaR (A:=A52) mixed z (by kernel_rfl)
noncomputable def qj0 (R36:qaQ) (t:tType) (vars:(List Str)) (t37:Int) (n:Nat) (used:(List Str)) (t38:Int) (w3:List Str) (m5:(List tType)):Option (((List Str)×Int×List Str×(List tType))⊕((List Str×(List tType)))) :=
  if (decide (t38 < t37)) = true then
    (qln R36 t vars t38).bind fun o13 =>
    if o13 = true then
      some (.inl (used,w64 (t38 + 1),w3,m5))
    else
      (idx t.Names t38).bind fun x15 =>
      (qpP used x15).bind fun r16 =>
      (idn n w3 t38).bind fun x17 =>
      (upd w3 t38 r16).bind fun l18 =>
      (idn n l18 t38).bind fun x19 =>
      (app used ([x19]:List Str)).bind fun l20 =>
      (idn n l18 t38).bind fun x21 =>
      (qnf m5 t38 t.Names x21).bind fun r22 =>
      some (.inl (l20,w64 (t38 + 1),l18,r22))
  else
    some (.inr (w3,m5))
noncomputable def qk3 (R36:qaQ) (t:tType) (vars:(List Str)) (t37:Int) (n:Nat) (used:(List Str)) (t38:Int) (w3:List Str) (m5:(List tType)):Option ((List Str×(List tType))):=loop (fun (zz:(List Str)×Int×List Str×(List tType)) => qj0 R36 t vars t37 n zz.1 zz.2.1 zz.2.2.1 zz.2.2.2) (used,t38,w3,m5)
theorem qmY (R36:qaQ) (hR36:qcq R36) (t:tType) (vars:(List Str)) (used:(List Str)) (t37:Int) (t38:Int) (m:(List tType)) (m2:(List tPred)) (w3:List Str) (m3:Int) (m4:Str) (m5:(List tType)) (n:Nat) (m6:Int) (m7:Str) (m8:Int) (m9:(List tPred)) (m10:(List tPred)) {y:((List Str)×Int×List Str×(List tType))⊕((List Str×(List tType)))} (h:qj0 R36 t vars t37 n used t38 w3 m5 = some y) :
    Sat Pg GE 0 (cA b52 943) (LQ (fun (zz:(List Str)×Int×List Str×(List tType)) => qcE t vars zz.1 t37 zz.2.1 m m2 zz.2.2.1 m3 m4 zz.2.2.2 n m6 m7 m8 m9 m10) (fun _ => .exit 0) (qgi t vars t37 m m2 m3 m4 n m6 m7 m8 m9 m10) y) (qcE t vars used t37 t38 m m2 w3 m3 m4 m5 n m6 m7 m8 m9 m10):=by
  rcases ifs h with ⟨c9,h⟩ | ⟨c9,h⟩
  · obtain ⟨o13,bo13,h⟩:=bnd h
    rcases ifs h with ⟨c14,h⟩ | ⟨c14,h⟩
    · obtain rfl:=lf h
      have z:=sg 0 c9 <| spa 3 <| spc (qjc R36 hR36 t vars used t38 t37 m m2 w3 m3 m4 m5 n m6 m7 m8 m9 m10 bo13) <| sg 0 c14 <| eF .normal (qcE t vars used t37 (w64 (t38 + 1)) m m2 w3 m3 m4 m5 n m6 m7 m8 m9 m10)
      exact qjk (A:=A52) mixed z (by kernel_rfl)
    · obtain ⟨x15,bx15,h⟩:=bnd h
      obtain ⟨r16,br16,h⟩:=bnd h
      obtain ⟨x17,bx17,h⟩:=bnd h
      obtain ⟨l18,bl18,h⟩:=bnd h
      obtain ⟨x19,bx19,h⟩:=bnd h
      obtain ⟨l20,bl20,h⟩:=bnd h
      obtain ⟨x21,bx21,h⟩:=bnd h
      obtain ⟨r22,br22,h⟩:=bnd h
      obtain rfl:=lf h
      have z:=sg 0 c9 <| spa 3 <| spc (qjc R36 hR36 t vars used t38 t37 m m2 w3 m3 m4 m5 n m6 m7 m8 m9 m10 bo13) <| sg 0 c14 <| si0 (.dx [0,1,0,0,0,16,0,112,240,504,1023,2047] [] [] [3]) <| ss <| sv (qaM t) <| sv (qaN t) <| sv (sT22.ia (k := .i64) bx15) <| sv (qbb sc9 (.str x15) []) <| sca (qoR br16) <| sv (sT22.iaN 3 (k := .i64) bx17) <| swr (sT22.stR (pcS r16) bl18) <| ss <| sv (sT22.iaN 3 (k := .i64) bx19) <| sv (sT22.ldN (fun r => qbb sc9 (.str x19) r) bx19) <| sv (sT22.mk' (v:=PVal.str) pcS ([x19]:List Str) 1 (by kernel_rfl)) <| sv (sT22.ap bl20) <| sdr [0,1,0,0,8,0,32,0,224,480,1023,2047,4095] <| ss <| sv (qaM t) <| sv (qaN t) <| ss <| sv (sT22.iaN 3 (k := .i64) bx21) <| sv (sT22.ldN (fun r => qbb sc9 (.str x21) r) bx21) <| sca (qp5 br22) <| ssf (rfl:qbc (sl qac r22) = some [sl qac r22]) <| eF .normal (qcE t vars l20 t37 (w64 (t38 + 1)) m m2 l18 m3 m4 r22 n m6 m7 m8 m9 m10)
      exact qjk (A:=A52) mixed z (by kernel_rfl)
  · obtain rfl:=lf h
    have z:=sg 0 c9 <| eF (.exit 0) (qgi t vars t37 m m2 m3 m4 n m6 m7 m8 m9 m10 (w3,m5))
    exact qbE (A:=A52) mixed (by intro hx; cases hx) z (by kernel_rfl)
theorem qow (R36:qaQ) (hR36:qcq R36) (t:tType) (vars:(List Str)) (used:(List Str)) (t37:Int) (t38:Int) (m:(List tType)) (m2:(List tPred)) (w3:List Str) (m3:Int) (m4:Str) (m5:(List tType)) (n:Nat) (m6:Int) (m7:Str) (m8:Int) (m9:(List tPred)) (m10:(List tPred)) {x:(List Str×(List tType))} (h:qk3 R36 t vars t37 n used t38 w3 m5 = some x) :
    Sat Pg GE 0 (.loop (cA b52 943)) (EX (.exit 0) (qgi t vars t37 m m2 m3 m4 n m6 m7 m8 m9 m10 x)) (qcE t vars used t37 t38 m m2 w3 m3 m4 m5 n m6 m7 m8 m9 m10) :=
  Sat.loop (S:=fun (zz:(List Str)×Int×List Str×(List tType)) => qcE t vars zz.1 t37 zz.2.1 m m2 zz.2.2.1 m3 m4 zz.2.2.2 n m6 m7 m8 m9 m10) (ex:=(fun _ => .exit 0)) (s:=(used,t38,w3,m5)) h fun zz y hy => qmY R36 hR36 t vars zz.1 t37 zz.2.1 m m2 zz.2.2.1 m3 m4 zz.2.2.2 n m6 m7 m8 m9 m10 hy
noncomputable def qmx (R36:qaQ) (t:tType) (vars:(List Str)):Option (tType) :=
  (qip t.Names).bind fun r1 =>
  (qip t.Preds).bind fun r2 =>
  (qip t.Args).bind fun r3 =>
  if (t.Op == 6) = true then
    (qip vars).bind fun r5 =>
    (qnn t).bind fun r6 =>
    (app r5 r6).bind fun l7 =>
    (app l7 t.Names).bind fun l8 =>
    (qk3 R36 t vars (t.Names.length:Int) r1.length l8 0 r1 r3).bind fun o23 =>
    (frz r1.length o23.1).bind fun l24 =>
    (qh7 R36 o23.2 vars).bind fun r25 =>
    some (⟨t.Op,t.Name,r25,l24,t.Pred,r2⟩:tType)
  else
    (frz r1.length r1).bind fun l26 =>
    (qh7 R36 r3 vars).bind fun r27 =>
    some (⟨t.Op,t.Name,r27,l26,t.Pred,r2⟩:tType)
theorem qqV (R36:qaQ) (hR36:qcq R36) {t:tType} {vars:(List Str)} {r:tType} (h:qmx R36 t vars = some r):CC Pg GE 52 [.agg (qac t),sl cS vars] (.agg (qac r)) [(2,33)]:=by
  obtain ⟨r1,br1,h⟩:=bnd h
  obtain ⟨r2,br2,h⟩:=bnd h
  obtain ⟨r3,br3,h⟩:=bnd h
  rcases ifs h with ⟨c4,h⟩ | ⟨c4,h⟩
  · obtain ⟨r5,br5,h⟩:=bnd h
    obtain ⟨r6,br6,h⟩:=bnd h
    obtain ⟨l7,bl7,h⟩:=bnd h
    obtain ⟨l8,bl8,h⟩:=bnd h
    obtain ⟨o23,bo23,h⟩:=bnd h
    obtain ⟨l24,bl24,h⟩:=bnd h
    obtain ⟨r25,br25,h⟩:=bnd h
    obtain rfl:=lf h
    have z:=se (qbX t) <| se (pcL cS vars) <| sx pz33 <| si0 (.dx [0,1,0,4,0,16,48,0,128,0,512,1648,0,4096,15984,32767,0,131071] [.cells (flC cS r1) []] [(6,3)] []) <| sv (qaJ t) <| sv (qaH t) <| sv (qbp t) <| sv (qbu t) <| sv (qaM t) <| sv (qaN t) <| sar 3 9 (sT22.cloneR qqv br1) <| sv (qcJ t) <| sv (qcK t) <| sv (qaV t) <| sv (qaT t) <| sca (quc br2) <| sv (qaG t) <| sv (qaI t) <| sca (quf br3) <| sv (qhq t.Op t.Name 3 r1.length t.Pred r2 r3) <| sx (pcA [.int .i64 t.Op,.str t.Name,sl qac r3,.bsl 3 0 r1.length,.int .i64 t.Pred.Op,.str t.Pred.Name,.int .i64 t.Pred.N,sl qaa t.Pred.Kids,sl qaa r2]) <| sv (qaJ t) <| sv (qaH t) <| sg 0 c4 <| sdr [0,1,0,7,15,0,32,127,255] <| sv (qbb sc22 (sl cS vars) []) <| sca (qol br5) <| sv (qaZ t) <| sca (qnM br6) <| sv (sT22.ap bl7) <| sv (qaM t) <| sv (qaN t) <| sv (sT22.ap bl8) <| sv (qaM t) <| sv (qaN t) <| svn (sT22.ln t.Names) <| spc (qow R36 hR36 t vars l8 (t.Names.length:Int) 0 ([]:List tType) ([]:List tPred) r1 t.Op t.Name r3 r1.length t.Pred.Op t.Pred.Name t.Pred.N t.Pred.Kids r2 bo23) <| sfz 3 (l24.map cS) [3,4,5] [] (sT22.fz1 (m:=0) (b:=3) rfl l24) (sT22.fz2 3 l24) (fz3 cS bl24) <| sf (nofL 3 (clLs clS vars)) <| sf (nof 3 (p:=sl qac ([]:List tType)) (qad qag ([]:List tType))) <| sf (nof 3 (p:=sl cS ([]:List Str)) (qad clS ([]:List Str))) <| sf (nof 3 (p:=sl qaa ([]:List tPred)) (qad qab ([]:List tPred))) <| sf (nof 3 (p:=sl qaa ([]:List tPred)) (qad qab ([]:List tPred))) <| sf (nof 3 (p:=sl qac o23.2) (qad qag o23.2)) <| sf (fz4 cS bl24) <| sf (nof 3 (p:=sl qaa t.Pred.Kids) (qad qab t.Pred.Kids)) <| sf (nof 3 (p:=sl qaa r2) (qad qab r2)) <| ss <| sca (qi2 R36 hR36 br25) <| sz (qaS (⟨t.Op,t.Name,r25,l24,t.Pred,r2⟩:tType) []) <| sy (qaB (⟨t.Op,t.Name,r25,l24,t.Pred,r2⟩:tType)) <| en (aI (qc8 (⟨t.Op,t.Name,r25,l24,t.Pred,r2⟩:tType)) <| aI (qag (⟨t.Op,t.Name,r25,l24,t.Pred,r2⟩:tType)) <| rT)
    exact C.evp (A:=A52) mixed Tryz.call52 Tryz.func52 (c:=b52) rfl (aI (qag t) (aI (qad clS vars) trivial)) z (by kernel_rfl)
  · obtain ⟨l26,bl26,h⟩:=bnd h
    obtain ⟨r27,br27,h⟩:=bnd h
    obtain rfl:=lf h
    have z:=se (qbX t) <| se (pcL cS vars) <| sx pz33 <| si0 (.dx [0,1,0,4,0,16,48,0,128,0,512,1648,0,4096,15984,32767,0,131071] [.cells (flC cS r1) []] [(6,3)] []) <| sv (qaJ t) <| sv (qaH t) <| sv (qbp t) <| sv (qbu t) <| sv (qaM t) <| sv (qaN t) <| sar 3 9 (sT22.cloneR qqv br1) <| sv (qcJ t) <| sv (qcK t) <| sv (qaV t) <| sv (qaT t) <| sca (quc br2) <| sv (qaG t) <| sv (qaI t) <| sca (quf br3) <| sv (qhq t.Op t.Name 3 r1.length t.Pred r2 r3) <| sx (pcA [.int .i64 t.Op,.str t.Name,sl qac r3,.bsl 3 0 r1.length,.int .i64 t.Pred.Op,.str t.Pred.Name,.int .i64 t.Pred.N,sl qaa t.Pred.Kids,sl qaa r2]) <| sv (qaJ t) <| sv (qaH t) <| sg 0 c4 <| sfz 3 (l26.map cS) [3,4,5] [] (sT22.fz1 (m:=0) (b:=3) rfl l26) (sT22.fz2 3 l26) (fz3 cS bl26) <| sf (nofL 3 (clLs clS vars)) <| sf (nof 3 (p:=sl qac ([]:List tType)) (qad qag ([]:List tType))) <| sf (nof 3 (p:=sl cS ([]:List Str)) (qad clS ([]:List Str))) <| sf (nof 3 (p:=sl qaa ([]:List tPred)) (qad qab ([]:List tPred))) <| sf (nof 3 (p:=sl qaa ([]:List tPred)) (qad qab ([]:List tPred))) <| sf (nof 3 (p:=sl qac r3) (qad qag r3)) <| sf (fz4 cS bl26) <| sf (nof 3 (p:=sl qaa t.Pred.Kids) (qad qab t.Pred.Kids)) <| sf (nof 3 (p:=sl qaa r2) (qad qab r2)) <| ss <| sca (qi2 R36 hR36 br27) <| sz (qaS (⟨t.Op,t.Name,r27,l26,t.Pred,r2⟩:tType) []) <| sy (qaB (⟨t.Op,t.Name,r27,l26,t.Pred,r2⟩:tType)) <| en (aI (qc8 (⟨t.Op,t.Name,r27,l26,t.Pred,r2⟩:tType)) <| aI (qag (⟨t.Op,t.Name,r27,l26,t.Pred,r2⟩:tType)) <| rT)
    exact C.evp (A:=A52) mixed Tryz.call52 Tryz.func52 (c:=b52) rfl (aI (qag t) (aI (qad clS vars) trivial)) z (by kernel_rfl)
noncomputable def qmK:((tType×(List Str))→Option (tType))→(tType×(List Str))→Option (tType):=fun (rec:(tType×(List Str))→Option (tType)) (x:tType×(List Str)) => qmx (fun t vars => rec (t,vars)) x.1 x.2
noncomputable def qoT (t:tType) (vars:(List Str)):Option (tType):=fixE (qmK) (t,vars)
theorem qrh {t:tType} {vars:(List Str)} {r:tType} (h:qoT t vars = some r):CC Pg GE 52 [.agg (qac t),sl cS vars] (.agg (qac r)) [(2,33)] :=
  qcs (F:=qmK) (M:=fun (x:tType×(List Str)) (r:tType) => CC Pg GE 52 [.agg (qac x.1),sl cS x.2] (.agg (qac r)) [(2,33)]) (fun rec hrec x r h => qqV _ (fun t vars r h => hrec (t,vars) r h) h) h
abbrev qa3:=(tType→(List tAbs)→(List tHole)→Option (tType))
abbrev qc6 (R:qa3):Prop := ∀ (t:tType) (c:(List tAbs)) (c2:(List tHole)) (r:tType),R t c c2 = some r→CC Pg GE 51 [.agg (qac t),.func (.func 53) [] [.eptr ((cL qaK) c),.eptr ((cL qaz) c2)]] (.agg (qac r)) [(2,33)]
abbrev qbt:=(tPred→(List tAbs)→(List tHole)→Option (tPred))
abbrev qd9 (R:qbt):Prop := ∀ (p:tPred) (abs:(List tAbs)) (holes:(List tHole)) (r:tPred),R p abs holes = some r→CC Pg GE 19 [.agg (qaa p),sl qaK abs,sl qaz holes] (.agg (qaa r)) []
end Go.Proofs.YtgldgpdhblndkaaGreatDoor
