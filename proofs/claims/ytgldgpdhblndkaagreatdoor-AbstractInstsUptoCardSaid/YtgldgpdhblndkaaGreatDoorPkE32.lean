/- WHAT IS PROVED: parts of the proof, put together by a program (G4). Conditions: none. -/
import Derived.Test.YtgldgpdhblndkaaGreatDoorPkE31
noncomputable section
namespace Go.Proofs.YtgldgpdhblndkaaGreatDoor
open Go
set_option linter.unusedVariables false
set_option maxRecDepth 100000
noncomputable def b175:Code:=Tryz.f175.body.getD .skip
def A175:List Nat:=[44,48,80]
def qaA (t:tType) (used:waB) (t40:waC) (t41:Int) (t42:Int) (m:waC) (m2:waA) (w3:List Str) (m3:Int) (m4:Str) (m5:waC) (n:Nat) (m6:Int) (m7:Str) (m8:Int) (m9:waA) (m10:waA) (m11:waB) (m12:waA) (m13:waB) (m14:waA):PSt:=stt 99 [(3,.eptr (qac t)),(4,.bptr 2 0),(5,.bptr 4 0),(7,sl cS used),(8,.bptr 6 0),(40,sl qac t40),(41,.int .i64 t41),(42,.int .i64 t42)] [.dead,.dead,.cells [.int .i64 0,.str ([]:Str),sl qac m,sl cS ([]:List Str),.int .i64 0,.str ([]:Str),.int .i64 0,sl qaa m2,sl qaa m2] [(2,33),(3,9),(7,31),(8,31)],.cells (flC cS w3) [],.cells [.int .i64 m3,.str m4,sl qac m5,.bsl 3 0 n,.int .i64 m6,.str m7,.int .i64 m8,sl qaa m9,sl qaa m10] [(2,33)],.cells [sl cS m11,sl qaa m12] [],.cells [sl cS m13,sl qaa m14] []] [((7,0),9)]
def qb3 (t:tType) (t40:waC) (t41:Int) (m:waC) (m2:waA) (m3:Int) (m4:Str) (n:Nat) (m6:Int) (m7:Str) (m8:Int) (m9:waA) (m10:waA) (m11:waB) (m12:waA) (o:List Str×waC×waB×waA):PSt:=stt 99 [(4,.bptr 2 0),(5,.bptr 4 0)] [.dead,.dead,.cells [.int .i64 0,.str ([]:Str),sl qac m,sl cS ([]:List Str),.int .i64 0,.str ([]:Str),.int .i64 0,sl qaa m2,sl qaa m2] [(2,33),(3,9),(7,31),(8,31)],.cells (flC cS o.1) [],.cells [.int .i64 m3,.str m4,sl qac o.2.1,.bsl 3 0 n,.int .i64 m6,.str m7,.int .i64 m8,sl qaa m9,sl qaa m10] [(2,33)],.cells [sl cS m11,sl qaa m12] [],.cells [sl cS o.2.2.1,sl qaa o.2.2.2] []] []
def qau (R45:qam) (t:tType) (t40:waC) (t41:Int) (n:Nat) (used:waB) (t42:Int) (w3:List Str) (m5:waC) (m13:waB) (m14:waA):Option ((waB×Int×List Str×waC×waB×waA)⊕((List Str×waC×waB×waA))) :=
 if (decide (t42 < t41)) = true then
  (idx t40 t42).bind fun x9 =>
  (R45 (⟨m13,m14⟩:reftype_substitution) x9).bind fun r10 =>
  (app m5 ([r10]:List tType)).bind fun l11 =>
  if (decide (t42 ≥ (t.Names.length:Int))) = true then
   some (.inl (used,w64 (t42 + 1),w3,l11,m13,m14))
  else
   (idx t.Names t42).bind fun x14 =>
   (qaG (⟨m13,m14⟩:reftype_substitution) ([x14]:List Str)).bind fun r15 =>
   (qbU r15).bind fun r16 =>
   (qbT r16 x14).bind fun r17 =>
   if r17 = true then
    (qkx used x14).bind fun r20 =>
    (idn n w3 t42).bind fun x21 =>
    (upd w3 t42 r20).bind fun l22 =>
    (idn n l22 t42).bind fun x23 =>
    (app used ([x23]:List Str)).bind fun l24 =>
    (idn n l22 t42).bind fun x25 =>
    (qcC r15 x14 (⟨3,x25,0,([]:List tPred)⟩:tPred)).bind fun r26 =>
    some (.inl (l24,w64 (t42 + 1),l22,l11,r26.names,r26.by_))
   else
    some (.inl (used,w64 (t42 + 1),w3,l11,r15.names,r15.by_))
 else
  some (.inr (w3,m5,m13,m14))
def qce (R45:qam) (t:tType) (t40:waC) (t41:Int) (n:Nat) (used:waB) (t42:Int) (w3:List Str) (m5:waC) (m13:waB) (m14:waA):Option ((List Str×waC×waB×waA)):=loop (fun (zz:waB×Int×List Str×waC×waB×waA) => qau R45 t t40 t41 n zz.1 zz.2.1 zz.2.2.1 zz.2.2.2.1 zz.2.2.2.2.1 zz.2.2.2.2.2) (used,t42,w3,m5,m13,m14)
theorem qgg (R45:qam) (hR45:qa4 R45) (t:tType) (used:waB) (t40:waC) (t41:Int) (t42:Int) (m:waC) (m2:waA) (w3:List Str) (m3:Int) (m4:Str) (m5:waC) (n:Nat) (m6:Int) (m7:Str) (m8:Int) (m9:waA) (m10:waA) (m11:waB) (m12:waA) (m13:waB) (m14:waA) {y:(waB×Int×List Str×waC×waB×waA)⊕((List Str×waC×waB×waA))} (h:qau R45 t t40 t41 n used t42 w3 m5 m13 m14 = some y) :
  Sat Pg GE 0 (cA b175 1015) (LQ (fun (zz:waB×Int×List Str×waC×waB×waA) => qaA t zz.1 t40 t41 zz.2.1 m m2 zz.2.2.1 m3 m4 zz.2.2.2.1 n m6 m7 m8 m9 m10 m11 m12 zz.2.2.2.2.1 zz.2.2.2.2.2) (fun _ => .exit 0) (qb3 t t40 t41 m m2 m3 m4 n m6 m7 m8 m9 m10 m11 m12) y) (qaA t used t40 t41 t42 m m2 w3 m3 m4 m5 n m6 m7 m8 m9 m10 m11 m12 m13 m14):=by
 rcases ifs h with ⟨c8,h⟩ | ⟨c8,h⟩
 ·obtain ⟨x9,bx9,h⟩:=bnd h
  obtain ⟨r10,br10,h⟩:=bnd h
  obtain ⟨l11,bl11,h⟩:=bnd h
  have p13:=fun {sc F} (r:PS sc F) => sg 0 c8 <| sv (sT27.ia (k := .i64) bx9) <| sv (qaW x9) <| sx pz33 <| sx (qbA x9) <| sdr [0,1,0,0,12,28,63,127,255] <| sv (qa1 (⟨m13,m14⟩:reftype_substitution) []) <| sv (qbn x9 []) <| sca (hR45 _ _ _ br10) <| sv (sT27.mk' (v:=qha) qdn ([r10]:List tType) 1 (by kernel_rfl)) <| sv (sT27.ap bl11) <| ssf (rfl:qaJ (sl qac l11) = some [sl qac l11]) <| sv (qan t) <| sv (qao t) <| svn (sT22.ln t.Names) <| r
  rcases ifs h with ⟨c12,h⟩ | ⟨c12,h⟩
  ·obtain rfl:=lf h
   have z:=p13 <| sg 0 c12 <| eFx 0 .normal (qaA t used t40 t41 (w64 (t42 + 1)) m m2 w3 m3 m4 l11 n m6 m7 m8 m9 m10 m11 m12 m13 m14) rfl (qbP (aI (qbO (qaf t)) (aI (qch rfl) (aI (qch rfl) (aI (up (qad clS used)) (aI (qch rfl) (aI (up (qad qaf t40)) (aI trivial (aI trivial trivial))))))))) (aI trivial (aI trivial (aI (aI trivial (aI trivial (aI (up (qad qaf m)) (aI (up (qad clS ([]:List Str))) (aI trivial (aI trivial (aI trivial (aI (up (qad qab m2)) (aI (up (qad qab m2)) trivial))))))))) (aI (clF _ clS w3) (aI (aI trivial (aI trivial (aI (up (qad qaf l11)) (aI (qch rfl) (aI trivial (aI trivial (aI trivial (aI (up (qad qab m9)) (aI (up (qad qab m10)) trivial))))))))) (aI (aI (up (qad clS m11)) (aI (up (qad qab m12)) trivial)) (aI (aI (up (qad clS m13)) (aI (up (qad qab m14)) trivial)) trivial)))))))
   exact qbi (A:=A175) mixed z (by kernel_rfl)
  ·obtain ⟨x14,bx14,h⟩:=bnd h
   obtain ⟨r15,br15,h⟩:=bnd h
   obtain ⟨r16,br16,h⟩:=bnd h
   obtain ⟨r17,br17,h⟩:=bnd h
   have p19:=fun {sc F} (r:PS sc F) => p13 <| sg 0 c12 <| sv (qan t) <| sv (qao t) <| sv (sT22.ia (k := .i64) bx14) <| sv (qaR sc9 (.str x14) []) <| sv (qa1 (⟨m13,m14⟩:reftype_substitution) []) <| sv (sT22.mk' (v:=PVal.str) pcS ([x14]:List Str) 1 (by kernel_rfl)) <| sca (qcu br15) <| sy (qa6 r15) <| sv (qa1 r15 []) <| sca (qe0 br16) <| sca (qb7 br17) <| r
   rcases ifs h with ⟨c18,h⟩ | ⟨c18,h⟩
   ·obtain ⟨r20,br20,h⟩:=bnd h
    obtain ⟨x21,bx21,h⟩:=bnd h
    obtain ⟨l22,bl22,h⟩:=bnd h
    obtain ⟨x23,bx23,h⟩:=bnd h
    obtain ⟨l24,bl24,h⟩:=bnd h
    obtain ⟨x25,bx25,h⟩:=bnd h
    obtain ⟨r26,br26,h⟩:=bnd h
    obtain rfl:=lf h
    have z:=p19 <| sg 0 c18 <| si0 (.dx [0,1,0,0,0,24,63,127] [] [] [3]) <| ss <| sca (qpU br20) <| sv (sT22.iaN 3 (k := .i64) bx21) <| swr (sT22.stR (pcS r20) bl22) <| ss <| sv (sT22.iaN 3 (k := .i64) bx23) <| sv (sT22.ldN (fun r => qaR sc9 (.str x23) r) bx23) <| sv (sT22.mk' (v:=PVal.str) pcS ([x23]:List Str) 1 (by kernel_rfl)) <| sv (sT22.ap bl24) <| sdr [0,0,0,4,0,28,60,124,255,511] <| sv (qa1 r15 []) <| ss <| sv (sT22.iaN 3 (k := .i64) bx25) <| sv (sT22.ldN (fun r => qaR sc9 (.str x25) r) bx25) <| sb (qfj 3 x25) (qfn 3 x25) <| sca (qjM br26) <| syx (qcP r26) <| eFx 0 .normal (qaA t l24 t40 t41 (w64 (t42 + 1)) m m2 l22 m3 m4 l11 n m6 m7 m8 m9 m10 m11 m12 r26.names r26.by_) rfl (qbP (aI (qbO (qaf t)) (aI (qch rfl) (aI (qch rfl) (aI (up (qad clS l24)) (aI (qch rfl) (aI (up (qad qaf t40)) (aI trivial (aI trivial trivial))))))))) (aI trivial (aI trivial (aI (aI trivial (aI trivial (aI (up (qad qaf m)) (aI (up (qad clS ([]:List Str))) (aI trivial (aI trivial (aI trivial (aI (up (qad qab m2)) (aI (up (qad qab m2)) trivial))))))))) (aI (clF _ clS l22) (aI (aI trivial (aI trivial (aI (up (qad qaf l11)) (aI (qch rfl) (aI trivial (aI trivial (aI trivial (aI (up (qad qab m9)) (aI (up (qad qab m10)) trivial))))))))) (aI (aI (up (qad clS m11)) (aI (up (qad qab m12)) trivial)) (aI (aI (up (qad clS r26.names)) (aI (up (qad qab r26.by_)) trivial)) trivial)))))))
    exact qbi (A:=A175) mixed z (by kernel_rfl)
   ·obtain rfl:=lf h
    have z:=p19 <| sg 0 c18 <| eFx 0 .normal (qaA t used t40 t41 (w64 (t42 + 1)) m m2 w3 m3 m4 l11 n m6 m7 m8 m9 m10 m11 m12 r15.names r15.by_) rfl (qbP (aI (qbO (qaf t)) (aI (qch rfl) (aI (qch rfl) (aI (up (qad clS used)) (aI (qch rfl) (aI (up (qad qaf t40)) (aI trivial (aI trivial trivial))))))))) (aI trivial (aI trivial (aI (aI trivial (aI trivial (aI (up (qad qaf m)) (aI (up (qad clS ([]:List Str))) (aI trivial (aI trivial (aI trivial (aI (up (qad qab m2)) (aI (up (qad qab m2)) trivial))))))))) (aI (clF _ clS w3) (aI (aI trivial (aI trivial (aI (up (qad qaf l11)) (aI (qch rfl) (aI trivial (aI trivial (aI trivial (aI (up (qad qab m9)) (aI (up (qad qab m10)) trivial))))))))) (aI (aI (up (qad clS m11)) (aI (up (qad qab m12)) trivial)) (aI (aI (up (qad clS r15.names)) (aI (up (qad qab r15.by_)) trivial)) trivial)))))))
    exact qbi (A:=A175) mixed z (by kernel_rfl)
 ·obtain rfl:=lf h
  have z:=sg 0 c8 <| eF (.exit 0) (qb3 t t40 t41 m m2 m3 m4 n m6 m7 m8 m9 m10 m11 m12 (w3,m5,m13,m14))
  exact ovZ A175 (by intro hx; cases hx) z (by kernel_rfl)
theorem qgB (R45:qam) (hR45:qa4 R45) (t:tType) (used:waB) (t40:waC) (t41:Int) (t42:Int) (m:waC) (m2:waA) (w3:List Str) (m3:Int) (m4:Str) (m5:waC) (n:Nat) (m6:Int) (m7:Str) (m8:Int) (m9:waA) (m10:waA) (m11:waB) (m12:waA) (m13:waB) (m14:waA) {x:(List Str×waC×waB×waA)} (h:qce R45 t t40 t41 n used t42 w3 m5 m13 m14 = some x) :
  Sat Pg GE 0 (.loop (cA b175 1015)) (EX (.exit 0) (qb3 t t40 t41 m m2 m3 m4 n m6 m7 m8 m9 m10 m11 m12 x)) (qaA t used t40 t41 t42 m m2 w3 m3 m4 m5 n m6 m7 m8 m9 m10 m11 m12 m13 m14) :=
 Sat.loop (S:=fun (zz:waB×Int×List Str×waC×waB×waA) => qaA t zz.1 t40 t41 zz.2.1 m m2 zz.2.2.1 m3 m4 zz.2.2.2.1 n m6 m7 m8 m9 m10 m11 m12 zz.2.2.2.2.1 zz.2.2.2.2.2) (ex:=(fun _ => .exit 0)) (s:=(used,t42,w3,m5,m13,m14)) h fun zz y hy => qgg R45 hR45 t zz.1 t40 t41 zz.2.1 m m2 zz.2.2.1 m3 m4 zz.2.2.2.1 n m6 m7 m8 m9 m10 m11 m12 zz.2.2.2.2.1 zz.2.2.2.2.2 hy
def qc1 (R45:qam) (s:reftype_substitution) (t:tType):Option (tType) :=
 (qi5 t.Names).bind fun r1 =>
 (qbc s t.Pred).bind fun r2 =>
 (qf4 t.Preds s).bind fun r3 =>
 (qbU s).bind fun r4 =>
 (qkS t).bind fun r5 =>
 (app r4 r5).bind fun l6 =>
 (app l6 t.Names).bind fun l7 =>
 (qce R45 t t.Args (t.Args.length:Int) r1.length l7 0 r1 ([]:List tType) s.names s.by_).bind fun o27 =>
 (frz r1.length o27.1).bind fun l28 =>
 some (⟨t.Op,t.Name,o27.2.1,l28,r2,r3⟩:tType)
theorem qh1 (R45:qam) (hR45:qa4 R45) {s:reftype_substitution} {t:tType} {r:tType} (h:qc1 R45 s t = some r):CC Pg GE 175 [.agg (qag s),.agg (qac t)] (.agg (qac r)) [(2,33)]:=by
 obtain ⟨r1,br1,h⟩:=bnd h
 obtain ⟨r2,br2,h⟩:=bnd h
 obtain ⟨r3,br3,h⟩:=bnd h
 obtain ⟨r4,br4,h⟩:=bnd h
 obtain ⟨r5,br5,h⟩:=bnd h
 obtain ⟨l6,bl6,h⟩:=bnd h
 obtain ⟨l7,bl7,h⟩:=bnd h
 obtain ⟨o27,bo27,h⟩:=bnd h
 obtain ⟨l28,bl28,h⟩:=bnd h
 obtain rfl:=lf h
 have z:=se (qbF s) <| se (qbH t) <| sx pz33 <| si0 (.dx [0,1,0,4,0,16,48,0,0,256,1008,0,2048,0,8192,32752,65535,0,262143] [.cells (flC cS r1) []] [(6,3)] []) <| sv (qbv t) <| sv (qbw t) <| sv (qdB t) <| sv (qef t) <| sv (qan t) <| sv (qao t) <| sar 3 9 (sT22.cloneR qu2 br1) <| sv (qaU s) <| sv (qbV t) <| sv (qbY t) <| sca (qc8 br2) <| sv (qbp t) <| sv (qbo t) <| sv (qaU s) <| sca (qlG br3) <| sb (qnR t.Op t.Name 3 r1.length r2 r3) (qn5 t.Op t.Name 3 r1.length r2 r3) <| syx (pcA [.int .i64 t.Op,.str t.Name,sl qac ([]:List tType),.bsl 3 0 r1.length,.int .i64 r2.Op,.str r2.Name,.int .i64 r2.N,sl qaa r2.Kids,sl qaa r3]) <| sv (qaU s) <| sx qC0 <| sx (qcP s) <| sdr [0,1,0,7,15,0,32,127,255] <| sv (qa1 s []) <| sca (qe0 br4) <| sv (qaW t) <| sca (qnI br5) <| sv (sT22.ap bl6) <| sv (qan t) <| sv (qao t) <| sv (sT22.ap bl7) <| sv (qaU s) <| sx qC0 <| sx (qcP s) <| sv (qaH t) <| sv (qaI t) <| svn (sT27.ln t.Args) <| spc (qgB R45 hR45 t l7 t.Args (t.Args.length:Int) 0 ([]:List tType) ([]:List tPred) r1 t.Op t.Name ([]:List tType) r1.length r2.Op r2.Name r2.N r2.Kids r3 s.names s.by_ s.names s.by_ bo27) <| sfz 3 (l28.map cS) [4,5] [] (sT22.fz1 (m:=0) (b:=3) rfl l28) (sT22.fz2 3 l28) (fz3 cS bl28) <| sf (nof 3 (p:=sl qac ([]:List tType)) (qad qaf ([]:List tType))) <| sf (nof 3 (p:=sl cS ([]:List Str)) (qad clS ([]:List Str))) <| sf (nof 3 (p:=sl qaa ([]:List tPred)) (qad qab ([]:List tPred))) <| sf (nof 3 (p:=sl qaa ([]:List tPred)) (qad qab ([]:List tPred))) <| sf (nof 3 (p:=sl qac o27.2.1) (qad qaf o27.2.1)) <| sf (fz4 cS bl28) <| sf (nof 3 (p:=sl qaa r2.Kids) (qad qab r2.Kids)) <| sf (nof 3 (p:=sl qaa r3) (qad qab r3)) <| sf (nof 3 (p:=sl cS s.names) (qad clS s.names)) <| sf (nof 3 (p:=sl qaa s.by_) (qad qab s.by_)) <| sf (nof 3 (p:=sl cS o27.2.2.1) (qad clS o27.2.2.1)) <| sf (nof 3 (p:=sl qaa o27.2.2.2) (qad qab o27.2.2.2)) <| sz (qbn (⟨t.Op,t.Name,o27.2.1,l28,r2,r3⟩:tType) []) <| sy (qav (⟨t.Op,t.Name,o27.2.1,l28,r2,r3⟩:tType)) <| en (aI (qbR (⟨t.Op,t.Name,o27.2.1,l28,r2,r3⟩:tType)) <| aI (qaf (⟨t.Op,t.Name,o27.2.1,l28,r2,r3⟩:tType)) <| rT)
 exact cvZ A175 Tryz.call175 Tryz.func175 (c:=b175) rfl (aI (qat s) (aI (qaf t) trivial)) z (by kernel_rfl)
noncomputable def b178:Code:=Tryz.f178.body.getD .skip
def A178:List Nat:=[14,21]
def qcE (v:reftype_substitution) (out:waC) (t8:waC) (t9:Int) (t10:Int):PSt:=stt 22 [(1,.func (.func 155) [.agg (qag v)] []),(5,sl qac out),(8,sl qac t8),(9,.int .i64 t9),(10,.int .i64 t10)] [] [((5,0),33)]
def qfh (v:reftype_substitution) (t8:waC) (t9:Int) (o:waC):PSt:=stt 22 [(5,sl qac o)] [] [((5,0),33)]
def qi4 (R45:qam) (v:reftype_substitution) (t8:waC) (t9:Int) (out:waC) (t10:Int):Option ((waC×Int)⊕((waC))) :=
 if (decide (t10 < t9)) = true then
  (idx t8 t10).bind fun x2 =>
  (R45 v x2).bind fun r3 =>
  (app out ([r3]:List tType)).bind fun l4 =>
  some (.inl (l4,w64 (t10 + 1)))
 else
  some (.inr out)
def qgE (R45:qam) (v:reftype_substitution) (t8:waC) (t9:Int) (out:waC) (t10:Int):Option ((waC)):=loop (fun (zz:waC×Int) => qi4 R45 v t8 t9 zz.1 zz.2) (out,t10)
theorem qmV (R45:qam) (hR45:qa4 R45) (v:reftype_substitution) (out:waC) (t8:waC) (t9:Int) (t10:Int) {y:(waC×Int)⊕((waC))} (h:qi4 R45 v t8 t9 out t10 = some y) :
  Sat Pg GE 0 (cA b178 119) (LQ (fun (zz:waC×Int) => qcE v zz.1 t8 t9 zz.2) (fun _ => .exit 0) (qfh v t8 t9) y) (qcE v out t8 t9 t10):=by
 rcases ifs h with ⟨c1,h⟩ | ⟨c1,h⟩
 ·obtain ⟨x2,bx2,h⟩:=bnd h
  obtain ⟨r3,br3,h⟩:=bnd h
  obtain ⟨l4,bl4,h⟩:=bnd h
  obtain rfl:=lf h
  have z:=sg 0 c1 <| sv (sT27.ia (k := .i64) bx2) <| sv (qaW x2) <| sx pz33 <| sx (qbA x2) <| sv (qbn x2 []) <| sca (hR45 _ _ _ br3) <| sv (sT27.mk' (v:=qha) qdn ([r3]:List tType) 1 (by kernel_rfl)) <| sv (sT27.ap bl4) <| eFx 0 .normal (qcE v l4 t8 t9 (w64 (t10 + 1))) rfl (qbP (aI (aI (aI (up (qat v)) trivial) trivial) (aI (up (qad qaf l4)) (aI (up (qad qaf t8)) (aI trivial (aI trivial trivial)))))) trivial
  exact qbi (A:=A178) mixed z (by kernel_rfl)
 ·obtain rfl:=lf h
  have z:=sg 0 c1 <| eF (.exit 0) (qfh v t8 t9 out)
  exact ovZ A178 (by intro hx; cases hx) z (by kernel_rfl)
theorem qnw (R45:qam) (hR45:qa4 R45) (v:reftype_substitution) (out:waC) (t8:waC) (t9:Int) (t10:Int) {x:(waC)} (h:qgE R45 v t8 t9 out t10 = some x) :
  Sat Pg GE 0 (.loop (cA b178 119)) (EX (.exit 0) (qfh v t8 t9 x)) (qcE v out t8 t9 t10) :=
 Sat.loop (S:=fun (zz:waC×Int) => qcE v zz.1 t8 t9 zz.2) (ex:=(fun _ => .exit 0)) (s:=(out,t10)) h fun zz y hy => qmV R45 hR45 v zz.1 t8 t9 zz.2 hy
def qjq (R45:qam) (a:waC) (c:reftype_substitution):Option (waC) :=
 (qgE R45 c a (a.length:Int) ([]:List tType) 0).bind fun o5 =>
 some o5
theorem qqR (R45:qam) (hR45:qa4 R45) {a:waC} {c:reftype_substitution} {r:waC} (h:qjq R45 a c = some r):CC Pg GE 178 [sl qac a,.func (.func 155) [.agg (qag c)] []] (sl qac r) [(0,33)]:=by
 obtain ⟨o5,bo5,h⟩:=bnd h
 obtain rfl:=lf h
 have z:=svn (sT27.ln a) <| spc (qnw R45 hR45 c ([]:List tType) a (a.length:Int) 0 bo5) <| en (aI (rP (sl qac o5)) <| (qad qaf o5))
 exact cvZ A178 Tryz.call178 Tryz.func178 (c:=b178) rfl (aI (qad qaf a) (aI (aI (aI (qat c) trivial) trivial) trivial)) z (by kernel_rfl)
noncomputable def b155:Code:=Tryz.f155.body.getD .skip
def A155:List Nat:=[]
def qcf (R45:qam) (s:reftype_substitution) (t:tType):Option (tType) :=
 if (t.Op == 6) = true then
  (qc1 R45 s t).bind fun r3 =>
  some r3
 else
  (qi5 t.Names).bind fun r4 =>
  (qbc s t.Pred).bind fun r5 =>
  (qf4 t.Preds s).bind fun r6 =>
  (qjq R45 t.Args s).bind fun r7 =>
  some (⟨t.Op,t.Name,r7,r4,r5,r6⟩:tType)
theorem qjN (R45:qam) (hR45:qa4 R45) {s:reftype_substitution} {t:tType} {r:tType} (h:qcf R45 s t = some r):CC Pg GE 155 [.agg (qag s),.agg (qac t)] (.agg (qac r)) [(2,33)]:=by
 have p2:=fun {sc F} (r:PS sc F) => se (qbF s) <| se (qbH t) <| sx pz33 <| sv (qbv t) <| sv (qbw t) <| r
 rcases ifs h with ⟨c1,h⟩ | ⟨c1,h⟩
 ·obtain ⟨r3,br3,h⟩:=bnd h
  obtain rfl:=lf h
  have z:=p2 <| sg 0 c1 <| sv (qaU s) <| sv (qaW t) <| sca (qh1 R45 hR45 br3) <| sy (qav r3) <| en (aI (qbR r3) <| aI (qaf r3) <| rT)
  exact cvZ A155 Tryz.call155 Tryz.func155 (c:=b155) rfl (aI (qat s) (aI (qaf t) trivial)) z (by kernel_rfl)
 ·obtain ⟨r4,br4,h⟩:=bnd h
  obtain ⟨r5,br5,h⟩:=bnd h
  obtain ⟨r6,br6,h⟩:=bnd h
  obtain ⟨r7,br7,h⟩:=bnd h
  obtain rfl:=lf h
  have z:=p2 <| sg 0 c1 <| sdr [0,1,0,4,0,16,48,0,0,256,1008,0,2048,0,8192,32752,65535,0,262143] <| sv (qbv t) <| sv (qbw t) <| sv (qdB t) <| sv (qef t) <| sv (qan t) <| sv (qao t) <| sca (qoY br4) <| sv (qaU s) <| sv (qbV t) <| sv (qbY t) <| sca (qc8 br5) <| sv (qbp t) <| sv (qbo t) <| sv (qaU s) <| sca (qlG br6) <| sb (qhe t.Op t.Name r4 r5 r6) (qhB t.Op t.Name r4 r5 r6) <| syx (qbA (⟨t.Op,t.Name,([]:List tType),r4,r5,r6⟩:tType)) <| sv (qaH t) <| sv (qaI t) <| sv (qaU s) <| sca (qqR R45 hR45 br7) <| sz (qbn (⟨t.Op,t.Name,r7,r4,r5,r6⟩:tType) []) <| sy (qav (⟨t.Op,t.Name,r7,r4,r5,r6⟩:tType)) <| en (aI (qbR (⟨t.Op,t.Name,r7,r4,r5,r6⟩:tType)) <| aI (qaf (⟨t.Op,t.Name,r7,r4,r5,r6⟩:tType)) <| rT)
  exact cvZ A155 Tryz.call155 Tryz.func155 (c:=b155) rfl (aI (qat s) (aI (qaf t) trivial)) z (by kernel_rfl)
def qds:((reftype_substitution×tType)→Option (tType))→(reftype_substitution×tType)→Option (tType):=fun (rec:(reftype_substitution×tType)→Option (tType)) (x:reftype_substitution×tType) => qcf (fun s t => rec (s,t)) x.1 x.2
def qed (s:reftype_substitution) (t:tType):Option (tType):=fixE (qds) (s,t)
theorem qkg {s:reftype_substitution} {t:tType} {r:tType} (h:qed s t = some r):CC Pg GE 155 [.agg (qag s),.agg (qac t)] (.agg (qac r)) [(2,33)] :=
 qbX (F:=qds) (M:=fun (x:reftype_substitution×tType) (r:tType) => CC Pg GE 155 [.agg (qag x.1),.agg (qac x.2)] (.agg (qac r)) [(2,33)]) (fun rec hrec x r h => qjN _ (fun s t r h => hrec (s,t) r h) h) h
noncomputable def b139:Code:=Tryz.f139.body.getD .skip
def A139:List Nat:=[]
def qjv (t:tType) (a:waB) (a2:waA):Option (tType) :=
 (slc a none (some (if (a2.length:Int) < (a.length:Int) then (a2.length:Int) else (a.length:Int)))).bind fun l1 =>
 (slc a2 none (some (if (a2.length:Int) < (a.length:Int) then (a2.length:Int) else (a.length:Int)))).bind fun l2 =>
 (qaG (⟨l1,l2⟩:reftype_substitution) ([([118]:Str)]:List Str)).bind fun r3 =>
 (qed r3 t).bind fun r4 =>
 some r4
theorem qqd {t:tType} {a:waB} {a2:waA} {r:tType} (h:qjv t a a2 = some r):CC Pg GE 139 [.agg (qac t),sl cS a,sl qaa a2] (.agg (qac r)) [(2,33)]:=by
 obtain ⟨l1,bl1,h⟩:=bnd h
 obtain ⟨l2,bl2,h⟩:=bnd h
 obtain ⟨r3,br3,h⟩:=bnd h
 obtain ⟨r4,br4,h⟩:=bnd h
 obtain rfl:=lf h
 have z:=se (qbH t) <| sx pz33 <| svn (sT22.ln a) <| svn (sT29.ln a2) <| sdr [0,0,3,0,0,24,63,0,255,0,1023] <| sv (sT22.sc bl1) <| sv (sT29.sc bl2) <| sv (qkm l1 l2) <| sv (sT22.mk' (v:=PVal.str) pcS ([([118]:Str)]:List Str) 1 (by kernel_rfl)) <| sca (qcu br3) <| syx (qcP r3) <| sv (qa1 r3 []) <| sv (qaW t) <| sca (qkg br4) <| sy (qav r4) <| en (aI (qbR r4) <| aI (qaf r4) <| rT)
 exact cvZ A139 Tryz.call139 Tryz.func139 (c:=b139) rfl (aI (qaf t) (aI (qad clS a) (aI (qad qab a2) trivial))) z (by kernel_rfl)
noncomputable def b123:Code:=Tryz.f123.body.getD .skip
def A123:List Nat:=[]
def qjT (t:tType) (name:Str) (a:tPred):Option (tType) :=
 (qjv t ([name]:List Str) ([a]:List tPred)).bind fun r1 =>
 some r1
theorem quu {t:tType} {name:Str} {a:tPred} {r:tType} (h:qjT t name a = some r):CC Pg GE 123 [.agg (qac t),.str name,.agg (qaa a)] (.agg (qac r)) [(2,33)]:=by
 obtain ⟨r1,br1,h⟩:=bnd h
 obtain rfl:=lf h
 have z:=se (qbH t) <| se (qaL a) <| sx pz33 <| sv (qaW t) <| sv (sT22.mk' (v:=PVal.str) pcS ([name]:List Str) 1 (by kernel_rfl)) <| sv (qaj a) <| sv (sT29.mk' (v:=qbq) qaE ([a]:List tPred) 1 (by kernel_rfl)) <| sca (qqd br1) <| sy (qav r1) <| en (aI (qbR r1) <| aI (qaf r1) <| rT)
 exact cvZ A123 Tryz.call123 Tryz.func123 (c:=b123) rfl (aI (qaf t) (aI trivial (aI (qab a) trivial))) z (by kernel_rfl)
noncomputable def b93:Code:=Tryz.f93.body.getD .skip
def A93:List Nat:=[50]
def qc2 (i:Int) (old:waB) (name:Str) (n:Nat) (k:Int) (w0:List tType):PSt:=stt 51 [(1,.int .i64 i),(2,sl cS old),(3,.str name),(9,.bsl 0 0 n),(10,.int .i64 k)] [.cells (flC qac w0) []] []
def qdO (i:Int) (old:waB) (name:Str) (n:Nat) (o:List tType):PSt:=stt 51 [(9,.bsl 0 0 n)] [.cells (flC qac o) []] []
def qpv (i:Int) (old:waB) (name:Str) (n:Nat) (k:Int) (w0:List tType):PSt:=stt 51 [(1,.int .i64 i),(2,sl cS old),(3,.str name),(9,.bsl 0 0 n),(10,.int .i64 k)] [.cells (flC qac w0) []] []
def qfT (i:Int) (old:waB) (name:Str) (n:Nat) (k:Int) (w0:List tType) (o:Bool):PSt:=stt 51 [(1,.int .i64 i),(2,sl cS old),(3,.str name),(9,.bsl 0 0 n),(10,.int .i64 k),(49,.bool o)] [.cells (flC qac w0) []] []
def qhP (i:Int) (old:waB) (k:Int):Option ((Bool)) :=
 if (decide (k < (old.length:Int))) = true then
  (idx old k).bind fun x10 =>
  (idx old i).bind fun x11 =>
  some (x10 == x11)
 else
  some false
theorem qoH (i:Int) (old:waB) (name:Str) (n:Nat) (k:Int) (w0:List tType) {x:(Bool)} (h:qhP i old k = some x) :
  Sat Pg GE 0 (cA b93 3830) (EX .normal (qfT i old name n k w0 x)) (qpv i old name n k w0):=by
 have p9:=fun {sc F} (r:PS sc F) => sdr [0,0,2,7,15,31,31,127,255,31,31,1567,3615,8191,16383] <| svn (sT22.ln old) <| r
 rcases ifs h with ⟨c8,h⟩ | ⟨c8,h⟩
 ·obtain ⟨x10,bx10,h⟩:=bnd h
  obtain ⟨x11,bx11,h⟩:=bnd h
  obtain rfl:=lf h
  have z:=p9 <| sg 5 c8 <| sv (sT22.ia (k := .i64) bx10) <| sv (qaR sc9 (.str x10) []) <| sv (sT22.ia (k := .i64) bx11) <| sv (qaR sc9 (.str x11) []) <| eF .normal (qfT i old name n k w0 (x10 == x11))
  exact pcZ A93 z (by kernel_rfl)
 ·obtain rfl:=lf h
  have z:=p9 <| sg 5 c8 <| eF .normal (qfT i old name n k w0 false)
  exact pcZ A93 z (by kernel_rfl)
def qbM (i:Int) (old:waB) (name:Str) (n:Nat) (k:Int) (w0:List tType):Option ((Int×List tType)⊕(waC)) :=
 if (decide (k < (n:Int))) = true then
  (idn n w0 k).bind fun x3 =>
  (idx old i).bind fun x4 =>
  (qjT x3 x4 (⟨3,name,0,([]:List tPred)⟩:tPred)).bind fun r5 =>
  (idn n w0 k).bind fun x6 =>
  (upd w0 k r5).bind fun l7 =>
  (qhP i old k).bind fun o12 =>
  if o12 = true then
   some (.inr l7)
  else
   some (.inl (w64 (k + 1),l7))
 else
  some (.inr w0)
def qhp (i:Int) (old:waB) (name:Str) (n:Nat) (k:Int) (w0:List tType):Option (waC):=loop (fun (zz:Int×List tType) => qbM i old name n zz.1 zz.2) (k,w0)
theorem qnC (i:Int) (old:waB) (name:Str) (n:Nat) (k:Int) (w0:List tType) {y:(Int×List tType)⊕(waC)} (h:qbM i old name n k w0 = some y) :
  Sat Pg GE 0 (cA b93 119) (LQ (fun (zz:Int×List tType) => qc2 i old name n zz.1 zz.2) (fun _ => .exit 0) (qdO i old name n) y) (qc2 i old name n k w0):=by
 rcases ifs h with ⟨c2,h⟩ | ⟨c2,h⟩
 ·obtain ⟨x3,bx3,h⟩:=bnd h
  obtain ⟨x4,bx4,h⟩:=bnd h
  obtain ⟨r5,br5,h⟩:=bnd h
  obtain ⟨x6,bx6,h⟩:=bnd h
  obtain ⟨l7,bl7,h⟩:=bnd h
  obtain ⟨o12,bo12,h⟩:=bnd h
  have p14:=fun {sc F} (r:PS sc F) => svn (sT27.lnR 0 0 n) <| sg 0 c2 <| si0 (.dx [0,0,0,0,12,28,0,0,192,448,0,1024,4092,8191,16383] [] [] [0]) <| sv (sT27.iaN 0 (k := .i64) bx3) <| sv (sT27.ldN (qy4 x3) bx3) <| sv (sT22.ia (k := .i64) bx4) <| sv (qaR sc9 (.str x4) []) <| sb (qfj 3 name) (qfn 3 name) <| sca (quu br5) <| sv (sT27.iaN 0 (k := .i64) bx6) <| swr (sT27.stR (qdn r5) bl7) <| spa 0 <| spc (qoH i old name n k l7 bo12) <| r
  rcases ifs h with ⟨c13,h⟩ | ⟨c13,h⟩
  ·obtain rfl:=lf h
   have z:=p14 <| sg 0 c13 <| eF (.exit 0) (qdO i old name n l7)
   exact ovZ A93 (by intro hx; cases hx) z (by kernel_rfl)
  ·obtain rfl:=lf h
   have z:=p14 <| sg 0 c13 <| eF .normal (qc2 i old name n (w64 (k + 1)) l7)
   exact nxZ A93 z (by kernel_rfl)
 ·obtain rfl:=lf h
  have z:=svn (sT27.lnR 0 0 n) <| sg 0 c2 <| eF (.exit 0) (qdO i old name n w0)
  exact ovZ A93 (by intro hx; cases hx) z (by kernel_rfl)
theorem qnM (i:Int) (old:waB) (name:Str) (n:Nat) (k:Int) (w0:List tType) {x:waC} (h:qhp i old name n k w0 = some x) :
  Sat Pg GE 0 (.loop (cA b93 119)) (EX (.exit 0) (qdO i old name n x)) (qc2 i old name n k w0) :=
 Sat.loop (S:=fun (zz:Int×List tType) => qc2 i old name n zz.1 zz.2) (ex:=(fun _ => .exit 0)) (s:=(k,w0)) h fun zz y hy => qnC i old name n zz.1 zz.2 hy
def qhV (a:waC) (i:Int) (old:waB) (name:Str):Option (waC) :=
 (qi5 a).bind fun r1 =>
 (qhp i old name r1.length (w64 (i + 1)) r1).bind fun o15 =>
 (frz r1.length o15).bind fun l16 =>
 some l16
theorem qrA {a:waC} {i:Int} {old:waB} {name:Str} {r:waC} (h:qhV a i old name = some r):CC Pg GE 93 [sl qac a,.int .i64 i,sl cS old,.str name] (sl qac r) []:=by
 obtain ⟨r1,br1,h⟩:=bnd h
 obtain ⟨o15,bo15,h⟩:=bnd h
 obtain ⟨l16,bl16,h⟩:=bnd h
 obtain rfl:=lf h
 have z:=sar 0 33 (sT27.cloneR qAx br1) <| spc (qnM i old name r1.length (w64 (i + 1)) r1 bo15) <| sfz 0 (l16.map qac) [9] [] (sT27.fz1 (m:=0) (b:=0) rfl l16) (sT27.fz2 0 l16) (fz3 qac bl16) <| sf (fz4 qac bl16) <| en (aI (rP (sl qac l16)) <| (qad qaf l16))
 exact cvZ A93 Tryz.call93 Tryz.func93 (c:=b93) rfl (aI (qad qaf a) (aI trivial (aI (qad clS old) (aI trivial trivial)))) z (by kernel_rfl)
noncomputable def b94:Code:=Tryz.f94.body.getD .skip
def A94:List Nat:=[]
def qgu (R36:qaF) (a:tType) (a2:waB):Option (tType) :=
 (R36 a a2).bind fun r1 =>
 some r1
theorem qp8 (R36:qaF) (hR36:qcc R36) {a:tType} {a2:waB} {r:tType} (h:qgu R36 a a2 = some r):CC Pg GE 94 [.agg (qac a),.eptr ((cL cS) a2)] (.agg (qac r)) [(2,33)]:=by
 obtain ⟨r1,br1,h⟩:=bnd h
 obtain rfl:=lf h
 have z:=se (qbH a) <| sx pz33 <| sv (qaW a) <| sv (qaR sc22 (sl cS a2) []) <| sca (hR36 _ _ _ br1) <| sy (qav r1) <| en (aI (qbR r1) <| aI (qaf r1) <| rT)
 exact cvZ A94 Tryz.call94 Tryz.func94 (c:=b94) rfl (aI (qaf a) (aI (clLs clS a2) trivial)) z (by kernel_rfl)
def qck (v:waB) (out:waC) (t8:waC) (t9:Int) (t10:Int):PSt:=stt 22 [(1,.func (.func 94) [] [.eptr ((cL cS) v)]),(5,sl qac out),(8,sl qac t8),(9,.int .i64 t9),(10,.int .i64 t10)] [] [((5,0),33)]
def qeS (v:waB) (t8:waC) (t9:Int) (o:waC):PSt:=stt 22 [(5,sl qac o)] [] [((5,0),33)]
def qh6 (R36:qaF) (v:waB) (t8:waC) (t9:Int) (out:waC) (t10:Int):Option ((waC×Int)⊕((waC))) :=
 if (decide (t10 < t9)) = true then
  (idx t8 t10).bind fun x2 =>
  (qgu R36 x2 v).bind fun r3 =>
  (app out ([r3]:List tType)).bind fun l4 =>
  some (.inl (l4,w64 (t10 + 1)))
 else
  some (.inr out)
def qdN (R36:qaF) (v:waB) (t8:waC) (t9:Int) (out:waC) (t10:Int):Option ((waC)):=loop (fun (zz:waC×Int) => qh6 R36 v t8 t9 zz.1 zz.2) (out,t10)
theorem ql4 (R36:qaF) (hR36:qcc R36) (v:waB) (out:waC) (t8:waC) (t9:Int) (t10:Int) {y:(waC×Int)⊕((waC))} (h:qh6 R36 v t8 t9 out t10 = some y) :
  Sat Pg GE 0 (cA b62 119) (LQ (fun (zz:waC×Int) => qck v zz.1 t8 t9 zz.2) (fun _ => .exit 0) (qeS v t8 t9) y) (qck v out t8 t9 t10):=by
 rcases ifs h with ⟨c1,h⟩ | ⟨c1,h⟩
 ·obtain ⟨x2,bx2,h⟩:=bnd h
  obtain ⟨r3,br3,h⟩:=bnd h
  obtain ⟨l4,bl4,h⟩:=bnd h
  obtain rfl:=lf h
  have z:=sg 0 c1 <| sv (sT27.ia (k := .i64) bx2) <| sv (qaW x2) <| sx pz33 <| sx (qbA x2) <| sv (qbn x2 []) <| sca (qp8 R36 hR36 br3) <| sv (sT27.mk' (v:=qha) qdn ([r3]:List tType) 1 (by kernel_rfl)) <| sv (sT27.ap bl4) <| eFx 0 .normal (qck v l4 t8 t9 (w64 (t10 + 1))) rfl (qbP (aI (aI trivial (aI (qbO (clLs clS v)) trivial)) (aI (up (qad qaf l4)) (aI (up (qad qaf t8)) (aI trivial (aI trivial trivial)))))) trivial
  exact qbi (A:=A62) mixed z (by kernel_rfl)
 ·obtain rfl:=lf h
  have z:=sg 0 c1 <| eF (.exit 0) (qeS v t8 t9 out)
  exact ovZ A62 (by intro hx; cases hx) z (by kernel_rfl)
theorem qmb (R36:qaF) (hR36:qcc R36) (v:waB) (out:waC) (t8:waC) (t9:Int) (t10:Int) {x:(waC)} (h:qdN R36 v t8 t9 out t10 = some x) :
  Sat Pg GE 0 (.loop (cA b62 119)) (EX (.exit 0) (qeS v t8 t9 x)) (qck v out t8 t9 t10) :=
 Sat.loop (S:=fun (zz:waC×Int) => qck v zz.1 t8 t9 zz.2) (ex:=(fun _ => .exit 0)) (s:=(out,t10)) h fun zz y hy => ql4 R36 hR36 v zz.1 t8 t9 zz.2 hy
def qd3 (R36:qaF) (a:waC) (c:waB):Option (waC) :=
 (qdN R36 c a (a.length:Int) ([]:List tType) 0).bind fun o5 =>
 some o5
theorem qjG (R36:qaF) (hR36:qcc R36) {a:waC} {c:waB} {r:waC} (h:qd3 R36 a c = some r):CC Pg GE 62 [sl qac a,.func (.func 94) [] [.eptr ((cL cS) c)]] (sl qac r) [(0,33)]:=by
 obtain ⟨o5,bo5,h⟩:=bnd h
 obtain rfl:=lf h
 have z:=svn (sT27.ln a) <| spc (qmb R36 hR36 c ([]:List tType) a (a.length:Int) 0 bo5) <| en (aI (rP (sl qac o5)) <| (qad qaf o5))
 exact cvZ A62 Tryz.call62 Tryz.func62 (c:=b62) rfl (aI (qad qaf a) (aI (aI trivial (aI (clLs clS c) trivial)) trivial)) z (by kernel_rfl)
noncomputable def b52:Code:=Tryz.f52.body.getD .skip
def A52:List Nat:=[40,68]
def qcs (t:tType) (vars:waB) (used:waB) (t37:Int) (t38:Int) (m:waC) (m2:waA) (w3:List Str) (m3:Int) (m4:Str) (m5:waC) (n:Nat) (m6:Int) (m7:Str) (m8:Int) (m9:waA) (m10:waA):PSt:=stt 95 [(2,.eptr (qac t)),(3,.eptr ((cL cS) vars)),(4,.bptr 2 0),(5,.bptr 4 0),(6,sl cS used),(37,.int .i64 t37),(38,.int .i64 t38)] [.dead,.dead,.cells [.int .i64 0,.str ([]:Str),sl qac m,sl cS ([]:List Str),.int .i64 0,.str ([]:Str),.int .i64 0,sl qaa m2,sl qaa m2] [(2,33),(3,9),(7,31),(8,31)],.cells (flC cS w3) [],.cells [.int .i64 m3,.str m4,sl qac m5,.bsl 3 0 n,.int .i64 m6,.str m7,.int .i64 m8,sl qaa m9,sl qaa m10] []] [((6,0),9)]
def qgI (t:tType) (vars:waB) (t37:Int) (m:waC) (m2:waA) (m3:Int) (m4:Str) (n:Nat) (m6:Int) (m7:Str) (m8:Int) (m9:waA) (m10:waA) (o:List Str×waC):PSt:=stt 95 [(3,.eptr ((cL cS) vars)),(4,.bptr 2 0),(5,.bptr 4 0)] [.dead,.dead,.cells [.int .i64 0,.str ([]:Str),sl qac m,sl cS ([]:List Str),.int .i64 0,.str ([]:Str),.int .i64 0,sl qaa m2,sl qaa m2] [(2,33),(3,9),(7,31),(8,31)],.cells (flC cS o.1) [],.cells [.int .i64 m3,.str m4,sl qac o.2,.bsl 3 0 n,.int .i64 m6,.str m7,.int .i64 m8,sl qaa m9,sl qaa m10] []] []
def qqT (t:tType) (vars:waB) (used:waB) (i:Int) (t37:Int) (m:waC) (m2:waA) (w3:List Str) (m3:Int) (m4:Str) (m5:waC) (n:Nat) (m6:Int) (m7:Str) (m8:Int) (m9:waA) (m10:waA):PSt:=stt 95 [(2,.eptr (qac t)),(3,.eptr ((cL cS) vars)),(4,.bptr 2 0),(5,.bptr 4 0),(6,sl cS used),(7,.int .i64 i),(37,.int .i64 t37),(38,.int .i64 i)] [.dead,.dead,.cells [.int .i64 0,.str ([]:Str),sl qac m,sl cS ([]:List Str),.int .i64 0,.str ([]:Str),.int .i64 0,sl qaa m2,sl qaa m2] [(2,33),(3,9),(7,31),(8,31)],.cells (flC cS w3) [],.cells [.int .i64 m3,.str m4,sl qac m5,.bsl 3 0 n,.int .i64 m6,.str m7,.int .i64 m8,sl qaa m9,sl qaa m10] []] [((6,0),9)]
def qgA (t:tType) (vars:waB) (used:waB) (i:Int) (t37:Int) (m:waC) (m2:waA) (w3:List Str) (m3:Int) (m4:Str) (m5:waC) (n:Nat) (m6:Int) (m7:Str) (m8:Int) (m9:waA) (m10:waA) (o:Bool):PSt:=stt 95 [(2,.eptr (qac t)),(3,.eptr ((cL cS) vars)),(4,.bptr 2 0),(5,.bptr 4 0),(6,sl cS used),(7,.int .i64 i),(37,.int .i64 t37),(38,.int .i64 i),(56,.bool o)] [.dead,.dead,.cells [.int .i64 0,.str ([]:Str),sl qac m,sl cS ([]:List Str),.int .i64 0,.str ([]:Str),.int .i64 0,sl qaa m2,sl qaa m2] [(2,33),(3,9),(7,31),(8,31)],.cells (flC cS w3) [],.cells [.int .i64 m3,.str m4,sl qac m5,.bsl 3 0 n,.int .i64 m6,.str m7,.int .i64 m8,sl qaa m9,sl qaa m10] []] [((6,0),9)]
def qiC (R36:qaF) (t:tType) (vars:waB) (i:Int):Option ((Bool)) :=
 if (decide (i ≥ (w64 ((t.Args.length:Int) - 1)))) = true then
  some true
 else
  (idx t.Names i).bind fun x13 =>
  (qbT vars x13).bind fun r14 =>
  some (!r14)
theorem qpt (R36:qaF) (hR36:qcc R36) (t:tType) (vars:waB) (used:waB) (i:Int) (t37:Int) (m:waC) (m2:waA) (w3:List Str) (m3:Int) (m4:Str) (m5:waC) (n:Nat) (m6:Int) (m7:Str) (m8:Int) (m9:waA) (m10:waA) {x:(Bool)} (h:qiC R36 t vars i = some x) :
  Sat Pg GE 0 (cA b52 120812) (EX .normal (qgA t vars used i t37 m m2 w3 m3 m4 m5 n m6 m7 m8 m9 m10 x)) (qqT t vars used i t37 m m2 w3 m3 m4 m5 n m6 m7 m8 m9 m10):=by
 have p12:=fun {sc F} (r:PS sc F) => sdr [0,0,2,6,14,31,63,127,127,383,127,1919,3967,8191,16383,32767] <| sv (qaH t) <| sv (qaI t) <| svn (sT27.ln t.Args) <| r
 rcases ifs h with ⟨c11,h⟩ | ⟨c11,h⟩
 ·obtain rfl:=lf h
  have z:=p12 <| sg 7 c11 <| eF .normal (qgA t vars used i t37 m m2 w3 m3 m4 m5 n m6 m7 m8 m9 m10 true)
  exact pcZ A52 z (by kernel_rfl)
 ·obtain ⟨x13,bx13,h⟩:=bnd h
  obtain ⟨r14,br14,h⟩:=bnd h
  obtain rfl:=lf h
  have z:=p12 <| sg 7 c11 <| sv (qaR sc22 (sl cS vars) []) <| sv (qan t) <| sv (qao t) <| sv (sT22.ia (k := .i64) bx13) <| sv (qaR sc9 (.str x13) []) <| sca (qb7 br14) <| eF .normal (qgA t vars used i t37 m m2 w3 m3 m4 m5 n m6 m7 m8 m9 m10 (!r14))
  exact pcZ A52 z (by kernel_rfl)
def qb0 (R36:qaF) (t:tType) (vars:waB) (t37:Int) (n:Nat) (used:waB) (t38:Int) (w3:List Str) (m5:waC):Option ((waB×Int×List Str×waC)⊕((List Str×waC))) :=
 if (decide (t38 < t37)) = true then
  (qiC R36 t vars t38).bind fun o15 =>
  if o15 = true then
   some (.inl (used,w64 (t38 + 1),w3,m5))
  else
   (idx t.Names t38).bind fun x18 =>
   (qkx used x18).bind fun r19 =>
   (idn n w3 t38).bind fun x20 =>
   (upd w3 t38 r19).bind fun l21 =>
   (idn n l21 t38).bind fun x22 =>
   (app used ([x22]:List Str)).bind fun l23 =>
   (idn n l21 t38).bind fun x24 =>
   (qhV m5 t38 t.Names x24).bind fun r25 =>
   some (.inl (l23,w64 (t38 + 1),l21,r25))
 else
  some (.inr (w3,m5))
def qii (R36:qaF) (t:tType) (vars:waB) (t37:Int) (n:Nat) (used:waB) (t38:Int) (w3:List Str) (m5:waC):Option ((List Str×waC)):=loop (fun (zz:waB×Int×List Str×waC) => qb0 R36 t vars t37 n zz.1 zz.2.1 zz.2.2.1 zz.2.2.2) (used,t38,w3,m5)
theorem qoF (R36:qaF) (hR36:qcc R36) (t:tType) (vars:waB) (used:waB) (t37:Int) (t38:Int) (m:waC) (m2:waA) (w3:List Str) (m3:Int) (m4:Str) (m5:waC) (n:Nat) (m6:Int) (m7:Str) (m8:Int) (m9:waA) (m10:waA) {y:(waB×Int×List Str×waC)⊕((List Str×waC))} (h:qb0 R36 t vars t37 n used t38 w3 m5 = some y) :
  Sat Pg GE 0 (cA b52 943) (LQ (fun (zz:waB×Int×List Str×waC) => qcs t vars zz.1 t37 zz.2.1 m m2 zz.2.2.1 m3 m4 zz.2.2.2 n m6 m7 m8 m9 m10) (fun _ => .exit 0) (qgI t vars t37 m m2 m3 m4 n m6 m7 m8 m9 m10) y) (qcs t vars used t37 t38 m m2 w3 m3 m4 m5 n m6 m7 m8 m9 m10):=by
 rcases ifs h with ⟨c10,h⟩ | ⟨c10,h⟩
 ·obtain ⟨o15,bo15,h⟩:=bnd h
  have p17:=fun {sc F} (r:PS sc F) => sg 0 c10 <| spa 3 <| spc (qpt R36 hR36 t vars used t38 t37 m m2 w3 m3 m4 m5 n m6 m7 m8 m9 m10 bo15) <| r
  rcases ifs h with ⟨c16,h⟩ | ⟨c16,h⟩
  ·obtain rfl:=lf h
   have z:=p17 <| sg 0 c16 <| eF .normal (qcs t vars used t37 (w64 (t38 + 1)) m m2 w3 m3 m4 m5 n m6 m7 m8 m9 m10)
   exact nxZ A52 z (by kernel_rfl)
  ·obtain ⟨x18,bx18,h⟩:=bnd h
   obtain ⟨r19,br19,h⟩:=bnd h
   obtain ⟨x20,bx20,h⟩:=bnd h
   obtain ⟨l21,bl21,h⟩:=bnd h
   obtain ⟨x22,bx22,h⟩:=bnd h
   obtain ⟨l23,bl23,h⟩:=bnd h
   obtain ⟨x24,bx24,h⟩:=bnd h
   obtain ⟨r25,br25,h⟩:=bnd h
   obtain rfl:=lf h
   have z:=p17 <| sg 0 c16 <| si0 (.dx [0,1,0,0,0,16,0,112,240,504,1023,2047] [] [] [3]) <| ss <| sv (qan t) <| sv (qao t) <| sv (sT22.ia (k := .i64) bx18) <| sv (qaR sc9 (.str x18) []) <| sca (qpU br19) <| sv (sT22.iaN 3 (k := .i64) bx20) <| swr (sT22.stR (pcS r19) bl21) <| ss <| sv (sT22.iaN 3 (k := .i64) bx22) <| sv (sT22.ldN (fun r => qaR sc9 (.str x22) r) bx22) <| sv (sT22.mk' (v:=PVal.str) pcS ([x22]:List Str) 1 (by kernel_rfl)) <| sv (sT22.ap bl23) <| sdr [0,1,0,0,8,0,32,0,224,480,1023,2047,4095] <| ss <| sv (qan t) <| sv (qao t) <| ss <| sv (sT22.iaN 3 (k := .i64) bx24) <| sv (sT22.ldN (fun r => qaR sc9 (.str x24) r) bx24) <| sca (qrA br25) <| ssf (rfl:qaJ (sl qac r25) = some [sl qac r25]) <| eF .normal (qcs t vars l23 t37 (w64 (t38 + 1)) m m2 l21 m3 m4 r25 n m6 m7 m8 m9 m10)
   exact nxZ A52 z (by kernel_rfl)
 ·obtain rfl:=lf h
  have z:=sg 0 c10 <| eF (.exit 0) (qgI t vars t37 m m2 m3 m4 n m6 m7 m8 m9 m10 (w3,m5))
  exact ovZ A52 (by intro hx; cases hx) z (by kernel_rfl)
theorem qpq (R36:qaF) (hR36:qcc R36) (t:tType) (vars:waB) (used:waB) (t37:Int) (t38:Int) (m:waC) (m2:waA) (w3:List Str) (m3:Int) (m4:Str) (m5:waC) (n:Nat) (m6:Int) (m7:Str) (m8:Int) (m9:waA) (m10:waA) {x:(List Str×waC)} (h:qii R36 t vars t37 n used t38 w3 m5 = some x) :
  Sat Pg GE 0 (.loop (cA b52 943)) (EX (.exit 0) (qgI t vars t37 m m2 m3 m4 n m6 m7 m8 m9 m10 x)) (qcs t vars used t37 t38 m m2 w3 m3 m4 m5 n m6 m7 m8 m9 m10) :=
 Sat.loop (S:=fun (zz:waB×Int×List Str×waC) => qcs t vars zz.1 t37 zz.2.1 m m2 zz.2.2.1 m3 m4 zz.2.2.2 n m6 m7 m8 m9 m10) (ex:=(fun _ => .exit 0)) (s:=(used,t38,w3,m5)) h fun zz y hy => qoF R36 hR36 t vars zz.1 t37 zz.2.1 m m2 zz.2.2.1 m3 m4 zz.2.2.2 n m6 m7 m8 m9 m10 hy
def qgy (R36:qaF) (t:tType) (vars:waB):Option (tType) :=
 (qi5 t.Names).bind fun r1 =>
 (qi5 t.Preds).bind fun r2 =>
 (qi5 t.Args).bind fun r3 =>
 if (t.Op == 6) = true then
  (qi5 vars).bind fun r6 =>
  (qkS t).bind fun r7 =>
  (app r6 r7).bind fun l8 =>
  (app l8 t.Names).bind fun l9 =>
  (qii R36 t vars (t.Names.length:Int) r1.length l9 0 r1 r3).bind fun o26 =>
  (frz r1.length o26.1).bind fun l27 =>
  (qd3 R36 o26.2 vars).bind fun r28 =>
  some (⟨t.Op,t.Name,r28,l27,t.Pred,r2⟩:tType)
 else
  (frz r1.length r1).bind fun l29 =>
  (qd3 R36 r3 vars).bind fun r30 =>
  some (⟨t.Op,t.Name,r30,l29,t.Pred,r2⟩:tType)
theorem qsl (R36:qaF) (hR36:qcc R36) {t:tType} {vars:waB} {r:tType} (h:qgy R36 t vars = some r):CC Pg GE 52 [.agg (qac t),sl cS vars] (.agg (qac r)) [(2,33)]:=by
 obtain ⟨r1,br1,h⟩:=bnd h
 obtain ⟨r2,br2,h⟩:=bnd h
 obtain ⟨r3,br3,h⟩:=bnd h
 have p5:=fun {sc F} (r:PS sc F) => se (qbH t) <| se (pcL cS vars) <| sx pz33 <| si0 (.dx [0,1,0,4,0,16,48,0,128,0,512,1648,0,4096,15984,32767,0,131071] [.cells (flC cS r1) []] [(6,3)] []) <| sv (qbv t) <| sv (qbw t) <| sv (qdB t) <| sv (qef t) <| sv (qan t) <| sv (qao t) <| sar 3 9 (sT22.cloneR qu2 br1) <| sv (qbV t) <| sv (qbY t) <| sv (qbp t) <| sv (qbo t) <| sca (qCP br2) <| sv (qaH t) <| sv (qaI t) <| sca (qDf br3) <| sv (qms t.Op t.Name 3 r1.length t.Pred r2 r3) <| sx (pcA [.int .i64 t.Op,.str t.Name,sl qac r3,.bsl 3 0 r1.length,.int .i64 t.Pred.Op,.str t.Pred.Name,.int .i64 t.Pred.N,sl qaa t.Pred.Kids,sl qaa r2]) <| sv (qbv t) <| sv (qbw t) <| r
 rcases ifs h with ⟨c4,h⟩ | ⟨c4,h⟩
 ·obtain ⟨r6,br6,h⟩:=bnd h
  obtain ⟨r7,br7,h⟩:=bnd h
  obtain ⟨l8,bl8,h⟩:=bnd h
  obtain ⟨l9,bl9,h⟩:=bnd h
  obtain ⟨o26,bo26,h⟩:=bnd h
  obtain ⟨l27,bl27,h⟩:=bnd h
  obtain ⟨r28,br28,h⟩:=bnd h
  obtain rfl:=lf h
  have z:=p5 <| sg 0 c4 <| sdr [0,1,0,7,15,0,32,127,255] <| sv (qaR sc22 (sl cS vars) []) <| sca (qoY br6) <| sv (qaW t) <| sca (qnI br7) <| sv (sT22.ap bl8) <| sv (qan t) <| sv (qao t) <| sv (sT22.ap bl9) <| sv (qan t) <| sv (qao t) <| svn (sT22.ln t.Names) <| spc (qpq R36 hR36 t vars l9 (t.Names.length:Int) 0 ([]:List tType) ([]:List tPred) r1 t.Op t.Name r3 r1.length t.Pred.Op t.Pred.Name t.Pred.N t.Pred.Kids r2 bo26) <| sfz 3 (l27.map cS) [3,4,5] [] (sT22.fz1 (m:=0) (b:=3) rfl l27) (sT22.fz2 3 l27) (fz3 cS bl27) <| sf (nofL 3 (clLs clS vars)) <| sf (nof 3 (p:=sl qac ([]:List tType)) (qad qaf ([]:List tType))) <| sf (nof 3 (p:=sl cS ([]:List Str)) (qad clS ([]:List Str))) <| sf (nof 3 (p:=sl qaa ([]:List tPred)) (qad qab ([]:List tPred))) <| sf (nof 3 (p:=sl qaa ([]:List tPred)) (qad qab ([]:List tPred))) <| sf (nof 3 (p:=sl qac o26.2) (qad qaf o26.2)) <| sf (fz4 cS bl27) <| sf (nof 3 (p:=sl qaa t.Pred.Kids) (qad qab t.Pred.Kids)) <| sf (nof 3 (p:=sl qaa r2) (qad qab r2)) <| ss <| sca (qjG R36 hR36 br28) <| sz (qbn (⟨t.Op,t.Name,r28,l27,t.Pred,r2⟩:tType) []) <| sy (qav (⟨t.Op,t.Name,r28,l27,t.Pred,r2⟩:tType)) <| en (aI (qbR (⟨t.Op,t.Name,r28,l27,t.Pred,r2⟩:tType)) <| aI (qaf (⟨t.Op,t.Name,r28,l27,t.Pred,r2⟩:tType)) <| rT)
  exact cvZ A52 Tryz.call52 Tryz.func52 (c:=b52) rfl (aI (qaf t) (aI (qad clS vars) trivial)) z (by kernel_rfl)
 ·obtain ⟨l29,bl29,h⟩:=bnd h
  obtain ⟨r30,br30,h⟩:=bnd h
  obtain rfl:=lf h
  have z:=p5 <| sg 0 c4 <| sfz 3 (l29.map cS) [3,4,5] [] (sT22.fz1 (m:=0) (b:=3) rfl l29) (sT22.fz2 3 l29) (fz3 cS bl29) <| sf (nofL 3 (clLs clS vars)) <| sf (nof 3 (p:=sl qac ([]:List tType)) (qad qaf ([]:List tType))) <| sf (nof 3 (p:=sl cS ([]:List Str)) (qad clS ([]:List Str))) <| sf (nof 3 (p:=sl qaa ([]:List tPred)) (qad qab ([]:List tPred))) <| sf (nof 3 (p:=sl qaa ([]:List tPred)) (qad qab ([]:List tPred))) <| sf (nof 3 (p:=sl qac r3) (qad qaf r3)) <| sf (fz4 cS bl29) <| sf (nof 3 (p:=sl qaa t.Pred.Kids) (qad qab t.Pred.Kids)) <| sf (nof 3 (p:=sl qaa r2) (qad qab r2)) <| ss <| sca (qjG R36 hR36 br30) <| sz (qbn (⟨t.Op,t.Name,r30,l29,t.Pred,r2⟩:tType) []) <| sy (qav (⟨t.Op,t.Name,r30,l29,t.Pred,r2⟩:tType)) <| en (aI (qbR (⟨t.Op,t.Name,r30,l29,t.Pred,r2⟩:tType)) <| aI (qaf (⟨t.Op,t.Name,r30,l29,t.Pred,r2⟩:tType)) <| rT)
  exact cvZ A52 Tryz.call52 Tryz.func52 (c:=b52) rfl (aI (qaf t) (aI (qad clS vars) trivial)) z (by kernel_rfl)
def qju:((tType×waB)→Option (tType))→(tType×waB)→Option (tType):=fun (rec:(tType×waB)→Option (tType)) (x:tType×waB) => qgy (fun t vars => rec (t,vars)) x.1 x.2
def qlz (t:tType) (vars:waB):Option (tType):=fixE (qju) (t,vars)
theorem qtv {t:tType} {vars:waB} {r:tType} (h:qlz t vars = some r):CC Pg GE 52 [.agg (qac t),sl cS vars] (.agg (qac r)) [(2,33)] :=
 qbX (F:=qju) (M:=fun (x:tType×waB) (r:tType) => CC Pg GE 52 [.agg (qac x.1),sl cS x.2] (.agg (qac r)) [(2,33)]) (fun rec hrec x r h => qsl _ (fun t vars r h => hrec (t,vars) r h) h) h
abbrev qaT:=(tType→waE→waD→Option (tType))
abbrev qc6 (R:qaT):Prop := ∀ (t:tType) (c:waE) (c2:waD) (r:tType),R t c c2 = some r→CC Pg GE 51 [.agg (qac t),.func (.func 53) [] [.eptr ((cL qap) c),.eptr ((cL qai) c2)]] (.agg (qac r)) [(2,33)]
abbrev qbe:=(tPred→waE→waD→Option (tPred))
abbrev qd5 (R:qbe):Prop := ∀ (p:tPred) (abs:waE) (holes:waD) (r:tPred),R p abs holes = some r→CC Pg GE 19 [.agg (qaa p),sl qap abs,sl qai holes] (.agg (qaa r)) []
noncomputable def b57:Code:=Tryz.f57.body.getD .skip
def A57:List Nat:=[]
def qkv (R56:qbe) (k:tPred) (a:waE) (a2:waD):Option (tPred) :=
 (R56 k a a2).bind fun r1 =>
 some r1
theorem qsq (R56:qbe) (hR56:qd5 R56) {k:tPred} {a:waE} {a2:waD} {r:tPred} (h:qkv R56 k a a2 = some r):CC Pg GE 57 [.agg (qaa k),.eptr ((cL qap) a),.eptr ((cL qai) a2)] (.agg (qaa r)) []:=by
 obtain ⟨r1,br1,h⟩:=bnd h
 obtain rfl:=lf h
 have z:=se (qaL k) <| sx pz31 <| sv (qaj k) <| sv (qaR sc24 (sl qap a) []) <| sv (qaR sc38 (sl qai a2) []) <| sca (hR56 _ _ _ _ br1) <| sx (qaw r1) <| en (aI (qaY r1) <| (qab r1))
 exact cvZ A57 Tryz.call57 Tryz.func57 (c:=b57) rfl (aI (qab k) (aI (clLs qaO a) (aI (clLs qaD a2) trivial))) z (by kernel_rfl)
end Go.Proofs.YtgldgpdhblndkaaGreatDoor
