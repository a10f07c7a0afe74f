/- WHAT IS PROVED: parts of the proof, put together by a program (G8). Conditions: none. -/
import Derived.Test.YtgldgpdhblndkaaGreatDoorPkE35
noncomputable section
namespace Go.Proofs.YtgldgpdhblndkaaGreatDoor
open Go
set_option linter.unusedVariables false
set_option maxRecDepth 100000
noncomputable def b12:Code:=Tryz.f12.body.getD .skip
def A12:List Nat:=[]
def qiU (t7:waC) (t8:Int) (t9:Int):PSt:=stt 50 [(7,sl qac t7),(8,.int .i64 t8),(9,.int .i64 t9)] [] []
def qgQ (o:(Unit)⊕(Unit)):Exit:=match o with
 | (.inl _) => .ret
 | (.inr _) => .exit 0
def qfk (t7:waC) (t8:Int) (o:(Unit)⊕(Unit)):PSt:=match o with
 | (.inl o) => stt 50 [(2,.bool false)] [] []
 | (.inr o) => stt 50 [] [] []
def qAA (t7:waC) (t8:Int) (t9:Int) (m:Int) (m2:Str) (m3:waC) (m4:waB) (m5:Int) (m6:Str) (m7:Int) (m8:waA) (m9:waA):PSt:=stt 50 [(4,.bptr 0 0),(7,sl qac t7),(8,.int .i64 t8),(9,.int .i64 t9)] [.cells [.int .i64 m,.str m2,sl qac m3,sl cS m4,.int .i64 m5,.str m6,.int .i64 m7,sl qaa m8,sl qaa m9] []] []
def qi3 (t7:waC) (t8:Int) (t9:Int) (m:Int) (m2:Str) (m3:waC) (m4:waB) (m5:Int) (m6:Str) (m7:Int) (m8:waA) (m9:waA) (o:Bool):PSt:=stt 50 [(4,.bptr 0 0),(7,sl qac t7),(8,.int .i64 t8),(9,.int .i64 t9),(33,.bool o)] [.cells [.int .i64 m,.str m2,sl qac m3,sl cS m4,.int .i64 m5,.str m6,.int .i64 m7,sl qaa m8,sl qaa m9] []] []
def qtl (R85:qdZ) (m:Int) (m2:Str) (m3:waC) (m4:waB) (m5:Int) (m6:Str) (m7:Int) (m8:waA) (m9:waA):Option ((Bool)) :=
 (qwd (⟨m,m2,m3,m4,(⟨m5,m6,m7,m8⟩:tPred),m9⟩:tType)).bind fun r3 =>
 if (decide (r3 > 40)) = true then
  some true
 else
  if (decide ((m4.length:Int) > 20)) = true then
   some true
  else
   if (decide ((m9.length:Int) > 20)) = true then
    some true
   else
    (R85 m3).bind fun r10 =>
    some (!r10)
theorem qyB (R85:qdZ) (hR85:qlF R85) (t7:waC) (t8:Int) (t9:Int) (m:Int) (m2:Str) (m3:waC) (m4:waB) (m5:Int) (m6:Str) (m7:Int) (m8:waA) (m9:waA) {x:(Bool)} (h:qtl R85 m m2 m3 m4 m5 m6 m7 m8 m9 = some x) :
  Sat Pg GE 0 (cA b12 7148) (EX .normal (qi3 t7 t8 t9 m m2 m3 m4 m5 m6 m7 m8 m9 x)) (qAA t7 t8 t9 m m2 m3 m4 m5 m6 m7 m8 m9):=by
 obtain ⟨r3,br3,h⟩:=bnd h
 have p5:=fun {sc F} (r:PS sc F) => sv (qbn (⟨m,m2,m3,m4,(⟨m5,m6,m7,m8⟩:tPred),m9⟩:tType) []) <| sca (qAa br3) <| r
 rcases ifs h with ⟨c4,h⟩ | ⟨c4,h⟩
 ·obtain rfl:=lf h
  have z:=p5 <| sg 4 c4 <| eF .normal (qi3 t7 t8 t9 m m2 m3 m4 m5 m6 m7 m8 m9 true)
  exact pcZ A12 z (by kernel_rfl)
 ·have p7:=fun {sc F} (r:PS sc F) => p5 <| sg 4 c4 <| ss <| svn (sT22.ln m4) <| r
  rcases ifs h with ⟨c6,h⟩ | ⟨c6,h⟩
  ·obtain rfl:=lf h
   have z:=p7 <| sg 10 c6 <| eF .normal (qi3 t7 t8 t9 m m2 m3 m4 m5 m6 m7 m8 m9 true)
   exact pcZ A12 z (by kernel_rfl)
  ·have p9:=fun {sc F} (r:PS sc F) => p7 <| sg 10 c6 <| ss <| svn (sT29.ln m9) <| r
   rcases ifs h with ⟨c8,h⟩ | ⟨c8,h⟩
   ·obtain rfl:=lf h
    have z:=p9 <| sg 16 c8 <| eF .normal (qi3 t7 t8 t9 m m2 m3 m4 m5 m6 m7 m8 m9 true)
    exact pcZ A12 z (by kernel_rfl)
   ·obtain ⟨r10,br10,h⟩:=bnd h
    obtain rfl:=lf h
    have z:=p9 <| sg 16 c8 <| ss <| sca (hR85 _ _ br10) <| eF .normal (qi3 t7 t8 t9 m m2 m3 m4 m5 m6 m7 m8 m9 (!r10))
    exact pcZ A12 z (by kernel_rfl)
def qiR (t7:waC) (t8:Int) (t9:Int) (t39:waA) (t40:Int) (t41:Int) (m:Int) (m2:Str) (m3:waC) (m4:waB) (m5:Int) (m6:Str) (m7:Int) (m8:waA) (m9:waA):PSt:=stt 50 [(7,sl qac t7),(8,.int .i64 t8),(9,.int .i64 t9),(39,sl qaa t39),(40,.int .i64 t40),(41,.int .i64 t41)] [.cells [.int .i64 m,.str m2,sl qac m3,sl cS m4,.int .i64 m5,.str m6,.int .i64 m7,sl qaa m8,sl qaa m9] []] [((39,0),31)]
def qi9 (o:(Unit)⊕(Unit)):Exit:=match o with
 | (.inl _) => .ret
 | (.inr _) => .exit 2
def qgU (t7:waC) (t8:Int) (t9:Int) (t39:waA) (t40:Int) (m:Int) (m2:Str) (m3:waC) (m4:waB) (m5:Int) (m6:Str) (m7:Int) (m8:waA) (m9:waA) (o:(Unit)⊕(Unit)):PSt:=match o with
 | (.inl o) => stt 50 [(2,.bool false)] [.cells [.int .i64 m,.str m2,sl qac m3,sl cS m4,.int .i64 m5,.str m6,.int .i64 m7,sl qaa m8,sl qaa m9] []] []
 | (.inr o) => stt 50 [(7,sl qac t7),(8,.int .i64 t8),(9,.int .i64 t9)] [.cells [.int .i64 m,.str m2,sl qac m3,sl cS m4,.int .i64 m5,.str m6,.int .i64 m7,sl qaa m8,sl qaa m9] []] []
def qtG (R85:qdZ) (t39:waA) (t40:Int) (t41:Int):Option ((Int)⊕((Unit)⊕(Unit))) :=
 if (decide (t41 < t40)) = true then
  (idx t39 t41).bind fun x16 =>
  (qq6 x16).bind fun r17 =>
  if (!r17) = true then
   some (.inr (.inl ()))
  else
   some (.inl (w64 (t41 + 1)))
 else
  some (.inr (.inr ()))
def qsC (R85:qdZ) (t39:waA) (t40:Int) (t41:Int):Option ((Unit)⊕(Unit)):=loop (fun (zz:Int) => qtG R85 t39 t40 zz) t41
theorem qwy (R85:qdZ) (hR85:qlF R85) (t7:waC) (t8:Int) (t9:Int) (t39:waA) (t40:Int) (t41:Int) (m:Int) (m2:Str) (m3:waC) (m4:waB) (m5:Int) (m6:Str) (m7:Int) (m8:waA) (m9:waA) {y:(Int)⊕((Unit)⊕(Unit))} (h:qtG R85 t39 t40 t41 = some y) :
  Sat Pg GE 0 (cA b12 28607) (LQ (fun (zz:Int) => qiR t7 t8 t9 t39 t40 zz m m2 m3 m4 m5 m6 m7 m8 m9) qi9 (qgU t7 t8 t9 t39 t40 m m2 m3 m4 m5 m6 m7 m8 m9) y) (qiR t7 t8 t9 t39 t40 t41 m m2 m3 m4 m5 m6 m7 m8 m9):=by
 rcases ifs h with ⟨c15,h⟩ | ⟨c15,h⟩
 ·obtain ⟨x16,bx16,h⟩:=bnd h
  obtain ⟨r17,br17,h⟩:=bnd h
  have p19:=fun {sc F} (r:PS sc F) => sg 0 c15 <| sv (sT29.ia (k := .i64) bx16) <| sv (qaj x16) <| sx pz31 <| sx (qaw x16) <| sv (qar x16 []) <| sca (qzq br17) <| r
  rcases ifs h with ⟨c18,h⟩ | ⟨c18,h⟩
  ·obtain rfl:=lf h
   have z:=p19 <| sg 0 c18 <| eFx 0 (qi9 (.inl ())) (qgU t7 t8 t9 t39 t40 m m2 m3 m4 m5 m6 m7 m8 m9 (.inl ())) rfl (qbP (aI trivial trivial)) (aI (aI trivial (aI trivial (aI (up (qad qaf m3)) (aI (up (qad clS m4)) (aI trivial (aI trivial (aI trivial (aI (up (qad qab m8)) (aI (up (qad qab m9)) trivial))))))))) trivial)
   exact qpJ (A:=A12) mixed (by intro hx; cases hx) z (by kernel_rfl)
  ·obtain rfl:=lf h
   have z:=p19 <| sg 0 c18 <| eFx 0 .normal (qiR t7 t8 t9 t39 t40 (w64 (t41 + 1)) m m2 m3 m4 m5 m6 m7 m8 m9) rfl (qbP (aI (up (qad qaf t7)) (aI trivial (aI trivial (aI (up (qad qab t39)) (aI trivial (aI trivial trivial))))))) (aI (aI trivial (aI trivial (aI (up (qad qaf m3)) (aI (up (qad clS m4)) (aI trivial (aI trivial (aI trivial (aI (up (qad qab m8)) (aI (up (qad qab m9)) trivial))))))))) trivial)
   exact qbi (A:=A12) mixed z (by kernel_rfl)
 ·obtain rfl:=lf h
  have z:=sg 0 c15 <| eF (qi9 (.inr ())) (qgU t7 t8 t9 t39 t40 m m2 m3 m4 m5 m6 m7 m8 m9 (.inr ()))
  exact ovZ A12 (by intro hx; cases hx) z (by kernel_rfl)
theorem qr4 (R85:qdZ) (hR85:qlF R85) (t7:waC) (t8:Int) (t9:Int) (t39:waA) (t40:Int) (t41:Int) (m:Int) (m2:Str) (m3:waC) (m4:waB) (m5:Int) (m6:Str) (m7:Int) (m8:waA) (m9:waA) {x:(Unit)⊕(Unit)} (h:qsC R85 t39 t40 t41 = some x) :
  Sat Pg GE 0 (.loop (cA b12 28607)) (EX (qi9 x) (qgU t7 t8 t9 t39 t40 m m2 m3 m4 m5 m6 m7 m8 m9 x)) (qiR t7 t8 t9 t39 t40 t41 m m2 m3 m4 m5 m6 m7 m8 m9) :=
 Sat.loop (S:=fun (zz:Int) => qiR t7 t8 t9 t39 t40 zz m m2 m3 m4 m5 m6 m7 m8 m9) (ex:=qi9) (s:=t41) h fun zz y hy => qwy R85 hR85 t7 t8 t9 t39 t40 zz m m2 m3 m4 m5 m6 m7 m8 m9 hy
def qtC (R85:qdZ) (t7:waC) (t8:Int) (t9:Int):Option ((Int)⊕((Unit)⊕(Unit))) :=
 if (decide (t9 < t8)) = true then
  (idx t7 t9).bind fun x2 =>
  (qtl R85 x2.Op x2.Name x2.Args x2.Names x2.Pred.Op x2.Pred.Name x2.Pred.N x2.Pred.Kids x2.Preds).bind fun o11 =>
  if o11 = true then
   some (.inr (.inl ()))
  else
   (app ([x2.Pred]:List tPred) x2.Preds).bind fun l14 =>
   (qsC R85 l14 (l14.length:Int) 0).bind fun o20 => match o20 with
   | (.inl o20) =>
    some (.inr (.inl ()))
   | (.inr o20) =>
    some (.inl (w64 (t9 + 1)))
 else
  some (.inr (.inr ()))
def qtj (R85:qdZ) (t7:waC) (t8:Int) (t9:Int):Option ((Unit)⊕(Unit)):=loop (fun (zz:Int) => qtC R85 t7 t8 zz) t9
theorem qwE (R85:qdZ) (hR85:qlF R85) (t7:waC) (t8:Int) (t9:Int) {y:(Int)⊕((Unit)⊕(Unit))} (h:qtC R85 t7 t8 t9 = some y) :
  Sat Pg GE 0 (cA b12 55) (LQ (fun (zz:Int) => qiU t7 t8 zz) qgQ (qfk t7 t8) y) (qiU t7 t8 t9):=by
 rcases ifs h with ⟨c1,h⟩ | ⟨c1,h⟩
 ·obtain ⟨x2,bx2,h⟩:=bnd h
  obtain ⟨o11,bo11,h⟩:=bnd h
  have p13:=fun {sc F} (r:PS sc F) => sg 0 c1 <| sv (sT27.ia (k := .i64) bx2) <| sv (qaW x2) <| sx pz33 <| sx (qbA x2) <| spa 1 <| spc (qyB R85 hR85 t7 t8 t9 x2.Op x2.Name x2.Args x2.Names x2.Pred.Op x2.Pred.Name x2.Pred.N x2.Pred.Kids x2.Preds bo11) <| r
  rcases ifs h with ⟨c12,h⟩ | ⟨c12,h⟩
  ·obtain rfl:=lf h
   have z:=p13 <| sg 0 c12 <| eFx 0 (qgQ (.inl ())) (qfk t7 t8 (.inl ())) rfl (qbP (aI trivial trivial)) trivial
   exact qpJ (A:=A12) mixed (by intro hx; cases hx) z (by kernel_rfl)
  ·obtain ⟨l14,bl14,h⟩:=bnd h
   obtain ⟨o20,bo20,h⟩:=bnd h
   rcases o20 with o20 | o20
   ·obtain rfl:=lf h
    have z:=p13 <| sg 0 c12 <| sv (qar x2.Pred [sl qaa x2.Preds]) <| sv (sT29.mk' (v:=qbq) qaE ([x2.Pred]:List tPred) 1 (by kernel_rfl)) <| ss <| sv (sT29.ap bl14) <| svn (sT29.ln l14) <| spc (e := .ret) (s1:=qgU t7 t8 t9 l14 (l14.length:Int) x2.Op x2.Name x2.Args x2.Names x2.Pred.Op x2.Pred.Name x2.Pred.N x2.Pred.Kids x2.Preds (.inl o20)) (qr4 R85 hR85 t7 t8 t9 l14 (l14.length:Int) 0 x2.Op x2.Name x2.Args x2.Names x2.Pred.Op x2.Pred.Name x2.Pred.N x2.Pred.Kids x2.Preds bo20) <| eFx 0 (qgQ (.inl ())) (qfk t7 t8 (.inl ())) rfl (qbP (aI trivial trivial)) trivial
    exact qpJ (A:=A12) mixed (by intro hx; cases hx) z (by kernel_rfl)
   ·obtain rfl:=lf h
    have z:=p13 <| sg 0 c12 <| sv (qar x2.Pred [sl qaa x2.Preds]) <| sv (sT29.mk' (v:=qbq) qaE ([x2.Pred]:List tPred) 1 (by kernel_rfl)) <| ss <| sv (sT29.ap bl14) <| svn (sT29.ln l14) <| spc (e := .exit 2) (s1:=qgU t7 t8 t9 l14 (l14.length:Int) x2.Op x2.Name x2.Args x2.Names x2.Pred.Op x2.Pred.Name x2.Pred.N x2.Pred.Kids x2.Preds (.inr o20)) (qr4 R85 hR85 t7 t8 t9 l14 (l14.length:Int) 0 x2.Op x2.Name x2.Args x2.Names x2.Pred.Op x2.Pred.Name x2.Pred.N x2.Pred.Kids x2.Preds bo20) <| eFx 0 .normal (qiU t7 t8 (w64 (t9 + 1))) rfl (qbP (aI (up (qad qaf t7)) (aI trivial (aI trivial trivial)))) trivial
    exact qbi (A:=A12) mixed z (by kernel_rfl)
 ·obtain rfl:=lf h
  have z:=sg 0 c1 <| eF (qgQ (.inr ())) (qfk t7 t8 (.inr ()))
  exact ovZ A12 (by intro hx; cases hx) z (by kernel_rfl)
theorem qsn (R85:qdZ) (hR85:qlF R85) (t7:waC) (t8:Int) (t9:Int) {x:(Unit)⊕(Unit)} (h:qtj R85 t7 t8 t9 = some x) :
  Sat Pg GE 0 (.loop (cA b12 55)) (EX (qgQ x) (qfk t7 t8 x)) (qiU t7 t8 t9) :=
 Sat.loop (S:=fun (zz:Int) => qiU t7 t8 zz) (ex:=qgQ) (s:=t9) h fun zz y hy => qwE R85 hR85 t7 t8 zz hy
def qsh (R85:qdZ) (a:waC):Option (Bool) :=
 (qtj R85 a (a.length:Int) 0).bind fun o21 => match o21 with
 | (.inl o21) =>
  some false
 | (.inr o21) =>
  some true
theorem qBy (R85:qdZ) (hR85:qlF R85) {a:waC} {r:Bool} (h:qsh R85 a = some r):CC Pg GE 12 [sl qac a] (.bool r) []:=by
 obtain ⟨o21,bo21,h⟩:=bnd h
 rcases o21 with o21 | o21
 ·obtain rfl:=lf h
  have z:=svn (sT27.ln a) <| spc (e := .ret) (s1:=qfk a (a.length:Int) (.inl o21)) (qsn R85 hR85 a (a.length:Int) 0 bo21) <| en (aI (rP (.bool false)) <| trivial)
  exact cvZ A12 Tryz.call12 Tryz.func12 (c:=b12) rfl (aI (qad qaf a) trivial) z (by kernel_rfl)
 ·obtain rfl:=lf h
  have z:=svn (sT27.ln a) <| spc (e := .exit 0) (s1:=qfk a (a.length:Int) (.inr o21)) (qsn R85 hR85 a (a.length:Int) 0 bo21) <| en (aI (rP (.bool true)) <| trivial)
  exact cvZ A12 Tryz.call12 Tryz.func12 (c:=b12) rfl (aI (qad qaf a) trivial) z (by kernel_rfl)
def qvN:((waC)→Option (Bool))→(waC)→Option (Bool):=fun (rec:waC→Option (Bool)) (x:waC) => qsh (fun a => rec a) x
def qAY (a:waC):Option (Bool):=fixE (qvN) a
theorem qCL {a:waC} {r:Bool} (h:qAY a = some r):CC Pg GE 12 [sl qac a] (.bool r) [] :=
 qbX (F:=qvN) (M:=fun (x:waC) (r:Bool) => CC Pg GE 12 [sl qac x] (.bool r) []) (fun rec hrec x r h => qBy _ (fun a r h => hrec a r h) h) h
abbrev qbl:=(tType→Option (Bool))
abbrev qee (R:qbl):Prop := ∀ (t:tType) (r:Bool),R t = some r→CC Pg GE 13 [.agg (qac t)] (.bool r) []
noncomputable def b13:Code:=Tryz.f13.body.getD .skip
def A13:List Nat:=[23,27,46]
def qvQ (t:tType):PSt:=stt 55 [(1,.eptr (qac t))] [.dead] []
def qfa (o:(Unit)⊕(Unit)):Exit:=match o with
 | (.inl _) => .ret
 | (.inr _) => .normal
def qcL (t:tType) (o:(Unit)⊕(Unit)):PSt:=match o with
 | (.inl o) => stt 55 [(2,.bool false)] [.dead] []
 | (.inr o) => stt 55 [(1,.eptr (qac t))] [.dead] []
def qfl (t:tType) (t20:Int) (t21:Int):PSt:=stt 55 [(1,.eptr (qac t)),(20,.int .i64 t20),(21,.int .i64 t21)] [.dead] []
def qe6 (o:(Unit)⊕(Unit)):Exit:=match o with
 | (.inl _) => .ret
 | (.inr _) => .exit 0
def qdX (t:tType) (t20:Int) (o:(Unit)⊕(Unit)):PSt:=match o with
 | (.inl o) => stt 55 [(2,.bool false)] [.dead] []
 | (.inr o) => stt 55 [(1,.eptr (qac t))] [.dead] []
def qfw (t:tType) (i:Int) (t20:Int) (t25:Int):PSt:=stt 55 [(1,.eptr (qac t)),(3,.int .i64 i),(20,.int .i64 t20),(21,.int .i64 i),(24,.int .i64 i),(25,.int .i64 t25)] [.dead] []
def qfm (o:(Unit)⊕(Unit)):Exit:=match o with
 | (.inl _) => .ret
 | (.inr _) => .exit 2
def qdU (t:tType) (i:Int) (t20:Int) (o:(Unit)⊕(Unit)):PSt:=match o with
 | (.inl o) => stt 55 [(2,.bool false)] [.dead] []
 | (.inr o) => stt 55 [(1,.eptr (qac t)),(20,.int .i64 t20),(21,.int .i64 i)] [.dead] []
def qgZ (R90:qbl) (t:tType) (i:Int) (t25:Int):Option ((Int)⊕((Unit)⊕(Unit))) :=
 if (decide (t25 < i)) = true then
  (idx t.Names i).bind fun x7 =>
  (idx t.Names t25).bind fun x8 =>
  if (x7 == x8) = true then
   some (.inr (.inl ()))
  else
   some (.inl (w64 (t25 + 1)))
 else
  some (.inr (.inr ()))
def qmd (R90:qbl) (t:tType) (i:Int) (t25:Int):Option ((Unit)⊕(Unit)):=loop (fun (zz:Int) => qgZ R90 t i zz) t25
theorem qte (R90:qbl) (hR90:qee R90) (t:tType) (i:Int) (t20:Int) (t25:Int) {y:(Int)⊕((Unit)⊕(Unit))} (h:qgZ R90 t i t25 = some y) :
  Sat Pg GE 0 (cA b13 110559) (LQ (fun (zz:Int) => qfw t i t20 zz) qfm (qdU t i t20) y) (qfw t i t20 t25):=by
 rcases ifs h with ⟨c6,h⟩ | ⟨c6,h⟩
 ·obtain ⟨x7,bx7,h⟩:=bnd h
  obtain ⟨x8,bx8,h⟩:=bnd h
  have p10:=fun {sc F} (r:PS sc F) => sg 0 c6 <| sdr [0,1,0,7,15,0,32,0,224,480,1023] <| sv (qan t) <| sv (qao t) <| sv (sT22.ia (k := .i64) bx7) <| sv (qaR sc9 (.str x7) []) <| sv (qan t) <| sv (qao t) <| sv (sT22.ia (k := .i64) bx8) <| sv (qaR sc9 (.str x8) []) <| r
  rcases ifs h with ⟨c9,h⟩ | ⟨c9,h⟩
  ·obtain rfl:=lf h
   have z:=p10 <| sg 0 c9 <| eF (qfm (.inl ())) (qdU t i t20 (.inl ()))
   exact ovZ A13 (by intro hx; cases hx) z (by kernel_rfl)
  ·obtain rfl:=lf h
   have z:=p10 <| sg 0 c9 <| eF .normal (qfw t i t20 (w64 (t25 + 1)))
   exact nxZ A13 z (by kernel_rfl)
 ·obtain rfl:=lf h
  have z:=sg 0 c6 <| eF (qfm (.inr ())) (qdU t i t20 (.inr ()))
  exact ovZ A13 (by intro hx; cases hx) z (by kernel_rfl)
theorem qnn (R90:qbl) (hR90:qee R90) (t:tType) (i:Int) (t20:Int) (t25:Int) {x:(Unit)⊕(Unit)} (h:qmd R90 t i t25 = some x) :
  Sat Pg GE 0 (.loop (cA b13 110559)) (EX (qfm x) (qdU t i t20 x)) (qfw t i t20 t25) :=
 Sat.loop (S:=fun (zz:Int) => qfw t i t20 zz) (ex:=qfm) (s:=t25) h fun zz y hy => qte R90 hR90 t i t20 zz hy
def qhT (R90:qbl) (t:tType) (t20:Int) (t21:Int):Option ((Int)⊕((Unit)⊕(Unit))) :=
 if (decide (t21 < t20)) = true then
  (qmd R90 t t21 0).bind fun o11 => match o11 with
  | (.inl o11) =>
   some (.inr (.inl ()))
  | (.inr o11) =>
   some (.inl (w64 (t21 + 1)))
 else
  some (.inr (.inr ()))
def qmr (R90:qbl) (t:tType) (t20:Int) (t21:Int):Option ((Unit)⊕(Unit)):=loop (fun (zz:Int) => qhT R90 t t20 zz) t21
theorem qsy (R90:qbl) (hR90:qee R90) (t:tType) (t20:Int) (t21:Int) {y:(Int)⊕((Unit)⊕(Unit))} (h:qhT R90 t t20 t21 = some y) :
  Sat Pg GE 0 (cA b13 431) (LQ (fun (zz:Int) => qfl t t20 zz) qe6 (qdX t t20) y) (qfl t t20 t21):=by
 rcases ifs h with ⟨c5,h⟩ | ⟨c5,h⟩
 ·obtain ⟨o11,bo11,h⟩:=bnd h
  rcases o11 with o11 | o11
  ·obtain rfl:=lf h
   have z:=sg 0 c5 <| spc (e := .ret) (s1:=qdU t t21 t20 (.inl o11)) (qnn R90 hR90 t t21 t20 0 bo11) <| eF (qe6 (.inl ())) (qdX t t20 (.inl ()))
   exact ovZ A13 (by intro hx; cases hx) z (by kernel_rfl)
  ·obtain rfl:=lf h
   have z:=sg 0 c5 <| spc (e := .exit 2) (s1:=qdU t t21 t20 (.inr o11)) (qnn R90 hR90 t t21 t20 0 bo11) <| eF .normal (qfl t t20 (w64 (t21 + 1)))
   exact nxZ A13 z (by kernel_rfl)
 ·obtain rfl:=lf h
  have z:=sg 0 c5 <| eF (qe6 (.inr ())) (qdX t t20 (.inr ()))
  exact ovZ A13 (by intro hx; cases hx) z (by kernel_rfl)
theorem qnj (R90:qbl) (hR90:qee R90) (t:tType) (t20:Int) (t21:Int) {x:(Unit)⊕(Unit)} (h:qmr R90 t t20 t21 = some x) :
  Sat Pg GE 0 (.loop (cA b13 431)) (EX (qe6 x) (qdX t t20 x)) (qfl t t20 t21) :=
 Sat.loop (S:=fun (zz:Int) => qfl t t20 zz) (ex:=qe6) (s:=t21) h fun zz y hy => qsy R90 hR90 t t20 zz hy
def qmw (R90:qbl) (t:tType):Option ((Unit)⊕(Unit)) :=
 if (t.Op == 6) = true then
  if (decide ((t.Names.length:Int) > (if 0 > (w64 ((t.Args.length:Int) - 1)) then 0 else w64 ((t.Args.length:Int) - 1)))) = true then
   some (.inl ())
  else
   (qmr R90 t (t.Names.length:Int) 0).bind fun o12 => match o12 with
   | (.inl o12) =>
    some (.inl ())
   | (.inr o12) =>
    some (.inr ())
 else
  some (.inr ())
theorem qjA (R90:qbl) (hR90:qee R90) (t:tType) {x:(Unit)⊕(Unit)} (h:qmw R90 t = some x) :
  Sat Pg GE 0 (cA b13 6) (EX (qfa x) (qcL t x)) (qvQ t):=by
 have p2:=fun {sc F} (r:PS sc F) => sv (qbv t) <| sv (qbw t) <| r
 rcases ifs h with ⟨c1,h⟩ | ⟨c1,h⟩
 ·have p4:=fun {sc F} (r:PS sc F) => p2 <| sg 0 c1 <| sv (qan t) <| sv (qao t) <| svn (sT22.ln t.Names) <| sv (qaH t) <| sv (qaI t) <| svn (sT27.ln t.Args) <| r
  rcases ifs h with ⟨c3,h⟩ | ⟨c3,h⟩
  ·obtain rfl:=lf h
   have z:=p4 <| sg 0 c3 <| eF (qfa (.inl ())) (qcL t (.inl ()))
   exact pcZ A13 z (by kernel_rfl)
  ·obtain ⟨o12,bo12,h⟩:=bnd h
   rcases o12 with o12 | o12
   ·obtain rfl:=lf h
    have z:=p4 <| sg 0 c3 <| sv (qan t) <| sv (qao t) <| svn (sT22.ln t.Names) <| spc (e := .ret) (s1:=qdX t (t.Names.length:Int) (.inl o12)) (qnj R90 hR90 t (t.Names.length:Int) 0 bo12) <| eF (qfa (.inl ())) (qcL t (.inl ()))
    exact pcZ A13 z (by kernel_rfl)
   ·obtain rfl:=lf h
    have z:=p4 <| sg 0 c3 <| sv (qan t) <| sv (qao t) <| svn (sT22.ln t.Names) <| spc (e := .exit 0) (s1:=qdX t (t.Names.length:Int) (.inr o12)) (qnj R90 hR90 t (t.Names.length:Int) 0 bo12) <| eF (qfa (.inr ())) (qcL t (.inr ()))
    exact pcZ A13 z (by kernel_rfl)
 ·obtain rfl:=lf h
  have z:=p2 <| sg 0 c1 <| eF (qfa (.inr ())) (qcL t (.inr ()))
  exact pcZ A13 z (by kernel_rfl)
def qfp (t:tType) (t43:Int) (t44:Int):PSt:=stt 55 [(1,.eptr (qac t)),(43,.int .i64 t43),(44,.int .i64 t44)] [.dead] []
def qfe (o:(Unit)⊕(Unit)):Exit:=match o with
 | (.inl _) => .ret
 | (.inr _) => .exit 4
def qd4 (t:tType) (t43:Int) (o:(Unit)⊕(Unit)):PSt:=match o with
 | (.inl o) => stt 55 [(2,.bool false)] [.dead] []
 | (.inr o) => stt 55 [] [.dead] []
def qhF (R90:qbl) (t:tType) (t43:Int) (t44:Int):Option ((Int)⊕((Unit)⊕(Unit))) :=
 if (decide (t44 < t43)) = true then
  (idx t.Args t44).bind fun x15 =>
  (R90 x15).bind fun r16 =>
  if (!r16) = true then
   some (.inr (.inl ()))
  else
   some (.inl (w64 (t44 + 1)))
 else
  some (.inr (.inr ()))
def qmS (R90:qbl) (t:tType) (t43:Int) (t44:Int):Option ((Unit)⊕(Unit)):=loop (fun (zz:Int) => qhF R90 t t43 zz) t44
theorem qsE (R90:qbl) (hR90:qee R90) (t:tType) (t43:Int) (t44:Int) {y:(Int)⊕((Unit)⊕(Unit))} (h:qhF R90 t t43 t44 = some y) :
  Sat Pg GE 0 (cA b13 119) (LQ (fun (zz:Int) => qfp t t43 zz) qfe (qd4 t t43) y) (qfp t t43 t44):=by
 rcases ifs h with ⟨c14,h⟩ | ⟨c14,h⟩
 ·obtain ⟨x15,bx15,h⟩:=bnd h
  obtain ⟨r16,br16,h⟩:=bnd h
  have p18:=fun {sc F} (r:PS sc F) => sg 0 c14 <| sv (qaH t) <| sv (qaI t) <| sv (sT27.ia (k := .i64) bx15) <| sv (qaW x15) <| sca (hR90 _ _ br16) <| r
  rcases ifs h with ⟨c17,h⟩ | ⟨c17,h⟩
  ·obtain rfl:=lf h
   have z:=p18 <| sg 0 c17 <| eF (qfe (.inl ())) (qd4 t t43 (.inl ()))
   exact ovZ A13 (by intro hx; cases hx) z (by kernel_rfl)
  ·obtain rfl:=lf h
   have z:=p18 <| sg 0 c17 <| eF .normal (qfp t t43 (w64 (t44 + 1)))
   exact nxZ A13 z (by kernel_rfl)
 ·obtain rfl:=lf h
  have z:=sg 0 c14 <| eF (qfe (.inr ())) (qd4 t t43 (.inr ()))
  exact ovZ A13 (by intro hx; cases hx) z (by kernel_rfl)
theorem qni (R90:qbl) (hR90:qee R90) (t:tType) (t43:Int) (t44:Int) {x:(Unit)⊕(Unit)} (h:qmS R90 t t43 t44 = some x) :
  Sat Pg GE 0 (.loop (cA b13 119)) (EX (qfe x) (qd4 t t43 x)) (qfp t t43 t44) :=
 Sat.loop (S:=fun (zz:Int) => qfp t t43 zz) (ex:=qfe) (s:=t44) h fun zz y hy => qsE R90 hR90 t t43 zz hy
def qkL (R90:qbl) (t:tType):Option (Bool) :=
 (qmw R90 t).bind fun o13 => match o13 with
 | (.inl o13) =>
  some false
 | (.inr o13) =>
  (qmS R90 t (t.Args.length:Int) 0).bind fun o19 => match o19 with
  | (.inl o19) =>
   some false
  | (.inr o19) =>
   some true
theorem qwC (R90:qbl) (hR90:qee R90) {t:tType} {r:Bool} (h:qkL R90 t = some r):CC Pg GE 13 [.agg (qac t)] (.bool r) []:=by
 obtain ⟨o13,bo13,h⟩:=bnd h
 rcases o13 with o13 | o13
 ·obtain rfl:=lf h
  have z:=se (qbH t) <| spa 0 <| spc (e := .ret) (s1:=qcL t (.inl o13)) (qjA R90 hR90 t bo13) <| en (aI (rP (.bool false)) <| trivial)
  exact cvZ A13 Tryz.call13 Tryz.func13 (c:=b13) rfl (aI (qaf t) trivial) z (by kernel_rfl)
 ·obtain ⟨o19,bo19,h⟩:=bnd h
  rcases o19 with o19 | o19
  ·obtain rfl:=lf h
   have z:=se (qbH t) <| spa 0 <| spc (e := .normal) (s1:=qcL t (.inr o13)) (qjA R90 hR90 t bo13) <| sv (qaH t) <| sv (qaI t) <| svn (sT27.ln t.Args) <| spc (e := .ret) (s1:=qd4 t (t.Args.length:Int) (.inl o19)) (qni R90 hR90 t (t.Args.length:Int) 0 bo19) <| en (aI (rP (.bool false)) <| trivial)
   exact cvZ A13 Tryz.call13 Tryz.func13 (c:=b13) rfl (aI (qaf t) trivial) z (by kernel_rfl)
  ·obtain rfl:=lf h
   have z:=se (qbH t) <| spa 0 <| spc (e := .normal) (s1:=qcL t (.inr o13)) (qjA R90 hR90 t bo13) <| sv (qaH t) <| sv (qaI t) <| svn (sT27.ln t.Args) <| spc (e := .exit 4) (s1:=qd4 t (t.Args.length:Int) (.inr o19)) (qni R90 hR90 t (t.Args.length:Int) 0 bo19) <| en (aI (rP (.bool true)) <| trivial)
   exact cvZ A13 Tryz.call13 Tryz.func13 (c:=b13) rfl (aI (qaf t) trivial) z (by kernel_rfl)
def qon:((tType)→Option (Bool))→(tType)→Option (Bool):=fun (rec:tType→Option (Bool)) (x:tType) => qkL (fun t => rec t) x
def qsB (t:tType):Option (Bool):=fixE (qon) t
theorem qxU {t:tType} {r:Bool} (h:qsB t = some r):CC Pg GE 13 [.agg (qac t)] (.bool r) [] :=
 qbX (F:=qon) (M:=fun (x:tType) (r:Bool) => CC Pg GE 13 [.agg (qac x)] (.bool r) []) (fun rec hrec x r h => qwC _ (fun t r h => hrec t r h) h) h
noncomputable def b14:Code:=Tryz.f14.body.getD .skip
def A14:List Nat:=[]
def qga (abs:waE) (holes:waD) (t8:Int) (t9:Int):PSt:=stt 26 [(0,sl qap abs),(1,sl qai holes),(7,sl qai holes),(8,.int .i64 t8),(9,.int .i64 t9)] [] []
def qgq (o:(Unit)⊕(Unit)):Exit:=match o with
 | (.inl _) => .ret
 | (.inr _) => .exit 0
def qeI (abs:waE) (holes:waD) (t8:Int) (o:(Unit)⊕(Unit)):PSt:=match o with
 | (.inl o) => stt 26 [(4,.bool false)] [] []
 | (.inr o) => stt 26 [(0,sl qap abs),(1,sl qai holes)] [] []
def qpD (holes:waD) (t8:Int) (t9:Int):Option ((Int)⊕((Unit)⊕(Unit))) :=
 if (decide (t9 < t8)) = true then
  (idx holes t9).bind fun x2 =>
  if (decide ((x2.Params.length:Int) > 8)) = true then
   some (.inr (.inl ()))
  else
   some (.inl (w64 (t9 + 1)))
 else
  some (.inr (.inr ()))
def qor (holes:waD) (t8:Int) (t9:Int):Option ((Unit)⊕(Unit)):=loop (fun (zz:Int) => qpD holes t8 zz) t9
theorem quj (abs:waE) (holes:waD) (t8:Int) (t9:Int) {y:(Int)⊕((Unit)⊕(Unit))} (h:qpD holes t8 t9 = some y) :
  Sat Pg GE 0 (cA b14 55) (LQ (fun (zz:Int) => qga abs holes t8 zz) qgq (qeI abs holes t8) y) (qga abs holes t8 t9):=by
 rcases ifs h with ⟨c1,h⟩ | ⟨c1,h⟩
 ·obtain ⟨x2,bx2,h⟩:=bnd h
  have p4:=fun {sc F} (r:PS sc F) => sg 0 c1 <| sv (sT38.ia (k := .i64) bx2) <| sv (qCI x2) <| sx pz82 <| sx (qoG x2) <| ss <| svn (sT36.ln x2.Params) <| r
  rcases ifs h with ⟨c3,h⟩ | ⟨c3,h⟩
  ·obtain rfl:=lf h
   have z:=p4 <| sg 0 c3 <| eFx 0 (qgq (.inl ())) (qeI abs holes t8 (.inl ())) rfl (qbP (aI trivial trivial)) trivial
   exact qpJ (A:=A14) mixed (by intro hx; cases hx) z (by kernel_rfl)
  ·obtain rfl:=lf h
   have z:=p4 <| sg 0 c3 <| eFx 0 .normal (qga abs holes t8 (w64 (t9 + 1))) rfl (qbP (aI (up (qad qaO abs)) (aI (up (qad qaD holes)) (aI (up (qad qaD holes)) (aI trivial (aI trivial trivial)))))) trivial
   exact qbi (A:=A14) mixed z (by kernel_rfl)
 ·obtain rfl:=lf h
  have z:=sg 0 c1 <| eF (qgq (.inr ())) (qeI abs holes t8 (.inr ()))
  exact ovZ A14 (by intro hx; cases hx) z (by kernel_rfl)
theorem qot (abs:waE) (holes:waD) (t8:Int) (t9:Int) {x:(Unit)⊕(Unit)} (h:qor holes t8 t9 = some x) :
  Sat Pg GE 0 (.loop (cA b14 55)) (EX (qgq x) (qeI abs holes t8 x)) (qga abs holes t8 t9) :=
 Sat.loop (S:=fun (zz:Int) => qga abs holes t8 zz) (ex:=qgq) (s:=t9) h fun zz y hy => quj abs holes t8 zz hy
def qrD (abs:waE) (holes:waD):Option (Bool) :=
 (qor holes (holes.length:Int) 0).bind fun o5 => match o5 with
 | (.inl o5) =>
  some false
 | (.inr o5) =>
  if (decide ((abs.length:Int) ≤ 8)) = true then
   some (decide ((holes.length:Int) ≤ 8))
  else
   some false
theorem qzu {abs:waE} {holes:waD} {r:Bool} (h:qrD abs holes = some r):CC Pg GE 14 [sl qap abs,sl qai holes] (.bool r) []:=by
 obtain ⟨o5,bo5,h⟩:=bnd h
 rcases o5 with o5 | o5
 ·obtain rfl:=lf h
  have z:=svn (sT38.ln holes) <| spc (e := .ret) (s1:=qeI abs holes (holes.length:Int) (.inl o5)) (qot abs holes (holes.length:Int) 0 bo5) <| en (aI (rP (.bool false)) <| trivial)
  exact cvZ A14 Tryz.call14 Tryz.func14 (c:=b14) rfl (aI (qad qaO abs) (aI (qad qaD holes) trivial)) z (by kernel_rfl)
 ·have p7:=fun {sc F} (r:PS sc F) => svn (sT38.ln holes) <| spc (e := .exit 0) (s1:=qeI abs holes (holes.length:Int) (.inr o5)) (qot abs holes (holes.length:Int) 0 bo5) <| svn (sT24.ln abs) <| r
  rcases ifs h with ⟨c6,h⟩ | ⟨c6,h⟩
  ·obtain rfl:=lf h
   have z:=p7 <| sg 4 c6 <| svn (sT38.ln holes) <| en (aI (rP (.bool (decide ((holes.length:Int) ≤ 8)))) <| trivial)
   exact cvZ A14 Tryz.call14 Tryz.func14 (c:=b14) rfl (aI (qad qaO abs) (aI (qad qaD holes) trivial)) z (by kernel_rfl)
  ·obtain rfl:=lf h
   have z:=p7 <| sg 4 c6 <| en (aI (rP (.bool false)) <| trivial)
   exact cvZ A14 Tryz.call14 Tryz.func14 (c:=b14) rfl (aI (qad qaO abs) (aI (qad qaD holes) trivial)) z (by kernel_rfl)
noncomputable def b59:Code:=Tryz.f59.body.getD .skip
def A59:List Nat:=[11,18]
def qf9 (name:Str) (t7:waE) (t8:Int) (t9:Int):PSt:=stt 20 [(1,.str name),(7,sl qap t7),(8,.int .i64 t8),(9,.int .i64 t9)] [] []
def qf5 (o:(Int)⊕(Unit)):Exit:=match o with
 | (.inl _) => .ret
 | (.inr _) => .exit 0
def qeG (name:Str) (t7:waE) (t8:Int) (o:(Int)⊕(Unit)):PSt:=match o with
 | (.inl o) => stt 20 [(4,.int .i64 o)] [] []
 | (.inr o) => stt 20 [] [] []
def qlf (name:Str) (t7:waE) (t8:Int) (t9:Int):Option ((Int)⊕((Int)⊕(Unit))) :=
 if (decide (t9 < t8)) = true then
  (idx t7 t9).bind fun x2 =>
  if (x2.Name == name) = true then
   some (.inr (.inl t9))
  else
   some (.inl (w64 (t9 + 1)))
 else
  some (.inr (.inr ()))
def qnN (name:Str) (t7:waE) (t8:Int) (t9:Int):Option ((Int)⊕(Unit)):=loop (fun (zz:Int) => qlf name t7 t8 zz) t9
theorem qut (name:Str) (t7:waE) (t8:Int) (t9:Int) {y:(Int)⊕((Int)⊕(Unit))} (h:qlf name t7 t8 t9 = some y) :
  Sat Pg GE 0 (cA b59 55) (LQ (fun (zz:Int) => qf9 name t7 t8 zz) qf5 (qeG name t7 t8) y) (qf9 name t7 t8 t9):=by
 rcases ifs h with ⟨c1,h⟩ | ⟨c1,h⟩
 ·obtain ⟨x2,bx2,h⟩:=bnd h
  have p4:=fun {sc F} (r:PS sc F) => sg 0 c1 <| sv (sT24.ia (k := .i64) bx2) <| sv (qxX x2) <| sx pz76 <| sx (qyj x2) <| ss <| r
  rcases ifs h with ⟨c3,h⟩ | ⟨c3,h⟩
  ·obtain rfl:=lf h
   have z:=p4 <| sg 0 c3 <| eFx 0 (qf5 (.inl t9)) (qeG name t7 t8 (.inl t9)) rfl (qbP (aI trivial trivial)) trivial
   exact qpJ (A:=A59) mixed (by intro hx; cases hx) z (by kernel_rfl)
  ·obtain rfl:=lf h
   have z:=p4 <| sg 0 c3 <| eFx 0 .normal (qf9 name t7 t8 (w64 (t9 + 1))) rfl (qbP (aI trivial (aI (up (qad qaO t7)) (aI trivial (aI trivial trivial))))) trivial
   exact qbi (A:=A59) mixed z (by kernel_rfl)
 ·obtain rfl:=lf h
  have z:=sg 0 c1 <| eF (qf5 (.inr ())) (qeG name t7 t8 (.inr ()))
  exact ovZ A59 (by intro hx; cases hx) z (by kernel_rfl)
theorem qoc (name:Str) (t7:waE) (t8:Int) (t9:Int) {x:(Int)⊕(Unit)} (h:qnN name t7 t8 t9 = some x) :
  Sat Pg GE 0 (.loop (cA b59 55)) (EX (qf5 x) (qeG name t7 t8 x)) (qf9 name t7 t8 t9) :=
 Sat.loop (S:=fun (zz:Int) => qf9 name t7 t8 zz) (ex:=qf5) (s:=t9) h fun zz y hy => qut name t7 t8 zz hy
def qkD (abs:waE) (name:Str):Option (Int) :=
 (qnN name abs (abs.length:Int) 0).bind fun o5 => match o5 with
 | (.inl o5) =>
  some o5
 | (.inr o5) =>
  some (-1)
theorem qtR {abs:waE} {name:Str} {r:Int} (h:qkD abs name = some r):CC Pg GE 59 [sl qap abs,.str name] (.int .i64 r) []:=by
 obtain ⟨o5,bo5,h⟩:=bnd h
 rcases o5 with o5 | o5
 ·obtain rfl:=lf h
  have z:=svn (sT24.ln abs) <| spc (e := .ret) (s1:=qeG name abs (abs.length:Int) (.inl o5)) (qoc name abs (abs.length:Int) 0 bo5) <| en (aI (rP (.int .i64 o5)) <| trivial)
  exact cvZ A59 Tryz.call59 Tryz.func59 (c:=b59) rfl (aI (qad qaO abs) (aI trivial trivial)) z (by kernel_rfl)
 ·obtain rfl:=lf h
  have z:=svn (sT24.ln abs) <| spc (e := .exit 0) (s1:=qeG name abs (abs.length:Int) (.inr o5)) (qoc name abs (abs.length:Int) 0 bo5) <| en (aI (rP (.int .i64 (-1))) <| trivial)
  exact cvZ A59 Tryz.call59 Tryz.func59 (c:=b59) rfl (aI (qad qaO abs) (aI trivial trivial)) z (by kernel_rfl)
noncomputable def b115:Code:=Tryz.f115.body.getD .skip
def A115:List Nat:=[19,28,46,51]
def qi6 (v:waB) (s:Str) (out:waB) (i:Int):PSt:=stt 52 [(0,sl cS v),(1,.str s),(5,sl cS out),(6,.int .i64 i)] [] [((5,0),9)]
def qnD (v:waB) (s:Str) (o:waB×Int):PSt:=stt 52 [(0,sl cS v),(1,.str s),(5,sl cS o.1),(6,.int .i64 o.2)] [] [((5,0),9)]
def qzU (v:waB) (s:Str) (out:waB) (i:Int):PSt:=stt 52 [(0,sl cS v),(1,.str s),(5,sl cS out),(6,.int .i64 i)] [] [((5,0),9)]
def qoj (v:waB) (s:Str) (out:waB) (i:Int) (o:Bool):PSt:=stt 52 [(0,sl cS v),(1,.str s),(5,sl cS out),(6,.int .i64 i),(18,.bool o)] [] [((5,0),9)]
def qjW (v:waB) (s:Str) (i:Int):Option ((Bool)) :=
 if (decide (i < (v.length:Int))) = true then
  (idx v i).bind fun x2 =>
  some (Op.bytesLess x2 s)
 else
  some false
theorem qyQ (v:waB) (s:Str) (out:waB) (i:Int) {x:(Bool)} (h:qjW v s i = some x) :
  Sat Pg GE 0 (cA b115 492) (EX .normal (qoj v s out i x)) (qzU v s out i):=by
 rcases ifs h with ⟨c1,h⟩ | ⟨c1,h⟩
 ·obtain ⟨x2,bx2,h⟩:=bnd h
  obtain rfl:=lf h
  have z:=svn (sT22.ln v) <| sg 5 c1 <| sv (sT22.ia (k := .i64) bx2) <| sv (qaR sc9 (.str x2) []) <| eF .normal (qoj v s out i (Op.bytesLess x2 s))
  exact pcZ A115 z (by kernel_rfl)
 ·obtain rfl:=lf h
  have z:=svn (sT22.ln v) <| sg 5 c1 <| eF .normal (qoj v s out i false)
  exact pcZ A115 z (by kernel_rfl)
def qjc (v:waB) (s:Str) (out:waB) (i:Int):Option ((waB×Int)⊕((waB×Int))) :=
 (qjW v s i).bind fun o3 =>
 if o3 = true then
  (idx v i).bind fun x6 =>
  (app out ([x6]:List Str)).bind fun l7 =>
  some (.inl (l7,w64 (i + 1)))
 else
  some (.inr (out,i))
def qs1 (v:waB) (s:Str) (out:waB) (i:Int):Option ((waB×Int)):=loop (fun (zz:waB×Int) => qjc v s zz.1 zz.2) (out,i)
theorem qwB (v:waB) (s:Str) (out:waB) (i:Int) {y:(waB×Int)⊕((waB×Int))} (h:qjc v s out i = some y) :
  Sat Pg GE 0 (cA b115 123) (LQ (fun (zz:waB×Int) => qi6 v s zz.1 zz.2) (fun _ => .exit 0) (qnD v s) y) (qi6 v s out i):=by
 obtain ⟨o3,bo3,h⟩:=bnd h
 have p5:=fun {sc F} (r:PS sc F) => spa 1 <| spc (qyQ v s out i bo3) <| r
 rcases ifs h with ⟨c4,h⟩ | ⟨c4,h⟩
 ·obtain ⟨x6,bx6,h⟩:=bnd h
  obtain ⟨l7,bl7,h⟩:=bnd h
  obtain rfl:=lf h
  have z:=p5 <| sg 0 c4 <| sv (sT22.ia (k := .i64) bx6) <| sv (qaR sc9 (.str x6) []) <| sv (sT22.mk' (v:=PVal.str) pcS ([x6]:List Str) 1 (by kernel_rfl)) <| sv (sT22.ap bl7) <| eF .normal (qi6 v s l7 (w64 (i + 1)))
  exact nxZ A115 z (by kernel_rfl)
 ·obtain rfl:=lf h
  have z:=p5 <| sg 0 c4 <| eF (.exit 0) (qnD v s (out,i))
  exact ovZ A115 (by intro hx; cases hx) z (by kernel_rfl)
theorem qyl (v:waB) (s:Str) (out:waB) (i:Int) {x:(waB×Int)} (h:qs1 v s out i = some x) :
  Sat Pg GE 0 (.loop (cA b115 123)) (EX (.exit 0) (qnD v s x)) (qi6 v s out i) :=
 Sat.loop (S:=fun (zz:waB×Int) => qi6 v s zz.1 zz.2) (ex:=(fun _ => .exit 0)) (s:=(out,i)) h fun zz y hy => qwB v s zz.1 zz.2 hy
def qzM (v:waB) (s:Str) (out:waB) (i:Int):PSt:=stt 52 [(0,sl cS v),(1,.str s),(5,sl cS out),(6,.int .i64 i)] [] [((5,0),9)]
def qnY (v:waB) (s:Str) (out:waB) (i:Int) (o:Int):PSt:=stt 52 [(0,sl cS v),(5,sl cS out),(6,.int .i64 o)] [] [((5,0),9)]
def qz9 (v:waB) (s:Str) (out:waB) (i:Int):PSt:=stt 52 [(0,sl cS v),(1,.str s),(5,sl cS out),(6,.int .i64 i)] [] [((5,0),9)]
def qnG (v:waB) (s:Str) (out:waB) (i:Int) (o:Bool):PSt:=stt 52 [(0,sl cS v),(5,sl cS out),(6,.int .i64 i),(43,.bool o)] [] [((5,0),9)]
def qti (v:waB) (s:Str) (i:Int):Option ((Bool)) :=
 if (decide (i < (v.length:Int))) = true then
  (idx v i).bind fun x11 =>
  some (x11 == s)
 else
  some false
theorem qym (v:waB) (s:Str) (out:waB) (i:Int) {x:(Bool)} (h:qti v s i = some x) :
  Sat Pg GE 0 (cA b115 252) (EX .normal (qnG v s out i x)) (qz9 v s out i):=by
 rcases ifs h with ⟨c10,h⟩ | ⟨c10,h⟩
 ·obtain ⟨x11,bx11,h⟩:=bnd h
  obtain rfl:=lf h
  have z:=svn (sT22.ln v) <| sg 5 c10 <| sv (sT22.ia (k := .i64) bx11) <| sv (qaR sc9 (.str x11) []) <| eF .normal (qnG v s out i (x11 == s))
  exact pcZ A115 z (by kernel_rfl)
 ·obtain rfl:=lf h
  have z:=svn (sT22.ln v) <| sg 5 c10 <| eF .normal (qnG v s out i false)
  exact pcZ A115 z (by kernel_rfl)
def qoV (v:waB) (s:Str) (i:Int):Option ((Int)) :=
 (qti v s i).bind fun o12 =>
 if o12 = true then
  some (w64 (i + 1))
 else
  some i
theorem qx9 (v:waB) (s:Str) (out:waB) (i:Int) {x:(Int)} (h:qoV v s i = some x) :
  Sat Pg GE 0 (cA b115 126) (EX .normal (qnY v s out i x)) (qzM v s out i):=by
 obtain ⟨o12,bo12,h⟩:=bnd h
 have p14:=fun {sc F} (r:PS sc F) => spa 0 <| spc (qym v s out i bo12) <| r
 rcases ifs h with ⟨c13,h⟩ | ⟨c13,h⟩
 ·obtain rfl:=lf h
  have z:=p14 <| sg 0 c13 <| eF .normal (qnY v s out i (w64 (i + 1)))
  exact pcZ A115 z (by kernel_rfl)
 ·obtain rfl:=lf h
  have z:=p14 <| sg 0 c13 <| eF .normal (qnY v s out i i)
  exact pcZ A115 z (by kernel_rfl)
def qow (a:waB) (s:Str):Option (waB) :=
 (qs1 a s ([]:List Str) 0).bind fun o8 =>
 (app o8.1 ([s]:List Str)).bind fun l9 =>
 (qoV a s o8.2).bind fun o15 =>
 (slc a (some o15) none).bind fun l16 =>
 (app l9 l16).bind fun l17 =>
 some l17
theorem qo2 {a:waB} {s:Str} {r:waB} (h:qow a s = some r):CC Pg GE 115 [sl cS a,.str s] (sl cS r) [(0,9)]:=by
 obtain ⟨o8,bo8,h⟩:=bnd h
 obtain ⟨l9,bl9,h⟩:=bnd h
 obtain ⟨o15,bo15,h⟩:=bnd h
 obtain ⟨l16,bl16,h⟩:=bnd h
 obtain ⟨l17,bl17,h⟩:=bnd h
 obtain rfl:=lf h
 have z:=spc (qyl a s ([]:List Str) 0 bo8) <| sv (sT22.mk' (v:=PVal.str) pcS ([s]:List Str) 1 (by kernel_rfl)) <| sv (sT22.ap bl9) <| spa 0 <| spc (qx9 a s l9 o8.2 bo15) <| sv (sT22.sc bl16) <| sv (sT22.ap bl17) <| en (aI (rP (sl cS l17)) <| (qad clS l17))
 exact cvZ A115 Tryz.call115 Tryz.func115 (c:=b115) rfl (aI (qad clS a) (aI trivial trivial)) z (by kernel_rfl)
noncomputable def b80:Code:=Tryz.f80.body.getD .skip
def A80:List Nat:=[12,24,32]
def qgd (v:waB) (v2:waB) (out:waB) (t9:Int) (t10:Int):PSt:=stt 33 [(0,sl cS v),(1,sl cS v2),(5,sl cS out),(9,.int .i64 t9),(10,.int .i64 t10)] [] [((5,0),9)]
def qlb (v:waB) (v2:waB) (t9:Int) (o:waB):PSt:=stt 33 [(1,sl cS v2),(5,sl cS o)] [] [((5,0),9)]
def qf8 (v:waB) (t9:Int) (out:waB) (t10:Int):Option ((waB×Int)⊕((waB))) :=
 if (decide (t10 < t9)) = true then
  (idx v t10).bind fun x2 =>
  (qow out x2).bind fun r3 =>
  some (.inl (r3,w64 (t10 + 1)))
 else
  some (.inr out)
def qi2 (v:waB) (t9:Int) (out:waB) (t10:Int):Option ((waB)):=loop (fun (zz:waB×Int) => qf8 v t9 zz.1 zz.2) (out,t10)
theorem qux (v:waB) (v2:waB) (out:waB) (t9:Int) (t10:Int) {y:(waB×Int)⊕((waB))} (h:qf8 v t9 out t10 = some y) :
  Sat Pg GE 0 (cA b80 119) (LQ (fun (zz:waB×Int) => qgd v v2 zz.1 t9 zz.2) (fun _ => .exit 0) (qlb v v2 t9) y) (qgd v v2 out t9 t10):=by
 rcases ifs h with ⟨c1,h⟩ | ⟨c1,h⟩
 ·obtain ⟨x2,bx2,h⟩:=bnd h
  obtain ⟨r3,br3,h⟩:=bnd h
  obtain rfl:=lf h
  have z:=sg 0 c1 <| sv (sT22.ia (k := .i64) bx2) <| sv (qaR sc9 (.str x2) []) <| sca (qo2 br3) <| eF .normal (qgd v v2 r3 t9 (w64 (t10 + 1)))
  exact nxZ A80 z (by kernel_rfl)
 ·obtain rfl:=lf h
  have z:=sg 0 c1 <| eF (.exit 0) (qlb v v2 t9 out)
  exact ovZ A80 (by intro hx; cases hx) z (by kernel_rfl)
theorem qvA (v:waB) (v2:waB) (out:waB) (t9:Int) (t10:Int) {x:(waB)} (h:qi2 v t9 out t10 = some x) :
  Sat Pg GE 0 (.loop (cA b80 119)) (EX (.exit 0) (qlb v v2 t9 x)) (qgd v v2 out t9 t10) :=
 Sat.loop (S:=fun (zz:waB×Int) => qgd v v2 zz.1 t9 zz.2) (ex:=(fun _ => .exit 0)) (s:=(out,t10)) h fun zz y hy => qux v v2 zz.1 t9 zz.2 hy
def qgo (v:waB) (out:waB) (t21:Int) (t22:Int):PSt:=stt 33 [(1,sl cS v),(5,sl cS out),(21,.int .i64 t21),(22,.int .i64 t22)] [] [((5,0),9)]
def qli (v:waB) (t21:Int) (o:waB):PSt:=stt 33 [(5,sl cS o)] [] [((5,0),9)]
def qbu (v:waB) (t21:Int) (out:waB) (t22:Int):Option ((waB×Int)⊕((waB))) :=
 if (decide (t22 < t21)) = true then
  (idx v t22).bind fun x6 =>
  (qow out x6).bind fun r7 =>
  some (.inl (r7,w64 (t22 + 1)))
 else
  some (.inr out)
def qiV (v:waB) (t21:Int) (out:waB) (t22:Int):Option ((waB)):=loop (fun (zz:waB×Int) => qbu v t21 zz.1 zz.2) (out,t22)
theorem qun (v:waB) (out:waB) (t21:Int) (t22:Int) {y:(waB×Int)⊕((waB))} (h:qbu v t21 out t22 = some y) :
  Sat Pg GE 0 (cA b80 247) (LQ (fun (zz:waB×Int) => qgo v zz.1 t21 zz.2) (fun _ => .exit 2) (qli v t21) y) (qgo v out t21 t22):=by
 rcases ifs h with ⟨c5,h⟩ | ⟨c5,h⟩
 ·obtain ⟨x6,bx6,h⟩:=bnd h
  obtain ⟨r7,br7,h⟩:=bnd h
  obtain rfl:=lf h
  have z:=sg 0 c5 <| sv (sT22.ia (k := .i64) bx6) <| sv (qaR sc9 (.str x6) []) <| sca (qo2 br7) <| eF .normal (qgo v r7 t21 (w64 (t22 + 1)))
  exact nxZ A80 z (by kernel_rfl)
 ·obtain rfl:=lf h
  have z:=sg 0 c5 <| eF (.exit 2) (qli v t21 out)
  exact ovZ A80 (by intro hx; cases hx) z (by kernel_rfl)
theorem qwf (v:waB) (out:waB) (t21:Int) (t22:Int) {x:(waB)} (h:qiV v t21 out t22 = some x) :
  Sat Pg GE 0 (.loop (cA b80 247)) (EX (.exit 2) (qli v t21 x)) (qgo v out t21 t22) :=
 Sat.loop (S:=fun (zz:waB×Int) => qgo v zz.1 t21 zz.2) (ex:=(fun _ => .exit 2)) (s:=(out,t22)) h fun zz y hy => qun v zz.1 t21 zz.2 hy
def qci (a:waB) (a2:waB):Option (waB) :=
 (qi2 a (a.length:Int) ([]:List Str) 0).bind fun o4 =>
 (qiV a2 (a2.length:Int) o4 0).bind fun o8 =>
 some o8
theorem qdb {a:waB} {a2:waB} {r:waB} (h:qci a a2 = some r):CC Pg GE 80 [sl cS a,sl cS a2] (sl cS r) [(0,9)]:=by
 obtain ⟨o4,bo4,h⟩:=bnd h
 obtain ⟨o8,bo8,h⟩:=bnd h
 obtain rfl:=lf h
 have z:=svn (sT22.ln a) <| spc (qvA a a2 ([]:List Str) (a.length:Int) 0 bo4) <| svn (sT22.ln a2) <| spc (qwf a2 o4 (a2.length:Int) 0 bo8) <| en (aI (rP (sl cS o8)) <| (qad clS o8))
 exact cvZ A80 Tryz.call80 Tryz.func80 (c:=b80) rfl (aI (qad clS a) (aI (qad clS a2) trivial)) z (by kernel_rfl)
noncomputable def b55:Code:=Tryz.f55.body.getD .skip
def A55:List Nat:=[13,51]
def qdV (abs:waE) (holes:waD) (out:waB) (t10:Int) (t11:Int):PSt:=stt 52 [(0,sl qap abs),(1,sl qai holes),(5,sl cS out),(9,sl qap abs),(10,.int .i64 t10),(11,.int .i64 t11)] [] [((5,0),9)]
def qj2 (abs:waE) (holes:waD) (t10:Int) (o:waB):PSt:=stt 52 [(5,sl cS o)] [] [((5,0),9)]
def qvl (abs:waE) (holes:waD) (out:waB) (i:Int) (t10:Int) (m:Str) (m2:Str):PSt:=stt 52 [(0,sl qap abs),(1,sl qai holes),(5,sl cS out),(6,.int .i64 i),(7,.bptr 0 0),(9,sl qap abs),(10,.int .i64 t10),(11,.int .i64 i)] [.cells [.str m,.str m2] []] [((5,0),9)]
def qkC (abs:waE) (holes:waD) (out:waB) (i:Int) (t10:Int) (m:Str) (m2:Str) (o:Bool):PSt:=stt 52 [(0,sl qap abs),(1,sl qai holes),(5,sl cS out),(6,.int .i64 i),(9,sl qap abs),(10,.int .i64 t10),(11,.int .i64 i),(27,.bool o)] [.cells [.str m,.str m2] []] [((5,0),9)]
def qhM (abs:waE) (holes:waD) (i:Int) (m:Str):Option ((Bool)) :=
 (qkD abs m).bind fun r3 =>
 if (r3 != i) = true then
  some true
 else
  some (decide (i ≥ (holes.length:Int)))
theorem quC (abs:waE) (holes:waD) (out:waB) (i:Int) (t10:Int) (m:Str) (m2:Str) {x:(Bool)} (h:qhM abs holes i m = some x) :
  Sat Pg GE 0 (cA b55 15340) (EX .normal (qkC abs holes out i t10 m m2 x)) (qvl abs holes out i t10 m m2):=by
 obtain ⟨r3,br3,h⟩:=bnd h
 have p5:=fun {sc F} (r:PS sc F) => ss <| sca (qtR br3) <| r
 rcases ifs h with ⟨c4,h⟩ | ⟨c4,h⟩
 ·obtain rfl:=lf h
  have z:=p5 <| sg 7 c4 <| eF .normal (qkC abs holes out i t10 m m2 true)
  exact pcZ A55 z (by kernel_rfl)
 ·obtain rfl:=lf h
  have z:=p5 <| sg 7 c4 <| svn (sT38.ln holes) <| eF .normal (qkC abs holes out i t10 m m2 (decide (i ≥ (holes.length:Int))))
  exact pcZ A55 z (by kernel_rfl)
def qfv (abs:waE) (holes:waD) (out:waB) (i:Int) (k:Int) (t10:Int) (m:Str) (m2:Str):PSt:=stt 52 [(0,sl qap abs),(1,sl qai holes),(5,sl cS out),(6,.int .i64 i),(8,.int .i64 k),(9,sl qap abs),(10,.int .i64 t10),(11,.int .i64 i)] [.cells [.str m,.str m2] []] [((5,0),9)]
def qke (abs:waE) (holes:waD) (i:Int) (t10:Int) (m:Str) (m2:Str) (o:waB):PSt:=stt 52 [(0,sl qap abs),(1,sl qai holes),(5,sl cS o),(9,sl qap abs),(10,.int .i64 t10),(11,.int .i64 i)] [.cells [.str m,.str m2] []] [((5,0),9)]
def qbS (holes:waD) (i:Int) (out:waB) (k:Int):Option ((waB×Int)⊕((waB))) :=
 (idx holes i).bind fun x9 =>
 if (decide (k < (x9.Params.length:Int))) = true then
  (idx holes i).bind fun x12 =>
  (idx x12.Params k).bind fun x13 =>
  (qci out ([x13.Name]:List Str)).bind fun r14 =>
  some (.inl (r14,w64 (k + 1)))
 else
  some (.inr out)
def qhb (holes:waD) (i:Int) (out:waB) (k:Int):Option ((waB)):=loop (fun (zz:waB×Int) => qbS holes i zz.1 zz.2) (out,k)
theorem qs6 (abs:waE) (holes:waD) (out:waB) (i:Int) (k:Int) (t10:Int) (m:Str) (m2:Str) {y:(waB×Int)⊕((waB))} (h:qbS holes i out k = some y) :
  Sat Pg GE 0 (cA b55 61375) (LQ (fun (zz:waB×Int) => qfv abs holes zz.1 i zz.2 t10 m m2) (fun _ => .exit 2) (qke abs holes i t10 m m2) y) (qfv abs holes out i k t10 m m2):=by
 obtain ⟨x9,bx9,h⟩:=bnd h
 have p11:=fun {sc F} (r:PS sc F) => sv (sT38.ia (k := .i64) bx9) <| sv (qdI x9) <| sv (qdD x9) <| svn (sT36.ln x9.Params) <| r
 rcases ifs h with ⟨c10,h⟩ | ⟨c10,h⟩
 ·obtain ⟨x12,bx12,h⟩:=bnd h
  obtain ⟨x13,bx13,h⟩:=bnd h
  obtain ⟨r14,br14,h⟩:=bnd h
  obtain rfl:=lf h
  have z:=p11 <| sg 0 c10 <| sv (sT38.ia (k := .i64) bx12) <| sv (qdI x12) <| sv (qdD x12) <| sv (sT36.ia (k := .i64) bx13) <| sv (qjd x13) <| sv (qkB x13) <| sv (sT22.mk' (v:=PVal.str) pcS ([x13.Name]:List Str) 1 (by kernel_rfl)) <| sca (qdb br14) <| eF .normal (qfv abs holes r14 i (w64 (k + 1)) t10 m m2)
  exact nxZ A55 z (by kernel_rfl)
 ·obtain rfl:=lf h
  have z:=p11 <| sg 0 c10 <| eF (.exit 2) (qke abs holes i t10 m m2 out)
  exact ovZ A55 (by intro hx; cases hx) z (by kernel_rfl)
theorem qur (abs:waE) (holes:waD) (out:waB) (i:Int) (k:Int) (t10:Int) (m:Str) (m2:Str) {x:(waB)} (h:qhb holes i out k = some x) :
  Sat Pg GE 0 (.loop (cA b55 61375)) (EX (.exit 2) (qke abs holes i t10 m m2 x)) (qfv abs holes out i k t10 m m2) :=
 Sat.loop (S:=fun (zz:waB×Int) => qfv abs holes zz.1 i zz.2 t10 m m2) (ex:=(fun _ => .exit 2)) (s:=(out,k)) h fun zz y hy => qs6 abs holes zz.1 i zz.2 t10 m m2 hy
def qoh (abs:waE) (holes:waD) (t10:Int) (out:waB) (t11:Int):Option ((waB×Int)⊕((waB))) :=
 if (decide (t11 < t10)) = true then
  (idx abs t11).bind fun x2 =>
  (qhM abs holes t11 x2.Name).bind fun o6 =>
  if o6 = true then
   some (.inl (out,w64 (t11 + 1)))
  else
   (qhb holes t11 out 1).bind fun o15 =>
   some (.inl (o15,w64 (t11 + 1)))
 else
  some (.inr out)
def qjS (abs:waE) (holes:waD) (t10:Int) (out:waB) (t11:Int):Option ((waB)):=loop (fun (zz:waB×Int) => qoh abs holes t10 zz.1 zz.2) (out,t11)
theorem qtA (abs:waE) (holes:waD) (out:waB) (t10:Int) (t11:Int) {y:(waB×Int)⊕((waB))} (h:qoh abs holes t10 out t11 = some y) :
  Sat Pg GE 0 (cA b55 119) (LQ (fun (zz:waB×Int) => qdV abs holes zz.1 t10 zz.2) (fun _ => .exit 0) (qj2 abs holes t10) y) (qdV abs holes out t10 t11):=by
 rcases ifs h with ⟨c1,h⟩ | ⟨c1,h⟩
 ·obtain ⟨x2,bx2,h⟩:=bnd h
  obtain ⟨o6,bo6,h⟩:=bnd h
  have p8:=fun {sc F} (r:PS sc F) => sg 0 c1 <| sv (sT24.ia (k := .i64) bx2) <| sv (qxX x2) <| sx pz76 <| sx (qyj x2) <| spa 1 <| spc (quC abs holes out t11 t10 x2.Name x2.Sort_ bo6) <| r
  rcases ifs h with ⟨c7,h⟩ | ⟨c7,h⟩
  ·obtain rfl:=lf h
   have z:=p8 <| sg 0 c7 <| eFx 0 .normal (qdV abs holes out t10 (w64 (t11 + 1))) rfl (qbP (aI (up (qad qaO abs)) (aI (up (qad qaD holes)) (aI (up (qad clS out)) (aI (up (qad qaO abs)) (aI trivial (aI trivial trivial))))))) trivial
   exact qbi (A:=A55) mixed z (by kernel_rfl)
  ·obtain ⟨o15,bo15,h⟩:=bnd h
   obtain rfl:=lf h
   have z:=p8 <| sg 0 c7 <| spc (qur abs holes out t11 1 t10 x2.Name x2.Sort_ bo15) <| eFx 0 .normal (qdV abs holes o15 t10 (w64 (t11 + 1))) rfl (qbP (aI (up (qad qaO abs)) (aI (up (qad qaD holes)) (aI (up (qad clS o15)) (aI (up (qad qaO abs)) (aI trivial (aI trivial trivial))))))) trivial
   exact qbi (A:=A55) mixed z (by kernel_rfl)
 ·obtain rfl:=lf h
  have z:=sg 0 c1 <| eF (.exit 0) (qj2 abs holes t10 out)
  exact ovZ A55 (by intro hx; cases hx) z (by kernel_rfl)
theorem qug (abs:waE) (holes:waD) (out:waB) (t10:Int) (t11:Int) {x:(waB)} (h:qjS abs holes t10 out t11 = some x) :
  Sat Pg GE 0 (.loop (cA b55 119)) (EX (.exit 0) (qj2 abs holes t10 x)) (qdV abs holes out t10 t11) :=
 Sat.loop (S:=fun (zz:waB×Int) => qdV abs holes zz.1 t10 zz.2) (ex:=(fun _ => .exit 0)) (s:=(out,t11)) h fun zz y hy => qtA abs holes zz.1 t10 zz.2 hy
def qpd (abs:waE) (holes:waD):Option (waB) :=
 (qjS abs holes (abs.length:Int) ([]:List Str) 0).bind fun o16 =>
 some o16
theorem qyI {abs:waE} {holes:waD} {r:waB} (h:qpd abs holes = some r):CC Pg GE 55 [sl qap abs,sl qai holes] (sl cS r) [(0,9)]:=by
 obtain ⟨o16,bo16,h⟩:=bnd h
 obtain rfl:=lf h
 have z:=svn (sT24.ln abs) <| spc (qug abs holes ([]:List Str) (abs.length:Int) 0 bo16) <| en (aI (rP (sl cS o16)) <| (qad clS o16))
 exact cvZ A55 Tryz.call55 Tryz.func55 (c:=b55) rfl (aI (qad qaO abs) (aI (qad qaD holes) trivial)) z (by kernel_rfl)
abbrev qde:=(tType→waE→waD→waB→Option (tType))
abbrev qjY (R:qde):Prop := ∀ (t:tType) (abs:waE) (holes:waD) (scope:waB) (r:tType),R t abs holes scope = some r→CC Pg GE 54 [.agg (qac t),sl qap abs,sl qai holes,sl cS scope] (.agg (qac r)) [(2,33),(8,31)]
abbrev qdg:=(tType→Option (waB))
abbrev qjX (R:qdg):Prop := ∀ (t:tType) (r:waB),R t = some r→CC Pg GE 124 [.agg (qac t)] (sl cS r) [(0,9)]
abbrev qfH:=(tPred→Option (waB))
abbrev qoU (R:qfH):Prop := ∀ (p:tPred) (r:waB),R p = some r→CC Pg GE 31 [.agg (qaa p)] (sl cS r) [(0,9)]
end Go.Proofs.YtgldgpdhblndkaaGreatDoor
