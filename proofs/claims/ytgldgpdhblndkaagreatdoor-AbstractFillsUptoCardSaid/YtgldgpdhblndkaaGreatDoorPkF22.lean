/- WHAT IS PROVED: parts of the proof, put together by a program (G13). Conditions: none. -/
import Derived.Test.YtgldgpdhblndkaaGreatDoorPkF21
noncomputable section
namespace Go.Proofs.YtgldgpdhblndkaaGreatDoor
open Go
set_option linter.unusedVariables false
set_option maxRecDepth 100000
abbrev qpP:=(tType→Option (Bool))
abbrev quV (R:qpP):Prop := ∀ (t:tType) (r:Bool),R t = some r→CC Pg GE 29 [.agg (qac t)] (.bool r) []
noncomputable def b29:Code:=Tryz.f29.body.getD .skip
def A29:List Nat:=[]
section
variable (t:tType) (t12:waA) (t13:Int) (t14:Int)
def qg7:PSt:=stt 33 [(1,.eptr (qac t)),(12,sl qaa t12),(13,.int .i64 t13),(14,.int .i64 t14)] [.dead] [((12,0),31)]
def qhG (o:(Unit)⊕(Unit)):Exit:=match o with
 | (.inl _) => .ret
 | (.inr _) => .exit 0
def qd2 (o:(Unit)⊕(Unit)):PSt:=match o with
 | (.inl o) => stt 33 [(2,.bool false)] [.dead] []
 | (.inr o) => stt 33 [(1,.eptr (qac t))] [.dead] []
def qtB:Option ((Int)⊕((Unit)⊕(Unit))) :=
 if (decide (t14 < t13)) = true then
  (idx t12 t14).bind fun x3 =>
  (qpq x3).bind fun r4 =>
  if (decide (r4 > 4)) = true then
   some (.inr (.inl ()))
  else
   some (.inl (w64 (t14 + 1)))
 else
  some (.inr (.inr ()))
def qr2:Option ((Unit)⊕(Unit)):=loop (fun (zz:Int) => qtB t12 t13 zz) t14
theorem qxU {y:(Int)⊕((Unit)⊕(Unit))} (h:qtB t12 t13 t14 = some y) :
  Sat Pg GE 0 (cA b29 55) (LQ (fun (zz:Int) => qg7 t t12 t13 zz) qhG (qd2 t) y) (qg7 t t12 t13 t14):=by
 rcases ifs h with ⟨c2,h⟩ | ⟨c2,h⟩
 ·obtain ⟨x3,bx3,h⟩:=bnd h
  obtain ⟨r4,br4,h⟩:=bnd h
  have p6:=fun {sc F} (r:PS sc F) => sg 0 c2 <| sv (sT29.ia (k := .i64) bx3) <| sv (qaj x3) <| sx pz31 <| sx (qaB x3) <| sv (qax x3 []) <| sca (qoR br4) <| r
  rcases ifs h with ⟨c5,h⟩ | ⟨c5,h⟩
  ·obtain rfl:=lf h
   have z:=p6 <| sg 0 c5 <| eFx 0 (qhG (.inl ())) (qd2 t (.inl ())) rfl (qbn (aI trivial trivial)) (aI trivial trivial)
   exact qhP (A:=A29) mixed (by intro hx; cases hx) z (by kernel_rfl)
  ·obtain rfl:=lf h
   have z:=p6 <| sg 0 c5 <| eFx 0 .normal (qg7 t t12 t13 (w64 (t14 + 1))) rfl (qbn (aI (qbw (qaf t)) (aI (up (qad qab t12)) (aI trivial (aI trivial trivial))))) (aI trivial trivial)
   exact qa5 (A:=A29) mixed z (by kernel_rfl)
 ·obtain rfl:=lf h
  have z:=sg 0 c2 <| eF (qhG (.inr ())) (qd2 t (.inr ()))
  exact ovZ A29 (by intro hx; cases hx) z (by kernel_rfl)
theorem qlD {x:(Unit)⊕(Unit)} (h:qr2 t12 t13 t14 = some x) :
  Sat Pg GE 0 (.loop (cA b29 55)) (EX (qhG x) (qd2 t x)) (qg7 t t12 t13 t14) :=
 Sat.loop (S:=fun (zz:Int) => qg7 t t12 t13 zz) (ex:=qhG) (s:=t14) h fun zz y hy => qxU t t12 t13 zz hy
end
section
variable (R132:qpP) (t23:waC) (t24:Int) (t25:Int)
def qhR:PSt:=stt 33 [(23,sl qac t23),(24,.int .i64 t24),(25,.int .i64 t25)] [.dead] []
def qhr (o:(Unit)⊕(Unit)):Exit:=match o with
 | (.inl _) => .ret
 | (.inr _) => .exit 2
def qfb (o:(Unit)⊕(Unit)):PSt:=match o with
 | (.inl o) => stt 33 [(2,.bool false)] [.dead] []
 | (.inr o) => stt 33 [] [.dead] []
def qsD:Option ((Int)⊕((Unit)⊕(Unit))) :=
 if (decide (t25 < t24)) = true then
  (idx t23 t25).bind fun x9 =>
  (R132 x9).bind fun r10 =>
  if (!r10) = true then
   some (.inr (.inl ()))
  else
   some (.inl (w64 (t25 + 1)))
 else
  some (.inr (.inr ()))
def qrD:Option ((Unit)⊕(Unit)):=loop (fun (zz:Int) => qsD R132 t23 t24 zz) t25
theorem qye (hR132:quV R132) {y:(Int)⊕((Unit)⊕(Unit))} (h:qsD R132 t23 t24 t25 = some y) :
  Sat Pg GE 0 (cA b29 119) (LQ (fun (zz:Int) => qhR t23 t24 zz) qhr (qfb) y) (qhR t23 t24 t25):=by
 rcases ifs h with ⟨c8,h⟩ | ⟨c8,h⟩
 ·obtain ⟨x9,bx9,h⟩:=bnd h
  obtain ⟨r10,br10,h⟩:=bnd h
  have p12:=fun {sc F} (r:PS sc F) => sg 0 c8 <| sv (sT27.ia (k := .i64) bx9) <| sv (qaN x9) <| sx pz33 <| sx (qbI x9) <| sv (qa3 x9 []) <| sca (hR132 _ _ br10) <| r
  rcases ifs h with ⟨c11,h⟩ | ⟨c11,h⟩
  ·obtain rfl:=lf h
   have z:=p12 <| sg 0 c11 <| eFx 0 (qhr (.inl ())) (qfb (.inl ())) rfl (qbn (aI trivial trivial)) (aI trivial trivial)
   exact qhP (A:=A29) mixed (by intro hx; cases hx) z (by kernel_rfl)
  ·obtain rfl:=lf h
   have z:=p12 <| sg 0 c11 <| eFx 0 .normal (qhR t23 t24 (w64 (t25 + 1))) rfl (qbn (aI (up (qad qaf t23)) (aI trivial (aI trivial trivial)))) (aI trivial trivial)
   exact qa5 (A:=A29) mixed z (by kernel_rfl)
 ·obtain rfl:=lf h
  have z:=sg 0 c8 <| eF (qhr (.inr ())) (qfb (.inr ()))
  exact ovZ A29 (by intro hx; cases hx) z (by kernel_rfl)
theorem qqI (hR132:quV R132) {x:(Unit)⊕(Unit)} (h:qrD R132 t23 t24 t25 = some x) :
  Sat Pg GE 0 (.loop (cA b29 119)) (EX (qhr x) (qfb x)) (qhR t23 t24 t25) :=
 Sat.loop (S:=fun (zz:Int) => qhR t23 t24 zz) (ex:=qhr) (s:=t25) h fun zz y hy => qye R132 t23 t24 zz hR132 hy
end
def qpG (R132:qpP) (t:tType):Option (Bool) :=
 (app ([t.Pred]:List tPred) t.Preds).bind fun l1 =>
 (qr2 l1 (l1.length:Int) 0).bind fun o7 => match o7 with
 | (.inl o7) =>
  some false
 | (.inr o7) =>
  (qrD R132 t.Args (t.Args.length:Int) 0).bind fun o13 => match o13 with
  | (.inl o13) =>
   some false
  | (.inr o13) =>
   some true
theorem qDs (R132:qpP) (hR132:quV R132) {t:tType} {r:Bool} (h:qpG R132 t = some r):CC Pg GE 29 [.agg (qac t)] (.bool r) []:=by
 obtain ⟨l1,bl1,h⟩:=bnd h
 obtain ⟨o7,bo7,h⟩:=bnd h
 rcases o7 with o7 | o7
 ·obtain rfl:=lf h
  have z:=se (qbj t) <| sv (qbg t) <| sv (qba t) <| sv (sT29.mk' (v:=qbk) qaL ([t.Pred]:List tPred) 1 (by kernel_rfl)) <| sv (qaQ t) <| sv (qaP t) <| sv (sT29.ap bl1) <| svn (sT29.ln l1) <| spc (e := .ret) (s1:=qd2 t (.inl o7)) (qlD t l1 (l1.length:Int) 0 bo7) <| en (aI (rP (.bool false)) <| trivial)
  exact cvZ A29 Tryz.call29 Tryz.func29 (c:=b29) rfl (aI (qaf t) trivial) z (by kernel_rfl)
 ·obtain ⟨o13,bo13,h⟩:=bnd h
  rcases o13 with o13 | o13
  ·obtain rfl:=lf h
   have z:=se (qbj t) <| sv (qbg t) <| sv (qba t) <| sv (sT29.mk' (v:=qbk) qaL ([t.Pred]:List tPred) 1 (by kernel_rfl)) <| sv (qaQ t) <| sv (qaP t) <| sv (sT29.ap bl1) <| svn (sT29.ln l1) <| spc (e := .exit 0) (s1:=qd2 t (.inr o7)) (qlD t l1 (l1.length:Int) 0 bo7) <| sv (qaq t) <| sv (qap t) <| svn (sT27.ln t.Args) <| spc (e := .ret) (s1:=qfb (.inl o13)) (qqI R132 t.Args (t.Args.length:Int) 0 hR132 bo13) <| en (aI (rP (.bool false)) <| trivial)
   exact cvZ A29 Tryz.call29 Tryz.func29 (c:=b29) rfl (aI (qaf t) trivial) z (by kernel_rfl)
  ·obtain rfl:=lf h
   have z:=se (qbj t) <| sv (qbg t) <| sv (qba t) <| sv (sT29.mk' (v:=qbk) qaL ([t.Pred]:List tPred) 1 (by kernel_rfl)) <| sv (qaQ t) <| sv (qaP t) <| sv (sT29.ap bl1) <| svn (sT29.ln l1) <| spc (e := .exit 0) (s1:=qd2 t (.inr o7)) (qlD t l1 (l1.length:Int) 0 bo7) <| sv (qaq t) <| sv (qap t) <| svn (sT27.ln t.Args) <| spc (e := .exit 2) (s1:=qfb (.inr o13)) (qqI R132 t.Args (t.Args.length:Int) 0 hR132 bo13) <| en (aI (rP (.bool true)) <| trivial)
   exact cvZ A29 Tryz.call29 Tryz.func29 (c:=b29) rfl (aI (qaf t) trivial) z (by kernel_rfl)
def quD:((tType)→Option (Bool))→(tType)→Option (Bool):=fun (rec:tType→Option (Bool)) (x:tType) => qpG (fun t => rec t) x
def qAx (t:tType):Option (Bool):=fixE (quD) t
theorem qEu {t:tType} {r:Bool} (h:qAx t = some r):CC Pg GE 29 [.agg (qac t)] (.bool r) [] :=
 qbo (F:=quD) (M:=fun (x:tType) (r:Bool) => CC Pg GE 29 [.agg (qac x)] (.bool r) []) (fun rec hrec x r h => qDs _ (fun t r h => hrec t r h) h) h
abbrev qmH:=(tType→Option (Int))
abbrev qrv (R:qmH):Prop := ∀ (t:tType) (r:Int),R t = some r→CC Pg GE 112 [.agg (qac t)] (.int .i64 r) []
noncomputable def b112:Code:=Tryz.f112.body.getD .skip
def A112:List Nat:=[]
section
variable (R135:qmH) (t7:waC) (t8:Int) (n:Int) (t9:Int)
def qfO:PSt:=stt 20 [(3,.int .i64 n),(7,sl qac t7),(8,.int .i64 t8),(9,.int .i64 t9)] [.dead] []
def qlr (o:Int):PSt:=stt 20 [(3,.int .i64 o)] [.dead] []
def qq0:Option ((Int×Int)⊕((Int))) :=
 if (decide (t9 < t8)) = true then
  (idx t7 t9).bind fun x2 =>
  (R135 x2).bind fun r3 =>
  some (.inl ((if r3 > n then r3 else n),w64 (t9 + 1)))
 else
  some (.inr n)
def qn8:Option ((Int)):=loop (fun (zz:Int×Int) => qq0 R135 t7 t8 zz.1 zz.2) (n,t9)
theorem qwd (hR135:qrv R135) {y:(Int×Int)⊕((Int))} (h:qq0 R135 t7 t8 n t9 = some y) :
  Sat Pg GE 0 (cA b112 119) (LQ (fun (zz:Int×Int) => qfO t7 t8 zz.1 zz.2) (fun _ => .exit 0) (qlr) y) (qfO t7 t8 n t9):=by
 rcases ifs h with ⟨c1,h⟩ | ⟨c1,h⟩
 ·obtain ⟨x2,bx2,h⟩:=bnd h
  obtain ⟨r3,br3,h⟩:=bnd h
  obtain rfl:=lf h
  have z:=sg 0 c1 <| sv (sT27.ia (k := .i64) bx2) <| sv (qaN x2) <| sx pz33 <| sx (qbI x2) <| sv (qa3 x2 []) <| sca (hR135 _ _ br3) <| eFx 0 .normal (qfO t7 t8 (if r3 > n then r3 else n) (w64 (t9 + 1))) rfl (qbn (aI trivial (aI (up (qad qaf t7)) (aI trivial (aI trivial trivial))))) (aI trivial trivial)
  exact qa5 (A:=A112) mixed z (by kernel_rfl)
 ·obtain rfl:=lf h
  have z:=sg 0 c1 <| eF (.exit 0) (qlr n)
  exact ovZ A112 (by intro hx; cases hx) z (by kernel_rfl)
theorem qwQ (hR135:qrv R135) {x:(Int)} (h:qn8 R135 t7 t8 n t9 = some x) :
  Sat Pg GE 0 (.loop (cA b112 119)) (EX (.exit 0) (qlr x)) (qfO t7 t8 n t9) :=
 Sat.loop (S:=fun (zz:Int×Int) => qfO t7 t8 zz.1 zz.2) (ex:=(fun _ => .exit 0)) (s:=(n,t9)) h fun zz y hy => qwd R135 t7 t8 zz.1 zz.2 hR135 hy
end
def qmF (R135:qmH) (t:tType):Option (Int) :=
 (qn8 R135 t.Args (t.Args.length:Int) 0 0).bind fun o4 =>
 some (w64 (o4 + 1))
theorem qAc (R135:qmH) (hR135:qrv R135) {t:tType} {r:Int} (h:qmF R135 t = some r):CC Pg GE 112 [.agg (qac t)] (.int .i64 r) []:=by
 obtain ⟨o4,bo4,h⟩:=bnd h
 obtain rfl:=lf h
 have z:=se (qbj t) <| sv (qaq t) <| sv (qap t) <| svn (sT27.ln t.Args) <| spc (qwQ R135 t.Args (t.Args.length:Int) 0 0 hR135 bo4) <| en (aI (rP (.int .i64 (w64 (o4 + 1)))) <| trivial)
 exact cvZ A112 Tryz.call112 Tryz.func112 (c:=b112) rfl (aI (qaf t) trivial) z (by kernel_rfl)
def qrj:((tType)→Option (Int))→(tType)→Option (Int):=fun (rec:tType→Option (Int)) (x:tType) => qmF (fun t => rec t) x
def qxT (t:tType):Option (Int):=fixE (qrj) t
theorem qCn {t:tType} {r:Int} (h:qxT t = some r):CC Pg GE 112 [.agg (qac t)] (.int .i64 r) [] :=
 qbo (F:=qrj) (M:=fun (x:tType) (r:Int) => CC Pg GE 112 [.agg (qac x)] (.int .i64 r) []) (fun rec hrec x r h => qAc _ (fun t r h => hrec t r h) h) h
abbrev qpI:=(tType→Option (Int))
abbrev quE (R:qpI):Prop := ∀ (t:tType) (r:Int),R t = some r→CC Pg GE 113 [.agg (qac t)] (.int .i64 r) []
noncomputable def b182:Code:=Tryz.f182.body.getD .skip
def A182:List Nat:=[10,15,25]
section
variable (s:Str) (t7:Int) (out:waB) (begin:Int) (t8:Int)
def qer:PSt:=stt 31 [(0,.str s),(3,sl cS out),(4,.int .i64 begin),(7,.int .i64 t7),(8,.int .i64 t8)] [] [((3,0),9)]
def qlH (o:waB×Int):PSt:=stt 31 [(0,.str s),(3,sl cS o.1),(4,.int .i64 o.2)] [] [((3,0),9)]
def qej:Option ((waB×Int×Int)⊕((waB×Int))) :=
 if (decide (t8 < t7)) = true then
  (idxS s t8).bind fun c2 =>
  if (c2 == 46) = true then
   (slc s (some begin) (some t8)).bind fun s5 =>
   (app out ([s5]:List Str)).bind fun l6 =>
   some (.inl (l6,w64 (t8 + 1),w64 (t8 + 1)))
  else
   some (.inl (out,begin,w64 (t8 + 1)))
 else
  some (.inr (out,begin))
def qoX:Option ((waB×Int)):=loop (fun (zz:waB×Int×Int) => qej s t7 zz.1 zz.2.1 zz.2.2) (out,begin,t8)
theorem qwc {y:(waB×Int×Int)⊕((waB×Int))} (h:qej s t7 out begin t8 = some y) :
  Sat Pg GE 0 (cA b182 247) (LQ (fun (zz:waB×Int×Int) => qer s t7 zz.1 zz.2.1 zz.2.2) (fun _ => .exit 0) (qlH s) y) (qer s t7 out begin t8):=by
 rcases ifs h with ⟨c1,h⟩ | ⟨c1,h⟩
 ·obtain ⟨c2,bc2,h⟩:=bnd h
  have p4:=fun {sc F} (r:PS sc F) => sg 0 c1 <| sv (qnZ (k := .i64) Tryz.underlying9 bc2) <| r
  rcases ifs h with ⟨c3,h⟩ | ⟨c3,h⟩
  ·obtain ⟨s5,bs5,h⟩:=bnd h
   obtain ⟨l6,bl6,h⟩:=bnd h
   obtain rfl:=lf h
   have z:=p4 <| sg 0 c3 <| sv (qL1 Tryz.underlying9 bs5) <| sv (sT22.mk' (v:=PVal.str) pcS ([s5]:List Str) 1 (by kernel_rfl)) <| sv (sT22.ap bl6) <| eF .normal (qer s t7 l6 (w64 (t8 + 1)) (w64 (t8 + 1)))
   exact nxZ A182 z (by kernel_rfl)
  ·obtain rfl:=lf h
   have z:=p4 <| sg 0 c3 <| eF .normal (qer s t7 out begin (w64 (t8 + 1)))
   exact nxZ A182 z (by kernel_rfl)
 ·obtain rfl:=lf h
  have z:=sg 0 c1 <| eF (.exit 0) (qlH s (out,begin))
  exact ovZ A182 (by intro hx; cases hx) z (by kernel_rfl)
theorem qwP {x:(waB×Int)} (h:qoX s t7 out begin t8 = some x) :
  Sat Pg GE 0 (.loop (cA b182 247)) (EX (.exit 0) (qlH s x)) (qer s t7 out begin t8) :=
 Sat.loop (S:=fun (zz:waB×Int×Int) => qer s t7 zz.1 zz.2.1 zz.2.2) (ex:=(fun _ => .exit 0)) (s:=(out,begin,t8)) h fun zz y hy => qwc s t7 zz.1 zz.2.1 zz.2.2 hy
end
def qtQ (s:Str):Option (waB) :=
 (qoX s (s.length:Int) ([]:List Str) 0 0).bind fun o7 =>
 (slc s (some o7.2) none).bind fun s8 =>
 (app o7.1 ([s8]:List Str)).bind fun l9 =>
 some l9
theorem qCG {s:Str} {r:waB} (h:qtQ s = some r):CC Pg GE 182 [.str s] (sl cS r) [(0,9)]:=by
 obtain ⟨o7,bo7,h⟩:=bnd h
 obtain ⟨s8,bs8,h⟩:=bnd h
 obtain ⟨l9,bl9,h⟩:=bnd h
 obtain rfl:=lf h
 have z:=svn (qoP Tryz.underlying9 s) <| spc (qwP s (s.length:Int) ([]:List Str) 0 0 bo7) <| sv (qL1 Tryz.underlying9 bs8) <| sv (sT22.mk' (v:=PVal.str) pcS ([s8]:List Str) 1 (by kernel_rfl)) <| sv (sT22.ap bl9) <| en (aI (rP (sl cS l9)) <| (qad clS l9))
 exact cvZ A182 Tryz.call182 Tryz.func182 (c:=b182) rfl (aI trivial trivial) z (by kernel_rfl)
noncomputable def b145:Code:=Tryz.f145.body.getD .skip
def A145:List Nat:=[]
def qhN (c:Int):Option (Bool) :=
 if (decide (c ≥ 97)) = true then
  some (decide (c ≤ 122))
 else
  some false
theorem qgy {c:Int} {r:Bool} (h:qhN c = some r):CC Pg GE 145 [.int .u8 c] (.bool r) []:=by
 rcases ifs h with ⟨c1,h⟩ | ⟨c1,h⟩
 ·obtain rfl:=lf h
  have z:=sg 3 c1 <| en (aI (rP (.bool (decide (c ≤ 122)))) <| trivial)
  exact cvZ A145 Tryz.call145 Tryz.func145 (c:=b145) rfl (aI trivial trivial) z (by kernel_rfl)
 ·obtain rfl:=lf h
  have z:=sg 3 c1 <| en (aI (rP (.bool false)) <| trivial)
  exact cvZ A145 Tryz.call145 Tryz.func145 (c:=b145) rfl (aI trivial trivial) z (by kernel_rfl)
noncomputable def b158:Code:=Tryz.f158.body.getD .skip
def A158:List Nat:=[]
def qvz:Option (waB) :=
 some ([([97,110,100]:Str),([97,115,115,117,109,101]:Str),([98,111,111,108]:Str),([98,111,117,110,100]:Str),([99,97,115,101]:Str),([99,101,108,108]:Str),([99,108,97,115,115]:Str),([100,97,116,97]:Str),([100,101,102]:Str),([100,105,118]:Str),([101,108,115,101]:Str),([101,110,100]:Str),([102,97,108,115,101]:Str),([102,111,114,97,108,108]:Str),([102,117,110]:Str),([103,101,116]:Str),([105,102]:Str),([105,110]:Str),([105,110,115,116]:Str),([105,110,116]:Str),([105,110,118,97,114,105,97,110,116]:Str),([108,101,116]:Str),([109,97,116,99,104]:Str),([109,101,97,115,117,114,101]:Str),([109,101,116,114,105,99]:Str),([109,111,100]:Str),([109,117]:Str),([110,101,119]:Str),([110,111,116]:Str),([111,102]:Str),([111,114]:Str),([113,117,97,108]:Str),([114,101,102,108,101,99,116]:Str),([115,101,116]:Str),([116,104,101,110]:Str),([116,114,117,101]:Str),([117,115,101]:Str),([118]:Str),([118,97,108]:Str),([116,97,103]:Str),([119,104,101,114,101]:Str),([119,105,116,104]:Str)]:List Str)
theorem qyh {r:waB} (h:qvz = some r):CC Pg GE 158 [] (sl cS r) [(0,9)]:=by
 obtain rfl:=lf h
 have z:=sv (sT22.mk' (v:=PVal.str) pcS ([([97,110,100]:Str),([97,115,115,117,109,101]:Str),([98,111,111,108]:Str),([98,111,117,110,100]:Str),([99,97,115,101]:Str),([99,101,108,108]:Str),([99,108,97,115,115]:Str),([100,97,116,97]:Str),([100,101,102]:Str),([100,105,118]:Str),([101,108,115,101]:Str),([101,110,100]:Str),([102,97,108,115,101]:Str),([102,111,114,97,108,108]:Str),([102,117,110]:Str),([103,101,116]:Str),([105,102]:Str),([105,110]:Str),([105,110,115,116]:Str),([105,110,116]:Str),([105,110,118,97,114,105,97,110,116]:Str),([108,101,116]:Str),([109,97,116,99,104]:Str),([109,101,97,115,117,114,101]:Str),([109,101,116,114,105,99]:Str),([109,111,100]:Str),([109,117]:Str),([110,101,119]:Str),([110,111,116]:Str),([111,102]:Str),([111,114]:Str),([113,117,97,108]:Str),([114,101,102,108,101,99,116]:Str),([115,101,116]:Str),([116,104,101,110]:Str),([116,114,117,101]:Str),([117,115,101]:Str),([118]:Str),([118,97,108]:Str),([116,97,103]:Str),([119,104,101,114,101]:Str),([119,105,116,104]:Str)]:List Str) 42 (by kernel_rfl)) <| en (aI (rP (sl cS ([([97,110,100]:Str),([97,115,115,117,109,101]:Str),([98,111,111,108]:Str),([98,111,117,110,100]:Str),([99,97,115,101]:Str),([99,101,108,108]:Str),([99,108,97,115,115]:Str),([100,97,116,97]:Str),([100,101,102]:Str),([100,105,118]:Str),([101,108,115,101]:Str),([101,110,100]:Str),([102,97,108,115,101]:Str),([102,111,114,97,108,108]:Str),([102,117,110]:Str),([103,101,116]:Str),([105,102]:Str),([105,110]:Str),([105,110,115,116]:Str),([105,110,116]:Str),([105,110,118,97,114,105,97,110,116]:Str),([108,101,116]:Str),([109,97,116,99,104]:Str),([109,101,97,115,117,114,101]:Str),([109,101,116,114,105,99]:Str),([109,111,100]:Str),([109,117]:Str),([110,101,119]:Str),([110,111,116]:Str),([111,102]:Str),([111,114]:Str),([113,117,97,108]:Str),([114,101,102,108,101,99,116]:Str),([115,101,116]:Str),([116,104,101,110]:Str),([116,114,117,101]:Str),([117,115,101]:Str),([118]:Str),([118,97,108]:Str),([116,97,103]:Str),([119,104,101,114,101]:Str),([119,105,116,104]:Str)]:List Str))) <| (qad clS ([([97,110,100]:Str),([97,115,115,117,109,101]:Str),([98,111,111,108]:Str),([98,111,117,110,100]:Str),([99,97,115,101]:Str),([99,101,108,108]:Str),([99,108,97,115,115]:Str),([100,97,116,97]:Str),([100,101,102]:Str),([100,105,118]:Str),([101,108,115,101]:Str),([101,110,100]:Str),([102,97,108,115,101]:Str),([102,111,114,97,108,108]:Str),([102,117,110]:Str),([103,101,116]:Str),([105,102]:Str),([105,110]:Str),([105,110,115,116]:Str),([105,110,116]:Str),([105,110,118,97,114,105,97,110,116]:Str),([108,101,116]:Str),([109,97,116,99,104]:Str),([109,101,97,115,117,114,101]:Str),([109,101,116,114,105,99]:Str),([109,111,100]:Str),([109,117]:Str),([110,101,119]:Str),([110,111,116]:Str),([111,102]:Str),([111,114]:Str),([113,117,97,108]:Str),([114,101,102,108,101,99,116]:Str),([115,101,116]:Str),([116,104,101,110]:Str),([116,114,117,101]:Str),([117,115,101]:Str),([118]:Str),([118,97,108]:Str),([116,97,103]:Str),([119,104,101,114,101]:Str),([119,105,116,104]:Str)]:List Str)))
 exact cvZ A158 Tryz.call158 Tryz.func158 (c:=b158) rfl trivial z (by kernel_rfl)
noncomputable def b146:Code:=Tryz.f146.body.getD .skip
def A146:List Nat:=[]
def qnB (s:Str):Option (Bool) :=
 (qvz).bind fun r1 =>
 (qgi r1 s).bind fun r2 =>
 some (decide (r2 ≥ 0))
theorem qyv {s:Str} {r:Bool} (h:qnB s = some r):CC Pg GE 146 [.str s] (.bool r) []:=by
 obtain ⟨r1,br1,h⟩:=bnd h
 obtain ⟨r2,br2,h⟩:=bnd h
 obtain rfl:=lf h
 have z:=sca (qyh br1) <| sca (qkd br2) <| en (aI (rP (.bool (decide (r2 ≥ 0)))) <| trivial)
 exact cvZ A146 Tryz.call146 Tryz.func146 (c:=b146) rfl (aI trivial trivial) z (by kernel_rfl)
noncomputable def b147:Code:=Tryz.f147.body.getD .skip
def A147:List Nat:=[]
def qky (c:Int):Option (Bool) :=
 if (decide (c ≥ 48)) = true then
  some (decide (c ≤ 57))
 else
  some false
theorem qkX {c:Int} {r:Bool} (h:qky c = some r):CC Pg GE 147 [.int .u8 c] (.bool r) []:=by
 rcases ifs h with ⟨c1,h⟩ | ⟨c1,h⟩
 ·obtain rfl:=lf h
  have z:=sg 3 c1 <| en (aI (rP (.bool (decide (c ≤ 57)))) <| trivial)
  exact cvZ A147 Tryz.call147 Tryz.func147 (c:=b147) rfl (aI trivial trivial) z (by kernel_rfl)
 ·obtain rfl:=lf h
  have z:=sg 3 c1 <| en (aI (rP (.bool false)) <| trivial)
  exact cvZ A147 Tryz.call147 Tryz.func147 (c:=b147) rfl (aI trivial trivial) z (by kernel_rfl)
noncomputable def b132:Code:=Tryz.f132.body.getD .skip
def A132:List Nat:=[26]
section
variable (s:Str)
def qyI:PSt:=stt 46 [(0,.str s)] [] []
def qfV (o:Bool):PSt:=stt 46 [(0,.str s),(21,.bool o)] [] []
def qpb:Option ((Bool)) :=
 if (decide ((s.length:Int) < 1)) = true then
  some true
 else
  if (decide ((s.length:Int) > 24)) = true then
   some true
  else
   (idxS s 0).bind fun c4 =>
   (qhN c4).bind fun r5 =>
   if (!r5) = true then
    some true
   else
    (qnB s).bind fun r8 =>
    some r8
theorem qxX {x:(Bool)} (h:qpb s = some x) :
  Sat Pg GE 0 (cA b132 12) (EX .normal (qfV s x)) (qyI s):=by
 rcases ifs h with ⟨c1,h⟩ | ⟨c1,h⟩
 ·obtain rfl:=lf h
  have z:=svn (qoP Tryz.underlying9 s) <| sg 4 c1 <| eF .normal (qfV s true)
  exact pcZ A132 z (by kernel_rfl)
 ·have p3:=fun {sc F} (r:PS sc F) => svn (qoP Tryz.underlying9 s) <| sg 4 c1 <| svn (qoP Tryz.underlying9 s) <| r
  rcases ifs h with ⟨c2,h⟩ | ⟨c2,h⟩
  ·obtain rfl:=lf h
   have z:=p3 <| sg 9 c2 <| eF .normal (qfV s true)
   exact pcZ A132 z (by kernel_rfl)
  ·obtain ⟨c4,bc4,h⟩:=bnd h
   obtain ⟨r5,br5,h⟩:=bnd h
   have p7:=fun {sc F} (r:PS sc F) => p3 <| sg 9 c2 <| sv (qnZ (k := .i64) Tryz.underlying9 bc4) <| sca (qgy br5) <| r
   rcases ifs h with ⟨c6,h⟩ | ⟨c6,h⟩
   ·obtain rfl:=lf h
    have z:=p7 <| sg 15 c6 <| eF .normal (qfV s true)
    exact pcZ A132 z (by kernel_rfl)
   ·obtain ⟨r8,br8,h⟩:=bnd h
    obtain rfl:=lf h
    have z:=p7 <| sg 15 c6 <| sca (qyv br8) <| eF .normal (qfV s r8)
    exact pcZ A132 z (by kernel_rfl)
end
section
variable (s:Str) (i:Int) (t23:Int)
def qyN:PSt:=stt 46 [(0,.str s),(3,.int .i64 i),(23,.int .i64 t23),(24,.int .i64 i)] [] []
def qiL (o:Bool):PSt:=stt 46 [(0,.str s),(23,.int .i64 t23),(24,.int .i64 i),(44,.bool o)] [] []
def qjd:Option ((Bool)) :=
 (idxS s i).bind fun c13 =>
 (qhN c13).bind fun r14 =>
 if (!r14) = true then
  (idxS s i).bind fun c17 =>
  (qky c17).bind fun r18 =>
  if (!r18) = true then
   (idxS s i).bind fun c21 =>
   some (c21 != 95)
  else
   some false
 else
  some false
theorem qx1 {x:(Bool)} (h:qjd s i = some x) :
  Sat Pg GE 0 (cA b132 7670) (EX .normal (qiL s i t23 x)) (qyN s i t23):=by
 obtain ⟨c13,bc13,h⟩:=bnd h
 obtain ⟨r14,br14,h⟩:=bnd h
 have p16:=fun {sc F} (r:PS sc F) => sv (qnZ (k := .i64) Tryz.underlying9 bc13) <| sca (qgy br14) <| r
 rcases ifs h with ⟨c15,h⟩ | ⟨c15,h⟩
 ·obtain ⟨c17,bc17,h⟩:=bnd h
  obtain ⟨r18,br18,h⟩:=bnd h
  have p20:=fun {sc F} (r:PS sc F) => p16 <| sg 6 c15 <| sv (qnZ (k := .i64) Tryz.underlying9 bc17) <| sca (qkX br18) <| r
  rcases ifs h with ⟨c19,h⟩ | ⟨c19,h⟩
  ·obtain ⟨c21,bc21,h⟩:=bnd h
   obtain rfl:=lf h
   have z:=p20 <| sg 13 c19 <| sv (qnZ (k := .i64) Tryz.underlying9 bc21) <| eF .normal (qiL s i t23 (c21 != 95))
   exact pcZ A132 z (by kernel_rfl)
  ·obtain rfl:=lf h
   have z:=p20 <| sg 13 c19 <| eF .normal (qiL s i t23 false)
   exact pcZ A132 z (by kernel_rfl)
 ·obtain rfl:=lf h
  have z:=p16 <| sg 6 c15 <| eF .normal (qiL s i t23 false)
  exact pcZ A132 z (by kernel_rfl)
end
section
variable (s:Str) (t23:Int) (t24:Int)
def qf5:PSt:=stt 46 [(0,.str s),(23,.int .i64 t23),(24,.int .i64 t24)] [] []
def qf8 (o:(Unit)⊕(Unit)):Exit:=match o with
 | (.inl _) => .ret
 | (.inr _) => .exit 0
def qeq (o:(Unit)⊕(Unit)):PSt:=match o with
 | (.inl o) => stt 46 [(2,.int .i64 3)] [] []
 | (.inr o) => stt 46 [] [] []
def qq4:Option ((Int)⊕((Unit)⊕(Unit))) :=
 if (decide (t24 < t23)) = true then
  (qjd s t24).bind fun o22 =>
  if o22 = true then
   some (.inr (.inl ()))
  else
   some (.inl (w64 (t24 + 1)))
 else
  some (.inr (.inr ()))
def qn7:Option ((Unit)⊕(Unit)):=loop (fun (zz:Int) => qq4 s t23 zz) t24
theorem qv5 {y:(Int)⊕((Unit)⊕(Unit))} (h:qq4 s t23 t24 = some y) :
  Sat Pg GE 0 (cA b132 119) (LQ (fun (zz:Int) => qf5 s t23 zz) qf8 (qeq) y) (qf5 s t23 t24):=by
 rcases ifs h with ⟨c12,h⟩ | ⟨c12,h⟩
 ·obtain ⟨o22,bo22,h⟩:=bnd h
  have p24:=fun {sc F} (r:PS sc F) => sg 0 c12 <| spa 2 <| spc (qx1 s t24 t23 bo22) <| r
  rcases ifs h with ⟨c23,h⟩ | ⟨c23,h⟩
  ·obtain rfl:=lf h
   have z:=p24 <| sg 0 c23 <| eF (qf8 (.inl ())) (qeq (.inl ()))
   exact ovZ A132 (by intro hx; cases hx) z (by kernel_rfl)
  ·obtain rfl:=lf h
   have z:=p24 <| sg 0 c23 <| eF .normal (qf5 s t23 (w64 (t24 + 1)))
   exact nxZ A132 z (by kernel_rfl)
 ·obtain rfl:=lf h
  have z:=sg 0 c12 <| eF (qf8 (.inr ())) (qeq (.inr ()))
  exact ovZ A132 (by intro hx; cases hx) z (by kernel_rfl)
theorem qph {x:(Unit)⊕(Unit)} (h:qn7 s t23 t24 = some x) :
  Sat Pg GE 0 (.loop (cA b132 119)) (EX (qf8 x) (qeq x)) (qf5 s t23 t24) :=
 Sat.loop (S:=fun (zz:Int) => qf5 s t23 zz) (ex:=qf8) (s:=t24) h fun zz y hy => qv5 s t23 zz hy
end
def qo2 (s:Str):Option (Int) :=
 (qpb s).bind fun o9 =>
 if o9 = true then
  some 3
 else
  (qn7 s (s.length:Int) 0).bind fun o25 => match o25 with
  | (.inl o25) =>
   some 3
  | (.inr o25) =>
   some 0
theorem qvk {s:Str} {r:Int} (h:qo2 s = some r):CC Pg GE 132 [.str s] (.int .i64 r) []:=by
 obtain ⟨o9,bo9,h⟩:=bnd h
 have p11:=fun {sc F} (r:PS sc F) => spa 2 <| spc (qxX s bo9) <| r
 rcases ifs h with ⟨c10,h⟩ | ⟨c10,h⟩
 ·obtain rfl:=lf h
  have z:=p11 <| sg 0 c10 <| en (aI (rP (.int .i64 3)) <| trivial)
  exact cvZ A132 Tryz.call132 Tryz.func132 (c:=b132) rfl (aI trivial trivial) z (by kernel_rfl)
 ·obtain ⟨o25,bo25,h⟩:=bnd h
  rcases o25 with o25 | o25
  ·obtain rfl:=lf h
   have z:=p11 <| sg 0 c10 <| svn (qoP Tryz.underlying9 s) <| spc (e := .ret) (s1:=qeq (.inl o25)) (qph s (s.length:Int) 0 bo25) <| en (aI (rP (.int .i64 3)) <| trivial)
   exact cvZ A132 Tryz.call132 Tryz.func132 (c:=b132) rfl (aI trivial trivial) z (by kernel_rfl)
  ·obtain rfl:=lf h
   have z:=p11 <| sg 0 c10 <| svn (qoP Tryz.underlying9 s) <| spc (e := .exit 0) (s1:=qeq (.inr o25)) (qph s (s.length:Int) 0 bo25) <| en (aI (rP (.int .i64 0)) <| trivial)
   exact cvZ A132 Tryz.call132 Tryz.func132 (c:=b132) rfl (aI trivial trivial) z (by kernel_rfl)
noncomputable def b201:Code:=Tryz.f201.body.getD .skip
def A201:List Nat:=[]
def qiz (c:Int):Option (Bool) :=
 if (decide (c ≥ 65)) = true then
  some (decide (c ≤ 90))
 else
  some false
theorem qlz {c:Int} {r:Bool} (h:qiz c = some r):CC Pg GE 201 [.int .u8 c] (.bool r) []:=by
 rcases ifs h with ⟨c1,h⟩ | ⟨c1,h⟩
 ·obtain rfl:=lf h
  have z:=sg 3 c1 <| en (aI (rP (.bool (decide (c ≤ 90)))) <| trivial)
  exact cvZ A201 Tryz.call201 Tryz.func201 (c:=b201) rfl (aI trivial trivial) z (by kernel_rfl)
 ·obtain rfl:=lf h
  have z:=sg 3 c1 <| en (aI (rP (.bool false)) <| trivial)
  exact cvZ A201 Tryz.call201 Tryz.func201 (c:=b201) rfl (aI trivial trivial) z (by kernel_rfl)
noncomputable def b183:Code:=Tryz.f183.body.getD .skip
def A183:List Nat:=[38]
section
variable (s:Str)
def qyQ:PSt:=stt 59 [(0,.str s)] [] []
def qc2 (o:Bool):PSt:=stt 59 [(0,.str s),(33,.bool o)] [] []
def qo5:Option ((Bool)) :=
 if (decide ((s.length:Int) < 1)) = true then
  some true
 else
  if (decide ((s.length:Int) > 24)) = true then
   some true
  else
   (idxS s 0).bind fun c4 =>
   (qiz c4).bind fun r5 =>
   if (!r5) = true then
    some true
   else
    if (s == ([73,110,116]:Str)) = true then
     some true
    else
     if (s == ([66,111,111,108]:Str)) = true then
      some true
     else
      if (s == ([67,101,108,108]:Str)) = true then
       some true
      else
       some (s == ([70,117,110]:Str))
theorem qxC {x:(Bool)} (h:qo5 s = some x) :
  Sat Pg GE 0 (cA b183 12) (EX .normal (qc2 s x)) (qyQ s):=by
 rcases ifs h with ⟨c1,h⟩ | ⟨c1,h⟩
 ·obtain rfl:=lf h
  have z:=svn (qoP Tryz.underlying9 s) <| sg 4 c1 <| eF .normal (qc2 s true)
  exact pcZ A183 z (by kernel_rfl)
 ·have p3:=fun {sc F} (r:PS sc F) => svn (qoP Tryz.underlying9 s) <| sg 4 c1 <| svn (qoP Tryz.underlying9 s) <| r
  rcases ifs h with ⟨c2,h⟩ | ⟨c2,h⟩
  ·obtain rfl:=lf h
   have z:=p3 <| sg 9 c2 <| eF .normal (qc2 s true)
   exact pcZ A183 z (by kernel_rfl)
  ·obtain ⟨c4,bc4,h⟩:=bnd h
   obtain ⟨r5,br5,h⟩:=bnd h
   have p7:=fun {sc F} (r:PS sc F) => p3 <| sg 9 c2 <| sv (qnZ (k := .i64) Tryz.underlying9 bc4) <| sca (qlz br5) <| r
   rcases ifs h with ⟨c6,h⟩ | ⟨c6,h⟩
   ·obtain rfl:=lf h
    have z:=p7 <| sg 15 c6 <| eF .normal (qc2 s true)
    exact pcZ A183 z (by kernel_rfl)
   ·have p9:=fun {sc F} (r:PS sc F) => p7 <| sg 15 c6 <| r
    rcases ifs h with ⟨c8,h⟩ | ⟨c8,h⟩
    ·obtain rfl:=lf h
     have z:=p9 <| sg 19 c8 <| eF .normal (qc2 s true)
     exact pcZ A183 z (by kernel_rfl)
    ·have p11:=fun {sc F} (r:PS sc F) => p9 <| sg 19 c8 <| r
     rcases ifs h with ⟨c10,h⟩ | ⟨c10,h⟩
     ·obtain rfl:=lf h
      have z:=p11 <| sg 23 c10 <| eF .normal (qc2 s true)
      exact pcZ A183 z (by kernel_rfl)
     ·have p13:=fun {sc F} (r:PS sc F) => p11 <| sg 23 c10 <| r
      rcases ifs h with ⟨c12,h⟩ | ⟨c12,h⟩
      ·obtain rfl:=lf h
       have z:=p13 <| sg 27 c12 <| eF .normal (qc2 s true)
       exact pcZ A183 z (by kernel_rfl)
      ·obtain rfl:=lf h
       have z:=p13 <| sg 27 c12 <| eF .normal (qc2 s (s == ([70,117,110]:Str)))
       exact pcZ A183 z (by kernel_rfl)
end
section
variable (s:Str) (i:Int) (t35:Int)
def qyE:PSt:=stt 59 [(0,.str s),(3,.int .i64 i),(35,.int .i64 t35),(36,.int .i64 i)] [] []
def qiG (o:Bool):PSt:=stt 59 [(0,.str s),(35,.int .i64 t35),(36,.int .i64 i),(57,.bool o)] [] []
def qjb:Option ((Bool)) :=
 (idxS s i).bind fun c18 =>
 (qhN c18).bind fun r19 =>
 if (!r19) = true then
  (idxS s i).bind fun c22 =>
  (qiz c22).bind fun r23 =>
  if (!r23) = true then
   (idxS s i).bind fun c26 =>
   (qky c26).bind fun r27 =>
   some (!r27)
  else
   some false
 else
  some false
theorem qxn {x:(Bool)} (h:qjb s i = some x) :
  Sat Pg GE 0 (cA b183 7670) (EX .normal (qiG s i t35 x)) (qyE s i t35):=by
 obtain ⟨c18,bc18,h⟩:=bnd h
 obtain ⟨r19,br19,h⟩:=bnd h
 have p21:=fun {sc F} (r:PS sc F) => sv (qnZ (k := .i64) Tryz.underlying9 bc18) <| sca (qgy br19) <| r
 rcases ifs h with ⟨c20,h⟩ | ⟨c20,h⟩
 ·obtain ⟨c22,bc22,h⟩:=bnd h
  obtain ⟨r23,br23,h⟩:=bnd h
  have p25:=fun {sc F} (r:PS sc F) => p21 <| sg 6 c20 <| sv (qnZ (k := .i64) Tryz.underlying9 bc22) <| sca (qlz br23) <| r
  rcases ifs h with ⟨c24,h⟩ | ⟨c24,h⟩
  ·obtain ⟨c26,bc26,h⟩:=bnd h
   obtain ⟨r27,br27,h⟩:=bnd h
   obtain rfl:=lf h
   have z:=p25 <| sg 13 c24 <| sv (qnZ (k := .i64) Tryz.underlying9 bc26) <| sca (qkX br27) <| eF .normal (qiG s i t35 (!r27))
   exact pcZ A183 z (by kernel_rfl)
  ·obtain rfl:=lf h
   have z:=p25 <| sg 13 c24 <| eF .normal (qiG s i t35 false)
   exact pcZ A183 z (by kernel_rfl)
 ·obtain rfl:=lf h
  have z:=p21 <| sg 6 c20 <| eF .normal (qiG s i t35 false)
  exact pcZ A183 z (by kernel_rfl)
end
section
variable (s:Str) (t35:Int) (t36:Int)
def qfX:PSt:=stt 59 [(0,.str s),(35,.int .i64 t35),(36,.int .i64 t36)] [] []
def qfY (o:(Unit)⊕(Unit)):Exit:=match o with
 | (.inl _) => .ret
 | (.inr _) => .exit 0
def qep (o:(Unit)⊕(Unit)):PSt:=match o with
 | (.inl o) => stt 59 [(2,.int .i64 3)] [] []
 | (.inr o) => stt 59 [] [] []
def qqD:Option ((Int)⊕((Unit)⊕(Unit))) :=
 if (decide (t36 < t35)) = true then
  (qjb s t36).bind fun o28 =>
  if o28 = true then
   some (.inr (.inl ()))
  else
   some (.inl (w64 (t36 + 1)))
 else
  some (.inr (.inr ()))
def qpk:Option ((Unit)⊕(Unit)):=loop (fun (zz:Int) => qqD s t35 zz) t36
theorem qv1 {y:(Int)⊕((Unit)⊕(Unit))} (h:qqD s t35 t36 = some y) :
  Sat Pg GE 0 (cA b183 119) (LQ (fun (zz:Int) => qfX s t35 zz) qfY (qep) y) (qfX s t35 t36):=by
 rcases ifs h with ⟨c17,h⟩ | ⟨c17,h⟩
 ·obtain ⟨o28,bo28,h⟩:=bnd h
  have p30:=fun {sc F} (r:PS sc F) => sg 0 c17 <| spa 2 <| spc (qxn s t36 t35 bo28) <| r
  rcases ifs h with ⟨c29,h⟩ | ⟨c29,h⟩
  ·obtain rfl:=lf h
   have z:=p30 <| sg 0 c29 <| eF (qfY (.inl ())) (qep (.inl ()))
   exact ovZ A183 (by intro hx; cases hx) z (by kernel_rfl)
  ·obtain rfl:=lf h
   have z:=p30 <| sg 0 c29 <| eF .normal (qfX s t35 (w64 (t36 + 1)))
   exact nxZ A183 z (by kernel_rfl)
 ·obtain rfl:=lf h
  have z:=sg 0 c17 <| eF (qfY (.inr ())) (qep (.inr ()))
  exact ovZ A183 (by intro hx; cases hx) z (by kernel_rfl)
theorem qou {x:(Unit)⊕(Unit)} (h:qpk s t35 t36 = some x) :
  Sat Pg GE 0 (.loop (cA b183 119)) (EX (qfY x) (qep x)) (qfX s t35 t36) :=
 Sat.loop (S:=fun (zz:Int) => qfX s t35 zz) (ex:=qfY) (s:=t36) h fun zz y hy => qv1 s t35 zz hy
end
def qt1 (s:Str):Option (Int) :=
 (qo5 s).bind fun o14 =>
 if o14 = true then
  some 3
 else
  (qpk s (s.length:Int) 0).bind fun o31 => match o31 with
  | (.inl o31) =>
   some 3
  | (.inr o31) =>
   some 0
theorem qCv {s:Str} {r:Int} (h:qt1 s = some r):CC Pg GE 183 [.str s] (.int .i64 r) []:=by
 obtain ⟨o14,bo14,h⟩:=bnd h
 have p16:=fun {sc F} (r:PS sc F) => spa 2 <| spc (qxC s bo14) <| r
 rcases ifs h with ⟨c15,h⟩ | ⟨c15,h⟩
 ·obtain rfl:=lf h
  have z:=p16 <| sg 0 c15 <| en (aI (rP (.int .i64 3)) <| trivial)
  exact cvZ A183 Tryz.call183 Tryz.func183 (c:=b183) rfl (aI trivial trivial) z (by kernel_rfl)
 ·obtain ⟨o31,bo31,h⟩:=bnd h
  rcases o31 with o31 | o31
  ·obtain rfl:=lf h
   have z:=p16 <| sg 0 c15 <| svn (qoP Tryz.underlying9 s) <| spc (e := .ret) (s1:=qep (.inl o31)) (qou s (s.length:Int) 0 bo31) <| en (aI (rP (.int .i64 3)) <| trivial)
   exact cvZ A183 Tryz.call183 Tryz.func183 (c:=b183) rfl (aI trivial trivial) z (by kernel_rfl)
  ·obtain rfl:=lf h
   have z:=p16 <| sg 0 c15 <| svn (qoP Tryz.underlying9 s) <| spc (e := .exit 0) (s1:=qep (.inr o31)) (qou s (s.length:Int) 0 bo31) <| en (aI (rP (.int .i64 0)) <| trivial)
   exact cvZ A183 Tryz.call183 Tryz.func183 (c:=b183) rfl (aI trivial trivial) z (by kernel_rfl)
end Go.Proofs.YtgldgpdhblndkaaGreatDoor
