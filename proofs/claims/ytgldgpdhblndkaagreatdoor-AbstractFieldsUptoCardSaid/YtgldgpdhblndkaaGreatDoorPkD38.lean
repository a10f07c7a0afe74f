/-
  WHAT IS PROVED: parts of the proof, put together by a program out of smaller texts, their own names made short (G6). Conditions: none.
-/
import Derived.Test.YtgldgpdhblndkaaGreatDoorPkD37
namespace Go.Proofs.YtgldgpdhblndkaaGreatDoor
open Go
set_option linter.unusedVariables false
set_option maxRecDepth 100000
noncomputable def b44:Code:=Tryz.f44.body.getD .skip
def A44:List Nat:=[]
noncomputable def ql0 (p:tPred):Option (Bool) :=
  (qn8).bind fun r1 =>
  (qjh p r1).bind fun r2 =>
  if r2 = true then
    some true
  else
    (qjh p (⟨0,([]:Str),0,([]:List tPred)⟩:tPred)).bind fun r4 =>
    some r4
theorem qgn {p:tPred} {r:Bool} (h:ql0 p = some r):CC Pg GE 44 [.agg (qaa p)] (.bool r) []:=by
  obtain ⟨r1,br1,h⟩:=bnd h
  obtain ⟨r2,br2,h⟩:=bnd h
  rcases ifs h with ⟨c3,h⟩ | ⟨c3,h⟩
  · obtain rfl:=lf h
    have z:=se (qat p) <| sdr [0,0,3,7,15,15,63,127,255] <| sv (qaj p) <| sca (qpd br1) <| sca (qec br2) <| sg 4 c3 <| en (aI (rP (.bool true)) <| trivial)
    exact C.evp (A:=A44) mixed Tryz.call44 Tryz.func44 (c:=b44) rfl (aI (qab p) trivial) z (by kernel_rfl)
  · obtain ⟨r4,br4,h⟩:=bnd h
    obtain rfl:=lf h
    have z:=se (qat p) <| sdr [0,0,3,7,15,15,63,127,255] <| sv (qaj p) <| sca (qpd br1) <| sca (qec br2) <| sg 4 c3 <| sv (qaj p) <| sb (qn1 ) (qn4 ) <| sca (qec br4) <| en (aI (rP (.bool r4)) <| trivial)
    exact C.evp (A:=A44) mixed Tryz.call44 Tryz.func44 (c:=b44) rfl (aI (qab p) trivial) z (by kernel_rfl)
noncomputable def b48:Code:=Tryz.f48.body.getD .skip
def A48:List Nat:=[]
noncomputable def qoj (a:tPred) (a2:tPred):Option (Bool) :=
  (ql0 a).bind fun r1 =>
  if r1 = true then
    (ql0 a2).bind fun r3 =>
    if r3 = true then
      some true
    else
      (qjh a a2).bind fun r5 =>
      some r5
  else
    (qjh a a2).bind fun r6 =>
    some r6
theorem qpl {a:tPred} {a2:tPred} {r:Bool} (h:qoj a a2 = some r):CC Pg GE 48 [.agg (qaa a),.agg (qaa a2)] (.bool r) []:=by
  obtain ⟨r1,br1,h⟩:=bnd h
  rcases ifs h with ⟨c2,h⟩ | ⟨c2,h⟩
  · obtain ⟨r3,br3,h⟩:=bnd h
    rcases ifs h with ⟨c4,h⟩ | ⟨c4,h⟩
    · obtain rfl:=lf h
      have z:=se (qat a) <| se (qat a2) <| sv (qaj a) <| sca (qgn br1) <| sg 3 c2 <| sv (qaj a2) <| sca (qgn br3) <| sg 7 c4 <| en (aI (rP (.bool true)) <| trivial)
      exact C.evp (A:=A48) mixed Tryz.call48 Tryz.func48 (c:=b48) rfl (aI (qab a) (aI (qab a2) trivial)) z (by kernel_rfl)
    · obtain ⟨r5,br5,h⟩:=bnd h
      obtain rfl:=lf h
      have z:=se (qat a) <| se (qat a2) <| sv (qaj a) <| sca (qgn br1) <| sg 3 c2 <| sv (qaj a2) <| sca (qgn br3) <| sg 7 c4 <| sv (qaj a) <| sv (qaj a2) <| sca (qec br5) <| en (aI (rP (.bool r5)) <| trivial)
      exact C.evp (A:=A48) mixed Tryz.call48 Tryz.func48 (c:=b48) rfl (aI (qab a) (aI (qab a2) trivial)) z (by kernel_rfl)
  · obtain ⟨r6,br6,h⟩:=bnd h
    obtain rfl:=lf h
    have z:=se (qat a) <| se (qat a2) <| sv (qaj a) <| sca (qgn br1) <| sg 3 c2 <| sv (qaj a) <| sv (qaj a2) <| sca (qec br6) <| en (aI (rP (.bool r6)) <| trivial)
    exact C.evp (A:=A48) mixed Tryz.call48 Tryz.func48 (c:=b48) rfl (aI (qab a) (aI (qab a2) trivial)) z (by kernel_rfl)
noncomputable def b15:Code:=Tryz.f15.body.getD .skip
def A15:List Nat:=[58,77]
noncomputable def quR (v:tType) (v2:tType):PSt:=stt 91 [(2,.eptr (qac v)),(3,.eptr (qac v2))] [.dead,.dead] []
noncomputable def qeq (v:tType) (v2:tType) (o:Bool):PSt:=stt 91 [(2,.eptr (qac v)),(3,.eptr (qac v2)),(52,.bool o)] [.dead,.dead] []
noncomputable def qpX (R65:qdl) (v:tType) (v2:tType):Option ((Bool)) :=
  if (v.Op != v2.Op) = true then
    some true
  else
    if (!(v.Name == v2.Name)) = true then
      some true
    else
      if ((v.Args.length:Int) != (v2.Args.length:Int)) = true then
        some true
      else
        if ((v.Preds.length:Int) != (v2.Preds.length:Int)) = true then
          some true
        else
          (qsy v.Names v2.Names).bind fun r5 =>
          if (!r5) = true then
            some true
          else
            (qoj v.Pred v2.Pred).bind fun r7 =>
            some (!r7)
theorem qif (R65:qdl) (hR65:qjo R65) (v:tType) (v2:tType) {x:(Bool)} (h:qpX R65 v v2 = some x) :
    Sat Pg GE 0 (cA b15 12) (EX .normal (qeq v v2 x)) (quR v v2):=by
  rcases ifs h with ⟨c1,h⟩ | ⟨c1,h⟩
  · obtain rfl:=lf h
    have z:=sv (qaJ v) <| sv (qaH v) <| sv (qaJ v2) <| sv (qaH v2) <| sg 6 c1 <| eF .normal (qeq v v2 true)
    exact qaR (A:=A15) mixed z (by kernel_rfl)
  · rcases ifs h with ⟨c2,h⟩ | ⟨c2,h⟩
    · obtain rfl:=lf h
      have z:=sv (qaJ v) <| sv (qaH v) <| sv (qaJ v2) <| sv (qaH v2) <| sg 6 c1 <| sv (qbp v) <| sv (qbu v) <| sv (qbp v2) <| sv (qbu v2) <| sg 13 c2 <| eF .normal (qeq v v2 true)
      exact qaR (A:=A15) mixed z (by kernel_rfl)
    · rcases ifs h with ⟨c3,h⟩ | ⟨c3,h⟩
      · obtain rfl:=lf h
        have z:=sv (qaJ v) <| sv (qaH v) <| sv (qaJ v2) <| sv (qaH v2) <| sg 6 c1 <| sv (qbp v) <| sv (qbu v) <| sv (qbp v2) <| sv (qbu v2) <| sg 13 c2 <| sv (qaG v) <| sv (qaI v) <| svn (sT27.ln v.Args) <| sv (qaG v2) <| sv (qaI v2) <| svn (sT27.ln v2.Args) <| sg 22 c3 <| eF .normal (qeq v v2 true)
        exact qaR (A:=A15) mixed z (by kernel_rfl)
      · rcases ifs h with ⟨c4,h⟩ | ⟨c4,h⟩
        · obtain rfl:=lf h
          have z:=sv (qaJ v) <| sv (qaH v) <| sv (qaJ v2) <| sv (qaH v2) <| sg 6 c1 <| sv (qbp v) <| sv (qbu v) <| sv (qbp v2) <| sv (qbu v2) <| sg 13 c2 <| sv (qaG v) <| sv (qaI v) <| svn (sT27.ln v.Args) <| sv (qaG v2) <| sv (qaI v2) <| svn (sT27.ln v2.Args) <| sg 22 c3 <| sv (qaV v) <| sv (qaT v) <| svn (sT29.ln v.Preds) <| sv (qaV v2) <| sv (qaT v2) <| svn (sT29.ln v2.Preds) <| sg 31 c4 <| eF .normal (qeq v v2 true)
          exact qaR (A:=A15) mixed z (by kernel_rfl)
        · obtain ⟨r5,br5,h⟩:=bnd h
          rcases ifs h with ⟨c6,h⟩ | ⟨c6,h⟩
          · obtain rfl:=lf h
            have z:=sv (qaJ v) <| sv (qaH v) <| sv (qaJ v2) <| sv (qaH v2) <| sg 6 c1 <| sv (qbp v) <| sv (qbu v) <| sv (qbp v2) <| sv (qbu v2) <| sg 13 c2 <| sv (qaG v) <| sv (qaI v) <| svn (sT27.ln v.Args) <| sv (qaG v2) <| sv (qaI v2) <| svn (sT27.ln v2.Args) <| sg 22 c3 <| sv (qaV v) <| sv (qaT v) <| svn (sT29.ln v.Preds) <| sv (qaV v2) <| sv (qaT v2) <| svn (sT29.ln v2.Preds) <| sg 31 c4 <| sv (qaM v) <| sv (qaN v) <| sv (qaM v2) <| sv (qaN v2) <| sca (qsW br5) <| sg 39 c6 <| eF .normal (qeq v v2 true)
            exact qaR (A:=A15) mixed z (by kernel_rfl)
          · obtain ⟨r7,br7,h⟩:=bnd h
            obtain rfl:=lf h
            have z:=sv (qaJ v) <| sv (qaH v) <| sv (qaJ v2) <| sv (qaH v2) <| sg 6 c1 <| sv (qbp v) <| sv (qbu v) <| sv (qbp v2) <| sv (qbu v2) <| sg 13 c2 <| sv (qaG v) <| sv (qaI v) <| svn (sT27.ln v.Args) <| sv (qaG v2) <| sv (qaI v2) <| svn (sT27.ln v2.Args) <| sg 22 c3 <| sv (qaV v) <| sv (qaT v) <| svn (sT29.ln v.Preds) <| sv (qaV v2) <| sv (qaT v2) <| svn (sT29.ln v2.Preds) <| sg 31 c4 <| sv (qaM v) <| sv (qaN v) <| sv (qaM v2) <| sv (qaN v2) <| sca (qsW br5) <| sg 39 c6 <| sv (qcJ v) <| sv (qcK v) <| sv (qcJ v2) <| sv (qcK v2) <| sca (qpl br7) <| eF .normal (qeq v v2 (!r7))
            exact qaR (A:=A15) mixed z (by kernel_rfl)
noncomputable def qg1 (v:tType) (v2:tType) (t55:Int) (t56:Int):PSt:=stt 91 [(2,.eptr (qac v)),(3,.eptr (qac v2)),(55,.int .i64 t55),(56,.int .i64 t56)] [.dead,.dead] []
noncomputable def qhm (o:(Unit)⊕(Unit)):Exit:=match o with
  | (.inl _) => .ret
  | (.inr _) => .exit 0
noncomputable def qes (v:tType) (v2:tType) (t55:Int) (o:(Unit)⊕(Unit)):PSt:=match o with
  | (.inl o) => stt 91 [(4,.bool false)] [.dead,.dead] []
  | (.inr o) => stt 91 [(2,.eptr (qac v)),(3,.eptr (qac v2))] [.dead,.dead] []
noncomputable def qmc (R65:qdl) (v:tType) (v2:tType) (t55:Int) (t56:Int):Option ((Int)⊕((Unit)⊕(Unit))) :=
  if (decide (t56 < t55)) = true then
    (idx v.Preds t56).bind fun x11 =>
    (idx v2.Preds t56).bind fun x12 =>
    (qoj x11 x12).bind fun r13 =>
    if (!r13) = true then
      some (.inr (.inl ()))
    else
      some (.inl (w64 (t56 + 1)))
  else
    some (.inr (.inr ()))
noncomputable def qpL (R65:qdl) (v:tType) (v2:tType) (t55:Int) (t56:Int):Option ((Unit)⊕(Unit)):=loop (fun (zz:Int) => qmc R65 v v2 t55 zz) t56
theorem qto (R65:qdl) (hR65:qjo R65) (v:tType) (v2:tType) (t55:Int) (t56:Int) {y:(Int)⊕((Unit)⊕(Unit))} (h:qmc R65 v v2 t55 t56 = some y) :
    Sat Pg GE 0 (cA b15 119) (LQ (fun (zz:Int) => qg1 v v2 t55 zz) qhm (qes v v2 t55) y) (qg1 v v2 t55 t56):=by
  rcases ifs h with ⟨c10,h⟩ | ⟨c10,h⟩
  · obtain ⟨x11,bx11,h⟩:=bnd h
    obtain ⟨x12,bx12,h⟩:=bnd h
    obtain ⟨r13,br13,h⟩:=bnd h
    rcases ifs h with ⟨c14,h⟩ | ⟨c14,h⟩
    · obtain rfl:=lf h
      have z:=sg 0 c10 <| sdr [0,1,0,7,15,0,32,0,224,480,1023,2047] <| sv (qaV v) <| sv (qaT v) <| sv (sT29.ia (k := .i64) bx11) <| sv (qaj x11) <| sv (qaV v2) <| sv (qaT v2) <| sv (sT29.ia (k := .i64) bx12) <| sv (qaj x12) <| sca (qpl br13) <| sg 0 c14 <| eF (qhm (.inl ())) (qes v v2 t55 (.inl ()))
      exact qbE (A:=A15) mixed (by intro hx; cases hx) z (by kernel_rfl)
    · obtain rfl:=lf h
      have z:=sg 0 c10 <| sdr [0,1,0,7,15,0,32,0,224,480,1023,2047] <| sv (qaV v) <| sv (qaT v) <| sv (sT29.ia (k := .i64) bx11) <| sv (qaj x11) <| sv (qaV v2) <| sv (qaT v2) <| sv (sT29.ia (k := .i64) bx12) <| sv (qaj x12) <| sca (qpl br13) <| sg 0 c14 <| eF .normal (qg1 v v2 t55 (w64 (t56 + 1)))
      exact qjk (A:=A15) mixed z (by kernel_rfl)
  · obtain rfl:=lf h
    have z:=sg 0 c10 <| eF (qhm (.inr ())) (qes v v2 t55 (.inr ()))
    exact qbE (A:=A15) mixed (by intro hx; cases hx) z (by kernel_rfl)
theorem qkS (R65:qdl) (hR65:qjo R65) (v:tType) (v2:tType) (t55:Int) (t56:Int) {x:(Unit)⊕(Unit)} (h:qpL R65 v v2 t55 t56 = some x) :
    Sat Pg GE 0 (.loop (cA b15 119)) (EX (qhm x) (qes v v2 t55 x)) (qg1 v v2 t55 t56) :=
  Sat.loop (S:=fun (zz:Int) => qg1 v v2 t55 zz) (ex:=qhm) (s:=t56) h fun zz y hy => qto R65 hR65 v v2 t55 zz hy
noncomputable def qg0 (v:tType) (v2:tType) (t74:Int) (t75:Int):PSt:=stt 91 [(2,.eptr (qac v)),(3,.eptr (qac v2)),(74,.int .i64 t74),(75,.int .i64 t75)] [.dead,.dead] []
noncomputable def qhv (o:(Unit)⊕(Unit)):Exit:=match o with
  | (.inl _) => .ret
  | (.inr _) => .exit 2
noncomputable def qfo (v:tType) (v2:tType) (t74:Int) (o:(Unit)⊕(Unit)):PSt:=match o with
  | (.inl o) => stt 91 [(4,.bool false)] [.dead,.dead] []
  | (.inr o) => stt 91 [] [.dead,.dead] []
noncomputable def qlI (R65:qdl) (v:tType) (v2:tType) (t74:Int) (t75:Int):Option ((Int)⊕((Unit)⊕(Unit))) :=
  if (decide (t75 < t74)) = true then
    (idx v.Args t75).bind fun x17 =>
    (idx v2.Args t75).bind fun x18 =>
    (R65 x17 x18).bind fun r19 =>
    if (!r19) = true then
      some (.inr (.inl ()))
    else
      some (.inl (w64 (t75 + 1)))
  else
    some (.inr (.inr ()))
noncomputable def qpr (R65:qdl) (v:tType) (v2:tType) (t74:Int) (t75:Int):Option ((Unit)⊕(Unit)):=loop (fun (zz:Int) => qlI R65 v v2 t74 zz) t75
theorem qti (R65:qdl) (hR65:qjo R65) (v:tType) (v2:tType) (t74:Int) (t75:Int) {y:(Int)⊕((Unit)⊕(Unit))} (h:qlI R65 v v2 t74 t75 = some y) :
    Sat Pg GE 0 (cA b15 247) (LQ (fun (zz:Int) => qg0 v v2 t74 zz) qhv (qfo v v2 t74) y) (qg0 v v2 t74 t75):=by
  rcases ifs h with ⟨c16,h⟩ | ⟨c16,h⟩
  · obtain ⟨x17,bx17,h⟩:=bnd h
    obtain ⟨x18,bx18,h⟩:=bnd h
    obtain ⟨r19,br19,h⟩:=bnd h
    rcases ifs h with ⟨c20,h⟩ | ⟨c20,h⟩
    · obtain rfl:=lf h
      have z:=sg 0 c16 <| sdr [0,1,0,7,15,0,32,0,224,480,1023,2047] <| sv (qaG v) <| sv (qaI v) <| sv (sT27.ia (k := .i64) bx17) <| sv (qaZ x17) <| sv (qaG v2) <| sv (qaI v2) <| sv (sT27.ia (k := .i64) bx18) <| sv (qaZ x18) <| sca (hR65 _ _ _ br19) <| sg 0 c20 <| eF (qhv (.inl ())) (qfo v v2 t74 (.inl ()))
      exact qbE (A:=A15) mixed (by intro hx; cases hx) z (by kernel_rfl)
    · obtain rfl:=lf h
      have z:=sg 0 c16 <| sdr [0,1,0,7,15,0,32,0,224,480,1023,2047] <| sv (qaG v) <| sv (qaI v) <| sv (sT27.ia (k := .i64) bx17) <| sv (qaZ x17) <| sv (qaG v2) <| sv (qaI v2) <| sv (sT27.ia (k := .i64) bx18) <| sv (qaZ x18) <| sca (hR65 _ _ _ br19) <| sg 0 c20 <| eF .normal (qg0 v v2 t74 (w64 (t75 + 1)))
      exact qjk (A:=A15) mixed z (by kernel_rfl)
  · obtain rfl:=lf h
    have z:=sg 0 c16 <| eF (qhv (.inr ())) (qfo v v2 t74 (.inr ()))
    exact qbE (A:=A15) mixed (by intro hx; cases hx) z (by kernel_rfl)
theorem qoY (R65:qdl) (hR65:qjo R65) (v:tType) (v2:tType) (t74:Int) (t75:Int) {x:(Unit)⊕(Unit)} (h:qpr R65 v v2 t74 t75 = some x) :
    Sat Pg GE 0 (.loop (cA b15 247)) (EX (qhv x) (qfo v v2 t74 x)) (qg0 v v2 t74 t75) :=
  Sat.loop (S:=fun (zz:Int) => qg0 v v2 t74 zz) (ex:=qhv) (s:=t75) h fun zz y hy => qti R65 hR65 v v2 t74 zz hy
noncomputable def qn7 (R65:qdl) (a:tType) (a2:tType):Option (Bool) :=
  (qpX R65 a a2).bind fun o8 =>
  if o8 = true then
    some false
  else
    (qpL R65 a a2 (a.Preds.length:Int) 0).bind fun o15 => match o15 with
    | (.inl o15) =>
      some false
    | (.inr o15) =>
      (qpr R65 a a2 (a.Args.length:Int) 0).bind fun o21 => match o21 with
      | (.inl o21) =>
        some false
      | (.inr o21) =>
        some true
theorem qvK (R65:qdl) (hR65:qjo R65) {a:tType} {a2:tType} {r:Bool} (h:qn7 R65 a a2 = some r):CC Pg GE 15 [.agg (qac a),.agg (qac a2)] (.bool r) []:=by
  obtain ⟨o8,bo8,h⟩:=bnd h
  rcases ifs h with ⟨c9,h⟩ | ⟨c9,h⟩
  · obtain rfl:=lf h
    have z:=se (qbX a) <| se (qbX a2) <| spa 1 <| spc (qif R65 hR65 a a2 bo8) <| sg 0 c9 <| en (aI (rP (.bool false)) <| trivial)
    exact C.evp (A:=A15) mixed Tryz.call15 Tryz.func15 (c:=b15) rfl (aI (qag a) (aI (qag a2) trivial)) z (by kernel_rfl)
  · obtain ⟨o15,bo15,h⟩:=bnd h
    rcases o15 with o15 | o15
    · obtain rfl:=lf h
      have z:=se (qbX a) <| se (qbX a2) <| spa 1 <| spc (qif R65 hR65 a a2 bo8) <| sg 0 c9 <| sv (qaV a) <| sv (qaT a) <| svn (sT29.ln a.Preds) <| spc (e := .ret) (s1:=qes a a2 (a.Preds.length:Int) (.inl o15)) (qkS R65 hR65 a a2 (a.Preds.length:Int) 0 bo15) <| en (aI (rP (.bool false)) <| trivial)
      exact C.evp (A:=A15) mixed Tryz.call15 Tryz.func15 (c:=b15) rfl (aI (qag a) (aI (qag a2) trivial)) z (by kernel_rfl)
    · obtain ⟨o21,bo21,h⟩:=bnd h
      rcases o21 with o21 | o21
      · obtain rfl:=lf h
        have z:=se (qbX a) <| se (qbX a2) <| spa 1 <| spc (qif R65 hR65 a a2 bo8) <| sg 0 c9 <| sv (qaV a) <| sv (qaT a) <| svn (sT29.ln a.Preds) <| spc (e := .exit 0) (s1:=qes a a2 (a.Preds.length:Int) (.inr o15)) (qkS R65 hR65 a a2 (a.Preds.length:Int) 0 bo15) <| sv (qaG a) <| sv (qaI a) <| svn (sT27.ln a.Args) <| spc (e := .ret) (s1:=qfo a a2 (a.Args.length:Int) (.inl o21)) (qoY R65 hR65 a a2 (a.Args.length:Int) 0 bo21) <| en (aI (rP (.bool false)) <| trivial)
        exact C.evp (A:=A15) mixed Tryz.call15 Tryz.func15 (c:=b15) rfl (aI (qag a) (aI (qag a2) trivial)) z (by kernel_rfl)
      · obtain rfl:=lf h
        have z:=se (qbX a) <| se (qbX a2) <| spa 1 <| spc (qif R65 hR65 a a2 bo8) <| sg 0 c9 <| sv (qaV a) <| sv (qaT a) <| svn (sT29.ln a.Preds) <| spc (e := .exit 0) (s1:=qes a a2 (a.Preds.length:Int) (.inr o15)) (qkS R65 hR65 a a2 (a.Preds.length:Int) 0 bo15) <| sv (qaG a) <| sv (qaI a) <| svn (sT27.ln a.Args) <| spc (e := .exit 2) (s1:=qfo a a2 (a.Args.length:Int) (.inr o21)) (qoY R65 hR65 a a2 (a.Args.length:Int) 0 bo21) <| en (aI (rP (.bool true)) <| trivial)
        exact C.evp (A:=A15) mixed Tryz.call15 Tryz.func15 (c:=b15) rfl (aI (qag a) (aI (qag a2) trivial)) z (by kernel_rfl)
noncomputable def qrE:((tType×tType)→Option (Bool))→(tType×tType)→Option (Bool):=fun (rec:(tType×tType)→Option (Bool)) (x:tType×tType) => qn7 (fun a a2 => rec (a,a2)) x.1 x.2
noncomputable def qmj (a:tType) (a2:tType):Option (Bool):=fixE (qrE) (a,a2)
theorem qc2 {a:tType} {a2:tType} {r:Bool} (h:qmj a a2 = some r):CC Pg GE 15 [.agg (qac a),.agg (qac a2)] (.bool r) [] :=
  qcs (F:=qrE) (M:=fun (x:tType×tType) (r:Bool) => CC Pg GE 15 [.agg (qac x.1),.agg (qac x.2)] (.bool r) []) (fun rec hrec x r h => qvK _ (fun a a2 r h => hrec (a,a2) r h) h) h
abbrev qiy:=(tPred→Option ((List tPred)))
abbrev qsb (R:qiy):Prop := ∀ (p:tPred) (r:(List tPred)),R p = some r→CC Pg GE 68 [.agg (qaa p)] (sl qaa r) [(0,31)]
noncomputable def b109:Code:=Tryz.f109.body.getD .skip
def A109:List Nat:=[]
noncomputable def qg5 (is:Bool):Option (tPred) :=
  if is = true then
    some (⟨2,([]:Str),1,([]:List tPred)⟩:tPred)
  else
    some (⟨2,([]:Str),0,([]:List tPred)⟩:tPred)
theorem qc1 {is:Bool} {r:tPred} (h:qg5 is = some r):CC Pg GE 109 [.bool is] (.agg (qaa r)) [(3,31)]:=by
  rcases ifs h with ⟨c1,h⟩ | ⟨c1,h⟩
  · obtain rfl:=lf h
    have z:=sx pz31 <| sg 0 c1 <| sb (qnp 2 1) (qnW 2 1) <| sy (qam (⟨2,([]:Str),1,([]:List tPred)⟩:tPred)) <| en (aI (qa4 (⟨2,([]:Str),1,([]:List tPred)⟩:tPred)) <| aI (qab (⟨2,([]:Str),1,([]:List tPred)⟩:tPred)) <| rT)
    exact C.evp (A:=A109) mixed Tryz.call109 Tryz.func109 (c:=b109) rfl (aI trivial trivial) z (by kernel_rfl)
  · obtain rfl:=lf h
    have z:=sx pz31 <| sg 0 c1 <| sb (qh4 2) (qhY 2) <| sy (qam (⟨2,([]:Str),0,([]:List tPred)⟩:tPred)) <| en (aI (qa4 (⟨2,([]:Str),0,([]:List tPred)⟩:tPred)) <| aI (qab (⟨2,([]:Str),0,([]:List tPred)⟩:tPred)) <| rT)
    exact C.evp (A:=A109) mixed Tryz.call109 Tryz.func109 (c:=b109) rfl (aI trivial trivial) z (by kernel_rfl)
noncomputable def b104:Code:=Tryz.f104.body.getD .skip
def A104:List Nat:=[]
noncomputable def qtG (p:tPred):Option (Bool) :=
  (qix p (⟨0,([]:Str),0,([]:List tPred)⟩:tPred)).bind fun r1 =>
  if r1 = true then
    some true
  else
    (qg5 true).bind fun r3 =>
    (qix p r3).bind fun r4 =>
    some r4
theorem qgy {p:tPred} {r:Bool} (h:qtG p = some r):CC Pg GE 104 [.agg (qaa p)] (.bool r) []:=by
  obtain ⟨r1,br1,h⟩:=bnd h
  rcases ifs h with ⟨c2,h⟩ | ⟨c2,h⟩
  · obtain rfl:=lf h
    have z:=se (qat p) <| sdr [0,0,3,7,15,15,63,127,255] <| sv (qaj p) <| sb (qn1 ) (qn4 ) <| sca (qdy br1) <| sg 4 c2 <| en (aI (rP (.bool true)) <| trivial)
    exact C.evp (A:=A104) mixed Tryz.call104 Tryz.func104 (c:=b104) rfl (aI (qab p) trivial) z (by kernel_rfl)
  · obtain ⟨r3,br3,h⟩:=bnd h
    obtain ⟨r4,br4,h⟩:=bnd h
    obtain rfl:=lf h
    have z:=se (qat p) <| sdr [0,0,3,7,15,15,63,127,255] <| sv (qaj p) <| sb (qn1 ) (qn4 ) <| sca (qdy br1) <| sg 4 c2 <| sv (qaj p) <| sca (qc1 br3) <| sca (qdy br4) <| en (aI (rP (.bool r4)) <| trivial)
    exact C.evp (A:=A104) mixed Tryz.call104 Tryz.func104 (c:=b104) rfl (aI (qab p) trivial) z (by kernel_rfl)
noncomputable def b68:Code:=Tryz.f68.body.getD .skip
def A68:List Nat:=[]
noncomputable def qta (p:tPred):PSt:=stt 28 [(1,.eptr (qaa p))] [.dead] []
noncomputable def qjA (p:tPred) (o:Bool):PSt:=stt 28 [(1,.eptr (qaa p)),(11,.bool o)] [.dead] []
noncomputable def qpZ (R72:qiy) (p:tPred):Option ((Bool)) :=
  if (p.Op == 15) = true then
    some ((p.Kids.length:Int) == 2)
  else
    some false
theorem qiX (R72:qiy) (hR72:qsb R72) (p:tPred) {x:(Bool)} (h:qpZ R72 p = some x) :
    Sat Pg GE 0 (cA b68 12) (EX .normal (qjA p x)) (qta p):=by
  rcases ifs h with ⟨c1,h⟩ | ⟨c1,h⟩
  · obtain rfl:=lf h
    have z:=sv (qal p) <| sv (qak p) <| sg 4 c1 <| sv (qas p) <| sv (qar p) <| svn (sT29.ln p.Kids) <| eF .normal (qjA p ((p.Kids.length:Int) == 2))
    exact qaR (A:=A68) mixed z (by kernel_rfl)
  · obtain rfl:=lf h
    have z:=sv (qal p) <| sv (qak p) <| sg 4 c1 <| eF .normal (qjA p false)
    exact qaR (A:=A68) mixed z (by kernel_rfl)
noncomputable def qrO (R72:qiy) (p:tPred):Option ((List tPred)) :=
  (qpZ R72 p).bind fun o2 =>
  if o2 = true then
    (idx p.Kids 0).bind fun x4 =>
    (R72 x4).bind fun r5 =>
    (idx p.Kids 1).bind fun x6 =>
    (R72 x6).bind fun r7 =>
    (app r5 r7).bind fun l8 =>
    some l8
  else
    (qtG p).bind fun r9 =>
    if r9 = true then
      some ([]:List tPred)
    else
      (qgl p).bind fun r11 =>
      some ([r11]:List tPred)
theorem qt4 (R72:qiy) (hR72:qsb R72) {p:tPred} {r:(List tPred)} (h:qrO R72 p = some r):CC Pg GE 68 [.agg (qaa p)] (sl qaa r) [(0,31)]:=by
  obtain ⟨o2,bo2,h⟩:=bnd h
  rcases ifs h with ⟨c3,h⟩ | ⟨c3,h⟩
  · obtain ⟨x4,bx4,h⟩:=bnd h
    obtain ⟨r5,br5,h⟩:=bnd h
    obtain ⟨x6,bx6,h⟩:=bnd h
    obtain ⟨r7,br7,h⟩:=bnd h
    obtain ⟨l8,bl8,h⟩:=bnd h
    obtain rfl:=lf h
    have z:=se (qat p) <| spa 1 <| spc (qiX R72 hR72 p bo2) <| sg 0 c3 <| sdr [0,1,3,7,15,0,32,96,224,511,1023,2047] <| sv (qas p) <| sv (qar p) <| sv (sT29.ia (k := .i64) bx4) <| sv (qaj x4) <| sca (hR72 _ _ br5) <| sv (qas p) <| sv (qar p) <| sv (sT29.ia (k := .i64) bx6) <| sv (qaj x6) <| sca (hR72 _ _ br7) <| sv (sT29.ap bl8) <| en (aI (rP (sl qaa l8)) <| (qad qab l8))
    exact C.evp (A:=A68) mixed Tryz.call68 Tryz.func68 (c:=b68) rfl (aI (qab p) trivial) z (by kernel_rfl)
  · obtain ⟨r9,br9,h⟩:=bnd h
    rcases ifs h with ⟨c10,h⟩ | ⟨c10,h⟩
    · obtain rfl:=lf h
      have z:=se (qat p) <| spa 1 <| spc (qiX R72 hR72 p bo2) <| sg 0 c3 <| sv (qaj p) <| sca (qgy br9) <| sg 0 c10 <| en (aI (rP (sl qaa ([]:List tPred))) <| (qad qab ([]:List tPred)))
      exact C.evp (A:=A68) mixed Tryz.call68 Tryz.func68 (c:=b68) rfl (aI (qab p) trivial) z (by kernel_rfl)
    · obtain ⟨r11,br11,h⟩:=bnd h
      obtain rfl:=lf h
      have z:=se (qat p) <| spa 1 <| spc (qiX R72 hR72 p bo2) <| sg 0 c3 <| sv (qaj p) <| sca (qgy br9) <| sg 0 c10 <| sv (qaj p) <| sca (qfR br11) <| sv (sT29.mk' (v:=qaP) qaq ([r11]:List tPred) 1 (by kernel_rfl)) <| en (aI (rP (sl qaa ([r11]:List tPred))) <| (qad qab ([r11]:List tPred)))
      exact C.evp (A:=A68) mixed Tryz.call68 Tryz.func68 (c:=b68) rfl (aI (qab p) trivial) z (by kernel_rfl)
noncomputable def qr7:((tPred)→Option ((List tPred)))→(tPred)→Option ((List tPred)):=fun (rec:tPred→Option ((List tPred))) (x:tPred) => qrO (fun p => rec p) x
noncomputable def qt7 (p:tPred):Option ((List tPred)):=fixE (qr7) p
theorem qvc {p:tPred} {r:(List tPred)} (h:qt7 p = some r):CC Pg GE 68 [.agg (qaa p)] (sl qaa r) [(0,31)] :=
  qcs (F:=qr7) (M:=fun (x:tPred) (r:(List tPred)) => CC Pg GE 68 [.agg (qaa x)] (sl qaa r) [(0,31)]) (fun rec hrec x r h => qt4 _ (fun p r h => hrec p r h) h) h
abbrev qdz:=(tPred→Int→(List tPred)→Option ((List tPred)))
abbrev qj3 (R:qdz):Prop := ∀ (p:tPred) (op:Int) (a:(List tPred)) (r:(List tPred)),R p op a = some r→C Pg GE 107 [.agg (qaa p),.int .i64 op,sl qaa a] [((2,0),31)] [] (sl qaa r) [(0,31)] []
noncomputable def b129:Code:=Tryz.f129.body.getD .skip
def A129:List Nat:=[]
noncomputable def qgW (v:tPred) (t9:(List tPred)) (t10:Int) (t11:Int):PSt:=stt 20 [(2,.func (.func 101) [] []),(4,.eptr (qaa v)),(9,sl qaa t9),(10,.int .i64 t10),(11,.int .i64 t11)] [.dead] []
noncomputable def qho (o:(Unit)⊕(Unit)):Exit:=match o with
  | (.inl _) => .ret
  | (.inr _) => .exit 0
noncomputable def qfw (v:tPred) (t9:(List tPred)) (t10:Int) (o:(Unit)⊕(Unit)):PSt:=match o with
  | (.inl o) => stt 20 [(6,.bool true)] [.dead] []
  | (.inr o) => stt 20 [] [.dead] []
noncomputable def qp4 (v:tPred) (t9:(List tPred)) (t10:Int) (t11:Int):Option ((Int)⊕((Unit)⊕(Unit))) :=
  if (decide (t11 < t10)) = true then
    (idx t9 t11).bind fun x2 =>
    (qix v x2).bind fun r3 =>
    if r3 = true then
      some (.inr (.inl ()))
    else
      some (.inl (w64 (t11 + 1)))
  else
    some (.inr (.inr ()))
noncomputable def qtf (v:tPred) (t9:(List tPred)) (t10:Int) (t11:Int):Option ((Unit)⊕(Unit)):=loop (fun (zz:Int) => qp4 v t9 t10 zz) t11
theorem qtg (v:tPred) (t9:(List tPred)) (t10:Int) (t11:Int) {y:(Int)⊕((Unit)⊕(Unit))} (h:qp4 v t9 t10 t11 = some y) :
    Sat Pg GE 0 (cA b129 55) (LQ (fun (zz:Int) => qgW v t9 t10 zz) qho (qfw v t9 t10) y) (qgW v t9 t10 t11):=by
  rcases ifs h with ⟨c1,h⟩ | ⟨c1,h⟩
  · obtain ⟨x2,bx2,h⟩:=bnd h
    obtain ⟨r3,br3,h⟩:=bnd h
    rcases ifs h with ⟨c4,h⟩ | ⟨c4,h⟩
    · obtain rfl:=lf h
      have z:=sg 0 c1 <| sv (sT29.ia (k := .i64) bx2) <| sv (qaj x2) <| sx pz31 <| sx (qan x2) <| sv (qaj v) <| sv (qah x2 []) <| sca (qdy br3) <| sg 0 c4 <| eFx 0 (qho (.inl ())) (qfw v t9 t10 (.inl ())) rfl (qb1 (aI trivial trivial)) (aI trivial trivial)
      exact qi1 (A:=A129) mixed (by intro hx; cases hx) z (by kernel_rfl)
    · obtain rfl:=lf h
      have z:=sg 0 c1 <| sv (sT29.ia (k := .i64) bx2) <| sv (qaj x2) <| sx pz31 <| sx (qan x2) <| sv (qaj v) <| sv (qah x2 []) <| sca (qdy br3) <| sg 0 c4 <| eFx 0 .normal (qgW v t9 t10 (w64 (t11 + 1))) rfl (qb1 (aI (aI trivial trivial) (aI (qbQ (qab v)) (aI (up (qad qab t9)) (aI trivial (aI trivial trivial)))))) (aI trivial trivial)
      exact qbK (A:=A129) mixed z (by kernel_rfl)
  · obtain rfl:=lf h
    have z:=sg 0 c1 <| eF (qho (.inr ())) (qfw v t9 t10 (.inr ()))
    exact qbE (A:=A129) mixed (by intro hx; cases hx) z (by kernel_rfl)
theorem qoV (v:tPred) (t9:(List tPred)) (t10:Int) (t11:Int) {x:(Unit)⊕(Unit)} (h:qtf v t9 t10 t11 = some x) :
    Sat Pg GE 0 (.loop (cA b129 55)) (EX (qho x) (qfw v t9 t10 x)) (qgW v t9 t10 t11) :=
  Sat.loop (S:=fun (zz:Int) => qgW v t9 t10 zz) (ex:=qho) (s:=t11) h fun zz y hy => qtg v t9 t10 zz hy
noncomputable def qxt (a:(List tPred)) (a2:tPred):Option (Bool) :=
  (qtf a2 a (a.length:Int) 0).bind fun o5 => match o5 with
  | (.inl o5) =>
    some true
  | (.inr o5) =>
    some false
theorem qw5 {a:(List tPred)} {a2:tPred} {r:Bool} (h:qxt a a2 = some r):CC Pg GE 129 [sl qaa a,.agg (qaa a2),.func (.func 101) [] []] (.bool r) []:=by
  obtain ⟨o5,bo5,h⟩:=bnd h
  rcases o5 with o5 | o5
  · obtain rfl:=lf h
    have z:=se (qat a2) <| svn (sT29.ln a) <| spc (e := .ret) (s1:=qfw a2 a (a.length:Int) (.inl o5)) (qoV a2 a (a.length:Int) 0 bo5) <| en (aI (rP (.bool true)) <| trivial)
    exact C.evp (A:=A129) mixed Tryz.call129 Tryz.func129 (c:=b129) rfl (aI (qad qab a) (aI (qab a2) (aI (aI trivial trivial) trivial))) z (by kernel_rfl)
  · obtain rfl:=lf h
    have z:=se (qat a2) <| svn (sT29.ln a) <| spc (e := .exit 0) (s1:=qfw a2 a (a.length:Int) (.inr o5)) (qoV a2 a (a.length:Int) 0 bo5) <| en (aI (rP (.bool false)) <| trivial)
    exact C.evp (A:=A129) mixed Tryz.call129 Tryz.func129 (c:=b129) rfl (aI (qad qab a) (aI (qab a2) (aI (aI trivial trivial) trivial))) z (by kernel_rfl)
noncomputable def b107:Code:=Tryz.f107.body.getD .skip
def A107:List Nat:=[18,31,36]
noncomputable def qff (op:Int) (v:(List tPred)) (p:tPred) (t10:(List tPred)) (t11:Int) (t12:Int):PSt:=stt 37 [(1,.int .i64 op),(2,sl qaa v),(3,.eptr (qaa p)),(10,sl qaa t10),(11,.int .i64 t11),(12,.int .i64 t12)] [.dead] [((2,0),31)]
noncomputable def qjZ (op:Int) (p:tPred) (t10:(List tPred)) (t11:Int) (o:(List tPred)):PSt:=stt 37 [(1,.int .i64 op),(2,sl qaa o),(3,.eptr (qaa p))] [.dead] [((2,0),31)]
noncomputable def qm8 (R76:qdz) (op:Int) (t10:(List tPred)) (t11:Int) (v:(List tPred)) (t12:Int):Option (((List tPred)×Int)⊕(((List tPred)))) :=
  if (decide (t12 < t11)) = true then
    (idx t10 t12).bind fun x2 =>
    (R76 x2 op v).bind fun r3 =>
    some (.inl (r3,w64 (t12 + 1)))
  else
    some (.inr v)
noncomputable def qqN (R76:qdz) (op:Int) (t10:(List tPred)) (t11:Int) (v:(List tPred)) (t12:Int):Option (((List tPred))):=loop (fun (zz:(List tPred)×Int) => qm8 R76 op t10 t11 zz.1 zz.2) (v,t12)
theorem qq7 (R76:qdz) (hR76:qj3 R76) (op:Int) (v:(List tPred)) (p:tPred) (t10:(List tPred)) (t11:Int) (t12:Int) {y:((List tPred)×Int)⊕(((List tPred)))} (h:qm8 R76 op t10 t11 v t12 = some y) :
    Sat Pg GE 1000 (cA b107 55) (LQ (fun (zz:(List tPred)×Int) => qff op zz.1 p t10 t11 zz.2) (fun _ => .exit 0) (qjZ op p t10 t11) y) (qff op v p t10 t11 t12):=by
  rcases ifs h with ⟨c1,h⟩ | ⟨c1,h⟩
  · obtain ⟨x2,bx2,h⟩:=bnd h
    obtain ⟨r3,br3,h⟩:=bnd h
    obtain rfl:=lf h
    have z:=sg 0 c1 <| sv (sT29.ia (k := .i64) bx2) <| sv (qaj x2) <| sx pz31 <| sx (qan x2) <| sv (qah x2 []) <| si (.cg ⟨[],[.agg (qaa x2),.int .i64 op,sl qaa v],[⟨2,18,0,31⟩],[],[],[],[],sl qaa r3,sl qaa r3,[(0,31)]⟩) (hR76 _ _ _ _ br3) <| sf (aI (xR [] (.agg (qaa x2)) (qab x2)) (aI (xR [] (.int .i64 op) trivial) (aI (xR [] (sl qaa v) (qad qab v)) trivial))) <| sf trivial <| sf trivial <| sf (xR [] (sl qaa r3) (qad qab r3)) <| eFx 1000 .normal (qff op r3 p t10 t11 (w64 (t12 + 1))) rfl (qb1 (aI trivial (aI (up (qad qab r3)) (aI (qbQ (qab p)) (aI (up (qad qab t10)) (aI trivial (aI trivial trivial))))))) (aI trivial trivial)
    exact qbK (A:=A107) mixed z (by kernel_rfl)
  · obtain rfl:=lf h
    have z:=sg 0 c1 <| eF (.exit 0) (qjZ op p t10 t11 v)
    exact qbE (A:=A107) mixed (by intro hx; cases hx) z (by kernel_rfl)
theorem qmz (R76:qdz) (hR76:qj3 R76) (op:Int) (v:(List tPred)) (p:tPred) (t10:(List tPred)) (t11:Int) (t12:Int) {x:((List tPred))} (h:qqN R76 op t10 t11 v t12 = some x) :
    Sat Pg GE 1000 (.loop (cA b107 55)) (EX (.exit 0) (qjZ op p t10 t11 x)) (qff op v p t10 t11 t12) :=
  Sat.loop (S:=fun (zz:(List tPred)×Int) => qff op zz.1 p t10 t11 zz.2) (ex:=(fun _ => .exit 0)) (s:=(v,t12)) h fun zz y hy => qq7 R76 hR76 op zz.1 p t10 t11 zz.2 hy
noncomputable def qte (op:Int) (v:(List tPred)) (p:tPred):PSt:=stt 37 [(1,.int .i64 op),(2,sl qaa v),(3,.eptr (qaa p))] [.dead] [((2,0),31)]
noncomputable def qjs (op:Int) (v:(List tPred)) (p:tPred) (o:Bool):PSt:=stt 37 [(2,sl qaa v),(3,.eptr (qaa p)),(30,.bool o)] [.dead] [((2,0),31)]
noncomputable def qqD (R76:qdz) (op:Int) (v:(List tPred)) (p:tPred):Option ((Bool)) :=
  if (p.Op == op) = true then
    (qxt v p).bind fun r6 =>
    some (!r6)
  else
    some false
theorem qmC (R76:qdz) (hR76:qj3 R76) (op:Int) (v:(List tPred)) (p:tPred) {x:(Bool)} (h:qqD R76 op v p = some x) :
    Sat Pg GE 1000 (cA b107 28) (EX .normal (qjs op v p x)) (qte op v p):=by
  rcases ifs h with ⟨c5,h⟩ | ⟨c5,h⟩
  · obtain ⟨r6,br6,h⟩:=bnd h
    obtain rfl:=lf h
    have z:=sv (qal p) <| sv (qak p) <| sg 5 c5 <| sv (qaj p) <| sca (qw5 br6) <| eF .normal (qjs op v p (!r6))
    exact qaR (A:=A107) mixed z (by kernel_rfl)
  · obtain rfl:=lf h
    have z:=sv (qal p) <| sv (qak p) <| sg 5 c5 <| eF .normal (qjs op v p false)
    exact qaR (A:=A107) mixed z (by kernel_rfl)
noncomputable def qrX (R76:qdz) (p:tPred) (op:Int) (a:(List tPred)):Option ((List tPred)) :=
  (qqN R76 op p.Kids (p.Kids.length:Int) a 0).bind fun o4 =>
  (qqD R76 op o4 p).bind fun o7 =>
  if o7 = true then
    (qgl p).bind fun r9 =>
    (app o4 ([r9]:List tPred)).bind fun l10 =>
    some l10
  else
    some o4
theorem qt2 (R76:qdz) (hR76:qj3 R76) {p:tPred} {op:Int} {a:(List tPred)} {r:(List tPred)} (h:qrX R76 p op a = some r):C Pg GE 107 [.agg (qaa p),.int .i64 op,sl qaa a] [((2,0),31)] [] (sl qaa r) [(0,31)] []:=by
  obtain ⟨o4,bo4,h⟩:=bnd h
  obtain ⟨o7,bo7,h⟩:=bnd h
  rcases ifs h with ⟨c8,h⟩ | ⟨c8,h⟩
  · obtain ⟨r9,br9,h⟩:=bnd h
    obtain ⟨l10,bl10,h⟩:=bnd h
    obtain rfl:=lf h
    have z:=se (qat p) <| sv (qas p) <| sv (qar p) <| svn (sT29.ln p.Kids) <| spc (qmz R76 hR76 op a p p.Kids (p.Kids.length:Int) 0 bo4) <| spa 1 <| spc (qmC R76 hR76 op o4 p bo7) <| sg 0 c8 <| sv (qaj p) <| sca (qfR br9) <| sv (sT29.mk' (v:=qaP) qaq ([r9]:List tPred) 1 (by kernel_rfl)) <| sv (sT29.ap bl10) <| en (aI (rP (sl qaa l10)) <| aI (up (n:=0) (qad qab l10)) <| aI (rL []) <| trivial)
    exact C.evGp (A:=A107) mixed (m:=1000) (c:=b107) rfl Tryz.call107 Tryz.func107 rfl z (by kernel_rfl)
  · obtain rfl:=lf h
    have z:=se (qat p) <| sv (qas p) <| sv (qar p) <| svn (sT29.ln p.Kids) <| spc (qmz R76 hR76 op a p p.Kids (p.Kids.length:Int) 0 bo4) <| spa 1 <| spc (qmC R76 hR76 op o4 p bo7) <| sg 0 c8 <| en (aI (rP (sl qaa o4)) <| aI (up (n:=0) (qad qab o4)) <| aI (rL []) <| trivial)
    exact C.evGp (A:=A107) mixed (m:=1000) (c:=b107) rfl Tryz.call107 Tryz.func107 rfl z (by kernel_rfl)
noncomputable def qr4:((tPred×Int×(List tPred))→Option ((List tPred)))→(tPred×Int×(List tPred))→Option ((List tPred)):=fun (rec:(tPred×Int×(List tPred))→Option ((List tPred))) (x:tPred×Int×(List tPred)) => qrX (fun p op a => rec (p,op,a)) x.1 x.2.1 x.2.2
noncomputable def qun (p:tPred) (op:Int) (a:(List tPred)):Option ((List tPred)):=fixE (qr4) (p,op,a)
theorem qvm {p:tPred} {op:Int} {a:(List tPred)} {r:(List tPred)} (h:qun p op a = some r):C Pg GE 107 [.agg (qaa p),.int .i64 op,sl qaa a] [((2,0),31)] [] (sl qaa r) [(0,31)] [] :=
  qcs (F:=qr4) (M:=fun (x:tPred×Int×(List tPred)) (r:(List tPred)) => C Pg GE 107 [.agg (qaa x.1),.int .i64 x.2.1,sl qaa x.2.2] [((2,0),31)] [] (sl qaa r) [(0,31)] []) (fun rec hrec x r h => qt2 _ (fun p op a r h => hrec (p,op,a) r h) h) h
noncomputable def b70:Code:=Tryz.f70.body.getD .skip
def A70:List Nat:=[]
noncomputable def qwk (p:tPred):Option ((List tPred)) :=
  (qun p 4 ([]:List tPred)).bind fun r1 =>
  some r1
theorem qr0 {p:tPred} {r:(List tPred)} (h:qwk p = some r):CC Pg GE 70 [.agg (qaa p)] (sl qaa r) [(0,31)]:=by
  obtain ⟨r1,br1,h⟩:=bnd h
  obtain rfl:=lf h
  have z:=se (qat p) <| sv (qaj p) <| si (.cg ⟨[],[.agg (qaa p),.int .i64 4,sl qaa ([]:List tPred)],[⟨2,1000000,0,31⟩],[],[],[],[],sl qaa r1,sl qaa r1,[(0,31)]⟩) (qvm br1) <| sf (aI (xR [] (.agg (qaa p)) (qab p)) (aI (xR [] (.int .i64 4) trivial) (aI (xR [] (sl qaa ([]:List tPred)) (qad qab ([]:List tPred))) trivial))) <| sf trivial <| sf trivial <| sf (xR [] (sl qaa r1) (qad qab r1)) <| en (aI (rP (sl qaa r1)) <| (qad qab r1))
  exact C.evp (A:=A70) mixed Tryz.call70 Tryz.func70 (c:=b70) rfl (aI (qab p) trivial) z (by kernel_rfl)
noncomputable def b71:Code:=Tryz.f71.body.getD .skip
def A71:List Nat:=[]
noncomputable def qnv (a:tPred) (a2:(List Str)):Option (Bool) :=
  (qdr a2 a.Name).bind fun r1 =>
  some r1
theorem qkd {a:tPred} {a2:(List Str)} {r:Bool} (h:qnv a a2 = some r):CC Pg GE 71 [.agg (qaa a),.eptr ((cL cS) a2)] (.bool r) []:=by
  obtain ⟨r1,br1,h⟩:=bnd h
  obtain rfl:=lf h
  have z:=se (qat a) <| sv (qbb sc22 (sl cS a2) []) <| sv (qao a) <| sv (qax a) <| sca (qbH br1) <| en (aI (rP (.bool r1)) <| trivial)
  exact C.evp (A:=A71) mixed Tryz.call71 Tryz.func71 (c:=b71) rfl (aI (qab a) (aI (clLs clS a2) trivial)) z (by kernel_rfl)
noncomputable def b106:Code:=Tryz.f106.body.getD .skip
def A106:List Nat:=[10,17]
noncomputable def qci (s:(List tPred)) (v:(List Str)) (t7:Int) (t8:Int):PSt:=stt 19 [(0,sl qaa s),(1,.func (.func 71) [] [.eptr ((cL cS) v)]),(7,.int .i64 t7),(8,.int .i64 t8)] [] []
noncomputable def qch (o:(Int)⊕(Unit)):Exit:=match o with
  | (.inl _) => .ret
  | (.inr _) => .exit 0
noncomputable def qbT (s:(List tPred)) (v:(List Str)) (t7:Int) (o:(Int)⊕(Unit)):PSt:=match o with
  | (.inl o) => stt 19 [(4,.int .i64 o)] [] []
  | (.inr o) => stt 19 [] [] []
noncomputable def qhp (s:(List tPred)) (v:(List Str)) (t7:Int) (t8:Int):Option ((Int)⊕((Int)⊕(Unit))) :=
  if (decide (t8 < t7)) = true then
    (idx s t8).bind fun x2 =>
    (qnv x2 v).bind fun r3 =>
    if r3 = true then
      some (.inr (.inl t8))
    else
      some (.inl (w64 (t8 + 1)))
  else
    some (.inr (.inr ()))
noncomputable def qiE (s:(List tPred)) (v:(List Str)) (t7:Int) (t8:Int):Option ((Int)⊕(Unit)):=loop (fun (zz:Int) => qhp s v t7 zz) t8
theorem qkQ (s:(List tPred)) (v:(List Str)) (t7:Int) (t8:Int) {y:(Int)⊕((Int)⊕(Unit))} (h:qhp s v t7 t8 = some y) :
    Sat Pg GE 0 (cA b106 55) (LQ (fun (zz:Int) => qci s v t7 zz) qch (qbT s v t7) y) (qci s v t7 t8):=by
  rcases ifs h with ⟨c1,h⟩ | ⟨c1,h⟩
  · obtain ⟨x2,bx2,h⟩:=bnd h
    obtain ⟨r3,br3,h⟩:=bnd h
    rcases ifs h with ⟨c4,h⟩ | ⟨c4,h⟩
    · obtain rfl:=lf h
      have z:=sg 0 c1 <| sv (sT29.ia (k := .i64) bx2) <| sv (qaj x2) <| sca (qkd br3) <| sg 0 c4 <| eF (qch (.inl t8)) (qbT s v t7 (.inl t8))
      exact qbE (A:=A106) mixed (by intro hx; cases hx) z (by kernel_rfl)
    · obtain rfl:=lf h
      have z:=sg 0 c1 <| sv (sT29.ia (k := .i64) bx2) <| sv (qaj x2) <| sca (qkd br3) <| sg 0 c4 <| eF .normal (qci s v t7 (w64 (t8 + 1)))
      exact qjk (A:=A106) mixed z (by kernel_rfl)
  · obtain rfl:=lf h
    have z:=sg 0 c1 <| eF (qch (.inr ())) (qbT s v t7 (.inr ()))
    exact qbE (A:=A106) mixed (by intro hx; cases hx) z (by kernel_rfl)
theorem qgH (s:(List tPred)) (v:(List Str)) (t7:Int) (t8:Int) {x:(Int)⊕(Unit)} (h:qiE s v t7 t8 = some x) :
    Sat Pg GE 0 (.loop (cA b106 55)) (EX (qch x) (qbT s v t7 x)) (qci s v t7 t8) :=
  Sat.loop (S:=fun (zz:Int) => qci s v t7 zz) (ex:=qch) (s:=t8) h fun zz y hy => qkQ s v t7 zz hy
noncomputable def qkm (s:(List tPred)) (c:(List Str)):Option (Int) :=
  (qiE s c (s.length:Int) 0).bind fun o5 => match o5 with
  | (.inl o5) =>
    some o5
  | (.inr o5) =>
    some (-1)
theorem qnk {s:(List tPred)} {c:(List Str)} {r:Int} (h:qkm s c = some r):CC Pg GE 106 [sl qaa s,.func (.func 71) [] [.eptr ((cL cS) c)]] (.int .i64 r) []:=by
  obtain ⟨o5,bo5,h⟩:=bnd h
  rcases o5 with o5 | o5
  · obtain rfl:=lf h
    have z:=svn (sT29.ln s) <| spc (e := .ret) (s1:=qbT s c (s.length:Int) (.inl o5)) (qgH s c (s.length:Int) 0 bo5) <| en (aI (rP (.int .i64 o5)) <| trivial)
    exact C.evp (A:=A106) mixed Tryz.call106 Tryz.func106 (c:=b106) rfl (aI (qad qab s) (aI (aI trivial (aI (clLs clS c) trivial)) trivial)) z (by kernel_rfl)
  · obtain rfl:=lf h
    have z:=svn (sT29.ln s) <| spc (e := .exit 0) (s1:=qbT s c (s.length:Int) (.inr o5)) (qgH s c (s.length:Int) 0 bo5) <| en (aI (rP (.int .i64 (-1))) <| trivial)
    exact C.evp (A:=A106) mixed Tryz.call106 Tryz.func106 (c:=b106) rfl (aI (qad qab s) (aI (aI trivial (aI (clLs clS c) trivial)) trivial)) z (by kernel_rfl)
noncomputable def b69:Code:=Tryz.f69.body.getD .skip
def A69:List Nat:=[]
noncomputable def qjV (s:(List tPred)) (c:(List Str)):Option (Bool) :=
  (qkm s c).bind fun r1 =>
  some (decide (r1 ≥ 0))
theorem qhF {s:(List tPred)} {c:(List Str)} {r:Bool} (h:qjV s c = some r):CC Pg GE 69 [sl qaa s,.func (.func 71) [] [.eptr ((cL cS) c)]] (.bool r) []:=by
  obtain ⟨r1,br1,h⟩:=bnd h
  obtain rfl:=lf h
  have z:=sca (qnk br1) <| en (aI (rP (.bool (decide (r1 ≥ 0)))) <| trivial)
  exact C.evp (A:=A69) mixed Tryz.call69 Tryz.func69 (c:=b69) rfl (aI (qad qab s) (aI (aI trivial (aI (clLs clS c) trivial)) trivial)) z (by kernel_rfl)
noncomputable def b73:Code:=Tryz.f73.body.getD .skip
def A73:List Nat:=[25]
noncomputable def qef (v:Bool) (t8:(List tPred)) (t9:Int) (t10:Int) (m:Int) (m2:Str) (m3:Int) (m4:(List tPred)) (m5:Int) (m6:Str) (m7:Int) (m8:(List tPred)):PSt:=stt 33 [(2,.bptr 0 0),(3,.bptr 1 0),(4,.bool v),(8,sl qaa t8),(9,.int .i64 t9),(10,.int .i64 t10)] [.cells [.int .i64 m,.str m2,.int .i64 m3,sl qaa m4] [(3,31)],.cells [.int .i64 m5,.str m6,.int .i64 m7,sl qaa m8] []] []
noncomputable def qhh (o:(Int×Str×Int×(List tPred)×Int×Str×Int×(List tPred))⊕(Int×Str×Int×(List tPred)×Int×Str×Int×(List tPred))):Exit:=match o with
  | (.inl _) => .ret
  | (.inr _) => .exit 0
noncomputable def qfv (t8:(List tPred)) (t9:Int) (o:(Int×Str×Int×(List tPred)×Int×Str×Int×(List tPred))⊕(Int×Str×Int×(List tPred)×Int×Str×Int×(List tPred))):PSt:=match o with
  | (.inl o) => stt 33 [(2,.bptr 0 0)] [.cells [.int .i64 o.1,.str o.2.1,.int .i64 o.2.2.1,sl qaa o.2.2.2.1] [(3,31)],.cells [.int .i64 o.2.2.2.2.1,.str o.2.2.2.2.2.1,.int .i64 o.2.2.2.2.2.2.1,sl qaa o.2.2.2.2.2.2.2] []] []
  | (.inr o) => stt 33 [(2,.bptr 0 0),(3,.bptr 1 0)] [.cells [.int .i64 o.1,.str o.2.1,.int .i64 o.2.2.1,sl qaa o.2.2.2.1] [(3,31)],.cells [.int .i64 o.2.2.2.2.1,.str o.2.2.2.2.2.1,.int .i64 o.2.2.2.2.2.2.1,sl qaa o.2.2.2.2.2.2.2] []] []
noncomputable def qqJ (t8:(List tPred)) (t9:Int) (v:Bool) (t10:Int) (m:Int) (m2:Str) (m3:Int) (m4:(List tPred)) (m5:Int) (m6:Str) (m7:Int) (m8:(List tPred)):Option ((Bool×Int×Int×Str×Int×(List tPred)×Int×Str×Int×(List tPred))⊕((Int×Str×Int×(List tPred)×Int×Str×Int×(List tPred))⊕(Int×Str×Int×(List tPred)×Int×Str×Int×(List tPred)))) :=
  if (decide (t10 < t9)) = true then
    (idx t8 t10).bind fun x3 =>
    (qtG x3).bind fun r4 =>
    if r4 = true then
      some (.inl (v,w64 (t10 + 1),m,m2,m3,m4,m5,m6,m7,m8))
    else
      (qg5 false).bind fun r6 =>
      (qix x3 r6).bind fun r7 =>
      if r7 = true then
        (qg5 false).bind fun r9 =>
        some (.inr (.inl (r9.Op,r9.Name,r9.N,r9.Kids,m5,m6,m7,m8)))
      else
        if v = true then
          (qgl x3).bind fun r11 =>
          some (.inl (v,w64 (t10 + 1),m,m2,m3,m4,15,([]:Str),0,([(⟨m5,m6,m7,m8⟩:tPred),r11]:List tPred)))
        else
          (qgl x3).bind fun r12 =>
          some (.inl (true,w64 (t10 + 1),m,m2,m3,m4,r12.Op,r12.Name,r12.N,r12.Kids))
  else
    some (.inr (.inr (m,m2,m3,m4,m5,m6,m7,m8)))
noncomputable def qsK (t8:(List tPred)) (t9:Int) (v:Bool) (t10:Int) (m:Int) (m2:Str) (m3:Int) (m4:(List tPred)) (m5:Int) (m6:Str) (m7:Int) (m8:(List tPred)):Option ((Int×Str×Int×(List tPred)×Int×Str×Int×(List tPred))⊕(Int×Str×Int×(List tPred)×Int×Str×Int×(List tPred))):=loop (fun (zz:Bool×Int×Int×Str×Int×(List tPred)×Int×Str×Int×(List tPred)) => qqJ t8 t9 zz.1 zz.2.1 zz.2.2.1 zz.2.2.2.1 zz.2.2.2.2.1 zz.2.2.2.2.2.1 zz.2.2.2.2.2.2.1 zz.2.2.2.2.2.2.2.1 zz.2.2.2.2.2.2.2.2.1 zz.2.2.2.2.2.2.2.2.2) (v,t10,m,m2,m3,m4,m5,m6,m7,m8)
theorem qsE (v:Bool) (t8:(List tPred)) (t9:Int) (t10:Int) (m:Int) (m2:Str) (m3:Int) (m4:(List tPred)) (m5:Int) (m6:Str) (m7:Int) (m8:(List tPred)) {y:(Bool×Int×Int×Str×Int×(List tPred)×Int×Str×Int×(List tPred))⊕((Int×Str×Int×(List tPred)×Int×Str×Int×(List tPred))⊕(Int×Str×Int×(List tPred)×Int×Str×Int×(List tPred)))} (h:qqJ t8 t9 v t10 m m2 m3 m4 m5 m6 m7 m8 = some y) :
    Sat Pg GE 0 (cA b73 119) (LQ (fun (zz:Bool×Int×Int×Str×Int×(List tPred)×Int×Str×Int×(List tPred)) => qef zz.1 t8 t9 zz.2.1 zz.2.2.1 zz.2.2.2.1 zz.2.2.2.2.1 zz.2.2.2.2.2.1 zz.2.2.2.2.2.2.1 zz.2.2.2.2.2.2.2.1 zz.2.2.2.2.2.2.2.2.1 zz.2.2.2.2.2.2.2.2.2) qhh (qfv t8 t9) y) (qef v t8 t9 t10 m m2 m3 m4 m5 m6 m7 m8):=by
  rcases ifs h with ⟨c2,h⟩ | ⟨c2,h⟩
  · obtain ⟨x3,bx3,h⟩:=bnd h
    obtain ⟨r4,br4,h⟩:=bnd h
    rcases ifs h with ⟨c5,h⟩ | ⟨c5,h⟩
    · obtain rfl:=lf h
      have z:=sg 0 c2 <| sv (sT29.ia (k := .i64) bx3) <| sv (qaj x3) <| sx pz31 <| sx (qan x3) <| sv (qah x3 []) <| sca (qgy br4) <| sg 0 c5 <| eFx 0 .normal (qef v t8 t9 (w64 (t10 + 1)) m m2 m3 m4 m5 m6 m7 m8) rfl (qb1 (aI (qdu rfl) (aI (qdu rfl) (aI trivial (aI (up (qad qab t8)) (aI trivial (aI trivial trivial))))))) (aI (aI trivial (aI trivial (aI trivial (aI (up (qad qab m4)) trivial)))) (aI (aI trivial (aI trivial (aI trivial (aI (up (qad qab m8)) trivial)))) trivial))
      exact qbK (A:=A73) mixed z (by kernel_rfl)
    · obtain ⟨r6,br6,h⟩:=bnd h
      obtain ⟨r7,br7,h⟩:=bnd h
      rcases ifs h with ⟨c8,h⟩ | ⟨c8,h⟩
      · obtain ⟨r9,br9,h⟩:=bnd h
        obtain rfl:=lf h
        have z:=sg 0 c2 <| sv (sT29.ia (k := .i64) bx3) <| sv (qaj x3) <| sx pz31 <| sx (qan x3) <| sv (qah x3 []) <| sca (qgy br4) <| sg 0 c5 <| sdr [0,0,3,7] <| sv (qah x3 []) <| sca (qc1 br6) <| sca (qdy br7) <| sg 0 c8 <| sca (qc1 br9) <| sy (qam r9) <| eFx 0 (qhh (.inl (r9.Op,r9.Name,r9.N,r9.Kids,m5,m6,m7,m8))) (qfv t8 t9 (.inl (r9.Op,r9.Name,r9.N,r9.Kids,m5,m6,m7,m8))) rfl (qb1 (aI (qdu rfl) trivial)) (aI (aI trivial (aI trivial (aI trivial (aI (up (qad qab r9.Kids)) trivial)))) (aI (aI trivial (aI trivial (aI trivial (aI (up (qad qab m8)) trivial)))) trivial))
        exact qi1 (A:=A73) mixed (by intro hx; cases hx) z (by kernel_rfl)
      · rcases ifs h with ⟨c10,h⟩ | ⟨c10,h⟩
        · obtain ⟨r11,br11,h⟩:=bnd h
          obtain rfl:=lf h
          have z:=sg 0 c2 <| sv (sT29.ia (k := .i64) bx3) <| sv (qaj x3) <| sx pz31 <| sx (qan x3) <| sv (qah x3 []) <| sca (qgy br4) <| sg 0 c5 <| sdr [0,0,3,7] <| sv (qah x3 []) <| sca (qc1 br6) <| sca (qdy br7) <| sg 0 c8 <| sg 0 c10 <| sdr [0,0,2,7,15,31] <| sv (qah (⟨m5,m6,m7,m8⟩:tPred) []) <| sv (qah x3 []) <| sca (qfR br11) <| sv (sT29.mk' (v:=qaP) qaq ([(⟨m5,m6,m7,m8⟩:tPred),r11]:List tPred) 2 (by kernel_rfl)) <| sv (qe6 15 ([(⟨m5,m6,m7,m8⟩:tPred),r11]:List tPred)) <| sx (qan (⟨15,([]:Str),0,([(⟨m5,m6,m7,m8⟩:tPred),r11]:List tPred)⟩:tPred)) <| eFx 0 .normal (qef v t8 t9 (w64 (t10 + 1)) m m2 m3 m4 15 ([]:Str) 0 ([(⟨m5,m6,m7,m8⟩:tPred),r11]:List tPred)) rfl (qb1 (aI (qdu rfl) (aI (qdu rfl) (aI trivial (aI (up (qad qab t8)) (aI trivial (aI trivial trivial))))))) (aI (aI trivial (aI trivial (aI trivial (aI (up (qad qab m4)) trivial)))) (aI (aI trivial (aI trivial (aI trivial (aI (up (qad qab ([(⟨m5,m6,m7,m8⟩:tPred),r11]:List tPred))) trivial)))) trivial))
          exact qbK (A:=A73) mixed z (by kernel_rfl)
        · obtain ⟨r12,br12,h⟩:=bnd h
          obtain rfl:=lf h
          have z:=sg 0 c2 <| sv (sT29.ia (k := .i64) bx3) <| sv (qaj x3) <| sx pz31 <| sx (qan x3) <| sv (qah x3 []) <| sca (qgy br4) <| sg 0 c5 <| sdr [0,0,3,7] <| sv (qah x3 []) <| sca (qc1 br6) <| sca (qdy br7) <| sg 0 c8 <| sg 0 c10 <| sv (qah x3 []) <| sca (qfR br12) <| sy (qam r12) <| eFx 0 .normal (qef true t8 t9 (w64 (t10 + 1)) m m2 m3 m4 r12.Op r12.Name r12.N r12.Kids) rfl (qb1 (aI (qdu rfl) (aI (qdu rfl) (aI trivial (aI (up (qad qab t8)) (aI trivial (aI trivial trivial))))))) (aI (aI trivial (aI trivial (aI trivial (aI (up (qad qab m4)) trivial)))) (aI (aI trivial (aI trivial (aI trivial (aI (up (qad qab r12.Kids)) trivial)))) trivial))
          exact qbK (A:=A73) mixed z (by kernel_rfl)
  · obtain rfl:=lf h
    have z:=sg 0 c2 <| eF (qhh (.inr (m,m2,m3,m4,m5,m6,m7,m8))) (qfv t8 t9 (.inr (m,m2,m3,m4,m5,m6,m7,m8)))
    exact qbE (A:=A73) mixed (by intro hx; cases hx) z (by kernel_rfl)
theorem qoN (v:Bool) (t8:(List tPred)) (t9:Int) (t10:Int) (m:Int) (m2:Str) (m3:Int) (m4:(List tPred)) (m5:Int) (m6:Str) (m7:Int) (m8:(List tPred)) {x:(Int×Str×Int×(List tPred)×Int×Str×Int×(List tPred))⊕(Int×Str×Int×(List tPred)×Int×Str×Int×(List tPred))} (h:qsK t8 t9 v t10 m m2 m3 m4 m5 m6 m7 m8 = some x) :
    Sat Pg GE 0 (.loop (cA b73 119)) (EX (qhh x) (qfv t8 t9 x)) (qef v t8 t9 t10 m m2 m3 m4 m5 m6 m7 m8) :=
  Sat.loop (S:=fun (zz:Bool×Int×Int×Str×Int×(List tPred)×Int×Str×Int×(List tPred)) => qef zz.1 t8 t9 zz.2.1 zz.2.2.1 zz.2.2.2.1 zz.2.2.2.2.1 zz.2.2.2.2.2.1 zz.2.2.2.2.2.2.1 zz.2.2.2.2.2.2.2.1 zz.2.2.2.2.2.2.2.2.1 zz.2.2.2.2.2.2.2.2.2) (ex:=qhh) (s:=(v,t10,m,m2,m3,m4,m5,m6,m7,m8)) h fun zz y hy => qsE zz.1 t8 t9 zz.2.1 zz.2.2.1 zz.2.2.2.1 zz.2.2.2.2.1 zz.2.2.2.2.2.1 zz.2.2.2.2.2.2.1 zz.2.2.2.2.2.2.2.1 zz.2.2.2.2.2.2.2.2.1 zz.2.2.2.2.2.2.2.2.2 hy
noncomputable def qxL (a:(List tPred)):Option (tPred) :=
  (qg5 true).bind fun r1 =>
  (qsK a (a.length:Int) false 0 0 ([]:Str) 0 ([]:List tPred) r1.Op r1.Name r1.N r1.Kids).bind fun o13 => match o13 with
  | (.inl o13) =>
    some (⟨o13.1,o13.2.1,o13.2.2.1,o13.2.2.2.1⟩:tPred)
  | (.inr o13) =>
    some (⟨o13.2.2.2.2.1,o13.2.2.2.2.2.1,o13.2.2.2.2.2.2.1,o13.2.2.2.2.2.2.2⟩:tPred)
theorem qw3 {a:(List tPred)} {r:tPred} (h:qxL a = some r):CC Pg GE 73 [sl qaa a] (.agg (qaa r)) []:=by
  obtain ⟨r1,br1,h⟩:=bnd h
  obtain ⟨o13,bo13,h⟩:=bnd h
  rcases o13 with o13 | o13
  · obtain rfl:=lf h
    have z:=sx pz31 <| sca (qc1 br1) <| sx pz31 <| sy (qam r1) <| svn (sT29.ln a) <| spc (e := .ret) (s1:=qfv a (a.length:Int) (.inl o13)) (qoN false a (a.length:Int) 0 0 ([]:Str) 0 ([]:List tPred) r1.Op r1.Name r1.N r1.Kids bo13) <| en (aI (qa4 (⟨o13.1,o13.2.1,o13.2.2.1,o13.2.2.2.1⟩:tPred)) <| (qab (⟨o13.1,o13.2.1,o13.2.2.1,o13.2.2.2.1⟩:tPred)))
    exact C.evp (A:=A73) mixed Tryz.call73 Tryz.func73 (c:=b73) rfl (aI (qad qab a) trivial) z (by kernel_rfl)
  · obtain rfl:=lf h
    have z:=sx pz31 <| sca (qc1 br1) <| sx pz31 <| sy (qam r1) <| svn (sT29.ln a) <| spc (e := .exit 0) (s1:=qfv a (a.length:Int) (.inr o13)) (qoN false a (a.length:Int) 0 0 ([]:Str) 0 ([]:List tPred) r1.Op r1.Name r1.N r1.Kids bo13) <| sv (qah (⟨o13.2.2.2.2.1,o13.2.2.2.2.2.1,o13.2.2.2.2.2.2.1,o13.2.2.2.2.2.2.2⟩:tPred) []) <| sx (qan (⟨o13.2.2.2.2.1,o13.2.2.2.2.2.1,o13.2.2.2.2.2.2.1,o13.2.2.2.2.2.2.2⟩:tPred)) <| en (aI (qa4 (⟨o13.2.2.2.2.1,o13.2.2.2.2.2.1,o13.2.2.2.2.2.2.1,o13.2.2.2.2.2.2.2⟩:tPred)) <| (qab (⟨o13.2.2.2.2.1,o13.2.2.2.2.2.1,o13.2.2.2.2.2.2.1,o13.2.2.2.2.2.2.2⟩:tPred)))
    exact C.evp (A:=A73) mixed Tryz.call73 Tryz.func73 (c:=b73) rfl (aI (qad qab a) trivial) z (by kernel_rfl)
end Go.Proofs.YtgldgpdhblndkaaGreatDoor
