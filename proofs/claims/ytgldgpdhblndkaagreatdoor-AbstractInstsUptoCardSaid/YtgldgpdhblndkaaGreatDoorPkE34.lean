/- WHAT IS PROVED: parts of the proof, put together by a program (G6). Conditions: none. -/
import Derived.Test.YtgldgpdhblndkaaGreatDoorPkE33
noncomputable section
namespace Go.Proofs.YtgldgpdhblndkaaGreatDoor
open Go
set_option linter.unusedVariables false
set_option maxRecDepth 100000
noncomputable def b15:Code:=Tryz.f15.body.getD .skip
def A15:List Nat:=[58,77]
def qy3 (v:tType) (v2:tType):PSt:=stt 91 [(2,.eptr (qac v)),(3,.eptr (qac v2))] [.dead,.dead] []
def qem (v:tType) (v2:tType) (o:Bool):PSt:=stt 91 [(2,.eptr (qac v)),(3,.eptr (qac v2)),(52,.bool o)] [.dead,.dead] []
def qqu (R65:qdf) (v:tType) (v2:tType):Option ((Bool)) :=
 if (v.Op != v2.Op) = true then
  some true
 else
  if (!(v.Name == v2.Name)) = true then
   some true
  else
   if ((v.Args.length:Int) != (v2.Args.length:Int)) = true then
    some true
   else
    if ((v.Preds.length:Int) != (v2.Preds.length:Int)) = true then
     some true
    else
     (quF v.Names v2.Names).bind fun r9 =>
     if (!r9) = true then
      some true
     else
      (qo4 v.Pred v2.Pred).bind fun r12 =>
      some (!r12)
theorem qw5 (R65:qdf) (hR65:qjU R65) (v:tType) (v2:tType) {x:(Bool)} (h:qqu R65 v v2 = some x) :
  Sat Pg GE 0 (cA b15 12) (EX .normal (qem v v2 x)) (qy3 v v2):=by
 have p2:=fun {sc F} (r:PS sc F) => sv (qbv v) <| sv (qbw v) <| sv (qbv v2) <| sv (qbw v2) <| r
 rcases ifs h with ⟨c1,h⟩ | ⟨c1,h⟩
 ·obtain rfl:=lf h
  have z:=p2 <| sg 6 c1 <| eF .normal (qem v v2 true)
  exact pcZ A15 z (by kernel_rfl)
 ·have p4:=fun {sc F} (r:PS sc F) => p2 <| sg 6 c1 <| sv (qdB v) <| sv (qef v) <| sv (qdB v2) <| sv (qef v2) <| r
  rcases ifs h with ⟨c3,h⟩ | ⟨c3,h⟩
  ·obtain rfl:=lf h
   have z:=p4 <| sg 13 c3 <| eF .normal (qem v v2 true)
   exact pcZ A15 z (by kernel_rfl)
  ·have p6:=fun {sc F} (r:PS sc F) => p4 <| sg 13 c3 <| sv (qaH v) <| sv (qaI v) <| svn (sT27.ln v.Args) <| sv (qaH v2) <| sv (qaI v2) <| svn (sT27.ln v2.Args) <| r
   rcases ifs h with ⟨c5,h⟩ | ⟨c5,h⟩
   ·obtain rfl:=lf h
    have z:=p6 <| sg 22 c5 <| eF .normal (qem v v2 true)
    exact pcZ A15 z (by kernel_rfl)
   ·have p8:=fun {sc F} (r:PS sc F) => p6 <| sg 22 c5 <| sv (qbp v) <| sv (qbo v) <| svn (sT29.ln v.Preds) <| sv (qbp v2) <| sv (qbo v2) <| svn (sT29.ln v2.Preds) <| r
    rcases ifs h with ⟨c7,h⟩ | ⟨c7,h⟩
    ·obtain rfl:=lf h
     have z:=p8 <| sg 31 c7 <| eF .normal (qem v v2 true)
     exact pcZ A15 z (by kernel_rfl)
    ·obtain ⟨r9,br9,h⟩:=bnd h
     have p11:=fun {sc F} (r:PS sc F) => p8 <| sg 31 c7 <| sv (qan v) <| sv (qao v) <| sv (qan v2) <| sv (qao v2) <| sca (qBq br9) <| r
     rcases ifs h with ⟨c10,h⟩ | ⟨c10,h⟩
     ·obtain rfl:=lf h
      have z:=p11 <| sg 39 c10 <| eF .normal (qem v v2 true)
      exact pcZ A15 z (by kernel_rfl)
     ·obtain ⟨r12,br12,h⟩:=bnd h
      obtain rfl:=lf h
      have z:=p11 <| sg 39 c10 <| sv (qbV v) <| sv (qbY v) <| sv (qbV v2) <| sv (qbY v2) <| sca (qvv br12) <| eF .normal (qem v v2 (!r12))
      exact pcZ A15 z (by kernel_rfl)
def qhx (v:tType) (v2:tType) (t55:Int) (t56:Int):PSt:=stt 91 [(2,.eptr (qac v)),(3,.eptr (qac v2)),(55,.int .i64 t55),(56,.int .i64 t56)] [.dead,.dead] []
def qhv (o:(Unit)⊕(Unit)):Exit:=match o with
 | (.inl _) => .ret
 | (.inr _) => .exit 0
def qek (v:tType) (v2:tType) (t55:Int) (o:(Unit)⊕(Unit)):PSt:=match o with
 | (.inl o) => stt 91 [(4,.bool false)] [.dead,.dead] []
 | (.inr o) => stt 91 [(2,.eptr (qac v)),(3,.eptr (qac v2))] [.dead,.dead] []
def qnf (R65:qdf) (v:tType) (v2:tType) (t55:Int) (t56:Int):Option ((Int)⊕((Unit)⊕(Unit))) :=
 if (decide (t56 < t55)) = true then
  (idx v.Preds t56).bind fun x17 =>
  (idx v2.Preds t56).bind fun x18 =>
  (qo4 x17 x18).bind fun r19 =>
  if (!r19) = true then
   some (.inr (.inl ()))
  else
   some (.inl (w64 (t56 + 1)))
 else
  some (.inr (.inr ()))
def qqQ (R65:qdf) (v:tType) (v2:tType) (t55:Int) (t56:Int):Option ((Unit)⊕(Unit)):=loop (fun (zz:Int) => qnf R65 v v2 t55 zz) t56
theorem qvi (R65:qdf) (hR65:qjU R65) (v:tType) (v2:tType) (t55:Int) (t56:Int) {y:(Int)⊕((Unit)⊕(Unit))} (h:qnf R65 v v2 t55 t56 = some y) :
  Sat Pg GE 0 (cA b15 119) (LQ (fun (zz:Int) => qhx v v2 t55 zz) qhv (qek v v2 t55) y) (qhx v v2 t55 t56):=by
 rcases ifs h with ⟨c16,h⟩ | ⟨c16,h⟩
 ·obtain ⟨x17,bx17,h⟩:=bnd h
  obtain ⟨x18,bx18,h⟩:=bnd h
  obtain ⟨r19,br19,h⟩:=bnd h
  have p21:=fun {sc F} (r:PS sc F) => sg 0 c16 <| sdr [0,1,0,7,15,0,32,0,224,480,1023,2047] <| sv (qbp v) <| sv (qbo v) <| sv (sT29.ia (k := .i64) bx17) <| sv (qaj x17) <| sv (qbp v2) <| sv (qbo v2) <| sv (sT29.ia (k := .i64) bx18) <| sv (qaj x18) <| sca (qvv br19) <| r
  rcases ifs h with ⟨c20,h⟩ | ⟨c20,h⟩
  ·obtain rfl:=lf h
   have z:=p21 <| sg 0 c20 <| eF (qhv (.inl ())) (qek v v2 t55 (.inl ()))
   exact ovZ A15 (by intro hx; cases hx) z (by kernel_rfl)
  ·obtain rfl:=lf h
   have z:=p21 <| sg 0 c20 <| eF .normal (qhx v v2 t55 (w64 (t56 + 1)))
   exact nxZ A15 z (by kernel_rfl)
 ·obtain rfl:=lf h
  have z:=sg 0 c16 <| eF (qhv (.inr ())) (qek v v2 t55 (.inr ()))
  exact ovZ A15 (by intro hx; cases hx) z (by kernel_rfl)
theorem qlt (R65:qdf) (hR65:qjU R65) (v:tType) (v2:tType) (t55:Int) (t56:Int) {x:(Unit)⊕(Unit)} (h:qqQ R65 v v2 t55 t56 = some x) :
  Sat Pg GE 0 (.loop (cA b15 119)) (EX (qhv x) (qek v v2 t55 x)) (qhx v v2 t55 t56) :=
 Sat.loop (S:=fun (zz:Int) => qhx v v2 t55 zz) (ex:=qhv) (s:=t56) h fun zz y hy => qvi R65 hR65 v v2 t55 zz hy
def qhH (v:tType) (v2:tType) (t74:Int) (t75:Int):PSt:=stt 91 [(2,.eptr (qac v)),(3,.eptr (qac v2)),(74,.int .i64 t74),(75,.int .i64 t75)] [.dead,.dead] []
def qhm (o:(Unit)⊕(Unit)):Exit:=match o with
 | (.inl _) => .ret
 | (.inr _) => .exit 2
def qfP (v:tType) (v2:tType) (t74:Int) (o:(Unit)⊕(Unit)):PSt:=match o with
 | (.inl o) => stt 91 [(4,.bool false)] [.dead,.dead] []
 | (.inr o) => stt 91 [] [.dead,.dead] []
def ql9 (R65:qdf) (v:tType) (v2:tType) (t74:Int) (t75:Int):Option ((Int)⊕((Unit)⊕(Unit))) :=
 if (decide (t75 < t74)) = true then
  (idx v.Args t75).bind fun x24 =>
  (idx v2.Args t75).bind fun x25 =>
  (R65 x24 x25).bind fun r26 =>
  if (!r26) = true then
   some (.inr (.inl ()))
  else
   some (.inl (w64 (t75 + 1)))
 else
  some (.inr (.inr ()))
def qqE (R65:qdf) (v:tType) (v2:tType) (t74:Int) (t75:Int):Option ((Unit)⊕(Unit)):=loop (fun (zz:Int) => ql9 R65 v v2 t74 zz) t75
theorem qvU (R65:qdf) (hR65:qjU R65) (v:tType) (v2:tType) (t74:Int) (t75:Int) {y:(Int)⊕((Unit)⊕(Unit))} (h:ql9 R65 v v2 t74 t75 = some y) :
  Sat Pg GE 0 (cA b15 247) (LQ (fun (zz:Int) => qhH v v2 t74 zz) qhm (qfP v v2 t74) y) (qhH v v2 t74 t75):=by
 rcases ifs h with ⟨c23,h⟩ | ⟨c23,h⟩
 ·obtain ⟨x24,bx24,h⟩:=bnd h
  obtain ⟨x25,bx25,h⟩:=bnd h
  obtain ⟨r26,br26,h⟩:=bnd h
  have p28:=fun {sc F} (r:PS sc F) => sg 0 c23 <| sdr [0,1,0,7,15,0,32,0,224,480,1023,2047] <| sv (qaH v) <| sv (qaI v) <| sv (sT27.ia (k := .i64) bx24) <| sv (qaW x24) <| sv (qaH v2) <| sv (qaI v2) <| sv (sT27.ia (k := .i64) bx25) <| sv (qaW x25) <| sca (hR65 _ _ _ br26) <| r
  rcases ifs h with ⟨c27,h⟩ | ⟨c27,h⟩
  ·obtain rfl:=lf h
   have z:=p28 <| sg 0 c27 <| eF (qhm (.inl ())) (qfP v v2 t74 (.inl ()))
   exact ovZ A15 (by intro hx; cases hx) z (by kernel_rfl)
  ·obtain rfl:=lf h
   have z:=p28 <| sg 0 c27 <| eF .normal (qhH v v2 t74 (w64 (t75 + 1)))
   exact nxZ A15 z (by kernel_rfl)
 ·obtain rfl:=lf h
  have z:=sg 0 c23 <| eF (qhm (.inr ())) (qfP v v2 t74 (.inr ()))
  exact ovZ A15 (by intro hx; cases hx) z (by kernel_rfl)
theorem qpQ (R65:qdf) (hR65:qjU R65) (v:tType) (v2:tType) (t74:Int) (t75:Int) {x:(Unit)⊕(Unit)} (h:qqE R65 v v2 t74 t75 = some x) :
  Sat Pg GE 0 (.loop (cA b15 247)) (EX (qhm x) (qfP v v2 t74 x)) (qhH v v2 t74 t75) :=
 Sat.loop (S:=fun (zz:Int) => qhH v v2 t74 zz) (ex:=qhm) (s:=t75) h fun zz y hy => qvU R65 hR65 v v2 t74 zz hy
def qoS (R65:qdf) (a:tType) (a2:tType):Option (Bool) :=
 (qqu R65 a a2).bind fun o13 =>
 if o13 = true then
  some false
 else
  (qqQ R65 a a2 (a.Preds.length:Int) 0).bind fun o22 => match o22 with
  | (.inl o22) =>
   some false
  | (.inr o22) =>
   (qqE R65 a a2 (a.Args.length:Int) 0).bind fun o29 => match o29 with
   | (.inl o29) =>
    some false
   | (.inr o29) =>
    some true
theorem qzW (R65:qdf) (hR65:qjU R65) {a:tType} {a2:tType} {r:Bool} (h:qoS R65 a a2 = some r):CC Pg GE 15 [.agg (qac a),.agg (qac a2)] (.bool r) []:=by
 obtain ⟨o13,bo13,h⟩:=bnd h
 have p15:=fun {sc F} (r:PS sc F) => se (qbH a) <| se (qbH a2) <| spa 1 <| spc (qw5 R65 hR65 a a2 bo13) <| r
 rcases ifs h with ⟨c14,h⟩ | ⟨c14,h⟩
 ·obtain rfl:=lf h
  have z:=p15 <| sg 0 c14 <| en (aI (rP (.bool false)) <| trivial)
  exact cvZ A15 Tryz.call15 Tryz.func15 (c:=b15) rfl (aI (qaf a) (aI (qaf a2) trivial)) z (by kernel_rfl)
 ·obtain ⟨o22,bo22,h⟩:=bnd h
  rcases o22 with o22 | o22
  ·obtain rfl:=lf h
   have z:=p15 <| sg 0 c14 <| sv (qbp a) <| sv (qbo a) <| svn (sT29.ln a.Preds) <| spc (e := .ret) (s1:=qek a a2 (a.Preds.length:Int) (.inl o22)) (qlt R65 hR65 a a2 (a.Preds.length:Int) 0 bo22) <| en (aI (rP (.bool false)) <| trivial)
   exact cvZ A15 Tryz.call15 Tryz.func15 (c:=b15) rfl (aI (qaf a) (aI (qaf a2) trivial)) z (by kernel_rfl)
  ·obtain ⟨o29,bo29,h⟩:=bnd h
   rcases o29 with o29 | o29
   ·obtain rfl:=lf h
    have z:=p15 <| sg 0 c14 <| sv (qbp a) <| sv (qbo a) <| svn (sT29.ln a.Preds) <| spc (e := .exit 0) (s1:=qek a a2 (a.Preds.length:Int) (.inr o22)) (qlt R65 hR65 a a2 (a.Preds.length:Int) 0 bo22) <| sv (qaH a) <| sv (qaI a) <| svn (sT27.ln a.Args) <| spc (e := .ret) (s1:=qfP a a2 (a.Args.length:Int) (.inl o29)) (qpQ R65 hR65 a a2 (a.Args.length:Int) 0 bo29) <| en (aI (rP (.bool false)) <| trivial)
    exact cvZ A15 Tryz.call15 Tryz.func15 (c:=b15) rfl (aI (qaf a) (aI (qaf a2) trivial)) z (by kernel_rfl)
   ·obtain rfl:=lf h
    have z:=p15 <| sg 0 c14 <| sv (qbp a) <| sv (qbo a) <| svn (sT29.ln a.Preds) <| spc (e := .exit 0) (s1:=qek a a2 (a.Preds.length:Int) (.inr o22)) (qlt R65 hR65 a a2 (a.Preds.length:Int) 0 bo22) <| sv (qaH a) <| sv (qaI a) <| svn (sT27.ln a.Args) <| spc (e := .exit 2) (s1:=qfP a a2 (a.Args.length:Int) (.inr o29)) (qpQ R65 hR65 a a2 (a.Args.length:Int) 0 bo29) <| en (aI (rP (.bool true)) <| trivial)
    exact cvZ A15 Tryz.call15 Tryz.func15 (c:=b15) rfl (aI (qaf a) (aI (qaf a2) trivial)) z (by kernel_rfl)
def qs9:((tType×tType)→Option (Bool))→(tType×tType)→Option (Bool):=fun (rec:(tType×tType)→Option (Bool)) (x:tType×tType) => qoS (fun a a2 => rec (a,a2)) x.1 x.2
def qm5 (a:tType) (a2:tType):Option (Bool):=fixE (qs9) (a,a2)
theorem ql7 {a:tType} {a2:tType} {r:Bool} (h:qm5 a a2 = some r):CC Pg GE 15 [.agg (qac a),.agg (qac a2)] (.bool r) [] :=
 qbX (F:=qs9) (M:=fun (x:tType×tType) (r:Bool) => CC Pg GE 15 [.agg (qac x.1),.agg (qac x.2)] (.bool r) []) (fun rec hrec x r h => qzW _ (fun a a2 r h => hrec (a,a2) r h) h) h
abbrev qiW:=(tPred→Option (waA))
abbrev qtD (R:qiW):Prop := ∀ (p:tPred) (r:waA),R p = some r→CC Pg GE 68 [.agg (qaa p)] (sl qaa r) [(0,31)]
noncomputable def b109:Code:=Tryz.f109.body.getD .skip
def A109:List Nat:=[]
def qhq (is:Bool):Option (tPred) :=
 if is = true then
  some (⟨2,([]:Str),1,([]:List tPred)⟩:tPred)
 else
  some (⟨2,([]:Str),0,([]:List tPred)⟩:tPred)
theorem qeD {is:Bool} {r:tPred} (h:qhq is = some r):CC Pg GE 109 [.bool is] (.agg (qaa r)) [(3,31)]:=by
 rcases ifs h with ⟨c1,h⟩ | ⟨c1,h⟩
 ·obtain rfl:=lf h
  have z:=sx pz31 <| sg 0 c1 <| sb (qoI 2 1) (qn9 2 1) <| sy (qal (⟨2,([]:Str),1,([]:List tPred)⟩:tPred)) <| en (aI (qaY (⟨2,([]:Str),1,([]:List tPred)⟩:tPred)) <| aI (qab (⟨2,([]:Str),1,([]:List tPred)⟩:tPred)) <| rT)
  exact cvZ A109 Tryz.call109 Tryz.func109 (c:=b109) rfl (aI trivial trivial) z (by kernel_rfl)
 ·obtain rfl:=lf h
  have z:=sx pz31 <| sg 0 c1 <| sb (qxn 2) (qxx 2) <| sy (qal (⟨2,([]:Str),0,([]:List tPred)⟩:tPred)) <| en (aI (qaY (⟨2,([]:Str),0,([]:List tPred)⟩:tPred)) <| aI (qab (⟨2,([]:Str),0,([]:List tPred)⟩:tPred)) <| rT)
  exact cvZ A109 Tryz.call109 Tryz.func109 (c:=b109) rfl (aI trivial trivial) z (by kernel_rfl)
noncomputable def b104:Code:=Tryz.f104.body.getD .skip
def A104:List Nat:=[]
def qvr (p:tPred):Option (Bool) :=
 (qlU p (⟨0,([]:Str),0,([]:List tPred)⟩:tPred)).bind fun r1 =>
 if r1 = true then
  some true
 else
  (qhq true).bind fun r4 =>
  (qlU p r4).bind fun r5 =>
  some r5
theorem qtV {p:tPred} {r:Bool} (h:qvr p = some r):CC Pg GE 104 [.agg (qaa p)] (.bool r) []:=by
 obtain ⟨r1,br1,h⟩:=bnd h
 have p3:=fun {sc F} (r:PS sc F) => se (qaL p) <| sdr [0,0,3,7,15,15,63,127,255] <| sv (qaj p) <| sb (qtu ) (qtm ) <| sca (qjb br1) <| r
 rcases ifs h with ⟨c2,h⟩ | ⟨c2,h⟩
 ·obtain rfl:=lf h
  have z:=p3 <| sg 4 c2 <| en (aI (rP (.bool true)) <| trivial)
  exact cvZ A104 Tryz.call104 Tryz.func104 (c:=b104) rfl (aI (qab p) trivial) z (by kernel_rfl)
 ·obtain ⟨r4,br4,h⟩:=bnd h
  obtain ⟨r5,br5,h⟩:=bnd h
  obtain rfl:=lf h
  have z:=p3 <| sg 4 c2 <| sv (qaj p) <| sca (qeD br4) <| sca (qjb br5) <| en (aI (rP (.bool r5)) <| trivial)
  exact cvZ A104 Tryz.call104 Tryz.func104 (c:=b104) rfl (aI (qab p) trivial) z (by kernel_rfl)
noncomputable def b68:Code:=Tryz.f68.body.getD .skip
def A68:List Nat:=[]
def qvk (p:tPred):PSt:=stt 28 [(1,.eptr (qaa p))] [.dead] []
def qj7 (p:tPred) (o:Bool):PSt:=stt 28 [(1,.eptr (qaa p)),(11,.bool o)] [.dead] []
def qrk (R72:qiW) (p:tPred):Option ((Bool)) :=
 if (p.Op == 15) = true then
  some ((p.Kids.length:Int) == 2)
 else
  some false
theorem quw (R72:qiW) (hR72:qtD R72) (p:tPred) {x:(Bool)} (h:qrk R72 p = some x) :
  Sat Pg GE 0 (cA b68 12) (EX .normal (qj7 p x)) (qvk p):=by
 have p2:=fun {sc F} (r:PS sc F) => sv (qaZ p) <| sv (qa0 p) <| r
 rcases ifs h with ⟨c1,h⟩ | ⟨c1,h⟩
 ·obtain rfl:=lf h
  have z:=p2 <| sg 4 c1 <| sv (qax p) <| sv (qay p) <| svn (sT29.ln p.Kids) <| eF .normal (qj7 p ((p.Kids.length:Int) == 2))
  exact pcZ A68 z (by kernel_rfl)
 ·obtain rfl:=lf h
  have z:=p2 <| sg 4 c1 <| eF .normal (qj7 p false)
  exact pcZ A68 z (by kernel_rfl)
def qua (R72:qiW) (p:tPred):Option (waA) :=
 (qrk R72 p).bind fun o3 =>
 if o3 = true then
  (idx p.Kids 0).bind fun x6 =>
  (R72 x6).bind fun r7 =>
  (idx p.Kids 1).bind fun x8 =>
  (R72 x8).bind fun r9 =>
  (app r7 r9).bind fun l10 =>
  some l10
 else
  (qvr p).bind fun r11 =>
  if r11 = true then
   some ([]:List tPred)
  else
   (qgC p).bind fun r14 =>
   some ([r14]:List tPred)
theorem qwV (R72:qiW) (hR72:qtD R72) {p:tPred} {r:waA} (h:qua R72 p = some r):CC Pg GE 68 [.agg (qaa p)] (sl qaa r) [(0,31)]:=by
 obtain ⟨o3,bo3,h⟩:=bnd h
 have p5:=fun {sc F} (r:PS sc F) => se (qaL p) <| spa 1 <| spc (quw R72 hR72 p bo3) <| r
 rcases ifs h with ⟨c4,h⟩ | ⟨c4,h⟩
 ·obtain ⟨x6,bx6,h⟩:=bnd h
  obtain ⟨r7,br7,h⟩:=bnd h
  obtain ⟨x8,bx8,h⟩:=bnd h
  obtain ⟨r9,br9,h⟩:=bnd h
  obtain ⟨l10,bl10,h⟩:=bnd h
  obtain rfl:=lf h
  have z:=p5 <| sg 0 c4 <| sdr [0,1,3,7,15,0,32,96,224,511,1023,2047] <| sv (qax p) <| sv (qay p) <| sv (sT29.ia (k := .i64) bx6) <| sv (qaj x6) <| sca (hR72 _ _ br7) <| sv (qax p) <| sv (qay p) <| sv (sT29.ia (k := .i64) bx8) <| sv (qaj x8) <| sca (hR72 _ _ br9) <| sv (sT29.ap bl10) <| en (aI (rP (sl qaa l10)) <| (qad qab l10))
  exact cvZ A68 Tryz.call68 Tryz.func68 (c:=b68) rfl (aI (qab p) trivial) z (by kernel_rfl)
 ·obtain ⟨r11,br11,h⟩:=bnd h
  have p13:=fun {sc F} (r:PS sc F) => p5 <| sg 0 c4 <| sv (qaj p) <| sca (qtV br11) <| r
  rcases ifs h with ⟨c12,h⟩ | ⟨c12,h⟩
  ·obtain rfl:=lf h
   have z:=p13 <| sg 0 c12 <| en (aI (rP (sl qaa ([]:List tPred))) <| (qad qab ([]:List tPred)))
   exact cvZ A68 Tryz.call68 Tryz.func68 (c:=b68) rfl (aI (qab p) trivial) z (by kernel_rfl)
  ·obtain ⟨r14,br14,h⟩:=bnd h
   obtain rfl:=lf h
   have z:=p13 <| sg 0 c12 <| sv (qaj p) <| sca (qgp br14) <| sv (sT29.mk' (v:=qbq) qaE ([r14]:List tPred) 1 (by kernel_rfl)) <| en (aI (rP (sl qaa ([r14]:List tPred))) <| (qad qab ([r14]:List tPred)))
   exact cvZ A68 Tryz.call68 Tryz.func68 (c:=b68) rfl (aI (qab p) trivial) z (by kernel_rfl)
def qtY:((tPred)→Option (waA))→(tPred)→Option (waA):=fun (rec:tPred→Option (waA)) (x:tPred) => qua (fun p => rec p) x
def qw7 (p:tPred):Option (waA):=fixE (qtY) p
theorem qxM {p:tPred} {r:waA} (h:qw7 p = some r):CC Pg GE 68 [.agg (qaa p)] (sl qaa r) [(0,31)] :=
 qbX (F:=qtY) (M:=fun (x:tPred) (r:waA) => CC Pg GE 68 [.agg (qaa x)] (sl qaa r) [(0,31)]) (fun rec hrec x r h => qwV _ (fun p r h => hrec p r h) h) h
abbrev qdE:=(tPred→Int→waA→Option (waA))
abbrev qk5 (R:qdE):Prop := ∀ (p:tPred) (op:Int) (a:waA) (r:waA),R p op a = some r→C Pg GE 107 [.agg (qaa p),.int .i64 op,sl qaa a] [((2,0),31)] [] (sl qaa r) [(0,31)] []
noncomputable def b129:Code:=Tryz.f129.body.getD .skip
def A129:List Nat:=[]
def qhh (v:tPred) (t9:waA) (t10:Int) (t11:Int):PSt:=stt 20 [(2,.func (.func 101) [] []),(4,.eptr (qaa v)),(9,sl qaa t9),(10,.int .i64 t10),(11,.int .i64 t11)] [.dead] []
def qhI (o:(Unit)⊕(Unit)):Exit:=match o with
 | (.inl _) => .ret
 | (.inr _) => .exit 0
def qfQ (v:tPred) (t9:waA) (t10:Int) (o:(Unit)⊕(Unit)):PSt:=match o with
 | (.inl o) => stt 20 [(6,.bool true)] [.dead] []
 | (.inr o) => stt 20 [] [.dead] []
def qq4 (v:tPred) (t9:waA) (t10:Int) (t11:Int):Option ((Int)⊕((Unit)⊕(Unit))) :=
 if (decide (t11 < t10)) = true then
  (idx t9 t11).bind fun x2 =>
  (qlU v x2).bind fun r3 =>
  if r3 = true then
   some (.inr (.inl ()))
  else
   some (.inl (w64 (t11 + 1)))
 else
  some (.inr (.inr ()))
def qu9 (v:tPred) (t9:waA) (t10:Int) (t11:Int):Option ((Unit)⊕(Unit)):=loop (fun (zz:Int) => qq4 v t9 t10 zz) t11
theorem qvo (v:tPred) (t9:waA) (t10:Int) (t11:Int) {y:(Int)⊕((Unit)⊕(Unit))} (h:qq4 v t9 t10 t11 = some y) :
  Sat Pg GE 0 (cA b129 55) (LQ (fun (zz:Int) => qhh v t9 t10 zz) qhI (qfQ v t9 t10) y) (qhh v t9 t10 t11):=by
 rcases ifs h with ⟨c1,h⟩ | ⟨c1,h⟩
 ·obtain ⟨x2,bx2,h⟩:=bnd h
  obtain ⟨r3,br3,h⟩:=bnd h
  have p5:=fun {sc F} (r:PS sc F) => sg 0 c1 <| sv (sT29.ia (k := .i64) bx2) <| sv (qaj x2) <| sx pz31 <| sx (qaw x2) <| sv (qaj v) <| sv (qar x2 []) <| sca (qjb br3) <| r
  rcases ifs h with ⟨c4,h⟩ | ⟨c4,h⟩
  ·obtain rfl:=lf h
   have z:=p5 <| sg 0 c4 <| eFx 0 (qhI (.inl ())) (qfQ v t9 t10 (.inl ())) rfl (qbP (aI trivial trivial)) (aI trivial trivial)
   exact qpJ (A:=A129) mixed (by intro hx; cases hx) z (by kernel_rfl)
  ·obtain rfl:=lf h
   have z:=p5 <| sg 0 c4 <| eFx 0 .normal (qhh v t9 t10 (w64 (t11 + 1))) rfl (qbP (aI (aI trivial trivial) (aI (qbO (qab v)) (aI (up (qad qab t9)) (aI trivial (aI trivial trivial)))))) (aI trivial trivial)
   exact qbi (A:=A129) mixed z (by kernel_rfl)
 ·obtain rfl:=lf h
  have z:=sg 0 c1 <| eF (qhI (.inr ())) (qfQ v t9 t10 (.inr ()))
  exact ovZ A129 (by intro hx; cases hx) z (by kernel_rfl)
theorem qp1 (v:tPred) (t9:waA) (t10:Int) (t11:Int) {x:(Unit)⊕(Unit)} (h:qu9 v t9 t10 t11 = some x) :
  Sat Pg GE 0 (.loop (cA b129 55)) (EX (qhI x) (qfQ v t9 t10 x)) (qhh v t9 t10 t11) :=
 Sat.loop (S:=fun (zz:Int) => qhh v t9 t10 zz) (ex:=qhI) (s:=t11) h fun zz y hy => qvo v t9 t10 zz hy
def qB7 (a:waA) (a2:tPred):Option (Bool) :=
 (qu9 a2 a (a.length:Int) 0).bind fun o6 => match o6 with
 | (.inl o6) =>
  some true
 | (.inr o6) =>
  some false
theorem qA6 {a:waA} {a2:tPred} {r:Bool} (h:qB7 a a2 = some r):CC Pg GE 129 [sl qaa a,.agg (qaa a2),.func (.func 101) [] []] (.bool r) []:=by
 obtain ⟨o6,bo6,h⟩:=bnd h
 rcases o6 with o6 | o6
 ·obtain rfl:=lf h
  have z:=se (qaL a2) <| svn (sT29.ln a) <| spc (e := .ret) (s1:=qfQ a2 a (a.length:Int) (.inl o6)) (qp1 a2 a (a.length:Int) 0 bo6) <| en (aI (rP (.bool true)) <| trivial)
  exact cvZ A129 Tryz.call129 Tryz.func129 (c:=b129) rfl (aI (qad qab a) (aI (qab a2) (aI (aI trivial trivial) trivial))) z (by kernel_rfl)
 ·obtain rfl:=lf h
  have z:=se (qaL a2) <| svn (sT29.ln a) <| spc (e := .exit 0) (s1:=qfQ a2 a (a.length:Int) (.inr o6)) (qp1 a2 a (a.length:Int) 0 bo6) <| en (aI (rP (.bool false)) <| trivial)
  exact cvZ A129 Tryz.call129 Tryz.func129 (c:=b129) rfl (aI (qad qab a) (aI (qab a2) (aI (aI trivial trivial) trivial))) z (by kernel_rfl)
noncomputable def b107:Code:=Tryz.f107.body.getD .skip
def A107:List Nat:=[18,31,36]
def qe7 (op:Int) (v:waA) (p:tPred) (t10:waA) (t11:Int) (t12:Int):PSt:=stt 37 [(1,.int .i64 op),(2,sl qaa v),(3,.eptr (qaa p)),(10,sl qaa t10),(11,.int .i64 t11),(12,.int .i64 t12)] [.dead] [((2,0),31)]
def qkr (op:Int) (p:tPred) (t10:waA) (t11:Int) (o:waA):PSt:=stt 37 [(1,.int .i64 op),(2,sl qaa o),(3,.eptr (qaa p))] [.dead] [((2,0),31)]
def qnK (R76:qdE) (op:Int) (t10:waA) (t11:Int) (v:waA) (t12:Int):Option ((waA×Int)⊕((waA))) :=
 if (decide (t12 < t11)) = true then
  (idx t10 t12).bind fun x2 =>
  (R76 x2 op v).bind fun r3 =>
  some (.inl (r3,w64 (t12 + 1)))
 else
  some (.inr v)
def qrH (R76:qdE) (op:Int) (t10:waA) (t11:Int) (v:waA) (t12:Int):Option ((waA)):=loop (fun (zz:waA×Int) => qnK R76 op t10 t11 zz.1 zz.2) (v,t12)
theorem qtb (R76:qdE) (hR76:qk5 R76) (op:Int) (v:waA) (p:tPred) (t10:waA) (t11:Int) (t12:Int) {y:(waA×Int)⊕((waA))} (h:qnK R76 op t10 t11 v t12 = some y) :
  Sat Pg GE 1000 (cA b107 55) (LQ (fun (zz:waA×Int) => qe7 op zz.1 p t10 t11 zz.2) (fun _ => .exit 0) (qkr op p t10 t11) y) (qe7 op v p t10 t11 t12):=by
 rcases ifs h with ⟨c1,h⟩ | ⟨c1,h⟩
 ·obtain ⟨x2,bx2,h⟩:=bnd h
  obtain ⟨r3,br3,h⟩:=bnd h
  obtain rfl:=lf h
  have z:=sg 0 c1 <| sv (sT29.ia (k := .i64) bx2) <| sv (qaj x2) <| sx pz31 <| sx (qaw x2) <| sv (qar x2 []) <| si (.cg ⟨[],[.agg (qaa x2),.int .i64 op,sl qaa v],[⟨2,18,0,31⟩],[],[],[],[],sl qaa r3,sl qaa r3,[(0,31)]⟩) (hR76 _ _ _ _ br3) <| sf (aI (xR [] (.agg (qaa x2)) (qab x2)) (aI (xR [] (.int .i64 op) trivial) (aI (xR [] (sl qaa v) (qad qab v)) trivial))) <| sf trivial <| sf trivial <| sf (xR [] (sl qaa r3) (qad qab r3)) <| eFx 1000 .normal (qe7 op r3 p t10 t11 (w64 (t12 + 1))) rfl (qbP (aI trivial (aI (up (qad qab r3)) (aI (qbO (qab p)) (aI (up (qad qab t10)) (aI trivial (aI trivial trivial))))))) (aI trivial trivial)
  exact qbi (A:=A107) mixed z (by kernel_rfl)
 ·obtain rfl:=lf h
  have z:=sg 0 c1 <| eF (.exit 0) (qkr op p t10 t11 v)
  exact ovZ A107 (by intro hx; cases hx) z (by kernel_rfl)
theorem que (R76:qdE) (hR76:qk5 R76) (op:Int) (v:waA) (p:tPred) (t10:waA) (t11:Int) (t12:Int) {x:(waA)} (h:qrH R76 op t10 t11 v t12 = some x) :
  Sat Pg GE 1000 (.loop (cA b107 55)) (EX (.exit 0) (qkr op p t10 t11 x)) (qe7 op v p t10 t11 t12) :=
 Sat.loop (S:=fun (zz:waA×Int) => qe7 op zz.1 p t10 t11 zz.2) (ex:=(fun _ => .exit 0)) (s:=(v,t12)) h fun zz y hy => qtb R76 hR76 op zz.1 p t10 t11 zz.2 hy
def qv9 (op:Int) (v:waA) (p:tPred):PSt:=stt 37 [(1,.int .i64 op),(2,sl qaa v),(3,.eptr (qaa p))] [.dead] [((2,0),31)]
def qj5 (op:Int) (v:waA) (p:tPred) (o:Bool):PSt:=stt 37 [(2,sl qaa v),(3,.eptr (qaa p)),(30,.bool o)] [.dead] [((2,0),31)]
def qr9 (R76:qdE) (op:Int) (v:waA) (p:tPred):Option ((Bool)) :=
 if (p.Op == op) = true then
  (qB7 v p).bind fun r7 =>
  some (!r7)
 else
  some false
theorem quB (R76:qdE) (hR76:qk5 R76) (op:Int) (v:waA) (p:tPred) {x:(Bool)} (h:qr9 R76 op v p = some x) :
  Sat Pg GE 1000 (cA b107 28) (EX .normal (qj5 op v p x)) (qv9 op v p):=by
 have p6:=fun {sc F} (r:PS sc F) => sv (qaZ p) <| sv (qa0 p) <| r
 rcases ifs h with ⟨c5,h⟩ | ⟨c5,h⟩
 ·obtain ⟨r7,br7,h⟩:=bnd h
  obtain rfl:=lf h
  have z:=p6 <| sg 5 c5 <| sv (qaj p) <| sca (qA6 br7) <| eF .normal (qj5 op v p (!r7))
  exact pcZ A107 z (by kernel_rfl)
 ·obtain rfl:=lf h
  have z:=p6 <| sg 5 c5 <| eF .normal (qj5 op v p false)
  exact pcZ A107 z (by kernel_rfl)
def qt1 (R76:qdE) (p:tPred) (op:Int) (a:waA):Option (waA) :=
 (qrH R76 op p.Kids (p.Kids.length:Int) a 0).bind fun o4 =>
 (qr9 R76 op o4 p).bind fun o8 =>
 if o8 = true then
  (qgC p).bind fun r11 =>
  (app o4 ([r11]:List tPred)).bind fun l12 =>
  some l12
 else
  some o4
theorem qwK (R76:qdE) (hR76:qk5 R76) {p:tPred} {op:Int} {a:waA} {r:waA} (h:qt1 R76 p op a = some r):C Pg GE 107 [.agg (qaa p),.int .i64 op,sl qaa a] [((2,0),31)] [] (sl qaa r) [(0,31)] []:=by
 obtain ⟨o4,bo4,h⟩:=bnd h
 obtain ⟨o8,bo8,h⟩:=bnd h
 have p10:=fun {sc F} (r:PS sc F) => se (qaL p) <| sv (qax p) <| sv (qay p) <| svn (sT29.ln p.Kids) <| spc (que R76 hR76 op a p p.Kids (p.Kids.length:Int) 0 bo4) <| spa 1 <| spc (quB R76 hR76 op o4 p bo8) <| r
 rcases ifs h with ⟨c9,h⟩ | ⟨c9,h⟩
 ·obtain ⟨r11,br11,h⟩:=bnd h
  obtain ⟨l12,bl12,h⟩:=bnd h
  obtain rfl:=lf h
  have z:=p10 <| sg 0 c9 <| sv (qaj p) <| sca (qgp br11) <| sv (sT29.mk' (v:=qbq) qaE ([r11]:List tPred) 1 (by kernel_rfl)) <| sv (sT29.ap bl12) <| en (aI (rP (sl qaa l12)) <| aI (up (n:=0) (qad qab l12)) <| aI (rL []) <| trivial)
  exact C.evGp (A:=A107) mixed (m:=1000) (c:=b107) rfl Tryz.call107 Tryz.func107 rfl z (by kernel_rfl)
 ·obtain rfl:=lf h
  have z:=p10 <| sg 0 c9 <| en (aI (rP (sl qaa o4)) <| aI (up (n:=0) (qad qab o4)) <| aI (rL []) <| trivial)
  exact C.evGp (A:=A107) mixed (m:=1000) (c:=b107) rfl Tryz.call107 Tryz.func107 rfl z (by kernel_rfl)
def qtZ:((tPred×Int×waA)→Option (waA))→(tPred×Int×waA)→Option (waA):=fun (rec:(tPred×Int×waA)→Option (waA)) (x:tPred×Int×waA) => qt1 (fun p op a => rec (p,op,a)) x.1 x.2.1 x.2.2
def qxy (p:tPred) (op:Int) (a:waA):Option (waA):=fixE (qtZ) (p,op,a)
theorem qx7 {p:tPred} {op:Int} {a:waA} {r:waA} (h:qxy p op a = some r):C Pg GE 107 [.agg (qaa p),.int .i64 op,sl qaa a] [((2,0),31)] [] (sl qaa r) [(0,31)] [] :=
 qbX (F:=qtZ) (M:=fun (x:tPred×Int×waA) (r:waA) => C Pg GE 107 [.agg (qaa x.1),.int .i64 x.2.1,sl qaa x.2.2] [((2,0),31)] [] (sl qaa r) [(0,31)] []) (fun rec hrec x r h => qwK _ (fun p op a r h => hrec (p,op,a) r h) h) h
noncomputable def b70:Code:=Tryz.f70.body.getD .skip
def A70:List Nat:=[]
def qy9 (p:tPred):Option (waA) :=
 (qxy p 4 ([]:List tPred)).bind fun r1 =>
 some r1
theorem qAb {p:tPred} {r:waA} (h:qy9 p = some r):CC Pg GE 70 [.agg (qaa p)] (sl qaa r) [(0,31)]:=by
 obtain ⟨r1,br1,h⟩:=bnd h
 obtain rfl:=lf h
 have z:=se (qaL p) <| sv (qaj p) <| si (.cg ⟨[],[.agg (qaa p),.int .i64 4,sl qaa ([]:List tPred)],[⟨2,1000000,0,31⟩],[],[],[],[],sl qaa r1,sl qaa r1,[(0,31)]⟩) (qx7 br1) <| sf (aI (xR [] (.agg (qaa p)) (qab p)) (aI (xR [] (.int .i64 4) trivial) (aI (xR [] (sl qaa ([]:List tPred)) (qad qab ([]:List tPred))) trivial))) <| sf trivial <| sf trivial <| sf (xR [] (sl qaa r1) (qad qab r1)) <| en (aI (rP (sl qaa r1)) <| (qad qab r1))
 exact cvZ A70 Tryz.call70 Tryz.func70 (c:=b70) rfl (aI (qab p) trivial) z (by kernel_rfl)
noncomputable def b71:Code:=Tryz.f71.body.getD .skip
def A71:List Nat:=[]
def qnF (a:tPred) (a2:waB):Option (Bool) :=
 (qbT a2 a.Name).bind fun r1 =>
 some r1
theorem qrR {a:tPred} {a2:waB} {r:Bool} (h:qnF a a2 = some r):CC Pg GE 71 [.agg (qaa a),.eptr ((cL cS) a2)] (.bool r) []:=by
 obtain ⟨r1,br1,h⟩:=bnd h
 obtain rfl:=lf h
 have z:=se (qaL a) <| sv (qaR sc22 (sl cS a2) []) <| sv (qa9 a) <| sv (qbm a) <| sca (qb7 br1) <| en (aI (rP (.bool r1)) <| trivial)
 exact cvZ A71 Tryz.call71 Tryz.func71 (c:=b71) rfl (aI (qab a) (aI (clLs clS a2) trivial)) z (by kernel_rfl)
noncomputable def b106:Code:=Tryz.f106.body.getD .skip
def A106:List Nat:=[10,17]
def qb4 (s:waA) (v:waB) (t7:Int) (t8:Int):PSt:=stt 19 [(0,sl qaa s),(1,.func (.func 71) [] [.eptr ((cL cS) v)]),(7,.int .i64 t7),(8,.int .i64 t8)] [] []
def qb8 (o:(Int)⊕(Unit)):Exit:=match o with
 | (.inl _) => .ret
 | (.inr _) => .exit 0
def qbE (s:waA) (v:waB) (t7:Int) (o:(Int)⊕(Unit)):PSt:=match o with
 | (.inl o) => stt 19 [(4,.int .i64 o)] [] []
 | (.inr o) => stt 19 [] [] []
def qhG (s:waA) (v:waB) (t7:Int) (t8:Int):Option ((Int)⊕((Int)⊕(Unit))) :=
 if (decide (t8 < t7)) = true then
  (idx s t8).bind fun x2 =>
  (qnF x2 v).bind fun r3 =>
  if r3 = true then
   some (.inr (.inl t8))
  else
   some (.inl (w64 (t8 + 1)))
 else
  some (.inr (.inr ()))
def qi8 (s:waA) (v:waB) (t7:Int) (t8:Int):Option ((Int)⊕(Unit)):=loop (fun (zz:Int) => qhG s v t7 zz) t8
theorem qlx (s:waA) (v:waB) (t7:Int) (t8:Int) {y:(Int)⊕((Int)⊕(Unit))} (h:qhG s v t7 t8 = some y) :
  Sat Pg GE 0 (cA b106 55) (LQ (fun (zz:Int) => qb4 s v t7 zz) qb8 (qbE s v t7) y) (qb4 s v t7 t8):=by
 rcases ifs h with ⟨c1,h⟩ | ⟨c1,h⟩
 ·obtain ⟨x2,bx2,h⟩:=bnd h
  obtain ⟨r3,br3,h⟩:=bnd h
  have p5:=fun {sc F} (r:PS sc F) => sg 0 c1 <| sv (sT29.ia (k := .i64) bx2) <| sv (qaj x2) <| sca (qrR br3) <| r
  rcases ifs h with ⟨c4,h⟩ | ⟨c4,h⟩
  ·obtain rfl:=lf h
   have z:=p5 <| sg 0 c4 <| eF (qb8 (.inl t8)) (qbE s v t7 (.inl t8))
   exact ovZ A106 (by intro hx; cases hx) z (by kernel_rfl)
  ·obtain rfl:=lf h
   have z:=p5 <| sg 0 c4 <| eF .normal (qb4 s v t7 (w64 (t8 + 1)))
   exact nxZ A106 z (by kernel_rfl)
 ·obtain rfl:=lf h
  have z:=sg 0 c1 <| eF (qb8 (.inr ())) (qbE s v t7 (.inr ()))
  exact ovZ A106 (by intro hx; cases hx) z (by kernel_rfl)
theorem qgN (s:waA) (v:waB) (t7:Int) (t8:Int) {x:(Int)⊕(Unit)} (h:qi8 s v t7 t8 = some x) :
  Sat Pg GE 0 (.loop (cA b106 55)) (EX (qb8 x) (qbE s v t7 x)) (qb4 s v t7 t8) :=
 Sat.loop (S:=fun (zz:Int) => qb4 s v t7 zz) (ex:=qb8) (s:=t8) h fun zz y hy => qlx s v t7 zz hy
def qkQ (s:waA) (c:waB):Option (Int) :=
 (qi8 s c (s.length:Int) 0).bind fun o6 => match o6 with
 | (.inl o6) =>
  some o6
 | (.inr o6) =>
  some (-1)
theorem qof {s:waA} {c:waB} {r:Int} (h:qkQ s c = some r):CC Pg GE 106 [sl qaa s,.func (.func 71) [] [.eptr ((cL cS) c)]] (.int .i64 r) []:=by
 obtain ⟨o6,bo6,h⟩:=bnd h
 rcases o6 with o6 | o6
 ·obtain rfl:=lf h
  have z:=svn (sT29.ln s) <| spc (e := .ret) (s1:=qbE s c (s.length:Int) (.inl o6)) (qgN s c (s.length:Int) 0 bo6) <| en (aI (rP (.int .i64 o6)) <| trivial)
  exact cvZ A106 Tryz.call106 Tryz.func106 (c:=b106) rfl (aI (qad qab s) (aI (aI trivial (aI (clLs clS c) trivial)) trivial)) z (by kernel_rfl)
 ·obtain rfl:=lf h
  have z:=svn (sT29.ln s) <| spc (e := .exit 0) (s1:=qbE s c (s.length:Int) (.inr o6)) (qgN s c (s.length:Int) 0 bo6) <| en (aI (rP (.int .i64 (-1))) <| trivial)
  exact cvZ A106 Tryz.call106 Tryz.func106 (c:=b106) rfl (aI (qad qab s) (aI (aI trivial (aI (clLs clS c) trivial)) trivial)) z (by kernel_rfl)
noncomputable def b69:Code:=Tryz.f69.body.getD .skip
def A69:List Nat:=[]
def qkp (s:waA) (c:waB):Option (Bool) :=
 (qkQ s c).bind fun r1 =>
 some (decide (r1 ≥ 0))
theorem qnz {s:waA} {c:waB} {r:Bool} (h:qkp s c = some r):CC Pg GE 69 [sl qaa s,.func (.func 71) [] [.eptr ((cL cS) c)]] (.bool r) []:=by
 obtain ⟨r1,br1,h⟩:=bnd h
 obtain rfl:=lf h
 have z:=sca (qof br1) <| en (aI (rP (.bool (decide (r1 ≥ 0)))) <| trivial)
 exact cvZ A69 Tryz.call69 Tryz.func69 (c:=b69) rfl (aI (qad qab s) (aI (aI trivial (aI (clLs clS c) trivial)) trivial)) z (by kernel_rfl)
noncomputable def b73:Code:=Tryz.f73.body.getD .skip
def A73:List Nat:=[25]
def qeq (v:Bool) (t8:waA) (t9:Int) (t10:Int) (m:Int) (m2:Str) (m3:Int) (m4:waA) (m5:Int) (m6:Str) (m7:Int) (m8:waA):PSt:=stt 33 [(2,.bptr 0 0),(3,.bptr 1 0),(4,.bool v),(8,sl qaa t8),(9,.int .i64 t9),(10,.int .i64 t10)] [.cells [.int .i64 m,.str m2,.int .i64 m3,sl qaa m4] [(3,31)],.cells [.int .i64 m5,.str m6,.int .i64 m7,sl qaa m8] []] []
def qhj (o:(Int×Str×Int×waA×Int×Str×Int×waA)⊕(Int×Str×Int×waA×Int×Str×Int×waA)):Exit:=match o with
 | (.inl _) => .ret
 | (.inr _) => .exit 0
def qfC (t8:waA) (t9:Int) (o:(Int×Str×Int×waA×Int×Str×Int×waA)⊕(Int×Str×Int×waA×Int×Str×Int×waA)):PSt:=match o with
 | (.inl o) => stt 33 [(2,.bptr 0 0)] [.cells [.int .i64 o.1,.str o.2.1,.int .i64 o.2.2.1,sl qaa o.2.2.2.1] [(3,31)],.cells [.int .i64 o.2.2.2.2.1,.str o.2.2.2.2.2.1,.int .i64 o.2.2.2.2.2.2.1,sl qaa o.2.2.2.2.2.2.2] []] []
 | (.inr o) => stt 33 [(2,.bptr 0 0),(3,.bptr 1 0)] [.cells [.int .i64 o.1,.str o.2.1,.int .i64 o.2.2.1,sl qaa o.2.2.2.1] [(3,31)],.cells [.int .i64 o.2.2.2.2.1,.str o.2.2.2.2.2.1,.int .i64 o.2.2.2.2.2.2.1,sl qaa o.2.2.2.2.2.2.2] []] []
def qrg (t8:waA) (t9:Int) (v:Bool) (t10:Int) (m:Int) (m2:Str) (m3:Int) (m4:waA) (m5:Int) (m6:Str) (m7:Int) (m8:waA):Option ((Bool×Int×Int×Str×Int×waA×Int×Str×Int×waA)⊕((Int×Str×Int×waA×Int×Str×Int×waA)⊕(Int×Str×Int×waA×Int×Str×Int×waA))) :=
 if (decide (t10 < t9)) = true then
  (idx t8 t10).bind fun x3 =>
  (qvr x3).bind fun r4 =>
  if r4 = true then
   some (.inl (v,w64 (t10 + 1),m,m2,m3,m4,m5,m6,m7,m8))
  else
   (qhq false).bind fun r7 =>
   (qlU x3 r7).bind fun r8 =>
   if r8 = true then
    (qhq false).bind fun r11 =>
    some (.inr (.inl (r11.Op,r11.Name,r11.N,r11.Kids,m5,m6,m7,m8)))
   else
    if v = true then
     (qgC x3).bind fun r14 =>
     some (.inl (v,w64 (t10 + 1),m,m2,m3,m4,15,([]:Str),0,([(⟨m5,m6,m7,m8⟩:tPred),r14]:List tPred)))
    else
     (qgC x3).bind fun r15 =>
     some (.inl (true,w64 (t10 + 1),m,m2,m3,m4,r15.Op,r15.Name,r15.N,r15.Kids))
 else
  some (.inr (.inr (m,m2,m3,m4,m5,m6,m7,m8)))
def qwq (t8:waA) (t9:Int) (v:Bool) (t10:Int) (m:Int) (m2:Str) (m3:Int) (m4:waA) (m5:Int) (m6:Str) (m7:Int) (m8:waA):Option ((Int×Str×Int×waA×Int×Str×Int×waA)⊕(Int×Str×Int×waA×Int×Str×Int×waA)):=loop (fun (zz:Bool×Int×Int×Str×Int×waA×Int×Str×Int×waA) => qrg t8 t9 zz.1 zz.2.1 zz.2.2.1 zz.2.2.2.1 zz.2.2.2.2.1 zz.2.2.2.2.2.1 zz.2.2.2.2.2.2.1 zz.2.2.2.2.2.2.2.1 zz.2.2.2.2.2.2.2.2.1 zz.2.2.2.2.2.2.2.2.2) (v,t10,m,m2,m3,m4,m5,m6,m7,m8)
theorem qvb (v:Bool) (t8:waA) (t9:Int) (t10:Int) (m:Int) (m2:Str) (m3:Int) (m4:waA) (m5:Int) (m6:Str) (m7:Int) (m8:waA) {y:(Bool×Int×Int×Str×Int×waA×Int×Str×Int×waA)⊕((Int×Str×Int×waA×Int×Str×Int×waA)⊕(Int×Str×Int×waA×Int×Str×Int×waA))} (h:qrg t8 t9 v t10 m m2 m3 m4 m5 m6 m7 m8 = some y) :
  Sat Pg GE 0 (cA b73 119) (LQ (fun (zz:Bool×Int×Int×Str×Int×waA×Int×Str×Int×waA) => qeq zz.1 t8 t9 zz.2.1 zz.2.2.1 zz.2.2.2.1 zz.2.2.2.2.1 zz.2.2.2.2.2.1 zz.2.2.2.2.2.2.1 zz.2.2.2.2.2.2.2.1 zz.2.2.2.2.2.2.2.2.1 zz.2.2.2.2.2.2.2.2.2) qhj (qfC t8 t9) y) (qeq v t8 t9 t10 m m2 m3 m4 m5 m6 m7 m8):=by
 rcases ifs h with ⟨c2,h⟩ | ⟨c2,h⟩
 ·obtain ⟨x3,bx3,h⟩:=bnd h
  obtain ⟨r4,br4,h⟩:=bnd h
  have p6:=fun {sc F} (r:PS sc F) => sg 0 c2 <| sv (sT29.ia (k := .i64) bx3) <| sv (qaj x3) <| sx pz31 <| sx (qaw x3) <| sv (qar x3 []) <| sca (qtV br4) <| r
  rcases ifs h with ⟨c5,h⟩ | ⟨c5,h⟩
  ·obtain rfl:=lf h
   have z:=p6 <| sg 0 c5 <| eFx 0 .normal (qeq v t8 t9 (w64 (t10 + 1)) m m2 m3 m4 m5 m6 m7 m8) rfl (qbP (aI (qch rfl) (aI (qch rfl) (aI trivial (aI (up (qad qab t8)) (aI trivial (aI trivial trivial))))))) (aI (aI trivial (aI trivial (aI trivial (aI (up (qad qab m4)) trivial)))) (aI (aI trivial (aI trivial (aI trivial (aI (up (qad qab m8)) trivial)))) trivial))
   exact qbi (A:=A73) mixed z (by kernel_rfl)
  ·obtain ⟨r7,br7,h⟩:=bnd h
   obtain ⟨r8,br8,h⟩:=bnd h
   have p10:=fun {sc F} (r:PS sc F) => p6 <| sg 0 c5 <| sdr [0,0,3,7] <| sv (qar x3 []) <| sca (qeD br7) <| sca (qjb br8) <| r
   rcases ifs h with ⟨c9,h⟩ | ⟨c9,h⟩
   ·obtain ⟨r11,br11,h⟩:=bnd h
    obtain rfl:=lf h
    have z:=p10 <| sg 0 c9 <| sca (qeD br11) <| sy (qal r11) <| eFx 0 (qhj (.inl (r11.Op,r11.Name,r11.N,r11.Kids,m5,m6,m7,m8))) (qfC t8 t9 (.inl (r11.Op,r11.Name,r11.N,r11.Kids,m5,m6,m7,m8))) rfl (qbP (aI (qch rfl) trivial)) (aI (aI trivial (aI trivial (aI trivial (aI (up (qad qab r11.Kids)) trivial)))) (aI (aI trivial (aI trivial (aI trivial (aI (up (qad qab m8)) trivial)))) trivial))
    exact qpJ (A:=A73) mixed (by intro hx; cases hx) z (by kernel_rfl)
   ·have p13:=fun {sc F} (r:PS sc F) => p10 <| sg 0 c9 <| r
    rcases ifs h with ⟨c12,h⟩ | ⟨c12,h⟩
    ·obtain ⟨r14,br14,h⟩:=bnd h
     obtain rfl:=lf h
     have z:=p13 <| sg 0 c12 <| sdr [0,0,2,7,15,31] <| sv (qar (⟨m5,m6,m7,m8⟩:tPred) []) <| sv (qar x3 []) <| sca (qgp br14) <| sv (sT29.mk' (v:=qbq) qaE ([(⟨m5,m6,m7,m8⟩:tPred),r14]:List tPred) 2 (by kernel_rfl)) <| sv (qtJ 15 ([(⟨m5,m6,m7,m8⟩:tPred),r14]:List tPred)) <| sx (qaw (⟨15,([]:Str),0,([(⟨m5,m6,m7,m8⟩:tPred),r14]:List tPred)⟩:tPred)) <| eFx 0 .normal (qeq v t8 t9 (w64 (t10 + 1)) m m2 m3 m4 15 ([]:Str) 0 ([(⟨m5,m6,m7,m8⟩:tPred),r14]:List tPred)) rfl (qbP (aI (qch rfl) (aI (qch rfl) (aI trivial (aI (up (qad qab t8)) (aI trivial (aI trivial trivial))))))) (aI (aI trivial (aI trivial (aI trivial (aI (up (qad qab m4)) trivial)))) (aI (aI trivial (aI trivial (aI trivial (aI (up (qad qab ([(⟨m5,m6,m7,m8⟩:tPred),r14]:List tPred))) trivial)))) trivial))
     exact qbi (A:=A73) mixed z (by kernel_rfl)
    ·obtain ⟨r15,br15,h⟩:=bnd h
     obtain rfl:=lf h
     have z:=p13 <| sg 0 c12 <| sv (qar x3 []) <| sca (qgp br15) <| sy (qal r15) <| eFx 0 .normal (qeq true t8 t9 (w64 (t10 + 1)) m m2 m3 m4 r15.Op r15.Name r15.N r15.Kids) rfl (qbP (aI (qch rfl) (aI (qch rfl) (aI trivial (aI (up (qad qab t8)) (aI trivial (aI trivial trivial))))))) (aI (aI trivial (aI trivial (aI trivial (aI (up (qad qab m4)) trivial)))) (aI (aI trivial (aI trivial (aI trivial (aI (up (qad qab r15.Kids)) trivial)))) trivial))
     exact qbi (A:=A73) mixed z (by kernel_rfl)
 ·obtain rfl:=lf h
  have z:=sg 0 c2 <| eF (qhj (.inr (m,m2,m3,m4,m5,m6,m7,m8))) (qfC t8 t9 (.inr (m,m2,m3,m4,m5,m6,m7,m8)))
  exact ovZ A73 (by intro hx; cases hx) z (by kernel_rfl)
theorem qp6 (v:Bool) (t8:waA) (t9:Int) (t10:Int) (m:Int) (m2:Str) (m3:Int) (m4:waA) (m5:Int) (m6:Str) (m7:Int) (m8:waA) {x:(Int×Str×Int×waA×Int×Str×Int×waA)⊕(Int×Str×Int×waA×Int×Str×Int×waA)} (h:qwq t8 t9 v t10 m m2 m3 m4 m5 m6 m7 m8 = some x) :
  Sat Pg GE 0 (.loop (cA b73 119)) (EX (qhj x) (qfC t8 t9 x)) (qeq v t8 t9 t10 m m2 m3 m4 m5 m6 m7 m8) :=
 Sat.loop (S:=fun (zz:Bool×Int×Int×Str×Int×waA×Int×Str×Int×waA) => qeq zz.1 t8 t9 zz.2.1 zz.2.2.1 zz.2.2.2.1 zz.2.2.2.2.1 zz.2.2.2.2.2.1 zz.2.2.2.2.2.2.1 zz.2.2.2.2.2.2.2.1 zz.2.2.2.2.2.2.2.2.1 zz.2.2.2.2.2.2.2.2.2) (ex:=qhj) (s:=(v,t10,m,m2,m3,m4,m5,m6,m7,m8)) h fun zz y hy => qvb zz.1 t8 t9 zz.2.1 zz.2.2.1 zz.2.2.2.1 zz.2.2.2.2.1 zz.2.2.2.2.2.1 zz.2.2.2.2.2.2.1 zz.2.2.2.2.2.2.2.1 zz.2.2.2.2.2.2.2.2.1 zz.2.2.2.2.2.2.2.2.2 hy
def qCh (a:waA):Option (tPred) :=
 (qhq true).bind fun r1 =>
 (qwq a (a.length:Int) false 0 0 ([]:Str) 0 ([]:List tPred) r1.Op r1.Name r1.N r1.Kids).bind fun o16 => match o16 with
 | (.inl o16) =>
  some (⟨o16.1,o16.2.1,o16.2.2.1,o16.2.2.2.1⟩:tPred)
 | (.inr o16) =>
  some (⟨o16.2.2.2.2.1,o16.2.2.2.2.2.1,o16.2.2.2.2.2.2.1,o16.2.2.2.2.2.2.2⟩:tPred)
theorem qBG {a:waA} {r:tPred} (h:qCh a = some r):CC Pg GE 73 [sl qaa a] (.agg (qaa r)) []:=by
 obtain ⟨r1,br1,h⟩:=bnd h
 obtain ⟨o16,bo16,h⟩:=bnd h
 rcases o16 with o16 | o16
 ·obtain rfl:=lf h
  have z:=sx pz31 <| sca (qeD br1) <| sx pz31 <| sy (qal r1) <| svn (sT29.ln a) <| spc (e := .ret) (s1:=qfC a (a.length:Int) (.inl o16)) (qp6 false a (a.length:Int) 0 0 ([]:Str) 0 ([]:List tPred) r1.Op r1.Name r1.N r1.Kids bo16) <| en (aI (qaY (⟨o16.1,o16.2.1,o16.2.2.1,o16.2.2.2.1⟩:tPred)) <| (qab (⟨o16.1,o16.2.1,o16.2.2.1,o16.2.2.2.1⟩:tPred)))
  exact cvZ A73 Tryz.call73 Tryz.func73 (c:=b73) rfl (aI (qad qab a) trivial) z (by kernel_rfl)
 ·obtain rfl:=lf h
  have z:=sx pz31 <| sca (qeD br1) <| sx pz31 <| sy (qal r1) <| svn (sT29.ln a) <| spc (e := .exit 0) (s1:=qfC a (a.length:Int) (.inr o16)) (qp6 false a (a.length:Int) 0 0 ([]:Str) 0 ([]:List tPred) r1.Op r1.Name r1.N r1.Kids bo16) <| sv (qar (⟨o16.2.2.2.2.1,o16.2.2.2.2.2.1,o16.2.2.2.2.2.2.1,o16.2.2.2.2.2.2.2⟩:tPred) []) <| sx (qaw (⟨o16.2.2.2.2.1,o16.2.2.2.2.2.1,o16.2.2.2.2.2.2.1,o16.2.2.2.2.2.2.2⟩:tPred)) <| en (aI (qaY (⟨o16.2.2.2.2.1,o16.2.2.2.2.2.1,o16.2.2.2.2.2.2.1,o16.2.2.2.2.2.2.2⟩:tPred)) <| (qab (⟨o16.2.2.2.2.1,o16.2.2.2.2.2.1,o16.2.2.2.2.2.2.1,o16.2.2.2.2.2.2.2⟩:tPred)))
  exact cvZ A73 Tryz.call73 Tryz.func73 (c:=b73) rfl (aI (qad qab a) trivial) z (by kernel_rfl)
noncomputable def b25:Code:=Tryz.f25.body.getD .skip
def A25:List Nat:=[22]
def qcO (v:waB) (kept:waA) (t10:waA) (t11:Int) (t12:Int) (m:waA):PSt:=stt 29 [(3,.eptr ((cL cS) v)),(4,.bptr 2 0),(5,sl qaa kept),(10,sl qaa t10),(11,.int .i64 t11),(12,.int .i64 t12)] [.dead,.dead,.cells [.int .i64 0,.str ([]:Str),.int .i64 0,sl qaa m] [(3,31)]] [((10,0),31),((5,0),31)]
def qg4 (v:waB) (t10:waA) (t11:Int) (m:waA) (o:waA):PSt:=stt 29 [(4,.bptr 2 0),(5,sl qaa o)] [.dead,.dead,.cells [.int .i64 0,.str ([]:Str),.int .i64 0,sl qaa m] [(3,31)]] [((5,0),31)]
def qk4 (v:waB) (t10:waA) (t11:Int) (kept:waA) (t12:Int):Option ((waA×Int)⊕((waA))) :=
 if (decide (t12 < t11)) = true then
  (idx t10 t12).bind fun x3 =>
  (qy9 x3).bind fun r4 =>
  (qkp r4 v).bind fun r5 =>
  if (!r5) = true then
   (app kept ([x3]:List tPred)).bind fun l8 =>
   some (.inl (l8,w64 (t12 + 1)))
  else
   some (.inl (kept,w64 (t12 + 1)))
 else
  some (.inr kept)
def qnr (v:waB) (t10:waA) (t11:Int) (kept:waA) (t12:Int):Option ((waA)):=loop (fun (zz:waA×Int) => qk4 v t10 t11 zz.1 zz.2) (kept,t12)
theorem qpo (v:waB) (kept:waA) (t10:waA) (t11:Int) (t12:Int) (m:waA) {y:(waA×Int)⊕((waA))} (h:qk4 v t10 t11 kept t12 = some y) :
  Sat Pg GE 0 (cA b25 119) (LQ (fun (zz:waA×Int) => qcO v zz.1 t10 t11 zz.2 m) (fun _ => .exit 0) (qg4 v t10 t11 m) y) (qcO v kept t10 t11 t12 m):=by
 rcases ifs h with ⟨c2,h⟩ | ⟨c2,h⟩
 ·obtain ⟨x3,bx3,h⟩:=bnd h
  obtain ⟨r4,br4,h⟩:=bnd h
  obtain ⟨r5,br5,h⟩:=bnd h
  have p7:=fun {sc F} (r:PS sc F) => sg 0 c2 <| sv (sT29.ia (k := .i64) bx3) <| sv (qaj x3) <| sx pz31 <| sx (qaw x3) <| sv (qar x3 []) <| sca (qAb br4) <| sca (qnz br5) <| r
  rcases ifs h with ⟨c6,h⟩ | ⟨c6,h⟩
  ·obtain ⟨l8,bl8,h⟩:=bnd h
   obtain rfl:=lf h
   have z:=p7 <| sg 0 c6 <| sv (qar x3 []) <| sv (sT29.mk' (v:=qbq) qaE ([x3]:List tPred) 1 (by kernel_rfl)) <| sv (sT29.ap bl8) <| eFx 0 .normal (qcO v l8 t10 t11 (w64 (t12 + 1)) m) rfl (qbP (aI (qbO (clLs clS v)) (aI (qch rfl) (aI (up (qad qab l8)) (aI (up (qad qab t10)) (aI trivial (aI trivial trivial))))))) (aI trivial (aI trivial (aI (aI trivial (aI trivial (aI trivial (aI (up (qad qab m)) trivial)))) trivial)))
   exact qbi (A:=A25) mixed z (by kernel_rfl)
  ·obtain rfl:=lf h
   have z:=p7 <| sg 0 c6 <| eFx 0 .normal (qcO v kept t10 t11 (w64 (t12 + 1)) m) rfl (qbP (aI (qbO (clLs clS v)) (aI (qch rfl) (aI (up (qad qab kept)) (aI (up (qad qab t10)) (aI trivial (aI trivial trivial))))))) (aI trivial (aI trivial (aI (aI trivial (aI trivial (aI trivial (aI (up (qad qab m)) trivial)))) trivial)))
   exact qbi (A:=A25) mixed z (by kernel_rfl)
 ·obtain rfl:=lf h
  have z:=sg 0 c2 <| eF (.exit 0) (qg4 v t10 t11 m kept)
  exact ovZ A25 (by intro hx; cases hx) z (by kernel_rfl)
theorem qqA (v:waB) (kept:waA) (t10:waA) (t11:Int) (t12:Int) (m:waA) {x:(waA)} (h:qnr v t10 t11 kept t12 = some x) :
  Sat Pg GE 0 (.loop (cA b25 119)) (EX (.exit 0) (qg4 v t10 t11 m x)) (qcO v kept t10 t11 t12 m) :=
 Sat.loop (S:=fun (zz:waA×Int) => qcO v zz.1 t10 t11 zz.2 m) (ex:=(fun _ => .exit 0)) (s:=(kept,t12)) h fun zz y hy => qpo v zz.1 t10 t11 zz.2 m hy
def qr6 (p:tPred) (a:waB):Option (tPred) :=
 (qw7 p).bind fun r1 =>
 (qnr a r1 (r1.length:Int) ([]:List tPred) 0).bind fun o9 =>
 (qCh o9).bind fun r10 =>
 some r10
theorem quv {p:tPred} {a:waB} {r:tPred} (h:qr6 p a = some r):CC Pg GE 25 [.agg (qaa p),sl cS a] (.agg (qaa r)) []:=by
 obtain ⟨r1,br1,h⟩:=bnd h
 obtain ⟨o9,bo9,h⟩:=bnd h
 obtain ⟨r10,br10,h⟩:=bnd h
 obtain rfl:=lf h
 have z:=se (qaL p) <| se (pcL cS a) <| sx pz31 <| sv (qaj p) <| sca (qxM br1) <| svn (sT29.ln r1) <| spc (qqA a ([]:List tPred) r1 (r1.length:Int) 0 ([]:List tPred) bo9) <| sca (qBG br10) <| sx (qaw r10) <| en (aI (qaY r10) <| (qab r10))
 exact cvZ A25 Tryz.call25 Tryz.func25 (c:=b25) rfl (aI (qab p) (aI (qad clS a) trivial)) z (by kernel_rfl)
end Go.Proofs.YtgldgpdhblndkaaGreatDoor
