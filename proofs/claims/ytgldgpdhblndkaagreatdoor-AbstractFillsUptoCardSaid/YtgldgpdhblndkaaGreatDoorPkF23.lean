/- WHAT IS PROVED: parts of the proof, put together by a program (G14). Conditions: none. -/
import Derived.Test.YtgldgpdhblndkaaGreatDoorPkF22
noncomputable section
namespace Go.Proofs.YtgldgpdhblndkaaGreatDoor
open Go
set_option linter.unusedVariables false
set_option maxRecDepth 100000
noncomputable def b184:Code:=Tryz.f184.body.getD .skip
def A184:List Nat:=[21]
section
variable (p:Str)
def qAp:PSt:=stt 65 [(0,.str p)] [] []
def qm8 (o:Bool):PSt:=stt 65 [(0,.str p),(13,.bool o)] [] []
def qrA:Option ((Bool)) :=
 if (decide ((p.length:Int) < 1)) = true then
  some true
 else
  some (decide ((p.length:Int) > 24))
theorem qze {x:(Bool)} (h:qrA p = some x) :
  Sat Pg GE 0 (cA b184 12) (EX .normal (qm8 p x)) (qAp p):=by
 rcases ifs h with ⟨c1,h⟩ | ⟨c1,h⟩
 ·obtain rfl:=lf h
  have z:=svn (qoP Tryz.underlying9 p) <| sg 4 c1 <| eF .normal (qm8 p true)
  exact pcZ A184 z (by kernel_rfl)
 ·obtain rfl:=lf h
  have z:=svn (qoP Tryz.underlying9 p) <| sg 4 c1 <| svn (qoP Tryz.underlying9 p) <| eF .normal (qm8 p (decide ((p.length:Int) > 24)))
  exact pcZ A184 z (by kernel_rfl)
end
section
variable (p:Str) (plain:Bool) (word:Bool) (i:Int) (t18:Int)
def qAa:PSt:=stt 65 [(0,.str p),(3,.bool plain),(4,.bool word),(5,.int .i64 i),(18,.int .i64 t18),(19,.int .i64 i)] [] []
def qhl (o:Bool):PSt:=stt 65 [(0,.str p),(3,.bool o),(4,.bool word),(5,.int .i64 i),(18,.int .i64 t18),(19,.int .i64 i)] [] []
def qmR:Option ((Bool)) :=
 if plain = true then
  (idxS p i).bind fun c9 =>
  (qhN c9).bind fun r10 =>
  if r10 = true then
   some true
  else
   (idxS p i).bind fun c13 =>
   (qiz c13).bind fun r14 =>
   if r14 = true then
    some true
   else
    (idxS p i).bind fun c17 =>
    (qky c17).bind fun r18 =>
    some r18
 else
  some false
theorem qyG {x:(Bool)} (h:qmR p plain i = some x) :
  Sat Pg GE 0 (cA b184 32246) (EX .normal (qhl p word i t18 x)) (qAa p plain word i t18):=by
 rcases ifs h with ⟨c8,h⟩ | ⟨c8,h⟩
 ·obtain ⟨c9,bc9,h⟩:=bnd h
  obtain ⟨r10,br10,h⟩:=bnd h
  have p12:=fun {sc F} (r:PS sc F) => sg 2 c8 <| sv (qnZ (k := .i64) Tryz.underlying9 bc9) <| sca (qgy br10) <| r
  rcases ifs h with ⟨c11,h⟩ | ⟨c11,h⟩
  ·obtain rfl:=lf h
   have z:=p12 <| sg 7 c11 <| eF .normal (qhl p word i t18 true)
   exact pcZ A184 z (by kernel_rfl)
  ·obtain ⟨c13,bc13,h⟩:=bnd h
   obtain ⟨r14,br14,h⟩:=bnd h
   have p16:=fun {sc F} (r:PS sc F) => p12 <| sg 7 c11 <| sv (qnZ (k := .i64) Tryz.underlying9 bc13) <| sca (qlz br14) <| r
   rcases ifs h with ⟨c15,h⟩ | ⟨c15,h⟩
   ·obtain rfl:=lf h
    have z:=p16 <| sg 13 c15 <| eF .normal (qhl p word i t18 true)
    exact pcZ A184 z (by kernel_rfl)
   ·obtain ⟨c17,bc17,h⟩:=bnd h
    obtain ⟨r18,br18,h⟩:=bnd h
    obtain rfl:=lf h
    have z:=p16 <| sg 13 c15 <| sv (qnZ (k := .i64) Tryz.underlying9 bc17) <| sca (qkX br18) <| eF .normal (qhl p word i t18 r18)
    exact pcZ A184 z (by kernel_rfl)
 ·obtain rfl:=lf h
  have z:=sg 2 c8 <| eF .normal (qhl p word i t18 false)
  exact pcZ A184 z (by kernel_rfl)
end
section
variable (p:Str) (t18:Int) (plain:Bool) (word:Bool) (t19:Int)
def qdl:PSt:=stt 65 [(0,.str p),(3,.bool plain),(4,.bool word),(18,.int .i64 t18),(19,.int .i64 t19)] [] []
def qnA (o:Bool×Bool):PSt:=stt 65 [(3,.bool o.1),(4,.bool o.2)] [] []
def qfq:Option ((Bool×Bool×Int)⊕((Bool×Bool))) :=
 if (decide (t19 < t18)) = true then
  (qmR p plain t19).bind fun o19 =>
  if word = true then
   (idxS p t19).bind fun c22 =>
   (qhN c22).bind fun r23 =>
   if r23 = true then
    some (.inl (o19,true,w64 (t19 + 1)))
   else
    (idxS p t19).bind fun c26 =>
    (qky c26).bind fun r27 =>
    if r27 = true then
     some (.inl (o19,true,w64 (t19 + 1)))
    else
     (idxS p t19).bind fun c30 =>
     some (.inl (o19,c30 == 95,w64 (t19 + 1)))
  else
   some (.inl (o19,false,w64 (t19 + 1)))
 else
  some (.inr (plain,word))
def qsb:Option ((Bool×Bool)):=loop (fun (zz:Bool×Bool×Int) => qfq p t18 zz.1 zz.2.1 zz.2.2) (plain,word,t19)
theorem qxc {y:(Bool×Bool×Int)⊕((Bool×Bool))} (h:qfq p t18 plain word t19 = some y) :
  Sat Pg GE 0 (cA b184 503) (LQ (fun (zz:Bool×Bool×Int) => qdl p t18 zz.1 zz.2.1 zz.2.2) (fun _ => .exit 0) (qnA) y) (qdl p t18 plain word t19):=by
 rcases ifs h with ⟨c7,h⟩ | ⟨c7,h⟩
 ·obtain ⟨o19,bo19,h⟩:=bnd h
  have p21:=fun {sc F} (r:PS sc F) => sg 0 c7 <| spa 2 <| spc (qyG p plain word t19 t18 bo19) <| r
  rcases ifs h with ⟨c20,h⟩ | ⟨c20,h⟩
  ·obtain ⟨c22,bc22,h⟩:=bnd h
   obtain ⟨r23,br23,h⟩:=bnd h
   have p25:=fun {sc F} (r:PS sc F) => p21 <| sg 2 c20 <| sv (qnZ (k := .i64) Tryz.underlying9 bc22) <| sca (qgy br23) <| r
   rcases ifs h with ⟨c24,h⟩ | ⟨c24,h⟩
   ·obtain rfl:=lf h
    have z:=p25 <| sg 7 c24 <| eF .normal (qdl p t18 o19 true (w64 (t19 + 1)))
    exact nxZ A184 z (by kernel_rfl)
   ·obtain ⟨c26,bc26,h⟩:=bnd h
    obtain ⟨r27,br27,h⟩:=bnd h
    have p29:=fun {sc F} (r:PS sc F) => p25 <| sg 7 c24 <| sv (qnZ (k := .i64) Tryz.underlying9 bc26) <| sca (qkX br27) <| r
    rcases ifs h with ⟨c28,h⟩ | ⟨c28,h⟩
    ·obtain rfl:=lf h
     have z:=p29 <| sg 13 c28 <| eF .normal (qdl p t18 o19 true (w64 (t19 + 1)))
     exact nxZ A184 z (by kernel_rfl)
    ·obtain ⟨c30,bc30,h⟩:=bnd h
     obtain rfl:=lf h
     have z:=p29 <| sg 13 c28 <| sv (qnZ (k := .i64) Tryz.underlying9 bc30) <| eF .normal (qdl p t18 o19 (c30 == 95) (w64 (t19 + 1)))
     exact nxZ A184 z (by kernel_rfl)
  ·obtain rfl:=lf h
   have z:=p21 <| sg 2 c20 <| eF .normal (qdl p t18 o19 false (w64 (t19 + 1)))
   exact nxZ A184 z (by kernel_rfl)
 ·obtain rfl:=lf h
  have z:=sg 0 c7 <| eF (.exit 0) (qnA (plain,word))
  exact ovZ A184 (by intro hx; cases hx) z (by kernel_rfl)
theorem qza {x:(Bool×Bool)} (h:qsb p t18 plain word t19 = some x) :
  Sat Pg GE 0 (.loop (cA b184 503)) (EX (.exit 0) (qnA x)) (qdl p t18 plain word t19) :=
 Sat.loop (S:=fun (zz:Bool×Bool×Int) => qdl p t18 zz.1 zz.2.1 zz.2.2) (ex:=(fun _ => .exit 0)) (s:=(plain,word,t19)) h fun zz y hy => qxc p t18 zz.1 zz.2.1 zz.2.2 hy
end
def qwu (p:Str):Option (Bool) :=
 (qrA p).bind fun o2 =>
 if o2 = true then
  some false
 else
  (idxS p 0).bind fun c5 =>
  (qhN c5).bind fun r6 =>
  (qsb p (p.length:Int) true r6 0).bind fun o31 =>
  if o31.1 = true then
   some true
  else
   some o31.2
theorem qEC {p:Str} {r:Bool} (h:qwu p = some r):CC Pg GE 184 [.str p] (.bool r) []:=by
 obtain ⟨o2,bo2,h⟩:=bnd h
 have p4:=fun {sc F} (r:PS sc F) => spa 2 <| spc (qze p bo2) <| r
 rcases ifs h with ⟨c3,h⟩ | ⟨c3,h⟩
 ·obtain rfl:=lf h
  have z:=p4 <| sg 0 c3 <| en (aI (rP (.bool false)) <| trivial)
  exact cvZ A184 Tryz.call184 Tryz.func184 (c:=b184) rfl (aI trivial trivial) z (by kernel_rfl)
 ·obtain ⟨c5,bc5,h⟩:=bnd h
  obtain ⟨r6,br6,h⟩:=bnd h
  obtain ⟨o31,bo31,h⟩:=bnd h
  have p33:=fun {sc F} (r:PS sc F) => p4 <| sg 0 c3 <| sv (qnZ (k := .i64) Tryz.underlying9 bc5) <| sca (qgy br6) <| svn (qoP Tryz.underlying9 p) <| spc (qza p (p.length:Int) true r6 0 bo31) <| r
  rcases ifs h with ⟨c32,h⟩ | ⟨c32,h⟩
  ·obtain rfl:=lf h
   have z:=p33 <| sg 2 c32 <| en (aI (rP (.bool true)) <| trivial)
   exact cvZ A184 Tryz.call184 Tryz.func184 (c:=b184) rfl (aI trivial trivial) z (by kernel_rfl)
  ·obtain rfl:=lf h
   have z:=p33 <| sg 2 c32 <| en (aI (rP (.bool o31.2)) <| trivial)
   exact cvZ A184 Tryz.call184 Tryz.func184 (c:=b184) rfl (aI trivial trivial) z (by kernel_rfl)
noncomputable def b157:Code:=Tryz.f157.body.getD .skip
def A157:List Nat:=[]
section
variable (v:waB)
def qAw:PSt:=stt 45 [(3,sl cS v)] [] [((3,0),9)]
def qhh (o:Bool):PSt:=stt 45 [(3,sl cS v),(33,.bool o)] [] [((3,0),9)]
def qmN:Option ((Bool)) :=
 (idx v 0).bind fun x3 =>
 (qo2 x3).bind fun r4 =>
 if (r4 != 0) = true then
  (idx v 0).bind fun x7 =>
  (qt1 x7).bind fun r8 =>
  if (r8 != 0) = true then
   (idx v 0).bind fun x11 =>
   if (!(x11 == ([118]:Str))) = true then
    some true
   else
    some ((v.length:Int) == 1)
  else
   some false
 else
  some false
theorem qyD {x:(Bool)} (h:qmN v = some x) :
  Sat Pg GE 0 (cA b157 60) (EX .normal (qhh v x)) (qAw v):=by
 obtain ⟨x3,bx3,h⟩:=bnd h
 obtain ⟨r4,br4,h⟩:=bnd h
 have p6:=fun {sc F} (r:PS sc F) => sv (sT22.ia (k := .i64) bx3) <| sv (qa9 sc9 (.str x3) []) <| sca (qvk br4) <| r
 rcases ifs h with ⟨c5,h⟩ | ⟨c5,h⟩
 ·obtain ⟨x7,bx7,h⟩:=bnd h
  obtain ⟨r8,br8,h⟩:=bnd h
  have p10:=fun {sc F} (r:PS sc F) => p6 <| sg 6 c5 <| sv (sT22.ia (k := .i64) bx7) <| sv (qa9 sc9 (.str x7) []) <| sca (qCv br8) <| r
  rcases ifs h with ⟨c9,h⟩ | ⟨c9,h⟩
  ·obtain ⟨x11,bx11,h⟩:=bnd h
   have p13:=fun {sc F} (r:PS sc F) => p10 <| sg 13 c9 <| sv (sT22.ia (k := .i64) bx11) <| sv (qa9 sc9 (.str x11) []) <| r
   rcases ifs h with ⟨c12,h⟩ | ⟨c12,h⟩
   ·obtain rfl:=lf h
    have z:=p13 <| sg 18 c12 <| eF .normal (qhh v true)
    exact pcZ A157 z (by kernel_rfl)
   ·obtain rfl:=lf h
    have z:=p13 <| sg 18 c12 <| svn (sT22.ln v) <| eF .normal (qhh v ((v.length:Int) == 1))
    exact pcZ A157 z (by kernel_rfl)
  ·obtain rfl:=lf h
   have z:=p10 <| sg 13 c9 <| eF .normal (qhh v false)
   exact pcZ A157 z (by kernel_rfl)
 ·obtain rfl:=lf h
  have z:=p6 <| sg 6 c5 <| eF .normal (qhh v false)
  exact pcZ A157 z (by kernel_rfl)
end
section
variable (t35:waB) (t36:Int) (t37:Int)
def qg5:PSt:=stt 45 [(35,sl cS t35),(36,.int .i64 t36),(37,.int .i64 t37)] [] []
def qg3 (o:(Unit)⊕(Unit)):Exit:=match o with
 | (.inl _) => .ret
 | (.inr _) => .exit 0
def qfs (o:(Unit)⊕(Unit)):PSt:=match o with
 | (.inl o) => stt 45 [(2,.int .i64 3)] [] []
 | (.inr o) => stt 45 [] [] []
def qtX:Option ((Int)⊕((Unit)⊕(Unit))) :=
 if (decide (t37 < t36)) = true then
  (idx t35 t37).bind fun x19 =>
  (qwu x19).bind fun r20 =>
  if (!r20) = true then
   some (.inr (.inl ()))
  else
   some (.inl (w64 (t37 + 1)))
 else
  some (.inr (.inr ()))
def qrZ:Option ((Unit)⊕(Unit)):=loop (fun (zz:Int) => qtX t35 t36 zz) t37
theorem qxf {y:(Int)⊕((Unit)⊕(Unit))} (h:qtX t35 t36 t37 = some y) :
  Sat Pg GE 0 (cA b157 503) (LQ (fun (zz:Int) => qg5 t35 t36 zz) qg3 (qfs) y) (qg5 t35 t36 t37):=by
 rcases ifs h with ⟨c18,h⟩ | ⟨c18,h⟩
 ·obtain ⟨x19,bx19,h⟩:=bnd h
  obtain ⟨r20,br20,h⟩:=bnd h
  have p22:=fun {sc F} (r:PS sc F) => sg 0 c18 <| sv (sT22.ia (k := .i64) bx19) <| sv (qa9 sc9 (.str x19) []) <| sca (qEC br20) <| r
  rcases ifs h with ⟨c21,h⟩ | ⟨c21,h⟩
  ·obtain rfl:=lf h
   have z:=p22 <| sg 0 c21 <| eF (qg3 (.inl ())) (qfs (.inl ()))
   exact ovZ A157 (by intro hx; cases hx) z (by kernel_rfl)
  ·obtain rfl:=lf h
   have z:=p22 <| sg 0 c21 <| eF .normal (qg5 t35 t36 (w64 (t37 + 1)))
   exact nxZ A157 z (by kernel_rfl)
 ·obtain rfl:=lf h
  have z:=sg 0 c18 <| eF (qg3 (.inr ())) (qfs (.inr ()))
  exact ovZ A157 (by intro hx; cases hx) z (by kernel_rfl)
theorem qqB {x:(Unit)⊕(Unit)} (h:qrZ t35 t36 t37 = some x) :
  Sat Pg GE 0 (.loop (cA b157 503)) (EX (qg3 x) (qfs x)) (qg5 t35 t36 t37) :=
 Sat.loop (S:=fun (zz:Int) => qg5 t35 t36 zz) (ex:=qg3) (s:=t37) h fun zz y hy => qxf t35 t36 zz hy
end
def qkS (s:Str):Option (Int) :=
 if (decide ((s.length:Int) > 120)) = true then
  some 3
 else
  (qtQ s).bind fun r2 =>
  (qmN r2).bind fun o14 =>
  if o14 = true then
   some 3
  else
   (slc r2 (some 1) none).bind fun l17 =>
   (qrZ l17 (l17.length:Int) 0).bind fun o23 => match o23 with
   | (.inl o23) =>
    some 3
   | (.inr o23) =>
    some 0
theorem qkv {s:Str} {r:Int} (h:qkS s = some r):CC Pg GE 157 [.str s] (.int .i64 r) []:=by
 rcases ifs h with ⟨c1,h⟩ | ⟨c1,h⟩
 ·obtain rfl:=lf h
  have z:=svn (qoP Tryz.underlying9 s) <| sg 0 c1 <| en (aI (rP (.int .i64 3)) <| trivial)
  exact cvZ A157 Tryz.call157 Tryz.func157 (c:=b157) rfl (aI trivial trivial) z (by kernel_rfl)
 ·obtain ⟨r2,br2,h⟩:=bnd h
  obtain ⟨o14,bo14,h⟩:=bnd h
  have p16:=fun {sc F} (r:PS sc F) => svn (qoP Tryz.underlying9 s) <| sg 0 c1 <| sca (qCG br2) <| spa 1 <| spc (qyD r2 bo14) <| r
  rcases ifs h with ⟨c15,h⟩ | ⟨c15,h⟩
  ·obtain rfl:=lf h
   have z:=p16 <| sg 0 c15 <| en (aI (rP (.int .i64 3)) <| trivial)
   exact cvZ A157 Tryz.call157 Tryz.func157 (c:=b157) rfl (aI trivial trivial) z (by kernel_rfl)
  ·obtain ⟨l17,bl17,h⟩:=bnd h
   obtain ⟨o23,bo23,h⟩:=bnd h
   rcases o23 with o23 | o23
   ·obtain rfl:=lf h
    have z:=p16 <| sg 0 c15 <| sv (sT22.sc bl17) <| svn (sT22.ln l17) <| spc (e := .ret) (s1:=qfs (.inl o23)) (qqB l17 (l17.length:Int) 0 bo23) <| en (aI (rP (.int .i64 3)) <| trivial)
    exact cvZ A157 Tryz.call157 Tryz.func157 (c:=b157) rfl (aI trivial trivial) z (by kernel_rfl)
   ·obtain rfl:=lf h
    have z:=p16 <| sg 0 c15 <| sv (sT22.sc bl17) <| svn (sT22.ln l17) <| spc (e := .exit 0) (s1:=qfs (.inr o23)) (qqB l17 (l17.length:Int) 0 bo23) <| en (aI (rP (.int .i64 0)) <| trivial)
    exact cvZ A157 Tryz.call157 Tryz.func157 (c:=b157) rfl (aI trivial trivial) z (by kernel_rfl)
noncomputable def b144:Code:=Tryz.f144.body.getD .skip
def A144:List Nat:=[]
def qpF (s:Str) (capital:Bool):Option (Bool) :=
 (qkS s).bind fun r1 =>
 if (r1 == 0) = true then
  (idxS s 0).bind fun c3 =>
  if (decide (c3 ≥ 65)) = true then
   (idxS s 0).bind fun c6 =>
   some ((decide (c6 ≤ 90)) == capital)
  else
   some (false == capital)
 else
  some false
theorem qr4 {s:Str} {capital:Bool} {r:Bool} (h:qpF s capital = some r):CC Pg GE 144 [.str s,.bool capital] (.bool r) []:=by
 obtain ⟨r1,br1,h⟩:=bnd h
 rcases ifs h with ⟨c2,h⟩ | ⟨c2,h⟩
 ·obtain ⟨c3,bc3,h⟩:=bnd h
  have p5:=fun {sc F} (r:PS sc F) => sca (qkv br1) <| sg 4 c2 <| sv (qnZ (k := .i64) Tryz.underlying9 bc3) <| r
  rcases ifs h with ⟨c4,h⟩ | ⟨c4,h⟩
  ·obtain ⟨c6,bc6,h⟩:=bnd h
   obtain rfl:=lf h
   have z:=p5 <| sg 8 c4 <| sv (qnZ (k := .i64) Tryz.underlying9 bc6) <| en (aI (rP (.bool ((decide (c6 ≤ 90)) == capital))) <| trivial)
   exact cvZ A144 Tryz.call144 Tryz.func144 (c:=b144) rfl (aI trivial (aI trivial trivial)) z (by kernel_rfl)
  ·obtain rfl:=lf h
   have z:=p5 <| sg 8 c4 <| en (aI (rP (.bool (false == capital))) <| trivial)
   exact cvZ A144 Tryz.call144 Tryz.func144 (c:=b144) rfl (aI trivial (aI trivial trivial)) z (by kernel_rfl)
 ·obtain rfl:=lf h
  have z:=sca (qkv br1) <| sg 4 c2 <| en (aI (rP (.bool false)) <| trivial)
  exact cvZ A144 Tryz.call144 Tryz.func144 (c:=b144) rfl (aI trivial (aI trivial trivial)) z (by kernel_rfl)
noncomputable def b130:Code:=Tryz.f130.body.getD .skip
def A130:List Nat:=[]
section
variable (t:tType)
def qAn:PSt:=stt 113 [(1,.eptr (qac t))] [.dead] []
def qaJ (o:Bool):PSt:=stt 113 [(1,.eptr (qac t)),(52,.bool o)] [.dead] []
def qr0:Option ((Bool)) :=
 if (decide (t.Op < 1)) = true then
  some true
 else
  if (decide (t.Op > 6)) = true then
   some true
  else
   if (!(t.Name == ([]:Str))) = true then
    if (t.Op != 4) = true then
     if (t.Op != 5) = true then
      some true
     else
      if (decide ((t.Args.length:Int) > 0)) = true then
       if (t.Op != 4) = true then
        if (t.Op != 6) = true then
         some true
        else
         if (decide ((t.Names.length:Int) > 0)) = true then
          some (t.Op != 6)
         else
          some false
       else
        if (decide ((t.Names.length:Int) > 0)) = true then
         some (t.Op != 6)
        else
         some false
      else
       if (decide ((t.Names.length:Int) > 0)) = true then
        some (t.Op != 6)
       else
        some false
    else
     if (decide ((t.Args.length:Int) > 0)) = true then
      if (t.Op != 4) = true then
       if (t.Op != 6) = true then
        some true
       else
        if (decide ((t.Names.length:Int) > 0)) = true then
         some (t.Op != 6)
        else
         some false
      else
       if (decide ((t.Names.length:Int) > 0)) = true then
        some (t.Op != 6)
       else
        some false
     else
      if (decide ((t.Names.length:Int) > 0)) = true then
       some (t.Op != 6)
      else
       some false
   else
    if (decide ((t.Args.length:Int) > 0)) = true then
     if (t.Op != 4) = true then
      if (t.Op != 6) = true then
       some true
      else
       if (decide ((t.Names.length:Int) > 0)) = true then
        some (t.Op != 6)
       else
        some false
     else
      if (decide ((t.Names.length:Int) > 0)) = true then
       some (t.Op != 6)
      else
       some false
    else
     if (decide ((t.Names.length:Int) > 0)) = true then
      some (t.Op != 6)
     else
      some false
theorem qyZ {x:(Bool)} (h:qr0 t = some x) :
  Sat Pg GE 0 (cA b130 12) (EX .normal (qaJ t x)) (qAn t):=by
 have p2:=fun {sc F} (r:PS sc F) => sv (qam t) <| sv (qal t) <| r
 rcases ifs h with ⟨c1,h⟩ | ⟨c1,h⟩
 ·obtain rfl:=lf h
  have z:=p2 <| sg 4 c1 <| eF .normal (qaJ t true)
  exact pcZ A130 z (by kernel_rfl)
 ·have p4:=fun {sc F} (r:PS sc F) => p2 <| sg 4 c1 <| sv (qam t) <| sv (qal t) <| r
  rcases ifs h with ⟨c3,h⟩ | ⟨c3,h⟩
  ·obtain rfl:=lf h
   have z:=p4 <| sg 9 c3 <| eF .normal (qaJ t true)
   exact pcZ A130 z (by kernel_rfl)
  ·have p6:=fun {sc F} (r:PS sc F) => p4 <| sg 9 c3 <| sv (qbs t) <| sv (qbC t) <| r
   rcases ifs h with ⟨c5,h⟩ | ⟨c5,h⟩
   ·have p8:=fun {sc F} (r:PS sc F) => p6 <| sg 13 c5 <| sv (qam t) <| sv (qal t) <| r
    rcases ifs h with ⟨c7,h⟩ | ⟨c7,h⟩
    ·have p10:=fun {sc F} (r:PS sc F) => p8 <| sg 18 c7 <| sv (qam t) <| sv (qal t) <| r
     rcases ifs h with ⟨c9,h⟩ | ⟨c9,h⟩
     ·obtain rfl:=lf h
      have z:=p10 <| sg 24 c9 <| eF .normal (qaJ t true)
      exact pcZ A130 z (by kernel_rfl)
     ·have p12:=fun {sc F} (r:PS sc F) => p10 <| sg 24 c9 <| sv (qaq t) <| sv (qap t) <| svn (sT27.ln t.Args) <| r
      rcases ifs h with ⟨c11,h⟩ | ⟨c11,h⟩
      ·have p14:=fun {sc F} (r:PS sc F) => p12 <| sg 29 c11 <| sv (qam t) <| sv (qal t) <| r
       rcases ifs h with ⟨c13,h⟩ | ⟨c13,h⟩
       ·have p16:=fun {sc F} (r:PS sc F) => p14 <| sg 34 c13 <| sv (qam t) <| sv (qal t) <| r
        rcases ifs h with ⟨c15,h⟩ | ⟨c15,h⟩
        ·obtain rfl:=lf h
         have z:=p16 <| sg 40 c15 <| eF .normal (qaJ t true)
         exact pcZ A130 z (by kernel_rfl)
        ·have p18:=fun {sc F} (r:PS sc F) => p16 <| sg 40 c15 <| sv (qaz t) <| sv (qay t) <| svn (sT22.ln t.Names) <| r
         rcases ifs h with ⟨c17,h⟩ | ⟨c17,h⟩
         ·obtain rfl:=lf h
          have z:=p18 <| sg 45 c17 <| sv (qam t) <| sv (qal t) <| eF .normal (qaJ t (t.Op != 6))
          exact pcZ A130 z (by kernel_rfl)
         ·obtain rfl:=lf h
          have z:=p18 <| sg 45 c17 <| eF .normal (qaJ t false)
          exact pcZ A130 z (by kernel_rfl)
       ·have p20:=fun {sc F} (r:PS sc F) => p14 <| sg 34 c13 <| sv (qaz t) <| sv (qay t) <| svn (sT22.ln t.Names) <| r
        rcases ifs h with ⟨c19,h⟩ | ⟨c19,h⟩
        ·obtain rfl:=lf h
         have z:=p20 <| sg 45 c19 <| sv (qam t) <| sv (qal t) <| eF .normal (qaJ t (t.Op != 6))
         exact pcZ A130 z (by kernel_rfl)
        ·obtain rfl:=lf h
         have z:=p20 <| sg 45 c19 <| eF .normal (qaJ t false)
         exact pcZ A130 z (by kernel_rfl)
      ·have p22:=fun {sc F} (r:PS sc F) => p12 <| sg 29 c11 <| sv (qaz t) <| sv (qay t) <| svn (sT22.ln t.Names) <| r
       rcases ifs h with ⟨c21,h⟩ | ⟨c21,h⟩
       ·obtain rfl:=lf h
        have z:=p22 <| sg 45 c21 <| sv (qam t) <| sv (qal t) <| eF .normal (qaJ t (t.Op != 6))
        exact pcZ A130 z (by kernel_rfl)
       ·obtain rfl:=lf h
        have z:=p22 <| sg 45 c21 <| eF .normal (qaJ t false)
        exact pcZ A130 z (by kernel_rfl)
    ·have p24:=fun {sc F} (r:PS sc F) => p8 <| sg 18 c7 <| sv (qaq t) <| sv (qap t) <| svn (sT27.ln t.Args) <| r
     rcases ifs h with ⟨c23,h⟩ | ⟨c23,h⟩
     ·have p26:=fun {sc F} (r:PS sc F) => p24 <| sg 29 c23 <| sv (qam t) <| sv (qal t) <| r
      rcases ifs h with ⟨c25,h⟩ | ⟨c25,h⟩
      ·have p28:=fun {sc F} (r:PS sc F) => p26 <| sg 34 c25 <| sv (qam t) <| sv (qal t) <| r
       rcases ifs h with ⟨c27,h⟩ | ⟨c27,h⟩
       ·obtain rfl:=lf h
        have z:=p28 <| sg 40 c27 <| eF .normal (qaJ t true)
        exact pcZ A130 z (by kernel_rfl)
       ·have p30:=fun {sc F} (r:PS sc F) => p28 <| sg 40 c27 <| sv (qaz t) <| sv (qay t) <| svn (sT22.ln t.Names) <| r
        rcases ifs h with ⟨c29,h⟩ | ⟨c29,h⟩
        ·obtain rfl:=lf h
         have z:=p30 <| sg 45 c29 <| sv (qam t) <| sv (qal t) <| eF .normal (qaJ t (t.Op != 6))
         exact pcZ A130 z (by kernel_rfl)
        ·obtain rfl:=lf h
         have z:=p30 <| sg 45 c29 <| eF .normal (qaJ t false)
         exact pcZ A130 z (by kernel_rfl)
      ·have p32:=fun {sc F} (r:PS sc F) => p26 <| sg 34 c25 <| sv (qaz t) <| sv (qay t) <| svn (sT22.ln t.Names) <| r
       rcases ifs h with ⟨c31,h⟩ | ⟨c31,h⟩
       ·obtain rfl:=lf h
        have z:=p32 <| sg 45 c31 <| sv (qam t) <| sv (qal t) <| eF .normal (qaJ t (t.Op != 6))
        exact pcZ A130 z (by kernel_rfl)
       ·obtain rfl:=lf h
        have z:=p32 <| sg 45 c31 <| eF .normal (qaJ t false)
        exact pcZ A130 z (by kernel_rfl)
     ·have p34:=fun {sc F} (r:PS sc F) => p24 <| sg 29 c23 <| sv (qaz t) <| sv (qay t) <| svn (sT22.ln t.Names) <| r
      rcases ifs h with ⟨c33,h⟩ | ⟨c33,h⟩
      ·obtain rfl:=lf h
       have z:=p34 <| sg 45 c33 <| sv (qam t) <| sv (qal t) <| eF .normal (qaJ t (t.Op != 6))
       exact pcZ A130 z (by kernel_rfl)
      ·obtain rfl:=lf h
       have z:=p34 <| sg 45 c33 <| eF .normal (qaJ t false)
       exact pcZ A130 z (by kernel_rfl)
   ·have p36:=fun {sc F} (r:PS sc F) => p6 <| sg 13 c5 <| sv (qaq t) <| sv (qap t) <| svn (sT27.ln t.Args) <| r
    rcases ifs h with ⟨c35,h⟩ | ⟨c35,h⟩
    ·have p38:=fun {sc F} (r:PS sc F) => p36 <| sg 29 c35 <| sv (qam t) <| sv (qal t) <| r
     rcases ifs h with ⟨c37,h⟩ | ⟨c37,h⟩
     ·have p40:=fun {sc F} (r:PS sc F) => p38 <| sg 34 c37 <| sv (qam t) <| sv (qal t) <| r
      rcases ifs h with ⟨c39,h⟩ | ⟨c39,h⟩
      ·obtain rfl:=lf h
       have z:=p40 <| sg 40 c39 <| eF .normal (qaJ t true)
       exact pcZ A130 z (by kernel_rfl)
      ·have p42:=fun {sc F} (r:PS sc F) => p40 <| sg 40 c39 <| sv (qaz t) <| sv (qay t) <| svn (sT22.ln t.Names) <| r
       rcases ifs h with ⟨c41,h⟩ | ⟨c41,h⟩
       ·obtain rfl:=lf h
        have z:=p42 <| sg 45 c41 <| sv (qam t) <| sv (qal t) <| eF .normal (qaJ t (t.Op != 6))
        exact pcZ A130 z (by kernel_rfl)
       ·obtain rfl:=lf h
        have z:=p42 <| sg 45 c41 <| eF .normal (qaJ t false)
        exact pcZ A130 z (by kernel_rfl)
     ·have p44:=fun {sc F} (r:PS sc F) => p38 <| sg 34 c37 <| sv (qaz t) <| sv (qay t) <| svn (sT22.ln t.Names) <| r
      rcases ifs h with ⟨c43,h⟩ | ⟨c43,h⟩
      ·obtain rfl:=lf h
       have z:=p44 <| sg 45 c43 <| sv (qam t) <| sv (qal t) <| eF .normal (qaJ t (t.Op != 6))
       exact pcZ A130 z (by kernel_rfl)
      ·obtain rfl:=lf h
       have z:=p44 <| sg 45 c43 <| eF .normal (qaJ t false)
       exact pcZ A130 z (by kernel_rfl)
    ·have p46:=fun {sc F} (r:PS sc F) => p36 <| sg 29 c35 <| sv (qaz t) <| sv (qay t) <| svn (sT22.ln t.Names) <| r
     rcases ifs h with ⟨c45,h⟩ | ⟨c45,h⟩
     ·obtain rfl:=lf h
      have z:=p46 <| sg 45 c45 <| sv (qam t) <| sv (qal t) <| eF .normal (qaJ t (t.Op != 6))
      exact pcZ A130 z (by kernel_rfl)
     ·obtain rfl:=lf h
      have z:=p46 <| sg 45 c45 <| eF .normal (qaJ t false)
      exact pcZ A130 z (by kernel_rfl)
end
section
variable (t:tType)
def qz8:PSt:=stt 113 [(1,.eptr (qac t))] [.dead] []
def qmU (o:Bool):PSt:=stt 113 [(1,.eptr (qac t)),(61,.bool o)] [.dead] []
def qrE:Option ((Bool)) :=
 if (t.Op == 4) = true then
  some (decide ((t.Args.length:Int) > 6))
 else
  some false
theorem qyF {x:(Bool)} (h:qrE t = some x) :
  Sat Pg GE 0 (cA b130 28) (EX .normal (qmU t x)) (qz8 t):=by
 have p51:=fun {sc F} (r:PS sc F) => sv (qam t) <| sv (qal t) <| r
 rcases ifs h with ⟨c50,h⟩ | ⟨c50,h⟩
 ·obtain rfl:=lf h
  have z:=p51 <| sg 4 c50 <| sv (qaq t) <| sv (qap t) <| svn (sT27.ln t.Args) <| eF .normal (qmU t (decide ((t.Args.length:Int) > 6)))
  exact pcZ A130 z (by kernel_rfl)
 ·obtain rfl:=lf h
  have z:=p51 <| sg 4 c50 <| eF .normal (qmU t false)
  exact pcZ A130 z (by kernel_rfl)
end
section
variable (t:tType)
def qAC:PSt:=stt 113 [(1,.eptr (qac t))] [.dead] []
def qfi (o:Bool):PSt:=stt 113 [(1,.eptr (qac t)),(92,.bool o)] [.dead] []
def qrl:Option ((Bool)) :=
 if (t.Op == 6) = true then
  if (decide ((t.Args.length:Int) < 2)) = true then
   some true
  else
   if (decide ((t.Args.length:Int) > 7)) = true then
    some true
   else
    if (decide ((t.Names.length:Int) > 0)) = true then
     some ((t.Names.length:Int) != (w64 ((t.Args.length:Int) - 1)))
    else
     some false
 else
  some false
theorem qyW {x:(Bool)} (h:qrl t = some x) :
  Sat Pg GE 0 (cA b130 60) (EX .normal (qfi t x)) (qAC t):=by
 have p56:=fun {sc F} (r:PS sc F) => sv (qam t) <| sv (qal t) <| r
 rcases ifs h with ⟨c55,h⟩ | ⟨c55,h⟩
 ·have p58:=fun {sc F} (r:PS sc F) => p56 <| sg 4 c55 <| sv (qaq t) <| sv (qap t) <| svn (sT27.ln t.Args) <| r
  rcases ifs h with ⟨c57,h⟩ | ⟨c57,h⟩
  ·obtain rfl:=lf h
   have z:=p58 <| sg 9 c57 <| eF .normal (qfi t true)
   exact pcZ A130 z (by kernel_rfl)
  ·have p60:=fun {sc F} (r:PS sc F) => p58 <| sg 9 c57 <| sv (qaq t) <| sv (qap t) <| svn (sT27.ln t.Args) <| r
   rcases ifs h with ⟨c59,h⟩ | ⟨c59,h⟩
   ·obtain rfl:=lf h
    have z:=p60 <| sg 15 c59 <| eF .normal (qfi t true)
    exact pcZ A130 z (by kernel_rfl)
   ·have p62:=fun {sc F} (r:PS sc F) => p60 <| sg 15 c59 <| sv (qaz t) <| sv (qay t) <| svn (sT22.ln t.Names) <| r
    rcases ifs h with ⟨c61,h⟩ | ⟨c61,h⟩
    ·obtain rfl:=lf h
     have z:=p62 <| sg 20 c61 <| sv (qaz t) <| sv (qay t) <| svn (sT22.ln t.Names) <| sv (qaq t) <| sv (qap t) <| svn (sT27.ln t.Args) <| eF .normal (qfi t ((t.Names.length:Int) != (w64 ((t.Args.length:Int) - 1))))
     exact pcZ A130 z (by kernel_rfl)
    ·obtain rfl:=lf h
     have z:=p62 <| sg 20 c61 <| eF .normal (qfi t false)
     exact pcZ A130 z (by kernel_rfl)
 ·obtain rfl:=lf h
  have z:=p56 <| sg 4 c55 <| eF .normal (qfi t false)
  exact pcZ A130 z (by kernel_rfl)
end
section
variable (t:tType)
def qAo:PSt:=stt 113 [(1,.eptr (qac t))] [.dead] []
def qfe (o:Bool):PSt:=stt 113 [(112,.bool o)] [.dead] []
def qsc:Option ((Bool)) :=
 if (t.Op == 4) = true then
  (qpF t.Name true).bind fun r68 =>
  if (!r68) = true then
   some true
  else
   if (t.Op == 5) = true then
    (qpF t.Name false).bind fun r73 =>
    some (!r73)
   else
    some false
 else
  if (t.Op == 5) = true then
   (qpF t.Name false).bind fun r76 =>
   some (!r76)
  else
   some false
theorem qyX {x:(Bool)} (h:qsc t = some x) :
  Sat Pg GE 0 (cA b130 124) (EX .normal (qfe x)) (qAo t):=by
 have p67:=fun {sc F} (r:PS sc F) => sv (qam t) <| sv (qal t) <| r
 rcases ifs h with ⟨c66,h⟩ | ⟨c66,h⟩
 ·obtain ⟨r68,br68,h⟩:=bnd h
  have p70:=fun {sc F} (r:PS sc F) => p67 <| sg 4 c66 <| sv (qbs t) <| sv (qbC t) <| sca (qr4 br68) <| r
  rcases ifs h with ⟨c69,h⟩ | ⟨c69,h⟩
  ·obtain rfl:=lf h
   have z:=p70 <| sg 10 c69 <| eF .normal (qfe true)
   exact pcZ A130 z (by kernel_rfl)
  ·have p72:=fun {sc F} (r:PS sc F) => p70 <| sg 10 c69 <| sv (qam t) <| sv (qal t) <| r
   rcases ifs h with ⟨c71,h⟩ | ⟨c71,h⟩
   ·obtain ⟨r73,br73,h⟩:=bnd h
    obtain rfl:=lf h
    have z:=p72 <| sg 14 c71 <| sv (qbs t) <| sv (qbC t) <| sca (qr4 br73) <| eF .normal (qfe (!r73))
    exact pcZ A130 z (by kernel_rfl)
   ·obtain rfl:=lf h
    have z:=p72 <| sg 14 c71 <| eF .normal (qfe false)
    exact pcZ A130 z (by kernel_rfl)
 ·have p75:=fun {sc F} (r:PS sc F) => p67 <| sg 4 c66 <| sv (qam t) <| sv (qal t) <| r
  rcases ifs h with ⟨c74,h⟩ | ⟨c74,h⟩
  ·obtain ⟨r76,br76,h⟩:=bnd h
   obtain rfl:=lf h
   have z:=p75 <| sg 14 c74 <| sv (qbs t) <| sv (qbC t) <| sca (qr4 br76) <| eF .normal (qfe (!r76))
   exact pcZ A130 z (by kernel_rfl)
  ·obtain rfl:=lf h
   have z:=p75 <| sg 14 c74 <| eF .normal (qfe false)
   exact pcZ A130 z (by kernel_rfl)
end
def qwf (t:tType):Option (Int) :=
 (qr0 t).bind fun o47 =>
 if o47 = true then
  some 1
 else
  (qrE t).bind fun o52 =>
  if o52 = true then
   some 13
  else
   (qrl t).bind fun o63 =>
   if o63 = true then
    some 13
   else
    (qsc t).bind fun o77 =>
    if o77 = true then
     some 3
    else
     some 0
theorem qEz {t:tType} {r:Int} (h:qwf t = some r):CC Pg GE 130 [.agg (qac t)] (.int .i64 r) []:=by
 obtain ⟨o47,bo47,h⟩:=bnd h
 have p49:=fun {sc F} (r:PS sc F) => se (qbj t) <| spa 1 <| spc (qyZ t bo47) <| r
 rcases ifs h with ⟨c48,h⟩ | ⟨c48,h⟩
 ·obtain rfl:=lf h
  have z:=p49 <| sg 0 c48 <| en (aI (rP (.int .i64 1)) <| trivial)
  exact cvZ A130 Tryz.call130 Tryz.func130 (c:=b130) rfl (aI (qaf t) trivial) z (by kernel_rfl)
 ·obtain ⟨o52,bo52,h⟩:=bnd h
  have p54:=fun {sc F} (r:PS sc F) => p49 <| sg 0 c48 <| spa 1 <| spc (qyF t bo52) <| r
  rcases ifs h with ⟨c53,h⟩ | ⟨c53,h⟩
  ·obtain rfl:=lf h
   have z:=p54 <| sg 0 c53 <| en (aI (rP (.int .i64 13)) <| trivial)
   exact cvZ A130 Tryz.call130 Tryz.func130 (c:=b130) rfl (aI (qaf t) trivial) z (by kernel_rfl)
  ·obtain ⟨o63,bo63,h⟩:=bnd h
   have p65:=fun {sc F} (r:PS sc F) => p54 <| sg 0 c53 <| spa 1 <| spc (qyW t bo63) <| r
   rcases ifs h with ⟨c64,h⟩ | ⟨c64,h⟩
   ·obtain rfl:=lf h
    have z:=p65 <| sg 0 c64 <| en (aI (rP (.int .i64 13)) <| trivial)
    exact cvZ A130 Tryz.call130 Tryz.func130 (c:=b130) rfl (aI (qaf t) trivial) z (by kernel_rfl)
   ·obtain ⟨o77,bo77,h⟩:=bnd h
    have p79:=fun {sc F} (r:PS sc F) => p65 <| sg 0 c64 <| spa 1 <| spc (qyX t bo77) <| r
    rcases ifs h with ⟨c78,h⟩ | ⟨c78,h⟩
    ·obtain rfl:=lf h
     have z:=p79 <| sg 0 c78 <| en (aI (rP (.int .i64 3)) <| trivial)
     exact cvZ A130 Tryz.call130 Tryz.func130 (c:=b130) rfl (aI (qaf t) trivial) z (by kernel_rfl)
    ·obtain rfl:=lf h
     have z:=p79 <| sg 0 c78 <| en (aI (rP (.int .i64 0)) <| trivial)
     exact cvZ A130 Tryz.call130 Tryz.func130 (c:=b130) rfl (aI (qaf t) trivial) z (by kernel_rfl)
noncomputable def b113:Code:=Tryz.f113.body.getD .skip
def A113:List Nat:=[11,23]
section
variable (R136:qpI) (t13:waC) (t14:Int) (t15:Int)
def qhm:PSt:=stt 25 [(13,sl qac t13),(14,.int .i64 t14),(15,.int .i64 t15)] [.dead] []
def qgS (o:(Int)⊕(Unit)):Exit:=match o with
 | (.inl _) => .ret
 | (.inr _) => .exit 0
def qfh (o:(Int)⊕(Unit)):PSt:=match o with
 | (.inl o) => stt 25 [(2,.int .i64 o)] [.dead] []
 | (.inr o) => stt 25 [] [.dead] []
def qs9:Option ((Int)⊕((Int)⊕(Unit))) :=
 if (decide (t15 < t14)) = true then
  (idx t13 t15).bind fun x5 =>
  (R136 x5).bind fun r6 =>
  if (r6 != 0) = true then
   some (.inr (.inl r6))
  else
   some (.inl (w64 (t15 + 1)))
 else
  some (.inr (.inr ()))
def qr8:Option ((Int)⊕(Unit)):=loop (fun (zz:Int) => qs9 R136 t13 t14 zz) t15
theorem qxE (hR136:quE R136) {y:(Int)⊕((Int)⊕(Unit))} (h:qs9 R136 t13 t14 t15 = some y) :
  Sat Pg GE 0 (cA b113 119) (LQ (fun (zz:Int) => qhm t13 t14 zz) qgS (qfh) y) (qhm t13 t14 t15):=by
 rcases ifs h with ⟨c4,h⟩ | ⟨c4,h⟩
 ·obtain ⟨x5,bx5,h⟩:=bnd h
  obtain ⟨r6,br6,h⟩:=bnd h
  have p8:=fun {sc F} (r:PS sc F) => sg 0 c4 <| sv (sT27.ia (k := .i64) bx5) <| sv (qaN x5) <| sx pz33 <| sx (qbI x5) <| sv (qa3 x5 []) <| sca (hR136 _ _ br6) <| r
  rcases ifs h with ⟨c7,h⟩ | ⟨c7,h⟩
  ·obtain rfl:=lf h
   have z:=p8 <| sg 0 c7 <| eFx 0 (qgS (.inl r6)) (qfh (.inl r6)) rfl (qbn (aI trivial trivial)) (aI trivial trivial)
   exact qhP (A:=A113) mixed (by intro hx; cases hx) z (by kernel_rfl)
  ·obtain rfl:=lf h
   have z:=p8 <| sg 0 c7 <| eFx 0 .normal (qhm t13 t14 (w64 (t15 + 1))) rfl (qbn (aI (up (qad qaf t13)) (aI trivial (aI trivial trivial)))) (aI trivial trivial)
   exact qa5 (A:=A113) mixed z (by kernel_rfl)
 ·obtain rfl:=lf h
  have z:=sg 0 c4 <| eF (qgS (.inr ())) (qfh (.inr ()))
  exact ovZ A113 (by intro hx; cases hx) z (by kernel_rfl)
theorem qqW (hR136:quE R136) {x:(Int)⊕(Unit)} (h:qr8 R136 t13 t14 t15 = some x) :
  Sat Pg GE 0 (.loop (cA b113 119)) (EX (qgS x) (qfh x)) (qhm t13 t14 t15) :=
 Sat.loop (S:=fun (zz:Int) => qhm t13 t14 zz) (ex:=qgS) (s:=t15) h fun zz y hy => qxE R136 t13 t14 zz hR136 hy
end
def qpC (R136:qpI) (t:tType):Option (Int) :=
 (qwf t).bind fun r1 =>
 if (r1 != 0) = true then
  some r1
 else
  (qr8 R136 t.Args (t.Args.length:Int) 0).bind fun o9 => match o9 with
  | (.inl o9) =>
   some o9
  | (.inr o9) =>
   some 0
theorem qCU (R136:qpI) (hR136:quE R136) {t:tType} {r:Int} (h:qpC R136 t = some r):CC Pg GE 113 [.agg (qac t)] (.int .i64 r) []:=by
 obtain ⟨r1,br1,h⟩:=bnd h
 have p3:=fun {sc F} (r:PS sc F) => se (qbj t) <| sv (qaN t) <| sca (qEz br1) <| r
 rcases ifs h with ⟨c2,h⟩ | ⟨c2,h⟩
 ·obtain rfl:=lf h
  have z:=p3 <| sg 0 c2 <| en (aI (rP (.int .i64 r1)) <| trivial)
  exact cvZ A113 Tryz.call113 Tryz.func113 (c:=b113) rfl (aI (qaf t) trivial) z (by kernel_rfl)
 ·obtain ⟨o9,bo9,h⟩:=bnd h
  rcases o9 with o9 | o9
  ·obtain rfl:=lf h
   have z:=p3 <| sg 0 c2 <| sv (qaq t) <| sv (qap t) <| svn (sT27.ln t.Args) <| spc (e := .ret) (s1:=qfh (.inl o9)) (qqW R136 t.Args (t.Args.length:Int) 0 hR136 bo9) <| en (aI (rP (.int .i64 o9)) <| trivial)
   exact cvZ A113 Tryz.call113 Tryz.func113 (c:=b113) rfl (aI (qaf t) trivial) z (by kernel_rfl)
  ·obtain rfl:=lf h
   have z:=p3 <| sg 0 c2 <| sv (qaq t) <| sv (qap t) <| svn (sT27.ln t.Args) <| spc (e := .exit 0) (s1:=qfh (.inr o9)) (qqW R136 t.Args (t.Args.length:Int) 0 hR136 bo9) <| en (aI (rP (.int .i64 0)) <| trivial)
   exact cvZ A113 Tryz.call113 Tryz.func113 (c:=b113) rfl (aI (qaf t) trivial) z (by kernel_rfl)
def qu4:((tType)→Option (Int))→(tType)→Option (Int):=fun (rec:tType→Option (Int)) (x:tType) => qpC (fun t => rec t) x
def qA0 (t:tType):Option (Int):=fixE (qu4) t
theorem qDG {t:tType} {r:Int} (h:qA0 t = some r):CC Pg GE 113 [.agg (qac t)] (.int .i64 r) [] :=
 qbo (F:=qu4) (M:=fun (x:tType) (r:Int) => CC Pg GE 113 [.agg (qac x)] (.int .i64 r) []) (fun rec hrec x r h => qCU _ (fun t r h => hrec t r h) h) h
noncomputable def b78:Code:=Tryz.f78.body.getD .skip
def A78:List Nat:=[]
def qsz (t:tType):Option (Int) :=
 (qxT t).bind fun r1 =>
 if (decide (r1 > 40)) = true then
  some 8
 else
  (qA0 t).bind fun r4 =>
  some r4
theorem qDg {t:tType} {r:Int} (h:qsz t = some r):CC Pg GE 78 [.agg (qac t)] (.int .i64 r) []:=by
 obtain ⟨r1,br1,h⟩:=bnd h
 have p3:=fun {sc F} (r:PS sc F) => se (qbj t) <| sv (qaN t) <| sca (qCn br1) <| r
 rcases ifs h with ⟨c2,h⟩ | ⟨c2,h⟩
 ·obtain rfl:=lf h
  have z:=p3 <| sg 0 c2 <| en (aI (rP (.int .i64 8)) <| trivial)
  exact cvZ A78 Tryz.call78 Tryz.func78 (c:=b78) rfl (aI (qaf t) trivial) z (by kernel_rfl)
 ·obtain ⟨r4,br4,h⟩:=bnd h
  obtain rfl:=lf h
  have z:=p3 <| sg 0 c2 <| sv (qaN t) <| sca (qDG br4) <| en (aI (rP (.int .i64 r4)) <| trivial)
  exact cvZ A78 Tryz.call78 Tryz.func78 (c:=b78) rfl (aI (qaf t) trivial) z (by kernel_rfl)
abbrev qpx:=(tType→Option (Int))
abbrev quB (R:qpx):Prop := ∀ (t:tType) (r:Int),R t = some r→CC Pg GE 79 [.agg (qac t)] (.int .i64 r) []
noncomputable def b131:Code:=Tryz.f131.body.getD .skip
def A131:List Nat:=[]
def qsy (p:tPred):Option (Bool) :=
 (qgg p (⟨0,([]:Str),0,([]:List tPred)⟩:tPred)).bind fun r1 =>
 some r1
theorem qwZ {p:tPred} {r:Bool} (h:qsy p = some r):CC Pg GE 131 [.agg (qaa p)] (.bool r) []:=by
 obtain ⟨r1,br1,h⟩:=bnd h
 obtain rfl:=lf h
 have z:=se (qaE p) <| sv (qaj p) <| sb (qpH ) (qpL ) <| sca (qgm br1) <| en (aI (rP (.bool r1)) <| trivial)
 exact cvZ A131 Tryz.call131 Tryz.func131 (c:=b131) rfl (aI (qab p) trivial) z (by kernel_rfl)
noncomputable def b33:Code:=Tryz.f33.body.getD .skip
def A33:List Nat:=[8]
section
variable (v:waB) (t5:Int) (t6:Int)
def qdR:PSt:=stt 18 [(0,sl cS v),(5,.int .i64 t5),(6,.int .i64 t6)] [] []
def qdM (o:(Unit)⊕(Unit)):Exit:=match o with
 | (.inl _) => .ret
 | (.inr _) => .exit 0
def qc5 (o:(Unit)⊕(Unit)):PSt:=match o with
 | (.inl o) => stt 18 [(2,.bool false)] [] []
 | (.inr o) => stt 18 [] [] []
def qmk:Option ((Int)⊕((Unit)⊕(Unit))) :=
 if (decide (t6 < t5)) = true then
  (idx v t6).bind fun x2 =>
  (qgi v x2).bind fun r3 =>
  if (r3 != t6) = true then
   some (.inr (.inl ()))
  else
   some (.inl (w64 (t6 + 1)))
 else
  some (.inr (.inr ()))
def qj2:Option ((Unit)⊕(Unit)):=loop (fun (zz:Int) => qmk v t5 zz) t6
theorem qrK {y:(Int)⊕((Unit)⊕(Unit))} (h:qmk v t5 t6 = some y) :
  Sat Pg GE 0 (cA b33 55) (LQ (fun (zz:Int) => qdR v t5 zz) qdM (qc5) y) (qdR v t5 t6):=by
 rcases ifs h with ⟨c1,h⟩ | ⟨c1,h⟩
 ·obtain ⟨x2,bx2,h⟩:=bnd h
  obtain ⟨r3,br3,h⟩:=bnd h
  have p5:=fun {sc F} (r:PS sc F) => sg 0 c1 <| sv (sT22.ia (k := .i64) bx2) <| sv (qa9 sc9 (.str x2) []) <| sca (qkd br3) <| r
  rcases ifs h with ⟨c4,h⟩ | ⟨c4,h⟩
  ·obtain rfl:=lf h
   have z:=p5 <| sg 0 c4 <| eF (qdM (.inl ())) (qc5 (.inl ()))
   exact ovZ A33 (by intro hx; cases hx) z (by kernel_rfl)
  ·obtain rfl:=lf h
   have z:=p5 <| sg 0 c4 <| eF .normal (qdR v t5 (w64 (t6 + 1)))
   exact nxZ A33 z (by kernel_rfl)
 ·obtain rfl:=lf h
  have z:=sg 0 c1 <| eF (qdM (.inr ())) (qc5 (.inr ()))
  exact ovZ A33 (by intro hx; cases hx) z (by kernel_rfl)
theorem qk9 {x:(Unit)⊕(Unit)} (h:qj2 v t5 t6 = some x) :
  Sat Pg GE 0 (.loop (cA b33 55)) (EX (qdM x) (qc5 x)) (qdR v t5 t6) :=
 Sat.loop (S:=fun (zz:Int) => qdR v t5 zz) (ex:=qdM) (s:=t6) h fun zz y hy => qrK v t5 zz hy
end
def qi0 (a:waB):Option (Bool) :=
 (qj2 a (a.length:Int) 0).bind fun o6 => match o6 with
 | (.inl o6) =>
  some false
 | (.inr o6) =>
  some true
theorem qkJ {a:waB} {r:Bool} (h:qi0 a = some r):CC Pg GE 33 [sl cS a] (.bool r) []:=by
 obtain ⟨o6,bo6,h⟩:=bnd h
 rcases o6 with o6 | o6
 ·obtain rfl:=lf h
  have z:=svn (sT22.ln a) <| spc (e := .ret) (s1:=qc5 (.inl o6)) (qk9 a (a.length:Int) 0 bo6) <| en (aI (rP (.bool false)) <| trivial)
  exact cvZ A33 Tryz.call33 Tryz.func33 (c:=b33) rfl (aI (qad clS a) trivial) z (by kernel_rfl)
 ·obtain rfl:=lf h
  have z:=svn (sT22.ln a) <| spc (e := .exit 0) (s1:=qc5 (.inr o6)) (qk9 a (a.length:Int) 0 bo6) <| en (aI (rP (.bool true)) <| trivial)
  exact cvZ A33 Tryz.call33 Tryz.func33 (c:=b33) rfl (aI (qad clS a) trivial) z (by kernel_rfl)
abbrev qp5:=(tPred→Option (Int))
abbrev quQ (R:qp5):Prop := ∀ (p:tPred) (r:Int),R p = some r→CC Pg GE 148 [.agg (qaa p)] (.int .i64 r) []
noncomputable def b185:Code:=Tryz.f185.body.getD .skip
def A185:List Nat:=[]
def qs0 (op:Int):Option (Bool) :=
 if (op == 3) = true then
  some true
 else
  if (op == 4) = true then
   some true
  else
   some (op == 5)
theorem qDo {op:Int} {r:Bool} (h:qs0 op = some r):CC Pg GE 185 [.int .i64 op] (.bool r) []:=by
 rcases ifs h with ⟨c1,h⟩ | ⟨c1,h⟩
 ·obtain rfl:=lf h
  have z:=sg 3 c1 <| en (aI (rP (.bool true)) <| trivial)
  exact cvZ A185 Tryz.call185 Tryz.func185 (c:=b185) rfl (aI trivial trivial) z (by kernel_rfl)
 ·rcases ifs h with ⟨c2,h⟩ | ⟨c2,h⟩
  ·obtain rfl:=lf h
   have z:=sg 3 c1 <| sg 7 c2 <| en (aI (rP (.bool true)) <| trivial)
   exact cvZ A185 Tryz.call185 Tryz.func185 (c:=b185) rfl (aI trivial trivial) z (by kernel_rfl)
  ·obtain rfl:=lf h
   have z:=sg 3 c1 <| sg 7 c2 <| en (aI (rP (.bool (op == 5))) <| trivial)
   exact cvZ A185 Tryz.call185 Tryz.func185 (c:=b185) rfl (aI trivial trivial) z (by kernel_rfl)
noncomputable def b186:Code:=Tryz.f186.body.getD .skip
def A186:List Nat:=[]
section
variable (n:Int) (t5:Int)
def qA8:PSt:=stt 28 [(1,.int .i64 n),(5,.int .i64 t5)] [] []
def qjF (o:Bool):PSt:=stt 28 [(1,.int .i64 n),(5,.int .i64 t5),(6,.bool o)] [] []
def qm4:Option ((Bool)) :=
 if (t5 == 1) = true then
  some (t5 == 1)
 else
  if (t5 == 2) = true then
   some (t5 == 2)
  else
   some (t5 == 3)
theorem qzg {x:(Bool)} (h:qm4 t5 = some x) :
  Sat Pg GE 0 (cA b186 54) (EX .normal (qjF n t5 x)) (qA8 n t5):=by
 rcases ifs h with ⟨c1,h⟩ | ⟨c1,h⟩
 ·obtain rfl:=lf h
  have z:=sg 0 c1 <| eF .normal (qjF n t5 (t5 == 1))
  exact pcZ A186 z (by kernel_rfl)
 ·rcases ifs h with ⟨c2,h⟩ | ⟨c2,h⟩
  ·obtain rfl:=lf h
   have z:=sg 0 c1 <| sg 0 c2 <| eF .normal (qjF n t5 (t5 == 2))
   exact pcZ A186 z (by kernel_rfl)
  ·obtain rfl:=lf h
   have z:=sg 0 c1 <| sg 0 c2 <| eF .normal (qjF n t5 (t5 == 3))
   exact pcZ A186 z (by kernel_rfl)
end
section
variable (n:Int) (t5:Int)
def qz0:PSt:=stt 28 [(1,.int .i64 n),(5,.int .i64 t5)] [] []
def qnr (o:Bool):PSt:=stt 28 [(1,.int .i64 n),(5,.int .i64 t5),(12,.bool o)] [] []
def qm7:Option ((Bool)) :=
 if (t5 == 4) = true then
  some (t5 == 4)
 else
  some (t5 == 5)
theorem qyY {x:(Bool)} (h:qm7 t5 = some x) :
  Sat Pg GE 0 (cA b186 222) (EX .normal (qnr n t5 x)) (qz0 n t5):=by
 rcases ifs h with ⟨c6,h⟩ | ⟨c6,h⟩
 ·obtain rfl:=lf h
  have z:=sg 0 c6 <| eF .normal (qnr n t5 (t5 == 4))
  exact pcZ A186 z (by kernel_rfl)
 ·obtain rfl:=lf h
  have z:=sg 0 c6 <| eF .normal (qnr n t5 (t5 == 5))
  exact pcZ A186 z (by kernel_rfl)
end
section
variable (n:Int) (t5:Int)
def qzX:PSt:=stt 28 [(1,.int .i64 n),(5,.int .i64 t5)] [] []
def qmV (o:Bool):PSt:=stt 28 [(1,.int .i64 n),(21,.bool o)] [] []
def qmG:Option ((Bool)) :=
 if (t5 == 9) = true then
  some (t5 == 9)
 else
  some (t5 == 14)
theorem qyC {x:(Bool)} (h:qmG t5 = some x) :
  Sat Pg GE 0 (cA b186 894) (EX .normal (qmV n x)) (qzX n t5):=by
 rcases ifs h with ⟨c12,h⟩ | ⟨c12,h⟩
 ·obtain rfl:=lf h
  have z:=sg 0 c12 <| eF .normal (qmV n (t5 == 9))
  exact pcZ A186 z (by kernel_rfl)
 ·obtain rfl:=lf h
  have z:=sg 0 c12 <| eF .normal (qmV n (t5 == 14))
  exact pcZ A186 z (by kernel_rfl)
end
def qjS (op:Int) (n:Int):Option (Bool) :=
 (qm4 op).bind fun o3 =>
 if o3 = true then
  some (n == 0)
 else
  (qm7 op).bind fun o7 =>
  if o7 = true then
   if (decide (n ≥ 1)) = true then
    some (decide (n ≤ 24))
   else
    some false
  else
   (qmG op).bind fun o13 =>
   if o13 = true then
    some (n == 1)
   else
    some (n == 2)
theorem qmK {op:Int} {n:Int} {r:Bool} (h:qjS op n = some r):CC Pg GE 186 [.int .i64 op,.int .i64 n] (.bool r) []:=by
 obtain ⟨o3,bo3,h⟩:=bnd h
 have p5:=fun {sc F} (r:PS sc F) => spa 3 <| spc (qzg n op bo3) <| r
 rcases ifs h with ⟨c4,h⟩ | ⟨c4,h⟩
 ·obtain rfl:=lf h
  have z:=p5 <| sg 0 c4 <| en (aI (rP (.bool (n == 0))) <| trivial)
  exact cvZ A186 Tryz.call186 Tryz.func186 (c:=b186) rfl (aI trivial (aI trivial trivial)) z (by kernel_rfl)
 ·obtain ⟨o7,bo7,h⟩:=bnd h
  have p9:=fun {sc F} (r:PS sc F) => p5 <| sg 0 c4 <| spa 0 <| spc (qyY n op bo7) <| r
  rcases ifs h with ⟨c8,h⟩ | ⟨c8,h⟩
  ·have p11:=fun {sc F} (r:PS sc F) => p9 <| sg 0 c8 <| r
   rcases ifs h with ⟨c10,h⟩ | ⟨c10,h⟩
   ·obtain rfl:=lf h
    have z:=p11 <| sg 3 c10 <| en (aI (rP (.bool (decide (n ≤ 24)))) <| trivial)
    exact cvZ A186 Tryz.call186 Tryz.func186 (c:=b186) rfl (aI trivial (aI trivial trivial)) z (by kernel_rfl)
   ·obtain rfl:=lf h
    have z:=p11 <| sg 3 c10 <| en (aI (rP (.bool false)) <| trivial)
    exact cvZ A186 Tryz.call186 Tryz.func186 (c:=b186) rfl (aI trivial (aI trivial trivial)) z (by kernel_rfl)
  ·obtain ⟨o13,bo13,h⟩:=bnd h
   have p15:=fun {sc F} (r:PS sc F) => p9 <| sg 0 c8 <| spa 0 <| spc (qyC n op bo13) <| r
   rcases ifs h with ⟨c14,h⟩ | ⟨c14,h⟩
   ·obtain rfl:=lf h
    have z:=p15 <| sg 0 c14 <| en (aI (rP (.bool (n == 1))) <| trivial)
    exact cvZ A186 Tryz.call186 Tryz.func186 (c:=b186) rfl (aI trivial (aI trivial trivial)) z (by kernel_rfl)
   ·obtain rfl:=lf h
    have z:=p15 <| sg 0 c14 <| en (aI (rP (.bool (n == 2))) <| trivial)
    exact cvZ A186 Tryz.call186 Tryz.func186 (c:=b186) rfl (aI trivial (aI trivial trivial)) z (by kernel_rfl)
noncomputable def b187:Code:=Tryz.f187.body.getD .skip
def A187:List Nat:=[]
def qFt (n:Int):Option (Bool) :=
 if (decide (n ≥ (-1000000000000))) = true then
  some (decide (n ≤ 1000000000000))
 else
  some false
theorem qHr {n:Int} {r:Bool} (h:qFt n = some r):CC Pg GE 187 [.int .i64 n] (.bool r) []:=by
 rcases ifs h with ⟨c1,h⟩ | ⟨c1,h⟩
 ·obtain rfl:=lf h
  have z:=sg 3 c1 <| en (aI (rP (.bool (decide (n ≤ 1000000000000)))) <| trivial)
  exact cvZ A187 Tryz.call187 Tryz.func187 (c:=b187) rfl (aI trivial trivial) z (by kernel_rfl)
 ·obtain rfl:=lf h
  have z:=sg 3 c1 <| en (aI (rP (.bool false)) <| trivial)
  exact cvZ A187 Tryz.call187 Tryz.func187 (c:=b187) rfl (aI trivial trivial) z (by kernel_rfl)
noncomputable def b188:Code:=Tryz.f188.body.getD .skip
def A188:List Nat:=[]
def qpK (p:tPred):Option (Bool) :=
 if (p.Op == 3) = true then
  if (p.Name == ([118]:Str)) = true then
   some true
  else
   (qkS p.Name).bind fun r5 =>
   some (r5 == 0)
 else
  if (p.Op == 4) = true then
   if (p.Name == ([116,97,103]:Str)) = true then
    some true
   else
    if (p.Name == ([118,97,108]:Str)) = true then
     some true
    else
     (qkS p.Name).bind fun r12 =>
     some (r12 == 0)
  else
   if (p.Op == 5) = true then
    (qkS p.Name).bind fun r15 =>
    some (r15 == 0)
   else
    some true
theorem qAv {p:tPred} {r:Bool} (h:qpK p = some r):CC Pg GE 188 [.agg (qaa p)] (.bool r) []:=by
 have p2:=fun {sc F} (r:PS sc F) => se (qaE p) <| sv (qaw p) <| sv (qau p) <| r
 rcases ifs h with ⟨c1,h⟩ | ⟨c1,h⟩
 ·have p4:=fun {sc F} (r:PS sc F) => p2 <| sg 0 c1 <| sv (qaH p) <| sv (qaO p) <| r
  rcases ifs h with ⟨c3,h⟩ | ⟨c3,h⟩
  ·obtain rfl:=lf h
   have z:=p4 <| sg 4 c3 <| en (aI (rP (.bool true)) <| trivial)
   exact cvZ A188 Tryz.call188 Tryz.func188 (c:=b188) rfl (aI (qab p) trivial) z (by kernel_rfl)
  ·obtain ⟨r5,br5,h⟩:=bnd h
   obtain rfl:=lf h
   have z:=p4 <| sg 4 c3 <| sv (qaH p) <| sv (qaO p) <| sca (qkv br5) <| en (aI (rP (.bool (r5 == 0))) <| trivial)
   exact cvZ A188 Tryz.call188 Tryz.func188 (c:=b188) rfl (aI (qab p) trivial) z (by kernel_rfl)
 ·have p7:=fun {sc F} (r:PS sc F) => p2 <| sg 0 c1 <| r
  rcases ifs h with ⟨c6,h⟩ | ⟨c6,h⟩
  ·have p9:=fun {sc F} (r:PS sc F) => p7 <| sg 0 c6 <| sv (qaH p) <| sv (qaO p) <| r
   rcases ifs h with ⟨c8,h⟩ | ⟨c8,h⟩
   ·obtain rfl:=lf h
    have z:=p9 <| sg 4 c8 <| en (aI (rP (.bool true)) <| trivial)
    exact cvZ A188 Tryz.call188 Tryz.func188 (c:=b188) rfl (aI (qab p) trivial) z (by kernel_rfl)
   ·have p11:=fun {sc F} (r:PS sc F) => p9 <| sg 4 c8 <| sv (qaH p) <| sv (qaO p) <| r
    rcases ifs h with ⟨c10,h⟩ | ⟨c10,h⟩
    ·obtain rfl:=lf h
     have z:=p11 <| sg 9 c10 <| en (aI (rP (.bool true)) <| trivial)
     exact cvZ A188 Tryz.call188 Tryz.func188 (c:=b188) rfl (aI (qab p) trivial) z (by kernel_rfl)
    ·obtain ⟨r12,br12,h⟩:=bnd h
     obtain rfl:=lf h
     have z:=p11 <| sg 9 c10 <| sv (qaH p) <| sv (qaO p) <| sca (qkv br12) <| en (aI (rP (.bool (r12 == 0))) <| trivial)
     exact cvZ A188 Tryz.call188 Tryz.func188 (c:=b188) rfl (aI (qab p) trivial) z (by kernel_rfl)
  ·have p14:=fun {sc F} (r:PS sc F) => p7 <| sg 0 c6 <| r
   rcases ifs h with ⟨c13,h⟩ | ⟨c13,h⟩
   ·obtain ⟨r15,br15,h⟩:=bnd h
    obtain rfl:=lf h
    have z:=p14 <| sg 0 c13 <| sv (qaH p) <| sv (qaO p) <| sca (qkv br15) <| en (aI (rP (.bool (r15 == 0))) <| trivial)
    exact cvZ A188 Tryz.call188 Tryz.func188 (c:=b188) rfl (aI (qab p) trivial) z (by kernel_rfl)
   ·obtain rfl:=lf h
    have z:=p14 <| sg 0 c13 <| en (aI (rP (.bool true)) <| trivial)
    exact cvZ A188 Tryz.call188 Tryz.func188 (c:=b188) rfl (aI (qab p) trivial) z (by kernel_rfl)
end Go.Proofs.YtgldgpdhblndkaaGreatDoor
