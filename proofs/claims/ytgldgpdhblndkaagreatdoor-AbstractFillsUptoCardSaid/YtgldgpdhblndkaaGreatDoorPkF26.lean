/- WHAT IS PROVED: parts of the proof, put together by a program (Ck1 G17 Na Pp1 Pp2 Pp6). Conditions: none. -/
import Derived.Test.YtgldgpdhblndkaaGreatDoorPkF25
import Derived.Test.YtgldgpdhblndkaaGreatDoorPkF12
import Derived.Test.YtgldgpdhblndkaaGreatDoorPkF13
import Derived.Test.YtgldgpdhblndkaaGreatDoorPkF10
noncomputable section
namespace Go.Proofs.YtgldgpdhblndkaaGreatDoor
open Go
set_option linter.unusedVariables false
set_option maxRecDepth 100000
noncomputable def b7:Code:=Tryz.f7.body.getD .skip
def A7:List Nat:=[46,49,118,119]
section
variable (abs:waF) (sols:waA) (t:tType)
def qn4:PSt:=stt 164 [(1,sl qaC abs),(2,sl qaa sols),(3,.eptr (qac t))] [.dead] []
def qbL (o:Bool):PSt:=stt 164 [(1,sl qaC abs),(2,sl qaa sols),(3,.eptr (qac t)),(40,.bool o)] [.dead] []
def qfB:Option ((Bool)) :=
 (qEr ([t]:List tType)).bind fun r1 =>
 if (!r1) = true then
  some true
 else
  (qAx t).bind fun r4 =>
  if (!r4) = true then
   some true
  else
   if (decide ((abs.length:Int) > 4)) = true then
    some true
   else
    if ((sols.length:Int) != (abs.length:Int)) = true then
     some true
    else
     (qsR t).bind fun r11 =>
     some (r11 != 0)
theorem qnu {x:(Bool)} (h:qfB abs sols t = some x) :
  Sat Pg GE 0 (cA b7 12) (EX .normal (qbL abs sols t x)) (qn4 abs sols t):=by
 obtain ⟨r1,br1,h⟩:=bnd h
 have p3:=fun {sc F} (r:PS sc F) => sv (qaN t) <| sv (sT27.mk' (v:=qiq) qdE ([t]:List tType) 1 (by kernel_rfl)) <| sca (qF1 br1) <| r
 rcases ifs h with ⟨c2,h⟩ | ⟨c2,h⟩
 ·obtain rfl:=lf h
  have z:=p3 <| sg 5 c2 <| eF .normal (qbL abs sols t true)
  exact pcZ A7 z (by kernel_rfl)
 ·obtain ⟨r4,br4,h⟩:=bnd h
  have p6:=fun {sc F} (r:PS sc F) => p3 <| sg 5 c2 <| sv (qaN t) <| sca (qEu br4) <| r
  rcases ifs h with ⟨c5,h⟩ | ⟨c5,h⟩
  ·obtain rfl:=lf h
   have z:=p6 <| sg 10 c5 <| eF .normal (qbL abs sols t true)
   exact pcZ A7 z (by kernel_rfl)
  ·have p8:=fun {sc F} (r:PS sc F) => p6 <| sg 10 c5 <| svn (sT24.ln abs) <| r
   rcases ifs h with ⟨c7,h⟩ | ⟨c7,h⟩
   ·obtain rfl:=lf h
    have z:=p8 <| sg 15 c7 <| eF .normal (qbL abs sols t true)
    exact pcZ A7 z (by kernel_rfl)
   ·have p10:=fun {sc F} (r:PS sc F) => p8 <| sg 15 c7 <| svn (sT29.ln sols) <| svn (sT24.ln abs) <| r
    rcases ifs h with ⟨c9,h⟩ | ⟨c9,h⟩
    ·obtain rfl:=lf h
     have z:=p10 <| sg 22 c9 <| eF .normal (qbL abs sols t true)
     exact pcZ A7 z (by kernel_rfl)
    ·obtain ⟨r11,br11,h⟩:=bnd h
     obtain rfl:=lf h
     have z:=p10 <| sg 22 c9 <| sv (qaN t) <| sca (qDD br11) <| eF .normal (qbL abs sols t (r11 != 0))
     exact pcZ A7 z (by kernel_rfl)
end
section
variable (abs:waF) (sols:waA) (t:tType) (names:waB) (i:Int) (free:waB) (t43:Int) (m:Str) (m2:Str)
def qn3:PSt:=stt 164 [(1,sl qaC abs),(2,sl qaa sols),(3,.eptr (qac t)),(7,sl cS names),(8,.int .i64 i),(10,sl cS free),(42,sl qaC abs),(43,.int .i64 t43),(44,.int .i64 i)] [.dead,.cells [.str m,.str m2] []] [((10,0),9),((7,0),9)]
def qbl (o:Bool):PSt:=stt 164 [(1,sl qaC abs),(2,sl qaa sols),(3,.eptr (qac t)),(7,sl cS names),(42,sl qaC abs),(43,.int .i64 t43),(44,.int .i64 i),(98,.bool o)] [.dead,.cells [.str m,.str m2] []] [((7,0),9)]
def qcV:Option ((Bool)) :=
 (idx sols i).bind fun x21 =>
 (qn5 x21).bind fun r22 =>
 if (decide (r22 > 6)) = true then
  some true
 else
  if (decide ((free.length:Int) > 1)) = true then
   some true
  else
   if ((free.length:Int) == 1) = true then
    (idx free 0).bind fun x29 =>
    if (!(x29 == ([118]:Str))) = true then
     some true
    else
     (idx sols i).bind fun x32 =>
     (qp3 x32).bind fun r33 =>
     if (decide ((r33.length:Int) > 0)) = true then
      some true
     else
      (idx sols i).bind fun x36 =>
      (qf7 x36).bind fun r37 =>
      some (decide ((r37.length:Int) > 0))
   else
    (idx sols i).bind fun x38 =>
    (qp3 x38).bind fun r39 =>
    if (decide ((r39.length:Int) > 0)) = true then
     some true
    else
     (idx sols i).bind fun x42 =>
     (qf7 x42).bind fun r43 =>
     some (decide ((r43.length:Int) > 0))
theorem qmC {x:(Bool)} (h:qcV sols i free = some x) :
  Sat Pg GE 0 (cA b7 63454) (EX .normal (qbl abs sols t names i t43 m m2 x)) (qn3 abs sols t names i free t43 m m2):=by
 obtain ⟨x21,bx21,h⟩:=bnd h
 obtain ⟨r22,br22,h⟩:=bnd h
 have p24:=fun {sc F} (r:PS sc F) => sv (sT29.ia (k := .i64) bx21) <| sv (qaj x21) <| sca (qod br22) <| r
 rcases ifs h with ⟨c23,h⟩ | ⟨c23,h⟩
 ·obtain rfl:=lf h
  have z:=p24 <| sg 7 c23 <| eF .normal (qbl abs sols t names i t43 m m2 true)
  exact pcZ A7 z (by kernel_rfl)
 ·have p26:=fun {sc F} (r:PS sc F) => p24 <| sg 7 c23 <| svn (sT22.ln free) <| r
  rcases ifs h with ⟨c25,h⟩ | ⟨c25,h⟩
  ·obtain rfl:=lf h
   have z:=p26 <| sg 12 c25 <| eF .normal (qbl abs sols t names i t43 m m2 true)
   exact pcZ A7 z (by kernel_rfl)
  ·have p28:=fun {sc F} (r:PS sc F) => p26 <| sg 12 c25 <| svn (sT22.ln free) <| r
   rcases ifs h with ⟨c27,h⟩ | ⟨c27,h⟩
   ·obtain ⟨x29,bx29,h⟩:=bnd h
    have p31:=fun {sc F} (r:PS sc F) => p28 <| sg 16 c27 <| sv (sT22.ia (k := .i64) bx29) <| sv (qa9 sc9 (.str x29) []) <| r
    rcases ifs h with ⟨c30,h⟩ | ⟨c30,h⟩
    ·obtain rfl:=lf h
     have z:=p31 <| sg 23 c30 <| eF .normal (qbl abs sols t names i t43 m m2 true)
     exact pcZ A7 z (by kernel_rfl)
    ·obtain ⟨x32,bx32,h⟩:=bnd h
     obtain ⟨r33,br33,h⟩:=bnd h
     have p35:=fun {sc F} (r:PS sc F) => p31 <| sg 23 c30 <| sv (sT29.ia (k := .i64) bx32) <| sv (qaj x32) <| sca (qxS br33) <| svn (sT29.ln r33) <| r
     rcases ifs h with ⟨c34,h⟩ | ⟨c34,h⟩
     ·obtain rfl:=lf h
      have z:=p35 <| sg 32 c34 <| eF .normal (qbl abs sols t names i t43 m m2 true)
      exact pcZ A7 z (by kernel_rfl)
     ·obtain ⟨x36,bx36,h⟩:=bnd h
      obtain ⟨r37,br37,h⟩:=bnd h
      obtain rfl:=lf h
      have z:=p35 <| sg 32 c34 <| sv (sT29.ia (k := .i64) bx36) <| sv (qaj x36) <| sca (qoM br37) <| svn (sT29.ln r37) <| eF .normal (qbl abs sols t names i t43 m m2 (decide ((r37.length:Int) > 0)))
      exact pcZ A7 z (by kernel_rfl)
   ·obtain ⟨x38,bx38,h⟩:=bnd h
    obtain ⟨r39,br39,h⟩:=bnd h
    have p41:=fun {sc F} (r:PS sc F) => p28 <| sg 16 c27 <| sv (sT29.ia (k := .i64) bx38) <| sv (qaj x38) <| sca (qxS br39) <| svn (sT29.ln r39) <| r
    rcases ifs h with ⟨c40,h⟩ | ⟨c40,h⟩
    ·obtain rfl:=lf h
     have z:=p41 <| sg 32 c40 <| eF .normal (qbl abs sols t names i t43 m m2 true)
     exact pcZ A7 z (by kernel_rfl)
    ·obtain ⟨x42,bx42,h⟩:=bnd h
     obtain ⟨r43,br43,h⟩:=bnd h
     obtain rfl:=lf h
     have z:=p41 <| sg 32 c40 <| sv (sT29.ia (k := .i64) bx42) <| sv (qaj x42) <| sca (qoM br43) <| svn (sT29.ln r43) <| eF .normal (qbl abs sols t names i t43 m m2 (decide ((r43.length:Int) > 0)))
     exact pcZ A7 z (by kernel_rfl)
end
section
variable (abs:waF) (sols:waA) (t:tType) (t43:Int) (names:waB) (t44:Int)
def qb8:PSt:=stt 164 [(1,sl qaC abs),(2,sl qaa sols),(3,.eptr (qac t)),(7,sl cS names),(42,sl qaC abs),(43,.int .i64 t43),(44,.int .i64 t44)] [.dead] [((7,0),9)]
def qcd (o:(Bool)⊕(waB)):Exit:=match o with
 | (.inl _) => .ret
 | (.inr _) => .exit 0
def qbM (o:(Bool)⊕(waB)):PSt:=match o with
 | (.inl o) => stt 164 [(6,.bool o)] [.dead] []
 | (.inr o) => stt 164 [(1,sl qaC abs),(2,sl qaa sols),(3,.eptr (qac t)),(7,sl cS o)] [.dead] [((7,0),9)]
def qh1:Option ((waB×Int)⊕((Bool)⊕(waB))) :=
 if (decide (t44 < t43)) = true then
  (idx abs t44).bind fun x17 =>
  (app names ([x17.Name]:List Str)).bind fun l18 =>
  (idx sols t44).bind fun x19 =>
  (qwB x19).bind fun r20 =>
  (qcV sols t44 r20).bind fun o44 =>
  if o44 = true then
   (qj3).bind fun r47 =>
   some (.inr (.inl r47))
  else
   some (.inl (l18,w64 (t44 + 1)))
 else
  some (.inr (.inr names))
def qdv:Option ((Bool)⊕(waB)):=loop (fun (zz:waB×Int) => qh1 abs sols t43 zz.1 zz.2) (names,t44)
theorem qml {y:(waB×Int)⊕((Bool)⊕(waB))} (h:qh1 abs sols t43 names t44 = some y) :
  Sat Pg GE 0 (cA b7 247) (LQ (fun (zz:waB×Int) => qb8 abs sols t t43 zz.1 zz.2) qcd (qbM abs sols t) y) (qb8 abs sols t t43 names t44):=by
 rcases ifs h with ⟨c16,h⟩ | ⟨c16,h⟩
 ·obtain ⟨x17,bx17,h⟩:=bnd h
  obtain ⟨l18,bl18,h⟩:=bnd h
  obtain ⟨x19,bx19,h⟩:=bnd h
  obtain ⟨r20,br20,h⟩:=bnd h
  obtain ⟨o44,bo44,h⟩:=bnd h
  have p46:=fun {sc F} (r:PS sc F) => sg 0 c16 <| sv (sT24.ia (k := .i64) bx17) <| sv (qEh x17) <| sx pz76 <| sx (qE4 x17) <| ss <| sv (sT22.mk' (v:=PVal.str) pcS ([x17.Name]:List Str) 1 (by kernel_rfl)) <| sv (sT22.ap bl18) <| sv (sT29.ia (k := .i64) bx19) <| sv (qaj x19) <| sca (qEN br20) <| spa 0 <| spc (qmC abs sols t l18 t44 r20 t43 x17.Name x17.Sort_ bo44) <| r
  rcases ifs h with ⟨c45,h⟩ | ⟨c45,h⟩
  ·obtain ⟨r47,br47,h⟩:=bnd h
   obtain rfl:=lf h
   have z:=p46 <| sg 0 c45 <| sca (qk2 br47) <| eFx 0 (qcd (.inl r47)) (qbM abs sols t (.inl r47)) rfl (qbn (aI trivial trivial)) (aI trivial trivial)
   exact qhP (A:=A7) mixed (by intro hx; cases hx) z (by kernel_rfl)
  ·obtain rfl:=lf h
   have z:=p46 <| sg 0 c45 <| eFx 0 .normal (qb8 abs sols t t43 l18 (w64 (t44 + 1))) rfl (qbn (aI (up (qad qbA abs)) (aI (up (qad qab sols)) (aI (qbw (qaf t)) (aI (up (qad clS l18)) (aI (up (qad qbA abs)) (aI trivial (aI trivial trivial)))))))) (aI trivial trivial)
   exact qa5 (A:=A7) mixed z (by kernel_rfl)
 ·obtain rfl:=lf h
  have z:=sg 0 c16 <| eF (qcd (.inr names)) (qbM abs sols t (.inr names))
  exact ovZ A7 (by intro hx; cases hx) z (by kernel_rfl)
theorem qhD {x:(Bool)⊕(waB)} (h:qdv abs sols t43 names t44 = some x) :
  Sat Pg GE 0 (.loop (cA b7 247)) (EX (qcd x) (qbM abs sols t x)) (qb8 abs sols t t43 names t44) :=
 Sat.loop (S:=fun (zz:waB×Int) => qb8 abs sols t t43 zz.1 zz.2) (ex:=qcd) (s:=(names,t44)) h fun zz y hy => qml abs sols t t43 zz.1 zz.2 hy
end
section
variable (abs:waF) (sols:waA) (t:tType) (names:waB)
def qnV:PSt:=stt 164 [(1,sl qaC abs),(2,sl qaa sols),(3,.eptr (qac t)),(7,sl cS names)] [.dead] [((7,0),9)]
def qev (o:Bool):PSt:=stt 164 [(1,sl qaC abs),(2,sl qaa sols),(3,.eptr (qac t)),(7,sl cS names),(109,.bool o)] [.dead] [((7,0),9)]
def qfE:Option ((Bool)) :=
 (qi0 names).bind fun r49 =>
 if (!r49) = true then
  some true
 else
  (qsw t).bind fun r51 =>
  some (decide ((r51.length:Int) > 0))
theorem qng {x:(Bool)} (h:qfE t names = some x) :
  Sat Pg GE 0 (cA b7 124) (EX .normal (qev abs sols t names x)) (qnV abs sols t names):=by
 obtain ⟨r49,br49,h⟩:=bnd h
 rcases ifs h with ⟨c50,h⟩ | ⟨c50,h⟩
 ·obtain rfl:=lf h
  have z:=sca (qkJ br49) <| sg 4 c50 <| eF .normal (qev abs sols t names true)
  exact pcZ A7 z (by kernel_rfl)
 ·obtain ⟨r51,br51,h⟩:=bnd h
  obtain rfl:=lf h
  have z:=sca (qkJ br49) <| sg 4 c50 <| sv (qaN t) <| sca (qCg br51) <| svn (sT22.ln r51) <| eF .normal (qev abs sols t names (decide ((r51.length:Int) > 0)))
  exact pcZ A7 z (by kernel_rfl)
end
section
variable (abs:waF) (sols:waA) (t:tType) (names:waB) (holes:waD) (t115:Int) (v:waG) (t116:Int)
def qce:PSt:=stt 164 [(1,sl qaC abs),(2,sl qaa sols),(3,.eptr (qac t)),(7,sl cS names),(11,sl qas holes),(12,sl qcD v),(115,.int .i64 t115),(116,.int .i64 t116)] [.dead] [((12,0),84),((11,0),82),((7,0),9)]
def qeB (o:waG):PSt:=stt 164 [(1,sl qaC abs),(2,sl qaa sols),(3,.eptr (qac t)),(7,sl cS names),(11,sl qas holes),(12,sl qcD o)] [.dead] [((12,0),84),((11,0),82),((7,0),9)]
def qic:Option ((waG×Int)⊕((waG))) :=
 if (decide (t116 < t115)) = true then
  (idx holes t116).bind fun x58 =>
  (idx sols t116).bind fun x59 =>
  (app v ([(⟨x58.Name,x59⟩:tSol)]:List tSol)).bind fun l60 =>
  some (.inl (l60,w64 (t116 + 1)))
 else
  some (.inr v)
def qdz:Option ((waG)):=loop (fun (zz:waG×Int) => qic sols holes t115 zz.1 zz.2) (v,t116)
theorem qmq {y:(waG×Int)⊕((waG))} (h:qic sols holes t115 v t116 = some y) :
  Sat Pg GE 0 (cA b7 4087) (LQ (fun (zz:waG×Int) => qce abs sols t names holes t115 zz.1 zz.2) (fun _ => .exit 2) (qeB abs sols t names holes) y) (qce abs sols t names holes t115 v t116):=by
 rcases ifs h with ⟨c57,h⟩ | ⟨c57,h⟩
 ·obtain ⟨x58,bx58,h⟩:=bnd h
  obtain ⟨x59,bx59,h⟩:=bnd h
  obtain ⟨l60,bl60,h⟩:=bnd h
  obtain rfl:=lf h
  have z:=sg 0 c57 <| sdr [0,0,0,6,14,30,0,0,192,448,1022,2046,4095,8191] <| sv (sT38.ia (k := .i64) bx58) <| sv (qtF x58) <| sv (qvo x58) <| sv (sT29.ia (k := .i64) bx59) <| sv (qaj x59) <| sv (qED x58.Name x59) <| sv (sT80.mk' (v:=qKC) qJZ ([(⟨x58.Name,x59⟩:tSol)]:List tSol) 1 (by kernel_rfl)) <| sv (sT80.ap bl60) <| eF .normal (qce abs sols t names holes t115 l60 (w64 (t116 + 1)))
  exact nxZ A7 z (by kernel_rfl)
 ·obtain rfl:=lf h
  have z:=sg 0 c57 <| eF (.exit 2) (qeB abs sols t names holes v)
  exact ovZ A7 (by intro hx; cases hx) z (by kernel_rfl)
theorem qmP {x:(waG)} (h:qdz sols holes t115 v t116 = some x) :
  Sat Pg GE 0 (.loop (cA b7 4087)) (EX (.exit 2) (qeB abs sols t names holes x)) (qce abs sols t names holes t115 v t116) :=
 Sat.loop (S:=fun (zz:waG×Int) => qce abs sols t names holes t115 zz.1 zz.2) (ex:=(fun _ => .exit 2)) (s:=(v,t116)) h fun zz y hy => qmq abs sols t names holes t115 zz.1 zz.2 hy
end
section
variable (abs:waF) (sols:waA) (t:tType) (names:waB) (holes:waD) (v:waG) (m:Int) (m2:Str) (m3:waC) (m4:waB) (m5:Int) (m6:Str) (m7:Int) (m8:waA) (m9:waA)
def qnX:PSt:=stt 164 [(1,sl qaC abs),(2,sl qaa sols),(3,.eptr (qac t)),(7,sl cS names),(11,sl qas holes),(12,sl qcD v),(14,.bptr 1 0)] [.dead,.cells [.int .i64 m,.str m2,sl qac m3,sl cS m4,.int .i64 m5,.str m6,.int .i64 m7,sl qaa m8,sl qaa m9] [(2,33)]] [((12,0),84),((11,0),82),((7,0),9)]
def qdd (o:Bool):PSt:=stt 164 [(2,sl qaa sols),(3,.eptr (qac t)),(7,sl cS names),(11,sl qas holes),(12,sl qcD v),(14,.bptr 1 0),(151,.bool o)] [.dead,.cells [.int .i64 m,.str m2,sl qac m3,sl cS m4,.int .i64 m5,.str m6,.int .i64 m7,sl qaa m8,sl qaa m9] [(2,33)]] [((12,0),84),((11,0),82),((7,0),9)]
def qfD:Option ((Bool)) :=
 (qwm t (⟨m,m2,m3,m4,(⟨m5,m6,m7,m8⟩:tPred),m9⟩:tType)).bind fun r63 =>
 if (!r63) = true then
  some true
 else
  if ((abs.length:Int) == 0) = true then
   (qlc t (⟨m,m2,m3,m4,(⟨m5,m6,m7,m8⟩:tPred),m9⟩:tType)).bind fun r68 =>
   some (!r68)
  else
   some false
theorem qm5 {x:(Bool)} (h:qfD abs t m m2 m3 m4 m5 m6 m7 m8 m9 = some x) :
  Sat Pg GE 0 (cA b7 4092) (EX .normal (qdd sols t names holes v m m2 m3 m4 m5 m6 m7 m8 m9 x)) (qnX abs sols t names holes v m m2 m3 m4 m5 m6 m7 m8 m9):=by
 obtain ⟨r63,br63,h⟩:=bnd h
 have p65:=fun {sc F} (r:PS sc F) => sv (qaN t) <| sv (qa3 (⟨m,m2,m3,m4,(⟨m5,m6,m7,m8⟩:tPred),m9⟩:tType) []) <| sca (qEy br63) <| r
 rcases ifs h with ⟨c64,h⟩ | ⟨c64,h⟩
 ·obtain rfl:=lf h
  have z:=p65 <| sg 5 c64 <| eF .normal (qdd sols t names holes v m m2 m3 m4 m5 m6 m7 m8 m9 true)
  exact pcZ A7 z (by kernel_rfl)
 ·have p67:=fun {sc F} (r:PS sc F) => p65 <| sg 5 c64 <| svn (sT24.ln abs) <| r
  rcases ifs h with ⟨c66,h⟩ | ⟨c66,h⟩
  ·obtain ⟨r68,br68,h⟩:=bnd h
   obtain rfl:=lf h
   have z:=p67 <| sg 9 c66 <| sv (qaN t) <| sv (qa3 (⟨m,m2,m3,m4,(⟨m5,m6,m7,m8⟩:tPred),m9⟩:tType) []) <| sca (qku br68) <| eF .normal (qdd sols t names holes v m m2 m3 m4 m5 m6 m7 m8 m9 (!r68))
   exact pcZ A7 z (by kernel_rfl)
  ·obtain rfl:=lf h
   have z:=p67 <| sg 9 c66 <| eF .normal (qdd sols t names holes v m m2 m3 m4 m5 m6 m7 m8 m9 false)
   exact pcZ A7 z (by kernel_rfl)
end
def qij (t:tType) (abs:waF) (sols:waA):Option (Bool) :=
 (qfB abs sols t).bind fun o12 =>
 if o12 = true then
  (qj3).bind fun r15 =>
  some r15
 else
  (qdv abs sols (abs.length:Int) ([]:List Str) 0).bind fun o48 => match o48 with
  | (.inl o48) =>
   some o48
  | (.inr o48) =>
   (qfE t o48).bind fun o52 =>
   if o52 = true then
    (qj3).bind fun r55 =>
    some r55
   else
    (qfI (⟨([]:List Str),([]:List tNeed),abs,([]:List tBound),(⟨0,([]:Str),([]:List tType),([]:List Str),(⟨0,([]:Str),0,([]:List tPred)⟩:tPred),([]:List tPred)⟩:tType),([]:List tPred)⟩:tSig) ([104]:Str) ([]:List tVar)).bind fun r56 =>
    (qdz sols r56 (r56.length:Int) ([]:List tSol) 0).bind fun o61 =>
    (qfp t abs r56).bind fun r62 =>
    (qfD abs t r62.Op r62.Name r62.Args r62.Names r62.Pred.Op r62.Pred.Name r62.Pred.N r62.Pred.Kids r62.Preds).bind fun o69 =>
    if o69 = true then
     some false
    else
     (qz4 r62 r56 o61).bind fun r72 =>
     (quu t o48 sols).bind fun r73 =>
     (qlc r72 r73).bind fun r74 =>
     if r74 = true then
      (qj3).bind fun r77 =>
      some r77
     else
      some false
theorem qqr {t:tType} {abs:waF} {sols:waA} {r:Bool} (h:qij t abs sols = some r):CC Pg GE 7 [.agg (qac t),sl qaC abs,sl qaa sols] (.bool r) []:=by
 obtain ⟨o12,bo12,h⟩:=bnd h
 have p14:=fun {sc F} (r:PS sc F) => se (qbj t) <| spa 1 <| spc (qnu abs sols t bo12) <| r
 rcases ifs h with ⟨c13,h⟩ | ⟨c13,h⟩
 ·obtain ⟨r15,br15,h⟩:=bnd h
  obtain rfl:=lf h
  have z:=p14 <| sg 0 c13 <| sca (qk2 br15) <| en (aI (rP (.bool r15)) <| trivial)
  exact cvZ A7 Tryz.call7 Tryz.func7 (c:=b7) rfl (aI (qaf t) (aI (qad qbA abs) (aI (qad qab sols) trivial))) z (by kernel_rfl)
 ·obtain ⟨o48,bo48,h⟩:=bnd h
  rcases o48 with o48 | o48
  ·obtain rfl:=lf h
   have z:=p14 <| sg 0 c13 <| svn (sT24.ln abs) <| spc (e := .ret) (s1:=qbM abs sols t (.inl o48)) (qhD abs sols t (abs.length:Int) ([]:List Str) 0 bo48) <| en (aI (rP (.bool o48)) <| trivial)
   exact cvZ A7 Tryz.call7 Tryz.func7 (c:=b7) rfl (aI (qaf t) (aI (qad qbA abs) (aI (qad qab sols) trivial))) z (by kernel_rfl)
  ·obtain ⟨o52,bo52,h⟩:=bnd h
   have p54:=fun {sc F} (r:PS sc F) => p14 <| sg 0 c13 <| svn (sT24.ln abs) <| spc (e := .exit 0) (s1:=qbM abs sols t (.inr o48)) (qhD abs sols t (abs.length:Int) ([]:List Str) 0 bo48) <| spa 1 <| spc (qng abs sols t o48 bo52) <| r
   rcases ifs h with ⟨c53,h⟩ | ⟨c53,h⟩
   ·obtain ⟨r55,br55,h⟩:=bnd h
    obtain rfl:=lf h
    have z:=p54 <| sg 0 c53 <| sca (qk2 br55) <| en (aI (rP (.bool r55)) <| trivial)
    exact cvZ A7 Tryz.call7 Tryz.func7 (c:=b7) rfl (aI (qaf t) (aI (qad qbA abs) (aI (qad qab sols) trivial))) z (by kernel_rfl)
   ·obtain ⟨r56,br56,h⟩:=bnd h
    obtain ⟨o61,bo61,h⟩:=bnd h
    obtain ⟨r62,br62,h⟩:=bnd h
    obtain ⟨o69,bo69,h⟩:=bnd h
    have p71:=fun {sc F} (r:PS sc F) => p54 <| sg 0 c53 <| sb (qIY abs) (qIz abs) <| sca (qmg br56) <| svn (sT38.ln r56) <| spc (qmP abs sols t o48 r56 (r56.length:Int) ([]:List tSol) 0 bo61) <| sv (qaN t) <| sca (qnM br62) <| sx pz33 <| sy (qaK r62) <| spa 1 <| spc (qm5 abs sols t o48 r56 o61 r62.Op r62.Name r62.Args r62.Names r62.Pred.Op r62.Pred.Name r62.Pred.N r62.Pred.Kids r62.Preds bo69) <| r
    rcases ifs h with ⟨c70,h⟩ | ⟨c70,h⟩
    ·obtain rfl:=lf h
     have z:=p71 <| sg 0 c70 <| en (aI (rP (.bool false)) <| trivial)
     exact cvZ A7 Tryz.call7 Tryz.func7 (c:=b7) rfl (aI (qaf t) (aI (qad qbA abs) (aI (qad qab sols) trivial))) z (by kernel_rfl)
    ·obtain ⟨r72,br72,h⟩:=bnd h
     obtain ⟨r73,br73,h⟩:=bnd h
     obtain ⟨r74,br74,h⟩:=bnd h
     have p76:=fun {sc F} (r:PS sc F) => p71 <| sg 0 c70 <| sdr [0,0,0,7,0,0,0,127,255,511,1023,2047,4095] <| sv (qa3 r62 []) <| sca (qDN br72) <| sv (qaN t) <| sca (qA7 br73) <| sca (qku br74) <| r
     rcases ifs h with ⟨c75,h⟩ | ⟨c75,h⟩
     ·obtain ⟨r77,br77,h⟩:=bnd h
      obtain rfl:=lf h
      have z:=p76 <| sg 10 c75 <| sca (qk2 br77) <| en (aI (rP (.bool r77)) <| trivial)
      exact cvZ A7 Tryz.call7 Tryz.func7 (c:=b7) rfl (aI (qaf t) (aI (qad qbA abs) (aI (qad qab sols) trivial))) z (by kernel_rfl)
     ·obtain rfl:=lf h
      have z:=p76 <| sg 10 c75 <| en (aI (rP (.bool false)) <| trivial)
      exact cvZ A7 Tryz.call7 Tryz.func7 (c:=b7) rfl (aI (qaf t) (aI (qad qbA abs) (aI (qad qab sols) trivial))) z (by kernel_rfl)
set_option linter.unusedSimpArgs false
abbrev LimL (a:List Str):Prop:=a.length < 9223372036854775808
def qHc (l:List Str) (s:Str):Int:=match l.findIdx? (fun x => x == s) with | some j => (j:Int) | none => -1
theorem qe3 (l:List Str) (s:Str) (hl:l.length < 9223372036854775808):qgi l s = some (qHc l s):=by
 unfold qgi qnk
 have:=qtJ l hl (fun zz => qcu l s l.length zz) (fun x => x == s) (fun j => Sum.inl (j:Int)) (Sum.inr ()) (fun i h => by
  simp only [qcu]
  rw [vao (by simp; omega),qbb _ i h]
  simp only [vaa]
  split <;> simp_all) (by simp only [qcu]; rw [vam (by simp)])
 rw [this]
 unfold qHc
 cases l.findIdx? (fun x => x == s) <;> rfl
theorem qk3 (l:List Str) (s:Str):decide (qHc l s ≥ 0) = l.any fun k => k == s:=by
 unfold qHc
 cases h:l.findIdx? (fun x => x == s) with
 | none =>
  rw [vcj] at h
  symm
  simp only [vbt]
  rw [show decide ((-1:Int) ≥ 0) = false from rfl]
  simp only [vbt,Bool.not_eq_true]
  exact h
 | some j =>
  have h2:l.any (fun x => x == s) = true:=by
   have:=List.findIdx?_isSome (xs:=l) (p:=fun x => x == s)
   rw [h] at this
   exact this.symm
  rw [h2]
  simp
theorem qBQ {α:Type} (k:Str) (v:α) (j:Str):∀ (m:List (Str×α)),mget (mput m k v) j = if (j == k) = true then some v else mget m j
 | [] => by
  simp only [mput,mget,List.find?_cons,List.find?_nil]
  cases (j == k) <;> rfl
 | e :: r => by
  have ih:=qBQ k v j r
  unfold mput
  by_cases h:(k == e.1) = true
  ·have h':k = e.1:=by simpa using h
   rw [vao h]
   unfold mget
   simp only [List.find?_cons]
   rw [← h']
   cases hj:(j == k) <;> simp
  ·rw [vam h]
   unfold mget at ih ⊢
   simp only [List.find?_cons]
   cases hj:(j == e.1)
   ·simpa using ih
   ·have:¬ (j == k) = true:=fun hk => h (by
      have h1:j = e.1:=by simpa using hj
      have h2:j = k:=by simpa using hk
      simp [← h1,← h2])
    simp [this]
abbrev mhas (m:List (Str×Bool)) (k:Str):Bool:=(mget m k).getD false
theorem qJx (m:List (Str×Bool)) (k j:Str):mhas (mput m k true) j = (j == k || mhas m j):=by
 unfold mhas
 rw [qBQ]
 cases (j == k) <;> rfl
def qHN (l:Str):Nat:=l.foldl (fun a c => 10 * a + (c.toNat - 48)) 0
theorem qzm (u:Nat):qHN (Lib.decDigits u) = u:=by
 induction u using Nat.strongRecOn with
 | _ u ih =>
  rw [Lib.decDigits]
  by_cases h:u < 10
  ·rw [dif_pos h]
   unfold qHN
   simp
   omega
  ·rw [dif_neg h]
   have:=ih (u / 10) (by omega)
   unfold qHN at this ⊢
   rw [vbY,this]
   simp
   omega
theorem qKU {u v:Nat} (h:Lib.decDigits u = Lib.decDigits v):u = v:=by rw [← qzm u,← qzm v,h]
theorem qD9 (u:Nat):(Lib.decDigits u).length ≤ u + 1:=by
 induction u using Nat.strongRecOn with
 | _ u ih =>
  rw [Lib.decDigits]
  by_cases h:u < 10
  ·rw [dif_pos h]; simp
  ·rw [dif_neg h]
   have:=ih (u / 10) (by omega)
   simp
   omega
theorem qBW:∀ (k n:Nat) (acc:Str),n ≤ k→n ≤ 1000000000→acc.length ≤ 1000000000 - n→qkI acc n = some (if n = 0 then acc else Lib.decDigits n ++ acc)
 | k,0,acc,_,_,_ => by
  unfold qkI
  exact qkg rfl
 | 0,n + 1,_,h,_,_ => absurd h (by omega)
 | k + 1,n + 1,acc,hk,hn,ha => by
  have hb:qjR acc ((n + 1:Nat):Int) = some (.inl (UInt8.ofNat (48 + (n + 1) % 10) :: acc,(((n + 1) / 10:Nat):Int))):=by
   simp only [qjR]
   have h1:(((n + 1:Nat):Int) != 0) = true:=by simp; omega
   have h2:re ((n + 1:Nat):Int) 10 = some (((n + 1) % 10:Nat):Int):=by
    simp only [re]
    have e:((n + 1:Nat):Int) % 10 = (((n + 1) % 10:Nat):Int):=by omega
    rw [vam (by omega),Int.tmod_eq_emod_of_nonneg (by omega),e]
   have h3:qrw (((n + 1) % 10:Nat):Int) = some (((n + 1) % 10:Nat):Int):=by
    simp only [qrw]
    rw [vam (by simp; omega)]
   have h4:IntKind.u8.wrap (w64 (48 + (((n + 1) % 10:Nat):Int))) = ((48 + (n + 1) % 10:Nat):Int):=by
    rw [qiY (by omega) (by omega)]
    have h5:(48:Int) + (((n + 1) % 10:Nat):Int) = ((48 + (n + 1) % 10:Nat):Int):=by omega
    rw [h5]
    generalize hq:48 + (n + 1) % 10 = q
    have:q < 58:=by omega
    show ((q:Int) % 256) = q
    omega
   have h6:qwl [((48 + (n + 1) % 10:Nat):Int)] = some [UInt8.ofNat (48 + (n + 1) % 10)]:=by
    simp only [qwl]
    rw [vao (by omega)]
    rfl
   have h7:qu .i64 ((n + 1:Nat):Int) 10 = some (((n + 1) / 10:Nat):Int):=by
    simp only [qu]
    rw [vam (by omega),Int.tdiv_eq_ediv_of_nonneg (by omega)]
    have e:((n + 1:Nat):Int) / 10 = (((n + 1) / 10:Nat):Int):=by omega
    rw [e]
    exact vbn some (qiY (by omega) (by omega))
   rw [h1]
   simp only [if_true,h2,vaa,h3,h4,h6]
   rw [qw8 (by simp; omega),h7]
   rfl
  unfold qkI
  refine (qmm (body:=fun zz:Str×Int => qjR zz.1 zz.2) (s:=(acc,((n + 1:Nat):Int))) (s':=(UInt8.ofNat (48 + (n + 1) % 10) :: acc,(((n + 1) / 10:Nat):Int))) hb).trans ?_
  have ih:=qBW k ((n + 1) / 10) (UInt8.ofNat (48 + (n + 1) % 10) :: acc) (by omega) (by omega) (by simp; omega)
  unfold qkI at ih
  rw [ih,vam (by omega:¬ n + 1 = 0)]
  conv => rhs; rw [Lib.decDigits]
  by_cases h:n + 1 < 10
  ·rw [dif_pos h,vao (by omega),vb5 h]
   rfl
  ·rw [dif_neg h,vam (by omega)]
   simp
theorem qw9 (n:Nat) (h0:1 ≤ n) (h:n ≤ 1000000000):qAt n = some (Lib.decDigits n):=by
 unfold qAt
 have h1:((n:Int) == 0) = false:=by simp; omega
 rw [h1,qBW n n [] (vak _) h (by simp)]
 have h2:decide ((n:Int) < 0) = false:=by simp
 simp only [vaK,if_false,vaa,h2]
 rw [vam (by omega)]
 simp
theorem qFx (n:Nat) (h:n ≤ 1000000000):qJR n = some (Lib.decDigits n):=by
 unfold qJR Lib.itoa
 rw [vao (by simp; omega),vam (by omega)]
 rfl
theorem qKs:∀ (used L:List Str),L.Nodup→used.length < L.length→∃ x ∈ L,x ∉ used
 | [],L,_,h => by
  cases L with
  | nil => simp at h
  | cons x L => exact ⟨x,by simp,by simp⟩
 | u :: us,L,hn,h => by
  obtain ⟨x,hx,hu⟩:=qKs us (L.erase u) (hn.erase u) (by
   have:=List.length_erase (a:=u) (l:=L)
   rw [this]
   simp at h
   split <;> omega)
  rw [hn.mem_erase_iff] at hx
  exact ⟨x,hx.2,by simp [hx.1,hu]⟩
theorem qJ6 (used:List Str) (base:Str):∃ n,1 ≤ n∧n ≤ used.length + 1∧base ++ Lib.decDigits n ∉ used:=by
 obtain ⟨x,hx,hu⟩:=qKs used ((List.range (used.length + 1)).map fun i => base ++ Lib.decDigits (i + 1)) (by
  unfold List.Nodup
  rw [List.pairwise_map]
  refine vcP ?_ (List.nodup_range (n:=used.length + 1))
  intro a b hab e
  have:=qKU (List.append_cancel_left e)
  omega) (by simp)
 simp only [vas,vbs] at hx
 obtain ⟨i,hi,rfl⟩:=hx
 exact ⟨i + 1,by omega,by omega,hu⟩
def qsS (used:List Str) (base:Str):Nat→Nat→Str
 | 0,_ => []
 | k + 1,n => if used.contains (base ++ Lib.decDigits n) = true then qsS used base k (n + 1) else base ++ Lib.decDigits n
def qia (used:List Str) (base:Str):Str:=if used.contains base = true then qsS used base 100000001 1 else base
theorem quv (used:List Str) (hl:LimL used):∃ m,qiN used used.length 0 [] = some m∧∀ k,mhas m k = used.contains k:=by
 unfold qiN
 have:=qiI used hl (fun i (m:List (Str×Bool)) => (i,m)) (fun zz => qd8 used used.length zz.1 zz.2) (fun _ _ => True) (fun _ x m => .inl (mput m x true)) (fun m => m) (fun i hi t _ => ⟨by
   simp only [qd8]
   rw [vao (by simp; omega),qbb _ i hi]
   rfl,fun _ _ => trivial⟩) (fun _ _ => by simp only [qd8]; rw [vam (by simp)]) 0 [] (vaM _) trivial
 simp only [Int.ofNat_zero,vbh] at this
 rw [this]
 refine ⟨_,rfl,?_⟩
 have key:∀ (l:List Str) (i:Nat) (m:List (Str×Bool)) k,mhas (runL (fun _ x (m:List (Str×Bool)) => (Sum.inl (mput m x true):List (Str×Bool)⊕List (Str×Bool))) (fun m => m) l i m) k = (l.contains k || mhas m k):=by
  intro l
  induction l with
  | nil => intro i m k; simp [runL]
  | cons x l ih =>
   intro i m k
   unfold runL
   simp only [ih,qJx,List.contains_cons]
   cases (k == x) <;> cases l.contains k <;> simp
 intro k
 rw [key]
 simp [mhas,mget]
theorem qwG (used:List Str) (base:Str) (m:List (Str×Bool)) (hm:∀ k,mhas m k = used.contains k) (hl:used.length ≤ 100000000) (hb:base.length ≤ 4000000000000000000) (N:Nat) (hN:base ++ Lib.decDigits N ∉ used) (hN2:N ≤ 100000001) :
  ∀ (k n:Nat),1 ≤ n→n ≤ N→N < n + k→qf4 base m n = some (qsS used base k n)∧qgx used base (base ++ Lib.decDigits n) ((n + 1:Nat):Int) = some (qsS used base k n)∧qsS used base k n ∉ used
 | 0,n,_,h1,h2 => absurd h2 (by omega)
 | k + 1,n,h0,h1,h2 => by
  have hd:=qD9 n
  have hd2:=qD9 (n + 1)
  have e1:w64 ((n:Int) + 1) = ((n + 1:Nat):Int):=by rw [qiY (by omega) (by omega)]; omega
  have e2:w64 (((n + 1:Nat):Int) + 1) = ((n + 2:Nat):Int):=by rw [qiY (by omega) (by omega)]; omega
  unfold qsS
  by_cases hc:used.contains (base ++ Lib.decDigits n) = true
  ·rw [vao hc]
   have hne:n ≠ N:=by
    rintro rfl
    exact hN (by simpa using hc)
   obtain ⟨i1,i2,i3⟩:=qwG used base m hm hl hb N hN hN2 k (n + 1) (by omega) (by omega) (by omega)
   have hm':=hm (base ++ Lib.decDigits n)
   unfold mhas at hm'
   have b1:qdi base m (n:Int) = some (.inl (((n + 1:Nat):Int))):=by
    simp only [qdi]
    rw [qFx n (by omega)]
    simp only [vaa]
    rw [qw8 (by omega)]
    simp only [vaa,hm',hc,e1]
    rfl
   have b2:qby used base (base ++ Lib.decDigits n) ((n + 1:Nat):Int) = some (.inl (base ++ Lib.decDigits (n + 1),((n + 2:Nat):Int))):=by
    simp only [qby]
    rw [qe3 _ _ (by omega)]
    simp only [vaa,qk3]
    have:(used.any fun k => k == base ++ Lib.decDigits n) = true:=by simpa [vby] using hc
    rw [this,vao rfl,qw9 (n + 1) (by omega) (by omega)]
    simp only [vaa]
    rw [qw8 (by omega)]
    simp only [vaa,e2]
   refine ⟨?_,?_,i3⟩
   ·unfold qf4 at i1 ⊢
    exact (qmm b1).trans i1
   ·unfold qgx at i2 ⊢
    exact (qmm (body:=fun zz:Str×Int => qby used base zz.1 zz.2) (s:=(base ++ Lib.decDigits n,((n + 1:Nat):Int))) (s':=(base ++ Lib.decDigits (n + 1),((n + 2:Nat):Int))) b2).trans i2
  ·rw [vam hc]
   have hc':used.contains (base ++ Lib.decDigits n) = false:=by simpa using hc
   have hm':=hm (base ++ Lib.decDigits n)
   unfold mhas at hm'
   have b1:qdi base m (n:Int) = some (.inr (base ++ Lib.decDigits n)):=by
    simp only [qdi]
    rw [qFx n (by omega)]
    simp only [vaa]
    rw [qw8 (by omega)]
    simp only [vaa,hm',hc']
    rfl
   have b2:qby used base (base ++ Lib.decDigits n) ((n + 1:Nat):Int) = some (.inr (base ++ Lib.decDigits n)):=by
    simp only [qby]
    rw [qe3 _ _ (by omega)]
    simp only [vaa,qk3]
    have:(used.any fun k => k == base ++ Lib.decDigits n) = false:=by
     rw [vcp]
     intro h
     apply hc
     simpa [vby] using h
    rw [this]
    rfl
   refine ⟨?_,?_,by simpa using hc⟩
   ·unfold qf4
    exact qkg b1
   ·unfold qgx
    exact qkg (body:=fun zz:Str×Int => qby used base zz.1 zz.2) (s:=(base ++ Lib.decDigits n,((n + 1:Nat):Int))) b2
theorem qFQ (used:List Str) (base:Str) (hl:used.length ≤ 100000000) (hb:base.length ≤ 4000000000000000000):qkc used base = some (qia used base)∧qDf used base = some (qia used base)∧qia used base ∉ used:=by
 obtain ⟨m,hm1,hm⟩:=quv used (show _ < _ by omega)
 have hm':=hm base
 unfold mhas at hm'
 obtain ⟨N,h1,h2,h3⟩:=qJ6 used base
 obtain ⟨i1,i2,i3⟩:=qwG used base m hm hl hb N h3 (by omega) 100000001 1 (vak _) h1 (by omega)
 unfold qkc qDf qia
 rw [hm1]
 simp only [vaa,hm']
 have hd:=qD9 1
 by_cases hc:used.contains base = true
 ·simp only [hc,vbF,vaK,if_false,if_true]
  simp only [Int.ofNat_one] at i1
  rw [i1]
  have b2:qby used base base 1 = some (.inl (base ++ Lib.decDigits 1,((2:Nat):Int))):=by
   simp only [qby]
   rw [qe3 _ _ (by omega)]
   simp only [vaa,qk3]
   have:(used.any fun k => k == base) = true:=by simpa [vby] using hc
   have ht:=qw9 1 (by omega) (by omega)
   simp only [Int.ofNat_one] at ht
   rw [this,vao rfl,ht]
   simp only [vaa]
   rw [qw8 (by omega)]
   rfl
  unfold qgx at i2 ⊢
  have:=(qmm (body:=fun zz:Str×Int => qby used base zz.1 zz.2) (s:=(base,1)) (s':=(base ++ Lib.decDigits 1,((2:Nat):Int))) b2).trans i2
  rw [this]
  exact ⟨rfl,rfl,i3⟩
 ·have hc':used.contains base = false:=by simpa using hc
  simp only [hc',vbH,if_true,vaK,if_false]
  have b2:qby used base base 1 = some (.inr base):=by
   simp only [qby]
   rw [qe3 _ _ (by omega)]
   simp only [vaa,qk3]
   have:(used.any fun k => k == base) = false:=by
    rw [vcp]
    intro h
    apply hc
    simpa [vby] using h
   rw [this]
   rfl
  unfold qgx
  have:=qkg (body:=fun zz:Str×Int => qby used base zz.1 zz.2) (s:=(base,1)) b2
  rw [this]
  exact ⟨trivial,rfl,by simpa using hc⟩
theorem qFS {X:Type} (n:Nat) (hn:n < 9223372036854775808) {body:Int→Option (Int⊕X)} (k:Int→Option (Int⊕X)) (e:X) (hb:∀ i:Int,body i = if decide (i < (n:Int)) = true then k i else some (.inr e))
  (hk:∀ i:Nat,i < n→tot (k (i:Int)) (fun r => match r with | .inl t => t = w64 ((i:Int) + 1) | .inr _ => True)):tot (loop body 0) (fun _ => True):=by
 have e1:(List.replicate n ()).length = n:=List.length_replicate
 refine qtO (List.replicate n ()) (by omega) (fun i (_:Unit) => i) (fun _ _ => True) (fun i hi s _ => ?_) (fun s _ => ?_) () trivial
 ·rw [e1] at hi
  rw [hb,vao (vba (by omega))]
  exact (hk i hi).mono fun r hr => by
   cases r with
   | inl t => exact ⟨(),hr,trivial⟩
   | inr _ => trivial
 ·rw [hb,vam (by rw [e1]; simp)]
  exact qae trivial
theorem qmn (c:Int):tot (qhN c) (fun _ => True):=by unfold qhN; exact qak (fun _ => qae trivial) (fun _ => qae trivial)
theorem qtn (c:Int):tot (qky c) (fun _ => True):=by unfold qky; exact qak (fun _ => qae trivial) (fun _ => qae trivial)
theorem qrS (c:Int):tot (qiz c) (fun _ => True):=by unfold qiz; exact qak (fun _ => qae trivial) (fun _ => qae trivial)
theorem qeH {s:Str} {i:Nat} (h:i < s.length):tot (idxS s (i:Int)) (fun _ => True):=qH1 (qKg s i h) trivial
theorem qoQ {s:Str} (h:0 < s.length):tot (idxS s 0) (fun _ => True):=qeH (i:=0) h
theorem qEt (s:Str):tot (qnB s) (fun _ => True):=by
 unfold qnB
 exact qai (R:=fun l => l.length < 9223372036854775808) ⟨_,rfl,by decide⟩ (fun l hl => qar (qe3 l s hl) (qae trivial))
theorem qGE {s:Str} {i:Nat} (h:i < s.length):tot (qjd s i) (fun _ => True):=by
 unfold qjd
 exact qai (qeH h) fun _ _ => qai (qmn _) fun _ _ => qak (fun _ => qai (qeH h) fun _ _ => qai (qtn _) fun _ _ => qak (fun _ => qai (qeH h) fun _ _ => qae trivial) fun _ => qae trivial) fun _ => qae trivial
theorem qCw (s:Str):tot (qo2 s) (fun _ => True):=by
 unfold qo2
 refine qai (R:=fun o => o = true∨s.length ≤ 24) ?_ fun o ho => qak (fun _ => qae trivial) fun hn => ?_
 ·unfold qpb
  refine qak (fun _ => qae (.inl rfl)) fun h1 => qak (fun _ => qae (.inl rfl)) fun h2 => ?_
  rw [vah] at h1 h2
  exact qai (qoQ (by omega)) fun _ _ => qai (qmn _) fun _ _ => qak (fun _ => qae (.inl rfl)) fun _ => qai (qEt s) fun _ _ => qae (.inr (by omega))
 ·have hs:s.length ≤ 24:=ho.resolve_left hn
  unfold qn7
  refine qai (qFS s.length (by omega) (fun i => (qjd s i).bind fun o => if o = true then some (.inr (.inl ())) else some (.inl (w64 (i + 1)))) (.inr ()) (fun i => rfl) fun i hi => qai (qGE hi) fun _ _ => qak (fun _ => qae trivial) fun _ => qae rfl) fun o _ => ?_
  cases o <;> exact qae trivial
theorem qGg {s:Str} {i:Nat} (h:i < s.length):tot (qjb s i) (fun _ => True):=by
 unfold qjb
 exact qai (qeH h) fun _ _ => qai (qmn _) fun _ _ => qak (fun _ => qai (qeH h) fun _ _ => qai (qrS _) fun _ _ => qak (fun _ => qai (qeH h) fun _ _ => qai (qtn _) fun _ _ => qae trivial) fun _ => qae trivial) fun _ => qae trivial
theorem qIx (s:Str):tot (qt1 s) (fun _ => True):=by
 unfold qt1
 refine qai (R:=fun o => o = true∨s.length ≤ 24) ?_ fun o ho => qak (fun _ => qae trivial) fun hn => ?_
 ·unfold qo5
  refine qak (fun _ => qae (.inl rfl)) fun h1 => qak (fun _ => qae (.inl rfl)) fun h2 => ?_
  rw [vah] at h1 h2
  have h3:s.length ≤ 24:=by omega
  exact qai (qoQ (by omega)) fun _ _ => qai (qrS _) fun _ _ => qak (fun _ => qae (.inl rfl)) fun _ => qak (fun _ => qae (.inl rfl)) fun _ => qak (fun _ => qae (.inl rfl)) fun _ => qak (fun _ => qae (.inl rfl)) fun _ => qae (.inr h3)
 ·have hs:s.length ≤ 24:=ho.resolve_left hn
  unfold qpk
  refine qai (qFS s.length (by omega) (fun i => (qjb s i).bind fun o => if o = true then some (.inr (.inl ())) else some (.inl (w64 (i + 1)))) (.inr ()) (fun i => rfl) fun i hi => qai (qGg hi) fun _ _ => qak (fun _ => qae trivial) fun _ => qae rfl) fun o _ => ?_
  cases o <;> exact qae trivial
theorem qI0 {s:Str} (b:Bool) {i:Nat} (h:i < s.length):tot (qmR s b i) (fun _ => True):=by
 unfold qmR
 exact qak (fun _ => qai (qeH h) fun _ _ => qai (qmn _) fun _ _ => qak (fun _ => qae trivial) fun _ => qai (qeH h) fun _ _ => qai (qrS _) fun _ _ => qak (fun _ => qae trivial) fun _ => qai (qeH h) fun _ _ => qai (qtn _) fun _ _ => qae trivial) fun _ => qae trivial
theorem qJP (s:Str):tot (qwu s) (fun _ => True):=by
 unfold qwu
 refine qai (R:=fun o => o = true∨(0 < s.length∧s.length ≤ 24)) ?_ fun o ho => qak (fun _ => qae trivial) fun hn => ?_
 ·unfold qrA
  refine qak (fun _ => qae (.inl rfl)) fun h1 => qae ?_
  rw [vah] at h1
  by_cases h2:(s.length:Int) > 24
  ·exact .inl (vba h2)
  ·exact .inr ⟨by omega,by omega⟩
 ·obtain ⟨h0,hs⟩:=ho.resolve_left hn
  refine qai (qoQ h0) fun _ _ => qai (qmn _) fun r6 _ => ?_
  unfold qsb
  refine qai (R:=fun _ => True) (qtO s (by omega) (fun i (z:Bool×Bool) => (z.1,z.2,i)) (fun _ _ => True) (fun i hi z _ => ?_) (fun z _ => ?_) (true,r6) trivial) fun o _ => qak (fun _ => qae trivial) fun _ => qae trivial
  ·show tot (qfq s s.length z.1 z.2 i) _
   unfold qfq
   rw [vao (vba (by omega))]
   exact qai (qI0 _ hi) fun o _ => qak (fun _ => qai (qeH hi) fun _ _ => qai (qmn _) fun _ _ => qak (fun _ => qae ⟨(o,true),rfl,trivial⟩) fun _ => qai (qeH hi) fun _ _ => qai (qtn _) fun _ _ => qak (fun _ => qae ⟨(o,true),rfl,trivial⟩) fun _ => qai (qeH hi) fun c _ => qae ⟨(o,c == 95),rfl,trivial⟩) fun _ => qae ⟨(o,false),rfl,trivial⟩
  ·show tot (qfq s s.length z.1 z.2 s.length) _
   unfold qfq
   rw [vam (by simp)]
   exact qae trivial
theorem qEb {α:Type} (l:List α) (a b:Nat) (h:a ≤ b) (h2:b ≤ l.length):slc l (some (a:Int)) (some (b:Int)) = some ((l.take b).drop a):=by
 simp [slc,bd,h,h2]
theorem qHK (s:Str) (hs:s.length ≤ 120):tot (qtQ s) (fun l => l ≠ []∧l.length ≤ 121):=by
 unfold qtQ qoX
 refine qai (R:=fun o => o.1.length ≤ s.length∧∃ b:Nat,o.2 = (b:Int)∧b ≤ s.length) (qtO s (by omega) (fun i (z:List Str×Int) => (z.1,z.2,i)) (fun i z => z.1.length ≤ i∧∃ b:Nat,z.2 = (b:Int)∧b ≤ i) (fun i hi z hz => ?_) (fun z hz => ?_) ([],0) ⟨vak _,0,rfl,vak _⟩) fun o ho => ?_
 ·obtain ⟨out,bg⟩:=z
  obtain ⟨h1,b,hb,hbi⟩:=hz
  simp only at h1 hb
  subst hb
  show tot (qej s s.length out b i) _
  unfold qej
  rw [vao (vba (by omega))]
  refine qai (qeH hi) fun c _ => qak (fun _ => ?_) fun _ => qae ⟨(out,b),rfl,by simp only; omega,b,rfl,by omega⟩
  refine qar (qEb s b i hbi (by omega)) (qar (qcq (by simp; omega)) (qae ⟨(_,w64 ((i:Int) + 1)),rfl,by simp; omega,i + 1,?_,vak _⟩))
  simp only
  rw [qiY (by omega) (by omega)]
  omega
 ·obtain ⟨out,bg⟩:=z
  show tot (qej s s.length out bg s.length) _
  unfold qej
  rw [vam (by simp)]
  exact qae hz
 ·obtain ⟨h1,b,hb,hbi⟩:=ho
  rw [hb]
  exact qar (qwy s b hbi) (qar (qcq (by simp; omega)) (qae ⟨by simp,by simp; omega⟩))
theorem qHe {v:List Str} (h:v ≠ []):tot (qmN v) (fun _ => True):=by
 obtain ⟨x,r,rfl⟩:=List.exists_cons_of_ne_nil h
 unfold qmN
 exact qar (qAI x r) (qai (qCw x) fun _ _ => qak (fun _ => qar (qAI x r) (qai (qIx x) fun _ _ => qak (fun _ => qar (qAI x r) (qak (fun _ => qae trivial) fun _ => qae trivial)) fun _ => qae trivial)) fun _ => qae trivial)
theorem qJu:qkS [] = some 3:=by kernel_rfl
theorem qFn (s:Str):tot (qkS s) (fun r => (r == 0) = true→0 < s.length):=by
 by_cases hs:s = []
 ·subst hs
  exact qH1 qJu fun h => by simp at h
 have hp:0 < s.length:=vcL.2 hs
 unfold qkS
 refine qak (fun _ => qae fun _ => hp) fun h1 => ?_
 rw [vah] at h1
 refine qai (qHK s (by omega)) fun l hl => qai (qHe hl.1) fun _ _ => qak (fun _ => qae fun _ => hp) fun _ => ?_
 have h2:1 ≤ l.length:=vcL.2 hl.1
 refine qar (qwy l 1 h2) ?_
 unfold qrZ
 refine qai (qeX (l.drop 1) (by simp; omega) _ (fun _ => True) (fun _ => True) (fun i => rfl) (fun x hx i => qai (qJP x) fun _ _ => qak (fun _ => qae trivial) fun _ => qae ⟨rfl,trivial⟩)) fun o _ => ?_
 cases o <;> exact qae fun _ => hp
theorem qvn (l:List Str) (hl:l.length < 9223372036854775808):tot (qi0 l) (fun _ => True):=by
 unfold qi0 qj2
 refine qai (qeX l hl _ (fun _ => True) (fun _ => True) (fun i => rfl) (fun x hx i => qar (qe3 l x hl) (qak (fun _ => qae trivial) fun _ => qae ⟨rfl,trivial⟩))) fun o _ => ?_
 cases o <;> exact qae trivial
theorem qJV (s:Str) (b:Bool):tot (qpF s b) (fun _ => True):=by
 unfold qpF
 exact qai (qFn s) fun r hr => qak (fun h => qai (qoQ (hr h)) fun _ _ => qak (fun _ => qai (qoQ (hr h)) fun _ _ => qae trivial) fun _ => qae trivial) fun _ => qae trivial
mutual
def nP:tPred→Nat
 | ⟨_,_,_,ks⟩ => nL ks + 1
def nL:List tPred→Nat
 | [] => 0
 | p :: ps => nP p + nL ps
end
theorem qEA (p:tPred):nP p = nL p.Kids + 1:=by obtain ⟨o,n,k,ks⟩:=p; rw [nP]; rfl
theorem qH4 (p:tPred):1 ≤ nP p:=by rw [qEA]; omega
theorem qzA:∀ {l:List tPred} {x:tPred},x ∈ l→nP x ≤ nL l
 | y :: l,x,h => by
  rw [nL]
  rcases vaC.1 h with rfl | h
  ·omega
  ·have:=qzA h; omega
theorem qzz:∀ (l:List tPred),l.length ≤ nL l
 | [] => by simp [nL]
 | p :: l => by rw [nL]; have:=qzz l; have:=qH4 p; simp only [vaS]; omega
theorem qfM {p x:tPred} (h:x ∈ p.Kids):nP x < nP p:=by rw [qEA p]; have:=qzA h; omega
theorem qgh (p:tPred):p.Kids.length < nP p:=by rw [qEA]; have:=qzz p.Kids; omega
theorem qjg:∀ (a b:List tPred),nL (a ++ b) = nL a + nL b
 | [],b => by simp [nL]
 | p :: a,b => by rw [vaP,nL,qjg a b,nL]; omega
mutual
theorem qL5:∀ (p:tPred),nP p ≤ pmL (qaa p)
 | ⟨o,n,k,ks⟩ => by
  have:=qID ks
  rw [nP,qao]
  simp only [pmL,pm,sl]
  show nL ks + 1 ≤ 1 + (n.length + 1 + (1 + (pmLL (ks.map qaa) + 1 + 0)))
  omega
theorem qID:∀ (l:List tPred),nL l ≤ pmLL (l.map qaa)
 | [] => by simp [nL]
 | p :: l => by
  have:=qL5 p
  have:=qID l
  rw [nL]
  simp only [vax,pmLL]
  omega
end
mutual
def eqP:tPred→tPred→Bool
 | ⟨o,n,k,ks⟩,⟨o',n',k',ks'⟩ => (o == o') && ((n == n') && ((k == k') && eqL ks ks'))
def eqL:List tPred→List tPred→Bool
 | [],[] => true
 | x :: xs,y :: ys => eqP x y && eqL xs ys
 | _,_ => false
end
mutual
theorem qIr:∀ (a b:tPred),eqP a b = true↔a = b
 | ⟨o,n,k,ks⟩,⟨o',n',k',ks'⟩ => by
  rw [eqP]
  have:=qIQ ks ks'
  simp only [vae,va1,this,tPred.mk.injEq]
theorem qIQ:∀ (a b:List tPred),eqL a b = true↔a = b
 | [],[] => by simp [eqL]
 | x :: xs,y :: ys => by
  rw [eqL]
  have h1:=qIr x y
  have h2:=qIQ xs ys
  simp only [vae,h1,h2,vbD]
 | [],y :: ys => by simp [eqL]
 | x :: xs,[] => by simp [eqL]
end
instance:DecidableEq tPred:=fun a b => decidable_of_iff _ (qIr a b)
theorem qoC (p:tPred):(⟨p.Op,p.Name,p.N,p.Kids⟩:tPred) = p:=by cases p; rfl
theorem qII {a b:tPred}:a = b↔a.Op = b.Op∧a.Name = b.Name∧a.N = b.N∧a.Kids = b.Kids:=by
 cases a; cases b
 simp only [tPred.mk.injEq]
 rfl
theorem qIc {α:Type} [DecidableEq α]:∀ {a b:List α},a.length = b.length→(a.zip b).any (fun x => decide (x.1 ≠ x.2)) = !decide (a = b)
 | [],[],_ => by simp
 | x :: a,y :: b,h => by
  have ih:=qIc (a:=a) (b:=b) (by simpa using h)
  rw [List.zip_cons_cons,List.any_cons,ih]
  by_cases h1:x = y <;> by_cases h2:a = b <;> simp [h1,h2]
theorem qJc {α X:Type} [DecidableEq α] {a b:List α} (hl:a.length = b.length) (ha:a.length < 9223372036854775808) (body:Int→Option (Int⊕X)) (y e:X)
  (hin:∀ (i:Nat) (h:i < a.length) (h':i < b.length),body i = some (if decide (a[i] = b[i]) = true then .inl (w64 ((i:Int) + 1)) else .inr y)) (hend:body a.length = some (.inr e)):loop body 0 = some (if decide (a = b) = true then e else y):=by
 have hz:(a.zip b).length = a.length:=by simp [hl]
 have:=qAU (a.zip b) (by omega) body (fun x => decide (x.1 ≠ x.2)) y e (fun i h => ?_) (by rw [hz]; exact hend) 0 (vaM _)
 ·rw [vbh,qIc hl] at this
  rw [show ((0:Nat):Int) = 0 from rfl] at this
  rw [this]
  by_cases h:a = b <;> simp [h]
 ·have h1:i < a.length:=by omega
  have h2:i < b.length:=by omega
  rw [hin i h1 h2]
  have hzi:(a.zip b)[i] = (a[i],b[i]):=by simp
  rw [hzi]
  by_cases h:a[i] = b[i] <;> simp [h]
abbrev bigN:Nat:=1073741824
theorem qdQ {n:Nat} (h:n ≤ bigN):n < big:=by have:=qL8; unfold bigN at h; omega
theorem qIP (p:tPred) (hp:nP p ≤ bigN):qgr p = some p:=by
 refine qd3 (F:=qjM) nP (fun x => nP x ≤ bigN) id (fun R x hx ih => ?_) p hp (qdQ hp)
 unfold qjM qns qlu
 have hlen:=qgh x
 rw [qFy x.Kids (by unfold bigN at hx; omega) (fun i s => (i,s)) _ id id (fun i hi s hs => ?_) (fun s => ?_)]
 ·simp [qoC]
 ·unfold qgf
  rw [vao (by simp; omega),qbb x.Kids i hi]
  simp only [vaa]
  have hm:=vat hi
  rw [ih _ (qfM hm) (vcB (vaG (qfM hm) hx))]
  simp only [vaa]
  rw [qcq (by unfold bigN at hx; simp; omega)]
  rfl
 ·unfold qgf
  rw [vam (by simp)]
  rfl
theorem qtm (a b:tPred) (hb:nP b ≤ bigN):qgg a b = some (decide (a = b)):=by
 refine qd3 (F:=qu7) (fun x => nP x.2) (fun x => nP x.2 ≤ bigN) (fun x => decide (x.1 = x.2)) (fun R x hx ih => ?_) (a,b) hb (qdQ hb)
 obtain ⟨u,v⟩:=x
 have hx:nP v ≤ bigN:=hx
 show qpD (fun a a2 => R (a,a2)) u v = some (decide (u = v))
 unfold qpD qsj
 have hk:=qgh v
 by_cases h1:u.Op = v.Op
 ·by_cases h2:u.Name = v.Name
  ·by_cases h3:u.N = v.N
   ·by_cases h4:u.Kids.length = v.Kids.length
    ·rw [vam (by simpa using h1),vam (by simpa using h2),vam (by simpa using h3)]
     simp only [h4,bne_self_eq_false,vaa,if_false,vaK]
     unfold qsr
     rw [← h4,qJc h4 (by unfold bigN at hx; omega) _ (.inl ()) (.inr ()) (fun i g1 g2 => ?_) ?_]
     ·by_cases he:u.Kids = v.Kids <;> simp [he,qII (a:=u) (b:=v),h1,h2,h3]
     ·unfold qjI
      rw [vam (by simp)]
     ·unfold qjI
      rw [vao (by simp; omega),qbb u.Kids i g1]
      simp only [vaa]
      rw [qbb v.Kids i g2]
      simp only [vaa]
      have hm:=vat g2
      rw [ih (u.Kids[i],v.Kids[i]) (qfM hm) (vcB (vaG (qfM hm) hx))]
      by_cases he:u.Kids[i] = v.Kids[i] <;> simp [he]
    ·have hne:u ≠ v:=fun e => h4 (by rw [e])
     rw [vam (by simpa using h1),vam (by simpa using h2),vam (by simpa using h3)]
     have hb:((u.Kids.length:Int) != (v.Kids.length:Int)) = true:=by simp; omega
     simp [hb,hne]
   ·have hne:u ≠ v:=fun e => h3 (by rw [e])
    rw [vam (by simpa using h1),vam (by simpa using h2),vao (by simpa using h3)]
    simp [hne]
  ·have hne:u ≠ v:=fun e => h2 (by rw [e])
   rw [vam (by simpa using h1),vao (by simpa using h2)]
   simp [hne]
 ·have hne:u ≠ v:=fun e => h1 (by rw [e])
  rw [vao (by simpa using h1)]
  simp [hne]
def qkt:tPred:=⟨0,[],0,[]⟩
def qhW:tPred:=⟨2,[],1,[]⟩
def qsN (p:tPred):Bool:=decide (p = qkt) || decide (p = qhW)
theorem qLG:nP qhW ≤ bigN:=by decide
theorem qIH:nP qkt ≤ bigN:=by decide
theorem qwk (p:tPred):qlm p = some (qsN p):=by
 have h1:qgg p (⟨0,([]:Str),0,([]:List tPred)⟩:tPred) = some (decide (p = qkt)):=qtm p qkt qIH
 have h2:qgg p (⟨2,([]:Str),1,([]:List tPred)⟩:tPred) = some (decide (p = qhW)):=qtm p qhW qLG
 unfold qlm qkP qsN
 simp only [vaa,h2,h1]
 cases decide (p = qhW) <;> cases decide (p = qkt) <;> rfl
theorem qDC {α σ X:Type} (g:α→σ→σ) (e:σ→X):∀ (l:List α) (i:Nat) (s:σ),runL (fun _ x (s:σ) => (Sum.inl (g x s):σ⊕X)) e l i s = e (l.foldl (fun s x => g x s) s)
 | [],i,s => by simp [runL]
 | x :: l,i,s => by
  unfold runL
  simp only
  rw [qDC g e l (i + 1) (g x s)]
  rfl
theorem qDk {α σ τ X:Type} (l:List α) (hl:l.length < 9223372036854775808) (mk:Int→σ→τ) (body:τ→Option (τ⊕X)) (I:Nat→σ→Prop) (g:α→σ→σ) (e:σ→X) (s0:σ) (h0:I 0 s0)
  (hin:∀ (i:Nat) (h:i < l.length) s,I i s→body (mk i s) = some (.inl (mk (w64 ((i:Int) + 1)) (g l[i] s)))∧I (i + 1) (g l[i] s)) (hend:∀ s,I l.length s→body (mk l.length s) = some (.inr (e s))) :
  loop body (mk 0 s0) = some (e (l.foldl (fun s x => g x s) s0)):=by
 have:=qiI l hl mk body I (fun _ x s => .inl (g x s)) e (fun i h s hs => ⟨(hin i h s hs).1,fun s' hs' => by cases hs'; exact (hin i h s hs).2⟩) (fun s hs => hend s hs) 0 s0 (vaM _) h0
 rw [qDC] at this
 exact this
theorem quI (l:List tPred) (i:Nat) (h:i < l.length):nL (l.take (i + 1)) = nL (l.take i) + nP l[i]:=by
 rw [vaE h,qjg]
 simp [nL]
theorem qjX (l:List tPred) (i:Nat):nL (l.take i) ≤ nL l:=by
 have:=qjg (l.take i) (l.drop i)
 rw [vbc] at this
 omega
theorem qIC:∀ (l:List tPred) (a:Int),l.foldl (fun s x => s + (nP x:Int)) a = a + (nL l:Int)
 | [],a => by simp [nL]
 | x :: l,a => by rw [List.foldl_cons,qIC l,nL]; omega
theorem qA2 (p:tPred) (hp:nP p ≤ bigN):qn5 p = some (nP p:Int):=by
 refine qd3 (F:=qsu) nP (fun x => nP x ≤ bigN) (fun x => (nP x:Int)) (fun R x hx ih => ?_) p hp (qdQ hp)
 show qmX (fun p => R p) x = _
 unfold qmX qpm
 have hlen:=qgh x
 have hn:=qEA x
 rw [qDk x.Kids (by unfold bigN at hx; omega) (fun i s => (s,i)) _ (fun i s => s = 1 + (nL (x.Kids.take i):Int)) (fun x s => s + (nP x:Int)) id 1 (by simp [nL]) (fun i hi s hs => ?_) (fun s _ => ?_)]
 ·rw [qIC]
  simp only [id,vaa]
  rw [hn]; congr 1; omega
 ·have hm:=vat hi
  have hk:=qfM hm
  refine ⟨?_,by rw [quI _ _ hi,hs]; omega⟩
  unfold qiM
  rw [vao (by simp; omega),qbb x.Kids i hi]
  simp only [vaa]
  rw [ih _ hk (by omega)]
  simp only [vaa]
  have h1:=qjX x.Kids i
  have h2:=qjX x.Kids (i + 1)
  have h3:=quI x.Kids i hi
  unfold bigN at hx
  rw [qiY (n:=s + _) (by omega) (by omega)]
 ·unfold qiM
  rw [vam (by simp)]
  rfl
theorem qLT {α:Type} [DecidableEq α] (v:α) (l:List α):l.any (fun x => decide (v = x)) = decide (v ∈ l):=by
 rw [vcD]
 simp
theorem qKY (l:List tPred) (v:tPred) (hv:nP v ≤ bigN) (hl:l.length < 9223372036854775808):qBz l v = some (decide (v ∈ l)):=by
 unfold qBz qvh
 have h:=qAU l hl (fun zz => qe4 v l (l.length:Int) zz) (fun x => decide (v = x)) (.inl ()) (.inr ()) (fun i hi => ?_) ?_ 0 (vaM _)
 ·rw [vbh,qLT] at h
  rw [show ((0:Nat):Int) = 0 from rfl] at h
  rw [h]
  by_cases hm:v ∈ l <;> simp [hm]
 ·show qe4 v l (l.length:Int) (i:Int) = _
  unfold qe4
  rw [vao (by simp; omega),qbb l i hi]
  simp only [vaa]
  rw [qtm _ v hv]
  by_cases he:v = l[i]
  ·simp [he]
  ·have he':¬ l[i] = v:=fun h => he h.symm
   simp [he,he']
 ·show qe4 v l (l.length:Int) (l.length:Int) = _
  unfold qe4
  rw [vam (by simp)]
mutual
def innP (op:Int):tPred→List tPred→List tPred
 | ⟨o,n,k,ks⟩,a => let a':=innL op ks a
  if o = op∧(⟨o,n,k,ks⟩:tPred) ∉ a' then a' ++ [⟨o,n,k,ks⟩] else a'
def innL (op:Int):List tPred→List tPred→List tPred
 | [],a => a
 | p :: ps,a => innL op ps (innP op p a)
end
theorem qLn (op:Int) (p:tPred) (a:List tPred):innP op p a = if p.Op = op∧p ∉ innL op p.Kids a then innL op p.Kids a ++ [p] else innL op p.Kids a:=by
 obtain ⟨o,n,k,ks⟩:=p
 rw [innP]; rfl
theorem qtd (op:Int):∀ (l a:List tPred),l.foldl (fun s x => innP op x s) a = innL op l a
 | [],a => by rw [innL]; rfl
 | p :: l,a => by rw [List.foldl_cons,qtd op l,innL]
mutual
theorem qFb (op:Int):∀ (p:tPred) (a:List tPred),(innP op p a).length ≤ a.length + nP p
 | ⟨o,n,k,ks⟩,a => by
  have:=qwh op ks a
  rw [innP,nP]
  show (if o = op∧(⟨o,n,k,ks⟩:tPred) ∉ innL op ks a then innL op ks a ++ [⟨o,n,k,ks⟩] else innL op ks a).length ≤ a.length + (nL ks + 1)
  split
  ·simp only [vaf,List.length_singleton]
   omega
  ·omega
theorem qwh (op:Int):∀ (l a:List tPred),(innL op l a).length ≤ a.length + nL l
 | [],a => by rw [innL,nL]; omega
 | p :: l,a => by
  have:=qFb op p a
  have:=qwh op l (innP op p a)
  rw [innL,nL]
  omega
end
theorem qGZ (op:Int) (l a:List tPred) (i:Nat) (h:i < l.length):innL op (l.take (i + 1)) a = innP op l[i] (innL op (l.take i) a):=by
 rw [← qtd,← qtd,vaE h,vbY]
 rfl
theorem qup (p:tPred) (op:Int) (a:List tPred) (hp:nP p + a.length ≤ bigN):qm9 p op a = some (innP op p a):=by
 refine qd3 (F:=qnv) (fun x => nP x.1) (fun x => nP x.1 + x.2.2.length ≤ bigN) (fun x => innP x.2.1 x.1 x.2.2) (fun R x hx ih => ?_) (p,op,a) hp (qdQ (by show nP p ≤ bigN; omega))
 obtain ⟨p,op,a⟩:=x
 have hx:nP p + a.length ≤ bigN:=hx
 show qjV (fun p op a => R (p,op,a)) p op a = some (innP op p a)
 unfold qjV qls
 have hlen:=qgh p
 have hn:=qEA p
 rw [qDk p.Kids (by unfold bigN at hx; omega) (fun i s => (s,i)) _ (fun i s => s = innL op (p.Kids.take i) a) (fun x s => innP op x s) id a (by simp [innL]) (fun i hi s hs => ?_) (fun s _ => ?_)]
 ·simp only [id,vaa]
  rw [qtd]
  have hl:=qwh op p.Kids a
  unfold qlF
  rw [qLn]
  by_cases h1:p.Op = op
  ·rw [vao (by simpa using h1),qKY _ p (by omega) (by unfold bigN at hx; omega)]
   simp only [vaa]
   by_cases h2:p ∈ innL op p.Kids a
   ·simp [h2]
   ·simp only [h2,decide_false,vbH,if_true,not_false_eq_true,vcM]
    rw [qcq (by unfold bigN at hx; simp; omega)]
    simp [h1]
  ·rw [vam (by simpa using h1)]
   simp [h1]
 ·have hm:=vat hi
  have hk:=qfM hm
  refine ⟨?_,by rw [qGZ _ _ _ _ hi,hs]⟩
  unfold qge
  rw [vao (by simp; omega),qbb p.Kids i hi]
  simp only [vaa]
  have h1:=qwh op (p.Kids.take i) a
  have h2:=qjX p.Kids (i + 1)
  have h3:=quI p.Kids i hi
  rw [ih (p.Kids[i],op,s) hk (by show nP p.Kids[i] + s.length ≤ bigN; rw [hs]; omega)]
  rfl
 ·unfold qge
  rw [vam (by simp)]
  rfl
theorem qJ4 {l:List Str} {v:Str}:(match l.findIdx? (fun x => x == v) with | some j => (j:Int) | none => -1) ≥ 0↔v ∈ l:=by
 cases h:l.findIdx? (fun x => x == v) with
 | none =>
  rw [vcj] at h
  simp only
  constructor
  ·intro h'; omega
  ·intro hm; have:=h v hm; simp at this
 | some j =>
  obtain ⟨hj,h1,_⟩:=vbz.1 h
  simp only
  constructor
  ·intro _
   have:l[j] = v:=by simpa using h1
   exact this ▸ vat hj
  ·intro _; omega
theorem qI6 (l:List Str) (v:Str) (hl:l.length < 9223372036854775808):qgi l v = some (match l.findIdx? (fun x => x == v) with | some j => (j:Int) | none => -1):=by
 unfold qgi qnk
 have h:=qtJ l hl (fun zz => qcu l v (l.length:Int) zz) (fun x => x == v) (fun j => Sum.inl (j:Int)) (.inr ()) (fun i hi => ?_) ?_
 ·rw [h]
  simp only [vaa]
  cases l.findIdx? (fun x => x == v) <;> rfl
 ·show qcu l v (l.length:Int) (i:Int) = _
  unfold qcu
  rw [vao (by simp; omega),qbb l i hi]
  simp only [vaa]
  by_cases he:(l[i] == v) = true <;> simp [he]
 ·show qcu l v (l.length:Int) (l.length:Int) = _
  unfold qcu
  rw [vam (by simp)]
theorem qES (l:List Str) (v:Str) (hl:l.length < 9223372036854775808):qje l v = some (match l.findIdx? (fun x => x == v) with | some j => (j:Int) | none => -1):=by
 unfold qje qj9
 have h:=qtJ l hl (fun zz => qcj l v (l.length:Int) zz) (fun x => x == v) (fun j => Sum.inl (j:Int)) (.inr ()) (fun i hi => ?_) ?_
 ·rw [h]
  simp only [vaa]
  cases l.findIdx? (fun x => x == v) <;> rfl
 ·show qcj l v (l.length:Int) (i:Int) = _
  unfold qcj
  rw [vao (by simp; omega),qbb l i hi]
  simp only [vaa]
  by_cases he:v = l[i]
  ·subst he; simp
  ·have he':¬ l[i] = v:=fun h => he h.symm
   simp [he,he']
 ·show qcj l v (l.length:Int) (l.length:Int) = _
  unfold qcj
  rw [vam (by simp)]
theorem qks (l:List Str) (v:Str) (hl:l.length < 9223372036854775808):qbQ l v = some (decide (v ∈ l)):=by
 unfold qbQ
 rw [qES l v hl]
 simp only [vaa]
 congr 1
 exact decide_eq_decide.2 qJ4
end Go.Proofs.YtgldgpdhblndkaaGreatDoor
