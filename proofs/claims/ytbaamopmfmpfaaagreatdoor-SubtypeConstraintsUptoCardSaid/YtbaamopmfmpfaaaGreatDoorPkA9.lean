/- PROVED: a part of the proof. Conditions: none. -/
import Derived.Test.YtbaamopmfmpfaaaGreatDoorPkA8
import Derived.Test.YtbaamopmfmpfaaaGreatDoorPkA7
import Derived.Test.YtbaamopmfmpfaaaGreatDoorProg
import Derived.Ground.SlgnProg
import Derived.Shelf.Lays
import Derived.Shelf.LaysM
import Derived.Shelf.SlGeneric
import Derived.Shelf.SlLaysE0
import Derived.RangeFuncRecord
import Derived.RangeFuncSeq
import Derived.Shelf.Strconv.Itoa3
import Derived.Shelf.Sort.Plain
import Derived.Shelf.Slices.In.CompactS
import Derived.Shelf.Slices.In.SortNone
noncomputable section
namespace Go.Proofs.YtbaamopmfmpfaaaGreatDoor
open Go Go.Proofs.Tryz
set_option linter.unusedVariables false
set_option maxRecDepth 100000
theorem Ve:∀n,(∀l,Sh Pg n 102 l->∃x,l=bH x):=by
 intro n
 induction n using Nat.strongRecOn with
 | ind n ih =>
  cases n with
  |zero=>exact fun l h=>h.elim
  | succ n =>
   exact fun l h=>by
    unfold Sh at h
    rw[underlying102]at h
    obtain⟨a0,b0,rfl,_,h0,a1,b1,rfl,_,h1,rfl⟩:=h
    obtain⟨x0,rfl⟩:=(o0 underlying9) n _ h0
    obtain⟨x1,rfl⟩:=(o0 underlying47) n _ h1
    exact⟨(⟨x0,x1⟩:cG),by rw[Og];rfl⟩
theorem ul:∀n,(∀l,Sh Pg n 36 l->∃x,l=ac x):=by
 intro n
 induction n using Nat.strongRecOn with
 | ind n ih =>
  cases n with
  |zero=>exact fun l h=>h.elim
  | succ n =>
   exact fun l h=>by
    unfold Sh at h
    rw[underlying36]at h
    obtain⟨a0,b0,rfl,_,h0,a1,b1,rfl,_,h1,a2,b2,rfl,_,h2,a3,b3,rfl,_,h3,rfl⟩:=h
    obtain⟨x0,rfl⟩:=(YP underlying33) n _ h0
    obtain⟨x1,rfl⟩:=(o0 underlying9) n _ h1
    obtain⟨x2,rfl⟩:=(YP underlying3) n _ h2
    obtain⟨x3,rfl⟩:=WZ underlying34 (c:=ac) (fun m hm=>(ih m (by omega))) _ h3
    exact⟨(⟨x0,x1,x2,x3⟩:aa),by rw[aJ];rfl⟩
theorem um:∀n,(∀l,Sh Pg n 38 l->∃x,l=af x):=by
 intro n
 induction n using Nat.strongRecOn with
 | ind n ih =>
  cases n with
  |zero=>exact fun l h=>h.elim
  | succ n =>
   exact fun l h=>by
    unfold Sh at h
    rw[underlying38]at h
    obtain⟨a0,b0,rfl,_,h0,a1,b1,rfl,_,h1,a2,b2,rfl,_,h2,a3,b3,rfl,_,h3,a4,b4,rfl,_,h4,a5,b5,rfl,_,h5,rfl⟩:=h
    obtain⟨x0,rfl⟩:=(YP underlying30) n _ h0
    obtain⟨x1,rfl⟩:=(o0 underlying9) n _ h1
    obtain⟨x2,rfl⟩:=WZ underlying31 (c:=af) (fun m hm=>(ih m (by omega))) _ h2
    obtain⟨x3,rfl⟩:=(qw underlying32 (o0 underlying9)) n _ h3
    obtain⟨x4,rfl⟩:=ul n _ h4
    obtain⟨x5,rfl⟩:=(qw underlying34 ul) n _ h5
    exact⟨(⟨x0,x1,x2,x3,x4,x5⟩:ae),by rw[bu];(try simp only[aJ]);rfl⟩
theorem qeV:∀n,(∀l,Sh Pg n 73 l->∃x,l=ec x):=by
 intro n
 induction n using Nat.strongRecOn with
 | ind n ih =>
  cases n with
  |zero=>exact fun l h=>h.elim
  | succ n =>
   exact fun l h=>by
    unfold Sh at h
    rw[underlying73]at h
    obtain⟨a0,b0,rfl,_,h0,a1,b1,rfl,_,h1,a2,b2,rfl,_,h2,rfl⟩:=h
    obtain⟨x0,rfl⟩:=(o0 underlying9) n _ h0
    obtain⟨x1,rfl⟩:=(qw underlying32 (o0 underlying9)) n _ h1
    obtain⟨x2,rfl⟩:=(qw underlying31 um) n _ h2
    exact⟨(⟨x0,x1,x2⟩:ee),by rw[U0];rfl⟩
theorem qcU:∀n,(∀l,Sh Pg n 71 l->∃x,l=cH x):=by
 intro n
 induction n using Nat.strongRecOn with
 | ind n ih =>
  cases n with
  |zero=>exact fun l h=>h.elim
  | succ n =>
   exact fun l h=>by
    unfold Sh at h
    rw[underlying71]at h
    obtain⟨a0,b0,rfl,_,h0,a1,b1,rfl,_,h1,a2,b2,rfl,_,h2,a3,b3,rfl,_,h3,rfl⟩:=h
    obtain⟨x0,rfl⟩:=(o0 underlying9) n _ h0
    obtain⟨x1,rfl⟩:=(qw underlying32 (o0 underlying9)) n _ h1
    obtain⟨x2,rfl⟩:=(qw underlying60 Ve) n _ h2
    obtain⟨x3,rfl⟩:=(qw underlying69 qeV) n _ h3
    exact⟨(⟨x0,x1,x2,x3⟩:d8),by rw[ui];rfl⟩
theorem YQ:∀n,(∀l,Sh Pg n 79 l->∃x,l=ew x):=by
 intro n
 induction n using Nat.strongRecOn with
 | ind n ih =>
  cases n with
  |zero=>exact fun l h=>h.elim
  | succ n =>
   exact fun l h=>by
    unfold Sh at h
    rw[underlying79]at h
    obtain⟨a0,b0,rfl,_,h0,a1,b1,rfl,_,h1,rfl⟩:=h
    obtain⟨x0,rfl⟩:=(o0 underlying9) n _ h0
    obtain⟨x1,rfl⟩:=um n _ h1
    exact⟨(⟨x0,x1⟩:tP),by rw[sS];(try simp only[bu]);(try simp only[aJ]);rfl⟩
theorem qa3:∀n,(∀l,Sh Pg n 77 l->∃x,l=fC x):=by
 intro n
 induction n using Nat.strongRecOn with
 | ind n ih =>
  cases n with
  |zero=>exact fun l h=>h.elim
  | succ n =>
   exact fun l h=>by
    unfold Sh at h
    rw[underlying77]at h
    obtain⟨a0,b0,rfl,_,h0,a1,b1,rfl,_,h1,a2,b2,rfl,_,h2,rfl⟩:=h
    obtain⟨x0,rfl⟩:=(o0 underlying9) n _ h0
    obtain⟨x1,rfl⟩:=(o0 underlying9) n _ h1
    obtain⟨x2,rfl⟩:=(qw underlying75 YQ) n _ h2
    exact⟨(⟨x0,x1,x2⟩:rV),by rw[Ly];rfl⟩
theorem W1:∀n,(∀l,Sh Pg n 247 l->∃x,l=iv x):=by
 intro n
 induction n using Nat.strongRecOn with
 | ind n ih =>
  cases n with
  |zero=>exact fun l h=>h.elim
  | succ n =>
   exact fun l h=>by
    unfold Sh at h
    rw[underlying247]at h
    obtain⟨a0,b0,rfl,_,h0,a1,b1,rfl,_,h1,rfl⟩:=h
    obtain⟨x0,rfl⟩:=(o0 underlying9) n _ h0
    obtain⟨x1,rfl⟩:=(o0 underlying9) n _ h1
    exact⟨(⟨x0,x1⟩:Fw),by rw[P2];rfl⟩
theorem qa4:∀n,(∀l,Sh Pg n 125 l->∃x,l=d5 x):=by
 intro n
 induction n using Nat.strongRecOn with
 | ind n ih =>
  cases n with
  |zero=>exact fun l h=>h.elim
  | succ n =>
   exact fun l h=>by
    unfold Sh at h
    rw[underlying125]at h
    obtain⟨a0,b0,rfl,_,h0,a1,b1,rfl,_,h1,rfl⟩:=h
    obtain⟨x0,rfl⟩:=(o0 underlying9) n _ h0
    obtain⟨x1,rfl⟩:=um n _ h1
    exact⟨(⟨x0,x1⟩:qc),by rw[qi];(try simp only[bu]);(try simp only[aJ]);rfl⟩
theorem Vc:∀n,(∀l,Sh Pg n 97 l->∃x,l=aZ x)/\(∀l,Sh Pg n 127 l->∃x,l=fo x):=by
 intro n
 induction n using Nat.strongRecOn with
 | ind n ih =>
  cases n with
  |zero=>exact⟨fun l h=>h.elim,fun l h=>h.elim⟩
  | succ n =>
   exact⟨(fun l h=>by
    unfold Sh at h
    rw[underlying97]at h
    obtain⟨a0,b0,rfl,_,h0,a1,b1,rfl,_,h1,a2,b2,rfl,_,h2,a3,b3,rfl,_,h3,a4,b4,rfl,_,h4,a5,b5,rfl,_,h5,a6,b6,rfl,_,h6,rfl⟩:=h
    obtain⟨x0,rfl⟩:=(YP underlying92) n _ h0
    obtain⟨x1,rfl⟩:=(o0 underlying9) n _ h1
    obtain⟨x2,rfl⟩:=(YP underlying3) n _ h2
    obtain⟨x3,rfl⟩:=WZ underlying93 (c:=aZ) (fun m hm=>(ih m (by omega)).1) _ h3
    obtain⟨x4,rfl⟩:=(qw underlying94 qa4) n _ h4
    obtain⟨x5,rfl⟩:=WZ underlying95 (c:=fo) (fun m hm=>(ih m (by omega)).2) _ h5
    obtain⟨x6,rfl⟩:=(qw underlying31 um) n _ h6
    exact⟨(⟨x0,x1,x2,x3,x4,x5,x6⟩:bX),by rw[ef];rfl⟩),(fun l h=>by
    unfold Sh at h
    rw[underlying127]at h
    obtain⟨a0,b0,rfl,_,h0,a1,b1,rfl,_,h1,a2,b2,rfl,_,h2,rfl⟩:=h
    obtain⟨x0,rfl⟩:=(o0 underlying9) n _ h0
    obtain⟨x1,rfl⟩:=(qw underlying32 (o0 underlying9)) n _ h1
    obtain⟨x2,rfl⟩:=(ih n (vct n)).1 _ h2
    exact⟨(⟨x0,x1,x2⟩:uw),by rw[tE];(try simp only[ef]);rfl⟩)⟩
theorem qcV:In Pg 97 aZ:=fun n=>(Vc n).1
theorem qeU:∀n,(∀l,Sh Pg n 248 l->∃x,l=pR x):=by
 intro n
 induction n using Nat.strongRecOn with
 | ind n ih =>
  cases n with
  |zero=>exact fun l h=>h.elim
  | succ n =>
   exact fun l h=>by
    unfold Sh at h
    rw[underlying248]at h
    obtain⟨a0,b0,rfl,_,h0,a1,b1,rfl,_,h1,rfl⟩:=h
    obtain⟨x0,rfl⟩:=(o0 underlying9) n _ h0
    obtain⟨x1,rfl⟩:=(o0 underlying47) n _ h1
    exact⟨(⟨x0,x1⟩:SL),by rw[UZ];rfl⟩
theorem qa2:∀n,(∀l,Sh Pg n 124 l->∃x,l=db x):=by
 intro n
 induction n using Nat.strongRecOn with
 | ind n ih =>
  cases n with
  |zero=>exact fun l h=>h.elim
  | succ n =>
   exact fun l h=>by
    unfold Sh at h
    rw[underlying124]at h
    obtain⟨a0,b0,rfl,_,h0,a1,b1,rfl,_,h1,a2,b2,rfl,_,h2,a3,b3,rfl,_,h3,rfl⟩:=h
    obtain⟨x0,rfl⟩:=(o0 underlying9) n _ h0
    obtain⟨x1,rfl⟩:=(qw underlying60 Ve) n _ h1
    obtain⟨x2,rfl⟩:=ul n _ h2
    obtain⟨x3,rfl⟩:=ul n _ h3
    exact⟨(⟨x0,x1,x2,x3⟩:ng),by rw[lC];(try simp only[aJ]);rfl⟩
theorem qeW:∀n,(∀l,Sh Pg n 120 l->∃x,l=Cf x):=by
 intro n
 induction n using Nat.strongRecOn with
 | ind n ih =>
  cases n with
  |zero=>exact fun l h=>h.elim
  | succ n =>
   exact fun l h=>by
    unfold Sh at h
    rw[underlying120]at h
    obtain⟨a0,b0,rfl,_,h0,a1,b1,rfl,_,h1,a2,b2,rfl,_,h2,a3,b3,rfl,_,h3,a4,b4,rfl,_,h4,a5,b5,rfl,_,h5,rfl⟩:=h
    obtain⟨x0,rfl⟩:=(qw underlying32 (o0 underlying9)) n _ h0
    obtain⟨x1,rfl⟩:=(qw underlying80 W1) n _ h1
    obtain⟨x2,rfl⟩:=(qw underlying117 qeU) n _ h2
    obtain⟨x3,rfl⟩:=(qw underlying118 qa2) n _ h3
    obtain⟨x4,rfl⟩:=um n _ h4
    obtain⟨x5,rfl⟩:=(qw underlying34 ul) n _ h5
    exact⟨(⟨x0,x1,x2,x3,x4,x5⟩:qbT),by rw[JL];(try simp only[bu]);(try simp only[aJ]);rfl⟩
theorem ZS:∀n,(∀l,Sh Pg n 122 l->∃x,l=dG x):=by
 intro n
 induction n using Nat.strongRecOn with
 | ind n ih =>
  cases n with
  |zero=>exact fun l h=>h.elim
  | succ n =>
   exact fun l h=>by
    unfold Sh at h
    rw[underlying122]at h
    obtain⟨a0,b0,rfl,_,h0,a1,b1,rfl,_,h1,a2,b2,rfl,_,h2,a3,b3,rfl,_,h3,a4,b4,rfl,_,h4,a5,b5,rfl,_,h5,rfl⟩:=h
    obtain⟨x0,rfl⟩:=(o0 underlying9) n _ h0
    obtain⟨x1,rfl⟩:=(qw underlying32 (o0 underlying9)) n _ h1
    obtain⟨x2,rfl⟩:=qcV n _ h2
    obtain⟨x3,rfl⟩:=(YP underlying116) n _ h3
    obtain⟨x4,rfl⟩:=(qke underlying4) n _ h4
    obtain⟨x5,rfl⟩:=qeW n _ h5
    exact⟨(⟨x0,x1,x2,x3,x4,x5⟩:sd),by rw[pC];(try simp only[ef]);(try simp only[JL]);(try simp only[bu]);(try simp only[aJ]);rfl⟩
theorem Vd:∀n,(∀l,Sh Pg n 82 l->∃x,l=ca x):=by
 intro n
 induction n using Nat.strongRecOn with
 | ind n ih =>
  cases n with
  |zero=>exact fun l h=>h.elim
  | succ n =>
   exact fun l h=>by
    unfold Sh at h
    rw[underlying82]at h
    obtain⟨a0,b0,rfl,_,h0,a1,b1,rfl,_,h1,a2,b2,rfl,_,h2,a3,b3,rfl,_,h3,rfl⟩:=h
    obtain⟨x0,rfl⟩:=(o0 underlying9) n _ h0
    obtain⟨x1,rfl⟩:=um n _ h1
    obtain⟨x2,rfl⟩:=(qw underlying80 W1) n _ h2
    obtain⟨x3,rfl⟩:=(qw underlying27 ZS) n _ h3
    exact⟨(⟨x0,x1,x2,x3⟩:eA),by rw[fQ];(try simp only[bu]);(try simp only[aJ]);rfl⟩
theorem qcT:∀n,(∀l,Sh Pg n 88 l->∃x,l=fP x):=by
 intro n
 induction n using Nat.strongRecOn with
 | ind n ih =>
  cases n with
  |zero=>exact fun l h=>h.elim
  | succ n =>
   exact fun l h=>by
    unfold Sh at h
    rw[underlying88]at h
    obtain⟨a0,b0,rfl,_,h0,a1,b1,rfl,_,h1,a2,b2,rfl,_,h2,rfl⟩:=h
    obtain⟨x0,rfl⟩:=(o0 underlying9) n _ h0
    obtain⟨x1,rfl⟩:=(qw underlying32 (o0 underlying9)) n _ h1
    obtain⟨x2,rfl⟩:=ul n _ h2
    exact⟨(⟨x0,x1,x2⟩:C7),by rw[uh];(try simp only[aJ]);rfl⟩
theorem W0:∀n,(∀l,Sh Pg n 86 l->∃x,l=dc x):=by
 intro n
 induction n using Nat.strongRecOn with
 | ind n ih =>
  cases n with
  |zero=>exact fun l h=>h.elim
  | succ n =>
   exact fun l h=>by
    unfold Sh at h
    rw[underlying86]at h
    obtain⟨a0,b0,rfl,_,h0,a1,b1,rfl,_,h1,a2,b2,rfl,_,h2,a3,b3,rfl,_,h3,a4,b4,rfl,_,h4,rfl⟩:=h
    obtain⟨x0,rfl⟩:=(o0 underlying9) n _ h0
    obtain⟨x1,rfl⟩:=(o0 underlying9) n _ h1
    obtain⟨x2,rfl⟩:=(o0 underlying47) n _ h2
    obtain⟨x3,rfl⟩:=(qw underlying84 qcT) n _ h3
    obtain⟨x4,rfl⟩:=ul n _ h4
    exact⟨(⟨x0,x1,x2,x3,x4⟩:gP),by rw[j7];(try simp only[aJ]);rfl⟩
theorem qcW:∀n,(∀l,Sh Pg n 90 l->∃x,l=fw x):=by
 intro n
 induction n using Nat.strongRecOn with
 | ind n ih =>
  cases n with
  |zero=>exact fun l h=>h.elim
  | succ n =>
   exact fun l h=>by
    unfold Sh at h
    rw[underlying90]at h
    obtain⟨a0,b0,rfl,_,h0,a1,b1,rfl,_,h1,a2,b2,rfl,_,h2,rfl⟩:=h
    obtain⟨x0,rfl⟩:=(o0 underlying9) n _ h0
    obtain⟨x1,rfl⟩:=(qw underlying60 Ve) n _ h1
    obtain⟨x2,rfl⟩:=ul n _ h2
    exact⟨(⟨x0,x1,x2⟩:vD),by rw[uj];(try simp only[aJ]);rfl⟩
theorem YR:∀n,(∀l,Sh Pg n 29 l->∃x,l=aB x):=by
 intro n
 induction n using Nat.strongRecOn with
 | ind n ih =>
  cases n with
  |zero=>exact fun l h=>h.elim
  | succ n =>
   exact fun l h=>by
    unfold Sh at h
    rw[underlying29]at h
    obtain⟨a0,b0,rfl,_,h0,a1,b1,rfl,_,h1,a2,b2,rfl,_,h2,a3,b3,rfl,_,h3,a4,b4,rfl,_,h4,a5,b5,rfl,_,h5,rfl⟩:=h
    obtain⟨x0,rfl⟩:=(qw underlying22 qcU) n _ h0
    obtain⟨x1,rfl⟩:=(qw underlying23 qa3) n _ h1
    obtain⟨x2,rfl⟩:=(qw underlying24 Vd) n _ h2
    obtain⟨x3,rfl⟩:=(qw underlying25 W0) n _ h3
    obtain⟨x4,rfl⟩:=(qw underlying26 qcW) n _ h4
    obtain⟨x5,rfl⟩:=(qw underlying27 ZS) n _ h5
    exact⟨(⟨x0,x1,x2,x3,x4,x5⟩:aH),by rw[xJ];rfl⟩
theorem zY:∀n,(∀l,Sh Pg n 40 l->∃x,l=aE x):=by
 intro n
 induction n using Nat.strongRecOn with
 | ind n ih =>
  cases n with
  |zero=>exact fun l h=>h.elim
  | succ n =>
   exact fun l h=>by
    unfold Sh at h
    rw[underlying40]at h
    obtain⟨a0,b0,rfl,_,h0,a1,b1,rfl,_,h1,a2,b2,rfl,_,h2,rfl⟩:=h
    obtain⟨x0,rfl⟩:=um n _ h0
    obtain⟨x1,rfl⟩:=um n _ h1
    obtain⟨x2,rfl⟩:=(YP underlying3) n _ h2
    exact⟨(⟨x0,x1,x2⟩:aQ),by rw[co];(try simp only[bu]);(try simp only[aJ]);rfl⟩
end Go.Proofs.YtbaamopmfmpfaaaGreatDoor
namespace Go.Proofs
open Go.Shelf
noncomputable def Tryz.laysM171_ren : Go.Shelf.Ren := ⟨fun | 171 => 95 | 243 => 112 | 246 => 118 | 283 => 133 | 284 => 134 | 285 => 135 | 286 => 136 | 129 => 147 | 317 => 146 | 318 => 148 | 319 => 149 | 320 => 150 | 337 => 154 | 338 => 155 | n => n, fun | 3 => 3 | 9 => 9 | 2 => 2 | 4 => 4 | 171 => 184 | 0 => 0 | 53 => 185 | 37 => 158 | 5 => 5 | 173 => 188 | 212 => 197 | 51 => 198 | 20 => 20 | 213 => 199 | 46 => 200 | 232 => 205 | 233 => 206 | n => n, fun | 17 => 0 | 18 => 1 | 19 => 2 | n => n⟩
theorem Tryz.laysM171 : Go.Proofs.LaysM.n171 Tryz.prog Tryz.laysM171_ren := {
 mixed := by kernel_rfl
 f129 := Tryz.func147.trans (congrArg some (by kernel_rfl))
 f171 := Tryz.func95.trans (congrArg some (by kernel_rfl))
 f243 := Tryz.func112.trans (congrArg some (by kernel_rfl))
 f246 := Tryz.func118.trans (congrArg some (by kernel_rfl))
 f283 := Tryz.func133.trans (congrArg some (by kernel_rfl))
 f284 := Tryz.func134.trans (congrArg some (by kernel_rfl))
 f285 := Tryz.func135.trans (congrArg some (by kernel_rfl))
 f286 := Tryz.func136.trans (congrArg some (by kernel_rfl))
 f317 := Tryz.func146.trans (congrArg some (by kernel_rfl))
 f318 := Tryz.func148.trans (congrArg some (by kernel_rfl))
 f319 := Tryz.func149.trans (congrArg some (by kernel_rfl))
 f320 := Tryz.func150.trans (congrArg some (by kernel_rfl))
 f337 := Tryz.func154.trans (congrArg some (by kernel_rfl))
 f338 := Tryz.func155.trans (congrArg some (by kernel_rfl))
 t0 := Tryz.underlying0
 a0 := Tryz.isAgg0
 z0 := Tryz.sizeOf0
 v0 := Tryz.zeroValue0
 t2 := Tryz.underlying2
 a2 := Tryz.isAgg2
 z2 := Tryz.sizeOf2
 v2 := Tryz.zeroValue2
 t3 := Tryz.underlying3
 a3 := Tryz.isAgg3
 z3 := Tryz.sizeOf3
 v3 := Tryz.zeroValue3
 t4 := Tryz.underlying4
 a4 := Tryz.isAgg4
 z4 := Tryz.sizeOf4
 v4 := Tryz.zeroValue4
 t5 := Tryz.underlying5
 a5 := Tryz.isAgg5
 z5 := Tryz.sizeOf5
 v5 := Tryz.zeroValue5
 t9 := Tryz.underlying9
 a9 := Tryz.isAgg9
 z9 := Tryz.sizeOf9
 v9 := Tryz.zeroValue9
 t20 := Tryz.underlying20
 a20 := Tryz.isAgg20
 z20 := Tryz.sizeOf20
 v20 := Tryz.zeroValue20
 t37 := Tryz.underlying158
 a37 := Tryz.isAgg158
 z37 := Tryz.sizeOf158
 v37 := Tryz.zeroValue158
 t46 := Tryz.underlying200
 a46 := Tryz.isAgg200
 z46 := Tryz.sizeOf200
 v46 := Tryz.zeroValue200
 t51 := Tryz.underlying198
 a51 := Tryz.isAgg198
 z51 := Tryz.sizeOf198
 v51 := Tryz.zeroValue198
 t53 := Tryz.underlying185
 a53 := Tryz.isAgg185
 z53 := Tryz.sizeOf185
 v53 := Tryz.zeroValue185
 t171 := Tryz.underlying184
 a171 := Tryz.isAgg184
 z171 := Tryz.sizeOf184
 v171 := Tryz.zeroValue184
 t173 := Tryz.underlying188
 a173 := Tryz.isAgg188
 z173 := Tryz.sizeOf188
 v173 := Tryz.zeroValue188
 t212 := Tryz.underlying197
 a212 := Tryz.isAgg197
 z212 := Tryz.sizeOf197
 v212 := Tryz.zeroValue197
 t213 := Tryz.underlying199
 a213 := Tryz.isAgg199
 z213 := Tryz.sizeOf199
 t232 := Tryz.underlying205
 a232 := Tryz.isAgg205
 z232 := Tryz.sizeOf205
 v232 := Tryz.zeroValue205
 t233 := Tryz.underlying206
 a233 := Tryz.isAgg206
 z233 := Tryz.sizeOf206
 v233 := Tryz.zeroValue206
 g17 := by kernel_rfl
 g18 := by kernel_rfl
 g19 := by kernel_rfl
 i0 := by kernel_rfl
 i2 := by kernel_rfl
 i3 := by kernel_rfl
 i4 := by kernel_rfl
 i5 := by kernel_rfl
 i9 := by kernel_rfl
 i20 := by kernel_rfl
 i37 := by kernel_rfl
 i46 := by kernel_rfl
 i51 := by kernel_rfl
 i53 := by kernel_rfl
 i171 := by kernel_rfl
 i173 := by kernel_rfl
 i212 := by kernel_rfl
 i232 := by kernel_rfl
 i233 := by kernel_rfl
 m17 := by kernel_rfl
 m18 := by kernel_rfl
 m19 := by kernel_rfl }
noncomputable def Tryz.lays190_ren : Go.Shelf.Ren := ⟨fun | 190 => 160 | 125 => 165 | 258 => 164 | 128 => 175 | 129 => 147 | 302 => 166 | 303 => 167 | 304 => 168 | 305 => 169 | 306 => 170 | 307 => 171 | 308 => 172 | 309 => 173 | 310 => 174 | 333 => 176 | 329 => 177 | 330 => 178 | 334 => 179 | 335 => 180 | 336 => 181 | 344 => 182 | n => n, fun | 31 => 32 | 9 => 9 | 3 => 3 | 46 => 200 | 0 => 0 | 51 => 198 | 53 => 185 | 4 => 4 | 183 => 215 | 182 => 214 | 131 => 220 | 5 => 5 | 218 => 222 | 222 => 226 | 228 => 228 | 229 => 229 | n => n, fun | n => n⟩
theorem Tryz.lays190 : Go.Proofs.Lays.n190 Tryz.prog Tryz.lays190_ren := {
 mixed := by kernel_rfl
 f125 := Tryz.func165.trans (congrArg some (by kernel_rfl))
 f128 := Tryz.func175.trans (congrArg some (by kernel_rfl))
 f129 := Tryz.func147.trans (congrArg some (by kernel_rfl))
 f190 := Tryz.func160.trans (congrArg some (by kernel_rfl))
 f258 := Tryz.func164.trans (congrArg some (by kernel_rfl))
 f302 := Tryz.func166.trans (congrArg some (by kernel_rfl))
 f303 := Tryz.func167.trans (congrArg some (by kernel_rfl))
 f304 := Tryz.func168.trans (congrArg some (by kernel_rfl))
 f305 := Tryz.func169.trans (congrArg some (by kernel_rfl))
 f306 := Tryz.func170.trans (congrArg some (by kernel_rfl))
 f307 := Tryz.func171.trans (congrArg some (by kernel_rfl))
 f308 := Tryz.func172.trans (congrArg some (by kernel_rfl))
 f309 := Tryz.func173.trans (congrArg some (by kernel_rfl))
 f310 := Tryz.func174.trans (congrArg some (by kernel_rfl))
 f329 := Tryz.func177.trans (congrArg some (by kernel_rfl))
 f330 := Tryz.func178.trans (congrArg some (by kernel_rfl))
 f333 := Tryz.func176.trans (congrArg some (by kernel_rfl))
 f334 := Tryz.func179.trans (congrArg some (by kernel_rfl))
 f335 := Tryz.func180.trans (congrArg some (by kernel_rfl))
 f336 := Tryz.func181.trans (congrArg some (by kernel_rfl))
 f344 := Tryz.func182.trans (congrArg some (by kernel_rfl))
 t0 := Tryz.underlying0
 a0 := Tryz.isAgg0
 z0 := Tryz.sizeOf0
 v0 := Tryz.zeroValue0
 t3 := Tryz.underlying3
 a3 := Tryz.isAgg3
 z3 := Tryz.sizeOf3
 v3 := Tryz.zeroValue3
 t4 := Tryz.underlying4
 a4 := Tryz.isAgg4
 z4 := Tryz.sizeOf4
 v4 := Tryz.zeroValue4
 t5 := Tryz.underlying5
 a5 := Tryz.isAgg5
 z5 := Tryz.sizeOf5
 v5 := Tryz.zeroValue5
 t9 := Tryz.underlying9
 a9 := Tryz.isAgg9
 z9 := Tryz.sizeOf9
 v9 := Tryz.zeroValue9
 t31 := Tryz.underlying32
 a31 := Tryz.isAgg32
 z31 := Tryz.sizeOf32
 v31 := Tryz.zeroValue32
 t46 := Tryz.underlying200
 a46 := Tryz.isAgg200
 z46 := Tryz.sizeOf200
 v46 := Tryz.zeroValue200
 t51 := Tryz.underlying198
 a51 := Tryz.isAgg198
 z51 := Tryz.sizeOf198
 v51 := Tryz.zeroValue198
 t53 := Tryz.underlying185
 a53 := Tryz.isAgg185
 z53 := Tryz.sizeOf185
 v53 := Tryz.zeroValue185
 t131 := Tryz.underlying220
 a131 := Tryz.isAgg220
 z131 := Tryz.sizeOf220
 v131 := Tryz.zeroValue220
 t182 := Tryz.underlying214
 a182 := Tryz.isAgg214
 z182 := Tryz.sizeOf214
 v182 := Tryz.zeroValue214
 t183 := Tryz.underlying215
 a183 := Tryz.isAgg215
 z183 := Tryz.sizeOf215
 v183 := Tryz.zeroValue215
 t218 := Tryz.underlying222
 a218 := Tryz.isAgg222
 z218 := Tryz.sizeOf222
 v218 := Tryz.zeroValue222
 t222 := Tryz.underlying226
 a222 := Tryz.isAgg226
 z222 := Tryz.sizeOf226
 v222 := Tryz.zeroValue226
 t228 := Tryz.underlying228
 a228 := Tryz.isAgg228
 z228 := Tryz.sizeOf228
 v228 := Tryz.zeroValue228
 t229 := Tryz.underlying229
 a229 := Tryz.isAgg229
 z229 := Tryz.sizeOf229
 v229 := Tryz.zeroValue229 }
noncomputable def Tryz.lays194_ren : Go.Shelf.Ren := ⟨fun | 194 => 161 | n => n, fun | 31 => 32 | 9 => 9 | 3 => 3 | 4 => 4 | 0 => 0 | n => n, fun | n => n⟩
theorem Tryz.lays194 : Go.Proofs.Lays.n194 Tryz.prog Tryz.lays194_ren := {
 mixed := by kernel_rfl
 f194 := Tryz.func161.trans (congrArg some (by kernel_rfl))
 t0 := Tryz.underlying0
 a0 := Tryz.isAgg0
 z0 := Tryz.sizeOf0
 v0 := Tryz.zeroValue0
 t3 := Tryz.underlying3
 a3 := Tryz.isAgg3
 z3 := Tryz.sizeOf3
 v3 := Tryz.zeroValue3
 t4 := Tryz.underlying4
 a4 := Tryz.isAgg4
 z4 := Tryz.sizeOf4
 v4 := Tryz.zeroValue4
 t9 := Tryz.underlying9
 a9 := Tryz.isAgg9
 z9 := Tryz.sizeOf9
 v9 := Tryz.zeroValue9
 t31 := Tryz.underlying32
 a31 := Tryz.isAgg32
 z31 := Tryz.sizeOf32
 v31 := Tryz.zeroValue32 }
noncomputable def Tryz.lc64_ren : Go.Shelf.Ren := ⟨fun | 41 => 64 | n => n, fun | 22 => 60 | 23 => 102 | 4 => 4 | n => n, fun | n => n⟩
theorem Tryz.lc64 : Go.Proofs.SlLaysE0.n41 Tryz.prog Tryz.lc64_ren := {
 mixed := by kernel_rfl
 f41 := ⟨Tryz.f64.name, by decide, Tryz.func64.trans (congrArg some (by kernel_rfl))⟩
 t4 := Tryz.underlying4
 a4 := Tryz.isAgg4
 z4 := Tryz.sizeOf4
 v4 := Tryz.zeroValue4
 t22 := Tryz.underlying60
 a22 := Tryz.isAgg60
 z22 := Tryz.sizeOf60
 v22 := Tryz.zeroValue60 }
noncomputable def Tryz.lc66_ren : Go.Shelf.Ren := ⟨fun | 41 => 66 | n => n, fun | 22 => 34 | 23 => 36 | 4 => 4 | n => n, fun | n => n⟩
theorem Tryz.lc66 : Go.Proofs.SlLaysE0.n41 Tryz.prog Tryz.lc66_ren := {
 mixed := by kernel_rfl
 f41 := ⟨Tryz.f66.name, by decide, Tryz.func66.trans (congrArg some (by kernel_rfl))⟩
 t4 := Tryz.underlying4
 a4 := Tryz.isAgg4
 z4 := Tryz.sizeOf4
 v4 := Tryz.zeroValue4
 t22 := Tryz.underlying34
 a22 := Tryz.isAgg34
 z22 := Tryz.sizeOf34
 v22 := Tryz.zeroValue34 }
noncomputable def Tryz.lc81_ren : Go.Shelf.Ren := ⟨fun | 41 => 81 | n => n, fun | 22 => 32 | 23 => 9 | 4 => 4 | n => n, fun | n => n⟩
theorem Tryz.lc81 : Go.Proofs.SlLaysE0.n41 Tryz.prog Tryz.lc81_ren := {
 mixed := by kernel_rfl
 f41 := ⟨Tryz.f81.name, by decide, Tryz.func81.trans (congrArg some (by kernel_rfl))⟩
 t4 := Tryz.underlying4
 a4 := Tryz.isAgg4
 z4 := Tryz.sizeOf4
 v4 := Tryz.zeroValue4
 t22 := Tryz.underlying32
 a22 := Tryz.isAgg32
 z22 := Tryz.sizeOf32
 v22 := Tryz.zeroValue32 }
noncomputable def Tryz.lc98_ren : Go.Shelf.Ren := ⟨fun | 41 => 98 | n => n, fun | 22 => 31 | 23 => 38 | 4 => 4 | n => n, fun | n => n⟩
theorem Tryz.lc98 : Go.Proofs.SlLaysE0.n41 Tryz.prog Tryz.lc98_ren := {
 mixed := by kernel_rfl
 f41 := ⟨Tryz.f98.name, by decide, Tryz.func98.trans (congrArg some (by kernel_rfl))⟩
 t4 := Tryz.underlying4
 a4 := Tryz.isAgg4
 z4 := Tryz.sizeOf4
 v4 := Tryz.zeroValue4
 t22 := Tryz.underlying31
 a22 := Tryz.isAgg31
 z22 := Tryz.sizeOf31
 v22 := Tryz.zeroValue31 }
end Go.Proofs
namespace Go.Proofs.YtbaamopmfmpfaaaGreatDoor
open Go Go.Proofs.Tryz
set_option linter.unusedVariables false
set_option maxRecDepth 100000
theorem qaO:nJ Pg 64 102:=F3 Tryz.lc64 rfl rfl (by kernel_rfl) call64
theorem PT{l r:List cG}(h:nS l=some r):CC Pg GE 64 [sl bH l] (sl bH r) [(0,102)]:=IG.cloneCC qaO h
theorem qaP:nJ Pg 66 36:=F3 Tryz.lc66 rfl rfl (by kernel_rfl) call66
theorem Yx{l r:List aa}(h:nS l=some r):CC Pg GE 66 [sl ac l] (sl ac r) [(0,36)]:=bL.cloneCC qaP h
theorem S9:nJ Pg 81 9:=F3 Tryz.lc81 rfl rfl (by kernel_rfl) call81
theorem H5{l r:List ag}(h:nS l=some r):CC Pg GE 81 [sl cS l] (sl cS r) [(0,9)]:=bp.cloneCC S9 h
theorem qaQ:nJ Pg 98 38:=F3 Tryz.lc98 rfl rfl (by kernel_rfl) call98
open Go
abbrev V5(GE:List (Nat×List PVal))(Γ:bw)(w:World):uy:=⟨GE,Γ,w,fun _=>False⟩
structure T5(GE:List (Nat×List PVal))(Γ:bw)(w:World):Prop where
 wi:∀b n,Γ b=some n->∃c t fr,w.heap[b]? =some (.cells c t fr)/\n<=c.size
 gl:∀g cs,(g,cs)∈GE->VR Γ [] w (.eptr cs) (.pointer (some ⟨g,0,none⟩))
 gc:∀g cs,(g,cs)∈GE->iy 0 cs
 gx:∀g cs,(g,cs)∈GE->g<w.heap.size/\∃c t fr,w.heap[g]? =some (.cells c t fr)/\c.size=cs.length
theorem VR.clo{Γ:bw}{bs bs':bR}{w:World}{p:PVal}{v:Value}(h:VR Γ bs w p v)(hc:p.cl 0):VR Γ bs' w p v:=h.restrict (n:=0) hc fun i b hi _=>absurd hi (vaS _)
section
variable{P:Program}{E:uy}{Γ:bw}{bs:bR}{ow:Nat->Option nM}{w:World}{a:Array Value}{st:aA}
theorem SR.base(h:SR P E Γ bs ow w a st):T5 E.GE Γ w where
 wi:=h.wi
 gl:=fun g cs hg=>(h.gl g cs hg).clo (by simp only[PVal.cl];exact h.gc g cs hg)
 gc:=h.gc
 gx:=fun g cs hg=>⟨(h.gnow hg).1,(h.gnow hg).2.2.2⟩
theorem T5.good{GE:List (Nat×List PVal)}(hB:T5 GE Γ w):IP GE 0 (V5 GE Γ w) where
 ge:=rfl
 low:=fun b n h=>by obtain⟨c,t,fr,h1,_⟩:=hB.wi b n h;exact(var.1 h1).1
 nt:=fun _ _ hb=>hb
 gl:=hB.gl
theorem T5.fresh{GE:List (Nat×List PVal)}(hB:T5 GE Γ w)(k:Nat){tmps:List PVal}(hs:a.size=tmps.length)(hv:∀(t:Nat) p v,tmps[t]? =some p->a[t]? =some v->VR Γ [] w p v):SR P (V5 GE Γ w) Γ (List.replicate k none) (fun _=>none) w a ⟨tmps,List.replicate k .dead,[]⟩:=by
 have hno:∀(i b:Nat),(List.replicate k (none:Option Nat))[i]? =some (some b)->False:=fun i b h=>by
  rw[vaU]at h
  split at h<;>simp at h
 exact{
  wi:=hB.wi
  sz:=hs
  tm:=fun t p v hp hv'=>(hv t p v hp hv').mono (.refl _ _) (fun i b h=>by simp at h)
  bl:=by simp
  bx:=fun i b B hb=>(hno i b hb).elim
  inj:=fun i j b hb=>(hno i b hb).elim
  bn:=fun i b hb=>(hno i b hb).elim
  on:=fun b L hL=>by cases hL
  ot:=fun t k e he=>by simp at he
  ob:=fun i j e cs own b _ _ hb=>(hno i b hb).elim
  gl:=fun g cs hg=>(hB.gl g cs hg).mono (.refl _ _) (fun i b h=>by simp at h)
  gc:=hB.gc
  gx:=fun g cs hg=>⟨(hB.gx g cs hg).1,fun h=>h,(hB.gx g cs hg).2⟩
  step:=.refl _ _ _ _}
theorem SR.again(h:SR P E Γ bs ow w a st)(hc:iy 0 st.tmps){GE:List (Nat×List PVal)}{Γ':bw}{w':World}(hB:T5 GE Γ' w')(hle:Γ.Le w Γ' w')(k:Nat):SR P (V5 GE Γ' w') Γ' (List.replicate k none) (fun _=>none) w' a ⟨st.tmps,List.replicate k .dead,[]⟩:=
 hB.fresh k h.sz fun t p v hp hv=>((h.tm t p v hp hv).clo (rj hc hp)).mono hle (.refl _)
theorem SR.aside(h:SR P E Γ bs ow w a st){GE:List (Nat×List PVal)}{Γ':bw}{bs':bR}{ow':Nat->Option nM}{w':World}{a':Array Value}{st':aA}(h':SR P (V5 GE Γ w) Γ' bs' ow' w' a' st'):SR P E Γ' bs ow w' a st:=
 h.world (fun _=>False) h'.step.le h'.wi h'.step.os h'.step.tape h'.step.output h'.step.size (fun b hb _=>h'.step.keep b hb id) (fun _ hx=>hx.elim) (fun _ _ _ hx=>hx) (fun _ _ _ hx=>hx)
theorem SR.putOther(h:SR P E Γ bs ow w a st){l:Nat}{o:Obj}(hT:¬cr bs ow l)(hE:E.T l\/E.w.heap.size<=l)(ho:∀c t fr,w.heap[l]? ≠some (.cells c t fr)):SR P E Γ bs ow (w.putObj l o) a st/\Γ.Le w Γ (w.putObj l o):=by
 have hg:∀b n,Γ b=some n->b≠l:=fun b n hb e=>by
  obtain⟨c,t,fr,h1,_⟩:=h.wi b n hb
  exact ho c t fr (e▸h1)
 have hle:Γ.Le w Γ (w.putObj l o):=fun b n hb _=>⟨n,hb,vah _,fun k _=>cw (World.putObj_heap_other (hg b n hb)) k⟩
 refine⟨h.world (fun b=>b=l) hle (fun b n hb=>?_) rfl rfl rfl (by simp) (fun b _ hb=>⟨World.putObj_heap_other hb,rfl⟩) (fun b hb=>hb▸hE) (fun i b hb e=>hT (.inl ⟨i,e▸hb⟩)) (fun b L hL e=>hT (.inr (by rw[<-e,hL];simp))),hle⟩
 obtain⟨c,t,fr,h1,h2⟩:=h.wi b n hb
 exact⟨c,t,fr,(World.putObj_heap_other (hg b n hb)).trans h1,h2⟩
theorem SR.rebase(h:SR P E Γ bs ow w a st):SR P ⟨E.GE,Γ,w,cr bs ow⟩ Γ bs ow w a st:=
 { h with
  bn:=fun i b hb=>.inl (.inl ⟨i,hb⟩)
  on:=fun b L hL=>⟨(h.on b L hL).1,.inl (.inr (by rw[hL];simp))⟩
  gx:=fun g cs hg=>by
   obtain⟨k1,k2,k3,k4⟩:=h.gnow hg
   refine⟨k1,fun hT=>?_,k4⟩
   rcases hT with⟨i,hi⟩|hT
   ·exact k2 i g hi rfl
   ·exact hT k3
  step:=.refl _ _ _ _}
theorem SR.touchE(h:SR P E Γ bs ow w a st){b:Nat}(hb:cr bs ow b):E.T b\/E.w.heap.size<=b:=by
 rcases hb with⟨i,hi⟩|hb
 ·exact h.bn i b hi
 ·cases hL:ow b with
  |none=>exact absurd hL hb
  |some L=>exact(h.on b L hL).2
theorem SR.unbase(h:SR P E Γ bs ow w a st){Γ':bw}{bs':bR}{ow':Nat->Option nM}{w':World}{a':Array Value}{st':aA}(h':SR P ⟨E.GE,Γ,w,cr bs ow⟩ Γ' bs' ow' w' a' st'):SR P E Γ' bs' ow' w' a' st':=by
 have hT:∀b,cr bs ow b\/w.heap.size<=b->E.T b\/E.w.heap.size<=b:=fun b hb=>hb.elim h.touchE fun hb=>.inr (vaI h.step.size hb)
 exact{h' with
  bn:=fun i b hb=>hT b (h'.bn i b hb)
  on:=fun b L hL=>⟨(h'.on b L hL).1,hT b (h'.on b L hL).2⟩
  gx:=h.gx
  step:={
   os:=h'.step.os.trans h.step.os
   tape:=h'.step.tape.trans h.step.tape
   output:=h'.step.output.trans h.step.output
   size:=vaI h.step.size h'.step.size
   keep:=fun b hb hTb=>by
    have hlt:b<w.heap.size:=vaJ hb h.step.size
    have hn:¬cr bs ow b:=fun hx=>(h.touchE hx).elim hTb fun hx=>absurd hx (vck.2 hb)
    obtain⟨k1,k2⟩:=h'.step.keep b hlt hn
    obtain⟨q1,q2⟩:=h.step.keep b hb hTb
    exact⟨k1.trans q1,k2.trans q2⟩
   le:=h.step.le.trans h'.step.le}}
theorem aU.on{m:Nat}{c:Code}{Q:Exit->aA->Prop}(hS:aU P E.GE m c Q st)(hm:m≠0)(h:SR P E Γ bs ow w a st)(hl:m % 1000<=bs.length)(ro:Option Nat)(ds:List Deferred):Tb ro P c (fun e a' w'=>a'.defers=ds/\∃Γ' bs' ow' st',SR P E Γ' bs' ow' w' a'.tmps st'/\Q e st'/\(∀i:Nat,i<m % 1000->bs'[i]? =bs[i]?)/\Γ.Le w Γ' w'/\w.heap.size<=w'.heap.size/\
   ∀b,b<w.heap.size->¬cr bs ow b->w'.heap[b]? =w.heap[b]?/\¬cr bs' ow' b) ⟨a,ds⟩ w:=by
 have hE:IP E.GE m ⟨E.GE,Γ,w,cr bs ow⟩:={
  ge:=rfl
  low:=fun b n hb=>h.lt_of_ghost hb
  nt:=fun h0=>absurd h0 hm
  gl:=h.base.gl}
 have hlen:(bs.take (m % 1000)).length=m % 1000:=by simp;omega
 refine uf (hS ro ⟨E.GE,Γ,w,cr bs ow⟩ (bs.take (m % 1000)) ⟨a,ds⟩ w hE hlen ⟨Γ,bs,ow,h.rebase,fun i hi=>?_⟩) fun e a' w' hq=>?_
 ·rw[vap (by omega)]
 obtain⟨hd,st',⟨Γ',bs',ow',h',hk⟩,hQ⟩:=hq
 refine⟨hd,Γ',bs',ow',st',h.unbase h',hQ,fun i hi=>?_,h'.step.le,h'.step.size,fun b hb hT=>⟨(h'.step.keep b hb hT).1,fun hx=>?_⟩⟩
 ·rw[hk i (by omega),vap hi]
 ·exact(h'.touchE hx).elim hT fun hx=>absurd hx (vck.2 hb)
theorem aU.wide{GE:List (Nat×List PVal)}{c:Code}{Q:Exit->aA->Prop}{st0:aA}(hS:aU P GE 0 c Q st0)(hB:T5 GE Γ w){ow:Nat->Option nM}{bs:bR}(h:SR P (V5 GE Γ w) Γ bs ow w a st0)(n:Nat)(ds:List Deferred):c.wpIn Fence.wide n P (fun e a' w'=>a'.defers=ds/\∃Γ' bs' ow' st',SR P (V5 GE Γ w) Γ' bs' ow' w' a'.tmps st'/\Q e st') ⟨a,ds⟩ w:=
 wpIn_wide.2 (wp_mono (hS none (V5 GE Γ w) [] ⟨a,ds⟩ w hB.good rfl ⟨Γ,bs,ow,h,fun i hi=>absurd hi (vaS _)⟩) fun e a' w' hq=>by
  obtain⟨hd,st',⟨Γ',bs',ow',h',_⟩,hQ⟩:=hq
  exact⟨hd,Γ',bs',ow',st',h',hQ⟩)
theorem aU.wideE{GE:List (Nat×List PVal)}{c:Code}{Q:Exit->aA->Prop}(hS:aU P GE 0 c Q st)(hE:IP GE 0 E)(h:SR P E Γ bs ow w a st)(n:Nat)(ds:List Deferred):c.wpIn Fence.wide n P (fun e a' w'=>a'.defers=ds/\∃Γ' bs' ow' st',SR P E Γ' bs' ow' w' a'.tmps st'/\Q e st') ⟨a,ds⟩ w:=
 wpIn_wide.2 (wp_mono (hS none E [] ⟨a,ds⟩ w hE rfl ⟨Γ,bs,ow,h,fun i hi=>absurd hi (vaS _)⟩) fun e a' w' hq=>by
  obtain⟨hd,st',⟨Γ',bs',ow',h',_⟩,hQ⟩:=hq
  exact⟨hd,Γ',bs',ow',st',h',hQ⟩)
theorem SR.allocO(h:SR P E Γ bs ow w a st)(o:Obj):SR P E Γ bs ow (w.alloc o) a st/\Γ.Le w Γ (w.alloc o):=by
 have hlt:∀b n,Γ b=some n->b<w.heap.size:=fun b n hb=>h.lt_of_ghost hb
 have hle:Γ.Le w Γ (w.alloc o):=fun b n hb _=>⟨n,hb,vah _,fun k _=>cw (eK w o (hlt b n hb)) k⟩
 refine⟨h.world (fun _=>False) hle (fun b n hb=>?_) rfl rfl rfl (by simp[World.size_alloc]) (fun b hb _=>⟨eK w o hb,rfl⟩) (fun _ hx=>hx.elim) (fun _ _ _ hx=>hx) (fun _ _ _ hx=>hx),hle⟩
 obtain⟨c,t,fr,h1,h2⟩:=h.wi b n hb
 exact⟨c,t,fr,(eK w o (hlt b n hb)).trans h1,h2⟩
theorem SR.forgetT(h:SR P E Γ bs ow w a st){tm:List PVal}(hf:NR st.tmps tm=tm):SR P E Γ bs ow w a {st with tmps:=tm}:=
 { h with
  sz:=by rw[h.sz,<-U6 (l:=st.tmps) (bs:=tm),hf]
  tm:=fun t p v hp hv=>by
   rw[<-hf]at hp
   rcases U5 hp with rfl|hp'
   ·exact .undef v
   ·exact h.tm t p v hp' hv}
theorem SR.back(h:SR P E Γ bs ow w a st)(ho:st.own=[]){Γ':bw}{bs':bR}{ow':Nat->Option nM}{w':World}{a':Array Value}{st':aA}{H':List aN}(h':SR P E Γ' bs' ow' w' a' st')(hle:Γ.Le w Γ' w')
  (hbs:∀i:Nat,i<bs.length->bs'[i]? =bs[i]?) (hH:dO H'.length st'.boxes H') (hl:H'.length=bs.length):
  ∃ow'',SR P E Γ' bs ow'' w' a {st with boxes:=H'}/\∀b,cr bs ow'' b->cr bs' ow' b:=by
 have hf:=h'.finish (H':=H') (v:=undef) (r:=.undef) (src:=fun k=>(0,k)) (ro:=[]) (.undef _) trivial hH (fun x hx=>by simp at hx) (fun x hx=>by simp at hx)
 have hb:bs'.take H'.length=bs:=by
  obtain⟨h1,_⟩:=oW hH
  have h2:H'.length<=bs'.length:=by rw[h'.bl];exact h1
  refine vbn fun i=>?_
  by_cases hi:i<H'.length
  ·rw[vap hi];exact hbs i (by omega)
  ·rw[vb9 (by omega),vat (by omega)]
 rw[hb]at hf
 refine⟨_,{hf with
  sz:=h.sz
  tm:=fun t p v hp hv=>(h.tm t p v hp hv).mono hle (.refl _)
  ot:=fun t k e he=>by simp only[ho]at he;simp at he},fun b hb=>?_⟩
 rcases hb with⟨i,hi⟩|hb
 ·exact .inl ⟨i,(hbs i (av hi)).trans hi⟩
 ·refine .inr fun e=>hb ?_
  simp[Hf,e]
end
section
variable{P:Program}{n:Nat}{a:Act}{w:World}{pj:Act->World->Prop}{Q:Exit->Act->World->Prop}
theorem qbq{o:Oper}(hd:gq o=true)(h:o.wp P a w pj Q):o.wpIn Fence.wide n P a w pj Q:=by
 refine⟨fun _ _=>trivial,?_⟩
 have hs:o.semAt (Fence.wide).round a.eval=execOp a.eval o:=Oper.semAt_eq _ _ _ fun c hc=>by unfold gq at hd;rw[hc]at hd;cases hd
 rw[hs]
 unfold Oper.wp at h
 generalize (execOp a.eval o).run P w=r at *
 have hdep:(Fence.wide).depth.isSome=true->1<=n:=fun h=>by simp[Fence.wide]at h
 cases r with
 | ok x w' =>
  cases x<;>simp only[Oper.upon]at h<;>simp only[Oper.uponIn]<;>first
   |exact h.elim
   |exact h
   |exact⟨hdep,callsIn_wide.2 h⟩
   | exact ⟨hdep,fun c cs _ => by
     obtain⟨v,w',r,s⟩:=h c cs
     exact⟨v,w',r,stepsIn_wide.2 s⟩⟩
 |halt x w'=>cases x<;>simp only[Oper.upon]at h<;>simp only[Oper.uponIn]<;>exact h
theorem qaM{o:Oper}{f:Operand}{args:Array Operand}{tys:Array TypeId}(ho:o.op=.call {callee:=.value f,args:=args,argTypes:=tys}){g:FuncId}{fs cs:Array Value}(hf:a.eval f=.func (.func g) fs cs)
  (hc:∀vs w,(callFunc g vs).run P w=.ok (.enter g vs) w) {R:Ending->World->Prop} (h:CallsIn Fence.wide (n - 1) P g (fs++args.map a.eval++cs) w R) (hR:∀e w',R e w'->∃v,e=.returned v/\pj (a.put o.dst v) w'):o.wpIn Fence.wide n P a w pj Q:=by
 refine⟨fun _ _=>trivial,?_⟩
 have hs:o.semAt (Fence.wide).round a.eval=execOp a.eval o:=Oper.semAt_eq _ _ _ fun c hc=>by rw[ho]at hc;cases hc
 have hrun:(execOp a.eval o).run P w=.ok (.enter g (fs++args.map a.eval++cs)) w:=by
  simp[execOp,ho,resolve,hf,Deferred.ofValue,invoke,hc]
 rw[hs,hrun,Oper.uponIn_enter]
 refine⟨fun h=>by simp[Fence.wide]at h,h.mono fun e w' hr=>?_⟩
 obtain⟨v,rfl,hx⟩:=hR e w' hr
 exact hx
theorem Zn{o:Oper}{f:Operand}{args:Array Operand}{tys:Array TypeId}(ho:o.op=.call {callee:=.value f,args:=args,argTypes:=tys}){l:Nat}(hf:a.eval f=.func (.yield l) #[] #[])
  {R:Ending->World->Prop} (h:YieldAt Fence.wide (n - 1) P l (args.map a.eval) w R) (hR:∀e w',R e w'->∃v,e=.returned v/\pj (a.put o.dst v) w'):o.wpIn Fence.wide n P a w pj Q:=by
 refine⟨fun _ _=>trivial,?_⟩
 have hs:o.semAt (Fence.wide).round a.eval=execOp a.eval o:=Oper.semAt_eq _ _ _ fun c hc=>by rw[ho]at hc;cases hc
 obtain⟨fn,tmps,assign,body,hy,hr⟩:=h
 have hrun:(execOp a.eval o).run P w=.ok (.round l fn tmps assign body) w:=by
  simp[execOp,ho,resolve,hf,Deferred.ofValue,invoke,hy]
 rw[hs,hrun,Oper.uponIn_round]
 refine⟨fun h=>by simp[Fence.wide]at h,hr.mono fun e w' hr=>?_⟩
 obtain⟨v,rfl,hx⟩:=hR e w' hr
 exact hx
theorem Ip{ops:Array Oper}{i:Nat}{rest:List Nat}{o:Oper}(ho:ops[i]? =some o)(hg:o.guard=none)(h:o.wpIn Fence.wide n P a w (wpOpsIn Fence.wide n P ops Q rest) Q):wpOpsIn Fence.wide n P ops Q (i::rest) a w:=by
 unfold wpOpsIn
 simp only[ho,Region.wanted,hg,if_true]
 exact h
theorem Gd{E:uy}{A:List Nat}{ops:Array Oper}{K:aA->Prop}{rest:List Nat}{ds:List Deferred}
  (hK:∀Γ bs ow a w st,SR P E Γ bs ow w a st->K st->wpOpsIn Fence.wide n P ops Q rest ⟨a,ds⟩ w):
  ∀(L:List Oper) (is:List Nat) (Γ:bw) (bs:bR) (ow:Nat->Option nM) (a:Array Value) (w:World) (st:aA),is.map (fun i=>ops[i]?)=L.map some->
   (∀o∈L,o.guard=none/\gq o=true/\aS o.op=false)->SR P E Γ bs ow w a st->dJ P E.GE A ops K L 0 st->wpOpsIn Fence.wide n P ops Q (is++rest) ⟨a,ds⟩ w
 |[],[],Γ,bs,ow,a,w,st,_,_,h,hp=>hK Γ bs ow a w st h hp
 |o::L,i::is,Γ,bs,ow,a,w,st,hi,hg,h,hp=>by
  obtain⟨g1,g2,g3⟩:=hg o (by simp)
  unfold dJ at hp
  simp only[g1]at hp
  simp only[vay,vbv]at hi
  refine Ip hi.1 g1 (qbq g2 (Oper.wp_mono (fun a' w' hA=>?_) (Kt (a:=⟨a,ds⟩) h (fun hm=>by rw[g3]at hm;cases hm) hp Q)))
  obtain⟨hd,Γ',bs',ow',st',h1,h2,_⟩:=hA
  obtain⟨a1,ds1⟩:=a'
  simp only at hd h1
  subst hd
  refine Gd (A:=A) hK L is Γ' bs' ow' a1 w' st' hi.2 (fun o ho=>hg o (va0 _ ho)) h1 ?_
  rw[g3]at h2
  exact h2
end
def pk:Code->Array Oper
 |.region _ ops _=>ops
 |_=>#[]
def qjs:Code->Nat
 |.region id _ _=>id
 |_=>0
def Z5(c:Code)(i:Nat):Oper:=(pk c)[i]?.getD default
def qg6(o:Oper):Array TypeId:=match o.op with
 |.call c=>c.argTypes
 |_=>#[]
def QP(o:Oper):Bool:=o.guard.isNone&&gq o&&!aS o.op
theorem LT{L:List Oper}(h:L.all QP=true):∀o∈L,o.guard=none/\gq o=true/\aS o.op=false:=fun o ho=>by
 have:=vax.1 h o ho
 simpa[QP,and_assoc]using this
theorem tM{P:Program}{GE:List (Nat×List PVal)}{A:List Nat}{ops:Array Oper}{K K':aA->Prop}(hK:∀st,K st->K' st):∀(L:List Oper) (id:Nat) (st:aA),dJ P GE A ops K L id st->dJ P GE A ops K' L id st
 |[],_,st,h=>hK st h
 | o :: L,id,st,h => by
  unfold dJ at h ⊢
  split at h
  ·exact Fl (fun st hx=>tM hK L _ st hx) h
  ·split at h
   ·exact⟨fun hx=>Fl (fun st hx=>tM hK L _ st hx) (h.1 hx),fun hx=>tM hK L _ _ (h.2 hx)⟩
   ·exact h
theorem qkV{P:Program}{m:Nat}{sc:List It}{F:Prop}{st st0:aA}(h:PS sc F)(he:F=qb1 m sc st (fun _ st'=>FG st' st0)):vU P m st st0:=by
 obtain⟨_,st',hw,hf⟩:=U7 (P:=P) (Eq.mp he h)
 exact hw.trans hf.weak
theorem aU.thenW{P:Program}{GE:List (Nat×List PVal)}{m:Nat}{c:Code}{e:Exit}{st0 st1 st2:aA}(h:aU P GE m c (EX e st1) st0)(hw:vU P m st1 st2):aU P GE m c (EX e st2) st0:=
 h.mono fun e' st' hx=>⟨st2,hx.2▸hw,hx.1,rfl⟩
theorem Kj{P:Program}{GE:List (Nat×List PVal)}{A:List Nat}{ops:Array Oper}{L:List Oper}{st st0:aA}{sc:List It}{F:Prop}(h:PS sc F)(he:F=PZ P GE A ops (fun _ st=>FG st st0) L 0 0 sc st):dJ P GE A ops (fun st=>FG st st0) L 0 st:=
 tM (fun st ⟨_,hx⟩=>hx) L 0 st (Cl L 0 0 sc st (Eq.mp he h))
theorem FG.sr{P:Program}{E:uy}{Γ:bw}{bs:bR}{ow:Nat->Option nM}{w:World}{a:Array Value}{st st0:aA}(h:SR P E Γ bs ow w a st)(hf:FG st st0):∃Γ' bs' ow',SR P E Γ' bs' ow' w a st0:=by
 obtain⟨Γ',bs',ow',h',_⟩:=(hf.weak (P:=P) (m:=0)) E [] ⟨a,[]⟩ w rfl ⟨Γ,bs,ow,h,fun i hi=>absurd hi (vaS _)⟩
 exact⟨Γ',bs',ow',h'⟩
structure Yd(P:Program)(GE:List (Nat×List PVal))(l:Nat){S α:Type}(c:α->List PVal)(step:S->α->Option (Bool×S))(J:Bool->S->bw->World->Prop):Prop where
 base:∀b s Γ w,J b s Γ w->T5 GE Γ w
 side:∀b s Γ w,J b s Γ w->∀Γ' bs' ow' w' a' st',SR P (V5 GE Γ w) Γ' bs' ow' w' a' st'->J b s Γ' w'
 yield:∀s Γ w x v n r,J true s Γ w->VR Γ [] w (.agg (c x)) v->step s x=some r->YieldAt Fence.wide n P l #[v] w fun e w'=>∃Γ',e=.returned (.bool r.1)/\Γ.Le w Γ' w'/\J r.1 r.2 Γ' w'
section
variable{S:Type}(step:S->aa->Option (Bool×S))
mutual
def VY:aa->S->Option (Bool×S)
 |⟨o,n,k,ks⟩,s=>(step s ⟨o,n,k,ks⟩).bind fun r=>match r.1 with
  |false=>some (false,r.2)
  |true=>if ks.length<4611686018427387904 then VX ks r.2 else none
def VX:List aa->S->Option (Bool×S)
 |[],s=>some (true,s)
 |p::ps,s=>(VY p s).bind fun r=>match r.1 with
  |false=>some (false,r.2)
  |true=>VX ps r.2
end
theorem qfx(p:aa)(s:S):VY step p s=(step s p).bind fun r=>match r.1 with
  |false=>some (false,r.2)
  |true=>if p.Kids.length<4611686018427387904 then VX step p.Kids r.2 else none:=by
 obtain⟨o,n,k,ks⟩:=p
 rw[VY];rfl
end
abbrev fV:Nat:=163
noncomputable def bV:Code:=f163.body.getD .skip
abbrev qkr:Code:=gz bV [false]
abbrev qfu:Code:=gz bV [true,false,false]
abbrev qk0:Code:=gz bV [true,false,true,false,false]
abbrev qk1:Code:=gz bV [true,true,false,false]
abbrev vL:Code:=gz bV [true,true,false,true,false,false]
abbrev qk2:Code:=gz bV [true,true,false,true,false,false,false]
abbrev qks:Code:=gz bV [true,true,false,true,false,false,true,true,false,false,false]
abbrev qfv:Code:=gz bV [true,true,false,true,false,false,true,true,false,false,true,false]
abbrev qk3:Code:=gz bV [true,true,false,true,false,false,true,true,false,false,true,true,false,false]
abbrev qk4:Code:=gz bV [true,true,false,true,false,false,true,true,true]
abbrev qk5:Code:=gz bV [true,true,true,false]
theorem qia:bV=.seq qkr (.seq (.seq qfu (.cond (.tmp 10) (.seq qk0 .ret) .skip)) (.seq (.seq qk1 (.block 0 (.loop vL))) (.seq qk5 .ret))):=by kernel_rfl
theorem qiR:vL=.seq qk2 (.seq (.cond (.tmp 15) .skip (.exit 0)) (.seq (.block 1 (.seq qks (.seq qfv (.cond (.tmp 21) (.seq qk3 .ret) .skip)))) qk4)):=by kernel_rfl
abbrev yv(l:Nat):PVal:=.val (.func (.yield l) #[] #[])
abbrev V7(p:aa):List PVal:=[.int .i64 p.Op,.str p.Name,.int .i64 p.N,sl ac p.Kids]
theorem qkP(p:aa):iy 0 (V7 p):=by have:=ah p;rwa[aJ]at this
abbrev qkt(p:aa)(l:Nat):aA:=be 23 [(1,yv l),(2,.eptr (ac p))] [.dead] []
abbrev qf4(l:Nat)(ks:List aa)(i:Int):aA:=be 23 [(1,yv l),(12,sl ac ks),(13,.int .i64 (ks.length:Int)),(14,.int .i64 i)] [.dead] []
abbrev qku(l:Nat)(ks:List aa)(i:Int)(x:aa):aA:=be 23 [(1,yv l),(6,.eptr (ac x)),(12,sl ac ks),(13,.int .i64 (ks.length:Int)),(14,.int .i64 i)] [.dead,.dead] []
theorem qlT(p:aa)(l:Nat):aU Pg GE 0 qkr (EX .normal (qkt p l)) (be 23 [(0,.agg (ac p)),(1,yv l)] [] []):=by
 have z:=sx (cj p)<|eF .normal (be 23 [(1,yv l),(2,.bptr 0 0)] [.cells (V7 p) []] [])
 have h1:aU Pg GE 0 qkr (EX .normal (be 23 [(1,yv l),(2,.bptr 0 0)] [.cells (V7 p) []] [])) (be 23 [(0,.agg (ac p)),(1,yv l)] [] []):=nX (A:=[]) mixed z (by kernel_rfl)
 have z2:=qf2 0 [V7 p] [1,2] [] (qkS (m:=0) (b:=0) rfl (V7 p) rfl) (qkT 0 (qkP p)) (qkU (l:=V7 p) (r:=V7 p) rfl)<|en (fr (be 23 [(1,yv l),(2,.eptr (V7 p))] [.dead] []))
 have h2:=h1.thenW (st2:=be 23 [(1,yv l),(2,.eptr (V7 p))] [.dead] []) (qkV z2 (by kernel_rfl))
 unfold qkt
 rw[aJ]
 rw[aJ]at h2
 exact h2
theorem qlU(p:aa)(l:Nat):dJ Pg GE [] (pk qfu) (fun st=>FG st (be 23 [(1,yv l),(2,.eptr (ac p)),(7,yv l),(8,.agg (ac p))] [.dead] [])) ((pk qfu).toList.take 2) 0 (qkt p l):=by
 have z:=sv (bh p)<|en (fr (be 23 [(1,yv l),(2,.eptr (ac p)),(7,yv l),(8,.agg (ac p))] [.dead] []))
 exact Kj z (by kernel_rfl)
theorem qkv(p:aa)(l:Nat)(b:Bool):dJ Pg GE [] (pk qfu) (fun st=>FG st (be 23 [(1,yv l),(2,.eptr (ac p)),(10,.bool (!b))] [.dead] [])) ((pk qfu).toList.drop 3) 0 (be 23 [(1,yv l),(2,.eptr (ac p)),(7,yv l),(8,.agg (ac p)),(9,.bool b)] [.dead] []):=by
 have z:=en (fr (be 23 [(1,yv l),(2,.eptr (ac p)),(10,.bool (!b))] [.dead] []))
 exact Kj z (by kernel_rfl)
abbrev vE(H:List aN)(b:Bool):aA:=be 23 [(4,.bool b)] H []
theorem qlV(p:aa)(l:Nat):aU Pg GE 0 (.seq qk0 .ret) (EX .ret (vE [.dead] false)) (be 23 [(1,yv l),(2,.eptr (ac p)),(10,.bool true)] [.dead] []):=by
 have z:=eF .ret (vE [.dead] false)
 exact nX (A:=[]) mixed z (by kernel_rfl)
theorem qlW(p:aa)(l:Nat):aU Pg GE 0 qk1 (EX .normal (qf4 l p.Kids 0)) (be 23 [(1,yv l),(2,.eptr (ac p)),(10,.bool false)] [.dead] []):=by
 have z:=sv (bA p)<|sv (bC p)<|cm (bL.ln p.Kids)<|eF .normal (qf4 l p.Kids 0)
 exact nX (A:=[]) mixed z (by kernel_rfl)
abbrev qhy(l:Nat)(ks:List aa)(i:Int):aA:=be 23 [(1,yv l),(12,sl ac ks),(13,.int .i64 (ks.length:Int)),(14,.int .i64 i),(15,.bool (decide (i<(ks.length:Int))))] [.dead] []
theorem qlX(l:Nat)(ks:List aa)(i:Int):aU Pg GE 0 qk2 (EX .normal (qhy l ks i)) (qf4 l ks i):=by
 have z:=eF .normal (qhy l ks i)
 exact nX (A:=[]) mixed z (by kernel_rfl)
theorem qlY(l:Nat)(ks:List aa)(i:Int)(x:aa)(hx:cz ks i=some x):aU Pg GE 0 qks (EX .normal (qku l ks i x)) (qhy l ks i):=by
 have z:=sv (bL.ia (k:=.i64) hx)<|sv (bh x)<|sx hO<|sx (cj x)<|eF .normal (be 23 [(1,yv l),(6,.bptr 1 0),(12,sl ac ks),(13,.int .i64 (ks.length:Int)),(14,.int .i64 i)] [.dead,.cells (V7 x) []] [])
 have h1:aU Pg GE 0 qks (EX .normal (be 23 [(1,yv l),(6,.bptr 1 0),(12,sl ac ks),(13,.int .i64 (ks.length:Int)),(14,.int .i64 i)] [.dead,.cells (V7 x) []] [])) (qhy l ks i):=nX (A:=[]) mixed z (by kernel_rfl)
 have z2:=qf2 1 [V7 x] [1,6,12,13,14] [] (qkS (m:=0) (b:=1) rfl (V7 x) rfl) (qkT 1 (qkP x)) (qkU (l:=V7 x) (r:=V7 x) rfl)<|sf (E6 1 (p:=sl ac ks) (aj ah ks))<|en (fr (be 23 [(1,yv l),(6,.eptr (V7 x)),(12,sl ac ks),(13,.int .i64 (ks.length:Int)),(14,.int .i64 i)] [.dead,.dead] []))
 have h2:=h1.thenW (st2:=be 23 [(1,yv l),(6,.eptr (V7 x)),(12,sl ac ks),(13,.int .i64 (ks.length:Int)),(14,.int .i64 i)] [.dead,.dead] []) (qkV z2 (by kernel_rfl))
 unfold qku
 rw[aJ]
 exact h2
theorem qlZ(l:Nat)(ks:List aa)(i:Int)(x:aa):dJ Pg GE [] (pk qfv) (fun st=>FG st (be 23 [(1,yv l),(12,sl ac ks),(13,.int .i64 (ks.length:Int)),(14,.int .i64 i),(18,.agg (ac x)),(19,yv l)] [.dead,.dead] [])) ((pk qfv).toList.take 2) 0 (qku l ks i x):=by
 have z:=sv (bh x)<|en (fr (be 23 [(1,yv l),(12,sl ac ks),(13,.int .i64 (ks.length:Int)),(14,.int .i64 i),(18,.agg (ac x)),(19,yv l)] [.dead,.dead] []))
 exact Kj z (by kernel_rfl)
abbrev qk6(l:Nat)(ks:List aa)(i:Int)(x:aa)(b:Bool):aA:=be 23 [(1,yv l),(12,sl ac ks),(13,.int .i64 (ks.length:Int)),(14,.int .i64 i),(18,.agg (ac x)),(19,yv l),(20,.bool b)] [.dead,.dead] []
abbrev qiU(l:Nat)(ks:List aa)(i:Int)(b:Bool):aA:=be 23 [(1,yv l),(12,sl ac ks),(13,.int .i64 (ks.length:Int)),(14,.int .i64 i),(21,.bool (!b))] [.dead,.dead] []
theorem qkw(l:Nat)(ks:List aa)(i:Int)(x:aa)(b:Bool):dJ Pg GE [] (pk qfv) (fun st=>FG st (qiU l ks i b)) ((pk qfv).toList.drop 3) 0 (qk6 l ks i x b):=by
 have z:=en (fr (qiU l ks i b))
 exact Kj z (by kernel_rfl)
theorem ql0(l:Nat)(ks:List aa)(i:Int):aU Pg GE 0 (.seq qk3 .ret) (EX .ret (vE [.dead,.dead] false)) (qiU l ks i false):=by
 have z:=eF .ret (vE [.dead,.dead] false)
 exact nX (A:=[]) mixed z (by kernel_rfl)
theorem ql1(l:Nat)(ks:List aa)(i:Int):aU Pg GE 0 qk4 (EX .normal (⟨(qf4 l ks (aR (i+1))).tmps,[.dead,.dead],[]⟩)) (qiU l ks i true):=by
 have z:=eF .normal (⟨(qf4 l ks (aR (i+1))).tmps,[.dead,.dead],[]⟩)
 exact nX (A:=[]) mixed z (by kernel_rfl)
theorem ql2(l:Nat)(ks:List aa)(i:Int):aU Pg GE 0 (.seq qk5 .ret) (EX .ret (vE [.dead] true)) (qhy l ks i):=by
 have z:=eF .ret (vE [.dead] true)
 exact nX (A:=[]) mixed z (by kernel_rfl)
theorem dB{n:Int}(h1: -9223372036854775808<=n)(h2:n<9223372036854775808):aR n=n:=qha h1 h2
theorem bo{α:Type}(l:List α)(i:Nat)(h:i<l.length):cz l (i:Int)=some l[i]:=by
 unfold cz
 rw[vad (by omega)]
 simp[h]
theorem qcQ(l:ag)(i:Nat)(h:i<l.length):vZ l (i:Int)=some ((l[i].toNat:Int)):=by
 unfold vZ;rw[bo l i h];rfl
theorem JV{α:Type}(c:α)(l:List α):cz (c::l) 0=some c:=by
 have:=bo (c::l) 0 (by simp)
 simpa using this
theorem Zj{α:Type}(l:List α)(i:Nat)(h:i<=l.length):N2 l none (some (i:Int))=some (l.take i):=by
 simp[N2,bd,h]
theorem Ft{α:Type}(l:List α)(i:Nat)(h:i<=l.length):N2 l (some (i:Int)) none=some (l.drop i):=by
 simp[N2,bd,h]
theorem cN{α:Type}{l r:List α}(h:l.length+r.length<=1073741824):app l r=some (l++r):=vad h
theorem PN{l r:ag}(h:l.length+r.length<=4611686018427387904):qgH l r=some (l++r):=vad h
theorem ql{σ X:Type}{body:σ->Option (σ⊕X)}{s s':σ}(h:body s=some (.inl s')):loop body s=loop body s':=by rw[km,h]
theorem jV{σ X:Type}{body:σ->Option (σ⊕X)}{s:σ}{x:X}(h:body s=some (.inr x)):loop body s=some x:=by rw[km,h]
def mV{α σ X:Type}(f:Nat->α->σ->σ⊕X)(e:σ->X):List α->Nat->σ->X
 |[],_,s=>e s
 |x::r,i,s=>match f i x s with
  |.inl s'=>mV f e r (i+1) s'
  |.inr y=>y
theorem kP{α σ τ X:Type}(l:List α)(hl:l.length<9223372036854775808)(mk:Int->σ->τ)(body:τ->Option (τ⊕X))(I:Nat->σ->Prop)(f:Nat->α->σ->σ⊕X)(e:σ->X)
  (hin:∀(i:Nat) (h:i<l.length) s,I i s->body (mk i s)=some (match f i l[i] s with|.inl s'=>.inl (mk (aR ((i:Int)+1)) s')|.inr y=>.inr y)/\∀s',f i l[i] s=.inl s'->I (i+1) s')
  (hend:∀s,I l.length s->body (mk l.length s)=some (.inr (e s))):∀(i:Nat) (s:σ),i<=l.length->I i s->loop body (mk i s)=some (mV f e (l.drop i) i s):=by
 intro i s hi hI
 obtain⟨k,hk⟩:∃k,k+i=l.length:=⟨l.length - i,by omega⟩
 induction k generalizing i s with
 |zero=>
  have:i=l.length:=by omega
  subst this
  rw[km,hend s hI,vb1]
  rfl
 | succ k ih =>
  have hlt:i<l.length:=by omega
  obtain⟨h1,h2⟩:=hin i hlt s hI
  rw[km,h1,va8 hlt]
  unfold mV
  cases hf:f i l[i] s with
  |inl s'=>
   simp only
   rw[dB (by omega) (by omega)]
   have:=ih (i+1) s' (by omega) (h2 s' hf) (by omega)
   rw[show((i:Int)+1)=((i+1:Nat):Int) by omega]
   exact this
  |inr y=>rfl
theorem XR{α X:Type}(p:α->Bool)(y e:X):∀(l:List α) (i:Nat),mV (fun _ x (_:Unit)=>if p x=true then Sum.inr y else .inl ()) (fun _=>e) l i ()=if l.any p=true then y else e
 |[],i=>by simp[mV]
 | x :: l,i => by
  have ih:=XR p y e l (i+1)
  unfold mV
  by_cases h:p x=true
  ·simp[h]
  ·simp only[h,if_false,ih,List.any_cons,Bool.false_or,va6]
theorem J4{α X:Type}(l:List α)(hl:l.length<9223372036854775808)(body:Int->Option (Int⊕X))(p:α->Bool)(y e:X)
  (hin:∀(i:Nat) (h:i<l.length),body i=some (if p l[i]=true then .inr y else .inl (aR ((i:Int)+1)))) (hend:body l.length=some (.inr e)) (i:Nat) (hi:i<=l.length):
  loop body (i:Int)=some (if(l.drop i).any p=true then y else e):=by
 have:=kP l hl (fun i (_:Unit)=>i) body (fun _ _=>True) (fun _ x _=>if p x=true then Sum.inr y else .inl ()) (fun _=>e) (fun i h s _=>⟨?_,fun _ _=>trivial⟩) (fun s _=>hend) i () hi trivial
 ·rw[this,XR]
 ·rw[hin i h]
  by_cases hp:p l[i]=true<;>simp[hp]
theorem TM{α X:Type}(p:α->Bool)(y:Nat->X)(e:X):∀(l:List α) (i:Nat),mV (fun j x (_:Unit)=>if p x=true then Sum.inr (y j)else .inl ()) (fun _=>e) l i ()=match l.findIdx? p with|some j=>y (i+j)|none=>e
 |[],i=>by simp[mV]
 | x :: l,i => by
  have ih:=TM p y e l (i+1)
  unfold mV
  rw[vcQ]
  by_cases h:p x=true
  ·simp[h]
  ·simp only[h,if_false,ih,va6]
   cases l.findIdx? p with
   |none=>rfl
   |some j=>simp only[vam];congr 1;omega
theorem LK{α X:Type}(l:List α)(hl:l.length<9223372036854775808)(body:Int->Option (Int⊕X))(p:α->Bool)(y:Nat->X)(e:X)
  (hin:∀(i:Nat) (h:i<l.length),body i=some (if p l[i]=true then .inr (y i)else .inl (aR ((i:Int)+1)))) (hend:body l.length=some (.inr e)):
  loop body (0:Int)=some (match l.findIdx? p with|some j=>y j|none=>e):=by
 have:=kP l hl (fun i (_:Unit)=>i) body (fun _ _=>True) (fun j x _=>if p x=true then Sum.inr (y j)else .inl ()) (fun _=>e) (fun i h s _=>⟨?_,fun _ _=>trivial⟩) (fun s _=>hend) 0 () (vaN _) trivial
 ·simp only[Int.ofNat_zero,vaV]at this
  have this2:=TM p y e l 0
  simp only[vaK]at this2
  rw[<-this2]
  exact this
 ·rw[hin i h]
  by_cases hp:p l[i]=true<;>simp[hp]
def VF{S:Type}(J:Bool->S->bw->World->Prop)(Γ0:bw)(w0:World)(b:Bool)(s:S)(st:aA)(a:Array Value)(w:World):Prop:=∃Γ,J b s Γ w/\Γ0.Le w0 Γ w/\∃E bs ow,SR Pg E Γ bs ow w a st
structure Dd(st:aA)(k:Nat):Prop where
 c:iy 0 st.tmps
 b:st.boxes=List.replicate k .dead
 o:st.own=[]
structure R4(c:Code):Prop where
 eq:c=.region (qjs c) (pk c) false
 rg:List.range (pk c).size=[0,1]++2::([3]++[])
 p1:[0,1].map (fun i=>(pk c)[i]?)=((pk c).toList.take 2).map some
 p2:((pk c).toList.take 2).all QP=true
 o:(pk c)[2]? =some (Z5 c 2)
 g:(Z5 c 2).guard=none
 q1:[3].map (fun i=>(pk c)[i]?)=((pk c).toList.drop 3).map some
 q2:((pk c).toList.drop 3).all QP=true
theorem qkl:R4 qfu:=⟨by kernel_rfl,by kernel_rfl,by kernel_rfl,by kernel_rfl,by kernel_rfl,by kernel_rfl,by kernel_rfl,by kernel_rfl⟩
theorem qkm:R4 qfv:=⟨by kernel_rfl,by kernel_rfl,by kernel_rfl,by kernel_rfl,by kernel_rfl,by kernel_rfl,by kernel_rfl,by kernel_rfl⟩
theorem qg7:(Z5 qfu 2).op=.call {callee:=.value (.tmp 7),args:=#[.tmp 8],argTypes:=qg6 (Z5 qfu 2)}:=by kernel_rfl
theorem qiS:(Z5 qfu 2).dst=some 9:=by kernel_rfl
theorem qg8:(Z5 qfv 2).op=.call {callee:=.value (.func fV),args:=#[.tmp 18,.tmp 19],argTypes:=qg6 (Z5 qfv 2)}:=by kernel_rfl
theorem qiT:(Z5 qfv 2).dst=some 20:=by kernel_rfl
section
variable{S:Type}{step:S->aa->Option (Bool×S)}{J:Bool->S->bw->World->Prop}{l:Nat}{Γ0:bw}{w0:World}{b:Bool}{s:S}{st0 st1 stA stB:aA}{k kA kB:Nat}{a:Array Value}{w:World}{n:Nat}{ds:List Deferred}
theorem VF.again(hY:Yd Pg GE l ac step J)(hD:Dd st0 k)(h:VF J Γ0 w0 b s st0 a w):∃Γ,J b s Γ w/\Γ0.Le w0 Γ w/\SR Pg (V5 GE Γ w) Γ (List.replicate k none) (fun _=>none) w a st0:=by
 obtain⟨Γ,hJ,hle,E,bs,ow,hS⟩:=h
 obtain⟨tm,H,own⟩:=st0
 have hb:H=_:=hD.b
 have ho:own=[]:=hD.o
 subst hb;subst ho
 exact⟨Γ,hJ,hle,hS.again hD.c (hY.base _ _ _ _ hJ) (.refl _ _) k⟩
theorem VF.redo(hY:Yd Pg GE l ac step J)(hD:Dd st0 k)(h:VF J Γ0 w0 b s st0 a w)(k':Nat):VF J Γ0 w0 b s ⟨st0.tmps,List.replicate k' .dead,[]⟩ a w:=by
 obtain⟨Γ,hJ,hle,hS⟩:=h.again hY hD
 exact⟨Γ,hJ,hle,_,_,_,hS.again hD.c (hY.base _ _ _ _ hJ) (.refl _ _) k'⟩
theorem VF.piece(hY:Yd Pg GE l ac step J){c:Code}{e:Exit}(hS:aU Pg GE 0 c (EX e st1) st0)(hD:Dd st0 k)(h:VF J Γ0 w0 b s st0 a w):c.wpIn Fence.wide n Pg (fun e' a' w'=>e'=e/\a'.defers=ds/\VF J Γ0 w0 b s st1 a'.tmps w') ⟨a,ds⟩ w:=by
 obtain⟨Γ,hJ,hle,hR⟩:=h.again hY hD
 refine wpIn_mono (hS.wide (hY.base _ _ _ _ hJ) hR n ds) ?_
 rintro e' a' w' ⟨hd,Γ',bs',ow',st',h',rfl,rfl⟩
 exact⟨rfl,hd,Γ',hY.side _ _ _ _ hJ _ _ _ _ _ _ h',hle.trans h'.step.le,_,_,_,h'⟩
theorem VF.reg(hY:Yd Pg GE l ac step J){c:Code}(hR:R4 c)(hD:Dd st0 k)(hDB:Dd stB kB)(hpre:dJ Pg GE [] (pk c) (fun st=>FG st stA) ((pk c).toList.take 2) 0 st0)(hsuf:dJ Pg GE [] (pk c) (fun st=>FG st st1) ((pk c).toList.drop 3) 0 stB){r:Bool×S}
  (hcall:∀a w (pj:Act->World->Prop) (Q:Exit->Act->World->Prop),VF J Γ0 w0 b s stA a w->(∀a' w',VF J Γ0 w0 r.1 r.2 stB a' w'->pj ⟨a',ds⟩ w')->(Z5 c 2).wpIn Fence.wide n Pg ⟨a,ds⟩ w pj Q)
  (h:VF J Γ0 w0 b s st0 a w):c.wpIn Fence.wide n Pg (fun e' a' w'=>e'=.normal/\a'.defers=ds/\VF J Γ0 w0 r.1 r.2 st1 a'.tmps w') ⟨a,ds⟩ w:=by
 have key:(Code.region (qjs c) (pk c) false).wpIn Fence.wide n Pg (fun e' a' w'=>e'=.normal/\a'.defers=ds/\VF J Γ0 w0 r.1 r.2 st1 a'.tmps w') ⟨a,ds⟩ w:=by
  refine wpIn_region ?_
  rw[hR.rg]
  obtain⟨Γ,hJ,hle,hS⟩:=h.again hY hD
  refine Gd (A:=[]) (K:=fun st=>FG st stA) (fun Γ' bs' ow' a' w' st hS' hK=>?_) _ _ Γ _ _ a w st0 hR.p1 (LT hR.p2) hS hpre
  obtain⟨Γ2,bs2,ow2,hS2⟩:=FG.sr hS' hK
  refine Ip hR.o hR.g (hcall a' w' _ _ ⟨Γ2,hY.side _ _ _ _ hJ _ _ _ _ _ _ hS2,hle.trans hS2.step.le,_,_,_,hS2⟩ fun a3 w3 h3=>?_)
  obtain⟨Γ3,hJ3,hle3,hS3⟩:=h3.again hY hDB
  refine Gd (A:=[]) (K:=fun st=>FG st st1) (fun Γ' bs' ow' a' w' st hS' hK=>?_) _ _ Γ3 _ _ a3 w3 stB hR.q1 (LT hR.q2) hS3 hsuf
  obtain⟨Γ4,bs4,ow4,hS4⟩:=FG.sr hS' hK
  exact⟨rfl,rfl,Γ4,hY.side _ _ _ _ hJ3 _ _ _ _ _ _ hS4,hle3.trans hS4.step.le,_,_,_,hS4⟩
 rw[<-hR.eq]at key
 exact key
theorem VF.ev(h:VF J Γ0 w0 b s st0 a w){t:Nat}{x:Bool}(ht:st0.tmps.getD t .undef=.bool x):(Act.mk a ds).eval (.tmp t)=.bool x:=by
 obtain⟨Γ,hJ,hle,E,bs,ow,hS⟩:=h
 have h1:=hS.opv ds (.tmp t)
 have e1:opv E.GE st0.tmps (.tmp t)=.bool x:=ht
 rw[e1]at h1
 generalize (Act.mk a ds).eval (.tmp t)=v at h1
 cases h1
 rfl
theorem VF.put(hY:Yd Pg GE l ac step J)(hD:Dd stA kA){Γ Γ':bw}{w':World}{E:uy}{bs:bR}{ow:Nat->Option nM}(hS:SR Pg E Γ bs ow w a stA)(hle:Γ0.Le w0 Γ w)(hle':Γ.Le w Γ' w'){r:Bool×S}(hJ':J r.1 r.2 Γ' w'){d:Nat}(hB:stB=⟨stA.tmps.set d (.bool r.1),List.replicate kA .dead,[]⟩):VF J Γ0 w0 r.1 r.2 stB (a.setIfInBounds d (.bool r.1)) w':=by
 have hS':=(hS.again hD.c (hY.base _ _ _ _ hJ') hle' kA).set (d:=d) (p:=.bool r.1) (v:=.bool r.1) (.bool _)
 exact⟨Γ',hJ',hle.trans hle',_,_,_,hB▸hS'⟩
theorem VF.yieldc(hY:Yd Pg GE l ac step J)(hD:Dd stA kA){p:aa}{r:Bool×S}(hr:step s p=some r){o:Oper}{f x d:Nat}{tys:Array TypeId}(h7:stA.tmps.getD f .undef=yv l)(h8:stA.tmps.getD x .undef=.agg (ac p))
  (ho:o.op=.call {callee:=.value (.tmp f),args:=#[.tmp x],argTypes:=tys}) (hd:o.dst=some d) (hB:stB=⟨stA.tmps.set d (.bool r.1),List.replicate kA .dead,[]⟩)
  {pj:Act->World->Prop} {Q:Exit->Act->World->Prop} (h:VF J Γ0 w0 true s stA a w) (hn:∀a' w',VF J Γ0 w0 r.1 r.2 stB a' w'->pj ⟨a',ds⟩ w'):o.wpIn Fence.wide n Pg ⟨a,ds⟩ w pj Q:=by
 obtain⟨Γ,hJ,hle,hS⟩:=h.again hY hD
 have h1:=hS.opv ds (.tmp f)
 have h2:=hS.opv ds (.tmp x)
 have e1:opv (V5 GE Γ w).GE stA.tmps (.tmp f)=yv l:=h7
 have e2:opv (V5 GE Γ w).GE stA.tmps (.tmp x)=.agg (ac p):=h8
 rw[e1]at h1;rw[e2]at h2
 have hev:(Act.mk a ds).eval (.tmp f)=.func (.yield l) #[] #[]:=by
  generalize (Act.mk a ds).eval (.tmp f)=v at h1
  cases h1;rfl
 refine Zn ho hev (R:=fun e w'=>∃Γ',e=.returned (.bool r.1)/\Γ.Le w Γ' w'/\J r.1 r.2 Γ' w') ?_ ?_
 ·have:=hY.yield s Γ w p _ (n - 1) r hJ (h2.clo (by simp only[PVal.cl];exact ah p)) hr
  simpa using this
 ·rintro e w' ⟨Γ',rfl,hle',hJ'⟩
  refine⟨_,rfl,?_⟩
  rw[hd]
  exact hn _ _ (VF.put hY hD hS hle hle' hJ' hB)
def qhX(step:S->aa->Option (Bool×S))(J:Bool->S->bw->World->Prop)(l:Nat)(p:aa):Prop:=∀s r Γ w v n,VY step p s=some r->J true s Γ w->VR Γ [] w (.agg (ac p)) v->
 CallsIn Fence.wide n Pg fV #[v,.func (.yield l) #[] #[]] w fun e w'=>∃Γ',e=.returned (.bool r.1)/\Γ.Le w Γ' w'/\J r.1 r.2 Γ' w'
theorem VF.visitc(hY:Yd Pg GE l ac step J)(hD:Dd stA kA){p:aa}(hp:qhX step J l p){r:Bool×S}(hr:VY step p s=some r){o:Oper}{x y d:Nat}{tys:Array TypeId}(h7:stA.tmps.getD y .undef=yv l)(h8:stA.tmps.getD x .undef=.agg (ac p))
  (ho:o.op=.call {callee:=.value (.func fV),args:=#[.tmp x,.tmp y],argTypes:=tys}) (hd:o.dst=some d) (hB:stB=⟨stA.tmps.set d (.bool r.1),List.replicate kA .dead,[]⟩)
  {pj:Act->World->Prop} {Q:Exit->Act->World->Prop} (h:VF J Γ0 w0 true s stA a w) (hn:∀a' w',VF J Γ0 w0 r.1 r.2 stB a' w'->pj ⟨a',ds⟩ w'):o.wpIn Fence.wide n Pg ⟨a,ds⟩ w pj Q:=by
 obtain⟨Γ,hJ,hle,hS⟩:=h.again hY hD
 have h1:=hS.opv ds (.tmp y)
 have h2:=hS.opv ds (.tmp x)
 have e1:opv (V5 GE Γ w).GE stA.tmps (.tmp y)=yv l:=h7
 have e2:opv (V5 GE Γ w).GE stA.tmps (.tmp x)=.agg (ac p):=h8
 rw[e1]at h1;rw[e2]at h2
 have hev:(Act.mk a ds).eval (.tmp y)=.func (.yield l) #[] #[]:=by
  generalize (Act.mk a ds).eval (.tmp y)=v at h1
  cases h1;rfl
 refine qaM ho (g:=fV) (fs:=#[]) (cs:=#[]) rfl call163 (R:=fun e w'=>∃Γ',e=.returned (.bool r.1)/\Γ.Le w Γ' w'/\J r.1 r.2 Γ' w') ?_ ?_
 ·have:=hp s r Γ w _ (n - 1) hr hJ (h2.clo (by simp only[PVal.cl];exact ah p))
  simpa[hev]using this
 ·rintro e w' ⟨Γ',rfl,hle',hJ'⟩
  refine⟨_,rfl,?_⟩
  rw[hd]
  exact hn _ _ (VF.put hY hD hS hle hle' hJ' hB)
theorem VF.fin{x:Bool}{H:List aN}(h:VF J Γ0 w0 b s (vE H x) a w):(results f163 a).run Pg w=.ok (.bool x) w:=by
 obtain⟨Γ,hJ,hle,E,bs,ow,hS⟩:=h
 obtain⟨v,h1,h2,_⟩:=xX hS (fn:=f163) (r:=.bool x) (by kernel_rfl)
 cases h2
 exact h1
theorem qaW{N:Nat}{L:List (Nat×PVal)}(h:qgI 0 L)(k:Nat){H:List aN}(hH:H=List.replicate k .dead):Dd (be N L H []) k:=⟨dC h,hH,rfl⟩
theorem qaS(ks:List aa):(sl ac ks).cl 0:=aj ah ks
theorem qfO(l:Nat)(ks:List aa)(i:Int):Dd (qf4 l ks i) 1:=qaW (by exact aI trivial<|aI (qaS ks)<|aI trivial<|aI trivial trivial) 1 rfl
theorem qfP(l:Nat)(ks:List aa)(i:Int):Dd (qhy l ks i) 1:=qaW (by exact aI trivial<|aI (qaS ks)<|aI trivial<|aI trivial<|aI trivial trivial) 1 rfl
theorem qfQ(l:Nat)(ks:List aa)(i:Int)(b:Bool):Dd (qiU l ks i b) 2:=qaW (by exact aI trivial<|aI (qaS ks)<|aI trivial<|aI trivial<|aI trivial trivial) 2 rfl
theorem Zm(hY:Yd Pg GE l ac step J)(p:aa)(hk:∀x∈p.Kids,qhX step J l x):qhX step J l p:=by
 intro s r Γ w v n hv hJ hvr
 refine callsIn_of_wp func163 (c:=bV) rfl trivial ?_
 have h0:VF J Γ w true s (be 23 [(0,.agg (ac p)),(1,yv l)] [] []) (#[v,.func (.yield l) #[] #[]]++Array.replicate 21 undef) w:=by
  refine⟨Γ,hJ,.refl _ _,_,_,_,(hY.base _ _ _ _ hJ).fresh 0 (tmps:=[.agg (ac p),yv l]++List.replicate 21 .undef) (by simp) fun t q u hq hu=>?_⟩
  by_cases ht:t<2
  ·rw[vaf (by simpa using ht)]at hq
   rw[vaQ (by simpa using ht)]at hu
   match t,ht with
   |0,_=>simp at hq hu;subst hq;subst hu;exact hvr
   |1,_=>simp at hq hu;subst hq;subst hu;exact .val _
  ·rw[vai (by simpa using ht),vaU]at hq
   split at hq<;>cases hq
   exact .undef u
 show bV.wpIn Fence.wide n Pg _ ⟨_,[]⟩ w
 rw[qfx]at hv
 obtain⟨q,hq,hv⟩:=ay hv
 have hb:Pg.funcs.size=Pg.funcs.size:=rfl
 have hret:∀{b:Bool} {s:S} {x:Bool} {H:List aN} {a':Act} {w':World},a'.defers=[]->VF J Γ w b s (vE H x) a'.tmps w'->b=r.1->s=r.2->x=r.1->
   bodyPost Pg f163 (fun e w'=>∃Γ',e=.returned (.bool r.1)/\Γ.Le w Γ' w'/\J r.1 r.2 Γ' w') .ret a' w':=by
  rintro b s x H a' w' hd h rfl rfl rfl
  refine⟨hd,.bool r.1,h.fin,?_⟩
  obtain⟨Γ',hJ',hle,_⟩:=h
  exact⟨Γ',rfl,hle,hJ'⟩
 rw[qia]
 refine wpIn_seq (wpIn_mono (VF.piece hY (qlT p l) (k:=0) (qaW (by exact aI (ah p)<|aI trivial trivial) 0 rfl) h0) ?_)
 rintro e ⟨a1,ds1⟩ w1 ⟨rfl,rfl,h1⟩
 have d2:(PVal.eptr (ac p)).cl 0:=by simp only[PVal.cl];exact ah p
 have d3:(PVal.agg (ac p)).cl 0:=by simp only[PVal.cl];exact ah p
 refine wpIn_seq (wpIn_seq (wpIn_mono (VF.reg hY qkl (k:=1) (kB:=1) (r:=q) (stB:=be 23 [(1,yv l),(2,.eptr (ac p)),(7,yv l),(8,.agg (ac p)),(9,.bool q.1)] [.dead] []) (qaW (by exact aI trivial<|aI d2 trivial) 1 rfl) (qaW (by exact aI trivial<|aI d2<|aI trivial<|aI d3<|aI trivial trivial) 1 rfl) (qlU p l) (qkv p l q.1)
  (fun a w pj Q h hn=>VF.yieldc hY (kA:=1) (qaW (by exact aI trivial<|aI d2<|aI trivial<|aI d3 trivial) 1 rfl) hq (f:=7) (x:=8) (d:=9) rfl rfl qg7 qiS rfl h hn) h1) ?_))
 rintro e ⟨a2,ds2⟩ w2 ⟨rfl,rfl,h2⟩
 refine wpIn_cond (h2.ev (t:=10) (x:=!q.1) rfl) ?_
 have dS2:∀b:Bool,Dd (be 23 [(1,yv l),(2,.eptr (ac p)),(10,.bool b)] [.dead] []) 1:=fun b=>qaW (by exact aI trivial<|aI d2<|aI trivial trivial) 1 rfl
 obtain⟨q1,q2⟩:=q
 cases q1 with
 |false=>
  cases hv
  refine wpIn_mono (VF.piece hY (qlV p l) (dS2 true) h2) ?_
  rintro e ⟨a3,ds3⟩ w3 ⟨rfl,rfl,h3⟩
  exact hret rfl h3 rfl rfl rfl
 | true =>
  simp only at hv
  split at hv
  case isFalse=>cases hv
  rename_i hlen
  refine wpIn_skip ?_
  refine wpIn_seq (wpIn_seq (wpIn_mono (VF.piece hY (qlW p l) (dS2 false) h2) ?_))
  rintro e ⟨a3,ds3⟩ w3 ⟨rfl,rfl,h3⟩
  refine wpIn_block (wpIn_loop_ghost (fun k a w'=>a.defers=[]/\∃(i:Nat) (s':S),k=p.Kids.length - i/\i<=p.Kids.length/\VX step (p.Kids.drop i) s'=some r/\VF J Γ w true s' (qf4 l p.Kids (i:Int)) a.tmps w') (p.Kids.length)
   ⟨rfl,0,q2,rfl,vaN _,hv,h3⟩ ?_)
  rintro k ⟨a4,ds4⟩ w4 ⟨hd4,i,s',rfl,hi,hvl,h4⟩
  simp only at hd4;subst hd4
  rw[qiR]
  refine wpIn_seq (wpIn_mono (VF.piece hY (qlX l p.Kids i) (qfO _ _ _) h4) ?_)
  rintro e ⟨a5,ds5⟩ w5 ⟨rfl,rfl,h5⟩
  refine wpIn_seq (wpIn_cond (h5.ev (t:=15) (x:=decide ((i:Int)<(p.Kids.length:Int))) rfl) ?_)
  by_cases hlt:i<p.Kids.length
  ·rw[vbk (by omega)]
   refine wpIn_skip ?_
   have hdrop:p.Kids.drop i=p.Kids[i]::p.Kids.drop (i+1):=va8 hlt
   rw[hdrop,VX]at hvl
   obtain⟨q',hq',hvl⟩:=ay hvl
   have hx:cz p.Kids (i:Int)=some p.Kids[i]:=bo _ _ hlt
   generalize hxx:p.Kids[i]=x at *
   have hxm:x∈p.Kids:=hxx▸vak hlt
   have e2:(PVal.eptr (ac x)).cl 0:=by simp only[PVal.cl];exact ah x
   have e3:(PVal.agg (ac x)).cl 0:=by simp only[PVal.cl];exact ah x
   refine wpIn_seq (wpIn_block (wpIn_seq (wpIn_mono (VF.piece hY (qlY l p.Kids i x hx) (qfP _ _ _) h5) ?_)))
   rintro e ⟨a6,ds6⟩ w6 ⟨rfl,rfl,h6⟩
   refine wpIn_seq (wpIn_mono (VF.reg hY qkm (k:=2) (kB:=2) (r:=q') (stB:=qk6 l p.Kids i x q'.1) (qaW (by exact aI trivial<|aI e2<|aI (qaS _)<|aI trivial<|aI trivial trivial) 2 rfl) (qaW (by exact aI trivial<|aI (qaS _)<|aI trivial<|aI trivial<|aI e3<|aI trivial<|aI trivial trivial) 2 rfl) (qlZ l p.Kids i x) (qkw l p.Kids i x q'.1)
    (fun a w pj Q h hn=>VF.visitc hY (kA:=2) (qaW (by exact aI trivial<|aI (qaS _)<|aI trivial<|aI trivial<|aI e3<|aI trivial trivial) 2 rfl) (hk x hxm) hq' (y:=19) (x:=18) (d:=20) rfl rfl qg8 qiT rfl h hn) h6) ?_)
   rintro e ⟨a7,ds7⟩ w7 ⟨rfl,rfl,h7⟩
   refine wpIn_cond (h7.ev (t:=21) (x:=!q'.1) rfl) ?_
   obtain⟨q1,q2⟩:=q'
   cases q1 with
   |false=>
    cases hvl
    refine wpIn_mono (VF.piece hY (ql0 l p.Kids i) (qfQ _ _ _ _) h7) ?_
    rintro e ⟨a8,ds8⟩ w8 ⟨rfl,rfl,h8⟩
    exact hret rfl h8 rfl rfl rfl
   |true=>
    refine wpIn_skip ?_
    refine wpIn_mono (VF.piece hY (ql1 l p.Kids i) (qfQ _ _ _ _) h7) ?_
    rintro e ⟨a8,ds8⟩ w8 ⟨rfl,rfl,h8⟩
    refine⟨p.Kids.length - (i+1),by omega,rfl,i+1,q2,rfl,hlt,hvl,?_⟩
    have e:aR ((i:Int)+1)=((i+1:Nat):Int):=by rw[dB (by omega) (by omega)];omega
    rw[e]at h8
    exact VF.redo (st0:=⟨(qf4 l p.Kids ((i+1:Nat):Int)).tmps,[.dead,.dead],[]⟩) hY (k:=2) ⟨(qfO l p.Kids _).c,rfl,rfl⟩ h8 1
  ·rw[decide_eq_false (by omega)]
   refine wpIn_exit ?_
   have hi':i=p.Kids.length:=by omega
   rw[vbD (by omega),VX]at hvl
   cases hvl
   refine wpIn_mono (VF.piece hY (ql2 l p.Kids i) (qfP _ _ _) h5) ?_
   rintro e ⟨a6,ds6⟩ w6 ⟨rfl,rfl,h6⟩
   exact hret rfl h6 rfl rfl rfl
mutual
theorem X3(hY:Yd Pg GE l ac step J):∀p:aa,qhX step J l p
 |⟨o,n,k,ks⟩=>Zm hY ⟨o,n,k,ks⟩ (TY hY ks)
theorem TY(hY:Yd Pg GE l ac step J):∀ks:List aa,∀x∈ks,qhX step J l x
 |[],x,hx=>by simp at hx
 | y :: ks,x,hx => by
  rcases vaw.1 hx with h|h
  ·exact h▸X3 hY y
  ·exact TY hY ks x h
end
end
open Go Go.Sort Go.Proofs.Tryz
def ZU(n:Int):Option ag:=if(decide (-9223372036854775808<=n)&&decide (n<=9223372036854775807))=true then some (Lib.itoa n)else none
theorem qdG:kK=Lib.pow10Tab:=by kernel_rfl
theorem qeY{n:Int}{r:ag}(h:ZU n=some r):CC Pg GE 95 [.int .i64 n] (.str r) []:=by
 rcases bj h with⟨b,h⟩|⟨b,h⟩
 ·obtain rfl:=lf h
  simp only[vaj,vao]at b
  refine CC.grownIS call95 fun E Γ bs ow w a st hE hS=>?_
  have htab:Lib.TabIs Pg w "internal/strconv.uint64pow10" .u64 Lib.pow10Tab:=qg3 hS (g:=0) (by rw[hE,←qdG];simp[GE]) (by kernel_rfl)
  refine(Any.strconv_Itoa Tryz.laysM171 n b.1 b.2 w htab).mono fun e w' he=>?_
  obtain⟨rfl,k,os,rfl⟩:=he
  exact⟨rfl,.of_grow _ _ _⟩
 ·cases h
def mZ(l:List ag):List ag:=l.mergeSort fun x y=>decide (x<=y)
theorem WY{w:World}{b:Nat}{cur:Array Value}{e:TypeId}{l:List ag}(hh:w.heap[b]? =some (.cells cur e (0,0)))(ht:cur.toList.take l.length=l.map fun s=>Value.string ⟨s.toArray⟩):Holds encStr w b 0 l.toArray:=by
 intro j hj
 have hj':j<l.length:=by simpa using hj
 rw[vaK]
 refine⟨?_,frozen_of_row w b j cur e hh⟩
 rw[cell_of_row w b j cur e _ hh]
 have h1:(cur.toList.take l.length)[j]? =(l.map fun s=>Value.string ⟨s.toArray⟩)[j]?:=by rw[ht]
 rw[vap hj']at h1
 simp only[va2,vaB,vab hj',vam]at h1
 rw[h1,getElem!_pos _ j hj]
 simp[encStr]
theorem TK{w:World}{b n:Nat}{cur:Array Value}{e:TypeId}{os:Array Obj}(d l:List ag)(hh:w.heap[b]? =some (.cells cur e (0,0)))(hd:d.length<=cur.size)(hl:d.take l.length=l):(∀b',b'<w.heap.size->b'≠b->(grow (putRow encStr (Sort.ahead w n) b 0 d.toArray) os).heap[b']? =w.heap[b']?)/\w.heap.size<=(grow (putRow encStr (Sort.ahead w n) b 0 d.toArray) os).heap.size/\
   ∃cur',(grow (putRow encStr (Sort.ahead w n) b 0 d.toArray) os).heap[b]? =some (.cells cur' e (0,0))/\cur'.size=cur.size/\cur'.toList.take l.length=l.map fun s=>Value.string ⟨s.toArray⟩:=by
 have hb:b<w.heap.size:=(var.1 hh).1
 have hsz:(putRow encStr (Sort.ahead w n) b 0 d.toArray).heap.size=w.heap.size:=by simp[putRow,mapBlock,Sort.ahead]
 refine⟨fun b' h1 h2=>?_,?_,putCells encStr 0 d.toArray cur,?_,by simp[putCells],?_⟩
 ·show((putRow encStr (Sort.ahead w n) b 0 d.toArray).heap++os)[b']? =_
  rw[vaQ (by rw[hsz];exact h1)]
  show(w.heap.modify b (onCells _))[b']? =_
  rw[vbU,vae (fun e=>h2 e.symm)]
 ·show _<=((putRow encStr (Sort.ahead w n) b 0 d.toArray).heap++os).size
  rw[Array.size_append,hsz];omega
 ·show((putRow encStr (Sort.ahead w n) b 0 d.toArray).heap++os)[b]? =_
  rw[vaQ (by rw[hsz];exact hb)]
  show(w.heap.modify b (onCells _))[b]? =_
  rw[vbU,vad rfl,hh]
  rfl
 ·have hll:l.length<=d.length:=by have h0:=va9 List.length hl;rw[vaO]at h0;omega
  refine vbn fun i=>?_
  by_cases hi:i<l.length
  ·have hdl:i<d.length:=by omega
   have hdi:d[i]=l[i]:=by
    have h1:(d.take l.length)[i]? =l[i]?:=by rw[hl]
    rw[vap hi,vab hdl,vab hi]at h1
    exact vbC h1
   rw[vap hi]
   simp only[va2,putCells,Array.getElem?_mapIdx,vaB,vab hi,vam]
   have hc:cur[i]? =some (cur[i]'(by omega)):=vbe (by omega)
   rw[hc]
   simp only[vam]
   rw[vad ⟨vaN _,by simp;omega⟩,Nat.sub_zero,getElem!_pos _ i (by simpa using hdl)]
   simp[encStr,hdi]
  ·rw[vat (by simp[putCells];omega),vat (by simp;omega)]
theorem rR(l:List ag):(mZ l).length=l.length:=by unfold mZ;exact List.length_mergeSort _
theorem qci{n:Nat}(h:n<=eY):n<4611686018427387904:=by unfold eY at h;omega
theorem qfn:qb9 Pg 160 9 (fun s=>Value.string ⟨s.toArray⟩) mZ (fun _ _ _=>.tuple #[]):={
 call:=call160
 row:=fun w b cap cur l hh hc hl hm hla ht=>by
  have hlen:=qci hla
  refine(Any.slices_Sort_string Tryz.lays190 b 0 cap l w (WY hh ht) ((var.1 hh).1) hlen).mono fun r w' hr=>?_
  obtain⟨rfl,n,os,rfl⟩:=hr
  obtain⟨k1,k2,cur',k3,k4,k5⟩:=TK (n:=n) (os:=os) (mZ l) (mZ l) hh (by rw[rR];omega) (vbm)
  exact⟨rfl,by rw[rR];exact hl,rfl,rfl,rfl,k2,k1,cur',k3,by omega,k5⟩
 none:=fun w=>⟨by simp[mZ],Any.slices_Sort_string_none Tryz.lays190 Option.none 0 w⟩}
theorem UU(l:List ag):(Lib.compact l++List.replicate (l.length - (Lib.compact l).length) []).take (Lib.compact l).length=Lib.compact l:=by simp
theorem Ml(l:List ag):(Lib.compact l).length<=l.length:=by
 unfold Lib.compact Lib.compactUpTo
 rw[vaF]
 exact vaI (vaW _ _) (by simp)
theorem YB:qb9 Pg 161 9 (fun s=>Value.string ⟨s.toArray⟩) Lib.compact (fun x k c=>.slice x k c):={
 call:=call161
 row:=fun w b cap cur l hh hc hl hm hla ht=>by
  have hlen:=qci hla
  refine(calls_of_every_depth fun D=>AnyS.slices_Compact_string_in Tryz.lays194 D b 0 cap l w (WY hh ht) (by omega) hl).mono fun r w' hr=>?_
  obtain⟨rfl,q,rfl⟩:=hr
  have hcl:=Ml l
  obtain⟨k1,k2,cur',k3,k4,k5⟩:=TK (n:=q) (os:=#[]) (Lib.compact l++List.replicate (l.length - (Lib.compact l).length) []) (Lib.compact l) hh (by simp;omega) (UU l)
  rw[grow_empty]at k1 k2 k3
  exact⟨rfl,by omega,rfl,rfl,rfl,k2,k1,cur',k3,by omega,k5⟩
 none:=fun w=>⟨by rfl,calls_of_every_depth fun D=>AnyS.slices_Compact_string_empty_in Tryz.lays194 D Option.none 0 w⟩}
def qm(a b:List ag):Option (List ag):=(app ([]:List ag) a).bind fun l=>(app l b).bind fun l2=>some (Lib.compact (mZ l2))
noncomputable def Yl:Code:=f158.body.getD .skip
theorem qkR:Pg.cellsOf 9=1:=by kernel_rfl
theorem qfr(l:List ag)(h:l.length<=eY):aU Pg GE 0 (gz Yl [true,true,false]) (EX .normal (iB 15 5 (mZ l) 9)) (iB 15 5 l 9):=
 aU.inplace (t:=5) (d1:=11) (d2:=12) qfn qkR h rfl rfl rfl rfl rfl rfl (by decide) (.inl ⟨rfl,rR l⟩)
theorem qfs(l:List ag)(h:l.length<=eY):aU Pg GE 0 (gz Yl [true,true,true,false]) (EX .normal (iB 15 4 (Lib.compact l) 9)) (iB 15 5 l 9):=
 aU.inplace3 (t:=5) (d1:=13) (d2:=14) YB qkR h rfl rfl rfl rfl rfl rfl (by decide) (fun _ _ _=>rfl) rfl rfl rfl (by decide) (by decide)
theorem qey{α:Type}{l r z:List α}(h:app l r=some z):z.length<=eY:=by
 unfold app at h
 split at h
 ·cases h;simpa using ‹_›
 ·cases h
theorem E5{a b:List ag}{r:List ag}(h:qm a b=some r):CC Pg GE 158 [sl cS a,sl cS b] (sl cS r) [(0,9)]:=by
 obtain⟨l,bl,h⟩:=ay h
 obtain⟨l2,bl2,h⟩:=ay h
 obtain rfl:=lf h
 have h2:=qey bl2
 have h3:(mZ l2).length<=eY:=by rw[rR];exact h2
 exact C.ev (A:=[8,10]) mixed call158 func158 (c:=Yl) rfl (aI (aj dQ a)<|aI (aj dQ b) trivial)
  [.v (sl cS ([]:List ag)),.v (sl cS l),.v (sl cS l2),.pa 0,.pc (iB 15 5 l2 9) .normal (iB 15 5 (mZ l2) 9),.pa 0,.pc (iB 15 5 (mZ l2) 9) .normal (iB 15 4 (Lib.compact (mZ l2)) 9)]
  (Eq.mp (by kernel_rfl) (aI (bp.mk' (v:=PVal.str) E8 ([]:List ag) 0 (by kernel_rfl))<|aI (bp.ap bl)<|aI (bp.ap bl2)<|aI (fr (iB 15 5 l2 9))<|aI (qfr l2 h2)<|
   aI (fr (iB 15 5 (mZ l2) 9))<|aI (qfs (mZ l2) h3)<|aI (rP (sl cS (Lib.compact (mZ l2)))) (aj dQ (Lib.compact (mZ l2)))))
abbrev fB:Nat:=159
abbrev fW:Nat:=162
noncomputable def bW:Code:=f162.body.getD .skip
noncomputable def bB:Code:=f159.body.getD .skip
theorem qaI(p:aa):CC Pg GE fB [.agg (ac p)] (.func (.func fW) [] [.eptr (ac p)]) []:=by
 have z:=se (bS p)<|en (aI (rP (.func (.func fW) [] [.eptr (ac p)]))<|(aI trivial (aI (show iy 0 (ac p)from ah p) trivial)))
 exact C.evp (A:=[]) mixed call159 func159 (c:=bB) rfl (aI (ah p) trivial) z (by kernel_rfl)
theorem qib:bW=.region (qjs bW) (pk bW) false:=by kernel_rfl
theorem qif:List.range (pk bW).size=[0,1]++2::([]:List Nat):=by kernel_rfl
theorem qid:[0,1].map (fun i=>(pk bW)[i]?)=((pk bW).toList.take 2).map some:=by kernel_rfl
theorem qie:((pk bW).toList.take 2).all QP=true:=by kernel_rfl
theorem qka:(pk bW)[2]? =some (Z5 bW 2):=by kernel_rfl
theorem qj9:(Z5 bW 2).guard=none:=by kernel_rfl
theorem qic:(Z5 bW 2).op=.call {callee:=.value (.func fV),args:=#[.tmp 3,.tmp 4],argTypes:=qg6 (Z5 bW 2)}:=by kernel_rfl
theorem qj8:(Z5 bW 2).dst=some 5:=by kernel_rfl
theorem qgC(p:aa)(l:Nat):dJ Pg GE [] (pk bW) (fun st=>FG st (be 6 [(3,.agg (ac p)),(4,yv l)] [] [])) ((pk bW).toList.take 2) 0 (be 6 [(0,yv l),(1,.eptr (ac p))] [] []):=by
 have z:=sv (bh p)<|en (fr (be 6 [(3,.agg (ac p)),(4,yv l)] [] []))
 exact Kj z (by kernel_rfl)
section
variable{S:Type}{step:S->aa->Option (Bool×S)}{J:Bool->S->bw->World->Prop}{l:Nat}
theorem qgD(hY:Yd Pg GE l ac step J)(p:aa){s:S}{r:Bool×S}{Γ:bw}{w:World}{v:Value}{n:Nat}(hv:VY step p s=some r)(hJ:J true s Γ w)(hvr:VR Γ [] w (.eptr (ac p)) v):CallsIn Fence.wide n Pg fW #[.func (.yield l) #[] #[],v] w fun e w'=>(∃u,e=.returned u)/\∃Γ',Γ.Le w Γ' w'/\J r.1 r.2 Γ' w':=by
 refine callsIn_of_wp func162 (c:=bW) rfl trivial ?_
 have h0:VF J Γ w true s (be 6 [(0,yv l),(1,.eptr (ac p))] [] []) (#[.func (.yield l) #[] #[],v]++Array.replicate 4 undef) w:=by
  refine⟨Γ,hJ,.refl _ _,_,_,_,(hY.base _ _ _ _ hJ).fresh 0 (tmps:=[yv l,.eptr (ac p)]++List.replicate 4 .undef) (by simp) fun t q u hq hu=>?_⟩
  by_cases ht:t<2
  ·rw[vaf (by simpa using ht)]at hq
   rw[vaQ (by simpa using ht)]at hu
   match t,ht with
   |0,_=>simp at hq hu;subst hq;subst hu;exact .val _
   |1,_=>simp at hq hu;subst hq;subst hu;exact hvr
  ·rw[vai (by simpa using ht),vaU]at hq
   split at hq<;>cases hq
   exact .undef u
 show bW.wpIn Fence.wide n Pg _ ⟨_,[]⟩ w
 have d2:(PVal.eptr (ac p)).cl 0:=ah p
 have d3:(PVal.agg (ac p)).cl 0:=ah p
 have key:(Code.region (qjs bW) (pk bW) false).wpIn Fence.wide n Pg (bodyPost Pg f162 fun e w'=>(∃u,e=.returned u)/\∃Γ',Γ.Le w Γ' w'/\J r.1 r.2 Γ' w') ⟨#[.func (.yield l) #[] #[],v]++Array.replicate 4 undef,[]⟩ w:=by
  refine wpIn_region ?_
  rw[qif]
  obtain⟨Γ1,hJ1,hle1,hS⟩:=VF.again hY (k:=0) (qaW (L:=[(0,yv l),(1,.eptr (ac p))]) (by exact aI trivial<|aI d2 trivial) 0 rfl) h0
  refine Gd (A:=[]) (K:=fun st=>FG st (be 6 [(3,.agg (ac p)),(4,yv l)] [] [])) (fun Γ' bs' ow' a' w' st hS' hK=>?_) _ _ Γ1 _ _ _ w _ qid (LT qie) hS (qgC p l)
  obtain⟨Γ2,bs2,ow2,hS2⟩:=FG.sr hS' hK
  refine Ip qka qj9 (VF.visitc hY (kA:=0) (stB:=be 6 [(3,.agg (ac p)),(4,yv l),(5,.bool r.1)] [] []) (qaW (by exact aI d3<|aI trivial trivial) 0 rfl) (X3 hY p) hv (y:=4) (x:=3) (d:=5) rfl rfl qic qj8 rfl ⟨Γ2,hY.side _ _ _ _ hJ1 _ _ _ _ _ _ hS2,hle1.trans hS2.step.le,_,_,_,hS2⟩ fun a3 w3 h3=>?_)
  obtain⟨Γ3,hJ3,hle3,E,bs3,ow3,hS3⟩:=h3
  obtain⟨u,e1,_⟩:=xX hS3 (fn:=f162) (r:=.tuple []) (by kernel_rfl)
  exact⟨rfl,u,e1,⟨u,rfl⟩,Γ3,hle3,hJ3⟩
 rw[<-qib]at key
 exact key
end
abbrev qlH:Nat:=156
noncomputable def qfD:Code:=f156.body.getD .skip
def qiL:Code->Code
 |.rangeFunc _ _ a _=>a
 |_=>.skip
def qiM:Code->Code
 |.rangeFunc _ _ _ b=>b
 |_=>.skip
abbrev qkX:Code:=gz qfD [false]
abbrev qkY:Code:=gz qfD [true,false]
abbrev qkZ:Code:=gz qfD [true,true,false,false]
abbrev qei:Code:=gz qfD [true,true,false,true,false]
abbrev qkf:Code:=gz qfD [true,true,true,false]
theorem qgB:qfD=.seq qkX (.seq qkY (.seq (.seq qkZ (.block 0 (.rangeFunc (.tmp 6) #[7] (qiL qei) (qiM qei)))) (.seq qkf .ret))):=by kernel_rfl
def uk(s:List ag)(x:aa):Option (Bool×List ag):=if(x.Op==3)=true then(app s [x.Name]).bind fun l=>some (true,l)else some (true,s)
def sZ(p:aa):Option (List ag):=(VY uk p []).bind fun q=>(qm q.2 []).bind fun r=>some r
abbrev qef(s:List ag):List aN:=[.dead,.cells [sl cS s] [(0,9)]]
abbrev qkn(s:List ag):aA:=be 18 [(3,.bptr 1 0)] (qef s) []
theorem qlK(p:aa):aU Pg GE 0 qkX (EX .normal (be 18 [(1,.eptr (ac p))] [.dead] [])) (be 18 [(0,.agg (ac p))] [] []):=by
 have z:=se (bS p)<|eF .normal (be 18 [(1,.eptr (ac p))] [.dead] [])
 exact nX (A:=[]) mixed z (by kernel_rfl)
theorem qlL(p:aa):aU Pg GE 0 qkY (EX .normal (be 18 [(1,.eptr (ac p)),(3,.bptr 1 0)] (qef []) [])) (be 18 [(1,.eptr (ac p))] [.dead] []):=by
 have z:=sx (show kb Pg 32=some [sl cS ([]:List ag)] by kernel_rfl)<|eF .normal (be 18 [(1,.eptr (ac p)),(3,.bptr 1 0)] (qef []) [])
 exact nX (A:=[]) mixed z (by kernel_rfl)
abbrev stR(p:aa):aA:=be 18 [(3,.bptr 1 0),(6,.func (.func fW) [] [.eptr (ac p)])] (qef []) []
theorem qlM(p:aa):aU Pg GE 0 qkZ (EX .normal (stR p)) (be 18 [(1,.eptr (ac p)),(3,.bptr 1 0)] (qef []) []):=by
 have z:=sv (bh p)<|bz (qaI p)<|eF .normal (stR p)
 exact nX (A:=[]) mixed z (by kernel_rfl)
abbrev qko(s:List ag)(x:aa):aA:=be 18 [(3,.bptr 1 0),(4,.bptr 2 0)] (qef s++[.cells (V7 x) []]) []
theorem qlN(s:List ag)(x:aa):aU Pg GE 2 (qiL qei) (EX .normal (qko s x)) (be 18 [(3,.bptr 1 0),(7,.agg (ac x))] (qef s) []):=by
 have z:=sx hO<|sx (cj x)<|eF .normal (qko s x)
 exact nX (A:=[]) mixed z (by kernel_rfl)
abbrev qkp(r:List ag):aA:=be 18 [(3,.bptr 1 0)] (qef r++[.dead]) []
theorem qlO(s:List ag)(x:aa){r:Bool×List ag}(h:uk s x=some r):r.1=true/\aU Pg GE 2 (qiM qei) (EX .normal (qkp r.2)) (qko s x):=by
 unfold uk at h
 rcases bj h with⟨c1,h⟩|⟨c1,h⟩
 ·obtain⟨l,bl,h⟩:=ay h
  cases h
  refine⟨rfl,?_⟩
  have z:=ss<|sg 0 c1<|ss<|sv (bp.mk' (v:=PVal.str) E8 ([x.Name]:List ag) 1 (by kernel_rfl))<|sv (bp.ap bl)<|eF .normal (qkp l)
  exact nX (A:=[11]) mixed z (by kernel_rfl)
 ·cases h
  refine⟨rfl,?_⟩
  have z:=ss<|sg 0 c1<|eF .normal (qkp s)
  exact nX (A:=[11]) mixed z (by kernel_rfl)
abbrev qkq(r:List ag):aA:=be 18 [(2,sl cS r)] [.dead,.dead] [((2,0),9)]
theorem qlP(s:List ag){r:List ag}(h:qm s []=some r):aU Pg GE 2 (.seq qkf .ret) (EX .ret (qkq r)) (qkn s):=by
 have z:=sv (show bm Pg 32 [sl cS s]=some (sl cS s) by kernel_rfl)<|bz (E5 h)<|eF .ret (qkq r)
 exact nX (A:=[]) mixed z (by kernel_rfl)
abbrev IA(fn:FuncId)(a:Array Value)(D:Nat):Loop:={state:=.ready,pending:=none,fn:=fn,tmps:=a,params:=#[7],assign:=qiL qei,body:=qiM qei,defers:=D}
def JF(Γe:bw)(we:World)(bs:bR)(a:Array Value)(fn:FuncId)(l D:Nat)(b:Bool)(s:List ag)(Γ:bw)(w:World):Prop:=
 b=true/\∃ow,SR Pg (V5 GE Γe we) Γ bs ow w a (qkn s)/\¬cr bs ow l/\¬cr bs ow D/\w.heap[l]? =some (.loop (IA fn a D))/\w.heap[D]? =some (.deferred (some []))
theorem ko{w:World}{b:Nat}{o:Obj}(h:w.heap[b]? =some o):b<w.heap.size:=(var.1 h).1
theorem qhV{Γe:bw}{we:World}{bs:bR}{a:Array Value}{fn:FuncId}{l D:Nat}(hl:we.heap.size<=l)(hD:we.heap.size<=D)(hne:D≠l)(hb:bs.length=2):Yd Pg GE l ac uk (JF Γe we bs a fn l D) where
 base:=fun b s Γ w ⟨_,ow,h,_⟩=>h.base
 side:=fun b s Γ w ⟨h0,ow,h,hTl,hTD,hhl,hhD⟩ Γ' bs' ow' w' a' st' h'=>
  ⟨h0,ow,h.aside h',hTl,hTD,(h'.step.keep l (ko hhl) id).1.trans hhl,(h'.step.keep D (ko hhD) id).1.trans hhD⟩
 yield:=fun s Γ w x v n r ⟨h0,ow,h,hTl,hTD,hhl,hhD⟩ hv hr=>by
  obtain⟨hr1,hS4⟩:=qlO s x hr
  refine⟨_,_,_,_,run_yield hhl rfl,?_⟩
  have hz:(((#[7]:Array Tmp).zip #[v]).foldl (fun tmps (t,a)=>tmps.setIfInBounds t a) a)=a.setIfInBounds 7 v:=by simp
  show RoundIn Fence.wide n Pg l fn (((#[7]:Array Tmp).zip #[v]).foldl (fun tmps (t,a)=>tmps.setIfInBounds t a) a) (qiL qei) (qiM qei) w _
  rw[hz]
  have h7:SR Pg (V5 GE Γe we) Γ bs ow w (a.setIfInBounds 7 v) (be 18 [(3,.bptr 1 0),(7,.agg (ac x))] (qef s) []):=h.set (d:=7) (p:=.agg (ac x)) (hv.mono (.refl _ _) (fun i b hi=>by simp at hi))
  refine roundIn_of_wpIn trivial (wpIn_mono (aU.on (qlN s x) (by decide) h7 (by rw[hb];decide) (some l) [] n) ?_)
  rintro e ⟨a1,ds1⟩ w1 ⟨rfl,Γ1,bs1,ow1,st1,h1,⟨rfl,rfl⟩,hbs1,hle1,hsz1,hk1⟩
  obtain⟨k1,t1⟩:=hk1 l (ko hhl) hTl
  obtain⟨k1D,t1D⟩:=hk1 D (ko hhD) hTD
  have hl1:=k1.trans hhl
  refine⟨_,run_beginRound hl1 rfl,?_⟩
  obtain⟨h1',hle1'⟩:=h1.putOther (l:=l) (o:=.loop {IA fn a D with state:=.busy}) t1 (.inr hl) (fun c t fr e=>by rw[hl1]at e;cases e)
  have hb1:2<=bs1.length:=by have:=h1.bl;rw[this];exact Nat.le_of_ble_eq_true rfl
  refine wpIn_mono (aU.on hS4 (by decide) h1' hb1 (some l) [] n) ?_
  rintro e ⟨a2,ds2⟩ w2 ⟨rfl,Γ2,bs2,ow2,st2,h2,⟨rfl,rfl⟩,hbs2,hle2,hsz2,hk2⟩
  have hl1':(w1.putObj l (.loop {IA fn a D with state:=.busy})).heap[l]? =some (.loop {IA fn a D with state:=.busy}):=World.putObj_heap_same (ko hl1)
  have hD1':(w1.putObj l (.loop {IA fn a D with state:=.busy})).heap[D]? =some (.deferred (some [])):=(World.putObj_heap_other hne).trans (k1D.trans hhD)
  obtain⟨k2,t2⟩:=hk2 l (ko hl1') t1
  obtain⟨k2D,t2D⟩:=hk2 D (ko hD1') t1D
  have hl2:=k2.trans hl1'
  refine⟨_,_,run_endRound none hl2,?_⟩
  obtain⟨h3,hle3⟩:=h2.putOther (l:=l) (o:=.loop {{IA fn a D with state:=.busy}with state:=if(none:Option Code).isNone then .ready else .done,pending:=none}) t2 (.inr hl) (fun c t fr e=>by rw[hl2]at e;cases e)
  have hle:Γ.Le w Γ2 (w2.putObj l (.loop {{IA fn a D with state:=.busy}with state:=if(none:Option Code).isNone then .ready else .done,pending:=none})):=((hle1.trans hle1').trans hle2).trans hle3
  obtain⟨ow3,h4,hT4⟩:=h.back rfl h3 hle (H':=qef r.2) (fun i hi=>(hbs2 i (by omega)).trans (hbs1 i (by omega))) (by
   refine⟨trivial,⟨rfl,aI (up (aj dQ r.2)) trivial,fun x hx=>hx⟩,trivial⟩) hb.symm
  refine⟨Γ2,by rw[hr1];rfl,hle,hr1,ow3,h4,fun hx=>t2 (hT4 l hx),fun hx=>t2D (hT4 D hx),?_,?_⟩
  ·exact World.putObj_heap_same (ko hl2)
  ·exact(World.putObj_heap_other hne).trans (k2D.trans hD1')
theorem Kl{p:aa}{r:List ag}(h:sZ p=some r):CC Pg GE qlH [.agg (ac p)] (sl cS r) [(0,9)]:=by
 obtain⟨q,hq,h⟩:=ay h
 obtain⟨r',hu,h⟩:=ay h
 cases h
 refine⟨aI (ah p) trivial,call156,fun Γ bs ow w vs hS=>(callsIn_wide (n:=0)).1 (callsIn_of_wp_marks func156 (c:=qfD) rfl trivial ?_)⟩
 obtain rfl:bs=[]:=vau hS.bl
 obtain⟨v,rfl⟩:∃v,vs=#[v]:=vcC.1 hS.sz
 have hB:T5 GE Γ w:=hS.base
 have hE:IP GE 0 (V5 GE Γ w):=hB.good
 have hvr:VR Γ [] w (.agg (ac p)) v:=hS.tm 0 _ _ rfl rfl
 have h0:SR Pg (V5 GE Γ w) Γ [] (fun _=>none) w (#[v]++Array.replicate 17 undef) (be 18 [(0,.agg (ac p))] [] []):=by
  refine hB.fresh (a:=#[v]++Array.replicate 17 undef) 0 (tmps:=[.agg (ac p)]++List.replicate 17 .undef) (by simp) fun t q u hq hu=>?_
  by_cases ht:t<1
  ·rw[vaf (by simpa using ht)]at hq
   rw[vaQ (by simpa using ht)]at hu
   match t,ht with
   |0,_=>simp at hq hu;subst hq;subst hu;exact hvr
  ·rw[vai (by show 1<=t;omega),vaU]at hq
   split at hq<;>cases hq
   exact .undef u
 show qfD.wpIn Fence.wide 0 Pg _ ⟨#[v]++Array.replicate 17 undef,[]⟩ w
 rw[qgB]
 refine wpIn_seq (wpIn_mono (aU.wideE (qlK p) hE h0 0 []) ?_)
 rintro e ⟨a1,ds1⟩ w1 ⟨rfl,Γ1,bs1,ow1,st1,h1,rfl,rfl⟩
 refine wpIn_seq (wpIn_mono (aU.wideE (qlL p) hE h1 0 []) ?_)
 rintro e ⟨a2,ds2⟩ w2 ⟨rfl,Γ2,bs2,ow2,st2,h2,rfl,rfl⟩
 refine wpIn_seq (wpIn_seq (wpIn_mono (aU.wideE (qlM p) hE h2 0 []) ?_))
 rintro e ⟨a3,ds3⟩ w3 ⟨rfl,Γ3,bs3,ow3,st3,h3,rfl,rfl⟩
 have h6:=h3.opv [] (.tmp 6)
 have e6:opv (V5 GE Γ w).GE (stR p).tmps (.tmp 6)=.func (.func fW) [] [.eptr (ac p)]:=rfl
 rw[e6]at h6
 have hbl:bs3.length=2:=h3.bl
 refine wpIn_block (wpIn_rangeFunc fun fn _=>?_)
 obtain⟨g1,l1⟩:=h3.allocO (.deferred (some []))
 obtain⟨g2,l2⟩:=g1.allocO (.loop (IA fn a3 w3.heap.size))
 have gF:=g2.forgetT (tm:=(qkn []).tmps) rfl
 have hsz3:w.heap.size<=w3.heap.size:=h3.step.size
 have htl:∀b,w3.heap.size<=b->¬cr bs3 ow3 b:=fun b hb hx=>by
  rcases hx with⟨i,hi⟩|hx
  ·have hil:i<(stR p).boxes.length:=by rw[<-h3.bl];exact av hi
   have:=(h3.bx i b _ hi (vab hil)).2.1
   omega
  ·cases hL:ow3 b with
   |none=>exact hx hL
   |some L=>have:=(h3.on b L hL).1;omega
 generalize hvf:(Act.mk a3 []).eval (.tmp 6)=vf at h6
 cases h6 with
 |func _ _ _ fs cs hl1 hl2 hf hc=>
 obtain rfl:fs=#[]:=vbc hl1
 obtain⟨cv,rfl⟩:∃v,cs=#[v]:=vcC.1 hl2
 have hcv:VR Γ3 bs3 w3 (.eptr (ac p)) cv:=hc 0 _ _ rfl rfl
 have hJ:JF Γ w bs3 a3 fn (w3.heap.size+1) w3.heap.size true [] Γ3 ((w3.alloc (.deferred (some []))).alloc (.loop (IA fn a3 w3.heap.size))):=by
  refine⟨rfl,ow3,gF,htl _ (by omega),htl _ (vah _),?_,?_⟩
  ·have:=World.alloc_heap_new (w3.alloc (.deferred (some []))) (.loop (IA fn a3 w3.heap.size))
   rwa[World.size_alloc]at this
  ·rw[eK _ _ (by rw[World.size_alloc];omega)]
   exact World.alloc_heap_new w3 _
 have hY:=qhV (Γe:=Γ) (we:=w) (bs:=bs3) (a:=a3) (fn:=fn) (l:=w3.heap.size+1) (D:=w3.heap.size) (by omega) hsz3 (by omega) hbl
 refine⟨_,_,_,{target:=.fn (.func fW) #[cv],args:=#[.func (.yield (w3.heap.size+1)) #[] #[]]},(w3.alloc (.deferred (some []))).alloc (.loop (IA fn a3 w3.heap.size)),fW,#[.func (.yield (w3.heap.size+1)) #[] #[],cv],(w3.alloc (.deferred (some []))).alloc (.loop (IA fn a3 w3.heap.size)),run_enterLoop_outer fn a3 #[7] (qiL qei) (qiM qei),?_,fun _ _=>trivial,?_,fun hx=>by simp[Fence.wide]at hx,?_⟩
 ·have hvf':(Act.mk a3 []).eval (.tmp 6)=.func (.func fW) #[] #[cv]:=hvf
  simp only[resolve,hvf',Deferred.ofValue]
  simp[Act.eval]
 ·simp[invoke,call162]
 ·refine(qgD hY p (n:=0 - 1) hq hJ (((hcv.mono l1 (.refl _)).mono l2 (.refl _)).clo (show iy 0 (ac p)from ah p))).mono ?_
  rintro e w4 ⟨⟨u,rfl⟩,Γ4,hle4,hq1,ow4,h4,tl4,tD4,hl4,hD4⟩
  refine⟨none,_,run_endLoop hl4 (by simp),?_⟩
  obtain⟨h5,hle5⟩:=h4.putOther (l:=w3.heap.size+1) (o:=.loop {IA fn a3 w3.heap.size with state:=.exhausted}) tl4 (.inr (show w.heap.size<=_ by omega)) (fun c t fr e=>by rw[hl4]at e;cases e)
  have hD5:(w4.putObj (w3.heap.size+1) (.loop {IA fn a3 w3.heap.size with state:=.exhausted})).heap[w3.heap.size]? =some (.deferred (some [])):=(World.putObj_heap_other (by omega)).trans hD4
  generalize w4.putObj (w3.heap.size+1) (.loop {IA fn a3 w3.heap.size with state:=.exhausted})=w5 at h5 hle5 hD5
  show(Code.seq qkf .ret).wpIn Fence.wide 0 Pg _ ⟨a3,[{target:=.collected w3.heap.size,args:=#[]}]⟩ w5
  refine wpIn_mono (wpIn_wide.2 (aU.on (qlP q.2 hu) (by decide) h5 (by rw[hbl];decide) none [{target:=.collected w3.heap.size,args:=#[]}])) ?_
  rintro e ⟨a6,ds6⟩ w6 ⟨rfl,Γ6,bs6,ow6,st6,h6,⟨rfl,rfl⟩,hbs6,hle6,hsz6,hk6⟩
  obtain⟨k6,t6⟩:=hk6 _ (ko hD5) tD4
  have hD6:=k6.trans hD5
  obtain⟨h7,hle7⟩:=h6.putOther (l:=w3.heap.size) (o:=.deferred none) t6 (.inr hsz3) (fun c t fr e=>by rw[hD6]at e;cases e)
  refine⟨by simp,.inl ⟨w3.heap.size,_,rfl,run_takeDeferred hD6,?_⟩⟩
  have hS7:SR Pg ⟨GE,Γ,w,cr [] ow⟩ Γ6 bs6 ow6 (w6.putObj w3.heap.size (.deferred none)) a6 (qkq r):={h7 with
   bn:=fun i b hb=>(h7.bn i b hb).elim False.elim .inr
   on:=fun b L hL=>⟨(h7.on b L hL).1,(h7.on b L hL).2.elim False.elim .inr⟩
   gx:=hS.gx
   step:={h7.step with keep:=fun b hb _=>h7.step.keep b hb (fun hx=>hx)}}
  obtain⟨vr,e1,e2,e3⟩:=xX hS7 (fn:=f156) (r:=sl cS r) (by kernel_rfl)
  refine⟨vr,e1,vr,Γ6,Hf (eI f156.results.toList) [(0,9)] ow6,rfl,?_⟩
  have hrs:f156.results.toList=[.tmp 2]:=by kernel_rfl
  have hf:=hS7.finish (H':=[]) (src:=eI f156.results.toList) (ro:=[(0,9)]) e2 (aj dQ r) trivial (fun x hx=>by
   simp only[va3]at hx
   subst hx
   refine⟨?_,fun u v'=>e3 0 u v' ?_⟩
   ·rw[hrs];exact va3.2 rfl
   ·rw[hrs];trivial) (fun x hx y hy _=>by
   simp only[va3]at hx hy
   rw[hx,hy])
  simpa using hf
end Go.Proofs.YtbaamopmfmpfaaaGreatDoor
