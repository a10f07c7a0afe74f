/- PROVED: a part of the proof. Conditions: none. -/
import Derived.Test.YtbaamopmfmpfaaaGreatDoorPkC8
import Derived.Test.YtbaamopmfmpfaaaGreatDoorPkC7
import Derived.Test.YtbaamopmfmpfaaaGreatDoorProg
import Derived.Ground.SlgnProg
import Derived.Shelf.Lays
import Derived.Shelf.LaysM
import Derived.Shelf.SlGeneric
import Derived.Shelf.SlLaysE0
import Derived.RangeFuncRecord
import Derived.RangeFuncSeq
import Derived.Shelf.Strconv.Itoa3
import Derived.Shelf.Sort.Plain
import Derived.Shelf.Slices.In.CompactS
import Derived.Shelf.Slices.In.SortNone
noncomputable section
namespace Go.Proofs.YtbaamopmfmpfaaaGreatDoor
open Go Go.Proofs.Tryz
set_option linter.unusedVariables false
set_option maxRecDepth 100000
theorem OF:∀n,(∀l,Sh Pg n 102 l->∃x,l=bE x):=by
 intro n
 induction n using Nat.strongRecOn with
 | ind n ih =>
  cases n with
  |zero=>exact fun l h=>h.elim
  | succ n =>
   exact fun l h=>by
    unfold Sh at h
    rw[underlying102]at h
    obtain⟨a0,b0,rfl,_,h0,a1,b1,rfl,_,h1,rfl⟩:=h
    obtain⟨x0,rfl⟩:=(mK underlying9) n _ h0
    obtain⟨x1,rfl⟩:=(mK underlying47) n _ h1
    exact⟨(⟨x0,x1⟩:dh),by rw[IR];rfl⟩
theorem qS:∀n,(∀l,Sh Pg n 36 l->∃x,l=ac x):=by
 intro n
 induction n using Nat.strongRecOn with
 | ind n ih =>
  cases n with
  |zero=>exact fun l h=>h.elim
  | succ n =>
   exact fun l h=>by
    unfold Sh at h
    rw[underlying36]at h
    obtain⟨a0,b0,rfl,_,h0,a1,b1,rfl,_,h1,a2,b2,rfl,_,h2,a3,b3,rfl,_,h3,rfl⟩:=h
    obtain⟨x0,rfl⟩:=(RW underlying33) n _ h0
    obtain⟨x1,rfl⟩:=(mK underlying9) n _ h1
    obtain⟨x2,rfl⟩:=(RW underlying3) n _ h2
    obtain⟨x3,rfl⟩:=P3 underlying34 (c:=ac) (fun m hm=>(ih m (by omega))) _ h3
    exact⟨(⟨x0,x1,x2,x3⟩:aa),by rw[aF];rfl⟩
theorem qT:∀n,(∀l,Sh Pg n 38 l->∃x,l=af x):=by
 intro n
 induction n using Nat.strongRecOn with
 | ind n ih =>
  cases n with
  |zero=>exact fun l h=>h.elim
  | succ n =>
   exact fun l h=>by
    unfold Sh at h
    rw[underlying38]at h
    obtain⟨a0,b0,rfl,_,h0,a1,b1,rfl,_,h1,a2,b2,rfl,_,h2,a3,b3,rfl,_,h3,a4,b4,rfl,_,h4,a5,b5,rfl,_,h5,rfl⟩:=h
    obtain⟨x0,rfl⟩:=(RW underlying30) n _ h0
    obtain⟨x1,rfl⟩:=(mK underlying9) n _ h1
    obtain⟨x2,rfl⟩:=P3 underlying31 (c:=af) (fun m hm=>(ih m (by omega))) _ h2
    obtain⟨x3,rfl⟩:=(nV underlying32 (mK underlying9)) n _ h3
    obtain⟨x4,rfl⟩:=qS n _ h4
    obtain⟨x5,rfl⟩:=(nV underlying34 qS) n _ h5
    exact⟨(⟨x0,x1,x2,x3,x4,x5⟩:ae),by rw[bk];(try simp only[aF]);rfl⟩
theorem XY:∀n,(∀l,Sh Pg n 73 l->∃x,l=ef x):=by
 intro n
 induction n using Nat.strongRecOn with
 | ind n ih =>
  cases n with
  |zero=>exact fun l h=>h.elim
  | succ n =>
   exact fun l h=>by
    unfold Sh at h
    rw[underlying73]at h
    obtain⟨a0,b0,rfl,_,h0,a1,b1,rfl,_,h1,a2,b2,rfl,_,h2,rfl⟩:=h
    obtain⟨x0,rfl⟩:=(mK underlying9) n _ h0
    obtain⟨x1,rfl⟩:=(nV underlying32 (mK underlying9)) n _ h1
    obtain⟨x2,rfl⟩:=(nV underlying31 qT) n _ h2
    exact⟨(⟨x0,x1,x2⟩:iu),by rw[Om];rfl⟩
theorem V9:∀n,(∀l,Sh Pg n 71 l->∃x,l=co x):=by
 intro n
 induction n using Nat.strongRecOn with
 | ind n ih =>
  cases n with
  |zero=>exact fun l h=>h.elim
  | succ n =>
   exact fun l h=>by
    unfold Sh at h
    rw[underlying71]at h
    obtain⟨a0,b0,rfl,_,h0,a1,b1,rfl,_,h1,a2,b2,rfl,_,h2,a3,b3,rfl,_,h3,rfl⟩:=h
    obtain⟨x0,rfl⟩:=(mK underlying9) n _ h0
    obtain⟨x1,rfl⟩:=(nV underlying32 (mK underlying9)) n _ h1
    obtain⟨x2,rfl⟩:=(nV underlying60 OF) n _ h2
    obtain⟨x3,rfl⟩:=(nV underlying69 XY) n _ h3
    exact⟨(⟨x0,x1,x2,x3⟩:eS),by rw[tO];rfl⟩
theorem RX:∀n,(∀l,Sh Pg n 79 l->∃x,l=dF x):=by
 intro n
 induction n using Nat.strongRecOn with
 | ind n ih =>
  cases n with
  |zero=>exact fun l h=>h.elim
  | succ n =>
   exact fun l h=>by
    unfold Sh at h
    rw[underlying79]at h
    obtain⟨a0,b0,rfl,_,h0,a1,b1,rfl,_,h1,rfl⟩:=h
    obtain⟨x0,rfl⟩:=(mK underlying9) n _ h0
    obtain⟨x1,rfl⟩:=qT n _ h1
    exact⟨(⟨x0,x1⟩:qz),by rw[pE];(try simp only[bk]);(try simp only[aF]);rfl⟩
theorem Uj:∀n,(∀l,Sh Pg n 77 l->∃x,l=eP x):=by
 intro n
 induction n using Nat.strongRecOn with
 | ind n ih =>
  cases n with
  |zero=>exact fun l h=>h.elim
  | succ n =>
   exact fun l h=>by
    unfold Sh at h
    rw[underlying77]at h
    obtain⟨a0,b0,rfl,_,h0,a1,b1,rfl,_,h1,a2,b2,rfl,_,h2,rfl⟩:=h
    obtain⟨x0,rfl⟩:=(mK underlying9) n _ h0
    obtain⟨x1,rfl⟩:=(mK underlying9) n _ h1
    obtain⟨x2,rfl⟩:=(nV underlying75 RX) n _ h2
    exact⟨(⟨x0,x1,x2⟩:pd),by rw[Gh];rfl⟩
theorem P5:∀n,(∀l,Sh Pg n 247 l->∃x,l=gE x):=by
 intro n
 induction n using Nat.strongRecOn with
 | ind n ih =>
  cases n with
  |zero=>exact fun l h=>h.elim
  | succ n =>
   exact fun l h=>by
    unfold Sh at h
    rw[underlying247]at h
    obtain⟨a0,b0,rfl,_,h0,a1,b1,rfl,_,h1,rfl⟩:=h
    obtain⟨x0,rfl⟩:=(mK underlying9) n _ h0
    obtain⟨x1,rfl⟩:=(mK underlying9) n _ h1
    exact⟨(⟨x0,x1⟩:Bu),by rw[Kb];rfl⟩
theorem Uk:∀n,(∀l,Sh Pg n 125 l->∃x,l=dv x):=by
 intro n
 induction n using Nat.strongRecOn with
 | ind n ih =>
  cases n with
  |zero=>exact fun l h=>h.elim
  | succ n =>
   exact fun l h=>by
    unfold Sh at h
    rw[underlying125]at h
    obtain⟨a0,b0,rfl,_,h0,a1,b1,rfl,_,h1,rfl⟩:=h
    obtain⟨x0,rfl⟩:=(mK underlying9) n _ h0
    obtain⟨x1,rfl⟩:=qT n _ h1
    exact⟨(⟨x0,x1⟩:nF),by rw[nK];(try simp only[bk]);(try simp only[aF]);rfl⟩
theorem OD:∀n,(∀l,Sh Pg n 97 l->∃x,l=aP x)/\(∀l,Sh Pg n 127 l->∃x,l=eI x):=by
 intro n
 induction n using Nat.strongRecOn with
 | ind n ih =>
  cases n with
  |zero=>exact⟨fun l h=>h.elim,fun l h=>h.elim⟩
  | succ n =>
   exact⟨(fun l h=>by
    unfold Sh at h
    rw[underlying97]at h
    obtain⟨a0,b0,rfl,_,h0,a1,b1,rfl,_,h1,a2,b2,rfl,_,h2,a3,b3,rfl,_,h3,a4,b4,rfl,_,h4,a5,b5,rfl,_,h5,a6,b6,rfl,_,h6,rfl⟩:=h
    obtain⟨x0,rfl⟩:=(RW underlying92) n _ h0
    obtain⟨x1,rfl⟩:=(mK underlying9) n _ h1
    obtain⟨x2,rfl⟩:=(RW underlying3) n _ h2
    obtain⟨x3,rfl⟩:=P3 underlying93 (c:=aP) (fun m hm=>(ih m (by omega)).1) _ h3
    obtain⟨x4,rfl⟩:=(nV underlying94 Uk) n _ h4
    obtain⟨x5,rfl⟩:=P3 underlying95 (c:=eI) (fun m hm=>(ih m (by omega)).2) _ h5
    obtain⟨x6,rfl⟩:=(nV underlying31 qT) n _ h6
    exact⟨(⟨x0,x1,x2,x3,x4,x5,x6⟩:bL),by rw[dC];rfl⟩),(fun l h=>by
    unfold Sh at h
    rw[underlying127]at h
    obtain⟨a0,b0,rfl,_,h0,a1,b1,rfl,_,h1,a2,b2,rfl,_,h2,rfl⟩:=h
    obtain⟨x0,rfl⟩:=(mK underlying9) n _ h0
    obtain⟨x1,rfl⟩:=(nV underlying32 (mK underlying9)) n _ h1
    obtain⟨x2,rfl⟩:=(ih n (vco n)).1 _ h2
    exact⟨(⟨x0,x1,x2⟩:rf),by rw[qm];(try simp only[dC]);rfl⟩)⟩
theorem Wa:In Pg 97 aP:=fun n=>(OD n).1
theorem XX:∀n,(∀l,Sh Pg n 248 l->∃x,l=nr x):=by
 intro n
 induction n using Nat.strongRecOn with
 | ind n ih =>
  cases n with
  |zero=>exact fun l h=>h.elim
  | succ n =>
   exact fun l h=>by
    unfold Sh at h
    rw[underlying248]at h
    obtain⟨a0,b0,rfl,_,h0,a1,b1,rfl,_,h1,rfl⟩:=h
    obtain⟨x0,rfl⟩:=(mK underlying9) n _ h0
    obtain⟨x1,rfl⟩:=(mK underlying47) n _ h1
    exact⟨(⟨x0,x1⟩:Mp),by rw[Ol];rfl⟩
theorem Ui:∀n,(∀l,Sh Pg n 124 l->∃x,l=cD x):=by
 intro n
 induction n using Nat.strongRecOn with
 | ind n ih =>
  cases n with
  |zero=>exact fun l h=>h.elim
  | succ n =>
   exact fun l h=>by
    unfold Sh at h
    rw[underlying124]at h
    obtain⟨a0,b0,rfl,_,h0,a1,b1,rfl,_,h1,a2,b2,rfl,_,h2,a3,b3,rfl,_,h3,rfl⟩:=h
    obtain⟨x0,rfl⟩:=(mK underlying9) n _ h0
    obtain⟨x1,rfl⟩:=(nV underlying60 OF) n _ h1
    obtain⟨x2,rfl⟩:=qS n _ h2
    obtain⟨x3,rfl⟩:=qS n _ h3
    exact⟨(⟨x0,x1,x2,x3⟩:kY),by rw[jY];(try simp only[aF]);rfl⟩
theorem XZ:∀n,(∀l,Sh Pg n 120 l->∃x,l=yn x):=by
 intro n
 induction n using Nat.strongRecOn with
 | ind n ih =>
  cases n with
  |zero=>exact fun l h=>h.elim
  | succ n =>
   exact fun l h=>by
    unfold Sh at h
    rw[underlying120]at h
    obtain⟨a0,b0,rfl,_,h0,a1,b1,rfl,_,h1,a2,b2,rfl,_,h2,a3,b3,rfl,_,h3,a4,b4,rfl,_,h4,a5,b5,rfl,_,h5,rfl⟩:=h
    obtain⟨x0,rfl⟩:=(nV underlying32 (mK underlying9)) n _ h0
    obtain⟨x1,rfl⟩:=(nV underlying80 P5) n _ h1
    obtain⟨x2,rfl⟩:=(nV underlying117 XX) n _ h2
    obtain⟨x3,rfl⟩:=(nV underlying118 Ui) n _ h3
    obtain⟨x4,rfl⟩:=qT n _ h4
    obtain⟨x5,rfl⟩:=(nV underlying34 qS) n _ h5
    exact⟨(⟨x0,x1,x2,x3,x4,x5⟩:U4),by rw[EG];(try simp only[bk]);(try simp only[aF]);rfl⟩
theorem S4:∀n,(∀l,Sh Pg n 122 l->∃x,l=cT x):=by
 intro n
 induction n using Nat.strongRecOn with
 | ind n ih =>
  cases n with
  |zero=>exact fun l h=>h.elim
  | succ n =>
   exact fun l h=>by
    unfold Sh at h
    rw[underlying122]at h
    obtain⟨a0,b0,rfl,_,h0,a1,b1,rfl,_,h1,a2,b2,rfl,_,h2,a3,b3,rfl,_,h3,a4,b4,rfl,_,h4,a5,b5,rfl,_,h5,rfl⟩:=h
    obtain⟨x0,rfl⟩:=(mK underlying9) n _ h0
    obtain⟨x1,rfl⟩:=(nV underlying32 (mK underlying9)) n _ h1
    obtain⟨x2,rfl⟩:=Wa n _ h2
    obtain⟨x3,rfl⟩:=(RW underlying116) n _ h3
    obtain⟨x4,rfl⟩:=(qcO underlying4) n _ h4
    obtain⟨x5,rfl⟩:=XZ n _ h5
    exact⟨(⟨x0,x1,x2,x3,x4,x5⟩:pj),by rw[mW];(try simp only[dC]);(try simp only[EG]);(try simp only[bk]);(try simp only[aF]);rfl⟩
theorem OE:∀n,(∀l,Sh Pg n 82 l->∃x,l=bP x):=by
 intro n
 induction n using Nat.strongRecOn with
 | ind n ih =>
  cases n with
  |zero=>exact fun l h=>h.elim
  | succ n =>
   exact fun l h=>by
    unfold Sh at h
    rw[underlying82]at h
    obtain⟨a0,b0,rfl,_,h0,a1,b1,rfl,_,h1,a2,b2,rfl,_,h2,a3,b3,rfl,_,h3,rfl⟩:=h
    obtain⟨x0,rfl⟩:=(mK underlying9) n _ h0
    obtain⟨x1,rfl⟩:=qT n _ h1
    obtain⟨x2,rfl⟩:=(nV underlying80 P5) n _ h2
    obtain⟨x3,rfl⟩:=(nV underlying27 S4) n _ h3
    exact⟨(⟨x0,x1,x2,x3⟩:dI),by rw[fb];(try simp only[bk]);(try simp only[aF]);rfl⟩
theorem V8:∀n,(∀l,Sh Pg n 88 l->∃x,l=fa x):=by
 intro n
 induction n using Nat.strongRecOn with
 | ind n ih =>
  cases n with
  |zero=>exact fun l h=>h.elim
  | succ n =>
   exact fun l h=>by
    unfold Sh at h
    rw[underlying88]at h
    obtain⟨a0,b0,rfl,_,h0,a1,b1,rfl,_,h1,a2,b2,rfl,_,h2,rfl⟩:=h
    obtain⟨x0,rfl⟩:=(mK underlying9) n _ h0
    obtain⟨x1,rfl⟩:=(nV underlying32 (mK underlying9)) n _ h1
    obtain⟨x2,rfl⟩:=qS n _ h2
    exact⟨(⟨x0,x1,x2⟩:y9),by rw[qP];(try simp only[aF]);rfl⟩
theorem P4:∀n,(∀l,Sh Pg n 86 l->∃x,l=cG x):=by
 intro n
 induction n using Nat.strongRecOn with
 | ind n ih =>
  cases n with
  |zero=>exact fun l h=>h.elim
  | succ n =>
   exact fun l h=>by
    unfold Sh at h
    rw[underlying86]at h
    obtain⟨a0,b0,rfl,_,h0,a1,b1,rfl,_,h1,a2,b2,rfl,_,h2,a3,b3,rfl,_,h3,a4,b4,rfl,_,h4,rfl⟩:=h
    obtain⟨x0,rfl⟩:=(mK underlying9) n _ h0
    obtain⟨x1,rfl⟩:=(mK underlying9) n _ h1
    obtain⟨x2,rfl⟩:=(mK underlying47) n _ h2
    obtain⟨x3,rfl⟩:=(nV underlying84 V8) n _ h3
    obtain⟨x4,rfl⟩:=qS n _ h4
    exact⟨(⟨x0,x1,x2,x3,x4⟩:f0),by rw[i8];(try simp only[aF]);rfl⟩
theorem Wb:∀n,(∀l,Sh Pg n 90 l->∃x,l=eM x):=by
 intro n
 induction n using Nat.strongRecOn with
 | ind n ih =>
  cases n with
  |zero=>exact fun l h=>h.elim
  | succ n =>
   exact fun l h=>by
    unfold Sh at h
    rw[underlying90]at h
    obtain⟨a0,b0,rfl,_,h0,a1,b1,rfl,_,h1,a2,b2,rfl,_,h2,rfl⟩:=h
    obtain⟨x0,rfl⟩:=(mK underlying9) n _ h0
    obtain⟨x1,rfl⟩:=(nV underlying60 OF) n _ h1
    obtain⟨x2,rfl⟩:=qS n _ h2
    exact⟨(⟨x0,x1,x2⟩:rY),by rw[qQ];(try simp only[aF]);rfl⟩
theorem RY:∀n,(∀l,Sh Pg n 29 l->∃x,l=aC x):=by
 intro n
 induction n using Nat.strongRecOn with
 | ind n ih =>
  cases n with
  |zero=>exact fun l h=>h.elim
  | succ n =>
   exact fun l h=>by
    unfold Sh at h
    rw[underlying29]at h
    obtain⟨a0,b0,rfl,_,h0,a1,b1,rfl,_,h1,a2,b2,rfl,_,h2,a3,b3,rfl,_,h3,a4,b4,rfl,_,h4,a5,b5,rfl,_,h5,rfl⟩:=h
    obtain⟨x0,rfl⟩:=(nV underlying22 V9) n _ h0
    obtain⟨x1,rfl⟩:=(nV underlying23 Uj) n _ h1
    obtain⟨x2,rfl⟩:=(nV underlying24 OE) n _ h2
    obtain⟨x3,rfl⟩:=(nV underlying25 P4) n _ h3
    obtain⟨x4,rfl⟩:=(nV underlying26 Wb) n _ h4
    obtain⟨x5,rfl⟩:=(nV underlying27 S4) n _ h5
    exact⟨(⟨x0,x1,x2,x3,x4,x5⟩:aQ),by rw[tP];rfl⟩
theorem wg:∀n,(∀l,Sh Pg n 40 l->∃x,l=ay x):=by
 intro n
 induction n using Nat.strongRecOn with
 | ind n ih =>
  cases n with
  |zero=>exact fun l h=>h.elim
  | succ n =>
   exact fun l h=>by
    unfold Sh at h
    rw[underlying40]at h
    obtain⟨a0,b0,rfl,_,h0,a1,b1,rfl,_,h1,a2,b2,rfl,_,h2,rfl⟩:=h
    obtain⟨x0,rfl⟩:=qT n _ h0
    obtain⟨x1,rfl⟩:=qT n _ h1
    obtain⟨x2,rfl⟩:=(RW underlying3) n _ h2
    exact⟨(⟨x0,x1,x2⟩:aD),by rw[bX];(try simp only[bk]);(try simp only[aF]);rfl⟩
end Go.Proofs.YtbaamopmfmpfaaaGreatDoor
namespace Go.Proofs
open Go.Shelf
noncomputable def Tryz.laysM171_ren : Go.Shelf.Ren := ⟨fun | 171 => 95 | 243 => 112 | 246 => 118 | 283 => 133 | 284 => 134 | 285 => 135 | 286 => 136 | 129 => 147 | 317 => 146 | 318 => 148 | 319 => 149 | 320 => 150 | 337 => 154 | 338 => 155 | n => n, fun | 3 => 3 | 9 => 9 | 2 => 2 | 4 => 4 | 171 => 184 | 0 => 0 | 53 => 185 | 37 => 158 | 5 => 5 | 173 => 188 | 212 => 197 | 51 => 198 | 20 => 20 | 213 => 199 | 46 => 200 | 232 => 205 | 233 => 206 | n => n, fun | 17 => 0 | 18 => 1 | 19 => 2 | n => n⟩
theorem Tryz.laysM171 : Go.Proofs.LaysM.n171 Tryz.prog Tryz.laysM171_ren := {
 mixed := by kernel_rfl
 f129 := Tryz.func147.trans (congrArg some (by kernel_rfl))
 f171 := Tryz.func95.trans (congrArg some (by kernel_rfl))
 f243 := Tryz.func112.trans (congrArg some (by kernel_rfl))
 f246 := Tryz.func118.trans (congrArg some (by kernel_rfl))
 f283 := Tryz.func133.trans (congrArg some (by kernel_rfl))
 f284 := Tryz.func134.trans (congrArg some (by kernel_rfl))
 f285 := Tryz.func135.trans (congrArg some (by kernel_rfl))
 f286 := Tryz.func136.trans (congrArg some (by kernel_rfl))
 f317 := Tryz.func146.trans (congrArg some (by kernel_rfl))
 f318 := Tryz.func148.trans (congrArg some (by kernel_rfl))
 f319 := Tryz.func149.trans (congrArg some (by kernel_rfl))
 f320 := Tryz.func150.trans (congrArg some (by kernel_rfl))
 f337 := Tryz.func154.trans (congrArg some (by kernel_rfl))
 f338 := Tryz.func155.trans (congrArg some (by kernel_rfl))
 t0 := Tryz.underlying0
 a0 := Tryz.isAgg0
 z0 := Tryz.sizeOf0
 v0 := Tryz.zeroValue0
 t2 := Tryz.underlying2
 a2 := Tryz.isAgg2
 z2 := Tryz.sizeOf2
 v2 := Tryz.zeroValue2
 t3 := Tryz.underlying3
 a3 := Tryz.isAgg3
 z3 := Tryz.sizeOf3
 v3 := Tryz.zeroValue3
 t4 := Tryz.underlying4
 a4 := Tryz.isAgg4
 z4 := Tryz.sizeOf4
 v4 := Tryz.zeroValue4
 t5 := Tryz.underlying5
 a5 := Tryz.isAgg5
 z5 := Tryz.sizeOf5
 v5 := Tryz.zeroValue5
 t9 := Tryz.underlying9
 a9 := Tryz.isAgg9
 z9 := Tryz.sizeOf9
 v9 := Tryz.zeroValue9
 t20 := Tryz.underlying20
 a20 := Tryz.isAgg20
 z20 := Tryz.sizeOf20
 v20 := Tryz.zeroValue20
 t37 := Tryz.underlying158
 a37 := Tryz.isAgg158
 z37 := Tryz.sizeOf158
 v37 := Tryz.zeroValue158
 t46 := Tryz.underlying200
 a46 := Tryz.isAgg200
 z46 := Tryz.sizeOf200
 v46 := Tryz.zeroValue200
 t51 := Tryz.underlying198
 a51 := Tryz.isAgg198
 z51 := Tryz.sizeOf198
 v51 := Tryz.zeroValue198
 t53 := Tryz.underlying185
 a53 := Tryz.isAgg185
 z53 := Tryz.sizeOf185
 v53 := Tryz.zeroValue185
 t171 := Tryz.underlying184
 a171 := Tryz.isAgg184
 z171 := Tryz.sizeOf184
 v171 := Tryz.zeroValue184
 t173 := Tryz.underlying188
 a173 := Tryz.isAgg188
 z173 := Tryz.sizeOf188
 v173 := Tryz.zeroValue188
 t212 := Tryz.underlying197
 a212 := Tryz.isAgg197
 z212 := Tryz.sizeOf197
 v212 := Tryz.zeroValue197
 t213 := Tryz.underlying199
 a213 := Tryz.isAgg199
 z213 := Tryz.sizeOf199
 t232 := Tryz.underlying205
 a232 := Tryz.isAgg205
 z232 := Tryz.sizeOf205
 v232 := Tryz.zeroValue205
 t233 := Tryz.underlying206
 a233 := Tryz.isAgg206
 z233 := Tryz.sizeOf206
 v233 := Tryz.zeroValue206
 g17 := by kernel_rfl
 g18 := by kernel_rfl
 g19 := by kernel_rfl
 i0 := by kernel_rfl
 i2 := by kernel_rfl
 i3 := by kernel_rfl
 i4 := by kernel_rfl
 i5 := by kernel_rfl
 i9 := by kernel_rfl
 i20 := by kernel_rfl
 i37 := by kernel_rfl
 i46 := by kernel_rfl
 i51 := by kernel_rfl
 i53 := by kernel_rfl
 i171 := by kernel_rfl
 i173 := by kernel_rfl
 i212 := by kernel_rfl
 i232 := by kernel_rfl
 i233 := by kernel_rfl
 m17 := by kernel_rfl
 m18 := by kernel_rfl
 m19 := by kernel_rfl }
noncomputable def Tryz.lays190_ren : Go.Shelf.Ren := ⟨fun | 190 => 160 | 125 => 165 | 258 => 164 | 128 => 175 | 129 => 147 | 302 => 166 | 303 => 167 | 304 => 168 | 305 => 169 | 306 => 170 | 307 => 171 | 308 => 172 | 309 => 173 | 310 => 174 | 333 => 176 | 329 => 177 | 330 => 178 | 334 => 179 | 335 => 180 | 336 => 181 | 344 => 182 | n => n, fun | 31 => 32 | 9 => 9 | 3 => 3 | 46 => 200 | 0 => 0 | 51 => 198 | 53 => 185 | 4 => 4 | 183 => 215 | 182 => 214 | 131 => 220 | 5 => 5 | 218 => 222 | 222 => 226 | 228 => 228 | 229 => 229 | n => n, fun | n => n⟩
theorem Tryz.lays190 : Go.Proofs.Lays.n190 Tryz.prog Tryz.lays190_ren := {
 mixed := by kernel_rfl
 f125 := Tryz.func165.trans (congrArg some (by kernel_rfl))
 f128 := Tryz.func175.trans (congrArg some (by kernel_rfl))
 f129 := Tryz.func147.trans (congrArg some (by kernel_rfl))
 f190 := Tryz.func160.trans (congrArg some (by kernel_rfl))
 f258 := Tryz.func164.trans (congrArg some (by kernel_rfl))
 f302 := Tryz.func166.trans (congrArg some (by kernel_rfl))
 f303 := Tryz.func167.trans (congrArg some (by kernel_rfl))
 f304 := Tryz.func168.trans (congrArg some (by kernel_rfl))
 f305 := Tryz.func169.trans (congrArg some (by kernel_rfl))
 f306 := Tryz.func170.trans (congrArg some (by kernel_rfl))
 f307 := Tryz.func171.trans (congrArg some (by kernel_rfl))
 f308 := Tryz.func172.trans (congrArg some (by kernel_rfl))
 f309 := Tryz.func173.trans (congrArg some (by kernel_rfl))
 f310 := Tryz.func174.trans (congrArg some (by kernel_rfl))
 f329 := Tryz.func177.trans (congrArg some (by kernel_rfl))
 f330 := Tryz.func178.trans (congrArg some (by kernel_rfl))
 f333 := Tryz.func176.trans (congrArg some (by kernel_rfl))
 f334 := Tryz.func179.trans (congrArg some (by kernel_rfl))
 f335 := Tryz.func180.trans (congrArg some (by kernel_rfl))
 f336 := Tryz.func181.trans (congrArg some (by kernel_rfl))
 f344 := Tryz.func182.trans (congrArg some (by kernel_rfl))
 t0 := Tryz.underlying0
 a0 := Tryz.isAgg0
 z0 := Tryz.sizeOf0
 v0 := Tryz.zeroValue0
 t3 := Tryz.underlying3
 a3 := Tryz.isAgg3
 z3 := Tryz.sizeOf3
 v3 := Tryz.zeroValue3
 t4 := Tryz.underlying4
 a4 := Tryz.isAgg4
 z4 := Tryz.sizeOf4
 v4 := Tryz.zeroValue4
 t5 := Tryz.underlying5
 a5 := Tryz.isAgg5
 z5 := Tryz.sizeOf5
 v5 := Tryz.zeroValue5
 t9 := Tryz.underlying9
 a9 := Tryz.isAgg9
 z9 := Tryz.sizeOf9
 v9 := Tryz.zeroValue9
 t31 := Tryz.underlying32
 a31 := Tryz.isAgg32
 z31 := Tryz.sizeOf32
 v31 := Tryz.zeroValue32
 t46 := Tryz.underlying200
 a46 := Tryz.isAgg200
 z46 := Tryz.sizeOf200
 v46 := Tryz.zeroValue200
 t51 := Tryz.underlying198
 a51 := Tryz.isAgg198
 z51 := Tryz.sizeOf198
 v51 := Tryz.zeroValue198
 t53 := Tryz.underlying185
 a53 := Tryz.isAgg185
 z53 := Tryz.sizeOf185
 v53 := Tryz.zeroValue185
 t131 := Tryz.underlying220
 a131 := Tryz.isAgg220
 z131 := Tryz.sizeOf220
 v131 := Tryz.zeroValue220
 t182 := Tryz.underlying214
 a182 := Tryz.isAgg214
 z182 := Tryz.sizeOf214
 v182 := Tryz.zeroValue214
 t183 := Tryz.underlying215
 a183 := Tryz.isAgg215
 z183 := Tryz.sizeOf215
 v183 := Tryz.zeroValue215
 t218 := Tryz.underlying222
 a218 := Tryz.isAgg222
 z218 := Tryz.sizeOf222
 v218 := Tryz.zeroValue222
 t222 := Tryz.underlying226
 a222 := Tryz.isAgg226
 z222 := Tryz.sizeOf226
 v222 := Tryz.zeroValue226
 t228 := Tryz.underlying228
 a228 := Tryz.isAgg228
 z228 := Tryz.sizeOf228
 v228 := Tryz.zeroValue228
 t229 := Tryz.underlying229
 a229 := Tryz.isAgg229
 z229 := Tryz.sizeOf229
 v229 := Tryz.zeroValue229 }
noncomputable def Tryz.lays194_ren : Go.Shelf.Ren := ⟨fun | 194 => 161 | n => n, fun | 31 => 32 | 9 => 9 | 3 => 3 | 4 => 4 | 0 => 0 | n => n, fun | n => n⟩
theorem Tryz.lays194 : Go.Proofs.Lays.n194 Tryz.prog Tryz.lays194_ren := {
 mixed := by kernel_rfl
 f194 := Tryz.func161.trans (congrArg some (by kernel_rfl))
 t0 := Tryz.underlying0
 a0 := Tryz.isAgg0
 z0 := Tryz.sizeOf0
 v0 := Tryz.zeroValue0
 t3 := Tryz.underlying3
 a3 := Tryz.isAgg3
 z3 := Tryz.sizeOf3
 v3 := Tryz.zeroValue3
 t4 := Tryz.underlying4
 a4 := Tryz.isAgg4
 z4 := Tryz.sizeOf4
 v4 := Tryz.zeroValue4
 t9 := Tryz.underlying9
 a9 := Tryz.isAgg9
 z9 := Tryz.sizeOf9
 v9 := Tryz.zeroValue9
 t31 := Tryz.underlying32
 a31 := Tryz.isAgg32
 z31 := Tryz.sizeOf32
 v31 := Tryz.zeroValue32 }
noncomputable def Tryz.lc64_ren : Go.Shelf.Ren := ⟨fun | 41 => 64 | n => n, fun | 22 => 60 | 23 => 102 | 4 => 4 | n => n, fun | n => n⟩
theorem Tryz.lc64 : Go.Proofs.SlLaysE0.n41 Tryz.prog Tryz.lc64_ren := {
 mixed := by kernel_rfl
 f41 := ⟨Tryz.f64.name, by decide, Tryz.func64.trans (congrArg some (by kernel_rfl))⟩
 t4 := Tryz.underlying4
 a4 := Tryz.isAgg4
 z4 := Tryz.sizeOf4
 v4 := Tryz.zeroValue4
 t22 := Tryz.underlying60
 a22 := Tryz.isAgg60
 z22 := Tryz.sizeOf60
 v22 := Tryz.zeroValue60 }
noncomputable def Tryz.lc66_ren : Go.Shelf.Ren := ⟨fun | 41 => 66 | n => n, fun | 22 => 34 | 23 => 36 | 4 => 4 | n => n, fun | n => n⟩
theorem Tryz.lc66 : Go.Proofs.SlLaysE0.n41 Tryz.prog Tryz.lc66_ren := {
 mixed := by kernel_rfl
 f41 := ⟨Tryz.f66.name, by decide, Tryz.func66.trans (congrArg some (by kernel_rfl))⟩
 t4 := Tryz.underlying4
 a4 := Tryz.isAgg4
 z4 := Tryz.sizeOf4
 v4 := Tryz.zeroValue4
 t22 := Tryz.underlying34
 a22 := Tryz.isAgg34
 z22 := Tryz.sizeOf34
 v22 := Tryz.zeroValue34 }
noncomputable def Tryz.lc81_ren : Go.Shelf.Ren := ⟨fun | 41 => 81 | n => n, fun | 22 => 32 | 23 => 9 | 4 => 4 | n => n, fun | n => n⟩
theorem Tryz.lc81 : Go.Proofs.SlLaysE0.n41 Tryz.prog Tryz.lc81_ren := {
 mixed := by kernel_rfl
 f41 := ⟨Tryz.f81.name, by decide, Tryz.func81.trans (congrArg some (by kernel_rfl))⟩
 t4 := Tryz.underlying4
 a4 := Tryz.isAgg4
 z4 := Tryz.sizeOf4
 v4 := Tryz.zeroValue4
 t22 := Tryz.underlying32
 a22 := Tryz.isAgg32
 z22 := Tryz.sizeOf32
 v22 := Tryz.zeroValue32 }
noncomputable def Tryz.lc98_ren : Go.Shelf.Ren := ⟨fun | 41 => 98 | n => n, fun | 22 => 31 | 23 => 38 | 4 => 4 | n => n, fun | n => n⟩
theorem Tryz.lc98 : Go.Proofs.SlLaysE0.n41 Tryz.prog Tryz.lc98_ren := {
 mixed := by kernel_rfl
 f41 := ⟨Tryz.f98.name, by decide, Tryz.func98.trans (congrArg some (by kernel_rfl))⟩
 t4 := Tryz.underlying4
 a4 := Tryz.isAgg4
 z4 := Tryz.sizeOf4
 v4 := Tryz.zeroValue4
 t22 := Tryz.underlying31
 a22 := Tryz.isAgg31
 z22 := Tryz.sizeOf31
 v22 := Tryz.zeroValue31 }
end Go.Proofs
namespace Go.Proofs.YtbaamopmfmpfaaaGreatDoor
open Go Go.Proofs.Tryz
set_option linter.unusedVariables false
set_option maxRecDepth 100000
theorem T0:lI Pg 64 102:=BI Tryz.lc64 rfl rfl (by kernel_rfl) call64
theorem J1{l r:List dh}(h:lP l=some r):CC Pg GE 64 [sl bE l] (sl bE r) [(0,102)]:=GT.cloneCC T0 h
theorem T1:lI Pg 66 36:=BI Tryz.lc66 rfl rfl (by kernel_rfl) call66
theorem RC{l r:List aa}(h:lP l=some r):CC Pg GE 66 [sl ac l] (sl ac r) [(0,36)]:=ck.cloneCC T1 h
theorem MJ:lI Pg 81 9:=BI Tryz.lc81 rfl rfl (by kernel_rfl) call81
theorem Do{l r:List ag}(h:lP l=some r):CC Pg GE 81 [sl cS l] (sl cS r) [(0,9)]:=bJ.cloneCC MJ h
theorem T2:lI Pg 98 38:=BI Tryz.lc98 rfl rfl (by kernel_rfl) call98
open Go
abbrev Pn(GE:List (Nat×List PVal))(Γ:ba)(w:World):rh:=⟨GE,Γ,w,fun _=>False⟩
structure NA(GE:List (Nat×List PVal))(Γ:ba)(w:World):Prop where
 wi:∀b n,Γ b=some n->∃c t fr,w.heap[b]? =some (.cells c t fr)/\n<=c.size
 gl:∀g cs,(g,cs)∈GE->VR Γ [] w (.eptr cs) (.pointer (some ⟨g,0,none⟩))
 gc:∀g cs,(g,cs)∈GE->ig 0 cs
 gx:∀g cs,(g,cs)∈GE->g<w.heap.size/\∃c t fr,w.heap[g]? =some (.cells c t fr)/\c.size=cs.length
theorem VR.clo{Γ:ba}{bs bs':bI}{w:World}{p:PVal}{v:Value}(h:VR Γ bs w p v)(hc:p.cl 0):VR Γ bs' w p v:=h.restrict (n:=0) hc fun i b hi _=>absurd hi (vaQ _)
section
variable{P:Program}{E:rh}{Γ:ba}{bs:bI}{ow:Nat->Option lK}{w:World}{a:Array Value}{st:az}
theorem SR.base(h:SR P E Γ bs ow w a st):NA E.GE Γ w where
 wi:=h.wi
 gl:=fun g cs hg=>(h.gl g cs hg).clo (by simp only[PVal.cl];exact h.gc g cs hg)
 gc:=h.gc
 gx:=fun g cs hg=>⟨(h.gnow hg).1,(h.gnow hg).2.2.2⟩
theorem NA.good{GE:List (Nat×List PVal)}(hB:NA GE Γ w):D4 GE 0 (Pn GE Γ w) where
 ge:=rfl
 low:=fun b n h=>by obtain⟨c,t,fr,h1,_⟩:=hB.wi b n h;exact(vaq.1 h1).1
 nt:=fun _ _ hb=>hb
 gl:=hB.gl
theorem NA.fresh{GE:List (Nat×List PVal)}(hB:NA GE Γ w)(k:Nat){tmps:List PVal}(hs:a.size=tmps.length)(hv:∀(t:Nat) p v,tmps[t]? =some p->a[t]? =some v->VR Γ [] w p v):SR P (Pn GE Γ w) Γ (List.replicate k none) (fun _=>none) w a ⟨tmps,List.replicate k .dead,[]⟩:=by
 have hno:∀(i b:Nat),(List.replicate k (none:Option Nat))[i]? =some (some b)->False:=fun i b h=>by
  rw[vaW]at h
  split at h<;>simp at h
 exact{
  wi:=hB.wi
  sz:=hs
  tm:=fun t p v hp hv'=>(hv t p v hp hv').mono (.refl _ _) (fun i b h=>by simp at h)
  bl:=by simp
  bx:=fun i b B hb=>(hno i b hb).elim
  inj:=fun i j b hb=>(hno i b hb).elim
  bn:=fun i b hb=>(hno i b hb).elim
  on:=fun b L hL=>by cases hL
  ot:=fun t k e he=>by simp at he
  ob:=fun i j e cs own b _ _ hb=>(hno i b hb).elim
  gl:=fun g cs hg=>(hB.gl g cs hg).mono (.refl _ _) (fun i b h=>by simp at h)
  gc:=hB.gc
  gx:=fun g cs hg=>⟨(hB.gx g cs hg).1,fun h=>h,(hB.gx g cs hg).2⟩
  step:=.refl _ _ _ _}
theorem SR.again(h:SR P E Γ bs ow w a st)(hc:ig 0 st.tmps){GE:List (Nat×List PVal)}{Γ':ba}{w':World}(hB:NA GE Γ' w')(hle:Γ.Le w Γ' w')(k:Nat):SR P (Pn GE Γ' w') Γ' (List.replicate k none) (fun _=>none) w' a ⟨st.tmps,List.replicate k .dead,[]⟩:=
 hB.fresh k h.sz fun t p v hp hv=>((h.tm t p v hp hv).clo (oz hc hp)).mono hle (.refl _)
theorem SR.aside(h:SR P E Γ bs ow w a st){GE:List (Nat×List PVal)}{Γ':ba}{bs':bI}{ow':Nat->Option lK}{w':World}{a':Array Value}{st':az}(h':SR P (Pn GE Γ w) Γ' bs' ow' w' a' st'):SR P E Γ' bs ow w' a st:=
 h.world (fun _=>False) h'.step.le h'.wi h'.step.os h'.step.tape h'.step.output h'.step.size (fun b hb _=>h'.step.keep b hb id) (fun _ hx=>hx.elim) (fun _ _ _ hx=>hx) (fun _ _ _ hx=>hx)
theorem SR.putOther(h:SR P E Γ bs ow w a st){l:Nat}{o:Obj}(hT:¬bY bs ow l)(hE:E.T l\/E.w.heap.size<=l)(ho:∀c t fr,w.heap[l]? ≠some (.cells c t fr)):SR P E Γ bs ow (w.putObj l o) a st/\Γ.Le w Γ (w.putObj l o):=by
 have hg:∀b n,Γ b=some n->b≠l:=fun b n hb e=>by
  obtain⟨c,t,fr,h1,_⟩:=h.wi b n hb
  exact ho c t fr (e▸h1)
 have hle:Γ.Le w Γ (w.putObj l o):=fun b n hb _=>⟨n,hb,vah _,fun k _=>cb (World.putObj_heap_other (hg b n hb)) k⟩
 refine⟨h.world (fun b=>b=l) hle (fun b n hb=>?_) rfl rfl rfl (by simp) (fun b _ hb=>⟨World.putObj_heap_other hb,rfl⟩) (fun b hb=>hb▸hE) (fun i b hb e=>hT (.inl ⟨i,e▸hb⟩)) (fun b L hL e=>hT (.inr (by rw[<-e,hL];simp))),hle⟩
 obtain⟨c,t,fr,h1,h2⟩:=h.wi b n hb
 exact⟨c,t,fr,(World.putObj_heap_other (hg b n hb)).trans h1,h2⟩
theorem SR.rebase(h:SR P E Γ bs ow w a st):SR P ⟨E.GE,Γ,w,bY bs ow⟩ Γ bs ow w a st:=
 { h with
  bn:=fun i b hb=>.inl (.inl ⟨i,hb⟩)
  on:=fun b L hL=>⟨(h.on b L hL).1,.inl (.inr (by rw[hL];simp))⟩
  gx:=fun g cs hg=>by
   obtain⟨k1,k2,k3,k4⟩:=h.gnow hg
   refine⟨k1,fun hT=>?_,k4⟩
   rcases hT with⟨i,hi⟩|hT
   ·exact k2 i g hi rfl
   ·exact hT k3
  step:=.refl _ _ _ _}
theorem SR.touchE(h:SR P E Γ bs ow w a st){b:Nat}(hb:bY bs ow b):E.T b\/E.w.heap.size<=b:=by
 rcases hb with⟨i,hi⟩|hb
 ·exact h.bn i b hi
 ·cases hL:ow b with
  |none=>exact absurd hL hb
  |some L=>exact(h.on b L hL).2
theorem SR.unbase(h:SR P E Γ bs ow w a st){Γ':ba}{bs':bI}{ow':Nat->Option lK}{w':World}{a':Array Value}{st':az}(h':SR P ⟨E.GE,Γ,w,bY bs ow⟩ Γ' bs' ow' w' a' st'):SR P E Γ' bs' ow' w' a' st':=by
 have hT:∀b,bY bs ow b\/w.heap.size<=b->E.T b\/E.w.heap.size<=b:=fun b hb=>hb.elim h.touchE fun hb=>.inr (vaI h.step.size hb)
 exact{h' with
  bn:=fun i b hb=>hT b (h'.bn i b hb)
  on:=fun b L hL=>⟨(h'.on b L hL).1,hT b (h'.on b L hL).2⟩
  gx:=h.gx
  step:={
   os:=h'.step.os.trans h.step.os
   tape:=h'.step.tape.trans h.step.tape
   output:=h'.step.output.trans h.step.output
   size:=vaI h.step.size h'.step.size
   keep:=fun b hb hTb=>by
    have hlt:b<w.heap.size:=vaG hb h.step.size
    have hn:¬bY bs ow b:=fun hx=>(h.touchE hx).elim hTb fun hx=>absurd hx (vcf.2 hb)
    obtain⟨k1,k2⟩:=h'.step.keep b hlt hn
    obtain⟨q1,q2⟩:=h.step.keep b hb hTb
    exact⟨k1.trans q1,k2.trans q2⟩
   le:=h.step.le.trans h'.step.le}}
theorem aT.on{m:Nat}{c:Code}{Q:Exit->az->Prop}(hS:aT P E.GE m c Q st)(hm:m≠0)(h:SR P E Γ bs ow w a st)(hl:m % 1000<=bs.length)(ro:Option Nat)(ds:List Deferred):ML ro P c (fun e a' w'=>a'.defers=ds/\∃Γ' bs' ow' st',SR P E Γ' bs' ow' w' a'.tmps st'/\Q e st'/\(∀i:Nat,i<m % 1000->bs'[i]? =bs[i]?)/\Γ.Le w Γ' w'/\w.heap.size<=w'.heap.size/\
   ∀b,b<w.heap.size->¬bY bs ow b->w'.heap[b]? =w.heap[b]?/\¬bY bs' ow' b) ⟨a,ds⟩ w:=by
 have hE:D4 E.GE m ⟨E.GE,Γ,w,bY bs ow⟩:={
  ge:=rfl
  low:=fun b n hb=>h.lt_of_ghost hb
  nt:=fun h0=>absurd h0 hm
  gl:=h.base.gl}
 have hlen:(bs.take (m % 1000)).length=m % 1000:=by simp;omega
 refine qN (hS ro ⟨E.GE,Γ,w,bY bs ow⟩ (bs.take (m % 1000)) ⟨a,ds⟩ w hE hlen ⟨Γ,bs,ow,h.rebase,fun i hi=>?_⟩) fun e a' w' hq=>?_
 ·rw[vao (by omega)]
 obtain⟨hd,st',⟨Γ',bs',ow',h',hk⟩,hQ⟩:=hq
 refine⟨hd,Γ',bs',ow',st',h.unbase h',hQ,fun i hi=>?_,h'.step.le,h'.step.size,fun b hb hT=>⟨(h'.step.keep b hb hT).1,fun hx=>?_⟩⟩
 ·rw[hk i (by omega),vao hi]
 ·exact(h'.touchE hx).elim hT fun hx=>absurd hx (vcf.2 hb)
theorem aT.wide{GE:List (Nat×List PVal)}{c:Code}{Q:Exit->az->Prop}{st0:az}(hS:aT P GE 0 c Q st0)(hB:NA GE Γ w){ow:Nat->Option lK}{bs:bI}(h:SR P (Pn GE Γ w) Γ bs ow w a st0)(n:Nat)(ds:List Deferred):c.wpIn Fence.wide n P (fun e a' w'=>a'.defers=ds/\∃Γ' bs' ow' st',SR P (Pn GE Γ w) Γ' bs' ow' w' a'.tmps st'/\Q e st') ⟨a,ds⟩ w:=
 wpIn_wide.2 (wp_mono (hS none (Pn GE Γ w) [] ⟨a,ds⟩ w hB.good rfl ⟨Γ,bs,ow,h,fun i hi=>absurd hi (vaQ _)⟩) fun e a' w' hq=>by
  obtain⟨hd,st',⟨Γ',bs',ow',h',_⟩,hQ⟩:=hq
  exact⟨hd,Γ',bs',ow',st',h',hQ⟩)
theorem aT.wideE{GE:List (Nat×List PVal)}{c:Code}{Q:Exit->az->Prop}(hS:aT P GE 0 c Q st)(hE:D4 GE 0 E)(h:SR P E Γ bs ow w a st)(n:Nat)(ds:List Deferred):c.wpIn Fence.wide n P (fun e a' w'=>a'.defers=ds/\∃Γ' bs' ow' st',SR P E Γ' bs' ow' w' a'.tmps st'/\Q e st') ⟨a,ds⟩ w:=
 wpIn_wide.2 (wp_mono (hS none E [] ⟨a,ds⟩ w hE rfl ⟨Γ,bs,ow,h,fun i hi=>absurd hi (vaQ _)⟩) fun e a' w' hq=>by
  obtain⟨hd,st',⟨Γ',bs',ow',h',_⟩,hQ⟩:=hq
  exact⟨hd,Γ',bs',ow',st',h',hQ⟩)
theorem SR.allocO(h:SR P E Γ bs ow w a st)(o:Obj):SR P E Γ bs ow (w.alloc o) a st/\Γ.Le w Γ (w.alloc o):=by
 have hlt:∀b n,Γ b=some n->b<w.heap.size:=fun b n hb=>h.lt_of_ghost hb
 have hle:Γ.Le w Γ (w.alloc o):=fun b n hb _=>⟨n,hb,vah _,fun k _=>cb (dX w o (hlt b n hb)) k⟩
 refine⟨h.world (fun _=>False) hle (fun b n hb=>?_) rfl rfl rfl (by simp[World.size_alloc]) (fun b hb _=>⟨dX w o hb,rfl⟩) (fun _ hx=>hx.elim) (fun _ _ _ hx=>hx) (fun _ _ _ hx=>hx),hle⟩
 obtain⟨c,t,fr,h1,h2⟩:=h.wi b n hb
 exact⟨c,t,fr,(dX w o (hlt b n hb)).trans h1,h2⟩
theorem SR.forgetT(h:SR P E Γ bs ow w a st){tm:List PVal}(hf:Iu st.tmps tm=tm):SR P E Γ bs ow w a {st with tmps:=tm}:=
 { h with
  sz:=by rw[h.sz,<-Ov (l:=st.tmps) (bs:=tm),hf]
  tm:=fun t p v hp hv=>by
   rw[<-hf]at hp
   rcases Ou hp with rfl|hp'
   ·exact .undef v
   ·exact h.tm t p v hp' hv}
theorem SR.back(h:SR P E Γ bs ow w a st)(ho:st.own=[]){Γ':ba}{bs':bI}{ow':Nat->Option lK}{w':World}{a':Array Value}{st':az}{H':List aG}(h':SR P E Γ' bs' ow' w' a' st')(hle:Γ.Le w Γ' w')
  (hbs:∀i:Nat,i<bs.length->bs'[i]? =bs[i]?) (hH:dc H'.length st'.boxes H') (hl:H'.length=bs.length):
  ∃ow'',SR P E Γ' bs ow'' w' a {st with boxes:=H'}/\∀b,bY bs ow'' b->bY bs' ow' b:=by
 have hf:=h'.finish (H':=H') (v:=undef) (r:=.undef) (src:=fun k=>(0,k)) (ro:=[]) (.undef _) trivial hH (fun x hx=>by simp at hx) (fun x hx=>by simp at hx)
 have hb:bs'.take H'.length=bs:=by
  obtain⟨h1,_⟩:=mH hH
  have h2:H'.length<=bs'.length:=by rw[h'.bl];exact h1
  refine vbk fun i=>?_
  by_cases hi:i<H'.length
  ·rw[vao hi];exact hbs i (by omega)
  ·rw[vb4 (by omega),vau (by omega)]
 rw[hb]at hf
 refine⟨_,{hf with
  sz:=h.sz
  tm:=fun t p v hp hv=>(h.tm t p v hp hv).mono hle (.refl _)
  ot:=fun t k e he=>by simp only[ho]at he;simp at he},fun b hb=>?_⟩
 rcases hb with⟨i,hi⟩|hb
 ·exact .inl ⟨i,(hbs i (am hi)).trans hi⟩
 ·refine .inr fun e=>hb ?_
  simp[CQ,e]
end
section
variable{P:Program}{n:Nat}{a:Act}{w:World}{mN:Act->World->Prop}{Q:Exit->Act->World->Prop}
theorem UH{o:Oper}(hd:fD o=true)(h:o.wp P a w mN Q):o.wpIn Fence.wide n P a w mN Q:=by
 refine⟨fun _ _=>trivial,?_⟩
 have hs:o.semAt (Fence.wide).round a.eval=execOp a.eval o:=Oper.semAt_eq _ _ _ fun c hc=>by unfold fD at hd;rw[hc]at hd;cases hd
 rw[hs]
 unfold Oper.wp at h
 generalize (execOp a.eval o).run P w=r at *
 have hdep:(Fence.wide).depth.isSome=true->1<=n:=fun h=>by simp[Fence.wide]at h
 cases r with
 | ok x w' =>
  cases x<;>simp only[Oper.upon]at h<;>simp only[Oper.uponIn]<;>first
   |exact h.elim
   |exact h
   |exact⟨hdep,callsIn_wide.2 h⟩
   | exact ⟨hdep,fun c cs _ => by
     obtain⟨v,w',r,s⟩:=h c cs
     exact⟨v,w',r,stepsIn_wide.2 s⟩⟩
 |halt x w'=>cases x<;>simp only[Oper.upon]at h<;>simp only[Oper.uponIn]<;>exact h
theorem TY{o:Oper}{f:Operand}{args:Array Operand}{tys:Array TypeId}(ho:o.op=.call {callee:=.value f,args:=args,argTypes:=tys}){g:FuncId}{fs cs:Array Value}(hf:a.eval f=.func (.func g) fs cs)
  (hc:∀vs w,(callFunc g vs).run P w=.ok (.enter g vs) w) {R:Ending->World->Prop} (h:CallsIn Fence.wide (n - 1) P g (fs++args.map a.eval++cs) w R) (hR:∀e w',R e w'->∃v,e=.returned v/\mN (a.put o.dst v) w'):o.wpIn Fence.wide n P a w mN Q:=by
 refine⟨fun _ _=>trivial,?_⟩
 have hs:o.semAt (Fence.wide).round a.eval=execOp a.eval o:=Oper.semAt_eq _ _ _ fun c hc=>by rw[ho]at hc;cases hc
 have hrun:(execOp a.eval o).run P w=.ok (.enter g (fs++args.map a.eval++cs)) w:=by
  simp[execOp,ho,resolve,hf,Deferred.ofValue,invoke,hc]
 rw[hs,hrun,Oper.uponIn_enter]
 refine⟨fun h=>by simp[Fence.wide]at h,h.mono fun e w' hr=>?_⟩
 obtain⟨v,rfl,hx⟩:=hR e w' hr
 exact hx
theorem SC{o:Oper}{f:Operand}{args:Array Operand}{tys:Array TypeId}(ho:o.op=.call {callee:=.value f,args:=args,argTypes:=tys}){l:Nat}(hf:a.eval f=.func (.yield l) #[] #[])
  {R:Ending->World->Prop} (h:YieldAt Fence.wide (n - 1) P l (args.map a.eval) w R) (hR:∀e w',R e w'->∃v,e=.returned v/\mN (a.put o.dst v) w'):o.wpIn Fence.wide n P a w mN Q:=by
 refine⟨fun _ _=>trivial,?_⟩
 have hs:o.semAt (Fence.wide).round a.eval=execOp a.eval o:=Oper.semAt_eq _ _ _ fun c hc=>by rw[ho]at hc;cases hc
 obtain⟨fn,tmps,assign,body,hy,hr⟩:=h
 have hrun:(execOp a.eval o).run P w=.ok (.round l fn tmps assign body) w:=by
  simp[execOp,ho,resolve,hf,Deferred.ofValue,invoke,hy]
 rw[hs,hrun,Oper.uponIn_round]
 refine⟨fun h=>by simp[Fence.wide]at h,hr.mono fun e w' hr=>?_⟩
 obtain⟨v,rfl,hx⟩:=hR e w' hr
 exact hx
theorem DI{ops:Array Oper}{i:Nat}{rest:List Nat}{o:Oper}(ho:ops[i]? =some o)(hg:o.guard=none)(h:o.wpIn Fence.wide n P a w (wpOpsIn Fence.wide n P ops Q rest) Q):wpOpsIn Fence.wide n P ops Q (i::rest) a w:=by
 unfold wpOpsIn
 simp only[ho,Region.wanted,hg,if_true]
 exact h
theorem BS{E:rh}{A:List Nat}{ops:Array Oper}{K:az->Prop}{rest:List Nat}{ds:List Deferred}
  (hK:∀Γ bs ow a w st,SR P E Γ bs ow w a st->K st->wpOpsIn Fence.wide n P ops Q rest ⟨a,ds⟩ w):
  ∀(L:List Oper) (is:List Nat) (Γ:ba) (bs:bI) (ow:Nat->Option lK) (a:Array Value) (w:World) (st:az),is.map (fun i=>ops[i]?)=L.map some->
   (∀o∈L,o.guard=none/\fD o=true/\aH o.op=false)->SR P E Γ bs ow w a st->cY P E.GE A ops K L 0 st->wpOpsIn Fence.wide n P ops Q (is++rest) ⟨a,ds⟩ w
 |[],[],Γ,bs,ow,a,w,st,_,_,h,hp=>hK Γ bs ow a w st h hp
 |o::L,i::is,Γ,bs,ow,a,w,st,hi,hg,h,hp=>by
  obtain⟨g1,g2,g3⟩:=hg o (by simp)
  unfold cY at hp
  simp only[g1]at hp
  simp only[vax,vbu]at hi
  refine DI hi.1 g1 (UH g2 (Oper.wp_mono (fun a' w' hA=>?_) (Fk (a:=⟨a,ds⟩) h (fun hm=>by rw[g3]at hm;cases hm) hp Q)))
  obtain⟨hd,Γ',bs',ow',st',h1,h2,_⟩:=hA
  obtain⟨a1,ds1⟩:=a'
  simp only at hd h1
  subst hd
  refine BS (A:=A) hK L is Γ' bs' ow' a1 w' st' hi.2 (fun o ho=>hg o (vaZ _ ho)) h1 ?_
  rw[g3]at h2
  exact h2
end
def mO:Code->Array Oper
 |.region _ ops _=>ops
 |_=>#[]
def qcc:Code->Nat
 |.region id _ _=>id
 |_=>0
def Tj(c:Code)(i:Nat):Oper:=(mO c)[i]?.getD default
def qad(o:Oper):Array TypeId:=match o.op with
 |.call c=>c.argTypes
 |_=>#[]
def KO(o:Oper):Bool:=o.guard.isNone&&fD o&&!aH o.op
theorem GF{L:List Oper}(h:L.all KO=true):∀o∈L,o.guard=none/\fD o=true/\aH o.op=false:=fun o ho=>by
 have:=vaw.1 h o ho
 simpa[KO,and_assoc]using this
theorem qw{P:Program}{GE:List (Nat×List PVal)}{A:List Nat}{ops:Array Oper}{K K':az->Prop}(hK:∀st,K st->K' st):∀(L:List Oper) (id:Nat) (st:az),cY P GE A ops K L id st->cY P GE A ops K' L id st
 |[],_,st,h=>hK st h
 | o :: L,id,st,h => by
  unfold cY at h ⊢
  split at h
  ·exact Bl (fun st hx=>qw hK L _ st hx) h
  ·split at h
   ·exact⟨fun hx=>Bl (fun st hx=>qw hK L _ st hx) (h.1 hx),fun hx=>qw hK L _ _ (h.2 hx)⟩
   ·exact h
theorem qdp{P:Program}{m:Nat}{sc:List It}{F:Prop}{st st0:az}(h:PS sc F)(he:F=Vb m sc st (fun _ st'=>FG st' st0)):sC P m st st0:=by
 obtain⟨_,st',hw,hf⟩:=Ox (P:=P) (Eq.mp he h)
 exact hw.trans hf.weak
theorem aT.thenW{P:Program}{GE:List (Nat×List PVal)}{m:Nat}{c:Code}{e:Exit}{st0 st1 st2:az}(h:aT P GE m c (EX e st1) st0)(hw:sC P m st1 st2):aT P GE m c (EX e st2) st0:=
 h.mono fun e' st' hx=>⟨st2,hx.2▸hw,hx.1,rfl⟩
theorem Fa{P:Program}{GE:List (Nat×List PVal)}{A:List Nat}{ops:Array Oper}{L:List Oper}{st st0:az}{sc:List It}{F:Prop}(h:PS sc F)(he:F=J8 P GE A ops (fun _ st=>FG st st0) L 0 0 sc st):cY P GE A ops (fun st=>FG st st0) L 0 st:=
 qw (fun st ⟨_,hx⟩=>hx) L 0 st (yu L 0 0 sc st (Eq.mp he h))
theorem FG.sr{P:Program}{E:rh}{Γ:ba}{bs:bI}{ow:Nat->Option lK}{w:World}{a:Array Value}{st st0:az}(h:SR P E Γ bs ow w a st)(hf:FG st st0):∃Γ' bs' ow',SR P E Γ' bs' ow' w a st0:=by
 obtain⟨Γ',bs',ow',h',_⟩:=(hf.weak (P:=P) (m:=0)) E [] ⟨a,[]⟩ w rfl ⟨Γ,bs,ow,h,fun i hi=>absurd hi (vaQ _)⟩
 exact⟨Γ',bs',ow',h'⟩
structure Yd(P:Program)(GE:List (Nat×List PVal))(l:Nat){S α:Type}(c:α->List PVal)(step:S->α->Option (Bool×S))(J:Bool->S->ba->World->Prop):Prop where
 base:∀b s Γ w,J b s Γ w->NA GE Γ w
 side:∀b s Γ w,J b s Γ w->∀Γ' bs' ow' w' a' st',SR P (Pn GE Γ w) Γ' bs' ow' w' a' st'->J b s Γ' w'
 yield:∀s Γ w x v n r,J true s Γ w->VR Γ [] w (.agg (c x)) v->step s x=some r->YieldAt Fence.wide n P l #[v] w fun e w'=>∃Γ',e=.returned (.bool r.1)/\Γ.Le w Γ' w'/\J r.1 r.2 Γ' w'
section
variable{S:Type}(step:S->aa->Option (Bool×S))
mutual
def Pf:aa->S->Option (Bool×S)
 |⟨o,n,k,ks⟩,s=>(step s ⟨o,n,k,ks⟩).bind fun r=>match r.1 with
  |false=>some (false,r.2)
  |true=>if ks.length<4611686018427387904 then Pe ks r.2 else none
def Pe:List aa->S->Option (Bool×S)
 |[],s=>some (true,s)
 |p::ps,s=>(Pf p s).bind fun r=>match r.1 with
  |false=>some (false,r.2)
  |true=>Pe ps r.2
end
theorem YF(p:aa)(s:S):Pf step p s=(step s p).bind fun r=>match r.1 with
  |false=>some (false,r.2)
  |true=>if p.Kids.length<4611686018427387904 then Pe step p.Kids r.2 else none:=by
 obtain⟨o,n,k,ks⟩:=p
 rw[Pf];rfl
end
abbrev fV:Nat:=163
noncomputable def bV:Code:=f163.body.getD .skip
abbrev qcZ:Code:=fI bV [false]
abbrev YC:Code:=fI bV [true,false,false]
abbrev qdx:Code:=fI bV [true,false,true,false,false]
abbrev qdy:Code:=fI bV [true,true,false,false]
abbrev vL:Code:=fI bV [true,true,false,true,false,false]
abbrev qdz:Code:=fI bV [true,true,false,true,false,false,false]
abbrev qc0:Code:=fI bV [true,true,false,true,false,false,true,true,false,false,false]
abbrev YD:Code:=fI bV [true,true,false,true,false,false,true,true,false,false,true,false]
abbrev qdA:Code:=fI bV [true,true,false,true,false,false,true,true,false,false,true,true,false,false]
abbrev qdB:Code:=fI bV [true,true,false,true,false,false,true,true,true]
abbrev qdC:Code:=fI bV [true,true,true,false]
theorem qa2:bV=.seq qcZ (.seq (.seq YC (.cond (.tmp 10) (.seq qdx .ret) .skip)) (.seq (.seq qdy (.block 0 (.loop vL))) (.seq qdC .ret))):=by kernel_rfl
theorem qbI:vL=.seq qdz (.seq (.cond (.tmp 15) .skip (.exit 0)) (.seq (.block 1 (.seq qc0 (.seq YD (.cond (.tmp 21) (.seq qdA .ret) .skip)))) qdB)):=by kernel_rfl
abbrev yv(l:Nat):PVal:=.val (.func (.yield l) #[] #[])
abbrev Pq(p:aa):List PVal:=[.int .i64 p.Op,.str p.Name,.int .i64 p.N,sl ac p.Kids]
theorem qdi(p:aa):ig 0 (Pq p):=by have:=ah p;rwa[aF]at this
abbrev qc1(p:aa)(l:Nat):az:=aY 23 [(1,yv l),(2,.eptr (ac p))] [.dead] []
abbrev Zc(l:Nat)(ks:List aa)(i:Int):az:=aY 23 [(1,yv l),(12,sl ac ks),(13,.int .i64 (ks.length:Int)),(14,.int .i64 i)] [.dead] []
abbrev qc2(l:Nat)(ks:List aa)(i:Int)(x:aa):az:=aY 23 [(1,yv l),(6,.eptr (ac x)),(12,sl ac ks),(13,.int .i64 (ks.length:Int)),(14,.int .i64 i)] [.dead,.dead] []
theorem qec(p:aa)(l:Nat):aT Pg GE 0 qcZ (EX .normal (qc1 p l)) (aY 23 [(0,.agg (ac p)),(1,yv l)] [] []):=by
 have z:=sx (dn p)<|eF .normal (aY 23 [(1,yv l),(2,.bptr 0 0)] [.cells (Pq p) []] [])
 have h1:aT Pg GE 0 qcZ (EX .normal (aY 23 [(1,yv l),(2,.bptr 0 0)] [.cells (Pq p) []] [])) (aY 23 [(0,.agg (ac p)),(1,yv l)] [] []):=lU (A:=[]) mixed z (by kernel_rfl)
 have z2:=qbH 0 [Pq p] [1,2] [] (qdm (m:=0) (b:=0) rfl (Pq p) rfl) (qdn 0 (qdi p)) (qdo (l:=Pq p) (r:=Pq p) rfl)<|en (fr (aY 23 [(1,yv l),(2,.eptr (Pq p))] [.dead] []))
 have h2:=h1.thenW (st2:=aY 23 [(1,yv l),(2,.eptr (Pq p))] [.dead] []) (qdp z2 (by kernel_rfl))
 unfold qc1
 rw[aF]
 rw[aF]at h2
 exact h2
theorem qed(p:aa)(l:Nat):cY Pg GE [] (mO YC) (fun st=>FG st (aY 23 [(1,yv l),(2,.eptr (ac p)),(7,yv l),(8,.agg (ac p))] [.dead] [])) ((mO YC).toList.take 2) 0 (qc1 p l):=by
 have z:=sv (be p)<|en (fr (aY 23 [(1,yv l),(2,.eptr (ac p)),(7,yv l),(8,.agg (ac p))] [.dead] []))
 exact Fa z (by kernel_rfl)
theorem qc3(p:aa)(l:Nat)(b:Bool):cY Pg GE [] (mO YC) (fun st=>FG st (aY 23 [(1,yv l),(2,.eptr (ac p)),(10,.bool (!b))] [.dead] [])) ((mO YC).toList.drop 3) 0 (aY 23 [(1,yv l),(2,.eptr (ac p)),(7,yv l),(8,.agg (ac p)),(9,.bool b)] [.dead] []):=by
 have z:=en (fr (aY 23 [(1,yv l),(2,.eptr (ac p)),(10,.bool (!b))] [.dead] []))
 exact Fa z (by kernel_rfl)
abbrev vE(H:List aG)(b:Bool):az:=aY 23 [(4,.bool b)] H []
theorem qee(p:aa)(l:Nat):aT Pg GE 0 (.seq qdx .ret) (EX .ret (vE [.dead] false)) (aY 23 [(1,yv l),(2,.eptr (ac p)),(10,.bool true)] [.dead] []):=by
 have z:=eF .ret (vE [.dead] false)
 exact lU (A:=[]) mixed z (by kernel_rfl)
theorem qef(p:aa)(l:Nat):aT Pg GE 0 qdy (EX .normal (Zc l p.Kids 0)) (aY 23 [(1,yv l),(2,.eptr (ac p)),(10,.bool false)] [.dead] []):=by
 have z:=sv (bq p)<|sv (bu p)<|cz (ck.ln p.Kids)<|eF .normal (Zc l p.Kids 0)
 exact lU (A:=[]) mixed z (by kernel_rfl)
abbrev qat(l:Nat)(ks:List aa)(i:Int):az:=aY 23 [(1,yv l),(12,sl ac ks),(13,.int .i64 (ks.length:Int)),(14,.int .i64 i),(15,.bool (decide (i<(ks.length:Int))))] [.dead] []
theorem qeg(l:Nat)(ks:List aa)(i:Int):aT Pg GE 0 qdz (EX .normal (qat l ks i)) (Zc l ks i):=by
 have z:=eF .normal (qat l ks i)
 exact lU (A:=[]) mixed z (by kernel_rfl)
theorem qeh(l:Nat)(ks:List aa)(i:Int)(x:aa)(hx:cR ks i=some x):aT Pg GE 0 qc0 (EX .normal (qc2 l ks i x)) (qat l ks i):=by
 have z:=sv (ck.ia (k:=.i64) hx)<|sv (be x)<|sx lC<|sx (dn x)<|eF .normal (aY 23 [(1,yv l),(6,.bptr 1 0),(12,sl ac ks),(13,.int .i64 (ks.length:Int)),(14,.int .i64 i)] [.dead,.cells (Pq x) []] [])
 have h1:aT Pg GE 0 qc0 (EX .normal (aY 23 [(1,yv l),(6,.bptr 1 0),(12,sl ac ks),(13,.int .i64 (ks.length:Int)),(14,.int .i64 i)] [.dead,.cells (Pq x) []] [])) (qat l ks i):=lU (A:=[]) mixed z (by kernel_rfl)
 have z2:=qbH 1 [Pq x] [1,6,12,13,14] [] (qdm (m:=0) (b:=1) rfl (Pq x) rfl) (qdn 1 (qdi x)) (qdo (l:=Pq x) (r:=Pq x) rfl)<|sf (Vd 1 (p:=sl ac ks) (aq ah ks))<|en (fr (aY 23 [(1,yv l),(6,.eptr (Pq x)),(12,sl ac ks),(13,.int .i64 (ks.length:Int)),(14,.int .i64 i)] [.dead,.dead] []))
 have h2:=h1.thenW (st2:=aY 23 [(1,yv l),(6,.eptr (Pq x)),(12,sl ac ks),(13,.int .i64 (ks.length:Int)),(14,.int .i64 i)] [.dead,.dead] []) (qdp z2 (by kernel_rfl))
 unfold qc2
 rw[aF]
 exact h2
theorem qei(l:Nat)(ks:List aa)(i:Int)(x:aa):cY Pg GE [] (mO YD) (fun st=>FG st (aY 23 [(1,yv l),(12,sl ac ks),(13,.int .i64 (ks.length:Int)),(14,.int .i64 i),(18,.agg (ac x)),(19,yv l)] [.dead,.dead] [])) ((mO YD).toList.take 2) 0 (qc2 l ks i x):=by
 have z:=sv (be x)<|en (fr (aY 23 [(1,yv l),(12,sl ac ks),(13,.int .i64 (ks.length:Int)),(14,.int .i64 i),(18,.agg (ac x)),(19,yv l)] [.dead,.dead] []))
 exact Fa z (by kernel_rfl)
abbrev qdD(l:Nat)(ks:List aa)(i:Int)(x:aa)(b:Bool):az:=aY 23 [(1,yv l),(12,sl ac ks),(13,.int .i64 (ks.length:Int)),(14,.int .i64 i),(18,.agg (ac x)),(19,yv l),(20,.bool b)] [.dead,.dead] []
abbrev qbL(l:Nat)(ks:List aa)(i:Int)(b:Bool):az:=aY 23 [(1,yv l),(12,sl ac ks),(13,.int .i64 (ks.length:Int)),(14,.int .i64 i),(21,.bool (!b))] [.dead,.dead] []
theorem qc4(l:Nat)(ks:List aa)(i:Int)(x:aa)(b:Bool):cY Pg GE [] (mO YD) (fun st=>FG st (qbL l ks i b)) ((mO YD).toList.drop 3) 0 (qdD l ks i x b):=by
 have z:=en (fr (qbL l ks i b))
 exact Fa z (by kernel_rfl)
theorem qej(l:Nat)(ks:List aa)(i:Int):aT Pg GE 0 (.seq qdA .ret) (EX .ret (vE [.dead,.dead] false)) (qbL l ks i false):=by
 have z:=eF .ret (vE [.dead,.dead] false)
 exact lU (A:=[]) mixed z (by kernel_rfl)
theorem qek(l:Nat)(ks:List aa)(i:Int):aT Pg GE 0 qdB (EX .normal (⟨(Zc l ks (aR (i+1))).tmps,[.dead,.dead],[]⟩)) (qbL l ks i true):=by
 have z:=eF .normal (⟨(Zc l ks (aR (i+1))).tmps,[.dead,.dead],[]⟩)
 exact lU (A:=[]) mixed z (by kernel_rfl)
theorem qel(l:Nat)(ks:List aa)(i:Int):aT Pg GE 0 (.seq qdC .ret) (EX .ret (vE [.dead] true)) (qat l ks i):=by
 have z:=eF .ret (vE [.dead] true)
 exact lU (A:=[]) mixed z (by kernel_rfl)
theorem dB{n:Int}(h1: -9223372036854775808<=n)(h2:n<9223372036854775808):aR n=n:=qah h1 h2
theorem bv{α:Type}(l:List α)(i:Nat)(h:i<l.length):cR l (i:Int)=some l[i]:=by
 unfold cR
 rw[vak (by omega)]
 simp[h]
theorem V5(l:ag)(i:Nat)(h:i<l.length):sG l (i:Int)=some ((l[i].toNat:Int)):=by
 unfold sG;rw[bv l i h];rfl
theorem EO{α:Type}(c:α)(l:List α):cR (c::l) 0=some c:=by
 have:=bv (c::l) 0 (by simp)
 simpa using this
theorem Sy{α:Type}(l:List α)(i:Nat)(h:i<=l.length):Ld l none (some (i:Int))=some (l.take i):=by
 simp[Ld,bd,h]
theorem Fv{α:Type}(l:List α)(i:Nat)(h:i<=l.length):Ld l (some (i:Int)) none=some (l.drop i):=by
 simp[Ld,bd,h]
theorem dR{α:Type}{l r:List α}(h:l.length+r.length<=1073741824):app l r=some (l++r):=vak h
theorem JW{l r:ag}(h:l.length+r.length<=4611686018427387904):ZL l r=some (l++r):=vak h
theorem pI{σ X:Type}{body:σ->Option (σ⊕X)}{s s':σ}(h:body s=some (.inl s')):loop body s=loop body s':=by rw[oK,h]
theorem j2{σ X:Type}{body:σ->Option (σ⊕X)}{s:σ}{x:X}(h:body s=some (.inr x)):loop body s=some x:=by rw[oK,h]
def ph{α σ X:Type}(f:Nat->α->σ->σ⊕X)(e:σ->X):List α->Nat->σ->X
 |[],_,s=>e s
 |x::r,i,s=>match f i x s with
  |.inl s'=>ph f e r (i+1) s'
  |.inr y=>y
theorem oL{α σ τ X:Type}(l:List α)(hl:l.length<9223372036854775808)(mk:Int->σ->τ)(body:τ->Option (τ⊕X))(I:Nat->σ->Prop)(f:Nat->α->σ->σ⊕X)(e:σ->X)
  (hin:∀(i:Nat) (h:i<l.length) s,I i s->body (mk i s)=some (match f i l[i] s with|.inl s'=>.inl (mk (aR ((i:Int)+1)) s')|.inr y=>.inr y)/\∀s',f i l[i] s=.inl s'->I (i+1) s')
  (hend:∀s,I l.length s->body (mk l.length s)=some (.inr (e s))):∀(i:Nat) (s:σ),i<=l.length->I i s->loop body (mk i s)=some (ph f e (l.drop i) i s):=by
 intro i s hi hI
 obtain⟨k,hk⟩:∃k,k+i=l.length:=⟨l.length - i,by omega⟩
 induction k generalizing i s with
 |zero=>
  have:i=l.length:=by omega
  subst this
  rw[oK,hend s hI,vbY]
  rfl
 | succ k ih =>
  have hlt:i<l.length:=by omega
  obtain⟨h1,h2⟩:=hin i hlt s hI
  rw[oK,h1,va7 hlt]
  unfold ph
  cases hf:f i l[i] s with
  |inl s'=>
   simp only
   rw[dB (by omega) (by omega)]
   have:=ih (i+1) s' (by omega) (h2 s' hf) (by omega)
   rw[show((i:Int)+1)=((i+1:Nat):Int) by omega]
   exact this
  |inr y=>rfl
theorem QR{α X:Type}(p:α->Bool)(y e:X):∀(l:List α) (i:Nat),ph (fun _ x (_:Unit)=>if p x=true then Sum.inr y else .inl ()) (fun _=>e) l i ()=if l.any p=true then y else e
 |[],i=>by simp[ph]
 | x :: l,i => by
  have ih:=QR p y e l (i+1)
  unfold ph
  by_cases h:p x=true
  ·simp[h]
  ·simp only[h,if_false,ih,List.any_cons,Bool.false_or,va5]
theorem KC{α X:Type}(l:List α)(hl:l.length<9223372036854775808)(body:Int->Option (Int⊕X))(p:α->Bool)(y e:X)
  (hin:∀(i:Nat) (h:i<l.length),body i=some (if p l[i]=true then .inr y else .inl (aR ((i:Int)+1)))) (hend:body l.length=some (.inr e)) (i:Nat) (hi:i<=l.length):
  loop body (i:Int)=some (if(l.drop i).any p=true then y else e):=by
 have:=oL l hl (fun i (_:Unit)=>i) body (fun _ _=>True) (fun _ x _=>if p x=true then Sum.inr y else .inl ()) (fun _=>e) (fun i h s _=>⟨?_,fun _ _=>trivial⟩) (fun s _=>hend) i () hi trivial
 ·rw[this,QR]
 ·rw[hin i h]
  by_cases hp:p l[i]=true<;>simp[hp]
theorem Nm{α X:Type}(p:α->Bool)(y:Nat->X)(e:X):∀(l:List α) (i:Nat),ph (fun j x (_:Unit)=>if p x=true then Sum.inr (y j)else .inl ()) (fun _=>e) l i ()=match l.findIdx? p with|some j=>y (i+j)|none=>e
 |[],i=>by simp[ph]
 | x :: l,i => by
  have ih:=Nm p y e l (i+1)
  unfold ph
  rw[vcL]
  by_cases h:p x=true
  ·simp[h]
  ·simp only[h,if_false,ih,va5]
   cases l.findIdx? p with
   |none=>rfl
   |some j=>simp only[vaj];congr 1;omega
theorem M0{α X:Type}(l:List α)(hl:l.length<9223372036854775808)(body:Int->Option (Int⊕X))(p:α->Bool)(y:Nat->X)(e:X)
  (hin:∀(i:Nat) (h:i<l.length),body i=some (if p l[i]=true then .inr (y i)else .inl (aR ((i:Int)+1)))) (hend:body l.length=some (.inr e)):
  loop body (0:Int)=some (match l.findIdx? p with|some j=>y j|none=>e):=by
 have:=oL l hl (fun i (_:Unit)=>i) body (fun _ _=>True) (fun j x _=>if p x=true then Sum.inr (y j)else .inl ()) (fun _=>e) (fun i h s _=>⟨?_,fun _ _=>trivial⟩) (fun s _=>hend) 0 () (vaO _) trivial
 ·simp only[Int.ofNat_zero,va2]at this
  have this2:=Nm p y e l 0
  simp only[vaK]at this2
  rw[<-this2]
  exact this
 ·rw[hin i h]
  by_cases hp:p l[i]=true<;>simp[hp]
def VF{S:Type}(J:Bool->S->ba->World->Prop)(Γ0:ba)(w0:World)(b:Bool)(s:S)(st:az)(a:Array Value)(w:World):Prop:=∃Γ,J b s Γ w/\Γ0.Le w0 Γ w/\∃E bs ow,SR Pg E Γ bs ow w a st
structure Dd(st:az)(k:Nat):Prop where
 c:ig 0 st.tmps
 b:st.boxes=List.replicate k .dead
 o:st.own=[]
structure R4(c:Code):Prop where
 eq:c=.region (qcc c) (mO c) false
 rg:List.range (mO c).size=[0,1]++2::([3]++[])
 p1:[0,1].map (fun i=>(mO c)[i]?)=((mO c).toList.take 2).map some
 p2:((mO c).toList.take 2).all KO=true
 o:(mO c)[2]? =some (Tj c 2)
 g:(Tj c 2).guard=none
 q1:[3].map (fun i=>(mO c)[i]?)=((mO c).toList.drop 3).map some
 q2:((mO c).toList.drop 3).all KO=true
theorem qcT:R4 YC:=⟨by kernel_rfl,by kernel_rfl,by kernel_rfl,by kernel_rfl,by kernel_rfl,by kernel_rfl,by kernel_rfl,by kernel_rfl⟩
theorem qcU:R4 YD:=⟨by kernel_rfl,by kernel_rfl,by kernel_rfl,by kernel_rfl,by kernel_rfl,by kernel_rfl,by kernel_rfl,by kernel_rfl⟩
theorem qaf:(Tj YC 2).op=.call {callee:=.value (.tmp 7),args:=#[.tmp 8],argTypes:=qad (Tj YC 2)}:=by kernel_rfl
theorem qbJ:(Tj YC 2).dst=some 9:=by kernel_rfl
theorem qag:(Tj YD 2).op=.call {callee:=.value (.func fV),args:=#[.tmp 18,.tmp 19],argTypes:=qad (Tj YD 2)}:=by kernel_rfl
theorem qbK:(Tj YD 2).dst=some 20:=by kernel_rfl
section
variable{S:Type}{step:S->aa->Option (Bool×S)}{J:Bool->S->ba->World->Prop}{l:Nat}{Γ0:ba}{w0:World}{b:Bool}{s:S}{st0 st1 stA stB:az}{k kA kB:Nat}{a:Array Value}{w:World}{n:Nat}{ds:List Deferred}
theorem VF.again(hY:Yd Pg GE l ac step J)(hD:Dd st0 k)(h:VF J Γ0 w0 b s st0 a w):∃Γ,J b s Γ w/\Γ0.Le w0 Γ w/\SR Pg (Pn GE Γ w) Γ (List.replicate k none) (fun _=>none) w a st0:=by
 obtain⟨Γ,hJ,hle,E,bs,ow,hS⟩:=h
 obtain⟨tm,H,own⟩:=st0
 have hb:H=_:=hD.b
 have ho:own=[]:=hD.o
 subst hb;subst ho
 exact⟨Γ,hJ,hle,hS.again hD.c (hY.base _ _ _ _ hJ) (.refl _ _) k⟩
theorem VF.redo(hY:Yd Pg GE l ac step J)(hD:Dd st0 k)(h:VF J Γ0 w0 b s st0 a w)(k':Nat):VF J Γ0 w0 b s ⟨st0.tmps,List.replicate k' .dead,[]⟩ a w:=by
 obtain⟨Γ,hJ,hle,hS⟩:=h.again hY hD
 exact⟨Γ,hJ,hle,_,_,_,hS.again hD.c (hY.base _ _ _ _ hJ) (.refl _ _) k'⟩
theorem VF.piece(hY:Yd Pg GE l ac step J){c:Code}{e:Exit}(hS:aT Pg GE 0 c (EX e st1) st0)(hD:Dd st0 k)(h:VF J Γ0 w0 b s st0 a w):c.wpIn Fence.wide n Pg (fun e' a' w'=>e'=e/\a'.defers=ds/\VF J Γ0 w0 b s st1 a'.tmps w') ⟨a,ds⟩ w:=by
 obtain⟨Γ,hJ,hle,hR⟩:=h.again hY hD
 refine wpIn_mono (hS.wide (hY.base _ _ _ _ hJ) hR n ds) ?_
 rintro e' a' w' ⟨hd,Γ',bs',ow',st',h',rfl,rfl⟩
 exact⟨rfl,hd,Γ',hY.side _ _ _ _ hJ _ _ _ _ _ _ h',hle.trans h'.step.le,_,_,_,h'⟩
theorem VF.reg(hY:Yd Pg GE l ac step J){c:Code}(hR:R4 c)(hD:Dd st0 k)(hDB:Dd stB kB)(hpre:cY Pg GE [] (mO c) (fun st=>FG st stA) ((mO c).toList.take 2) 0 st0)(hsuf:cY Pg GE [] (mO c) (fun st=>FG st st1) ((mO c).toList.drop 3) 0 stB){r:Bool×S}
  (hcall:∀a w (mN:Act->World->Prop) (Q:Exit->Act->World->Prop),VF J Γ0 w0 b s stA a w->(∀a' w',VF J Γ0 w0 r.1 r.2 stB a' w'->mN ⟨a',ds⟩ w')->(Tj c 2).wpIn Fence.wide n Pg ⟨a,ds⟩ w mN Q)
  (h:VF J Γ0 w0 b s st0 a w):c.wpIn Fence.wide n Pg (fun e' a' w'=>e'=.normal/\a'.defers=ds/\VF J Γ0 w0 r.1 r.2 st1 a'.tmps w') ⟨a,ds⟩ w:=by
 have key:(Code.region (qcc c) (mO c) false).wpIn Fence.wide n Pg (fun e' a' w'=>e'=.normal/\a'.defers=ds/\VF J Γ0 w0 r.1 r.2 st1 a'.tmps w') ⟨a,ds⟩ w:=by
  refine wpIn_region ?_
  rw[hR.rg]
  obtain⟨Γ,hJ,hle,hS⟩:=h.again hY hD
  refine BS (A:=[]) (K:=fun st=>FG st stA) (fun Γ' bs' ow' a' w' st hS' hK=>?_) _ _ Γ _ _ a w st0 hR.p1 (GF hR.p2) hS hpre
  obtain⟨Γ2,bs2,ow2,hS2⟩:=FG.sr hS' hK
  refine DI hR.o hR.g (hcall a' w' _ _ ⟨Γ2,hY.side _ _ _ _ hJ _ _ _ _ _ _ hS2,hle.trans hS2.step.le,_,_,_,hS2⟩ fun a3 w3 h3=>?_)
  obtain⟨Γ3,hJ3,hle3,hS3⟩:=h3.again hY hDB
  refine BS (A:=[]) (K:=fun st=>FG st st1) (fun Γ' bs' ow' a' w' st hS' hK=>?_) _ _ Γ3 _ _ a3 w3 stB hR.q1 (GF hR.q2) hS3 hsuf
  obtain⟨Γ4,bs4,ow4,hS4⟩:=FG.sr hS' hK
  exact⟨rfl,rfl,Γ4,hY.side _ _ _ _ hJ3 _ _ _ _ _ _ hS4,hle3.trans hS4.step.le,_,_,_,hS4⟩
 rw[<-hR.eq]at key
 exact key
theorem VF.ev(h:VF J Γ0 w0 b s st0 a w){t:Nat}{x:Bool}(ht:st0.tmps.getD t .undef=.bool x):(Act.mk a ds).eval (.tmp t)=.bool x:=by
 obtain⟨Γ,hJ,hle,E,bs,ow,hS⟩:=h
 have h1:=hS.opv ds (.tmp t)
 have e1:opv E.GE st0.tmps (.tmp t)=.bool x:=ht
 rw[e1]at h1
 generalize (Act.mk a ds).eval (.tmp t)=v at h1
 cases h1
 rfl
theorem VF.put(hY:Yd Pg GE l ac step J)(hD:Dd stA kA){Γ Γ':ba}{w':World}{E:rh}{bs:bI}{ow:Nat->Option lK}(hS:SR Pg E Γ bs ow w a stA)(hle:Γ0.Le w0 Γ w)(hle':Γ.Le w Γ' w'){r:Bool×S}(hJ':J r.1 r.2 Γ' w'){d:Nat}(hB:stB=⟨stA.tmps.set d (.bool r.1),List.replicate kA .dead,[]⟩):VF J Γ0 w0 r.1 r.2 stB (a.setIfInBounds d (.bool r.1)) w':=by
 have hS':=(hS.again hD.c (hY.base _ _ _ _ hJ') hle' kA).set (d:=d) (p:=.bool r.1) (v:=.bool r.1) (.bool _)
 exact⟨Γ',hJ',hle.trans hle',_,_,_,hB▸hS'⟩
theorem VF.yieldc(hY:Yd Pg GE l ac step J)(hD:Dd stA kA){p:aa}{r:Bool×S}(hr:step s p=some r){o:Oper}{f x d:Nat}{tys:Array TypeId}(h7:stA.tmps.getD f .undef=yv l)(h8:stA.tmps.getD x .undef=.agg (ac p))
  (ho:o.op=.call {callee:=.value (.tmp f),args:=#[.tmp x],argTypes:=tys}) (hd:o.dst=some d) (hB:stB=⟨stA.tmps.set d (.bool r.1),List.replicate kA .dead,[]⟩)
  {mN:Act->World->Prop} {Q:Exit->Act->World->Prop} (h:VF J Γ0 w0 true s stA a w) (hn:∀a' w',VF J Γ0 w0 r.1 r.2 stB a' w'->mN ⟨a',ds⟩ w'):o.wpIn Fence.wide n Pg ⟨a,ds⟩ w mN Q:=by
 obtain⟨Γ,hJ,hle,hS⟩:=h.again hY hD
 have h1:=hS.opv ds (.tmp f)
 have h2:=hS.opv ds (.tmp x)
 have e1:opv (Pn GE Γ w).GE stA.tmps (.tmp f)=yv l:=h7
 have e2:opv (Pn GE Γ w).GE stA.tmps (.tmp x)=.agg (ac p):=h8
 rw[e1]at h1;rw[e2]at h2
 have hev:(Act.mk a ds).eval (.tmp f)=.func (.yield l) #[] #[]:=by
  generalize (Act.mk a ds).eval (.tmp f)=v at h1
  cases h1;rfl
 refine SC ho hev (R:=fun e w'=>∃Γ',e=.returned (.bool r.1)/\Γ.Le w Γ' w'/\J r.1 r.2 Γ' w') ?_ ?_
 ·have:=hY.yield s Γ w p _ (n - 1) r hJ (h2.clo (by simp only[PVal.cl];exact ah p)) hr
  simpa using this
 ·rintro e w' ⟨Γ',rfl,hle',hJ'⟩
  refine⟨_,rfl,?_⟩
  rw[hd]
  exact hn _ _ (VF.put hY hD hS hle hle' hJ' hB)
def qaR(step:S->aa->Option (Bool×S))(J:Bool->S->ba->World->Prop)(l:Nat)(p:aa):Prop:=∀s r Γ w v n,Pf step p s=some r->J true s Γ w->VR Γ [] w (.agg (ac p)) v->
 CallsIn Fence.wide n Pg fV #[v,.func (.yield l) #[] #[]] w fun e w'=>∃Γ',e=.returned (.bool r.1)/\Γ.Le w Γ' w'/\J r.1 r.2 Γ' w'
theorem VF.visitc(hY:Yd Pg GE l ac step J)(hD:Dd stA kA){p:aa}(hp:qaR step J l p){r:Bool×S}(hr:Pf step p s=some r){o:Oper}{x y d:Nat}{tys:Array TypeId}(h7:stA.tmps.getD y .undef=yv l)(h8:stA.tmps.getD x .undef=.agg (ac p))
  (ho:o.op=.call {callee:=.value (.func fV),args:=#[.tmp x,.tmp y],argTypes:=tys}) (hd:o.dst=some d) (hB:stB=⟨stA.tmps.set d (.bool r.1),List.replicate kA .dead,[]⟩)
  {mN:Act->World->Prop} {Q:Exit->Act->World->Prop} (h:VF J Γ0 w0 true s stA a w) (hn:∀a' w',VF J Γ0 w0 r.1 r.2 stB a' w'->mN ⟨a',ds⟩ w'):o.wpIn Fence.wide n Pg ⟨a,ds⟩ w mN Q:=by
 obtain⟨Γ,hJ,hle,hS⟩:=h.again hY hD
 have h1:=hS.opv ds (.tmp y)
 have h2:=hS.opv ds (.tmp x)
 have e1:opv (Pn GE Γ w).GE stA.tmps (.tmp y)=yv l:=h7
 have e2:opv (Pn GE Γ w).GE stA.tmps (.tmp x)=.agg (ac p):=h8
 rw[e1]at h1;rw[e2]at h2
 have hev:(Act.mk a ds).eval (.tmp y)=.func (.yield l) #[] #[]:=by
  generalize (Act.mk a ds).eval (.tmp y)=v at h1
  cases h1;rfl
 refine TY ho (g:=fV) (fs:=#[]) (cs:=#[]) rfl call163 (R:=fun e w'=>∃Γ',e=.returned (.bool r.1)/\Γ.Le w Γ' w'/\J r.1 r.2 Γ' w') ?_ ?_
 ·have:=hp s r Γ w _ (n - 1) hr hJ (h2.clo (by simp only[PVal.cl];exact ah p))
  simpa[hev]using this
 ·rintro e w' ⟨Γ',rfl,hle',hJ'⟩
  refine⟨_,rfl,?_⟩
  rw[hd]
  exact hn _ _ (VF.put hY hD hS hle hle' hJ' hB)
theorem VF.fin{x:Bool}{H:List aG}(h:VF J Γ0 w0 b s (vE H x) a w):(results f163 a).run Pg w=.ok (.bool x) w:=by
 obtain⟨Γ,hJ,hle,E,bs,ow,hS⟩:=h
 obtain⟨v,h1,h2,_⟩:=uf hS (fn:=f163) (r:=.bool x) (by kernel_rfl)
 cases h2
 exact h1
theorem Ub{N:Nat}{L:List (Nat×PVal)}(h:ZM 0 L)(k:Nat){H:List aG}(hH:H=List.replicate k .dead):Dd (aY N L H []) k:=⟨eg h,hH,rfl⟩
theorem T5(ks:List aa):(sl ac ks).cl 0:=aq ah ks
theorem YX(l:Nat)(ks:List aa)(i:Int):Dd (Zc l ks i) 1:=Ub (by exact aI trivial<|aI (T5 ks)<|aI trivial<|aI trivial trivial) 1 rfl
theorem YY(l:Nat)(ks:List aa)(i:Int):Dd (qat l ks i) 1:=Ub (by exact aI trivial<|aI (T5 ks)<|aI trivial<|aI trivial<|aI trivial trivial) 1 rfl
theorem YZ(l:Nat)(ks:List aa)(i:Int)(b:Bool):Dd (qbL l ks i b) 2:=Ub (by exact aI trivial<|aI (T5 ks)<|aI trivial<|aI trivial<|aI trivial trivial) 2 rfl
theorem SB(hY:Yd Pg GE l ac step J)(p:aa)(hk:∀x∈p.Kids,qaR step J l x):qaR step J l p:=by
 intro s r Γ w v n hv hJ hvr
 refine callsIn_of_wp func163 (c:=bV) rfl trivial ?_
 have h0:VF J Γ w true s (aY 23 [(0,.agg (ac p)),(1,yv l)] [] []) (#[v,.func (.yield l) #[] #[]]++Array.replicate 21 undef) w:=by
  refine⟨Γ,hJ,.refl _ _,_,_,_,(hY.base _ _ _ _ hJ).fresh 0 (tmps:=[.agg (ac p),yv l]++List.replicate 21 .undef) (by simp) fun t q u hq hu=>?_⟩
  by_cases ht:t<2
  ·rw[vad (by simpa using ht)]at hq
   rw[vaP (by simpa using ht)]at hu
   match t,ht with
   |0,_=>simp at hq hu;subst hq;subst hu;exact hvr
   |1,_=>simp at hq hu;subst hq;subst hu;exact .val _
  ·rw[vaf (by simpa using ht),vaW]at hq
   split at hq<;>cases hq
   exact .undef u
 show bV.wpIn Fence.wide n Pg _ ⟨_,[]⟩ w
 rw[YF]at hv
 obtain⟨q,hq,hv⟩:=aB hv
 have hb:Pg.funcs.size=Pg.funcs.size:=rfl
 have hret:∀{b:Bool} {s:S} {x:Bool} {H:List aG} {a':Act} {w':World},a'.defers=[]->VF J Γ w b s (vE H x) a'.tmps w'->b=r.1->s=r.2->x=r.1->
   bodyPost Pg f163 (fun e w'=>∃Γ',e=.returned (.bool r.1)/\Γ.Le w Γ' w'/\J r.1 r.2 Γ' w') .ret a' w':=by
  rintro b s x H a' w' hd h rfl rfl rfl
  refine⟨hd,.bool r.1,h.fin,?_⟩
  obtain⟨Γ',hJ',hle,_⟩:=h
  exact⟨Γ',rfl,hle,hJ'⟩
 rw[qa2]
 refine wpIn_seq (wpIn_mono (VF.piece hY (qec p l) (k:=0) (Ub (by exact aI (ah p)<|aI trivial trivial) 0 rfl) h0) ?_)
 rintro e ⟨a1,ds1⟩ w1 ⟨rfl,rfl,h1⟩
 have d2:(PVal.eptr (ac p)).cl 0:=by simp only[PVal.cl];exact ah p
 have d3:(PVal.agg (ac p)).cl 0:=by simp only[PVal.cl];exact ah p
 refine wpIn_seq (wpIn_seq (wpIn_mono (VF.reg hY qcT (k:=1) (kB:=1) (r:=q) (stB:=aY 23 [(1,yv l),(2,.eptr (ac p)),(7,yv l),(8,.agg (ac p)),(9,.bool q.1)] [.dead] []) (Ub (by exact aI trivial<|aI d2 trivial) 1 rfl) (Ub (by exact aI trivial<|aI d2<|aI trivial<|aI d3<|aI trivial trivial) 1 rfl) (qed p l) (qc3 p l q.1)
  (fun a w mN Q h hn=>VF.yieldc hY (kA:=1) (Ub (by exact aI trivial<|aI d2<|aI trivial<|aI d3 trivial) 1 rfl) hq (f:=7) (x:=8) (d:=9) rfl rfl qaf qbJ rfl h hn) h1) ?_))
 rintro e ⟨a2,ds2⟩ w2 ⟨rfl,rfl,h2⟩
 refine wpIn_cond (h2.ev (t:=10) (x:=!q.1) rfl) ?_
 have dS2:∀b:Bool,Dd (aY 23 [(1,yv l),(2,.eptr (ac p)),(10,.bool b)] [.dead] []) 1:=fun b=>Ub (by exact aI trivial<|aI d2<|aI trivial trivial) 1 rfl
 obtain⟨q1,q2⟩:=q
 cases q1 with
 |false=>
  cases hv
  refine wpIn_mono (VF.piece hY (qee p l) (dS2 true) h2) ?_
  rintro e ⟨a3,ds3⟩ w3 ⟨rfl,rfl,h3⟩
  exact hret rfl h3 rfl rfl rfl
 | true =>
  simp only at hv
  split at hv
  case isFalse=>cases hv
  rename_i hlen
  refine wpIn_skip ?_
  refine wpIn_seq (wpIn_seq (wpIn_mono (VF.piece hY (qef p l) (dS2 false) h2) ?_))
  rintro e ⟨a3,ds3⟩ w3 ⟨rfl,rfl,h3⟩
  refine wpIn_block (wpIn_loop_ghost (fun k a w'=>a.defers=[]/\∃(i:Nat) (s':S),k=p.Kids.length - i/\i<=p.Kids.length/\Pe step (p.Kids.drop i) s'=some r/\VF J Γ w true s' (Zc l p.Kids (i:Int)) a.tmps w') (p.Kids.length)
   ⟨rfl,0,q2,rfl,vaO _,hv,h3⟩ ?_)
  rintro k ⟨a4,ds4⟩ w4 ⟨hd4,i,s',rfl,hi,hvl,h4⟩
  simp only at hd4;subst hd4
  rw[qbI]
  refine wpIn_seq (wpIn_mono (VF.piece hY (qeg l p.Kids i) (YX _ _ _) h4) ?_)
  rintro e ⟨a5,ds5⟩ w5 ⟨rfl,rfl,h5⟩
  refine wpIn_seq (wpIn_cond (h5.ev (t:=15) (x:=decide ((i:Int)<(p.Kids.length:Int))) rfl) ?_)
  by_cases hlt:i<p.Kids.length
  ·rw[vbp (by omega)]
   refine wpIn_skip ?_
   have hdrop:p.Kids.drop i=p.Kids[i]::p.Kids.drop (i+1):=va7 hlt
   rw[hdrop,Pe]at hvl
   obtain⟨q',hq',hvl⟩:=aB hvl
   have hx:cR p.Kids (i:Int)=some p.Kids[i]:=bv _ _ hlt
   generalize hxx:p.Kids[i]=x at *
   have hxm:x∈p.Kids:=hxx▸vat hlt
   have e2:(PVal.eptr (ac x)).cl 0:=by simp only[PVal.cl];exact ah x
   have e3:(PVal.agg (ac x)).cl 0:=by simp only[PVal.cl];exact ah x
   refine wpIn_seq (wpIn_block (wpIn_seq (wpIn_mono (VF.piece hY (qeh l p.Kids i x hx) (YY _ _ _) h5) ?_)))
   rintro e ⟨a6,ds6⟩ w6 ⟨rfl,rfl,h6⟩
   refine wpIn_seq (wpIn_mono (VF.reg hY qcU (k:=2) (kB:=2) (r:=q') (stB:=qdD l p.Kids i x q'.1) (Ub (by exact aI trivial<|aI e2<|aI (T5 _)<|aI trivial<|aI trivial trivial) 2 rfl) (Ub (by exact aI trivial<|aI (T5 _)<|aI trivial<|aI trivial<|aI e3<|aI trivial<|aI trivial trivial) 2 rfl) (qei l p.Kids i x) (qc4 l p.Kids i x q'.1)
    (fun a w mN Q h hn=>VF.visitc hY (kA:=2) (Ub (by exact aI trivial<|aI (T5 _)<|aI trivial<|aI trivial<|aI e3<|aI trivial trivial) 2 rfl) (hk x hxm) hq' (y:=19) (x:=18) (d:=20) rfl rfl qag qbK rfl h hn) h6) ?_)
   rintro e ⟨a7,ds7⟩ w7 ⟨rfl,rfl,h7⟩
   refine wpIn_cond (h7.ev (t:=21) (x:=!q'.1) rfl) ?_
   obtain⟨q1,q2⟩:=q'
   cases q1 with
   |false=>
    cases hvl
    refine wpIn_mono (VF.piece hY (qej l p.Kids i) (YZ _ _ _ _) h7) ?_
    rintro e ⟨a8,ds8⟩ w8 ⟨rfl,rfl,h8⟩
    exact hret rfl h8 rfl rfl rfl
   |true=>
    refine wpIn_skip ?_
    refine wpIn_mono (VF.piece hY (qek l p.Kids i) (YZ _ _ _ _) h7) ?_
    rintro e ⟨a8,ds8⟩ w8 ⟨rfl,rfl,h8⟩
    refine⟨p.Kids.length - (i+1),by omega,rfl,i+1,q2,rfl,hlt,hvl,?_⟩
    have e:aR ((i:Int)+1)=((i+1:Nat):Int):=by rw[dB (by omega) (by omega)];omega
    rw[e]at h8
    exact VF.redo (st0:=⟨(Zc l p.Kids ((i+1:Nat):Int)).tmps,[.dead,.dead],[]⟩) hY (k:=2) ⟨(YX l p.Kids _).c,rfl,rfl⟩ h8 1
  ·rw[decide_eq_false (by omega)]
   refine wpIn_exit ?_
   have hi':i=p.Kids.length:=by omega
   rw[vbC (by omega),Pe]at hvl
   cases hvl
   refine wpIn_mono (VF.piece hY (qel l p.Kids i) (YY _ _ _) h5) ?_
   rintro e ⟨a6,ds6⟩ w6 ⟨rfl,rfl,h6⟩
   exact hret rfl h6 rfl rfl rfl
mutual
theorem Q6(hY:Yd Pg GE l ac step J):∀p:aa,qaR step J l p
 |⟨o,n,k,ks⟩=>SB hY ⟨o,n,k,ks⟩ (Nw hY ks)
theorem Nw(hY:Yd Pg GE l ac step J):∀ks:List aa,∀x∈ks,qaR step J l x
 |[],x,hx=>by simp at hx
 | y :: ks,x,hx => by
  rcases vaA.1 hx with h|h
  ·exact h▸Q6 hY y
  ·exact Nw hY ks x h
end
end
open Go Go.Sort Go.Proofs.Tryz
def S6(n:Int):Option ag:=if(decide (-9223372036854775808<=n)&&decide (n<=9223372036854775807))=true then some (Lib.itoa n)else none
theorem WR:jt=Lib.pow10Tab:=by kernel_rfl
theorem X0{n:Int}{r:ag}(h:S6 n=some r):CC Pg GE 95 [.int .i64 n] (.str r) []:=by
 rcases aZ h with⟨b,h⟩|⟨b,h⟩
 ·obtain rfl:=lf h
  simp only[vag,vam]at b
  refine CC.grownIS call95 fun E Γ bs ow w a st hE hS=>?_
  have htab:Lib.TabIs Pg w "internal/strconv.uint64pow10" .u64 Lib.pow10Tab:=qaa hS (g:=0) (by rw[hE,←WR];simp[GE]) (by kernel_rfl)
  refine(Any.strconv_Itoa Tryz.laysM171 n b.1 b.2 w htab).mono fun e w' he=>?_
  obtain⟨rfl,k,os,rfl⟩:=he
  exact⟨rfl,.of_grow _ _ _⟩
 ·cases h
def kV(l:List ag):List ag:=l.mergeSort fun x y=>decide (x<=y)
theorem P2{w:World}{b:Nat}{cur:Array Value}{e:TypeId}{l:List ag}(hh:w.heap[b]? =some (.cells cur e (0,0)))(ht:cur.toList.take l.length=l.map fun s=>Value.string ⟨s.toArray⟩):Holds encStr w b 0 l.toArray:=by
 intro j hj
 have hj':j<l.length:=by simpa using hj
 rw[vaK]
 refine⟨?_,frozen_of_row w b j cur e hh⟩
 rw[cell_of_row w b j cur e _ hh]
 have h1:(cur.toList.take l.length)[j]? =(l.map fun s=>Value.string ⟨s.toArray⟩)[j]?:=by rw[ht]
 rw[vao hj']at h1
 simp only[va0,vaB,vab hj',vaj]at h1
 rw[h1,getElem!_pos _ j hj]
 simp[encStr]
theorem Nl{w:World}{b n:Nat}{cur:Array Value}{e:TypeId}{os:Array Obj}(d l:List ag)(hh:w.heap[b]? =some (.cells cur e (0,0)))(hd:d.length<=cur.size)(hl:d.take l.length=l):(∀b',b'<w.heap.size->b'≠b->(grow (putRow encStr (Sort.ahead w n) b 0 d.toArray) os).heap[b']? =w.heap[b']?)/\w.heap.size<=(grow (putRow encStr (Sort.ahead w n) b 0 d.toArray) os).heap.size/\
   ∃cur',(grow (putRow encStr (Sort.ahead w n) b 0 d.toArray) os).heap[b]? =some (.cells cur' e (0,0))/\cur'.size=cur.size/\cur'.toList.take l.length=l.map fun s=>Value.string ⟨s.toArray⟩:=by
 have hb:b<w.heap.size:=(vaq.1 hh).1
 have hsz:(putRow encStr (Sort.ahead w n) b 0 d.toArray).heap.size=w.heap.size:=by simp[putRow,mapBlock,Sort.ahead]
 refine⟨fun b' h1 h2=>?_,?_,putCells encStr 0 d.toArray cur,?_,by simp[putCells],?_⟩
 ·show((putRow encStr (Sort.ahead w n) b 0 d.toArray).heap++os)[b']? =_
  rw[vaP (by rw[hsz];exact h1)]
  show(w.heap.modify b (onCells _))[b']? =_
  rw[vbS,van (fun e=>h2 e.symm)]
 ·show _<=((putRow encStr (Sort.ahead w n) b 0 d.toArray).heap++os).size
  rw[Array.size_append,hsz];omega
 ·show((putRow encStr (Sort.ahead w n) b 0 d.toArray).heap++os)[b]? =_
  rw[vaP (by rw[hsz];exact hb)]
  show(w.heap.modify b (onCells _))[b]? =_
  rw[vbS,vak rfl,hh]
  rfl
 ·have hll:l.length<=d.length:=by have h0:=vbr List.length hl;rw[vaM]at h0;omega
  refine vbk fun i=>?_
  by_cases hi:i<l.length
  ·have hdl:i<d.length:=by omega
   have hdi:d[i]=l[i]:=by
    have h1:(d.take l.length)[i]? =l[i]?:=by rw[hl]
    rw[vao hi,vab hdl,vab hi]at h1
    exact vbB h1
   rw[vao hi]
   simp only[va0,putCells,Array.getElem?_mapIdx,vaB,vab hi,vaj]
   have hc:cur[i]? =some (cur[i]'(by omega)):=vbd (by omega)
   rw[hc]
   simp only[vaj]
   rw[vak ⟨vaO _,by simp;omega⟩,Nat.sub_zero,getElem!_pos _ i (by simpa using hdl)]
   simp[encStr,hdi]
  ·rw[vau (by simp[putCells];omega),vau (by simp;omega)]
theorem o0(l:List ag):(kV l).length=l.length:=by unfold kV;exact List.length_mergeSort _
theorem Vs{n:Nat}(h:n<=ee):n<4611686018427387904:=by unfold ee at h;omega
theorem Yu:Vi Pg 160 9 (fun s=>Value.string ⟨s.toArray⟩) kV (fun _ _ _=>.tuple #[]):={
 call:=call160
 row:=fun w b cap cur l hh hc hl hm hla ht=>by
  have hlen:=Vs hla
  refine(Any.slices_Sort_string Tryz.lays190 b 0 cap l w (P2 hh ht) ((vaq.1 hh).1) hlen).mono fun r w' hr=>?_
  obtain⟨rfl,n,os,rfl⟩:=hr
  obtain⟨k1,k2,cur',k3,k4,k5⟩:=Nl (n:=n) (os:=os) (kV l) (kV l) hh (by rw[o0];omega) (vbn)
  exact⟨rfl,by rw[o0];exact hl,rfl,rfl,rfl,k2,k1,cur',k3,by omega,k5⟩
 none:=fun w=>⟨by simp[kV],Any.slices_Sort_string_none Tryz.lays190 Option.none 0 w⟩}
theorem Og(l:List ag):(Lib.compact l++List.replicate (l.length - (Lib.compact l).length) []).take (Lib.compact l).length=Lib.compact l:=by simp
theorem Hb(l:List ag):(Lib.compact l).length<=l.length:=by
 unfold Lib.compact Lib.compactUpTo
 rw[vaL]
 exact vaI (vbb _ _) (by simp)
theorem RG:Vi Pg 161 9 (fun s=>Value.string ⟨s.toArray⟩) Lib.compact (fun x k c=>.slice x k c):={
 call:=call161
 row:=fun w b cap cur l hh hc hl hm hla ht=>by
  have hlen:=Vs hla
  refine(calls_of_every_depth fun D=>AnyS.slices_Compact_string_in Tryz.lays194 D b 0 cap l w (P2 hh ht) (by omega) hl).mono fun r w' hr=>?_
  obtain⟨rfl,q,rfl⟩:=hr
  have hcl:=Hb l
  obtain⟨k1,k2,cur',k3,k4,k5⟩:=Nl (n:=q) (os:=#[]) (Lib.compact l++List.replicate (l.length - (Lib.compact l).length) []) (Lib.compact l) hh (by simp;omega) (Og l)
  rw[grow_empty]at k1 k2 k3
  exact⟨rfl,by omega,rfl,rfl,rfl,k2,k1,cur',k3,by omega,k5⟩
 none:=fun w=>⟨by rfl,calls_of_every_depth fun D=>AnyS.slices_Compact_string_empty_in Tryz.lays194 D Option.none 0 w⟩}
def nM(a b:List ag):Option (List ag):=(app ([]:List ag) a).bind fun l=>(app l b).bind fun l2=>some (Lib.compact (kV l2))
noncomputable def Rn:Code:=f158.body.getD .skip
theorem qdl:Pg.cellsOf 9=1:=by kernel_rfl
theorem YA(l:List ag)(h:l.length<=ee):aT Pg GE 0 (fI Rn [true,true,false]) (EX .normal (gJ 15 5 (kV l) 9)) (gJ 15 5 l 9):=
 aT.inplace (t:=5) (d1:=11) (d2:=12) Yu qdl h rfl rfl rfl rfl rfl rfl (by decide) (.inl ⟨rfl,o0 l⟩)
theorem YB(l:List ag)(h:l.length<=ee):aT Pg GE 0 (fI Rn [true,true,true,false]) (EX .normal (gJ 15 4 (Lib.compact l) 9)) (gJ 15 5 l 9):=
 aT.inplace3 (t:=5) (d1:=13) (d2:=14) RG qdl h rfl rfl rfl rfl rfl rfl (by decide) (fun _ _ _=>rfl) rfl rfl rfl (by decide) (by decide)
theorem XD{α:Type}{l r z:List α}(h:app l r=some z):z.length<=ee:=by
 unfold app at h
 split at h
 ·cases h;simpa using ‹_›
 ·cases h
theorem A2{a b:List ag}{r:List ag}(h:nM a b=some r):CC Pg GE 158 [sl cS a,sl cS b] (sl cS r) [(0,9)]:=by
 obtain⟨l,bl,h⟩:=aB h
 obtain⟨l2,bl2,h⟩:=aB h
 obtain rfl:=lf h
 have h2:=XD bl2
 have h3:(kV l2).length<=ee:=by rw[o0];exact h2
 exact C.ev (A:=[8,10]) mixed call158 func158 (c:=Rn) rfl (aI (aq gG a)<|aI (aq gG b) trivial)
  [.v (sl cS ([]:List ag)),.v (sl cS l),.v (sl cS l2),.pa 0,.pc (gJ 15 5 l2 9) .normal (gJ 15 5 (kV l2) 9),.pa 0,.pc (gJ 15 5 (kV l2) 9) .normal (gJ 15 4 (Lib.compact (kV l2)) 9)]
  (Eq.mp (by kernel_rfl) (aI (bJ.mk' (v:=PVal.str) KI ([]:List ag) 0 (by kernel_rfl))<|aI (bJ.ap bl)<|aI (bJ.ap bl2)<|aI (fr (gJ 15 5 l2 9))<|aI (YA l2 h2)<|
   aI (fr (gJ 15 5 (kV l2) 9))<|aI (YB (kV l2) h3)<|aI (rP (sl cS (Lib.compact (kV l2)))) (aq gG (Lib.compact (kV l2)))))
abbrev fB:Nat:=159
abbrev fW:Nat:=162
noncomputable def bW:Code:=f162.body.getD .skip
noncomputable def bB:Code:=f159.body.getD .skip
theorem TV(p:aa):CC Pg GE fB [.agg (ac p)] (.func (.func fW) [] [.eptr (ac p)]) []:=by
 have z:=se (cr p)<|en (aI (rP (.func (.func fW) [] [.eptr (ac p)]))<|(aI trivial (aI (show ig 0 (ac p)from ah p) trivial)))
 exact C.evp (A:=[]) mixed call159 func159 (c:=bB) rfl (aI (ah p) trivial) z (by kernel_rfl)
theorem qa3:bW=.region (qcc bW) (mO bW) false:=by kernel_rfl
theorem qa7:List.range (mO bW).size=[0,1]++2::([]:List Nat):=by kernel_rfl
theorem qa5:[0,1].map (fun i=>(mO bW)[i]?)=((mO bW).toList.take 2).map some:=by kernel_rfl
theorem qa6:((mO bW).toList.take 2).all KO=true:=by kernel_rfl
theorem qcI:(mO bW)[2]? =some (Tj bW 2):=by kernel_rfl
theorem qcH:(Tj bW 2).guard=none:=by kernel_rfl
theorem qa4:(Tj bW 2).op=.call {callee:=.value (.func fV),args:=#[.tmp 3,.tmp 4],argTypes:=qad (Tj bW 2)}:=by kernel_rfl
theorem qcG:(Tj bW 2).dst=some 5:=by kernel_rfl
theorem ZG(p:aa)(l:Nat):cY Pg GE [] (mO bW) (fun st=>FG st (aY 6 [(3,.agg (ac p)),(4,yv l)] [] [])) ((mO bW).toList.take 2) 0 (aY 6 [(0,yv l),(1,.eptr (ac p))] [] []):=by
 have z:=sv (be p)<|en (fr (aY 6 [(3,.agg (ac p)),(4,yv l)] [] []))
 exact Fa z (by kernel_rfl)
section
variable{S:Type}{step:S->aa->Option (Bool×S)}{J:Bool->S->ba->World->Prop}{l:Nat}
theorem ZH(hY:Yd Pg GE l ac step J)(p:aa){s:S}{r:Bool×S}{Γ:ba}{w:World}{v:Value}{n:Nat}(hv:Pf step p s=some r)(hJ:J true s Γ w)(hvr:VR Γ [] w (.eptr (ac p)) v):CallsIn Fence.wide n Pg fW #[.func (.yield l) #[] #[],v] w fun e w'=>(∃u,e=.returned u)/\∃Γ',Γ.Le w Γ' w'/\J r.1 r.2 Γ' w':=by
 refine callsIn_of_wp func162 (c:=bW) rfl trivial ?_
 have h0:VF J Γ w true s (aY 6 [(0,yv l),(1,.eptr (ac p))] [] []) (#[.func (.yield l) #[] #[],v]++Array.replicate 4 undef) w:=by
  refine⟨Γ,hJ,.refl _ _,_,_,_,(hY.base _ _ _ _ hJ).fresh 0 (tmps:=[yv l,.eptr (ac p)]++List.replicate 4 .undef) (by simp) fun t q u hq hu=>?_⟩
  by_cases ht:t<2
  ·rw[vad (by simpa using ht)]at hq
   rw[vaP (by simpa using ht)]at hu
   match t,ht with
   |0,_=>simp at hq hu;subst hq;subst hu;exact .val _
   |1,_=>simp at hq hu;subst hq;subst hu;exact hvr
  ·rw[vaf (by simpa using ht),vaW]at hq
   split at hq<;>cases hq
   exact .undef u
 show bW.wpIn Fence.wide n Pg _ ⟨_,[]⟩ w
 have d2:(PVal.eptr (ac p)).cl 0:=ah p
 have d3:(PVal.agg (ac p)).cl 0:=ah p
 have key:(Code.region (qcc bW) (mO bW) false).wpIn Fence.wide n Pg (bodyPost Pg f162 fun e w'=>(∃u,e=.returned u)/\∃Γ',Γ.Le w Γ' w'/\J r.1 r.2 Γ' w') ⟨#[.func (.yield l) #[] #[],v]++Array.replicate 4 undef,[]⟩ w:=by
  refine wpIn_region ?_
  rw[qa7]
  obtain⟨Γ1,hJ1,hle1,hS⟩:=VF.again hY (k:=0) (Ub (L:=[(0,yv l),(1,.eptr (ac p))]) (by exact aI trivial<|aI d2 trivial) 0 rfl) h0
  refine BS (A:=[]) (K:=fun st=>FG st (aY 6 [(3,.agg (ac p)),(4,yv l)] [] [])) (fun Γ' bs' ow' a' w' st hS' hK=>?_) _ _ Γ1 _ _ _ w _ qa5 (GF qa6) hS (ZG p l)
  obtain⟨Γ2,bs2,ow2,hS2⟩:=FG.sr hS' hK
  refine DI qcI qcH (VF.visitc hY (kA:=0) (stB:=aY 6 [(3,.agg (ac p)),(4,yv l),(5,.bool r.1)] [] []) (Ub (by exact aI d3<|aI trivial trivial) 0 rfl) (Q6 hY p) hv (y:=4) (x:=3) (d:=5) rfl rfl qa4 qcG rfl ⟨Γ2,hY.side _ _ _ _ hJ1 _ _ _ _ _ _ hS2,hle1.trans hS2.step.le,_,_,_,hS2⟩ fun a3 w3 h3=>?_)
  obtain⟨Γ3,hJ3,hle3,E,bs3,ow3,hS3⟩:=h3
  obtain⟨u,e1,_⟩:=uf hS3 (fn:=f162) (r:=.tuple []) (by kernel_rfl)
  exact⟨rfl,u,e1,⟨u,rfl⟩,Γ3,hle3,hJ3⟩
 rw[<-qa3]at key
 exact key
end
abbrev qd1:Nat:=156
noncomputable def YM:Code:=f156.body.getD .skip
def qbC:Code->Code
 |.rangeFunc _ _ a _=>a
 |_=>.skip
def qbD:Code->Code
 |.rangeFunc _ _ _ b=>b
 |_=>.skip
abbrev qdr:Code:=fI YM [false]
abbrev qds:Code:=fI YM [true,false]
abbrev qdt:Code:=fI YM [true,true,false,false]
abbrev Xp:Code:=fI YM [true,true,false,true,false]
abbrev qcP:Code:=fI YM [true,true,true,false]
theorem ZF:YM=.seq qdr (.seq qds (.seq (.seq qdt (.block 0 (.rangeFunc (.tmp 6) #[7] (qbC Xp) (qbD Xp)))) (.seq qcP .ret))):=by kernel_rfl
def qR(s:List ag)(x:aa):Option (Bool×List ag):=if(x.Op==3)=true then(app s [x.Name]).bind fun l=>some (true,l)else some (true,s)
def pO(p:aa):Option (List ag):=(Pf qR p []).bind fun q=>(nM q.2 []).bind fun r=>some r
abbrev Xo(s:List ag):List aG:=[.dead,.cells [sl cS s] [(0,9)]]
abbrev qcV(s:List ag):az:=aY 18 [(3,.bptr 1 0)] (Xo s) []
theorem qd4(p:aa):aT Pg GE 0 qdr (EX .normal (aY 18 [(1,.eptr (ac p))] [.dead] [])) (aY 18 [(0,.agg (ac p))] [] []):=by
 have z:=se (cr p)<|eF .normal (aY 18 [(1,.eptr (ac p))] [.dead] [])
 exact lU (A:=[]) mixed z (by kernel_rfl)
theorem qd5(p:aa):aT Pg GE 0 qds (EX .normal (aY 18 [(1,.eptr (ac p)),(3,.bptr 1 0)] (Xo []) [])) (aY 18 [(1,.eptr (ac p))] [.dead] []):=by
 have z:=sx (show jC Pg 32=some [sl cS ([]:List ag)] by kernel_rfl)<|eF .normal (aY 18 [(1,.eptr (ac p)),(3,.bptr 1 0)] (Xo []) [])
 exact lU (A:=[]) mixed z (by kernel_rfl)
abbrev stR(p:aa):az:=aY 18 [(3,.bptr 1 0),(6,.func (.func fW) [] [.eptr (ac p)])] (Xo []) []
theorem qd6(p:aa):aT Pg GE 0 qdt (EX .normal (stR p)) (aY 18 [(1,.eptr (ac p)),(3,.bptr 1 0)] (Xo []) []):=by
 have z:=sv (be p)<|bT (TV p)<|eF .normal (stR p)
 exact lU (A:=[]) mixed z (by kernel_rfl)
abbrev qcW(s:List ag)(x:aa):az:=aY 18 [(3,.bptr 1 0),(4,.bptr 2 0)] (Xo s++[.cells (Pq x) []]) []
theorem qd7(s:List ag)(x:aa):aT Pg GE 2 (qbC Xp) (EX .normal (qcW s x)) (aY 18 [(3,.bptr 1 0),(7,.agg (ac x))] (Xo s) []):=by
 have z:=sx lC<|sx (dn x)<|eF .normal (qcW s x)
 exact lU (A:=[]) mixed z (by kernel_rfl)
abbrev qcX(r:List ag):az:=aY 18 [(3,.bptr 1 0)] (Xo r++[.dead]) []
theorem qd8(s:List ag)(x:aa){r:Bool×List ag}(h:qR s x=some r):r.1=true/\aT Pg GE 2 (qbD Xp) (EX .normal (qcX r.2)) (qcW s x):=by
 unfold qR at h
 rcases aZ h with⟨c1,h⟩|⟨c1,h⟩
 ·obtain⟨l,bl,h⟩:=aB h
  cases h
  refine⟨rfl,?_⟩
  have z:=ss<|sg 0 c1<|ss<|sv (bJ.mk' (v:=PVal.str) KI ([x.Name]:List ag) 1 (by kernel_rfl))<|sv (bJ.ap bl)<|eF .normal (qcX l)
  exact lU (A:=[11]) mixed z (by kernel_rfl)
 ·cases h
  refine⟨rfl,?_⟩
  have z:=ss<|sg 0 c1<|eF .normal (qcX s)
  exact lU (A:=[11]) mixed z (by kernel_rfl)
abbrev qcY(r:List ag):az:=aY 18 [(2,sl cS r)] [.dead,.dead] [((2,0),9)]
theorem qd9(s:List ag){r:List ag}(h:nM s []=some r):aT Pg GE 2 (.seq qcP .ret) (EX .ret (qcY r)) (qcV s):=by
 have z:=sv (show aU Pg 32 [sl cS s]=some (sl cS s) by kernel_rfl)<|bT (A2 h)<|eF .ret (qcY r)
 exact lU (A:=[]) mixed z (by kernel_rfl)
abbrev DR(fn:FuncId)(a:Array Value)(D:Nat):Loop:={state:=.ready,pending:=none,fn:=fn,tmps:=a,params:=#[7],assign:=qbC Xp,body:=qbD Xp,defers:=D}
def JF(Γe:ba)(we:World)(bs:bI)(a:Array Value)(fn:FuncId)(l D:Nat)(b:Bool)(s:List ag)(Γ:ba)(w:World):Prop:=
 b=true/\∃ow,SR Pg (Pn GE Γe we) Γ bs ow w a (qcV s)/\¬bY bs ow l/\¬bY bs ow D/\w.heap[l]? =some (.loop (DR fn a D))/\w.heap[D]? =some (.deferred (some []))
theorem jh{w:World}{b:Nat}{o:Obj}(h:w.heap[b]? =some o):b<w.heap.size:=(vaq.1 h).1
theorem qaP{Γe:ba}{we:World}{bs:bI}{a:Array Value}{fn:FuncId}{l D:Nat}(hl:we.heap.size<=l)(hD:we.heap.size<=D)(hne:D≠l)(hb:bs.length=2):Yd Pg GE l ac qR (JF Γe we bs a fn l D) where
 base:=fun b s Γ w ⟨_,ow,h,_⟩=>h.base
 side:=fun b s Γ w ⟨h0,ow,h,hTl,hTD,hhl,hhD⟩ Γ' bs' ow' w' a' st' h'=>
  ⟨h0,ow,h.aside h',hTl,hTD,(h'.step.keep l (jh hhl) id).1.trans hhl,(h'.step.keep D (jh hhD) id).1.trans hhD⟩
 yield:=fun s Γ w x v n r ⟨h0,ow,h,hTl,hTD,hhl,hhD⟩ hv hr=>by
  obtain⟨hr1,hS4⟩:=qd8 s x hr
  refine⟨_,_,_,_,run_yield hhl rfl,?_⟩
  have hz:(((#[7]:Array Tmp).zip #[v]).foldl (fun tmps (t,a)=>tmps.setIfInBounds t a) a)=a.setIfInBounds 7 v:=by simp
  show RoundIn Fence.wide n Pg l fn (((#[7]:Array Tmp).zip #[v]).foldl (fun tmps (t,a)=>tmps.setIfInBounds t a) a) (qbC Xp) (qbD Xp) w _
  rw[hz]
  have h7:SR Pg (Pn GE Γe we) Γ bs ow w (a.setIfInBounds 7 v) (aY 18 [(3,.bptr 1 0),(7,.agg (ac x))] (Xo s) []):=h.set (d:=7) (p:=.agg (ac x)) (hv.mono (.refl _ _) (fun i b hi=>by simp at hi))
  refine roundIn_of_wpIn trivial (wpIn_mono (aT.on (qd7 s x) (by decide) h7 (by rw[hb];decide) (some l) [] n) ?_)
  rintro e ⟨a1,ds1⟩ w1 ⟨rfl,Γ1,bs1,ow1,st1,h1,⟨rfl,rfl⟩,hbs1,hle1,hsz1,hk1⟩
  obtain⟨k1,t1⟩:=hk1 l (jh hhl) hTl
  obtain⟨k1D,t1D⟩:=hk1 D (jh hhD) hTD
  have hl1:=k1.trans hhl
  refine⟨_,run_beginRound hl1 rfl,?_⟩
  obtain⟨h1',hle1'⟩:=h1.putOther (l:=l) (o:=.loop {DR fn a D with state:=.busy}) t1 (.inr hl) (fun c t fr e=>by rw[hl1]at e;cases e)
  have hb1:2<=bs1.length:=by have:=h1.bl;rw[this];exact Nat.le_of_ble_eq_true rfl
  refine wpIn_mono (aT.on hS4 (by decide) h1' hb1 (some l) [] n) ?_
  rintro e ⟨a2,ds2⟩ w2 ⟨rfl,Γ2,bs2,ow2,st2,h2,⟨rfl,rfl⟩,hbs2,hle2,hsz2,hk2⟩
  have hl1':(w1.putObj l (.loop {DR fn a D with state:=.busy})).heap[l]? =some (.loop {DR fn a D with state:=.busy}):=World.putObj_heap_same (jh hl1)
  have hD1':(w1.putObj l (.loop {DR fn a D with state:=.busy})).heap[D]? =some (.deferred (some [])):=(World.putObj_heap_other hne).trans (k1D.trans hhD)
  obtain⟨k2,t2⟩:=hk2 l (jh hl1') t1
  obtain⟨k2D,t2D⟩:=hk2 D (jh hD1') t1D
  have hl2:=k2.trans hl1'
  refine⟨_,_,run_endRound none hl2,?_⟩
  obtain⟨h3,hle3⟩:=h2.putOther (l:=l) (o:=.loop {{DR fn a D with state:=.busy}with state:=if(none:Option Code).isNone then .ready else .done,pending:=none}) t2 (.inr hl) (fun c t fr e=>by rw[hl2]at e;cases e)
  have hle:Γ.Le w Γ2 (w2.putObj l (.loop {{DR fn a D with state:=.busy}with state:=if(none:Option Code).isNone then .ready else .done,pending:=none})):=((hle1.trans hle1').trans hle2).trans hle3
  obtain⟨ow3,h4,hT4⟩:=h.back rfl h3 hle (H':=Xo r.2) (fun i hi=>(hbs2 i (by omega)).trans (hbs1 i (by omega))) (by
   refine⟨trivial,⟨rfl,aI (up (aq gG r.2)) trivial,fun x hx=>hx⟩,trivial⟩) hb.symm
  refine⟨Γ2,by rw[hr1];rfl,hle,hr1,ow3,h4,fun hx=>t2 (hT4 l hx),fun hx=>t2D (hT4 D hx),?_,?_⟩
  ·exact World.putObj_heap_same (jh hl2)
  ·exact(World.putObj_heap_other hne).trans (k2D.trans hD1')
theorem Fc{p:aa}{r:List ag}(h:pO p=some r):CC Pg GE qd1 [.agg (ac p)] (sl cS r) [(0,9)]:=by
 obtain⟨q,hq,h⟩:=aB h
 obtain⟨r',hu,h⟩:=aB h
 cases h
 refine⟨aI (ah p) trivial,call156,fun Γ bs ow w vs hS=>(callsIn_wide (n:=0)).1 (callsIn_of_wp_marks func156 (c:=YM) rfl trivial ?_)⟩
 obtain rfl:bs=[]:=vas hS.bl
 obtain⟨v,rfl⟩:∃v,vs=#[v]:=vcw.1 hS.sz
 have hB:NA GE Γ w:=hS.base
 have hE:D4 GE 0 (Pn GE Γ w):=hB.good
 have hvr:VR Γ [] w (.agg (ac p)) v:=hS.tm 0 _ _ rfl rfl
 have h0:SR Pg (Pn GE Γ w) Γ [] (fun _=>none) w (#[v]++Array.replicate 17 undef) (aY 18 [(0,.agg (ac p))] [] []):=by
  refine hB.fresh (a:=#[v]++Array.replicate 17 undef) 0 (tmps:=[.agg (ac p)]++List.replicate 17 .undef) (by simp) fun t q u hq hu=>?_
  by_cases ht:t<1
  ·rw[vad (by simpa using ht)]at hq
   rw[vaP (by simpa using ht)]at hu
   match t,ht with
   |0,_=>simp at hq hu;subst hq;subst hu;exact hvr
  ·rw[vaf (by show 1<=t;omega),vaW]at hq
   split at hq<;>cases hq
   exact .undef u
 show YM.wpIn Fence.wide 0 Pg _ ⟨#[v]++Array.replicate 17 undef,[]⟩ w
 rw[ZF]
 refine wpIn_seq (wpIn_mono (aT.wideE (qd4 p) hE h0 0 []) ?_)
 rintro e ⟨a1,ds1⟩ w1 ⟨rfl,Γ1,bs1,ow1,st1,h1,rfl,rfl⟩
 refine wpIn_seq (wpIn_mono (aT.wideE (qd5 p) hE h1 0 []) ?_)
 rintro e ⟨a2,ds2⟩ w2 ⟨rfl,Γ2,bs2,ow2,st2,h2,rfl,rfl⟩
 refine wpIn_seq (wpIn_seq (wpIn_mono (aT.wideE (qd6 p) hE h2 0 []) ?_))
 rintro e ⟨a3,ds3⟩ w3 ⟨rfl,Γ3,bs3,ow3,st3,h3,rfl,rfl⟩
 have h6:=h3.opv [] (.tmp 6)
 have e6:opv (Pn GE Γ w).GE (stR p).tmps (.tmp 6)=.func (.func fW) [] [.eptr (ac p)]:=rfl
 rw[e6]at h6
 have hbl:bs3.length=2:=h3.bl
 refine wpIn_block (wpIn_rangeFunc fun fn _=>?_)
 obtain⟨g1,l1⟩:=h3.allocO (.deferred (some []))
 obtain⟨g2,l2⟩:=g1.allocO (.loop (DR fn a3 w3.heap.size))
 have gF:=g2.forgetT (tm:=(qcV []).tmps) rfl
 have hsz3:w.heap.size<=w3.heap.size:=h3.step.size
 have htl:∀b,w3.heap.size<=b->¬bY bs3 ow3 b:=fun b hb hx=>by
  rcases hx with⟨i,hi⟩|hx
  ·have hil:i<(stR p).boxes.length:=by rw[<-h3.bl];exact am hi
   have:=(h3.bx i b _ hi (vab hil)).2.1
   omega
  ·cases hL:ow3 b with
   |none=>exact hx hL
   |some L=>have:=(h3.on b L hL).1;omega
 generalize hvf:(Act.mk a3 []).eval (.tmp 6)=vf at h6
 cases h6 with
 |func _ _ _ fs cs hl1 hl2 hf hc=>
 obtain rfl:fs=#[]:=va9 hl1
 obtain⟨cv,rfl⟩:∃v,cs=#[v]:=vcw.1 hl2
 have hcv:VR Γ3 bs3 w3 (.eptr (ac p)) cv:=hc 0 _ _ rfl rfl
 have hJ:JF Γ w bs3 a3 fn (w3.heap.size+1) w3.heap.size true [] Γ3 ((w3.alloc (.deferred (some []))).alloc (.loop (DR fn a3 w3.heap.size))):=by
  refine⟨rfl,ow3,gF,htl _ (by omega),htl _ (vah _),?_,?_⟩
  ·have:=World.alloc_heap_new (w3.alloc (.deferred (some []))) (.loop (DR fn a3 w3.heap.size))
   rwa[World.size_alloc]at this
  ·rw[dX _ _ (by rw[World.size_alloc];omega)]
   exact World.alloc_heap_new w3 _
 have hY:=qaP (Γe:=Γ) (we:=w) (bs:=bs3) (a:=a3) (fn:=fn) (l:=w3.heap.size+1) (D:=w3.heap.size) (by omega) hsz3 (by omega) hbl
 refine⟨_,_,_,{target:=.fn (.func fW) #[cv],args:=#[.func (.yield (w3.heap.size+1)) #[] #[]]},(w3.alloc (.deferred (some []))).alloc (.loop (DR fn a3 w3.heap.size)),fW,#[.func (.yield (w3.heap.size+1)) #[] #[],cv],(w3.alloc (.deferred (some []))).alloc (.loop (DR fn a3 w3.heap.size)),run_enterLoop_outer fn a3 #[7] (qbC Xp) (qbD Xp),?_,fun _ _=>trivial,?_,fun hx=>by simp[Fence.wide]at hx,?_⟩
 ·have hvf':(Act.mk a3 []).eval (.tmp 6)=.func (.func fW) #[] #[cv]:=hvf
  simp only[resolve,hvf',Deferred.ofValue]
  simp[Act.eval]
 ·simp[invoke,call162]
 ·refine(ZH hY p (n:=0 - 1) hq hJ (((hcv.mono l1 (.refl _)).mono l2 (.refl _)).clo (show ig 0 (ac p)from ah p))).mono ?_
  rintro e w4 ⟨⟨u,rfl⟩,Γ4,hle4,hq1,ow4,h4,tl4,tD4,hl4,hD4⟩
  refine⟨none,_,run_endLoop hl4 (by simp),?_⟩
  obtain⟨h5,hle5⟩:=h4.putOther (l:=w3.heap.size+1) (o:=.loop {DR fn a3 w3.heap.size with state:=.exhausted}) tl4 (.inr (show w.heap.size<=_ by omega)) (fun c t fr e=>by rw[hl4]at e;cases e)
  have hD5:(w4.putObj (w3.heap.size+1) (.loop {DR fn a3 w3.heap.size with state:=.exhausted})).heap[w3.heap.size]? =some (.deferred (some [])):=(World.putObj_heap_other (by omega)).trans hD4
  generalize w4.putObj (w3.heap.size+1) (.loop {DR fn a3 w3.heap.size with state:=.exhausted})=w5 at h5 hle5 hD5
  show(Code.seq qcP .ret).wpIn Fence.wide 0 Pg _ ⟨a3,[{target:=.collected w3.heap.size,args:=#[]}]⟩ w5
  refine wpIn_mono (wpIn_wide.2 (aT.on (qd9 q.2 hu) (by decide) h5 (by rw[hbl];decide) none [{target:=.collected w3.heap.size,args:=#[]}])) ?_
  rintro e ⟨a6,ds6⟩ w6 ⟨rfl,Γ6,bs6,ow6,st6,h6,⟨rfl,rfl⟩,hbs6,hle6,hsz6,hk6⟩
  obtain⟨k6,t6⟩:=hk6 _ (jh hD5) tD4
  have hD6:=k6.trans hD5
  obtain⟨h7,hle7⟩:=h6.putOther (l:=w3.heap.size) (o:=.deferred none) t6 (.inr hsz3) (fun c t fr e=>by rw[hD6]at e;cases e)
  refine⟨by simp,.inl ⟨w3.heap.size,_,rfl,run_takeDeferred hD6,?_⟩⟩
  have hS7:SR Pg ⟨GE,Γ,w,bY [] ow⟩ Γ6 bs6 ow6 (w6.putObj w3.heap.size (.deferred none)) a6 (qcY r):={h7 with
   bn:=fun i b hb=>(h7.bn i b hb).elim False.elim .inr
   on:=fun b L hL=>⟨(h7.on b L hL).1,(h7.on b L hL).2.elim False.elim .inr⟩
   gx:=hS.gx
   step:={h7.step with keep:=fun b hb _=>h7.step.keep b hb (fun hx=>hx)}}
  obtain⟨vr,e1,e2,e3⟩:=uf hS7 (fn:=f156) (r:=sl cS r) (by kernel_rfl)
  refine⟨vr,e1,vr,Γ6,CQ (dV f156.results.toList) [(0,9)] ow6,rfl,?_⟩
  have hrs:f156.results.toList=[.tmp 2]:=by kernel_rfl
  have hf:=hS7.finish (H':=[]) (src:=dV f156.results.toList) (ro:=[(0,9)]) e2 (aq gG r) trivial (fun x hx=>by
   simp only[va4]at hx
   subst hx
   refine⟨?_,fun u v'=>e3 0 u v' ?_⟩
   ·rw[hrs];exact va4.2 rfl
   ·rw[hrs];trivial) (fun x hx y hy _=>by
   simp only[va4]at hx hy
   rw[hx,hy])
  simpa using hf
end Go.Proofs.YtbaamopmfmpfaaaGreatDoor
