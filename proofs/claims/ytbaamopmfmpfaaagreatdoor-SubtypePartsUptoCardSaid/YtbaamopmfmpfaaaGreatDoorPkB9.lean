/- PROVED: a part of the proof. Conditions: none. -/
import Derived.Test.YtbaamopmfmpfaaaGreatDoorPkB8
import Derived.Test.YtbaamopmfmpfaaaGreatDoorPkB7
import Derived.Test.YtbaamopmfmpfaaaGreatDoorProg
import Derived.Ground.SlgnProg
import Derived.Shelf.Lays
import Derived.Shelf.LaysM
import Derived.Shelf.SlGeneric
import Derived.Shelf.SlLaysE0
import Derived.RangeFuncRecord
import Derived.RangeFuncSeq
import Derived.Shelf.Strconv.Itoa3
import Derived.Shelf.Sort.Plain
import Derived.Shelf.Slices.In.CompactS
import Derived.Shelf.Slices.In.SortNone
noncomputable section
namespace Go.Proofs.YtbaamopmfmpfaaaGreatDoor
open Go Go.Proofs.Tryz
set_option linter.unusedVariables false
set_option maxRecDepth 100000
theorem VC:∀n,(∀l,Sh Pg n 102 l->∃x,l=bH x):=by
 intro n
 induction n using Nat.strongRecOn with
 | ind n ih =>
  cases n with
  |zero=>exact fun l h=>h.elim
  | succ n =>
   exact fun l h=>by
    unfold Sh at h
    rw[underlying102]at h
    obtain⟨a0,b0,rfl,_,h0,a1,b1,rfl,_,h1,rfl⟩:=h
    obtain⟨x0,rfl⟩:=(pn underlying9) n _ h0
    obtain⟨x1,rfl⟩:=(pn underlying47) n _ h1
    exact⟨(⟨x0,x1⟩:cM),by rw[OD];rfl⟩
theorem uE:∀n,(∀l,Sh Pg n 36 l->∃x,l=ac x):=by
 intro n
 induction n using Nat.strongRecOn with
 | ind n ih =>
  cases n with
  |zero=>exact fun l h=>h.elim
  | succ n =>
   exact fun l h=>by
    unfold Sh at h
    rw[underlying36]at h
    obtain⟨a0,b0,rfl,_,h0,a1,b1,rfl,_,h1,a2,b2,rfl,_,h2,a3,b3,rfl,_,h3,rfl⟩:=h
    obtain⟨x0,rfl⟩:=(Zb underlying33) n _ h0
    obtain⟨x1,rfl⟩:=(pn underlying9) n _ h1
    obtain⟨x2,rfl⟩:=(Zb underlying3) n _ h2
    obtain⟨x3,rfl⟩:=Xn underlying34 (c:=ac) (fun m hm=>(ih m (by omega))) _ h3
    exact⟨(⟨x0,x1,x2,x3⟩:aa),by rw[aK];rfl⟩
theorem uF:∀n,(∀l,Sh Pg n 38 l->∃x,l=ag x):=by
 intro n
 induction n using Nat.strongRecOn with
 | ind n ih =>
  cases n with
  |zero=>exact fun l h=>h.elim
  | succ n =>
   exact fun l h=>by
    unfold Sh at h
    rw[underlying38]at h
    obtain⟨a0,b0,rfl,_,h0,a1,b1,rfl,_,h1,a2,b2,rfl,_,h2,a3,b3,rfl,_,h3,a4,b4,rfl,_,h4,a5,b5,rfl,_,h5,rfl⟩:=h
    obtain⟨x0,rfl⟩:=(Zb underlying30) n _ h0
    obtain⟨x1,rfl⟩:=(pn underlying9) n _ h1
    obtain⟨x2,rfl⟩:=Xn underlying31 (c:=ag) (fun m hm=>(ih m (by omega))) _ h2
    obtain⟨x3,rfl⟩:=(qF underlying32 (pn underlying9)) n _ h3
    obtain⟨x4,rfl⟩:=uE n _ h4
    obtain⟨x5,rfl⟩:=(qF underlying34 uE) n _ h5
    exact⟨(⟨x0,x1,x2,x3,x4,x5⟩:ae),by rw[bu];(try simp only[aK]);rfl⟩
theorem qfk:∀n,(∀l,Sh Pg n 73 l->∃x,l=ef x):=by
 intro n
 induction n using Nat.strongRecOn with
 | ind n ih =>
  cases n with
  |zero=>exact fun l h=>h.elim
  | succ n =>
   exact fun l h=>by
    unfold Sh at h
    rw[underlying73]at h
    obtain⟨a0,b0,rfl,_,h0,a1,b1,rfl,_,h1,a2,b2,rfl,_,h2,rfl⟩:=h
    obtain⟨x0,rfl⟩:=(pn underlying9) n _ h0
    obtain⟨x1,rfl⟩:=(qF underlying32 (pn underlying9)) n _ h1
    obtain⟨x2,rfl⟩:=(qF underlying31 uF) n _ h2
    exact⟨(⟨x0,x1,x2⟩:eh),by rw[Vo];rfl⟩
theorem qdi:∀n,(∀l,Sh Pg n 71 l->∃x,l=cN x):=by
 intro n
 induction n using Nat.strongRecOn with
 | ind n ih =>
  cases n with
  |zero=>exact fun l h=>h.elim
  | succ n =>
   exact fun l h=>by
    unfold Sh at h
    rw[underlying71]at h
    obtain⟨a0,b0,rfl,_,h0,a1,b1,rfl,_,h1,a2,b2,rfl,_,h2,a3,b3,rfl,_,h3,rfl⟩:=h
    obtain⟨x0,rfl⟩:=(pn underlying9) n _ h0
    obtain⟨x1,rfl⟩:=(qF underlying32 (pn underlying9)) n _ h1
    obtain⟨x2,rfl⟩:=(qF underlying60 VC) n _ h2
    obtain⟨x3,rfl⟩:=(qF underlying69 qfk) n _ h3
    exact⟨(⟨x0,x1,x2,x3⟩:ed),by rw[uA];rfl⟩
theorem Zc:∀n,(∀l,Sh Pg n 79 l->∃x,l=ey x):=by
 intro n
 induction n using Nat.strongRecOn with
 | ind n ih =>
  cases n with
  |zero=>exact fun l h=>h.elim
  | succ n =>
   exact fun l h=>by
    unfold Sh at h
    rw[underlying79]at h
    obtain⟨a0,b0,rfl,_,h0,a1,b1,rfl,_,h1,rfl⟩:=h
    obtain⟨x0,rfl⟩:=(pn underlying9) n _ h0
    obtain⟨x1,rfl⟩:=uF n _ h1
    exact⟨(⟨x0,x1⟩:ud),by rw[te];(try simp only[bu]);(try simp only[aK]);rfl⟩
theorem qbo:∀n,(∀l,Sh Pg n 77 l->∃x,l=fE x):=by
 intro n
 induction n using Nat.strongRecOn with
 | ind n ih =>
  cases n with
  |zero=>exact fun l h=>h.elim
  | succ n =>
   exact fun l h=>by
    unfold Sh at h
    rw[underlying77]at h
    obtain⟨a0,b0,rfl,_,h0,a1,b1,rfl,_,h1,a2,b2,rfl,_,h2,rfl⟩:=h
    obtain⟨x0,rfl⟩:=(pn underlying9) n _ h0
    obtain⟨x1,rfl⟩:=(pn underlying9) n _ h1
    obtain⟨x2,rfl⟩:=(qF underlying75 Zc) n _ h2
    exact⟨(⟨x0,x1,x2⟩:su),by rw[LZ];rfl⟩
theorem Xp:∀n,(∀l,Sh Pg n 247 l->∃x,l=iA x):=by
 intro n
 induction n using Nat.strongRecOn with
 | ind n ih =>
  cases n with
  |zero=>exact fun l h=>h.elim
  | succ n =>
   exact fun l h=>by
    unfold Sh at h
    rw[underlying247]at h
    obtain⟨a0,b0,rfl,_,h0,a1,b1,rfl,_,h1,rfl⟩:=h
    obtain⟨x0,rfl⟩:=(pn underlying9) n _ h0
    obtain⟨x1,rfl⟩:=(pn underlying9) n _ h1
    exact⟨(⟨x0,x1⟩:FV),by rw[Qk];rfl⟩
theorem qbp:∀n,(∀l,Sh Pg n 125 l->∃x,l=d8 x):=by
 intro n
 induction n using Nat.strongRecOn with
 | ind n ih =>
  cases n with
  |zero=>exact fun l h=>h.elim
  | succ n =>
   exact fun l h=>by
    unfold Sh at h
    rw[underlying125]at h
    obtain⟨a0,b0,rfl,_,h0,a1,b1,rfl,_,h1,rfl⟩:=h
    obtain⟨x0,rfl⟩:=(pn underlying9) n _ h0
    obtain⟨x1,rfl⟩:=uF n _ h1
    exact⟨(⟨x0,x1⟩:ql),by rw[qr];(try simp only[bu]);(try simp only[aK]);rfl⟩
theorem VA:∀n,(∀l,Sh Pg n 97 l->∃x,l=ba x)/\(∀l,Sh Pg n 127 l->∃x,l=ft x):=by
 intro n
 induction n using Nat.strongRecOn with
 | ind n ih =>
  cases n with
  |zero=>exact⟨fun l h=>h.elim,fun l h=>h.elim⟩
  | succ n =>
   exact⟨(fun l h=>by
    unfold Sh at h
    rw[underlying97]at h
    obtain⟨a0,b0,rfl,_,h0,a1,b1,rfl,_,h1,a2,b2,rfl,_,h2,a3,b3,rfl,_,h3,a4,b4,rfl,_,h4,a5,b5,rfl,_,h5,a6,b6,rfl,_,h6,rfl⟩:=h
    obtain⟨x0,rfl⟩:=(Zb underlying92) n _ h0
    obtain⟨x1,rfl⟩:=(pn underlying9) n _ h1
    obtain⟨x2,rfl⟩:=(Zb underlying3) n _ h2
    obtain⟨x3,rfl⟩:=Xn underlying93 (c:=ba) (fun m hm=>(ih m (by omega)).1) _ h3
    obtain⟨x4,rfl⟩:=(qF underlying94 qbp) n _ h4
    obtain⟨x5,rfl⟩:=Xn underlying95 (c:=ft) (fun m hm=>(ih m (by omega)).2) _ h5
    obtain⟨x6,rfl⟩:=(qF underlying31 uF) n _ h6
    exact⟨(⟨x0,x1,x2,x3,x4,x5,x6⟩:cb),by rw[ej];rfl⟩),(fun l h=>by
    unfold Sh at h
    rw[underlying127]at h
    obtain⟨a0,b0,rfl,_,h0,a1,b1,rfl,_,h1,a2,b2,rfl,_,h2,rfl⟩:=h
    obtain⟨x0,rfl⟩:=(pn underlying9) n _ h0
    obtain⟨x1,rfl⟩:=(qF underlying32 (pn underlying9)) n _ h1
    obtain⟨x2,rfl⟩:=(ih n (vct n)).1 _ h2
    exact⟨(⟨x0,x1,x2⟩:uN),by rw[tR];(try simp only[ej]);rfl⟩)⟩
theorem qdj:In Pg 97 ba:=fun n=>(VA n).1
theorem qfj:∀n,(∀l,Sh Pg n 248 l->∃x,l=qa x):=by
 intro n
 induction n using Nat.strongRecOn with
 | ind n ih =>
  cases n with
  |zero=>exact fun l h=>h.elim
  | succ n =>
   exact fun l h=>by
    unfold Sh at h
    rw[underlying248]at h
    obtain⟨a0,b0,rfl,_,h0,a1,b1,rfl,_,h1,rfl⟩:=h
    obtain⟨x0,rfl⟩:=(pn underlying9) n _ h0
    obtain⟨x1,rfl⟩:=(pn underlying47) n _ h1
    exact⟨(⟨x0,x1⟩:S8),by rw[Vn];rfl⟩
theorem qbn:∀n,(∀l,Sh Pg n 124 l->∃x,l=df x):=by
 intro n
 induction n using Nat.strongRecOn with
 | ind n ih =>
  cases n with
  |zero=>exact fun l h=>h.elim
  | succ n =>
   exact fun l h=>by
    unfold Sh at h
    rw[underlying124]at h
    obtain⟨a0,b0,rfl,_,h0,a1,b1,rfl,_,h1,a2,b2,rfl,_,h2,a3,b3,rfl,_,h3,rfl⟩:=h
    obtain⟨x0,rfl⟩:=(pn underlying9) n _ h0
    obtain⟨x1,rfl⟩:=(qF underlying60 VC) n _ h1
    obtain⟨x2,rfl⟩:=uE n _ h2
    obtain⟨x3,rfl⟩:=uE n _ h3
    exact⟨(⟨x0,x1,x2,x3⟩:nk),by rw[lE];(try simp only[aK]);rfl⟩
theorem qfl:∀n,(∀l,Sh Pg n 120 l->∃x,l=Ct x):=by
 intro n
 induction n using Nat.strongRecOn with
 | ind n ih =>
  cases n with
  |zero=>exact fun l h=>h.elim
  | succ n =>
   exact fun l h=>by
    unfold Sh at h
    rw[underlying120]at h
    obtain⟨a0,b0,rfl,_,h0,a1,b1,rfl,_,h1,a2,b2,rfl,_,h2,a3,b3,rfl,_,h3,a4,b4,rfl,_,h4,a5,b5,rfl,_,h5,rfl⟩:=h
    obtain⟨x0,rfl⟩:=(qF underlying32 (pn underlying9)) n _ h0
    obtain⟨x1,rfl⟩:=(qF underlying80 Xp) n _ h1
    obtain⟨x2,rfl⟩:=(qF underlying117 qfj) n _ h2
    obtain⟨x3,rfl⟩:=(qF underlying118 qbn) n _ h3
    obtain⟨x4,rfl⟩:=uF n _ h4
    obtain⟨x5,rfl⟩:=(qF underlying34 uE) n _ h5
    exact⟨(⟨x0,x1,x2,x3,x4,x5⟩:qcg),by rw[J9];(try simp only[bu]);(try simp only[aK]);rfl⟩
theorem qab:∀n,(∀l,Sh Pg n 122 l->∃x,l=dJ x):=by
 intro n
 induction n using Nat.strongRecOn with
 | ind n ih =>
  cases n with
  |zero=>exact fun l h=>h.elim
  | succ n =>
   exact fun l h=>by
    unfold Sh at h
    rw[underlying122]at h
    obtain⟨a0,b0,rfl,_,h0,a1,b1,rfl,_,h1,a2,b2,rfl,_,h2,a3,b3,rfl,_,h3,a4,b4,rfl,_,h4,a5,b5,rfl,_,h5,rfl⟩:=h
    obtain⟨x0,rfl⟩:=(pn underlying9) n _ h0
    obtain⟨x1,rfl⟩:=(qF underlying32 (pn underlying9)) n _ h1
    obtain⟨x2,rfl⟩:=qdj n _ h2
    obtain⟨x3,rfl⟩:=(Zb underlying116) n _ h3
    obtain⟨x4,rfl⟩:=(qkB underlying4) n _ h4
    obtain⟨x5,rfl⟩:=qfl n _ h5
    exact⟨(⟨x0,x1,x2,x3,x4,x5⟩:sD),by rw[pK];(try simp only[ej]);(try simp only[J9]);(try simp only[bu]);(try simp only[aK]);rfl⟩
theorem VB:∀n,(∀l,Sh Pg n 82 l->∃x,l=cm x):=by
 intro n
 induction n using Nat.strongRecOn with
 | ind n ih =>
  cases n with
  |zero=>exact fun l h=>h.elim
  | succ n =>
   exact fun l h=>by
    unfold Sh at h
    rw[underlying82]at h
    obtain⟨a0,b0,rfl,_,h0,a1,b1,rfl,_,h1,a2,b2,rfl,_,h2,a3,b3,rfl,_,h3,rfl⟩:=h
    obtain⟨x0,rfl⟩:=(pn underlying9) n _ h0
    obtain⟨x1,rfl⟩:=uF n _ h1
    obtain⟨x2,rfl⟩:=(qF underlying80 Xp) n _ h2
    obtain⟨x3,rfl⟩:=(qF underlying27 qab) n _ h3
    exact⟨(⟨x0,x1,x2,x3⟩:eB),by rw[fS];(try simp only[bu]);(try simp only[aK]);rfl⟩
theorem qdh:∀n,(∀l,Sh Pg n 88 l->∃x,l=fR x):=by
 intro n
 induction n using Nat.strongRecOn with
 | ind n ih =>
  cases n with
  |zero=>exact fun l h=>h.elim
  | succ n =>
   exact fun l h=>by
    unfold Sh at h
    rw[underlying88]at h
    obtain⟨a0,b0,rfl,_,h0,a1,b1,rfl,_,h1,a2,b2,rfl,_,h2,rfl⟩:=h
    obtain⟨x0,rfl⟩:=(pn underlying9) n _ h0
    obtain⟨x1,rfl⟩:=(qF underlying32 (pn underlying9)) n _ h1
    obtain⟨x2,rfl⟩:=uE n _ h2
    exact⟨(⟨x0,x1,x2⟩:Do),by rw[uz];(try simp only[aK]);rfl⟩
theorem Xo:∀n,(∀l,Sh Pg n 86 l->∃x,l=dg x):=by
 intro n
 induction n using Nat.strongRecOn with
 | ind n ih =>
  cases n with
  |zero=>exact fun l h=>h.elim
  | succ n =>
   exact fun l h=>by
    unfold Sh at h
    rw[underlying86]at h
    obtain⟨a0,b0,rfl,_,h0,a1,b1,rfl,_,h1,a2,b2,rfl,_,h2,a3,b3,rfl,_,h3,a4,b4,rfl,_,h4,rfl⟩:=h
    obtain⟨x0,rfl⟩:=(pn underlying9) n _ h0
    obtain⟨x1,rfl⟩:=(pn underlying9) n _ h1
    obtain⟨x2,rfl⟩:=(pn underlying47) n _ h2
    obtain⟨x3,rfl⟩:=(qF underlying84 qdh) n _ h3
    obtain⟨x4,rfl⟩:=uE n _ h4
    exact⟨(⟨x0,x1,x2,x3,x4⟩:gT),by rw[kc];(try simp only[aK]);rfl⟩
theorem qdk:∀n,(∀l,Sh Pg n 90 l->∃x,l=fy x):=by
 intro n
 induction n using Nat.strongRecOn with
 | ind n ih =>
  cases n with
  |zero=>exact fun l h=>h.elim
  | succ n =>
   exact fun l h=>by
    unfold Sh at h
    rw[underlying90]at h
    obtain⟨a0,b0,rfl,_,h0,a1,b1,rfl,_,h1,a2,b2,rfl,_,h2,rfl⟩:=h
    obtain⟨x0,rfl⟩:=(pn underlying9) n _ h0
    obtain⟨x1,rfl⟩:=(qF underlying60 VC) n _ h1
    obtain⟨x2,rfl⟩:=uE n _ h2
    exact⟨(⟨x0,x1,x2⟩:vV),by rw[uB];(try simp only[aK]);rfl⟩
theorem Zd:∀n,(∀l,Sh Pg n 29 l->∃x,l=aB x):=by
 intro n
 induction n using Nat.strongRecOn with
 | ind n ih =>
  cases n with
  |zero=>exact fun l h=>h.elim
  | succ n =>
   exact fun l h=>by
    unfold Sh at h
    rw[underlying29]at h
    obtain⟨a0,b0,rfl,_,h0,a1,b1,rfl,_,h1,a2,b2,rfl,_,h2,a3,b3,rfl,_,h3,a4,b4,rfl,_,h4,a5,b5,rfl,_,h5,rfl⟩:=h
    obtain⟨x0,rfl⟩:=(qF underlying22 qdi) n _ h0
    obtain⟨x1,rfl⟩:=(qF underlying23 qbo) n _ h1
    obtain⟨x2,rfl⟩:=(qF underlying24 VB) n _ h2
    obtain⟨x3,rfl⟩:=(qF underlying25 Xo) n _ h3
    obtain⟨x4,rfl⟩:=(qF underlying26 qdk) n _ h4
    obtain⟨x5,rfl⟩:=(qF underlying27 qab) n _ h5
    exact⟨(⟨x0,x1,x2,x3,x4,x5⟩:aG),by rw[xY];rfl⟩
theorem Af:∀n,(∀l,Sh Pg n 40 l->∃x,l=az x):=by
 intro n
 induction n using Nat.strongRecOn with
 | ind n ih =>
  cases n with
  |zero=>exact fun l h=>h.elim
  | succ n =>
   exact fun l h=>by
    unfold Sh at h
    rw[underlying40]at h
    obtain⟨a0,b0,rfl,_,h0,a1,b1,rfl,_,h1,a2,b2,rfl,_,h2,rfl⟩:=h
    obtain⟨x0,rfl⟩:=uF n _ h0
    obtain⟨x1,rfl⟩:=uF n _ h1
    obtain⟨x2,rfl⟩:=(Zb underlying3) n _ h2
    exact⟨(⟨x0,x1,x2⟩:aJ),by rw[bN];(try simp only[bu]);(try simp only[aK]);rfl⟩
end Go.Proofs.YtbaamopmfmpfaaaGreatDoor
namespace Go.Proofs
open Go.Shelf
noncomputable def Tryz.laysM171_ren : Go.Shelf.Ren := ⟨fun | 171 => 95 | 243 => 112 | 246 => 118 | 283 => 133 | 284 => 134 | 285 => 135 | 286 => 136 | 129 => 147 | 317 => 146 | 318 => 148 | 319 => 149 | 320 => 150 | 337 => 154 | 338 => 155 | n => n, fun | 3 => 3 | 9 => 9 | 2 => 2 | 4 => 4 | 171 => 184 | 0 => 0 | 53 => 185 | 37 => 158 | 5 => 5 | 173 => 188 | 212 => 197 | 51 => 198 | 20 => 20 | 213 => 199 | 46 => 200 | 232 => 205 | 233 => 206 | n => n, fun | 17 => 0 | 18 => 1 | 19 => 2 | n => n⟩
theorem Tryz.laysM171 : Go.Proofs.LaysM.n171 Tryz.prog Tryz.laysM171_ren := {
 mixed := by kernel_rfl
 f129 := Tryz.func147.trans (congrArg some (by kernel_rfl))
 f171 := Tryz.func95.trans (congrArg some (by kernel_rfl))
 f243 := Tryz.func112.trans (congrArg some (by kernel_rfl))
 f246 := Tryz.func118.trans (congrArg some (by kernel_rfl))
 f283 := Tryz.func133.trans (congrArg some (by kernel_rfl))
 f284 := Tryz.func134.trans (congrArg some (by kernel_rfl))
 f285 := Tryz.func135.trans (congrArg some (by kernel_rfl))
 f286 := Tryz.func136.trans (congrArg some (by kernel_rfl))
 f317 := Tryz.func146.trans (congrArg some (by kernel_rfl))
 f318 := Tryz.func148.trans (congrArg some (by kernel_rfl))
 f319 := Tryz.func149.trans (congrArg some (by kernel_rfl))
 f320 := Tryz.func150.trans (congrArg some (by kernel_rfl))
 f337 := Tryz.func154.trans (congrArg some (by kernel_rfl))
 f338 := Tryz.func155.trans (congrArg some (by kernel_rfl))
 t0 := Tryz.underlying0
 a0 := Tryz.isAgg0
 z0 := Tryz.sizeOf0
 v0 := Tryz.zeroValue0
 t2 := Tryz.underlying2
 a2 := Tryz.isAgg2
 z2 := Tryz.sizeOf2
 v2 := Tryz.zeroValue2
 t3 := Tryz.underlying3
 a3 := Tryz.isAgg3
 z3 := Tryz.sizeOf3
 v3 := Tryz.zeroValue3
 t4 := Tryz.underlying4
 a4 := Tryz.isAgg4
 z4 := Tryz.sizeOf4
 v4 := Tryz.zeroValue4
 t5 := Tryz.underlying5
 a5 := Tryz.isAgg5
 z5 := Tryz.sizeOf5
 v5 := Tryz.zeroValue5
 t9 := Tryz.underlying9
 a9 := Tryz.isAgg9
 z9 := Tryz.sizeOf9
 v9 := Tryz.zeroValue9
 t20 := Tryz.underlying20
 a20 := Tryz.isAgg20
 z20 := Tryz.sizeOf20
 v20 := Tryz.zeroValue20
 t37 := Tryz.underlying158
 a37 := Tryz.isAgg158
 z37 := Tryz.sizeOf158
 v37 := Tryz.zeroValue158
 t46 := Tryz.underlying200
 a46 := Tryz.isAgg200
 z46 := Tryz.sizeOf200
 v46 := Tryz.zeroValue200
 t51 := Tryz.underlying198
 a51 := Tryz.isAgg198
 z51 := Tryz.sizeOf198
 v51 := Tryz.zeroValue198
 t53 := Tryz.underlying185
 a53 := Tryz.isAgg185
 z53 := Tryz.sizeOf185
 v53 := Tryz.zeroValue185
 t171 := Tryz.underlying184
 a171 := Tryz.isAgg184
 z171 := Tryz.sizeOf184
 v171 := Tryz.zeroValue184
 t173 := Tryz.underlying188
 a173 := Tryz.isAgg188
 z173 := Tryz.sizeOf188
 v173 := Tryz.zeroValue188
 t212 := Tryz.underlying197
 a212 := Tryz.isAgg197
 z212 := Tryz.sizeOf197
 v212 := Tryz.zeroValue197
 t213 := Tryz.underlying199
 a213 := Tryz.isAgg199
 z213 := Tryz.sizeOf199
 t232 := Tryz.underlying205
 a232 := Tryz.isAgg205
 z232 := Tryz.sizeOf205
 v232 := Tryz.zeroValue205
 t233 := Tryz.underlying206
 a233 := Tryz.isAgg206
 z233 := Tryz.sizeOf206
 v233 := Tryz.zeroValue206
 g17 := by kernel_rfl
 g18 := by kernel_rfl
 g19 := by kernel_rfl
 i0 := by kernel_rfl
 i2 := by kernel_rfl
 i3 := by kernel_rfl
 i4 := by kernel_rfl
 i5 := by kernel_rfl
 i9 := by kernel_rfl
 i20 := by kernel_rfl
 i37 := by kernel_rfl
 i46 := by kernel_rfl
 i51 := by kernel_rfl
 i53 := by kernel_rfl
 i171 := by kernel_rfl
 i173 := by kernel_rfl
 i212 := by kernel_rfl
 i232 := by kernel_rfl
 i233 := by kernel_rfl
 m17 := by kernel_rfl
 m18 := by kernel_rfl
 m19 := by kernel_rfl }
noncomputable def Tryz.lays190_ren : Go.Shelf.Ren := ⟨fun | 190 => 160 | 125 => 165 | 258 => 164 | 128 => 175 | 129 => 147 | 302 => 166 | 303 => 167 | 304 => 168 | 305 => 169 | 306 => 170 | 307 => 171 | 308 => 172 | 309 => 173 | 310 => 174 | 333 => 176 | 329 => 177 | 330 => 178 | 334 => 179 | 335 => 180 | 336 => 181 | 344 => 182 | n => n, fun | 31 => 32 | 9 => 9 | 3 => 3 | 46 => 200 | 0 => 0 | 51 => 198 | 53 => 185 | 4 => 4 | 183 => 215 | 182 => 214 | 131 => 220 | 5 => 5 | 218 => 222 | 222 => 226 | 228 => 228 | 229 => 229 | n => n, fun | n => n⟩
theorem Tryz.lays190 : Go.Proofs.Lays.n190 Tryz.prog Tryz.lays190_ren := {
 mixed := by kernel_rfl
 f125 := Tryz.func165.trans (congrArg some (by kernel_rfl))
 f128 := Tryz.func175.trans (congrArg some (by kernel_rfl))
 f129 := Tryz.func147.trans (congrArg some (by kernel_rfl))
 f190 := Tryz.func160.trans (congrArg some (by kernel_rfl))
 f258 := Tryz.func164.trans (congrArg some (by kernel_rfl))
 f302 := Tryz.func166.trans (congrArg some (by kernel_rfl))
 f303 := Tryz.func167.trans (congrArg some (by kernel_rfl))
 f304 := Tryz.func168.trans (congrArg some (by kernel_rfl))
 f305 := Tryz.func169.trans (congrArg some (by kernel_rfl))
 f306 := Tryz.func170.trans (congrArg some (by kernel_rfl))
 f307 := Tryz.func171.trans (congrArg some (by kernel_rfl))
 f308 := Tryz.func172.trans (congrArg some (by kernel_rfl))
 f309 := Tryz.func173.trans (congrArg some (by kernel_rfl))
 f310 := Tryz.func174.trans (congrArg some (by kernel_rfl))
 f329 := Tryz.func177.trans (congrArg some (by kernel_rfl))
 f330 := Tryz.func178.trans (congrArg some (by kernel_rfl))
 f333 := Tryz.func176.trans (congrArg some (by kernel_rfl))
 f334 := Tryz.func179.trans (congrArg some (by kernel_rfl))
 f335 := Tryz.func180.trans (congrArg some (by kernel_rfl))
 f336 := Tryz.func181.trans (congrArg some (by kernel_rfl))
 f344 := Tryz.func182.trans (congrArg some (by kernel_rfl))
 t0 := Tryz.underlying0
 a0 := Tryz.isAgg0
 z0 := Tryz.sizeOf0
 v0 := Tryz.zeroValue0
 t3 := Tryz.underlying3
 a3 := Tryz.isAgg3
 z3 := Tryz.sizeOf3
 v3 := Tryz.zeroValue3
 t4 := Tryz.underlying4
 a4 := Tryz.isAgg4
 z4 := Tryz.sizeOf4
 v4 := Tryz.zeroValue4
 t5 := Tryz.underlying5
 a5 := Tryz.isAgg5
 z5 := Tryz.sizeOf5
 v5 := Tryz.zeroValue5
 t9 := Tryz.underlying9
 a9 := Tryz.isAgg9
 z9 := Tryz.sizeOf9
 v9 := Tryz.zeroValue9
 t31 := Tryz.underlying32
 a31 := Tryz.isAgg32
 z31 := Tryz.sizeOf32
 v31 := Tryz.zeroValue32
 t46 := Tryz.underlying200
 a46 := Tryz.isAgg200
 z46 := Tryz.sizeOf200
 v46 := Tryz.zeroValue200
 t51 := Tryz.underlying198
 a51 := Tryz.isAgg198
 z51 := Tryz.sizeOf198
 v51 := Tryz.zeroValue198
 t53 := Tryz.underlying185
 a53 := Tryz.isAgg185
 z53 := Tryz.sizeOf185
 v53 := Tryz.zeroValue185
 t131 := Tryz.underlying220
 a131 := Tryz.isAgg220
 z131 := Tryz.sizeOf220
 v131 := Tryz.zeroValue220
 t182 := Tryz.underlying214
 a182 := Tryz.isAgg214
 z182 := Tryz.sizeOf214
 v182 := Tryz.zeroValue214
 t183 := Tryz.underlying215
 a183 := Tryz.isAgg215
 z183 := Tryz.sizeOf215
 v183 := Tryz.zeroValue215
 t218 := Tryz.underlying222
 a218 := Tryz.isAgg222
 z218 := Tryz.sizeOf222
 v218 := Tryz.zeroValue222
 t222 := Tryz.underlying226
 a222 := Tryz.isAgg226
 z222 := Tryz.sizeOf226
 v222 := Tryz.zeroValue226
 t228 := Tryz.underlying228
 a228 := Tryz.isAgg228
 z228 := Tryz.sizeOf228
 v228 := Tryz.zeroValue228
 t229 := Tryz.underlying229
 a229 := Tryz.isAgg229
 z229 := Tryz.sizeOf229
 v229 := Tryz.zeroValue229 }
noncomputable def Tryz.lays194_ren : Go.Shelf.Ren := ⟨fun | 194 => 161 | n => n, fun | 31 => 32 | 9 => 9 | 3 => 3 | 4 => 4 | 0 => 0 | n => n, fun | n => n⟩
theorem Tryz.lays194 : Go.Proofs.Lays.n194 Tryz.prog Tryz.lays194_ren := {
 mixed := by kernel_rfl
 f194 := Tryz.func161.trans (congrArg some (by kernel_rfl))
 t0 := Tryz.underlying0
 a0 := Tryz.isAgg0
 z0 := Tryz.sizeOf0
 v0 := Tryz.zeroValue0
 t3 := Tryz.underlying3
 a3 := Tryz.isAgg3
 z3 := Tryz.sizeOf3
 v3 := Tryz.zeroValue3
 t4 := Tryz.underlying4
 a4 := Tryz.isAgg4
 z4 := Tryz.sizeOf4
 v4 := Tryz.zeroValue4
 t9 := Tryz.underlying9
 a9 := Tryz.isAgg9
 z9 := Tryz.sizeOf9
 v9 := Tryz.zeroValue9
 t31 := Tryz.underlying32
 a31 := Tryz.isAgg32
 z31 := Tryz.sizeOf32
 v31 := Tryz.zeroValue32 }
noncomputable def Tryz.lc64_ren : Go.Shelf.Ren := ⟨fun | 41 => 64 | n => n, fun | 22 => 60 | 23 => 102 | 4 => 4 | n => n, fun | n => n⟩
theorem Tryz.lc64 : Go.Proofs.SlLaysE0.n41 Tryz.prog Tryz.lc64_ren := {
 mixed := by kernel_rfl
 f41 := ⟨Tryz.f64.name, by decide, Tryz.func64.trans (congrArg some (by kernel_rfl))⟩
 t4 := Tryz.underlying4
 a4 := Tryz.isAgg4
 z4 := Tryz.sizeOf4
 v4 := Tryz.zeroValue4
 t22 := Tryz.underlying60
 a22 := Tryz.isAgg60
 z22 := Tryz.sizeOf60
 v22 := Tryz.zeroValue60 }
noncomputable def Tryz.lc66_ren : Go.Shelf.Ren := ⟨fun | 41 => 66 | n => n, fun | 22 => 34 | 23 => 36 | 4 => 4 | n => n, fun | n => n⟩
theorem Tryz.lc66 : Go.Proofs.SlLaysE0.n41 Tryz.prog Tryz.lc66_ren := {
 mixed := by kernel_rfl
 f41 := ⟨Tryz.f66.name, by decide, Tryz.func66.trans (congrArg some (by kernel_rfl))⟩
 t4 := Tryz.underlying4
 a4 := Tryz.isAgg4
 z4 := Tryz.sizeOf4
 v4 := Tryz.zeroValue4
 t22 := Tryz.underlying34
 a22 := Tryz.isAgg34
 z22 := Tryz.sizeOf34
 v22 := Tryz.zeroValue34 }
noncomputable def Tryz.lc81_ren : Go.Shelf.Ren := ⟨fun | 41 => 81 | n => n, fun | 22 => 32 | 23 => 9 | 4 => 4 | n => n, fun | n => n⟩
theorem Tryz.lc81 : Go.Proofs.SlLaysE0.n41 Tryz.prog Tryz.lc81_ren := {
 mixed := by kernel_rfl
 f41 := ⟨Tryz.f81.name, by decide, Tryz.func81.trans (congrArg some (by kernel_rfl))⟩
 t4 := Tryz.underlying4
 a4 := Tryz.isAgg4
 z4 := Tryz.sizeOf4
 v4 := Tryz.zeroValue4
 t22 := Tryz.underlying32
 a22 := Tryz.isAgg32
 z22 := Tryz.sizeOf32
 v22 := Tryz.zeroValue32 }
noncomputable def Tryz.lc98_ren : Go.Shelf.Ren := ⟨fun | 41 => 98 | n => n, fun | 22 => 31 | 23 => 38 | 4 => 4 | n => n, fun | n => n⟩
theorem Tryz.lc98 : Go.Proofs.SlLaysE0.n41 Tryz.prog Tryz.lc98_ren := {
 mixed := by kernel_rfl
 f41 := ⟨Tryz.f98.name, by decide, Tryz.func98.trans (congrArg some (by kernel_rfl))⟩
 t4 := Tryz.underlying4
 a4 := Tryz.isAgg4
 z4 := Tryz.sizeOf4
 v4 := Tryz.zeroValue4
 t22 := Tryz.underlying31
 a22 := Tryz.isAgg31
 z22 := Tryz.sizeOf31
 v22 := Tryz.zeroValue31 }
end Go.Proofs
namespace Go.Proofs.YtbaamopmfmpfaaaGreatDoor
open Go Go.Proofs.Tryz
set_option linter.unusedVariables false
set_option maxRecDepth 100000
theorem qa9:nR Pg 64 102:=Gm Tryz.lc64 rfl rfl (by kernel_rfl) call64
theorem Qc{l r:List cM}(h:n8 l=some r):CC Pg GE 64 [sl bH l] (sl bH r) [(0,102)]:=I3.cloneCC qa9 h
theorem qba:nR Pg 66 36:=Gm Tryz.lc66 rfl rfl (by kernel_rfl) call66
theorem YT{l r:List aa}(h:n8 l=some r):CC Pg GE 66 [sl ac l] (sl ac r) [(0,36)]:=bL.cloneCC qba h
theorem Tu:nR Pg 81 9:=Gm Tryz.lc81 rfl rfl (by kernel_rfl) call81
theorem Ir{l r:List af}(h:n8 l=some r):CC Pg GE 81 [sl cS l] (sl cS r) [(0,9)]:=bq.cloneCC Tu h
theorem qbb:nR Pg 98 38:=Gm Tryz.lc98 rfl rfl (by kernel_rfl) call98
open Go
abbrev Wt(GE:List (Nat×List PVal))(Γ:bA)(w:World):uO:=⟨GE,Γ,w,fun _=>False⟩
structure Us(GE:List (Nat×List PVal))(Γ:bA)(w:World):Prop where
 wi:∀b n,Γ b=some n->∃c t fr,w.heap[b]? =some (.cells c t fr)/\n<=c.size
 gl:∀g cs,(g,cs)∈GE->VR Γ [] w (.eptr cs) (.pointer (some ⟨g,0,none⟩))
 gc:∀g cs,(g,cs)∈GE->iC 0 cs
 gx:∀g cs,(g,cs)∈GE->g<w.heap.size/\∃c t fr,w.heap[g]? =some (.cells c t fr)/\c.size=cs.length
theorem VR.clo{Γ:bA}{bs bs':bT}{w:World}{p:PVal}{v:Value}(h:VR Γ bs w p v)(hc:p.cl 0):VR Γ bs' w p v:=h.restrict (n:=0) hc fun i b hi _=>absurd hi (vaS _)
section
variable{P:Program}{E:uO}{Γ:bA}{bs:bT}{ow:Nat->Option nU}{w:World}{a:Array Value}{st:aC}
theorem SR.base(h:SR P E Γ bs ow w a st):Us E.GE Γ w where
 wi:=h.wi
 gl:=fun g cs hg=>(h.gl g cs hg).clo (by simp only[PVal.cl];exact h.gc g cs hg)
 gc:=h.gc
 gx:=fun g cs hg=>⟨(h.gnow hg).1,(h.gnow hg).2.2.2⟩
theorem Us.good{GE:List (Nat×List PVal)}(hB:Us GE Γ w):Jb GE 0 (Wt GE Γ w) where
 ge:=rfl
 low:=fun b n h=>by obtain⟨c,t,fr,h1,_⟩:=hB.wi b n h;exact(var.1 h1).1
 nt:=fun _ _ hb=>hb
 gl:=hB.gl
theorem Us.fresh{GE:List (Nat×List PVal)}(hB:Us GE Γ w)(k:Nat){tmps:List PVal}(hs:a.size=tmps.length)(hv:∀(t:Nat) p v,tmps[t]? =some p->a[t]? =some v->VR Γ [] w p v):SR P (Wt GE Γ w) Γ (List.replicate k none) (fun _=>none) w a ⟨tmps,List.replicate k .dead,[]⟩:=by
 have hno:∀(i b:Nat),(List.replicate k (none:Option Nat))[i]? =some (some b)->False:=fun i b h=>by
  rw[vaU]at h
  split at h<;>simp at h
 exact{
  wi:=hB.wi
  sz:=hs
  tm:=fun t p v hp hv'=>(hv t p v hp hv').mono (.refl _ _) (fun i b h=>by simp at h)
  bl:=by simp
  bx:=fun i b B hb=>(hno i b hb).elim
  inj:=fun i j b hb=>(hno i b hb).elim
  bn:=fun i b hb=>(hno i b hb).elim
  on:=fun b L hL=>by cases hL
  ot:=fun t k e he=>by simp at he
  ob:=fun i j e cs own b _ _ hb=>(hno i b hb).elim
  gl:=fun g cs hg=>(hB.gl g cs hg).mono (.refl _ _) (fun i b h=>by simp at h)
  gc:=hB.gc
  gx:=fun g cs hg=>⟨(hB.gx g cs hg).1,fun h=>h,(hB.gx g cs hg).2⟩
  step:=.refl _ _ _ _}
theorem SR.again(h:SR P E Γ bs ow w a st)(hc:iC 0 st.tmps){GE:List (Nat×List PVal)}{Γ':bA}{w':World}(hB:Us GE Γ' w')(hle:Γ.Le w Γ' w')(k:Nat):SR P (Wt GE Γ' w') Γ' (List.replicate k none) (fun _=>none) w' a ⟨st.tmps,List.replicate k .dead,[]⟩:=
 hB.fresh k h.sz fun t p v hp hv=>((h.tm t p v hp hv).clo (rz hc hp)).mono hle (.refl _)
theorem SR.aside(h:SR P E Γ bs ow w a st){GE:List (Nat×List PVal)}{Γ':bA}{bs':bT}{ow':Nat->Option nU}{w':World}{a':Array Value}{st':aC}(h':SR P (Wt GE Γ w) Γ' bs' ow' w' a' st'):SR P E Γ' bs ow w' a st:=
 h.world (fun _=>False) h'.step.le h'.wi h'.step.os h'.step.tape h'.step.output h'.step.size (fun b hb _=>h'.step.keep b hb id) (fun _ hx=>hx.elim) (fun _ _ _ hx=>hx) (fun _ _ _ hx=>hx)
theorem SR.putOther(h:SR P E Γ bs ow w a st){l:Nat}{o:Obj}(hT:¬cy bs ow l)(hE:E.T l\/E.w.heap.size<=l)(ho:∀c t fr,w.heap[l]? ≠some (.cells c t fr)):SR P E Γ bs ow (w.putObj l o) a st/\Γ.Le w Γ (w.putObj l o):=by
 have hg:∀b n,Γ b=some n->b≠l:=fun b n hb e=>by
  obtain⟨c,t,fr,h1,_⟩:=h.wi b n hb
  exact ho c t fr (e▸h1)
 have hle:Γ.Le w Γ (w.putObj l o):=fun b n hb _=>⟨n,hb,vah _,fun k _=>cE (World.putObj_heap_other (hg b n hb)) k⟩
 refine⟨h.world (fun b=>b=l) hle (fun b n hb=>?_) rfl rfl rfl (by simp) (fun b _ hb=>⟨World.putObj_heap_other hb,rfl⟩) (fun b hb=>hb▸hE) (fun i b hb e=>hT (.inl ⟨i,e▸hb⟩)) (fun b L hL e=>hT (.inr (by rw[<-e,hL];simp))),hle⟩
 obtain⟨c,t,fr,h1,h2⟩:=h.wi b n hb
 exact⟨c,t,fr,(World.putObj_heap_other (hg b n hb)).trans h1,h2⟩
theorem SR.rebase(h:SR P E Γ bs ow w a st):SR P ⟨E.GE,Γ,w,cy bs ow⟩ Γ bs ow w a st:=
 { h with
  bn:=fun i b hb=>.inl (.inl ⟨i,hb⟩)
  on:=fun b L hL=>⟨(h.on b L hL).1,.inl (.inr (by rw[hL];simp))⟩
  gx:=fun g cs hg=>by
   obtain⟨k1,k2,k3,k4⟩:=h.gnow hg
   refine⟨k1,fun hT=>?_,k4⟩
   rcases hT with⟨i,hi⟩|hT
   ·exact k2 i g hi rfl
   ·exact hT k3
  step:=.refl _ _ _ _}
theorem SR.touchE(h:SR P E Γ bs ow w a st){b:Nat}(hb:cy bs ow b):E.T b\/E.w.heap.size<=b:=by
 rcases hb with⟨i,hi⟩|hb
 ·exact h.bn i b hi
 ·cases hL:ow b with
  |none=>exact absurd hL hb
  |some L=>exact(h.on b L hL).2
theorem SR.unbase(h:SR P E Γ bs ow w a st){Γ':bA}{bs':bT}{ow':Nat->Option nU}{w':World}{a':Array Value}{st':aC}(h':SR P ⟨E.GE,Γ,w,cy bs ow⟩ Γ' bs' ow' w' a' st'):SR P E Γ' bs' ow' w' a' st':=by
 have hT:∀b,cy bs ow b\/w.heap.size<=b->E.T b\/E.w.heap.size<=b:=fun b hb=>hb.elim h.touchE fun hb=>.inr (vaI h.step.size hb)
 exact{h' with
  bn:=fun i b hb=>hT b (h'.bn i b hb)
  on:=fun b L hL=>⟨(h'.on b L hL).1,hT b (h'.on b L hL).2⟩
  gx:=h.gx
  step:={
   os:=h'.step.os.trans h.step.os
   tape:=h'.step.tape.trans h.step.tape
   output:=h'.step.output.trans h.step.output
   size:=vaI h.step.size h'.step.size
   keep:=fun b hb hTb=>by
    have hlt:b<w.heap.size:=vaJ hb h.step.size
    have hn:¬cy bs ow b:=fun hx=>(h.touchE hx).elim hTb fun hx=>absurd hx (vck.2 hb)
    obtain⟨k1,k2⟩:=h'.step.keep b hlt hn
    obtain⟨q1,q2⟩:=h.step.keep b hb hTb
    exact⟨k1.trans q1,k2.trans q2⟩
   le:=h.step.le.trans h'.step.le}}
theorem aV.on{m:Nat}{c:Code}{Q:Exit->aC->Prop}(hS:aV P E.GE m c Q st)(hm:m≠0)(h:SR P E Γ bs ow w a st)(hl:m % 1000<=bs.length)(ro:Option Nat)(ds:List Deferred):Tw ro P c (fun e a' w'=>a'.defers=ds/\∃Γ' bs' ow' st',SR P E Γ' bs' ow' w' a'.tmps st'/\Q e st'/\(∀i:Nat,i<m % 1000->bs'[i]? =bs[i]?)/\Γ.Le w Γ' w'/\w.heap.size<=w'.heap.size/\
   ∀b,b<w.heap.size->¬cy bs ow b->w'.heap[b]? =w.heap[b]?/\¬cy bs' ow' b) ⟨a,ds⟩ w:=by
 have hE:Jb E.GE m ⟨E.GE,Γ,w,cy bs ow⟩:={
  ge:=rfl
  low:=fun b n hb=>h.lt_of_ghost hb
  nt:=fun h0=>absurd h0 hm
  gl:=h.base.gl}
 have hlen:(bs.take (m % 1000)).length=m % 1000:=by simp;omega
 refine uw (hS ro ⟨E.GE,Γ,w,cy bs ow⟩ (bs.take (m % 1000)) ⟨a,ds⟩ w hE hlen ⟨Γ,bs,ow,h.rebase,fun i hi=>?_⟩) fun e a' w' hq=>?_
 ·rw[vap (by omega)]
 obtain⟨hd,st',⟨Γ',bs',ow',h',hk⟩,hQ⟩:=hq
 refine⟨hd,Γ',bs',ow',st',h.unbase h',hQ,fun i hi=>?_,h'.step.le,h'.step.size,fun b hb hT=>⟨(h'.step.keep b hb hT).1,fun hx=>?_⟩⟩
 ·rw[hk i (by omega),vap hi]
 ·exact(h'.touchE hx).elim hT fun hx=>absurd hx (vck.2 hb)
theorem aV.wide{GE:List (Nat×List PVal)}{c:Code}{Q:Exit->aC->Prop}{st0:aC}(hS:aV P GE 0 c Q st0)(hB:Us GE Γ w){ow:Nat->Option nU}{bs:bT}(h:SR P (Wt GE Γ w) Γ bs ow w a st0)(n:Nat)(ds:List Deferred):c.wpIn Fence.wide n P (fun e a' w'=>a'.defers=ds/\∃Γ' bs' ow' st',SR P (Wt GE Γ w) Γ' bs' ow' w' a'.tmps st'/\Q e st') ⟨a,ds⟩ w:=
 wpIn_wide.2 (wp_mono (hS none (Wt GE Γ w) [] ⟨a,ds⟩ w hB.good rfl ⟨Γ,bs,ow,h,fun i hi=>absurd hi (vaS _)⟩) fun e a' w' hq=>by
  obtain⟨hd,st',⟨Γ',bs',ow',h',_⟩,hQ⟩:=hq
  exact⟨hd,Γ',bs',ow',st',h',hQ⟩)
theorem aV.wideE{GE:List (Nat×List PVal)}{c:Code}{Q:Exit->aC->Prop}(hS:aV P GE 0 c Q st)(hE:Jb GE 0 E)(h:SR P E Γ bs ow w a st)(n:Nat)(ds:List Deferred):c.wpIn Fence.wide n P (fun e a' w'=>a'.defers=ds/\∃Γ' bs' ow' st',SR P E Γ' bs' ow' w' a'.tmps st'/\Q e st') ⟨a,ds⟩ w:=
 wpIn_wide.2 (wp_mono (hS none E [] ⟨a,ds⟩ w hE rfl ⟨Γ,bs,ow,h,fun i hi=>absurd hi (vaS _)⟩) fun e a' w' hq=>by
  obtain⟨hd,st',⟨Γ',bs',ow',h',_⟩,hQ⟩:=hq
  exact⟨hd,Γ',bs',ow',st',h',hQ⟩)
theorem SR.allocO(h:SR P E Γ bs ow w a st)(o:Obj):SR P E Γ bs ow (w.alloc o) a st/\Γ.Le w Γ (w.alloc o):=by
 have hlt:∀b n,Γ b=some n->b<w.heap.size:=fun b n hb=>h.lt_of_ghost hb
 have hle:Γ.Le w Γ (w.alloc o):=fun b n hb _=>⟨n,hb,vah _,fun k _=>cE (eL w o (hlt b n hb)) k⟩
 refine⟨h.world (fun _=>False) hle (fun b n hb=>?_) rfl rfl rfl (by simp[World.size_alloc]) (fun b hb _=>⟨eL w o hb,rfl⟩) (fun _ hx=>hx.elim) (fun _ _ _ hx=>hx) (fun _ _ _ hx=>hx),hle⟩
 obtain⟨c,t,fr,h1,h2⟩:=h.wi b n hb
 exact⟨c,t,fr,(eL w o (hlt b n hb)).trans h1,h2⟩
theorem SR.forgetT(h:SR P E Γ bs ow w a st){tm:List PVal}(hf:Of st.tmps tm=tm):SR P E Γ bs ow w a {st with tmps:=tm}:=
 { h with
  sz:=by rw[h.sz,<-Vu (l:=st.tmps) (bs:=tm),hf]
  tm:=fun t p v hp hv=>by
   rw[<-hf]at hp
   rcases Vt hp with rfl|hp'
   ·exact .undef v
   ·exact h.tm t p v hp' hv}
theorem SR.back(h:SR P E Γ bs ow w a st)(ho:st.own=[]){Γ':bA}{bs':bT}{ow':Nat->Option nU}{w':World}{a':Array Value}{st':aC}{H':List aP}(h':SR P E Γ' bs' ow' w' a' st')(hle:Γ.Le w Γ' w')
  (hbs:∀i:Nat,i<bs.length->bs'[i]? =bs[i]?) (hH:dT H'.length st'.boxes H') (hl:H'.length=bs.length):
  ∃ow'',SR P E Γ' bs ow'' w' a {st with boxes:=H'}/\∀b,cy bs ow'' b->cy bs' ow' b:=by
 have hf:=h'.finish (H':=H') (v:=undef) (r:=.undef) (src:=fun k=>(0,k)) (ro:=[]) (.undef _) trivial hH (fun x hx=>by simp at hx) (fun x hx=>by simp at hx)
 have hb:bs'.take H'.length=bs:=by
  obtain⟨h1,_⟩:=pg hH
  have h2:H'.length<=bs'.length:=by rw[h'.bl];exact h1
  refine vbn fun i=>?_
  by_cases hi:i<H'.length
  ·rw[vap hi];exact hbs i (by omega)
  ·rw[vb9 (by omega),vat (by omega)]
 rw[hb]at hf
 refine⟨_,{hf with
  sz:=h.sz
  tm:=fun t p v hp hv=>(h.tm t p v hp hv).mono hle (.refl _)
  ot:=fun t k e he=>by simp only[ho]at he;simp at he},fun b hb=>?_⟩
 rcases hb with⟨i,hi⟩|hb
 ·exact .inl ⟨i,(hbs i (aw hi)).trans hi⟩
 ·refine .inr fun e=>hb ?_
  simp[Hz,e]
end
section
variable{P:Program}{n:Nat}{a:Act}{w:World}{pw:Act->World->Prop}{Q:Exit->Act->World->Prop}
theorem qbL{o:Oper}(hd:gv o=true)(h:o.wp P a w pw Q):o.wpIn Fence.wide n P a w pw Q:=by
 refine⟨fun _ _=>trivial,?_⟩
 have hs:o.semAt (Fence.wide).round a.eval=execOp a.eval o:=Oper.semAt_eq _ _ _ fun c hc=>by unfold gv at hd;rw[hc]at hd;cases hd
 rw[hs]
 unfold Oper.wp at h
 generalize (execOp a.eval o).run P w=r at *
 have hdep:(Fence.wide).depth.isSome=true->1<=n:=fun h=>by simp[Fence.wide]at h
 cases r with
 | ok x w' =>
  cases x<;>simp only[Oper.upon]at h<;>simp only[Oper.uponIn]<;>first
   |exact h.elim
   |exact h
   |exact⟨hdep,callsIn_wide.2 h⟩
   | exact ⟨hdep,fun c cs _ => by
     obtain⟨v,w',r,s⟩:=h c cs
     exact⟨v,w',r,stepsIn_wide.2 s⟩⟩
 |halt x w'=>cases x<;>simp only[Oper.upon]at h<;>simp only[Oper.uponIn]<;>exact h
theorem qa7{o:Oper}{f:Operand}{args:Array Operand}{tys:Array TypeId}(ho:o.op=.call {callee:=.value f,args:=args,argTypes:=tys}){g:FuncId}{fs cs:Array Value}(hf:a.eval f=.func (.func g) fs cs)
  (hc:∀vs w,(callFunc g vs).run P w=.ok (.enter g vs) w) {R:Ending->World->Prop} (h:CallsIn Fence.wide (n - 1) P g (fs++args.map a.eval++cs) w R) (hR:∀e w',R e w'->∃v,e=.returned v/\pw (a.put o.dst v) w'):o.wpIn Fence.wide n P a w pw Q:=by
 refine⟨fun _ _=>trivial,?_⟩
 have hs:o.semAt (Fence.wide).round a.eval=execOp a.eval o:=Oper.semAt_eq _ _ _ fun c hc=>by rw[ho]at hc;cases hc
 have hrun:(execOp a.eval o).run P w=.ok (.enter g (fs++args.map a.eval++cs)) w:=by
  simp[execOp,ho,resolve,hf,Deferred.ofValue,invoke,hc]
 rw[hs,hrun,Oper.uponIn_enter]
 refine⟨fun h=>by simp[Fence.wide]at h,h.mono fun e w' hr=>?_⟩
 obtain⟨v,rfl,hx⟩:=hR e w' hr
 exact hx
theorem ZI{o:Oper}{f:Operand}{args:Array Operand}{tys:Array TypeId}(ho:o.op=.call {callee:=.value f,args:=args,argTypes:=tys}){l:Nat}(hf:a.eval f=.func (.yield l) #[] #[])
  {R:Ending->World->Prop} (h:YieldAt Fence.wide (n - 1) P l (args.map a.eval) w R) (hR:∀e w',R e w'->∃v,e=.returned v/\pw (a.put o.dst v) w'):o.wpIn Fence.wide n P a w pw Q:=by
 refine⟨fun _ _=>trivial,?_⟩
 have hs:o.semAt (Fence.wide).round a.eval=execOp a.eval o:=Oper.semAt_eq _ _ _ fun c hc=>by rw[ho]at hc;cases hc
 obtain⟨fn,tmps,assign,body,hy,hr⟩:=h
 have hrun:(execOp a.eval o).run P w=.ok (.round l fn tmps assign body) w:=by
  simp[execOp,ho,resolve,hf,Deferred.ofValue,invoke,hy]
 rw[hs,hrun,Oper.uponIn_round]
 refine⟨fun h=>by simp[Fence.wide]at h,hr.mono fun e w' hr=>?_⟩
 obtain⟨v,rfl,hx⟩:=hR e w' hr
 exact hx
theorem IM{ops:Array Oper}{i:Nat}{rest:List Nat}{o:Oper}(ho:ops[i]? =some o)(hg:o.guard=none)(h:o.wpIn Fence.wide n P a w (wpOpsIn Fence.wide n P ops Q rest) Q):wpOpsIn Fence.wide n P ops Q (i::rest) a w:=by
 unfold wpOpsIn
 simp only[ho,Region.wanted,hg,if_true]
 exact h
theorem Gx{E:uO}{A:List Nat}{ops:Array Oper}{K:aC->Prop}{rest:List Nat}{ds:List Deferred}
  (hK:∀Γ bs ow a w st,SR P E Γ bs ow w a st->K st->wpOpsIn Fence.wide n P ops Q rest ⟨a,ds⟩ w):
  ∀(L:List Oper) (is:List Nat) (Γ:bA) (bs:bT) (ow:Nat->Option nU) (a:Array Value) (w:World) (st:aC),is.map (fun i=>ops[i]?)=L.map some->
   (∀o∈L,o.guard=none/\gv o=true/\aT o.op=false)->SR P E Γ bs ow w a st->dO P E.GE A ops K L 0 st->wpOpsIn Fence.wide n P ops Q (is++rest) ⟨a,ds⟩ w
 |[],[],Γ,bs,ow,a,w,st,_,_,h,hp=>hK Γ bs ow a w st h hp
 |o::L,i::is,Γ,bs,ow,a,w,st,hi,hg,h,hp=>by
  obtain⟨g1,g2,g3⟩:=hg o (by simp)
  unfold dO at hp
  simp only[g1]at hp
  simp only[vay,vbv]at hi
  refine IM hi.1 g1 (qbL g2 (Oper.wp_mono (fun a' w' hA=>?_) (KS (a:=⟨a,ds⟩) h (fun hm=>by rw[g3]at hm;cases hm) hp Q)))
  obtain⟨hd,Γ',bs',ow',st',h1,h2,_⟩:=hA
  obtain⟨a1,ds1⟩:=a'
  simp only at hd h1
  subst hd
  refine Gx (A:=A) hK L is Γ' bs' ow' a1 w' st' hi.2 (fun o ho=>hg o (va0 _ ho)) h1 ?_
  rw[g3]at h2
  exact h2
end
def px:Code->Array Oper
 |.region _ ops _=>ops
 |_=>#[]
def qjN:Code->Nat
 |.region id _ _=>id
 |_=>0
def qao(c:Code)(i:Nat):Oper:=(px c)[i]?.getD default
def qhr(o:Oper):Array TypeId:=match o.op with
 |.call c=>c.argTypes
 |_=>#[]
def Q6(o:Oper):Bool:=o.guard.isNone&&gv o&&!aT o.op
theorem Mj{L:List Oper}(h:L.all Q6=true):∀o∈L,o.guard=none/\gv o=true/\aT o.op=false:=fun o ho=>by
 have:=vax.1 h o ho
 simpa[Q6,and_assoc]using this
theorem tZ{P:Program}{GE:List (Nat×List PVal)}{A:List Nat}{ops:Array Oper}{K K':aC->Prop}(hK:∀st,K st->K' st):∀(L:List Oper) (id:Nat) (st:aC),dO P GE A ops K L id st->dO P GE A ops K' L id st
 |[],_,st,h=>hK st h
 | o :: L,id,st,h => by
  unfold dO at h ⊢
  split at h
  ·exact FH (fun st hx=>tZ hK L _ st hx) h
  ·split at h
   ·exact⟨fun hx=>FH (fun st hx=>tZ hK L _ st hx) (h.1 hx),fun hx=>tZ hK L _ _ (h.2 hx)⟩
   ·exact h
theorem qlk{P:Program}{m:Nat}{sc:List It}{F:Prop}{st st0:aC}(h:PS sc F)(he:F=qco m sc st (fun _ st'=>FG st' st0)):wl P m st st0:=by
 obtain⟨_,st',hw,hf⟩:=Vv (P:=P) (Eq.mp he h)
 exact hw.trans hf.weak
theorem aV.thenW{P:Program}{GE:List (Nat×List PVal)}{m:Nat}{c:Code}{e:Exit}{st0 st1 st2:aC}(h:aV P GE m c (EX e st1) st0)(hw:wl P m st1 st2):aV P GE m c (EX e st2) st0:=
 h.mono fun e' st' hx=>⟨st2,hx.2▸hw,hx.1,rfl⟩
theorem KI{P:Program}{GE:List (Nat×List PVal)}{A:List Nat}{ops:Array Oper}{L:List Oper}{st st0:aC}{sc:List It}{F:Prop}(h:PS sc F)(he:F=Qh P GE A ops (fun _ st=>FG st st0) L 0 0 sc st):dO P GE A ops (fun st=>FG st st0) L 0 st:=
 tZ (fun st ⟨_,hx⟩=>hx) L 0 st (Cz L 0 0 sc st (Eq.mp he h))
theorem FG.sr{P:Program}{E:uO}{Γ:bA}{bs:bT}{ow:Nat->Option nU}{w:World}{a:Array Value}{st st0:aC}(h:SR P E Γ bs ow w a st)(hf:FG st st0):∃Γ' bs' ow',SR P E Γ' bs' ow' w a st0:=by
 obtain⟨Γ',bs',ow',h',_⟩:=(hf.weak (P:=P) (m:=0)) E [] ⟨a,[]⟩ w rfl ⟨Γ,bs,ow,h,fun i hi=>absurd hi (vaS _)⟩
 exact⟨Γ',bs',ow',h'⟩
structure Yd(P:Program)(GE:List (Nat×List PVal))(l:Nat){S α:Type}(c:α->List PVal)(step:S->α->Option (Bool×S))(J:Bool->S->bA->World->Prop):Prop where
 base:∀b s Γ w,J b s Γ w->Us GE Γ w
 side:∀b s Γ w,J b s Γ w->∀Γ' bs' ow' w' a' st',SR P (Wt GE Γ w) Γ' bs' ow' w' a' st'->J b s Γ' w'
 yield:∀s Γ w x v n r,J true s Γ w->VR Γ [] w (.agg (c x)) v->step s x=some r->YieldAt Fence.wide n P l #[v] w fun e w'=>∃Γ',e=.returned (.bool r.1)/\Γ.Le w Γ' w'/\J r.1 r.2 Γ' w'
section
variable{S:Type}(step:S->aa->Option (Bool×S))
mutual
def Wm:aa->S->Option (Bool×S)
 |⟨o,n,k,ks⟩,s=>(step s ⟨o,n,k,ks⟩).bind fun r=>match r.1 with
  |false=>some (false,r.2)
  |true=>if ks.length<4611686018427387904 then Wl ks r.2 else none
def Wl:List aa->S->Option (Bool×S)
 |[],s=>some (true,s)
 |p::ps,s=>(Wm p s).bind fun r=>match r.1 with
  |false=>some (false,r.2)
  |true=>Wl ps r.2
end
theorem qfT(p:aa)(s:S):Wm step p s=(step s p).bind fun r=>match r.1 with
  |false=>some (false,r.2)
  |true=>if p.Kids.length<4611686018427387904 then Wl step p.Kids r.2 else none:=by
 obtain⟨o,n,k,ks⟩:=p
 rw[Wm];rfl
end
abbrev fV:Nat:=163
noncomputable def bV:Code:=f163.body.getD .skip
abbrev qkO:Code:=gC bV [false]
abbrev qfQ:Code:=gC bV [true,false,false]
abbrev qlp:Code:=gC bV [true,false,true,false,false]
abbrev qlq:Code:=gC bV [true,true,false,false]
abbrev vL:Code:=gC bV [true,true,false,true,false,false]
abbrev qlr:Code:=gC bV [true,true,false,true,false,false,false]
abbrev qkP:Code:=gC bV [true,true,false,true,false,false,true,true,false,false,false]
abbrev qfR:Code:=gC bV [true,true,false,true,false,false,true,true,false,false,true,false]
abbrev qls:Code:=gC bV [true,true,false,true,false,false,true,true,false,false,true,true,false,false]
abbrev qlt:Code:=gC bV [true,true,false,true,false,false,true,true,true]
abbrev qlu:Code:=gC bV [true,true,true,false]
theorem qiv:bV=.seq qkO (.seq (.seq qfQ (.cond (.tmp 10) (.seq qlp .ret) .skip)) (.seq (.seq qlq (.block 0 (.loop vL))) (.seq qlu .ret))):=by kernel_rfl
theorem qjc:vL=.seq qlr (.seq (.cond (.tmp 15) .skip (.exit 0)) (.seq (.block 1 (.seq qkP (.seq qfR (.cond (.tmp 21) (.seq qls .ret) .skip)))) qlt)):=by kernel_rfl
abbrev yv(l:Nat):PVal:=.val (.func (.yield l) #[] #[])
abbrev Wv(p:aa):List PVal:=[.int .i64 p.Op,.str p.Name,.int .i64 p.N,sl ac p.Kids]
theorem qle(p:aa):iC 0 (Wv p):=by have:=ah p;rwa[aK]at this
abbrev qkQ(p:aa)(l:Nat):aC:=be 23 [(1,yv l),(2,.eptr (ac p))] [.dead] []
abbrev qgq(l:Nat)(ks:List aa)(i:Int):aC:=be 23 [(1,yv l),(12,sl ac ks),(13,.int .i64 (ks.length:Int)),(14,.int .i64 i)] [.dead] []
abbrev qkR(l:Nat)(ks:List aa)(i:Int)(x:aa):aC:=be 23 [(1,yv l),(6,.eptr (ac x)),(12,sl ac ks),(13,.int .i64 (ks.length:Int)),(14,.int .i64 i)] [.dead,.dead] []
theorem qmi(p:aa)(l:Nat):aV Pg GE 0 qkO (EX .normal (qkQ p l)) (be 23 [(0,.agg (ac p)),(1,yv l)] [] []):=by
 have z:=sx (cr p)<|eF .normal (be 23 [(1,yv l),(2,.bptr 0 0)] [.cells (Wv p) []] [])
 have h1:aV Pg GE 0 qkO (EX .normal (be 23 [(1,yv l),(2,.bptr 0 0)] [.cells (Wv p) []] [])) (be 23 [(0,.agg (ac p)),(1,yv l)] [] []):=oe (A:=[]) mixed z (by kernel_rfl)
 have z2:=qgo 0 [Wv p] [1,2] [] (qlh (m:=0) (b:=0) rfl (Wv p) rfl) (qli 0 (qle p)) (qlj (l:=Wv p) (r:=Wv p) rfl)<|en (fr (be 23 [(1,yv l),(2,.eptr (Wv p))] [.dead] []))
 have h2:=h1.thenW (st2:=be 23 [(1,yv l),(2,.eptr (Wv p))] [.dead] []) (qlk z2 (by kernel_rfl))
 unfold qkQ
 rw[aK]
 rw[aK]at h2
 exact h2
theorem qmj(p:aa)(l:Nat):dO Pg GE [] (px qfQ) (fun st=>FG st (be 23 [(1,yv l),(2,.eptr (ac p)),(7,yv l),(8,.agg (ac p))] [.dead] [])) ((px qfQ).toList.take 2) 0 (qkQ p l):=by
 have z:=sv (bh p)<|en (fr (be 23 [(1,yv l),(2,.eptr (ac p)),(7,yv l),(8,.agg (ac p))] [.dead] []))
 exact KI z (by kernel_rfl)
theorem qkS(p:aa)(l:Nat)(b:Bool):dO Pg GE [] (px qfQ) (fun st=>FG st (be 23 [(1,yv l),(2,.eptr (ac p)),(10,.bool (!b))] [.dead] [])) ((px qfQ).toList.drop 3) 0 (be 23 [(1,yv l),(2,.eptr (ac p)),(7,yv l),(8,.agg (ac p)),(9,.bool b)] [.dead] []):=by
 have z:=en (fr (be 23 [(1,yv l),(2,.eptr (ac p)),(10,.bool (!b))] [.dead] []))
 exact KI z (by kernel_rfl)
abbrev vE(H:List aP)(b:Bool):aC:=be 23 [(4,.bool b)] H []
theorem qmk(p:aa)(l:Nat):aV Pg GE 0 (.seq qlp .ret) (EX .ret (vE [.dead] false)) (be 23 [(1,yv l),(2,.eptr (ac p)),(10,.bool true)] [.dead] []):=by
 have z:=eF .ret (vE [.dead] false)
 exact oe (A:=[]) mixed z (by kernel_rfl)
theorem qml(p:aa)(l:Nat):aV Pg GE 0 qlq (EX .normal (qgq l p.Kids 0)) (be 23 [(1,yv l),(2,.eptr (ac p)),(10,.bool false)] [.dead] []):=by
 have z:=sv (bC p)<|sv (bD p)<|cq (bL.ln p.Kids)<|eF .normal (qgq l p.Kids 0)
 exact oe (A:=[]) mixed z (by kernel_rfl)
abbrev qhT(l:Nat)(ks:List aa)(i:Int):aC:=be 23 [(1,yv l),(12,sl ac ks),(13,.int .i64 (ks.length:Int)),(14,.int .i64 i),(15,.bool (decide (i<(ks.length:Int))))] [.dead] []
theorem qmm(l:Nat)(ks:List aa)(i:Int):aV Pg GE 0 qlr (EX .normal (qhT l ks i)) (qgq l ks i):=by
 have z:=eF .normal (qhT l ks i)
 exact oe (A:=[]) mixed z (by kernel_rfl)
theorem qmn(l:Nat)(ks:List aa)(i:Int)(x:aa)(hx:cz ks i=some x):aV Pg GE 0 qkP (EX .normal (qkR l ks i x)) (qhT l ks i):=by
 have z:=sv (bL.ia (k:=.i64) hx)<|sv (bh x)<|sx ib<|sx (cr x)<|eF .normal (be 23 [(1,yv l),(6,.bptr 1 0),(12,sl ac ks),(13,.int .i64 (ks.length:Int)),(14,.int .i64 i)] [.dead,.cells (Wv x) []] [])
 have h1:aV Pg GE 0 qkP (EX .normal (be 23 [(1,yv l),(6,.bptr 1 0),(12,sl ac ks),(13,.int .i64 (ks.length:Int)),(14,.int .i64 i)] [.dead,.cells (Wv x) []] [])) (qhT l ks i):=oe (A:=[]) mixed z (by kernel_rfl)
 have z2:=qgo 1 [Wv x] [1,6,12,13,14] [] (qlh (m:=0) (b:=1) rfl (Wv x) rfl) (qli 1 (qle x)) (qlj (l:=Wv x) (r:=Wv x) rfl)<|sf (Fr 1 (p:=sl ac ks) (aj ah ks))<|en (fr (be 23 [(1,yv l),(6,.eptr (Wv x)),(12,sl ac ks),(13,.int .i64 (ks.length:Int)),(14,.int .i64 i)] [.dead,.dead] []))
 have h2:=h1.thenW (st2:=be 23 [(1,yv l),(6,.eptr (Wv x)),(12,sl ac ks),(13,.int .i64 (ks.length:Int)),(14,.int .i64 i)] [.dead,.dead] []) (qlk z2 (by kernel_rfl))
 unfold qkR
 rw[aK]
 exact h2
theorem qmo(l:Nat)(ks:List aa)(i:Int)(x:aa):dO Pg GE [] (px qfR) (fun st=>FG st (be 23 [(1,yv l),(12,sl ac ks),(13,.int .i64 (ks.length:Int)),(14,.int .i64 i),(18,.agg (ac x)),(19,yv l)] [.dead,.dead] [])) ((px qfR).toList.take 2) 0 (qkR l ks i x):=by
 have z:=sv (bh x)<|en (fr (be 23 [(1,yv l),(12,sl ac ks),(13,.int .i64 (ks.length:Int)),(14,.int .i64 i),(18,.agg (ac x)),(19,yv l)] [.dead,.dead] []))
 exact KI z (by kernel_rfl)
abbrev qlv(l:Nat)(ks:List aa)(i:Int)(x:aa)(b:Bool):aC:=be 23 [(1,yv l),(12,sl ac ks),(13,.int .i64 (ks.length:Int)),(14,.int .i64 i),(18,.agg (ac x)),(19,yv l),(20,.bool b)] [.dead,.dead] []
abbrev qjf(l:Nat)(ks:List aa)(i:Int)(b:Bool):aC:=be 23 [(1,yv l),(12,sl ac ks),(13,.int .i64 (ks.length:Int)),(14,.int .i64 i),(21,.bool (!b))] [.dead,.dead] []
theorem qkT(l:Nat)(ks:List aa)(i:Int)(x:aa)(b:Bool):dO Pg GE [] (px qfR) (fun st=>FG st (qjf l ks i b)) ((px qfR).toList.drop 3) 0 (qlv l ks i x b):=by
 have z:=en (fr (qjf l ks i b))
 exact KI z (by kernel_rfl)
theorem qmp(l:Nat)(ks:List aa)(i:Int):aV Pg GE 0 (.seq qls .ret) (EX .ret (vE [.dead,.dead] false)) (qjf l ks i false):=by
 have z:=eF .ret (vE [.dead,.dead] false)
 exact oe (A:=[]) mixed z (by kernel_rfl)
theorem qmq(l:Nat)(ks:List aa)(i:Int):aV Pg GE 0 qlt (EX .normal (⟨(qgq l ks (aS (i+1))).tmps,[.dead,.dead],[]⟩)) (qjf l ks i true):=by
 have z:=eF .normal (⟨(qgq l ks (aS (i+1))).tmps,[.dead,.dead],[]⟩)
 exact oe (A:=[]) mixed z (by kernel_rfl)
theorem qmr(l:Nat)(ks:List aa)(i:Int):aV Pg GE 0 (.seq qlu .ret) (EX .ret (vE [.dead] true)) (qhT l ks i):=by
 have z:=eF .ret (vE [.dead] true)
 exact oe (A:=[]) mixed z (by kernel_rfl)
theorem dE{n:Int}(h1: -9223372036854775808<=n)(h2:n<9223372036854775808):aS n=n:=qhv h1 h2
theorem bp{α:Type}(l:List α)(i:Nat)(h:i<l.length):cz l (i:Int)=some l[i]:=by
 unfold cz
 rw[vad (by omega)]
 simp[h]
theorem qde(l:af)(i:Nat)(h:i<l.length):wr l (i:Int)=some ((l[i].toNat:Int)):=by
 unfold wr;rw[bp l i h];rfl
theorem Ki{α:Type}(c:α)(l:List α):cz (c::l) 0=some c:=by
 have:=bp (c::l) 0 (by simp)
 simpa using this
theorem ZE{α:Type}(l:List α)(i:Nat)(h:i<=l.length):Ot l none (some (i:Int))=some (l.take i):=by
 simp[Ot,bd,h]
theorem FP{α:Type}(l:List α)(i:Nat)(h:i<=l.length):Ot l (some (i:Int)) none=some (l.drop i):=by
 simp[Ot,bd,h]
theorem cQ{α:Type}{l r:List α}(h:l.length+r.length<=1073741824):app l r=some (l++r):=vad h
theorem P7{l r:af}(h:l.length+r.length<=4611686018427387904):qg3 l r=some (l++r):=vad h
theorem qw{σ X:Type}{body:σ->Option (σ⊕X)}{s s':σ}(h:body s=some (.inl s')):loop body s=loop body s':=by rw[kq,h]
theorem jZ{σ X:Type}{body:σ->Option (σ⊕X)}{s:σ}{x:X}(h:body s=some (.inr x)):loop body s=some x:=by rw[kq,h]
def nc{α σ X:Type}(f:Nat->α->σ->σ⊕X)(e:σ->X):List α->Nat->σ->X
 |[],_,s=>e s
 |x::r,i,s=>match f i x s with
  |.inl s'=>nc f e r (i+1) s'
  |.inr y=>y
theorem kQ{α σ τ X:Type}(l:List α)(hl:l.length<9223372036854775808)(mk:Int->σ->τ)(body:τ->Option (τ⊕X))(I:Nat->σ->Prop)(f:Nat->α->σ->σ⊕X)(e:σ->X)
  (hin:∀(i:Nat) (h:i<l.length) s,I i s->body (mk i s)=some (match f i l[i] s with|.inl s'=>.inl (mk (aS ((i:Int)+1)) s')|.inr y=>.inr y)/\∀s',f i l[i] s=.inl s'->I (i+1) s')
  (hend:∀s,I l.length s->body (mk l.length s)=some (.inr (e s))):∀(i:Nat) (s:σ),i<=l.length->I i s->loop body (mk i s)=some (nc f e (l.drop i) i s):=by
 intro i s hi hI
 obtain⟨k,hk⟩:∃k,k+i=l.length:=⟨l.length - i,by omega⟩
 induction k generalizing i s with
 |zero=>
  have:i=l.length:=by omega
  subst this
  rw[kq,hend s hI,vb3]
  rfl
 | succ k ih =>
  have hlt:i<l.length:=by omega
  obtain⟨h1,h2⟩:=hin i hlt s hI
  rw[kq,h1,va9 hlt]
  unfold nc
  cases hf:f i l[i] s with
  |inl s'=>
   simp only
   rw[dE (by omega) (by omega)]
   have:=ih (i+1) s' (by omega) (h2 s' hf) (by omega)
   rw[show((i:Int)+1)=((i+1:Nat):Int) by omega]
   exact this
  |inr y=>rfl
theorem Yf{α X:Type}(p:α->Bool)(y e:X):∀(l:List α) (i:Nat),nc (fun _ x (_:Unit)=>if p x=true then Sum.inr y else .inl ()) (fun _=>e) l i ()=if l.any p=true then y else e
 |[],i=>by simp[nc]
 | x :: l,i => by
  have ih:=Yf p y e l (i+1)
  unfold nc
  by_cases h:p x=true
  ·simp[h]
  ·simp only[h,if_false,ih,List.any_cons,Bool.false_or,va5]
theorem Kr{α X:Type}(l:List α)(hl:l.length<9223372036854775808)(body:Int->Option (Int⊕X))(p:α->Bool)(y e:X)
  (hin:∀(i:Nat) (h:i<l.length),body i=some (if p l[i]=true then .inr y else .inl (aS ((i:Int)+1)))) (hend:body l.length=some (.inr e)) (i:Nat) (hi:i<=l.length):
  loop body (i:Int)=some (if(l.drop i).any p=true then y else e):=by
 have:=kQ l hl (fun i (_:Unit)=>i) body (fun _ _=>True) (fun _ x _=>if p x=true then Sum.inr y else .inl ()) (fun _=>e) (fun i h s _=>⟨?_,fun _ _=>trivial⟩) (fun s _=>hend) i () hi trivial
 ·rw[this,Yf]
 ·rw[hin i h]
  by_cases hp:p l[i]=true<;>simp[hp]
theorem T7{α X:Type}(p:α->Bool)(y:Nat->X)(e:X):∀(l:List α) (i:Nat),nc (fun j x (_:Unit)=>if p x=true then Sum.inr (y j)else .inl ()) (fun _=>e) l i ()=match l.findIdx? p with|some j=>y (i+j)|none=>e
 |[],i=>by simp[nc]
 | x :: l,i => by
  have ih:=T7 p y e l (i+1)
  unfold nc
  rw[vcQ]
  by_cases h:p x=true
  ·simp[h]
  ·simp only[h,if_false,ih,va5]
   cases l.findIdx? p with
   |none=>rfl
   |some j=>simp only[vam];congr 1;omega
theorem Mb{α X:Type}(l:List α)(hl:l.length<9223372036854775808)(body:Int->Option (Int⊕X))(p:α->Bool)(y:Nat->X)(e:X)
  (hin:∀(i:Nat) (h:i<l.length),body i=some (if p l[i]=true then .inr (y i)else .inl (aS ((i:Int)+1)))) (hend:body l.length=some (.inr e)):
  loop body (0:Int)=some (match l.findIdx? p with|some j=>y j|none=>e):=by
 have:=kQ l hl (fun i (_:Unit)=>i) body (fun _ _=>True) (fun j x _=>if p x=true then Sum.inr (y j)else .inl ()) (fun _=>e) (fun i h s _=>⟨?_,fun _ _=>trivial⟩) (fun s _=>hend) 0 () (vaN _) trivial
 ·simp only[Int.ofNat_zero,vaV]at this
  have this2:=T7 p y e l 0
  simp only[vaK]at this2
  rw[<-this2]
  exact this
 ·rw[hin i h]
  by_cases hp:p l[i]=true<;>simp[hp]
def VF{S:Type}(J:Bool->S->bA->World->Prop)(Γ0:bA)(w0:World)(b:Bool)(s:S)(st:aC)(a:Array Value)(w:World):Prop:=∃Γ,J b s Γ w/\Γ0.Le w0 Γ w/\∃E bs ow,SR Pg E Γ bs ow w a st
structure Dd(st:aC)(k:Nat):Prop where
 c:iC 0 st.tmps
 b:st.boxes=List.replicate k .dead
 o:st.own=[]
structure R4(c:Code):Prop where
 eq:c=.region (qjN c) (px c) false
 rg:List.range (px c).size=[0,1]++2::([3]++[])
 p1:[0,1].map (fun i=>(px c)[i]?)=((px c).toList.take 2).map some
 p2:((px c).toList.take 2).all Q6=true
 o:(px c)[2]? =some (qao c 2)
 g:(qao c 2).guard=none
 q1:[3].map (fun i=>(px c)[i]?)=((px c).toList.drop 3).map some
 q2:((px c).toList.drop 3).all Q6=true
theorem qkI:R4 qfQ:=⟨by kernel_rfl,by kernel_rfl,by kernel_rfl,by kernel_rfl,by kernel_rfl,by kernel_rfl,by kernel_rfl,by kernel_rfl⟩
theorem qkJ:R4 qfR:=⟨by kernel_rfl,by kernel_rfl,by kernel_rfl,by kernel_rfl,by kernel_rfl,by kernel_rfl,by kernel_rfl,by kernel_rfl⟩
theorem qhs:(qao qfQ 2).op=.call {callee:=.value (.tmp 7),args:=#[.tmp 8],argTypes:=qhr (qao qfQ 2)}:=by kernel_rfl
theorem qjd:(qao qfQ 2).dst=some 9:=by kernel_rfl
theorem qht:(qao qfR 2).op=.call {callee:=.value (.func fV),args:=#[.tmp 18,.tmp 19],argTypes:=qhr (qao qfR 2)}:=by kernel_rfl
theorem qje:(qao qfR 2).dst=some 20:=by kernel_rfl
section
variable{S:Type}{step:S->aa->Option (Bool×S)}{J:Bool->S->bA->World->Prop}{l:Nat}{Γ0:bA}{w0:World}{b:Bool}{s:S}{st0 st1 stA stB:aC}{k kA kB:Nat}{a:Array Value}{w:World}{n:Nat}{ds:List Deferred}
theorem VF.again(hY:Yd Pg GE l ac step J)(hD:Dd st0 k)(h:VF J Γ0 w0 b s st0 a w):∃Γ,J b s Γ w/\Γ0.Le w0 Γ w/\SR Pg (Wt GE Γ w) Γ (List.replicate k none) (fun _=>none) w a st0:=by
 obtain⟨Γ,hJ,hle,E,bs,ow,hS⟩:=h
 obtain⟨tm,H,own⟩:=st0
 have hb:H=_:=hD.b
 have ho:own=[]:=hD.o
 subst hb;subst ho
 exact⟨Γ,hJ,hle,hS.again hD.c (hY.base _ _ _ _ hJ) (.refl _ _) k⟩
theorem VF.redo(hY:Yd Pg GE l ac step J)(hD:Dd st0 k)(h:VF J Γ0 w0 b s st0 a w)(k':Nat):VF J Γ0 w0 b s ⟨st0.tmps,List.replicate k' .dead,[]⟩ a w:=by
 obtain⟨Γ,hJ,hle,hS⟩:=h.again hY hD
 exact⟨Γ,hJ,hle,_,_,_,hS.again hD.c (hY.base _ _ _ _ hJ) (.refl _ _) k'⟩
theorem VF.piece(hY:Yd Pg GE l ac step J){c:Code}{e:Exit}(hS:aV Pg GE 0 c (EX e st1) st0)(hD:Dd st0 k)(h:VF J Γ0 w0 b s st0 a w):c.wpIn Fence.wide n Pg (fun e' a' w'=>e'=e/\a'.defers=ds/\VF J Γ0 w0 b s st1 a'.tmps w') ⟨a,ds⟩ w:=by
 obtain⟨Γ,hJ,hle,hR⟩:=h.again hY hD
 refine wpIn_mono (hS.wide (hY.base _ _ _ _ hJ) hR n ds) ?_
 rintro e' a' w' ⟨hd,Γ',bs',ow',st',h',rfl,rfl⟩
 exact⟨rfl,hd,Γ',hY.side _ _ _ _ hJ _ _ _ _ _ _ h',hle.trans h'.step.le,_,_,_,h'⟩
theorem VF.reg(hY:Yd Pg GE l ac step J){c:Code}(hR:R4 c)(hD:Dd st0 k)(hDB:Dd stB kB)(hpre:dO Pg GE [] (px c) (fun st=>FG st stA) ((px c).toList.take 2) 0 st0)(hsuf:dO Pg GE [] (px c) (fun st=>FG st st1) ((px c).toList.drop 3) 0 stB){r:Bool×S}
  (hcall:∀a w (pw:Act->World->Prop) (Q:Exit->Act->World->Prop),VF J Γ0 w0 b s stA a w->(∀a' w',VF J Γ0 w0 r.1 r.2 stB a' w'->pw ⟨a',ds⟩ w')->(qao c 2).wpIn Fence.wide n Pg ⟨a,ds⟩ w pw Q)
  (h:VF J Γ0 w0 b s st0 a w):c.wpIn Fence.wide n Pg (fun e' a' w'=>e'=.normal/\a'.defers=ds/\VF J Γ0 w0 r.1 r.2 st1 a'.tmps w') ⟨a,ds⟩ w:=by
 have key:(Code.region (qjN c) (px c) false).wpIn Fence.wide n Pg (fun e' a' w'=>e'=.normal/\a'.defers=ds/\VF J Γ0 w0 r.1 r.2 st1 a'.tmps w') ⟨a,ds⟩ w:=by
  refine wpIn_region ?_
  rw[hR.rg]
  obtain⟨Γ,hJ,hle,hS⟩:=h.again hY hD
  refine Gx (A:=[]) (K:=fun st=>FG st stA) (fun Γ' bs' ow' a' w' st hS' hK=>?_) _ _ Γ _ _ a w st0 hR.p1 (Mj hR.p2) hS hpre
  obtain⟨Γ2,bs2,ow2,hS2⟩:=FG.sr hS' hK
  refine IM hR.o hR.g (hcall a' w' _ _ ⟨Γ2,hY.side _ _ _ _ hJ _ _ _ _ _ _ hS2,hle.trans hS2.step.le,_,_,_,hS2⟩ fun a3 w3 h3=>?_)
  obtain⟨Γ3,hJ3,hle3,hS3⟩:=h3.again hY hDB
  refine Gx (A:=[]) (K:=fun st=>FG st st1) (fun Γ' bs' ow' a' w' st hS' hK=>?_) _ _ Γ3 _ _ a3 w3 stB hR.q1 (Mj hR.q2) hS3 hsuf
  obtain⟨Γ4,bs4,ow4,hS4⟩:=FG.sr hS' hK
  exact⟨rfl,rfl,Γ4,hY.side _ _ _ _ hJ3 _ _ _ _ _ _ hS4,hle3.trans hS4.step.le,_,_,_,hS4⟩
 rw[<-hR.eq]at key
 exact key
theorem VF.ev(h:VF J Γ0 w0 b s st0 a w){t:Nat}{x:Bool}(ht:st0.tmps.getD t .undef=.bool x):(Act.mk a ds).eval (.tmp t)=.bool x:=by
 obtain⟨Γ,hJ,hle,E,bs,ow,hS⟩:=h
 have h1:=hS.opv ds (.tmp t)
 have e1:opv E.GE st0.tmps (.tmp t)=.bool x:=ht
 rw[e1]at h1
 generalize (Act.mk a ds).eval (.tmp t)=v at h1
 cases h1
 rfl
theorem VF.put(hY:Yd Pg GE l ac step J)(hD:Dd stA kA){Γ Γ':bA}{w':World}{E:uO}{bs:bT}{ow:Nat->Option nU}(hS:SR Pg E Γ bs ow w a stA)(hle:Γ0.Le w0 Γ w)(hle':Γ.Le w Γ' w'){r:Bool×S}(hJ':J r.1 r.2 Γ' w'){d:Nat}(hB:stB=⟨stA.tmps.set d (.bool r.1),List.replicate kA .dead,[]⟩):VF J Γ0 w0 r.1 r.2 stB (a.setIfInBounds d (.bool r.1)) w':=by
 have hS':=(hS.again hD.c (hY.base _ _ _ _ hJ') hle' kA).set (d:=d) (p:=.bool r.1) (v:=.bool r.1) (.bool _)
 exact⟨Γ',hJ',hle.trans hle',_,_,_,hB▸hS'⟩
theorem VF.yieldc(hY:Yd Pg GE l ac step J)(hD:Dd stA kA){p:aa}{r:Bool×S}(hr:step s p=some r){o:Oper}{f x d:Nat}{tys:Array TypeId}(h7:stA.tmps.getD f .undef=yv l)(h8:stA.tmps.getD x .undef=.agg (ac p))
  (ho:o.op=.call {callee:=.value (.tmp f),args:=#[.tmp x],argTypes:=tys}) (hd:o.dst=some d) (hB:stB=⟨stA.tmps.set d (.bool r.1),List.replicate kA .dead,[]⟩)
  {pw:Act->World->Prop} {Q:Exit->Act->World->Prop} (h:VF J Γ0 w0 true s stA a w) (hn:∀a' w',VF J Γ0 w0 r.1 r.2 stB a' w'->pw ⟨a',ds⟩ w'):o.wpIn Fence.wide n Pg ⟨a,ds⟩ w pw Q:=by
 obtain⟨Γ,hJ,hle,hS⟩:=h.again hY hD
 have h1:=hS.opv ds (.tmp f)
 have h2:=hS.opv ds (.tmp x)
 have e1:opv (Wt GE Γ w).GE stA.tmps (.tmp f)=yv l:=h7
 have e2:opv (Wt GE Γ w).GE stA.tmps (.tmp x)=.agg (ac p):=h8
 rw[e1]at h1;rw[e2]at h2
 have hev:(Act.mk a ds).eval (.tmp f)=.func (.yield l) #[] #[]:=by
  generalize (Act.mk a ds).eval (.tmp f)=v at h1
  cases h1;rfl
 refine ZI ho hev (R:=fun e w'=>∃Γ',e=.returned (.bool r.1)/\Γ.Le w Γ' w'/\J r.1 r.2 Γ' w') ?_ ?_
 ·have:=hY.yield s Γ w p _ (n - 1) r hJ (h2.clo (by simp only[PVal.cl];exact ah p)) hr
  simpa using this
 ·rintro e w' ⟨Γ',rfl,hle',hJ'⟩
  refine⟨_,rfl,?_⟩
  rw[hd]
  exact hn _ _ (VF.put hY hD hS hle hle' hJ' hB)
def qii(step:S->aa->Option (Bool×S))(J:Bool->S->bA->World->Prop)(l:Nat)(p:aa):Prop:=∀s r Γ w v n,Wm step p s=some r->J true s Γ w->VR Γ [] w (.agg (ac p)) v->
 CallsIn Fence.wide n Pg fV #[v,.func (.yield l) #[] #[]] w fun e w'=>∃Γ',e=.returned (.bool r.1)/\Γ.Le w Γ' w'/\J r.1 r.2 Γ' w'
theorem VF.visitc(hY:Yd Pg GE l ac step J)(hD:Dd stA kA){p:aa}(hp:qii step J l p){r:Bool×S}(hr:Wm step p s=some r){o:Oper}{x y d:Nat}{tys:Array TypeId}(h7:stA.tmps.getD y .undef=yv l)(h8:stA.tmps.getD x .undef=.agg (ac p))
  (ho:o.op=.call {callee:=.value (.func fV),args:=#[.tmp x,.tmp y],argTypes:=tys}) (hd:o.dst=some d) (hB:stB=⟨stA.tmps.set d (.bool r.1),List.replicate kA .dead,[]⟩)
  {pw:Act->World->Prop} {Q:Exit->Act->World->Prop} (h:VF J Γ0 w0 true s stA a w) (hn:∀a' w',VF J Γ0 w0 r.1 r.2 stB a' w'->pw ⟨a',ds⟩ w'):o.wpIn Fence.wide n Pg ⟨a,ds⟩ w pw Q:=by
 obtain⟨Γ,hJ,hle,hS⟩:=h.again hY hD
 have h1:=hS.opv ds (.tmp y)
 have h2:=hS.opv ds (.tmp x)
 have e1:opv (Wt GE Γ w).GE stA.tmps (.tmp y)=yv l:=h7
 have e2:opv (Wt GE Γ w).GE stA.tmps (.tmp x)=.agg (ac p):=h8
 rw[e1]at h1;rw[e2]at h2
 have hev:(Act.mk a ds).eval (.tmp y)=.func (.yield l) #[] #[]:=by
  generalize (Act.mk a ds).eval (.tmp y)=v at h1
  cases h1;rfl
 refine qa7 ho (g:=fV) (fs:=#[]) (cs:=#[]) rfl call163 (R:=fun e w'=>∃Γ',e=.returned (.bool r.1)/\Γ.Le w Γ' w'/\J r.1 r.2 Γ' w') ?_ ?_
 ·have:=hp s r Γ w _ (n - 1) hr hJ (h2.clo (by simp only[PVal.cl];exact ah p))
  simpa[hev]using this
 ·rintro e w' ⟨Γ',rfl,hle',hJ'⟩
  refine⟨_,rfl,?_⟩
  rw[hd]
  exact hn _ _ (VF.put hY hD hS hle hle' hJ' hB)
theorem VF.fin{x:Bool}{H:List aP}(h:VF J Γ0 w0 b s (vE H x) a w):(results f163 a).run Pg w=.ok (.bool x) w:=by
 obtain⟨Γ,hJ,hle,E,bs,ow,hS⟩:=h
 obtain⟨v,h1,h2,_⟩:=yk hS (fn:=f163) (r:=.bool x) (by kernel_rfl)
 cases h2
 exact h1
theorem qbh{N:Nat}{L:List (Nat×PVal)}(h:qg4 0 L)(k:Nat){H:List aP}(hH:H=List.replicate k .dead):Dd (be N L H []) k:=⟨dF h,hH,rfl⟩
theorem qbd(ks:List aa):(sl ac ks).cl 0:=aj ah ks
theorem qga(l:Nat)(ks:List aa)(i:Int):Dd (qgq l ks i) 1:=qbh (by exact aI trivial<|aI (qbd ks)<|aI trivial<|aI trivial trivial) 1 rfl
theorem qgb(l:Nat)(ks:List aa)(i:Int):Dd (qhT l ks i) 1:=qbh (by exact aI trivial<|aI (qbd ks)<|aI trivial<|aI trivial<|aI trivial trivial) 1 rfl
theorem qgc(l:Nat)(ks:List aa)(i:Int)(b:Bool):Dd (qjf l ks i b) 2:=qbh (by exact aI trivial<|aI (qbd ks)<|aI trivial<|aI trivial<|aI trivial trivial) 2 rfl
theorem ZH(hY:Yd Pg GE l ac step J)(p:aa)(hk:∀x∈p.Kids,qii step J l x):qii step J l p:=by
 intro s r Γ w v n hv hJ hvr
 refine callsIn_of_wp func163 (c:=bV) rfl trivial ?_
 have h0:VF J Γ w true s (be 23 [(0,.agg (ac p)),(1,yv l)] [] []) (#[v,.func (.yield l) #[] #[]]++Array.replicate 21 undef) w:=by
  refine⟨Γ,hJ,.refl _ _,_,_,_,(hY.base _ _ _ _ hJ).fresh 0 (tmps:=[.agg (ac p),yv l]++List.replicate 21 .undef) (by simp) fun t q u hq hu=>?_⟩
  by_cases ht:t<2
  ·rw[vaf (by simpa using ht)]at hq
   rw[vaQ (by simpa using ht)]at hu
   match t,ht with
   |0,_=>simp at hq hu;subst hq;subst hu;exact hvr
   |1,_=>simp at hq hu;subst hq;subst hu;exact .val _
  ·rw[vai (by simpa using ht),vaU]at hq
   split at hq<;>cases hq
   exact .undef u
 show bV.wpIn Fence.wide n Pg _ ⟨_,[]⟩ w
 rw[qfT]at hv
 obtain⟨q,hq,hv⟩:=ay hv
 have hb:Pg.funcs.size=Pg.funcs.size:=rfl
 have hret:∀{b:Bool} {s:S} {x:Bool} {H:List aP} {a':Act} {w':World},a'.defers=[]->VF J Γ w b s (vE H x) a'.tmps w'->b=r.1->s=r.2->x=r.1->
   bodyPost Pg f163 (fun e w'=>∃Γ',e=.returned (.bool r.1)/\Γ.Le w Γ' w'/\J r.1 r.2 Γ' w') .ret a' w':=by
  rintro b s x H a' w' hd h rfl rfl rfl
  refine⟨hd,.bool r.1,h.fin,?_⟩
  obtain⟨Γ',hJ',hle,_⟩:=h
  exact⟨Γ',rfl,hle,hJ'⟩
 rw[qiv]
 refine wpIn_seq (wpIn_mono (VF.piece hY (qmi p l) (k:=0) (qbh (by exact aI (ah p)<|aI trivial trivial) 0 rfl) h0) ?_)
 rintro e ⟨a1,ds1⟩ w1 ⟨rfl,rfl,h1⟩
 have d2:(PVal.eptr (ac p)).cl 0:=by simp only[PVal.cl];exact ah p
 have d3:(PVal.agg (ac p)).cl 0:=by simp only[PVal.cl];exact ah p
 refine wpIn_seq (wpIn_seq (wpIn_mono (VF.reg hY qkI (k:=1) (kB:=1) (r:=q) (stB:=be 23 [(1,yv l),(2,.eptr (ac p)),(7,yv l),(8,.agg (ac p)),(9,.bool q.1)] [.dead] []) (qbh (by exact aI trivial<|aI d2 trivial) 1 rfl) (qbh (by exact aI trivial<|aI d2<|aI trivial<|aI d3<|aI trivial trivial) 1 rfl) (qmj p l) (qkS p l q.1)
  (fun a w pw Q h hn=>VF.yieldc hY (kA:=1) (qbh (by exact aI trivial<|aI d2<|aI trivial<|aI d3 trivial) 1 rfl) hq (f:=7) (x:=8) (d:=9) rfl rfl qhs qjd rfl h hn) h1) ?_))
 rintro e ⟨a2,ds2⟩ w2 ⟨rfl,rfl,h2⟩
 refine wpIn_cond (h2.ev (t:=10) (x:=!q.1) rfl) ?_
 have dS2:∀b:Bool,Dd (be 23 [(1,yv l),(2,.eptr (ac p)),(10,.bool b)] [.dead] []) 1:=fun b=>qbh (by exact aI trivial<|aI d2<|aI trivial trivial) 1 rfl
 obtain⟨q1,q2⟩:=q
 cases q1 with
 |false=>
  cases hv
  refine wpIn_mono (VF.piece hY (qmk p l) (dS2 true) h2) ?_
  rintro e ⟨a3,ds3⟩ w3 ⟨rfl,rfl,h3⟩
  exact hret rfl h3 rfl rfl rfl
 | true =>
  simp only at hv
  split at hv
  case isFalse=>cases hv
  rename_i hlen
  refine wpIn_skip ?_
  refine wpIn_seq (wpIn_seq (wpIn_mono (VF.piece hY (qml p l) (dS2 false) h2) ?_))
  rintro e ⟨a3,ds3⟩ w3 ⟨rfl,rfl,h3⟩
  refine wpIn_block (wpIn_loop_ghost (fun k a w'=>a.defers=[]/\∃(i:Nat) (s':S),k=p.Kids.length - i/\i<=p.Kids.length/\Wl step (p.Kids.drop i) s'=some r/\VF J Γ w true s' (qgq l p.Kids (i:Int)) a.tmps w') (p.Kids.length)
   ⟨rfl,0,q2,rfl,vaN _,hv,h3⟩ ?_)
  rintro k ⟨a4,ds4⟩ w4 ⟨hd4,i,s',rfl,hi,hvl,h4⟩
  simp only at hd4;subst hd4
  rw[qjc]
  refine wpIn_seq (wpIn_mono (VF.piece hY (qmm l p.Kids i) (qga _ _ _) h4) ?_)
  rintro e ⟨a5,ds5⟩ w5 ⟨rfl,rfl,h5⟩
  refine wpIn_seq (wpIn_cond (h5.ev (t:=15) (x:=decide ((i:Int)<(p.Kids.length:Int))) rfl) ?_)
  by_cases hlt:i<p.Kids.length
  ·rw[vbk (by omega)]
   refine wpIn_skip ?_
   have hdrop:p.Kids.drop i=p.Kids[i]::p.Kids.drop (i+1):=va9 hlt
   rw[hdrop,Wl]at hvl
   obtain⟨q',hq',hvl⟩:=ay hvl
   have hx:cz p.Kids (i:Int)=some p.Kids[i]:=bp _ _ hlt
   generalize hxx:p.Kids[i]=x at *
   have hxm:x∈p.Kids:=hxx▸vak hlt
   have e2:(PVal.eptr (ac x)).cl 0:=by simp only[PVal.cl];exact ah x
   have e3:(PVal.agg (ac x)).cl 0:=by simp only[PVal.cl];exact ah x
   refine wpIn_seq (wpIn_block (wpIn_seq (wpIn_mono (VF.piece hY (qmn l p.Kids i x hx) (qgb _ _ _) h5) ?_)))
   rintro e ⟨a6,ds6⟩ w6 ⟨rfl,rfl,h6⟩
   refine wpIn_seq (wpIn_mono (VF.reg hY qkJ (k:=2) (kB:=2) (r:=q') (stB:=qlv l p.Kids i x q'.1) (qbh (by exact aI trivial<|aI e2<|aI (qbd _)<|aI trivial<|aI trivial trivial) 2 rfl) (qbh (by exact aI trivial<|aI (qbd _)<|aI trivial<|aI trivial<|aI e3<|aI trivial<|aI trivial trivial) 2 rfl) (qmo l p.Kids i x) (qkT l p.Kids i x q'.1)
    (fun a w pw Q h hn=>VF.visitc hY (kA:=2) (qbh (by exact aI trivial<|aI (qbd _)<|aI trivial<|aI trivial<|aI e3<|aI trivial trivial) 2 rfl) (hk x hxm) hq' (y:=19) (x:=18) (d:=20) rfl rfl qht qje rfl h hn) h6) ?_)
   rintro e ⟨a7,ds7⟩ w7 ⟨rfl,rfl,h7⟩
   refine wpIn_cond (h7.ev (t:=21) (x:=!q'.1) rfl) ?_
   obtain⟨q1,q2⟩:=q'
   cases q1 with
   |false=>
    cases hvl
    refine wpIn_mono (VF.piece hY (qmp l p.Kids i) (qgc _ _ _ _) h7) ?_
    rintro e ⟨a8,ds8⟩ w8 ⟨rfl,rfl,h8⟩
    exact hret rfl h8 rfl rfl rfl
   |true=>
    refine wpIn_skip ?_
    refine wpIn_mono (VF.piece hY (qmq l p.Kids i) (qgc _ _ _ _) h7) ?_
    rintro e ⟨a8,ds8⟩ w8 ⟨rfl,rfl,h8⟩
    refine⟨p.Kids.length - (i+1),by omega,rfl,i+1,q2,rfl,hlt,hvl,?_⟩
    have e:aS ((i:Int)+1)=((i+1:Nat):Int):=by rw[dE (by omega) (by omega)];omega
    rw[e]at h8
    exact VF.redo (st0:=⟨(qgq l p.Kids ((i+1:Nat):Int)).tmps,[.dead,.dead],[]⟩) hY (k:=2) ⟨(qga l p.Kids _).c,rfl,rfl⟩ h8 1
  ·rw[decide_eq_false (by omega)]
   refine wpIn_exit ?_
   have hi':i=p.Kids.length:=by omega
   rw[vbD (by omega),Wl]at hvl
   cases hvl
   refine wpIn_mono (VF.piece hY (qmr l p.Kids i) (qgb _ _ _) h5) ?_
   rintro e ⟨a6,ds6⟩ w6 ⟨rfl,rfl,h6⟩
   exact hret rfl h6 rfl rfl rfl
mutual
theorem Yr(hY:Yd Pg GE l ac step J):∀p:aa,qii step J l p
 |⟨o,n,k,ks⟩=>ZH hY ⟨o,n,k,ks⟩ (Um hY ks)
theorem Um(hY:Yd Pg GE l ac step J):∀ks:List aa,∀x∈ks,qii step J l x
 |[],x,hx=>by simp at hx
 | y :: ks,x,hx => by
  rcases vaw.1 hx with h|h
  ·exact h▸Yr hY y
  ·exact Um hY ks x h
end
end
open Go Go.Sort Go.Proofs.Tryz
def qad(n:Int):Option af:=if(decide (-9223372036854775808<=n)&&decide (n<=9223372036854775807))=true then some (Lib.itoa n)else none
theorem qd4:kL=Lib.pow10Tab:=by kernel_rfl
theorem qfn{n:Int}{r:af}(h:qad n=some r):CC Pg GE 95 [.int .i64 n] (.str r) []:=by
 rcases bj h with⟨b,h⟩|⟨b,h⟩
 ·obtain rfl:=lf h
  simp only[vaj,van]at b
  refine CC.grownIS call95 fun E Γ bs ow w a st hE hS=>?_
  have htab:Lib.TabIs Pg w "internal/strconv.uint64pow10" .u64 Lib.pow10Tab:=qho hS (g:=0) (by rw[hE,←qd4];simp[GE]) (by kernel_rfl)
  refine(Any.strconv_Itoa Tryz.laysM171 n b.1 b.2 w htab).mono fun e w' he=>?_
  obtain⟨rfl,k,os,rfl⟩:=he
  exact⟨rfl,.of_grow _ _ _⟩
 ·cases h
def nh(l:List af):List af:=l.mergeSort fun x y=>decide (x<=y)
theorem Xm{w:World}{b:Nat}{cur:Array Value}{e:TypeId}{l:List af}(hh:w.heap[b]? =some (.cells cur e (0,0)))(ht:cur.toList.take l.length=l.map fun s=>Value.string ⟨s.toArray⟩):Holds encStr w b 0 l.toArray:=by
 intro j hj
 have hj':j<l.length:=by simpa using hj
 rw[vaK]
 refine⟨?_,frozen_of_row w b j cur e hh⟩
 rw[cell_of_row w b j cur e _ hh]
 have h1:(cur.toList.take l.length)[j]? =(l.map fun s=>Value.string ⟨s.toArray⟩)[j]?:=by rw[ht]
 rw[vap hj']at h1
 simp only[va2,vaB,vab hj',vam]at h1
 rw[h1,getElem!_pos _ j hj]
 simp[encStr]
theorem T5{w:World}{b n:Nat}{cur:Array Value}{e:TypeId}{os:Array Obj}(d l:List af)(hh:w.heap[b]? =some (.cells cur e (0,0)))(hd:d.length<=cur.size)(hl:d.take l.length=l):(∀b',b'<w.heap.size->b'≠b->(grow (putRow encStr (Sort.ahead w n) b 0 d.toArray) os).heap[b']? =w.heap[b']?)/\w.heap.size<=(grow (putRow encStr (Sort.ahead w n) b 0 d.toArray) os).heap.size/\
   ∃cur',(grow (putRow encStr (Sort.ahead w n) b 0 d.toArray) os).heap[b]? =some (.cells cur' e (0,0))/\cur'.size=cur.size/\cur'.toList.take l.length=l.map fun s=>Value.string ⟨s.toArray⟩:=by
 have hb:b<w.heap.size:=(var.1 hh).1
 have hsz:(putRow encStr (Sort.ahead w n) b 0 d.toArray).heap.size=w.heap.size:=by simp[putRow,mapBlock,Sort.ahead]
 refine⟨fun b' h1 h2=>?_,?_,putCells encStr 0 d.toArray cur,?_,by simp[putCells],?_⟩
 ·show((putRow encStr (Sort.ahead w n) b 0 d.toArray).heap++os)[b']? =_
  rw[vaQ (by rw[hsz];exact h1)]
  show(w.heap.modify b (onCells _))[b']? =_
  rw[vbW,vae (fun e=>h2 e.symm)]
 ·show _<=((putRow encStr (Sort.ahead w n) b 0 d.toArray).heap++os).size
  rw[Array.size_append,hsz];omega
 ·show((putRow encStr (Sort.ahead w n) b 0 d.toArray).heap++os)[b]? =_
  rw[vaQ (by rw[hsz];exact hb)]
  show(w.heap.modify b (onCells _))[b]? =_
  rw[vbW,vad rfl,hh]
  rfl
 ·have hll:l.length<=d.length:=by have h0:=va3 List.length hl;rw[vaO]at h0;omega
  refine vbn fun i=>?_
  by_cases hi:i<l.length
  ·have hdl:i<d.length:=by omega
   have hdi:d[i]=l[i]:=by
    have h1:(d.take l.length)[i]? =l[i]?:=by rw[hl]
    rw[vap hi,vab hdl,vab hi]at h1
    exact vbC h1
   rw[vap hi]
   simp only[va2,putCells,Array.getElem?_mapIdx,vaB,vab hi,vam]
   have hc:cur[i]? =some (cur[i]'(by omega)):=vbe (by omega)
   rw[hc]
   simp only[vam]
   rw[vad ⟨vaN _,by simp;omega⟩,Nat.sub_zero,getElem!_pos _ i (by simpa using hdl)]
   simp[encStr,hdi]
  ·rw[vat (by simp[putCells];omega),vat (by simp;omega)]
theorem sk(l:List af):(nh l).length=l.length:=by unfold nh;exact List.length_mergeSort _
theorem qcG{n:Nat}(h:n<=eY):n<4611686018427387904:=by unfold eY at h;omega
theorem qfJ:qcx Pg 160 9 (fun s=>Value.string ⟨s.toArray⟩) nh (fun _ _ _=>.tuple #[]):={
 call:=call160
 row:=fun w b cap cur l hh hc hl hm hla ht=>by
  have hlen:=qcG hla
  refine(Any.slices_Sort_string Tryz.lays190 b 0 cap l w (Xm hh ht) ((var.1 hh).1) hlen).mono fun r w' hr=>?_
  obtain⟨rfl,n,os,rfl⟩:=hr
  obtain⟨k1,k2,cur',k3,k4,k5⟩:=T5 (n:=n) (os:=os) (nh l) (nh l) hh (by rw[sk];omega) (vbm)
  exact⟨rfl,by rw[sk];exact hl,rfl,rfl,rfl,k2,k1,cur',k3,by omega,k5⟩
 none:=fun w=>⟨by simp[nh],Any.slices_Sort_string_none Tryz.lays190 Option.none 0 w⟩}
theorem Vi(l:List af):(Lib.compact l++List.replicate (l.length - (Lib.compact l).length) []).take (Lib.compact l).length=Lib.compact l:=by simp
theorem ML(l:List af):(Lib.compact l).length<=l.length:=by
 unfold Lib.compact Lib.compactUpTo
 rw[vaF]
 exact vaI (vaW _ _) (by simp)
theorem YX:qcx Pg 161 9 (fun s=>Value.string ⟨s.toArray⟩) Lib.compact (fun x k c=>.slice x k c):={
 call:=call161
 row:=fun w b cap cur l hh hc hl hm hla ht=>by
  have hlen:=qcG hla
  refine(calls_of_every_depth fun D=>AnyS.slices_Compact_string_in Tryz.lays194 D b 0 cap l w (Xm hh ht) (by omega) hl).mono fun r w' hr=>?_
  obtain⟨rfl,q,rfl⟩:=hr
  have hcl:=ML l
  obtain⟨k1,k2,cur',k3,k4,k5⟩:=T5 (n:=q) (os:=#[]) (Lib.compact l++List.replicate (l.length - (Lib.compact l).length) []) (Lib.compact l) hh (by simp;omega) (Vi l)
  rw[grow_empty]at k1 k2 k3
  exact⟨rfl,by omega,rfl,rfl,rfl,k2,k1,cur',k3,by omega,k5⟩
 none:=fun w=>⟨by rfl,calls_of_every_depth fun D=>AnyS.slices_Compact_string_empty_in Tryz.lays194 D Option.none 0 w⟩}
def qx(a b:List af):Option (List af):=(app ([]:List af) a).bind fun l=>(app l b).bind fun l2=>some (Lib.compact (nh l2))
noncomputable def YH:Code:=f158.body.getD .skip
theorem qlg:Pg.cellsOf 9=1:=by kernel_rfl
theorem qfN(l:List af)(h:l.length<=eY):aV Pg GE 0 (gC YH [true,true,false]) (EX .normal (iF 15 5 (nh l) 9)) (iF 15 5 l 9):=
 aV.inplace (t:=5) (d1:=11) (d2:=12) qfJ qlg h rfl rfl rfl rfl rfl rfl (by decide) (.inl ⟨rfl,sk l⟩)
theorem qfO(l:List af)(h:l.length<=eY):aV Pg GE 0 (gC YH [true,true,true,false]) (EX .normal (iF 15 4 (Lib.compact l) 9)) (iF 15 5 l 9):=
 aV.inplace3 (t:=5) (d1:=13) (d2:=14) YX qlg h rfl rfl rfl rfl rfl rfl (by decide) (fun _ _ _=>rfl) rfl rfl rfl (by decide) (by decide)
theorem qeX{α:Type}{l r z:List α}(h:app l r=some z):z.length<=eY:=by
 unfold app at h
 split at h
 ·cases h;simpa using ‹_›
 ·cases h
theorem Fq{a b:List af}{r:List af}(h:qx a b=some r):CC Pg GE 158 [sl cS a,sl cS b] (sl cS r) [(0,9)]:=by
 obtain⟨l,bl,h⟩:=ay h
 obtain⟨l2,bl2,h⟩:=ay h
 obtain rfl:=lf h
 have h2:=qeX bl2
 have h3:(nh l2).length<=eY:=by rw[sk];exact h2
 exact C.ev (A:=[8,10]) mixed call158 func158 (c:=YH) rfl (aI (aj dN a)<|aI (aj dN b) trivial)
  [.v (sl cS ([]:List af)),.v (sl cS l),.v (sl cS l2),.pa 0,.pc (iF 15 5 l2 9) .normal (iF 15 5 (nh l2) 9),.pa 0,.pc (iF 15 5 (nh l2) 9) .normal (iF 15 4 (Lib.compact (nh l2)) 9)]
  (Eq.mp (by kernel_rfl) (aI (bq.mk' (v:=PVal.str) Fs ([]:List af) 0 (by kernel_rfl))<|aI (bq.ap bl)<|aI (bq.ap bl2)<|aI (fr (iF 15 5 l2 9))<|aI (qfN l2 h2)<|
   aI (fr (iF 15 5 (nh l2) 9))<|aI (qfO (nh l2) h3)<|aI (rP (sl cS (Lib.compact (nh l2)))) (aj dN (Lib.compact (nh l2)))))
abbrev fB:Nat:=159
abbrev fW:Nat:=162
noncomputable def bW:Code:=f162.body.getD .skip
noncomputable def bB:Code:=f159.body.getD .skip
theorem qa3(p:aa):CC Pg GE fB [.agg (ac p)] (.func (.func fW) [] [.eptr (ac p)]) []:=by
 have z:=se (bU p)<|en (aI (rP (.func (.func fW) [] [.eptr (ac p)]))<|(aI trivial (aI (show iC 0 (ac p)from ah p) trivial)))
 exact C.evp (A:=[]) mixed call159 func159 (c:=bB) rfl (aI (ah p) trivial) z (by kernel_rfl)
theorem qiw:bW=.region (qjN bW) (px bW) false:=by kernel_rfl
theorem qiA:List.range (px bW).size=[0,1]++2::([]:List Nat):=by kernel_rfl
theorem qiy:[0,1].map (fun i=>(px bW)[i]?)=((px bW).toList.take 2).map some:=by kernel_rfl
theorem qiz:((px bW).toList.take 2).all Q6=true:=by kernel_rfl
theorem qkx:(px bW)[2]? =some (qao bW 2):=by kernel_rfl
theorem qkw:(qao bW 2).guard=none:=by kernel_rfl
theorem qix:(qao bW 2).op=.call {callee:=.value (.func fV),args:=#[.tmp 3,.tmp 4],argTypes:=qhr (qao bW 2)}:=by kernel_rfl
theorem qkv:(qao bW 2).dst=some 5:=by kernel_rfl
theorem qgY(p:aa)(l:Nat):dO Pg GE [] (px bW) (fun st=>FG st (be 6 [(3,.agg (ac p)),(4,yv l)] [] [])) ((px bW).toList.take 2) 0 (be 6 [(0,yv l),(1,.eptr (ac p))] [] []):=by
 have z:=sv (bh p)<|en (fr (be 6 [(3,.agg (ac p)),(4,yv l)] [] []))
 exact KI z (by kernel_rfl)
section
variable{S:Type}{step:S->aa->Option (Bool×S)}{J:Bool->S->bA->World->Prop}{l:Nat}
theorem qgZ(hY:Yd Pg GE l ac step J)(p:aa){s:S}{r:Bool×S}{Γ:bA}{w:World}{v:Value}{n:Nat}(hv:Wm step p s=some r)(hJ:J true s Γ w)(hvr:VR Γ [] w (.eptr (ac p)) v):CallsIn Fence.wide n Pg fW #[.func (.yield l) #[] #[],v] w fun e w'=>(∃u,e=.returned u)/\∃Γ',Γ.Le w Γ' w'/\J r.1 r.2 Γ' w':=by
 refine callsIn_of_wp func162 (c:=bW) rfl trivial ?_
 have h0:VF J Γ w true s (be 6 [(0,yv l),(1,.eptr (ac p))] [] []) (#[.func (.yield l) #[] #[],v]++Array.replicate 4 undef) w:=by
  refine⟨Γ,hJ,.refl _ _,_,_,_,(hY.base _ _ _ _ hJ).fresh 0 (tmps:=[yv l,.eptr (ac p)]++List.replicate 4 .undef) (by simp) fun t q u hq hu=>?_⟩
  by_cases ht:t<2
  ·rw[vaf (by simpa using ht)]at hq
   rw[vaQ (by simpa using ht)]at hu
   match t,ht with
   |0,_=>simp at hq hu;subst hq;subst hu;exact .val _
   |1,_=>simp at hq hu;subst hq;subst hu;exact hvr
  ·rw[vai (by simpa using ht),vaU]at hq
   split at hq<;>cases hq
   exact .undef u
 show bW.wpIn Fence.wide n Pg _ ⟨_,[]⟩ w
 have d2:(PVal.eptr (ac p)).cl 0:=ah p
 have d3:(PVal.agg (ac p)).cl 0:=ah p
 have key:(Code.region (qjN bW) (px bW) false).wpIn Fence.wide n Pg (bodyPost Pg f162 fun e w'=>(∃u,e=.returned u)/\∃Γ',Γ.Le w Γ' w'/\J r.1 r.2 Γ' w') ⟨#[.func (.yield l) #[] #[],v]++Array.replicate 4 undef,[]⟩ w:=by
  refine wpIn_region ?_
  rw[qiA]
  obtain⟨Γ1,hJ1,hle1,hS⟩:=VF.again hY (k:=0) (qbh (L:=[(0,yv l),(1,.eptr (ac p))]) (by exact aI trivial<|aI d2 trivial) 0 rfl) h0
  refine Gx (A:=[]) (K:=fun st=>FG st (be 6 [(3,.agg (ac p)),(4,yv l)] [] [])) (fun Γ' bs' ow' a' w' st hS' hK=>?_) _ _ Γ1 _ _ _ w _ qiy (Mj qiz) hS (qgY p l)
  obtain⟨Γ2,bs2,ow2,hS2⟩:=FG.sr hS' hK
  refine IM qkx qkw (VF.visitc hY (kA:=0) (stB:=be 6 [(3,.agg (ac p)),(4,yv l),(5,.bool r.1)] [] []) (qbh (by exact aI d3<|aI trivial trivial) 0 rfl) (Yr hY p) hv (y:=4) (x:=3) (d:=5) rfl rfl qix qkv rfl ⟨Γ2,hY.side _ _ _ _ hJ1 _ _ _ _ _ _ hS2,hle1.trans hS2.step.le,_,_,_,hS2⟩ fun a3 w3 h3=>?_)
  obtain⟨Γ3,hJ3,hle3,E,bs3,ow3,hS3⟩:=h3
  obtain⟨u,e1,_⟩:=yk hS3 (fn:=f162) (r:=.tuple []) (by kernel_rfl)
  exact⟨rfl,u,e1,⟨u,rfl⟩,Γ3,hle3,hJ3⟩
 rw[<-qiw]at key
 exact key
end
abbrev ql6:Nat:=156
noncomputable def qfZ:Code:=f156.body.getD .skip
def qi6:Code->Code
 |.rangeFunc _ _ a _=>a
 |_=>.skip
def qi7:Code->Code
 |.rangeFunc _ _ _ b=>b
 |_=>.skip
abbrev qlm:Code:=gC qfZ [false]
abbrev qln:Code:=gC qfZ [true,false]
abbrev qlo:Code:=gC qfZ [true,true,false,false]
abbrev qeH:Code:=gC qfZ [true,true,false,true,false]
abbrev qkC:Code:=gC qfZ [true,true,true,false]
theorem qgX:qfZ=.seq qlm (.seq qln (.seq (.seq qlo (.block 0 (.rangeFunc (.tmp 6) #[7] (qi6 qeH) (qi7 qeH)))) (.seq qkC .ret))):=by kernel_rfl
def uD(s:List af)(x:aa):Option (Bool×List af):=if(x.Op==3)=true then(app s [x.Name]).bind fun l=>some (true,l)else some (true,s)
def tp(p:aa):Option (List af):=(Wm uD p []).bind fun q=>(qx q.2 []).bind fun r=>some r
abbrev qeE(s:List af):List aP:=[.dead,.cells [sl cS s] [(0,9)]]
abbrev qkK(s:List af):aC:=be 18 [(3,.bptr 1 0)] (qeE s) []
theorem ql9(p:aa):aV Pg GE 0 qlm (EX .normal (be 18 [(1,.eptr (ac p))] [.dead] [])) (be 18 [(0,.agg (ac p))] [] []):=by
 have z:=se (bU p)<|eF .normal (be 18 [(1,.eptr (ac p))] [.dead] [])
 exact oe (A:=[]) mixed z (by kernel_rfl)
theorem qma(p:aa):aV Pg GE 0 qln (EX .normal (be 18 [(1,.eptr (ac p)),(3,.bptr 1 0)] (qeE []) [])) (be 18 [(1,.eptr (ac p))] [.dead] []):=by
 have z:=sx (show kf Pg 32=some [sl cS ([]:List af)] by kernel_rfl)<|eF .normal (be 18 [(1,.eptr (ac p)),(3,.bptr 1 0)] (qeE []) [])
 exact oe (A:=[]) mixed z (by kernel_rfl)
abbrev stR(p:aa):aC:=be 18 [(3,.bptr 1 0),(6,.func (.func fW) [] [.eptr (ac p)])] (qeE []) []
theorem qmb(p:aa):aV Pg GE 0 qlo (EX .normal (stR p)) (be 18 [(1,.eptr (ac p)),(3,.bptr 1 0)] (qeE []) []):=by
 have z:=sv (bh p)<|bz (qa3 p)<|eF .normal (stR p)
 exact oe (A:=[]) mixed z (by kernel_rfl)
abbrev qkL(s:List af)(x:aa):aC:=be 18 [(3,.bptr 1 0),(4,.bptr 2 0)] (qeE s++[.cells (Wv x) []]) []
theorem qmc(s:List af)(x:aa):aV Pg GE 2 (qi6 qeH) (EX .normal (qkL s x)) (be 18 [(3,.bptr 1 0),(7,.agg (ac x))] (qeE s) []):=by
 have z:=sx ib<|sx (cr x)<|eF .normal (qkL s x)
 exact oe (A:=[]) mixed z (by kernel_rfl)
abbrev qkM(r:List af):aC:=be 18 [(3,.bptr 1 0)] (qeE r++[.dead]) []
theorem qmd(s:List af)(x:aa){r:Bool×List af}(h:uD s x=some r):r.1=true/\aV Pg GE 2 (qi7 qeH) (EX .normal (qkM r.2)) (qkL s x):=by
 unfold uD at h
 rcases bj h with⟨c1,h⟩|⟨c1,h⟩
 ·obtain⟨l,bl,h⟩:=ay h
  cases h
  refine⟨rfl,?_⟩
  have z:=ss<|sg 0 c1<|ss<|sv (bq.mk' (v:=PVal.str) Fs ([x.Name]:List af) 1 (by kernel_rfl))<|sv (bq.ap bl)<|eF .normal (qkM l)
  exact oe (A:=[11]) mixed z (by kernel_rfl)
 ·cases h
  refine⟨rfl,?_⟩
  have z:=ss<|sg 0 c1<|eF .normal (qkM s)
  exact oe (A:=[11]) mixed z (by kernel_rfl)
abbrev qkN(r:List af):aC:=be 18 [(2,sl cS r)] [.dead,.dead] [((2,0),9)]
theorem qme(s:List af){r:List af}(h:qx s []=some r):aV Pg GE 2 (.seq qkC .ret) (EX .ret (qkN r)) (qkK s):=by
 have z:=sv (show bo Pg 32 [sl cS s]=some (sl cS s) by kernel_rfl)<|bz (Fq h)<|eF .ret (qkN r)
 exact oe (A:=[]) mixed z (by kernel_rfl)
abbrev IX(fn:FuncId)(a:Array Value)(D:Nat):Loop:={state:=.ready,pending:=none,fn:=fn,tmps:=a,params:=#[7],assign:=qi6 qeH,body:=qi7 qeH,defers:=D}
def JF(Γe:bA)(we:World)(bs:bT)(a:Array Value)(fn:FuncId)(l D:Nat)(b:Bool)(s:List af)(Γ:bA)(w:World):Prop:=
 b=true/\∃ow,SR Pg (Wt GE Γe we) Γ bs ow w a (qkK s)/\¬cy bs ow l/\¬cy bs ow D/\w.heap[l]? =some (.loop (IX fn a D))/\w.heap[D]? =some (.deferred (some []))
theorem kr{w:World}{b:Nat}{o:Obj}(h:w.heap[b]? =some o):b<w.heap.size:=(var.1 h).1
theorem qig{Γe:bA}{we:World}{bs:bT}{a:Array Value}{fn:FuncId}{l D:Nat}(hl:we.heap.size<=l)(hD:we.heap.size<=D)(hne:D≠l)(hb:bs.length=2):Yd Pg GE l ac uD (JF Γe we bs a fn l D) where
 base:=fun b s Γ w ⟨_,ow,h,_⟩=>h.base
 side:=fun b s Γ w ⟨h0,ow,h,hTl,hTD,hhl,hhD⟩ Γ' bs' ow' w' a' st' h'=>
  ⟨h0,ow,h.aside h',hTl,hTD,(h'.step.keep l (kr hhl) id).1.trans hhl,(h'.step.keep D (kr hhD) id).1.trans hhD⟩
 yield:=fun s Γ w x v n r ⟨h0,ow,h,hTl,hTD,hhl,hhD⟩ hv hr=>by
  obtain⟨hr1,hS4⟩:=qmd s x hr
  refine⟨_,_,_,_,run_yield hhl rfl,?_⟩
  have hz:(((#[7]:Array Tmp).zip #[v]).foldl (fun tmps (t,a)=>tmps.setIfInBounds t a) a)=a.setIfInBounds 7 v:=by simp
  show RoundIn Fence.wide n Pg l fn (((#[7]:Array Tmp).zip #[v]).foldl (fun tmps (t,a)=>tmps.setIfInBounds t a) a) (qi6 qeH) (qi7 qeH) w _
  rw[hz]
  have h7:SR Pg (Wt GE Γe we) Γ bs ow w (a.setIfInBounds 7 v) (be 18 [(3,.bptr 1 0),(7,.agg (ac x))] (qeE s) []):=h.set (d:=7) (p:=.agg (ac x)) (hv.mono (.refl _ _) (fun i b hi=>by simp at hi))
  refine roundIn_of_wpIn trivial (wpIn_mono (aV.on (qmc s x) (by decide) h7 (by rw[hb];decide) (some l) [] n) ?_)
  rintro e ⟨a1,ds1⟩ w1 ⟨rfl,Γ1,bs1,ow1,st1,h1,⟨rfl,rfl⟩,hbs1,hle1,hsz1,hk1⟩
  obtain⟨k1,t1⟩:=hk1 l (kr hhl) hTl
  obtain⟨k1D,t1D⟩:=hk1 D (kr hhD) hTD
  have hl1:=k1.trans hhl
  refine⟨_,run_beginRound hl1 rfl,?_⟩
  obtain⟨h1',hle1'⟩:=h1.putOther (l:=l) (o:=.loop {IX fn a D with state:=.busy}) t1 (.inr hl) (fun c t fr e=>by rw[hl1]at e;cases e)
  have hb1:2<=bs1.length:=by have:=h1.bl;rw[this];exact Nat.le_of_ble_eq_true rfl
  refine wpIn_mono (aV.on hS4 (by decide) h1' hb1 (some l) [] n) ?_
  rintro e ⟨a2,ds2⟩ w2 ⟨rfl,Γ2,bs2,ow2,st2,h2,⟨rfl,rfl⟩,hbs2,hle2,hsz2,hk2⟩
  have hl1':(w1.putObj l (.loop {IX fn a D with state:=.busy})).heap[l]? =some (.loop {IX fn a D with state:=.busy}):=World.putObj_heap_same (kr hl1)
  have hD1':(w1.putObj l (.loop {IX fn a D with state:=.busy})).heap[D]? =some (.deferred (some [])):=(World.putObj_heap_other hne).trans (k1D.trans hhD)
  obtain⟨k2,t2⟩:=hk2 l (kr hl1') t1
  obtain⟨k2D,t2D⟩:=hk2 D (kr hD1') t1D
  have hl2:=k2.trans hl1'
  refine⟨_,_,run_endRound none hl2,?_⟩
  obtain⟨h3,hle3⟩:=h2.putOther (l:=l) (o:=.loop {{IX fn a D with state:=.busy}with state:=if(none:Option Code).isNone then .ready else .done,pending:=none}) t2 (.inr hl) (fun c t fr e=>by rw[hl2]at e;cases e)
  have hle:Γ.Le w Γ2 (w2.putObj l (.loop {{IX fn a D with state:=.busy}with state:=if(none:Option Code).isNone then .ready else .done,pending:=none})):=((hle1.trans hle1').trans hle2).trans hle3
  obtain⟨ow3,h4,hT4⟩:=h.back rfl h3 hle (H':=qeE r.2) (fun i hi=>(hbs2 i (by omega)).trans (hbs1 i (by omega))) (by
   refine⟨trivial,⟨rfl,aI (up (aj dN r.2)) trivial,fun x hx=>hx⟩,trivial⟩) hb.symm
  refine⟨Γ2,by rw[hr1];rfl,hle,hr1,ow3,h4,fun hx=>t2 (hT4 l hx),fun hx=>t2D (hT4 D hx),?_,?_⟩
  ·exact World.putObj_heap_same (kr hl2)
  ·exact(World.putObj_heap_other hne).trans (k2D.trans hD1')
theorem KK{p:aa}{r:List af}(h:tp p=some r):CC Pg GE ql6 [.agg (ac p)] (sl cS r) [(0,9)]:=by
 obtain⟨q,hq,h⟩:=ay h
 obtain⟨r',hu,h⟩:=ay h
 cases h
 refine⟨aI (ah p) trivial,call156,fun Γ bs ow w vs hS=>(callsIn_wide (n:=0)).1 (callsIn_of_wp_marks func156 (c:=qfZ) rfl trivial ?_)⟩
 obtain rfl:bs=[]:=vau hS.bl
 obtain⟨v,rfl⟩:∃v,vs=#[v]:=vcC.1 hS.sz
 have hB:Us GE Γ w:=hS.base
 have hE:Jb GE 0 (Wt GE Γ w):=hB.good
 have hvr:VR Γ [] w (.agg (ac p)) v:=hS.tm 0 _ _ rfl rfl
 have h0:SR Pg (Wt GE Γ w) Γ [] (fun _=>none) w (#[v]++Array.replicate 17 undef) (be 18 [(0,.agg (ac p))] [] []):=by
  refine hB.fresh (a:=#[v]++Array.replicate 17 undef) 0 (tmps:=[.agg (ac p)]++List.replicate 17 .undef) (by simp) fun t q u hq hu=>?_
  by_cases ht:t<1
  ·rw[vaf (by simpa using ht)]at hq
   rw[vaQ (by simpa using ht)]at hu
   match t,ht with
   |0,_=>simp at hq hu;subst hq;subst hu;exact hvr
  ·rw[vai (by show 1<=t;omega),vaU]at hq
   split at hq<;>cases hq
   exact .undef u
 show qfZ.wpIn Fence.wide 0 Pg _ ⟨#[v]++Array.replicate 17 undef,[]⟩ w
 rw[qgX]
 refine wpIn_seq (wpIn_mono (aV.wideE (ql9 p) hE h0 0 []) ?_)
 rintro e ⟨a1,ds1⟩ w1 ⟨rfl,Γ1,bs1,ow1,st1,h1,rfl,rfl⟩
 refine wpIn_seq (wpIn_mono (aV.wideE (qma p) hE h1 0 []) ?_)
 rintro e ⟨a2,ds2⟩ w2 ⟨rfl,Γ2,bs2,ow2,st2,h2,rfl,rfl⟩
 refine wpIn_seq (wpIn_seq (wpIn_mono (aV.wideE (qmb p) hE h2 0 []) ?_))
 rintro e ⟨a3,ds3⟩ w3 ⟨rfl,Γ3,bs3,ow3,st3,h3,rfl,rfl⟩
 have h6:=h3.opv [] (.tmp 6)
 have e6:opv (Wt GE Γ w).GE (stR p).tmps (.tmp 6)=.func (.func fW) [] [.eptr (ac p)]:=rfl
 rw[e6]at h6
 have hbl:bs3.length=2:=h3.bl
 refine wpIn_block (wpIn_rangeFunc fun fn _=>?_)
 obtain⟨g1,l1⟩:=h3.allocO (.deferred (some []))
 obtain⟨g2,l2⟩:=g1.allocO (.loop (IX fn a3 w3.heap.size))
 have gF:=g2.forgetT (tm:=(qkK []).tmps) rfl
 have hsz3:w.heap.size<=w3.heap.size:=h3.step.size
 have htl:∀b,w3.heap.size<=b->¬cy bs3 ow3 b:=fun b hb hx=>by
  rcases hx with⟨i,hi⟩|hx
  ·have hil:i<(stR p).boxes.length:=by rw[<-h3.bl];exact aw hi
   have:=(h3.bx i b _ hi (vab hil)).2.1
   omega
  ·cases hL:ow3 b with
   |none=>exact hx hL
   |some L=>have:=(h3.on b L hL).1;omega
 generalize hvf:(Act.mk a3 []).eval (.tmp 6)=vf at h6
 cases h6 with
 |func _ _ _ fs cs hl1 hl2 hf hc=>
 obtain rfl:fs=#[]:=vbc hl1
 obtain⟨cv,rfl⟩:∃v,cs=#[v]:=vcC.1 hl2
 have hcv:VR Γ3 bs3 w3 (.eptr (ac p)) cv:=hc 0 _ _ rfl rfl
 have hJ:JF Γ w bs3 a3 fn (w3.heap.size+1) w3.heap.size true [] Γ3 ((w3.alloc (.deferred (some []))).alloc (.loop (IX fn a3 w3.heap.size))):=by
  refine⟨rfl,ow3,gF,htl _ (by omega),htl _ (vah _),?_,?_⟩
  ·have:=World.alloc_heap_new (w3.alloc (.deferred (some []))) (.loop (IX fn a3 w3.heap.size))
   rwa[World.size_alloc]at this
  ·rw[eL _ _ (by rw[World.size_alloc];omega)]
   exact World.alloc_heap_new w3 _
 have hY:=qig (Γe:=Γ) (we:=w) (bs:=bs3) (a:=a3) (fn:=fn) (l:=w3.heap.size+1) (D:=w3.heap.size) (by omega) hsz3 (by omega) hbl
 refine⟨_,_,_,{target:=.fn (.func fW) #[cv],args:=#[.func (.yield (w3.heap.size+1)) #[] #[]]},(w3.alloc (.deferred (some []))).alloc (.loop (IX fn a3 w3.heap.size)),fW,#[.func (.yield (w3.heap.size+1)) #[] #[],cv],(w3.alloc (.deferred (some []))).alloc (.loop (IX fn a3 w3.heap.size)),run_enterLoop_outer fn a3 #[7] (qi6 qeH) (qi7 qeH),?_,fun _ _=>trivial,?_,fun hx=>by simp[Fence.wide]at hx,?_⟩
 ·have hvf':(Act.mk a3 []).eval (.tmp 6)=.func (.func fW) #[] #[cv]:=hvf
  simp only[resolve,hvf',Deferred.ofValue]
  simp[Act.eval]
 ·simp[invoke,call162]
 ·refine(qgZ hY p (n:=0 - 1) hq hJ (((hcv.mono l1 (.refl _)).mono l2 (.refl _)).clo (show iC 0 (ac p)from ah p))).mono ?_
  rintro e w4 ⟨⟨u,rfl⟩,Γ4,hle4,hq1,ow4,h4,tl4,tD4,hl4,hD4⟩
  refine⟨none,_,run_endLoop hl4 (by simp),?_⟩
  obtain⟨h5,hle5⟩:=h4.putOther (l:=w3.heap.size+1) (o:=.loop {IX fn a3 w3.heap.size with state:=.exhausted}) tl4 (.inr (show w.heap.size<=_ by omega)) (fun c t fr e=>by rw[hl4]at e;cases e)
  have hD5:(w4.putObj (w3.heap.size+1) (.loop {IX fn a3 w3.heap.size with state:=.exhausted})).heap[w3.heap.size]? =some (.deferred (some [])):=(World.putObj_heap_other (by omega)).trans hD4
  generalize w4.putObj (w3.heap.size+1) (.loop {IX fn a3 w3.heap.size with state:=.exhausted})=w5 at h5 hle5 hD5
  show(Code.seq qkC .ret).wpIn Fence.wide 0 Pg _ ⟨a3,[{target:=.collected w3.heap.size,args:=#[]}]⟩ w5
  refine wpIn_mono (wpIn_wide.2 (aV.on (qme q.2 hu) (by decide) h5 (by rw[hbl];decide) none [{target:=.collected w3.heap.size,args:=#[]}])) ?_
  rintro e ⟨a6,ds6⟩ w6 ⟨rfl,Γ6,bs6,ow6,st6,h6,⟨rfl,rfl⟩,hbs6,hle6,hsz6,hk6⟩
  obtain⟨k6,t6⟩:=hk6 _ (kr hD5) tD4
  have hD6:=k6.trans hD5
  obtain⟨h7,hle7⟩:=h6.putOther (l:=w3.heap.size) (o:=.deferred none) t6 (.inr hsz3) (fun c t fr e=>by rw[hD6]at e;cases e)
  refine⟨by simp,.inl ⟨w3.heap.size,_,rfl,run_takeDeferred hD6,?_⟩⟩
  have hS7:SR Pg ⟨GE,Γ,w,cy [] ow⟩ Γ6 bs6 ow6 (w6.putObj w3.heap.size (.deferred none)) a6 (qkN r):={h7 with
   bn:=fun i b hb=>(h7.bn i b hb).elim False.elim .inr
   on:=fun b L hL=>⟨(h7.on b L hL).1,(h7.on b L hL).2.elim False.elim .inr⟩
   gx:=hS.gx
   step:={h7.step with keep:=fun b hb _=>h7.step.keep b hb (fun hx=>hx)}}
  obtain⟨vr,e1,e2,e3⟩:=yk hS7 (fn:=f156) (r:=sl cS r) (by kernel_rfl)
  refine⟨vr,e1,vr,Γ6,Hz (eJ f156.results.toList) [(0,9)] ow6,rfl,?_⟩
  have hrs:f156.results.toList=[.tmp 2]:=by kernel_rfl
  have hf:=hS7.finish (H':=[]) (src:=eJ f156.results.toList) (ro:=[(0,9)]) e2 (aj dN r) trivial (fun x hx=>by
   simp only[va4]at hx
   subst hx
   refine⟨?_,fun u v'=>e3 0 u v' ?_⟩
   ·rw[hrs];exact va4.2 rfl
   ·rw[hrs];trivial) (fun x hx y hy _=>by
   simp only[va4]at hx hy
   rw[hx,hy])
  simpa using hf
end Go.Proofs.YtbaamopmfmpfaaaGreatDoor
