/-
  WHAT IS PROVED: parts of the proof, put together by a program out of smaller texts, their own names made short (GI; GK; Sh). Conditions: none.
-/
import Derived.Test.YtgldgpdhblndkaaGreatDoorPkD28
import Derived.Test.YtgldgpdhblndkaaGreatDoorPkD25
import Derived.Test.YtgldgpdhblndkaaGreatDoorProg
import Derived.Ground.SlgnProg
import Derived.Shelf.Lays
import Derived.Shelf.LaysM
import Derived.Shelf.SlGeneric
import Derived.Shelf.SlLaysE0
namespace Go.Proofs.YtgldgpdhblndkaaGreatDoor
open Go
set_option linter.unusedVariables false
set_option maxRecDepth 100000
theorem qx4:∀ n,(∀ l,Sh Pg n 226 l→∃ x,l = qhj x):=by
  intro n
  induction n using Nat.strongRecOn with
  | ind n ih =>
    cases n with
    | zero => exact fun l h => h.elim
    | succ n =>
      exact fun l h => by
        unfold Sh at h
        rw [Tryz.underlying226] at h
        obtain ⟨a0,b0,rfl,_,h0,a1,b1,rfl,_,h1,rfl⟩:=h
        obtain ⟨x0,rfl⟩:=(in_s Tryz.underlying9) n _ h0
        obtain ⟨x1,rfl⟩:=(in_s Tryz.underlying9) n _ h1
        exact ⟨(⟨x0,x1⟩:tNeed),by rw [qAQ]; rfl⟩
theorem qCb:∀ n,(∀ l,Sh Pg n 76 l→∃ x,l = qaK x):=by
  intro n
  induction n using Nat.strongRecOn with
  | ind n ih =>
    cases n with
    | zero => exact fun l h => h.elim
    | succ n =>
      exact fun l h => by
        unfold Sh at h
        rw [Tryz.underlying76] at h
        obtain ⟨a0,b0,rfl,_,h0,a1,b1,rfl,_,h1,rfl⟩:=h
        obtain ⟨x0,rfl⟩:=(in_s Tryz.underlying9) n _ h0
        obtain ⟨x1,rfl⟩:=(in_s Tryz.underlying74) n _ h1
        exact ⟨(⟨x0,x1⟩:tAbs),by rw [qtc]; rfl⟩
theorem qwK:∀ n,(∀ l,Sh Pg n 88 l→∃ x,l = qay x):=by
  intro n
  induction n using Nat.strongRecOn with
  | ind n ih =>
    cases n with
    | zero => exact fun l h => h.elim
    | succ n =>
      exact fun l h => by
        unfold Sh at h
        rw [Tryz.underlying88] at h
        obtain ⟨a0,b0,rfl,_,h0,a1,b1,rfl,_,h1,rfl⟩:=h
        obtain ⟨x0,rfl⟩:=(in_s Tryz.underlying9) n _ h0
        obtain ⟨x1,rfl⟩:=(in_s Tryz.underlying74) n _ h1
        exact ⟨(⟨x0,x1⟩:tVar),by rw [qrf]; rfl⟩
theorem qjl:∀ n,(∀ l,Sh Pg n 31 l→∃ x,l = qaa x):=by
  intro n
  induction n using Nat.strongRecOn with
  | ind n ih =>
    cases n with
    | zero => exact fun l h => h.elim
    | succ n =>
      exact fun l h => by
        unfold Sh at h
        rw [Tryz.underlying31] at h
        obtain ⟨a0,b0,rfl,_,h0,a1,b1,rfl,_,h1,a2,b2,rfl,_,h2,a3,b3,rfl,_,h3,rfl⟩:=h
        obtain ⟨x0,rfl⟩:=(in_i Tryz.underlying28) n _ h0
        obtain ⟨x1,rfl⟩:=(in_s Tryz.underlying9) n _ h1
        obtain ⟨x2,rfl⟩:=(in_i Tryz.underlying3) n _ h2
        obtain ⟨x3,rfl⟩:=qAp Tryz.underlying29 (c:=qaa) (fun m hm => (ih m (by omega))) _ h3
        exact ⟨(⟨x0,x1,x2,x3⟩:tPred),by rw [qam]; rfl⟩
theorem qz0:∀ n,(∀ l,Sh Pg n 228 l→∃ x,l = qfq x):=by
  intro n
  induction n using Nat.strongRecOn with
  | ind n ih =>
    cases n with
    | zero => exact fun l h => h.elim
    | succ n =>
      exact fun l h => by
        unfold Sh at h
        rw [Tryz.underlying228] at h
        obtain ⟨a0,b0,rfl,_,h0,a1,b1,rfl,_,h1,a2,b2,rfl,_,h2,a3,b3,rfl,_,h3,rfl⟩:=h
        obtain ⟨x0,rfl⟩:=(in_s Tryz.underlying9) n _ h0
        obtain ⟨x1,rfl⟩:=(in_l Tryz.underlying36 qwK) n _ h1
        obtain ⟨x2,rfl⟩:=qjl n _ h2
        obtain ⟨x3,rfl⟩:=qjl n _ h3
        exact ⟨(⟨x0,x1,x2,x3⟩:tBound),by rw [qwv]; (try simp only [qam]); rfl⟩
theorem qn9:∀ n,(∀ l,Sh Pg n 33 l→∃ x,l = qac x):=by
  intro n
  induction n using Nat.strongRecOn with
  | ind n ih =>
    cases n with
    | zero => exact fun l h => h.elim
    | succ n =>
      exact fun l h => by
        unfold Sh at h
        rw [Tryz.underlying33] at h
        obtain ⟨a0,b0,rfl,_,h0,a1,b1,rfl,_,h1,a2,b2,rfl,_,h2,a3,b3,rfl,_,h3,a4,b4,rfl,_,h4,a5,b5,rfl,_,h5,rfl⟩:=h
        obtain ⟨x0,rfl⟩:=(in_i Tryz.underlying26) n _ h0
        obtain ⟨x1,rfl⟩:=(in_s Tryz.underlying9) n _ h1
        obtain ⟨x2,rfl⟩:=qAp Tryz.underlying27 (c:=qac) (fun m hm => (ih m (by omega))) _ h2
        obtain ⟨x3,rfl⟩:=(in_l Tryz.underlying22 (in_s Tryz.underlying9)) n _ h3
        obtain ⟨x4,rfl⟩:=qjl n _ h4
        obtain ⟨x5,rfl⟩:=(in_l Tryz.underlying29 qjl) n _ h5
        exact ⟨(⟨x0,x1,x2,x3,x4,x5⟩:tType),by rw [qaB]; (try simp only [qam]); rfl⟩
theorem qBU:∀ n,(∀ l,Sh Pg n 35 l→∃ x,l = qjJ x):=by
  intro n
  induction n using Nat.strongRecOn with
  | ind n ih =>
    cases n with
    | zero => exact fun l h => h.elim
    | succ n =>
      exact fun l h => by
        unfold Sh at h
        rw [Tryz.underlying35] at h
        obtain ⟨a0,b0,rfl,_,h0,a1,b1,rfl,_,h1,a2,b2,rfl,_,h2,a3,b3,rfl,_,h3,a4,b4,rfl,_,h4,a5,b5,rfl,_,h5,rfl⟩:=h
        obtain ⟨x0,rfl⟩:=(in_l Tryz.underlying22 (in_s Tryz.underlying9)) n _ h0
        obtain ⟨x1,rfl⟩:=(in_l Tryz.underlying23 qx4) n _ h1
        obtain ⟨x2,rfl⟩:=(in_l Tryz.underlying24 qCb) n _ h2
        obtain ⟨x3,rfl⟩:=(in_l Tryz.underlying25 qz0) n _ h3
        obtain ⟨x4,rfl⟩:=qn9 n _ h4
        obtain ⟨x5,rfl⟩:=(in_l Tryz.underlying29 qjl) n _ h5
        exact ⟨(⟨x0,x1,x2,x3,x4,x5⟩:tSig),by rw [qkW]; (try simp only [qaB]); (try simp only [qam]); rfl⟩
theorem qB1:∀ n,(∀ l,Sh Pg n 63 l→∃ x,l = qbf x):=by
  intro n
  induction n using Nat.strongRecOn with
  | ind n ih =>
    cases n with
    | zero => exact fun l h => h.elim
    | succ n =>
      exact fun l h => by
        unfold Sh at h
        rw [Tryz.underlying63] at h
        obtain ⟨a0,b0,rfl,_,h0,a1,b1,rfl,_,h1,a2,b2,rfl,_,h2,rfl⟩:=h
        obtain ⟨x0,rfl⟩:=(in_s Tryz.underlying9) n _ h0
        obtain ⟨x1,rfl⟩:=(in_l Tryz.underlying22 (in_s Tryz.underlying9)) n _ h1
        obtain ⟨x2,rfl⟩:=(in_l Tryz.underlying27 qn9) n _ h2
        exact ⟨(⟨x0,x1,x2⟩:tCon),by rw [qsH]; rfl⟩
theorem qBc:∀ n,(∀ l,Sh Pg n 61 l→∃ x,l = qau x):=by
  intro n
  induction n using Nat.strongRecOn with
  | ind n ih =>
    cases n with
    | zero => exact fun l h => h.elim
    | succ n =>
      exact fun l h => by
        unfold Sh at h
        rw [Tryz.underlying61] at h
        obtain ⟨a0,b0,rfl,_,h0,a1,b1,rfl,_,h1,a2,b2,rfl,_,h2,a3,b3,rfl,_,h3,rfl⟩:=h
        obtain ⟨x0,rfl⟩:=(in_s Tryz.underlying9) n _ h0
        obtain ⟨x1,rfl⟩:=(in_l Tryz.underlying22 (in_s Tryz.underlying9)) n _ h1
        obtain ⟨x2,rfl⟩:=(in_l Tryz.underlying36 qwK) n _ h2
        obtain ⟨x3,rfl⟩:=(in_l Tryz.underlying59 qB1) n _ h3
        exact ⟨(⟨x0,x1,x2,x3⟩:tData),by rw [qhw]; rfl⟩
theorem qyr:∀ n,(∀ l,Sh Pg n 250 l→∃ x,l = qlp x):=by
  intro n
  induction n using Nat.strongRecOn with
  | ind n ih =>
    cases n with
    | zero => exact fun l h => h.elim
    | succ n =>
      exact fun l h => by
        unfold Sh at h
        rw [Tryz.underlying250] at h
        obtain ⟨a0,b0,rfl,_,h0,a1,b1,rfl,_,h1,rfl⟩:=h
        obtain ⟨x0,rfl⟩:=(in_s Tryz.underlying9) n _ h0
        obtain ⟨x1,rfl⟩:=qn9 n _ h1
        exact ⟨(⟨x0,x1⟩:tMethod),by rw [qui]; (try simp only [qaB]); (try simp only [qam]); rfl⟩
theorem qAy:∀ n,(∀ l,Sh Pg n 231 l→∃ x,l = qkr x):=by
  intro n
  induction n using Nat.strongRecOn with
  | ind n ih =>
    cases n with
    | zero => exact fun l h => h.elim
    | succ n =>
      exact fun l h => by
        unfold Sh at h
        rw [Tryz.underlying231] at h
        obtain ⟨a0,b0,rfl,_,h0,a1,b1,rfl,_,h1,a2,b2,rfl,_,h2,rfl⟩:=h
        obtain ⟨x0,rfl⟩:=(in_s Tryz.underlying9) n _ h0
        obtain ⟨x1,rfl⟩:=(in_s Tryz.underlying9) n _ h1
        obtain ⟨x2,rfl⟩:=(in_l Tryz.underlying229 qyr) n _ h2
        exact ⟨(⟨x0,x1,x2⟩:tClass),by rw [qz5]; rfl⟩
theorem qAg:∀ n,(∀ l,Sh Pg n 253 l→∃ x,l = qj7 x):=by
  intro n
  induction n using Nat.strongRecOn with
  | ind n ih =>
    cases n with
    | zero => exact fun l h => h.elim
    | succ n =>
      exact fun l h => by
        unfold Sh at h
        rw [Tryz.underlying253] at h
        obtain ⟨a0,b0,rfl,_,h0,a1,b1,rfl,_,h1,rfl⟩:=h
        obtain ⟨x0,rfl⟩:=(in_s Tryz.underlying9) n _ h0
        obtain ⟨x1,rfl⟩:=qn9 n _ h1
        exact ⟨(⟨x0,x1⟩:tParam),by rw [qwJ]; (try simp only [qaB]); (try simp only [qam]); rfl⟩
theorem qv1:∀ n,(∀ l,Sh Pg n 244 l→∃ x,l = qgZ x)∧(∀ l,Sh Pg n 255 l→∃ x,l = qns x):=by
  intro n
  induction n using Nat.strongRecOn with
  | ind n ih =>
    cases n with
    | zero => exact ⟨fun l h => h.elim,fun l h => h.elim⟩
    | succ n =>
      exact ⟨(fun l h => by
        unfold Sh at h
        rw [Tryz.underlying244] at h
        obtain ⟨a0,b0,rfl,_,h0,a1,b1,rfl,_,h1,a2,b2,rfl,_,h2,a3,b3,rfl,_,h3,a4,b4,rfl,_,h4,a5,b5,rfl,_,h5,a6,b6,rfl,_,h6,rfl⟩:=h
        obtain ⟨x0,rfl⟩:=(in_i Tryz.underlying239) n _ h0
        obtain ⟨x1,rfl⟩:=(in_s Tryz.underlying9) n _ h1
        obtain ⟨x2,rfl⟩:=(in_i Tryz.underlying3) n _ h2
        obtain ⟨x3,rfl⟩:=qAp Tryz.underlying240 (c:=qgZ) (fun m hm => (ih m (by omega)).1) _ h3
        obtain ⟨x4,rfl⟩:=(in_l Tryz.underlying241 qAg) n _ h4
        obtain ⟨x5,rfl⟩:=qAp Tryz.underlying242 (c:=qns) (fun m hm => (ih m (by omega)).2) _ h5
        obtain ⟨x6,rfl⟩:=(in_l Tryz.underlying27 qn9) n _ h6
        exact ⟨(⟨x0,x1,x2,x3,x4,x5,x6⟩:tExpr),by rw [qp0]; rfl⟩),(fun l h => by
        unfold Sh at h
        rw [Tryz.underlying255] at h
        obtain ⟨a0,b0,rfl,_,h0,a1,b1,rfl,_,h1,a2,b2,rfl,_,h2,rfl⟩:=h
        obtain ⟨x0,rfl⟩:=(in_s Tryz.underlying9) n _ h0
        obtain ⟨x1,rfl⟩:=(in_l Tryz.underlying22 (in_s Tryz.underlying9)) n _ h1
        obtain ⟨x2,rfl⟩:=(ih n (Nat.lt_succ_self n)).1 _ h2
        exact ⟨(⟨x0,x1,x2⟩:tAlt),by rw [qCh]; (try simp only [qp0]); rfl⟩)⟩
theorem qBb:In Pg 244 qgZ:=fun n => (qv1 n).1
theorem qzs:∀ n,(∀ l,Sh Pg n 247 l→∃ x,l = qnL x):=by
  intro n
  induction n using Nat.strongRecOn with
  | ind n ih =>
    cases n with
    | zero => exact fun l h => h.elim
    | succ n =>
      exact fun l h => by
        unfold Sh at h
        rw [Tryz.underlying247] at h
        obtain ⟨a0,b0,rfl,_,h0,a1,b1,rfl,_,h1,a2,b2,rfl,_,h2,a3,b3,rfl,_,h3,a4,b4,rfl,_,h4,a5,b5,rfl,_,h5,rfl⟩:=h
        obtain ⟨x0,rfl⟩:=(in_s Tryz.underlying9) n _ h0
        obtain ⟨x1,rfl⟩:=(in_l Tryz.underlying22 (in_s Tryz.underlying9)) n _ h1
        obtain ⟨x2,rfl⟩:=qBb n _ h2
        obtain ⟨x3,rfl⟩:=(in_i Tryz.underlying245) n _ h3
        obtain ⟨x4,rfl⟩:=(in_b Tryz.underlying4) n _ h4
        obtain ⟨x5,rfl⟩:=qBU n _ h5
        exact ⟨(⟨x0,x1,x2,x3,x4,x5⟩:tDef),by rw [qAb]; (try simp only [qp0]); (try simp only [qkW]); (try simp only [qaB]); (try simp only [qam]); rfl⟩
theorem qvQ:∀ n,(∀ l,Sh Pg n 233 l→∃ x,l = qep x):=by
  intro n
  induction n using Nat.strongRecOn with
  | ind n ih =>
    cases n with
    | zero => exact fun l h => h.elim
    | succ n =>
      exact fun l h => by
        unfold Sh at h
        rw [Tryz.underlying233] at h
        obtain ⟨a0,b0,rfl,_,h0,a1,b1,rfl,_,h1,a2,b2,rfl,_,h2,a3,b3,rfl,_,h3,rfl⟩:=h
        obtain ⟨x0,rfl⟩:=(in_s Tryz.underlying9) n _ h0
        obtain ⟨x1,rfl⟩:=qn9 n _ h1
        obtain ⟨x2,rfl⟩:=(in_l Tryz.underlying23 qx4) n _ h2
        obtain ⟨x3,rfl⟩:=(in_l Tryz.underlying55 qzs) n _ h3
        exact ⟨(⟨x0,x1,x2,x3⟩:tInstance),by rw [qr9]; (try simp only [qaB]); (try simp only [qam]); rfl⟩
theorem qAD:∀ n,(∀ l,Sh Pg n 252 l→∃ x,l = qrk x):=by
  intro n
  induction n using Nat.strongRecOn with
  | ind n ih =>
    cases n with
    | zero => exact fun l h => h.elim
    | succ n =>
      exact fun l h => by
        unfold Sh at h
        rw [Tryz.underlying252] at h
        obtain ⟨a0,b0,rfl,_,h0,a1,b1,rfl,_,h1,a2,b2,rfl,_,h2,rfl⟩:=h
        obtain ⟨x0,rfl⟩:=(in_s Tryz.underlying9) n _ h0
        obtain ⟨x1,rfl⟩:=(in_l Tryz.underlying22 (in_s Tryz.underlying9)) n _ h1
        obtain ⟨x2,rfl⟩:=qjl n _ h2
        exact ⟨(⟨x0,x1,x2⟩:tCase),by rw [qxx]; (try simp only [qam]); rfl⟩
theorem qxo:∀ n,(∀ l,Sh Pg n 236 l→∃ x,l = qfx x):=by
  intro n
  induction n using Nat.strongRecOn with
  | ind n ih =>
    cases n with
    | zero => exact fun l h => h.elim
    | succ n =>
      exact fun l h => by
        unfold Sh at h
        rw [Tryz.underlying236] at h
        obtain ⟨a0,b0,rfl,_,h0,a1,b1,rfl,_,h1,a2,b2,rfl,_,h2,a3,b3,rfl,_,h3,a4,b4,rfl,_,h4,rfl⟩:=h
        obtain ⟨x0,rfl⟩:=(in_s Tryz.underlying9) n _ h0
        obtain ⟨x1,rfl⟩:=(in_s Tryz.underlying9) n _ h1
        obtain ⟨x2,rfl⟩:=(in_s Tryz.underlying74) n _ h2
        obtain ⟨x3,rfl⟩:=(in_l Tryz.underlying234 qAD) n _ h3
        obtain ⟨x4,rfl⟩:=qjl n _ h4
        exact ⟨(⟨x0,x1,x2,x3,x4⟩:tMeasure),by rw [qsD]; (try simp only [qam]); rfl⟩
theorem qA6:∀ n,(∀ l,Sh Pg n 238 l→∃ x,l = qmn x):=by
  intro n
  induction n using Nat.strongRecOn with
  | ind n ih =>
    cases n with
    | zero => exact fun l h => h.elim
    | succ n =>
      exact fun l h => by
        unfold Sh at h
        rw [Tryz.underlying238] at h
        obtain ⟨a0,b0,rfl,_,h0,a1,b1,rfl,_,h1,a2,b2,rfl,_,h2,rfl⟩:=h
        obtain ⟨x0,rfl⟩:=(in_s Tryz.underlying9) n _ h0
        obtain ⟨x1,rfl⟩:=(in_l Tryz.underlying36 qwK) n _ h1
        obtain ⟨x2,rfl⟩:=qjl n _ h2
        exact ⟨(⟨x0,x1,x2⟩:tQual),by rw [qxH]; (try simp only [qam]); rfl⟩
theorem qyu:∀ n,(∀ l,Sh Pg n 57 l→∃ x,l = qaL x):=by
  intro n
  induction n using Nat.strongRecOn with
  | ind n ih =>
    cases n with
    | zero => exact fun l h => h.elim
    | succ n =>
      exact fun l h => by
        unfold Sh at h
        rw [Tryz.underlying57] at h
        obtain ⟨a0,b0,rfl,_,h0,a1,b1,rfl,_,h1,a2,b2,rfl,_,h2,a3,b3,rfl,_,h3,a4,b4,rfl,_,h4,a5,b5,rfl,_,h5,rfl⟩:=h
        obtain ⟨x0,rfl⟩:=(in_l Tryz.underlying50 qBc) n _ h0
        obtain ⟨x1,rfl⟩:=(in_l Tryz.underlying51 qAy) n _ h1
        obtain ⟨x2,rfl⟩:=(in_l Tryz.underlying52 qvQ) n _ h2
        obtain ⟨x3,rfl⟩:=(in_l Tryz.underlying53 qxo) n _ h3
        obtain ⟨x4,rfl⟩:=(in_l Tryz.underlying54 qA6) n _ h4
        obtain ⟨x5,rfl⟩:=(in_l Tryz.underlying55 qzs) n _ h5
        exact ⟨(⟨x0,x1,x2,x3,x4,x5⟩:tModule),by rw [qlq]; rfl⟩
end Go.Proofs.YtgldgpdhblndkaaGreatDoor
namespace Go.Proofs
open Go.Shelf
def Tryz.laysM171_ren : Go.Shelf.Ren := ⟨fun | 171 => 122 | 243 => 138 | 246 => 153 | 283 => 171 | 284 => 172 | 285 => 173 | 286 => 174 | 129 => 170 | 317 => 195 | 318 => 196 | 319 => 197 | 320 => 198 | 337 => 203 | 338 => 204 | n => n, fun | 3 => 3 | 9 => 9 | 2 => 2 | 4 => 4 | 171 => 183 | 0 => 0 | 53 => 182 | 37 => 165 | 5 => 5 | 173 => 185 | 212 => 202 | 51 => 180 | 20 => 20 | 213 => 203 | 46 => 160 | 232 => 208 | 233 => 209 | n => n, fun | 17 => 0 | 18 => 1 | 19 => 2 | n => n⟩
theorem Tryz.laysM171 : Go.Proofs.LaysM.n171 Tryz.prog Tryz.laysM171_ren := {
  mixed := by kernel_rfl
  f129 := Tryz.func170.trans (congrArg some (by kernel_rfl))
  f171 := Tryz.func122.trans (congrArg some (by kernel_rfl))
  f243 := Tryz.func138.trans (congrArg some (by kernel_rfl))
  f246 := Tryz.func153.trans (congrArg some (by kernel_rfl))
  f283 := Tryz.func171.trans (congrArg some (by kernel_rfl))
  f284 := Tryz.func172.trans (congrArg some (by kernel_rfl))
  f285 := Tryz.func173.trans (congrArg some (by kernel_rfl))
  f286 := Tryz.func174.trans (congrArg some (by kernel_rfl))
  f317 := Tryz.func195.trans (congrArg some (by kernel_rfl))
  f318 := Tryz.func196.trans (congrArg some (by kernel_rfl))
  f319 := Tryz.func197.trans (congrArg some (by kernel_rfl))
  f320 := Tryz.func198.trans (congrArg some (by kernel_rfl))
  f337 := Tryz.func203.trans (congrArg some (by kernel_rfl))
  f338 := Tryz.func204.trans (congrArg some (by kernel_rfl))
  t0 := Tryz.underlying0
  a0 := Tryz.isAgg0
  z0 := Tryz.sizeOf0
  v0 := Tryz.zeroValue0
  t2 := Tryz.underlying2
  a2 := Tryz.isAgg2
  z2 := Tryz.sizeOf2
  v2 := Tryz.zeroValue2
  t3 := Tryz.underlying3
  a3 := Tryz.isAgg3
  z3 := Tryz.sizeOf3
  v3 := Tryz.zeroValue3
  t4 := Tryz.underlying4
  a4 := Tryz.isAgg4
  z4 := Tryz.sizeOf4
  v4 := Tryz.zeroValue4
  t5 := Tryz.underlying5
  a5 := Tryz.isAgg5
  z5 := Tryz.sizeOf5
  v5 := Tryz.zeroValue5
  t9 := Tryz.underlying9
  a9 := Tryz.isAgg9
  z9 := Tryz.sizeOf9
  v9 := Tryz.zeroValue9
  t20 := Tryz.underlying20
  a20 := Tryz.isAgg20
  z20 := Tryz.sizeOf20
  v20 := Tryz.zeroValue20
  t37 := Tryz.underlying165
  a37 := Tryz.isAgg165
  z37 := Tryz.sizeOf165
  v37 := Tryz.zeroValue165
  t46 := Tryz.underlying160
  a46 := Tryz.isAgg160
  z46 := Tryz.sizeOf160
  v46 := Tryz.zeroValue160
  t51 := Tryz.underlying180
  a51 := Tryz.isAgg180
  z51 := Tryz.sizeOf180
  v51 := Tryz.zeroValue180
  t53 := Tryz.underlying182
  a53 := Tryz.isAgg182
  z53 := Tryz.sizeOf182
  v53 := Tryz.zeroValue182
  t171 := Tryz.underlying183
  a171 := Tryz.isAgg183
  z171 := Tryz.sizeOf183
  v171 := Tryz.zeroValue183
  t173 := Tryz.underlying185
  a173 := Tryz.isAgg185
  z173 := Tryz.sizeOf185
  v173 := Tryz.zeroValue185
  t212 := Tryz.underlying202
  a212 := Tryz.isAgg202
  z212 := Tryz.sizeOf202
  v212 := Tryz.zeroValue202
  t213 := Tryz.underlying203
  a213 := Tryz.isAgg203
  z213 := Tryz.sizeOf203
  t232 := Tryz.underlying208
  a232 := Tryz.isAgg208
  z232 := Tryz.sizeOf208
  v232 := Tryz.zeroValue208
  t233 := Tryz.underlying209
  a233 := Tryz.isAgg209
  z233 := Tryz.sizeOf209
  v233 := Tryz.zeroValue209
  g17 := by kernel_rfl
  g18 := by kernel_rfl
  g19 := by kernel_rfl
  i0 := by kernel_rfl
  i2 := by kernel_rfl
  i3 := by kernel_rfl
  i4 := by kernel_rfl
  i5 := by kernel_rfl
  i9 := by kernel_rfl
  i20 := by kernel_rfl
  i37 := by kernel_rfl
  i46 := by kernel_rfl
  i51 := by kernel_rfl
  i53 := by kernel_rfl
  i171 := by kernel_rfl
  i173 := by kernel_rfl
  i212 := by kernel_rfl
  i232 := by kernel_rfl
  i233 := by kernel_rfl
  m17 := by kernel_rfl
  m18 := by kernel_rfl
  m19 := by kernel_rfl }
def Tryz.lays190_ren : Go.Shelf.Ren := ⟨fun | 190 => 136 | 125 => 152 | 258 => 151 | 128 => 169 | 129 => 170 | 302 => 160 | 303 => 161 | 304 => 162 | 305 => 163 | 306 => 164 | 307 => 165 | 308 => 166 | 309 => 167 | 310 => 168 | 333 => 189 | 329 => 190 | 330 => 191 | 334 => 192 | 335 => 193 | 336 => 194 | 344 => 202 | n => n, fun | 31 => 22 | 9 => 9 | 3 => 3 | 46 => 160 | 0 => 0 | 51 => 180 | 53 => 182 | 4 => 4 | 183 => 172 | 182 => 171 | 131 => 177 | 5 => 5 | 218 => 194 | 222 => 198 | 228 => 205 | 229 => 206 | n => n, fun | n => n⟩
theorem Tryz.lays190 : Go.Proofs.Lays.n190 Tryz.prog Tryz.lays190_ren := {
  mixed := by kernel_rfl
  f125 := Tryz.func152.trans (congrArg some (by kernel_rfl))
  f128 := Tryz.func169.trans (congrArg some (by kernel_rfl))
  f129 := Tryz.func170.trans (congrArg some (by kernel_rfl))
  f190 := Tryz.func136.trans (congrArg some (by kernel_rfl))
  f258 := Tryz.func151.trans (congrArg some (by kernel_rfl))
  f302 := Tryz.func160.trans (congrArg some (by kernel_rfl))
  f303 := Tryz.func161.trans (congrArg some (by kernel_rfl))
  f304 := Tryz.func162.trans (congrArg some (by kernel_rfl))
  f305 := Tryz.func163.trans (congrArg some (by kernel_rfl))
  f306 := Tryz.func164.trans (congrArg some (by kernel_rfl))
  f307 := Tryz.func165.trans (congrArg some (by kernel_rfl))
  f308 := Tryz.func166.trans (congrArg some (by kernel_rfl))
  f309 := Tryz.func167.trans (congrArg some (by kernel_rfl))
  f310 := Tryz.func168.trans (congrArg some (by kernel_rfl))
  f329 := Tryz.func190.trans (congrArg some (by kernel_rfl))
  f330 := Tryz.func191.trans (congrArg some (by kernel_rfl))
  f333 := Tryz.func189.trans (congrArg some (by kernel_rfl))
  f334 := Tryz.func192.trans (congrArg some (by kernel_rfl))
  f335 := Tryz.func193.trans (congrArg some (by kernel_rfl))
  f336 := Tryz.func194.trans (congrArg some (by kernel_rfl))
  f344 := Tryz.func202.trans (congrArg some (by kernel_rfl))
  t0 := Tryz.underlying0
  a0 := Tryz.isAgg0
  z0 := Tryz.sizeOf0
  v0 := Tryz.zeroValue0
  t3 := Tryz.underlying3
  a3 := Tryz.isAgg3
  z3 := Tryz.sizeOf3
  v3 := Tryz.zeroValue3
  t4 := Tryz.underlying4
  a4 := Tryz.isAgg4
  z4 := Tryz.sizeOf4
  v4 := Tryz.zeroValue4
  t5 := Tryz.underlying5
  a5 := Tryz.isAgg5
  z5 := Tryz.sizeOf5
  v5 := Tryz.zeroValue5
  t9 := Tryz.underlying9
  a9 := Tryz.isAgg9
  z9 := Tryz.sizeOf9
  v9 := Tryz.zeroValue9
  t31 := Tryz.underlying22
  a31 := Tryz.isAgg22
  z31 := Tryz.sizeOf22
  v31 := Tryz.zeroValue22
  t46 := Tryz.underlying160
  a46 := Tryz.isAgg160
  z46 := Tryz.sizeOf160
  v46 := Tryz.zeroValue160
  t51 := Tryz.underlying180
  a51 := Tryz.isAgg180
  z51 := Tryz.sizeOf180
  v51 := Tryz.zeroValue180
  t53 := Tryz.underlying182
  a53 := Tryz.isAgg182
  z53 := Tryz.sizeOf182
  v53 := Tryz.zeroValue182
  t131 := Tryz.underlying177
  a131 := Tryz.isAgg177
  z131 := Tryz.sizeOf177
  v131 := Tryz.zeroValue177
  t182 := Tryz.underlying171
  a182 := Tryz.isAgg171
  z182 := Tryz.sizeOf171
  v182 := Tryz.zeroValue171
  t183 := Tryz.underlying172
  a183 := Tryz.isAgg172
  z183 := Tryz.sizeOf172
  v183 := Tryz.zeroValue172
  t218 := Tryz.underlying194
  a218 := Tryz.isAgg194
  z218 := Tryz.sizeOf194
  v218 := Tryz.zeroValue194
  t222 := Tryz.underlying198
  a222 := Tryz.isAgg198
  z222 := Tryz.sizeOf198
  v222 := Tryz.zeroValue198
  t228 := Tryz.underlying205
  a228 := Tryz.isAgg205
  z228 := Tryz.sizeOf205
  v228 := Tryz.zeroValue205
  t229 := Tryz.underlying206
  a229 := Tryz.isAgg206
  z229 := Tryz.sizeOf206
  v229 := Tryz.zeroValue206 }
def Tryz.lays194_ren : Go.Shelf.Ren := ⟨fun | 194 => 137 | n => n, fun | 31 => 22 | 9 => 9 | 3 => 3 | 4 => 4 | 0 => 0 | n => n, fun | n => n⟩
theorem Tryz.lays194 : Go.Proofs.Lays.n194 Tryz.prog Tryz.lays194_ren := {
  mixed := by kernel_rfl
  f194 := Tryz.func137.trans (congrArg some (by kernel_rfl))
  t0 := Tryz.underlying0
  a0 := Tryz.isAgg0
  z0 := Tryz.sizeOf0
  v0 := Tryz.zeroValue0
  t3 := Tryz.underlying3
  a3 := Tryz.isAgg3
  z3 := Tryz.sizeOf3
  v3 := Tryz.zeroValue3
  t4 := Tryz.underlying4
  a4 := Tryz.isAgg4
  z4 := Tryz.sizeOf4
  v4 := Tryz.zeroValue4
  t9 := Tryz.underlying9
  a9 := Tryz.isAgg9
  z9 := Tryz.sizeOf9
  v9 := Tryz.zeroValue9
  t31 := Tryz.underlying22
  a31 := Tryz.isAgg22
  z31 := Tryz.sizeOf22
  v31 := Tryz.zeroValue22 }
def Tryz.lc87_ren : Go.Shelf.Ren := ⟨fun | 41 => 87 | n => n, fun | 22 => 22 | 23 => 9 | 4 => 4 | n => n, fun | n => n⟩
theorem Tryz.lc87 : Go.Proofs.SlLaysE0.n41 Tryz.prog Tryz.lc87_ren := {
  mixed := by kernel_rfl
  f41 := ⟨Tryz.f87.name, by decide, Tryz.func87.trans (congrArg some (by kernel_rfl))⟩
  t4 := Tryz.underlying4
  a4 := Tryz.isAgg4
  z4 := Tryz.sizeOf4
  v4 := Tryz.zeroValue4
  t22 := Tryz.underlying22
  a22 := Tryz.isAgg22
  z22 := Tryz.sizeOf22
  v22 := Tryz.zeroValue22 }
def Tryz.lc89_ren : Go.Shelf.Ren := ⟨fun | 41 => 89 | n => n, fun | 22 => 29 | 23 => 31 | 4 => 4 | n => n, fun | n => n⟩
theorem Tryz.lc89 : Go.Proofs.SlLaysE0.n41 Tryz.prog Tryz.lc89_ren := {
  mixed := by kernel_rfl
  f41 := ⟨Tryz.f89.name, by decide, Tryz.func89.trans (congrArg some (by kernel_rfl))⟩
  t4 := Tryz.underlying4
  a4 := Tryz.isAgg4
  z4 := Tryz.sizeOf4
  v4 := Tryz.zeroValue4
  t22 := Tryz.underlying29
  a22 := Tryz.isAgg29
  z22 := Tryz.sizeOf29
  v22 := Tryz.zeroValue29 }
def Tryz.lc90_ren : Go.Shelf.Ren := ⟨fun | 41 => 90 | n => n, fun | 22 => 27 | 23 => 33 | 4 => 4 | n => n, fun | n => n⟩
theorem Tryz.lc90 : Go.Proofs.SlLaysE0.n41 Tryz.prog Tryz.lc90_ren := {
  mixed := by kernel_rfl
  f41 := ⟨Tryz.f90.name, by decide, Tryz.func90.trans (congrArg some (by kernel_rfl))⟩
  t4 := Tryz.underlying4
  a4 := Tryz.isAgg4
  z4 := Tryz.sizeOf4
  v4 := Tryz.zeroValue4
  t22 := Tryz.underlying27
  a22 := Tryz.isAgg27
  z22 := Tryz.sizeOf27
  v22 := Tryz.zeroValue27 }
end Go.Proofs
namespace Go.Proofs.YtgldgpdhblndkaaGreatDoor
open Go
set_option linter.unusedVariables false
set_option maxRecDepth 100000
theorem qqv:qjr Pg 87 9:=qtD Tryz.lc87 rfl rfl (by kernel_rfl) Tryz.call87
theorem qol {l r:List Str} (h:qip l = some r):CC Pg GE 87 [sl cS l] (sl cS r) [(0,9)]:=sT22.cloneCC qqv h
theorem qz7:qjr Pg 89 31:=qtD Tryz.lc89 rfl rfl (by kernel_rfl) Tryz.call89
theorem quc {l r:List tPred} (h:qip l = some r):CC Pg GE 89 [sl qaa l] (sl qaa r) [(0,31)]:=sT29.cloneCC qz7 h
theorem qwy:qjr Pg 90 33:=qtD Tryz.lc90 rfl rfl (by kernel_rfl) Tryz.call90
theorem quf {l r:List tType} (h:qip l = some r):CC Pg GE 90 [sl qac l] (sl qac r) [(0,33)]:=sT27.cloneCC qwy h
end Go.Proofs.YtgldgpdhblndkaaGreatDoor
