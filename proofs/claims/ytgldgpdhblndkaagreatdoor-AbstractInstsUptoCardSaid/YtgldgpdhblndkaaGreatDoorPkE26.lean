/- WHAT IS PROVED: parts of the proof, put together by a program (GI GK Sh VisA). Conditions: none. -/
import Derived.Test.YtgldgpdhblndkaaGreatDoorPkE25
import Derived.Test.YtgldgpdhblndkaaGreatDoorPkE22
import Derived.Test.YtgldgpdhblndkaaGreatDoorProg
import Derived.Ground.SlgnProg
import Derived.Shelf.Lays
import Derived.Shelf.LaysM
import Derived.Shelf.SlGeneric
import Derived.Shelf.SlLaysE0
import Derived.Test.YtgldgpdhblndkaaGreatDoorPkE24
import Derived.RangeFuncRecord
import Derived.RangeFuncSeq
noncomputable section
namespace Go.Proofs.YtgldgpdhblndkaaGreatDoor
open Go
set_option linter.unusedVariables false
set_option maxRecDepth 100000
theorem qHP:∀ n,(∀ l,Sh Pg n 76 l→∃ x,l = qap x):=by
 intro n
 induction n using Nat.strongRecOn with
 | ind n ih =>
  cases n with
  | zero => exact fun l h => h.elim
  | succ n =>
   exact fun l h => by
    unfold Sh at h
    rw [Tryz.underlying76] at h
    obtain ⟨a0,b0,rfl,_,h0,a1,b1,rfl,_,h1,rfl⟩:=h
    obtain ⟨x0,rfl⟩:=(in_s Tryz.underlying9) n _ h0
    obtain ⟨x1,rfl⟩:=(in_s Tryz.underlying74) n _ h1
    exact ⟨(⟨x0,x1⟩:tAbs),by rw [qvM]; rfl⟩
theorem qHw:∀ n,(∀ l,Sh Pg n 88 l→∃ x,l = qaz x):=by
 intro n
 induction n using Nat.strongRecOn with
 | ind n ih =>
  cases n with
  | zero => exact fun l h => h.elim
  | succ n =>
   exact fun l h => by
    unfold Sh at h
    rw [Tryz.underlying88] at h
    obtain ⟨a0,b0,rfl,_,h0,a1,b1,rfl,_,h1,rfl⟩:=h
    obtain ⟨x0,rfl⟩:=(in_s Tryz.underlying9) n _ h0
    obtain ⟨x1,rfl⟩:=(in_s Tryz.underlying74) n _ h1
    exact ⟨(⟨x0,x1⟩:tVar),by rw [qv0]; rfl⟩
theorem qB9:∀ n,(∀ l,Sh Pg n 31 l→∃ x,l = qaa x):=by
 intro n
 induction n using Nat.strongRecOn with
 | ind n ih =>
  cases n with
  | zero => exact fun l h => h.elim
  | succ n =>
   exact fun l h => by
    unfold Sh at h
    rw [Tryz.underlying31] at h
    obtain ⟨a0,b0,rfl,_,h0,a1,b1,rfl,_,h1,a2,b2,rfl,_,h2,a3,b3,rfl,_,h3,rfl⟩:=h
    obtain ⟨x0,rfl⟩:=(in_i Tryz.underlying28) n _ h0
    obtain ⟨x1,rfl⟩:=(in_s Tryz.underlying9) n _ h1
    obtain ⟨x2,rfl⟩:=(in_i Tryz.underlying3) n _ h2
    obtain ⟨x3,rfl⟩:=qHD Tryz.underlying29 (c:=qaa) (fun m hm => (ih m (by omega))) _ h3
    exact ⟨(⟨x0,x1,x2,x3⟩:tPred),by rw [qal]; rfl⟩
theorem qGl:∀ n,(∀ l,Sh Pg n 33 l→∃ x,l = qac x):=by
 intro n
 induction n using Nat.strongRecOn with
 | ind n ih =>
  cases n with
  | zero => exact fun l h => h.elim
  | succ n =>
   exact fun l h => by
    unfold Sh at h
    rw [Tryz.underlying33] at h
    obtain ⟨a0,b0,rfl,_,h0,a1,b1,rfl,_,h1,a2,b2,rfl,_,h2,a3,b3,rfl,_,h3,a4,b4,rfl,_,h4,a5,b5,rfl,_,h5,rfl⟩:=h
    obtain ⟨x0,rfl⟩:=(in_i Tryz.underlying26) n _ h0
    obtain ⟨x1,rfl⟩:=(in_s Tryz.underlying9) n _ h1
    obtain ⟨x2,rfl⟩:=qHD Tryz.underlying27 (c:=qac) (fun m hm => (ih m (by omega))) _ h2
    obtain ⟨x3,rfl⟩:=(in_l Tryz.underlying22 (in_s Tryz.underlying9)) n _ h3
    obtain ⟨x4,rfl⟩:=qB9 n _ h4
    obtain ⟨x5,rfl⟩:=(in_l Tryz.underlying29 qB9) n _ h5
    exact ⟨(⟨x0,x1,x2,x3,x4,x5⟩:tType),by rw [qav]; (try simp only [qal]); rfl⟩
theorem qF4:∀ n,(∀ l,Sh Pg n 82 l→∃ x,l = qai x):=by
 intro n
 induction n using Nat.strongRecOn with
 | ind n ih =>
  cases n with
  | zero => exact fun l h => h.elim
  | succ n =>
   exact fun l h => by
    unfold Sh at h
    rw [Tryz.underlying82] at h
    obtain ⟨a0,b0,rfl,_,h0,a1,b1,rfl,_,h1,rfl⟩:=h
    obtain ⟨x0,rfl⟩:=(in_s Tryz.underlying9) n _ h0
    obtain ⟨x1,rfl⟩:=(in_l Tryz.underlying36 qHw) n _ h1
    exact ⟨(⟨x0,x1⟩:tHole),by rw [qkP]; rfl⟩
end Go.Proofs.YtgldgpdhblndkaaGreatDoor
namespace Go.Proofs
open Go.Shelf
noncomputable def Tryz.laysM171_ren : Go.Shelf.Ren := ⟨fun | 171 => 122 | 243 => 138 | 246 => 153 | 283 => 171 | 284 => 172 | 285 => 173 | 286 => 174 | 129 => 170 | 317 => 195 | 318 => 196 | 319 => 197 | 320 => 198 | 337 => 203 | 338 => 204 | n => n, fun | 3 => 3 | 9 => 9 | 2 => 2 | 4 => 4 | 171 => 183 | 0 => 0 | 53 => 182 | 37 => 165 | 5 => 5 | 173 => 185 | 212 => 202 | 51 => 180 | 20 => 20 | 213 => 203 | 46 => 160 | 232 => 208 | 233 => 209 | n => n, fun | 17 => 0 | 18 => 1 | 19 => 2 | n => n⟩
theorem Tryz.laysM171 : Go.Proofs.LaysM.n171 Tryz.prog Tryz.laysM171_ren := {
 mixed := by kernel_rfl
 f129 := Tryz.func170.trans (congrArg some (by kernel_rfl))
 f171 := Tryz.func122.trans (congrArg some (by kernel_rfl))
 f243 := Tryz.func138.trans (congrArg some (by kernel_rfl))
 f246 := Tryz.func153.trans (congrArg some (by kernel_rfl))
 f283 := Tryz.func171.trans (congrArg some (by kernel_rfl))
 f284 := Tryz.func172.trans (congrArg some (by kernel_rfl))
 f285 := Tryz.func173.trans (congrArg some (by kernel_rfl))
 f286 := Tryz.func174.trans (congrArg some (by kernel_rfl))
 f317 := Tryz.func195.trans (congrArg some (by kernel_rfl))
 f318 := Tryz.func196.trans (congrArg some (by kernel_rfl))
 f319 := Tryz.func197.trans (congrArg some (by kernel_rfl))
 f320 := Tryz.func198.trans (congrArg some (by kernel_rfl))
 f337 := Tryz.func203.trans (congrArg some (by kernel_rfl))
 f338 := Tryz.func204.trans (congrArg some (by kernel_rfl))
 t0 := Tryz.underlying0
 a0 := Tryz.isAgg0
 z0 := Tryz.sizeOf0
 v0 := Tryz.zeroValue0
 t2 := Tryz.underlying2
 a2 := Tryz.isAgg2
 z2 := Tryz.sizeOf2
 v2 := Tryz.zeroValue2
 t3 := Tryz.underlying3
 a3 := Tryz.isAgg3
 z3 := Tryz.sizeOf3
 v3 := Tryz.zeroValue3
 t4 := Tryz.underlying4
 a4 := Tryz.isAgg4
 z4 := Tryz.sizeOf4
 v4 := Tryz.zeroValue4
 t5 := Tryz.underlying5
 a5 := Tryz.isAgg5
 z5 := Tryz.sizeOf5
 v5 := Tryz.zeroValue5
 t9 := Tryz.underlying9
 a9 := Tryz.isAgg9
 z9 := Tryz.sizeOf9
 v9 := Tryz.zeroValue9
 t20 := Tryz.underlying20
 a20 := Tryz.isAgg20
 z20 := Tryz.sizeOf20
 v20 := Tryz.zeroValue20
 t37 := Tryz.underlying165
 a37 := Tryz.isAgg165
 z37 := Tryz.sizeOf165
 v37 := Tryz.zeroValue165
 t46 := Tryz.underlying160
 a46 := Tryz.isAgg160
 z46 := Tryz.sizeOf160
 v46 := Tryz.zeroValue160
 t51 := Tryz.underlying180
 a51 := Tryz.isAgg180
 z51 := Tryz.sizeOf180
 v51 := Tryz.zeroValue180
 t53 := Tryz.underlying182
 a53 := Tryz.isAgg182
 z53 := Tryz.sizeOf182
 v53 := Tryz.zeroValue182
 t171 := Tryz.underlying183
 a171 := Tryz.isAgg183
 z171 := Tryz.sizeOf183
 v171 := Tryz.zeroValue183
 t173 := Tryz.underlying185
 a173 := Tryz.isAgg185
 z173 := Tryz.sizeOf185
 v173 := Tryz.zeroValue185
 t212 := Tryz.underlying202
 a212 := Tryz.isAgg202
 z212 := Tryz.sizeOf202
 v212 := Tryz.zeroValue202
 t213 := Tryz.underlying203
 a213 := Tryz.isAgg203
 z213 := Tryz.sizeOf203
 t232 := Tryz.underlying208
 a232 := Tryz.isAgg208
 z232 := Tryz.sizeOf208
 v232 := Tryz.zeroValue208
 t233 := Tryz.underlying209
 a233 := Tryz.isAgg209
 z233 := Tryz.sizeOf209
 v233 := Tryz.zeroValue209
 g17 := by kernel_rfl
 g18 := by kernel_rfl
 g19 := by kernel_rfl
 i0 := by kernel_rfl
 i2 := by kernel_rfl
 i3 := by kernel_rfl
 i4 := by kernel_rfl
 i5 := by kernel_rfl
 i9 := by kernel_rfl
 i20 := by kernel_rfl
 i37 := by kernel_rfl
 i46 := by kernel_rfl
 i51 := by kernel_rfl
 i53 := by kernel_rfl
 i171 := by kernel_rfl
 i173 := by kernel_rfl
 i212 := by kernel_rfl
 i232 := by kernel_rfl
 i233 := by kernel_rfl
 m17 := by kernel_rfl
 m18 := by kernel_rfl
 m19 := by kernel_rfl }
noncomputable def Tryz.lays190_ren : Go.Shelf.Ren := ⟨fun | 190 => 136 | 125 => 152 | 258 => 151 | 128 => 169 | 129 => 170 | 302 => 160 | 303 => 161 | 304 => 162 | 305 => 163 | 306 => 164 | 307 => 165 | 308 => 166 | 309 => 167 | 310 => 168 | 333 => 189 | 329 => 190 | 330 => 191 | 334 => 192 | 335 => 193 | 336 => 194 | 344 => 202 | n => n, fun | 31 => 22 | 9 => 9 | 3 => 3 | 46 => 160 | 0 => 0 | 51 => 180 | 53 => 182 | 4 => 4 | 183 => 172 | 182 => 171 | 131 => 177 | 5 => 5 | 218 => 194 | 222 => 198 | 228 => 205 | 229 => 206 | n => n, fun | n => n⟩
theorem Tryz.lays190 : Go.Proofs.Lays.n190 Tryz.prog Tryz.lays190_ren := {
 mixed := by kernel_rfl
 f125 := Tryz.func152.trans (congrArg some (by kernel_rfl))
 f128 := Tryz.func169.trans (congrArg some (by kernel_rfl))
 f129 := Tryz.func170.trans (congrArg some (by kernel_rfl))
 f190 := Tryz.func136.trans (congrArg some (by kernel_rfl))
 f258 := Tryz.func151.trans (congrArg some (by kernel_rfl))
 f302 := Tryz.func160.trans (congrArg some (by kernel_rfl))
 f303 := Tryz.func161.trans (congrArg some (by kernel_rfl))
 f304 := Tryz.func162.trans (congrArg some (by kernel_rfl))
 f305 := Tryz.func163.trans (congrArg some (by kernel_rfl))
 f306 := Tryz.func164.trans (congrArg some (by kernel_rfl))
 f307 := Tryz.func165.trans (congrArg some (by kernel_rfl))
 f308 := Tryz.func166.trans (congrArg some (by kernel_rfl))
 f309 := Tryz.func167.trans (congrArg some (by kernel_rfl))
 f310 := Tryz.func168.trans (congrArg some (by kernel_rfl))
 f329 := Tryz.func190.trans (congrArg some (by kernel_rfl))
 f330 := Tryz.func191.trans (congrArg some (by kernel_rfl))
 f333 := Tryz.func189.trans (congrArg some (by kernel_rfl))
 f334 := Tryz.func192.trans (congrArg some (by kernel_rfl))
 f335 := Tryz.func193.trans (congrArg some (by kernel_rfl))
 f336 := Tryz.func194.trans (congrArg some (by kernel_rfl))
 f344 := Tryz.func202.trans (congrArg some (by kernel_rfl))
 t0 := Tryz.underlying0
 a0 := Tryz.isAgg0
 z0 := Tryz.sizeOf0
 v0 := Tryz.zeroValue0
 t3 := Tryz.underlying3
 a3 := Tryz.isAgg3
 z3 := Tryz.sizeOf3
 v3 := Tryz.zeroValue3
 t4 := Tryz.underlying4
 a4 := Tryz.isAgg4
 z4 := Tryz.sizeOf4
 v4 := Tryz.zeroValue4
 t5 := Tryz.underlying5
 a5 := Tryz.isAgg5
 z5 := Tryz.sizeOf5
 v5 := Tryz.zeroValue5
 t9 := Tryz.underlying9
 a9 := Tryz.isAgg9
 z9 := Tryz.sizeOf9
 v9 := Tryz.zeroValue9
 t31 := Tryz.underlying22
 a31 := Tryz.isAgg22
 z31 := Tryz.sizeOf22
 v31 := Tryz.zeroValue22
 t46 := Tryz.underlying160
 a46 := Tryz.isAgg160
 z46 := Tryz.sizeOf160
 v46 := Tryz.zeroValue160
 t51 := Tryz.underlying180
 a51 := Tryz.isAgg180
 z51 := Tryz.sizeOf180
 v51 := Tryz.zeroValue180
 t53 := Tryz.underlying182
 a53 := Tryz.isAgg182
 z53 := Tryz.sizeOf182
 v53 := Tryz.zeroValue182
 t131 := Tryz.underlying177
 a131 := Tryz.isAgg177
 z131 := Tryz.sizeOf177
 v131 := Tryz.zeroValue177
 t182 := Tryz.underlying171
 a182 := Tryz.isAgg171
 z182 := Tryz.sizeOf171
 v182 := Tryz.zeroValue171
 t183 := Tryz.underlying172
 a183 := Tryz.isAgg172
 z183 := Tryz.sizeOf172
 v183 := Tryz.zeroValue172
 t218 := Tryz.underlying194
 a218 := Tryz.isAgg194
 z218 := Tryz.sizeOf194
 v218 := Tryz.zeroValue194
 t222 := Tryz.underlying198
 a222 := Tryz.isAgg198
 z222 := Tryz.sizeOf198
 v222 := Tryz.zeroValue198
 t228 := Tryz.underlying205
 a228 := Tryz.isAgg205
 z228 := Tryz.sizeOf205
 v228 := Tryz.zeroValue205
 t229 := Tryz.underlying206
 a229 := Tryz.isAgg206
 z229 := Tryz.sizeOf206
 v229 := Tryz.zeroValue206 }
noncomputable def Tryz.lays194_ren : Go.Shelf.Ren := ⟨fun | 194 => 137 | n => n, fun | 31 => 22 | 9 => 9 | 3 => 3 | 4 => 4 | 0 => 0 | n => n, fun | n => n⟩
theorem Tryz.lays194 : Go.Proofs.Lays.n194 Tryz.prog Tryz.lays194_ren := {
 mixed := by kernel_rfl
 f194 := Tryz.func137.trans (congrArg some (by kernel_rfl))
 t0 := Tryz.underlying0
 a0 := Tryz.isAgg0
 z0 := Tryz.sizeOf0
 v0 := Tryz.zeroValue0
 t3 := Tryz.underlying3
 a3 := Tryz.isAgg3
 z3 := Tryz.sizeOf3
 v3 := Tryz.zeroValue3
 t4 := Tryz.underlying4
 a4 := Tryz.isAgg4
 z4 := Tryz.sizeOf4
 v4 := Tryz.zeroValue4
 t9 := Tryz.underlying9
 a9 := Tryz.isAgg9
 z9 := Tryz.sizeOf9
 v9 := Tryz.zeroValue9
 t31 := Tryz.underlying22
 a31 := Tryz.isAgg22
 z31 := Tryz.sizeOf22
 v31 := Tryz.zeroValue22 }
noncomputable def Tryz.lc87_ren : Go.Shelf.Ren := ⟨fun | 41 => 87 | n => n, fun | 22 => 22 | 23 => 9 | 4 => 4 | n => n, fun | n => n⟩
theorem Tryz.lc87 : Go.Proofs.SlLaysE0.n41 Tryz.prog Tryz.lc87_ren := {
 mixed := by kernel_rfl
 f41 := ⟨Tryz.f87.name, by decide, Tryz.func87.trans (congrArg some (by kernel_rfl))⟩
 t4 := Tryz.underlying4
 a4 := Tryz.isAgg4
 z4 := Tryz.sizeOf4
 v4 := Tryz.zeroValue4
 t22 := Tryz.underlying22
 a22 := Tryz.isAgg22
 z22 := Tryz.sizeOf22
 v22 := Tryz.zeroValue22 }
noncomputable def Tryz.lc89_ren : Go.Shelf.Ren := ⟨fun | 41 => 89 | n => n, fun | 22 => 29 | 23 => 31 | 4 => 4 | n => n, fun | n => n⟩
theorem Tryz.lc89 : Go.Proofs.SlLaysE0.n41 Tryz.prog Tryz.lc89_ren := {
 mixed := by kernel_rfl
 f41 := ⟨Tryz.f89.name, by decide, Tryz.func89.trans (congrArg some (by kernel_rfl))⟩
 t4 := Tryz.underlying4
 a4 := Tryz.isAgg4
 z4 := Tryz.sizeOf4
 v4 := Tryz.zeroValue4
 t22 := Tryz.underlying29
 a22 := Tryz.isAgg29
 z22 := Tryz.sizeOf29
 v22 := Tryz.zeroValue29 }
noncomputable def Tryz.lc90_ren : Go.Shelf.Ren := ⟨fun | 41 => 90 | n => n, fun | 22 => 27 | 23 => 33 | 4 => 4 | n => n, fun | n => n⟩
theorem Tryz.lc90 : Go.Proofs.SlLaysE0.n41 Tryz.prog Tryz.lc90_ren := {
 mixed := by kernel_rfl
 f41 := ⟨Tryz.f90.name, by decide, Tryz.func90.trans (congrArg some (by kernel_rfl))⟩
 t4 := Tryz.underlying4
 a4 := Tryz.isAgg4
 z4 := Tryz.sizeOf4
 v4 := Tryz.zeroValue4
 t22 := Tryz.underlying27
 a22 := Tryz.isAgg27
 z22 := Tryz.sizeOf27
 v22 := Tryz.zeroValue27 }
end Go.Proofs
namespace Go.Proofs.YtgldgpdhblndkaaGreatDoor
open Go
set_option linter.unusedVariables false
set_option maxRecDepth 100000
theorem qu2:qkh Pg 87 9:=qwm Tryz.lc87 rfl rfl (by kernel_rfl) Tryz.call87
theorem qoY {l r:List Str} (h:qi5 l = some r):CC Pg GE 87 [sl cS l] (sl cS r) [(0,9)]:=sT22.cloneCC qu2 h
theorem qEP:qkh Pg 89 31:=qwm Tryz.lc89 rfl rfl (by kernel_rfl) Tryz.call89
theorem qCP {l r:List tPred} (h:qi5 l = some r):CC Pg GE 89 [sl qaa l] (sl qaa r) [(0,31)]:=sT29.cloneCC qEP h
theorem qAx:qkh Pg 90 33:=qwm Tryz.lc90 rfl rfl (by kernel_rfl) Tryz.call90
theorem qDf {l r:List tType} (h:qi5 l = some r):CC Pg GE 90 [sl qac l] (sl qac r) [(0,33)]:=sT27.cloneCC qAx h
abbrev asd (GE:List (Nat×List PVal)) (Γ:qaP) (w:World):Ent:=⟨GE,Γ,w,fun _ => False⟩
structure Base (GE:List (Nat×List PVal)) (Γ:qaP) (w:World):Prop where
 wi:∀ b n,Γ b = some n→∃ c t fr,w.heap[b]? = some (.cells c t fr)∧n ≤ c.size
 gl:∀ g cs,(g,cs) ∈ GE→VR Γ [] w (.eptr cs) (.pointer (some ⟨g,0,none⟩))
 gc:∀ g cs,(g,cs) ∈ GE→clL 0 cs
 gx:∀ g cs,(g,cs) ∈ GE→g < w.heap.size∧∃ c t fr,w.heap[g]? = some (.cells c t fr)∧c.size = cs.length
theorem VR.clo {Γ:qaP} {bs bs':qbj} {w:World} {p:PVal} {v:Value} (h:VR Γ bs w p v) (hc:p.cl 0):VR Γ bs' w p v:=h.restrict (n:=0) hc fun i b hi _ => absurd hi (Nat.not_lt_zero _)
section
variable {P:Program} {E:Ent} {Γ:qaP} {bs:qbj} {ow:Nat→Option Loc} {w:World} {a:Array Value} {st:PSt}
theorem SR.base (h:SR P E Γ bs ow w a st):Base E.GE Γ w where
 wi:=h.wi
 gl:=fun g cs hg => (h.gl g cs hg).clo (by simp only [PVal.cl]; exact h.gc g cs hg)
 gc:=h.gc
 gx:=fun g cs hg => ⟨(h.gnow hg).1,(h.gnow hg).2.2.2⟩
theorem Base.good {GE:List (Nat×List PVal)} (hB:Base GE Γ w):EGood GE 0 (asd GE Γ w) where
 ge:=rfl
 low:=fun b n h => by obtain ⟨c,t,fr,h1,_⟩:=hB.wi b n h; exact (Array.getElem?_eq_some_iff.1 h1).1
 nt:=fun _ _ hb => hb
 gl:=hB.gl
theorem Base.fresh {GE:List (Nat×List PVal)} (hB:Base GE Γ w) (k:Nat) {tmps:List PVal} (hs:a.size = tmps.length) (hv:∀ (t:Nat) p v,tmps[t]? = some p→a[t]? = some v→VR Γ [] w p v) :
  SR P (asd GE Γ w) Γ (List.replicate k none) (fun _ => none) w a ⟨tmps,List.replicate k .dead,[]⟩:=by
 have hno:∀ (i b:Nat),(List.replicate k (none:Option Nat))[i]? = some (some b)→False:=fun i b h => by
  rw [List.getElem?_replicate] at h
  split at h <;> simp at h
 exact {
  wi:=hB.wi
  sz:=hs
  tm:=fun t p v hp hv' => (hv t p v hp hv').mono (.refl _ _) (fun i b h => by simp at h)
  bl:=by simp
  bx:=fun i b B hb => (hno i b hb).elim
  inj:=fun i j b hb => (hno i b hb).elim
  bn:=fun i b hb => (hno i b hb).elim
  on:=fun b L hL => by cases hL
  ot:=fun t k e he => by simp at he
  ob:=fun i j e cs own b _ _ hb => (hno i b hb).elim
  gl:=fun g cs hg => (hB.gl g cs hg).mono (.refl _ _) (fun i b h => by simp at h)
  gc:=hB.gc
  gx:=fun g cs hg => ⟨(hB.gx g cs hg).1,fun h => h,(hB.gx g cs hg).2⟩
  step := .refl _ _ _ _ }
theorem SR.again (h:SR P E Γ bs ow w a st) (hc:clL 0 st.tmps) {GE:List (Nat×List PVal)} {Γ':qaP} {w':World} (hB:Base GE Γ' w') (hle:Γ.Le w Γ' w') (k:Nat) :
  SR P (asd GE Γ' w') Γ' (List.replicate k none) (fun _ => none) w' a ⟨st.tmps,List.replicate k .dead,[]⟩ :=
 hB.fresh k h.sz fun t p v hp hv => ((h.tm t p v hp hv).clo (qkj hc hp)).mono hle (.refl _)
theorem SR.aside (h:SR P E Γ bs ow w a st) {GE:List (Nat×List PVal)} {Γ':qaP} {bs':qbj} {ow':Nat→Option Loc} {w':World} {a':Array Value} {st':PSt} (h':SR P (asd GE Γ w) Γ' bs' ow' w' a' st'):SR P E Γ' bs ow w' a st :=
 h.world (fun _ => False) h'.step.le h'.wi h'.step.os h'.step.tape h'.step.output h'.step.size (fun b hb _ => h'.step.keep b hb id) (fun _ hx => hx.elim) (fun _ _ _ hx => hx) (fun _ _ _ hx => hx)
theorem SR.putOther (h:SR P E Γ bs ow w a st) {l:Nat} {o:Obj} (hT:¬ qbb bs ow l) (hE:E.T l∨E.w.heap.size ≤ l) (ho:∀ c t fr,w.heap[l]? ≠ some (.cells c t fr)):SR P E Γ bs ow (w.putObj l o) a st∧Γ.Le w Γ (w.putObj l o):=by
 have hg:∀ b n,Γ b = some n→b ≠ l:=fun b n hb e => by
  obtain ⟨c,t,fr,h1,_⟩:=h.wi b n hb
  exact ho c t fr (e ▸ h1)
 have hle:Γ.Le w Γ (w.putObj l o):=fun b n hb _ => ⟨n,hb,Nat.le_refl _,fun k _ => qaX (World.putObj_heap_other (hg b n hb)) k⟩
 refine ⟨h.world (fun b => b = l) hle (fun b n hb => ?_) rfl rfl rfl (by simp) (fun b _ hb => ⟨World.putObj_heap_other hb,rfl⟩) (fun b hb => hb ▸ hE) (fun i b hb e => hT (.inl ⟨i,e ▸ hb⟩)) (fun b L hL e => hT (.inr (by rw [← e,hL]; simp))),hle⟩
 obtain ⟨c,t,fr,h1,h2⟩:=h.wi b n hb
 exact ⟨c,t,fr,(World.putObj_heap_other (hg b n hb)).trans h1,h2⟩
theorem SR.rebase (h:SR P E Γ bs ow w a st):SR P ⟨E.GE,Γ,w,qbb bs ow⟩ Γ bs ow w a st :=
 { h with
  bn:=fun i b hb => .inl (.inl ⟨i,hb⟩)
  on:=fun b L hL => ⟨(h.on b L hL).1,.inl (.inr (by rw [hL]; simp))⟩
  gx:=fun g cs hg => by
   obtain ⟨k1,k2,k3,k4⟩:=h.gnow hg
   refine ⟨k1,fun hT => ?_,k4⟩
   rcases hT with ⟨i,hi⟩ | hT
   ·exact k2 i g hi rfl
   ·exact hT k3
  step := .refl _ _ _ _ }
theorem SR.touchE (h:SR P E Γ bs ow w a st) {b:Nat} (hb:qbb bs ow b):E.T b∨E.w.heap.size ≤ b:=by
 rcases hb with ⟨i,hi⟩ | hb
 ·exact h.bn i b hi
 ·cases hL:ow b with
  | none => exact absurd hL hb
  | some L => exact (h.on b L hL).2
theorem SR.unbase (h:SR P E Γ bs ow w a st) {Γ':qaP} {bs':qbj} {ow':Nat→Option Loc} {w':World} {a':Array Value} {st':PSt} (h':SR P ⟨E.GE,Γ,w,qbb bs ow⟩ Γ' bs' ow' w' a' st'):SR P E Γ' bs' ow' w' a' st':=by
 have hT:∀ b,qbb bs ow b∨w.heap.size ≤ b→E.T b∨E.w.heap.size ≤ b:=fun b hb => hb.elim h.touchE fun hb => .inr (Nat.le_trans h.step.size hb)
 exact { h' with
  bn:=fun i b hb => hT b (h'.bn i b hb)
  on:=fun b L hL => ⟨(h'.on b L hL).1,hT b (h'.on b L hL).2⟩
  gx:=h.gx
  step:={
   os:=h'.step.os.trans h.step.os
   tape:=h'.step.tape.trans h.step.tape
   output:=h'.step.output.trans h.step.output
   size:=Nat.le_trans h.step.size h'.step.size
   keep:=fun b hb hTb => by
    have hlt:b < w.heap.size:=Nat.lt_of_lt_of_le hb h.step.size
    have hn:¬ qbb bs ow b:=fun hx => (h.touchE hx).elim hTb fun hx => absurd hx (Nat.not_le.2 hb)
    obtain ⟨k1,k2⟩:=h'.step.keep b hlt hn
    obtain ⟨q1,q2⟩:=h.step.keep b hb hTb
    exact ⟨k1.trans q1,k2.trans q2⟩
   le:=h.step.le.trans h'.step.le } }
theorem Sat.on {m:Nat} {c:Code} {Q:Exit→PSt→Prop} (hS:Sat P E.GE m c Q st) (hm:m ≠ 0) (h:SR P E Γ bs ow w a st) (hl:m % 1000 ≤ bs.length) (ro:Option Nat) (ds:List Deferred) :
  cwp ro P c (fun e a' w' => a'.defers = ds∧∃ Γ' bs' ow' st',SR P E Γ' bs' ow' w' a'.tmps st'∧Q e st'∧(∀ i:Nat,i < m % 1000→bs'[i]? = bs[i]?)∧Γ.Le w Γ' w'∧w.heap.size ≤ w'.heap.size ∧
   ∀ b,b < w.heap.size→¬ qbb bs ow b→w'.heap[b]? = w.heap[b]?∧¬ qbb bs' ow' b) ⟨a,ds⟩ w:=by
 have hE:EGood E.GE m ⟨E.GE,Γ,w,qbb bs ow⟩:={
  ge:=rfl
  low:=fun b n hb => h.lt_of_ghost hb
  nt:=fun h0 => absurd h0 hm
  gl:=h.base.gl }
 have hlen:(bs.take (m % 1000)).length = m % 1000:=by simp; omega
 refine qk0 (hS ro ⟨E.GE,Γ,w,qbb bs ow⟩ (bs.take (m % 1000)) ⟨a,ds⟩ w hE hlen ⟨Γ,bs,ow,h.rebase,fun i hi => ?_⟩) fun e a' w' hq => ?_
 ·rw [List.getElem?_take_of_lt (by omega)]
 obtain ⟨hd,st',⟨Γ',bs',ow',h',hk⟩,hQ⟩:=hq
 refine ⟨hd,Γ',bs',ow',st',h.unbase h',hQ,fun i hi => ?_,h'.step.le,h'.step.size,fun b hb hT => ⟨(h'.step.keep b hb hT).1,fun hx => ?_⟩⟩
 ·rw [hk i (by omega),List.getElem?_take_of_lt hi]
 ·exact (h'.touchE hx).elim hT fun hx => absurd hx (Nat.not_le.2 hb)
theorem Sat.wide {GE:List (Nat×List PVal)} {c:Code} {Q:Exit→PSt→Prop} {st0:PSt} (hS:Sat P GE 0 c Q st0) (hB:Base GE Γ w) {ow:Nat→Option Loc} {bs:qbj} (h:SR P (asd GE Γ w) Γ bs ow w a st0) (n:Nat) (ds:List Deferred) :
  c.wpIn Fence.wide n P (fun e a' w' => a'.defers = ds∧∃ Γ' bs' ow' st',SR P (asd GE Γ w) Γ' bs' ow' w' a'.tmps st'∧Q e st') ⟨a,ds⟩ w :=
 wpIn_wide.2 (wp_mono (hS none (asd GE Γ w) [] ⟨a,ds⟩ w hB.good rfl ⟨Γ,bs,ow,h,fun i hi => absurd hi (Nat.not_lt_zero _)⟩) fun e a' w' hq => by
  obtain ⟨hd,st',⟨Γ',bs',ow',h',_⟩,hQ⟩:=hq
  exact ⟨hd,Γ',bs',ow',st',h',hQ⟩)
theorem Sat.wideE {GE:List (Nat×List PVal)} {c:Code} {Q:Exit→PSt→Prop} (hS:Sat P GE 0 c Q st) (hE:EGood GE 0 E) (h:SR P E Γ bs ow w a st) (n:Nat) (ds:List Deferred) :
  c.wpIn Fence.wide n P (fun e a' w' => a'.defers = ds∧∃ Γ' bs' ow' st',SR P E Γ' bs' ow' w' a'.tmps st'∧Q e st') ⟨a,ds⟩ w :=
 wpIn_wide.2 (wp_mono (hS none E [] ⟨a,ds⟩ w hE rfl ⟨Γ,bs,ow,h,fun i hi => absurd hi (Nat.not_lt_zero _)⟩) fun e a' w' hq => by
  obtain ⟨hd,st',⟨Γ',bs',ow',h',_⟩,hQ⟩:=hq
  exact ⟨hd,Γ',bs',ow',st',h',hQ⟩)
theorem SR.allocO (h:SR P E Γ bs ow w a st) (o:Obj):SR P E Γ bs ow (w.alloc o) a st∧Γ.Le w Γ (w.alloc o):=by
 have hlt:∀ b n,Γ b = some n→b < w.heap.size:=fun b n hb => h.lt_of_ghost hb
 have hle:Γ.Le w Γ (w.alloc o):=fun b n hb _ => ⟨n,hb,Nat.le_refl _,fun k _ => qaX (qcJ w o (hlt b n hb)) k⟩
 refine ⟨h.world (fun _ => False) hle (fun b n hb => ?_) rfl rfl rfl (by simp [World.size_alloc]) (fun b hb _ => ⟨qcJ w o hb,rfl⟩) (fun _ hx => hx.elim) (fun _ _ _ hx => hx) (fun _ _ _ hx => hx),hle⟩
 obtain ⟨c,t,fr,h1,h2⟩:=h.wi b n hb
 exact ⟨c,t,fr,(qcJ w o (hlt b n hb)).trans h1,h2⟩
theorem SR.forgetT (h:SR P E Γ bs ow w a st) {tm:List PVal} (hf:fgT st.tmps tm = tm):SR P E Γ bs ow w a { st with tmps:=tm } :=
 { h with
  sz:=by rw [h.sz,← qAV (l:=st.tmps) (bs:=tm),hf]
  tm:=fun t p v hp hv => by
   rw [← hf] at hp
   rcases qAP hp with rfl | hp'
   ·exact .undef v
   ·exact h.tm t p v hp' hv }
theorem SR.back (h:SR P E Γ bs ow w a st) (ho:st.own = []) {Γ':qaP} {bs':qbj} {ow':Nat→Option Loc} {w':World} {a':Array Value} {st':PSt} {H':List PBox} (h':SR P E Γ' bs' ow' w' a' st') (hle:Γ.Le w Γ' w')
  (hbs:∀ i:Nat,i < bs.length→bs'[i]? = bs[i]?) (hH:qbQ H'.length st'.boxes H') (hl:H'.length = bs.length) :
  ∃ ow'',SR P E Γ' bs ow'' w' a { st with boxes:=H' }∧∀ b,qbb bs ow'' b→qbb bs' ow' b:=by
 have hf:=h'.finish (H':=H') (v:=undef) (r := .undef) (src:=fun k => (0,k)) (ro:=[]) (.undef _) trivial hH (fun x hx => by simp at hx) (fun x hx => by simp at hx)
 have hb:bs'.take H'.length = bs:=by
  obtain ⟨h1,_⟩:=qhc hH
  have h2:H'.length ≤ bs'.length:=by rw [h'.bl]; exact h1
  refine List.ext_getElem? fun i => ?_
  by_cases hi:i < H'.length
  ·rw [List.getElem?_take_of_lt hi]; exact hbs i (by omega)
  ·rw [List.getElem?_take_eq_none (by omega),List.getElem?_eq_none (by omega)]
 rw [hb] at hf
 refine ⟨_,{ hf with
  sz:=h.sz
  tm:=fun t p v hp hv => (h.tm t p v hp hv).mono hle (.refl _)
  ot:=fun t k e he => by simp only [ho] at he; simp at he },fun b hb => ?_⟩
 rcases hb with ⟨i,hi⟩ | hb
 ·exact .inl ⟨i,(hbs i (qae hi)).trans hi⟩
 ·refine .inr fun e => hb ?_
  simp [qwZ,e]
end
section
variable {P:Program} {n:Nat} {a:Act} {w:World} {next:Act→World→Prop} {Q:Exit→Act→World→Prop}
theorem qDB {o:Oper} (hd:qd7 o = true) (h:o.wp P a w next Q):o.wpIn Fence.wide n P a w next Q:=by
 refine ⟨fun _ _ => trivial,?_⟩
 have hs:o.semAt (Fence.wide).round a.eval = execOp a.eval o:=Oper.semAt_eq _ _ _ fun c hc => by unfold qd7 at hd; rw [hc] at hd; cases hd
 rw [hs]
 unfold Oper.wp at h
 generalize (execOp a.eval o).run P w = r at *
 have hdep:(Fence.wide).depth.isSome = true→1 ≤ n:=fun h => by simp [Fence.wide] at h
 cases r with
 | ok x w' =>
  cases x <;> simp only [Oper.upon] at h <;> simp only [Oper.uponIn] <;> first
   | exact h.elim
   | exact h
   | exact ⟨hdep,callsIn_wide.2 h⟩
   | exact ⟨hdep,fun c cs _ => by
     obtain ⟨v,w',r,s⟩:=h c cs
     exact ⟨v,w',r,stepsIn_wide.2 s⟩⟩
 | halt x w' => cases x <;> simp only [Oper.upon] at h <;> simp only [Oper.uponIn] <;> exact h
theorem qEF {o:Oper} {f:Operand} {args:Array Operand} {tys:Array TypeId} (ho:o.op = .call { callee := .value f,args:=args,argTypes:=tys }) {g:FuncId} {fs cs:Array Value} (hf:a.eval f = .func (.func g) fs cs)
  (hc:∀ vs w,(callFunc g vs).run P w = .ok (.enter g vs) w) {R:Ending→World→Prop} (h:CallsIn Fence.wide (n - 1) P g (fs ++ args.map a.eval ++ cs) w R) (hR:∀ e w',R e w'→∃ v,e = .returned v∧next (a.put o.dst v) w'):o.wpIn Fence.wide n P a w next Q:=by
 refine ⟨fun _ _ => trivial,?_⟩
 have hs:o.semAt (Fence.wide).round a.eval = execOp a.eval o:=Oper.semAt_eq _ _ _ fun c hc => by rw [ho] at hc; cases hc
 have hrun:(execOp a.eval o).run P w = .ok (.enter g (fs ++ args.map a.eval ++ cs)) w:=by
  simp [execOp,ho,resolve,hf,Deferred.ofValue,invoke,hc]
 rw [hs,hrun,Oper.uponIn_enter]
 refine ⟨fun h => by simp [Fence.wide] at h,h.mono fun e w' hr => ?_⟩
 obtain ⟨v,rfl,hx⟩:=hR e w' hr
 exact hx
theorem qC2 {o:Oper} {f:Operand} {args:Array Operand} {tys:Array TypeId} (ho:o.op = .call { callee := .value f,args:=args,argTypes:=tys }) {l:Nat} (hf:a.eval f = .func (.yield l) #[] #[])
  {R:Ending→World→Prop} (h:YieldAt Fence.wide (n - 1) P l (args.map a.eval) w R) (hR:∀ e w',R e w'→∃ v,e = .returned v∧next (a.put o.dst v) w'):o.wpIn Fence.wide n P a w next Q:=by
 refine ⟨fun _ _ => trivial,?_⟩
 have hs:o.semAt (Fence.wide).round a.eval = execOp a.eval o:=Oper.semAt_eq _ _ _ fun c hc => by rw [ho] at hc; cases hc
 obtain ⟨fn,tmps,assign,body,hy,hr⟩:=h
 have hrun:(execOp a.eval o).run P w = .ok (.round l fn tmps assign body) w:=by
  simp [execOp,ho,resolve,hf,Deferred.ofValue,invoke,hy]
 rw [hs,hrun,Oper.uponIn_round]
 refine ⟨fun h => by simp [Fence.wide] at h,hr.mono fun e w' hr => ?_⟩
 obtain ⟨v,rfl,hx⟩:=hR e w' hr
 exact hx
theorem qtt {ops:Array Oper} {i:Nat} {rest:List Nat} {o:Oper} (ho:ops[i]? = some o) (hg:o.guard = none) (h:o.wpIn Fence.wide n P a w (wpOpsIn Fence.wide n P ops Q rest) Q):wpOpsIn Fence.wide n P ops Q (i :: rest) a w:=by
 unfold wpOpsIn
 simp only [ho,Region.wanted,hg,if_true]
 exact h
theorem qrF {E:Ent} {A:List Nat} {ops:Array Oper} {K:PSt→Prop} {rest:List Nat} {ds:List Deferred}
  (hK:∀ Γ bs ow a w st,SR P E Γ bs ow w a st→K st→wpOpsIn Fence.wide n P ops Q rest ⟨a,ds⟩ w) :
  ∀ (L:List Oper) (is:List Nat) (Γ:qaP) (bs:qbj) (ow:Nat→Option Loc) (a:Array Value) (w:World) (st:PSt),is.map (fun i => ops[i]?) = L.map some →
   (∀ o ∈ L,o.guard = none∧qd7 o = true∧qak o.op = false)→SR P E Γ bs ow w a st→qbW P E.GE A ops K L 0 st→wpOpsIn Fence.wide n P ops Q (is ++ rest) ⟨a,ds⟩ w
 | [],[],Γ,bs,ow,a,w,st,_,_,h,hp => hK Γ bs ow a w st h hp
 | o :: L,i :: is,Γ,bs,ow,a,w,st,hi,hg,h,hp => by
  obtain ⟨g1,g2,g3⟩:=hg o (by simp)
  unfold qbW at hp
  simp only [g1] at hp
  simp only [List.map_cons,List.cons.injEq] at hi
  refine qtt hi.1 g1 (qDB g2 (Oper.wp_mono (fun a' w' hA => ?_) (qtH (a:=⟨a,ds⟩) h (fun hm => by rw [g3] at hm; cases hm) hp Q)))
  obtain ⟨hd,Γ',bs',ow',st',h1,h2,_⟩:=hA
  obtain ⟨a1,ds1⟩:=a'
  simp only at hd h1
  subst hd
  refine qrF (A:=A) hK L is Γ' bs' ow' a1 w' st' hi.2 (fun o ho => hg o (List.mem_cons_of_mem _ ho)) h1 ?_
  rw [g3] at h2
  exact h2
end
end Go.Proofs.YtgldgpdhblndkaaGreatDoor
