/- WHAT IS PROVED: parts of the proof, put together by a program (GK PlC Pt2 Sh VisA VisB VisC). Conditions: none. -/
import Derived.Test.YtgldgpdhblndkaaGreatDoorPkF12
import Derived.Test.YtgldgpdhblndkaaGreatDoorPkF11
import Derived.Test.YtgldgpdhblndkaaGreatDoorProg
import Derived.Ground.SlgnProg
import Derived.Shelf.Lays
import Derived.Shelf.LaysM
import Derived.Shelf.SlGeneric
import Derived.Shelf.SlLaysE0
import Derived.RangeFuncRecord
import Derived.RangeFuncSeq
noncomputable section
namespace Go.Proofs.YtgldgpdhblndkaaGreatDoor
open Go
set_option linter.unusedVariables false
section
variable {α β σ τ X Y:Type}
theorem qb6 (l:List α) (hl:l.length ≤ 1073741824) (mk:Int→List β→τ) (body:τ→Option (τ⊕X)) (h:α→Option β) (g:α→β) (e:List β→X)
  (hb:∀ (i:Int) (s:List β),body (mk i s) = if decide (i < (l.length:Int)) = true then (idx l i).bind (fun x => (h x).bind fun r => (app s ([r]:List β)).bind fun q => some (.inl (mk (w64 (i + 1)) q))) else some (.inr (e s)))
  (hg:∀ x ∈ l,h x = some (g x)):loop body (mk 0 []) = some (e (l.map g)):=by
 refine qFy l (by omega) mk body g e (fun i hi s hs => ?_) (fun s => ?_)
 ·rw [hb,vao (by simp; omega),qbb l i hi]
  simp only [vaa]
  rw [hg _ (vat hi)]
  simp only [vaa]
  rw [qcq (by simp; omega)]
  rfl
 ·rw [hb,vam (by simp)]
theorem qF5 (l:List α) (hl:l.length < 9223372036854775808) (body:Int→Option (Int⊕(Int⊕Unit))) (k:Int→α→Option (Int⊕(Int⊕Unit))) (p:α→Bool)
  (hb:∀ (i:Int),body i = if decide (i < (l.length:Int)) = true then (idx l i).bind (k i) else some (.inr (.inr ())))
  (hk:∀ x ∈ l,∀ i,k i x = some (if p x = true then .inr (.inl i) else .inl (w64 (i + 1)))):loop body 0 = some (match l.findIdx? p with | some j => .inl (j:Int) | none => .inr ()):=by
 refine qtJ l hl body p (fun j => .inl (j:Int)) (.inr ()) (fun i hi => ?_) (by rw [hb,vam (by simp)])
 rw [hb,vao (by simp; omega),qbb l i hi]
 simp only [vaa]
 exact hk _ (vat hi) i
theorem qgw (l:List α) (hl:l.length < 9223372036854775808) (mk:Int→σ→τ) (body:τ→Option (τ⊕X)) (k:Int→σ→α→Option (τ⊕X)) (I:Nat→σ→Prop) (g:α→σ→σ) (e:σ→X) (s0:σ) (h0:I 0 s0)
  (hb:∀ (i:Int) (s:σ),body (mk i s) = if decide (i < (l.length:Int)) = true then (idx l i).bind (k i s) else some (.inr (e s)))
  (hin:∀ (i:Nat) (h:i < l.length) s,I i s→k i s l[i] = some (.inl (mk (w64 ((i:Int) + 1)) (g l[i] s)))∧I (i + 1) (g l[i] s)):loop body (mk 0 s0) = some (e (l.foldl (fun s x => g x s) s0)):=by
 have:=qiI l hl mk body I (fun _ x s => .inl (g x s)) e (fun i h s hs => ⟨?_,fun s' hs' => by cases hs'; exact (hin i h s hs).2⟩) (fun s hs => by rw [hb,vam (by simp)]) 0 s0 (vaM _) h0
 ·rw [vbh,show ((0:Nat):Int) = 0 from rfl] at this
  rw [this]
  have key:∀ (l:List α) (i:Nat) (s:σ),runL (fun _ x (s:σ) => (Sum.inl (g x s):σ⊕X)) e l i s = e (l.foldl (fun s x => g x s) s):=by
   intro l
   induction l with
   | nil => intro i s; rfl
   | cons x l ih => intro i s; unfold runL; simp only; rw [ih]; rfl
  rw [key]
 ·rw [hb,vao (by simp; omega),qbb l i h]
  simp only [vaa]
  exact (hin i h s hs).1
theorem qiZ (l:List α) (hl:l.length < 9223372036854775808) (mk:Int→σ→τ) {body:τ→Option (τ⊕X)} (k:Int→σ→α→Option (τ⊕X)) (e:σ→X) (I:Nat→σ→Prop) {Q:X→Prop}
  (hb:∀ (i:Int) (s:σ),body (mk i s) = if decide (i < (l.length:Int)) = true then (idx l i).bind (k i s) else some (.inr (e s)))
  (hin:∀ (i:Nat) (h:i < l.length) s,I i s→tot (k i s l[i]) (fun r => match r with | .inl t => ∃ s',t = mk (w64 ((i:Int) + 1)) s'∧I (i + 1) s' | .inr y => Q y))
  (hend:∀ s,I l.length s→Q (e s)):∀ s,I 0 s→tot (loop body (mk 0 s)) Q :=
 qtO l hl mk I (fun i h s hs => by
  rw [hb,vao (by simp; omega),qbb l i h]
  exact hin i h s hs) (fun s hs => by
  rw [hb,vam (by simp)]
  exact ⟨_,rfl,hend s hs⟩)
theorem qGU (l:List α) (hl:l.length < 9223372036854775808) {body:Int→Option (Int⊕X)} (k:Int→α→Option (Int⊕X)) (e:X) (I:Nat→Prop) {Q:X→Prop}
  (hb:∀ (i:Int),body i = if decide (i < (l.length:Int)) = true then (idx l i).bind (k i) else some (.inr e))
  (hin:∀ (i:Nat) (h:i < l.length),I i→tot (k i l[i]) (fun r => match r with | .inl t => t = w64 ((i:Int) + 1)∧I (i + 1) | .inr y => Q y))
  (hend:I l.length→Q e) (h0:I 0):tot (loop body 0) Q :=
 qiZ l hl (fun i (_:Unit) => i) (fun i _ => k i) (fun _ => e) (fun i _ => I i) (fun i _ => hb i) (fun i h s hs => (hin i h hs).mono fun r hr => by
  cases r with
  | inl t => exact ⟨(),hr.1,hr.2⟩
  | inr y => exact hr) (fun _ h => hend h) () h0
end
def all2 {α:Type} (p:α→α→Bool):List α→List α→Bool
 | [],[] => true
 | x :: a,y :: b => p x y && all2 p a b
 | _,_ => false
theorem qEW {α:Type} {p:α→α→Bool}:∀ {a b:List α},all2 p a b = true→a.length = b.length
 | [],[],_ => rfl
 | x :: a,y :: b,h => by
  rw [all2,vae] at h
  simp [qEW h.2]
 | [],y :: b,h => by simp [all2] at h
 | x :: a,[],h => by simp [all2] at h
theorem qEB {α:Type} {p:α→α→Bool}:∀ {a b:List α},a.length ≠ b.length→all2 p a b = false:=fun {a b} h => by
 rw [vcp]
 exact fun he => h (qEW he)
theorem qCV {α:Type} {p:α→α→Bool}:∀ {a:List α},(∀ x ∈ a,p x x = true)→all2 p a a = true
 | [],_ => rfl
 | x :: a,h => by
  rw [all2,h x (by simp),vbV]
  exact qCV fun y hy => h y (vaZ _ hy)
theorem qH3 {α:Type} [DecidableEq α]:∀ {a b:List α},all2 (fun x y => decide (x = y)) a b = decide (a = b)
 | [],[] => by simp [all2]
 | x :: a,y :: b => by
  rw [all2,qH3]
  by_cases h1:x = y <;> by_cases h2:a = b <;> simp [h1,h2]
 | [],y :: b => by simp [all2]
 | x :: a,[] => by simp [all2]
theorem qE2 {α:Type} {p:α→α→Bool}:∀ {a b:List α},a.length = b.length→(a.zip b).any (fun x => !p x.1 x.2) = !all2 p a b
 | [],[],_ => rfl
 | x :: a,y :: b,h => by
  rw [List.zip_cons_cons,List.any_cons,qE2 (by simpa using h),all2]
  cases p x y <;> rfl
theorem qs2 {α X:Type} {a b:List α} (hl:a.length = b.length) (ha:a.length < 9223372036854775808) (body:Int→Option (Int⊕X)) (k:Int→α→α→Option (Int⊕X)) (p:α→α→Bool) (y e:X)
  (hb:∀ (i:Int),body i = if decide (i < (a.length:Int)) = true then (idx a i).bind (fun x => (idx b i).bind (k i x)) else some (.inr e))
  (hk:∀ x ∈ a,∀ z ∈ b,∀ i,k i x z = some (if p x z = true then .inl (w64 (i + 1)) else .inr y)):loop body 0 = some (if all2 p a b = true then e else y):=by
 have hz:(a.zip b).length = a.length:=by simp [hl]
 have:=qAU (a.zip b) (by omega) body (fun x => !p x.1 x.2) y e (fun i h => ?_) (by rw [hb,vam (by simp [hz])]) 0 (vaM _)
 ·rw [vbh,qE2 hl] at this
  rw [show ((0:Nat):Int) = 0 from rfl] at this
  rw [this]
  by_cases h:all2 p a b = true <;> simp [h]
 ·have h1:i < a.length:=by omega
  have h2:i < b.length:=by omega
  rw [hb,vao (by simp; omega),qbb a i h1]
  simp only [vaa]
  rw [qbb b i h2]
  simp only [vaa]
  rw [hk _ (vat h1) _ (vat h2)]
  have hzi:(a.zip b)[i] = (a[i],b[i]):=by simp
  rw [hzi]
  by_cases h:p a[i] b[i] = true <;> simp [h]
theorem qi4 {α:Type} (l:List α) (h:l.length ≤ 1073741824):qja l = some l:=vao h
section
variable {α β σ τ X Y:Type}
theorem qzJ (l:List α) (hl:l.length < 9223372036854775808) (mk:Int→τ) (body:τ→Option (τ⊕X)) (p:α→Bool) (y:Nat→X) (e:X)
  (hin:∀ (i:Nat) (h:i < l.length),body (mk (i:Int)) = some (if p l[i] = true then .inr (y i) else .inl (mk (w64 ((i:Int) + 1))))) (hend:body (mk l.length) = some (.inr e)):loop body (mk 0) = some ((l.findIdx? p).elim e y):=by
 have key:∀ k i,k + i = l.length→loop body (mk (i:Int)) = some (((l.drop i).findIdx? p).elim e (fun j => y (i + j))):=by
  intro k
  induction k with
  | zero =>
   intro i hi
   have:i = l.length:=by omega
   subst this
   rw [qoS,hend,vcT]
   rfl
  | succ k ih =>
   intro i hi
   rw [qoS,hin i (by omega),vbB (by omega),vcg]
   by_cases h:p l[i] = true
   ·simp [h]
   ·simp only [h,if_false,vaK]
    rw [qiY (by omega) (by omega),show ((i:Int) + 1) = ((i + 1:Nat):Int) by omega,ih (i + 1) (by omega)]
    cases (l.drop (i + 1)).findIdx? p with
    | none => rfl
    | some j => simp only [vad,Option.elim]; congr 2; omega
 have:=key l.length 0 (by omega)
 rw [vbh] at this
 simpa using this
theorem qeX {A:Type} (l:List α) (hl:l.length < 9223372036854775808) {body:Int→Option (Int⊕(A⊕Unit))} (k:Int→α→Option (Int⊕(A⊕Unit))) (P:α→Prop) (B:A→Prop)
  (hb:∀ (i:Int),body i = if decide (i < (l.length:Int)) = true then (idx l i).bind (k i) else some (.inr (.inr ())))
  (hk:∀ x ∈ l,∀ i,tot (k i x) (fun r => r.elim (fun t => t = w64 (i + 1)∧P x) (fun y => y.elim B (fun _ => False)))):tot (loop body 0) (fun r => r.elim B (fun _ => ∀ x ∈ l,P x)):=by
 refine qGU l hl k (.inr ()) (fun i => ∀ j (h:j < l.length),j < i→P l[j]) hb (fun i hi hI => (hk _ (vat hi) i).mono fun r hr => ?_) (fun hI x hx => ?_) (fun j _ h => absurd h (vaR _))
 ·cases r with
  | inl t =>
   refine ⟨hr.1,fun j hj h => ?_⟩
   by_cases he:j = i
   ·subst he; exact hr.2
   ·exact hI j hj (by omega)
  | inr y => cases y with
   | inl a => exact hr
   | inr u => exact hr.elim
 ·obtain ⟨j,hj,rfl⟩:=vbP hx
  exact hI j hj hj
end
end Go.Proofs.YtgldgpdhblndkaaGreatDoor
namespace Go.Proofs
open Go.Shelf
noncomputable def Tryz.laysM171_ren : Go.Shelf.Ren := ⟨fun | 171 => 122 | 243 => 138 | 246 => 153 | 283 => 171 | 284 => 172 | 285 => 173 | 286 => 174 | 129 => 170 | 317 => 195 | 318 => 196 | 319 => 197 | 320 => 198 | 337 => 203 | 338 => 204 | n => n, fun | 3 => 3 | 9 => 9 | 2 => 2 | 4 => 4 | 171 => 183 | 0 => 0 | 53 => 182 | 37 => 165 | 5 => 5 | 173 => 185 | 212 => 202 | 51 => 180 | 20 => 20 | 213 => 203 | 46 => 160 | 232 => 208 | 233 => 209 | n => n, fun | 17 => 0 | 18 => 1 | 19 => 2 | n => n⟩
theorem Tryz.laysM171 : Go.Proofs.LaysM.n171 Tryz.prog Tryz.laysM171_ren := {
 mixed := by kernel_rfl
 f129 := Tryz.func170.trans (congrArg some (by kernel_rfl))
 f171 := Tryz.func122.trans (congrArg some (by kernel_rfl))
 f243 := Tryz.func138.trans (congrArg some (by kernel_rfl))
 f246 := Tryz.func153.trans (congrArg some (by kernel_rfl))
 f283 := Tryz.func171.trans (congrArg some (by kernel_rfl))
 f284 := Tryz.func172.trans (congrArg some (by kernel_rfl))
 f285 := Tryz.func173.trans (congrArg some (by kernel_rfl))
 f286 := Tryz.func174.trans (congrArg some (by kernel_rfl))
 f317 := Tryz.func195.trans (congrArg some (by kernel_rfl))
 f318 := Tryz.func196.trans (congrArg some (by kernel_rfl))
 f319 := Tryz.func197.trans (congrArg some (by kernel_rfl))
 f320 := Tryz.func198.trans (congrArg some (by kernel_rfl))
 f337 := Tryz.func203.trans (congrArg some (by kernel_rfl))
 f338 := Tryz.func204.trans (congrArg some (by kernel_rfl))
 t0 := Tryz.underlying0
 a0 := Tryz.isAgg0
 z0 := Tryz.sizeOf0
 v0 := Tryz.zeroValue0
 t2 := Tryz.underlying2
 a2 := Tryz.isAgg2
 z2 := Tryz.sizeOf2
 v2 := Tryz.zeroValue2
 t3 := Tryz.underlying3
 a3 := Tryz.isAgg3
 z3 := Tryz.sizeOf3
 v3 := Tryz.zeroValue3
 t4 := Tryz.underlying4
 a4 := Tryz.isAgg4
 z4 := Tryz.sizeOf4
 v4 := Tryz.zeroValue4
 t5 := Tryz.underlying5
 a5 := Tryz.isAgg5
 z5 := Tryz.sizeOf5
 v5 := Tryz.zeroValue5
 t9 := Tryz.underlying9
 a9 := Tryz.isAgg9
 z9 := Tryz.sizeOf9
 v9 := Tryz.zeroValue9
 t20 := Tryz.underlying20
 a20 := Tryz.isAgg20
 z20 := Tryz.sizeOf20
 v20 := Tryz.zeroValue20
 t37 := Tryz.underlying165
 a37 := Tryz.isAgg165
 z37 := Tryz.sizeOf165
 v37 := Tryz.zeroValue165
 t46 := Tryz.underlying160
 a46 := Tryz.isAgg160
 z46 := Tryz.sizeOf160
 v46 := Tryz.zeroValue160
 t51 := Tryz.underlying180
 a51 := Tryz.isAgg180
 z51 := Tryz.sizeOf180
 v51 := Tryz.zeroValue180
 t53 := Tryz.underlying182
 a53 := Tryz.isAgg182
 z53 := Tryz.sizeOf182
 v53 := Tryz.zeroValue182
 t171 := Tryz.underlying183
 a171 := Tryz.isAgg183
 z171 := Tryz.sizeOf183
 v171 := Tryz.zeroValue183
 t173 := Tryz.underlying185
 a173 := Tryz.isAgg185
 z173 := Tryz.sizeOf185
 v173 := Tryz.zeroValue185
 t212 := Tryz.underlying202
 a212 := Tryz.isAgg202
 z212 := Tryz.sizeOf202
 v212 := Tryz.zeroValue202
 t213 := Tryz.underlying203
 a213 := Tryz.isAgg203
 z213 := Tryz.sizeOf203
 t232 := Tryz.underlying208
 a232 := Tryz.isAgg208
 z232 := Tryz.sizeOf208
 v232 := Tryz.zeroValue208
 t233 := Tryz.underlying209
 a233 := Tryz.isAgg209
 z233 := Tryz.sizeOf209
 v233 := Tryz.zeroValue209
 g17 := by kernel_rfl
 g18 := by kernel_rfl
 g19 := by kernel_rfl
 i0 := by kernel_rfl
 i2 := by kernel_rfl
 i3 := by kernel_rfl
 i4 := by kernel_rfl
 i5 := by kernel_rfl
 i9 := by kernel_rfl
 i20 := by kernel_rfl
 i37 := by kernel_rfl
 i46 := by kernel_rfl
 i51 := by kernel_rfl
 i53 := by kernel_rfl
 i171 := by kernel_rfl
 i173 := by kernel_rfl
 i212 := by kernel_rfl
 i232 := by kernel_rfl
 i233 := by kernel_rfl
 m17 := by kernel_rfl
 m18 := by kernel_rfl
 m19 := by kernel_rfl }
noncomputable def Tryz.lays190_ren : Go.Shelf.Ren := ⟨fun | 190 => 136 | 125 => 152 | 258 => 151 | 128 => 169 | 129 => 170 | 302 => 160 | 303 => 161 | 304 => 162 | 305 => 163 | 306 => 164 | 307 => 165 | 308 => 166 | 309 => 167 | 310 => 168 | 333 => 189 | 329 => 190 | 330 => 191 | 334 => 192 | 335 => 193 | 336 => 194 | 344 => 202 | n => n, fun | 31 => 22 | 9 => 9 | 3 => 3 | 46 => 160 | 0 => 0 | 51 => 180 | 53 => 182 | 4 => 4 | 183 => 172 | 182 => 171 | 131 => 177 | 5 => 5 | 218 => 194 | 222 => 198 | 228 => 205 | 229 => 206 | n => n, fun | n => n⟩
theorem Tryz.lays190 : Go.Proofs.Lays.n190 Tryz.prog Tryz.lays190_ren := {
 mixed := by kernel_rfl
 f125 := Tryz.func152.trans (congrArg some (by kernel_rfl))
 f128 := Tryz.func169.trans (congrArg some (by kernel_rfl))
 f129 := Tryz.func170.trans (congrArg some (by kernel_rfl))
 f190 := Tryz.func136.trans (congrArg some (by kernel_rfl))
 f258 := Tryz.func151.trans (congrArg some (by kernel_rfl))
 f302 := Tryz.func160.trans (congrArg some (by kernel_rfl))
 f303 := Tryz.func161.trans (congrArg some (by kernel_rfl))
 f304 := Tryz.func162.trans (congrArg some (by kernel_rfl))
 f305 := Tryz.func163.trans (congrArg some (by kernel_rfl))
 f306 := Tryz.func164.trans (congrArg some (by kernel_rfl))
 f307 := Tryz.func165.trans (congrArg some (by kernel_rfl))
 f308 := Tryz.func166.trans (congrArg some (by kernel_rfl))
 f309 := Tryz.func167.trans (congrArg some (by kernel_rfl))
 f310 := Tryz.func168.trans (congrArg some (by kernel_rfl))
 f329 := Tryz.func190.trans (congrArg some (by kernel_rfl))
 f330 := Tryz.func191.trans (congrArg some (by kernel_rfl))
 f333 := Tryz.func189.trans (congrArg some (by kernel_rfl))
 f334 := Tryz.func192.trans (congrArg some (by kernel_rfl))
 f335 := Tryz.func193.trans (congrArg some (by kernel_rfl))
 f336 := Tryz.func194.trans (congrArg some (by kernel_rfl))
 f344 := Tryz.func202.trans (congrArg some (by kernel_rfl))
 t0 := Tryz.underlying0
 a0 := Tryz.isAgg0
 z0 := Tryz.sizeOf0
 v0 := Tryz.zeroValue0
 t3 := Tryz.underlying3
 a3 := Tryz.isAgg3
 z3 := Tryz.sizeOf3
 v3 := Tryz.zeroValue3
 t4 := Tryz.underlying4
 a4 := Tryz.isAgg4
 z4 := Tryz.sizeOf4
 v4 := Tryz.zeroValue4
 t5 := Tryz.underlying5
 a5 := Tryz.isAgg5
 z5 := Tryz.sizeOf5
 v5 := Tryz.zeroValue5
 t9 := Tryz.underlying9
 a9 := Tryz.isAgg9
 z9 := Tryz.sizeOf9
 v9 := Tryz.zeroValue9
 t31 := Tryz.underlying22
 a31 := Tryz.isAgg22
 z31 := Tryz.sizeOf22
 v31 := Tryz.zeroValue22
 t46 := Tryz.underlying160
 a46 := Tryz.isAgg160
 z46 := Tryz.sizeOf160
 v46 := Tryz.zeroValue160
 t51 := Tryz.underlying180
 a51 := Tryz.isAgg180
 z51 := Tryz.sizeOf180
 v51 := Tryz.zeroValue180
 t53 := Tryz.underlying182
 a53 := Tryz.isAgg182
 z53 := Tryz.sizeOf182
 v53 := Tryz.zeroValue182
 t131 := Tryz.underlying177
 a131 := Tryz.isAgg177
 z131 := Tryz.sizeOf177
 v131 := Tryz.zeroValue177
 t182 := Tryz.underlying171
 a182 := Tryz.isAgg171
 z182 := Tryz.sizeOf171
 v182 := Tryz.zeroValue171
 t183 := Tryz.underlying172
 a183 := Tryz.isAgg172
 z183 := Tryz.sizeOf172
 v183 := Tryz.zeroValue172
 t218 := Tryz.underlying194
 a218 := Tryz.isAgg194
 z218 := Tryz.sizeOf194
 v218 := Tryz.zeroValue194
 t222 := Tryz.underlying198
 a222 := Tryz.isAgg198
 z222 := Tryz.sizeOf198
 v222 := Tryz.zeroValue198
 t228 := Tryz.underlying205
 a228 := Tryz.isAgg205
 z228 := Tryz.sizeOf205
 v228 := Tryz.zeroValue205
 t229 := Tryz.underlying206
 a229 := Tryz.isAgg206
 z229 := Tryz.sizeOf206
 v229 := Tryz.zeroValue206 }
noncomputable def Tryz.lays194_ren : Go.Shelf.Ren := ⟨fun | 194 => 137 | n => n, fun | 31 => 22 | 9 => 9 | 3 => 3 | 4 => 4 | 0 => 0 | n => n, fun | n => n⟩
theorem Tryz.lays194 : Go.Proofs.Lays.n194 Tryz.prog Tryz.lays194_ren := {
 mixed := by kernel_rfl
 f194 := Tryz.func137.trans (congrArg some (by kernel_rfl))
 t0 := Tryz.underlying0
 a0 := Tryz.isAgg0
 z0 := Tryz.sizeOf0
 v0 := Tryz.zeroValue0
 t3 := Tryz.underlying3
 a3 := Tryz.isAgg3
 z3 := Tryz.sizeOf3
 v3 := Tryz.zeroValue3
 t4 := Tryz.underlying4
 a4 := Tryz.isAgg4
 z4 := Tryz.sizeOf4
 v4 := Tryz.zeroValue4
 t9 := Tryz.underlying9
 a9 := Tryz.isAgg9
 z9 := Tryz.sizeOf9
 v9 := Tryz.zeroValue9
 t31 := Tryz.underlying22
 a31 := Tryz.isAgg22
 z31 := Tryz.sizeOf22
 v31 := Tryz.zeroValue22 }
noncomputable def Tryz.lc87_ren : Go.Shelf.Ren := ⟨fun | 41 => 87 | n => n, fun | 22 => 22 | 23 => 9 | 4 => 4 | n => n, fun | n => n⟩
theorem Tryz.lc87 : Go.Proofs.SlLaysE0.n41 Tryz.prog Tryz.lc87_ren := {
 mixed := by kernel_rfl
 f41 := ⟨Tryz.f87.name, by decide, Tryz.func87.trans (congrArg some (by kernel_rfl))⟩
 t4 := Tryz.underlying4
 a4 := Tryz.isAgg4
 z4 := Tryz.sizeOf4
 v4 := Tryz.zeroValue4
 t22 := Tryz.underlying22
 a22 := Tryz.isAgg22
 z22 := Tryz.sizeOf22
 v22 := Tryz.zeroValue22 }
noncomputable def Tryz.lc89_ren : Go.Shelf.Ren := ⟨fun | 41 => 89 | n => n, fun | 22 => 29 | 23 => 31 | 4 => 4 | n => n, fun | n => n⟩
theorem Tryz.lc89 : Go.Proofs.SlLaysE0.n41 Tryz.prog Tryz.lc89_ren := {
 mixed := by kernel_rfl
 f41 := ⟨Tryz.f89.name, by decide, Tryz.func89.trans (congrArg some (by kernel_rfl))⟩
 t4 := Tryz.underlying4
 a4 := Tryz.isAgg4
 z4 := Tryz.sizeOf4
 v4 := Tryz.zeroValue4
 t22 := Tryz.underlying29
 a22 := Tryz.isAgg29
 z22 := Tryz.sizeOf29
 v22 := Tryz.zeroValue29 }
noncomputable def Tryz.lc90_ren : Go.Shelf.Ren := ⟨fun | 41 => 90 | n => n, fun | 22 => 27 | 23 => 33 | 4 => 4 | n => n, fun | n => n⟩
theorem Tryz.lc90 : Go.Proofs.SlLaysE0.n41 Tryz.prog Tryz.lc90_ren := {
 mixed := by kernel_rfl
 f41 := ⟨Tryz.f90.name, by decide, Tryz.func90.trans (congrArg some (by kernel_rfl))⟩
 t4 := Tryz.underlying4
 a4 := Tryz.isAgg4
 z4 := Tryz.sizeOf4
 v4 := Tryz.zeroValue4
 t22 := Tryz.underlying27
 a22 := Tryz.isAgg27
 z22 := Tryz.sizeOf27
 v22 := Tryz.zeroValue27 }
end Go.Proofs
namespace Go.Proofs.YtgldgpdhblndkaaGreatDoor
open Go
set_option linter.unusedVariables false
set_option maxRecDepth 100000
theorem qxp:qkk Pg 87 9:=qxM Tryz.lc87 rfl rfl (by kernel_rfl) Tryz.call87
theorem qpJ {l r:List Str} (h:qja l = some r):CC Pg GE 87 [sl cS l] (sl cS r) [(0,9)]:=sT22.cloneCC qxp h
theorem qHL:qkk Pg 89 31:=qxM Tryz.lc89 rfl rfl (by kernel_rfl) Tryz.call89
theorem qGH {l r:List tPred} (h:qja l = some r):CC Pg GE 89 [sl qaa l] (sl qaa r) [(0,31)]:=sT29.cloneCC qHL h
theorem qDm:qkk Pg 90 33:=qxM Tryz.lc90 rfl rfl (by kernel_rfl) Tryz.call90
theorem qGz {l r:List tType} (h:qja l = some r):CC Pg GE 90 [sl qac l] (sl qac r) [(0,33)]:=sT27.cloneCC qDm h
abbrev asd (GE:List (Nat×List PVal)) (Γ:qaX) (w:World):Ent:=⟨GE,Γ,w,fun _ => False⟩
structure Base (GE:List (Nat×List PVal)) (Γ:qaX) (w:World):Prop where
 wi:∀ b n,Γ b = some n→∃ c t fr,w.heap[b]? = some (.cells c t fr)∧n ≤ c.size
 gl:∀ g cs,(g,cs) ∈ GE→VR Γ [] w (.eptr cs) (.pointer (some ⟨g,0,none⟩))
 gc:∀ g cs,(g,cs) ∈ GE→clL 0 cs
 gx:∀ g cs,(g,cs) ∈ GE→g < w.heap.size∧∃ c t fr,w.heap[g]? = some (.cells c t fr)∧c.size = cs.length
theorem VR.clo {Γ:qaX} {bs bs':qbp} {w:World} {p:PVal} {v:Value} (h:VR Γ bs w p v) (hc:p.cl 0):VR Γ bs' w p v:=h.restrict (n:=0) hc fun i b hi _ => absurd hi (vaR _)
section
variable {P:Program} {E:Ent} {Γ:qaX} {bs:qbp} {ow:Nat→Option Loc} {w:World} {a:Array Value} {st:PSt}
theorem SR.base (h:SR P E Γ bs ow w a st):Base E.GE Γ w where
 wi:=h.wi
 gl:=fun g cs hg => (h.gl g cs hg).clo (by simp only [PVal.cl]; exact h.gc g cs hg)
 gc:=h.gc
 gx:=fun g cs hg => ⟨(h.gnow hg).1,(h.gnow hg).2.2.2⟩
theorem Base.good {GE:List (Nat×List PVal)} (hB:Base GE Γ w):EGood GE 0 (asd GE Γ w) where
 ge:=rfl
 low:=fun b n h => by obtain ⟨c,t,fr,h1,_⟩:=hB.wi b n h; exact (var.1 h1).1
 nt:=fun _ _ hb => hb
 gl:=hB.gl
theorem Base.fresh {GE:List (Nat×List PVal)} (hB:Base GE Γ w) (k:Nat) {tmps:List PVal} (hs:a.size = tmps.length) (hv:∀ (t:Nat) p v,tmps[t]? = some p→a[t]? = some v→VR Γ [] w p v) :
  SR P (asd GE Γ w) Γ (List.replicate k none) (fun _ => none) w a ⟨tmps,List.replicate k .dead,[]⟩:=by
 have hno:∀ (i b:Nat),(List.replicate k (none:Option Nat))[i]? = some (some b)→False:=fun i b h => by
  rw [vaW] at h
  split at h <;> simp at h
 exact {
  wi:=hB.wi
  sz:=hs
  tm:=fun t p v hp hv' => (hv t p v hp hv').mono (.refl _ _) (fun i b h => by simp at h)
  bl:=by simp
  bx:=fun i b B hb => (hno i b hb).elim
  inj:=fun i j b hb => (hno i b hb).elim
  bn:=fun i b hb => (hno i b hb).elim
  on:=fun b L hL => by cases hL
  ot:=fun t k e he => by simp at he
  ob:=fun i j e cs own b _ _ hb => (hno i b hb).elim
  gl:=fun g cs hg => (hB.gl g cs hg).mono (.refl _ _) (fun i b h => by simp at h)
  gc:=hB.gc
  gx:=fun g cs hg => ⟨(hB.gx g cs hg).1,fun h => h,(hB.gx g cs hg).2⟩
  step := .refl _ _ _ _ }
theorem SR.again (h:SR P E Γ bs ow w a st) (hc:clL 0 st.tmps) {GE:List (Nat×List PVal)} {Γ':qaX} {w':World} (hB:Base GE Γ' w') (hle:Γ.Le w Γ' w') (k:Nat) :
  SR P (asd GE Γ' w') Γ' (List.replicate k none) (fun _ => none) w' a ⟨st.tmps,List.replicate k .dead,[]⟩ :=
 hB.fresh k h.sz fun t p v hp hv => ((h.tm t p v hp hv).clo (qkK hc hp)).mono hle (.refl _)
theorem SR.aside (h:SR P E Γ bs ow w a st) {GE:List (Nat×List PVal)} {Γ':qaX} {bs':qbp} {ow':Nat→Option Loc} {w':World} {a':Array Value} {st':PSt} (h':SR P (asd GE Γ w) Γ' bs' ow' w' a' st'):SR P E Γ' bs ow w' a st :=
 h.world (fun _ => False) h'.step.le h'.wi h'.step.os h'.step.tape h'.step.output h'.step.size (fun b hb _ => h'.step.keep b hb id) (fun _ hx => hx.elim) (fun _ _ _ hx => hx) (fun _ _ _ hx => hx)
theorem SR.putOther (h:SR P E Γ bs ow w a st) {l:Nat} {o:Obj} (hT:¬ qbi bs ow l) (hE:E.T l∨E.w.heap.size ≤ l) (ho:∀ c t fr,w.heap[l]? ≠ some (.cells c t fr)):SR P E Γ bs ow (w.putObj l o) a st∧Γ.Le w Γ (w.putObj l o):=by
 have hg:∀ b n,Γ b = some n→b ≠ l:=fun b n hb e => by
  obtain ⟨c,t,fr,h1,_⟩:=h.wi b n hb
  exact ho c t fr (e ▸ h1)
 have hle:Γ.Le w Γ (w.putObj l o):=fun b n hb _ => ⟨n,hb,vak _,fun k _ => qa2 (World.putObj_heap_other (hg b n hb)) k⟩
 refine ⟨h.world (fun b => b = l) hle (fun b n hb => ?_) rfl rfl rfl (by simp) (fun b _ hb => ⟨World.putObj_heap_other hb,rfl⟩) (fun b hb => hb ▸ hE) (fun i b hb e => hT (.inl ⟨i,e ▸ hb⟩)) (fun b L hL e => hT (.inr (by rw [← e,hL]; simp))),hle⟩
 obtain ⟨c,t,fr,h1,h2⟩:=h.wi b n hb
 exact ⟨c,t,fr,(World.putObj_heap_other (hg b n hb)).trans h1,h2⟩
theorem SR.rebase (h:SR P E Γ bs ow w a st):SR P ⟨E.GE,Γ,w,qbi bs ow⟩ Γ bs ow w a st :=
 { h with
  bn:=fun i b hb => .inl (.inl ⟨i,hb⟩)
  on:=fun b L hL => ⟨(h.on b L hL).1,.inl (.inr (by rw [hL]; simp))⟩
  gx:=fun g cs hg => by
   obtain ⟨k1,k2,k3,k4⟩:=h.gnow hg
   refine ⟨k1,fun hT => ?_,k4⟩
   rcases hT with ⟨i,hi⟩ | hT
   ·exact k2 i g hi rfl
   ·exact hT k3
  step := .refl _ _ _ _ }
theorem SR.touchE (h:SR P E Γ bs ow w a st) {b:Nat} (hb:qbi bs ow b):E.T b∨E.w.heap.size ≤ b:=by
 rcases hb with ⟨i,hi⟩ | hb
 ·exact h.bn i b hi
 ·cases hL:ow b with
  | none => exact absurd hL hb
  | some L => exact (h.on b L hL).2
theorem SR.unbase (h:SR P E Γ bs ow w a st) {Γ':qaX} {bs':qbp} {ow':Nat→Option Loc} {w':World} {a':Array Value} {st':PSt} (h':SR P ⟨E.GE,Γ,w,qbi bs ow⟩ Γ' bs' ow' w' a' st'):SR P E Γ' bs' ow' w' a' st':=by
 have hT:∀ b,qbi bs ow b∨w.heap.size ≤ b→E.T b∨E.w.heap.size ≤ b:=fun b hb => hb.elim h.touchE fun hb => .inr (vaQ h.step.size hb)
 exact { h' with
  bn:=fun i b hb => hT b (h'.bn i b hb)
  on:=fun b L hL => ⟨(h'.on b L hL).1,hT b (h'.on b L hL).2⟩
  gx:=h.gx
  step:={
   os:=h'.step.os.trans h.step.os
   tape:=h'.step.tape.trans h.step.tape
   output:=h'.step.output.trans h.step.output
   size:=vaQ h.step.size h'.step.size
   keep:=fun b hb hTb => by
    have hlt:b < w.heap.size:=vaG hb h.step.size
    have hn:¬ qbi bs ow b:=fun hx => (h.touchE hx).elim hTb fun hx => absurd hx (vcm.2 hb)
    obtain ⟨k1,k2⟩:=h'.step.keep b hlt hn
    obtain ⟨q1,q2⟩:=h.step.keep b hb hTb
    exact ⟨k1.trans q1,k2.trans q2⟩
   le:=h.step.le.trans h'.step.le } }
theorem Sat.on {m:Nat} {c:Code} {Q:Exit→PSt→Prop} (hS:Sat P E.GE m c Q st) (hm:m ≠ 0) (h:SR P E Γ bs ow w a st) (hl:m % 1000 ≤ bs.length) (ro:Option Nat) (ds:List Deferred) :
  cwp ro P c (fun e a' w' => a'.defers = ds∧∃ Γ' bs' ow' st',SR P E Γ' bs' ow' w' a'.tmps st'∧Q e st'∧(∀ i:Nat,i < m % 1000→bs'[i]? = bs[i]?)∧Γ.Le w Γ' w'∧w.heap.size ≤ w'.heap.size ∧
   ∀ b,b < w.heap.size→¬ qbi bs ow b→w'.heap[b]? = w.heap[b]?∧¬ qbi bs' ow' b) ⟨a,ds⟩ w:=by
 have hE:EGood E.GE m ⟨E.GE,Γ,w,qbi bs ow⟩:={
  ge:=rfl
  low:=fun b n hb => h.lt_of_ghost hb
  nt:=fun h0 => absurd h0 hm
  gl:=h.base.gl }
 have hlen:(bs.take (m % 1000)).length = m % 1000:=by simp; omega
 refine qla (hS ro ⟨E.GE,Γ,w,qbi bs ow⟩ (bs.take (m % 1000)) ⟨a,ds⟩ w hE hlen ⟨Γ,bs,ow,h.rebase,fun i hi => ?_⟩) fun e a' w' hq => ?_
 ·rw [vap (by omega)]
 obtain ⟨hd,st',⟨Γ',bs',ow',h',hk⟩,hQ⟩:=hq
 refine ⟨hd,Γ',bs',ow',st',h.unbase h',hQ,fun i hi => ?_,h'.step.le,h'.step.size,fun b hb hT => ⟨(h'.step.keep b hb hT).1,fun hx => ?_⟩⟩
 ·rw [hk i (by omega),vap hi]
 ·exact (h'.touchE hx).elim hT fun hx => absurd hx (vcm.2 hb)
theorem Sat.wide {GE:List (Nat×List PVal)} {c:Code} {Q:Exit→PSt→Prop} {st0:PSt} (hS:Sat P GE 0 c Q st0) (hB:Base GE Γ w) {ow:Nat→Option Loc} {bs:qbp} (h:SR P (asd GE Γ w) Γ bs ow w a st0) (n:Nat) (ds:List Deferred) :
  c.wpIn Fence.wide n P (fun e a' w' => a'.defers = ds∧∃ Γ' bs' ow' st',SR P (asd GE Γ w) Γ' bs' ow' w' a'.tmps st'∧Q e st') ⟨a,ds⟩ w :=
 wpIn_wide.2 (wp_mono (hS none (asd GE Γ w) [] ⟨a,ds⟩ w hB.good rfl ⟨Γ,bs,ow,h,fun i hi => absurd hi (vaR _)⟩) fun e a' w' hq => by
  obtain ⟨hd,st',⟨Γ',bs',ow',h',_⟩,hQ⟩:=hq
  exact ⟨hd,Γ',bs',ow',st',h',hQ⟩)
theorem Sat.wideE {GE:List (Nat×List PVal)} {c:Code} {Q:Exit→PSt→Prop} (hS:Sat P GE 0 c Q st) (hE:EGood GE 0 E) (h:SR P E Γ bs ow w a st) (n:Nat) (ds:List Deferred) :
  c.wpIn Fence.wide n P (fun e a' w' => a'.defers = ds∧∃ Γ' bs' ow' st',SR P E Γ' bs' ow' w' a'.tmps st'∧Q e st') ⟨a,ds⟩ w :=
 wpIn_wide.2 (wp_mono (hS none E [] ⟨a,ds⟩ w hE rfl ⟨Γ,bs,ow,h,fun i hi => absurd hi (vaR _)⟩) fun e a' w' hq => by
  obtain ⟨hd,st',⟨Γ',bs',ow',h',_⟩,hQ⟩:=hq
  exact ⟨hd,Γ',bs',ow',st',h',hQ⟩)
theorem SR.allocO (h:SR P E Γ bs ow w a st) (o:Obj):SR P E Γ bs ow (w.alloc o) a st∧Γ.Le w Γ (w.alloc o):=by
 have hlt:∀ b n,Γ b = some n→b < w.heap.size:=fun b n hb => h.lt_of_ghost hb
 have hle:Γ.Le w Γ (w.alloc o):=fun b n hb _ => ⟨n,hb,vak _,fun k _ => qa2 (qcC w o (hlt b n hb)) k⟩
 refine ⟨h.world (fun _ => False) hle (fun b n hb => ?_) rfl rfl rfl (by simp [World.size_alloc]) (fun b hb _ => ⟨qcC w o hb,rfl⟩) (fun _ hx => hx.elim) (fun _ _ _ hx => hx) (fun _ _ _ hx => hx),hle⟩
 obtain ⟨c,t,fr,h1,h2⟩:=h.wi b n hb
 exact ⟨c,t,fr,(qcC w o (hlt b n hb)).trans h1,h2⟩
theorem SR.forgetT (h:SR P E Γ bs ow w a st) {tm:List PVal} (hf:fgT st.tmps tm = tm):SR P E Γ bs ow w a { st with tmps:=tm } :=
 { h with
  sz:=by rw [h.sz,← qEs (l:=st.tmps) (bs:=tm),hf]
  tm:=fun t p v hp hv => by
   rw [← hf] at hp
   rcases qDH hp with rfl | hp'
   ·exact .undef v
   ·exact h.tm t p v hp' hv }
theorem SR.back (h:SR P E Γ bs ow w a st) (ho:st.own = []) {Γ':qaX} {bs':qbp} {ow':Nat→Option Loc} {w':World} {a':Array Value} {st':PSt} {H':List PBox} (h':SR P E Γ' bs' ow' w' a' st') (hle:Γ.Le w Γ' w')
  (hbs:∀ i:Nat,i < bs.length→bs'[i]? = bs[i]?) (hH:qbN H'.length st'.boxes H') (hl:H'.length = bs.length) :
  ∃ ow'',SR P E Γ' bs ow'' w' a { st with boxes:=H' }∧∀ b,qbi bs ow'' b→qbi bs' ow' b:=by
 have hf:=h'.finish (H':=H') (v:=undef) (r := .undef) (src:=fun k => (0,k)) (ro:=[]) (.undef _) trivial hH (fun x hx => by simp at hx) (fun x hx => by simp at hx)
 have hb:bs'.take H'.length = bs:=by
  obtain ⟨h1,_⟩:=qgQ hH
  have h2:H'.length ≤ bs'.length:=by rw [h'.bl]; exact h1
  refine vbj fun i => ?_
  by_cases hi:i < H'.length
  ·rw [vap hi]; exact hbs i (by omega)
  ·rw [vcd (by omega),vaB (by omega)]
 rw [hb] at hf
 refine ⟨_,{ hf with
  sz:=h.sz
  tm:=fun t p v hp hv => (h.tm t p v hp hv).mono hle (.refl _)
  ot:=fun t k e he => by simp only [ho] at he; simp at he },fun b hb => ?_⟩
 rcases hb with ⟨i,hi⟩ | hb
 ·exact .inl ⟨i,(hbs i (qag hi)).trans hi⟩
 ·refine .inr fun e => hb ?_
  simp [qyR,e]
end
section
variable {P:Program} {n:Nat} {a:Act} {w:World} {next:Act→World→Prop} {Q:Exit→Act→World→Prop}
theorem qHp {o:Oper} (hd:qdA o = true) (h:o.wp P a w next Q):o.wpIn Fence.wide n P a w next Q:=by
 refine ⟨fun _ _ => trivial,?_⟩
 have hs:o.semAt (Fence.wide).round a.eval = execOp a.eval o:=Oper.semAt_eq _ _ _ fun c hc => by unfold qdA at hd; rw [hc] at hd; cases hd
 rw [hs]
 unfold Oper.wp at h
 generalize (execOp a.eval o).run P w = r at *
 have hdep:(Fence.wide).depth.isSome = true→1 ≤ n:=fun h => by simp [Fence.wide] at h
 cases r with
 | ok x w' =>
  cases x <;> simp only [Oper.upon] at h <;> simp only [Oper.uponIn] <;> first
   | exact h.elim
   | exact h
   | exact ⟨hdep,callsIn_wide.2 h⟩
   | exact ⟨hdep,fun c cs _ => by
     obtain ⟨v,w',r,s⟩:=h c cs
     exact ⟨v,w',r,stepsIn_wide.2 s⟩⟩
 | halt x w' => cases x <;> simp only [Oper.upon] at h <;> simp only [Oper.uponIn] <;> exact h
theorem qG4 {o:Oper} {f:Operand} {args:Array Operand} {tys:Array TypeId} (ho:o.op = .call { callee := .value f,args:=args,argTypes:=tys }) {g:FuncId} {fs cs:Array Value} (hf:a.eval f = .func (.func g) fs cs)
  (hc:∀ vs w,(callFunc g vs).run P w = .ok (.enter g vs) w) {R:Ending→World→Prop} (h:CallsIn Fence.wide (n - 1) P g (fs ++ args.map a.eval ++ cs) w R) (hR:∀ e w',R e w'→∃ v,e = .returned v∧next (a.put o.dst v) w'):o.wpIn Fence.wide n P a w next Q:=by
 refine ⟨fun _ _ => trivial,?_⟩
 have hs:o.semAt (Fence.wide).round a.eval = execOp a.eval o:=Oper.semAt_eq _ _ _ fun c hc => by rw [ho] at hc; cases hc
 have hrun:(execOp a.eval o).run P w = .ok (.enter g (fs ++ args.map a.eval ++ cs)) w:=by
  simp [execOp,ho,resolve,hf,Deferred.ofValue,invoke,hc]
 rw [hs,hrun,Oper.uponIn_enter]
 refine ⟨fun h => by simp [Fence.wide] at h,h.mono fun e w' hr => ?_⟩
 obtain ⟨v,rfl,hx⟩:=hR e w' hr
 exact hx
theorem qGk {o:Oper} {f:Operand} {args:Array Operand} {tys:Array TypeId} (ho:o.op = .call { callee := .value f,args:=args,argTypes:=tys }) {l:Nat} (hf:a.eval f = .func (.yield l) #[] #[])
  {R:Ending→World→Prop} (h:YieldAt Fence.wide (n - 1) P l (args.map a.eval) w R) (hR:∀ e w',R e w'→∃ v,e = .returned v∧next (a.put o.dst v) w'):o.wpIn Fence.wide n P a w next Q:=by
 refine ⟨fun _ _ => trivial,?_⟩
 have hs:o.semAt (Fence.wide).round a.eval = execOp a.eval o:=Oper.semAt_eq _ _ _ fun c hc => by rw [ho] at hc; cases hc
 obtain ⟨fn,tmps,assign,body,hy,hr⟩:=h
 have hrun:(execOp a.eval o).run P w = .ok (.round l fn tmps assign body) w:=by
  simp [execOp,ho,resolve,hf,Deferred.ofValue,invoke,hy]
 rw [hs,hrun,Oper.uponIn_round]
 refine ⟨fun h => by simp [Fence.wide] at h,hr.mono fun e w' hr => ?_⟩
 obtain ⟨v,rfl,hx⟩:=hR e w' hr
 exact hx
theorem quA {ops:Array Oper} {i:Nat} {rest:List Nat} {o:Oper} (ho:ops[i]? = some o) (hg:o.guard = none) (h:o.wpIn Fence.wide n P a w (wpOpsIn Fence.wide n P ops Q rest) Q):wpOpsIn Fence.wide n P ops Q (i :: rest) a w:=by
 unfold wpOpsIn
 simp only [ho,Region.wanted,hg,if_true]
 exact h
theorem qs5 {E:Ent} {A:List Nat} {ops:Array Oper} {K:PSt→Prop} {rest:List Nat} {ds:List Deferred}
  (hK:∀ Γ bs ow a w st,SR P E Γ bs ow w a st→K st→wpOpsIn Fence.wide n P ops Q rest ⟨a,ds⟩ w) :
  ∀ (L:List Oper) (is:List Nat) (Γ:qaX) (bs:qbp) (ow:Nat→Option Loc) (a:Array Value) (w:World) (st:PSt),is.map (fun i => ops[i]?) = L.map some →
   (∀ o ∈ L,o.guard = none∧qdA o = true∧qan o.op = false)→SR P E Γ bs ow w a st→qbR P E.GE A ops K L 0 st→wpOpsIn Fence.wide n P ops Q (is ++ rest) ⟨a,ds⟩ w
 | [],[],Γ,bs,ow,a,w,st,_,_,h,hp => hK Γ bs ow a w st h hp
 | o :: L,i :: is,Γ,bs,ow,a,w,st,hi,hg,h,hp => by
  obtain ⟨g1,g2,g3⟩:=hg o (by simp)
  unfold qbR at hp
  simp only [g1] at hp
  simp only [vax,vbD] at hi
  refine quA hi.1 g1 (qHp g2 (Oper.wp_mono (fun a' w' hA => ?_) (qvx (a:=⟨a,ds⟩) h (fun hm => by rw [g3] at hm; cases hm) hp Q)))
  obtain ⟨hd,Γ',bs',ow',st',h1,h2,_⟩:=hA
  obtain ⟨a1,ds1⟩:=a'
  simp only at hd h1
  subst hd
  refine qs5 (A:=A) hK L is Γ' bs' ow' a1 w' st' hi.2 (fun o ho => hg o (vaZ _ ho)) h1 ?_
  rw [g3] at h2
  exact h2
end
def opsA:Code→Array Oper
 | .region _ ops _ => ops
 | _ => #[]
def idA:Code→Nat
 | .region id _ _ => id
 | _ => 0
def opA (c:Code) (i:Nat):Oper:=(opsA c)[i]?.getD default
def tysA (o:Oper):Array TypeId:=match o.op with
 | .call c => c.argTypes
 | _ => #[]
def qCi (o:Oper):Bool:=o.guard.isNone && qdA o && !qan o.op
theorem qxR {L:List Oper} (h:L.all qCi = true):∀ o ∈ L,o.guard = none∧qdA o = true∧qan o.op = false:=fun o ho => by
 have:=vav.1 h o ho
 simpa [qCi,and_assoc] using this
theorem qjT {P:Program} {GE:List (Nat×List PVal)} {A:List Nat} {ops:Array Oper} {K K':PSt→Prop} (hK:∀ st,K st→K' st):∀ (L:List Oper) (id:Nat) (st:PSt),qbR P GE A ops K L id st→qbR P GE A ops K' L id st
 | [],_,st,h => hK st h
 | o :: L,id,st,h => by
  unfold qbR at h ⊢
  split at h
  ·exact qrL (fun st hx => qjT hK L _ st hx) h
  ·split at h
   ·exact ⟨fun hx => qrL (fun st hx => qjT hK L _ st hx) (h.1 hx),fun hx => qjT hK L _ _ (h.2 hx)⟩
   ·exact h
theorem fzW {P:Program} {m:Nat} {sc:List It} {F:Prop} {st st0:PSt} (h:PS sc F) (he:F = fzK m sc st (fun _ st' => FG st' st0)):Weak P m st st0:=by
 obtain ⟨_,st',hw,hf⟩:=qFk (P:=P) (Eq.mp he h)
 exact hw.trans hf.weak
theorem Sat.thenW {P:Program} {GE:List (Nat×List PVal)} {m:Nat} {c:Code} {e:Exit} {st0 st1 st2:PSt} (h:Sat P GE m c (EX e st1) st0) (hw:Weak P m st1 st2):Sat P GE m c (EX e st2) st0 :=
 h.mono fun e' st' hx => ⟨st2,hx.2 ▸ hw,hx.1,rfl⟩
theorem qxA {P:Program} {GE:List (Nat×List PVal)} {A:List Nat} {ops:Array Oper} {L:List Oper} {st st0:PSt} {sc:List It} {F:Prop} (h:PS sc F) (he:F = qEi P GE A ops (fun _ st => FG st st0) L 0 0 sc st):qbR P GE A ops (fun st => FG st st0) L 0 st :=
 qjT (fun st ⟨_,hx⟩ => hx) L 0 st (qpY L 0 0 sc st (Eq.mp he h))
theorem FG.sr {P:Program} {E:Ent} {Γ:qaX} {bs:qbp} {ow:Nat→Option Loc} {w:World} {a:Array Value} {st st0:PSt} (h:SR P E Γ bs ow w a st) (hf:FG st st0):∃ Γ' bs' ow',SR P E Γ' bs' ow' w a st0:=by
 obtain ⟨Γ',bs',ow',h',_⟩:=(hf.weak (P:=P) (m:=0)) E [] ⟨a,[]⟩ w rfl ⟨Γ,bs,ow,h,fun i hi => absurd hi (vaR _)⟩
 exact ⟨Γ',bs',ow',h'⟩
structure Yd (P:Program) (GE:List (Nat×List PVal)) (l:Nat) {S α:Type} (c:α→List PVal) (step:S→α→Option (Bool×S)) (J:Bool→S→qaX→World→Prop):Prop where
 base:∀ b s Γ w,J b s Γ w→Base GE Γ w
 side:∀ b s Γ w,J b s Γ w→∀ Γ' bs' ow' w' a' st',SR P (asd GE Γ w) Γ' bs' ow' w' a' st'→J b s Γ' w'
 yield:∀ s Γ w x v n r,J true s Γ w→VR Γ [] w (.agg (c x)) v→step s x = some r→YieldAt Fence.wide n P l #[v] w fun e w' => ∃ Γ',e = .returned (.bool r.1)∧Γ.Le w Γ' w'∧J r.1 r.2 Γ' w'
section
variable {S:Type} (step:S→tPred→Option (Bool×S))
mutual
def visP:tPred→S→Option (Bool×S)
 | ⟨o,n,k,ks⟩,s => (step s ⟨o,n,k,ks⟩).bind fun r => match r.1 with
  | false => some (false,r.2)
  | true => if ks.length < 4611686018427387904 then visL ks r.2 else none
def visL:List tPred→S→Option (Bool×S)
 | [],s => some (true,s)
 | p :: ps,s => (visP p s).bind fun r => match r.1 with
  | false => some (false,r.2)
  | true => visL ps r.2
end
theorem qK7 (p:tPred) (s:S):visP step p s = (step s p).bind fun r => match r.1 with
  | false => some (false,r.2)
  | true => if p.Kids.length < 4611686018427387904 then visL step p.Kids r.2 else none:=by
 obtain ⟨o,n,k,ks⟩:=p
 rw [visP]; rfl
end
abbrev fV:Nat:=150
noncomputable def bV:Code:=Tryz.f150.body.getD .skip
abbrev vR0:Code:=qed bV [false]
abbrev vR1:Code:=qed bV [true,false,false]
abbrev vR2:Code:=qed bV [true,false,true,false,false]
abbrev vR3:Code:=qed bV [true,true,false,false]
abbrev vL:Code:=qed bV [true,true,false,true,false,false]
abbrev vR4:Code:=qed bV [true,true,false,true,false,false,false]
abbrev vR5:Code:=qed bV [true,true,false,true,false,false,true,true,false,false,false]
abbrev vR6:Code:=qed bV [true,true,false,true,false,false,true,true,false,false,true,false]
abbrev vR7:Code:=qed bV [true,true,false,true,false,false,true,true,false,false,true,true,false,false]
abbrev vR8:Code:=qed bV [true,true,false,true,false,false,true,true,true]
abbrev vR9:Code:=qed bV [true,true,true,false]
theorem qMF:bV = .seq vR0 (.seq (.seq vR1 (.cond (.tmp 10) (.seq vR2 .ret) .skip)) (.seq (.seq vR3 (.block 0 (.loop vL))) (.seq vR9 .ret))):=by kernel_rfl
theorem qMC:vL = .seq vR4 (.seq (.cond (.tmp 15) .skip (.exit 0)) (.seq (.block 1 (.seq vR5 (.seq vR6 (.cond (.tmp 21) (.seq vR7 .ret) .skip)))) vR8)):=by kernel_rfl
abbrev yv (l:Nat):PVal := .val (.func (.yield l) #[] #[])
abbrev xpr (p:tPred):List PVal:=[.int .i64 p.Op,.str p.Name,.int .i64 p.N,sl qaa p.Kids]
theorem clx (p:tPred):clL 0 (xpr p):=by have:=qab p; rwa [qao] at this
abbrev vS1 (p:tPred) (l:Nat):PSt:=stt 23 [(1,yv l),(2,.eptr (qaa p))] [.dead] []
abbrev vS3 (l:Nat) (ks:List tPred) (i:Int):PSt:=stt 23 [(1,yv l),(12,sl qaa ks),(13,.int .i64 (ks.length:Int)),(14,.int .i64 i)] [.dead] []
abbrev vS5 (l:Nat) (ks:List tPred) (i:Int) (x:tPred):PSt:=stt 23 [(1,yv l),(6,.eptr (qaa x)),(12,sl qaa ks),(13,.int .i64 (ks.length:Int)),(14,.int .i64 i)] [.dead,.dead] []
theorem v_0 (p:tPred) (l:Nat):Sat Pg GE 0 vR0 (EX .normal (vS1 p l)) (stt 23 [(0,.agg (qaa p)),(1,yv l)] [] []):=by
 have z:=sx (qaB p) <| eF .normal (stt 23 [(1,yv l),(2,.bptr 0 0)] [.cells (xpr p) []] [])
 have h1:Sat Pg GE 0 vR0 (EX .normal (stt 23 [(1,yv l),(2,.bptr 0 0)] [.cells (xpr p) []] [])) (stt 23 [(0,.agg (qaa p)),(1,yv l)] [] []):=qjE (A:=[]) mixed z (by kernel_rfl)
 have z2:=sfz 0 [xpr p] [1,2] [] (fb1 (m:=0) (b:=0) rfl (xpr p) rfl) (fb2 0 (clx p)) (fb3 (l:=xpr p) (r:=xpr p) rfl) <| en (fr (stt 23 [(1,yv l),(2,.eptr (xpr p))] [.dead] []))
 have h2:=h1.thenW (st2:=stt 23 [(1,yv l),(2,.eptr (xpr p))] [.dead] []) (fzW z2 (by kernel_rfl))
 unfold vS1
 rw [qao]
 rw [qao] at h2
 exact h2
theorem v_1 (p:tPred) (l:Nat):qbR Pg GE [] (opsA vR1) (fun st => FG st (stt 23 [(1,yv l),(2,.eptr (qaa p)),(7,yv l),(8,.agg (qaa p))] [.dead] [])) ((opsA vR1).toList.take 2) 0 (vS1 p l):=by
 have z:=sv (qaj p) <| en (fr (stt 23 [(1,yv l),(2,.eptr (qaa p)),(7,yv l),(8,.agg (qaa p))] [.dead] []))
 exact qxA z (by kernel_rfl)
theorem v_1b (p:tPred) (l:Nat) (b:Bool):qbR Pg GE [] (opsA vR1) (fun st => FG st (stt 23 [(1,yv l),(2,.eptr (qaa p)),(10,.bool (!b))] [.dead] [])) ((opsA vR1).toList.drop 3) 0 (stt 23 [(1,yv l),(2,.eptr (qaa p)),(7,yv l),(8,.agg (qaa p)),(9,.bool b)] [.dead] []):=by
 have z:=en (fr (stt 23 [(1,yv l),(2,.eptr (qaa p)),(10,.bool (!b))] [.dead] []))
 exact qxA z (by kernel_rfl)
abbrev vE (H:List PBox) (b:Bool):PSt:=stt 23 [(4,.bool b)] H []
theorem v_2 (p:tPred) (l:Nat):Sat Pg GE 0 (.seq vR2 .ret) (EX .ret (vE [.dead] false)) (stt 23 [(1,yv l),(2,.eptr (qaa p)),(10,.bool true)] [.dead] []):=by
 have z:=eF .ret (vE [.dead] false)
 exact qjE (A:=[]) mixed z (by kernel_rfl)
theorem v_3 (p:tPred) (l:Nat):Sat Pg GE 0 vR3 (EX .normal (vS3 l p.Kids 0)) (stt 23 [(1,yv l),(2,.eptr (qaa p)),(10,.bool false)] [.dead] []):=by
 have z:=sv (qat p) <| sv (qav p) <| svn (sT29.ln p.Kids) <| eF .normal (vS3 l p.Kids 0)
 exact qjE (A:=[]) mixed z (by kernel_rfl)
abbrev vS4 (l:Nat) (ks:List tPred) (i:Int):PSt:=stt 23 [(1,yv l),(12,sl qaa ks),(13,.int .i64 (ks.length:Int)),(14,.int .i64 i),(15,.bool (decide (i < (ks.length:Int))))] [.dead] []
theorem v_4 (l:Nat) (ks:List tPred) (i:Int):Sat Pg GE 0 vR4 (EX .normal (vS4 l ks i)) (vS3 l ks i):=by
 have z:=eF .normal (vS4 l ks i)
 exact qjE (A:=[]) mixed z (by kernel_rfl)
theorem v_5 (l:Nat) (ks:List tPred) (i:Int) (x:tPred) (hx:idx ks i = some x):Sat Pg GE 0 vR5 (EX .normal (vS5 l ks i x)) (vS4 l ks i):=by
 have z:=sv (sT29.ia (k := .i64) hx) <| sv (qaj x) <| sx pz31 <| sx (qaB x) <| eF .normal (stt 23 [(1,yv l),(6,.bptr 1 0),(12,sl qaa ks),(13,.int .i64 (ks.length:Int)),(14,.int .i64 i)] [.dead,.cells (xpr x) []] [])
 have h1:Sat Pg GE 0 vR5 (EX .normal (stt 23 [(1,yv l),(6,.bptr 1 0),(12,sl qaa ks),(13,.int .i64 (ks.length:Int)),(14,.int .i64 i)] [.dead,.cells (xpr x) []] [])) (vS4 l ks i):=qjE (A:=[]) mixed z (by kernel_rfl)
 have z2:=sfz 1 [xpr x] [1,6,12,13,14] [] (fb1 (m:=0) (b:=1) rfl (xpr x) rfl) (fb2 1 (clx x)) (fb3 (l:=xpr x) (r:=xpr x) rfl) <| sf (nof 1 (p:=sl qaa ks) (qad qab ks)) <| en (fr (stt 23 [(1,yv l),(6,.eptr (xpr x)),(12,sl qaa ks),(13,.int .i64 (ks.length:Int)),(14,.int .i64 i)] [.dead,.dead] []))
 have h2:=h1.thenW (st2:=stt 23 [(1,yv l),(6,.eptr (xpr x)),(12,sl qaa ks),(13,.int .i64 (ks.length:Int)),(14,.int .i64 i)] [.dead,.dead] []) (fzW z2 (by kernel_rfl))
 unfold vS5
 rw [qao]
 exact h2
theorem v_6 (l:Nat) (ks:List tPred) (i:Int) (x:tPred):qbR Pg GE [] (opsA vR6) (fun st => FG st (stt 23 [(1,yv l),(12,sl qaa ks),(13,.int .i64 (ks.length:Int)),(14,.int .i64 i),(18,.agg (qaa x)),(19,yv l)] [.dead,.dead] [])) ((opsA vR6).toList.take 2) 0 (vS5 l ks i x):=by
 have z:=sv (qaj x) <| en (fr (stt 23 [(1,yv l),(12,sl qaa ks),(13,.int .i64 (ks.length:Int)),(14,.int .i64 i),(18,.agg (qaa x)),(19,yv l)] [.dead,.dead] []))
 exact qxA z (by kernel_rfl)
abbrev vS6 (l:Nat) (ks:List tPred) (i:Int) (x:tPred) (b:Bool):PSt:=stt 23 [(1,yv l),(12,sl qaa ks),(13,.int .i64 (ks.length:Int)),(14,.int .i64 i),(18,.agg (qaa x)),(19,yv l),(20,.bool b)] [.dead,.dead] []
abbrev vS7 (l:Nat) (ks:List tPred) (i:Int) (b:Bool):PSt:=stt 23 [(1,yv l),(12,sl qaa ks),(13,.int .i64 (ks.length:Int)),(14,.int .i64 i),(21,.bool (!b))] [.dead,.dead] []
theorem v_6b (l:Nat) (ks:List tPred) (i:Int) (x:tPred) (b:Bool):qbR Pg GE [] (opsA vR6) (fun st => FG st (vS7 l ks i b)) ((opsA vR6).toList.drop 3) 0 (vS6 l ks i x b):=by
 have z:=en (fr (vS7 l ks i b))
 exact qxA z (by kernel_rfl)
theorem v_7 (l:Nat) (ks:List tPred) (i:Int):Sat Pg GE 0 (.seq vR7 .ret) (EX .ret (vE [.dead,.dead] false)) (vS7 l ks i false):=by
 have z:=eF .ret (vE [.dead,.dead] false)
 exact qjE (A:=[]) mixed z (by kernel_rfl)
theorem v_8 (l:Nat) (ks:List tPred) (i:Int):Sat Pg GE 0 vR8 (EX .normal (⟨(vS3 l ks (w64 (i + 1))).tmps,[.dead,.dead],[]⟩)) (vS7 l ks i true):=by
 have z:=eF .normal (⟨(vS3 l ks (w64 (i + 1))).tmps,[.dead,.dead],[]⟩)
 exact qjE (A:=[]) mixed z (by kernel_rfl)
theorem v_9 (l:Nat) (ks:List tPred) (i:Int):Sat Pg GE 0 (.seq vR9 .ret) (EX .ret (vE [.dead] true)) (vS4 l ks i):=by
 have z:=eF .ret (vE [.dead] true)
 exact qjE (A:=[]) mixed z (by kernel_rfl)
def VF {S:Type} (J:Bool→S→qaX→World→Prop) (Γ0:qaX) (w0:World) (b:Bool) (s:S) (st:PSt) (a:Array Value) (w:World):Prop := ∃ Γ,J b s Γ w∧Γ0.Le w0 Γ w∧∃ E bs ow,SR Pg E Γ bs ow w a st
structure Dd (st:PSt) (k:Nat):Prop where
 c:clL 0 st.tmps
 b:st.boxes = List.replicate k .dead
 o:st.own = []
structure R4 (c:Code):Prop where
 eq:c = .region (idA c) (opsA c) false
 rg:List.range (opsA c).size = [0,1] ++ 2 :: ([3] ++ [])
 p1:[0,1].map (fun i => (opsA c)[i]?) = ((opsA c).toList.take 2).map some
 p2:((opsA c).toList.take 2).all qCi = true
 o:(opsA c)[2]? = some (opA c 2)
 g:(opA c 2).guard = none
 q1:[3].map (fun i => (opsA c)[i]?) = ((opsA c).toList.drop 3).map some
 q2:((opsA c).toList.drop 3).all qCi = true
theorem r4_1:R4 vR1:=⟨by kernel_rfl,by kernel_rfl,by kernel_rfl,by kernel_rfl,by kernel_rfl,by kernel_rfl,by kernel_rfl,by kernel_rfl⟩
theorem r4_6:R4 vR6:=⟨by kernel_rfl,by kernel_rfl,by kernel_rfl,by kernel_rfl,by kernel_rfl,by kernel_rfl,by kernel_rfl,by kernel_rfl⟩
theorem qMo:(opA vR1 2).op = .call { callee := .value (.tmp 7),args := #[.tmp 8],argTypes:=tysA (opA vR1 2) }:=by kernel_rfl
theorem qMM:(opA vR1 2).dst = some 9:=by kernel_rfl
theorem qLS:(opA vR6 2).op = .call { callee := .value (.func fV),args := #[.tmp 18,.tmp 19],argTypes:=tysA (opA vR6 2) }:=by kernel_rfl
theorem qMX:(opA vR6 2).dst = some 20:=by kernel_rfl
section
variable {S:Type} {step:S→tPred→Option (Bool×S)} {J:Bool→S→qaX→World→Prop} {l:Nat} {Γ0:qaX} {w0:World} {b:Bool} {s:S} {st0 st1 stA stB:PSt} {k kA kB:Nat} {a:Array Value} {w:World} {n:Nat} {ds:List Deferred}
theorem VF.again (hY:Yd Pg GE l qaa step J) (hD:Dd st0 k) (h:VF J Γ0 w0 b s st0 a w):∃ Γ,J b s Γ w∧Γ0.Le w0 Γ w∧SR Pg (asd GE Γ w) Γ (List.replicate k none) (fun _ => none) w a st0:=by
 obtain ⟨Γ,hJ,hle,E,bs,ow,hS⟩:=h
 obtain ⟨tm,H,own⟩:=st0
 have hb:H = _:=hD.b
 have ho:own = []:=hD.o
 subst hb; subst ho
 exact ⟨Γ,hJ,hle,hS.again hD.c (hY.base _ _ _ _ hJ) (.refl _ _) k⟩
theorem VF.redo (hY:Yd Pg GE l qaa step J) (hD:Dd st0 k) (h:VF J Γ0 w0 b s st0 a w) (k':Nat):VF J Γ0 w0 b s ⟨st0.tmps,List.replicate k' .dead,[]⟩ a w:=by
 obtain ⟨Γ,hJ,hle,hS⟩:=h.again hY hD
 exact ⟨Γ,hJ,hle,_,_,_,hS.again hD.c (hY.base _ _ _ _ hJ) (.refl _ _) k'⟩
theorem VF.piece (hY:Yd Pg GE l qaa step J) {c:Code} {e:Exit} (hS:Sat Pg GE 0 c (EX e st1) st0) (hD:Dd st0 k) (h:VF J Γ0 w0 b s st0 a w) :
  c.wpIn Fence.wide n Pg (fun e' a' w' => e' = e∧a'.defers = ds∧VF J Γ0 w0 b s st1 a'.tmps w') ⟨a,ds⟩ w:=by
 obtain ⟨Γ,hJ,hle,hR⟩:=h.again hY hD
 refine wpIn_mono (hS.wide (hY.base _ _ _ _ hJ) hR n ds) ?_
 rintro e' a' w' ⟨hd,Γ',bs',ow',st',h',rfl,rfl⟩
 exact ⟨rfl,hd,Γ',hY.side _ _ _ _ hJ _ _ _ _ _ _ h',hle.trans h'.step.le,_,_,_,h'⟩
theorem VF.reg (hY:Yd Pg GE l qaa step J) {c:Code} (hR:R4 c) (hD:Dd st0 k) (hDB:Dd stB kB) (hpre:qbR Pg GE [] (opsA c) (fun st => FG st stA) ((opsA c).toList.take 2) 0 st0) (hsuf:qbR Pg GE [] (opsA c) (fun st => FG st st1) ((opsA c).toList.drop 3) 0 stB) {r:Bool×S}
  (hcall:∀ a w (next:Act→World→Prop) (Q:Exit→Act→World→Prop),VF J Γ0 w0 b s stA a w→(∀ a' w',VF J Γ0 w0 r.1 r.2 stB a' w'→next ⟨a',ds⟩ w')→(opA c 2).wpIn Fence.wide n Pg ⟨a,ds⟩ w next Q)
  (h:VF J Γ0 w0 b s st0 a w):c.wpIn Fence.wide n Pg (fun e' a' w' => e' = .normal∧a'.defers = ds∧VF J Γ0 w0 r.1 r.2 st1 a'.tmps w') ⟨a,ds⟩ w:=by
 have key:(Code.region (idA c) (opsA c) false).wpIn Fence.wide n Pg (fun e' a' w' => e' = .normal∧a'.defers = ds∧VF J Γ0 w0 r.1 r.2 st1 a'.tmps w') ⟨a,ds⟩ w:=by
  refine wpIn_region ?_
  rw [hR.rg]
  obtain ⟨Γ,hJ,hle,hS⟩:=h.again hY hD
  refine qs5 (A:=[]) (K:=fun st => FG st stA) (fun Γ' bs' ow' a' w' st hS' hK => ?_) _ _ Γ _ _ a w st0 hR.p1 (qxR hR.p2) hS hpre
  obtain ⟨Γ2,bs2,ow2,hS2⟩:=FG.sr hS' hK
  refine quA hR.o hR.g (hcall a' w' _ _ ⟨Γ2,hY.side _ _ _ _ hJ _ _ _ _ _ _ hS2,hle.trans hS2.step.le,_,_,_,hS2⟩ fun a3 w3 h3 => ?_)
  obtain ⟨Γ3,hJ3,hle3,hS3⟩:=h3.again hY hDB
  refine qs5 (A:=[]) (K:=fun st => FG st st1) (fun Γ' bs' ow' a' w' st hS' hK => ?_) _ _ Γ3 _ _ a3 w3 stB hR.q1 (qxR hR.q2) hS3 hsuf
  obtain ⟨Γ4,bs4,ow4,hS4⟩:=FG.sr hS' hK
  exact ⟨rfl,rfl,Γ4,hY.side _ _ _ _ hJ3 _ _ _ _ _ _ hS4,hle3.trans hS4.step.le,_,_,_,hS4⟩
 rw [← hR.eq] at key
 exact key
theorem VF.ev (h:VF J Γ0 w0 b s st0 a w) {t:Nat} {x:Bool} (ht:st0.tmps.getD t .undef = .bool x):(Act.mk a ds).eval (.tmp t) = .bool x:=by
 obtain ⟨Γ,hJ,hle,E,bs,ow,hS⟩:=h
 have h1:=hS.opv ds (.tmp t)
 have e1:opv E.GE st0.tmps (.tmp t) = .bool x:=ht
 rw [e1] at h1
 generalize (Act.mk a ds).eval (.tmp t) = v at h1
 cases h1
 rfl
theorem VF.put (hY:Yd Pg GE l qaa step J) (hD:Dd stA kA) {Γ Γ':qaX} {w':World} {E:Ent} {bs:qbp} {ow:Nat→Option Loc} (hS:SR Pg E Γ bs ow w a stA) (hle:Γ0.Le w0 Γ w) (hle':Γ.Le w Γ' w') {r:Bool×S} (hJ':J r.1 r.2 Γ' w') {d:Nat} (hB:stB = ⟨stA.tmps.set d (.bool r.1),List.replicate kA .dead,[]⟩) :
  VF J Γ0 w0 r.1 r.2 stB (a.setIfInBounds d (.bool r.1)) w':=by
 have hS':=(hS.again hD.c (hY.base _ _ _ _ hJ') hle' kA).set (d:=d) (p := .bool r.1) (v := .bool r.1) (.bool _)
 exact ⟨Γ',hJ',hle.trans hle',_,_,_,hB ▸ hS'⟩
theorem VF.yieldc (hY:Yd Pg GE l qaa step J) (hD:Dd stA kA) {p:tPred} {r:Bool×S} (hr:step s p = some r) {o:Oper} {f x d:Nat} {tys:Array TypeId} (h7:stA.tmps.getD f .undef = yv l) (h8:stA.tmps.getD x .undef = .agg (qaa p))
  (ho:o.op = .call { callee := .value (.tmp f),args := #[.tmp x],argTypes:=tys }) (hd:o.dst = some d) (hB:stB = ⟨stA.tmps.set d (.bool r.1),List.replicate kA .dead,[]⟩)
  {next:Act→World→Prop} {Q:Exit→Act→World→Prop} (h:VF J Γ0 w0 true s stA a w) (hn:∀ a' w',VF J Γ0 w0 r.1 r.2 stB a' w'→next ⟨a',ds⟩ w'):o.wpIn Fence.wide n Pg ⟨a,ds⟩ w next Q:=by
 obtain ⟨Γ,hJ,hle,hS⟩:=h.again hY hD
 have h1:=hS.opv ds (.tmp f)
 have h2:=hS.opv ds (.tmp x)
 have e1:opv (asd GE Γ w).GE stA.tmps (.tmp f) = yv l:=h7
 have e2:opv (asd GE Γ w).GE stA.tmps (.tmp x) = .agg (qaa p):=h8
 rw [e1] at h1; rw [e2] at h2
 have hev:(Act.mk a ds).eval (.tmp f) = .func (.yield l) #[] #[]:=by
  generalize (Act.mk a ds).eval (.tmp f) = v at h1
  cases h1; rfl
 refine qGk ho hev (R:=fun e w' => ∃ Γ',e = .returned (.bool r.1)∧Γ.Le w Γ' w'∧J r.1 r.2 Γ' w') ?_ ?_
 ·have:=hY.yield s Γ w p _ (n - 1) r hJ (h2.clo (by simp only [PVal.cl]; exact qab p)) hr
  simpa using this
 ·rintro e w' ⟨Γ',rfl,hle',hJ'⟩
  refine ⟨_,rfl,?_⟩
  rw [hd]
  exact hn _ _ (VF.put hY hD hS hle hle' hJ' hB)
def VOK (step:S→tPred→Option (Bool×S)) (J:Bool→S→qaX→World→Prop) (l:Nat) (p:tPred):Prop := ∀ s r Γ w v n,visP step p s = some r→J true s Γ w→VR Γ [] w (.agg (qaa p)) v →
 CallsIn Fence.wide n Pg fV #[v,.func (.yield l) #[] #[]] w fun e w' => ∃ Γ',e = .returned (.bool r.1)∧Γ.Le w Γ' w'∧J r.1 r.2 Γ' w'
theorem VF.visitc (hY:Yd Pg GE l qaa step J) (hD:Dd stA kA) {p:tPred} (hp:VOK step J l p) {r:Bool×S} (hr:visP step p s = some r) {o:Oper} {x y d:Nat} {tys:Array TypeId} (h7:stA.tmps.getD y .undef = yv l) (h8:stA.tmps.getD x .undef = .agg (qaa p))
  (ho:o.op = .call { callee := .value (.func fV),args := #[.tmp x,.tmp y],argTypes:=tys }) (hd:o.dst = some d) (hB:stB = ⟨stA.tmps.set d (.bool r.1),List.replicate kA .dead,[]⟩)
  {next:Act→World→Prop} {Q:Exit→Act→World→Prop} (h:VF J Γ0 w0 true s stA a w) (hn:∀ a' w',VF J Γ0 w0 r.1 r.2 stB a' w'→next ⟨a',ds⟩ w'):o.wpIn Fence.wide n Pg ⟨a,ds⟩ w next Q:=by
 obtain ⟨Γ,hJ,hle,hS⟩:=h.again hY hD
 have h1:=hS.opv ds (.tmp y)
 have h2:=hS.opv ds (.tmp x)
 have e1:opv (asd GE Γ w).GE stA.tmps (.tmp y) = yv l:=h7
 have e2:opv (asd GE Γ w).GE stA.tmps (.tmp x) = .agg (qaa p):=h8
 rw [e1] at h1; rw [e2] at h2
 have hev:(Act.mk a ds).eval (.tmp y) = .func (.yield l) #[] #[]:=by
  generalize (Act.mk a ds).eval (.tmp y) = v at h1
  cases h1; rfl
 refine qG4 ho (g:=fV) (fs := #[]) (cs := #[]) rfl Tryz.call150 (R:=fun e w' => ∃ Γ',e = .returned (.bool r.1)∧Γ.Le w Γ' w'∧J r.1 r.2 Γ' w') ?_ ?_
 ·have:=hp s r Γ w _ (n - 1) hr hJ (h2.clo (by simp only [PVal.cl]; exact qab p))
  simpa [hev] using this
 ·rintro e w' ⟨Γ',rfl,hle',hJ'⟩
  refine ⟨_,rfl,?_⟩
  rw [hd]
  exact hn _ _ (VF.put hY hD hS hle hle' hJ' hB)
theorem VF.fin {x:Bool} {H:List PBox} (h:VF J Γ0 w0 b s (vE H x) a w):(results Tryz.f150 a).run Pg w = .ok (.bool x) w:=by
 obtain ⟨Γ,hJ,hle,E,bs,ow,hS⟩:=h
 obtain ⟨v,h1,h2,_⟩:=qnn hS (fn:=Tryz.f150) (r := .bool x) (by kernel_rfl)
 cases h2
 exact h1
theorem dd1 {N:Nat} {L:List (Nat×PVal)} (h:clTm 0 L) (k:Nat) {H:List PBox} (hH:H = List.replicate k .dead):Dd (stt N L H []) k:=⟨qbn h,hH,rfl⟩
theorem clsl (ks:List tPred):(sl qaa ks).cl 0:=qad qab ks
theorem qL3 (l:Nat) (ks:List tPred) (i:Int):Dd (vS3 l ks i) 1:=dd1 (by exact aI trivial <| aI (clsl ks) <| aI trivial <| aI trivial trivial) 1 rfl
theorem qLZ (l:Nat) (ks:List tPred) (i:Int):Dd (vS4 l ks i) 1:=dd1 (by exact aI trivial <| aI (clsl ks) <| aI trivial <| aI trivial <| aI trivial trivial) 1 rfl
theorem qMw (l:Nat) (ks:List tPred) (i:Int) (b:Bool):Dd (vS7 l ks i b) 2:=dd1 (by exact aI trivial <| aI (clsl ks) <| aI trivial <| aI trivial <| aI trivial trivial) 2 rfl
theorem qF6 (hY:Yd Pg GE l qaa step J) (p:tPred) (hk:∀ x ∈ p.Kids,VOK step J l x):VOK step J l p:=by
 intro s r Γ w v n hv hJ hvr
 refine callsIn_of_wp Tryz.func150 (c:=bV) rfl trivial ?_
 have h0:VF J Γ w true s (stt 23 [(0,.agg (qaa p)),(1,yv l)] [] []) (#[v,.func (.yield l) #[] #[]] ++ Array.replicate 21 undef) w:=by
  refine ⟨Γ,hJ,.refl _ _,_,_,_,(hY.base _ _ _ _ hJ).fresh 0 (tmps:=[.agg (qaa p),yv l] ++ List.replicate 21 .undef) (by simp) fun t q u hq hu => ?_⟩
  by_cases ht:t < 2
  ·rw [vac (by simpa using ht)] at hq
   rw [vaO (by simpa using ht)] at hu
   match t,ht with
   | 0,_ => simp at hq hu; subst hq; subst hu; exact hvr
   | 1,_ => simp at hq hu; subst hq; subst hu; exact .val _
  ·rw [vag (by simpa using ht),vaW] at hq
   split at hq <;> cases hq
   exact .undef u
 show bV.wpIn Fence.wide n Pg _ ⟨_,[]⟩ w
 rw [qK7] at hv
 obtain ⟨q,hq,hv⟩:=bnd hv
 have hb:Pg.funcs.size = Pg.funcs.size:=rfl
 have hret:∀ {b:Bool} {s:S} {x:Bool} {H:List PBox} {a':Act} {w':World},a'.defers = []→VF J Γ w b s (vE H x) a'.tmps w'→b = r.1→s = r.2→x = r.1 →
   bodyPost Pg Tryz.f150 (fun e w' => ∃ Γ',e = .returned (.bool r.1)∧Γ.Le w Γ' w'∧J r.1 r.2 Γ' w') .ret a' w':=by
  rintro b s x H a' w' hd h rfl rfl rfl
  refine ⟨hd,.bool r.1,h.fin,?_⟩
  obtain ⟨Γ',hJ',hle,_⟩:=h
  exact ⟨Γ',rfl,hle,hJ'⟩
 rw [qMF]
 refine wpIn_seq (wpIn_mono (VF.piece hY (v_0 p l) (k:=0) (dd1 (by exact aI (qab p) <| aI trivial trivial) 0 rfl) h0) ?_)
 rintro e ⟨a1,ds1⟩ w1 ⟨rfl,rfl,h1⟩
 have d2:(PVal.eptr (qaa p)).cl 0:=by simp only [PVal.cl]; exact qab p
 have d3:(PVal.agg (qaa p)).cl 0:=by simp only [PVal.cl]; exact qab p
 refine wpIn_seq (wpIn_seq (wpIn_mono (VF.reg hY r4_1 (k:=1) (kB:=1) (r:=q) (stB:=stt 23 [(1,yv l),(2,.eptr (qaa p)),(7,yv l),(8,.agg (qaa p)),(9,.bool q.1)] [.dead] []) (dd1 (by exact aI trivial <| aI d2 trivial) 1 rfl) (dd1 (by exact aI trivial <| aI d2 <| aI trivial <| aI d3 <| aI trivial trivial) 1 rfl) (v_1 p l) (v_1b p l q.1)
  (fun a w next Q h hn => VF.yieldc hY (kA:=1) (dd1 (by exact aI trivial <| aI d2 <| aI trivial <| aI d3 trivial) 1 rfl) hq (f:=7) (x:=8) (d:=9) rfl rfl qMo qMM rfl h hn) h1) ?_))
 rintro e ⟨a2,ds2⟩ w2 ⟨rfl,rfl,h2⟩
 refine wpIn_cond (h2.ev (t:=10) (x := !q.1) rfl) ?_
 have dS2:∀ b:Bool,Dd (stt 23 [(1,yv l),(2,.eptr (qaa p)),(10,.bool b)] [.dead] []) 1:=fun b => dd1 (by exact aI trivial <| aI d2 <| aI trivial trivial) 1 rfl
 obtain ⟨q1,q2⟩:=q
 cases q1 with
 | false =>
  cases hv
  refine wpIn_mono (VF.piece hY (v_2 p l) (dS2 true) h2) ?_
  rintro e ⟨a3,ds3⟩ w3 ⟨rfl,rfl,h3⟩
  exact hret rfl h3 rfl rfl rfl
 | true =>
  simp only at hv
  split at hv
  case isFalse => cases hv
  rename_i hlen
  refine wpIn_skip ?_
  refine wpIn_seq (wpIn_seq (wpIn_mono (VF.piece hY (v_3 p l) (dS2 false) h2) ?_))
  rintro e ⟨a3,ds3⟩ w3 ⟨rfl,rfl,h3⟩
  refine wpIn_block (wpIn_loop_ghost (fun k a w' => a.defers = []∧∃ (i:Nat) (s':S),k = p.Kids.length - i∧i ≤ p.Kids.length∧visL step (p.Kids.drop i) s' = some r∧VF J Γ w true s' (vS3 l p.Kids (i:Int)) a.tmps w') (p.Kids.length)
   ⟨rfl,0,q2,rfl,vaM _,hv,h3⟩ ?_)
  rintro k ⟨a4,ds4⟩ w4 ⟨hd4,i,s',rfl,hi,hvl,h4⟩
  simp only at hd4; subst hd4
  rw [qMC]
  refine wpIn_seq (wpIn_mono (VF.piece hY (v_4 l p.Kids i) (qL3 _ _ _) h4) ?_)
  rintro e ⟨a5,ds5⟩ w5 ⟨rfl,rfl,h5⟩
  refine wpIn_seq (wpIn_cond (h5.ev (t:=15) (x:=decide ((i:Int) < (p.Kids.length:Int))) rfl) ?_)
  by_cases hlt:i < p.Kids.length
  ·rw [vba (by omega)]
   refine wpIn_skip ?_
   have hdrop:p.Kids.drop i = p.Kids[i] :: p.Kids.drop (i + 1):=vbB hlt
   rw [hdrop,visL] at hvl
   obtain ⟨q',hq',hvl⟩:=bnd hvl
   have hx:idx p.Kids (i:Int) = some p.Kids[i]:=qbb _ _ hlt
   generalize hxx:p.Kids[i] = x at *
   have hxm:x ∈ p.Kids:=hxx ▸ vat hlt
   have e2:(PVal.eptr (qaa x)).cl 0:=by simp only [PVal.cl]; exact qab x
   have e3:(PVal.agg (qaa x)).cl 0:=by simp only [PVal.cl]; exact qab x
   refine wpIn_seq (wpIn_block (wpIn_seq (wpIn_mono (VF.piece hY (v_5 l p.Kids i x hx) (qLZ _ _ _) h5) ?_)))
   rintro e ⟨a6,ds6⟩ w6 ⟨rfl,rfl,h6⟩
   refine wpIn_seq (wpIn_mono (VF.reg hY r4_6 (k:=2) (kB:=2) (r:=q') (stB:=vS6 l p.Kids i x q'.1) (dd1 (by exact aI trivial <| aI e2 <| aI (clsl _) <| aI trivial <| aI trivial trivial) 2 rfl) (dd1 (by exact aI trivial <| aI (clsl _) <| aI trivial <| aI trivial <| aI e3 <| aI trivial <| aI trivial trivial) 2 rfl) (v_6 l p.Kids i x) (v_6b l p.Kids i x q'.1)
    (fun a w next Q h hn => VF.visitc hY (kA:=2) (dd1 (by exact aI trivial <| aI (clsl _) <| aI trivial <| aI trivial <| aI e3 <| aI trivial trivial) 2 rfl) (hk x hxm) hq' (y:=19) (x:=18) (d:=20) rfl rfl qLS qMX rfl h hn) h6) ?_)
   rintro e ⟨a7,ds7⟩ w7 ⟨rfl,rfl,h7⟩
   refine wpIn_cond (h7.ev (t:=21) (x := !q'.1) rfl) ?_
   obtain ⟨q1,q2⟩:=q'
   cases q1 with
   | false =>
    cases hvl
    refine wpIn_mono (VF.piece hY (v_7 l p.Kids i) (qMw _ _ _ _) h7) ?_
    rintro e ⟨a8,ds8⟩ w8 ⟨rfl,rfl,h8⟩
    exact hret rfl h8 rfl rfl rfl
   | true =>
    refine wpIn_skip ?_
    refine wpIn_mono (VF.piece hY (v_8 l p.Kids i) (qMw _ _ _ _) h7) ?_
    rintro e ⟨a8,ds8⟩ w8 ⟨rfl,rfl,h8⟩
    refine ⟨p.Kids.length - (i + 1),by omega,rfl,i + 1,q2,rfl,hlt,hvl,?_⟩
    have e:w64 ((i:Int) + 1) = ((i + 1:Nat):Int):=by rw [qiY (by omega) (by omega)]; omega
    rw [e] at h8
    exact VF.redo (st0:=⟨(vS3 l p.Kids ((i + 1:Nat):Int)).tmps,[.dead,.dead],[]⟩) hY (k:=2) ⟨(qL3 l p.Kids _).c,rfl,rfl⟩ h8 1
  ·rw [decide_eq_false (by omega)]
   refine wpIn_exit ?_
   have hi':i = p.Kids.length:=by omega
   rw [vct (by omega),visL] at hvl
   cases hvl
   refine wpIn_mono (VF.piece hY (v_9 l p.Kids i) (qLZ _ _ _) h5) ?_
   rintro e ⟨a6,ds6⟩ w6 ⟨rfl,rfl,h6⟩
   exact hret rfl h6 rfl rfl rfl
mutual
theorem qFz (hY:Yd Pg GE l qaa step J):∀ p:tPred,VOK step J l p
 | ⟨o,n,k,ks⟩ => qF6 hY ⟨o,n,k,ks⟩ (qBI hY ks)
theorem qBI (hY:Yd Pg GE l qaa step J):∀ ks:List tPred,∀ x ∈ ks,VOK step J l x
 | [],x,hx => by simp at hx
 | y :: ks,x,hx => by
  rcases vaC.1 hx with h | h
  ·exact h ▸ qFz hY y
  ·exact qBI hY ks x h
end
end
end Go.Proofs.YtgldgpdhblndkaaGreatDoor
