/- WHAT IS PROVED: parts of the proof, put together by a program (Nb Pp1 Pp2 Pp6 Tot). Conditions: none. -/
import Derived.Test.YtgldgpdhblndkaaGreatDoorPkE40
import Derived.Test.YtgldgpdhblndkaaGreatDoorPkE22
import Derived.Test.YtgldgpdhblndkaaGreatDoorPkE23
noncomputable section
namespace Go.Proofs.YtgldgpdhblndkaaGreatDoor
open Go
set_option linter.unusedSimpArgs false
set_option linter.unusedVariables false
abbrev blt (x y:Str):Prop:=Op.bytesLess x y = true
theorem qom:∀ (x:Str),Op.bytesLess x x = false
 | [] => rfl
 | a :: x => by
  unfold Op.bytesLess
  rw [qom x]
  simp [UInt8.lt_irrefl]
theorem qoX:∀ {x y z:Str},blt x y→blt y z→blt x z
 | _,_,[],h1,h2 => by simp [blt,Op.bytesLess] at h2
 | _,[],_ :: _,h1,h2 => by simp [blt,Op.bytesLess] at h1
 | [],_ :: _,_ :: _,_,_ => rfl
 | a :: x,b :: y,c :: z,h1,h2 => by
  unfold blt Op.bytesLess at h1 h2 ⊢
  simp only [Bool.or_eq_true,decide_eq_true_eq,Bool.and_eq_true,beq_iff_eq] at h1 h2 ⊢
  rcases h1 with h1 | ⟨rfl,h1⟩
  ·rcases h2 with h2 | ⟨rfl,h2⟩
   ·exact .inl (UInt8.lt_trans h1 h2)
   ·exact .inl h1
  ·rcases h2 with h2 | ⟨rfl,h2⟩
   ·exact .inl h2
   ·exact .inr ⟨rfl,qoX h1 h2⟩
theorem qq8:∀ {x y:Str},Op.bytesLess x y = false→Op.bytesLess y x = false→x = y
 | [],[],_,_ => rfl
 | [],_ :: _,h,_ => by simp [Op.bytesLess] at h
 | _ :: _,[],_,h => by simp [Op.bytesLess] at h
 | a :: x,b :: y,h1,h2 => by
  unfold Op.bytesLess at h1 h2
  simp only [Bool.or_eq_false_iff,decide_eq_false_iff_not,Bool.and_eq_false_imp,beq_iff_eq] at h1 h2
  have hab:a = b:=by
   have k1:=UInt8.not_lt.1 h1.1
   have k2:=UInt8.not_lt.1 h2.1
   exact UInt8.le_antisymm k2 k1
  subst hab
  rw [qq8 (h1.2 rfl) (h2.2 rfl)]
theorem qIs:∀ (x y:Str),Op.bytesLess x y = decide (x < y)
 | [],[] => by simp [Op.bytesLess]
 | _ :: _,[] => by simp [Op.bytesLess]
 | [],_ :: _ => by simp [Op.bytesLess]
 | a :: x,b :: y => by
  unfold Op.bytesLess
  rw [qIs x y,Bool.eq_iff_iff]
  simp [List.cons_lt_cons_iff]
theorem qFS (x y:Str):decide (x ≤ y) = !Op.bytesLess y x:=by
 rw [qIs]
 rw [← decide_not]
 rfl
abbrev Inc (l:List Str):Prop:=l.Pairwise blt
theorem qo7:∀ {a b:List Str},Inc a→Inc b→(∀ x,x ∈ a↔x ∈ b)→a = b
 | [],[],_,_,_ => rfl
 | [],y :: b,_,_,h => by have:=(h y).2 (by simp); simp at this
 | x :: a,[],_,_,h => by have:=(h x).1 (by simp); simp at this
 | x :: a,y :: b,ha,hb,h => by
  unfold Inc at ha hb
  rw [List.pairwise_cons] at ha hb
  have hxy:x = y:=by
   have h1:=(h x).1 (by simp)
   have h2:=(h y).2 (by simp)
   rw [List.mem_cons] at h1 h2
   rcases h1 with h1 | h1
   ·exact h1
   ·rcases h2 with h2 | h2
    ·exact h2.symm
    ·have:=qoX (hb.1 x h1) (ha.1 y h2)
     unfold blt at this
     rw [qom] at this
     cases this
  subst hxy
  congr 1
  refine qo7 ha.2 hb.2 fun z => ?_
  constructor
  ·intro hz
   have:=(h z).1 (by simp [hz])
   rw [List.mem_cons] at this
   rcases this with rfl | this
   ·have:=ha.1 _ hz; unfold blt at this; rw [qom] at this; cases this
   ·exact this
  ·intro hz
   have:=(h z).2 (by simp [hz])
   rw [List.mem_cons] at this
   rcases this with rfl | this
   ·have:=hb.1 _ hz; unfold blt at this; rw [qom] at this; cases this
   ·exact this
theorem qAw (l:List Str):(qjZ l).Pairwise fun x y => Op.bytesLess y x = false:=by
 have:=List.pairwise_mergeSort (le:=fun x y:Str => decide (x ≤ y)) (fun a b c h1 h2 => by
  rw [qFS] at h1 h2 ⊢
  simp only [Bool.not_eq_true'] at h1 h2 ⊢
  cases h:Op.bytesLess c a with
  | false => rfl
  | true =>
   exfalso
   by_cases hb:Op.bytesLess a b = true
   ·have:=qoX h hb
    unfold blt at this
    rw [h2] at this
    cases this
   ·have:a = b:=qq8 (by simpa using hb) h1
    subst this
    rw [h2] at h
    cases h) (fun a b => by
  rw [qFS,qFS]
  cases h:Op.bytesLess b a with
  | false => rfl
  | true =>
   cases h':Op.bytesLess a b with
   | false => rfl
   | true =>
    have:=qoX h h'
    unfold blt at this
    rw [qom] at this
    cases this) l
 refine List.Pairwise.imp ?_ this
 intro a b h
 rw [qFS] at h
 simpa using h
theorem qEe (l:List Str) (x:Str):x ∈ qjZ l↔x ∈ l:=List.mem_mergeSort
theorem qsj (d:List Str) (hs:d.Pairwise fun x y => Op.bytesLess y x = false):∀ m,m ≤ d.length→Inc (Lib.compactUpTo d.toArray m)∧∀ x,x ∈ Lib.compactUpTo d.toArray m↔∃ (j:Nat) (h:j < d.length),j < m∧d[j] = x
 | 0,_ => by
  refine ⟨by simp [Lib.compactUpTo,Inc],fun x => ?_⟩
  simp [Lib.compactUpTo]
 | m + 1,hm => by
  obtain ⟨h1,h2⟩:=qsj d hs m (by omega)
  have hg:∀ j (h:j < d.length),d.toArray[j]! = d[j]:=fun j h => by simp [h]
  rw [Lib.compactUpTo_succ]
  by_cases hk:Lib.keeps d.toArray m = true
  ·rw [if_pos hk,hg m (by omega)]
   refine ⟨?_,fun x => ?_⟩
   ·unfold Inc
    rw [List.pairwise_append]
    refine ⟨h1,by simp,fun x hx y hy => ?_⟩
    simp at hy
    subst hy
    obtain ⟨j,hj,hjm,rfl⟩:=(h2 x).1 hx
    have hne:d[m - 1] ≠ d[m]:=by
     unfold Lib.keeps at hk
     simp only [decide_eq_true_eq] at hk
     rcases hk with hk | hk
     ·omega
     ·rw [hg m (by omega),hg (m - 1) (by omega)] at hk
      exact fun e => hk e.symm
    have hlt:Op.bytesLess d[m - 1] d[m] = true:=by
     have k1:=(List.pairwise_iff_getElem.1 hs) (m - 1) m (by omega) (by omega) (by omega)
     cases h:Op.bytesLess d[m - 1] d[m] with
     | true => rfl
     | false => exact absurd (qq8 h k1) hne
    by_cases hj2:j = m - 1
    ·subst hj2; exact hlt
    ·have k2:=(List.pairwise_iff_getElem.1 hs) j (m - 1) (by omega) (by omega) (by omega)
     cases h:Op.bytesLess d[j] d[m - 1] with
     | true => exact qoX h hlt
     | false =>
      have:=qq8 h k2
      rw [this]; exact hlt
   ·rw [List.mem_append,h2]
    constructor
    ·rintro (⟨j,hj,hjm,rfl⟩ | hx)
     ·exact ⟨j,hj,by omega,rfl⟩
     ·simp at hx; exact ⟨m,by omega,by omega,hx.symm⟩
    ·rintro ⟨j,hj,hjm,rfl⟩
     by_cases e:j = m
     ·subst e; exact .inr (by simp)
     ·exact .inl ⟨j,hj,by omega,rfl⟩
  ·rw [if_neg hk,List.append_nil]
   refine ⟨h1,fun x => ?_⟩
   rw [h2]
   constructor
   ·rintro ⟨j,hj,hjm,rfl⟩; exact ⟨j,hj,by omega,rfl⟩
   ·rintro ⟨j,hj,hjm,rfl⟩
    by_cases e:j = m
    ·subst e
     have:j ≠ 0∧d.toArray[j]! = d.toArray[j - 1]! := by
      unfold Lib.keeps at hk
      simp only [decide_eq_true_eq,not_or,ne_eq,Decidable.not_not] at hk
      exact hk
     rw [hg j hj,hg (j - 1) (by omega)] at this
     exact ⟨j - 1,by omega,by omega,this.2.symm⟩
    ·exact ⟨j,hj,by omega,rfl⟩
def setU (a b:List Str):List Str:=Lib.compact (qjZ (a ++ b))
theorem qtc (a b:List Str):Inc (setU a b)∧∀ x,x ∈ setU a b↔x ∈ a∨x ∈ b:=by
 obtain ⟨h1,h2⟩:=qsj (qjZ (a ++ b)) (qAw _) _ (Nat.le_refl _)
 refine ⟨h1,fun x => ?_⟩
 rw [show setU a b = Lib.compactUpTo (qjZ (a ++ b)).toArray (qjZ (a ++ b)).length from rfl,h2,← List.mem_append,← qEe,List.mem_iff_getElem]
 constructor
 ·rintro ⟨j,h,_,e⟩; exact ⟨j,h,e⟩
 ·rintro ⟨j,h,e⟩; exact ⟨j,h,h,e⟩
theorem qpS (a b:List Str) (h:a.length + b.length ≤ 1073741824):qif a b = some (setU a b):=by
 unfold qif
 rw [qcq (by simp; omega)]
 simp only [Option.bind_some]
 rw [qcq (by simp; omega)]
 rfl
def ins (s:Str):List Str→List Str
 | [] => [s]
 | x :: r => if Op.bytesLess x s = true then x :: ins s r else if (x == s) = true then s :: r else s :: x :: r
def kk (s:Str):List Str→Nat
 | [] => 0
 | x :: r => if Op.bytesLess x s = true then kk s r + 1 else 0
theorem qIw (s:Str):∀ l,kk s l ≤ l.length
 | [] => Nat.le_refl _
 | x :: r => by have:=qIw s r; unfold kk; split <;> simp <;> omega
theorem qGY (s:Str):∀ l,ins s l = l.take (kk s l) ++ s :: l.drop (kk s l + if (l[kk s l]? == some s) = true then 1 else 0)
 | [] => by simp [ins,kk]
 | x :: r => by
  have ih:=qGY s r
  unfold ins kk
  by_cases h:Op.bytesLess x s = true
  ·rw [if_pos h,if_pos h,ih]
   simp only [List.take_succ_cons,List.getElem?_cons_succ,List.cons_append]
   rw [show kk s r + 1 + (if (r[kk s r]? == some s) = true then 1 else 0) = (kk s r + if (r[kk s r]? == some s) = true then 1 else 0) + 1 by omega,List.drop_succ_cons]
  ·rw [if_neg h,if_neg h]
   by_cases hx:(x == s) = true
   ·have:x = s:=by simpa using hx
    simp [this]
   ·have:¬ x = s:=by simpa using hx
    simp [this]
theorem qyD (s:Str):∀ l,(ins s l).length ≤ l.length + 1
 | [] => by simp [ins]
 | x :: r => by
  have:=qyD s r
  unfold ins
  split
  ·simp; omega
  ·split <;> simp
theorem qAZ (s:Str):∀ l x,x ∈ ins s l↔x = s∨x ∈ l
 | [],x => by simp [ins]
 | y :: r,x => by
  have:=qAZ s r x
  unfold ins
  by_cases h:Op.bytesLess y s = true
  ·rw [if_pos h,List.mem_cons,this,List.mem_cons]
   constructor
   ·rintro (h | h | h) <;> simp [h]
   ·rintro (h | h | h) <;> simp [h]
  ·rw [if_neg h]
   by_cases hy:(y == s) = true
   ·have e:y = s:=by simpa using hy
    rw [if_pos hy,e]
    simp
   ·rw [if_neg hy]
    simp
theorem qEf (s:Str):∀ {l},Inc l→Inc (ins s l)
 | [],_ => by simp [ins,Inc]
 | x :: r,h => by
  unfold Inc at h ⊢
  rw [List.pairwise_cons] at h
  unfold ins
  by_cases hx:Op.bytesLess x s = true
  ·rw [if_pos hx,List.pairwise_cons]
   refine ⟨fun y hy => ?_,qEf s h.2⟩
   rw [qAZ] at hy
   rcases hy with rfl | hy
   ·exact hx
   ·exact h.1 y hy
  ·rw [if_neg hx]
   by_cases he:(x == s) = true
   ·have e:x = s:=by simpa using he
    subst e
    rw [if_pos he,List.pairwise_cons]
    exact h
   ·have hsx:blt s x:=by
     cases hc:Op.bytesLess s x with
     | true => exact hc
     | false =>
      have:=qq8 (by simpa using hx) hc
      simp [this] at he
    rw [if_neg he,List.pairwise_cons,List.pairwise_cons]
    refine ⟨fun y hy => ?_,h⟩
    rw [List.mem_cons] at hy
    rcases hy with rfl | hy
    ·exact hsx
    ·exact qoX hsx (h.1 y hy)
theorem qEW (s:Str):∀ (l:List Str) (i:Nat) (out:List Str),runL (fun i x (out:List Str) => if Op.bytesLess x s = true then (Sum.inl (out ++ [x]):List Str⊕(List Str×Nat)) else .inr (out,i)) (fun out => (out,i + l.length)) l i out = (out ++ l.take (kk s l),i + kk s l)
 | [],i,out => by simp [runL,kk]
 | x :: l,i,out => by
  have ih:=qEW s l (i + 1) (out ++ [x])
  unfold runL kk
  by_cases h:Op.bytesLess x s = true
  ·simp only [h,if_true]
   rw [show i + (x :: l).length = i + 1 + l.length by simp; omega,ih]
   simp
   omega
  ·simp [h]
theorem qzD {α σ X Y:Type} (g:X→Y) (f:Nat→α→σ→σ⊕X) (e:σ→X):∀ (l:List α) (i:Nat) (s:σ),runL (fun i x s => Sum.map id g (f i x s)) (fun s => g (e s)) l i s = g (runL f e l i s)
 | [],i,s => rfl
 | x :: l,i,s => by
  unfold runL
  cases f i x s with
  | inl s' => exact qzD g f e l (i + 1) s'
  | inr y => rfl
def natI {σ:Type} (y:σ×Nat):σ×Int:=(y.1,(y.2:Int))
theorem qxG (a:List Str) (s:Str) (ha:a.length ≤ 1000000000):qow a s = some (ins s a):=by
 unfold qow qs1
 have:=qiF a (by omega) (fun i (out:List Str) => (out,i)) (fun zz => qjc a s zz.1 zz.2) (fun i out => out.length = i)
  (fun i x out => Sum.map id natI (if Op.bytesLess x s = true then (Sum.inl (out ++ [x]):List Str⊕(List Str×Nat)) else .inr (out,i))) (fun out => natI (out,0 + a.length)) (fun i hi out hI => by
   have hb:qjW a s i = some (Op.bytesLess a[i] s):=by
    simp only [qjW]
    rw [if_pos (by simp; omega),qaS _ i hi]
    rfl
   refine ⟨?_,fun s' hs' => ?_⟩
   ·simp only [qjc]
    rw [hb]
    simp only [Option.bind_some]
    by_cases hl:Op.bytesLess a[i] s = true
    ·rw [if_pos hl,if_pos hl,qaS _ i hi]
     simp only [Option.bind_some]
     rw [qcq (by simp; omega)]
     rfl
    ·rw [if_neg hl,if_neg hl]
     rfl
   ·by_cases hl:Op.bytesLess a[i] s = true
    ·rw [if_pos hl] at hs'; cases hs'; simp; omega
    ·rw [if_neg hl] at hs'; cases hs') (fun out _ => by
   have hb:qjW a s a.length = some false:=by
    simp only [qjW]
    rw [if_neg (by simp)]
   simp only [qjc]
   rw [hb]
   simp [natI]) 0 [] (Nat.zero_le _) rfl
 simp only [Int.ofNat_zero,List.drop_zero] at this
 have hm:=qzD natI (fun i x (out:List Str) => if Op.bytesLess x s = true then (Sum.inl (out ++ [x]):List Str⊕(List Str×Nat)) else .inr (out,i)) (fun out => (out,0 + a.length)) a 0 []
 rw [this.trans (congrArg some hm),qEW s a 0 []]
 simp only [List.nil_append,Nat.zero_add,Option.bind_some,natI]
 have hk:=qIw s a
 rw [qcq (by simp; omega)]
 simp only [Option.bind_some]
 have hj:qoV a s (kk s a) = some ((kk s a + if (a[kk s a]? == some s) = true then 1 else 0:Nat):Int):=by
  unfold qoV qti
  by_cases hlt:kk s a < a.length
  ·rw [if_pos (by simp; omega),qaS _ _ hlt]
   simp only [Option.bind_some,List.getElem?_eq_getElem hlt]
   have e:(some a[kk s a] == some s) = (a[kk s a] == s):=rfl
   rw [e]
   by_cases h:(a[kk s a] == s) = true
   ·rw [if_pos h,if_pos h,qeY (by omega) (by omega)]
    rfl
   ·rw [if_neg h,if_neg h]
    rfl
  ·have hn:a[kk s a]? = none:=by simp; omega
   rw [if_neg (by simp; omega),hn]
   rfl
 rw [hj]
 simp only [Option.bind_some]
 have hle:kk s a + (if (a[kk s a]? == some s) = true then 1 else 0) ≤ a.length:=by
  by_cases hlt:kk s a < a.length
  ·split <;> omega
  ·have hn:a[kk s a]? = none:=by simp; omega
   rw [hn]
   simp
   omega
 rw [qCC a _ hle]
 simp only [Option.bind_some]
 rw [qcq (by simp; omega),qGY]
 simp
theorem qs3 {α σ:Type} (g:σ→α→σ):∀ (l:List α) (i:Nat) (s:σ),runL (fun _ x s => (Sum.inl (g s x):σ⊕σ)) (fun s => s) l i s = l.foldl g s
 | [],i,s => rfl
 | x :: l,i,s => qs3 g l (i + 1) (g s x)
theorem qtg:∀ (l out:List Str),Inc out→Inc (l.foldl (fun o x => ins x o) out)∧(∀ x,x ∈ l.foldl (fun o x => ins x o) out↔x ∈ out∨x ∈ l)∧(l.foldl (fun o x => ins x o) out).length ≤ out.length + l.length
 | [],out,h => ⟨h,by simp,by simp⟩
 | y :: l,out,h => by
  obtain ⟨h1,h2,h3⟩:=qtg l (ins y out) (qEf y h)
  have:=qyD y out
  refine ⟨h1,fun x => ?_,by simp only [List.foldl_cons,List.length_cons]; omega⟩
  rw [List.foldl_cons,h2,qAZ,List.mem_cons]
  constructor
  ·rintro ((h | h) | h) <;> simp [h]
  ·rintro (h | h | h) <;> simp [h]
theorem qcF (a b:List Str) (ha:a.length ≤ 400000000) (hb:b.length ≤ 400000000):qci a b = some (setU a b):=by
 unfold qci qi2 qiV
 have t1:=qiF a (by omega) (fun i (out:List Str) => (out,i)) (fun zz => qf8 a a.length zz.1 zz.2) (fun i out => out.length ≤ i) (fun _ x out => (Sum.inl (ins x out):List Str⊕List Str)) (fun o => o) (fun i hi out hI => by
   refine ⟨?_,fun s' hs' => ?_⟩
   ·simp only [qf8]
    rw [if_pos (by simp; omega),qaS _ i hi]
    simp only [Option.bind_some]
    rw [qxG _ _ (by omega)]
    rfl
   ·cases hs'
    have:=qyD a[i] out
    omega) (fun out _ => by simp only [qf8]; rw [if_neg (by simp)]) 0 [] (Nat.zero_le _) (Nat.le_refl _)
 simp only [Int.ofNat_zero,List.drop_zero] at t1
 rw [qs3 (fun o x => ins x o)] at t1
 obtain ⟨f1,f2,f3⟩:=qtg a [] (by simp [Inc])
 have t2:=qiF b (by omega) (fun i (out:List Str) => (out,i)) (fun zz => qbu b b.length zz.1 zz.2) (fun i out => out.length ≤ 400000000 + i) (fun _ x out => (Sum.inl (ins x out):List Str⊕List Str)) (fun o => o) (fun i hi out hI => by
   refine ⟨?_,fun s' hs' => ?_⟩
   ·simp only [qbu]
    rw [if_pos (by simp; omega),qaS _ i hi]
    simp only [Option.bind_some]
    rw [qxG _ _ (by omega)]
    rfl
   ·cases hs'
    have:=qyD b[i] out
    omega) (fun out _ => by simp only [qbu]; rw [if_neg (by simp)]) 0 (a.foldl (fun o x => ins x o) []) (Nat.zero_le _) (by simp at f3; omega)
 simp only [Int.ofNat_zero,List.drop_zero] at t2
 rw [qs3 (fun o x => ins x o)] at t2
 rw [t1]
 simp only [Option.bind_some]
 rw [t2]
 simp only [Option.bind_some,Option.some.injEq]
 obtain ⟨g1,g2,_⟩:=qtg b _ f1
 obtain ⟨u1,u2⟩:=qtc a b
 refine qo7 g1 u1 fun x => ?_
 rw [g2,f2,u2]
 simp
mutual
def nP:tPred→Nat
 | ⟨_,_,_,ks⟩ => nL ks + 1
def nL:List tPred→Nat
 | [] => 0
 | p :: ps => nP p + nL ps
end
theorem qC8 (p:tPred):nP p = nL p.Kids + 1:=by obtain ⟨o,n,k,ks⟩:=p; rw [nP]; rfl
theorem qIv (p:tPred):1 ≤ nP p:=by rw [qC8]; omega
theorem qxw:∀ {l:List tPred} {x:tPred},x ∈ l→nP x ≤ nL l
 | y :: l,x,h => by
  rw [nL]
  rcases List.mem_cons.1 h with rfl | h
  ·omega
  ·have:=qxw h; omega
theorem qt6:∀ (l:List tPred),l.length ≤ nL l
 | [] => by simp [nL]
 | p :: l => by rw [nL]; have:=qt6 l; have:=qIv p; simp only [List.length_cons]; omega
theorem qkn {p x:tPred} (h:x ∈ p.Kids):nP x < nP p:=by rw [qC8 p]; have:=qxw h; omega
theorem qjP (p:tPred):p.Kids.length < nP p:=by rw [qC8]; have:=qt6 p.Kids; omega
theorem qlS:∀ (a b:List tPred),nL (a ++ b) = nL a + nL b
 | [],b => by simp [nL]
 | p :: a,b => by rw [List.cons_append,nL,qlS a b,nL]; omega
mutual
theorem qIA:∀ (p:tPred),nP p ≤ pmL (qaa p)
 | ⟨o,n,k,ks⟩ => by
  have:=qE6 ks
  rw [nP,qal]
  simp only [pmL,pm,sl]
  show nL ks + 1 ≤ 1 + (n.length + 1 + (1 + (pmLL (ks.map qaa) + 1 + 0)))
  omega
theorem qE6:∀ (l:List tPred),nL l ≤ pmLL (l.map qaa)
 | [] => by simp [nL]
 | p :: l => by
  have:=qIA p
  have:=qE6 l
  rw [nL]
  simp only [List.map_cons,pmLL]
  omega
end
mutual
def eqP:tPred→tPred→Bool
 | ⟨o,n,k,ks⟩,⟨o',n',k',ks'⟩ => (o == o') && ((n == n') && ((k == k') && eqL ks ks'))
def eqL:List tPred→List tPred→Bool
 | [],[] => true
 | x :: xs,y :: ys => eqP x y && eqL xs ys
 | _,_ => false
end
mutual
theorem qFA:∀ (a b:tPred),eqP a b = true↔a = b
 | ⟨o,n,k,ks⟩,⟨o',n',k',ks'⟩ => by
  rw [eqP]
  have:=qDP ks ks'
  simp only [Bool.and_eq_true,beq_iff_eq,this,tPred.mk.injEq]
theorem qDP:∀ (a b:List tPred),eqL a b = true↔a = b
 | [],[] => by simp [eqL]
 | x :: xs,y :: ys => by
  rw [eqL]
  have h1:=qFA x y
  have h2:=qDP xs ys
  simp only [Bool.and_eq_true,h1,h2,List.cons.injEq]
 | [],y :: ys => by simp [eqL]
 | x :: xs,[] => by simp [eqL]
end
instance:DecidableEq tPred:=fun a b => decidable_of_iff _ (qFA a b)
theorem qol (p:tPred):(⟨p.Op,p.Name,p.N,p.Kids⟩:tPred) = p:=by cases p; rfl
theorem qD4 {a b:tPred}:a = b↔a.Op = b.Op∧a.Name = b.Name∧a.N = b.N∧a.Kids = b.Kids:=by
 cases a; cases b
 simp only [tPred.mk.injEq]
 rfl
theorem qFu {α:Type} [DecidableEq α]:∀ {a b:List α},a.length = b.length→(a.zip b).any (fun x => decide (x.1 ≠ x.2)) = !decide (a = b)
 | [],[],_ => by simp
 | x :: a,y :: b,h => by
  have ih:=qFu (a:=a) (b:=b) (by simpa using h)
  rw [List.zip_cons_cons,List.any_cons,ih]
  by_cases h1:x = y <;> by_cases h2:a = b <;> simp [h1,h2]
theorem qGG {α X:Type} [DecidableEq α] {a b:List α} (hl:a.length = b.length) (ha:a.length < 9223372036854775808) (body:Int→Option (Int⊕X)) (y e:X)
  (hin:∀ (i:Nat) (h:i < a.length) (h':i < b.length),body i = some (if decide (a[i] = b[i]) = true then .inl (w64 ((i:Int) + 1)) else .inr y)) (hend:body a.length = some (.inr e)):loop body 0 = some (if decide (a = b) = true then e else y):=by
 have hz:(a.zip b).length = a.length:=by simp [hl]
 have:=qyP (a.zip b) (by omega) body (fun x => decide (x.1 ≠ x.2)) y e (fun i h => ?_) (by rw [hz]; exact hend) 0 (Nat.zero_le _)
 ·rw [List.drop_zero,qFu hl] at this
  rw [show ((0:Nat):Int) = 0 from rfl] at this
  rw [this]
  by_cases h:a = b <;> simp [h]
 ·have h1:i < a.length:=by omega
  have h2:i < b.length:=by omega
  rw [hin i h1 h2]
  have hzi:(a.zip b)[i] = (a[i],b[i]):=by simp
  rw [hzi]
  by_cases h:a[i] = b[i] <;> simp [h]
abbrev bigN:Nat:=1073741824
theorem qgV {n:Nat} (h:n ≤ bigN):n < big:=by have:=qIm; unfold bigN at h; omega
theorem qEr (p:tPred) (hp:nP p ≤ bigN):qgC p = some p:=by
 refine qfd (F:=qjK) nP (fun x => nP x ≤ bigN) id (fun R x hx ih => ?_) p hp (qgV hp)
 unfold qjK qmE qk9
 have hlen:=qjP x
 rw [qCJ x.Kids (by unfold bigN at hx; omega) (fun i s => (i,s)) _ id id (fun i hi s hs => ?_) (fun s => ?_)]
 ·simp [qol]
 ·unfold qgt
  rw [if_pos (by simp; omega),qaS x.Kids i hi]
  simp only [Option.bind_some]
  have hm:=List.getElem_mem hi
  rw [ih _ (qkn hm) (Nat.le_of_lt (Nat.lt_of_lt_of_le (qkn hm) hx))]
  simp only [Option.bind_some]
  rw [qcq (by unfold bigN at hx; simp; omega)]
  rfl
 ·unfold qgt
  rw [if_neg (by simp)]
  rfl
theorem quO (a b:tPred) (hb:nP b ≤ bigN):qiL a b = some (decide (a = b)):=by
 refine qfd (F:=qsF) (fun x => nP x.2) (fun x => nP x.2 ≤ bigN) (fun x => decide (x.1 = x.2)) (fun R x hx ih => ?_) (a,b) hb (qgV hb)
 obtain ⟨u,v⟩:=x
 have hx:nP v ≤ bigN:=hx
 show qoW (fun a a2 => R (a,a2)) u v = some (decide (u = v))
 unfold qoW qql
 have hk:=qjP v
 by_cases h1:u.Op = v.Op
 ·by_cases h2:u.Name = v.Name
  ·by_cases h3:u.N = v.N
   ·by_cases h4:u.Kids.length = v.Kids.length
    ·rw [if_neg (by simpa using h1),if_neg (by simpa using h2),if_neg (by simpa using h3)]
     simp only [h4,bne_self_eq_false,Option.bind_some,if_false,Bool.false_eq_true]
     unfold qq0
     rw [← h4,qGG h4 (by unfold bigN at hx; omega) _ (.inl ()) (.inr ()) (fun i g1 g2 => ?_) ?_]
     ·by_cases he:u.Kids = v.Kids <;> simp [he,qD4 (a:=u) (b:=v),h1,h2,h3]
     ·unfold qjL
      rw [if_neg (by simp)]
     ·unfold qjL
      rw [if_pos (by simp; omega),qaS u.Kids i g1]
      simp only [Option.bind_some]
      rw [qaS v.Kids i g2]
      simp only [Option.bind_some]
      have hm:=List.getElem_mem g2
      rw [ih (u.Kids[i],v.Kids[i]) (qkn hm) (Nat.le_of_lt (Nat.lt_of_lt_of_le (qkn hm) hx))]
      by_cases he:u.Kids[i] = v.Kids[i] <;> simp [he]
    ·have hne:u ≠ v:=fun e => h4 (by rw [e])
     rw [if_neg (by simpa using h1),if_neg (by simpa using h2),if_neg (by simpa using h3)]
     have hb:((u.Kids.length:Int) != (v.Kids.length:Int)) = true:=by simp; omega
     simp [hb,hne]
   ·have hne:u ≠ v:=fun e => h3 (by rw [e])
    rw [if_neg (by simpa using h1),if_neg (by simpa using h2),if_pos (by simpa using h3)]
    simp [hne]
  ·have hne:u ≠ v:=fun e => h2 (by rw [e])
   rw [if_neg (by simpa using h1),if_pos (by simpa using h2)]
   simp [hne]
 ·have hne:u ≠ v:=fun e => h1 (by rw [e])
  rw [if_pos (by simpa using h1)]
  simp [hne]
def qDv:tPred:=⟨0,[],0,[]⟩
def qER:tPred:=⟨2,[],1,[]⟩
def qDo (p:tPred):Bool:=decide (p = qDv) || decide (p = qER)
theorem qHz:nP qER ≤ bigN:=by decide
theorem qHM:nP qDv ≤ bigN:=by decide
theorem qCs (p:tPred):qpe p = some (qDo p):=by
 have h1:qiL p (⟨0,([]:Str),0,([]:List tPred)⟩:tPred) = some (decide (p = qDv)):=quO p qDv qHM
 have h2:qiL p (⟨2,([]:Str),1,([]:List tPred)⟩:tPred) = some (decide (p = qER)):=quO p qER qHz
 unfold qpe qyL qDo
 simp only [Option.bind_some,h2,h1]
 cases decide (p = qER) <;> cases decide (p = qDv) <;> rfl
theorem qzj {α σ X:Type} (g:α→σ→σ) (e:σ→X):∀ (l:List α) (i:Nat) (s:σ),runL (fun _ x (s:σ) => (Sum.inl (g x s):σ⊕X)) e l i s = e (l.foldl (fun s x => g x s) s)
 | [],i,s => by simp [runL]
 | x :: l,i,s => by
  unfold runL
  simp only
  rw [qzj g e l (i + 1) (g x s)]
  rfl
theorem qDW {α σ τ X:Type} (l:List α) (hl:l.length < 9223372036854775808) (mk:Int→σ→τ) (body:τ→Option (τ⊕X)) (I:Nat→σ→Prop) (g:α→σ→σ) (e:σ→X) (s0:σ) (h0:I 0 s0)
  (hin:∀ (i:Nat) (h:i < l.length) s,I i s→body (mk i s) = some (.inl (mk (w64 ((i:Int) + 1)) (g l[i] s)))∧I (i + 1) (g l[i] s)) (hend:∀ s,I l.length s→body (mk l.length s) = some (.inr (e s))) :
  loop body (mk 0 s0) = some (e (l.foldl (fun s x => g x s) s0)):=by
 have:=qiF l hl mk body I (fun _ x s => .inl (g x s)) e (fun i h s hs => ⟨(hin i h s hs).1,fun s' hs' => by cases hs'; exact (hin i h s hs).2⟩) (fun s hs => hend s hs) 0 s0 (Nat.zero_le _) h0
 rw [qzj] at this
 exact this
theorem qqe (l:List tPred) (i:Nat) (h:i < l.length):nL (l.take (i + 1)) = nL (l.take i) + nP l[i]:=by
 rw [List.take_succ_eq_append_getElem h,qlS]
 simp [nL]
theorem qiA (l:List tPred) (i:Nat):nL (l.take i) ≤ nL l:=by
 have:=qlS (l.take i) (l.drop i)
 rw [List.take_append_drop] at this
 omega
theorem qED:∀ (l:List tPred) (a:Int),l.foldl (fun s x => s + (nP x:Int)) a = a + (nL l:Int)
 | [],a => by simp [nL]
 | x :: l,a => by rw [List.foldl_cons,qED l,nL]; omega
theorem qGp (p:tPred) (hp:nP p ≤ bigN):qu5 p = some (nP p:Int):=by
 refine qfd (F:=qqZ) nP (fun x => nP x ≤ bigN) (fun x => (nP x:Int)) (fun R x hx ih => ?_) p hp (qgV hp)
 show qmY (fun p => R p) x = _
 unfold qmY qnE
 have hlen:=qjP x
 have hn:=qC8 x
 rw [qDW x.Kids (by unfold bigN at hx; omega) (fun i s => (s,i)) _ (fun i s => s = 1 + (nL (x.Kids.take i):Int)) (fun x s => s + (nP x:Int)) id 1 (by simp [nL]) (fun i hi s hs => ?_) (fun s _ => ?_)]
 ·rw [qED]
  simp only [id,Option.bind_some]
  rw [hn]; congr 1; omega
 ·have hm:=List.getElem_mem hi
  have hk:=qkn hm
  refine ⟨?_,by rw [qqe _ _ hi,hs]; omega⟩
  unfold qiM
  rw [if_pos (by simp; omega),qaS x.Kids i hi]
  simp only [Option.bind_some]
  rw [ih _ hk (by omega)]
  simp only [Option.bind_some]
  have h1:=qiA x.Kids i
  have h2:=qiA x.Kids (i + 1)
  have h3:=qqe x.Kids i hi
  unfold bigN at hx
  rw [qeY (n:=s + _) (by omega) (by omega)]
 ·unfold qiM
  rw [if_neg (by simp)]
  rfl
theorem qBQ {l:List Str} {v:Str}:(match l.findIdx? (fun x => x == v) with | some j => (j:Int) | none => -1) ≥ 0↔v ∈ l:=by
 cases h:l.findIdx? (fun x => x == v) with
 | none =>
  rw [List.findIdx?_eq_none_iff] at h
  simp only
  constructor
  ·intro h'; omega
  ·intro hm; have:=h v hm; simp at this
 | some j =>
  obtain ⟨hj,h1,_⟩:=List.findIdx?_eq_some_iff_getElem.1 h
  simp only
  constructor
  ·intro _
   have:l[j] = v:=by simpa using h1
   exact this ▸ List.getElem_mem hj
  ·intro _; omega
theorem qyd (l:List Str) (v:Str) (hl:l.length < 9223372036854775808):qep l v = some (match l.findIdx? (fun x => x == v) with | some j => (j:Int) | none => -1):=by
 unfold qep qml
 have h:=qrG l hl (fun zz => qcz l v (l.length:Int) zz) (fun x => x == v) (fun j => Sum.inl (j:Int)) (.inr ()) (fun i hi => ?_) ?_
 ·rw [h]
  simp only [Option.bind_some]
  cases l.findIdx? (fun x => x == v) <;> rfl
 ·show qcz l v (l.length:Int) (i:Int) = _
  unfold qcz
  rw [if_pos (by simp; omega),qaS l i hi]
  simp only [Option.bind_some]
  by_cases he:(l[i] == v) = true <;> simp [he]
 ·show qcz l v (l.length:Int) (l.length:Int) = _
  unfold qcz
  rw [if_neg (by simp)]
theorem qBV (l:List Str) (v:Str) (hl:l.length < 9223372036854775808):qi7 l v = some (match l.findIdx? (fun x => x == v) with | some j => (j:Int) | none => -1):=by
 unfold qi7 qkz
 have h:=qrG l hl (fun zz => qcr l v (l.length:Int) zz) (fun x => x == v) (fun j => Sum.inl (j:Int)) (.inr ()) (fun i hi => ?_) ?_
 ·rw [h]
  simp only [Option.bind_some]
  cases l.findIdx? (fun x => x == v) <;> rfl
 ·show qcr l v (l.length:Int) (i:Int) = _
  unfold qcr
  rw [if_pos (by simp; omega),qaS l i hi]
  simp only [Option.bind_some]
  by_cases he:v = l[i]
  ·subst he; simp
  ·have he':¬ l[i] = v:=fun h => he h.symm
   simp [he,he']
 ·show qcr l v (l.length:Int) (l.length:Int) = _
  unfold qcr
  rw [if_neg (by simp)]
theorem qky (l:List Str) (v:Str) (hl:l.length < 9223372036854775808):qbT l v = some (decide (v ∈ l)):=by
 unfold qbT
 rw [qBV l v hl]
 simp only [Option.bind_some]
 congr 1
 exact decide_eq_decide.2 qBQ
def tot {α:Type} (o:Option α) (Q:α→Prop):Prop := ∃ a,o = some a∧Q a
section
variable {α β σ τ X Y:Type}
theorem qaQ {a:α} {Q:α→Prop} (h:Q a):tot (some a) Q:=⟨a,rfl,h⟩
theorem qdr {o:Option α} {f:α→Option β} {R:α→Prop} {Q:β→Prop} (h:tot o R) (h':∀ a,R a→tot (f a) Q):tot (o.bind f) Q:=by
 obtain ⟨a,rfl,h⟩:=h
 exact h' a h
theorem qmJ {o:Option α} {a:α} {f:α→Option β} {Q:β→Prop} (e:o = some a) (h:tot (f a) Q):tot (o.bind f) Q:=by
 rw [e]; exact h
theorem tot.mono {o:Option α} {Q R:α→Prop} (h:tot o Q) (h':∀ a,Q a→R a):tot o R:=by
 obtain ⟨a,e,h⟩:=h
 exact ⟨a,e,h' a h⟩
theorem qfX {c:Prop} [Decidable c] {a b:Option α} {Q:α→Prop} (h1:c→tot a Q) (h2:¬c→tot b Q):tot (if c then a else b) Q:=by
 by_cases h:c
 ·rw [if_pos h]; exact h1 h
 ·rw [if_neg h]; exact h2 h
theorem qHZ {o:Option α} {a:α}:tot o (fun x => x = a)↔o = some a:=by
 constructor
 ·rintro ⟨x,e,rfl⟩; exact e
 ·intro e; exact ⟨a,e,rfl⟩
theorem qx6 {F:(X→Option Y)→X→Option Y} (μ:X→Nat) (P:X→Prop) (Q:X→Y→Prop) (h:∀ (R:X→Option Y) x,P x→(∀ y,μ y < μ x→P y→tot (R y) (Q y))→tot (F R x) (Q x)) (x:X) (hx:P x) (hm:μ x < big):tot (fixE F x) (Q x):=by
 have key:∀ n x,μ x < n→P x→tot (itF F n x) (Q x):=by
  intro n
  induction n with
  | zero => intro x hx; omega
  | succ n ih => intro x hx hq; exact h _ x hq fun y hy hqy => ih y (by omega) hqy
 exact key _ x hm hx
theorem qFi (l:List α) (hl:l.length < 9223372036854775808) (mk:Int→σ→τ) {body:τ→Option (τ⊕X)} (I:Nat→σ→Prop) {Q:X→Prop}
  (hin:∀ (i:Nat) (h:i < l.length) s,I i s→tot (body (mk i s)) (fun r => match r with | .inl t => ∃ s',t = mk (w64 ((i:Int) + 1)) s'∧I (i + 1) s' | .inr y => Q y))
  (hend:∀ s,I l.length s→tot (body (mk l.length s)) (fun r => match r with | .inl _ => False | .inr y => Q y)):∀ s,I 0 s→tot (loop body (mk 0 s)) Q:=by
 have key:∀ k i s,k + i = l.length→I i s→tot (loop body (mk (i:Int) s)) Q:=by
  intro k
  induction k with
  | zero =>
   intro i s hi hI
   have:i = l.length:=by omega
   subst this
   obtain ⟨r,e,hr⟩:=hend s hI
   rw [qjj,e]
   cases r with
   | inl _ => exact hr.elim
   | inr y => exact ⟨y,rfl,hr⟩
  | succ k ih =>
   intro i s hi hI
   obtain ⟨r,e,hr⟩:=hin i (by omega) s hI
   rw [qjj,e]
   cases r with
   | inl t =>
    obtain ⟨s',rfl,hI'⟩:=hr
    simp only
    rw [qeY (by omega) (by omega),show ((i:Int) + 1) = ((i + 1:Nat):Int) by omega]
    exact ih (i + 1) s' (by omega) hI'
   | inr y => exact ⟨y,rfl,hr⟩
 exact fun s hs => key l.length 0 s (by omega) hs
end
end Go.Proofs.YtgldgpdhblndkaaGreatDoor
