/- WHAT IS PROVED: parts of the proof, put together by a program (Fv1 Fv2). Conditions: none. -/
import Derived.Test.YtgldgpdhblndkaaGreatDoorPkE41
import Derived.Test.YtgldgpdhblndkaaGreatDoorPkE42
noncomputable section
namespace Go.Proofs.YtgldgpdhblndkaaGreatDoor
open Go
set_option linter.unusedVariables false
set_option linter.unusedSimpArgs false
theorem qeW {a b:List Str} {x:Str}:x ∈ setU a b↔x ∈ a∨x ∈ b:=(qtc a b).2 x
theorem qsk (a b:List Str):Inc (setU a b):=(qtc a b).1
theorem qFO {a b c d:List Str} (h:∀ x,(x ∈ a∨x ∈ b)↔(x ∈ c∨x ∈ d)):setU a b = setU c d :=
 qo7 (qsk a b) (qsk c d) fun x => by rw [qeW,qeW]; exact h x
theorem qEc {l a b:List Str} (hl:Inc l) (h:∀ x,x ∈ l↔x ∈ a∨x ∈ b):l = setU a b:=qo7 hl (qsk a b) fun x => by rw [qeW]; exact h x
theorem qeh (a b:List Str):(setU a b).length ≤ a.length + b.length:=by
 have h1:=qvT (qjZ (a ++ b))
 have h2:=qja (a ++ b)
 rw [List.length_append] at h2
 unfold setU
 omega
theorem qHs (x:Str):Inc [x]:=by simp [Inc]
theorem qBn:Inc ([]:List Str):=by simp [Inc]
def qrv {α σ:Type} (g:Nat→α→σ→σ):List α→Nat→σ→σ
 | [],_,s => s
 | x :: l,i,s => qrv g l (i + 1) (g i x s)
theorem qxJ {α σ τ X:Type} (l:List α) (hl:l.length < 9223372036854775808) (mk:Int→σ→τ) (body:τ→Option (τ⊕X)) (k:Int→σ→α→Option (τ⊕X)) (I:Nat→σ→Prop) (g:Nat→α→σ→σ) (e:σ→X) (s0:σ) (h0:I 0 s0)
  (hb:∀ (i:Int) (s:σ),body (mk i s) = if decide (i < (l.length:Int)) = true then (idx l i).bind (k i s) else some (.inr (e s)))
  (hin:∀ (i:Nat) (h:i < l.length) s,I i s→k i s l[i] = some (.inl (mk (w64 ((i:Int) + 1)) (g i l[i] s)))∧I (i + 1) (g i l[i] s)):loop body (mk 0 s0) = some (e (qrv g l 0 s0)):=by
 have:=qiF l hl mk body I (fun i x s => .inl (g i x s)) e (fun i h s hs => ⟨?_,fun s' hs' => by cases hs'; exact (hin i h s hs).2⟩) (fun s hs => by rw [hb,if_neg (by simp)]) 0 s0 (Nat.zero_le _) h0
 ·rw [List.drop_zero,show ((0:Nat):Int) = 0 from rfl] at this
  rw [this]
  have key:∀ (l:List α) (i:Nat) (s:σ),runL (fun i x (s:σ) => (Sum.inl (g i x s):σ⊕X)) e l i s = e (qrv g l i s):=by
   intro l
   induction l with
   | nil => intro i s; rfl
   | cons x l ih => intro i s; unfold runL; simp only; rw [ih]; rfl
  rw [key]
 ·rw [hb,if_pos (by simp; omega),qaS l i h]
  simp only [Option.bind_some]
  exact (hin i h s hs).1
mutual
def vsP:tPred→List Str
 | ⟨o,n,k,ks⟩ => (if o = 3 then [n] else []) ++ vsL ks
def vsL:List tPred→List Str
 | [] => []
 | p :: ps => vsP p ++ vsL ps
end
theorem qIb (p:tPred):vsP p = (if p.Op = 3 then [p.Name] else []) ++ vsL p.Kids:=by obtain ⟨o,n,k,ks⟩:=p; rw [vsP]; rfl
theorem qAO {x:Str}:∀ {l:List tPred},x ∈ vsL l↔∃ p ∈ l,x ∈ vsP p
 | [] => by simp [vsL]
 | p :: l => by rw [vsL,List.mem_append,qAO]; simp
mutual
theorem qyk:∀ (p:tPred),(vsP p).length ≤ nP p
 | ⟨o,n,k,ks⟩ => by
  have:=qBm ks
  rw [vsP,nP,List.length_append]
  split <;> simp <;> omega
theorem qBm:∀ (l:List tPred),(vsL l).length ≤ nL l
 | [] => by simp [vsL]
 | p :: l => by
  have:=qyk p
  have:=qBm l
  rw [vsL,nL,List.length_append]; omega
end
mutual
theorem qCB:∀ (p:tPred) (s:List Str),nP p ≤ bigN→s.length + (vsP p).length ≤ 1073741824→visP qkN p s = some (true,s ++ vsP p)
 | ⟨o,n,k,ks⟩,s,hp,hs => by
  rw [nP] at hp
  rw [vsP,List.length_append] at hs
  have hk:=qt6 ks
  have h1:qkN s ⟨o,n,k,ks⟩ = some (true,s ++ (if o = 3 then [n] else [])):=by
   unfold qkN
   show (if (o == 3) = true then (app s [n]).bind fun l => some (true,l) else some (true,s)) = _
   by_cases h:o = 3
   ·rw [if_pos (by simpa using h),if_pos h,qcq (by rw [if_pos h] at hs; simp at hs ⊢; omega)]
    rfl
   ·rw [if_neg (by simpa using h),if_neg h,List.append_nil]
  have h2:=qzA ks (s ++ (if o = 3 then [n] else [])) (by omega) (by rw [List.length_append]; omega)
  rw [visP,h1]
  simp only [Option.bind_some]
  rw [if_pos (by unfold bigN at hp; omega),h2,vsP,List.append_assoc]
theorem qzA:∀ (l:List tPred) (s:List Str),nL l ≤ bigN→s.length + (vsL l).length ≤ 1073741824→visL qkN l s = some (true,s ++ vsL l)
 | [],s,_,_ => by rw [visL,vsL,List.append_nil]
 | p :: l,s,hp,hs => by
  rw [nL] at hp
  rw [vsL,List.length_append] at hs
  rw [visL,qCB p s (by omega) (by omega)]
  simp only [Option.bind_some]
  rw [qzA l _ (by omega) (by rw [List.length_append]; omega),vsL,List.append_assoc]
end
def qdo (p:tPred):List Str:=setU (vsP p) []
theorem qox {p:tPred} {x:Str}:x ∈ qdo p↔x ∈ vsP p:=by unfold qdo; rw [qeW]; simp
theorem qge (p:tPred):(qdo p).length ≤ nP p:=by
 have h1:=qeh (vsP p) []
 have h2:=qyk p
 unfold qdo
 simp at h1
 omega
theorem qCi (p:tPred) (hp:nP p ≤ 400000000):qkA p = some (qdo p):=by
 have h:=qyk p
 unfold qkA
 rw [qCB p [] (by unfold bigN; omega) (by simp; omega)]
 simp only [Option.bind_some,List.nil_append]
 rw [qpS _ _ (by simp; omega)]
 rfl
theorem qmC {α:Type} (f:α→List Str):∀ (l:List α) (s:List Str),Inc s→Inc (l.foldl (fun s x => setU s (f x)) s)∧∀ x,x ∈ l.foldl (fun s x => setU s (f x)) s↔x ∈ s∨∃ y ∈ l,x ∈ f y
 | [],s,h => ⟨h,by simp⟩
 | y :: l,s,h => by
  obtain ⟨h1,h2⟩:=qmC f l (setU s (f y)) (qsk _ _)
  refine ⟨h1,fun x => ?_⟩
  rw [List.foldl_cons,h2,qeW]
  simp only [List.mem_cons,exists_eq_or_imp,or_assoc]
theorem qxR (p:tPred) (hp:nP p ≤ 200000000):qkZ p = some (qdo p):=by
 refine qfd (F:=qsX) nP (fun x => nP x ≤ 200000000) qdo (fun R x hx ih => ?_) p hp (qgV (by unfold bigN; omega))
 show qo8 (fun p => R p) x = _
 unfold qo8 qqk
 rw [show (if (x.Op == 3) = true then some ([x.Name]:List Str) else some ([]:List Str)) = some (if x.Op = 3 then [x.Name] else []) by by_cases h:x.Op = 3 <;> simp [h]]
 simp only [Option.bind_some]
 unfold qqW
 have hlen:=qjP x
 have hn:=qC8 x
 have h0:(if x.Op = 3 then [x.Name] else []:List Str).length ≤ 1:=by split <;> simp
 have hi0:Inc (if x.Op = 3 then [x.Name] else []:List Str):=by split; exact qHs _; exact qBn
 rw [qea x.Kids (by omega) (fun i s => (s,i)) _ (fun i s y => (R y).bind fun r => (qci s r).bind fun r6 => some (.inl (r6,w64 (i + 1)))) (fun i s => s.length ≤ 1 + nL (x.Kids.take i)) (fun y s => setU s (qdo y)) id (if x.Op = 3 then [x.Name] else []) (by simpa [nL] using h0) (fun i s => rfl) (fun i hi s hs => ?_)]
 ·simp only [id,Option.bind_some]
  obtain ⟨f1,f2⟩:=qmC qdo x.Kids (if x.Op = 3 then [x.Name] else []) hi0
  congr 1
  refine qEc f1 fun y => ?_
  rw [f2,qIb,List.mem_append,qAO]
  simp only [qox,List.not_mem_nil,or_false]
 ·have hm:=List.getElem_mem hi
  have hk:=qkn hm
  have h1:=qqe x.Kids i hi
  have h2:=qiA x.Kids (i + 1)
  have h3:=qge x.Kids[i]
  refine ⟨?_,?_⟩
  ·rw [ih _ hk (by omega)]
   simp only [Option.bind_some]
   rw [qcF _ _ (by omega) (by omega)]
   rfl
  ·have:=qeh s (qdo x.Kids[i])
   omega
def bnd_ (o:Int) (ns:List Str) (i:Nat):List Str:=if o = 6 then ns.take i else []
mutual
def vT:tType→List Str
 | ⟨o,n,xs,ns,p,ps⟩ => (vsP p ++ vsL ps).filter (fun s => !(s == [118])) ++ vTL o ns 0 xs
def vTL (o:Int) (ns:List Str):Nat→List tType→List Str
 | _,[] => []
 | i,a :: xs => (vT a).filter (fun s => !decide (s ∈ bnd_ o ns i)) ++ vTL o ns (i + 1) xs
end
theorem qId (t:tType):vT t = (vsP t.Pred ++ vsL t.Preds).filter (fun s => !(s == [118])) ++ vTL t.Op t.Names 0 t.Args:=by obtain ⟨o,n,xs,ns,p,ps⟩:=t; rw [vT]; rfl
mutual
def wT:tType→Nat
 | ⟨_,_,xs,_,p,ps⟩ => nP p + nL ps + wTL xs
def wTL:List tType→Nat
 | [] => 0
 | a :: xs => wT a + wTL xs
end
theorem qyZ (t:tType):wT t = nP t.Pred + nL t.Preds + wTL t.Args:=by obtain ⟨o,n,xs,ns,p,ps⟩:=t; rw [wT]; rfl
theorem qyf:∀ {l:List tType} {x:tType},x ∈ l→wT x ≤ wTL l
 | y :: l,x,h => by
  rw [wTL]
  rcases List.mem_cons.1 h with rfl | h
  ·omega
  ·have:=qyf h; omega
theorem qGo {t a:tType} (h:a ∈ t.Args):wT a ≤ wT t:=by rw [qyZ t]; have:=qyf h; omega
theorem quH (l:List tType) (i:Nat) (h:i < l.length):wTL (l.take (i + 1)) = wTL (l.take i) + wT l[i]:=by
 have key:∀ (a b:List tType),wTL (a ++ b) = wTL a + wTL b:=by
  intro a b
  induction a with
  | nil => simp [wTL]
  | cons x a ih => rw [List.cons_append,wTL,wTL,ih]; omega
 rw [List.take_succ_eq_append_getElem h,key]
 simp [wTL]
theorem qqf:∀ (l:List tType) (i:Nat),wTL (l.take i) ≤ wTL l
 | [],i => by simp
 | x :: l,0 => by simp [wTL]
 | x :: l,i + 1 => by rw [List.take_succ_cons,wTL,wTL]; have:=qqf l i; omega
mutual
theorem qGL:∀ (t:tType),(vT t).length ≤ wT t
 | ⟨o,n,xs,ns,p,ps⟩ => by
  have h1:=qFc o ns 0 xs
  have h2:=qyk p
  have h3:=qBm ps
  have h4:=List.length_filter_le (fun s => !(s == [118])) (vsP p ++ vsL ps)
  rw [vT,wT,List.length_append]
  rw [List.length_append] at h4
  omega
theorem qFc (o:Int) (ns:List Str):∀ (i:Nat) (l:List tType),(vTL o ns i l).length ≤ wTL l
 | i,[] => by simp [vTL]
 | i,a :: xs => by
  have h1:=qGL a
  have h2:=qFc o ns (i + 1) xs
  have h3:=List.length_filter_le (fun s => !decide (s ∈ bnd_ o ns i)) (vT a)
  rw [vTL,wTL,List.length_append]
  omega
end
def freeT (t:tType):List Str:=setU (vT t) []
theorem qze {t:tType} {x:Str}:x ∈ freeT t↔x ∈ vT t:=by unfold freeT; rw [qeW]; simp
theorem qft (t:tType):(freeT t).length ≤ wT t:=by
 have h1:=qeh (vT t) []
 have h2:=qGL t
 unfold freeT
 simp at h1
 omega
theorem qBa {o:Int} {ns:List Str} {x:Str}:∀ {l:List tType} {i:Nat},x ∈ vTL o ns i l↔∃ (j:Nat) (h:j < l.length),x ∈ vT l[j]∧x ∉ bnd_ o ns (i + j)
 | [],i => by simp [vTL]
 | a :: l,i => by
  rw [vTL,List.mem_append,qBa]
  simp only [List.mem_filter,Bool.not_eq_true',decide_eq_false_iff_not]
  constructor
  ·rintro (h | ⟨j,hj,h1,h2⟩)
   ·exact ⟨0,by simp,by simpa using h⟩
   ·exact ⟨j + 1,by simp; omega,by simpa using h1,by rw [show i + (j + 1) = i + 1 + j by omega]; exact h2⟩
  ·rintro ⟨j,hj,h1,h2⟩
   cases j with
   | zero => exact .inl ⟨by simpa using h1,by simpa using h2⟩
   | succ j => exact .inr ⟨j,by simp at hj; omega,by simpa using h1,by rw [show i + 1 + j = i + (j + 1) by omega]; exact h2⟩
theorem qFy {α:Type} (l:List α) (i:Nat) (hl:l.length < 9223372036854775808):slc l none (some (if (l.length:Int) < (i:Int) then (l.length:Int) else (i:Int))) = some (l.take i):=by
 by_cases h:l.length < i
 ·rw [if_pos (by omega),qGV l l.length (Nat.le_refl _),List.take_of_length_le (Nat.le_refl _),List.take_of_length_le (by omega)]
 ·rw [if_neg (by omega),qGV l i (by omega)]
theorem qEw (t:tType) (i:Nat) (h:t.Names.length < 9223372036854775808):qgi t i = some (bnd_ t.Op t.Names i):=by
 unfold qgi bnd_
 by_cases ho:t.Op = 6
 ·rw [if_neg (by simpa using ho),qFy _ i h,if_pos ho]
  rfl
 ·rw [if_pos (by simpa using ho),if_neg ho]
theorem qrf (f:Str→Bool):∀ (l a:List Str),l.foldl (fun s x => if f x = true then s ++ [x] else s) a = a ++ l.filter f
 | [],a => by simp
 | x :: l,a => by
  rw [List.foldl_cons,qrf f l]
  by_cases h:f x = true <;> simp [h]
theorem qry {α:Type} (f:α→List Str):∀ (l:List α) (a:List Str),l.foldl (fun s x => s ++ f x) a = a ++ l.flatMap f
 | [],a => by simp
 | x :: l,a => by rw [List.foldl_cons,qry f l,List.flatMap_cons,List.append_assoc]
theorem qAz {α:Type} (f:Nat→α→List Str):∀ (l:List α) (i:Nat) (a:List Str) (x:Str),x ∈ qrv (fun i y s => s ++ f i y) l i a↔x ∈ a∨∃ (j:Nat) (h:j < l.length),x ∈ f (i + j) l[j]
 | [],i,a,x => by simp [qrv]
 | y :: l,i,a,x => by
  rw [qrv,qAz f l (i + 1),List.mem_append,or_assoc]
  refine or_congr_right ⟨?_,?_⟩
  ·rintro (h | ⟨j,hj,h⟩)
   ·exact ⟨0,by simp,by simpa using h⟩
   ·exact ⟨j + 1,by simp; omega,by rw [show i + (j + 1) = i + 1 + j by omega]; simpa using h⟩
  ·rintro ⟨j,hj,h⟩
   cases j with
   | zero => exact .inl (by simpa using h)
   | succ j => exact .inr ⟨j,by simp at hj; omega,by rw [show i + 1 + j = i + (j + 1) by omega]; simpa using h⟩
theorem qDV (R:qaB) (l out:List Str) (h:out.length + l.length ≤ 1073741824):qfb R l (l.length:Int) out 0 = some (out ++ l.filter (fun s => !(s == [118]))):=by
 unfold qfb
 rw [qea l (by omega) (fun i s => (s,i)) _ (fun i s x => if (!(x == ([118]:Str))) = true then (app s ([x]:List Str)).bind fun l8 => some (.inl (l8,w64 (i + 1))) else some (.inl (s,w64 (i + 1)))) (fun i s => s.length ≤ out.length + i) (fun x s => if (!(x == [118])) = true then s ++ [x] else s) id out (by simp) (fun i s => rfl) (fun i hi s hs => ?_),qrf]
 ·rfl
 ·refine ⟨?_,by split <;> (try rw [List.length_append,List.length_singleton]) <;> omega⟩
  by_cases hx:(!(l[i] == ([118]:Str))) = true
  ·rw [if_pos hx,if_pos hx,qcq (by simp; omega)]
   rfl
  ·rw [if_neg hx,if_neg hx]
theorem qDR (R:qaB) (b l out:List Str) (hb:b.length < 9223372036854775808) (h:out.length + l.length ≤ 1073741824):qfc R b l (l.length:Int) out 0 = some (out ++ l.filter (fun s => !decide (s ∈ b))):=by
 unfold qfc
 rw [qea l (by omega) (fun i s => (s,i)) _ (fun i s x => (qbT b x).bind fun r17 => if (!r17) = true then (app s ([x]:List Str)).bind fun l8 => some (.inl (l8,w64 (i + 1))) else some (.inl (s,w64 (i + 1)))) (fun i s => s.length ≤ out.length + i) (fun x s => if (!decide (x ∈ b)) = true then s ++ [x] else s) id out (by simp) (fun i s => rfl) (fun i hi s hs => ?_),qrf]
 ·rfl
 ·refine ⟨?_,by split <;> (try rw [List.length_append,List.length_singleton]) <;> omega⟩
  rw [qky b _ hb]
  simp only [Option.bind_some]
  by_cases hx:(!decide (l[i] ∈ b)) = true
  ·rw [if_pos hx,if_pos hx,qcq (by simp; omega)]
   rfl
  ·rw [if_neg hx,if_neg hx]
theorem qzK {p:tPred} {ps:List tPred} {x:Str}:(∃ q ∈ [p] ++ ps,x ∈ vsP q)↔x ∈ vsP p ++ vsL ps:=by
 rw [List.mem_append,qAO]
 simp
theorem qGT (p:tPred) (ps:List tPred):nL ([p] ++ ps) = nP p + nL ps:=by
 rw [qlS]; simp [nL]
theorem qAp (t:tType) (hw:wT t ≤ 200000000) (hl:lenT t ≤ 200000000):qkS t = some (freeT t):=by
 refine qfd (F:=qlw) lenT (fun x => wT x ≤ 200000000∧lenT x ≤ 200000000) freeT (fun R x hx ih => ?_) t ⟨hw,hl⟩ (qgV (by unfold bigN; omega))
 obtain ⟨hw,hl⟩:=hx
 show qiH (fun t => R t) x = _
 have h1:=qhn x
 have h2:=qe4 x
 have h3:=qhN x
 have hwe:=qyZ x
 have hn1:=qGT x.Pred x.Preds
 unfold qiH
 rw [qcq (by simp; omega)]
 simp only [Option.bind_some]
 unfold qkw
 rw [qea ([x.Pred] ++ x.Preds) (by simp; omega) (fun i s => (s,i)) _ (fun i s y => (qkA y).bind fun r4 => (qfb (fun t => R t) r4 (r4.length:Int) s 0).bind fun o9 => some (.inl (o9,w64 (i + 1)))) (fun i s => s.length ≤ nL (([x.Pred] ++ x.Preds).take i)) (fun y s => s ++ (qdo y).filter (fun s => !(s == [118]))) id [] (by simp [nL]) (fun i s => rfl) (fun i hi s hs => ?_),qry]
 ·simp only [id,Option.bind_some,List.nil_append]
  have hlen0:∀ (l:List tPred),(l.flatMap fun y => (qdo y).filter (fun s => !(s == [118]))).length ≤ nL l:=by
   intro l
   induction l with
   | nil => simp [nL]
   | cons y l ih =>
    have g1:=List.length_filter_le (fun s => !(s == [118])) (qdo y)
    have g2:=qge y
    rw [List.flatMap_cons,List.length_append,nL]
    omega
  have hlen:=hlen0 ([x.Pred] ++ x.Preds)
  have hmem:∀ z,z ∈ (([x.Pred] ++ x.Preds).flatMap fun y => (qdo y).filter (fun s => !(s == [118])))↔z ∈ (vsP x.Pred ++ vsL x.Preds).filter (fun s => !(s == [118])):=by
   intro z
   rw [List.mem_flatMap,List.mem_filter,← qzK]
   simp only [List.mem_filter,qox]
   constructor
   ·rintro ⟨y,hy,h,h'⟩; exact ⟨⟨y,hy,h⟩,h'⟩
   ·rintro ⟨⟨y,hy,h⟩,h'⟩; exact ⟨y,hy,h,h'⟩
  generalize (([x.Pred] ++ x.Preds).flatMap fun y => (qdo y).filter (fun s => !(s == [118]))) = o10 at hlen hmem
  unfold qj3
  have hI:∀ (i:Nat) (h:i < x.Args.length) (s:List Str),s.length ≤ o10.length + wTL (x.Args.take i)→(s ++ (freeT x.Args[i]).filter (fun z => !decide (z ∈ bnd_ x.Op x.Names i))).length ≤ o10.length + wTL (x.Args.take (i + 1)):=fun i h s hs => by
   have g1:=List.length_filter_le (fun z => !decide (z ∈ bnd_ x.Op x.Names i)) (freeT x.Args[i])
   have g2:=qft x.Args[i]
   have g3:=quH x.Args i h
   rw [List.length_append]; omega
  rw [qxJ x.Args (by omega) (fun i s => (s,i)) _ (fun i s y => (qgi x i).bind fun r13 => (R y).bind fun r14 => (qfc (fun t => R t) r13 r14 (r14.length:Int) s 0).bind fun o20 => some (.inl (o20,w64 (i + 1)))) (fun i s => s.length ≤ o10.length + wTL (x.Args.take i)) (fun i y s => s ++ (freeT y).filter (fun z => !decide (z ∈ bnd_ x.Op x.Names i))) id o10 (by simp [wTL]) (fun i s => rfl) (fun i hi s hs => ⟨?_,hI i hi s hs⟩)]
  ·simp only [id,Option.bind_some]
   have hlast:(qrv (fun i y s => s ++ (freeT y).filter (fun z => !decide (z ∈ bnd_ x.Op x.Names i))) x.Args 0 o10).length ≤ o10.length + wTL x.Args:=by
    have key:∀ (l:List tType) (i:Nat) (a:List Str),(qrv (fun i y s => s ++ (freeT y).filter (fun z => !decide (z ∈ bnd_ x.Op x.Names i))) l i a).length ≤ a.length + wTL l:=by
     intro l
     induction l with
     | nil => intro i a; simp [qrv]
     | cons y l ih =>
      intro i a
      have g1:=List.length_filter_le (fun z => !decide (z ∈ bnd_ x.Op x.Names i)) (freeT y)
      have g2:=qft y
      have g3:=ih (i + 1) (a ++ (freeT y).filter (fun z => !decide (z ∈ bnd_ x.Op x.Names i)))
      rw [qrv,wTL]
      rw [List.length_append] at g3
      omega
    exact key x.Args 0 o10
   rw [qpS _ _ (by simp; exact Nat.le_trans hlast (by omega))]
   simp only [Option.bind_some]
   congr 1
   refine qFO fun z => ?_
   rw [qAz,qId,List.mem_append,hmem,qBa]
   simp only [List.mem_filter,qze,Bool.not_eq_true',decide_eq_false_iff_not,List.not_mem_nil,or_false]
  ·have hm:=List.getElem_mem hi
   have g2:=qft x.Args[i]
   have g3:=quH x.Args i hi
   have g4:=qqf x.Args (i + 1)
   have g5:=qg6 hm
   have g6:=qGo hm
   rw [qEw x i (by omega)]
   simp only [Option.bind_some]
   rw [ih _ g5 ⟨by omega,by omega⟩]
   simp only [Option.bind_some]
   have hbl:(bnd_ x.Op x.Names i).length < 9223372036854775808:=by
    unfold bnd_
    split
    ·rw [List.length_take]; omega
    ·simp
   rw [qDR _ _ _ _ hbl (by omega)]
   rfl
 ·have hm:=List.getElem_mem hi
  have g1:=qqe ([x.Pred] ++ x.Preds) i hi
  have g2:=qiA ([x.Pred] ++ x.Preds) (i + 1)
  have g3:=qge ([x.Pred] ++ x.Preds)[i]
  have g4:=List.length_filter_le (fun s => !(s == [118])) (qdo ([x.Pred] ++ x.Preds)[i])
  refine ⟨?_,by rw [List.length_append]; omega⟩
  rw [qCi _ (by omega)]
  simp only [Option.bind_some]
  rw [qDV _ _ _ (by omega)]
  rfl
theorem qyi {l:List Str} {v:Str} (hl:l.length < 9223372036854775808):∃ r,qep l v = some r∧(decide (r < 0) = !decide (v ∈ l))∧(decide (r ≥ 0) = decide (v ∈ l)):=by
 obtain ⟨r,hr,hm⟩:∃ r,qep l v = some r∧(r ≥ 0↔v ∈ l):=⟨_,qyd l v hl,qBQ⟩
 refine ⟨r,hr,?_,decide_eq_decide.2 hm⟩
 by_cases h:v ∈ l
 ·have:=hm.2 h
  rw [decide_eq_false (by omega),decide_eq_true h]; rfl
 ·have:¬ (r ≥ 0):=fun e => h (hm.1 e)
  rw [decide_eq_true (by omega),decide_eq_false h]; rfl
def qpz (ns l:List Str):List Str:=l.filter (fun s => !decide (s ∈ ns))
theorem qCg {ns l:List Str} {x:Str}:x ∈ qpz ns l↔x ∈ l∧x ∉ ns:=by
 unfold qpz
 rw [List.mem_filter]
 simp
theorem quN (ns l:List Str):(qpz ns l).length ≤ l.length:=List.length_filter_le ..
theorem qxf (a ns:List Str) (ha:a.length ≤ 1073741824) (hn:ns.length < 9223372036854775808):qgJ a ns = some (qpz ns a):=by
 unfold qgJ qlj
 rw [qea a (by omega) (fun i s => (s,i)) _ (fun i s x => (qep ns x).bind fun r3 => if (decide (r3 < 0)) = true then (app s ([x]:List Str)).bind fun l5 => some (.inl (l5,w64 (i + 1))) else some (.inl (s,w64 (i + 1)))) (fun i s => s.length ≤ i) (fun x s => if (!decide (x ∈ ns)) = true then s ++ [x] else s) id [] (by simp) (fun i s => rfl) (fun i hi s hs => ?_),qrf]
 ·rfl
 ·refine ⟨?_,by split <;> (try rw [List.length_append,List.length_singleton]) <;> omega⟩
  obtain ⟨r,e1,e2,_⟩:=qyi (l:=ns) (v:=a[i]) hn
  rw [e1]
  simp only [Option.bind_some,e2]
  by_cases hx:(!decide (a[i] ∈ ns)) = true
  ·rw [if_pos hx,if_pos hx,qcq (by simp; omega)]
   rfl
  ·rw [if_neg hx,if_neg hx]
theorem qGU {α:Type} (f:Nat→α→List Str):∀ (l:List α) (i:Nat) (a:List Str),Inc a→Inc (qrv (fun i y s => setU s (f i y)) l i a)∧∀ x,x ∈ qrv (fun i y s => setU s (f i y)) l i a↔x ∈ a∨∃ (j:Nat) (h:j < l.length),x ∈ f (i + j) l[j]
 | [],i,a,h => ⟨h,by simp [qrv]⟩
 | y :: l,i,a,h => by
  obtain ⟨h1,h2⟩:=qGU f l (i + 1) (setU a (f i y)) (qsk _ _)
  refine ⟨h1,fun x => ?_⟩
  rw [qrv,h2,qeW,or_assoc]
  refine or_congr_right ⟨?_,?_⟩
  ·rintro (h | ⟨j,hj,h⟩)
   ·exact ⟨0,by simp,by simpa using h⟩
   ·exact ⟨j + 1,by simp; omega,by rw [show i + (j + 1) = i + 1 + j by omega]; simpa using h⟩
  ·rintro ⟨j,hj,h⟩
   cases j with
   | zero => exact .inl (by simpa using h)
   | succ j => exact .inr ⟨j,by simp at hj; omega,by rw [show i + 1 + j = i + (j + 1) by omega]; simpa using h⟩
theorem qzC (t:tType) (hw:wT t ≤ 100000000) (hl:lenT t ≤ 100000000):quP t = some (freeT t):=by
 refine qfd (F:=qsW) lenT (fun x => wT x ≤ 100000000∧lenT x ≤ 100000000) freeT (fun R x hx ih => ?_) t ⟨hw,hl⟩ (qgV (by unfold bigN; omega))
 obtain ⟨hw,hl⟩:=hx
 show qpg (fun t => R t) x = _
 have h1:=qhn x
 have h2:=qe4 x
 have h3:=qhN x
 have hwe:=qyZ x
 have hn1:=qGT x.Pred x.Preds
 unfold qpg
 rw [qcq (by simp; omega)]
 simp only [Option.bind_some]
 unfold qqI
 rw [qea ([x.Pred] ++ x.Preds) (by simp; omega) (fun i s => (s,i)) _ (fun i s y => (qkZ y).bind fun r4 => (qgJ r4 ([([118]:Str)]:List Str)).bind fun r5 => (qci s r5).bind fun r6 => some (.inl (r6,w64 (i + 1)))) (fun i s => s.length ≤ nL (([x.Pred] ++ x.Preds).take i)) (fun y s => setU s (qpz [([118]:Str)] (qdo y))) id [] (by simp [nL]) (fun i s => rfl) (fun i hi s hs => ?_)]
 ·simp only [id,Option.bind_some]
  obtain ⟨f1,f2⟩:=qmC (fun y => qpz [([118]:Str)] (qdo y)) ([x.Pred] ++ x.Preds) [] qBn
  have hlen0:∀ (l:List tPred) (a:List Str),(l.foldl (fun s y => setU s (qpz [([118]:Str)] (qdo y))) a).length ≤ a.length + nL l:=by
   intro l
   induction l with
   | nil => intro a; simp
   | cons y l ih =>
    intro a
    have g1:=quN [([118]:Str)] (qdo y)
    have g2:=qge y
    have g3:=ih (setU a (qpz [([118]:Str)] (qdo y)))
    have g4:=qeh a (qpz [([118]:Str)] (qdo y))
    rw [List.foldl_cons,nL]
    omega
  have hlen:=hlen0 ([x.Pred] ++ x.Preds) []
  simp only [List.length_nil,Nat.zero_add] at hlen
  have hmem:∀ z,z ∈ (([x.Pred] ++ x.Preds).foldl (fun s y => setU s (qpz [([118]:Str)] (qdo y))) [])↔z ∈ (vsP x.Pred ++ vsL x.Preds).filter (fun s => !(s == [118])):=by
   intro z
   rw [f2,List.mem_filter,← qzK]
   simp only [List.not_mem_nil,false_or,qCg,qox,List.mem_singleton]
   constructor
   ·rintro ⟨y,hy,h,h'⟩; exact ⟨⟨y,hy,h⟩,by simpa using h'⟩
   ·rintro ⟨⟨y,hy,h⟩,h'⟩; exact ⟨y,hy,h,by simpa using h'⟩
  generalize (([x.Pred] ++ x.Preds).foldl (fun s y => setU s (qpz [([118]:Str)] (qdo y))) []) = o10 at hlen hmem f1
  unfold qqg
  have hI:∀ (i:Nat) (h:i < x.Args.length) (s:List Str),s.length ≤ o10.length + wTL (x.Args.take i)→(setU s (qpz (bnd_ x.Op x.Names i) (freeT x.Args[i]))).length ≤ o10.length + wTL (x.Args.take (i + 1)):=fun i h s hs => by
   have g1:=quN (bnd_ x.Op x.Names i) (freeT x.Args[i])
   have g2:=qft x.Args[i]
   have g3:=quH x.Args i h
   have g4:=qeh s (qpz (bnd_ x.Op x.Names i) (freeT x.Args[i]))
   omega
  rw [qxJ x.Args (by omega) (fun i s => (s,i)) _ (fun i s y => (slc x.Names none (some (if (x.Names.length:Int) < i then (x.Names.length:Int) else i))).bind fun l10 => (qj9 (fun t => R t) x l10).bind fun o12 => (R y).bind fun r13 => (qgJ r13 o12).bind fun r14 => (qci s r14).bind fun r15 => some (.inl (r15,w64 (i + 1)))) (fun i s => s.length ≤ o10.length + wTL (x.Args.take i)) (fun i y s => setU s (qpz (bnd_ x.Op x.Names i) (freeT y))) id o10 (by simp [wTL]) (fun i s => rfl) (fun i hi s hs => ⟨?_,hI i hi s hs⟩)]
  ·simp only [id,Option.bind_some]
   obtain ⟨g1,g2⟩:=qGU (fun i y => qpz (bnd_ x.Op x.Names i) (freeT y)) x.Args 0 o10 f1
   congr 1
   refine qEc g1 fun z => ?_
   rw [g2,qId,List.mem_append,hmem,qBa]
   simp only [qCg,qze,List.not_mem_nil,or_false]
  ·have hm:=List.getElem_mem hi
   have g2:=qft x.Args[i]
   have g3:=quH x.Args i hi
   have g4:=qqf x.Args (i + 1)
   have g5:=qg6 hm
   have g6:=qGo hm
   have g7:=quN (bnd_ x.Op x.Names i) (freeT x.Args[i])
   rw [qFy _ i (by omega)]
   simp only [Option.bind_some]
   rw [show qj9 (fun t => R t) x (x.Names.take i) = some (bnd_ x.Op x.Names i) by
    unfold qj9 bnd_
    by_cases ho:x.Op = 6 <;> simp [ho]]
   simp only [Option.bind_some]
   rw [ih _ g5 ⟨by omega,by omega⟩]
   simp only [Option.bind_some]
   have hbl:(bnd_ x.Op x.Names i).length < 9223372036854775808:=by
    unfold bnd_
    split
    ·rw [List.length_take]; omega
    ·simp
   rw [qxf _ _ (by omega) hbl]
   simp only [Option.bind_some]
   rw [qcF _ _ (by omega) (by omega)]
   rfl
 ·have hm:=List.getElem_mem hi
  have g1:=qqe ([x.Pred] ++ x.Preds) i hi
  have g2:=qiA ([x.Pred] ++ x.Preds) (i + 1)
  have g3:=qge ([x.Pred] ++ x.Preds)[i]
  have g4:=quN [([118]:Str)] (qdo ([x.Pred] ++ x.Preds)[i])
  have g5:=qeh s (qpz [([118]:Str)] (qdo ([x.Pred] ++ x.Preds)[i]))
  refine ⟨?_,by omega⟩
  rw [qxR _ (by omega)]
  simp only [Option.bind_some]
  rw [qxf _ _ (by omega) (by simp)]
  simp only [Option.bind_some]
  rw [qcF _ _ (by omega) (by omega)]
  rfl
end Go.Proofs.YtgldgpdhblndkaaGreatDoor
