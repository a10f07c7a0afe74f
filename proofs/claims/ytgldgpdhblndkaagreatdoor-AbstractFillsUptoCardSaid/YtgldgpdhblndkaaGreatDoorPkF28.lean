/- WHAT IS PROVED: parts of the proof, put together by a program (Fl3 Fv1 In1 Pal Pg Pp9 Sb1 Sb2). Conditions: none. -/
import Derived.Test.YtgldgpdhblndkaaGreatDoorPkF27
import Derived.Test.YtgldgpdhblndkaaGreatDoorPkF13
import Derived.Test.YtgldgpdhblndkaaGreatDoorPkF26
noncomputable section
namespace Go.Proofs.YtgldgpdhblndkaaGreatDoor
open Go
set_option linter.unusedVariables false
set_option linter.unusedSimpArgs false
theorem qp8 {a b:List Str} {x:Str}:x ∈ setU a b↔x ∈ a∨x ∈ b:=(qur a b).2 x
theorem qwn (a b:List Str):Inc (setU a b):=(qur a b).1
theorem qJF {a b c d:List Str} (h:∀ x,(x ∈ a∨x ∈ b)↔(x ∈ c∨x ∈ d)):setU a b = setU c d :=
 qpS (qwn a b) (qwn c d) fun x => by rw [qp8,qp8]; exact h x
theorem qLp {l a b:List Str} (hl:Inc l) (h:∀ x,x ∈ l↔x ∈ a∨x ∈ b):l = setU a b:=qpS hl (qwn a b) fun x => by rw [qp8]; exact h x
theorem qAf (a b:List Str):(setU a b).length ≤ a.length + b.length:=by
 have h1:=qx4 (qkn (a ++ b))
 have h2:=qiT (a ++ b)
 rw [vaf] at h2
 unfold setU
 omega
theorem qKP (x:Str):Inc [x]:=by simp [Inc]
theorem qLD:Inc ([]:List Str):=by simp [Inc]
def qyM {α σ:Type} (g:Nat→α→σ→σ):List α→Nat→σ→σ
 | [],_,s => s
 | x :: l,i,s => qyM g l (i + 1) (g i x s)
theorem qGD {α σ τ X:Type} (l:List α) (hl:l.length < 9223372036854775808) (mk:Int→σ→τ) (body:τ→Option (τ⊕X)) (k:Int→σ→α→Option (τ⊕X)) (I:Nat→σ→Prop) (g:Nat→α→σ→σ) (e:σ→X) (s0:σ) (h0:I 0 s0)
  (hb:∀ (i:Int) (s:σ),body (mk i s) = if decide (i < (l.length:Int)) = true then (idx l i).bind (k i s) else some (.inr (e s)))
  (hin:∀ (i:Nat) (h:i < l.length) s,I i s→k i s l[i] = some (.inl (mk (w64 ((i:Int) + 1)) (g i l[i] s)))∧I (i + 1) (g i l[i] s)):loop body (mk 0 s0) = some (e (qyM g l 0 s0)):=by
 have:=qiI l hl mk body I (fun i x s => .inl (g i x s)) e (fun i h s hs => ⟨?_,fun s' hs' => by cases hs'; exact (hin i h s hs).2⟩) (fun s hs => by rw [hb,vam (by simp)]) 0 s0 (vaM _) h0
 ·rw [vbh,show ((0:Nat):Int) = 0 from rfl] at this
  rw [this]
  have key:∀ (l:List α) (i:Nat) (s:σ),runL (fun i x (s:σ) => (Sum.inl (g i x s):σ⊕X)) e l i s = e (qyM g l i s):=by
   intro l
   induction l with
   | nil => intro i s; rfl
   | cons x l ih => intro i s; unfold runL; simp only; rw [ih]; rfl
  rw [key]
 ·rw [hb,vao (by simp; omega),qbb l i h]
  simp only [vaa]
  exact (hin i h s hs).1
mutual
def vsP:tPred→List Str
 | ⟨o,n,k,ks⟩ => (if o = 3 then [n] else []) ++ vsL ks
def vsL:List tPred→List Str
 | [] => []
 | p :: ps => vsP p ++ vsL ps
end
theorem qMc (p:tPred):vsP p = (if p.Op = 3 then [p.Name] else []) ++ vsL p.Kids:=by obtain ⟨o,n,k,ks⟩:=p; rw [vsP]; rfl
theorem qDR {x:Str}:∀ {l:List tPred},x ∈ vsL l↔∃ p ∈ l,x ∈ vsP p
 | [] => by simp [vsL]
 | p :: l => by rw [vsL,vaz,qDR]; simp
mutual
theorem qBw:∀ (p:tPred),(vsP p).length ≤ nP p
 | ⟨o,n,k,ks⟩ => by
  have:=qEO ks
  rw [vsP,nP,vaf]
  split <;> simp <;> omega
theorem qEO:∀ (l:List tPred),(vsL l).length ≤ nL l
 | [] => by simp [vsL]
 | p :: l => by
  have:=qBw p
  have:=qEO l
  rw [vsL,nL,vaf]; omega
end
mutual
theorem qEP:∀ (p:tPred) (s:List Str),nP p ≤ bigN→s.length + (vsP p).length ≤ 1073741824→visP qkT p s = some (true,s ++ vsP p)
 | ⟨o,n,k,ks⟩,s,hp,hs => by
  rw [nP] at hp
  rw [vsP,vaf] at hs
  have hk:=qzz ks
  have h1:qkT s ⟨o,n,k,ks⟩ = some (true,s ++ (if o = 3 then [n] else [])):=by
   unfold qkT
   show (if (o == 3) = true then (app s [n]).bind fun l => some (true,l) else some (true,s)) = _
   by_cases h:o = 3
   ·rw [vao (by simpa using h),vao h,qcq (by rw [vao h] at hs; simp at hs ⊢; omega)]
    rfl
   ·rw [vam (by simpa using h),vam h,va4]
  have h2:=qB5 ks (s ++ (if o = 3 then [n] else [])) (by omega) (by rw [vaf]; omega)
  rw [visP,h1]
  simp only [vaa]
  rw [vao (by unfold bigN at hp; omega),h2,vsP,vbm]
theorem qB5:∀ (l:List tPred) (s:List Str),nL l ≤ bigN→s.length + (vsL l).length ≤ 1073741824→visL qkT l s = some (true,s ++ vsL l)
 | [],s,_,_ => by rw [visL,vsL,va4]
 | p :: l,s,hp,hs => by
  rw [nL] at hp
  rw [vsL,vaf] at hs
  rw [visL,qEP p s (by omega) (by omega)]
  simp only [vaa]
  rw [qB5 l _ (by omega) (by rw [vaf]; omega),vsL,vbm]
end
def qhV (p:tPred):List Str:=setU (vsP p) []
theorem qwO {p:tPred} {x:Str}:x ∈ qhV p↔x ∈ vsP p:=by unfold qhV; rw [qp8]; simp
theorem qox (p:tPred):(qhV p).length ≤ nP p:=by
 have h1:=qAf (vsP p) []
 have h2:=qBw p
 unfold qhV
 simp at h1
 omega
theorem qFI (p:tPred) (hp:nP p ≤ 400000000):qj6 p = some (qhV p):=by
 have h:=qBw p
 unfold qj6
 rw [qEP p [] (by unfold bigN; omega) (by simp; omega)]
 simp only [vaa,vaI]
 rw [qqS _ _ (by simp; omega)]
 rfl
theorem qxG {α:Type} (f:α→List Str):∀ (l:List α) (s:List Str),Inc s→Inc (l.foldl (fun s x => setU s (f x)) s)∧∀ x,x ∈ l.foldl (fun s x => setU s (f x)) s↔x ∈ s∨∃ y ∈ l,x ∈ f y
 | [],s,h => ⟨h,by simp⟩
 | y :: l,s,h => by
  obtain ⟨h1,h2⟩:=qxG f l (setU s (f y)) (qwn _ _)
  refine ⟨h1,fun x => ?_⟩
  rw [List.foldl_cons,h2,qp8]
  simp only [vaC,exists_eq_or_imp,or_assoc]
theorem qJ2 (p:tPred) (hp:nP p ≤ 200000000):qwB p = some (qhV p):=by
 refine qd3 (F:=qud) nP (fun x => nP x ≤ 200000000) qhV (fun R x hx ih => ?_) p hp (qdQ (by unfold bigN; omega))
 show qp1 (fun p => R p) x = _
 unfold qp1 qrG
 rw [show (if (x.Op == 3) = true then some ([x.Name]:List Str) else some ([]:List Str)) = some (if x.Op = 3 then [x.Name] else []) by by_cases h:x.Op = 3 <;> simp [h]]
 simp only [vaa]
 unfold qro
 have hlen:=qgh x
 have hn:=qEA x
 have h0:(if x.Op = 3 then [x.Name] else []:List Str).length ≤ 1:=by split <;> simp
 have hi0:Inc (if x.Op = 3 then [x.Name] else []:List Str):=by split; exact qKP _; exact qLD
 rw [qgw x.Kids (by omega) (fun i s => (s,i)) _ (fun i s y => (R y).bind fun r => (qoU s r).bind fun r6 => some (.inl (r6,w64 (i + 1)))) (fun i s => s.length ≤ 1 + nL (x.Kids.take i)) (fun y s => setU s (qhV y)) id (if x.Op = 3 then [x.Name] else []) (by simpa [nL] using h0) (fun i s => rfl) (fun i hi s hs => ?_)]
 ·simp only [id,vaa]
  obtain ⟨f1,f2⟩:=qxG qhV x.Kids (if x.Op = 3 then [x.Name] else []) hi0
  congr 1
  refine qLp f1 fun y => ?_
  rw [f2,qMc,vaz,qDR]
  simp only [qwO,vbf,or_false]
 ·have hm:=vat hi
  have hk:=qfM hm
  have h1:=quI x.Kids i hi
  have h2:=qjX x.Kids (i + 1)
  have h3:=qox x.Kids[i]
  refine ⟨?_,?_⟩
  ·rw [ih _ hk (by omega)]
   simp only [vaa]
   rw [qCZ _ _ (by omega) (by omega)]
   rfl
  ·have:=qAf s (qhV x.Kids[i])
   omega
def bnd_ (o:Int) (ns:List Str) (i:Nat):List Str:=if o = 6 then ns.take i else []
mutual
def vT:tType→List Str
 | ⟨o,n,xs,ns,p,ps⟩ => (vsP p ++ vsL ps).filter (fun s => !(s == [118])) ++ vTL o ns 0 xs
def vTL (o:Int) (ns:List Str):Nat→List tType→List Str
 | _,[] => []
 | i,a :: xs => (vT a).filter (fun s => !decide (s ∈ bnd_ o ns i)) ++ vTL o ns (i + 1) xs
end
theorem qMU (t:tType):vT t = (vsP t.Pred ++ vsL t.Preds).filter (fun s => !(s == [118])) ++ vTL t.Op t.Names 0 t.Args:=by obtain ⟨o,n,xs,ns,p,ps⟩:=t; rw [vT]; rfl
mutual
def wT:tType→Nat
 | ⟨_,_,xs,_,p,ps⟩ => nP p + nL ps + wTL xs
def wTL:List tType→Nat
 | [] => 0
 | a :: xs => wT a + wTL xs
end
theorem qAB (t:tType):wT t = nP t.Pred + nL t.Preds + wTL t.Args:=by obtain ⟨o,n,xs,ns,p,ps⟩:=t; rw [wT]; rfl
theorem qAb:∀ {l:List tType} {x:tType},x ∈ l→wT x ≤ wTL l
 | y :: l,x,h => by
  rw [wTL]
  rcases vaC.1 h with rfl | h
  ·omega
  ·have:=qAb h; omega
theorem qLf {t a:tType} (h:a ∈ t.Args):wT a ≤ wT t:=by rw [qAB t]; have:=qAb h; omega
theorem qBc (l:List tType) (i:Nat) (h:i < l.length):wTL (l.take (i + 1)) = wTL (l.take i) + wT l[i]:=by
 have key:∀ (a b:List tType),wTL (a ++ b) = wTL a + wTL b:=by
  intro a b
  induction a with
  | nil => simp [wTL]
  | cons x a ih => rw [vaP,wTL,wTL,ih]; omega
 rw [vaE h,key]
 simp [wTL]
theorem qru:∀ (l:List tType) (i:Nat),wTL (l.take i) ≤ wTL l
 | [],i => by simp
 | x :: l,0 => by simp [wTL]
 | x :: l,i + 1 => by rw [List.take_succ_cons,wTL,wTL]; have:=qru l i; omega
mutual
theorem qKv:∀ (t:tType),(vT t).length ≤ wT t
 | ⟨o,n,xs,ns,p,ps⟩ => by
  have h1:=qH6 o ns 0 xs
  have h2:=qBw p
  have h3:=qEO ps
  have h4:=va7 (fun s => !(s == [118])) (vsP p ++ vsL ps)
  rw [vT,wT,vaf]
  rw [vaf] at h4
  omega
theorem qH6 (o:Int) (ns:List Str):∀ (i:Nat) (l:List tType),(vTL o ns i l).length ≤ wTL l
 | i,[] => by simp [vTL]
 | i,a :: xs => by
  have h1:=qKv a
  have h2:=qH6 o ns (i + 1) xs
  have h3:=va7 (fun s => !decide (s ∈ bnd_ o ns i)) (vT a)
  rw [vTL,wTL,vaf]
  omega
end
def freeT (t:tType):List Str:=setU (vT t) []
theorem qHw {t:tType} {x:Str}:x ∈ freeT t↔x ∈ vT t:=by unfold freeT; rw [qp8]; simp
theorem qka (t:tType):(freeT t).length ≤ wT t:=by
 have h1:=qAf (vT t) []
 have h2:=qKv t
 unfold freeT
 simp at h1
 omega
theorem qIV {o:Int} {ns:List Str} {x:Str}:∀ {l:List tType} {i:Nat},x ∈ vTL o ns i l↔∃ (j:Nat) (h:j < l.length),x ∈ vT l[j]∧x ∉ bnd_ o ns (i + j)
 | [],i => by simp [vTL]
 | a :: l,i => by
  rw [vTL,vaz,qIV]
  simp only [vaU,va3,vbl]
  constructor
  ·rintro (h | ⟨j,hj,h1,h2⟩)
   ·exact ⟨0,by simp,by simpa using h⟩
   ·exact ⟨j + 1,by simp; omega,by simpa using h1,by rw [show i + (j + 1) = i + 1 + j by omega]; exact h2⟩
  ·rintro ⟨j,hj,h1,h2⟩
   cases j with
   | zero => exact .inl ⟨by simpa using h1,by simpa using h2⟩
   | succ j => exact .inr ⟨j,by simp at hj; omega,by simpa using h1,by rw [show i + 1 + j = i + (j + 1) by omega]; exact h2⟩
theorem qLr {α:Type} (l:List α) (i:Nat) (hl:l.length < 9223372036854775808):slc l none (some (if (l.length:Int) < (i:Int) then (l.length:Int) else (i:Int))) = some (l.take i):=by
 by_cases h:l.length < i
 ·rw [vao (by omega),qKm l l.length (vak _),vbx (vak _),vbx (by omega)]
 ·rw [vam (by omega),qKm l i (by omega)]
theorem qHt (t:tType) (i:Nat) (h:t.Names.length < 9223372036854775808):qfR t i = some (bnd_ t.Op t.Names i):=by
 unfold qfR bnd_
 by_cases ho:t.Op = 6
 ·rw [vam (by simpa using ho),qLr _ i h,vao ho]
  rfl
 ·rw [vao (by simpa using ho),vam ho]
theorem qxW (f:Str→Bool):∀ (l a:List Str),l.foldl (fun s x => if f x = true then s ++ [x] else s) a = a ++ l.filter f
 | [],a => by simp
 | x :: l,a => by
  rw [List.foldl_cons,qxW f l]
  by_cases h:f x = true <;> simp [h]
theorem qtM {α:Type} (f:α→List Str):∀ (l:List α) (a:List Str),l.foldl (fun s x => s ++ f x) a = a ++ l.flatMap f
 | [],a => by simp
 | x :: l,a => by rw [List.foldl_cons,qtM f l,vbN,vbm]
theorem qC9 {α:Type} (f:Nat→α→List Str):∀ (l:List α) (i:Nat) (a:List Str) (x:Str),x ∈ qyM (fun i y s => s ++ f i y) l i a↔x ∈ a∨∃ (j:Nat) (h:j < l.length),x ∈ f (i + j) l[j]
 | [],i,a,x => by simp [qyM]
 | y :: l,i,a,x => by
  rw [qyM,qC9 f l (i + 1),vaz,or_assoc]
  refine or_congr_right ⟨?_,?_⟩
  ·rintro (h | ⟨j,hj,h⟩)
   ·exact ⟨0,by simp,by simpa using h⟩
   ·exact ⟨j + 1,by simp; omega,by rw [show i + (j + 1) = i + 1 + j by omega]; simpa using h⟩
  ·rintro ⟨j,hj,h⟩
   cases j with
   | zero => exact .inl (by simpa using h)
   | succ j => exact .inr ⟨j,by simp at hj; omega,by rw [show i + 1 + j = i + (j + 1) by omega]; simpa using h⟩
theorem qHa (l out:List Str) (h:out.length + l.length ≤ 1073741824):qeR l (l.length:Int) out 0 = some (out ++ l.filter (fun s => !(s == [118]))):=by
 unfold qeR
 rw [qgw l (by omega) (fun i s => (s,i)) _ (fun i s x => if (!(x == ([118]:Str))) = true then (app s ([x]:List Str)).bind fun l8 => some (.inl (l8,w64 (i + 1))) else some (.inl (s,w64 (i + 1)))) (fun i s => s.length ≤ out.length + i) (fun x s => if (!(x == [118])) = true then s ++ [x] else s) id out (by simp) (fun i s => rfl) (fun i hi s hs => ?_),qxW]
 ·rfl
 ·refine ⟨?_,by split <;> (try rw [vaf,List.length_singleton]) <;> omega⟩
  by_cases hx:(!(l[i] == ([118]:Str))) = true
  ·rw [vao hx,vao hx,qcq (by simp; omega)]
   rfl
  ·rw [vam hx,vam hx]
theorem qIy (b l out:List Str) (hb:b.length < 9223372036854775808) (h:out.length + l.length ≤ 1073741824):qe1 b l (l.length:Int) out 0 = some (out ++ l.filter (fun s => !decide (s ∈ b))):=by
 unfold qe1
 rw [qgw l (by omega) (fun i s => (s,i)) _ (fun i s x => (qbQ b x).bind fun r17 => if (!r17) = true then (app s ([x]:List Str)).bind fun l8 => some (.inl (l8,w64 (i + 1))) else some (.inl (s,w64 (i + 1)))) (fun i s => s.length ≤ out.length + i) (fun x s => if (!decide (x ∈ b)) = true then s ++ [x] else s) id out (by simp) (fun i s => rfl) (fun i hi s hs => ?_),qxW]
 ·rfl
 ·refine ⟨?_,by split <;> (try rw [vaf,List.length_singleton]) <;> omega⟩
  rw [qks b _ hb]
  simp only [vaa]
  by_cases hx:(!decide (l[i] ∈ b)) = true
  ·rw [vao hx,vao hx,qcq (by simp; omega)]
   rfl
  ·rw [vam hx,vam hx]
theorem qHH {p:tPred} {ps:List tPred} {x:Str}:(∃ q ∈ [p] ++ ps,x ∈ vsP q)↔x ∈ vsP p ++ vsL ps:=by
 rw [vaz,qDR]
 simp
theorem qKp (p:tPred) (ps:List tPred):nL ([p] ++ ps) = nP p + nL ps:=by
 rw [qjg]; simp [nL]
theorem qCW (t:tType) (hw:wT t ≤ 200000000) (hl:lenT t ≤ 200000000):qld t = some (freeT t):=by
 refine qd3 (F:=qlE) lenT (fun x => wT x ≤ 200000000∧lenT x ≤ 200000000) freeT (fun R x hx ih => ?_) t ⟨hw,hl⟩ (qdQ (by unfold bigN; omega))
 obtain ⟨hw,hl⟩:=hx
 show qiO (fun t => R t) x = _
 have h1:=qeD x
 have h2:=qjc x
 have h3:=qe7 x
 have hwe:=qAB x
 have hn1:=qKp x.Pred x.Preds
 unfold qiO
 rw [qcq (by simp; omega)]
 simp only [vaa]
 unfold qj5
 rw [qgw ([x.Pred] ++ x.Preds) (by simp; omega) (fun i s => (s,i)) _ (fun i s y => (qj6 y).bind fun r4 => (qeR r4 (r4.length:Int) s 0).bind fun o9 => some (.inl (o9,w64 (i + 1)))) (fun i s => s.length ≤ nL (([x.Pred] ++ x.Preds).take i)) (fun y s => s ++ (qhV y).filter (fun s => !(s == [118]))) id [] (by simp [nL]) (fun i s => rfl) (fun i hi s hs => ?_),qtM]
 ·simp only [id,vaa,vaI]
  have hlen0:∀ (l:List tPred),(l.flatMap fun y => (qhV y).filter (fun s => !(s == [118]))).length ≤ nL l:=by
   intro l
   induction l with
   | nil => simp [nL]
   | cons y l ih =>
    have g1:=va7 (fun s => !(s == [118])) (qhV y)
    have g2:=qox y
    rw [vbN,vaf,nL]
    omega
  have hlen:=hlen0 ([x.Pred] ++ x.Preds)
  have hmem:∀ z,z ∈ (([x.Pred] ++ x.Preds).flatMap fun y => (qhV y).filter (fun s => !(s == [118])))↔z ∈ (vsP x.Pred ++ vsL x.Preds).filter (fun s => !(s == [118])):=by
   intro z
   rw [vcU,vaU,← qHH]
   simp only [vaU,qwO]
   constructor
   ·rintro ⟨y,hy,h,h'⟩; exact ⟨⟨y,hy,h⟩,h'⟩
   ·rintro ⟨⟨y,hy,h⟩,h'⟩; exact ⟨y,hy,h,h'⟩
  generalize (([x.Pred] ++ x.Preds).flatMap fun y => (qhV y).filter (fun s => !(s == [118]))) = o10 at hlen hmem
  unfold qke
  have hI:∀ (i:Nat) (h:i < x.Args.length) (s:List Str),s.length ≤ o10.length + wTL (x.Args.take i)→(s ++ (freeT x.Args[i]).filter (fun z => !decide (z ∈ bnd_ x.Op x.Names i))).length ≤ o10.length + wTL (x.Args.take (i + 1)):=fun i h s hs => by
   have g1:=va7 (fun z => !decide (z ∈ bnd_ x.Op x.Names i)) (freeT x.Args[i])
   have g2:=qka x.Args[i]
   have g3:=qBc x.Args i h
   rw [vaf]; omega
  rw [qGD x.Args (by omega) (fun i s => (s,i)) _ (fun i s y => (qfR x i).bind fun r13 => (R y).bind fun r14 => (qe1 r13 r14 (r14.length:Int) s 0).bind fun o20 => some (.inl (o20,w64 (i + 1)))) (fun i s => s.length ≤ o10.length + wTL (x.Args.take i)) (fun i y s => s ++ (freeT y).filter (fun z => !decide (z ∈ bnd_ x.Op x.Names i))) id o10 (by simp [wTL]) (fun i s => rfl) (fun i hi s hs => ⟨?_,hI i hi s hs⟩)]
  ·simp only [id,vaa]
   have hlast:(qyM (fun i y s => s ++ (freeT y).filter (fun z => !decide (z ∈ bnd_ x.Op x.Names i))) x.Args 0 o10).length ≤ o10.length + wTL x.Args:=by
    have key:∀ (l:List tType) (i:Nat) (a:List Str),(qyM (fun i y s => s ++ (freeT y).filter (fun z => !decide (z ∈ bnd_ x.Op x.Names i))) l i a).length ≤ a.length + wTL l:=by
     intro l
     induction l with
     | nil => intro i a; simp [qyM]
     | cons y l ih =>
      intro i a
      have g1:=va7 (fun z => !decide (z ∈ bnd_ x.Op x.Names i)) (freeT y)
      have g2:=qka y
      have g3:=ih (i + 1) (a ++ (freeT y).filter (fun z => !decide (z ∈ bnd_ x.Op x.Names i)))
      rw [qyM,wTL]
      rw [vaf] at g3
      omega
    exact key x.Args 0 o10
   rw [qqS _ _ (by simp; exact vaQ hlast (by omega))]
   simp only [vaa]
   congr 1
   refine qJF fun z => ?_
   rw [qC9,qMU,vaz,hmem,qIV]
   simp only [vaU,qHw,va3,vbl,vbf,or_false]
  ·have hm:=vat hi
   have g2:=qka x.Args[i]
   have g3:=qBc x.Args i hi
   have g4:=qru x.Args (i + 1)
   have g5:=qde hm
   have g6:=qLf hm
   rw [qHt x i (by omega)]
   simp only [vaa]
   rw [ih _ g5 ⟨by omega,by omega⟩]
   simp only [vaa]
   have hbl:(bnd_ x.Op x.Names i).length < 9223372036854775808:=by
    unfold bnd_
    split
    ·rw [va2]; omega
    ·simp
   rw [qIy _ _ _ hbl (by omega)]
   rfl
 ·have hm:=vat hi
  have g1:=quI ([x.Pred] ++ x.Preds) i hi
  have g2:=qjX ([x.Pred] ++ x.Preds) (i + 1)
  have g3:=qox ([x.Pred] ++ x.Preds)[i]
  have g4:=va7 (fun s => !(s == [118])) (qhV ([x.Pred] ++ x.Preds)[i])
  refine ⟨?_,by rw [vaf]; omega⟩
  rw [qFI _ (by omega)]
  simp only [vaa]
  rw [qHa _ _ (by omega)]
  rfl
theorem qz6 {σ τ X:Type} (n:Nat) (hn:n < 9223372036854775808) (mk:Int→σ→τ) (body:τ→Option (τ⊕X)) (F:Nat→σ) (y:X)
  (hin:∀ i,i < n→body (mk (i:Int) (F i)) = some (.inl (mk (w64 ((i:Int) + 1)) (F (i + 1))))) (hend:body (mk (n:Int) (F n)) = some (.inr y)):loop body (mk 0 (F 0)) = some y:=by
 have key:∀ k i,k + i = n→loop body (mk (i:Int) (F i)) = some y:=by
  intro k
  induction k with
  | zero =>
   intro i hi
   have:i = n:=by omega
   subst this
   exact qkg hend
  | succ k ih =>
   intro i hi
   rw [qmm (hin i (by omega)),qiY (by omega) (by omega),show ((i:Int) + 1) = ((i + 1:Nat):Int) by omega]
   exact ih (i + 1) (by omega)
 exact key n 0 (by omega)
abbrev Sb:Type:=List (Str×tPred)
abbrev kN (c:Sb):List Str:=c.map (·.1)
abbrev kB (c:Sb):List tPred:=c.map (·.2)
def varP (x:Str):tPred:=⟨3,x,0,[]⟩
def qeI (x:Str) (c:Sb):Sb:=c.filter (fun e => !(e.1 == x))
def qFc (x:Str) (c:Sb):Bool:=c.any (fun e => decide (x ∈ vsP e.2))
abbrev S3:Type:=List Str×Sb×List Str
def chS (o:Int) (ns:List Str) (i:Nat) (s:S3):S3 :=
 if o = 6∧i < ns.length then
  if qFc (ns.getD i []) (qeI (ns.getD i []) s.2.1) = true then
   (s.1 ++ [qia s.1 (ns.getD i [])],qeI (ns.getD i []) s.2.1 ++ [(ns.getD i [],varP (qia s.1 (ns.getD i [])))],s.2.2.set i (qia s.1 (ns.getD i [])))
  else (s.1,qeI (ns.getD i []) s.2.1,s.2.2)
 else s
mutual
def chT:tType→Sb→tType
 | ⟨o,n,xs,ns,p,ps⟩,c =>
  ⟨o,n,(chL o ns 0 xs (((kB c).flatMap qhV ++ freeT ⟨o,n,xs,ns,p,ps⟩) ++ ns,c,ns)).1,(chL o ns 0 xs (((kB c).flatMap qhV ++ freeT ⟨o,n,xs,ns,p,ps⟩) ++ ns,c,ns)).2,sbP (look (kN c) (kB c)) p,ps.map (sbP (look (kN c) (kB c)))⟩
def chL (o:Int) (ns:List Str):Nat→List tType→S3→List tType×List Str
 | _,[],s => ([],s.2.2)
 | i,a :: xs,s => (chT a s.2.1 :: (chL o ns (i + 1) xs (chS o ns i s)).1,(chL o ns (i + 1) xs (chS o ns i s)).2)
end
def chQ (o:Int) (ns:List Str) (s:S3):Nat→S3
 | 0 => s
 | i + 1 => chS o ns i (chQ o ns s i)
def qdh (t:tType) (c:Sb):S3:=(((kB c).flatMap qhV ++ freeT t) ++ t.Names,c,t.Names)
theorem qKu (o:Int) (ns:List Str) (s:S3):∀ (xs:List tType) (i:Nat),chL o ns i xs (chQ o ns s i) = ((xs.zipIdx i).map (fun y => chT y.1 (chQ o ns s y.2).2.1),(chQ o ns s (i + xs.length)).2.2)
 | [],i => by rw [chL]; rfl
 | a :: xs,i => by
  have ih:=qKu o ns s xs (i + 1)
  rw [chL,show chS o ns i (chQ o ns s i) = chQ o ns s (i + 1) from rfl,ih,List.zipIdx_cons,vax,vaS,show i + 1 + xs.length = i + (xs.length + 1) by omega]
theorem qKG (t:tType) (c:Sb):chT t c = ⟨t.Op,t.Name,(t.Args.zipIdx).map (fun y => chT y.1 (chQ t.Op t.Names (qdh t c) y.2).2.1),(chQ t.Op t.Names (qdh t c) t.Args.length).2.2,sbP (look (kN c) (kB c)) t.Pred,t.Preds.map (sbP (look (kN c) (kB c)))⟩:=by
 obtain ⟨o,n,xs,ns,p,ps⟩:=t
 have h:=qKu o ns (qdh ⟨o,n,xs,ns,p,ps⟩ c) xs 0
 rw [show chQ o ns (qdh ⟨o,n,xs,ns,p,ps⟩ c) 0 = (((kB c).flatMap qhV ++ freeT ⟨o,n,xs,ns,p,ps⟩) ++ ns,c,ns) from rfl,vaF] at h
 rw [chT,h]
 rfl
def chA (t:tType) (c:Sb) (i:Nat):List tType:=((t.Args.take i).zipIdx).map (fun y => chT y.1 (chQ t.Op t.Names (qdh t c) y.2).2.1)
theorem qJ9 (t:tType) (c:Sb) (i:Nat) (h:i < t.Args.length):chA t c (i + 1) = chA t c i ++ [chT t.Args[i] (chQ t.Op t.Names (qdh t c) i).2.1]:=by
 unfold chA
 rw [vaE h,List.zipIdx_append,vbU,va2]
 rw [show min i t.Args.length = i by omega]
 simp [List.zipIdx_cons]
theorem qLz (t:tType) (c:Sb) (i:Nat) (h:i ≤ t.Args.length):(chA t c i).length = i:=by
 unfold chA
 rw [vaL,List.length_zipIdx,va2]
 omega
theorem qLe (t:tType) (c:Sb):chA t c t.Args.length = (t.Args.zipIdx).map (fun y => chT y.1 (chQ t.Op t.Names (qdh t c) y.2).2.1):=by
 unfold chA
 rw [vbx (vak _)]
theorem qD2 (x:Str):∀ (c:Sb),kN (qeI x c) = (kN c).filter (fun n => !(n == x))
 | [] => rfl
 | e :: c => by
  have ih:=qD2 x c
  unfold qeI kN at ih ⊢
  rw [vbe,vax,vbe]
  split
  ·rw [vax,ih]
  ·exact ih
theorem qKk (x:Str) (c:Sb):x ∉ kN (qeI x c):=by rw [qD2]; simp
theorem qu0 {x:Str} {c:Sb} (h:(kN c).Nodup):(kN (qeI x c)).Nodup:=by rw [qD2]; exact h.filter _
theorem qGs (x:Str) (c:Sb):qeI x (qeI x c) = qeI x c:=by
 unfold qeI
 rw [vcf]
 congr 1
 funext e
 cases (e.1 == x) <;> rfl
theorem qEH (x:Str):∀ (c:Sb),nL (kB (qeI x c)) ≤ nL (kB c)
 | [] => by simp [qeI,kB]
 | e :: c => by
  have ih:=qEH x c
  unfold qeI kB at ih ⊢
  rw [vbe]
  split
  ·rw [vax,vax,nL,nL]; omega
  ·rw [vax,nL]; omega
theorem qGP (c:Sb):c.length ≤ nL (kB c):=by
 have:=qzz (kB c)
 rwa [vaL] at this
theorem qDv (x:Str):nP (varP x) = 1:=by simp [varP,nP,nL]
theorem qLM (c:Sb) (e:Str×tPred):nL (kB (c ++ [e])) = nL (kB c) + nP e.2:=by
 unfold kB
 rw [vbU,qjg]; simp [nL]
theorem qx5 (o:Int) (ns:List Str) (s:S3) (h:(kN s.2.1).Nodup):∀ i,(kN (chQ o ns s i).2.1).Nodup
 | 0 => h
 | i + 1 => by
  have ih:=qx5 o ns s h i
  show (kN (chS o ns i (chQ o ns s i)).2.1).Nodup
  unfold chS
  split
  ·split
   ·unfold kN
    rw [vbU]
    simp only [vax,vbE]
    rw [List.nodup_append]
    refine ⟨qu0 ih,by simp,fun a ha b hb => ?_⟩
    rw [vaJ] at hb
    subst hb
    exact fun e => qKk _ _ (e ▸ ha)
   ·exact qu0 ih
  ·exact ih
theorem qK5 (o:Int) (ns:List Str) (s:S3):∀ i,nL (kB (chQ o ns s i).2.1) ≤ nL (kB s.2.1) + min i ns.length
 | 0 => by simp [chQ]
 | i + 1 => by
  have ih:=qK5 o ns s i
  show nL (kB (chS o ns i (chQ o ns s i)).2.1) ≤ _
  have hd:=qEH (ns.getD i []) (chQ o ns s i).2.1
  unfold chS
  split
  ·rename_i hc
   split
   ·show nL (kB (qeI (ns.getD i []) (chQ o ns s i).2.1 ++ [(ns.getD i [],varP (qia (chQ o ns s i).1 (ns.getD i [])))])) ≤ _
    rw [qLM,qDv]
    omega
   ·show nL (kB (qeI (ns.getD i []) (chQ o ns s i).2.1)) ≤ _
    omega
  ·omega
theorem qLV (o:Int) (ns:List Str) (s:S3):∀ i,(chQ o ns s i).1.length ≤ s.1.length + i
 | 0 => by simp [chQ]
 | i + 1 => by
  have ih:=qLV o ns s i
  show (chS o ns i (chQ o ns s i)).1.length ≤ _
  unfold chS
  split
  ·split
   ·simp only [vaf,List.length_singleton]; omega
   ·simp only; omega
  ·omega
theorem qLv (o:Int) (ns:List Str) (s:S3):∀ i,(chQ o ns s i).2.2.length = s.2.2.length
 | 0 => rfl
 | i + 1 => by
  have ih:=qLv o ns s i
  show (chS o ns i (chQ o ns s i)).2.2.length = _
  unfold chS
  split
  ·split
   ·simp only [vbw]; exact ih
   ·exact ih
  ·exact ih
theorem qt2:∀ (l:List tPred),(l.flatMap qhV).length ≤ nL l
 | [] => by simp [nL]
 | p :: l => by
  have:=qt2 l
  have:=qox p
  rw [vbN,vaf,nL]; omega
theorem qLd (t:tType) (c:Sb):(qdh t c).1.length ≤ nL (kB c) + wT t + lenT t:=by
 have h1:=qt2 (kB c)
 have h2:=qka t
 have h3:=qjc t
 unfold qdh
 simp only [vaf]
 omega
theorem qGr (x:Str) (c:Sb):decide (x ∈ (kB c).flatMap qhV) = qFc x c:=by
 unfold qFc
 rw [vcD,vah,vby,vcU]
 simp only [qwO,vah,kB,vas]
 constructor
 ·rintro ⟨p,⟨e,he,rfl⟩,h⟩; exact ⟨e,he,h⟩
 ·rintro ⟨e,he,h⟩; exact ⟨e.2,⟨e,he,rfl⟩,h⟩
theorem qCI {α:Type} (n:Nat) (l:List α) (i:Nat) (h:i < n) (h2:i < l.length):idn n l (i:Int) = some l[i]:=by
 unfold idn
 rw [vao ⟨by omega,by omega⟩]
 simp [h2]
theorem qIA {α:Type} (l:List α) (i:Nat) (x:α) (h:i < l.length):upd l (i:Int) x = some (l.set i x):=by
 unfold upd
 rw [vao ⟨by omega,by omega⟩]
 rfl
theorem qFg {α:Type} (n:Nat) (l:List α) (h:n = l.length):frz n l = some l:=vao h
theorem qyd (ns:List Str) (i:Nat) (h:i < ns.length):ns.getD i [] = ns[i]:=by simp [h]
theorem qDB:∀ (k u:Nat),u < 10 ^ (k + 1)→(Lib.decDigits u).length ≤ k + 1
 | 0,u,h => by
  rw [Lib.decDigits,dif_pos (by omega)]; simp
 | k + 1,u,h => by
  rw [Lib.decDigits]
  by_cases h10:u < 10
  ·rw [dif_pos h10]; simp
  ·rw [dif_neg h10]
   have:=qDB k (u / 10) (by
    have:10 ^ (k + 1 + 1) = 10 ^ (k + 1) * 10:=Nat.pow_succ ..
    omega)
   simp only [vaf,List.length_singleton]
   omega
theorem qzS (used:List Str) (base:Str):∀ (k n:Nat),n + k ≤ 100000002→(qsS used base k n).length ≤ base.length + 10
 | 0,n,_ => by rw [qsS]; simp
 | k + 1,n,h => by
  rw [qsS]
  split
  ·exact qzS used base k (n + 1) (by omega)
  ·rw [vaf]
   have:=qDB 8 n (by omega)
   omega
theorem qzU (used:List Str) (base:Str):(qia used base).length ≤ base.length + 10:=by
 unfold qia
 split
 ·exact qzS used base 100000001 1 (by omega)
 ·omega
mutual
def allN (L:Nat):tType→Prop
 | ⟨_,_,xs,ns,_,_⟩ => (∀ s ∈ ns,s.length ≤ L)∧qhX L xs
def qhX (L:Nat):List tType→Prop
 | [] => True
 | a :: xs => allN L a∧qhX L xs
end
theorem qtR (L:Nat) (t:tType):allN L t↔(∀ s ∈ t.Names,s.length ≤ L)∧qhX L t.Args:=by obtain ⟨o,n,xs,ns,p,ps⟩:=t; rw [allN]; rfl
theorem qj1 (L:Nat):∀ (l:List tType),qhX L l↔∀ t ∈ l,allN L t
 | [] => by simp [qhX]
 | a :: l => by rw [qhX,qj1 L l]; simp
theorem qFj {L:Nat} {t a:tType} (h:allN L t) (ha:a ∈ t.Args):allN L a:=(qj1 L _).1 ((qtR L t).1 h).2 a ha
mutual
theorem qtD {L M:Nat} (h:L ≤ M):∀ (t:tType),allN L t→allN M t
 | ⟨_,_,xs,ns,_,_⟩,ht => by
  rw [allN] at ht ⊢
  exact ⟨fun s hs => vaQ (ht.1 s hs) h,qim h xs ht.2⟩
theorem qim {L M:Nat} (h:L ≤ M):∀ (l:List tType),qhX L l→qhX M l
 | [],_ => trivial
 | a :: xs,hl => by
  rw [qhX] at hl ⊢
  exact ⟨qtD h a hl.1,qim h xs hl.2⟩
end
theorem qLw {ns:List Str} {s:Str} (h:s ∈ ns):s.length ≤ pmLL (ns.map cS):=by
 have h2:=qwq (vas.2 ⟨s,h,rfl⟩:cS s ∈ ns.map cS)
 simp only [cS,pmL,pm] at h2
 omega
mutual
theorem qHJ (B:Nat):∀ (t:tType),pmL (qac t) ≤ B→allN B t
 | ⟨o,n,xs,ns,p,ps⟩,h => by
  rw [qAd] at h
  have h:1 + (pm (.str n) + (pm (sl qac xs) + (pm (sl cS ns) + (1 + (pm (.str p.Name) + (1 + (pm (sl qaa p.Kids) + (pm (sl qaa ps) + 0)))))))) ≤ B:=h
  simp only [pm,sl] at h
  rw [allN]
  exact ⟨fun s hs => by have:=qLw hs; omega,qFT B xs (by omega)⟩
theorem qFT (B:Nat):∀ (l:List tType),pmLL (l.map qac) ≤ B→qhX B l
 | [],_ => trivial
 | a :: xs,h => by
  simp only [vax,pmLL] at h
  rw [qhX]
  exact ⟨qHJ B a (by omega),qFT B xs (by omega)⟩
end
mutual
theorem qK3:∀ (t:tType),wT t ≤ pmL (qac t)
 | ⟨o,n,xs,ns,p,ps⟩ => by
  have h1:=qKK xs
  have h2:=qID ps
  have h3:=qID p.Kids
  have h4:=qEA p
  rw [wT,qAd]
  show _ ≤ 1 + (pm (.str n) + (pm (sl qac xs) + (pm (sl cS ns) + (1 + (pm (.str p.Name) + (1 + (pm (sl qaa p.Kids) + (pm (sl qaa ps) + 0))))))))
  simp only [pm,sl]
  omega
theorem qKK:∀ (l:List tType),wTL l ≤ pmLL (l.map qac)
 | [] => by simp [wTL]
 | a :: l => by
  have:=qK3 a
  have:=qKK l
  rw [wTL]
  simp only [vax,pmLL]
  omega
end
theorem qwj:∀ (c:Sb),(kN c).zip (kB c) = c
 | [] => rfl
 | e :: c => by
  have ih:=qwj c
  unfold kN kB at ih ⊢
  rw [vax,vax,List.zip_cons_cons,ih]
def woC (hid:List Str) (c:Sb):Sb:=c.foldl (fun o e => if e.1 ∈ hid∨e.1 ∈ kN o then o else o ++ [e]) []
theorem qJK (hid:List Str) (c:Sb) (i:Nat) (h:i < c.length):woC hid (c.take (i + 1)) = if c[i].1 ∈ hid∨c[i].1 ∈ kN (woC hid (c.take i)) then woC hid (c.take i) else woC hid (c.take i) ++ [c[i]]:=by
 unfold woC
 rw [vaE h,vbY]
 rfl
theorem qLO (hid:List Str):∀ (c:Sb),(woC hid c).length ≤ c.length:=by
 have key:∀ (c o:Sb),(c.foldl (fun o e => if e.1 ∈ hid∨e.1 ∈ kN o then o else o ++ [e]) o).length ≤ o.length + c.length:=by
  intro c
  induction c with
  | nil => intro o; simp
  | cons e c ih =>
   intro o
   rw [List.foldl_cons,vaS]
   refine vaQ (ih _) ?_
   split
   ·omega
   ·rw [vaf,List.length_singleton]; omega
 intro c
 have:=key c []
 simpa [woC] using this
theorem qKS {x:Str} {c:Sb} (h:(kN c).Nodup):woC [x] c = qeI x c:=by
 have key:∀ (c o:Sb),(kN c).Nodup→(∀ e ∈ c,e.1 ∉ kN o)→c.foldl (fun o e => if e.1 ∈ [x]∨e.1 ∈ kN o then o else o ++ [e]) o = o ++ qeI x c:=by
  intro c
  induction c with
  | nil => intro o _ _; simp [qeI]
  | cons e c ih =>
   intro o hn ho
   unfold kN at hn
   rw [vax,vbS] at hn
   have h1:=ho e (by simp)
   rw [List.foldl_cons]
   by_cases hx:e.1 = x
   ·rw [vao (.inl (by simp [hx])),ih o hn.2 (fun e' he' => ho e' (by simp [he']))]
    unfold qeI
    rw [vbe,vam (by simp [hx])]
   ·rw [vam (by simp only [vaJ]; rintro (h | h); exact hx h; exact h1 h)]
    rw [ih (o ++ [e]) hn.2 (fun e' he' hm => by
     unfold kN at hm
     rw [vbU,vaz] at hm
     rcases hm with hm | hm
     ·exact ho e' (by simp [he']) hm
     ·simp only [vax,vbE,vaJ] at hm
      exact hn.1 (vas.2 ⟨e',he',hm⟩))]
    unfold qeI
    rw [vbe,vao (by simpa using hx),vbm]
    rfl
 have:=key c [] h (fun e _ => by simp)
 simpa [woC] using this
theorem qxK (hid:List Str) (c:Sb) (hh:hid.length < 9223372036854775808) (hc:c.length ≤ 1000000000):qaU ⟨kN c,kB c⟩ hid = some ⟨kN (woC hid c),kB (woC hid c)⟩:=by
 unfold qaU qco
 have hl:(kN c).length = c.length:=vaL ..
 have:=qz6 c.length (by omega) (fun i (s:List Str×List tPred) => (i,s.1,s.2)) (fun (zz:Int×(List Str)×(List tPred)) => qaR hid ⟨kN c,kB c⟩ (kN c) ((kN c).length:Int) zz.1 zz.2.1 zz.2.2)
  (fun i => (kN (woC hid (c.take i)),kB (woC hid (c.take i)))) (kN (woC hid c),kB (woC hid c)) (fun i hi => ?_) ?_
 ·rw [show (woC hid (c.take 0)) = [] from rfl] at this
  rw [show (((0:Int),([]:List Str),([]:List tPred)):Int×(List Str)×(List tPred)) = (0,kN [],kB []) from rfl,this]
  rfl
 ·show qaR hid ⟨kN c,kB c⟩ (kN c) ((kN c).length:Int) (i:Int) (kN (woC hid (c.take i))) (kB (woC hid (c.take i))) = _
  unfold qaR qck
  have hw:=qLO hid (c.take i)
  rw [va2] at hw
  have hkl:(kN (woC hid (c.take i))).length = (woC hid (c.take i)).length:=vaL ..
  have hkb:(kB (woC hid (c.take i))).length = (woC hid (c.take i)).length:=vaL ..
  rw [vao (by simp; omega),qbb (kN c) i (by omega)]
  simp only [vaa]
  rw [qks hid _ hh,qks (kN (woC hid (c.take i))) _ (by omega)]
  simp only [vaa]
  have hg:(kN c)[i]'(by omega) = c[i].1:=by simp [kN]
  have hb:(kB c)[i]'(by simp [kB]; omega) = c[i].2:=by simp [kB]
  rw [hg,qJK hid c i hi]
  by_cases h1:c[i].1 ∈ hid
  ·simp only [h1,decide_true,vbF,vaK,if_false,vaa,true_or,if_true]
  ·by_cases h2:c[i].1 ∈ kN (woC hid (c.take i))
   ·simp only [h1,h2,decide_false,decide_true,vbH,vbF,vaK,if_false,vaa,or_true,if_true]
   ·simp only [h1,h2,decide_false,vbH,if_true,vaa,or_self,if_false]
    rw [qcq (by simp; omega)]
    simp only [vaa]
    rw [qbb (kB c) i (by simp [kB]; omega)]
    simp only [vaa,hb]
    rw [qcq (by simp; omega)]
    simp [kN,kB]
 ·show qaR hid ⟨kN c,kB c⟩ (kN c) ((kN c).length:Int) (c.length:Int) (kN (woC hid (c.take c.length))) (kB (woC hid (c.take c.length))) = _
  unfold qaR
  rw [vam (by simp),vbx (vak _)]
theorem qKA (x:Str) (c:Sb) (hn:(kN c).Nodup) (hc:c.length ≤ 1000000000):qaU ⟨kN c,kB c⟩ [x] = some ⟨kN (qeI x c),kB (qeI x c)⟩:=by
 rw [qxK [x] c (by simp) hc,qKS hn]
theorem qKd (x:Str) (q:tPred) (c:Sb) (hn:(kN c).Nodup) (hc:c.length ≤ 1000000000):qct ⟨kN (qeI x c),kB (qeI x c)⟩ x q = some ⟨kN (qeI x c ++ [(x,q)]),kB (qeI x c ++ [(x,q)])⟩:=by
 unfold qct
 have hd:(qeI x c).length ≤ c.length:=va7 ..
 rw [qKA x _ (qu0 hn) (by omega),qGs]
 simp only [vaa]
 have h1:(kN (qeI x c)).length = (qeI x c).length:=vaL ..
 have h2:(kB (qeI x c)).length = (qeI x c).length:=vaL ..
 rw [qcq (by simp; omega)]
 simp only [vaa]
 rw [qcq (by simp; omega)]
 simp [kN,kB]
theorem qCQ (ns:List Str) (bs:List tPred) (h:nL bs ≤ 400000000):qbP ⟨ns,bs⟩ = some (bs.flatMap qhV):=by
 unfold qbP qcZ
 have hl:=qzz bs
 show (loop (fun (zz:(List Str)×Int) => qcF bs (bs.length:Int) zz.1 zz.2) ([],0)).bind _ = _
 rw [qgw bs (by omega) (fun i s => (s,i)) _ (fun i s x => (qj6 x).bind fun r3 => (app s r3).bind fun l4 => some (.inl (l4,w64 (i + 1)))) (fun i s => s.length ≤ nL (bs.take i)) (fun x s => s ++ qhV x) id [] (by simp [nL]) (fun i s => rfl) (fun i hi s hs => ?_),qtM]
 ·rfl
 ·have h1:=quI bs i hi
  have h2:=qjX bs (i + 1)
  have h3:=qox bs[i]
  refine ⟨?_,by rw [vaf]; omega⟩
  rw [qFI _ (by omega)]
  simp only [vaa]
  rw [qcq (by omega)]
  rfl
structure okS (t:tType) (c:Sb):Prop where
 nd:(kN c).Nodup
 sz:nL (kB c) + lenT t ≤ 20000000
 w:wT t ≤ 20000000
 n:allN 1000000000000000 t
theorem qL9 {c:Sb} {q:tPred} (h:q ∈ kB c):nP q ≤ nL (kB c):=qzA h
theorem qMJ {t:tType}:nP t.Pred ≤ wT t:=by rw [qAB]; omega
theorem qFA {t:tType} {q:tPred} (h:q ∈ t.Preds):nP q ≤ wT t:=by rw [qAB]; have:=qzA h; omega
theorem qLk {t:tType} {c:Sb} (h:okS t c) (i:Nat) (hi:i < t.Args.length):okS t.Args[i] (chQ t.Op t.Names (qdh t c) i).2.1 where
 nd:=qx5 _ _ _ h.nd i
 sz:=by
  have h1:=qK5 t.Op t.Names (qdh t c) i
  have h2:=qkG t
  have h3:=qmf (vat hi)
  have h4:=h.sz
  show nL (kB (chQ t.Op t.Names (qdh t c) i).2.1) + lenT t.Args[i] ≤ 20000000
  have h5:nL (kB (qdh t c).2.1) = nL (kB c):=rfl
  omega
 w:=vaQ (qLf (vat hi)) h.w
 n:=qFj h.n (vat hi)
theorem qyc (c:Sb) (p:tPred) (hp:nP p ≤ bigN) (hc:nL (kB c) ≤ bigN):qbh ⟨kN c,kB c⟩ p = some (sbP (look (kN c) (kB c)) p):=by
 unfold qbh
 have:=qGP c
 have h1:(kN c).length = c.length:=vaL ..
 rw [qLu p (kN c) (kB c) hp (by unfold bigN at hc; omega) (fun q hq => vaQ (qL9 hq) hc)]
 rfl
theorem qzG (c:Sb) (l:List tPred) (hl:l.length ≤ 1073741824) (hp:∀ p ∈ l,nP p ≤ bigN) (hc:nL (kB c) ≤ bigN):qfJ l ⟨kN c,kB c⟩ = some (l.map (sbP (look (kN c) (kB c)))):=by
 unfold qfJ qiv
 rw [qb6 l hl (fun i s => (s,i)) _ (fun y => qbh ⟨kN c,kB c⟩ y) (sbP (look (kN c) (kB c))) id (fun i s => rfl) (fun y hy => qyc c y (hp y hy) hc)]
 rfl
theorem qKD {o:Int} (ho:o ≠ 6) (ns:List Str) (s:S3):∀ i,chQ o ns s i = s
 | 0 => rfl
 | i + 1 => by
  show chS o ns i (chQ o ns s i) = s
  rw [qKD ho ns s i]
  unfold chS
  rw [vam (fun h => ho h.1)]
theorem qsC {α β:Type} (f:α→β):∀ (l:List α) (i:Nat),(l.zipIdx i).map (fun y => f y.1) = l.map f
 | [],i => rfl
 | x :: l,i => by rw [List.zipIdx_cons,vax,vax,qsC f l (i + 1)]
theorem qKZ (t:tType) (c:Sb) (h:okS t c):qdI ⟨kN c,kB c⟩ t = some (chT t c):=by
 have hbig:lenT t < big:=qdQ (by have:=h.sz; unfold bigN; omega)
 refine (qd3 (F:=qdg) (fun x => lenT x.2) (fun x => ∃ c,x.1 = ⟨kN c,kB c⟩∧okS x.2 c) (fun x => chT x.2 (x.1.names.zip x.1.by_)) (fun R x hx ih => ?_) (⟨kN c,kB c⟩,t) ⟨c,rfl,h⟩ hbig).trans (by
  show some (chT t ((kN c).zip (kB c))) = _
  rw [qwj])
 obtain ⟨s,t⟩:=x
 obtain ⟨c,hs,h⟩:=hx
 have hs:s = ⟨kN c,kB c⟩:=hs
 have h:okS t c:=h
 subst hs
 show qb5 (fun s t => R (s,t)) ⟨kN c,kB c⟩ t = some (chT t ((kN c).zip (kB c)))
 rw [qwj]
 have hR:∀ (i:Nat) (hi:i < t.Args.length),R (⟨kN (chQ t.Op t.Names (qdh t c) i).2.1,kB (chQ t.Op t.Names (qdh t c) i).2.1⟩,t.Args[i]) = some (chT t.Args[i] (chQ t.Op t.Names (qdh t c) i).2.1):=fun i hi => by
  have:=ih (⟨kN (chQ t.Op t.Names (qdh t c) i).2.1,kB (chQ t.Op t.Names (qdh t c) i).2.1⟩,t.Args[i]) (qde (vat hi)) ⟨_,rfl,qLk h i hi⟩
  rw [this]
  show some (chT t.Args[i] ((kN (chQ t.Op t.Names (qdh t c) i).2.1).zip (kB (chQ t.Op t.Names (qdh t c) i).2.1))) = _
  rw [qwj]
 have l1:=qeD t
 have l2:=qjc t
 have l3:=qe7 t
 have hsz:nL (kB c) + lenT t ≤ 20000000:=h.sz
 have hw:wT t ≤ 20000000:=h.w
 have hnd:=h.nd
 have hp:=qMJ (t:=t)
 have hcl:=qGP c
 unfold qb5
 by_cases ho:t.Op = 6
 ·rw [vao (by simpa using ho)]
  unfold qcQ
  rw [qi4 _ (by omega),qyc c _ (by unfold bigN; omega) (by unfold bigN; omega),qzG c _ (by omega) (fun q hq => by have:=qFA hq; unfold bigN; omega) (by unfold bigN; omega),qCQ _ _ (by omega),qCW t (by omega) (by omega)]
  simp only [vaa]
  have f1:=qt2 (kB c)
  have f2:=qka t
  rw [qcq (by omega)]
  simp only [vaa]
  rw [qcq (by rw [vaf]; omega)]
  simp only [vaa]
  unfold qb4
  have hloop:=qz6 t.Args.length (by omega) (fun i (s:List Str×List Str×List tType×List Str×List tPred) => (s.1,i,s.2.1,s.2.2.1,s.2.2.2.1,s.2.2.2.2)) (fun (zz:(List Str)×Int×List Str×(List tType)×(List Str)×(List tPred)) => qaG (fun s t => R (s,t)) t t.Args (t.Args.length:Int) t.Names.length zz.1 zz.2.1 zz.2.2.1 zz.2.2.2.1 zz.2.2.2.2.1 zz.2.2.2.2.2)
   (fun i => ((chQ t.Op t.Names (qdh t c) i).1,(chQ t.Op t.Names (qdh t c) i).2.2,chA t c i,kN (chQ t.Op t.Names (qdh t c) i).2.1,kB (chQ t.Op t.Names (qdh t c) i).2.1))
   ((chQ t.Op t.Names (qdh t c) t.Args.length).2.2,chA t c t.Args.length,kN (chQ t.Op t.Names (qdh t c) t.Args.length).2.1,kB (chQ t.Op t.Names (qdh t c) t.Args.length).2.1) (fun i hi => ?_) ?_
  ·have hloop':loop (fun (zz:(List Str)×Int×List Str×(List tType)×(List Str)×(List tPred)) => qaG (fun s t => R (s,t)) t t.Args (t.Args.length:Int) t.Names.length zz.1 zz.2.1 zz.2.2.1 zz.2.2.2.1 zz.2.2.2.2.1 zz.2.2.2.2.2) (((kB c).flatMap qhV ++ freeT t) ++ t.Names,0,t.Names,[],kN c,kB c) = _:=hloop
   rw [hloop']
   simp only [vaa]
   rw [qFg _ _ (by rw [qLv]; rfl)]
   simp only [vaa]
   rw [qKG,qLe]
  ·show qaG (fun s t => R (s,t)) t t.Args (t.Args.length:Int) t.Names.length (chQ t.Op t.Names (qdh t c) i).1 (i:Int) (chQ t.Op t.Names (qdh t c) i).2.2 (chA t c i) (kN (chQ t.Op t.Names (qdh t c) i).2.1) (kB (chQ t.Op t.Names (qdh t c) i).2.1) = _
   unfold qaG
   rw [vao (by simp; omega),qbb _ i hi]
   simp only [vaa]
   rw [hR i hi]
   simp only [vaa]
   have hal:=qLz t c i (by omega)
   rw [qcq (by simp; omega)]
   simp only [vaa]
   rw [qJ9 t c i hi]
   have hq:chQ t.Op t.Names (qdh t c) (i + 1) = chS t.Op t.Names i (chQ t.Op t.Names (qdh t c) i):=rfl
   have hQn:=qK5 t.Op t.Names (qdh t c) i
   have hQu:=qLV t.Op t.Names (qdh t c) i
   have hQw:=qLv t.Op t.Names (qdh t c) i
   have hQd:=qx5 t.Op t.Names (qdh t c) hnd i
   have hu0:=qLd t c
   have hn0:nL (kB (qdh t c).2.1) = nL (kB c):=rfl
   have hw0:(qdh t c).2.2 = t.Names:=rfl
   rw [hw0] at hQw
   generalize chQ t.Op t.Names (qdh t c) i = S at hq hQn hQu hQw hQd ⊢
   obtain ⟨u,cc,w⟩:=S
   simp only at hQn hQu hQw hQd ⊢
   have hccl:=qGP cc
   by_cases hi2:i < t.Names.length
   ·rw [vam (by simp; omega),qbb _ i hi2]
    simp only [vaa]
    rw [qKA _ cc hQd (by omega)]
    simp only [vaa]
    have hd:=qEH t.Names[i] cc
    rw [qCQ _ _ (by omega)]
    simp only [vaa]
    have f3:=qt2 (kB (qeI t.Names[i] cc))
    rw [qks _ _ (by omega),qGr]
    simp only [vaa]
    have hnl:t.Names[i].length ≤ 1000000000000000:=((qtR _ t).1 h.n).1 _ (vat hi2)
    unfold chS at hq
    rw [vao ⟨ho,hi2⟩,qyd _ i hi2] at hq
    by_cases hcm:qFc t.Names[i] (qeI t.Names[i] cc) = true
    ·rw [vao hcm] at hq ⊢
     rw [(qFQ u t.Names[i] (by omega) (by omega)).1]
     simp only [vaa]
     rw [qCI _ w i (by omega) (by omega)]
     simp only [vaa]
     rw [qIA w i _ (by omega)]
     simp only [vaa]
     rw [qCI _ (w.set i (qia u t.Names[i])) i (by omega) (by rw [vbw]; omega),vcE]
     simp only [vaa]
     rw [qcq (by simp; omega)]
     simp only [vaa]
     have hpw:=qKd t.Names[i] (⟨3,qia u t.Names[i],0,[]⟩:tPred) cc hQd (by omega)
     rw [hpw]
     simp only [vaa]
     rw [hq]
     rfl
    ·rw [vam hcm] at hq ⊢
     rw [hq]
   ·rw [vao (by simp; omega),hq]
    unfold chS
    rw [vam (fun h => hi2 h.2)]
  ·show qaG (fun s t => R (s,t)) t t.Args (t.Args.length:Int) t.Names.length (chQ t.Op t.Names (qdh t c) t.Args.length).1 (t.Args.length:Int) (chQ t.Op t.Names (qdh t c) t.Args.length).2.2 (chA t c t.Args.length) (kN (chQ t.Op t.Names (qdh t c) t.Args.length).2.1) (kB (chQ t.Op t.Names (qdh t c) t.Args.length).2.1) = _
   unfold qaG
   rw [vam (by simp)]
 ·rw [vam (by simpa using ho),qi4 _ (by omega),qyc c _ (by unfold bigN; omega) (by unfold bigN; omega),qzG c _ (by omega) (fun q hq => by have:=qFA hq; unfold bigN; omega) (by unfold bigN; omega)]
  simp only [vaa]
  have hQ:=qKD ho t.Names (qdh t c)
  unfold qjy qgq
  rw [qb6 t.Args (by omega) (fun i s => (s,i)) _ (fun y => R (⟨kN c,kB c⟩,y)) (fun y => chT y c) id (fun i s => rfl) (fun y hy => by
   obtain ⟨i,hi,rfl⟩:=vbP hy
   have:=hR i hi
   rw [hQ i] at this
   exact this)]
  simp only [vaa,id]
  rw [qKG]
  simp only [hQ]
  congr 2
  exact (qsC (fun y => chT y c) t.Args 0).symm
def sub1 (x:Str) (q:tPred):Sb:=if x = [118] then [] else [(x,q)]
theorem qFW (x:Str) (q:tPred):(kN (sub1 x q)).Nodup:=by unfold sub1; split <;> simp [kN]
theorem qMs (x:Str) (q:tPred):nL (kB (sub1 x q)) ≤ nP q:=by
 unfold sub1
 split
 ·simp [kB,nL]
 ·simp [kB,nL]
theorem qGY (t:tType) (x:Str) (q:tPred) (h:okS t (sub1 x q)):qjH t x q = some (chT t (sub1 x q)):=by
 unfold qjH qju
 rw [show slc ([x]:List Str) none (some (if (([q]:List tPred).length:Int) < (([x]:List Str).length:Int) then (([q]:List tPred).length:Int) else (([x]:List Str).length:Int))) = some [x] from rfl,show slc ([q]:List tPred) none (some (if (([q]:List tPred).length:Int) < (([x]:List Str).length:Int) then (([q]:List tPred).length:Int) else (([x]:List Str).length:Int))) = some [q] from rfl]
 simp only [vaa]
 have hw:=qxK [([118]:Str)] [(x,q)] (by simp) (by simp)
 have he:woC [([118]:Str)] [(x,q)] = sub1 x q:=by
  unfold woC sub1
  simp only [List.foldl_cons,List.foldl_nil,vaJ,kN,vbE,vbf,or_false,vaI]
 rw [he] at hw
 have hw':qaU ⟨[x],[q]⟩ [([118]:Str)] = some ⟨kN (sub1 x q),kB (sub1 x q)⟩:=hw
 rw [hw']
 simp only [vaa]
 rw [qKZ t _ h]
 rfl
def hoF (abs:List tAbs) (holes:List tHole) (n:Str):Option tHole:=(abs.findIdx? (fun a => a.Name == n)).bind fun j => holes[j]?
def qys (h:tHole):List Str:=(h.Params.drop 1).map (·.Name)
mutual
def hoP (f:Str→Option tHole):tPred→tPred
 | ⟨o,n,k,ks⟩ => if o = 4∧ks.length = 1 then (f n).elim ⟨o,n,k,hoL f ks⟩ (fun h => ⟨5,h.Name,0,hoL f ks ++ (qys h).map varP⟩) else ⟨o,n,k,hoL f ks⟩
def hoL (f:Str→Option tHole):List tPred→List tPred
 | [] => []
 | p :: ps => hoP f p :: hoL f ps
end
theorem qIS (f:Str→Option tHole):∀ (l:List tPred),hoL f l = l.map (hoP f)
 | [] => by rw [hoL]; rfl
 | p :: l => by rw [hoL,qIS f l]; rfl
theorem qKE (f:Str→Option tHole) (p:tPred):hoP f p = if p.Op = 4∧p.Kids.length = 1 then (f p.Name).elim ⟨p.Op,p.Name,p.N,p.Kids.map (hoP f)⟩ (fun h => ⟨5,h.Name,0,p.Kids.map (hoP f) ++ (qys h).map varP⟩) else ⟨p.Op,p.Name,p.N,p.Kids.map (hoP f)⟩:=by
 obtain ⟨o,n,k,ks⟩:=p
 rw [hoP,qIS]; rfl
theorem qIn:∀ (l:List Str),nL (l.map varP) = l.length
 | [] => by simp [nL]
 | x :: l => by rw [vax,nL,qIn l,qDv]; simp; omega
mutual
theorem qMt (f:Str→Option tHole) (K:Nat) (hf:∀ n h,f n = some h→h.Params.length ≤ K):∀ (p:tPred),nP (hoP f p) ≤ nP p * (K + 1)
 | ⟨o,n,k,ks⟩ => by
  have ih:=qL7 f K hf ks
  have e:nP ⟨o,n,k,ks⟩ * (K + 1) = nL ks * (K + 1) + (K + 1):=by rw [nP,vaX,vbu]
  rw [hoP,e]
  split
  ·cases h:f n with
   | none => simp only [Option.elim]; rw [nP]; omega
   | some q =>
    simp only [Option.elim]
    have hq:=hf n q h
    rw [nP,qjg,qIn]
    unfold qys
    rw [vaL,va8]
    omega
  ·rw [nP]; omega
theorem qL7 (f:Str→Option tHole) (K:Nat) (hf:∀ n h,f n = some h→h.Params.length ≤ K):∀ (l:List tPred),nL (hoL f l) ≤ nL l * (K + 1)
 | [] => by rw [hoL,nL]; omega
 | p :: l => by
  have:=qMt f K hf p
  have:=qL7 f K hf l
  rw [hoL,nL,nL,vaX]; omega
end
theorem qAK {abs:List tAbs} {holes:List tHole} {K:Nat} (h:∀ x ∈ holes,x.Params.length ≤ K):∀ n q,hoF abs holes n = some q→q.Params.length ≤ K:=fun n q hq => by
 unfold hoF at hq
 cases hf:abs.findIdx? (fun a => a.Name == n) with
 | none => rw [hf] at hq; cases hq
 | some j => rw [hf] at hq; exact h q (vay hq)
theorem qIl (abs:List tAbs) (n:Str) (hl:abs.length < 9223372036854775808):qcI abs n = some ((abs.findIdx? (fun a => a.Name == n)).elim (-1) (fun j => (j:Int))):=by
 unfold qcI qeN
 rw [qF5 abs hl (fun zz => qdX abs n (abs.length:Int) zz) (fun i x => (qds x n).bind fun r3 => if r3 = true then some (.inr (.inl i)) else some (.inl (w64 (i + 1)))) (fun a => a.Name == n) (fun i => rfl) (fun x _ i => by
  unfold qds
  simp only [vaa]
  by_cases h:(x.Name == n) = true <;> simp [h])]
 cases abs.findIdx? (fun a => a.Name == n) <;> rfl
def qLY:tHole:=⟨[],[]⟩
theorem qvH (abs:List tAbs) (holes:List tHole) (n:Str) (hl:abs.length < 9223372036854775808):qcK abs holes n = some ((hoF abs holes n).elim (qLY,false) (fun h => (h,true))):=by
 have h:=qIl abs n hl
 unfold qcK hoF
 cases hf:abs.findIdx? (fun a => a.Name == n) with
 | none =>
  rw [hf] at h
  have h:qcI abs n = some (-1):=h
  rw [h]
  rfl
 | some j =>
  rw [hf] at h
  have h:qcI abs n = some (j:Int):=h
  rw [h]
  simp only [vaa]
  unfold qeJ
  rw [vam (show ¬ (decide ((j:Int) < 0) = true) by simp)]
  simp only [vaa]
  by_cases hj:j < holes.length
  ·rw [vam (show ¬ (decide ((j:Int) ≥ (holes.length:Int)) = true) by simp; omega),qbb _ j hj,vab hj]
   rfl
  ·rw [vao (show decide ((j:Int) ≥ (holes.length:Int)) = true by simp; omega),vaB (by omega)]
   rfl
theorem qFf (h:tHole):qen h = some (h.Params.drop 1):=by
 unfold qen
 by_cases h0:h.Params.length = 0
 ·rw [vao (by simp [h0]),vaj h0]
  rfl
 ·rw [vam (by simp; exact fun e => h0 (by rw [e]; rfl)),show (1:Int) = ((1:Nat):Int) from rfl,qwy _ 1 (by omega)]
  rfl
theorem qGd (n:Str) (x:tPred) (l:List tVar) (hl:l.length ≤ 1073741823):qgd n x l = some ⟨5,n,0,[x] ++ (l.map (·.Name)).map varP⟩:=by
 unfold qgd qis qfv
 rw [qb6 l (by omega) (fun i s => (s,i)) _ (fun y => qhO y) (fun y => varP y.Name) id (fun i s => rfl) (fun y _ => rfl)]
 simp only [vaa,id]
 rw [qcq (by simp; omega)]
 simp only [vaa]
 rw [vcQ]
 rfl
theorem qJz (p:tPred) (abs:List tAbs) (holes:List tHole) (hp:nP p ≤ bigN) (ha:abs.length < 9223372036854775808) (hh:∀ h ∈ holes,h.Params.length ≤ 1073741823):qjO p abs holes = some (hoP (hoF abs holes) p):=by
 refine qd3 (F:=qkf) (fun x => nP x.1) (fun x => nP x.1 ≤ bigN∧x.2 = (abs,holes)) (fun x => hoP (hoF x.2.1 x.2.2) x.1) (fun R x hx ih => ?_) (p,abs,holes) ⟨hp,rfl⟩ (qdQ hp)
 obtain ⟨p,a',h'⟩:=x
 obtain ⟨hx,he⟩:=hx
 cases he
 have hx:nP p ≤ bigN:=hx
 show qhL (fun p d a => R (p,d,a)) p abs holes = some (hoP (hoF abs holes) p)
 unfold qhL qip qfC qjv
 have hlen:=qgh p
 rw [qb6 p.Kids (by unfold bigN at hx; omega) (fun i s => (s,i)) _ (fun y => qkq (fun p d a => R (p,d,a)) y abs holes) (hoP (hoF abs holes)) id (fun i s => rfl) (fun y hy => by
  have he:=ih (y,abs,holes) (qfM hy) ⟨by have:=qfM hy; show nP y ≤ bigN; omega,rfl⟩
  show (R (y,abs,holes)).bind (fun r1 => some r1) = _
  rw [he]
  rfl)]
 simp only [vaa,id]
 rw [qKE]
 by_cases h1:p.Op = 4
 ·rw [vam (by simpa using h1)]
  simp only [vaa]
  by_cases h2:p.Kids.length = 1
  ·rw [vam (by simp [h2]),vao ⟨h1,h2⟩,qvH abs holes _ ha]
   simp only [vaa]
   cases hf:hoF abs holes p.Name with
   | none => rfl
   | some h =>
    simp only [Option.elim,vbF,vaK,if_false]
    have hhl:=qAK hh _ _ hf
    obtain ⟨x,hk⟩:∃ x,p.Kids = [x]:=by
     match p.Kids,h2 with
     | [x],_ => exact ⟨x,rfl⟩
    rw [hk]
    simp only [vax,vbE]
    rw [show idx [hoP (hoF abs holes) x] 0 = some (hoP (hoF abs holes) x) from rfl]
    simp only [vaa]
    rw [qFf]
    simp only [vaa]
    rw [qGd _ _ _ (by rw [va8]; omega)]
    rfl
  ·rw [vao (by simp; omega),vam (fun h => h2 h.2)]
 ·rw [vao (by simpa using h1),vam (fun h => h1 h.1)]
  simp only [vaa,if_true]
def scV (abs:List tAbs) (holes:List tHole):List Str:=abs.flatMap fun a => (hoF abs holes a.Name).elim [] qys
theorem qG7 (l:List tVar) (out:List Str) (h:out.length + l.length ≤ 1073741824):qeg l (l.length:Int) out 0 = some (out ++ l.map (·.Name)):=by
 unfold qeg
 rw [qgw l (by omega) (fun i s => (s,i)) _ (fun i s x => (app s ([x.Name]:List Str)).bind fun l8 => some (.inl (l8,w64 (i + 1)))) (fun i s => s.length = out.length + i) (fun x s => s ++ [x.Name]) id out (by simp) (fun i s => rfl) (fun i hi s hs => ?_)]
 ·rw [show (fun (s:List Str) (x:tVar) => s ++ [x.Name]) = fun s x => s ++ (fun x:tVar => [x.Name]) x from rfl,qtM]
  simp only [id]
  congr 2
  induction l with
  | nil => rfl
  | cons x l ih => rw [vbN,vax,ih (by simp at h; omega)]; rfl
 ·refine ⟨?_,by simp; omega⟩
  rw [qcq (by simp; omega)]
  rfl
theorem qF2 (abs:List tAbs) (holes:List tHole) (ha:abs.length ≤ 1000) (hh:∀ h ∈ holes,h.Params.length ≤ 1000):qgk abs holes (abs.length:Int) [] 0 = some (scV abs holes)∧(scV abs holes).length ≤ 1000000:=by
 have hlen:∀ n,((hoF abs holes n).elim [] qys).length ≤ 1000:=fun n => by
  cases hf:hoF abs holes n with
  | none => simp
  | some h =>
   have:=qAK hh _ _ hf
   simp only [Option.elim]
   unfold qys
   rw [vaL,va8]; omega
 constructor
 ·unfold qgk
  rw [qgw abs (by omega) (fun i s => (s,i)) _ (fun i s x => (qcK abs holes x.Name).bind fun r3 => if (!r3.2) = true then some (.inl (s,w64 (i + 1))) else (qen r3.1).bind fun r5 => (qeg r5 (r5.length:Int) s 0).bind fun o9 => some (.inl (o9,w64 (i + 1)))) (fun i s => s.length ≤ 1000 * i) (fun x s => s ++ (hoF abs holes x.Name).elim [] qys) id [] (by simp) (fun i s => rfl) (fun i hi s hs => ?_),qtM]
  ·rfl
  ·have hl:=hlen abs[i].Name
   refine ⟨?_,by rw [vaf]; omega⟩
   rw [qvH abs holes _ (by omega)]
   simp only [vaa]
   cases hf:hoF abs holes abs[i].Name with
   | none => simp
   | some h =>
    simp only [Option.elim,vbF,vaK,if_false]
    have:=qAK hh _ _ hf
    rw [qFf]
    simp only [vaa]
    rw [qG7 _ _ (by rw [va8]; omega)]
    rfl
 ·unfold scV
  have key:∀ (l:List tAbs),(l.flatMap fun a => (hoF abs holes a.Name).elim [] qys).length ≤ 1000 * l.length:=by
   intro l
   induction l with
   | nil => simp
   | cons a l ih =>
    have:=hlen a.Name
    rw [vbN,vaf,vaS]; omega
  have:=key abs
  omega
mutual
def subP (x:tPred):tPred→Prop
 | ⟨o,n,k,ks⟩ => x = ⟨o,n,k,ks⟩∨subL x ks
def subL (x:tPred):List tPred→Prop
 | [] => False
 | p :: ps => subP x p∨subL x ps
end
theorem qIj (x p:tPred):subP x p↔x = p∨subL x p.Kids:=by
 obtain ⟨o,n,k,ks⟩:=p
 rw [subP]
 rfl
theorem qEX (x:tPred):∀ (l:List tPred),subL x l↔∃ p ∈ l,subP x p
 | [] => by simp [subL]
 | p :: l => by rw [subL,qEX x l]; simp
mutual
theorem qFu (op:Int) (x:tPred):∀ (p:tPred) (a:List tPred),x ∈ innP op p a↔x ∈ a∨(x.Op = op∧subP x p)
 | ⟨o,n,k,ks⟩,a => by
  have ih:=qFB op x ks a
  rw [innP,subP]
  show x ∈ (if o = op∧(⟨o,n,k,ks⟩:tPred) ∉ innL op ks a then innL op ks a ++ [⟨o,n,k,ks⟩] else innL op ks a)↔_
  by_cases h1:o = op
  ·by_cases h2:(⟨o,n,k,ks⟩:tPred) ∈ innL op ks a
   ·rw [vam (fun h => h.2 h2),ih]
    constructor
    ·rintro (h | ⟨h,h'⟩)
     ·exact .inl h
     ·exact .inr ⟨h,.inr h'⟩
    ·rintro (h | ⟨h,h' | h'⟩)
     ·exact .inl h
     ·subst h'; exact ih.1 h2
     ·exact .inr ⟨h,h'⟩
   ·rw [vao ⟨h1,h2⟩,vaz,ih,vaJ]
    constructor
    ·rintro ((h | ⟨h,h'⟩) | h)
     ·exact .inl h
     ·exact .inr ⟨h,.inr h'⟩
     ·exact .inr ⟨by rw [h]; exact h1,.inl h⟩
    ·rintro (h | ⟨h,h' | h'⟩)
     ·exact .inl (.inl h)
     ·exact .inr h'
     ·exact .inl (.inr ⟨h,h'⟩)
  ·rw [vam (fun h => h1 h.1),ih]
   constructor
   ·rintro (h | ⟨h,h'⟩)
    ·exact .inl h
    ·exact .inr ⟨h,.inr h'⟩
   ·rintro (h | ⟨h,h' | h'⟩)
    ·exact .inl h
    ·subst h'; exact absurd h h1
    ·exact .inr ⟨h,h'⟩
theorem qFB (op:Int) (x:tPred):∀ (l a:List tPred),x ∈ innL op l a↔x ∈ a∨(x.Op = op∧subL x l)
 | [],a => by rw [innL,subL]; simp
 | p :: l,a => by
  have h1:=qFu op x p a
  have h2:=qFB op x l (innP op p a)
  rw [innL,subL,h2,h1]
  constructor
  ·rintro ((h | ⟨h,h'⟩) | ⟨h,h'⟩)
   ·exact .inl h
   ·exact .inr ⟨h,.inl h'⟩
   ·exact .inr ⟨h,.inr h'⟩
  ·rintro (h | ⟨h,h' | h'⟩)
   ·exact .inl (.inl h)
   ·exact .inl (.inr ⟨h,h'⟩)
   ·exact .inr ⟨h,h'⟩
end
def qd1 (a:tAbs):tHole:=⟨[104] ++ [46] ++ a.Name,[(⟨[118],a.Sort_⟩:tVar)]⟩
def zipS (hs:List tHole) (l:List tPred):List tSol:=List.zipWith (fun h s => (⟨h.Name,s⟩:tSol)) hs l
theorem qzi:∀ (h:List tHole) (s:List tPred),h.length = s.length→(zipS h s).map (·.Name) = h.map (·.Name)
 | [],_,_ => by simp [zipS]
 | a :: h,b :: s,e => by
  have:=qzi h s (by simpa using e)
  unfold zipS at this ⊢
  rw [List.zipWith_cons_cons,vax,vax,this]
 | a :: h,[],e => by simp at e
theorem qA5 {h:List tHole} {s:List tPred} (e:h.length = s.length):(zipS h s).length = h.length:=by simp [zipS,e]
theorem qBJ (abs:List tAbs) (n:Str):(abs.map qd1).findIdx? (fun x => x.Name == [104] ++ [46] ++ n) = abs.findIdx? (fun a => a.Name == n):=by
 rw [vb0]
 congr 1
theorem qJ7 (abs:List tAbs) (sols:List tPred) (hl:abs.length = sols.length) (n:Str):(zipS (abs.map qd1) sols).findIdx? (fun x => x.Name == [104] ++ [46] ++ n) = abs.findIdx? (fun a => a.Name == n):=by
 have h1:(zipS (abs.map qd1) sols).findIdx? (fun x => x.Name == [104] ++ [46] ++ n) = ((zipS (abs.map qd1) sols).map (·.Name)).findIdx? (fun x => x == [104] ++ [46] ++ n):=by rw [vb0]; rfl
 rw [h1,qzi _ _ (by simpa using hl),vb0,← qBJ abs n]
 rfl
theorem qIa (g:Str→List tPred→tPred) (o:Int) (n:Str) (k:Int) (ks:List tPred):fiP g ⟨o,n,k,ks⟩ = if o = 5 then g n (ks.map (fiP g)) else ⟨o,n,k,ks.map (fiP g)⟩:=by rw [fiP,qEp]
theorem qKh (abs:List tAbs) (sols:List tPred) (hl:abs.length = sols.length):∀ (k:Nat) (p:tPred),nP p ≤ k→(∀ x,subP x p→x.Op ≠ 5) →
  fiP (solG (abs.map qd1) (zipS (abs.map qd1) sols)) (hoP (hoF abs (abs.map qd1)) p) = putP (solN (abs.map (·.Name)) sols) p:=by
 intro k
 induction k with
 | zero => intro p hp; have:=qH4 p; omega
 | succ k ih =>
  intro p hp hno
  have hk:(p.Kids.map (hoP (hoF abs (abs.map qd1)))).map (fiP (solG (abs.map qd1) (zipS (abs.map qd1) sols))) = p.Kids.map (putP (solN (abs.map (·.Name)) sols)):=by
   rw [vcQ]
   exact vaN fun x hx => ih x (by have:=qfM hx; omega) fun y hy => hno y ((qIj y p).2 (.inr ((qEX y _).2 ⟨x,hx,hy⟩)))
  have h5:p.Op ≠ 5:=hno p ((qIj p p).2 (.inl rfl))
  rw [qKE,qIs]
  by_cases h:p.Op = 4∧p.Kids.length = 1
  ·rw [vao h,vao h]
   have hs:solN (abs.map (·.Name)) sols p.Name = (abs.findIdx? (fun a => a.Name == p.Name)).map fun j => (sols[j]?).elim qhW (fun q => if q = qkt then qhW else q):=by
    unfold solN
    rw [vb0]
    rfl
   rw [hs]
   unfold hoF
   cases hf:abs.findIdx? (fun a => a.Name == p.Name) with
   | none =>
    simp only [Option.bind_none,Option.elim,Option.map_none,Option.getD_none]
    rw [qIa,vam h5,← hk]
    rfl
   | some j =>
    obtain ⟨hj,hjn,_⟩:=vbz.1 hf
    have hjs:j < sols.length:=by omega
    have hjn:abs[j].Name = p.Name:=by simpa using hjn
    have g1:(abs.map qd1)[j]? = some (qd1 abs[j]):=by rw [vaA,vab hj]; rfl
    have g2:(zipS (abs.map qd1) sols)[j]? = some ⟨[104] ++ [46] ++ p.Name,sols[j]⟩:=by
     rw [vab (by rw [qA5 (by simpa using hl)]; simpa using hj)]
     unfold zipS
     rw [vb8,vcV]
     show some (⟨[104] ++ [46] ++ abs[j].Name,sols[j]⟩:tSol) = _
     rw [hjn]
    simp only [vaa,g1,Option.elim,vad,Option.getD_some]
    rw [vab hjs]
    have hnm:(qd1 abs[j]).Name = [104] ++ [46] ++ p.Name:=by rw [← hjn]; rfl
    rw [show qys (qd1 abs[j]) = [] from rfl,vbE,va4,qIa,vao rfl,hnm]
    unfold hoF at hk
    rw [hk]
    have hG:solG (abs.map qd1) (zipS (abs.map qd1) sols) ([104] ++ [46] ++ p.Name) (p.Kids.map (putP (solN (abs.map (·.Name)) sols))) = if qsN sols[j] = true then qhW else sbP (look [[118]] (p.Kids.map (putP (solN (abs.map (·.Name)) sols)))) sols[j]:=by
     unfold solG solH
     rw [qBJ,qJ7 abs sols hl,hf]
     simp only [Option.elim,vad,Option.getD_some,g1,g2]
     rfl
    rw [hG]
    obtain ⟨x,hx⟩:∃ x,p.Kids = [x]:=by
     match p.Kids,h.2 with
     | [x],_ => exact ⟨x,rfl⟩
    rw [hx,vax,vbE,qFr,List.headD_cons]
    show _ = sbP (qAm [118] (putP (solN (abs.map (·.Name)) sols) x)) (if sols[j] = qkt then qhW else sols[j])
    by_cases hv:qsN sols[j] = true
    ·rw [vao hv,qG9 hv,qHn]
    ·have hz:sols[j] ≠ qkt:=fun e => hv (by rw [e]; rfl)
     rw [vam hv,vam hz]
  ·rw [vam h,vam h,qIa,vam h5,hk]
theorem qIK (t:tType) (ht:lenT t ≤ bigN):tot (qxZ t) (fun _ => True):=by
 refine qkZ (F:=qrP) lenT (fun x => lenT x ≤ bigN) (fun _ _ => True) (fun R x hx ih => ?_) t ht (qdQ ht)
 show tot (qmv (fun t => R t) x) _
 unfold qmv qpf
 have h1:=qeD x
 refine qai (R:=fun _ => True) (qiZ x.Args (by unfold bigN at hx; omega) (fun i s => (s,i)) (fun i s y => (R y).bind fun r => some (.inl (w64 (s + r),w64 (i + 1)))) id (fun _ _ => True) (fun i s => rfl) (fun i hi s _ => ?_) (fun _ _ => trivial) 1 trivial) (fun a _ => qae trivial)
 exact qai (ih _ (qde (vat hi)) (by have:=qde (vat hi); omega)) (fun a _ => qae ⟨_,rfl,trivial⟩)
theorem qp0:qj3 = some true:=by kernel_rfl
end Go.Proofs.YtgldgpdhblndkaaGreatDoor
