/- WHAT IS PROVED: parts of the proof, put together by a program (PlC Pq1 Pt1 Pt2). Conditions: none. -/
import Derived.Test.YtgldgpdhblndkaaGreatDoorPkE41
import Derived.Test.YtgldgpdhblndkaaGreatDoorPkE23
noncomputable section
namespace Go.Proofs.YtgldgpdhblndkaaGreatDoor
open Go
set_option linter.unusedVariables false
section
variable {α β σ τ X Y:Type}
theorem qdF (l:List α) (hl:l.length ≤ 1073741824) (mk:Int→List β→τ) (body:τ→Option (τ⊕X)) (h:α→Option β) (g:α→β) (e:List β→X)
  (hb:∀ (i:Int) (s:List β),body (mk i s) = if decide (i < (l.length:Int)) = true then (idx l i).bind (fun x => (h x).bind fun r => (app s ([r]:List β)).bind fun q => some (.inl (mk (w64 (i + 1)) q))) else some (.inr (e s)))
  (hg:∀ x ∈ l,h x = some (g x)):loop body (mk 0 []) = some (e (l.map g)):=by
 refine qCJ l (by omega) mk body g e (fun i hi s hs => ?_) (fun s => ?_)
 ·rw [hb,if_pos (by simp; omega),qaS l i hi]
  simp only [Option.bind_some]
  rw [hg _ (List.getElem_mem hi)]
  simp only [Option.bind_some]
  rw [qcq (by simp; omega)]
  rfl
 ·rw [hb,if_neg (by simp)]
theorem qFm (l:List α) (hl:l.length < 9223372036854775808) (body:Int→Option (Int⊕X)) (k:Int→α→Option (Int⊕X)) (p:α→Bool) (y e:X)
  (hb:∀ (i:Int),body i = if decide (i < (l.length:Int)) = true then (idx l i).bind (k i) else some (.inr e))
  (hk:∀ x ∈ l,∀ i,k i x = some (if p x = true then .inr y else .inl (w64 (i + 1)))):loop body 0 = some (if l.any p = true then y else e):=by
 have:=qyP l hl body p y e (fun i hi => ?_) (by rw [hb,if_neg (by simp)]) 0 (Nat.zero_le _)
 ·rw [List.drop_zero] at this
  exact this
 ·rw [hb,if_pos (by simp; omega),qaS l i hi]
  simp only [Option.bind_some]
  exact hk _ (List.getElem_mem hi) i
theorem qxa (l:List α) (hl:l.length < 9223372036854775808) (body:Int→Option (Int⊕(Int⊕Unit))) (k:Int→α→Option (Int⊕(Int⊕Unit))) (p:α→Bool)
  (hb:∀ (i:Int),body i = if decide (i < (l.length:Int)) = true then (idx l i).bind (k i) else some (.inr (.inr ())))
  (hk:∀ x ∈ l,∀ i,k i x = some (if p x = true then .inr (.inl i) else .inl (w64 (i + 1)))):loop body 0 = some (match l.findIdx? p with | some j => .inl (j:Int) | none => .inr ()):=by
 refine qrG l hl body p (fun j => .inl (j:Int)) (.inr ()) (fun i hi => ?_) (by rw [hb,if_neg (by simp)])
 rw [hb,if_pos (by simp; omega),qaS l i hi]
 simp only [Option.bind_some]
 exact hk _ (List.getElem_mem hi) i
theorem qea (l:List α) (hl:l.length < 9223372036854775808) (mk:Int→σ→τ) (body:τ→Option (τ⊕X)) (k:Int→σ→α→Option (τ⊕X)) (I:Nat→σ→Prop) (g:α→σ→σ) (e:σ→X) (s0:σ) (h0:I 0 s0)
  (hb:∀ (i:Int) (s:σ),body (mk i s) = if decide (i < (l.length:Int)) = true then (idx l i).bind (k i s) else some (.inr (e s)))
  (hin:∀ (i:Nat) (h:i < l.length) s,I i s→k i s l[i] = some (.inl (mk (w64 ((i:Int) + 1)) (g l[i] s)))∧I (i + 1) (g l[i] s)):loop body (mk 0 s0) = some (e (l.foldl (fun s x => g x s) s0)):=by
 have:=qiF l hl mk body I (fun _ x s => .inl (g x s)) e (fun i h s hs => ⟨?_,fun s' hs' => by cases hs'; exact (hin i h s hs).2⟩) (fun s hs => by rw [hb,if_neg (by simp)]) 0 s0 (Nat.zero_le _) h0
 ·rw [List.drop_zero,show ((0:Nat):Int) = 0 from rfl] at this
  rw [this]
  have key:∀ (l:List α) (i:Nat) (s:σ),runL (fun _ x (s:σ) => (Sum.inl (g x s):σ⊕X)) e l i s = e (l.foldl (fun s x => g x s) s):=by
   intro l
   induction l with
   | nil => intro i s; rfl
   | cons x l ih => intro i s; unfold runL; simp only; rw [ih]; rfl
  rw [key]
 ·rw [hb,if_pos (by simp; omega),qaS l i h]
  simp only [Option.bind_some]
  exact (hin i h s hs).1
theorem quZ (l:List α) (hl:l.length < 9223372036854775808) (mk:Int→σ→τ) {body:τ→Option (τ⊕X)} (k:Int→σ→α→Option (τ⊕X)) (e:σ→X) (I:Nat→σ→Prop) {Q:X→Prop}
  (hb:∀ (i:Int) (s:σ),body (mk i s) = if decide (i < (l.length:Int)) = true then (idx l i).bind (k i s) else some (.inr (e s)))
  (hin:∀ (i:Nat) (h:i < l.length) s,I i s→tot (k i s l[i]) (fun r => match r with | .inl t => ∃ s',t = mk (w64 ((i:Int) + 1)) s'∧I (i + 1) s' | .inr y => Q y))
  (hend:∀ s,I l.length s→Q (e s)):∀ s,I 0 s→tot (loop body (mk 0 s)) Q :=
 qFi l hl mk I (fun i h s hs => by
  rw [hb,if_pos (by simp; omega),qaS l i h]
  exact hin i h s hs) (fun s hs => by
  rw [hb,if_neg (by simp)]
  exact ⟨_,rfl,hend s hs⟩)
theorem qDJ (l:List α) (hl:l.length < 9223372036854775808) {body:Int→Option (Int⊕X)} (k:Int→α→Option (Int⊕X)) (e:X) (I:Nat→Prop) {Q:X→Prop}
  (hb:∀ (i:Int),body i = if decide (i < (l.length:Int)) = true then (idx l i).bind (k i) else some (.inr e))
  (hin:∀ (i:Nat) (h:i < l.length),I i→tot (k i l[i]) (fun r => match r with | .inl t => t = w64 ((i:Int) + 1)∧I (i + 1) | .inr y => Q y))
  (hend:I l.length→Q e) (h0:I 0):tot (loop body 0) Q :=
 quZ l hl (fun i (_:Unit) => i) (fun i _ => k i) (fun _ => e) (fun i _ => I i) (fun i _ => hb i) (fun i h s hs => (hin i h hs).mono fun r hr => by
  cases r with
  | inl t => exact ⟨(),hr.1,hr.2⟩
  | inr y => exact hr) (fun _ h => hend h) () h0
end
def all2 {α:Type} (p:α→α→Bool):List α→List α→Bool
 | [],[] => true
 | x :: a,y :: b => p x y && all2 p a b
 | _,_ => false
theorem qCr {α:Type} {p:α→α→Bool}:∀ {a b:List α},all2 p a b = true→a.length = b.length
 | [],[],_ => rfl
 | x :: a,y :: b,h => by
  rw [all2,Bool.and_eq_true] at h
  simp [qCr h.2]
 | [],y :: b,h => by simp [all2] at h
 | x :: a,[],h => by simp [all2] at h
theorem qEL {α:Type} {p:α→α→Bool}:∀ {a b:List α},a.length ≠ b.length→all2 p a b = false:=fun {a b} h => by
 rw [Bool.eq_false_iff]
 exact fun he => h (qCr he)
theorem qz4 {α:Type} {p:α→α→Bool}:∀ {a:List α},(∀ x ∈ a,p x x = true)→all2 p a a = true
 | [],_ => rfl
 | x :: a,h => by
  rw [all2,h x (by simp),Bool.true_and]
  exact qz4 fun y hy => h y (List.mem_cons_of_mem _ hy)
theorem qFD {α:Type} [DecidableEq α]:∀ {a b:List α},all2 (fun x y => decide (x = y)) a b = decide (a = b)
 | [],[] => by simp [all2]
 | x :: a,y :: b => by
  rw [all2,qFD]
  by_cases h1:x = y <;> by_cases h2:a = b <;> simp [h1,h2]
 | [],y :: b => by simp [all2]
 | x :: a,[] => by simp [all2]
theorem qCk {α:Type} {p:α→α→Bool}:∀ {a b:List α},a.length = b.length→(a.zip b).any (fun x => !p x.1 x.2) = !all2 p a b
 | [],[],_ => rfl
 | x :: a,y :: b,h => by
  rw [List.zip_cons_cons,List.any_cons,qCk (by simpa using h),all2]
  cases p x y <;> rfl
theorem quX {α X:Type} {a b:List α} (hl:a.length = b.length) (ha:a.length < 9223372036854775808) (body:Int→Option (Int⊕X)) (k:Int→α→α→Option (Int⊕X)) (p:α→α→Bool) (y e:X)
  (hb:∀ (i:Int),body i = if decide (i < (a.length:Int)) = true then (idx a i).bind (fun x => (idx b i).bind (k i x)) else some (.inr e))
  (hk:∀ x ∈ a,∀ z ∈ b,∀ i,k i x z = some (if p x z = true then .inl (w64 (i + 1)) else .inr y)):loop body 0 = some (if all2 p a b = true then e else y):=by
 have hz:(a.zip b).length = a.length:=by simp [hl]
 have:=qyP (a.zip b) (by omega) body (fun x => !p x.1 x.2) y e (fun i h => ?_) (by rw [hb,if_neg (by simp [hz])]) 0 (Nat.zero_le _)
 ·rw [List.drop_zero,qCk hl] at this
  rw [show ((0:Nat):Int) = 0 from rfl] at this
  rw [this]
  by_cases h:all2 p a b = true <;> simp [h]
 ·have h1:i < a.length:=by omega
  have h2:i < b.length:=by omega
  rw [hb,if_pos (by simp; omega),qaS a i h1]
  simp only [Option.bind_some]
  rw [qaS b i h2]
  simp only [Option.bind_some]
  rw [hk _ (List.getElem_mem h1) _ (List.getElem_mem h2)]
  have hzi:(a.zip b)[i] = (a[i],b[i]):=by simp
  rw [hzi]
  by_cases h:p a[i] b[i] = true <;> simp [h]
theorem qiS {α:Type} (l:List α) (h:l.length ≤ 1073741824):qi5 l = some l:=if_pos h
set_option linter.unusedSimpArgs false
mutual
def dP:tPred→Nat
 | ⟨_,_,_,ks⟩ => dL ks + 1
def dL:List tPred→Nat
 | [] => 0
 | p :: ps => max (dP p) (dL ps)
end
theorem qIG (p:tPred):dP p = dL p.Kids + 1:=by obtain ⟨o,n,k,ks⟩:=p; rw [dP]; rfl
mutual
theorem qH1:∀ (p:tPred),dP p ≤ nP p
 | ⟨o,n,k,ks⟩ => by have:=qH2 ks; rw [dP,nP]; omega
theorem qH2:∀ (l:List tPred),dL l ≤ nL l
 | [] => by simp [dL]
 | p :: l => by have:=qH1 p; have:=qH2 l; rw [dL,nL]; omega
end
theorem qEq:∀ (l:List tPred) (a:Nat),l.foldl (fun (s:Int) x => if (dP x:Int) > s then (dP x:Int) else s) (a:Int) = ((max a (dL l):Nat):Int)
 | [],a => by simp [dL]
 | x :: l,a => by
  rw [List.foldl_cons,show (if (dP x:Int) > (a:Int) then (dP x:Int) else (a:Int)) = ((max a (dP x):Nat):Int) by split <;> omega,qEq l,dL,Nat.max_assoc]
theorem qGw (p:tPred) (hp:nP p ≤ bigN):quY p = some (dP p:Int):=by
 refine qfd (F:=qqv) nP (fun x => nP x ≤ bigN) (fun x => (dP x:Int)) (fun R x hx ih => ?_) p hp (qgV hp)
 show qm4 (fun p => R p) x = _
 unfold qm4 qnZ
 have hlen:=qjP x
 have hd:=qH1 x
 have he:=qIG x
 have hz:(0:Int) = ((0:Nat):Int):=rfl
 rw [qea x.Kids (by unfold bigN at hx; omega) (fun i s => (s,i)) _ (fun i s x => (R x).bind fun r => some (.inl ((if r > s then r else s),w64 (i + 1)))) (fun _ _ => True) (fun x s => if (dP x:Int) > s then (dP x:Int) else s) id 0 trivial (fun i s => rfl) (fun i hi s _ => ⟨?_,trivial⟩)]
 ·rw [hz,qEq]
  simp only [id,Option.bind_some]
  unfold bigN at hx
  rw [qeY (by omega) (by omega)]
  congr 1; omega
 ·have hm:=List.getElem_mem hi
  have hk:=qkn hm
  rw [ih _ hk (by omega)]
  rfl
def look (ns:List Str) (bs:List tPred) (n:Str):Option tPred:=(ns.findIdx? (fun x => x == n)).bind fun j => bs[j]?
mutual
def sbP (f:Str→Option tPred):tPred→tPred
 | ⟨o,n,k,ks⟩ => (if o = 3 then f n else none).getD ⟨o,n,k,sbL f ks⟩
def sbL (f:Str→Option tPred):List tPred→List tPred
 | [] => []
 | p :: ps => sbP f p :: sbL f ps
end
theorem qAT (f:Str→Option tPred):∀ (l:List tPred),sbL f l = l.map (sbP f)
 | [] => by rw [sbL]; rfl
 | p :: l => by rw [sbL,qAT f l]; rfl
theorem qGW (f:Str→Option tPred) (p:tPred):sbP f p = (if p.Op = 3 then f p.Name else none).getD ⟨p.Op,p.Name,p.N,p.Kids.map (sbP f)⟩:=by
 obtain ⟨o,n,k,ks⟩:=p
 rw [sbP,qAT]; rfl
theorem qFM {ns:List Str} {bs:List tPred} {n:Str} {q:tPred} (h:look ns bs n = some q):q ∈ bs:=by
 unfold look at h
 cases hf:ns.findIdx? (fun x => x == n) with
 | none => rw [hf] at h; cases h
 | some j =>
  rw [hf] at h
  exact List.mem_of_getElem? h
theorem qH4 (R:qbD) (ns:List Str) (bs:List tPred) (p:tPred) (hn:ns.length < 9223372036854775808) :
  qhk R ns bs p = some ((if p.Op = 3 then look ns bs p.Name else none).elim (.inr ()) (fun q => .inl (q.Op,q.Name,q.N,q.Kids))):=by
 unfold qhk qkc look
 by_cases h1:p.Op = 3
 ·rw [if_pos (by simpa using h1),qyd ns p.Name hn,if_pos h1]
  simp only [Option.bind_some]
  cases hf:ns.findIdx? (fun x => x == p.Name) with
  | none => rfl
  | some j =>
   simp only [Option.bind_some]
   rw [if_pos (decide_eq_true (show (j:Int) ≥ 0 by omega))]
   simp only [Option.bind_some]
   by_cases h2:j < bs.length
   ·rw [if_pos (decide_eq_true (by omega)),qaS bs j h2,List.getElem?_eq_getElem h2]
    rfl
   ·rw [if_neg (by simp; omega),List.getElem?_eq_none (by omega)]
    rfl
 ·rw [if_neg (by simpa using h1),if_neg h1]
  rfl
theorem qDD (p:tPred) (ns:List Str) (bs:List tPred) (hp:nP p ≤ bigN) (hn:ns.length < 9223372036854775808):qiZ p ns bs = some (sbP (look ns bs) p):=by
 refine qfd (F:=qlh) (fun x => nP x.1) (fun x => nP x.1 ≤ bigN∧x.2 = (ns,bs)) (fun x => sbP (look x.2.1 x.2.2) x.1) (fun R x hx ih => ?_) (p,ns,bs) ⟨hp,rfl⟩ (qgV hp)
 obtain ⟨p,ns',bs'⟩:=x
 obtain ⟨hx,he⟩:=hx
 cases he
 have hx:nP p ≤ bigN:=hx
 show qiE (fun p names a => R (p,names,a)) p ns bs = some (sbP (look ns bs) p)
 unfold qiE
 rw [qH4 _ ns bs p hn,qGW]
 cases h:(if p.Op = 3 then look ns bs p.Name else none) with
 | some q =>
  simp only [Option.elim,Option.bind_some,qol,Option.getD_some]
 | none =>
  simp only [Option.elim,Option.bind_some,Option.getD_none]
  unfold qkl
  have hlen:=qjP p
  rw [qdF p.Kids (by unfold bigN at hx; omega) (fun i s => (s,i)) _ (fun y => R (y,ns,bs)) (sbP (look ns bs)) id (fun i s => rfl) (fun y hy => ih (y,ns,bs) (qkn hy) ⟨by have:=qkn hy; show nP y ≤ bigN; omega,rfl⟩)]
  rfl
theorem qHG (R:qbt) (ns:List Str) (bs:List tPred) (p:tPred) (hn:ns.length < 9223372036854775808) (hb:∀ q ∈ bs,nP q ≤ bigN) :
  qgv R ns bs p = some ((if p.Op = 3 then look ns bs p.Name else none).elim (.inr ()) (fun q => .inl (q.Op,q.Name,q.N,q.Kids))):=by
 unfold qgv qjC look qtw
 by_cases h1:p.Op = 3
 ·rw [if_pos (by simpa using h1),qBV ns p.Name hn,if_pos h1]
  simp only [Option.bind_some]
  cases hf:ns.findIdx? (fun x => x == p.Name) with
  | none => rfl
  | some j =>
   simp only [Option.bind_some]
   rw [if_pos (decide_eq_true (show (j:Int) ≥ 0 by omega))]
   simp only [Option.bind_some]
   by_cases h2:j < bs.length
   ·rw [if_pos (decide_eq_true (by omega)),qaS bs j h2,List.getElem?_eq_getElem h2]
    simp only [Option.bind_some]
    rw [qEr _ (hb _ (List.getElem_mem h2))]
    rfl
   ·rw [if_neg (by simp; omega),List.getElem?_eq_none (by omega)]
    rfl
 ·rw [if_neg (by simpa using h1),if_neg h1]
  rfl
theorem qHX (p:tPred) (ns:List Str) (bs:List tPred) (hp:nP p ≤ bigN) (hn:ns.length < 9223372036854775808) (hb:∀ q ∈ bs,nP q ≤ bigN):qjO p ns bs = some (sbP (look ns bs) p):=by
 refine qfd (F:=qki) (fun x => nP x.1) (fun x => nP x.1 ≤ bigN∧x.2 = (ns,bs)) (fun x => sbP (look x.2.1 x.2.2) x.1) (fun R x hx ih => ?_) (p,ns,bs) ⟨hp,rfl⟩ (qgV hp)
 obtain ⟨p,ns',bs'⟩:=x
 obtain ⟨hx,he⟩:=hx
 cases he
 have hx:nP p ≤ bigN:=hx
 show qg1 (fun p names a => R (p,names,a)) p ns bs = some (sbP (look ns bs) p)
 unfold qg1
 rw [qHG _ ns bs p hn hb,qGW]
 cases h:(if p.Op = 3 then look ns bs p.Name else none) with
 | some q =>
  simp only [Option.elim,Option.bind_some,qol,Option.getD_some]
 | none =>
  simp only [Option.elim,Option.bind_some,Option.getD_none]
  unfold qjn
  have hlen:=qjP p
  rw [qdF p.Kids (by unfold bigN at hx; omega) (fun i s => (i,s)) _ (fun y => R (y,ns,bs)) (sbP (look ns bs)) id (fun i s => rfl) (fun y hy => ih (y,ns,bs) (qkn hy) ⟨by have:=qkn hy; show nP y ≤ bigN; omega,rfl⟩)]
  rfl
theorem qE5 (t:tType):(⟨t.Op,t.Name,t.Args,t.Names,t.Pred,t.Preds⟩:tType) = t:=by cases t; rfl
theorem qw8 (t:tType):(⟨t.Op,t.Name,t.Args,t.Names,⟨t.Pred.Op,t.Pred.Name,t.Pred.N,t.Pred.Kids⟩,t.Preds⟩:tType) = t:=by rw [qol,qE5]
mutual
def lenT:tType→Nat
 | ⟨_,_,xs,ns,_,ps⟩ => qdu xs + ns.length + ps.length + 1
def qdu:List tType→Nat
 | [] => 0
 | a :: xs => lenT a + qdu xs
end
theorem qj1 (t:tType):lenT t = qdu t.Args + t.Names.length + t.Preds.length + 1:=by obtain ⟨o,n,xs,ns,p,ps⟩:=t; rw [lenT]; rfl
theorem qpf (t:tType):1 ≤ lenT t:=by rw [qj1]; omega
theorem qlI:∀ {l:List tType} {x:tType},x ∈ l→lenT x ≤ qdu l
 | y :: l,x,h => by
  rw [qdu]
  rcases List.mem_cons.1 h with rfl | h
  ·omega
  ·have:=qlI h; omega
theorem qwj:∀ (l:List tType),l.length ≤ qdu l
 | [] => by simp [qdu]
 | p :: l => by rw [qdu]; have:=qwj l; have:=qpf p; simp only [List.length_cons]; omega
theorem qg6 {t a:tType} (h:a ∈ t.Args):lenT a < lenT t:=by rw [qj1 t]; have:=qlI h; omega
theorem qhn (t:tType):t.Args.length < lenT t:=by rw [qj1]; have:=qwj t.Args; omega
theorem qe4 (t:tType):t.Names.length < lenT t:=by rw [qj1]; omega
theorem qhN (t:tType):t.Preds.length < lenT t:=by rw [qj1]; omega
mutual
def allP (Q:tPred→Prop):tType→Prop
 | ⟨_,_,xs,_,p,ps⟩ => Q p∧(∀ q ∈ ps,Q q)∧qpj Q xs
def qpj (Q:tPred→Prop):List tType→Prop
 | [] => True
 | a :: xs => allP Q a∧qpj Q xs
end
theorem qxL (Q:tPred→Prop) (t:tType):allP Q t↔Q t.Pred∧(∀ q ∈ t.Preds,Q q)∧qpj Q t.Args:=by obtain ⟨o,n,xs,ns,p,ps⟩:=t; rw [allP]; rfl
theorem qq7 (Q:tPred→Prop):∀ (l:List tType),qpj Q l↔∀ t ∈ l,allP Q t
 | [] => by simp [qpj]
 | a :: l => by rw [qpj,qq7 Q l]; simp
theorem qIV (l:List tPred):l.length ≤ pmLL (l.map qaa):=by
 have:=qt6 l
 have:=qE6 l
 omega
theorem qI1 (l:List Str):l.length ≤ pmLL (l.map cS):=by
 have h:=qys (l.map cS) (fun x hx => by
  obtain ⟨s,_,rfl⟩:=List.mem_map.1 hx
  simp only [cS,pmL,pm]; omega)
 rwa [List.length_map] at h
theorem qyK (t:tType):pmL (qac t) = 1 + (pm (.str t.Name) + (pm (sl qac t.Args) + (pm (sl cS t.Names) + (1 + (pm (.str t.Pred.Name) + (1 + (pm (sl qaa t.Pred.Kids) + (pm (sl qaa t.Preds) + 0)))))))):=by
 rw [qav]; rfl
mutual
theorem qxZ:∀ (t:tType),lenT t ≤ pmL (qac t)
 | ⟨o,n,xs,ns,p,ps⟩ => by
  have h1:=qB0 xs
  have h2:=qIV ps
  have h3:=qI1 ns
  rw [lenT,qyK]
  show _ ≤ 1 + (pm (.str n) + (pm (sl qac xs) + (pm (sl cS ns) + (1 + (pm (.str p.Name) + (1 + (pm (sl qaa p.Kids) + (pm (sl qaa ps) + 0))))))))
  simp only [pm,sl]
  omega
theorem qB0:∀ (l:List tType),qdu l ≤ pmLL (l.map qac)
 | [] => by simp [qdu]
 | a :: l => by
  have:=qxZ a
  have:=qB0 l
  rw [qdu]
  simp only [List.map_cons,pmLL]
  omega
end
mutual
def mapT (f:tPred→tPred):tType→tType
 | ⟨o,n,xs,ns,p,ps⟩ => ⟨o,n,qu0 f xs,ns,f p,ps.map f⟩
def qu0 (f:tPred→tPred):List tType→List tType
 | [] => []
 | a :: xs => mapT f a :: qu0 f xs
end
theorem qzQ (f:tPred→tPred):∀ (l:List tType),qu0 f l = l.map (mapT f)
 | [] => by rw [qu0]; rfl
 | a :: l => by rw [qu0,qzQ f l]; rfl
theorem qEt (f:tPred→tPred) (t:tType):mapT f t = ⟨t.Op,t.Name,t.Args.map (mapT f),t.Names,f t.Pred,t.Preds.map f⟩:=by
 obtain ⟨o,n,xs,ns,p,ps⟩:=t
 rw [mapT,qzQ]; rfl
mutual
theorem qCF (f:tPred→tPred):∀ (t:tType),lenT (mapT f t) = lenT t
 | ⟨o,n,xs,ns,p,ps⟩ => by rw [mapT,lenT,lenT,qzO f xs,List.length_map]
theorem qzO (f:tPred→tPred):∀ (l:List tType),qdu (qu0 f l) = qdu l
 | [] => by rw [qu0]
 | a :: xs => by rw [qu0,qdu,qdu,qCF f a,qzO f xs]
end
mutual
theorem qCc {Q R:tPred→Prop} (f:tPred→tPred) (h:∀ p,Q p→R (f p)):∀ (t:tType),allP Q t→allP R (mapT f t)
 | ⟨_,_,xs,_,p,ps⟩,ht => by
  rw [allP] at ht
  rw [mapT,allP]
  refine ⟨h _ ht.1,fun q hq => ?_,qzi f h xs ht.2.2⟩
  obtain ⟨q',hq',rfl⟩:=List.mem_map.1 hq
  exact h _ (ht.2.1 q' hq')
theorem qzi {Q R:tPred→Prop} (f:tPred→tPred) (h:∀ p,Q p→R (f p)):∀ (l:List tType),qpj Q l→qpj R (qu0 f l)
 | [],_ => by rw [qu0]; trivial
 | a :: xs,hl => by
  rw [qpj] at hl
  rw [qu0,qpj]
  exact ⟨qCc f h a hl.1,qzi f h xs hl.2⟩
end
def eqQ (a b:tPred):Bool:=(qDo a && qDo b) || decide (a = b)
mutual
def qsA:tType→tType→Bool
 | ⟨o,n,xs,ns,p,ps⟩,⟨o',n',xs',ns',p',ps'⟩ => decide (o = o') && (decide (n = n') && (decide (ns = ns') && (eqQ p p' && (all2 eqQ ps ps' && qpP xs xs'))))
def qpP:List tType→List tType→Bool
 | [],[] => true
 | a :: xs,b :: bs => qsA a b && qpP xs bs
 | _,_ => false
end
theorem qxh:∀ (a b:List tType),qpP a b = all2 qsA a b
 | [],[] => by rw [qpP,all2]
 | a :: xs,b :: bs => by rw [qpP,all2,qxh xs bs]
 | [],b :: bs => by simp [qpP,all2]
 | a :: xs,[] => by simp [qpP,all2]
theorem qFK (a b:tType):qsA a b = (decide (a.Op = b.Op) && (decide (a.Name = b.Name) && (decide (a.Names = b.Names) && (eqQ a.Pred b.Pred && (all2 eqQ a.Preds b.Preds && all2 qsA a.Args b.Args))))):=by
 obtain ⟨o,n,xs,ns,p,ps⟩:=a
 obtain ⟨o',n',xs',ns',p',ps'⟩:=b
 rw [qsA,qxh]; rfl
theorem qBS (p:tPred):eqQ p p = true:=by simp [eqQ]
mutual
theorem qxg:∀ (t:tType),qsA t t = true
 | ⟨o,n,xs,ns,p,ps⟩ => by
  rw [qsA,qv6 xs,qBS,qz4 (fun x _ => qBS x)]
  simp
theorem qv6:∀ (l:List tType),qpP l l = true
 | [] => by rw [qpP]
 | a :: xs => by rw [qpP,qxg a,qv6 xs]; rfl
end
theorem qy8 (a b:tPred) (hb:nP b ≤ bigN):qo4 a b = some (eqQ a b):=by
 unfold qo4 eqQ
 rw [qCs a]
 simp only [Option.bind_some]
 rw [qCs b,quO a b hb]
 cases qDo a <;> cases qDo b <;> simp
theorem qD6 (a b:List Str) (ha:a.length < 9223372036854775808):quF a b = some (decide (a = b)):=by
 unfold quF
 by_cases hl:a.length = b.length
 ·rw [if_neg (by simp [hl])]
  unfold qqz
  rw [quX hl ha (fun zz => qmK a b (a.length:Int) zz) (fun i x z => if (!(x == z)) = true then some (.inr (.inl ())) else some (.inl (w64 (i + 1)))) (fun x y => decide (x = y)) (.inl ()) (.inr ()) (fun i => rfl) (fun x _ z _ i => by by_cases h:x = z <;> simp [h]),qFD]
  by_cases h:a = b <;> simp [h]
 ·rw [if_pos (by simp; omega),decide_eq_false (fun he => hl (by rw [he]))]
theorem qEz (a b:tType) (ha:lenT a ≤ bigN) (hb:allP (fun p => nP p ≤ bigN) b):qm5 a b = some (qsA a b):=by
 refine qfd (F:=qs9) (fun x => lenT x.1) (fun x => lenT x.1 ≤ bigN∧allP (fun p => nP p ≤ bigN) x.2) (fun x => qsA x.1 x.2) (fun R x hx ih => ?_) (a,b) ⟨ha,hb⟩ (qgV ha)
 obtain ⟨u,v⟩:=x
 obtain ⟨hu,hv⟩:=hx
 have hu:lenT u ≤ bigN:=hu
 have hv:allP (fun p => nP p ≤ bigN) v:=hv
 show qoS (fun a a2 => R (a,a2)) u v = some (qsA u v)
 obtain ⟨v1,v2,v3⟩:=(qxL _ v).1 hv
 have l1:=qhn u
 have l2:=qe4 u
 have l3:=qhN u
 unfold bigN at hu
 unfold qoS qqu
 rw [qFK]
 by_cases h1:u.Op = v.Op
 ·by_cases h2:u.Name = v.Name
  ·by_cases h3:u.Args.length = v.Args.length
   ·by_cases h4:u.Preds.length = v.Preds.length
    ·rw [if_neg (by simpa using h1),if_neg (by simpa using h2),if_neg (by simp [h3]),if_neg (by simp [h4]),qD6 _ _ (by omega),qy8 _ _ v1]
     simp only [Option.bind_some]
     by_cases h5:u.Names = v.Names
     ·by_cases h6:eqQ u.Pred v.Pred = true
      ·simp only [h1,h2,h5,h6,decide_true,Bool.not_true,Bool.false_eq_true,if_false,Option.bind_some,Bool.true_and]
       unfold qqQ
       rw [quX h4 (by omega) (fun zz => qnf (fun a a2 => R (a,a2)) u v (u.Preds.length:Int) zz) (fun i x z => (qo4 x z).bind fun r => if (!r) = true then some (.inr (.inl ())) else some (.inl (w64 (i + 1)))) eqQ (.inl ()) (.inr ()) (fun i => rfl) (fun x _ z hz i => by
        rw [qy8 _ _ (v2 z hz)]
        cases h:eqQ x z <;> simp)]
       by_cases h7:all2 eqQ u.Preds v.Preds = true
       ·simp only [h7,if_true,Option.bind_some,Bool.true_and]
        unfold qqE
        rw [quX h3 (by omega) (fun zz => ql9 (fun a a2 => R (a,a2)) u v (u.Args.length:Int) zz) (fun i x z => (R (x,z)).bind fun r => if (!r) = true then some (.inr (.inl ())) else some (.inl (w64 (i + 1)))) qsA (.inl ()) (.inr ()) (fun i => rfl) (fun x hx z hz i => by
         rw [ih (x,z) (qg6 hx) ⟨by have:=qg6 hx; show lenT x ≤ bigN; unfold bigN; omega,(qq7 _ _).1 v3 z hz⟩]
         cases h:qsA x z <;> simp)]
        cases h:all2 qsA u.Args v.Args <;> simp
       ·simp only [h7,if_false,Option.bind_some,Bool.false_and,Bool.false_eq_true]
      ·simp only [h1,h2,h5,h6,decide_true,Bool.not_true,Bool.false_eq_true,if_false,Option.bind_some,Bool.not_false,if_true,Bool.false_and,Bool.true_and]
     ·simp only [h1,h2,h5,decide_true,decide_false,Bool.not_false,if_true,Option.bind_some,Bool.false_and,Bool.true_and]
    ·rw [if_neg (by simpa using h1),if_neg (by simpa using h2),if_neg (by simp [h3]),if_pos (by simp; omega),qEL h4]
     simp
   ·rw [if_neg (by simpa using h1),if_neg (by simpa using h2),if_pos (by simp; omega),qEL h3]
    simp
  ·rw [if_neg (by simpa using h1),if_pos (by simpa using h2)]
   simp [h2]
 ·rw [if_pos (by simpa using h1)]
  simp [h1]
theorem qA7 (t:tType) (ht:lenT t ≤ bigN) (hb:allP (fun p => nP p ≤ bigN) t):qm5 t t = some true:=by rw [qEz t t ht hb,qxg]
section
variable {α β σ τ X Y:Type}
theorem qwl {A:Type} (l:List α) (hl:l.length < 9223372036854775808) {body:Int→Option (Int⊕(A⊕Unit))} (k:Int→α→Option (Int⊕(A⊕Unit))) (P:α→Prop) (B:A→Prop)
  (hb:∀ (i:Int),body i = if decide (i < (l.length:Int)) = true then (idx l i).bind (k i) else some (.inr (.inr ())))
  (hk:∀ x ∈ l,∀ i,tot (k i x) (fun r => r.elim (fun t => t = w64 (i + 1)∧P x) (fun y => y.elim B (fun _ => False)))):tot (loop body 0) (fun r => r.elim B (fun _ => ∀ x ∈ l,P x)):=by
 refine qDJ l hl k (.inr ()) (fun i => ∀ j (h:j < l.length),j < i→P l[j]) hb (fun i hi hI => (hk _ (List.getElem_mem hi) i).mono fun r hr => ?_) (fun hI x hx => ?_) (fun j _ h => absurd h (Nat.not_lt_zero _))
 ·cases r with
  | inl t =>
   refine ⟨hr.1,fun j hj h => ?_⟩
   by_cases he:j = i
   ·subst he; exact hr.2
   ·exact hI j hj (by omega)
  | inr y => cases y with
   | inl a => exact hr
   | inr u => exact hr.elim
 ·obtain ⟨j,hj,rfl⟩:=List.getElem_of_mem hx
  exact hI j hj hj
end
end Go.Proofs.YtgldgpdhblndkaaGreatDoor
