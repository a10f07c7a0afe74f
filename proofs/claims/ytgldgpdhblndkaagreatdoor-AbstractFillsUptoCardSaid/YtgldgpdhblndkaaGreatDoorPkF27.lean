/- WHAT IS PROVED: parts of the proof, put together by a program (Ck2 Fl1 Fl2 Nb Pq1 Pt1 Pt3). Conditions: none. -/
import Derived.Test.YtgldgpdhblndkaaGreatDoorPkF26
import Derived.Test.YtgldgpdhblndkaaGreatDoorPkF13
noncomputable section
namespace Go.Proofs.YtgldgpdhblndkaaGreatDoor
open Go
set_option linter.unusedVariables false
set_option linter.unusedSimpArgs false
mutual
def dP:tPred→Nat
 | ⟨_,_,_,ks⟩ => dL ks + 1
def dL:List tPred→Nat
 | [] => 0
 | p :: ps => max (dP p) (dL ps)
end
theorem qME (p:tPred):dP p = dL p.Kids + 1:=by obtain ⟨o,n,k,ks⟩:=p; rw [dP]; rfl
mutual
theorem qMk:∀ (p:tPred),dP p ≤ nP p
 | ⟨o,n,k,ks⟩ => by have:=qMz ks; rw [dP,nP]; omega
theorem qMz:∀ (l:List tPred),dL l ≤ nL l
 | [] => by simp [dL]
 | p :: l => by have:=qMk p; have:=qMz l; rw [dL,nL]; omega
end
theorem qHB:∀ (l:List tPred) (a:Nat),l.foldl (fun (s:Int) x => if (dP x:Int) > s then (dP x:Int) else s) (a:Int) = ((max a (dL l):Nat):Int)
 | [],a => by simp [dL]
 | x :: l,a => by
  rw [List.foldl_cons,show (if (dP x:Int) > (a:Int) then (dP x:Int) else (a:Int)) = ((max a (dP x):Nat):Int) by split <;> omega,qHB l,dL,Nat.max_assoc]
theorem qz9 (p:tPred) (hp:nP p ≤ bigN):qpq p = some (dP p:Int):=by
 refine qd3 (F:=qsh) nP (fun x => nP x ≤ bigN) (fun x => (dP x:Int)) (fun R x hx ih => ?_) p hp (qdQ hp)
 show qmW (fun p => R p) x = _
 unfold qmW qoB
 have hlen:=qgh x
 have hd:=qMk x
 have he:=qME x
 have hz:(0:Int) = ((0:Nat):Int):=rfl
 rw [qgw x.Kids (by unfold bigN at hx; omega) (fun i s => (s,i)) _ (fun i s x => (R x).bind fun r => some (.inl ((if r > s then r else s),w64 (i + 1)))) (fun _ _ => True) (fun x s => if (dP x:Int) > s then (dP x:Int) else s) id 0 trivial (fun i s => rfl) (fun i hi s _ => ⟨?_,trivial⟩)]
 ·rw [hz,qHB]
  simp only [id,vaa]
  unfold bigN at hx
  rw [qiY (by omega) (by omega)]
  congr 1; omega
 ·have hm:=vat hi
  have hk:=qfM hm
  rw [ih _ hk (by omega)]
  rfl
def look (ns:List Str) (bs:List tPred) (n:Str):Option tPred:=(ns.findIdx? (fun x => x == n)).bind fun j => bs[j]?
mutual
def sbP (f:Str→Option tPred):tPred→tPred
 | ⟨o,n,k,ks⟩ => (if o = 3 then f n else none).getD ⟨o,n,k,sbL f ks⟩
def sbL (f:Str→Option tPred):List tPred→List tPred
 | [] => []
 | p :: ps => sbP f p :: sbL f ps
end
theorem qD4 (f:Str→Option tPred):∀ (l:List tPred),sbL f l = l.map (sbP f)
 | [] => by rw [sbL]; rfl
 | p :: l => by rw [sbL,qD4 f l]; rfl
theorem qHV (f:Str→Option tPred) (p:tPred):sbP f p = (if p.Op = 3 then f p.Name else none).getD ⟨p.Op,p.Name,p.N,p.Kids.map (sbP f)⟩:=by
 obtain ⟨o,n,k,ks⟩:=p
 rw [sbP,qD4]; rfl
mutual
theorem qMe (f:Str→Option tPred) (M:Nat) (hM:1 ≤ M) (hf:∀ n q,f n = some q→nP q ≤ M):∀ (p:tPred),nP (sbP f p) ≤ nP p * M
 | ⟨o,n,k,ks⟩ => by
  have:=qMv f M hM hf ks
  rw [sbP]
  cases h:(if o = 3 then f n else none) with
  | none =>
   simp only [Option.getD_none]
   rw [nP,nP,vaX]; omega
  | some q =>
   simp only [Option.getD_some]
   have:f n = some q:=by
    split at h
    ·exact h
    ·cases h
   have:=hf n q this
   rw [nP,vaX]
   have:0 ≤ nL ks * M:=vaM _
   omega
theorem qMv (f:Str→Option tPred) (M:Nat) (hM:1 ≤ M) (hf:∀ n q,f n = some q→nP q ≤ M):∀ (l:List tPred),nL (sbL f l) ≤ nL l * M
 | [] => by simp [sbL,nL]
 | p :: l => by
  have:=qMe f M hM hf p
  have:=qMv f M hM hf l
  rw [sbL,nL,nL,vaX]; omega
end
theorem qJS {ns:List Str} {bs:List tPred} {n:Str} {q:tPred} (h:look ns bs n = some q):q ∈ bs:=by
 unfold look at h
 cases hf:ns.findIdx? (fun x => x == n) with
 | none => rw [hf] at h; cases h
 | some j =>
  rw [hf] at h
  exact vay h
theorem qL4 (ns:List Str) (bs:List tPred) (p:tPred) (hn:ns.length < 9223372036854775808) :
  qhF ns bs p = some ((if p.Op = 3 then look ns bs p.Name else none).elim (.inr ()) (fun q => .inl (q.Op,q.Name,q.N,q.Kids))):=by
 unfold qhF qko look
 by_cases h1:p.Op = 3
 ·rw [vao (by simpa using h1),qI6 ns p.Name hn,vao h1]
  simp only [vaa]
  cases hf:ns.findIdx? (fun x => x == p.Name) with
  | none => rfl
  | some j =>
   simp only [vaa]
   rw [vao (vba (show (j:Int) ≥ 0 by omega))]
   simp only [vaa]
   by_cases h2:j < bs.length
   ·rw [vao (vba (by omega)),qbb bs j h2,vab h2]
    rfl
   ·rw [vam (by simp; omega),vaB (by omega)]
    rfl
 ·rw [vam (by simpa using h1),vam h1]
  rfl
theorem qHO (p:tPred) (ns:List Str) (bs:List tPred) (hp:nP p ≤ bigN) (hn:ns.length < 9223372036854775808):qkW p ns bs = some (sbP (look ns bs) p):=by
 refine qd3 (F:=qlU) (fun x => nP x.1) (fun x => nP x.1 ≤ bigN∧x.2 = (ns,bs)) (fun x => sbP (look x.2.1 x.2.2) x.1) (fun R x hx ih => ?_) (p,ns,bs) ⟨hp,rfl⟩ (qdQ hp)
 obtain ⟨p,ns',bs'⟩:=x
 obtain ⟨hx,he⟩:=hx
 cases he
 have hx:nP p ≤ bigN:=hx
 show qiP (fun p names a => R (p,names,a)) p ns bs = some (sbP (look ns bs) p)
 unfold qiP
 rw [qL4 ns bs p hn,qHV]
 cases h:(if p.Op = 3 then look ns bs p.Name else none) with
 | some q =>
  simp only [Option.elim,vaa,qoC,Option.getD_some]
 | none =>
  simp only [Option.elim,vaa,Option.getD_none]
  unfold qj8
  have hlen:=qgh p
  rw [qb6 p.Kids (by unfold bigN at hx; omega) (fun i s => (s,i)) _ (fun y => R (y,ns,bs)) (sbP (look ns bs)) id (fun i s => rfl) (fun y hy => ih (y,ns,bs) (qfM hy) ⟨by have:=qfM hy; show nP y ≤ bigN; omega,rfl⟩)]
  rfl
theorem qKV (ns:List Str) (bs:List tPred) (p:tPred) (hn:ns.length < 9223372036854775808) (hb:∀ q ∈ bs,nP q ≤ bigN) :
  qgb ns bs p = some ((if p.Op = 3 then look ns bs p.Name else none).elim (.inr ()) (fun q => .inl (q.Op,q.Name,q.N,q.Kids))):=by
 unfold qgb qjr look quJ
 by_cases h1:p.Op = 3
 ·rw [vao (by simpa using h1),qES ns p.Name hn,vao h1]
  simp only [vaa]
  cases hf:ns.findIdx? (fun x => x == p.Name) with
  | none => rfl
  | some j =>
   simp only [vaa]
   rw [vao (vba (show (j:Int) ≥ 0 by omega))]
   simp only [vaa]
   by_cases h2:j < bs.length
   ·rw [vao (vba (by omega)),qbb bs j h2,vab h2]
    simp only [vaa]
    rw [qIP _ (hb _ (vat h2))]
    rfl
   ·rw [vam (by simp; omega),vaB (by omega)]
    rfl
 ·rw [vam (by simpa using h1),vam h1]
  rfl
theorem qLu (p:tPred) (ns:List Str) (bs:List tPred) (hp:nP p ≤ bigN) (hn:ns.length < 9223372036854775808) (hb:∀ q ∈ bs,nP q ≤ bigN):qjK p ns bs = some (sbP (look ns bs) p):=by
 refine qd3 (F:=qkM) (fun x => nP x.1) (fun x => nP x.1 ≤ bigN∧x.2 = (ns,bs)) (fun x => sbP (look x.2.1 x.2.2) x.1) (fun R x hx ih => ?_) (p,ns,bs) ⟨hp,rfl⟩ (qdQ hp)
 obtain ⟨p,ns',bs'⟩:=x
 obtain ⟨hx,he⟩:=hx
 cases he
 have hx:nP p ≤ bigN:=hx
 show qhk (fun p names a => R (p,names,a)) p ns bs = some (sbP (look ns bs) p)
 unfold qhk
 rw [qKV ns bs p hn hb,qHV]
 cases h:(if p.Op = 3 then look ns bs p.Name else none) with
 | some q =>
  simp only [Option.elim,vaa,qoC,Option.getD_some]
 | none =>
  simp only [Option.elim,vaa,Option.getD_none]
  unfold qjl
  have hlen:=qgh p
  rw [qb6 p.Kids (by unfold bigN at hx; omega) (fun i s => (i,s)) _ (fun y => R (y,ns,bs)) (sbP (look ns bs)) id (fun i s => rfl) (fun y hy => ih (y,ns,bs) (qfM hy) ⟨by have:=qfM hy; show nP y ≤ bigN; omega,rfl⟩)]
  rfl
def qAm (v:Str) (q:tPred) (n:Str):Option tPred:=if n = v then some q else none
theorem qFr (v:Str) (q:tPred):look [v] [q] = qAm v q:=by
 funext n
 unfold look qAm
 rw [vcg]
 by_cases h:n = v
 ·subst h; simp
 ·have h':(v == n) = false:=by simpa using fun e => h e.symm
  simp [h',h]
theorem qGV (p:tPred) (v:Str) (q:tPred) (hp:nP p ≤ bigN):qsE p v q = some (sbP (qAm v q) p):=by
 unfold qsE
 rw [qHO p [v] [q] hp (by simp),qFr]
 rfl
theorem qK0 {v n:Str} {q r:tPred} (h:qAm v q n = some r):nP r ≤ nP q:=by
 unfold qAm at h
 split at h
 ·cases h; omega
 ·cases h
theorem qHn (f:Str→Option tPred):sbP f qhW = qhW:=by
 rw [qHV]; rfl
theorem qIW (t:tType):(⟨t.Op,t.Name,t.Args,t.Names,t.Pred,t.Preds⟩:tType) = t:=by cases t; rfl
theorem qzI (t:tType):(⟨t.Op,t.Name,t.Args,t.Names,⟨t.Pred.Op,t.Pred.Name,t.Pred.N,t.Pred.Kids⟩,t.Preds⟩:tType) = t:=by rw [qoC,qIW]
mutual
def lenT:tType→Nat
 | ⟨_,_,xs,ns,_,ps⟩ => qdf xs + ns.length + ps.length + 1
def qdf:List tType→Nat
 | [] => 0
 | a :: xs => lenT a + qdf xs
end
theorem qkG (t:tType):lenT t = qdf t.Args + t.Names.length + t.Preds.length + 1:=by obtain ⟨o,n,xs,ns,p,ps⟩:=t; rw [lenT]; rfl
theorem qnb (t:tType):1 ≤ lenT t:=by rw [qkG]; omega
theorem qmf:∀ {l:List tType} {x:tType},x ∈ l→lenT x ≤ qdf l
 | y :: l,x,h => by
  rw [qdf]
  rcases vaC.1 h with rfl | h
  ·omega
  ·have:=qmf h; omega
theorem qxD:∀ (l:List tType),l.length ≤ qdf l
 | [] => by simp [qdf]
 | p :: l => by rw [qdf]; have:=qxD l; have:=qnb p; simp only [vaS]; omega
theorem qde {t a:tType} (h:a ∈ t.Args):lenT a < lenT t:=by rw [qkG t]; have:=qmf h; omega
theorem qeD (t:tType):t.Args.length < lenT t:=by rw [qkG]; have:=qxD t.Args; omega
theorem qjc (t:tType):t.Names.length < lenT t:=by rw [qkG]; omega
theorem qe7 (t:tType):t.Preds.length < lenT t:=by rw [qkG]; omega
mutual
def allP (Q:tPred→Prop):tType→Prop
 | ⟨_,_,xs,_,p,ps⟩ => Q p∧(∀ q ∈ ps,Q q)∧qiB Q xs
def qiB (Q:tPred→Prop):List tType→Prop
 | [] => True
 | a :: xs => allP Q a∧qiB Q xs
end
theorem qiQ (Q:tPred→Prop) (t:tType):allP Q t↔Q t.Pred∧(∀ q ∈ t.Preds,Q q)∧qiB Q t.Args:=by obtain ⟨o,n,xs,ns,p,ps⟩:=t; rw [allP]; rfl
theorem qe2 (Q:tPred→Prop):∀ (l:List tType),qiB Q l↔∀ t ∈ l,allP Q t
 | [] => by simp [qiB]
 | a :: l => by rw [qiB,qe2 Q l]; simp
mutual
theorem qFR {Q R:tPred→Prop}:∀ (t:tType),allP Q t→allP R t→allP (fun p => Q p∧R p) t
 | ⟨_,_,xs,_,p,ps⟩,h1,h2 => by
  rw [allP] at h1 h2 ⊢
  exact ⟨⟨h1.1,h2.1⟩,fun q hq => ⟨h1.2.1 q hq,h2.2.1 q hq⟩,qC8 xs h1.2.2 h2.2.2⟩
theorem qC8 {Q R:tPred→Prop}:∀ (l:List tType),qiB Q l→qiB R l→qiB (fun p => Q p∧R p) l
 | [],_,_ => trivial
 | a :: xs,h1,h2 => by
  rw [qiB] at h1 h2 ⊢
  exact ⟨qFR a h1.1 h2.1,qC8 xs h1.2 h2.2⟩
end
theorem qMA (l:List tPred):l.length ≤ pmLL (l.map qaa):=by
 have:=qzz l
 have:=qID l
 omega
theorem qMH (l:List Str):l.length ≤ pmLL (l.map cS):=by
 have h:=qFe (l.map cS) (fun x hx => by
  obtain ⟨s,_,rfl⟩:=vas.1 hx
  simp only [cS,pmL,pm]; omega)
 rwa [vaL] at h
theorem qAd (t:tType):pmL (qac t) = 1 + (pm (.str t.Name) + (pm (sl qac t.Args) + (pm (sl cS t.Names) + (1 + (pm (.str t.Pred.Name) + (1 + (pm (sl qaa t.Pred.Kids) + (pm (sl qaa t.Preds) + 0)))))))):=by
 rw [qaK]; rfl
mutual
theorem qBA:∀ (t:tType),lenT t ≤ pmL (qac t)
 | ⟨o,n,xs,ns,p,ps⟩ => by
  have h1:=qFO xs
  have h2:=qMA ps
  have h3:=qMH ns
  rw [lenT,qAd]
  show _ ≤ 1 + (pm (.str n) + (pm (sl qac xs) + (pm (sl cS ns) + (1 + (pm (.str p.Name) + (1 + (pm (sl qaa p.Kids) + (pm (sl qaa ps) + 0))))))))
  simp only [pm,sl]
  omega
theorem qFO:∀ (l:List tType),qdf l ≤ pmLL (l.map qac)
 | [] => by simp [qdf]
 | a :: l => by
  have:=qBA a
  have:=qFO l
  rw [qdf]
  simp only [vax,pmLL]
  omega
end
mutual
def mapT (f:tPred→tPred):tType→tType
 | ⟨o,n,xs,ns,p,ps⟩ => ⟨o,n,qjj f xs,ns,f p,ps.map f⟩
def qjj (f:tPred→tPred):List tType→List tType
 | [] => []
 | a :: xs => mapT f a :: qjj f xs
end
theorem qC3 (f:tPred→tPred):∀ (l:List tType),qjj f l = l.map (mapT f)
 | [] => by rw [qjj]; rfl
 | a :: l => by rw [qjj,qC3 f l]; rfl
theorem qDS (f:tPred→tPred) (t:tType):mapT f t = ⟨t.Op,t.Name,t.Args.map (mapT f),t.Names,f t.Pred,t.Preds.map f⟩:=by
 obtain ⟨o,n,xs,ns,p,ps⟩:=t
 rw [mapT,qC3]; rfl
mutual
theorem qAH (f:tPred→tPred):∀ (t:tType),lenT (mapT f t) = lenT t
 | ⟨o,n,xs,ns,p,ps⟩ => by rw [mapT,lenT,lenT,qDq f xs,vaL]
theorem qDq (f:tPred→tPred):∀ (l:List tType),qdf (qjj f l) = qdf l
 | [] => by rw [qjj]
 | a :: xs => by rw [qjj,qdf,qdf,qAH f a,qDq f xs]
end
mutual
theorem qBy {Q R:tPred→Prop} (f:tPred→tPred) (h:∀ p,Q p→R (f p)):∀ (t:tType),allP Q t→allP R (mapT f t)
 | ⟨_,_,xs,_,p,ps⟩,ht => by
  rw [allP] at ht
  rw [mapT,allP]
  refine ⟨h _ ht.1,fun q hq => ?_,qCS f h xs ht.2.2⟩
  obtain ⟨q',hq',rfl⟩:=vas.1 hq
  exact h _ (ht.2.1 q' hq')
theorem qCS {Q R:tPred→Prop} (f:tPred→tPred) (h:∀ p,Q p→R (f p)):∀ (l:List tType),qiB Q l→qiB R (qjj f l)
 | [],_ => by rw [qjj]; trivial
 | a :: xs,hl => by
  rw [qiB] at hl
  rw [qjj,qiB]
  exact ⟨qBy f h a hl.1,qCS f h xs hl.2⟩
end
def eqQ (a b:tPred):Bool:=(qsN a && qsN b) || decide (a = b)
mutual
def quC:tType→tType→Bool
 | ⟨o,n,xs,ns,p,ps⟩,⟨o',n',xs',ns',p',ps'⟩ => decide (o = o') && (decide (n = n') && (decide (ns = ns') && (eqQ p p' && (all2 eqQ ps ps' && qqH xs xs'))))
def qqH:List tType→List tType→Bool
 | [],[] => true
 | a :: xs,b :: bs => quC a b && qqH xs bs
 | _,_ => false
end
theorem qzB:∀ (a b:List tType),qqH a b = all2 quC a b
 | [],[] => by rw [qqH,all2]
 | a :: xs,b :: bs => by rw [qqH,all2,qzB xs bs]
 | [],b :: bs => by simp [qqH,all2]
 | a :: xs,[] => by simp [qqH,all2]
theorem qJD (a b:tType):quC a b = (decide (a.Op = b.Op) && (decide (a.Name = b.Name) && (decide (a.Names = b.Names) && (eqQ a.Pred b.Pred && (all2 eqQ a.Preds b.Preds && all2 quC a.Args b.Args))))):=by
 obtain ⟨o,n,xs,ns,p,ps⟩:=a
 obtain ⟨o',n',xs',ns',p',ps'⟩:=b
 rw [quC,qzB]; rfl
theorem qFJ (p:tPred):eqQ p p = true:=by simp [eqQ]
mutual
theorem qzW:∀ (t:tType),quC t t = true
 | ⟨o,n,xs,ns,p,ps⟩ => by
  rw [quC,qyf xs,qFJ,qCV (fun x _ => qFJ x)]
  simp
theorem qyf:∀ (l:List tType),qqH l l = true
 | [] => by rw [qqH]
 | a :: xs => by rw [qqH,qzW a,qyf xs]; rfl
end
theorem qB1 (a b:tPred) (hb:nP b ≤ bigN):qpT a b = some (eqQ a b):=by
 unfold qpT eqQ
 rw [qwk a]
 simp only [vaa]
 rw [qwk b,qtm a b hb]
 cases qsN a <;> cases qsN b <;> simp
theorem qHZ (a b:List Str) (ha:a.length < 9223372036854775808):qww a b = some (decide (a = b)):=by
 unfold qww
 by_cases hl:a.length = b.length
 ·rw [vam (by simp [hl])]
  unfold qrf
  rw [qs2 hl ha (fun zz => qnz a b (a.length:Int) zz) (fun i x z => if (!(x == z)) = true then some (.inr (.inl ())) else some (.inl (w64 (i + 1)))) (fun x y => decide (x = y)) (.inl ()) (.inr ()) (fun i => rfl) (fun x _ z _ i => by by_cases h:x = z <;> simp [h]),qH3]
  by_cases h:a = b <;> simp [h]
 ·rw [vao (by simp; omega),decide_eq_false (fun he => hl (by rw [he]))]
theorem qGQ (a b:tType) (ha:lenT a ≤ bigN) (hb:allP (fun p => nP p ≤ bigN) b):qlc a b = some (quC a b):=by
 refine qd3 (F:=quH) (fun x => lenT x.1) (fun x => lenT x.1 ≤ bigN∧allP (fun p => nP p ≤ bigN) x.2) (fun x => quC x.1 x.2) (fun R x hx ih => ?_) (a,b) ⟨ha,hb⟩ (qdQ ha)
 obtain ⟨u,v⟩:=x
 obtain ⟨hu,hv⟩:=hx
 have hu:lenT u ≤ bigN:=hu
 have hv:allP (fun p => nP p ≤ bigN) v:=hv
 show qpz (fun a a2 => R (a,a2)) u v = some (quC u v)
 obtain ⟨v1,v2,v3⟩:=(qiQ _ v).1 hv
 have l1:=qeD u
 have l2:=qjc u
 have l3:=qe7 u
 unfold bigN at hu
 unfold qpz qrx
 rw [qJD]
 by_cases h1:u.Op = v.Op
 ·by_cases h2:u.Name = v.Name
  ·by_cases h3:u.Args.length = v.Args.length
   ·by_cases h4:u.Preds.length = v.Preds.length
    ·rw [vam (by simpa using h1),vam (by simpa using h2),vam (by simp [h3]),vam (by simp [h4]),qHZ _ _ (by omega),qB1 _ _ v1]
     simp only [vaa]
     by_cases h5:u.Names = v.Names
     ·by_cases h6:eqQ u.Pred v.Pred = true
      ·simp only [h1,h2,h5,h6,decide_true,vbF,vaK,if_false,vaa,vbV]
       unfold qri
       rw [qs2 h4 (by omega) (fun zz => qmE u v (u.Preds.length:Int) zz) (fun i x z => (qpT x z).bind fun r => if (!r) = true then some (.inr (.inl ())) else some (.inl (w64 (i + 1)))) eqQ (.inl ()) (.inr ()) (fun i => rfl) (fun x _ z hz i => by
        rw [qB1 _ _ (v2 z hz)]
        cases h:eqQ x z <;> simp)]
       by_cases h7:all2 eqQ u.Preds v.Preds = true
       ·simp only [h7,if_true,vaa,vbV]
        unfold qrW
        rw [qs2 h3 (by omega) (fun zz => qnF (fun a a2 => R (a,a2)) u v (u.Args.length:Int) zz) (fun i x z => (R (x,z)).bind fun r => if (!r) = true then some (.inr (.inl ())) else some (.inl (w64 (i + 1)))) quC (.inl ()) (.inr ()) (fun i => rfl) (fun x hx z hz i => by
         rw [ih (x,z) (qde hx) ⟨by have:=qde hx; show lenT x ≤ bigN; unfold bigN; omega,(qe2 _ _).1 v3 z hz⟩]
         cases h:quC x z <;> simp)]
        cases h:all2 quC u.Args v.Args <;> simp
       ·simp only [h7,if_false,vaa,vcH,vaK]
      ·simp only [h1,h2,h5,h6,decide_true,vbF,vaK,if_false,vaa,vbH,if_true,vcH,vbV]
     ·simp only [h1,h2,h5,decide_true,decide_false,vbH,if_true,vaa,vcH,vbV]
    ·rw [vam (by simpa using h1),vam (by simpa using h2),vam (by simp [h3]),vao (by simp; omega),qEB h4]
     simp
   ·rw [vam (by simpa using h1),vam (by simpa using h2),vao (by simp; omega),qEB h3]
    simp
  ·rw [vam (by simpa using h1),vao (by simpa using h2)]
   simp [h2]
 ·rw [vao (by simpa using h1)]
  simp [h1]
theorem qw7 (t:tType) (ht:lenT t ≤ bigN) (hb:allP (fun p => nP p ≤ bigN) t):qlc t t = some true:=by rw [qGQ t t ht hb,qzW]
theorem qGK (t:tType) (ht:lenT t ≤ bigN):tot (qxT t) (fun _ => True):=by
 refine qkZ (F:=qrj) lenT (fun x => lenT x ≤ bigN) (fun _ _ => True) (fun R x hx ih => ?_) t ht (qdQ ht)
 show tot (qmF (fun t => R t) x) _
 unfold qmF qn8
 have h1:=qeD x
 refine qai (R:=fun _ => True) (qiZ x.Args (by unfold bigN at hx; omega) (fun i s => (s,i)) (fun i s y => (R y).bind fun r => some (.inl ((if r > s then r else s),w64 (i + 1)))) id (fun _ _ => True) (fun i s => rfl) (fun i hi s _ => ?_) (fun _ _ => trivial) 0 trivial) (fun a _ => qae trivial)
 exact qai (ih _ (qde (vat hi)) (by have:=qde (vat hi); omega)) (fun a _ => qae ⟨_,rfl,trivial⟩)
theorem qGi (t:tType):tot (qwf t) (fun _ => True):=by
 unfold qwf
 refine qai (R:=fun _ => True) ?_ fun _ _ => qak (fun _ => qae trivial) fun _ => qai (R:=fun _ => True) ?_ fun _ _ => qak (fun _ => qae trivial) fun _ => qai (R:=fun _ => True) ?_ fun _ _ => qak (fun _ => qae trivial) fun _ => qai (R:=fun _ => True) ?_ fun _ _ => qak (fun _ => qae trivial) fun _ => qae trivial
 ·unfold qr0
  repeat' first | exact qae trivial | refine qak (fun _ => ?_) (fun _ => ?_)
 ·unfold qrE
  repeat' first | exact qae trivial | refine qak (fun _ => ?_) (fun _ => ?_)
 ·unfold qrl
  repeat' first | exact qae trivial | refine qak (fun _ => ?_) (fun _ => ?_)
 ·unfold qsc
  repeat' first | exact qae trivial | refine qak (fun _ => ?_) (fun _ => ?_) | refine qai (qJV _ _) fun _ _ => ?_
theorem qFY (t:tType) (ht:lenT t ≤ bigN):tot (qA0 t) (fun _ => True):=by
 refine qkZ (F:=qu4) lenT (fun x => lenT x ≤ bigN) (fun _ _ => True) (fun R x hx ih => ?_) t ht (qdQ ht)
 show tot (qpC (fun t => R t) x) _
 unfold qpC qr8
 have h1:=qeD x
 refine qai (qGi x) fun _ _ => qak (fun _ => qae trivial) fun _ => qai (qeX x.Args (by unfold bigN at hx; omega) _ (fun _ => True) (fun _ => True) (fun i => rfl) (fun y hy i => qai (ih _ (qde hy) (by have:=qde hy; omega)) fun _ _ => qak (fun _ => qae trivial) fun _ => qae ⟨rfl,trivial⟩)) fun o _ => ?_
 cases o <;> exact qae trivial
theorem qD7 (t:tType) (ht:lenT t ≤ bigN):tot (qsz t) (fun _ => True):=by
 unfold qsz
 exact qai (qGK t ht) fun _ _ => qak (fun _ => qae trivial) fun _ => qai (qFY t ht) fun _ _ => qae trivial
theorem qJ8 (op n:Int):tot (qjS op n) (fun r => r = true→op = 8→n = 2):=by
 by_cases h:op = 8
 ·subst h
  refine qH1 (a:=n == 2) ?_ fun h _ => by simpa using h
  simp [qjS,qm4,qm7,qmG]
 ·unfold qjS
  refine qai (R:=fun _ => True) ?_ fun _ _ => qak (fun _ => qae fun _ e => absurd e h) fun _ => qai (R:=fun _ => True) ?_ fun _ _ => qak (fun _ => qak (fun _ => qae fun _ e => absurd e h) fun _ => qae fun _ e => absurd e h) fun _ => qai (R:=fun _ => True) ?_ fun _ _ => qak (fun _ => qae fun _ e => absurd e h) fun _ => qae fun _ e => absurd e h
  ·unfold qm4
   repeat' first | exact qae trivial | refine qak (fun _ => ?_) (fun _ => ?_)
  ·unfold qm7
   repeat' first | exact qae trivial | refine qak (fun _ => ?_) (fun _ => ?_)
  ·unfold qmG
   repeat' first | exact qae trivial | refine qak (fun _ => ?_) (fun _ => ?_)
theorem qFZ (p:tPred):tot (qpK p) (fun _ => True):=by
 unfold qpK
 have hc:=fun s => (qFn s).mono (R:=fun _ => True) fun _ _ => trivial
 repeat' first | exact qae trivial | refine qak (fun _ => ?_) (fun _ => ?_) | refine qai (hc _) fun _ _ => ?_
theorem qGq (p:tPred):tot (qwA p) (fun _ => True):=by
 unfold qwA
 have hk:tot (qjS p.Op (p.Kids.length:Int)) (fun r => r = true→p.Op = 8→0 < p.Kids.length):=(qJ8 _ _).mono fun r hr h1 h2 => by have:=hr h1 h2; omega
 have hn:∀ r:Bool,(r = true→p.Op = 8→0 < p.Kids.length)→tot (some (!r)) (fun o => o = true∨(p.Op = 8→0 < p.Kids.length)):=fun r hr => by
  cases r with
  | false => exact qae (.inl rfl)
  | true => exact qae (.inr (hr rfl))
 refine qai (R:=fun _ => True) ?_ fun o3 _ => qai (R:=fun o => o = true∨(p.Op = 8→0 < p.Kids.length)) ?_ fun o ho => qak (fun _ => qae trivial) fun hno => qai (R:=fun _ => True) ?_ fun _ _ => qak (fun _ => qae trivial) fun _ => qai (qFZ p) fun _ _ => qak (fun _ => qae trivial) fun _ => qai (R:=fun _ => True) ?_ fun _ _ => qak (fun _ => qae trivial) fun _ => qae trivial
 ·unfold qrq
  repeat' first | exact qae trivial | refine qak (fun _ => ?_) (fun _ => ?_)
 ·unfold qrh
  have hm:tot (qs0 p.Op) (fun _ => True):=by
   unfold qs0
   repeat' first | exact qae trivial | refine qak (fun _ => ?_) (fun _ => ?_)
  repeat' first | exact qae (.inl rfl) | refine qak (fun _ => ?_) (fun _ => ?_) | refine qai hm fun _ _ => ?_ | exact qai hk hn
 ·have hi:tot (qFt p.N) (fun _ => True):=by
   unfold qFt
   repeat' first | exact qae trivial | refine qak (fun _ => ?_) (fun _ => ?_)
  unfold qsa
  repeat' first | exact qae trivial | refine qak (fun _ => ?_) (fun _ => ?_) | refine qai hi fun _ _ => ?_
 ·unfold qrz
  refine qak (fun h => ?_) fun _ => qae trivial
  exact qar (qbb p.Kids 0 (ho.resolve_left hno (by simpa using h))) (qae trivial)
theorem qGC (p:tPred) (hp:nP p ≤ bigN):tot (qAk p) (fun _ => True):=by
 refine qkZ (F:=quS) nP (fun x => nP x ≤ bigN) (fun _ _ => True) (fun R x hx ih => ?_) p hp (qdQ hp)
 show tot (qpU (fun t => R t) x) _
 unfold qpU qrn
 have h1:=qgh x
 refine qai (qGq x) fun _ _ => qak (fun _ => qae trivial) fun _ => qai (qeX x.Kids (by unfold bigN at hx; omega) _ (fun _ => True) (fun _ => True) (fun i => rfl) (fun y hy i => qai (ih _ (qfM hy) (by have:=qfM hy; omega)) fun _ _ => qak (fun _ => qae trivial) fun _ => qae ⟨rfl,trivial⟩)) fun o _ => ?_
 cases o <;> exact qae trivial
theorem qDQ (p:tPred) (hp:nP p ≤ bigN):tot (qsG p) (fun _ => True):=by
 unfold qsG
 exact qar (qA2 p hp) (qak (fun _ => qae trivial) fun _ => qar (qz9 p hp) (qak (fun _ => qae trivial) fun _ => qai (qGC p hp) fun _ _ => qae trivial))
theorem qCl (p:tPred):qsy p = some (decide (p = qkt)):=by
 unfold qsy
 have h1:qgg p (⟨0,([]:Str),0,([]:List tPred)⟩:tPred) = some (decide (p = qkt)):=qtm p qkt qIH
 rw [h1]; rfl
theorem qGJ (t:tType) (ht:lenT t ≤ bigN) (hp:nP t.Pred ≤ bigN) (hq:∀ q ∈ t.Preds,nP q ≤ bigN):tot (qwp t) (fun _ => True):=by
 unfold qwp
 have h1:=qjc t
 have h2:=qe7 t
 have hb:bigN = 1073741824:=rfl
 refine qai (R:=fun _ => True) ?_ fun _ _ => qak (fun _ => qae trivial) fun _ => ?_
 ·unfold qsi
  repeat' first | exact qae trivial | refine qak (fun _ => ?_) (fun _ => ?_) | refine qar (qCl _) ?_
 unfold qr6
 refine qai (qeX t.Names (by omega) _ (fun _ => True) (fun _ => True) (fun i => rfl) (fun x hx i => qai (qCw x) fun _ _ => qak (fun _ => qae trivial) fun _ => qae ⟨rfl,trivial⟩)) fun o _ => ?_
 cases o with
 | inl _ => exact qae trivial
 | inr _ =>
  refine qai (qvn t.Names (by omega)) fun _ _ => qak (fun _ => qae trivial) fun _ => qar (qcq (by simp; omega)) ?_
  unfold qsq
  refine qai (qeX ([t.Pred] ++ t.Preds) (by simp; omega) _ (fun _ => True) (fun _ => True) (fun i => rfl) (fun x hx i => ?_)) fun o _ => ?_
  ·have hxn:nP x ≤ bigN:=by
    rcases vaz.1 hx with h | h
    ·rw [vaJ.1 h]; exact hp
    ·exact hq x h
   refine qai (qDQ x hxn) fun e _ => qai (R:=fun _ => True) ?_ fun _ _ => qak (fun _ => qae trivial) fun _ => qae ⟨rfl,trivial⟩
   unfold qsk
   exact qar (qCl _) (qak (fun _ => qae trivial) fun _ => qae trivial)
  ·cases o <;> exact qae trivial
theorem qF3 (t:tType) (ht:lenT t ≤ bigN) (hp:allP (fun p => nP p ≤ bigN) t):tot (qA9 t) (fun _ => True):=by
 refine qkZ (F:=qve) lenT (fun x => lenT x ≤ bigN∧allP (fun p => nP p ≤ bigN) x) (fun _ _ => True) (fun R x hx ih => ?_) t ⟨ht,hp⟩ (qdQ ht)
 obtain ⟨hx,hq⟩:=hx
 show tot (qpN (fun t => R t) x) _
 unfold qpN qst
 have h1:=qeD x
 have hq':=(qiQ _ _).1 hq
 refine qai (qGJ x hx hq'.1 hq'.2.1) fun _ _ => qak (fun _ => qae trivial) fun _ => qai (qeX x.Args (by unfold bigN at hx; omega) _ (fun _ => True) (fun _ => True) (fun i => rfl) (fun y hy i => qai (ih _ (qde hy) ⟨by have:=qde hy; omega,(qe2 _ _).1 hq'.2.2 y hy⟩) fun _ _ => qak (fun _ => qae trivial) fun _ => qae ⟨rfl,trivial⟩)) fun o _ => ?_
 cases o <;> exact qae trivial
theorem qEq (t:tType) (ht:lenT t ≤ bigN) (hp:allP (fun p => nP p ≤ bigN) t):tot (qsR t) (fun _ => True):=by
 unfold qsR
 exact qai (qD7 t ht) fun _ _ => qak (fun _ => qae trivial) fun _ => qai (qF3 t ht hp) fun _ _ => qae trivial
mutual
def putP (s:Str→Option tPred):tPred→tPred
 | ⟨o,n,k,ks⟩ => if o = 4∧ks.length = 1 then ((s n).map (fun q => sbP (qAm [118] ((putL s ks).headD qkt)) q)).getD ⟨o,n,k,putL s ks⟩ else ⟨o,n,k,putL s ks⟩
def putL (s:Str→Option tPred):List tPred→List tPred
 | [] => []
 | p :: ps => putP s p :: putL s ps
end
theorem qEQ (s:Str→Option tPred):∀ (l:List tPred),putL s l = l.map (putP s)
 | [] => by rw [putL]; rfl
 | p :: l => by rw [putL,qEQ s l]; rfl
theorem qIs (s:Str→Option tPred) (p:tPred):putP s p = if p.Op = 4∧p.Kids.length = 1 then ((s p.Name).map (fun q => sbP (qAm [118] ((p.Kids.map (putP s)).headD qkt)) q)).getD ⟨p.Op,p.Name,p.N,p.Kids.map (putP s)⟩ else ⟨p.Op,p.Name,p.N,p.Kids.map (putP s)⟩:=by
 obtain ⟨o,n,k,ks⟩:=p
 rw [putP,qEQ]; rfl
mutual
theorem qKq (s:Str→Option tPred) (M:Nat) (hM:1 ≤ M) (hs:∀ n q,s n = some q→nP q ≤ M):∀ (p:tPred),nP (putP s p) ≤ nP p * M ^ dP p
 | ⟨o,n,k,ks⟩ => by
  have h:=qKL s M hM hs ks
  have hp1:1 ≤ M ^ dL ks:=Nat.one_le_pow _ _ hM
  have hp2:M ^ (dL ks + 1) = M ^ dL ks * M:=Nat.pow_succ ..
  have hp3:M ^ dL ks ≤ M ^ dL ks * M:=Nat.le_mul_of_pos_right _ hM
  have plain:nP ⟨o,n,k,putL s ks⟩ ≤ nP ⟨o,n,k,ks⟩ * M ^ dP ⟨o,n,k,ks⟩:=by
   rw [nP,nP,dP,hp2,vaX,vbu]
   have:nL ks * M ^ dL ks ≤ nL ks * (M ^ dL ks * M):=vbO _ hp3
   omega
  rw [putP]
  split
  ·rename_i hc
   cases hsn:s n with
   | none => exact plain
   | some q =>
    simp only [vad,Option.getD_some]
    have hq:=hs n q hsn
    have hk:nP ((putL s ks).headD qkt) ≤ nL ks * M ^ dL ks:=by
     match ks,hc.2,h with
     | [x],_,h =>
      rw [putL,putL]
      simp only [putL,nL] at h
      simp only [List.headD_cons]
      simp only [nL]
      omega
    have hz:=qMe (qAm [118] ((putL s ks).headD qkt)) (nP ((putL s ks).headD qkt)) (qH4 _) (fun n q h => qK0 h) q
    have h1:nP q * nP ((putL s ks).headD qkt) ≤ M * (nL ks * M ^ dL ks):=vbG hq hk
    have h2:M * (nL ks * M ^ dL ks) = nL ks * (M ^ dL ks * M):=by rw [vcw M,Nat.mul_assoc]
    rw [nP,dP,hp2,vaX,vbu]
    omega
  ·exact plain
theorem qKL (s:Str→Option tPred) (M:Nat) (hM:1 ≤ M) (hs:∀ n q,s n = some q→nP q ≤ M):∀ (l:List tPred),nL (putL s l) ≤ nL l * M ^ dL l
 | [] => by rw [putL,nL]; omega
 | p :: l => by
  have h1:=qKq s M hM hs p
  have h2:=qKL s M hM hs l
  rw [putL,nL,nL,dL,vaX]
  have g1:nP p * M ^ dP p ≤ nP p * M ^ max (dP p) (dL l):=vbO _ (vb7 hM (by omega))
  have g2:nL l * M ^ dL l ≤ nL l * M ^ max (dP p) (dL l):=vbO _ (vb7 hM (by omega))
  omega
end
def solN (ns:List Str) (l:List tPred) (n:Str):Option tPred:=(ns.findIdx? (fun x => x == n)).map fun j => (l[j]?).elim qhW (fun q => if q = qkt then qhW else q)
theorem qG9 {q:tPred} (hv:qsN q = true):(if q = qkt then qhW else q) = qhW:=by
 unfold qsN at hv
 rw [va5] at hv
 rcases hv with hv | hv
 ·rw [vao (vaH hv)]
 ·rw [vaH hv]; rfl
theorem qI2 (p:tPred) (ns:List Str) (l:List tPred) (hp:nP p ≤ bigN) (hl:∀ q ∈ l,nP q ≤ bigN) (hd:ns.length < 9223372036854775808) (hn:ns.length = l.length):qxY p ns l = some (putP (solN ns l) p):=by
 refine qd3 (F:=qxl) (fun x => nP x.1) (fun x => nP x.1 ≤ bigN∧x.2 = (ns,l)) (fun x => putP (solN x.2.1 x.2.2) x.1) (fun R x hx ih => ?_) (p,ns,l) ⟨hp,rfl⟩ (qdQ hp)
 obtain ⟨p,ns',l'⟩:=x
 obtain ⟨hx,he⟩:=hx
 cases he
 have hx:nP p ≤ bigN:=hx
 show qsL (fun p names sols => R (p,names,sols)) p ns l = some (putP (solN ns l) p)
 unfold qsL qut qu1
 have hlen:=qgh p
 rw [qb6 p.Kids (by unfold bigN at hx; omega) (fun i s => (i,s)) _ (fun y => R (y,ns,l)) (putP (solN ns l)) id (fun i s => rfl) (fun y hy => ih (y,ns,l) (qfM hy) ⟨by have:=qfM hy; show nP y ≤ bigN; omega,rfl⟩)]
 simp only [vaa,id]
 rw [qe3 ns p.Name hd,qIs]
 simp only [vaa]
 by_cases h1:p.Op = 4
 ·rw [vam (by simpa using h1)]
  by_cases h2:p.Kids.length = 1
  ·rw [vam (by simp [h2]),vao ⟨h1,h2⟩]
   simp only [vaa]
   obtain ⟨x,hk⟩:∃ x,p.Kids = [x]:=by
    match p.Kids,h2 with
    | [x],_ => exact ⟨x,rfl⟩
   rw [hk]
   simp only [vax,vbE,List.headD_cons]
   rw [show solN ns l p.Name = (ns.findIdx? (fun x => x == p.Name)).map fun j => (l[j]?).elim qhW (fun q => if q = qkt then qhW else q) from rfl]
   unfold qHc
   cases hf:ns.findIdx? (fun x => x == p.Name) with
   | none =>
    simp only
    rw [vao (by decide)]
    rfl
   | some j =>
    have hj:j < l.length:=by
     rw [← hn]
     obtain ⟨h,_⟩:=vbz.1 hf
     exact h
    simp only [vad,Option.getD_some]
    rw [vam (by simp),qbb l j hj,vab hj]
    simp only [vaa,qwk,Option.elim]
    have hq:=hl _ (vat hj)
    generalize l[j] = q at hq
    by_cases hv:qsN q = true
    ·have hc:qkP = some qhW:=rfl
     simp only [hv,if_true,hc,vaa]
     rw [qG9 hv,qHn]
    ·have hz:q ≠ qkt:=fun e => hv (by rw [e]; rfl)
     simp only [hv,if_false,vaK,hz]
     rw [show idx [putP (solN ns l) x] 0 = some (putP (solN ns l) x) from rfl]
     simp only [vaa]
     rw [qGV q [118] _ hq]
     rfl
  ·rw [vao (by simp; omega),vam (fun h => h2 h.2)]
   simp only [vaa,if_true]
 ·rw [vao (by simpa using h1),vam (fun h => h1 h.1)]
  simp only [vaa,if_true]
theorem qGb (t:tType) (ns:List Str) (l:List tPred) (ht:lenT t ≤ bigN) (hp:allP (fun p => nP p ≤ bigN) t) (hl:∀ q ∈ l,nP q ≤ bigN) (hd:ns.length < 9223372036854775808) (hn:ns.length = l.length):quu t ns l = some (mapT (putP (solN ns l)) t):=by
 refine qd3 (F:=qpi) (fun x => lenT x.1) (fun x => lenT x.1 ≤ bigN∧allP (fun p => nP p ≤ bigN) x.1∧x.2 = (ns,l)) (fun x => mapT (putP (solN x.2.1 x.2.2)) x.1) (fun R x hx ih => ?_) (t,ns,l) ⟨ht,hp,rfl⟩ (qdQ ht)
 obtain ⟨t,ns',l'⟩:=x
 obtain ⟨hx,hq,he⟩:=hx
 cases he
 have hx:lenT t ≤ bigN:=hx
 have hq:=(qiQ _ _).1 (show allP (fun p => nP p ≤ bigN) t from hq)
 show qll (fun t names sols => R (t,names,sols)) t ns l = some (mapT (putP (solN ns l)) t)
 unfold qll qmA qmw
 have h1:=qeD t
 have h2:=qe7 t
 rw [qI2 t.Pred ns l hq.1 hl hd hn]
 simp only [vaa]
 rw [qb6 t.Preds (by unfold bigN at hx; omega) (fun i s => (i,s)) _ (fun y => qxY y ns l) (putP (solN ns l)) id (fun i s => rfl) (fun y hy => qI2 y ns l (hq.2.1 y hy) hl hd hn)]
 simp only [vaa,id]
 rw [qb6 t.Args (by unfold bigN at hx; omega) (fun i s => (i,s)) _ (fun y => R (y,ns,l)) (mapT (putP (solN ns l))) id (fun i s => rfl) (fun y hy => ih (y,ns,l) (qde hy) ⟨by have:=qde hy; show lenT y ≤ bigN; omega,(qe2 _ _).1 hq.2.2 y hy,rfl⟩)]
 simp only [vaa,id]
 rw [qDS]
mutual
def samQ:tType→tType→Bool
 | ⟨o,n,xs,ns,p,ps⟩,⟨o',n',xs',ns',p',ps'⟩ => decide (o = o') && (decide (n = n') && qzc xs xs')
def qzc:List tType→List tType→Bool
 | [],[] => true
 | a :: xs,b :: bs => samQ a b && qzc xs bs
 | _,_ => false
end
theorem qCO:∀ (a b:List tType),qzc a b = all2 samQ a b
 | [],[] => by rw [qzc,all2]
 | a :: xs,b :: bs => by rw [qzc,all2,qCO xs bs]
 | [],b :: bs => by simp [qzc,all2]
 | a :: xs,[] => by simp [qzc,all2]
theorem qKX (a b:tType):samQ a b = (decide (a.Op = b.Op) && (decide (a.Name = b.Name) && all2 samQ a.Args b.Args)):=by
 obtain ⟨o,n,xs,ns,p,ps⟩:=a
 obtain ⟨o',n',xs',ns',p',ps'⟩:=b
 rw [samQ,qCO]; rfl
mutual
theorem qFU (f:tPred→tPred):∀ (t:tType),samQ t (mapT f t) = true
 | ⟨o,n,xs,ns,p,ps⟩ => by rw [mapT,samQ,qB6 f xs]; simp
theorem qB6 (f:tPred→tPred):∀ (l:List tType),qzc l (qjj f l) = true
 | [] => by rw [qjj,qzc]
 | t :: l => by rw [qjj,qzc,qFU f t,qB6 f l]; rfl
end
theorem qHT (a b:tType) (ht:lenT a ≤ bigN):qwm a b = some (samQ a b):=by
 refine qd3 (F:=quY) (fun x => lenT x.1) (fun x => lenT x.1 ≤ bigN) (fun x => samQ x.1 x.2) (fun R x hx ih => ?_) (a,b) ht (qdQ ht)
 obtain ⟨a,b⟩:=x
 have hl:lenT a ≤ bigN:=hx
 show qpZ (fun a a2 => R (a,a2)) a b = some (samQ a b)
 unfold qpZ qse qrT
 have h1:=qeD a
 rw [qKX]
 by_cases e1:a.Op = b.Op
 ·by_cases e2:a.Name = b.Name
  ·by_cases e3:a.Args.length = b.Args.length
   ·rw [vam (by simp [e1]),vam (by simp [e2])]
    simp only [vaa]
    rw [vam (by simp [e3]),qs2 (X:=Unit⊕Unit) e3 (by unfold bigN at hl; omega) (fun zz => qnd (fun a a2 => R (a,a2)) a b (a.Args.length:Int) zz) (fun i y z => (R (y,z)).bind fun r11 => if (!r11) = true then some (.inr (.inl ())) else some (.inl (w64 (i + 1)))) samQ (.inl ()) (.inr ()) (fun i => rfl) (fun y hy z hz i => by
     have he:=ih (y,z) (qde hy) (by have:=qde hy; show lenT y ≤ bigN; omega)
     rw [he]
     show (if (!samQ y z) = true then _ else _) = _
     cases samQ y z <;> rfl)]
    simp only [vaa,e1,e2,decide_true,vbV]
    cases all2 samQ a.Args b.Args <;> rfl
   ·rw [vam (by simp [e1]),vam (by simp [e2])]
    simp only [vaa]
    rw [vao (by simp; omega),qEB e3]
    simp
  ·rw [vam (by simp [e1]),vao (by simp [e2])]
   simp [e2]
 ·rw [vao (by simp [e1])]
  simp [e1]
def quad (q:tPred):Int×Str×Int×List tPred:=(q.Op,q.Name,q.N,q.Kids)
def solH (l:List tSol) (n:Str) (ns:List Str) (ks:List tPred):Option tPred:=(l.findIdx? (fun x => x.Name == n)).map fun i => (l[i]?).elim qhW fun s => if qsN s.Pred = true then qhW else sbP (look ns ks) s.Pred
def solG (holes:List tHole) (l:List tSol) (n:Str) (ks:List tPred):tPred:=(holes.findIdx? (fun x => x.Name == n)).elim qhW fun j => (solH l n (((holes[j]?).elim [] (·.Params)).map (·.Name)) ks).getD qhW
theorem qMg (l:List tVar) (hl:l.length ≤ 1073741824):qg2 l (l.length:Int) [] 0 = some (l.map (·.Name)):=by
 unfold qg2
 exact qb6 l hl (fun i s => (s,i)) _ (fun y => some y.Name) (·.Name) id (fun i s => rfl) (fun _ _ => rfl)
theorem qMl (p:tPred) (ns:List Str) (l:List tSol) (hl:l.length < 9223372036854775808) (hq:∀ s ∈ l,nP s.Pred ≤ bigN) (hn:ns.length < 9223372036854775808) (m:Int) (m2:Str) (m3:Int) (m4:List tPred) :
  qg8 p ns l (l.length:Int) 0 m m2 m3 m4 = some ((solH l p.Name ns p.Kids).elim (.inr (m,m2,m3,m4)) (fun q => .inl (quad q))):=by
 unfold qg8
 rw [qzJ l hl (fun i => (i,m,m2,m3,m4)) (fun (zz:Int×Int×Str×Int×(List tPred)) => qdG p ns l (l.length:Int) zz.1 zz.2.1 zz.2.2.1 zz.2.2.2.1 zz.2.2.2.2) (fun x => x.Name == p.Name) (fun i => .inl (quad ((l[i]?).elim qhW fun s => if qsN s.Pred = true then qhW else sbP (look ns p.Kids) s.Pred))) (.inr (m,m2,m3,m4)) (fun i hi => ?_) ?_]
 ·unfold solH
  cases l.findIdx? (fun x => x.Name == p.Name) <;> rfl
 ·simp only
  unfold qdG
  rw [vam (by simp)]
 ·simp only
  unfold qdG
  rw [vao (vba (by omega)),qbb l i hi,vab hi]
  simp only [vaa,Option.elim]
  have h:=hq _ (vat hi)
  generalize l[i] = s at h
  by_cases he:(s.Name == p.Name) = true
  ·rw [vao he,vao he,qwk]
   simp only [vaa]
   by_cases hv:qsN s.Pred = true
   ·rw [vao hv,vao hv]; rfl
   ·rw [vam hv,vam hv,qHO s.Pred ns p.Kids h hn]; rfl
  ·rw [vam he,vam he]
theorem qEj (p:tPred) (holes:List tHole) (l:List tSol) (hh:holes.length < 9223372036854775808) (hl:l.length < 9223372036854775808) (hq:∀ s ∈ l,nP s.Pred ≤ bigN) (hn:∀ h ∈ holes,h.Params.length ≤ 1073741824):qle p holes l = some (solG holes l p.Name p.Kids):=by
 unfold qle qkD
 rw [qzJ holes hh (fun i => (i,0,[],0,[])) (fun (zz:Int×Int×Str×Int×(List tPred)) => qdH l p holes (holes.length:Int) zz.1 zz.2.1 zz.2.2.1 zz.2.2.2.1 zz.2.2.2.2) (fun x => x.Name == p.Name) (fun j => .inl (quad ((solH l p.Name (((holes[j]?).elim [] (·.Params)).map (·.Name)) p.Kids).getD qhW))) (.inr (0,[],0,[])) (fun i hi => ?_) ?_]
 ·unfold solG
  cases holes.findIdx? (fun x => x.Name == p.Name) with
  | none => rfl
  | some j => exact vbn some (qoC _)
 ·simp only
  unfold qdH
  rw [vam (by simp)]
 ·simp only
  unfold qdH
  rw [vao (vba (by omega)),qbb holes i hi,vab hi]
  simp only [vaa,Option.elim]
  have h:=hn _ (vat hi)
  generalize holes[i] = s at h
  by_cases he:(s.Name == p.Name) = true
  ·rw [vam (by simp [he]),vao he,qMg s.Params h]
   simp only [vaa]
   rw [qMl p _ l hl hq (by simp; omega)]
   simp only [vaa]
   cases solH l p.Name (s.Params.map (·.Name)) p.Kids <;> rfl
  ·rw [vao (by simpa using he),vam he]
mutual
def fiP (g:Str→List tPred→tPred):tPred→tPred
 | ⟨o,n,k,ks⟩ => if o = 5 then g n (fiL g ks) else ⟨o,n,k,fiL g ks⟩
def fiL (g:Str→List tPred→tPred):List tPred→List tPred
 | [] => []
 | p :: l => fiP g p :: fiL g l
end
theorem qEp (g:Str→List tPred→tPred):∀ (l:List tPred),fiL g l = l.map (fiP g)
 | [] => by rw [fiL]; rfl
 | p :: l => by rw [fiL,qEp g l]; rfl
theorem qMi (g:Str→List tPred→tPred) (p:tPred):fiP g p = if p.Op = 5 then g p.Name (p.Kids.map (fiP g)) else ⟨p.Op,p.Name,p.N,p.Kids.map (fiP g)⟩:=by
 obtain ⟨o,n,k,ks⟩:=p
 rw [fiP,qEp]; rfl
theorem qCD (p:tPred) (holes:List tHole) (l:List tSol) (hp:nP p ≤ bigN) (hh:holes.length < 9223372036854775808) (hl:l.length < 9223372036854775808) (hq:∀ s ∈ l,nP s.Pred ≤ bigN) (hn:∀ h ∈ holes,h.Params.length ≤ 1073741824):qsJ p holes l = some (fiP (solG holes l) p):=by
 refine qd3 (F:=qug) (fun x => nP x.1) (fun x => nP x.1 ≤ bigN∧x.2 = (holes,l)) (fun x => fiP (solG x.2.1 x.2.2) x.1) (fun R x hx ih => ?_) (p,holes,l) ⟨hp,rfl⟩ (qdQ hp)
 obtain ⟨p,h',l'⟩:=x
 obtain ⟨hx,he⟩:=hx
 cases he
 have hx:nP p ≤ bigN:=hx
 show qqd (fun p holes a => R (p,holes,a)) p holes l = some (fiP (solG holes l) p)
 unfold qqd qsp qwo
 have hlen:=qgh p
 rw [qb6 p.Kids (by unfold bigN at hx; omega) (fun i s => (s,i)) _ (fun y => R (y,holes,l)) (fiP (solG holes l)) id (fun i s => rfl) (fun y hy => ih (y,holes,l) (qfM hy) ⟨by have:=qfM hy; show nP y ≤ bigN; omega,rfl⟩)]
 simp only [vaa,id]
 rw [qMi]
 by_cases h5:p.Op = 5
 ·rw [vao (by simpa using h5),vao h5,qEj _ holes l hh hl hq hn]
  rfl
 ·rw [vam (by simpa using h5),vam h5]
theorem qHU (t:tType) (holes:List tHole) (l:List tSol) (ht:lenT t ≤ bigN) (hp:allP (fun p => nP p ≤ bigN) t) (hh:holes.length < 9223372036854775808) (hl:l.length < 9223372036854775808) (hq:∀ s ∈ l,nP s.Pred ≤ bigN) (hn:∀ h ∈ holes,h.Params.length ≤ 1073741824):qz4 t holes l = some (mapT (fiP (solG holes l)) t):=by
 refine qd3 (F:=qvg) (fun x => lenT x.1) (fun x => lenT x.1 ≤ bigN∧allP (fun p => nP p ≤ bigN) x.1∧x.2 = (holes,l)) (fun x => mapT (fiP (solG x.2.1 x.2.2)) x.1) (fun R x hx ih => ?_) (t,holes,l) ⟨ht,hp,rfl⟩ (qdQ ht)
 obtain ⟨t,h',l'⟩:=x
 obtain ⟨hx,ha,he⟩:=hx
 cases he
 have hx:lenT t ≤ bigN:=hx
 have ha:=(qiQ _ _).1 (show allP (fun p => nP p ≤ bigN) t from ha)
 show qqe (fun t holes a => R (t,holes,a)) t holes l = some (mapT (fiP (solG holes l)) t)
 unfold qqe qsd qrr
 have h1:=qeD t
 have h2:=qe7 t
 rw [qCD t.Pred holes l ha.1 hh hl hq hn]
 simp only [vaa]
 rw [qb6 t.Preds (by unfold bigN at hx; omega) (fun i s => (i,s)) _ (fun y => qsJ y holes l) (fiP (solG holes l)) id (fun i s => rfl) (fun y hy => qCD y holes l (ha.2.1 y hy) hh hl hq hn)]
 simp only [vaa,id]
 rw [qb6 t.Args (by unfold bigN at hx; omega) (fun i s => (i,s)) _ (fun y => R (y,holes,l)) (mapT (fiP (solG holes l))) id (fun i s => rfl) (fun y hy => ih (y,holes,l) (qde hy) ⟨by have:=qde hy; show lenT y ≤ bigN; omega,(qe2 _ _).1 ha.2.2 y hy,rfl⟩)]
 simp only [vaa,id]
 rw [qDS]
abbrev blt (x y:Str):Prop:=Op.bytesLess x y = true
theorem qoO:∀ (x:Str),Op.bytesLess x x = false
 | [] => rfl
 | a :: x => by
  unfold Op.bytesLess
  rw [qoO x]
  simp [UInt8.lt_irrefl]
theorem qqc:∀ {x y z:Str},blt x y→blt y z→blt x z
 | _,_,[],h1,h2 => by simp [blt,Op.bytesLess] at h2
 | _,[],_ :: _,h1,h2 => by simp [blt,Op.bytesLess] at h1
 | [],_ :: _,_ :: _,_,_ => rfl
 | a :: x,b :: y,c :: z,h1,h2 => by
  unfold blt Op.bytesLess at h1 h2 ⊢
  simp only [va5,vah,vae,va1] at h1 h2 ⊢
  rcases h1 with h1 | ⟨rfl,h1⟩
  ·rcases h2 with h2 | ⟨rfl,h2⟩
   ·exact .inl (UInt8.lt_trans h1 h2)
   ·exact .inl h1
  ·rcases h2 with h2 | ⟨rfl,h2⟩
   ·exact .inl h2
   ·exact .inr ⟨rfl,qqc h1 h2⟩
theorem qth:∀ {x y:Str},Op.bytesLess x y = false→Op.bytesLess y x = false→x = y
 | [],[],_,_ => rfl
 | [],_ :: _,h,_ => by simp [Op.bytesLess] at h
 | _ :: _,[],_,h => by simp [Op.bytesLess] at h
 | a :: x,b :: y,h1,h2 => by
  unfold Op.bytesLess at h1 h2
  simp only [Bool.or_eq_false_iff,vbl,Bool.and_eq_false_imp,va1] at h1 h2
  have hab:a = b:=by
   have k1:=UInt8.not_lt.1 h1.1
   have k2:=UInt8.not_lt.1 h2.1
   exact UInt8.le_antisymm k2 k1
  subst hab
  rw [qth (h1.2 rfl) (h2.2 rfl)]
theorem qMp:∀ (x y:Str),Op.bytesLess x y = decide (x < y)
 | [],[] => by simp [Op.bytesLess]
 | _ :: _,[] => by simp [Op.bytesLess]
 | [],_ :: _ => by simp [Op.bytesLess]
 | a :: x,b :: y => by
  unfold Op.bytesLess
  rw [qMp x y,vcD]
  simp [List.cons_lt_cons_iff]
theorem qJB (x y:Str):decide (x ≤ y) = !Op.bytesLess y x:=by
 rw [qMp]
 rw [← decide_not]
 rfl
abbrev Inc (l:List Str):Prop:=l.Pairwise blt
theorem qpS:∀ {a b:List Str},Inc a→Inc b→(∀ x,x ∈ a↔x ∈ b)→a = b
 | [],[],_,_,_ => rfl
 | [],y :: b,_,_,h => by have:=(h y).2 (by simp); simp at this
 | x :: a,[],_,_,h => by have:=(h x).1 (by simp); simp at this
 | x :: a,y :: b,ha,hb,h => by
  unfold Inc at ha hb
  rw [vbA] at ha hb
  have hxy:x = y:=by
   have h1:=(h x).1 (by simp)
   have h2:=(h y).2 (by simp)
   rw [vaC] at h1 h2
   rcases h1 with h1 | h1
   ·exact h1
   ·rcases h2 with h2 | h2
    ·exact h2.symm
    ·have:=qqc (hb.1 x h1) (ha.1 y h2)
     unfold blt at this
     rw [qoO] at this
     cases this
  subst hxy
  congr 1
  refine qpS ha.2 hb.2 fun z => ?_
  constructor
  ·intro hz
   have:=(h z).1 (by simp [hz])
   rw [vaC] at this
   rcases this with rfl | this
   ·have:=ha.1 _ hz; unfold blt at this; rw [qoO] at this; cases this
   ·exact this
  ·intro hz
   have:=(h z).2 (by simp [hz])
   rw [vaC] at this
   rcases this with rfl | this
   ·have:=hb.1 _ hz; unfold blt at this; rw [qoO] at this; cases this
   ·exact this
theorem qCC (l:List Str):(qkn l).Pairwise fun x y => Op.bytesLess y x = false:=by
 have:=List.pairwise_mergeSort (le:=fun x y:Str => decide (x ≤ y)) (fun a b c h1 h2 => by
  rw [qJB] at h1 h2 ⊢
  simp only [va3] at h1 h2 ⊢
  cases h:Op.bytesLess c a with
  | false => rfl
  | true =>
   exfalso
   by_cases hb:Op.bytesLess a b = true
   ·have:=qqc h hb
    unfold blt at this
    rw [h2] at this
    cases this
   ·have:a = b:=qth (by simpa using hb) h1
    subst this
    rw [h2] at h
    cases h) (fun a b => by
  rw [qJB,qJB]
  cases h:Op.bytesLess b a with
  | false => rfl
  | true =>
   cases h':Op.bytesLess a b with
   | false => rfl
   | true =>
    have:=qqc h h'
    unfold blt at this
    rw [qoO] at this
    cases this) l
 refine vcP ?_ this
 intro a b h
 rw [qJB] at h
 simpa using h
theorem qG6 (l:List Str) (x:Str):x ∈ qkn l↔x ∈ l:=List.mem_mergeSort
theorem qsT (d:List Str) (hs:d.Pairwise fun x y => Op.bytesLess y x = false):∀ m,m ≤ d.length→Inc (Lib.compactUpTo d.toArray m)∧∀ x,x ∈ Lib.compactUpTo d.toArray m↔∃ (j:Nat) (h:j < d.length),j < m∧d[j] = x
 | 0,_ => by
  refine ⟨by simp [Lib.compactUpTo,Inc],fun x => ?_⟩
  simp [Lib.compactUpTo]
 | m + 1,hm => by
  obtain ⟨h1,h2⟩:=qsT d hs m (by omega)
  have hg:∀ j (h:j < d.length),d.toArray[j]! = d[j]:=fun j h => by simp [h]
  rw [Lib.compactUpTo_succ]
  by_cases hk:Lib.keeps d.toArray m = true
  ·rw [vao hk,hg m (by omega)]
   refine ⟨?_,fun x => ?_⟩
   ·unfold Inc
    rw [List.pairwise_append]
    refine ⟨h1,by simp,fun x hx y hy => ?_⟩
    simp at hy
    subst hy
    obtain ⟨j,hj,hjm,rfl⟩:=(h2 x).1 hx
    have hne:d[m - 1] ≠ d[m]:=by
     unfold Lib.keeps at hk
     simp only [vah] at hk
     rcases hk with hk | hk
     ·omega
     ·rw [hg m (by omega),hg (m - 1) (by omega)] at hk
      exact fun e => hk e.symm
    have hlt:Op.bytesLess d[m - 1] d[m] = true:=by
     have k1:=(vck.1 hs) (m - 1) m (by omega) (by omega) (by omega)
     cases h:Op.bytesLess d[m - 1] d[m] with
     | true => rfl
     | false => exact absurd (qth h k1) hne
    by_cases hj2:j = m - 1
    ·subst hj2; exact hlt
    ·have k2:=(vck.1 hs) j (m - 1) (by omega) (by omega) (by omega)
     cases h:Op.bytesLess d[j] d[m - 1] with
     | true => exact qqc h hlt
     | false =>
      have:=qth h k2
      rw [this]; exact hlt
   ·rw [vaz,h2]
    constructor
    ·rintro (⟨j,hj,hjm,rfl⟩ | hx)
     ·exact ⟨j,hj,by omega,rfl⟩
     ·simp at hx; exact ⟨m,by omega,by omega,hx.symm⟩
    ·rintro ⟨j,hj,hjm,rfl⟩
     by_cases e:j = m
     ·subst e; exact .inr (by simp)
     ·exact .inl ⟨j,hj,by omega,rfl⟩
  ·rw [vam hk,va4]
   refine ⟨h1,fun x => ?_⟩
   rw [h2]
   constructor
   ·rintro ⟨j,hj,hjm,rfl⟩; exact ⟨j,hj,by omega,rfl⟩
   ·rintro ⟨j,hj,hjm,rfl⟩
    by_cases e:j = m
    ·subst e
     have:j ≠ 0∧d.toArray[j]! = d.toArray[j - 1]! := by
      unfold Lib.keeps at hk
      simp only [vah,not_or,ne_eq,Decidable.not_not] at hk
      exact hk
     rw [hg j hj,hg (j - 1) (by omega)] at this
     exact ⟨j - 1,by omega,by omega,this.2.symm⟩
    ·exact ⟨j,hj,by omega,rfl⟩
def setU (a b:List Str):List Str:=Lib.compact (qkn (a ++ b))
theorem qur (a b:List Str):Inc (setU a b)∧∀ x,x ∈ setU a b↔x ∈ a∨x ∈ b:=by
 obtain ⟨h1,h2⟩:=qsT (qkn (a ++ b)) (qCC _) _ (vak _)
 refine ⟨h1,fun x => ?_⟩
 rw [show setU a b = Lib.compactUpTo (qkn (a ++ b)).toArray (qkn (a ++ b)).length from rfl,h2,← vaz,← qG6,List.mem_iff_getElem]
 constructor
 ·rintro ⟨j,h,_,e⟩; exact ⟨j,h,e⟩
 ·rintro ⟨j,h,e⟩; exact ⟨j,h,h,e⟩
theorem qqS (a b:List Str) (h:a.length + b.length ≤ 1073741824):qiy a b = some (setU a b):=by
 unfold qiy
 rw [qcq (by simp; omega)]
 simp only [vaa]
 rw [qcq (by simp; omega)]
 rfl
def ins (s:Str):List Str→List Str
 | [] => [s]
 | x :: r => if Op.bytesLess x s = true then x :: ins s r else if (x == s) = true then s :: r else s :: x :: r
def kk (s:Str):List Str→Nat
 | [] => 0
 | x :: r => if Op.bytesLess x s = true then kk s r + 1 else 0
theorem qLW (s:Str):∀ l,kk s l ≤ l.length
 | [] => vak _
 | x :: r => by have:=qLW s r; unfold kk; split <;> simp <;> omega
theorem qKo (s:Str):∀ l,ins s l = l.take (kk s l) ++ s :: l.drop (kk s l + if (l[kk s l]? == some s) = true then 1 else 0)
 | [] => by simp [ins,kk]
 | x :: r => by
  have ih:=qKo s r
  unfold ins kk
  by_cases h:Op.bytesLess x s = true
  ·rw [vao h,vao h,ih]
   simp only [List.take_succ_cons,List.getElem?_cons_succ,vaP]
   rw [show kk s r + 1 + (if (r[kk s r]? == some s) = true then 1 else 0) = (kk s r + if (r[kk s r]? == some s) = true then 1 else 0) + 1 by omega,List.drop_succ_cons]
  ·rw [vam h,vam h]
   by_cases hx:(x == s) = true
   ·have:x = s:=by simpa using hx
    simp [this]
   ·have:¬ x = s:=by simpa using hx
    simp [this]
theorem qz2 (s:Str):∀ l,(ins s l).length ≤ l.length + 1
 | [] => by simp [ins]
 | x :: r => by
  have:=qz2 s r
  unfold ins
  split
  ·simp; omega
  ·split <;> simp
theorem qEk (s:Str):∀ l x,x ∈ ins s l↔x = s∨x ∈ l
 | [],x => by simp [ins]
 | y :: r,x => by
  have:=qEk s r x
  unfold ins
  by_cases h:Op.bytesLess y s = true
  ·rw [vao h,vaC,this,vaC]
   constructor
   ·rintro (h | h | h) <;> simp [h]
   ·rintro (h | h | h) <;> simp [h]
  ·rw [vam h]
   by_cases hy:(y == s) = true
   ·have e:y = s:=by simpa using hy
    rw [vao hy,e]
    simp
   ·rw [vam hy]
    simp
theorem qHy (s:Str):∀ {l},Inc l→Inc (ins s l)
 | [],_ => by simp [ins,Inc]
 | x :: r,h => by
  unfold Inc at h ⊢
  rw [vbA] at h
  unfold ins
  by_cases hx:Op.bytesLess x s = true
  ·rw [vao hx,vbA]
   refine ⟨fun y hy => ?_,qHy s h.2⟩
   rw [qEk] at hy
   rcases hy with rfl | hy
   ·exact hx
   ·exact h.1 y hy
  ·rw [vam hx]
   by_cases he:(x == s) = true
   ·have e:x = s:=by simpa using he
    subst e
    rw [vao he,vbA]
    exact h
   ·have hsx:blt s x:=by
     cases hc:Op.bytesLess s x with
     | true => exact hc
     | false =>
      have:=qth (by simpa using hx) hc
      simp [this] at he
    rw [vam he,vbA,vbA]
    refine ⟨fun y hy => ?_,h⟩
    rw [vaC] at hy
    rcases hy with rfl | hy
    ·exact hsx
    ·exact qqc hsx (h.1 y hy)
theorem qHD (s:Str):∀ (l:List Str) (i:Nat) (out:List Str),runL (fun i x (out:List Str) => if Op.bytesLess x s = true then (Sum.inl (out ++ [x]):List Str⊕(List Str×Nat)) else .inr (out,i)) (fun out => (out,i + l.length)) l i out = (out ++ l.take (kk s l),i + kk s l)
 | [],i,out => by simp [runL,kk]
 | x :: l,i,out => by
  have ih:=qHD s l (i + 1) (out ++ [x])
  unfold runL kk
  by_cases h:Op.bytesLess x s = true
  ·simp only [h,if_true]
   rw [show i + (x :: l).length = i + 1 + l.length by simp; omega,ih]
   simp
   omega
  ·simp [h]
theorem qCE {α σ X Y:Type} (g:X→Y) (f:Nat→α→σ→σ⊕X) (e:σ→X):∀ (l:List α) (i:Nat) (s:σ),runL (fun i x s => Sum.map id g (f i x s)) (fun s => g (e s)) l i s = g (runL f e l i s)
 | [],i,s => rfl
 | x :: l,i,s => by
  unfold runL
  cases f i x s with
  | inl s' => exact qCE g f e l (i + 1) s'
  | inr y => rfl
def natI {σ:Type} (y:σ×Nat):σ×Int:=(y.1,(y.2:Int))
theorem qzx (a:List Str) (s:Str) (ha:a.length ≤ 1000000000):qxe a s = some (ins s a):=by
 unfold qxe qux
 have:=qiI a (by omega) (fun i (out:List Str) => (out,i)) (fun zz => qi2 a s zz.1 zz.2) (fun i out => out.length = i)
  (fun i x out => Sum.map id natI (if Op.bytesLess x s = true then (Sum.inl (out ++ [x]):List Str⊕(List Str×Nat)) else .inr (out,i))) (fun out => natI (out,0 + a.length)) (fun i hi out hI => by
   have hb:qjW a s i = some (Op.bytesLess a[i] s):=by
    simp only [qjW]
    rw [vao (by simp; omega),qbb _ i hi]
    rfl
   refine ⟨?_,fun s' hs' => ?_⟩
   ·simp only [qi2]
    rw [hb]
    simp only [vaa]
    by_cases hl:Op.bytesLess a[i] s = true
    ·rw [vao hl,vao hl,qbb _ i hi]
     simp only [vaa]
     rw [qcq (by simp; omega)]
     rfl
    ·rw [vam hl,vam hl]
     rfl
   ·by_cases hl:Op.bytesLess a[i] s = true
    ·rw [vao hl] at hs'; cases hs'; simp; omega
    ·rw [vam hl] at hs'; cases hs') (fun out _ => by
   have hb:qjW a s a.length = some false:=by
    simp only [qjW]
    rw [vam (by simp)]
   simp only [qi2]
   rw [hb]
   simp [natI]) 0 [] (vaM _) rfl
 simp only [Int.ofNat_zero,vbh] at this
 have hm:=qCE natI (fun i x (out:List Str) => if Op.bytesLess x s = true then (Sum.inl (out ++ [x]):List Str⊕(List Str×Nat)) else .inr (out,i)) (fun out => (out,0 + a.length)) a 0 []
 rw [this.trans (vbn some hm),qHD s a 0 []]
 simp only [vaI,vaF,vaa,natI]
 have hk:=qLW s a
 rw [qcq (by simp; omega)]
 simp only [vaa]
 have hj:qp4 a s (kk s a) = some ((kk s a + if (a[kk s a]? == some s) = true then 1 else 0:Nat):Int):=by
  unfold qp4 quP
  by_cases hlt:kk s a < a.length
  ·rw [vao (by simp; omega),qbb _ _ hlt]
   simp only [vaa,vab hlt]
   have e:(some a[kk s a] == some s) = (a[kk s a] == s):=rfl
   rw [e]
   by_cases h:(a[kk s a] == s) = true
   ·rw [vao h,vao h,qiY (by omega) (by omega)]
    rfl
   ·rw [vam h,vam h]
    rfl
  ·have hn:a[kk s a]? = none:=by simp; omega
   rw [vam (by simp; omega),hn]
   rfl
 rw [hj]
 simp only [vaa]
 have hle:kk s a + (if (a[kk s a]? == some s) = true then 1 else 0) ≤ a.length:=by
  by_cases hlt:kk s a < a.length
  ·split <;> omega
  ·have hn:a[kk s a]? = none:=by simp; omega
   rw [hn]
   simp
   omega
 rw [qwy a _ hle]
 simp only [vaa]
 rw [qcq (by simp; omega),qKo]
 simp
theorem quN {α σ:Type} (g:σ→α→σ):∀ (l:List α) (i:Nat) (s:σ),runL (fun _ x s => (Sum.inl (g s x):σ⊕σ)) (fun s => s) l i s = l.foldl g s
 | [],i,s => rfl
 | x :: l,i,s => quN g l (i + 1) (g s x)
theorem qvc:∀ (l out:List Str),Inc out→Inc (l.foldl (fun o x => ins x o) out)∧(∀ x,x ∈ l.foldl (fun o x => ins x o) out↔x ∈ out∨x ∈ l)∧(l.foldl (fun o x => ins x o) out).length ≤ out.length + l.length
 | [],out,h => ⟨h,by simp,by simp⟩
 | y :: l,out,h => by
  obtain ⟨h1,h2,h3⟩:=qvc l (ins y out) (qHy y h)
  have:=qz2 y out
  refine ⟨h1,fun x => ?_,by simp only [List.foldl_cons,vaS]; omega⟩
  rw [List.foldl_cons,h2,qEk,vaC]
  constructor
  ·rintro ((h | h) | h) <;> simp [h]
  ·rintro (h | h | h) <;> simp [h]
theorem qCZ (a b:List Str) (ha:a.length ≤ 400000000) (hb:b.length ≤ 400000000):qoU a b = some (setU a b):=by
 unfold qoU qpa qps
 have t1:=qiI a (by omega) (fun i (out:List Str) => (out,i)) (fun zz => qfZ a a.length zz.1 zz.2) (fun i out => out.length ≤ i) (fun _ x out => (Sum.inl (ins x out):List Str⊕List Str)) (fun o => o) (fun i hi out hI => by
   refine ⟨?_,fun s' hs' => ?_⟩
   ·simp only [qfZ]
    rw [vao (by simp; omega),qbb _ i hi]
    simp only [vaa]
    rw [qzx _ _ (by omega)]
    rfl
   ·cases hs'
    have:=qz2 a[i] out
    omega) (fun out _ => by simp only [qfZ]; rw [vam (by simp)]) 0 [] (vaM _) (vak _)
 simp only [Int.ofNat_zero,vbh] at t1
 rw [quN (fun o x => ins x o)] at t1
 obtain ⟨f1,f2,f3⟩:=qvc a [] (by simp [Inc])
 have t2:=qiI b (by omega) (fun i (out:List Str) => (out,i)) (fun zz => qf0 b b.length zz.1 zz.2) (fun i out => out.length ≤ 400000000 + i) (fun _ x out => (Sum.inl (ins x out):List Str⊕List Str)) (fun o => o) (fun i hi out hI => by
   refine ⟨?_,fun s' hs' => ?_⟩
   ·simp only [qf0]
    rw [vao (by simp; omega),qbb _ i hi]
    simp only [vaa]
    rw [qzx _ _ (by omega)]
    rfl
   ·cases hs'
    have:=qz2 b[i] out
    omega) (fun out _ => by simp only [qf0]; rw [vam (by simp)]) 0 (a.foldl (fun o x => ins x o) []) (vaM _) (by simp at f3; omega)
 simp only [Int.ofNat_zero,vbh] at t2
 rw [quN (fun o x => ins x o)] at t2
 rw [t1]
 simp only [vaa]
 rw [t2]
 simp only [vaa,vau]
 obtain ⟨g1,g2,_⟩:=qvc b _ f1
 obtain ⟨u1,u2⟩:=qur a b
 refine qpS g1 u1 fun x => ?_
 rw [g2,f2,u2]
 simp
end Go.Proofs.YtgldgpdhblndkaaGreatDoor
