/-
  WHAT IS PROVED: parts of the proof, put together by a program out of smaller texts, their own names made short (Pq1; Pt1; Pt2). Conditions: none.
-/
import Derived.Test.YtgldgpdhblndkaaGreatDoorPkD45
namespace Go.Proofs.YtgldgpdhblndkaaGreatDoor
open Go
set_option linter.unusedVariables false
set_option linter.unusedSimpArgs false
mutual
def dP:tPred→Nat
  | ⟨_,_,_,ks⟩ => dL ks + 1
def dL:List tPred→Nat
  | [] => 0
  | p :: ps => max (dP p) (dL ps)
end
theorem qCA (p:tPred):dP p = dL p.Kids + 1:=by obtain ⟨o,n,k,ks⟩:=p; rw [dP]; rfl
mutual
theorem qCW:∀ (p:tPred),dP p ≤ nP p
  | ⟨o,n,k,ks⟩ => by have:=qCP ks; rw [dP,nP]; omega
theorem qCP:∀ (l:List tPred),dL l ≤ nL l
  | [] => by simp [dL]
  | p :: l => by have:=qCW p; have:=qCP l; rw [dL,nL]; omega
end
theorem qAx:∀ (l:List tPred) (a:Nat),l.foldl (fun (s:Int) x => if (dP x:Int) > s then (dP x:Int) else s) (a:Int) = ((max a (dL l):Nat):Int)
  | [],a => by simp [dL]
  | x :: l,a => by
    rw [List.foldl_cons,show (if (dP x:Int) > (a:Int) then (dP x:Int) else (a:Int)) = ((max a (dP x):Nat):Int) by split <;> omega,qAx l,dL,Nat.max_assoc]
theorem qxE (p:tPred) (hp:nP p ≤ bigN):qqH p = some (dP p:Int):=by
  refine qiZ (F:=qph) nP (fun x => nP x ≤ bigN) (fun x => (dP x:Int)) (fun R x hx ih => ?_) p hp (qjH hp)
  show qlT (fun p => R p) x = _
  unfold qlT qnR
  have hlen:=qji x
  have hd:=qCW x
  have he:=qCA x
  have hz:(0:Int) = ((0:Nat):Int):=rfl
  rw [qyt x.Kids (by unfold bigN at hx; omega) (fun i s => (s,i)) _ (fun i s x => (R x).bind fun r => some (.inl ((if r > s then r else s),w64 (i + 1)))) (fun _ _ => True) (fun x s => if (dP x:Int) > s then (dP x:Int) else s) id 0 trivial (fun i s => rfl) (fun i hi s _ => ⟨?_,trivial⟩)]
  · rw [hz,qAx]
    simp only [id,Option.bind_some]
    unfold bigN at hx
    rw [qsR (by omega) (by omega)]
    congr 1; omega
  · have hm:=List.getElem_mem hi
    have hk:=qjt hm
    rw [ih _ hk (by omega)]
    rfl
def look (ns:List Str) (bs:List tPred) (n:Str):Option tPred:=(ns.findIdx? (fun x => x == n)).bind fun j => bs[j]?
mutual
def sbP (f:Str→Option tPred):tPred→tPred
  | ⟨o,n,k,ks⟩ => (if o = 3 then f n else none).getD ⟨o,n,k,sbL f ks⟩
def sbL (f:Str→Option tPred):List tPred→List tPred
  | [] => []
  | p :: ps => sbP f p :: sbL f ps
end
theorem qy9 (f:Str→Option tPred):∀ (l:List tPred),sbL f l = l.map (sbP f)
  | [] => by rw [sbL]; rfl
  | p :: l => by rw [sbL,qy9 f l]; rfl
theorem qAw (f:Str→Option tPred) (p:tPred):sbP f p = (if p.Op = 3 then f p.Name else none).getD ⟨p.Op,p.Name,p.N,p.Kids.map (sbP f)⟩:=by
  obtain ⟨o,n,k,ks⟩:=p
  rw [sbP,qy9]; rfl
mutual
theorem qCV (f:Str→Option tPred) (M:Nat) (hM:1 ≤ M) (hf:∀ n q,f n = some q→nP q ≤ M):∀ (p:tPred),nP (sbP f p) ≤ nP p * M
  | ⟨o,n,k,ks⟩ => by
    have:=qCM f M hM hf ks
    rw [sbP]
    cases h:(if o = 3 then f n else none) with
    | none =>
      simp only [Option.getD_none]
      rw [nP,nP,Nat.add_mul]; omega
    | some q =>
      simp only [Option.getD_some]
      have:f n = some q:=by
        split at h
        · exact h
        · cases h
      have:=hf n q this
      rw [nP,Nat.add_mul]
      have:0 ≤ nL ks * M:=Nat.zero_le _
      omega
theorem qCM (f:Str→Option tPred) (M:Nat) (hM:1 ≤ M) (hf:∀ n q,f n = some q→nP q ≤ M):∀ (l:List tPred),nL (sbL f l) ≤ nL l * M
  | [] => by simp [sbL,nL]
  | p :: l => by
    have:=qCV f M hM hf p
    have:=qCM f M hM hf l
    rw [sbL,nL,nL,Nat.add_mul]; omega
end
theorem qCY (R:qbO) (ns:List Str) (bs:List tPred) (p:tPred) (hn:ns.length < 9223372036854775808) :
    qgM R ns bs p = some ((if p.Op = 3 then look ns bs p.Name else none).elim (.inr ()) (fun q => .inl (q.Op,q.Name,q.N,q.Kids))):=by
  unfold qgM qjR look
  by_cases h1:p.Op = 3
  · rw [if_pos (by simpa using h1),qAY ns p.Name hn,if_pos h1]
    simp only [Option.bind_some]
    cases hf:ns.findIdx? (fun x => x == p.Name) with
    | none => rfl
    | some j =>
      simp only [Option.bind_some]
      rw [if_pos (decide_eq_true (show (j:Int) ≥ 0 by omega))]
      simp only [Option.bind_some]
      by_cases h2:j < bs.length
      · rw [if_pos (decide_eq_true (by omega)),qcO bs j h2,List.getElem?_eq_getElem h2]
        rfl
      · rw [if_neg (by simp; omega),List.getElem?_eq_none (by omega)]
        rfl
  · rw [if_neg (by simpa using h1),if_neg h1]
    rfl
theorem qBM (p:tPred) (ns:List Str) (bs:List tPred) (hp:nP p ≤ bigN) (hn:ns.length < 9223372036854775808):qnF p ns bs = some (sbP (look ns bs) p):=by
  refine qiZ (F:=qkG) (fun x => nP x.1) (fun x => nP x.1 ≤ bigN∧x.2 = (ns,bs)) (fun x => sbP (look x.2.1 x.2.2) x.1) (fun R x hx ih => ?_) (p,ns,bs) ⟨hp,rfl⟩ (qjH hp)
  obtain ⟨p,ns',bs'⟩:=x
  obtain ⟨hx,he⟩:=hx
  cases he
  have hx:nP p ≤ bigN:=hx
  show qil (fun p names a => R (p,names,a)) p ns bs = some (sbP (look ns bs) p)
  unfold qil
  rw [qCY _ ns bs p hn,qAw]
  cases h:(if p.Op = 3 then look ns bs p.Name else none) with
  | some q =>
    simp only [Option.elim,Option.bind_some,qm0,Option.getD_some]
  | none =>
    simp only [Option.elim,Option.bind_some,Option.getD_none]
    unfold qjw
    have hlen:=qji p
    rw [qfQ p.Kids (by unfold bigN at hx; omega) (fun i s => (s,i)) _ (fun y => R (y,ns,bs)) (sbP (look ns bs)) id (fun i s => rfl) (fun y hy => ih (y,ns,bs) (qjt hy) ⟨by have:=qjt hy; show nP y ≤ bigN; omega,rfl⟩)]
    rfl
theorem qCt (R:qbC) (ns:List Str) (bs:List tPred) (p:tPred) (hn:ns.length < 9223372036854775808) (hb:∀ q ∈ bs,nP q ≤ bigN) :
    qf6 R ns bs p = some ((if p.Op = 3 then look ns bs p.Name else none).elim (.inr ()) (fun q => .inl (q.Op,q.Name,q.N,q.Kids))):=by
  unfold qf6 qiW look qrs
  by_cases h1:p.Op = 3
  · rw [if_pos (by simpa using h1),qAW ns p.Name hn,if_pos h1]
    simp only [Option.bind_some]
    cases hf:ns.findIdx? (fun x => x == p.Name) with
    | none => rfl
    | some j =>
      simp only [Option.bind_some]
      rw [if_pos (decide_eq_true (show (j:Int) ≥ 0 by omega))]
      simp only [Option.bind_some]
      by_cases h2:j < bs.length
      · rw [if_pos (decide_eq_true (by omega)),qcO bs j h2,List.getElem?_eq_getElem h2]
        simp only [Option.bind_some]
        rw [qzD _ (hb _ (List.getElem_mem h2))]
        rfl
      · rw [if_neg (by simp; omega),List.getElem?_eq_none (by omega)]
        rfl
  · rw [if_neg (by simpa using h1),if_neg h1]
    rfl
theorem qB7 (p:tPred) (ns:List Str) (bs:List tPred) (hp:nP p ≤ bigN) (hn:ns.length < 9223372036854775808) (hb:∀ q ∈ bs,nP q ≤ bigN):qjg p ns bs = some (sbP (look ns bs) p):=by
  refine qiZ (F:=qjC) (fun x => nP x.1) (fun x => nP x.1 ≤ bigN∧x.2 = (ns,bs)) (fun x => sbP (look x.2.1 x.2.2) x.1) (fun R x hx ih => ?_) (p,ns,bs) ⟨hp,rfl⟩ (qjH hp)
  obtain ⟨p,ns',bs'⟩:=x
  obtain ⟨hx,he⟩:=hx
  cases he
  have hx:nP p ≤ bigN:=hx
  show qhx (fun p names a => R (p,names,a)) p ns bs = some (sbP (look ns bs) p)
  unfold qhx
  rw [qCt _ ns bs p hn hb,qAw]
  cases h:(if p.Op = 3 then look ns bs p.Name else none) with
  | some q =>
    simp only [Option.elim,Option.bind_some,qm0,Option.getD_some]
  | none =>
    simp only [Option.elim,Option.bind_some,Option.getD_none]
    unfold qiV
    have hlen:=qji p
    rw [qfQ p.Kids (by unfold bigN at hx; omega) (fun i s => (i,s)) _ (fun y => R (y,ns,bs)) (sbP (look ns bs)) id (fun i s => rfl) (fun y hy => ih (y,ns,bs) (qjt hy) ⟨by have:=qjt hy; show nP y ≤ bigN; omega,rfl⟩)]
    rfl
def qt3 (v:Str) (q:tPred) (n:Str):Option tPred:=if n = v then some q else none
theorem qxF (v:Str) (q:tPred):look [v] [q] = qt3 v q:=by
  funext n
  unfold look qt3
  rw [List.findIdx?_cons]
  by_cases h:n = v
  · subst h; simp
  · have h':(v == n) = false:=by simpa using fun e => h e.symm
    simp [h',h]
theorem qzb (p:tPred) (v:Str) (q:tPred) (hp:nP p ≤ bigN) (hq:nP q ≤ bigN):qoq p v q = some (sbP (qt3 v q) p):=by
  unfold qoq
  rw [qB7 p [v] [q] hp (by simp) (by simpa using hq),qxF]
  rfl
theorem qzV (p:tPred) (v:Str) (q:tPred) (hp:nP p ≤ bigN):qqQ p v q = some (sbP (qt3 v q) p):=by
  unfold qqQ
  rw [qBM p [v] [q] hp (by simp),qxF]
  rfl
theorem qB5 {v n:Str} {q r:tPred} (h:qt3 v q n = some r):nP r ≤ nP q:=by
  unfold qt3 at h
  split at h
  · cases h; omega
  · cases h
theorem qu0 (f:Str→Option tPred):sbP f qnD = qnD:=by
  rw [qAw]; rfl
end Go.Proofs.YtgldgpdhblndkaaGreatDoor
namespace Go.Proofs.YtgldgpdhblndkaaGreatDoor
open Go
set_option linter.unusedVariables false
set_option linter.unusedSimpArgs false
theorem qzA (t:tType):(⟨t.Op,t.Name,t.Args,t.Names,t.Pred,t.Preds⟩:tType) = t:=by cases t; rfl
theorem qyQ (t:tType):(⟨t.Op,t.Name,t.Args,t.Names,⟨t.Pred.Op,t.Pred.Name,t.Pred.N,t.Pred.Kids⟩,t.Preds⟩:tType) = t:=by rw [qm0,qzA]
mutual
def lenT:tType→Nat
  | ⟨_,_,xs,ns,_,ps⟩ => qj2 xs + ns.length + ps.length + 1
def qj2:List tType→Nat
  | [] => 0
  | a :: xs => lenT a + qj2 xs
end
theorem qpG (t:tType):lenT t = qj2 t.Args + t.Names.length + t.Preds.length + 1:=by obtain ⟨o,n,xs,ns,p,ps⟩:=t; rw [lenT]; rfl
theorem qA4 (t:tType):1 ≤ lenT t:=by rw [qpG]; omega
theorem qna:∀ {l:List tType} {x:tType},x ∈ l→lenT x ≤ qj2 l
  | y :: l,x,h => by
    rw [qj2]
    rcases List.mem_cons.1 h with rfl | h
    · omega
    · have:=qna h; omega
theorem qn0:∀ (l:List tType),l.length ≤ qj2 l
  | [] => by simp [qj2]
  | p :: l => by rw [qj2]; have:=qn0 l; have:=qA4 p; simp only [List.length_cons]; omega
theorem qsf {t a:tType} (h:a ∈ t.Args):lenT a < lenT t:=by rw [qpG t]; have:=qna h; omega
theorem qsv (t:tType):t.Args.length < lenT t:=by rw [qpG]; have:=qn0 t.Args; omega
theorem qwl (t:tType):t.Names.length < lenT t:=by rw [qpG]; omega
theorem qnQ (t:tType):t.Preds.length < lenT t:=by rw [qpG]; omega
mutual
def allP (Q:tPred→Prop):tType→Prop
  | ⟨_,_,xs,_,p,ps⟩ => Q p∧(∀ q ∈ ps,Q q)∧qgJ Q xs
def qgJ (Q:tPred→Prop):List tType→Prop
  | [] => True
  | a :: xs => allP Q a∧qgJ Q xs
end
theorem qn6 (Q:tPred→Prop) (t:tType):allP Q t↔Q t.Pred∧(∀ q ∈ t.Preds,Q q)∧qgJ Q t.Args:=by obtain ⟨o,n,xs,ns,p,ps⟩:=t; rw [allP]; rfl
theorem qiH (Q:tPred→Prop):∀ (l:List tType),qgJ Q l↔∀ t ∈ l,allP Q t
  | [] => by simp [qgJ]
  | a :: l => by rw [qgJ,qiH Q l]; simp
mutual
theorem qzj {Q R:tPred→Prop} (h:∀ p,Q p→R p):∀ (t:tType),allP Q t→allP R t
  | ⟨_,_,xs,_,p,ps⟩,ht => by
    rw [allP] at ht ⊢
    exact ⟨h _ ht.1,fun q hq => h _ (ht.2.1 q hq),qog h xs ht.2.2⟩
theorem qog {Q R:tPred→Prop} (h:∀ p,Q p→R p):∀ (l:List tType),qgJ Q l→qgJ R l
  | [],_ => trivial
  | a :: xs,hl => by
    rw [qgJ] at hl ⊢
    exact ⟨qzj h a hl.1,qog h xs hl.2⟩
end
mutual
theorem qBq {Q R:tPred→Prop}:∀ (t:tType),allP Q t→allP R t→allP (fun p => Q p∧R p) t
  | ⟨_,_,xs,_,p,ps⟩,h1,h2 => by
    rw [allP] at h1 h2 ⊢
    exact ⟨⟨h1.1,h2.1⟩,fun q hq => ⟨h1.2.1 q hq,h2.2.1 q hq⟩,qtq xs h1.2.2 h2.2.2⟩
theorem qtq {Q R:tPred→Prop}:∀ (l:List tType),qgJ Q l→qgJ R l→qgJ (fun p => Q p∧R p) l
  | [],_,_ => trivial
  | a :: xs,h1,h2 => by
    rw [qgJ] at h1 h2 ⊢
    exact ⟨qBq a h1.1 h2.1,qtq xs h1.2 h2.2⟩
end
theorem qCI (l:List tPred):l.length ≤ pmLL (l.map qaa):=by
  have:=qAe l
  have:=qBn l
  omega
theorem qC0 (l:List Str):l.length ≤ pmLL (l.map cS):=by
  have h:=qqf (l.map cS) (fun x hx => by
    obtain ⟨s,_,rfl⟩:=List.mem_map.1 hx
    simp only [cS,pmL,pm]; omega)
  rwa [List.length_map] at h
theorem qu1 (t:tType):pmL (qac t) = 1 + (pm (.str t.Name) + (pm (sl qac t.Args) + (pm (sl cS t.Names) + (1 + (pm (.str t.Pred.Name) + (1 + (pm (sl qaa t.Pred.Kids) + (pm (sl qaa t.Preds) + 0)))))))):=by
  rw [qaB]; rfl
mutual
theorem qCn:∀ (t:tType),lenT t ≤ pmL (qac t)
  | ⟨o,n,xs,ns,p,ps⟩ => by
    have h1:=qvk xs
    have h2:=qCI ps
    have h3:=qC0 ns
    rw [lenT,qu1]
    show _ ≤ 1 + (pm (.str n) + (pm (sl qac xs) + (pm (sl cS ns) + (1 + (pm (.str p.Name) + (1 + (pm (sl qaa p.Kids) + (pm (sl qaa ps) + 0))))))))
    simp only [pm,sl]
    omega
theorem qvk:∀ (l:List tType),qj2 l ≤ pmLL (l.map qac)
  | [] => by simp [qj2]
  | a :: l => by
    have:=qCn a
    have:=qvk l
    rw [qj2]
    simp only [List.map_cons,pmLL]
    omega
end
theorem qBJ (t:tType):nP t.Pred ≤ pmL (qac t):=by
  have h:=qBn t.Pred.Kids
  rw [qzU,qu1]
  simp only [pm,sl]
  omega
mutual
theorem qCj (B:Nat):∀ (t:tType),pmL (qac t) ≤ B→allP (fun p => nP p ≤ B) t
  | ⟨o,n,xs,ns,p,ps⟩,h => by
    have h0:=qBJ ⟨o,n,xs,ns,p,ps⟩
    rw [qu1] at h h0
    have h:1 + (pm (.str n) + (pm (sl qac xs) + (pm (sl cS ns) + (1 + (pm (.str p.Name) + (1 + (pm (sl qaa p.Kids) + (pm (sl qaa ps) + 0)))))))) ≤ B:=h
    have h0:nP p ≤ 1 + (pm (.str n) + (pm (sl qac xs) + (pm (sl cS ns) + (1 + (pm (.str p.Name) + (1 + (pm (sl qaa p.Kids) + (pm (sl qaa ps) + 0)))))))):=h0
    simp only [pm,sl] at h h0
    rw [allP]
    refine ⟨by omega,fun q hq => ?_,qu7 B xs (by omega)⟩
    have h1:=qBK q
    have h2:=qqb (List.mem_map.2 ⟨q,hq,rfl⟩:qaa q ∈ ps.map qaa)
    omega
theorem qu7 (B:Nat):∀ (l:List tType),pmLL (l.map qac) ≤ B→qgJ (fun p => nP p ≤ B) l
  | [],_ => trivial
  | a :: xs,h => by
    simp only [List.map_cons,pmLL] at h
    rw [qgJ]
    exact ⟨qCj B a (by omega),qu7 B xs (by omega)⟩
end
mutual
def mapT (f:tPred→tPred):tType→tType
  | ⟨o,n,xs,ns,p,ps⟩ => ⟨o,n,qsU f xs,ns,f p,ps.map f⟩
def qsU (f:tPred→tPred):List tType→List tType
  | [] => []
  | a :: xs => mapT f a :: qsU f xs
end
theorem qwc (f:tPred→tPred):∀ (l:List tType),qsU f l = l.map (mapT f)
  | [] => by rw [qsU]; rfl
  | a :: l => by rw [qsU,qwc f l]; rfl
theorem qzH (f:tPred→tPred) (t:tType):mapT f t = ⟨t.Op,t.Name,t.Args.map (mapT f),t.Names,f t.Pred,t.Preds.map f⟩:=by
  obtain ⟨o,n,xs,ns,p,ps⟩:=t
  rw [mapT,qwc]; rfl
mutual
theorem qxs (f:tPred→tPred):∀ (t:tType),lenT (mapT f t) = lenT t
  | ⟨o,n,xs,ns,p,ps⟩ => by rw [mapT,lenT,lenT,qwE f xs,List.length_map]
theorem qwE (f:tPred→tPred):∀ (l:List tType),qj2 (qsU f l) = qj2 l
  | [] => by rw [qsU]
  | a :: xs => by rw [qsU,qj2,qj2,qxs f a,qwE f xs]
end
mutual
theorem qxS {Q R:tPred→Prop} (f:tPred→tPred) (h:∀ p,Q p→R (f p)):∀ (t:tType),allP Q t→allP R (mapT f t)
  | ⟨_,_,xs,_,p,ps⟩,ht => by
    rw [allP] at ht
    rw [mapT,allP]
    refine ⟨h _ ht.1,fun q hq => ?_,qv9 f h xs ht.2.2⟩
    obtain ⟨q',hq',rfl⟩:=List.mem_map.1 hq
    exact h _ (ht.2.1 q' hq')
theorem qv9 {Q R:tPred→Prop} (f:tPred→tPred) (h:∀ p,Q p→R (f p)):∀ (l:List tType),qgJ Q l→qgJ R (qsU f l)
  | [],_ => by rw [qsU]; trivial
  | a :: xs,hl => by
    rw [qgJ] at hl
    rw [qsU,qgJ]
    exact ⟨qxS f h a hl.1,qv9 f h xs hl.2⟩
end
def eqQ (a b:tPred):Bool:=(qwI a && qwI b) || decide (a = b)
mutual
def qpq:tType→tType→Bool
  | ⟨o,n,xs,ns,p,ps⟩,⟨o',n',xs',ns',p',ps'⟩ => decide (o = o') && (decide (n = n') && (decide (ns = ns') && (eqQ p p' && (all2 eqQ ps ps' && qo7 xs xs'))))
def qo7:List tType→List tType→Bool
  | [],[] => true
  | a :: xs,b :: bs => qpq a b && qo7 xs bs
  | _,_ => false
end
theorem quy:∀ (a b:List tType),qo7 a b = all2 qpq a b
  | [],[] => by rw [qo7,all2]
  | a :: xs,b :: bs => by rw [qo7,all2,quy xs bs]
  | [],b :: bs => by simp [qo7,all2]
  | a :: xs,[] => by simp [qo7,all2]
theorem qA8 (a b:tType):qpq a b = (decide (a.Op = b.Op) && (decide (a.Name = b.Name) && (decide (a.Names = b.Names) && (eqQ a.Pred b.Pred && (all2 eqQ a.Preds b.Preds && all2 qpq a.Args b.Args))))):=by
  obtain ⟨o,n,xs,ns,p,ps⟩:=a
  obtain ⟨o',n',xs',ns',p',ps'⟩:=b
  rw [qpq,quy]; rfl
theorem qxX (p:tPred):eqQ p p = true:=by simp [eqQ]
mutual
theorem qut:∀ (t:tType),qpq t t = true
  | ⟨o,n,xs,ns,p,ps⟩ => by
    rw [qpq,qtr xs,qxX,qtA (fun x _ => qxX x)]
    simp
theorem qtr:∀ (l:List tType),qo7 l l = true
  | [] => by rw [qo7]
  | a :: xs => by rw [qo7,qut a,qtr xs]; rfl
end
theorem qv3 (a b:tPred) (hb:nP b ≤ bigN):qoj a b = some (eqQ a b):=by
  unfold qoj eqQ
  rw [quZ a]
  simp only [Option.bind_some]
  rw [quZ b,quH a b hb]
  cases qwI a <;> cases qwI b <;> simp
theorem qzn (a b:List Str) (ha:a.length < 9223372036854775808):qsy a b = some (decide (a = b)):=by
  unfold qsy
  by_cases hl:a.length = b.length
  · rw [if_neg (by simp [hl])]
    unfold qpS
    rw [qq4 hl ha (fun zz => ql6 a b (a.length:Int) zz) (fun i x z => if (!(x == z)) = true then some (.inr (.inl ())) else some (.inl (w64 (i + 1)))) (fun x y => decide (x = y)) (.inl ()) (.inr ()) (fun i => rfl) (fun x _ z _ i => by by_cases h:x = z <;> simp [h]),qAn]
    by_cases h:a = b <;> simp [h]
  · rw [if_pos (by simp; omega),decide_eq_false (fun he => hl (by rw [he]))]
theorem qzN (a b:tType) (ha:lenT a ≤ bigN) (hb:allP (fun p => nP p ≤ bigN) b):qmj a b = some (qpq a b):=by
  refine qiZ (F:=qrE) (fun x => lenT x.1) (fun x => lenT x.1 ≤ bigN∧allP (fun p => nP p ≤ bigN) x.2) (fun x => qpq x.1 x.2) (fun R x hx ih => ?_) (a,b) ⟨ha,hb⟩ (qjH ha)
  obtain ⟨u,v⟩:=x
  obtain ⟨hu,hv⟩:=hx
  have hu:lenT u ≤ bigN:=hu
  have hv:allP (fun p => nP p ≤ bigN) v:=hv
  show qn7 (fun a a2 => R (a,a2)) u v = some (qpq u v)
  obtain ⟨v1,v2,v3⟩:=(qn6 _ v).1 hv
  have l1:=qsv u
  have l2:=qwl u
  have l3:=qnQ u
  unfold bigN at hu
  unfold qn7 qpX
  rw [qA8]
  by_cases h1:u.Op = v.Op
  · by_cases h2:u.Name = v.Name
    · by_cases h3:u.Args.length = v.Args.length
      · by_cases h4:u.Preds.length = v.Preds.length
        · rw [if_neg (by simpa using h1),if_neg (by simpa using h2),if_neg (by simp [h3]),if_neg (by simp [h4]),qzn _ _ (by omega),qv3 _ _ v1]
          simp only [Option.bind_some]
          by_cases h5:u.Names = v.Names
          · by_cases h6:eqQ u.Pred v.Pred = true
            · simp only [h1,h2,h5,h6,decide_true,Bool.not_true,Bool.false_eq_true,if_false,Option.bind_some,Bool.true_and]
              unfold qpL
              rw [qq4 h4 (by omega) (fun zz => qmc (fun a a2 => R (a,a2)) u v (u.Preds.length:Int) zz) (fun i x z => (qoj x z).bind fun r => if (!r) = true then some (.inr (.inl ())) else some (.inl (w64 (i + 1)))) eqQ (.inl ()) (.inr ()) (fun i => rfl) (fun x _ z hz i => by
                rw [qv3 _ _ (v2 z hz)]
                cases h:eqQ x z <;> simp)]
              by_cases h7:all2 eqQ u.Preds v.Preds = true
              · simp only [h7,if_true,Option.bind_some,Bool.true_and]
                unfold qpr
                rw [qq4 h3 (by omega) (fun zz => qlI (fun a a2 => R (a,a2)) u v (u.Args.length:Int) zz) (fun i x z => (R (x,z)).bind fun r => if (!r) = true then some (.inr (.inl ())) else some (.inl (w64 (i + 1)))) qpq (.inl ()) (.inr ()) (fun i => rfl) (fun x hx z hz i => by
                  rw [ih (x,z) (qsf hx) ⟨by have:=qsf hx; show lenT x ≤ bigN; unfold bigN; omega,(qiH _ _).1 v3 z hz⟩]
                  cases h:qpq x z <;> simp)]
                cases h:all2 qpq u.Args v.Args <;> simp
              · simp only [h7,if_false,Option.bind_some,Bool.false_and,Bool.false_eq_true]
            · simp only [h1,h2,h5,h6,decide_true,Bool.not_true,Bool.false_eq_true,if_false,Option.bind_some,Bool.not_false,if_true,Bool.false_and,Bool.true_and]
          · simp only [h1,h2,h5,decide_true,decide_false,Bool.not_false,if_true,Option.bind_some,Bool.false_and,Bool.true_and]
        · rw [if_neg (by simpa using h1),if_neg (by simpa using h2),if_neg (by simp [h3]),if_pos (by simp; omega),qzm h4]
          simp
      · rw [if_neg (by simpa using h1),if_neg (by simpa using h2),if_pos (by simp; omega),qzm h3]
        simp
    · rw [if_neg (by simpa using h1),if_pos (by simpa using h2)]
      simp [h2]
  · rw [if_pos (by simpa using h1)]
    simp [h1]
end Go.Proofs.YtgldgpdhblndkaaGreatDoor
namespace Go.Proofs.YtgldgpdhblndkaaGreatDoor
open Go
set_option linter.unusedVariables false
section
variable {α β σ τ X Y:Type}
theorem quk (l:List α) (hl:l.length < 9223372036854775808) (mk:Int→τ) (body:τ→Option (τ⊕X)) (f:α→Option X) (e:X)
    (hin:∀ (i:Nat) (h:i < l.length),body (mk (i:Int)) = some ((f l[i]).elim (.inl (mk (w64 ((i:Int) + 1)))) .inr)) (hend:body (mk l.length) = some (.inr e)):loop body (mk 0) = some ((l.findSome? f).elim e id):=by
  have key:∀ k i,k + i = l.length→loop body (mk (i:Int)) = some (((l.drop i).findSome? f).elim e id):=by
    intro k
    induction k with
    | zero =>
      intro i hi
      have:i = l.length:=by omega
      subst this
      rw [qlP,hend,List.drop_length]
      rfl
    | succ k ih =>
      intro i hi
      rw [qlP,hin i (by omega),List.drop_eq_getElem_cons (by omega),List.findSome?_cons]
      cases h:f l[i] with
      | none =>
        simp only [Option.elim]
        rw [qsR (by omega) (by omega),show ((i:Int) + 1) = ((i + 1:Nat):Int) by omega]
        exact ih (i + 1) (by omega)
      | some y => rfl
  have:=key l.length 0 (by omega)
  rw [List.drop_zero] at this
  exact this
theorem qob (l:List α) (hl:l.length < 9223372036854775808) (mk:Int→τ) (body:τ→Option (τ⊕X)) (p:α→Bool) (y:Nat→X) (e:X)
    (hin:∀ (i:Nat) (h:i < l.length),body (mk (i:Int)) = some (if p l[i] = true then .inr (y i) else .inl (mk (w64 ((i:Int) + 1))))) (hend:body (mk l.length) = some (.inr e)):loop body (mk 0) = some ((l.findIdx? p).elim e y):=by
  have key:∀ k i,k + i = l.length→loop body (mk (i:Int)) = some (((l.drop i).findIdx? p).elim e (fun j => y (i + j))):=by
    intro k
    induction k with
    | zero =>
      intro i hi
      have:i = l.length:=by omega
      subst this
      rw [qlP,hend,List.drop_length]
      rfl
    | succ k ih =>
      intro i hi
      rw [qlP,hin i (by omega),List.drop_eq_getElem_cons (by omega),List.findIdx?_cons]
      by_cases h:p l[i] = true
      · simp [h]
      · simp only [h,if_false,Bool.false_eq_true]
        rw [qsR (by omega) (by omega),show ((i:Int) + 1) = ((i + 1:Nat):Int) by omega,ih (i + 1) (by omega)]
        cases (l.drop (i + 1)).findIdx? p with
        | none => rfl
        | some j => simp only [Option.map_some,Option.elim]; congr 2; omega
  have:=key l.length 0 (by omega)
  rw [List.drop_zero] at this
  simpa using this
theorem qjq {A:Type} (l:List α) (hl:l.length < 9223372036854775808) {body:Int→Option (Int⊕(A⊕Unit))} (k:Int→α→Option (Int⊕(A⊕Unit))) (P:α→Prop) (B:A→Prop)
    (hb:∀ (i:Int),body i = if decide (i < (l.length:Int)) = true then (idx l i).bind (k i) else some (.inr (.inr ())))
    (hk:∀ x ∈ l,∀ i,tot (k i x) (fun r => r.elim (fun t => t = w64 (i + 1)∧P x) (fun y => y.elim B (fun _ => False)))):tot (loop body 0) (fun r => r.elim B (fun _ => ∀ x ∈ l,P x)):=by
  refine qzf l hl k (.inr ()) (fun i => ∀ j (h:j < l.length),j < i→P l[j]) hb (fun i hi hI => (hk _ (List.getElem_mem hi) i).mono fun r hr => ?_) (fun hI x hx => ?_) (fun j _ h => absurd h (Nat.not_lt_zero _))
  · cases r with
    | inl t =>
      refine ⟨hr.1,fun j hj h => ?_⟩
      by_cases he:j = i
      · subst he; exact hr.2
      · exact hI j hj (by omega)
    | inr y => cases y with
      | inl a => exact hr
      | inr u => exact hr.elim
  · obtain ⟨j,hj,rfl⟩:=List.getElem_of_mem hx
    exact hI j hj hj
end
end Go.Proofs.YtgldgpdhblndkaaGreatDoor
