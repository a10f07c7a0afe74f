/-
  WHAT IS PROVED: parts of the proof, put together by a program out of smaller texts, their own names made short (G16; PlB; PlC; Pp1; Pp2; Pp4; Pp6; Tot). Conditions: none.
-/
import Derived.Test.YtgldgpdhblndkaaGreatDoorPkD44
import Derived.Test.YtgldgpdhblndkaaGreatDoorPkD30
import Derived.Test.YtgldgpdhblndkaaGreatDoorPkD25
import Derived.Test.YtgldgpdhblndkaaGreatDoorPkD26
namespace Go.Proofs.YtgldgpdhblndkaaGreatDoor
open Go
set_option linter.unusedVariables false
set_option maxRecDepth 100000
noncomputable def b6:Code:=Tryz.f6.body.getD .skip
end Go.Proofs.YtgldgpdhblndkaaGreatDoor
namespace Go.Proofs.YtgldgpdhblndkaaGreatDoor
open Go
set_option linter.unusedVariables false
theorem qxK {α β X:Type} (g:α→β) (e:List β→X):∀ (l:List α) (i:Nat) (s:List β),runL (fun _ x (s:List β) => (Sum.inl (s ++ [g x]):List β⊕X)) e l i s = e (s ++ l.map g)
  | [],i,s => by simp [runL]
  | x :: l,i,s => by
    unfold runL
    simp only
    rw [qxK g e l (i + 1) (s ++ [g x])]
    simp
theorem qyc {α β τ X:Type} (l:List α) (hl:l.length < 9223372036854775808) (mk:Int→List β→τ) (body:τ→Option (τ⊕X)) (g:α→β) (e:List β→X)
    (hin:∀ (i:Nat) (h:i < l.length) s,s.length = i→body (mk i s) = some (.inl (mk (w64 ((i:Int) + 1)) (s ++ [g l[i]])))) (hend:∀ s,body (mk l.length s) = some (.inr (e s))):loop body (mk 0 []) = some (e (l.map g)):=by
  have:=qqC l hl mk body (fun i s => s.length = i) (fun _ x s => .inl (s ++ [g x])) e (fun i h s hs => ⟨hin i h s hs,fun s' hs' => by cases hs'; simp [hs]⟩) (fun s _ => hend s) 0 [] (Nat.zero_le _) rfl
  rw [qxK] at this
  exact this
end Go.Proofs.YtgldgpdhblndkaaGreatDoor
namespace Go.Proofs.YtgldgpdhblndkaaGreatDoor
open Go
set_option linter.unusedVariables false
mutual
def nP:tPred→Nat
  | ⟨_,_,_,ks⟩ => nL ks + 1
def nL:List tPred→Nat
  | [] => 0
  | p :: ps => nP p + nL ps
end
theorem qzU (p:tPred):nP p = nL p.Kids + 1:=by obtain ⟨o,n,k,ks⟩:=p; rw [nP]; rfl
theorem qBu (p:tPred):1 ≤ nP p:=by rw [qzU]; omega
theorem qBw:∀ {l:List tPred} {x:tPred},x ∈ l→nP x ≤ nL l
  | y :: l,x,h => by
    rw [nL]
    rcases List.mem_cons.1 h with rfl | h
    · omega
    · have:=qBw h; omega
theorem qAe:∀ (l:List tPred),l.length ≤ nL l
  | [] => by simp [nL]
  | p :: l => by rw [nL]; have:=qAe l; have:=qBu p; simp only [List.length_cons]; omega
theorem qjt {p x:tPred} (h:x ∈ p.Kids):nP x < nP p:=by rw [qzU p]; have:=qBw h; omega
theorem qji (p:tPred):p.Kids.length < nP p:=by rw [qzU]; have:=qAe p.Kids; omega
theorem qsX:∀ (a b:List tPred),nL (a ++ b) = nL a + nL b
  | [],b => by simp [nL]
  | p :: a,b => by rw [List.cons_append,nL,qsX a b,nL]; omega
mutual
theorem qBK:∀ (p:tPred),nP p ≤ pmL (qaa p)
  | ⟨o,n,k,ks⟩ => by
    have:=qBn ks
    rw [nP,qam]
    simp only [pmL,pm,sl]
    show nL ks + 1 ≤ 1 + (n.length + 1 + (1 + (pmLL (ks.map qaa) + 1 + 0)))
    omega
theorem qBn:∀ (l:List tPred),nL l ≤ pmLL (l.map qaa)
  | [] => by simp [nL]
  | p :: l => by
    have:=qBK p
    have:=qBn l
    rw [nL]
    simp only [List.map_cons,pmLL]
    omega
end
mutual
def eqP:tPred→tPred→Bool
  | ⟨o,n,k,ks⟩,⟨o',n',k',ks'⟩ => (o == o') && ((n == n') && ((k == k') && eqL ks ks'))
def eqL:List tPred→List tPred→Bool
  | [],[] => true
  | x :: xs,y :: ys => eqP x y && eqL xs ys
  | _,_ => false
end
mutual
theorem qyR:∀ (a b:tPred),eqP a b = true↔a = b
  | ⟨o,n,k,ks⟩,⟨o',n',k',ks'⟩ => by
    rw [eqP]
    have:=qzM ks ks'
    simp only [Bool.and_eq_true,beq_iff_eq,this,tPred.mk.injEq]
theorem qzM:∀ (a b:List tPred),eqL a b = true↔a = b
  | [],[] => by simp [eqL]
  | x :: xs,y :: ys => by
    rw [eqL]
    have h1:=qyR x y
    have h2:=qzM xs ys
    simp only [Bool.and_eq_true,h1,h2,List.cons.injEq]
  | [],y :: ys => by simp [eqL]
  | x :: xs,[] => by simp [eqL]
end
instance:DecidableEq tPred:=fun a b => decidable_of_iff _ (qyR a b)
theorem qm0 (p:tPred):(⟨p.Op,p.Name,p.N,p.Kids⟩:tPred) = p:=by cases p; rfl
theorem qng {a b:tPred}:a = b↔a.Op = b.Op∧a.Name = b.Name∧a.N = b.N∧a.Kids = b.Kids:=by
  cases a; cases b
  simp only [tPred.mk.injEq]
  rfl
theorem qy3 {α:Type} [DecidableEq α]:∀ {a b:List α},a.length = b.length→(a.zip b).any (fun x => decide (x.1 ≠ x.2)) = !decide (a = b)
  | [],[],_ => by simp
  | x :: a,y :: b,h => by
    have ih:=qy3 (a:=a) (b:=b) (by simpa using h)
    rw [List.zip_cons_cons,List.any_cons,ih]
    by_cases h1:x = y <;> by_cases h2:a = b <;> simp [h1,h2]
theorem qyk {α X:Type} [DecidableEq α] {a b:List α} (hl:a.length = b.length) (ha:a.length < 9223372036854775808) (body:Int→Option (Int⊕X)) (y e:X)
    (hin:∀ (i:Nat) (h:i < a.length) (h':i < b.length),body i = some (if decide (a[i] = b[i]) = true then .inl (w64 ((i:Int) + 1)) else .inr y)) (hend:body a.length = some (.inr e)):loop body 0 = some (if decide (a = b) = true then e else y):=by
  have hz:(a.zip b).length = a.length:=by simp [hl]
  have:=qx3 (a.zip b) (by omega) body (fun x => decide (x.1 ≠ x.2)) y e (fun i h => ?_) (by rw [hz]; exact hend) 0 (Nat.zero_le _)
  · rw [List.drop_zero,qy3 hl] at this
    rw [show ((0:Nat):Int) = 0 from rfl] at this
    rw [this]
    by_cases h:a = b <;> simp [h]
  · have h1:i < a.length:=by omega
    have h2:i < b.length:=by omega
    rw [hin i h1 h2]
    have hzi:(a.zip b)[i] = (a[i],b[i]):=by simp
    rw [hzi]
    by_cases h:a[i] = b[i] <;> simp [h]
abbrev bigN:Nat:=1073741824
theorem qjH {n:Nat} (h:n ≤ bigN):n < big:=by have:=qCw; unfold bigN at h; omega
theorem qAT {R:tPred→tPred→Option Bool} {a b:List tPred} (ha:a.length ≤ bigN) (h:∀ x ∈ a,∀ y ∈ b,R x y = some (decide (x = y))):qor R a b = some (decide (a = b)):=by
  unfold qor
  by_cases hl:a.length = b.length
  · rw [if_neg (by simp [hl])]
    unfold qlQ
    rw [qyk hl (by unfold bigN at ha; omega) (fun zz => qe9 R a b (a.length:Int) zz) (.inl ()) (.inr ()) (fun i h1 h2 => ?_) ?_]
    · by_cases he:a = b <;> simp [he]
    · unfold qe9
      rw [if_neg (by simp)]
    · unfold qe9
      rw [if_pos (by simp; omega),qcO a i h1]
      simp only [Option.bind_some]
      rw [qcO b i h2]
      simp only [Option.bind_some]
      rw [h _ (List.getElem_mem h1) _ (List.getElem_mem h2)]
      simp only [Option.bind_some]
      by_cases he:a[i] = b[i] <;> simp [he]
  · rw [if_pos (by simp; omega)]
    rw [decide_eq_false (fun he => hl (by rw [he]))]
theorem qB0 (a b:tPred) (ha:nP a ≤ bigN):qix a b = some (decide (a = b)):=by
  refine qiZ (F:=qpp) (fun x => nP x.1) (fun x => nP x.1 ≤ bigN) (fun x => decide (x.1 = x.2)) (fun R x hx ih => ?_) (a,b) ha (qjH ha)
  obtain ⟨u,v⟩:=x
  have hx:nP u ≤ bigN:=hx
  show qms (fun a a2 => R (a,a2)) u v = some (decide (u = v))
  unfold qms
  have hk:=qji u
  by_cases h1:u.Op = v.Op
  · by_cases h2:u.Name = v.Name
    · by_cases h3:u.N = v.N
      · rw [if_pos (by simpa using h1),if_pos (by simpa using h2),if_pos (by simpa using h3)]
        rw [qAT (a:=u.Kids) (b:=v.Kids) (by omega) (fun x hxa y hyb => ih (x,y) (qjt hxa) (Nat.le_of_lt (Nat.lt_of_lt_of_le (qjt hxa) hx)))]
        simp [qng (a:=u) (b:=v),h1,h2,h3]
      · rw [if_pos (by simpa using h1),if_pos (by simpa using h2),if_neg (by simpa using h3)]
        simp [qng (a:=u) (b:=v),h3]
    · rw [if_pos (by simpa using h1),if_neg (by simpa using h2)]
      simp [qng (a:=u) (b:=v),h2]
  · rw [if_neg (by simpa using h1)]
    simp [qng (a:=u) (b:=v),h1]
theorem qzD (p:tPred) (hp:nP p ≤ bigN):qgl p = some p:=by
  refine qiZ (F:=qjf) nP (fun x => nP x ≤ bigN) id (fun R x hx ih => ?_) p hp (qjH hp)
  unfold qjf qmv qkX
  have hlen:=qji x
  rw [qyc x.Kids (by unfold bigN at hx; omega) (fun i s => (i,s)) _ id id (fun i hi s hs => ?_) (fun s => ?_)]
  · simp [qm0]
  · unfold qf7
    rw [if_pos (by simp; omega),qcO x.Kids i hi]
    simp only [Option.bind_some]
    have hm:=List.getElem_mem hi
    rw [ih _ (qjt hm) (Nat.le_of_lt (Nat.lt_of_lt_of_le (qjt hm) hx))]
    simp only [Option.bind_some]
    rw [qxU (by unfold bigN at hx; simp; omega)]
    rfl
  · unfold qf7
    rw [if_neg (by simp)]
    rfl
theorem quH (a b:tPred) (hb:nP b ≤ bigN):qjh a b = some (decide (a = b)):=by
  refine qiZ (F:=qre) (fun x => nP x.2) (fun x => nP x.2 ≤ bigN) (fun x => decide (x.1 = x.2)) (fun R x hx ih => ?_) (a,b) hb (qjH hb)
  obtain ⟨u,v⟩:=x
  have hx:nP v ≤ bigN:=hx
  show qoc (fun a a2 => R (a,a2)) u v = some (decide (u = v))
  unfold qoc qpU
  have hk:=qji v
  by_cases h1:u.Op = v.Op
  · by_cases h2:u.Name = v.Name
    · by_cases h3:u.N = v.N
      · by_cases h4:u.Kids.length = v.Kids.length
        · rw [if_neg (by simpa using h1),if_neg (by simpa using h2),if_neg (by simpa using h3)]
          simp only [h4,bne_self_eq_false,Option.bind_some,if_false,Bool.false_eq_true]
          unfold qpY
          rw [← h4,qyk h4 (by unfold bigN at hx; omega) _ (.inl ()) (.inr ()) (fun i g1 g2 => ?_) ?_]
          · by_cases he:u.Kids = v.Kids <;> simp [he,qng (a:=u) (b:=v),h1,h2,h3]
          · unfold qjn
            rw [if_neg (by simp)]
          · unfold qjn
            rw [if_pos (by simp; omega),qcO u.Kids i g1]
            simp only [Option.bind_some]
            rw [qcO v.Kids i g2]
            simp only [Option.bind_some]
            have hm:=List.getElem_mem g2
            rw [ih (u.Kids[i],v.Kids[i]) (qjt hm) (Nat.le_of_lt (Nat.lt_of_lt_of_le (qjt hm) hx))]
            by_cases he:u.Kids[i] = v.Kids[i] <;> simp [he]
        · have hne:u ≠ v:=fun e => h4 (by rw [e])
          rw [if_neg (by simpa using h1),if_neg (by simpa using h2),if_neg (by simpa using h3)]
          have hb:((u.Kids.length:Int) != (v.Kids.length:Int)) = true:=by simp; omega
          simp [hb,hne]
      · have hne:u ≠ v:=fun e => h3 (by rw [e])
        rw [if_neg (by simpa using h1),if_neg (by simpa using h2),if_pos (by simpa using h3)]
        simp [hne]
    · have hne:u ≠ v:=fun e => h2 (by rw [e])
      rw [if_neg (by simpa using h1),if_pos (by simpa using h2)]
      simp [hne]
  · have hne:u ≠ v:=fun e => h1 (by rw [e])
    rw [if_pos (by simpa using h1)]
    simp [hne]
def qmV:tPred:=⟨0,[],0,[]⟩
def qnD:tPred:=⟨2,[],1,[]⟩
def qwI (p:tPred):Bool:=decide (p = qmV) || decide (p = qnD)
theorem qCc:nP qnD ≤ bigN:=by decide
theorem qCf:nP qmV ≤ bigN:=by decide
theorem quZ (p:tPred):ql0 p = some (qwI p):=by
  have h1:qjh p (⟨0,([]:Str),0,([]:List tPred)⟩:tPred) = some (decide (p = qmV)):=quH p qmV qCf
  have h2:qjh p (⟨2,([]:Str),1,([]:List tPred)⟩:tPred) = some (decide (p = qnD)):=quH p qnD qCc
  unfold ql0 qn8 qwI
  simp only [Option.bind_some,h2,h1]
  cases decide (p = qnD) <;> cases decide (p = qmV) <;> rfl
end Go.Proofs.YtgldgpdhblndkaaGreatDoor
namespace Go.Proofs.YtgldgpdhblndkaaGreatDoor
open Go
set_option linter.unusedVariables false
theorem qvS {α σ X:Type} (g:α→σ→σ) (e:σ→X):∀ (l:List α) (i:Nat) (s:σ),runL (fun _ x (s:σ) => (Sum.inl (g x s):σ⊕X)) e l i s = e (l.foldl (fun s x => g x s) s)
  | [],i,s => by simp [runL]
  | x :: l,i,s => by
    unfold runL
    simp only
    rw [qvS g e l (i + 1) (g x s)]
    rfl
theorem qzg {α σ τ X:Type} (l:List α) (hl:l.length < 9223372036854775808) (mk:Int→σ→τ) (body:τ→Option (τ⊕X)) (I:Nat→σ→Prop) (g:α→σ→σ) (e:σ→X) (s0:σ) (h0:I 0 s0)
    (hin:∀ (i:Nat) (h:i < l.length) s,I i s→body (mk i s) = some (.inl (mk (w64 ((i:Int) + 1)) (g l[i] s)))∧I (i + 1) (g l[i] s)) (hend:∀ s,I l.length s→body (mk l.length s) = some (.inr (e s))) :
    loop body (mk 0 s0) = some (e (l.foldl (fun s x => g x s) s0)):=by
  have:=qqC l hl mk body I (fun _ x s => .inl (g x s)) e (fun i h s hs => ⟨(hin i h s hs).1,fun s' hs' => by cases hs'; exact (hin i h s hs).2⟩) (fun s hs => hend s hs) 0 s0 (Nat.zero_le _) h0
  rw [qvS] at this
  exact this
theorem qzF (l:List tPred) (i:Nat) (h:i < l.length):nL (l.take (i + 1)) = nL (l.take i) + nP l[i]:=by
  rw [List.take_succ_eq_append_getElem h,qsX]
  simp [nL]
theorem que (l:List tPred) (i:Nat):nL (l.take i) ≤ nL l:=by
  have:=qsX (l.take i) (l.drop i)
  rw [List.take_append_drop] at this
  omega
theorem qyU:∀ (l:List tPred) (a:Int),l.foldl (fun s x => s + (nP x:Int)) a = a + (nL l:Int)
  | [],a => by simp [nL]
  | x :: l,a => by rw [List.foldl_cons,qyU l,nL]; omega
theorem qyg (p:tPred) (hp:nP p ≤ bigN):qqT p = some (nP p:Int):=by
  refine qiZ (F:=qpk) nP (fun x => nP x ≤ bigN) (fun x => (nP x:Int)) (fun R x hx ih => ?_) p hp (qjH hp)
  show ql1 (fun p => R p) x = _
  unfold ql1 qnh
  have hlen:=qji x
  have hn:=qzU x
  rw [qzg x.Kids (by unfold bigN at hx; omega) (fun i s => (s,i)) _ (fun i s => s = 1 + (nL (x.Kids.take i):Int)) (fun x s => s + (nP x:Int)) id 1 (by simp [nL]) (fun i hi s hs => ?_) (fun s _ => ?_)]
  · rw [qyU]
    simp only [id,Option.bind_some]
    rw [hn]; congr 1; omega
  · have hm:=List.getElem_mem hi
    have hk:=qjt hm
    refine ⟨?_,by rw [qzF _ _ hi,hs]; omega⟩
    unfold qie
    rw [if_pos (by simp; omega),qcO x.Kids i hi]
    simp only [Option.bind_some]
    rw [ih _ hk (by omega)]
    simp only [Option.bind_some]
    have h1:=que x.Kids i
    have h2:=que x.Kids (i + 1)
    have h3:=qzF x.Kids i hi
    unfold bigN at hx
    rw [qsR (n:=s + _) (by omega) (by omega)]
  · unfold qie
    rw [if_neg (by simp)]
    rfl
end Go.Proofs.YtgldgpdhblndkaaGreatDoor
namespace Go.Proofs.YtgldgpdhblndkaaGreatDoor
open Go
set_option linter.unusedVariables false
set_option linter.unusedSimpArgs false
abbrev T8:Type:=Int×Str×Int×List tPred×Int×Str×Int×List tPred
def t8 (a b:tPred):T8:=(a.Op,a.Name,a.N,a.Kids,b.Op,b.Name,b.N,b.Kids)
end Go.Proofs.YtgldgpdhblndkaaGreatDoor
namespace Go.Proofs.YtgldgpdhblndkaaGreatDoor
open Go
set_option linter.unusedVariables false
set_option linter.unusedSimpArgs false
theorem qAY (l:List Str) (v:Str) (hl:l.length < 9223372036854775808):qsA l v = some (match l.findIdx? (fun x => x == v) with | some j => (j:Int) | none => -1):=by
  unfold qsA qpV
  have h:=qvx l hl (fun zz => qeh l v (l.length:Int) zz) (fun x => x == v) (fun j => Sum.inl (j:Int)) (.inr ()) (fun i hi => ?_) ?_
  · rw [h]
    simp only [Option.bind_some]
    cases l.findIdx? (fun x => x == v) <;> rfl
  · show qeh l v (l.length:Int) (i:Int) = _
    unfold qeh
    rw [if_pos (by simp; omega),qcO l i hi]
    simp only [Option.bind_some]
    by_cases he:(l[i] == v) = true <;> simp [he]
  · show qeh l v (l.length:Int) (l.length:Int) = _
    unfold qeh
    rw [if_neg (by simp)]
theorem qAW (l:List Str) (v:Str) (hl:l.length < 9223372036854775808):qit l v = some (match l.findIdx? (fun x => x == v) with | some j => (j:Int) | none => -1):=by
  unfold qit qjv
  have h:=qvx l hl (fun zz => qcD l v (l.length:Int) zz) (fun x => x == v) (fun j => Sum.inl (j:Int)) (.inr ()) (fun i hi => ?_) ?_
  · rw [h]
    simp only [Option.bind_some]
    cases l.findIdx? (fun x => x == v) <;> rfl
  · show qcD l v (l.length:Int) (i:Int) = _
    unfold qcD
    rw [if_pos (by simp; omega),qcO l i hi]
    simp only [Option.bind_some]
    by_cases he:v = l[i]
    · subst he; simp
    · have he':¬ l[i] = v:=fun h => he h.symm
      simp [he,he']
  · show qcD l v (l.length:Int) (l.length:Int) = _
    unfold qcD
    rw [if_neg (by simp)]
end Go.Proofs.YtgldgpdhblndkaaGreatDoor
namespace Go.Proofs.YtgldgpdhblndkaaGreatDoor
open Go
set_option linter.unusedVariables false
def tot {α:Type} (o:Option α) (Q:α→Prop):Prop := ∃ a,o = some a∧Q a
section
variable {α β σ τ X Y:Type}
theorem qa2 {a:α} {Q:α→Prop} (h:Q a):tot (some a) Q:=⟨a,rfl,h⟩
theorem qdb {o:Option α} {f:α→Option β} {R:α→Prop} {Q:β→Prop} (h:tot o R) (h':∀ a,R a→tot (f a) Q):tot (o.bind f) Q:=by
  obtain ⟨a,rfl,h⟩:=h
  exact h' a h
theorem qh8 {o:Option α} {a:α} {f:α→Option β} {Q:β→Prop} (e:o = some a) (h:tot (f a) Q):tot (o.bind f) Q:=by
  rw [e]; exact h
theorem tot.mono {o:Option α} {Q R:α→Prop} (h:tot o Q) (h':∀ a,Q a→R a):tot o R:=by
  obtain ⟨a,e,h⟩:=h
  exact ⟨a,e,h' a h⟩
theorem qfI {c:Prop} [Decidable c] {a b:Option α} {Q:α→Prop} (h1:c→tot a Q) (h2:¬c→tot b Q):tot (if c then a else b) Q:=by
  by_cases h:c
  · rw [if_pos h]; exact h1 h
  · rw [if_neg h]; exact h2 h
theorem qB8 {o:Option α} {a:α}:tot o (fun x => x = a)↔o = some a:=by
  constructor
  · rintro ⟨x,e,rfl⟩; exact e
  · intro e; exact ⟨a,e,rfl⟩
theorem quF {F:(X→Option Y)→X→Option Y} (μ:X→Nat) (P:X→Prop) (Q:X→Y→Prop) (h:∀ (R:X→Option Y) x,P x→(∀ y,μ y < μ x→P y→tot (R y) (Q y))→tot (F R x) (Q x)) (x:X) (hx:P x) (hm:μ x < big):tot (fixE F x) (Q x):=by
  have key:∀ n x,μ x < n→P x→tot (itF F n x) (Q x):=by
    intro n
    induction n with
    | zero => intro x hx; omega
    | succ n ih => intro x hx hq; exact h _ x hq fun y hy hqy => ih y (by omega) hqy
  exact key _ x hm hx
theorem qAl (l:List α) (hl:l.length < 9223372036854775808) (mk:Int→σ→τ) {body:τ→Option (τ⊕X)} (I:Nat→σ→Prop) {Q:X→Prop}
    (hin:∀ (i:Nat) (h:i < l.length) s,I i s→tot (body (mk i s)) (fun r => match r with | .inl t => ∃ s',t = mk (w64 ((i:Int) + 1)) s'∧I (i + 1) s' | .inr y => Q y))
    (hend:∀ s,I l.length s→tot (body (mk l.length s)) (fun r => match r with | .inl _ => False | .inr y => Q y)):∀ s,I 0 s→tot (loop body (mk 0 s)) Q:=by
  have key:∀ k i s,k + i = l.length→I i s→tot (loop body (mk (i:Int) s)) Q:=by
    intro k
    induction k with
    | zero =>
      intro i s hi hI
      have:i = l.length:=by omega
      subst this
      obtain ⟨r,e,hr⟩:=hend s hI
      rw [qlP,e]
      cases r with
      | inl _ => exact hr.elim
      | inr y => exact ⟨y,rfl,hr⟩
    | succ k ih =>
      intro i s hi hI
      obtain ⟨r,e,hr⟩:=hin i (by omega) s hI
      rw [qlP,e]
      cases r with
      | inl t =>
        obtain ⟨s',rfl,hI'⟩:=hr
        simp only
        rw [qsR (by omega) (by omega),show ((i:Int) + 1) = ((i + 1:Nat):Int) by omega]
        exact ih (i + 1) s' (by omega) hI'
      | inr y => exact ⟨y,rfl,hr⟩
  exact fun s hs => key l.length 0 s (by omega) hs
end
end Go.Proofs.YtgldgpdhblndkaaGreatDoor
namespace Go.Proofs.YtgldgpdhblndkaaGreatDoor
open Go
set_option linter.unusedVariables false
section
variable {α β σ τ X Y:Type}
theorem qfQ (l:List α) (hl:l.length ≤ 1073741824) (mk:Int→List β→τ) (body:τ→Option (τ⊕X)) (h:α→Option β) (g:α→β) (e:List β→X)
    (hb:∀ (i:Int) (s:List β),body (mk i s) = if decide (i < (l.length:Int)) = true then (idx l i).bind (fun x => (h x).bind fun r => (app s ([r]:List β)).bind fun q => some (.inl (mk (w64 (i + 1)) q))) else some (.inr (e s)))
    (hg:∀ x ∈ l,h x = some (g x)):loop body (mk 0 []) = some (e (l.map g)):=by
  refine qyc l (by omega) mk body g e (fun i hi s hs => ?_) (fun s => ?_)
  · rw [hb,if_pos (by simp; omega),qcO l i hi]
    simp only [Option.bind_some]
    rw [hg _ (List.getElem_mem hi)]
    simp only [Option.bind_some]
    rw [qxU (by simp; omega)]
    rfl
  · rw [hb,if_neg (by simp)]
theorem qyt (l:List α) (hl:l.length < 9223372036854775808) (mk:Int→σ→τ) (body:τ→Option (τ⊕X)) (k:Int→σ→α→Option (τ⊕X)) (I:Nat→σ→Prop) (g:α→σ→σ) (e:σ→X) (s0:σ) (h0:I 0 s0)
    (hb:∀ (i:Int) (s:σ),body (mk i s) = if decide (i < (l.length:Int)) = true then (idx l i).bind (k i s) else some (.inr (e s)))
    (hin:∀ (i:Nat) (h:i < l.length) s,I i s→k i s l[i] = some (.inl (mk (w64 ((i:Int) + 1)) (g l[i] s)))∧I (i + 1) (g l[i] s)):loop body (mk 0 s0) = some (e (l.foldl (fun s x => g x s) s0)):=by
  have:=qqC l hl mk body I (fun _ x s => .inl (g x s)) e (fun i h s hs => ⟨?_,fun s' hs' => by cases hs'; exact (hin i h s hs).2⟩) (fun s hs => by rw [hb,if_neg (by simp)]) 0 s0 (Nat.zero_le _) h0
  · rw [List.drop_zero,show ((0:Nat):Int) = 0 from rfl] at this
    rw [this]
    have key:∀ (l:List α) (i:Nat) (s:σ),runL (fun _ x (s:σ) => (Sum.inl (g x s):σ⊕X)) e l i s = e (l.foldl (fun s x => g x s) s):=by
      intro l
      induction l with
      | nil => intro i s; rfl
      | cons x l ih => intro i s; unfold runL; simp only; rw [ih]; rfl
    rw [key]
  · rw [hb,if_pos (by simp; omega),qcO l i h]
    simp only [Option.bind_some]
    exact (hin i h s hs).1
theorem qvv (l:List α) (hl:l.length < 9223372036854775808) (mk:Int→σ→τ) {body:τ→Option (τ⊕X)} (k:Int→σ→α→Option (τ⊕X)) (e:σ→X) (I:Nat→σ→Prop) {Q:X→Prop}
    (hb:∀ (i:Int) (s:σ),body (mk i s) = if decide (i < (l.length:Int)) = true then (idx l i).bind (k i s) else some (.inr (e s)))
    (hin:∀ (i:Nat) (h:i < l.length) s,I i s→tot (k i s l[i]) (fun r => match r with | .inl t => ∃ s',t = mk (w64 ((i:Int) + 1)) s'∧I (i + 1) s' | .inr y => Q y))
    (hend:∀ s,I l.length s→Q (e s)):∀ s,I 0 s→tot (loop body (mk 0 s)) Q :=
  qAl l hl mk I (fun i h s hs => by
    rw [hb,if_pos (by simp; omega),qcO l i h]
    exact hin i h s hs) (fun s hs => by
    rw [hb,if_neg (by simp)]
    exact ⟨_,rfl,hend s hs⟩)
theorem qzf (l:List α) (hl:l.length < 9223372036854775808) {body:Int→Option (Int⊕X)} (k:Int→α→Option (Int⊕X)) (e:X) (I:Nat→Prop) {Q:X→Prop}
    (hb:∀ (i:Int),body i = if decide (i < (l.length:Int)) = true then (idx l i).bind (k i) else some (.inr e))
    (hin:∀ (i:Nat) (h:i < l.length),I i→tot (k i l[i]) (fun r => match r with | .inl t => t = w64 ((i:Int) + 1)∧I (i + 1) | .inr y => Q y))
    (hend:I l.length→Q e) (h0:I 0):tot (loop body 0) Q :=
  qvv l hl (fun i (_:Unit) => i) (fun i _ => k i) (fun _ => e) (fun i _ => I i) (fun i _ => hb i) (fun i h s hs => (hin i h hs).mono fun r hr => by
    cases r with
    | inl t => exact ⟨(),hr.1,hr.2⟩
    | inr y => exact hr) (fun _ h => hend h) () h0
end
def all2 {α:Type} (p:α→α→Bool):List α→List α→Bool
  | [],[] => true
  | x :: a,y :: b => p x y && all2 p a b
  | _,_ => false
theorem qxP {α:Type} {p:α→α→Bool}:∀ {a b:List α},all2 p a b = true→a.length = b.length
  | [],[],_ => rfl
  | x :: a,y :: b,h => by
    rw [all2,Bool.and_eq_true] at h
    simp [qxP h.2]
  | [],y :: b,h => by simp [all2] at h
  | x :: a,[],h => by simp [all2] at h
theorem qzm {α:Type} {p:α→α→Bool}:∀ {a b:List α},a.length ≠ b.length→all2 p a b = false:=fun {a b} h => by
  rw [Bool.eq_false_iff]
  exact fun he => h (qxP he)
theorem qtA {α:Type} {p:α→α→Bool}:∀ {a:List α},(∀ x ∈ a,p x x = true)→all2 p a a = true
  | [],_ => rfl
  | x :: a,h => by
    rw [all2,h x (by simp),Bool.true_and]
    exact qtA fun y hy => h y (List.mem_cons_of_mem _ hy)
theorem qAn {α:Type} [DecidableEq α]:∀ {a b:List α},all2 (fun x y => decide (x = y)) a b = decide (a = b)
  | [],[] => by simp [all2]
  | x :: a,y :: b => by
    rw [all2,qAn]
    by_cases h1:x = y <;> by_cases h2:a = b <;> simp [h1,h2]
  | [],y :: b => by simp [all2]
  | x :: a,[] => by simp [all2]
theorem qyd {α:Type} {p:α→α→Bool}:∀ {a b:List α},a.length = b.length→(a.zip b).any (fun x => !p x.1 x.2) = !all2 p a b
  | [],[],_ => rfl
  | x :: a,y :: b,h => by
    rw [List.zip_cons_cons,List.any_cons,qyd (by simpa using h),all2]
    cases p x y <;> rfl
theorem qq4 {α X:Type} {a b:List α} (hl:a.length = b.length) (ha:a.length < 9223372036854775808) (body:Int→Option (Int⊕X)) (k:Int→α→α→Option (Int⊕X)) (p:α→α→Bool) (y e:X)
    (hb:∀ (i:Int),body i = if decide (i < (a.length:Int)) = true then (idx a i).bind (fun x => (idx b i).bind (k i x)) else some (.inr e))
    (hk:∀ x ∈ a,∀ z ∈ b,∀ i,k i x z = some (if p x z = true then .inl (w64 (i + 1)) else .inr y)):loop body 0 = some (if all2 p a b = true then e else y):=by
  have hz:(a.zip b).length = a.length:=by simp [hl]
  have:=qx3 (a.zip b) (by omega) body (fun x => !p x.1 x.2) y e (fun i h => ?_) (by rw [hb,if_neg (by simp [hz])]) 0 (Nat.zero_le _)
  · rw [List.drop_zero,qyd hl] at this
    rw [show ((0:Nat):Int) = 0 from rfl] at this
    rw [this]
    by_cases h:all2 p a b = true <;> simp [h]
  · have h1:i < a.length:=by omega
    have h2:i < b.length:=by omega
    rw [hb,if_pos (by simp; omega),qcO a i h1]
    simp only [Option.bind_some]
    rw [qcO b i h2]
    simp only [Option.bind_some]
    rw [hk _ (List.getElem_mem h1) _ (List.getElem_mem h2)]
    have hzi:(a.zip b)[i] = (a[i],b[i]):=by simp
    rw [hzi]
    by_cases h:p a[i] b[i] = true <;> simp [h]
theorem qzZ {α:Type} (l:List α) (h:l.length ≤ 1073741824):qip l = some l:=if_pos h
end Go.Proofs.YtgldgpdhblndkaaGreatDoor
