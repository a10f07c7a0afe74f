/- WHAT IS PROVED: parts of the proof, put together by a program (Sb1 Sb2). Conditions: none. -/
import Derived.Test.YtgldgpdhblndkaaGreatDoorPkE43
noncomputable section
namespace Go.Proofs.YtgldgpdhblndkaaGreatDoor
open Go
set_option linter.unusedVariables false
set_option linter.unusedSimpArgs false
theorem qoZ {σ τ X:Type} (n:Nat) (hn:n < 9223372036854775808) (mk:Int→σ→τ) (body:τ→Option (τ⊕X)) (F:Nat→σ) (y:X)
  (hin:∀ i,i < n→body (mk (i:Int) (F i)) = some (.inl (mk (w64 ((i:Int) + 1)) (F (i + 1))))) (hend:body (mk (n:Int) (F n)) = some (.inr y)):loop body (mk 0 (F 0)) = some y:=by
 have key:∀ k i,k + i = n→loop body (mk (i:Int) (F i)) = some y:=by
  intro k
  induction k with
  | zero =>
   intro i hi
   have:i = n:=by omega
   subst this
   exact qez hend
  | succ k ih =>
   intro i hi
   rw [qhl (hin i (by omega)),qeY (by omega) (by omega),show ((i:Int) + 1) = ((i + 1:Nat):Int) by omega]
   exact ih (i + 1) (by omega)
 exact key n 0 (by omega)
abbrev Sb:Type:=List (Str×tPred)
abbrev kN (c:Sb):List Str:=c.map (·.1)
abbrev kB (c:Sb):List tPred:=c.map (·.2)
def varP (x:Str):tPred:=⟨3,x,0,[]⟩
def qbZ (x:Str) (c:Sb):Sb:=c.filter (fun e => !(e.1 == x))
def qod (x:Str) (c:Sb):Bool:=c.any (fun e => decide (x ∈ vsP e.2))
abbrev S3:Type:=List Str×Sb×List Str
def chS (o:Int) (ns:List Str) (i:Nat) (s:S3):S3 :=
 if o = 6∧i < ns.length then
  if qod (ns.getD i []) (qbZ (ns.getD i []) s.2.1) = true then
   (s.1 ++ [qdG s.1 (ns.getD i [])],qbZ (ns.getD i []) s.2.1 ++ [(ns.getD i [],varP (qdG s.1 (ns.getD i [])))],s.2.2.set i (qdG s.1 (ns.getD i [])))
  else (s.1,qbZ (ns.getD i []) s.2.1,s.2.2)
 else s
mutual
def chT:tType→Sb→tType
 | ⟨o,n,xs,ns,p,ps⟩,c =>
  ⟨o,n,(chL o ns 0 xs (((kB c).flatMap qdo ++ freeT ⟨o,n,xs,ns,p,ps⟩) ++ ns,c,ns)).1,(chL o ns 0 xs (((kB c).flatMap qdo ++ freeT ⟨o,n,xs,ns,p,ps⟩) ++ ns,c,ns)).2,sbP (look (kN c) (kB c)) p,ps.map (sbP (look (kN c) (kB c)))⟩
def chL (o:Int) (ns:List Str):Nat→List tType→S3→List tType×List Str
 | _,[],s => ([],s.2.2)
 | i,a :: xs,s => (chT a s.2.1 :: (chL o ns (i + 1) xs (chS o ns i s)).1,(chL o ns (i + 1) xs (chS o ns i s)).2)
end
def chQ (o:Int) (ns:List Str) (s:S3):Nat→S3
 | 0 => s
 | i + 1 => chS o ns i (chQ o ns s i)
def qbf (t:tType) (c:Sb):S3:=(((kB c).flatMap qdo ++ freeT t) ++ t.Names,c,t.Names)
theorem qG0 (o:Int) (ns:List Str) (s:S3):∀ (xs:List tType) (i:Nat),chL o ns i xs (chQ o ns s i) = ((xs.zipIdx i).map (fun y => chT y.1 (chQ o ns s y.2).2.1),(chQ o ns s (i + xs.length)).2.2)
 | [],i => by rw [chL]; rfl
 | a :: xs,i => by
  have ih:=qG0 o ns s xs (i + 1)
  rw [chL,show chS o ns i (chQ o ns s i) = chQ o ns s (i + 1) from rfl,ih,List.zipIdx_cons,List.map_cons,List.length_cons,show i + 1 + xs.length = i + (xs.length + 1) by omega]
theorem qEO (t:tType) (c:Sb):chT t c = ⟨t.Op,t.Name,(t.Args.zipIdx).map (fun y => chT y.1 (chQ t.Op t.Names (qbf t c) y.2).2.1),(chQ t.Op t.Names (qbf t c) t.Args.length).2.2,sbP (look (kN c) (kB c)) t.Pred,t.Preds.map (sbP (look (kN c) (kB c)))⟩:=by
 obtain ⟨o,n,xs,ns,p,ps⟩:=t
 have h:=qG0 o ns (qbf ⟨o,n,xs,ns,p,ps⟩ c) xs 0
 rw [show chQ o ns (qbf ⟨o,n,xs,ns,p,ps⟩ c) 0 = (((kB c).flatMap qdo ++ freeT ⟨o,n,xs,ns,p,ps⟩) ++ ns,c,ns) from rfl,Nat.zero_add] at h
 rw [chT,h]
 rfl
def chA (t:tType) (c:Sb) (i:Nat):List tType:=((t.Args.take i).zipIdx).map (fun y => chT y.1 (chQ t.Op t.Names (qbf t c) y.2).2.1)
theorem qBO (t:tType) (c:Sb) (i:Nat) (h:i < t.Args.length):chA t c (i + 1) = chA t c i ++ [chT t.Args[i] (chQ t.Op t.Names (qbf t c) i).2.1]:=by
 unfold chA
 rw [List.take_succ_eq_append_getElem h,List.zipIdx_append,List.map_append,List.length_take]
 rw [show min i t.Args.length = i by omega]
 simp [List.zipIdx_cons]
theorem qDG (t:tType) (c:Sb) (i:Nat) (h:i ≤ t.Args.length):(chA t c i).length = i:=by
 unfold chA
 rw [List.length_map,List.length_zipIdx,List.length_take]
 omega
theorem qFC (t:tType) (c:Sb):chA t c t.Args.length = (t.Args.zipIdx).map (fun y => chT y.1 (chQ t.Op t.Names (qbf t c) y.2).2.1):=by
 unfold chA
 rw [List.take_of_length_le (Nat.le_refl _)]
theorem qBA (x:Str):∀ (c:Sb),kN (qbZ x c) = (kN c).filter (fun n => !(n == x))
 | [] => rfl
 | e :: c => by
  have ih:=qBA x c
  unfold qbZ kN at ih ⊢
  rw [List.filter_cons,List.map_cons,List.filter_cons]
  split
  ·rw [List.map_cons,ih]
  ·exact ih
theorem qFI (x:Str) (c:Sb):x ∉ kN (qbZ x c):=by rw [qBA]; simp
theorem qsP {x:Str} {c:Sb} (h:(kN c).Nodup):(kN (qbZ x c)).Nodup:=by rw [qBA]; exact h.filter _
theorem qDm (x:Str) (c:Sb):qbZ x (qbZ x c) = qbZ x c:=by
 unfold qbZ
 rw [List.filter_filter]
 congr 1
 funext e
 cases (e.1 == x) <;> rfl
theorem qyR (x:Str):∀ (c:Sb),nL (kB (qbZ x c)) ≤ nL (kB c)
 | [] => by simp [qbZ,kB]
 | e :: c => by
  have ih:=qyR x c
  unfold qbZ kB at ih ⊢
  rw [List.filter_cons]
  split
  ·rw [List.map_cons,List.map_cons,nL,nL]; omega
  ·rw [List.map_cons,nL]; omega
theorem qzs (c:Sb):c.length ≤ nL (kB c):=by
 have:=qt6 (kB c)
 rwa [List.length_map] at this
theorem qAF (x:Str):nP (varP x) = 1:=by simp [varP,nP,nL]
theorem qHC (c:Sb) (e:Str×tPred):nL (kB (c ++ [e])) = nL (kB c) + nP e.2:=by
 unfold kB
 rw [List.map_append,qlS]; simp [nL]
theorem qrb (o:Int) (ns:List Str) (s:S3) (h:(kN s.2.1).Nodup):∀ i,(kN (chQ o ns s i).2.1).Nodup
 | 0 => h
 | i + 1 => by
  have ih:=qrb o ns s h i
  show (kN (chS o ns i (chQ o ns s i)).2.1).Nodup
  unfold chS
  split
  ·split
   ·unfold kN
    rw [List.map_append]
    simp only [List.map_cons,List.map_nil]
    rw [List.nodup_append]
    refine ⟨qsP ih,by simp,fun a ha b hb => ?_⟩
    rw [List.mem_singleton] at hb
    subst hb
    exact fun e => qFI _ _ (e ▸ ha)
   ·exact qsP ih
  ·exact ih
theorem qFZ (o:Int) (ns:List Str) (s:S3):∀ i,nL (kB (chQ o ns s i).2.1) ≤ nL (kB s.2.1) + min i ns.length
 | 0 => by simp [chQ]
 | i + 1 => by
  have ih:=qFZ o ns s i
  show nL (kB (chS o ns i (chQ o ns s i)).2.1) ≤ _
  have hd:=qyR (ns.getD i []) (chQ o ns s i).2.1
  unfold chS
  split
  ·rename_i hc
   split
   ·show nL (kB (qbZ (ns.getD i []) (chQ o ns s i).2.1 ++ [(ns.getD i [],varP (qdG (chQ o ns s i).1 (ns.getD i [])))])) ≤ _
    rw [qHC,qAF]
    omega
   ·show nL (kB (qbZ (ns.getD i []) (chQ o ns s i).2.1)) ≤ _
    omega
  ·omega
theorem qHi (o:Int) (ns:List Str) (s:S3):∀ i,(chQ o ns s i).1.length ≤ s.1.length + i
 | 0 => by simp [chQ]
 | i + 1 => by
  have ih:=qHi o ns s i
  show (chS o ns i (chQ o ns s i)).1.length ≤ _
  unfold chS
  split
  ·split
   ·simp only [List.length_append,List.length_singleton]; omega
   ·simp only; omega
  ·omega
theorem qEy (o:Int) (ns:List Str) (s:S3):∀ i,(chQ o ns s i).2.2.length = s.2.2.length
 | 0 => rfl
 | i + 1 => by
  have ih:=qEy o ns s i
  show (chS o ns i (chQ o ns s i)).2.2.length = _
  unfold chS
  split
  ·split
   ·simp only [List.length_set]; exact ih
   ·exact ih
  ·exact ih
theorem qrw:∀ (l:List tPred),(l.flatMap qdo).length ≤ nL l
 | [] => by simp [nL]
 | p :: l => by
  have:=qrw l
  have:=qge p
  rw [List.flatMap_cons,List.length_append,nL]; omega
theorem qE8 (t:tType) (c:Sb):(qbf t c).1.length ≤ nL (kB c) + wT t + lenT t:=by
 have h1:=qrw (kB c)
 have h2:=qft t
 have h3:=qe4 t
 unfold qbf
 simp only [List.length_append]
 omega
theorem qDi (x:Str) (c:Sb):decide (x ∈ (kB c).flatMap qdo) = qod x c:=by
 unfold qod
 rw [Bool.eq_iff_iff,decide_eq_true_eq,List.any_eq_true,List.mem_flatMap]
 simp only [qox,decide_eq_true_eq,kB,List.mem_map]
 constructor
 ·rintro ⟨p,⟨e,he,rfl⟩,h⟩; exact ⟨e,he,h⟩
 ·rintro ⟨e,he,h⟩; exact ⟨e.2,⟨e,he,rfl⟩,h⟩
theorem qrt {α:Type} (n:Nat) (l:List α) (i:Nat) (h:i < n) (h2:i < l.length):idn n l (i:Int) = some l[i]:=by
 unfold idn
 rw [if_pos ⟨by omega,by omega⟩]
 simp [h2]
theorem qxF {α:Type} (l:List α) (i:Nat) (x:α) (h:i < l.length):upd l (i:Int) x = some (l.set i x):=by
 unfold upd
 rw [if_pos ⟨by omega,by omega⟩]
 rfl
theorem qu3 {α:Type} (n:Nat) (l:List α) (h:n = l.length):frz n l = some l:=if_pos h
theorem qmM (ns:List Str) (i:Nat) (h:i < ns.length):ns.getD i [] = ns[i]:=by simp [h]
theorem qAu:∀ (k u:Nat),u < 10 ^ (k + 1)→(Lib.decDigits u).length ≤ k + 1
 | 0,u,h => by
  rw [Lib.decDigits,dif_pos (by omega)]; simp
 | k + 1,u,h => by
  rw [Lib.decDigits]
  by_cases h10:u < 10
  ·rw [dif_pos h10]; simp
  ·rw [dif_neg h10]
   have:=qAu k (u / 10) (by
    have:10 ^ (k + 1 + 1) = 10 ^ (k + 1) * 10:=Nat.pow_succ ..
    omega)
   simp only [List.length_append,List.length_singleton]
   omega
theorem qxi (used:List Str) (base:Str):∀ (k n:Nat),n + k ≤ 100000002→(qkk used base k n).length ≤ base.length + 10
 | 0,n,_ => by rw [qkk]; simp
 | k + 1,n,h => by
  rw [qkk]
  split
  ·exact qxi used base k (n + 1) (by omega)
  ·rw [List.length_append]
   have:=qAu 8 n (by omega)
   omega
theorem qw9 (used:List Str) (base:Str):(qdG used base).length ≤ base.length + 10:=by
 unfold qdG
 split
 ·exact qxi used base 100000001 1 (by omega)
 ·omega
mutual
def allN (L:Nat):tType→Prop
 | ⟨_,_,xs,ns,_,_⟩ => (∀ s ∈ ns,s.length ≤ L)∧qhX L xs
def qhX (L:Nat):List tType→Prop
 | [] => True
 | a :: xs => allN L a∧qhX L xs
end
theorem qmG (L:Nat) (t:tType):allN L t↔(∀ s ∈ t.Names,s.length ≤ L)∧qhX L t.Args:=by obtain ⟨o,n,xs,ns,p,ps⟩:=t; rw [allN]; rfl
theorem qks (L:Nat):∀ (l:List tType),qhX L l↔∀ t ∈ l,allN L t
 | [] => by simp [qhX]
 | a :: l => by rw [qhX,qks L l]; simp
theorem qB6 {L:Nat} {t a:tType} (h:allN L t) (ha:a ∈ t.Args):allN L a:=(qks L _).1 ((qmG L t).1 h).2 a ha
mutual
theorem qq5 {L M:Nat} (h:L ≤ M):∀ (t:tType),allN L t→allN M t
 | ⟨_,_,xs,ns,_,_⟩,ht => by
  rw [allN] at ht ⊢
  exact ⟨fun s hs => Nat.le_trans (ht.1 s hs) h,qiy h xs ht.2⟩
theorem qiy {L M:Nat} (h:L ≤ M):∀ (l:List tType),qhX L l→qhX M l
 | [],_ => trivial
 | a :: xs,hl => by
  rw [qhX] at hl ⊢
  exact ⟨qq5 h a hl.1,qiy h xs hl.2⟩
end
theorem qHJ {ns:List Str} {s:Str} (h:s ∈ ns):s.length ≤ pmLL (ns.map cS):=by
 have h2:=qCm (List.mem_map.2 ⟨s,h,rfl⟩:cS s ∈ ns.map cS)
 simp only [cS,pmL,pm] at h2
 omega
mutual
theorem qFd (B:Nat):∀ (t:tType),pmL (qac t) ≤ B→allN B t
 | ⟨o,n,xs,ns,p,ps⟩,h => by
  rw [qyK] at h
  have h:1 + (pm (.str n) + (pm (sl qac xs) + (pm (sl cS ns) + (1 + (pm (.str p.Name) + (1 + (pm (sl qaa p.Kids) + (pm (sl qaa ps) + 0)))))))) ≤ B:=h
  simp only [pm,sl] at h
  rw [allN]
  exact ⟨fun s hs => by have:=qHJ hs; omega,qBT B xs (by omega)⟩
theorem qBT (B:Nat):∀ (l:List tType),pmLL (l.map qac) ≤ B→qhX B l
 | [],_ => trivial
 | a :: xs,h => by
  simp only [List.map_cons,pmLL] at h
  rw [qhX]
  exact ⟨qFd B a (by omega),qBT B xs (by omega)⟩
end
mutual
theorem qHp:∀ (t:tType),wT t ≤ pmL (qac t)
 | ⟨o,n,xs,ns,p,ps⟩ => by
  have h1:=qG5 xs
  have h2:=qE6 ps
  have h3:=qE6 p.Kids
  have h4:=qC8 p
  rw [wT,qyK]
  show _ ≤ 1 + (pm (.str n) + (pm (sl qac xs) + (pm (sl cS ns) + (1 + (pm (.str p.Name) + (1 + (pm (sl qaa p.Kids) + (pm (sl qaa ps) + 0))))))))
  simp only [pm,sl]
  omega
theorem qG5:∀ (l:List tType),wTL l ≤ pmLL (l.map qac)
 | [] => by simp [wTL]
 | a :: l => by
  have:=qHp a
  have:=qG5 l
  rw [wTL]
  simp only [List.map_cons,pmLL]
  omega
end
theorem qna:∀ (c:Sb),(kN c).zip (kB c) = c
 | [] => rfl
 | e :: c => by
  have ih:=qna c
  unfold kN kB at ih ⊢
  rw [List.map_cons,List.map_cons,List.zip_cons_cons,ih]
def woC (hid:List Str) (c:Sb):Sb:=c.foldl (fun o e => if e.1 ∈ hid∨e.1 ∈ kN o then o else o ++ [e]) []
theorem qGm (hid:List Str) (c:Sb) (i:Nat) (h:i < c.length):woC hid (c.take (i + 1)) = if c[i].1 ∈ hid∨c[i].1 ∈ kN (woC hid (c.take i)) then woC hid (c.take i) else woC hid (c.take i) ++ [c[i]]:=by
 unfold woC
 rw [List.take_succ_eq_append_getElem h,List.foldl_append]
 rfl
theorem qHn (hid:List Str):∀ (c:Sb),(woC hid c).length ≤ c.length:=by
 have key:∀ (c o:Sb),(c.foldl (fun o e => if e.1 ∈ hid∨e.1 ∈ kN o then o else o ++ [e]) o).length ≤ o.length + c.length:=by
  intro c
  induction c with
  | nil => intro o; simp
  | cons e c ih =>
   intro o
   rw [List.foldl_cons,List.length_cons]
   refine Nat.le_trans (ih _) ?_
   split
   ·omega
   ·rw [List.length_append,List.length_singleton]; omega
 intro c
 have:=key c []
 simpa [woC] using this
theorem qHE {x:Str} {c:Sb} (h:(kN c).Nodup):woC [x] c = qbZ x c:=by
 have key:∀ (c o:Sb),(kN c).Nodup→(∀ e ∈ c,e.1 ∉ kN o)→c.foldl (fun o e => if e.1 ∈ [x]∨e.1 ∈ kN o then o else o ++ [e]) o = o ++ qbZ x c:=by
  intro c
  induction c with
  | nil => intro o _ _; simp [qbZ]
  | cons e c ih =>
   intro o hn ho
   unfold kN at hn
   rw [List.map_cons,List.nodup_cons] at hn
   have h1:=ho e (by simp)
   rw [List.foldl_cons]
   by_cases hx:e.1 = x
   ·rw [if_pos (.inl (by simp [hx])),ih o hn.2 (fun e' he' => ho e' (by simp [he']))]
    unfold qbZ
    rw [List.filter_cons,if_neg (by simp [hx])]
   ·rw [if_neg (by simp only [List.mem_singleton]; rintro (h | h); exact hx h; exact h1 h)]
    rw [ih (o ++ [e]) hn.2 (fun e' he' hm => by
     unfold kN at hm
     rw [List.map_append,List.mem_append] at hm
     rcases hm with hm | hm
     ·exact ho e' (by simp [he']) hm
     ·simp only [List.map_cons,List.map_nil,List.mem_singleton] at hm
      exact hn.1 (List.mem_map.2 ⟨e',he',hm⟩))]
    unfold qbZ
    rw [List.filter_cons,if_pos (by simpa using hx),List.append_assoc]
    rfl
 have:=key c [] h (fun e _ => by simp)
 simpa [woC] using this
theorem qu1 (hid:List Str) (c:Sb) (hh:hid.length < 9223372036854775808) (hc:c.length ≤ 1000000000):qaG ⟨kN c,kB c⟩ hid = some ⟨kN (woC hid c),kB (woC hid c)⟩:=by
 unfold qaG qcv
 have hl:(kN c).length = c.length:=List.length_map ..
 have:=qoZ c.length (by omega) (fun i (s:List Str×List tPred) => (i,s.1,s.2)) (fun (zz:Int×(List Str)×(List tPred)) => qaC hid ⟨kN c,kB c⟩ (kN c) ((kN c).length:Int) zz.1 zz.2.1 zz.2.2)
  (fun i => (kN (woC hid (c.take i)),kB (woC hid (c.take i)))) (kN (woC hid c),kB (woC hid c)) (fun i hi => ?_) ?_
 ·rw [show (woC hid (c.take 0)) = [] from rfl] at this
  rw [show (((0:Int),([]:List Str),([]:List tPred)):Int×(List Str)×(List tPred)) = (0,kN [],kB []) from rfl,this]
  rfl
 ·show qaC hid ⟨kN c,kB c⟩ (kN c) ((kN c).length:Int) (i:Int) (kN (woC hid (c.take i))) (kB (woC hid (c.take i))) = _
  unfold qaC qct
  have hw:=qHn hid (c.take i)
  rw [List.length_take] at hw
  have hkl:(kN (woC hid (c.take i))).length = (woC hid (c.take i)).length:=List.length_map ..
  have hkb:(kB (woC hid (c.take i))).length = (woC hid (c.take i)).length:=List.length_map ..
  rw [if_pos (by simp; omega),qaS (kN c) i (by omega)]
  simp only [Option.bind_some]
  rw [qky hid _ hh,qky (kN (woC hid (c.take i))) _ (by omega)]
  simp only [Option.bind_some]
  have hg:(kN c)[i]'(by omega) = c[i].1:=by simp [kN]
  have hb:(kB c)[i]'(by simp [kB]; omega) = c[i].2:=by simp [kB]
  rw [hg,qGm hid c i hi]
  by_cases h1:c[i].1 ∈ hid
  ·simp only [h1,decide_true,Bool.not_true,Bool.false_eq_true,if_false,Option.bind_some,true_or,if_true]
  ·by_cases h2:c[i].1 ∈ kN (woC hid (c.take i))
   ·simp only [h1,h2,decide_false,decide_true,Bool.not_false,Bool.not_true,Bool.false_eq_true,if_false,Option.bind_some,or_true,if_true]
   ·simp only [h1,h2,decide_false,Bool.not_false,if_true,Option.bind_some,or_self,if_false]
    rw [qcq (by simp; omega)]
    simp only [Option.bind_some]
    rw [qaS (kB c) i (by simp [kB]; omega)]
    simp only [Option.bind_some,hb]
    rw [qcq (by simp; omega)]
    simp [kN,kB]
 ·show qaC hid ⟨kN c,kB c⟩ (kN c) ((kN c).length:Int) (c.length:Int) (kN (woC hid (c.take c.length))) (kB (woC hid (c.take c.length))) = _
  unfold qaC
  rw [if_neg (by simp),List.take_of_length_le (Nat.le_refl _)]
theorem qGO (x:Str) (c:Sb) (hn:(kN c).Nodup) (hc:c.length ≤ 1000000000):qaG ⟨kN c,kB c⟩ [x] = some ⟨kN (qbZ x c),kB (qbZ x c)⟩:=by
 rw [qu1 [x] c (by simp) hc,qHE hn]
theorem qFN (x:Str) (q:tPred) (c:Sb) (hn:(kN c).Nodup) (hc:c.length ≤ 1000000000):qcC ⟨kN (qbZ x c),kB (qbZ x c)⟩ x q = some ⟨kN (qbZ x c ++ [(x,q)]),kB (qbZ x c ++ [(x,q)])⟩:=by
 unfold qcC
 have hd:(qbZ x c).length ≤ c.length:=List.length_filter_le ..
 rw [qGO x _ (qsP hn) (by omega),qDm]
 simp only [Option.bind_some]
 have h1:(kN (qbZ x c)).length = (qbZ x c).length:=List.length_map ..
 have h2:(kB (qbZ x c)).length = (qbZ x c).length:=List.length_map ..
 rw [qcq (by simp; omega)]
 simp only [Option.bind_some]
 rw [qcq (by simp; omega)]
 simp [kN,kB]
theorem qzb (ns:List Str) (bs:List tPred) (h:nL bs ≤ 400000000):qbU ⟨ns,bs⟩ = some (bs.flatMap qdo):=by
 unfold qbU qc7
 have hl:=qt6 bs
 show (loop (fun (zz:(List Str)×Int) => qcM bs (bs.length:Int) zz.1 zz.2) ([],0)).bind _ = _
 rw [qea bs (by omega) (fun i s => (s,i)) _ (fun i s x => (qkA x).bind fun r3 => (app s r3).bind fun l4 => some (.inl (l4,w64 (i + 1)))) (fun i s => s.length ≤ nL (bs.take i)) (fun x s => s ++ qdo x) id [] (by simp [nL]) (fun i s => rfl) (fun i hi s hs => ?_),qry]
 ·rfl
 ·have h1:=qqe bs i hi
  have h2:=qiA bs (i + 1)
  have h3:=qge bs[i]
  refine ⟨?_,by rw [List.length_append]; omega⟩
  rw [qCi _ (by omega)]
  simp only [Option.bind_some]
  rw [qcq (by omega)]
  rfl
structure okS (t:tType) (c:Sb):Prop where
 nd:(kN c).Nodup
 sz:nL (kB c) + lenT t ≤ 20000000
 w:wT t ≤ 20000000
 n:allN 1000000000000000 t
theorem qH3 {c:Sb} {q:tPred} (h:q ∈ kB c):nP q ≤ nL (kB c):=qxw h
theorem qF7 {t:tType}:nP t.Pred ≤ wT t:=by rw [qyZ]; omega
theorem quM {t:tType} {q:tPred} (h:q ∈ t.Preds):nP q ≤ wT t:=by rw [qyZ]; have:=qxw h; omega
theorem qFe {t:tType} {c:Sb} (h:okS t c) (i:Nat) (hi:i < t.Args.length):okS t.Args[i] (chQ t.Op t.Names (qbf t c) i).2.1 where
 nd:=qrb _ _ _ h.nd i
 sz:=by
  have h1:=qFZ t.Op t.Names (qbf t c) i
  have h2:=qj1 t
  have h3:=qlI (List.getElem_mem hi)
  have h4:=h.sz
  show nL (kB (chQ t.Op t.Names (qbf t c) i).2.1) + lenT t.Args[i] ≤ 20000000
  have h5:nL (kB (qbf t c).2.1) = nL (kB c):=rfl
  omega
 w:=Nat.le_trans (qGo (List.getElem_mem hi)) h.w
 n:=qB6 h.n (List.getElem_mem hi)
theorem qvV (c:Sb) (p:tPred) (hp:nP p ≤ bigN) (hc:nL (kB c) ≤ bigN):qbc ⟨kN c,kB c⟩ p = some (sbP (look (kN c) (kB c)) p):=by
 unfold qbc
 have:=qzs c
 have h1:(kN c).length = c.length:=List.length_map ..
 rw [qHX p (kN c) (kB c) hp (by unfold bigN at hc; omega) (fun q hq => Nat.le_trans (qH3 hq) hc)]
 rfl
theorem qxk (c:Sb) (l:List tPred) (hl:l.length ≤ 1073741824) (hp:∀ p ∈ l,nP p ≤ bigN) (hc:nL (kB c) ≤ bigN):qf4 l ⟨kN c,kB c⟩ = some (l.map (sbP (look (kN c) (kB c)))):=by
 unfold qf4 qir
 rw [qdF l hl (fun i s => (s,i)) _ (fun y => qbc ⟨kN c,kB c⟩ y) (sbP (look (kN c) (kB c))) id (fun i s => rfl) (fun y hy => qvV c y (hp y hy) hc)]
 rfl
theorem qGJ {o:Int} (ho:o ≠ 6) (ns:List Str) (s:S3):∀ i,chQ o ns s i = s
 | 0 => rfl
 | i + 1 => by
  show chS o ns i (chQ o ns s i) = s
  rw [qGJ ho ns s i]
  unfold chS
  rw [if_neg (fun h => ho h.1)]
theorem qrp {α β:Type} (f:α→β):∀ (l:List α) (i:Nat),(l.zipIdx i).map (fun y => f y.1) = l.map f
 | [],i => rfl
 | x :: l,i => by rw [List.zipIdx_cons,List.map_cons,List.map_cons,qrp f l (i + 1)]
theorem qHW (t:tType) (c:Sb) (h:okS t c):qed ⟨kN c,kB c⟩ t = some (chT t c):=by
 have hbig:lenT t < big:=qgV (by have:=h.sz; unfold bigN; omega)
 refine (qfd (F:=qds) (fun x => lenT x.2) (fun x => ∃ c,x.1 = ⟨kN c,kB c⟩∧okS x.2 c) (fun x => chT x.2 (x.1.names.zip x.1.by_)) (fun R x hx ih => ?_) (⟨kN c,kB c⟩,t) ⟨c,rfl,h⟩ hbig).trans (by
  show some (chT t ((kN c).zip (kB c))) = _
  rw [qna])
 obtain ⟨s,t⟩:=x
 obtain ⟨c,hs,h⟩:=hx
 have hs:s = ⟨kN c,kB c⟩:=hs
 have h:okS t c:=h
 subst hs
 show qcf (fun s t => R (s,t)) ⟨kN c,kB c⟩ t = some (chT t ((kN c).zip (kB c)))
 rw [qna]
 have hR:∀ (i:Nat) (hi:i < t.Args.length),R (⟨kN (chQ t.Op t.Names (qbf t c) i).2.1,kB (chQ t.Op t.Names (qbf t c) i).2.1⟩,t.Args[i]) = some (chT t.Args[i] (chQ t.Op t.Names (qbf t c) i).2.1):=fun i hi => by
  have:=ih (⟨kN (chQ t.Op t.Names (qbf t c) i).2.1,kB (chQ t.Op t.Names (qbf t c) i).2.1⟩,t.Args[i]) (qg6 (List.getElem_mem hi)) ⟨_,rfl,qFe h i hi⟩
  rw [this]
  show some (chT t.Args[i] ((kN (chQ t.Op t.Names (qbf t c) i).2.1).zip (kB (chQ t.Op t.Names (qbf t c) i).2.1))) = _
  rw [qna]
 have l1:=qhn t
 have l2:=qe4 t
 have l3:=qhN t
 have hsz:nL (kB c) + lenT t ≤ 20000000:=h.sz
 have hw:wT t ≤ 20000000:=h.w
 have hnd:=h.nd
 have hp:=qF7 (t:=t)
 have hcl:=qzs c
 unfold qcf
 by_cases ho:t.Op = 6
 ·rw [if_pos (by simpa using ho)]
  unfold qc1
  rw [qiS _ (by omega),qvV c _ (by unfold bigN; omega) (by unfold bigN; omega),qxk c _ (by omega) (fun q hq => by have:=quM hq; unfold bigN; omega) (by unfold bigN; omega),qzb _ _ (by omega),qAp t (by omega) (by omega)]
  simp only [Option.bind_some]
  have f1:=qrw (kB c)
  have f2:=qft t
  rw [qcq (by omega)]
  simp only [Option.bind_some]
  rw [qcq (by rw [List.length_append]; omega)]
  simp only [Option.bind_some]
  unfold qce
  have hloop:=qoZ t.Args.length (by omega) (fun i (s:List Str×List Str×List tType×List Str×List tPred) => (s.1,i,s.2.1,s.2.2.1,s.2.2.2.1,s.2.2.2.2)) (fun (zz:(List Str)×Int×List Str×(List tType)×(List Str)×(List tPred)) => qau (fun s t => R (s,t)) t t.Args (t.Args.length:Int) t.Names.length zz.1 zz.2.1 zz.2.2.1 zz.2.2.2.1 zz.2.2.2.2.1 zz.2.2.2.2.2)
   (fun i => ((chQ t.Op t.Names (qbf t c) i).1,(chQ t.Op t.Names (qbf t c) i).2.2,chA t c i,kN (chQ t.Op t.Names (qbf t c) i).2.1,kB (chQ t.Op t.Names (qbf t c) i).2.1))
   ((chQ t.Op t.Names (qbf t c) t.Args.length).2.2,chA t c t.Args.length,kN (chQ t.Op t.Names (qbf t c) t.Args.length).2.1,kB (chQ t.Op t.Names (qbf t c) t.Args.length).2.1) (fun i hi => ?_) ?_
  ·have hloop':loop (fun (zz:(List Str)×Int×List Str×(List tType)×(List Str)×(List tPred)) => qau (fun s t => R (s,t)) t t.Args (t.Args.length:Int) t.Names.length zz.1 zz.2.1 zz.2.2.1 zz.2.2.2.1 zz.2.2.2.2.1 zz.2.2.2.2.2) (((kB c).flatMap qdo ++ freeT t) ++ t.Names,0,t.Names,[],kN c,kB c) = _:=hloop
   rw [hloop']
   simp only [Option.bind_some]
   rw [qu3 _ _ (by rw [qEy]; rfl)]
   simp only [Option.bind_some]
   rw [qEO,qFC]
  ·show qau (fun s t => R (s,t)) t t.Args (t.Args.length:Int) t.Names.length (chQ t.Op t.Names (qbf t c) i).1 (i:Int) (chQ t.Op t.Names (qbf t c) i).2.2 (chA t c i) (kN (chQ t.Op t.Names (qbf t c) i).2.1) (kB (chQ t.Op t.Names (qbf t c) i).2.1) = _
   unfold qau
   rw [if_pos (by simp; omega),qaS _ i hi]
   simp only [Option.bind_some]
   rw [hR i hi]
   simp only [Option.bind_some]
   have hal:=qDG t c i (by omega)
   rw [qcq (by simp; omega)]
   simp only [Option.bind_some]
   rw [qBO t c i hi]
   have hq:chQ t.Op t.Names (qbf t c) (i + 1) = chS t.Op t.Names i (chQ t.Op t.Names (qbf t c) i):=rfl
   have hQn:=qFZ t.Op t.Names (qbf t c) i
   have hQu:=qHi t.Op t.Names (qbf t c) i
   have hQw:=qEy t.Op t.Names (qbf t c) i
   have hQd:=qrb t.Op t.Names (qbf t c) hnd i
   have hu0:=qE8 t c
   have hn0:nL (kB (qbf t c).2.1) = nL (kB c):=rfl
   have hw0:(qbf t c).2.2 = t.Names:=rfl
   rw [hw0] at hQw
   generalize chQ t.Op t.Names (qbf t c) i = S at hq hQn hQu hQw hQd ⊢
   obtain ⟨u,cc,w⟩:=S
   simp only at hQn hQu hQw hQd ⊢
   have hccl:=qzs cc
   by_cases hi2:i < t.Names.length
   ·rw [if_neg (by simp; omega),qaS _ i hi2]
    simp only [Option.bind_some]
    rw [qGO _ cc hQd (by omega)]
    simp only [Option.bind_some]
    have hd:=qyR t.Names[i] cc
    rw [qzb _ _ (by omega)]
    simp only [Option.bind_some]
    have f3:=qrw (kB (qbZ t.Names[i] cc))
    rw [qky _ _ (by omega),qDi]
    simp only [Option.bind_some]
    have hnl:t.Names[i].length ≤ 1000000000000000:=((qmG _ t).1 h.n).1 _ (List.getElem_mem hi2)
    unfold chS at hq
    rw [if_pos ⟨ho,hi2⟩,qmM _ i hi2] at hq
    by_cases hcm:qod t.Names[i] (qbZ t.Names[i] cc) = true
    ·rw [if_pos hcm] at hq ⊢
     rw [(quI u t.Names[i] (by omega) (by omega)).1]
     simp only [Option.bind_some]
     rw [qrt _ w i (by omega) (by omega)]
     simp only [Option.bind_some]
     rw [qxF w i _ (by omega)]
     simp only [Option.bind_some]
     rw [qrt _ (w.set i (qdG u t.Names[i])) i (by omega) (by rw [List.length_set]; omega),List.getElem_set_self]
     simp only [Option.bind_some]
     rw [qcq (by simp; omega)]
     simp only [Option.bind_some]
     have hpw:=qFN t.Names[i] (⟨3,qdG u t.Names[i],0,[]⟩:tPred) cc hQd (by omega)
     rw [hpw]
     simp only [Option.bind_some]
     rw [hq]
     rfl
    ·rw [if_neg hcm] at hq ⊢
     rw [hq]
   ·rw [if_pos (by simp; omega),hq]
    unfold chS
    rw [if_neg (fun h => hi2 h.2)]
  ·show qau (fun s t => R (s,t)) t t.Args (t.Args.length:Int) t.Names.length (chQ t.Op t.Names (qbf t c) t.Args.length).1 (t.Args.length:Int) (chQ t.Op t.Names (qbf t c) t.Args.length).2.2 (chA t c t.Args.length) (kN (chQ t.Op t.Names (qbf t c) t.Args.length).2.1) (kB (chQ t.Op t.Names (qbf t c) t.Args.length).2.1) = _
   unfold qau
   rw [if_neg (by simp)]
 ·rw [if_neg (by simpa using ho),qiS _ (by omega),qvV c _ (by unfold bigN; omega) (by unfold bigN; omega),qxk c _ (by omega) (fun q hq => by have:=quM hq; unfold bigN; omega) (by unfold bigN; omega)]
  simp only [Option.bind_some]
  have hQ:=qGJ ho t.Names (qbf t c)
  unfold qjq qgE
  rw [qdF t.Args (by omega) (fun i s => (s,i)) _ (fun y => R (⟨kN c,kB c⟩,y)) (fun y => chT y c) id (fun i s => rfl) (fun y hy => by
   obtain ⟨i,hi,rfl⟩:=List.getElem_of_mem hy
   have:=hR i hi
   rw [hQ i] at this
   exact this)]
  simp only [Option.bind_some,id]
  rw [qEO]
  simp only [hQ]
  congr 2
  exact (qrp (fun y => chT y c) t.Args 0).symm
def sub1 (x:Str) (q:tPred):Sb:=if x = [118] then [] else [(x,q)]
theorem qC6 (x:Str) (q:tPred):(kN (sub1 x q)).Nodup:=by unfold sub1; split <;> simp [kN]
theorem qIj (x:Str) (q:tPred):nL (kB (sub1 x q)) ≤ nP q:=by
 unfold sub1
 split
 ·simp [kB,nL]
 ·simp [kB,nL]
theorem qDN (t:tType) (x:Str) (q:tPred) (h:okS t (sub1 x q)):qjT t x q = some (chT t (sub1 x q)):=by
 unfold qjT qjv
 rw [show slc ([x]:List Str) none (some (if (([q]:List tPred).length:Int) < (([x]:List Str).length:Int) then (([q]:List tPred).length:Int) else (([x]:List Str).length:Int))) = some [x] from rfl,show slc ([q]:List tPred) none (some (if (([q]:List tPred).length:Int) < (([x]:List Str).length:Int) then (([q]:List tPred).length:Int) else (([x]:List Str).length:Int))) = some [q] from rfl]
 simp only [Option.bind_some]
 have hw:=qu1 [([118]:Str)] [(x,q)] (by simp) (by simp)
 have he:woC [([118]:Str)] [(x,q)] = sub1 x q:=by
  unfold woC sub1
  simp only [List.foldl_cons,List.foldl_nil,List.mem_singleton,kN,List.map_nil,List.not_mem_nil,or_false,List.nil_append]
 rw [he] at hw
 have hw':qaG ⟨[x],[q]⟩ [([118]:Str)] = some ⟨kN (sub1 x q),kB (sub1 x q)⟩:=hw
 rw [hw']
 simp only [Option.bind_some]
 rw [qHW t _ h]
 rfl
end Go.Proofs.YtgldgpdhblndkaaGreatDoor
