/- WHAT IS PROVED: parts of the proof, put together by a program (In1 In2). Conditions: none. -/
import Derived.Test.YtgldgpdhblndkaaGreatDoorPkE45
noncomputable section
namespace Go.Proofs.YtgldgpdhblndkaaGreatDoor
open Go
set_option linter.unusedVariables false
set_option linter.unusedSimpArgs false
def hoF (abs:List tAbs) (holes:List tHole) (n:Str):Option tHole:=(abs.findIdx? (fun a => a.Name == n)).bind fun j => holes[j]?
def qnB (h:tHole):List Str:=(h.Params.drop 1).map (·.Name)
mutual
def hoP (f:Str→Option tHole):tPred→tPred
 | ⟨o,n,k,ks⟩ => if o = 4∧ks.length = 1 then (f n).elim ⟨o,n,k,hoL f ks⟩ (fun h => ⟨5,h.Name,0,hoL f ks ++ (qnB h).map varP⟩) else ⟨o,n,k,hoL f ks⟩
def hoL (f:Str→Option tHole):List tPred→List tPred
 | [] => []
 | p :: ps => hoP f p :: hoL f ps
end
theorem qEE (f:Str→Option tHole):∀ (l:List tPred),hoL f l = l.map (hoP f)
 | [] => by rw [hoL]; rfl
 | p :: l => by rw [hoL,qEE f l]; rfl
theorem qGS (f:Str→Option tHole) (p:tPred):hoP f p = if p.Op = 4∧p.Kids.length = 1 then (f p.Name).elim ⟨p.Op,p.Name,p.N,p.Kids.map (hoP f)⟩ (fun h => ⟨5,h.Name,0,p.Kids.map (hoP f) ++ (qnB h).map varP⟩) else ⟨p.Op,p.Name,p.N,p.Kids.map (hoP f)⟩:=by
 obtain ⟨o,n,k,ks⟩:=p
 rw [hoP,qEE]; rfl
theorem qDQ:∀ (l:List Str),nL (l.map varP) = l.length
 | [] => by simp [nL]
 | x :: l => by rw [List.map_cons,nL,qDQ l,qAF]; simp; omega
mutual
theorem qHb (f:Str→Option tHole) (K:Nat) (hf:∀ n h,f n = some h→h.Params.length ≤ K):∀ (p:tPred),nP (hoP f p) ≤ nP p * (K + 1)
 | ⟨o,n,k,ks⟩ => by
  have ih:=qIn f K hf ks
  have e:nP ⟨o,n,k,ks⟩ * (K + 1) = nL ks * (K + 1) + (K + 1):=by rw [nP,Nat.add_mul,Nat.one_mul]
  rw [hoP,e]
  split
  ·cases h:f n with
   | none => simp only [Option.elim]; rw [nP]; omega
   | some q =>
    simp only [Option.elim]
    have hq:=hf n q h
    rw [nP,qlS,qDQ]
    unfold qnB
    rw [List.length_map,List.length_drop]
    omega
  ·rw [nP]; omega
theorem qIn (f:Str→Option tHole) (K:Nat) (hf:∀ n h,f n = some h→h.Params.length ≤ K):∀ (l:List tPred),nL (hoL f l) ≤ nL l * (K + 1)
 | [] => by rw [hoL,nL]; omega
 | p :: l => by
  have:=qHb f K hf p
  have:=qIn f K hf l
  rw [hoL,nL,nL,Nat.add_mul]; omega
end
theorem qvP {abs:List tAbs} {holes:List tHole} {K:Nat} (h:∀ x ∈ holes,x.Params.length ≤ K):∀ n q,hoF abs holes n = some q→q.Params.length ≤ K:=fun n q hq => by
 unfold hoF at hq
 cases hf:abs.findIdx? (fun a => a.Name == n) with
 | none => rw [hf] at hq; cases hq
 | some j => rw [hf] at hq; exact h q (List.mem_of_getElem? hq)
theorem qDw (abs:List tAbs) (n:Str) (hl:abs.length < 9223372036854775808):qcR abs n = some ((abs.findIdx? (fun a => a.Name == n)).elim (-1) (fun j => (j:Int))):=by
 unfold qcR qff
 rw [qxa abs hl (fun zz => qeg abs n (abs.length:Int) zz) (fun i x => (qdR x n).bind fun r3 => if r3 = true then some (.inr (.inl i)) else some (.inl (w64 (i + 1)))) (fun a => a.Name == n) (fun i => rfl) (fun x _ i => by
  unfold qdR
  simp only [Option.bind_some]
  by_cases h:(x.Name == n) = true <;> simp [h])]
 cases abs.findIdx? (fun a => a.Name == n) <;> rfl
theorem qCl (abs:List tAbs) (n:Str) (hl:abs.length < 9223372036854775808):qkD abs n = some ((abs.findIdx? (fun a => a.Name == n)).elim (-1) (fun j => (j:Int))):=by
 unfold qkD qnN
 rw [qxa abs hl (fun zz => qlf n abs (abs.length:Int) zz) (fun i x => if (x.Name == n) = true then some (.inr (.inl i)) else some (.inl (w64 (i + 1)))) (fun a => a.Name == n) (fun i => rfl) (fun x _ i => by
  by_cases h:(x.Name == n) = true <;> simp [h])]
 cases abs.findIdx? (fun a => a.Name == n) <;> rfl
def qIi:tHole:=⟨[],[]⟩
theorem qtE (abs:List tAbs) (holes:List tHole) (n:Str) (hl:abs.length < 9223372036854775808):qcV abs holes n = some ((hoF abs holes n).elim (qIi,false) (fun h => (h,true))):=by
 have h:=qDw abs n hl
 unfold qcV hoF
 cases hf:abs.findIdx? (fun a => a.Name == n) with
 | none =>
  rw [hf] at h
  have h:qcR abs n = some (-1):=h
  rw [h]
  rfl
 | some j =>
  rw [hf] at h
  have h:qcR abs n = some (j:Int):=h
  rw [h]
  simp only [Option.bind_some]
  unfold qfq
  rw [if_neg (show ¬ (decide ((j:Int) < 0) = true) by simp)]
  simp only [Option.bind_some]
  by_cases hj:j < holes.length
  ·rw [if_neg (show ¬ (decide ((j:Int) ≥ (holes.length:Int)) = true) by simp; omega),qaS _ j hj,List.getElem?_eq_getElem hj]
   rfl
  ·rw [if_pos (show decide ((j:Int) ≥ (holes.length:Int)) = true by simp; omega),List.getElem?_eq_none (by omega)]
   rfl
theorem qCt (h:tHole):qeN h = some (h.Params.drop 1):=by
 unfold qeN
 by_cases h0:h.Params.length = 0
 ·rw [if_pos (by simp [h0]),List.eq_nil_of_length_eq_zero h0]
  rfl
 ·rw [if_neg (by simp; exact fun e => h0 (by rw [e]; rfl)),show (1:Int) = ((1:Nat):Int) from rfl,qCC _ 1 (by omega)]
  rfl
theorem qDs (n:Str) (x:tPred) (l:List tVar) (hl:l.length ≤ 1073741823):qgw n x l = some ⟨5,n,0,[x] ++ (l.map (·.Name)).map varP⟩:=by
 unfold qgw qik qfU
 rw [qdF l (by omega) (fun i s => (s,i)) _ (fun y => qho y) (fun y => varP y.Name) id (fun i s => rfl) (fun y _ => rfl)]
 simp only [Option.bind_some,id]
 rw [qcq (by simp; omega)]
 simp only [Option.bind_some]
 rw [List.map_map]
 rfl
theorem qCq (p:tPred) (abs:List tAbs) (holes:List tHole) (hp:nP p ≤ bigN) (ha:abs.length < 9223372036854775808) (hh:∀ h ∈ holes,h.Params.length ≤ 1073741823):qhS p abs holes = some (hoP (hoF abs holes) p):=by
 refine qfd (F:=qkG) (fun x => nP x.1) (fun x => nP x.1 ≤ bigN∧x.2 = (abs,holes)) (fun x => hoP (hoF x.2.1 x.2.2) x.1) (fun R x hx ih => ?_) (p,abs,holes) ⟨hp,rfl⟩ (qgV hp)
 obtain ⟨p,a',h'⟩:=x
 obtain ⟨hx,he⟩:=hx
 cases he
 have hx:nP p ≤ bigN:=hx
 show qhC (fun p d a => R (p,d,a)) p abs holes = some (hoP (hoF abs holes) p)
 unfold qhC qit qfS qjm
 have hlen:=qjP p
 rw [qdF p.Kids (by unfold bigN at hx; omega) (fun i s => (s,i)) _ (fun y => qkv (fun p d a => R (p,d,a)) y abs holes) (hoP (hoF abs holes)) id (fun i s => rfl) (fun y hy => by
  have he:=ih (y,abs,holes) (qkn hy) ⟨by have:=qkn hy; show nP y ≤ bigN; omega,rfl⟩
  show (R (y,abs,holes)).bind (fun r1 => some r1) = _
  rw [he]
  rfl)]
 simp only [Option.bind_some,id]
 rw [qGS]
 by_cases h1:p.Op = 4
 ·rw [if_neg (by simpa using h1)]
  simp only [Option.bind_some]
  by_cases h2:p.Kids.length = 1
  ·rw [if_neg (by simp [h2]),if_pos ⟨h1,h2⟩,qtE abs holes _ ha]
   simp only [Option.bind_some]
   cases hf:hoF abs holes p.Name with
   | none => rfl
   | some h =>
    simp only [Option.elim,Bool.not_true,Bool.false_eq_true,if_false]
    have hhl:=qvP hh _ _ hf
    obtain ⟨x,hk⟩:∃ x,p.Kids = [x]:=by
     match p.Kids,h2 with
     | [x],_ => exact ⟨x,rfl⟩
    rw [hk]
    simp only [List.map_cons,List.map_nil]
    rw [show idx [hoP (hoF abs holes) x] 0 = some (hoP (hoF abs holes) x) from rfl]
    simp only [Option.bind_some]
    rw [qCt]
    simp only [Option.bind_some]
    rw [qDs _ _ _ (by rw [List.length_drop]; omega)]
    rfl
  ·rw [if_pos (by simp; omega),if_neg (fun h => h2 h.2)]
 ·rw [if_pos (by simpa using h1),if_neg (fun h => h1 h.1)]
  simp only [Option.bind_some,if_true]
theorem qGs (R:qcT) (holes:List tHole) (j:Nat) (hj:j < holes.length) (ks:List tPred) (hl:ks.length + holes[j].Params.length ≤ 1073741824):qmx R holes (j:Int) 1 ks = some (ks ++ (qnB holes[j]).map varP):=by
 unfold qmx
 have key:∀ (r:List tVar) (k:Nat) (out:List tPred),k + r.length = holes[j].Params.length→holes[j].Params.drop k = r→out.length + r.length ≤ 1073741824→loop (fun (zz:Int×(List tPred)) => qcB R holes (j:Int) zz.1 zz.2) ((k:Int),out) = some (out ++ (r.map (·.Name)).map varP):=by
  intro r
  induction r with
  | nil =>
   intro k out hk _ _
   refine (qez (x:=out) ?_).trans (by simp)
   show qcB R holes (j:Int) (k:Int) out = _
   unfold qcB
   rw [qaS _ j hj]
   simp only [Option.bind_some]
   rw [if_neg (by simp at hk ⊢; omega)]
  | cons x r ih =>
   intro k out hk hd ho
   simp only [List.length_cons] at hk ho
   have hkl:k < holes[j].Params.length:=by omega
   have hx:holes[j].Params[k] = x:=by
    rw [List.drop_eq_getElem_cons hkl] at hd
    exact (List.cons.inj hd).1
   have hr:holes[j].Params.drop (k + 1) = r:=by
    rw [List.drop_eq_getElem_cons hkl] at hd
    exact (List.cons.inj hd).2
   refine (qhl (body:=fun (zz:Int×(List tPred)) => qcB R holes (j:Int) zz.1 zz.2) (s:=((k:Int),out)) (s':=(((k + 1:Nat):Int),out ++ [varP x.Name])) ?_).trans ?_
   ·show qcB R holes (j:Int) (k:Int) out = _
    unfold qcB
    rw [qaS _ j hj]
    simp only [Option.bind_some]
    rw [if_pos (by simp; omega),qaS _ k hkl,hx]
    simp only [Option.bind_some]
    rw [qcq (by simp; omega)]
    simp only [Option.bind_some]
    rw [qeY (by omega) (by omega)]
    rfl
   ·rw [ih (k + 1) (out ++ [varP x.Name]) (by omega) hr (by simp; omega)]
    simp
 by_cases h0:holes[j].Params.length = 0
 ·have he:qnB holes[j] = []:=by unfold qnB; rw [List.eq_nil_of_length_eq_zero h0]; rfl
  rw [he]
  refine (qez (x:=ks) ?_).trans (by simp)
  show qcB R holes (j:Int) 1 ks = _
  unfold qcB
  rw [qaS _ j hj]
  simp only [Option.bind_some]
  rw [if_neg (by simp [h0])]
 ·have:=key (holes[j].Params.drop 1) 1 ks (by rw [List.length_drop]; omega) rfl (by rw [List.length_drop]; omega)
  exact this
theorem qyY (p:tPred) (abs:List tAbs) (holes:List tHole) (hp:nP p ≤ 500000000) (ha:abs.length < 9223372036854775808) (hh:∀ h ∈ holes,h.Params.length ≤ 500000000):qmf p abs holes = some (hoP (hoF abs holes) p):=by
 refine qfd (F:=qsK) (fun x => nP x.1) (fun x => nP x.1 ≤ 500000000∧x.2 = (abs,holes)) (fun x => hoP (hoF x.2.1 x.2.2) x.1) (fun R x hx ih => ?_) (p,abs,holes) ⟨hp,rfl⟩ (qgV (by unfold bigN; show nP p ≤ _; omega))
 obtain ⟨p,a',h'⟩:=x
 obtain ⟨hx,he⟩:=hx
 cases he
 have hx:nP p ≤ 500000000:=hx
 show qo0 (fun p d a => R (p,d,a)) p abs holes = some (hoP (hoF abs holes) p)
 unfold qo0 qqL qqx
 have hlen:=qjP p
 rw [qdF p.Kids (by omega) (fun i s => (i,s)) _ (fun y => R (y,abs,holes)) (hoP (hoF abs holes)) id (fun i s => rfl) (fun y hy => ih (y,abs,holes) (qkn hy) ⟨by have:=qkn hy; show nP y ≤ 500000000; omega,rfl⟩)]
 simp only [Option.bind_some,id]
 have hpl:=qCl abs p.Name ha
 rw [qGS]
 by_cases h1:p.Op = 4
 ·by_cases h2:p.Kids.length = 1
  ·rw [if_pos ⟨h1,h2⟩]
   have e1:¬ ((p.Op != 4) = true):=by simpa using h1
   have e2:¬ (((p.Kids.length:Int) != 1) = true):=by simp [h2]
   cases hf:abs.findIdx? (fun a => a.Name == p.Name) with
   | none =>
    have hn:hoF abs holes p.Name = none:=by unfold hoF; rw [hf]; rfl
    rw [hf] at hpl
    have hpl:qkD abs p.Name = some (-1):=hpl
    rw [hpl,hn]
    simp only [Option.bind_some]
    rw [if_neg e1,if_neg e2]
    rfl
   | some j =>
    have hn:hoF abs holes p.Name = holes[j]?:=by unfold hoF; rw [hf]; rfl
    rw [hf] at hpl
    have hpl:qkD abs p.Name = some (j:Int):=hpl
    rw [hpl,hn]
    simp only [Option.bind_some]
    rw [if_neg e1,if_neg e2,if_neg (show ¬ (decide ((j:Int) < 0) = true) by simp)]
    simp only [Option.bind_some]
    by_cases hj:j < holes.length
    ·rw [if_neg (show ¬ (decide ((j:Int) ≥ (holes.length:Int)) = true) by simp; omega),qaS _ j hj,List.getElem?_eq_getElem hj]
     simp only [Option.bind_some]
     have:=hh _ (List.getElem_mem hj)
     rw [qGs _ holes j hj _ (by rw [List.length_map]; omega)]
     rfl
    ·rw [if_pos (show decide ((j:Int) ≥ (holes.length:Int)) = true by simp; omega),List.getElem?_eq_none (by omega)]
     rfl
  ·rw [if_neg (fun h => h2 h.2),hpl]
   simp only [Option.bind_some]
   rw [if_neg (show ¬ ((p.Op != 4) = true) by simpa using h1),if_pos (show ((p.Kids.length:Int) != 1) = true by simp; omega)]
   rfl
 ·rw [if_neg (fun h => h1 h.1),hpl]
  simp only [Option.bind_some]
  rw [if_pos (show (p.Op != 4) = true by simpa using h1)]
  rfl
def scV (abs:List tAbs) (holes:List tHole):List Str:=abs.flatMap fun a => (hoF abs holes a.Name).elim [] qnB
theorem qDZ (l:List tVar) (out:List Str) (h:out.length + l.length ≤ 1073741824):qeu l (l.length:Int) out 0 = some (out ++ l.map (·.Name)):=by
 unfold qeu
 rw [qea l (by omega) (fun i s => (s,i)) _ (fun i s x => (app s ([x.Name]:List Str)).bind fun l8 => some (.inl (l8,w64 (i + 1)))) (fun i s => s.length = out.length + i) (fun x s => s ++ [x.Name]) id out (by simp) (fun i s => rfl) (fun i hi s hs => ?_)]
 ·rw [show (fun (s:List Str) (x:tVar) => s ++ [x.Name]) = fun s x => s ++ (fun x:tVar => [x.Name]) x from rfl,qry]
  simp only [id]
  congr 2
  induction l with
  | nil => rfl
  | cons x l ih => rw [List.flatMap_cons,List.map_cons,ih (by simp at h; omega)]; rfl
 ·refine ⟨?_,by simp; omega⟩
  rw [qcq (by simp; omega)]
  rfl
theorem qCO (abs:List tAbs) (holes:List tHole) (ha:abs.length ≤ 1000) (hh:∀ h ∈ holes,h.Params.length ≤ 1000):qgz abs holes (abs.length:Int) [] 0 = some (scV abs holes)∧(scV abs holes).length ≤ 1000000:=by
 have hlen:∀ n,((hoF abs holes n).elim [] qnB).length ≤ 1000:=fun n => by
  cases hf:hoF abs holes n with
  | none => simp
  | some h =>
   have:=qvP hh _ _ hf
   simp only [Option.elim]
   unfold qnB
   rw [List.length_map,List.length_drop]; omega
 constructor
 ·unfold qgz
  rw [qea abs (by omega) (fun i s => (s,i)) _ (fun i s x => (qcV abs holes x.Name).bind fun r3 => if (!r3.2) = true then some (.inl (s,w64 (i + 1))) else (qeN r3.1).bind fun r5 => (qeu r5 (r5.length:Int) s 0).bind fun o9 => some (.inl (o9,w64 (i + 1)))) (fun i s => s.length ≤ 1000 * i) (fun x s => s ++ (hoF abs holes x.Name).elim [] qnB) id [] (by simp) (fun i s => rfl) (fun i hi s hs => ?_),qry]
  ·rfl
  ·have hl:=hlen abs[i].Name
   refine ⟨?_,by rw [List.length_append]; omega⟩
   rw [qtE abs holes _ (by omega)]
   simp only [Option.bind_some]
   cases hf:hoF abs holes abs[i].Name with
   | none => simp
   | some h =>
    simp only [Option.elim,Bool.not_true,Bool.false_eq_true,if_false]
    have:=qvP hh _ _ hf
    rw [qCt]
    simp only [Option.bind_some]
    rw [qDZ _ _ (by rw [List.length_drop]; omega)]
    rfl
 ·unfold scV
  have key:∀ (l:List tAbs),(l.flatMap fun a => (hoF abs holes a.Name).elim [] qnB).length ≤ 1000 * l.length:=by
   intro l
   induction l with
   | nil => simp
   | cons a l ih =>
    have:=hlen a.Name
    rw [List.flatMap_cons,List.length_append,List.length_cons]; omega
  have:=key abs
  omega
theorem qIQ (o:Int) (ns:List Str) (i:Nat) (s:S3):(chS o ns i s).2.2.length = s.2.2.length:=by
 unfold chS
 split
 ·split
  ·simp only [List.length_set]
  ·rfl
 ·rfl
mutual
theorem qE1:∀ (t:tType) (c:Sb),lenT (chT t c) = lenT t
 | ⟨o,n,xs,ns,p,ps⟩,c => by
  obtain ⟨h1,h2⟩:=qE0 o ns xs 0 (((kB c).flatMap qdo ++ freeT ⟨o,n,xs,ns,p,ps⟩) ++ ns,c,ns)
  rw [chT,lenT,lenT,h1,h2,List.length_map]
theorem qE0 (o:Int) (ns:List Str):∀ (xs:List tType) (i:Nat) (s:S3),qdu (chL o ns i xs s).1 = qdu xs∧(chL o ns i xs s).2.length = s.2.2.length
 | [],i,s => by rw [chL]; exact ⟨rfl,rfl⟩
 | a :: xs,i,s => by
  have h1:=qE1 a s.2.1
  obtain ⟨h2,h3⟩:=qE0 o ns xs (i + 1) (chS o ns i s)
  rw [chL]
  refine ⟨?_,?_⟩
  ·show qdu (chT a s.2.1 :: (chL o ns (i + 1) xs (chS o ns i s)).1) = _
   rw [qdu,qdu,h1,h2]
  ·show (chL o ns (i + 1) xs (chS o ns i s)).2.length = _
   rw [h3,qIQ]
end
def thin (c:Sb):Prop := ∀ e ∈ c,nP e.2 = 1
theorem qAl {c:Sb} (h:thin c) (x:Str):thin (qbZ x c):=fun e he => h e (List.mem_filter.1 he).1
theorem qFf {c:Sb} (h:thin c) (x y:Str):thin (c ++ [(x,varP y)]):=fun e he => by
 rcases List.mem_append.1 he with he | he
 ·exact h e he
 ·rw [List.mem_singleton.1 he]; exact qAF y
theorem qGt (o:Int) (ns:List Str) (i:Nat) (s:S3) (h:thin s.2.1):thin (chS o ns i s).2.1:=by
 unfold chS
 split
 ·split
  ·exact qFf (qAl h _) _ _
  ·exact qAl h _
 ·exact h
theorem qAc {c:Sb} (h:thin c) {n:Str} {q:tPred} (hq:look (kN c) (kB c) n = some q):nP q = 1:=by
 have:=qFM hq
 obtain ⟨e,he,rfl⟩:=List.mem_map.1 this
 exact h e he
mutual
theorem qB5 (f:Str→Option tPred) (hf:∀ n q,f n = some q→nP q = 1):∀ (p:tPred),(∀ q,nP q = 1→True)→nP (sbP f p) ≤ nP p
 | ⟨o,n,k,ks⟩,hh => by
  have:=qxV f hf ks
  rw [sbP]
  cases h:(if o = 3 then f n else none) with
  | none => simp only [Option.getD_none]; rw [nP,nP]; omega
  | some q =>
   simp only [Option.getD_some]
   have h2:f n = some q:=by
    split at h
    ·exact h
    ·cases h
   rw [hf n q h2,nP]; omega
theorem qxV (f:Str→Option tPred) (hf:∀ n q,f n = some q→nP q = 1):∀ (l:List tPred),nL (sbL f l) ≤ nL l
 | [] => by rw [sbL]; omega
 | p :: l => by
  have:=qB5 f hf p (fun _ _ => trivial)
  have:=qxV f hf l
  rw [sbL,nL,nL]; omega
end
mutual
theorem qIr:∀ (t:tType) (c:Sb),thin c→wT (chT t c) ≤ wT t
 | ⟨o,n,xs,ns,p,ps⟩,c,h => by
  have h1:=qIc o ns xs 0 (((kB c).flatMap qdo ++ freeT ⟨o,n,xs,ns,p,ps⟩) ++ ns,c,ns) h
  have h2:=qB5 (look (kN c) (kB c)) (fun _ _ hq => qAc h hq) p (fun _ _ => trivial)
  have h3:=qxV (look (kN c) (kB c)) (fun _ _ hq => qAc h hq) ps
  rw [qAT] at h3
  rw [chT,wT,wT]
  omega
theorem qIc (o:Int) (ns:List Str):∀ (xs:List tType) (i:Nat) (s:S3),thin s.2.1→wTL (chL o ns i xs s).1 ≤ wTL xs
 | [],i,s,_ => by rw [chL]; exact Nat.le_refl _
 | a :: xs,i,s,h => by
  have h1:=qIr a s.2.1 h
  have h2:=qIc o ns xs (i + 1) (chS o ns i s) (qGt o ns i s h)
  rw [chL]
  show wTL (chT a s.2.1 :: (chL o ns (i + 1) xs (chS o ns i s)).1) ≤ _
  rw [wTL,wTL]; omega
end
theorem qD8 {L:Nat} (o:Int) (ns:List Str) (i:Nat) (s:S3) (h:∀ x ∈ ns,x.length ≤ L) (hw:∀ x ∈ s.2.2,x.length ≤ L + 10):∀ x ∈ (chS o ns i s).2.2,x.length ≤ L + 10:=by
 unfold chS
 split
 ·rename_i hc
  split
  ·intro x hx
   rcases List.mem_or_eq_of_mem_set hx with hx | hx
   ·exact hw x hx
   ·have h1:=qw9 s.1 (ns.getD i [])
    have h2:(ns.getD i []).length ≤ L:=by rw [qmM _ i hc.2]; exact h _ (List.getElem_mem hc.2)
    rw [hx]; omega
  ·exact hw
 ·exact hw
mutual
theorem qDH (L:Nat):∀ (t:tType) (c:Sb),allN L t→allN (L + 10) (chT t c)
 | ⟨o,n,xs,ns,p,ps⟩,c,h => by
  rw [allN] at h
  obtain ⟨h1,h2⟩:=qCE L o ns h.1 xs 0 (((kB c).flatMap qdo ++ freeT ⟨o,n,xs,ns,p,ps⟩) ++ ns,c,ns) (fun x hx => Nat.le_trans (h.1 x hx) (by omega)) h.2
  rw [chT,allN]
  exact ⟨h2,h1⟩
theorem qCE (L:Nat) (o:Int) (ns:List Str) (hn:∀ x ∈ ns,x.length ≤ L):∀ (xs:List tType) (i:Nat) (s:S3),(∀ x ∈ s.2.2,x.length ≤ L + 10)→qhX L xs→qhX (L + 10) (chL o ns i xs s).1∧∀ x ∈ (chL o ns i xs s).2,x.length ≤ L + 10
 | [],i,s,hw,_ => by rw [chL]; exact ⟨trivial,hw⟩
 | a :: xs,i,s,hw,h => by
  rw [qhX] at h
  have h1:=qDH L a s.2.1 h.1
  obtain ⟨h2,h3⟩:=qCE L o ns hn xs (i + 1) (chS o ns i s) (qD8 o ns i s hn hw) h.2
  rw [chL]
  refine ⟨?_,h3⟩
  show qhX (L + 10) (chT a s.2.1 :: (chL o ns (i + 1) xs (chS o ns i s)).1)
  rw [qhX]
  exact ⟨h1,h2⟩
end
theorem qFo (x y:Str):thin (sub1 x (varP y)):=by
 unfold sub1
 split
 ·intro e he; cases he
 ·intro e he
  rw [List.mem_singleton.1 he]; exact qAF y
def bh (old:List Str) (o:Str) (c:Sb):Nat→List tType→List tType
 | _,[] => []
 | k,a :: r => chT a c :: (if old[k]? = some o then r else bh old o c (k + 1) r)
theorem qGK (old:List Str) (o:Str) (c:Sb):∀ (k:Nat) (l:List tType),(bh old o c k l).length = l.length∧qdu (bh old o c k l) = qdu l
 | k,[] => by rw [bh]; exact ⟨rfl,rfl⟩
 | k,a :: r => by
  have ih:=qGK old o c (k + 1) r
  rw [bh,qdu,qdu,qE1]
  split
  ·exact ⟨by simp,rfl⟩
  ·exact ⟨by simp [ih.1],by rw [ih.2]⟩
theorem bh_w (old:List Str) (o:Str) (c:Sb) (h:thin c):∀ (k:Nat) (l:List tType),wTL (bh old o c k l) ≤ wTL l
 | k,[] => by rw [bh]; exact Nat.le_refl _
 | k,a :: r => by
  have ih:=bh_w old o c h (k + 1) r
  have h1:=qIr a c h
  rw [bh,wTL,wTL]
  split <;> omega
theorem bh_n (old:List Str) (o:Str) (c:Sb) (L:Nat):∀ (k:Nat) (l:List tType),qhX L l→qhX (L + 10) (bh old o c k l)
 | k,[],_ => by rw [bh]; trivial
 | k,a :: r,h => by
  rw [qhX] at h
  have ih:=bh_n old o c L (k + 1) r h.2
  have h1:=qDH L a c h.1
  rw [bh,qhX]
  refine ⟨h1,?_⟩
  split
  ·exact qiy (by omega) r h.2
  ·exact ih
def qjz (old:List Str) (i:Nat) (y:Str) (l:List tType):List tType:=l.take (i + 1) ++ bh old (old.getD i []) (sub1 (old.getD i []) (varP y)) (i + 1) (l.drop (i + 1))
theorem qv5:∀ (a b:List tType),qdu (a ++ b) = qdu a + qdu b
 | [],b => by simp [qdu]
 | x :: a,b => by rw [List.cons_append,qdu,qdu,qv5 a b]; omega
theorem qBF:∀ (a b:List tType),wTL (a ++ b) = wTL a + wTL b
 | [],b => by simp [wTL]
 | x :: a,b => by rw [List.cons_append,wTL,wTL,qBF a b]; omega
theorem qy7 {L:Nat} {a b:List tType}:qhX L (a ++ b)↔qhX L a∧qhX L b:=by
 rw [qks,qks,qks]
 simp only [List.mem_append]
 constructor
 ·intro h; exact ⟨fun t ht => h t (.inl ht),fun t ht => h t (.inr ht)⟩
 ·rintro ⟨h1,h2⟩ t (ht | ht)
  ·exact h1 t ht
  ·exact h2 t ht
theorem qrx (old:List Str) (i:Nat) (y:Str) (l:List tType):(qjz old i y l).length = l.length∧qdu (qjz old i y l) = qdu l∧wTL (qjz old i y l) ≤ wTL l∧∀ L,qhX L l→qhX (L + 10) (qjz old i y l):=by
 obtain ⟨h1,h2⟩:=qGK old (old.getD i []) (sub1 (old.getD i []) (varP y)) (i + 1) (l.drop (i + 1))
 have h3:=bh_w old (old.getD i []) (sub1 (old.getD i []) (varP y)) (qFo _ _) (i + 1) (l.drop (i + 1))
 have e1:=congrArg qdu (List.take_append_drop (i + 1) l)
 have e2:=congrArg wTL (List.take_append_drop (i + 1) l)
 have e3:=congrArg List.length (List.take_append_drop (i + 1) l)
 rw [qv5] at e1
 rw [qBF] at e2
 rw [List.length_append] at e3
 unfold qjz
 refine ⟨by rw [List.length_append,h1]; exact e3,by rw [qv5,h2]; exact e1,by rw [qBF]; omega,fun L hL => ?_⟩
 rw [← List.take_append_drop (i + 1) l,qy7] at hL
 rw [qy7]
 exact ⟨qiy (by omega) _ hL.1,bh_n _ _ _ L _ _ hL.2⟩
theorem qq2 (body:Int×List tType→Option ((Int×List tType)⊕List tType)) (old:List Str) (o:Str) (c:Sb) (n:Nat) (hn:n < 4611686018427387904) :
  ∀ (r done:List tType) (k:Nat),done.length = k→k + r.length = n →
   (∀ (j:Nat) (h:j < r.length) (w:List tType),w.length = n→w[k + j]? = r[j]?→body (((k + j:Nat):Int),w) = some (if old[k + j]? = some o then .inr (w.set (k + j) (chT r[j] c)) else .inl (((k + j + 1:Nat):Int),w.set (k + j) (chT r[j] c)))) →
   (∀ w,body ((n:Int),w) = some (.inr w))→loop body ((k:Int),done ++ r) = some (done ++ bh old o c k r)
 | [],done,k,hd,hk,_,he => by
  have:k = n:=by simpa using hk
  subst this
  rw [bh]
  exact qez (he _)
 | a :: r,done,k,hd,hk,hb,he => by
  simp only [List.length_cons] at hk
  have h0:=hb 0 (by simp) (done ++ a :: r) (by simp; omega) (by simp [← hd])
  simp only [Nat.add_zero] at h0
  have hset:(done ++ a :: r).set k (chT a c) = (done ++ [chT a c]) ++ r:=by
   rw [List.set_append_right _ _ (by omega),hd,Nat.sub_self]
   simp
  rw [bh]
  by_cases hc:old[k]? = some o
  ·rw [if_pos hc]
   rw [if_pos hc] at h0
   have h0:body ((k:Int),done ++ a :: r) = some (.inr ((done ++ a :: r).set k (chT a c))):=h0
   rw [qez h0,hset]
   simp
  ·rw [if_neg hc]
   rw [if_neg hc] at h0
   have h0:body ((k:Int),done ++ a :: r) = some (.inl (((k + 1:Nat):Int),(done ++ a :: r).set k (chT a c))):=h0
   rw [qhl h0,hset]
   have ih:=qq2 body old o c n hn r (done ++ [chT a c]) (k + 1) (by simp [hd]) (by omega) (fun j hj w hw hg => ?_) he
   ·rw [ih]; simp
   ·have:=hb (j + 1) (by simp; omega) w hw (by
     rw [show k + (j + 1) = k + 1 + j by omega,hg]
     simp)
    rw [show k + (j + 1) = k + 1 + j by omega] at this
    exact this
end Go.Proofs.YtgldgpdhblndkaaGreatDoor
