/-
  WHAT IS PROVED: parts of the proof, put together by a program out of smaller texts, their own names made short (Pal; Pt3; Pt4). Conditions: none.
-/
import Derived.Test.YtgldgpdhblndkaaGreatDoorPkD46
import Derived.Test.YtgldgpdhblndkaaGreatDoorPkD45
namespace Go.Proofs.YtgldgpdhblndkaaGreatDoor
open Go
set_option linter.unusedVariables false
set_option linter.unusedSimpArgs false
mutual
def putP (s:Str→Option tPred):tPred→tPred
  | ⟨o,n,k,ks⟩ => if o = 4∧ks.length = 1 then ((s n).map (fun q => sbP (qt3 [118] ((putL s ks).headD qmV)) q)).getD ⟨o,n,k,putL s ks⟩ else ⟨o,n,k,putL s ks⟩
def putL (s:Str→Option tPred):List tPred→List tPred
  | [] => []
  | p :: ps => putP s p :: putL s ps
end
theorem qxy (s:Str→Option tPred):∀ (l:List tPred),putL s l = l.map (putP s)
  | [] => by rw [putL]; rfl
  | p :: l => by rw [putL,qxy s l]; rfl
theorem qAv (s:Str→Option tPred) (p:tPred):putP s p = if p.Op = 4∧p.Kids.length = 1 then ((s p.Name).map (fun q => sbP (qt3 [118] ((p.Kids.map (putP s)).headD qmV)) q)).getD ⟨p.Op,p.Name,p.N,p.Kids.map (putP s)⟩ else ⟨p.Op,p.Name,p.N,p.Kids.map (putP s)⟩:=by
  obtain ⟨o,n,k,ks⟩:=p
  rw [putP,qxy]; rfl
mutual
theorem qzd (s:Str→Option tPred) (M:Nat) (hM:1 ≤ M) (hs:∀ n q,s n = some q→nP q ≤ M):∀ (p:tPred),nP (putP s p) ≤ nP p * M ^ dP p
  | ⟨o,n,k,ks⟩ => by
    have h:=qBx s M hM hs ks
    have hp1:1 ≤ M ^ dL ks:=Nat.one_le_pow _ _ hM
    have hp2:M ^ (dL ks + 1) = M ^ dL ks * M:=Nat.pow_succ ..
    have hp3:M ^ dL ks ≤ M ^ dL ks * M:=Nat.le_mul_of_pos_right _ hM
    have plain:nP ⟨o,n,k,putL s ks⟩ ≤ nP ⟨o,n,k,ks⟩ * M ^ dP ⟨o,n,k,ks⟩:=by
      rw [nP,nP,dP,hp2,Nat.add_mul,Nat.one_mul]
      have:nL ks * M ^ dL ks ≤ nL ks * (M ^ dL ks * M):=Nat.mul_le_mul_left _ hp3
      omega
    rw [putP]
    split
    · rename_i hc
      cases hsn:s n with
      | none => exact plain
      | some q =>
        simp only [Option.map_some,Option.getD_some]
        have hq:=hs n q hsn
        have hk:nP ((putL s ks).headD qmV) ≤ nL ks * M ^ dL ks:=by
          match ks,hc.2,h with
          | [x],_,h =>
            rw [putL,putL]
            simp only [putL,nL] at h
            simp only [List.headD_cons]
            simp only [nL]
            omega
        have hz:=qCV (qt3 [118] ((putL s ks).headD qmV)) (nP ((putL s ks).headD qmV)) (qBu _) (fun n q h => qB5 h) q
        have h1:nP q * nP ((putL s ks).headD qmV) ≤ M * (nL ks * M ^ dL ks):=Nat.mul_le_mul hq hk
        have h2:M * (nL ks * M ^ dL ks) = nL ks * (M ^ dL ks * M):=by rw [Nat.mul_comm M,Nat.mul_assoc]
        rw [nP,dP,hp2,Nat.add_mul,Nat.one_mul]
        omega
    · exact plain
theorem qBx (s:Str→Option tPred) (M:Nat) (hM:1 ≤ M) (hs:∀ n q,s n = some q→nP q ≤ M):∀ (l:List tPred),nL (putL s l) ≤ nL l * M ^ dL l
  | [] => by rw [putL,nL]; omega
  | p :: l => by
    have h1:=qzd s M hM hs p
    have h2:=qBx s M hM hs l
    rw [putL,nL,nL,dL,Nat.add_mul]
    have g1:nP p * M ^ dP p ≤ nP p * M ^ max (dP p) (dL l):=Nat.mul_le_mul_left _ (Nat.pow_le_pow_right hM (by omega))
    have g2:nL l * M ^ dL l ≤ nL l * M ^ max (dP p) (dL l):=Nat.mul_le_mul_left _ (Nat.pow_le_pow_right hM (by omega))
    omega
end
def solP (ps:List tVar) (l:List tPred) (n:Str):Option tPred:=(ps.findIdx? (fun x => x.Name == n)).map fun j => (l[j]?).elim qnD (fun q => if q = qmV then qnD else q)
theorem qBy {ps:List tVar} {l:List tPred} {n:Str} {q:tPred} {M:Nat} (hM:1 ≤ M) (hl:∀ q ∈ l,nP q ≤ M) (h:solP ps l n = some q):nP q ≤ M:=by
  unfold solP at h
  cases hf:ps.findIdx? (fun x => x.Name == n) with
  | none => rw [hf] at h; cases h
  | some j =>
    rw [hf] at h
    simp only [Option.map_some] at h
    cases h
    have ht:nP qnD ≤ M:=by simp [qnD,nP,nL]; omega
    cases hj:l[j]? with
    | none => exact ht
    | some q =>
      simp only [Option.elim]
      split
      · exact ht
      · exact hl q (List.mem_of_getElem? hj)
theorem qDf {p x:tPred} (h:x ∈ p.Kids):dP x < dP p:=by
  have key:∀ {l:List tPred},x ∈ l→dP x ≤ dL l:=by
    intro l
    induction l with
    | nil => intro h; cases h
    | cons y l ih =>
      intro h
      rw [dL]
      rcases List.mem_cons.1 h with rfl | h
      · omega
      · have:=ih h; omega
  rw [qCA p]; have:=key h; omega
theorem qwT {M:Nat} (hM:1 ≤ M) {p x:tPred} (h:x ∈ p.Kids):nP x * M ^ dP x ≤ nP p * M ^ dP p :=
  Nat.mul_le_mul (Nat.le_of_lt (qjt h)) (Nat.pow_le_pow_right hM (Nat.le_of_lt (qDf h)))
theorem qyi {M:Nat} (hM:1 ≤ M) (p:tPred):nP p ≤ nP p * M ^ dP p:=Nat.le_mul_of_pos_right _ (Nat.one_le_pow _ _ hM)
theorem qv6 (p:tPred) (d:tData) (l:List tPred) (M:Nat) (hM:1 ≤ M) (hl:∀ q ∈ l,nP q ≤ M) (hb:M ≤ bigN) (hp:nP p * M ^ dP p ≤ bigN) (hd:d.Preds.length < 9223372036854775808):qhz p d l = some (putP (solP d.Preds l) p):=by
  refine qiZ (F:=qjF) (fun x => nP x.1) (fun x => nP x.1 * M ^ dP x.1 ≤ bigN∧x.2 = (d,l)) (fun x => putP (solP x.2.1.Preds x.2.2) x.1) (fun R x hx ih => ?_) (p,d,l) ⟨hp,rfl⟩ (qjH (Nat.le_trans (qyi hM p) hp))
  obtain ⟨p,d',l'⟩:=x
  obtain ⟨hx,he⟩:=hx
  cases he
  have hx:nP p * M ^ dP p ≤ bigN:=hx
  have hx':=Nat.le_trans (qyi hM p) hx
  show qg4 (fun p d a => R (p,d,a)) p d l = some (putP (solP d.Preds l) p)
  unfold qg4 qiL qiU
  have hlen:=qji p
  rw [qfQ p.Kids (by unfold bigN at hx'; omega) (fun i s => (i,s)) _ (fun y => R (y,d,l)) (putP (solP d.Preds l)) id (fun i s => rfl) (fun y hy => ih (y,d,l) (qjt hy) ⟨Nat.le_trans (qwT hM hy) hx,rfl⟩)]
  simp only [Option.bind_some,id]
  rw [qAv]
  by_cases h1:p.Op = 4
  · rw [if_neg (by simpa using h1)]
    simp only [Option.bind_some]
    by_cases h2:p.Kids.length = 1
    · rw [if_neg (by simp [h2]),if_pos ⟨h1,h2⟩]
      obtain ⟨x,hk⟩:∃ x,p.Kids = [x]:=by
        match p.Kids,h2 with
        | [x],_ => exact ⟨x,rfl⟩
      unfold qiT
      rw [hk]
      simp only [List.map_cons,List.map_nil,List.headD_cons]
      rw [qob d.Preds hd (fun i => (i,0,[],0,[])) (fun (zz:Int×Int×Str×Int×(List tPred)) => qdI (fun p d a => R (p,d,a)) l p d.Preds (d.Preds.length:Int) [putP (solP d.Preds l) x] zz.1 zz.2.1 zz.2.2.1 zz.2.2.2.1 zz.2.2.2.2) (fun x => x.Name == p.Name) (fun j => .inl ((fun q:tPred => (q.Op,q.Name,q.N,q.Kids)) (sbP (qt3 [118] (putP (solP d.Preds l) x)) ((l[j]?).elim qnD (fun q => if q = qmV then qnD else q))))) (.inr (0,[],0,[])) (fun i hi => ?_) ?_]
      · unfold solP
        cases hf:d.Preds.findIdx? (fun x => x.Name == p.Name) with
        | none => rfl
        | some j => simp only [Option.elim,Option.bind_some,Option.map_some,Option.getD_some,qm0]
      · unfold qdI
        rw [if_neg (by simp)]
      · unfold qdI qiN
        rw [if_pos (by simp; omega),qcO _ i hi]
        simp only [Option.bind_some]
        by_cases hn:d.Preds[i].Name = p.Name
        · have hn':(d.Preds[i].Name == p.Name) = true:=by simpa using hn
          simp only [hn',Bool.not_true,Bool.false_eq_true,if_false,if_true]
          by_cases hj:i < l.length
          · rw [if_neg (by simp; omega),qcO l i hj,List.getElem?_eq_getElem hj]
            simp only [Option.bind_some,quZ,Option.elim]
            have hq:=Nat.le_trans (hl _ (List.getElem_mem hj)) hb
            generalize l[i] = q at hq
            by_cases hv:qwI q = true
            · have hc:qn8 = some qnD:=rfl
              simp only [hv,if_true,hc,Option.bind_some]
              have:(if q = qmV then qnD else q) = qnD:=by
                unfold qwI at hv
                rw [Bool.or_eq_true] at hv
                rcases hv with hv | hv
                · rw [if_pos (of_decide_eq_true hv)]
                · rw [of_decide_eq_true hv]; rfl
              rw [this,qu0]
            · have hz:q ≠ qmV:=fun e => hv (by rw [e]; rfl)
              simp only [hv,if_false,Bool.false_eq_true,hz]
              rw [show idx [putP (solP d.Preds l) x] 0 = some (putP (solP d.Preds l) x) from rfl]
              simp only [Option.bind_some]
              rw [qzV q [118] _ hq]
              rfl
          · rw [if_pos (by simp; omega),List.getElem?_eq_none (by omega)]
            have hc:qn8 = some qnD:=rfl
            simp only [Option.bind_some,if_true,hc,Option.elim,qu0]
        · have hn':(d.Preds[i].Name == p.Name) = false:=by simpa using hn
          simp only [hn',Bool.not_false,if_true,if_false,Bool.false_eq_true]
    · rw [if_pos (by simp; omega),if_neg (fun h => h2 h.2)]
  · rw [if_pos (by simpa using h1),if_neg (fun h => h1 h.1)]
    simp only [Option.bind_some,if_true]
theorem qxj (ps:List tVar) (p:tPred) (hl:ps.length < 9223372036854775808):qf5 ps p = some ((ps.findIdx? (fun x => x.Name == p.Name)).elim (-1) (fun j => (j:Int))):=by
  unfold qf5 qgk
  rw [qob ps hl (fun i => i) (fun zz => qcP ps p (ps.length:Int) zz) (fun x => x.Name == p.Name) (fun j => Sum.inl (j:Int)) (.inr ()) (fun i hi => ?_) ?_]
  · cases ps.findIdx? (fun x => x.Name == p.Name) <;> rfl
  · unfold qcP
    rw [if_neg (by simp)]
  · unfold qcP qkV
    rw [if_pos (by simp; omega),qcO ps i hi]
    simp only [Option.bind_some]
    by_cases he:(ps[i].Name == p.Name) = true <;> simp [he]
theorem qBZ (p:tPred) (ps:List tVar) (l:List tPred) (M:Nat) (hM:1 ≤ M) (hl:∀ q ∈ l,nP q ≤ M) (hb:M ≤ bigN) (hp:nP p * M ^ dP p ≤ bigN) (hd:ps.length < 9223372036854775808):qm5 p ps l = some (putP (solP ps l) p):=by
  refine qiZ (F:=qkM) (fun x => nP x.1) (fun x => nP x.1 * M ^ dP x.1 ≤ bigN∧x.2 = (ps,l)) (fun x => putP (solP x.2.1 x.2.2) x.1) (fun R x hx ih => ?_) (p,ps,l) ⟨hp,rfl⟩ (qjH (Nat.le_trans (qyi hM p) hp))
  obtain ⟨p,ps',l'⟩:=x
  obtain ⟨hx,he⟩:=hx
  cases he
  have hx:nP p * M ^ dP p ≤ bigN:=hx
  have hx':=Nat.le_trans (qyi hM p) hx
  show qik (fun p d a => R (p,d,a)) p ps l = some (putP (solP ps l) p)
  unfold qik qhW qfL qjW
  have hlen:=qji p
  rw [qfQ p.Kids (by unfold bigN at hx'; omega) (fun i s => (s,i)) _ (fun y => qkD (fun p d a => R (p,d,a)) y ps l) (putP (solP ps l)) id (fun i s => rfl) (fun y hy => by
    have he:=ih (y,ps,l) (qjt hy) ⟨Nat.le_trans (qwT hM hy) hx,rfl⟩
    show (R (y,ps,l)).bind (fun r1 => some r1) = _
    rw [he]
    rfl)]
  simp only [Option.bind_some,id]
  rw [qAv]
  by_cases h1:p.Op = 4
  · rw [if_neg (by simpa using h1)]
    simp only [Option.bind_some]
    by_cases h2:p.Kids.length = 1
    · rw [if_neg (by simp [h2]),if_pos ⟨h1,h2⟩]
      obtain ⟨x,hk⟩:∃ x,p.Kids = [x]:=by
        match p.Kids,h2 with
        | [x],_ => exact ⟨x,rfl⟩
      have hxk:x ∈ p.Kids:=by rw [hk]; simp
      rw [hk]
      simp only [List.map_cons,List.map_nil,List.headD_cons]
      rw [qxj ps p hd]
      unfold solP
      cases hf:ps.findIdx? (fun x => x.Name == p.Name) with
      | none =>
        simp only [Option.bind_some,Option.elim]
        rw [if_pos (by decide)]
        rfl
      | some j =>
        simp only [Option.bind_some,Option.elim]
        rw [if_neg (by simp)]
        unfold qjQ
        simp only [Option.map_some,Option.getD_some]
        by_cases hj:j < l.length
        · rw [if_neg (by simp; omega),qcO l j hj,List.getElem?_eq_getElem hj]
          simp only [Option.bind_some,Option.elim]
          have hq:=Nat.le_trans (hl _ (List.getElem_mem hj)) hb
          generalize l[j] = q at hq
          have hs:qix q (⟨0,([]:Str),0,([]:List tPred)⟩:tPred) = some (decide (q = qmV)):=qB0 q qmV hq
          rw [hs]
          simp only [Option.bind_some]
          by_cases hz:q = qmV
          · simp only [hz,decide_true,if_true]
            exact congrArg some (qu0 _).symm
          · simp only [hz,decide_false,if_false,Bool.false_eq_true]
            show (idx [putP (solP ps l) x] 0).bind _ = _
            rw [show idx [putP (solP ps l) x] 0 = some (putP (solP ps l) x) from rfl]
            simp only [Option.bind_some]
            have hkn:=qzd (solP ps l) M hM (fun n q h => qBy hM hl h) x
            rw [qzb q [118] _ hq (Nat.le_trans hkn (Nat.le_trans (qwT hM hxk) hx))]
            rfl
        · rw [if_pos (by simp; omega),List.getElem?_eq_none (by omega)]
          simp only [Option.bind_some,if_true,Option.elim]
          exact congrArg some (qu0 _).symm
    · rw [if_pos (by simp; omega),if_neg (fun h => h2 h.2)]
  · rw [if_pos (by simpa using h1),if_neg (fun h => h1 h.1)]
    simp only [Option.bind_some,if_true]
end Go.Proofs.YtgldgpdhblndkaaGreatDoor
namespace Go.Proofs.YtgldgpdhblndkaaGreatDoor
open Go
set_option linter.unusedVariables false
set_option linter.unusedSimpArgs false
abbrev fitP (M:Nat) (p:tPred):Prop:=nP p * M ^ dP p ≤ bigN
theorem qzp (t:tType) (d:tData) (l:List tPred) (M:Nat) (hM:1 ≤ M) (hl:∀ q ∈ l,nP q ≤ M) (hb:M ≤ bigN) (ht:lenT t ≤ bigN) (hp:allP (fitP M) t) (hd:d.Preds.length < 9223372036854775808):qqm t d l = some (mapT (putP (solP d.Preds l)) t):=by
  refine qiZ (F:=qpM) (fun x => lenT x.1) (fun x => lenT x.1 ≤ bigN∧allP (fitP M) x.1∧x.2 = (d,l)) (fun x => mapT (putP (solP x.2.1.Preds x.2.2)) x.1) (fun R x hx ih => ?_) (t,d,l) ⟨ht,hp,rfl⟩ (qjH ht)
  obtain ⟨t,d',l'⟩:=x
  obtain ⟨hx,hq,he⟩:=hx
  cases he
  have hx:lenT t ≤ bigN:=hx
  obtain ⟨q1,q2,q3⟩:=(qn6 _ t).1 hq
  have h1:=qsv t
  have h2:=qnQ t
  show qmp (fun p d a => R (p,d,a)) t d l = some (mapT (putP (solP d.Preds l)) t)
  unfold qmp qnV qnZ
  rw [qv6 _ d l M hM hl hb q1 hd]
  simp only [Option.bind_some]
  rw [qfQ t.Preds (by unfold bigN at hx; omega) (fun i s => (i,s)) _ (fun y => qhz y d l) (putP (solP d.Preds l)) id (fun i s => rfl) (fun y hy => qv6 _ d l M hM hl hb (q2 y hy) hd)]
  simp only [Option.bind_some,id]
  rw [qfQ t.Args (by unfold bigN at hx; omega) (fun i s => (i,s)) _ (fun y => R (y,d,l)) (mapT (putP (solP d.Preds l))) id (fun i s => rfl) (fun y hy => ih (y,d,l) (qsf hy) ⟨by have:=qsf hy; show lenT y ≤ bigN; omega,(qiH _ _).1 q3 y hy,rfl⟩)]
  simp only [Option.bind_some,id]
  rw [qzH]
theorem qAr (t:tType) (d:tData) (l:List tPred) (M:Nat) (hM:1 ≤ M) (hl:∀ q ∈ l,nP q ≤ M) (hb:M ≤ bigN) (ht:lenT t ≤ bigN) (hp:allP (fitP M) t) (hd:d.Preds.length < 9223372036854775808):qiO t d l = some (mapT (putP (solP d.Preds l)) t):=by
  refine qiZ (F:=qg6) (fun x => lenT x.1) (fun x => lenT x.1 ≤ bigN∧allP (fitP M) x.1∧x.2 = (d,l)) (fun x => mapT (putP (solP x.2.1.Preds x.2.2)) x.1) (fun R x hx ih => ?_) (t,d,l) ⟨ht,hp,rfl⟩ (qjH ht)
  obtain ⟨t,d',l'⟩:=x
  obtain ⟨hx,hq,he⟩:=hx
  cases he
  have hx:lenT t ≤ bigN:=hx
  obtain ⟨q1,q2,q3⟩:=(qn6 _ t).1 hq
  have h1:=qsv t
  have h2:=qnQ t
  have h3:=qwl t
  have hF:∀ y,fitP M y→qcC y d l = some (putP (solP d.Preds l) y):=fun y hy => by
    unfold qcC
    rw [qBZ y d.Preds l M hM hl hb hy hd]
    rfl
  show qeP (fun p d a => R (p,d,a)) t d l = some (mapT (putP (solP d.Preds l)) t)
  unfold qeP qia qhU qfK qfN
  rw [qzZ _ (by unfold bigN at hx; omega),hF _ q1]
  simp only [Option.bind_some]
  rw [qfQ t.Preds (by unfold bigN at hx; omega) (fun i s => (s,i)) _ (fun y => qcC y d l) (putP (solP d.Preds l)) id (fun i s => rfl) (fun y hy => hF y (q2 y hy))]
  simp only [Option.bind_some,id]
  rw [qfQ t.Args (by unfold bigN at hx; omega) (fun i s => (s,i)) _ (fun y => qg8 (fun p d a => R (p,d,a)) y d l) (mapT (putP (solP d.Preds l))) id (fun i s => rfl) (fun y hy => by
    have he:=ih (y,d,l) (qsf hy) ⟨by have:=qsf hy; show lenT y ≤ bigN; omega,(qiH _ _).1 q3 y hy,rfl⟩
    show (R (y,d,l)).bind (fun r1 => some r1) = _
    rw [he]
    rfl)]
  simp only [Option.bind_some,id]
  rw [qzH]
def qwR (m:tModule) (name:Str):Option (tData×Nat):=m.Datas.findSome? fun d => (d.Cons.findIdx? (fun c => c.Name == name)).map fun j => (d,j)
abbrev T5:Type:=Int×Str×List Str×List tVar×List tCon
def conT (x:tData×Nat):T5:=((x.2:Int),x.1.Name,x.1.Vars,x.1.Preds,x.1.Cons)
theorem qyH {m:tModule} {name:Str} {d:tData} {j:Nat} (h:qwR m name = some (d,j)):d ∈ m.Datas∧j < d.Cons.length:=by
  unfold qwR at h
  obtain ⟨d',hd,he⟩:=List.exists_of_findSome?_eq_some h
  cases hf:d'.Cons.findIdx? (fun c => c.Name == name) with
  | none => rw [hf] at he; cases he
  | some k =>
    rw [hf] at he
    cases he
    exact ⟨hd,(List.findIdx?_eq_some_iff_getElem.1 hf).1⟩
theorem qCl (m:tModule) (name:Str) (h1:m.Datas.length < 9223372036854775808) (h2:∀ d ∈ m.Datas,d.Cons.length < 9223372036854775808):qod m name = some ((qwR m name).elim (⟨[],[],[],[]⟩,0,false) (fun x => (x.1,(x.2:Int),true))):=by
  unfold qod qlY qwR
  have:=quk m.Datas h1 (fun i => (i,[],[],[],[])) (fun (zz:Int×Str×(List Str)×(List tVar)×(List tCon)) => qdq name m.Datas (m.Datas.length:Int) zz.1 zz.2.1 zz.2.2.1 zz.2.2.2.1 zz.2.2.2.2)
    (fun d => ((d.Cons.findIdx? (fun c => c.Name == name)).map fun j => (Sum.inl (conT (d,j)):T5⊕(Str×(List Str)×(List tVar)×(List tCon))))) (.inr ([],[],[],[])) (fun i hi => ?_) ?_
  · rw [this]
    simp only [Option.bind_some]
    have key:∀ l:List tData,(l.findSome? (fun d => ((d.Cons.findIdx? (fun c => c.Name == name)).map fun j => (Sum.inl (conT (d,j)):T5⊕(Str×(List Str)×(List tVar)×(List tCon)))))) = (l.findSome? fun d => (d.Cons.findIdx? (fun c => c.Name == name)).map fun j => (d,j)).map (fun x => Sum.inl (conT x)):=by
      intro l
      induction l with
      | nil => rfl
      | cons d l ih =>
        rw [List.findSome?_cons,List.findSome?_cons,ih]
        cases d.Cons.findIdx? (fun c => c.Name == name) <;> rfl
    rw [key]
    cases (m.Datas.findSome? fun d => (d.Cons.findIdx? (fun c => c.Name == name)).map fun j => (d,j)) <;> rfl
  · show qdq name m.Datas (m.Datas.length:Int) (i:Int) [] [] [] [] = _
    unfold qdq
    rw [if_pos (by simp; omega),qcO _ i hi]
    simp only [Option.bind_some]
    have hd:=h2 _ (List.getElem_mem hi)
    generalize m.Datas[i] = d at hd
    unfold qmu
    have:=qob d.Cons hd (fun i => (i,[],[],[],[])) (fun (zz:Int×Str×(List Str)×(List tVar)×(List tCon)) => qdm name d.Cons (d.Cons.length:Int) zz.1 zz.2.1 zz.2.2.1 zz.2.2.2.1 zz.2.2.2.2)
      (fun c => c.Name == name) (fun j => Sum.inl (j:Int)) (.inr ([],[],[],[])) (fun k hk => ?_) ?_
    · rw [this]
      cases d.Cons.findIdx? (fun c => c.Name == name) <;> rfl
    · show qdm name d.Cons (d.Cons.length:Int) (k:Int) [] [] [] [] = _
      unfold qdm
      rw [if_pos (by simp; omega),qcO _ k hk]
      simp only [Option.bind_some]
      by_cases hn:(d.Cons[k].Name == name) = true <;> simp [hn]
    · show qdm name d.Cons (d.Cons.length:Int) (d.Cons.length:Int) [] [] [] [] = _
      unfold qdm
      rw [if_neg (by simp)]
  · show qdq name m.Datas (m.Datas.length:Int) (m.Datas.length:Int) [] [] [] [] = _
    unfold qdq
    rw [if_neg (by simp)]
theorem qB4 (m:tModule) (name:Str) (h1:m.Datas.length < 9223372036854775808) (h2:∀ d ∈ m.Datas,d.Cons.length < 9223372036854775808):quG m name = some ((qwR m name).elim (⟨[],[],[],[]⟩,0,false) (fun x => (x.1,(x.2:Int),true))):=by
  unfold quG qrH qwR
  have:=quk m.Datas h1 (fun i => (i,[],[],[],[])) (fun (zz:Int×Str×(List Str)×(List tVar)×(List tCon)) => qfb name m zz.1 zz.2.1 zz.2.2.1 zz.2.2.2.1 zz.2.2.2.2)
    (fun d => ((d.Cons.findIdx? (fun c => c.Name == name)).map fun j => (Sum.inl (conT (d,j)):T5⊕(Str×(List Str)×(List tVar)×(List tCon))))) (.inr ([],[],[],[])) (fun i hi => ?_) ?_
  · rw [this]
    simp only [Option.bind_some]
    have key:∀ l:List tData,(l.findSome? (fun d => ((d.Cons.findIdx? (fun c => c.Name == name)).map fun j => (Sum.inl (conT (d,j)):T5⊕(Str×(List Str)×(List tVar)×(List tCon)))))) = (l.findSome? fun d => (d.Cons.findIdx? (fun c => c.Name == name)).map fun j => (d,j)).map (fun x => Sum.inl (conT x)):=by
      intro l
      induction l with
      | nil => rfl
      | cons d l ih =>
        rw [List.findSome?_cons,List.findSome?_cons,ih]
        cases d.Cons.findIdx? (fun c => c.Name == name) <;> rfl
    rw [key]
    cases (m.Datas.findSome? fun d => (d.Cons.findIdx? (fun c => c.Name == name)).map fun j => (d,j)) <;> rfl
  · show qfb name m (i:Int) [] [] [] [] = _
    unfold qfb
    rw [if_pos (by simp; omega)]
    have hd:=h2 _ (List.getElem_mem hi)
    unfold qro
    have:=qob m.Datas[i].Cons hd (fun i => (i,[],[],[],[])) (fun (zz:Int×Str×(List Str)×(List tVar)×(List tCon)) => qeX name m (i:Int) zz.1 zz.2.1 zz.2.2.1 zz.2.2.2.1 zz.2.2.2.2)
      (fun c => c.Name == name) (fun j => Sum.inl (conT (m.Datas[i],j))) (.inr ([],[],[],[])) (fun k hk => ?_) ?_
    · rw [this]
      cases m.Datas[i].Cons.findIdx? (fun c => c.Name == name) <;> rfl
    · show qeX name m (i:Int) (k:Int) [] [] [] [] = _
      unfold qeX
      rw [qcO _ i hi]
      simp only [Option.bind_some]
      rw [if_pos (by simp; omega),qcO _ k hk]
      simp only [Option.bind_some]
      by_cases hn:(m.Datas[i].Cons[k].Name == name) = true
      · simp only [hn,if_true]; rfl
      · simp only [hn,if_false,Bool.false_eq_true]
    · show qeX name m (i:Int) (m.Datas[i].Cons.length:Int) [] [] [] [] = _
      unfold qeX
      rw [qcO _ i hi]
      simp only [Option.bind_some]
      rw [if_neg (by simp)]
  · show qfb name m (m.Datas.length:Int) [] [] [] [] = _
    unfold qfb
    rw [if_neg (by simp)]
end Go.Proofs.YtgldgpdhblndkaaGreatDoor
namespace Go.Proofs.YtgldgpdhblndkaaGreatDoor
open Go
theorem qjp:qjE = some true:=by kernel_rfl
end Go.Proofs.YtgldgpdhblndkaaGreatDoor
