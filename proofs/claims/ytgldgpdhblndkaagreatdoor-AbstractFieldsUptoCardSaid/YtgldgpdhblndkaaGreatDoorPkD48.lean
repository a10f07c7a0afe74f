/-
  WHAT IS PROVED: parts of the proof, put together by a program out of smaller texts, their own names made short (PfB). Conditions: none.
-/
import Derived.Test.YtgldgpdhblndkaaGreatDoorPkD47
namespace Go.Proofs.YtgldgpdhblndkaaGreatDoor
open Go
set_option linter.unusedVariables false
set_option linter.unusedSimpArgs false
theorem qAh (t:tType) (ht:lenT t ≤ bigN):tot (qtd t) (fun _ => True):=by
  refine quF (F:=qpu) lenT (fun x => lenT x ≤ bigN) (fun _ _ => True) (fun R x hx ih => ?_) t ht (qjH ht)
  show tot (qlE (fun t => R t) x) _
  unfold qlE qno
  have h1:=qsv x
  refine qdb (R:=fun _ => True) (qvv x.Args (by unfold bigN at hx; omega) (fun i s => (s,i)) (fun i s y => (R y).bind fun r => some (.inl (w64 (s + r),w64 (i + 1)))) id (fun _ _ => True) (fun i s => rfl) (fun i hi s _ => ?_) (fun _ _ => trivial) 1 trivial) (fun a _ => qa2 trivial)
  exact qdb (ih _ (qsf (List.getElem_mem hi)) (by have:=qsf (List.getElem_mem hi); omega)) (fun a _ => qa2 ⟨_,rfl,trivial⟩)
theorem qzY (p:tPred) (hp:nP p ≤ bigN):tot (qqB p) (fun _ => True):=by
  unfold qqB
  rw [qyg p hp,qxE p hp]
  simp only [Option.bind_some]
  exact qfI (fun _ => qa2 trivial) (fun _ => qa2 trivial)
theorem qCa (l:List tType) (hl:qj2 l ≤ bigN) (hp:qgJ (fun p => nP p ≤ bigN) l):tot (qw0 l) (fun _ => True):=by
  refine quF (F:=qtp) qj2 (fun x => qj2 x ≤ bigN∧qgJ (fun p => nP p ≤ bigN) x) (fun _ _ => True) (fun R l hx ih => ?_) l ⟨hl,hp⟩ (qjH hl)
  obtain ⟨hl,hp⟩:=hx
  show tot (qp6 (fun a => R a) l) _
  unfold qp6 qrw
  have h1:=qn0 l
  refine qdb (qjq l (by unfold bigN at hl; omega) _ (fun _ => True) (fun _ => True) (fun i => rfl) (fun x hx i => ?_)) (fun a _ => by cases a <;> exact qa2 trivial)
  have hx1:=qna hx
  have hq:=(qn6 _ _).1 ((qiH _ _).1 hp _ hx)
  have h2:=qnQ x
  have h3:=qpG x
  refine qdb (R:=fun _ => True) ?_ (fun o _ => qfI (fun _ => qa2 trivial) (fun _ => ?_))
  · unfold qrd
    rw [qyQ]
    exact qdb (qAh x (by omega)) fun _ _ => qfI (fun _ => qa2 trivial) fun _ => qfI (fun _ => qa2 trivial) fun _ => qfI (fun _ => qa2 trivial) fun _ => qdb (ih x.Args (by omega) ⟨by omega,hq.2.2⟩) fun _ _ => qa2 trivial
  · rw [qxU (by unfold bigN at hl; simp; omega)]
    simp only [Option.bind_some]
    unfold qry
    refine qdb (qjq ([x.Pred] ++ x.Preds) (by unfold bigN at hl; simp; omega) _ (fun _ => True) (fun _ => True) (fun i => rfl) (fun q hq' i => ?_)) (fun a _ => by
      cases a with
      | inl _ => exact qa2 trivial
      | inr _ => exact qa2 ⟨rfl,trivial⟩)
    have hqn:nP q ≤ bigN:=by
      rcases List.mem_append.1 hq' with h | h
      · rw [List.mem_singleton.1 h]; exact hq.1
      · exact hq.2.1 q h
    exact qdb (qzY q hqn) fun _ _ => qfI (fun _ => qa2 trivial) (fun _ => qa2 ⟨rfl,trivial⟩)
theorem qAP (l:List tType) (hl:qj2 l ≤ bigN) (hp:qgJ (fun p => nP p ≤ bigN) l):tot (qu8 l) (fun b => b = true→qgJ (fun p => dP p ≤ 3) l):=by
  refine quF (F:=qrc) qj2 (fun x => qj2 x ≤ bigN∧qgJ (fun p => nP p ≤ bigN) x) (fun x b => b = true→qgJ (fun p => dP p ≤ 3) x) (fun R l hx ih => ?_) l ⟨hl,hp⟩ (qjH hl)
  obtain ⟨hl,hp⟩:=hx
  show tot (qon (fun a => R a) l) _
  unfold qon qpy
  have h1:=qn0 l
  refine qdb (qjq l (by unfold bigN at hl; omega) _ (allP fun p => dP p ≤ 3) (fun _ => True) (fun i => rfl) (fun x hx i => ?_)) (fun a ha => by
    cases a with
    | inl _ => exact qa2 (fun h => by cases h)
    | inr _ => exact qa2 (fun _ => (qiH _ _).2 ha))
  have hx1:=qna hx
  have hq:=(qn6 _ _).1 ((qiH _ _).1 hp _ hx)
  have h2:=qnQ x
  have h3:=qpG x
  rw [qxU (by unfold bigN at hl; simp; omega)]
  simp only [Option.bind_some]
  unfold qpF
  refine qdb (qjq ([x.Pred] ++ x.Preds) (by unfold bigN at hl; simp; omega) _ (fun q => dP q ≤ 3) (fun _ => True) (fun i => rfl) (fun q hq' i => ?_)) (fun a ha => ?_)
  · have hqn:nP q ≤ bigN:=by
      rcases List.mem_append.1 hq' with h | h
      · rw [List.mem_singleton.1 h]; exact hq.1
      · exact hq.2.1 q h
    rw [qxE q hqn]
    simp only [Option.bind_some]
    exact qfI (fun _ => qa2 trivial) (fun h => qa2 ⟨rfl,Nat.not_lt.1 fun e => h (decide_eq_true (show ((dP q:Nat):Int) > 3 by omega))⟩)
  · cases a with
    | inl _ => exact qa2 trivial
    | inr _ =>
      have ha:∀ q ∈ [x.Pred] ++ x.Preds,dP q ≤ 3:=ha
      refine qdb (ih x.Args (by omega) ⟨by omega,hq.2.2⟩) fun b hb => qfI (fun _ => qa2 trivial) (fun h => qa2 ⟨rfl,?_⟩)
      rw [qn6]
      exact ⟨ha _ (by simp),fun q hq => ha q (by simp [hq]),hb (by simpa using h)⟩
theorem qyS (c:tCon):pmL (qbf c) = pm (.str c.Name) + (pm (sl cS c.Names) + (pm (sl qac c.Fields) + 0)):=by rw [qsH]; rfl
theorem qyb (d:tData):pmL (qau d) = pm (.str d.Name) + (pm (sl cS d.Vars) + (pm (sl qay d.Preds) + (pm (sl qbf d.Cons) + 0))):=by rw [qhw]; rfl
theorem qxW (m:tModule):pmLL (m.Datas.map qau) ≤ pmL (qaL m):=by rw [qlq]; simp only [pmL,pm,sl]; omega
theorem qDd (l:List tVar):l.length ≤ pmLL (l.map qay):=by
  have h:=qqf (l.map qay) (fun x hx => by
    obtain ⟨s,_,rfl⟩:=List.mem_map.1 hx
    rw [qrf]; simp only [pmL,pm]; omega)
  rwa [List.length_map] at h
theorem qDe (l:List tCon):l.length ≤ pmLL (l.map qbf):=by
  have h:=qqf (l.map qbf) (fun x hx => by
    obtain ⟨s,_,rfl⟩:=List.mem_map.1 hx
    rw [qyS]; simp only [pm]; omega)
  rwa [List.length_map] at h
theorem qDb (l:List tData):l.length ≤ pmLL (l.map qau):=by
  have h:=qqf (l.map qau) (fun x hx => by
    obtain ⟨s,_,rfl⟩:=List.mem_map.1 hx
    rw [qyb]; simp only [pm]; omega)
  rwa [List.length_map] at h
theorem quQ {m:tModule} {d:tData} {B:Nat} (h:pmL (qaL m) ≤ B) (hd:d ∈ m.Datas):d.Preds.length ≤ B∧d.Cons.length ≤ B∧∀ c ∈ d.Cons,qj2 c.Fields ≤ B∧qgJ (fun p => nP p ≤ B) c.Fields:=by
  have h1:=qxW m
  have h2:=qqb (List.mem_map.2 ⟨d,hd,rfl⟩:qau d ∈ m.Datas.map qau)
  rw [qyb] at h2
  have h3:=qDd d.Preds
  have h4:=qDe d.Cons
  simp only [pm,sl] at h2
  refine ⟨by omega,by omega,fun c hc => ?_⟩
  have h5:=qqb (List.mem_map.2 ⟨c,hc,rfl⟩:qbf c ∈ d.Cons.map qbf)
  rw [qyS] at h5
  simp only [pm,sl] at h5
  have h6:=qvk c.Fields
  exact ⟨by omega,qu7 B c.Fields (by omega)⟩
theorem qxn (m:tModule) (con:Str) (l:List tPred) (h:pmL (qaL m) + (pm (.str con) + (pm (sl qaa l) + 0)) ≤ 1048576):qhb m con l = some true:=by
  have hm:pmL (qaL m) ≤ 1048576:=by omega
  have hl1:pmLL (l.map qaa) ≤ 1048576:=by simp only [pm,sl] at h; omega
  have hl2:=qCI l
  have hl3:∀ q ∈ l,nP q ≤ bigN:=fun q hq => by
    have h1:=qBK q
    have h2:=qqb (List.mem_map.2 ⟨q,hq,rfl⟩:qaa q ∈ l.map qaa)
    unfold bigN; omega
  have hd1:m.Datas.length < 9223372036854775808:=by
    have h1:=qxW m
    have h2:=qDb m.Datas
    omega
  have hd2:∀ d ∈ m.Datas,d.Cons.length < 9223372036854775808:=fun d hd => by have:=(quQ hm hd).2.1; omega
  have big20:(1048576:Nat) ≤ bigN:=by unfold bigN; omega
  rw [← qB8]
  unfold qhb qe1
  refine qdb (R:=fun _ => True) (qfI (fun _ => qa2 trivial) (fun _ => qa2 trivial)) fun b _ => qfI (fun _ => qh8 qjp (qa2 rfl)) fun _ => ?_
  unfold qe2
  refine qdb (qjq l (by omega) _ (fun q => nP q ≤ 10) (fun b => b = true) (fun i => rfl) (fun q hq i => ?_)) fun r hr => ?_
  · rw [qyg q (hl3 q hq)]
    simp only [Option.bind_some]
    exact qfI (fun _ => qh8 qjp (qa2 rfl)) (fun h => qa2 ⟨rfl,Nat.not_lt.1 fun e => h (decide_eq_true (show ((nP q:Nat):Int) > 10 by omega))⟩)
  · cases r with
    | inl b => exact qa2 hr
    | inr _ =>
      have hr:∀ q ∈ l,nP q ≤ 10:=hr
      simp only
      unfold qfa
      refine qdb (qjq m.Datas hd1 _ (fun d => ∀ c ∈ d.Cons,qgJ (fun p => dP p ≤ 3) c.Fields) (fun b => b = true) (fun i => rfl) (fun d hd i => ?_)) fun r hr2 => ?_
      · obtain ⟨d1,d2,d3⟩:=quQ hm hd
        unfold qe8
        refine qdb (R:=fun _ => True) (qfI (fun _ => qa2 trivial) (fun _ => qa2 trivial)) fun b _ => qfI (fun _ => qh8 qjp (qa2 rfl)) fun _ => ?_
        unfold qfd
        refine qdb (qjq d.Cons (by omega) _ (fun c => qgJ (fun p => dP p ≤ 3) c.Fields) (fun b => b = true) (fun i => rfl) (fun c hc i => ?_)) fun r hr => ?_
        · obtain ⟨c1,c2⟩:=d3 c hc
          have c2:=qog (fun p (hp:nP p ≤ 1048576) => Nat.le_trans hp big20) _ c2
          unfold qe3
          refine qdb (R:=fun b => b = false→qgJ (fun p => dP p ≤ 3) c.Fields) (qfI (fun _ => qa2 (fun h => by cases h)) fun _ => qdb (qCa c.Fields (by omega) c2) fun b _ => qfI (fun _ => qa2 (fun h => by cases h)) fun _ => qdb (qAP c.Fields (by omega) c2) fun b hb => qa2 (fun h => hb (by simpa using h))) fun b hb => qfI (fun _ => qh8 qjp (qa2 rfl)) fun hn => qa2 ⟨rfl,hb (by simpa using hn)⟩
        · cases r with
          | inl b => exact qa2 hr
          | inr _ => exact qa2 ⟨rfl,hr⟩
      · cases r with
        | inl b => exact qa2 hr2
        | inr _ =>
          have hr2:∀ d ∈ m.Datas,∀ c ∈ d.Cons,qgJ (fun p => dP p ≤ 3) c.Fields:=hr2
          simp only
          unfold qgT qrn
          rw [qCl m con hd1 hd2,qB4 m con hd1 hd2]
          cases hc:qwR m con with
          | none =>
            simp only [Option.elim,Option.bind_some,Bool.not_false,if_true]
            rw [show qdE [] false [] false = some false from rfl]
            simp only [Option.bind_some,Bool.false_eq_true,if_false]
            unfold qdA
            rw [qlP,show qda [] [] (([]:List tType).length:Int) 0 = some (.inr (.inr ())) from rfl]
            simp only [Option.bind_some]
            exact qh8 qjp (qa2 rfl)
          | some x =>
            obtain ⟨d,j⟩:=x
            obtain ⟨hd,hj⟩:=qyH hc
            obtain ⟨d1,d2,d3⟩:=quQ hm hd
            obtain ⟨c1,c2⟩:=d3 _ (List.getElem_mem hj)
            have c3:=hr2 d hd _ (List.getElem_mem hj)
            simp only [Option.elim,Option.bind_some,Bool.not_true,Bool.false_eq_true,if_false]
            rw [qcO d.Cons j hj]
            simp only [Option.bind_some]
            generalize d.Cons[j] = c at c1 c2 c3
            have hfit:∀ p,(nP p ≤ 1048576∧dP p ≤ 3)→fitP 10 p:=fun p hp => by
              have h1:(10:Nat) ^ dP p ≤ 10 ^ 3:=Nat.pow_le_pow_right (by omega) hp.2
              have h2:=Nat.mul_le_mul hp.1 h1
              unfold fitP bigN
              omega
            have c4:=qog hfit _ (qtq _ c2 c3)
            have hlen:=qn0 c.Fields
            have hT:∀ t ∈ c.Fields,lenT t ≤ bigN∧allP (fitP 10) t:=fun t ht => ⟨by have:=qna ht; omega,(qiH _ _).1 c4 t ht⟩
            unfold qh6 qfP
            rw [qfQ c.Fields (by omega) (fun i s => (s,i)) _ (fun y => qft y d l) (mapT (putP (solP d.Preds l))) id (fun i s => rfl) (fun y hy => by
              unfold qft
              rw [qAr y d l 10 (by omega) hr (by unfold bigN; omega) (hT y hy).1 (hT y hy).2 (by omega)]
              rfl)]
            simp only [Option.bind_some,id]
            unfold qmt
            rw [qfQ c.Fields (by omega) (fun i s => (s,i)) _ (fun y => qqm y d l) (mapT (putP (solP d.Preds l))) id (fun i s => rfl) (fun y hy => qzp y d l 10 (by omega) hr (by unfold bigN; omega) (hT y hy).1 (hT y hy).2 (by omega))]
            simp only [Option.bind_some,id]
            have hF:∀ t ∈ c.Fields.map (mapT (putP (solP d.Preds l))),lenT t ≤ bigN∧allP (fun p => nP p ≤ bigN) t:=fun t ht => by
              obtain ⟨t',ht',rfl⟩:=List.mem_map.1 ht
              rw [qxs]
              exact ⟨(hT t' ht').1,qxS _ (fun p (hp:fitP 10 p) => Nat.le_trans (qzd _ 10 (by omega) (fun n q h => qBy (by omega) hr h) p) hp) t' (hT t' ht').2⟩
            have hlen2:(c.Fields.map (mapT (putP (solP d.Preds l)))).length ≤ 1048576:=by rw [List.length_map]; omega
            generalize c.Fields.map (mapT (putP (solP d.Preds l))) = fs at hF hlen2
            unfold qdE
            simp only [beq_self_eq_true,Bool.not_true,Bool.false_eq_true,if_false,Option.bind_some,bne_self_eq_false]
            unfold qdA
            rw [qq4 (a:=fs) (b:=fs) rfl (by omega) (fun zz => qda fs fs (fs.length:Int) zz) (fun i x z => (qmj x z).bind fun r => if (!r) = true then some (.inr (.inl ())) else some (.inl (w64 (i + 1)))) qpq (.inl ()) (.inr ()) (fun i => rfl) (fun x hx z hz i => by
              rw [qzN x z (hF x hx).1 (hF z hz).2]
              cases qpq x z <;> rfl),qtA (fun x _ => qut x)]
            simp only [if_true,Option.bind_some]
            exact qh8 qjp (qa2 rfl)
end Go.Proofs.YtgldgpdhblndkaaGreatDoor
