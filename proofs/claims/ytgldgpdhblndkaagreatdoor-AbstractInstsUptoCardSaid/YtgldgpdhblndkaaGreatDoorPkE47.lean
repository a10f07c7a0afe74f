/- WHAT IS PROVED: parts of the proof, put together by a program (In3). Conditions: none. -/
import Derived.Test.YtgldgpdhblndkaaGreatDoorPkE46
noncomputable section
namespace Go.Proofs.YtgldgpdhblndkaaGreatDoor
open Go
set_option linter.unusedVariables false
set_option linter.unusedSimpArgs false
theorem qCW (l:List tType) (i:Nat) (old:List Str) (y:Str) (hi:i < old.length) (hil:i + 1 ≤ l.length) (hl:l.length ≤ 1073741824) (ho:old.length ≤ 1073741824) (hok:∀ a ∈ l,okS a (sub1 old[i] (varP y))):qhV l (i:Int) old y = some (qjz old i y l):=by
  unfold qhV
  rw [qiS l hl]
  simp only [Option.bind_some]
  unfold qhp
  have e:qjz old i y l = l.take (i + 1) ++ bh old old[i] (sub1 old[i] (varP y)) (i + 1) (l.drop (i + 1)):=by unfold qjz; rw [qmM old i hi]
  have hloop:=qq2 (fun (zz:Int×List tType) => qbM (i:Int) old y l.length zz.1 zz.2) old old[i] (sub1 old[i] (varP y)) l.length (by omega) (l.drop (i + 1)) (l.take (i + 1)) (i + 1) (by rw [List.length_take]; omega) (by rw [List.length_drop]; omega) (fun j hj w hw hg => ?_) (fun w => ?_)
  · rw [List.take_append_drop] at hloop
    rw [qeY (by omega) (by omega),show ((i:Int) + 1) = ((i + 1:Nat):Int) by omega,hloop,← e]
    simp only [Option.bind_some]
    rw [qu3 _ _ (by rw [(qrx old i y l).1])]
    rfl
  · rw [List.length_drop] at hj
    have hj':j < (l.drop (i + 1)).length:=by rw [List.length_drop]; exact hj
    show qbM (i:Int) old y l.length ((i + 1 + j:Nat):Int) w = _
    unfold qbM
    rw [if_pos (decide_eq_true (by omega))]
    have hwj:w[i + 1 + j]'(by omega) = (l.drop (i + 1))[j]'hj':=by
      have:=hg
      rw [List.getElem?_eq_getElem (by omega),List.getElem?_eq_getElem hj'] at this
      exact Option.some.inj this
    rw [qrt l.length w (i + 1 + j) (by omega) (by omega),hwj]
    simp only [Option.bind_some]
    rw [qaS old i hi]
    simp only [Option.bind_some]
    have hm:(l.drop (i + 1))[j]'hj' ∈ l:=List.mem_of_mem_drop (List.getElem_mem hj')
    have hs:=qDN _ old[i] (varP y) (hok _ hm)
    rw [show (⟨3,y,0,([]:List tPred)⟩:tPred) = varP y from rfl,hs]
    simp only [Option.bind_some]
    rw [qxF w (i + 1 + j) _ (by omega)]
    simp only [Option.bind_some]
    unfold qhP
    by_cases hk:i + 1 + j < old.length
    · rw [if_pos (decide_eq_true (by omega)),qaS old _ hk]
      simp only [Option.bind_some]
      rw [qaS old i hi]
      simp only [Option.bind_some,List.getElem?_eq_getElem hk]
      by_cases hc:old[i + 1 + j] = old[i]
      · rw [if_pos (by simpa using hc),if_pos (by rw [hc])]
      · rw [if_neg (by simpa using hc),if_neg (fun h => hc (Option.some.inj h)),qeY (by omega) (by omega)]
        rfl
    · rw [if_neg (by simp; omega),List.getElem?_eq_none (by omega)]
      simp only [Option.bind_some,Bool.false_eq_true,if_false]
      rw [if_neg (fun h => by cases h),qeY (by omega) (by omega)]
      rfl
  · show qbM (i:Int) old y l.length (l.length:Int) w = _
    unfold qbM
    rw [if_neg (by simp)]
theorem qCU (t:tType) (l:List tType) (i:Nat) (y:Str) (hi:i < t.Names.length) (hil:i + 1 ≤ l.length) (hl:l.length ≤ 1073741824) (ho:t.Names.length ≤ 1073741824) (hok:∀ a ∈ l,okS a (sub1 t.Names[i] (varP y))):qiG t t.Names[i] y l.length (w64 ((i:Int) + 1)) l = some (qjz t.Names i y l):=by
  unfold qiG
  have e:qjz t.Names i y l = l.take (i + 1) ++ bh t.Names t.Names[i] (sub1 t.Names[i] (varP y)) (i + 1) (l.drop (i + 1)):=by unfold qjz; rw [qmM t.Names i hi]
  have hloop:=qq2 (fun (zz:Int×List tType) => qc0 t t.Names[i] y l.length zz.1 zz.2) t.Names t.Names[i] (sub1 t.Names[i] (varP y)) l.length (by omega) (l.drop (i + 1)) (l.take (i + 1)) (i + 1) (by rw [List.length_take]; omega) (by rw [List.length_drop]; omega) (fun j hj w hw hg => ?_) (fun w => ?_)
  · rw [List.take_append_drop] at hloop
    rw [qeY (by omega) (by omega),show ((i:Int) + 1) = ((i + 1:Nat):Int) by omega,hloop,← e]
  · rw [List.length_drop] at hj
    have hj':j < (l.drop (i + 1)).length:=by rw [List.length_drop]; exact hj
    show qc0 t t.Names[i] y l.length ((i + 1 + j:Nat):Int) w = _
    unfold qc0
    rw [if_pos (decide_eq_true (by omega))]
    have hwj:w[i + 1 + j]'(by omega) = (l.drop (i + 1))[j]'hj':=by
      have:=hg
      rw [List.getElem?_eq_getElem (by omega),List.getElem?_eq_getElem hj'] at this
      exact Option.some.inj this
    rw [qrt l.length w (i + 1 + j) (by omega) (by omega),hwj]
    simp only [Option.bind_some]
    have hm:(l.drop (i + 1))[j]'hj' ∈ l:=List.mem_of_mem_drop (List.getElem_mem hj')
    have hs:=qEG _ t.Names[i] (varP y) (hok _ hm)
    rw [show (⟨3,y,0,([]:List tPred)⟩:tPred) = varP y from rfl,hs]
    simp only [Option.bind_some]
    rw [qxF w (i + 1 + j) _ (by omega)]
    simp only [Option.bind_some]
    unfold qln
    by_cases hk:i + 1 + j < t.Names.length
    · rw [if_pos (decide_eq_true (by omega)),qaS t.Names _ hk]
      simp only [Option.bind_some,List.getElem?_eq_getElem hk]
      by_cases hc:t.Names[i + 1 + j] = t.Names[i]
      · rw [if_pos (by simpa using hc),if_pos (by rw [hc])]
      · rw [if_neg (by simpa using hc),if_neg (fun h => hc (Option.some.inj h)),qeY (by omega) (by omega)]
        rfl
    · rw [if_neg (by simp; omega),List.getElem?_eq_none (by omega)]
      simp only [Option.bind_some,Bool.false_eq_true,if_false]
      rw [if_neg (fun h => by cases h),qeY (by omega) (by omega)]
      rfl
  · show qc0 t t.Names[i] y l.length (l.length:Int) w = _
    unfold qc0
    rw [if_neg (by simp)]
abbrev S4:Type:=List Str×List Str×List tType
def apS (vars ns:List Str) (n i:Nat) (s:S4):S4 :=
  if i + 1 < n∧ns.getD i [] ∈ vars then (s.1 ++ [qdG s.1 (ns.getD i [])],s.2.1.set i (qdG s.1 (ns.getD i [])),qjz ns i (qdG s.1 (ns.getD i [])) s.2.2) else s
def apQ (vars ns:List Str) (n:Nat) (s:S4):Nat→S4
  | 0 => s
  | i + 1 => apS vars ns n i (apQ vars ns n s i)
def qdm (vars:List Str) (t:tType):S4:=((vars ++ freeT t) ++ t.Names,t.Names,t.Args)
def apN (vars:List Str) (t:tType):S4:=apQ vars t.Names t.Args.length (qdm vars t) t.Names.length
structure ApF (L:Nat) (vars:List Str) (t:tType) (i:Nat) (s:S4):Prop where
  u:s.1.length ≤ vars.length + wT t + t.Names.length + i
  w:s.2.1.length = t.Names.length
  wn:∀ x ∈ s.2.1,x.length ≤ L + 10
  wk:∀ j,i ≤ j→s.2.1[j]? = t.Names[j]?
  al:s.2.2.length = t.Args.length
  at_:qdu s.2.2 = qdu t.Args
  aw:wTL s.2.2 ≤ wTL t.Args
  an:qhX (L + 10 * i) s.2.2
theorem ql3 {L:Nat} {vars:List Str} {t:tType} (h:allN L t):∀ i,i ≤ t.Names.length→ApF L vars t i (apQ vars t.Names t.Args.length (qdm vars t) i)
  | 0,_ => by
    have h1:=(qmG L t).1 h
    have h2:=qft t
    exact { u:=by show ((vars ++ freeT t) ++ t.Names).length ≤ _; rw [List.length_append,List.length_append]; omega
            w:=rfl,wn:=fun x hx => Nat.le_trans (h1.1 x hx) (by omega),wk:=fun j _ => rfl,al:=rfl,at_:=rfl,aw:=Nat.le_refl _,an:=h1.2 }
  | i + 1,hi => by
    have ih:=ql3 (vars:=vars) h i (by omega)
    have h1:=(qmG L t).1 h
    show ApF L vars t (i + 1) (apS vars t.Names t.Args.length i (apQ vars t.Names t.Args.length (qdm vars t) i))
    generalize apQ vars t.Names t.Args.length (qdm vars t) i = s at ih
    unfold apS
    split
    · obtain ⟨f1,f2,f3,f4⟩:=qrx t.Names i (qdG s.1 (t.Names.getD i [])) s.2.2
      have hl:=qw9 s.1 (t.Names.getD i [])
      have hn:(t.Names.getD i []).length ≤ L:=by rw [qmM _ i (by omega)]; exact h1.1 _ (List.getElem_mem _)
      exact { u:=by have:=ih.u; simp only [List.length_append,List.length_singleton]; omega
              w:=by simp only [List.length_set]; exact ih.w
              wn:=fun x hx => by
                rcases List.mem_or_eq_of_mem_set hx with hx | hx
                · exact ih.wn x hx
                · rw [hx]; omega
              wk:=fun j hj => by
                simp only
                rw [List.getElem?_set_ne (by omega)]
                exact ih.wk j (by omega)
              al:=f1.trans ih.al,at_:=f2.trans ih.at_,aw:=Nat.le_trans f3 ih.aw
              an:=by have:=f4 _ ih.an; rw [show L + 10 * (i + 1) = L + 10 * i + 10 by omega]; exact this }
    · exact { u:=by have:=ih.u; omega
              w:=ih.w,wn:=ih.wn,wk:=fun j hj => ih.wk j (by omega),al:=ih.al,at_:=ih.at_,aw:=ih.aw
              an:=qiy (by omega) _ ih.an }
def apF (vars:List Str):Nat→tType→tType
  | 0,t => t
  | k + 1,t => if t.Op = 6 then ⟨t.Op,t.Name,(apN vars t).2.2.map (apF vars k),(apN vars t).2.1,t.Pred,t.Preds⟩ else ⟨t.Op,t.Name,t.Args.map (apF vars k),t.Names,t.Pred,t.Preds⟩
def apT (vars:List Str) (t:tType):tType:=apF vars (lenT t) t
mutual
theorem qz8:∀ (t:tType),∃ L,allN L t
  | ⟨o,n,xs,ns,p,ps⟩ => by
    obtain ⟨L,h⟩:=qxB xs
    have key:∀ (l:List Str),∃ M,∀ s ∈ l,s.length ≤ M:=by
      intro l
      induction l with
      | nil => exact ⟨0,fun s hs => by cases hs⟩
      | cons x l ih =>
        obtain ⟨M,hM⟩:=ih
        refine ⟨M + x.length,fun s hs => ?_⟩
        rcases List.mem_cons.1 hs with rfl | hs
        · omega
        · have:=hM s hs; omega
    obtain ⟨M,hM⟩:=key ns
    refine ⟨L + M,?_⟩
    rw [allN]
    exact ⟨fun s hs => by have:=hM s hs; omega,qiy (by omega) xs h⟩
theorem qxB:∀ (l:List tType),∃ L,qhX L l
  | [] => ⟨0,trivial⟩
  | a :: xs => by
    obtain ⟨L,h⟩:=qz8 a
    obtain ⟨M,h'⟩:=qxB xs
    refine ⟨L + M,?_⟩
    rw [qhX]
    exact ⟨qq5 (by omega) a h,qiy (by omega) xs h'⟩
end
theorem qkf (vars:List Str) (t:tType):qdu (apN vars t).2.2 = qdu t.Args∧(apN vars t).2.1.length = t.Names.length∧wTL (apN vars t).2.2 ≤ wTL t.Args∧(apN vars t).2.2.length = t.Args.length:=by
  obtain ⟨L,h⟩:=qz8 t
  have:=ql3 (vars:=vars) h t.Names.length (Nat.le_refl _)
  exact ⟨this.at_,this.w,this.aw,this.al⟩
theorem qqw {vars:List Str} {t a:tType} (h:a ∈ (apN vars t).2.2):lenT a + t.Names.length < lenT t:=by
  have h1:=qlI h
  rw [(qkf vars t).1] at h1
  rw [qj1 t]; omega
theorem quK (vars:List Str):∀ (k m:Nat) (t:tType),lenT t ≤ k→lenT t ≤ m→apF vars k t = apF vars m t
  | 0,m,t,h,_ => by have:=qpf t; omega
  | k + 1,0,t,_,h => by have:=qpf t; omega
  | k + 1,m + 1,t,h1,h2 => by
    rw [apF,apF]
    split
    · rw [List.map_congr_left fun a ha => quK vars k m a (by have:=qqw ha; omega) (by have:=qqw ha; omega)]
    · rw [List.map_congr_left fun a ha => quK vars k m a (by have:=qg6 ha; omega) (by have:=qg6 ha; omega)]
theorem qEo (vars:List Str) (t:tType):apT vars t = if t.Op = 6 then ⟨t.Op,t.Name,(apN vars t).2.2.map (apT vars),(apN vars t).2.1,t.Pred,t.Preds⟩ else ⟨t.Op,t.Name,t.Args.map (apT vars),t.Names,t.Pred,t.Preds⟩:=by
  obtain ⟨k,hk⟩:∃ k,lenT t = k + 1:=⟨lenT t - 1,by have:=qpf t; omega⟩
  unfold apT
  rw [hk,apF]
  split
  · rw [List.map_congr_left fun a ha => quK vars k (lenT a) a (by have:=qqw ha; omega) (Nat.le_refl _)]
  · rw [List.map_congr_left fun a ha => quK vars k (lenT a) a (by have:=qg6 ha; omega) (Nat.le_refl _)]
structure okA (t:tType):Prop where
  l:lenT t ≤ 4000000
  w:wT t ≤ 4000000
  n:∃ L,allN L t∧L + 10 * (lenT t * lenT t) ≤ 500000000000000
theorem qCe {t a:tType} {L M:Nat} (hl:lenT t ≤ 4000000) (hL:L + 10 * (lenT t * lenT t) ≤ 500000000000000) (h1:lenT a + M < lenT t) (h2:wT a ≤ 4000000) (h3:allN (L + 10 * M) a):okA a where
  l:=by omega
  w:=h2
  n:=by
    refine ⟨L + 10 * M,h3,?_⟩
    have e1:(lenT a + M) * (lenT a + M) ≤ lenT t * lenT t:=Nat.mul_le_mul (by omega) (by omega)
    have e2:(lenT a + M) * (lenT a + M) = lenT a * lenT a + lenT a * M + (M * lenT a + M * M):=by rw [Nat.add_mul,Nat.mul_add,Nat.mul_add]
    have e3:M ≤ M * M:=by
      cases M with
      | zero => omega
      | succ M => exact Nat.le_mul_of_pos_left _ (by omega)
    generalize lenT a * lenT a = A at *
    generalize lenT a * M = B at *
    generalize M * lenT a = C at *
    generalize M * M = D at *
    generalize lenT t * lenT t = E at *
    omega
theorem qD5 {t a:tType} (h:okA t) (ha:a ∈ t.Args):okA a:=by
  obtain ⟨L,h1,h2⟩:=h.n
  exact qCe (M:=0) h.l h2 (by have:=qg6 ha; omega) (by have:=qGo ha; have:=h.w; omega) (qq5 (by omega) a (qB6 h1 ha))
theorem qGI {t a:tType} {vars:List Str} (h:okA t) (ha:a ∈ (apN vars t).2.2):okA a:=by
  obtain ⟨L,h1,h2⟩:=h.n
  have hf:=ql3 (vars:=vars) h1 t.Names.length (Nat.le_refl _)
  refine qCe (M:=t.Names.length) h.l h2 (qqw ha) ?_ ((qks _ _).1 hf.an a ha)
  have h3:=qyf ha
  have h4:=hf.aw
  have h5:=qyZ t
  have h6:=h.w
  have h7:wTL (apN vars t).2.2 ≤ wTL t.Args:=h4
  omega
theorem qG6 {t:tType} {vars:List Str} (h:okA t) (i:Nat) (hi:i < t.Names.length) (x y:Str):∀ a ∈ (apQ vars t.Names t.Args.length (qdm vars t) i).2.2,okS a (sub1 x (varP y)):=fun a ha => by
  obtain ⟨L,h1,h2⟩:=h.n
  have hf:=ql3 (vars:=vars) h1 i (by omega)
  have g1:=qlI ha
  have g2:=qyf ha
  have g3:=hf.at_
  have g4:=hf.aw
  have g5:=qj1 t
  have g6:=qyZ t
  have g7:=h.l
  have g8:=h.w
  have g9:=qIj x (varP y)
  rw [qAF] at g9
  have g10:t.Names.length ≤ lenT t * lenT t:=Nat.le_trans (Nat.le_of_lt (qe4 t)) (Nat.le_mul_of_pos_left _ (qpf t))
  exact { nd:=qC6 _ _,sz:=by omega,w:=by omega,n:=qq5 (by
    generalize lenT t * lenT t = E at *
    omega) a ((qks _ _).1 hf.an a ha) }
theorem qDC (t:tType) (vars:List Str) (h:okA t) (hv:vars.length ≤ 4000000):qlz t vars = some (apT vars t):=by
  refine qfd (F:=qju) (fun x => lenT x.1) (fun x => okA x.1∧x.2 = vars) (fun x => apT x.2 x.1) (fun R x hx ih => ?_) (t,vars) ⟨h,rfl⟩ (qgV (by have:=h.l; unfold bigN; show lenT t ≤ _; omega))
  obtain ⟨t,v'⟩:=x
  obtain ⟨h,he⟩:=hx
  have he:v' = vars:=he
  subst he
  have h:okA t:=h
  have hl:lenT t ≤ 4000000:=h.l
  have hw:wT t ≤ 4000000:=h.w
  have l1:=qhn t
  have l2:=qe4 t
  have l3:=qhN t
  show qgy (fun t vars => R (t,vars)) t v' = some (apT v' t)
  unfold qgy
  rw [qiS _ (by omega),qiS _ (by omega),qiS _ (by omega),qEo]
  simp only [Option.bind_some]
  by_cases ho:t.Op = 6
  · rw [if_pos (by simpa using ho),if_pos ho,qiS _ (by omega),qAp t (by omega) (by omega)]
    simp only [Option.bind_some]
    have f2:=qft t
    rw [qcq (by omega)]
    simp only [Option.bind_some]
    rw [qcq (by rw [List.length_append]; omega)]
    simp only [Option.bind_some]
    obtain ⟨L,hL1,hL2⟩:=h.n
    have hloop:=qoZ t.Names.length (by omega) (fun i (s:List Str×List Str×List tType) => (s.1,i,s.2.1,s.2.2)) (fun (zz:(List Str)×Int×List Str×(List tType)) => qb0 (fun t vars => R (t,vars)) t v' (t.Names.length:Int) t.Names.length zz.1 zz.2.1 zz.2.2.1 zz.2.2.2)
      (fun i => apQ v' t.Names t.Args.length (qdm v' t) i) ((apN v' t).2.1,(apN v' t).2.2) (fun i hi => ?_) ?_
    · have hloop':qii (fun t vars => R (t,vars)) t v' (t.Names.length:Int) t.Names.length ((v' ++ freeT t) ++ t.Names) 0 t.Names t.Args = _:=hloop
      rw [hloop']
      simp only [Option.bind_some]
      rw [qu3 _ _ (qkf v' t).2.1.symm]
      simp only [Option.bind_some]
      unfold qd3 qdN
      have hal:=(qkf v' t).2.2.2
      rw [qdF (apN v' t).2.2 (by omega) (fun i s => (s,i)) _ (fun y => qgu (fun t vars => R (t,vars)) y v') (apT v') id (fun i s => rfl) (fun y hy => by
        have he:=ih (y,v') (by have:=qqw hy; show lenT y < lenT t; omega) ⟨qGI h hy,rfl⟩
        show (R (y,v')).bind (fun r1 => some r1) = _
        rw [he]
        rfl)]
      rfl
    · have hok:=qG6 (vars:=v') h i hi t.Names[i] (qdG (apQ v' t.Names t.Args.length (qdm v' t) i).1 t.Names[i])
      have hf:=ql3 (vars:=v') hL1 i (by omega)
      have hq:apQ v' t.Names t.Args.length (qdm v' t) (i + 1) = apS v' t.Names t.Args.length i (apQ v' t.Names t.Args.length (qdm v' t) i):=rfl
      rw [hq]
      generalize apQ v' t.Names t.Args.length (qdm v' t) i = s at hf hok ⊢
      show qb0 (fun t vars => R (t,vars)) t v' (t.Names.length:Int) t.Names.length s.1 (i:Int) s.2.1 s.2.2 = _
      have hu:=hf.u
      have hsw:=hf.w
      have hsa:=hf.al
      unfold qb0 qiC apS
      rw [if_pos (decide_eq_true (show (i:Int) < (t.Names.length:Int) by omega)),qeY (by omega) (by omega),qmM _ i hi]
      by_cases h1:i + 1 < t.Args.length
      · rw [if_neg (show ¬ (decide ((i:Int) ≥ (t.Args.length:Int) - 1) = true) by simp; omega),qaS _ i hi]
        simp only [Option.bind_some]
        rw [qky v' _ (by omega)]
        simp only [Option.bind_some]
        by_cases h2:t.Names[i] ∈ v'
        · simp only [h2,decide_true,Bool.not_true,Bool.false_eq_true,if_false]
          rw [if_pos ⟨h1,trivial⟩]
          have hnl:t.Names[i].length ≤ L:=((qmG L t).1 hL1).1 _ (List.getElem_mem hi)
          rw [(quI s.1 t.Names[i] (by omega) (by generalize lenT t * lenT t = E at *; omega)).1]
          simp only [Option.bind_some]
          rw [qrt _ s.2.1 i (by omega) (by omega)]
          simp only [Option.bind_some]
          rw [qxF s.2.1 i _ (by omega)]
          simp only [Option.bind_some]
          rw [qrt _ (s.2.1.set i (qdG s.1 t.Names[i])) i (by omega) (by rw [List.length_set]; omega),List.getElem_set_self]
          simp only [Option.bind_some]
          rw [qcq (by simp; omega)]
          simp only [Option.bind_some]
          rw [qCW s.2.2 i t.Names _ hi (by omega) (by omega) (by omega) hok]
          rfl
        · simp only [h2,decide_false,Bool.not_false,if_true]
          rw [if_neg (fun h => h.2)]
      · rw [if_pos (show decide ((i:Int) ≥ (t.Args.length:Int) - 1) = true by simp; omega),if_neg (fun h => h1 h.1)]
        simp only [Option.bind_some,if_true]
    · show qb0 (fun t vars => R (t,vars)) t v' (t.Names.length:Int) t.Names.length _ (t.Names.length:Int) _ _ = _
      unfold qb0
      rw [if_neg (by simp)]
      rfl
  · rw [if_neg (by simpa using ho),if_neg ho,qu3 _ _ rfl]
    simp only [Option.bind_some]
    unfold qd3 qdN
    rw [qdF t.Args (by omega) (fun i s => (s,i)) _ (fun y => qgu (fun t vars => R (t,vars)) y v') (apT v') id (fun i s => rfl) (fun y hy => by
      have he:=ih (y,v') (qg6 hy) ⟨qD5 h hy,rfl⟩
      show (R (y,v')).bind (fun r1 => some r1) = _
      rw [he]
      rfl)]
    rfl
end Go.Proofs.YtgldgpdhblndkaaGreatDoor
