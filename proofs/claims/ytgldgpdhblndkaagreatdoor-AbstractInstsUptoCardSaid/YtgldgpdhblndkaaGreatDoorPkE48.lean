/- WHAT IS PROVED: parts of the proof, put together by a program (In4 Pal Pg PiA). Conditions: none. -/
import Derived.Test.YtgldgpdhblndkaaGreatDoorPkE47
import Derived.Test.YtgldgpdhblndkaaGreatDoorPkE42
import Derived.Test.YtgldgpdhblndkaaGreatDoorPkE40
noncomputable section
namespace Go.Proofs.YtgldgpdhblndkaaGreatDoor
open Go
set_option linter.unusedVariables false
set_option linter.unusedSimpArgs false
theorem qCN (holes:List tHole) (j:Nat) (hj:j < holes.length) (out:List Str) (hl:out.length + holes[j].Params.length ≤ 100000000) :
  ∃ o,qhb holes (j:Int) out 1 = some o∧o.length ≤ out.length + holes[j].Params.length∧∀ x,x ∈ o↔x ∈ out∨x ∈ qnB holes[j]:=by
 have key:∀ (r:List tVar) (k:Nat) (out:List Str),k + r.length = holes[j].Params.length→holes[j].Params.drop k = r→out.length + r.length ≤ 100000000 →
   ∃ o,loop (fun (zz:(List Str)×Int) => qbS holes (j:Int) zz.1 zz.2) (out,(k:Int)) = some o∧o.length ≤ out.length + r.length∧∀ x,x ∈ o↔x ∈ out∨x ∈ r.map (·.Name):=by
  intro r
  induction r with
  | nil =>
   intro k out hk _ _
   refine ⟨out,qez ?_,by simp,by simp⟩
   show qbS holes (j:Int) out (k:Int) = _
   unfold qbS
   rw [qaS _ j hj]
   simp only [Option.bind_some]
   rw [if_neg (by simp at hk ⊢; omega)]
  | cons x r ih =>
   intro k out hk hd ho
   simp only [List.length_cons] at hk ho
   have hkl:k < holes[j].Params.length:=by omega
   rw [List.drop_eq_getElem_cons hkl] at hd
   have hx:holes[j].Params[k] = x:=(List.cons.inj hd).1
   have hr:holes[j].Params.drop (k + 1) = r:=(List.cons.inj hd).2
   have hu:=qeh out [x.Name]
   simp only [List.length_singleton] at hu
   obtain ⟨o,h1,h2,h3⟩:=ih (k + 1) (setU out [x.Name]) (by omega) hr (by omega)
   refine ⟨o,(qhl (body:=fun (zz:(List Str)×Int) => qbS holes (j:Int) zz.1 zz.2) (s:=(out,(k:Int))) (s':=(setU out [x.Name],((k + 1:Nat):Int))) ?_).trans h1,by simp only [List.length_cons]; omega,fun y => ?_⟩
   ·show qbS holes (j:Int) out (k:Int) = _
    unfold qbS
    rw [qaS _ j hj]
    simp only [Option.bind_some]
    rw [if_pos (by simp; omega),qaS _ k hkl,hx]
    simp only [Option.bind_some]
    rw [qcF _ _ (by omega) (by simp)]
    simp only [Option.bind_some]
    rw [qeY (by omega) (by omega)]
    rfl
   ·rw [h3,qeW,List.map_cons]
    simp only [List.mem_cons,List.not_mem_nil,or_false,or_assoc]
 unfold qhb
 by_cases h0:holes[j].Params.length = 0
 ·refine ⟨out,qez ?_,by omega,fun x => ?_⟩
  ·show qbS holes (j:Int) out 1 = _
   unfold qbS
   rw [qaS _ j hj]
   simp only [Option.bind_some]
   rw [if_neg (by simp [h0])]
  ·unfold qnB
   rw [List.eq_nil_of_length_eq_zero h0]
   simp
 ·obtain ⟨o,h1,h2,h3⟩:=key (holes[j].Params.drop 1) 1 out (by rw [List.length_drop]; omega) rfl (by rw [List.length_drop]; omega)
  exact ⟨o,h1,by rw [List.length_drop] at h2; omega,h3⟩
theorem qDe (abs:List tAbs) (holes:List tHole) (ha:abs.length ≤ 1000) (hh:∀ h ∈ holes,h.Params.length ≤ 1000):∃ sc,qpd abs holes = some sc∧sc.length ≤ 1000000∧∀ x,x ∈ sc↔x ∈ scV abs holes:=by
 have main:tot (qjS abs holes (abs.length:Int) [] 0) (fun sc => sc.length ≤ 1000000∧∀ x,x ∈ sc↔∃ (j:Nat) (h:j < abs.length),j < abs.length∧abs.findIdx? (fun a => a.Name == abs[j].Name) = some j∧∃ q,holes[j]? = some q∧x ∈ qnB q):=by
  unfold qjS
  refine quZ abs (by omega) (fun i s => (s,i)) (fun i s x => (qhM abs holes i x.Name).bind fun o5 => if o5 = true then some (.inl (s,w64 (i + 1))) else (qhb holes i s 1).bind fun o12 => some (.inl (o12,w64 (i + 1)))) id
   (fun i s => s.length ≤ 1000 * i∧∀ x,x ∈ s↔∃ (j:Nat) (h:j < abs.length),j < i∧abs.findIdx? (fun a => a.Name == abs[j].Name) = some j∧∃ q,holes[j]? = some q∧x ∈ qnB q) (fun i s => rfl) (fun i hi s hs => ?_) (fun s hs => ⟨by have:=hs.1; show s.length ≤ _; omega,hs.2⟩) [] ⟨by simp,fun x => ⟨(fun h => by cases h),fun ⟨j,_,h,_⟩ => absurd h (Nat.not_lt_zero _)⟩⟩
  have step:∀ (x:Str),(∃ (j:Nat) (h:j < abs.length),j < i + 1∧abs.findIdx? (fun a => a.Name == abs[j].Name) = some j∧∃ q,holes[j]? = some q∧x ∈ qnB q)↔(∃ (j:Nat) (h:j < abs.length),j < i∧abs.findIdx? (fun a => a.Name == abs[j].Name) = some j∧∃ q,holes[j]? = some q∧x ∈ qnB q)∨(abs.findIdx? (fun a => a.Name == abs[i].Name) = some i∧∃ q,holes[i]? = some q∧x ∈ qnB q):=by
   intro x
   constructor
   ·rintro ⟨j,h,h1,h2⟩
    by_cases he:j = i
    ·subst he; exact .inr h2
    ·exact .inl ⟨j,h,by omega,h2⟩
   ·rintro (⟨j,h,h1,h2⟩ | h2)
    ·exact ⟨j,h,by omega,h2⟩
    ·exact ⟨i,hi,by omega,h2⟩
  have hpl:=qCl abs abs[i].Name (by omega)
  have hjj:∃ o,qhM abs holes (i:Int) abs[i].Name = some o∧(o = false↔abs.findIdx? (fun a => a.Name == abs[i].Name) = some i∧i < holes.length):=by
   unfold qhM
   rw [hpl]
   simp only [Option.bind_some]
   cases hf:abs.findIdx? (fun a => a.Name == abs[i].Name) with
   | none => exact ⟨true,by rw [if_pos (show ((none:Option Nat).elim (-1:Int) (fun j => (j:Int)) != (i:Int)) = true by simp only [Option.elim,bne_iff_ne,ne_eq]; omega)],by simp⟩
   | some j =>
    by_cases he:j = i
    ·subst he
     exact ⟨decide ((j:Int) ≥ (holes.length:Int)),by rw [if_neg (show ¬ (((some j:Option Nat).elim (-1:Int) (fun j => (j:Int)) != (j:Int)) = true) by simp)],by simp⟩
    ·exact ⟨true,by rw [if_pos (show ((some j:Option Nat).elim (-1:Int) (fun j => (j:Int)) != (i:Int)) = true by simp only [Option.elim,bne_iff_ne,ne_eq]; omega)],by simp [he]⟩
  obtain ⟨o,ho1,ho2⟩:=hjj
  refine qmJ ho1 (qfX (fun ho => qaQ ⟨s,rfl,by have:=hs.1; omega,fun x => ?_⟩) (fun ho => ?_))
  ·rw [hs.2,step]
   refine ⟨.inl,?_⟩
   rintro (h | ⟨h1,q,h2,h3⟩)
   ·exact h
   ·have hlt:i < holes.length:=by
     by_cases hlt:i < holes.length
     ·exact hlt
     ·rw [List.getElem?_eq_none (by omega)] at h2; cases h2
    have:=ho2.2 ⟨h1,hlt⟩
    rw [ho] at this
    cases this
  ·obtain ⟨h1,h2⟩:=ho2.1 (by simpa using ho)
   have hp:=hh _ (List.getElem_mem h2)
   obtain ⟨o',e1,e2,e3⟩:=qCN holes i h2 s (by have:=hs.1; omega)
   refine qmJ e1 (qaQ ⟨o',rfl,by have:=hs.1; omega,fun x => ?_⟩)
   rw [e3,hs.2,step]
   refine or_congr_right ⟨fun h => ⟨h1,_,List.getElem?_eq_getElem h2,h⟩,?_⟩
   rintro ⟨_,q,hq,h⟩
   rw [List.getElem?_eq_getElem h2] at hq
   cases hq
   exact h
 obtain ⟨sc,e,h1,h2⟩:=main
 refine ⟨sc,?_,h1,fun x => ?_⟩
 ·unfold qpd
  rw [e]
  rfl
 ·rw [h2]
  unfold scV
  rw [List.mem_flatMap]
  constructor
  ·rintro ⟨j,hj,_,hf,q,hq,hx⟩
   refine ⟨abs[j],List.getElem_mem hj,?_⟩
   have:hoF abs holes abs[j].Name = some q:=by unfold hoF; rw [hf]; exact hq
   rw [this]
   exact hx
  ·rintro ⟨a,ha',hx⟩
   cases hf:abs.findIdx? (fun b => b.Name == a.Name) with
   | none =>
    have:hoF abs holes a.Name = none:=by unfold hoF; rw [hf]; rfl
    rw [this] at hx; cases hx
   | some j =>
    obtain ⟨hj,hn,_⟩:=List.findIdx?_eq_some_iff_getElem.1 hf
    have hn:abs[j].Name = a.Name:=by simpa using hn
    have hh':hoF abs holes a.Name = holes[j]?:=by unfold hoF; rw [hf]; rfl
    rw [hh'] at hx
    cases hq:holes[j]? with
    | none => rw [hq] at hx; cases hx
    | some q =>
     rw [hq] at hx
     exact ⟨j,hj,hj,by rw [hn]; exact hf,q,hq,hx⟩
def apU (vars ns:List Str) (n:Nat) (s:S4) (u:List Str):Nat→List Str
 | 0 => u
 | i + 1 => if i + 1 < n∧ns.getD i [] ∈ vars then setU (apU vars ns n s u i) [qdG (apQ vars ns n s i).1 (ns.getD i [])] else apU vars ns n s u i
theorem qEN (vars ns:List Str) (n:Nat) (s:S4) (u:List Str) (h:∀ x,x ∈ u↔x ∈ s.1):∀ i x,x ∈ apU vars ns n s u i↔x ∈ (apQ vars ns n s i).1
 | 0,x => h x
 | i + 1,x => by
  have ih:=qEN vars ns n s u h i
  show x ∈ apU vars ns n s u (i + 1)↔x ∈ (apS vars ns n i (apQ vars ns n s i)).1
  rw [apU]
  unfold apS
  split
  ·rw [qeW,ih]; simp
  ·exact ih x
theorem qDU (vars ns:List Str) (n:Nat) (s:S4) (u:List Str):∀ i,(apU vars ns n s u i).length ≤ u.length + i
 | 0 => by simp [apU]
 | i + 1 => by
  have ih:=qDU vars ns n s u i
  rw [apU]
  split
  ·have:=qeh (apU vars ns n s u i) [qdG (apQ vars ns n s i).1 (ns.getD i [])]
   simp only [List.length_singleton] at this
   omega
  ·omega
theorem qBw (t:tType) (scope vars:List Str) (h:okA t) (hv:scope.length ≤ 4000000) (hs:∀ x,x ∈ scope↔x ∈ vars):qmZ t scope = some ⟨t.Op,t.Name,(apN vars t).2.2,(apN vars t).2.1,t.Pred,t.Preds⟩:=by
 have hl:lenT t ≤ 4000000:=h.l
 have hw:wT t ≤ 4000000:=h.w
 have l1:=qhn t
 have l2:=qe4 t
 unfold qmZ
 rw [qzC t (by omega) (by omega)]
 simp only [Option.bind_some]
 have f1:=qft t
 have f2:=qeh scope (freeT t)
 rw [qcF _ _ (by omega) (by omega)]
 simp only [Option.bind_some]
 rw [qcF _ _ (by omega) (by omega)]
 simp only [Option.bind_some]
 rw [qcq (by simp; omega)]
 simp only [Option.bind_some]
 rw [qcq (by simp; omega)]
 simp only [Option.bind_some,List.nil_append]
 have hu0:∀ x,x ∈ setU (setU scope (freeT t)) t.Names↔x ∈ (qdm vars t).1:=fun x => by
  unfold qdm
  rw [qeW,qeW,hs,List.mem_append,List.mem_append]
 have hul:=qeh (setU scope (freeT t)) t.Names
 generalize setU (setU scope (freeT t)) t.Names = u0 at hu0 hul
 obtain ⟨L,hL1,hL2⟩:=h.n
 have hloop:=qoZ t.Names.length (by omega) (fun i (s:List Str×List Str×List tType) => (s.1,i,s.2.1,s.2.2)) (fun (zz:(List Str)×Int×List Str×List tType) => qcW scope t (t.Names.length:Int) t.Args.length t.Names.length zz.1 zz.2.1 zz.2.2.1 zz.2.2.2)
  (fun i => (apU vars t.Names t.Args.length (qdm vars t) u0 i,(apQ vars t.Names t.Args.length (qdm vars t) i).2)) ((apN vars t).2.1,(apN vars t).2.2) (fun i hi => ?_) ?_
 ·have hloop':qlc scope t (t.Names.length:Int) t.Args.length t.Names.length u0 0 t.Names t.Args = _:=hloop
  rw [hloop']
  simp only [Option.bind_some]
  rw [qu3 _ _ (qkf vars t).2.1.symm]
  simp only [Option.bind_some]
  rw [qu3 _ _ (qkf vars t).2.2.2.symm]
  rfl
 ·have hok:=qG6 (vars:=vars) h i hi t.Names[i] (qdG (apQ vars t.Names t.Args.length (qdm vars t) i).1 t.Names[i])
  have hf:=ql3 (vars:=vars) hL1 i (by omega)
  have hq:apQ vars t.Names t.Args.length (qdm vars t) (i + 1) = apS vars t.Names t.Args.length i (apQ vars t.Names t.Args.length (qdm vars t) i):=rfl
  have hU:apU vars t.Names t.Args.length (qdm vars t) u0 (i + 1) = _:=apU.eq_2 vars t.Names t.Args.length (qdm vars t) u0 i
  have hUm:=qEN vars t.Names t.Args.length (qdm vars t) u0 hu0 i
  have hUl:=qDU vars t.Names t.Args.length (qdm vars t) u0 i
  rw [hq,hU]
  generalize apU vars t.Names t.Args.length (qdm vars t) u0 i = U at hUm hUl ⊢
  generalize apQ vars t.Names t.Args.length (qdm vars t) i = s at hf hok hUm ⊢
  show qcW scope t (t.Names.length:Int) t.Args.length t.Names.length U (i:Int) s.2.1 s.2.2 = _
  have hsw:=hf.w
  have hsa:=hf.al
  have hwi:s.2.1[i]'(by omega) = t.Names[i]:=by
   have:=hf.wk i (Nat.le_refl _)
   rw [List.getElem?_eq_getElem (by omega),List.getElem?_eq_getElem hi] at this
   exact Option.some.inj this
  unfold qcW qlg apS
  rw [if_pos (decide_eq_true (show (i:Int) < (t.Names.length:Int) by omega)),qrt _ s.2.1 i (by omega) (by omega),hwi,qmM _ i hi]
  simp only [Option.bind_some]
  obtain ⟨r,e1,e2,_⟩:=qyi (l:=scope) (v:=t.Names[i]) (by omega)
  rw [e1]
  simp only [Option.bind_some,e2]
  by_cases h2:t.Names[i] ∈ vars
  ·have h2':t.Names[i] ∈ scope:=(hs _).2 h2
   simp only [h2',decide_true,Bool.not_true,Bool.false_eq_true,if_false,Option.bind_some]
   by_cases h1:i + 1 < t.Args.length
   ·rw [if_neg (show ¬ (decide ((w64 ((i:Int) + 1)) ≥ (t.Args.length:Int)) = true) by rw [qeY (by omega) (by omega)]; simp; omega),if_pos ⟨h1,h2⟩,if_pos ⟨h1,h2⟩]
    have hnl:t.Names[i].length ≤ L:=((qmG L t).1 hL1).1 _ (List.getElem_mem hi)
    rw [(quI U t.Names[i] (by omega) (by generalize lenT t * lenT t = E at *; omega)).2.1,qt9 hUm]
    simp only [Option.bind_some]
    rw [qcF _ _ (by omega) (by simp)]
    simp only [Option.bind_some]
    rw [qxF s.2.1 i _ (by omega)]
    simp only [Option.bind_some]
    have hb:=qCU t s.2.2 i (qdG s.1 t.Names[i]) hi (by omega) (by omega) (by omega) hok
    rw [hsa] at hb
    rw [hb]
    rfl
   ·rw [if_pos (show decide ((w64 ((i:Int) + 1)) ≥ (t.Args.length:Int)) = true by rw [qeY (by omega) (by omega)]; simp; omega),if_neg (fun h => h1 h.1),if_neg (fun h => h1 h.1)]
  ·have h2':t.Names[i] ∉ scope:=fun h => h2 ((hs _).1 h)
   simp only [h2',decide_false,Bool.not_false,if_true,Option.bind_some]
   rw [if_neg (fun h => h2 h.2),if_neg (fun h => h2 h.2)]
 ·show qcW scope t (t.Names.length:Int) t.Args.length t.Names.length _ (t.Names.length:Int) _ _ = _
  unfold qcW
  rw [if_neg (by simp)]
  rfl
theorem qyC (vars:List Str):∀ (k:Nat) (t:tType),lenT t ≤ k→lenT (apT vars t) = lenT t∧wT (apT vars t) ≤ wT t
 | 0,t,h => by have:=qpf t; omega
 | k + 1,t,h => by
  have key:∀ (l:List tType),(∀ a ∈ l,lenT a ≤ k)→qdu (l.map (apT vars)) = qdu l∧wTL (l.map (apT vars)) ≤ wTL l:=by
   intro l
   induction l with
   | nil => intro _; exact ⟨rfl,Nat.le_refl _⟩
   | cons a l ih =>
    intro hl
    obtain ⟨h1,h2⟩:=qyC vars k a (hl a (by simp))
    obtain ⟨h3,h4⟩:=ih fun b hb => hl b (by simp [hb])
    rw [List.map_cons,qdu,qdu,wTL,wTL]
    exact ⟨by omega,by omega⟩
  rw [qEo]
  split
  ·obtain ⟨h1,h2⟩:=key (apN vars t).2.2 (fun a ha => by have:=qqw ha; omega)
   obtain ⟨f1,f2,f3,_⟩:=qkf vars t
   refine ⟨?_,?_⟩
   ·rw [lenT,qj1 t,h1,f1,f2]
   ·rw [wT,qyZ t]; omega
  ·obtain ⟨h1,h2⟩:=key t.Args (fun a ha => by have:=qg6 ha; omega)
   refine ⟨?_,?_⟩
   ·rw [lenT,qj1 t,h1]
   ·rw [wT,qyZ t]; omega
mutual
theorem qB4 (B:Nat):∀ (t:tType),wT t ≤ B→allP (fun p => nP p ≤ B) t
 | ⟨o,n,xs,ns,p,ps⟩,h => by
  rw [wT] at h
  rw [allP]
  exact ⟨by omega,fun q hq => by have:=qxw hq; omega,qEn B xs (by omega)⟩
theorem qEn (B:Nat):∀ (l:List tType),wTL l ≤ B→qpj (fun p => nP p ≤ B) l
 | [],_ => trivial
 | a :: xs,h => by
  rw [wTL] at h
  rw [qpj]
  exact ⟨qB4 B a (by omega),qEn B xs (by omega)⟩
end
theorem qAS (t:tType) (abs:List tAbs) (holes:List tHole) (ht:lenT t ≤ bigN) (hp:allP (fun p => nP p ≤ bigN) t) (ha:abs.length < 9223372036854775808) (hh:∀ h ∈ holes,h.Params.length ≤ 1073741823):qhz t abs holes = some (mapT (hoP (hoF abs holes)) t):=by
 refine qfd (F:=qfR) (fun x => lenT x.1) (fun x => lenT x.1 ≤ bigN∧allP (fun p => nP p ≤ bigN) x.1∧x.2 = (abs,holes)) (fun x => mapT (hoP (hoF x.2.1 x.2.2)) x.1) (fun R x hx ih => ?_) (t,abs,holes) ⟨ht,hp,rfl⟩ (qgV ht)
 obtain ⟨t,d',l'⟩:=x
 obtain ⟨hx,hq,he⟩:=hx
 cases he
 have hx:lenT t ≤ bigN:=hx
 obtain ⟨q1,q2,q3⟩:=(qxL _ t).1 hq
 have h1:=qhn t
 have h2:=qhN t
 have h3:=qe4 t
 have hF:∀ y,nP y ≤ bigN→qd6 y abs holes = some (hoP (hoF abs holes) y):=fun y hy => by
  unfold qd6
  rw [qCq y abs holes hy ha hh]
  rfl
 show qdP (fun p d a => R (p,d,a)) t abs holes = some (mapT (hoP (hoF abs holes)) t)
 unfold qdP qiu qhw qf0 qe5
 rw [qiS _ (by unfold bigN at hx; omega),hF _ q1]
 simp only [Option.bind_some]
 rw [qdF t.Preds (by unfold bigN at hx; omega) (fun i s => (s,i)) _ (fun y => qd6 y abs holes) (hoP (hoF abs holes)) id (fun i s => rfl) (fun y hy => hF y (q2 y hy))]
 simp only [Option.bind_some,id]
 rw [qdF t.Args (by unfold bigN at hx; omega) (fun i s => (s,i)) _ (fun y => qfV (fun p d a => R (p,d,a)) y abs holes) (mapT (hoP (hoF abs holes))) id (fun i s => rfl) (fun y hy => by
  have he:=ih (y,abs,holes) (qg6 hy) ⟨by have:=qg6 hy; show lenT y ≤ bigN; omega,(qq7 _ _).1 q3 y hy,rfl⟩
  show (R (y,abs,holes)).bind (fun r1 => some r1) = _
  rw [he]
  rfl)]
 simp only [Option.bind_some,id]
 rw [qEt]
theorem qGf (t:tType) (abs:List tAbs) (holes:List tHole) (h:okA t) (ha:abs.length ≤ 1000) (hh:∀ h ∈ holes,h.Params.length ≤ 1000):qhu t abs holes = some (mapT (hoP (hoF abs holes)) (apT (scV abs holes) t)):=by
 obtain ⟨h1,h2⟩:=qCO abs holes ha hh
 obtain ⟨s1,s2⟩:=qyC (scV abs holes) _ t (Nat.le_refl _)
 have hl:=h.l
 have hw:=h.w
 unfold qhu
 rw [h1]
 simp only [Option.bind_some]
 rw [qDC t _ h (by omega)]
 simp only [Option.bind_some]
 rw [qAS _ abs holes (by unfold bigN; omega) (qB4 bigN _ (by unfold bigN; omega)) (by omega) (fun q hq => by have:=hh q hq; omega)]
 rfl
theorem qFE (t:tType) (abs:List tAbs) (holes:List tHole) (scope vars:List Str) (h:okA t) (hv:scope.length ≤ 4000000) (hs:∀ x,x ∈ scope↔x ∈ vars) (ha:abs.length < 9223372036854775808) (hh:∀ h ∈ holes,h.Params.length ≤ 500000000):qyt t abs holes scope = some (mapT (hoP (hoF abs holes)) (apT vars t)):=by
 refine qfd (F:=qty) (fun x => lenT x.1) (fun x => okA x.1∧x.2 = (abs,holes,scope)) (fun x => mapT (hoP (hoF x.2.1 x.2.2.1)) (apT vars x.1)) (fun R x hx ih => ?_) (t,abs,holes,scope) ⟨h,rfl⟩ (qgV (by have:=h.l; unfold bigN; show lenT t ≤ _; omega))
 obtain ⟨t,d',l',s'⟩:=x
 obtain ⟨h,he⟩:=hx
 cases he
 have h:okA t:=h
 have hl:lenT t ≤ 4000000:=h.l
 have hw:wT t ≤ 4000000:=h.w
 have l1:=qhn t
 have l3:=qhN t
 have hR:∀ y,lenT y < lenT t→okA y→R (y,abs,holes,scope) = some (mapT (hoP (hoF abs holes)) (apT vars y)):=fun y h1 h2 => ih (y,abs,holes,scope) h1 ⟨h2,rfl⟩
 show qoT (fun p d a s => R (p,d,a,s)) t abs holes scope = some (mapT (hoP (hoF abs holes)) (apT vars t))
 have hp:=qF7 (t:=t)
 unfold qoT qp9
 rw [qw8,qEo]
 have hrest:∀ (l:List tType) (ns:List Str),l.length ≤ 1073741824→(∀ y ∈ l,R (y,abs,holes,scope) = some (mapT (hoP (hoF abs holes)) (apT vars y))) →
   ((qmf (⟨t.Pred.Op,t.Pred.Name,t.Pred.N,t.Pred.Kids⟩:tPred) abs holes).bind fun r4 => (qm7 (fun p d a s => R (p,d,a,s)) abs holes t.Preds (t.Preds.length:Int) 0 ([]:List tPred)).bind fun o9 => (qmX (fun p d a s => R (p,d,a,s)) abs holes scope l (l.length:Int) 0 ([]:List tType)).bind fun o14 => some (⟨t.Op,t.Name,o14,ns,r4,o9⟩:tType)) = some (mapT (hoP (hoF abs holes)) ⟨t.Op,t.Name,l.map (apT vars),ns,t.Pred,t.Preds⟩):=fun l ns hll hy => by
  rw [qol,qyY _ abs holes (by omega) ha hh]
  simp only [Option.bind_some]
  unfold qm7 qmX
  rw [qdF t.Preds (by omega) (fun i s => (i,s)) _ (fun y => qmf y abs holes) (hoP (hoF abs holes)) id (fun i s => rfl) (fun y hy => qyY y abs holes (by have:=quM hy; omega) ha hh)]
  simp only [Option.bind_some,id]
  rw [qdF l hll (fun i s => (i,s)) _ (fun y => R (y,abs,holes,scope)) (fun y => mapT (hoP (hoF abs holes)) (apT vars y)) id (fun i s => rfl) hy]
  simp only [Option.bind_some,id]
  rw [qEt]
  show some (tType.mk t.Op t.Name (l.map fun y => mapT (hoP (hoF abs holes)) (apT vars y)) ns (hoP (hoF abs holes) t.Pred) (t.Preds.map (hoP (hoF abs holes)))) = some (tType.mk t.Op t.Name ((l.map (apT vars)).map (mapT (hoP (hoF abs holes)))) ns (hoP (hoF abs holes) t.Pred) (t.Preds.map (hoP (hoF abs holes))))
  rw [List.map_map]
  rfl
 by_cases ho:t.Op = 6
 ·rw [if_pos (by simpa using ho),if_pos ho,qBw t scope vars h hv hs]
  simp only [Option.bind_some]
  have hal:=(qkf vars t).2.2.2
  exact hrest (apN vars t).2.2 (apN vars t).2.1 (by omega) (fun y hy => hR y (by have:=qqw hy; omega) (qGI h hy))
 ·rw [if_neg (by simpa using ho),if_neg ho]
  simp only [Option.bind_some]
  exact hrest t.Args t.Names (by omega) (fun y hy => hR y (qg6 hy) (qD5 h hy))
theorem qGH (t:tType) (abs:List tAbs) (holes:List tHole) (h:okA t) (ha:abs.length ≤ 1000) (hh:∀ h ∈ holes,h.Params.length ≤ 1000):quU t abs holes = some (mapT (hoP (hoF abs holes)) (apT (scV abs holes) t)):=by
 obtain ⟨sc,h1,h2,h3⟩:=qDe abs holes ha hh
 unfold quU
 rw [h1]
 simp only [Option.bind_some]
 rw [qFE t abs holes sc (scV abs holes) h (by omega) h3 (by omega) (fun q hq => by have:=hh q hq; omega)]
 rfl
theorem qEi (t:tType) (ht:lenT t ≤ bigN):tot (qwd t) (fun _ => True):=by
 refine qx6 (F:=qqC) lenT (fun x => lenT x ≤ bigN) (fun _ _ => True) (fun R x hx ih => ?_) t ht (qgV ht)
 show tot (qmy (fun t => R t) x) _
 unfold qmy qn2
 have h1:=qhn x
 refine qdr (R:=fun _ => True) (quZ x.Args (by unfold bigN at hx; omega) (fun i s => (s,i)) (fun i s y => (R y).bind fun r => some (.inl (w64 (s + r),w64 (i + 1)))) id (fun _ _ => True) (fun i s => rfl) (fun i hi s _ => ?_) (fun _ _ => trivial) 1 trivial) (fun a _ => qaQ trivial)
 exact qdr (ih _ (qg6 (List.getElem_mem hi)) (by have:=qg6 (List.getElem_mem hi); omega)) (fun a _ => qaQ ⟨_,rfl,trivial⟩)
theorem qEM (p:tPred) (hp:nP p ≤ bigN):tot (qq6 p) (fun _ => True):=by
 unfold qq6
 rw [qGp p hp,qGw p hp]
 simp only [Option.bind_some]
 exact qfX (fun _ => qaQ trivial) (fun _ => qaQ trivial)
theorem qHS (l:List tType) (hl:qdu l ≤ bigN) (hp:qpj (fun p => nP p ≤ bigN) l):tot (qAY l) (fun _ => True):=by
 refine qx6 (F:=qvN) qdu (fun x => qdu x ≤ bigN∧qpj (fun p => nP p ≤ bigN) x) (fun _ _ => True) (fun R l hx ih => ?_) l ⟨hl,hp⟩ (qgV hl)
 obtain ⟨hl,hp⟩:=hx
 show tot (qsh (fun a => R a) l) _
 unfold qsh qtj
 have h1:=qwj l
 refine qdr (qwl l (by unfold bigN at hl; omega) _ (fun _ => True) (fun _ => True) (fun i => rfl) (fun x hx i => ?_)) (fun a _ => by cases a <;> exact qaQ trivial)
 have hx1:=qlI hx
 have hq:=(qxL _ _).1 ((qq7 _ _).1 hp _ hx)
 have h2:=qhN x
 have h3:=qj1 x
 refine qdr (R:=fun _ => True) ?_ (fun o _ => qfX (fun _ => qaQ trivial) (fun _ => ?_))
 ·unfold qtl
  rw [qw8]
  exact qdr (qEi x (by omega)) fun _ _ => qfX (fun _ => qaQ trivial) fun _ => qfX (fun _ => qaQ trivial) fun _ => qfX (fun _ => qaQ trivial) fun _ => qdr (ih x.Args (by omega) ⟨by omega,hq.2.2⟩) fun _ _ => qaQ trivial
 ·rw [qcq (by unfold bigN at hl; simp; omega)]
  simp only [Option.bind_some]
  unfold qsC
  refine qdr (qwl ([x.Pred] ++ x.Preds) (by unfold bigN at hl; simp; omega) _ (fun _ => True) (fun _ => True) (fun i => rfl) (fun q hq' i => ?_)) (fun a _ => by
   cases a with
   | inl _ => exact qaQ trivial
   | inr _ => exact qaQ ⟨rfl,trivial⟩)
  have hqn:nP q ≤ bigN:=by
   rcases List.mem_append.1 hq' with h | h
   ·rw [List.mem_singleton.1 h]; exact hq.1
   ·exact hq.2.1 q h
  exact qdr (qEM q hqn) fun _ _ => qfX (fun _ => qaQ trivial) (fun _ => qaQ ⟨rfl,trivial⟩)
theorem qxq:qsa = some true:=by kernel_rfl
theorem qvu {X:Type} (n:Nat) (hn:n < 9223372036854775808) {body:Int→Option (Int⊕X)} {Q:X→Prop} (hin:∀ i:Nat,i < n→tot (body (i:Int)) (fun r => r.elim (fun t => t = w64 ((i:Int) + 1)) Q)) (hend:tot (body (n:Int)) (fun r => r.elim (fun _ => False) Q)):tot (loop body 0) Q:=by
 have key:∀ k i,k + i = n→tot (loop body (i:Int)) Q:=by
  intro k
  induction k with
  | zero =>
   intro i hi
   have:i = n:=by omega
   subst this
   obtain ⟨r,e,hr⟩:=hend
   rw [qjj,e]
   cases r with
   | inl _ => exact hr.elim
   | inr y => exact ⟨y,rfl,hr⟩
  | succ k ih =>
   intro i hi
   obtain ⟨r,e,hr⟩:=hin i (by omega)
   rw [qjj,e]
   cases r with
   | inl t =>
    have hr:t = w64 ((i:Int) + 1):=hr
    simp only
    rw [hr,qeY (by omega) (by omega),show ((i:Int) + 1) = ((i + 1:Nat):Int) by omega]
    exact ih (i + 1) (by omega)
   | inr y => exact ⟨y,rfl,hr⟩
 exact key n 0 (by omega)
theorem qDq (t:tType) (ht:lenT t ≤ bigN):tot (qsB t) (fun _ => True):=by
 refine qx6 (F:=qon) lenT (fun x => lenT x ≤ bigN) (fun _ _ => True) (fun R x hx ih => ?_) t ht (qgV ht)
 show tot (qkL (fun t => R t) x) _
 have h1:=qhn x
 have h2:=qe4 x
 unfold bigN at hx
 unfold qkL qmw
 refine qdr (R:=fun _ => True) (qfX (fun _ => qfX (fun _ => qaQ trivial) (fun _ => ?_)) (fun _ => qaQ trivial)) (fun r _ => ?_)
 ·unfold qmr
  refine qdr (R:=fun _ => True) (qvu x.Names.length (by omega) (fun i hi => ?_) ?_) (fun r _ => by cases r <;> exact qaQ trivial)
  ·unfold qhT
   rw [if_pos (decide_eq_true (by omega))]
   unfold qmd
   refine qdr (R:=fun _ => True) (qvu i (by omega) (fun k hk => ?_) ?_) (fun r _ => by
    cases r with
    | inl _ => exact qaQ trivial
    | inr _ => exact qaQ rfl)
   ·unfold qgZ
    rw [if_pos (decide_eq_true (by omega)),qaS _ i hi]
    simp only [Option.bind_some]
    rw [qaS _ k (by omega)]
    simp only [Option.bind_some]
    exact qfX (fun _ => qaQ trivial) (fun _ => qaQ rfl)
   ·unfold qgZ
    rw [if_neg (by simp)]
    exact qaQ trivial
  ·unfold qhT
   rw [if_neg (by simp)]
   exact qaQ trivial
 ·cases r with
  | inl _ => exact qaQ trivial
  | inr _ =>
   simp only
   unfold qmS
   refine qdr (R:=fun _ => True) (qvu x.Args.length (by omega) (fun i hi => ?_) ?_) (fun r _ => by cases r <;> exact qaQ trivial)
   ·unfold qhF
    rw [if_pos (decide_eq_true (by omega)),qaS _ i hi]
    simp only [Option.bind_some]
    exact qdr (ih _ (qg6 (List.getElem_mem hi)) (by have:=qg6 (List.getElem_mem hi); unfold bigN; omega)) (fun b _ => qfX (fun _ => qaQ trivial) (fun _ => qaQ rfl))
   ·unfold qhF
    rw [if_neg (by simp)]
    exact qaQ trivial
theorem qDz (abs:List tAbs) (holes:List tHole) (hl:holes.length < 9223372036854775808):tot (qrD abs holes) (fun b => b = true→abs.length ≤ 8∧∀ h ∈ holes,h.Params.length ≤ 8):=by
 unfold qrD qor
 refine qdr (qwl holes hl _ (fun h => h.Params.length ≤ 8) (fun _ => True) (fun i => rfl) (fun x hx i => ?_)) (fun r hr => ?_)
 ·exact qfX (fun _ => qaQ trivial) (fun h => qaQ ⟨rfl,Nat.not_lt.1 fun e => h (decide_eq_true (show ((x.Params.length:Nat):Int) > 8 by omega))⟩)
 ·cases r with
  | inl _ => exact qaQ (fun h => by cases h)
  | inr _ => exact qfX (fun h => qaQ (fun _ => ⟨by have:=of_decide_eq_true h; omega,hr⟩)) (fun _ => qaQ (fun h => by cases h))
theorem qIk (t:tType) (h:pmL (qac t) ≤ 1048576):okA t where
 l:=by have:=qxZ t; omega
 w:=by have:=qHp t; omega
 n:=by
  refine ⟨1048576,qFd 1048576 t h,?_⟩
  have h1:lenT t ≤ 1048576:=by have:=qxZ t; omega
  have h2:=Nat.mul_le_mul h1 h1
  omega
theorem qCS (t:tType) (abs:List tAbs) (holes:List tHole) (h:pmL (qac t) + (pm (sl qap abs) + (pm (sl qai holes) + 0)) ≤ 1048576):qiz t abs holes = some true:=by
 have ht:pmL (qac t) ≤ 1048576:=by omega
 have ok:=qIk t ht
 have hl:lenT t ≤ 1048576:=by have:=qxZ t; omega
 have hw:wT t ≤ 1048576:=by have:=qHp t; omega
 have hho:holes.length < 9223372036854775808:=by
  have h1:=qys (holes.map qai) (fun x hx => by
   obtain ⟨s,_,rfl⟩:=List.mem_map.1 hx
   rw [qkP]; simp only [pmL,pm]; omega)
  rw [List.length_map] at h1
  simp only [pm,sl] at h
  omega
 have hP:qpj (fun p => nP p ≤ bigN) [t]:=by
  rw [qpj]
  exact ⟨qB4 bigN t (by unfold bigN; omega),trivial⟩
 rw [← qHZ]
 unfold qiz qfW
 refine qdr (R:=fun b => b = false→abs.length ≤ 8∧∀ h ∈ holes,h.Params.length ≤ 8) (qdr (qHS [t] (by simp [qdu]; unfold bigN; omega) hP) fun b _ => qfX (fun _ => qaQ (fun h => by cases h)) fun _ => qdr (qDq t (by unfold bigN; omega)) fun b _ => qfX (fun _ => qaQ (fun h => by cases h)) fun _ => qdr (qDz abs holes hho) fun b hb => qaQ (fun h => hb (by simpa using h))) fun b hb => qfX (fun _ => qmJ qxq (qaQ rfl)) fun hn => ?_
 obtain ⟨ha,hh⟩:=hb (by simpa using hn)
 have hh2:∀ h ∈ holes,h.Params.length ≤ 1000:=fun q hq => by have:=hh q hq; omega
 have hp:=qF7 (t:=t)
 rw [qGf t abs holes ok (by omega) hh2,qGH t abs holes ok (by omega) hh2]
 simp only [Option.bind_some]
 obtain ⟨s1,s2⟩:=qyC (scV abs holes) _ t (Nat.le_refl _)
 have hQ:allP (fun p => nP p ≤ bigN) (mapT (hoP (hoF abs holes)) (apT (scV abs holes) t)):=qCc _ (fun p (hp:nP p ≤ 1048576) => by
  have:=qHb (hoF abs holes) 8 (fun n q hq => qvP hh n q hq) p
  unfold bigN; omega) _ (qB4 1048576 (apT (scV abs holes) t) (by omega))
 have hL:lenT (mapT (hoP (hoF abs holes)) (apT (scV abs holes) t)) ≤ bigN:=by rw [qCF,s1]; unfold bigN; omega
 generalize mapT (hoP (hoF abs holes)) (apT (scV abs holes) t) = u at hQ hL
 rw [qA7 u hL hQ]
 simp only [Option.bind_some,if_true]
 rw [qCq t.Pred abs holes (by unfold bigN; omega) (by omega) (fun q hq => by have:=hh q hq; omega),qyY t.Pred abs holes (by omega) (by omega) (fun q hq => by have:=hh q hq; omega)]
 simp only [Option.bind_some]
 have hn:=qHb (hoF abs holes) 8 (fun n q hq => qvP hh n q hq) t.Pred
 rw [quO _ _ (by unfold bigN; omega)]
 simp only [Option.bind_some,decide_true,if_true]
 exact qmJ qxq (qaQ rfl)
end Go.Proofs.YtgldgpdhblndkaaGreatDoor
