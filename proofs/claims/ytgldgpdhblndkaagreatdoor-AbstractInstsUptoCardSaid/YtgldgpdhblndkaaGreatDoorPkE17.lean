/- WHAT IS PROVED: parts of the proof, put together by a program (AbsX3). Conditions: none. -/
import Derived.Test.YtgldgpdhblndkaaGreatDoorPkE16
noncomputable section
namespace Go.Proofs.YtgldgpdhblndkaaGreatDoor
open Go
def qr1 (o:Oper):List Rs:=match o.dst with
 | some d => [(false,d,0)]
 | none => []
def qvI (P:Program) (GE:List (Nat×List PVal)) (bi:Option (Nat×PBox)) (rw:List Nat) (ops:Array Oper) (o:Oper) (id:Nat) (s s':PSt) (rs:List Rs):Prop :=
 match o.guard with
 | none => StepD P GE bi rw o id s s' rs
 | some (j,want) => ∃ x,qn6 ops s.tmps j = some x∧(x = some want→StepD P GE bi rw o id s s' rs)∧(x ≠ some want→s' = putv s o.dst (.val undef) [] s.boxes∧rs = qr1 o)
def qj4 (P:Program) (GE:List (Nat×List PVal)) (bid:Nat→Option (Nat×PBox)) (rw:List Nat) (ops:Array Oper) (K:List (List Rs)→PSt→Prop):List Oper→Nat→List (List Rs)→PSt→Prop
 | [],_,lg,st => K lg st
 | o :: rest,id,lg,st =>
  match o.guard with
  | none => ∃ s' rs,StepD P GE (bid lg.length) rw o id st s' rs∧qj4 P GE bid rw ops K rest (id + if qak o.op then 1 else 0) (lg ++ [rs]) s'
  | some (j,want) => match qn6 ops st.tmps j with
   | some x => (x = some want→∃ s' rs,StepD P GE (bid lg.length) rw o id st s' rs∧qj4 P GE bid rw ops K rest (id + if qak o.op then 1 else 0) (lg ++ [rs]) s') ∧
     (x ≠ some want→qj4 P GE bid rw ops K rest (id + if qak o.op then 1 else 0) (lg ++ [qr1 o]) (putv st o.dst (.val undef) [] st.boxes))
   | none => False
section
variable {P:Program} {GE:List (Nat×List PVal)}
theorem qr7 {bid:Nat→Option (Nat×PBox)} {rw:List Nat} {ops:Array Oper} {K:List (List Rs)→PSt→Prop}:∀ (rest:List Oper) (id:Nat) (lg:List (List Rs)) (st:PSt),qj4 P GE bid rw ops K rest id lg st →
  ∃ (T:Nat→PSt) (R:List (List Rs)),T 0 = st∧R.length = rest.length∧K (lg ++ R) (T rest.length)∧∀ (k:Nat) o,rest[k]? = some o→qvI P GE (bid (lg.length + k)) rw ops o (id + qa8 (rest.take k)) (T k) (T (k + 1)) (R.getD k [])
 | [],id,lg,st,h => ⟨fun _ => st,[],rfl,rfl,by simpa [qj4] using h,by simp⟩
 | o :: rest,id,lg,st,h => by
  have hcnt:qa8 [o] = if qak o.op then 1 else 0:=by unfold qa8; simp only [List.filter_cons,List.filter_nil]; split <;> rfl
  have fin:∀ st' rs,qvI P GE (bid lg.length) rw ops o id st st' rs→qj4 P GE bid rw ops K rest (id + if qak o.op then 1 else 0) (lg ++ [rs]) st' →
    ∃ (T:Nat→PSt) (R:List (List Rs)),T 0 = st∧R.length = rest.length + 1∧K (lg ++ R) (T (rest.length + 1))∧∀ (k:Nat) o',(o :: rest)[k]? = some o'→qvI P GE (bid (lg.length + k)) rw ops o' (id + qa8 ((o :: rest).take k)) (T k) (T (k + 1)) (R.getD k []):=by
   intro st' rs h1 h2
   obtain ⟨T,R,t0,tl,t1,t2⟩:=qr7 rest _ _ st' h2
   refine ⟨fun k => match k with | 0 => st | k + 1 => T k,rs :: R,rfl,by simp [tl],by simpa using t1,fun k o' ho' => ?_⟩
   cases k with
   | zero => simp at ho'; subst ho'; simp only [List.getD_cons_zero]; rw [t0]; simpa [qa8] using h1
   | succ k =>
    have:=t2 k o' (by simpa using ho')
    have he:id + (if qak o.op then 1 else 0) + qa8 (rest.take k) = id + qa8 ((o :: rest).take (k + 1)):=by
     simp only [List.take_succ_cons]
     have:qa8 (o :: rest.take k) = qa8 [o] + qa8 (rest.take k):=by
      unfold qa8; simp only [List.filter_cons,List.filter_nil]; split <;> simp <;> omega
     rw [this,hcnt]; omega
    rw [he,show (lg ++ [rs]).length + k = lg.length + (k + 1) by simp; omega] at this
    simpa using this
  simp only [qj4] at h
  simp only [List.length_cons]
  split at h
  ·rename_i hg
   obtain ⟨s',rs,h1,h2⟩:=h
   exact fin s' rs (by unfold qvI; rw [hg]; exact h1) h2
  ·rename_i j want hg
   split at h
   ·rename_i x hx
    by_cases hw:x = some want
    ·obtain ⟨s',rs,h1,h2⟩:=h.1 hw
     exact fin s' rs (by unfold qvI; rw [hg]; exact ⟨x,hx,fun _ => h1,fun hn => absurd hw hn⟩) h2
    ·exact fin _ _ (by unfold qvI; rw [hg]; exact ⟨x,hx,fun hy => absurd hy hw,fun _ => ⟨rfl,rfl⟩⟩) (h.2 hw)
   ·exact h.elim
end
def drawD (P:Program) (l:List Oper) (n:Nat) (an:List Nat):Bool :=
 let before (i j:Nat):Bool:=(an.getD j 0).testBit i
 let idx:=List.range l.length
 (an.length == l.length && idx.all fun j => qfZ an (l.getD j default) == an.getD j 0) &&
 (l.all (fun o => o.dst.all fun d => decide (d < n)) &&
 idx.all (fun j => (l.getD j default).after.all fun e => !Region.binds .any e || decide (e.on < j)) &&
 idx.all (fun j => idx.all fun i => i == j || (l.getD i default).dst == none || (l.getD i default).dst != (l.getD j default).dst) &&
 idx.all (fun j => (looks l.toArray (l.getD j default)).all fun t => idx.all fun i => i == j || (l.getD i default).dst != some t || (if i < j then before i j else before j i)) &&
 idx.all (fun j => idx.all fun i => !(decide (i < j)) || qas P (l.getD i default).op < 2 || qas P (l.getD j default).op < 2 || (qas P (l.getD i default).op != 3 && qas P (l.getD j default).op != 3) || before i j))
def logD (an:List Nat) (lg:List (List Rs)):Bool :=
 let idx:=List.range lg.length
 idx.all fun j => (lg.getD j []).all fun r => idx.all fun i => !(decide (i < j)) || !((lg.getD i []).contains r) || (an.getD j 0).testBit i
structure DrawnD (P:Program) (ops:Array Oper) (n:Nat):Prop where
 f1:∀ (k:Nat) o d,ops[k]? = some o→o.dst = some d→d < n
 f2:∀ (k:Nat) o,ops[k]? = some o→∀ e ∈ o.after.toList,Region.binds .any e = true→e.on < k
 f3:∀ (i j:Nat) oi oj d,ops[i]? = some oi→ops[j]? = some oj→i ≠ j→oi.dst = some d→oj.dst ≠ some d
 f4:∀ (j:Nat) oj t,ops[j]? = some oj→t ∈ looks ops oj→∀ (i:Nat) oi,ops[i]? = some oi→i ≠ j→oi.dst = some t→(i < j∧bf ops i j)∨(j < i∧bf ops j i)
 f5:∀ (i j:Nat) oi oj,ops[i]? = some oi→ops[j]? = some oj→i < j→qas P oi.op < 2∨qas P oj.op < 2∨(qas P oi.op ≠ 3∧qas P oj.op ≠ 3)∨bf ops i j
theorem qxW {an an':List Nat} {o:Oper} (h:∀ e ∈ o.after.toList,Region.binds .any e = true→an.getD e.on 0 = an'.getD e.on 0):qfZ an o = qfZ an' o:=by
 unfold qfZ
 have key:∀ (l:List Edge) (s:Nat),(∀ e ∈ l,Region.binds .any e = true→an.getD e.on 0 = an'.getD e.on 0) →
   l.foldl (fun s e => if Region.binds .any e then s ||| 2 ^ e.on ||| an.getD e.on 0 else s) s = l.foldl (fun s e => if Region.binds .any e then s ||| 2 ^ e.on ||| an'.getD e.on 0 else s) s:=by
  intro l
  induction l with
  | nil => intro s _; rfl
  | cons e l ih =>
   intro s h
   simp only [List.foldl_cons]
   rw [ih _ fun e he => h e (by simp [he])]
   by_cases hb:Region.binds .any e = true
   ·rw [if_pos hb,if_pos hb,h e (by simp) hb]
   ·rw [if_neg hb,if_neg hb]
 exact key _ _ h
theorem qHe {l:List Oper} {an:List Nat} (hlen:an.length = l.length) (ha:∀ j,j < l.length→qfZ an (l.getD j default) = an.getD j 0)
  (hedge:∀ j,j < l.length→∀ e ∈ (l.getD j default).after.toList,Region.binds .any e = true→e.on < j):ancs l = an:=by
 have key:∀ k,k ≤ l.length→ancs (l.take k) = an.take k:=by
  intro k
  induction k with
  | zero => intro _; simp [ancs]
  | succ k ih =>
   intro hk
   have ih:=ih (by omega)
   have hl:l.take (k + 1) = l.take k ++ [l.getD k default]:=by
    rw [List.take_add_one,List.getD_eq_getElem?_getD]
    simp [show k < l.length by omega]
   have han:an.take (k + 1) = an.take k ++ [an.getD k 0]:=by
    rw [List.take_add_one,List.getD_eq_getElem?_getD]
    simp [show k < an.length by omega]
   have hstep:ancs (l.take k ++ [l.getD k default]) = ancs (l.take k) ++ [qfZ (ancs (l.take k)) (l.getD k default)]:=by
    unfold ancs; rw [List.foldl_append]; rfl
   rw [hl,hstep,ih,han,← ha k (by omega)]
   congr 2
   refine qxW fun e he hb => ?_
   have:=hedge k (by omega) e he hb
   rw [List.getD_eq_getElem?_getD,List.getD_eq_getElem?_getD,List.getElem?_take_of_lt this]
 have:=key l.length (Nat.le_refl _)
 rwa [List.take_length,← hlen,List.take_length] at this
theorem qDb {P:Program} {ops:Array Oper} {n:Nat} {an:List Nat} (h:drawD P ops.toList n an = true):DrawnD P ops n∧ancs ops.toList = an:=by
 unfold drawD at h
 simp only [Bool.and_eq_true,List.all_eq_true,List.mem_range,Bool.or_eq_true,Bool.not_eq_true',decide_eq_true_eq,bne_iff_ne,ne_eq,beq_iff_eq,Array.all_eq_true_iff_forall_mem,Option.all_eq_true] at h
 obtain ⟨⟨ha1,ha2⟩,⟨⟨⟨h1,h2⟩,h3⟩,h4⟩,h5⟩:=h
 have hl:∀ {k:Nat} {o},ops[k]? = some o→ops.toList[k]? = some o:=fun hk => by simpa using hk
 have han:ancs ops.toList = an:=by
  refine qHe ha1 ha2 fun j hj e he hb => ?_
  rcases h2 j hj e (by simpa using he) with hx | hx
  ·rw [hb] at hx; cases hx
  ·exact hx
 refine ⟨⟨fun k o d hk hd => ?_,fun k o hk e he hb => ?_,fun i j oi oj d hi hj hij hd hd' => ?_,fun j oj t hj ht i oi hi hij hd => ?_,fun i j oi oj hi hj hij => ?_⟩,han⟩
 ·exact h1 o (List.mem_of_getElem? (hl hk)) d hd
 ·have:=h2 k (qae (hl hk)) e (by rw [qqq (hl hk)]; simpa using he)
  rcases this with hx | hx
  ·rw [hb] at hx; cases hx
  ·exact hx
 ·have:=h3 j (qae (hl hj)) i (qae (hl hi))
  rw [qqq (hl hi),qqq (hl hj)] at this
  rcases this with (hx | hx) | hx
  ·exact hij hx
  ·rw [hd] at hx; cases hx
  ·exact hx (hd.trans hd'.symm)
 ·have:=h4 j (qae (hl hj)) t (by rw [qqq (hl hj)]; exact ht) i (qae (hl hi))
  rw [qqq (hl hi)] at this
  unfold bf
  rw [han]
  rcases this with (hx | hx) | hx
  ·exact absurd hx hij
  ·exact absurd hd hx
  ·by_cases hlt:i < j
   ·rw [if_pos hlt] at hx; exact .inl ⟨hlt,hx⟩
   ·rw [if_neg hlt] at hx; exact .inr ⟨by omega,hx⟩
 ·have:=h5 j (qae (hl hj)) i (qae (hl hi))
  rw [qqq (hl hi),qqq (hl hj)] at this
  unfold bf
  rw [han]
  rcases this with (((hx | hx) | hx) | hx) | hx
  ·rw [decide_eq_false_iff_not] at hx; exact absurd hij hx
  ·exact .inl hx
  ·exact .inr (.inl hx)
  ·exact .inr (.inr (.inl hx))
  ·exact .inr (.inr (.inr hx))
theorem qEp {an:List Nat} {lg:List (List Rs)} (h:logD an lg = true) {i j:Nat} {r:Rs} (hij:i < j) (hi:r ∈ lg.getD i []) (hj:r ∈ lg.getD j []):(an.getD j 0).testBit i = true:=by
 unfold logD at h
 simp only [List.all_eq_true,List.mem_range,Bool.or_eq_true,Bool.not_eq_true',decide_eq_false_iff_not,List.contains_eq_mem] at h
 have hjl:j < lg.length:=by
  by_cases hx:j < lg.length
  ·exact hx
  ·rw [List.getD_eq_getElem?_getD,List.getElem?_eq_none (by omega)] at hj; simp at hj
 rcases h j hjl r hj i (by omega) with (hx | hx) | hx
 ·exact absurd hij hx
 ·exact absurd hi hx
 ·exact hx
section
variable {P:Program} {GE:List (Nat×List PVal)} {bid:Nat→Option (Nat×PBox)} {rw:List Nat} {ops:Array Oper} {n base:Nat} {T:Nat→PSt} {R:Nat→List Rs}
structure TraceD (P:Program) (GE:List (Nat×List PVal)) (bid:Nat→Option (Nat×PBox)) (rw:List Nat) (ops:Array Oper) (n base:Nat) (T:Nat→PSt) (R:Nat→List Rs):Prop where
 len:(T 0).tmps.length = n
 step:∀ (k:Nat) o,ops[k]? = some o→qvI P GE (bid k) rw ops o (base + qa8 (ops.toList.take k)) (T k) (T (k + 1)) (R k)
 log:∀ (i j:Nat) r,i < j→r ∈ R i→r ∈ R j→bf ops i j
 row0:∀ i ∈ rw,∀ k e,¬ hasT (T 0) (true,(i,k),e)
 rowl:∀ j,j < ops.size→∀ i ∈ rw,∀ k,(true,i,k) ∉ R j
 binj:∀ (j k i:Nat) B B',bid j = some (i,B)→bid k = some (i,B')→j = k
theorem qFF {o:Oper} {s:PSt}:DEff P o s (putv s o.dst (.val undef) [] s.boxes) (qr1 o):=by
 unfold qr1
 cases hd:o.dst with
 | none => exact ⟨by rw [hd]; rfl,fun _ => rfl,fun τ _ h => h⟩
 | some d =>
  refine ⟨by rw [hd]; exact ⟨_,rfl⟩,fun _ => rfl,?_⟩
  rintro ⟨b,⟨t,k⟩,e⟩ hr hh
  cases b with
  | true => exact hh
  | false => exact (qcG (by simpa [putv] using qbJ.1 hh)).1
theorem qvI.eff {bi:Option (Nat×PBox)} {o:Oper} {id:Nat} {s s':PSt} {rs:List Rs} (h:qvI P GE bi rw ops o id s s' rs):DEff P o s s' rs:=by
 unfold qvI at h
 split at h
 ·exact h.eff
 ·obtain ⟨x,_,h1,h2⟩:=h
  by_cases hx:x = some ‹Bool›
  ·exact (h1 hx).eff
  ·obtain ⟨rfl,rfl⟩:=h2 hx; exact qFF
theorem TraceD.all (hT:TraceD P GE bid rw ops n base T R):∀ k,k ≤ ops.size→(T k).tmps.length = n:=by
 intro k
 induction k with
 | zero => intro _; exact hT.len
 | succ k ih =>
  intro hk
  have h1:=ih (by omega)
  have hok:ops[k]? = some ops[k]:=by simp [show k < ops.size by omega]
  have he:=(hT.step k _ hok).eff.tm
  split at he
  ·obtain ⟨p,he⟩:=he; rw [he]; simp [h1]
  ·rw [he]; exact h1
theorem TraceD.between (hT:TraceD P GE bid rw ops n base T R) {t:Nat}:∀ (m k:Nat),k + m ≤ ops.size→(∀ (i:Nat) o,k ≤ i→i < k + m→ops[i]? = some o→o.dst ≠ some t)→(T (k + m)).tmps[t]? = (T k).tmps[t]?:=by
 intro m
 induction m with
 | zero => intro k _ _; rfl
 | succ m ih =>
  intro k hk hne
  have hok:ops[k + m]? = some ops[k + m]:=by simp [show k + m < ops.size by omega]
  have he:=(hT.step _ _ hok).eff.tm
  have hn:=hne (k + m) _ (by omega) (by omega) hok
  have ih:=ih k (by omega) fun i o h1 h2 => hne i o h1 (by omega)
  rw [← ih,show k + (m + 1) = k + m + 1 from rfl]
  split at he
  ·rename_i d hd
   obtain ⟨p,he⟩:=he
   rw [he,List.getElem?_set_ne (fun e => hn (by rw [hd,e]))]
  ·rw [he]
theorem TraceD.boxes (hT:TraceD P GE bid rw ops n base T R):∀ (m k:Nat),k + m ≤ ops.size→(∀ (i:Nat) o,k ≤ i→i < k + m→ops[i]? = some o→qas P o.op ≠ 3)→(T (k + m)).boxes.map qbs = (T k).boxes.map qbs:=by
 intro m
 induction m with
 | zero => intro k _ _; rfl
 | succ m ih =>
  intro k hk hne
  have hok:ops[k + m]? = some ops[k + m]:=by simp [show k + m < ops.size by omega]
  rw [show k + (m + 1) = k + m + 1 from rfl,(hT.step _ _ hok).eff.bx (hne (k + m) _ (by omega) (by omega) hok)]
  exact ih k (by omega) fun i o h1 h2 => hne i o h1 (by omega)
theorem TraceD.boxes_eq (hT:TraceD P GE bid rw ops n base T R) {k m:Nat} (hk:k ≤ ops.size) (hm:m ≤ ops.size) (h:∀ (i:Nat) o,ops[i]? = some o→qas P o.op = 3→(i < k↔i < m)):(T k).boxes.map qbs = (T m).boxes.map qbs:=by
 rcases Nat.le_total k m with hle | hle
 ·have:=hT.boxes (m - k) k (by omega) fun i o h1 h2 ho hc => by have:=(h i o ho hc); omega
  rw [show k + (m - k) = m from by omega] at this
  exact this.symm
 ·have:=hT.boxes (k - m) m (by omega) fun i o h1 h2 ho hc => by have:=(h i o ho hc); omega
  rw [show m + (k - m) = k from by omega] at this
  exact this
theorem TraceD.back (hT:TraceD P GE bid rw ops n base T R) {τ:Tok}:∀ (m k:Nat),k + m ≤ ops.size→(∀ i,k ≤ i→i < k + m→qdM τ ∉ R i)→hasT (T (k + m)) τ→hasT (T k) τ:=by
 intro m
 induction m with
 | zero => intro k _ _ h; exact h
 | succ m ih =>
  intro k hk hne h
  have hok:ops[k + m]? = some ops[k + m]:=by simp [show k + m < ops.size by omega]
  exact ih k (by omega) (fun i h1 h2 => hne i h1 (by omega)) ((hT.step _ _ hok).eff.back τ (hne _ (by omega) (by omega)) h)
theorem TraceD.norow (hT:TraceD P GE bid rw ops n base T R) {q i k:Nat} {e:TypeId} (hq:q ≤ ops.size) (hi:i ∈ rw):¬ hasT (T q) (true,(i,k),e):=fun h => by
 have:=hT.back (τ:=(true,(i,k),e)) q 0 (by omega) (fun j _ h2 hr => hT.rowl j (by omega) i hi k (by simpa [qdM] using hr)) (by rw [Nat.zero_add]; exact h)
 exact hT.row0 i hi k e this
variable {E:Ent} {bs0:qbj} {ds:List Deferred}
structure DInvD (P:Program) (E:Ent) (bid:Nat→Option (Nat×PBox)) (ops:Array Oper) (n base:Nat) (T:Nat→PSt) (R:Nat→List Rs) (bs0:qbj) (ds:List Deferred) (listed:Array Bool) (a:Act) (w:World):Prop where
 size:listed.size = ops.size
 defers:a.defers = ds
 down:Down ops listed
 ex:∃ Γ bs ow st,SR P E Γ bs ow w a.tmps st∧qHv bs0 bs∧st.tmps.length = n ∧
  (∀ (k:Nat) o d,ops[k]? = some o→o.dst = some d→qcN listed k→st.tmps[d]? = (T ops.size).tmps[d]?) ∧
  (∀ t,(∀ (k:Nat) o,ops[k]? = some o→qcN listed k→o.dst ≠ some t)→st.tmps[t]? = (T 0).tmps[t]?) ∧
  (∃ m,m ≤ ops.size∧(∀ (i:Nat) o,ops[i]? = some o→qas P o.op = 3→(qcN listed i↔i < m))∧st.boxes.map qbs = (T m).boxes.map qbs) ∧
  (∀ (i:Nat) o,ops[i]? = some o→qak o.op = true→¬ qcN listed i→bs[idAt ops base i]? = some none∧st.boxes[idAt ops base i]? = qkF P o) ∧
  (∀ (τ:Tok) (m:Nat),m ≤ ops.size→(∀ k,k < ops.size→qdM τ ∈ R k→(qcN listed k↔k < m))→hasT (T m) τ→hasT st τ) ∧
  (∀ (k i:Nat) B,k < ops.size→bid k = some (i,B)→¬ qcN listed k→bs[i]? = some none∧st.boxes[i]? = some B)
theorem qC3 (hD:DrawnD P ops n) (hT:TraceD P E.GE bid rw ops n base T R) (hbase:bs0.length ≤ base) (hbd:∀ (k i:Nat) B,bid k = some (i,B)→bs0.length ≤ i∧i < base) {listed:Array Bool} {a:Act} {w:World} (hI:DInvD P E bid ops n base T R bs0 ds listed a w) {j:Nat} (hj:j ∈ Region.ready .any ops listed)
  (Q:Exit→Act→World→Prop):wpOp P ops Q j (DInvD P E bid ops n base T R bs0 ds (listed.setIfInBounds j true)) a w:=by
 obtain ⟨hj0,oj,hoj,hja⟩:=mem_ready.1 hj
 have hjs:j < ops.size:=(Array.getElem?_eq_some_iff.1 hoj).1
 have hnl:¬ qcN listed j:=by
  unfold qcN
  have:j < listed.size:=by rw [hI.size]; exact hjs
  simp [this] at hj0 ⊢
  exact hj0
 have haft:∀ e ∈ oj.after.toList,Region.binds .any e = true→qcN listed e.on:=fun e he hb => hja e (by simpa using he) hb
 have hbf:∀ i,bf ops i j→qcN listed i:=qzv hI.down j oj hoj haft
 have hbf':∀ (i:Nat) oi,ops[i]? = some oi→bf ops j i→¬ qcN listed i:=fun i oi hi hb hli => hnl (qzv hI.down i oi hi (hI.down i oi hi hli) j hb)
 obtain ⟨Γ,bs,ow,st,hS,hK,hlen,ht1,ht2,⟨m,hm,hmw,hmb⟩,hun,htk,hub⟩:=hI.ex
 have hop:∀ k,k < ops.size→∃ o,ops[k]? = some o:=fun k hk => ⟨_,Array.getElem?_eq_getElem hk⟩
 have hlook:∀ t,t ∈ looks ops oj→st.tmps[t]? = (T j).tmps[t]?:=by
  intro t ht
  by_cases hex:∃ i oi,ops[i]? = some oi∧i ≠ j∧oi.dst = some t
  ·obtain ⟨i,oi,hoi,hij,hdi⟩:=hex
   have honly:∀ (k:Nat) o,ops[k]? = some o→o.dst = some t→k = i:=fun k o ho hdk => by
    by_cases hki:k = i
    ·exact hki
    ·exact absurd hdi (hD.f3 k i o oi t ho hoi hki hdk)
   rcases hD.f4 j oj t hoj ht i oi hoi hij hdi with ⟨hlt,hb⟩ | ⟨hlt,hb⟩
   ·rw [ht1 i oi t hoi hdi (hbf i hb)]
    have:=hT.between (t:=t) (ops.size - j) j (by omega) fun k o h1 h2 ho hk => by have:=honly k o ho hk; omega
    rwa [show j + (ops.size - j) = ops.size from by omega] at this
   ·rw [ht2 t fun k o ho hlk hk => by have:=honly k o ho hk; subst this; exact hbf' k o ho hb hlk]
    have:=hT.between (t:=t) j 0 (by omega) fun k o h1 h2 ho hk => by have:=honly k o ho hk; omega
    rw [Nat.zero_add] at this
    exact this.symm
  ·rw [ht2 t fun k o ho hlk hk => hex ⟨k,o,ho,fun e => by subst e; exact hnl hlk,hk⟩]
   have:=hT.between (t:=t) j 0 (by omega) fun k o h1 h2 ho hk => hex ⟨k,o,ho,by omega,hk⟩
   rw [Nat.zero_add] at this
   exact this.symm
 have hopv:∀ x ∈ oj.op.operands.toList,opv E.GE (T j).tmps x = opv E.GE st.tmps x:=by
  intro x hx
  cases x with
  | tmp t =>
   have:t ∈ looks ops oj:=List.mem_append_left _ (List.mem_filterMap.2 ⟨.tmp t,hx,rfl⟩)
   show (T j).tmps.getD t .undef = st.tmps.getD t .undef
   rw [List.getD_eq_getElem?_getD,List.getD_eq_getElem?_getD,hlook t this]
  | const v => rfl
  | global g => rfl
  | func f => rfl
 have hboxes:2 ≤ qas P oj.op→st.boxes.map qbs = (T j).boxes.map qbs:=by
  intro hc
  rw [hmb]
  refine hT.boxes_eq hm (by omega) fun i o ho hco => ?_
  rw [← hmw i o ho hco]
  rcases Nat.lt_trichotomy i j with hlt | rfl | hlt
  ·rcases hD.f5 i j o oj ho hoj hlt with h | h | h | h
   ·omega
   ·omega
   ·exact absurd hco h.1
   ·exact ⟨fun _ => hlt,fun _ => hbf i h⟩
  ·exact ⟨fun h => absurd h hnl,fun h => absurd h (Nat.lt_irrefl _)⟩
  ·rcases hD.f5 j i oj o hoj ho hlt with h | h | h | h
   ·omega
   ·omega
   ·exact absurd hco h.2
   ·exact ⟨fun hl => absurd hl (hbf' i o ho h),fun hx => by omega⟩
 have hjl:j < listed.size:=by rw [hI.size]; exact hjs
 have hwr:qas P oj.op = 3→∀ (i:Nat) o,ops[i]? = some o→qas P o.op = 3→(qcN (listed.setIfInBounds j true) i↔i < j + 1):=by
  intro hc i o ho hco
  rw [qcU hjl]
  rcases Nat.lt_trichotomy i j with hlt | rfl | hlt
  ·rcases hD.f5 i j o oj ho hoj hlt with h | h | h | h
   ·omega
   ·omega
   ·exact absurd hco h.1
   ·exact ⟨fun _ => by omega,fun _ => .inr (hbf i h)⟩
  ·exact ⟨fun _ => by omega,fun _ => .inl rfl⟩
  ·rcases hD.f5 j i oj o hoj ho hlt with h | h | h | h
   ·omega
   ·omega
   ·exact absurd hco h.2
   ·refine ⟨fun hl => ?_,fun hx => by omega⟩
    rcases hl with hl | hl
    ·omega
    ·exact absurd hl (hbf' i o ho h)
 have htok:∀ τ,qdM τ ∈ R j→hasT (T j) τ→hasT st τ:=fun τ hr => htk τ j (by omega) fun k hk hkr => by
  rcases Nat.lt_trichotomy k j with hlt | rfl | hlt
  ·exact ⟨fun _ => hlt,fun _ => hbf k (hT.log k j _ hlt hkr hr)⟩
  ·exact ⟨fun h => absurd h hnl,fun h => absurd h (Nat.lt_irrefl _)⟩
  ·obtain ⟨o,ho⟩:=hop k hk
   exact ⟨fun hl => absurd hl (hbf' k o ho (hT.log j k _ hlt hr hkr)),fun hx => by omega⟩
 have hTl:=hT.all j (by omega)
 have fin:∀ {Γ':qaP} {bs':qbj} {ow':Nat→Option Loc} {w':World} {a':Act} {st':PSt},a'.defers = ds→SR P E Γ' bs' ow' w' a'.tmps st'→DPost P bs rw oj st st' (T j) (T (j + 1)) (R j) →
   (bs' = bs∨(qak oj.op = true∧∃ b,bs' = bs.set (idAt ops base j) (some b))∨∃ i B x,bid j = some (i,B)∧bs' = bs.set i x)→DInvD P E bid ops n base T R bs0 ds (listed.setIfInBounds j true) a' w':=by
  intro Γ' bs' ow' w' a' st' hda hS' hP hbs'
  refine ⟨by simp [hI.size],hda,fun k o ho hk e he hb => ?_,Γ',bs',ow',st',hS',?_,?_,?_,?_,?_,?_,?_,?_⟩
  ·rw [qcU hjl] at hk ⊢
   rcases hk with rfl | hk
   ·rw [hoj] at ho; cases ho
    exact .inr (haft e he hb)
   ·exact .inr (hI.down k o ho hk e he hb)
  ·rcases hbs' with rfl | ⟨_,b,rfl⟩ | ⟨i',B,x,hb,rfl⟩
   ·exact hK
   ·intro i hi
    rw [List.getElem?_set_ne (by unfold idAt; omega)]
    exact hK i hi
   ·intro i hi
    rw [List.getElem?_set_ne (by have:=(hbd _ _ _ hb).1; omega)]
    exact hK i hi
  ·have:=hP.tm
   split at this
   ·obtain ⟨p,h1,_⟩:=this; rw [h1]; simp [hlen]
   ·rw [this.1]; exact hlen
  ·intro k o dk ho hdk hk
   rw [qcU hjl] at hk
   have hPt:=hP.tm
   by_cases hkj:k = j
   ·subst hkj
    rw [hoj] at ho; cases ho
    rw [hdk] at hPt
    obtain ⟨p,h1,h2⟩:=hPt
    have:=hT.between (t:=dk) (ops.size - (k + 1)) (k + 1) (by omega) fun i o h1 h2 ho hk => hD.f3 k i oj o dk hoj ho (by omega) hdk hk
    rw [show k + 1 + (ops.size - (k + 1)) = ops.size from by omega] at this
    have hdn:=hD.f1 k oj dk hoj hdk
    rw [this,h1,h2,List.getElem?_set_self (by rw [hlen]; exact hdn),List.getElem?_set_self (by rw [hTl]; exact hdn)]
   ·have hold:=ht1 k o dk ho hdk (hk.resolve_left hkj)
    split at hPt
    ·rename_i d hd
     obtain ⟨p,h1,_⟩:=hPt
     have hne:d ≠ dk:=fun e => by subst e; exact hD.f3 j k oj o d hoj ho (Ne.symm hkj) hd hdk
     rw [h1,List.getElem?_set_ne hne]; exact hold
    ·rw [hPt.1]; exact hold
  ·intro t hnt
   have hold:=ht2 t fun k o ho hk => hnt k o ho ((qcU hjl).2 (.inr hk))
   have hPt:=hP.tm
   split at hPt
   ·rename_i d hd
    obtain ⟨p,h1,_⟩:=hPt
    have hne:d ≠ t:=fun e => by subst e; exact hnt j oj hoj ((qcU hjl).2 (.inl rfl)) hd
    rw [h1,List.getElem?_set_ne hne]; exact hold
   ·rw [hPt.1]; exact hold
  ·by_cases hc:qas P oj.op = 3
   ·exact ⟨j + 1,by omega,hwr hc,hP.b2 hc⟩
   ·refine ⟨m,hm,fun i o ho hco => ?_,(hP.b1 hc).trans hmb⟩
    rw [qcU hjl,← hmw i o ho hco]
    constructor
    ·rintro (rfl | hx)
     ·rw [hoj] at ho; cases ho; exact absurd hco hc
     ·exact hx
    ·exact .inr
  ·intro i o ho hmk hni
   have hij:i ≠ j:=fun e => by subst e; exact hni ((qcU hjl).2 (.inl rfl))
   obtain ⟨u1,u2⟩:=hun i o ho hmk fun hx => hni ((qcU hjl).2 (.inr hx))
   refine ⟨?_,(hP.un _ u1).trans u2⟩
   rcases hbs' with rfl | ⟨hmj,b,rfl⟩ | ⟨i',B,x,hb,rfl⟩
   ·exact u1
   ·have hne:idAt ops base j ≠ idAt ops base i:=by
     rcases Nat.lt_or_gt_of_ne hij with hlt | hlt
     ·have:=qEb (base:=base) ho hmk hlt; omega
     ·have:=qEb (base:=base) hoj hmj hlt; omega
    rw [List.getElem?_set_ne hne]; exact u1
   ·rw [List.getElem?_set_ne (by have:=(hbd _ _ _ hb).2; unfold idAt; omega)]; exact u1
  ·intro τ q hq hqk hh
   by_cases hr:qdM τ ∈ R j
   ·have hjq:j < q:=(hqk j hjs hr).1 ((qcU hjl).2 (.inl rfl))
    refine hP.got τ hr ?_
    have:=hT.back (τ:=τ) (q - (j + 1)) (j + 1) (by omega) fun i h1 h2 hir => by
     have hi:i < ops.size:=by omega
     obtain ⟨o,ho⟩:=hop i hi
     have hli:=(hqk i hi hir).2 (by omega)
     rcases (qcU hjl).1 hli with hx | hx
     ·omega
     ·exact hbf' i o ho (hT.log j i _ (by omega) hr hir) hx
    rw [show j + 1 + (q - (j + 1)) = q from by omega] at this
    exact this hh
   ·refine hP.keep τ hr (fun h1 h2 => ?_) (htk τ q hq (fun k hk hkr => ?_) hh)
    ·obtain ⟨b,⟨t,k⟩,e⟩:=τ
     simp only at h1 h2
     subst h1
     exact hT.norow hq h2 hh
    rw [← hqk k hk hkr,qcU hjl]
    constructor
    ·exact .inr
    ·rintro (rfl | hx)
     ·exact absurd hkr hr
     ·exact hx
  ·intro k i B hk hb hnk
   have hkj:k ≠ j:=fun e => by subst e; exact hnk ((qcU hjl).2 (.inl rfl))
   obtain ⟨u1,u2⟩:=hub k i B hk hb fun hx => hnk ((qcU hjl).2 (.inr hx))
   refine ⟨?_,(hP.un _ u1).trans u2⟩
   rcases hbs' with rfl | ⟨_,b,rfl⟩ | ⟨i',B',x,hb',rfl⟩
   ·exact u1
   ·rw [List.getElem?_set_ne (by have:=(hbd _ _ _ hb).2; unfold idAt; omega)]; exact u1
   ·rw [List.getElem?_set_ne (fun e => by subst e; exact hkj (hT.binj _ _ _ _ _ hb hb'))]; exact u1
 have hbi:∀ i B,bid j = some (i,B)→bs[i]? = some none∧st.boxes[i]? = some B:=fun i B hb => hub j i B hjs hb hnl
 have hid:qak oj.op = true→bs[idAt ops base j]? = some none∧st.boxes[idAt ops base j]? = qkF P oj:=fun hmk => hun j oj hoj hmk hnl
 have hdd:∀ d,oj.dst = some d→d < st.tmps.length:=fun d hd => by rw [hlen]; exact hD.f1 j oj d hoj hd
 have run:StepD P E.GE (bid j) rw oj (idAt ops base j) (T j) (T (j + 1)) (R j)→oj.wp P a w (DInvD P E bid ops n base T R bs0 ds (listed.setIfInBounds j true)) Q:=by
  intro hs
  refine Oper.wp_mono (fun a' w' hA => ?_) (hs.sound hS hid hbi hopv hboxes htok hdd Q)
  obtain ⟨hda,Γ',bs',ow',st',hS',hP,hb⟩:=hA
  exact fin (hda.trans hI.defers) hS' hP hb
 have skip:T (j + 1) = putv (T j) oj.dst (.val undef) [] (T j).boxes→R j = qr1 oj→DInvD P E bid ops n base T R bs0 ds (listed.setIfInBounds j true) (a.put oj.dst undef) w:=by
  intro hT1 hR1
  refine fin ((qby _ _ _).trans hI.defers) (hS.putv_nil (.val undef) oj.dst rfl) ?_ (.inl rfl)
  rw [hT1,hR1]
  cases hd:oj.dst with
  | none => exact ⟨by rw [hd]; exact ⟨rfl,rfl⟩,fun _ => rfl,fun hc => hboxes (by omega),fun τ _ _ h => h,fun τ hr => by simp [qr1,hd] at hr,fun _ _ => rfl⟩
  | some d =>
   refine ⟨by rw [hd]; exact ⟨_,rfl,rfl⟩,fun _ => rfl,fun hc => hboxes (by omega),qBg (L:=[]) (by simp [qr1,hd]),?_,fun _ _ => rfl⟩
   intro τ hr hh
   exact gotL (L:=[]) τ (by simpa [qr1,hd] using hr) hh
 have hstep:=hT.step j oj hoj
 unfold wpOp
 rw [hoj]
 simp only
 unfold qvI at hstep
 have hgo:(Region.wanted oj (yielded ops a.tmps) = true→oj.wp P a w (DInvD P E bid ops n base T R bs0 ds (listed.setIfInBounds j true)) Q) ∧
   (¬ Region.wanted oj (yielded ops a.tmps) = true→DInvD P E bid ops n base T R bs0 ds (listed.setIfInBounds j true) (a.put oj.dst undef) w):=by
  split at hstep
  ·rename_i hg
   exact ⟨fun _ => run hstep,fun hn => absurd (by simp [Region.wanted,hg]) hn⟩
  ·rename_i jg want hg
   obtain ⟨x,hx,h1,h2⟩:=hstep
   have hx':qn6 ops st.tmps jg = some x:=by
    rw [← hx]
    unfold qn6
    cases hdg:(ops[jg]?).bind (·.dst) with
    | none => rfl
    | some t =>
     have:t ∈ looks ops oj:=List.mem_append_right _ (by rw [hg]; simp [hdg])
     simp only [hlook t this]
   have hw:Region.wanted oj (yielded ops a.tmps) = (x == some want):=by simp [Region.wanted,hg,qvj hS hx']
   rw [hw]
   refine ⟨fun hy => run (h1 (by simpa using hy)),fun hy => ?_⟩
   obtain ⟨k1,k2⟩:=h2 (by simpa using hy)
   exact skip k1 k2
 by_cases hw:Region.wanted oj (yielded ops a.tmps) = true
 ·rw [if_pos hw]; exact .inl (hgo.1 hw)
 ·rw [if_neg hw]; exact hgo.2 hw
theorem qCX (hD:DrawnD P ops n) {listed:Array Bool} (hs:listed.size = ops.size) (hr:Region.ready .any ops listed = []):∀ j,j < ops.size→qcN listed j:=by
 intro j
 induction j using Nat.strongRecOn with
 | _ j ih =>
  intro hj
  by_cases hl:qcN listed j
  ·exact hl
  ·exfalso
   have hoj:ops[j]? = some ops[j]:=by simp [hj]
   have:j ∈ Region.ready .any ops listed:=mem_ready.2 ⟨by
    unfold qcN at hl
    have:j < listed.size:=by omega
    simp [this] at hl ⊢; exact hl,_,hoj,fun e he hb => by
    have hlt:=hD.f2 j _ hoj e (by simpa using he) hb
    exact ih e.on hlt (by omega)⟩
   rw [hr] at this; cases this
theorem SR.rights {Γ:qaP} {bs:qbj} {ow:Nat→Option Loc} {w:World} {a:Array Value} {st st2:PSt} (h:SR P E Γ bs ow w a st) (h1:st2.tmps = st.tmps) (h2:st2.boxes.map qbs = st.boxes.map qbs) (h3:∀ τ,hasT st2 τ→hasT st τ) :
  SR P E Γ bs ow w a st2 :=
 { h with
  sz:=by rw [h1]; exact h.sz
  tm:=by rw [h1]; exact h.tm
  bl:=by have:=congrArg List.length h2; simp at this; rw [h.bl,this]
  bx:=fun i b B hb hB => by
   have hg:=getS h2 i
   rw [hB] at hg
   cases hB1:st.boxes[i]? with
   | none => rw [hB1] at hg; cases hg
   | some B1 =>
    rw [hB1] at hg
    obtain ⟨k1,k2,k3⟩:=h.bx i b B1 hb hB1
    refine ⟨k1,k2,?_⟩
    cases B <;> cases B1 <;> simp [qbs] at hg
    ·subst hg; exact k3
    ·subst hg; exact k3
    ·trivial
  ot:=fun t k e he => h.ot t k e (h3 (false,(t,k),e) he)
  ob:=fun i j e cs own b hB hj hb => by
   obtain ⟨cs',own',e1,e2⟩:=qdS.1 (h3 (true,(i,j),e) ⟨cs,own,hB,hj⟩)
   exact h.ob i j e cs' own' b e1 e2 hb }
theorem qEg (hD:DrawnD P ops n) (hT:TraceD P E.GE bid rw ops n base T R) (hbase:bs0.length ≤ base) (hbd:∀ (k i:Nat) B,bid k = some (i,B)→bs0.length ≤ i∧i < base) {Q:Exit→Act→World→Prop}
  (hQ:∀ a w,a.defers = ds→Rel P E bs0 (T ops.size) a w→Q .normal a w):∀ (fuel:Nat) (listed:Array Bool) (a:Act) (w:World),DInvD P E bid ops n base T R bs0 ds listed a w→qo5 ops.size listed ≤ fuel→wpAny P .any ops Q fuel listed a w:=by
 have hend:∀ (listed:Array Bool) (a:Act) (w:World),DInvD P E bid ops n base T R bs0 ds listed a w→(∀ j,j < ops.size→qcN listed j)→Q .normal a w:=by
  intro listed a w hI hall
  obtain ⟨Γ,bs,ow,st,hS,hK,hlen,ht1,ht2,⟨m,hm,hmw,hmb⟩,_,htk,_⟩:=hI.ex
  have e1:st.tmps = (T ops.size).tmps:=by
   apply List.ext_getElem?
   intro t
   by_cases hex:∃ (k:Nat) (o:Oper),ops[k]? = some o∧o.dst = some t
   ·obtain ⟨k,o,ho,hd⟩:=hex
    exact ht1 k o t ho hd (hall k (Array.getElem?_eq_some_iff.1 ho).1)
   ·rw [ht2 t fun k o ho _ hd => hex ⟨k,o,ho,hd⟩]
    have:=hT.between (t:=t) ops.size 0 (by omega) fun k o _ _ ho hd => hex ⟨k,o,ho,hd⟩
    rw [Nat.zero_add] at this
    exact this.symm
  have e2:st.boxes.map qbs = (T ops.size).boxes.map qbs:=by
   rw [hmb]
   refine hT.boxes_eq hm (Nat.le_refl _) fun i o ho hco => ?_
   rw [← hmw i o ho hco]
   have hi:=(Array.getElem?_eq_some_iff.1 ho).1
   exact ⟨fun _ => hi,fun _ => hall i hi⟩
  exact hQ a w hI.defers ⟨Γ,bs,ow,hS.rights e1.symm e2.symm fun τ hh => htk τ ops.size (Nat.le_refl _) (fun k hk _ => ⟨fun _ => hk,fun _ => hall k hk⟩) hh,hK⟩
 intro fuel
 induction fuel with
 | zero =>
  intro listed a w hI hu
  have hall:∀ j,j < ops.size→qcN listed j:=by
   intro j hj
   by_cases hl:qcN listed j
   ·exact hl
   ·exfalso
    have:j ∈ (List.range ops.size).filter fun i => !listed.getD i false:=by
     rw [List.mem_filter,List.mem_range]
     exact ⟨hj,by unfold qcN at hl; simpa using hl⟩
    have:=List.length_pos_of_mem this
    unfold qo5 at hu
    omega
  refine ⟨?_,hend listed a w hI hall⟩
  rw [List.eq_nil_iff_forall_not_mem]
  intro j hj
  obtain ⟨h0,o,ho,_⟩:=mem_ready.1 hj
  have hlt:=(Array.getElem?_eq_some_iff.1 ho).1
  have:=hall j hlt
  unfold qcN at this
  have hls:j < listed.size:=by rw [hI.size]; exact hlt
  simp [hls] at this h0
  rw [this] at h0; cases h0
 | succ fuel ih =>
  intro listed a w hI hu
  refine ⟨fun hr => hend listed a w hI (qCX hD hI.size hr),fun j hj => ?_⟩
  refine wpOp_mono (fun a' w' hI' => ih _ a' w' hI' ?_) (qC3 hD hT hbase hbd hI hj Q)
  obtain ⟨h0,o,ho,_⟩:=mem_ready.1 hj
  have hlt:=(Array.getElem?_eq_some_iff.1 ho).1
  have hls:j < listed.size:=by rw [hI.size]; exact hlt
  have:qo5 ops.size (listed.setIfInBounds j true) < qo5 ops.size listed:=by
   unfold qo5
   refine qAN (fun i hi => ?_) (List.mem_range.2 hlt) ?_ ?_
   ·have hnl:¬ qcN (listed.setIfInBounds j true) i:=by unfold qcN; simpa using hi
    have:¬ qcN listed i:=fun hx => hnl ((qcU hls).2 (.inr hx))
    unfold qcN at this; simpa using this
   ·simp [hls] at h0; simp [hls,h0]
   ·simp [hls]
  omega
end
def qC9 (br:List (Nat×Nat)) (H:List PBox) (k:Nat):Option (Nat×PBox):=match br.find? (fun x => x.1 == k) with
 | some x => (H[x.2]?).map fun B => (x.2,B)
 | none => none
def brOk (br:List (Nat×Nat)) (lo n:Nat):Bool:=br.all (fun x => decide (lo ≤ x.2) && decide (x.2 < lo + n)) && br.all fun x => br.all fun y => x.2 != y.2 || x.1 == y.1
def qH8 (rw:List Nat) (H:List PBox):Bool:=rw.all fun i => match H[i]? with
 | some (.cells _ []) => true
 | _ => false
def qAd (rw:List Nat) (lg:List (List Rs)):Bool:=lg.all fun l => l.all fun r => !(r.1 && rw.contains r.2.1)
theorem qrW {br:List (Nat×Nat)} {H:List PBox} {k i:Nat} {B:PBox} (h:qC9 br H k = some (i,B)):(k,i) ∈ br∧H[i]? = some B:=by
 unfold qC9 at h
 split at h
 ·rename_i x hx
  obtain ⟨B',h1,h2⟩:=qcX h
  cases h2
  have h3:=List.find?_some hx
  simp only [beq_iff_eq] at h3
  subst h3
  exact ⟨List.mem_of_find?_eq_some hx,h1⟩
 ·cases h
def qG4 (P:Program) (GE:List (Nat×List PVal)) (ops:Array Oper) (an:List Nat) (X:List PBox) (br:List (Nat×Nat)) (rw:List Nat) (K:PSt→Prop) (st:PSt):Prop :=
 drawD P ops.toList st.tmps.length an = true∧(brOk br st.boxes.length X.length && qH8 rw (st.boxes ++ X)) = true ∧
  qj4 P GE (qC9 br (st.boxes ++ X)) rw ops (fun lg st' => (logD an lg && qAd rw lg) = true∧K st') ops.toList (st.boxes.length + X.length) [] { st with boxes:=st.boxes ++ X ++ qdQ P ops.toList }
section
variable {P:Program} {E:Ent} {w:World} {a:Act} {st:PSt}
theorem qAs {bs0:qbj} {ops:Array Oper} {an:List Nat} {X:List PBox} {br:List (Nat×Nat)} {rw:List Nat} {K:PSt→Prop} {Q:Exit→Act→World→Prop} (hR:Rel P E bs0 st a w) (hl:bs0.length ≤ st.boxes.length)
  (hQ:∀ a' w' st',a'.defers = a.defers→Rel P E bs0 st' a' w'→K st'→Q .normal a' w') (hp:qG4 P E.GE ops an X br rw K st):wpAny P .any ops Q ops.size (Array.replicate ops.size false) a { w with drawn:=w.drawn + 1 }:=by
 obtain ⟨hok,hbr,hp⟩:=hp
 rw [Bool.and_eq_true] at hbr
 obtain ⟨hbr,hrow⟩:=hbr
 obtain ⟨hD,han⟩:=qDb hok
 obtain ⟨T,R,t0,tl,⟨tlog,t1⟩,t2⟩:=qr7 ops.toList _ _ _ hp
 rw [List.nil_append,Bool.and_eq_true] at tlog
 obtain ⟨tlog,tlr⟩:=tlog
 obtain ⟨Γ,bs,ow,h,hk⟩:=hR
 have hxl:(st.boxes ++ X).length = st.boxes.length + X.length:=by simp
 unfold brOk at hbr
 simp only [Bool.and_eq_true,List.all_eq_true,decide_eq_true_eq,Bool.or_eq_true,bne_iff_ne,ne_eq,beq_iff_eq] at hbr
 have hT:TraceD P E.GE (qC9 br (st.boxes ++ X)) rw ops st.tmps.length (st.boxes.length + X.length) T (fun k => R.getD k []):={
  len:=by rw [t0]
  step:=fun k o ho => by have:=t2 k o (by simpa using ho); simpa using this
  log:=fun i j r hij hi hj => by unfold bf; rw [han]; exact qEp tlog hij hi hj
  row0:=fun i hi k e hh => by
   rw [t0] at hh
   obtain ⟨cs,own,e1,e2⟩:=qdS.1 hh
   have hri:=List.all_eq_true.1 hrow i hi
   split at hri
   ·rename_i cs' heq
    simp only at e1
    rw [List.getElem?_append_left (qae heq),heq] at e1
    cases e1; cases e2
   ·cases hri
  rowl:=fun j hj i hi k hr => by
   unfold qAd at tlr
   simp only [List.all_eq_true] at tlr
   have hjl:j < R.length:=by rw [tl]; simpa using hj
   have hm:R.getD j [] ∈ R:=by
    rw [List.getD_eq_getElem?_getD,List.getElem?_eq_getElem hjl]; exact List.getElem_mem hjl
   have:=tlr _ hm _ hr
   simp [hi] at this
  binj:=fun j k i B B' h1 h2 => by
   have m1:=(qrW h1).1
   have m2:=(qrW h2).1
   rcases hbr.2 _ m1 _ m2 with hx | hx
   ·exact absurd rfl hx
   ·exact hx }
 have hbd:∀ (k i:Nat) B,qC9 br (st.boxes ++ X) k = some (i,B)→bs0.length ≤ i∧i < st.boxes.length + X.length:=fun k i B hb => by
  have:=hbr.1 _ (qrW hb).1
  simp only at this
  omega
 have hS0:=(h.drew).extend X
 have hS:=hS0.extend (qdQ P ops.toList)
 refine qEg hD hT (by omega) hbd (ds:=a.defers) (fun a' w' hd hR' => hQ a' w' _ hd hR' (by simpa using t1)) ops.size _ a _ ?_ ?_
 ·refine ⟨by simp,rfl,fun j o ho hj => ?_,Γ,_,ow,_,hS,fun i hi => ?_,rfl,fun k o d ho hd hk' => ?_,fun t _ => by rw [t0],⟨0,Nat.zero_le _,fun i o ho hc => ?_,by rw [t0]⟩,fun i o ho hm _ => ?_,fun τ m hm hmk hh => ?_,fun k i B _ hb _ => ?_⟩
  ·unfold qcN at hj
   rw [quT] at hj; cases hj
  ·rw [List.getElem?_append_left (by rw [List.length_append,h.bl]; omega),List.getElem?_append_left (by rw [h.bl]; omega)]; exact hk i hi
  ·unfold qcN at hk'
   rw [quT] at hk'; cases hk'
  ·unfold qcN
   rw [quT]
   constructor
   ·intro hx; cases hx
   ·intro hx; exact absurd hx (Nat.not_lt_zero _)
  ·have hl':ops.toList[i]? = some o:=by simpa using ho
   have hget:=qtU (P:=P) ops.toList i o hl' hm
   have hlt:qa8 (ops.toList.take i) < (qdQ P ops.toList).length:=by
    have:∃ B,qkF P o = some B:=by cases hx:o.op <;> simp [qak,hx] at hm <;> exact ⟨_,by simp [qkF,hx]; rfl⟩
    obtain ⟨B,hB⟩:=this
    rw [hB] at hget
    exact qae hget
   have hbl2:(bs ++ List.replicate X.length none).length = st.boxes.length + X.length:=by simp [h.bl]
   unfold idAt
   refine ⟨?_,?_⟩
   ·rw [List.getElem?_append_right (by rw [hbl2]; omega),List.getElem?_replicate,if_pos (by rw [hbl2]; omega)]
   ·show (st.boxes ++ X ++ qdQ P ops.toList)[_]? = _
    rw [List.getElem?_append_right (by omega),hxl,Nat.add_sub_cancel_left]
    exact hget
  ·have:=hT.back (τ:=τ) m 0 (by omega) fun i h1 h2 hir => by
    have:=(hmk i (by omega) hir).2 (by omega)
    unfold qcN at this
    rw [quT] at this; cases this
   rw [Nat.zero_add,t0] at this
   exact this hh
  ·obtain ⟨m1,m2⟩:=qrW hb
   have:=hbr.1 _ m1
   simp only at this
   have hbl2:(bs ++ List.replicate X.length none).length = st.boxes.length + X.length:=by simp [h.bl]
   refine ⟨?_,?_⟩
   ·rw [List.getElem?_append_left (by omega),List.getElem?_append_right (by rw [h.bl]; omega),List.getElem?_replicate,if_pos (by rw [h.bl]; omega)]
   ·show (st.boxes ++ X ++ qdQ P ops.toList)[_]? = _
    rw [List.getElem?_append_left (by omega)]; exact m2
 ·unfold qo5
  have:=List.length_filter_le (fun i => !(Array.replicate ops.size false).getD i false) (List.range ops.size)
  simpa using this
end
end Go.Proofs.YtgldgpdhblndkaaGreatDoor
