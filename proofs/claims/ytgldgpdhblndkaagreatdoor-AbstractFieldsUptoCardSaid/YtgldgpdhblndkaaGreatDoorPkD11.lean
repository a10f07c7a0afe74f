/-
  WHAT IS PROVED: parts of the proof, put together by a program out of smaller texts, their own names made short (AbsX; AbsY). Conditions: none.
-/
import Derived.Test.YtgldgpdhblndkaaGreatDoorPkD10
namespace Go.Proofs.YtgldgpdhblndkaaGreatDoor
open Go
section
variable {P:Program} {E:Ent} {ops:Array Oper} {n base:Nat} {T:Nat→PSt} {bs0:qbn} {ds:List Deferred}
def idAt (ops:Array Oper) (base i:Nat):Nat:=base + qaF (ops.toList.take i)
theorem qjT (l r:List Oper):qaF (l ++ r) = qaF l + qaF r:=by simp [qaF]
theorem qvj {i j:Nat} {o:Oper} (ho:ops[i]? = some o) (hm:qai o.op = true) (hij:i < j):idAt ops base i < idAt ops base j:=by
  unfold idAt
  have hl:ops.toList[i]? = some o:=by simpa using ho
  have h1:ops.toList.take (i + 1) = ops.toList.take i ++ [o]:=by
    rw [List.take_add_one,hl]; rfl
  have h2:ops.toList.take j = ops.toList.take (i + 1) ++ (ops.toList.take j).drop (i + 1):=by
    have:=(List.take_append_drop (i + 1) (ops.toList.take j)).symm
    rwa [List.take_take,Nat.min_eq_left (by omega)] at this
  rw [h2,qjT,h1,qjT]
  have:qaF [o] = 1:=by unfold qaF; simp [hm]
  omega
structure DInv (P:Program) (E:Ent) (ops:Array Oper) (n base:Nat) (T:Nat→PSt) (bs0:qbn) (ds:List Deferred) (listed:Array Bool) (a:Act) (w:World):Prop where
  size:listed.size = ops.size
  defers:a.defers = ds
  down:Down ops listed
  ex:∃ Γ bs ow st,SR P E Γ bs ow w a.tmps st∧qAq bs0 bs∧st.own = (T 0).own∧st.tmps.length = n ∧
    (∀ (k:Nat) o d,ops[k]? = some o→o.dst = some d→qbj listed k→st.tmps[d]? = (T ops.size).tmps[d]?) ∧
    (∀ t,(∀ (k:Nat) o,ops[k]? = some o→qbj listed k→o.dst ≠ some t)→st.tmps[t]? = (T 0).tmps[t]?) ∧
    (∃ m,m ≤ ops.size∧(∀ (i:Nat) o,ops[i]? = some o→qaA P o.op = 3→(qbj listed i↔i < m))∧st.boxes = (T m).boxes) ∧
    (∀ (i:Nat) o,ops[i]? = some o→qai o.op = true→¬ qbj listed i→bs[idAt ops base i]? = some none∧st.boxes[idAt ops base i]? = qfF P o)
theorem qzt (hD:Drawn P ops n) (hT:Trace P E.GE ops n base T) (hbase:bs0.length ≤ base) {listed:Array Bool} {a:Act} {w:World} (hI:DInv P E ops n base T bs0 ds listed a w) {j:Nat} (hj:j ∈ Region.ready .any ops listed)
    (Q:Exit→Act→World→Prop):wpOp P ops Q j (DInv P E ops n base T bs0 ds (listed.setIfInBounds j true)) a w:=by
  obtain ⟨hj0,oj,hoj,hja⟩:=mem_ready.1 hj
  have hjs:j < ops.size:=(Array.getElem?_eq_some_iff.1 hoj).1
  have hnl:¬ qbj listed j:=by
    unfold qbj
    have:j < listed.size:=by rw [hI.size]; exact hjs
    simp [this] at hj0 ⊢
    exact hj0
  have haft:∀ e ∈ oj.after.toList,Region.binds .any e = true→qbj listed e.on:=fun e he hb => hja e (by simpa using he) hb
  have hbf:∀ i,bf ops i j→qbj listed i:=qqy hI.down j oj hoj haft
  have hbf':∀ (i:Nat) oi,ops[i]? = some oi→bf ops j i→¬ qbj listed i:=fun i oi hi hb hli => hnl (qqy hI.down i oi hi (hI.down i oi hi hli) j hb)
  obtain ⟨Γ,bs,ow,st,hS,hK,hown,hlen,ht1,ht2,⟨m,hm,hmw,hmb⟩,hun⟩:=hI.ex
  obtain ⟨d,hd,hdn⟩:=hD.f1 j oj hoj
  have hlook:∀ t,t ∈ looks ops oj→st.tmps[t]? = (T j).tmps[t]?:=by
    intro t ht
    by_cases hex:∃ i oi,ops[i]? = some oi∧i ≠ j∧oi.dst = some t
    · obtain ⟨i,oi,hoi,hij,hdi⟩:=hex
      have honly:∀ (k:Nat) o,ops[k]? = some o→o.dst = some t→k = i:=fun k o ho hdk => by
        by_cases hki:k = i
        · exact hki
        · exact absurd (hdk.trans hdi.symm) (hD.f3 k i o oi ho hoi hki)
      rcases hD.f4 j oj t hoj ht i oi hoi hij hdi with ⟨hlt,hb⟩ | ⟨hlt,hb⟩
      · rw [ht1 i oi t hoi hdi (hbf i hb)]
        have:=hT.between hD (t:=t) (ops.size - j) j (by omega) fun k o h1 h2 ho hk => by have:=honly k o ho hk; omega
        rwa [show j + (ops.size - j) = ops.size from by omega] at this
      · rw [ht2 t fun k o ho hlk hk => by have:=honly k o ho hk; subst this; exact hbf' k o ho hb hlk]
        have:=hT.between hD (t:=t) j 0 (by omega) fun k o h1 h2 ho hk => by have:=honly k o ho hk; omega
        rw [Nat.zero_add] at this
        exact this.symm
    · rw [ht2 t fun k o ho hlk hk => hex ⟨k,o,ho,fun e => by subst e; exact hnl hlk,hk⟩]
      have:=hT.between hD (t:=t) j 0 (by omega) fun k o h1 h2 ho hk => hex ⟨k,o,ho,by omega,hk⟩
      rw [Nat.zero_add] at this
      exact this.symm
  have hopv:∀ x ∈ oj.op.operands.toList,opv E.GE (T j).tmps x = opv E.GE st.tmps x:=by
    intro x hx
    cases x with
    | tmp t =>
      have:t ∈ looks ops oj:=List.mem_append_left _ (List.mem_filterMap.2 ⟨.tmp t,hx,rfl⟩)
      show (T j).tmps.getD t .undef = st.tmps.getD t .undef
      rw [List.getD_eq_getElem?_getD,List.getD_eq_getElem?_getD,hlook t this]
    | const v => rfl
    | global g => rfl
    | func f => rfl
  have hboxes:2 ≤ qaA P oj.op→st.boxes = (T j).boxes:=by
    intro hc
    rw [hmb]
    refine hT.boxes_eq hD hm (by omega) fun i o ho hco => ?_
    rw [← hmw i o ho hco]
    rcases Nat.lt_trichotomy i j with hlt | rfl | hlt
    · rcases hD.f5 i j o oj ho hoj hlt with h | h | h | h
      · omega
      · omega
      · exact absurd hco h.1
      · exact ⟨fun _ => hlt,fun _ => hbf i h⟩
    · exact ⟨fun h => absurd h hnl,fun h => absurd h (Nat.lt_irrefl _)⟩
    · rcases hD.f5 j i oj o hoj ho hlt with h | h | h | h
      · omega
      · omega
      · exact absurd hco h.2
      · exact ⟨fun hl => absurd hl (hbf' i o ho h),fun hx => by omega⟩
  have hwr:qaA P oj.op = 3→∀ (i:Nat) o,ops[i]? = some o→qaA P o.op = 3→(qbj (listed.setIfInBounds j true) i↔i < j + 1):=by
    intro hc i o ho hco
    rw [qbs (by rw [hI.size]; exact hjs)]
    rcases Nat.lt_trichotomy i j with hlt | rfl | hlt
    · rcases hD.f5 i j o oj ho hoj hlt with h | h | h | h
      · omega
      · omega
      · exact absurd hco h.1
      · exact ⟨fun _ => by omega,fun _ => .inr (hbf i h)⟩
    · exact ⟨fun _ => by omega,fun _ => .inl rfl⟩
    · rcases hD.f5 j i oj o hoj ho hlt with h | h | h | h
      · omega
      · omega
      · exact absurd hco h.2
      · refine ⟨fun hl => ?_,fun hx => by omega⟩
        rcases hl with hl | hl
        · omega
        · exact absurd hl (hbf' i o ho h)
  obtain ⟨hTl,hTo⟩:=hT.all hD j (by omega)
  have fin:∀ {p:PVal} {HT H2:List PBox} {Γ':qa0} {bs':qbn} {ow':Nat→Option Loc} {w':World} {a':Act},T (j + 1) = { tmps:=(T j).tmps.set d p,boxes:=HT,own:=qbB d (T j).own }→a'.defers = ds →
      SR P E Γ' bs' ow' w' a'.tmps (putv st oj.dst p [] H2)→(bs' = bs∨(qai oj.op = true∧∃ b,bs' = bs.set (idAt ops base j) (some b)))→(qaA P oj.op ≠ 3→H2 = st.boxes)→(qaA P oj.op = 3→H2 = HT) →
      (qvF oj.op = true→∀ i:Nat,bs[i]? = some none→H2[i]? = st.boxes[i]?)→DInv P E ops n base T bs0 ds (listed.setIfInBounds j true) a' w':=by
    intro p HT H2 Γ' bs' ow' w' a' hT1 hda hS' hbs' hc1 hc2 hq
    rw [hd] at hS'
    have hjl:j < listed.size:=by rw [hI.size]; exact hjs
    refine ⟨by simp [hI.size],hda,fun k o ho hk e he hb => ?_,Γ',bs',ow',_,hS',?_,?_,?_,?_,?_,?_,?_⟩
    · rw [qbs hjl] at hk ⊢
      rcases hk with rfl | hk
      · rw [hoj] at ho; cases ho
        exact .inr (haft e he hb)
      · exact .inr (hI.down k o ho hk e he hb)
    · rcases hbs' with rfl | ⟨_,b,rfl⟩
      · exact hK
      · intro i hi
        rw [List.getElem?_set_ne (by unfold idAt; omega)]
        exact hK i hi
    · show [] ++ qbB d st.own = _
      rw [List.nil_append,hown]
      exact qx9 (hT.own j oj hoj d hd)
    · show (st.tmps.set d p).length = n
      simp [hlen]
    · intro k o dk ho hdk hk
      show (st.tmps.set d p)[dk]? = _
      rw [qbs hjl] at hk
      by_cases hkj:k = j
      · subst hkj
        rw [hoj] at ho; cases ho
        rw [hd] at hdk; cases hdk
        have:=hT.between hD (t:=d) (ops.size - (k + 1)) (k + 1) (by omega) fun i o h1 h2 ho hk => by
          exact hD.f3 i k o oj ho hoj (by omega) (hk.trans hd.symm)
        rw [show k + 1 + (ops.size - (k + 1)) = ops.size from by omega] at this
        rw [this,hT1]
        simp only
        rw [List.getElem?_set_self (by rw [hlen]; exact hdn),List.getElem?_set_self (by rw [hTl]; exact hdn)]
      · have hne:d ≠ dk:=fun e => by subst e; exact hD.f3 k j o oj ho hoj hkj (hdk.trans hd.symm)
        rw [List.getElem?_set_ne hne]
        exact ht1 k o dk ho hdk (hk.resolve_left hkj)
    · intro t hnt
      show (st.tmps.set d p)[t]? = _
      have hne:d ≠ t:=fun e => by subst e; exact hnt j oj hoj ((qbs hjl).2 (.inl rfl)) hd
      rw [List.getElem?_set_ne hne]
      exact ht2 t fun k o ho hk => hnt k o ho ((qbs hjl).2 (.inr hk))
    · by_cases hc:qaA P oj.op = 3
      · refine ⟨j + 1,by omega,hwr hc,?_⟩
        show H2 = _
        rw [hT1,hc2 hc]
      · refine ⟨m,hm,fun i o ho hco => ?_,?_⟩
        · rw [qbs hjl,← hmw i o ho hco]
          constructor
          · rintro (rfl | hx)
            · rw [hoj] at ho; cases ho; exact absurd hco hc
            · exact hx
          · exact .inr
        · show H2 = _
          rw [hc1 hc]; exact hmb
    · intro i o ho hmk hni
      have hij:i ≠ j:=fun e => by subst e; exact hni ((qbs hjl).2 (.inl rfl))
      have hni':¬ qbj listed i:=fun hx => hni ((qbs hjl).2 (.inr hx))
      obtain ⟨u1,u2⟩:=hun i o ho hmk hni'
      refine ⟨?_,?_⟩
      · rcases hbs' with rfl | ⟨hmj,b,rfl⟩
        · exact u1
        · have hne:idAt ops base j ≠ idAt ops base i:=by
            rcases Nat.lt_or_gt_of_ne hij with hlt | hlt
            · have:=qvj (base:=base) ho hmk hlt; omega
            · have:=qvj (base:=base) hoj hmj hlt; omega
          rw [List.getElem?_set_ne hne]; exact u1
      · show H2[idAt ops base i]? = _
        rw [← u2]
        by_cases hc:qaA P oj.op = 3
        · refine hq ?_ _ u1
          rcases hD.f6 with h6 | h6
          · rw [h6 i o ho] at hmk; cases hmk
          · exact h6 j oj hoj
        · rw [hc1 hc]
  have hid:qai oj.op = true→bs[idAt ops base j]? = some none∧st.boxes[idAt ops base j]? = qfF P oj:=fun hmk => hun j oj hoj hmk hnl
  have run:∀ {p:PVal} {H:List PBox},fdo P E.GE oj.op (idAt ops base j) (opv E.GE (T j).tmps) (T j).boxes (fun q H2 => q = p∧H2 = H)→T (j + 1) = putv (T j) oj.dst p [] H →
      oj.wp P a w (DInv P E ops n base T bs0 ds (listed.setIfInBounds j true)) Q:=by
    intro p H hf hT1
    rw [hd] at hT1
    have hf':fdo P E.GE oj.op (idAt ops base j) (opv E.GE st.tmps) st.boxes (fun q H2 => q = p∧(qaA P oj.op ≠ 3→H2 = st.boxes)∧(qaA P oj.op = 3→H2 = H)):=by
      have hf1:=qBm hopv hf
      by_cases hc:2 ≤ qaA P oj.op
      · rw [hboxes hc]
        refine qn5 hf1 fun q H2 hq => ⟨hq.1,fun hc3 => ?_,fun _ => hq.2⟩
        rw [hq.2]; exact qty hc3 hf1
      · have hH:H = (T j).boxes:=qty (by omega) hf1
        subst hH
        exact qn5 (qCe (by omega) hf1 st.boxes) fun q H2 hq => ⟨hq.1,fun _ => hq.2,fun hc3 => by omega⟩
    refine Oper.wp_mono (fun a' w' hA => ?_) (qzQ hS hid hf' ⟨d,hd,by rw [hlen]; exact hdn⟩ Q)
    obtain ⟨hda,q,H2,Γ',bs',ow',⟨rfl,hc1,hc2⟩,hS',hbs',hq⟩:=hA
    exact fin hT1 (hda.trans hI.defers) hS' hbs' hc1 hc2 hq
  have skip:T (j + 1) = putv (T j) oj.dst (.val undef) [] (T j).boxes→DInv P E ops n base T bs0 ds (listed.setIfInBounds j true) (a.put oj.dst undef) w:=by
    intro hT1
    rw [hd] at hT1
    exact fin hT1 ((qbm _ _ _).trans hI.defers) (hS.putv_nil (.val undef) oj.dst rfl) (.inl rfl) (fun _ => rfl) (fun hc => hboxes (by omega)) (fun _ _ _ => rfl)
  have hstep:=hT.step j oj hoj
  unfold wpOp
  rw [hoj]
  simp only
  unfold qsP at hstep
  have hgo:(Region.wanted oj (yielded ops a.tmps) = true→oj.wp P a w (DInv P E ops n base T bs0 ds (listed.setIfInBounds j true)) Q) ∧
      (¬ Region.wanted oj (yielded ops a.tmps) = true→DInv P E ops n base T bs0 ds (listed.setIfInBounds j true) (a.put oj.dst undef) w):=by
    split at hstep
    · rename_i hg
      obtain ⟨p,H,h1,h2⟩:=hstep
      exact ⟨fun _ => run h1 h2,fun hn => absurd (by simp [Region.wanted,hg]) hn⟩
    · rename_i jg want hg
      obtain ⟨x,hx,h1,h2⟩:=hstep
      have hx':qgA ops st.tmps jg = some x:=by
        rw [← hx]
        unfold qgA
        cases hdg:(ops[jg]?).bind (·.dst) with
        | none => rfl
        | some t =>
          have:t ∈ looks ops oj:=List.mem_append_right _ (by rw [hg]; simp [hdg])
          simp only [hlook t this]
      have hw:Region.wanted oj (yielded ops a.tmps) = (x == some want):=by simp [Region.wanted,hg,qmd hS hx']
      rw [hw]
      refine ⟨fun hy => ?_,fun hy => skip (h2 (by simpa using hy))⟩
      obtain ⟨p,H,k1,k2⟩:=h1 (by simpa using hy)
      exact run k1 k2
  by_cases hw:Region.wanted oj (yielded ops a.tmps) = true
  · rw [if_pos hw]; exact .inl (hgo.1 hw)
  · rw [if_neg hw]; exact hgo.2 hw
def qf4 (n:Nat) (listed:Array Bool):Nat:=((List.range n).filter fun i => !listed.getD i false).length
theorem qs6 {l:List Nat} {p q:Nat→Bool} (hpq:∀ i,q i = true→p i = true) {j:Nat} (hj:j ∈ l) (hp:p j = true) (hq:q j = false):(l.filter q).length < (l.filter p).length:=by
  induction l with
  | nil => cases hj
  | cons x l ih =>
    have hle:∀ l:List Nat,(l.filter q).length ≤ (l.filter p).length:=by
      intro l
      induction l with
      | nil => simp
      | cons y l ih2 =>
        simp only [List.filter_cons]
        by_cases h1:q y = true
        · simp [h1,hpq y h1]; exact ih2
        · by_cases h2:p y = true
          · simp [h1,h2]; omega
          · simp [h1,h2]; exact ih2
    simp only [List.filter_cons]
    rcases List.mem_cons.1 hj with rfl | hj
    · simp [hp,hq]; have:=hle l; omega
    · have:=ih hj
      by_cases h1:q x = true
      · simp [h1,hpq x h1]; exact this
      · by_cases h2:p x = true
        · simp [h1,h2]; omega
        · simp [h1,h2]; exact this
theorem qy5 (hD:Drawn P ops n) {listed:Array Bool} (hs:listed.size = ops.size) (hr:Region.ready .any ops listed = []):∀ j,j < ops.size→qbj listed j:=by
  intro j
  induction j using Nat.strongRecOn with
  | _ j ih =>
    intro hj
    by_cases hl:qbj listed j
    · exact hl
    · exfalso
      have hoj:ops[j]? = some ops[j]:=by simp [hj]
      have:j ∈ Region.ready .any ops listed:=mem_ready.2 ⟨by
        unfold qbj at hl
        have:j < listed.size:=by omega
        simp [this] at hl ⊢; exact hl,_,hoj,fun e he hb => by
        have hlt:=hD.f2 j _ hoj e (by simpa using he) hb
        exact ih e.on hlt (by omega)⟩
      rw [hr] at this; cases this
theorem qAC (hD:Drawn P ops n) (hT:Trace P E.GE ops n base T) (hbase:bs0.length ≤ base) {Q:Exit→Act→World→Prop}
    (hQ:∀ a w,a.defers = ds→Rel P E bs0 (T ops.size) a w→Q .normal a w):∀ (fuel:Nat) (listed:Array Bool) (a:Act) (w:World),DInv P E ops n base T bs0 ds listed a w→qf4 ops.size listed ≤ fuel→wpAny P .any ops Q fuel listed a w:=by
  have hend:∀ (listed:Array Bool) (a:Act) (w:World),DInv P E ops n base T bs0 ds listed a w→(∀ j,j < ops.size→qbj listed j)→Q .normal a w:=by
    intro listed a w hI hall
    obtain ⟨Γ,bs,ow,st,hS,hK,hown,hlen,ht1,ht2,⟨m,hm,hmw,hmb⟩,_⟩:=hI.ex
    obtain ⟨hTl,hTo⟩:=hT.all hD ops.size (Nat.le_refl _)
    have hst:st = T ops.size:=by
      have e1:st.tmps = (T ops.size).tmps:=by
        apply List.ext_getElem?
        intro t
        by_cases hex:∃ (k:Nat) (o:Oper),ops[k]? = some o∧o.dst = some t
        · obtain ⟨k,o,ho,hd⟩:=hex
          exact ht1 k o t ho hd (hall k (Array.getElem?_eq_some_iff.1 ho).1)
        · rw [ht2 t fun k o ho _ hd => hex ⟨k,o,ho,hd⟩]
          have:=hT.between hD (t:=t) ops.size 0 (by omega) fun k o _ _ ho hd => hex ⟨k,o,ho,hd⟩
          rw [Nat.zero_add] at this
          exact this.symm
      have e2:st.boxes = (T ops.size).boxes:=by
        rw [hmb]
        refine hT.boxes_eq hD hm (Nat.le_refl _) fun i o ho hco => ?_
        rw [← hmw i o ho hco]
        have hi:=(Array.getElem?_eq_some_iff.1 ho).1
        exact ⟨fun _ => hi,fun _ => hall i hi⟩
      have e3:st.own = (T ops.size).own:=hown.trans hTo.symm
      cases st
      simp only at e1 e2 e3
      subst e1; subst e2; subst e3; rfl
    subst hst
    exact hQ a w hI.defers ⟨Γ,bs,ow,hS,hK⟩
  intro fuel
  induction fuel with
  | zero =>
    intro listed a w hI hu
    have hall:∀ j,j < ops.size→qbj listed j:=by
      intro j hj
      by_cases hl:qbj listed j
      · exact hl
      · exfalso
        have:j ∈ (List.range ops.size).filter fun i => !listed.getD i false:=by
          rw [List.mem_filter,List.mem_range]
          exact ⟨hj,by unfold qbj at hl; simpa using hl⟩
        have:=List.length_pos_of_mem this
        unfold qf4 at hu
        omega
    refine ⟨?_,hend listed a w hI hall⟩
    rw [List.eq_nil_iff_forall_not_mem]
    intro j hj
    obtain ⟨h0,o,ho,_⟩:=mem_ready.1 hj
    have hlt:=(Array.getElem?_eq_some_iff.1 ho).1
    have:=hall j hlt
    unfold qbj at this
    have hls:j < listed.size:=by rw [hI.size]; exact hlt
    simp [hls] at this h0
    rw [this] at h0; cases h0
  | succ fuel ih =>
    intro listed a w hI hu
    refine ⟨fun hr => hend listed a w hI (qy5 hD hI.size hr),fun j hj => ?_⟩
    refine wpOp_mono (fun a' w' hI' => ih _ a' w' hI' ?_) (qzt hD hT hbase hI hj Q)
    obtain ⟨h0,o,ho,_⟩:=mem_ready.1 hj
    have hlt:=(Array.getElem?_eq_some_iff.1 ho).1
    have hls:j < listed.size:=by rw [hI.size]; exact hlt
    have:qf4 ops.size (listed.setIfInBounds j true) < qf4 ops.size listed:=by
      unfold qf4
      refine qs6 (fun i hi => ?_) (List.mem_range.2 hlt) ?_ ?_
      · have hnl:¬ qbj (listed.setIfInBounds j true) i:=by unfold qbj; simpa using hi
        have:¬ qbj listed i:=fun hx => hnl ((qbs hls).2 (.inr hx))
        unfold qbj at this; simpa using this
      · simp [hls] at h0; simp [hls,h0]
      · simp [hls]
    omega
end
def qCS (P:Program) (GE:List (Nat×List PVal)) (ops:Array Oper) (K:PSt→Prop) (st:PSt):Prop :=
  qxJ P ops st.tmps.length = true∧qiY P GE ops K ops.toList st.boxes.length { st with boxes:=st.boxes ++ qb3 P ops.toList,own:=st.own.filter fun x => ops.toList.all fun o => o.dst != some x.1.1 }
section
variable {P:Program} {E:Ent} {w:World} {a:Act} {st:PSt}
theorem qmm (m j:Nat):(Array.replicate m false).getD j false = false:=by
  rw [Array.getD_eq_getD_getElem?,Array.getElem?_replicate]
  split <;> rfl
theorem qnX:∀ (l:List Oper) (i:Nat) (o:Oper),l[i]? = some o→qai o.op = true→(qb3 P l)[qaF (l.take i)]? = qfF P o
  | [],_,_,h,_ => by simp at h
  | x :: l,0,o,h,hm => by
    simp at h; subst h
    have:∃ B,qfF P x = some B:=by cases hx:x.op <;> simp [qai,hx] at hm <;> exact ⟨_,by simp [qfF,hx]; rfl⟩
    obtain ⟨B,hB⟩:=this
    simp [qb3,qaF,hB]
  | x :: l,i + 1,o,h,hm => by
    have ih:=qnX l i o (by simpa using h) hm
    have hc:qaF ((x :: l).take (i + 1)) = qaF [x] + qaF (l.take i):=by
      rw [List.take_succ_cons,← qjT]; rfl
    rw [hc]
    unfold qb3
    rw [List.filterMap_cons]
    cases hx:qfF P x with
    | none =>
      have:qaF [x] = 0:=by cases hx':x.op <;> simp [qfF,hx'] at hx <;> simp [qaF,qai,hx']
      rw [this,Nat.zero_add]; exact ih
    | some B =>
      have:qaF [x] = 1:=by cases hx':x.op <;> simp [qfF,hx'] at hx <;> simp [qaF,qai,hx']
      rw [this,Nat.add_comm]
      simpa [qb3] using ih
theorem qwn {bs0:qbn} {id:Nat} {ops:Array Oper} {K:PSt→Prop} {Q:Exit→Act→World→Prop} (hf:P.follows .mixedOrders = true) (hR:Rel P E bs0 st a w) (hl:bs0.length ≤ st.boxes.length)
    (hQ:∀ a' w' st',a'.defers = a.defers→Rel P E bs0 st' a' w'→K st'→Q .normal a' w') (hp:qCS P E.GE ops K st):(Code.region id ops true).wp P Q a w:=by
  obtain ⟨hok,hp⟩:=hp
  have hD:=qxq hok
  obtain ⟨T,t0,t1,t2⟩:=qqE ops.toList _ _ hp
  obtain ⟨Γ,bs,ow,h,hk⟩:=hR
  have hown:∀ x ∈ st.own.filter (fun x => ops.toList.all fun o => o.dst != some x.1.1),x ∈ st.own:=fun x hx => (qa9 hx).1
  have hT:Trace P E.GE ops st.tmps.length st.boxes.length T:={
    len:=by rw [t0]
    own:=fun k o ho d hd x hx => by
      rw [t0] at hx
      have:=(qa9 hx).2
      rw [List.all_eq_true] at this
      have:=this o (List.mem_of_getElem? (by simpa using ho:ops.toList[k]? = some o))
      rw [hd] at this
      intro e; subst e; simp at this
    step:=fun k o ho => t2 k o (by simpa using ho) }
  refine wp_region_any hf ?_
  have hS:=((h.drew).less hown).extend (qb3 P ops.toList)
  refine qAC hD hT hl (ds:=a.defers) (fun a' w' hd hR' => hQ a' w' _ hd hR' (by simpa using t1)) ops.size _ a _ ?_ ?_
  · refine ⟨by simp,rfl,fun j o ho hj => ?_,Γ,_,ow,_,hS,fun i hi => ?_,by rw [t0],rfl,fun k o d ho hd hk' => ?_,fun t _ => by rw [t0],⟨0,Nat.zero_le _,fun i o ho hc => ?_,by rw [t0]⟩,fun i o ho hm _ => ?_⟩
    · unfold qbj at hj
      rw [qmm] at hj; cases hj
    · rw [List.getElem?_append_left (by rw [h.bl]; omega)]; exact hk i hi
    · unfold qbj at hk'
      rw [qmm] at hk'; cases hk'
    · unfold qbj
      rw [qmm]
      constructor
      · intro hx; cases hx
      · intro hx; exact absurd hx (Nat.not_lt_zero _)
    · have hl':ops.toList[i]? = some o:=by simpa using ho
      have hget:=qnX (P:=P) ops.toList i o hl' hm
      have hlt:qaF (ops.toList.take i) < (qb3 P ops.toList).length:=by
        have:∃ B,qfF P o = some B:=by cases hx:o.op <;> simp [qai,hx] at hm <;> exact ⟨_,by simp [qfF,hx]; rfl⟩
        obtain ⟨B,hB⟩:=this
        rw [hB] at hget
        exact qae hget
      unfold idAt
      refine ⟨?_,?_⟩
      · rw [List.getElem?_append_right (by rw [h.bl]; omega),List.getElem?_replicate,if_pos (by rw [h.bl]; omega)]
      · show (st.boxes ++ qb3 P ops.toList)[_]? = _
        rw [List.getElem?_append_right (by omega),Nat.add_sub_cancel_left]
        exact hget
  · unfold qf4
    have:=List.length_filter_le (fun i => !(Array.replicate ops.size false).getD i false) (List.range ops.size)
    simpa using this
end
end Go.Proofs.YtgldgpdhblndkaaGreatDoor
namespace Go.Proofs.YtgldgpdhblndkaaGreatDoor
open Go
def ql5 (n:Nat):List PVal→List PVal→Prop
  | [],[] => True
  | p :: ps,q :: qs => (q = .undef∨(p = q∧q.cl n))∧ql5 n ps qs
  | _,_ => False
def qkY (n:Nat):PBox→PBox→Prop
  | _,.dead => True
  | .cells cs own,.cells cs' own' => cs = cs'∧clL n cs∧∀ x ∈ own',x ∈ own
  | .map es,.map es' => es = es'∧(∀ x ∈ es,x.1.cl n∧x.2.cl n)
  | _,_ => False
def qbZ (n:Nat):List PBox→List PBox→Prop
  | _,[] => True
  | B :: l,B' :: l' => qkY n B B'∧qbZ n l l'
  | [],_ :: _ => False
structure Less (st st':PSt):Prop where
  tmps:ql5 st'.boxes.length st.tmps st'.tmps
  boxes:qbZ st'.boxes.length st.boxes st'.boxes
  own:∀ x ∈ st'.own,x ∈ st.own
def qBf:Nat→((Exit→PSt→Prop)→PSt→Prop)→Nat→(Exit→PSt→Prop)→PSt→Prop
  | 0,_,_,_,_ => False
  | n + 1,F,m,Q,st => F (fun e st' => match e with
    | .normal => ∃ st'',Less st' st''∧m ≤ st''.boxes.length∧qBf n F m Q st''
    | e => Q e st') st
def qCN (next:PSt→Prop) (Q:Exit→PSt→Prop):Exit→PSt→Prop
  | .normal,st => next st
  | e,st => Q e st
def qtb (id:Nat) (Q:Exit→PSt→Prop):Exit→PSt→Prop
  | .exit id',st => if id' = id then Q .normal st else Q (.exit id') st
  | e,st => Q e st
def pw (P:Program) (GE:List (Nat×List PVal)) (A:List Nat) (m:Nat):Code→(Exit→PSt→Prop)→PSt→Prop
  | .skip,Q,st => Q .normal st
  | .label _,Q,st => Q .normal st
  | .region _ ops draw,Q,st => match draw with
    | false => qg9 P GE A ops (Q .normal) ops.toList st.boxes.length { st with boxes:=st.boxes ++ qb3 P ops.toList }
    | true => qCS P GE ops (Q .normal) st
  | .seq a b,Q,st => pw P GE A m a (qCN (pw P GE A m b Q) Q) st
  | .cond c a b,Q,st => match opv GE st.tmps c with
    | .bool t => (t = true→pw P GE A m a Q st)∧(t = false→pw P GE A m b Q st)
    | _ => False
  | .block id c,Q,st => pw P GE A m c (qtb id Q) st
  | .loop c,Q,st => ∃ st0 n,Less st st0∧m ≤ st0.boxes.length∧qBf n (pw P GE A m c) m Q st0
  | .exit id,Q,st => Q (.exit id) st
  | .ret,Q,st => Q .ret st
  | _,_,_ => False
section
variable {P:Program} {E:Ent} {bs0:qbn}
theorem qrS {n:Nat}:∀ {l l':List PVal},ql5 n l l'→l.length = l'.length∧∀ (i:Nat) q,l'[i]? = some q→q = .undef∨(l[i]? = some q∧q.cl n)
  | [],[],_ => ⟨rfl,by simp⟩
  | [],_ :: _,h => by simp [ql5] at h
  | _ :: _,[],h => by simp [ql5] at h
  | p :: l,q :: l',h => by
    simp only [ql5] at h
    obtain ⟨h1,h2⟩:=qrS h.2
    refine ⟨by simp [h1],fun i x hx => ?_⟩
    cases i with
    | zero =>
      simp at hx; subst hx
      rcases h.1 with h3 | ⟨rfl,h3⟩
      · exact .inl h3
      · exact .inr ⟨rfl,h3⟩
    | succ i => simpa using h2 i x (by simpa using hx)
theorem qfB {n:Nat}:∀ {l l':List PBox},qbZ n l l'→l'.length ≤ l.length∧∀ (i:Nat) B',l'[i]? = some B'→∃ B,l[i]? = some B∧qkY n B B'
  | _,[],_ => ⟨by simp,by simp⟩
  | [],_ :: _,h => by simp [qbZ] at h
  | B :: l,B' :: l',h => by
    simp only [qbZ] at h
    obtain ⟨h1,h2⟩:=qfB h.2
    refine ⟨by simpa using h1,fun i x hx => ?_⟩
    cases i with
    | zero => simp at hx; subst hx; exact ⟨B,rfl,h.1⟩
    | succ i => simpa using h2 i x (by simpa using hx)
theorem Rel.less {st st':PSt} {a:Act} {w:World} (hR:Rel P E bs0 st a w) (hl:Less st st') (hm:bs0.length ≤ st'.boxes.length):Rel P E bs0 st' a w:=by
  obtain ⟨Γ,bs,ow,h,hk⟩:=hR
  obtain ⟨h1,h2⟩:=qrS hl.tmps
  obtain ⟨h3,h4⟩:=qfB hl.boxes
  have hbl:st'.boxes.length ≤ bs.length:=by rw [h.bl]; exact h3
  have hget:∀ {i b:Nat},(bs.take st'.boxes.length)[i]? = some (some b)→i < st'.boxes.length∧bs[i]? = some (some b):=by
    intro i b hi
    have hlt:i < st'.boxes.length:=by have:=qae hi; simp at this; omega
    rw [List.getElem?_take_of_lt hlt] at hi
    exact ⟨hlt,hi⟩
  have hres:∀ (i b:Nat),i < st'.boxes.length→bs[i]? = some (some b)→(bs.take st'.boxes.length)[i]? = some (some b):=fun i b hi hb => by
    rw [List.getElem?_take_of_lt hi]; exact hb
  refine ⟨Γ,bs.take st'.boxes.length,ow,?_,fun i hi => ?_⟩
  · exact {
      wi:=h.wi
      sz:=by rw [h.sz,h1]
      tm:=fun t p v hp hv => by
        rcases h2 t p hp with rfl | ⟨h5,h6⟩
        · exact .undef v
        · exact (h.tm t p v h5 hv).restrict h6 hres
      bl:=by simp; omega
      bx:=fun i b B hb hB => by
        obtain ⟨hlt,hb⟩:=hget hb
        obtain ⟨B0,hB0,hx⟩:=h4 i B hB
        obtain ⟨k1,k2,k3⟩:=h.bx i b B0 hb hB0
        refine ⟨k1,k2,?_⟩
        cases B with
        | dead => trivial
        | cells cs own =>
          cases B0 <;> simp only [qkY] at hx
          obtain ⟨rfl,hcl,_⟩:=hx
          obtain ⟨c,t,e1,e2,e3⟩:=k3
          exact ⟨c,t,e1,e2,fun j p v hp hv => (e3 j p v hp hv).restrict (qjB hcl hp) hres⟩
        | map es =>
          cases B0 <;> simp only [qkY] at hx
          obtain ⟨rfl,hcl⟩:=hx
          obtain ⟨c,t,e1,e2,e3⟩:=k3
          refine ⟨c,t,e1,e2,fun j k u x hp hv => ?_⟩
          obtain ⟨q1,q2⟩:=hcl _ (List.mem_of_getElem? hp)
          exact ⟨(e3 j k u x hp hv).1.restrict q1 hres,(e3 j k u x hp hv).2.restrict q2 hres⟩
      inj:=fun i j b hi hj => h.inj i j b (hget hi).2 (hget hj).2
      bn:=fun i b hb => h.bn i b (hget hb).2
      on:=h.on
      ot:=fun t k e he => h.ot t k e (hl.own _ he)
      ob:=fun i j e cs own b hB hj hb => by
        obtain ⟨hlt,hb⟩:=hget hb
        obtain ⟨B0,hB0,hx⟩:=h4 i _ hB
        cases B0 <;> simp only [qkY] at hx
        exact h.ob i j e _ _ b hB0 (hx.2.2 _ hj) hb
      gl:=fun g cs hg => (h.gl g cs hg).restrict (n:=0) (by simp only [PVal.cl]; exact h.gc g cs hg) (fun i b hi _ => absurd hi (Nat.not_lt_zero _))
      gc:=h.gc
      gx:=h.gx
      step:=h.step }
  · rw [List.getElem?_take_of_lt (by omega)]; exact hk i hi
end
end Go.Proofs.YtgldgpdhblndkaaGreatDoor
