/- WHAT IS PROVED: parts of the proof, put together by a program (AbsX3 SatC2). Conditions: none. -/
import Derived.Test.YtgldgpdhblndkaaGreatDoorPkF7
import Derived.Test.YtgldgpdhblndkaaGreatDoorPkF6
noncomputable section
namespace Go.Proofs.YtgldgpdhblndkaaGreatDoor
open Go
def qtV (o:Oper):List Rs:=match o.dst with
 | some d => [(false,d,0)]
 | none => []
def qyl (P:Program) (GE:List (Nat×List PVal)) (bi:Option (Nat×PBox)) (rw:List Nat) (ops:Array Oper) (o:Oper) (id:Nat) (s s':PSt) (rs:List Rs):Prop :=
 match o.guard with
 | none => StepD P GE bi rw o id s s' rs
 | some (j,want) => ∃ x,qog ops s.tmps j = some x∧(x = some want→StepD P GE bi rw o id s s' rs)∧(x ≠ some want→s' = putv s o.dst (.val undef) [] s.boxes∧rs = qtV o)
def qj0 (P:Program) (GE:List (Nat×List PVal)) (bid:Nat→Option (Nat×PBox)) (rw:List Nat) (ops:Array Oper) (K:List (List Rs)→PSt→Prop):List Oper→Nat→List (List Rs)→PSt→Prop
 | [],_,lg,st => K lg st
 | o :: rest,id,lg,st =>
  match o.guard with
  | none => ∃ s' rs,StepD P GE (bid lg.length) rw o id st s' rs∧qj0 P GE bid rw ops K rest (id + if qan o.op then 1 else 0) (lg ++ [rs]) s'
  | some (j,want) => match qog ops st.tmps j with
   | some x => (x = some want→∃ s' rs,StepD P GE (bid lg.length) rw o id st s' rs∧qj0 P GE bid rw ops K rest (id + if qan o.op then 1 else 0) (lg ++ [rs]) s') ∧
     (x ≠ some want→qj0 P GE bid rw ops K rest (id + if qan o.op then 1 else 0) (lg ++ [qtV o]) (putv st o.dst (.val undef) [] st.boxes))
   | none => False
section
variable {P:Program} {GE:List (Nat×List PVal)}
theorem qtr {bid:Nat→Option (Nat×PBox)} {rw:List Nat} {ops:Array Oper} {K:List (List Rs)→PSt→Prop}:∀ (rest:List Oper) (id:Nat) (lg:List (List Rs)) (st:PSt),qj0 P GE bid rw ops K rest id lg st →
  ∃ (T:Nat→PSt) (R:List (List Rs)),T 0 = st∧R.length = rest.length∧K (lg ++ R) (T rest.length)∧∀ (k:Nat) o,rest[k]? = some o→qyl P GE (bid (lg.length + k)) rw ops o (id + qbe (rest.take k)) (T k) (T (k + 1)) (R.getD k [])
 | [],id,lg,st,h => ⟨fun _ => st,[],rfl,rfl,by simpa [qj0] using h,by simp⟩
 | o :: rest,id,lg,st,h => by
  have hcnt:qbe [o] = if qan o.op then 1 else 0:=by unfold qbe; simp only [vbe,List.filter_nil]; split <;> rfl
  have fin:∀ st' rs,qyl P GE (bid lg.length) rw ops o id st st' rs→qj0 P GE bid rw ops K rest (id + if qan o.op then 1 else 0) (lg ++ [rs]) st' →
    ∃ (T:Nat→PSt) (R:List (List Rs)),T 0 = st∧R.length = rest.length + 1∧K (lg ++ R) (T (rest.length + 1))∧∀ (k:Nat) o',(o :: rest)[k]? = some o'→qyl P GE (bid (lg.length + k)) rw ops o' (id + qbe ((o :: rest).take k)) (T k) (T (k + 1)) (R.getD k []):=by
   intro st' rs h1 h2
   obtain ⟨T,R,t0,tl,t1,t2⟩:=qtr rest _ _ st' h2
   refine ⟨fun k => match k with | 0 => st | k + 1 => T k,rs :: R,rfl,by simp [tl],by simpa using t1,fun k o' ho' => ?_⟩
   cases k with
   | zero => simp at ho'; subst ho'; simp only [List.getD_cons_zero]; rw [t0]; simpa [qbe] using h1
   | succ k =>
    have:=t2 k o' (by simpa using ho')
    have he:id + (if qan o.op then 1 else 0) + qbe (rest.take k) = id + qbe ((o :: rest).take (k + 1)):=by
     simp only [List.take_succ_cons]
     have:qbe (o :: rest.take k) = qbe [o] + qbe (rest.take k):=by
      unfold qbe; simp only [vbe,List.filter_nil]; split <;> simp <;> omega
     rw [this,hcnt]; omega
    rw [he,show (lg ++ [rs]).length + k = lg.length + (k + 1) by simp; omega] at this
    simpa using this
  simp only [qj0] at h
  simp only [vaS]
  split at h
  ·rename_i hg
   obtain ⟨s',rs,h1,h2⟩:=h
   exact fin s' rs (by unfold qyl; rw [hg]; exact h1) h2
  ·rename_i j want hg
   split at h
   ·rename_i x hx
    by_cases hw:x = some want
    ·obtain ⟨s',rs,h1,h2⟩:=h.1 hw
     exact fin s' rs (by unfold qyl; rw [hg]; exact ⟨x,hx,fun _ => h1,fun hn => absurd hw hn⟩) h2
    ·exact fin _ _ (by unfold qyl; rw [hg]; exact ⟨x,hx,fun hy => absurd hy hw,fun _ => ⟨rfl,rfl⟩⟩) (h.2 hw)
   ·exact h.elim
end
def drawD (P:Program) (l:List Oper) (n:Nat) (an:List Nat):Bool :=
 let before (i j:Nat):Bool:=(an.getD j 0).testBit i
 let idx:=List.range l.length
 (an.length == l.length && idx.all fun j => qfw an (l.getD j default) == an.getD j 0) &&
 (l.all (fun o => o.dst.all fun d => decide (d < n)) &&
 idx.all (fun j => (l.getD j default).after.all fun e => !Region.binds .any e || decide (e.on < j)) &&
 idx.all (fun j => idx.all fun i => i == j || (l.getD i default).dst == none || (l.getD i default).dst != (l.getD j default).dst) &&
 idx.all (fun j => (looks l.toArray (l.getD j default)).all fun t => idx.all fun i => i == j || (l.getD i default).dst != some t || (if i < j then before i j else before j i)) &&
 idx.all (fun j => idx.all fun i => !(decide (i < j)) || qaD P (l.getD i default).op < 2 || qaD P (l.getD j default).op < 2 || (qaD P (l.getD i default).op != 3 && qaD P (l.getD j default).op != 3) || before i j))
def logD (an:List Nat) (lg:List (List Rs)):Bool :=
 let idx:=List.range lg.length
 idx.all fun j => (lg.getD j []).all fun r => idx.all fun i => !(decide (i < j)) || !((lg.getD i []).contains r) || (an.getD j 0).testBit i
structure DrawnD (P:Program) (ops:Array Oper) (n:Nat):Prop where
 f1:∀ (k:Nat) o d,ops[k]? = some o→o.dst = some d→d < n
 f2:∀ (k:Nat) o,ops[k]? = some o→∀ e ∈ o.after.toList,Region.binds .any e = true→e.on < k
 f3:∀ (i j:Nat) oi oj d,ops[i]? = some oi→ops[j]? = some oj→i ≠ j→oi.dst = some d→oj.dst ≠ some d
 f4:∀ (j:Nat) oj t,ops[j]? = some oj→t ∈ looks ops oj→∀ (i:Nat) oi,ops[i]? = some oi→i ≠ j→oi.dst = some t→(i < j∧bf ops i j)∨(j < i∧bf ops j i)
 f5:∀ (i j:Nat) oi oj,ops[i]? = some oi→ops[j]? = some oj→i < j→qaD P oi.op < 2∨qaD P oj.op < 2∨(qaD P oi.op ≠ 3∧qaD P oj.op ≠ 3)∨bf ops i j
theorem qBv {an an':List Nat} {o:Oper} (h:∀ e ∈ o.after.toList,Region.binds .any e = true→an.getD e.on 0 = an'.getD e.on 0):qfw an o = qfw an' o:=by
 unfold qfw
 have key:∀ (l:List Edge) (s:Nat),(∀ e ∈ l,Region.binds .any e = true→an.getD e.on 0 = an'.getD e.on 0) →
   l.foldl (fun s e => if Region.binds .any e then s ||| 2 ^ e.on ||| an.getD e.on 0 else s) s = l.foldl (fun s e => if Region.binds .any e then s ||| 2 ^ e.on ||| an'.getD e.on 0 else s) s:=by
  intro l
  induction l with
  | nil => intro s _; rfl
  | cons e l ih =>
   intro s h
   simp only [List.foldl_cons]
   rw [ih _ fun e he => h e (by simp [he])]
   by_cases hb:Region.binds .any e = true
   ·rw [vao hb,vao hb,h e (by simp) hb]
   ·rw [vam hb,vam hb]
 exact key _ _ h
theorem qK2 {l:List Oper} {an:List Nat} (hlen:an.length = l.length) (ha:∀ j,j < l.length→qfw an (l.getD j default) = an.getD j 0)
  (hedge:∀ j,j < l.length→∀ e ∈ (l.getD j default).after.toList,Region.binds .any e = true→e.on < j):ancs l = an:=by
 have key:∀ k,k ≤ l.length→ancs (l.take k) = an.take k:=by
  intro k
  induction k with
  | zero => intro _; simp [ancs]
  | succ k ih =>
   intro hk
   have ih:=ih (by omega)
   have hl:l.take (k + 1) = l.take k ++ [l.getD k default]:=by
    rw [vcn,van]
    simp [show k < l.length by omega]
   have han:an.take (k + 1) = an.take k ++ [an.getD k 0]:=by
    rw [vcn,van]
    simp [show k < an.length by omega]
   have hstep:ancs (l.take k ++ [l.getD k default]) = ancs (l.take k) ++ [qfw (ancs (l.take k)) (l.getD k default)]:=by
    unfold ancs; rw [vbY]; rfl
   rw [hl,hstep,ih,han,← ha k (by omega)]
   congr 2
   refine qBv fun e he hb => ?_
   have:=hedge k (by omega) e he hb
   rw [van,van,vap this]
 have:=key l.length (vak _)
 rwa [vbr,← hlen,vbr] at this
theorem qGy {P:Program} {ops:Array Oper} {n:Nat} {an:List Nat} (h:drawD P ops.toList n an = true):DrawnD P ops n∧ancs ops.toList = an:=by
 unfold drawD at h
 simp only [vae,vav,vbs,va5,va3,vah,bne_iff_ne,ne_eq,va1,vbC,Option.all_eq_true] at h
 obtain ⟨⟨ha1,ha2⟩,⟨⟨⟨h1,h2⟩,h3⟩,h4⟩,h5⟩:=h
 have hl:∀ {k:Nat} {o},ops[k]? = some o→ops.toList[k]? = some o:=fun hk => by simpa using hk
 have han:ancs ops.toList = an:=by
  refine qK2 ha1 ha2 fun j hj e he hb => ?_
  rcases h2 j hj e (by simpa using he) with hx | hx
  ·rw [hb] at hx; cases hx
  ·exact hx
 refine ⟨⟨fun k o d hk hd => ?_,fun k o hk e he hb => ?_,fun i j oi oj d hi hj hij hd hd' => ?_,fun j oj t hj ht i oi hi hij hd => ?_,fun i j oi oj hi hj hij => ?_⟩,han⟩
 ·exact h1 o (vay (hl hk)) d hd
 ·have:=h2 k (qag (hl hk)) e (by rw [qrO (hl hk)]; simpa using he)
  rcases this with hx | hx
  ·rw [hb] at hx; cases hx
  ·exact hx
 ·have:=h3 j (qag (hl hj)) i (qag (hl hi))
  rw [qrO (hl hi),qrO (hl hj)] at this
  rcases this with (hx | hx) | hx
  ·exact hij hx
  ·rw [hd] at hx; cases hx
  ·exact hx (hd.trans hd'.symm)
 ·have:=h4 j (qag (hl hj)) t (by rw [qrO (hl hj)]; exact ht) i (qag (hl hi))
  rw [qrO (hl hi)] at this
  unfold bf
  rw [han]
  rcases this with (hx | hx) | hx
  ·exact absurd hx hij
  ·exact absurd hd hx
  ·by_cases hlt:i < j
   ·rw [vao hlt] at hx; exact .inl ⟨hlt,hx⟩
   ·rw [vam hlt] at hx; exact .inr ⟨by omega,hx⟩
 ·have:=h5 j (qag (hl hj)) i (qag (hl hi))
  rw [qrO (hl hi),qrO (hl hj)] at this
  unfold bf
  rw [han]
  rcases this with (((hx | hx) | hx) | hx) | hx
  ·rw [vbl] at hx; exact absurd hij hx
  ·exact .inl hx
  ·exact .inr (.inl hx)
  ·exact .inr (.inr (.inl hx))
  ·exact .inr (.inr (.inr hx))
theorem qHu {an:List Nat} {lg:List (List Rs)} (h:logD an lg = true) {i j:Nat} {r:Rs} (hij:i < j) (hi:r ∈ lg.getD i []) (hj:r ∈ lg.getD j []):(an.getD j 0).testBit i = true:=by
 unfold logD at h
 simp only [vav,vbs,va5,va3,vbl,vcG] at h
 have hjl:j < lg.length:=by
  by_cases hx:j < lg.length
  ·exact hx
  ·rw [van,vaB (by omega)] at hj; simp at hj
 rcases h j hjl r hj i (by omega) with (hx | hx) | hx
 ·exact absurd hij hx
 ·exact absurd hi hx
 ·exact hx
section
variable {P:Program} {GE:List (Nat×List PVal)} {bid:Nat→Option (Nat×PBox)} {rw:List Nat} {ops:Array Oper} {n base:Nat} {T:Nat→PSt} {R:Nat→List Rs}
structure TraceD (P:Program) (GE:List (Nat×List PVal)) (bid:Nat→Option (Nat×PBox)) (rw:List Nat) (ops:Array Oper) (n base:Nat) (T:Nat→PSt) (R:Nat→List Rs):Prop where
 len:(T 0).tmps.length = n
 step:∀ (k:Nat) o,ops[k]? = some o→qyl P GE (bid k) rw ops o (base + qbe (ops.toList.take k)) (T k) (T (k + 1)) (R k)
 log:∀ (i j:Nat) r,i < j→r ∈ R i→r ∈ R j→bf ops i j
 row0:∀ i ∈ rw,∀ k e,¬ hasT (T 0) (true,(i,k),e)
 rowl:∀ j,j < ops.size→∀ i ∈ rw,∀ k,(true,i,k) ∉ R j
 binj:∀ (j k i:Nat) B B',bid j = some (i,B)→bid k = some (i,B')→j = k
theorem qJy {o:Oper} {s:PSt}:DEff P o s (putv s o.dst (.val undef) [] s.boxes) (qtV o):=by
 unfold qtV
 cases hd:o.dst with
 | none => exact ⟨by rw [hd]; rfl,fun _ => rfl,fun τ _ h => h⟩
 | some d =>
  refine ⟨by rw [hd]; exact ⟨_,rfl⟩,fun _ => rfl,?_⟩
  rintro ⟨b,⟨t,k⟩,e⟩ hr hh
  cases b with
  | true => exact hh
  | false => exact (qcy (by simpa [putv] using qbH.1 hh)).1
theorem qyl.eff {bi:Option (Nat×PBox)} {o:Oper} {id:Nat} {s s':PSt} {rs:List Rs} (h:qyl P GE bi rw ops o id s s' rs):DEff P o s s' rs:=by
 unfold qyl at h
 split at h
 ·exact h.eff
 ·obtain ⟨x,_,h1,h2⟩:=h
  by_cases hx:x = some ‹Bool›
  ·exact (h1 hx).eff
  ·obtain ⟨rfl,rfl⟩:=h2 hx; exact qJy
theorem TraceD.all (hT:TraceD P GE bid rw ops n base T R):∀ k,k ≤ ops.size→(T k).tmps.length = n:=by
 intro k
 induction k with
 | zero => intro _; exact hT.len
 | succ k ih =>
  intro hk
  have h1:=ih (by omega)
  have hok:ops[k]? = some ops[k]:=by simp [show k < ops.size by omega]
  have he:=(hT.step k _ hok).eff.tm
  split at he
  ·obtain ⟨p,he⟩:=he; rw [he]; simp [h1]
  ·rw [he]; exact h1
theorem TraceD.between (hT:TraceD P GE bid rw ops n base T R) {t:Nat}:∀ (m k:Nat),k + m ≤ ops.size→(∀ (i:Nat) o,k ≤ i→i < k + m→ops[i]? = some o→o.dst ≠ some t)→(T (k + m)).tmps[t]? = (T k).tmps[t]?:=by
 intro m
 induction m with
 | zero => intro k _ _; rfl
 | succ m ih =>
  intro k hk hne
  have hok:ops[k + m]? = some ops[k + m]:=by simp [show k + m < ops.size by omega]
  have he:=(hT.step _ _ hok).eff.tm
  have hn:=hne (k + m) _ (by omega) (by omega) hok
  have ih:=ih k (by omega) fun i o h1 h2 => hne i o h1 (by omega)
  rw [← ih,show k + (m + 1) = k + m + 1 from rfl]
  split at he
  ·rename_i d hd
   obtain ⟨p,he⟩:=he
   rw [he,vaq (fun e => hn (by rw [hd,e]))]
  ·rw [he]
theorem TraceD.boxes (hT:TraceD P GE bid rw ops n base T R):∀ (m k:Nat),k + m ≤ ops.size→(∀ (i:Nat) o,k ≤ i→i < k + m→ops[i]? = some o→qaD P o.op ≠ 3)→(T (k + m)).boxes.map qbt = (T k).boxes.map qbt:=by
 intro m
 induction m with
 | zero => intro k _ _; rfl
 | succ m ih =>
  intro k hk hne
  have hok:ops[k + m]? = some ops[k + m]:=by simp [show k + m < ops.size by omega]
  rw [show k + (m + 1) = k + m + 1 from rfl,(hT.step _ _ hok).eff.bx (hne (k + m) _ (by omega) (by omega) hok)]
  exact ih k (by omega) fun i o h1 h2 => hne i o h1 (by omega)
theorem TraceD.boxes_eq (hT:TraceD P GE bid rw ops n base T R) {k m:Nat} (hk:k ≤ ops.size) (hm:m ≤ ops.size) (h:∀ (i:Nat) o,ops[i]? = some o→qaD P o.op = 3→(i < k↔i < m)):(T k).boxes.map qbt = (T m).boxes.map qbt:=by
 rcases Nat.le_total k m with hle | hle
 ·have:=hT.boxes (m - k) k (by omega) fun i o h1 h2 ho hc => by have:=(h i o ho hc); omega
  rw [show k + (m - k) = m from by omega] at this
  exact this.symm
 ·have:=hT.boxes (k - m) m (by omega) fun i o h1 h2 ho hc => by have:=(h i o ho hc); omega
  rw [show m + (k - m) = k from by omega] at this
  exact this
theorem TraceD.back (hT:TraceD P GE bid rw ops n base T R) {τ:Tok}:∀ (m k:Nat),k + m ≤ ops.size→(∀ i,k ≤ i→i < k + m→qdr τ ∉ R i)→hasT (T (k + m)) τ→hasT (T k) τ:=by
 intro m
 induction m with
 | zero => intro k _ _ h; exact h
 | succ m ih =>
  intro k hk hne h
  have hok:ops[k + m]? = some ops[k + m]:=by simp [show k + m < ops.size by omega]
  exact ih k (by omega) (fun i h1 h2 => hne i h1 (by omega)) ((hT.step _ _ hok).eff.back τ (hne _ (by omega) (by omega)) h)
theorem TraceD.norow (hT:TraceD P GE bid rw ops n base T R) {q i k:Nat} {e:TypeId} (hq:q ≤ ops.size) (hi:i ∈ rw):¬ hasT (T q) (true,(i,k),e):=fun h => by
 have:=hT.back (τ:=(true,(i,k),e)) q 0 (by omega) (fun j _ h2 hr => hT.rowl j (by omega) i hi k (by simpa [qdr] using hr)) (by rw [vaF]; exact h)
 exact hT.row0 i hi k e this
variable {E:Ent} {bs0:qbp} {ds:List Deferred}
structure DInvD (P:Program) (E:Ent) (bid:Nat→Option (Nat×PBox)) (ops:Array Oper) (n base:Nat) (T:Nat→PSt) (R:Nat→List Rs) (bs0:qbp) (ds:List Deferred) (listed:Array Bool) (a:Act) (w:World):Prop where
 size:listed.size = ops.size
 defers:a.defers = ds
 down:Down ops listed
 ex:∃ Γ bs ow st,SR P E Γ bs ow w a.tmps st∧qK6 bs0 bs∧st.tmps.length = n ∧
  (∀ (k:Nat) o d,ops[k]? = some o→o.dst = some d→qcA listed k→st.tmps[d]? = (T ops.size).tmps[d]?) ∧
  (∀ t,(∀ (k:Nat) o,ops[k]? = some o→qcA listed k→o.dst ≠ some t)→st.tmps[t]? = (T 0).tmps[t]?) ∧
  (∃ m,m ≤ ops.size∧(∀ (i:Nat) o,ops[i]? = some o→qaD P o.op = 3→(qcA listed i↔i < m))∧st.boxes.map qbt = (T m).boxes.map qbt) ∧
  (∀ (i:Nat) o,ops[i]? = some o→qan o.op = true→¬ qcA listed i→bs[idAt ops base i]? = some none∧st.boxes[idAt ops base i]? = qkH P o) ∧
  (∀ (τ:Tok) (m:Nat),m ≤ ops.size→(∀ k,k < ops.size→qdr τ ∈ R k→(qcA listed k↔k < m))→hasT (T m) τ→hasT st τ) ∧
  (∀ (k i:Nat) B,k < ops.size→bid k = some (i,B)→¬ qcA listed k→bs[i]? = some none∧st.boxes[i]? = some B)
theorem qF9 (hD:DrawnD P ops n) (hT:TraceD P E.GE bid rw ops n base T R) (hbase:bs0.length ≤ base) (hbd:∀ (k i:Nat) B,bid k = some (i,B)→bs0.length ≤ i∧i < base) {listed:Array Bool} {a:Act} {w:World} (hI:DInvD P E bid ops n base T R bs0 ds listed a w) {j:Nat} (hj:j ∈ Region.ready .any ops listed)
  (Q:Exit→Act→World→Prop):wpOp P ops Q j (DInvD P E bid ops n base T R bs0 ds (listed.setIfInBounds j true)) a w:=by
 obtain ⟨hj0,oj,hoj,hja⟩:=mem_ready.1 hj
 have hjs:j < ops.size:=(var.1 hoj).1
 have hnl:¬ qcA listed j:=by
  unfold qcA
  have:j < listed.size:=by rw [hI.size]; exact hjs
  simp [this] at hj0 ⊢
  exact hj0
 have haft:∀ e ∈ oj.after.toList,Region.binds .any e = true→qcA listed e.on:=fun e he hb => hja e (by simpa using he) hb
 have hbf:∀ i,bf ops i j→qcA listed i:=qCm hI.down j oj hoj haft
 have hbf':∀ (i:Nat) oi,ops[i]? = some oi→bf ops j i→¬ qcA listed i:=fun i oi hi hb hli => hnl (qCm hI.down i oi hi (hI.down i oi hi hli) j hb)
 obtain ⟨Γ,bs,ow,st,hS,hK,hlen,ht1,ht2,⟨m,hm,hmw,hmb⟩,hun,htk,hub⟩:=hI.ex
 have hop:∀ k,k < ops.size→∃ o,ops[k]? = some o:=fun k hk => ⟨_,va9 hk⟩
 have hlook:∀ t,t ∈ looks ops oj→st.tmps[t]? = (T j).tmps[t]?:=by
  intro t ht
  by_cases hex:∃ i oi,ops[i]? = some oi∧i ≠ j∧oi.dst = some t
  ·obtain ⟨i,oi,hoi,hij,hdi⟩:=hex
   have honly:∀ (k:Nat) o,ops[k]? = some o→o.dst = some t→k = i:=fun k o ho hdk => by
    by_cases hki:k = i
    ·exact hki
    ·exact absurd hdi (hD.f3 k i o oi t ho hoi hki hdk)
   rcases hD.f4 j oj t hoj ht i oi hoi hij hdi with ⟨hlt,hb⟩ | ⟨hlt,hb⟩
   ·rw [ht1 i oi t hoi hdi (hbf i hb)]
    have:=hT.between (t:=t) (ops.size - j) j (by omega) fun k o h1 h2 ho hk => by have:=honly k o ho hk; omega
    rwa [show j + (ops.size - j) = ops.size from by omega] at this
   ·rw [ht2 t fun k o ho hlk hk => by have:=honly k o ho hk; subst this; exact hbf' k o ho hb hlk]
    have:=hT.between (t:=t) j 0 (by omega) fun k o h1 h2 ho hk => by have:=honly k o ho hk; omega
    rw [vaF] at this
    exact this.symm
  ·rw [ht2 t fun k o ho hlk hk => hex ⟨k,o,ho,fun e => by subst e; exact hnl hlk,hk⟩]
   have:=hT.between (t:=t) j 0 (by omega) fun k o h1 h2 ho hk => hex ⟨k,o,ho,by omega,hk⟩
   rw [vaF] at this
   exact this.symm
 have hopv:∀ x ∈ oj.op.operands.toList,opv E.GE (T j).tmps x = opv E.GE st.tmps x:=by
  intro x hx
  cases x with
  | tmp t =>
   have:t ∈ looks ops oj:=vbb _ (vbR.2 ⟨.tmp t,hx,rfl⟩)
   show (T j).tmps.getD t .undef = st.tmps.getD t .undef
   rw [van,van,hlook t this]
  | const v => rfl
  | global g => rfl
  | func f => rfl
 have hboxes:2 ≤ qaD P oj.op→st.boxes.map qbt = (T j).boxes.map qbt:=by
  intro hc
  rw [hmb]
  refine hT.boxes_eq hm (by omega) fun i o ho hco => ?_
  rw [← hmw i o ho hco]
  rcases vco i j with hlt | rfl | hlt
  ·rcases hD.f5 i j o oj ho hoj hlt with h | h | h | h
   ·omega
   ·omega
   ·exact absurd hco h.1
   ·exact ⟨fun _ => hlt,fun _ => hbf i h⟩
  ·exact ⟨fun h => absurd h hnl,fun h => absurd h (vbQ _)⟩
  ·rcases hD.f5 j i oj o hoj ho hlt with h | h | h | h
   ·omega
   ·omega
   ·exact absurd hco h.2
   ·exact ⟨fun hl => absurd hl (hbf' i o ho h),fun hx => by omega⟩
 have hjl:j < listed.size:=by rw [hI.size]; exact hjs
 have hwr:qaD P oj.op = 3→∀ (i:Nat) o,ops[i]? = some o→qaD P o.op = 3→(qcA (listed.setIfInBounds j true) i↔i < j + 1):=by
  intro hc i o ho hco
  rw [qcJ hjl]
  rcases vco i j with hlt | rfl | hlt
  ·rcases hD.f5 i j o oj ho hoj hlt with h | h | h | h
   ·omega
   ·omega
   ·exact absurd hco h.1
   ·exact ⟨fun _ => by omega,fun _ => .inr (hbf i h)⟩
  ·exact ⟨fun _ => by omega,fun _ => .inl rfl⟩
  ·rcases hD.f5 j i oj o hoj ho hlt with h | h | h | h
   ·omega
   ·omega
   ·exact absurd hco h.2
   ·refine ⟨fun hl => ?_,fun hx => by omega⟩
    rcases hl with hl | hl
    ·omega
    ·exact absurd hl (hbf' i o ho h)
 have htok:∀ τ,qdr τ ∈ R j→hasT (T j) τ→hasT st τ:=fun τ hr => htk τ j (by omega) fun k hk hkr => by
  rcases vco k j with hlt | rfl | hlt
  ·exact ⟨fun _ => hlt,fun _ => hbf k (hT.log k j _ hlt hkr hr)⟩
  ·exact ⟨fun h => absurd h hnl,fun h => absurd h (vbQ _)⟩
  ·obtain ⟨o,ho⟩:=hop k hk
   exact ⟨fun hl => absurd hl (hbf' k o ho (hT.log j k _ hlt hr hkr)),fun hx => by omega⟩
 have hTl:=hT.all j (by omega)
 have fin:∀ {Γ':qaX} {bs':qbp} {ow':Nat→Option Loc} {w':World} {a':Act} {st':PSt},a'.defers = ds→SR P E Γ' bs' ow' w' a'.tmps st'→DPost P bs rw oj st st' (T j) (T (j + 1)) (R j) →
   (bs' = bs∨(qan oj.op = true∧∃ b,bs' = bs.set (idAt ops base j) (some b))∨∃ i B x,bid j = some (i,B)∧bs' = bs.set i x)→DInvD P E bid ops n base T R bs0 ds (listed.setIfInBounds j true) a' w':=by
  intro Γ' bs' ow' w' a' st' hda hS' hP hbs'
  refine ⟨by simp [hI.size],hda,fun k o ho hk e he hb => ?_,Γ',bs',ow',st',hS',?_,?_,?_,?_,?_,?_,?_,?_⟩
  ·rw [qcJ hjl] at hk ⊢
   rcases hk with rfl | hk
   ·rw [hoj] at ho; cases ho
    exact .inr (haft e he hb)
   ·exact .inr (hI.down k o ho hk e he hb)
  ·rcases hbs' with rfl | ⟨_,b,rfl⟩ | ⟨i',B,x,hb,rfl⟩
   ·exact hK
   ·intro i hi
    rw [vaq (by unfold idAt; omega)]
    exact hK i hi
   ·intro i hi
    rw [vaq (by have:=(hbd _ _ _ hb).1; omega)]
    exact hK i hi
  ·have:=hP.tm
   split at this
   ·obtain ⟨p,h1,_⟩:=this; rw [h1]; simp [hlen]
   ·rw [this.1]; exact hlen
  ·intro k o dk ho hdk hk
   rw [qcJ hjl] at hk
   have hPt:=hP.tm
   by_cases hkj:k = j
   ·subst hkj
    rw [hoj] at ho; cases ho
    rw [hdk] at hPt
    obtain ⟨p,h1,h2⟩:=hPt
    have:=hT.between (t:=dk) (ops.size - (k + 1)) (k + 1) (by omega) fun i o h1 h2 ho hk => hD.f3 k i oj o dk hoj ho (by omega) hdk hk
    rw [show k + 1 + (ops.size - (k + 1)) = ops.size from by omega] at this
    have hdn:=hD.f1 k oj dk hoj hdk
    rw [this,h1,h2,vai (by rw [hlen]; exact hdn),vai (by rw [hTl]; exact hdn)]
   ·have hold:=ht1 k o dk ho hdk (hk.resolve_left hkj)
    split at hPt
    ·rename_i d hd
     obtain ⟨p,h1,_⟩:=hPt
     have hne:d ≠ dk:=fun e => by subst e; exact hD.f3 j k oj o d hoj ho (Ne.symm hkj) hd hdk
     rw [h1,vaq hne]; exact hold
    ·rw [hPt.1]; exact hold
  ·intro t hnt
   have hold:=ht2 t fun k o ho hk => hnt k o ho ((qcJ hjl).2 (.inr hk))
   have hPt:=hP.tm
   split at hPt
   ·rename_i d hd
    obtain ⟨p,h1,_⟩:=hPt
    have hne:d ≠ t:=fun e => by subst e; exact hnt j oj hoj ((qcJ hjl).2 (.inl rfl)) hd
    rw [h1,vaq hne]; exact hold
   ·rw [hPt.1]; exact hold
  ·by_cases hc:qaD P oj.op = 3
   ·exact ⟨j + 1,by omega,hwr hc,hP.b2 hc⟩
   ·refine ⟨m,hm,fun i o ho hco => ?_,(hP.b1 hc).trans hmb⟩
    rw [qcJ hjl,← hmw i o ho hco]
    constructor
    ·rintro (rfl | hx)
     ·rw [hoj] at ho; cases ho; exact absurd hco hc
     ·exact hx
    ·exact .inr
  ·intro i o ho hmk hni
   have hij:i ≠ j:=fun e => by subst e; exact hni ((qcJ hjl).2 (.inl rfl))
   obtain ⟨u1,u2⟩:=hun i o ho hmk fun hx => hni ((qcJ hjl).2 (.inr hx))
   refine ⟨?_,(hP.un _ u1).trans u2⟩
   rcases hbs' with rfl | ⟨hmj,b,rfl⟩ | ⟨i',B,x,hb,rfl⟩
   ·exact u1
   ·have hne:idAt ops base j ≠ idAt ops base i:=by
     rcases Nat.lt_or_gt_of_ne hij with hlt | hlt
     ·have:=qGX (base:=base) ho hmk hlt; omega
     ·have:=qGX (base:=base) hoj hmj hlt; omega
    rw [vaq hne]; exact u1
   ·rw [vaq (by have:=(hbd _ _ _ hb).2; unfold idAt; omega)]; exact u1
  ·intro τ q hq hqk hh
   by_cases hr:qdr τ ∈ R j
   ·have hjq:j < q:=(hqk j hjs hr).1 ((qcJ hjl).2 (.inl rfl))
    refine hP.got τ hr ?_
    have:=hT.back (τ:=τ) (q - (j + 1)) (j + 1) (by omega) fun i h1 h2 hir => by
     have hi:i < ops.size:=by omega
     obtain ⟨o,ho⟩:=hop i hi
     have hli:=(hqk i hi hir).2 (by omega)
     rcases (qcJ hjl).1 hli with hx | hx
     ·omega
     ·exact hbf' i o ho (hT.log j i _ (by omega) hr hir) hx
    rw [show j + 1 + (q - (j + 1)) = q from by omega] at this
    exact this hh
   ·refine hP.keep τ hr (fun h1 h2 => ?_) (htk τ q hq (fun k hk hkr => ?_) hh)
    ·obtain ⟨b,⟨t,k⟩,e⟩:=τ
     simp only at h1 h2
     subst h1
     exact hT.norow hq h2 hh
    rw [← hqk k hk hkr,qcJ hjl]
    constructor
    ·exact .inr
    ·rintro (rfl | hx)
     ·exact absurd hkr hr
     ·exact hx
  ·intro k i B hk hb hnk
   have hkj:k ≠ j:=fun e => by subst e; exact hnk ((qcJ hjl).2 (.inl rfl))
   obtain ⟨u1,u2⟩:=hub k i B hk hb fun hx => hnk ((qcJ hjl).2 (.inr hx))
   refine ⟨?_,(hP.un _ u1).trans u2⟩
   rcases hbs' with rfl | ⟨_,b,rfl⟩ | ⟨i',B',x,hb',rfl⟩
   ·exact u1
   ·rw [vaq (by have:=(hbd _ _ _ hb).2; unfold idAt; omega)]; exact u1
   ·rw [vaq (fun e => by subst e; exact hkj (hT.binj _ _ _ _ _ hb hb'))]; exact u1
 have hbi:∀ i B,bid j = some (i,B)→bs[i]? = some none∧st.boxes[i]? = some B:=fun i B hb => hub j i B hjs hb hnl
 have hid:qan oj.op = true→bs[idAt ops base j]? = some none∧st.boxes[idAt ops base j]? = qkH P oj:=fun hmk => hun j oj hoj hmk hnl
 have hdd:∀ d,oj.dst = some d→d < st.tmps.length:=fun d hd => by rw [hlen]; exact hD.f1 j oj d hoj hd
 have run:StepD P E.GE (bid j) rw oj (idAt ops base j) (T j) (T (j + 1)) (R j)→oj.wp P a w (DInvD P E bid ops n base T R bs0 ds (listed.setIfInBounds j true)) Q:=by
  intro hs
  refine Oper.wp_mono (fun a' w' hA => ?_) (hs.sound hS hid hbi hopv hboxes htok hdd Q)
  obtain ⟨hda,Γ',bs',ow',st',hS',hP,hb⟩:=hA
  exact fin (hda.trans hI.defers) hS' hP hb
 have skip:T (j + 1) = putv (T j) oj.dst (.val undef) [] (T j).boxes→R j = qtV oj→DInvD P E bid ops n base T R bs0 ds (listed.setIfInBounds j true) (a.put oj.dst undef) w:=by
  intro hT1 hR1
  refine fin ((qbB _ _ _).trans hI.defers) (hS.putv_nil (.val undef) oj.dst rfl) ?_ (.inl rfl)
  rw [hT1,hR1]
  cases hd:oj.dst with
  | none => exact ⟨by rw [hd]; exact ⟨rfl,rfl⟩,fun _ => rfl,fun hc => hboxes (by omega),fun τ _ _ h => h,fun τ hr => by simp [qtV,hd] at hr,fun _ _ => rfl⟩
  | some d =>
   refine ⟨by rw [hd]; exact ⟨_,rfl,rfl⟩,fun _ => rfl,fun hc => hboxes (by omega),qD8 (L:=[]) (by simp [qtV,hd]),?_,fun _ _ => rfl⟩
   intro τ hr hh
   exact gotL (L:=[]) τ (by simpa [qtV,hd] using hr) hh
 have hstep:=hT.step j oj hoj
 unfold wpOp
 rw [hoj]
 simp only
 unfold qyl at hstep
 have hgo:(Region.wanted oj (yielded ops a.tmps) = true→oj.wp P a w (DInvD P E bid ops n base T R bs0 ds (listed.setIfInBounds j true)) Q) ∧
   (¬ Region.wanted oj (yielded ops a.tmps) = true→DInvD P E bid ops n base T R bs0 ds (listed.setIfInBounds j true) (a.put oj.dst undef) w):=by
  split at hstep
  ·rename_i hg
   exact ⟨fun _ => run hstep,fun hn => absurd (by simp [Region.wanted,hg]) hn⟩
  ·rename_i jg want hg
   obtain ⟨x,hx,h1,h2⟩:=hstep
   have hx':qog ops st.tmps jg = some x:=by
    rw [← hx]
    unfold qog
    cases hdg:(ops[jg]?).bind (·.dst) with
    | none => rfl
    | some t =>
     have:t ∈ looks ops oj:=vbd _ (by rw [hg]; simp [hdg])
     simp only [hlook t this]
   have hw:Region.wanted oj (yielded ops a.tmps) = (x == some want):=by simp [Region.wanted,hg,qwL hS hx']
   rw [hw]
   refine ⟨fun hy => run (h1 (by simpa using hy)),fun hy => ?_⟩
   obtain ⟨k1,k2⟩:=h2 (by simpa using hy)
   exact skip k1 k2
 by_cases hw:Region.wanted oj (yielded ops a.tmps) = true
 ·rw [vao hw]; exact .inl (hgo.1 hw)
 ·rw [vam hw]; exact hgo.2 hw
theorem qGx (hD:DrawnD P ops n) {listed:Array Bool} (hs:listed.size = ops.size) (hr:Region.ready .any ops listed = []):∀ j,j < ops.size→qcA listed j:=by
 intro j
 induction j using Nat.strongRecOn with
 | _ j ih =>
  intro hj
  by_cases hl:qcA listed j
  ·exact hl
  ·exfalso
   have hoj:ops[j]? = some ops[j]:=by simp [hj]
   have:j ∈ Region.ready .any ops listed:=mem_ready.2 ⟨by
    unfold qcA at hl
    have:j < listed.size:=by omega
    simp [this] at hl ⊢; exact hl,_,hoj,fun e he hb => by
    have hlt:=hD.f2 j _ hoj e (by simpa using he) hb
    exact ih e.on hlt (by omega)⟩
   rw [hr] at this; cases this
theorem SR.rights {Γ:qaX} {bs:qbp} {ow:Nat→Option Loc} {w:World} {a:Array Value} {st st2:PSt} (h:SR P E Γ bs ow w a st) (h1:st2.tmps = st.tmps) (h2:st2.boxes.map qbt = st.boxes.map qbt) (h3:∀ τ,hasT st2 τ→hasT st τ) :
  SR P E Γ bs ow w a st2 :=
 { h with
  sz:=by rw [h1]; exact h.sz
  tm:=by rw [h1]; exact h.tm
  bl:=by have:=vbn List.length h2; simp at this; rw [h.bl,this]
  bx:=fun i b B hb hB => by
   have hg:=getS h2 i
   rw [hB] at hg
   cases hB1:st.boxes[i]? with
   | none => rw [hB1] at hg; cases hg
   | some B1 =>
    rw [hB1] at hg
    obtain ⟨k1,k2,k3⟩:=h.bx i b B1 hb hB1
    refine ⟨k1,k2,?_⟩
    cases B <;> cases B1 <;> simp [qbt] at hg
    ·subst hg; exact k3
    ·subst hg; exact k3
    ·trivial
  ot:=fun t k e he => h.ot t k e (h3 (false,(t,k),e) he)
  ob:=fun i j e cs own b hB hj hb => by
   obtain ⟨cs',own',e1,e2⟩:=qdt.1 (h3 (true,(i,j),e) ⟨cs,own,hB,hj⟩)
   exact h.ob i j e cs' own' b e1 e2 hb }
theorem qIm (hD:DrawnD P ops n) (hT:TraceD P E.GE bid rw ops n base T R) (hbase:bs0.length ≤ base) (hbd:∀ (k i:Nat) B,bid k = some (i,B)→bs0.length ≤ i∧i < base) {Q:Exit→Act→World→Prop}
  (hQ:∀ a w,a.defers = ds→Rel P E bs0 (T ops.size) a w→Q .normal a w):∀ (fuel:Nat) (listed:Array Bool) (a:Act) (w:World),DInvD P E bid ops n base T R bs0 ds listed a w→qpE ops.size listed ≤ fuel→wpAny P .any ops Q fuel listed a w:=by
 have hend:∀ (listed:Array Bool) (a:Act) (w:World),DInvD P E bid ops n base T R bs0 ds listed a w→(∀ j,j < ops.size→qcA listed j)→Q .normal a w:=by
  intro listed a w hI hall
  obtain ⟨Γ,bs,ow,st,hS,hK,hlen,ht1,ht2,⟨m,hm,hmw,hmb⟩,_,htk,_⟩:=hI.ex
  have e1:st.tmps = (T ops.size).tmps:=by
   apply vbj
   intro t
   by_cases hex:∃ (k:Nat) (o:Oper),ops[k]? = some o∧o.dst = some t
   ·obtain ⟨k,o,ho,hd⟩:=hex
    exact ht1 k o t ho hd (hall k (var.1 ho).1)
   ·rw [ht2 t fun k o ho _ hd => hex ⟨k,o,ho,hd⟩]
    have:=hT.between (t:=t) ops.size 0 (by omega) fun k o _ _ ho hd => hex ⟨k,o,ho,hd⟩
    rw [vaF] at this
    exact this.symm
  have e2:st.boxes.map qbt = (T ops.size).boxes.map qbt:=by
   rw [hmb]
   refine hT.boxes_eq hm (vak _) fun i o ho hco => ?_
   rw [← hmw i o ho hco]
   have hi:=(var.1 ho).1
   exact ⟨fun _ => hi,fun _ => hall i hi⟩
  exact hQ a w hI.defers ⟨Γ,bs,ow,hS.rights e1.symm e2.symm fun τ hh => htk τ ops.size (vak _) (fun k hk _ => ⟨fun _ => hk,fun _ => hall k hk⟩) hh,hK⟩
 intro fuel
 induction fuel with
 | zero =>
  intro listed a w hI hu
  have hall:∀ j,j < ops.size→qcA listed j:=by
   intro j hj
   by_cases hl:qcA listed j
   ·exact hl
   ·exfalso
    have:j ∈ (List.range ops.size).filter fun i => !listed.getD i false:=by
     rw [vaU,vbs]
     exact ⟨hj,by unfold qcA at hl; simpa using hl⟩
    have:=List.length_pos_of_mem this
    unfold qpE at hu
    omega
  refine ⟨?_,hend listed a w hI hall⟩
  rw [List.eq_nil_iff_forall_not_mem]
  intro j hj
  obtain ⟨h0,o,ho,_⟩:=mem_ready.1 hj
  have hlt:=(var.1 ho).1
  have:=hall j hlt
  unfold qcA at this
  have hls:j < listed.size:=by rw [hI.size]; exact hlt
  simp [hls] at this h0
  rw [this] at h0; cases h0
 | succ fuel ih =>
  intro listed a w hI hu
  refine ⟨fun hr => hend listed a w hI (qGx hD hI.size hr),fun j hj => ?_⟩
  refine wpOp_mono (fun a' w' hI' => ih _ a' w' hI' ?_) (qF9 hD hT hbase hbd hI hj Q)
  obtain ⟨h0,o,ho,_⟩:=mem_ready.1 hj
  have hlt:=(var.1 ho).1
  have hls:j < listed.size:=by rw [hI.size]; exact hlt
  have:qpE ops.size (listed.setIfInBounds j true) < qpE ops.size listed:=by
   unfold qpE
   refine qEE (fun i hi => ?_) (vbs.2 hlt) ?_ ?_
   ·have hnl:¬ qcA (listed.setIfInBounds j true) i:=by unfold qcA; simpa using hi
    have:¬ qcA listed i:=fun hx => hnl ((qcJ hls).2 (.inr hx))
    unfold qcA at this; simpa using this
   ·simp [hls] at h0; simp [hls,h0]
   ·simp [hls]
  omega
end
def qGn (br:List (Nat×Nat)) (H:List PBox) (k:Nat):Option (Nat×PBox):=match br.find? (fun x => x.1 == k) with
 | some x => (H[x.2]?).map fun B => (x.2,B)
 | none => none
def brOk (br:List (Nat×Nat)) (lo n:Nat):Bool:=br.all (fun x => decide (lo ≤ x.2) && decide (x.2 < lo + n)) && br.all fun x => br.all fun y => x.2 != y.2 || x.1 == y.1
def qMj (rw:List Nat) (H:List PBox):Bool:=rw.all fun i => match H[i]? with
 | some (.cells _ []) => true
 | _ => false
def qB8 (rw:List Nat) (lg:List (List Rs)):Bool:=lg.all fun l => l.all fun r => !(r.1 && rw.contains r.2.1)
theorem qtK {br:List (Nat×Nat)} {H:List PBox} {k i:Nat} {B:PBox} (h:qGn br H k = some (i,B)):(k,i) ∈ br∧H[i]? = some B:=by
 unfold qGn at h
 split at h
 ·rename_i x hx
  obtain ⟨B',h1,h2⟩:=qcR h
  cases h2
  have h3:=vbT hx
  simp only [va1] at h3
  subst h3
  exact ⟨vbo hx,h1⟩
 ·cases h
def qKH (P:Program) (GE:List (Nat×List PVal)) (ops:Array Oper) (an:List Nat) (X:List PBox) (br:List (Nat×Nat)) (rw:List Nat) (K:PSt→Prop) (st:PSt):Prop :=
 drawD P ops.toList st.tmps.length an = true∧(brOk br st.boxes.length X.length && qMj rw (st.boxes ++ X)) = true ∧
  qj0 P GE (qGn br (st.boxes ++ X)) rw ops (fun lg st' => (logD an lg && qB8 rw lg) = true∧K st') ops.toList (st.boxes.length + X.length) [] { st with boxes:=st.boxes ++ X ++ qdu P ops.toList }
section
variable {P:Program} {E:Ent} {w:World} {a:Act} {st:PSt}
theorem qBV {bs0:qbp} {ops:Array Oper} {an:List Nat} {X:List PBox} {br:List (Nat×Nat)} {rw:List Nat} {K:PSt→Prop} {Q:Exit→Act→World→Prop} (hR:Rel P E bs0 st a w) (hl:bs0.length ≤ st.boxes.length)
  (hQ:∀ a' w' st',a'.defers = a.defers→Rel P E bs0 st' a' w'→K st'→Q .normal a' w') (hp:qKH P E.GE ops an X br rw K st):wpAny P .any ops Q ops.size (Array.replicate ops.size false) a { w with drawn:=w.drawn + 1 }:=by
 obtain ⟨hok,hbr,hp⟩:=hp
 rw [vae] at hbr
 obtain ⟨hbr,hrow⟩:=hbr
 obtain ⟨hD,han⟩:=qGy hok
 obtain ⟨T,R,t0,tl,⟨tlog,t1⟩,t2⟩:=qtr ops.toList _ _ _ hp
 rw [vaI,vae] at tlog
 obtain ⟨tlog,tlr⟩:=tlog
 obtain ⟨Γ,bs,ow,h,hk⟩:=hR
 have hxl:(st.boxes ++ X).length = st.boxes.length + X.length:=by simp
 unfold brOk at hbr
 simp only [vae,vav,vah,va5,bne_iff_ne,ne_eq,va1] at hbr
 have hT:TraceD P E.GE (qGn br (st.boxes ++ X)) rw ops st.tmps.length (st.boxes.length + X.length) T (fun k => R.getD k []):={
  len:=by rw [t0]
  step:=fun k o ho => by have:=t2 k o (by simpa using ho); simpa using this
  log:=fun i j r hij hi hj => by unfold bf; rw [han]; exact qHu tlog hij hi hj
  row0:=fun i hi k e hh => by
   rw [t0] at hh
   obtain ⟨cs,own,e1,e2⟩:=qdt.1 hh
   have hri:=vav.1 hrow i hi
   split at hri
   ·rename_i cs' heq
    simp only at e1
    rw [vac (qag heq),heq] at e1
    cases e1; cases e2
   ·cases hri
  rowl:=fun j hj i hi k hr => by
   unfold qB8 at tlr
   simp only [vav] at tlr
   have hjl:j < R.length:=by rw [tl]; simpa using hj
   have hm:R.getD j [] ∈ R:=by
    rw [van,vab hjl]; exact vat hjl
   have:=tlr _ hm _ hr
   simp [hi] at this
  binj:=fun j k i B B' h1 h2 => by
   have m1:=(qtK h1).1
   have m2:=(qtK h2).1
   rcases hbr.2 _ m1 _ m2 with hx | hx
   ·exact absurd rfl hx
   ·exact hx }
 have hbd:∀ (k i:Nat) B,qGn br (st.boxes ++ X) k = some (i,B)→bs0.length ≤ i∧i < st.boxes.length + X.length:=fun k i B hb => by
  have:=hbr.1 _ (qtK hb).1
  simp only at this
  omega
 have hS0:=(h.drew).extend X
 have hS:=hS0.extend (qdu P ops.toList)
 refine qIm hD hT (by omega) hbd (ds:=a.defers) (fun a' w' hd hR' => hQ a' w' _ hd hR' (by simpa using t1)) ops.size _ a _ ?_ ?_
 ·refine ⟨by simp,rfl,fun j o ho hj => ?_,Γ,_,ow,_,hS,fun i hi => ?_,rfl,fun k o d ho hd hk' => ?_,fun t _ => by rw [t0],⟨0,vaM _,fun i o ho hc => ?_,by rw [t0]⟩,fun i o ho hm _ => ?_,fun τ m hm hmk hh => ?_,fun k i B _ hb _ => ?_⟩
  ·unfold qcA at hj
   rw [qwt] at hj; cases hj
  ·rw [vac (by rw [vaf,h.bl]; omega),vac (by rw [h.bl]; omega)]; exact hk i hi
  ·unfold qcA at hk'
   rw [qwt] at hk'; cases hk'
  ·unfold qcA
   rw [qwt]
   constructor
   ·intro hx; cases hx
   ·intro hx; exact absurd hx (vaR _)
  ·have hl':ops.toList[i]? = some o:=by simpa using ho
   have hget:=qvm (P:=P) ops.toList i o hl' hm
   have hlt:qbe (ops.toList.take i) < (qdu P ops.toList).length:=by
    have:∃ B,qkH P o = some B:=by cases hx:o.op <;> simp [qan,hx] at hm <;> exact ⟨_,by simp [qkH,hx]; rfl⟩
    obtain ⟨B,hB⟩:=this
    rw [hB] at hget
    exact qag hget
   have hbl2:(bs ++ List.replicate X.length none).length = st.boxes.length + X.length:=by simp [h.bl]
   unfold idAt
   refine ⟨?_,?_⟩
   ·rw [vag (by rw [hbl2]; omega),vaW,vao (by rw [hbl2]; omega)]
   ·show (st.boxes ++ X ++ qdu P ops.toList)[_]? = _
    rw [vag (by omega),hxl,vcq]
    exact hget
  ·have:=hT.back (τ:=τ) m 0 (by omega) fun i h1 h2 hir => by
    have:=(hmk i (by omega) hir).2 (by omega)
    unfold qcA at this
    rw [qwt] at this; cases this
   rw [vaF,t0] at this
   exact this hh
  ·obtain ⟨m1,m2⟩:=qtK hb
   have:=hbr.1 _ m1
   simp only at this
   have hbl2:(bs ++ List.replicate X.length none).length = st.boxes.length + X.length:=by simp [h.bl]
   refine ⟨?_,?_⟩
   ·rw [vac (by omega),vag (by rw [h.bl]; omega),vaW,vao (by rw [h.bl]; omega)]
   ·show (st.boxes ++ X ++ qdu P ops.toList)[_]? = _
    rw [vac (by omega)]; exact m2
 ·unfold qpE
  have:=va7 (fun i => !(Array.replicate ops.size false).getD i false) (List.range ops.size)
  simpa using this
end
def qKJ (P:Program) (op:Op):Bool := !qB4 op && !qan op && qbm P op != 3
def qk8 (P:Program) (GE:List (Nat×List PVal)) (o:Oper) (sc:List It) (st:PSt) (K:List It→List Rs→PSt→Prop):Prop :=
 match o.dst with
 | some d => match qKJ P o.op with
  | true => qJh P GE o.op st.tmps st.boxes sc fun p _ sc' => setK st.tmps d p fun tm => qa7 (qbD d st.own) fun ow => K sc' [(false,d,0)] ⟨tm,st.boxes,ow⟩
  | false => False
 | none => False
def qk5 (st:PSt) (d:Nat) (p:PVal) (L:List (Nat×TypeId)) (sc:List It) (K:List It→List Rs→PSt→Prop):Prop :=
 setK st.tmps d p fun tm => qa7 ((L.map fun x => ((d,x.1),x.2)) ++ qbD d st.own) fun ow => K sc [(false,d,0)] ⟨tm,st.boxes,ow⟩
def qy5 (P:Program) (GE:List (Nat×List PVal)) (T:TypeId) (x:Operand) (vt:PVal) (vs:List PVal) (own:Option (Nat×List (Nat×TypeId))) (sc:List It) (st:PSt) (K:List It→List Rs→PSt→Prop):Prop :=
 opK GE st.tmps x fun vx => match vx with
 | .bptr i off => qaY vt = some vs∧qkB st.boxes i fun B => match B with
  | .cells cs ow => match decide (vs.length = P.cellsOf T) && (P.info? T).isSome && decide (off + vs.length ≤ cs.length) && vs.all PVal.one with
   | true => qa7 (cs.take off ++ vs ++ cs.drop (off + vs.length)) fun cs' => qa7 (qrH i off vs.length) fun rg => match own with
    | none => qa7 (ow.filter fun y => y.1 < off || off + vs.length ≤ y.1) fun ow' => setK st.boxes i (.cells cs' ow') fun H => K sc rg ⟨st.tmps,H,st.own⟩
    | some (t,L) => match qoT (L.map (·.1)) && L.all (fun y => decide (y.1 < vs.length)) with
     | true => qa7 ((L.map fun y => (off + y.1,y.2)).reverse ++ ow.filter fun y => y.1 < off || off + vs.length ≤ y.1) fun ow' => setK st.boxes i (.cells cs' ow') fun H =>
       qa7 (st.own.filter fun x => !L.any fun y => x.1 == (t,y.1)) fun so => K sc ((false,t,0) :: rg) ⟨st.tmps,H,so⟩
     | false => False
   | false => False
  | _ => False
 | _ => False
def one1 (L:List (Nat×TypeId)):Bool:=match L with
 | [(0,_)] => true
 | _ => false
def qJs (P:Program) (GE:List (Nat×List PVal)) (rw:List Nat) (T:TypeId) (x:Operand) (vt:PVal) (cs':List PVal) (sc:List It) (st:PSt) (K:List It→List Rs→PSt→Prop):Prop :=
 opK GE st.tmps x fun vx => match vx with
 | .bptr i off => match rw.contains i with
  | true => qkB st.boxes i fun B => match B with
   | .cells cs [] => qcT P T (.bptr 0 off) vt [.cells cs []] = some [.cells cs' []]∧setK st.boxes i (.cells cs' []) fun H => K sc [] ⟨st.tmps,H,st.own⟩
   | _ => False
  | false => False
 | _ => False
def qBr (P:Program) (GE:List (Nat×List PVal)) (A:List Nat) (bi:Option (Nat×PBox)) (rw:List Nat) (o:Oper) (id:Nat) (sc:List It) (st:PSt) (K:List It→List Rs→PSt→Prop):Prop :=
 match o.op,o.dst with
 | .call { callee := .value f,args,.. },some d => match sc with
  | .c r ro :: sc' => opK GE st.tmps f fun vf => match vf with
   | .func (.func g) first cap => opsK GE st.tmps args.toList fun as => CC P GE g (first ++ as ++ cap) r ro∧qk5 st d r ro sc' K
   | _ => False
  | .cg c :: sc' => match c.ρ with
   | [] => qov P GE f args.toList c st fun _ => setK st.tmps d c.r fun tm => qa7 ((c.ro.map fun x => ((d,x.1),x.2)) ++ qbD d (st.own.filter fun z => !c.oa.any fun x => z.1 == (x.t,x.k))) fun ow =>
     qa7 ((false,d,0) :: c.oa.map fun x => (false,x.t,0)) fun rs => K sc' rs ⟨tm,st.boxes,ow⟩
   | _ => False
  | .ar i e n _ :: sc' => match bi,args with
   | some (j,.cells cs0 []),⟨[x]⟩ => opK GE st.tmps f fun vf => opK GE st.tmps x fun vx => match vf,vx,i == j with
    | .func (.func g) [] [],.slice ns,true => qkk P g e∧(0 < P.cellsOf e∧(∀ x ∈ ns,x.length = P.cellsOf e∧∀ q ∈ x,q.one = true)∧ns.length ≤ qdj)∧(n = ns.length∧cs0 = ns.flatten) ∧
      setK st.tmps d (.bsl i 0 n) fun tm => qa7 (qbD d st.own) fun ow => K sc' [(false,d,0)] ⟨tm,st.boxes,ow⟩
    | _,_,_ => False
   | _,_ => False
  | _ => False
 | .alloc t,some d => match (qhU P t).isSome with
  | true => qk5 st d (.bptr id 0) [] sc K
  | false => False
 | .makeMap _ none,some d => qk5 st d (.mapr id) [] sc K
 | .buildSlice T len parts,some d => qqP GE st.tmps parts.toList fun ps => match sc,P.underlying T with
  | .v p :: sc',some (.slice e) => qda P T len ps = some p∧qk5 st d p [(0,e)] sc' K
  | _,_ => False
 | .build T parts,some d => match sc with
  | .b p L :: sc' => qqP GE st.tmps parts.toList fun ps => qbO P T ps = some p∧pnil P T ps L∧qk5 st d p L sc' K
  | .ar t k _ _ :: .v p :: sc' => match decide (d ≠ t) && (parts.toList.any fun x => qwN t x.2) with
   | true => getK st.tmps t fun vt => match vt with
    | .slice _ => qqP GE st.tmps parts.toList fun ps => qbO P T ps = some p∧pmv P T (qGW GE st.tmps parts.toList t) k ∧
      setK st.tmps d p fun tm => qa7 (qf6 d (fun x => if x = (t,0) then (d,k) else x) st.own) fun ow => K sc' [(false,d,0),(false,t,0)] ⟨tm,st.boxes,ow⟩
    | _ => False
   | false => False
  | _ => qk8 P GE o sc st K
 | .assign (.const v),some d => match qmB P o.type v with
  | some e => qk5 st d (.slice []) [(0,e)] sc K
  | none => qk8 P GE o sc st K
 | .move (.const v),some d => match qmB P o.type v with
  | some e => qk5 st d (.slice []) [(0,e)] sc K
  | none => qk8 P GE o sc st K
 | .assign (.tmp t),some d => match decide (d ≠ t) with
  | true => getK st.tmps t fun p => setK st.tmps d p fun tm => qa7 (qf6 d (fun x => if x.1 = t then (d,x.2) else x) st.own) fun ow => K sc [(false,d,0),(false,t,0)] ⟨tm,st.boxes,ow⟩
  | false => False
 | .move (.tmp t),some d => match decide (d ∈ A) && decide (d ≠ t) with
  | true => getK st.tmps t fun p => setK st.tmps d p fun tm => qa7 (qf6 d (fun x => if x.1 = t then (d,x.2) else x) st.own) fun ow => K sc [(false,d,0),(false,t,0)] ⟨tm,st.boxes,ow⟩
  | false => qk8 P GE o sc st K
 | .call { callee := .builtin .append,args:=⟨[.tmp t,y]⟩,argTypes:=⟨[T,T']⟩ },some d => getK st.tmps t fun ve => opK GE st.tmps y fun vn => match ve,vn,sc,P.underlying T with
  | .slice es,.slice ns,.v p :: sc',some (.slice e) => match decide (T = T') && decide (((t,0),e) ∈ st.own) with
   | true => qiD P T es ns = some p∧setK st.tmps d p fun tm => qa7 (((d,0),e) :: qbD d (st.own.filter fun x => x.1 != (t,0))) fun ow => K sc' [(false,d,0),(false,t,0)] ⟨tm,st.boxes,ow⟩
   | false => False
  | _,_,_,_ => False
 | .load T x,some d => match sc,P.underlying T,decide (d ∈ A) with
  | .z l :: sc',some (.struct _),_ => opK GE st.tmps x fun vx => match vx with
   | .bptr i off => qkB st.boxes i fun B => match B with
    | .cells cs own => qbv P T (cs.drop off) = some (.agg l)∧qa7 (qKc off (P.cellsOf T) own) fun L => match qoT (L.map (·.1)) with
     | true => setK st.tmps d (.agg l) fun tm => qa7 (own.filter fun x => !L.any fun y => x.1 == off + y.1) fun own' => setK st.boxes i (.cells cs own') fun H =>
       qa7 ((L.map fun y => ((d,y.1),y.2)).reverse ++ qbD d st.own) fun ow => qa7 ((false,d,0) :: L.map fun y => (true,i,off + y.1)) fun rs => K sc' rs ⟨tm,H,ow⟩
     | false => False
    | _ => False
   | _ => False
  | _,some (.slice e),true => opK GE st.tmps x fun vx => match vx with
   | .bptr i off => qkB st.boxes i fun B => match B with
    | .cells cs own => match decide ((off,e) ∈ own) && decide (off < cs.length) with
     | true => getK cs off fun p => setK st.tmps d p fun tm => qa7 (own.filter fun x => !([((0:Nat),e)].any fun y => x.1 == off + y.1)) fun own' => setK st.boxes i (.cells cs own') fun H =>
       qa7 (([((0:Nat),e)].map fun y => ((d,y.1),y.2)).reverse ++ qbD d st.own) fun ow => qa7 ((false,d,0) :: [((0:Nat),e)].map fun y => (true,i,off + y.1)) fun rs => K sc rs ⟨tm,H,ow⟩
     | false => False
    | _ => False
   | _ => False
  | _,_,_ => qk8 P GE o sc st K
 | .store T x (.tmp t),none => getK st.tmps t fun vt => match sc with
  | .y vs :: sc' => qa7 (qFX t st.own) fun L => match vt with
   | .agg l => qy5 P GE T x (.agg l) vs (some (t,L)) sc' st K
   | _ => False
  | .s :: sc' => match vt.one with
   | true => qa7 (qFX t st.own) fun L => match one1 L with
    | true => qy5 P GE T x vt [vt] (some (t,L)) sc' st K
    | false => qy5 P GE T x vt [vt] none sc' st K
   | false => False
  | .x vs :: sc' => qy5 P GE T x vt vs none sc' st K
  | .w _ (.cells cs' []) :: sc' => qJs P GE rw T x vt cs' sc' st K
  | _ => False
 | .store T x y,none => opK GE st.tmps y fun vt => match sc with
  | .s :: sc' => match vt.one with
   | true => qy5 P GE T x vt [vt] none sc' st K
   | false => False
  | .x vs :: sc' => qy5 P GE T x vt vs none sc' st K
  | .w _ (.cells cs' []) :: sc' => qJs P GE rw T x vt cs' sc' st K
  | _ => False
 | .mapUpdate t m k x,none => opK GE st.tmps m fun vm => opK GE st.tmps k fun vk => opK GE st.tmps x fun vx => match vm,sc with
  | .mapr i,.w _ (.map es') :: sc' => qkB st.boxes i fun B => match B with
   | .map es => qGm P t es vk vx = some es'∧setK st.boxes i (.map es') fun H => K sc' [] ⟨st.tmps,H,st.own⟩
   | _ => False
  | _,_ => False
 | _,_ => qk8 P GE o sc st K
def qxH (P:Program) (GE:List (Nat×List PVal)) (bid:Nat→Option (Nat×PBox)) (rw:List Nat) (A:List Nat) (ops:Array Oper) (an:List Nat) (K:List It→PSt→Prop):List Oper→Nat→Nat→List It→List (List Rs)→PSt→Prop
 | [],_,_,sc,lg,st => match logD an lg && qB8 rw lg with
  | true => K sc st
  | false => False
 | o :: rest,pos,id,sc,lg,st =>
  let step (sc:List It) (st:PSt):Prop:=qBr P GE A (bid lg.length) rw o id sc st fun sc' rs st' => qa7 (lg ++ [rs]) fun lg' => qxH P GE bid rw A ops an K rest (pos + 1) (id + if qan o.op then 1 else 0) sc' lg' st'
  match o.guard with
  | none => step sc st
  | some (j,want) => qBd ops j want pos sc st fun b sc' st' => match b with
   | true => step sc' st'
   | false => putK st' o.dst (.val undef) [] st'.boxes fun st'' => qa7 (lg ++ [qtV o]) fun lg' => qxH P GE bid rw A ops an K rest (pos + 1) (id + if qan o.op then 1 else 0) sc' lg' st''
section
variable {P:Program} {GE:List (Nat×List PVal)} {A:List Nat} {ops:Array Oper}
theorem qeo {bi:Option (Nat×PBox)} {rw:List Nat} {o:Oper} {id:Nat} {sc:List It} {st:PSt} {K:List It→List Rs→PSt→Prop} (h:qk8 P GE o sc st K):∃ s' rs,StepD P GE bi rw o id st s' rs∧∃ sc',K sc' rs s':=by
 unfold qk8 at h
 split at h
 ·rename_i d hd
  split at h
  ·rename_i hp
   unfold qKJ at hp
   simp only [vae,va3,bne_iff_ne,ne_eq] at hp
   obtain ⟨⟨p1,p2⟩,p3⟩:=hp
   obtain ⟨p,H',sc',k1,k2,_⟩:=qya (id:=id) h
   simp only [qa0,qaA] at k2
   have:=qHd p3 p2 k1
   subst this
   exact ⟨_,_,.ev d p hd p1 p2 p3 k1,sc',k2⟩
  ·exact h.elim
 ·exact h.elim
theorem qm3 {bi:Option (Nat×PBox)} {rw:List Nat} {o:Oper} {id:Nat} {T:TypeId} {x y:Operand} {vs:List PVal} {sc:List It} {st:PSt} {K:List It→List Rs→PSt→Prop} (ho:o.op = .store T x y) (hd:o.dst = none) (h:qy5 P GE T x (opv GE st.tmps y) vs none sc st K) :
  ∃ s' rs,StepD P GE bi rw o id st s' rs∧∃ sc',K sc' rs s':=by
 unfold qy5 at h
 rw [qbu] at h
 split at h
 ·rename_i i off hx
  obtain ⟨hvs,h⟩:=h
  obtain ⟨B,hB,h⟩:=qcs h
  split at h
  ·rename_i cs own
   split at h
   ·rename_i hc
    simp only [qaA,qa0] at h
    simp only [vae,vah] at hc
    exact ⟨_,_,.st T x y i off vs cs own hd ho hx hvs hB (by simp only [qcT,hvs,hB]; rw [vao ⟨hc.1.1.1,hc.1.1.2,hc.1.2,hc.2⟩]),sc,h⟩
   ·exact h.elim
  ·exact h.elim
 ·exact h.elim
theorem qvJ {bi:Option (Nat×PBox)} {rw:List Nat} {o:Oper} {id:Nat} {T:TypeId} {x:Operand} {t:Nat} {vt:PVal} {vs:List PVal} {L:List (Nat×TypeId)} {sc:List It} {st:PSt} {K:List It→List Rs→PSt→Prop} (ho:o.op = .store T x (.tmp t)) (hd:o.dst = none)
  (hvt:st.tmps.getD t .undef = vt) (hk:(∃ l,vt = .agg l)∨(vt.one = true∧∃ e,L = [(0,e)])) (hm:∀ y ∈ L,((t,y.1),y.2) ∈ st.own) (h:qy5 P GE T x vt vs (some (t,L)) sc st K) :
  ∃ s' rs,StepD P GE bi rw o id st s' rs∧∃ sc',K sc' rs s':=by
 subst hvt
 unfold qy5 at h
 rw [qbu] at h
 split at h
 ·rename_i i off hx
  obtain ⟨hvs,h⟩:=h
  obtain ⟨B,hB,h⟩:=qcs h
  split at h
  ·rename_i cs own
   split at h
   ·rename_i hc
    simp only [qaA] at h
    split at h
    ·rename_i hl
     simp only [qa0] at h
     simp only [vae,vah,vav] at hc hl
     exact ⟨_,_,.sto T x t i off vs cs own L hd ho hx hvs hB (by simp only [qcT,hvs,hB]; rw [vao ⟨hc.1.1.1,hc.1.1.2,hc.1.2,vav.2 hc.2⟩]) hk hm (qiX hl.1) (fun y hy => by simpa using hl.2 y hy),sc,h⟩
    ·exact h.elim
   ·exact h.elim
  ·exact h.elim
 ·exact h.elim
theorem qxF {bi:Option (Nat×PBox)} {rw:List Nat} {o:Oper} {id:Nat} {T:TypeId} {x y:Operand} {cs':List PVal} {sc:List It} {st:PSt} {K:List It→List Rs→PSt→Prop} (ho:o.op = .store T x y) (hd:o.dst = none) (h:qJs P GE rw T x (opv GE st.tmps y) cs' sc st K) :
  ∃ s' rs,StepD P GE bi rw o id st s' rs∧∃ sc',K sc' rs s':=by
 unfold qJs at h
 rw [qbu] at h
 split at h
 ·rename_i i off hx
  split at h
  ·rename_i hi
   obtain ⟨B,hB,h⟩:=qcs h
   split at h
   ·rename_i cs
    obtain ⟨h1,h2⟩:=h
    rw [qa0] at h2
    exact ⟨_,_,.stR T x y i off cs cs' hd ho hx hB h1 (by simpa using hi),sc,h2⟩
   ·exact h.elim
  ·exact h.elim
 ·exact h.elim
theorem qGS {n:Nat} {args:List Operand} {own own':List ((Nat×Nat)×TypeId)} {oa:List OA} (h:oaOk n args own oa = true) (hs:∀ x ∈ oa,((x.t,x.k),x.e) ∈ own→((x.t,x.k),x.e) ∈ own'):oaOk n args own' oa = true:=by
 unfold oaOk at h ⊢
 rw [vae] at h ⊢
 refine ⟨vav.2 fun x hx => ?_,h.2⟩
 have:=vav.1 h.1 x hx
 simp only [vae,va5,vah] at this ⊢
 exact ⟨this.1,this.2.imp_right fun ⟨k1,k2⟩ => ⟨hs x hx k1,k2⟩⟩
theorem qyK {f:Operand} {args:List Operand} {c:GC} {s:PSt} {K:List PBox→Prop} (hρ:c.ρ = []) (h:qov P GE f args c s K) :
  K s.boxes∧∀ st:PSt,(∀ x,x = f∨x ∈ args→opv GE s.tmps x = opv GE st.tmps x)→(∀ x ∈ c.oa,((x.t,x.k),x.e) ∈ s.own→((x.t,x.k),x.e) ∈ st.own)→GCall P GE f args st c.r c.ro st.boxes c.oa:=by
 have h0:=h
 unfold qov at h
 rw [qbu] at h
 split at h
 ·rename_i g first cap hf
  rw [qmy] at h
  split at h
  ·rename_i hb
   obtain ⟨h1,h2,h3,h4,h5,h6⟩:=h
   rw [qs3] at h6
   have hs:∀ (H:List PBox),qxd H c.ρ c.Bs' = H:=fun H => by rw [hρ]; cases c.Bs' <;> rfl
   rw [hs] at h6
   refine ⟨h6,fun st ho how => ?_⟩
   have key:qov P GE f args c st (fun H => H = st.boxes):=by
    unfold qov
    rw [qbu,← ho f (.inl rfl),hf]
    simp only
    rw [qmy,show args.map (opv GE st.tmps) = args.map (opv GE s.tmps) from vaN fun x hx => (ho x (.inr hx)).symm]
    have hb2:(qoT c.ρ && oaOk first.length args st.own c.oa && c.Bs.all qIT && decide (c.Bs'.length = c.ρ.length)) = true:=by
     simp only [vae] at hb ⊢
     exact ⟨⟨⟨hb.1.1.1,qGS hb.1.1.2 how⟩,hb.1.2⟩,hb.2⟩
    rw [hb2]
    simp only
    refine ⟨h1,h2,?_,h4,h5,?_⟩
    ·rw [hρ] at h3 ⊢
     cases hBs:c.Bs <;> cases hHc:c.Hc <;> rw [hBs,hHc] at h3 <;> first | exact h3.elim | trivial
    ·rw [qs3,hs]
   obtain ⟨H',k1,rfl⟩:=qte key
   exact k1
  ·exact h.elim
 ·exact h.elim
theorem qBq {bi:Option (Nat×PBox)} {rw:List Nat} {o:Oper} {id:Nat} {sc:List It} {st:PSt} {K:List It→List Rs→PSt→Prop} (h:qBr P GE A bi rw o id sc st K):∃ s' rs,StepD P GE bi rw o id st s' rs∧∃ sc',K sc' rs s':=by
 unfold qBr at h
 split at h
 ·rename_i f args tys d ho hd
  split at h
  ·rename_i r ro sc'
   rw [qbu] at h
   split at h
   ·rename_i g first cap hf
    rw [qmy] at h
    obtain ⟨⟨h1,h2⟩,h3⟩:=h
    simp only [qk5,qa0,qaA] at h3
    exact ⟨_,_,.call d f args tys g first cap r ro ho hd hf h1 h2,sc',h3⟩
   ·exact h.elim
  ·rename_i c sc'
   split at h
   ·rename_i hρ
    obtain ⟨h1,h2⟩:=qyK hρ h
    simp only [qa0,qaA] at h1
    exact ⟨_,_,.callR d f args tys c.r c.ro c.oa ho hd h2,sc',h1⟩
   ·exact h.elim
  ·rename_i i e n cs sc'
   split at h
   ·rename_i j cs0 x
    simp only [qbu] at h
    split at h
    ·rename_i g ns hf hx hij
     simp only [va1] at hij
     subst hij
     obtain ⟨h1,⟨h2,h3,h4⟩,⟨rfl,rfl⟩,h5⟩:=h
     simp only [qa0,qaA] at h5
     exact ⟨_,_,.cl d i f x tys g e ns ho hd rfl hf hx h1 h2 h3 h4,sc',h5⟩
    ·exact h.elim
   ·exact h.elim
  ·exact h.elim
 ·rename_i t d ho hd
  split at h
  ·rename_i hz
   obtain ⟨zs,hz⟩:=vaD.1 hz
   simp only [qk5,qa0,qaA] at h
   exact ⟨_,_,.alloc d t zs ho hd hz,sc,h⟩
  ·exact h.elim
 ·rename_i t d ho hd
  simp only [qk5,qa0,qaA] at h
  exact ⟨_,_,.mkmap d t ho hd,sc,h⟩
 ·rename_i T len parts d ho hd
  rw [qi5] at h
  split at h
  ·rename_i p sc' e hu
   obtain ⟨h1,h2⟩:=h
   simp only [qk5,qa0,qaA] at h2
   exact ⟨_,_,.res d p [(0,e)] hd (.inl ⟨T,len,parts,e,ho,h1,hu,rfl⟩),sc',h2⟩
  ·exact h.elim
 ·rename_i T parts d ho hd
  split at h
  ·rename_i p L sc'
   rw [qi5] at h
   obtain ⟨h1,h2,h3⟩:=h
   simp only [qk5,qa0,qaA] at h3
   exact ⟨_,_,.res d p L hd (.inr (.inl ⟨T,parts,ho,h1,h2⟩)),sc',h3⟩
  ·rename_i t k _ _ p sc'
   split at h
   ·rename_i hc
    rw [qeZ] at h
    split at h
    ·rename_i es hes
     rw [qi5] at h
     obtain ⟨h1,h2,h3⟩:=h
     simp only [qa0,qaA] at h3
     simp only [vae,vah] at hc
     exact ⟨_,_,.bmv d t k T parts p es hd ho hc.1 hes hc.2 h1 h2,sc',h3⟩
    ·exact h.elim
   ·exact h.elim
  ·exact qeo h
 ·rename_i v d ho hd
  split at h
  ·rename_i e he
   simp only [qk5,qa0,qaA] at h
   exact ⟨_,_,.res d (.slice []) [(0,e)] hd (.inr (.inr ⟨v,e,.inl ho,he,rfl,rfl⟩)),sc,h⟩
  ·exact qeo h
 ·rename_i v d ho hd
  split at h
  ·rename_i e he
   simp only [qk5,qa0,qaA] at h
   exact ⟨_,_,.res d (.slice []) [(0,e)] hd (.inr (.inr ⟨v,e,.inr ho,he,rfl,rfl⟩)),sc,h⟩
  ·exact qeo h
 ·rename_i t d ho hd
  split at h
  ·rename_i hdt
   simp only [qeZ,qa0,qaA] at h
   exact ⟨_,_,.mv d t hd (.inl ho) (by simpa using hdt),sc,h⟩
  ·exact h.elim
 ·rename_i t d ho hd
  split at h
  ·rename_i hdt
   simp only [vae,vah] at hdt
   simp only [qeZ,qa0,qaA] at h
   exact ⟨_,_,.mv d t hd (.inr ho) hdt.2,sc,h⟩
  ·exact qeo h
 ·rename_i t y T T' d ho hd
  rw [qeZ,qbu] at h
  split at h
  ·rename_i es ns p sc' e he hn hu
   split at h
   ·rename_i hc
    simp only [vae,vah] at hc
    obtain ⟨rfl,hm⟩:=hc
    obtain ⟨h1,h2⟩:=h
    simp only [qa0,qaA] at h2
    exact ⟨_,_,.app d t T e y es ns p hd ho hu he hn h1 hm,sc',h2⟩
   ·exact h.elim
  ·exact h.elim
 ·rename_i T x d ho hd
  split at h
  ·rename_i l sc' fs hu
   rw [qbu] at h
   split at h
   ·rename_i i off hx
    obtain ⟨B,hB,h⟩:=qcs h
    split at h
    ·rename_i cs own
     obtain ⟨h1,h2⟩:=h
     rw [qaA] at h2
     split at h2
     ·rename_i hn
      simp only [qa0,qaA] at h2
      have hlen:l.length = P.cellsOf T:=by
       have hp:=h1
       unfold qbv at hp
       rw [hu] at hp
       simp only at hp
       split at hp
       ·rename_i hh; cases hp; rw [va2]; omega
       ·cases hp
      exact ⟨_,_,.ld d T x i off cs own _ (.agg l) hd ho hx hB (.inr ⟨fs,l,hu,h1,rfl,qiX hn,fun y hy => by rw [hlen]; exact (qsY hy).2⟩) (fun y hy => (qsY hy).1),sc',h2⟩
     ·exact h2.elim
    ·exact h.elim
   ·exact h.elim
  ·rename_i e hu _
   rw [qbu] at h
   split at h
   ·rename_i i off hx
    obtain ⟨B,hB,h⟩:=qcs h
    split at h
    ·rename_i cs own
     split at h
     ·rename_i hc
      simp only [vae,vah] at hc
      simp only [qeZ,qa0,qaA] at h
      have hget:cs[off]? = some (cs.getD off .undef):=by
       rw [van,vab hc.2]; rfl
      refine ⟨_,_,.ld d T x i off cs own [(0,e)] (cs.getD off .undef) hd ho hx hB (.inl ⟨e,hu,hget,rfl⟩) (fun y hy => ?_),_,h⟩
      rw [vaJ.1 hy]; exact hc.1
     ·exact h.elim
    ·exact h.elim
   ·exact h.elim
  ·exact qeo h
 ·rename_i T x t ho hd
  rw [qeZ] at h
  split at h
  ·rename_i vs sc'
   rw [qaA] at h
   split at h
   ·rename_i l hl
    exact qvJ ho hd hl (.inl ⟨l,rfl⟩) (fun y hy => qxj hy) h
   ·exact h.elim
  ·rename_i sc'
   split at h
   ·rename_i hone
    rw [qaA] at h
    split at h
    ·rename_i hL
     refine qvJ ho hd rfl (.inr ⟨hone,?_⟩) (fun y hy => qxj hy) h
     unfold one1 at hL
     split at hL
     ·rename_i e heq; exact ⟨e,heq⟩
     ·cases hL
    ·exact qm3 ho hd h
   ·exact h.elim
  ·exact qm3 ho hd h
  ·exact qxF ho hd h
  ·exact h.elim
 ·rename_i T x y _ ho hd
  rw [qbu] at h
  split at h
  ·split at h
   ·exact qm3 ho hd h
   ·exact h.elim
  ·exact qm3 ho hd h
  ·exact qxF ho hd h
  ·exact h.elim
 ·rename_i t m k x ho hd
  simp only [qbu] at h
  split at h
  ·rename_i i j es' sc' hv
   obtain ⟨B,hB,h⟩:=qcs h
   split at h
   ·rename_i es
    obtain ⟨h1,h2⟩:=h
    rw [qa0] at h2
    exact ⟨_,_,.mu t m k x _ hd ho (by rw [hv]; exact qEU hB h1),sc',h2⟩
   ·exact h.elim
  ·exact h.elim
 ·exact qeo h
theorem qow {bid:Nat→Option (Nat×PBox)} {rw:List Nat} {an:List Nat} {K:List It→PSt→Prop}:∀ (rest:List Oper) (pos id:Nat) (sc:List It) (lg:List (List Rs)) (st:PSt),qxH P GE bid rw A ops an K rest pos id sc lg st →
  qj0 P GE bid rw ops (fun lg st' => (logD an lg && qB8 rw lg) = true∧∃ sc,K sc st') rest id lg st
 | [],_,_,sc,lg,st,h => by
  simp only [qxH] at h
  split at h
  ·rename_i hl; exact ⟨hl,sc,h⟩
  ·exact h.elim
 | o :: rest,pos,id,sc,lg,st,h => by
  simp only [qxH] at h
  have step:∀ sc st,qBr P GE A (bid lg.length) rw o id sc st (fun sc' rs st' => qa7 (lg ++ [rs]) fun lg' => qxH P GE bid rw A ops an K rest (pos + 1) (id + if qan o.op then 1 else 0) sc' lg' st') →
    ∃ s' rs,StepD P GE (bid lg.length) rw o id st s' rs∧qj0 P GE bid rw ops (fun lg st' => (logD an lg && qB8 rw lg) = true∧∃ sc,K sc st') rest (id + if qan o.op then 1 else 0) (lg ++ [rs]) s':=by
   intro sc st hs
   obtain ⟨s',rs,h1,sc',h2⟩:=qBq (id:=id) hs
   rw [qaA] at h2
   exact ⟨s',rs,h1,qow rest _ _ sc' _ s' h2⟩
  unfold qj0
  split at h
  ·rename_i hg; try simp only [hg]
   exact step _ _ h
  ·rename_i j want hg
   obtain ⟨x,hx,hc⟩:=qtW h
   simp only [hg,hx]
   rcases hc with ⟨rfl,sc',hc⟩ | ⟨hne,sc',hc⟩
   ·exact ⟨fun _ => step _ _ hc,fun hn => absurd rfl hn⟩
   ·refine ⟨fun he => absurd he hne,fun _ => ?_⟩
    simp only [qnt,qaA] at hc
    exact qow rest _ _ sc' _ _ hc
theorem Sat.drawD {m:Nat} (hf:P.follows .mixedOrders = true) {id:Nat} {an:List Nat} {X:List PBox} {br:List (Nat×Nat)} {rw:List Nat} {Q:Exit→PSt→Prop} {st:PSt} (hnd:ops.toList.all qdA = true) (h:qKH P GE ops an X br rw (Q .normal) st):Sat P GE m (.region id ops true) Q st:=by
 intro ro E bs0 a w hE hb hR
 obtain ⟨rfl,_,_,_⟩:=hE
 refine qla (qyH (Q:=fun e a' w' => e = .normal∧qLF P E bs0 a.defers Q .normal a' w') hf hnd (by rintro ⟨_,_,h,_⟩; cases h) ?_) fun e a' w' hq => by obtain ⟨rfl,hq⟩:=hq; exact hq
 exact qBV hR hR.len (fun a' w' st' hd hR' hK => ⟨rfl,hd,st',hR',hK⟩) h
def qFC (P:Program) (GE:List (Nat×List PVal)) (A:List Nat) (ops:Array Oper) (an:List Nat) (X:List PBox) (br:List (Nat×Nat)) (rw:List Nat) (K:List It→PSt→Prop) (sc:List It) (st:PSt):Prop :=
 match ops.toList.all qdA && (drawD P ops.toList st.tmps.length an && brOk br st.boxes.length X.length) with
 | true => appK st.boxes X fun H0 => match qMj rw H0 with
  | true => appK H0 (qdu P ops.toList) fun H => qxH P GE (qGn br H0) rw A ops an K ops.toList 0 (st.boxes.length + X.length) sc [] ⟨st.tmps,H,st.own⟩
  | false => False
 | false => False
theorem qvP {m:Nat} (hf:P.follows .mixedOrders = true) {id:Nat} {an:List Nat} {X:List PBox} {br:List (Nat×Nat)} {rw:List Nat} {K:List It→PSt→Prop} {sc:List It} {st:PSt} {Q:Exit→PSt→Prop} (hQ:∀ st,(∃ sc,K sc st)→Q .normal st)
  (h:qFC P GE A ops an X br rw K sc st):Sat P GE m (.region id ops true) Q st:=by
 unfold qFC at h
 split at h
 ·rename_i hd
  rw [vae,vae] at hd
  obtain ⟨hnd,hd⟩:=hd
  unfold appK at h
  rw [qaA] at h
  split at h
  ·rename_i hr
   rw [qaA] at h
   refine (Sat.drawD (Q:=fun e st => e = .normal∧∃ sc,K sc st) hf hnd ⟨hd.1,by rw [vae]; exact ⟨hd.2,hr⟩,?_⟩).imp fun e st hx => by obtain ⟨rfl,hx⟩:=hx; exact hQ st hx
   have:=qow _ _ _ _ _ _ h
   simpa using this
  ·exact h.elim
 ·exact h.elim
end
end Go.Proofs.YtgldgpdhblndkaaGreatDoor
