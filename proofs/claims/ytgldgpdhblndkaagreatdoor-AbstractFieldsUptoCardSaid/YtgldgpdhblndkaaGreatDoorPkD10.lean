/-
  WHAT IS PROVED: parts of the proof, put together by a program out of smaller texts, their own names made short (AbsV; AbsW). Conditions: none.
-/
import Derived.Test.YtgldgpdhblndkaaGreatDoorPkD9
namespace Go.Proofs.YtgldgpdhblndkaaGreatDoor
open Go
section
variable {P:Program} {E:Ent} {Γ:qa0} {bs:qbn} {ow:Nat→Option Loc} {w:World} {a:Act} {st:PSt}
theorem qkB {α:Type}:∀ {l:List α} {i:Nat} {x:α},l[i]? = some x→l.set i x = l
  | [],_,_,h => by simp at h
  | _ :: _,0,_,h => by simp at h; subst h; rfl
  | y :: l,i + 1,x,h => by simp only [List.set_cons_succ]; rw [qkB (by simpa using h)]
theorem qzQ (h:SR P E Γ bs ow w a.tmps st) {o:Oper} {id:Nat} (hid:qai o.op = true→bs[id]? = some none∧st.boxes[id]? = qfF P o) {K:PVal→List PBox→Prop}
    (hp:fdo P E.GE o.op id (opv E.GE st.tmps) st.boxes K) (hd:∃ d,o.dst = some d∧d < st.tmps.length) (Q:Exit→Act→World→Prop) :
    o.wp P a w (fun a' w' => a'.defers = a.defers∧∃ p H Γ' bs' ow',K p H∧SR P E Γ' bs' ow' w' a'.tmps (putv st o.dst p [] H)∧(bs' = bs∨(qai o.op = true∧∃ b,bs' = bs.set id (some b))) ∧
      ((match o.op with | .call { callee := .value (.func _),.. } => true | .call { callee := .value _,.. } => false | _ => true) = true→∀ i:Nat,bs[i]? = some none→H[i]? = st.boxes[i]?)) Q:=by
  have hcall:∀ f args tys,o.op = .call { callee := .value f,args,argTypes:=tys }→∃ d,o.dst = some d∧d < st.tmps.length:=fun _ _ _ _ => hd
  have hless:∀ {Γ' bs' ow' w' v p ro H},SR P E Γ' bs' ow' w' (a.put o.dst v).tmps (putv st o.dst p ro H)→SR P E Γ' bs' ow' w' (a.put o.dst v).tmps (putv st o.dst p [] H):=by
    intro Γ' bs' ow' w' v p ro H hS
    obtain ⟨d,hd,_⟩:=hd
    rw [hd] at hS ⊢
    exact hS.less (own:=[].map (fun x:Nat×TypeId => ((d,x.1),x.2)) ++ qbB d st.own) fun x hx => List.mem_append_right _ (by simpa using hx)
  unfold fdo at hp
  split at hp
  · rename_i g args tys ho
    obtain ⟨h1,r,ro,h2,h3⟩:=hp
    have hp':pdo P E.GE o.op id (opv E.GE st.tmps) st.boxes fun p ro' H => p = r∧H = st.boxes:=by
      unfold pdo
      rw [ho]
      refine .inl ⟨?_,r,ro,?_,rfl,rfl⟩
      · simpa using h1
      · simpa using h2
    refine qp9 h (fun hm => (hid hm).1) hp' _ Q hcall fun v Γ' bs' ow' w' p ro' H hK hS hb => ?_
    obtain ⟨rfl,rfl⟩:=hK
    exact ⟨qbm _ _ _,_,_,Γ',bs',ow',h3,hless hS,hb,fun _ _ _ => rfl⟩
  · rename_i f args tys hf ho
    have hp':pdo P E.GE o.op id (opv E.GE st.tmps) st.boxes fun p _ H => K p H:=by
      unfold pdo
      rw [ho]
      exact hp
    refine qp9 h (fun hm => (hid hm).1) hp' _ Q hcall fun v Γ' bs' ow' w' p ro' H hK hS hb => ?_
    refine ⟨qbm _ _ _,_,_,Γ',bs',ow',hK,hless hS,hb,fun hx => ?_⟩
    exfalso
    rw [ho] at hx
    cases f with
    | func g => exact absurd rfl (hf g)
    | tmp t => cases hx
    | const v => cases hx
    | global g => cases hx
  · rename_i hn1 hn2
    split at hp
    · rename_i p H he
      have hpev:pev P o.op id (opv E.GE st.tmps) st.boxes = some (p,H)∧∀ i:Nat,bs[i]? = some none→H[i]? = st.boxes[i]?:=by
        unfold fev at he
        split at he
        · rename_i t ho
          obtain ⟨zs,hz,hq⟩:=qb5 he
          cases hq
          have hpre:=(hid (by rw [ho]; rfl)).2
          unfold qfF at hpre
          rw [ho] at hpre
          simp only [hz] at hpre
          refine ⟨?_,fun _ _ => rfl⟩
          rw [ho]
          simp only [pev,hz,Option.map_some,qkB hpre]
        · rename_i t ho
          cases he
          have hpre:=(hid (by rw [ho]; rfl)).2
          unfold qfF at hpre
          rw [ho] at hpre
          refine ⟨?_,fun _ _ => rfl⟩
          rw [ho]
          simp only [pev,qkB hpre]
        · cases he
        · cases he
        · rename_i k1 k2 k3 k4
          have hm:qai o.op = false:=by
            cases ho:o.op <;> simp [qai,ho] at *
          exact ⟨he,fun i hi => qys h hm he hi⟩
      have hp':pdo P E.GE o.op id (opv E.GE st.tmps) st.boxes fun q _ H' => q = p∧H' = H:=by
        unfold pdo
        split
        · rename_i f args tys ho
          cases f with
          | func g => exact absurd ho (hn1 g args tys)
          | tmp t => exact absurd ho (hn2 _ args tys)
          | const v => exact absurd ho (hn2 _ args tys)
          | global g => exact absurd ho (hn2 _ args tys)
        · rw [hpev.1]; exact ⟨rfl,rfl⟩
      refine qp9 h (fun hm => (hid hm).1) hp' _ Q hcall fun v Γ' bs' ow' w' p' ro' H' hK hS hb => ?_
      obtain ⟨rfl,rfl⟩:=hK
      exact ⟨qbm _ _ _,_,_,Γ',bs',ow',hp,hless hS,hb,fun _ => hpev.2⟩
    · exact hp.elim
end
end Go.Proofs.YtgldgpdhblndkaaGreatDoor
namespace Go.Proofs.YtgldgpdhblndkaaGreatDoor
open Go
def bf (ops:Array Oper) (i j:Nat):Prop:=((ancs ops.toList).getD j 0).testBit i = true
def qvF (op:Op):Bool:=match op with | .call { callee := .value (.func _),.. } => true | .call { callee := .value _,.. } => false | _ => true
structure Drawn (P:Program) (ops:Array Oper) (n:Nat):Prop where
  f1:∀ (k:Nat) o,ops[k]? = some o→∃ d,o.dst = some d∧d < n
  f2:∀ (k:Nat) o,ops[k]? = some o→∀ e ∈ o.after.toList,Region.binds .any e = true→e.on < k
  f3:∀ (i j:Nat) oi oj,ops[i]? = some oi→ops[j]? = some oj→i ≠ j→oi.dst ≠ oj.dst
  f4:∀ (j:Nat) oj t,ops[j]? = some oj→t ∈ looks ops oj→∀ (i:Nat) oi,ops[i]? = some oi→i ≠ j→oi.dst = some t→(i < j∧bf ops i j)∨(j < i∧bf ops j i)
  f5:∀ (i j:Nat) oi oj,ops[i]? = some oi→ops[j]? = some oj→i < j→qaA P oi.op < 2∨qaA P oj.op < 2∨(qaA P oi.op ≠ 3∧qaA P oj.op ≠ 3)∨bf ops i j
  f6:(∀ (k:Nat) o,ops[k]? = some o→qai o.op = false)∨∀ (k:Nat) o,ops[k]? = some o→qvF o.op = true
theorem qgN {α:Type} {l:List α} {i:Nat} {x d:α} (h:l[i]? = some x):l.getD i d = x:=by rw [List.getD_eq_getElem?_getD,h]; rfl
theorem qxq {P:Program} {ops:Array Oper} {n:Nat} (h:qxJ P ops n = true):Drawn P ops n:=by
  unfold qxJ at h
  simp only [Bool.and_eq_true,List.all_eq_true,List.mem_range,Bool.or_eq_true,Bool.not_eq_true',decide_eq_true_eq,bne_iff_ne,ne_eq,beq_iff_eq,Array.all_eq_true_iff_forall_mem] at h
  obtain ⟨⟨⟨⟨⟨h1,h2⟩,h3⟩,h4⟩,h5⟩,h6⟩:=h
  have hl:∀ {k:Nat} {o},ops[k]? = some o→ops.toList[k]? = some o:=fun hk => by simpa using hk
  refine ⟨fun k o hk => ?_,fun k o hk e he hb => ?_,fun i j oi oj hi hj hij hd => ?_,fun j oj t hj ht i oi hi hij hd => ?_,fun i j oi oj hi hj hij => ?_,?_⟩
  · have:=h1 o (List.mem_of_getElem? (hl hk))
    cases hd:o.dst with
    | none => rw [hd] at this; cases this
    | some d => rw [hd] at this; exact ⟨d,rfl,by simpa using this⟩
  · have:=h2 k (qae (hl hk)) e (by rw [qgN (hl hk)]; simpa using he)
    rcases this with hx | hx
    · rw [hb] at hx; cases hx
    · exact hx
  · have:=h3 j (qae (hl hj)) i (qae (hl hi))
    rw [qgN (hl hi),qgN (hl hj)] at this
    rcases this with hx | hx
    · exact hij hx
    · exact hx hd
  · have:=h4 j (qae (hl hj)) t (by rw [qgN (hl hj)]; exact ht) i (qae (hl hi))
    rw [qgN (hl hi)] at this
    rcases this with (hx | hx) | hx
    · exact absurd hx hij
    · exact absurd hd hx
    · by_cases hlt:i < j
      · rw [if_pos hlt] at hx; exact .inl ⟨hlt,hx⟩
      · rw [if_neg hlt] at hx; exact .inr ⟨by omega,hx⟩
  · have:=h5 j (qae (hl hj)) i (qae (hl hi))
    rw [qgN (hl hi),qgN (hl hj)] at this
    rcases this with (((hx | hx) | hx) | hx) | hx
    · rw [decide_eq_false_iff_not] at hx; exact absurd hij hx
    · exact .inl hx
    · exact .inr (.inl hx)
    · exact .inr (.inr (.inl hx))
    · exact .inr (.inr (.inr hx))
  · rcases h6 with h6 | h6
    · rw [List.any_eq_false] at h6
      exact .inl fun k o hk => by simpa using h6 o (List.mem_of_getElem? (hl hk))
    · exact .inr fun k o hk => h6 o (List.mem_of_getElem? (hl hk))
def qbj (listed:Array Bool) (i:Nat):Prop:=listed.getD i false = true
def Down (ops:Array Oper) (listed:Array Bool):Prop := ∀ (j:Nat) o,ops[j]? = some o→qbj listed j→∀ e ∈ o.after.toList,Region.binds .any e = true→qbj listed e.on
theorem qqy {ops:Array Oper} {listed:Array Bool} (hd:Down ops listed):∀ (j:Nat) o,ops[j]? = some o→(∀ e ∈ o.after.toList,Region.binds .any e = true→qbj listed e.on)→∀ i,bf ops i j→qbj listed i:=by
  intro j
  induction j using Nat.strongRecOn with
  | _ j ih =>
    intro o ho ha i hb
    obtain ⟨o',ho',e,he,hbi,hc⟩:=(qvz ops.toList).2 j i hb
    have:o' = o:=by
      have h':ops[j]? = some o':=by simpa using ho'
      rw [ho] at h'; cases h'; rfl
    subst this
    have hle:=ha e he hbi
    rcases hc with hc | ⟨hc,hb'⟩
    · subst hc; exact hle
    · obtain ⟨o2,ho2,_⟩:=(qvz ops.toList).2 e.on i hb'
      have h2:ops[e.on]? = some o2:=by simpa using ho2
      exact ih e.on hc o2 h2 (hd e.on o2 h2 hle) i hb'
theorem qbs {listed:Array Bool} {i j:Nat} (hi:i < listed.size):qbj (listed.setIfInBounds i true) j↔j = i∨qbj listed j:=by
  unfold qbj
  by_cases h:i = j
  · subst h
    constructor
    · intro _; exact .inl rfl
    · intro _; simp [hi]
  · rw [getD_set_ne false h]
    constructor
    · exact .inr
    · rintro (rfl | h')
      · exact absurd rfl h
      · exact h'
theorem qx9 {d:Nat} {own:List ((Nat×Nat)×TypeId)} (h:∀ x ∈ own,x.1.1 ≠ d):qbB d own = own:=by
  unfold qbB
  rw [List.filter_eq_self]
  intro x hx
  simpa using h x hx
section
variable {P:Program} {GE:List (Nat×List PVal)} {ops:Array Oper} {n base:Nat} {T:Nat→PSt}
structure Trace (P:Program) (GE:List (Nat×List PVal)) (ops:Array Oper) (n base:Nat) (T:Nat→PSt):Prop where
  len:(T 0).tmps.length = n
  own:∀ (k:Nat) o,ops[k]? = some o→∀ d,o.dst = some d→∀ x ∈ (T 0).own,x.1.1 ≠ d
  step:∀ (k:Nat) o,ops[k]? = some o→qsP P GE ops o (base + qaF (ops.toList.take k)) (T k) (T (k + 1))
theorem qsP.tmps {o:Oper} {id d:Nat} {st st':PSt} (h:qsP P GE ops o id st st') (hd:o.dst = some d) :
    ∃ p H,st' = { tmps:=st.tmps.set d p,boxes:=H,own:=qbB d st.own }∧(qaA P o.op ≠ 3→H = st.boxes):=by
  have hrun:(∃ p H,fdo P GE o.op id (opv GE st.tmps) st.boxes (fun q H2 => q = p∧H2 = H)∧st' = putv st o.dst p [] H) →
      ∃ p H,st' = { tmps:=st.tmps.set d p,boxes:=H,own:=qbB d st.own }∧(qaA P o.op ≠ 3→H = st.boxes):=by
    rintro ⟨p,H,h1,h2⟩
    rw [hd] at h2
    exact ⟨p,H,h2,fun hc => qty hc h1⟩
  unfold qsP at h
  split at h
  · exact hrun h
  · obtain ⟨x,_,h1,h2⟩:=h
    by_cases hx:x = some ‹Bool›
    · exact hrun (h1 hx)
    · have:=h2 hx
      rw [hd] at this
      exact ⟨_,_,this,fun _ => rfl⟩
theorem Trace.all (hD:Drawn P ops n) (hT:Trace P GE ops n base T):∀ k,k ≤ ops.size→(T k).tmps.length = n∧(T k).own = (T 0).own:=by
  intro k
  induction k with
  | zero => intro _; exact ⟨hT.len,rfl⟩
  | succ k ih =>
    intro hk
    obtain ⟨h1,h2⟩:=ih (by omega)
    have hok:ops[k]? = some ops[k]:=by simp [show k < ops.size by omega]
    obtain ⟨d,hd,_⟩:=hD.f1 k _ hok
    obtain ⟨p,H,he,_⟩:=(hT.step k _ hok).tmps hd
    rw [he]
    refine ⟨by simp [h1],?_⟩
    simp only
    rw [h2]
    exact qx9 (hT.own k _ hok d hd)
theorem Trace.between (hD:Drawn P ops n) (hT:Trace P GE ops n base T) {t:Nat}:∀ (m k:Nat),k + m ≤ ops.size→(∀ (i:Nat) o,k ≤ i→i < k + m→ops[i]? = some o→o.dst ≠ some t)→(T (k + m)).tmps[t]? = (T k).tmps[t]?:=by
  intro m
  induction m with
  | zero => intro k _ _; rfl
  | succ m ih =>
    intro k hk hne
    have hlt:k + m < ops.size:=by omega
    have hok:ops[k + m]? = some ops[k + m]:=by simp [hlt]
    obtain ⟨d,hd,_⟩:=hD.f1 _ _ hok
    obtain ⟨p,H,he,_⟩:=(hT.step _ _ hok).tmps hd
    have hdt:d ≠ t:=fun e => hne (k + m) _ (by omega) (by omega) hok (by rw [hd,e])
    rw [show k + (m + 1) = k + m + 1 from rfl,he]
    simp only
    rw [List.getElem?_set_ne hdt]
    exact ih k (by omega) fun i o h1 h2 => hne i o h1 (by omega)
theorem Trace.boxes (hD:Drawn P ops n) (hT:Trace P GE ops n base T):∀ (m k:Nat),k + m ≤ ops.size→(∀ (i:Nat) o,k ≤ i→i < k + m→ops[i]? = some o→qaA P o.op ≠ 3)→(T (k + m)).boxes = (T k).boxes:=by
  intro m
  induction m with
  | zero => intro k _ _; rfl
  | succ m ih =>
    intro k hk hne
    have hlt:k + m < ops.size:=by omega
    have hok:ops[k + m]? = some ops[k + m]:=by simp [hlt]
    obtain ⟨d,hd,_⟩:=hD.f1 _ _ hok
    obtain ⟨p,H,he,hs⟩:=(hT.step _ _ hok).tmps hd
    rw [show k + (m + 1) = k + m + 1 from rfl,he]
    simp only
    rw [hs (hne (k + m) _ (by omega) (by omega) hok)]
    exact ih k (by omega) fun i o h1 h2 => hne i o h1 (by omega)
theorem Trace.boxes_eq (hD:Drawn P ops n) (hT:Trace P GE ops n base T) {k m:Nat} (hk:k ≤ ops.size) (hm:m ≤ ops.size) (h:∀ (i:Nat) o,ops[i]? = some o→qaA P o.op = 3→(i < k↔i < m)):(T k).boxes = (T m).boxes:=by
  rcases Nat.le_total k m with hle | hle
  · have:=hT.boxes hD (m - k) k (by omega) fun i o h1 h2 ho hc => by have:=(h i o ho hc); omega
    rw [show k + (m - k) = m from by omega] at this
    exact this.symm
  · have:=hT.boxes hD (k - m) m (by omega) fun i o h1 h2 ho hc => by have:=(h i o ho hc); omega
    rw [show m + (k - m) = k from by omega] at this
    exact this
end
end Go.Proofs.YtgldgpdhblndkaaGreatDoor
