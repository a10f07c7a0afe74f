/-
  WHAT IS PROVED: parts of the proof, put together by a program out of smaller texts, their own names made short (AbsR; AbsT; AbsU). Conditions: none.
-/
import Derived.Test.YtgldgpdhblndkaaGreatDoorPkD8
namespace Go.Proofs.YtgldgpdhblndkaaGreatDoor
open Go
def qgA (ops:Array Oper) (tmps:List PVal) (j:Nat):Option (Option Bool) :=
  match (ops[j]?).bind (·.dst) with
  | none => some none
  | some t => match tmps[t]? with
    | none => some none
    | some (.bool b) => some (some b)
    | some .undef => none
    | some (.val (.bool b)) => some (some b)
    | some _ => some none
def qg9 (P:Program) (GE:List (Nat×List PVal)) (A:List Nat) (ops:Array Oper) (K:PSt→Prop):List Oper→Nat→PSt→Prop
  | [],_,st => K st
  | o :: rest,id,st =>
    match o.guard with
    | none => qrm P GE A o id (qg9 P GE A ops K rest (id + if qai o.op then 1 else 0)) st
    | some (j,want) => match qgA ops st.tmps j with
      | some x => (x = some want→qrm P GE A o id (qg9 P GE A ops K rest (id + if qai o.op then 1 else 0)) st) ∧
          (x ≠ some want→qg9 P GE A ops K rest (id + if qai o.op then 1 else 0) (putv st o.dst (.val undef) [] st.boxes))
      | none => False
def qfF (P:Program) (o:Oper):Option PBox :=
  match o.op with
  | .alloc t => some (match qhE P t with
    | some zs => .cells zs (qy8 P t)
    | none => .dead)
  | .box .. => some .dead
  | .makeMap .. => some (.map [])
  | _ => none
def qb3 (P:Program) (ops:List Oper):List PBox:=ops.filterMap (qfF P)
section
variable {P:Program} {E:Ent} {Γ:qa0} {bs:qbn} {ow:Nat→Option Loc} {w:World} {a:Act} {st:PSt}
theorem qsQ (h:SR P E Γ bs ow w a.tmps st) {A:List Nat} {o:Oper} {id:Nat} (hid:qai o.op = true→bs[id]? = some none) {K:PSt→Prop} (hp:qrm P E.GE A o id K st) (Q:Exit→Act→World→Prop) :
    o.wp P a w (qf3 P E bs id (qai o.op) a.defers K) Q:=by
  unfold qrm at hp
  split at hp
  case h_1 t d ho hd => exact qok h (.inl ho) hd hp.1 hp.2 Q
  case h_2 t d ho hd =>
    split at hp
    · exact qok h (.inr ho) hd hp.1 hp.2 Q
    · exact qf3.of h hid hp.1 hp.2 Q
  case h_3 v d ho hd =>
    split at hp
    · rename_i e he; exact qsT h (.inl ho) hd hp.1 he hp.2 Q
    · exact qf3.of h hid hp.1 hp.2 Q
  case h_4 v d ho hd =>
    split at hp
    · rename_i e he; exact qsT h (.inr ho) hd hp.1 he hp.2 Q
    · exact qf3.of h hid hp.1 hp.2 Q
  case h_5 t i d ho hd =>
    split at hp
    · rename_i p he; exact qvh h ho hd hp.1 he hp.2 Q
    · exact hp.elim
  case h_6 T len parts d ho hd =>
    split at hp
    · rename_i p e he hT; exact qmR h ho hd hp.1 hT he hp.2 Q
    · exact hp.elim
  case h_7 t y T T' d ho hd =>
    split at hp
    · rename_i e es ns hT he hn
      split at hp
      · rename_i p hap
        obtain ⟨rfl,h1,h2,h3⟩:=hp
        exact qsd h ho hd h1 hT he hn hap h2 h3 Q
      · exact hp.elim
    · exact hp.elim
  case h_8 T x d ho hd =>
    split at hp
    · split at hp
      · rename_i i off e hx hT
        split at hp
        · rename_i cs own hB
          split at hp
          · rename_i p hc
            exact qqU h ho hd hp.1 hT hx hB hc hp.2.1 hp.2.2 Q
          · exact hp.elim
        · exact hp.elim
      · exact hp.elim
    · exact qf3.of h hid hp.1 hp.2 Q
  case h_9 T x t ho =>
    split at hp
    · rename_i y e i off H hf hx hst
      split at hp
      · rename_i cs own hB hone
        have hmem:((t,0),e) ∈ st.own:=by
          have h1:=List.mem_of_find?_eq_some hf
          have h2:=List.find?_some hf
          simp only [beq_iff_eq] at h2
          subst h2; exact h1
        exact qo9 h ho hx hst hB hone hmem hp Q
      · exact qf3.of h hid hp.1 hp.2 Q
    · exact qf3.of h hid hp.1 hp.2 Q
  case h_10 => exact qf3.of h hid hp.1 hp.2 Q
theorem qmd (h:SR P E Γ bs ow w a.tmps st) {ops:Array Oper} {j:Nat} {x:Option Bool} (hg:qgA ops st.tmps j = some x):yielded ops a.tmps j = x:=by
  unfold qgA at hg
  unfold yielded
  cases hd:(ops[j]?).bind (·.dst) with
  | none => rw [hd] at hg; cases hg; rfl
  | some t =>
    rw [hd] at hg
    simp only [Option.bind_some]
    simp only at hg
    cases hp:st.tmps[t]? with
    | none =>
      rw [hp] at hg; cases hg
      have:a.tmps[t]? = none:=by
        rw [List.getElem?_eq_none_iff] at hp
        rw [Array.getElem?_eq_none_iff,h.sz]; exact hp
      rw [this]
    | some p =>
      have hlt:t < a.tmps.size:=by rw [h.sz]; exact qae hp
      have hat:a.tmps[t]? = some a.tmps[t]:=by simp [hlt]
      have hv:=h.tm t p _ hp hat
      rw [hp] at hg
      rw [hat]
      generalize a.tmps[t] = v at hv
      cases p <;> (try simp only at hg)
      case undef => cases hg
      case bool b => cases hg; cases hv; rfl
      case val u =>
        cases hv
        cases v <;> (try simp only at hg) <;> cases hg <;> rfl
      all_goals (cases hg; cases hv <;> rfl)
theorem SR.extend (h:SR P E Γ bs ow w a.tmps st) (X:List PBox):SR P E Γ (bs ++ List.replicate X.length none) ow w a.tmps { st with boxes:=st.boxes ++ X }:=by
  have hget:∀ {i b:Nat},(bs ++ List.replicate X.length none)[i]? = some (some b)→bs[i]? = some (some b):=by
    intro i b hi
    by_cases hlt:i < bs.length
    · rwa [List.getElem?_append_left hlt] at hi
    · rw [List.getElem?_append_right (by omega),List.getElem?_replicate] at hi
      split at hi <;> cases hi
  have hsub:bs.Sub (bs ++ List.replicate X.length none):=fun i b hi => by rw [List.getElem?_append_left (qae hi)]; exact hi
  have hbox:∀ {i b:Nat} {B:PBox},bs[i]? = some (some b)→(st.boxes ++ X)[i]? = some B→st.boxes[i]? = some B:=by
    intro i b B hi hB
    rwa [List.getElem?_append_left (by rw [← h.bl]; exact qae hi)] at hB
  exact { h with
    tm:=fun t p v hp hv => (h.tm t p v hp hv).mono (.refl _ _) hsub
    bl:=by simp [h.bl]
    bx:=fun i b B hi hB => by
      obtain ⟨h1,h2,h3⟩:=h.bx i b B (hget hi) (hbox (hget hi) hB)
      exact ⟨h1,h2,h3.mono (.refl _ _) hsub rfl⟩
    inj:=fun i j b hi hj => h.inj i j b (hget hi) (hget hj)
    bn:=fun i b hi => h.bn i b (hget hi)
    ob:=fun i j e cs own b hB hj hi => h.ob i j e cs own b (hbox (hget hi) hB) hj (hget hi)
    gl:=fun g cs hg => (h.gl g cs hg).mono (.refl _ _) hsub }
def qAq (bs0 bs:qbn):Prop := ∀ i:Nat,i < bs0.length→bs[i]? = bs0[i]?
def Rel (P:Program) (E:Ent) (bs0:qbn) (st:PSt) (a:Act) (w:World):Prop := ∃ Γ bs ow,SR P E Γ bs ow w a.tmps st∧qAq bs0 bs
def qaF (ops:List Oper):Nat:=(ops.filter fun o => qai o.op).length
theorem qm2 (P:Program) (ops:List Oper):(qb3 P ops).length = qaF ops:=by
  unfold qb3 qaF
  induction ops with
  | nil => rfl
  | cons o ops ih =>
    simp only [List.filterMap_cons,List.filter_cons]
    cases ho:o.op <;> simp [qfF,qai,ho,ih]
theorem qpt {bs0:qbn} {ds:List Deferred} {A:List Nat} {ops:Array Oper} {K:PSt→Prop} {Q:Exit→Act→World→Prop}
    (hQ:∀ a w st,a.defers = ds→Rel P E bs0 st a w→K st→Q .normal a w) :
    ∀ (rest:List Oper) (k id:Nat) (Γ:qa0) (bs:qbn) (ow:Nat→Option Loc) (a:Act) (w:World) (st:PSt),(∀ j,rest[j]? = ops[k + j]?)→SR P E Γ bs ow w a.tmps st→a.defers = ds→qAq bs0 bs→bs0.length ≤ id →
      (∀ m,id ≤ m→m < id + qaF rest→bs[m]? = some none)→qg9 P E.GE A ops K rest id st→wpOps P ops Q ((List.range ops.size).drop k) a w
  | [],k,id,Γ,bs,ow,a,w,st,hr,h,hd,hk,_,_,hp => by
    have hsz:ops.size ≤ k:=by
      have:=hr 0
      simp only [List.getElem?_nil,Nat.add_zero] at this
      exact Array.getElem?_eq_none_iff.1 this.symm
    rw [List.drop_eq_nil_of_le (by simpa using hsz)]
    exact hQ a w st hd ⟨Γ,bs,ow,h,hk⟩ hp
  | o :: rest,k,id,Γ,bs,ow,a,w,st,hr,h,hd,hk,hid,hfree,hp => by
    have hok:ops[k]? = some o:=by have:=hr 0; simpa using this.symm
    have hlt:k < ops.size:=(Array.getElem?_eq_some_iff.1 hok).1
    have hcons:(List.range ops.size).drop k = k :: (List.range ops.size).drop (k + 1):=by
      rw [List.drop_eq_getElem_cons (by simpa using hlt)]; simp
    rw [hcons,wpOps_cons]
    unfold wpOp
    rw [hok]
    simp only
    have hcnt:qaF (o :: rest) = (if qai o.op then 1 else 0) + qaF rest:=by
      unfold qaF
      simp only [List.filter_cons]
      split <;> simp <;> omega
    have hrest:∀ j,rest[j]? = ops[k + 1 + j]?:=fun j => by
      have:=hr (j + 1)
      simpa [Nat.add_assoc,Nat.add_comm 1 j] using this
    have hmk:qai o.op = true→bs[id]? = some none:=fun hm => hfree id (Nat.le_refl _) (by rw [hcnt,hm]; simp; omega)
    have step:qrm P E.GE A o id (qg9 P E.GE A ops K rest (id + if qai o.op then 1 else 0)) st→o.wp P a w (wpOps P ops Q ((List.range ops.size).drop (k + 1))) Q:=by
      intro hs
      refine Oper.wp_mono (fun a' w' hA => ?_) (qsQ h hmk hs Q)
      obtain ⟨hd',Γ',bs',ow',st',h1,h2,h3⟩:=hA
      refine qpt hQ rest (k + 1) _ Γ' bs' ow' a' w' st' hrest h1 (hd'.trans hd) ?_ (by omega) ?_ h2
      · rcases h3 with rfl | ⟨hm,b,rfl⟩
        · exact hk
        · intro i hi
          rw [List.getElem?_set_ne (by omega)]
          exact hk i hi
      · intro m hm1 hm2
        have hb:=hfree m (by omega) (by rw [hcnt]; omega)
        rcases h3 with rfl | ⟨hm,b,rfl⟩
        · exact hb
        · rw [hm] at hm1
          simp only [if_true] at hm1
          rw [List.getElem?_set_ne (by omega)]
          exact hb
    have skip:qg9 P E.GE A ops K rest (id + if qai o.op then 1 else 0) (putv st o.dst (.val undef) [] st.boxes)→wpOps P ops Q ((List.range ops.size).drop (k + 1)) (a.put o.dst undef) w:=by
      intro hs
      refine qpt hQ rest (k + 1) _ Γ bs ow (a.put o.dst undef) w _ hrest (h.putv_nil (.val undef) o.dst rfl) ((qbm _ _ _).trans hd) hk (by omega) (fun m hm1 hm2 => hfree m (by omega) (by rw [hcnt]; omega)) hs
    simp only [qg9] at hp
    have hgo:(Region.wanted o (yielded ops a.tmps) = true→o.wp P a w (wpOps P ops Q ((List.range ops.size).drop (k + 1))) Q)∧(¬ Region.wanted o (yielded ops a.tmps) = true→wpOps P ops Q ((List.range ops.size).drop (k + 1)) (a.put o.dst undef) w):=by
      split at hp
      · rename_i hg
        exact ⟨fun _ => step hp,fun hn => absurd (by simp [Region.wanted,hg]) hn⟩
      · rename_i j want hg
        split at hp
        · rename_i x hx
          have hw:Region.wanted o (yielded ops a.tmps) = (x == some want):=by simp [Region.wanted,hg,qmd h hx]
          rw [hw]
          exact ⟨fun hx => step (hp.1 (by simpa using hx)),fun hx => skip (hp.2 (by simpa using hx))⟩
        · exact hp.elim
    by_cases hw:Region.wanted o (yielded ops a.tmps) = true
    · rw [if_pos hw]; exact .inl (hgo.1 hw)
    · rw [if_neg hw]; exact hgo.2 hw
theorem qvw {bs0:qbn} {A:List Nat} {id:Nat} {ops:Array Oper} {K:PSt→Prop} {Q:Exit→Act→World→Prop} (hR:Rel P E bs0 st a w) (hl:bs0.length ≤ st.boxes.length)
    (hQ:∀ a' w' st',a'.defers = a.defers→Rel P E bs0 st' a' w'→K st'→Q .normal a' w') (hp:qg9 P E.GE A ops K ops.toList st.boxes.length { st with boxes:=st.boxes ++ qb3 P ops.toList }) :
    (Code.region id ops false).wp P Q a w:=by
  obtain ⟨Γ,bs,ow,h,hk⟩:=hR
  have hext:=h.extend (qb3 P ops.toList)
  refine wp_region ?_
  have hlen:=qm2 P ops.toList
  have:=qpt (P:=P) (E:=E) (bs0:=bs0) (ds:=a.defers) hQ ops.toList 0 st.boxes.length Γ _ ow a w _ (fun j => by simp) hext rfl (fun i hi => ?_) hl (fun m hm1 hm2 => ?_) hp
  · simpa using this
  · rw [List.getElem?_append_left (by rw [h.bl]; omega)]; exact hk i hi
  · rw [List.getElem?_append_right (by rw [h.bl]; omega),List.getElem?_replicate,if_pos (by rw [h.bl]; omega)]
end
end Go.Proofs.YtgldgpdhblndkaaGreatDoor
namespace Go.Proofs.YtgldgpdhblndkaaGreatDoor
open Go
def fev (P:Program) (op:Op) (id:Nat) (v:Operand→PVal) (H:List PBox):Option (PVal×List PBox) :=
  match op with
  | .alloc t => (qhE P t).map fun _ => (.bptr id 0,H)
  | .makeMap _ none => some (.mapr id,H)
  | .box .. => none
  | .makeMap .. => none
  | op => pev P op id v H
def fdo (P:Program) (GE:List (Nat×List PVal)) (op:Op) (id:Nat) (v:Operand→PVal) (H:List PBox) (K:PVal→List PBox→Prop):Prop :=
  match op with
  | .call { callee := .value (.func g),args,.. } => clL 0 (args.toList.map v)∧∃ r ro,C P GE g (args.toList.map v) [] [] r ro []∧K r H
  | .call { callee := .value f,args,.. } => qo3 P GE (v f) (args.toList.map v) H fun p _ H' => K p H'
  | op => match fev P op id v H with
    | some (p,H') => K p H'
    | none => False
def qiY (P:Program) (GE:List (Nat×List PVal)) (ops:Array Oper) (K:PSt→Prop):List Oper→Nat→PSt→Prop
  | [],_,st => K st
  | o :: rest,id,st =>
    match o.guard with
    | none => fdo P GE o.op id (opv GE st.tmps) st.boxes fun p H => qiY P GE ops K rest (id + if qai o.op then 1 else 0) (putv st o.dst p [] H)
    | some (j,want) => match qgA ops st.tmps j with
      | some x => (x = some want→fdo P GE o.op id (opv GE st.tmps) st.boxes fun p H => qiY P GE ops K rest (id + if qai o.op then 1 else 0) (putv st o.dst p [] H)) ∧
          (x ≠ some want→qiY P GE ops K rest (id + if qai o.op then 1 else 0) (putv st o.dst (.val undef) [] st.boxes))
      | none => False
def qaA (P:Program):Op→Nat
  | .load .. | .lookup .. => 2
  | .store .. | .mapUpdate .. => 3
  | .call c => match c.callee with
    | .value (.func _) => 0
    | .value _ => 3
    | .builtin .len => match c.argTypes.toList with
      | [t] => (match P.underlying t with
        | some (.map ..) => 2
        | _ => 0)
      | _ => 0
    | _ => 0
  | _ => 0
def qfJ (acc:List Nat) (o:Oper):Nat:=o.after.toList.foldl (fun s e => if Region.binds .any e then s ||| 2 ^ e.on ||| acc.getD e.on 0 else s) 0
def ancs (ops:List Oper):List Nat:=ops.foldl (fun acc o => acc ++ [qfJ acc o]) []
def looks (ops:Array Oper) (o:Oper):List Tmp :=
  (o.op.operands.toList.filterMap fun | .tmp t => some t | _ => none) ++ (match o.guard with
    | some (j,_) => ((ops[j]?).bind (·.dst)).toList
    | none => [])
def qxJ (P:Program) (ops:Array Oper) (n:Nat):Bool :=
  let l:=ops.toList
  let an:=ancs l
  let before (i j:Nat):Bool:=(an.getD j 0).testBit i
  let idx:=List.range l.length
  l.all (fun o => o.dst.any fun d => decide (d < n)) &&
  idx.all (fun j => (l.getD j default).after.all fun e => !Region.binds .any e || decide (e.on < j)) &&
  idx.all (fun j => idx.all fun i => i == j || (l.getD i default).dst != (l.getD j default).dst) &&
  idx.all (fun j => (looks ops (l.getD j default)).all fun t => idx.all fun i => i == j || (l.getD i default).dst != some t || (if i < j then before i j else before j i)) &&
  idx.all (fun j => idx.all fun i => !(decide (i < j)) || qaA P (l.getD i default).op < 2 || qaA P (l.getD j default).op < 2 || (qaA P (l.getD i default).op != 3 && qaA P (l.getD j default).op != 3) || before i j) &&
  (!(l.any fun o => qai o.op) || l.all fun o => match o.op with | .call { callee := .value (.func _),.. } => true | .call { callee := .value _,.. } => false | _ => true)
section
variable {P:Program} {GE:List (Nat×List PVal)}
theorem qn5 {op:Op} {id:Nat} {v:Operand→PVal} {H:List PBox} {K K':PVal→List PBox→Prop} (h:fdo P GE op id v H K) (hk:∀ p H',K p H'→K' p H'):fdo P GE op id v H K':=by
  unfold fdo at *
  split at h
  · exact ⟨h.1,h.2.imp fun r hr => hr.imp fun ro hro => ⟨hro.1,hk _ _ hro.2⟩⟩
  · unfold qo3 at *
    split at h
    · rcases h with ⟨h1,r,ro,h2,h3⟩ | ⟨ρ,argsC,Hc,rc,ro,Hc',H',r,h1,h2,h3,h4,h5,h6,h7,h8,h9,h10⟩
      · exact .inl ⟨h1,r,ro,h2,hk _ _ h3⟩
      · exact .inr ⟨ρ,argsC,Hc,rc,ro,Hc',H',r,h1,h2,h3,h4,h5,h6,h7,h8,h9,hk _ _ h10⟩
    · exact h.elim
  · split at h
    · rename_i p H' he
      exact hk _ _ h
    · exact h.elim
theorem qxv {op:Op} {id:Nat} {v:Operand→PVal} {H:List PBox} {K:PVal→List PBox→Prop} (h:fdo P GE op id v H K):∃ p H',fdo P GE op id v H (fun q H2 => q = p∧H2 = H')∧K p H':=by
  unfold fdo at *
  split at h
  · obtain ⟨h1,r,ro,h2,h3⟩:=h
    exact ⟨r,H,⟨h1,r,ro,h2,rfl,rfl⟩,h3⟩
  · unfold qo3 at *
    split at h
    · rcases h with ⟨h1,r,ro,h2,h3⟩ | ⟨ρ,argsC,Hc,rc,ro,Hc',H',r,h1,h2,h3,h4,h5,h6,h7,h8,h9,h10⟩
      · exact ⟨r,H,.inl ⟨h1,r,ro,h2,rfl,rfl⟩,h3⟩
      · exact ⟨r,H',.inr ⟨ρ,argsC,Hc,rc,ro,Hc',H',r,h1,h2,h3,h4,h5,h6,h7,h8,h9,rfl,rfl⟩,h10⟩
    · exact h.elim
  · split at h
    · rename_i p H' he
      exact ⟨p,H',⟨rfl,rfl⟩,h⟩
    · exact h.elim
def qsP (P:Program) (GE:List (Nat×List PVal)) (ops:Array Oper) (o:Oper) (id:Nat) (st st':PSt):Prop :=
  let run := ∃ p H,fdo P GE o.op id (opv GE st.tmps) st.boxes (fun q H2 => q = p∧H2 = H)∧st' = putv st o.dst p [] H
  match o.guard with
  | none => run
  | some (j,want) => ∃ x,qgA ops st.tmps j = some x∧(x = some want→run)∧(x ≠ some want→st' = putv st o.dst (.val undef) [] st.boxes)
theorem qqE {ops:Array Oper} {K:PSt→Prop}:∀ (rest:List Oper) (id:Nat) (st:PSt),qiY P GE ops K rest id st →
    ∃ T:Nat→PSt,T 0 = st∧K (T rest.length)∧∀ (k:Nat) o,rest[k]? = some o→qsP P GE ops o (id + qaF (rest.take k)) (T k) (T (k + 1))
  | [],id,st,h => ⟨fun _ => st,rfl,h,by simp⟩
  | o :: rest,id,st,h => by
    have hcnt:qaF [o] = if qai o.op then 1 else 0:=by unfold qaF; simp only [List.filter_cons,List.filter_nil]; split <;> rfl
    have fin:∀ st',qsP P GE ops o id st st'→qiY P GE ops K rest (id + if qai o.op then 1 else 0) st' →
        ∃ T:Nat→PSt,T 0 = st∧K (T (rest.length + 1))∧∀ (k:Nat) o',(o :: rest)[k]? = some o'→qsP P GE ops o' (id + qaF ((o :: rest).take k)) (T k) (T (k + 1)):=by
      intro st' h1 h2
      obtain ⟨T,t0,t1,t2⟩:=qqE rest _ st' h2
      refine ⟨fun k => match k with | 0 => st | k + 1 => T k,rfl,t1,fun k o' ho' => ?_⟩
      cases k with
      | zero => simp at ho'; subst ho'; simp only; rw [t0]; simpa [qaF] using h1
      | succ k =>
        have:=t2 k o' (by simpa using ho')
        have he:id + (if qai o.op then 1 else 0) + qaF (rest.take k) = id + qaF ((o :: rest).take (k + 1)):=by
          simp only [List.take_succ_cons]
          have:qaF (o :: rest.take k) = qaF [o] + qaF (rest.take k):=by
            unfold qaF; simp only [List.filter_cons,List.filter_nil]; split <;> simp <;> omega
          rw [this,hcnt]; omega
        rw [he] at this
        exact this
    simp only [qiY] at h
    simp only [List.length_cons]
    split at h
    · rename_i hg
      obtain ⟨p,H,h1,h2⟩:=qxv h
      exact fin _ (by unfold qsP; rw [hg]; exact ⟨p,H,h1,rfl⟩) h2
    · rename_i j want hg
      split at h
      · rename_i x hx
        by_cases hw:x = some want
        · obtain ⟨p,H,h1,h2⟩:=qxv (h.1 hw)
          exact fin _ (by unfold qsP; rw [hg]; exact ⟨x,hx,fun _ => ⟨p,H,h1,rfl⟩,fun hn => absurd hw hn⟩) h2
        · exact fin _ (by unfold qsP; rw [hg]; exact ⟨x,hx,fun hy => absurd hy hw,fun _ => rfl⟩) (h.2 hw)
      · exact h.elim
theorem qwr {acc:List Nat} {o:Oper} {i:Nat} (h:(qfJ acc o).testBit i = true):∃ e ∈ o.after.toList,Region.binds .any e = true∧(e.on = i∨(acc.getD e.on 0).testBit i = true):=by
  unfold qfJ at h
  have key:∀ (l:List Edge) (s:Nat),(l.foldl (fun s e => if Region.binds .any e then s ||| 2 ^ e.on ||| acc.getD e.on 0 else s) s).testBit i = true →
      s.testBit i = true∨∃ e ∈ l,Region.binds .any e = true∧(e.on = i∨(acc.getD e.on 0).testBit i = true):=by
    intro l
    induction l with
    | nil => intro s hs; exact .inl hs
    | cons e l ih =>
      intro s hs
      simp only [List.foldl_cons] at hs
      rcases ih _ hs with hs' | ⟨e',h1,h2⟩
      · split at hs'
        · rename_i hb
          simp only [Nat.testBit_or,Bool.or_eq_true] at hs'
          rcases hs' with (hs' | hs') | hs'
          · exact .inl hs'
          · refine .inr ⟨e,by simp,hb,.inl ?_⟩
            rw [Nat.testBit_two_pow] at hs'
            simpa using hs'
          · exact .inr ⟨e,by simp,hb,.inr hs'⟩
        · exact .inl hs'
      · exact .inr ⟨e',by simp [h1],h2⟩
  rcases key _ 0 h with h0 | h0
  · simp at h0
  · exact h0
theorem qvz (ops:List Oper):(ancs ops).length = ops.length∧∀ (j i:Nat),((ancs ops).getD j 0).testBit i = true→∃ o,ops[j]? = some o∧∃ e ∈ o.after.toList,Region.binds .any e = true∧(e.on = i∨(e.on < j∧((ancs ops).getD e.on 0).testBit i = true)):=by
  unfold ancs
  have key:∀ (rest pre:List Oper) (acc:List Nat),acc.length = pre.length →
      (∀ (j i:Nat),(acc.getD j 0).testBit i = true→∃ o,(pre ++ rest)[j]? = some o∧∃ e ∈ o.after.toList,Region.binds .any e = true∧(e.on = i∨(e.on < j∧(acc.getD e.on 0).testBit i = true))) →
      (rest.foldl (fun acc o => acc ++ [qfJ acc o]) acc).length = (pre ++ rest).length∧∀ (j i:Nat),((rest.foldl (fun acc o => acc ++ [qfJ acc o]) acc).getD j 0).testBit i = true →
        ∃ o,(pre ++ rest)[j]? = some o∧∃ e ∈ o.after.toList,Region.binds .any e = true∧(e.on = i∨(e.on < j∧((rest.foldl (fun acc o => acc ++ [qfJ acc o]) acc).getD e.on 0).testBit i = true)):=by
    intro rest
    induction rest with
    | nil => intro pre acc hl h; exact ⟨by simpa using hl,by simpa using h⟩
    | cons o rest ih =>
      intro pre acc hl h
      simp only [List.foldl_cons]
      have hsplit:pre ++ o :: rest = (pre ++ [o]) ++ rest:=by simp
      rw [hsplit]
      refine ih (pre ++ [o]) (acc ++ [qfJ acc o]) (by simp [hl]) (fun j i hb => ?_)
      have hlow:∀ m,m < acc.length→(acc ++ [qfJ acc o]).getD m 0 = acc.getD m 0:=fun m hm => by
        rw [List.getD_eq_getElem?_getD,List.getD_eq_getElem?_getD,List.getElem?_append_left hm]
      by_cases hj:j < acc.length
      · rw [hlow j hj] at hb
        obtain ⟨o',h1,e,h2,h3,h4⟩:=h j i hb
        refine ⟨o',by rw [← hsplit]; exact h1,e,h2,h3,h4.imp id fun hx => ⟨hx.1,?_⟩⟩
        rw [hlow _ (by omega)]; exact hx.2
      · by_cases hj2:j = acc.length
        · subst hj2
          have:(acc ++ [qfJ acc o]).getD acc.length 0 = qfJ acc o:=by
            rw [List.getD_eq_getElem?_getD,List.getElem?_append_right (Nat.le_refl _)]; simp
          rw [this] at hb
          obtain ⟨e,h1,h2,h3⟩:=qwr hb
          refine ⟨o,by rw [hl]; simp,e,h1,h2,?_⟩
          rcases h3 with h3 | h3
          · exact .inl h3
          · have hlt:e.on < acc.length:=by
              by_cases hlt:e.on < acc.length
              · exact hlt
              · rw [List.getD_eq_getElem?_getD,List.getElem?_eq_none (by omega)] at h3; simp at h3
            exact .inr ⟨hlt,by rw [hlow _ hlt]; exact h3⟩
        · rw [List.getD_eq_getElem?_getD,List.getElem?_eq_none (by simp; omega)] at hb; simp at hb
  have:=key ops [] [] rfl (fun j i hb => by simp at hb)
  simpa using this
end
end Go.Proofs.YtgldgpdhblndkaaGreatDoor
namespace Go.Proofs.YtgldgpdhblndkaaGreatDoor
open Go
section
variable {P:Program} {GE:List (Nat×List PVal)}
theorem qtH {op:Op} {id:Nat} {v:Operand→PVal} {H H':List PBox} {p:PVal} (hc:qaA P op ≠ 3) (hm:qai op = false) (h:pev P op id v H = some (p,H')):H' = H:=by
  unfold pev at h
  split at h
  all_goals first
    | (cases h; done)
    | (cases h; rfl)
    | (obtain ⟨q,_,he⟩:=qb5 h; cases he; rfl)
    | (exact absurd rfl hc)
    | (simp [qai] at hm; done)
    | (split at h <;> first | (cases h; rfl) | cases h)
theorem qyY {op:Op} {id:Nat} {v:Operand→PVal} {H H':List PBox} {p:PVal} (hc:qaA P op ≠ 3) (h:fev P op id v H = some (p,H')):H' = H:=by
  unfold fev at h
  split at h
  · obtain ⟨q,_,he⟩:=qb5 h; cases he; rfl
  · cases h; rfl
  · cases h
  · cases h
  · rename_i h1 h2 h3 h4
    refine qtH hc ?_ h
    cases op <;> simp [qai] at *
theorem qty {op:Op} {id:Nat} {v:Operand→PVal} {H H':List PBox} {p:PVal} (hc:qaA P op ≠ 3) (h:fdo P GE op id v H fun q H2 => q = p∧H2 = H'):H' = H:=by
  unfold fdo at h
  split at h
  · obtain ⟨_,r,ro,_,_,h3⟩:=h; exact h3.symm
  · rename_i f args tys hf
    exfalso
    apply hc
    cases f with
    | func g => exact absurd rfl (hf g)
    | tmp t => rfl
    | const v => rfl
    | global g => rfl
  · split at h
    · rename_i q H2 he
      obtain ⟨_,h2⟩:=h
      subst h2
      exact qyY hc he
    · exact h.elim
theorem qAi {op:Op} {id:Nat} {v:Operand→PVal} {H:List PBox} {p:PVal} (hc:qaA P op < 2) (hm:qai op = false) (h:pev P op id v H = some (p,H)) (H2:List PBox):pev P op id v H2 = some (p,H2):=by
  unfold pev at h ⊢
  split at h
  case h_24 x t =>
    obtain ⟨q,hq,he⟩:=qb5 h
    cases he
    simp only [qaA] at hc
    have:plen P t (v x) H2 = plen P t (v x) H:=by
      unfold plen
      split <;> first | rfl | skip
      rename_i hu _
      simp [hu] at hc
    rw [this,hq]; rfl
  all_goals first
    | (cases h; done)
    | (cases h; rfl)
    | (obtain ⟨q,hq,he⟩:=qb5 h; cases he; simp only [hq,Option.map_some]; done)
    | (simp [qaA] at hc; done)
    | (simp [qai] at hm; done)
    | (split at h <;> first | (cases h; done) | (cases h; rfl) | (rename_i hv; cases h; simp only [hv]; done))
theorem qCe {op:Op} {id:Nat} {v:Operand→PVal} {H:List PBox} {p:PVal} (hc:qaA P op < 2) (h:fdo P GE op id v H fun q H2 => q = p∧H2 = H) (H2:List PBox):fdo P GE op id v H2 fun q H3 => q = p∧H3 = H2:=by
  unfold fdo at h ⊢
  split at h
  · obtain ⟨h1,r,ro,h2,h3,_⟩:=h
    exact ⟨h1,r,ro,h2,h3,rfl⟩
  · rename_i f args tys hf
    exfalso
    have:qaA P (.call { callee := .value f,args,argTypes:=tys }) = 3:=by
      cases f with
      | func g => exact absurd rfl (hf g)
      | tmp t => rfl
      | const v => rfl
      | global g => rfl
    omega
  · rename_i hn1 hn2
    split at h
    · rename_i q H3 he
      obtain ⟨rfl,rfl⟩:=h
      have:fev P op id v H2 = some (q,H2):=by
        unfold fev at he ⊢
        split at he
        · obtain ⟨z,hz,hq⟩:=qb5 he; cases hq; simp only [hz,Option.map_some]
        · cases he; rfl
        · cases he
        · cases he
        · rename_i h1 h2 h3 h4
          exact qAi hc (by cases op <;> simp [qai] at *) he H2
      rw [this]
      exact ⟨rfl,rfl⟩
    · exact h.elim
theorem qn2 {l:List Operand} {v v':Operand→PVal} (h:∀ x ∈ l,v x = v' x):l.map v = l.map v':=List.map_congr_left h
theorem qxr {op:Op} {id:Nat} {v v':Operand→PVal} {H:List PBox} (h:∀ x ∈ op.operands.toList,v x = v' x):pev P op id v H = pev P op id v' H:=by
  unfold pev
  split
  all_goals (simp only [Op.operands,Call.operands] at h)
  all_goals first
    | (simp at h; simp [h]; done)
    | skip
  case h_7 t parts =>
    rw [List.map_congr_left (f:=fun x:Nat×Operand => (x.1,v x.2)) (g:=fun x => (x.1,v' x.2)) fun x hx => by rw [h x.2 (List.mem_map.2 ⟨x,hx,rfl⟩)]]
  case h_8 t len parts =>
    rw [List.map_congr_left (f:=fun x:Nat×Operand => (x.1,v x.2)) (g:=fun x => (x.1,v' x.2)) fun x hx => by rw [h x.2 (List.mem_map.2 ⟨x,hx,rfl⟩)]]
  case h_15 fn first cap =>
    rw [qn2 fun x hx => h x (by simp at hx ⊢; exact .inl hx),qn2 fun x hx => h x (by simp at hx ⊢; exact .inr hx)]
  case h_16 t x lo hi =>
    have h1:v x = v' x:=h x (by simp)
    have h2:lo.map v = lo.map v':=by
      cases lo with
      | none => rfl
      | some y => simp only [Option.map_some]; rw [h y (by simp)]
    have h3:hi.map v = hi.map v':=by
      cases hi with
      | none => rfl
      | some y => simp only [Option.map_some]; rw [h y (by simp)]
    rw [h1,h2,h3]
  case h_25 x r tys =>
    rw [h x (by simp),qn2 fun y hy => h y (by simp [hy])]
  case h_26 x r tys =>
    rw [h x (by simp),qn2 fun y hy => h y (by simp [hy])]
theorem qA9 {op:Op} {id:Nat} {v v':Operand→PVal} {H:List PBox} (h:∀ x ∈ op.operands.toList,v x = v' x):fev P op id v H = fev P op id v' H:=by
  unfold fev
  split <;> first | rfl | exact qxr h
theorem qBm {op:Op} {id:Nat} {v v':Operand→PVal} {H:List PBox} {K:PVal→List PBox→Prop} (h:∀ x ∈ op.operands.toList,v x = v' x) (hp:fdo P GE op id v H K):fdo P GE op id v' H K:=by
  unfold fdo at hp ⊢
  split at hp
  · rename_i g args tys
    rw [qn2 fun x hx => h x (by simp [Op.operands,Call.operands] at hx ⊢; exact .inr hx)] at hp
    exact hp
  · rename_i f args tys _
    rw [qn2 fun x hx => h x (by simp [Op.operands,Call.operands] at hx ⊢; exact .inr hx),h f (by simp [Op.operands,Call.operands])] at hp
    exact hp
  · rw [qA9 h] at hp
    exact hp
section
variable {E:Ent} {Γ:qa0} {bs:qbn} {ow:Nat→Option Loc} {w:World} {a:Act} {st:PSt}
theorem qys (h:SR P E Γ bs ow w a.tmps st) {op:Op} {id:Nat} {p:PVal} {H:List PBox} (hm:qai op = false) (he:pev P op id (opv E.GE st.tmps) st.boxes = some (p,H)) {i:Nat} (hi:bs[i]? = some none):H[i]? = st.boxes[i]?:=by
  by_cases hc:qaA P op = 3
  · have hρ:∀ x,VR Γ bs w (opv E.GE st.tmps x) (a.eval x):=fun x => h.opv a.defers x
    unfold pev at he
    split at he
    case h_10 t x y =>
      obtain ⟨q,hq,hh⟩:=qb5 he
      cases hh
      have hx:=hρ x
      generalize a.eval x = vx at hx
      unfold qcU at hq
      split at hq
      · rename_i j off vs hj _
        rw [hj] at hx
        cases hx with
        | bptr _ _ b hb =>
          have hne:j ≠ i:=fun e => by subst e; rw [hi] at hb; cases hb
          split at hq
          · split at hq
            · cases hq; rw [List.getElem?_set_ne hne]
            · cases hq
          · cases hq
      · cases hq
    case h_22 t m k x =>
      obtain ⟨q,hq,hh⟩:=qb5 he
      cases hh
      have hx:=hρ m
      generalize a.eval m = vx at hx
      unfold qdx at hq
      split at hq
      · rename_i kt e j _ hj
        rw [hj] at hx
        cases hx with
        | mapr _ b hb =>
          have hne:j ≠ i:=fun e => by subst e; rw [hi] at hb; cases hb
          split at hq
          · split at hq
            · split at hq
              · cases hq; rw [List.getElem?_set_ne hne]
              · cases hq; rw [List.getElem?_set_ne hne]
              · cases hq
            · cases hq
          · cases hq
      · cases hq
    all_goals first
      | (simp [qaA] at hc; done)
      | (cases he; done)
      | (obtain ⟨q,_,hh⟩:=qb5 he; cases hh; rfl)
  · rw [qtH hc hm he]
end
end
end Go.Proofs.YtgldgpdhblndkaaGreatDoor
