/-
  WHAT IS PROVED: parts of the proof, put together by a program out of smaller texts, their own names made short (AbsS; AbsZ). Conditions: none.
-/
import Derived.Test.YtgldgpdhblndkaaGreatDoorPkD11
import Derived.Deep.LoopGhost
namespace Go.Proofs.YtgldgpdhblndkaaGreatDoor
open Go
section
variable {P:Program} {E:Ent} {bs0:qbn}
theorem Rel.len {st:PSt} {a:Act} {w:World} (h:Rel P E bs0 st a w):bs0.length ≤ st.boxes.length:=by
  obtain ⟨Γ,bs,ow,h,hk⟩:=h
  rw [← h.bl]
  by_cases hl:bs0.length ≤ bs.length
  · exact hl
  · have h1:=hk bs.length (by omega)
    rw [List.getElem?_eq_none (Nat.le_refl _),List.getElem?_eq_getElem (by omega)] at h1
    cases h1
def qBe (P:Program) (E:Ent) (bs0:qbn) (ds:List Deferred) (Q:Exit→PSt→Prop):Exit→Act→World→Prop :=
  fun e a w => a.defers = ds∧∃ st,Rel P E bs0 st a w∧Q e st
theorem qma (hf:P.follows .mixedOrders = true) {A:List Nat}:∀ (c:Code) (Q:Exit→PSt→Prop) (st:PSt) (a:Act) (w:World),pw P E.GE A bs0.length c Q st→Rel P E bs0 st a w→c.wp P (qBe P E bs0 a.defers Q) a w
  | .skip,Q,st,a,w,hp,hR => wp_skip ⟨rfl,st,hR,hp⟩
  | .label l,Q,st,a,w,hp,hR => wp_label ⟨rfl,st,hR,hp⟩
  | .region id ops draw,Q,st,a,w,hp,hR => by
    cases draw with
    | false => exact qvw hR hR.len (fun a' w' st' hd hR' hK => ⟨hd,st',hR',hK⟩) hp
    | true => exact qwn hf hR hR.len (fun a' w' st' hd hR' hK => ⟨hd,st',hR',hK⟩) hp
  | .seq x y,Q,st,a,w,hp,hR => by
    refine wp_seq (wp_mono (qma hf x _ st a w hp hR) fun e a' w' hq => ?_)
    obtain ⟨hd,st',hR',hq⟩:=hq
    cases e with
    | normal =>
      have:=qma hf y Q st' a' w' hq hR'
      rw [hd] at this
      exact this
    | exit id => exact ⟨hd,st',hR',hq⟩
    | goto l => exact ⟨hd,st',hR',hq⟩
    | ret => exact ⟨hd,st',hR',hq⟩
    | panic c => exact ⟨hd,st',hR',hq⟩
    | outgrown => exact ⟨hd,st',hR',hq⟩
  | .cond c x y,Q,st,a,w,hp,hR => by
    simp only [pw] at hp
    obtain ⟨Γ,bs,ow,h,hk⟩:=hR
    have hv:=h.opv a.defers c
    split at hp
    · rename_i t ht
      rw [ht] at hv
      generalize hc:(Act.mk a.tmps a.defers).eval c = vc at hv
      cases hv
      exact wp_cond_split (t:=t) hc (fun h1 => qma hf x Q st a w (hp.1 h1) ⟨Γ,bs,ow,h,hk⟩) (fun h1 => qma hf y Q st a w (hp.2 h1) ⟨Γ,bs,ow,h,hk⟩)
    · exact hp.elim
  | .block id c,Q,st,a,w,hp,hR => by
    refine wp_block (wp_mono (qma hf c _ st a w hp hR) fun e a' w' hq => ?_)
    obtain ⟨hd,st',hR',hq⟩:=hq
    cases e with
    | exit id' =>
      simp only [qtb] at hq
      simp only [Exit.inBlock]
      split at hq
      · rename_i hid; rw [if_pos hid]; exact ⟨hd,st',hR',hq⟩
      · rename_i hid; rw [if_neg hid]; exact ⟨hd,st',hR',hq⟩
    | normal => exact ⟨hd,st',hR',hq⟩
    | goto l => exact ⟨hd,st',hR',hq⟩
    | ret => exact ⟨hd,st',hR',hq⟩
    | panic c => exact ⟨hd,st',hR',hq⟩
    | outgrown => exact ⟨hd,st',hR',hq⟩
  | .loop c,Q,st,a,w,hp,hR => by
    obtain ⟨st0,n,hls,hm0,hn⟩:=hp
    refine wp_loop_ghost (fun k a' w' => a'.defers = a.defers∧∃ st',Rel P E bs0 st' a' w'∧qBf k (pw P E.GE A bs0.length c) bs0.length Q st') n ⟨rfl,st0,hR.less hls hm0,hn⟩ ?_
    intro k a1 w1 hI
    obtain ⟨hd1,st1,hR1,hl⟩:=hI
    cases k with
    | zero => exact hl.elim
    | succ k =>
      refine wp_mono (qma hf c _ st1 a1 w1 hl hR1) fun e a' w' hq => ?_
      obtain ⟨hd,st',hR',hq⟩:=hq
      have hd':=hd.trans hd1
      cases e with
      | normal =>
        obtain ⟨st'',hless,hm,hq⟩:=hq
        exact ⟨k,Nat.lt_succ_self k,hd',st'',hR'.less hless hm,hq⟩
      | exit id => exact ⟨hd',st',hR',hq⟩
      | goto l => exact ⟨hd',st',hR',hq⟩
      | ret => exact ⟨hd',st',hR',hq⟩
      | panic c => exact ⟨hd',st',hR',hq⟩
      | outgrown => exact ⟨hd',st',hR',hq⟩
  | .exit id,Q,st,a,w,hp,hR => wp_exit ⟨rfl,st,hR,hp⟩
  | .ret,Q,st,a,w,hp,hR => wp_ret ⟨rfl,st,hR,hp⟩
  | .rangeFunc ..,_,_,_,_,hp,_ => by simp [pw] at hp
  | .scope _,_,_,_,_,hp,_ => by simp [pw] at hp
  | .goto _,_,_,_,_,hp,_ => by simp [pw] at hp
  | .refuse _,_,_,_,_,hp,_ => by simp [pw] at hp
end
def qCo (P:Program) (st:PSt):ResultVar→Option PVal
  | .tmp t => some (st.tmps.getD t .undef)
  | .cell t ty => qj1 P ty (st.tmps.getD t .undef) st.boxes
def retL (P:Program) (st:PSt):List ResultVar→Option (List PVal)
  | [] => some []
  | x :: r => match qCo P st x,retL P st r with
    | some p,some l => some (p :: l)
    | _,_ => none
def retV (P:Program) (st:PSt):List ResultVar→Option PVal
  | [x] => qCo P st x
  | rs => (retL P st rs).map .tuple
def qcF:List ResultVar→Nat→Nat×Nat
  | [.tmp t],k => (t,k)
  | rs,k => match rs[k]? with
    | some (.tmp t) => (t,0)
    | _ => (0,0)
def PVal.isSlice:PVal→Bool
  | .slice _ => true
  | _ => false
def qjI (st:PSt):List ResultVar→Nat→Prop
  | [.tmp _],_ => True
  | [_],_ => False
  | rs,k => match rs[k]? with
    | some (.tmp t) => (st.tmps.getD t .undef).isSlice = true
    | _ => False
def retP (P:Program) (rs:List ResultVar) (r:PVal) (ro:List (Nat×TypeId)) (H':List PBox):Exit→PSt→Prop
  | .normal,st | .ret,st => retV P st rs = some r∧r.cl H'.length∧qbZ H'.length st.boxes H'∧(∀ x ∈ ro,(qcF rs x.1,x.2) ∈ st.own∧qjI st rs x.1) ∧
      (∀ x ∈ ro,∀ y ∈ ro,qcF rs x.1 = qcF rs y.1→x.1 = y.1)
  | _,_ => False
section
variable {P:Program} {E:Ent} {Γ:qa0} {bs:qbn} {ow:Nat→Option Loc} {w:World} {a:Array Value} {st:PSt}
def qsI (src:Nat→Nat×Nat) (ro:List (Nat×TypeId)) (ow:Nat→Option Loc):Nat→Option Loc:=fun b =>
  match ow b with
  | some (.tmp t j) => (ro.find? fun x => src x.1 == (t,j)).map fun x => .tmp 0 x.1
  | L => L
theorem SR.finish (h:SR P E Γ bs ow w a st) {H':List PBox} {v:Value} {r:PVal} (hv:VR Γ bs w r v) (hcl:r.cl H'.length) (hB:qbZ H'.length st.boxes H') {src:Nat→Nat×Nat} {ro:List (Nat×TypeId)}
    (hro:∀ x ∈ ro,(src x.1,x.2) ∈ st.own∧∀ u v',a[(src x.1).1]? = some u→qiM u (src x.1).2 = some v'→qiM v x.1 = some v')
    (hinj:∀ x ∈ ro,∀ y ∈ ro,src x.1 = src y.1→x.1 = y.1) :
    SR P E Γ (bs.take H'.length) (qsI src ro ow) w #[v] ⟨[r],H',ro.map fun x => ((0,x.1),x.2)⟩:=by
  have hR:Rel P E [] st ⟨a,[]⟩ w:=⟨Γ,bs,ow,h,fun i hi => absurd hi (Nat.not_lt_zero _)⟩
  obtain ⟨h3,h4⟩:=qfB hB
  have hget:∀ {i b:Nat},(bs.take H'.length)[i]? = some (some b)→i < H'.length∧bs[i]? = some (some b):=by
    intro i b hi
    have hlt:i < H'.length:=by have:=qae hi; simp at this; omega
    rw [List.getElem?_take_of_lt hlt] at hi
    exact ⟨hlt,hi⟩
  have hres:∀ (i b:Nat),i < H'.length→bs[i]? = some (some b)→(bs.take H'.length)[i]? = some (some b):=fun i b hi hb => by
    rw [List.getElem?_take_of_lt hi]; exact hb
  clear hR
  exact {
    wi:=h.wi
    sz:=rfl
    tm:=fun t p v' hp hv' => by
      cases t with
      | zero => simp at hp hv'; subst hp; subst hv'; exact hv.restrict hcl hres
      | succ t => simp at hp
    bl:=by simp [h.bl]; omega
    bx:=fun i b B hb hB => by
      obtain ⟨hlt,hb⟩:=hget hb
      obtain ⟨B0,hB0,hx⟩:=h4 i B hB
      obtain ⟨k1,k2,k3⟩:=h.bx i b B0 hb hB0
      refine ⟨k1,k2,?_⟩
      cases B with
      | dead => trivial
      | cells cs own =>
        cases B0 <;> simp only [qkY] at hx
        obtain ⟨rfl,hcl,_⟩:=hx
        obtain ⟨c,t,e1,e2,e3⟩:=k3
        exact ⟨c,t,e1,e2,fun j p v hp hv => (e3 j p v hp hv).restrict (qjB hcl hp) hres⟩
      | map es =>
        cases B0 <;> simp only [qkY] at hx
        obtain ⟨rfl,hcl⟩:=hx
        obtain ⟨c,t,e1,e2,e3⟩:=k3
        refine ⟨c,t,e1,e2,fun j k u x hp hv => ?_⟩
        obtain ⟨q1,q2⟩:=hcl _ (List.mem_of_getElem? hp)
        exact ⟨(e3 j k u x hp hv).1.restrict q1 hres,(e3 j k u x hp hv).2.restrict q2 hres⟩
    inj:=fun i j b hi hj => h.inj i j b (hget hi).2 (hget hj).2
    bn:=fun i b hb => h.bn i b (hget hb).2
    on:=fun b L hL => by
      unfold qsI at hL
      cases hb:ow b with
      | none => rw [hb] at hL; cases hL
      | some L' => exact h.on b L' hb
    ot:=fun t k e he => by
      simp only [List.mem_map,Prod.mk.injEq] at he
      obtain ⟨⟨k',e'⟩,hm,⟨rfl,rfl⟩,rfl⟩:=he
      obtain ⟨h1,h2⟩:=hro _ hm
      obtain ⟨u,v',e1,e2,e3,e4⟩:=h.ot _ _ _ h1
      refine ⟨v,v',rfl,h2 u v' e1 e2,e3,fun b hb => ?_⟩
      have:=e4 b hb
      simp only [qsI,this]
      cases hf:ro.find? fun x => src x.1 == src k' with
      | none =>
        have:=List.find?_eq_none.1 hf _ hm
        simp at this
      | some x =>
        have hx:=List.mem_of_find?_eq_some hf
        have hx2:=List.find?_some hf
        simp only [beq_iff_eq] at hx2
        have:=hinj x hx _ hm hx2
        simp only at this
        simp [this]
    ob:=fun i j e cs own b hB hj hb => by
      obtain ⟨hlt,hb⟩:=hget hb
      obtain ⟨B0,hB0,hx⟩:=h4 i _ hB
      cases B0 <;> simp only [qkY] at hx
      obtain ⟨v',e1,e2,e3⟩:=h.ob i j e _ _ b hB0 (hx.2.2 _ hj) hb
      exact ⟨v',e1,e2,fun b' hb' => by simp [qsI,e3 b' hb']⟩
    gl:=fun g cs hg => (h.gl g cs hg).restrict (n:=0) (by simp only [PVal.cl]; exact h.gc g cs hg) (fun i b hi _ => absurd hi (Nat.not_lt_zero _))
    gc:=h.gc
    gx:=h.gx
    step:=h.step }
theorem SR.getD (h:SR P E Γ bs ow w a st) (t:Nat):VR Γ bs w (st.tmps.getD t .undef) (a.getD t undef):=by
  have:=h.opv [] (.tmp t)
  exact this
theorem qvX {p:PVal} {v:Value} (hv:VR Γ bs w p v) (hp:p.isSlice = true):qiM v 0 = some v:=by
  cases p <;> simp [PVal.isSlice] at hp
  cases hv <;> rfl
theorem qu3 (h:SR P E Γ bs ow w a st) {g:ResultVar→Sem Value} (h1:∀ t,g (.tmp t) = pure (a.getD t undef)) (h2:∀ x t,g (.cell x t) = do loadVar t (← asAddr (a.getD x undef))) :
    ∀ {rs:List ResultVar} {l:List PVal},retL P st rs = some l→∃ vs:List Value,(rs.mapM g).run P w = .ok vs w∧vs.length = rs.length∧l.length = rs.length∧(∀ (i:Nat) p v,l[i]? = some p→vs[i]? = some v→VR Γ bs w p v) ∧
      ∀ (i:Nat) t,rs[i]? = some (.tmp t)→vs[i]? = some (a.getD t undef)
  | [],l,hl => by
    cases hl
    exact ⟨[],by simp,rfl,rfl,by simp,by simp⟩
  | x :: rs,l,hl => by
    unfold retL at hl
    split at hl
    · rename_i p l' hp hl'
      cases hl
      obtain ⟨vs,k1,k2,k3,k4,k5⟩:=qu3 h h1 h2 hl'
      have hx:∃ v,(g x).run P w = .ok v w∧VR Γ bs w p v∧∀ t,x = .tmp t→v = a.getD t undef:=by
        cases x with
        | tmp t =>
          cases hp
          exact ⟨a.getD t undef,by rw [h1]; simp,h.getD t,fun t' e => by cases e; rfl⟩
        | cell t ty =>
          have hv:=h.getD t
          obtain ⟨v,e1,e2⟩:=qtC h hv hp
          refine ⟨v,?_,e2,fun t' e => by cases e⟩
          rw [h2]
          have hp':qj1 P ty (st.tmps.getD t .undef) st.boxes = some p:=hp
          generalize hvt:a.getD t undef = vt at hv e1
          generalize hpt:st.tmps.getD t .undef = pt at hv hp'
          unfold qj1 at hp'
          split at hp'
          · cases hv <;> simpa [Instr.loadAt,Instr.sureAddr,asAddr] using e1
          · cases hv; simpa [Instr.loadAt,Instr.sureAddr,asAddr] using e1
          · cases hp'
      obtain ⟨v,e1,e2,e3⟩:=hx
      refine ⟨v :: vs,by simp [List.mapM_cons,e1,k1],by simp [k2],by simp [k3],fun i q u hq hu => ?_,fun i t ht => ?_⟩
      · cases i with
        | zero => simp at hq hu; subst hq; subst hu; exact e2
        | succ i => exact k4 i q u (by simpa using hq) (by simpa using hu)
      · cases i with
        | zero => simp at ht; simp [e3 t ht]
        | succ i => simpa using k5 i t (by simpa using ht)
    · cases hl
theorem qky (h:SR P E Γ bs ow w a st) {fn:Func} {r:PVal} (hr:retV P st fn.results.toList = some r) :
    ∃ v,(results fn a).run P w = .ok v w∧VR Γ bs w r v∧∀ k u v',qjI st fn.results.toList k→a[(qcF fn.results.toList k).1]? = some u→qiM u (qcF fn.results.toList k).2 = some v'→qiM v k = some v':=by
  have hres:fn.results = fn.results.toList.toArray:=by simp
  generalize fn.results.toList = rs at hr hres
  have hsl:∀ (t:Nat) u v',(st.tmps.getD t .undef).isSlice = true→a[t]? = some u→qiM u 0 = some v'→a.getD t undef = v':=by
    intro t u v' hp hu hv'
    have h1:=h.getD t
    have h2:a.getD t undef = u:=by rw [Array.getD_eq_getD_getElem?,hu]; rfl
    rw [h2] at h1 ⊢
    rw [qvX h1 hp] at hv'
    exact (Option.some.injEq _ _).mp hv'
  obtain ⟨g,hg,h1,h2⟩:∃ g:ResultVar→Sem Value,results fn a = (do let vs ← fn.results.mapM g; pure (if h:vs.size = 1 then vs[0] else .tuple vs))∧(∀ t,g (.tmp t) = pure (a.getD t undef))∧(∀ x t,g (.cell x t) = do loadVar t (← asAddr (a.getD x undef))) :=
    ⟨_,rfl,fun _ => rfl,fun _ _ => rfl⟩
  rw [hg,hres,List.mapM_toArray]
  have many:∀ (l:List PVal),retL P st rs = some l→rs.length ≠ 1→r = .tuple l→(∀ k,qjI st rs k→∃ t,rs[k]? = some (.tmp t)∧qcF rs k = (t,0)∧(st.tmps.getD t .undef).isSlice = true) →
      ∃ v,(do let vs ← (Functor.map List.toArray (rs.mapM g)); pure (if h:vs.size = 1 then vs[0] else Value.tuple vs):Sem Value).run P w = .ok v w∧VR Γ bs w r v ∧
        ∀ k u v',qjI st rs k→a[(qcF rs k).1]? = some u→qiM u (qcF rs k).2 = some v'→qiM v k = some v':=by
    intro l hl hn hr hp
    obtain ⟨vs,k1,k2,k3,k4,k5⟩:=qu3 h h1 h2 hl
    refine ⟨.tuple vs.toArray,by simp [k1,k2,hn],?_,fun k u v' hk hu hv' => ?_⟩
    · subst hr
      exact .tuple _ _ (by simp [k2,k3]) fun i p v hp hv => k4 i p v hp (by simpa using hv)
    · obtain ⟨t,e1,e2,e3⟩:=hp k hk
      rw [e2] at hu hv'
      have:=k5 k t e1
      show vs.toArray[k]? = some v'
      rw [List.getElem?_toArray,this,hsl t u v' e3 hu hv']
  rcases rs with _ | ⟨x,_ | ⟨y,rs⟩⟩
  · cases hr
    exact many [] rfl (by simp) rfl (fun k hk => by simp [qjI] at hk)
  · have hl:retL P st [x] = some [r]:=by
      have hr':qCo P st x = some r:=hr
      simp [retL,hr']
    obtain ⟨vs,k1,k2,k3,k4,k5⟩:=qu3 h h1 h2 hl
    match vs,k2 with
    | [v],_ =>
      refine ⟨v,by simp [-List.mapM_cons,k1],k4 0 r v rfl rfl,fun k u v' hk hu hv' => ?_⟩
      cases x with
      | tmp t =>
        have:=k5 0 t rfl
        simp at this
        simp only [qcF] at hu hv'
        rw [this,hu]
        exact hv'
      | cell t ty => exact hk.elim
  · have hr':(retL P st (x :: y :: rs)).map PVal.tuple = some r:=hr
    rw [Option.map_eq_some_iff] at hr'
    obtain ⟨l,hl,e⟩:=hr'
    refine many l hl (by simp) e.symm fun k hk => ?_
    simp only [qjI] at hk
    split at hk
    · rename_i t ht
      exact ⟨t,ht,by simp only [qcF,ht],hk⟩
    · exact hk.elim
end
theorem C.intro {P:Program} {GE:List (Nat×List PVal)} {f:FuncId} {fn:Func} {c:Code} {args:List PVal} {oa:List ((Nat×Nat)×TypeId)} {H:List PBox} {r:PVal} {ro:List (Nat×TypeId)} {H':List PBox}
    (A:List Nat) (hcall:∀ vs w,(callFunc f vs).run P w = .ok (.enter f vs) w) (hfn:P.funcs[f]? = some fn) (hb:fn.body = some c) (hm:P.follows .mixedOrders = true) (hH:H'.length = H.length)
    (hp:pw P GE A H.length c (retP P fn.results.toList r ro H') ⟨args ++ List.replicate (fn.ntmps - args.length) .undef,H,oa⟩):C P GE f args oa H r ro H':=by
  refine ⟨hcall,fun Γ bs ow w vs h => calls_of_wp hfn hb ?_⟩
  have hbl:bs.length = H.length:=h.bl
  have h0:SR P ⟨GE,Γ,w,qbi bs ow⟩ Γ bs ow w (vs ++ Array.replicate (fn.ntmps - vs.size) undef) ⟨args ++ List.replicate (fn.ntmps - args.length) .undef,H,oa⟩:=by
    have hsz:vs.size = args.length:=h.sz
    exact { h with
      sz:=by simp [hsz]
      tm:=fun t p v hp hv => by
        simp only at hp
        by_cases ht:t < args.length
        · rw [List.getElem?_append_left ht] at hp
          rw [Array.getElem?_append_left (by omega)] at hv
          exact h.tm t p v hp hv
        · rw [List.getElem?_append_right (by omega),List.getElem?_replicate] at hp
          split at hp <;> cases hp
          exact .undef v
      ot:=fun t k e he => by
        obtain ⟨u,v,h1,h2⟩:=h.ot t k e he
        exact ⟨u,v,by rw [Array.getElem?_append_left (Array.getElem?_eq_some_iff.1 h1).1]; exact h1,h2⟩ }
  have hwp:=qma (E:=⟨GE,Γ,w,qbi bs ow⟩) (bs0:=bs) hm (A:=A) c _ _ ⟨vs ++ Array.replicate (fn.ntmps - vs.size) undef,[]⟩ w (by rw [hbl]; exact hp) ⟨Γ,bs,ow,h0,fun i _ => rfl⟩
  refine wp_mono hwp fun e a w' hq => ?_
  obtain ⟨hd,st,⟨Γ1,bs1,ow1,hS,hk⟩,hQ⟩:=hq
  have key:(retV P st fn.results.toList = some r∧r.cl H'.length∧qbZ H'.length st.boxes H'∧(∀ x ∈ ro,(qcF fn.results.toList x.1,x.2) ∈ st.own∧qjI st fn.results.toList x.1) ∧
      (∀ x ∈ ro,∀ y ∈ ro,qcF fn.results.toList x.1 = qcF fn.results.toList y.1→x.1 = y.1)) →
      a.defers = []∧∃ v,(results fn a.tmps).run P w' = .ok v w'∧∃ v' Γ' ow',Ending.returned v = .returned v'∧SR P ⟨GE,Γ,w,qbi bs ow⟩ Γ' bs ow' w' #[v'] ⟨[r],H',ro.map fun x => ((0,x.1),x.2)⟩:=by
    rintro ⟨k1,k2,k3,k4,k5⟩
    obtain ⟨v,e1,e2,e3⟩:=qky hS k1
    refine ⟨hd,v,e1,v,Γ1,qsI (qcF fn.results.toList) ro ow1,rfl,?_⟩
    have hf:=hS.finish (H':=H') (src:=qcF fn.results.toList) (ro:=ro) e2 k2 k3 (fun x hx => ⟨(k4 x hx).1,fun u v' => e3 x.1 u v' (k4 x hx).2⟩) k5
    have:bs1.take H'.length = bs:=by
      obtain ⟨hl,_⟩:=qfB k3
      have hl1:H'.length ≤ bs1.length:=by rw [hS.bl]; exact hl
      refine List.ext_getElem? fun i => ?_
      by_cases hi:i < H'.length
      · rw [List.getElem?_take_of_lt hi]; exact hk i (by omega)
      · rw [List.getElem?_take_eq_none (by omega),List.getElem?_eq_none (by omega)]
    rw [this] at hf
    exact hf
  cases e with
  | normal => exact key hQ
  | ret => exact key hQ
  | exit id => exact hQ.elim
  | goto l => exact hQ.elim
  | panic c => exact hQ.elim
  | outgrown => exact hQ.elim
end Go.Proofs.YtgldgpdhblndkaaGreatDoor
namespace Go.Proofs.YtgldgpdhblndkaaGreatDoor
open Go
def goF (K:PSt→Prop) (st:PSt) (dst:Option Tmp) (p:PVal) (H:List PBox):Prop:=K (putv st dst p [] H)
inductive GRes where
  | no
  | other
  | is (t:Nat) (b:Bool)
def gres (t:Nat):PVal→GRes
  | .bool b => .is t b
  | .undef => .no
  | .val (.bool _) => .no
  | _ => .other
def qq8 (ops:Array Oper) (tmps:List PVal) (j:Nat):GRes :=
  match (ops[j]?).bind (·.dst) with
  | none => .other
  | some t => match tmps[t]? with
    | none => .other
    | some p => gres t p
def qwL (g:GRes) (want:Bool) (yes no:PSt→Prop) (st:PSt):Prop :=
  match g with
  | .no => False
  | .other => no st
  | .is t b => (b = want→yes { st with tmps:=st.tmps.set t (.bool want) })∧(b = !want→no { st with tmps:=st.tmps.set t (.bool !want) })
def qBG (dst:Option Tmp) (K:PSt→Prop) (st:PSt):Prop:=K (putv st dst (.val undef) [] st.boxes)
section
variable (P:Program) (GE:List (Nat×List PVal)) (A:List Nat) (ops:Array Oper)
def runT (K:PSt→Prop):List Oper→Nat→PSt→Prop
  | [],_,st => K st
  | o :: rest,id,st => match o.guard with
    | none => qrm P GE A o id (runT K rest (id + if qai o.op then 1 else 0)) st
    | some (j,want) => qwL (qq8 ops st.tmps j) want (qrm P GE A o id (runT K rest (id + if qai o.op then 1 else 0)))
        (qBG o.dst (runT K rest (id + if qai o.op then 1 else 0))) st
def qCU (o:Oper) (id:Nat) (K:PSt→Prop) (st:PSt):Prop:=fdo P GE o.op id (opv GE st.tmps) st.boxes (goF K st o.dst)
def runF (K:PSt→Prop):List Oper→Nat→PSt→Prop
  | [],_,st => K st
  | o :: rest,id,st => match o.guard with
    | none => qCU P GE o id (runF K rest (id + if qai o.op then 1 else 0)) st
    | some (j,want) => qwL (qq8 ops st.tmps j) want (qCU P GE o id (runF K rest (id + if qai o.op then 1 else 0)))
        (qBG o.dst (runF K rest (id + if qai o.op then 1 else 0))) st
theorem qwu {tmps:List PVal} {j:Nat}:match qq8 ops tmps j with
    | .no => True
    | .other => qgA ops tmps j = some none
    | .is t b => qgA ops tmps j = some (some b)∧tmps[t]? = some (.bool b):=by
  unfold qq8 qgA
  cases hd:(ops[j]?).bind (·.dst) with
  | none => simp
  | some t =>
    simp only
    cases ht:tmps[t]? with
    | none => simp
    | some p =>
      cases p <;> simp [gres,ht]
      rename_i v
      cases v <;> simp
theorem qt9 {st:PSt} {j:Nat} {want:Bool} {yes no:PSt→Prop} (h:qwL (qq8 ops st.tmps j) want yes no st) :
    ∃ x,qgA ops st.tmps j = some x∧(x = some want→yes st)∧(x ≠ some want→no st):=by
  have hs:=qwu ops (tmps:=st.tmps) (j:=j)
  cases hg:qq8 ops st.tmps j with
  | no => rw [hg] at h; exact h.elim
  | other => rw [hg] at h hs; exact ⟨none,hs,by simp,fun _ => h⟩
  | is t b =>
    rw [hg] at h hs
    obtain ⟨h1,h2⟩:=hs
    obtain ⟨k1,k2⟩:=h
    refine ⟨some b,h1,fun hb => ?_,fun hb => ?_⟩
    · have hb:b = want:=by simpa using hb
      have:=k1 hb
      rw [← hb,qkB h2] at this
      exact this
    · have hb:b = !want:=by cases b <;> cases want <;> simp_all
      have:=k2 hb
      rw [← hb,qkB h2] at this
      exact this
end
section
variable {P:Program} {GE:List (Nat×List PVal)} {A:List Nat} {ops:Array Oper}
theorem qAS {op:Op} {id:Nat} {v:Operand→PVal} {H:List PBox} {K K':PVal→List (Nat×TypeId)→List PBox→Prop} (h:pdo P GE op id v H K) (hk:∀ p ro H,K p ro H→K' p ro H):pdo P GE op id v H K':=by
  unfold pdo at *
  split at h
  · unfold qo3 at *
    split at h
    · rcases h with ⟨h1,r,ro,h2,h3⟩ | ⟨ρ,argsC,Hc,rc,ro,Hc',H',r,k1,k2,k3,k4,k5,k6,k7,k8,k9,h3⟩
      · exact .inl ⟨h1,r,ro,h2,hk _ _ _ h3⟩
      · exact .inr ⟨ρ,argsC,Hc,rc,ro,Hc',H',r,k1,k2,k3,k4,k5,k6,k7,k8,k9,hk _ _ _ h3⟩
    · exact h.elim
  · split at h
    · exact hk _ _ _ h
    · exact h.elim
theorem qh2 {o:Oper} {id:Nat} {K K':PSt→Prop} {st:PSt} (hk:∀ st,K st→K' st) (h:qjy o st.tmps.length = true∧pdo P GE o.op id (opv GE st.tmps) st.boxes fun p ro H => K (putv st o.dst p ro H)) :
    qjy o st.tmps.length = true∧pdo P GE o.op id (opv GE st.tmps) st.boxes fun p ro H => K' (putv st o.dst p ro H):=⟨h.1,qAS h.2 fun _ _ _ h => hk _ h⟩
theorem qla {o:Oper} {id:Nat} {K K':PSt→Prop} {st:PSt} (hk:∀ st,K st→K' st) (h:qrm P GE A o id K st):qrm P GE A o id K' st:=by
  unfold qrm at *
  split at h
  case h_1 => exact ⟨h.1,hk _ h.2⟩
  case h_2 =>
    split at h
    · rename_i hA; simp only [if_pos hA]; exact ⟨h.1,hk _ h.2⟩
    · rename_i hA; simp only [if_neg hA]; exact qh2 hk h
  case h_3 =>
    split at h
    · exact ⟨h.1,hk _ h.2⟩
    · exact qh2 hk h
  case h_4 =>
    split at h
    · exact ⟨h.1,hk _ h.2⟩
    · exact qh2 hk h
  case h_5 =>
    split at h
    · exact ⟨h.1,hk _ h.2⟩
    · exact h.elim
  case h_6 =>
    split at h
    · exact ⟨h.1,hk _ h.2⟩
    · exact h.elim
  case h_7 =>
    split at h
    · split at h
      · exact ⟨h.1,h.2.1,h.2.2.1,hk _ h.2.2.2⟩
      · exact h.elim
    · exact h.elim
  case h_8 =>
    split at h
    · rename_i hA
      simp only [if_pos hA]
      split at h
      · split at h
        · split at h
          · exact ⟨h.1,h.2.1,hk _ h.2.2⟩
          · exact h.elim
        · exact h.elim
      · exact h.elim
    · rename_i hA; simp only [if_neg hA]; exact qh2 hk h
  case h_9 =>
    split at h
    · split at h
      · exact hk _ h
      · exact qh2 hk h
    · exact qh2 hk h
  case h_10 => exact qh2 hk h
theorem quY {K:PSt→Prop}:∀ (rest:List Oper) (id:Nat) (st:PSt),runT P GE A ops K rest id st→qg9 P GE A ops K rest id st
  | [],_,_,h => h
  | o :: rest,id,st,h => by
    unfold runT at h
    unfold qg9
    split at h
    · rename_i hg
      simp only [hg]
      exact qla (fun st => quY rest _ st) h
    · rename_i hg
      obtain ⟨x,hx,h1,h2⟩:=qt9 ops h
      simp only [hg,hx]
      exact ⟨fun hw => qla (fun st => quY rest _ st) (h1 hw),fun hw => quY rest _ _ (h2 hw)⟩
theorem quL {K:PSt→Prop}:∀ (rest:List Oper) (id:Nat) (st:PSt),runF P GE ops K rest id st→qiY P GE ops K rest id st
  | [],_,_,h => h
  | o :: rest,id,st,h => by
    unfold runF at h
    unfold qiY
    split at h
    · rename_i hg
      simp only [hg]
      exact qn5 h fun p H hq => quL rest _ _ hq
    · rename_i hg
      obtain ⟨x,hx,h1,h2⟩:=qt9 ops h
      simp only [hg,hx]
      exact ⟨fun hw => qn5 (h1 hw) fun p H hq => quL rest _ _ hq,fun hw => quL rest _ _ (h2 hw)⟩
def qC3 {α:Type} (m:Nat) (S:α→PSt) (I:α→Prop) (μ:α→Nat) (x:α) (Q:Exit→PSt→Prop):Exit→PSt→Prop
  | .normal,st => ∃ y,I y∧μ y < μ x∧Less st (S y)∧m ≤ (S y).boxes.length
  | e,st => Q e st
def runW (P:Program) (GE:List (Nat×List PVal)) (A:List Nat) (m:Nat):Code→(Exit→PSt→Prop)→PSt→Prop
  | .skip,Q,st => Q .normal st
  | .label _,Q,st => Q .normal st
  | .region _ ops draw,Q,st => match draw with
    | false => runT P GE A ops (Q .normal) ops.toList st.boxes.length { st with boxes:=st.boxes ++ qb3 P ops.toList }
    | true => qxJ P ops st.tmps.length = true∧runF P GE ops (Q .normal) ops.toList st.boxes.length { st with boxes:=st.boxes ++ qb3 P ops.toList,own:=st.own.filter fun x => ops.toList.all fun o => o.dst != some x.1.1 }
  | .seq a b,Q,st => runW P GE A m a (qCN (runW P GE A m b Q) Q) st
  | .cond c a b,Q,st => match opv GE st.tmps c with
    | .bool t => (t = true→runW P GE A m a Q st)∧(t = false→runW P GE A m b Q st)
    | _ => False
  | .block id c,Q,st => runW P GE A m c (qtb id Q) st
  | .loop c,Q,st => ∃ (α:Type) (S:α→PSt) (I:α→Prop) (μ:α→Nat) (x0:α),I x0∧Less st (S x0)∧m ≤ (S x0).boxes.length∧∀ x,I x→runW P GE A m c (qC3 m S I μ x Q) (S x)
  | .exit id,Q,st => Q (.exit id) st
  | .ret,Q,st => Q .ret st
  | _,_,_ => False
theorem qkx {K K':PSt→Prop} (hk:∀ st,K st→K' st):∀ (rest:List Oper) (id:Nat) (st:PSt),qg9 P GE A ops K rest id st→qg9 P GE A ops K' rest id st
  | [],_,_,h => hk _ h
  | o :: rest,id,st,h => by
    unfold qg9 at *
    split at h
    · exact qla (fun st => qkx hk rest _ st) h
    · split at h
      · exact ⟨fun hw => qla (fun st => qkx hk rest _ st) (h.1 hw),fun hw => qkx hk rest _ _ (h.2 hw)⟩
      · exact h.elim
theorem qko {K K':PSt→Prop} (hk:∀ st,K st→K' st):∀ (rest:List Oper) (id:Nat) (st:PSt),qiY P GE ops K rest id st→qiY P GE ops K' rest id st
  | [],_,_,h => hk _ h
  | o :: rest,id,st,h => by
    unfold qiY at *
    split at h
    · exact qn5 h fun p H hq => qko hk rest _ _ hq
    · split at h
      · exact ⟨fun hw => qn5 (h.1 hw) fun p H hq => qko hk rest _ _ hq,fun hw => qko hk rest _ _ (h.2 hw)⟩
      · exact h.elim
theorem qnb {m:Nat}:∀ (c:Code) {Q Q':Exit→PSt→Prop} {st:PSt},(∀ e st,Q e st→Q' e st)→pw P GE A m c Q st→pw P GE A m c Q' st
  | .skip,_,_,_,hq,h => hq _ _ h
  | .label _,_,_,_,hq,h => hq _ _ h
  | .region _ ops draw,_,_,_,hq,h => by
    cases draw with
    | false => exact qkx (fun st => hq _ st) _ _ _ h
    | true => exact ⟨h.1,qko (fun st => hq _ st) _ _ _ h.2⟩
  | .seq a b,_,_,_,hq,h => qnb a (fun e st h => by
      cases e with
      | normal => exact qnb b hq h
      | exit id => exact hq _ _ h
      | goto l => exact hq _ _ h
      | ret => exact hq _ _ h
      | panic c => exact hq _ _ h
      | outgrown => exact hq _ _ h) h
  | .cond c a b,_,_,_,hq,h => by
    simp only [pw] at *
    split at h
    · exact ⟨fun ht => qnb a hq (h.1 ht),fun ht => qnb b hq (h.2 ht)⟩
    · exact h.elim
  | .block id c,_,_,_,hq,h => qnb c (fun e st h => by
      cases e with
      | exit id' =>
        simp only [qtb] at *
        split at h
        · rename_i hid; rw [if_pos hid]; exact hq _ _ h
        · rename_i hid; rw [if_neg hid]; exact hq _ _ h
      | normal => exact hq _ _ h
      | goto l => exact hq _ _ h
      | ret => exact hq _ _ h
      | panic c => exact hq _ _ h
      | outgrown => exact hq _ _ h) h
  | .loop c,Q,Q',_,hq,h => by
    obtain ⟨st0,n,h1,h2,h3⟩:=h
    refine ⟨st0,n,h1,h2,?_⟩
    clear h1 h2
    induction n generalizing st0 with
    | zero => exact h3
    | succ n ih =>
      refine qnb c (fun e st' hs => ?_) h3
      cases e with
      | normal =>
        obtain ⟨st'',k1,k2,k3⟩:=hs
        exact ⟨st'',k1,k2,ih _ k3⟩
      | exit id => exact hq _ _ hs
      | goto l => exact hq _ _ hs
      | ret => exact hq _ _ hs
      | panic c => exact hq _ _ hs
      | outgrown => exact hq _ _ hs
  | .exit _,_,_,_,hq,h => hq _ _ h
  | .ret,_,_,_,hq,h => hq _ _ h
  | .rangeFunc ..,_,_,_,_,h => by simp [pw] at h
  | .scope _,_,_,_,_,h => by simp [pw] at h
  | .goto _,_,_,_,_,h => by simp [pw] at h
  | .refuse _,_,_,_,_,h => by simp [pw] at h
theorem qpD {m:Nat}:∀ (c:Code) {Q:Exit→PSt→Prop} {st:PSt},runW P GE A m c Q st→pw P GE A m c Q st
  | .skip,_,_,h => h
  | .label _,_,_,h => h
  | .region _ ops draw,_,_,h => by
    cases draw with
    | false => exact quY _ _ _ h
    | true => exact ⟨h.1,quL _ _ _ h.2⟩
  | .seq a b,_,_,h => qnb a (fun e st h => by
      cases e with
      | normal => exact qpD b h
      | exit id => exact h
      | goto l => exact h
      | ret => exact h
      | panic c => exact h
      | outgrown => exact h) (qpD a h)
  | .cond c a b,_,_,h => by
    simp only [pw,runW] at *
    split at h
    · rename_i t hc
      simp only [hc]
      exact ⟨fun ht => qpD a (h.1 ht),fun ht => qpD b (h.2 ht)⟩
    · exact h.elim
  | .block id c,_,_,h => qpD c h
  | .loop c,Q,st,h => by
    obtain ⟨α,S,I,μ,x0,h0,h1,h2,h3⟩:=h
    refine ⟨S x0,μ x0 + 1,h1,h2,?_⟩
    have key:∀ (n:Nat) (x:α),I x→μ x < n→qBf n (pw P GE A m c) m Q (S x):=by
      intro n
      induction n with
      | zero => intro x _ hx; omega
      | succ n ih =>
        intro x hx hn
        refine qnb c (fun e st' hs => ?_) (qpD c (h3 x hx))
        cases e with
        | normal =>
          obtain ⟨y,k1,k2,k3,k4⟩:=hs
          exact ⟨S y,k3,k4,ih y k1 (by omega)⟩
        | exit id => exact hs
        | goto l => exact hs
        | ret => exact hs
        | panic c => exact hs
        | outgrown => exact hs
    exact key _ x0 h0 (Nat.lt_succ_self _)
  | .exit _,_,_,h => h
  | .ret,_,_,h => h
  | .rangeFunc ..,_,_,h => by simp [runW] at h
  | .scope _,_,_,h => by simp [runW] at h
  | .goto _,_,_,h => by simp [runW] at h
  | .refuse _,_,_,h => by simp [runW] at h
theorem qCX {n:Int} (h1 : -9223372036854775808 ≤ n) (h2:n < 9223372036854775808):IntKind.i64.wrap n = n:=by
  simp [IntKind.wrap,IntKind.bits,IntKind.signed]; omega
theorem C.run {f:FuncId} {fn:Func} {c:Code} {args:List PVal} {oa:List ((Nat×Nat)×TypeId)} {H:List PBox} {r:PVal} {ro:List (Nat×TypeId)} {H':List PBox}
    (A:List Nat) (hcall:∀ vs w,(callFunc f vs).run P w = .ok (.enter f vs) w) (hfn:P.funcs[f]? = some fn) (hb:fn.body = some c) (hm:P.follows .mixedOrders = true) (hH:H'.length = H.length)
    (hp:runW P GE A H.length c (retP P fn.results.toList r ro H') ⟨args ++ List.replicate (fn.ntmps - args.length) .undef,H,oa⟩):C P GE f args oa H r ro H' :=
  C.intro A hcall hfn hb hm hH (qpD c hp)
end
end Go.Proofs.YtgldgpdhblndkaaGreatDoor
