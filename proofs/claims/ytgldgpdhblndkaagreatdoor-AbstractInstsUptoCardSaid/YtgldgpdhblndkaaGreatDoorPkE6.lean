/- WHAT IS PROVED: parts of the proof, put together by a program (AbsM AbsN AbsO). Conditions: none. -/
import Derived.Test.YtgldgpdhblndkaaGreatDoorPkE5
noncomputable section
namespace Go.Proofs.YtgldgpdhblndkaaGreatDoor
open Go
section
variable {P:Program} {E:Ent} {Γ:qaP} {bs:qbj} {ow:Nat→Option Loc} {w:World} {a:Array Value} {st:PSt}
def qgr (d:Nat) (f:Nat×Nat→Nat×Nat) (own:List ((Nat×Nat)×TypeId)):List ((Nat×Nat)×TypeId):=(qbB d own).map fun x => (f x.1,x.2)
def qDS (d:Nat) (f:Nat×Nat→Nat×Nat) (ow:Nat→Option Loc):Nat→Option Loc:=fun b =>
 match ow b with
 | some (.tmp t k) => if t = d then none else some (.tmp (f (t,k)).1 (f (t,k)).2)
 | x => x
theorem SR.setRen (h:SR P E Γ bs ow w a st) {d:Nat} {p:PVal} {v:Value} (hv:VR Γ bs w p v) (f:Nat×Nat→Nat×Nat) (hd:d < a.size)
  (hf:∀ t k e,((t,k),e) ∈ st.own→t ≠ d→f (t,k) = (t,k)∨∃ k',f (t,k) = (d,k')∧∀ u v',a[t]? = some u→qji u k = some v'→qhY P Γ w v' e→qji v k' = some v') :
  SR P E Γ bs (qDS d f ow) w (a.setIfInBounds d v) { st with tmps:=st.tmps.set d p,own:=qgr d f st.own }:=by
 have hs:=h.set (d:=d) (p:=p) hv
 exact { hs with
  on:=fun b L hL => by
   unfold qDS at hL
   split at hL
   ·rename_i t k hb
    exact h.on b _ hb
   ·exact h.on b L hL
  ot:=fun t' k' e he => by
   simp only [qgr,List.mem_map] at he
   obtain ⟨⟨⟨t,k⟩,e0⟩,hx,he⟩:=he
   simp only [Prod.mk.injEq] at he
   obtain ⟨he,rfl⟩:=he
   obtain ⟨hx,htd⟩:=qcG hx
   obtain ⟨u,v',h1,h2,h3,h4⟩:=h.ot t k e0 hx
   have how:∀ b,v'.ownBlock = some b→qDS d f ow b = some (.tmp t' k'):=fun b hb => by
    have:=h4 b hb
    simp only [qDS,this]
    rw [if_neg htd,he]
   rcases hf t k e0 hx htd with hk | ⟨k2,hk,hp⟩
   ·rw [hk] at he; cases he
    exact ⟨u,v',by rw [Array.getElem?_setIfInBounds_ne (fun e => htd e.symm)]; exact h1,h2,h3,how⟩
   ·rw [hk] at he; cases he
    exact ⟨v,v',by simp [hd],hp u v' h1 h2 h3,h3,how⟩
  ob:=fun i j e cs own b hB hj hb => by
   obtain ⟨v',h1,h3,h4⟩:=h.ob i j e cs own b hB hj hb
   exact ⟨v',h1,h3,fun b' hb' => by have:=h4 b' hb'; simp only [qDS,this]⟩ }
theorem SR.freeB (h:SR P E Γ bs ow w a st) {i j:Nat} {cs:List PVal} {own:List (Nat×TypeId)} (hB:st.boxes[i]? = some (.cells cs own)) :
  SR P E Γ bs (fun b => if ow b = some (.box i j) then none else ow b) w a { st with boxes:=st.boxes.set i (.cells cs (own.filter fun x => x.1 != j)) }:=by
 have hilt:i < bs.length:=by rw [h.bl]; exact qae hB
 cases hb:bs[i]'hilt with
 | none =>
  have hi:bs[i]? = some none:=by rw [List.getElem?_eq_getElem hilt,hb]
  have hbox:∀ {k:Nat} {B:PBox},k ≠ i→(st.boxes.set i (.cells cs (own.filter fun x => x.1 != j)))[k]? = some B→st.boxes[k]? = some B:=by
   intro k B hk hB'
   rwa [List.getElem?_set_ne (fun e => hk e.symm)] at hB'
  have hne:∀ {k b:Nat},bs[k]? = some (some b)→k ≠ i:=fun hk e => by subst e; rw [hi] at hk; cases hk
  exact { h with
   bl:=by simp [h.bl]
   bx:=fun k b B hk hB' => h.bx k b B hk (hbox (hne hk) hB')
   on:=fun b L hL => by
    split at hL
    ·cases hL
    ·exact h.on b L hL
   ot:=fun t k e he => by
    obtain ⟨u,v,h1,h2,h3,h4⟩:=h.ot t k e he
    exact ⟨u,v,h1,h2,h3,fun b hb' => by rw [if_neg (by rw [h4 b hb']; intro hx; cases hx)]; exact h4 b hb'⟩
   ob:=fun k q e cs' own' b hB' hj hk => by
    obtain ⟨v,h1,h3,h4⟩:=h.ob k q e cs' own' b (hbox (hne hk) hB') hj hk
    exact ⟨v,h1,h3,fun b' hb' => by rw [if_neg (by rw [h4 b' hb']; intro hx; cases hx; exact hne hk rfl)]; exact h4 b' hb'⟩ }
 | some b =>
  have hi:bs[i]? = some (some b):=by rw [List.getElem?_eq_getElem hilt,hb]
  refine h.box_write hi rfl rfl rfl rfl (fun _ _ => rfl) ?_ (fun b' L hL hne => ?_) (fun b' L hL => ?_) (fun cs' own' he q e hq => ?_)
  ·obtain ⟨_,_,c,t,h1,h2,h3⟩:=h.bx i b _ hi hB
   exact ⟨c,t,h1,h2,h3⟩
  ·rw [if_neg (by rw [hL]; intro hx; cases hx; exact hne j rfl)]; exact hL
  ·split at hL
   ·cases hL
   ·exact h.on b' L hL
  ·cases he
   obtain ⟨hq,hqj⟩:=qa7 hq
   obtain ⟨v,h1,h3,h4⟩:=h.ob i q e cs own b hB hq hi
   refine ⟨v,h1,h3,fun b' hb' => ?_⟩
   rw [if_neg (by rw [h4 b' hb']; intro hx; cases hx; simp at hqj)]
   exact h4 b' hb'
theorem SR.addOwnB (h:SR P E Γ bs ow w a st) {i b j:Nat} {e:TypeId} {v:Value} {cs:List PVal} {own:List (Nat×TypeId)} (hi:bs[i]? = some (some b)) (hB:st.boxes[i]? = some (.cells cs own))
  (hv:w.cell? ⟨b,j,none⟩ = some v) (ho:qhY P Γ w v e) (hf:∀ b',v.ownBlock = some b'→ow b' = none∧(E.T b'∨E.w.heap.size ≤ b')) :
  SR P E Γ bs (fun b' => if v.ownBlock = some b' then some (.box i j) else ow b') w a { st with boxes:=st.boxes.set i (.cells cs ((j,e) :: own)) }:=by
 refine h.box_write hi rfl rfl rfl rfl (fun _ _ => rfl) ?_ (fun b' L hL hne => ?_) (fun b' L hL => ?_) (fun cs' own' he q e' hq => ?_)
 ·obtain ⟨_,_,c,t,h1,h2,h3⟩:=h.bx i b _ hi hB
  exact ⟨c,t,h1,h2,h3⟩
 ·rw [if_neg (fun hx => by have:=(hf b' hx).1; rw [this] at hL; cases hL)]; exact hL
 ·by_cases hx:v.ownBlock = some b'
  ·exact ⟨ho.lt hx,(hf b' hx).2⟩
  ·rw [if_neg hx] at hL; exact h.on b' L hL
 ·cases he
  rcases List.mem_cons.1 hq with hq | hq
  ·cases hq
   exact ⟨v,hv,ho,fun b' hb' => by rw [if_pos hb']⟩
  ·obtain ⟨v',h1,h3,h4⟩:=h.ob i q e' cs own b hB hq hi
   refine ⟨v',h1,h3,fun b' hb' => ?_⟩
   rw [if_neg (fun hx => by have:=(hf b' hx).1; rw [h4 b' hb'] at this; cases this)]
   exact h4 b' hb'
theorem SR.moveOwn (h:SR P E Γ bs ow w a st) {i b t k off:Nat} {e:TypeId} {u v:Value} {cs:List PVal} {own:List (Nat×TypeId)} (hi:bs[i]? = some (some b)) (hB:st.boxes[i]? = some (.cells cs own))
  (hm:((t,k),e) ∈ st.own) (hu:a[t]? = some u) (hp:qji u k = some v) (hc:w.cell? ⟨b,off,none⟩ = some v) :
  ∃ ow',SR P E Γ bs ow' w a { st with own:=st.own.filter fun x => x.1 != (t,k),boxes:=st.boxes.set i (.cells cs ((off,e) :: own)) }:=by
 obtain ⟨u',v',h1,h2,h3,h4⟩:=h.ot t k e hm
 rw [hu] at h1
 cases h1
 rw [hp] at h2
 cases h2
 exact ⟨_,(h.freeT t k).addOwnB (i:=i) (b:=b) (j:=off) (e:=e) (v:=v) hi hB hc h3 (fun b' hb' => ⟨by simp [h4 b' hb'],(h.on b' _ (h4 b' hb')).2⟩)⟩
theorem SR.moveOwns {i b t off:Nat} {u:Value} {cs:List PVal} (hi:bs[i]? = some (some b)) (hu:a[t]? = some u):∀ (L:List (Nat×TypeId)) {ow:Nat→Option Loc} {st:PSt} {own:List (Nat×TypeId)},SR P E Γ bs ow w a st→st.boxes[i]? = some (.cells cs own) →
  (∀ x ∈ L,((t,x.1),x.2) ∈ st.own)→(L.map (·.1)).Nodup→(∀ x ∈ L,∃ v,qji u x.1 = some v∧w.cell? ⟨b,off + x.1,none⟩ = some v) →
  ∃ ow',SR P E Γ bs ow' w a ⟨st.tmps,st.boxes.set i (.cells cs ((L.map fun x => (off + x.1,x.2)).reverse ++ own)),st.own.filter fun x => !L.any fun y => x.1 == (t,y.1)⟩
 | [],ow,st,own,h,hB,_,_,_ => by
  refine ⟨ow,?_⟩
  have e1:st.boxes.set i (.cells cs ((([]:List (Nat×TypeId)).map fun x => (off + x.1,x.2)).reverse ++ own)) = st.boxes:=by
   apply List.ext_getElem?
   intro j
   by_cases hj:i = j
   ·subst hj
    rw [List.getElem?_set_self (qae hB),hB]
    rfl
   ·rw [List.getElem?_set_ne hj]
  have e2:(st.own.filter fun x => !([]:List (Nat×TypeId)).any fun y => x.1 == (t,y.1)) = st.own:=by
   apply List.filter_eq_self.2
   intro x _
   rfl
  rw [e1,e2]
  exact h
 | x :: L,ow,st,own,h,hB,hm,hn,hc => by
  rw [List.map_cons,List.nodup_cons] at hn
  obtain ⟨v,hv1,hv2⟩:=hc x (by simp)
  obtain ⟨ow1,h1⟩:=h.moveOwn hi hB (hm x (by simp)) hu hv1 hv2
  obtain ⟨ow2,h2⟩:=SR.moveOwns hi hu L h1 (List.getElem?_set_self (qae hB)) (fun y hy => by
   refine List.mem_filter.2 ⟨hm y (by simp [hy]),?_⟩
   simp only [bne_iff_ne,ne_eq,Prod.mk.injEq,true_and]
   exact fun e => hn.1 (List.mem_map.2 ⟨y,hy,e⟩)) hn.2 (fun y hy => hc y (by simp [hy]))
  refine ⟨ow2,?_⟩
  simp only [List.set_set,List.filter_filter] at h2
  have e1:((x :: L).map fun x => (off + x.1,x.2)).reverse ++ own = (L.map fun x => (off + x.1,x.2)).reverse ++ (off + x.1,x.2) :: own:=by simp
  have e2:(st.own.filter fun z => !(x :: L).any fun y => z.1 == (t,y.1)) = st.own.filter fun z => (!L.any fun y => z.1 == (t,y.1)) && (z.1 != (t,x.1)):=by
   congr 1
   funext z
   rw [List.any_cons]
   cases (L.any fun y => z.1 == (t,y.1)) <;> cases hz:(z.1 == (t,x.1)) <;> simp [bne,hz]
  rw [e1,e2]
  exact h2
end
def pev (P:Program) (op:Op) (id:Nat) (v:Operand→PVal) (H:List PBox):Option (PVal×List PBox) :=
 match op with
 | .move x => some (v x,H)
 | .assign x => some (v x,H)
 | .pick c x y => match v c with
  | .bool true => some (v x,H)
  | .bool false => some (v y,H)
  | _ => none
 | .alloc t => (qh0 P t).map fun zs => (.bptr id 0,H.set id (.cells zs (qEI P t)))
 | .box _ x => (qaJ (v x)).map fun cs => (.bptr id 0,H.set id (.cells cs []))
 | .makeMap _ none => some (.mapr id,H.set id (.map []))
 | .build t parts => (qbL P t (parts.toList.map fun x => (x.1,v x.2))).map fun p => (p,H)
 | .buildSlice t len parts => (qdp P t len (parts.toList.map fun x => (x.1,v x.2))).map fun p => (p,H)
 | .load t x => (qkH P t (v x) H).map fun p => (p,H)
 | .store t x y => (qc4 P t (v x) (v y) H).map fun H' => (.val undef,H')
 | .nilCheck x => match v x with
  | .eptr cs => some (.eptr cs,H)
  | .bptr i off => some (.bptr i off,H)
  | .func (.func f) first cap => some (.func (.func f) first cap,H)
  | _ => none
 | .binOp op T x y _ => (pbin P op T (v x) (v y)).map fun p => (p,H)
 | .unOp op _ x => (pun op (v x)).map fun p => (p,H)
 | .convert s d x => (qy5 P s d (v x)).map fun p => (p,H)
 | .makeFunc fn first cap => some (.func fn (first.toList.map v) (cap.toList.map v),H)
 | .slice t x lo hi none => (qtN P t (v x) (lo.map v) (hi.map v) none).map fun p => (p,H)
 | .fieldAddr s x f => (qaM P s (v x) f).map fun p => (p,H)
 | .field t x f => (qCz P t (v x) f).map fun p => (p,H)
 | .indexAddr t x i => (qeJ P t (v x) (v i)).map fun p => (p,H)
 | .index t x i => (qBK P t (v x) (v i)).map fun p => (p,H)
 | .lookup t m k ok => (qnW P t (v m) (v k) ok H).map fun p => (p,H)
 | .mapUpdate t m k x => (qdW P t (v m) (v k) (v x) H).map fun H' => (.val undef,H')
 | .extract t i => (qmo (v t) i).map fun p => (p,H)
 | .call { callee := .builtin .len,args:=⟨[x]⟩,argTypes:=⟨[t]⟩ } => (plen P t (v x) H).map fun p => (p,H)
 | .call { callee := .builtin .max,args:=⟨x :: r⟩,.. } => (qzP qGa (v x) (r.map v)).map fun p => (p,H)
 | .call { callee := .builtin .min,args:=⟨x :: r⟩,.. } => (qzP qF2 (v x) (r.map v)).map fun p => (p,H)
 | _ => none
def qak:Op→Bool
 | .alloc _ | .box .. | .makeMap .. => true
 | _ => false
section
variable {P:Program} {E:Ent} {Γ:qaP} {bs:qbj} {ow:Nat→Option Loc} {w:World} {a:Array Value} {st:PSt}
def qDF (P:Program) (E:Ent) (Γ:qaP) (bs:qbj) (ow:Nat→Option Loc) (w:World) (a:Array Value) (st:PSt) (id:Nat) (mk:Bool) (s:Sem Next) (p:PVal) (H:List PBox):Prop :=
 ∃ r v w' Γ' bs',s.run P w = .ok r w'∧(r = .value v∨(r = .skip∧v = undef))∧SR P E Γ' bs' ow w' a { st with boxes:=H }∧VR Γ' bs' w' p v ∧
  Γ.Le w Γ' w'∧(bs' = bs∨(mk = true∧bs' = bs.set id (some w.heap.size)))∧bs.Sub bs'
theorem qDF.quiet (h:SR P E Γ bs ow w a st) {id:Nat} {mk:Bool} {s:Sem Next} {p:PVal} (hs:∃ v,s.run P w = .ok (.value v) w∧VR Γ bs w p v):qDF P E Γ bs ow w a st id mk s p st.boxes:=by
 obtain ⟨v,h1,h2⟩:=hs
 exact ⟨_,v,w,Γ,bs,h1,.inl rfl,h,h2,.refl _ _,.inl rfl,.refl _⟩
theorem qcX {α β:Type} {f:α→β} {x:Option α} {y:β} (h:x.map f = some y):∃ z,x = some z∧f z = y:=by simpa using h
theorem qpc {ρ:Operand→Value} {v:Operand→PVal} (hρ:∀ x,VR Γ bs w (v x) (ρ x)) (parts:List (Nat×Operand)) :
  (parts.map fun x => (x.1,v x.2)).length = (parts.map fun x => (x.1,ρ x.2)).length ∧
  ∀ (j:Nat) p u,(parts.map fun x => (x.1,v x.2))[j]? = some p→(parts.map fun x => (x.1,ρ x.2))[j]? = some u→p.1 = u.1∧VR Γ bs w p.2 u.2:=by
 refine ⟨by simp,fun j p u hp hu => ?_⟩
 simp only [List.getElem?_map] at hp hu
 cases hx:parts[j]? with
 | none => simp [hx] at hp
 | some x =>
  simp only [hx,Option.map_some,Option.some.injEq] at hp hu
  subst hp; subst hu
  exact ⟨rfl,hρ _⟩
theorem qtf {ρ:Operand→Value} {v:Operand→PVal} (hρ:∀ x,VR Γ bs w (v x) (ρ x)) (l:List Operand) (j:Nat) (p:PVal) (u:Value) (hp:(l.map v)[j]? = some p) (hu:(l.map ρ)[j]? = some u):VR Γ bs w p u:=by
 simp only [List.getElem?_map] at hp hu
 cases hx:l[j]? with
 | none => simp [hx] at hp
 | some x =>
  simp only [hx,Option.map_some,Option.some.injEq] at hp hu
  subst hp; subst hu
  exact hρ _
theorem qEH (h:SR P E Γ bs ow w a st) (ds:List Deferred) {o:Oper} {id:Nat} {p:PVal} {H:List PBox} (hid:qak o.op = true→bs[id]? = some none)
  (hp:pev P o.op id (opv E.GE st.tmps) st.boxes = some (p,H)):qDF P E Γ bs ow w a st id (qak o.op) (execOp (Act.mk a ds).eval o) p H:=by
 have hρ:∀ x,VR Γ bs w (opv E.GE st.tmps x) ((Act.mk a ds).eval x):=fun x => h.opv ds x
 unfold pev at hp
 split at hp
 case h_1 x ho => cases hp; exact .quiet h ⟨_,by simp [execOp,ho],hρ x⟩
 case h_2 x ho => cases hp; exact .quiet h ⟨_,by simp [execOp,ho],hρ x⟩
 case h_3 c x y ho =>
  have hc:=hρ c
  split at hp
  ·rename_i hb; rw [hb] at hc; cases hp
   generalize hv:(Act.mk a ds).eval c = vc at hc
   cases hc
   exact .quiet h ⟨_,by simp [execOp,ho,hv,asBool],hρ x⟩
  ·rename_i hb; rw [hb] at hc; cases hp
   generalize hv:(Act.mk a ds).eval c = vc at hc
   cases hc
   exact .quiet h ⟨_,by simp [execOp,ho,hv,asBool],hρ y⟩
  ·cases hp
 case h_4 t ho =>
  obtain ⟨zs,hz,he⟩:=qcX hp
  cases he
  obtain ⟨v,w',h1,h2,h3,h4,h5⟩:=qCK h (hid (by simp [ho,qak])) hz
  exact ⟨_,v,w',Γ,_,by simp [execOp,ho,h1],.inl rfl,h2,h3,h5,.inr ⟨by simp [ho,qak],rfl⟩,h4⟩
 case h_5 t x ho =>
  obtain ⟨cs,hc,he⟩:=qcX hp
  cases he
  obtain ⟨v,w',h1,h2,h3,h4,h5⟩:=qF3 (t:=t) h (hid (by simp [ho,qak])) (hρ x) hc
  exact ⟨_,v,w',Γ,_,by simp [execOp,ho,h1],.inl rfl,h2,h3,h5,.inr ⟨by simp [ho,qak],rfl⟩,h4⟩
 case h_6 t ho =>
  cases hp
  obtain ⟨v,w',h1,h2,h3,h4,h5⟩:=qzL (t:=t) h (hid (by simp [ho,qak]))
  exact ⟨_,v,w',Γ,_,by simp [execOp,ho,h1],.inl rfl,h2,h3,h5,.inr ⟨by simp [ho,qak],rfl⟩,h4⟩
 case h_7 t parts ho =>
  obtain ⟨q,hq,he⟩:=qcX hp
  cases he
  obtain ⟨k1,k2⟩:=qpc hρ parts.toList
  obtain ⟨v,h1,h2⟩:=qo3 k1 k2 hq
  refine .quiet h ⟨v,?_,h2⟩
  have:(parts.map fun x => (x.1,(Act.mk a ds).eval x.2)) = (parts.toList.map fun x => (x.1,(Act.mk a ds).eval x.2)).toArray:=by apply Array.ext'; simp
  simp only [execOp,ho]
  rw [this]
  simp [h1]
 case h_8 t len parts ho =>
  obtain ⟨q,hq,he⟩:=qcX hp
  cases he
  obtain ⟨k1,k2⟩:=qpc hρ parts.toList
  obtain ⟨v,w',Γ',h1,h2,h3,h4,_,_⟩:=qnP h k1 k2 hq
  refine ⟨_,v,w',Γ',bs,?_,.inl rfl,h2,h4,h3,.inl rfl,.refl _⟩
  have:(parts.map fun x => (x.1,(Act.mk a ds).eval x.2)) = (parts.toList.map fun x => (x.1,(Act.mk a ds).eval x.2)).toArray:=by apply Array.ext'; simp
  simp only [execOp,ho]
  rw [this]
  simp [h1]
 case h_9 t x ho =>
  obtain ⟨q,hq,he⟩:=qcX hp
  cases he
  obtain ⟨v,h1,h2⟩:=qwg h (hρ x) hq
  exact .quiet h ⟨v,by simp [execOp,ho,h1],h2⟩
 case h_10 t x y ho =>
  obtain ⟨q,hq,he⟩:=qcX hp
  cases he
  obtain ⟨w',h1,h2,h3⟩:=qxb h (hρ x) (hρ y) hq
  exact ⟨.skip,undef,w',Γ,bs,by simp [execOp,ho,h1],.inr ⟨rfl,rfl⟩,h2,.val _,h3,.inl rfl,.refl _⟩
 case h_11 x ho =>
  have hx:=hρ x
  split at hp
  ·rename_i cs hc; rw [hc] at hx; cases hp
   generalize hv:(Act.mk a ds).eval x = vx at hx
   refine .quiet h ⟨vx,?_,hx⟩
   cases hx <;> simp [execOp,ho,hv]
  ·rename_i i off hc; rw [hc] at hx; cases hp
   generalize hv:(Act.mk a ds).eval x = vx at hx
   refine .quiet h ⟨vx,?_,hx⟩
   cases hx; simp [execOp,ho,hv]
  ·rename_i f first cap hc; rw [hc] at hx; cases hp
   generalize hv:(Act.mk a ds).eval x = vx at hx
   refine .quiet h ⟨vx,?_,hx⟩
   cases hx; simp [execOp,ho,hv]
  ·cases hp
 case h_12 op T x y yT ho =>
  obtain ⟨q,hq,he⟩:=qcX hp
  cases he
  obtain ⟨v,h1,h2⟩:=qGk (P:=P) (hρ x) (hρ y) x y hq
  refine .quiet h ⟨v,?_,h2⟩
  simp only [execOp,ho,Sem.run_bind] at h1 ⊢
  rw [h1]; rfl
 case h_13 op T x ho =>
  obtain ⟨q,hq,he⟩:=qcX hp
  cases he
  obtain ⟨v,h1,h2⟩:=qHj (P:=P) (hρ x) hq
  exact .quiet h ⟨v,by simp [execOp,ho,h1],h2⟩
 case h_14 s d x ho =>
  obtain ⟨q,hq,he⟩:=qcX hp
  cases he
  obtain ⟨v,h1,h2⟩:=qE9 (P:=P) (hρ x) hq
  exact .quiet h ⟨v,by simp [execOp,ho,h1],h2⟩
 case h_15 fn first cap ho =>
  cases hp
  refine .quiet h ⟨.func fn (first.map (Act.mk a ds).eval) (cap.map (Act.mk a ds).eval),by simp [execOp,ho,Instr.makeFunc],.func fn _ _ _ _ (by simp) (by simp) (fun i p v hp hv => ?_) (fun i p v hp hv => ?_)⟩
  ·exact qtf hρ first.toList i p v hp (by simpa using hv)
  ·exact qtf hρ cap.toList i p v hp (by simpa using hv)
 case h_16 t x lo hi ho =>
  obtain ⟨q,hq,he⟩:=qcX hp
  cases he
  obtain ⟨v,h1,h2⟩:=qDt (P:=P) (hρ x) (lo:=lo.map (opv E.GE st.tmps)) (hi:=hi.map (opv E.GE st.tmps)) (vlo:=lo.map (Act.mk a ds).eval) (vhi:=hi.map (Act.mk a ds).eval)
   (fun p hp => by cases lo <;> simp at hp; subst hp; exact ⟨_,rfl,hρ _⟩) (fun hn => by cases lo <;> simp at hn ⊢) (fun p hp => by cases hi <;> simp at hp; subst hp; exact ⟨_,rfl,hρ _⟩) (fun hn => by cases hi <;> simp at hn ⊢) hq
  exact .quiet h ⟨v,by simp [execOp,ho,h1],h2⟩
 case h_17 s x f ho =>
  obtain ⟨q,hq,he⟩:=qcX hp
  cases he
  obtain ⟨v,h1,h2⟩:=qwO (P:=P) (hρ x) hq
  exact .quiet h ⟨v,by simp [execOp,ho,h1],h2⟩
 case h_18 t x f ho =>
  obtain ⟨q,hq,he⟩:=qcX hp
  cases he
  obtain ⟨v,h1,h2⟩:=qCY (P:=P) (hρ x) hq
  exact .quiet h ⟨v,by simp [execOp,ho,h1],h2⟩
 case h_19 t x i ho =>
  obtain ⟨q,hq,he⟩:=qcX hp
  cases he
  obtain ⟨v,h1,h2⟩:=qwD (P:=P) (hρ x) (hρ i) hq
  exact .quiet h ⟨v,by simp [execOp,ho,h1],h2⟩
 case h_20 t x i ho =>
  obtain ⟨q,hq,he⟩:=qcX hp
  cases he
  obtain ⟨v,h1,h2⟩:=qDc (P:=P) (hρ x) (hρ i) hq
  exact .quiet h ⟨v,by simp [execOp,ho,h1],h2⟩
 case h_21 t m k ok ho =>
  obtain ⟨q,hq,he⟩:=qcX hp
  cases he
  obtain ⟨v,h1,h2⟩:=qA0 h (hρ m) (hρ k) hq
  exact .quiet h ⟨v,by simp [execOp,ho,h1],h2⟩
 case h_22 t m k x ho =>
  obtain ⟨q,hq,he⟩:=qcX hp
  cases he
  obtain ⟨w',h1,h2,h3⟩:=qwL h (hρ m) (hρ k) (hρ x) hq
  exact ⟨.skip,undef,w',Γ,bs,by simp [execOp,ho,h1],.inr ⟨rfl,rfl⟩,h2,.val _,h3,.inl rfl,.refl _⟩
 case h_23 t i ho =>
  obtain ⟨q,hq,he⟩:=qcX hp
  cases he
  obtain ⟨v,h1,h2⟩:=qtT (P:=P) (hρ t) hq
  exact .quiet h ⟨v,by simp [execOp,ho,h1],h2⟩
 case h_24 x t ho =>
  obtain ⟨q,hq,he⟩:=qcX hp
  cases he
  obtain ⟨v,h1,h2⟩:=qGz (ty:=o.type) h (hρ x) hq
  exact .quiet h ⟨v,by simp [execOp,ho,resolve,invoke,builtin,h1],h2⟩
 case h_25 x r tys ho =>
  obtain ⟨q,hq,he⟩:=qcX hp
  cases he
  obtain ⟨v,h1,h2⟩:=qu7 (P:=P) qDI (r.map (opv E.GE st.tmps)) (r.map (Act.mk a ds).eval) _ _ (by simp) (hρ x) (qtf hρ r) hq
  exact .quiet h ⟨v,by simp [execOp,ho,resolve,invoke,builtin,Builtin.max_,h1],h2⟩
 case h_26 x r tys ho =>
  obtain ⟨q,hq,he⟩:=qcX hp
  cases he
  obtain ⟨v,h1,h2⟩:=qu7 (P:=P) qDE (r.map (opv E.GE st.tmps)) (r.map (Act.mk a ds).eval) _ _ (by simp) (hρ x) (qtf hρ r) hq
  exact .quiet h ⟨v,by simp [execOp,ho,resolve,invoke,builtin,Builtin.min_,h1],h2⟩
 case h_27 => cases hp
end
def qbb (bs:qbj) (ow:Nat→Option Loc) (b:Nat):Prop:=(∃ i:Nat,bs[i]? = some (some b))∨ow b ≠ none
def C (P:Program) (GE:List (Nat×List PVal)) (f:FuncId) (args:List PVal) (oa:List ((Nat×Nat)×TypeId)) (H:List PBox) (r:PVal) (ro:List (Nat×TypeId)) (H':List PBox):Prop :=
 (∀ vs w,(callFunc f vs).run P w = .ok (.enter f vs) w) ∧
 ∀ (Γ:qaP) (bs:qbj) (ow:Nat→Option Loc) (w:World) (vs:Array Value),
  SR P ⟨GE,Γ,w,qbb bs ow⟩ Γ bs ow w vs ⟨args,H,oa⟩ →
  Calls P f vs w fun e w' => ∃ v Γ' ow',e = .returned v∧SR P ⟨GE,Γ,w,qbb bs ow⟩ Γ' bs ow' w' #[v] ⟨[r],H',ro.map fun x => ((0,x.1),x.2)⟩
section
variable {P:Program} {E:Ent} {Γ:qaP} {bs:qbj} {ow:Nat→Option Loc} {w:World} {a:Array Value} {st:PSt}
theorem Step.refl (GE:List (Nat×List PVal)) (Γ:qaP) (w:World) (T:Nat→Prop):Step ⟨GE,Γ,w,T⟩ Γ w :=
 ⟨rfl,rfl,rfl,Nat.le_refl _,fun _ _ _ => ⟨rfl,rfl⟩,.refl _ _⟩
def qCM (d:Nat) (owC ow:Nat→Option Loc):Nat→Option Loc:=fun b =>
 match owC b with
 | some (.tmp _ k) => some (.tmp d k)
 | _ => ow b
theorem SR.setResult (h:SR P E Γ bs ow w a st) {d:Nat} {r:PVal} {v:Value} (hd:d < a.size) (hv:VR Γ bs w r v) {owC:Nat→Option Loc} {ro:List (Nat×TypeId)}
  (hro:∀ k e,(k,e) ∈ ro→∃ v',qji v k = some v'∧qhY P Γ w v' e∧∀ b,v'.ownBlock = some b→owC b = some (.tmp 0 k))
  (hfree:∀ b t k,owC b = some (.tmp t k)→ow b = none∧b < w.heap.size∧(E.T b∨E.w.heap.size ≤ b)) :
  SR P E Γ bs (qCM d owC ow) w (a.setIfInBounds d v) { st with tmps:=st.tmps.set d r,own:=(ro.map fun x => ((d,x.1),x.2)) ++ qbB d st.own }:=by
 have hs:=h.set (d:=d) (p:=r) hv
 have hkeep:∀ b L,ow b = some L→qCM d owC ow b = some L:=fun b L hL => by
  unfold qCM
  split
  ·rename_i t k hb; rw [(hfree b _ _ hb).1] at hL; cases hL
  ·exact hL
 exact { hs with
  on:=fun b L hL => by
   unfold qCM at hL
   split at hL
   ·rename_i t k hb; exact (hfree b _ _ hb).2
   ·exact h.on b L hL
  ot:=fun t k e he => by
   rcases List.mem_append.1 he with he | he
   ·simp only [List.mem_map,Prod.mk.injEq] at he
    obtain ⟨⟨k',e'⟩,hm,⟨rfl,rfl⟩,rfl⟩:=he
    obtain ⟨v',h1,h2,h3⟩:=hro k' e' hm
    refine ⟨v,v',by simp [hd],h1,h2,fun b hb => ?_⟩
    have:=h3 b hb
    simp [qCM,this]
   ·obtain ⟨u,v',h1,h2,h3,h4⟩:=hs.ot t k e he
    exact ⟨u,v',h1,h2,h3,fun b hb => hkeep b _ (h4 b hb)⟩
  ob:=fun i j e cs own b hB hj hb => by
   obtain ⟨v',h1,h3,h4⟩:=h.ob i j e cs own b hB hj hb
   exact ⟨v',h1,h3,fun b' hb' => hkeep b' _ (h4 b' hb')⟩ }
theorem qD7 (h:SR P E Γ bs ow w a st) {g:FuncId} {args:List PVal} {r:PVal} {ro:List (Nat×TypeId)} {vs:Array Value} {d:Nat} (hd:d < a.size) (hC:C P E.GE g args [] [] r ro [])
  (hl:vs.size = args.length) (hv:∀ (i:Nat) p v,args[i]? = some p→vs[i]? = some v→VR Γ bs w p v) (hcl:clL 0 args) :
  Calls P g vs w fun e w' => ∃ v Γ' ow',e = .returned v∧SR P E Γ' bs ow' w' (a.setIfInBounds d v) { st with tmps:=st.tmps.set d r,own:=(ro.map fun x => ((d,x.1),x.2)) ++ qbB d st.own }∧Γ.Le w Γ' w':=by
 have hpre:SR P ⟨E.GE,Γ,w,qbb [] fun _ => none⟩ Γ [] (fun _ => none) w vs ⟨args,[],[]⟩:={
  wi:=h.wi
  sz:=hl
  tm:=fun t p v hp hv' => (hv t p v hp hv').restrict (n:=0) (qkj hcl hp) (fun i b hi _ => absurd hi (Nat.not_lt_zero _))
  bl:=rfl
  bx:=fun i b B hb => by simp at hb
  inj:=fun i j b hb => by simp at hb
  bn:=fun i b hb => by simp at hb
  on:=fun b L hL => by cases hL
  ot:=fun t k e he => by simp at he
  ob:=fun i j e cs own b hB => by simp at hB
  gl:=fun g cs hg => (h.gl g cs hg).restrict (n:=0) (by simp only [PVal.cl]; exact h.gc g cs hg) (fun i b hi _ => absurd hi (Nat.not_lt_zero _))
  gc:=h.gc
  gx:=fun g cs hg => by
   obtain ⟨k1,_,_,k4⟩:=h.gnow hg
   exact ⟨k1,fun hT => hT.elim (fun hx => by obtain ⟨i,hi⟩:=hx; simp at hi) (fun hx => hx rfl),k4⟩
  step := .refl _ _ _ _ }
 refine (hC.2 Γ [] (fun _ => none) w vs hpre).mono fun e w' he => ?_
 obtain ⟨v,Γ',owC,rfl,hS⟩:=he
 have hT:∀ b,¬ qbb [] (fun _ => none) b:=fun b hb => by
  rcases hb with ⟨i,hi⟩ | hb
  ·simp at hi
  ·exact hb rfl
 have hle:Γ.Le w Γ' w':=hS.step.le
 have hw:=h.world (fun _ => False) hle hS.wi hS.step.os hS.step.tape hS.step.output hS.step.size (fun b hb _ => hS.step.keep b hb (hT b)) (fun _ hx => hx.elim) (fun _ _ _ hx => hx) (fun _ _ _ hx => hx)
 have hr:VR Γ' bs w' r v:=(hS.tm 0 r v rfl rfl).mono (.refl _ _) (fun i b hb => by simp at hb)
 refine ⟨v,Γ',qCM d owC ow,rfl,hw.setResult hd hr (fun k e hm => ?_) (fun b t k hb => ?_),hle⟩
 ·obtain ⟨u,v',h1,h2,h3,h4⟩:=hS.ot 0 k e (List.mem_map.2 ⟨(k,e),hm,rfl⟩)
  simp at h1; subst h1
  exact ⟨v',h2,h3,h4⟩
 ·obtain ⟨k1,k2⟩:=hS.on b _ hb
  have hge:w.heap.size ≤ b:=k2.resolve_left (hT b)
  refine ⟨?_,k1,.inr (Nat.le_trans h.step.size hge)⟩
  cases hL:ow b with
  | none => rfl
  | some L => have:=(h.on b L hL).1; omega
end
end Go.Proofs.YtgldgpdhblndkaaGreatDoor
