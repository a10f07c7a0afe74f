/- PROVED: parts of the proof (AbsM AbsN AbsO AbsP AbsQ). Conditions: none. -/
import Derived.Test.YtggeppllafbidaaGreatDoorPkA2
noncomputable section
namespace Go.Proofs.YtggeppllafbidaaGreatDoor
open Go
section
variable{P:Program}{E:nm}{Γ:aO}{bs:bg}{ow:Nat->Option jk}{w:World}{a:Array Value}{st:av}
def fP(d:Nat)(f:Nat×Nat->Nat×Nat)(own:List ((Nat×Nat)×TypeId)):List ((Nat×Nat)×TypeId):=(bG d own).map fun x=>(f x.1,x.2)
def JX(d:Nat)(f:Nat×Nat->Nat×Nat)(ow:Nat->Option jk):Nat->Option jk:=fun b=>
 match ow b with
 |some (.tmp t k)=>if t=d then none else some (.tmp (f (t,k)).1 (f (t,k)).2)
 |x=>x
theorem SR.setRen(h:SR P E Γ bs ow w a st){d:Nat}{p:PVal}{v:Value}(hv:VR Γ bs w p v)(f:Nat×Nat->Nat×Nat)(hd:d<a.size)
  (hf:∀t k e,((t,k),e)∈st.own->t≠d->f (t,k)=(t,k)\/∃k',f (t,k)=(d,k')/\∀u v',a[t]? =some u->gU u k=some v'->fQ P Γ w v' e->gU v k'=some v'):
  SR P E Γ bs (JX d f ow) w (a.setIfInBounds d v) {st with tmps:=st.tmps.set d p,own:=fP d f st.own}:=by
 have hs:=h.set (d:=d) (p:=p) hv
 exact{hs with
  on:=fun b L hL=>by
   unfold JX at hL
   split at hL
   ·rename_i t k hb
    exact h.on b _ hb
   ·exact h.on b L hL
  ot:=fun t' k' e he=>by
   simp only[fP,vaq]at he
   obtain⟨⟨⟨t,k⟩,e0⟩,hx,he⟩:=he
   simp only[Prod.mk.injEq]at he
   obtain⟨he,rfl⟩:=he
   obtain⟨hx,htd⟩:=dn hx
   obtain⟨u,v',h1,h2,h3,h4⟩:=h.ot t k e0 hx
   have how:∀b,v'.ownBlock=some b->JX d f ow b=some (.tmp t' k'):=fun b hb=>by
    have:=h4 b hb
    simp only[JX,this]
    rw[van htd,he]
   rcases hf t k e0 hx htd with hk|⟨k2,hk,hp⟩
   ·rw[hk]at he;cases he
    exact⟨u,v',by rw[vaQ (fun e=>htd e.symm)];exact h1,h2,h3,how⟩
   ·rw[hk]at he;cases he
    exact⟨v,v',by simp[hd],hp u v' h1 h2 h3,h3,how⟩
  ob:=fun i j e cs own b hB hj hb=>by
   obtain⟨v',h1,h3,h4⟩:=h.ob i j e cs own b hB hj hb
   exact⟨v',h1,h3,fun b' hb'=>by have:=h4 b' hb';simp only[JX,this]⟩}
theorem SR.freeB(h:SR P E Γ bs ow w a st){i j:Nat}{cs:List PVal}{own:List (Nat×TypeId)}(hB:st.boxes[i]? =some (.cells cs own)):
  SR P E Γ bs (fun b=>if ow b=some (.box i j)then none else ow b) w a {st with boxes:=st.boxes.set i (.cells cs (own.filter fun x=>x.1 !=j))}:=by
 have hilt:i<bs.length:=by rw[h.bl];exact ak hB
 cases hb:bs[i]'hilt with
 | none =>
  have hi:bs[i]? =some none:=by rw[vab hilt,hb]
  have hbox:∀{k:Nat} {B:ax},k≠i->(st.boxes.set i (.cells cs (own.filter fun x=>x.1 !=j)))[k]? =some B->st.boxes[k]? =some B:=by
   intro k B hk hB'
   rwa[vap (fun e=>hk e.symm)]at hB'
  have hne:∀{k b:Nat},bs[k]? =some (some b)->k≠i:=fun hk e=>by subst e;rw[hi]at hk;cases hk
  exact{h with
   bl:=by simp[h.bl]
   bx:=fun k b B hk hB'=>h.bx k b B hk (hbox (hne hk) hB')
   on:=fun b L hL=>by
    split at hL
    ·cases hL
    ·exact h.on b L hL
   ot:=fun t k e he=>by
    obtain⟨u,v,h1,h2,h3,h4⟩:=h.ot t k e he
    exact⟨u,v,h1,h2,h3,fun b hb'=>by rw[van (by rw[h4 b hb'];intro hx;cases hx)];exact h4 b hb'⟩
   ob:=fun k q e cs' own' b hB' hj hk=>by
    obtain⟨v,h1,h3,h4⟩:=h.ob k q e cs' own' b (hbox (hne hk) hB') hj hk
    exact⟨v,h1,h3,fun b' hb'=>by rw[van (by rw[h4 b' hb'];intro hx;cases hx;exact hne hk rfl)];exact h4 b' hb'⟩}
 | some b =>
  have hi:bs[i]? =some (some b):=by rw[vab hilt,hb]
  refine h.box_write hi rfl rfl rfl rfl (fun _ _=>rfl) ?_ (fun b' L hL hne=>?_) (fun b' L hL=>?_) (fun cs' own' he q e hq=>?_)
  ·obtain⟨_,_,c,t,h1,h2,h3⟩:=h.bx i b _ hi hB
   exact⟨c,t,h1,h2,h3⟩
  ·rw[van (by rw[hL];intro hx;cases hx;exact hne j rfl)];exact hL
  ·split at hL
   ·cases hL
   ·exact h.on b' L hL
  ·cases he
   obtain⟨hq,hqj⟩:=bY hq
   obtain⟨v,h1,h3,h4⟩:=h.ob i q e cs own b hB hq hi
   refine⟨v,h1,h3,fun b' hb'=>?_⟩
   rw[van (by rw[h4 b' hb'];intro hx;cases hx;simp at hqj)]
   exact h4 b' hb'
theorem SR.addOwnB(h:SR P E Γ bs ow w a st){i b j:Nat}{e:TypeId}{v:Value}{cs:List PVal}{own:List (Nat×TypeId)}(hi:bs[i]? =some (some b))(hB:st.boxes[i]? =some (.cells cs own))
  (hv:w.cell? ⟨b,j,none⟩=some v) (ho:fQ P Γ w v e) (hf:∀b',v.ownBlock=some b'->ow b'=none/\(E.T b'\/E.w.heap.size<=b')):
  SR P E Γ bs (fun b'=>if v.ownBlock=some b' then some (.box i j)else ow b') w a {st with boxes:=st.boxes.set i (.cells cs ((j,e)::own))}:=by
 refine h.box_write hi rfl rfl rfl rfl (fun _ _=>rfl) ?_ (fun b' L hL hne=>?_) (fun b' L hL=>?_) (fun cs' own' he q e' hq=>?_)
 ·obtain⟨_,_,c,t,h1,h2,h3⟩:=h.bx i b _ hi hB
  exact⟨c,t,h1,h2,h3⟩
 ·rw[van (fun hx=>by have:=(hf b' hx).1;rw[this]at hL;cases hL)];exact hL
 ·by_cases hx:v.ownBlock=some b'
  ·exact⟨ho.lt hx,(hf b' hx).2⟩
  ·rw[van hx]at hL;exact h.on b' L hL
 ·cases he
  rcases vaG.1 hq with hq|hq
  ·cases hq
   exact⟨v,hv,ho,fun b' hb'=>by rw[vaj hb']⟩
  ·obtain⟨v',h1,h3,h4⟩:=h.ob i q e' cs own b hB hq hi
   refine⟨v',h1,h3,fun b' hb'=>?_⟩
   rw[van (fun hx=>by have:=(hf b' hx).1;rw[h4 b' hb']at this;cases this)]
   exact h4 b' hb'
theorem SR.moveOwn(h:SR P E Γ bs ow w a st){i b t k off:Nat}{e:TypeId}{u v:Value}{cs:List PVal}{own:List (Nat×TypeId)}(hi:bs[i]? =some (some b))(hB:st.boxes[i]? =some (.cells cs own))
  (hm:((t,k),e)∈st.own) (hu:a[t]? =some u) (hp:gU u k=some v) (hc:w.cell? ⟨b,off,none⟩=some v):
  ∃ow',SR P E Γ bs ow' w a {st with own:=st.own.filter fun x=>x.1 !=(t,k),boxes:=st.boxes.set i (.cells cs ((off,e)::own))}:=by
 obtain⟨u',v',h1,h2,h3,h4⟩:=h.ot t k e hm
 rw[hu]at h1
 cases h1
 rw[hp]at h2
 cases h2
 exact⟨_,(h.freeT t k).addOwnB (i:=i) (b:=b) (j:=off) (e:=e) (v:=v) hi hB hc h3 (fun b' hb'=>⟨by simp[h4 b' hb'],(h.on b' _ (h4 b' hb')).2⟩)⟩
theorem SR.moveOwns{i b t off:Nat}{u:Value}{cs:List PVal}(hi:bs[i]? =some (some b))(hu:a[t]? =some u):∀(L:List (Nat×TypeId)) {ow:Nat->Option jk} {st:av} {own:List (Nat×TypeId)},SR P E Γ bs ow w a st->st.boxes[i]? =some (.cells cs own)->
  (∀x∈L,((t,x.1),x.2)∈st.own)->(L.map (·.1)).Nodup->(∀x∈L,∃v,gU u x.1=some v/\w.cell? ⟨b,off+x.1,none⟩=some v)->
  ∃ow',SR P E Γ bs ow' w a ⟨st.tmps,st.boxes.set i (.cells cs ((L.map fun x=>(off+x.1,x.2)).reverse++own)),st.own.filter fun x=>!L.any fun y=>x.1==(t,y.1)⟩
 | [],ow,st,own,h,hB,_,_,_ => by
  refine⟨ow,?_⟩
  have e1:st.boxes.set i (.cells cs ((([]:List (Nat×TypeId)).map fun x=>(off+x.1,x.2)).reverse++own))=st.boxes:=by
   apply vbc
   intro j
   by_cases hj:i=j
   ·subst hj
    rw[vag (ak hB),hB]
    rfl
   ·rw[vap hj]
  have e2:(st.own.filter fun x=>!([]:List (Nat×TypeId)).any fun y=>x.1==(t,y.1))=st.own:=by
   apply vcG.2
   intro x _
   rfl
  rw[e1,e2]
  exact h
 | x :: L,ow,st,own,h,hB,hm,hn,hc => by
  rw[vaz,vbP]at hn
  obtain⟨v,hv1,hv2⟩:=hc x (by simp)
  obtain⟨ow1,h1⟩:=h.moveOwn hi hB (hm x (by simp)) hu hv1 hv2
  obtain⟨ow2,h2⟩:=SR.moveOwns hi hu L h1 (vag (ak hB)) (fun y hy=>by
   refine vaK.2 ⟨hm y (by simp[hy]),?_⟩
   simp only[bne_iff_ne,ne_eq,Prod.mk.injEq,vcA]
   exact fun e=>hn.1 (vaq.2 ⟨y,hy,e⟩)) hn.2 (fun y hy=>hc y (by simp[hy]))
  refine⟨ow2,?_⟩
  simp only[vbW,vcc]at h2
  have e1:((x::L).map fun x=>(off+x.1,x.2)).reverse++own=(L.map fun x=>(off+x.1,x.2)).reverse++(off+x.1,x.2)::own:=by simp
  have e2:(st.own.filter fun z=>!(x::L).any fun y=>z.1==(t,y.1))=st.own.filter fun z=>(!L.any fun y=>z.1==(t,y.1))&&(z.1 !=(t,x.1)):=by
   congr 1
   funext z
   rw[List.any_cons]
   cases(L.any fun y=>z.1==(t,y.1))<;>cases hz:(z.1==(t,x.1))<;>simp[bne,hz]
  rw[e1,e2]
  exact h2
end
def ni(P:Program)(op:Op)(id:Nat)(v:Operand->PVal)(H:List ax):Option (PVal×List ax):=
 match op with
 |.move x=>some (v x,H)
 |.assign x=>some (v x,H)
 |.pick c x y=>match v c with
  |.bool true=>some (v x,H)
  |.bool false=>some (v y,H)
  |_=>none
 |.alloc t=>(iV P t).map fun zs=>(.bptr id 0,H.set id (.cells zs (JV P t)))
 |.box _ x=>(bR (v x)).map fun cs=>(.bptr id 0,H.set id (.cells cs []))
 |.makeMap _ none=>some (.mapr id,H.set id (.map []))
 |.build t parts=>(df P t (parts.toList.map fun x=>(x.1,v x.2))).map fun p=>(p,H)
 |.buildSlice t len parts=>(d6 P t len (parts.toList.map fun x=>(x.1,v x.2))).map fun p=>(p,H)
 |.load t x=>(jm P t (v x) H).map fun p=>(p,H)
 |.store t x y=>(cY P t (v x) (v y) H).map fun H'=>(.val undef,H')
 |.nilCheck x=>match v x with
  |.eptr cs=>some (.eptr cs,H)
  |.bptr i off=>some (.bptr i off,H)
  |.func (.func f) first cap=>some (.func (.func f) first cap,H)
  |_=>none
 |.binOp op T x y _=>(E8 P op T (v x) (v y)).map fun p=>(p,H)
 |.unOp op _ x=>(SK op (v x)).map fun p=>(p,H)
 |.convert s d x=>(CF P s d (v x)).map fun p=>(p,H)
 |.makeFunc fn first cap=>some (.func fn (first.toList.map v) (cap.toList.map v),H)
 |.slice t x lo hi none=>(rl P t (v x) (lo.map v) (hi.map v) none).map fun p=>(p,H)
 |.fieldAddr s x f=>(cy P s (v x) f).map fun p=>(p,H)
 |.field t x f=>(IA P t (v x) f).map fun p=>(p,H)
 |.indexAddr t x i=>(fL P t (v x) (v i)).map fun p=>(p,H)
 |.index t x i=>(tH P t (v x) (v i)).map fun p=>(p,H)
 |.lookup t m k ok=>(qp P t (v m) (v k) ok H).map fun p=>(p,H)
 |.mapUpdate t m k x=>(eV P t (v m) (v k) (v x) H).map fun H'=>(.val undef,H')
 |.extract t i=>(po (v t) i).map fun p=>(p,H)
 |.call {callee:=.builtin .len,args:=⟨[x]⟩,argTypes:=⟨[t]⟩}=>(vI P t (v x) H).map fun p=>(p,H)
 |.call {callee:=.builtin .max,args:=⟨x::r⟩,..}=>(CG LN (v x) (r.map v)).map fun p=>(p,H)
 |.call {callee:=.builtin .min,args:=⟨x::r⟩,..}=>(CG LO (v x) (r.map v)).map fun p=>(p,H)
 |_=>none
def ay:Op->Bool
 |.alloc _|.box .. |.makeMap .. =>true
 |_=>false
section
variable{P:Program}{E:nm}{Γ:aO}{bs:bg}{ow:Nat->Option jk}{w:World}{a:Array Value}{st:av}
def Kk(P:Program)(E:nm)(Γ:aO)(bs:bg)(ow:Nat->Option jk)(w:World)(a:Array Value)(st:av)(id:Nat)(mk:Bool)(s:Sem Next)(p:PVal)(H:List ax):Prop:=
 ∃r v w' Γ' bs',s.run P w=.ok r w'/\(r=.value v\/(r=.skip/\v=undef))/\SR P E Γ' bs' ow w' a {st with boxes:=H}/\VR Γ' bs' w' p v/\
  Γ.Le w Γ' w'/\(bs'=bs\/(mk=true/\bs'=bs.set id (some w.heap.size)))/\bs.Sub bs'
theorem Kk.quiet(h:SR P E Γ bs ow w a st){id:Nat}{mk:Bool}{s:Sem Next}{p:PVal}(hs:∃v,s.run P w=.ok (.value v) w/\VR Γ bs w p v):Kk P E Γ bs ow w a st id mk s p st.boxes:=by
 obtain⟨v,h1,h2⟩:=hs
 exact⟨_,v,w,Γ,bs,h1,.inl rfl,h,h2,.refl _ _,.inl rfl,.refl _⟩
theorem dh{α β:Type}{f:α->β}{x:Option α}{y:β}(h:x.map f=some y):∃z,x=some z/\f z=y:=by simpa using h
theorem rZ{ρ:Operand->Value}{v:Operand->PVal}(hρ:∀x,VR Γ bs w (v x) (ρ x))(parts:List (Nat×Operand)):
  (parts.map fun x=>(x.1,v x.2)).length=(parts.map fun x=>(x.1,ρ x.2)).length/\
  ∀(j:Nat) p u,(parts.map fun x=>(x.1,v x.2))[j]? =some p->(parts.map fun x=>(x.1,ρ x.2))[j]? =some u->p.1=u.1/\VR Γ bs w p.2 u.2:=by
 refine⟨by simp,fun j p u hp hu=>?_⟩
 simp only[vax]at hp hu
 cases hx:parts[j]? with
 |none=>simp[hx]at hp
 |some x=>
  simp only[hx,vaf,vat]at hp hu
  subst hp;subst hu
  exact⟨rfl,hρ _⟩
theorem wC{ρ:Operand->Value}{v:Operand->PVal}(hρ:∀x,VR Γ bs w (v x) (ρ x))(l:List Operand)(j:Nat)(p:PVal)(u:Value)(hp:(l.map v)[j]? =some p)(hu:(l.map ρ)[j]? =some u):VR Γ bs w p u:=by
 simp only[vax]at hp hu
 cases hx:l[j]? with
 |none=>simp[hx]at hp
 |some x=>
  simp only[hx,vaf,vat]at hp hu
  subst hp;subst hu
  exact hρ _
theorem MH(h:SR P E Γ bs ow w a st)(ds:List Deferred){o:Oper}{id:Nat}{p:PVal}{H:List ax}(hid:ay o.op=true->bs[id]? =some none)
  (hp:ni P o.op id (opv E.GE st.tmps) st.boxes=some (p,H)):Kk P E Γ bs ow w a st id (ay o.op) (execOp (Act.mk a ds).eval o) p H:=by
 have hρ:∀x,VR Γ bs w (opv E.GE st.tmps x) ((Act.mk a ds).eval x):=fun x=>h.opv ds x
 unfold ni at hp
 split at hp
 case h_1 x ho=>cases hp;exact .quiet h ⟨_,by simp[execOp,ho],hρ x⟩
 case h_2 x ho=>cases hp;exact .quiet h ⟨_,by simp[execOp,ho],hρ x⟩
 case h_3 c x y ho=>
  have hc:=hρ c
  split at hp
  ·rename_i hb;rw[hb]at hc;cases hp
   generalize hv:(Act.mk a ds).eval c=vc at hc
   cases hc
   exact .quiet h ⟨_,by simp[execOp,ho,hv,asBool],hρ x⟩
  ·rename_i hb;rw[hb]at hc;cases hp
   generalize hv:(Act.mk a ds).eval c=vc at hc
   cases hc
   exact .quiet h ⟨_,by simp[execOp,ho,hv,asBool],hρ y⟩
  ·cases hp
 case h_4 t ho=>
  obtain⟨zs,hz,he⟩:=dh hp
  cases he
  obtain⟨v,w',h1,h2,h3,h4,h5⟩:=KT h (hid (by simp[ho,ay])) hz
  exact⟨_,v,w',Γ,_,by simp[execOp,ho,h1],.inl rfl,h2,h3,h5,.inr ⟨by simp[ho,ay],rfl⟩,h4⟩
 case h_5 t x ho=>
  obtain⟨cs,hc,he⟩:=dh hp
  cases he
  obtain⟨v,w',h1,h2,h3,h4,h5⟩:=Oa (t:=t) h (hid (by simp[ho,ay])) (hρ x) hc
  exact⟨_,v,w',Γ,_,by simp[execOp,ho,h1],.inl rfl,h2,h3,h5,.inr ⟨by simp[ho,ay],rfl⟩,h4⟩
 case h_6 t ho=>
  cases hp
  obtain⟨v,w',h1,h2,h3,h4,h5⟩:=IC (t:=t) h (hid (by simp[ho,ay]))
  exact⟨_,v,w',Γ,_,by simp[execOp,ho,h1],.inl rfl,h2,h3,h5,.inr ⟨by simp[ho,ay],rfl⟩,h4⟩
 case h_7 t parts ho=>
  obtain⟨q,hq,he⟩:=dh hp
  cases he
  obtain⟨k1,k2⟩:=rZ hρ parts.toList
  obtain⟨v,h1,h2⟩:=tF k1 k2 hq
  refine .quiet h ⟨v,?_,h2⟩
  have:(parts.map fun x=>(x.1,(Act.mk a ds).eval x.2))=(parts.toList.map fun x=>(x.1,(Act.mk a ds).eval x.2)).toArray:=by apply vbJ;simp
  simp only[execOp,ho]
  rw[this]
  simp[h1]
 case h_8 t len parts ho=>
  obtain⟨q,hq,he⟩:=dh hp
  cases he
  obtain⟨k1,k2⟩:=rZ hρ parts.toList
  obtain⟨v,w',Γ',h1,h2,h3,h4,_,_⟩:=ua h k1 k2 hq
  refine⟨_,v,w',Γ',bs,?_,.inl rfl,h2,h4,h3,.inl rfl,.refl _⟩
  have:(parts.map fun x=>(x.1,(Act.mk a ds).eval x.2))=(parts.toList.map fun x=>(x.1,(Act.mk a ds).eval x.2)).toArray:=by apply vbJ;simp
  simp only[execOp,ho]
  rw[this]
  simp[h1]
 case h_9 t x ho=>
  obtain⟨q,hq,he⟩:=dh hp
  cases he
  obtain⟨v,h1,h2⟩:=BW h (hρ x) hq
  exact .quiet h ⟨v,by simp[execOp,ho,h1],h2⟩
 case h_10 t x y ho=>
  obtain⟨q,hq,he⟩:=dh hp
  cases he
  obtain⟨w',h1,h2,h3⟩:=FF h (hρ x) (hρ y) hq
  exact⟨.skip,undef,w',Γ,bs,by simp[execOp,ho,h1],.inr ⟨rfl,rfl⟩,h2,.val _,h3,.inl rfl,.refl _⟩
 case h_11 x ho=>
  have hx:=hρ x
  split at hp
  ·rename_i cs hc;rw[hc]at hx;cases hp
   generalize hv:(Act.mk a ds).eval x=vx at hx
   refine .quiet h ⟨vx,?_,hx⟩
   cases hx<;>simp[execOp,ho,hv]
  ·rename_i i off hc;rw[hc]at hx;cases hp
   generalize hv:(Act.mk a ds).eval x=vx at hx
   refine .quiet h ⟨vx,?_,hx⟩
   cases hx;simp[execOp,ho,hv]
  ·rename_i f first cap hc;rw[hc]at hx;cases hp
   generalize hv:(Act.mk a ds).eval x=vx at hx
   refine .quiet h ⟨vx,?_,hx⟩
   cases hx;simp[execOp,ho,hv]
  ·cases hp
 case h_12 op T x y yT ho=>
  obtain⟨q,hq,he⟩:=dh hp
  cases he
  obtain⟨v,h1,h2⟩:=N9 (P:=P) (hρ x) (hρ y) x y hq
  refine .quiet h ⟨v,?_,h2⟩
  simp only[execOp,ho,Sem.run_bind]at h1 ⊢
  rw[h1];rfl
 case h_13 op T x ho=>
  obtain⟨q,hq,he⟩:=dh hp
  cases he
  obtain⟨v,h1,h2⟩:=PM (P:=P) (hρ x) hq
  exact .quiet h ⟨v,by simp[execOp,ho,h1],h2⟩
 case h_14 s d x ho=>
  obtain⟨q,hq,he⟩:=dh hp
  cases he
  obtain⟨v,h1,h2⟩:=MF (P:=P) (hρ x) hq
  exact .quiet h ⟨v,by simp[execOp,ho,h1],h2⟩
 case h_15 fn first cap ho=>
  cases hp
  refine .quiet h ⟨.func fn (first.map (Act.mk a ds).eval) (cap.map (Act.mk a ds).eval),by simp[execOp,ho,Instr.makeFunc],.func fn _ _ _ _ (by simp) (by simp) (fun i p v hp hv=>?_) (fun i p v hp hv=>?_)⟩
  ·exact wC hρ first.toList i p v hp (by simpa using hv)
  ·exact wC hρ cap.toList i p v hp (by simpa using hv)
 case h_16 t x lo hi ho=>
  obtain⟨q,hq,he⟩:=dh hp
  cases he
  obtain⟨v,h1,h2⟩:=K0 (P:=P) (hρ x) (lo:=lo.map (opv E.GE st.tmps)) (hi:=hi.map (opv E.GE st.tmps)) (vlo:=lo.map (Act.mk a ds).eval) (vhi:=hi.map (Act.mk a ds).eval)
   (fun p hp=>by cases lo<;>simp at hp;subst hp;exact⟨_,rfl,hρ _⟩) (fun hn=>by cases lo<;>simp at hn ⊢) (fun p hp=>by cases hi<;>simp at hp;subst hp;exact⟨_,rfl,hρ _⟩) (fun hn=>by cases hi<;>simp at hn ⊢) hq
  exact .quiet h ⟨v,by simp[execOp,ho,h1],h2⟩
 case h_17 s x f ho=>
  obtain⟨q,hq,he⟩:=dh hp
  cases he
  obtain⟨v,h1,h2⟩:=Fc (P:=P) (hρ x) hq
  exact .quiet h ⟨v,by simp[execOp,ho,h1],h2⟩
 case h_18 t x f ho=>
  obtain⟨q,hq,he⟩:=dh hp
  cases he
  obtain⟨v,h1,h2⟩:=KV (P:=P) (hρ x) hq
  exact .quiet h ⟨v,by simp[execOp,ho,h1],h2⟩
 case h_19 t x i ho=>
  obtain⟨q,hq,he⟩:=dh hp
  cases he
  obtain⟨v,h1,h2⟩:=Fe (P:=P) (hρ x) (hρ i) hq
  exact .quiet h ⟨v,by simp[execOp,ho,h1],h2⟩
 case h_20 t x i ho=>
  obtain⟨q,hq,he⟩:=dh hp
  cases he
  obtain⟨v,h1,h2⟩:=KW (P:=P) (hρ x) (hρ i) hq
  exact .quiet h ⟨v,by simp[execOp,ho,h1],h2⟩
 case h_21 t m k ok ho=>
  obtain⟨q,hq,he⟩:=dh hp
  cases he
  obtain⟨v,h1,h2⟩:=JN h (hρ m) (hρ k) hq
  exact .quiet h ⟨v,by simp[execOp,ho,h1],h2⟩
 case h_22 t m k x ho=>
  obtain⟨q,hq,he⟩:=dh hp
  cases he
  obtain⟨w',h1,h2,h3⟩:=Fi h (hρ m) (hρ k) (hρ x) hq
  exact⟨.skip,undef,w',Γ,bs,by simp[execOp,ho,h1],.inr ⟨rfl,rfl⟩,h2,.val _,h3,.inl rfl,.refl _⟩
 case h_23 t i ho=>
  obtain⟨q,hq,he⟩:=dh hp
  cases he
  obtain⟨v,h1,h2⟩:=Aj (P:=P) (hρ t) hq
  exact .quiet h ⟨v,by simp[execOp,ho,h1],h2⟩
 case h_24 x t ho=>
  obtain⟨q,hq,he⟩:=dh hp
  cases he
  obtain⟨v,h1,h2⟩:=Ok (ty:=o.type) h (hρ x) hq
  exact .quiet h ⟨v,by simp[execOp,ho,resolve,invoke,builtin,h1],h2⟩
 case h_25 x r tys ho=>
  obtain⟨q,hq,he⟩:=dh hp
  cases he
  obtain⟨v,h1,h2⟩:=BU (P:=P) MN (r.map (opv E.GE st.tmps)) (r.map (Act.mk a ds).eval) _ _ (by simp) (hρ x) (wC hρ r) hq
  exact .quiet h ⟨v,by simp[execOp,ho,resolve,invoke,builtin,Builtin.max_,h1],h2⟩
 case h_26 x r tys ho=>
  obtain⟨q,hq,he⟩:=dh hp
  cases he
  obtain⟨v,h1,h2⟩:=BU (P:=P) MO (r.map (opv E.GE st.tmps)) (r.map (Act.mk a ds).eval) _ _ (by simp) (hρ x) (wC hρ r) hq
  exact .quiet h ⟨v,by simp[execOp,ho,resolve,invoke,builtin,Builtin.min_,h1],h2⟩
 case h_27=>cases hp
end
def bu(bs:bg)(ow:Nat->Option jk)(b:Nat):Prop:=(∃i:Nat,bs[i]? =some (some b))\/ow b≠none
def C(P:Program)(GE:List (Nat×List PVal))(f:FuncId)(args:List PVal)(oa:List ((Nat×Nat)×TypeId))(H:List ax)(r:PVal)(ro:List (Nat×TypeId))(H':List ax):Prop:=
 (∀vs w,(callFunc f vs).run P w=.ok (.enter f vs) w)/\
 ∀(Γ:aO) (bs:bg) (ow:Nat->Option jk) (w:World) (vs:Array Value),
  SR P ⟨GE,Γ,w,bu bs ow⟩ Γ bs ow w vs ⟨args,H,oa⟩->
  Calls P f vs w fun e w'=>∃v Γ' ow',e=.returned v/\SR P ⟨GE,Γ,w,bu bs ow⟩ Γ' bs ow' w' #[v] ⟨[r],H',ro.map fun x=>((0,x.1),x.2)⟩
section
variable{P:Program}{E:nm}{Γ:aO}{bs:bg}{ow:Nat->Option jk}{w:World}{a:Array Value}{st:av}
theorem Qx.refl(GE:List (Nat×List PVal))(Γ:aO)(w:World)(T:Nat->Prop):Qx ⟨GE,Γ,w,T⟩ Γ w:=
 ⟨rfl,rfl,rfl,var _,fun _ _ _=>⟨rfl,rfl⟩,.refl _ _⟩
def Hg(d:Nat)(owC ow:Nat->Option jk):Nat->Option jk:=fun b=>
 match owC b with
 |some (.tmp _ k)=>some (.tmp d k)
 |_=>ow b
theorem SR.setResult(h:SR P E Γ bs ow w a st){d:Nat}{r:PVal}{v:Value}(hd:d<a.size)(hv:VR Γ bs w r v){owC:Nat->Option jk}{ro:List (Nat×TypeId)}
  (hro:∀k e,(k,e)∈ro->∃v',gU v k=some v'/\fQ P Γ w v' e/\∀b,v'.ownBlock=some b->owC b=some (.tmp 0 k))
  (hfree:∀b t k,owC b=some (.tmp t k)->ow b=none/\b<w.heap.size/\(E.T b\/E.w.heap.size<=b)):
  SR P E Γ bs (Hg d owC ow) w (a.setIfInBounds d v) {st with tmps:=st.tmps.set d r,own:=(ro.map fun x=>((d,x.1),x.2))++bG d st.own}:=by
 have hs:=h.set (d:=d) (p:=r) hv
 have hkeep:∀b L,ow b=some L->Hg d owC ow b=some L:=fun b L hL=>by
  unfold Hg
  split
  ·rename_i t k hb;rw[(hfree b _ _ hb).1]at hL;cases hL
  ·exact hL
 exact{hs with
  on:=fun b L hL=>by
   unfold Hg at hL
   split at hL
   ·rename_i t k hb;exact(hfree b _ _ hb).2
   ·exact h.on b L hL
  ot:=fun t k e he=>by
   rcases vaB.1 he with he|he
   ·simp only[vaq,Prod.mk.injEq]at he
    obtain⟨⟨k',e'⟩,hm,⟨rfl,rfl⟩,rfl⟩:=he
    obtain⟨v',h1,h2,h3⟩:=hro k' e' hm
    refine⟨v,v',by simp[hd],h1,h2,fun b hb=>?_⟩
    have:=h3 b hb
    simp[Hg,this]
   ·obtain⟨u,v',h1,h2,h3,h4⟩:=hs.ot t k e he
    exact⟨u,v',h1,h2,h3,fun b hb=>hkeep b _ (h4 b hb)⟩
  ob:=fun i j e cs own b hB hj hb=>by
   obtain⟨v',h1,h3,h4⟩:=h.ob i j e cs own b hB hj hb
   exact⟨v',h1,h3,fun b' hb'=>hkeep b' _ (h4 b' hb')⟩}
theorem Md(h:SR P E Γ bs ow w a st){g:FuncId}{args:List PVal}{r:PVal}{ro:List (Nat×TypeId)}{vs:Array Value}{d:Nat}(hd:d<a.size)(hC:C P E.GE g args [] [] r ro [])
  (hl:vs.size=args.length) (hv:∀(i:Nat) p v,args[i]? =some p->vs[i]? =some v->VR Γ bs w p v) (hcl:iB 0 args):
  Calls P g vs w fun e w'=>∃v Γ' ow',e=.returned v/\SR P E Γ' bs ow' w' (a.setIfInBounds d v) {st with tmps:=st.tmps.set d r,own:=(ro.map fun x=>((d,x.1),x.2))++bG d st.own}/\Γ.Le w Γ' w':=by
 have hpre:SR P ⟨E.GE,Γ,w,bu [] fun _=>none⟩ Γ [] (fun _=>none) w vs ⟨args,[],[]⟩:={
  wi:=h.wi
  sz:=hl
  tm:=fun t p v hp hv'=>(hv t p v hp hv').restrict (n:=0) (lp hcl hp) (fun i b hi _=>absurd hi (vaO _))
  bl:=rfl
  bx:=fun i b B hb=>by simp at hb
  inj:=fun i j b hb=>by simp at hb
  bn:=fun i b hb=>by simp at hb
  on:=fun b L hL=>by cases hL
  ot:=fun t k e he=>by simp at he
  ob:=fun i j e cs own b hB=>by simp at hB
  gl:=fun g cs hg=>(h.gl g cs hg).restrict (n:=0) (by simp only[PVal.cl];exact h.gc g cs hg) (fun i b hi _=>absurd hi (vaO _))
  gc:=h.gc
  gx:=fun g cs hg=>by
   obtain⟨k1,_,_,k4⟩:=h.gnow hg
   exact⟨k1,fun hT=>hT.elim (fun hx=>by obtain⟨i,hi⟩:=hx;simp at hi) (fun hx=>hx rfl),k4⟩
  step:=.refl _ _ _ _}
 refine(hC.2 Γ [] (fun _=>none) w vs hpre).mono fun e w' he=>?_
 obtain⟨v,Γ',owC,rfl,hS⟩:=he
 have hT:∀b,¬bu [] (fun _=>none) b:=fun b hb=>by
  rcases hb with⟨i,hi⟩|hb
  ·simp at hi
  ·exact hb rfl
 have hle:Γ.Le w Γ' w':=hS.step.le
 have hw:=h.world (fun _=>False) hle hS.wi hS.step.os hS.step.tape hS.step.output hS.step.size (fun b hb _=>hS.step.keep b hb (hT b)) (fun _ hx=>hx.elim) (fun _ _ _ hx=>hx) (fun _ _ _ hx=>hx)
 have hr:VR Γ' bs w' r v:=(hS.tm 0 r v rfl rfl).mono (.refl _ _) (fun i b hb=>by simp at hb)
 refine⟨v,Γ',Hg d owC ow,rfl,hw.setResult hd hr (fun k e hm=>?_) (fun b t k hb=>?_),hle⟩
 ·obtain⟨u,v',h1,h2,h3,h4⟩:=hS.ot 0 k e (vaq.2 ⟨(k,e),hm,rfl⟩)
  simp at h1;subst h1
  exact⟨v',h2,h3,h4⟩
 ·obtain⟨k1,k2⟩:=hS.on b _ hb
  have hge:w.heap.size<=b:=k2.resolve_left (hT b)
  refine⟨?_,k1,.inr (vaX h.step.size hge)⟩
  cases hL:ow b with
  |none=>rfl
  |some L=>have:=(h.on b L hL).1;omega
end
inductive zC(ρ:List Nat):PVal->PVal->Prop where
 |refl (p:PVal) (h:p.cl 0):zC ρ p p
 |bptr (i j off:Nat) (h:ρ[i]? =some j):zC ρ (.bptr j off) (.bptr i off)
 |mapr (i j:Nat) (h:ρ[i]? =some j):zC ρ (.mapr j) (.mapr i)
 |bsl (i j off n:Nat) (h:ρ[i]? =some j):zC ρ (.bsl j off n) (.bsl i off n)
 | func (fn:Fn) (f c f' c':List PVal) (hl:f.length = f'.length) (hl':c.length = c'.length)
   (h:∀(i:Nat) p q,f[i]? =some p->f'[i]? =some q->zC ρ p q) (h':∀(i:Nat) p q,c[i]? =some p->c'[i]? =some q->zC ρ p q):zC ρ (.func fn f c) (.func fn f' c')
 |agg (f f':List PVal) (hl:f.length=f'.length) (h:∀(i:Nat) p q,f[i]? =some p->f'[i]? =some q->zC ρ p q):zC ρ (.agg f) (.agg f')
def ip(ρ:List Nat):ax->ax->Prop
 |.cells cs own,.cells cs' own'=>own=own'/\cs.length=cs'.length/\∀(i:Nat) p q,cs[i]? =some p->cs'[i]? =some q->zC ρ p q
 |.map es,.map es'=>es.length=es'.length/\∀(i:Nat) k u k' u',es[i]? =some (k,u)->es'[i]? =some (k',u')->zC ρ k k'/\zC ρ u u'
 |.dead,.dead=>True
 |_,_=>False
section
variable{P:Program}{E:nm}{Γ:aO}{bs bsC:bg}{ow:Nat->Option jk}{w:World}{a:Array Value}{st:av}{ρ:List Nat}
theorem zC.to{p q:PVal}(hr:zC ρ p q)(hb:∀(i j:Nat),ρ[i]? =some j->bsC[i]? =bs[j]?):∀{v:Value},VR Γ bs w p v->VR Γ bsC w q v:=by
 induction hr with
 |refl p h=>intro v hv;exact hv.restrict (n:=0) h fun i b hi _=>absurd hi (vaO _)
 |bptr i j off h=>intro v hv;cases hv with|bptr _ _ b h'=>exact .bptr _ _ _ ((hb i j h).trans h')
 |mapr i j h=>intro v hv;cases hv with|mapr _ b h'=>exact .mapr _ _ ((hb i j h).trans h')
 |bsl i j off n h=>intro v hv;cases hv with|bsl _ _ _ x cap hcap hnil hx=>exact .bsl _ _ _ x cap hcap hnil (hx.imp_right fun⟨b,h1,h2⟩=>⟨b,h1,(hb i j h).trans h2⟩)
 | func fn f c f' c' hl hl' _ _ ih ih' =>
  intro v hv
  cases hv with
  | func fn f c fs cs k k' h h' =>
   refine .func fn f' c' fs cs (by omega) (by omega) (fun i p v hp hv=>?_) (fun i p v hp hv=>?_)
   ·have hi:=ak hp
    have:=vab (l:=f) (i:=i) (by omega)
    exact ih i _ p this hp (h i _ v this hv)
   ·have hi:=ak hp
    have:=vab (l:=c) (i:=i) (by omega)
    exact ih' i _ p this hp (h' i _ v this hv)
 | agg f f' hl _ ih =>
  intro v hv
  cases hv with
  |agg f fs k h=>
   refine .agg f' fs (by omega) (fun i p v hp hv=>?_)
   have hi:=ak hp
   have:=vab (l:=f) (i:=i) (by omega)
   exact ih i _ p this hp (h i _ v this hv)
theorem zC.from{p q:PVal}(hr:zC ρ p q)(hb:∀(i j:Nat),ρ[i]? =some j->bsC[i]? =bs[j]?):∀{v:Value},VR Γ bsC w q v->VR Γ bs w p v:=by
 induction hr with
 |refl p h=>intro v hv;exact hv.restrict (n:=0) h fun i b hi _=>absurd hi (vaO _)
 |bptr i j off h=>intro v hv;cases hv with|bptr _ _ b h'=>exact .bptr _ _ _ ((hb i j h).symm.trans h')
 |mapr i j h=>intro v hv;cases hv with|mapr _ b h'=>exact .mapr _ _ ((hb i j h).symm.trans h')
 |bsl i j off n h=>intro v hv;cases hv with|bsl _ _ _ x cap hcap hnil hx=>exact .bsl _ _ _ x cap hcap hnil (hx.imp_right fun⟨b,h1,h2⟩=>⟨b,h1,(hb i j h).symm.trans h2⟩)
 | func fn f c f' c' hl hl' _ _ ih ih' =>
  intro v hv
  cases hv with
  | func fn f' c' fs cs k k' h h' =>
   refine .func fn f c fs cs (by omega) (by omega) (fun i p v hp hv=>?_) (fun i p v hp hv=>?_)
   ·have hi:=ak hp
    have:=vab (l:=f') (i:=i) (by omega)
    exact ih i p _ hp this (h i _ v this hv)
   ·have hi:=ak hp
    have:=vab (l:=c') (i:=i) (by omega)
    exact ih' i p _ hp this (h' i _ v this hv)
 | agg f f' hl _ ih =>
  intro v hv
  cases hv with
  |agg f' fs k h=>
   refine .agg f fs (by omega) (fun i p v hp hv=>?_)
   have hi:=ak hp
   have:=vab (l:=f') (i:=i) (by omega)
   exact ih i p _ hp this (h i _ v this hv)
theorem ip.to{B B':ax}{b:Nat}(hr:ip ρ B B')(hb:∀(i j:Nat),ρ[i]? =some j->bsC[i]? =bs[j]?)(h:BR Γ bs w B b):BR Γ bsC w B' b:=by
 cases B<;>cases B'<;>simp only[ip]at hr
 ·rename_i cs own cs' own'
  obtain⟨_,hl,hr⟩:=hr
  obtain⟨c,t,h1,h2,h3⟩:=h
  refine⟨c,t,h1,by omega,fun j p v hp hv=>?_⟩
  have hj:=ak hp
  have:=vab (l:=cs) (i:=j) (by omega)
  exact(hr j _ p this hp).to hb (h3 j _ v this hv)
 ·rename_i es es'
  obtain⟨hl,hr⟩:=hr
  obtain⟨c,t,h1,h2,h3⟩:=h
  refine⟨c,t,h1,by omega,fun j k u x hp hv=>?_⟩
  have hj:=ak hp
  have:=vab (l:=es) (i:=j) (by omega)
  obtain⟨r1,r2⟩:=hr j _ _ k u this hp
  obtain⟨q1,q2⟩:=h3 j _ _ x this hv
  exact⟨r1.to hb q1,r2.to hb q2⟩
 ·trivial
theorem ip.from{B B':ax}{b:Nat}(hr:ip ρ B B')(hb:∀(i j:Nat),ρ[i]? =some j->bsC[i]? =bs[j]?)(h:BR Γ bsC w B' b):BR Γ bs w B b:=by
 cases B<;>cases B'<;>simp only[ip]at hr
 ·rename_i cs own cs' own'
  obtain⟨_,hl,hr⟩:=hr
  obtain⟨c,t,h1,h2,h3⟩:=h
  refine⟨c,t,h1,by omega,fun j p v hp hv=>?_⟩
  have hj:=ak hp
  have:=vab (l:=cs') (i:=j) (by omega)
  exact(hr j p _ hp this).from hb (h3 j _ v this hv)
 ·rename_i es es'
  obtain⟨hl,hr⟩:=hr
  obtain⟨c,t,h1,h2,h3⟩:=h
  refine⟨c,t,h1,by omega,fun j k u x hp hv=>?_⟩
  have hj:=ak hp
  have:=vab (l:=es') (i:=j) (by omega)
  obtain⟨r1,r2⟩:=hr j k u _ _ hp this
  obtain⟨q1,q2⟩:=h3 j _ _ x this hv
  exact⟨r1.from hb q1,r2.from hb q2⟩
 ·trivial
structure uG(ρ:List Nat)(H:List ax)(Hc:List ax):Prop where
 len:Hc.length=ρ.length
 box:∀(i j:Nat),ρ[i]? =some j->∃B Bc,H[j]? =some B/\Hc[i]? =some Bc/\ip ρ B Bc
def eP(ρ:List Nat)(Γ:aO)(ow:Nat->Option jk):Nat->Option jk:=fun b=>
 match ow b with
 |some (.box j k)=>if(Γ b).isSome/\j∈ρ then some (.box (ρ.idxOf j) k)else none
 |_=>none
def rG(ρ:List Nat)(d:Nat)(owC ow:Nat->Option jk):Nat->Option jk:=fun b=>
 match owC b with
 |some (.box i k)=>some (.box (ρ.getD i 0) k)
 |some (.tmp _ k)=>some (.tmp d k)
 |none=>match ow b with
  |some (.box j k)=>if j∈ρ then none else some (.box j k)
  |x=>x
theorem oE{ρ:List Nat}(hn:ρ.Nodup){i j:Nat}(h:ρ[i]? =some j):ρ.idxOf j=i:=by
 have hi:=ak h
 have hj:ρ[i]=j:=by rw[vab hi]at h;exact vbo h
 subst hj
 exact hn.idxOf_getElem i hi
theorem Kv(h:SR P E Γ bs ow w a st){g:FuncId}{args argsC:List PVal}{r rc:PVal}{ro:List (Nat×TypeId)}{Hc Hc' H':List ax}{vs:Array Value}{d:Nat}(hd:d<a.size)
  (hn:ρ.Nodup) (hC:C P E.GE g argsC [] Hc rc ro Hc') (hH:uG ρ st.boxes Hc) (hH':uG ρ H' Hc') (hlen:H'.length=st.boxes.length) (hsame:∀j:Nat,j∉ρ->H'[j]? =st.boxes[j]?)
  (hr:zC ρ r rc) (hal:args.length=argsC.length) (ha:∀(i:Nat) p q,args[i]? =some p->argsC[i]? =some q->zC ρ p q)
  (hl:vs.size=args.length) (hv:∀(i:Nat) p v,args[i]? =some p->vs[i]? =some v->VR Γ bs w p v):
  Calls P g vs w fun e w'=>∃v Γ' ow',e=.returned v/\SR P E Γ' bs ow' w' (a.setIfInBounds d v) {st with tmps:=st.tmps.set d r,boxes:=H',own:=(ro.map fun x=>((d,x.1),x.2))++bG d st.own}/\Γ.Le w Γ' w':=by
 let bsC:bg:=ρ.map fun j=>(bs[j]?).getD none
 have hjlt:∀{i j:Nat},ρ[i]? =some j->j<st.boxes.length:=fun{i j} hij=>by
  obtain⟨B,_,hB,_⟩:=hH.box i j hij;exact ak hB
 have hbb:∀(i j:Nat),ρ[i]? =some j->bsC[i]? =bs[j]?:=by
  intro i j hij
  have hj:j<bs.length:=by rw[h.bl];exact hjlt hij
  simp[bsC,hij,vab hj]
 have hbc:∀{i b:Nat},bsC[i]? =some (some b)->∃j,ρ[i]? =some j/\bs[j]? =some (some b):=by
  intro i b hib
  have hi:i<ρ.length:=by have:=ak hib;simpa[bsC]using this
  have hij:ρ[i]? =some ρ[i]:=vab hi
  exact⟨_,hij,(hbb i _ hij).symm.trans hib⟩
 have hcow:∀{b L},eP ρ Γ ow b=some L->∃j k,ow b=some (.box j k)/\(Γ b).isSome/\j∈ρ/\L=.box (ρ.idxOf j) k:=by
  intro b L hL
  unfold eP at hL
  split at hL
  ·rename_i j k hb
   split at hL
   ·rename_i hc;cases hL;exact⟨j,k,hb,hc.1,hc.2,rfl⟩
   ·cases hL
  ·cases hL
 have hpre:SR P ⟨E.GE,Γ,w,bu bsC (eP ρ Γ ow)⟩ Γ bsC (eP ρ Γ ow) w vs ⟨argsC,Hc,[]⟩:={
  wi:=h.wi
  sz:=by simpa[hal]using hl
  tm:=fun t q v hq hv'=>by
   have ht:=ak hq
   have hp:=vab (l:=args) (i:=t) (by rw[hal];exact ht)
   exact(ha t _ q hp hq).to hbb (hv t _ v hp hv')
  bl:=by simp[bsC,hH.len]
  bx:=fun i b Bc hib hBc=>by
   obtain⟨j,hij,hjb⟩:=hbc hib
   obtain⟨B,Bc',hB,hBc',hx⟩:=hH.box i j hij
   rw[hBc]at hBc';cases hBc'
   obtain⟨k1,k2,k3⟩:=h.bx j b B hjb hB
   exact⟨k1,k2,hx.to hbb k3⟩
  inj:=fun i j b hi hj=>by
   obtain⟨x,hx,hxb⟩:=hbc hi
   obtain⟨y,hy,hyb⟩:=hbc hj
   have:=h.inj x y b hxb hyb
   subst this
   rw[<-oE hn hx,oE hn hy]
  bn:=fun i b hb=>.inl (.inl ⟨i,hb⟩)
  on:=fun b L hL=>by
   obtain⟨j,k,hb,_⟩:=hcow hL
   exact⟨(h.on b _ hb).1,.inl (.inr (by rw[hL];simp))⟩
  ot:=fun t k e he=>by simp at he
  ob:=fun i k e cs own b hB hk hb=>by
   obtain⟨j,hij,hjb⟩:=hbc hb
   obtain⟨B,Bc',hB',hBc',hx⟩:=hH.box i j hij
   rw[hB]at hBc';cases hBc'
   cases B with
   |cells cs' own'=>
    obtain⟨rfl,_,_⟩:=hx
    obtain⟨v,k1,k2,k3⟩:=h.ob j k e cs' own' b hB' hk hjb
    refine⟨v,k1,k2,fun b' hb'=>?_⟩
    have hg:(Γ b').isSome:=by obtain⟨n,xs,_,o2⟩:=k2;rw[o2 b' hb'];rfl
    simp only[eP,k3 b' hb']
    rw[vaj ⟨hg,vay hij⟩,oE hn hij]
   |map es=>simp[ip]at hx
   |dead=>simp[ip]at hx
  gl:=fun g cs hg=>(h.gl g cs hg).restrict (n:=0) (by simp only[PVal.cl];exact h.gc g cs hg) (fun i b hi _=>absurd hi (vaO _))
  gc:=h.gc
  gx:=fun g cs hg=>by
   obtain⟨k1,k2,k3,k4⟩:=h.gnow hg
   refine⟨k1,fun hT=>?_,k4⟩
   rcases hT with⟨i,hi⟩|hT
   ·obtain⟨j,_,hjb⟩:=hbc hi
    exact k2 j g hjb rfl
   ·cases hL:eP ρ Γ ow g with
    |none=>exact hT hL
    |some L=>
     obtain⟨j,k,hk',_⟩:=hcow hL
     rw[k3]at hk';cases hk'
  step:=.refl _ _ _ _}
 refine(hC.2 Γ bsC _ w vs hpre).mono fun e w' he=>?_
 obtain⟨v,Γ',owC,rfl,hS⟩:=he
 have hle:Γ.Le w Γ' w':=hS.step.le
 have hTE:∀b,bu bsC (eP ρ Γ ow) b->E.T b\/E.w.heap.size<=b:=by
  intro b hb
  rcases hb with⟨i,hi⟩|hb
  ·obtain⟨j,_,hjb⟩:=hbc hi
   exact h.bn j b hjb
  ·cases hL:eP ρ Γ ow b with
   |none=>exact absurd hL hb
   |some L=>
    obtain⟨j,k,hk,_⟩:=hcow hL
    exact(h.on b _ hk).2
 have hkeep:∀b,b<w.heap.size->¬bu bsC (eP ρ Γ ow) b->w'.heap[b]? =w.heap[b]?/\Γ' b=Γ b:=fun b hb hT=>hS.step.keep b hb hT
 have hnotT_own:∀{b L},ow b=some L->(Γ b).isSome->(∀j k,L=.box j k->j∉ρ)->¬bu bsC (eP ρ Γ ow) b:=by
  intro b L hL hg hne hT
  rcases hT with⟨i,hi⟩|hT
  ·obtain⟨j,hij,hjb⟩:=hbc hi
   obtain⟨B,_,hB,_⟩:=hH.box i j hij
   rw[(h.bx j b B hjb hB).1]at hg;cases hg
  ·cases hL':eP ρ Γ ow b with
   |none=>exact hT hL'
   |some L'=>
    obtain⟨j,k,hk,_,hj,_⟩:=hcow hL'
    rw[hL]at hk;cases hk
    exact hne j k rfl hj
 have hnotT_box:∀{j b:Nat},bs[j]? =some (some b)->j∉ρ->¬bu bsC (eP ρ Γ ow) b:=by
  intro j b hjb hj hT
  rcases hT with⟨i,hi⟩|hT
  ·obtain⟨j',hij,hjb'⟩:=hbc hi
   have:=h.inj _ _ _ hjb hjb'
   subst this
   exact hj (vay hij)
  ·cases hL':eP ρ Γ ow b with
   |none=>exact hT hL'
   |some L'=>
    obtain⟨j',k,hk,hg,_⟩:=hcow hL'
    have hjl:j<st.boxes.length:=by rw[<-h.bl];exact ak hjb
    rw[(h.bx j b _ hjb (vab hjl)).1]at hg;cases hg
 have hold:∀{b L},ow b=some L->(Γ b).isSome->(∀j k,L=.box j k->j∉ρ)->rG ρ d owC ow b=some L:=by
  intro b L hL hg hne
  have hT:=hnotT_own hL hg hne
  have hnone:owC b=none:=by
   cases hx:owC b with
   |none=>rfl
   | some L' =>
    obtain⟨_,k2⟩:=hS.on b L' hx
    rcases k2 with k2|k2
    ·exact absurd k2 hT
    ·have:=(h.on b L hL).1
     exact absurd k2 (vci.2 this)
  unfold rG
  rw[hnone]
  simp only[hL]
  cases L with
  |tmp t k=>rfl
  |box j k=>simp only;rw[van (hne j k rfl)]
 have howned:∀{v:Value} {e:TypeId} {b:Nat},fQ P Γ w v e->v.ownBlock=some b->(Γ b).isSome:=by
  intro v e b ho hb
  obtain⟨n,xs,_,o2⟩:=ho
  rw[o2 b hb];rfl
 have hrv:VR Γ' bs w' r v:=hr.from hbb (hS.tm 0 rc v rfl rfl)
 refine⟨v,Γ',rG ρ d owC ow,rfl,?_,hle⟩
 exact{
  wi:=hS.wi
  sz:=by simp[h.sz]
  tm:=fun t q u hq hu=>by
   simp only[vbI]at hq
   rw[vbD]at hu
   by_cases hdt:d=t
   ·subst hdt
    simp only[if_true]at hq hu
    split at hu
    ·split at hq
     ·cases hu;cases hq;exact hrv
     ·cases hq
    ·rename_i hnd;exact absurd hd hnd
   ·simp only[hdt,if_false]at hq hu
    exact(h.tm t q u hq hu).mono hle (.refl _)
  bl:=by simp[h.bl,hlen]
  bx:=fun j b B hjb hB=>by
   by_cases hj:j∈ρ
   ·obtain⟨i,hij⟩:=vbe.1 hj
    obtain⟨B',Bc,hB',hBc,hx⟩:=hH'.box i j hij
    rw[hB]at hB';cases hB'
    obtain⟨k1,k2,k3⟩:=hS.bx i b Bc ((hbb i j hij).trans hjb) hBc
    exact⟨k1,k2,hx.from hbb k3⟩
   ·have hB0:st.boxes[j]? =some B:=(hsame j hj).symm.trans hB
    obtain⟨k1,k2,k3⟩:=h.bx j b B hjb hB0
    obtain⟨q1,q2⟩:=hkeep b k2 (hnotT_box hjb hj)
    exact⟨q2.trans k1,vaF k2 hS.step.size,k3.mono hle (.refl _) q1⟩
  inj:=h.inj
  bn:=h.bn
  on:=fun b L hL=>by
   unfold rG at hL
   split at hL
   ·rename_i i k hb
    obtain⟨k1,k2⟩:=hS.on b _ hb
    exact⟨k1,k2.elim (hTE b) (fun hx=>.inr (vaX h.step.size hx))⟩
   ·rename_i t k hb
    obtain⟨k1,k2⟩:=hS.on b _ hb
    exact⟨k1,k2.elim (hTE b) (fun hx=>.inr (vaX h.step.size hx))⟩
   ·have hsz:=hS.step.size
    split at hL
    ·rename_i j k hb
     exact⟨vaF (h.on b _ hb).1 hsz,(h.on b _ hb).2⟩
    ·exact⟨vaF (h.on b _ hL).1 hsz,(h.on b _ hL).2⟩
  ot:=fun t k e he=>by
   rcases vaB.1 he with he|he
   ·simp only[vaq,Prod.mk.injEq]at he
    obtain⟨⟨k',e'⟩,hm,⟨rfl,rfl⟩,rfl⟩:=he
    obtain⟨u,v',h1,h2,h3,h4⟩:=hS.ot 0 k' e' (vaq.2 ⟨(k',e'),hm,rfl⟩)
    simp at h1;subst h1
    refine⟨v,v',by simp[hd],h2,h3,fun b hb=>?_⟩
    simp only[rG,h4 b hb]
   ·obtain⟨he,htd⟩:=dn he
    obtain⟨u,v',h1,h2,h3,h4⟩:=h.ot t k e he
    have hq:∀b,v'.ownBlock=some b->¬bu bsC (eP ρ Γ ow) b:=fun b hb=>hnotT_own (h4 b hb) (howned h3 hb) (fun j k hx=>by cases hx)
    exact⟨u,v',by rw[vaQ (fun e=>htd e.symm)];exact h1,h2,h3.same fun b hb=>hkeep b (h3.lt hb) (hq b hb),fun b hb=>hold (h4 b hb) (howned h3 hb) (fun j k hx=>by cases hx)⟩
  ob:=fun j k e cs own b hB hk hjb=>by
   by_cases hj:j∈ρ
   ·obtain⟨i,hij⟩:=vbe.1 hj
    obtain⟨B',Bc,hB',hBc,hx⟩:=hH'.box i j hij
    rw[hB]at hB';cases hB'
    cases Bc with
    |cells cs' own'=>
     obtain⟨rfl,_,_⟩:=hx
     obtain⟨v',k1,k2,k3⟩:=hS.ob i k e cs' own b hBc hk ((hbb i j hij).trans hjb)
     refine⟨v',k1,k2,fun b' hb'=>?_⟩
     have hgd:ρ.getD i 0=j:=by rw[vah,hij];rfl
     simp only[rG,k3 b' hb',hgd]
    |map es=>simp[ip]at hx
    |dead=>simp[ip]at hx
   ·have hB0:st.boxes[j]? =some (.cells cs own):=(hsame j hj).symm.trans hB
    obtain⟨v',k1,k2,k3⟩:=h.ob j k e cs own b hB0 hk hjb
    obtain⟨_,hlt,_⟩:=h.bx j b _ hjb hB0
    have hne:∀j' k',jk.box j k=.box j' k'->j'∉ρ:=fun j' k' hx=>by cases hx;exact hj
    exact⟨v',(bF (hkeep b hlt (hnotT_box hjb hj)).1 k).trans k1,k2.same fun b' hb'=>hkeep b' (k2.lt hb') (hnotT_own (k3 b' hb') (howned k2 hb') hne),fun b' hb'=>hold (k3 b' hb') (howned k2 hb') hne⟩
  gl:=fun g cs hg=>(h.gl g cs hg).mono hle (.refl _)
  gc:=h.gc
  gx:=h.gx
  step:={
   os:=hS.step.os.trans h.step.os
   tape:=hS.step.tape.trans h.step.tape
   output:=hS.step.output.trans h.step.output
   size:=vaX h.step.size hS.step.size
   keep:=fun b hb hT=>by
    have hlt:b<w.heap.size:=vaF hb h.step.size
    have hnT:¬bu bsC (eP ρ Γ ow) b:=fun hx=>(hTE b hx).elim hT (fun hx=>absurd hx (vci.2 hb))
    obtain⟨k1,k2⟩:=h.step.keep b hb hT
    obtain⟨q1,q2⟩:=hkeep b hlt hnT
    exact⟨q1.trans k1,q2.trans k2⟩
   le:=h.step.le.trans hle}}
end
def yY(P:Program)(GE:List (Nat×List PVal))(fv:PVal)(args:List PVal)(H:List ax)(K:PVal->List (Nat×TypeId)->List ax->Prop):Prop:=
 match fv with
 | .func (.func g) first cap =>
  (iB 0 (first++args++cap)/\∃r ro,C P GE g (first++args++cap) [] [] r ro []/\K r ro H)\/
  (∃(ρ:List Nat) (argsC:List PVal) (Hc:List ax) (rc:PVal) (ro:List (Nat×TypeId)) (Hc' H':List ax) (r:PVal),ρ.Nodup/\C P GE g argsC [] Hc rc ro Hc'/\uG ρ H Hc/\uG ρ H' Hc'/\
   H'.length=H.length/\(∀j:Nat,j∉ρ->H'[j]? =H[j]?)/\zC ρ r rc/\(first++args++cap).length=argsC.length/\
   (∀(i:Nat) p q,(first++args++cap)[i]? =some p->argsC[i]? =some q->zC ρ p q)/\K r ro H')
 |_=>False
def Hi(P:Program)(GE:List (Nat×List PVal))(op:Op)(id:Nat)(v:Operand->PVal)(H:List ax)(K:PVal->List (Nat×TypeId)->List ax->Prop):Prop:=
 match op with
 |.call {callee:=.value f,args,..}=>yY P GE (v f) (args.toList.map v) H K
 |op=>match ni P op id v H with
  |some (p,H')=>K p [] H'
  |none=>False
def rm(st:av)(dst:Option Tmp)(p:PVal)(ro:List (Nat×TypeId))(H:List ax):av:=
 match dst with
 |some d=>{tmps:=st.tmps.set d p,boxes:=H,own:=(ro.map fun x=>((d,x.1),x.2))++bG d st.own}
 |none=>{st with boxes:=H}
def oh(P:Program)(t:TypeId)(v:Value):Option TypeId:=
 match v,P.underlying t with
 |.slice none 0 0,some (.slice e)=>some e
 |_,_=>none
def kf(o:Oper)(n:Nat):Bool:=
 match o.op with
 |.call {callee:=.value _,..}=>o.dst.any fun d=>decide (d<n)
 |_=>true
def CL(P:Program)(GE:List (Nat×List PVal))(A:List Nat)(o:Oper)(id:Nat)(K:av->Prop)(st:av):Prop:=
 let plain:=kf o st.tmps.length=true/\Hi P GE o.op id (opv GE st.tmps) st.boxes fun p ro H=>K (rm st o.dst p ro H)
 match o.op,o.dst with
 |.assign (.tmp t),some d=>d<st.tmps.length/\K {st with tmps:=st.tmps.set d (st.tmps.getD t .undef),own:=fP d (fun x=>if x.1=t then(d,x.2)else x) st.own}
 |.move (.tmp t),some d=>
  if d∈A then d<st.tmps.length/\K {st with tmps:=st.tmps.set d (st.tmps.getD t .undef),own:=fP d (fun x=>if x.1=t then(d,x.2)else x) st.own}else plain
 |.assign (.const v),some d=>match oh P o.type v with
  |some e=>d<st.tmps.length/\K {st with tmps:=st.tmps.set d (.slice []),own:=((d,0),e)::bG d st.own}
  |none=>plain
 |.move (.const v),some d=>match oh P o.type v with
  |some e=>d<st.tmps.length/\K {st with tmps:=st.tmps.set d (.slice []),own:=((d,0),e)::bG d st.own}
  |none=>plain
 |.extract (.tmp t) i,some d=>match po (st.tmps.getD t .undef) i with
  |some p=>d<st.tmps.length/\K {st with tmps:=st.tmps.set d p,own:=fP d (fun x=>if x=(t,i)then(d,0)else x) st.own}
  |none=>False
 |.buildSlice T len parts,some d=>match d6 P T len (parts.toList.map fun x=>(x.1,opv GE st.tmps x.2)),P.underlying T with
  |some p,some (.slice e)=>d<st.tmps.length/\K {st with tmps:=st.tmps.set d p,own:=((d,0),e)::bG d st.own}
  |_,_=>False
 | .call { callee := .builtin .append,args:=⟨[.tmp t,y]⟩,argTypes:=⟨[T,T']⟩ },some d => match P.underlying T,st.tmps.getD t .undef,opv GE st.tmps y with
  |some (.slice e),.slice es,.slice ns=>match iv P T es ns with
   |some p=>T=T'/\d<st.tmps.length/\((t,0),e)∈st.own/\K {st with tmps:=st.tmps.set d p,own:=((d,0),e)::bG d (st.own.filter fun x=>x.1 !=(t,0))}
   |none=>False
  |_,_,_=>False
 | .load T x,some d =>
  if d∈A then match opv GE st.tmps x,P.underlying T with
   | .bptr i off,some (.slice e) => match st.boxes[i]? with
    |some (.cells cs own)=>match cs[off]? with
     |some p=>d<st.tmps.length/\(off,e)∈own/\K {tmps:=st.tmps.set d p,boxes:=st.boxes.set i (.cells cs (own.filter fun x=>x.1 !=off)),own:=((d,0),e)::bG d st.own}
     |none=>False
    |_=>False
   |_,_=>False
  else plain
 | .store T x (.tmp t),_ => match st.own.find? (fun y => y.1 == (t,0)),opv GE st.tmps x,cY P T (opv GE st.tmps x) (st.tmps.getD t .undef) st.boxes with
  |some (_,e),.bptr i off,some H=>match H[i]?,(st.tmps.getD t .undef).one with
   |some (.cells cs own),true=>K (rm {st with own:=st.own.filter fun x=>x.1 !=(t,0)} o.dst (.val undef) [] (H.set i (.cells cs ((off,e)::own))))
   |_,_=>plain
  |_,_,_=>plain
 |_,_=>plain
section
variable{P:Program}{E:nm}{Γ:aO}{bs:bg}{ow:Nat->Option jk}{w:World}{a:Act}{st:av}
def eI(P:Program)(E:nm)(bs:bg)(id:Nat)(mk:Bool)(ds:List Deferred)(K:av->Prop)(a:Act)(w:World):Prop:=
 a.defers=ds/\∃Γ bs' ow st,SR P E Γ bs' ow w a.tmps st/\K st/\(bs'=bs\/(mk=true/\∃b,bs'=bs.set id (some b)))
theorem SR.putv_nil(h:SR P E Γ bs ow w a.tmps st){p:PVal}{v:Value}(hv:VR Γ bs w p v)(dst:Option Tmp){H:List ax}(hH:H=st.boxes):
  SR P E Γ bs ow w (a.put dst v).tmps (rm st dst p [] H):=by
 subst hH
 cases dst with
 |none=>exact h
 |some d=>exact h.set hv
theorem cr(a:Act)(dst:Option Tmp)(v:Value):(a.put dst v).defers=a.defers:=by cases dst<;>rfl
theorem yJ{n:Nat}{l r:List PVal}:iB n (l++r)↔iB n l/\iB n r:=by
 induction l with
 |nil=>simp[iB]
 |cons p l ih=>simp only[vbw,iB,ih];exact⟨fun h=>⟨⟨h.1,h.2.1⟩,h.2.2⟩,fun h=>⟨h.1.1,h.1.2,h.2⟩⟩
theorem wt{l r:List PVal}{x y:Array Value}(hl:x.size=l.length)(h:∀(i:Nat) p v,l[i]? =some p->x[i]? =some v->VR Γ bs w p v)(h':∀(i:Nat) p v,r[i]? =some p->y[i]? =some v->VR Γ bs w p v)
  (i:Nat) (p:PVal) (v:Value) (hp:(l++r)[i]? =some p) (hv:(x++y)[i]? =some v):VR Γ bs w p v:=by
 by_cases hi:i<l.length
 ·rw[vac hi]at hp
  rw[vaH (by omega)]at hv
  exact h i p v hp hv
 ·rw[vad (by omega)]at hp
  rw[vb6 (by omega),hl]at hv
  exact h' _ p v hp hv
theorem Iz(h:SR P E Γ bs ow w a.tmps st){o:Oper}{f:Operand}{args:Array Operand}{tys:Array TypeId}(ho:o.op=.call {callee:=.value f,args,argTypes:=tys}){d:Nat}(hdst:o.dst=some d)(hd:d<st.tmps.length)
  {K:PVal->List (Nat×TypeId)->List ax->Prop} (hp:yY P E.GE (opv E.GE st.tmps f) (args.toList.map (opv E.GE st.tmps)) st.boxes K) (jR:Act->World->Prop) (Q:Exit->Act->World->Prop)
  (hn:∀v Γ' ow' w' p ro H,K p ro H->SR P E Γ' bs ow' w' (a.put o.dst v).tmps (rm st o.dst p ro H)->jR (a.put o.dst v) w'):o.wp P a w jR Q:=by
 have hρ:∀x,VR Γ bs w (opv E.GE st.tmps x) (a.eval x):=fun x=>h.opv a.defers x
 unfold yY at hp
 have hf:=hρ f
 split at hp
 case h_2=>exact hp.elim
 rename_i g first cap hfv
 rw[hfv]at hf
 generalize hvf:a.eval f=vf at hf
 cases hf with
 |func _ _ _ fs cs hl hl' h1 h2=>
 have hargs:(fs++args.map a.eval++cs).size=(first++args.toList.map (opv E.GE st.tmps)++cap).length:=by simp[hl,hl']
 have hvr:∀(i:Nat) p v,(first++args.toList.map (opv E.GE st.tmps)++cap)[i]? =some p->(fs++args.map a.eval++cs)[i]? =some v->VR Γ bs w p v:=by
  refine wt (by simp[hl]) (wt hl h1 fun i p v hp hv=>?_) h2
  exact wC hρ args.toList i p v hp (by simpa using hv)
 have hrun:∀hcall:(∀vs w,(callFunc g vs).run P w=.ok (.enter g vs) w),(execOp a.eval o).run P w=.ok (.enter g (fs++args.map a.eval++cs)) w:=by
  intro hcall
  simp[execOp,ho,resolve,hvf,Deferred.ofValue,invoke,hcall]
 have hds:d<a.tmps.size:=by rw[h.sz];exact hd
 unfold Oper.wp
 rcases hp with⟨hcl,r,ro,hC,hK⟩|⟨ρ,argsC,Hc,rc,ro,Hc',H',r,hnd,hC,hH,hH',hlen,hsame,hr,hal,ha,hK⟩
 ·rw[hrun hC.1]
  rw[Oper.upon_enter]
  refine(Md h hds hC hargs hvr hcl).mono fun e w' he=>?_
  obtain⟨v,Γ',ow',rfl,hS,_⟩:=he
  refine hn v Γ' ow' w' r ro st.boxes hK ?_
  rw[hdst];exact hS
 ·rw[hrun hC.1]
  rw[Oper.upon_enter]
  refine(Kv h hds hnd hC hH hH' hlen hsame hr hal ha hargs hvr).mono fun e w' he=>?_
  obtain⟨v,Γ',ow',rfl,hS,_⟩:=he
  refine hn v Γ' ow' w' r ro H' hK ?_
  rw[hdst];exact hS
theorem J8{o:Oper}{jR:Act->World->Prop}{Q:Exit->Act->World->Prop}{r:Next}{v:Value}{w':World}(hr:r=.value v\/(r=.skip/\v=undef))(h:jR (a.put o.dst v) w'):o.upon P a jR Q (.ok r w'):=by
 rcases hr with rfl|⟨rfl,rfl⟩
 ·exact h
 ·exact h
theorem MG(h:SR P E Γ bs ow w a.tmps st){o:Oper}{id:Nat}(hid:ay o.op=true->bs[id]? =some none){K:PVal->List (Nat×TypeId)->List ax->Prop}(hp:Hi P E.GE o.op id (opv E.GE st.tmps) st.boxes K)
  (jR:Act->World->Prop) (Q:Exit->Act->World->Prop)
  (hdst:∀f args tys,o.op=.call {callee:=.value f,args,argTypes:=tys}->∃d,o.dst=some d/\d<st.tmps.length)
  (hn:∀v Γ' bs' ow' w' p ro H,K p ro H->SR P E Γ' bs' ow' w' (a.put o.dst v).tmps (rm st o.dst p ro H)->(bs'=bs\/(ay o.op=true/\∃b,bs'=bs.set id (some b)))->jR (a.put o.dst v) w'):o.wp P a w jR Q:=by
 unfold Hi at hp
 split at hp
 ·rename_i f args tys ho
  obtain⟨d,hd,hdl⟩:=hdst f args tys ho
  exact Iz h ho hd hdl hp jR Q fun v Γ' ow' w' p ro H hK hS=>hn v Γ' bs ow' w' p ro H hK hS (.inl rfl)
 ·split at hp
  ·rename_i p H he
   obtain⟨r,v,w',Γ',bs',h1,h2,h3,h4,h5,h6,h7⟩:=MH h a.defers hid he
   unfold Oper.wp
   rw[show(execOp a.eval o).run P w=.ok r w' from h1]
   refine J8 h2 (hn v Γ' bs' ow w' p [] H hp ?_ ?_)
   ·cases hd:o.dst with
    |none=>exact h3
    |some d=>exact h3.set h4
   ·rcases h6 with h6|⟨hm,h6⟩
    ·exact .inl h6
    ·exact .inr ⟨hm,_,h6⟩
  ·exact hp.elim
theorem Ji{o:Oper}{n:Nat}(h:kf o n=true)(f:Operand)(args:Array Operand)(tys:Array TypeId)(ho:o.op=.call {callee:=.value f,args,argTypes:=tys}):∃d,o.dst=some d/\d<n:=by
 unfold kf at h
 rw[ho]at h
 cases hd:o.dst with
 |none=>rw[hd]at h;cases h
 |some d=>rw[hd]at h;exact⟨d,rfl,by simpa using h⟩
theorem eI.of{o:Oper}{id:Nat}{K:av->Prop}(h:SR P E Γ bs ow w a.tmps st)(hid:ay o.op=true->bs[id]? =some none)(hc:kf o st.tmps.length=true)
  (hp:Hi P E.GE o.op id (opv E.GE st.tmps) st.boxes fun p ro H=>K (rm st o.dst p ro H)) (Q:Exit->Act->World->Prop):
  o.wp P a w (eI P E bs id (ay o.op) a.defers K) Q:=
 MG h hid hp _ Q (Ji hc) fun _ Γ' bs' ow' _ _ _ _ hK hS hb=>⟨cr _ _ _,Γ',bs',ow',_,hS,hK,hb⟩
theorem DX(h:SR P E Γ bs ow w a.tmps st){t:Nat}{v:Value}(ht:a.tmps[t]? =some v):VR Γ bs w (st.tmps.getD t .undef) v:=by
 have hlt:t<st.tmps.length:=by rw[<-h.sz];exact(vao.1 ht).1
 have:=h.tm t _ v (vab hlt) ht
 rwa[vah,vab hlt]
theorem jN{t:Nat}{v:Value}(ht:a.tmps[t]? =some v):a.eval (.tmp t)=v:=by
 show a.tmps.getD t undef=v
 rw[vav,ht];rfl
theorem tA(h:SR P E Γ bs ow w a.tmps st){o:Oper}{id t d:Nat}{K:av->Prop}(ho:o.op=.assign (.tmp t)\/o.op=.move (.tmp t))(hdst:o.dst=some d)(hd:d<st.tmps.length)
  (hK:K {st with tmps:=st.tmps.set d (st.tmps.getD t .undef),own:=fP d (fun x=>if x.1=t then(d,x.2)else x) st.own}) (Q:Exit->Act->World->Prop):
  o.wp P a w (eI P E bs id (ay o.op) a.defers K) Q:=by
 unfold Oper.wp
 have hrun:(execOp a.eval o).run P w=.ok (.value (a.eval (.tmp t))) w:=by rcases ho with ho|ho<;>simp[execOp,ho]
 rw[hrun,Oper.upon_value]
 have hv:VR Γ bs w (st.tmps.getD t .undef) (a.eval (.tmp t)):=h.opv a.defers (.tmp t)
 have:=h.setRen (d:=d) (p:=st.tmps.getD t .undef) hv (fun x=>if x.1=t then(d,x.2)else x) (by rw[h.sz];exact hd) fun t' k' e' _ ht'=>by
  by_cases hx:t'=t
  ·subst hx
   exact .inr ⟨k',by simp,fun u v' hu hv' _=>by rw[jN hu];exact hv'⟩
  ·exact .inl (by simp[hx])
 have hput:∀v,(a.put o.dst v).tmps=a.tmps.setIfInBounds d v:=fun v=>by rw[hdst];rfl
 rw[<-hput]at this
 exact⟨cr _ _ _,Γ,bs,_,_,this,hK,.inl rfl⟩
theorem BQ(h:SR P E Γ bs ow w a.tmps st){o:Oper}{id d:Nat}{e:TypeId}{v:Value}{K:av->Prop}(ho:o.op=.assign (.const v)\/o.op=.move (.const v))(hdst:o.dst=some d)(hd:d<st.tmps.length)
  (hn:oh P o.type v=some e) (hK:K {st with tmps:=st.tmps.set d (.slice []),own:=((d,0),e)::bG d st.own}) (Q:Exit->Act->World->Prop):
  o.wp P a w (eI P E bs id (ay o.op) a.defers K) Q:=by
 unfold Oper.wp
 have hrun:(execOp a.eval o).run P w=.ok (.value v) w:=by rcases ho with ho|ho<;>simp[execOp,ho,Act.eval]
 rw[hrun,Oper.upon_value]
 have hv:v=.slice none 0 0:=by
  unfold oh at hn
  split at hn
  ·rfl
  ·cases hn
 subst hv
 have h1:=h.set (d:=d) (p:=.slice []) (v:=.slice none 0 0) .sliceNil
 have hds:d<a.tmps.size:=by rw[h.sz];exact hd
 have h2:=h1.addOwn (d:=d) (k:=0) (e:=e) (u:=.slice none 0 0) (v:=.slice none 0 0) (by simp[hds]) rfl ⟨0,[],World.ownsRow_nil _ _ _ _,fun b hb=>by simp[Value.ownBlock]at hb⟩ (fun b hb=>by simp[Value.ownBlock]at hb)
 have hput:∀v,(a.put o.dst v).tmps=a.tmps.setIfInBounds d v:=fun v=>by rw[hdst];rfl
 rw[<-hput]at h2
 exact⟨cr _ _ _,Γ,bs,_,_,h2,hK,.inl rfl⟩
theorem Gx(h:SR P E Γ bs ow w a.tmps st){o:Oper}{id t i d:Nat}{p:PVal}{K:av->Prop}(ho:o.op=.extract (.tmp t) i)(hdst:o.dst=some d)(hd:d<st.tmps.length)
  (hp:po (st.tmps.getD t .undef) i=some p)
  (hK:K {st with tmps:=st.tmps.set d p,own:=fP d (fun x=>if x=(t,i)then(d,0)else x) st.own}) (Q:Exit->Act->World->Prop):
  o.wp P a w (eI P E bs id (ay o.op) a.defers K) Q:=by
 unfold Oper.wp
 obtain⟨v,hr,hv⟩:=Aj (P:=P) (h.opv a.defers (.tmp t)) hp
 have hrun:(execOp a.eval o).run P w=.ok (.value v) w:=by simp[execOp,ho,hr]
 rw[hrun,Oper.upon_value]
 have htup:∃vs,a.eval (.tmp t)=.tuple vs/\vs[i]? =some v:=by
  have hx:(Instr.extract (a.eval (.tmp t)) i).run P w=.ok v w:=hr
  unfold Instr.extract at hx
  split at hx
  ·rename_i vs he
   split at hx
   ·rename_i u hu
    simp at hx;subst hx
    exact⟨vs,he,hu⟩
   ·simp at hx
  ·simp at hx
 obtain⟨vs,htu,hvi⟩:=htup
 have:=h.setRen (d:=d) (p:=p) hv (fun x=>if x=(t,i)then(d,0)else x) (by rw[h.sz];exact hd) fun t' k' e' _ ht'=>by
  by_cases hx:(t',k')=(t,i)
  ·cases hx
   refine .inr ⟨0,by simp,fun u v' hu hv' ho'=>?_⟩
   rw[jN hu]at htu
   subst htu
   have hvv:v=v':=by
    have:vs[i]? =some v':=hv'
    rw[hvi]at this;cases this;rfl
   subst hvv
   obtain⟨n,xs,⟨_,ho'⟩,_⟩:=ho'
   rcases ho' with⟨rfl,_⟩|⟨g,cap,cur,rfl,_⟩<;>rfl
  ·exact .inl (by simp[hx])
 have hput:∀v,(a.put o.dst v).tmps=a.tmps.setIfInBounds d v:=fun v=>by rw[hdst];rfl
 rw[<-hput]at this
 exact⟨cr _ _ _,Γ,bs,_,_,this,hK,.inl rfl⟩
theorem rF(h:SR P E Γ bs ow w a.tmps st){o:Oper}{id len d:Nat}{T e:TypeId}{parts:Array (Nat×Operand)}{p:PVal}{K:av->Prop}(ho:o.op=.buildSlice T len parts)(hdst:o.dst=some d)(hd:d<st.tmps.length)
  (hT:P.underlying T=some (.slice e)) (hp:d6 P T len (parts.toList.map fun x=>(x.1,opv E.GE st.tmps x.2))=some p)
  (hK:K {st with tmps:=st.tmps.set d p,own:=((d,0),e)::bG d st.own}) (Q:Exit->Act->World->Prop):
  o.wp P a w (eI P E bs id (ay o.op) a.defers K) Q:=by
 have hρ:∀x,VR Γ bs w (opv E.GE st.tmps x) (a.eval x):=fun x=>h.opv a.defers x
 obtain⟨k1,k2⟩:=rZ hρ parts.toList
 obtain⟨v,w',Γ',h1,h2,h3,h4,h5,h6⟩:=ua h k1 k2 hp
 have hrun:(execOp a.eval o).run P w=.ok (.value v) w':=by
  have:(parts.map fun x=>(x.1,a.eval x.2))=(parts.toList.map fun x=>(x.1,a.eval x.2)).toArray:=by apply vbJ;simp
  simp only[execOp,ho]
  rw[this]
  simp[h1]
 unfold Oper.wp
 rw[hrun,Oper.upon_value]
 have hds:d<a.tmps.size:=by rw[h.sz];exact hd
 have g1:=h2.set (d:=d) h4
 have g2:=g1.addOwn (d:=d) (k:=0) (e:=e) (u:=v) (v:=v) (by simp[hds]) (by
   obtain⟨n,xs,⟨_,ho'⟩,_⟩:=h5 e hT
   rcases ho' with⟨rfl,_⟩|⟨g,cap,cur,rfl,_⟩<;>rfl) (h5 e hT) (fun b hb=>by
   have:=h6 b hb;subst this
   refine⟨?_,.inr h.step.size⟩
   cases hL:ow w.heap.size with
   |none=>rfl
   |some L=>exact absurd (h.on _ L hL).1 (vbN _))
 have hput:∀v,(a.put o.dst v).tmps=a.tmps.setIfInBounds d v:=fun v=>by rw[hdst];rfl
 rw[<-hput]at g2
 exact⟨cr _ _ _,Γ',bs,_,_,g2,hK,.inl rfl⟩
theorem fQ.part{v:Value}{e:TypeId}(h:fQ P Γ w v e):gU v 0=some v:=by
 obtain⟨n,xs,⟨_,ho⟩,_⟩:=h
 rcases ho with⟨rfl,_⟩|⟨g,cap,cur,rfl,_⟩<;>rfl
theorem Iu{u v:Value}(hu:gU u 0=some v)(hs:∀vs,u≠.tuple vs)(ha:∀vs,u≠.agg vs):u=v:=by
 cases u<;>simp[gU]at hu<;>first|exact hu|(exact absurd rfl (hs _))|(exact absurd rfl (ha _))
theorem zL(h:SR P E Γ bs ow w a.tmps st){o:Oper}{id t d:Nat}{T e:TypeId}{y:Operand}{es ns:List (List PVal)}{p:PVal}{K:av->Prop}(ho:o.op=.call {callee:=.builtin .append,args:=⟨[.tmp t,y]⟩,argTypes:=⟨[T,T]⟩})
  (hdst:o.dst=some d) (hd:d<st.tmps.length) (hT:P.underlying T=some (.slice e)) (het:st.tmps.getD t .undef=.slice es) (hen:opv E.GE st.tmps y=.slice ns) (hp:iv P T es ns=some p) (hmem:((t,0),e)∈st.own)
  (hK:K {st with tmps:=st.tmps.set d p,own:=((d,0),e)::bG d (st.own.filter fun x=>x.1 !=(t,0))}) (Q:Exit->Act->World->Prop):
  o.wp P a w (eI P E bs id (ay o.op) a.defers K) Q:=by
 obtain⟨u,v,h1,h2,h3,h4⟩:=h.ot t 0 e hmem
 have hvt:=DX h h1
 rw[het]at hvt
 have huv:u=v:=Iu h2 (fun vs hx=>by subst hx;cases hvt) (fun vs hx=>by subst hx;cases hvt)
 subst huv
 have hf:=h.freeT t 0
 have hy:VR Γ bs w (opv E.GE st.tmps y) (a.eval y):=h.opv a.defers y
 rw[hen]at hy
 obtain⟨v',w',Γ',r1,r2,r3,r4,r5,r6⟩:=JI (ty:=o.type) hf hT hvt hy h3 (fun b hb=>⟨by simp[h4 b hb],(h.on b _ (h4 b hb)).2⟩) hp
 have hrun:(execOp a.eval o).run P w=.ok (.value v') w':=by
  simp[execOp,ho,resolve,invoke,builtin,jN h1,r1]
 unfold Oper.wp
 rw[hrun,Oper.upon_value]
 have hds:d<a.tmps.size:=by rw[h.sz];exact hd
 have g1:=r2.set (d:=d) r4
 have g2:=g1.addOwn (d:=d) (k:=0) (e:=e) (u:=v') (v:=v') (by simp[hds]) r5.part r5 r6
 have hput:∀v,(a.put o.dst v).tmps=a.tmps.setIfInBounds d v:=fun v=>by rw[hdst];rfl
 rw[<-hput]at g2
 exact⟨cr _ _ _,Γ',bs,_,_,g2,hK,.inl rfl⟩
theorem xu(h:SR P E Γ bs ow w a.tmps st){o:Oper}{id i off d:Nat}{T e:TypeId}{x:Operand}{p:PVal}{cs:List PVal}{own:List (Nat×TypeId)}{K:av->Prop}(ho:o.op=.load T x)
  (hdst:o.dst=some d) (hd:d<st.tmps.length) (hT:P.underlying T=some (.slice e)) (hx:opv E.GE st.tmps x=.bptr i off) (hB:st.boxes[i]? =some (.cells cs own)) (hp:cs[off]? =some p) (hmem:(off,e)∈own)
  (hK:K {tmps:=st.tmps.set d p,boxes:=st.boxes.set i (.cells cs (own.filter fun x=>x.1 !=off)),own:=((d,0),e)::bG d st.own}) (Q:Exit->Act->World->Prop):
  o.wp P a w (eI P E bs id (ay o.op) a.defers K) Q:=by
 have hvx:VR Γ bs w (opv E.GE st.tmps x) (a.eval x):=h.opv a.defers x
 obtain⟨v,hr,hv⟩:=BW h hvx (t:=T) (p:=p) (by rw[hx];simp only[jm,hB,ch,hT];rw[List.head?_drop];exact hp)
 have hrun:(execOp a.eval o).run P w=.ok (.value v) w:=by simp[execOp,ho,hr]
 unfold Oper.wp
 rw[hrun,Oper.upon_value]
 rw[hx]at hvx
 generalize hve:a.eval x=vx at hvx hr
 cases hvx with
 |bptr _ _ b hb=>
 obtain⟨v',q1,q2,q3⟩:=h.ob i off e cs own b hB hmem hb
 have hvv:v=v':=by
  have:(loadVar T ⟨b,off,none⟩).run P w=.ok v w:=by simpa[Instr.loadAt,Instr.sureAddr]using hr
  simp[loadVar,isAgg,run_underlying hT,q1]at this
  exact this.symm
 subst hvv
 have hds:d<a.tmps.size:=by rw[h.sz];exact hd
 have g0:=h.freeB (j:=off) hB
 have g1:=g0.set (d:=d) hv
 have g2:=g1.addOwn (d:=d) (k:=0) (e:=e) (u:=v) (v:=v) (by simp[hds]) q2.part q2 (fun b' hb'=>⟨by simp[q3 b' hb'],(h.on b' _ (q3 b' hb')).2⟩)
 have hput:∀v,(a.put o.dst v).tmps=a.tmps.setIfInBounds d v:=fun v=>by rw[hdst];rfl
 rw[<-hput]at g2
 exact⟨cr _ _ _,Γ,bs,_,_,g2,hK,.inl rfl⟩
theorem vZ(h:SR P E Γ bs ow w a.tmps st){o:Oper}{id i off t:Nat}{T e:TypeId}{x:Operand}{cs:List PVal}{own:List (Nat×TypeId)}{H:List ax}{K:av->Prop}(ho:o.op=.store T x (.tmp t))
  (hx:opv E.GE st.tmps x=.bptr i off) (hp:cY P T (opv E.GE st.tmps x) (st.tmps.getD t .undef) st.boxes=some H) (hB:H[i]? =some (.cells cs own)) (hone:(st.tmps.getD t .undef).one=true) (hmem:((t,0),e)∈st.own)
  (hK:K (rm {st with own:=st.own.filter fun x=>x.1 !=(t,0)} o.dst (.val undef) [] (H.set i (.cells cs ((off,e)::own))))) (Q:Exit->Act->World->Prop):
  o.wp P a w (eI P E bs id (ay o.op) a.defers K) Q:=by
 obtain⟨u,v,h1,h2,h3,h4⟩:=h.ot t 0 e hmem
 have hvt:=DX h h1
 have hu1:=VR.one hvt hone
 have huv:u=v:=Iu h2 (fun vs hx=>by subst hx;cases hu1) (fun vs hx=>by subst hx;cases hu1)
 subst huv
 have hvx:VR Γ bs w (opv E.GE st.tmps x) (a.eval x):=h.opv a.defers x
 have hf:=h.freeT t 0
 obtain⟨w',r1,r2,r3⟩:=FF hf hvx hvt hp
 have hrun:(execOp a.eval o).run P w=.ok .skip w':=by simp[execOp,ho,jN h1,r1]
 unfold Oper.wp
 rw[hrun,Oper.upon_skip]
 rw[hx]at hvx
 generalize hve:a.eval x=vx at hvx r1
 cases hvx with
 |bptr _ _ b hb=>
 have hilt:i<st.boxes.length:=by rw[<-h.bl];exact ak hb
 have hgb:Γ b=none:=(h.bx i b _ hb (vab hilt)).1
 have hw:∃x0,w.cell? ⟨b,off,none⟩=some x0/\w'=w.setCell ⟨b,off,none⟩ u:=by
  have hr:(storeVar T ⟨b,off,none⟩ u).run P w=.ok () w':=by
   simpa[Instr.storeAt,Instr.sureAddr]using r1
  rw[hx]at hp
  unfold cY at hp
  have hpc:bR (st.tmps.getD t .undef)=some [st.tmps.getD t .undef]:=by
   unfold bR
   split
   ·rename_i c hc;rw[hc]at hone;cases hone
   ·rw[vaj hone]
  simp only[hpc]at hp
  split at hp
  ·rename_i cs0 own0 hB0
   split at hp
   ·rename_i hc
    obtain⟨c1,cinf,c2,_⟩:=hc
    obtain⟨inf,cinf⟩:=vaE.1 cinf
    obtain⟨c,t',e1,e2,e3,e4⟩:=h.box_cells hb hB0
    have hlt:off<c.size:=by simp at c2;omega
    have hcell:w.cell? ⟨b,off,none⟩=some c[off]:=by rw[e4];simp[hlt]
    refine⟨_,hcell,?_⟩
    have hfr:w.frozen? ⟨b,off,none⟩=false:=frozen_of_row w b off c t' e1
    unfold storeVar at hr
    rw[Cq hu1]at hr
    have c1':P.cellsOf T=1:=by simpa using c1.symm
    simp[run_sizeOf w cinf,c1',storeCells,Addr.add_lit,run_store _ _ _ _ _ hu1,hcell,hfr]at hr
    exact hr.symm
   ·cases hp
  ·cases hp
 obtain⟨x0,hx0,rfl⟩:=hw
 have hcell':(w.setCell ⟨b,off,none⟩ u).cell? ⟨b,off,none⟩=some u:=World.cell?_setCell_same w _ _ hx0
 have hown':fQ P Γ (w.setCell ⟨b,off,none⟩ u) u e:=h3.same fun b' hb'=>by
  refine⟨heap_setCell_other w _ _ _ (fun he=>?_),rfl⟩
  obtain⟨n,xs,_,o2⟩:=h3
  have:=o2 b' hb'
  rw[he]at this
  have hbb:(⟨b,off,none⟩:Addr).block=b:=rfl
  rw[hbb,hgb]at this;cases this
 have g1:=r2.addOwnB (i:=i) (b:=b) (j:=off) (e:=e) (v:=u) hb hB hcell' hown' (fun b' hb'=>⟨by simp[h4 b' hb'],(h.on b' _ (h4 b' hb')).2⟩)
 exact⟨cr _ _ _,Γ,bs,_,_,g1.putv_nil (.val undef) o.dst rfl,hK,.inl rfl⟩
end
end Go.Proofs.YtggeppllafbidaaGreatDoor
