/- PROVED: a part of the proof. Conditions: none. -/
import Derived.Test.YtibglelmlnfojaaGreatDoorpa2
import Derived.Deep.LoopGhost
import Derived.Below
set_option linter.unusedSimpArgs false
set_option linter.unusedVariables false
noncomputable section
namespace Go.Proofs.YtibglelmlnfojaaGreatDoor
open Go
def G1(P:Program)(GE:List (Nat×List PVal))(fv:PVal)(args:List PVal)(H:List aB)(K:PVal->List (Nat×TypeId)->List aB->Prop):Prop:=
 match fv with
 | .func (.func g) first cap =>
  (iG 0 (first++args++cap)/\∃r ro,C P GE g (first++args++cap) [] [] r ro []/\K r ro H)\/
  (∃(ρ:List Nat) (argsC:List PVal) (Hc:List aB) (rc:PVal) (ro:List (Nat×TypeId)) (Hc' H':List aB) (r:PVal),ρ.Nodup/\C P GE g argsC [] Hc rc ro Hc'/\Dl ρ H Hc/\Dl ρ H' Hc'/\
   H'.length=H.length/\(∀j:Nat,j∉ρ->H'[j]? =H[j]?)/\Bg ρ r rc/\(first++args++cap).length=argsC.length/\
   (∀(i:Nat) p q,(first++args++cap)[i]? =some p->argsC[i]? =some q->Bg ρ p q)/\K r ro H')
 |_=>False
def Ph(P:Program)(GE:List (Nat×List PVal))(op:Op)(id:Nat)(v:Operand->PVal)(H:List aB)(K:PVal->List (Nat×TypeId)->List aB->Prop):Prop:=
 match op with
 |.call {callee:=.value f,args,..}=>G1 P GE (v f) (args.toList.map v) H K
 |op=>match sB P op id v H with
  |some (p,H')=>K p [] H'
  |none=>False
def zU(st:aF)(dst:Option Tmp)(p:PVal)(ro:List (Nat×TypeId))(H:List aB):aF:=
 match dst with
 |some d=>{tmps:=st.tmps.set d p,boxes:=H,own:=(ro.map λx=>((d,x.1),x.2))++bQ d st.own}
 |none=>{st with boxes:=H}
def vK(P:Program)(t:TypeId)(v:Value):Option TypeId:=
 match v,P.underlying t with
 |.slice none 0 0,some (.slice e)=>some e
 |_,_=>none
def mU(o:Oper)(n:Nat):Bool:=
 match o.op with
 |.call {callee:=.value _,..}=>o.dst.any λd=>decide (d<n)
 |_=>true
def Lb(P:Program)(GE:List (Nat×List PVal))(A:List Nat)(o:Oper)(id:Nat)(K:aF->Prop)(st:aF):Prop:=
 let plain:=mU o st.tmps.length=true/\Ph P GE o.op id (opv GE st.tmps) st.boxes λp ro H=>K (zU st o.dst p ro H)
 match o.op,o.dst with
 |.assign (.tmp t),some d=>d<st.tmps.length/\K {st with tmps:=st.tmps.set d (st.tmps.getD t .undef),own:=oL d (λx=>if x.1=t then(d,x.2)else x) st.own}
 |.move (.tmp t),some d=>
  if d∈A then d<st.tmps.length/\K {st with tmps:=st.tmps.set d (st.tmps.getD t .undef),own:=oL d (λx=>if x.1=t then(d,x.2)else x) st.own}else plain
 |.assign (.const v),some d=>match vK P o.type v with
  |some e=>d<st.tmps.length/\K {st with tmps:=st.tmps.set d (.slice []),own:=((d,0),e)::bQ d st.own}
  |none=>plain
 |.move (.const v),some d=>match vK P o.type v with
  |some e=>d<st.tmps.length/\K {st with tmps:=st.tmps.set d (.slice []),own:=((d,0),e)::bQ d st.own}
  |none=>plain
 |.extract (.tmp t) i,some d=>match xh (st.tmps.getD t .undef) i with
  |some p=>d<st.tmps.length/\K {st with tmps:=st.tmps.set d p,own:=oL d (λx=>if x=(t,i)then(d,0)else x) st.own}
  |none=>False
 |.buildSlice T len parts,some d=>match eW P T len (parts.toList.map λx=>(x.1,opv GE st.tmps x.2)),P.underlying T with
  |some p,some (.slice e)=>d<st.tmps.length/\K {st with tmps:=st.tmps.set d p,own:=((d,0),e)::bQ d st.own}
  |_,_=>False
 | .call { callee := .builtin .append,args:=⟨[.tmp t,y]⟩,argTypes:=⟨[T,T']⟩ },some d => match P.underlying T,st.tmps.getD t .undef,opv GE st.tmps y with
  |some (.slice e),.slice es,.slice ns=>match vM P T es ns with
   |some p=>T=T'/\d<st.tmps.length/\((t,0),e)∈st.own/\K {st with tmps:=st.tmps.set d p,own:=((d,0),e)::bQ d (st.own.filter λx=>x.1 !=(t,0))}
   |none=>False
  |_,_,_=>False
 | .load T x,some d =>
  if d∈A then match opv GE st.tmps x,P.underlying T with
   | .bptr i off,some (.slice e) => match st.boxes[i]? with
    |some (.cells cs own)=>match cs[off]? with
     |some p=>d<st.tmps.length/\(off,e)∈own/\K {tmps:=st.tmps.set d p,boxes:=st.boxes.set i (.cells cs (own.filter λx=>x.1 !=off)),own:=((d,0),e)::bQ d st.own}
     |none=>False
    |_=>False
   |_,_=>False
  else plain
 | .store T x (.tmp t),_ => match st.own.find? (fun y => y.1 == (t,0)),opv GE st.tmps x,eK P T (opv GE st.tmps x) (st.tmps.getD t .undef) st.boxes with
  |some (_,e),.bptr i off,some H=>match H[i]?,(st.tmps.getD t .undef).one with
   |some (.cells cs own),true=>K (zU {st with own:=st.own.filter λx=>x.1 !=(t,0)} o.dst (.val undef) [] (H.set i (.cells cs ((off,e)::own))))
   |_,_=>plain
  |_,_,_=>plain
 |_,_=>plain
section
variable{P:Program}{E:tS}{Γ:bp}{bs:bG}{ow:Nat->Option mh}{w:World}{a:Act}{st:aF}
def f8(P:Program)(E:tS)(bs:bG)(id:Nat)(mk:Bool)(ds:List Deferred)(K:aF->Prop)(a:Act)(w:World):Prop:=
 a.defers=ds/\∃Γ bs' ow st,SR P E Γ bs' ow w a.tmps st/\K st/\(bs'=bs\/(mk=true/\∃b,bs'=bs.set id (some b)))
theorem SR.putv_nil(h:SR P E Γ bs ow w a.tmps st){p:PVal}{v:Value}(hv:VR Γ bs w p v)(dst:Option Tmp){H:List aB}(hH:H=st.boxes):SR P E Γ bs ow w (a.put dst v).tmps (zU st dst p [] H):=by
 subst hH
 cases dst with
 |none=>exact h
 |some d=>exact h.set hv
theorem dX(a:Act)(dst:Option Tmp)(v:Value):(a.put dst v).defers=a.defers:=by cases dst<;>rfl
theorem GO{n:Nat}{l r:List PVal}:iG n (l++r)↔iG n l/\iG n r:=by
 induction l with
 |nil=>simp[iG]
 |cons p l ih=>simp only[vaL,iG,ih];exact⟨λh=>⟨⟨h.1,h.2.1⟩,h.2.2⟩,λh=>⟨h.1.1,h.1.2,h.2⟩⟩
theorem EQ{l r:List PVal}{x y:Array Value}(hl:x.size=l.length)(h:∀(i:Nat) p v,l[i]? =some p->x[i]? =some v->VR Γ bs w p v)(h':∀(i:Nat) p v,r[i]? =some p->y[i]? =some v->VR Γ bs w p v)
  (i:Nat) (p:PVal) (v:Value) (hp:(l++r)[i]? =some p) (hv:(x++y)[i]? =some v):VR Γ bs w p v:=by
 by_cases hi:i<l.length
 ·rw[van hi]at hp
  rw[va7 (by omega)]at hv
  exact h i p v hp hv
 ·rw[vav (by omega)]at hp
  rw[vcf (by omega),hl]at hv
  exact h' _ p v hp hv
theorem RC(h:SR P E Γ bs ow w a.tmps st){o:Oper}{f:Operand}{args:Array Operand}{tys:Array TypeId}(ho:o.op=.call {callee:=.value f,args,argTypes:=tys}){d:Nat}(hdst:o.dst=some d)(hd:d<st.tmps.length)
  {K:PVal->List (Nat×TypeId)->List aB->Prop} (hp:G1 P E.GE (opv E.GE st.tmps f) (args.toList.map (opv E.GE st.tmps)) st.boxes K) (next:Act->World->Prop) (Q:Exit->Act->World->Prop)
  (hn:∀v Γ' ow' w' p ro H,K p ro H->SR P E Γ' bs ow' w' (a.put o.dst v).tmps (zU st o.dst p ro H)->next (a.put o.dst v) w'):o.wp P a w next Q:=by
 have hρ:∀x,VR Γ bs w (opv E.GE st.tmps x) (a.eval x):=λx=>h.opv a.defers x
 unfold G1 at hp
 have hf:=hρ f
 split at hp
 case h_2=>exact hp.elim
 rename_i g first cap hfv
 rw[hfv]at hf
 generalize hvf:a.eval f=vf at hf
 cases hf with
 |func _ _ _ fs cs hl hl' h1 h2=>
 have hargs:(fs++args.map a.eval++cs).size=(first++args.toList.map (opv E.GE st.tmps)++cap).length:=by simp[hl,hl']
 have hvr:∀(i:Nat) p v,(first++args.toList.map (opv E.GE st.tmps)++cap)[i]? =some p->(fs++args.map a.eval++cs)[i]? =some v->VR Γ bs w p v:=by
  refine EQ (by simp[hl]) (EQ hl h1 λi p v hp hv=>?_) h2
  exact E4 hρ args.toList i p v hp (by simpa using hv)
 have hrun:∀hcall:(∀vs w,(callFunc g vs).run P w=.ok (.enter g vs) w),(execOp a.eval o).run P w=.ok (.enter g (fs++args.map a.eval++cs)) w:=by
  intro hcall
  simp[execOp,ho,resolve,hvf,Deferred.ofValue,invoke,hcall]
 have hds:d<a.tmps.size:=by rw[h.sz];exact hd
 unfold Oper.wp
 rcases hp with⟨hcl,r,ro,hC,hK⟩|⟨ρ,argsC,Hc,rc,ro,Hc',H',r,hnd,hC,hH,hH',hlen,hsame,hr,hal,ha,hK⟩
 ·rw[hrun hC.1]
  rw[Oper.upon_enter]
  refine(WV h hds hC hargs hvr hcl).mono λe w' he=>?_
  obtain⟨v,Γ',ow',rfl,hS,_⟩:=he
  refine hn v Γ' ow' w' r ro st.boxes hK ?_
  rw[hdst];exact hS
 ·rw[hrun hC.1]
  rw[Oper.upon_enter]
  refine(Ur h hds hnd hC hH hH' hlen hsame hr hal ha hargs hvr).mono λe w' he=>?_
  obtain⟨v,Γ',ow',rfl,hS,_⟩:=he
  refine hn v Γ' ow' w' r ro H' hK ?_
  rw[hdst];exact hS
theorem T7{o:Oper}{next:Act->World->Prop}{Q:Exit->Act->World->Prop}{r:Next}{v:Value}{w':World}(hr:r=.value v\/(r=.skip/\v=undef))(h:next (a.put o.dst v) w'):o.upon P a next Q (.ok r w'):=by
 rcases hr with rfl|⟨rfl,rfl⟩
 ·exact h
 ·exact h
theorem XV(h:SR P E Γ bs ow w a.tmps st){o:Oper}{id:Nat}(hid:aE o.op=true->bs[id]? =some none){K:PVal->List (Nat×TypeId)->List aB->Prop}(hp:Ph P E.GE o.op id (opv E.GE st.tmps) st.boxes K)
  (next:Act->World->Prop) (Q:Exit->Act->World->Prop)
  (hdst:∀f args tys,o.op=.call {callee:=.value f,args,argTypes:=tys}->∃d,o.dst=some d/\d<st.tmps.length)
  (hn:∀v Γ' bs' ow' w' p ro H,K p ro H->SR P E Γ' bs' ow' w' (a.put o.dst v).tmps (zU st o.dst p ro H)->(bs'=bs\/(aE o.op=true/\∃b,bs'=bs.set id (some b)))->next (a.put o.dst v) w'):o.wp P a w next Q:=by
 unfold Ph at hp
 split at hp
 ·rename_i f args tys ho
  obtain⟨d,hd,hdl⟩:=hdst f args tys ho
  exact RC h ho hd hdl hp next Q λv Γ' ow' w' p ro H hK hS=>hn v Γ' bs ow' w' p ro H hK hS (.inl rfl)
 ·split at hp
  ·rename_i p H he
   obtain⟨r,v,w',Γ',bs',h1,h2,h3,h4,h5,h6,h7⟩:=XW h a.defers hid he
   unfold Oper.wp
   rw[show(execOp a.eval o).run P w=.ok r w' from h1]
   refine T7 h2 (hn v Γ' bs' ow w' p [] H hp ?_ ?_)
   ·cases hd:o.dst with
    |none=>exact h3
    |some d=>exact h3.set h4
   ·rcases h6 with h6|⟨hm,h6⟩
    ·exact .inl h6
    ·exact .inr ⟨hm,_,h6⟩
  ·exact hp.elim
theorem SE{o:Oper}{n:Nat}(h:mU o n=true)(f:Operand)(args:Array Operand)(tys:Array TypeId)(ho:o.op=.call {callee:=.value f,args,argTypes:=tys}):∃d,o.dst=some d/\d<n:=by
 unfold mU at h
 rw[ho]at h
 cases hd:o.dst with
 |none=>rw[hd]at h;cases h
 |some d=>rw[hd]at h;exact⟨d,rfl,by simpa using h⟩
theorem f8.of{o:Oper}{id:Nat}{K:aF->Prop}(h:SR P E Γ bs ow w a.tmps st)(hid:aE o.op=true->bs[id]? =some none)(hc:mU o st.tmps.length=true)
  (hp:Ph P E.GE o.op id (opv E.GE st.tmps) st.boxes λp ro H=>K (zU st o.dst p ro H)) (Q:Exit->Act->World->Prop):
  o.wp P a w (f8 P E bs id (aE o.op) a.defers K) Q:=
 XV h hid hp _ Q (SE hc) λ_ Γ' bs' ow' _ _ _ _ hK hS hb=>⟨dX _ _ _,Γ',bs',ow',_,hS,hK,hb⟩
theorem Jo(h:SR P E Γ bs ow w a.tmps st){t:Nat}{v:Value}(ht:a.tmps[t]? =some v):VR Γ bs w (st.tmps.getD t .undef) v:=by
 have hlt:t<st.tmps.length:=by rw[<-h.sz];exact(vao.1 ht).1
 have:=h.tm t _ v (vac hlt) ht
 rwa[vap,vac hlt]
theorem td{t:Nat}{v:Value}(ht:a.tmps[t]? =some v):a.eval (.tmp t)=v:=by
 show a.tmps.getD t undef=v
 rw[vaE,ht];rfl
theorem GW(h:SR P E Γ bs ow w a.tmps st){o:Oper}{id t d:Nat}{K:aF->Prop}(ho:o.op=.assign (.tmp t)\/o.op=.move (.tmp t))(hdst:o.dst=some d)(hd:d<st.tmps.length)
  (hK:K {st with tmps:=st.tmps.set d (st.tmps.getD t .undef),own:=oL d (λx=>if x.1=t then(d,x.2)else x) st.own}) (Q:Exit->Act->World->Prop):
  o.wp P a w (f8 P E bs id (aE o.op) a.defers K) Q:=by
 unfold Oper.wp
 have hrun:(execOp a.eval o).run P w=.ok (.value (a.eval (.tmp t))) w:=by rcases ho with ho|ho<;>simp[execOp,ho]
 rw[hrun,Oper.upon_value]
 have hv:VR Γ bs w (st.tmps.getD t .undef) (a.eval (.tmp t)):=h.opv a.defers (.tmp t)
 have:=h.setRen (d:=d) (p:=st.tmps.getD t .undef) hv (λx=>if x.1=t then(d,x.2)else x) (by rw[h.sz];exact hd) λt' k' e' _ ht'=>by
  by_cases hx:t'=t
  ·subst hx
   exact .inr ⟨k',by simp,λu v' hu hv' _=>by rw[td hu];exact hv'⟩
  ·exact .inl (by simp[hx])
 have hput:∀v,(a.put o.dst v).tmps=a.tmps.setIfInBounds d v:=λv=>by rw[hdst];rfl
 rw[<-hput]at this
 exact⟨dX _ _ _,Γ,bs,_,_,this,hK,.inl rfl⟩
theorem Kb(h:SR P E Γ bs ow w a.tmps st){o:Oper}{id d:Nat}{e:TypeId}{v:Value}{K:aF->Prop}(ho:o.op=.assign (.const v)\/o.op=.move (.const v))(hdst:o.dst=some d)(hd:d<st.tmps.length)
  (hn:vK P o.type v=some e) (hK:K {st with tmps:=st.tmps.set d (.slice []),own:=((d,0),e)::bQ d st.own}) (Q:Exit->Act->World->Prop):
  o.wp P a w (f8 P E bs id (aE o.op) a.defers K) Q:=by
 unfold Oper.wp
 have hrun:(execOp a.eval o).run P w=.ok (.value v) w:=by rcases ho with ho|ho<;>simp[execOp,ho,Act.eval]
 rw[hrun,Oper.upon_value]
 have hv:v=.slice none 0 0:=by
  unfold vK at hn
  split at hn
  ·rfl
  ·cases hn
 subst hv
 have h1:=h.set (d:=d) (p:=.slice []) (v:=.slice none 0 0) .sliceNil
 have hds:d<a.tmps.size:=by rw[h.sz];exact hd
 have h2:=h1.addOwn (d:=d) (k:=0) (e:=e) (u:=.slice none 0 0) (v:=.slice none 0 0) (by simp[hds]) rfl ⟨0,[],World.ownsRow_nil _ _ _ _,λb hb=>by simp[Value.ownBlock]at hb⟩ (λb hb=>by simp[Value.ownBlock]at hb)
 have hput:∀v,(a.put o.dst v).tmps=a.tmps.setIfInBounds d v:=λv=>by rw[hdst];rfl
 rw[<-hput]at h2
 exact⟨dX _ _ _,Γ,bs,_,_,h2,hK,.inl rfl⟩
theorem O1(h:SR P E Γ bs ow w a.tmps st){o:Oper}{id t i d:Nat}{p:PVal}{K:aF->Prop}(ho:o.op=.extract (.tmp t) i)(hdst:o.dst=some d)(hd:d<st.tmps.length)
  (hp:xh (st.tmps.getD t .undef) i=some p)
  (hK:K {st with tmps:=st.tmps.set d p,own:=oL d (λx=>if x=(t,i)then(d,0)else x) st.own}) (Q:Exit->Act->World->Prop):
  o.wp P a w (f8 P E bs id (aE o.op) a.defers K) Q:=by
 unfold Oper.wp
 obtain⟨v,hr,hv⟩:=IL (P:=P) (h.opv a.defers (.tmp t)) hp
 have hrun:(execOp a.eval o).run P w=.ok (.value v) w:=by simp[execOp,ho,hr]
 rw[hrun,Oper.upon_value]
 have htup:∃vs,a.eval (.tmp t)=.tuple vs/\vs[i]? =some v:=by
  have hx:(Instr.extract (a.eval (.tmp t)) i).run P w=.ok v w:=hr
  unfold Instr.extract at hx
  split at hx
  ·rename_i vs he
   split at hx
   ·rename_i u hu
    simp at hx;subst hx
    exact⟨vs,he,hu⟩
   ·simp at hx
  ·simp at hx
 obtain⟨vs,htu,hvi⟩:=htup
 have:=h.setRen (d:=d) (p:=p) hv (λx=>if x=(t,i)then(d,0)else x) (by rw[h.sz];exact hd) λt' k' e' _ ht'=>by
  by_cases hx:(t',k')=(t,i)
  ·cases hx
   refine .inr ⟨0,by simp,λu v' hu hv' ho'=>?_⟩
   rw[td hu]at htu
   subst htu
   have hvv:v=v':=by
    have:vs[i]? =some v':=hv'
    rw[hvi]at this;cases this;rfl
   subst hvv
   obtain⟨n,xs,⟨_,ho'⟩,_⟩:=ho'
   rcases ho' with⟨rfl,_⟩|⟨g,cap,cur,rfl,_⟩<;>rfl
  ·exact .inl (by simp[hx])
 have hput:∀v,(a.put o.dst v).tmps=a.tmps.setIfInBounds d v:=λv=>by rw[hdst];rfl
 rw[<-hput]at this
 exact⟨dX _ _ _,Γ,bs,_,_,this,hK,.inl rfl⟩
theorem Ag(h:SR P E Γ bs ow w a.tmps st){o:Oper}{id len d:Nat}{T e:TypeId}{parts:Array (Nat×Operand)}{p:PVal}{K:aF->Prop}(ho:o.op=.buildSlice T len parts)(hdst:o.dst=some d)(hd:d<st.tmps.length)
  (hT:P.underlying T=some (.slice e)) (hp:eW P T len (parts.toList.map λx=>(x.1,opv E.GE st.tmps x.2))=some p)
  (hK:K {st with tmps:=st.tmps.set d p,own:=((d,0),e)::bQ d st.own}) (Q:Exit->Act->World->Prop):
  o.wp P a w (f8 P E bs id (aE o.op) a.defers K) Q:=by
 have hρ:∀x,VR Γ bs w (opv E.GE st.tmps x) (a.eval x):=λx=>h.opv a.defers x
 obtain⟨k1,k2⟩:=IK hρ parts.toList
 obtain⟨v,w',Γ',h1,h2,h3,h4,h5,h6⟩:=CI h k1 k2 hp
 have hrun:(execOp a.eval o).run P w=.ok (.value v) w':=by
  have:(parts.map λx=>(x.1,a.eval x.2))=(parts.toList.map λx=>(x.1,a.eval x.2)).toArray:=by apply vbO;simp
  simp only[execOp,ho]
  rw[this]
  simp[h1]
 unfold Oper.wp
 rw[hrun,Oper.upon_value]
 have hds:d<a.tmps.size:=by rw[h.sz];exact hd
 have g1:=h2.set (d:=d) h4
 have g2:=g1.addOwn (d:=d) (k:=0) (e:=e) (u:=v) (v:=v) (by simp[hds]) (by
   obtain⟨n,xs,⟨_,ho'⟩,_⟩:=h5 e hT
   rcases ho' with⟨rfl,_⟩|⟨g,cap,cur,rfl,_⟩<;>rfl) (h5 e hT) (λb hb=>by
   have:=h6 b hb;subst this
   refine⟨?_,.inr h.step.size⟩
   cases hL:ow w.heap.size with
   |none=>rfl
   |some L=>exact absurd (h.on _ L hL).1 (vca _))
 have hput:∀v,(a.put o.dst v).tmps=a.tmps.setIfInBounds d v:=λv=>by rw[hdst];rfl
 rw[<-hput]at g2
 exact⟨dX _ _ _,Γ',bs,_,_,g2,hK,.inl rfl⟩
theorem im.part{v:Value}{e:TypeId}(h:im P Γ w v e):mJ v 0=some v:=by
 obtain⟨n,xs,⟨_,ho⟩,_⟩:=h
 rcases ho with⟨rfl,_⟩|⟨g,cap,cur,rfl,_⟩<;>rfl
theorem Rr{u v:Value}(hu:mJ u 0=some v)(hs:∀vs,u≠.tuple vs)(ha:∀vs,u≠.agg vs):u=v:=by
 cases u<;>simp[mJ]at hu<;>first|exact hu|(exact absurd rfl (hs _))|(exact absurd rfl (ha _))
theorem HV(h:SR P E Γ bs ow w a.tmps st){o:Oper}{id t d:Nat}{T e:TypeId}{y:Operand}{es ns:List (List PVal)}{p:PVal}{K:aF->Prop}(ho:o.op=.call {callee:=.builtin .append,args:=⟨[.tmp t,y]⟩,argTypes:=⟨[T,T]⟩})
  (hdst:o.dst=some d) (hd:d<st.tmps.length) (hT:P.underlying T=some (.slice e)) (het:st.tmps.getD t .undef=.slice es) (hen:opv E.GE st.tmps y=.slice ns) (hp:vM P T es ns=some p) (hmem:((t,0),e)∈st.own)
  (hK:K {st with tmps:=st.tmps.set d p,own:=((d,0),e)::bQ d (st.own.filter λx=>x.1 !=(t,0))}) (Q:Exit->Act->World->Prop):
  o.wp P a w (f8 P E bs id (aE o.op) a.defers K) Q:=by
 obtain⟨u,v,h1,h2,h3,h4⟩:=h.ot t 0 e hmem
 have hvt:=Jo h h1
 rw[het]at hvt
 have huv:u=v:=Rr h2 (λvs hx=>by subst hx;cases hvt) (λvs hx=>by subst hx;cases hvt)
 subst huv
 have hf:=h.freeT t 0
 have hy:VR Γ bs w (opv E.GE st.tmps y) (a.eval y):=h.opv a.defers y
 rw[hen]at hy
 obtain⟨v',w',Γ',r1,r2,r3,r4,r5,r6⟩:=TB (ty:=o.type) hf hT hvt hy h3 (λb hb=>⟨by simp[h4 b hb],(h.on b _ (h4 b hb)).2⟩) hp
 have hrun:(execOp a.eval o).run P w=.ok (.value v') w':=by
  simp[execOp,ho,resolve,invoke,builtin,td h1,r1]
 unfold Oper.wp
 rw[hrun,Oper.upon_value]
 have hds:d<a.tmps.size:=by rw[h.sz];exact hd
 have g1:=r2.set (d:=d) r4
 have g2:=g1.addOwn (d:=d) (k:=0) (e:=e) (u:=v') (v:=v') (by simp[hds]) r5.part r5 r6
 have hput:∀v,(a.put o.dst v).tmps=a.tmps.setIfInBounds d v:=λv=>by rw[hdst];rfl
 rw[<-hput]at g2
 exact⟨dX _ _ _,Γ',bs,_,_,g2,hK,.inl rfl⟩
theorem Gl(h:SR P E Γ bs ow w a.tmps st){o:Oper}{id i off d:Nat}{T e:TypeId}{x:Operand}{p:PVal}{cs:List PVal}{own:List (Nat×TypeId)}{K:aF->Prop}(ho:o.op=.load T x)
  (hdst:o.dst=some d) (hd:d<st.tmps.length) (hT:P.underlying T=some (.slice e)) (hx:opv E.GE st.tmps x=.bptr i off) (hB:st.boxes[i]? =some (.cells cs own)) (hp:cs[off]? =some p) (hmem:(off,e)∈own)
  (hK:K {tmps:=st.tmps.set d p,boxes:=st.boxes.set i (.cells cs (own.filter λx=>x.1 !=off)),own:=((d,0),e)::bQ d st.own}) (Q:Exit->Act->World->Prop):
  o.wp P a w (f8 P E bs id (aE o.op) a.defers K) Q:=by
 have hvx:VR Γ bs w (opv E.GE st.tmps x) (a.eval x):=h.opv a.defers x
 obtain⟨v,hr,hv⟩:=Kk h hvx (t:=T) (p:=p) (by rw[hx];simp only[lT,hB,bo,hT];rw[List.head?_drop];exact hp)
 have hrun:(execOp a.eval o).run P w=.ok (.value v) w:=by simp[execOp,ho,hr]
 unfold Oper.wp
 rw[hrun,Oper.upon_value]
 rw[hx]at hvx
 generalize hve:a.eval x=vx at hvx hr
 cases hvx with
 |bptr _ _ b hb=>
 obtain⟨v',q1,q2,q3⟩:=h.ob i off e cs own b hB hmem hb
 have hvv:v=v':=by
  have:(loadVar T ⟨b,off,none⟩).run P w=.ok v w:=by simpa[Instr.loadAt,Instr.sureAddr]using hr
  simp[loadVar,isAgg,run_underlying hT,q1]at this
  exact this.symm
 subst hvv
 have hds:d<a.tmps.size:=by rw[h.sz];exact hd
 have g0:=h.freeB (j:=off) hB
 have g1:=g0.set (d:=d) hv
 have g2:=g1.addOwn (d:=d) (k:=0) (e:=e) (u:=v) (v:=v) (by simp[hds]) q2.part q2 (λb' hb'=>⟨by simp[q3 b' hb'],(h.on b' _ (q3 b' hb')).2⟩)
 have hput:∀v,(a.put o.dst v).tmps=a.tmps.setIfInBounds d v:=λv=>by rw[hdst];rfl
 rw[<-hput]at g2
 exact⟨dX _ _ _,Γ,bs,_,_,g2,hK,.inl rfl⟩
theorem EA(h:SR P E Γ bs ow w a.tmps st){o:Oper}{id i off t:Nat}{T e:TypeId}{x:Operand}{cs:List PVal}{own:List (Nat×TypeId)}{H:List aB}{K:aF->Prop}(ho:o.op=.store T x (.tmp t))
  (hx:opv E.GE st.tmps x=.bptr i off) (hp:eK P T (opv E.GE st.tmps x) (st.tmps.getD t .undef) st.boxes=some H) (hB:H[i]? =some (.cells cs own)) (hone:(st.tmps.getD t .undef).one=true) (hmem:((t,0),e)∈st.own)
  (hK:K (zU {st with own:=st.own.filter λx=>x.1 !=(t,0)} o.dst (.val undef) [] (H.set i (.cells cs ((off,e)::own))))) (Q:Exit->Act->World->Prop):
  o.wp P a w (f8 P E bs id (aE o.op) a.defers K) Q:=by
 obtain⟨u,v,h1,h2,h3,h4⟩:=h.ot t 0 e hmem
 have hvt:=Jo h h1
 have hu1:=VR.one hvt hone
 have huv:u=v:=Rr h2 (λvs hx=>by subst hx;cases hu1) (λvs hx=>by subst hx;cases hu1)
 subst huv
 have hvx:VR Γ bs w (opv E.GE st.tmps x) (a.eval x):=h.opv a.defers x
 have hf:=h.freeT t 0
 obtain⟨w',r1,r2,r3⟩:=N5 hf hvx hvt hp
 have hrun:(execOp a.eval o).run P w=.ok .skip w':=by simp[execOp,ho,td h1,r1]
 unfold Oper.wp
 rw[hrun,Oper.upon_skip]
 rw[hx]at hvx
 generalize hve:a.eval x=vx at hvx r1
 cases hvx with
 |bptr _ _ b hb=>
 have hilt:i<st.boxes.length:=by rw[<-h.bl];exact aq hb
 have hgb:Γ b=none:=(h.bx i b _ hb (vac hilt)).1
 have hw:∃x0,w.cell? ⟨b,off,none⟩=some x0/\w'=w.setCell ⟨b,off,none⟩ u:=by
  have hr:(storeVar T ⟨b,off,none⟩ u).run P w=.ok () w':=by
   simpa[Instr.storeAt,Instr.sureAddr]using r1
  rw[hx]at hp
  unfold eK at hp
  have hpc:bZ (st.tmps.getD t .undef)=some [st.tmps.getD t .undef]:=by
   unfold bZ
   split
   ·rename_i c hc;rw[hc]at hone;cases hone
   ·rw[vad hone]
  simp only[hpc]at hp
  split at hp
  ·rename_i cs0 own0 hB0
   split at hp
   ·rename_i hc
    obtain⟨c1,cinf,c2,_⟩:=hc
    obtain⟨inf,cinf⟩:=vaR.1 cinf
    obtain⟨c,t',e1,e2,e3,e4⟩:=h.box_cells hb hB0
    have hlt:off<c.size:=by simp at c2;omega
    have hcell:w.cell? ⟨b,off,none⟩=some c[off]:=by rw[e4];simp[hlt]
    refine⟨_,hcell,?_⟩
    have hfr:w.frozen? ⟨b,off,none⟩=false:=frozen_of_row w b off c t' e1
    unfold storeVar at hr
    rw[KU hu1]at hr
    have c1':P.cellsOf T=1:=by simpa using c1.symm
    simp[run_sizeOf w cinf,c1',storeCells,Addr.add_lit,run_store _ _ _ _ _ hu1,hcell,hfr]at hr
    exact hr.symm
   ·cases hp
  ·cases hp
 obtain⟨x0,hx0,rfl⟩:=hw
 have hcell':(w.setCell ⟨b,off,none⟩ u).cell? ⟨b,off,none⟩=some u:=World.cell?_setCell_same w _ _ hx0
 have hown':im P Γ (w.setCell ⟨b,off,none⟩ u) u e:=h3.same λb' hb'=>by
  refine⟨heap_setCell_other w _ _ _ (λhe=>?_),rfl⟩
  obtain⟨n,xs,_,o2⟩:=h3
  have:=o2 b' hb'
  rw[he]at this
  have hbb:(⟨b,off,none⟩:Addr).block=b:=rfl
  rw[hbb,hgb]at this;cases this
 have g1:=r2.addOwnB (i:=i) (b:=b) (j:=off) (e:=e) (v:=u) hb hB hcell' hown' (λb' hb'=>⟨by simp[h4 b' hb'],(h.on b' _ (h4 b' hb')).2⟩)
 exact⟨dX _ _ _,Γ,bs,_,_,g1.putv_nil (.val undef) o.dst rfl,hK,.inl rfl⟩
end
def xi(ops:Array Oper)(tmps:List PVal)(j:Nat):Option (Option Bool):=
 match(ops[j]?).bind (·.dst)with
 |none=>some none
 |some t=>match tmps[t]? with
  |none=>some none
  |some (.bool b)=>some (some b)
  |some .undef=>none
  |some (.val (.bool b))=>some (some b)
  |some _=>some none
def mY(P:Program)(o:Oper):Option aB:=
 match o.op with
 |.alloc t=>some (match fu P t with
  |some zs=>.cells zs (Ld P t)
  |none=>.dead)
 |.box .. =>some .dead
 |.makeMap .. =>some (.map [])
 |_=>none
def fg(P:Program)(ops:List Oper):List aB:=ops.filterMap (mY P)
section
variable{P:Program}{E:tS}{Γ:bp}{bs:bG}{ow:Nat->Option mh}{w:World}{a:Act}{st:aF}
theorem TN(h:SR P E Γ bs ow w a.tmps st){A:List Nat}{o:Oper}{id:Nat}(hid:aE o.op=true->bs[id]? =some none){K:aF->Prop}(hp:Lb P E.GE A o id K st)(Q:Exit->Act->World->Prop):o.wp P a w (f8 P E bs id (aE o.op) a.defers K) Q:=by
 unfold Lb at hp
 split at hp
 case h_1 t d ho hd=>exact GW h (.inl ho) hd hp.1 hp.2 Q
 case h_2 t d ho hd=>
  split at hp
  ·exact GW h (.inr ho) hd hp.1 hp.2 Q
  ·exact f8.of h hid hp.1 hp.2 Q
 case h_3 v d ho hd=>
  split at hp
  ·rename_i e he;exact Kb h (.inl ho) hd hp.1 he hp.2 Q
  ·exact f8.of h hid hp.1 hp.2 Q
 case h_4 v d ho hd=>
  split at hp
  ·rename_i e he;exact Kb h (.inr ho) hd hp.1 he hp.2 Q
  ·exact f8.of h hid hp.1 hp.2 Q
 case h_5 t i d ho hd=>
  split at hp
  ·rename_i p he;exact O1 h ho hd hp.1 he hp.2 Q
  ·exact hp.elim
 case h_6 T len parts d ho hd=>
  split at hp
  ·rename_i p e he hT;exact Ag h ho hd hp.1 hT he hp.2 Q
  ·exact hp.elim
 case h_7 t y T T' d ho hd=>
  split at hp
  ·rename_i e es ns hT he hn
   split at hp
   ·rename_i p hap
    obtain⟨rfl,h1,h2,h3⟩:=hp
    exact HV h ho hd h1 hT he hn hap h2 h3 Q
   ·exact hp.elim
  ·exact hp.elim
 case h_8 T x d ho hd=>
  split at hp
  ·split at hp
   ·rename_i i off e hx hT
    split at hp
    ·rename_i cs own hB
     split at hp
     ·rename_i p hc
      exact Gl h ho hd hp.1 hT hx hB hc hp.2.1 hp.2.2 Q
     ·exact hp.elim
    ·exact hp.elim
   ·exact hp.elim
  ·exact f8.of h hid hp.1 hp.2 Q
 case h_9 T x t ho=>
  split at hp
  ·rename_i y e i off H hf hx hst
   split at hp
   ·rename_i cs own hB hone
    have hmem:((t,0),e)∈st.own:=by
     have h1:=vbt hf
     have h2:=vb0 hf
     simp only[va9]at h2
     subst h2;exact h1
    exact EA h ho hx hst hB hone hmem hp Q
   ·exact f8.of h hid hp.1 hp.2 Q
  ·exact f8.of h hid hp.1 hp.2 Q
 case h_10=>exact f8.of h hid hp.1 hp.2 Q
theorem K9(h:SR P E Γ bs ow w a.tmps st){ops:Array Oper}{j:Nat}{x:Option Bool}(hg:xi ops st.tmps j=some x):yielded ops a.tmps j=x:=by
 unfold xi at hg
 unfold yielded
 cases hd:(ops[j]?).bind (·.dst)with
 |none=>rw[hd]at hg;cases hg;rfl
 | some t =>
  rw[hd]at hg
  simp only[vaa]
  simp only at hg
  cases hp:st.tmps[t]? with
  | none =>
   rw[hp]at hg;cases hg
   have:a.tmps[t]? =none:=by
    rw[List.getElem?_eq_none_iff]at hp
    rw[vci,h.sz];exact hp
   rw[this]
  | some p =>
   have hlt:t<a.tmps.size:=by rw[h.sz];exact aq hp
   have hat:a.tmps[t]? =some a.tmps[t]:=by simp[hlt]
   have hv:=h.tm t p _ hp hat
   rw[hp]at hg
   rw[hat]
   generalize a.tmps[t]=v at hv
   cases p<;>(try simp only at hg)
   case undef=>cases hg
   case bool b=>cases hg;cases hv;rfl
   case val u=>
    cases hv
    cases v<;>(try simp only at hg)<;>cases hg<;>rfl
   all_goals (cases hg;cases hv<;>rfl)
theorem SR.extend(h:SR P E Γ bs ow w a.tmps st)(X:List aB):SR P E Γ (bs++List.replicate X.length none) ow w a.tmps {st with boxes:=st.boxes++X}:=by
 have hget:∀{i b:Nat},(bs++List.replicate X.length none)[i]? =some (some b)->bs[i]? =some (some b):=by
  intro i b hi
  by_cases hlt:i<bs.length
  ·rwa[van hlt]at hi
  ·rw[vav (by omega),va8]at hi
   split at hi<;>cases hi
 have hsub:bs.Sub (bs++List.replicate X.length none):=λi b hi=>by rw[van (aq hi)];exact hi
 have hbox:∀{i b:Nat} {B:aB},bs[i]? =some (some b)->(st.boxes++X)[i]? =some B->st.boxes[i]? =some B:=by
  intro i b B hi hB
  rwa[van (by rw[<-h.bl];exact aq hi)]at hB
 exact{h with
  tm:=λt p v hp hv=>(h.tm t p v hp hv).mono (.refl _ _) hsub
  bl:=by simp[h.bl]
  bx:=λi b B hi hB=>by
   obtain⟨h1,h2,h3⟩:=h.bx i b B (hget hi) (hbox (hget hi) hB)
   exact⟨h1,h2,h3.mono (.refl _ _) hsub rfl⟩
  inj:=λi j b hi hj=>h.inj i j b (hget hi) (hget hj)
  bn:=λi b hi=>h.bn i b (hget hi)
  ob:=λi j e cs own b hB hj hi=>h.ob i j e cs own b (hbox (hget hi) hB) hj (hget hi)
  gl:=λg cs hg=>(h.gl g cs hg).mono (.refl _ _) hsub}
def YB(bs0 bs:bG):Prop:=∀i:Nat,i<bs0.length->bs[i]? =bs0[i]?
def Sl(P:Program)(E:tS)(bs0:bG)(st:aF)(a:Act)(w:World):Prop:=∃Γ bs ow,SR P E Γ bs ow w a.tmps st/\YB bs0 bs
def b8(ops:List Oper):Nat:=(ops.filter λo=>aE o.op).length
theorem CK(P:Program)(ops:List Oper):(fg P ops).length=b8 ops:=by
 unfold fg b8
 induction ops with
 |nil=>rfl
 |cons o ops ih=>
  simp only[List.filterMap_cons,vbM]
  cases ho:o.op<;>simp[mY,aE,ho,ih]
end
def ca(P:Program):Op->Nat
 |.load .. |.lookup .. =>2
 |.store .. |.mapUpdate .. =>3
 | .call c => match c.callee with
  |.value (.func _)=>0
  |.value _=>3
  | .builtin .len => match c.argTypes.toList with
   |[t]=>(match P.underlying t with
    |some (.map ..)=>2
    |_=>0)
   |_=>0
  |_=>0
 |_=>0
def gU(acc:List Nat)(o:Oper):Nat:=o.after.toList.foldl (λs e=>if Region.binds .any e then s|||2 ^ e.on|||acc.getD e.on 0 else s) 0
def GF(ops:List Oper):List Nat:=ops.foldl (λacc o=>acc++[gU acc o]) []
def looks(ops:Array Oper)(o:Oper):List Tmp:=
 (o.op.operands.toList.filterMap λ|.tmp t=>some t|_=>none)++(match o.guard with
  |some (j,_)=>((ops[j]?).bind (·.dst)).toList
  |none=>[])
section
variable{P:Program}{GE:List (Nat×List PVal)}
theorem HU{acc:List Nat}{o:Oper}{i:Nat}(h:(gU acc o).testBit i=true):∃e∈o.after.toList,Region.binds .any e=true/\(e.on=i\/(acc.getD e.on 0).testBit i=true):=by
 unfold gU at h
 have key:∀(l:List Edge) (s:Nat),(l.foldl (λs e=>if Region.binds .any e then s|||2 ^ e.on|||acc.getD e.on 0 else s) s).testBit i=true->
   s.testBit i=true\/∃e∈l,Region.binds .any e=true/\(e.on=i\/(acc.getD e.on 0).testBit i=true):=by
  intro l
  induction l with
  |nil=>intro s hs;exact .inl hs
  | cons e l ih =>
   intro s hs
   simp only[List.foldl_cons]at hs
   rcases ih _ hs with hs'|⟨e',h1,h2⟩
   ·split at hs'
    ·rename_i hb
     simp only[Nat.testBit_or,vaY]at hs'
     rcases hs' with(hs'|hs')|hs'
     ·exact .inl hs'
     ·refine .inr ⟨e,by simp,hb,.inl ?_⟩
      rw[Nat.testBit_two_pow]at hs'
      simpa using hs'
     ·exact .inr ⟨e,by simp,hb,.inr hs'⟩
    ·exact .inl hs'
   ·exact .inr ⟨e',by simp[h1],h2⟩
 rcases key _ 0 h with h0|h0
 ·simp at h0
 ·exact h0
theorem Pw(ops:List Oper):(GF ops).length=ops.length/\∀(j i:Nat),((GF ops).getD j 0).testBit i=true->∃o,ops[j]? =some o/\∃e∈o.after.toList,Region.binds .any e=true/\(e.on=i\/(e.on<j/\((GF ops).getD e.on 0).testBit i=true)):=by
 unfold GF
 have key:∀(rest pre:List Oper) (acc:List Nat),acc.length=pre.length->
   (∀(j i:Nat),(acc.getD j 0).testBit i=true->∃o,(pre++rest)[j]? =some o/\∃e∈o.after.toList,Region.binds .any e=true/\(e.on=i\/(e.on<j/\(acc.getD e.on 0).testBit i=true)))->
   (rest.foldl (λacc o=>acc++[gU acc o]) acc).length=(pre++rest).length/\∀(j i:Nat),((rest.foldl (λacc o=>acc++[gU acc o]) acc).getD j 0).testBit i=true->
    ∃o,(pre++rest)[j]? =some o/\∃e∈o.after.toList,Region.binds .any e=true/\(e.on=i\/(e.on<j/\((rest.foldl (λacc o=>acc++[gU acc o]) acc).getD e.on 0).testBit i=true)):=by
  intro rest
  induction rest with
  |nil=>intro pre acc hl h;exact⟨by simpa using hl,by simpa using h⟩
  | cons o rest ih =>
   intro pre acc hl h
   simp only[List.foldl_cons]
   have hsplit:pre++o::rest=(pre++[o])++rest:=by simp
   rw[hsplit]
   refine ih (pre++[o]) (acc++[gU acc o]) (by simp[hl]) (λj i hb=>?_)
   have hlow:∀m,m<acc.length->(acc++[gU acc o]).getD m 0=acc.getD m 0:=λm hm=>by
    rw[vap,vap,van hm]
   by_cases hj:j<acc.length
   ·rw[hlow j hj]at hb
    obtain⟨o',h1,e,h2,h3,h4⟩:=h j i hb
    refine⟨o',by rw[<-hsplit];exact h1,e,h2,h3,h4.imp id λhx=>⟨hx.1,?_⟩⟩
    rw[hlow _ (by omega)];exact hx.2
   ·by_cases hj2:j=acc.length
    ·subst hj2
     have:(acc++[gU acc o]).getD acc.length 0=gU acc o:=by
      rw[vap,vav (vaw _)];simp
     rw[this]at hb
     obtain⟨e,h1,h2,h3⟩:=HU hb
     refine⟨o,by rw[hl];simp,e,h1,h2,?_⟩
     rcases h3 with h3|h3
     ·exact .inl h3
     ·have hlt:e.on<acc.length:=by
       by_cases hlt:e.on<acc.length
       ·exact hlt
       ·rw[vap,va0 (by omega)]at h3;simp at h3
      exact .inr ⟨hlt,by rw[hlow _ hlt];exact h3⟩
    ·rw[vap,va0 (by simp;omega)]at hb;simp at hb
 have:=key ops [] [] rfl (λj i hb=>by simp at hb)
 simpa using this
end
section
variable{P:Program}{GE:List (Nat×List PVal)}
theorem XX{op:Op}{id:Nat}{v:Operand->PVal}{H H':List aB}{p:PVal}(hc:ca P op≠3)(hm:aE op=false)(h:sB P op id v H=some (p,H')):H'=H:=by
 unfold sB at h
 split at h
 all_goals first
  |(cases h;done)
  |(cases h;rfl)
  |(obtain⟨q,_,he⟩:=ei h;cases he;rfl)
  |(exact absurd rfl hc)
  |(simp[aE]at hm;done)
  |(split at h<;>first|(cases h;rfl)|cases h)
theorem qcc{op:Op}{id:Nat}{v:Operand->PVal}{H:List aB}{p:PVal}(hc:ca P op<2)(hm:aE op=false)(h:sB P op id v H=some (p,H))(H2:List aB):sB P op id v H2=some (p,H2):=by
 unfold sB at h ⊢
 split at h
 case h_24 x t=>
  obtain⟨q,hq,he⟩:=ei h
  cases he
  simp only[ca]at hc
  have:G5 P t (v x) H2=G5 P t (v x) H:=by
   unfold G5
   split<;>first|rfl|skip
   rename_i hu _
   simp[hu]at hc
  rw[this,hq];rfl
 all_goals first
  |(cases h;done)
  |(cases h;rfl)
  |(obtain⟨q,hq,he⟩:=ei h;cases he;simp only[hq,vaj];done)
  |(simp[ca]at hc;done)
  |(simp[aE]at hm;done)
  |(split at h<;>first|(cases h;done)|(cases h;rfl)|(rename_i hv;cases h;simp only[hv];done))
theorem Is{l:List Operand}{v v':Operand->PVal}(h:∀x∈l,v x=v' x):l.map v=l.map v':=vbm h
theorem qac{op:Op}{id:Nat}{v v':Operand->PVal}{H:List aB}(h:∀x∈op.operands.toList,v x=v' x):sB P op id v H=sB P op id v' H:=by
 unfold sB
 split
 all_goals (simp only[Op.operands,Call.operands]at h)
 all_goals first
  |(simp at h;simp[h];done)
  |skip
 case h_7 t parts=>
  rw[vbm (f:=λx:Nat×Operand=>(x.1,v x.2)) (g:=λx=>(x.1,v' x.2)) λx hx=>by rw[h x.2 (vaq.2 ⟨x,hx,rfl⟩)]]
 case h_8 t len parts=>
  rw[vbm (f:=λx:Nat×Operand=>(x.1,v x.2)) (g:=λx=>(x.1,v' x.2)) λx hx=>by rw[h x.2 (vaq.2 ⟨x,hx,rfl⟩)]]
 case h_15 fn first cap=>
  rw[Is λx hx=>h x (by simp at hx ⊢;exact .inl hx),Is λx hx=>h x (by simp at hx ⊢;exact .inr hx)]
 case h_16 t x lo hi=>
  have h1:v x=v' x:=h x (by simp)
  have h2:lo.map v=lo.map v':=by
   cases lo with
   |none=>rfl
   |some y=>simp only[vaj];rw[h y (by simp)]
  have h3:hi.map v=hi.map v':=by
   cases hi with
   |none=>rfl
   |some y=>simp only[vaj];rw[h y (by simp)]
  rw[h1,h2,h3]
 case h_25 x r tys=>
  rw[h x (by simp),Is λy hy=>h y (by simp[hy])]
 case h_26 x r tys=>
  rw[h x (by simp),Is λy hy=>h y (by simp[hy])]
end
section
variable{P:Program}{E:tS}{Γ:bp}{bs:bG}{ow:Nat->Option mh}{w:World}{a:Act}{st:aF}
theorem Jb{α:Type}:∀{l:List α} {i:Nat} {x:α},l[i]? =some x->l.set i x=l
 |[],_,_,h=>by simp at h
 |_::_,0,_,h=>by simp at h;subst h;rfl
 |y::l,i+1,x,h=>by simp only[List.set_cons_succ];rw[Jb (by simpa using h)]
end
def bf(ops:Array Oper)(i j:Nat):Prop:=((GF ops.toList).getD j 0).testBit i=true
theorem BC{α:Type}{l:List α}{i:Nat}{x d:α}(h:l[i]? =some x):l.getD i d=x:=by rw[vap,h];rfl
def cM(listed:Array Bool)(i:Nat):Prop:=listed.getD i false=true
def qdq(ops:Array Oper)(listed:Array Bool):Prop:=∀(j:Nat) o,ops[j]? =some o->cM listed j->∀e∈o.after.toList,Region.binds .any e=true->cM listed e.on
theorem JB{ops:Array Oper}{listed:Array Bool}(hd:qdq ops listed):∀(j:Nat) o,ops[j]? =some o->(∀e∈o.after.toList,Region.binds .any e=true->cM listed e.on)->∀i,bf ops i j->cM listed i:=by
 intro j
 induction j using Nat.strongRecOn with
 | _ j ih =>
  intro o ho ha i hb
  obtain⟨o',ho',e,he,hbi,hc⟩:=(Pw ops.toList).2 j i hb
  have:o'=o:=by
   have h':ops[j]? =some o':=by simpa using ho'
   rw[ho]at h';cases h';rfl
  subst this
  have hle:=ha e he hbi
  rcases hc with hc|⟨hc,hb'⟩
  ·subst hc;exact hle
  ·obtain⟨o2,ho2,_⟩:=(Pw ops.toList).2 e.on i hb'
   have h2:ops[e.on]? =some o2:=by simpa using ho2
   exact ih e.on hc o2 h2 (hd e.on o2 h2 hle) i hb'
theorem eH{listed:Array Bool}{i j:Nat}(hi:i<listed.size):cM (listed.setIfInBounds i true) j↔j=i\/cM listed j:=by
 unfold cM
 by_cases h:i=j
 ·subst h
  constructor
  ·intro _;exact .inl rfl
  ·intro _;simp[hi]
 ·rw[getD_set_ne false h]
  constructor
  ·exact .inr
  ·rintro(rfl|h')
   ·exact absurd rfl h
   ·exact h'
section
variable{P:Program}{E:tS}{ops:Array Oper}{n base:Nat}{T:Nat->aF}{bs0:bG}{ds:List Deferred}
def D3(ops:Array Oper)(base i:Nat):Nat:=base+b8 (ops.toList.take i)
theorem uc(l r:List Oper):b8 (l++r)=b8 l+b8 r:=by simp[b8]
theorem VN{i j:Nat}{o:Oper}(ho:ops[i]? =some o)(hm:aE o.op=true)(hij:i<j):D3 ops base i<D3 ops base j:=by
 unfold D3
 have hl:ops.toList[i]? =some o:=by simpa using ho
 have h1:ops.toList.take (i+1)=ops.toList.take i++[o]:=by
  rw[vcr,hl];rfl
 have h2:ops.toList.take j=ops.toList.take (i+1)++(ops.toList.take j).drop (i+1):=by
  have:=(vbD (i+1) (ops.toList.take j)).symm
  rwa[List.take_take,Nat.min_eq_left (by omega)]at this
 rw[h2,uc,h1,uc]
 have:b8 [o]=1:=by unfold b8;simp[hm]
 omega
def Ba(n:Nat)(listed:Array Bool):Nat:=((List.range n).filter λi=>!listed.getD i false).length
theorem SS{l:List Nat}{p q:Nat->Bool}(hpq:∀i,q i=true->p i=true){j:Nat}(hj:j∈l)(hp:p j=true)(hq:q j=false):(l.filter q).length<(l.filter p).length:=by
 induction l with
 |nil=>cases hj
 | cons x l ih =>
  have hle:∀l:List Nat,(l.filter q).length<=(l.filter p).length:=by
   intro l
   induction l with
   |nil=>simp
   | cons y l ih2 =>
    simp only[vbM]
    by_cases h1:q y=true
    ·simp[h1,hpq y h1];exact ih2
    ·by_cases h2:p y=true
     ·simp[h1,h2];omega
     ·simp[h1,h2];exact ih2
  simp only[vbM]
  rcases vaF.1 hj with rfl|hj
  ·simp[hp,hq];have:=hle l;omega
  ·have:=ih hj
   by_cases h1:q x=true
   ·simp[h1,hpq x h1];exact this
   ·by_cases h2:p x=true
    ·simp[h1,h2];omega
    ·simp[h1,h2];exact this
end
section
variable{P:Program}{E:tS}{w:World}{a:Act}{st:aF}
theorem tj(m j:Nat):(Array.replicate m false).getD j false=false:=by
 rw[vaE,Array.getElem?_replicate]
 split<;>rfl
theorem IM:∀(l:List Oper) (i:Nat) (o:Oper),l[i]? =some o->aE o.op=true->(fg P l)[b8 (l.take i)]? =mY P o
 |[],_,_,h,_=>by simp at h
 |x::l,0,o,h,hm=>by
  simp at h;subst h
  have:∃B,mY P x=some B:=by cases hx:x.op<;>simp[aE,hx]at hm<;>exact⟨_,by simp[mY,hx];rfl⟩
  obtain⟨B,hB⟩:=this
  simp[fg,b8,hB]
 | x :: l,i + 1,o,h,hm => by
  have ih:=IM l i o (by simpa using h) hm
  have hc:b8 ((x::l).take (i+1))=b8 [x]+b8 (l.take i):=by
   rw[List.take_succ_cons,<-uc];rfl
  rw[hc]
  unfold fg
  rw[List.filterMap_cons]
  cases hx:mY P x with
  |none=>
   have:b8 [x]=0:=by cases hx':x.op<;>simp[mY,hx']at hx<;>simp[b8,aE,hx']
   rw[this,vaT];exact ih
  |some B=>
   have:b8 [x]=1:=by cases hx':x.op<;>simp[mY,hx']at hx<;>simp[b8,aE,hx']
   rw[this,vcE]
   simpa[fg]using ih
end
def xK(n:Nat):List PVal->List PVal->Prop
 |[],[]=>True
 |p::ps,q::qs=>(q=.undef\/(p=q/\q.cl n))/\xK n ps qs
 |_,_=>False
def sb(n:Nat):aB->aB->Prop
 |_,.dead=>True
 |.cells cs own,.cells cs' own'=>cs=cs'/\iG n cs/\∀x∈own',x∈own
 |.map es,.map es'=>es=es'/\(∀x∈es,x.1.cl n/\x.2.cl n)
 |_,_=>False
def dD(n:Nat):List aB->List aB->Prop
 |_,[]=>True
 |B::l,B'::l'=>sb n B B'/\dD n l l'
 |[],_::_=>False
structure qeV(st st':aF):Prop where
 tmps:xK st'.boxes.length st.tmps st'.tmps
 boxes:dD st'.boxes.length st.boxes st'.boxes
 own:∀x∈st'.own,x∈st.own
def QI(id:Nat)(Q:Exit->aF->Prop):Exit->aF->Prop
 |.exit id',st=>if id'=id then Q .normal st else Q (.exit id') st
 |e,st=>Q e st
section
variable{P:Program}{E:tS}{bs0:bG}
theorem Jp{n:Nat}:∀{l l':List PVal},xK n l l'->l.length=l'.length/\∀(i:Nat) q,l'[i]? =some q->q=.undef\/(l[i]? =some q/\q.cl n)
 |[],[],_=>⟨rfl,by simp⟩
 |[],_::_,h=>by simp[xK]at h
 |_::_,[],h=>by simp[xK]at h
 | p :: l,q :: l',h => by
  simp only[xK]at h
  obtain⟨h1,h2⟩:=Jp h.2
  refine⟨by simp[h1],λi x hx=>?_⟩
  cases i with
  | zero =>
   simp at hx;subst hx
   rcases h.1 with h3|⟨rfl,h3⟩
   ·exact .inl h3
   ·exact .inr ⟨rfl,h3⟩
  |succ i=>simpa using h2 i x (by simpa using hx)
theorem nq{n:Nat}:∀{l l':List aB},dD n l l'->l'.length<=l.length/\∀(i:Nat) B',l'[i]? =some B'->∃B,l[i]? =some B/\sb n B B'
 |_,[],_=>⟨by simp,by simp⟩
 |[],_::_,h=>by simp[dD]at h
 |B::l,B'::l',h=>by
  simp only[dD]at h
  obtain⟨h1,h2⟩:=nq h.2
  refine⟨by simpa using h1,λi x hx=>?_⟩
  cases i with
  |zero=>simp at hx;subst hx;exact⟨B,rfl,h.1⟩
  |succ i=>simpa using h2 i x (by simpa using hx)
theorem Sl.less{st st':aF}{a:Act}{w:World}(hR:Sl P E bs0 st a w)(hl:qeV st st')(hm:bs0.length<=st'.boxes.length):Sl P E bs0 st' a w:=by
 obtain⟨Γ,bs,ow,h,hk⟩:=hR
 obtain⟨h1,h2⟩:=Jp hl.tmps
 obtain⟨h3,h4⟩:=nq hl.boxes
 have hbl:st'.boxes.length<=bs.length:=by rw[h.bl];exact h3
 have hget:∀{i b:Nat},(bs.take st'.boxes.length)[i]? =some (some b)->i<st'.boxes.length/\bs[i]? =some (some b):=by
  intro i b hi
  have hlt:i<st'.boxes.length:=by have:=aq hi;simp at this;omega
  rw[vaH hlt]at hi
  exact⟨hlt,hi⟩
 have hres:∀(i b:Nat),i<st'.boxes.length->bs[i]? =some (some b)->(bs.take st'.boxes.length)[i]? =some (some b):=λi b hi hb=>by
  rw[vaH hi];exact hb
 refine⟨Γ,bs.take st'.boxes.length,ow,?_,λi hi=>?_⟩
 ·exact{
   wi:=h.wi
   sz:=by rw[h.sz,h1]
   tm:=λt p v hp hv=>by
    rcases h2 t p hp with rfl|⟨h5,h6⟩
    ·exact .undef v
    ·exact(h.tm t p v h5 hv).restrict h6 hres
   bl:=by simp;omega
   bx:=λi b B hb hB=>by
    obtain⟨hlt,hb⟩:=hget hb
    obtain⟨B0,hB0,hx⟩:=h4 i B hB
    obtain⟨k1,k2,k3⟩:=h.bx i b B0 hb hB0
    refine⟨k1,k2,?_⟩
    cases B with
    |dead=>trivial
    |cells cs own=>
     cases B0<;>simp only[sb]at hx
     obtain⟨rfl,hcl,_⟩:=hx
     obtain⟨c,t,e1,e2,e3,e4⟩:=k3
     exact⟨c,t,e1,e2,λj p v hp hv=>(e3 j p v hp hv).restrict (pN hcl hp) hres,e4⟩
    |map es=>
     cases B0<;>simp only[sb]at hx
     obtain⟨rfl,hcl⟩:=hx
     obtain⟨c,t,e1,e2,e3,e4⟩:=k3
     refine⟨c,t,e1,e2,λj k u x hp hv=>?_,e4⟩
     obtain⟨q1,q2⟩:=hcl _ (vaO hp)
     exact⟨(e3 j k u x hp hv).1.restrict q1 hres,(e3 j k u x hp hv).2.restrict q2 hres⟩
   inj:=λi j b hi hj=>h.inj i j b (hget hi).2 (hget hj).2
   bn:=λi b hb=>h.bn i b (hget hb).2
   on:=h.on
   ot:=λt k e he=>h.ot t k e (hl.own _ he)
   ob:=λi j e cs own b hB hj hb=>by
    obtain⟨hlt,hb⟩:=hget hb
    obtain⟨B0,hB0,hx⟩:=h4 i _ hB
    cases B0<;>simp only[sb]at hx
    exact h.ob i j e _ _ b hB0 (hx.2.2 _ hj) hb
   gl:=λg cs hg=>(h.gl g cs hg).restrict (n:=0) (by simp only[PVal.cl];exact h.gc g cs hg) (λi b hi _=>absurd hi (va5 _))
   gc:=h.gc
   gx:=h.gx
   step:=h.step}
 ·rw[vaH (by omega)];exact hk i hi
end
section
variable{P:Program}{E:tS}{bs0:bG}
theorem Sl.len{st:aF}{a:Act}{w:World}(h:Sl P E bs0 st a w):bs0.length<=st.boxes.length:=by
 obtain⟨Γ,bs,ow,h,hk⟩:=h
 rw[<-h.bl]
 by_cases hl:bs0.length<=bs.length
 ·exact hl
 ·have h1:=hk bs.length (by omega)
  rw[va0 (vaw _),vac (by omega)]at h1
  cases h1
def Pr(P:Program)(E:tS)(bs0:bG)(ds:List Deferred)(Q:Exit->aF->Prop):Exit->Act->World->Prop:=
 λe a w=>a.defers=ds/\∃st,Sl P E bs0 st a w/\Q e st
end
def qaF(P:Program)(st:aF):ResultVar->Option PVal
 |.tmp t=>some (st.tmps.getD t .undef)
 |.cell t ty=>lT P ty (st.tmps.getD t .undef) st.boxes
def TV(P:Program)(st:aF):List ResultVar->Option (List PVal)
 |[]=>some []
 |x::r=>match qaF P st x,TV P st r with
  |some p,some l=>some (p::l)
  |_,_=>none
def I6(P:Program)(st:aF):List ResultVar->Option PVal
 |[x]=>qaF P st x
 |rs=>(TV P st rs).map .tuple
def eo:List ResultVar->Nat->Nat×Nat
 |[.tmp t],k=>(t,k)
 |rs,k=>match rs[k]? with
  |some (.tmp t)=>(t,0)
  |_=>(0,0)
def PVal.isSlice:PVal->Bool
 |.slice _=>true
 |_=>false
def sF(st:aF):List ResultVar->Nat->Prop
 |[.tmp _],_=>True
 |[_],_=>False
 |rs,k=>match rs[k]? with
  |some (.tmp t)=>(st.tmps.getD t .undef).isSlice=true
  |_=>False
def qfX(P:Program)(rs:List ResultVar)(r:PVal)(ro:List (Nat×TypeId))(H':List aB):Exit->aF->Prop
 | .normal,st | .ret,st => I6 P st rs = some r∧r.cl H'.length∧dD H'.length st.boxes H'∧(∀ x ∈ ro,(eo rs x.1,x.2) ∈ st.own∧sF st rs x.1) ∧
   (∀x∈ro,∀y∈ro,eo rs x.1=eo rs y.1->x.1=y.1)
 |_,_=>False
section
variable{P:Program}{E:tS}{Γ:bp}{bs:bG}{ow:Nat->Option mh}{w:World}{a:Array Value}{st:aF}
def Gi(src:Nat->Nat×Nat)(ro:List (Nat×TypeId))(ow:Nat->Option mh):Nat->Option mh:=λb=>
 match ow b with
 |some (.tmp t j)=>(ro.find? λx=>src x.1==(t,j)).map λx=>.tmp 0 x.1
 |L=>L
theorem SR.finish(h:SR P E Γ bs ow w a st){H':List aB}{v:Value}{r:PVal}(hv:VR Γ bs w r v)(hcl:r.cl H'.length)(hB:dD H'.length st.boxes H'){src:Nat->Nat×Nat}{ro:List (Nat×TypeId)}
  (hro:∀x∈ro,(src x.1,x.2)∈st.own/\∀u v',a[(src x.1).1]? =some u->mJ u (src x.1).2=some v'->mJ v x.1=some v')
  (hinj:∀x∈ro,∀y∈ro,src x.1=src y.1->x.1=y.1):
  SR P E Γ (bs.take H'.length) (Gi src ro ow) w #[v] ⟨[r],H',ro.map λx=>((0,x.1),x.2)⟩:=by
 have hR:Sl P E [] st ⟨a,[]⟩ w:=⟨Γ,bs,ow,h,λi hi=>absurd hi (va5 _)⟩
 obtain⟨h3,h4⟩:=nq hB
 have hget:∀{i b:Nat},(bs.take H'.length)[i]? =some (some b)->i<H'.length/\bs[i]? =some (some b):=by
  intro i b hi
  have hlt:i<H'.length:=by have:=aq hi;simp at this;omega
  rw[vaH hlt]at hi
  exact⟨hlt,hi⟩
 have hres:∀(i b:Nat),i<H'.length->bs[i]? =some (some b)->(bs.take H'.length)[i]? =some (some b):=λi b hi hb=>by
  rw[vaH hi];exact hb
 clear hR
 exact{
  wi:=h.wi
  sz:=rfl
  tm:=λt p v' hp hv'=>by
   cases t with
   |zero=>simp at hp hv';subst hp;subst hv';exact hv.restrict hcl hres
   |succ t=>simp at hp
  bl:=by simp[h.bl];omega
  bx:=λi b B hb hB=>by
   obtain⟨hlt,hb⟩:=hget hb
   obtain⟨B0,hB0,hx⟩:=h4 i B hB
   obtain⟨k1,k2,k3⟩:=h.bx i b B0 hb hB0
   refine⟨k1,k2,?_⟩
   cases B with
   |dead=>trivial
   |cells cs own=>
    cases B0<;>simp only[sb]at hx
    obtain⟨rfl,hcl,_⟩:=hx
    obtain⟨c,t,e1,e2,e3,e4⟩:=k3
    exact⟨c,t,e1,e2,λj p v hp hv=>(e3 j p v hp hv).restrict (pN hcl hp) hres,e4⟩
   |map es=>
    cases B0<;>simp only[sb]at hx
    obtain⟨rfl,hcl⟩:=hx
    obtain⟨c,t,e1,e2,e3,e4⟩:=k3
    refine⟨c,t,e1,e2,λj k u x hp hv=>?_,e4⟩
    obtain⟨q1,q2⟩:=hcl _ (vaO hp)
    exact⟨(e3 j k u x hp hv).1.restrict q1 hres,(e3 j k u x hp hv).2.restrict q2 hres⟩
  inj:=λi j b hi hj=>h.inj i j b (hget hi).2 (hget hj).2
  bn:=λi b hb=>h.bn i b (hget hb).2
  on:=λb L hL=>by
   unfold Gi at hL
   cases hb:ow b with
   |none=>rw[hb]at hL;cases hL
   |some L'=>exact h.on b L' hb
  ot:=λt k e he=>by
   simp only[vaq,Prod.mk.injEq]at he
   obtain⟨⟨k',e'⟩,hm,⟨rfl,rfl⟩,rfl⟩:=he
   obtain⟨h1,h2⟩:=hro _ hm
   obtain⟨u,v',e1,e2,e3,e4⟩:=h.ot _ _ _ h1
   refine⟨v,v',rfl,h2 u v' e1 e2,e3,λb hb=>?_⟩
   have:=e4 b hb
   simp only[Gi,this]
   cases hf:ro.find? λx=>src x.1==src k' with
   |none=>
    have:=vcX.1 hf _ hm
    simp at this
   |some x=>
    have hx:=vbt hf
    have hx2:=vb0 hf
    simp only[va9]at hx2
    have:=hinj x hx _ hm hx2
    simp only at this
    simp[this]
  ob:=λi j e cs own b hB hj hb=>by
   obtain⟨hlt,hb⟩:=hget hb
   obtain⟨B0,hB0,hx⟩:=h4 i _ hB
   cases B0<;>simp only[sb]at hx
   obtain⟨v',e1,e2,e3⟩:=h.ob i j e _ _ b hB0 (hx.2.2 _ hj) hb
   exact⟨v',e1,e2,λb' hb'=>by simp[Gi,e3 b' hb']⟩
  gl:=λg cs hg=>(h.gl g cs hg).restrict (n:=0) (by simp only[PVal.cl];exact h.gc g cs hg) (λi b hi _=>absurd hi (va5 _))
  gc:=h.gc
  gx:=h.gx
  step:=h.step}
theorem SR.getD(h:SR P E Γ bs ow w a st)(t:Nat):VR Γ bs w (st.tmps.getD t .undef) (a.getD t undef):=by
 have:=h.opv [] (.tmp t)
 exact this
theorem Rh{p:PVal}{v:Value}(hv:VR Γ bs w p v)(hp:p.isSlice=true):mJ v 0=some v:=by
 cases p<;>simp[PVal.isSlice]at hp
 cases hv<;>rfl
theorem Oa(h:SR P E Γ bs ow w a st){g:ResultVar->Sem Value}(h1:∀t,g (.tmp t)=pure (a.getD t undef))(h2:∀x t,g (.cell x t)=do loadVar t (<-asAddr (a.getD x undef))):∀{rs:List ResultVar} {l:List PVal},TV P st rs=some l->∃vs:List Value,(rs.mapM g).run P w=.ok vs w/\vs.length=rs.length/\l.length=rs.length/\(∀(i:Nat) p v,l[i]? =some p->vs[i]? =some v->VR Γ bs w p v)/\
   ∀(i:Nat) t,rs[i]? =some (.tmp t)->vs[i]? =some (a.getD t undef)
 |[],l,hl=>by
  cases hl
  exact⟨[],by simp,rfl,rfl,by simp,by simp⟩
 | x :: rs,l,hl => by
  unfold TV at hl
  split at hl
  ·rename_i p l' hp hl'
   cases hl
   obtain⟨vs,k1,k2,k3,k4,k5⟩:=Oa h h1 h2 hl'
   have hx:∃v,(g x).run P w=.ok v w/\VR Γ bs w p v/\∀t,x=.tmp t->v=a.getD t undef:=by
    cases x with
    |tmp t=>
     cases hp
     exact⟨a.getD t undef,by rw[h1];simp,h.getD t,λt' e=>by cases e;rfl⟩
    | cell t ty =>
     have hv:=h.getD t
     obtain⟨v,e1,e2⟩:=Kk h hv hp
     refine⟨v,?_,e2,λt' e=>by cases e⟩
     rw[h2]
     have hp':lT P ty (st.tmps.getD t .undef) st.boxes=some p:=hp
     generalize hvt:a.getD t undef=vt at hv e1
     generalize hpt:st.tmps.getD t .undef=pt at hv hp'
     unfold lT at hp'
     split at hp'
     ·cases hv<;>simpa[Instr.loadAt,Instr.sureAddr,asAddr]using e1
     ·cases hv;simpa[Instr.loadAt,Instr.sureAddr,asAddr]using e1
     ·cases hp'
   obtain⟨v,e1,e2,e3⟩:=hx
   refine⟨v::vs,by simp[vb4,e1,k1],by simp[k2],by simp[k3],λi q u hq hu=>?_,λi t ht=>?_⟩
   ·cases i with
    |zero=>simp at hq hu;subst hq;subst hu;exact e2
    |succ i=>exact k4 i q u (by simpa using hq) (by simpa using hu)
   ·cases i with
    |zero=>simp at ht;simp[e3 t ht]
    |succ i=>simpa using k5 i t (by simpa using ht)
  ·cases hl
theorem xt(h:SR P E Γ bs ow w a st){fn:Func}{r:PVal}(hr:I6 P st fn.results.toList=some r):∃v,(results fn a).run P w=.ok v w/\VR Γ bs w r v/\∀k u v',sF st fn.results.toList k->a[(eo fn.results.toList k).1]? =some u->mJ u (eo fn.results.toList k).2=some v'->mJ v k=some v':=by
 have hres:fn.results=fn.results.toList.toArray:=by simp
 generalize fn.results.toList=rs at hr hres
 have hsl:∀(t:Nat) u v',(st.tmps.getD t .undef).isSlice=true->a[t]? =some u->mJ u 0=some v'->a.getD t undef=v':=by
  intro t u v' hp hu hv'
  have h1:=h.getD t
  have h2:a.getD t undef=u:=by rw[vaE,hu];rfl
  rw[h2]at h1 ⊢
  rw[Rh h1 hp]at hv'
  exact(vaz _ _).mp hv'
 obtain⟨g,hg,h1,h2⟩:∃g:ResultVar->Sem Value,results fn a=(do let vs <-fn.results.mapM g;pure (if h:vs.size=1 then vs[0]else .tuple vs))/\(∀t,g (.tmp t)=pure (a.getD t undef))/\(∀x t,g (.cell x t)=do loadVar t (<-asAddr (a.getD x undef))):=
  ⟨_,rfl,λ_=>rfl,λ_ _=>rfl⟩
 rw[hg,hres,List.mapM_toArray]
 have many:∀(l:List PVal),TV P st rs=some l->rs.length≠1->r=.tuple l->(∀k,sF st rs k->∃t,rs[k]? =some (.tmp t)/\eo rs k=(t,0)/\(st.tmps.getD t .undef).isSlice=true)->
   ∃v,(do let vs <-(Functor.map List.toArray (rs.mapM g));pure (if h:vs.size=1 then vs[0]else Value.tuple vs):Sem Value).run P w=.ok v w/\VR Γ bs w r v/\
    ∀k u v',sF st rs k->a[(eo rs k).1]? =some u->mJ u (eo rs k).2=some v'->mJ v k=some v':=by
  intro l hl hn hr hp
  obtain⟨vs,k1,k2,k3,k4,k5⟩:=Oa h h1 h2 hl
  refine⟨.tuple vs.toArray,by simp[k1,k2,hn],?_,λk u v' hk hu hv'=>?_⟩
  ·subst hr
   exact .tuple _ _ (by simp[k2,k3]) λi p v hp hv=>k4 i p v hp (by simpa using hv)
  ·obtain⟨t,e1,e2,e3⟩:=hp k hk
   rw[e2]at hu hv'
   have:=k5 k t e1
   show vs.toArray[k]? =some v'
   rw[vbS,this,hsl t u v' e3 hu hv']
 rcases rs with _|⟨x,_|⟨y,rs⟩⟩
 ·cases hr
  exact many [] rfl (by simp) rfl (λk hk=>by simp[sF]at hk)
 ·have hl:TV P st [x]=some [r]:=by
   have hr':qaF P st x=some r:=hr
   simp[TV,hr']
  obtain⟨vs,k1,k2,k3,k4,k5⟩:=Oa h h1 h2 hl
  match vs,k2 with
  | [v],_ =>
   refine⟨v,by simp[-List.mapM_cons,k1],k4 0 r v rfl rfl,λk u v' hk hu hv'=>?_⟩
   cases x with
   |tmp t=>
    have:=k5 0 t rfl
    simp at this
    simp only[eo]at hu hv'
    rw[this,hu]
    exact hv'
   |cell t ty=>exact hk.elim
 ·have hr':(TV P st (x::y::rs)).map PVal.tuple=some r:=hr
  rw[vaG]at hr'
  obtain⟨l,hl,e⟩:=hr'
  refine many l hl (by simp) e.symm λk hk=>?_
  simp only[sF]at hk
  split at hk
  ·rename_i t ht
   exact⟨t,ht,by simp only[eo,ht],hk⟩
  ·exact hk.elim
end
section
variable{P:Program}{GE:List (Nat×List PVal)}{A:List Nat}{ops:Array Oper}
theorem qab{op:Op}{id:Nat}{v:Operand->PVal}{H:List aB}{K K':PVal->List (Nat×TypeId)->List aB->Prop}(h:Ph P GE op id v H K)(hk:∀p ro H,K p ro H->K' p ro H):Ph P GE op id v H K':=by
 unfold Ph at *
 split at h
 ·unfold G1 at *
  split at h
  ·rcases h with⟨h1,r,ro,h2,h3⟩|⟨ρ,argsC,Hc,rc,ro,Hc',H',r,k1,k2,k3,k4,k5,k6,k7,k8,k9,h3⟩
   ·exact .inl ⟨h1,r,ro,h2,hk _ _ _ h3⟩
   ·exact .inr ⟨ρ,argsC,Hc,rc,ro,Hc',H',r,k1,k2,k3,k4,k5,k6,k7,k8,k9,hk _ _ _ h3⟩
  ·exact h.elim
 ·split at h
  ·exact hk _ _ _ h
  ·exact h.elim
theorem oI{o:Oper}{id:Nat}{K K':aF->Prop}{st:aF}(hk:∀st,K st->K' st)(h:mU o st.tmps.length=true/\Ph P GE o.op id (opv GE st.tmps) st.boxes λp ro H=>K (zU st o.dst p ro H)):mU o st.tmps.length=true/\Ph P GE o.op id (opv GE st.tmps) st.boxes λp ro H=>K' (zU st o.dst p ro H):=⟨h.1,qab h.2 λ_ _ _ h=>hk _ h⟩
theorem U2{o:Oper}{id:Nat}{K K':aF->Prop}{st:aF}(hk:∀st,K st->K' st)(h:Lb P GE A o id K st):Lb P GE A o id K' st:=by
 unfold Lb at *
 split at h
 case h_1=>exact⟨h.1,hk _ h.2⟩
 case h_2=>
  split at h
  ·rename_i hA;simp only[vad hA];exact⟨h.1,hk _ h.2⟩
  ·rename_i hA;simp only[vab hA];exact oI hk h
 case h_3=>
  split at h
  ·exact⟨h.1,hk _ h.2⟩
  ·exact oI hk h
 case h_4=>
  split at h
  ·exact⟨h.1,hk _ h.2⟩
  ·exact oI hk h
 case h_5=>
  split at h
  ·exact⟨h.1,hk _ h.2⟩
  ·exact h.elim
 case h_6=>
  split at h
  ·exact⟨h.1,hk _ h.2⟩
  ·exact h.elim
 case h_7=>
  split at h
  ·split at h
   ·exact⟨h.1,h.2.1,h.2.2.1,hk _ h.2.2.2⟩
   ·exact h.elim
  ·exact h.elim
 case h_8=>
  split at h
  ·rename_i hA
   simp only[vad hA]
   split at h
   ·split at h
    ·split at h
     ·exact⟨h.1,h.2.1,hk _ h.2.2⟩
     ·exact h.elim
    ·exact h.elim
   ·exact h.elim
  ·rename_i hA;simp only[vab hA];exact oI hk h
 case h_9=>
  split at h
  ·split at h
   ·exact hk _ h
   ·exact oI hk h
  ·exact oI hk h
 case h_10=>exact oI hk h
theorem qeH{n:Int}(h1: -9223372036854775808<=n)(h2:n<9223372036854775808):IntKind.i64.wrap n=n:=by
 simp[IntKind.wrap,IntKind.bits,IntKind.signed];omega
end
section
variable{P:Program}{E:tS}{Γ:bp}{bs:bG}{ow:Nat->Option mh}{w:World}{a:Array Value}{st:aF}
theorem SU{sz:Nat}(hsz:0<sz):∀{ns:List (List PVal)},(∀x∈ns,x.length=sz)->∀{j:Nat} {p:PVal},ns.flatten[j]? =some p->∃x,ns[j / sz]? =some x/\x[j % sz]? =some p
 |[],_,j,p,h=>by simp at h
 | x :: ns,hl,j,p,h => by
  have hx:=hl x (by simp)
  rw[List.flatten_cons]at h
  by_cases hj:j<sz
  ·rw[van (by omega)]at h
   rw[vc4 hj,vc5 hj]
   exact⟨x,rfl,h⟩
  ·rw[vav (by omega),hx]at h
   obtain⟨y,h1,h2⟩:=SU hsz (λz hz=>hl z (by simp[hz])) h
   have e1:j / sz=(j - sz) / sz+1:=by
    conv=>lhs;rw[show j=(j - sz)+sz by omega]
    rw[Nat.add_div_right _ hsz]
   have e2:j % sz=(j - sz) % sz:=by
    conv=>lhs;rw[show j=(j - sz)+sz by omega]
    rw[Nat.add_mod_right]
   rw[e1,e2]
   exact⟨y,by simpa using h1,h2⟩
theorem SV{sz:Nat}:∀{ns:List (List PVal)},(∀x∈ns,x.length=sz)->ns.flatten.length=ns.length * sz
 |[],_=>by simp
 |x::ns,hl=>by
  rw[List.flatten_cons,vas,hl x (by simp),SV (λz hz=>hl z (by simp[hz])),vaM,vbp,vb2,vcE]
end
def Uj(P:Program)(E:tS)(bs:bG)(id:Nat)(mk:Bool)(ds:List Deferred)(K:aF->Prop)(a:Act)(w:World):Prop:=
 a.defers=ds/\∃Γ bs' ow st,SR P E Γ bs' ow w a.tmps st/\K st/\(bs'=bs\/(mk=true/\∃b,bs'=bs.set id (some b))\/∃X,bs'=bs++X)
theorem f8.to3{P:Program}{E:tS}{bs:bG}{id:Nat}{mk:Bool}{ds:List Deferred}{K:aF->Prop}{a:Act}{w:World}(h:f8 P E bs id mk ds K a w):Uj P E bs id mk ds K a w:=by
 obtain⟨h1,Γ,bs',ow,st,h2,h3,h4⟩:=h
 exact⟨h1,Γ,bs',ow,st,h2,h3,h4.imp_right .inl⟩
structure OA where
 i:Nat
 t:Nat
 k:Nat
 e:TypeId
def eS(ρ:List Nat)(oa:List OA)(Γ:bp)(ow:Nat->Option mh):Nat->Option mh:=λb=>
 match ow b with
 |some (.box j k)=>if(Γ b).isSome/\j∈ρ then some (.box (ρ.idxOf j) k)else none
 |some (.tmp t k)=>match oa.find? λy=>y.t==t&&y.k==k with
  |some x=>if(Γ b).isSome then some (.tmp x.i k)else none
  |none=>none
 |_=>none
def wj(ρ:List Nat)(oa:List OA)(d:Nat)(owC ow:Nat->Option mh):Nat->Option mh:=λb=>
 match owC b with
 |some (.box i k)=>some (.box (ρ.getD i 0) k)
 |some (.tmp _ k)=>some (.tmp d k)
 |none=>match ow b with
  |some (.box j k)=>if j∈ρ then none else some (.box j k)
  |some (.tmp t k)=>if(oa.any λx=>x.t==t&&x.k==k)=true then none else some (.tmp t k)
  |none=>none
section
variable{P:Program}{E:tS}{Γ:bp}{bs:bG}{ow:Nat->Option mh}{w:World}{a:Array Value}{st:aF}{ρ:List Nat}
theorem YR(h:SR P E Γ bs ow w a st){g:FuncId}{args argsC:List PVal}{r rc:PVal}{ro:List (Nat×TypeId)}{Hc Hc' H':List aB}{vs:Array Value}{d:Nat}{oa:List OA}(hd:d<a.size)
  (hn:ρ.Nodup) (hC:C P E.GE g argsC (oa.map λx=>((x.i,x.k),x.e)) Hc rc ro Hc') (ho1:∀x∈oa,(vs[x.i]? =some (.slice none 0 0)/\x.k=0)\/(((x.t,x.k),x.e)∈st.own/\vs[x.i]? =a[x.t]?)) (ho3:∀x∈oa,∀y∈oa,x.t=y.t->x.k=y.k->x.i=y.i) (hH:Dl ρ st.boxes Hc) (hH':Dl ρ H' Hc') (hlen:H'.length=st.boxes.length) (hsame:∀j:Nat,j∉ρ->H'[j]? =st.boxes[j]?)
  (hr:Bg ρ r rc) (hal:args.length=argsC.length) (ha:∀(i:Nat) p q,args[i]? =some p->argsC[i]? =some q->Bg ρ p q)
  (hl:vs.size=args.length) (hv:∀(i:Nat) p v,args[i]? =some p->vs[i]? =some v->VR Γ bs w p v):
  Calls P g vs w λe w'=>∃v Γ' ow',e=.returned v/\SR P E Γ' bs ow' w' (a.setIfInBounds d v) {st with tmps:=st.tmps.set d r,boxes:=H',own:=(ro.map λx=>((d,x.1),x.2))++bQ d (st.own.filter λz=>!oa.any λx=>z.1==(x.t,x.k))}/\Γ.Le w Γ' w':=by
 let bsC:bG:=ρ.map λj=>(bs[j]?).getD none
 have hjlt:∀{i j:Nat},ρ[i]? =some j->j<st.boxes.length:=λ{i j} hij=>by
  obtain⟨B,_,hB,_⟩:=hH.box i j hij;exact aq hB
 have hbb:∀(i j:Nat),ρ[i]? =some j->bsC[i]? =bs[j]?:=by
  intro i j hij
  have hj:j<bs.length:=by rw[h.bl];exact hjlt hij
  simp[bsC,hij,vac hj]
 have hbc:∀{i b:Nat},bsC[i]? =some (some b)->∃j,ρ[i]? =some j/\bs[j]? =some (some b):=by
  intro i b hib
  have hi:i<ρ.length:=by have:=aq hib;simpa[bsC]using this
  have hij:ρ[i]? =some ρ[i]:=vac hi
  exact⟨_,hij,(hbb i _ hij).symm.trans hib⟩
 have hcow:∀{b L},eS ρ oa Γ ow b=some L->(Γ b).isSome/\((∃j k,ow b=some (.box j k)/\j∈ρ/\L=.box (ρ.idxOf j) k)\/(∃x∈oa,ow b=some (.tmp x.t x.k)/\L=.tmp x.i x.k)):=by
  intro b L hL
  unfold eS at hL
  split at hL
  ·rename_i j k hb
   split at hL
   ·rename_i hc;cases hL;exact⟨hc.1,.inl ⟨j,k,hb,hc.2,rfl⟩⟩
   ·cases hL
  ·rename_i t k hb
   split at hL
   ·rename_i x hx
    split at hL
    ·rename_i hc
     cases hL
     have h1:=vbt hx
     have h2:=vb0 hx
     simp only[vaf,va9]at h2
     exact⟨hc,.inr ⟨x,h1,by rw[hb,h2.1,h2.2],by rw[h2.2]⟩⟩
    ·cases hL
   ·cases hL
  ·cases hL
 have hpre:SR P ⟨E.GE,Γ,w,bJ bsC (eS ρ oa Γ ow)⟩ Γ bsC (eS ρ oa Γ ow) w vs ⟨argsC,Hc,oa.map λx=>((x.i,x.k),x.e)⟩:={
  wi:=h.wi
  sz:=by simpa[hal]using hl
  tm:=λt q v hq hv'=>by
   have ht:=aq hq
   have hp:=vac (l:=args) (i:=t) (by rw[hal];exact ht)
   exact(ha t _ q hp hq).to hbb (hv t _ v hp hv')
  bl:=by simp[bsC,hH.len]
  bx:=λi b Bc hib hBc=>by
   obtain⟨j,hij,hjb⟩:=hbc hib
   obtain⟨B,Bc',hB,hBc',hx⟩:=hH.box i j hij
   rw[hBc]at hBc';cases hBc'
   obtain⟨k1,k2,k3⟩:=h.bx j b B hjb hB
   exact⟨k1,k2,hx.to hbb k3⟩
  inj:=λi j b hi hj=>by
   obtain⟨x,hx,hxb⟩:=hbc hi
   obtain⟨y,hy,hyb⟩:=hbc hj
   have:=h.inj x y b hxb hyb
   subst this
   rw[<-wm hn hx,wm hn hy]
  bn:=λi b hb=>.inl (.inl ⟨i,hb⟩)
  on:=λb L hL=>by
   refine⟨?_,.inl (.inr (by rw[hL];simp))⟩
   rcases(hcow hL).2 with⟨j,k,hb,_⟩|⟨x,_,hb,_⟩<;>exact(h.on b _ hb).1
  ot:=λt k e he=>by
   simp only[vaq,Prod.mk.injEq]at he
   obtain⟨x,hx,⟨rfl,rfl⟩,rfl⟩:=he
   rcases ho1 x hx with⟨hn1,hn2⟩|⟨ht1,ht2⟩
   ·exact⟨_,.slice none 0 0,hn1,by rw[hn2];rfl,⟨0,[],World.ownsRow_nil _ _ _ _,λb hb=>by simp[Value.ownBlock]at hb⟩,λb hb=>by simp[Value.ownBlock]at hb⟩
   obtain⟨u,v',h1,h2,h3,h4⟩:=h.ot _ _ _ ht1
   refine⟨u,v',ht2.trans h1,h2,h3,λb hb=>?_⟩
   have hg:(Γ b).isSome:=by obtain⟨n,xs,_,o2⟩:=h3;rw[o2 b hb];rfl
   unfold eS
   rw[h4 b hb]
   simp only
   cases hf:oa.find? λy=>y.t==x.t&&y.k==x.k with
   |none=>
    have:=vcX.1 hf x hx
    simp at this
   |some y=>
    have q1:=vbt hf
    have q2:=vb0 hf
    simp only[vaf,va9]at q2
    simp only[vad hg,ho3 y q1 x hx q2.1 q2.2]
  ob:=λi k e cs own b hB hk hb=>by
   obtain⟨j,hij,hjb⟩:=hbc hb
   obtain⟨B,Bc',hB',hBc',hx⟩:=hH.box i j hij
   rw[hB]at hBc';cases hBc'
   cases B with
   |cells cs' own'=>
    obtain⟨rfl,_,_⟩:=hx
    obtain⟨v,k1,k2,k3⟩:=h.ob j k e cs' own' b hB' hk hjb
    refine⟨v,k1,k2,λb' hb'=>?_⟩
    have hg:(Γ b').isSome:=by obtain⟨n,xs,_,o2⟩:=k2;rw[o2 b' hb'];rfl
    simp only[eS,k3 b' hb']
    rw[vad ⟨hg,vaO hij⟩,wm hn hij]
   |map es=>simp[kG]at hx
   |dead=>simp[kG]at hx
  gl:=λg cs hg=>(h.gl g cs hg).restrict (n:=0) (by simp only[PVal.cl];exact h.gc g cs hg) (λi b hi _=>absurd hi (va5 _))
  gc:=h.gc
  gx:=λg cs hg=>by
   obtain⟨k1,k2,k3,k4⟩:=h.gnow hg
   refine⟨k1,λhT=>?_,k4⟩
   rcases hT with⟨i,hi⟩|hT
   ·obtain⟨j,_,hjb⟩:=hbc hi
    exact k2 j g hjb rfl
   ·cases hL:eS ρ oa Γ ow g with
    |none=>exact hT hL
    |some L=>
     rcases(hcow hL).2 with⟨j,k,hk',_⟩|⟨x,_,hk',_⟩<;>(rw[k3]at hk';cases hk')
  step:=.refl _ _ _ _}
 refine(hC.2 Γ bsC _ w vs hpre).mono λe w' he=>?_
 obtain⟨v,Γ',owC,rfl,hS⟩:=he
 have hle:Γ.Le w Γ' w':=hS.step.le
 have hTE:∀b,bJ bsC (eS ρ oa Γ ow) b->E.T b\/E.w.heap.size<=b:=by
  intro b hb
  rcases hb with⟨i,hi⟩|hb
  ·obtain⟨j,_,hjb⟩:=hbc hi
   exact h.bn j b hjb
  ·cases hL:eS ρ oa Γ ow b with
   |none=>exact absurd hL hb
   |some L=>
    rcases(hcow hL).2 with⟨j,k,hk,_⟩|⟨x,_,hk,_⟩<;>exact(h.on b _ hk).2
 have hkeep:∀b,b<w.heap.size->¬bJ bsC (eS ρ oa Γ ow) b->w'.heap[b]? =w.heap[b]?/\Γ' b=Γ b:=λb hb hT=>hS.step.keep b hb hT
 have hnotT_own:∀{b L},ow b=some L->(Γ b).isSome->(∀j k,L=.box j k->j∉ρ)->(∀x∈oa,L≠.tmp x.t x.k)->¬bJ bsC (eS ρ oa Γ ow) b:=by
  intro b L hL hg hne hne2 hT
  rcases hT with⟨i,hi⟩|hT
  ·obtain⟨j,hij,hjb⟩:=hbc hi
   obtain⟨B,_,hB,_⟩:=hH.box i j hij
   rw[(h.bx j b B hjb hB).1]at hg;cases hg
  ·cases hL':eS ρ oa Γ ow b with
   |none=>exact hT hL'
   | some L' =>
    rcases(hcow hL').2 with⟨j,k,hk,hj,_⟩|⟨x,hx,hk,_⟩
    ·rw[hL]at hk;cases hk
     exact hne j k rfl hj
    ·rw[hL]at hk;cases hk
     exact hne2 x hx rfl
 have hnotT_box:∀{j b:Nat},bs[j]? =some (some b)->j∉ρ->¬bJ bsC (eS ρ oa Γ ow) b:=by
  intro j b hjb hj hT
  rcases hT with⟨i,hi⟩|hT
  ·obtain⟨j',hij,hjb'⟩:=hbc hi
   have:=h.inj _ _ _ hjb hjb'
   subst this
   exact hj (vaO hij)
  ·cases hL':eS ρ oa Γ ow b with
   |none=>exact hT hL'
   |some L'=>
    have hg:=(hcow hL').1
    have hjl:j<st.boxes.length:=by rw[<-h.bl];exact aq hjb
    rw[(h.bx j b _ hjb (vac hjl)).1]at hg;cases hg
 have hold:∀{b L},ow b=some L->(Γ b).isSome->(∀j k,L=.box j k->j∉ρ)->(∀x∈oa,L≠.tmp x.t x.k)->wj ρ oa d owC ow b=some L:=by
  intro b L hL hg hne hne2
  have hT:=hnotT_own hL hg hne hne2
  have hnone:owC b=none:=by
   cases hx:owC b with
   |none=>rfl
   | some L' =>
    obtain⟨_,k2⟩:=hS.on b L' hx
    rcases k2 with k2|k2
    ·exact absurd k2 hT
    ·have:=(h.on b L hL).1
     exact absurd k2 (vcq.2 this)
  unfold wj
  rw[hnone]
  simp only[hL]
  cases L with
  |tmp t k=>
   simp only
   rw[vab]
   intro hx
   obtain⟨x,hx1,hx2⟩:=vcz.1 hx
   simp only[vaf,va9]at hx2
   exact hne2 x hx1 (by rw[hx2.1,hx2.2])
  |box j k=>simp only;rw[vab (hne j k rfl)]
 have howned:∀{v:Value} {e:TypeId} {b:Nat},im P Γ w v e->v.ownBlock=some b->(Γ b).isSome:=by
  intro v e b ho hb
  obtain⟨n,xs,_,o2⟩:=ho
  rw[o2 b hb];rfl
 have hrv:VR Γ' bs w' r v:=hr.from hbb (hS.tm 0 rc v rfl rfl)
 refine⟨v,Γ',wj ρ oa d owC ow,rfl,?_,hle⟩
 exact{
  wi:=hS.wi
  sz:=by simp[h.sz]
  tm:=λt q u hq hu=>by
   simp only[vbG]at hq
   rw[vbq]at hu
   by_cases hdt:d=t
   ·subst hdt
    simp only[if_true]at hq hu
    split at hu
    ·split at hq
     ·cases hu;cases hq;exact hrv
     ·cases hq
    ·rename_i hnd;exact absurd hd hnd
   ·simp only[hdt,if_false]at hq hu
    exact(h.tm t q u hq hu).mono hle (.refl _)
  bl:=by simp[h.bl,hlen]
  bx:=λj b B hjb hB=>by
   by_cases hj:j∈ρ
   ·obtain⟨i,hij⟩:=vbf.1 hj
    obtain⟨B',Bc,hB',hBc,hx⟩:=hH'.box i j hij
    rw[hB]at hB';cases hB'
    obtain⟨k1,k2,k3⟩:=hS.bx i b Bc ((hbb i j hij).trans hjb) hBc
    exact⟨k1,k2,hx.from hbb k3⟩
   ·have hB0:st.boxes[j]? =some B:=(hsame j hj).symm.trans hB
    obtain⟨k1,k2,k3⟩:=h.bx j b B hjb hB0
    obtain⟨q1,q2⟩:=hkeep b k2 (hnotT_box hjb hj)
    exact⟨q2.trans k1,vaU k2 hS.step.size,k3.mono hle (.refl _) q1⟩
  inj:=h.inj
  bn:=h.bn
  on:=λb L hL=>by
   unfold wj at hL
   split at hL
   ·rename_i i k hb
    obtain⟨k1,k2⟩:=hS.on b _ hb
    exact⟨k1,k2.elim (hTE b) (λhx=>.inr (vau h.step.size hx))⟩
   ·rename_i t k hb
    obtain⟨k1,k2⟩:=hS.on b _ hb
    exact⟨k1,k2.elim (hTE b) (λhx=>.inr (vau h.step.size hx))⟩
   ·have hsz:=hS.step.size
    cases hb:ow b with
    |none=>rw[hb]at hL;cases hL
    |some L'=>exact⟨vaU (h.on b _ hb).1 hsz,(h.on b _ hb).2⟩
  ot:=λt k e he=>by
   rcases vaS.1 he with he|he
   ·simp only[vaq,Prod.mk.injEq]at he
    obtain⟨⟨k',e'⟩,hm,⟨rfl,rfl⟩,rfl⟩:=he
    obtain⟨u,v',h1,h2,h3,h4⟩:=hS.ot 0 k' e' (vaq.2 ⟨(k',e'),hm,rfl⟩)
    simp at h1;subst h1
    refine⟨v,v',by simp[hd],h2,h3,λb hb=>?_⟩
    simp only[wj,h4 b hb]
   ·obtain⟨he,htd⟩:=dS he
    obtain⟨he,hne0⟩:=bK he
    have hne2:∀x∈oa,mh.tmp t k≠.tmp x.t x.k:=λx hx e=>by
     cases e
     simp only[vaZ,vbi,va9]at hne0
     exact hne0 x hx rfl
    obtain⟨u,v',h1,h2,h3,h4⟩:=h.ot t k e he
    have hq:∀b,v'.ownBlock=some b->¬bJ bsC (eS ρ oa Γ ow) b:=λb hb=>hnotT_own (h4 b hb) (howned h3 hb) (λj k hx=>by cases hx) hne2
    exact⟨u,v',by rw[vbd (λe=>htd e.symm)];exact h1,h2,h3.same λb hb=>hkeep b (h3.lt hb) (hq b hb),λb hb=>hold (h4 b hb) (howned h3 hb) (λj k hx=>by cases hx) hne2⟩
  ob:=λj k e cs own b hB hk hjb=>by
   by_cases hj:j∈ρ
   ·obtain⟨i,hij⟩:=vbf.1 hj
    obtain⟨B',Bc,hB',hBc,hx⟩:=hH'.box i j hij
    rw[hB]at hB';cases hB'
    cases Bc with
    |cells cs' own'=>
     obtain⟨rfl,_,_⟩:=hx
     obtain⟨v',k1,k2,k3⟩:=hS.ob i k e cs' own b hBc hk ((hbb i j hij).trans hjb)
     refine⟨v',k1,k2,λb' hb'=>?_⟩
     have hgd:ρ.getD i 0=j:=by rw[vap,hij];rfl
     simp only[wj,k3 b' hb',hgd]
    |map es=>simp[kG]at hx
    |dead=>simp[kG]at hx
   ·have hB0:st.boxes[j]? =some (.cells cs own):=(hsame j hj).symm.trans hB
    obtain⟨v',k1,k2,k3⟩:=h.ob j k e cs own b hB0 hk hjb
    obtain⟨_,hlt,_⟩:=h.bx j b _ hjb hB0
    have hne:∀j' k',mh.box j k=.box j' k'->j'∉ρ:=λj' k' hx=>by cases hx;exact hj
    have hne2:∀x∈oa,mh.box j k≠.tmp x.t x.k:=λx _ e=>by cases e
    exact⟨v',(cK (hkeep b hlt (hnotT_box hjb hj)).1 k).trans k1,k2.same λb' hb'=>hkeep b' (k2.lt hb') (hnotT_own (k3 b' hb') (howned k2 hb') hne hne2),λb' hb'=>hold (k3 b' hb') (howned k2 hb') hne hne2⟩
  gl:=λg cs hg=>(h.gl g cs hg).mono hle (.refl _)
  gc:=h.gc
  gx:=h.gx
  step:={
   os:=hS.step.os.trans h.step.os
   tape:=hS.step.tape.trans h.step.tape
   output:=hS.step.output.trans h.step.output
   size:=vau h.step.size hS.step.size
   drawn:=vau h.step.drawn hS.step.drawn
   keep:=λb hb hT=>by
    have hlt:b<w.heap.size:=vaU hb h.step.size
    have hnT:¬bJ bsC (eS ρ oa Γ ow) b:=λhx=>(hTE b hx).elim hT (λhx=>absurd hx (vcq.2 hb))
    obtain⟨k1,k2⟩:=h.step.keep b hb hT
    obtain⟨q1,q2⟩:=hkeep b hlt hnT
    exact⟨q1.trans k1,q2.trans k2⟩
   le:=h.step.le.trans hle}}
end
def nilTo(i:Nat)(T:TypeId):PVal->PVal
 |.val (.pointer none)=>.nptr i T
 |p=>p
def qca(P:Program)(GE:List (Nat×List PVal))(o:Oper)(id:Nat)(K:aF->Prop)(st:aF):Prop:=
 match o.op,o.dst with
 | .box T (.tmp t),some d => ∃ (l:List PVal) (L:List (Nat×TypeId)),st.tmps.getD t .undef = .agg l∧LF l = true∧(∀ y ∈ L,((t,y.1),y.2) ∈ st.own)∧(L.map (·.1)).Nodup∧d < st.tmps.length ∧
   K ⟨st.tmps.set d (.bptr id 0),st.boxes.set id (.cells (l.map (nilTo id T)) ((L.map λy=>(0+y.1,y.2)).reverse++[])),bQ d (st.own.filter λx=>!L.any λy=>x.1==(t,y.1))⟩
 |.alloc T,some d=>∃zs:List PVal,fu P T=some zs/\d<st.tmps.length/\K ⟨st.tmps.set d (.bptr id 0),st.boxes.set id (.cells (zs.map (nilTo id T)) (Ld P T)),bQ d st.own⟩
 | .call { callee := .builtin .append,args:=⟨[.tmp t,y]⟩,argTypes:=⟨[T,T']⟩ },some d => ∃ (es:List (List PVal)) (s:List UInt8) (e:TypeId) (p:PVal),st.tmps.getD t .undef = .slice es∧opv GE st.tmps y = .str s∧P.underlying T = some (.slice e)∧((t,0),e) ∈ st.own∧Ax P T T' es s = some p∧d < st.tmps.length ∧
   K ⟨st.tmps.set d p,st.boxes,((d,0),e)::bQ d (st.own.filter λx=>x.1 !=(t,0))⟩
 |_,_=>False
theorem Z4{P:Program}{GE:List (Nat×List PVal)}{o:Oper}{id:Nat}{K K':aF->Prop}{st:aF}(hk:∀st,K st->K' st)(h:qca P GE o id K st):qca P GE o id K' st:=by
 unfold qca at *
 split at h
 ·obtain⟨l,L,h1,h0,h2,h3,h4,h5⟩:=h;exact⟨l,L,h1,h0,h2,h3,h4,hk _ h5⟩
 ·obtain⟨zs,h1,h2,h3⟩:=h;exact⟨zs,h1,h2,hk _ h3⟩
 ·obtain⟨es,s,e,p,h1,h2,h3,h4,h5,h6,h7⟩:=h;exact⟨es,s,e,p,h1,h2,h3,h4,h5,h6,hk _ h7⟩
 ·exact h
section
variable{P:Program}{E:tS}{Γ:bp}{bs:bG}{ow:Nat->Option mh}{w:World}
theorem VR.nilTo{p:PVal}{v:Value}(h:VR Γ bs w p v)(i:Nat)(T:TypeId):VR Γ bs w (nilTo i T p) v:=by
 unfold Go.Proofs.YtibglelmlnfojaaGreatDoor.nilTo
 split
 ·cases h;exact .nptrN i T
 ·exact h
section
variable{a:Array Value}{st:aF}
theorem SR.weakBox(h:SR P E Γ bs ow w a st){i:Nat}{cs:List PVal}{own:List (Nat×TypeId)}(hi:st.boxes[i]? =some (.cells cs own)){T:TypeId}(hT:∀(b:Nat) c t,bs[i]? =some (some b)->w.heap[b]? =some (.cells c t (0,0))->t=T/\c.size=cs.length):SR P E Γ bs ow w a {st with boxes:=st.boxes.set i (.cells (cs.map (nilTo i T)) own)}:=
 { h with
  bl:=by simp[h.bl]
  bx:=λj b B hb hB=>by
   by_cases hj:i=j
   ·subst hj
    rw[vai (aq hi)]at hB
    cases hB
    obtain⟨k1,k2,c,t,k3,k4,k5,k6⟩:=h.bx i b _ hb hi
    refine⟨k1,k2,c,t,k3,by simpa using k4,λq p v hp hv=>?_,λq i2 T2 hq=>?_⟩
    rotate_left
    ·rw[vaA]at hq
     obtain⟨p0,hp0,hp1⟩:=vaG.1 hq
     rw[vbI]
     unfold Go.Proofs.YtibglelmlnfojaaGreatDoor.nilTo at hp1
     split at hp1
     ·cases hp1;exact hT b c t hb k3
     ·subst hp1;exact k6 q i2 T2 hp0
    rw[vaA]at hp
    obtain⟨p0,hp0,rfl⟩:=vaG.1 hp
    exact(k5 q p0 v hp0 hv).nilTo i T
   ·rw[vat hj]at hB
    exact h.bx j b B hb hB
  ob:=λj q e cs' own' b hB hj hb=>by
   by_cases hji:i=j
   ·subst hji
    rw[vai (aq hi)]at hB
    cases hB
    exact h.ob i q e cs own b hi hj hb
   ·rw[vat hji]at hB
    exact h.ob j q e cs' own' b hB hj hb}
end
variable{a:Act}{st:aF}
theorem XO(h:SR P E Γ bs ow w a.tmps st){o:Oper}{id:Nat}(hid:aE o.op=true->bs[id]? =some none){K:aF->Prop}(hp:qca P E.GE o id K st)(Q:Exit->Act->World->Prop):o.wp P a w (Uj P E bs id (aE o.op) a.defers K) Q:=by
 unfold qca at hp
 split at hp
 ·rename_i T t d ho hd
  obtain⟨l,L,ht,hno,hm,hn,hdl,hK⟩:=hp
  have hid':=hid (by simp[ho,aE])
  have htl:t<st.tmps.length:=by
   by_cases hlt:t<st.tmps.length
   ·exact hlt
   ·rw[vap,va0 (vbL hlt)]at ht;cases ht
  have hta:t<a.tmps.size:=by rw[h.sz];exact htl
  have hu:a.tmps[t]? =some a.tmps[t]:=by simp[hta]
  generalize a.tmps[t]=u at hu
  have hvt:=Jo h hu
  rw[ht]at hvt
  obtain⟨v,w',r1,r2,r3,r4,r5⟩:=TD (t:=T) h hid' hvt (cs:=l) (NP rfl hno)
  cases hvt with
  |agg _ vs hl hvv=>
  have hrun:(execOp a.eval o).run P w=.ok (.value v) w':=by simp[execOp,ho,td hu,r1]
  have hw':w'=w.alloc (.cells (Value.agg vs).cells T)/\v=.pointer (some ⟨w.heap.size,0,none⟩):=by
   have:(Instr.box T (.agg vs)).run P w=.ok (.pointer (some ⟨w.heap.size,0,none⟩)) (w.alloc (.cells (Value.agg vs).cells T)):=by simp[Instr.box,newVar,newRow]
   rw[this]at r1
   cases r1
   exact⟨rfl,rfl⟩
  obtain⟨rfl,rfl⟩:=hw'
  unfold Oper.wp
  rw[hrun,Oper.upon_value]
  have hbi:(bs.set id (some w.heap.size))[id]? =some (some w.heap.size):=vai (aq hid')
  have hlid:id<st.boxes.length:=by rw[<-h.bl];exact aq hid'
  obtain⟨ow',g1⟩:=SR.moveOwns (off:=0) hbi hu L r2 (vai hlid) hm hn λy hy=>by
   obtain⟨u',v',e1,e2,_,_⟩:=h.ot t y.1 y.2 (hm y hy)
   rw[hu]at e1
   cases e1
   refine⟨v',e2,?_⟩
   rw[vaT,cell_of_row _ _ _ _ T _ (fX w _)]
   exact e2
  have g2:=g1.weakBox (i:=id) (cs:=l) (own:=(L.map λy=>(0+y.1,y.2)).reverse++[]) (by rw[vbT];exact vai hlid) (T:=T) (λb c t hb hc=>by
   rw[hbi]at hb;cases hb
   rw[fX]at hc;cases hc
   exact⟨rfl,hl⟩)
  simp only[vbT]at g2
  have g3:=g2.set (d:=d) r3
  have hput:∀v,(a.put o.dst v).tmps=a.tmps.setIfInBounds d v:=λv=>by rw[hd];rfl
  rw[<-hput]at g3
  exact⟨dX _ _ _,Γ,_,_,_,g3,hK,.inr (.inl ⟨by simp[ho,aE],_,rfl⟩)⟩
 ·rename_i T d ho hd
  obtain⟨zs,hz,hdl,hK⟩:=hp
  have hid':=hid (by simp[ho,aE])
  obtain⟨v,w',r1,r2,r3,r4,r5⟩:=NL (t:=T) h hid' hz
  have hrun:(execOp a.eval o).run P w=.ok (.value v) w':=by simp[execOp,ho,r1]
  unfold Oper.wp
  rw[hrun,Oper.upon_value]
  have hlid:id<st.boxes.length:=by rw[<-h.bl];exact aq hid'
  have g2:=r2.weakBox (i:=id) (cs:=zs) (own:=Ld P T) (vai hlid) (T:=T) (λb c t hb hc=>by
   obtain⟨z,hr,e1,i,hi,hz'⟩:=pg (w:=w) hz
   have hw':w'=w.alloc (.cells z.cells T)/\v=.pointer (some ⟨w.heap.size,0,none⟩):=by
    have:(Instr.alloc T true (.tuple #[])).run P w=.ok (.pointer (some ⟨w.heap.size,0,none⟩)) (w.alloc (.cells z.cells T)):=by simp[Instr.alloc,hr,newVar,newRow]
    rw[this]at r1
    cases r1
    exact⟨rfl,rfl⟩
   obtain⟨rfl,rfl⟩:=hw'
   rw[vai (aq hid')]at hb;cases hb
   rw[fX]at hc;cases hc
   exact⟨rfl,by rw[e1];simp⟩)
  simp only[vbT]at g2
  have g3:=g2.set (d:=d) r3
  have hput:∀v,(a.put o.dst v).tmps=a.tmps.setIfInBounds d v:=λv=>by rw[hd];rfl
  rw[<-hput]at g3
  exact⟨dX _ _ _,Γ,_,_,_,g3,hK,.inr (.inl ⟨by simp[ho,aE],_,rfl⟩)⟩
 ·rename_i t y T T' d ho hd
  obtain⟨es,s,e,p,ht,hy,hT,hm,hpa,hdl,hK⟩:=hp
  obtain⟨u,v,e1,e2,h3,h4⟩:=h.ot t 0 e hm
  have hvt:=Jo h e1
  rw[ht]at hvt
  have hvu:v=u:=by
   exact(Rr e2 (λvs hx=>by subst hx;cases hvt) (λvs hx=>by subst hx;cases hvt)).symm
  subst hvu
  have hvy:VR Γ bs w (opv E.GE st.tmps y) (a.eval y):=h.opv a.defers y
  rw[hy]at hvy
  have hf:=h.freeT t 0
  obtain⟨v',w',Γ',r1,r2,r3,r4,r5,r6⟩:=Ry (ty:=o.type) hf hT hvt hvy h3 (λb hb=>⟨by simp[h4 b hb],(h.on b _ (h4 b hb)).2⟩) hpa
  have hrun:(execOp a.eval o).run P w=.ok (.value v') w':=by
   simp[execOp,ho,resolve,invoke,builtin,td e1,r1]
  unfold Oper.wp
  rw[hrun,Oper.upon_value]
  have hds:d<a.tmps.size:=by rw[h.sz];exact hdl
  have g1:=r2.set (d:=d) r4
  have g2:=g1.addOwn (d:=d) (k:=0) (e:=e) (u:=v') (v:=v') (by simp[hds]) r5.part r5 r6
  have hput:∀v,(a.put o.dst v).tmps=a.tmps.setIfInBounds d v:=λv=>by rw[hd];rfl
  rw[<-hput]at g2
  exact⟨dX _ _ _,Γ',bs,_,_,g2,hK,.inl rfl⟩
 ·exact hp.elim
end
end Go.Proofs.YtibglelmlnfojaaGreatDoor
