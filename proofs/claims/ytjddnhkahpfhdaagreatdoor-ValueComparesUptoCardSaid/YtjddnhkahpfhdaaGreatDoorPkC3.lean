/- PROVED: a part of the proof. Conditions: none. -/
import Derived.Test.YtjddnhkahpfhdaaGreatDoorPkC2
import Derived.Deep.LoopGhost
import Derived.Below
set_option linter.unusedSimpArgs false
set_option linter.unusedVariables false
noncomputable section
namespace Go.Proofs.YtjddnhkahpfhdaaGreatDoor
open Go
def xG(P:Program)(GE:List (Nat×List PVal))(fv:PVal)(args:List PVal)(H:List av)(K:PVal->List (Nat×TypeId)->List av->Prop):Prop:=
 match fv with
 | .func (.func g) first cap =>
  (dU 0 (first++args++cap)/\∃r ro,C P GE g (first++args++cap) [] [] r ro []/\K r ro H)\/
  (∃(ρ:List Nat) (argsC:List PVal) (Hc:List av) (rc:PVal) (ro:List (Nat×TypeId)) (Hc' H':List av) (r:PVal),ρ.Nodup/\C P GE g argsC [] Hc rc ro Hc'/\tP ρ H Hc/\tP ρ H' Hc'/\
   H'.length=H.length/\(∀j:Nat,j∉ρ->H'[j]? =H[j]?)/\rm ρ r rc/\(first++args++cap).length=argsC.length/\
   (∀(i:Nat) p q,(first++args++cap)[i]? =some p->argsC[i]? =some q->rm ρ p q)/\K r ro H')
 |_=>False
def Fx(P:Program)(GE:List (Nat×List PVal))(op:Op)(id:Nat)(v:Operand->PVal)(H:List av)(K:PVal->List (Nat×TypeId)->List av->Prop):Prop:=
 match op with
 |.call {callee:=.value f,args,..}=>xG P GE (v f) (args.toList.map v) H K
 |op=>match iW P op id v H with
  |some (p,H')=>K p [] H'
  |none=>False
def qg(st:az)(dst:Option Tmp)(p:PVal)(ro:List (Nat×TypeId))(H:List av):az:=
 match dst with
 |some d=>{tmps:=st.tmps.set d p,boxes:=H,own:=(ro.map λx=>((d,x.1),x.2))++be d st.own}
 |none=>{st with boxes:=H}
def nq(P:Program)(t:TypeId)(v:Value):Option TypeId:=
 match v,P.underlying t with
 |.slice none 0 0,some (.slice e)=>some e
 |_,_=>none
def jA(o:Oper)(n:Nat):Bool:=
 match o.op with
 |.call {callee:=.value _,..}=>o.dst.any λd=>decide (d<n)
 |_=>true
def BB(P:Program)(GE:List (Nat×List PVal))(A:List Nat)(o:Oper)(id:Nat)(K:az->Prop)(st:az):Prop:=
 let plain:=jA o st.tmps.length=true/\Fx P GE o.op id (opv GE st.tmps) st.boxes λp ro H=>K (qg st o.dst p ro H)
 match o.op,o.dst with
 |.assign (.tmp t),some d=>d<st.tmps.length/\K {st with tmps:=st.tmps.set d (st.tmps.getD t .undef),own:=gy d (λx=>if x.1=t then(d,x.2)else x) st.own}
 |.move (.tmp t),some d=>
  if d∈A then d<st.tmps.length/\K {st with tmps:=st.tmps.set d (st.tmps.getD t .undef),own:=gy d (λx=>if x.1=t then(d,x.2)else x) st.own}else plain
 |.assign (.const v),some d=>match nq P o.type v with
  |some e=>d<st.tmps.length/\K {st with tmps:=st.tmps.set d (.slice []),own:=((d,0),e)::be d st.own}
  |none=>plain
 |.move (.const v),some d=>match nq P o.type v with
  |some e=>d<st.tmps.length/\K {st with tmps:=st.tmps.set d (.slice []),own:=((d,0),e)::be d st.own}
  |none=>plain
 |.extract (.tmp t) i,some d=>match oq (st.tmps.getD t .undef) i with
  |some p=>d<st.tmps.length/\K {st with tmps:=st.tmps.set d p,own:=gy d (λx=>if x=(t,i)then(d,0)else x) st.own}
  |none=>False
 |.buildSlice T len parts,some d=>match dS P T len (parts.toList.map λx=>(x.1,opv GE st.tmps x.2)),P.underlying T with
  |some p,some (.slice e)=>d<st.tmps.length/\K {st with tmps:=st.tmps.set d p,own:=((d,0),e)::be d st.own}
  |_,_=>False
 | .call { callee := .builtin .append,args:=⟨[.tmp t,y]⟩,argTypes:=⟨[T,T']⟩ },some d => match P.underlying T,st.tmps.getD t .undef,opv GE st.tmps y with
  |some (.slice e),.slice es,.slice ns=>match eP P T es ns with
   |some p=>T=T'/\d<st.tmps.length/\((t,0),e)∈st.own/\K {st with tmps:=st.tmps.set d p,own:=((d,0),e)::be d (st.own.filter λx=>x.1 !=(t,0))}
   |none=>False
  |_,_,_=>False
 | .load T x,some d =>
  if d∈A then match opv GE st.tmps x,P.underlying T with
   | .bptr i off,some (.slice e) => match st.boxes[i]? with
    |some (.cells cs own)=>match cs[off]? with
     |some p=>d<st.tmps.length/\(off,e)∈own/\K {tmps:=st.tmps.set d p,boxes:=st.boxes.set i (.cells cs (own.filter λx=>x.1 !=off)),own:=((d,0),e)::be d st.own}
     |none=>False
    |_=>False
   |_,_=>False
  else plain
 | .store T x (.tmp t),_ => match st.own.find? (fun y => y.1 == (t,0)),opv GE st.tmps x,dh P T (opv GE st.tmps x) (st.tmps.getD t .undef) st.boxes with
  |some (_,e),.bptr i off,some H=>match H[i]?,(st.tmps.getD t .undef).one with
   |some (.cells cs own),true=>K (qg {st with own:=st.own.filter λx=>x.1 !=(t,0)} o.dst (.val undef) [] (H.set i (.cells cs ((off,e)::own))))
   |_,_=>plain
  |_,_,_=>plain
 |_,_=>plain
section
variable{P:Program}{E:mo}{Γ:ax}{bs:bp}{ow:Nat->Option jx}{w:World}{a:Act}{st:az}
def ez(P:Program)(E:mo)(bs:bp)(id:Nat)(mk:Bool)(ds:List Deferred)(K:az->Prop)(a:Act)(w:World):Prop:=
 a.defers=ds/\∃Γ bs' ow st,SR P E Γ bs' ow w a.tmps st/\K st/\(bs'=bs\/(mk=true/\∃b,bs'=bs.set id (some b)))
theorem SR.putv_nil(h:SR P E Γ bs ow w a.tmps st){p:PVal}{v:Value}(hv:VR Γ bs w p v)(dst:Option Tmp){H:List av}(hH:H=st.boxes):SR P E Γ bs ow w (a.put dst v).tmps (qg st dst p [] H):=by
 subst hH
 cases dst with
 |none=>exact h
 |some d=>exact h.set hv
theorem aT(a:Act)(dst:Option Tmp)(v:Value):(a.put dst v).defers=a.defers:=by cases dst<;>rfl
theorem la{n:Nat}{l r:List PVal}:dU n (l++r)↔dU n l/\dU n r:=by
 induction l with
 |nil=>simp[dU]
 |cons p l ih=>simp only[vaS,dU,ih];exact⟨λh=>⟨⟨h.1,h.2.1⟩,h.2.2⟩,λh=>⟨h.1.1,h.1.2,h.2⟩⟩
theorem vH{l r:List PVal}{x y:Array Value}(hl:x.size=l.length)(h:∀(i:Nat) p v,l[i]? =some p->x[i]? =some v->VR Γ bs w p v)(h':∀(i:Nat) p v,r[i]? =some p->y[i]? =some v->VR Γ bs w p v)
  (i:Nat) (p:PVal) (v:Value) (hp:(l++r)[i]? =some p) (hv:(x++y)[i]? =some v):VR Γ bs w p v:=by
 by_cases hi:i<l.length
 ·rw[vac hi]at hp
  rw[vaT (by omega)]at hv
  exact h i p v hp hv
 ·rw[vad (by omega)]at hp
  rw[vbO (by omega),hl]at hv
  exact h' _ p v hp hv
theorem H9(h:SR P E Γ bs ow w a.tmps st){o:Oper}{f:Operand}{args:Array Operand}{tys:Array TypeId}(ho:o.op=.call {callee:=.value f,args,argTypes:=tys}){d:Nat}(hdst:o.dst=some d)(hd:d<st.tmps.length)
  {K:PVal->List (Nat×TypeId)->List av->Prop} (hp:xG P E.GE (opv E.GE st.tmps f) (args.toList.map (opv E.GE st.tmps)) st.boxes K) (next:Act->World->Prop) (Q:Exit->Act->World->Prop)
  (hn:∀v Γ' ow' w' p ro H,K p ro H->SR P E Γ' bs ow' w' (a.put o.dst v).tmps (qg st o.dst p ro H)->next (a.put o.dst v) w'):o.wp P a w next Q:=by
 have hρ:∀x,VR Γ bs w (opv E.GE st.tmps x) (a.eval x):=λx=>h.opv a.defers x
 unfold xG at hp
 have hf:=hρ f
 split at hp
 case h_2=>exact hp.elim
 rename_i g first cap hfv
 rw[hfv]at hf
 generalize hvf:a.eval f=vf at hf
 cases hf with
 |func _ _ _ fs cs hl hl' h1 h2=>
 have hargs:(fs++args.map a.eval++cs).size=(first++args.toList.map (opv E.GE st.tmps)++cap).length:=by simp[hl,hl']
 have hvr:∀(i:Nat) p v,(first++args.toList.map (opv E.GE st.tmps)++cap)[i]? =some p->(fs++args.map a.eval++cs)[i]? =some v->VR Γ bs w p v:=by
  refine vH (by simp[hl]) (vH hl h1 λi p v hp hv=>?_) h2
  exact rV hρ args.toList i p v hp (by simpa using hv)
 have hrun:∀hcall:(∀vs w,(callFunc g vs).run P w=.ok (.enter g vs) w),(execOp a.eval o).run P w=.ok (.enter g (fs++args.map a.eval++cs)) w:=by
  intro hcall
  simp[execOp,ho,resolve,hvf,Deferred.ofValue,invoke,hcall]
 have hds:d<a.tmps.size:=by rw[h.sz];exact hd
 unfold Oper.wp
 rcases hp with⟨hcl,r,ro,hC,hK⟩|⟨ρ,argsC,Hc,rc,ro,Hc',H',r,hnd,hC,hH,hH',hlen,hsame,hr,hal,ha,hK⟩
 ·rw[hrun hC.1]
  rw[Oper.upon_enter]
  refine(MG h hds hC hargs hvr hcl).mono λe w' he=>?_
  obtain⟨v,Γ',ow',rfl,hS,_⟩:=he
  refine hn v Γ' ow' w' r ro st.boxes hK ?_
  rw[hdst];exact hS
 ·rw[hrun hC.1]
  rw[Oper.upon_enter]
  refine(Ke h hds hnd hC hH hH' hlen hsame hr hal ha hargs hvr).mono λe w' he=>?_
  obtain⟨v,Γ',ow',rfl,hS,_⟩:=he
  refine hn v Γ' ow' w' r ro H' hK ?_
  rw[hdst];exact hS
theorem JY{o:Oper}{next:Act->World->Prop}{Q:Exit->Act->World->Prop}{r:Next}{v:Value}{w':World}(hr:r=.value v\/(r=.skip/\v=undef))(h:next (a.put o.dst v) w'):o.upon P a next Q (.ok r w'):=by
 rcases hr with rfl|⟨rfl,rfl⟩
 ·exact h
 ·exact h
theorem Ns(h:SR P E Γ bs ow w a.tmps st){o:Oper}{id:Nat}(hid:aw o.op=true->bs[id]? =some none){K:PVal->List (Nat×TypeId)->List av->Prop}(hp:Fx P E.GE o.op id (opv E.GE st.tmps) st.boxes K)
  (next:Act->World->Prop) (Q:Exit->Act->World->Prop)
  (hdst:∀f args tys,o.op=.call {callee:=.value f,args,argTypes:=tys}->∃d,o.dst=some d/\d<st.tmps.length)
  (hn:∀v Γ' bs' ow' w' p ro H,K p ro H->SR P E Γ' bs' ow' w' (a.put o.dst v).tmps (qg st o.dst p ro H)->(bs'=bs\/(aw o.op=true/\∃b,bs'=bs.set id (some b)))->next (a.put o.dst v) w'):o.wp P a w next Q:=by
 unfold Fx at hp
 split at hp
 ·rename_i f args tys ho
  obtain⟨d,hd,hdl⟩:=hdst f args tys ho
  exact H9 h ho hd hdl hp next Q λv Γ' ow' w' p ro H hK hS=>hn v Γ' bs ow' w' p ro H hK hS (.inl rfl)
 ·split at hp
  ·rename_i p H he
   obtain⟨r,v,w',Γ',bs',h1,h2,h3,h4,h5,h6,h7⟩:=GQ h a.defers hid he
   unfold Oper.wp
   rw[show(execOp a.eval o).run P w=.ok r w' from h1]
   refine JY h2 (hn v Γ' bs' ow w' p [] H hp ?_ ?_)
   ·cases hd:o.dst with
    |none=>exact h3
    |some d=>exact h3.set h4
   ·rcases h6 with h6|⟨hm,h6⟩
    ·exact .inl h6
    ·exact .inr ⟨hm,_,h6⟩
  ·exact hp.elim
theorem IN{o:Oper}{n:Nat}(h:jA o n=true)(f:Operand)(args:Array Operand)(tys:Array TypeId)(ho:o.op=.call {callee:=.value f,args,argTypes:=tys}):∃d,o.dst=some d/\d<n:=by
 unfold jA at h
 rw[ho]at h
 cases hd:o.dst with
 |none=>rw[hd]at h;cases h
 |some d=>rw[hd]at h;exact⟨d,rfl,by simpa using h⟩
theorem ez.of{o:Oper}{id:Nat}{K:az->Prop}(h:SR P E Γ bs ow w a.tmps st)(hid:aw o.op=true->bs[id]? =some none)(hc:jA o st.tmps.length=true)
  (hp:Fx P E.GE o.op id (opv E.GE st.tmps) st.boxes λp ro H=>K (qg st o.dst p ro H)) (Q:Exit->Act->World->Prop):
  o.wp P a w (ez P E bs id (aw o.op) a.defers K) Q:=
 Ns h hid hp _ Q (IN hc) λ_ Γ' bs' ow' _ _ _ _ hK hS hb=>⟨aT _ _ _,Γ',bs',ow',_,hS,hK,hb⟩
theorem nv(h:SR P E Γ bs ow w a.tmps st){t:Nat}{v:Value}(ht:a.tmps[t]? =some v):VR Γ bs w (st.tmps.getD t .undef) v:=by
 have hlt:t<st.tmps.length:=by rw[<-h.sz];exact(vaf.1 ht).1
 have:=h.tm t _ v (vaa hlt) ht
 rwa[van,vaa hlt]
theorem aL{t:Nat}{v:Value}(ht:a.tmps[t]? =some v):a.eval (.tmp t)=v:=by
 show a.tmps.getD t undef=v
 rw[vaB,ht];rfl
theorem xD(h:SR P E Γ bs ow w a.tmps st){o:Oper}{id t d:Nat}{K:az->Prop}(ho:o.op=.assign (.tmp t)\/o.op=.move (.tmp t))(hdst:o.dst=some d)(hd:d<st.tmps.length)
  (hK:K {st with tmps:=st.tmps.set d (st.tmps.getD t .undef),own:=gy d (λx=>if x.1=t then(d,x.2)else x) st.own}) (Q:Exit->Act->World->Prop):
  o.wp P a w (ez P E bs id (aw o.op) a.defers K) Q:=by
 unfold Oper.wp
 have hrun:(execOp a.eval o).run P w=.ok (.value (a.eval (.tmp t))) w:=by rcases ho with ho|ho<;>simp[execOp,ho]
 rw[hrun,Oper.upon_value]
 have hv:VR Γ bs w (st.tmps.getD t .undef) (a.eval (.tmp t)):=h.opv a.defers (.tmp t)
 have:=h.setRen (d:=d) (p:=st.tmps.getD t .undef) hv (λx=>if x.1=t then(d,x.2)else x) (by rw[h.sz];exact hd) λt' k' e' _ ht'=>by
  by_cases hx:t'=t
  ·subst hx
   exact .inr ⟨k',by simp,λu v' hu hv' _=>by rw[aL hu];exact hv'⟩
  ·exact .inl (by simp[hx])
 have hput:∀v,(a.put o.dst v).tmps=a.tmps.setIfInBounds d v:=λv=>by rw[hdst];rfl
 rw[<-hput]at this
 exact⟨aT _ _ _,Γ,bs,_,_,this,hK,.inl rfl⟩
theorem AC(h:SR P E Γ bs ow w a.tmps st){o:Oper}{id d:Nat}{e:TypeId}{v:Value}{K:az->Prop}(ho:o.op=.assign (.const v)\/o.op=.move (.const v))(hdst:o.dst=some d)(hd:d<st.tmps.length)
  (hn:nq P o.type v=some e) (hK:K {st with tmps:=st.tmps.set d (.slice []),own:=((d,0),e)::be d st.own}) (Q:Exit->Act->World->Prop):
  o.wp P a w (ez P E bs id (aw o.op) a.defers K) Q:=by
 unfold Oper.wp
 have hrun:(execOp a.eval o).run P w=.ok (.value v) w:=by rcases ho with ho|ho<;>simp[execOp,ho,Act.eval]
 rw[hrun,Oper.upon_value]
 have hv:v=.slice none 0 0:=by
  unfold nq at hn
  split at hn
  ·rfl
  ·cases hn
 subst hv
 have h1:=h.set (d:=d) (p:=.slice []) (v:=.slice none 0 0) .sliceNil
 have hds:d<a.tmps.size:=by rw[h.sz];exact hd
 have h2:=h1.addOwn (d:=d) (k:=0) (e:=e) (u:=.slice none 0 0) (v:=.slice none 0 0) (by simp[hds]) rfl ⟨0,[],World.ownsRow_nil _ _ _ _,λb hb=>by simp[Value.ownBlock]at hb⟩ (λb hb=>by simp[Value.ownBlock]at hb)
 have hput:∀v,(a.put o.dst v).tmps=a.tmps.setIfInBounds d v:=λv=>by rw[hdst];rfl
 rw[<-hput]at h2
 exact⟨aT _ _ _,Γ,bs,_,_,h2,hK,.inl rfl⟩
theorem Fi(h:SR P E Γ bs ow w a.tmps st){o:Oper}{id t i d:Nat}{p:PVal}{K:az->Prop}(ho:o.op=.extract (.tmp t) i)(hdst:o.dst=some d)(hd:d<st.tmps.length)
  (hp:oq (st.tmps.getD t .undef) i=some p)
  (hK:K {st with tmps:=st.tmps.set d p,own:=gy d (λx=>if x=(t,i)then(d,0)else x) st.own}) (Q:Exit->Act->World->Prop):
  o.wp P a w (ez P E bs id (aw o.op) a.defers K) Q:=by
 unfold Oper.wp
 obtain⟨v,hr,hv⟩:=y3 (P:=P) (h.opv a.defers (.tmp t)) hp
 have hrun:(execOp a.eval o).run P w=.ok (.value v) w:=by simp[execOp,ho,hr]
 rw[hrun,Oper.upon_value]
 have htup:∃vs,a.eval (.tmp t)=.tuple vs/\vs[i]? =some v:=by
  have hx:(Instr.extract (a.eval (.tmp t)) i).run P w=.ok v w:=hr
  unfold Instr.extract at hx
  split at hx
  ·rename_i vs he
   split at hx
   ·rename_i u hu
    simp at hx;subst hx
    exact⟨vs,he,hu⟩
   ·simp at hx
  ·simp at hx
 obtain⟨vs,htu,hvi⟩:=htup
 have:=h.setRen (d:=d) (p:=p) hv (λx=>if x=(t,i)then(d,0)else x) (by rw[h.sz];exact hd) λt' k' e' _ ht'=>by
  by_cases hx:(t',k')=(t,i)
  ·cases hx
   refine .inr ⟨0,by simp,λu v' hu hv' ho'=>?_⟩
   rw[aL hu]at htu
   subst htu
   have hvv:v=v':=by
    have:vs[i]? =some v':=hv'
    rw[hvi]at this;cases this;rfl
   subst hvv
   obtain⟨n,xs,⟨_,ho'⟩,_⟩:=ho'
   rcases ho' with⟨rfl,_⟩|⟨g,cap,cur,rfl,_⟩<;>rfl
  ·exact .inl (by simp[hx])
 have hput:∀v,(a.put o.dst v).tmps=a.tmps.setIfInBounds d v:=λv=>by rw[hdst];rfl
 rw[<-hput]at this
 exact⟨aT _ _ _,Γ,bs,_,_,this,hK,.inl rfl⟩
theorem qz(h:SR P E Γ bs ow w a.tmps st){o:Oper}{id len d:Nat}{T e:TypeId}{parts:Array (Nat×Operand)}{p:PVal}{K:az->Prop}(ho:o.op=.buildSlice T len parts)(hdst:o.dst=some d)(hd:d<st.tmps.length)
  (hT:P.underlying T=some (.slice e)) (hp:dS P T len (parts.toList.map λx=>(x.1,opv E.GE st.tmps x.2))=some p)
  (hK:K {st with tmps:=st.tmps.set d p,own:=((d,0),e)::be d st.own}) (Q:Exit->Act->World->Prop):
  o.wp P a w (ez P E bs id (aw o.op) a.defers K) Q:=by
 have hρ:∀x,VR Γ bs w (opv E.GE st.tmps x) (a.eval x):=λx=>h.opv a.defers x
 obtain⟨k1,k2⟩:=qJ hρ parts.toList
 obtain⟨v,w',Γ',h1,h2,h3,h4,h5,h6⟩:=sN h k1 k2 hp
 have hrun:(execOp a.eval o).run P w=.ok (.value v) w':=by
  have:(parts.map λx=>(x.1,a.eval x.2))=(parts.toList.map λx=>(x.1,a.eval x.2)).toArray:=by apply vbB;simp
  simp only[execOp,ho]
  rw[this]
  simp[h1]
 unfold Oper.wp
 rw[hrun,Oper.upon_value]
 have hds:d<a.tmps.size:=by rw[h.sz];exact hd
 have g1:=h2.set (d:=d) h4
 have g2:=g1.addOwn (d:=d) (k:=0) (e:=e) (u:=v) (v:=v) (by simp[hds]) (by
   obtain⟨n,xs,⟨_,ho'⟩,_⟩:=h5 e hT
   rcases ho' with⟨rfl,_⟩|⟨g,cap,cur,rfl,_⟩<;>rfl) (h5 e hT) (λb hb=>by
   have:=h6 b hb;subst this
   refine⟨?_,.inr h.step.size⟩
   cases hL:ow w.heap.size with
   |none=>rfl
   |some L=>exact absurd (h.on _ L hL).1 (vbx _))
 have hput:∀v,(a.put o.dst v).tmps=a.tmps.setIfInBounds d v:=λv=>by rw[hdst];rfl
 rw[<-hput]at g2
 exact⟨aT _ _ _,Γ',bs,_,_,g2,hK,.inl rfl⟩
theorem cR.part{v:Value}{e:TypeId}(h:cR P Γ w v e):eW v 0=some v:=by
 obtain⟨n,xs,⟨_,ho⟩,_⟩:=h
 rcases ho with⟨rfl,_⟩|⟨g,cap,cur,rfl,_⟩<;>rfl
theorem CH{u v:Value}(hu:eW u 0=some v)(hs:∀vs,u≠.tuple vs)(ha:∀vs,u≠.agg vs):u=v:=by
 cases u<;>simp[eW]at hu<;>first|exact hu|(exact absurd rfl (hs _))|(exact absurd rfl (ha _))
theorem yy(h:SR P E Γ bs ow w a.tmps st){o:Oper}{id t d:Nat}{T e:TypeId}{y:Operand}{es ns:List (List PVal)}{p:PVal}{K:az->Prop}(ho:o.op=.call {callee:=.builtin .append,args:=⟨[.tmp t,y]⟩,argTypes:=⟨[T,T]⟩})
  (hdst:o.dst=some d) (hd:d<st.tmps.length) (hT:P.underlying T=some (.slice e)) (het:st.tmps.getD t .undef=.slice es) (hen:opv E.GE st.tmps y=.slice ns) (hp:eP P T es ns=some p) (hmem:((t,0),e)∈st.own)
  (hK:K {st with tmps:=st.tmps.set d p,own:=((d,0),e)::be d (st.own.filter λx=>x.1 !=(t,0))}) (Q:Exit->Act->World->Prop):
  o.wp P a w (ez P E bs id (aw o.op) a.defers K) Q:=by
 obtain⟨u,v,h1,h2,h3,h4⟩:=h.ot t 0 e hmem
 have hvt:=nv h h1
 rw[het]at hvt
 have huv:u=v:=CH h2 (λvs hx=>by subst hx;cases hvt) (λvs hx=>by subst hx;cases hvt)
 subst huv
 have hf:=h.freeT t 0
 have hy:VR Γ bs w (opv E.GE st.tmps y) (a.eval y):=h.opv a.defers y
 rw[hen]at hy
 obtain⟨v',w',Γ',r1,r2,r3,r4,r5,r6⟩:=Bw (ty:=o.type) hf hT hvt hy h3 (λb hb=>⟨by simp[h4 b hb],(h.on b _ (h4 b hb)).2⟩) hp
 have hrun:(execOp a.eval o).run P w=.ok (.value v') w':=by
  simp[execOp,ho,resolve,invoke,builtin,aL h1,r1]
 unfold Oper.wp
 rw[hrun,Oper.upon_value]
 have hds:d<a.tmps.size:=by rw[h.sz];exact hd
 have g1:=r2.set (d:=d) r4
 have g2:=g1.addOwn (d:=d) (k:=0) (e:=e) (u:=v') (v:=v') (by simp[hds]) r5.part r5 r6
 have hput:∀v,(a.put o.dst v).tmps=a.tmps.setIfInBounds d v:=λv=>by rw[hdst];rfl
 rw[<-hput]at g2
 exact⟨aT _ _ _,Γ',bs,_,_,g2,hK,.inl rfl⟩
theorem wM(h:SR P E Γ bs ow w a.tmps st){o:Oper}{id i off d:Nat}{T e:TypeId}{x:Operand}{p:PVal}{cs:List PVal}{own:List (Nat×TypeId)}{K:az->Prop}(ho:o.op=.load T x)
  (hdst:o.dst=some d) (hd:d<st.tmps.length) (hT:P.underlying T=some (.slice e)) (hx:opv E.GE st.tmps x=.bptr i off) (hB:st.boxes[i]? =some (.cells cs own)) (hp:cs[off]? =some p) (hmem:(off,e)∈own)
  (hK:K {tmps:=st.tmps.set d p,boxes:=st.boxes.set i (.cells cs (own.filter λx=>x.1 !=off)),own:=((d,0),e)::be d st.own}) (Q:Exit->Act->World->Prop):
  o.wp P a w (ez P E bs id (aw o.op) a.defers K) Q:=by
 have hvx:VR Γ bs w (opv E.GE st.tmps x) (a.eval x):=h.opv a.defers x
 obtain⟨v,hr,hv⟩:=AK h hvx (t:=T) (p:=p) (by rw[hx];simp only[kI,hB,aC,hT];rw[List.head?_drop];exact hp)
 have hrun:(execOp a.eval o).run P w=.ok (.value v) w:=by simp[execOp,ho,hr]
 unfold Oper.wp
 rw[hrun,Oper.upon_value]
 rw[hx]at hvx
 generalize hve:a.eval x=vx at hvx hr
 cases hvx with
 |bptr _ _ b hb=>
 obtain⟨v',q1,q2,q3⟩:=h.ob i off e cs own b hB hmem hb
 have hvv:v=v':=by
  have:(loadVar T ⟨b,off,none⟩).run P w=.ok v w:=by simpa[Instr.loadAt,Instr.sureAddr]using hr
  simp[loadVar,isAgg,run_underlying hT,q1]at this
  exact this.symm
 subst hvv
 have hds:d<a.tmps.size:=by rw[h.sz];exact hd
 have g0:=h.freeB (j:=off) hB
 have g1:=g0.set (d:=d) hv
 have g2:=g1.addOwn (d:=d) (k:=0) (e:=e) (u:=v) (v:=v) (by simp[hds]) q2.part q2 (λb' hb'=>⟨by simp[q3 b' hb'],(h.on b' _ (q3 b' hb')).2⟩)
 have hput:∀v,(a.put o.dst v).tmps=a.tmps.setIfInBounds d v:=λv=>by rw[hdst];rfl
 rw[<-hput]at g2
 exact⟨aT _ _ _,Γ,bs,_,_,g2,hK,.inl rfl⟩
theorem vg(h:SR P E Γ bs ow w a.tmps st){o:Oper}{id i off t:Nat}{T e:TypeId}{x:Operand}{cs:List PVal}{own:List (Nat×TypeId)}{H:List av}{K:az->Prop}(ho:o.op=.store T x (.tmp t))
  (hx:opv E.GE st.tmps x=.bptr i off) (hp:dh P T (opv E.GE st.tmps x) (st.tmps.getD t .undef) st.boxes=some H) (hB:H[i]? =some (.cells cs own)) (hone:(st.tmps.getD t .undef).one=true) (hmem:((t,0),e)∈st.own)
  (hK:K (qg {st with own:=st.own.filter λx=>x.1 !=(t,0)} o.dst (.val undef) [] (H.set i (.cells cs ((off,e)::own))))) (Q:Exit->Act->World->Prop):
  o.wp P a w (ez P E bs id (aw o.op) a.defers K) Q:=by
 obtain⟨u,v,h1,h2,h3,h4⟩:=h.ot t 0 e hmem
 have hvt:=nv h h1
 have hu1:=VR.one hvt hone
 have huv:u=v:=CH h2 (λvs hx=>by subst hx;cases hu1) (λvs hx=>by subst hx;cases hu1)
 subst huv
 have hvx:VR Γ bs w (opv E.GE st.tmps x) (a.eval x):=h.opv a.defers x
 have hf:=h.freeT t 0
 obtain⟨w',r1,r2,r3⟩:=Ei hf hvx hvt hp
 have hrun:(execOp a.eval o).run P w=.ok .skip w':=by simp[execOp,ho,aL h1,r1]
 unfold Oper.wp
 rw[hrun,Oper.upon_skip]
 rw[hx]at hvx
 generalize hve:a.eval x=vx at hvx r1
 cases hvx with
 |bptr _ _ b hb=>
 have hilt:i<st.boxes.length:=by rw[<-h.bl];exact ag hb
 have hgb:Γ b=none:=(h.bx i b _ hb (vaa hilt)).1
 have hw:∃x0,w.cell? ⟨b,off,none⟩=some x0/\w'=w.setCell ⟨b,off,none⟩ u:=by
  have hr:(storeVar T ⟨b,off,none⟩ u).run P w=.ok () w':=by
   simpa[Instr.storeAt,Instr.sureAddr]using r1
  rw[hx]at hp
  unfold dh at hp
  have hpc:bv (st.tmps.getD t .undef)=some [st.tmps.getD t .undef]:=by
   unfold bv
   split
   ·rename_i c hc;rw[hc]at hone;cases hone
   ·rw[vaA hone]
  simp only[hpc]at hp
  split at hp
  ·rename_i cs0 own0 hB0
   split at hp
   ·rename_i hc
    obtain⟨c1,cinf,c2,_⟩:=hc
    obtain⟨inf,cinf⟩:=vaC.1 cinf
    obtain⟨c,t',e1,e2,e3,e4⟩:=h.box_cells hb hB0
    have hlt:off<c.size:=by simp at c2;omega
    have hcell:w.cell? ⟨b,off,none⟩=some c[off]:=by rw[e4];simp[hlt]
    refine⟨_,hcell,?_⟩
    have hfr:w.frozen? ⟨b,off,none⟩=false:=frozen_of_row w b off c t' e1
    unfold storeVar at hr
    rw[uo hu1]at hr
    have c1':P.cellsOf T=1:=by simpa using c1.symm
    simp[run_sizeOf w cinf,c1',storeCells,Addr.add_lit,run_store _ _ _ _ _ hu1,hcell,hfr]at hr
    exact hr.symm
   ·cases hp
  ·cases hp
 obtain⟨x0,hx0,rfl⟩:=hw
 have hcell':(w.setCell ⟨b,off,none⟩ u).cell? ⟨b,off,none⟩=some u:=World.cell?_setCell_same w _ _ hx0
 have hown':cR P Γ (w.setCell ⟨b,off,none⟩ u) u e:=h3.same λb' hb'=>by
  refine⟨heap_setCell_other w _ _ _ (λhe=>?_),rfl⟩
  obtain⟨n,xs,_,o2⟩:=h3
  have:=o2 b' hb'
  rw[he]at this
  have hbb:(⟨b,off,none⟩:Addr).block=b:=rfl
  rw[hbb,hgb]at this;cases this
 have g1:=r2.addOwnB (i:=i) (b:=b) (j:=off) (e:=e) (v:=u) hb hB hcell' hown' (λb' hb'=>⟨by simp[h4 b' hb'],(h.on b' _ (h4 b' hb')).2⟩)
 exact⟨aT _ _ _,Γ,bs,_,_,g1.putv_nil (.val undef) o.dst rfl,hK,.inl rfl⟩
end
def ou(ops:Array Oper)(tmps:List PVal)(j:Nat):Option (Option Bool):=
 match(ops[j]?).bind (·.dst)with
 |none=>some none
 |some t=>match tmps[t]? with
  |none=>some none
  |some (.bool b)=>some (some b)
  |some .undef=>none
  |some (.val (.bool b))=>some (some b)
  |some _=>some none
def jD(P:Program)(o:Oper):Option av:=
 match o.op with
 |.alloc t=>some (match eX P t with
  |some zs=>.cells zs (BC P t)
  |none=>.dead)
 |.box .. =>some .dead
 |.makeMap .. =>some (.map [])
 |_=>none
def dV(P:Program)(ops:List Oper):List av:=ops.filterMap (jD P)
section
variable{P:Program}{E:mo}{Γ:ax}{bs:bp}{ow:Nat->Option jx}{w:World}{a:Act}{st:az}
theorem JI(h:SR P E Γ bs ow w a.tmps st){A:List Nat}{o:Oper}{id:Nat}(hid:aw o.op=true->bs[id]? =some none){K:az->Prop}(hp:BB P E.GE A o id K st)(Q:Exit->Act->World->Prop):o.wp P a w (ez P E bs id (aw o.op) a.defers K) Q:=by
 unfold BB at hp
 split at hp
 case h_1 t d ho hd=>exact xD h (.inl ho) hd hp.1 hp.2 Q
 case h_2 t d ho hd=>
  split at hp
  ·exact xD h (.inr ho) hd hp.1 hp.2 Q
  ·exact ez.of h hid hp.1 hp.2 Q
 case h_3 v d ho hd=>
  split at hp
  ·rename_i e he;exact AC h (.inl ho) hd hp.1 he hp.2 Q
  ·exact ez.of h hid hp.1 hp.2 Q
 case h_4 v d ho hd=>
  split at hp
  ·rename_i e he;exact AC h (.inr ho) hd hp.1 he hp.2 Q
  ·exact ez.of h hid hp.1 hp.2 Q
 case h_5 t i d ho hd=>
  split at hp
  ·rename_i p he;exact Fi h ho hd hp.1 he hp.2 Q
  ·exact hp.elim
 case h_6 T len parts d ho hd=>
  split at hp
  ·rename_i p e he hT;exact qz h ho hd hp.1 hT he hp.2 Q
  ·exact hp.elim
 case h_7 t y T T' d ho hd=>
  split at hp
  ·rename_i e es ns hT he hn
   split at hp
   ·rename_i p hap
    obtain⟨rfl,h1,h2,h3⟩:=hp
    exact yy h ho hd h1 hT he hn hap h2 h3 Q
   ·exact hp.elim
  ·exact hp.elim
 case h_8 T x d ho hd=>
  split at hp
  ·split at hp
   ·rename_i i off e hx hT
    split at hp
    ·rename_i cs own hB
     split at hp
     ·rename_i p hc
      exact wM h ho hd hp.1 hT hx hB hc hp.2.1 hp.2.2 Q
     ·exact hp.elim
    ·exact hp.elim
   ·exact hp.elim
  ·exact ez.of h hid hp.1 hp.2 Q
 case h_9 T x t ho=>
  split at hp
  ·rename_i y e i off H hf hx hst
   split at hp
   ·rename_i cs own hB hone
    have hmem:((t,0),e)∈st.own:=by
     have h1:=vbt hf
     have h2:=vbX hf
     simp only[vaY]at h2
     subst h2;exact h1
    exact vg h ho hx hst hB hone hmem hp Q
   ·exact ez.of h hid hp.1 hp.2 Q
  ·exact ez.of h hid hp.1 hp.2 Q
 case h_10=>exact ez.of h hid hp.1 hp.2 Q
theorem By(h:SR P E Γ bs ow w a.tmps st){ops:Array Oper}{j:Nat}{x:Option Bool}(hg:ou ops st.tmps j=some x):yielded ops a.tmps j=x:=by
 unfold ou at hg
 unfold yielded
 cases hd:(ops[j]?).bind (·.dst)with
 |none=>rw[hd]at hg;cases hg;rfl
 | some t =>
  rw[hd]at hg
  simp only[vab]
  simp only at hg
  cases hp:st.tmps[t]? with
  | none =>
   rw[hp]at hg;cases hg
   have:a.tmps[t]? =none:=by
    rw[List.getElem?_eq_none_iff]at hp
    rw[vb9,h.sz];exact hp
   rw[this]
  | some p =>
   have hlt:t<a.tmps.size:=by rw[h.sz];exact ag hp
   have hat:a.tmps[t]? =some a.tmps[t]:=by simp[hlt]
   have hv:=h.tm t p _ hp hat
   rw[hp]at hg
   rw[hat]
   generalize a.tmps[t]=v at hv
   cases p<;>(try simp only at hg)
   case undef=>cases hg
   case bool b=>cases hg;cases hv;rfl
   case val u=>
    cases hv
    cases v<;>(try simp only at hg)<;>cases hg<;>rfl
   all_goals (cases hg;cases hv<;>rfl)
theorem SR.extend(h:SR P E Γ bs ow w a.tmps st)(X:List av):SR P E Γ (bs++List.replicate X.length none) ow w a.tmps {st with boxes:=st.boxes++X}:=by
 have hget:∀{i b:Nat},(bs++List.replicate X.length none)[i]? =some (some b)->bs[i]? =some (some b):=by
  intro i b hi
  by_cases hlt:i<bs.length
  ·rwa[vac hlt]at hi
  ·rw[vad (by omega),vaX]at hi
   split at hi<;>cases hi
 have hsub:bs.Sub (bs++List.replicate X.length none):=λi b hi=>by rw[vac (ag hi)];exact hi
 have hbox:∀{i b:Nat} {B:av},bs[i]? =some (some b)->(st.boxes++X)[i]? =some B->st.boxes[i]? =some B:=by
  intro i b B hi hB
  rwa[vac (by rw[<-h.bl];exact ag hi)]at hB
 exact{h with
  tm:=λt p v hp hv=>(h.tm t p v hp hv).mono (.refl _ _) hsub
  bl:=by simp[h.bl]
  bx:=λi b B hi hB=>by
   obtain⟨h1,h2,h3⟩:=h.bx i b B (hget hi) (hbox (hget hi) hB)
   exact⟨h1,h2,h3.mono (.refl _ _) hsub rfl⟩
  inj:=λi j b hi hj=>h.inj i j b (hget hi) (hget hj)
  bn:=λi b hi=>h.bn i b (hget hi)
  ob:=λi j e cs own b hB hj hi=>h.ob i j e cs own b (hbox (hget hi) hB) hj (hget hi)
  gl:=λg cs hg=>(h.gl g cs hg).mono (.refl _ _) hsub}
def N7(bs0 bs:bp):Prop:=∀i:Nat,i<bs0.length->bs[i]? =bs0[i]?
def Iv(P:Program)(E:mo)(bs0:bp)(st:az)(a:Act)(w:World):Prop:=∃Γ bs ow,SR P E Γ bs ow w a.tmps st/\N7 bs0 bs
def bF(ops:List Oper):Nat:=(ops.filter λo=>aw o.op).length
theorem sO(P:Program)(ops:List Oper):(dV P ops).length=bF ops:=by
 unfold dV bF
 induction ops with
 |nil=>rfl
 |cons o ops ih=>
  simp only[List.filterMap_cons,vbJ]
  cases ho:o.op<;>simp[jD,aw,ho,ih]
end
def bE(P:Program):Op->Nat
 |.load .. |.lookup .. =>2
 |.store .. |.mapUpdate .. =>3
 | .call c => match c.callee with
  |.value (.func _)=>0
  |.value _=>3
  | .builtin .len => match c.argTypes.toList with
   |[t]=>(match P.underlying t with
    |some (.map ..)=>2
    |_=>0)
   |_=>0
  |_=>0
 |_=>0
def ft(acc:List Nat)(o:Oper):Nat:=o.after.toList.foldl (λs e=>if Region.binds .any e then s|||2 ^ e.on|||acc.getD e.on 0 else s) 0
def xj(ops:List Oper):List Nat:=ops.foldl (λacc o=>acc++[ft acc o]) []
def looks(ops:Array Oper)(o:Oper):List Tmp:=
 (o.op.operands.toList.filterMap λ|.tmp t=>some t|_=>none)++(match o.guard with
  |some (j,_)=>((ops[j]?).bind (·.dst)).toList
  |none=>[])
section
variable{P:Program}{GE:List (Nat×List PVal)}
theorem yx{acc:List Nat}{o:Oper}{i:Nat}(h:(ft acc o).testBit i=true):∃e∈o.after.toList,Region.binds .any e=true/\(e.on=i\/(acc.getD e.on 0).testBit i=true):=by
 unfold ft at h
 have key:∀(l:List Edge) (s:Nat),(l.foldl (λs e=>if Region.binds .any e then s|||2 ^ e.on|||acc.getD e.on 0 else s) s).testBit i=true->
   s.testBit i=true\/∃e∈l,Region.binds .any e=true/\(e.on=i\/(acc.getD e.on 0).testBit i=true):=by
  intro l
  induction l with
  |nil=>intro s hs;exact .inl hs
  | cons e l ih =>
   intro s hs
   simp only[List.foldl_cons]at hs
   rcases ih _ hs with hs'|⟨e',h1,h2⟩
   ·split at hs'
    ·rename_i hb
     simp only[Nat.testBit_or,va1]at hs'
     rcases hs' with(hs'|hs')|hs'
     ·exact .inl hs'
     ·refine .inr ⟨e,by simp,hb,.inl ?_⟩
      rw[Nat.testBit_two_pow]at hs'
      simpa using hs'
     ·exact .inr ⟨e,by simp,hb,.inr hs'⟩
    ·exact .inl hs'
   ·exact .inr ⟨e',by simp[h1],h2⟩
 rcases key _ 0 h with h0|h0
 ·simp at h0
 ·exact h0
theorem Gc(ops:List Oper):(xj ops).length=ops.length/\∀(j i:Nat),((xj ops).getD j 0).testBit i=true->∃o,ops[j]? =some o/\∃e∈o.after.toList,Region.binds .any e=true/\(e.on=i\/(e.on<j/\((xj ops).getD e.on 0).testBit i=true)):=by
 unfold xj
 have key:∀(rest pre:List Oper) (acc:List Nat),acc.length=pre.length->
   (∀(j i:Nat),(acc.getD j 0).testBit i=true->∃o,(pre++rest)[j]? =some o/\∃e∈o.after.toList,Region.binds .any e=true/\(e.on=i\/(e.on<j/\(acc.getD e.on 0).testBit i=true)))->
   (rest.foldl (λacc o=>acc++[ft acc o]) acc).length=(pre++rest).length/\∀(j i:Nat),((rest.foldl (λacc o=>acc++[ft acc o]) acc).getD j 0).testBit i=true->
    ∃o,(pre++rest)[j]? =some o/\∃e∈o.after.toList,Region.binds .any e=true/\(e.on=i\/(e.on<j/\((rest.foldl (λacc o=>acc++[ft acc o]) acc).getD e.on 0).testBit i=true)):=by
  intro rest
  induction rest with
  |nil=>intro pre acc hl h;exact⟨by simpa using hl,by simpa using h⟩
  | cons o rest ih =>
   intro pre acc hl h
   simp only[List.foldl_cons]
   have hsplit:pre++o::rest=(pre++[o])++rest:=by simp
   rw[hsplit]
   refine ih (pre++[o]) (acc++[ft acc o]) (by simp[hl]) (λj i hb=>?_)
   have hlow:∀m,m<acc.length->(acc++[ft acc o]).getD m 0=acc.getD m 0:=λm hm=>by
    rw[van,van,vac hm]
   by_cases hj:j<acc.length
   ·rw[hlow j hj]at hb
    obtain⟨o',h1,e,h2,h3,h4⟩:=h j i hb
    refine⟨o',by rw[<-hsplit];exact h1,e,h2,h3,h4.imp id λhx=>⟨hx.1,?_⟩⟩
    rw[hlow _ (by omega)];exact hx.2
   ·by_cases hj2:j=acc.length
    ·subst hj2
     have:(acc++[ft acc o]).getD acc.length 0=ft acc o:=by
      rw[van,vad (vaj _)];simp
     rw[this]at hb
     obtain⟨e,h1,h2,h3⟩:=yx hb
     refine⟨o,by rw[hl];simp,e,h1,h2,?_⟩
     rcases h3 with h3|h3
     ·exact .inl h3
     ·have hlt:e.on<acc.length:=by
       by_cases hlt:e.on<acc.length
       ·exact hlt
       ·rw[van,vaU (by omega)]at h3;simp at h3
      exact .inr ⟨hlt,by rw[hlow _ hlt];exact h3⟩
    ·rw[van,vaU (by simp;omega)]at hb;simp at hb
 have:=key ops [] [] rfl (λj i hb=>by simp at hb)
 simpa using this
end
section
variable{P:Program}{GE:List (Nat×List PVal)}
theorem Nt{op:Op}{id:Nat}{v:Operand->PVal}{H H':List av}{p:PVal}(hc:bE P op≠3)(hm:aw op=false)(h:iW P op id v H=some (p,H')):H'=H:=by
 unfold iW at h
 split at h
 all_goals first
  |(cases h;done)
  |(cases h;rfl)
  |(obtain⟨q,_,he⟩:=da h;cases he;rfl)
  |(exact absurd rfl hc)
  |(simp[aw]at hm;done)
  |(split at h<;>first|(cases h;rfl)|cases h)
theorem Ri{op:Op}{id:Nat}{v:Operand->PVal}{H:List av}{p:PVal}(hc:bE P op<2)(hm:aw op=false)(h:iW P op id v H=some (p,H))(H2:List av):iW P op id v H2=some (p,H2):=by
 unfold iW at h ⊢
 split at h
 case h_24 x t=>
  obtain⟨q,hq,he⟩:=da h
  cases he
  simp only[bE]at hc
  have:wm P t (v x) H2=wm P t (v x) H:=by
   unfold wm
   split<;>first|rfl|skip
   rename_i hu _
   simp[hu]at hc
  rw[this,hq];rfl
 all_goals first
  |(cases h;done)
  |(cases h;rfl)
  |(obtain⟨q,hq,he⟩:=da h;cases he;simp only[hq,vak];done)
  |(simp[bE]at hc;done)
  |(simp[aw]at hm;done)
  |(split at h<;>first|(cases h;done)|(cases h;rfl)|(rename_i hv;cases h;simp only[hv];done))
theorem yU{l:List Operand}{v v':Operand->PVal}(h:∀x∈l,v x=v' x):l.map v=l.map v':=va9 h
theorem PE{op:Op}{id:Nat}{v v':Operand->PVal}{H:List av}(h:∀x∈op.operands.toList,v x=v' x):iW P op id v H=iW P op id v' H:=by
 unfold iW
 split
 all_goals (simp only[Op.operands,Call.operands]at h)
 all_goals first
  |(simp at h;simp[h];done)
  |skip
 case h_7 t parts=>
  rw[va9 (f:=λx:Nat×Operand=>(x.1,v x.2)) (g:=λx=>(x.1,v' x.2)) λx hx=>by rw[h x.2 (vah.2 ⟨x,hx,rfl⟩)]]
 case h_8 t len parts=>
  rw[va9 (f:=λx:Nat×Operand=>(x.1,v x.2)) (g:=λx=>(x.1,v' x.2)) λx hx=>by rw[h x.2 (vah.2 ⟨x,hx,rfl⟩)]]
 case h_15 fn first cap=>
  rw[yU λx hx=>h x (by simp at hx ⊢;exact .inl hx),yU λx hx=>h x (by simp at hx ⊢;exact .inr hx)]
 case h_16 t x lo hi=>
  have h1:v x=v' x:=h x (by simp)
  have h2:lo.map v=lo.map v':=by
   cases lo with
   |none=>rfl
   |some y=>simp only[vak];rw[h y (by simp)]
  have h3:hi.map v=hi.map v':=by
   cases hi with
   |none=>rfl
   |some y=>simp only[vak];rw[h y (by simp)]
  rw[h1,h2,h3]
 case h_25 x r tys=>
  rw[h x (by simp),yU λy hy=>h y (by simp[hy])]
 case h_26 x r tys=>
  rw[h x (by simp),yU λy hy=>h y (by simp[hy])]
end
section
variable{P:Program}{E:mo}{Γ:ax}{bs:bp}{ow:Nat->Option jx}{w:World}{a:Act}{st:az}
theorem zd{α:Type}:∀{l:List α} {i:Nat} {x:α},l[i]? =some x->l.set i x=l
 |[],_,_,h=>by simp at h
 |_::_,0,_,h=>by simp at h;subst h;rfl
 |y::l,i+1,x,h=>by simp only[List.set_cons_succ];rw[zd (by simpa using h)]
end
def bf(ops:Array Oper)(i j:Nat):Prop:=((xj ops.toList).getD j 0).testBit i=true
theorem rS{α:Type}{l:List α}{i:Nat}{x d:α}(h:l[i]? =some x):l.getD i d=x:=by rw[van,h];rfl
def bj(listed:Array Bool)(i:Nat):Prop:=listed.getD i false=true
def R2(ops:Array Oper)(listed:Array Bool):Prop:=∀(j:Nat) o,ops[j]? =some o->bj listed j->∀e∈o.after.toList,Region.binds .any e=true->bj listed e.on
theorem Ae{ops:Array Oper}{listed:Array Bool}(hd:R2 ops listed):∀(j:Nat) o,ops[j]? =some o->(∀e∈o.after.toList,Region.binds .any e=true->bj listed e.on)->∀i,bf ops i j->bj listed i:=by
 intro j
 induction j using Nat.strongRecOn with
 | _ j ih =>
  intro o ho ha i hb
  obtain⟨o',ho',e,he,hbi,hc⟩:=(Gc ops.toList).2 j i hb
  have:o'=o:=by
   have h':ops[j]? =some o':=by simpa using ho'
   rw[ho]at h';cases h';rfl
  subst this
  have hle:=ha e he hbi
  rcases hc with hc|⟨hc,hb'⟩
  ·subst hc;exact hle
  ·obtain⟨o2,ho2,_⟩:=(Gc ops.toList).2 e.on i hb'
   have h2:ops[e.on]? =some o2:=by simpa using ho2
   exact ih e.on hc o2 h2 (hd e.on o2 h2 hle) i hb'
theorem cM{listed:Array Bool}{i j:Nat}(hi:i<listed.size):bj (listed.setIfInBounds i true) j↔j=i\/bj listed j:=by
 unfold bj
 by_cases h:i=j
 ·subst h
  constructor
  ·intro _;exact .inl rfl
  ·intro _;simp[hi]
 ·rw[getD_set_ne false h]
  constructor
  ·exact .inr
  ·rintro(rfl|h')
   ·exact absurd rfl h
   ·exact h'
section
variable{P:Program}{E:mo}{ops:Array Oper}{n base:Nat}{T:Nat->az}{bs0:bp}{ds:List Deferred}
def uH(ops:Array Oper)(base i:Nat):Nat:=base+bF (ops.toList.take i)
theorem mq(l r:List Oper):bF (l++r)=bF l+bF r:=by simp[bF]
theorem LX{i j:Nat}{o:Oper}(ho:ops[i]? =some o)(hm:aw o.op=true)(hij:i<j):uH ops base i<uH ops base j:=by
 unfold uH
 have hl:ops.toList[i]? =some o:=by simpa using ho
 have h1:ops.toList.take (i+1)=ops.toList.take i++[o]:=by
  rw[vcj,hl];rfl
 have h2:ops.toList.take j=ops.toList.take (i+1)++(ops.toList.take j).drop (i+1):=by
  have:=(List.take_append_drop (i+1) (ops.toList.take j)).symm
  rwa[vcG,vcy (by omega)]at this
 rw[h2,mq,h1,mq]
 have:bF [o]=1:=by unfold bF;simp[hm]
 omega
def ig(n:Nat)(listed:Array Bool):Nat:=((List.range n).filter λi=>!listed.getD i false).length
theorem Bp{l:List Nat}{p q:Nat->Bool}(hpq:∀i,q i=true->p i=true){j:Nat}(hj:j∈l)(hp:p j=true)(hq:q j=false):(l.filter q).length<(l.filter p).length:=by
 induction l with
 |nil=>cases hj
 | cons x l ih =>
  have hle:∀l:List Nat,(l.filter q).length<=(l.filter p).length:=by
   intro l
   induction l with
   |nil=>simp
   | cons y l ih2 =>
    simp only[vbJ]
    by_cases h1:q y=true
    ·simp[h1,hpq y h1];exact ih2
    ·by_cases h2:p y=true
     ·simp[h1,h2];omega
     ·simp[h1,h2];exact ih2
  simp only[vbJ]
  rcases vat.1 hj with rfl|hj
  ·simp[hp,hq];have:=hle l;omega
  ·have:=ih hj
   by_cases h1:q x=true
   ·simp[h1,hpq x h1];exact this
   ·by_cases h2:p x=true
    ·simp[h1,h2];omega
    ·simp[h1,h2];exact this
end
section
variable{P:Program}{E:mo}{w:World}{a:Act}{st:az}
theorem mh(m j:Nat):(Array.replicate m false).getD j false=false:=by
 rw[vaB,vck]
 split<;>rfl
theorem y6:∀(l:List Oper) (i:Nat) (o:Oper),l[i]? =some o->aw o.op=true->(dV P l)[bF (l.take i)]? =jD P o
 |[],_,_,h,_=>by simp at h
 |x::l,0,o,h,hm=>by
  simp at h;subst h
  have:∃B,jD P x=some B:=by cases hx:x.op<;>simp[aw,hx]at hm<;>exact⟨_,by simp[jD,hx];rfl⟩
  obtain⟨B,hB⟩:=this
  simp[dV,bF,hB]
 | x :: l,i + 1,o,h,hm => by
  have ih:=y6 l i o (by simpa using h) hm
  have hc:bF ((x::l).take (i+1))=bF [x]+bF (l.take i):=by
   rw[List.take_succ_cons,<-mq];rfl
  rw[hc]
  unfold dV
  rw[List.filterMap_cons]
  cases hx:jD P x with
  |none=>
   have:bF [x]=0:=by cases hx':x.op<;>simp[jD,hx']at hx<;>simp[bF,aw,hx']
   rw[this,vaG];exact ih
  |some B=>
   have:bF [x]=1:=by cases hx':x.op<;>simp[jD,hx']at hx<;>simp[bF,aw,hx']
   rw[this,vcc]
   simpa[dV]using ih
end
def oG(n:Nat):List PVal->List PVal->Prop
 |[],[]=>True
 |p::ps,q::qs=>(q=.undef\/(p=q/\q.cl n))/\oG n ps qs
 |_,_=>False
def lI(n:Nat):av->av->Prop
 |_,.dead=>True
 |.cells cs own,.cells cs' own'=>cs=cs'/\dU n cs/\∀x∈own',x∈own
 |.map es,.map es'=>es=es'/\(∀x∈es,x.1.cl n/\x.2.cl n)
 |_,_=>False
def fa(n:Nat):List av->List av->Prop
 |_,[]=>True
 |B::l,B'::l'=>lI n B B'/\fa n l l'
 |[],_::_=>False
structure TB(st st':az):Prop where
 tmps:oG st'.boxes.length st.tmps st'.tmps
 boxes:fa st'.boxes.length st.boxes st'.boxes
 own:∀x∈st'.own,x∈st.own
def He(id:Nat)(Q:Exit->az->Prop):Exit->az->Prop
 |.exit id',st=>if id'=id then Q .normal st else Q (.exit id') st
 |e,st=>Q e st
section
variable{P:Program}{E:mo}{bs0:bp}
theorem zh{n:Nat}:∀{l l':List PVal},oG n l l'->l.length=l'.length/\∀(i:Nat) q,l'[i]? =some q->q=.undef\/(l[i]? =some q/\q.cl n)
 |[],[],_=>⟨rfl,by simp⟩
 |[],_::_,h=>by simp[oG]at h
 |_::_,[],h=>by simp[oG]at h
 | p :: l,q :: l',h => by
  simp only[oG]at h
  obtain⟨h1,h2⟩:=zh h.2
  refine⟨by simp[h1],λi x hx=>?_⟩
  cases i with
  | zero =>
   simp at hx;subst hx
   rcases h.1 with h3|⟨rfl,h3⟩
   ·exact .inl h3
   ·exact .inr ⟨rfl,h3⟩
  |succ i=>simpa using h2 i x (by simpa using hx)
theorem p7{n:Nat}:∀{l l':List av},fa n l l'->l'.length<=l.length/\∀(i:Nat) B',l'[i]? =some B'->∃B,l[i]? =some B/\lI n B B'
 |_,[],_=>⟨by simp,by simp⟩
 |[],_::_,h=>by simp[fa]at h
 |B::l,B'::l',h=>by
  simp only[fa]at h
  obtain⟨h1,h2⟩:=p7 h.2
  refine⟨by simpa using h1,λi x hx=>?_⟩
  cases i with
  |zero=>simp at hx;subst hx;exact⟨B,rfl,h.1⟩
  |succ i=>simpa using h2 i x (by simpa using hx)
theorem Iv.less{st st':az}{a:Act}{w:World}(hR:Iv P E bs0 st a w)(hl:TB st st')(hm:bs0.length<=st'.boxes.length):Iv P E bs0 st' a w:=by
 obtain⟨Γ,bs,ow,h,hk⟩:=hR
 obtain⟨h1,h2⟩:=zh hl.tmps
 obtain⟨h3,h4⟩:=p7 hl.boxes
 have hbl:st'.boxes.length<=bs.length:=by rw[h.bl];exact h3
 have hget:∀{i b:Nat},(bs.take st'.boxes.length)[i]? =some (some b)->i<st'.boxes.length/\bs[i]? =some (some b):=by
  intro i b hi
  have hlt:i<st'.boxes.length:=by have:=ag hi;simp at this;omega
  rw[vas hlt]at hi
  exact⟨hlt,hi⟩
 have hres:∀(i b:Nat),i<st'.boxes.length->bs[i]? =some (some b)->(bs.take st'.boxes.length)[i]? =some (some b):=λi b hi hb=>by
  rw[vas hi];exact hb
 refine⟨Γ,bs.take st'.boxes.length,ow,?_,λi hi=>?_⟩
 ·exact{
   wi:=h.wi
   sz:=by rw[h.sz,h1]
   tm:=λt p v hp hv=>by
    rcases h2 t p hp with rfl|⟨h5,h6⟩
    ·exact .undef v
    ·exact(h.tm t p v h5 hv).restrict h6 hres
   bl:=by simp;omega
   bx:=λi b B hb hB=>by
    obtain⟨hlt,hb⟩:=hget hb
    obtain⟨B0,hB0,hx⟩:=h4 i B hB
    obtain⟨k1,k2,k3⟩:=h.bx i b B0 hb hB0
    refine⟨k1,k2,?_⟩
    cases B with
    |dead=>trivial
    |cells cs own=>
     cases B0<;>simp only[lI]at hx
     obtain⟨rfl,hcl,_⟩:=hx
     obtain⟨c,t,e1,e2,e3,e4⟩:=k3
     exact⟨c,t,e1,e2,λj p v hp hv=>(e3 j p v hp hv).restrict (gN hcl hp) hres,e4⟩
    |map es=>
     cases B0<;>simp only[lI]at hx
     obtain⟨rfl,hcl⟩:=hx
     obtain⟨c,t,e1,e2,e3,e4⟩:=k3
     refine⟨c,t,e1,e2,λj k u x hp hv=>?_,e4⟩
     obtain⟨q1,q2⟩:=hcl _ (vaq hp)
     exact⟨(e3 j k u x hp hv).1.restrict q1 hres,(e3 j k u x hp hv).2.restrict q2 hres⟩
   inj:=λi j b hi hj=>h.inj i j b (hget hi).2 (hget hj).2
   bn:=λi b hb=>h.bn i b (hget hb).2
   on:=h.on
   ot:=λt k e he=>h.ot t k e (hl.own _ he)
   ob:=λi j e cs own b hB hj hb=>by
    obtain⟨hlt,hb⟩:=hget hb
    obtain⟨B0,hB0,hx⟩:=h4 i _ hB
    cases B0<;>simp only[lI]at hx
    exact h.ob i j e _ _ b hB0 (hx.2.2 _ hj) hb
   gl:=λg cs hg=>(h.gl g cs hg).restrict (n:=0) (by simp only[PVal.cl];exact h.gc g cs hg) (λi b hi _=>absurd hi (va8 _))
   gc:=h.gc
   gx:=h.gx
   step:=h.step}
 ·rw[vas (by omega)];exact hk i hi
end
section
variable{P:Program}{E:mo}{bs0:bp}
theorem Iv.len{st:az}{a:Act}{w:World}(h:Iv P E bs0 st a w):bs0.length<=st.boxes.length:=by
 obtain⟨Γ,bs,ow,h,hk⟩:=h
 rw[<-h.bl]
 by_cases hl:bs0.length<=bs.length
 ·exact hl
 ·have h1:=hk bs.length (by omega)
  rw[vaU (vaj _),vaa (by omega)]at h1
  cases h1
def F8(P:Program)(E:mo)(bs0:bp)(ds:List Deferred)(Q:Exit->az->Prop):Exit->Act->World->Prop:=
 λe a w=>a.defers=ds/\∃st,Iv P E bs0 st a w/\Q e st
end
def PR(P:Program)(st:az):ResultVar->Option PVal
 |.tmp t=>some (st.tmps.getD t .undef)
 |.cell t ty=>kI P ty (st.tmps.getD t .undef) st.boxes
def JN(P:Program)(st:az):List ResultVar->Option (List PVal)
 |[]=>some []
 |x::r=>match PR P st x,JN P st r with
  |some p,some l=>some (p::l)
  |_,_=>none
def JO(P:Program)(st:az):List ResultVar->Option PVal
 |[x]=>PR P st x
 |rs=>(JN P st rs).map .tuple
def fW:List ResultVar->Nat->Nat×Nat
 |[.tmp t],k=>(t,k)
 |rs,k=>match rs[k]? with
  |some (.tmp t)=>(t,0)
  |_=>(0,0)
def PVal.isSlice:PVal->Bool
 |.slice _=>true
 |_=>false
def pQ(st:az):List ResultVar->Nat->Prop
 |[.tmp _],_=>True
 |[_],_=>False
 |rs,k=>match rs[k]? with
  |some (.tmp t)=>(st.tmps.getD t .undef).isSlice=true
  |_=>False
def Wd(P:Program)(rs:List ResultVar)(r:PVal)(ro:List (Nat×TypeId))(H':List av):Exit->az->Prop
 | .normal,st | .ret,st => JO P st rs = some r∧r.cl H'.length∧fa H'.length st.boxes H'∧(∀ x ∈ ro,(fW rs x.1,x.2) ∈ st.own∧pQ st rs x.1) ∧
   (∀x∈ro,∀y∈ro,fW rs x.1=fW rs y.1->x.1=y.1)
 |_,_=>False
section
variable{P:Program}{E:mo}{Γ:ax}{bs:bp}{ow:Nat->Option jx}{w:World}{a:Array Value}{st:az}
def Gq(src:Nat->Nat×Nat)(ro:List (Nat×TypeId))(ow:Nat->Option jx):Nat->Option jx:=λb=>
 match ow b with
 |some (.tmp t j)=>(ro.find? λx=>src x.1==(t,j)).map λx=>.tmp 0 x.1
 |L=>L
theorem SR.finish(h:SR P E Γ bs ow w a st){H':List av}{v:Value}{r:PVal}(hv:VR Γ bs w r v)(hcl:r.cl H'.length)(hB:fa H'.length st.boxes H'){src:Nat->Nat×Nat}{ro:List (Nat×TypeId)}
  (hro:∀x∈ro,(src x.1,x.2)∈st.own/\∀u v',a[(src x.1).1]? =some u->eW u (src x.1).2=some v'->eW v x.1=some v')
  (hinj:∀x∈ro,∀y∈ro,src x.1=src y.1->x.1=y.1):
  SR P E Γ (bs.take H'.length) (Gq src ro ow) w #[v] ⟨[r],H',ro.map λx=>((0,x.1),x.2)⟩:=by
 have hR:Iv P E [] st ⟨a,[]⟩ w:=⟨Γ,bs,ow,h,λi hi=>absurd hi (va8 _)⟩
 obtain⟨h3,h4⟩:=p7 hB
 have hget:∀{i b:Nat},(bs.take H'.length)[i]? =some (some b)->i<H'.length/\bs[i]? =some (some b):=by
  intro i b hi
  have hlt:i<H'.length:=by have:=ag hi;simp at this;omega
  rw[vas hlt]at hi
  exact⟨hlt,hi⟩
 have hres:∀(i b:Nat),i<H'.length->bs[i]? =some (some b)->(bs.take H'.length)[i]? =some (some b):=λi b hi hb=>by
  rw[vas hi];exact hb
 clear hR
 exact{
  wi:=h.wi
  sz:=rfl
  tm:=λt p v' hp hv'=>by
   cases t with
   |zero=>simp at hp hv';subst hp;subst hv';exact hv.restrict hcl hres
   |succ t=>simp at hp
  bl:=by simp[h.bl];omega
  bx:=λi b B hb hB=>by
   obtain⟨hlt,hb⟩:=hget hb
   obtain⟨B0,hB0,hx⟩:=h4 i B hB
   obtain⟨k1,k2,k3⟩:=h.bx i b B0 hb hB0
   refine⟨k1,k2,?_⟩
   cases B with
   |dead=>trivial
   |cells cs own=>
    cases B0<;>simp only[lI]at hx
    obtain⟨rfl,hcl,_⟩:=hx
    obtain⟨c,t,e1,e2,e3,e4⟩:=k3
    exact⟨c,t,e1,e2,λj p v hp hv=>(e3 j p v hp hv).restrict (gN hcl hp) hres,e4⟩
   |map es=>
    cases B0<;>simp only[lI]at hx
    obtain⟨rfl,hcl⟩:=hx
    obtain⟨c,t,e1,e2,e3,e4⟩:=k3
    refine⟨c,t,e1,e2,λj k u x hp hv=>?_,e4⟩
    obtain⟨q1,q2⟩:=hcl _ (vaq hp)
    exact⟨(e3 j k u x hp hv).1.restrict q1 hres,(e3 j k u x hp hv).2.restrict q2 hres⟩
  inj:=λi j b hi hj=>h.inj i j b (hget hi).2 (hget hj).2
  bn:=λi b hb=>h.bn i b (hget hb).2
  on:=λb L hL=>by
   unfold Gq at hL
   cases hb:ow b with
   |none=>rw[hb]at hL;cases hL
   |some L'=>exact h.on b L' hb
  ot:=λt k e he=>by
   simp only[vah,Prod.mk.injEq]at he
   obtain⟨⟨k',e'⟩,hm,⟨rfl,rfl⟩,rfl⟩:=he
   obtain⟨h1,h2⟩:=hro _ hm
   obtain⟨u,v',e1,e2,e3,e4⟩:=h.ot _ _ _ h1
   refine⟨v,v',rfl,h2 u v' e1 e2,e3,λb hb=>?_⟩
   have:=e4 b hb
   simp only[Gq,this]
   cases hf:ro.find? λx=>src x.1==src k' with
   |none=>
    have:=vcM.1 hf _ hm
    simp at this
   |some x=>
    have hx:=vbt hf
    have hx2:=vbX hf
    simp only[vaY]at hx2
    have:=hinj x hx _ hm hx2
    simp only at this
    simp[this]
  ob:=λi j e cs own b hB hj hb=>by
   obtain⟨hlt,hb⟩:=hget hb
   obtain⟨B0,hB0,hx⟩:=h4 i _ hB
   cases B0<;>simp only[lI]at hx
   obtain⟨v',e1,e2,e3⟩:=h.ob i j e _ _ b hB0 (hx.2.2 _ hj) hb
   exact⟨v',e1,e2,λb' hb'=>by simp[Gq,e3 b' hb']⟩
  gl:=λg cs hg=>(h.gl g cs hg).restrict (n:=0) (by simp only[PVal.cl];exact h.gc g cs hg) (λi b hi _=>absurd hi (va8 _))
  gc:=h.gc
  gx:=h.gx
  step:=h.step}
theorem SR.getD(h:SR P E Γ bs ow w a st)(t:Nat):VR Γ bs w (st.tmps.getD t .undef) (a.getD t undef):=by
 have:=h.opv [] (.tmp t)
 exact this
theorem HK{p:PVal}{v:Value}(hv:VR Γ bs w p v)(hp:p.isSlice=true):eW v 0=some v:=by
 cases p<;>simp[PVal.isSlice]at hp
 cases hv<;>rfl
theorem Ek(h:SR P E Γ bs ow w a st){g:ResultVar->Sem Value}(h1:∀t,g (.tmp t)=pure (a.getD t undef))(h2:∀x t,g (.cell x t)=do loadVar t (<-asAddr (a.getD x undef))):∀{rs:List ResultVar} {l:List PVal},JN P st rs=some l->∃vs:List Value,(rs.mapM g).run P w=.ok vs w/\vs.length=rs.length/\l.length=rs.length/\(∀(i:Nat) p v,l[i]? =some p->vs[i]? =some v->VR Γ bs w p v)/\
   ∀(i:Nat) t,rs[i]? =some (.tmp t)->vs[i]? =some (a.getD t undef)
 |[],l,hl=>by
  cases hl
  exact⟨[],by simp,rfl,rfl,by simp,by simp⟩
 | x :: rs,l,hl => by
  unfold JN at hl
  split at hl
  ·rename_i p l' hp hl'
   cases hl
   obtain⟨vs,k1,k2,k3,k4,k5⟩:=Ek h h1 h2 hl'
   have hx:∃v,(g x).run P w=.ok v w/\VR Γ bs w p v/\∀t,x=.tmp t->v=a.getD t undef:=by
    cases x with
    |tmp t=>
     cases hp
     exact⟨a.getD t undef,by rw[h1];simp,h.getD t,λt' e=>by cases e;rfl⟩
    | cell t ty =>
     have hv:=h.getD t
     obtain⟨v,e1,e2⟩:=AK h hv hp
     refine⟨v,?_,e2,λt' e=>by cases e⟩
     rw[h2]
     have hp':kI P ty (st.tmps.getD t .undef) st.boxes=some p:=hp
     generalize hvt:a.getD t undef=vt at hv e1
     generalize hpt:st.tmps.getD t .undef=pt at hv hp'
     unfold kI at hp'
     split at hp'
     ·cases hv<;>simpa[Instr.loadAt,Instr.sureAddr,asAddr]using e1
     ·cases hv;simpa[Instr.loadAt,Instr.sureAddr,asAddr]using e1
     ·cases hp'
   obtain⟨v,e1,e2,e3⟩:=hx
   refine⟨v::vs,by simp[vbS,e1,k1],by simp[k2],by simp[k3],λi q u hq hu=>?_,λi t ht=>?_⟩
   ·cases i with
    |zero=>simp at hq hu;subst hq;subst hu;exact e2
    |succ i=>exact k4 i q u (by simpa using hq) (by simpa using hu)
   ·cases i with
    |zero=>simp at ht;simp[e3 t ht]
    |succ i=>simpa using k5 i t (by simpa using ht)
  ·cases hl
theorem qN(h:SR P E Γ bs ow w a st){fn:Func}{r:PVal}(hr:JO P st fn.results.toList=some r):∃v,(results fn a).run P w=.ok v w/\VR Γ bs w r v/\∀k u v',pQ st fn.results.toList k->a[(fW fn.results.toList k).1]? =some u->eW u (fW fn.results.toList k).2=some v'->eW v k=some v':=by
 have hres:fn.results=fn.results.toList.toArray:=by simp
 generalize fn.results.toList=rs at hr hres
 have hsl:∀(t:Nat) u v',(st.tmps.getD t .undef).isSlice=true->a[t]? =some u->eW u 0=some v'->a.getD t undef=v':=by
  intro t u v' hp hu hv'
  have h1:=h.getD t
  have h2:a.getD t undef=u:=by rw[vaB,hu];rfl
  rw[h2]at h1 ⊢
  rw[HK h1 hp]at hv'
  exact(var _ _).mp hv'
 obtain⟨g,hg,h1,h2⟩:∃g:ResultVar->Sem Value,results fn a=(do let vs <-fn.results.mapM g;pure (if h:vs.size=1 then vs[0]else .tuple vs))/\(∀t,g (.tmp t)=pure (a.getD t undef))/\(∀x t,g (.cell x t)=do loadVar t (<-asAddr (a.getD x undef))):=
  ⟨_,rfl,λ_=>rfl,λ_ _=>rfl⟩
 rw[hg,hres,List.mapM_toArray]
 have many:∀(l:List PVal),JN P st rs=some l->rs.length≠1->r=.tuple l->(∀k,pQ st rs k->∃t,rs[k]? =some (.tmp t)/\fW rs k=(t,0)/\(st.tmps.getD t .undef).isSlice=true)->
   ∃v,(do let vs <-(Functor.map List.toArray (rs.mapM g));pure (if h:vs.size=1 then vs[0]else Value.tuple vs):Sem Value).run P w=.ok v w/\VR Γ bs w r v/\
    ∀k u v',pQ st rs k->a[(fW rs k).1]? =some u->eW u (fW rs k).2=some v'->eW v k=some v':=by
  intro l hl hn hr hp
  obtain⟨vs,k1,k2,k3,k4,k5⟩:=Ek h h1 h2 hl
  refine⟨.tuple vs.toArray,by simp[k1,k2,hn],?_,λk u v' hk hu hv'=>?_⟩
  ·subst hr
   exact .tuple _ _ (by simp[k2,k3]) λi p v hp hv=>k4 i p v hp (by simpa using hv)
  ·obtain⟨t,e1,e2,e3⟩:=hp k hk
   rw[e2]at hu hv'
   have:=k5 k t e1
   show vs.toArray[k]? =some v'
   rw[vbu,this,hsl t u v' e3 hu hv']
 rcases rs with _|⟨x,_|⟨y,rs⟩⟩
 ·cases hr
  exact many [] rfl (by simp) rfl (λk hk=>by simp[pQ]at hk)
 ·have hl:JN P st [x]=some [r]:=by
   have hr':PR P st x=some r:=hr
   simp[JN,hr']
  obtain⟨vs,k1,k2,k3,k4,k5⟩:=Ek h h1 h2 hl
  match vs,k2 with
  | [v],_ =>
   refine⟨v,by simp[-List.mapM_cons,k1],k4 0 r v rfl rfl,λk u v' hk hu hv'=>?_⟩
   cases x with
   |tmp t=>
    have:=k5 0 t rfl
    simp at this
    simp only[fW]at hu hv'
    rw[this,hu]
    exact hv'
   |cell t ty=>exact hk.elim
 ·have hr':(JN P st (x::y::rs)).map PVal.tuple=some r:=hr
  rw[vaL]at hr'
  obtain⟨l,hl,e⟩:=hr'
  refine many l hl (by simp) e.symm λk hk=>?_
  simp only[pQ]at hk
  split at hk
  ·rename_i t ht
   exact⟨t,ht,by simp only[fW,ht],hk⟩
  ·exact hk.elim
end
section
variable{P:Program}{GE:List (Nat×List PVal)}{A:List Nat}{ops:Array Oper}
theorem PD{op:Op}{id:Nat}{v:Operand->PVal}{H:List av}{K K':PVal->List (Nat×TypeId)->List av->Prop}(h:Fx P GE op id v H K)(hk:∀p ro H,K p ro H->K' p ro H):Fx P GE op id v H K':=by
 unfold Fx at *
 split at h
 ·unfold xG at *
  split at h
  ·rcases h with⟨h1,r,ro,h2,h3⟩|⟨ρ,argsC,Hc,rc,ro,Hc',H',r,k1,k2,k3,k4,k5,k6,k7,k8,k9,h3⟩
   ·exact .inl ⟨h1,r,ro,h2,hk _ _ _ h3⟩
   ·exact .inr ⟨ρ,argsC,Hc,rc,ro,Hc',H',r,k1,k2,k3,k4,k5,k6,k7,k8,k9,hk _ _ _ h3⟩
  ·exact h.elim
 ·split at h
  ·exact hk _ _ _ h
  ·exact h.elim
theorem ki{o:Oper}{id:Nat}{K K':az->Prop}{st:az}(hk:∀st,K st->K' st)(h:jA o st.tmps.length=true/\Fx P GE o.op id (opv GE st.tmps) st.boxes λp ro H=>K (qg st o.dst p ro H)):jA o st.tmps.length=true/\Fx P GE o.op id (opv GE st.tmps) st.boxes λp ro H=>K' (qg st o.dst p ro H):=⟨h.1,PD h.2 λ_ _ _ h=>hk _ h⟩
theorem Lb{o:Oper}{id:Nat}{K K':az->Prop}{st:az}(hk:∀st,K st->K' st)(h:BB P GE A o id K st):BB P GE A o id K' st:=by
 unfold BB at *
 split at h
 case h_1=>exact⟨h.1,hk _ h.2⟩
 case h_2=>
  split at h
  ·rename_i hA;simp only[vaA hA];exact⟨h.1,hk _ h.2⟩
  ·rename_i hA;simp only[vaz hA];exact ki hk h
 case h_3=>
  split at h
  ·exact⟨h.1,hk _ h.2⟩
  ·exact ki hk h
 case h_4=>
  split at h
  ·exact⟨h.1,hk _ h.2⟩
  ·exact ki hk h
 case h_5=>
  split at h
  ·exact⟨h.1,hk _ h.2⟩
  ·exact h.elim
 case h_6=>
  split at h
  ·exact⟨h.1,hk _ h.2⟩
  ·exact h.elim
 case h_7=>
  split at h
  ·split at h
   ·exact⟨h.1,h.2.1,h.2.2.1,hk _ h.2.2.2⟩
   ·exact h.elim
  ·exact h.elim
 case h_8=>
  split at h
  ·rename_i hA
   simp only[vaA hA]
   split at h
   ·split at h
    ·split at h
     ·exact⟨h.1,h.2.1,hk _ h.2.2⟩
     ·exact h.elim
    ·exact h.elim
   ·exact h.elim
  ·rename_i hA;simp only[vaz hA];exact ki hk h
 case h_9=>
  split at h
  ·split at h
   ·exact hk _ h
   ·exact ki hk h
  ·exact ki hk h
 case h_10=>exact ki hk h
theorem Th{n:Int}(h1: -9223372036854775808<=n)(h2:n<9223372036854775808):IntKind.i64.wrap n=n:=by
 simp[IntKind.wrap,IntKind.bits,IntKind.signed];omega
end
section
variable{P:Program}{E:mo}{Γ:ax}{bs:bp}{ow:Nat->Option jx}{w:World}{a:Array Value}{st:az}
theorem BR.demote{Γ':ax}{B:av}{b:Nat}(h:BR Γ bs w B b)(hg:∀b n,Γ b=some n->0<n->Γ' b=some n):BR Γ' bs w B b:=by
 cases B with
 |cells cs own=>
  obtain⟨c,t,h1,h2,h3,h4⟩:=h
  exact⟨c,t,h1,h2,λj p v hp hv=>(h3 j p v hp hv).demote hg,h4⟩
 |map es=>
  obtain⟨c,t,h1,h2,h3,h4⟩:=h
  exact⟨c,t,h1,h2,λj k u x hp hv=>⟨(h3 j k u x hp hv).1.demote hg,(h3 j k u x hp hv).2.demote hg⟩,h4⟩
 |dead=>trivial
def ax.cut(Γ:ax)(g:Nat):ax:=λb=>if b=g then none else Γ b
theorem ax.cut_same(Γ:ax)(g:Nat):Γ.cut g g=none:=by simp[ax.cut]
theorem ax.cut_other(Γ:ax){g b:Nat}(h:b≠g):Γ.cut g b=Γ b:=by simp[ax.cut,h]
theorem SR.demote(h:SR P E Γ bs ow w a st){g:Nat}(hg:Γ g=some 0)(how:ow g=none)(hT:E.T g\/E.w.heap.size<=g):SR P E (Γ.cut g) bs ow w a st:=by
 have hd:∀b n,Γ b=some n->0<n->Γ.cut g b=some n:=λb n hb hn=>by
  rw[Γ.cut_other]
  ·exact hb
  ·intro e;subst e;rw[hg]at hb;cases hb;omega
 have hown:∀{v:Value} {e:TypeId} {L:jx},cR P Γ w v e->(∀b,v.ownBlock=some b->ow b=some L)->cR P (Γ.cut g) w v e:=λho hL=>
  ho.same λb hb=>⟨rfl,Γ.cut_other λe=>by subst e;have:=hL b hb;rw[how]at this;cases this⟩
 exact{h with
  wi:=λb n hb=>by
   by_cases e:b=g
   ·subst e;rw[Γ.cut_same]at hb;cases hb
   ·rw[Γ.cut_other e]at hb;exact h.wi b n hb
  tm:=λt p v hp hv=>(h.tm t p v hp hv).demote hd
  bx:=λi b B hb hB=>by
   obtain⟨h1,h2,h3⟩:=h.bx i b B hb hB
   refine⟨?_,h2,h3.demote hd⟩
   by_cases e:b=g
   ·subst e;exact Γ.cut_same _
   ·rw[Γ.cut_other e];exact h1
  ot:=λt k e he=>by
   obtain⟨u,v,h1,h2,h3,h4⟩:=h.ot t k e he
   exact⟨u,v,h1,h2,hown h3 h4,h4⟩
  ob:=λi j e cs own b hB hj hb=>by
   obtain⟨v,h1,h2,h3⟩:=h.ob i j e cs own b hB hj hb
   exact⟨v,h1,hown h2 h3,h3⟩
  gl:=λx cs hx=>(h.gl x cs hx).demote hd
  step:={h.step with
   keep:=λb hb hb2=>by
    obtain⟨k1,k2⟩:=h.step.keep b hb hb2
    refine⟨k1,?_⟩
    rw[Γ.cut_other]
    ·exact k2
    ·intro e;subst e;rcases hT with hT|hT
     ·exact hb2 hT
     ·omega
   le:=λb n hb hn=>by
    obtain⟨n',k1,k2,k3⟩:=h.step.le b n hb hn
    exact⟨n',hd b n' k1 (by omega),k2,k3⟩}}
theorem Og{α:Type}{l:List α}{x y:α}{i:Nat}(h:(l++[x])[i]? =some y):l[i]? =some y\/(i=l.length/\x=y):=by
 by_cases hi:i<l.length
 ·rw[vac hi]at h;exact .inl h
 ·rw[vad (by omega)]at h
  by_cases h0:i - l.length=0
  ·rw[h0]at h;simp at h;exact .inr ⟨by omega,h⟩
  ·rw[vaU (by simp;omega)]at h;cases h
theorem Qn(bs:bp)(x:Option Nat):bs.Sub (bs++[x]):=λi b hb=>by rw[vac (ag hb)];exact hb
theorem lj{ns:List (List PVal)}{sz:Nat}(h:∀x∈ns,x.length=sz/\∀q∈x,q.one=true):AD ns.flatten=true:=vao.2 λp hp=>by
 obtain⟨x,hx,hp⟩:=vcR.1 hp
 have:=(h x hx).2 p hp
 cases p<;>first|rfl|cases this
theorem SR.addBox(h:SR P E Γ bs ow w a st)(xb:Option Nat){cs:List PVal}(hno:AD cs=true)
  (hx:∀b,xb=some b->(∃cur t,w.heap[b]? =some (.cells cur t (0,0))/\cs.length<=cur.size/\∀(j:Nat) p v,cs[j]? =some p->cur[j]? =some v->VR Γ bs w p v)/\Γ b=none/\(E.T b\/E.w.heap.size<=b)/\∀i:Nat,bs[i]? ≠some (some b)):
  SR P E Γ (bs++[xb]) ow w a {st with boxes:=st.boxes++[.cells cs []]}:=by
 have hs:=Qn bs xb
 exact{h with
  tm:=λt p v hp hv=>(h.tm t p v hp hv).mono (.refl _ _) hs
  bl:=by simp[h.bl]
  bx:=λi b B hb hB=>by
   rcases Og hb with hb'|⟨rfl,hb'⟩
   ·rw[vac (by rw[<-h.bl];exact ag hb')]at hB
    obtain⟨h1,h2,h3⟩:=h.bx i b B hb' hB
    exact⟨h1,h2,h3.mono (.refl _ _) hs rfl⟩
   ·obtain⟨⟨cur,t,k1,k2,k3⟩,k4,k5,k6⟩:=hx b hb'
    rw[h.bl,vad (vaj _),vb1]at hB
    cases hB
    exact⟨k4,(vaf.1 k1).1,cur,t,k1,k2,λj p v hp hv=>(k3 j p v hp hv).mono (.refl _ _) hs,AE hno _ _⟩
  inj:=λi j b hi hj=>by
   rcases Og hi with hi'|⟨rfl,hi'⟩<;>rcases Og hj with hj'|⟨rfl,hj'⟩
   ·exact h.inj i j b hi' hj'
   ·exact absurd hi' ((hx b hj').2.2.2 i)
   ·exact absurd hj' ((hx b hi').2.2.2 j)
   ·rfl
  bn:=λi b hb=>by
   rcases Og hb with hb'|⟨rfl,hb'⟩
   ·exact h.bn i b hb'
   ·exact(hx b hb').2.2.1
  ob:=λi j e cs' own b hB hj hb=>by
   rcases Og hb with hb'|⟨rfl,hb'⟩
   ·rw[vac (by rw[<-h.bl];exact ag hb')]at hB
    exact h.ob i j e cs' own b hB hj hb'
   ·rw[h.bl,vad (vaj _),vb1]at hB
    cases hB
    simp at hj
  gl:=λg cs hg=>(h.gl g cs hg).mono (.refl _ _) hs}
theorem CF{ns:List (List PVal)}{x:Value}{sz:Nat}(hx:VR Γ bs w (.slice ns) x)(hsz0:0<sz)(hns1:∀x∈ns,x.length=sz/\∀q∈x,q.one=true):∃news:List Value,((x=.slice none 0 0/\ns.length=0)\/∃a c,x=.slice (some a) ns.length c/\∀(j:Nat) u,news[j]? =some u->w.cell? (a.add j)=some u)/\
   news.length=ns.length * sz/\(∀u∈news,u.oneCell'=true)/\
   ∀(i:Nat) x (k:Nat) q,ns[i]? =some x->x[k]? =some q->∃u,news[i * sz+k]? =some u/\VR Γ bs w q u:=by
 have hnsz:∀(i:Nat) x,ns[i]? =some x->x.length=sz:=λi x hx=>(hns1 x (vaq hx)).1
 cases hx with
 |sliceNil=>exact⟨[],.inl ⟨rfl,rfl⟩,by simp,by simp,by simp⟩
 |sliceE a cap=>exact⟨[],.inr ⟨a,cap,rfl,by simp⟩,by simp,by simp,by simp⟩
 | slice ns b off cap n' sz' vals hz0 hcap hgg hn hsz hc hvv =>
  have hcell:∀(i:Nat) x (k:Nat) q,ns[i]? =some x->x[k]? =some q->w.cell? ⟨b,off+(i * sz+k),none⟩=some (vals i k):=by
   intro i x k q hx hq
   have hsz':sz'=sz:=by rw[<-hsz i x hx];exact hnsz i x hx
   subst hsz'
   rw[<-vbQ];exact hc i x k q hx hq
  have hpos:∀o,o<ns.length * sz->∃x q,ns[o / sz]? =some x/\x[o % sz]? =some q/\o=o / sz * sz+o % sz:=by
   intro o ho
   obtain⟨m1,m2⟩:=AA (q:=o) hsz0
   have hlt:o / sz<ns.length:=(vcw hsz0).2 ho
   have hxl:=hnsz _ _ (vaa hlt)
   exact⟨_,_,vaa hlt,vaa (by rw[hxl];exact m2),m1⟩
  refine⟨(List.range (ns.length * sz)).map λo=>vals (o / sz) (o % sz),.inr ⟨⟨b,off,none⟩,cap,rfl,λj u hu=>?_⟩,by simp,λu hu=>?_,λi x k q hx hq=>⟨vals i k,?_,hvv i x k q hx hq⟩⟩
  ·rw[vax]at hu
   have hj:j<ns.length * sz:=by
    by_cases hj:j<ns.length * sz
    ·exact hj
    ·rw[vaU (by simp;omega)]at hu;cases hu
   rw[vbk hj]at hu
   simp only[vak,var]at hu
   subst hu
   obtain⟨x,q,k1,k2,k3⟩:=hpos j hj
   have:=hcell _ _ _ _ k1 k2
   rw[<-k3]at this
   rw[Addr.add_lit];exact this
  ·simp only[vah,vbg]at hu
   obtain⟨o,ho,rfl⟩:=hu
   obtain⟨x,q,k1,k2,k3⟩:=hpos o ho
   exact VR.one (hvv _ _ _ _ k1 k2) ((hns1 x (vaq k1)).2 q (vaq k2))
  ·have hk:k<sz:=by have:=ag hq;rw[hnsz i x hx]at this;exact this
   have hlt:=uI (ag hx) hk
   rw[vax,vbk hlt]
   simp only[vak,var]
   rw[vcb i,Nat.mul_add_div hsz0,vcp hk,Nat.mul_add_mod,vcq hk,Nat.add_zero]
theorem DC{sz:Nat}(hsz:0<sz):∀{ns:List (List PVal)},(∀x∈ns,x.length=sz)->∀{j:Nat} {p:PVal},ns.flatten[j]? =some p->∃x,ns[j / sz]? =some x/\x[j % sz]? =some p
 |[],_,j,p,h=>by simp at h
 | x :: ns,hl,j,p,h => by
  have hx:=hl x (by simp)
  rw[List.flatten_cons]at h
  by_cases hj:j<sz
  ·rw[vac (by omega)]at h
   rw[vcp hj,vcq hj]
   exact⟨x,rfl,h⟩
  ·rw[vad (by omega),hx]at h
   obtain⟨y,h1,h2⟩:=DC hsz (λz hz=>hl z (by simp[hz])) h
   have e1:j / sz=(j - sz) / sz+1:=by
    conv=>lhs;rw[show j=(j - sz)+sz by omega]
    rw[Nat.add_div_right _ hsz]
   have e2:j % sz=(j - sz) % sz:=by
    conv=>lhs;rw[show j=(j - sz)+sz by omega]
    rw[Nat.add_mod_right]
   rw[e1,e2]
   exact⟨y,by simpa using h1,h2⟩
theorem flat_len{sz:Nat}:∀{ns:List (List PVal)},(∀x∈ns,x.length=sz)->ns.flatten.length=ns.length * sz
 |[],_=>by simp
 |x::ns,hl=>by
  rw[List.flatten_cons,vaD,hl x (by simp),flat_len (λz hz=>hl z (by simp[hz])),vaZ,vaN,vbw,vcc]
theorem vW{ns:List (List PVal)}{sz:Nat}(hsz0:0<sz)(hl:∀x∈ns,x.length=sz){cur:Array Value}(hc:∀(i:Nat) x (k:Nat) q,ns[i]? =some x->x[k]? =some q->∃u,cur[i * sz+k]? =some u/\VR Γ bs w q u):ns.flatten.length<=cur.size/\∀(j:Nat) p v,ns.flatten[j]? =some p->cur[j]? =some v->VR Γ bs w p v:=by
 have key:∀(j:Nat) p,ns.flatten[j]? =some p->∃u,cur[j]? =some u/\VR Γ bs w p u:=by
  intro j p hp
  obtain⟨x,h1,h2⟩:=DC hsz0 hl hp
  have:=hc _ _ _ _ h1 h2
  rwa[<-(AA (q:=j) hsz0).1]at this
 refine⟨?_,λj p v hp hv=>?_⟩
 ·by_cases h0:ns.flatten.length=0
  ·omega
  ·obtain⟨u,hu,_⟩:=key (ns.flatten.length - 1) _ (vaa (by omega))
   have:=(vaf.1 hu).1
   omega
 ·obtain⟨u,hu,hv'⟩:=key j p hp
  rw[hu]at hv;cases hv;exact hv'
theorem H4(h:SR P E Γ bs ow w a st){t ty e:TypeId}{ns:List (List PVal)}{p:PVal}{v x:Value}(ht:P.underlying t=some (.slice e))(hv:VR Γ bs w (.slice []) v)(hx:VR Γ bs w (.slice ns) x)
  (ho:cR P Γ w v e) (hfree:∀b,v.ownBlock=some b->ow b=none/\(E.T b\/E.w.heap.size<=b)) (hp:eP P t [] ns=some p):
  ∃v' w' Γ' xb,(Builtin.append_ #[t,t] ty #[v,x]).run P w=.ok v' w'/\SR P E Γ' (bs++[xb]) ow w' a {st with boxes:=st.boxes++[.cells ns.flatten []]}/\VR Γ' (bs++[xb]) w' (.bsl st.boxes.length 0 ns.length) v':=by
 unfold eP at hp
 rw[ht]at hp
 simp only at hp
 split at hp
 case isFalse=>cases hp
 rename_i hh
 obtain⟨hlen,hby,hsz0,hzl,_,hns1⟩:=hh
 cases hp
 have hz:∃zs,eX P e=some zs/\zs.length=P.cellsOf e:=by simpa using hzl
 obtain⟨zs,hz,hzl⟩:=hz
 obtain⟨z,hr,rfl,i,hi,hz'⟩:=gH (w:=w) hz
 have hisz:i.size=P.cellsOf e:=by simp[Program.cellsOf,hi]
 have hiby:i.bytes=P.bytesOf e:=by simp[Program.bytesOf,hi]
 obtain⟨n,xs,hown,hgh⟩:=ho
 have hn0:n=0:=by
  rcases hown.2 with⟨rfl,rfl⟩|⟨g,cap,cur,rfl,_⟩
  ·rfl
  ·cases hv with
   |sliceE a cap=>rfl
   |slice es b off cap n' sz vals=>rfl
 subst hn0
 have hxs:xs=[]:=vai (by rw[hown.1];simp)
 subst hxs
 simp only[List.length_nil,vaG]at hlen
 have hmax:0+ns.length<=maxLen:=by unfold maxLen;unfold cy at hlen;omega
 have hbytes:(0+ns.length) * i.bytes<=140737488355328:=by
  rw[hiby]
  have:(0+ns.length) * P.bytesOf e<=1073741824 * 65536:=vb0 (by unfold cy at hlen;omega) hby
  omega
 have hnsl:∀x∈ns,x.length=P.cellsOf e:=λx hx=>(hns1 x hx).1
 obtain⟨Γ0,h0,hx0,hg0⟩:∃Γ0,SR P E Γ0 bs ow w a st/\VR Γ0 bs w (.slice ns) x/\∀b,v.ownBlock=some b->Γ0 b=none/\∀i:Nat,bs[i]? ≠some (some b):=by
  cases hvb:v.ownBlock with
  |none=>exact⟨Γ,h,hx,λb hb'=>by cases hb'⟩
  | some g =>
   have hgz:Γ g=some 0:=by have:=hgh g hvb;simpa using this
   refine⟨Γ.cut g,h.demote hgz (hfree g hvb).1 (hfree g hvb).2,hx.demote λb n hb hn=>?_,λb hb'=>?_⟩
   ·have hne:b≠g:=by intro e;subst e;rw[hgz]at hb;cases hb;omega
    rw[Γ.cut_other hne]
    exact hb
   ·cases hb'
    refine⟨Γ.cut_same _,λi hi=>?_⟩
    have:=(h.bx i g (st.boxes[i]'(by rw[<-h.bl];exact ag hi)) hi (by simp)).1
    rw[hgz]at this;cases this
 obtain⟨news,hnx,hnl,hn1,hnv⟩:=CF hx0 hsz0 hns1
 obtain⟨v',w',hrun,hcase⟩:=rE (ty:=ty) ht hi hz' hisz (by simpa using hzl) hsz0 hown hnx hnl hn1 hmax hbytes
 rcases hcase with⟨rfl,rfl,hm0⟩|⟨g,cap,cur,rfl,hg,hcs,hcm,htake,hroom,rfl,rfl⟩|⟨cap,rest,g1,g2,g3,rfl,rfl⟩
 ·have hns0:ns=[]:=vai hm0
  subst hns0
  refine⟨v',w',Γ0,none,hrun,h0.addBox none (lj hns1) (λb hb=>by cases hb),?_⟩
  cases hv with
  |sliceNil=>exact .bsl _ _ _ _ _ (vaj _) (λ_=>rfl) (.inl rfl)
  |sliceE a cap=>exact .bsl _ _ _ _ _ (vaQ _) (λh=>by cases h) (.inl rfl)
  |slice es b off cap n' sz vals=>exact .bsl _ _ _ _ _ (vaQ _) (λh=>by cases h) (.inl rfl)
 ·
  simp only[vcz,List.take_zero,va3,vaG]at hrun hroom ⊢
  obtain⟨hΓg,hbg⟩:=hg0 g rfl
  have hheap:=i7 w g cur (news++cur.toList.drop news.length).toArray e (0,0) hg
  have hne:∀{b m},Γ0 b=some m->b≠g:=λhb e=>by subst e;rw[hΓg]at hb;cases hb
  have hle:Γ0.Le w Γ0 (w.setRow g (news++cur.toList.drop news.length).toArray):=λb m hb _=>⟨m,hb,vaj _,λo _=>bN (setRow_other w g b _ (hne hb)) o⟩
  have hSR:=h0.world (λb=>b=g) hle (λb m hb=>by
   obtain⟨c,t',fr,k1,k2⟩:=h0.wi b m hb
   exact⟨c,t',fr,(setRow_other w g b _ (hne hb)).trans k1,k2⟩) rfl rfl rfl (by simp) (λb _ hbg=>⟨setRow_other w g b _ hbg,rfl⟩) (λb hb=>by subst hb;exact(hfree b rfl).2)
   (λi b hb hbg'=>by subst hbg';exact hbg i hb) (λb L hL hbg'=>by subst hbg';rw[(hfree b rfl).1]at hL;cases hL)
  refine⟨_,_,Γ0,some g,hrun,hSR.addBox (some g) (lj hns1) (λb hb=>?_),?_⟩
  ·cases hb
   refine⟨⟨_,e,hheap,vW hsz0 hnsl λi x k q hx hq=>?_⟩,hΓg,(hfree g rfl).2,hbg⟩
   obtain⟨u,k1,k2⟩:=hnv i x k q hx hq
   refine⟨u,?_,k2.mono hle (.refl _)⟩
   simp only[vbu]
   rw[vac (ag k1)];exact k1
  ·refine .bsl _ _ _ _ _ hroom (λh=>by cases h) (.inr ⟨g,rfl,?_⟩)
   rw[h.bl.symm,vad (vaj _),vb1];rfl
 ·
  simp only[va3,vaG]at hrun g1 ⊢
  have hfr:∀m,Γ0 w.heap.size≠some m:=λm hm=>absurd (h0.lt_of_ghost hm) (vbx _)
  have hle:Γ0.Le w Γ0 (w.drew.alloc (.cells (news++rest).toArray e)):=λb m hb _=>⟨m,hb,vaj _,λo _=>bN (dK w.drew _ (h0.drew.lt_of_ghost hb)) o⟩
  have hheap:(w.drew.alloc (.cells (news++rest).toArray e)).heap[w.heap.size]? =some (.cells (news++rest).toArray e (0,0)):=de w.drew _
  have hSR:=h0.drew.world (λ_=>False) (Γ':=Γ0) (w':=w.drew.alloc (.cells (news++rest).toArray e)) (λb m hb _=>⟨m,hb,vaj _,λo _=>bN (dK w.drew _ (h0.drew.lt_of_ghost hb)) o⟩) (λb m hb=>by
   obtain⟨c',t',fr,k1,k2⟩:=h0.wi b m hb
   exact⟨c',t',fr,(dK w.drew _ (h0.drew.lt_of_ghost hb)).trans k1,k2⟩) rfl rfl rfl (by simp) (λb hb _=>⟨dK w.drew _ hb,rfl⟩) (λ_ hx=>hx.elim) (λ_ _ _ hx=>hx) (λ_ _ _ hx=>hx)
  refine⟨_,_,Γ0,some w.heap.size,hrun,hSR.addBox (some w.heap.size) (lj hns1) (λb hb=>?_),?_⟩
  ·cases hb
   refine⟨⟨_,e,hheap,vW hsz0 hnsl λi x k q hx hq=>?_⟩,?_,.inr h.step.size,λi hi=>?_⟩
   ·obtain⟨u,k1,k2⟩:=hnv i x k q hx hq
    refine⟨u,?_,k2.mono hle (.refl _)⟩
    simp only[vbu]
    rw[vac (ag k1)];exact k1
   ·cases hx':Γ0 w.heap.size with
    |none=>rfl
    |some m=>exact absurd hx' (hfr m)
   ·have:=(h.bx i _ (st.boxes[i]'(by rw[<-h.bl];exact ag hi)) hi (by simp)).2.1
    omega
  ·refine .bsl _ _ _ _ _ g1 (λh=>by cases h) (.inr ⟨w.heap.size,rfl,?_⟩)
   rw[h.bl.symm,vad (vaj _),vb1];rfl
def rr(P:Program)(f:FuncId)(e:TypeId):Prop:=
 (∀vs w,(callFunc f vs).run P w=.ok (.enter f vs) w)/\
 ∀(w:World) (x:Value) (n:Nat) (news:List Value),((x=.slice none 0 0/\n=0)\/∃a c,x=.slice (some a) n c/\∀(j:Nat) u,news[j]? =some u->w.cell? (a.add j)=some u)->news.length=n * P.cellsOf e->(∀u∈news,u.oneCell'=true)->n<=cy->
  Calls P f #[x] w λr w'=>∃v',r=.returned v'/\w'.ownsRow w.heap.size e (P.cellsOf e) v' n news/\(RowKit.Below w.heap.size w w'/\w.drawn<=w'.drawn)
theorem Bl(h:SR P E Γ bs ow w a st){w':World}(hb:RowKit.Below w.heap.size w w')(hd:w.drawn<=w'.drawn):Γ.Le w Γ w'/\SR P E Γ bs ow w' a st:=by
 have hle:Γ.Le w Γ w':=λb m hb' _=>⟨m,hb',vaj _,λo _=>bN (hb.block b (h.lt_of_ghost hb')) o⟩
 refine⟨hle,h.world (λ_=>False) hle (λb m hb'=>?_) hb.os hb.tape hb.output hb.size (λb hlt _=>⟨hb.block b hlt,rfl⟩) (λ_ hx=>hx.elim) (λ_ _ _ hx=>hx) (λ_ _ _ hx=>hx) (jV hd)⟩
 obtain⟨c',t',fr,k1,k2⟩:=h.wi b m hb'
 exact⟨c',t',fr,(hb.block b (h.lt_of_ghost hb')).trans k1,k2⟩
theorem Kj(h:SR P E Γ bs ow w a st){f:FuncId}{e:TypeId}{ns:List (List PVal)}{x:Value}(hC:rr P f e)(hx:VR Γ bs w (.slice ns) x)(hsz0:0<P.cellsOf e)(hns1:∀x∈ns,x.length=P.cellsOf e/\∀q∈x,q.one=true)(hlen:ns.length<=cy):Calls P f #[x] w λr w'=>∃v' xb,r=.returned v'/\SR P E Γ (bs++[xb]) ow w' a {st with boxes:=st.boxes++[.cells ns.flatten []]}/\VR Γ (bs++[xb]) w' (.bsl st.boxes.length 0 ns.length) v':=by
 obtain⟨news,hnx,hnl,hn1,hnv⟩:=CF hx hsz0 hns1
 refine(hC.2 w x ns.length news hnx hnl hn1 hlen).mono λr w' hr=>?_
 obtain⟨v',rfl,hown,hb,hbd⟩:=hr
 obtain⟨hle,hS⟩:=Bl h hb hbd
 rcases hown.2 with⟨rfl,hn⟩|⟨g,cap,cur,rfl,hge,hheap,hnc,hcm,hcs,htake⟩
 ·have hns0:ns=[]:=vai hn
  subst hns0
  exact⟨_,none,rfl,hS.addBox none (lj hns1) (λb hb=>by cases hb),.bsl _ _ _ _ _ (vaQ _) (λ_=>rfl) (.inl rfl)⟩
 ·refine⟨_,some g,rfl,hS.addBox (some g) (lj hns1) (λb hb'=>?_),?_⟩
  ·cases hb'
   refine⟨⟨cur,e,hheap,vW hsz0 (λx hx=>(hns1 x hx).1) λi x k q hx hq=>?_⟩,?_,.inr (vav h.step.size hge),λi hi=>?_⟩
   ·obtain⟨u,k1,k2⟩:=hnv i x k q hx hq
    refine⟨u,?_,k2.mono hle (.refl _)⟩
    have hlt:=ag k1
    rw[<-htake,vas (by omega)]at k1
    simpa using k1
   ·cases hg:Γ g with
    |none=>rfl
    |some m=>exact absurd (h.lt_of_ghost hg) (by omega)
   ·have:=(h.bx i g (st.boxes[i]'(by rw[<-h.bl];exact ag hi)) hi (by simp)).2.1
    omega
  ·refine .bsl _ _ _ _ _ hnc (λh=>by cases h) (.inr ⟨g,rfl,?_⟩)
   rw[h.bl.symm,vad (vaj _),vb1];rfl
end
def K9(P:Program)(GE:List (Nat×List PVal))(o:Oper)(K:az->Prop)(st:az):Prop:=
 match o.op,o.dst with
 | .call { callee := .builtin .append,args:=⟨[.tmp t,y]⟩,argTypes:=⟨[T,T']⟩ },some d => ∃ e ns p,T = T'∧P.underlying T = some (.slice e)∧st.tmps.getD t .undef = .slice []∧opv GE st.tmps y = .slice ns∧eP P T [] ns = some p∧((t,0),e) ∈ st.own∧d < st.tmps.length ∧
   K ⟨st.tmps.set d (.bsl st.boxes.length 0 ns.length),st.boxes++[.cells ns.flatten []],be d (st.own.filter λx=>x.1 !=(t,0))⟩
 | .call { callee := .value f,args:=⟨[x]⟩,.. },some d => ∃ g e ns,opv GE st.tmps f = .func (.func g) [] []∧rr P g e∧opv GE st.tmps x = .slice ns∧0 < P.cellsOf e∧(∀ x ∈ ns,x.length = P.cellsOf e∧∀ q ∈ x,q.one = true)∧ns.length ≤ cy∧d < st.tmps.length ∧
   K ⟨st.tmps.set d (.bsl st.boxes.length 0 ns.length),st.boxes++[.cells ns.flatten []],be d st.own⟩
 | .store T x (.const v),none => ∃ i off e H cs own,v = .slice none 0 0∧opv GE st.tmps x = .bptr i off∧dh P T (.bptr i off) (opv GE st.tmps (.const v)) st.boxes = some H∧H[i]? = some (.cells cs own) ∧
   K ⟨st.tmps,H.set i (.cells cs ((off,e)::own)),st.own⟩
 |_,_=>False
def tL(P:Program)(E:mo)(bs:bp)(id:Nat)(mk:Bool)(ds:List Deferred)(K:az->Prop)(a:Act)(w:World):Prop:=
 a.defers=ds/\∃Γ bs' ow st,SR P E Γ bs' ow w a.tmps st/\K st/\(bs'=bs\/(mk=true/\∃b,bs'=bs.set id (some b))\/∃X,bs'=bs++X)
theorem ez.to3{P:Program}{E:mo}{bs:bp}{id:Nat}{mk:Bool}{ds:List Deferred}{K:az->Prop}{a:Act}{w:World}(h:ez P E bs id mk ds K a w):tL P E bs id mk ds K a w:=by
 obtain⟨h1,Γ,bs',ow,st,h2,h3,h4⟩:=h
 exact⟨h1,Γ,bs',ow,st,h2,h3,h4.imp_right .inl⟩
section
variable{P:Program}{E:mo}{Γ:ax}{bs:bp}{ow:Nat->Option jx}{w:World}{a:Act}{st:az}
theorem La(h:SR P E Γ bs ow w a.tmps st){o:Oper}{id:Nat}{K:az->Prop}(hp:K9 P E.GE o K st)(Q:Exit->Act->World->Prop):o.wp P a w (tL P E bs id (aw o.op) a.defers K) Q:=by
 unfold K9 at hp
 split at hp
 ·rename_i t y T T' d ho hdst
  obtain⟨e,ns,p,rfl,hT,het,hen,hpa,hmem,hd,hK⟩:=hp
  obtain⟨u,v,h1,h2,h3,h4⟩:=h.ot t 0 e hmem
  have hvt:=nv h h1
  rw[het]at hvt
  have huv:u=v:=CH h2 (λvs hx=>by subst hx;cases hvt) (λvs hx=>by subst hx;cases hvt)
  subst huv
  have hf:=h.freeT t 0
  have hy:VR Γ bs w (opv E.GE st.tmps y) (a.eval y):=h.opv a.defers y
  rw[hen]at hy
  obtain⟨v',w',Γ',xb,r1,r2,r3⟩:=H4 (ty:=o.type) hf hT hvt hy h3 (λb hb=>⟨by simp[h4 b hb],(h.on b _ (h4 b hb)).2⟩) hpa
  have hrun:(execOp a.eval o).run P w=.ok (.value v') w':=by
   simp[execOp,ho,resolve,invoke,builtin,aL h1,r1]
  unfold Oper.wp
  rw[hrun,Oper.upon_value]
  have g1:=r2.set (d:=d) r3
  have hput:∀v,(a.put o.dst v).tmps=a.tmps.setIfInBounds d v:=λv=>by rw[hdst];rfl
  rw[<-hput]at g1
  exact⟨aT _ _ _,Γ',_,_,_,g1,hK,.inr (.inr ⟨[xb],rfl⟩)⟩
 ·rename_i f x tys d ho hdst
  obtain⟨g,e,ns,hf,hC,hx,h1,h2,h3,hd,hK⟩:=hp
  have hvf:VR Γ bs w (opv E.GE st.tmps f) (a.eval f):=h.opv a.defers f
  have hvx:VR Γ bs w (opv E.GE st.tmps x) (a.eval x):=h.opv a.defers x
  rw[hf]at hvf
  rw[hx]at hvx
  generalize hev:a.eval f=vf at hvf
  cases hvf with
  |func _ _ _ fs cs hl hl' k1 k2=>
  have hfs:fs=#[]:=va2 (by simpa using hl)
  have hcs:cs=#[]:=va2 (by simpa using hl')
  subst hfs;subst hcs
  have hrun:(execOp a.eval o).run P w=.ok (.enter g #[a.eval x]) w:=by
   simp[execOp,ho,resolve,hev,Deferred.ofValue,invoke,hC.1]
  unfold Oper.wp
  rw[hrun,Oper.upon_enter]
  refine(Kj h hC hvx h1 h2 h3).mono λr w' hr=>?_
  obtain⟨v',xb,rfl,hS,hv'⟩:=hr
  have g1:=hS.set (d:=d) hv'
  have hput:(a.put o.dst v').tmps=a.tmps.setIfInBounds d v':=by rw[hdst];rfl
  rw[<-hput]at g1
  show tL P E bs id (aw o.op) a.defers K (a.put o.dst v') w'
  exact⟨aT _ _ _,Γ,_,ow,_,g1,hK,.inr (.inr ⟨[xb],rfl⟩)⟩
 ·rename_i T x v ho hdst
  obtain⟨i,off,e,H,cs,own,rfl,hx,hps,hB,hK⟩:=hp
  have hvx:VR Γ bs w (opv E.GE st.tmps x) (a.eval x):=h.opv a.defers x
  have hvv:VR Γ bs w (opv E.GE st.tmps (.const (.slice none 0 0))) (.slice none 0 0):=h.opv a.defers (.const (.slice none 0 0))
  rw[hx]at hvx
  obtain⟨w',r1,r2,_,r4⟩:=u9 h hvx hvv hps
  have hrun:(execOp a.eval o).run P w=.ok .skip w':=by
   have:a.eval (.const (.slice none 0 0))=.slice none 0 0:=rfl
   simp[execOp,ho,this,r1]
  unfold Oper.wp
  rw[hrun,Oper.upon_skip]
  generalize a.eval x=vx at hvx
  cases hvx with
  |bptr _ _ b hb=>
  have hc:=(r4 i off b rfl hb).1 0 (.slice none 0 0) rfl
  have g1:=r2.addOwnB (j:=off) (e:=e) hb hB hc ⟨0,[],World.ownsRow_nil _ _ _ _,λb hb=>by simp[Value.ownBlock]at hb⟩ (λb hb=>by simp[Value.ownBlock]at hb)
  rw[hdst]
  exact⟨rfl,Γ,bs,_,_,g1,hK,.inl rfl⟩
 ·exact hp.elim
end
structure OA where
 i:Nat
 t:Nat
 k:Nat
 e:TypeId
def dM(ρ:List Nat)(oa:List OA)(Γ:ax)(ow:Nat->Option jx):Nat->Option jx:=λb=>
 match ow b with
 |some (.box j k)=>if(Γ b).isSome/\j∈ρ then some (.box (ρ.idxOf j) k)else none
 |some (.tmp t k)=>match oa.find? λy=>y.t==t&&y.k==k with
  |some x=>if(Γ b).isSome then some (.tmp x.i k)else none
  |none=>none
 |_=>none
def nI(ρ:List Nat)(oa:List OA)(d:Nat)(owC ow:Nat->Option jx):Nat->Option jx:=λb=>
 match owC b with
 |some (.box i k)=>some (.box (ρ.getD i 0) k)
 |some (.tmp _ k)=>some (.tmp d k)
 |none=>match ow b with
  |some (.box j k)=>if j∈ρ then none else some (.box j k)
  |some (.tmp t k)=>if(oa.any λx=>x.t==t&&x.k==k)=true then none else some (.tmp t k)
  |none=>none
section
variable{P:Program}{E:mo}{Γ:ax}{bs:bp}{ow:Nat->Option jx}{w:World}{a:Array Value}{st:az}{ρ:List Nat}
theorem Oj(h:SR P E Γ bs ow w a st){g:FuncId}{args argsC:List PVal}{r rc:PVal}{ro:List (Nat×TypeId)}{Hc Hc' H':List av}{vs:Array Value}{d:Nat}{oa:List OA}(hd:d<a.size)
  (hn:ρ.Nodup) (hC:C P E.GE g argsC (oa.map λx=>((x.i,x.k),x.e)) Hc rc ro Hc') (ho1:∀x∈oa,(vs[x.i]? =some (.slice none 0 0)/\x.k=0)\/(((x.t,x.k),x.e)∈st.own/\vs[x.i]? =a[x.t]?)) (ho3:∀x∈oa,∀y∈oa,x.t=y.t->x.k=y.k->x.i=y.i) (hH:tP ρ st.boxes Hc) (hH':tP ρ H' Hc') (hlen:H'.length=st.boxes.length) (hsame:∀j:Nat,j∉ρ->H'[j]? =st.boxes[j]?)
  (hr:rm ρ r rc) (hal:args.length=argsC.length) (ha:∀(i:Nat) p q,args[i]? =some p->argsC[i]? =some q->rm ρ p q)
  (hl:vs.size=args.length) (hv:∀(i:Nat) p v,args[i]? =some p->vs[i]? =some v->VR Γ bs w p v):
  Calls P g vs w λe w'=>∃v Γ' ow',e=.returned v/\SR P E Γ' bs ow' w' (a.setIfInBounds d v) {st with tmps:=st.tmps.set d r,boxes:=H',own:=(ro.map λx=>((d,x.1),x.2))++be d (st.own.filter λz=>!oa.any λx=>z.1==(x.t,x.k))}/\Γ.Le w Γ' w':=by
 let bsC:bp:=ρ.map λj=>(bs[j]?).getD none
 have hjlt:∀{i j:Nat},ρ[i]? =some j->j<st.boxes.length:=λ{i j} hij=>by
  obtain⟨B,_,hB,_⟩:=hH.box i j hij;exact ag hB
 have hbb:∀(i j:Nat),ρ[i]? =some j->bsC[i]? =bs[j]?:=by
  intro i j hij
  have hj:j<bs.length:=by rw[h.bl];exact hjlt hij
  simp[bsC,hij,vaa hj]
 have hbc:∀{i b:Nat},bsC[i]? =some (some b)->∃j,ρ[i]? =some j/\bs[j]? =some (some b):=by
  intro i b hib
  have hi:i<ρ.length:=by have:=ag hib;simpa[bsC]using this
  have hij:ρ[i]? =some ρ[i]:=vaa hi
  exact⟨_,hij,(hbb i _ hij).symm.trans hib⟩
 have hcow:∀{b L},dM ρ oa Γ ow b=some L->(Γ b).isSome/\((∃j k,ow b=some (.box j k)/\j∈ρ/\L=.box (ρ.idxOf j) k)\/(∃x∈oa,ow b=some (.tmp x.t x.k)/\L=.tmp x.i x.k)):=by
  intro b L hL
  unfold dM at hL
  split at hL
  ·rename_i j k hb
   split at hL
   ·rename_i hc;cases hL;exact⟨hc.1,.inl ⟨j,k,hb,hc.2,rfl⟩⟩
   ·cases hL
  ·rename_i t k hb
   split at hL
   ·rename_i x hx
    split at hL
    ·rename_i hc
     cases hL
     have h1:=vbt hx
     have h2:=vbX hx
     simp only[vae,vaY]at h2
     exact⟨hc,.inr ⟨x,h1,by rw[hb,h2.1,h2.2],by rw[h2.2]⟩⟩
    ·cases hL
   ·cases hL
  ·cases hL
 have hpre:SR P ⟨E.GE,Γ,w,cj bsC (dM ρ oa Γ ow)⟩ Γ bsC (dM ρ oa Γ ow) w vs ⟨argsC,Hc,oa.map λx=>((x.i,x.k),x.e)⟩:={
  wi:=h.wi
  sz:=by simpa[hal]using hl
  tm:=λt q v hq hv'=>by
   have ht:=ag hq
   have hp:=vaa (l:=args) (i:=t) (by rw[hal];exact ht)
   exact(ha t _ q hp hq).to hbb (hv t _ v hp hv')
  bl:=by simp[bsC,hH.len]
  bx:=λi b Bc hib hBc=>by
   obtain⟨j,hij,hjb⟩:=hbc hib
   obtain⟨B,Bc',hB,hBc',hx⟩:=hH.box i j hij
   rw[hBc]at hBc';cases hBc'
   obtain⟨k1,k2,k3⟩:=h.bx j b B hjb hB
   exact⟨k1,k2,hx.to hbb k3⟩
  inj:=λi j b hi hj=>by
   obtain⟨x,hx,hxb⟩:=hbc hi
   obtain⟨y,hy,hyb⟩:=hbc hj
   have:=h.inj x y b hxb hyb
   subst this
   rw[<-nJ hn hx,nJ hn hy]
  bn:=λi b hb=>.inl (.inl ⟨i,hb⟩)
  on:=λb L hL=>by
   refine⟨?_,.inl (.inr (by rw[hL];simp))⟩
   rcases(hcow hL).2 with⟨j,k,hb,_⟩|⟨x,_,hb,_⟩<;>exact(h.on b _ hb).1
  ot:=λt k e he=>by
   simp only[vah,Prod.mk.injEq]at he
   obtain⟨x,hx,⟨rfl,rfl⟩,rfl⟩:=he
   rcases ho1 x hx with⟨hn1,hn2⟩|⟨ht1,ht2⟩
   ·exact⟨_,.slice none 0 0,hn1,by rw[hn2];rfl,⟨0,[],World.ownsRow_nil _ _ _ _,λb hb=>by simp[Value.ownBlock]at hb⟩,λb hb=>by simp[Value.ownBlock]at hb⟩
   obtain⟨u,v',h1,h2,h3,h4⟩:=h.ot _ _ _ ht1
   refine⟨u,v',ht2.trans h1,h2,h3,λb hb=>?_⟩
   have hg:(Γ b).isSome:=by obtain⟨n,xs,_,o2⟩:=h3;rw[o2 b hb];rfl
   unfold dM
   rw[h4 b hb]
   simp only
   cases hf:oa.find? λy=>y.t==x.t&&y.k==x.k with
   |none=>
    have:=vcM.1 hf x hx
    simp at this
   |some y=>
    have q1:=vbt hf
    have q2:=vbX hf
    simp only[vae,vaY]at q2
    simp only[vaA hg,ho3 y q1 x hx q2.1 q2.2]
  ob:=λi k e cs own b hB hk hb=>by
   obtain⟨j,hij,hjb⟩:=hbc hb
   obtain⟨B,Bc',hB',hBc',hx⟩:=hH.box i j hij
   rw[hB]at hBc';cases hBc'
   cases B with
   |cells cs' own'=>
    obtain⟨rfl,_,_⟩:=hx
    obtain⟨v,k1,k2,k3⟩:=h.ob j k e cs' own' b hB' hk hjb
    refine⟨v,k1,k2,λb' hb'=>?_⟩
    have hg:(Γ b').isSome:=by obtain⟨n,xs,_,o2⟩:=k2;rw[o2 b' hb'];rfl
    simp only[dM,k3 b' hb']
    rw[vaA ⟨hg,vaq hij⟩,nJ hn hij]
   |map es=>simp[fy]at hx
   |dead=>simp[fy]at hx
  gl:=λg cs hg=>(h.gl g cs hg).restrict (n:=0) (by simp only[PVal.cl];exact h.gc g cs hg) (λi b hi _=>absurd hi (va8 _))
  gc:=h.gc
  gx:=λg cs hg=>by
   obtain⟨k1,k2,k3,k4⟩:=h.gnow hg
   refine⟨k1,λhT=>?_,k4⟩
   rcases hT with⟨i,hi⟩|hT
   ·obtain⟨j,_,hjb⟩:=hbc hi
    exact k2 j g hjb rfl
   ·cases hL:dM ρ oa Γ ow g with
    |none=>exact hT hL
    |some L=>
     rcases(hcow hL).2 with⟨j,k,hk',_⟩|⟨x,_,hk',_⟩<;>(rw[k3]at hk';cases hk')
  step:=.refl _ _ _ _}
 refine(hC.2 Γ bsC _ w vs hpre).mono λe w' he=>?_
 obtain⟨v,Γ',owC,rfl,hS⟩:=he
 have hle:Γ.Le w Γ' w':=hS.step.le
 have hTE:∀b,cj bsC (dM ρ oa Γ ow) b->E.T b\/E.w.heap.size<=b:=by
  intro b hb
  rcases hb with⟨i,hi⟩|hb
  ·obtain⟨j,_,hjb⟩:=hbc hi
   exact h.bn j b hjb
  ·cases hL:dM ρ oa Γ ow b with
   |none=>exact absurd hL hb
   |some L=>
    rcases(hcow hL).2 with⟨j,k,hk,_⟩|⟨x,_,hk,_⟩<;>exact(h.on b _ hk).2
 have hkeep:∀b,b<w.heap.size->¬cj bsC (dM ρ oa Γ ow) b->w'.heap[b]? =w.heap[b]?/\Γ' b=Γ b:=λb hb hT=>hS.step.keep b hb hT
 have hnotT_own:∀{b L},ow b=some L->(Γ b).isSome->(∀j k,L=.box j k->j∉ρ)->(∀x∈oa,L≠.tmp x.t x.k)->¬cj bsC (dM ρ oa Γ ow) b:=by
  intro b L hL hg hne hne2 hT
  rcases hT with⟨i,hi⟩|hT
  ·obtain⟨j,hij,hjb⟩:=hbc hi
   obtain⟨B,_,hB,_⟩:=hH.box i j hij
   rw[(h.bx j b B hjb hB).1]at hg;cases hg
  ·cases hL':dM ρ oa Γ ow b with
   |none=>exact hT hL'
   | some L' =>
    rcases(hcow hL').2 with⟨j,k,hk,hj,_⟩|⟨x,hx,hk,_⟩
    ·rw[hL]at hk;cases hk
     exact hne j k rfl hj
    ·rw[hL]at hk;cases hk
     exact hne2 x hx rfl
 have hnotT_box:∀{j b:Nat},bs[j]? =some (some b)->j∉ρ->¬cj bsC (dM ρ oa Γ ow) b:=by
  intro j b hjb hj hT
  rcases hT with⟨i,hi⟩|hT
  ·obtain⟨j',hij,hjb'⟩:=hbc hi
   have:=h.inj _ _ _ hjb hjb'
   subst this
   exact hj (vaq hij)
  ·cases hL':dM ρ oa Γ ow b with
   |none=>exact hT hL'
   |some L'=>
    have hg:=(hcow hL').1
    have hjl:j<st.boxes.length:=by rw[<-h.bl];exact ag hjb
    rw[(h.bx j b _ hjb (vaa hjl)).1]at hg;cases hg
 have hold:∀{b L},ow b=some L->(Γ b).isSome->(∀j k,L=.box j k->j∉ρ)->(∀x∈oa,L≠.tmp x.t x.k)->nI ρ oa d owC ow b=some L:=by
  intro b L hL hg hne hne2
  have hT:=hnotT_own hL hg hne hne2
  have hnone:owC b=none:=by
   cases hx:owC b with
   |none=>rfl
   | some L' =>
    obtain⟨_,k2⟩:=hS.on b L' hx
    rcases k2 with k2|k2
    ·exact absurd k2 hT
    ·have:=(h.on b L hL).1
     exact absurd k2 (vci.2 this)
  unfold nI
  rw[hnone]
  simp only[hL]
  cases L with
  |tmp t k=>
   simp only
   rw[vaz]
   intro hx
   obtain⟨x,hx1,hx2⟩:=vcS.1 hx
   simp only[vae,vaY]at hx2
   exact hne2 x hx1 (by rw[hx2.1,hx2.2])
  |box j k=>simp only;rw[vaz (hne j k rfl)]
 have howned:∀{v:Value} {e:TypeId} {b:Nat},cR P Γ w v e->v.ownBlock=some b->(Γ b).isSome:=by
  intro v e b ho hb
  obtain⟨n,xs,_,o2⟩:=ho
  rw[o2 b hb];rfl
 have hrv:VR Γ' bs w' r v:=hr.from hbb (hS.tm 0 rc v rfl rfl)
 refine⟨v,Γ',nI ρ oa d owC ow,rfl,?_,hle⟩
 exact{
  wi:=hS.wi
  sz:=by simp[h.sz]
  tm:=λt q u hq hu=>by
   simp only[vbh]at hq
   rw[vbc]at hu
   by_cases hdt:d=t
   ·subst hdt
    simp only[if_true]at hq hu
    split at hu
    ·split at hq
     ·cases hu;cases hq;exact hrv
     ·cases hq
    ·rename_i hnd;exact absurd hd hnd
   ·simp only[hdt,if_false]at hq hu
    exact(h.tm t q u hq hu).mono hle (.refl _)
  bl:=by simp[h.bl,hlen]
  bx:=λj b B hjb hB=>by
   by_cases hj:j∈ρ
   ·obtain⟨i,hij⟩:=va7.1 hj
    obtain⟨B',Bc,hB',hBc,hx⟩:=hH'.box i j hij
    rw[hB]at hB';cases hB'
    obtain⟨k1,k2,k3⟩:=hS.bx i b Bc ((hbb i j hij).trans hjb) hBc
    exact⟨k1,k2,hx.from hbb k3⟩
   ·have hB0:st.boxes[j]? =some B:=(hsame j hj).symm.trans hB
    obtain⟨k1,k2,k3⟩:=h.bx j b B hjb hB0
    obtain⟨q1,q2⟩:=hkeep b k2 (hnotT_box hjb hj)
    exact⟨q2.trans k1,vaF k2 hS.step.size,k3.mono hle (.refl _) q1⟩
  inj:=h.inj
  bn:=h.bn
  on:=λb L hL=>by
   unfold nI at hL
   split at hL
   ·rename_i i k hb
    obtain⟨k1,k2⟩:=hS.on b _ hb
    exact⟨k1,k2.elim (hTE b) (λhx=>.inr (vav h.step.size hx))⟩
   ·rename_i t k hb
    obtain⟨k1,k2⟩:=hS.on b _ hb
    exact⟨k1,k2.elim (hTE b) (λhx=>.inr (vav h.step.size hx))⟩
   ·have hsz:=hS.step.size
    cases hb:ow b with
    |none=>rw[hb]at hL;cases hL
    |some L'=>exact⟨vaF (h.on b _ hb).1 hsz,(h.on b _ hb).2⟩
  ot:=λt k e he=>by
   rcases vaJ.1 he with he|he
   ·simp only[vah,Prod.mk.injEq]at he
    obtain⟨⟨k',e'⟩,hm,⟨rfl,rfl⟩,rfl⟩:=he
    obtain⟨u,v',h1,h2,h3,h4⟩:=hS.ot 0 k' e' (vah.2 ⟨(k',e'),hm,rfl⟩)
    simp at h1;subst h1
    refine⟨v,v',by simp[hd],h2,h3,λb hb=>?_⟩
    simp only[nI,h4 b hb]
   ·obtain⟨he,htd⟩:=ck he
    obtain⟨he,hne0⟩:=bk he
    have hne2:∀x∈oa,jx.tmp t k≠.tmp x.t x.k:=λx hx e=>by
     cases e
     simp only[va4,vby,vaY]at hne0
     exact hne0 x hx rfl
    obtain⟨u,v',h1,h2,h3,h4⟩:=h.ot t k e he
    have hq:∀b,v'.ownBlock=some b->¬cj bsC (dM ρ oa Γ ow) b:=λb hb=>hnotT_own (h4 b hb) (howned h3 hb) (λj k hx=>by cases hx) hne2
    exact⟨u,v',by rw[vau (λe=>htd e.symm)];exact h1,h2,h3.same λb hb=>hkeep b (h3.lt hb) (hq b hb),λb hb=>hold (h4 b hb) (howned h3 hb) (λj k hx=>by cases hx) hne2⟩
  ob:=λj k e cs own b hB hk hjb=>by
   by_cases hj:j∈ρ
   ·obtain⟨i,hij⟩:=va7.1 hj
    obtain⟨B',Bc,hB',hBc,hx⟩:=hH'.box i j hij
    rw[hB]at hB';cases hB'
    cases Bc with
    |cells cs' own'=>
     obtain⟨rfl,_,_⟩:=hx
     obtain⟨v',k1,k2,k3⟩:=hS.ob i k e cs' own b hBc hk ((hbb i j hij).trans hjb)
     refine⟨v',k1,k2,λb' hb'=>?_⟩
     have hgd:ρ.getD i 0=j:=by rw[van,hij];rfl
     simp only[nI,k3 b' hb',hgd]
    |map es=>simp[fy]at hx
    |dead=>simp[fy]at hx
   ·have hB0:st.boxes[j]? =some (.cells cs own):=(hsame j hj).symm.trans hB
    obtain⟨v',k1,k2,k3⟩:=h.ob j k e cs own b hB0 hk hjb
    obtain⟨_,hlt,_⟩:=h.bx j b _ hjb hB0
    have hne:∀j' k',jx.box j k=.box j' k'->j'∉ρ:=λj' k' hx=>by cases hx;exact hj
    have hne2:∀x∈oa,jx.box j k≠.tmp x.t x.k:=λx _ e=>by cases e
    exact⟨v',(bN (hkeep b hlt (hnotT_box hjb hj)).1 k).trans k1,k2.same λb' hb'=>hkeep b' (k2.lt hb') (hnotT_own (k3 b' hb') (howned k2 hb') hne hne2),λb' hb'=>hold (k3 b' hb') (howned k2 hb') hne hne2⟩
  gl:=λg cs hg=>(h.gl g cs hg).mono hle (.refl _)
  gc:=h.gc
  gx:=h.gx
  step:={
   os:=hS.step.os.trans h.step.os
   tape:=hS.step.tape.trans h.step.tape
   output:=hS.step.output.trans h.step.output
   size:=vav h.step.size hS.step.size
   drawn:=vav h.step.drawn hS.step.drawn
   keep:=λb hb hT=>by
    have hlt:b<w.heap.size:=vaF hb h.step.size
    have hnT:¬cj bsC (dM ρ oa Γ ow) b:=λhx=>(hTE b hx).elim hT (λhx=>absurd hx (vci.2 hb))
    obtain⟨k1,k2⟩:=h.step.keep b hb hT
    obtain⟨q1,q2⟩:=hkeep b hlt hnT
    exact⟨q1.trans k1,q2.trans k2⟩
   le:=h.step.le.trans hle}}
end
end Go.Proofs.YtjddnhkahpfhdaaGreatDoor
