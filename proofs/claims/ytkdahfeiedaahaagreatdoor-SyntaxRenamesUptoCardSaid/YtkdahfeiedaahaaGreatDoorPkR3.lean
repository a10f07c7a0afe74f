/- PROVED: a part of the proof. Conditions: none. -/
import Derived.Test.YtkdahfeiedaahaaGreatDoorPkR2
import Derived.Deep.LoopGhost
import Derived.Below
import Derived.Laws.MakeOwn
set_option linter.unusedSimpArgs false
set_option linter.unusedVariables false
noncomputable section
namespace Go.Proofs.YtkdahfeiedaahaaGreatDoor
open Go
def DX(P:Program)(GE:List (Nat×List PVal))(fv:PVal)(args:List PVal)(H:List aA)(K:PVal->List (Nat×TypeId)->List aA->Prop):Prop:=
 match fv with
 | .func (.func g) first cap =>
  (gZ 0 (first++args++cap)/\∃r ro,C P GE g (first++args++cap) [] [] r ro []/\K r ro H)\/
  (∃(ρ:List Nat) (argsC:List PVal) (Hc:List aA) (rc:PVal) (ro:List (Nat×TypeId)) (Hc' H':List aA) (r:PVal),ρ.Nodup/\C P GE g argsC [] Hc rc ro Hc'/\zr ρ H Hc/\zr ρ H' Hc'/\
   H'.length=H.length/\(∀j:Nat,j∉ρ->H'[j]? =H[j]?)/\tQ ρ r rc/\(first++args++cap).length=argsC.length/\
   (∀(i:Nat) p q,(first++args++cap)[i]? =some p->argsC[i]? =some q->tQ ρ p q)/\K r ro H')
 |_=>False
def Nj(P:Program)(GE:List (Nat×List PVal))(op:Op)(id:Nat)(v:Operand->PVal)(H:List aA)(K:PVal->List (Nat×TypeId)->List aA->Prop):Prop:=
 match op with
 |.call {callee:=.value f,args,..}=>DX P GE (v f) (args.toList.map v) H K
 |op=>match oT P op id v H with
  |some (p,H')=>K p [] H'
  |none=>False
def vY(st:aB)(dst:Option Tmp)(p:PVal)(ro:List (Nat×TypeId))(H:List aA):aB:=
 match dst with
 |some d=>{tmps:=st.tmps.set d p,boxes:=H,own:=(ro.map λx=>((d,x.1),x.2))++bu d st.own}
 |none=>{st with boxes:=H}
def rC(P:Program)(t:TypeId)(v:Value):Option TypeId:=
 match v,P.underlying t with
 |.slice none 0 0,some (.slice e)=>some e
 |_,_=>none
def lL(o:Oper)(n:Nat):Bool:=
 match o.op with
 |.call {callee:=.value _,..}=>o.dst.any λd=>decide (d<n)
 |_=>true
def IA(P:Program)(GE:List (Nat×List PVal))(A:List Nat)(o:Oper)(id:Nat)(K:aB->Prop)(st:aB):Prop:=
 let plain:=lL o st.tmps.length=true/\Nj P GE o.op id (opv GE st.tmps) st.boxes λp ro H=>K (vY st o.dst p ro H)
 match o.op,o.dst with
 |.assign (.tmp t),some d=>d<st.tmps.length/\K {st with tmps:=st.tmps.set d (st.tmps.getD t .undef),own:=gi d (λx=>if x.1=t then(d,x.2)else x) st.own}
 |.move (.tmp t),some d=>
  if d∈A then d<st.tmps.length/\K {st with tmps:=st.tmps.set d (st.tmps.getD t .undef),own:=gi d (λx=>if x.1=t then(d,x.2)else x) st.own}else plain
 |.assign (.const v),some d=>match rC P o.type v with
  |some e=>d<st.tmps.length/\K {st with tmps:=st.tmps.set d (.slice []),own:=((d,0),e)::bu d st.own}
  |none=>plain
 |.move (.const v),some d=>match rC P o.type v with
  |some e=>d<st.tmps.length/\K {st with tmps:=st.tmps.set d (.slice []),own:=((d,0),e)::bu d st.own}
  |none=>plain
 |.extract (.tmp t) i,some d=>match nS (st.tmps.getD t .undef) i with
  |some p=>d<st.tmps.length/\K {st with tmps:=st.tmps.set d p,own:=gi d (λx=>if x=(t,i)then(d,0)else x) st.own}
  |none=>False
 |.buildSlice T len parts,some d=>match eV P T len (parts.toList.map λx=>(x.1,opv GE st.tmps x.2)),P.underlying T with
  |some p,some (.slice e)=>d<st.tmps.length/\K {st with tmps:=st.tmps.set d p,own:=((d,0),e)::bu d st.own}
  |_,_=>False
 | .call { callee := .builtin .append,args:=⟨[.tmp t,y]⟩,argTypes:=⟨[T,T']⟩ },some d => match P.underlying T,st.tmps.getD t .undef,opv GE st.tmps y with
  |some (.slice e),.slice es,.slice ns=>match hO P T es ns with
   |some p=>T=T'/\d<st.tmps.length/\((t,0),e)∈st.own/\K {st with tmps:=st.tmps.set d p,own:=((d,0),e)::bu d (st.own.filter λx=>x.1 !=(t,0))}
   |none=>False
  |_,_,_=>False
 | .load T x,some d =>
  if d∈A then match opv GE st.tmps x,P.underlying T with
   | .bptr i off,some (.slice e) => match st.boxes[i]? with
    |some (.cells cs own)=>match cs[off]? with
     |some p=>d<st.tmps.length/\(off,e)∈own/\K {tmps:=st.tmps.set d p,boxes:=st.boxes.set i (.cells cs (own.filter λx=>x.1 !=off)),own:=((d,0),e)::bu d st.own}
     |none=>False
    |_=>False
   |_,_=>False
  else plain
 | .store T x (.tmp t),_ => match st.own.find? (fun y => y.1 == (t,0)),opv GE st.tmps x,di P T (opv GE st.tmps x) (st.tmps.getD t .undef) st.boxes with
  |some (_,e),.bptr i off,some H=>match H[i]?,(st.tmps.getD t .undef).one with
   |some (.cells cs own),true=>K (vY {st with own:=st.own.filter λx=>x.1 !=(t,0)} o.dst (.val undef) [] (H.set i (.cells cs ((off,e)::own))))
   |_,_=>plain
  |_,_,_=>plain
 |_,_=>plain
section
variable{P:Program}{E:lh}{Γ:aP}{bs:be}{ow:Nat->Option iL}{w:World}{a:Act}{st:aB}
def fP(P:Program)(E:lh)(bs:be)(id:Nat)(mk:Bool)(ds:List Deferred)(K:aB->Prop)(a:Act)(w:World):Prop:=
 a.defers=ds/\∃Γ bs' ow st,SR P E Γ bs' ow w a.tmps st/\K st/\(bs'=bs\/(mk=true/\∃b,bs'=bs.set id (some b)))
theorem SR.putv_nil(h:SR P E Γ bs ow w a.tmps st){p:PVal}{v:Value}(hv:VR Γ bs w p v)(dst:Option Tmp){H:List aA}(hH:H=st.boxes):SR P E Γ bs ow w (a.put dst v).tmps (vY st dst p [] H):=by
 subst hH
 cases dst with
 |none=>exact h
 |some d=>exact h.set hv
theorem bC(a:Act)(dst:Option Tmp)(v:Value):(a.put dst v).defers=a.defers:=by cases dst<;>rfl
theorem ya{n:Nat}{l r:List PVal}:gZ n (l++r)↔gZ n l/\gZ n r:=by
 induction l with
 |nil=>simp[gZ]
 |cons p l ih=>simp only[va8,gZ,ih];exact⟨λh=>⟨⟨h.1,h.2.1⟩,h.2.2⟩,λh=>⟨h.1.1,h.1.2,h.2⟩⟩
theorem Bw{l r:List PVal}{x y:Array Value}(hl:x.size=l.length)(h:∀(i:Nat) p v,l[i]? =some p->x[i]? =some v->VR Γ bs w p v)(h':∀(i:Nat) p v,r[i]? =some p->y[i]? =some v->VR Γ bs w p v)
  (i:Nat) (p:PVal) (v:Value) (hp:(l++r)[i]? =some p) (hv:(x++y)[i]? =some v):VR Γ bs w p v:=by
 by_cases hi:i<l.length
 ·rw[vac hi]at hp
  rw[vaX (by omega)]at hv
  exact h i p v hp hv
 ·rw[vaf (by omega)]at hp
  rw[vco (by omega),hl]at hv
  exact h' _ p v hp hv
theorem PR(h:SR P E Γ bs ow w a.tmps st){o:Oper}{f:Operand}{args:Array Operand}{tys:Array TypeId}(ho:o.op=.call {callee:=.value f,args,argTypes:=tys}){d:Nat}(hdst:o.dst=some d)(hd:d<st.tmps.length)
  {K:PVal->List (Nat×TypeId)->List aA->Prop} (hp:DX P E.GE (opv E.GE st.tmps f) (args.toList.map (opv E.GE st.tmps)) st.boxes K) (next:Act->World->Prop) (Q:Exit->Act->World->Prop)
  (hn:∀v Γ' ow' w' p ro H,K p ro H->SR P E Γ' bs ow' w' (a.put o.dst v).tmps (vY st o.dst p ro H)->next (a.put o.dst v) w'):o.wp P a w next Q:=by
 have hρ:∀x,VR Γ bs w (opv E.GE st.tmps x) (a.eval x):=λx=>h.opv a.defers x
 unfold DX at hp
 have hf:=hρ f
 split at hp
 case h_2=>exact hp.elim
 rename_i g first cap hfv
 rw[hfv]at hf
 generalize hvf:a.eval f=vf at hf
 cases hf with
 |func _ _ _ fs cs hl hl' h1 h2=>
 have hargs:(fs++args.map a.eval++cs).size=(first++args.toList.map (opv E.GE st.tmps)++cap).length:=by simp[hl,hl']
 have hvr:∀(i:Nat) p v,(first++args.toList.map (opv E.GE st.tmps)++cap)[i]? =some p->(fs++args.map a.eval++cs)[i]? =some v->VR Γ bs w p v:=by
  refine Bw (by simp[hl]) (Bw hl h1 λi p v hp hv=>?_) h2
  exact yg hρ args.toList i p v hp (by simpa using hv)
 have hrun:∀hcall:(∀vs w,(callFunc g vs).run P w=.ok (.enter g vs) w),(execOp a.eval o).run P w=.ok (.enter g (fs++args.map a.eval++cs)) w:=by
  intro hcall
  simp[execOp,ho,resolve,hvf,Deferred.ofValue,invoke,hcall]
 have hds:d<a.tmps.size:=by rw[h.sz];exact hd
 unfold Oper.wp
 rcases hp with⟨hcl,r,ro,hC,hK⟩|⟨ρ,argsC,Hc,rc,ro,Hc',H',r,hnd,hC,hH,hH',hlen,hsame,hr,hal,ha,hK⟩
 ·rw[hrun hC.1]
  rw[Oper.upon_enter]
  refine(Uj h hds hC hargs hvr hcl).mono λe w' he=>?_
  obtain⟨v,Γ',ow',rfl,hS,_⟩:=he
  refine hn v Γ' ow' w' r ro st.boxes hK ?_
  rw[hdst];exact hS
 ·rw[hrun hC.1]
  rw[Oper.upon_enter]
  refine(Sa h hds hnd hC hH hH' hlen hsame hr hal ha hargs hvr).mono λe w' he=>?_
  obtain⟨v,Γ',ow',rfl,hS,_⟩:=he
  refine hn v Γ' ow' w' r ro H' hK ?_
  rw[hdst];exact hS
theorem RF{o:Oper}{next:Act->World->Prop}{Q:Exit->Act->World->Prop}{r:Next}{v:Value}{w':World}(hr:r=.value v\/(r=.skip/\v=undef))(h:next (a.put o.dst v) w'):o.upon P a next Q (.ok r w'):=by
 rcases hr with rfl|⟨rfl,rfl⟩
 ·exact h
 ·exact h
theorem UR(h:SR P E Γ bs ow w a.tmps st){o:Oper}{id:Nat}(hid:aE o.op=true->bs[id]? =some none){K:PVal->List (Nat×TypeId)->List aA->Prop}(hp:Nj P E.GE o.op id (opv E.GE st.tmps) st.boxes K)
  (next:Act->World->Prop) (Q:Exit->Act->World->Prop)
  (hdst:∀f args tys,o.op=.call {callee:=.value f,args,argTypes:=tys}->∃d,o.dst=some d/\d<st.tmps.length)
  (hn:∀v Γ' bs' ow' w' p ro H,K p ro H->SR P E Γ' bs' ow' w' (a.put o.dst v).tmps (vY st o.dst p ro H)->(bs'=bs\/(aE o.op=true/\∃b,bs'=bs.set id (some b)))->next (a.put o.dst v) w'):o.wp P a w next Q:=by
 unfold Nj at hp
 split at hp
 ·rename_i f args tys ho
  obtain⟨d,hd,hdl⟩:=hdst f args tys ho
  exact PR h ho hd hdl hp next Q λv Γ' ow' w' p ro H hK hS=>hn v Γ' bs ow' w' p ro H hK hS (.inl rfl)
 ·split at hp
  ·rename_i p H he
   obtain⟨r,v,w',Γ',bs',h1,h2,h3,h4,h5,h6,h7⟩:=N6 h a.defers hid he
   unfold Oper.wp
   rw[show(execOp a.eval o).run P w=.ok r w' from h1]
   refine RF h2 (hn v Γ' bs' ow w' p [] H hp ?_ ?_)
   ·cases hd:o.dst with
    |none=>exact h3
    |some d=>exact h3.set h4
   ·rcases h6 with h6|⟨hm,h6⟩
    ·exact .inl h6
    ·exact .inr ⟨hm,_,h6⟩
  ·exact hp.elim
theorem Qy{o:Oper}{n:Nat}(h:lL o n=true)(f:Operand)(args:Array Operand)(tys:Array TypeId)(ho:o.op=.call {callee:=.value f,args,argTypes:=tys}):∃d,o.dst=some d/\d<n:=by
 unfold lL at h
 rw[ho]at h
 cases hd:o.dst with
 |none=>rw[hd]at h;cases h
 |some d=>rw[hd]at h;exact⟨d,rfl,by simpa using h⟩
theorem fP.of{o:Oper}{id:Nat}{K:aB->Prop}(h:SR P E Γ bs ow w a.tmps st)(hid:aE o.op=true->bs[id]? =some none)(hc:lL o st.tmps.length=true)
  (hp:Nj P E.GE o.op id (opv E.GE st.tmps) st.boxes λp ro H=>K (vY st o.dst p ro H)) (Q:Exit->Act->World->Prop):
  o.wp P a w (fP P E bs id (aE o.op) a.defers K) Q:=
 UR h hid hp _ Q (Qy hc) λ_ Γ' bs' ow' _ _ _ _ hK hS hb=>⟨bC _ _ _,Γ',bs',ow',_,hS,hK,hb⟩
theorem yD(h:SR P E Γ bs ow w a.tmps st){t:Nat}{v:Value}(ht:a.tmps[t]? =some v):VR Γ bs w (st.tmps.getD t .undef) v:=by
 have hlt:t<st.tmps.length:=by rw[<-h.sz];exact(vaj.1 ht).1
 have:=h.tm t _ v (vab hlt) ht
 rwa[vaq,vab hlt]
theorem dA{t:Nat}{v:Value}(ht:a.tmps[t]? =some v):a.eval (.tmp t)=v:=by
 show a.tmps.getD t undef=v
 rw[vaF,ht];rfl
theorem DR(h:SR P E Γ bs ow w a.tmps st){o:Oper}{id t d:Nat}{K:aB->Prop}(ho:o.op=.assign (.tmp t)\/o.op=.move (.tmp t))(hdst:o.dst=some d)(hd:d<st.tmps.length)
  (hK:K {st with tmps:=st.tmps.set d (st.tmps.getD t .undef),own:=gi d (λx=>if x.1=t then(d,x.2)else x) st.own}) (Q:Exit->Act->World->Prop):
  o.wp P a w (fP P E bs id (aE o.op) a.defers K) Q:=by
 unfold Oper.wp
 have hrun:(execOp a.eval o).run P w=.ok (.value (a.eval (.tmp t))) w:=by rcases ho with ho|ho<;>simp[execOp,ho]
 rw[hrun,Oper.upon_value]
 have hv:VR Γ bs w (st.tmps.getD t .undef) (a.eval (.tmp t)):=h.opv a.defers (.tmp t)
 have:=h.setRen (d:=d) (p:=st.tmps.getD t .undef) hv (λx=>if x.1=t then(d,x.2)else x) (by rw[h.sz];exact hd) λt' k' e' _ ht'=>by
  by_cases hx:t'=t
  ·subst hx
   exact .inr ⟨k',by simp,λu v' hu hv' _=>by rw[dA hu];exact hv'⟩
  ·exact .inl (by simp[hx])
 have hput:∀v,(a.put o.dst v).tmps=a.tmps.setIfInBounds d v:=λv=>by rw[hdst];rfl
 rw[<-hput]at this
 exact⟨bC _ _ _,Γ,bs,_,_,this,hK,.inl rfl⟩
theorem HA(h:SR P E Γ bs ow w a.tmps st){o:Oper}{id d:Nat}{e:TypeId}{v:Value}{K:aB->Prop}(ho:o.op=.assign (.const v)\/o.op=.move (.const v))(hdst:o.dst=some d)(hd:d<st.tmps.length)
  (hn:rC P o.type v=some e) (hK:K {st with tmps:=st.tmps.set d (.slice []),own:=((d,0),e)::bu d st.own}) (Q:Exit->Act->World->Prop):
  o.wp P a w (fP P E bs id (aE o.op) a.defers K) Q:=by
 unfold Oper.wp
 have hrun:(execOp a.eval o).run P w=.ok (.value v) w:=by rcases ho with ho|ho<;>simp[execOp,ho,Act.eval]
 rw[hrun,Oper.upon_value]
 have hv:v=.slice none 0 0:=by
  unfold rC at hn
  split at hn
  ·rfl
  ·cases hn
 subst hv
 have h1:=h.set (d:=d) (p:=.slice []) (v:=.slice none 0 0) .sliceNil
 have hds:d<a.tmps.size:=by rw[h.sz];exact hd
 have h2:=h1.addOwn (d:=d) (k:=0) (e:=e) (u:=.slice none 0 0) (v:=.slice none 0 0) (by simp[hds]) rfl ⟨0,[],World.ownsRow_nil _ _ _ _,λb hb=>by simp[Value.ownBlock]at hb⟩ (λb hb=>by simp[Value.ownBlock]at hb)
 have hput:∀v,(a.put o.dst v).tmps=a.tmps.setIfInBounds d v:=λv=>by rw[hdst];rfl
 rw[<-hput]at h2
 exact⟨bC _ _ _,Γ,bs,_,_,h2,hK,.inl rfl⟩
theorem CS(h:SR P E Γ bs ow w a.tmps st){o:Oper}{id t i d:Nat}{p:PVal}{K:aB->Prop}(ho:o.op=.extract (.tmp t) i)(hdst:o.dst=some d)(hd:d<st.tmps.length)
  (hp:nS (st.tmps.getD t .undef) i=some p)
  (hK:K {st with tmps:=st.tmps.set d p,own:=gi d (λx=>if x=(t,i)then(d,0)else x) st.own}) (Q:Exit->Act->World->Prop):
  o.wp P a w (fP P E bs id (aE o.op) a.defers K) Q:=by
 unfold Oper.wp
 obtain⟨v,hr,hv⟩:=FF (P:=P) (h.opv a.defers (.tmp t)) hp
 have hrun:(execOp a.eval o).run P w=.ok (.value v) w:=by simp[execOp,ho,hr]
 rw[hrun,Oper.upon_value]
 have htup:∃vs,a.eval (.tmp t)=.tuple vs/\vs[i]? =some v:=by
  have hx:(Instr.extract (a.eval (.tmp t)) i).run P w=.ok v w:=hr
  unfold Instr.extract at hx
  split at hx
  ·rename_i vs he
   split at hx
   ·rename_i u hu
    simp at hx;subst hx
    exact⟨vs,he,hu⟩
   ·simp at hx
  ·simp at hx
 obtain⟨vs,htu,hvi⟩:=htup
 have:=h.setRen (d:=d) (p:=p) hv (λx=>if x=(t,i)then(d,0)else x) (by rw[h.sz];exact hd) λt' k' e' _ ht'=>by
  by_cases hx:(t',k')=(t,i)
  ·cases hx
   refine .inr ⟨0,by simp,λu v' hu hv' ho'=>?_⟩
   rw[dA hu]at htu
   subst htu
   have hvv:v=v':=by
    have:vs[i]? =some v':=hv'
    rw[hvi]at this;cases this;rfl
   subst hvv
   obtain⟨n,xs,⟨_,ho'⟩,_⟩:=ho'
   rcases ho' with⟨rfl,_⟩|⟨g,cap,cur,rfl,_⟩<;>rfl
  ·exact .inl (by simp[hx])
 have hput:∀v,(a.put o.dst v).tmps=a.tmps.setIfInBounds d v:=λv=>by rw[hdst];rfl
 rw[<-hput]at this
 exact⟨bC _ _ _,Γ,bs,_,_,this,hK,.inl rfl⟩
theorem wu(h:SR P E Γ bs ow w a.tmps st){o:Oper}{id len d:Nat}{T e:TypeId}{parts:Array (Nat×Operand)}{p:PVal}{K:aB->Prop}(ho:o.op=.buildSlice T len parts)(hdst:o.dst=some d)(hd:d<st.tmps.length)
  (hT:P.underlying T=some (.slice e)) (hp:eV P T len (parts.toList.map λx=>(x.1,opv E.GE st.tmps x.2))=some p)
  (hK:K {st with tmps:=st.tmps.set d p,own:=((d,0),e)::bu d st.own}) (Q:Exit->Act->World->Prop):
  o.wp P a w (fP P E bs id (aE o.op) a.defers K) Q:=by
 have hρ:∀x,VR Γ bs w (opv E.GE st.tmps x) (a.eval x):=λx=>h.opv a.defers x
 obtain⟨k1,k2⟩:=wU hρ parts.toList
 obtain⟨v,w',Γ',h1,h2,h3,h4,h5,h6⟩:=yY h k1 k2 hp
 have hrun:(execOp a.eval o).run P w=.ok (.value v) w':=by
  have:(parts.map λx=>(x.1,a.eval x.2))=(parts.toList.map λx=>(x.1,a.eval x.2)).toArray:=by apply vbO;simp
  simp only[execOp,ho]
  rw[this]
  simp[h1]
 unfold Oper.wp
 rw[hrun,Oper.upon_value]
 have hds:d<a.tmps.size:=by rw[h.sz];exact hd
 have g1:=h2.set (d:=d) h4
 have g2:=g1.addOwn (d:=d) (k:=0) (e:=e) (u:=v) (v:=v) (by simp[hds]) (by
   obtain⟨n,xs,⟨_,ho'⟩,_⟩:=h5 e hT
   rcases ho' with⟨rfl,_⟩|⟨g,cap,cur,rfl,_⟩<;>rfl) (h5 e hT) (λb hb=>by
   have:=h6 b hb;subst this
   refine⟨?_,.inr h.step.size⟩
   cases hL:ow w.heap.size with
   |none=>rfl
   |some L=>exact absurd (h.on _ L hL).1 (vb1 _))
 have hput:∀v,(a.put o.dst v).tmps=a.tmps.setIfInBounds d v:=λv=>by rw[hdst];rfl
 rw[<-hput]at g2
 exact⟨bC _ _ _,Γ',bs,_,_,g2,hK,.inl rfl⟩
theorem fR.part{v:Value}{e:TypeId}(h:fR P Γ w v e):jU v 0=some v:=by
 obtain⟨n,xs,⟨_,ho⟩,_⟩:=h
 rcases ho with⟨rfl,_⟩|⟨g,cap,cur,rfl,_⟩<;>rfl
theorem FA{u v:Value}(hu:jU u 0=some v)(hs:∀vs,u≠.tuple vs)(ha:∀vs,u≠.agg vs):u=v:=by
 cases u<;>simp[jU]at hu<;>first|exact hu|(exact absurd rfl (hs _))|(exact absurd rfl (ha _))
theorem E1(h:SR P E Γ bs ow w a.tmps st){o:Oper}{id t d:Nat}{T e:TypeId}{y:Operand}{es ns:List (List PVal)}{p:PVal}{K:aB->Prop}(ho:o.op=.call {callee:=.builtin .append,args:=⟨[.tmp t,y]⟩,argTypes:=⟨[T,T]⟩})
  (hdst:o.dst=some d) (hd:d<st.tmps.length) (hT:P.underlying T=some (.slice e)) (het:st.tmps.getD t .undef=.slice es) (hen:opv E.GE st.tmps y=.slice ns) (hp:hO P T es ns=some p) (hmem:((t,0),e)∈st.own)
  (hK:K {st with tmps:=st.tmps.set d p,own:=((d,0),e)::bu d (st.own.filter λx=>x.1 !=(t,0))}) (Q:Exit->Act->World->Prop):
  o.wp P a w (fP P E bs id (aE o.op) a.defers K) Q:=by
 obtain⟨u,v,h1,h2,h3,h4⟩:=h.ot t 0 e hmem
 have hvt:=yD h h1
 rw[het]at hvt
 have huv:u=v:=FA h2 (λvs hx=>by subst hx;cases hvt) (λvs hx=>by subst hx;cases hvt)
 subst huv
 have hf:=h.freeT t 0
 have hy:VR Γ bs w (opv E.GE st.tmps y) (a.eval y):=h.opv a.defers y
 rw[hen]at hy
 obtain⟨v',w',Γ',r1,r2,r3,r4,r5,r6⟩:=Q8 (ty:=o.type) hf hT hvt hy h3 (λb hb=>⟨by simp[h4 b hb],(h.on b _ (h4 b hb)).2⟩) hp
 have hrun:(execOp a.eval o).run P w=.ok (.value v') w':=by
  simp[execOp,ho,resolve,invoke,builtin,dA h1,r1]
 unfold Oper.wp
 rw[hrun,Oper.upon_value]
 have hds:d<a.tmps.size:=by rw[h.sz];exact hd
 have g1:=r2.set (d:=d) r4
 have g2:=g1.addOwn (d:=d) (k:=0) (e:=e) (u:=v') (v:=v') (by simp[hds]) r5.part r5 r6
 have hput:∀v,(a.put o.dst v).tmps=a.tmps.setIfInBounds d v:=λv=>by rw[hdst];rfl
 rw[<-hput]at g2
 exact⟨bC _ _ _,Γ',bs,_,_,g2,hK,.inl rfl⟩
theorem CV(h:SR P E Γ bs ow w a.tmps st){o:Oper}{id i off d:Nat}{T e:TypeId}{x:Operand}{p:PVal}{cs:List PVal}{own:List (Nat×TypeId)}{K:aB->Prop}(ho:o.op=.load T x)
  (hdst:o.dst=some d) (hd:d<st.tmps.length) (hT:P.underlying T=some (.slice e)) (hx:opv E.GE st.tmps x=.bptr i off) (hB:st.boxes[i]? =some (.cells cs own)) (hp:cs[off]? =some p) (hmem:(off,e)∈own)
  (hK:K {tmps:=st.tmps.set d p,boxes:=st.boxes.set i (.cells cs (own.filter λx=>x.1 !=off)),own:=((d,0),e)::bu d st.own}) (Q:Exit->Act->World->Prop):
  o.wp P a w (fP P E bs id (aE o.op) a.defers K) Q:=by
 have hvx:VR Γ bs w (opv E.GE st.tmps x) (a.eval x):=h.opv a.defers x
 obtain⟨v,hr,hv⟩:=BW h hvx (t:=T) (p:=p) (by rw[hx];simp only[jx,hB,aY,hT];rw[List.head?_drop];exact hp)
 have hrun:(execOp a.eval o).run P w=.ok (.value v) w:=by simp[execOp,ho,hr]
 unfold Oper.wp
 rw[hrun,Oper.upon_value]
 rw[hx]at hvx
 generalize hve:a.eval x=vx at hvx hr
 cases hvx with
 |bptr _ _ b hb=>
 obtain⟨v',q1,q2,q3⟩:=h.ob i off e cs own b hB hmem hb
 have hvv:v=v':=by
  have:(loadVar T ⟨b,off,none⟩).run P w=.ok v w:=by simpa[Instr.loadAt,Instr.sureAddr]using hr
  simp[loadVar,isAgg,run_underlying hT,q1]at this
  exact this.symm
 subst hvv
 have hds:d<a.tmps.size:=by rw[h.sz];exact hd
 have g0:=h.freeB (j:=off) hB
 have g1:=g0.set (d:=d) hv
 have g2:=g1.addOwn (d:=d) (k:=0) (e:=e) (u:=v) (v:=v) (by simp[hds]) q2.part q2 (λb' hb'=>⟨by simp[q3 b' hb'],(h.on b' _ (q3 b' hb')).2⟩)
 have hput:∀v,(a.put o.dst v).tmps=a.tmps.setIfInBounds d v:=λv=>by rw[hdst];rfl
 rw[<-hput]at g2
 exact⟨bC _ _ _,Γ,bs,_,_,g2,hK,.inl rfl⟩
theorem AS(h:SR P E Γ bs ow w a.tmps st){o:Oper}{id i off t:Nat}{T e:TypeId}{x:Operand}{cs:List PVal}{own:List (Nat×TypeId)}{H:List aA}{K:aB->Prop}(ho:o.op=.store T x (.tmp t))
  (hx:opv E.GE st.tmps x=.bptr i off) (hp:di P T (opv E.GE st.tmps x) (st.tmps.getD t .undef) st.boxes=some H) (hB:H[i]? =some (.cells cs own)) (hone:(st.tmps.getD t .undef).one=true) (hmem:((t,0),e)∈st.own)
  (hK:K (vY {st with own:=st.own.filter λx=>x.1 !=(t,0)} o.dst (.val undef) [] (H.set i (.cells cs ((off,e)::own))))) (Q:Exit->Act->World->Prop):
  o.wp P a w (fP P E bs id (aE o.op) a.defers K) Q:=by
 obtain⟨u,v,h1,h2,h3,h4⟩:=h.ot t 0 e hmem
 have hvt:=yD h h1
 have hu1:=VR.one hvt hone
 have huv:u=v:=FA h2 (λvs hx=>by subst hx;cases hu1) (λvs hx=>by subst hx;cases hu1)
 subst huv
 have hvx:VR Γ bs w (opv E.GE st.tmps x) (a.eval x):=h.opv a.defers x
 have hf:=h.freeT t 0
 obtain⟨w',r1,r2,r3⟩:=L6 hf hvx hvt hp
 have hrun:(execOp a.eval o).run P w=.ok .skip w':=by simp[execOp,ho,dA h1,r1]
 unfold Oper.wp
 rw[hrun,Oper.upon_skip]
 rw[hx]at hvx
 generalize hve:a.eval x=vx at hvx r1
 cases hvx with
 |bptr _ _ b hb=>
 have hilt:i<st.boxes.length:=by rw[<-h.bl];exact aq hb
 have hgb:Γ b=none:=(h.bx i b _ hb (vab hilt)).1
 have hw:∃x0,w.cell? ⟨b,off,none⟩=some x0/\w'=w.setCell ⟨b,off,none⟩ u:=by
  have hr:(storeVar T ⟨b,off,none⟩ u).run P w=.ok () w':=by
   simpa[Instr.storeAt,Instr.sureAddr]using r1
  rw[hx]at hp
  unfold di at hp
  have hpc:cj (st.tmps.getD t .undef)=some [st.tmps.getD t .undef]:=by
   unfold cj
   split
   ·rename_i c hc;rw[hc]at hone;cases hone
   ·rw[vah hone]
  simp only[hpc]at hp
  split at hp
  ·rename_i cs0 own0 hB0
   split at hp
   ·rename_i hc
    obtain⟨c1,cinf,c2,_⟩:=hc
    obtain⟨inf,cinf⟩:=vaT.1 cinf
    obtain⟨c,t',e1,e2,e3,e4⟩:=h.box_cells hb hB0
    have hlt:off<c.size:=by simp at c2;omega
    have hcell:w.cell? ⟨b,off,none⟩=some c[off]:=by rw[e4];simp[hlt]
    refine⟨_,hcell,?_⟩
    have hfr:w.frozen? ⟨b,off,none⟩=false:=frozen_of_row w b off c t' e1
    unfold storeVar at hr
    rw[H9 hu1]at hr
    have c1':P.cellsOf T=1:=by simpa using c1.symm
    simp[run_sizeOf w cinf,c1',storeCells,Addr.add_lit,run_store _ _ _ _ _ hu1,hcell,hfr]at hr
    exact hr.symm
   ·cases hp
  ·cases hp
 obtain⟨x0,hx0,rfl⟩:=hw
 have hcell':(w.setCell ⟨b,off,none⟩ u).cell? ⟨b,off,none⟩=some u:=World.cell?_setCell_same w _ _ hx0
 have hown':fR P Γ (w.setCell ⟨b,off,none⟩ u) u e:=h3.same λb' hb'=>by
  refine⟨heap_setCell_other w _ _ _ (λhe=>?_),rfl⟩
  obtain⟨n,xs,_,o2⟩:=h3
  have:=o2 b' hb'
  rw[he]at this
  have hbb:(⟨b,off,none⟩:Addr).block=b:=rfl
  rw[hbb,hgb]at this;cases this
 have g1:=r2.addOwnB (i:=i) (b:=b) (j:=off) (e:=e) (v:=u) hb hB hcell' hown' (λb' hb'=>⟨by simp[h4 b' hb'],(h.on b' _ (h4 b' hb')).2⟩)
 exact⟨bC _ _ _,Γ,bs,_,_,g1.putv_nil (.val undef) o.dst rfl,hK,.inl rfl⟩
end
def tj(ops:Array Oper)(tmps:List PVal)(j:Nat):Option (Option Bool):=
 match(ops[j]?).bind (·.dst)with
 |none=>some none
 |some t=>match tmps[t]? with
  |none=>some none
  |some (.bool b)=>some (some b)
  |some .undef=>none
  |some (.val (.bool b))=>some (some b)
  |some _=>some none
def lP(P:Program)(o:Oper):Option aA:=
 match o.op with
 |.alloc t=>some (match eD P t with
  |some zs=>.cells zs (IB P t)
  |none=>.dead)
 |.box .. =>some .dead
 |.makeMap .. =>some (.map [])
 |_=>none
def fc(P:Program)(ops:List Oper):List aA:=ops.filterMap (lP P)
section
variable{P:Program}{E:lh}{Γ:aP}{bs:be}{ow:Nat->Option iL}{w:World}{a:Act}{st:aB}
theorem Rm(h:SR P E Γ bs ow w a.tmps st){A:List Nat}{o:Oper}{id:Nat}(hid:aE o.op=true->bs[id]? =some none){K:aB->Prop}(hp:IA P E.GE A o id K st)(Q:Exit->Act->World->Prop):o.wp P a w (fP P E bs id (aE o.op) a.defers K) Q:=by
 unfold IA at hp
 split at hp
 case h_1 t d ho hd=>exact DR h (.inl ho) hd hp.1 hp.2 Q
 case h_2 t d ho hd=>
  split at hp
  ·exact DR h (.inr ho) hd hp.1 hp.2 Q
  ·exact fP.of h hid hp.1 hp.2 Q
 case h_3 v d ho hd=>
  split at hp
  ·rename_i e he;exact HA h (.inl ho) hd hp.1 he hp.2 Q
  ·exact fP.of h hid hp.1 hp.2 Q
 case h_4 v d ho hd=>
  split at hp
  ·rename_i e he;exact HA h (.inr ho) hd hp.1 he hp.2 Q
  ·exact fP.of h hid hp.1 hp.2 Q
 case h_5 t i d ho hd=>
  split at hp
  ·rename_i p he;exact CS h ho hd hp.1 he hp.2 Q
  ·exact hp.elim
 case h_6 T len parts d ho hd=>
  split at hp
  ·rename_i p e he hT;exact wu h ho hd hp.1 hT he hp.2 Q
  ·exact hp.elim
 case h_7 t y T T' d ho hd=>
  split at hp
  ·rename_i e es ns hT he hn
   split at hp
   ·rename_i p hap
    obtain⟨rfl,h1,h2,h3⟩:=hp
    exact E1 h ho hd h1 hT he hn hap h2 h3 Q
   ·exact hp.elim
  ·exact hp.elim
 case h_8 T x d ho hd=>
  split at hp
  ·split at hp
   ·rename_i i off e hx hT
    split at hp
    ·rename_i cs own hB
     split at hp
     ·rename_i p hc
      exact CV h ho hd hp.1 hT hx hB hc hp.2.1 hp.2.2 Q
     ·exact hp.elim
    ·exact hp.elim
   ·exact hp.elim
  ·exact fP.of h hid hp.1 hp.2 Q
 case h_9 T x t ho=>
  split at hp
  ·rename_i y e i off H hf hx hst
   split at hp
   ·rename_i cs own hB hone
    have hmem:((t,0),e)∈st.own:=by
     have h1:=vbj hf
     have h2:=vbH hf
     simp only[vaP]at h2
     subst h2;exact h1
    exact AS h ho hx hst hB hone hmem hp Q
   ·exact fP.of h hid hp.1 hp.2 Q
  ·exact fP.of h hid hp.1 hp.2 Q
 case h_10=>exact fP.of h hid hp.1 hp.2 Q
theorem Ix(h:SR P E Γ bs ow w a.tmps st){ops:Array Oper}{j:Nat}{x:Option Bool}(hg:tj ops st.tmps j=some x):yielded ops a.tmps j=x:=by
 unfold tj at hg
 unfold yielded
 cases hd:(ops[j]?).bind (·.dst)with
 |none=>rw[hd]at hg;cases hg;rfl
 | some t =>
  rw[hd]at hg
  simp only[vaa]
  simp only at hg
  cases hp:st.tmps[t]? with
  | none =>
   rw[hp]at hg;cases hg
   have:a.tmps[t]? =none:=by
    rw[List.getElem?_eq_none_iff]at hp
    rw[vb4,h.sz];exact hp
   rw[this]
  | some p =>
   have hlt:t<a.tmps.size:=by rw[h.sz];exact aq hp
   have hat:a.tmps[t]? =some a.tmps[t]:=by simp[hlt]
   have hv:=h.tm t p _ hp hat
   rw[hp]at hg
   rw[hat]
   generalize a.tmps[t]=v at hv
   cases p<;>(try simp only at hg)
   case undef=>cases hg
   case bool b=>cases hg;cases hv;rfl
   case val u=>
    cases hv
    cases v<;>(try simp only at hg)<;>cases hg<;>rfl
   all_goals (cases hg;cases hv<;>rfl)
theorem SR.extend(h:SR P E Γ bs ow w a.tmps st)(X:List aA):SR P E Γ (bs++List.replicate X.length none) ow w a.tmps {st with boxes:=st.boxes++X}:=by
 have hget:∀{i b:Nat},(bs++List.replicate X.length none)[i]? =some (some b)->bs[i]? =some (some b):=by
  intro i b hi
  by_cases hlt:i<bs.length
  ·rwa[vac hlt]at hi
  ·rw[vaf (by omega),vaW]at hi
   split at hi<;>cases hi
 have hsub:bs.Sub (bs++List.replicate X.length none):=λi b hi=>by rw[vac (aq hi)];exact hi
 have hbox:∀{i b:Nat} {B:aA},bs[i]? =some (some b)->(st.boxes++X)[i]? =some B->st.boxes[i]? =some B:=by
  intro i b B hi hB
  rwa[vac (by rw[<-h.bl];exact aq hi)]at hB
 exact{h with
  tm:=λt p v hp hv=>(h.tm t p v hp hv).mono (.refl _ _) hsub
  bl:=by simp[h.bl]
  bx:=λi b B hi hB=>by
   obtain⟨h1,h2,h3⟩:=h.bx i b B (hget hi) (hbox (hget hi) hB)
   exact⟨h1,h2,h3.mono (.refl _ _) hsub rfl⟩
  inj:=λi j b hi hj=>h.inj i j b (hget hi) (hget hj)
  bn:=λi b hi=>h.bn i b (hget hi)
  ob:=λi j e cs own b hB hj hi=>h.ob i j e cs own b (hbox (hget hi) hB) hj (hget hi)
  gl:=λg cs hg=>(h.gl g cs hg).mono (.refl _ _) hsub}
def S8(bs0 bs:be):Prop:=∀i:Nat,i<bs0.length->bs[i]? =bs0[i]?
def OM(P:Program)(E:lh)(bs0:be)(st:aB)(a:Act)(w:World):Prop:=∃Γ bs ow,SR P E Γ bs ow w a.tmps st/\S8 bs0 bs
def ch(ops:List Oper):Nat:=(ops.filter λo=>aE o.op).length
theorem y1(P:Program)(ops:List Oper):(fc P ops).length=ch ops:=by
 unfold fc ch
 induction ops with
 |nil=>rfl
 |cons o ops ih=>
  simp only[List.filterMap_cons,vbU]
  cases ho:o.op<;>simp[lP,aE,ho,ih]
end
def bY(P:Program):Op->Nat
 |.load .. |.lookup .. =>2
 |.store .. |.mapUpdate .. =>3
 | .call c => match c.callee with
  |.value (.func _)=>0
  |.value _=>3
  | .builtin .len => match c.argTypes.toList with
   |[t]=>(match P.underlying t with
    |some (.map ..)=>2
    |_=>0)
   |_=>0
  |_=>0
 |_=>0
def gM(acc:List Nat)(o:Oper):Nat:=o.after.toList.foldl (λs e=>if Region.binds .any e then s|||2 ^ e.on|||acc.getD e.on 0 else s) 0
def DF(ops:List Oper):List Nat:=ops.foldl (λacc o=>acc++[gM acc o]) []
def looks(ops:Array Oper)(o:Oper):List Tmp:=
 (o.op.operands.toList.filterMap λ|.tmp t=>some t|_=>none)++(match o.guard with
  |some (j,_)=>((ops[j]?).bind (·.dst)).toList
  |none=>[])
section
variable{P:Program}{GE:List (Nat×List PVal)}
theorem EW{acc:List Nat}{o:Oper}{i:Nat}(h:(gM acc o).testBit i=true):∃e∈o.after.toList,Region.binds .any e=true/\(e.on=i\/(acc.getD e.on 0).testBit i=true):=by
 unfold gM at h
 have key:∀(l:List Edge) (s:Nat),(l.foldl (λs e=>if Region.binds .any e then s|||2 ^ e.on|||acc.getD e.on 0 else s) s).testBit i=true->
   s.testBit i=true\/∃e∈l,Region.binds .any e=true/\(e.on=i\/(acc.getD e.on 0).testBit i=true):=by
  intro l
  induction l with
  |nil=>intro s hs;exact .inl hs
  | cons e l ih =>
   intro s hs
   simp only[List.foldl_cons]at hs
   rcases ih _ hs with hs'|⟨e',h1,h2⟩
   ·split at hs'
    ·rename_i hb
     simp only[Nat.testBit_or,va3]at hs'
     rcases hs' with(hs'|hs')|hs'
     ·exact .inl hs'
     ·refine .inr ⟨e,by simp,hb,.inl ?_⟩
      rw[Nat.testBit_two_pow]at hs'
      simpa using hs'
     ·exact .inr ⟨e,by simp,hb,.inr hs'⟩
    ·exact .inl hs'
   ·exact .inr ⟨e',by simp[h1],h2⟩
 rcases key _ 0 h with h0|h0
 ·simp at h0
 ·exact h0
theorem NC(ops:List Oper):(DF ops).length=ops.length/\∀(j i:Nat),((DF ops).getD j 0).testBit i=true->∃o,ops[j]? =some o/\∃e∈o.after.toList,Region.binds .any e=true/\(e.on=i\/(e.on<j/\((DF ops).getD e.on 0).testBit i=true)):=by
 unfold DF
 have key:∀(rest pre:List Oper) (acc:List Nat),acc.length=pre.length->
   (∀(j i:Nat),(acc.getD j 0).testBit i=true->∃o,(pre++rest)[j]? =some o/\∃e∈o.after.toList,Region.binds .any e=true/\(e.on=i\/(e.on<j/\(acc.getD e.on 0).testBit i=true)))->
   (rest.foldl (λacc o=>acc++[gM acc o]) acc).length=(pre++rest).length/\∀(j i:Nat),((rest.foldl (λacc o=>acc++[gM acc o]) acc).getD j 0).testBit i=true->
    ∃o,(pre++rest)[j]? =some o/\∃e∈o.after.toList,Region.binds .any e=true/\(e.on=i\/(e.on<j/\((rest.foldl (λacc o=>acc++[gM acc o]) acc).getD e.on 0).testBit i=true)):=by
  intro rest
  induction rest with
  |nil=>intro pre acc hl h;exact⟨by simpa using hl,by simpa using h⟩
  | cons o rest ih =>
   intro pre acc hl h
   simp only[List.foldl_cons]
   have hsplit:pre++o::rest=(pre++[o])++rest:=by simp
   rw[hsplit]
   refine ih (pre++[o]) (acc++[gM acc o]) (by simp[hl]) (λj i hb=>?_)
   have hlow:∀m,m<acc.length->(acc++[gM acc o]).getD m 0=acc.getD m 0:=λm hm=>by
    rw[vaq,vaq,vac hm]
   by_cases hj:j<acc.length
   ·rw[hlow j hj]at hb
    obtain⟨o',h1,e,h2,h3,h4⟩:=h j i hb
    refine⟨o',by rw[<-hsplit];exact h1,e,h2,h3,h4.imp id λhx=>⟨hx.1,?_⟩⟩
    rw[hlow _ (by omega)];exact hx.2
   ·by_cases hj2:j=acc.length
    ·subst hj2
     have:(acc++[gM acc o]).getD acc.length 0=gM acc o:=by
      rw[vaq,vaf (var _)];simp
     rw[this]at hb
     obtain⟨e,h1,h2,h3⟩:=EW hb
     refine⟨o,by rw[hl];simp,e,h1,h2,?_⟩
     rcases h3 with h3|h3
     ·exact .inl h3
     ·have hlt:e.on<acc.length:=by
       by_cases hlt:e.on<acc.length
       ·exact hlt
       ·rw[vaq,vaK (by omega)]at h3;simp at h3
      exact .inr ⟨hlt,by rw[hlow _ hlt];exact h3⟩
    ·rw[vaq,vaK (by simp;omega)]at hb;simp at hb
 have:=key ops [] [] rfl (λj i hb=>by simp at hb)
 simpa using this
end
section
variable{P:Program}{GE:List (Nat×List PVal)}
theorem US{op:Op}{id:Nat}{v:Operand->PVal}{H H':List aA}{p:PVal}(hc:bY P op≠3)(hm:aE op=false)(h:oT P op id v H=some (p,H')):H'=H:=by
 unfold oT at h
 split at h
 all_goals first
  |(cases h;done)
  |(cases h;rfl)
  |(obtain⟨q,_,he⟩:=ef h;cases he;rfl)
  |(exact absurd rfl hc)
  |(simp[aE]at hm;done)
  |(split at h<;>first|(cases h;rfl)|cases h)
theorem YH{op:Op}{id:Nat}{v:Operand->PVal}{H:List aA}{p:PVal}(hc:bY P op<2)(hm:aE op=false)(h:oT P op id v H=some (p,H))(H2:List aA):oT P op id v H2=some (p,H2):=by
 unfold oT at h ⊢
 split at h
 case h_24 x t=>
  obtain⟨q,hq,he⟩:=ef h
  cases he
  simp only[bY]at hc
  have:AL P t (v x) H2=AL P t (v x) H:=by
   unfold AL
   split<;>first|rfl|skip
   rename_i hu _
   simp[hu]at hc
  rw[this,hq];rfl
 all_goals first
  |(cases h;done)
  |(cases h;rfl)
  |(obtain⟨q,hq,he⟩:=ef h;cases he;simp only[hq,vak];done)
  |(simp[bY]at hc;done)
  |(simp[aE]at hm;done)
  |(split at h<;>first|(cases h;done)|(cases h;rfl)|(rename_i hv;cases h;simp only[hv];done))
theorem Fh{l:List Operand}{v v':Operand->PVal}(h:∀x∈l,v x=v' x):l.map v=l.map v':=vbk h
theorem W6{op:Op}{id:Nat}{v v':Operand->PVal}{H:List aA}(h:∀x∈op.operands.toList,v x=v' x):oT P op id v H=oT P op id v' H:=by
 unfold oT
 split
 all_goals (simp only[Op.operands,Call.operands]at h)
 all_goals first
  |(simp at h;simp[h];done)
  |skip
 case h_7 t parts=>
  rw[vbk (f:=λx:Nat×Operand=>(x.1,v x.2)) (g:=λx=>(x.1,v' x.2)) λx hx=>by rw[h x.2 (vag.2 ⟨x,hx,rfl⟩)]]
 case h_8 t len parts=>
  rw[vbk (f:=λx:Nat×Operand=>(x.1,v x.2)) (g:=λx=>(x.1,v' x.2)) λx hx=>by rw[h x.2 (vag.2 ⟨x,hx,rfl⟩)]]
 case h_15 fn first cap=>
  rw[Fh λx hx=>h x (by simp at hx ⊢;exact .inl hx),Fh λx hx=>h x (by simp at hx ⊢;exact .inr hx)]
 case h_16 t x lo hi=>
  have h1:v x=v' x:=h x (by simp)
  have h2:lo.map v=lo.map v':=by
   cases lo with
   |none=>rfl
   |some y=>simp only[vak];rw[h y (by simp)]
  have h3:hi.map v=hi.map v':=by
   cases hi with
   |none=>rfl
   |some y=>simp only[vak];rw[h y (by simp)]
  rw[h1,h2,h3]
 case h_25 x r tys=>
  rw[h x (by simp),Fh λy hy=>h y (by simp[hy])]
 case h_26 x r tys=>
  rw[h x (by simp),Fh λy hy=>h y (by simp[hy])]
end
section
variable{P:Program}{E:lh}{Γ:aP}{bs:be}{ow:Nat->Option iL}{w:World}{a:Act}{st:aB}
theorem FX{α:Type}:∀{l:List α} {i:Nat} {x:α},l[i]? =some x->l.set i x=l
 |[],_,_,h=>by simp at h
 |_::_,0,_,h=>by simp at h;subst h;rfl
 |y::l,i+1,x,h=>by simp only[List.set_cons_succ];rw[FX (by simpa using h)]
end
def bf(ops:Array Oper)(i j:Nat):Prop:=((DF ops.toList).getD j 0).testBit i=true
theorem yc{α:Type}{l:List α}{i:Nat}{x d:α}(h:l[i]? =some x):l.getD i d=x:=by rw[vaq,h];rfl
def cH(listed:Array Bool)(i:Nat):Prop:=listed.getD i false=true
def Zv(ops:Array Oper)(listed:Array Bool):Prop:=∀(j:Nat) o,ops[j]? =some o->cH listed j->∀e∈o.after.toList,Region.binds .any e=true->cH listed e.on
theorem G9{ops:Array Oper}{listed:Array Bool}(hd:Zv ops listed):∀(j:Nat) o,ops[j]? =some o->(∀e∈o.after.toList,Region.binds .any e=true->cH listed e.on)->∀i,bf ops i j->cH listed i:=by
 intro j
 induction j using Nat.strongRecOn with
 | _ j ih =>
  intro o ho ha i hb
  obtain⟨o',ho',e,he,hbi,hc⟩:=(NC ops.toList).2 j i hb
  have:o'=o:=by
   have h':ops[j]? =some o':=by simpa using ho'
   rw[ho]at h';cases h';rfl
  subst this
  have hle:=ha e he hbi
  rcases hc with hc|⟨hc,hb'⟩
  ·subst hc;exact hle
  ·obtain⟨o2,ho2,_⟩:=(NC ops.toList).2 e.on i hb'
   have h2:ops[e.on]? =some o2:=by simpa using ho2
   exact ih e.on hc o2 h2 (hd e.on o2 h2 hle) i hb'
theorem eL{listed:Array Bool}{i j:Nat}(hi:i<listed.size):cH (listed.setIfInBounds i true) j↔j=i\/cH listed j:=by
 unfold cH
 by_cases h:i=j
 ·subst h
  constructor
  ·intro _;exact .inl rfl
  ·intro _;simp[hi]
 ·rw[getD_set_ne false h]
  constructor
  ·exact .inr
  ·rintro(rfl|h')
   ·exact absurd rfl h
   ·exact h'
section
variable{P:Program}{E:lh}{ops:Array Oper}{n base:Nat}{T:Nat->aB}{bs0:be}{ds:List Deferred}
def As(ops:Array Oper)(base i:Nat):Nat:=base+ch (ops.toList.take i)
theorem qh(l r:List Oper):ch (l++r)=ch l+ch r:=by simp[ch]
theorem TA{i j:Nat}{o:Oper}(ho:ops[i]? =some o)(hm:aE o.op=true)(hij:i<j):As ops base i<As ops base j:=by
 unfold As
 have hl:ops.toList[i]? =some o:=by simpa using ho
 have h1:ops.toList.take (i+1)=ops.toList.take i++[o]:=by
  rw[vcE,hl];rfl
 have h2:ops.toList.take j=ops.toList.take (i+1)++(ops.toList.take j).drop (i+1):=by
  have:=(vce (i+1) (ops.toList.take j)).symm
  rwa[List.take_take,Nat.min_eq_left (by omega)]at this
 rw[h2,qh,h1,qh]
 have:ch [o]=1:=by unfold ch;simp[hm]
 omega
def xq(n:Nat)(listed:Array Bool):Nat:=((List.range n).filter λi=>!listed.getD i false).length
theorem QI{l:List Nat}{p q:Nat->Bool}(hpq:∀i,q i=true->p i=true){j:Nat}(hj:j∈l)(hp:p j=true)(hq:q j=false):(l.filter q).length<(l.filter p).length:=by
 induction l with
 |nil=>cases hj
 | cons x l ih =>
  have hle:∀l:List Nat,(l.filter q).length<=(l.filter p).length:=by
   intro l
   induction l with
   |nil=>simp
   | cons y l ih2 =>
    simp only[vbU]
    by_cases h1:q y=true
    ·simp[h1,hpq y h1];exact ih2
    ·by_cases h2:p y=true
     ·simp[h1,h2];omega
     ·simp[h1,h2];exact ih2
  simp only[vbU]
  rcases vaB.1 hj with rfl|hj
  ·simp[hp,hq];have:=hle l;omega
  ·have:=ih hj
   by_cases h1:q x=true
   ·simp[h1,hpq x h1];exact this
   ·by_cases h2:p x=true
    ·simp[h1,h2];omega
    ·simp[h1,h2];exact this
end
section
variable{P:Program}{E:lh}{w:World}{a:Act}{st:aB}
theorem pW(m j:Nat):(Array.replicate m false).getD j false=false:=by
 rw[vaF,Array.getElem?_replicate]
 split<;>rfl
theorem FK:∀(l:List Oper) (i:Nat) (o:Oper),l[i]? =some o->aE o.op=true->(fc P l)[ch (l.take i)]? =lP P o
 |[],_,_,h,_=>by simp at h
 |x::l,0,o,h,hm=>by
  simp at h;subst h
  have:∃B,lP P x=some B:=by cases hx:x.op<;>simp[aE,hx]at hm<;>exact⟨_,by simp[lP,hx];rfl⟩
  obtain⟨B,hB⟩:=this
  simp[fc,ch,hB]
 | x :: l,i + 1,o,h,hm => by
  have ih:=FK l i o (by simpa using h) hm
  have hc:ch ((x::l).take (i+1))=ch [x]+ch (l.take i):=by
   rw[List.take_succ_cons,<-qh];rfl
  rw[hc]
  unfold fc
  rw[List.filterMap_cons]
  cases hx:lP P x with
  |none=>
   have:ch [x]=0:=by cases hx':x.op<;>simp[lP,hx']at hx<;>simp[ch,aE,hx']
   rw[this,vaI];exact ih
  |some B=>
   have:ch [x]=1:=by cases hx':x.op<;>simp[lP,hx']at hx<;>simp[ch,aE,hx']
   rw[this,vcu]
   simpa[fc]using ih
end
def tN(n:Nat):List PVal->List PVal->Prop
 |[],[]=>True
 |p::ps,q::qs=>(q=.undef\/(p=q/\q.cl n))/\tN n ps qs
 |_,_=>False
def pI(n:Nat):aA->aA->Prop
 |_,.dead=>True
 |.cells cs own,.cells cs' own'=>cs=cs'/\gZ n cs/\∀x∈own',x∈own
 |.map es,.map es'=>es=es'/\(∀x∈es,x.1.cl n/\x.2.cl n)
 |_,_=>False
def dg(n:Nat):List aA->List aA->Prop
 |_,[]=>True
 |B::l,B'::l'=>pI n B B'/\dg n l l'
 |[],_::_=>False
structure qa7(st st':aB):Prop where
 tmps:tN st'.boxes.length st.tmps st'.tmps
 boxes:dg st'.boxes.length st.boxes st'.boxes
 own:∀x∈st'.own,x∈st.own
def O8(id:Nat)(Q:Exit->aB->Prop):Exit->aB->Prop
 |.exit id',st=>if id'=id then Q .normal st else Q (.exit id') st
 |e,st=>Q e st
section
variable{P:Program}{E:lh}{bs0:be}
theorem Gf{n:Nat}:∀{l l':List PVal},tN n l l'->l.length=l'.length/\∀(i:Nat) q,l'[i]? =some q->q=.undef\/(l[i]? =some q/\q.cl n)
 |[],[],_=>⟨rfl,by simp⟩
 |[],_::_,h=>by simp[tN]at h
 |_::_,[],h=>by simp[tN]at h
 | p :: l,q :: l',h => by
  simp only[tN]at h
  obtain⟨h1,h2⟩:=Gf h.2
  refine⟨by simp[h1],λi x hx=>?_⟩
  cases i with
  | zero =>
   simp at hx;subst hx
   rcases h.1 with h3|⟨rfl,h3⟩
   ·exact .inl h3
   ·exact .inr ⟨rfl,h3⟩
  |succ i=>simpa using h2 i x (by simpa using hx)
theorem mc{n:Nat}:∀{l l':List aA},dg n l l'->l'.length<=l.length/\∀(i:Nat) B',l'[i]? =some B'->∃B,l[i]? =some B/\pI n B B'
 |_,[],_=>⟨by simp,by simp⟩
 |[],_::_,h=>by simp[dg]at h
 |B::l,B'::l',h=>by
  simp only[dg]at h
  obtain⟨h1,h2⟩:=mc h.2
  refine⟨by simpa using h1,λi x hx=>?_⟩
  cases i with
  |zero=>simp at hx;subst hx;exact⟨B,rfl,h.1⟩
  |succ i=>simpa using h2 i x (by simpa using hx)
theorem OM.less{st st':aB}{a:Act}{w:World}(hR:OM P E bs0 st a w)(hl:qa7 st st')(hm:bs0.length<=st'.boxes.length):OM P E bs0 st' a w:=by
 obtain⟨Γ,bs,ow,h,hk⟩:=hR
 obtain⟨h1,h2⟩:=Gf hl.tmps
 obtain⟨h3,h4⟩:=mc hl.boxes
 have hbl:st'.boxes.length<=bs.length:=by rw[h.bl];exact h3
 have hget:∀{i b:Nat},(bs.take st'.boxes.length)[i]? =some (some b)->i<st'.boxes.length/\bs[i]? =some (some b):=by
  intro i b hi
  have hlt:i<st'.boxes.length:=by have:=aq hi;simp at this;omega
  rw[vap hlt]at hi
  exact⟨hlt,hi⟩
 have hres:∀(i b:Nat),i<st'.boxes.length->bs[i]? =some (some b)->(bs.take st'.boxes.length)[i]? =some (some b):=λi b hi hb=>by
  rw[vap hi];exact hb
 refine⟨Γ,bs.take st'.boxes.length,ow,?_,λi hi=>?_⟩
 ·exact{
   wi:=h.wi
   sz:=by rw[h.sz,h1]
   tm:=λt p v hp hv=>by
    rcases h2 t p hp with rfl|⟨h5,h6⟩
    ·exact .undef v
    ·exact(h.tm t p v h5 hv).restrict h6 hres
   bl:=by simp;omega
   bx:=λi b B hb hB=>by
    obtain⟨hlt,hb⟩:=hget hb
    obtain⟨B0,hB0,hx⟩:=h4 i B hB
    obtain⟨k1,k2,k3⟩:=h.bx i b B0 hb hB0
    refine⟨k1,k2,?_⟩
    cases B with
    |dead=>trivial
    |cells cs own=>
     cases B0<;>simp only[pI]at hx
     obtain⟨rfl,hcl,_⟩:=hx
     obtain⟨c,t,e1,e2,e3,e4⟩:=k3
     exact⟨c,t,e1,e2,λj p v hp hv=>(e3 j p v hp hv).restrict (kr hcl hp) hres,e4⟩
    |map es=>
     cases B0<;>simp only[pI]at hx
     obtain⟨rfl,hcl⟩:=hx
     obtain⟨c,t,e1,e2,e3,e4⟩:=k3
     refine⟨c,t,e1,e2,λj k u x hp hv=>?_,e4⟩
     obtain⟨q1,q2⟩:=hcl _ (vaA hp)
     exact⟨(e3 j k u x hp hv).1.restrict q1 hres,(e3 j k u x hp hv).2.restrict q2 hres⟩
   inj:=λi j b hi hj=>h.inj i j b (hget hi).2 (hget hj).2
   bn:=λi b hb=>h.bn i b (hget hb).2
   on:=h.on
   ot:=λt k e he=>h.ot t k e (hl.own _ he)
   ob:=λi j e cs own b hB hj hb=>by
    obtain⟨hlt,hb⟩:=hget hb
    obtain⟨B0,hB0,hx⟩:=h4 i _ hB
    cases B0<;>simp only[pI]at hx
    exact h.ob i j e _ _ b hB0 (hx.2.2 _ hj) hb
   gl:=λg cs hg=>(h.gl g cs hg).restrict (n:=0) (by simp only[PVal.cl];exact h.gc g cs hg) (λi b hi _=>absurd hi (vaS _))
   gc:=h.gc
   gx:=h.gx
   step:=h.step}
 ·rw[vap (by omega)];exact hk i hi
end
section
variable{P:Program}{E:lh}{bs0:be}
theorem OM.len{st:aB}{a:Act}{w:World}(h:OM P E bs0 st a w):bs0.length<=st.boxes.length:=by
 obtain⟨Γ,bs,ow,h,hk⟩:=h
 rw[<-h.bl]
 by_cases hl:bs0.length<=bs.length
 ·exact hl
 ·have h1:=hk bs.length (by omega)
  rw[vaK (var _),vab (by omega)]at h1
  cases h1
def Nw(P:Program)(E:lh)(bs0:be)(ds:List Deferred)(Q:Exit->aB->Prop):Exit->Act->World->Prop:=
 λe a w=>a.defers=ds/\∃st,OM P E bs0 st a w/\Q e st
end
def Rr(P:Program)(st:aB):ResultVar->Option PVal
 |.tmp t=>some (st.tmps.getD t .undef)
 |.cell t ty=>jx P ty (st.tmps.getD t .undef) st.boxes
def Nq(P:Program)(st:aB):List ResultVar->Option (List PVal)
 |[]=>some []
 |x::r=>match Rr P st x,Nq P st r with
  |some p,some l=>some (p::l)
  |_,_=>none
def yo(P:Program)(st:aB):List ResultVar->Option PVal
 |[x]=>Rr P st x
 |rs=>(Nq P st rs).map .tuple
def dj:List ResultVar->Nat->Nat×Nat
 |[.tmp t],k=>(t,k)
 |rs,k=>match rs[k]? with
  |some (.tmp t)=>(t,0)
  |_=>(0,0)
def PVal.isSlice:PVal->Bool
 |.slice _=>true
 |_=>false
def nV(st:aB):List ResultVar->Nat->Prop
 |[.tmp _],_=>True
 |[_],_=>False
 |rs,k=>match rs[k]? with
  |some (.tmp t)=>(st.tmps.getD t .undef).isSlice=true
  |_=>False
def qcp(P:Program)(rs:List ResultVar)(r:PVal)(ro:List (Nat×TypeId))(H':List aA):Exit->aB->Prop
 | .normal,st | .ret,st => yo P st rs = some r∧r.cl H'.length∧dg H'.length st.boxes H'∧(∀ x ∈ ro,(dj rs x.1,x.2) ∈ st.own∧nV st rs x.1) ∧
   (∀x∈ro,∀y∈ro,dj rs x.1=dj rs y.1->x.1=y.1)
 |_,_=>False
section
variable{P:Program}{E:lh}{Γ:aP}{bs:be}{ow:Nat->Option iL}{w:World}{a:Array Value}{st:aB}
def wy(src:Nat->Nat×Nat)(ro:List (Nat×TypeId))(ow:Nat->Option iL):Nat->Option iL:=λb=>
 match ow b with
 |some (.tmp t j)=>(ro.find? λx=>src x.1==(t,j)).map λx=>.tmp 0 x.1
 |L=>L
theorem SR.finish(h:SR P E Γ bs ow w a st){H':List aA}{v:Value}{r:PVal}(hv:VR Γ bs w r v)(hcl:r.cl H'.length)(hB:dg H'.length st.boxes H'){src:Nat->Nat×Nat}{ro:List (Nat×TypeId)}
  (hro:∀x∈ro,(src x.1,x.2)∈st.own/\∀u v',a[(src x.1).1]? =some u->jU u (src x.1).2=some v'->jU v x.1=some v')
  (hinj:∀x∈ro,∀y∈ro,src x.1=src y.1->x.1=y.1):
  SR P E Γ (bs.take H'.length) (wy src ro ow) w #[v] ⟨[r],H',ro.map λx=>((0,x.1),x.2)⟩:=by
 have hR:OM P E [] st ⟨a,[]⟩ w:=⟨Γ,bs,ow,h,λi hi=>absurd hi (vaS _)⟩
 obtain⟨h3,h4⟩:=mc hB
 have hget:∀{i b:Nat},(bs.take H'.length)[i]? =some (some b)->i<H'.length/\bs[i]? =some (some b):=by
  intro i b hi
  have hlt:i<H'.length:=by have:=aq hi;simp at this;omega
  rw[vap hlt]at hi
  exact⟨hlt,hi⟩
 have hres:∀(i b:Nat),i<H'.length->bs[i]? =some (some b)->(bs.take H'.length)[i]? =some (some b):=λi b hi hb=>by
  rw[vap hi];exact hb
 clear hR
 exact{
  wi:=h.wi
  sz:=rfl
  tm:=λt p v' hp hv'=>by
   cases t with
   |zero=>simp at hp hv';subst hp;subst hv';exact hv.restrict hcl hres
   |succ t=>simp at hp
  bl:=by simp[h.bl];omega
  bx:=λi b B hb hB=>by
   obtain⟨hlt,hb⟩:=hget hb
   obtain⟨B0,hB0,hx⟩:=h4 i B hB
   obtain⟨k1,k2,k3⟩:=h.bx i b B0 hb hB0
   refine⟨k1,k2,?_⟩
   cases B with
   |dead=>trivial
   |cells cs own=>
    cases B0<;>simp only[pI]at hx
    obtain⟨rfl,hcl,_⟩:=hx
    obtain⟨c,t,e1,e2,e3,e4⟩:=k3
    exact⟨c,t,e1,e2,λj p v hp hv=>(e3 j p v hp hv).restrict (kr hcl hp) hres,e4⟩
   |map es=>
    cases B0<;>simp only[pI]at hx
    obtain⟨rfl,hcl⟩:=hx
    obtain⟨c,t,e1,e2,e3,e4⟩:=k3
    refine⟨c,t,e1,e2,λj k u x hp hv=>?_,e4⟩
    obtain⟨q1,q2⟩:=hcl _ (vaA hp)
    exact⟨(e3 j k u x hp hv).1.restrict q1 hres,(e3 j k u x hp hv).2.restrict q2 hres⟩
  inj:=λi j b hi hj=>h.inj i j b (hget hi).2 (hget hj).2
  bn:=λi b hb=>h.bn i b (hget hb).2
  on:=λb L hL=>by
   unfold wy at hL
   cases hb:ow b with
   |none=>rw[hb]at hL;cases hL
   |some L'=>exact h.on b L' hb
  ot:=λt k e he=>by
   simp only[vag,Prod.mk.injEq]at he
   obtain⟨⟨k',e'⟩,hm,⟨rfl,rfl⟩,rfl⟩:=he
   obtain⟨h1,h2⟩:=hro _ hm
   obtain⟨u,v',e1,e2,e3,e4⟩:=h.ot _ _ _ h1
   refine⟨v,v',rfl,h2 u v' e1 e2,e3,λb hb=>?_⟩
   have:=e4 b hb
   simp only[wy,this]
   cases hf:ro.find? λx=>src x.1==src k' with
   |none=>
    have:=vcv.1 hf _ hm
    simp at this
   |some x=>
    have hx:=vbj hf
    have hx2:=vbH hf
    simp only[vaP]at hx2
    have:=hinj x hx _ hm hx2
    simp only at this
    simp[this]
  ob:=λi j e cs own b hB hj hb=>by
   obtain⟨hlt,hb⟩:=hget hb
   obtain⟨B0,hB0,hx⟩:=h4 i _ hB
   cases B0<;>simp only[pI]at hx
   obtain⟨v',e1,e2,e3⟩:=h.ob i j e _ _ b hB0 (hx.2.2 _ hj) hb
   exact⟨v',e1,e2,λb' hb'=>by simp[wy,e3 b' hb']⟩
  gl:=λg cs hg=>(h.gl g cs hg).restrict (n:=0) (by simp only[PVal.cl];exact h.gc g cs hg) (λi b hi _=>absurd hi (vaS _))
  gc:=h.gc
  gx:=h.gx
  step:=h.step}
theorem SR.getD(h:SR P E Γ bs ow w a st)(t:Nat):VR Γ bs w (st.tmps.getD t .undef) (a.getD t undef):=by
 have:=h.opv [] (.tmp t)
 exact this
theorem PF{p:PVal}{v:Value}(hv:VR Γ bs w p v)(hp:p.isSlice=true):jU v 0=some v:=by
 cases p<;>simp[PVal.isSlice]at hp
 cases hv<;>rfl
theorem L7(h:SR P E Γ bs ow w a st){g:ResultVar->Sem Value}(h1:∀t,g (.tmp t)=pure (a.getD t undef))(h2:∀x t,g (.cell x t)=do loadVar t (<-asAddr (a.getD x undef))):∀{rs:List ResultVar} {l:List PVal},Nq P st rs=some l->∃vs:List Value,(rs.mapM g).run P w=.ok vs w/\vs.length=rs.length/\l.length=rs.length/\(∀(i:Nat) p v,l[i]? =some p->vs[i]? =some v->VR Γ bs w p v)/\
   ∀(i:Nat) t,rs[i]? =some (.tmp t)->vs[i]? =some (a.getD t undef)
 |[],l,hl=>by
  cases hl
  exact⟨[],by simp,rfl,rfl,by simp,by simp⟩
 | x :: rs,l,hl => by
  unfold Nq at hl
  split at hl
  ·rename_i p l' hp hl'
   cases hl
   obtain⟨vs,k1,k2,k3,k4,k5⟩:=L7 h h1 h2 hl'
   have hx:∃v,(g x).run P w=.ok v w/\VR Γ bs w p v/\∀t,x=.tmp t->v=a.getD t undef:=by
    cases x with
    |tmp t=>
     cases hp
     exact⟨a.getD t undef,by rw[h1];simp,h.getD t,λt' e=>by cases e;rfl⟩
    | cell t ty =>
     have hv:=h.getD t
     obtain⟨v,e1,e2⟩:=BW h hv hp
     refine⟨v,?_,e2,λt' e=>by cases e⟩
     rw[h2]
     have hp':jx P ty (st.tmps.getD t .undef) st.boxes=some p:=hp
     generalize hvt:a.getD t undef=vt at hv e1
     generalize hpt:st.tmps.getD t .undef=pt at hv hp'
     unfold jx at hp'
     split at hp'
     ·cases hv<;>simpa[Instr.loadAt,Instr.sureAddr,asAddr]using e1
     ·cases hv;simpa[Instr.loadAt,Instr.sureAddr,asAddr]using e1
     ·cases hp'
   obtain⟨v,e1,e2,e3⟩:=hx
   refine⟨v::vs,by simp[vcd,e1,k1],by simp[k2],by simp[k3],λi q u hq hu=>?_,λi t ht=>?_⟩
   ·cases i with
    |zero=>simp at hq hu;subst hq;subst hu;exact e2
    |succ i=>exact k4 i q u (by simpa using hq) (by simpa using hu)
   ·cases i with
    |zero=>simp at ht;simp[e3 t ht]
    |succ i=>simpa using k5 i t (by simpa using ht)
  ·cases hl
theorem nW(h:SR P E Γ bs ow w a st){fn:Func}{r:PVal}(hr:yo P st fn.results.toList=some r):∃v,(results fn a).run P w=.ok v w/\VR Γ bs w r v/\∀k u v',nV st fn.results.toList k->a[(dj fn.results.toList k).1]? =some u->jU u (dj fn.results.toList k).2=some v'->jU v k=some v':=by
 have hres:fn.results=fn.results.toList.toArray:=by simp
 generalize fn.results.toList=rs at hr hres
 have hsl:∀(t:Nat) u v',(st.tmps.getD t .undef).isSlice=true->a[t]? =some u->jU u 0=some v'->a.getD t undef=v':=by
  intro t u v' hp hu hv'
  have h1:=h.getD t
  have h2:a.getD t undef=u:=by rw[vaF,hu];rfl
  rw[h2]at h1 ⊢
  rw[PF h1 hp]at hv'
  exact(vax _ _).mp hv'
 obtain⟨g,hg,h1,h2⟩:∃g:ResultVar->Sem Value,results fn a=(do let vs <-fn.results.mapM g;pure (if h:vs.size=1 then vs[0]else .tuple vs))/\(∀t,g (.tmp t)=pure (a.getD t undef))/\(∀x t,g (.cell x t)=do loadVar t (<-asAddr (a.getD x undef))):=
  ⟨_,rfl,λ_=>rfl,λ_ _=>rfl⟩
 rw[hg,hres,List.mapM_toArray]
 have many:∀(l:List PVal),Nq P st rs=some l->rs.length≠1->r=.tuple l->(∀k,nV st rs k->∃t,rs[k]? =some (.tmp t)/\dj rs k=(t,0)/\(st.tmps.getD t .undef).isSlice=true)->
   ∃v,(do let vs <-(Functor.map List.toArray (rs.mapM g));pure (if h:vs.size=1 then vs[0]else Value.tuple vs):Sem Value).run P w=.ok v w/\VR Γ bs w r v/\
    ∀k u v',nV st rs k->a[(dj rs k).1]? =some u->jU u (dj rs k).2=some v'->jU v k=some v':=by
  intro l hl hn hr hp
  obtain⟨vs,k1,k2,k3,k4,k5⟩:=L7 h h1 h2 hl
  refine⟨.tuple vs.toArray,by simp[k1,k2,hn],?_,λk u v' hk hu hv'=>?_⟩
  ·subst hr
   exact .tuple _ _ (by simp[k2,k3]) λi p v hp hv=>k4 i p v hp (by simpa using hv)
  ·obtain⟨t,e1,e2,e3⟩:=hp k hk
   rw[e2]at hu hv'
   have:=k5 k t e1
   show vs.toArray[k]? =some v'
   rw[vby,this,hsl t u v' e3 hu hv']
 rcases rs with _|⟨x,_|⟨y,rs⟩⟩
 ·cases hr
  exact many [] rfl (by simp) rfl (λk hk=>by simp[nV]at hk)
 ·have hl:Nq P st [x]=some [r]:=by
   have hr':Rr P st x=some r:=hr
   simp[Nq,hr']
  obtain⟨vs,k1,k2,k3,k4,k5⟩:=L7 h h1 h2 hl
  match vs,k2 with
  | [v],_ =>
   refine⟨v,by simp[-List.mapM_cons,k1],k4 0 r v rfl rfl,λk u v' hk hu hv'=>?_⟩
   cases x with
   |tmp t=>
    have:=k5 0 t rfl
    simp at this
    simp only[dj]at hu hv'
    rw[this,hu]
    exact hv'
   |cell t ty=>exact hk.elim
 ·have hr':(Nq P st (x::y::rs)).map PVal.tuple=some r:=hr
  rw[vaJ]at hr'
  obtain⟨l,hl,e⟩:=hr'
  refine many l hl (by simp) e.symm λk hk=>?_
  simp only[nV]at hk
  split at hk
  ·rename_i t ht
   exact⟨t,ht,by simp only[dj,ht],hk⟩
  ·exact hk.elim
end
section
variable{P:Program}{GE:List (Nat×List PVal)}{A:List Nat}{ops:Array Oper}
theorem W5{op:Op}{id:Nat}{v:Operand->PVal}{H:List aA}{K K':PVal->List (Nat×TypeId)->List aA->Prop}(h:Nj P GE op id v H K)(hk:∀p ro H,K p ro H->K' p ro H):Nj P GE op id v H K':=by
 unfold Nj at *
 split at h
 ·unfold DX at *
  split at h
  ·rcases h with⟨h1,r,ro,h2,h3⟩|⟨ρ,argsC,Hc,rc,ro,Hc',H',r,k1,k2,k3,k4,k5,k6,k7,k8,k9,h3⟩
   ·exact .inl ⟨h1,r,ro,h2,hk _ _ _ h3⟩
   ·exact .inr ⟨ρ,argsC,Hc,rc,ro,Hc',H',r,k1,k2,k3,k4,k5,k6,k7,k8,k9,hk _ _ _ h3⟩
  ·exact h.elim
 ·split at h
  ·exact hk _ _ _ h
  ·exact h.elim
theorem mO{o:Oper}{id:Nat}{K K':aB->Prop}{st:aB}(hk:∀st,K st->K' st)(h:lL o st.tmps.length=true/\Nj P GE o.op id (opv GE st.tmps) st.boxes λp ro H=>K (vY st o.dst p ro H)):lL o st.tmps.length=true/\Nj P GE o.op id (opv GE st.tmps) st.boxes λp ro H=>K' (vY st o.dst p ro H):=⟨h.1,W5 h.2 λ_ _ _ h=>hk _ h⟩
theorem SN{o:Oper}{id:Nat}{K K':aB->Prop}{st:aB}(hk:∀st,K st->K' st)(h:IA P GE A o id K st):IA P GE A o id K' st:=by
 unfold IA at *
 split at h
 case h_1=>exact⟨h.1,hk _ h.2⟩
 case h_2=>
  split at h
  ·rename_i hA;simp only[vah hA];exact⟨h.1,hk _ h.2⟩
  ·rename_i hA;simp only[van hA];exact mO hk h
 case h_3=>
  split at h
  ·exact⟨h.1,hk _ h.2⟩
  ·exact mO hk h
 case h_4=>
  split at h
  ·exact⟨h.1,hk _ h.2⟩
  ·exact mO hk h
 case h_5=>
  split at h
  ·exact⟨h.1,hk _ h.2⟩
  ·exact h.elim
 case h_6=>
  split at h
  ·exact⟨h.1,hk _ h.2⟩
  ·exact h.elim
 case h_7=>
  split at h
  ·split at h
   ·exact⟨h.1,h.2.1,h.2.2.1,hk _ h.2.2.2⟩
   ·exact h.elim
  ·exact h.elim
 case h_8=>
  split at h
  ·rename_i hA
   simp only[vah hA]
   split at h
   ·split at h
    ·split at h
     ·exact⟨h.1,h.2.1,hk _ h.2.2⟩
     ·exact h.elim
    ·exact h.elim
   ·exact h.elim
  ·rename_i hA;simp only[van hA];exact mO hk h
 case h_9=>
  split at h
  ·split at h
   ·exact hk _ h
   ·exact mO hk h
  ·exact mO hk h
 case h_10=>exact mO hk h
theorem S5{n:Int}(h1: -9223372036854775808<=n)(h2:n<9223372036854775808):IntKind.i64.wrap n=n:=by
 simp[IntKind.wrap,IntKind.bits,IntKind.signed];omega
end
section
variable{P:Program}{E:lh}{Γ:aP}{bs:be}{ow:Nat->Option iL}{w:World}{a:Array Value}{st:aB}
theorem BR.demote{Γ':aP}{B:aA}{b:Nat}(h:BR Γ bs w B b)(hg:∀b n,Γ b=some n->0<n->Γ' b=some n):BR Γ' bs w B b:=by
 cases B with
 |cells cs own=>
  obtain⟨c,t,h1,h2,h3,h4⟩:=h
  exact⟨c,t,h1,h2,λj p v hp hv=>(h3 j p v hp hv).demote hg,h4⟩
 |map es=>
  obtain⟨c,t,h1,h2,h3,h4⟩:=h
  exact⟨c,t,h1,h2,λj k u x hp hv=>⟨(h3 j k u x hp hv).1.demote hg,(h3 j k u x hp hv).2.demote hg⟩,h4⟩
 |dead=>trivial
def aP.cut(Γ:aP)(g:Nat):aP:=λb=>if b=g then none else Γ b
theorem aP.cut_same(Γ:aP)(g:Nat):Γ.cut g g=none:=by simp[aP.cut]
theorem aP.cut_other(Γ:aP){g b:Nat}(h:b≠g):Γ.cut g b=Γ b:=by simp[aP.cut,h]
theorem SR.demote(h:SR P E Γ bs ow w a st){g:Nat}(hg:Γ g=some 0)(how:ow g=none)(hT:E.T g\/E.w.heap.size<=g):SR P E (Γ.cut g) bs ow w a st:=by
 have hd:∀b n,Γ b=some n->0<n->Γ.cut g b=some n:=λb n hb hn=>by
  rw[Γ.cut_other]
  ·exact hb
  ·intro e;subst e;rw[hg]at hb;cases hb;omega
 have hown:∀{v:Value} {e:TypeId} {L:iL},fR P Γ w v e->(∀b,v.ownBlock=some b->ow b=some L)->fR P (Γ.cut g) w v e:=λho hL=>
  ho.same λb hb=>⟨rfl,Γ.cut_other λe=>by subst e;have:=hL b hb;rw[how]at this;cases this⟩
 exact{h with
  wi:=λb n hb=>by
   by_cases e:b=g
   ·subst e;rw[Γ.cut_same]at hb;cases hb
   ·rw[Γ.cut_other e]at hb;exact h.wi b n hb
  tm:=λt p v hp hv=>(h.tm t p v hp hv).demote hd
  bx:=λi b B hb hB=>by
   obtain⟨h1,h2,h3⟩:=h.bx i b B hb hB
   refine⟨?_,h2,h3.demote hd⟩
   by_cases e:b=g
   ·subst e;exact Γ.cut_same _
   ·rw[Γ.cut_other e];exact h1
  ot:=λt k e he=>by
   obtain⟨u,v,h1,h2,h3,h4⟩:=h.ot t k e he
   exact⟨u,v,h1,h2,hown h3 h4,h4⟩
  ob:=λi j e cs own b hB hj hb=>by
   obtain⟨v,h1,h2,h3⟩:=h.ob i j e cs own b hB hj hb
   exact⟨v,h1,hown h2 h3,h3⟩
  gl:=λx cs hx=>(h.gl x cs hx).demote hd
  step:={h.step with
   keep:=λb hb hb2=>by
    obtain⟨k1,k2⟩:=h.step.keep b hb hb2
    refine⟨k1,?_⟩
    rw[Γ.cut_other]
    ·exact k2
    ·intro e;subst e;rcases hT with hT|hT
     ·exact hb2 hT
     ·omega
   le:=λb n hb hn=>by
    obtain⟨n',k1,k2,k3⟩:=h.step.le b n hb hn
    exact⟨n',hd b n' k1 (by omega),k2,k3⟩}}
theorem VY{α:Type}{l:List α}{x y:α}{i:Nat}(h:(l++[x])[i]? =some y):l[i]? =some y\/(i=l.length/\x=y):=by
 by_cases hi:i<l.length
 ·rw[vac hi]at h;exact .inl h
 ·rw[vaf (by omega)]at h
  by_cases h0:i - l.length=0
  ·rw[h0]at h;simp at h;exact .inr ⟨by omega,h⟩
  ·rw[vaK (by simp;omega)]at h;cases h
theorem XK(bs:be)(x:Option Nat):bs.Sub (bs++[x]):=λi b hb=>by rw[vac (aq hb)];exact hb
theorem na{ns:List (List PVal)}{sz:Nat}(h:∀x∈ns,x.length=sz/\∀q∈x,q.one=true):Fx ns.flatten=true:=vas.2 λp hp=>by
 obtain⟨x,hx,hp⟩:=List.mem_flatten.1 hp
 have:=(h x hx).2 p hp
 cases p<;>first|rfl|cases this
theorem SR.addBox(h:SR P E Γ bs ow w a st)(xb:Option Nat){cs:List PVal}(hno:Fx cs=true)
  (hx:∀b,xb=some b->(∃cur t,w.heap[b]? =some (.cells cur t (0,0))/\cs.length<=cur.size/\∀(j:Nat) p v,cs[j]? =some p->cur[j]? =some v->VR Γ bs w p v)/\Γ b=none/\(E.T b\/E.w.heap.size<=b)/\∀i:Nat,bs[i]? ≠some (some b)):
  SR P E Γ (bs++[xb]) ow w a {st with boxes:=st.boxes++[.cells cs []]}:=by
 have hs:=XK bs xb
 exact{h with
  tm:=λt p v hp hv=>(h.tm t p v hp hv).mono (.refl _ _) hs
  bl:=by simp[h.bl]
  bx:=λi b B hb hB=>by
   rcases VY hb with hb'|⟨rfl,hb'⟩
   ·rw[vac (by rw[<-h.bl];exact aq hb')]at hB
    obtain⟨h1,h2,h3⟩:=h.bx i b B hb' hB
    exact⟨h1,h2,h3.mono (.refl _ _) hs rfl⟩
   ·obtain⟨⟨cur,t,k1,k2,k3⟩,k4,k5,k6⟩:=hx b hb'
    rw[h.bl,vaf (var _),vbp]at hB
    cases hB
    exact⟨k4,(vaj.1 k1).1,cur,t,k1,k2,λj p v hp hv=>(k3 j p v hp hv).mono (.refl _ _) hs,HB hno _ _⟩
  inj:=λi j b hi hj=>by
   rcases VY hi with hi'|⟨rfl,hi'⟩<;>rcases VY hj with hj'|⟨rfl,hj'⟩
   ·exact h.inj i j b hi' hj'
   ·exact absurd hi' ((hx b hj').2.2.2 i)
   ·exact absurd hj' ((hx b hi').2.2.2 j)
   ·rfl
  bn:=λi b hb=>by
   rcases VY hb with hb'|⟨rfl,hb'⟩
   ·exact h.bn i b hb'
   ·exact(hx b hb').2.2.1
  ob:=λi j e cs' own b hB hj hb=>by
   rcases VY hb with hb'|⟨rfl,hb'⟩
   ·rw[vac (by rw[<-h.bl];exact aq hb')]at hB
    exact h.ob i j e cs' own b hB hj hb'
   ·rw[h.bl,vaf (var _),vbp]at hB
    cases hB
    simp at hj
  gl:=λg cs hg=>(h.gl g cs hg).mono (.refl _ _) hs}
theorem JU{ns:List (List PVal)}{x:Value}{sz:Nat}(hx:VR Γ bs w (.slice ns) x)(hsz0:0<sz)(hns1:∀x∈ns,x.length=sz/\∀q∈x,q.one=true):∃news:List Value,((x=.slice none 0 0/\ns.length=0)\/∃a c,x=.slice (some a) ns.length c/\∀(j:Nat) u,news[j]? =some u->w.cell? (a.add j)=some u)/\
   news.length=ns.length * sz/\(∀u∈news,u.oneCell'=true)/\
   ∀(i:Nat) x (k:Nat) q,ns[i]? =some x->x[k]? =some q->∃u,news[i * sz+k]? =some u/\VR Γ bs w q u:=by
 have hnsz:∀(i:Nat) x,ns[i]? =some x->x.length=sz:=λi x hx=>(hns1 x (vaA hx)).1
 cases hx with
 |sliceNil=>exact⟨[],.inl ⟨rfl,rfl⟩,by simp,by simp,by simp⟩
 |sliceE a cap=>exact⟨[],.inr ⟨a,cap,rfl,by simp⟩,by simp,by simp,by simp⟩
 | slice ns b off cap n' sz' vals hz0 hcap hgg hn hsz hc hvv =>
  have hcell:∀(i:Nat) x (k:Nat) q,ns[i]? =some x->x[k]? =some q->w.cell? ⟨b,off+(i * sz+k),none⟩=some (vals i k):=by
   intro i x k q hx hq
   have hsz':sz'=sz:=by rw[<-hsz i x hx];exact hnsz i x hx
   subst hsz'
   rw[<-vb9];exact hc i x k q hx hq
  have hpos:∀o,o<ns.length * sz->∃x q,ns[o / sz]? =some x/\x[o % sz]? =some q/\o=o / sz * sz+o % sz:=by
   intro o ho
   obtain⟨m1,m2⟩:=Ho (q:=o) hsz0
   have hlt:o / sz<ns.length:=(vcO hsz0).2 ho
   have hxl:=hnsz _ _ (vab hlt)
   exact⟨_,_,vab hlt,vab (by rw[hxl];exact m2),m1⟩
  refine⟨(List.range (ns.length * sz)).map λo=>vals (o / sz) (o % sz),.inr ⟨⟨b,off,none⟩,cap,rfl,λj u hu=>?_⟩,by simp,λu hu=>?_,λi x k q hx hq=>⟨vals i k,?_,hvv i x k q hx hq⟩⟩
  ·rw[vav]at hu
   have hj:j<ns.length * sz:=by
    by_cases hj:j<ns.length * sz
    ·exact hj
    ·rw[vaK (by simp;omega)]at hu;cases hu
   rw[vbG hj]at hu
   simp only[vak,vax]at hu
   subst hu
   obtain⟨x,q,k1,k2,k3⟩:=hpos j hj
   have:=hcell _ _ _ _ k1 k2
   rw[<-k3]at this
   rw[Addr.add_lit];exact this
  ·simp only[vag,vbw]at hu
   obtain⟨o,ho,rfl⟩:=hu
   obtain⟨x,q,k1,k2,k3⟩:=hpos o ho
   exact VR.one (hvv _ _ _ _ k1 k2) ((hns1 x (vaA k1)).2 q (vaA k2))
  ·have hk:k<sz:=by have:=aq hq;rw[hnsz i x hx]at this;exact this
   have hlt:=PA (aq hx) hk
   rw[vav,vbG hlt]
   simp only[vak,vax]
   rw[vdc i,Nat.mul_add_div hsz0,vcK hk,Nat.mul_add_mod,vbK hk,Nat.add_zero]
theorem Lg{sz:Nat}(hsz:0<sz):∀{ns:List (List PVal)},(∀x∈ns,x.length=sz)->∀{j:Nat} {p:PVal},ns.flatten[j]? =some p->∃x,ns[j / sz]? =some x/\x[j % sz]? =some p
 |[],_,j,p,h=>by simp at h
 | x :: ns,hl,j,p,h => by
  have hx:=hl x (by simp)
  rw[List.flatten_cons]at h
  by_cases hj:j<sz
  ·rw[vac (by omega)]at h
   rw[vcK hj,vbK hj]
   exact⟨x,rfl,h⟩
  ·rw[vaf (by omega),hx]at h
   obtain⟨y,h1,h2⟩:=Lg hsz (λz hz=>hl z (by simp[hz])) h
   have e1:j / sz=(j - sz) / sz+1:=by
    conv=>lhs;rw[show j=(j - sz)+sz by omega]
    rw[Nat.add_div_right _ hsz]
   have e2:j % sz=(j - sz) % sz:=by
    conv=>lhs;rw[show j=(j - sz)+sz by omega]
    rw[Nat.add_mod_right]
   rw[e1,e2]
   exact⟨y,by simpa using h1,h2⟩
theorem flat_len{sz:Nat}:∀{ns:List (List PVal)},(∀x∈ns,x.length=sz)->ns.flatten.length=ns.length * sz
 |[],_=>by simp
 |x::ns,hl=>by
  rw[List.flatten_cons,vam,hl x (by simp),flat_len (λz hz=>hl z (by simp[hz])),vau,vbo,vbY,vcu]
theorem BY{ns:List (List PVal)}{sz:Nat}(hsz0:0<sz)(hl:∀x∈ns,x.length=sz){cur:Array Value}(hc:∀(i:Nat) x (k:Nat) q,ns[i]? =some x->x[k]? =some q->∃u,cur[i * sz+k]? =some u/\VR Γ bs w q u):ns.flatten.length<=cur.size/\∀(j:Nat) p v,ns.flatten[j]? =some p->cur[j]? =some v->VR Γ bs w p v:=by
 have key:∀(j:Nat) p,ns.flatten[j]? =some p->∃u,cur[j]? =some u/\VR Γ bs w p u:=by
  intro j p hp
  obtain⟨x,h1,h2⟩:=Lg hsz0 hl hp
  have:=hc _ _ _ _ h1 h2
  rwa[<-(Ho (q:=j) hsz0).1]at this
 refine⟨?_,λj p v hp hv=>?_⟩
 ·by_cases h0:ns.flatten.length=0
  ·omega
  ·obtain⟨u,hu,_⟩:=key (ns.flatten.length - 1) _ (vab (by omega))
   have:=(vaj.1 hu).1
   omega
 ·obtain⟨u,hu,hv'⟩:=key j p hp
  rw[hu]at hv;cases hv;exact hv'
theorem FD(h:SR P E Γ bs ow w a st){t ty e:TypeId}{ns:List (List PVal)}{p:PVal}{v x:Value}(ht:P.underlying t=some (.slice e))(hv:VR Γ bs w (.slice []) v)(hx:VR Γ bs w (.slice ns) x)
  (ho:fR P Γ w v e) (hfree:∀b,v.ownBlock=some b->ow b=none/\(E.T b\/E.w.heap.size<=b)) (hp:hO P t [] ns=some p):
  ∃v' w' Γ' xb,(Builtin.append_ #[t,t] ty #[v,x]).run P w=.ok v' w'/\SR P E Γ' bs ow w' a st/\Fx ns.flatten=true/\
   (∀b,xb=some b->(∃cur t,w'.heap[b]? =some (.cells cur t (0,0))/\ns.flatten.length<=cur.size/\∀(j:Nat) p v,ns.flatten[j]? =some p->cur[j]? =some v->VR Γ' bs w' p v)/\Γ' b=none/\(E.T b\/E.w.heap.size<=b)/\∀i:Nat,bs[i]? ≠some (some b))/\
   ∀(bs':be) (i:Nat),bs'[i]? =some xb->VR Γ' bs' w' (.bsl i 0 ns.length) v':=by
 unfold hO at hp
 rw[ht]at hp
 simp only at hp
 split at hp
 case isFalse=>cases hp
 rename_i hh
 obtain⟨hlen,hby,hsz0,hzl,_,hns1⟩:=hh
 cases hp
 have hz:∃zs,eD P e=some zs/\zs.length=P.cellsOf e:=by simpa using hzl
 obtain⟨zs,hz,hzl⟩:=hz
 obtain⟨z,hr,rfl,i,hi,hz'⟩:=jy (w:=w) hz
 have hisz:i.size=P.cellsOf e:=by simp[Program.cellsOf,hi]
 have hiby:i.bytes=P.bytesOf e:=by simp[Program.bytesOf,hi]
 obtain⟨n,xs,hown,hgh⟩:=ho
 have hn0:n=0:=by
  rcases hown.2 with⟨rfl,rfl⟩|⟨g,cap,cur,rfl,_⟩
  ·rfl
  ·cases hv with
   |sliceE a cap=>rfl
   |slice es b off cap n' sz vals=>rfl
 subst hn0
 have hxs:xs=[]:=vat (by rw[hown.1];simp)
 subst hxs
 simp only[List.length_nil,vaI]at hlen
 have hmax:0+ns.length<=maxLen:=by unfold maxLen;unfold bo at hlen;omega
 have hbytes:(0+ns.length) * i.bytes<=140737488355328:=by
  rw[hiby]
  have:(0+ns.length) * P.bytesOf e<=1073741824 * 65536:=vcz (by unfold bo at hlen;omega) hby
  omega
 have hnsl:∀x∈ns,x.length=P.cellsOf e:=λx hx=>(hns1 x hx).1
 obtain⟨Γ0,h0,hx0,hg0⟩:∃Γ0,SR P E Γ0 bs ow w a st/\VR Γ0 bs w (.slice ns) x/\∀b,v.ownBlock=some b->Γ0 b=none/\∀i:Nat,bs[i]? ≠some (some b):=by
  cases hvb:v.ownBlock with
  |none=>exact⟨Γ,h,hx,λb hb'=>by cases hb'⟩
  | some g =>
   have hgz:Γ g=some 0:=by have:=hgh g hvb;simpa using this
   refine⟨Γ.cut g,h.demote hgz (hfree g hvb).1 (hfree g hvb).2,hx.demote λb n hb hn=>?_,λb hb'=>?_⟩
   ·have hne:b≠g:=by intro e;subst e;rw[hgz]at hb;cases hb;omega
    rw[Γ.cut_other hne]
    exact hb
   ·cases hb'
    refine⟨Γ.cut_same _,λi hi=>?_⟩
    have:=(h.bx i g (st.boxes[i]'(by rw[<-h.bl];exact aq hi)) hi (by simp)).1
    rw[hgz]at this;cases this
 obtain⟨news,hnx,hnl,hn1,hnv⟩:=JU hx0 hsz0 hns1
 obtain⟨v',w',hrun,hcase⟩:=E0 (ty:=ty) ht hi hz' hisz (by simpa using hzl) hsz0 hown hnx hnl hn1 hmax hbytes
 rcases hcase with⟨rfl,rfl,hm0⟩|⟨g,cap,cur,rfl,hg,hcs,hcm,htake,hroom,rfl,rfl⟩|⟨cap,rest,g1,g2,g3,rfl,rfl⟩
 ·have hns0:ns=[]:=vat hm0
  subst hns0
  refine⟨v',w',Γ0,none,hrun,h0,na hns1,(λb hb=>by cases hb),λbs' i hi=>?_⟩
  cases hv with
  |sliceNil=>exact .bsl _ _ _ _ _ (var _) (λ_=>rfl) (.inl rfl)
  |sliceE a cap=>exact .bsl _ _ _ _ _ (vaN _) (λh=>by cases h) (.inl rfl)
  |slice es b off cap n' sz vals=>exact .bsl _ _ _ _ _ (vaN _) (λh=>by cases h) (.inl rfl)
 ·
  simp only[vcP,List.take_zero,vaR,vaI]at hrun hroom ⊢
  obtain⟨hΓg,hbg⟩:=hg0 g rfl
  have hheap:=uV w g cur (news++cur.toList.drop news.length).toArray e (0,0) hg
  have hne:∀{b m},Γ0 b=some m->b≠g:=λhb e=>by subst e;rw[hΓg]at hb;cases hb
  have hle:Γ0.Le w Γ0 (w.setRow g (news++cur.toList.drop news.length).toArray):=λb m hb _=>⟨m,hb,var _,λo _=>bZ (setRow_other w g b _ (hne hb)) o⟩
  have hSR:=h0.world (λb=>b=g) hle (λb m hb=>by
   obtain⟨c,t',fr,k1,k2⟩:=h0.wi b m hb
   exact⟨c,t',fr,(setRow_other w g b _ (hne hb)).trans k1,k2⟩) rfl rfl rfl (by simp) (λb _ hbg=>⟨setRow_other w g b _ hbg,rfl⟩) (λb hb=>by subst hb;exact(hfree b rfl).2)
   (λi b hb hbg'=>by subst hbg';exact hbg i hb) (λb L hL hbg'=>by subst hbg';rw[(hfree b rfl).1]at hL;cases hL)
  refine⟨_,_,Γ0,some g,hrun,hSR,na hns1,(λb hb=>?_),λbs' i hi=>?_⟩
  ·cases hb
   refine⟨⟨_,e,hheap,BY hsz0 hnsl λi x k q hx hq=>?_⟩,hΓg,(hfree g rfl).2,hbg⟩
   obtain⟨u,k1,k2⟩:=hnv i x k q hx hq
   refine⟨u,?_,k2.mono hle (.refl _)⟩
   simp only[vby]
   rw[vac (aq k1)];exact k1
  ·exact .bsl _ _ _ _ _ hroom (λh=>by cases h) (.inr ⟨g,rfl,hi⟩)
 ·
  simp only[vaR,vaI]at hrun g1 ⊢
  have hfr:∀m,Γ0 w.heap.size≠some m:=λm hm=>absurd (h0.lt_of_ghost hm) (vb1 _)
  have hle:Γ0.Le w Γ0 (w.drew.alloc (.cells (news++rest).toArray e)):=λb m hb _=>⟨m,hb,var _,λo _=>bZ (dF w.drew _ (h0.drew.lt_of_ghost hb)) o⟩
  have hheap:(w.drew.alloc (.cells (news++rest).toArray e)).heap[w.heap.size]? =some (.cells (news++rest).toArray e (0,0)):=eJ w.drew _
  have hSR:=h0.drew.world (λ_=>False) (Γ':=Γ0) (w':=w.drew.alloc (.cells (news++rest).toArray e)) (λb m hb _=>⟨m,hb,var _,λo _=>bZ (dF w.drew _ (h0.drew.lt_of_ghost hb)) o⟩) (λb m hb=>by
   obtain⟨c',t',fr,k1,k2⟩:=h0.wi b m hb
   exact⟨c',t',fr,(dF w.drew _ (h0.drew.lt_of_ghost hb)).trans k1,k2⟩) rfl rfl rfl (by simp) (λb hb _=>⟨dF w.drew _ hb,rfl⟩) (λ_ hx=>hx.elim) (λ_ _ _ hx=>hx) (λ_ _ _ hx=>hx)
  refine⟨_,_,Γ0,some w.heap.size,hrun,hSR,na hns1,(λb hb=>?_),λbs' i hi=>?_⟩
  ·cases hb
   refine⟨⟨_,e,hheap,BY hsz0 hnsl λi x k q hx hq=>?_⟩,?_,.inr h.step.size,λi hi=>?_⟩
   ·obtain⟨u,k1,k2⟩:=hnv i x k q hx hq
    refine⟨u,?_,k2.mono hle (.refl _)⟩
    simp only[vby]
    rw[vac (aq k1)];exact k1
   ·cases hx':Γ0 w.heap.size with
    |none=>rfl
    |some m=>exact absurd hx' (hfr m)
   ·have:=(h.bx i _ (st.boxes[i]'(by rw[<-h.bl];exact aq hi)) hi (by simp)).2.1
    omega
  ·exact .bsl _ _ _ _ _ g1 (λh=>by cases h) (.inr ⟨w.heap.size,rfl,hi⟩)
theorem PM(h:SR P E Γ bs ow w a st){t ty e:TypeId}{ns:List (List PVal)}{p:PVal}{v x:Value}(ht:P.underlying t=some (.slice e))(hv:VR Γ bs w (.slice []) v)(hx:VR Γ bs w (.slice ns) x)
  (ho:fR P Γ w v e) (hfree:∀b,v.ownBlock=some b->ow b=none/\(E.T b\/E.w.heap.size<=b)) (hp:hO P t [] ns=some p):
  ∃v' w' Γ' xb,(Builtin.append_ #[t,t] ty #[v,x]).run P w=.ok v' w'/\SR P E Γ' (bs++[xb]) ow w' a {st with boxes:=st.boxes++[.cells ns.flatten []]}/\VR Γ' (bs++[xb]) w' (.bsl st.boxes.length 0 ns.length) v':=by
 obtain⟨v',w',Γ',xb,r1,r2,r3,r4,r5⟩:=FD (ty:=ty) h ht hv hx ho hfree hp
 exact⟨v',w',Γ',xb,r1,r2.addBox xb r3 r4,r5 _ _ (by rw[<-h.bl,vaf (var _),vbp];rfl)⟩
theorem TZ{zs:List PVal}(h0:0<zs.length):∀{n j:Nat} {p:PVal},(List.replicate n zs).flatten[j]? =some p->zs[j % zs.length]? =some p
 |0,j,p,h=>by simp at h
 | n + 1,j,p,h => by
  rw[List.replicate_succ,List.flatten_cons]at h
  by_cases hj:j<zs.length
  ·rw[vac hj]at h
   rw[vbK hj];exact h
  ·rw[vaf (by omega)]at h
   have:=TZ h0 h
   rwa[<-Nat.mod_eq_sub_mod (by omega)]at this
theorem UV(h:SR P E Γ bs ow w a st){t e:TypeId}{k k':IntKind}{n:Nat}{zs:List PVal}(ht:P.underlying t=some (.slice e))(hz:eD P e=some zs)(hzl:zs.length=P.cellsOf e)(h0:0<zs.length)(h1:∀q∈zs,q.one=true)(hby:P.bytesOf e<=65536)(hn:n<=bo):∃v' w' xb,(Instr.makeSlice t (.int k n) (.int k' n)).run P w=.ok v' w'/\SR P E Γ (bs++[xb]) ow w' a {st with boxes:=st.boxes++[.cells (List.replicate n zs).flatten []]}/\VR Γ (bs++[xb]) w' (.bsl st.boxes.length 0 n) v':=by
 obtain⟨z,hr,hzc,i,hi,hz'⟩:=jy (w:=w) hz
 have hisz:i.size=P.cellsOf e:=by simp[Program.cellsOf,hi]
 have hiby:i.bytes=P.bytesOf e:=by simp[Program.bytesOf,hi]
 have hsz:z.cells.size=zs.length:=by rw[hzc];simp
 have hb1:i.bytes * n<=65536 * 1073741824:=vcz (by rw[hiby];exact hby) (by unfold bo at hn;omega)
 have hb2:(i.bytes:Int) * (n:Int)<=281474976710656:=by
  have:((i.bytes * n:Nat):Int)<=281474976710656:=by omega
  rwa[Int.natCast_mul]at this
 have hrun:=run_make (P:=P) w t e i z ht hi hz' k k' (n:Int) (n:Int) (by omega) (Int.le_refl _) hb2 (by unfold bo at hn;omega)
 have hfr:∀m,Γ w.heap.size≠some m:=λm hm=>absurd (h.lt_of_ghost hm) (vb1 _)
 have hle:∀o,Γ.Le w Γ (w.alloc o):=λo b m hb _=>⟨m,hb,var _,λo' _=>bZ (dF w o (h.lt_of_ghost hb)) o'⟩
 have hSR:=h.world (λ_=>False) (Γ':=Γ) (hle (.cells (madeCells z.cells ((n:Int).toNat * i.size)) e)) (λb m hb=>by
  obtain⟨c',t',fr,k1,k2⟩:=h.wi b m hb
  exact⟨c',t',fr,(dF w _ (h.lt_of_ghost hb)).trans k1,k2⟩) rfl rfl rfl (by simp[World.size_alloc]) (λb hb _=>⟨dF w _ hb,rfl⟩) (λ_ hx=>hx.elim) (λ_ _ _ hx=>hx) (λ_ _ _ hx=>hx)
 have hfl:((List.replicate n zs).flatten).length=n * zs.length:=by simp
 refine⟨_,_,some w.heap.size,hrun,hSR.addBox (some w.heap.size) (na (sz:=zs.length) λx hx=>by rw[vcF hx];exact⟨rfl,h1⟩) (λb hb=>?_),?_⟩
 ·cases hb
  refine⟨⟨_,e,eJ w _,?_,λj p v hp hv=>?_⟩,?_,.inr h.step.size,λi hi=>?_⟩
  ·rw[size_madeCells,hfl,hisz,hzl];exact var _
  ·have hp':=TZ h0 hp
   unfold madeCells at hv
   rw[vc6]at hv
   have hj:j<n * zs.length:=by rw[<-hfl];exact aq hp
   have hjr:(Array.range ((n:Int).toNat * i.size))[j]? =some j:=by
    rw[Array.getElem?_range,vah (by rw[hisz,<-hzl];exact hj)]
   rw[hjr]at hv
   simp only[vak,vax]at hv
   have hjz:j % z.cells.size<z.cells.size:=Nat.mod_lt _ (by rw[hsz];exact h0)
   refine J0 (z:=z) (j % zs.length) p v (by rw[<-hzc];exact hp') ?_
   rw[<-hsz,<-hv,vaE hjz,getElem!_pos z.cells _ hjz]
  ·cases hx':Γ w.heap.size with
   |none=>rfl
   |some m=>exact absurd hx' (hfr m)
  ·have:=(h.bx i _ (st.boxes[i]'(by rw[<-h.bl];exact aq hi)) hi (by simp)).2.1
   omega
 ·exact .bsl _ _ _ _ _ (var _) (λh=>by cases h) (.inr ⟨w.heap.size,rfl,by rw[<-h.bl,vaf (var _),vbp];rfl⟩)
def qd(P:Program)(f:FuncId)(e:TypeId):Prop:=
 (∀vs w,(callFunc f vs).run P w=.ok (.enter f vs) w)/\
 ∀(w:World) (x:Value) (n:Nat) (news:List Value),((x=.slice none 0 0/\n=0)\/∃a c,x=.slice (some a) n c/\∀(j:Nat) u,news[j]? =some u->w.cell? (a.add j)=some u)->news.length=n * P.cellsOf e->(∀u∈news,u.oneCell'=true)->n<=bo->
  Calls P f #[x] w λr w'=>∃v',r=.returned v'/\w'.ownsRow w.heap.size e (P.cellsOf e) v' n news/\(RowKit.Below w.heap.size w w'/\w.drawn<=w'.drawn)
theorem An(h:SR P E Γ bs ow w a st){w':World}(hb:RowKit.Below w.heap.size w w')(hd:w.drawn<=w'.drawn):Γ.Le w Γ w'/\SR P E Γ bs ow w' a st:=by
 have hle:Γ.Le w Γ w':=λb m hb' _=>⟨m,hb',var _,λo _=>bZ (hb.block b (h.lt_of_ghost hb')) o⟩
 refine⟨hle,h.world (λ_=>False) hle (λb m hb'=>?_) hb.os hb.tape hb.output hb.size (λb hlt _=>⟨hb.block b hlt,rfl⟩) (λ_ hx=>hx.elim) (λ_ _ _ hx=>hx) (λ_ _ _ hx=>hx) (E9 hd)⟩
 obtain⟨c',t',fr,k1,k2⟩:=h.wi b m hb'
 exact⟨c',t',fr,(hb.block b (h.lt_of_ghost hb')).trans k1,k2⟩
theorem Sj(h:SR P E Γ bs ow w a st){f:FuncId}{e:TypeId}{ns:List (List PVal)}{x:Value}(hC:qd P f e)(hx:VR Γ bs w (.slice ns) x)(hsz0:0<P.cellsOf e)(hns1:∀x∈ns,x.length=P.cellsOf e/\∀q∈x,q.one=true)(hlen:ns.length<=bo):Calls P f #[x] w λr w'=>∃v' xb,r=.returned v'/\SR P E Γ (bs++[xb]) ow w' a {st with boxes:=st.boxes++[.cells ns.flatten []]}/\VR Γ (bs++[xb]) w' (.bsl st.boxes.length 0 ns.length) v':=by
 obtain⟨news,hnx,hnl,hn1,hnv⟩:=JU hx hsz0 hns1
 refine(hC.2 w x ns.length news hnx hnl hn1 hlen).mono λr w' hr=>?_
 obtain⟨v',rfl,hown,hb,hbd⟩:=hr
 obtain⟨hle,hS⟩:=An h hb hbd
 rcases hown.2 with⟨rfl,hn⟩|⟨g,cap,cur,rfl,hge,hheap,hnc,hcm,hcs,htake⟩
 ·have hns0:ns=[]:=vat hn
  subst hns0
  exact⟨_,none,rfl,hS.addBox none (na hns1) (λb hb=>by cases hb),.bsl _ _ _ _ _ (vaN _) (λ_=>rfl) (.inl rfl)⟩
 ·refine⟨_,some g,rfl,hS.addBox (some g) (na hns1) (λb hb'=>?_),?_⟩
  ·cases hb'
   refine⟨⟨cur,e,hheap,BY hsz0 (λx hx=>(hns1 x hx).1) λi x k q hx hq=>?_⟩,?_,.inr (vaH h.step.size hge),λi hi=>?_⟩
   ·obtain⟨u,k1,k2⟩:=hnv i x k q hx hq
    refine⟨u,?_,k2.mono hle (.refl _)⟩
    have hlt:=aq k1
    rw[<-htake,vap (by omega)]at k1
    simpa using k1
   ·cases hg:Γ g with
    |none=>rfl
    |some m=>exact absurd (h.lt_of_ghost hg) (by omega)
   ·have:=(h.bx i g (st.boxes[i]'(by rw[<-h.bl];exact aq hi)) hi (by simp)).2.1
    omega
  ·refine .bsl _ _ _ _ _ hnc (λh=>by cases h) (.inr ⟨g,rfl,?_⟩)
   rw[h.bl.symm,vaf (var _),vbp];rfl
theorem CC.clone{f:FuncId}{e:TypeId}{ns:List (List PVal)}{GE:List (Nat×List PVal)}(hC:qd P f e)(hcl:gZ 0 [.slice ns])(hsz0:0<P.cellsOf e)(hns1:∀x∈ns,x.length=P.cellsOf e/\∀q∈x,q.one=true)(hlen:ns.length<=bo):gZ 0 [.slice ns]/\C P GE f [.slice ns] [] [] (.slice ns) [(0,e)] []:=by
 refine⟨hcl,hC.1,λΓ bs ow w vs hS=>?_⟩
 have h1:vs.size=1:=hS.sz
 obtain⟨x,rfl⟩:∃x,vs=#[x]:=⟨vs[0],Array.ext (by simp[h1]) λi hi hi2=>by simp at hi2;subst hi2;rfl⟩
 have hx:VR Γ bs w (.slice ns) x:=hS.tm 0 _ _ rfl rfl
 obtain⟨news,hnx,hnl,hn1,hnv⟩:=JU hx hsz0 hns1
 refine(hC.2 w x ns.length news hnx hnl hn1 hlen).mono λr w' hr=>?_
 obtain⟨v',rfl,hown,hb,hbd⟩:=hr
 rcases hown.2 with⟨rfl,hn⟩|⟨g,cap,cur,rfl,hge,hheap,hnc,hcm,hcs,htake⟩
 ·have hns0:ns=[]:=vat hn
  subst hns0
  obtain⟨hle,hS'⟩:=An hS hb hbd
  have g1:=hS'.set (d:=0) (p:=.slice []) (v:=.slice none 0 0) .sliceNil
  have g2:=g1.addOwn (d:=0) (k:=0) (e:=e) (u:=.slice none 0 0) (v:=.slice none 0 0) (by simp) rfl ⟨0,[],World.ownsRow_nil _ _ _ _,λb hb=>by simp[Value.ownBlock]at hb⟩ (λb hb=>by simp[Value.ownBlock]at hb)
  exact⟨_,Γ,_,rfl,g2⟩
 ·have hfr:Γ g=none:=by
   cases hg:Γ g with
   |none=>rfl
   |some m=>exact absurd (hS.lt_of_ghost hg) (by omega)
  have hle:Γ.Le w (Γ.put g (ns.length * P.cellsOf e)) w':=λb m hb' _=>by
   have hlt:=hS.lt_of_ghost hb'
   exact⟨m,(Γ.put_other (by omega)).trans hb',var _,λo _=>bZ (hb.block b hlt) o⟩
  have hS':=hS.world (Γ':=Γ.put g (ns.length * P.cellsOf e)) (w':=w') (λ_=>False) hle (λb m hb'=>by
   by_cases hbg:b=g
   ·subst hbg
    rw[Γ.put_same]at hb';cases hb'
    exact⟨_,_,_,hheap,by rw[hcs];exact vaY _ hnc⟩
   ·rw[Γ.put_other hbg]at hb'
    obtain⟨c',t',fr,k1,k2⟩:=hS.wi b m hb'
    exact⟨c',t',fr,(hb.block b (hS.lt_of_ghost hb')).trans k1,k2⟩) hb.os hb.tape hb.output hb.size (λb hlt _=>⟨hb.block b hlt,Γ.put_other (by omega)⟩) (λ_ hx=>hx.elim) (λ_ _ _ hx=>hx) (λ_ _ _ hx=>hx) (E9 hbd)
  have hvr:VR (Γ.put g (ns.length * P.cellsOf e)) bs w' (.slice ns) (.slice (some ⟨g,0,none⟩) ns.length cap):=by
   refine yq hheap (Γ.put_same _ _) (var _) hsz0 hnc (λi x hx=>(hns1 x (vaA hx)).1) λi x k q hx hq=>?_
   obtain⟨u,k1,k2⟩:=hnv i x k q hx hq
   refine⟨u,?_,k2.mono hle (.refl _)⟩
   have hlt:=aq k1
   rw[<-htake,vap (by omega)]at k1
   simpa using k1
  have g1:=hS'.set (d:=0) hvr
  have g2:=g1.addOwn (d:=0) (k:=0) (e:=e) (u:=.slice (some ⟨g,0,none⟩) ns.length cap) (v:=.slice (some ⟨g,0,none⟩) ns.length cap) (by simp) rfl
   ⟨ns.length,news,⟨hnl,.inr ⟨g,cap,cur,rfl,vaN _,hheap,hnc,hcm,hcs,htake⟩⟩,λb hb'=>by simp[Value.ownBlock]at hb';subst hb';exact Γ.put_same _ _⟩ (λb hb'=>by
    simp[Value.ownBlock]at hb';subst hb'
    refine⟨?_,.inr hge⟩
    cases hL:ow g with
    |none=>rfl
    |some L=>exact absurd (hS.on _ L hL).1 (by omega))
  exact⟨_,_,_,rfl,g2⟩
end
def Rl(P:Program)(GE:List (Nat×List PVal))(o:Oper)(K:aB->Prop)(st:aB):Prop:=
 match o.op,o.dst with
 | .call { callee := .builtin .append,args:=⟨[.tmp t,y]⟩,argTypes:=⟨[T,T']⟩ },some d => ∃ e ns p,T = T'∧P.underlying T = some (.slice e)∧st.tmps.getD t .undef = .slice []∧opv GE st.tmps y = .slice ns∧hO P T [] ns = some p∧((t,0),e) ∈ st.own∧d < st.tmps.length ∧
   K ⟨st.tmps.set d (.bsl st.boxes.length 0 ns.length),st.boxes++[.cells ns.flatten []],bu d (st.own.filter λx=>x.1 !=(t,0))⟩
 | .call { callee := .value f,args:=⟨[x]⟩,.. },some d => ∃ g e ns,opv GE st.tmps f = .func (.func g) [] []∧qd P g e∧opv GE st.tmps x = .slice ns∧0 < P.cellsOf e∧(∀ x ∈ ns,x.length = P.cellsOf e∧∀ q ∈ x,q.one = true)∧ns.length ≤ bo∧d < st.tmps.length ∧
   K ⟨st.tmps.set d (.bsl st.boxes.length 0 ns.length),st.boxes++[.cells ns.flatten []],bu d st.own⟩
 | .makeSlice T l c,some d => ∃ e k k' n zs,P.underlying T = some (.slice e)∧opv GE st.tmps l = .int k (n:Nat)∧opv GE st.tmps c = .int k' (n:Nat)∧eD P e = some zs∧zs.length = P.cellsOf e∧0 < zs.length∧(∀ q ∈ zs,q.one = true)∧P.bytesOf e ≤ 65536∧n ≤ bo∧d < st.tmps.length ∧
   K ⟨st.tmps.set d (.bsl st.boxes.length 0 n),st.boxes++[.cells (List.replicate n zs).flatten []],bu d st.own⟩
 | .store T x (.const v),none => ∃ i off e H cs own,v = .slice none 0 0∧opv GE st.tmps x = .bptr i off∧di P T (.bptr i off) (opv GE st.tmps (.const v)) st.boxes = some H∧H[i]? = some (.cells cs own) ∧
   K ⟨st.tmps,H.set i (.cells cs ((off,e)::own)),st.own⟩
 |_,_=>False
def Dp(P:Program)(E:lh)(bs:be)(id:Nat)(mk:Bool)(ds:List Deferred)(K:aB->Prop)(a:Act)(w:World):Prop:=
 a.defers=ds/\∃Γ bs' ow st,SR P E Γ bs' ow w a.tmps st/\K st/\(bs'=bs\/(mk=true/\∃b,bs'=bs.set id (some b))\/∃X,bs'=bs++X)
theorem fP.to3{P:Program}{E:lh}{bs:be}{id:Nat}{mk:Bool}{ds:List Deferred}{K:aB->Prop}{a:Act}{w:World}(h:fP P E bs id mk ds K a w):Dp P E bs id mk ds K a w:=by
 obtain⟨h1,Γ,bs',ow,st,h2,h3,h4⟩:=h
 exact⟨h1,Γ,bs',ow,st,h2,h3,h4.imp_right .inl⟩
section
variable{P:Program}{E:lh}{Γ:aP}{bs:be}{ow:Nat->Option iL}{w:World}{a:Act}{st:aB}
theorem SL(h:SR P E Γ bs ow w a.tmps st){o:Oper}{id:Nat}{K:aB->Prop}(hp:Rl P E.GE o K st)(Q:Exit->Act->World->Prop):o.wp P a w (Dp P E bs id (aE o.op) a.defers K) Q:=by
 unfold Rl at hp
 split at hp
 ·rename_i t y T T' d ho hdst
  obtain⟨e,ns,p,rfl,hT,het,hen,hpa,hmem,hd,hK⟩:=hp
  obtain⟨u,v,h1,h2,h3,h4⟩:=h.ot t 0 e hmem
  have hvt:=yD h h1
  rw[het]at hvt
  have huv:u=v:=FA h2 (λvs hx=>by subst hx;cases hvt) (λvs hx=>by subst hx;cases hvt)
  subst huv
  have hf:=h.freeT t 0
  have hy:VR Γ bs w (opv E.GE st.tmps y) (a.eval y):=h.opv a.defers y
  rw[hen]at hy
  obtain⟨v',w',Γ',xb,r1,r2,r3⟩:=PM (ty:=o.type) hf hT hvt hy h3 (λb hb=>⟨by simp[h4 b hb],(h.on b _ (h4 b hb)).2⟩) hpa
  have hrun:(execOp a.eval o).run P w=.ok (.value v') w':=by
   simp[execOp,ho,resolve,invoke,builtin,dA h1,r1]
  unfold Oper.wp
  rw[hrun,Oper.upon_value]
  have g1:=r2.set (d:=d) r3
  have hput:∀v,(a.put o.dst v).tmps=a.tmps.setIfInBounds d v:=λv=>by rw[hdst];rfl
  rw[<-hput]at g1
  exact⟨bC _ _ _,Γ',_,_,_,g1,hK,.inr (.inr ⟨[xb],rfl⟩)⟩
 ·rename_i f x tys d ho hdst
  obtain⟨g,e,ns,hf,hC,hx,h1,h2,h3,hd,hK⟩:=hp
  have hvf:VR Γ bs w (opv E.GE st.tmps f) (a.eval f):=h.opv a.defers f
  have hvx:VR Γ bs w (opv E.GE st.tmps x) (a.eval x):=h.opv a.defers x
  rw[hf]at hvf
  rw[hx]at hvx
  generalize hev:a.eval f=vf at hvf
  cases hvf with
  |func _ _ _ fs cs hl hl' k1 k2=>
  have hfs:fs=#[]:=vba (by simpa using hl)
  have hcs:cs=#[]:=vba (by simpa using hl')
  subst hfs;subst hcs
  have hrun:(execOp a.eval o).run P w=.ok (.enter g #[a.eval x]) w:=by
   simp[execOp,ho,resolve,hev,Deferred.ofValue,invoke,hC.1]
  unfold Oper.wp
  rw[hrun,Oper.upon_enter]
  refine(Sj h hC hvx h1 h2 h3).mono λr w' hr=>?_
  obtain⟨v',xb,rfl,hS,hv'⟩:=hr
  have g1:=hS.set (d:=d) hv'
  have hput:(a.put o.dst v').tmps=a.tmps.setIfInBounds d v':=by rw[hdst];rfl
  rw[<-hput]at g1
  show Dp P E bs id (aE o.op) a.defers K (a.put o.dst v') w'
  exact⟨bC _ _ _,Γ,_,ow,_,g1,hK,.inr (.inr ⟨[xb],rfl⟩)⟩
 ·rename_i T l c d ho hdst
  obtain⟨e,k,k',n,zs,hT,hl,hc,hz,hzl,h0,h1,hby,hn,hd,hK⟩:=hp
  have hvl:VR Γ bs w (opv E.GE st.tmps l) (a.eval l):=h.opv a.defers l
  have hvc:VR Γ bs w (opv E.GE st.tmps c) (a.eval c):=h.opv a.defers c
  rw[hl]at hvl
  rw[hc]at hvc
  obtain⟨v',w',xb,r1,r2,r3⟩:=UV (k:=k) (k':=k') h hT hz hzl h0 h1 hby hn
  have hrun:(execOp a.eval o).run P w=.ok (.value v') w':=by
   generalize hgl:a.eval l=vl at hvl
   generalize hgc:a.eval c=vc at hvc
   cases hvl;cases hvc
   simp[execOp,ho,hgl,hgc,r1]
  unfold Oper.wp
  rw[hrun,Oper.upon_value]
  have g1:=r2.set (d:=d) r3
  have hput:(a.put o.dst v').tmps=a.tmps.setIfInBounds d v':=by rw[hdst];rfl
  rw[<-hput]at g1
  exact⟨bC _ _ _,Γ,_,_,_,g1,hK,.inr (.inr ⟨[xb],rfl⟩)⟩
 ·rename_i T x v ho hdst
  obtain⟨i,off,e,H,cs,own,rfl,hx,hps,hB,hK⟩:=hp
  have hvx:VR Γ bs w (opv E.GE st.tmps x) (a.eval x):=h.opv a.defers x
  have hvv:VR Γ bs w (opv E.GE st.tmps (.const (.slice none 0 0))) (.slice none 0 0):=h.opv a.defers (.const (.slice none 0 0))
  rw[hx]at hvx
  obtain⟨w',r1,r2,_,r4⟩:=uT h hvx hvv hps
  have hrun:(execOp a.eval o).run P w=.ok .skip w':=by
   have:a.eval (.const (.slice none 0 0))=.slice none 0 0:=rfl
   simp[execOp,ho,this,r1]
  unfold Oper.wp
  rw[hrun,Oper.upon_skip]
  generalize a.eval x=vx at hvx
  cases hvx with
  |bptr _ _ b hb=>
  have hc:=(r4 i off b rfl hb).1 0 (.slice none 0 0) rfl
  have g1:=r2.addOwnB (j:=off) (e:=e) hb hB hc ⟨0,[],World.ownsRow_nil _ _ _ _,λb hb=>by simp[Value.ownBlock]at hb⟩ (λb hb=>by simp[Value.ownBlock]at hb)
  rw[hdst]
  exact⟨rfl,Γ,bs,_,_,g1,hK,.inl rfl⟩
 ·exact hp.elim
end
end Go.Proofs.YtkdahfeiedaahaaGreatDoor
