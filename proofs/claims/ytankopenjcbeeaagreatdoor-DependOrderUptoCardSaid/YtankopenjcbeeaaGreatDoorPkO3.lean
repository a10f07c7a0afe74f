/- PROVED: a part of the proof. Conditions: none. -/
import Derived.Test.YtankopenjcbeeaaGreatDoorPkO2
import Derived.Deep.LoopGhost
import Derived.Below
set_option linter.unusedSimpArgs false set_option linter.defProp false
set_option linter.unusedVariables false
noncomputable section
namespace Go.Proofs.YtankopenjcbeeaaGreatDoor
open Go
open Option renaming some→O,none→N
open Go renaming TypeId→G,Value→D,Program→I,Oper→M,World→J,Code→W
open Bool renaming true→T,false→Z
open Decidable renaming decide→Y
open YtankopenjcbeeaaGreatDoor renaming PVal→U
def Ow(P:I)(GE:V (Nat×V U))(o:U)(b:V U)(H:V ay)(s:U->V (Nat×G)->V ay->Prop):Prop:=
 match o with
 | .func (.func g) first cap =>
  (ie 0 (first++b++cap)/\∃r d,C P GE g (first++b++cap) [] [] r d []/\s r d H)\/
  (∃(ρ:V Nat)(a:V U)(h:V ay)(m:U)(d:V (Nat×G))(c e:V ay)(r:U),ρ.Nodup/\C P GE g a [] h m d c/\J7 ρ H h/\J7 ρ e c/\
   e.length=H.length/\(∀j:Nat,j∉ρ->e[j]? =H[j]?)/\DG ρ r m/\(first++b++cap).length=a.length/\
   (∀(i:Nat) p q,(first++b++cap)[i]? =O p->a[i]? =O q->DG ρ p q)/\s r d e)
 |_=>False
def Xs(P:I)(GE:V (Nat×V U))(a:Op)(id:Nat)(v:Operand->U)(H:V ay)(b:U->V (Nat×G)->V ay->Prop):Prop:=match a with|.call {callee:=.value f,args,..}=>Ow P GE (v f) (args.toList.map v) H b|a=>match yM P a id v H with|some (p,H')=>b p [] H'|none=>False
def Fy(b:az)(a:Q Tmp)(p:U)(c:V (Nat×G))(H:V ay):az:=match a with|some d=>{tmps:=b.tmps.set d p,boxes:=H,own:=(c.map λx=>((d,x.1),x.2))++bI d b.own}|none=>{b with boxes:=H}
def AS(P:I)(t:G)(v:D):Q G:=match v,P.underlying t with|.slice N 0 0,O (.slice e)=>O e|_,_=>N
def qQ(o:M)(n:Nat):K:=match o.op with|.call {callee:=.value _,..}=>o.dst.any λd=>Y (d<n)|_=>T
def Ti(P:I)(GE:V (Nat×V U))(A:V Nat)(o:M)(id:Nat)(c:az->Prop)(a:az):Prop:=
 let nm:=qQ o a.tmps.length=T/\Xs P GE o.op id (opv GE a.tmps) a.boxes λp b H=>c (Fy a o.dst p b H)
 match o.op,o.dst with
 |.assign (.tmp t),O d=>d<a.tmps.length/\c {a with tmps:=a.tmps.set d (a.tmps.getD t .undef),own:=ls d (λx=>if x.1=t then(d,x.2)else x) a.own}
 |.move (.tmp t),O d=>
  if d∈A then d<a.tmps.length/\c {a with tmps:=a.tmps.set d (a.tmps.getD t .undef),own:=ls d (λx=>if x.1=t then(d,x.2)else x) a.own}else nm
 |.assign (.const v),O d=>match AS P o.type v with
  |some e=>d<a.tmps.length/\c {a with tmps:=a.tmps.set d (.slice []),own:=((d,0),e)::bI d a.own}
  |none=>nm
 |.move (.const v),O d=>match AS P o.type v with
  |some e=>d<a.tmps.length/\c {a with tmps:=a.tmps.set d (.slice []),own:=((d,0),e)::bI d a.own}
  |none=>nm
 |.extract (.tmp t) i,O d=>match Cg (a.tmps.getD t .undef) i with
  |some p=>d<a.tmps.length/\c {a with tmps:=a.tmps.set d p,own:=ls d (λx=>if x=(t,i)then(d,0)else x) a.own}
  |none=>False
 |.buildSlice h len parts,O d=>match gu P h len (parts.toList.map λx=>(x.1,opv GE a.tmps x.2)),P.underlying h with
  |some p,O (.slice e)=>d<a.tmps.length/\c {a with tmps:=a.tmps.set d p,own:=((d,0),e)::bI d a.own}
  |_,_=>False
 | .call { callee := .builtin .append,args:=⟨[.tmp t,y]⟩,argTypes:=⟨[h,T']⟩ },O d => match P.underlying h,a.tmps.getD t .undef,opv GE a.tmps y with
  |some (.slice e),.slice es,.slice ns=>match ji P h es ns with
   |some p=>h=T'/\d<a.tmps.length/\((t,0),e)∈a.own/\c {a with tmps:=a.tmps.set d p,own:=((d,0),e)::bI d (a.own.filter λx=>x.1 !=(t,0))}
   |none=>False
  |_,_,_=>False
 | .load h x,O d =>
  if d∈A then match opv GE a.tmps x,P.underlying h with
   | .bptr i off,O (.slice e) => match a.boxes[i]? with
    |some (.cells cs own)=>match cs[off]? with
     |some p=>d<a.tmps.length/\(off,e)∈own/\c {tmps:=a.tmps.set d p,boxes:=a.boxes.set i (.cells cs (own.filter λx=>x.1 !=off)),own:=((d,0),e)::bI d a.own}
     |none=>False
    |_=>False
   |_,_=>False
  else nm
 | .store h x (.tmp t),_ => match a.own.find? (fun y => y.1 == (t,0)),opv GE a.tmps x,fE P h (opv GE a.tmps x) (a.tmps.getD t .undef) a.boxes with
  |some (_,e),.bptr i off,O H=>match H[i]?,(a.tmps.getD t .undef).one with
   |some (.cells cs own),T=>c (Fy {a with own:=a.own.filter λx=>x.1 !=(t,0)} o.dst (.val undef) [] (H.set i (.cells cs ((off,e)::own))))
   |_,_=>nm
  |_,_,_=>nm
 |_,_=>nm
section
variable{P:I}{E:qy}{Γ:aS}{bs:bC}{m:Nat->Q kg}{w:J}{a:Act}{st:az}
def iw(P:I)(E:qy)(bs:bC)(id:Nat)(mk:K)(d:V Deferred)(e:az->Prop)(a:Act)(w:J):Prop:=a.defers=d/\∃Γ c m st,SR P E Γ c m w a.tmps st/\e st/\(c=bs\/(mk=T/\∃b,c=bs.set id (O b)))
def SR.putv_nil(h:SR P E Γ bs m w a.tmps st){p:U}{v:D}(e:VR Γ bs w p v)(b:Q Tmp){H:V ay}(c:H=st.boxes):SR P E Γ bs m w (a.put b v).tmps (Fy st b p [] H):=by subst c;cases b with|none=>exact h|some d=>exact h.set e
theorem aW(a:Act)(b:Q Tmp)(v:D):(a.put b v).defers=a.defers:=by cases b<;>rfl
def NX{n:Nat}{l r:V U}:ie n (l++r)↔ie n l/\ie n r:=by induction l with|nil=>simp[ie]|cons p l ih=>grind [vaT,ie]
def XP{l r:V U}{x y:Array D}(c:x.size=l.length)(h:∀(i:Nat) p v,l[i]? =O p->x[i]? =O v->VR Γ bs w p v)(b:∀(i:Nat) p v,r[i]? =O p->y[i]? =O v->VR Γ bs w p v)
  (i:Nat) (p:U) (v:D) (d:(l++r)[i]? =O p) (e:(x++y)[i]? =O v):VR Γ bs w p v:=by grind
def qaf(h:SR P E Γ bs m w a.tmps st){o:M}{f:Operand}{args:Array Operand}{a2:Array G}(ho:o.op=.call {callee:=.value f,args,argTypes:=a2}){d:Nat}(t:o.dst=O d)(hd:d<st.tmps.length)
  {a3:U->V (Nat×G)->V ay->Prop} (L:Ow P E.GE (opv E.GE st.tmps f) (args.toList.map (opv E.GE st.tmps)) st.boxes a3) (next:Act->J->Prop) (Q:Exit->Act->J->Prop)
  (hn:∀v s q A p z H,a3 p z H->SR P E s bs q A (a.put o.dst v).tmps (Fy st o.dst p z H)->next (a.put o.dst v) A):o.wp P a w next Q:=by
 have S:∀x,VR Γ bs w (opv E.GE st.tmps x) (a.eval x):=λx=>h.opv a.defers x
 unfold Ow at L
 have hf:=S f
 split at L
 case h_2=>simp_all
 rename_i g first cap hfv
 rw[hfv]at hf
 generalize a1:a.eval f=vf at hf
 cases hf with
 |func _ _ _ fs cs hl hl' h1 h2=>
 have b:(fs++args.map a.eval++cs).size=(first++args.toList.map (opv E.GE st.tmps)++cap).length:=by simp_all
 have R:∀(i:Nat) p v,(first++args.toList.map (opv E.GE st.tmps)++cap)[i]? =O p->(fs++args.map a.eval++cs)[i]? =O v->VR Γ bs w p v:=by refine XP (by simp[hl]) (XP hl h1 λi p v L hv=>?_) h2;exact Me S args.toList i p v L (by simpa using hv)
 have y:∀c:(∀vs w,(callFunc g vs).run P w=.ok (.enter g vs) w),(execOp a.eval o).run P w=.ok (.enter g (fs++args.map a.eval++cs)) w:=by intro c;simp[execOp,ho,resolve,a1,Deferred.ofValue,invoke,c]
 have F:d<a.tmps.size:=by rw[h.sz];omega
 unfold Oper.wp
 rcases L with⟨a0,r,z,B,X⟩|⟨ρ,argsC,Hc,rc,z,Hc',H',r,hnd,B,hH,hH',hlen,hsame,hr,hal,ha,X⟩
 .rw[y B.1]
  rw[Oper.upon_enter]
  refine(qfQ h F B b R a0).mono λe A he=>?_
  obtain⟨v,s,q,rfl,hS,_⟩:=he
  refine hn v s q A r z st.boxes X ?_
  rw[t];exact hS
 .rw[y B.1]
  rw[Oper.upon_enter]
  refine(qc0 h F hnd B hH hH' hlen hsame hr hal ha b R).mono λe A he=>?_
  obtain⟨v,s,q,rfl,hS,_⟩:=he
  refine hn v s q A r z H' X ?_
  rw[t];exact hS
def qcz{o:M}{next:Act->J->Prop}{c:Exit->Act->J->Prop}{r:Next}{v:D}{w':J}(b:r=.value v\/(r=.skip/\v=undef))(h:next (a.put o.dst v) w'):o.upon P a next c (.ok r w'):=by
 rcases b with rfl|⟨rfl,rfl⟩;.exact h
 .exact h
def qgY(h:SR P E Γ bs m w a.tmps st){o:M}{id:Nat}(A:aD o.op=T->bs[id]? =O N){a0:U->V (Nat×G)->V ay->Prop}(x:Xs P E.GE o.op id (opv E.GE st.tmps) st.boxes a0)
  (next:Act->J->Prop) (Q:Exit->Act->J->Prop)
  (t:∀f args q,o.op=.call {callee:=.value f,args,argTypes:=q}->∃d,o.dst=O d/\d<st.tmps.length)
  (L:∀v e c i s p y H,a0 p y H->SR P E e c i s (a.put o.dst v).tmps (Fy st o.dst p y H)->(c=bs\/(aD o.op=T/\∃b,c=bs.set id (O b)))->next (a.put o.dst v) s):o.wp P a w next Q:=by
 unfold Xs at x
 split at x
 .rename_i f args q R
  let⟨d,F,z⟩:=t f args q R
  exact qaf h R F z x next Q λv e i s p y H hK hS=>L v e bs i s p y H hK hS (.inl rfl)
 .split at x
  .rename_i p H he
   let⟨r,v,s,e,c,S,X,B,h4,h5,h6,h7⟩:=qgZ h a.defers A he
   unfold Oper.wp
   rw[show(execOp a.eval o).run P w=.ok r s from S]
   refine qcz X (L v e c m s p [] H x ?_ ?_)
   .cases F:o.dst with
    |none=>exact B
    |some d=>exact B.set h4
   grind
  simp_all
def qa1{o:M}{n:Nat}(h:qQ o n=T)(f:Operand)(args:Array Operand)(b:Array G)(c:o.op=.call {callee:=.value f,args,argTypes:=b}):∃d,o.dst=O d/\d<n:=by unfold qQ at h;rw[c]at h;cases e:o.dst with|none=>simp_all|some d=>simp_all
def iw.of{o:M}{id:Nat}{y:az->Prop}(h:SR P E Γ bs m w a.tmps st)(c:aD o.op=T->bs[id]? =O N)(s:qQ o st.tmps.length=T) (t:Xs P E.GE o.op id (opv E.GE st.tmps) st.boxes λp x H=>y (Fy st o.dst p x H)) (Q:Exit->Act->J->Prop):o.wp P a w (iw P E bs id (aD o.op) a.defers y) Q:=qgY h c t _ Q (qa1 s) λ_ e b d _ _ _ _ i q r=>⟨aW _ _ _,e,b,d,_,q,i,r⟩
def Bv(h:SR P E Γ bs m w a.tmps st){t:Nat}{v:D}(c:a.tmps[t]? =O v):VR Γ bs w (st.tmps.getD t .undef) v:=by
 have b:t<st.tmps.length:=by rw[<-h.sz];grind
 have:=h.tm t _ v (m3 b) c;simp_all
theorem bu{t:Nat}{v:D}(b:a.tmps[t]? =O v):a.eval (.tmp t)=v:=by show a.tmps.getD t undef=v;simp_all
def H4(h:SR P E Γ bs m w a.tmps st){o:M}{id t d:Nat}{K:az->Prop}(i:o.op=.assign (.tmp t)\/o.op=.move (.tmp t))(b:o.dst=O d)(z:d<st.tmps.length)
  (q:K {st with tmps:=st.tmps.set d (st.tmps.getD t .undef),own:=ls d (λx=>if x.1=t then(d,x.2)else x) st.own}) (Q:Exit->Act->J->Prop):
  o.wp P a w (iw P E bs id (aD o.op) a.defers K) Q:=by
 unfold Oper.wp
 have e:(execOp a.eval o).run P w=.ok (.value (a.eval (.tmp t))) w:=by rcases i with i|i<;>simp[execOp,i]
 rw[e,Oper.upon_value]
 have s:VR Γ bs w (st.tmps.getD t .undef) (a.eval (.tmp t)):=h.opv a.defers (.tmp t)
 have:=h.setRen (d:=d) (p:=st.tmps.getD t .undef) s (λx=>if x.1=t then(d,x.2)else x) (by rw[h.sz];omega) λB A y _ r=>by grind [bu]
 have c:∀v,(a.put o.dst v).tmps=a.tmps.setIfInBounds d v:=λv=>by rw[b];rfl
 rw[<-c]at this
 exact⟨aW _ _ _,Γ,bs,_,_,this,q,.inl rfl⟩
def Se(h:SR P E Γ bs m w a.tmps st){o:M}{id d:Nat}{e:G}{v:D}{K:az->Prop}(r:o.op=.assign (.const v)\/o.op=.move (.const v))(c:o.dst=O d)(F:d<st.tmps.length)
  (A:AS P o.type v=O e) (y:K {st with tmps:=st.tmps.set d (.slice []),own:=((d,0),e)::bI d st.own}) (Q:Exit->Act->J->Prop):
  o.wp P a w (iw P E bs id (aD o.op) a.defers K) Q:=by
 unfold Oper.wp
 have q:(execOp a.eval o).run P w=.ok (.value v) w:=by rcases r with r|r<;>simp[execOp,r,Act.eval]
 rw[q,Oper.upon_value]
 have B:v=.slice N 0 0:=by unfold AS at A;grind
 subst B
 have x:=h.set (d:=d) (p:=.slice []) (v:=.slice N 0 0) .sliceNil
 have z:d<a.tmps.size:=by rw[h.sz];omega
 have t:=x.addOwn (d:=d) (k:=0) (e:=e) (u:=.slice N 0 0) (v:=.slice N 0 0) (by simp_all) rfl ⟨0,[],World.ownsRow_nil _ _ _ _,λb s=>by simp[Value.ownBlock]at s⟩ (λb s=>by simp[Value.ownBlock]at s)
 have i:∀v,(a.put o.dst v).tmps=a.tmps.setIfInBounds d v:=λv=>by rw[c];rfl
 rw[<-i]at t
 exact⟨aW _ _ _,Γ,bs,_,_,t,y,.inl rfl⟩
def Xb(h:SR P E Γ bs m w a.tmps st){o:M}{id t i d:Nat}{p:U}{a1:az->Prop}(L:o.op=.extract (.tmp t) i)(c:o.dst=O d)(hd:d<st.tmps.length)
  (R:Cg (st.tmps.getD t .undef) i=O p)
  (H:a1 {st with tmps:=st.tmps.set d p,own:=ls d (λx=>if x=(t,i)then(d,0)else x) st.own}) (Q:Exit->Act->J->Prop):
  o.wp P a w (iw P E bs id (aD o.op) a.defers a1) Q:=by
 unfold Oper.wp
 let⟨v,F,hv⟩:=Qt (P:=P) (h.opv a.defers (.tmp t)) R
 have q:(execOp a.eval o).run P w=.ok (.value v) w:=by simp[execOp,L,F]
 rw[q,Oper.upon_value]
 have s:∃z,a.eval (.tmp t)=.tuple z/\z[i]? =O v:=by
  have y:(Instr.extract (a.eval (.tmp t)) i).run P w=.ok v w:=F;unfold Instr.extract at y;split at y
  .rename_i z he;split at y;.simp_all
   simp_all
  simp_all
 let⟨z,r,a0⟩:=s
 have:=h.setRen (d:=d) (p:=p) hv (λx=>if x=(t,i)then(d,0)else x) (by rw[h.sz];omega) λt' k' e' _ S=>by
  by_cases y:(t',k')=(t,i)
  .cases y;refine .inr ⟨0,by simp,λu v' X A b=>?_⟩;rw[bu X]at r;subst r;have B:v=v':=by have:z[i]? =O v':=A;simp_all
   subst B;let⟨n,xs,⟨_,b⟩,_⟩:=b;rcases b with⟨rfl,_⟩|⟨g,cap,cur,rfl,_⟩<;>rfl
  simp_all
 have e:∀v,(a.put o.dst v).tmps=a.tmps.setIfInBounds d v:=λv=>by rw[c];rfl
 rw[<-e]at this
 exact⟨aW _ _ _,Γ,bs,_,_,this,H,.inl rfl⟩
def FX(h:SR P E Γ bs m w a.tmps st){o:M}{id len d:Nat}{a1 e:G}{c:Array (Nat×Operand)}{p:U}{K:az->Prop}(ho:o.op=.buildSlice a1 len c)(i:o.dst=O d)(hd:d<st.tmps.length)
  (B:P.underlying a1=O (.slice e)) (hp:gu P a1 len (c.toList.map λx=>(x.1,opv E.GE st.tmps x.2))=O p)
  (hK:K {st with tmps:=st.tmps.set d p,own:=((d,0),e)::bI d st.own}) (Q:Exit->Act->J->Prop):
  o.wp P a w (iw P E bs id (aD o.op) a.defers K) Q:=by
 have t:∀x,VR Γ bs w (opv E.GE st.tmps x) (a.eval x):=λx=>h.opv a.defers x
 let⟨k1,k2⟩:=GA t c.toList
 let⟨v,w',y,H,R,h3,S,A,X⟩:=Ji h k1 k2 hp
 have r:(execOp a.eval o).run P w=.ok (.value v) w':=by
  have:(c.map λx=>(x.1,a.eval x.2))=(c.toList.map λx=>(x.1,a.eval x.2)).toArray:=by grind
  simp only[execOp,ho];rw[this];simp[H]
 unfold Oper.wp
 rw[r,Oper.upon_value]
 have a0:d<a.tmps.size:=by rw[h.sz];omega
 have F:=R.set (d:=d) S
 have z:=F.addOwn (d:=d) (k:=0) (e:=e) (u:=v) (v:=v) (by grind) (by
   let⟨n,xs,⟨_,s⟩,_⟩:=A e B;rcases s with⟨rfl,_⟩|⟨g,cap,cur,rfl,_⟩<;>rfl) (A e B) (λb hb=>by
   have:=X b hb;subst this;refine⟨?_,.inr h.step.size⟩;cases hL:m w.heap.size with
   |none=>rfl
   |some L=>exact absurd (h.on _ L hL).1 (vb5 _))
 have q:∀v,(a.put o.dst v).tmps=a.tmps.setIfInBounds d v:=λv=>by rw[i];rfl
 rw[<-q]at z
 exact⟨aW _ _ _,y,bs,_,_,z,hK,.inl rfl⟩
def eI.part{v:D}{e:G}(h:eI P Γ w v e):jz v 0=O v:=by let⟨n,c,⟨_,b⟩,_⟩:=h;rcases b with⟨rfl,_⟩|⟨g,cap,cur,rfl,_⟩<;>rfl
def Uv{u v:D}(c:jz u 0=O v)(e:∀b,u≠.tuple b)(d:∀b,u≠.agg b):u=v:=by cases u<;>simp[jz]at c<;>first|omega|simp_all|simp_all
def Px(h:SR P E Γ bs m w a.tmps st){o:M}{id t d:Nat}{a1 e:G}{y:Operand}{R ns:V (V U)}{p:U}{K:az->Prop}(ho:o.op=.call {callee:=.builtin .append,args:=⟨[.tmp t,y]⟩,argTypes:=⟨[a1,a1]⟩})
  (i:o.dst=O d) (hd:d<st.tmps.length) (hT:P.underlying a1=O (.slice e)) (A:st.tmps.getD t .undef=.slice R) (z:opv E.GE st.tmps y=.slice ns) (hp:ji P a1 R ns=O p) (q:((t,0),e)∈st.own)
  (hK:K {st with tmps:=st.tmps.set d p,own:=((d,0),e)::bI d (st.own.filter λx=>x.1 !=(t,0))}) (Q:Exit->Act->J->Prop):
  o.wp P a w (iw P E bs id (aD o.op) a.defers K) Q:=by
 let⟨u,v,X,h2,h3,h4⟩:=h.ot t 0 e q
 have c:=Bv h X
 rw[A]at c
 have B:u=v:=Uv h2 (λvs F=>by subst F;cases c) (λvs F=>by subst F;cases c)
 subst B
 have hf:=h.freeT t 0
 have hy:VR Γ bs w (opv E.GE st.tmps y) (a.eval y):=h.opv a.defers y
 rw[z]at hy
 let⟨H,w',L,r1,r2,r3,r4,r5,r6⟩:=Tf (ty:=o.type) hf hT c hy h3 (λb hb=>⟨by simp_all,(h.on b _ (h4 b hb)).2⟩) hp
 have s:(execOp a.eval o).run P w=.ok (.value H) w':=by simp[execOp,ho,resolve,invoke,builtin,bu X,r1]
 unfold Oper.wp
 rw[s,Oper.upon_value]
 have a0:d<a.tmps.size:=by rw[h.sz];omega
 have g1:=r2.set (d:=d) r4
 have S:=g1.addOwn (d:=d) (k:=0) (e:=e) (u:=H) (v:=H) (by simp_all) r5.part r5 r6
 have r:∀v,(a.put o.dst v).tmps=a.tmps.setIfInBounds d v:=λv=>by rw[i];rfl
 rw[<-r]at S
 exact⟨aW _ _ _,L,bs,_,_,S,hK,.inl rfl⟩
def Nw(h:SR P E Γ bs m w a.tmps st){o:M}{id i c d:Nat}{a2 e:G}{x:Operand}{p:U}{A:V U}{own:V (Nat×G)}{K:az->Prop}(ho:o.op=.load a2 x)
  (r:o.dst=O d) (hd:d<st.tmps.length) (hT:P.underlying a2=O (.slice e)) (hx:opv E.GE st.tmps x=.bptr i c) (S:st.boxes[i]? =O (.cells A own)) (hp:A[c]? =O p) (s:(c,e)∈own)
  (hK:K {tmps:=st.tmps.set d p,boxes:=st.boxes.set i (.cells A (own.filter λx=>x.1 !=c)),own:=((d,0),e)::bI d st.own}) (Q:Exit->Act->J->Prop):
  o.wp P a w (iw P E bs id (aD o.op) a.defers K) Q:=by
 have q:VR Γ bs w (opv E.GE st.tmps x) (a.eval x):=h.opv a.defers x
 let⟨v,F,hv⟩:=xj h q (t:=a2) (p:=p) (by simp_all[mt,cO,List.head])
 have z:(execOp a.eval o).run P w=.ok (.value v) w:=by simp[execOp,ho,F]
 unfold Oper.wp
 rw[z,Oper.upon_value]
 rw[hx]at q
 generalize a1:a.eval x=vx at q F
 cases q with
 |bptr _ _ b hb=>
 let⟨v',q1,X,q3⟩:=h.ob i c e A own b S s hb
 have H:v=v':=by
  have:(loadVar a2 ⟨b,c,N⟩).run P w=.ok v w:=by simpa[Instr.loadAt,Instr.sureAddr]using F
  simp[loadVar,isAgg,run_underlying hT,q1]at this;simp_all
 subst H
 have a0:d<a.tmps.size:=by rw[h.sz];omega
 have g0:=h.freeB (j:=c) S
 have g1:=g0.set (d:=d) hv
 have R:=g1.addOwn (d:=d) (k:=0) (e:=e) (u:=v) (v:=v) (by simp_all) X.part X (λL B=>⟨by simp_all,(h.on L _ (q3 L B)).2⟩)
 have y:∀v,(a.put o.dst v).tmps=a.tmps.setIfInBounds d v:=λv=>by rw[r];rfl
 rw[<-y]at R
 exact⟨aW _ _ _,Γ,bs,_,_,R,hK,.inl rfl⟩
def LE(h:SR P E Γ bs m w a.tmps st){o:M}{id i d t:Nat}{ao e:G}{x:Operand}{cs:V U}{own:V (Nat×G)}{H:V ay}{K:az->Prop}(ho:o.op=.store ao x (.tmp t))
  (F:opv E.GE st.tmps x=.bptr i d) (B:fE P ao (opv E.GE st.tmps x) (st.tmps.getD t .undef) st.boxes=O H) (hB:H[i]? =O (.cells cs own)) (r:(st.tmps.getD t .undef).one=T) (S:((t,0),e)∈st.own)
  (hK:K (Fy {st with own:=st.own.filter λx=>x.1 !=(t,0)} o.dst (.val undef) [] (H.set i (.cells cs ((d,e)::own))))) (Q:Exit->Act->J->Prop):
  o.wp P a w (iw P E bs id (aD o.op) a.defers K) Q:=by
 let⟨u,v,h1,h2,h3,h4⟩:=h.ot t 0 e S
 have a0:=Bv h h1
 have y:=VR.one a0 r
 have a5:u=v:=Uv h2 (λvs F=>by subst F;cases y) (λvs F=>by subst F;cases y)
 subst a5
 have z:VR Γ bs w (opv E.GE st.tmps x) (a.eval x):=h.opv a.defers x
 have hf:=h.freeT t 0
 let⟨w',r1,r2,r3⟩:=Wt hf z a0 B
 have X:(execOp a.eval o).run P w=.ok .skip w':=by simp[execOp,ho,bu h1,r1]
 unfold Oper.wp
 rw[X,Oper.upon_skip]
 rw[F]at z
 generalize ad:a.eval x=vx at z r1
 cases z with
 |bptr _ _ b hb=>
 have R:i<st.boxes.length:=by rw[<-h.bl];grind
 have a9:Γ b=N:=(h.bx i b _ hb (m3 R)).1
 have hw:∃x0,w.cell? ⟨b,d,N⟩=O x0/\w'=w.setCell ⟨b,d,N⟩ u:=by
  have hr:(storeVar ao ⟨b,d,N⟩ u).run P w=.ok () w':=by simpa[Instr.storeAt,Instr.sureAddr]using r1
  rw[F]at B;unfold fE at B;have a4:bF (st.tmps.getD t .undef)=O [st.tmps.getD t .undef]:=by
   unfold bF;split;.rename_i c hc;rw[hc]at r;cases r
   simp_all
  simp only[a4]at B;split at B
  .rename_i a8 a7 a2;split at B
   .rename_i hc;let⟨c1,p,c2,_⟩:=hc;let⟨an,p⟩:=vaS.1 p;let⟨c,t',e1,e2,e3,e4⟩:=h.box_cells hb a2;have ab:d<c.size:=by grind
    have q:w.cell? ⟨b,d,N⟩=O c[d]:=by simp_all
    refine⟨_,q,?_⟩;have a3:w.frozen? ⟨b,d,N⟩=false:=frozen_of_row w b d c t' e1;unfold storeVar at hr;rw[S0 y]at hr;have a1:P.cellsOf ao=1:=by simp_all
    simp[run_sizeOf w p,a1,storeCells,Addr.add_lit,run_store _ _ _ _ _ y,q,a3]at hr;simp_all
   simp_all
  simp_all
 obtain⟨x0,a6,rfl⟩:=hw
 have s:(w.setCell ⟨b,d,N⟩ u).cell? ⟨b,d,N⟩=O u:=World.cell?_setCell_same w _ _ a6
 have A:eI P Γ (w.setCell ⟨b,d,N⟩ u) u e:=h3.same λb' L=>by refine⟨heap_setCell_other w _ _ _ (λhe=>?_),rfl⟩;let⟨n,xs,_,o2⟩:=h3;simp_all
 have g1:=r2.addOwnB (i:=i) (b:=b) (j:=d) (e:=e) (v:=u) hb hB s A (λb' L=>⟨by simp_all,(h.on b' _ (h4 b' L)).2⟩)
 exact⟨aW _ _ _,Γ,bs,_,_,g1.putv_nil (.val undef) o.dst rfl,hK,.inl rfl⟩
end
def Ci(c:Array M)(a:V U)(j:Nat):Q (Q K):=match(c[j]?).bind (·.dst)with|none=>O N|some t=>match a[t]? with|none=>O N|some (.bool b)=>O (O b)|some .undef=>N|some (.val (.bool b))=>O (O b)|some _=>O N
def qX(P:I)(o:M):Q ay:=match o.op with|.alloc t=>O (match eR P t with|some zs=>.cells zs (Tj P t)|none=>.dead)|.box .. =>O .dead|.makeMap .. =>O (.map [])|_=>N
def gG(P:I)(a:V M):V ay:=a.filterMap (qX P)
section
variable{P:I}{E:qy}{Γ:aS}{bs:bC}{c:Nat->Q kg}{w:J}{a:Act}{st:az}
def qcg(h:SR P E Γ bs c w a.tmps st){A:V Nat}{o:M}{id:Nat}(m:aD o.op=T->bs[id]? =O N){a1:az->Prop}(b:Ti P E.GE A o id a1 st)(Q:Exit->Act->J->Prop):o.wp P a w (iw P E bs id (aD o.op) a.defers a1) Q:=by
 unfold Ti at b;split at b;case h_1 t d ho hd=>exact H4 h (.inl ho) hd b.1 b.2 Q
 case h_2 t d ho hd=>
  split at b
  .exact H4 h (.inr ho) hd b.1 b.2 Q
  .exact iw.of h m b.1 b.2 Q
 case h_3 v d ho hd=>
  split at b
  .rename_i e q;exact Se h (.inl ho) hd b.1 q b.2 Q
  .exact iw.of h m b.1 b.2 Q
 case h_4 v d ho hd=>
  split at b
  .rename_i e q;exact Se h (.inr ho) hd b.1 q b.2 Q
  .exact iw.of h m b.1 b.2 Q
 case h_5 t i d ho hd=>
  split at b
  .rename_i p q;exact Xb h ho hd b.1 q b.2 Q
  .exact b.elim
 case h_6 a2 len parts d ho hd=>
  split at b
  .rename_i p e q r;exact FX h ho hd b.1 r q b.2 Q
  .exact b.elim
 case h_7 t y a2 T' d ho hd=>
  split at b
  .rename_i e es ns r q hn
   split at b
   .rename_i p R
    obtain⟨rfl,F,B,h3⟩:=b
    exact Px h ho hd F r q hn R B h3 Q
   .exact b.elim
  .exact b.elim
 case h_8 a2 x d ho hd=>
  split at b
  .split at b
   .rename_i i a0 e X r
    split at b
    .rename_i cs own L
     split at b
     .rename_i p hc
      exact Nw h ho hd b.1 r X L hc b.2.1 b.2.2 Q
     .exact b.elim
    .exact b.elim
   .exact b.elim
  .exact iw.of h m b.1 b.2 Q
 case h_9 a2 x t ho=>
  split at b
  .rename_i y e i a0 H hf X S
   split at b
   .rename_i cs own L z
    have s:((t,0),e)∈st.own:=by have F:=vbx hf;have B:=vcj hf;simp only[vbf]at B;subst B;exact F
    exact LE h ho X S L z s b Q
   .exact iw.of h m b.1 b.2 Q
  .exact iw.of h m b.1 b.2 Q
 case h_10=>exact iw.of h m b.1 b.2 Q
def Th(h:SR P E Γ bs c w a.tmps st){e:Array M}{j:Nat}{x:Q K}(d:Ci e st.tmps j=O x):yielded e a.tmps j=x:=by
 unfold Ci at d;unfold yielded;cases r:(e[j]?).bind (·.dst)with
 |none=>rw[r]at d;cases d;rfl
 | some t =>
  rw[r]at d;simp only[eJ];simp only at d;cases i:st.tmps[t]? with
  | none =>
   rw[i]at d;cases d;have:a.tmps[t]? =N:=by rw[List.getElem?_eq_none_iff]at i;rw[vbL,h.sz];exact i
   rw[this]
  | some p =>
   have q:t<a.tmps.size:=by rw[h.sz];exact aq i
   have m:a.tmps[t]? =O a.tmps[t]:=by simp[q]
   have o:=h.tm t p _ i m;rw[i]at d;rw[m];generalize a.tmps[t]=v at o;cases p<;>(try simp only at d);case undef=>cases d
   case bool b=>cases d;cases o;rfl
   case val u=>
    cases o
    cases v<;>(try simp only at d)<;>cases d<;>rfl
   all_goals (cases d;cases o<;>rfl)
def SR.extend(h:SR P E Γ bs c w a.tmps st)(X:V ay):SR P E Γ (bs++List.replicate X.length N) c w a.tmps {st with boxes:=st.boxes++X}:=by
 have d:∀{i b:Nat},(bs++List.replicate X.length N)[i]? =O (O b)->bs[i]? =O (O b):=by
  intro i b m;by_cases y:i<bs.length;.rwa[B2 y]at m
  .rw[Lf (by omega),vaW]at m;split at m<;>cases m
 have o:bs.Sub (bs++List.replicate X.length N):=λi b m=>by rw[B2 (aq m)];exact m
 have q:∀{i b:Nat}{B:ay},bs[i]? =O (O b)->(st.boxes++X)[i]? =O B->st.boxes[i]? =O B:=by intro i b B m r;rwa[B2 (by rw[<-h.bl];exact aq m)]at r
 exact{h with
  tm:=λt p v L R=>(h.tm t p v L R).mono (.refl _ _) o
  bl:=by simp[h.bl]
  bx:=λi b B m r=>by let⟨z,A,F⟩:=h.bx i b B (d m) (q (d m) r);exact⟨z,A,F.mono (.refl _ _) o rfl⟩
  inj:=λi j b m x=>h.inj i j b (d m) (d x)
  bn:=λi b m=>h.bn i b (d m)
  ob:=λi j e s own b r x m=>h.ob i j e s own b (q (d m) r) x (d m)
  gl:=λg s H=>(h.gl g s H).mono (.refl _ _) o}
def XH(b bs:bC):Prop:=∀i:Nat,i<b.length->bs[i]? =b[i]?
def Y5(P:I)(E:qy)(b:bC)(st:az)(a:Act)(w:J):Prop:=∃Γ bs c,SR P E Γ bs c w a.tmps st/\XH b bs
def cG(b:V M):Nat:=(b.filter λo=>aD o.op).length
theorem Jk(P:I)(ops:V M):(gG P ops).length=cG ops:=by unfold gG cG;induction ops with|nil=>rfl|cons o ops ih=>simp only[List.filterMap_cons,vbD];cases b:o.op<;>simp[qX,aD,b,ih]
end
def cW(P:I):Op->Nat
 |.load .. |.lookup .. =>2
 |.store .. |.mapUpdate .. =>3
 | .call c => match c.callee with
  |.value (.func _)=>0
  |.value _=>3
  | .builtin .len => match c.argTypes.toList with|[t]=>(match P.underlying t with|some (.map ..)=>2|_=>0)|_=>0
  |_=>0
 |_=>0
def jX(a:V Nat)(o:M):Nat:=o.after.toList.foldl (λs e=>if Region.binds .any e then s|||2 ^ e.on|||a.getD e.on 0 else s) 0
def NQ(b:V M):V Nat:=b.foldl (λa o=>a++[jX a o]) []
def looks(a:Array M)(o:M):V Tmp:=(o.op.operands.toList.filterMap λ|.tmp t=>O t|_=>N)++(match o.guard with|some (j,_)=>((a[j]?).bind (·.dst)).toList|none=>[])
section
variable{P:I}{GE:V (Nat×V U)}
def Pv{b:V Nat}{o:M}{i:Nat}(h:(jX b o).testBit i=T):∃e∈o.after.toList,Region.binds .any e=T/\(e.on=i\/(b.getD e.on 0).testBit i=T):=by
 unfold jX at h
 have m:∀(l:V Edge)(s:Nat),(l.foldl (λs e=>if Region.binds .any e then s|||2 ^ e.on|||b.getD e.on 0 else s) s).testBit i=T->
   s.testBit i=T\/∃e∈l,Region.binds .any e=T/\(e.on=i\/(b.getD e.on 0).testBit i=T):=by
  intro l
  induction l with
  |nil=>intro s c;exact .inl c
  | cons e l ih =>
   intro s c
   simp only[List.foldl_cons]at c
   rcases ih _ c with a|⟨e',h1,h2⟩
   .split at a
    .rename_i p
     simp only[Nat.testBit_or,vbh]at a
     rcases a with(a|a)|a
     .exact .inl a
     .refine .inr ⟨e,by simp,p,.inl ?_⟩
      rw[Nat.testBit_two_pow]at a
      simpa using a
     .exact .inr ⟨e,by simp,p,.inr a⟩
    .exact .inl a
   .exact .inr ⟨e',by simp[h1],h2⟩
 rcases m _ 0 h with d|d;.simp at d
 .exact d
def XN(c:V M):(NQ c).length=c.length/\∀(j i:Nat),((NQ c).getD j 0).testBit i=T->∃o,c[j]? =O o/\∃e∈o.after.toList,Region.binds .any e=T/\(e.on=i\/(e.on<j/\((NQ c).getD e.on 0).testBit i=T)):=by
 unfold NQ
 have y:∀(rest a:V M)(acc:V Nat),acc.length=a.length->
   (∀(j i:Nat),(acc.getD j 0).testBit i=T->∃o,(a++rest)[j]? =O o/\∃e∈o.after.toList,Region.binds .any e=T/\(e.on=i\/(e.on<j/\(acc.getD e.on 0).testBit i=T)))->
   (rest.foldl (λacc o=>acc++[jX acc o]) acc).length=(a++rest).length/\∀(j i:Nat),((rest.foldl (λacc o=>acc++[jX acc o]) acc).getD j 0).testBit i=T->
    ∃o,(a++rest)[j]? =O o/\∃e∈o.after.toList,Region.binds .any e=T/\(e.on=i\/(e.on<j/\((rest.foldl (λacc o=>acc++[jX acc o]) acc).getD e.on 0).testBit i=T)):=by
  intro rest
  induction rest with
  |nil=>intro a acc s h;exact⟨by simpa using s,by simpa using h⟩
  | cons o rest ih =>
   intro a acc s h
   simp only[List.foldl_cons]
   have b:a++o::rest=(a++[o])++rest:=by simp
   rw[b]
   refine ih (a++[o]) (acc++[jX acc o]) (by simp[s]) (λj i r=>?_)
   have d:∀m,m<acc.length->(acc++[jX acc o]).getD m 0=acc.getD m 0:=λm E=>by rw[vav,vav,B2 E]
   by_cases B:j<acc.length
   .rw[d j B]at r
    let⟨F,t,e,w,p,A⟩:=h j i r
    refine⟨F,by rw[<-b];exact t,e,w,p,A.imp id λz=>⟨z.1,?_⟩⟩
    rw[d _ (by omega)];exact z.2
   .by_cases x:j=acc.length
    .subst x
     have:(acc++[jX acc o]).getD acc.length 0=jX acc o:=by rw[vav,Lf (l8 _)];simp
     rw[this]at r
     let⟨e,t,w,p⟩:=Pv r
     refine⟨o,by rw[s];simp,e,t,w,?_⟩
     rcases p with p|p
     .exact .inl p
     .have q:e.on<acc.length:=by
       by_cases q:e.on<acc.length
       .exact q
       .rw[vav,vaU (by omega)]at p;simp at p
      exact .inr ⟨q,by rw[d _ q];exact p⟩
    .rw[vav,vaU (by simp;omega)]at r;simp at r
 have:=y c [] [] rfl (λj i r=>by simp at r);simpa using this
end
section
variable{P:I}{GE:V (Nat×V U)}
def qg0{a:Op}{id:Nat}{v:Operand->U}{H b:V ay}{p:U}(c:cW P a≠3)(e:aD a=Z)(h:yM P a id v H=O (p,b)):b=H:=by
 unfold yM at h;split at h
 all_goals first
  |(cases h;done)
  |(cases h;rfl)
  |(let⟨q,_,d⟩:=fP h;cases d;rfl)
  |(exact absurd rfl c)
  |(simp[aD]at e;done)
  |(split at h<;>first|(cases h;rfl)|cases h)
theorem qlQ{a:Op}{id:Nat}{v:Operand->U}{H:V ay}{p:U}(c:cW P a<2)(i:aD a=Z)(h:yM P a id v H=O (p,H))(b:V ay):yM P a id v b=O (p,b):=by
 unfold yM at h ⊢;split at h;case h_24 x t=>
  let⟨q,e,d⟩:=fP h
  cases d
  simp only[cW]at c
  have:Oy P t (v x) b=Oy P t (v x) H:=by
   unfold Oy;split<;>first|rfl|skip
   rename_i m _;simp[m]at c
  rw[this,e];rfl
 all_goals first
  |(cases h;done)
  |(cases h;rfl)
  |(let⟨q,e,d⟩:=fP h;cases d;simp only[e,or];done)
  |(simp[cW]at c;done)
  |(simp[aD]at i;done)
  |(split at h<;>first|(cases h;done)|(cases h;rfl)|(rename_i o;cases h;simp only[o];done))
def P5{l:V Operand}{v v':Operand->U}(h:∀x∈l,v x=v' x):l.map v=l.map v':=vbi h
def qjC{c:Op}{id:Nat}{v v':Operand->U}{H:V ay}(h:∀x∈c.operands.toList,v x=v' x):yM P c id v H=yM P c id v' H:=by
 unfold yM;split;all_goals (simp only[Op.operands,Call.operands]at h)
 all_goals first
  |(simp at h;simp[h];done)
  |skip
 case h_7 t parts=>
  rw[vbi (f:=λx:Nat×Operand=>(x.1,v x.2)) (g:=λx=>(x.1,v' x.2)) λx a=>by rw[h x.2 (l9.2 ⟨x,a,rfl⟩)]]
 case h_8 t len parts=>
  rw[vbi (f:=λx:Nat×Operand=>(x.1,v x.2)) (g:=λx=>(x.1,v' x.2)) λx a=>by rw[h x.2 (l9.2 ⟨x,a,rfl⟩)]]
 case h_15 fn first cap=>
  rw[P5 λx a=>h x (by simp at a ⊢;exact .inl a),P5 λx a=>h x (by simp at a ⊢;exact .inr a)]
 case h_16 t x lo hi=>
  have d:v x=v' x:=h x (by simp)
  have e:lo.map v=lo.map v':=by cases lo with|none=>rfl|some y=>simp only[or];rw[h y (by simp)]
  have i:hi.map v=hi.map v':=by cases hi with|none=>rfl|some y=>simp only[or];rw[h y (by simp)]
  rw[d,e,i]
 case h_25 x r tys=>
  rw[h x (by simp),P5 λy b=>h y (by simp[b])]
 case h_26 x r tys=>
  rw[h x (by simp),P5 λy b=>h y (by simp[b])]
end
section
variable{P:I}{E:qy}{Γ:aS}{bs:bC}{b:Nat->Q kg}{w:J}{a:Act}{st:az}
def QL{α:Type}:∀{l:List α}{i:Nat}{x:α},l[i]? =O x->l.set i x=l
 |[],_,_,h=>by simp at h
 |_::_,0,_,h=>by simp at h;subst h;rfl
 |y::l,i+1,x,h=>by simp only[List.set_cons_succ];rw[QL (by simpa using h)]
end
def bf(a:Array M)(i j:Nat):Prop:=((NQ a.toList).getD j 0).testBit i=T
def HW{α:Type}{l:V α}{i:Nat}{x d:α}(h:l[i]? =O x):l.getD i d=x:=by rw[vav,h];rfl
def du(a:Array K)(i:Nat):Prop:=a.getD i Z=T
def qmZ(b:Array M)(a:Array K):Prop:=∀(j:Nat) o,b[j]? =O o->du a j->∀e∈o.after.toList,Region.binds .any e=T->du a e.on
def Rj{b:Array M}{a:Array K}(w:qmZ b a):∀(j:Nat) o,b[j]? =O o->(∀e∈o.after.toList,Region.binds .any e=T->du a e.on)->∀i,bf b i j->du a i:=by
 intro j;induction j using Nat.strongRecOn with
 | _ j ih =>
  intro o y s i t;let⟨o',m,e,x,h,c⟩:=(XN b.toList).2 j i t;have:o'=o:=by
   have q:b[j]? =O o':=by simpa using m
   rw[y]at q;cases q;rfl
  subst this;have d:=s e x h;rcases c with c|⟨c,hb'⟩;.subst c;exact d
  .let⟨o2,p,_⟩:=(XN b.toList).2 e.on i hb';have r:b[e.on]? =O o2:=by simpa using p
   exact ih e.on c o2 r (w e.on o2 r d) i hb'
def gf{a:Array K}{i j:Nat}(c:i<a.size):du (a.setIfInBounds i T) j↔j=i\/du a j:=by
 unfold du;by_cases h:i=j
 .subst h;constructor;.intro _;exact .inl rfl
  .intro _;simp[c]
 .rw[getD_set_ne Z h];constructor;.exact .inr
  .rintro(rfl|b);.exact absurd rfl h
   .exact b
section
variable{P:I}{E:qy}{ops:Array M}{n base:Nat}{T:Nat->az}{bs0:bC}{ds:V Deferred}
def K2(ops:Array M)(base i:Nat):Nat:=base+cG (ops.toList.take i)
def zg(l r:V M):cG (l++r)=cG l+cG r:=by simp[cG]
def qeT{i j:Nat}{o:M}(h:ops[i]? =O o)(e:aD o.op=true)(c:i<j):K2 ops base i<K2 ops base j:=by
 unfold K2;have d:ops.toList[i]? =O o:=by simpa using h
 have a:ops.toList.take (i+1)=ops.toList.take i++[o]:=by rw[vcv,d];rfl
 have b:ops.toList.take j=ops.toList.take (i+1)++(ops.toList.take j).drop (i+1):=by have:=(vbY (i+1) (ops.toList.take j)).symm;rwa[List.take_take,Nat.min_eq_left (by omega)]at this
 rw[b,zg,a,zg];have:cG [o]=1:=by unfold cG;simp[e]
 omega
def Hk(n:Nat)(a:Array K):Nat:=((List.range n).filter λi=>!a.getD i Z).length
def qbm{l:V Nat}{p q:Nat->K}(c:∀i,q i=true->p i=true){j:Nat}(d:j∈l)(h:p j=true)(m:q j=Z):(l.filter q).length<(l.filter p).length:=by
 induction l with
 |nil=>cases d
 | cons x l ih =>
  have e:∀l:V Nat,(l.filter q).length<=(l.filter p).length:=by
   intro l;induction l with
   |nil=>simp
   | cons y l ih2 =>
    simp only[vbD];by_cases a:q y=true;.simp[a,c y a];exact ih2
    .by_cases b:p y=true;.simp[a,b];omega
     .simp[a,b];exact ih2
  simp only[vbD];rcases x8.1 d with rfl|d;.simp[h,m];have:=e l;omega
  .have:=ih d;by_cases a:q x=true;.simp[a,c x a];exact this
   .by_cases b:p x=true;.simp[a,b];omega
    .simp[a,b];exact this
end
section
variable{P:I}{E:qy}{w:J}{a:Act}{st:az}
theorem B4(m j:Nat):(Array.replicate m Z).getD j Z=false:=by rw[vaG,Array.getElem?_replicate];split<;>rfl
def Qu:∀(l:List M)(i:Nat)(o:M),l[i]? =O o->aD o.op=T->(gG P l)[cG (l.take i)]? =qX P o
 |[],_,_,h,_=>by simp at h
 |x::l,0,o,h,hm=>by
  simp at h;subst h;have:∃B,qX P x=O B:=by cases c:x.op<;>simp[aD,c]at hm<;>exact⟨_,by simp[qX,c];rfl⟩
  let⟨B,e⟩:=this;simp[gG,cG,e]
 | x :: l,i + 1,o,h,hm => by
  have d:=Qu l i o (by simpa using h) hm;have m:cG ((x::l).take (i+1))=cG [x]+cG (l.take i):=by rw[List.take_succ_cons,<-zg];rfl
  rw[m];unfold gG;rw[List.filterMap_cons];cases c:qX P x with
  |none=>
   have:cG [x]=0:=by cases b:x.op<;>simp[qX,b]at c<;>simp[cG,aD,b]
   rw[this,s7];exact d
  |some B=>
   have:cG [x]=1:=by cases b:x.op<;>simp[qX,b]at c<;>simp[cG,aD,b]
   rw[this,vc7];simpa[gG]using d
end
def CT(n:Nat):List U->List U->Prop|[],[]=>True|p::ps,q::qs=>(q=.undef\/(p=q/\q.cl n))/\CT n ps qs|_,_=>False
def xP(n:Nat):ay->ay->Prop|_,.dead=>True|.cells cs own,.cells cs' own'=>cs=cs'/\ie n cs/\∀x∈own',x∈own|.map es,.map es'=>es=es'/\(∀x∈es,x.1.cl n/\x.2.cl n)|_,_=>False
def eu(n:Nat):List ay->List ay->Prop|_,[]=>True|B::l,B'::l'=>xP n B B'/\eu n l l'|[],_::_=>False
structure qpd(st st':az):Prop where
 tmps:CT st'.boxes.length st.tmps st'.tmps
 boxes:eu st'.boxes.length st.boxes st'.boxes
 own:∀x∈st'.own,x∈st.own
def Zc(id:Nat)(a:Exit->az->Prop):Exit->az->Prop|.exit id',st=>if id'=id then a .normal st else a (.exit id') st|e,st=>a e st
section
variable{P:I}{E:qy}{bs0:bC}
def Q0{n:Nat}:∀{l a:List U},CT n l a->l.length=a.length/\∀(i:Nat) q,a[i]? =O q->q=.undef\/(l[i]? =O q/\q.cl n)
 |[],[],_=>⟨rfl,by simp⟩
 |[],_::_,h=>by simp[CT]at h
 |_::_,[],h=>by simp[CT]at h
 | p :: l,q :: a,h => by
  simp only[CT]at h;let⟨d,e⟩:=Q0 h.2;refine⟨by simp[d],λi x c=>?_⟩;cases i with
  | zero =>
   simp at c;subst c;rcases h.1 with b|⟨rfl,b⟩;.exact .inl b
   .exact .inr ⟨rfl,b⟩
  |succ i=>simpa using e i x (by simpa using c)
def rt{n:Nat}:∀{l a:List ay},eu n l a->a.length<=l.length/\∀(i:Nat) B',a[i]? =O B'->∃B,l[i]? =O B/\xP n B B'
 |_,[],_=>⟨by simp,by simp⟩
 |[],_::_,h=>by simp[eu]at h
 |B::l,B'::a,h=>by simp only[eu]at h;let⟨c,d⟩:=rt h.2;refine⟨by simpa using c,λi x b=>?_⟩;cases i with|zero=>simp at b;subst b;exact⟨B,rfl,h.1⟩|succ i=>simpa using d i x (by simpa using b)
def Y5.less{st st':az}{a:Act}{w:J}(hR:Y5 P E bs0 st a w)(hl:qpd st st')(hm:bs0.length<=st'.boxes.length):Y5 P E bs0 st' a w:=by
 let⟨Γ,bs,ow,h,hk⟩:=hR;let⟨h1,h2⟩:=Q0 hl.tmps;let⟨h3,h4⟩:=rt hl.boxes;have a0:st'.boxes.length<=bs.length:=by rw[h.bl];exact h3
 have d:∀{i b:Nat},(bs.take st'.boxes.length)[i]? =O (O b)->i<st'.boxes.length/\bs[i]? =O (O b):=by
  intro i b q;have r:i<st'.boxes.length:=by have:=aq q;simp at this;omega
  rw[vay r]at q;exact⟨r,q⟩
 have m:∀(i b:Nat),i<st'.boxes.length->bs[i]? =O (O b)->(bs.take st'.boxes.length)[i]? =O (O b):=λi b q o=>by rw[vay q];exact o
 refine⟨Γ,bs.take st'.boxes.length,ow,?_,λi q=>?_⟩
 .exact{
   wi:=h.wi
   sz:=by rw[h.sz,h1]
   tm:=λt p v s F=>by
    rcases h2 t p s with rfl|⟨h5,h6⟩;.exact .undef v
    .exact(h.tm t p v h5 F).restrict h6 m
   bl:=by simp;omega
   bx:=λi b B o hB=>by
    let⟨r,o⟩:=d o;let⟨H,y,A⟩:=h4 i B hB;let⟨k1,k2,k3⟩:=h.bx i b H o y;refine⟨k1,k2,?_⟩;cases B with
    |dead=>trivial
    |cells L own=>cases H<;>simp only[xP]at A;obtain⟨rfl,z,_⟩:=A;let⟨c,t,S,X,R,e4⟩:=k3;exact⟨c,t,S,X,λj p v s F=>(R j p v s F).restrict (qj z s) m,e4⟩
    |map es=>cases H<;>simp only[xP]at A;obtain⟨rfl,z⟩:=A;let⟨c,t,S,X,R,e4⟩:=k3;refine⟨c,t,S,X,λj k u x s F=>?_,e4⟩;let⟨q1,q2⟩:=z _ (vaD s);exact⟨(R j k u x s F).1.restrict q1 m,(R j k u x s F).2.restrict q2 m⟩
   inj:=λi j b q hj=>h.inj i j b (d q).2 (d hj).2
   bn:=λi b o=>h.bn i b (d o).2
   on:=h.on
   ot:=λt k e he=>h.ot t k e (hl.own _ he)
   ob:=λi j e L own b hB hj o=>by let⟨r,o⟩:=d o;let⟨H,y,A⟩:=h4 i _ hB;cases H<;>simp only[xP]at A;exact h.ob i j e _ _ b y (A.2.2 _ hj) o
   gl:=λg L hg=>(h.gl g L hg).restrict (n:=0) (by simp only[PVal.cl];exact h.gc g L hg) (λi b q _=>absurd q (w0 _))
   gc:=h.gc
   gx:=h.gx
   step:=h.step}
 .rw[vay (by omega)];exact hk i q
end
section
variable{P:I}{E:qy}{bs0:bC}
def Y5.len{st:az}{a:Act}{w:J}(h:Y5 P E bs0 st a w):bs0.length<=st.boxes.length:=by
 let⟨Γ,b,i,h,d⟩:=h;rw[<-h.bl];by_cases e:bs0.length<=b.length;.exact e
 .have c:=d b.length (by omega);rw[vaU (l8 _),m3 (by omega)]at c;cases c
def UH(P:I)(E:qy)(bs0:bC)(c:V Deferred)(d:Exit->az->Prop):Exit->Act->J->Prop:=λe a w=>a.defers=c/\∃b,Y5 P E bs0 b a w/\d e b
end
def qjX(P:I)(a:az):ResultVar->Q U|.tmp t=>O (a.tmps.getD t .undef)|.cell t ty=>mt P ty (a.tmps.getD t .undef) a.boxes
def qcj(P:I)(a:az):List ResultVar->Q (List U)|[]=>O []|x::r=>match qjX P a x,qcj P a r with|some p,O l=>O (p::l)|_,_=>N
def OO(P:I)(a:az):V ResultVar->Q U|[x]=>qjX P a x|rs=>(qcj P a rs).map .tuple
def dX:V ResultVar->Nat->Nat×Nat|[.tmp t],k=>(t,k)|rs,k=>match rs[k]? with|some (.tmp t)=>(t,0)|_=>(0,0)
def PVal.isSlice:U->K|.slice _=>T|_=>Z
def vB(a:az):V ResultVar->Nat->Prop|[.tmp _],_=>True|[_],_=>False|rs,k=>match rs[k]? with|some (.tmp t)=>(a.tmps.getD t .undef).isSlice=T|_=>False
def qrd(P:I)(a:V ResultVar)(r:U)(c:V (Nat×G))(b:V ay):Exit->az->Prop| .normal,st | .ret,st => OO P st a = O r∧r.cl b.length∧eu b.length st.boxes b∧(∀ x ∈ c,(dX a x.1,x.2) ∈ st.own∧vB st a x.1) ∧ (∀x∈c,∀y∈c,dX a x.1=dX a y.1->x.1=y.1)|_,_=>False
section
variable{P:I}{E:qy}{Γ:aS}{bs:bC}{d:Nat->Q kg}{w:J}{a:Array D}{st:az}
def B3(c:Nat->Nat×Nat)(e:V (Nat×G))(d:Nat->Q kg):Nat->Q kg:=λb=>match d b with|some (.tmp t j)=>(e.find? λx=>c x.1==(t,j)).map λx=>.tmp 0 x.1|L=>L
def SR.finish(h:SR P E Γ bs d w a st){H':V ay}{v:D}{r:U}(hv:VR Γ bs w r v)(s:r.cl H'.length)(hB:eu H'.length st.boxes H'){src:Nat->Nat×Nat}{ro:V (Nat×G)}
  (a5:∀x∈ro,(src x.1,x.2)∈st.own/\∀u S,a[(src x.1).1]? =O u->jz u (src x.1).2=O S->jz v x.1=O S)
  (a1:∀x∈ro,∀y∈ro,src x.1=src y.1->x.1=y.1):
  SR P E Γ (bs.take H'.length) (B3 src ro d) w #[v] ⟨[r],H',ro.map λx=>((0,x.1),x.2)⟩:=by
 have hR:Y5 P E [] st ⟨a,[]⟩ w:=⟨Γ,bs,d,h,λi z=>absurd z (w0 _)⟩
 let⟨h3,h4⟩:=rt hB
 have m:∀{i b:Nat},(bs.take H'.length)[i]? =O (O b)->i<H'.length/\bs[i]? =O (O b):=by
  intro i b z;have F:i<H'.length:=by have:=aq z;simp at this;omega
  rw[vay F]at z;exact⟨F,z⟩
 have q:∀(i b:Nat),i<H'.length->bs[i]? =O (O b)->(bs.take H'.length)[i]? =O (O b):=λi b z o=>by rw[vay z];exact o
 clear hR
 exact{
  wi:=h.wi
  sz:=rfl
  tm:=λt p S A a2=>by cases t with|zero=>simp at A a2;subst A;subst a2;exact hv.restrict s q|succ t=>simp at A
  bl:=by simp[h.bl];omega
  bx:=λi b B o hB=>by
   let⟨F,o⟩:=m o;let⟨B0,a0,H⟩:=h4 i B hB;let⟨k1,k2,k3⟩:=h.bx i b B0 o a0;refine⟨k1,k2,?_⟩;cases B with
   |dead=>trivial
   |cells cs own=>cases B0<;>simp only[xP]at H;obtain⟨rfl,s,_⟩:=H;let⟨c,t,X,e2,R,e4⟩:=k3;exact⟨c,t,X,e2,λj p v A hv=>(R j p v A hv).restrict (qj s A) q,e4⟩
   |map es=>cases B0<;>simp only[xP]at H;obtain⟨rfl,s⟩:=H;let⟨c,t,X,e2,R,e4⟩:=k3;refine⟨c,t,X,e2,λj k u x A hv=>?_,e4⟩;let⟨q1,q2⟩:=s _ (vaD A);exact⟨(R j k u x A hv).1.restrict q1 q,(R j k u x A hv).2.restrict q2 q⟩
  inj:=λi j b z hj=>h.inj i j b (m z).2 (m hj).2
  bn:=λi b o=>h.bn i b (m o).2
  on:=λb L hL=>by
   unfold B3 at hL;cases o:d b with
   |none=>rw[o]at hL;cases hL
   |some L'=>exact h.on b L' o
  ot:=λt k e he=>by simp only[l9,Prod.mk.injEq]at he;obtain⟨⟨k',e'⟩,hm,⟨rfl,rfl⟩,rfl⟩:=he;let⟨h1,h2⟩:=a5 _ hm;let⟨u,S,X,e2,R,e4⟩:=h.ot _ _ _ h1;refine⟨v,S,rfl,h2 u S X e2,R,λb o=>?_⟩;have:=e4 b o;simp only[B3,this];cases hf:ro.find? λx=>src x.1==src k' with|none=>have:=vco.1 hf _ hm;simp at this|some x=>have H:=vbx hf;have a3:=vcj hf;simp only[vbf]at a3;have:=a1 x H _ hm a3;simp only at this;simp[this]
  ob:=λi j e cs own b hB hj o=>by let⟨F,o⟩:=m o;let⟨B0,a0,H⟩:=h4 i _ hB;cases B0<;>simp only[xP]at H;let⟨S,X,e2,R⟩:=h.ob i j e _ _ b a0 (H.2.2 _ hj) o;exact⟨S,X,e2,λb' a4=>by simp[B3,R b' a4]⟩
  gl:=λg cs hg=>(h.gl g cs hg).restrict (n:=0) (by simp only[PVal.cl];exact h.gc g cs hg) (λi b z _=>absurd z (w0 _))
  gc:=h.gc
  gx:=h.gx
  step:=h.step}
def SR.getD(h:SR P E Γ bs d w a st)(t:Nat):VR Γ bs w (st.tmps.getD t .undef) (a.getD t undef):=by have:=h.opv [] (.tmp t);exact this
def ZR{p:U}{v:D}(c:VR Γ bs w p v)(b:p.isSlice=T):jz v 0=O v:=by cases p<;>simp[PVal.isSlice]at b;cases c<;>rfl
def Wv(h:SR P E Γ bs d w a st){g:ResultVar->Sem D}(H:∀t,g (.tmp t)=pure (a.getD t undef))(L:∀x t,g (.cell x t)=do loadVar t (<-asAddr (a.getD x undef))):∀{c:List ResultVar}{l:List U},qcj P st c=O l->∃m:List D,(c.mapM g).run P w=.ok m w/\m.length=c.length/\l.length=c.length/\(∀(i:Nat) p v,l[i]? =O p->m[i]? =O v->VR Γ bs w p v)/\
   ∀(i:Nat) t,c[i]? =O (.tmp t)->m[i]? =O (a.getD t undef)
 |[],l,hl=>by cases hl;exact⟨[],by simp,rfl,rfl,by simp,by simp⟩
 | x :: c,l,hl => by
  unfold qcj at hl;split at hl
  .rename_i p l' z y;cases hl;let⟨m,k1,k2,k3,k4,k5⟩:=Wv h H L y;have hx:∃v,(g x).run P w=.ok v w/\VR Γ bs w p v/\∀t,x=.tmp t->v=a.getD t undef:=by
    cases x with
    |tmp t=>cases z;exact⟨a.getD t undef,by rw[H];simp,h.getD t,λt' e=>by cases e;rfl⟩
    | cell t ty =>
     have r:=h.getD t;let⟨v,o,s⟩:=xj h r z;refine⟨v,?_,s,λt' e=>by cases e⟩;rw[L];have b:mt P ty (st.tmps.getD t .undef) st.boxes=O p:=z;generalize X:a.getD t undef=vt at r o;generalize S:st.tmps.getD t .undef=pt at r b;unfold mt at b;split at b;.cases r<;>simpa[Instr.loadAt,Instr.sureAddr,asAddr]using o
     .cases r;simpa[Instr.loadAt,Instr.sureAddr,asAddr]using o
     .cases b
   let⟨v,o,s,R⟩:=hx;refine⟨v::m,by simp[vb9,o,k1],by simp[k2],by simp[k3],λi q u A F=>?_,λi t B=>?_⟩;.cases i with|zero=>simp at A F;subst A;subst F;exact s|succ i=>exact k4 i q u (by simpa using A) (by simpa using F)
   .cases i with|zero=>simp at B;simp[R t B]|succ i=>simpa using k5 i t (by simpa using B)
  .cases hl
def p7(h:SR P E Γ bs d w a st){fn:Func}{r:U}(A:OO P st fn.results.toList=O r):∃v,(results fn a).run P w=.ok v w/\VR Γ bs w r v/\∀k u v',vB st fn.results.toList k->a[(dX fn.results.toList k).1]? =O u->jz u (dX fn.results.toList k).2=O v'->jz v k=O v':=by
 have q:fn.results=fn.results.toList.toArray:=by simp
 generalize fn.results.toList=rs at A q;have S:∀(t:Nat) u v',(st.tmps.getD t .undef).isSlice=T->a[t]? =O u->jz u 0=O v'->a.getD t undef=v':=by
  intro t u v' H z b;have B:=h.getD t;have L:a.getD t undef=u:=by rw[vaG,z];rfl
  rw[L]at B ⊢;rw[ZR B H]at b;exact(FS _ _).mp b
 obtain⟨g,hg,B,L⟩:∃g:ResultVar->Sem D,results fn a=(do let c <-fn.results.mapM g;pure (if h:c.size=1 then c[0]else .tuple c))/\(∀t,g (.tmp t)=pure (a.getD t undef))/\(∀x t,g (.cell x t)=do loadVar t (<-asAddr (a.getD x undef))):=
  ⟨_,rfl,λ_=>rfl,λ_ _=>rfl⟩
 rw[hg,q,List.mapM_toArray]
 have s:∀(l:V U),qcj P st rs=O l->rs.length≠1->r=.tuple l->(∀k,vB st rs k->∃t,rs[k]? =O (.tmp t)/\dX rs k=(t,0)/\(st.tmps.getD t .undef).isSlice=T)->
   ∃v,(do let c <-(Functor.map List.toArray (rs.mapM g));pure (if h:c.size=1 then c[0]else Value.tuple c):Sem D).run P w=.ok v w/\VR Γ bs w r v/\
    ∀k u v',vB st rs k->a[(dX rs k).1]? =O u->jz u (dX rs k).2=O v'->jz v k=O v':=by
  intro l F hn A H
  let⟨c,X,R,k3,k4,k5⟩:=Wv h B L F
  refine⟨.tuple c.toArray,by simp[X,R,hn],?_,λk u v' m z b=>?_⟩
  .subst A
   exact .tuple _ _ (by simp[R,k3]) λi p v H hv=>k4 i p v H (by simpa using hv)
  .let⟨t,e1,e2,e3⟩:=H k m
   rw[e2]at z b
   have:=k5 k t e1
   show c.toArray[k]? =O v'
   rw[vbz,this,S t u v' e3 z b]
 rcases rs with _|⟨x,_|⟨y,rs⟩⟩;.cases A;exact s [] rfl (by simp) rfl (λk m=>by simp[vB]at m)
 .have F:qcj P st [x]=O [r]:=by
   have o:qjX P st x=O r:=A
   simp[qcj,o]
  let⟨c,X,R,k3,k4,k5⟩:=Wv h B L F
  match c,R with
  | [v],_ =>
   refine⟨v,by simp[-List.mapM_cons,X],k4 0 r v rfl rfl,λk u v' m z b=>?_⟩
   cases x with
   |tmp t=>
    have:=k5 0 t rfl
    simp at this
    simp only[dX]at z b
    rw[this,z]
    exact b
   |cell t ty=>exact m.elim
 .have o:(qcj P st (x::y::rs)).map PVal.tuple=O r:=A;rw[vaH]at o;let⟨l,F,e⟩:=o;refine s l F (by simp) e.symm λk m=>?_;simp only[vB]at m;split at m;.rename_i t ht;exact⟨t,ht,by simp only[dX,ht],m⟩
  .exact m.elim
end
section
variable{P:I}{GE:V (Nat×V U)}{A:V Nat}{ops:Array M}
def qjB{d:Op}{id:Nat}{v:Operand->U}{H:V ay}{m K':U->V (Nat×G)->V ay->Prop}(h:Xs P GE d id v H m)(c:∀p a H,m p a H->K' p a H):Xs P GE d id v H K':=by
 unfold Xs at *;split at h
 .unfold Ow at *;split at h
  .rcases h with⟨e,r,a,i,b⟩|⟨ρ,argsC,Hc,rc,a,Hc',H',r,k1,k2,k3,k4,k5,k6,k7,k8,k9,b⟩;.exact .inl ⟨e,r,a,i,c _ _ _ b⟩
   .exact .inr ⟨ρ,argsC,Hc,rc,a,Hc',H',r,k1,k2,k3,k4,k5,k6,k7,k8,k9,c _ _ _ b⟩
  .exact h.elim
 .split at h;.exact c _ _ _ h
  .exact h.elim
def sX{o:M}{id:Nat}{e c:az->Prop}{a:az}(d:∀a,e a->c a)(h:qQ o a.tmps.length=T/\Xs P GE o.op id (opv GE a.tmps) a.boxes λp b H=>e (Fy a o.dst p b H)):qQ o a.tmps.length=T/\Xs P GE o.op id (opv GE a.tmps) a.boxes λp b H=>c (Fy a o.dst p b H):=⟨h.1,qjB h.2 λ_ _ _ h=>d _ h⟩
def qd5{o:M}{id:Nat}{d c:az->Prop}{st:az}(a:∀st,d st->c st)(h:Ti P GE A o id d st):Ti P GE A o id c st:=by
 unfold Ti at *;split at h;case h_1=>exact⟨h.1,a _ h.2⟩
 case h_2=>
  split at h
  .rename_i b;simp only[l7 b];exact⟨h.1,a _ h.2⟩
  .rename_i b;simp only[hG b];exact sX a h
 case h_3=>
  split at h
  .exact⟨h.1,a _ h.2⟩
  .exact sX a h
 case h_4=>
  split at h
  .exact⟨h.1,a _ h.2⟩
  .exact sX a h
 case h_5=>
  split at h
  .exact⟨h.1,a _ h.2⟩
  .exact h.elim
 case h_6=>
  split at h
  .exact⟨h.1,a _ h.2⟩
  .exact h.elim
 case h_7=>
  split at h
  .split at h
   .exact⟨h.1,h.2.1,h.2.2.1,a _ h.2.2.2⟩
   .exact h.elim
  .exact h.elim
 case h_8=>
  split at h
  .rename_i b
   simp only[l7 b]
   split at h
   .split at h
    .split at h
     .exact⟨h.1,h.2.1,a _ h.2.2⟩
     .exact h.elim
    .exact h.elim
   .exact h.elim
  .rename_i b;simp only[hG b];exact sX a h
 case h_9=>
  split at h
  .split at h
   .exact a _ h
   .exact sX a h
  .exact sX a h
 case h_10=>exact sX a h
def qoP{n:Int}(a: -9223372036854775808<=n)(b:n<9223372036854775808):IntKind.i64.wrap n=n:=by simp[IntKind.wrap,IntKind.bits,IntKind.signed];omega
end
section
variable{P:I}{E:qy}{Γ:aS}{bs:bC}{s:Nat->Q kg}{w:J}{a:Array D}{st:az}
def BR.demote{d:aS}{B:ay}{b:Nat}(h:BR Γ bs w B b)(y:∀b n,Γ b=O n->0<n->d b=O n):BR d bs w B b:=by cases B with|cells cs own=>let⟨c,t,o,q,e,r⟩:=h;exact⟨c,t,o,q,λj p v i m=>(e j p v i m).demote y,r⟩|map es=>let⟨c,t,o,q,e,r⟩:=h;exact⟨c,t,o,q,λj k u x i m=>⟨(e j k u x i m).1.demote y,(e j k u x i m).2.demote y⟩,r⟩|dead=>trivial
def aS.cut(Γ:aS)(g:Nat):aS:=λb=>if b=g then N else Γ b
def aS.cut_same(Γ:aS)(g:Nat):Γ.cut g g=N:=by simp[aS.cut]
def aS.cut_other(Γ:aS){g b:Nat}(h:b≠g):Γ.cut g b=Γ b:=by grind [aS.cut]
def SR.demote(h:SR P E Γ bs s w a st){g:Nat}(hg:Γ g=O 0)(a0:s g=N)(hT:E.T g\/E.w.heap.size<=g):SR P E (Γ.cut g) bs s w a st:=by
 have y:∀b n,Γ b=O n->0<n->Γ.cut g b=O n:=λb n c A=>by
  rw[Γ.cut_other];.omega
  grind
 have F:∀{v:D}{e:G}{L:kg},eI P Γ w v e->(∀b,v.ownBlock=O b->s b=O L)->eI P (Γ.cut g) w v e:=λX hL=>
  X.same λb c=>⟨rfl,Γ.cut_other λe=>by simp_all⟩
 exact{h with
  wi:=λb n c=>by
   by_cases e:b=g;.subst e;rw[Γ.cut_same]at c;grind
   .rw[Γ.cut_other e]at c;exact h.wi b n c
  tm:=λt p v hp hv=>(h.tm t p v hp hv).demote y
  bx:=λi b B c q=>by
   let⟨z,m,o⟩:=h.bx i b B c q;refine⟨?_,m,o.demote y⟩;by_cases e:b=g;.simp_all
   .rw[Γ.cut_other e];omega
  ot:=λt k e R=>by let⟨u,v,z,m,o,h4⟩:=h.ot t k e R;simp_all
  ob:=λi j e d own b q S c=>by let⟨v,z,m,o⟩:=h.ob i j e d own b q S c;simp_all
  gl:=λx d hx=>(h.gl x d hx).demote y
  step:={h.step with
   keep:=λb c r=>by
    let⟨H,k2⟩:=h.step.keep b c r;refine⟨H,?_⟩;rw[Γ.cut_other];.omega
    grind
   le:=λb n c A=>by let⟨n',H,k2,k3⟩:=h.step.le b n c A;grind}}
def qhQ{α:Type}{l:V α}{x y:α}{i:Nat}(h:(l++[x])[i]? =O y):l[i]? =O y\/(i=l.length/\x=y):=by grind
def qkz(bs:bC)(x:Q Nat):bs.Sub (bs++[x]):=λi b c=>by grind
def xg{c:V (V U)}{sz:Nat}(h:∀x∈c,x.length=sz/\∀q∈x,q.one=T):Ot c.flatten=true:=vaE.2 λp b=>by let⟨x,d,b⟩:=List.mem_flatten.1 b;have:=(h x d).2 p b;cases p<;>first|rfl|cases this
def SR.addBox(h:SR P E Γ bs s w a st)(R:Q Nat){o:V U}(F:Ot o=T)
  (hx:∀b,R=O b->(∃d t,w.heap[b]? =O (.cells d t (0,0))/\o.length<=d.size/\∀(j:Nat) p v,o[j]? =O p->d[j]? =O v->VR Γ bs w p v)/\Γ b=N/\(E.T b\/E.w.heap.size<=b)/\∀i:Nat,bs[i]? ≠O (O b)):
  SR P E Γ (bs++[R]) s w a {st with boxes:=st.boxes++[.cells o []]}:=by
 have y:=qkz bs R
 exact{h with
  tm:=λt p v H L=>(h.tm t p v H L).mono (.refl _ _) y
  bl:=by simp[h.bl]
  bx:=λi b B q m=>by
   rcases qhQ q with c|⟨rfl,c⟩;.rw[B2 (by rw[<-h.bl];grind)]at m;let⟨X,h2,h3⟩:=h.bx i b B c m;exact⟨X,h2,h3.mono (.refl _ _) y rfl⟩
   .let⟨⟨d,t,S,k2,k3⟩,k4,k5,k6⟩:=hx b c;rw[h.bl,Lf (l8 _),vca]at m;cases m;exact⟨k4,(vh.1 S).1,d,t,S,k2,λj p v H L=>(k3 j p v H L).mono (.refl _ _) y,Sf F _ _⟩
  inj:=λi j b hi A=>by
   rcases qhQ hi with r|⟨rfl,r⟩<;>rcases qhQ A with x|⟨rfl,x⟩;.exact h.inj i j b r x
   .simp_all
   .simp_all
   .rfl
  bn:=λi b q=>by
   rcases qhQ q with c|⟨rfl,c⟩;.exact h.bn i b c
   simp_all
  ob:=λi j e z own b m A q=>by
   rcases qhQ q with c|⟨rfl,c⟩;.rw[B2 (by grind)]at m;exact h.ob i j e z own b m A c
   .rw[h.bl,Lf (l8 _),vca]at m;grind
  gl:=λg o hg=>(h.gl g o hg).mono (.refl _ _) y}
def Ql{ns:V (V U)}{x:D}{sz:Nat}(y:VR Γ bs w (.slice ns) x)(p:0<sz)(h:∀x∈ns,x.length=sz/\∀q∈x,q.one=T):∃d:V D,((x=.slice N 0 0/\ns.length=0)\/∃a c,x=.slice (O a) ns.length c/\∀(j:Nat) u,d[j]? =O u->w.cell? (a.add j)=O u)/\
   d.length=ns.length * sz/\(∀u∈d,u.oneCell'=T)/\
   ∀(i:Nat) x (k:Nat) q,ns[i]? =O x->x[k]? =O q->∃u,d[i * sz+k]? =O u/\VR Γ bs w q u:=by
 have z:∀(i:Nat) x,ns[i]? =O x->x.length=sz:=λi x y=>(h x (vaD y)).1
 cases y with
 |sliceNil=>simp
 |sliceE a cap=>exact⟨[],.inr ⟨a,cap,rfl,by simp⟩,by simp,by simp,by simp⟩
 | slice ns b off cap n' sz' vals hz0 hcap hgg hn hsz hc hvv =>
  have r:∀(i:Nat) x (k:Nat) q,ns[i]? =O x->x[k]? =O q->w.cell? ⟨b,off+(i * sz+k),N⟩=O (vals i k):=by grind
  have m:∀o,o<ns.length * sz->∃x q,ns[o / sz]? =O x/\x[o % sz]? =O q/\o=o / sz * sz+o % sz:=by intro o F;let⟨m1,m2⟩:=RT (q:=o) p;have e:o / sz<ns.length:=(vcJ p).2 F;have X:=z _ _ (m3 e);exact⟨_,_,m3 e,m3 (by omega),m1⟩
  refine⟨(List.range (ns.length * sz)).map λo=>vals (o / sz) (o % sz),.inr ⟨⟨b,off,N⟩,cap,rfl,λj u t=>?_⟩,by simp,λu t=>?_,λi x k q y S=>⟨vals i k,?_,hvv i x k q y S⟩⟩
  .rw[o8]at t
   have H:j<ns.length * sz:=by grind
   rw[vbH H]at t
   simp only[or,FS]at t
   subst t
   let⟨x,q,A,B,L⟩:=m j H
   have:=r _ _ _ _ A B
   rw[<-L]at this
   rw[Addr.add_lit];omega
  .simp only[l9,vbF]at t
   obtain⟨o,F,rfl⟩:=t
   let⟨x,q,A,B,L⟩:=m o F
   exact VR.one (hvv _ _ _ _ A B) ((h x (vaD A)).2 q (vaD B))
  .have R:k<sz:=by grind
   have e:=RB (aq y) R
   rw[o8,vbH e]
   grind
theorem Vs{sz:Nat}(b:0<sz):∀{c:V (V U)},(∀x∈c,x.length=sz)->∀{j:Nat}{p:U},c.flatten[j]? =O p->∃x,c[j / sz]? =O x/\x[j % sz]? =O p
 |[],_,j,p,h=>by grind
 | x :: c,hl,j,p,h => by
  have e:=hl x (by simp);rw[List.flatten_cons]at h;by_cases d:j<sz;.rw[B2 (by omega)]at h;rw[vc8 d,vc9 d];simp_all
  .rw[Lf (by omega),e]at h;let⟨y,o,q⟩:=Vs b (λz r=>hl z (by grind)) h;have i:j / sz=(j - sz) / sz+1:=by
    conv=>lhs;rw[show j=(j - sz)+sz by omega]
    rw[Nat.add_div_right _ b]
   have m:j % sz=(j - sz) % sz:=by
    conv=>lhs;rw[show j=(j - sz)+sz by omega]
    simp
   simp_all
def qbp{sz:Nat}:∀{b:List (List U)},(∀x∈b,x.length=sz)->b.flatten.length=b.length * sz
 |[],_=>by simp
 |x::b,hl=>by rw[List.flatten_cons,oo,hl x (by simp),qbp (λz c=>hl z (by grind)),p6,vbg,vcg,vc7]
def Mx{c:V (V U)}{sz:Nat}(e:0<sz)(o:∀x∈c,x.length=sz){b:Array D}(m:∀(i:Nat) x (k:Nat) q,c[i]? =O x->x[k]? =O q->∃u,b[i * sz+k]? =O u/\VR Γ bs w q u):c.flatten.length<=b.size/\∀(j:Nat) p v,c.flatten[j]? =O p->b[j]? =O v->VR Γ bs w p v:=by
 have d:∀(j:Nat) p,c.flatten[j]? =O p->∃u,b[j]? =O u/\VR Γ bs w p u:=by grind [Vs,RT]
 refine⟨?_,λj p v r y=>?_⟩
 .by_cases h:c.flatten.length=0;.omega
  .let⟨u,t,_⟩:=d (c.flatten.length - 1) _ (m3 (by omega));grind
 grind
def qaa(h:SR P E Γ bs s w a st){t ty e:G}{ns:V (V U)}{p:U}{v x:D}(ht:P.underlying t=O (.slice e))(hv:VR Γ bs w (.slice []) v)(S:VR Γ bs w (.slice ns) x)
  (ho:eI P Γ w v e) (A:∀b,v.ownBlock=O b->s b=N/\(E.T b\/E.w.heap.size<=b)) (hp:ji P t [] ns=O p):
  ∃v' w' Γ' xb,(Builtin.append_ #[t,t] ty #[v,x]).run P w=.ok v' w'/\SR P E Γ' (bs++[xb]) s w' a {st with boxes:=st.boxes++[.cells ns.flatten []]}/\VR Γ' (bs++[xb]) w' (.bsl st.boxes.length 0 ns.length) v':=by
 unfold ji at hp
 rw[ht]at hp
 simp only at hp
 split at hp
 case isFalse=>grind
 rename_i hh
 let⟨ab,b2,R,bq,_,B⟩:=hh
 cases hp
 have hz:∃zs,eR P e=O zs/\zs.length=P.cellsOf e:=by simp_all
 let⟨zs,hz,bq⟩:=hz
 obtain⟨z,hr,rfl,i,hi,bn⟩:=mR (w:=w) hz
 have a9:i.size=P.cellsOf e:=by simp[Program.cellsOf,hi]
 have a8:i.bytes=P.bytesOf e:=by simp[Program.bytesOf,hi]
 let⟨n,xs,X,br⟩:=ho
 have bb:n=0:=by
  rcases X.2 with⟨rfl,rfl⟩|⟨g,cap,cur,rfl,_⟩;.rfl
  .cases hv with|sliceE a cap=>rfl|slice es b off cap n' sz vals=>rfl
 subst bb
 have bm:xs=[]:=IO (by rw[X.1];simp)
 subst bm
 simp only[List.length_nil,s7]at ab
 have ad:0+ns.length<=maxLen:=by unfold maxLen;grind [bO]
 have a0:(0+ns.length) * i.bytes<=140737488355328:=by rw[a8];have:(0+ns.length) * P.bytesOf e<=1073741824 * 65536:=vct (by simp_all[bO]) b2;omega
 have a4:∀x∈ns,x.length=P.cellsOf e:=λx S=>(B x S).1
 obtain⟨d,h0,bl,b4⟩:∃d,SR P E d bs s w a st/\VR d bs w (.slice ns) x/\∀b,v.ownBlock=O b->d b=N/\∀i:Nat,bs[i]? ≠O (O b):=by
  cases ar:v.ownBlock with
  |none=>grind
  | some g =>
   have b5:Γ g=O 0:=by simp_all
   refine⟨Γ.cut g,h.demote b5 (A g ar).1 (A g ar).2,S.demote λb n r hn=>?_,λb b1=>?_⟩
   .have a2:b≠g:=by grind
    rw[Γ.cut_other a2];omega
   .cases b1;refine⟨Γ.cut_same _,λi hi=>?_⟩;have:=(h.bx i g (st.boxes[i]'(by rw[<-h.bl];grind)) hi (by simp)).1;simp_all
 let⟨y,bg,be,bc,ao⟩:=Ql bl R B
 let⟨v',w',F,a7⟩:=Pw (ty:=ty) ht hi bn a9 (by simp_all) R X bg be bc ad a0
 rcases a7 with⟨rfl,rfl,b7⟩|⟨g,cap,cur,rfl,hg,hcs,hcm,htake,hroom,rfl,rfl⟩|⟨cap,rest,g1,g2,g3,rfl,rfl⟩
 .have an:ns=[]:=IO b7
  subst an
  refine⟨v',w',d,N,F,h0.addBox N (xg B) (λb r=>by grind),?_⟩
  cases hv with
  |sliceNil=>exact .bsl _ _ _ _ _ (l8 _) (λ_=>rfl) (.inl rfl)
  |sliceE a cap=>exact .bsl _ _ _ _ _ (s5 _) (λh=>by grind) (.inl rfl)
  |slice es b off cap n' sz vals=>exact .bsl _ _ _ _ _ (s5 _) (λh=>by grind) (.inl rfl)
 .
  simp only[Nat.zero_mul,List.take_zero,va9,s7]at F hroom ⊢
  let⟨b0,a6⟩:=b4 g rfl
  have H:=Ey w g cur (y++cur.toList.drop y.length).toArray e (0,0) hg
  have a2:∀{b m},d b=O m->b≠g:=λr e=>by simp_all
  have a1:d.Le w d (w.setRow g (y++cur.toList.drop y.length).toArray):=λb m r _=>⟨m,r,l8 _,λo _=>bE (setRow_other w g b _ (a2 r)) o⟩
  have a5:=h0.world (λb=>b=g) a1 (λb m r=>by
   let⟨c,t',fr,k1,k2⟩:=h0.wi b m r;exact⟨c,t',fr,(setRow_other w g b _ (a2 r)).trans k1,k2⟩) rfl rfl rfl (by simp) (λb _ a6=>⟨setRow_other w g b _ a6,rfl⟩) (λb r=>by subst r;exact(A b rfl).2)
   (λi b r a3=>by simp_all) (λb L hL a3=>by subst a3;rw[(A b rfl).1]at hL;grind)
  refine⟨_,_,d,O g,F,a5.addBox (O g) (xg B) (λb r=>?_),?_⟩
  .cases r
   refine⟨⟨_,e,H,Mx R a4 λi x k q S hq=>?_⟩,b0,(A g rfl).2,a6⟩
   let⟨u,k1,k2⟩:=ao i x k q S hq
   refine⟨u,?_,k2.mono a1 (.refl _)⟩
   simp only[vbz]
   rw[B2 (aq k1)];omega
  .refine .bsl _ _ _ _ _ hroom (λh=>by grind) (.inr ⟨g,rfl,?_⟩)
   rw[h.bl.symm,Lf (l8 _),vca];rfl
 .
  simp only[va9,s7]at F g1 ⊢
  have b3:∀m,d w.heap.size≠O m:=λm hm=>absurd (h0.lt_of_ghost hm) (vb5 _)
  have a1:d.Le w d (w.drew.alloc (.cells (y++rest).toArray e)):=λb m r _=>⟨m,r,l8 _,λo _=>bE (alloc_old w.drew _ (h0.drew.lt_of_ghost r)) o⟩
  have H:(w.drew.alloc (.cells (y++rest).toArray e)).heap[w.heap.size]? =O (.cells (y++rest).toArray e (0,0)):=gI w.drew _
  have a5:=h0.drew.world (λ_=>False) (Γ':=d) (w':=w.drew.alloc (.cells (y++rest).toArray e)) (λb m r _=>⟨m,r,l8 _,λo _=>bE (alloc_old w.drew _ (h0.drew.lt_of_ghost r)) o⟩) (λb m r=>by
   let⟨c',t',fr,k1,k2⟩:=h0.wi b m r;exact⟨c',t',fr,(alloc_old w.drew _ (h0.drew.lt_of_ghost r)).trans k1,k2⟩) rfl rfl rfl (by simp) (λb r _=>⟨alloc_old w.drew _ r,rfl⟩) (λ_ S=>S.elim) (λ_ _ _ S=>S) (λ_ _ _ S=>S)
  refine⟨_,_,d,O w.heap.size,F,a5.addBox (O w.heap.size) (xg B) (λb r=>?_),?_⟩
  .cases r
   refine⟨⟨_,e,H,Mx R a4 λi x k q S hq=>?_⟩,?_,.inr h.step.size,λi hi=>?_⟩
   .let⟨u,k1,k2⟩:=ao i x k q S hq
    refine⟨u,?_,k2.mono a1 (.refl _)⟩
    simp only[vbz]
    grind [aq]
   .cases bi:d w.heap.size with
    |none=>rfl
    |some m=>exact absurd bi (b3 m)
   .have:=(h.bx i _ (st.boxes[i]'(by rw[<-h.bl];exact aq hi)) hi (by simp)).2.1
    omega
  .refine .bsl _ _ _ _ _ g1 (λh=>by cases h) (.inr ⟨w.heap.size,rfl,?_⟩)
   rw[h.bl.symm,Lf (l8 _),vca];rfl
def BF(P:I)(f:FuncId)(e:G):Prop:=(∀i w,(callFunc f i).run P w=.ok (.enter f i) w)/\ ∀(w:J)(x:D)(n:Nat)(b:V D),((x=.slice N 0 0/\n=0)\/∃a c,x=.slice (O a) n c/\∀(j:Nat) u,b[j]? =O u->w.cell? (a.add j)=O u)->b.length=n * P.cellsOf e->(∀u∈b,u.oneCell'=T)->n<=bO-> Calls P f #[x] w λr d=>∃h,r=.returned h/\d.ownsRow w.heap.size e (P.cellsOf e) h n b/\(RowKit.Below w.heap.size w d/\w.drawn<=d.drawn)
def KL(h:SR P E Γ bs s w a st){w':J}(d:RowKit.Below w.heap.size w w')(r:w.drawn<=w'.drawn):Γ.Le w Γ w'/\SR P E Γ bs s w' a st:=by
 have e:Γ.Le w Γ w':=λb m c _=>⟨m,c,l8 _,λo _=>bE (d.block b (h.lt_of_ghost c)) o⟩
 refine⟨e,h.world (λ_=>False) e (λb m c=>?_) d.os d.tape d.output d.size (λb p _=>⟨d.block b p,rfl⟩) (λ_ i=>i.elim) (λ_ _ _ i=>i) (λ_ _ _ i=>i) (DY r)⟩;let⟨q,y,fr,t,x⟩:=h.wi b m c;exact⟨q,y,fr,(d.block b (h.lt_of_ghost c)).trans t,x⟩
def qdd(h:SR P E Γ bs s w a st){f:FuncId}{e:G}{o:V (V U)}{x:D}(hC:BF P f e)(z:VR Γ bs w (.slice o) x)(d:0<P.cellsOf e)(c:∀x∈o,x.length=P.cellsOf e/\∀q∈x,q.one=T)(p:o.length<=bO):Calls P f #[x] w λr w'=>∃v' xb,r=.returned v'/\SR P E Γ (bs++[xb]) s w' a {st with boxes:=st.boxes++[.cells o.flatten []]}/\VR Γ (bs++[xb]) w' (.bsl st.boxes.length 0 o.length) v':=by
 let⟨A,X,R,L,S⟩:=Ql z d c;refine(hC.2 w x o.length A X R L p).mono λr w' hr=>?_;obtain⟨v',rfl,y,hb,F⟩:=hr;let⟨H,hS⟩:=KL h hb F;rcases y.2 with⟨rfl,hn⟩|⟨g,cap,cur,rfl,hge,hheap,hnc,hcm,hcs,htake⟩;.have t:o=[]:=IO hn;subst t;exact⟨_,N,rfl,hS.addBox N (xg c) (λb hb=>by grind),.bsl _ _ _ _ _ (s5 _) (λ_=>rfl) (.inl rfl)⟩
 .refine⟨_,O g,rfl,hS.addBox (O g) (xg c) (λb B=>?_),?_⟩
  .cases B;refine⟨⟨cur,e,hheap,Mx d (λx z=>(c x z).1) λi x k q z hq=>?_⟩,?_,.inr (m0 h.step.size hge),λi hi=>?_⟩;.let⟨u,k1,k2⟩:=S i x k q z hq;refine⟨u,?_,k2.mono H (.refl _)⟩;grind
   .cases hg:Γ g with|none=>rfl|some m=>exact absurd (h.lt_of_ghost hg) (by omega)
   .have:=(h.bx i g (st.boxes[i]'(by rw[<-h.bl];grind)) hi (by simp)).2.1;omega
  .refine .bsl _ _ _ _ _ hnc (λh=>by grind) (.inr ⟨g,rfl,?_⟩);rw[h.bl.symm,Lf (l8 _),vca];rfl
def CC.clone{f:FuncId}{e:G}{h:V (V U)}{GE:V (Nat×V U)}(hC:BF P f e)(a5:ie 0 [.slice h])(B:0<P.cellsOf e)(A:∀x∈h,x.length=P.cellsOf e/\∀q∈x,q.one=T)(a1:h.length<=bO):ie 0 [.slice h]/\C P GE f [.slice h] [] [] (.slice h) [(0,e)] []:=by
 refine⟨a5,hC.1,λΓ bs s w vs z=>?_⟩;have h1:vs.size=1:=z.sz;obtain⟨x,rfl⟩:∃x,vs=#[x]:=⟨vs[0],Array.ext (by omega) λi hi ad=>by grind⟩
 have y:VR Γ bs w (.slice h) x:=z.tm 0 _ _ rfl rfl;let⟨F,a8,a2,a6,a7⟩:=Ql y B A;refine(hC.2 w x h.length F a8 a2 a6 a1).mono λr w' hr=>?_;obtain⟨v',rfl,a4,t,X⟩:=hr;rcases a4.2 with⟨rfl,hn⟩|⟨g,cap,cur,rfl,hge,hheap,hnc,hcm,hcs,htake⟩;.have a3:h=[]:=IO hn;subst a3;let⟨R,H⟩:=KL z t X;have g1:=H.set (d:=0) (p:=.slice []) (v:=.slice N 0 0) .sliceNil;have g2:=g1.addOwn (d:=0) (k:=0) (e:=e) (u:=.slice N 0 0) (v:=.slice N 0 0) (by simp) rfl ⟨0,[],World.ownsRow_nil _ _ _ _,λb t=>by simp[Value.ownBlock]at t⟩ (λb t=>by simp[Value.ownBlock]at t);exact⟨_,Γ,_,rfl,g2⟩
 .have ab:Γ g=N:=by
   cases hg:Γ g with
   |none=>rfl
   |some m=>exact absurd (z.lt_of_ghost hg) (by omega)
  have R:Γ.Le w (Γ.put g (h.length * P.cellsOf e)) w':=λb m c _=>by have S:=z.lt_of_ghost c;exact⟨m,(Γ.put_other (by omega)).trans c,l8 _,λo _=>bE (t.block b S) o⟩
  have H:=z.world (Γ':=Γ.put g (h.length * P.cellsOf e)) (w':=w') (λ_=>False) R (λb m c=>by
   by_cases a0:b=g;.subst a0;rw[Γ.put_same]at c;grind
   .rw[Γ.put_other a0]at c;let⟨c',t',fr,k1,k2⟩:=z.wi b m c;exact⟨c',t',fr,(t.block b (z.lt_of_ghost c)).trans k1,k2⟩) t.os t.tape t.output t.size (λb S _=>⟨t.block b S,Γ.put_other (by omega)⟩) (λ_ y=>y.elim) (λ_ _ _ y=>y) (λ_ _ _ y=>y) (DY X)
  have a9:VR (Γ.put g (h.length * P.cellsOf e)) bs w' (.slice h) (.slice (O ⟨g,0,N⟩) h.length cap):=by refine Bp hheap (Γ.put_same _ _) (l8 _) B hnc (λi x y=>(A x (vaD y)).1) λi x k q y hq=>?_;let⟨u,k1,k2⟩:=a7 i x k q y hq;refine⟨u,?_,k2.mono R (.refl _)⟩;grind
  have g1:=H.set (d:=0) a9
  have g2:=g1.addOwn (d:=0) (k:=0) (e:=e) (u:=.slice (O ⟨g,0,N⟩) h.length cap) (v:=.slice (O ⟨g,0,N⟩) h.length cap) (by simp) rfl
   ⟨h.length,F,⟨a2,.inr ⟨g,cap,cur,rfl,s5 _,hheap,hnc,hcm,hcs,htake⟩⟩,λb c=>by simp[Value.ownBlock]at c;subst c;exact Γ.put_same _ _⟩ (λb c=>by
    simp[Value.ownBlock]at c;subst c;refine⟨?_,.inr hge⟩;cases hL:s g with
    |none=>rfl
    |some L=>exact absurd (z.on _ L hL).1 (by omega))
  exact⟨_,_,_,rfl,g2⟩
end
def qd3(P:I)(GE:V (Nat×V U))(o:M)(m:az->Prop)(a:az):Prop:=match o.op,o.dst with| .call { callee := .builtin .append,args:=⟨[.tmp t,y]⟩,argTypes:=⟨[r,T']⟩ },O d => ∃ e b p,r = T'∧P.underlying r = O (.slice e)∧a.tmps.getD t .undef = .slice []∧opv GE a.tmps y = .slice b∧ji P r [] b = O p∧((t,0),e) ∈ a.own∧d < a.tmps.length ∧ m ⟨a.tmps.set d (.bsl a.boxes.length 0 b.length),a.boxes++[.cells b.flatten []],bI d (a.own.filter λx=>x.1 !=(t,0))⟩| .call { callee := .value f,args:=⟨[x]⟩,.. },O d => ∃ g e b,opv GE a.tmps f = .func (.func g) [] []∧BF P g e∧opv GE a.tmps x = .slice b∧0 < P.cellsOf e∧(∀ x ∈ b,x.length = P.cellsOf e∧∀ q ∈ x,q.one = T)∧b.length ≤ bO∧d < a.tmps.length ∧ m ⟨a.tmps.set d (.bsl a.boxes.length 0 b.length),a.boxes++[.cells b.flatten []],bI d a.own⟩| .store r x (.const v),N => ∃ i c e H h own,v = .slice N 0 0∧opv GE a.tmps x = .bptr i c∧fE P r (.bptr i c) (opv GE a.tmps (.const v)) a.boxes = O H∧H[i]? = O (.cells h own) ∧ m ⟨a.tmps,H.set i (.cells h ((c,e)::own)),a.own⟩|_,_=>False
def J5(P:I)(E:qy)(d:bC)(id:Nat)(mk:K)(h:V Deferred)(m:az->Prop)(a:Act)(w:J):Prop:=a.defers=h/\∃Γ c i e,SR P E Γ c i w a.tmps e/\m e/\(c=d\/(mk=T/\∃b,c=d.set id (O b))\/∃X,c=d++X)
def iw.to3{P:I}{E:qy}{c:bC}{id:Nat}{mk:K}{d:V Deferred}{r:az->Prop}{a:Act}{w:J}(h:iw P E c id mk d r a w):J5 P E c id mk d r a w:=by let⟨e,Γ,b,p,q,i,m,o⟩:=h;exact⟨e,Γ,b,p,q,i,m,o.imp_right .inl⟩
section
variable{P:I}{E:qy}{Γ:aS}{bs:bC}{c:Nat->Q kg}{w:J}{a:Act}{st:az}
theorem qd4(h:SR P E Γ bs c w a.tmps st){o:M}{id:Nat}{ao:az->Prop}(hp:qd3 P E.GE o ao st)(Q:Exit->Act->J->Prop):o.wp P a w (J5 P E bs id (aD o.op) a.defers ao) Q:=by
 unfold qd3 at hp;split at hp
 .rename_i t y ar T' d ho m;obtain⟨e,ns,p,rfl,hT,a3,a2,a6,X,hd,S⟩:=hp;let⟨u,v,h1,h2,h3,h4⟩:=h.ot t 0 e X;have A:=Bv h h1;rw[a3]at A;have a8:u=v:=Uv h2 (λvs R=>by subst R;cases A) (λvs R=>by subst R;cases A);subst a8;have hf:=h.freeT t 0;have hy:VR Γ bs w (opv E.GE st.tmps y) (a.eval y):=h.opv a.defers y;rw[a2]at hy;let⟨v',w',ad,xb,r1,r2,r3⟩:=qaa (ty:=o.type) hf hT A hy h3 (λb B=>⟨by simp_all,(h.on b _ (h4 b B)).2⟩) a6;have q:(execOp a.eval o).run P w=.ok (.value v') w':=by simp[execOp,ho,resolve,invoke,builtin,bu h1,r1]
  unfold Oper.wp;rw[q,Oper.upon_value];have F:=r2.set (d:=d) r3;have z:∀v,(a.put o.dst v).tmps=a.tmps.setIfInBounds d v:=λv=>by rw[m];rfl
  rw[<-z]at F;exact⟨aW _ _ _,ad,_,_,_,F,S,.inr (.inr ⟨[xb],rfl⟩)⟩
 .rename_i f x an d ho m;let⟨g,e,ns,hf,hC,R,h1,h2,h3,hd,S⟩:=hp;have L:VR Γ bs w (opv E.GE st.tmps f) (a.eval f):=h.opv a.defers f;have s:VR Γ bs w (opv E.GE st.tmps x) (a.eval x):=h.opv a.defers x;rw[hf]at L;rw[R]at s;generalize a4:a.eval f=vf at L;cases L with|func _ _ _ fs cs hl hl' k1 k2=>
  have a5:fs=#[]:=vbd (by omega);have a1:cs=#[]:=vbd (by omega);subst a5;subst a1;have q:(execOp a.eval o).run P w=.ok (.enter g #[a.eval x]) w:=by simp[execOp,ho,resolve,a4,Deferred.ofValue,invoke,hC.1]
  unfold Oper.wp;rw[q,Oper.upon_enter];refine(qdd h hC s h1 h2 h3).mono λr w' hr=>?_;obtain⟨v',xb,rfl,hS,a9⟩:=hr;have F:=hS.set (d:=d) a9;have z:(a.put o.dst v').tmps=a.tmps.setIfInBounds d v':=by rw[m];rfl
  rw[<-z]at F;show J5 P E bs id (aD o.op) a.defers ao (a.put o.dst v') w';exact⟨aW _ _ _,Γ,_,c,_,F,S,.inr (.inr ⟨[xb],rfl⟩)⟩
 .rename_i ar x v ho m;obtain⟨i,a0,e,H,cs,own,rfl,R,a7,hB,S⟩:=hp;have s:VR Γ bs w (opv E.GE st.tmps x) (a.eval x):=h.opv a.defers x;have ab:VR Γ bs w (opv E.GE st.tmps (.const (.slice N 0 0))) (.slice N 0 0):=h.opv a.defers (.const (.slice N 0 0));rw[R]at s;let⟨w',r1,r2,_,r4⟩:=Lz h s ab a7;have q:(execOp a.eval o).run P w=.ok .skip w':=by have:a.eval (.const (.slice N 0 0))=.slice N 0 0:=rfl;simp[execOp,ho,this,r1]
  unfold Oper.wp;rw[q,Oper.upon_skip];generalize a.eval x=vx at s;cases s with|bptr _ _ b B=>
  have hc:=(r4 i a0 b rfl B).1 0 (.slice N 0 0) rfl;have F:=r2.addOwnB (j:=a0) (e:=e) B hB hc ⟨0,[],World.ownsRow_nil _ _ _ _,λb B=>by simp[Value.ownBlock]at B⟩ (λb B=>by simp[Value.ownBlock]at B);rw[m];exact⟨rfl,Γ,bs,_,_,F,S,.inl rfl⟩
 simp_all
end
structure OA where
 i:Nat
 t:Nat
 k:Nat
 e:TypeId
def gp(ρ:V Nat)(a:V OA)(Γ:aS)(c:Nat->Q kg):Nat->Q kg:=λb=>match c b with
 |some (.box j k)=>if(Γ b).isSome/\j∈ρ then O (.box (ρ.idxOf j) k)else N
 |some (.tmp t k)=>match a.find? λy=>y.t==t&&y.k==k with|some x=>if(Γ b).isSome then O (.tmp x.i k)else N|none=>N
 |_=>N
def BA(ρ:V Nat)(c:V OA)(d:Nat)(a e:Nat->Q kg):Nat->Q kg:=λb=>match a b with|some (.box i k)=>O (.box (ρ.getD i 0) k)|some (.tmp _ k)=>O (.tmp d k)|none=>match e b with|some (.box j k)=>if j∈ρ then N else O (.box j k)|some (.tmp t k)=>if(c.any λx=>x.t==t&&x.k==k)then N else O (.tmp t k)|none=>N
section
variable{P:I}{E:qy}{Γ:aS}{bs:bC}{c:Nat->Q kg}{w:J}{a:Array D}{st:az}{ρ:V Nat}
def qh1(h:SR P E Γ bs c w a st){g:FuncId}{a5 a4:V U}{r rc:U}{ro:V (Nat×G)}{Hc bc H':V ay}{vs:Array D}{d:Nat}{X:V OA}(hd:d<a.size)
  (hn:ρ.Nodup) (hC:C P E.GE g a4 (X.map λx=>((x.i,x.k),x.e)) Hc rc ro bc) (c7:∀x∈X,(vs[x.i]? =O (.slice N 0 0)/\x.k=0)\/(((x.t,x.k),x.e)∈st.own/\vs[x.i]? =a[x.t]?)) (d2:∀x∈X,∀y∈X,x.t=y.t->x.k=y.k->x.i=y.i) (hH:J7 ρ st.boxes Hc) (be:J7 ρ H' bc) (bq:H'.length=st.boxes.length) (b0:∀j:Nat,j∉ρ->H'[j]? =st.boxes[j]?)
  (hr:DG ρ r rc) (d1:a5.length=a4.length) (ha:∀(i:Nat) p q,a5[i]? =O p->a4[i]? =O q->DG ρ p q)
  (hl:vs.size=a5.length) (hv:∀(i:Nat) p v,a5[i]? =O p->vs[i]? =O v->VR Γ bs w p v):
  Calls P g vs w λe w'=>∃v a9 cv,e=.returned v/\SR P E a9 bs cv w' (a.setIfInBounds d v) {st with tmps:=st.tmps.set d r,boxes:=H',own:=(ro.map λx=>((d,x.1),x.2))++bI d (st.own.filter λz=>!X.any λx=>z.1==(x.t,x.k))}/\Γ.Le w a9 w':=by
 let S:bC:=ρ.map λj=>(bs[j]?).getD N
 have d0:∀{i j:Nat},ρ[i]? =O j->j<st.boxes.length:=λ{i j} s=>by let⟨B,_,hB,_⟩:=hH.box i j s;grind
 have ab:∀(i j:Nat),ρ[i]? =O j->S[i]? =bs[j]?:=by
  intro i j s;have hj:j<bs.length:=by rw[h.bl];grind
  grind
 have a8:∀{i b:Nat},S[i]? =O (O b)->∃j,ρ[i]? =O j/\bs[j]? =O (O b):=by grind
 have an:∀{b L},gp ρ X Γ c b=O L->(Γ b).isSome/\((∃j k,c b=O (.box j k)/\j∈ρ/\L=.box (ρ.idxOf j) k)\/(∃x∈X,c b=O (.tmp x.t x.k)/\L=.tmp x.i x.k)):=by intro b L hL;unfold gp at hL;grind
 have br:SR P ⟨E.GE,Γ,w,aV S (gp ρ X Γ c)⟩ Γ S (gp ρ X Γ c) w vs ⟨a4,Hc,X.map λx=>((x.i,x.k),x.e)⟩:={
  wi:=h.wi
  sz:=by simp_all
  tm:=λt q v hq cg=>by have ht:=aq hq;have hp:=m3 (l:=a5) (i:=t) (by simp_all);exact(ha t _ q hp hq).to ab (hv t _ v hp cg)
  bl:=by simp[S,hH.len]
  bx:=λi b Bc c1 ad=>by let⟨j,s,o⟩:=a8 c1;let⟨B,bt,hB,a6,F⟩:=hH.box i j s;rw[ad]at a6;cases a6;let⟨k1,H,k3⟩:=h.bx j b B o hB;exact⟨k1,H,F.to ab k3⟩
  inj:=λi j b hi hj=>by let⟨x,F,ci⟩:=a8 hi;let⟨y,hy,cn⟩:=a8 hj;have:=h.inj x y b ci cn;subst this;rw[<-Mc hn F,Mc hn hy]
  bn:=λi b m=>.inl (.inl ⟨i,m⟩)
  on:=λb L hL=>by refine⟨?_,.inl (.inr (by simp_all))⟩;rcases(an hL).2 with⟨j,k,m,_⟩|⟨x,_,m,_⟩<;>exact(h.on b _ m).1
  ot:=λt k e he=>by
   simp only[l9,Prod.mk.injEq]at he;obtain⟨x,F,⟨rfl,rfl⟩,rfl⟩:=he;rcases c7 x F with⟨c3,c4⟩|⟨ht1,ht2⟩;.exact⟨_,.slice N 0 0,c3,by rw[c4];rfl,⟨0,[],World.ownsRow_nil _ _ _ _,λb m=>by simp[Value.ownBlock]at m⟩,λb m=>by simp[Value.ownBlock]at m⟩
   let⟨u,v',h1,h2,h3,h4⟩:=h.ot _ _ _ ht1;refine⟨u,v',ht2.trans h1,h2,h3,λb m=>?_⟩;have hg:(Γ b).isSome:=by let⟨n,xs,_,o2⟩:=h3;simp_all
   unfold gp;grind
  ob:=λi k e cs own b hB hk m=>by
   let⟨j,s,o⟩:=a8 m;let⟨B,bt,a7,a6,F⟩:=hH.box i j s;rw[hB]at a6;cases a6;cases B with
   |cells cs' own'=>
    obtain⟨rfl,_,_⟩:=F;let⟨v,k1,H,k3⟩:=h.ob j k e cs' own' b a7 hk o;refine⟨v,k1,H,λb' a3=>?_⟩;have hg:(Γ b').isSome:=by let⟨n,xs,_,o2⟩:=H;simp_all
    simp only[gp,k3 b' a3];grind
   |map es=>simp_all[kh]
   |dead=>simp_all[kh]
  gl:=λg cs hg=>(h.gl g cs hg).restrict (n:=0) (by simp only[PVal.cl];exact h.gc g cs hg) (λi b hi _=>absurd hi (w0 _))
  gc:=h.gc
  gx:=λg cs hg=>by
   let⟨k1,H,k3,k4⟩:=h.gnow hg;refine⟨k1,λhT=>?_,k4⟩;rcases hT with⟨i,hi⟩|hT;.grind
   simp_all[gp]
  step:=.refl _ _ _ _}
 refine(hC.2 Γ S _ w vs br).mono λe w' he=>?_
 obtain⟨v,a9,b2,rfl,hS⟩:=he
 have ao:Γ.Le w a9 w':=hS.step.le
 have b5:∀b,aV S (gp ρ X Γ c) b->E.T b\/E.w.heap.size<=b:=by
  intro b m;rcases m with⟨i,hi⟩|m;.let⟨j,_,o⟩:=a8 hi;exact h.bn j b o
  .cases hL:gp ρ X Γ c b with|none=>simp_all|some L=>rcases(an hL).2 with⟨j,k,hk,_⟩|⟨x,_,hk,_⟩<;>exact(h.on b _ hk).2
 have a1:∀b,b<w.heap.size->¬aV S (gp ρ X Γ c) b->w'.heap[b]? =w.heap[b]?/\a9 b=Γ b:=λb m hT=>hS.step.keep b m hT
 have A:∀{b L},c b=O L->(Γ b).isSome->(∀j k,L=.box j k->j∉ρ)->(∀x∈X,L≠.tmp x.t x.k)->¬aV S (gp ρ X Γ c) b:=by
  intro b L hL hg ar R hT;rcases hT with⟨i,hi⟩|hT;.let⟨j,s,o⟩:=a8 hi;let⟨B,_,hB,_⟩:=hH.box i j s;rw[(h.bx j b B o hB).1]at hg;grind
  .cases bg:gp ρ X Γ c b with|none=>simp_all|some L'=>grind
 have a2:∀{j b:Nat},bs[j]? =O (O b)->j∉ρ->¬aV S (gp ρ X Γ c) b:=by
  intro j b o hj hT;rcases hT with⟨i,hi⟩|hT;.let⟨j',s,bm⟩:=a8 hi;have:=h.inj _ _ _ o bm;grind
  .cases bg:gp ρ X Γ c b with
   |none=>simp_all
   |some L'=>
    have hg:=(an bg).1;have c2:j<st.boxes.length:=by rw[<-h.bl];exact aq o
    rw[(h.bx j b _ o (m3 c2)).1]at hg;grind
 have b4:∀{b L},c b=O L->(Γ b).isSome->(∀j k,L=.box j k->j∉ρ)->(∀x∈X,L≠.tmp x.t x.k)->BA ρ X d b2 c b=O L:=by
  intro b L hL hg ar R;have hT:=A hL hg ar R;have bb:b2 b=N:=by
   cases F:b2 b with
   |none=>rfl
   | some L' =>
    let⟨_,H⟩:=hS.on b L' F;rcases H with H|H;.exact absurd H hT
    .have:=(h.on b L hL).1;exact absurd H (vcN.2 this)
  unfold BA;rw[bb];grind
 have a0:∀{v:D}{e:G}{b:Nat},eI P Γ w v e->v.ownBlock=O b->(Γ b).isSome:=by intro v e b ho m;let⟨n,xs,_,o2⟩:=ho;rw[o2 b m];rfl
 have c8:VR a9 bs w' r v:=hr.from ab (hS.tm 0 rc v rfl rfl)
 refine⟨v,a9,BA ρ X d b2 c,rfl,?_,ao⟩
 exact{
  wi:=hS.wi
  sz:=by simp[h.sz]
  tm:=λt q u hq hu=>by
   simp only[vbP]at hq;rw[vba]at hu;by_cases bi:d=t
   .subst bi;simp only[if_true]at hq hu;split at hu
    .split at hq;.cases hu;cases hq;exact c8
     .cases hq
    .rename_i c6;exact absurd hd c6
   .simp only[bi,if_false]at hq hu;exact(h.tm t q u hq hu).mono ao (.refl _)
  bl:=by simp[h.bl,bq]
  bx:=λj b B o hB=>by
   by_cases hj:j∈ρ;.let⟨i,s⟩:=vbc.1 hj;let⟨B',Bc,a7,ad,F⟩:=be.box i j s;rw[hB]at a7;cases a7;let⟨k1,H,k3⟩:=hS.bx i b Bc ((ab i j s).trans o) ad;exact⟨k1,H,F.from ab k3⟩
   .have b1:st.boxes[j]? =O B:=(b0 j hj).symm.trans hB;let⟨k1,H,k3⟩:=h.bx j b B o b1;let⟨q1,q2⟩:=a1 b H (a2 o hj);exact⟨q2.trans k1,R3 H hS.step.size,k3.mono ao (.refl _) q1⟩
  inj:=h.inj
  bn:=h.bn
  on:=λb L hL=>by
   unfold BA at hL;split at hL;.rename_i i k m;let⟨k1,H⟩:=hS.on b _ m;exact⟨k1,H.elim (b5 b) (λF=>.inr (m0 h.step.size F))⟩
   .rename_i t k m;let⟨k1,H⟩:=hS.on b _ m;exact⟨k1,H.elim (b5 b) (λF=>.inr (m0 h.step.size F))⟩
   .have c9:=hS.step.size;cases m:c b with
    |none=>rw[m]at hL;cases hL
    |some L'=>exact⟨R3 (h.on b _ m).1 c9,(h.on b _ m).2⟩
  ot:=λt k e he=>by
   rcases vz.1 he with he|he;.simp only[l9,Prod.mk.injEq]at he;obtain⟨⟨k',e'⟩,hm,⟨rfl,rfl⟩,rfl⟩:=he;let⟨u,v',h1,h2,h3,h4⟩:=hS.ot 0 k' e' (l9.2 ⟨(k',e'),hm,rfl⟩);simp at h1;subst h1;refine⟨v,v',by simp[hd],h2,h3,λb m=>?_⟩;simp only[BA,h4 b m]
   .let⟨he,cd⟩:=ed he;let⟨he,b3⟩:=bR he;have R:∀x∈X,kg.tmp t k≠.tmp x.t x.k:=λx F e=>by cases e;simp only[va4,vbl,vbf]at b3;exact b3 x F rfl
    let⟨u,v',h1,h2,h3,h4⟩:=h.ot t k e he;have hq:∀b,v'.ownBlock=O b->¬aV S (gp ρ X Γ c) b:=λb m=>A (h4 b m) (a0 h3 m) (λj k F=>by cases F) R;exact⟨u,v',by rw[vaI (λe=>cd e.symm)];exact h1,h2,h3.same λb m=>a1 b (h3.lt m) (hq b m),λb m=>b4 (h4 b m) (a0 h3 m) (λj k F=>by cases F) R⟩
  ob:=λj k e cs own b hB hk o=>by
   by_cases hj:j∈ρ
   .let⟨i,s⟩:=vbc.1 hj;let⟨B',Bc,a7,ad,F⟩:=be.box i j s;rw[hB]at a7;cases a7;cases Bc with
    |cells cs' own'=>
     obtain⟨rfl,_,_⟩:=F;let⟨v',k1,H,k3⟩:=hS.ob i k e cs' own b ad hk ((ab i j s).trans o);refine⟨v',k1,H,λb' a3=>?_⟩;have c0:ρ.getD i 0=j:=by rw[vav,s];rfl
     simp only[BA,k3 b' a3,c0]
    |map es=>simp[kh]at F
    |dead=>simp[kh]at F
   .have b1:st.boxes[j]? =O (.cells cs own):=(b0 j hj).symm.trans hB;let⟨v',k1,H,k3⟩:=h.ob j k e cs own b b1 hk o;let⟨_,b7,_⟩:=h.bx j b _ o b1;have ar:∀j' k',kg.box j k=.box j' k'->j'∉ρ:=λj' k' F=>by cases F;exact hj
    have R:∀x∈X,kg.box j k≠.tmp x.t x.k:=λx _ e=>by cases e
    exact⟨v',(bE (a1 b b7 (a2 o hj)).1 k).trans k1,H.same λb' a3=>a1 b' (H.lt a3) (A (k3 b' a3) (a0 H a3) ar R),λb' a3=>b4 (k3 b' a3) (a0 H a3) ar R⟩
  gl:=λg cs hg=>(h.gl g cs hg).mono ao (.refl _)
  gc:=h.gc
  gx:=h.gx
  step:={
   os:=hS.step.os.trans h.step.os
   tape:=hS.step.tape.trans h.step.tape
   output:=hS.step.output.trans h.step.output
   size:=m0 h.step.size hS.step.size
   drawn:=m0 h.step.drawn hS.step.drawn
   keep:=λb m hT=>by have b7:b<w.heap.size:=R3 m h.step.size;have c5:¬aV S (gp ρ X Γ c) b:=λF=>(b5 b F).elim hT (λF=>absurd F (vcN.2 m));let⟨k1,H⟩:=h.step.keep b m hT;let⟨q1,q2⟩:=a1 b b7 c5;exact⟨q1.trans k1,q2.trans H⟩
   le:=h.step.le.trans ao}}
end
end Go.Proofs.YtankopenjcbeeaaGreatDoor
