/- PROVED: a part of the proof. Conditions: none. -/
import Derived.Test.YtibglelmlnfojaaGreatDoorPkM2
import Derived.Deep.LoopGhost
import Derived.Below
set_option linter.unusedSimpArgs false set_option linter.defProp false
set_option linter.unusedVariables false
noncomputable section
namespace Go.Proofs.YtibglelmlnfojaaGreatDoor
open Go
open Option renaming some→O,none→N
open Go renaming TypeId→G,Value→D,Program→I,Oper→M,World→J,Code→W
open Bool renaming true→T,false→Z
open Decidable renaming decide→Y
open Go.Proofs.YtibglelmlnfojaaGreatDoor renaming PVal→U
def TE(P:I)(GE:List (Nat×List U))(n:U)(b:List U)(H:List aJ)(o:U->List (Nat×G)->List aJ->Prop):Prop:=
 match n with
 | .func (.func g) first cap =>
  (kT 0 (first++b++cap)/\∃r d,C P GE g (first++b++cap) [] [] r d []/\o r d H)\/
  (∃(ρ:List Nat)(a:List U)(h:List aJ)(m:U)(d:List (Nat×G))(c e:List aJ)(r:U),ρ.Nodup/\C P GE g a [] h m d c/\Ou ρ H h/\Ou ρ e c/\
   e.length=H.length/\(∀j:Nat,j∉ρ->e[j]? =H[j]?)/\KX ρ r m/\(first++b++cap).length=a.length/\
   (∀(i:Nat) p q,(first++b++cap)[i]? =O p->a[i]? =O q->KX ρ p q)/\o r d e)
 |_=>False
def qdN(P:I)(GE:List (Nat×List U))(a:Op)(id:Nat)(v:Operand->U)(H:List aJ)(b:U->List (Nat×G)->List aJ->Prop):Prop:=match a with|.call {callee:=.value f,args,..}=>TE P GE (v f) (args.toList.map v) H b|a=>match Ax P a id v H with|some (p,H')=>b p [] H'|none=>False
def Jj(b:aF)(a:Q Tmp)(p:U)(c:List (Nat×G))(H:List aJ):aF:=match a with|some d=>{tmps:=b.tmps.set d p,boxes:=H,own:=(c.map λx=>((d,x.1),x.2))++cU d b.own}|none=>{b with boxes:=H}
def DP(P:I)(t:G)(v:D):Q G:=match v,P.underlying t with|.slice N 0 0,O (.slice e)=>O e|_,_=>N
def sZ(o:M)(n:Nat):K:=match o.op with|.call {callee:=.value _,..}=>o.dst.any λd=>Y (d<n)|_=>T
def Yr(P:I)(GE:List (Nat×List U))(A:List Nat)(o:M)(id:Nat)(c:aF->Prop)(a:aF):Prop:=
 let m0:=sZ o a.tmps.length=T/\qdN P GE o.op id (opv GE a.tmps) a.boxes λp b H=>c (Jj a o.dst p b H)
 match o.op,o.dst with
 |.assign (.tmp t),O d=>d<a.tmps.length/\c {a with tmps:=a.tmps.set d (a.tmps.getD t .undef),own:=vI d (λx=>if x.1=t then(d,x.2)else x) a.own}
 |.move (.tmp t),O d=>
  if d∈A then d<a.tmps.length/\c {a with tmps:=a.tmps.set d (a.tmps.getD t .undef),own:=vI d (λx=>if x.1=t then(d,x.2)else x) a.own}else m0
 |.assign (.const v),O d=>match DP P o.type v with
  |some e=>d<a.tmps.length/\c {a with tmps:=a.tmps.set d (.slice []),own:=((d,0),e)::cU d a.own}
  |none=>m0
 |.move (.const v),O d=>match DP P o.type v with
  |some e=>d<a.tmps.length/\c {a with tmps:=a.tmps.set d (.slice []),own:=((d,0),e)::cU d a.own}
  |none=>m0
 |.extract (.tmp t) i,O d=>match FK (a.tmps.getD t .undef) i with
  |some p=>d<a.tmps.length/\c {a with tmps:=a.tmps.set d p,own:=vI d (λx=>if x=(t,i)then(d,0)else x) a.own}
  |none=>False
 |.buildSlice h len parts,O d=>match gV P h len (parts.toList.map λx=>(x.1,opv GE a.tmps x.2)),P.underlying h with
  |some p,O (.slice e)=>d<a.tmps.length/\c {a with tmps:=a.tmps.set d p,own:=((d,0),e)::cU d a.own}
  |_,_=>False
 | .call { callee := .builtin .append,args:=⟨[.tmp t,y]⟩,argTypes:=⟨[h,T']⟩ },O d => match P.underlying h,a.tmps.getD t .undef,opv GE a.tmps y with
  |some (.slice e),.slice es,.slice ns=>match DR P h es ns with
   |some p=>h=T'/\d<a.tmps.length/\((t,0),e)∈a.own/\c {a with tmps:=a.tmps.set d p,own:=((d,0),e)::cU d (a.own.filter λx=>x.1 !=(t,0))}
   |none=>False
  |_,_,_=>False
 | .load h x,O d =>
  if d∈A then match opv GE a.tmps x,P.underlying h with
   | .bptr i off,O (.slice e) => match a.boxes[i]? with
    |some (.cells cs own)=>match cs[off]? with
     |some p=>d<a.tmps.length/\(off,e)∈own/\c {tmps:=a.tmps.set d p,boxes:=a.boxes.set i (.cells cs (own.filter λx=>x.1 !=off)),own:=((d,0),e)::cU d a.own}
     |none=>False
    |_=>False
   |_,_=>False
  else m0
 | .store h x (.tmp t),_ => match a.own.find? (fun y => y.1 == (t,0)),opv GE a.tmps x,gB P h (opv GE a.tmps x) (a.tmps.getD t .undef) a.boxes with
  |some (_,e),.bptr i off,O H=>match H[i]?,(a.tmps.getD t .undef).one with
   |some (.cells cs own),T=>c (Jj {a with own:=a.own.filter λx=>x.1 !=(t,0)} o.dst (.val undef) [] (H.set i (.cells cs ((off,e)::own))))
   |_,_=>m0
  |_,_,_=>m0
 |_,_=>m0
section
variable{P:I}{E:BP}{Γ:ca}{bs:cF}{m:Nat->Q rI}{w:J}{a:Act}{st:aF}
def jw(P:I)(E:BP)(bs:cF)(id:Nat)(mk:K)(d:V Deferred)(e:aF->Prop)(a:Act)(w:J):Prop:=a.defers=d/\∃Γ c m st,SR P E Γ c m w a.tmps st/\e st/\(c=bs\/(mk=T/\∃b,c=bs.set id (O b)))
def SR.putv_nil(h:SR P E Γ bs m w a.tmps st){p:U}{v:D}(e:VR Γ bs w p v)(b:Q Tmp){H:List aJ}(c:H=st.boxes):SR P E Γ bs m w (a.put b v).tmps (Jj st b p [] H):=by subst c;cases b with|none=>exact h|some d=>exact h.set e
def fh(a:Act)(b:Q Tmp)(v:D):(a.put b v).defers=a.defers:=by cases b<;>rfl
def Tm{n:Nat}{l r:List U}:kT n (l++r)↔kT n l/\kT n r:=by induction l with|nil=>simp[kT]|cons p l ih=>simp only[vaN,kT,ih];exact⟨λh=>⟨⟨h.1,h.2.1⟩,h.2.2⟩,λh=>⟨h.1.1,h.1.2,h.2⟩⟩
def QV{l r:V U}{x y:Array D}(n:x.size=l.length)(h:∀(i:Nat) p v,l[i]? =O p->x[i]? =O v->VR Γ bs w p v)(d:∀(i:Nat) p v,r[i]? =O p->y[i]? =O v->VR Γ bs w p v)
  (i:Nat) (p:U) (v:D) (b:(l++r)[i]? =O p) (c:(x++y)[i]? =O v):VR Γ bs w p v:=by
 by_cases e:i<l.length
 .rw[B2 e]at b
  rw[va4 (by omega)]at c
  exact h i p v b c
 .rw[vav (by omega)]at b
  rw[vcm (by omega),n]at c
  exact d _ p v b c
def qgG(h:SR P E Γ bs m w a.tmps st){o:M}{f:Operand}{args:Array Operand}{a2:Array G}(ho:o.op=.call {callee:=.value f,args,argTypes:=a2}){d:Nat}(s:o.dst=O d)(hd:d<st.tmps.length)
  {a3:U->List (Nat×G)->List aJ->Prop} (y:TE P E.GE (opv E.GE st.tmps f) (args.toList.map (opv E.GE st.tmps)) st.boxes a3) (next:Act->J->Prop) (Q:Exit->Act->J->Prop)
  (hn:∀v q n A p z H,a3 p z H->SR P E q bs n A (a.put o.dst v).tmps (Jj st o.dst p z H)->next (a.put o.dst v) A):o.wp P a w next Q:=by
 have R:∀x,VR Γ bs w (opv E.GE st.tmps x) (a.eval x):=λx=>h.opv a.defers x
 unfold TE at y
 have hf:=R f
 split at y
 case h_2=>exact y.elim
 rename_i g first cap hfv
 rw[hfv]at hf
 generalize a1:a.eval f=vf at hf
 cases hf with
 |func _ _ _ fs cs hl hl' h1 h2=>
 have b:(fs++args.map a.eval++cs).size=(first++args.toList.map (opv E.GE st.tmps)++cap).length:=by simp[hl,hl']
 have L:∀(i:Nat) p v,(first++args.toList.map (opv E.GE st.tmps)++cap)[i]? =O p->(fs++args.map a.eval++cs)[i]? =O v->VR Γ bs w p v:=by refine QV (by simp[hl]) (QV hl h1 λi p v y hv=>?_) h2;exact Q8 R args.toList i p v y (by simpa using hv)
 have t:∀c:(∀vs w,(callFunc g vs).run P w=.ok (.enter g vs) w),(execOp a.eval o).run P w=.ok (.enter g (fs++args.map a.eval++cs)) w:=by intro c;simp[execOp,ho,resolve,a1,Deferred.ofValue,invoke,c]
 have F:d<a.tmps.size:=by rw[h.sz];exact hd
 unfold Oper.wp
 rcases y with⟨a0,r,z,B,S⟩|⟨ρ,argsC,Hc,rc,z,Hc',H',r,hnd,B,hH,hH',hlen,hsame,hr,hal,ha,S⟩
 .rw[t B.1]
  rw[Oper.upon_enter]
  refine(qlP h F B b L a0).mono λe A he=>?_
  obtain⟨v,q,n,rfl,X,_⟩:=he
  refine hn v q n A r z st.boxes S ?_
  rw[s];exact X
 .rw[t B.1]
  rw[Oper.upon_enter]
  refine(qjg h F hnd B hH hH' hlen hsame hr hal ha b L).mono λe A he=>?_
  obtain⟨v,q,n,rfl,X,_⟩:=he
  refine hn v q n A r z H' S ?_
  rw[s];exact X
def qi1{o:M}{next:Act->J->Prop}{c:Exit->Act->J->Prop}{r:Next}{v:D}{w':J}(b:r=.value v\/(r=.skip/\v=undef))(h:next (a.put o.dst v) w'):o.upon P a next c (.ok r w'):=by
 rcases b with rfl|⟨rfl,rfl⟩;.exact h
 .exact h
def qmI(h:SR P E Γ bs m w a.tmps st){o:M}{id:Nat}(A:aR o.op=T->bs[id]? =O N){a0:U->List (Nat×G)->List aJ->Prop}(s:qdN P E.GE o.op id (opv E.GE st.tmps) st.boxes a0)
  (next:Act->J->Prop) (Q:Exit->Act->J->Prop)
  (x:∀f args n,o.op=.call {callee:=.value f,args,argTypes:=n}->∃d,o.dst=O d/\d<st.tmps.length)
  (L:∀v e c i q p y H,a0 p y H->SR P E e c i q (a.put o.dst v).tmps (Jj st o.dst p y H)->(c=bs\/(aR o.op=T/\∃b,c=bs.set id (O b)))->next (a.put o.dst v) q):o.wp P a w next Q:=by
 unfold qdN at s
 split at s
 .rename_i f args n R
  let⟨d,F,z⟩:=x f args n R
  exact qgG h R F z s next Q λv e i q p y H hK hS=>L v e bs i q p y H hK hS (.inl rfl)
 .split at s
  .rename_i p H he
   let⟨r,v,q,e,c,S,X,B,h4,h5,t,h7⟩:=qmJ h a.defers A he
   unfold Oper.wp
   rw[show(execOp a.eval o).run P w=.ok r q from S]
   refine qi1 X (L v e c m q p [] H s ?_ ?_)
   .cases F:o.dst with
    |none=>exact B
    |some d=>exact B.set h4
   .rcases t with t|⟨hm,t⟩
    .exact .inl t
    .exact .inr ⟨hm,_,t⟩
  .exact s.elim
def qhD{o:M}{n:Nat}(h:sZ o n=T)(f:Operand)(args:Array Operand)(b:Array G)(e:o.op=.call {callee:=.value f,args,argTypes:=b}):∃d,o.dst=O d/\d<n:=by
 unfold sZ at h;rw[e]at h;cases c:o.dst with
 |none=>rw[c]at h;cases h
 |some d=>rw[c]at h;exact⟨d,rfl,by simpa using h⟩
def jw.of{o:M}{id:Nat}{x:aF->Prop}(h:SR P E Γ bs m w a.tmps st)(c:aR o.op=T->bs[id]? =O N)(r:sZ o st.tmps.length=T) (s:qdN P E.GE o.op id (opv E.GE st.tmps) st.boxes λp t H=>x (Jj st o.dst p t H)) (Q:Exit->Act->J->Prop):o.wp P a w (jw P E bs id (aR o.op) a.defers x) Q:=qmI h c s _ Q (qhD r) λ_ e b d _ _ _ _ i n q=>⟨fh _ _ _,e,b,d,_,n,i,q⟩
def Wb(h:SR P E Γ bs m w a.tmps st){t:Nat}{v:D}(c:a.tmps[t]? =O v):VR Γ bs w (st.tmps.getD t .undef) v:=by
 have b:t<st.tmps.length:=by rw[<-h.sz];exact(vao.1 c).1
 have:=h.tm t _ v (m6 b) c;rwa[vap,m6 b]
def Bt{t:Nat}{v:D}(b:a.tmps[t]? =O v):a.eval (.tmp t)=v:=by show a.tmps.getD t undef=v;rw[vaE,b];rfl
def TA(h:SR P E Γ bs m w a.tmps st){o:M}{id t d:Nat}{K:aF->Prop}(i:o.op=.assign (.tmp t)\/o.op=.move (.tmp t))(b:o.dst=O d)(s:d<st.tmps.length)
  (r:K {st with tmps:=st.tmps.set d (st.tmps.getD t .undef),own:=vI d (λx=>if x.1=t then(d,x.2)else x) st.own}) (Q:Exit->Act->J->Prop):
  o.wp P a w (jw P E bs id (aR o.op) a.defers K) Q:=by
 unfold Oper.wp
 have e:(execOp a.eval o).run P w=.ok (.value (a.eval (.tmp t))) w:=by rcases i with i|i<;>simp[execOp,i]
 rw[e,Oper.upon_value]
 have A:VR Γ bs w (st.tmps.getD t .undef) (a.eval (.tmp t)):=h.opv a.defers (.tmp t)
 have:=h.setRen (d:=d) (p:=st.tmps.getD t .undef) A (λx=>if x.1=t then(d,x.2)else x) (by rw[h.sz];exact s) λF B H _ y=>by
  by_cases q:F=t;.subst q;exact .inr ⟨B,by simp,λu L z n _=>by rw[Bt z];exact n⟩
  .exact .inl (by simp[q])
 have c:∀v,(a.put o.dst v).tmps=a.tmps.setIfInBounds d v:=λv=>by rw[b];rfl
 rw[<-c]at this
 exact⟨fh _ _ _,Γ,bs,_,_,this,r,.inl rfl⟩
def Xo(h:SR P E Γ bs m w a.tmps st){o:M}{id d:Nat}{e:G}{v:D}{K:aF->Prop}(q:o.op=.assign (.const v)\/o.op=.move (.const v))(c:o.dst=O d)(A:d<st.tmps.length)
  (t:DP P o.type v=O e) (z:K {st with tmps:=st.tmps.set d (.slice []),own:=((d,0),e)::cU d st.own}) (Q:Exit->Act->J->Prop):
  o.wp P a w (jw P E bs id (aR o.op) a.defers K) Q:=by
 unfold Oper.wp
 have n:(execOp a.eval o).run P w=.ok (.value v) w:=by rcases q with q|q<;>simp[execOp,q,Act.eval]
 rw[n,Oper.upon_value]
 have B:v=.slice N 0 0:=by
  unfold DP at t;split at t;.rfl
  .cases t
 subst B
 have y:=h.set (d:=d) (p:=.slice []) (v:=.slice N 0 0) .sliceNil
 have s:d<a.tmps.size:=by rw[h.sz];exact A
 have x:=y.addOwn (d:=d) (k:=0) (e:=e) (u:=.slice N 0 0) (v:=.slice N 0 0) (by simp[s]) rfl ⟨0,[],World.ownsRow_nil _ _ _ _,λb r=>by simp[Value.ownBlock]at r⟩ (λb r=>by simp[Value.ownBlock]at r)
 have i:∀v,(a.put o.dst v).tmps=a.tmps.setIfInBounds d v:=λv=>by rw[c];rfl
 rw[<-i]at x
 exact⟨fh _ _ _,Γ,bs,_,_,x,z,.inl rfl⟩
def qdz(h:SR P E Γ bs m w a.tmps st){o:M}{id t i d:Nat}{p:U}{a1:aF->Prop}(ho:o.op=.extract (.tmp t) i)(q:o.dst=O d)(S:d<st.tmps.length)
  (hp:FK (st.tmps.getD t .undef) i=O p)
  (R:a1 {st with tmps:=st.tmps.set d p,own:=vI d (λx=>if x=(t,i)then(d,0)else x) st.own}) (Q:Exit->Act->J->Prop):
  o.wp P a w (jw P E bs id (aR o.op) a.defers a1) Q:=by
 unfold Oper.wp
 let⟨v,L,hv⟩:=Vw (P:=P) (h.opv a.defers (.tmp t)) hp
 have s:(execOp a.eval o).run P w=.ok (.value v) w:=by simp[execOp,ho,L]
 rw[s,Oper.upon_value]
 have z:∃e,a.eval (.tmp t)=.tuple e/\e[i]? =O v:=by
  have b:(Instr.extract (a.eval (.tmp t)) i).run P w=.ok v w:=L;unfold Instr.extract at b;split at b
  .rename_i e X;split at b;.rename_i u A;simp at b;subst b;exact⟨e,X,A⟩
   .simp at b
  .simp at b
 let⟨e,y,F⟩:=z
 have:=h.setRen (d:=d) (p:=p) hv (λx=>if x=(t,i)then(d,0)else x) (by rw[h.sz];exact S) λt' k' e' _ a0=>by
  by_cases b:(t',k')=(t,i)
  .cases b;refine .inr ⟨0,by simp,λu v' A B c=>?_⟩;rw[Bt A]at y;subst y;have H:v=v':=by have:e[i]? =O v':=B;rw[F]at this;cases this;rfl
   subst H;let⟨n,xs,⟨_,c⟩,_⟩:=c;rcases c with⟨rfl,_⟩|⟨g,cap,cur,rfl,_⟩<;>rfl
  .exact .inl (by simp[b])
 have r:∀v,(a.put o.dst v).tmps=a.tmps.setIfInBounds d v:=λv=>by rw[q];rfl
 rw[<-r]at this
 exact⟨fh _ _ _,Γ,bs,_,_,this,R,.inl rfl⟩
def JJ(h:SR P E Γ bs m w a.tmps st){o:M}{id len d:Nat}{a0 e:G}{c:Array (Nat×Operand)}{p:U}{K:aF->Prop}(ho:o.op=.buildSlice a0 len c)(i:o.dst=O d)(hd:d<st.tmps.length)
  (F:P.underlying a0=O (.slice e)) (hp:gV P a0 len (c.toList.map λx=>(x.1,opv E.GE st.tmps x.2))=O p)
  (hK:K {st with tmps:=st.tmps.set d p,own:=((d,0),e)::cU d st.own}) (Q:Exit->Act->J->Prop):
  o.wp P a w (jw P E bs id (aR o.op) a.defers K) Q:=by
 have y:∀x,VR Γ bs w (opv E.GE st.tmps x) (a.eval x):=λx=>h.opv a.defers x
 let⟨k1,k2⟩:=Vt y c.toList
 let⟨v,w',z,R,S,h3,X,B,h6⟩:=Nt h k1 k2 hp
 have r:(execOp a.eval o).run P w=.ok (.value v) w':=by
  have:(c.map λx=>(x.1,a.eval x.2))=(c.toList.map λx=>(x.1,a.eval x.2)).toArray:=by apply vbQ;simp
  simp only[execOp,ho];rw[this];simp[R]
 unfold Oper.wp
 rw[r,Oper.upon_value]
 have s:d<a.tmps.size:=by rw[h.sz];exact hd
 have H:=S.set (d:=d) X
 have A:=H.addOwn (d:=d) (k:=0) (e:=e) (u:=v) (v:=v) (by simp[s]) (by
   let⟨n,xs,⟨_,t⟩,_⟩:=B e F;rcases t with⟨rfl,_⟩|⟨g,cap,cur,rfl,_⟩<;>rfl) (B e F) (λb hb=>by
   have:=h6 b hb;subst this;refine⟨?_,.inr h.step.size⟩;cases hL:m w.heap.size with
   |none=>rfl
   |some L=>exact absurd (h.on _ L hL).1 (vci _))
 have q:∀v,(a.put o.dst v).tmps=a.tmps.setIfInBounds d v:=λv=>by rw[i];rfl
 rw[<-q]at A
 exact⟨fh _ _ _,z,bs,_,_,A,hK,.inl rfl⟩
def kZ.part{v:D}{e:G}(h:kZ P Γ w v e):sm v 0=O v:=by let⟨n,c,⟨_,b⟩,_⟩:=h;rcases b with⟨rfl,_⟩|⟨g,cap,cur,rfl,_⟩<;>rfl
def qgv{u v:D}(c:sm u 0=O v)(e:∀b,u≠.tuple b)(d:∀b,u≠.agg b):u=v:=by cases u<;>simp[sm]at c<;>first|exact c|(exact absurd rfl (e _))|(exact absurd rfl (d _))
def UL(h:SR P E Γ bs m w a.tmps st){o:M}{id t d:Nat}{a0 e:G}{y:Operand}{R ns:V (V U)}{p:U}{K:aF->Prop}(ho:o.op=.call {callee:=.builtin .append,args:=⟨[.tmp t,y]⟩,argTypes:=⟨[a0,a0]⟩})
  (i:o.dst=O d) (hd:d<st.tmps.length) (hT:P.underlying a0=O (.slice e)) (A:st.tmps.getD t .undef=.slice R) (z:opv E.GE st.tmps y=.slice ns) (hp:DR P a0 R ns=O p) (n:((t,0),e)∈st.own)
  (hK:K {st with tmps:=st.tmps.set d p,own:=((d,0),e)::cU d (st.own.filter λx=>x.1 !=(t,0))}) (Q:Exit->Act->J->Prop):
  o.wp P a w (jw P E bs id (aR o.op) a.defers K) Q:=by
 let⟨u,v,X,h2,h3,h4⟩:=h.ot t 0 e n
 have c:=Wb h X
 rw[A]at c
 have B:u=v:=qgv h2 (λvs F=>by subst F;cases c) (λvs F=>by subst F;cases c)
 subst B
 have hf:=h.freeT t 0
 have hy:VR Γ bs w (opv E.GE st.tmps y) (a.eval y):=h.opv a.defers y
 rw[z]at hy
 let⟨H,w',L,r1,r2,r3,r4,r5,r6⟩:=qiy (ty:=o.type) hf hT c hy h3 (λb hb=>⟨by simp[h4 b hb],(h.on b _ (h4 b hb)).2⟩) hp
 have r:(execOp a.eval o).run P w=.ok (.value H) w':=by simp[execOp,ho,resolve,invoke,builtin,Bt X,r1]
 unfold Oper.wp
 rw[r,Oper.upon_value]
 have s:d<a.tmps.size:=by rw[h.sz];exact hd
 have g1:=r2.set (d:=d) r4
 have S:=g1.addOwn (d:=d) (k:=0) (e:=e) (u:=H) (v:=H) (by simp[s]) r5.part r5 r6
 have q:∀v,(a.put o.dst v).tmps=a.tmps.setIfInBounds d v:=λv=>by rw[i];rfl
 rw[<-q]at S
 exact⟨fh _ _ _,L,bs,_,_,S,hK,.inl rfl⟩
def SO(h:SR P E Γ bs m w a.tmps st){o:M}{id i c d:Nat}{a1 e:G}{x:Operand}{p:U}{A:List U}{own:List (Nat×G)}{K:aF->Prop}(ho:o.op=.load a1 x)
  (r:o.dst=O d) (hd:d<st.tmps.length) (X:P.underlying a1=O (.slice e)) (hx:opv E.GE st.tmps x=.bptr i c) (F:st.boxes[i]? =O (.cells A own)) (hp:A[c]? =O p) (s:(c,e)∈own)
  (hK:K {tmps:=st.tmps.set d p,boxes:=st.boxes.set i (.cells A (own.filter λx=>x.1 !=c)),own:=((d,0),e)::cU d st.own}) (Q:Exit->Act->J->Prop):
  o.wp P a w (jw P E bs id (aR o.op) a.defers K) Q:=by
 have n:VR Γ bs w (opv E.GE st.tmps x) (a.eval x):=h.opv a.defers x
 let⟨v,L,hv⟩:=Xt h n (t:=a1) (p:=p) (by rw[hx];simp only[qU,F,co,X];rw[List.head?_drop];exact hp)
 have z:(execOp a.eval o).run P w=.ok (.value v) w:=by simp[execOp,ho,L]
 unfold Oper.wp
 rw[z,Oper.upon_value]
 rw[hx]at n
 generalize a0:a.eval x=vx at n L
 cases n with
 |bptr _ _ b hb=>
 let⟨v',q1,q2,q3⟩:=h.ob i c e A own b F s hb
 have R:v=v':=by
  have:(loadVar a1 ⟨b,c,N⟩).run P w=.ok v w:=by simpa[Instr.loadAt,Instr.sureAddr]using L
  simp[loadVar,isAgg,run_underlying X,q1]at this;exact this.symm
 subst R
 have H:d<a.tmps.size:=by rw[h.sz];exact hd
 have g0:=h.freeB (j:=c) F
 have g1:=g0.set (d:=d) hv
 have S:=g1.addOwn (d:=d) (k:=0) (e:=e) (u:=v) (v:=v) (by simp[H]) q2.part q2 (λB q=>⟨by simp[q3 B q],(h.on B _ (q3 B q)).2⟩)
 have y:∀v,(a.put o.dst v).tmps=a.tmps.setIfInBounds d v:=λv=>by rw[r];rfl
 rw[<-y]at S
 exact⟨fh _ _ _,Γ,bs,_,_,S,hK,.inl rfl⟩
def QI(h:SR P E Γ bs m w a.tmps st){o:M}{id i d t:Nat}{b0 e:G}{x:Operand}{cs:List U}{own:List (Nat×G)}{H:List aJ}{K:aF->Prop}(ho:o.op=.store b0 x (.tmp t))
  (L:opv E.GE st.tmps x=.bptr i d) (B:gB P b0 (opv E.GE st.tmps x) (st.tmps.getD t .undef) st.boxes=O H) (hB:H[i]? =O (.cells cs own)) (p:(st.tmps.getD t .undef).one=T) (X:((t,0),e)∈st.own)
  (hK:K (Jj {st with own:=st.own.filter λx=>x.1 !=(t,0)} o.dst (.val undef) [] (H.set i (.cells cs ((d,e)::own))))) (Q:Exit->Act->J->Prop):
  o.wp P a w (jw P E bs id (aR o.op) a.defers K) Q:=by
 let⟨u,v,h1,h2,h3,h4⟩:=h.ot t 0 e X
 have a1:=Wb h h1
 have z:=VR.one a1 p
 have a9:u=v:=qgv h2 (λvs L=>by subst L;cases z) (λvs L=>by subst L;cases z)
 subst a9
 have A:VR Γ bs w (opv E.GE st.tmps x) (a.eval x):=h.opv a.defers x
 have hf:=h.freeT t 0
 let⟨w',r1,r2,r3⟩:=qcx hf A a1 B
 have a0:(execOp a.eval o).run P w=.ok .skip w':=by simp[execOp,ho,Bt h1,r1]
 unfold Oper.wp
 rw[a0,Oper.upon_skip]
 rw[L]at A
 generalize ao:a.eval x=vx at A r1
 cases A with
 |bptr _ _ b hb=>
 have S:i<st.boxes.length:=by rw[<-h.bl];exact ax hb
 have a6:Γ b=N:=(h.bx i b _ hb (m6 S)).1
 have hw:∃x0,w.cell? ⟨b,d,N⟩=O x0/\w'=w.setCell ⟨b,d,N⟩ u:=by
  have hr:(storeVar b0 ⟨b,d,N⟩ u).run P w=.ok () w':=by simpa[Instr.storeAt,Instr.sureAddr]using r1
  rw[L]at B;unfold gB at B;have a8:bH (st.tmps.getD t .undef)=O [st.tmps.getD t .undef]:=by
   unfold bH;split;.rename_i c hc;rw[hc]at p;cases p
   .rw[hU p]
  simp only[a8]at B;split at B
  .rename_i an ad a3;split at B
   .rename_i hc;let⟨c1,q,c2,_⟩:=hc;let⟨ar,q⟩:=vaO.1 q;let⟨c,t',e1,e2,e3,e4⟩:=h.box_cells hb a3;have a7:d<c.size:=by simp at c2;omega
    have r:w.cell? ⟨b,d,N⟩=O c[d]:=by rw[e4];simp[a7]
    refine⟨_,r,?_⟩;have a5:w.frozen? ⟨b,d,N⟩=false:=frozen_of_row w b d c t' e1;unfold storeVar at hr;rw[X5 z]at hr;have a2:P.cellsOf b0=1:=by simpa using c1.symm
    simp[run_sizeOf w q,a2,storeCells,Addr.add_lit,run_store _ _ _ _ _ z,r,a5]at hr;exact hr.symm
   .cases B
  .cases B
 obtain⟨x0,ab,rfl⟩:=hw
 have y:(w.setCell ⟨b,d,N⟩ u).cell? ⟨b,d,N⟩=O u:=World.cell?_setCell_same w _ _ ab
 have F:kZ P Γ (w.setCell ⟨b,d,N⟩ u) u e:=h3.same λR s=>by refine⟨heap_setCell_other w _ _ _ (λhe=>?_),rfl⟩;let⟨n,xs,_,o2⟩:=h3;have:=o2 R s;rw[he]at this;have a4:(⟨b,d,N⟩:Addr).block=b:=rfl;rw[a4,a6]at this;cases this
 have g1:=r2.addOwnB (i:=i) (b:=b) (j:=d) (e:=e) (v:=u) hb hB y F (λR s=>⟨by simp[h4 R s],(h.on R _ (h4 R s)).2⟩)
 exact⟨fh _ _ _,Γ,bs,_,_,g1.putv_nil (.val undef) o.dst rfl,hK,.inl rfl⟩
end
def FL(c:Array M)(a:List U)(j:Nat):Q (Q K):=match(c[j]?).bind (·.dst)with|none=>O N|some t=>match a[t]? with|none=>O N|some (.bool b)=>O (O b)|some .undef=>N|some (.val (.bool b))=>O (O b)|some _=>O N
def th(P:I)(o:M):Q aJ:=match o.op with|.alloc t=>O (match ft P t with|some zs=>.cells zs (Yt P t)|none=>.dead)|.box .. =>O .dead|.makeMap .. =>O (.map [])|_=>N
def g9(P:I)(a:V M):V aJ:=a.filterMap (th P)
section
variable{P:I}{E:BP}{Γ:ca}{bs:cF}{c:Nat->Q rI}{w:J}{a:Act}{st:aF}
def qiN(h:SR P E Γ bs c w a.tmps st){A:V Nat}{o:M}{id:Nat}(m:aR o.op=T->bs[id]? =O N){a0:aF->Prop}(b:Yr P E.GE A o id a0 st)(Q:Exit->Act->J->Prop):o.wp P a w (jw P E bs id (aR o.op) a.defers a0) Q:=by
 unfold Yr at b;split at b;case h_1 t d ho hd=>exact TA h (.inl ho) hd b.1 b.2 Q
 case h_2 t d ho hd=>
  split at b
  .exact TA h (.inr ho) hd b.1 b.2 Q
  .exact jw.of h m b.1 b.2 Q
 case h_3 v d ho hd=>
  split at b
  .rename_i e n;exact Xo h (.inl ho) hd b.1 n b.2 Q
  .exact jw.of h m b.1 b.2 Q
 case h_4 v d ho hd=>
  split at b
  .rename_i e n;exact Xo h (.inr ho) hd b.1 n b.2 Q
  .exact jw.of h m b.1 b.2 Q
 case h_5 t i d ho hd=>
  split at b
  .rename_i p n;exact qdz h ho hd b.1 n b.2 Q
  .exact b.elim
 case h_6 a1 len parts d ho hd=>
  split at b
  .rename_i p e n q;exact JJ h ho hd b.1 q n b.2 Q
  .exact b.elim
 case h_7 t y a1 T' d ho hd=>
  split at b
  .rename_i e es ns q n hn
   split at b
   .rename_i p L
    obtain⟨rfl,B,z,h3⟩:=b
    exact UL h ho hd B q n hn L z h3 Q
   .exact b.elim
  .exact b.elim
 case h_8 a1 x d ho hd=>
  split at b
  .split at b
   .rename_i i X e S q
    split at b
    .rename_i cs own F
     split at b
     .rename_i p hc
      exact SO h ho hd b.1 q S F hc b.2.1 b.2.2 Q
     .exact b.elim
    .exact b.elim
   .exact b.elim
  .exact jw.of h m b.1 b.2 Q
 case h_9 a1 x t ho=>
  split at b
  .rename_i y e i X H hf S R
   split at b
   .rename_i cs own F s
    have r:((t,0),e)∈st.own:=by have B:=vby hf;have z:=vb5 hf;simp only[o5]at z;subst z;exact B
    exact QI h ho S R F s r b Q
   .exact jw.of h m b.1 b.2 Q
  .exact jw.of h m b.1 b.2 Q
 case h_10=>exact jw.of h m b.1 b.2 Q
def Yp(h:SR P E Γ bs c w a.tmps st){e:Array M}{j:Nat}{x:Q K}(d:FL e st.tmps j=O x):yielded e a.tmps j=x:=by
 unfold FL at d;unfold yielded;cases q:(e[j]?).bind (·.dst)with
 |none=>rw[q]at d;cases d;rfl
 | some t =>
  rw[q]at d;simp only[hN];simp only at d;cases i:st.tmps[t]? with
  | none =>
   rw[i]at d;cases d;have:a.tmps[t]? =N:=by rw[List.getElem?_eq_none_iff]at i;rw[vcn,h.sz];exact i
   rw[this]
  | some p =>
   have o:t<a.tmps.size:=by rw[h.sz];exact ax i
   have m:a.tmps[t]? =O a.tmps[t]:=by simp[o]
   have n:=h.tm t p _ i m;rw[i]at d;rw[m];generalize a.tmps[t]=v at n;cases p<;>(try simp only at d);case undef=>cases d
   case bool b=>cases d;cases n;rfl
   case val u=>
    cases n
    cases v<;>(try simp only at d)<;>cases d<;>rfl
   all_goals (cases d;cases n<;>rfl)
def SR.extend(h:SR P E Γ bs c w a.tmps st)(X:V aJ):SR P E Γ (bs++List.replicate X.length N) c w a.tmps {st with boxes:=st.boxes++X}:=by
 have d:∀{i b:Nat},(bs++List.replicate X.length N)[i]? =O (O b)->bs[i]? =O (O b):=by
  intro i b m;by_cases x:i<bs.length;.rwa[B2 x]at m
  .rw[vav (by omega),va7]at m;split at m<;>cases m
 have n:bs.Sub (bs++List.replicate X.length N):=λi b m=>by rw[B2 (ax m)];exact m
 have o:∀{i b:Nat}{B:aJ},bs[i]? =O (O b)->(st.boxes++X)[i]? =O B->st.boxes[i]? =O B:=by intro i b B m q;rwa[B2 (by rw[<-h.bl];exact ax m)]at q
 exact{h with
  tm:=λt p v H L=>(h.tm t p v H L).mono (.refl _ _) n
  bl:=by simp[h.bl]
  bx:=λi b B m q=>by let⟨y,z,A⟩:=h.bx i b B (d m) (o (d m) q);exact⟨y,z,A.mono (.refl _ _) n rfl⟩
  inj:=λi j b m s=>h.inj i j b (d m) (d s)
  bn:=λi b m=>h.bn i b (d m)
  ob:=λi j e r own b q s m=>h.ob i j e r own b (o (d m) q) s (d m)
  gl:=λg r F=>(h.gl g r F).mono (.refl _ _) n}
def qni(b bs:cF):Prop:=∀i:Nat,i<b.length->bs[i]? =b[i]?
def qg9(P:I)(E:BP)(b:cF)(st:aF)(a:Act)(w:J):Prop:=∃Γ bs c,SR P E Γ bs c w a.tmps st/\qni b bs
def de(b:V M):Nat:=(b.filter λo=>aR o.op).length
def Nv(P:I)(ops:List M):(g9 P ops).length=de ops:=by unfold g9 de;induction ops with|nil=>rfl|cons o ops ih=>simp only[List.filterMap_cons,vbN];cases b:o.op<;>simp[th,aR,b,ih]
end
def dh(P:I):Op->Nat
 |.load .. |.lookup .. =>2
 |.store .. |.mapUpdate .. =>3
 | .call c => match c.callee with
  |.value (.func _)=>0
  |.value _=>3
  | .builtin .len => match c.argTypes.toList with|[t]=>(match P.underlying t with|some (.map ..)=>2|_=>0)|_=>0
  |_=>0
 |_=>0
def ku(a:V Nat)(o:M):Nat:=o.after.toList.foldl (λs e=>if Region.binds .any e then s|||2 ^ e.on|||a.getD e.on 0 else s) 0
def Tf(b:V M):V Nat:=b.foldl (λa o=>a++[ku a o]) []
def looks(a:Array M)(o:M):List Tmp:=(o.op.operands.toList.filterMap λ|.tmp t=>O t|_=>N)++(match o.guard with|some (j,_)=>((a[j]?).bind (·.dst)).toList|none=>[])
section
variable{P:I}{GE:V (Nat×V U)}
def UK{b:List Nat}{o:M}{i:Nat}(h:(ku b o).testBit i=T):∃e∈o.after.toList,Region.binds .any e=T/\(e.on=i\/(b.getD e.on 0).testBit i=T):=by
 unfold ku at h
 have m:∀(l:List Edge)(s:Nat),(l.foldl (λs e=>if Region.binds .any e then s|||2 ^ e.on|||b.getD e.on 0 else s) s).testBit i=T->
   s.testBit i=T\/∃e∈l,Region.binds .any e=T/\(e.on=i\/(b.getD e.on 0).testBit i=T):=by
  intro l
  induction l with
  |nil=>intro s c;exact .inl c
  | cons e l ih =>
   intro s c
   simp only[List.foldl_cons]at c
   rcases ih _ c with a|⟨e',h1,h2⟩
   .split at a
    .rename_i n
     simp only[Nat.testBit_or,va5]at a
     rcases a with(a|a)|a
     .exact .inl a
     .refine .inr ⟨e,by simp,n,.inl ?_⟩
      rw[Nat.testBit_two_pow]at a
      simpa using a
     .exact .inr ⟨e,by simp,n,.inr a⟩
    .exact .inl a
   .exact .inr ⟨e',by simp[h1],h2⟩
 rcases m _ 0 h with d|d;.simp at d
 .exact d
def qd4(c:List M):(Tf c).length=c.length/\∀(j i:Nat),((Tf c).getD j 0).testBit i=T->∃o,c[j]? =O o/\∃e∈o.after.toList,Region.binds .any e=T/\(e.on=i\/(e.on<j/\((Tf c).getD e.on 0).testBit i=T)):=by
 unfold Tf
 have x:∀(rest a:List M)(acc:List Nat),acc.length=a.length->
   (∀(j i:Nat),(acc.getD j 0).testBit i=T->∃o,(a++rest)[j]? =O o/\∃e∈o.after.toList,Region.binds .any e=T/\(e.on=i\/(e.on<j/\(acc.getD e.on 0).testBit i=T)))->
   (rest.foldl (λacc o=>acc++[ku acc o]) acc).length=(a++rest).length/\∀(j i:Nat),((rest.foldl (λacc o=>acc++[ku acc o]) acc).getD j 0).testBit i=T->
    ∃o,(a++rest)[j]? =O o/\∃e∈o.after.toList,Region.binds .any e=T/\(e.on=i\/(e.on<j/\((rest.foldl (λacc o=>acc++[ku acc o]) acc).getD e.on 0).testBit i=T)):=by
  intro rest
  induction rest with
  |nil=>intro a acc r h;exact⟨by simpa using r,by simpa using h⟩
  | cons o rest ih =>
   intro a acc r h
   simp only[List.foldl_cons]
   have b:a++o::rest=(a++[o])++rest:=by simp
   rw[b]
   refine ih (a++[o]) (acc++[ku acc o]) (by simp[r]) (λj i q=>?_)
   have d:∀m,m<acc.length->(acc++[ku acc o]).getD m 0=acc.getD m 0:=λm B=>by rw[vap,vap,B2 B]
   by_cases A:j<acc.length
   .rw[d j A]at q
    let⟨E,s,e,t,n,z⟩:=h j i q
    refine⟨E,by rw[<-b];exact s,e,t,n,z.imp id λy=>⟨y.1,?_⟩⟩
    rw[d _ (by omega)];exact y.2
   .by_cases w:j=acc.length
    .subst w
     have:(acc++[ku acc o]).getD acc.length 0=ku acc o:=by rw[vap,vav (m7 _)];simp
     rw[this]at q
     let⟨e,s,t,n⟩:=UK q
     refine⟨o,by rw[r];simp,e,s,t,?_⟩
     rcases n with n|n
     .exact .inl n
     .have p:e.on<acc.length:=by
       by_cases p:e.on<acc.length
       .exact p
       .rw[vap,va0 (by omega)]at n;simp at n
      exact .inr ⟨p,by rw[d _ p];exact n⟩
    .rw[vap,va0 (by simp;omega)]at q;simp at q
 have:=x c [] [] rfl (λj i q=>by simp at q);simpa using this
end
section
variable{P:I}{GE:V (Nat×V U)}
def qmK{a:Op}{id:Nat}{v:Operand->U}{H b:List aJ}{p:U}(c:dh P a≠3)(e:aR a=Z)(h:Ax P a id v H=O (p,b)):b=H:=by
 unfold Ax at h;split at h
 all_goals first
  |(cases h;done)
  |(cases h;rfl)
  |(let⟨q,_,d⟩:=fJ h;cases d;rfl)
  |(exact absurd rfl c)
  |(simp[aR]at e;done)
  |(split at h<;>first|(cases h;rfl)|cases h)
def qrz{a:Op}{id:Nat}{v:Operand->U}{H:List aJ}{p:U}(c:dh P a<2)(i:aR a=Z)(h:Ax P a id v H=O (p,H))(b:List aJ):Ax P a id v b=O (p,b):=by
 unfold Ax at h ⊢;split at h;case h_24 x t=>
  let⟨q,e,d⟩:=fJ h
  cases d
  simp only[dh]at c
  have:TG P t (v x) b=TG P t (v x) H:=by
   unfold TG;split<;>first|rfl|skip
   rename_i m _;simp[m]at c
  rw[this,e];rfl
 all_goals first
  |(cases h;done)
  |(cases h;rfl)
  |(let⟨q,e,d⟩:=fJ h;cases d;simp only[e,oo];done)
  |(simp[dh]at c;done)
  |(simp[aR]at i;done)
  |(split at h<;>first|(cases h;done)|(cases h;rfl)|(rename_i n;cases h;simp only[n];done))
def Ve{l:V Operand}{v v':Operand->U}(h:∀x∈l,v x=v' x):l.map v=l.map v':=vbq h
def qo1{c:Op}{id:Nat}{v v':Operand->U}{H:List aJ}(h:∀x∈c.operands.toList,v x=v' x):Ax P c id v H=Ax P c id v' H:=by
 unfold Ax;split;all_goals (simp only[Op.operands,Call.operands]at h)
 all_goals first
  |(simp at h;simp[h];done)
  |skip
 case h_7 t parts=>
  rw[vbq (f:=λx:Nat×Operand=>(x.1,v x.2)) (g:=λx=>(x.1,v' x.2)) λx a=>by rw[h x.2 (m8.2 ⟨x,a,rfl⟩)]]
 case h_8 t len parts=>
  rw[vbq (f:=λx:Nat×Operand=>(x.1,v x.2)) (g:=λx=>(x.1,v' x.2)) λx a=>by rw[h x.2 (m8.2 ⟨x,a,rfl⟩)]]
 case h_15 fn first cap=>
  rw[Ve λx a=>h x (by simp at a ⊢;exact .inl a),Ve λx a=>h x (by simp at a ⊢;exact .inr a)]
 case h_16 t x lo hi=>
  have d:v x=v' x:=h x (by simp)
  have e:lo.map v=lo.map v':=by cases lo with|none=>rfl|some y=>simp only[oo];rw[h y (by simp)]
  have i:hi.map v=hi.map v':=by cases hi with|none=>rfl|some y=>simp only[oo];rw[h y (by simp)]
  rw[d,e,i]
 case h_25 x r tys=>
  rw[h x (by simp),Ve λy b=>h y (by simp[b])]
 case h_26 x r tys=>
  rw[h x (by simp),Ve λy b=>h y (by simp[b])]
end
section
variable{P:I}{E:BP}{Γ:ca}{bs:cF}{b:Nat->Q rI}{w:J}{a:Act}{st:aF}
def VZ{α:Type}:∀{l:List α}{i:Nat}{x:α},l[i]? =O x->l.set i x=l
 |[],_,_,h=>by simp at h
 |_::_,0,_,h=>by simp at h;subst h;rfl
 |y::l,i+1,x,h=>by simp only[List.set_cons_succ];rw[VZ (by simpa using h)]
end
def bf(a:Array M)(i j:Nat):Prop:=((Tf a.toList).getD j 0).testBit i=T
def LR{α:Type}{l:V α}{i:Nat}{x d:α}(h:l[i]? =O x):l.getD i d=x:=by rw[vap,h];rfl
def dT(a:Array K)(i:Nat):Prop:=a.getD i Z=T
def qsE(b:Array M)(a:Array K):Prop:=∀(j:Nat) o,b[j]? =O o->dT a j->∀e∈o.after.toList,Region.binds .any e=T->dT a e.on
def WS{b:Array M}{a:Array K}(t:qsE b a):∀(j:Nat) o,b[j]? =O o->(∀e∈o.after.toList,Region.binds .any e=T->dT a e.on)->∀i,bf b i j->dT a i:=by
 intro j;induction j using Nat.strongRecOn with
 | _ j ih =>
  intro o x r i s;let⟨o',m,e,w,h,c⟩:=(qd4 b.toList).2 j i s;have:o'=o:=by
   have p:b[j]? =O o':=by simpa using m
   rw[x]at p;cases p;rfl
  subst this;have d:=r e w h;rcases c with c|⟨c,hb'⟩;.subst c;exact d
  .let⟨o2,n,_⟩:=(qd4 b.toList).2 e.on i hb';have q:b[e.on]? =O o2:=by simpa using n
   exact ih e.on c o2 q (t e.on o2 q d) i hb'
def gy{a:Array K}{i j:Nat}(c:i<a.size):dT (a.setIfInBounds i T) j↔j=i\/dT a j:=by
 unfold dT;by_cases h:i=j
 .subst h;constructor;.intro _;exact .inl rfl
  .intro _;simp[c]
 .rw[getD_set_ne Z h];constructor;.exact .inr
  .rintro(rfl|b);.exact absurd rfl h
   .exact b
section
variable{P:I}{E:BP}{ops:Array M}{n base:Nat}{T:Nat->aF}{bs0:cF}{ds:V Deferred}
def Qc(ops:Array M)(base i:Nat):Nat:=base+de (ops.toList.take i)
def B8(l r:V M):de (l++r)=de l+de r:=by simp[de]
def qkL{i j:Nat}{o:M}(h:ops[i]? =O o)(e:aR o.op=true)(c:i<j):Qc ops base i<Qc ops base j:=by
 unfold Qc;have d:ops.toList[i]? =O o:=by simpa using h
 have a:ops.toList.take (i+1)=ops.toList.take i++[o]:=by rw[vcy,d];rfl
 have b:ops.toList.take j=ops.toList.take (i+1)++(ops.toList.take j).drop (i+1):=by have:=(vbd (i+1) (ops.toList.take j)).symm;rwa[List.take_take,Nat.min_eq_left (by omega)]at this
 rw[b,B8,a,B8];have:de [o]=1:=by unfold de;simp[e]
 omega
def KT(n:Nat)(a:Array K):Nat:=((List.range n).filter λi=>!a.getD i Z).length
def qhT{l:List Nat}{p q:Nat->K}(c:∀i,q i=true->p i=true){j:Nat}(d:j∈l)(h:p j=true)(m:q j=Z):(l.filter q).length<(l.filter p).length:=by
 induction l with
 |nil=>cases d
 | cons x l ih =>
  have e:∀l:List Nat,(l.filter q).length<=(l.filter p).length:=by
   intro l;induction l with
   |nil=>simp
   | cons y l ih2 =>
    simp only[vbN];by_cases a:q y=true;.simp[a,c y a];exact ih2
    .by_cases b:p y=true;.simp[a,b];omega
     .simp[a,b];exact ih2
  simp only[vbN];rcases oL.1 d with rfl|d;.simp[h,m];have:=e l;omega
  .have:=ih d;by_cases a:q x=true;.simp[a,c x a];exact this
   .by_cases b:p x=true;.simp[a,b];omega
    .simp[a,b];exact this
end
section
variable{P:I}{E:BP}{w:J}{a:Act}{st:aF}
def Bv(m j:Nat):(Array.replicate m Z).getD j Z=false:=by rw[vaE,Array.getElem?_replicate];split<;>rfl
def Vz:∀(l:List M)(i:Nat)(o:M),l[i]? =O o->aR o.op=T->(g9 P l)[de (l.take i)]? =th P o
 |[],_,_,h,_=>by simp at h
 |x::l,0,o,h,hm=>by
  simp at h;subst h;have:∃B,th P x=O B:=by cases c:x.op<;>simp[aR,c]at hm<;>exact⟨_,by simp[th,c];rfl⟩
  let⟨B,e⟩:=this;simp[g9,de,e]
 | x :: l,i + 1,o,h,hm => by
  have d:=Vz l i o (by simpa using h) hm;have m:de ((x::l).take (i+1))=de [x]+de (l.take i):=by rw[List.take_succ_cons,<-B8];rfl
  rw[m];unfold g9;rw[List.filterMap_cons];cases c:th P x with
  |none=>
   have:de [x]=0:=by cases b:x.op<;>simp[th,b]at c<;>simp[de,aR,b]
   rw[this,ve];exact d
  |some B=>
   have:de [x]=1:=by cases b:x.op<;>simp[th,b]at c<;>simp[de,aR,b]
   rw[this,vcM];simpa[g9]using d
end
def Gr(n:Nat):List U->List U->Prop|[],[]=>True|p::ps,q::qs=>(q=.undef\/(p=q/\q.cl n))/\Gr n ps qs|_,_=>False
def Am(n:Nat):aJ->aJ->Prop|_,.dead=>True|.cells cs own,.cells cs' own'=>cs=cs'/\kT n cs/\∀x∈own',x∈own|.map es,.map es'=>es=es'/\(∀x∈es,x.1.cl n/\x.2.cl n)|_,_=>False
def eO(n:Nat):List aJ->List aJ->Prop|_,[]=>True|B::l,B'::l'=>Am n B B'/\eO n l l'|[],_::_=>False
structure quI(st st':aF):Prop where
 tmps:Gr st'.boxes.length st.tmps st'.tmps
 boxes:eO st'.boxes.length st.boxes st'.boxes
 own:∀x∈st'.own,x∈st.own
def qfE(id:Nat)(a:Exit->aF->Prop):Exit->aF->Prop|.exit id',st=>if id'=id then a .normal st else a (.exit id') st|e,st=>a e st
section
variable{P:I}{E:BP}{bs0:cF}
def Wc{n:Nat}:∀{l a:List U},Gr n l a->l.length=a.length/\∀(i:Nat) q,a[i]? =O q->q=.undef\/(l[i]? =O q/\q.cl n)
 |[],[],_=>⟨rfl,by simp⟩
 |[],_::_,h=>by simp[Gr]at h
 |_::_,[],h=>by simp[Gr]at h
 | p :: l,q :: a,h => by
  simp only[Gr]at h;let⟨d,e⟩:=Wc h.2;refine⟨by simp[d],λi x c=>?_⟩;cases i with
  | zero =>
   simp at c;subst c;rcases h.1 with b|⟨rfl,b⟩;.exact .inl b
   .exact .inr ⟨rfl,b⟩
  |succ i=>simpa using e i x (by simpa using c)
def ui{n:Nat}:∀{l a:List aJ},eO n l a->a.length<=l.length/\∀(i:Nat) B',a[i]? =O B'->∃B,l[i]? =O B/\Am n B B'
 |_,[],_=>⟨by simp,by simp⟩
 |[],_::_,h=>by simp[eO]at h
 |B::l,B'::a,h=>by simp only[eO]at h;let⟨c,d⟩:=ui h.2;refine⟨by simpa using c,λi x b=>?_⟩;cases i with|zero=>simp at b;subst b;exact⟨B,rfl,h.1⟩|succ i=>simpa using d i x (by simpa using b)
def qg9.less{st st':aF}{a:Act}{w:J}(hR:qg9 P E bs0 st a w)(hl:quI st st')(hm:bs0.length<=st'.boxes.length):qg9 P E bs0 st' a w:=by
 let⟨Γ,bs,ow,h,hk⟩:=hR;let⟨h1,h2⟩:=Wc hl.tmps;let⟨h3,h4⟩:=ui hl.boxes;have a0:st'.boxes.length<=bs.length:=by rw[h.bl];exact h3
 have d:∀{i b:Nat},(bs.take st'.boxes.length)[i]? =O (O b)->i<st'.boxes.length/\bs[i]? =O (O b):=by
  intro i b q;have r:i<st'.boxes.length:=by have:=ax q;simp at this;omega
  rw[vaG r]at q;exact⟨r,q⟩
 have m:∀(i b:Nat),i<st'.boxes.length->bs[i]? =O (O b)->(bs.take st'.boxes.length)[i]? =O (O b):=λi b q o=>by rw[vaG q];exact o
 refine⟨Γ,bs.take st'.boxes.length,ow,?_,λi q=>?_⟩
 .exact{
   wi:=h.wi
   sz:=by rw[h.sz,h1]
   tm:=λt p v s F=>by
    rcases h2 t p s with rfl|⟨h5,h6⟩;.exact .undef v
    .exact(h.tm t p v h5 F).restrict h6 m
   bl:=by simp;omega
   bx:=λi b B o hB=>by
    let⟨r,o⟩:=d o;let⟨H,y,A⟩:=h4 i B hB;let⟨k1,k2,k3⟩:=h.bx i b H o y;refine⟨k1,k2,?_⟩;cases B with
    |dead=>trivial
    |cells L own=>cases H<;>simp only[Am]at A;obtain⟨rfl,z,_⟩:=A;let⟨c,t,S,X,R,e4⟩:=k3;exact⟨c,t,S,X,λj p v s F=>(R j p v s F).restrict (xg z s) m,e4⟩
    |map es=>cases H<;>simp only[Am]at A;obtain⟨rfl,z⟩:=A;let⟨c,t,S,X,R,e4⟩:=k3;refine⟨c,t,S,X,λj k u x s F=>?_,e4⟩;let⟨q1,q2⟩:=z _ (vaK s);exact⟨(R j k u x s F).1.restrict q1 m,(R j k u x s F).2.restrict q2 m⟩
   inj:=λi j b q hj=>h.inj i j b (d q).2 (d hj).2
   bn:=λi b o=>h.bn i b (d o).2
   on:=h.on
   ot:=λt k e he=>h.ot t k e (hl.own _ he)
   ob:=λi j e L own b hB hj o=>by let⟨r,o⟩:=d o;let⟨H,y,A⟩:=h4 i _ hB;cases H<;>simp only[Am]at A;exact h.ob i j e _ _ b y (A.2.2 _ hj) o
   gl:=λg L hg=>(h.gl g L hg).restrict (n:=0) (by simp only[PVal.cl];exact h.gc g L hg) (λi b q _=>absurd q (va3 _))
   gc:=h.gc
   gx:=h.gx
   step:=h.step}
 .rw[vaG (by omega)];exact hk i q
end
section
variable{P:I}{E:BP}{bs0:cF}
def qg9.len{st:aF}{a:Act}{w:J}(h:qg9 P E bs0 st a w):bs0.length<=st.boxes.length:=by
 let⟨Γ,b,i,h,d⟩:=h;rw[<-h.bl];by_cases e:bs0.length<=b.length;.exact e
 .have c:=d b.length (by omega);rw[va0 (m7 _),m6 (by omega)]at c;cases c
def qdZ(P:I)(E:BP)(bs0:cF)(c:V Deferred)(d:Exit->aF->Prop):Exit->Act->J->Prop:=λe a w=>a.defers=c/\∃b,qg9 P E bs0 b a w/\d e b
end
def qpz(P:I)(a:aF):ResultVar->Q U|.tmp t=>O (a.tmps.getD t .undef)|.cell t ty=>qU P ty (a.tmps.getD t .undef) a.boxes
def qiP(P:I)(a:aF):List ResultVar->Q (List U)|[]=>O []|x::r=>match qpz P a x,qiP P a r with|some p,O l=>O (p::l)|_,_=>N
def VU(P:I)(a:aF):List ResultVar->Q U|[x]=>qpz P a x|rs=>(qiP P a rs).map .tuple
def fS:List ResultVar->Nat->Nat×Nat|[.tmp t],k=>(t,k)|rs,k=>match rs[k]? with|some (.tmp t)=>(t,0)|_=>(0,0)
def PVal.isSlice:U->K|.slice _=>T|_=>Z
def AD(a:aF):List ResultVar->Nat->Prop|[.tmp _],_=>True|[_],_=>False|rs,k=>match rs[k]? with|some (.tmp t)=>(a.tmps.getD t .undef).isSlice=T|_=>False
def qwK(P:I)(a:List ResultVar)(r:U)(c:List (Nat×G))(b:List aJ):Exit->aF->Prop| .normal,st | .ret,st => VU P st a = O r∧r.cl b.length∧eO b.length st.boxes b∧(∀ x ∈ c,(fS a x.1,x.2) ∈ st.own∧AD st a x.1) ∧ (∀x∈c,∀y∈c,fS a x.1=fS a y.1->x.1=y.1)|_,_=>False
section
variable{P:I}{E:BP}{Γ:ca}{bs:cF}{d:Nat->Q rI}{w:J}{a:Array D}{st:aF}
def SJ(c:Nat->Nat×Nat)(e:List (Nat×G))(d:Nat->Q rI):Nat->Q rI:=λb=>match d b with|some (.tmp t j)=>(e.find? λx=>c x.1==(t,j)).map λx=>.tmp 0 x.1|L=>L
def SR.finish(h:SR P E Γ bs d w a st){H':List aJ}{v:D}{r:U}(hv:VR Γ bs w r v)(s:r.cl H'.length)(hB:eO H'.length st.boxes H'){src:Nat->Nat×Nat}{ro:List (Nat×G)}
  (a5:∀x∈ro,(src x.1,x.2)∈st.own/\∀u S,a[(src x.1).1]? =O u->sm u (src x.1).2=O S->sm v x.1=O S)
  (a1:∀x∈ro,∀y∈ro,src x.1=src y.1->x.1=y.1):
  SR P E Γ (bs.take H'.length) (SJ src ro d) w #[v] ⟨[r],H',ro.map λx=>((0,x.1),x.2)⟩:=by
 have hR:qg9 P E [] st ⟨a,[]⟩ w:=⟨Γ,bs,d,h,λi z=>absurd z (va3 _)⟩
 let⟨h3,h4⟩:=ui hB
 have m:∀{i b:Nat},(bs.take H'.length)[i]? =O (O b)->i<H'.length/\bs[i]? =O (O b):=by
  intro i b z;have F:i<H'.length:=by have:=ax z;simp at this;omega
  rw[vaG F]at z;exact⟨F,z⟩
 have q:∀(i b:Nat),i<H'.length->bs[i]? =O (O b)->(bs.take H'.length)[i]? =O (O b):=λi b z o=>by rw[vaG z];exact o
 clear hR
 exact{
  wi:=h.wi
  sz:=rfl
  tm:=λt p S A a2=>by cases t with|zero=>simp at A a2;subst A;subst a2;exact hv.restrict s q|succ t=>simp at A
  bl:=by simp[h.bl];omega
  bx:=λi b B o hB=>by
   let⟨F,o⟩:=m o;let⟨B0,a0,H⟩:=h4 i B hB;let⟨k1,k2,k3⟩:=h.bx i b B0 o a0;refine⟨k1,k2,?_⟩;cases B with
   |dead=>trivial
   |cells cs own=>cases B0<;>simp only[Am]at H;obtain⟨rfl,s,_⟩:=H;let⟨c,t,X,e2,R,e4⟩:=k3;exact⟨c,t,X,e2,λj p v A hv=>(R j p v A hv).restrict (xg s A) q,e4⟩
   |map es=>cases B0<;>simp only[Am]at H;obtain⟨rfl,s⟩:=H;let⟨c,t,X,e2,R,e4⟩:=k3;refine⟨c,t,X,e2,λj k u x A hv=>?_,e4⟩;let⟨q1,q2⟩:=s _ (vaK A);exact⟨(R j k u x A hv).1.restrict q1 q,(R j k u x A hv).2.restrict q2 q⟩
  inj:=λi j b z hj=>h.inj i j b (m z).2 (m hj).2
  bn:=λi b o=>h.bn i b (m o).2
  on:=λb L hL=>by
   unfold SJ at hL;cases o:d b with
   |none=>rw[o]at hL;cases hL
   |some L'=>exact h.on b L' o
  ot:=λt k e he=>by simp only[m8,Prod.mk.injEq]at he;obtain⟨⟨k',e'⟩,hm,⟨rfl,rfl⟩,rfl⟩:=he;let⟨h1,h2⟩:=a5 _ hm;let⟨u,S,X,e2,R,e4⟩:=h.ot _ _ _ h1;refine⟨v,S,rfl,h2 u S X e2,R,λb o=>?_⟩;have:=e4 b o;simp only[SJ,this];cases hf:ro.find? λx=>src x.1==src k' with|none=>have:=vc1.1 hf _ hm;simp at this|some x=>have H:=vby hf;have a3:=vb5 hf;simp only[o5]at a3;have:=a1 x H _ hm a3;simp only at this;simp[this]
  ob:=λi j e cs own b hB hj o=>by let⟨F,o⟩:=m o;let⟨B0,a0,H⟩:=h4 i _ hB;cases B0<;>simp only[Am]at H;let⟨S,X,e2,R⟩:=h.ob i j e _ _ b a0 (H.2.2 _ hj) o;exact⟨S,X,e2,λb' a4=>by simp[SJ,R b' a4]⟩
  gl:=λg cs hg=>(h.gl g cs hg).restrict (n:=0) (by simp only[PVal.cl];exact h.gc g cs hg) (λi b z _=>absurd z (va3 _))
  gc:=h.gc
  gx:=h.gx
  step:=h.step}
def SR.getD(h:SR P E Γ bs d w a st)(t:Nat):VR Γ bs w (st.tmps.getD t .undef) (a.getD t undef):=by have:=h.opv [] (.tmp t);exact this
def qgh{p:U}{v:D}(c:VR Γ bs w p v)(b:p.isSlice=T):sm v 0=O v:=by cases p<;>simp[PVal.isSlice]at b;cases c<;>rfl
def qcA(h:SR P E Γ bs d w a st){g:ResultVar->Sem D}(F:∀t,g (.tmp t)=pure (a.getD t undef))(H:∀x t,g (.cell x t)=do loadVar t (<-asAddr (a.getD x undef))):∀{c:List ResultVar}{l:List U},qiP P st c=O l->∃m:List D,(c.mapM g).run P w=.ok m w/\m.length=c.length/\l.length=c.length/\(∀(i:Nat) p v,l[i]? =O p->m[i]? =O v->VR Γ bs w p v)/\
   ∀(i:Nat) t,c[i]? =O (.tmp t)->m[i]? =O (a.getD t undef)
 |[],l,hl=>by cases hl;exact⟨[],by simp,rfl,rfl,by simp,by simp⟩
 | x :: c,l,hl => by
  unfold qiP at hl;split at hl
  .rename_i p l' y s;cases hl;let⟨m,k1,k2,k3,k4,k5⟩:=qcA h F H s;have X:∃v,(g x).run P w=.ok v w/\VR Γ bs w p v/\∀t,x=.tmp t->v=a.getD t undef:=by
    cases x with
    |tmp t=>cases y;exact⟨a.getD t undef,by rw[F];simp,h.getD t,λt' e=>by cases e;rfl⟩
    | cell t ty =>
     have o:=h.getD t;let⟨v,n,r⟩:=Xt h o y;refine⟨v,?_,r,λt' e=>by cases e⟩;rw[H];have b:qU P ty (st.tmps.getD t .undef) st.boxes=O p:=y;generalize S:a.getD t undef=vt at o n;generalize R:st.tmps.getD t .undef=pt at o b;unfold qU at b;split at b;.cases o<;>simpa[Instr.loadAt,Instr.sureAddr,asAddr]using n
     .cases o;simpa[Instr.loadAt,Instr.sureAddr,asAddr]using n
     .cases b
   let⟨v,n,r,L⟩:=X;refine⟨v::m,by simp[vca,n,k1],by simp[k2],by simp[k3],λi q u z B=>?_,λi t A=>?_⟩;.cases i with|zero=>simp at z B;subst z;subst B;exact r|succ i=>exact k4 i q u (by simpa using z) (by simpa using B)
   .cases i with|zero=>simp at A;simp[L t A]|succ i=>simpa using k5 i t (by simpa using A)
  .cases hl
def Gd(h:SR P E Γ bs d w a st){fn:Func}{r:U}(z:VU P st fn.results.toList=O r):∃v,(results fn a).run P w=.ok v w/\VR Γ bs w r v/\∀k u v',AD st fn.results.toList k->a[(fS fn.results.toList k).1]? =O u->sm u (fS fn.results.toList k).2=O v'->sm v k=O v':=by
 have o:fn.results=fn.results.toList.toArray:=by simp
 generalize fn.results.toList=rs at z o;have R:∀(t:Nat) u v',(st.tmps.getD t .undef).isSlice=T->a[t]? =O u->sm u 0=O v'->a.getD t undef=v':=by
  intro t u v' F s b;have A:=h.getD t;have H:a.getD t undef=u:=by rw[vaE,s];rfl
  rw[H]at A ⊢;rw[qgh A F]at b;exact(q8 _ _).mp b
 obtain⟨g,hg,A,H⟩:∃g:ResultVar->Sem D,results fn a=(do let c <-fn.results.mapM g;pure (if h:c.size=1 then c[0]else .tuple c))/\(∀t,g (.tmp t)=pure (a.getD t undef))/\(∀x t,g (.cell x t)=do loadVar t (<-asAddr (a.getD x undef))):=
  ⟨_,rfl,λ_=>rfl,λ_ _=>rfl⟩
 rw[hg,o,List.mapM_toArray]
 have q:∀(l:List U),qiP P st rs=O l->rs.length≠1->r=.tuple l->(∀k,AD st rs k->∃t,rs[k]? =O (.tmp t)/\fS rs k=(t,0)/\(st.tmps.getD t .undef).isSlice=T)->
   ∃v,(do let c <-(Functor.map List.toArray (rs.mapM g));pure (if h:c.size=1 then c[0]else Value.tuple c):Sem D).run P w=.ok v w/\VR Γ bs w r v/\
    ∀k u v',AD st rs k->a[(fS rs k).1]? =O u->sm u (fS rs k).2=O v'->sm v k=O v':=by
  intro l B hn z F
  let⟨c,S,L,k3,X,k5⟩:=qcA h A H B
  refine⟨.tuple c.toArray,by simp[S,L,hn],?_,λk u v' m s b=>?_⟩
  .subst z
   exact .tuple _ _ (by simp[L,k3]) λi p v F hv=>X i p v F (by simpa using hv)
  .let⟨t,e1,e2,e3⟩:=F k m
   rw[e2]at s b
   have:=k5 k t e1
   show c.toArray[k]? =O v'
   rw[vbU,this,R t u v' e3 s b]
 rcases rs with _|⟨x,_|⟨y,rs⟩⟩;.cases z;exact q [] rfl (by simp) rfl (λk m=>by simp[AD]at m)
 .have B:qiP P st [x]=O [r]:=by
   have n:qpz P st x=O r:=z
   simp[qiP,n]
  let⟨c,S,L,k3,X,k5⟩:=qcA h A H B
  match c,L with
  | [v],_ =>
   refine⟨v,by simp[-List.mapM_cons,S],X 0 r v rfl rfl,λk u v' m s b=>?_⟩
   cases x with
   |tmp t=>
    have:=k5 0 t rfl
    simp at this
    simp only[fS]at s b
    rw[this,s]
    exact b
   |cell t ty=>exact m.elim
 .have n:(qiP P st (x::y::rs)).map PVal.tuple=O r:=z;rw[vaF]at n;let⟨l,B,e⟩:=n;refine q l B (by simp) e.symm λk m=>?_;simp only[AD]at m;split at m;.rename_i t ht;exact⟨t,ht,by simp only[fS,ht],m⟩
  .exact m.elim
end
section
variable{P:I}{GE:V (Nat×V U)}{A:V Nat}{ops:Array M}
def qo0{d:Op}{id:Nat}{v:Operand->U}{H:V aJ}{m K':U->V (Nat×G)->V aJ->Prop}(h:qdN P GE d id v H m)(c:∀p a H,m p a H->K' p a H):qdN P GE d id v H K':=by
 unfold qdN at *;split at h
 .unfold TE at *;split at h
  .rcases h with⟨e,r,a,i,b⟩|⟨ρ,argsC,Hc,rc,a,Hc',H',r,k1,k2,k3,k4,k5,k6,k7,k8,k9,b⟩;.exact .inl ⟨e,r,a,i,c _ _ _ b⟩
   .exact .inr ⟨ρ,argsC,Hc,rc,a,Hc',H',r,k1,k2,k3,k4,k5,k6,k7,k8,k9,c _ _ _ b⟩
  .exact h.elim
 .split at h;.exact c _ _ _ h
  .exact h.elim
def vD{o:M}{id:Nat}{e c:aF->Prop}{a:aF}(d:∀a,e a->c a)(h:sZ o a.tmps.length=T/\qdN P GE o.op id (opv GE a.tmps) a.boxes λp b H=>e (Jj a o.dst p b H)):sZ o a.tmps.length=T/\qdN P GE o.op id (opv GE a.tmps) a.boxes λp b H=>c (Jj a o.dst p b H):=⟨h.1,qo0 h.2 λ_ _ _ h=>d _ h⟩
def qjX{o:M}{id:Nat}{d c:aF->Prop}{st:aF}(a:∀st,d st->c st)(h:Yr P GE A o id d st):Yr P GE A o id c st:=by
 unfold Yr at *;split at h;case h_1=>exact⟨h.1,a _ h.2⟩
 case h_2=>
  split at h
  .rename_i b;simp only[hU b];exact⟨h.1,a _ h.2⟩
  .rename_i b;simp only[hG b];exact vD a h
 case h_3=>
  split at h
  .exact⟨h.1,a _ h.2⟩
  .exact vD a h
 case h_4=>
  split at h
  .exact⟨h.1,a _ h.2⟩
  .exact vD a h
 case h_5=>
  split at h
  .exact⟨h.1,a _ h.2⟩
  .exact h.elim
 case h_6=>
  split at h
  .exact⟨h.1,a _ h.2⟩
  .exact h.elim
 case h_7=>
  split at h
  .split at h
   .exact⟨h.1,h.2.1,h.2.2.1,a _ h.2.2.2⟩
   .exact h.elim
  .exact h.elim
 case h_8=>
  split at h
  .rename_i b
   simp only[hU b]
   split at h
   .split at h
    .split at h
     .exact⟨h.1,h.2.1,a _ h.2.2⟩
     .exact h.elim
    .exact h.elim
   .exact h.elim
  .rename_i b;simp only[hG b];exact vD a h
 case h_9=>
  split at h
  .split at h
   .exact a _ h
   .exact vD a h
  .exact vD a h
 case h_10=>exact vD a h
def qup{n:Int}(a: -9223372036854775808<=n)(b:n<9223372036854775808):IntKind.i64.wrap n=n:=by simp[IntKind.wrap,IntKind.bits,IntKind.signed];omega
end
section
variable{P:I}{E:BP}{Γ:ca}{bs:cF}{b:Nat->Q rI}{w:J}{a:Array D}{st:aF}
def qhV{sz:Nat}(c:0<sz):∀{d:List (List U)},(∀x∈d,x.length=sz)->∀{j:Nat}{p:U},d.flatten[j]? =O p->∃x,d[j / sz]? =O x/\x[j % sz]? =O p
 |[],_,j,p,h=>by simp at h
 | x :: d,hl,j,p,h => by
  have q:=hl x (by simp);rw[List.flatten_cons]at h;by_cases e:j<sz;.rw[B2 (by omega)]at h;rw[vc7 e,vcG e];exact⟨x,rfl,h⟩
  .rw[vav (by omega),q]at h;let⟨y,n,o⟩:=qhV c (λz r=>hl z (by simp[r])) h;have i:j / sz=(j - sz) / sz+1:=by
    conv=>lhs;rw[show j=(j - sz)+sz by omega]
    rw[Nat.add_div_right _ c]
   have m:j % sz=(j - sz) % sz:=by
    conv=>lhs;rw[show j=(j - sz)+sz by omega]
    rw[Nat.add_mod_right]
   rw[i,m];exact⟨y,by simpa using n,o⟩
def qhW{sz:Nat}:∀{c:List (List U)},(∀x∈c,x.length=sz)->c.flatten.length=c.length * sz
 |[],_=>by simp
 |x::c,hl=>by rw[List.flatten_cons,m3,hl x (by simp),qhW (λz d=>hl z (by simp[d])),vz,vbr,vb8,vcM]
end
def qi7(P:I)(E:BP)(d:cF)(id:Nat)(mk:K)(h:V Deferred)(m:aF->Prop)(a:Act)(w:J):Prop:=a.defers=h/\∃Γ c i e,SR P E Γ c i w a.tmps e/\m e/\(c=d\/(mk=T/\∃b,c=d.set id (O b))\/∃X,c=d++X)
def jw.to3{P:I}{E:BP}{c:cF}{id:Nat}{mk:K}{d:V Deferred}{q:aF->Prop}{a:Act}{w:J}(h:jw P E c id mk d q a w):qi7 P E c id mk d q a w:=by let⟨e,Γ,b,o,p,i,m,n⟩:=h;exact⟨e,Γ,b,o,p,i,m,n.imp_right .inl⟩
structure OA where
 i:Nat
 t:Nat
 k:Nat
 e:TypeId
def gM(ρ:List Nat)(a:List OA)(Γ:ca)(c:Nat->Q rI):Nat->Q rI:=λb=>match c b with
 |some (.box j k)=>if(Γ b).isSome/\j∈ρ then O (.box (ρ.idxOf j) k)else N
 |some (.tmp t k)=>match a.find? λy=>y.t==t&&y.k==k with|some x=>if(Γ b).isSome then O (.tmp x.i k)else N|none=>N
 |_=>N
def EB(ρ:List Nat)(c:List OA)(d:Nat)(a e:Nat->Q rI):Nat->Q rI:=λb=>match a b with|some (.box i k)=>O (.box (ρ.getD i 0) k)|some (.tmp _ k)=>O (.tmp d k)|none=>match e b with|some (.box j k)=>if j∈ρ then N else O (.box j k)|some (.tmp t k)=>if(c.any λx=>x.t==t&&x.k==k)then N else O (.tmp t k)|none=>N
section
variable{P:I}{E:BP}{Γ:ca}{bs:cF}{c:Nat->Q rI}{w:J}{a:Array D}{st:aF}{ρ:V Nat}
def qnG(h:SR P E Γ bs c w a st){g:FuncId}{a5 a4:List U}{r rc:U}{ro:List (Nat×G)}{Hc br H':List aJ}{vs:Array D}{d:Nat}{oa:List OA}(hd:d<a.size)
  (hn:ρ.Nodup) (hC:C P E.GE g a4 (oa.map λx=>((x.i,x.k),x.e)) Hc rc ro br) (cv:∀x∈oa,(vs[x.i]? =O (.slice N 0 0)/\x.k=0)\/(((x.t,x.k),x.e)∈st.own/\vs[x.i]? =a[x.t]?)) (d0:∀x∈oa,∀y∈oa,x.t=y.t->x.k=y.k->x.i=y.i) (hH:Ou ρ st.boxes Hc) (bt:Ou ρ H' br) (c4:H'.length=st.boxes.length) (b1:∀j:Nat,j∉ρ->H'[j]? =st.boxes[j]?)
  (hr:KX ρ r rc) (c0:a5.length=a4.length) (ha:∀(i:Nat) p q,a5[i]? =O p->a4[i]? =O q->KX ρ p q)
  (hl:vs.size=a5.length) (hv:∀(i:Nat) p v,a5[i]? =O p->vs[i]? =O v->VR Γ bs w p v):
  Calls P g vs w λe w'=>∃v an e0,e=.returned v/\SR P E an bs e0 w' (a.setIfInBounds d v) {st with tmps:=st.tmps.set d r,boxes:=H',own:=(ro.map λx=>((d,x.1),x.2))++cU d (st.own.filter λz=>!oa.any λx=>z.1==(x.t,x.k))}/\Γ.Le w an w':=by
 let X:cF:=ρ.map λj=>(bs[j]?).getD N
 have c3:∀{i j:Nat},ρ[i]? =O j->j<st.boxes.length:=λ{i j} m=>by let⟨B,_,hB,_⟩:=hH.box i j m;exact ax hB
 have ab:∀(i j:Nat),ρ[i]? =O j->X[i]? =bs[j]?:=by
  intro i j m;have hj:j<bs.length:=by rw[h.bl];exact c3 m
  simp[X,m,m6 hj]
 have a7:∀{i b:Nat},X[i]? =O (O b)->∃j,ρ[i]? =O j/\bs[j]? =O (O b):=by
  intro i b b3;have hi:i<ρ.length:=by have:=ax b3;simpa[X]using this
  have m:ρ[i]? =O ρ[i]:=m6 hi;exact⟨_,m,(ab i _ m).symm.trans b3⟩
 have a8:∀{b L},gM ρ oa Γ c b=O L->(Γ b).isSome/\((∃j k,c b=O (.box j k)/\j∈ρ/\L=.box (ρ.idxOf j) k)\/(∃x∈oa,c b=O (.tmp x.t x.k)/\L=.tmp x.i x.k)):=by
  intro b L F;unfold gM at F;split at F
  .rename_i j k o;split at F;.rename_i hc;cases F;exact⟨hc.1,.inl ⟨j,k,o,hc.2,rfl⟩⟩
   .cases F
  .rename_i t k o;split at F
   .rename_i x A;split at F;.rename_i hc;cases F;have h1:=vby A;have h2:=vb5 A;simp only[ne,o5]at h2;exact⟨hc,.inr ⟨x,h1,by rw[o,h2.1,h2.2],by rw[h2.2]⟩⟩
    .cases F
   .cases F
  .cases F
 have c5:SR P ⟨E.GE,Γ,w,cG X (gM ρ oa Γ c)⟩ Γ X (gM ρ oa Γ c) w vs ⟨a4,Hc,oa.map λx=>((x.i,x.k),x.e)⟩:={
  wi:=h.wi
  sz:=by simpa[c0]using hl
  tm:=λt q v hq dd=>by have ht:=ax hq;have hp:=m6 (l:=a5) (i:=t) (by rw[c0];exact ht);exact(ha t _ q hp hq).to ab (hv t _ v hp dd)
  bl:=by simp[X,hH.len]
  bx:=λi b Bc b3 ao=>by let⟨j,m,s⟩:=a7 b3;let⟨B,c6,hB,a6,A⟩:=hH.box i j m;rw[ao]at a6;cases a6;let⟨k1,S,k3⟩:=h.bx j b B s hB;exact⟨k1,S,A.to ab k3⟩
  inj:=λi j b hi hj=>by let⟨x,A,ds⟩:=a7 hi;let⟨y,hy,dx⟩:=a7 hj;have:=h.inj x y b ds dx;subst this;rw[<-EC hn A,EC hn hy]
  bn:=λi b o=>.inl (.inl ⟨i,o⟩)
  on:=λb L F=>by refine⟨?_,.inl (.inr (by rw[F];simp))⟩;rcases(a8 F).2 with⟨j,k,o,_⟩|⟨x,_,o,_⟩<;>exact(h.on b _ o).1
  ot:=λt k e he=>by
   simp only[m8,Prod.mk.injEq]at he;obtain⟨x,A,⟨rfl,rfl⟩,rfl⟩:=he;rcases cv x A with⟨c9,cg⟩|⟨ht1,ht2⟩;.exact⟨_,.slice N 0 0,c9,by rw[cg];rfl,⟨0,[],World.ownsRow_nil _ _ _ _,λb o=>by simp[Value.ownBlock]at o⟩,λb o=>by simp[Value.ownBlock]at o⟩
   let⟨u,v',h1,h2,h3,h4⟩:=h.ot _ _ _ ht1;refine⟨u,v',ht2.trans h1,h2,h3,λb o=>?_⟩;have hg:(Γ b).isSome:=by let⟨n,xs,_,o2⟩:=h3;rw[o2 b o];rfl
   unfold gM;rw[h4 b o];simp only;cases hf:oa.find? λy=>y.t==x.t&&y.k==x.k with|none=>have:=vc1.1 hf x A;simp at this|some y=>have q1:=vby hf;have q2:=vb5 hf;simp only[ne,o5]at q2;simp only[hU hg,d0 y q1 x A q2.1 q2.2]
  ob:=λi k e cs own b hB hk o=>by
   let⟨j,m,s⟩:=a7 o;let⟨B,c6,a9,a6,A⟩:=hH.box i j m;rw[hB]at a6;cases a6;cases B with
   |cells cs' own'=>
    obtain⟨rfl,_,_⟩:=A;let⟨v,k1,S,k3⟩:=h.ob j k e cs' own' b a9 hk s;refine⟨v,k1,S,λb' a1=>?_⟩;have hg:(Γ b').isSome:=by let⟨n,xs,_,o2⟩:=S;rw[o2 b' a1];rfl
    simp only[gM,k3 b' a1];rw[hU ⟨hg,vaK m⟩,EC hn m]
   |map es=>simp[po]at A
   |dead=>simp[po]at A
  gl:=λg cs hg=>(h.gl g cs hg).restrict (n:=0) (by simp only[PVal.cl];exact h.gc g cs hg) (λi b hi _=>absurd hi (va3 _))
  gc:=h.gc
  gx:=λg cs hg=>by
   let⟨k1,S,k3,k4⟩:=h.gnow hg;refine⟨k1,λhT=>?_,k4⟩;rcases hT with⟨i,hi⟩|hT;.let⟨j,_,s⟩:=a7 hi;exact S j g s rfl
   .cases F:gM ρ oa Γ c g with|none=>exact hT F|some L=>rcases(a8 F).2 with⟨j,k,be,_⟩|⟨x,_,be,_⟩<;>(rw[k3]at be;cases be)
  step:=.refl _ _ _ _}
 refine(hC.2 Γ X _ w vs c5).mono λe w' he=>?_
 obtain⟨v,an,b5,rfl,hS⟩:=he
 have b0:Γ.Le w an w':=hS.step.le
 have bc:∀b,cG X (gM ρ oa Γ c) b->E.T b\/E.w.heap.size<=b:=by
  intro b o;rcases o with⟨i,hi⟩|o;.let⟨j,_,s⟩:=a7 hi;exact h.bn j b s
  .cases F:gM ρ oa Γ c b with|none=>exact absurd F o|some L=>rcases(a8 F).2 with⟨j,k,hk,_⟩|⟨x,_,hk,_⟩<;>exact(h.on b _ hk).2
 have a2:∀b,b<w.heap.size->¬cG X (gM ρ oa Γ c) b->w'.heap[b]? =w.heap[b]?/\an b=Γ b:=λb o hT=>hS.step.keep b o hT
 have R:∀{b L},c b=O L->(Γ b).isSome->(∀j k,L=.box j k->j∉ρ)->(∀x∈oa,L≠.tmp x.t x.k)->¬cG X (gM ρ oa Γ c) b:=by
  intro b L F hg ad H hT;rcases hT with⟨i,hi⟩|hT;.let⟨j,m,s⟩:=a7 hi;let⟨B,_,hB,_⟩:=hH.box i j m;rw[(h.bx j b B s hB).1]at hg;cases hg
  .cases ar:gM ρ oa Γ c b with
   |none=>exact hT ar
   | some L' =>
    rcases(a8 ar).2 with⟨j,k,hk,hj,_⟩|⟨x,A,hk,_⟩;.rw[F]at hk;cases hk;exact ad j k rfl hj
    .rw[F]at hk;cases hk;exact H x A rfl
 have a3:∀{j b:Nat},bs[j]? =O (O b)->j∉ρ->¬cG X (gM ρ oa Γ c) b:=by
  intro j b s hj hT;rcases hT with⟨i,hi⟩|hT;.let⟨j',m,c2⟩:=a7 hi;have:=h.inj _ _ _ s c2;subst this;exact hj (vaK m)
  .cases ar:gM ρ oa Γ c b with
   |none=>exact hT ar
   |some L'=>
    have hg:=(a8 ar).1;have c8:j<st.boxes.length:=by rw[<-h.bl];exact ax s
    rw[(h.bx j b _ s (m6 c8)).1]at hg;cases hg
 have bb:∀{b L},c b=O L->(Γ b).isSome->(∀j k,L=.box j k->j∉ρ)->(∀x∈oa,L≠.tmp x.t x.k)->EB ρ oa d b5 c b=O L:=by
  intro b L F hg ad H;have hT:=R F hg ad H;have bi:b5 b=N:=by
   cases A:b5 b with
   |none=>rfl
   | some L' =>
    let⟨_,S⟩:=hS.on b L' A;rcases S with S|S;.exact absurd S hT
    .have:=(h.on b L F).1;exact absurd S (vcx.2 this)
  unfold EB;rw[bi];simp only[F];cases L with|tmp t k=>simp only;rw[hG];intro A;let⟨x,dk,bq⟩:=vcH.1 A;simp only[ne,o5]at bq;exact H x dk (by rw[bq.1,bq.2])|box j k=>simp only;rw[hG (ad j k rfl)]
 have a0:∀{v:D}{e:G}{b:Nat},kZ P Γ w v e->v.ownBlock=O b->(Γ b).isSome:=by intro v e b ho o;let⟨n,xs,_,o2⟩:=ho;rw[o2 b o];rfl
 have d1:VR an bs w' r v:=hr.from ab (hS.tm 0 rc v rfl rfl)
 refine⟨v,an,EB ρ oa d b5 c,rfl,?_,b0⟩
 exact{
  wi:=hS.wi
  sz:=by simp[h.sz]
  tm:=λt q u hq hu=>by
   simp only[vbH]at hq;rw[vbu]at hu;by_cases c1:d=t
   .subst c1;simp only[if_true]at hq hu;split at hu
    .split at hq;.cases hu;cases hq;exact d1
     .cases hq
    .rename_i cn;exact absurd hd cn
   .simp only[c1,if_false]at hq hu;exact(h.tm t q u hq hu).mono b0 (.refl _)
  bl:=by simp[h.bl,c4]
  bx:=λj b B s hB=>by
   by_cases hj:j∈ρ;.let⟨i,m⟩:=vbc.1 hj;let⟨B',Bc,a9,ao,A⟩:=bt.box i j m;rw[hB]at a9;cases a9;let⟨k1,S,k3⟩:=hS.bx i b Bc ((ab i j m).trans s) ao;exact⟨k1,S,A.from ab k3⟩
   .have b2:st.boxes[j]? =O B:=(b1 j hj).symm.trans hB;let⟨k1,S,k3⟩:=h.bx j b B s b2;let⟨q1,q2⟩:=a2 b S (a3 s hj);exact⟨q2.trans k1,vaT S hS.step.size,k3.mono b0 (.refl _) q1⟩
  inj:=h.inj
  bn:=h.bn
  on:=λb L F=>by
   unfold EB at F;split at F;.rename_i i k o;let⟨k1,S⟩:=hS.on b _ o;exact⟨k1,S.elim (bc b) (λA=>.inr (n3 h.step.size A))⟩
   .rename_i t k o;let⟨k1,S⟩:=hS.on b _ o;exact⟨k1,S.elim (bc b) (λA=>.inr (n3 h.step.size A))⟩
   .have d2:=hS.step.size;cases o:c b with
    |none=>rw[o]at F;cases F
    |some L'=>exact⟨vaT (h.on b _ o).1 d2,(h.on b _ o).2⟩
  ot:=λt k e he=>by
   rcases vaQ.1 he with he|he;.simp only[m8,Prod.mk.injEq]at he;obtain⟨⟨k',e'⟩,hm,⟨rfl,rfl⟩,rfl⟩:=he;let⟨u,v',h1,h2,h3,h4⟩:=hS.ot 0 k' e' (m8.2 ⟨(k',e'),hm,rfl⟩);simp at h1;subst h1;refine⟨v,v',by simp[hd],h2,h3,λb o=>?_⟩;simp only[EB,h4 b o]
   .let⟨he,d3⟩:=eZ he;let⟨he,b8⟩:=cK he;have H:∀x∈oa,rI.tmp t k≠.tmp x.t x.k:=λx A e=>by cases e;simp only[vaV,vbk,o5]at b8;exact b8 x A rfl
    let⟨u,v',h1,h2,h3,h4⟩:=h.ot t k e he;have hq:∀b,v'.ownBlock=O b->¬cG X (gM ρ oa Γ c) b:=λb o=>R (h4 b o) (a0 h3 o) (λj k A=>by cases A) H;exact⟨u,v',by rw[vba (λe=>d3 e.symm)];exact h1,h2,h3.same λb o=>a2 b (h3.lt o) (hq b o),λb o=>bb (h4 b o) (a0 h3 o) (λj k A=>by cases A) H⟩
  ob:=λj k e cs own b hB hk s=>by
   by_cases hj:j∈ρ
   .let⟨i,m⟩:=vbc.1 hj;let⟨B',Bc,a9,ao,A⟩:=bt.box i j m;rw[hB]at a9;cases a9;cases Bc with
    |cells cs' own'=>
     obtain⟨rfl,_,_⟩:=A;let⟨v',k1,S,k3⟩:=hS.ob i k e cs' own b ao hk ((ab i j m).trans s);refine⟨v',k1,S,λb' a1=>?_⟩;have c7:ρ.getD i 0=j:=by rw[vap,m];rfl
     simp only[EB,k3 b' a1,c7]
    |map es=>simp[po]at A
    |dead=>simp[po]at A
   .have b2:st.boxes[j]? =O (.cells cs own):=(b1 j hj).symm.trans hB;let⟨v',k1,S,k3⟩:=h.ob j k e cs own b b2 hk s;let⟨_,bg,_⟩:=h.bx j b _ s b2;have ad:∀j' k',rI.box j k=.box j' k'->j'∉ρ:=λj' k' A=>by cases A;exact hj
    have H:∀x∈oa,rI.box j k≠.tmp x.t x.k:=λx _ e=>by cases e
    exact⟨v',(dQ (a2 b bg (a3 s hj)).1 k).trans k1,S.same λb' a1=>a2 b' (S.lt a1) (R (k3 b' a1) (a0 S a1) ad H),λb' a1=>bb (k3 b' a1) (a0 S a1) ad H⟩
  gl:=λg cs hg=>(h.gl g cs hg).mono b0 (.refl _)
  gc:=h.gc
  gx:=h.gx
  step:={
   os:=hS.step.os.trans h.step.os
   tape:=hS.step.tape.trans h.step.tape
   output:=hS.step.output.trans h.step.output
   size:=n3 h.step.size hS.step.size
   drawn:=n3 h.step.drawn hS.step.drawn
   keep:=λb o hT=>by have bg:b<w.heap.size:=vaT o h.step.size;have ci:¬cG X (gM ρ oa Γ c) b:=λA=>(bc b A).elim hT (λA=>absurd A (vcx.2 o));let⟨k1,S⟩:=h.step.keep b o hT;let⟨q1,q2⟩:=a2 b bg ci;exact⟨q1.trans k1,q2.trans S⟩
   le:=h.step.le.trans b0}}
end
def nilTo(i:Nat)(a:G):U->U|.val (.pointer N)=>.nptr i a|p=>p
def qrx(P:I)(GE:List (Nat×List U))(o:M)(id:Nat)(h:aF->Prop)(a:aF):Prop:=match o.op,o.dst with| .box i (.tmp t),O d => ∃ (l:List U) (L:List (Nat×G)),a.tmps.getD t .undef = .agg l∧Zo l = T∧(∀ y ∈ L,((t,y.1),y.2) ∈ a.own)∧(L.map (·.1)).Nodup∧d < a.tmps.length ∧ h ⟨a.tmps.set d (.bptr id 0),a.boxes.set id (.cells (l.map (nilTo id i)) ((L.map λy=>(0+y.1,y.2)).reverse++[])),cU d (a.own.filter λx=>!L.any λy=>x.1==(t,y.1))⟩|.alloc i,O d=>∃c:List U,ft P i=O c/\d<a.tmps.length/\h ⟨a.tmps.set d (.bptr id 0),a.boxes.set id (.cells (c.map (nilTo id i)) (Yt P i)),cU d a.own⟩| .call { callee := .builtin .append,args:=⟨[.tmp t,y]⟩,argTypes:=⟨[i,T']⟩ },O d => ∃ (b:List (List U)) (s:List UInt8) (e:G) (p:U),a.tmps.getD t .undef = .slice b∧opv GE a.tmps y = .str s∧P.underlying i = O (.slice e)∧((t,0),e) ∈ a.own∧J8 P i T' b s = O p∧d < a.tmps.length ∧ h ⟨a.tmps.set d p,a.boxes,((d,0),e)::cU d (a.own.filter λx=>x.1 !=(t,0))⟩|_,_=>False
def qoX{P:I}{GE:V (Nat×V U)}{o:M}{id:Nat}{y n:aF->Prop}{st:aF}(m:∀st,y st->n st)(h:qrx P GE o id y st):qrx P GE o id n st:=by
 unfold qrx at *;split at h;.let⟨l,L,a,r,b,c,d,i⟩:=h;exact⟨l,L,a,r,b,c,d,m _ i⟩
 .let⟨x,a,b,c⟩:=h;exact⟨x,a,b,m _ c⟩
 .let⟨q,s,e,p,a,b,c,d,i,t,w⟩:=h;exact⟨q,s,e,p,a,b,c,d,i,t,m _ w⟩
 .exact h
section
variable{P:I}{E:BP}{Γ:ca}{bs:cF}{m:Nat->Q rI}{w:J}
def VR.nilTo{p:U}{v:D}(h:VR Γ bs w p v)(i:Nat)(a:G):VR Γ bs w (nilTo i a p) v:=by
 unfold Go.Proofs.YtibglelmlnfojaaGreatDoor.nilTo;split;.cases h;exact .nptrN i a
 .exact h
section
variable{a:Array D}{st:aF}
def SR.weakBox(h:SR P E Γ bs m w a st){i:Nat}{cs:V U}{own:V (Nat×G)}(z:st.boxes[i]? =O (.cells cs own)){T:G}(X:∀(b:Nat) c t,bs[i]? =O (O b)->w.heap[b]? =O (.cells c t (0,0))->t=T/\c.size=cs.length):SR P E Γ bs m w a {st with boxes:=st.boxes.set i (.cells (cs.map (nilTo i T)) own)}:=
 { h with
  bl:=by simp[h.bl]
  bx:=λj b B r d=>by
   by_cases s:i=j
   .subst s;rw[o6 (ax z)]at d;cases d;let⟨k1,k2,c,t,L,k4,k5,k6⟩:=h.bx i b _ r z;refine⟨k1,k2,c,t,L,by simpa using k4,λq p v F hv=>?_,λq i2 S H=>?_⟩;rotate_left
    .rw[t8]at H;let⟨R,o,n⟩:=vaF.1 H;rw[vbJ];unfold Go.Proofs.YtibglelmlnfojaaGreatDoor.nilTo at n;split at n;.cases n;exact X b c t r L
     .subst n;exact k6 q i2 S o
    rw[t8]at F;obtain⟨R,o,rfl⟩:=vaF.1 F;exact(k5 q R v o hv).nilTo i T
   .rw[t7 s]at d;exact h.bx j b B r d
  ob:=λj q e A y b d s r=>by
   by_cases x:i=j;.subst x;rw[o6 (ax z)]at d;cases d;exact h.ob i q e cs own b z s r
   .rw[t7 x]at d;exact h.ob j q e A y b d s r}
end
variable{a:Act}{st:aF}
def qmB(h:SR P E Γ bs m w a.tmps st){o:M}{id:Nat}(a2:aR o.op=true->bs[id]? =O N){ar:aF->Prop}(hp:qrx P E.GE o id ar st)(Q:Exit->Act->J->Prop):o.wp P a w (qi7 P E bs id (aR o.op) a.defers ar) Q:=by
 unfold qrx at hp;split at hp
 .rename_i T t d B hd;let⟨l,L,ht,a6,hm,hn,X,hK⟩:=hp;have n:=a2 (by simp[B,aR]);have a9:t<st.tmps.length:=by
   by_cases a3:t<st.tmps.length;.exact a3
   .rw[vap,va0 (vbY a3)]at ht;cases ht
  have a8:t<a.tmps.size:=by rw[h.sz];exact a9
  have hu:a.tmps[t]? =O a.tmps[t]:=by simp[a8]
  generalize a.tmps[t]=u at hu;have x:=Wb h hu;rw[ht]at x;let⟨v,w',F,r2,r3,r4,r5⟩:=qiA (t:=T) h n x (cs:=l) (qcb rfl a6);cases x with|agg _ vs hl hvv=>
  have r:(execOp a.eval o).run P w=.ok (.value v) w':=by simp[execOp,B,Bt hu,F]
  have a0:w'=w.alloc (.cells (Value.agg vs).cells T)/\v=.pointer (O ⟨w.heap.size,0,N⟩):=by
   have:(Instr.box T (.agg vs)).run P w=.ok (.pointer (O ⟨w.heap.size,0,N⟩)) (w.alloc (.cells (Value.agg vs).cells T)):=by simp[Instr.box,newVar,newRow]
   rw[this]at F;cases F;exact⟨rfl,rfl⟩
  obtain⟨rfl,rfl⟩:=a0;unfold Oper.wp;rw[r,Oper.upon_value];have a1:(bs.set id (O w.heap.size))[id]? =O (O w.heap.size):=o6 (ax n);have A:id<st.boxes.length:=by rw[<-h.bl];exact ax n
  let⟨ao,g1⟩:=SR.moveOwns (off:=0) a1 hu L r2 (o6 A) hm hn λy hy=>by let⟨u',v',S,e2,_,_⟩:=h.ot t y.1 y.2 (hm y hy);rw[hu]at S;cases S;refine⟨v',e2,?_⟩;rw[ve,cell_of_row _ _ _ _ T _ (jl w _)];exact e2
  have H:=g1.weakBox (i:=id) (cs:=l) (own:=(L.map λy=>(0+y.1,y.2)).reverse++[]) (by rw[vbV];exact o6 A) (T:=T) (λb c t R hc=>by
   rw[a1]at R;cases R;rw[jl]at hc;cases hc;exact⟨rfl,hl⟩)
  simp only[vbV]at H;have g3:=H.set (d:=d) r3;have q:∀v,(a.put o.dst v).tmps=a.tmps.setIfInBounds d v:=λv=>by rw[hd];rfl
  rw[<-q]at g3;exact⟨fh _ _ _,Γ,_,_,_,g3,hK,.inr (.inl ⟨by simp[B,aR],_,rfl⟩)⟩
 .rename_i T d B hd;let⟨zs,hz,X,hK⟩:=hp;have n:=a2 (by simp[B,aR]);let⟨v,w',F,r2,r3,r4,r5⟩:=qb6 (t:=T) h n hz;have r:(execOp a.eval o).run P w=.ok (.value v) w':=by simp[execOp,B,F]
  unfold Oper.wp;rw[r,Oper.upon_value];have A:id<st.boxes.length:=by rw[<-h.bl];exact ax n
  have H:=r2.weakBox (i:=id) (cs:=zs) (own:=Yt P T) (o6 A) (T:=T) (λb c t R hc=>by
   let⟨z,hr,S,i,hi,an⟩:=wk (w:=w) hz;have a0:w'=w.alloc (.cells z.cells T)/\v=.pointer (O ⟨w.heap.size,0,N⟩):=by
    have:(Instr.alloc T true (.tuple #[])).run P w=.ok (.pointer (O ⟨w.heap.size,0,N⟩)) (w.alloc (.cells z.cells T)):=by simp[Instr.alloc,hr,newVar,newRow]
    rw[this]at F;cases F;exact⟨rfl,rfl⟩
   obtain⟨rfl,rfl⟩:=a0;rw[o6 (ax n)]at R;cases R;rw[jl]at hc;cases hc;exact⟨rfl,by rw[S];simp⟩)
  simp only[vbV]at H;have g3:=H.set (d:=d) r3;have q:∀v,(a.put o.dst v).tmps=a.tmps.setIfInBounds d v:=λv=>by rw[hd];rfl
  rw[<-q]at g3;exact⟨fh _ _ _,Γ,_,_,_,g3,hK,.inr (.inl ⟨by simp[B,aR],_,rfl⟩)⟩
 .rename_i t y T T' d B hd;let⟨es,s,e,p,ht,hy,hT,hm,a7,X,hK⟩:=hp;let⟨u,v,S,e2,h3,h4⟩:=h.ot t 0 e hm;have x:=Wb h S;rw[ht]at x;have ab:v=u:=by exact(qgv e2 (λvs hx=>by subst hx;cases x) (λvs hx=>by subst hx;cases x)).symm
  subst ab;have a4:VR Γ bs w (opv E.GE st.tmps y) (a.eval y):=h.opv a.defers y;rw[hy]at a4;have hf:=h.freeT t 0;let⟨v',w',ad,F,r2,r3,r4,r5,r6⟩:=qgC (ty:=o.type) hf hT x a4 h3 (λb R=>⟨by simp[h4 b R],(h.on b _ (h4 b R)).2⟩) a7;have r:(execOp a.eval o).run P w=.ok (.value v') w':=by simp[execOp,B,resolve,invoke,builtin,Bt S,F]
  unfold Oper.wp;rw[r,Oper.upon_value];have a5:d<a.tmps.size:=by rw[h.sz];exact X
  have g1:=r2.set (d:=d) r4;have H:=g1.addOwn (d:=d) (k:=0) (e:=e) (u:=v') (v:=v') (by simp[a5]) r5.part r5 r6;have q:∀v,(a.put o.dst v).tmps=a.tmps.setIfInBounds d v:=λv=>by rw[hd];rfl
  rw[<-q]at H;exact⟨fh _ _ _,ad,bs,_,_,H,hK,.inl rfl⟩
 .exact hp.elim
end
end Go.Proofs.YtibglelmlnfojaaGreatDoor
