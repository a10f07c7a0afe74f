/- PROVED: a part of the proof. Conditions: none. -/
import Derived.Test.YtibglelmlnfojaaGreatDoorPkM3
import Derived.WalkKit
import Derived.RangeFuncNested
import Derived.RangeFuncCalls
import Derived.Sort.LoopGhostIn
import Derived.OrdersIn
set_option linter.unusedSimpArgs false set_option linter.defProp false
set_option linter.unusedVariables false
noncomputable section
namespace Go.Proofs.YtibglelmlnfojaaGreatDoor
open Go
open Option renaming some→O,none→N
open Go renaming TypeId→G,Value→D,Program→I,Oper→M,World→J,Code→W
open Bool renaming true→T,false→Z
open Decidable renaming decide→Y
open Go.Proofs.YtibglelmlnfojaaGreatDoor renaming PVal→U
abbrev fG:D:=.slice N 0 0
def qs0(v:D):U:=if zC v then .val fG else absC v
def qpl(P:I)(t:G):Q (V U):=((P.info? t).bind (·.zero)).map λz=>z.cells.toList.map qs0
def qgD(P:I)(t:G)(a:List (Nat×U)):Q (List U):=match P.underlying t,qpl P t with|some (.struct fs),O zs=>if fs.all (λf=>(P.info? f.type).isSome)then qch (λi=>(fs[i]?).map λf=>(f.offset,P.cellsOf f.type)) zs a else N|_,_=>N
def qjI(a:List U):List (Nat×G)->Prop|[]=>True|x::r=>a[x.1]? =O (.val fG)/\qjI a r
def Ce(P:I)(t:G)(a:V (Nat×U))(L:V (Nat×G)):Prop:=∃b,qgD P t a=O b/\qjI b L
def ownLe(c H:V aJ):Prop:=c.length=H.length/\∀(i:Nat) B,c[i]? =O B->∃b,H[i]? =O b/\(B=b\/∃d own a,b=.cells d own/\B=.cells d a/\∀x∈a,x∈own)
structure T9(P:Program)(GE:List (Nat×List PVal))(f:Operand)(args:List Operand)(st:aF)(r:PVal)(ro:List (Nat×TypeId))(H':List aJ)(oa:List OA):Prop where
 ex:∃(g:FuncId)(first cap argsC:List PVal)(ρ:List Nat)(H0 Hc Hc':List aJ)(rc:PVal),opv GE st.tmps f=.func (.func g) first cap/\ρ.Nodup/\C P GE g argsC (oa.map λx=>((x.i,x.k),x.e)) Hc rc ro Hc'/\
  ownLe H0 st.boxes/\Ou ρ H0 Hc/\Ou ρ H' Hc'/\H'.length=st.boxes.length/\(∀j:Nat,j∉ρ->H'[j]? =H0[j]?)/\KX ρ r rc/\(first++args.map (opv GE st.tmps)++cap).length=argsC.length/\
  (∀(i:Nat) p q,(first++args.map (opv GE st.tmps)++cap)[i]? =some p->argsC[i]? =some q->KX ρ p q)/\
  (∀x∈oa,∃j,x.i=first.length+j/\((args[j]? =some (.const fG)/\x.k=0)\/(((x.t,x.k),x.e)∈st.own/\args[j]? =some (.tmp x.t))))/\(∀x∈oa,∀y∈oa,x.t=y.t->x.k=y.k->x.i=y.i)
def qcp(P:I)(GE:List (Nat×List U))(o:M)(s:aF->Prop)(a:aF):Prop:=match o.op,o.dst with| .build w parts,O d => ∃ (p:U) (L:List (Nat×G)),df P w (parts.toList.map fun x => (x.1,opv GE a.tmps x.2)) = O p∧Ce P w (parts.toList.map fun x => (x.1,opv GE a.tmps x.2)) L ∧ d<a.tmps.length/\s {a with tmps:=a.tmps.set d p,own:=(L.map λx=>((d,x.1),x.2))++cU d a.own}| .store w x (.tmp t),N => ∃ (i b:Nat) (H:List aJ) (c:List U) (own L:List (Nat×G)) (l:List U),opv GE a.tmps x = .bptr i b∧a.tmps.getD t .undef = .agg l∧gB P w (.bptr i b) (.agg l) a.boxes = O H∧H[i]? = O (.cells c own) ∧ (∀y∈L,((t,y.1),y.2)∈a.own)/\(L.map (·.1)).Nodup/\ s ⟨a.tmps,H.set i (.cells c ((L.map λy=>(b+y.1,y.2)).reverse++own)),a.own.filter λx=>!L.any λy=>x.1==(t,y.1)⟩| .load w x,O d => ∃ (i b:Nat) (c:List U) (own L:List (Nat×G)) (l:List U),(∃ q,P.underlying w = O (.struct q))∧opv GE a.tmps x = .bptr i b∧a.boxes[i]? = O (.cells c own)∧co P w (c.drop b) = O (.agg l) ∧ (∀y∈L,(b+y.1,y.2)∈own)/\(L.map (·.1)).Nodup/\(∀y∈L,y.1<l.length)/\d<a.tmps.length/\ s ⟨a.tmps.set d (.agg l),a.boxes.set i (.cells c (own.filter λx=>!L.any λy=>x.1==b+y.1)),(L.map λy=>((d,y.1),y.2)).reverse++cU d a.own⟩|.box _ x,O d=>∃n:List U,bH (opv GE a.tmps x)=O n/\d<a.tmps.length/\s {a with tmps:=a.tmps.set d (.eptr n),own:=cU d a.own}| .call { callee := .value f,args,.. },O d => ∃ (r:U) (m:List (Nat×G)) (e:List aJ) (h:List OA),T9 P GE f args.toList a r m e h∧d < a.tmps.length ∧ s ⟨a.tmps.set d r,e,(m.map λx=>((d,x.1),x.2))++cU d (a.own.filter λz=>!h.any λx=>z.1==(x.t,x.k))⟩|_,_=>False
def QE(P:I)(GE:V (Nat×V U))(A:V Nat)(o:M)(id:Nat)(b:aF->Prop)(a:aF):Prop:=Yr P GE A o id b a\/qcp P GE o b a\/qrx P GE o id b a
def dJ(P:I)(GE:List (Nat×List U))(A:List Nat)(a:Array M)(b:aF->Prop):List M->Nat->aF->Prop|[],_,st=>b st| o :: rest,id,st =>match o.guard with|none=>QE P GE A o id (dJ P GE A a b rest (id+if aR o.op then 1 else 0)) st|some (j,want)=>match FL a st.tmps j with| some x => (x = O want→QE P GE A o id (dJ P GE A a b rest (id + if aR o.op then 1 else 0)) st) ∧ (x≠O want->dJ P GE A a b rest (id+if aR o.op then 1 else 0) (Jj st o.dst (.val undef) [] st.boxes))|none=>False
section
variable{P:I}{E:BP}{Γ:ca}{bs:cF}{n:Nat->Q rI}{w:J}
def qqA{z:D}(j:Nat)(p:U)(v:D)(b:(z.cells.toList.map qs0)[j]? =O p)(c:z.cells[j]? =O v):VR Γ bs w p v:=by
 simp only[t8,vbb,c,oo,q8]at b;subst b;unfold qs0;split
 .rename_i a;unfold zC at a;split at a;.exact .val _
  .cases a
 .exact .absC v
def qiB{t:G}{a:List (Nat×U)}{q:List (Nat×D)}{r:List U}(o:a.length=q.length)
  (y:∀(j:Nat) p v,a[j]? =O p->q[j]? =O v->p.1=v.1/\VR Γ bs w p.2 v.2) (h:qgD P t a=O r):
  ∃e,(Instr.build t q.toArray).run P w=.ok (.agg e) w/\e.size=r.length/\∀(j:Nat) p v,r[j]? =O p->e[j]? =O v->VR Γ bs w p v:=by
 unfold qgD at h
 split at h
 .rename_i m zs S A
  unfold qpl at A
  simp only[vaF,vbe]at A
  obtain⟨z,⟨i,L,B⟩,rfl⟩:=A
  have R:(zeroValue t).run P w=.ok z w:=by simp[zeroValue,run_typeInfo w L,B]
  split at h
  .rename_i c
   have b:∀(l:List Field),(∀f∈l,(P.info? f.type).isSome=T)->(l.mapM λf=>do pure (f.offset,<-sizeOf f.type):Sem (List (Nat×Nat))).run P w=.ok (l.map λf=>(f.offset,P.cellsOf f.type)) w:=by intro l o;induction l with|nil=>simp|cons f l ih=>let⟨a0,d⟩:=vaO.1 (o f (by simp));have:=ih λg H=>o g (by simp[H]);simp only[vca,Sem.run_bind,run_sizeOf w d,Result.andThen_ok,this,Sem.run_pure,ox]
   have s:(m.mapM λf=>do pure (f.offset,<-sizeOf f.type):Sem (Array (Nat×Nat))).run P w=.ok (m.map λf=>(f.offset,P.cellsOf f.type)) w:=by
    rw[vcs];simp only[Sem.run_map]
    rw[b m.toList λf F=>by
     have:=vbx.1 c f (by simpa using F);simpa using this]
    simp only[Result.andThen_ok];exact mx (λx=>Result.ok x w) (vbQ (by simp))
   let⟨e,r1,r2,r3⟩:=Ri (place':=((m.map λf=>(f.offset,P.cellsOf f.type))[·]?)) (λi x X=>by simpa using X) a q _ z.cells o y (by simp) (λj p v s y=>qqA j p v s y) h
   refine⟨e,?_,r2,r3⟩
   simp only[Instr.build,Sem.run_bind,R,Result.andThen_ok,run_underlying S,s]
   rw[r1]
   simp
  .cases h
 .cases h
def qbZ{a:List U}:∀{L:List (Nat×G)},qjI a L->∀x∈L,a[x.1]? =O (.val fG)
 |[],_,x,hx=>by cases hx
 | y :: L,h,x,hx => by
  rcases oL.1 hx with rfl|hx;.exact h.1
  .exact qbZ h.2 x hx
section
variable{a:Array D}{st:aF}
def SR.ownNils(h:SR P E Γ bs n w a st){d:Nat}{u:D}(o:a[d]? =O u)(L:V (Nat×G))(m:∀x∈L,sm u x.1=O fG):SR P E Γ bs n w a {st with own:=(L.map λx=>((d,x.1),x.2))++st.own}:=
 { h with
  ot:=λt k e c=>by
   rcases vaQ.1 c with c|c;.simp only[m8,Prod.mk.injEq]at c;obtain⟨x,p,⟨rfl,rfl⟩,rfl⟩:=c;exact⟨u,fG,o,m x p,⟨0,[],World.ownsRow_nil _ _ _ _,λb i=>by simp[Value.ownBlock]at i⟩,λb i=>by simp[Value.ownBlock]at i⟩
   .exact h.ot t k e c}
def SR.takeOwn(h:SR P E Γ bs n w a st){i b d k c:Nat}{e:G}{u v:D}{p:V U}{own:V (Nat×G)}(z:bs[i]? =O (O b))(r:st.boxes[i]? =O (.cells p own))
  (A:(c,e)∈own) (F:a[d]? =O u) (B:sm u k=O v) (y:w.cell? ⟨b,c,N⟩=O v):
  ∃q,SR P E Γ bs q w a {st with own:=((d,k),e)::st.own,boxes:=st.boxes.set i (.cells p (own.filter λx=>x.1 !=c))}:=by
 let⟨L,s,H,t⟩:=h.ob i c e p own b r A z
 rw[y]at s
 cases s
 exact⟨_,(h.freeB (j:=c) r).addOwn (d:=d) (k:=k) (e:=e) (u:=u) (v:=v) F B H (λo m=>⟨by simp[t o m],(h.on o _ (t o m)).2⟩)⟩
def SR.takeOwns{i b d off:Nat}{u:D}{m:List U}(B:bs[i]? =O (O b))(H:a[d]? =O u):∀(L:List (Nat×G)){n:Nat->Q rI}{st:aF}{own:List (Nat×G)},SR P E Γ bs n w a st->st.boxes[i]? =O (.cells m own)->
  (∀x∈L,(off+x.1,x.2)∈own)->(L.map (·.1)).Nodup->(∀x∈L,∃v,sm u x.1=O v/\w.cell? ⟨b,off+x.1,N⟩=O v)->
  ∃s,SR P E Γ bs s w a ⟨st.tmps,st.boxes.set i (.cells m (own.filter λx=>!L.any λy=>x.1==off+y.1)),(L.map λy=>((d,y.1),y.2)).reverse++st.own⟩
 | [],n,st,own,h,hB,_,_,_ => by
  refine⟨n,?_⟩;have p:(own.filter λx=>!([]:List (Nat×G)).any λy=>x.1==off+y.1)=own:=by apply vcW.2;intro x _;rfl
  have o:st.boxes.set i (.cells m (own.filter λx=>!([]:List (Nat×G)).any λy=>x.1==off+y.1))=st.boxes:=by
   rw[p];apply vbj;intro j;by_cases F:i=j;.subst F;rw[o6 (ax hB),hB]
   .rw[t7 F]
  rw[o];exact h
 | x :: L,n,st,own,h,hB,hm,hn,hc => by
  rw[ox,vb4]at hn;let⟨v,q,r⟩:=hc x (by simp);let⟨X,R⟩:=h.takeOwn B hB (hm x (by simp)) H q r
  let⟨t,A⟩:=SR.takeOwns (off:=off) B H L R (o6 (ax hB)) (λy c=>by
   refine va2.2 ⟨hm y (by simp[c]),?_⟩;simp only[bne_iff_ne,ne_eq];exact λe=>hn.1 (m8.2 ⟨y,c,by omega⟩)) hn.2 (λy c=>hc y (by simp[c]))
  refine⟨t,?_⟩;simp only[vbV,vc0]at A;have o:((x::L).map λy=>((d,y.1),y.2)).reverse++st.own=(L.map λy=>((d,y.1),y.2)).reverse++((d,x.1),x.2)::st.own:=by simp
  have p:(own.filter λz=>!(x::L).any λy=>z.1==off+y.1)=own.filter λz=>(!L.any λy=>z.1==off+y.1)&&(z.1 !=off+x.1):=by congr 1;funext z;rw[List.any_cons];cases(L.any λy=>z.1==off+y.1)<;>cases S:(z.1==off+x.1)<;>simp[bne,S]
  rw[o,p];exact A
theorem Tz(h:SR P E Γ bs n w a st){T:G}{i off b:Nat}{m:V U}{own:V (Nat×G)}{l:V U}(hi:bs[i]? =O (O b))(hB:st.boxes[i]? =O (.cells m own))(A:co P T (m.drop off)=O (.agg l)):∃v,(loadVar T ⟨b,off,N⟩).run P w=.ok v w/\VR Γ bs w (.agg l) v/\((∃d,P.underlying T=O d/\(match d with|.struct _|.array _ _=>True|_=>False))->∀k,k<l.length->sm v k=w.cell? ⟨b,off+k,N⟩):=by
 obtain⟨c,t',h1,h2,h3,h4⟩:=h.box_cells hi hB;have o:∀(k:Nat) q,(m.drop off)[k]? =O q->w.cell? ⟨b,off+k,N⟩=O (c.getD (off+k) undef)/\VR Γ bs w q (c.getD (off+k) undef):=by
  intro k q e;rw[vbn]at e;have p:off+k<c.size:=vaT (ax e) h2;have L:c[off+k]? =O (c.getD (off+k) undef):=by simp[vaE,p]
  exact⟨(h4 _).trans L,h3 _ _ _ e L⟩
 obtain⟨v,X,hv⟩:=rD A (vals:=λk=>c.getD (off+k) undef) (λk q e=>(o k q e).1) (λk q e=>(o k q e).2);refine⟨v,X,hv,λs k hk=>?_⟩;obtain⟨H,R,S⟩:=s;have y:P.cellsOf T<=(m.drop off).length/\l.length=P.cellsOf T:=by
  unfold co at A;rw[R]at A;have r:(if P.cellsOf T<=(m.drop off).length then O (PVal.agg ((m.drop off).take (P.cellsOf T)))else N)=O (.agg l):=by cases H<;>simp only at S<;>exact A
  split at r;.rename_i hh;cases r;exact⟨hh,by rw[vbg];omega⟩
  .cases r
 have B:co P T ((List.range (m.drop off).length).map λk=>PVal.val (c.getD (off+k) undef))=O (.agg (((List.range (m.drop off).length).map λk=>PVal.val (c.getD (off+k) undef)).take (P.cellsOf T))):=by unfold co;rw[R];cases H<;>simp at S<;>simp only<;>rw[hU (by simpa using y.1)]
 obtain⟨v2,z,F⟩:=rD (Γ:=Γ) (bs:=bs) B (vals:=λk=>c.getD (off+k) undef) (λk q e=>by
   have p:k<(m.drop off).length:=by have:=ax e;simpa using this
   exact(o k _ (m6 p)).1) (λk q e=>by
   have p:k<(m.drop off).length:=by have:=ax e;simpa using this
   simp only[t8,vbZ p,oo,q8]at e;subst e;exact .val _)
 rw[X]at z;cases z;have t:k<(m.drop off).length:=by omega
 cases F with
 | agg _ vs hl hvv =>
  have a0:(m.drop off).length=m.length - off:=vbE;have x:k<vs.size:=by rw[hl];simp;omega
  have e:(((List.range (m.drop off).length).map λk=>PVal.val (c.getD (off+k) undef)).take (P.cellsOf T))[k]? =O (.val (c.getD (off+k) undef)):=by rw[vaG (by omega)];simp only[t8,vbZ t,oo]
  have:=hvv k _ vs[k] e (by simp[x]);show vs[k]? =_;rw[(o k _ (m6 t)).1];rw[vaX x];generalize vs[k]=q at this;generalize c.getD (off+k) undef=q2 at this;cases this;rfl
end
variable{a:Act}{st:aF}
def P3(h:SR P E Γ bs n w a.tmps st){o:M}{id d:Nat}{a0:G}{b:Array (Nat×Operand)}{p:U}{L:V (Nat×G)}{K:aF->Prop}(ho:o.op=.build a0 b)(c:o.dst=O d)(hd:d<st.tmps.length)
  (hp:df P a0 (b.toList.map λx=>(x.1,opv E.GE st.tmps x.2))=O p) (hL:Ce P a0 (b.toList.map λx=>(x.1,opv E.GE st.tmps x.2)) L)
  (X:K {st with tmps:=st.tmps.set d p,own:=(L.map λx=>((d,x.1),x.2))++cU d st.own}) (Q:Exit->Act->J->Prop):
  o.wp P a w (jw P E bs id (aR o.op) a.defers K) Q:=by
 have t:∀x,VR Γ bs w (opv E.GE st.tmps x) (a.eval x):=λx=>h.opv a.defers x
 let⟨B,F⟩:=Vt t b.toList
 let⟨v,H,r2⟩:=qb8 B F hp
 let⟨cs,r,hn⟩:=hL
 let⟨ov,R,s2,s3⟩:=qiB B F r
 rw[H]at R
 cases R
 have m:(execOp a.eval o).run P w=.ok (.value (.agg ov)) w:=by
  have:(b.map λx=>(x.1,a.eval x.2))=(b.toList.map λx=>(x.1,a.eval x.2)).toArray:=by apply vbQ;simp
  simp only[execOp,ho];rw[this];simp[H]
 unfold Oper.wp
 rw[m,Oper.upon_value]
 have s:d<a.tmps.size:=by rw[h.sz];exact hd
 have S:=h.set (d:=d) r2
 have y:=S.ownNils (d:=d) (u:=.agg ov) (by simp[s]) L λx hx=>by
  have z:=qbZ hn x hx;have e:x.1<ov.size:=by rw[s2];exact ax z
  have A:=s3 x.1 _ ov[x.1] z (by simp[e]);show ov[x.1]? =_;rw[vaX e];generalize ov[x.1]=q at A;cases A;rfl
 have i:∀v,(a.put o.dst v).tmps=a.tmps.setIfInBounds d v:=λv=>by rw[c];rfl
 rw[<-i]at y
 exact⟨fh _ _ _,Γ,bs,_,_,y,X,.inl rfl⟩
def SR.ownLe(h:SR P E Γ bs n w a.tmps st){r:V aJ}(o:ownLe r st.boxes):SR P E Γ bs n w a.tmps {st with boxes:=r}:=
 { h with
  bl:=h.bl.trans o.1.symm
  bx:=λi b B d m=>by
   let⟨q,c,p⟩:=o.2 i B m;let⟨x,y,z⟩:=h.bx i b q d c;rcases p with rfl|⟨s,own,own',rfl,rfl,_⟩;.exact⟨x,y,z⟩
   .exact⟨x,y,z⟩
  ob:=λi j e s own b m t d=>by
   let⟨q,c,p⟩:=o.2 i _ m;rcases p with rfl|⟨cs1,own1,own2,rfl,e2,hsub⟩;.exact h.ob i j e s own b c t d
   .cases e2;exact h.ob i j e _ own1 b c (hsub _ t) d}
def HN(h:SR P E Γ bs n w a.tmps st){o:M}{id d:Nat}{f:Operand}{args:Array Operand}{a9:Array G}{r:U}{ro:List (Nat×G)}{H':List aJ}{oa:List OA}{K:aF->Prop}(ho:o.op=.call {callee:=.value f,args,argTypes:=a9})(t:o.dst=O d)(hd:d<st.tmps.length)
  (hg:T9 P E.GE f args.toList st r ro H' oa) (hK:K ⟨st.tmps.set d r,H',(ro.map λx=>((d,x.1),x.2))++cU d (st.own.filter λz=>!oa.any λx=>z.1==(x.t,x.k))⟩) (Q:Exit->Act->J->Prop):
  o.wp P a w (jw P E bs id (aR o.op) a.defers K) Q:=by
 let⟨g,first,q,R,ρ,H0,Hc,ad,rc,a1,a3,hC,A,hH,S,B,m,hr,X,ha,a4,a5⟩:=hg.ex
 have L:∀x,VR Γ bs w (opv E.GE st.tmps x) (a.eval x):=λx=>h.opv a.defers x
 have hf:=L f
 rw[a1]at hf
 generalize a6:a.eval f=vf at hf
 cases hf with
 |func _ _ _ fs cs hl hl' h1 h2=>
 have c:(fs++args.map a.eval++cs).size=(first++args.toList.map (opv E.GE st.tmps)++q).length:=by simp[hl,hl']
 have a7:∀(i:Nat) p v,(first++args.toList.map (opv E.GE st.tmps)++q)[i]? =O p->(fs++args.map a.eval++cs)[i]? =O v->VR Γ bs w p v:=by refine QV (by simp[hl]) (QV hl h1 λi p v hp hv=>?_) h2;exact Q8 L args.toList i p v hp (by simpa using hv)
 have H:(execOp a.eval o).run P w=.ok (.enter g (fs++args.map a.eval++cs)) w:=by simp[execOp,ho,resolve,a6,Deferred.ofValue,invoke,hC.1]
 have a0:d<a.tmps.size:=by rw[h.sz];exact hd
 have hw:=h.ownLe A
 unfold Oper.wp
 rw[H,Oper.upon_enter]
 refine(qnG hw a0 a3 hC (λx hx=>?_) a5 hH S (B.trans A.1.symm) m hr X ha c a7).mono λe w' he=>?_
 .let⟨j,hj,b⟩:=a4 x hx
  have s:∀{y:Operand},args.toList[j]? =O y->(fs++args.map a.eval++cs)[x.i]? =O (a.eval y):=by
   intro y hy;have an:j<args.size:=by have:=ax hy;simpa using this
   have a2:args[j]? =O y:=by simpa using hy
   rw[hj,<-hl,va4 (by simp;omega),vcm (by omega),vcD];simp only[Array.getElem?_map,a2,oo]
  rcases b with⟨b,hk⟩|⟨ht,b⟩
  .exact .inl ⟨s b,hk⟩
  .let⟨u,v,e1,_⟩:=h.ot _ _ _ ht
   exact .inr ⟨ht,by rw[s b,Bt e1];exact e1.symm⟩
 .obtain⟨v,ab,a8,rfl,hS,_⟩:=he
  have F:(a.put o.dst v).tmps=a.tmps.setIfInBounds d v:=by rw[t];rfl
  show jw P E bs id (aR o.op) a.defers K (a.put o.dst v) w'
  refine⟨fh _ _ _,ab,bs,a8,_,?_,hK,.inl rfl⟩
  rw[F];exact hS
def TH(h:SR P E Γ bs n w a.tmps st){o:M}{id:Nat}{K:aF->Prop}(e:qcp P E.GE o K st)(Q:Exit->Act->J->Prop):o.wp P a w (jw P E bs id (aR o.op) a.defers K) Q:=by
 unfold qcp at e;split at e;.rename_i ao ab d A s;let⟨p,L,h1,h2,h3,h4⟩:=e;exact P3 h A s h3 h1 h2 h4 Q
 .rename_i ao x t A s;let⟨i,off,H,cs,own,L,l,hx,ht,a5,hB,hm,hn,hK⟩:=e;have a7:t<st.tmps.length:=by
   by_cases z:t<st.tmps.length;.exact z
   .rw[vap,va0 (vbY z)]at ht;cases ht
  have a6:t<a.tmps.size:=by rw[h.sz];exact a7
  have hu:a.tmps[t]? =O a.tmps[t]:=by simp[a6]
  generalize a.tmps[t]=u at hu;have S:=Wb h hu;rw[ht]at S;have c:VR Γ bs w (opv E.GE st.tmps x) (a.eval x):=h.opv a.defers x;rw[hx]at c;let⟨w',r1,r2,_,r4⟩:=Ys h c S a5;have q:(execOp a.eval o).run P w=.ok .skip w':=by simp[execOp,A,Bt hu,r1]
  unfold Oper.wp;rw[q,Oper.upon_skip];generalize a.eval x=vx at c r1;cases c with|bptr _ _ b hb=>
  let⟨c1,_⟩:=r4 i off b rfl hb;let⟨X,g⟩:=SR.moveOwns (off:=off) hb hu L r2 hB hm hn λy hy=>by let⟨u',v,e1,e2,_,_⟩:=h.ot t y.1 y.2 (hm y hy);rw[hu]at e1;cases e1;refine⟨v,e2,?_⟩;cases S with|agg _ vs _ _=>exact c1 y.1 v e2
  have m:a.put o.dst undef=a:=by rw[s];rfl
  rw[m];exact⟨rfl,Γ,bs,X,_,g,hK,.inl rfl⟩
 .rename_i ao x d A s;let⟨i,off,cs,own,L,l,⟨fs,a2⟩,hx,hB,e,hm,hn,a4,a0,hK⟩:=e;have c:VR Γ bs w (opv E.GE st.tmps x) (a.eval x):=h.opv a.defers x;rw[hx]at c;generalize R:a.eval x=vx at c;cases c with|bptr _ _ b hb=>
  let⟨v,r1,r2,r3⟩:=Tz h hb hB e;have q:(execOp a.eval o).run P w=.ok (.value v) w:=by simp[execOp,A,R,Instr.loadAt,Instr.sureAddr,r1]
  unfold Oper.wp;rw[q,Oper.upon_value];have a1:d<a.tmps.size:=by rw[h.sz];exact a0
  have g1:=h.set (d:=d) r2;let⟨X,g2⟩:=SR.takeOwns (off:=off) (d:=d) (u:=v) hb (by simp[a1]) L g1 hB hm hn λy hy=>by have:=r3 ⟨_,a2,md⟩ y.1 (a4 y hy);let⟨v',q1,_⟩:=h.ob i (off+y.1) y.2 cs own b hB (hm y hy) hb;exact⟨v',this.trans q1,q1⟩
  have m:∀v,(a.put o.dst v).tmps=a.tmps.setIfInBounds d v:=λv=>by rw[s];rfl
  rw[<-m]at g2;exact⟨fh _ _ _,Γ,bs,X,_,g2,hK,.inl rfl⟩
 .rename_i ao x d A s;let⟨vs,a9,a0,hK⟩:=e;have c:VR Γ bs w (opv E.GE st.tmps x) (a.eval x):=h.opv a.defers x;generalize R:a.eval x=vx at c;let⟨k1,k2⟩:=c.cells a9;let⟨g1,a3⟩:=h.alloc_imm vx.cells ao vx.cells.size (m7 _);have q:(execOp a.eval o).run P w=.ok (.value (.pointer (O ⟨w.heap.size,0,N⟩))) (w.alloc (.cells vx.cells ao)):=by simp[execOp,A,R,Instr.box,newVar,newRow]
  unfold Oper.wp;rw[q,Oper.upon_value];have F:∀j,(w.alloc (.cells vx.cells ao)).cell? ⟨w.heap.size,j,N⟩=vx.cells[j]?:=λj=>cell_of_row _ _ _ _ _ _ (jl w _)
  have B:∀{k:Nat}{p:U},vs[k]? =O p->vx.cells[k]? =O (vx.cells.getD k undef):=λ{k p} e=>by
   have z:k<vx.cells.size:=by rw[k1];exact ax e
   simp[vaE,z]
  have a8:VR (Γ.put w.heap.size vx.cells.size) bs (w.alloc (.cells vx.cells ao)) (.eptr vs) (.pointer (O ⟨w.heap.size,0,N⟩)):=
   .eptr vs w.heap.size 0 vx.cells.size (λk=>vx.cells.getD k undef) (Γ.put_same _ _) (by omega)
    (λk p e=>by rw[F,ve];exact B e) (λk p e=>(k2 k p _ e (B e)).mono a3 (.refl _))
  have g2:=g1.set (d:=d) a8;have m:∀v,(a.put o.dst v).tmps=a.tmps.setIfInBounds d v:=λv=>by rw[s];rfl
  rw[<-m]at g2;exact⟨fh _ _ _,_,bs,_,_,g2,hK,.inl rfl⟩
 .rename_i f ad an d A s;let⟨r,ro,H',oa,h1,h2,h3⟩:=e;exact HN h A s h2 h1 h3 Q
 .exact e.elim
def VP(h:SR P E Γ bs n w a.tmps st){A:V Nat}{o:M}{id:Nat}(c:aR o.op=T->bs[id]? =O N){e:aF->Prop}(b:QE P E.GE A o id e st)(Q:Exit->Act->J->Prop):o.wp P a w (qi7 P E bs id (aR o.op) a.defers e) Q:=by
 rcases b with b|b|b;.exact Oper.wp_mono (λ_ _ d=>d.to3) (qiN h c b Q)
 .exact Oper.wp_mono (λ_ _ d=>d.to3) (TH h b Q)
 .exact qmB h c b Q
def Mi{bs0:cF}{ds:List Deferred}{A:List Nat}{ops:Array M}{a7:aF->Prop}{Q:Exit->Act->J->Prop}
  (hQ:∀a w st,a.defers=ds->qg9 P E bs0 st a w->a7 st->Q .normal a w):
  ∀(rest:List M)(k id:Nat)(Γ:ca)(bs:cF)(n:Nat->Option rI)(a:Act)(w:J)(st:aF),(∀j,rest[j]? =ops[k+j]?)->SR P E Γ bs n w a.tmps st->a.defers=ds->qni bs0 bs->bs0.length<=id->
   (∀m,id<=m->m<id+de rest->bs[m]? =O N)->dJ P E.GE A ops a7 rest id st->wpOps P ops Q ((List.range ops.size).drop k) a w
 | [],k,id,Γ,bs,n,a,w,st,hr,h,hd,hk,_,_,hp => by
  have a3:ops.size<=k:=by have:=hr 0;simp only[List.getElem?_nil,Nat.add_zero]at this;exact vcn.1 this.symm
  rw[vcJ (by simpa using a3)];exact hQ a w st hd ⟨Γ,bs,n,h,hk⟩ hp
 | o :: rest,k,id,Γ,bs,n,a,w,st,hr,h,hd,hk,hid,hfree,hp => by
  have z:ops[k]? =O o:=by have:=hr 0;simpa using this.symm
  have r:k<ops.size:=(vao.1 z).1;have p:(List.range ops.size).drop k=k::(List.range ops.size).drop (k+1):=by rw[vaD (by simpa using r)];simp
  rw[p,wpOps_cons];unfold wpOp;rw[z];simp only;have c:de (o::rest)=(if aR o.op then 1 else 0)+de rest:=by unfold de;simp only[vbN];split<;>simp<;>omega
  have d:∀j,rest[j]? =ops[k+1+j]?:=λj=>by have:=hr (j+1);simpa[vcC,vcM 1 j]using this
  have a2:aR o.op=T->bs[id]? =O N:=λR=>hfree id (m7 _) (by rw[c,R];simp;omega);have e:QE P E.GE A o id (dJ P E.GE A ops a7 rest (id+if aR o.op then 1 else 0)) st->o.wp P a w (wpOps P ops Q ((List.range ops.size).drop (k+1))) Q:=by
   intro hs;refine Oper.wp_mono (λa' w' hA=>?_) (VP h a2 hs Q);let⟨a0,a6,S,a4,a5,X,h2,h3⟩:=hA;refine Mi hQ rest (k+1) _ a6 S a4 a' w' a5 d X (a0.trans hd) ?_ (by omega) ?_ h2
   .rcases h3 with rfl|⟨R,b,rfl⟩|⟨x,rfl⟩;.exact hk
    .intro i L;rw[t7 (by omega)];exact hk i L
    .intro i L;have q:=hk i L;have r:i<bs.length:=by have X:bs0[i]? =O bs0[i]:=m6 L;rw[X]at q;exact ax q
     rw[B2 r];exact q
   .intro m s a1;have H:=hfree m (by omega) (by rw[c];omega);rcases h3 with rfl|⟨R,b,rfl⟩|⟨x,rfl⟩;.exact H
    .rw[R]at s;simp only[if_true]at s;rw[t7 (by omega)];exact H
    .rw[B2 (ax H)];exact H
  have skip:dJ P E.GE A ops a7 rest (id+if aR o.op then 1 else 0) (Jj st o.dst (.val undef) [] st.boxes)->wpOps P ops Q ((List.range ops.size).drop (k+1)) (a.put o.dst undef) w:=by intro hs;refine Mi hQ rest (k+1) _ Γ bs n (a.put o.dst undef) w _ d (h.putv_nil (.val undef) o.dst rfl) ((fh _ _ _).trans hd) hk (by omega) (λm s a1=>hfree m (by omega) (by rw[c];omega)) hs
  simp only[dJ]at hp;have y:(Region.wanted o (yielded ops a.tmps)=T->o.wp P a w (wpOps P ops Q ((List.range ops.size).drop (k+1))) Q)/\(¬Region.wanted o (yielded ops a.tmps)=T->wpOps P ops Q ((List.range ops.size).drop (k+1)) (a.put o.dst undef) w):=by
   split at hp;.rename_i hg;exact⟨λ_=>e hp,λhn=>absurd (by simp[Region.wanted,hg]) hn⟩
   .rename_i j F hg;split at hp
    .rename_i x B;have t:Region.wanted o (yielded ops a.tmps)=(x==O F):=by simp[Region.wanted,hg,Yp h B]
     rw[t];exact⟨λB=>e (hp.1 (by simpa using B)),λB=>skip (hp.2 (by simpa using B))⟩
    .exact hp.elim
  by_cases t:Region.wanted o (yielded ops a.tmps)=T;.rw[hU t];exact .inl (y.1 t)
  .rw[hG t];exact y.2 t
def SU{bs0:cF}{A:V Nat}{b:Array M}{F:aF->Prop}{Q:Exit->Act->J->Prop}(r:qg9 P E bs0 st a w)(x:bs0.length<=st.boxes.length)
  (q:∀e p d,e.defers=a.defers->qg9 P E bs0 d e p->F d->Q .normal e p) (B:dJ P E.GE A b F b.toList st.boxes.length {st with boxes:=st.boxes++g9 P b.toList}):
  wpOps P b Q (List.range b.size) a w:=by
 let⟨Γ,bs,n,h,t⟩:=r
 have c:=h.extend (g9 P b.toList)
 have o:=Nv P b.toList
 have:=Mi (P:=P) (E:=E) (bs0:=bs0) (ds:=a.defers) q b.toList 0 st.boxes.length Γ _ n a w _ (λj=>by simp) c rfl (λi s=>?_) x (λm y z=>?_) B
 .simpa using this
 .rw[B2 (by rw[h.bl];omega)];exact t i s
 .rw[vav (by rw[h.bl];omega),va7,hU (by rw[h.bl];omega)]
end
def qec(b:Q Nat)(P:I)(c:W)(d:Exit->Act->J->Prop)(a:Act)(w:J):Prop:=match b with|none=>c.wp P d a w|some l=>∀n,c.wpIn (Fence.wide.inRound l) n P d a w
def iv(o:M):K:=match o.op with|.defer _=>Z|_=>T
section
variable{P:I}{ro:Option Nat}{Q:Exit->Act->J->Prop}{a:Act}{w:J}
def xh{c:W}{b:Exit->Act->J->Prop}(h:qec ro P c Q a w)(d:∀e a w,Q e a w->b e a w):qec ro P c b a w:=by cases ro with|none=>exact wp_mono h d|some l=>exact λn=>wpIn_mono (h n) d
def qnV(h:Q .normal a w):qec ro P .skip Q a w:=by cases ro with|none=>exact wp_skip h|some l=>exact λn=>wpIn_skip h
def qlW{l:Nat}(h:Q .normal a w):qec ro P (.label l) Q a w:=by cases ro with|none=>exact wp_label h|some l=>exact λn=>wpIn_label h
def qnU{id:Nat}(h:Q (.exit id) a w):qec ro P (.exit id) Q a w:=by cases ro with|none=>exact wp_exit h|some l=>exact λn=>wpIn_exit h
def qq7(h:Q .ret a w):qec ro P .ret Q a w:=by cases ro with|none=>exact wp_ret h|some l=>exact λn=>wpIn_ret h
def qq8{x y:W}(h:qec ro P x (Exit.then (qec ro P y Q) Q) a w):qec ro P (.seq x y) Q a w:=by cases ro with|none=>exact wp_seq h|some l=>exact λn=>wpIn_seq (wpIn_mono (h n) λe a w b=>by cases e<;>first|exact b n|exact b)
def qnT{c:Operand}{x y:W}{t:K}(b:a.eval c=.bool t)(d:t=T->qec ro P x Q a w)(e:t=Z->qec ro P y Q a w):qec ro P (.cond c x y) Q a w:=by
 cases t with
 |true=>cases ro with
  |none=>exact wp_cond b (d rfl)
  |some l=>exact λn=>wpIn_cond b (d rfl n)
 |false=>cases ro with
  |none=>exact wp_cond b (e rfl)
  |some l=>exact λn=>wpIn_cond b (e rfl n)
def qlV{id:Nat}{c:W}(h:qec ro P c (Exit.inBlock id Q) a w):qec ro P (.block id c) Q a w:=by cases ro with|none=>exact wp_block h|some l=>exact λn=>wpIn_block (h n)
def qbl{c:W}(p:Nat->Act->J->Prop)(b:Nat)(e:p b a w)(d:∀n a w,p n a w->qec ro P c (Exit.then (λi o=>∃h,h<n/\p h i o) Q) a w):qec ro P (.loop c) Q a w:=by cases ro with|none=>exact wp_loop_ghost p b e d|some l=>exact λn=>wpIn_loop_ghost p b e λk a w m=>d k a w m n
def qrN{l n:Nat}{d:String}{b:Array D}{R:D->J->Prop}(h:Rows P d b w R):RowsIn (Fence.wide.inRound l) n P d b w R:=λc e _=>by let⟨v,i,r,s⟩:=h c e;exact⟨v,i,r,by rw[fenced_inRound];exact stepsIn_wide.2 s⟩
def qnH{l n:Nat}{f:FuncId}{b:Array D}{R:Ending->J->Prop}(h:Calls P f b w R):CallsIn (Fence.wide.inRound l) n P f b w R:=CallsIn.inRound l (callsIn_wide.2 h)
def qk3{l n:Nat}{o:M}{next:Act->J->Prop}(d:iv o=T)(h:o.wp P a w next Q):o.wpIn (Fence.wide.inRound l) n P a w next Q:=by
 refine⟨λ_ _=>trivial,?_⟩;have i:o.semAt (Fence.wide.inRound l).round a.eval=execOp a.eval o:=Oper.semAt_eq _ _ _ λc e=>by unfold iv at d;rw[e]at d;cases d
 rw[i];unfold Oper.wp at h;generalize (execOp a.eval o).run P w=r at *;have b:(Fence.wide.inRound l).depth.isSome=T->1<=n:=λh=>by simp[Fence.wide]at h
 cases r with
 | ok x w' =>
  cases x<;>simp only[Oper.upon]at h<;>simp only[Oper.uponIn]<;>first
   |exact h.elim
   |exact h
   |exact⟨b,qnH h⟩
   |exact⟨b,qrN h⟩
 |halt x w'=>cases x<;>simp only[Oper.upon]at h<;>simp only[Oper.uponIn]<;>exact h
def Vs{l n:Nat}{b:Array M}(d:b.toList.all iv=T)(c:¬LetsOut Q):∀(L:List Nat)(a:Act)(w:J),wpOps P b Q L a w->wpOpsIn (Fence.wide.inRound l) n P b Q L a w
 |[],a,w,h=>h
 | i :: rest,a,w,h => by
  unfold wpOps at h;unfold wpOpsIn;split at h;.rename_i e;simp only[e];exact Vs d c rest a w h
  .rename_i o e;simp only[e];have p:iv o=true:=oR.1 d o (by
    have:=vcN e;simpa using this)
   split at h
   .rename_i m;rw[hU m];rcases h with h|h;.exact Oper.wpIn_mono (λa w h=>Vs d c rest a w h) (qk3 p h)
    .exact absurd h.2 c
   .rename_i m;rw[hG m];exact⟨λ_ _=>trivial,Vs d c rest _ w h⟩
def qru{l n:Nat}{b:Array M}(m:b.toList.all iv=T)(e:¬LetsOut Q){i:Nat}{q:Act->J->Prop}(h:wpOp P b Q i q a w):wpOpIn (Fence.wide.inRound l) n P b Q i q a w:=by
 unfold wpOp at h;unfold wpOpIn;split at h;.rename_i c;simp only[c];exact h
 .rename_i o c;simp only[c];have p:iv o=true:=oR.1 m o (by
   have:=vcN c;simpa using this)
  split at h
  .rename_i d;rw[hU d];rcases h with h|h;.exact qk3 p h
   .exact absurd h.2 e
  .rename_i d;rw[hG d];exact⟨λ_ _=>trivial,h⟩
def qhy{l n:Nat}{o:Region.Mode}{d:Array M}(m:d.toList.all iv=T)(e:¬LetsOut Q):∀(b:Nat)(c:Array K)(a:Act)(w:J),wpAny P o d Q b c a w->wpAnyIn (Fence.wide.inRound l) n P o d Q b c a w|0,_,_,_,h=>h|b+1,_,_,_,h=>⟨h.1,λi p=>wpOpIn_mono (λa w h=>qhy m e b _ a w h) (qru m e (h.2 i p))⟩
def qjm{id:Nat}{b:Array M}(d:b.toList.all iv=T)(c:¬LetsOut Q)(h:wpOps P b Q (List.range b.size) a w):qec ro P (.region id b Z) Q a w:=by cases ro with|none=>exact wp_region h|some l=>exact λn=>wpIn_region (Vs d c _ _ _ h)
def P6{id:Nat}{b:Array M}(c:P.follows .mixedOrders=T)(e:b.toList.all iv=T)(d:¬LetsOut Q)
  (h:wpAny P .any b Q b.size (Array.replicate b.size Z) a {w with drawn:=w.drawn+1}):qec ro P (.region id b T) Q a w:=by
 cases ro with
 |none=>exact wp_region_any c h
 |some l=>exact λn=>wpIn_region_any c (qhy e d _ _ _ _ h)
end
section m0
variable{σ X:Type}
def Dm(a:σ->Q (σ⊕X)):Nat->σ->Q X|0,_=>N|n+1,s=>match a s with|none=>N|some (.inl s')=>Dm a n s'|some (.inr x)=>O x
def qbQ{a:σ->Q (σ⊕X)}:∀{n:Nat}{s:σ}{x:X},Dm a n s=O x->∀k,Dm a (n+k) s=O x
 |0,_,_,h,_=>by cases h
 | n + 1,s,x,h,k => by
  rw[Nat.add_right_comm];unfold Dm at h ⊢;split at h;.cases h
  .exact qbQ h k
  .exact h
def qew{a:σ->Q (σ⊕X)}{n m:Nat}{s:σ}{x y:X}(c:Dm a n s=O x)(d:Dm a m s=O y):x=y:=by have e:=qbQ c m;have b:=qbQ d n;rw[vcM]at b;exact vbh (e.symm.trans b)
open Classical in
def qot(a:σ->Q (σ⊕X))(s:σ):Q X:=if h:∃x n,Dm a n s=O x then O h.choose else N
def qjf:Nat:=2 ^ 200
def loop(a:σ->Q (σ⊕X))(s:σ):Q X:=match Dm a qjf s with|some x=>O x|none=>qot a s
def Ra{a:σ->Q (σ⊕X)}{s:σ}{x:X}:loop a s=O x↔∃n,Dm a n s=O x:=by
 have d:qot a s=O x↔∃n,Dm a n s=O x:=by
  unfold qot;constructor
  .intro h;split at h;.rename_i b;cases h;exact b.choose_spec
   .cases h
  .rintro⟨n,h⟩;have b:∃x n,Dm a n s=O x:=⟨x,n,h⟩
   rw[dif_pos b];let⟨m,e⟩:=b.choose_spec;rw[qew e h]
 unfold loop;split;.rename_i y c;exact⟨λh=>⟨qjf,c.trans h⟩,λ⟨n,h⟩=>mx O (qew c h)⟩
 .exact d
def ls(a:σ->Q (σ⊕X))(s:σ):loop a s=match a s with
  |none=>N
  |some (.inl s')=>loop a s'
  |some (.inr x)=>O x:=by
 have c:∀y,loop a s=O y↔(match a s with
  |none=>N
  |some (.inl s')=>loop a s'
  |some (.inr x)=>O x)=O y:=by
  intro y
  rw[Ra]
  constructor
  .rintro⟨n,h⟩
   cases n with
   |zero=>cases h
   | succ n =>
    unfold Dm at h
    cases b:a s with
    |none=>rw[b]at h;cases h
    |some v=>
     cases v with
     |inl s'=>rw[b]at h;exact Ra.2 ⟨n,h⟩
     |inr x=>rw[b]at h;exact h
  .intro h
   cases b:a s with
   |none=>rw[b]at h;cases h
   | some v =>
    cases v with
    |inl s'=>
     rw[b]at h
     let⟨n,i⟩:=Ra.1 h
     exact⟨n+1,by unfold Dm;rw[b];exact i⟩
    |inr x=>rw[b]at h;exact⟨1,by unfold Dm;rw[b];exact h⟩
 cases d:loop a s with
 | none =>
  cases e:(match a s with
   |none=>N
   |some (.inl s')=>loop a s'
   |some (.inr x)=>O x)with
  |none=>rfl
  |some y=>rw[(c y).2 e]at d;cases d
 |some y=>exact((c y).1 d).symm
def bY{α:Type}(l:V α)(i:Int):Q α:=if 0<=i then l[i.toNat]? else N
def qdp{α β:Type}{o:Q α}{k:α->Q β}{x:β}(h:o.bind k=O x):∃a,o=O a/\k a=O x:=by
 cases o with
 |none=>cases h
 |some a=>exact⟨a,rfl,h⟩
def T6{β:Type}{b:K}{x y:Q β}{z:β}(h:(if b then x else y)=O z):(b=T/\x=O z)\/(b=Z/\y=O z):=by
 cases b;.exact .inr ⟨rfl,h⟩
 .exact .inl ⟨rfl,h⟩
end m0
structure qag(GE:List (Nat×List PVal))(m:Nat)(E:BP):Prop where
 ge:E.GE=GE
 low:∀b n,E.Γ b=some n->b<E.w.heap.size
 nt:m=0->∀b,¬E.T b
 gl:∀g cs,(g,cs)∈GE->VR E.Γ [] E.w (.eptr cs) (.pointer (some ⟨g,0,none⟩))
def fx(P:I)(GE:V (Nat×V U))(m:Nat)(c:W)(h:Exit->aF->Prop)(e:aF):Prop:=∀(d:Q Nat)(E:BP)(b:cF)(a:Act)(w:J),qag GE m E->b.length=m % 1000->qg9 P E b e a w->qec d P c (qdZ P E b a.defers h) a w
def EX(e:Exit)(c:aF):Exit->aF->Prop:=λb a=>b=e/\a=c
def IP(P:I)(m:Nat)(c st':aF):Prop:=∀(E:BP)(b:cF)(a:Act)(w:J),b.length=m % 1000->qg9 P E b c a w->qg9 P E b st' a w
section
variable{P:I}{GE:V (Nat×V U)}{m:Nat}
def IP.refl(st:aF):IP P m st st:=λ_ _ _ _ _ h=>h
def IP.trans{a b c:aF}(h:IP P m a b)(i:IP P m b c):IP P m a c:=λE d x w e n=>i E d x w e (h E d x w e n)
def IP.of_less{a st':aF}(h:quI a st')(d:m % 1000<=st'.boxes.length):IP P m a st':=λ_ _ _ _ c b=>b.less h (by rw[c];exact d)
def fx.mono{c:W}{R q:Exit->aF->Prop}{st:aF}(h:fx P GE m c R st)(B:∀e st,R e st->∃d,IP P m st d/\q e d):fx P GE m c q st:=
 λH E b a w t r z=>xh (h H E b a w t r z) λe s L x=>by let⟨A,o,n,y⟩:=x;let⟨p,F,i⟩:=B e o y;exact⟨A,p,F E b s L r n,i⟩
def fx.imp{c:W}{i a:Exit->aF->Prop}{st:aF}(h:fx P GE m c i st)(d:∀e st,i e st->a e st):fx P GE m c a st:=h.mono λe st b=>⟨st,.refl st,d e st b⟩
def fx.weak{c:W}{p:Exit->aF->Prop}{st st':aF}(n:IP P m st st')(h:fx P GE m c p st'):fx P GE m c p st:=λo E b a w e d i=>h o E b a w e d (n E b a w d i)
def fx.skip{b:Exit->aF->Prop}{st:aF}(h:b .normal st):fx P GE m .skip b st:=λ_ _ _ _ _ _ _ a=>qnV ⟨rfl,st,a,h⟩
def fx.label{l:Nat}{b:Exit->aF->Prop}{st:aF}(h:b .normal st):fx P GE m (.label l) b st:=λ_ _ _ _ _ _ _ a=>qlW ⟨rfl,st,a,h⟩
def fx.exit{id:Nat}{b:Exit->aF->Prop}{st:aF}(h:b (.exit id) st):fx P GE m (.exit id) b st:=λ_ _ _ _ _ _ _ a=>qnU ⟨rfl,st,a,h⟩
def fx.ret{b:Exit->aF->Prop}{st:aF}(h:b .ret st):fx P GE m .ret b st:=λ_ _ _ _ _ _ _ a=>qq7 ⟨rfl,st,a,h⟩
def fx.seq{x y:W}{A:Exit->aF->Prop}{st:aF}(h:fx P GE m x (λe b=>match e with|.normal=>fx P GE m y A b|e=>A e b) st):fx P GE m (.seq x y) A st:=by intro r E o a w p q t;refine qq8 (xh (h r E o a w p q t) λe s z i=>?_);let⟨n,b,d,i⟩:=i;cases e with|normal=>have:=i r E o s z p q d;rw[n]at this;exact this|exit id=>exact⟨n,b,d,i⟩|goto l=>exact⟨n,b,d,i⟩|ret=>exact⟨n,b,d,i⟩|panic c=>exact⟨n,b,d,i⟩|outgrown=>exact⟨n,b,d,i⟩
def fx.cond{c:Operand}{x y:W}{H:Exit->aF->Prop}{st:aF}{t:K}(F:opv GE st.tmps c=.bool t)(s:t=T->fx P GE m x H st)(z:t=Z->fx P GE m y H st):fx P GE m (.cond c x y) H st:=by intro r E d a w e o A;let⟨Γ,n,q,h,p⟩:=A;have b:=h.opv a.defers c;rw[e.ge,F]at b;generalize B:(Act.mk a.tmps a.defers).eval c=vc at b;cases b;exact qnT (t:=t) B (λi=>s i r E d a w e o ⟨Γ,n,q,h,p⟩) (λi=>z i r E d a w e o ⟨Γ,n,q,h,p⟩)
def fx.block{id:Nat}{c:W}{z:Exit->aF->Prop}{st:aF}(h:fx P GE m c (qfE id z) st):fx P GE m (.block id c) z st:=by
 intro t E p a w q s r;refine qlV (xh (h t E p a w q s r) λe x y i=>?_);let⟨n,d,b,i⟩:=i;cases e with
 | exit id' =>
  simp only[qfE]at i;simp only[Exit.inBlock];split at i;.rename_i o;rw[hU o];exact⟨n,d,b,i⟩
  .rename_i o;rw[hG o];exact⟨n,d,b,i⟩
 |normal=>exact⟨n,d,b,i⟩
 |goto l=>exact⟨n,d,b,i⟩
 |ret=>exact⟨n,d,b,i⟩
 |panic c=>exact⟨n,d,b,i⟩
 |outgrown=>exact⟨n,d,b,i⟩
def fx.text{A:V Nat}{id:Nat}{b:Array M}{Q:Exit->aF->Prop}{st:aF}(n:b.toList.all iv=T)
  (h:dJ P GE A b (Q .normal) b.toList st.boxes.length {st with boxes:=st.boxes++g9 P b.toList}):fx P GE m (.region id b Z) Q st:=by
 intro y E d a w s x r
 obtain⟨rfl,_,_,_⟩:=s
 refine xh (qjm (Q:=λe c q=>e=.normal/\qdZ P E d a.defers Q .normal c q) n (by rintro⟨_,_,h,_⟩;cases h) ?_) λe c q o=>by obtain⟨rfl,o⟩:=o;exact o
 exact SU r r.len (λc q p n i t=>⟨rfl,n,p,i,t⟩) h
def LQ{σ X:Type}(S:σ->aF)(a:X->Exit)(b:X->aF):σ⊕X->Exit->aF->Prop|.inl s,e,st=>e=.normal/\st=S s|.inr x,e,st=>e≠.normal/\e=a x/\st=b x
def fx.loop{σ X:Type}{S:σ->aF}{B:X->Exit}{so:X->aF}{d:σ->Q (σ⊕X)}{c:W}{s:σ}{x:X}(h:loop d s=O x)
  (hb:∀s y,d s=O y->fx P GE m c (LQ S B so y) (S s)):fx P GE m (.loop c) (EX (B x) (so x)) (S s):=by
 let⟨n,hn⟩:=Ra.1 h
 intro ro E o a w hE t hR
 refine qbl (λk A w'=>A.defers=a.defers/\∃s',qg9 P E o (S s') A w'/\Dm d k s'=O x) n ⟨rfl,s,hR,hn⟩ ?_
 intro k a1 w1 hI
 let⟨z,s1,r,q⟩:=hI
 cases k with
 |zero=>cases q
 | succ k =>
  unfold Dm at q
  split at q
  .cases q
  .rename_i s2 p
   refine xh (hb s1 _ p ro E o a1 w1 hE t r) λe A w' R=>?_
   obtain⟨F,a0,b,rfl,rfl⟩:=R
   exact⟨k,vcI k,F.trans z,s2,b,q⟩
  .rename_i x2 p
   cases q
   refine xh (hb s1 _ p ro E o a1 w1 hE t r) λe A w' R=>?_
   obtain⟨F,a0,b,L,rfl,rfl⟩:=R
   have i:=F.trans z
   cases H:B x with
   |normal=>exact absurd H L
   |exit id=>exact⟨i,_,b,rfl,rfl⟩
   |goto l=>exact⟨i,_,b,rfl,rfl⟩
   |ret=>exact⟨i,_,b,rfl,rfl⟩
   |panic c=>exact⟨i,_,b,rfl,rfl⟩
   |outgrown=>exact⟨i,_,b,rfl,rfl⟩
def qeg:List U->List U->List U|[],_=>[]|_::ps,[]=>.undef::qeg ps []|_::ps,.undef::qs=>.undef::qeg ps qs|p::ps,_::qs=>p::qeg ps qs
def GI:aJ->aJ->aJ|_,.dead=>.dead|.cells cs own,.cells _ own'=>.cells cs (match own'.all λx=>Y (x∈own)with|true=>own'|false=>own)|p,_=>p
def qha:List aJ->List aJ->List aJ|[],_=>[]|p::ps,[]=>p::qha ps []|p::ps,q::qs=>GI p q::qha ps qs
def qAe(B b:aJ):Prop:=B=.dead\/B=b\/∃c own a,b=.cells c own/\B=.cells c a/\∀x∈a,x∈own
def qkF(p q:aJ):qAe (GI p q) p:=by
 unfold GI;split;.exact .inl rfl
 .split;.rename_i h;exact .inr (.inr ⟨_,_,_,rfl,rfl,λx a=>by simpa using oR.1 h x a⟩)
  .exact .inr (.inl rfl)
 .exact .inr (.inl rfl)
def qhR(p:U)(b a:List U):∃q r,qeg (p::b) a=q::qeg b r/\(q=.undef\/q=p):=by cases a with|nil=>exact⟨_,[],by simp[qeg],.inl rfl⟩|cons q a=>cases q<;>first|(refine⟨p,a,?_,.inr rfl⟩;simp only[qeg];done)|(refine⟨.undef,a,?_,.inl rfl⟩;simp only[qeg];done)
def qf5:∀{l a:List U}{i:Nat}{p:U},(qeg l a)[i]? =O p->p=.undef\/l[i]? =O p
 |[],a,i,p,h=>by simp[qeg]at h
 |q::l,a,i,p,h=>by
  let⟨d,r,c,b⟩:=qhR q l a;rw[c]at h;cases i with
  |zero=>simp at h;subst h;rcases b with b|b<;>simp[b]
  |succ i=>simpa using qf5 (by simpa using h)
def qf6:∀{l bs:List U},(qeg l bs).length=l.length
 |[],bs=>by simp[qeg]
 |q::l,bs=>by let⟨c,r,a,b⟩:=qhR q l bs;rw[a];simp[qf6]
def Z0:∀{l a:List aJ}{i:Nat}{B:aJ},(qha l a)[i]? =O B->∃b,l[i]? =O b/\qAe B b
 |[],a,i,p,h=>by simp[qha]at h
 |q::l,[],i,B,h=>by simp only[qha]at h;cases i with|zero=>simp at h;subst h;exact⟨q,rfl,.inr (.inl rfl)⟩|succ i=>simpa using Z0 (by simpa using h)
 |q::l,r::a,i,B,h=>by simp only[qha]at h;cases i with|zero=>simp at h;subst h;exact⟨q,rfl,qkF q r⟩|succ i=>simpa using Z0 (by simpa using h)
def qf4:∀{l a:List aJ},(qha l a).length=l.length
 |[],a=>by simp[qha]
 |q::l,[]=>by simp only[qha,vz,qf4]
 |q::l,r::a=>by simp only[qha,vz,qf4]
def IP.forget{st:aF}(S:V U)(H:V aJ)(own:V ((Nat×Nat)×G))(ho:∀x∈own,x∈st.own):IP P m st ⟨qeg st.tmps S,qha st.boxes H,own⟩:=by
 intro E R a w hb X;let⟨Γ,L,ow,h,hk⟩:=X;refine⟨Γ,L,ow,?_,hk⟩;exact{h with
  sz:=by rw[h.sz];exact qf6.symm
  tm:=λt p v hp hv=>by
   rcases qf5 hp with rfl|hp';.exact .undef v
   .exact h.tm t p v hp' hv
  bl:=by rw[h.bl];exact qf4.symm
  bx:=λi b B d q=>by
   let⟨y,c,o⟩:=Z0 q;let⟨r,s,F⟩:=h.bx i b y d c;rcases o with rfl|rfl|⟨z,own,n,rfl,rfl,_⟩;.exact⟨r,s,md⟩
   .exact⟨r,s,F⟩
   .exact⟨r,s,F⟩
  ot:=λt k e he=>h.ot t k e (ho _ he)
  ob:=λi j e z n b q A d=>by
   let⟨y,c,o⟩:=Z0 q;rcases o with o|rfl|⟨cs1,own1,own2,rfl,e2,hs⟩;.cases o
   .exact h.ob i j e z n b c A d
   .cases e2;exact h.ob i j e _ own1 b c (hs _ A) d}
def EX.of{c:W}{e:Exit}{st a:aF}{o:Exit->aF->Prop}(h:fx P GE m c (EX e a) st)(b:o e a):fx P GE m c o st:=
 h.imp λn i d=>by obtain⟨rfl,rfl⟩:=d;exact b
end
structure GC where
 ρ:List Nat
 argsC:List PVal
 oa:List OA
 Bs:List aJ
 Hc:List aJ
 Bs':List aJ
 Hc':List aJ
 r:PVal
 rc:PVal
 ro:List (Nat×TypeId)
inductive It where
 |cg (c:GC)
 |cn (c:GC)
 |ar (i:Nat) (e:TypeId) (n:Nat) (cs:List PVal)
 |fz (i:Nat) (es:List (List PVal)) (lv rk:List Nat)
 |g (j:Nat) (b:Bool)
 |k
 |s
 |v (p:PVal)
 |x (cs:List PVal)
 |w (i:Nat) (B:aJ)
 |c (r:PVal) (ro:List (Nat×TypeId))
 |dr (an:List Nat)
 |dx (an:List Nat) (X:List aJ) (br:List (Nat×Nat)) (rw:List Nat)
 |pa (n:Nat)
 |pc (st0:aF) (e:Exit) (st1:aF)
 |b (p:PVal) (L:List (Nat×TypeId))
 |y (vs:List PVal)
 |z (l:List PVal)
 |e (vs:List PVal)
def IR:List U->Nat->(U->Prop)->Prop|[],_,k=>k .undef|p::_,0,k=>k p|_::l,n+1,k=>IR l n k
def lm:∀(l:List U)(n:Nat)(k:U->Prop),IR l n k=k (l.getD n .undef)
 |[],_,_=>by simp[IR]
 |_::_,0,_=>by simp[IR]
 |_::l,n+1,k=>by simp only[IR,lm l n k,List.getD_cons_succ]
def iM{α:Type}:List α->Nat->α->(List α->Prop)->Prop|[],_,_,k=>k []|_::l,0,v,k=>k (v::l)|x::l,n+1,v,k=>iM l n v λa=>k (x::a)
def cE{α:Type}:∀(l:List α)(n:Nat)(v:α)(k:List α->Prop),iM l n v k=k (l.set n v)
 |[],_,_,_=>by simp[iM]
 |_::_,0,_,_=>by simp[iM]
 |x::l,n+1,v,k=>by simp only[iM,cE l n v,List.set_cons_succ]
def cf{α:Type}:List α->(List α->Prop)->Prop|[],k=>k []|x::l,k=>cf l λa=>k (x::a)
def qlJ(l r:V aJ)(k:V aJ->Prop):Prop:=cf (l++r) k
def bp{α:Type}:∀(l:List α)(k:List α->Prop),cf l k=k l
 |[],_=>rfl
 |x::l,k=>by simp only[cf,bp l]
def qsZ:D->(U->Prop)->Prop|.int a n,k=>k (.int a n)|.bool b,k=>k (.bool b)|.string s,k=>cf s.data.toList λl=>k (.str l)|v,k=>k (absV v)
def qqz(v:D)(k:U->Prop):qsZ v k=k (absV v):=by
 unfold qsZ;split;.rfl
 .rfl
 .rw[bp];rfl
 .rfl
def y3(GE:List (Nat×List U))(a:List U)(x:Operand)(k:U->Prop):Prop:=match x with|.tmp t=>IR a t k|.const v=>qsZ v k|x=>k (opv GE a x)
def di(GE:List (Nat×List U))(a:List U)(x:Operand)(k:U->Prop):y3 GE a x k=k (opv GE a x):=by cases x with|tmp t=>exact lm _ _ _|const v=>exact qqz _ _|global g=>rfl|func f=>rfl
def qdM(GE:List (Nat×List U))(a:List U):List Operand->(List U->Prop)->Prop|[],k=>k []|x::l,k=>y3 GE a x λp=>qdM GE a l λb=>k (p::b)
def rW(GE:List (Nat×List U))(a:List U):∀(l:List Operand)(k:List U->Prop),qdM GE a l k=k (l.map (opv GE a))
 |[],_=>rfl
 |x::l,k=>by simp only[qdM,di,rW GE a l,ox]
def L0(GE:List (Nat×List U))(a:List U):List (Nat×Operand)->(List (Nat×U)->Prop)->Prop|[],k=>k []|x::l,k=>y3 GE a x.2 λp=>L0 GE a l λb=>k ((x.1,p)::b)
def zH(GE:List (Nat×List U))(a:List U):∀(l:List (Nat×Operand))(k:List (Nat×U)->Prop),L0 GE a l k=k (l.map λx=>(x.1,opv GE a x.2))
 |[],_=>rfl
 |x::l,k=>by simp only[L0,di,zH GE a l,ox]
def qrv(GE:List (Nat×List U))(a:List U):Q Operand->(Q U->Prop)->Prop|none,k=>k N|some x,k=>y3 GE a x λp=>k (O p)
def qrw(GE:List (Nat×List U))(a:List U)(o:Q Operand)(k:Q U->Prop):qrv GE a o k=k (o.map (opv GE a)):=by cases o with|none=>rfl|some x=>simp only[qrv,di,oo]
def T3(sc:List It)(f:U->Prop)(a:U->List It->Prop):Prop:=match sc with|.v p::sc'=>f p/\a p sc'|_=>False
def qdC(o:Q U)(a:U->Prop):Prop:=match o with|some p=>a p|none=>False
def HO{o:Q U}{a:U->Prop}(h:qdC o a):∃p,o=O p/\a p:=by
 unfold qdC at h;split at h;.exact⟨_,rfl,h⟩
 .exact h.elim
def sd{sc:V It}{f:U->Prop}{a:U->V It->Prop}(h:T3 sc f a):∃p sc',f p/\a p sc':=by
 unfold T3 at h;split at h;.exact⟨_,_,h⟩
 .exact h.elim
def CC(P:I)(GE:V (Nat×V U))(g:FuncId)(a:V U)(r:U)(b:V (Nat×G)):Prop:=kT 0 a/\C P GE g a [] [] r b []
def qck(P:I)(t:G)(a:List (U×U))(k:U)(ok:K):Q U:=match P.underlying t with
 | some (.map kt e) => match P.underlying kt with
  | some kd =>if uY kd k then match Qp k a 0,XA P e with|some (O (_,v)),_=>O (if ok then .tuple [v,.bool T]else v)|some N,O z=>O (if ok then .tuple [z,.bool Z]else z)|_,_=>N else N
  |_=>N
 |_=>N
def qmL{P:I}{t:G}{a:V (U×U)}{k p:U}{ok:K}{H:V aJ}{i:Nat}(b:H[i]? =O (.map a))(h:qck P t a k ok=O p):HV P t (.mapr i) k ok H=O p:=by
 unfold qck at h;unfold HV;split at h
 .rename_i n e d;split at h;.rename_i m c;simp only[d,b,c];exact h
  .cases h
 .cases h
def qeK(P:I)(t:G)(a:List (U×U))(k v:U):Q (List (U×U)):=match P.underlying t with
 | some (.map kt _) => match P.underlying kt with
  | some kd =>if uY kd k then match Qp k a 0 with|some (O (j,_))=>O (a.set j (k,v))|some N=>O (a++[(k,v)])|none=>N else N
  |_=>N
 |_=>N
def qiM{P:I}{t:G}{d a:V (U×U)}{k v:U}{H:V aJ}{i:Nat}(m:H[i]? =O (.map d))(h:qeK P t d k v=O a):ka P t (.mapr i) k v H=O (H.set i (.map a)):=by
 unfold qeK at h;unfold ka;split at h
 .rename_i q e o;split at h
  .rename_i p n;simp only[o,m,n];split at h
   .rename_i c;rw[hU c];split at h;.rename_i b;cases h;simp[b]
    .rename_i b;cases h;simp[b]
    .cases h
   .cases h
  .cases h
 .cases h
def qN:List aJ->Nat->(aJ->Prop)->Prop|[],_,_=>False|B::_,0,k=>k B|_::l,n+1,k=>qN l n k
def fp:∀{l:List aJ}{n:Nat}{k:aJ->Prop},qN l n k->∃B,l[n]? =O B/\k B
 |[],_,_,h=>h.elim
 |B::_,0,_,h=>⟨B,rfl,h⟩
 |_::l,n+1,k,h=>by simp only[qN]at h;let⟨B,a,b⟩:=fp h;exact⟨B,by simpa using a,b⟩
def qmc(a:BinOp)(x:U):K:=match a,x with|.quo,_=>T|.rem,_=>T|.add,.str _=>T|_,.agg _=>T|_,_=>Z
def qkE(P:I)(GE:List (Nat×List U))(o:Op)(a:List U)(H:List aJ)(sc:List It)(a0:U->List aJ->List It->Prop):Prop:=
 match o with
 |.move x=>y3 GE a x λp=>a0 p H sc
 |.assign x=>y3 GE a x λp=>a0 p H sc
 |.pick c x y=>y3 GE a c λR=>match R with
  |.bool T=>y3 GE a x λp=>a0 p H sc
  |.bool Z=>y3 GE a y λp=>a0 p H sc
  |_=>False
 |.binOp o a1 x y _=>y3 GE a x λe=>y3 GE a y λq=>match qmc o e with
  |true=>T3 sc (λp=>qb7 P o a1 e q=O p) λp b=>a0 p H b
  |false=>qdC (qb7 P o a1 e q) λp=>a0 p H sc
 |.unOp o _ x=>y3 GE a x λe=>qdC (qxd o e) λp=>a0 p H sc
 |.convert s d x=>y3 GE a x λe=>T3 sc (λp=>Yn P s d e=O p) λp b=>a0 p H b
 |.extract t i=>y3 GE a t λvt=>qdC (FK vt i) λp=>a0 p H sc
 |.nilCheck x=>y3 GE a x λe=>match e with
  |.eptr cs=>a0 (.eptr cs) H sc
  |.bptr i off=>a0 (.bptr i off) H sc
  |.func (.func f) first cap=>a0 (.func (.func f) first cap) H sc
  |_=>False
 |.makeFunc fn first cap=>qdM GE a first.toList λf=>qdM GE a cap.toList λc=>a0 (.func fn f c) H sc
 | .load t x => y3 GE a x fun e => match e with
  |.eptr cs=>T3 sc (λp=>co P t cs=O p) λp b=>a0 p H b
  | .bptr i off => qN H i fun B => match B with
   |.cells cs _=>match sc with
    |.s::b=>qdC (co P t (cs.drop off)) λp=>a0 p H b
    |.v p::b=>co P t (cs.drop off)=O p/\a0 p H b
    |_=>False
   |_=>False
  |_=>False
 | .store t x y => y3 GE a x fun e => y3 GE a y fun q => match e,sc with
  | .bptr i off,.s :: b => match bH q with
   | some vs => qN H i fun B => match B with
    |.cells cs own=>match Y (vs.length=P.cellsOf t)&&(P.info? t).isSome&&Y (off+vs.length<=cs.length)&&vs.all PVal.one with
     |true=>cf (cs.take off++vs++cs.drop (off+vs.length)) λh=>iM H i (.cells h (own.filter λy=>y.1<off||off+vs.length<=y.1)) λn=>a0 (.val undef) n b
     |false=>False
    |_=>False
   |none=>False
  | .bptr i off,.x vs :: b => bH q = O vs∧(qN H i fun B => match B with
    |.cells cs own=>match Y (vs.length=P.cellsOf t)&&(P.info? t).isSome&&Y (off+vs.length<=cs.length)&&vs.all PVal.one with
     |true=>cf (cs.take off++vs++cs.drop (off+vs.length)) λh=>iM H i (.cells h (own.filter λy=>y.1<off||off+vs.length<=y.1)) λn=>a0 (.val undef) n b
     |false=>False
    |_=>False)
  |.bptr i off,.w _ (.cells h own')::b=>qN H i λB=>(gB P t (.bptr 0 off) q [B]=O [.cells h own'])/\iM H i (.cells h own') λn=>a0 (.val undef) n b
  |_,_=>False
 |.fieldAddr s x f=>y3 GE a x λe=>match e with
  |.bptr i off=>qdC (lR P s (.bptr i off) f) λp=>a0 p H sc
  |e=>T3 sc (λp=>lR P s e f=O p) λp b=>a0 p H b
 |.field t x f=>y3 GE a x λe=>T3 sc (λp=>qgI P t e f=O p) λp b=>a0 p H b
 |.indexAddr t x i=>y3 GE a x λe=>y3 GE a i λA=>T3 sc (λp=>n9 P t e A=O p) λp b=>a0 p H b
 |.index t x i=>y3 GE a x λe=>y3 GE a i λA=>T3 sc (λp=>L3 P t e A=O p) λp b=>a0 p H b
 | .lookup t m k ok => y3 GE a m fun F => y3 GE a k fun E => match F with
  |.mapr i=>qN H i λB=>match B with
   |.map es=>T3 sc (λp=>qck P t es E ok=O p) λp b=>a0 p H b
   |_=>False
  |_=>False
 | .mapUpdate t m k x => y3 GE a m fun F => y3 GE a k fun E => y3 GE a x fun e => match F,sc with
  |.mapr i,.w _ (.map es')::b=>qN H i λB=>match B with
   |.map es=>qeK P t es E e=O es'/\iM H i (.map es') λn=>a0 (.val undef) n b
   |_=>False
  |_,_=>False
 |.slice t x lo hi N=>y3 GE a x λe=>qrv GE a lo λX=>qrv GE a hi λS=>T3 sc (λp=>QD P t e X S N=O p) λp b=>a0 p H b
 |.build t parts=>L0 GE a parts.toList λz=>T3 sc (λp=>df P t z=O p) λp b=>a0 p H b
 |.buildSlice t len parts=>L0 GE a parts.toList λz=>T3 sc (λp=>gV P t len z=O p) λp b=>a0 p H b
 | .call { callee := .builtin .len,args:=⟨[x]⟩,argTypes:=⟨[t]⟩ } => y3 GE a x fun e => match e with
  |.mapr i=>qN H i λB=>match B with
   |.map es=>T3 sc (λp=>p=.int .i64 es.length/\(P.underlying t).any (λd=>match d with|.map _ _=>T|_=>Z)=T) λp b=>a0 p H b
   |_=>False
  |e=>T3 sc (λp=>∀H,TG P t e H=O p) λp b=>a0 p H b
 |.call {callee:=.builtin .max,args:=⟨x::r⟩,..}=>y3 GE a x λe=>qdM GE a r λL=>qdC (Yo qlb e L) λp=>a0 p H sc
 |.call {callee:=.builtin .min,args:=⟨x::r⟩,..}=>y3 GE a x λe=>qdM GE a r λL=>qdC (Yo qlc e L) λp=>a0 p H sc
 |_=>False
section
variable{P:I}{GE:V (Nat×V U)}
def qmR{t:G}{c i:Nat}{y:U}{H:V aJ}{B:aJ}{b:V U}{a:V (Nat×G)}(n:H[i]? =O B)(h:gB P t (.bptr 0 c) y [B]=O [.cells b a]):gB P t (.bptr i c) y H=O (H.set i (.cells b a)):=by
 unfold gB at h ⊢;split at h
 .rename_i q d r e m;cases e;simp only[m];change (match(O B:Q aJ)with|some (.cells cs own)=>_|_=>N)=_ at h;rw[n];split at h
  .rename_i o;cases o;simp only;split at h;.rename_i p;rw[hU p];simp only[List.set_cons_zero,q8,vbI,vcj]at h;rw[h]
   .cases h
  .cases h
 .cases h
def qo2(t:G)(id:Nat)(v:Operand->U)(x:Operand)(H:V aJ):Ax P (.load t x) id v H=(qU P t (v x) H).map λp=>(p,H):=rfl
def Yb{L:Op}{id:Nat}{r:List U}{H:List aJ}{sc:List It}{a0:U->List aJ->List It->Prop}(h:qkE P GE L r H sc a0):∃p z a,Ax P L id (opv GE r) H=O (p,z)/\a0 p z a/\z.length=H.length:=by
 unfold qkE at h;split at h;case h_1=>rw[di]at h;exact⟨_,_,_,rfl,h,rfl⟩
 case h_2=>rw[di]at h;exact⟨_,_,_,rfl,h,rfl⟩
 case h_3 c x y=>
  rw[di]at h
  split at h
  .rename_i o;rw[di]at h;exact⟨_,_,_,by simp only[Ax,o],h,rfl⟩
  .rename_i o;rw[di]at h;exact⟨_,_,_,by simp only[Ax,o],h,rfl⟩
  .exact h.elim
 case h_4=>
  simp only[di]at h
  split at h
  .let⟨p,a,b,e⟩:=sd h;exact⟨p,_,a,by simp only[Ax,b,oo],e,rfl⟩
  .let⟨p,b,e⟩:=HO h;exact⟨p,_,_,by simp only[Ax,b,oo],e,rfl⟩
 case h_5=>simp only[di]at h;let⟨p,b,e⟩:=HO h;exact⟨p,_,_,by simp only[Ax,b,oo],e,rfl⟩
 case h_6=>simp only[di]at h;let⟨p,a,b,e⟩:=sd h;exact⟨p,_,a,by simp only[Ax,b,oo],e,rfl⟩
 case h_7=>simp only[di]at h;let⟨p,b,e⟩:=HO h;exact⟨p,_,_,by simp only[Ax,b,oo],e,rfl⟩
 case h_8=>
  simp only[di]at h
  split at h
  .rename_i n;exact⟨_,_,_,by simp only[Ax,n],h,rfl⟩
  .rename_i n;exact⟨_,_,_,by simp only[Ax,n],h,rfl⟩
  .rename_i n;exact⟨_,_,_,by simp only[Ax,n],h,rfl⟩
  .exact h.elim
 case h_9=>simp only[rW]at h;exact⟨_,_,_,rfl,h,rfl⟩
 case h_10 t x=>
  simp only[di]at h
  rw[qo2]
  split at h
  .rename_i A n
   let⟨p,a,b,e⟩:=sd h
   exact⟨p,_,a,by simp only[n,qU,b,oo],e,rfl⟩
  .rename_i i w n
   let⟨B,q,h⟩:=fp h
   split at h
   .rename_i A own
    split at h
    .let⟨p,b,e⟩:=HO h
     exact⟨p,_,_,by simp only[n,qU,q,b,oo],e,rfl⟩
    .exact⟨_,_,_,by simp only[n,qU,q,h.1,oo],h.2,rfl⟩
    .exact h.elim
   .exact h.elim
  .exact h.elim
 case h_11 t x y=>
  simp only[di]at h
  split at h
  .rename_i i w a n
   split at h
   .rename_i vs s
    let⟨B,q,h⟩:=fp h
    split at h
    .rename_i A own
     split at h
     .rename_i o
      simp only[bp,cE]at h
      simp only[ne,nm]at o
      exact⟨_,_,_,by simp only[Ax,gB,n,s,q];rw[hU ⟨o.1.1.1,o.1.1.2,o.1.2,o.2⟩];rfl,h,by simp⟩
     .exact h.elim
    .exact h.elim
   .exact h.elim
  .rename_i i w vs a n
   let⟨s,h⟩:=h
   let⟨B,q,h⟩:=fp h
   split at h
   .rename_i A own
    split at h
    .rename_i o
     simp only[bp,cE]at h
     simp only[ne,nm]at o
     exact⟨_,_,_,by simp only[Ax,gB,n,s,q];rw[hU ⟨o.1.1.1,o.1.1.2,o.1.2,o.2⟩];rfl,h,by simp⟩
    .exact h.elim
   .exact h.elim
  .rename_i i w j S R a n
   let⟨B,q,b,e⟩:=fp h
   rw[cE]at e
   exact⟨_,_,_,by simp only[Ax,n,qmR q b];rfl,e,by simp⟩
  .exact h.elim
 case h_12=>
  simp only[di]at h
  split at h
  .rename_i n
   let⟨p,b,e⟩:=HO h;exact⟨p,_,_,by simp only[Ax,n,b,oo],e,rfl⟩
  .let⟨p,a,b,e⟩:=sd h;exact⟨p,_,a,by simp only[Ax,b,oo],e,rfl⟩
 case h_13=>simp only[di]at h;let⟨p,a,b,e⟩:=sd h;exact⟨p,_,a,by simp only[Ax,b,oo],e,rfl⟩
 case h_14=>simp only[di]at h;let⟨p,a,b,e⟩:=sd h;exact⟨p,_,a,by simp only[Ax,b,oo],e,rfl⟩
 case h_15=>simp only[di]at h;let⟨p,a,b,e⟩:=sd h;exact⟨p,_,a,by simp only[Ax,b,oo],e,rfl⟩
 case h_16 t m k ok=>
  simp only[di]at h
  split at h
  .rename_i i n
   let⟨B,q,h⟩:=fp h
   split at h
   .rename_i E
    let⟨p,a,b,e⟩:=sd h
    exact⟨p,_,a,by simp only[Ax,n,qmL q b,oo],e,rfl⟩
   .exact h.elim
  .exact h.elim
 case h_17 t m k x=>
  simp only[di]at h
  split at h
  .rename_i i j X a n
   let⟨B,q,h⟩:=fp h
   split at h
   .rename_i E
    let⟨b,e⟩:=h
    rw[cE]at e
    exact⟨_,_,_,by simp only[Ax,n,qiM q b];rfl,e,by simp⟩
   .exact h.elim
  .exact h.elim
 case h_18=>simp only[di,qrw]at h;let⟨p,a,b,e⟩:=sd h;exact⟨p,_,a,by simp only[Ax,b,oo],e,rfl⟩
 case h_19=>simp only[zH]at h;let⟨p,a,b,e⟩:=sd h;exact⟨p,_,a,by simp only[Ax,b,oo],e,rfl⟩
 case h_20=>simp only[zH]at h;let⟨p,a,b,e⟩:=sd h;exact⟨p,_,a,by simp only[Ax,b,oo],e,rfl⟩
 case h_21 x t=>
  simp only[di]at h
  split at h
  .rename_i i n
   let⟨B,q,h⟩:=fp h
   split at h
   .rename_i E
    obtain⟨p,a,⟨rfl,b⟩,e⟩:=sd h
    refine⟨_,_,a,?_,e,rfl⟩
    simp only[Ax,n,TG]
    cases F:P.underlying t with
    |none=>rw[F]at b;cases b
    |some d=>
     rw[F]at b
     cases d<;>simp at b
     simp only[q,oo]
   .exact h.elim
  .let⟨p,a,b,e⟩:=sd h;exact⟨p,_,a,by simp only[Ax,b H,oo],e,rfl⟩
 case h_22=>simp only[di,rW]at h;let⟨p,b,e⟩:=HO h;exact⟨p,_,_,by simp only[Ax,b,oo],e,rfl⟩
 case h_23=>simp only[di,rW]at h;let⟨p,b,e⟩:=HO h;exact⟨p,_,_,by simp only[Ax,b,oo],e,rfl⟩
 case h_24=>exact h.elim
end
end Go.Proofs.YtibglelmlnfojaaGreatDoor
