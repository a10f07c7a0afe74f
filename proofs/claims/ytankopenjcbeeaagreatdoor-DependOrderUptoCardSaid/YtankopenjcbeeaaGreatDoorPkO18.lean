/- PROVED: a part of the proof. Conditions: none. -/
import Derived.Test.YtankopenjcbeeaaGreatDoorPkO17
import Derived.Test.YtankopenjcbeeaaGreatDoorPkO12
set_option linter.unusedSimpArgs false set_option linter.defProp false
set_option linter.unusedVariables false
noncomputable section
namespace Go.Proofs.YtankopenjcbeeaaGreatDoor
open Go
open Option renaming some→O,none→N
open Go renaming TypeId→G,Value→D,Program→I,Oper→M,World→J,Code→W
open Bool renaming true→T,false→Z
open Decidable renaming decide→Y
open YtankopenjcbeeaaGreatDoor renaming PVal→U
def qun(i:Nat):ay->Prop|.cells cs _=>Yr i cs|.map es=>∀x∈es,x.1.no i/\x.2.no i|.dead=>True
section
variable{P:I}{E:qy}{Γ:aS}{bs:bC}{d:Nat->Q kg}{w:J}{st:az}{a:Array D}
def BR.noi{B:ay}{b i:Nat}{m:bC}(h:BR Γ bs w B b)(F:qun i B)(A:∀(k b:Nat),k≠i->bs[k]? =O (O b)->m[k]? =O (O b)):BR Γ m w B b:=by cases B with|cells cs own=>let⟨c,t,s,y,q,z⟩:=h;exact⟨c,t,s,y,λj p v H R=>(q j p v H R).noi (sH F H) A,z⟩|map es=>let⟨o,e,s,y,q,z⟩:=h;exact⟨o,e,s,y,λj k u x r L=>⟨(q j k u x r L).1.noi (F _ (vaD r)).1 A,(q j k u x r L).2.noi (F _ (vaD r)).2 A⟩,z⟩|dead=>trivial
def nC{i k b:Nat}{x:Q Nat}(h:(bs.set i x)[k]? =O (O b))(o:x=N):k≠i/\bs[k]? =O (O b):=by
 subst o;by_cases c:i=k
 .subst c;by_cases m:i<bs.length;.rw[pi m]at h;cases h
  .rw[vaU (by simp;omega)]at h;cases h
 .rw[Pi c]at h;exact⟨λe=>c e.symm,h⟩
def SR.dropI(h:SR P E Γ bs d w a st)(i:Nat)(H:Yr i st.tmps)(y:∀(j:Nat) B,j≠i->st.boxes[j]? =O B->qun i B):SR P E Γ (bs.set i N) d w a {st with boxes:=st.boxes.set i .dead}:=by
 have r:∀(k b:Nat),k≠i->bs[k]? =O (O b)->(bs.set i N)[k]? =O (O b):=λk b x y=>by rw[Pi (λe=>x e.symm)];exact y
 have o:∀{k:Nat}{B:ay},k≠i->(st.boxes.set i .dead)[k]? =O B->st.boxes[k]? =O B:=λ{k B} x m=>by rwa[Pi (λe=>x e.symm)]at m
 exact{h with
  tm:=λt p v F L=>(h.tm t p v F L).noi (sH H F) r
  bl:=by simp[h.bl]
  bx:=λj b B c m=>by let⟨q,c⟩:=nC c rfl;have m:=o q m;let⟨R,S,X⟩:=h.bx j b B c m;exact⟨R,S,X.noi (y j B q m) r⟩
  inj:=λj k b q x=>h.inj j k b (nC q rfl).2 (nC x rfl).2
  bn:=λj b q=>h.bn j b (nC q rfl).2
  ob:=λj k e s own b m q c=>by let⟨z,c⟩:=nC c rfl;exact h.ob j k e s own b (o z m) q c
  gl:=λg s A=>(h.gl g s A).clo (show ie 0 s from h.gc g s A)}
def SR.addI(h:SR P E Γ bs d w a st){i b:Nat}{es:V (U×U)}(hi:bs[i]? =O N)(A:BR Γ (bs.set i (O b)) w (.map es) b)(a0:b<w.heap.size)(hT:¬aV bs d b)(X:E.T b\/E.w.heap.size<=b):SR P E Γ (bs.set i (O b)) d w a {st with boxes:=st.boxes.set i (.map es)}:=by
 have s:bs.Sub (bs.set i (O b)):=λk x L=>G3 hi L
 have m:∀{k x:Nat},(bs.set i (O b))[k]? =O (O x)->(k=i/\x=b)\/(k≠i/\bs[k]? =O (O x)):=λ{k x} z=>by
  by_cases H:k=i;.subst H;rw[pi (aq hi)]at z;cases z;exact .inl ⟨rfl,rfl⟩
  .rw[Pi (λe=>H e.symm)]at z;exact .inr ⟨H,z⟩
 have y:∀{k:Nat}{B:ay},k≠i->(st.boxes.set i (.map es))[k]? =O B->st.boxes[k]? =O B:=λ{k B} z A=>by rwa[Pi (λe=>z e.symm)]at A
 have r:∀{B:ay},(st.boxes.set i (.map es))[i]? =O B->B=.map es:=λ{B} A=>by rw[pi (by rw[<-h.bl];exact aq hi)]at A;cases A;rfl
 have hg:Γ b=N:=by cases L:Γ b with|none=>rfl|some n=>let⟨c,t,fr,h1,_⟩:=h.wi b n L;let⟨a1,R,h2,_⟩:=A;rw[h2]at h1;cases h1
 exact{h with
  tm:=λt p v hp hv=>(h.tm t p v hp hv).mono (.refl _ _) s
  bl:=by simp[h.bl]
  bx:=λj x B o q=>by
   rcases m o with⟨rfl,rfl⟩|⟨F,o⟩;.have:=r q;subst this;exact⟨hg,a0,A⟩
   .let⟨k1,k2,k3⟩:=h.bx j x B o (y F q);exact⟨k1,k2,k3.mono (.refl _ _) s rfl⟩
  inj:=λj k x F z=>by
   rcases m F with⟨rfl,rfl⟩|⟨hj',hb1⟩<;>rcases m z with⟨rfl,L⟩|⟨hk',hb2⟩;.rfl
   .exact absurd (.inl ⟨k,hb2⟩) hT
   .subst L;exact absurd (.inl ⟨j,hb1⟩) hT
   .exact h.inj j k x hb1 hb2
  bn:=λj x F=>by
   rcases m F with⟨rfl,rfl⟩|⟨_,hb1⟩;.exact X
   .exact h.bn j x hb1
  ob:=λj k e S own x q F o=>by
   rcases m o with⟨rfl,rfl⟩|⟨hji,o⟩;.have:=r q;cases this
   .exact h.ob j k e S own x (y hji q) F o
  gl:=λg S hg=>(h.gl g S hg).mono (.refl _ _) s}
def SR.retell(h:SR P E Γ bs d w a st){t:Nat}{p:U}(m:∀v,a[t]? =O v->VR Γ bs w p v):SR P E Γ bs d w a {st with tmps:=st.tmps.set t p}:=
 { h with
  sz:=by simp[h.sz]
  tm:=λk q v b c=>by
   by_cases e:t=k;.subst e;have i:=aq b;rw[pi (by simpa using i)]at b;cases b;exact m v c
   .rw[Pi e]at b;exact h.tm k q v b c}
def SR.unownO(h:SR P E Γ bs d w a st){r:Nat}{o:Obj}(hr:w.heap[r]? =O o)(A:∀c t fr,o≠.cells c t fr):Γ r=N/\SR P E Γ bs (λb=>if b=r then N else d b) w a st:=by
 have F:Γ r=N:=by cases B:Γ r with|none=>rfl|some n=>let⟨c',t,fr,m,_⟩:=h.wi r n B;rw[hr]at m;cases m;exact absurd rfl (A _ _ _)
 have x:∀{v:D}{e:G}{b:Nat},eI P Γ w v e->v.ownBlock=O b->b≠r:=λ{v e b} ho p B=>by let⟨n,xs,_,o2⟩:=ho;have:=o2 b p;rw[B,F]at this;cases this
 refine⟨F,{h with
  on:=λb L z=>?_
  ot:=λt k e he=>?_
  ob:=λi j e R own b X hj p=>?_}⟩
 .split at z;.cases z
  .exact h.on b L z
 .let⟨u,v,m,S,q,y⟩:=h.ot t k e he;exact⟨u,v,m,S,q,λb p=>by rw[hG (x q p)];exact y b p⟩
 .let⟨v,m,q,y⟩:=h.ob i j e R own b X hj p;exact⟨v,m,q,λH s=>by rw[hG (x q s)];exact y H s⟩
end
def Lh{P:I}{E:qy}{A:List Nat}{b:Array M}{K:az->Prop}{c:List Nat}{r:List Deferred}{a2:Exit->Act->J->Prop}{bs0:bC}
  (F:∀Γ d m a w e,SR P E Γ d m w a e->K e->(∃X,d=bs0++X)->wpOps P b a2 c ⟨a,r⟩ w):
  ∀(L:List M)(is:List Nat)(id:Nat)(Γ:aS)(d:bC)(m:Nat->Q kg)(a:Array D)(w:J)(e:az),is.map (λi=>b[i]?)=L.map O->(∀o∈L,o.guard=N/\eD o=T/\aD o.op=Z)->
   SR P E Γ d m w a e->(∃X,d=bs0++X)->cK P E.GE A b K L id e->wpOps P b a2 (is++c) ⟨a,r⟩ w
 |[],[],id,Γ,d,m,a,w,e,_,_,h,hX,hp=>F Γ d m a w e h hp hX
 | o :: L,i :: is,id,Γ,d,m,a,w,e,hi,hg,h,hX,hp => by
  let⟨y,g2,z⟩:=hg o (by simp);unfold cK at hp;simp only[y]at hp;simp only[ox,vbQ]at hi;show wpOps P b a2 (i::(is++c)) _ w;rw[wpOps_cons];unfold wpOp;rw[hi.1];simp only;rw[l7 (by simp[Region.wanted,y])];refine .inl (Oper.wp_mono (λR w' hA=>?_) (IM (a:=⟨a,r⟩) h (λp=>by rw[z]at p;cases p) hp a2));let⟨H,x,q,s,t,B,h2,h3⟩:=hA;let⟨S,a0⟩:=R;simp only at H B;subst H;refine Lh (A:=A) F L is _ x q s S w' t hi.2 (λo ho=>hg o (vaQ _ ho)) B ?_ h2;obtain⟨X,rfl⟩:=hX;rcases h3 with rfl|⟨p,_⟩|⟨a3,rfl⟩;.exact⟨X,rfl⟩
  .rw[z]at p;cases p
  .exact⟨X++a3,va6 _ _ _⟩
def keepV(b:V Nat)(a:U)(tm:V U):V U:=b.foldl (λtm t=>tm.set t a) tm
section
variable{P:I}{E:qy}{Γ:aS}{bs:bC}{z:Nat->Q kg}{w:J}{st:az}{a:Array D}
def Ye(b:U):∀(e:List Nat)(tm:List U)(t:Nat)(p:U),(keepV e b tm)[t]? =O p->(t∈e/\p=b)\/tm[t]? =O p
 |[],tm,t,p,h=>.inr h
 | k :: e,tm,t,p,h => by
  rcases Ye b e (tm.set k b) t p h with h|h;.exact .inl ⟨vaQ _ h.1,h.2⟩
  .by_cases c:k=t;.subst c;have d:=aq h;rw[pi (by simpa using d)]at h;cases h;exact .inl ⟨by simp,rfl⟩
   .rw[Pi c]at h;exact .inr h
def Yf(b:U):∀(c:List Nat)(tm:List U),(keepV c b tm).length=tm.length
 |[],tm=>rfl
 |k::c,tm=>by show(keepV c b (tm.set k b)).length=_;rw[Yf b c];simp
def SR.keepV(h:SR P E Γ bs z w a st)(i:V Nat){p:U}(e:∀t∈i,∀v,a[t]? =O v->VR Γ bs w p v):SR P E Γ bs z w a {st with tmps:=Go.Proofs.YtankopenjcbeeaaGreatDoor.keepV i p st.tmps}:=
 { h with
  sz:=by rw[Yf];exact h.sz
  tm:=λt q v d b=>by
   rcases Ye p i st.tmps t q d with⟨c,rfl⟩|c;.exact e t c v b
   .exact h.tm t q v c b}
def YE{GE:V (Nat×V U)}{m:Nat}{σ β:Type}{f:aa->σ->Option σ}{S:U->U->σ->az}{F:σ->az}{s0:σ}{st0 st1:az}{g:β->U}{ma:V (aa×β)}{A:V Nat}{ops:Array M}{L:V M}{oR:M}{K:V Nat}{i tR ti d1 d2 e1 e2 kx i2 i3 i4 b0 b1:Nat}{T kt et:G}{c5:W}{o10 o11 o12 o13 o4:M}{cd:W}
  (e8:cd=.seq (.region i2 ops Z) (.block b0 (.loop (.seq (.region i3 #[o10,o11] Z) (.seq (.cond (.tmp d2) .skip (.exit b0)) (.block b1 (.seq (.region i4 #[o12,o13,o4] Z) c5)))))))
  (g1:List.range ops.size=List.range L.length++[L.length]) (fv:(List.range L.length).map (λi=>ops[i]?)=L.map O) (fz:L.all Ox=true) (fs:ops[L.length]? =O oR) (eg:oR.guard=N) (hR:oR.op=.range T (.tmp tR)) (dx:oR.dst=O ti) (f8:ops.toList.all eD=true)
  (hT:P.underlying T=O (.map kt et)) (c7:cK P GE A ops (λst=>FG st st1) L st0.boxes.length st0)
  (c9:st1.tmps[tR]? =O (.mapr i)) (e7:st1.boxes[i]? =O (.map (bU g ma))) (hK:∀t∈K,st1.tmps[t]? =O (.mapr i)) (fd:∀p,p.no i->Yr i (keepV K p (st1.tmps.set tR .undef))) (c6:∀(j:Nat) B,j≠i->st1.boxes[j]? =O B->qun i B) (c0:∀x,(g x).cl 0)
  (g2:Fr st1 ti) (e0:∀iv mv,S iv mv s0=⟨(keepV K mv (st1.tmps.set tR .undef)).set ti iv,st1.boxes.set i .dead,st1.own⟩)
  (hS:∀iv mv s,(S iv mv s).tmps[ti]? =O iv/\(S iv mv s).boxes.length=st1.boxes.length/\Fr (S iv mv s) d1/\Fr (S iv mv s) d2/\Fr (S iv mv s) e1/\Fr (S iv mv s) e2/\bI kx (S iv mv s).own=(S iv mv s).own/\(∀t∈K,(S iv mv s).tmps[t]? =O mv))
  (hF:∀iv mv s,Vq (keepV K (.mapr i) (S iv mv s).tmps) (F s).tmps=(F s).tmps/\(F s).boxes=(S iv mv s).boxes.set i (.map (bU g ma))/\(F s).own=(S iv mv s).own) (f9:ti≠e1/\e1≠e2)
  (gl:st1.boxes.length<1000) (hm:m % 1000<=st1.boxes.length) (bc:Y0 f (ma.map (·.1)) s0)
  (hB:∀iv mv s k s',f k s=O s'->dz P GE (1000+st1.boxes.length) c5 (EX .normal (S (.val iv) (.val mv) s')) {S (.val iv) (.val mv) s with tmps:=(S (.val iv) (.val mv) s).tmps.set kx (.str k)})
  (h1:o10.op=.next (.tmp ti) Z) (cs:o10.dst=O d1) (cv:o10.guard=N) (h2:o11.op=.extract (.tmp d1) 0) (d0:o11.dst=O d2) (d3:o11.guard=N)
  (h3:o12.op=.entry (.tmp ti)) (d4:o12.dst=O e1) (d5:o12.guard=N) (h4:o13.op=.extract (.tmp e1) 0) (d6:o13.dst=O e2) (dd:o13.guard=N) (h5:o4.op=.assign (.tmp e2)) (de:o4.dst=O kx) (dk:o4.guard=N):
  dz P GE m cd (λe g4=>e=.normal/\∃(l:V aa)(s:σ),l.Perm (ma.map (·.1))/\wy f l s0=O s/\g4=F s) st0:=by
 intro ro E bs0 a w hE e5 bn
 obtain⟨rfl,dl,g6,g5⟩:=hE
 subst e8
 let⟨a,ds⟩:=a
 let⟨Γ,bs,z,h,hk⟩:=bn
 refine xQ (gD (nc (Q:=λe a' w'=>e=.normal/\a'.defers=ds/\∃(r bm:Nat)(es:Array MapEntry)(H:Nat)(a7:aS)(bs1:bC)(a6:Nat->Option kg),
   SR P E a7 (bs1.set i N) a6 w' a'.tmps (S (.val (JM r)) (.val (.map (O bm))) s0)/\bs1.length=st1.boxes.length/\bs1[i]? =O (O bm)/\XH bs0 bs1/\w'.heap[r]? =O (.mapIter (O bm) H #[] H)/\w'.heap[bm]? =O (.map es H)/\Jy es H/\E.w.heap.size<=r/\
   ¬aV (bs1.set i N) a6 r/\¬aV (bs1.set i N) a6 bm/\bm≠r/\(E.T bm\/E.w.heap.size<=bm)/\es.size=(bU g ma).length/\(∀(j:Nat) k u x,(bU g ma)[j]? =O (k,u)->es[j]? =O x->VR a7 [] w' k x.key/\VR a7 [] w' u x.val)) f8 (by rintro⟨_,_,hx,_⟩;cases hx) ?_) ?_)
 .rw[g1]
  refine Lh (A:=A) (bs0:=bs) (λa7 bs1 a6 a1 w1 gs hx eb hX=>?_) L _ st0.boxes.length Γ bs z a w st0 fv (xi fz) h ⟨[],by simp⟩ c7
  obtain⟨X,rfl⟩:=hX
  have f5:XH bs0 (bs++X):=λj hj=>by
   have h1:=hk j hj;have h2:bs0[j]? =O bs0[j]:=m3 hj;have h3:j<bs.length:=by rw[h2]at h1;exact aq h1
   rw[B2 h3];exact h1
  let⟨bl,a8,ad,R,bg⟩:=(eb.weak (P:=P) (m:=m)) E bs0 ⟨a1,ds⟩ w1 e5 ⟨a7,bs++X,a6,hx,f5⟩
  simp only at R
  have cg:tR<a1.size:=by rw[R.sz];exact aq c9
  have ci:=R.tm tR _ _ c9 (vaM cg)
  generalize g3:a1[tR]=vt at ci
  obtain⟨bm,rfl,a4⟩:∃bm,vt=.map (O bm)/\a8[i]? =O (O bm):=by cases ci with|mapr _ bm hb=>exact⟨bm,rfl,hb⟩
  let⟨ge,e6,es,H,a9,ab,a0,a3⟩:=R.bx i bm _ a4 e7
  have c8:=run_range_map (P:=P) w1 T kt et bm es H hT a9
  have ea:(Act.mk a1 ds).eval (.tmp tR)=.map (O bm):=bu (by show a1[tR]? =_;rw[vaM cg,g3])
  refine da (o:=oR) fs eg (v:=JM w1.heap.size) (w':=w1.alloc (.mapIter (O bm) H #[] H)) (by simp[execOp,hR,ea,c8]) ?_
  rw[dx,zR]
  let⟨_,hU⟩:=R.unownO a9 (λc t fr hx=>by cases hx)
  let⟨hA,c4⟩:=hU.allocO (.mapIter (O bm) H #[] H)
  have h3:=hA.retell (t:=tR) (p:=.undef) λv _=>.undef v
  have h4:=h3.keepV K (p:=.val (.map (O bm))) λt ht v hv=>by have h9:=R.tm t _ v (hK t ht) hv;cases h9 with|mapr _ b2 hb2=>rw[a4]at hb2;cases hb2;exact .val _
  have h5:=h4.dropI i (fd _ (by simp[PVal.no])) c6
  have h6:=h5.set (d:=ti) (p:=.val (JM w1.heap.size)) (.val _)
  simp only[g2.o]at h6
  refine⟨rfl,rfl,w1.heap.size,bm,es,H,bl,a8,λb=>if b=bm then N else ad b,?_,by rw[R.bl],a4,bg,World.alloc_heap_new w1 _,(alloc_old w1 _ e6).trans a9,a3,R.step.size,?_,?_,by omega,R.bn i bm a4,ab,λj k u x hk hx=>?_⟩
  .rw[e0];exact h6
  .rintro(⟨j,hj⟩|hj)
   .let⟨_,hj⟩:=nC hj rfl
    have ex:j<st1.boxes.length:=by rw[<-R.bl];exact aq hj
    have:=(R.bx j _ _ hj (m3 ex)).2.1
    omega
   .simp only at hj
    rw[hG (by omega)]at hj
    cases hL:ad w1.heap.size with
    |none=>exact hj hL
    |some L=>have:=(R.on _ L hL).1;omega
  .rintro(⟨j,hj⟩|hj)
   .let⟨em,hj⟩:=nC hj rfl
    exact em (R.inj _ _ _ hj a4)
   .simp at hj
  .have a5:k.cl 0/\u.cl 0:=by
    let⟨y,_,hy⟩:=l9.1 (vaD hk)
    cases hy
    exact⟨hV,c0 y.2⟩
   exact⟨((a0 j k u x hk hx).1.clo a5.1).mono c4 (.refl _),((a0 j k u x hk hx).2.clo a5.2).mono c4 (.refl _)⟩
 .rintro e ⟨a1,cn⟩ w1 ⟨rfl,c1,r,bm,es,H,a7,bs1,a6,R,br,a4,f4,el,be,a3,hr,e4,bq,bt,e3,ab,a0⟩
  simp only at c1 R;subst c1
  have c2:i<bs1.length:=aq a4
  have ar:∀(j:Nat)(x:MapEntry),es[j]? =O x->∃s u,ma[j]? =O (s,u)/\x.key=.string ⟨s.toArray⟩:=λj x hx=>by
   have hj:j<ma.length:=by have:=(vh.1 hx).1;rw[ab]at this;simpa[bU]using this
   let⟨h1,_⟩:=a0 j (.str ma[j].1) (g ma[j].2) x (by simp[bU,hj]) hx;refine⟨ma[j].1,ma[j].2,by simp[hj],?_⟩;generalize x.key=k at h1;cases h1;rfl
  have f6:∀y∈es.toList,y.key=.string ⟨(ki y).toArray⟩:=λy hy=>by let⟨j,hj⟩:=vbc.1 hy;let⟨s,u,_,h2⟩:=ar j y (by simpa using hj);unfold ki;rw[h2]
  have c3:es.toList.map ki=ma.map λe=>e.1:=by
   refine va2 λj=>?_;simp only[o8,vaK];cases hj:es[j]? with
   |none=>
    have h1:ma.length<=j:=by have:=vbL.1 hj;rw[ab]at this;simpa[bU]using this
    simp[h1]
   |some x=>let⟨s,u,h1,h2⟩:=ar j x hj;simp[h1,ki,h2]
  have b4:(1000+st1.boxes.length) % 1000=st1.boxes.length:=by omega
  show MC ro P (.block b0 _) _ _ w1
  refine L5 (gD (Wu (ds:=cn) (S:=S (.val (JM r)) (.val (.map (O bm)))) (mB:=1000+st1.boxes.length) (kx:=kx) el be a3 hr e4 bq bt R (by omega) (by rw[b4,vcL,br];exact l8 _) f6 (λs=>(hS _ _ s).1) (λs=>(hS _ _ s).2.2.1) (λs=>(hS _ _ s).2.2.2.1) (λs=>(hS _ _ s).2.2.2.2.1) (λs=>(hS _ _ s).2.2.2.2.2.1) (λs=>(hS _ _ s).2.2.2.2.2.2.1) f9
   (by rw[c3];exact bc) (λs k s' hs=>hB _ _ s k s' hs) h1 cs cv h2 d0 d3 h3 d4 d5 h4 d6 dd h5 de dk) λq a2 w2 hq=>?_)
  obtain⟨rfl,e9,l,s,bl,a8,ad,bi,ec,b5,an,b3,gc,bg⟩:=hq
  rw[b4]at an
  have g7:a8.length=st1.boxes.length:=by rw[b5.bl];exact(hS _ _ s).2.1
  have bb:a8=bs1.set i N:=va2 λj=>by
   by_cases hj:j<st1.boxes.length;.exact an j hj
   .rw[vaU (by omega),vaU (by simp;omega)]
  subst bb
  let⟨q1,q2⟩:=bg bm (vh.1 be).1 bt bq
  have ao:=q1.trans be
  have a5:∀x∈bU g ma,x.1.cl 0/\x.2.cl 0:=λx hx=>by obtain⟨y,_,rfl⟩:=l9.1 hx;exact⟨hV,c0 y.2⟩
  have ek:(bs1.set i N)[i]? =O N:=pi c2
  have b7:(bs1.set i N).set i (O bm)=bs1:=by
   rw[vbX];refine va2 λj=>?_;by_cases hj:i=j;.subst hj;rw[pi c2,a4]
   .rw[Pi hj]
  have hA:=b5.addI (es:=bU g ma) ek ⟨es,H,ao,ab,λj k u x hk hx=>⟨((a0 j k u x hk hx).1.mono b3 (.refl _)).clo (a5 _ (vaD hk)).1,((a0 j k u x hk hx).2.mono b3 (.refl _)).clo (a5 _ (vaD hk)).2⟩,a3⟩ (vh.1 ao).1 q2 e3
  rw[b7]at hA
  have hC:=hA.keepV K (p:=.mapr i) λt ht v hv=>by have h9:=b5.tm t _ v ((hS _ _ s).2.2.2.2.2.2.2 t ht) hv;cases h9;exact .mapr i bm a4
  let⟨f1,f2,f3⟩:=hF (.val (JM r)) (.val (.map (O bm))) s
  have hD:=hC.forgetT (tm:=(F s).tmps) f1
  have dt:F s=⟨(F s).tmps,(S (.val (JM r)) (.val (.map (O bm))) s).boxes.set i (.map (bU g ma)),(S (.val (JM r)) (.val (.map (O bm))) s).own⟩:=by rw[<-f2,<-f3]
  simp only[Exit.inBlock,if_true]
  refine⟨e9,F s,⟨bl,bs1,ad,?_,f4⟩,rfl,l,s,c3▸bi,ec,rfl⟩
  rw[dt]
  exact hD
end
def AR{α:Type}(m:List (aa×α))(k:aa):List (aa×α):=match m with|[]=>[]|e::r=>if k==e.1 then r else e::AR r k
def Ym{α:Type}(k k':aa):∀m:List (aa×α),AR (AR m k) k'=AR (AR m k') k
 |[]=>rfl
 | e :: m => by
  have b:=Ym k k' m;by_cases h:(k==e.1)=T<;>by_cases a:(k'==e.1)=T
  .have:k=k':=by rw[vbf]at h a;rw[h,a]
   subst this;rfl
  .simp[AR,h,a]
  .simp[AR,h,a]
  .simp[AR,h,a,b]
def qe1{α:Type}(f:α->U)(k:aa):∀(m:List (aa×α)),bU f (AR m k)=match oe m k with
  |none=>bU f m
  |some _=>(bU f m).eraseIdx (m.findIdx λe=>k==e.1)
 |[]=>by simp[AR,oe,bU]
 | e :: m => by
  have a:=qe1 f k m;unfold oe at a ⊢;unfold bU at a ⊢;by_cases h:(k==e.1)=T;.simp[AR,h,vbS]
  .have b:(k==e.1)=false:=by simpa using h
   simp only[AR,b,List.find?_cons,vbS,ox];simp only[vaF,if_false,ox,a];cases(List.find? (λe=>k==e.1) m)with|none=>simp|some v=>simp
def Jy.erase{a:Array MapEntry}{clock j:Nat}(h:Jy a clock):Jy (a.eraseIdxIfInBounds j) clock:=by
 have b:(a.eraseIdxIfInBounds j).toList=a.toList.eraseIdx j:=by simp
 refine⟨?_,λx c=>?_⟩;.rw[b];exact((List.eraseIdx_sublist _ _).map _).nodup h.1
 .rw[b]at c;exact h.2 x (List.mem_of_mem_eraseIdx c)
section
variable{P:I}{E:qy}{Γ:aS}{bs:bC}{c:Nat->Q kg}{w:J}{st:az}{a:Array D}{β:Type}
def qb8(h:SR P E Γ bs c w a st){t kt et ty:G}{i:Nat}{s:V (aa×β)}{g:β->U}{k:aa}{vm vk:D}(hT:P.underlying t=O (.map kt et))(a3:P.underlying kt=O .string)(hm:VR Γ bs w (.mapr i) vm)(hk:VR Γ bs w (.str k) vk)(hB:st.boxes[i]? =O (.map (bU g s))):∃w',(Builtin.delete_ #[t,kt] ty #[vm,vk]).run P w=.ok (.tuple #[]) w'/\SR P E Γ bs c w' a {st with boxes:=st.boxes.set i (.map (bU g (AR s k)))}:=by
 cases hm with
 | mapr i b hi =>
  let⟨a7,a8,d,p,h1,h2,h3,h4⟩:=h.bx i b _ hi hB;have a4:oQ .string (.str k)=true:=rfl;have a6:=IQ (P:=P) (w:=w) a3 a4 hk d.toList.isEmpty;have a1:(Instr.checkKey d.isEmpty 10000 kt vk).run P w=.ok () w:=by rw[show d.isEmpty=d.toList.isEmpty from by simp];exact a6
  have a2:∀o,(setObj b o).run P w=.ok () {w with heap:=w.heap.setIfInBounds b o}:=by intro o;simp[setObj,Sem.run,h1]
  have H:∀o,({w with heap:=w.heap.setIfInBounds b o}:J).heap[b]? =O o:=by intro o;simp[a8]
  have r:∀o b',b'≠b->({w with heap:=w.heap.setIfInBounds b o}:J).heap[b']? =w.heap[b']?:=by intro o b' F;exact vaI (λe=>F e.symm)
  have A:∀o,Γ.Le w Γ ({w with heap:=w.heap.setIfInBounds b o}:J):=λo b' m F _=>
   ⟨m,F,l8 _,λo' _=>bE (r o b' (λe=>by subst e;rw[a7]at F;cases F)) o'⟩
  have a0:∀{o:Obj}{B:ay},BR Γ bs ({w with heap:=w.heap.setIfInBounds b o}:J) B b->(∀cs own,B≠.cells cs own)->
    SR P E Γ bs c ({w with heap:=w.heap.setIfInBounds b o}:J) a {st with boxes:=st.boxes.set i B}:=λ{o B} hB hne=>
   h.box_write hi rfl rfl rfl (by simp) (r o) hB (λb' L hL _=>hL) h.on (λcs own he=>absurd he (hne cs own))
  have hf:=Ch (f:=g) k s 0;have z:=xc hk a4 (bU g s) d.toList 0 (by simp[h2]) (λj X u x hj hx=>h3 j X u x hj (by simpa using hx)) hf;rw[qe1];cases a5:oe s k with
  |none=>rw[a5]at z;simp only at z ⊢;refine⟨{w with heap:=w.heap.setIfInBounds b (.map d p)},?_,a0 ⟨_,p,H _,h2,λq X ux y S R=>⟨(h3 q X ux y S R).1.mono (A _) (.refl _),(h3 q X ux y S R).2.mono (A _) (.refl _)⟩,h4⟩ (by simp)⟩;simp[Builtin.delete_,run_underlying hT,mC h1,a1,Instr.findKey,run_underlying a3,z,a2]
  | some v =>
   rw[a5]at z;simp only[s7]at z ⊢;let⟨vv,x,k1,k2,k3,k4,k5,k6,k7⟩:=z;generalize hj:(s.findIdx λe=>k==e.1)=j at *;have hl:(d.eraseIdxIfInBounds j).toList=d.toList.eraseIdx j:=by simp
   refine⟨{w with heap:=w.heap.setIfInBounds b (.map (d.eraseIdxIfInBounds j) p)},?_,a0 ⟨_,p,H _,?_,λq X ux y S R=>?_,h4.erase⟩ (by simp)⟩;.simp[Builtin.delete_,run_underlying hT,mC h1,a1,Instr.findKey,run_underlying a3,k1,a2]
   .rw[<-Array.length_toList,hl,vcR,vcR,Array.length_toList,h2]
   .rw[<-vaK,hl]at R;rw[List.getElem?_eraseIdx]at S R;split at S<;>rename_i hc;.rw[l7 hc]at R;exact⟨(h3 q X ux y S (by simpa using R)).1.mono (A _) (.refl _),(h3 q X ux y S (by simpa using R)).2.mono (A _) (.refl _)⟩
    .rw[hG hc]at R;exact⟨(h3 _ X ux y S (by simpa using R)).1.mono (A _) (.refl _),(h3 _ X ux y S (by simpa using R)).2.mono (A _) (.refl _)⟩
def qec{GE:V (Nat×V U)}{m:Nat}{st0 st1 d:az}{A:V Nat}{ops:Array M}{L:V M}{oD:M}{i tM tK i2:Nat}{T kt et:G}{g:β->U}{s:V (aa×β)}{k:aa}{cd:W}{tys:Array G}
  (a5:cd=.region i2 ops Z) (b1:List.range ops.size=List.range L.length++[L.length]) (ar:(List.range L.length).map (λi=>ops[i]?)=L.map O) (b0:L.all Ox=true) (ao:ops[L.length]? =O oD) (a7:oD.guard=N)
  (hD:oD.op=.call {callee:=.builtin .delete,args:=#[.tmp tM,.tmp tK],argTypes:=#[T,kt]}) (a0:oD.dst=N) (an:ops.toList.all eD=true) (hT:P.underlying T=O (.map kt et)) (ad:P.underlying kt=O .string)
  (F:cK P GE A ops (λst=>FG st st1) L st0.boxes.length st0) (b3:st1.tmps[tM]? =O (.mapr i)) (b2:st1.tmps[tK]? =O (.str k)) (a4:st1.boxes[i]? =O (.map (bU g s)))
  (B:FG {st1 with boxes:=st1.boxes.set i (.map (bU g (AR s k)))} d):dz P GE m cd (EX .normal d) st0:=by
 intro ro E bs0 a w hE z y
 obtain⟨rfl,a2,bg,be⟩:=hE
 subst a5
 let⟨a,x⟩:=a
 let⟨Γ,bs,c,h,hk⟩:=y
 refine gD (nc (Q:=λe a' w'=>e=.normal/\UH P E bs0 x (EX .normal d) .normal a' w') an (by rintro⟨_,_,hx,_⟩;cases hx) ?_) λe a' w' hq=>by obtain⟨rfl,hq⟩:=hq;exact hq
 rw[b1]
 refine Lh (A:=A) (bs0:=bs) (λbb bi b4 R w1 bl hx a6 hX=>?_) L _ st0.boxes.length Γ bs c a w st0 ar (xi b0) h ⟨[],by simp⟩ F
 obtain⟨X,rfl⟩:=hX
 have ab:XH bs0 (bs++X):=λj hj=>by
  have h1:=hk j hj;have h2:bs0[j]? =O bs0[j]:=m3 hj;have h3:j<bs.length:=by rw[h2]at h1;exact aq h1
  rw[B2 h3];exact h1
 let⟨H,r,b5,q,a8⟩:=(a6.weak (P:=P) (m:=m)) E bs0 ⟨R,x⟩ w1 z ⟨bb,bs++X,b4,hx,ab⟩
 simp only at q
 have b:∀{t:Nat}{p:U},st1.tmps[t]? =O p->VR H r w1 p ((Act.mk R x).eval (.tmp t)):=λ{t p} ht=>by
  have:=q.opv x (.tmp t);have e:opv E.GE st1.tmps (.tmp t)=p:=by show st1.tmps.getD t .undef=_;rw[vav,ht];rfl
  rw[e]at this;exact this
 let⟨w',r1,r2⟩:=qb8 (ty:=oD.type) q hT ad (b b3) (b b2) a4
 refine da (o:=oD) ao a7 (v:=.tuple #[]) (w':=w') (by simp[execOp,hD,resolve,invoke,builtin,r1]) ?_
 rw[a0]
 show Exit.normal=.normal/\_
 refine⟨rfl,rfl,?_⟩
 let⟨bc,S,b7,a3,a9⟩:=(B.weak (P:=P) (m:=m)) E bs0 ⟨R,x⟩ w' z ⟨H,r,b5,r2,a8⟩
 exact⟨d,⟨bc,S,b7,a3,a9⟩,rfl,rfl⟩
end
open Go Go.Proofs.Tryz
set_option maxRecDepth 100000
def Lm{P:I}{GE:V (Nat×V U)}{A:V Nat}{a:Array M}{L:V M}{st b:az}{sc:V It}{F:Prop}{n:Nat}(h:PS sc F)(c:F=PQ P GE A a (λ_ st=>FG st b) L 0 n sc st):cK P GE A a (λst=>FG st b) L n st:=rF (λst ⟨_,d⟩=>d) L n st (w9 L 0 n sc st (Eq.mp c h))
abbrev qwy:Nat:=50
noncomputable def qhW:W:=f50.body.getD .skip
abbrev qk7:W:=aE qhW [Z]
abbrev qk8:W:=aE qhW [T,Z]
abbrev Zs:W:=aE qhW [T,T,Z,Z]
abbrev qf3:W:=aE qhW [T,T,Z,T,Z,Z,Z]
abbrev qbi:W:=aE qhW [T,T,Z,T,Z,Z,T,T,Z,Z]
abbrev qnR:W:=aE qhW [T,T,Z,T,Z,Z,T,T,Z,T]
abbrev qdj:W:=aE qhW [T,T,T,Z]
abbrev qqu:W:=aE qhW [T,T,T,T,Z]
def qnv:qhW=.seq (.region (Rd qk7) #[dv qk7 0] Z) (.seq (.region (Rd qk8) #[dv qk8 0] Z) (.seq (.seq (.region (Rd Zs) #[dv Zs 0,dv Zs 1] Z)
  (.block 0 (.loop (.seq (.region (Rd qf3) #[dv qf3 0,dv qf3 1] Z) (.seq (.cond (.tmp 8) .skip (.exit 0)) (.block 1 (.seq (.region (Rd qbi) #[dv qbi 0,dv qbi 1,dv qbi 2] Z) qnR)))))))
  (.seq (.region (Rd qdj) #[dv qdj 0,dv qdj 1] Z) (.seq qqu .ret)))):=by kernel_rfl
abbrev dS(iv:U)(l:V aa):az:=aR 18 [(3,sl cS l),(6,iv)] [] [((3,0),eS)]
def qtW(iv:D)(l:V aa)(k:aa)(h:l.length+1<=bO):dz Pg GE 1000 qnR (EX .normal (dS (.val iv) (l++[k]))) {dS (.val iv) l with tmps:=(dS (.val iv) l).tmps.set 4 (.str k)}:=by
 have a:app l [k]=O (l++[k]):=by unfold app;rw[l7 (by simpa using h)]
 have z:=sv (cT.mk' (v:=PVal.str) qon ([k]:V aa) 1 (by kernel_rfl))<|sv (cT.ap a)<|eF .normal (dS (.val iv) (l++[k]));exact fU (A:=[11]) mixed z (by kernel_rfl)
def qtX(l:V aa)(h:l.length<=bO):dz Pg GE 0 (.region (Rd qdj) #[dv qdj 0,dv qdj 1] Z) (EX .normal (fJ 18 3 (nW l) eS)) (fJ 18 3 l eS):=
 dz.inplace (t:=3) (d1:=15) (d2:=16) (tys:=XF (dv qdj 1)) UD qnN h (by kernel_rfl) (by kernel_rfl) (by kernel_rfl) (by kernel_rfl) (by kernel_rfl) (by kernel_rfl) (by decide) (.inl ⟨rfl,nD l⟩)
abbrev qvo(l:V aa):az:=aR 18 [(2,sl cS l)] [] [((2,0),eS)]
def qtY(l:V aa):dz Pg GE 0 (.seq qqu .ret) (EX .ret (qvo l)) (fJ 18 3 l eS):=by have z:=eF .ret (qvo l);exact fU (A:=[17]) mixed z (by kernel_rfl)
def qqv:Pg.underlying 84=O (.map 9 4):=by kernel_rfl
def RA(f:aa->List aa->Q (List aa)):∀(l s r:List aa),(∀k s a,f k s=O a->a=s++[k])->wy f l s=O r->r=s++l
 |[],s,r,_,h=>by simp[wy]at h;simp[h]
 |k::l,s,r,hf,h=>by simp only[wy]at h;let⟨a,b,c⟩:=L0 h;have:=RA f l a r hf c;rw[this,hf k s a b];simp
def Ga{m:V (aa×K)}{r:V aa}(h:lu m=O r):C Pg GE qwy [.mapr 0] [] [.map (bU PVal.bool m)] (sl cS r) [(0,eS)] [.map (bU PVal.bool m)]:=by
 rcases Hr h with⟨hl,h⟩|⟨_,h⟩;rotate_left;.cases h
 obtain rfl:=lf h;have ab:m.length<=bO:=by simpa using hl
 refine⟨call50,λΓ bs ow w vs hS=>calls_of_wp func50 (c:=qhW) rfl ?_⟩;obtain⟨v,rfl⟩:∃v,vs=#[v]:=vbN.1 hS.sz;have c9:VR Γ bs w (.mapr 0) v:=hS.tm 0 _ _ rfl rfl;obtain⟨z,rfl,br⟩:∃z,v=.map (O z)/\bs[0]? =O (O z):=by cases c9 with|mapr _ z hbm=>exact⟨z,rfl,hbm⟩
 let⟨_,a7,es,a,a2,ao,a9,a4⟩:=hS.bx 0 z _ br rfl;have c7:=run_range_map (P:=Pg) w 84 9 4 z es a qqv a2;have hB:zb GE Γ w:=hS.base;have hE:th GE 0 (wU GE Γ w):=hB.good
 have a1:∀(j:Nat)(x:MapEntry),es[j]? =O x->∃s u,m[j]? =O (s,u)/\x.key=.string ⟨s.toArray⟩:=λj x H=>by
  have hj:j<m.length:=by have:=(vh.1 H).1;rw[ao]at this;simpa[bU]using this
  let⟨A,_⟩:=a9 j (.str m[j].1) (.bool m[j].2) x (by simp[bU,hj]) H;refine⟨m[j].1,m[j].2,by simp[hj],?_⟩;generalize x.key=k at A;cases A;rfl
 have hk:∀y∈es.toList,y.key=.string ⟨(ki y).toArray⟩:=λy hy=>by let⟨j,hj⟩:=vbc.1 hy;let⟨s,u,_,F⟩:=a1 j y (by simpa using hj);unfold ki;rw[F]
 have a5:es.toList.map ki=m.map λe=>e.1:=by
  refine va2 λj=>?_;simp only[o8,vaK];cases hj:es[j]? with
  |none=>
   have A:m.length<=j:=by have:=vbL.1 hj;rw[ao]at this;simpa[bU]using this
   simp[A]
  |some x=>let⟨s,u,A,F⟩:=a1 j x hj;simp[A,ki,F]
 have hn:f50.ntmps=18:=by kernel_rfl
 refine(λ(cd:∀A0:Act,A0.tmps.size=18->A0.tmps[0]? =O (.map (O z))->A0.defers=[]->qhW.wp Pg _ A0 w)=>cd _ ?_ ?_ rfl) ?_;.rw[hn];simp
 .rw[hn];simp
 rintro⟨a0,d3⟩ z0 z1 z2;simp only at z0 z1 z2;subst z2;rw[qnv];have bg:(dv qk7 0).dst=O 2:=by kernel_rfl
 have bi:(dv qk8 0).dst=O 3:=by kernel_rfl
 have cg:(dv Zs 0).op=.move (.tmp 0):=by kernel_rfl
 have bl:(dv Zs 0).dst=O 5:=by kernel_rfl
 have ci:(dv Zs 1).op=.range 84 (.tmp 5):=by kernel_rfl
 have bn:(dv Zs 1).dst=O 6:=by kernel_rfl
 refine wp_seq (CX (da (o:=dv qk7 0) (by kernel_rfl) (by kernel_rfl) (v:=.slice N 0 0) (w':=w) (by kernel_rfl) ?_));rw[bg,zR];show Code.wp Pg _ _ _ w;refine wp_seq (CX (da (o:=dv qk8 0) (by kernel_rfl) (by kernel_rfl) (v:=.slice N 0 0) (w':=w) (by kernel_rfl) ?_));rw[bi,zR];show Code.wp Pg _ _ _ w;refine wp_seq (wp_seq (CX (da (o:=dv Zs 0) (by kernel_rfl) (by kernel_rfl) (v:=.map (O z)) (w':=w) ?_ ?_)));.have:(Act.mk ((a0.setIfInBounds 2 (.slice N 0 0)).setIfInBounds 3 (.slice N 0 0)) []).eval (.tmp 0)=.map (O z):=bu (by simp only[vba];exact z1);simp[execOp,cg,this]
 rw[bl,zR];refine da (o:=dv Zs 1) (by kernel_rfl) (by kernel_rfl) (v:=JM w.heap.size) (w':=w.alloc (.mapIter (O z) a #[] a)) ?_ ?_;.have:(Act.mk (((a0.setIfInBounds 2 (.slice N 0 0)).setIfInBounds 3 (.slice N 0 0)).setIfInBounds 5 (.map (O z))) []).eval (.tmp 5)=.map (O z):=Gb (by simp;omega);simp[execOp,ci,this,c7]
 rw[bn,zR];generalize R:(((a0.setIfInBounds 2 (.slice N 0 0)).setIfInBounds 3 (.slice N 0 0)).setIfInBounds 5 (.map (O z))).setIfInBounds 6 (JM w.heap.size)=A1;have y0:A1.size=18:=by rw[<-R];simp[z0]
 have y3:A1[3]? =O (.slice N 0 0):=by rw[<-R];simp[vba,z0]
 have y6:A1[6]? =O (JM w.heap.size):=by rw[<-R];simp[z0]
 clear R;have h0:SR Pg (wU GE Γ w) Γ [] (λ_=>N) w A1 ⟨(dS (.val (JM w.heap.size)) []).tmps,[],[]⟩:=by
  refine hB.fresh 0 y0 λt p v hp hv=>?_;by_cases h3:t=3;.subst h3;rw[y3]at hv;cases hp;cases hv;exact .sliceNil
  .by_cases h6:t=6;.subst h6;rw[y6]at hv;cases hp;cases hv;exact .val _
   .have:p=.undef:=by
     have ht:t<18:=aq hp
     clear hv
     rcases(show t=0\/t=1\/t=2\/t=4\/t=5\/t=7\/t=8\/t=9\/t=10\/t=11\/t=12\/t=13\/t=14\/t=15\/t=16\/t=17 by omega)with h|h|h|h|h|h|h|h|h|h|h|h|h|h|h|h<;>subst h<;>cases hp<;>rfl
    rw[this]
    exact .undef v
 have A:SR Pg (wU GE Γ w) Γ [] (λ_=>N) w A1 (dS (.val (JM w.heap.size)) []):={h0 with
  ot:=λt k e he=>by simp[dS]at he;obtain⟨⟨rfl,rfl⟩,rfl⟩:=he;exact⟨_,_,y3,rfl,⟨0,[],World.ownsRow_nil _ _ _ _,λb hb=>by simp[Value.ownBlock]at hb⟩,λb hb=>by simp[Value.ownBlock]at hb⟩
  ob:=λi j e cs own b hB=>by simp[dS]at hB}
 let⟨F,d0⟩:=A.allocO (.mapIter (O z) a #[] a);have an:∀b,¬aV [] (λ_=>(N:Q kg)) b:=λb hb=>hb.elim (λ⟨i,hi⟩=>by simp at hi) (λH=>H rfl);have c2:Y0 (λk (s:V aa)=>if s.length<bO then O (s++[k])else N) (es.toList.map ki) []:=λl k ⟨r,hr⟩ s' hs=>by have A:=RA _ l [] s' (λk s s' h=>by split at h<;>simp at h;exact h.symm) hs;have F:=hr.length_eq;rw[a5]at F;simp at A F;subst A;exact⟨_,l7 (by omega)⟩
 have c6:=Wu (P:=Pg) (E:=wU GE Γ w) (ro:=N) (ti:=6) (d1:=7) (d2:=8) (e1:=9) (e2:=10) (S:=λl=>dS (.val (JM w.heap.size)) l) (s0:=[]) (mB:=1000) (kx:=4) (ds:=[]) (i3:=Rd qf3) (i4:=Rd qbi) (b0:=0) (b1:=1) (o10:=dv qf3 0) (o11:=dv qf3 1) (o12:=dv qbi 0) (o13:=dv qbi 1) (o4:=dv qbi 2) (c5:=qnR)
  (World.alloc_heap_new w _) ((alloc_old w _ a7).trans a2) a4 (l8 _) (an _) (an _) (by omega) F (by decide) (l8 _) hk (λs=>rfl) (λs=>⟨rfl,rfl,vaL rfl⟩) (λs=>⟨rfl,rfl,vaL rfl⟩) (λs=>⟨rfl,rfl,vaL rfl⟩) (λs=>⟨rfl,rfl,vaL rfl⟩) (λs=>rfl) (by decide) c2
  (λs k s' hs=>by
   split at hs<;>simp at hs;subst hs;exact qtW _ s k (by omega))
  (by kernel_rfl) (by kernel_rfl) (by kernel_rfl) (by kernel_rfl) (by kernel_rfl) (by kernel_rfl) (by kernel_rfl) (by kernel_rfl) (by kernel_rfl) (by kernel_rfl) (by kernel_rfl) (by kernel_rfl) (by kernel_rfl) (by kernel_rfl) (by kernel_rfl)
 show Code.wp Pg _ _ _ _;refine wp_block (wp_mono c6 λq A2 w2 hq=>?_);obtain⟨rfl,bt,l,s,b5,bb,b3,B,c3,X,_,d4,_,_⟩:=hq;have ad:=RA _ l [] s (λk s s' h=>by split at h<;>simp at h;exact h.symm) c3;simp at ad;subst ad;show Code.wp Pg _ _ A2 w2;obtain rfl:bb=[]:=IO X.bl;have X:SR Pg (wU GE Γ w) b5 [] b3 w2 A2.tmps (fJ 18 3 s eS):=X.forgetT (tm:=(fJ 18 3 s eS).tmps) rfl;have c8:s.length<=bO:=by rw[B.length_eq,a5];simpa using ab
 have ar:=qtX s c8 N (wU GE Γ w) [] A2 w2 hE rfl ⟨b5,[],b3,X,λi hi=>absurd hi (w0 _)⟩;refine wp_seq (wp_mono ar λq A3 w3 hq=>?_);obtain⟨c0,d5,⟨cv,bc,cn,bq,_⟩,rfl,rfl⟩:=hq;show Code.wp Pg _ _ A3 w3;have b2:=qtY (nW s) N (wU GE Γ w) [] A3 w3 hE rfl ⟨cv,bc,cn,bq,λi hi=>absurd hi (w0 _)⟩;refine wp_mono b2 λq A4 w4 hq=>?_;obtain⟨c1,d6,⟨b7,be,b4,a3,_⟩,rfl,rfl⟩:=hq;have a6:nW s=uK (m.map λe=>e.1):=by rw[<-P3];refine CH (jf _) (jf _) (((gd _).trans ?_).trans (gd _).symm);rw[<-a5];exact B
 rw[a6]at a3;let⟨vr,e1,e2,e3⟩:=p7 a3 (fn:=f50) (r:=sl cS (uK (m.map λe=>e.1))) (by kernel_rfl)
 have hf:=a3.finish (H':=[]) (src:=dX f50.results.toList) (ro:=[(0,eS)]) e2 (cw J3 _) trivial (λx H=>by
  simp only[va1]at H;subst H;exact⟨va1.2 rfl,λu v'=>e3 0 u v' hV⟩) (λx H y hy _=>by
  simp only[va1]at H hy;rw[H,hy])
 have a8:be.take (List.length ([]:V ay))=[]:=by simp
 rw[a8]at hf;refine⟨((c1.trans c0).trans bt:A4.defers=[]),vr,e1,vr,b7,Tb 0 (B3 (dX f50.results.toList) [(0,eS)] b4) ow,rfl,?_⟩;have hT:∀b,¬(wU GE Γ w).T b:=λb hb=>hb;have hw:=hS.aside hf;have hr:VR b7 bs w4 (sl cS (uK (m.map λe=>e.1))) vr:=e2.clo (cw J3 _);have:=hw.setResult (d:=0) (ro:=[(0,eS)]) (by simp) hr (owC:=B3 (dX f50.results.toList) [(0,eS)] b4) (λk e hm=>?_) (λb t k hb=>?_);.exact this
 .let⟨u,v',A,F,h3,h4⟩:=hf.ot 0 k e (l9.2 ⟨(k,e),hm,rfl⟩);simp at A;subst A;exact⟨v',F,h3,h4⟩
 .let⟨k1,k2⟩:=hf.on b _ hb;have c4:w.heap.size<=b:=k2.resolve_left (hT b);refine⟨?_,k1,.inr (m0 hS.step.size c4)⟩;cases hL:ow b with|none=>rfl|some L=>have:=(hS.on b L hL).1;omega
def qi5(a b:V (aa×K)):Q (V (aa×K)):=O ((a.map (·.1)).foldl AR b)
def X4:∀(l:List aa)(s:List (aa×K)),wy (λk s=>O (AR s k)) l s=O (l.foldl AR s)
 |[],s=>rfl
 |k::l,s=>by simp only[wy,eJ];exact X4 l (AR s k)
noncomputable def qwt:W:=f29.body.getD .skip
abbrev qoT:W:=aE qwt [T,T,T,T,Z]
abbrev qoS:W:=aE qoT [Z]
abbrev qoU:W:=aE qoT [T,Z,Z,Z]
abbrev qmp:W:=aE qoT [T,Z,Z,T,T,Z,Z]
abbrev qnL:W:=aE qoT [T,Z,Z,T,T,Z,T]
def qnM:qoT=.seq (.region (qaI qoS) (kP qoS) Z) (.block 4 (.loop (.seq (.region (qaI qoU) #[JO qoU 0,JO qoU 1] Z) (.seq (.cond (.tmp 74) .skip (.exit 4)) (.block 5 (.seq (.region (qaI qmp) #[JO qmp 0,JO qmp 1,JO qmp 2] Z) qnL)))))):=by kernel_rfl
abbrev qmr(a iv:U)(B:ay)(x:V (aa×K)):az:=aR 83 [(6,a),(7,.mapr 2),(72,iv)] [.dead,B,.map (bU PVal.bool x)] []
abbrev qvm(a x:V (aa×K)):az:=aR 83 [(6,.mapr 1),(7,.mapr 2),(71,.mapr 1)] [.dead,.map (bU PVal.bool a),.map (bU PVal.bool x)] []
def qmq:Pg.underlying 84=O (.map 9 4):=by kernel_rfl
def qqq:Pg.underlying 9=O .string:=by kernel_rfl
def qog{i n:Nat}:∀{l:List (Nat×U)}{k:Nat},(∀x∈l,x.2.no i)->Yr i (tm n k l)
 |[],k,_=>by unfold tm;generalize n - k=j;induction j with|zero=>trivial|succ j a=>rw[List.replicate_succ];exact⟨hV,a⟩
 |x::l,k,h=>by have a:=qog (i:=i) (n:=n) (l:=l) (k:=x.1+1) λy c=>h y (vaQ _ c);unfold tm;have b:=h x (by simp);generalize x.1 - k=j;induction j with|zero=>exact⟨b,a⟩|succ j ihj=>rw[List.replicate_succ,vaT];exact⟨hV,ihj⟩
def qk2(iv a:D)(s:V (aa×K))(k:aa):dz Pg GE 1003 qnL (EX .normal (qmr (.val a) (.val iv) .dead (AR s k))) {qmr (.val a) (.val iv) .dead s with tmps:=(qmr (.val a) (.val iv) .dead s).tmps.set 16 (.str k)}:=by
 refine qec (A:=[]) (g:=PVal.bool) (s:=s) (k:=k) (i:=2) (tM:=77) (tK:=78) (i2:=qaI qnL) (ops:=kP qnL) (L:=(kP qnL).toList.take 2) (oD:=JO qnL 2) (T:=84) (kt:=9) (et:=4) (tys:=#[84,9])
  (st1:=aR 83 [(6,.val a),(7,.mapr 2),(72,.val iv),(77,.mapr 2),(78,.str k)] [.dead,.dead,.map (bU PVal.bool s)] []) (by kernel_rfl) (by kernel_rfl) (by kernel_rfl) (by kernel_rfl) (by kernel_rfl) (by kernel_rfl) (by kernel_rfl) (by kernel_rfl) (by kernel_rfl) qmq qqq ?_ rfl rfl rfl ?_
 .have z:=en (fr (aR 83 [(6,.val a),(7,.mapr 2),(72,.val iv),(77,.mapr 2),(78,.str k)] [.dead,.dead,.map (bU PVal.bool s)] []));exact Lm z (by kernel_rfl)
 .exact⟨rfl,rfl,rfl⟩
def qic{a b y:V (aa×Bool)}(h:qi5 a b=O y):dz Pg GE 0 qoT (EX .normal (qmr (.mapr 1) .undef (.map (bU PVal.bool a)) y)) (qmr (.mapr 1) .undef (.map (bU PVal.bool a)) b):=by
 have w:=YE (P:=Pg) (GE:=GE) (m:=0) (f:=λk s=>O (AR s k)) (S:=λiv o s=>qmr o iv .dead s) (F:=λs=>qmr (.mapr 1) .undef (.map (bU PVal.bool a)) s) (s0:=b) (st0:=qmr (.mapr 1) .undef (.map (bU PVal.bool a)) b) (st1:=qvm a b) (g:=PVal.bool) (ma:=a) (A:=[])
  (ops:=kP qoS) (L:=(kP qoS).toList.take 1) (oR:=JO qoS 1) (K:=[6]) (i:=1) (tR:=71) (ti:=72) (d1:=73) (d2:=74) (e1:=75) (e2:=76) (kx:=16) (i2:=qaI qoS) (i3:=qaI qoU) (i4:=qaI qmp) (b0:=4) (b1:=5) (T:=84) (kt:=9) (et:=4) (c5:=qnL) (o10:=JO qoU 0) (o11:=JO qoU 1) (o12:=JO qmp 0) (o13:=JO qmp 1) (o4:=JO qmp 2)
  qnM (by kernel_rfl) (by kernel_rfl) (by kernel_rfl) (by kernel_rfl) (by kernel_rfl) (by kernel_rfl) (by kernel_rfl) (by kernel_rfl) qmq (Lm (en (fr (qvm a b))) (by kernel_rfl)) rfl rfl (λt q=>by simp at q;subst q;rfl)
  (λp r=>(qog (i:=1) (n:=83) (l:=[(6,p),(7,.mapr 2)]) (k:=0) λx d=>by
   simp at d;rcases d with rfl|rfl;.exact r
   .simp[PVal.no]))
  (λj B H c=>by
   match j,c with
   |0,c=>cases c;trivial
   |1,c=>exact absurd rfl H
   |2,c=>cases c;intro x d;obtain⟨y,_,rfl⟩:=l9.1 d;exact⟨hV,hV⟩
   |j+3,c=>cases c)
  (λx=>trivial) ⟨rfl,rfl,vaL rfl⟩ (λiv o=>rfl)
  (λiv o s=>⟨rfl,rfl,⟨rfl,rfl,vaL rfl⟩,⟨rfl,rfl,vaL rfl⟩,⟨rfl,rfl,vaL rfl⟩,⟨rfl,rfl,vaL rfl⟩,rfl,λt q=>by simp at q;subst q;rfl⟩)
  (λiv o s=>⟨rfl,rfl,rfl⟩) (by decide) (vaL rfl) (vaL rfl) (λl k _ R _=>⟨_,rfl⟩) (λiv o s k R w=>by cases w;exact qk2 iv o s k)
  (by kernel_rfl) (by kernel_rfl) (by kernel_rfl) (by kernel_rfl) (by kernel_rfl) (by kernel_rfl) (by kernel_rfl) (by kernel_rfl) (by kernel_rfl) (by kernel_rfl) (by kernel_rfl) (by kernel_rfl) (by kernel_rfl) (by kernel_rfl) (by kernel_rfl)
 refine w.imp λe X d=>?_;obtain⟨rfl,l,s,r,E,rfl⟩:=d;refine⟨rfl,?_⟩;rw[X4]at E;cases E;cases h;rw[r.foldl_eq' (λx _ y _ z=>Ym x y z)]
def qku(m:am)(a k:aa):K:=k !=a&&(((fc m k).map λr=>(oe r a).getD Z).getD Z)
def nf(m:am)(a:aa):Q (V aa):=(fc m a).bind λR=>if((R.all λe=>!(e.1 !=a)||(fc m e.1).isSome)&&Y (R.length+1<=bO))then O (uK (a::(R.map λe=>e.1).filter (qku m a)))else N
abbrev qwz:Nat:=48
noncomputable def qnw:W:=f48.body.getD .skip
abbrev qqx:W:=aE qnw [Z]
abbrev qqy:W:=aE qnw [T,Z]
abbrev qnU:W:=aE qnw [T,T,Z]
abbrev qoY:W:=aE qnU [Z]
abbrev qoZ:W:=aE qnU [T,Z,Z,Z]
abbrev qmy:W:=aE qnU [T,Z,Z,T,T,Z,Z]
abbrev qt3:W:=aE qnU [T,Z,Z,T,T,Z,T]
abbrev qdv:W:=aE qnw [T,T,T,Z]
abbrev qnX:W:=aE qnw [T,T,T,T,Z]
def qnx:qnw=.seq qqx (.seq qqy (.seq qnU (.seq (.region (Rd qdv) #[dv qdv 0,dv qdv 1] Z) (.seq qnX .ret)))):=by kernel_rfl
def qnV:qnU=.seq (.region (qaI qoY) (kP qoY) Z) (.block 0 (.loop (.seq (.region (qaI qoZ) #[JO qoZ 0,JO qoZ 1] Z) (.seq (.cond (.tmp 14) .skip (.exit 0)) (.block 1 (.seq (.region (qaI qmy) #[JO qmy 0,JO qmy 1,JO qmy 2] Z) qt3)))))):=by kernel_rfl
def qqA:Pg.underlying 84=O (.map 9 4):=by kernel_rfl
abbrev qqz(m:am)(a:aa)(iv:U)(l:V aa):az:=aR 34 [(1,.str a),(2,.eptr (au m)),(5,sl cS l),(12,iv)] [.dead,.dead,.dead] [((5,0),eS)]
abbrev qvx(m:am)(a:aa)(R:V (aa×K))(l:V aa):az:=aR 34 [(1,.str a),(2,.eptr (au m)),(5,sl cS l)] [.dead,.dead,.map (bU PVal.bool R)] [((5,0),eS)]
abbrev qt2(m:am)(a:aa):az:=aR 34 [(1,.str a),(2,.eptr (au m))] [.dead] []
abbrev qrE(m:am)(a:aa):az:=aR 34 [(1,.str a),(2,.eptr (au m)),(5,sl cS [a])] [.dead] [((5,0),eS)]
abbrev qvw(m:am)(a:aa)(R:V (aa×K)):az:=aR 34 [(1,.str a),(2,.eptr (au m)),(5,sl cS [a]),(11,.mapr 2)] [.dead,.dead,.map (bU PVal.bool R)] [((5,0),eS)]
def qnW(m:am)(a k:aa)(l:V aa):Q (V aa):=if(k !=a)then(fc m k).bind λr=>if((oe r a).getD Z)then app l [k]else O l else O l
def qt4(m:am)(a:aa):dz Pg GE 0 qqx (EX .normal (qt2 m a)) (aR 34 [(0,.agg (au m)),(1,.str a)] [] []):=by have z:=se (ew m)<|eF .normal (qt2 m a);exact fU (A:=[]) mixed z (by kernel_rfl)
def qt5(m:am)(a:aa):dz Pg GE 0 qqy (EX .normal (qrE m a)) (qt2 m a):=by have z:=sv (cT.mk' (v:=PVal.str) qon ([a]:V aa) 1 (by kernel_rfl))<|eF .normal (qrE m a);exact fU (A:=[]) mixed z (by kernel_rfl)
def qlh(m:am)(a:aa)(iv:D)(s d:V aa)(k:aa)(h:qnW m a k s=O d):dz Pg GE 1003 qt3 (EX .normal (qqz m a (.val iv) d)) {qqz m a (.val iv) s with tmps:=(qqz m a (.val iv) s).tmps.set 6 (.str k)}:=by
 have fin:=λl=>qvp 1003 .normal (qqz m a (.val iv) l) rfl (I6 (aI hV (aI (Ro (jI m)) (aI (up (cw J3 l)) (aI hV hV))))) (aI hV (aI hV (aI hV hV)));unfold qnW at h;rcases Hr h with⟨b,h⟩|⟨b,h⟩
 .let⟨r,e,h⟩:=L0 h;rcases Hr h with⟨c,h⟩|⟨c,h⟩
  .have z:=sg 4 b<|sv (bM m)<|si (.cn ⟨[3,4],[],[],[],[],[.dead,.map (bU PVal.bool r)],[.dead,.map (bU PVal.bool r)],.mapr 4,.mapr 1,[]⟩) (zl r e)<|sf (aI (jI m) (aI hV hV))<|sf (aI hV (aI (aI (rM (bU PVal.bool r)) (qnF (n:=0) PVal.bool (λx=>trivial) r)) trivial))<|sf (xM [3,4] 1 4 rfl)<|
    sv (RO (f:=PVal.bool) underlying84 underlying9 qo6 r a)<|sg 0 c<|sv (cT.mk' (v:=PVal.str) qon ([k]:V aa) 1 (by kernel_rfl))<|sv (cT.ap h)<|fin d
   exact Ux (A:=[27]) mixed z (by kernel_rfl)
  .obtain rfl:=lf h
   have z:=sg 4 b<|sv (bM m)<|si (.cn ⟨[3,4],[],[],[],[],[.dead,.map (bU PVal.bool r)],[.dead,.map (bU PVal.bool r)],.mapr 4,.mapr 1,[]⟩) (zl r e)<|sf (aI (jI m) (aI hV hV))<|sf (aI hV (aI (aI (rM (bU PVal.bool r)) (qnF (n:=0) PVal.bool (λx=>trivial) r)) trivial))<|sf (xM [3,4] 1 4 rfl)<|
    sv (RO (f:=PVal.bool) underlying84 underlying9 qo6 r a)<|sg 0 c<|fin s
   exact Ux (A:=[27]) mixed z (by kernel_rfl)
 .obtain rfl:=lf h;have z:=sg 4 b<|sg 0 (show(Z:K)=Z from rfl)<|fin s;exact Ux (A:=[27]) mixed z (by kernel_rfl)
def HV{f:aa->List aa->Q (List aa)}{p:aa->K}(b:∀k s a,f k s=O a->a=s++[k].filter p):∀(l s r:List aa),wy f l s=O r->r=s++l.filter p
 |[],s,r,h=>by simp[wy]at h;simp[h]
 |k::l,s,r,h=>by simp only[wy]at h;let⟨a,c,d⟩:=L0 h;have:=HV b l a r d;rw[this,b k s a c,va6,<-vb6];rfl
def qix{m:am}{a k:aa}{s e:V aa}(h:qnW m a k s=O e):e=s++[k].filter (qku m a):=by
 unfold qnW at h;rcases Hr h with⟨b,h⟩|⟨b,h⟩
 .let⟨r,d,h⟩:=L0 h;rcases Hr h with⟨c,h⟩|⟨c,h⟩
  .unfold app at h;split at h;.cases h;simp[qku,b,d,c]
   .cases h
  .obtain rfl:=lf h;simp[qku,d,c]
 .obtain rfl:=lf h;simp[qku,b]
def qt8{m:am}{a:aa}{R:V (aa×Bool)}(hR:fc m a=O R)(c:∀e∈R,(e.1 !=a)=true->∃r,fc m e.1=O r)(a1:R.length+1<=bO):dz Pg GE 0 qnU (λe a0=>e=.normal/\∃(l s:V aa),l.Perm (R.map (·.1))/\wy (qnW m a) l [a]=O s/\a0=qvx m a R s) (qrE m a):=by
 refine YE (P:=Pg) (GE:=GE) (m:=0) (f:=qnW m a) (S:=λiv o s=>qqz m a iv s) (F:=λs=>qvx m a R s) (s0:=[a]) (st0:=qrE m a) (st1:=qvw m a R) (g:=PVal.bool) (ma:=R) (A:=[])
  (ops:=kP qoY) (L:=(kP qoY).toList.take 3) (oR:=JO qoY 3) (K:=[]) (i:=2) (tR:=11) (ti:=12) (d1:=13) (d2:=14) (e1:=15) (e2:=16) (kx:=6) (i2:=qaI qoY) (i3:=qaI qoZ) (i4:=qaI qmy) (b0:=0) (b1:=1) (T:=84) (kt:=9) (et:=4) (c5:=qt3) (o10:=JO qoZ 0) (o11:=JO qoZ 1) (o12:=JO qmy 0) (o13:=JO qmy 1) (o4:=JO qmy 2)
  qnV (by kernel_rfl) (by kernel_rfl) (by kernel_rfl) (by kernel_rfl) (by kernel_rfl) (by kernel_rfl) (by kernel_rfl) (by kernel_rfl) qqA ?_ rfl rfl (λt X=>by simp at X)
  (λp E=>qog (i:=2) (n:=34) (l:=[(1,.str a),(2,.eptr (au m)),(5,sl cS [a])]) (k:=0) λx hx=>by
   simp at hx;rcases hx with rfl|rfl|rfl;.exact Ld 2 _ hV
   .exact Ld 2 _ (show ie 0 (au m)from jI m)
   .exact Ld 2 _ (cw J3 _))
  (λj B hj b=>by
   match j,b with
   |0,b=>cases b;trivial
   |1,b=>cases b;trivial
   |2,b=>exact absurd rfl hj
   |j+3,b=>cases b)
  (λx=>trivial) ⟨rfl,rfl,vaL rfl⟩ (λiv o=>rfl)
  (λiv o s=>⟨rfl,rfl,⟨rfl,rfl,vaL rfl⟩,⟨rfl,rfl,vaL rfl⟩,⟨rfl,rfl,vaL rfl⟩,⟨rfl,rfl,vaL rfl⟩,rfl,λt X=>by simp at X⟩)
  (λiv o s=>⟨rfl,rfl,rfl⟩) (by decide) (vaL rfl) (vaL rfl) (λl k y s H=>?_) (λiv o s k s' H=>qlh m a iv s s' k H)
  (by kernel_rfl) (by kernel_rfl) (by kernel_rfl) (by kernel_rfl) (by kernel_rfl) (by kernel_rfl) (by kernel_rfl) (by kernel_rfl) (by kernel_rfl) (by kernel_rfl) (by kernel_rfl) (by kernel_rfl) (by kernel_rfl) (by kernel_rfl) (by kernel_rfl)
 .have z:=sv (bM m)<|si (.cn ⟨[1,2],[],[],[],[],[.dead,.map (bU PVal.bool R)],[.dead,.map (bU PVal.bool R)],.mapr 2,.mapr 1,[]⟩) (zl R hR)<|sf (aI (jI m) (aI hV hV))<|sf (aI hV (aI (aI (rM (bU PVal.bool R)) (qnF (n:=0) PVal.bool (λx=>trivial) R)) trivial))<|sf (xM [1,2] 1 2 rfl)<|en (fr (qvw m a R));exact Lm z (by kernel_rfl)
 .let⟨r,E⟩:=y;have h1:=HV (λk s s' h=>qix h) l [a] s H;have h2:=E.length_eq;have h3:s.length<=1+l.length:=by have h9:=va8 (qku m a) l;rw[h1];simp;omega
  have d:k∈R.map (·.1):=E.subset (by simp);obtain⟨e,he,rfl⟩:=l9.1 d;simp at h2;unfold qnW;by_cases w:(e.1 !=a)=true
  .let⟨q,hq⟩:=c e he w;rw[l7 w,hq];by_cases c2:((oe q a).getD Z)=true;.exact⟨s++[e.1],by simp only[eJ];rw[l7 c2];unfold app;rw[l7 (by simp;omega)]⟩
   .exact⟨s,by simp only[eJ];rw[hG c2]⟩
  .exact⟨s,by rw[hG w]⟩
def qt6(l:V aa)(h:l.length<=bO):dz Pg GE 0 (.region (Rd qdv) #[dv qdv 0,dv qdv 1] Z) (EX .normal (fJ 34 5 (nW l) eS)) (fJ 34 5 l eS):=
 dz.inplace (t:=5) (d1:=31) (d2:=32) (tys:=XF (dv qdv 1)) UD qnN h (by kernel_rfl) (by kernel_rfl) (by kernel_rfl) (by kernel_rfl) (by kernel_rfl) (by kernel_rfl) (by decide) (.inl ⟨rfl,nD l⟩)
def qt7(l:V aa):dz Pg GE 0 (.seq qnX .ret) (qfm Pg f48.results.toList (sl cS l) [(0,eS)]) (fJ 34 5 l eS):=by
 have z:PS [] ((sl cS l=sl cS l/\(sl cS l).cl 0)):=⟨rfl,cw J3 l⟩
 refine(jB (A:=[33]) mixed (.seq qnX .ret) [] (fJ 34 5 l eS) (FR Pg f48.results.toList (sl cS l) [(0,eS)]) (Eq.mp (by kernel_rfl) z)).imp λe c a=>?_;let⟨b,a⟩:=a;exact a.to
def TR{m:am}{a:aa}{r:V aa}(h:nf m a=O r):CC Pg GE qwz [.agg (au m),.str a] (sl cS r) [(0,eS)]:=by
 let⟨R,z,h⟩:=L0 h;rcases Hr h with⟨o,h⟩|⟨_,h⟩;rotate_left;.cases h
 obtain rfl:=lf h;rw[ne,oy,vaE]at o;let⟨o,x⟩:=o;have i:∀e∈R,(e.1 !=a)=T->∃r,fc m e.1=O r:=λe A E=>by have:=o e A;rw[E]at this;exact vaS.1 (by simpa using this)
 refine⟨aI (jI m) (aI hV hV),C.ofSat call48 func48 (c:=qnw) rfl ?_⟩;rw[qnx];refine dz.seq ((qt4 m a).imp λe q d=>?_);obtain⟨rfl,rfl⟩:=d;refine dz.seq ((qt5 m a).imp λe q d=>?_);obtain⟨rfl,rfl⟩:=d;refine dz.seq ((qt8 z i x).imp λe q d=>?_);obtain⟨rfl,l,s,t,B,rfl⟩:=d;have w:=HV (λk s H h=>qix h) l [a] s B;have p:s.length<=bO:=by have y:=t.length_eq;have F:(l.filter (qku m a)).length<=l.length:=va8 _ _;rw[w];simp at y ⊢;omega
 refine dz.weak (st':=fJ 34 5 s eS) (qrt.weak ⟨rfl,rfl,rfl,rfl,(show ie 0 (tm 34 0 [(5,sl cS s)])from I6 (aI (up (cw J3 s)) trivial)),hV⟩) ?_;refine dz.seq ((qt6 s p).imp λe q d=>?_);obtain⟨rfl,rfl⟩:=d;have b:nW s=uK (a::(R.map λe=>e.1).filter (qku m a)):=by rw[<-P3];refine CH (jf _) (jf _) (((gd _).trans ?_).trans (gd _).symm);rw[w];exact List.Perm.cons a (t.filter _)
 rw[b];exact qt7 _
set_option linter.defProp false
noncomputable def qtJ:W:=f29.body.getD .skip
def qsI:ZF Pg [27,34,66] 29 f29 qtJ:=zf call29 func29 rfl mixed
section
variable(m:am)(c:waA)(d:Int)(h:V (aa×K))(a:waA)(b:Int)(e:V (aa×K))
def wZ:az:=aR 83 [(2,.eptr (au m)),(6,.mapr 1),(7,.mapr 2),(8,sl cS a),(50,sl cS c),(51,.i6 d),(52,.i6 b)] [.dead,.map (bU PVal.bool h),.map (bU PVal.bool e),.dead] [((50,0),9),((8,1),9)]
def F8(o:waA×(V (aa×K))):az:=aR 83 [(2,.eptr (au m)),(6,.mapr 1),(7,.mapr 2),(8,sl cS o.1)] [.dead,.map (bU PVal.bool h),.map (bU PVal.bool o.2),.dead] [((8,1),9)]
instance qyH:KS 0 (wZ m c d h a b e):=ks 4 rfl
instance qyC{o:(waA×(List (aa×Bool)))}:KS 0 (F8 m h o):=ks 4 rfl
def gK:Q ((waA×Int×(V (aa×K)))⊕((waA×(V (aa×K))))):=if Y (b<d)then (cJ c b).bind λi=>(dM m i).bind λp=>if p.1.Typed then O (.inl (a,dc (b+1),mq e i T)) else (app a ([i]:V aa)).bind λo=>O (.inl (o,dc (b+1),e)) else O (.inr (a,e))
def BX:Q ((waA×(V (aa×K)))):=loop (λ(i:waA×Int×(V (aa×K)))=>gK m c d i.1 i.2.1 i.2.2) (a,b,e)
def N6:OL 0 (cA qtJ 507903) (gK m c d a b e) (λ(t:waA×Int×(V (aa×K)))=>wZ m c d h t.1 t.2.1 t.2.2) (λ_=>.exit 2) (F8 m h) (wZ m c d h a b e):=qsI.lx<|tF (tb λi q=>tb λs p=>tv (cT.ia q)<|tv (cX OR (.str i) [])<|tv (bM m)<|cP (fa _ p)<|tx Dl<|tx (eW s.1)<|ts<|tF (qo4 (RP (f:=PVal.bool) underlying84 underlying9 e i T)<|tE)<|tb λr o=>tv (bG [i] 1 rfl)<|ti (.z [sl cS r]) (cT.ap o)<|tE)<|tE
def PM:=ug (s:=(a,b,e)) λi=>N6 m c d h i.1 i.2.1 i.2.2
end
section
variable(m:am)(a:waA)(b c:V (aa×K))
def wY:az:=aR 83 [(2,.eptr (au m)),(6,.mapr 1),(7,.mapr 2),(8,sl cS a)] [.dead,.map (bU PVal.bool b),.map (bU PVal.bool c)] [((8,1),9)]
def F7(o:(V (aa×K))×(V (aa×K))):az:=aR 83 [(6,.mapr 1),(7,.mapr 2)] [.dead,.map (bU PVal.bool o.1),.map (bU PVal.bool o.2)] []
instance qyG:KS 0 (wY m a b c):=ks 3 rfl
instance qyB{o:((List (aa×Bool))×(List (aa×Bool)))}:KS 0 (F7 o):=ks 3 rfl
def ml:Q ((waA×(V (aa×K))×(V (aa×K)))⊕(((V (aa×K))×(V (aa×K))))):=if Y ((a.length:Int)>0)then (cJ a 0).bind λe=>(SB a (O 1) N).bind λh=>if((oe b e).getD Z)then O (.inl (h,b,c)) else (nf m e).bind λq=>(app h q).bind λi=>(dM m e).bind λo=>if(o.1.Mode==1)then O (.inl (i,mq b e T,c)) else (gr m o.1).bind λp=>(BX m p (p.length:Int) i 0 c).bind λd=>O (.inl (d.1,(mq b e T),d.2)) else O (.inr (b,c))
def BW:Q (((V (aa×K))×(V (aa×K)))):=loop (λ(d:waA×(V (aa×K))×(V (aa×K)))=>ml m d.1 d.2.1 d.2.2) (a,b,c)
def N5:OL 0 (cA qtJ 123) (ml m a b c) (λ(t:waA×(V (aa×K))×(V (aa×K)))=>wY m t.1 t.2.1 t.2.2) (λ_=>.exit 0) F7 (wY m a b c):=qsI.lx<|ca (cT.ln a)<|tF (tb λe r=>tb λy h=>tv (cT.ia r)<|tv (cX OR (.str e) [])<|ti (.z [sl cS y]) (cT.sc h)<|tv (RO (f:=PVal.bool) underlying84 underlying9 qo6 b e)<|tF tE<|tb λB o=>tb λw i=>tb λx p=>qo4 (RP (f:=PVal.bool) underlying84 underlying9 b e T)<|tv (bM m)<|cP (TR o)<|ti (.z [sl cS w]) (cT.ap i)<|tv (bM m)<|cP (fa _ p)<|tx Dl<|tx (eW x.1)<|ts<|tF tE<|tb λs q=>tb λA d=>tv (bM m)<|tv (rA x.1 [])<|cP (BY _ q)<|ca (cT.ln s)<|cM (PM m s (s.length:Int) (mq b e T) w 0 c _ d)<|tE)<|tE
def PL:=ug (s:=(a,b,c)) λd=>N5 m d.1 d.2.1 d.2.2
end
def mQ(m:am)(b:aa):Q (waA×waA):=(BW m ([b]:V aa) ([]:V (aa×K)) ([]:V (aa×K))).bind λa=>(qi5 a.1 a.2).bind λc=>(lu a.1).bind λd=>(lu c).bind λe=>O (d,e)
def KU{m:am}{a:aa}:OV 29 [.agg (au m),.str a] (mQ m a) (λr=>.tuple [sl cS r.1,sl cS r.2]) [(0,9),(1,9)]:=qsI.v<|tb λi c=>tb λh b=>tb λo d=>tb λp e=>te (ew m)<|tv (bG [a] 1 rfl)<|FD (.sh 8 1 9)<|cM (PL m ([a]:V aa) ([]:V (aa×K)) ([]:V (aa×K)) _ c)<|jC 0<|cM (qic b)<|tc [1] (Ga d)<|tc [2] (Ga e)<|tE
noncomputable def qsT:W:=f14.body.getD .skip
def qrU:ZF Pg [] 14 f14 qsT:=zf call14 func14 rfl mixed
section
variable(m:aa)(A:waA)(B:Int)(E:aa)(F:Int)(H:waD)(L:waF)(P:rf)(R:md)(a:Int)(b:K)(c:waA)(d:waH)(e:waJ)(h:waI)(i:Int)(p:aa)(q:md)(r:waA)(s:Int)(t:aa)(w:Int)(x y z:m6)
def lP:Q K:=if b then O (a !=2) else O Z
def HQ:OU 0 (cA qsT 60) (lP a b) .normal (λo=>[(21,.bool o)]) (aR 27 [(5,.bptr 1 0)] [.dead,.cells [.str m,sl cS A,.i6 B,.str E,.i6 F,sl al H,sl aU L,sl bz P,sl aj R,.i6 a,.bool b,sl cS c,sl bS d,sl eP e,sl bT h,.i6 i,.str p,sl aj q,sl cS r,.i6 s,.str t,.i6 w,sl af x,sl af y,sl af z] []] []):=qrU.j<|tf (λS=>ts<|tg 3 S<|ts<|tE) λS=>ts<|tg 3 S<|tE
end
section
variable(m:aa)(R:waA)(A:Int)(B:aa)(E:Int)(F:waD)(H:waF)(L:rf)(P:md)(a:Int)(b:K)(c:waA)(d:waH)(e:waJ)(h:waI)(i:Int)(p:aa)(q:md)(r:waA)(s:Int)(t:aa)(w:Int)(x y z:m6)
def qU:Q (Int×aa×Int×waD×waF×rf×md×Int):=(lP a b).bind λo=>if o then O (0,([]:aa),0,([]:V ah),([]:V aY),([]:V bH),([]:V ai),1) else O (A,B,E,F,H,L,P,a)
def HP:OJ 0 (cA qsT 30) (qU A B E F H L P a b) .normal (λo=>aR 27 [(5,.bptr 1 0)] [.dead,.cells [.str m,sl cS R,.i6 o.1,.str o.2.1,.i6 o.2.2.1,sl al o.2.2.2.1,sl aU o.2.2.2.2.1,sl bz o.2.2.2.2.2.1,sl aj o.2.2.2.2.2.2.1,.i6 o.2.2.2.2.2.2.2,.bool b,sl cS c,sl bS d,sl eP e,sl bT h,.i6 i,.str p,sl aj q,sl cS r,.i6 s,.str t,.i6 w,sl af x,sl af y,sl af z] []] []) (aR 27 [(5,.bptr 1 0)] [.dead,.cells [.str m,sl cS R,.i6 A,.str B,.i6 E,sl al F,sl aU H,sl bz L,sl aj P,.i6 a,.bool b,sl cS c,sl bS d,sl eP e,sl bT h,.i6 i,.str p,sl aj q,sl cS r,.i6 s,.str t,.i6 w,sl af x,sl af y,sl af z] []] []):=qrU.j<|tb λX S=>jC 0<|cM (HQ m R A B E F H L P a b c d e h i p q r s t w x y z _ S)<|tF (ts<|XD (NV) (NT)<|ty (d9 (⟨0,[],0,[],[],[],[]⟩:ah))<|tE)<|tE
end
def fb(m:am)(c:aa):Q aa:=(dM m c).bind λa=>if(!a.2)then O ([]:aa) else (qU a.1.Body.Op a.1.Body.Name a.1.Body.N a.1.Body.Kids a.1.Body.Params a.1.Body.Alts a.1.Body.Types a.1.Mode a.1.Typed).bind λb=>(kG (⟨a.1.Name,a.1.Params,⟨b.1,b.2.1,b.2.2.1,b.2.2.2.1,b.2.2.2.2.1,b.2.2.2.2.2.1,b.2.2.2.2.2.2.1⟩,b.2.2.2.2.2.2.2,a.1.Typed,a.1.Sig⟩:ba)).bind λd=>O d
def Am{m:am}{b:aa}:OV 14 [.agg (au m),.str b] (fb m b) (λr=>.str r) []:=qrU.v<|tb λa e=>te (ew m)<|tv (bM m)<|cP (fa _ e)<|tx Dl<|tx (eW a.1)<|tF tE<|tb λc d=>tb λi h=>jC 0<|cM (HP a.1.Name a.1.Params a.1.Body.Op a.1.Body.Name a.1.Body.N a.1.Body.Kids a.1.Body.Params a.1.Body.Alts a.1.Body.Types a.1.Mode a.1.Typed a.1.Sig.Vars a.1.Sig.Needs a.1.Sig.Abs a.1.Sig.Bounds a.1.Sig.Type_.Op a.1.Sig.Type_.Name a.1.Sig.Type_.Args a.1.Sig.Type_.Names a.1.Sig.Type_.Pred.Op a.1.Sig.Type_.Pred.Name a.1.Sig.Type_.Pred.N a.1.Sig.Type_.Pred.Kids a.1.Sig.Type_.Preds a.1.Sig.Metric _ d)<|tv (rA (⟨a.1.Name,a.1.Params,⟨c.1,c.2.1,c.2.2.1,c.2.2.2.1,c.2.2.2.2.1,c.2.2.2.2.2.1,c.2.2.2.2.2.2.1⟩,c.2.2.2.2.2.2.2,a.1.Typed,a.1.Sig⟩:ba) [])<|cP (uC _ h)<|tE
abbrev gV:=(aa->am->(V (aa×K))->am->Q ((V (aa×K))))
abbrev ll(R:gV):Prop:=∀(b:aa)(a:am)(d:V (aa×K))(c:am),OG 60 [.str b,.eptr (au a),.bptr 0 0,.bptr 3 0] [] [.cells [.bptr 1 0] [],.cells [.mapr 2] [],.map (bU PVal.bool d),.cells [.func (.func 60) [] [.eptr (au c),.bptr 0 0,.bptr 3 0]] []] (R b a d c) (λr=>.tuple []) [] (λr=>[.cells [.bptr 1 0] [],.cells [.mapr 2] [],.map (bU PVal.bool r),.cells [.func (.func 60) [] [.eptr (au c),.bptr 0 0,.bptr 3 0]] []])
abbrev eB:=(ah->waA->waA->Q waA)
abbrev eA(R:eB):Prop:=∀(e:ah)(a b:waA),OG 88 [.agg (al e),sl cS a,.func (.func 117) [] [.bptr 0 0]] [] [.cells [sl cS b] [(0,9)]] (R e a b) (λr=>.tuple []) [] (λr=>[.cells [sl cS r] [(0,9)]])
noncomputable def qsR:W:=f117.body.getD .skip
def qrS:ZF Pg [6] 117 f117 qsR:=zf call117 func117 rfl mixed
def vM(a:ah)(b:waA):Q waA:=if(a.Op==5)then (app b ([a.Name]:V aa)).bind λc=>O c else O b
def QO{a:ah}{c:waA}:OG 117 [.agg (al a),.bptr 0 0] [] [.cells [sl cS c] [(0,9)]] (vM a c) (λr=>.tuple []) [] (λr=>[.cells [sl cS r] [(0,9)]]):=qrS.g 1<|te (dG a)<|tw (bK a)<|tF (tb λd b=>tw (cc a)<|tv (bG [a.Name] 1 rfl)<|tv (cT.ap b)<|tE)<|tE
section
variable(a:waA)(e:ah)(m:waA)
def io:Q K:=(ky e).bind λb=>if b then (sV a e.Name).bind λc=>O (Y (c<0)) else O Z
def vY:OU 1 (cA qkU 12) (io a e) .normal (λo=>[(18,.bool o)]) (aR 57 [(1,sl cS a),(2,.func (.func 117) [] [.bptr 0 0]),(3,.eptr (al e))] [.cells [sl cS m] [(0,9)],.dead] []):=qkq.j<|
 tb λi c=>have b:=λ{X q s} (r:PV _ X q s)=>tv (bv e)<|cP (CO _ c)<|r;tf (λh=>tb λp d=>b<|tg 3 h<|tw (cc e)<|cP (E6 _ d)<|tE) λh=>b<|tg 3 h<|tE
end
section
variable(a:waA)(e:ah)(m:waA)
def im:Q waA:=(io a e).bind λb=>if b then (vM e m).bind λc=>O c else O m
def vX:OJ 1 (cA qkU 6) (im a e m) .normal (λo=>aR 57 [(1,sl cS a),(2,.func (.func 117) [] [.bptr 0 0]),(3,.eptr (al e))] [.cells [sl cS o] [(0,9)],.dead] []) (aR 57 [(1,sl cS a),(2,.func (.func 117) [] [.bptr 0 0]),(3,.eptr (al e))] [.cells [sl cS m] [(0,9)],.dead] []):=qkq.j<|tb λd b=>jC 0<|cM (vY a e m _ b)<|tF (tb λh c=>tv (bv e)<|tc [0] (QO _ c)<|tE)<|tE
end
section
variable(c:eB)(a:waA)(e:ah)(d:waD)(h b:Int)(m:waA)
def gv:az:=aR 57 [(1,sl cS a),(2,.func (.func 117) [] [.bptr 0 0]),(3,.eptr (al e)),(23,sl al d),(24,.i6 h),(25,.i6 b)] [.cells [sl cS m] [(0,9)],.dead] []
def lK(o:waA):az:=aR 57 [(1,sl cS a),(2,.func (.func 117) [] [.bptr 0 0]),(3,.eptr (al e))] [.cells [sl cS o] [(0,9)],.dead] []
instance qxc:KS 1 (gv a e d h b m):=ks 2 rfl
instance qxa{o:waA}:KS 1 (lK a e o):=ks 2 rfl
def cm:Q ((Int×waA)⊕(waA)):=if Y (b<h)then (cJ d b).bind λr=>(HM a).bind λo=>(sd e b).bind λp=>(app o p).bind λi=>(c r i m).bind λq=>O (.inl (dc (b+1),q)) else O (.inr m)
def ip:Q waA:=loop (λ(i:Int×waA)=>cm c a e d h i.1 i.2) (b,m)
def uh(i:eA c):OL 1 (cA qkU 119) (cm c a e d h b m) (λ(w:Int×waA)=>gv a e d h w.1 w.2) (λ_=>.exit 0) (lK a e) (gv a e d h b m):=qkq.lx<|tF (tb λo t=>tb λy q=>tb λz r=>tb λx p=>tb λA s=>tv (iQ.ia t)<|tv (bv o)<|tx qaq<|tx (tV o)<|tk<|FD (.dx [0,0,2,0,0,30,62,0] [] [] [])<|tv (fH o [])<|cP (DL q)<|tv (bv e)<|cP (G6 _ r)<|tv (cT.ap p)<|tc [0] (i _ _ _ _ s)<|tE)<|tE
def vZ(i:eA c):=ug (s:=(b,m)) λo=>uh c a e d h o.1 o.2 i
end
section
variable(b:eB)(a:waA)(d:rf)(e c:Int)(m:waA)
def gw:az:=aR 57 [(1,sl cS a),(2,.func (.func 117) [] [.bptr 0 0]),(41,sl bz d),(42,.i6 e),(43,.i6 c)] [.cells [sl cS m] [(0,9)],.dead] []
def lL(o:waA):az:=aR 57 [] [.cells [sl cS o] [(0,9)],.dead] []
instance qxd:KS 1 (gw a d e c m):=ks 2 rfl
instance qxb{o:waA}:KS 1 (lL o):=ks 2 rfl
def co:Q ((Int×waA)⊕(waA)):=if Y (c<e)then (cJ d c).bind λh=>(HM a).bind λo=>(app o h.Names).bind λi=>(b h.Body i m).bind λp=>O (.inl (dc (c+1),p)) else O (.inr m)
def iq:Q waA:=loop (λ(h:Int×waA)=>co b a d e h.1 h.2) (c,m)
def ui(h:eA b):OL 1 (cA qkU 127) (co b a d e c m) (λ(s:Int×waA)=>gw a d e s.1 s.2) (λ_=>.exit 2) lL (gw a d e c m):=qkq.lx<|tF (tb λi r=>tb λw p=>tb λt o=>tb λx q=>tv (kn.ia r)<|tv (uL i)<|tx NF<|tx (rE i)<|tk<|FD (.dx [0,1,0,4,0,16,60,0] [] [] [])<|tv (fH i.Body [])<|cP (DL p)<|ts<|tv (cT.ap o)<|tc [0] (h _ _ _ _ q)<|tE)<|tE
def v6(h:eA b):=ug (s:=(c,m)) λi=>ui b a d e i.1 i.2 h
end
def fy(b:eB)(e:ah)(a h:waA):Q waA:=(im a e h).bind λi=>(ip b a e e.Kids (e.Kids.length:Int) 0 i).bind λc=>(iq b a e.Alts (e.Alts.length:Int) 0 c).bind λd=>O d
def xE(b:eB)(c:eA b){e:ah}{a m:waA}:OG 88 [.agg (al e),sl cS a,.func (.func 117) [] [.bptr 0 0]] [] [.cells [sl cS m] [(0,9)]] (fy b e a m) (λr=>.tuple []) [] (λr=>[.cells [sl cS r] [(0,9)]]):=qkq.g 1<|tb λq i=>tb λo d=>tb λp h=>te (dG e)<|jC 0<|cM (vX a e m _ i)<|tw (aB e)<|ca (iQ.ln e.Kids)<|cM (vZ b a e e.Kids (e.Kids.length:Int) 0 q c _ d)<|tw (aF e)<|ca (kn.ln e.Alts)<|cM (v6 b a e.Alts (e.Alts.length:Int) 0 o c _ h)<|tE
def iY:((ah×waA×waA)->Q waA)->(ah×waA×waA)->Q waA:=λ(rec:(ah×waA×waA)->Q waA) (x:ah×waA×waA)=>fy (λe a b=>rec (e,a,b)) x.1 x.2.1 x.2.2
def jW(e:ah)(a b:waA):Q waA:=sQ iY (e,a,b)
def y5{e:ah}{a c:waA}:OG 88 [.agg (al e),sl cS a,.func (.func 117) [] [.bptr 0 0]] [] [.cells [sl cS c] [(0,9)]] (jW e a c) (λr=>.tuple []) [] (λr=>[.cells [sl cS r] [(0,9)]]):=qaJ λ_ h=>ij (F:=iY) (M:=λ(x:ah×waA×waA) (r:waA)=>C Pg GE 88 [.agg (al x.1),sl cS x.2.1,.func (.func 117) [] [.bptr 0 0]] [] [.cells [sl cS x.2.2] [(0,9)]] (.tuple []) [] [.cells [sl cS r] [(0,9)]]) (λrec b x r h=>xE _ (λe a c=>qaJ λr h=>b (e,a,c) r h) _ h) h
noncomputable def qwp:W:=f81.body.getD .skip
def qv8:ZF Pg [7] 81 f81 qwp:=zf call81 func81 rfl mixed
def Br(e:ah):Q waA:=(jW e ([]:V aa) ([]:V aa)).bind λa=>O a
def T6{e:ah}:OV 81 [.agg (al e)] (Br e) (λr=>sl cS r) [(0,9)]:=qv8.v<|tb λb a=>te (dG e)<|tx quA<|tv (bv e)<|tc [1] (y5 _ a)<|tE
noncomputable def qwq:W:=f82.body.getD .skip
def qv9:ZF Pg [] 82 f82 qwq:=zf call82 func82 rfl mixed
def Jv(s:aa)(a:ba):Q K:=(sV a.Params s).bind λb=>O (Y (b>=0))
def O2{s:aa}{a:ba}:OV 82 [.str s,.eptr (aL a)] (Jv s a) (λr=>.bool r) []:=qv9.v<|tb λc b=>tw (uG a)<|cP (E6 _ b)<|tE
section
variable(s:waA)(v:ba)(b a:Int)
def gQ:az:=aR 19 [(0,sl cS s),(1,.func (.func 82) [] [.eptr (aL v)]),(7,.i6 b),(8,.i6 a)] [] []
def mF(o:Int⊕(Unit)):Exit:=match o with|(.inl _)=>.ret|(.inr _)=>.exit 0
def mG(o:Int⊕(Unit)):az:=match o with|(.inl o)=>aR 19 [(4,.i6 o)] [] []|(.inr o)=>aR 19 [] [] []
def mE:Q (Int⊕(Int⊕(Unit))):=if Y (a<b)then (cJ s a).bind λd=>(Jv d v).bind λc=>if c then O (.inr (.inl a)) else O (.inl (dc (a+1))) else O (.inr (.inr ()))
def nU:Q (Int⊕(Unit)):=loop (λ(c:Int)=>mE s v b c) a
def vI:OL 0 (cA qp5 55) (mE s v b a) (λ(h:Int)=>gQ s v b h) mF mG (gQ s v b a):=qry.l<|tF (tb λe d=>tb λi c=>tv (cT.ia d)<|tv (cX OR (.str e) [])<|cP (O2 _ c)<|tF tE<|tE)<|tE
def lI:OK 0 (.loop (cA qp5 55)) (nU s v b a) mF mG (gQ s v b a):=NA λ_=>vI _ _ _ _
end
def qI(s:waA)(c:ba):Q Int:=(nU s c (s.length:Int) 0).bind λa=>match a with|(.inl a)=>O a|(.inr a)=>O (-1)
def zU{s:waA}{c:ba}:OV 51 [sl cS s,.func (.func 82) [] [.eptr (aL c)]] (qI s c) (λr=>.i6 r) []:=qry.v<|ca (cT.ln s)<|t2 (λb a=>cM (lI s c (s.length:Int) 0 _ a)<|tE) λb a=>cM (lI s c (s.length:Int) 0 _ a)<|tE
end Go.Proofs.YtankopenjcbeeaaGreatDoor
