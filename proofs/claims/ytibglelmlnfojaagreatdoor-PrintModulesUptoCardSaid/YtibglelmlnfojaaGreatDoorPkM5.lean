/- PROVED: a part of the proof. Conditions: none. -/
import Derived.Test.YtibglelmlnfojaaGreatDoorPkM4
import Derived.Test.YtibglelmlnfojaaGreatDoorPkM3
set_option linter.unusedSimpArgs false set_option linter.defProp false
set_option linter.unusedVariables false
noncomputable section
namespace Go.Proofs.YtibglelmlnfojaaGreatDoor
open Go
open Option renaming some→O,none→N
open Go renaming TypeId→G,Value→D,Program→I,Oper→M,World→J,Code→W
open Bool renaming true→T,false→Z
open Decidable renaming decide→Y
open Go.Proofs.YtibglelmlnfojaaGreatDoor renaming PVal→U
def qdX(a:aF)(b:Q Tmp)(p:U)(e:List (Nat×G))(H:List aJ)(h:aF->Prop):Prop:=match b with|some d=>iM a.tmps d p λtm=>cf ((e.map λx=>((d,x.1),x.2))++cU d a.own) λc=>h ⟨tm,H,c⟩|none=>h ⟨a.tmps,H,a.own⟩
def Ej(c:aF)(a:Q Tmp)(p:U)(b:List (Nat×G))(H:List aJ)(e:aF->Prop):qdX c a p b H e=e (Jj c a p b H):=by cases a with|none=>rfl|some d=>simp only[qdX,cE,bp,Jj]
def qjr(P:I)(GE:List (Nat×List U))(f:Operand)(b:List Operand)(a:List U)(sc:List It)(e:U->List (Nat×G)->List It->Prop):Prop:=
 y3 GE a f λd=>match d with
  |.func (.func g) first cap=>qdM GE a b λas=>match sc with
   |.c r ro::sc'=>CC P GE g (first++as++cap) r ro/\e r ro sc'
   |_=>False
  |_=>False
def HF(P:I)(GE:List (Nat×List U))(o:M)(id:Nat)(sc:List It)(c:aF)(i:List It->aF->Prop):Prop:=match sZ o c.tmps.length with
 |false=>False
 | true => match o.op with
  |.call {callee:=.value f,args,..}=>qjr P GE f args.toList c.tmps sc λr e b=>qdX c o.dst r e c.boxes λa=>i b a
  |.alloc t=>match sc with|.x zs::b=>ft P t=O zs/\cf (Yt P t) λd=>iM c.boxes id (.cells zs d) λH=>qdX c o.dst (.bptr id 0) [] H λa=>i b a|_=>False
  |.box _ x=>y3 GE c.tmps x λh=>match sc with|.x cs::b=>bH h=O cs/\Zo cs=T/\iM c.boxes id (.cells cs []) λH=>qdX c o.dst (.bptr id 0) [] H λa=>i b a|_=>False
  |.makeMap _ N=>iM c.boxes id (.map []) λH=>qdX c o.dst (.mapr id) [] H λa=>i sc a
  |op=>qkE P GE op c.tmps c.boxes sc λp H b=>qdX c o.dst p [] H λa=>i b a
def qh1(n d:Nat)(a:Prop):Prop:=match Y (d<n)with|true=>a|false=>False
def vw{n d:Nat}{K:Prop}(h:qh1 n d K):d<n/\K:=by
 unfold qh1 at h;split at h;.rename_i a;exact⟨by simpa using a,h⟩
 .exact h.elim
def qbs(P:I)(c:aF)(p e:G)(t:Nat)(b:Q Tmp)(n h:U)(sc:List It)(o:List It->aF->Prop):Prop:=match n with
 | .bptr i off => match gB P p (.bptr i off) h c.boxes with
  | some H => qN H i fun B => match B with
   |.cells cs own=>match h.one with|true=>cf cs λa=>iM H i (.cells a ((off,e)::own)) λm=>qdX {c with own:=c.own.filter λx=>x.1 !=(t,0)} b (.val undef) [] m λd=>o sc d|false=>False
   |_=>False
  |none=>False
 |_=>False
def qbt(P:I)(GE:List (Nat×List U))(A:List Nat)(o:M)(id:Nat)(sc:List It)(a:aF)(s:List It->aF->Prop):Prop:=match o.op,o.dst with
 |.assign (.tmp t),O d=>qh1 a.tmps.length d (IR a.tmps t λp=>iM a.tmps d p λtm=>cf (vI d (λx=>if x.1=t then(d,x.2)else x) a.own) λb=>s sc ⟨tm,a.boxes,b⟩)
 |.move (.tmp t),O d=>match Y (d∈A)with|true=>qh1 a.tmps.length d (IR a.tmps t λp=>iM a.tmps d p λtm=>cf (vI d (λx=>if x.1=t then(d,x.2)else x) a.own) λb=>s sc ⟨tm,a.boxes,b⟩)|false=>HF P GE o id sc a s
 |.assign (.const v),O d=>match DP P o.type v with|some e=>qh1 a.tmps.length d (iM a.tmps d (.slice []) λtm=>cf (((d,0),e)::cU d a.own) λb=>s sc ⟨tm,a.boxes,b⟩)|none=>HF P GE o id sc a s
 |.move (.const v),O d=>match DP P o.type v with|some e=>qh1 a.tmps.length d (iM a.tmps d (.slice []) λtm=>cf (((d,0),e)::cU d a.own) λb=>s sc ⟨tm,a.boxes,b⟩)|none=>HF P GE o id sc a s
 |.extract (.tmp t) i,O d=>qh1 a.tmps.length d (IR a.tmps t λh=>qdC (FK h i) λp=>iM a.tmps d p λtm=>cf (vI d (λx=>if x=(t,i)then(d,0)else x) a.own) λb=>s sc ⟨tm,a.boxes,b⟩)
 |.buildSlice w len parts,O d=>qh1 a.tmps.length d (L0 GE a.tmps parts.toList λn=>match sc,P.underlying w with|.v p::sc',O (.slice e)=>gV P w len n=O p/\iM a.tmps d p λtm=>cf (((d,0),e)::cU d a.own) λb=>s sc' ⟨tm,a.boxes,b⟩|_,_=>False)
 | .call { callee := .builtin .append,args:=⟨[.tmp t,y]⟩,argTypes:=⟨[w,T']⟩ },O d => qh1 a.tmps.length d (IR a.tmps t fun q => y3 GE a.tmps y fun r => match q,r,sc,P.underlying w with
  |.slice es,.slice ns,.v p::sc',O (.slice e)=>match Y (w=T')&&Y (((t,0),e)∈a.own)with|true=>DR P w es ns=O p/\iM a.tmps d p λtm=>cf (((d,0),e)::cU d (a.own.filter λx=>x.1 !=(t,0))) λb=>s sc' ⟨tm,a.boxes,b⟩|false=>False
  |_,_,_,_=>False)
 | .load w x,O d => match Y (d ∈ A) with
  | true => qh1 a.tmps.length d (y3 GE a.tmps x fun m => match m,P.underlying w with
   | .bptr i off,O (.slice e) => qN a.boxes i fun B => match B with
    |.cells cs own=>match Y ((off,e)∈own)&&Y (off<cs.length)with|true=>IR cs off λp=>iM a.tmps d p λtm=>cf (own.filter λx=>x.1 !=off) λc=>iM a.boxes i (.cells cs c) λH=>cf (((d,0),e)::cU d a.own) λb=>s sc ⟨tm,H,b⟩|false=>False
    |_=>False
   |_,_=>False)
  |false=>HF P GE o id sc a s
 |.store w x (.tmp t),_=>match a.own.find? (λy=>y.1==(t,0))with|some (_,e)=>y3 GE a.tmps x λm=>IR a.tmps t λh=>qbs P a w e t o.dst m h sc s|none=>HF P GE o id sc a s
 |_,_=>HF P GE o id sc a s
def qA3:D->K|.bool _=>T|_=>Z
def ZV(d:Array M)(j:Nat)(a:K)(e:Nat)(sc:List It)(c:aF)(go:K->List It->aF->Prop):Prop:=match(d[j]?).bind (·.dst)with
 |none=>False
 | some t => IR c.tmps t fun p => match p with
  | .bool x => match sc with
   |.g pos' b::sc'=>match pos'==e with|true=>x=b/\iM c.tmps t (.bool b) λtm=>go (b==a) sc' ⟨tm,c.boxes,c.own⟩|false=>go (x==a) sc c
   |_=>go (x==a) sc c
  |.val v=>match qA3 v with|true=>False|false=>go Z sc c
  |_=>False
def xt:List Nat->K|[]=>T|x::r=>!(r.contains x)&&xt r
def pe:∀{l:List Nat},xt l=T->l.Nodup
 |[],_=>.nil
 |x::r,h=>by simp only[xt,ne,vaV,vcT,va8]at h;exact vb4.2 ⟨h.1,pe h.2⟩
def Yl(t:Nat)(own:V ((Nat×Nat)×G)):V (Nat×G):=own.filterMap λx=>if x.1.1==t then O (x.1.2,x.2)else N
def Rd{t:Nat}{own:V ((Nat×Nat)×G)}{y:Nat×G}(h:y∈Yl t own):((t,y.1),y.2)∈own:=by
 unfold Yl at h;obtain⟨⟨⟨d,k⟩,e⟩,c,a⟩:=vb3.1 h;split at a;.rename_i b;simp only[o5]at b;cases a;subst b;exact c
 .cases a
def qk4(a n:Nat)(own:V (Nat×G)):V (Nat×G):=own.filterMap λx=>if Y (a<=x.1)&&Y (x.1<a+n)then O (x.1 - a,x.2)else N
def Rc{a n:Nat}{own:V (Nat×G)}{y:Nat×G}(h:y∈qk4 a n own):(a+y.1,y.2)∈own/\y.1<n:=by
 unfold qk4 at h;let⟨⟨k,e⟩,d,b⟩:=vb3.1 h;split at b
 .rename_i c;simp only[ne,nm]at c;cases b;have:a+(k - a)=k:=by omega
  exact⟨by rw[this];exact d,by simp only;omega⟩
 .cases b
def RH(ρ:List Nat):List U->List U->Prop|[],[]=>True|p::ps,q::qs=>KX ρ p q/\RH ρ ps qs|_,_=>False
def RH.len{ρ:List Nat}:∀{l r:List U},RH ρ l r->l.length=r.length
 |[],[],_=>rfl
 |[],_::_,h=>h.elim
 |_::_,[],h=>h.elim
 |_::_,_::_,h=>by simp[RH.len h.2]
def RH.get{ρ:List Nat}:∀{l r:List U},RH ρ l r->∀(i:Nat) p q,l[i]? =O p->r[i]? =O q->KX ρ p q
 |[],[],_,i,p,q,hp,_=>by simp at hp
 |[],_::_,h,_,_,_,_,_=>h.elim
 |_::_,[],h,_,_,_,_,_=>h.elim
 |_::_,_::_,h,0,p,q,hp,hq=>by simp at hp hq;subst hp;subst hq;exact h.1
 |_::_,_::_,h,i+1,p,q,hp,hq=>RH.get h.2 i p q (by simpa using hp) (by simpa using hq)
def qjc(ρ:List Nat):aJ->aJ->Prop|.cells cs own,.cells cs' own'=>own=own'/\RH ρ cs cs'|.map es,.map es'=>es=es'/\∀x∈es,x.1.cl 0/\x.2.cl 0|_,_=>False
def qjc.to{ρ:V Nat}{B B':aJ}(h:qjc ρ B B'):po ρ B B':=by
 cases B<;>cases B'<;>simp only[qjc]at h;.exact⟨h.1,h.2.len,h.2.get⟩
 .obtain⟨rfl,h⟩:=h;refine⟨rfl,λi k u e m a b=>?_⟩;rw[a]at b;cases b;let⟨c,d⟩:=h _ (vaK a);exact⟨.refl _ c,.refl _ d⟩
def xl(ρ:List Nat)(H:List aJ):List Nat->List aJ->List aJ->Prop|[],[],[]=>True|j::js,B::Bs,Bc::Hc=>(qN H j λa=>GI a B=B/\qjc ρ B Bc)/\xl ρ H js Bs Hc|_,_,_=>False
def Fy(ρ:List Nat):List aJ->List aJ->Prop|[],[]=>True|B::Bs,Bc::Hc=>qjc ρ B Bc/\Fy ρ Bs Hc|_,_=>False
def nv(H:List aJ):List Nat->List aJ->List aJ|j::js,B::Bs=>nv (H.set j B) js Bs|_,_=>H
def qgZ(H:List aJ):List Nat->List aJ->(List aJ->Prop)->Prop|j::js,B::Bs,b=>iM H j B λa=>qgZ a js Bs b|_,_,b=>b H
def wm:∀(H:List aJ)(b:List Nat)(a:List aJ)(c:List aJ->Prop),qgZ H b a c=c (nv H b a)
 |H,[],_,c=>by cases ‹List aJ›<;>rfl
 |H,_::_,[],c=>rfl
 |H,j::b,B::a,c=>by simp only[qgZ,cE,wm,nv]
def Ro:∀(H:List aJ)(b:List Nat)(a:List aJ),(nv H b a).length=H.length
 |H,[],_=>by cases ‹List aJ›<;>rfl
 |H,_::_,[]=>rfl
 |H,j::b,B::a=>by simp only[nv,Ro,vcO]
def nc:∀(H:List aJ)(b:List Nat)(a:List aJ){j:Nat},j∉b->(nv H b a)[j]? =H[j]?
 |H,[],a,_,_=>by cases a<;>rfl
 |H,_::_,[],_,_=>rfl
 |H,k::b,B::a,j,h=>by simp only[oL,vdb]at h;simp only[nv];rw[nc _ b a h.2,t7 (Ne.symm h.1)]
def VX:∀(H:List aJ)(a:List Nat)(b:List aJ),a.Nodup->a.length=b.length->(∀j∈a,j<H.length)->∀(i j:Nat) B,a[i]? =O j->b[i]? =O B->(nv H a b)[j]? =O B
 |H,[],b,_,_,_,i,j,B,hj,_=>by simp at hj
 |H,_::_,[],_,hl,_,_,_,_,_,_=>by simp at hl
 | H,k :: a,B0 :: b,hn,hl,hlt,i,j,B,hj,hB => by let⟨c,d⟩:=vb4.1 hn;simp only[nv];cases i with|zero=>simp at hj hB;subst hj;subst hB;rw[nc _ a b c,o6 (hlt _ (by simp))]|succ i=>exact VX _ a b d (by simpa using hl) (λx e=>by rw[vcO];exact hlt x (by simp[e])) i j B (by simpa using hj) (by simpa using hB)
def qbA{ρ:List Nat}{H:List aJ}:∀{d:List Nat}{n o:List aJ},xl ρ H d n o->d.length=n.length/\o.length=d.length/\(∀j∈d,j<H.length)/\
  ∀(i j:Nat) B Bc,d[i]? =O j->n[i]? =O B->o[i]? =O Bc->(∃m,H[j]? =O m/\GI m B=B)/\po ρ B Bc
 |[],[],[],_=>⟨rfl,rfl,by simp,by simp⟩
 |[],_::_,_,h=>by simp[xl]at h
 |[],[],_::_,h=>by simp[xl]at h
 |_::_,[],_,h=>by simp[xl]at h
 |_::_,_::_,[],h=>by simp[xl]at h
 | k :: d,B :: n,Bc :: o,h => by
  let⟨r,s⟩:=h;let⟨m,e,t,w⟩:=fp r;let⟨x,y,z,A⟩:=qbA s;refine⟨by simp[x],by simp[y],λj c=>?_,λi j b q c p a=>?_⟩
  .rcases oL.1 c with rfl|c;.exact ax e
   .exact z j c
  .cases i with|zero=>simp at c p a;subst c;subst p;subst a;exact⟨⟨m,e,t⟩,w.to⟩|succ i=>exact A i j b q (by simpa using c) (by simpa using p) (by simpa using a)
def Ye{ρ:List Nat}:∀{c d:List aJ},Fy ρ c d->c.length=d.length/\∀(i:Nat) B Bc,c[i]? =O B->d[i]? =O Bc->po ρ B Bc
 |[],[],_=>⟨rfl,by simp⟩
 |[],_::_,h=>h.elim
 |_::_,[],h=>h.elim
 |B::c,Bc::d,h=>by let⟨n,o⟩:=Ye h.2;refine⟨by simp[n],λi b m e a=>?_⟩;cases i with|zero=>simp at e a;subst e;subst a;exact h.1.to|succ i=>exact o i b m (by simpa using e) (by simpa using a)
def qsi(t:Nat):Q Operand->K|some (.tmp u)=>u==t|_=>Z
def qoh:Q Operand->K|some (.const v)=>zC v|_=>Z
def qis(n:Nat)(a:V Operand)(own:V ((Nat×Nat)×G))(b:V OA):K:=b.all (λx=>Y (n<=x.i)&&((qoh a[x.i - n]? &&x.k==0)||(Y (((x.t,x.k),x.e)∈own)&&qsi x.t a[x.i - n]?)))&&b.all λx=>b.all λy=>!(x.t==y.t&&x.k==y.k)||x.i==y.i
def Z5:aJ->K|.dead=>Z|_=>T
def kv(P:I)(GE:List (Nat×List U))(f:Operand)(a:List Operand)(c:GC)(b:aF)(e:List aJ->Prop):Prop:=
 y3 GE b.tmps f λd=>match d with
 | .func (.func g) first cap => qdM GE b.tmps a fun as => match xt c.ρ && qis first.length a b.own c.oa && c.Bs.all Z5 && Y (c.Bs'.length = c.ρ.length) with
  | true => C P GE g c.argsC (c.oa.map fun x => ((x.i,x.k),x.e)) c.Hc c.rc c.ro c.Hc'∧RH c.ρ (first ++ as ++ cap) c.argsC∧xl c.ρ b.boxes c.ρ c.Bs c.Hc∧Fy c.ρ c.Bs' c.Hc'∧KX c.ρ c.r c.rc ∧
    qgZ b.boxes c.ρ c.Bs' e
  |false=>False
 |_=>False
def An{P:I}{GE:V (Nat×V U)}{f:Operand}{q:V Operand}{c:GC}{st:aF}{a0:V aJ->Prop}(h:kv P GE f q c st a0):∃H',T9 P GE f q st c.r c.ro H' c.oa/\a0 H':=by
 unfold kv at h;rw[di]at h;split at h
 .rename_i g first cap hf
  rw[rW]at h;split at h
  .rename_i hb;simp only[ne,nm]at hb;obtain⟨⟨⟨b1,H⟩,b3⟩,b4⟩:=hb;let⟨h1,e,o,h4,h5,h6⟩:=h;rw[wm]at h6;have F:=pe b1;let⟨S,i2,X,i4⟩:=qbA o;let⟨o1,o2⟩:=Ye h4;unfold qis at H;rw[ne]at H;let⟨c1,c2⟩:=H;have m:∀{i j:Nat},c.ρ[i]? =O j->∃B,c.Bs[i]? =O B:=λ{i j} b=>⟨_,m6 (by rw[<-S];exact ax b)⟩
   have n:∀{i j:Nat},c.ρ[i]? =O j->∃B,c.Hc[i]? =O B:=λ{i j} b=>⟨_,m6 (by rw[i2];exact ax b)⟩
   refine⟨_,⟨g,first,cap,c.argsC,c.ρ,nv st.boxes c.ρ c.Bs,c.Hc,c.Hc',c.rc,hf,F,h1,⟨Ro _ _ _,λi B A=>?_⟩,⟨i2,λi j b=>?_⟩,⟨by rw[<-o1];exact b4,λi j b=>?_⟩,Ro _ _ _,λj b=>by rw[nc _ _ _ b,nc _ _ _ b],h5,e.len,e.get,λx a=>?_,λx a y hy w z=>?_⟩,h6⟩
   .by_cases R:i∈c.ρ
    .let⟨k,E⟩:=vbc.1 R;let⟨s,d⟩:=m E;let⟨t,p⟩:=n E;let⟨⟨B0,L,r⟩,_⟩:=i4 k i s t E d p;rw[VX _ _ _ F S X k i s E d]at A;cases A;refine⟨B0,L,?_⟩;rcases qkF B0 B with a|a|a;.rw[r]at a;have:=oR.1 b3 B (vaK d);rw[a]at this;cases this
     .rw[r]at a;exact .inl a
     .rw[r]at a;exact .inr a
    .rw[nc _ _ _ R]at A;exact⟨B,A,.inl rfl⟩
   .let⟨s,d⟩:=m b;let⟨t,p⟩:=n b;exact⟨s,t,VX _ _ _ F S X i j s b d,p,(i4 i j s t b d p).2⟩
   .have R:=ax b;have w:=m6 (l:=c.Bs') (i:=i) (by omega);have z:=m6 (l:=c.Hc') (i:=i) (by omega);exact⟨_,_,VX _ _ _ F b4.symm X i j _ b w,z,o2 i _ _ w z⟩
   .have:=oR.1 c1 x a;simp only[ne,va5,nm,o5]at this;refine⟨x.i - first.length,by omega,?_⟩;rcases this.2 with⟨e,o⟩|⟨e,o⟩
    .left;unfold qoh at e;split at e
     .rename_i v hv;unfold zC at e;split at e;.exact⟨hv,o⟩
      .cases e
     .cases e
    .right;unfold qsi at o;split at o;.rename_i u hu;simp only[o5]at o;subst o;exact⟨e,hu⟩
     .cases o
   .have:=oR.1 (oR.1 c2 x a) y hy;simp only[va5,vaV,Bool.and_eq_false_iff,beq_eq_false_iff_ne,ne_eq,o5]at this;rcases this with(a|a)|a;.exact absurd w a
    .exact absurd z a
    .exact a
  .exact h.elim
 .exact h.elim
def ZX (P:I) (GE:List (Nat×List U)) (A:List Nat) (o:M) (id:Nat) (sc:List It) (a:aF) (S:List It→aF→Prop):Prop :=match o.op,sc with
 |.build X parts,.b p L::sc'=>match o.dst with|some d=>qh1 a.tmps.length d (L0 GE a.tmps parts.toList λr=>df P X r=O p/\Ce P X r L/\iM a.tmps d p λtm=>cf ((L.map λx=>((d,x.1),x.2))++cU d a.own) λh=>S sc' ⟨tm,a.boxes,h⟩)|none=>False
 | .store X x (.tmp t),.y vs :: sc' => IR a.tmps t fun E => match E with
  | .agg l => match o.dst with
   | none => y3 GE a.tmps x fun q => match q with
    | .bptr i off => cf (Yl t a.own) fun L => l = vs∧qN a.boxes i fun B => match B with
     | .cells n own => match xt (L.map (·.1)) && Y (vs.length = P.cellsOf X) && (P.info? X).isSome && Y (off + vs.length ≤ n.length) && vs.all PVal.one with| true => cf (n.take off ++ vs ++ n.drop (off + vs.length)) fun w => cf ((L.map fun y => (off + y.1,y.2)).reverse ++ own.filter fun y => y.1 < off || off + vs.length ≤ y.1) fun m =>iM a.boxes i (.cells w m) λH=>cf (a.own.filter λx=>!L.any λy=>x.1==(t,y.1)) λh=>S sc' ⟨a.tmps,H,h⟩|false=>False
     |_=>False
    |_=>False
   |some _=>False
  |_=>qbt P GE A o id sc a S
 | .load X x,.z l :: sc' => match P.underlying X with
  | some (.struct _) => match o.dst with
   | some d => qh1 a.tmps.length d (y3 GE a.tmps x fun q => match q with
    | .bptr i off => qN a.boxes i fun B => match B with
     | .cells n own => co P X (n.drop off) = O (.agg l)∧cf (qk4 off (P.cellsOf X) own) fun L => match xt (L.map (·.1)) with| true => iM a.tmps d (.agg l) fun tm => cf (own.filter fun x => !L.any fun y => x.1 == off + y.1) fun m => iM a.boxes i (.cells n m) fun H =>cf ((L.map λy=>((d,y.1),y.2)).reverse++cU d a.own) λh=>S sc' ⟨tm,H,h⟩|false=>False
     |_=>False
    |_=>False)
   |none=>False
  |_=>qbt P GE A o id sc a S
 |.box _ x,.e vs::sc'=>match o.dst with|some d=>qh1 a.tmps.length d (y3 GE a.tmps x λq=>bH q=O vs/\iM a.tmps d (.eptr vs) λtm=>cf (cU d a.own) λh=>S sc' ⟨tm,a.boxes,h⟩)|none=>False
 |.call {callee:=.value f,args,..},.cg c::sc'=>match o.dst with|some d=>qh1 a.tmps.length d (kv P GE f args.toList c a λH=>iM a.tmps d c.r λtm=>cf ((c.ro.map λx=>((d,x.1),x.2))++cU d (a.own.filter λz=>!c.oa.any λx=>z.1==(x.t,x.k))) λh=>S sc' ⟨tm,H,h⟩)|none=>False
 | .box X (.tmp t),.y vs :: sc' => match o.dst with| some d => qh1 a.tmps.length d (IR a.tmps t fun E => match E with|.agg l=>cf (Yl t a.own) λL=>l=vs/\(match xt (L.map (·.1))&&Zo vs with|true=>cf (vs.map (nilTo id X)) λn=>iM a.tmps d (.bptr id 0) λtm=>cf ((L.map λy=>(0+y.1,y.2)).reverse++[]) λown=>iM a.boxes id (.cells n own) λH=>cf (cU d (a.own.filter λx=>!L.any λy=>x.1==(t,y.1))) λh=>S sc' ⟨tm,H,h⟩|false=>False)|_=>False)|none=>False
 |.alloc X,.y vs::sc'=>match o.dst with|some d=>qh1 a.tmps.length d (ft P X=O vs/\cf (Yt P X) λown=>cf (vs.map (nilTo id X)) λn=>iM a.tmps d (.bptr id 0) λtm=>iM a.boxes id (.cells n own) λH=>cf (cU d a.own) λh=>S sc' ⟨tm,H,h⟩)|none=>False
 | .call { callee := .builtin .append,args:=⟨[.tmp t,y]⟩,argTypes:=⟨[X,T']⟩ },.z r :: sc' => match o.dst,r with
  | some d,[p] => qh1 a.tmps.length d (IR a.tmps t fun F => y3 GE a.tmps y fun R => match F,R,P.underlying X with
   |.slice es,.str s,O (.slice e)=>match Y (((t,0),e)∈a.own)with|true=>J8 P X T' es s=O p/\iM a.tmps d p λtm=>cf (((d,0),e)::cU d (a.own.filter λx=>x.1 !=(t,0))) λh=>S sc' ⟨tm,a.boxes,h⟩|false=>False
   |_,_,_=>False)
  |_,_=>False
 |_,_=>qbt P GE A o id sc a S
def X9(P:I)(GE:List (Nat×List U))(A:List Nat)(e:Array M)(m:List It->aF->Prop):List M->Nat->Nat->List It->aF->Prop
 |[],_,_,sc,h=>m sc h
 | o :: rest,pos,id,sc,h =>
  let d (sc:List It) (h:aF):Prop:=ZX P GE A o id sc h λc a=>X9 P GE A e m rest (pos+1) (id+if aR o.op then 1 else 0) c a
  match o.guard with
  |none=>d sc h
  |some (j,want)=>ZV e j want pos sc h λb c a=>match b with
   |true=>d c a
   |false=>qdX a o.dst (.val undef) [] a.boxes λi=>X9 P GE A e m rest (pos+1) (id+if aR o.op then 1 else 0) c i
section
variable{P:I}{GE:V (Nat×V U)}{A:V Nat}{ops:Array M}
def qfZ{f:Operand}{b:V Operand}{a:V U}{H:V aJ}{sc:V It}{e:U->V (Nat×G)->V It->Prop}(h:qjr P GE f b a sc e):TE P GE (opv GE a f) (b.map (opv GE a)) H λr c d=>d=H/\∃sc',e r c sc':=by
 unfold qjr at h;rw[di]at h;split at h
 .rename_i g first cap hf
  rw[rW]at h;split at h;.rename_i r c sc';rw[hf];exact .inl ⟨h.1.1,r,c,h.1.2,rfl,sc',h.2⟩
  .exact h.elim
 .exact h.elim
def Rg{b:Op}{id:Nat}{v:Operand->U}{H c:V aJ}{p:U}{K:U->V (Nat×G)->V aJ->Prop}(e:∀f args a,b≠.call {callee:=.value f,args,argTypes:=a})
  (h:Ax P b id v H=O (p,c)) (d:K p [] c):qdN P GE b id v H K:=by
 unfold qdN
 split
 .rename_i f args a;exact absurd rfl (e _ _ _)
 .rw[h];exact d
def o0{o:M}{id:Nat}{sc:V It}{i:aF}{a0:V It->aF->Prop}(h:HF P GE o id sc i a0):sZ o i.tmps.length=T/\qdN P GE o.op id (opv GE i.tmps) i.boxes λp q H=>(λB=>∃a,a0 a B) (Jj i o.dst p q H):=by
 unfold HF at h;split at h;.exact h.elim
 .rename_i F;refine⟨F,?_⟩;split at h
  .rename_i f b s c;have:=qfZ (H:=i.boxes) h;unfold qdN;simp only[c];unfold TE at this ⊢;split at this
   .rcases this with⟨n,r,q,d,_,a,w⟩|⟨ρ,argsC,Hc,rc,q,Hc',E,r,n,d,w,k4,k5,k6,k7,k8,k9,rfl,a,k10⟩;.rw[Ej]at w;exact .inl ⟨n,r,q,d,a,w⟩
    .rw[Ej]at k10;exact .inr ⟨ρ,argsC,Hc,rc,q,Hc',_,r,n,d,w,k4,k5,k6,k7,k8,k9,a,k10⟩
   .exact this.elim
  .rename_i t c;split at h;.rename_i zs a;let⟨y,m⟩:=h;simp only[bp,cE,Ej]at m;rw[c];exact Rg (by simp) (by simp only[Ax,y,oo]) ⟨a,m⟩
   .exact h.elim
  .rename_i t x c;rw[di]at h;split at h;.rename_i R a;let⟨y,z,m⟩:=h;simp only[cE,Ej]at m;rw[c];exact Rg (by simp) (by simp only[Ax,qcb y z,oo]) ⟨a,m⟩
   .exact h.elim
  .rename_i t c;simp only[cE,Ej]at h;rw[c];exact Rg (by simp) (by simp only[Ax]) ⟨_,h⟩
  .rename_i L S X n4;let⟨p,E,a,n,d,_⟩:=Yb (id:=id) h;rw[Ej]at d;exact Rg (λf b s e=>L f b s e) n ⟨a,d⟩
def LO{o:M}{id:Nat}{sc:List It}{st:aF}{a2:List It->aF->Prop}(h:qbt P GE A o id sc st a2):Yr P GE A o id (λa1=>∃w,a2 w a1) st:=by
 unfold qbt at h;unfold Yr;split at h;case h_1 t d ho hd=>
  let⟨b,a⟩:=vw h
  simp only[lm,cE,bp]at a
  simp only[ho,hd]
  exact⟨b,_,a⟩
 case h_2 t d ho hd=>
  simp only[ho,hd]
  split at h
  .rename_i q
   let⟨b,a⟩:=vw h
   simp only[lm,cE,bp]at a
   rw[hU (by simpa using q)]
   exact⟨b,_,a⟩
  .rename_i q
   rw[hG (by simpa using q)]
   have:=o0 h
   rw[ho,hd]at this
   exact this
 case h_3 v d ho hd=>
  simp only[ho,hd]
  split at h
  .rename_i e c
   let⟨b,a⟩:=vw h
   simp only[cE,bp]at a
   simp only[c]
   exact⟨b,_,a⟩
  .rename_i c
   simp only[c]
   have:=o0 h
   rw[ho,hd]at this
   exact this
 case h_4 v d ho hd=>
  simp only[ho,hd]
  split at h
  .rename_i e c
   let⟨b,a⟩:=vw h
   simp only[cE,bp]at a
   simp only[c]
   exact⟨b,_,a⟩
  .rename_i c
   simp only[c]
   have:=o0 h
   rw[ho,hd]at this
   exact this
 case h_5 t i d ho hd=>
  let⟨b,a⟩:=vw h
  rw[lm]at a
  let⟨p,z,n⟩:=HO a
  simp only[cE,bp]at n
  simp only[ho,hd,z]
  exact⟨b,_,n⟩
 case h_6 a3 len parts d ho hd=>
  let⟨b,a⟩:=vw h
  rw[zH]at a
  split at a
  .rename_i p w e L
   let⟨z,n⟩:=a
   simp only[cE,bp]at n
   simp only[ho,hd,z,L]
   exact⟨b,_,n⟩
  .exact a.elim
 case h_7 t y a3 T' d ho hd=>
  let⟨b,a⟩:=vw h
  rw[lm,di]at a
  split at a
  .rename_i es ns p w e c hn L
   split at a
   .rename_i r
    simp only[ne,nm]at r
    let⟨z,n⟩:=a
    simp only[cE,bp]at n
    simp only[ho,hd,L,c,hn,z]
    exact⟨r.1,b,r.2,_,n⟩
   .exact a.elim
  .exact a.elim
 case h_8 a3 x d ho hd=>
  simp only[ho,hd]
  split at h
  .rename_i q
   let⟨b,a⟩:=vw h
   rw[di]at a
   rw[hU (by simpa using q)]
   split at a
   .rename_i i s e m L
    let⟨B,S,a⟩:=fp a
    split at a
    .rename_i R own
     split at a
     .rename_i r
      simp only[ne,nm]at r
      simp only[lm,cE,bp]at a
      have E:R[s]? =O (R.getD s .undef):=by rw[vap,m6 r.2];rfl
      simp only[m,L,S,E]
      exact⟨b,r.1,_,a⟩
     .exact a.elim
    .exact a.elim
   .exact a.elim
  .rename_i q
   rw[hG (by simpa using q)]
   have:=o0 h
   rw[ho,hd]at this
   exact this
 case h_9 a3 x t ho=>
  simp only[ho]
  split at h
  .rename_i y e X
   rw[di,lm]at h
   simp only[X]
   unfold qbs at h
   split at h
   .rename_i i s m
    split at h
    .rename_i H a0
     let⟨B,S,h⟩:=fp h
     split at h
     .rename_i R own
      split at h
      .rename_i F
       simp only[cE,bp,Ej]at h
       simp only[m,a0,S,F]
       exact⟨_,h⟩
      .exact h.elim
     .exact h.elim
    .exact h.elim
   .exact h.elim
  .rename_i X
   simp only[X]
   have:=o0 h
   rw[ho]at this
   exact this
 case h_10=>
  have:=o0 h
  split
  all_goals first
   |exact this
   |(exfalso;simp_all;done)
   |(exfalso;simp_all;rename_i m b a;exact m _ _ _ _ rfl rfl rfl rfl)
   |(exfalso;simp_all;rename_i m b a;exact m _ _ _ _ _ rfl rfl rfl rfl rfl)
   |(exfalso;simp_all;rename_i m b a;exact m _ _ _ rfl rfl rfl)
def SH{j:Nat}{c:K}{s:Nat}{sc:List It}{e:aF}{go:K->List It->aF->Prop}(h:ZV ops j c s sc e go):∃x,FL ops e.tmps j=O x/\((x=O c/\∃a,go T a e)\/(x≠O c/\∃a,go Z a e)):=by
 unfold ZV at h;split at h;.exact h.elim
 .rename_i t w;rw[lm]at h;have m:∀{p},e.tmps.getD t .undef=p->p≠.undef->e.tmps[t]? =O p:=by intro p i r;rw[vap]at i;cases n:e.tmps[t]? with|none=>rw[n]at i;exact absurd i.symm r|some q=>rw[n]at i;exact mx O i
  have d:∀(x:K) a,go (x==c) a e->(O x=O c/\∃a,go T a e)\/(O x≠O c/\∃a,go Z a e):=by intro x a o;cases x<;>cases c<;>simp at o ⊢<;>exact⟨a,o⟩
  split at h
  .rename_i x i;have n:=m i (by simp);have o:FL ops e.tmps j=O (O x):=by unfold FL;simp only[w,n]
   refine⟨_,o,?_⟩;split at h
   .rename_i y b a;split at h;.obtain⟨rfl,h⟩:=h;rw[cE,VZ n]at h;exact d x a h
    .exact d x _ h
   .exact d x _ h
  .rename_i v i;have n:=m i (by simp);split at h;.exact h.elim
   .rename_i z;refine⟨N,?_,.inr ⟨by simp,_,h⟩⟩;unfold FL;simp only[w,n];cases v<;>simp[qA3]at z<;>rfl
  .exact h.elim
def qdy{o:M}{id:Nat}{sc:V It}{st:aF}{a4:V It->aF->Prop}(h:ZX P GE A o id sc st a4):QE P GE A o id (λa1=>∃a,a4 a a1) st:=by
 unfold ZX at h;split at h
 .rename_i T a0 p L a m;split at h;.rename_i d b;let⟨q,r⟩:=vw h;rw[zH]at r;let⟨w,h4,h5⟩:=r;simp only[cE,bp]at h5;refine .inr (.inl ?_);unfold qcp;simp only[m,b];exact⟨p,L,w,h4,q,a,h5⟩
  .exact h.elim
 .rename_i T x t S a m;rw[lm]at h;split at h
  .rename_i l hl;split at h
   .rename_i b;rw[di]at h;split at h
    .rename_i i n hx;rw[bp]at h;obtain⟨rfl,h⟩:=h;let⟨B,hB,h⟩:=fp h;split at h
     .rename_i X own;split at h
      .rename_i H;simp only[cE,bp]at h;simp only[ne,nm]at H;obtain⟨⟨⟨⟨c1,c2⟩,c3⟩,c4⟩,c5⟩:=H;refine .inr (.inl ?_);unfold qcp;simp only[m,b];have hi:=ax hB;refine⟨i,n,st.boxes.set i (.cells (X.take n++l++X.drop (n+l.length)) (own.filter λy=>y.1<n||n+l.length<=y.1)),_,_,Yl t st.own,l,hx,hl,?_,o6 hi,λy E=>Rd E,pe c1,a,?_⟩;.simp only[gB,bH,hB];rw[hU ⟨c2,c3,c4,c5⟩]
       .rw[vbV];exact h
      .exact h.elim
     .exact h.elim
    .exact h.elim
   .exact h.elim
  .exact .inl (LO h)
 .rename_i T x l a m;split at h
  .rename_i fs hT;split at h
   .rename_i d b;let⟨q,h⟩:=vw h;rw[di]at h;split at h
    .rename_i i n hx;let⟨B,hB,h⟩:=fp h;split at h
     .rename_i X own;let⟨r,h⟩:=h;rw[bp]at h;split at h
      .rename_i z;simp only[cE,bp]at h;refine .inr (.inl ?_);unfold qcp;simp only[m,b];have R:l.length=P.cellsOf T:=by
        have F:=r;unfold co at F;rw[hT]at F;simp only at F;split at F;.rename_i hh;cases F;rw[vbg];omega
        .cases F
       exact⟨i,n,X,own,_,l,⟨fs,hT⟩,hx,hB,r,λy E=>(Rc E).1,pe z,λy E=>by rw[R];exact(Rc E).2,q,a,h⟩
      .exact h.elim
     .exact h.elim
    .exact h.elim
   .exact h.elim
  .exact .inl (LO h)
 .rename_i T x S a m;split at h;.rename_i d b;let⟨q,h⟩:=vw h;rw[di]at h;let⟨r,h⟩:=h;simp only[cE,bp]at h;refine .inr (.inl ?_);unfold qcp;simp only[m,b];exact⟨S,r,q,a,h⟩
  .exact h.elim
 .rename_i f a2 a3 c a m;split at h;.rename_i d b;let⟨q,h⟩:=vw h;let⟨H',r,w⟩:=An h;simp only[cE,bp]at w;refine .inr (.inl ?_);unfold qcp;simp only[m,b];exact⟨c.r,c.ro,H',c.oa,r,q,a,w⟩
  .exact h.elim
 .rename_i T t S a m;split at h
  .rename_i d b;let⟨q,h⟩:=vw h;rw[lm]at h;split at h
   .rename_i l hl;rw[bp]at h;obtain⟨rfl,h⟩:=h;split at h;.rename_i z;simp only[cE,bp]at h;refine .inr (.inr ?_);unfold qrx;simp only[m,b];rw[ne]at z;exact⟨l,Yl t st.own,hl,z.2,λy E=>Rd E,pe z.1,q,a,h⟩
    .exact h.elim
   .exact h.elim
  .exact h.elim
 .rename_i T S a m;split at h;.rename_i d b;let⟨q,r,h⟩:=vw h;simp only[cE,bp]at h;refine .inr (.inr ?_);unfold qrx;simp only[m,b];exact⟨S,r,q,a,h⟩
  .exact h.elim
 .rename_i t y T T' ps a m;split at h
  .rename_i d p b;have hh:=vw h;clear h;let⟨q,h⟩:=hh;rw[lm,di]at h;split at h
   .rename_i es s e he z hT;split at h;.rename_i H;simp only[nm]at H;let⟨r,w⟩:=h;simp only[cE,bp]at w;refine .inr (.inr ?_);unfold qrx;simp only[m,b];exact⟨es,s,e,p,he,z,hT,H,r,q,a,w⟩
    .exact h.elim
   .exact h.elim
  .exact h.elim
 .exact .inl (LO h)
def BJ{o:M}{id:Nat}{R w:aF->Prop}{st:aF}(d:∀st,R st->w st)(h:QE P GE A o id R st):QE P GE A o id w st:=by
 rcases h with h|h|h;.exact .inl (qjX d h)
 rotate_left;.exact .inr (.inr (qoX d h))
 .refine .inr (.inl ?_);unfold qcp at *;split at h;.let⟨p,L,a,b,c,m⟩:=h;exact⟨p,L,a,b,c,d _ m⟩
  .let⟨i,e,H,n,own,L,l,a,b,c,m,q,s,t⟩:=h;exact⟨i,e,H,n,own,L,l,a,b,c,m,q,s,d _ t⟩
  .let⟨i,e,n,own,L,l,y,a,b,c,m,q,s,t,z⟩:=h;exact⟨i,e,n,own,L,l,y,a,b,c,m,q,s,t,d _ z⟩
  .let⟨F,a,b,c⟩:=h;exact⟨F,a,b,d _ c⟩
  .let⟨r,E,x,B,a,b,c⟩:=h;exact⟨r,E,x,B,a,b,d _ c⟩
  .exact h
def Fp{t:List It->aF->Prop}:∀(a:List M)(d id:Nat)(sc:List It)(st:aF),X9 P GE A ops t a d id sc st->dJ P GE A ops (λst=>∃sc,t sc st) a id st
 |[],_,_,sc,st,h=>⟨sc,h⟩
 | o :: a,d,id,sc,st,h => by
  simp only[X9]at h
  have c:∀sc st,ZX P GE A o id sc st (λb e=>X9 P GE A ops t a (d+1) (id+if aR o.op then 1 else 0) b e)->QE P GE A o id (dJ P GE A ops (λst=>∃sc,t sc st) a (id+if aR o.op then 1 else 0)) st:=
   λsc st s=>BJ (λe m=>by let⟨b,m⟩:=m;exact Fp a _ _ b e m) (qdy s)
  unfold dJ;split at h;.rename_i n;simp only[n];exact c _ _ h
  .rename_i j p n;let⟨x,m,i⟩:=SH h;simp only[n,m];rcases i with⟨rfl,b,i⟩|⟨hne,b,i⟩;.exact⟨λ_=>c _ _ i,λr=>absurd rfl r⟩
   .refine⟨λq=>absurd q hne,λ_=>?_⟩;simp only[Ej]at i;exact Fp a _ _ b _ i
end
set_option linter.unusedVariables false
abbrev Rs:=K×Nat×Nat
abbrev qkf:=K×(Nat×Nat)×G
def fk(τ:qkf):Rs:=match τ.1 with|false=>(Z,τ.2.1.1,0)|true=>(T,τ.2.1.1,τ.2.1.2)
def lp(a:aF)(τ:qkf):Prop:=match τ.1 with|false=>(τ.2.1,τ.2.2)∈a.own|true=>∃b own,a.boxes[τ.2.1.1]? =O (.cells b own)/\(τ.2.1.2,τ.2.2)∈own
def bu:aJ->aJ|.cells cs _=>.cells cs []|B=>B
def qgc{H a:V aJ}(h:a.map bu=H.map bu)(i:Nat):(a[i]?).map bu=(H[i]?).map bu:=by have:=mx (λl=>l[i]?) h;simpa[t8]using this
def LS{H b:List aJ}(h:b.map bu=H.map bu){i:Nat}{c:List U}{own:List (Nat×G)}(e:H[i]? =O (.cells c own)):∃a,b[i]? =O (.cells c a):=by
 have:=qgc h i;rw[e]at this;cases d:b[i]? with
 |none=>rw[d]at this;cases this
 |some B=>rw[d]at this;cases B<;>simp[bu]at this;subst this;exact⟨_,rfl⟩
section
variable{P:I}{GE:V (Nat×V U)}
def qiI{t:G}{x:U}{H b:V aJ}(h:b.map bu=H.map bu):qU P t x b=qU P t x H:=by
 unfold qU;split;.rfl
 .rename_i i c;have a:=qgc h i;generalize b[i]? =o at a;generalize H[i]? =o' at a;rcases o with _|(_|_|_)<;>rcases o' with _|(_|_|_)<;>simp[bu]at a ⊢;subst a;rfl
 .rfl
def qjU{t:G}{x:U}{H b:V aJ}(h:b.map bu=H.map bu):TG P t x b=TG P t x H:=by
 unfold TG;split<;>first|rfl|skip
 rename_i i _;have a:=qgc h i;generalize b[i]? =o at a;generalize H[i]? =o' at a;rcases o with _|(_|_|_)<;>rcases o' with _|(_|_|_)<;>simp[bu]at a ⊢;subst a;rfl
def qdO{t:G}{m k:U}{ok:K}{H b:V aJ}(h:b.map bu=H.map bu):HV P t m k ok b=HV P t m k ok H:=by
 unfold HV;split;.rename_i c e i _;have a:=qgc h i;generalize b[i]? =o at a;generalize H[i]? =o' at a;rcases o with _|(_|_|_)<;>rcases o' with _|(_|_|_)<;>simp[bu]at a ⊢;subst a;rfl
 .rfl
def qtT{b:Op}{id:Nat}{v:Operand->U}{H H2:List aJ}{p:U}(o:dh P b≠3)(m:aR b=Z)(h:Ax P b id v H=O (p,H))(n:2<=dh P b->H2.map bu=H.map bu):Ax P b id v H2=O (p,H2):=by
 by_cases c:dh P b<2;.exact qrz c m h H2
 .have d:=n (by omega);have a:∀{q i:Q U},i=q->(q.map λp=>(p,H))=O (p,H)->(i.map λp=>(p,H2))=O (p,H2):=by intro q i e s;let⟨z,t,r⟩:=fJ s;cases r;rw[e,t];rfl
  unfold Ax at h ⊢;split at h
  all_goals first
   |(cases h;done)
   |(simp[dh]at c;done)
   |(simp[dh]at o;done)
   |(simp[aR]at m;done)
   |exact a (qiI d) h
   |exact a (qdO d) h
   |exact a (qjU d) h
def cR(P:I)(rw:List Nat)(o:M):Nat:=match o.op with|.call {callee:=.value _,..}=>if(o.dst.any λd=>rw.contains (8 * d+1))then 3 else 0|op=>dh P op
def UO{rw:V Nat}{o:M}(h:∀f args a,o.op≠.call {callee:=.value f,args,argTypes:=a}):cR P rw o=dh P o.op:=by
 unfold cR;split;.rename_i b;exact absurd b (h _ _ _)
 .rfl
def qek:Op->K|.call {callee:=.value _,..}=>T|_=>Z
def Id(i a n:Nat):V Rs:=(List.range n).map λk=>(T,i,a+k)
inductive mM(P:Program)(GE:List (Nat×List PVal))(bi:Option (Nat×aJ))(rw:List Nat)(o:Oper)(id:Nat)(s:aF):aF->List Rs->Prop where
 | call (d:Nat) (f:Operand) (args:Array Operand) (tys:Array TypeId) (g:FuncId) (first cap:List PVal) (r:PVal) (ro:List (Nat×TypeId)) (ho:o.op = .call { callee := .value f,args,argTypes:=tys }) (hd:o.dst = some d)
   (hf:opv GE s.tmps f=.func (.func g) first cap) (hcl:kT 0 (first++args.toList.map (opv GE s.tmps)++cap)) (hc:C P GE g (first++args.toList.map (opv GE s.tmps)++cap) [] [] r ro []):
   mM P GE bi rw o id s ⟨s.tmps.set d r,s.boxes,(ro.map λx=>((d,x.1),x.2))++cU d s.own⟩ [(false,d,0)]
 |alloc (d:Nat) (t:TypeId) (zs:List PVal) (ho:o.op=.alloc t) (hd:o.dst=some d) (hz:ft P t=some zs):mM P GE bi rw o id s ⟨s.tmps.set d (.bptr id 0),s.boxes,cU d s.own⟩ [(false,d,0)]
 |mkmap (d:Nat) (t:TypeId) (ho:o.op=.makeMap t none) (hd:o.dst=some d):mM P GE bi rw o id s ⟨s.tmps.set d (.mapr id),s.boxes,cU d s.own⟩ [(false,d,0)]
 | ev (d:Nat) (p:PVal) (hd:o.dst = some d) (hn:qek o.op = false) (hm:aR o.op = false) (hc:dh P o.op ≠ 3) (h:Ax P o.op id (opv GE s.tmps) s.boxes = some (p,s.boxes)) :
   mM P GE bi rw o id s ⟨s.tmps.set d p,s.boxes,cU d s.own⟩ [(false,d,0)]
 | res (d:Nat) (p:PVal) (L:List (Nat×TypeId)) (hd:o.dst = some d)
   (h:(∃T len parts e,o.op=.buildSlice T len parts/\gV P T len (parts.toList.map λx=>(x.1,opv GE s.tmps x.2))=some p/\P.underlying T=some (.slice e)/\L=[(0,e)])\/
    (∃T parts,o.op=.build T parts/\df P T (parts.toList.map λx=>(x.1,opv GE s.tmps x.2))=some p/\Ce P T (parts.toList.map λx=>(x.1,opv GE s.tmps x.2)) L)\/
    (∃v e,(o.op=.assign (.const v)\/o.op=.move (.const v))/\DP P o.type v=some e/\p=.slice []/\L=[(0,e)])):
   mM P GE bi rw o id s ⟨s.tmps.set d p,s.boxes,(L.map λx=>((d,x.1),x.2))++cU d s.own⟩ [(false,d,0)]
 | app (d t:Nat) (T e:TypeId) (y:Operand) (es ns:List (List PVal)) (p:PVal) (hd:o.dst = some d) (ho:o.op = .call { callee := .builtin .append,args:=⟨[.tmp t,y]⟩,argTypes:=⟨[T,T]⟩ })
   (hT:P.underlying T=some (.slice e)) (he:s.tmps.getD t .undef=.slice es) (hn:opv GE s.tmps y=.slice ns) (hp:DR P T es ns=some p) (hm:((t,0),e)∈s.own):
   mM P GE bi rw o id s ⟨s.tmps.set d p,s.boxes,((d,0),e)::cU d (s.own.filter λx=>x.1 !=(t,0))⟩ [(false,d,0),(false,t,0)]
 | mv (d t:Nat) (hd:o.dst = some d) (ho:o.op = .assign (.tmp t)∨o.op = .move (.tmp t)) (hdt:d ≠ t) :
   mM P GE bi rw o id s ⟨s.tmps.set d (s.tmps.getD t .undef),s.boxes,vI d (λx=>if x.1=t then(d,x.2)else x) s.own⟩ [(false,d,0),(false,t,0)]
 | ld (d:Nat) (T:TypeId) (x:Operand) (i off:Nat) (cs:List PVal) (own L:List (Nat×TypeId)) (p:PVal) (hd:o.dst = some d) (ho:o.op = .load T x) (hx:opv GE s.tmps x = .bptr i off) (hB:s.boxes[i]? = some (.cells cs own))
   (h:(∃e,P.underlying T=some (.slice e)/\cs[off]? =some p/\L=[(0,e)])\/(∃fs l,P.underlying T=some (.struct fs)/\co P T (cs.drop off)=some (.agg l)/\p=.agg l/\(L.map (·.1)).Nodup/\∀y∈L,y.1<l.length))
   (hm:∀y∈L,(off+y.1,y.2)∈own):
   mM P GE bi rw o id s ⟨s.tmps.set d p,s.boxes.set i (.cells cs (own.filter λx=>!L.any λy=>x.1==off+y.1)),(L.map λy=>((d,y.1),y.2)).reverse++cU d s.own⟩ ((false,d,0)::L.map λy=>(true,i,off+y.1))
 | st (T:TypeId) (x y:Operand) (i off:Nat) (vs cs:List PVal) (own:List (Nat×TypeId)) (hd:o.dst = none) (ho:o.op = .store T x y) (hx:opv GE s.tmps x = .bptr i off) (hvs:bH (opv GE s.tmps y) = some vs) (hB:s.boxes[i]? = some (.cells cs own))
   (hp:gB P T (.bptr i off) (opv GE s.tmps y) s.boxes=some (s.boxes.set i (.cells (cs.take off++vs++cs.drop (off+vs.length)) (own.filter λy=>y.1<off||off+vs.length<=y.1)))):
   mM P GE bi rw o id s ⟨s.tmps,s.boxes.set i (.cells (cs.take off++vs++cs.drop (off+vs.length)) (own.filter λy=>y.1<off||off+vs.length<=y.1)),s.own⟩ (Id i off vs.length)
 | sto (T:TypeId) (x:Operand) (t i off:Nat) (vs cs:List PVal) (own L:List (Nat×TypeId)) (hd:o.dst = none) (ho:o.op = .store T x (.tmp t)) (hx:opv GE s.tmps x = .bptr i off) (hvs:bH (s.tmps.getD t .undef) = some vs) (hB:s.boxes[i]? = some (.cells cs own))
   (hp:gB P T (.bptr i off) (s.tmps.getD t .undef) s.boxes=some (s.boxes.set i (.cells (cs.take off++vs++cs.drop (off+vs.length)) (own.filter λy=>y.1<off||off+vs.length<=y.1))))
   (hk:(∃l,s.tmps.getD t .undef=.agg l)\/((s.tmps.getD t .undef).one=true/\∃e,L=[(0,e)])) (hm:∀y∈L,((t,y.1),y.2)∈s.own) (hn:(L.map (·.1)).Nodup) (hl:∀y∈L,y.1<vs.length):
   mM P GE bi rw o id s ⟨s.tmps,s.boxes.set i (.cells (cs.take off++vs++cs.drop (off+vs.length)) ((L.map λy=>(off+y.1,y.2)).reverse++own.filter λy=>y.1<off||off+vs.length<=y.1)),s.own.filter λx=>!L.any λy=>x.1==(t,y.1)⟩
    ((false,t,0)::Id i off vs.length)
 |mu (t:TypeId) (m k x:Operand) (H:List aJ) (hd:o.dst=none) (ho:o.op=.mapUpdate t m k x) (hp:ka P t (opv GE s.tmps m) (opv GE s.tmps k) (opv GE s.tmps x) s.boxes=some H):mM P GE bi rw o id s ⟨s.tmps,H,s.own⟩ []
 | callR (d:Nat) (f:Operand) (args:Array Operand) (tys:Array TypeId) (r:PVal) (ro:List (Nat×TypeId)) (oa:List OA) (ho:o.op = .call { callee := .value f,args,argTypes:=tys }) (hd:o.dst = some d)
   (hg:∀st:aF,(∀x,x=f\/x∈args.toList->opv GE s.tmps x=opv GE st.tmps x)->(∀x∈oa,((x.t,x.k),x.e)∈s.own->((x.t,x.k),x.e)∈st.own)->T9 P GE f args.toList st r ro st.boxes oa):
   mM P GE bi rw o id s ⟨s.tmps.set d r,s.boxes,(ro.map λx=>((d,x.1),x.2))++cU d (s.own.filter λz=>!oa.any λx=>z.1==(x.t,x.k))⟩ ((false,d,0)::oa.map λx=>(false,x.t,0))
 | stR (T:TypeId) (x y:Operand) (i off:Nat) (cs cs':List PVal) (hd:o.dst = none) (ho:o.op = .store T x y) (hx:opv GE s.tmps x = .bptr i off) (hB:s.boxes[i]? = some (.cells cs []))
   (hp:gB P T (.bptr 0 off) (opv GE s.tmps y) [.cells cs []]=some [.cells cs' []]) (hi:2 * i∈rw):
   mM P GE bi rw o id s ⟨s.tmps,s.boxes.set i (.cells cs' []),s.own⟩ []
structure qxf(P:Program)(rw:List Nat)(o:Oper)(s s':aF)(rs:List Rs):Prop where
 tm:match o.dst with
  |some d=>∃p,s'.tmps=s.tmps.set d p
  |none=>s'.tmps=s.tmps
 bx:cR P rw o≠3->s'.boxes.map bu=s.boxes.map bu
 back:∀τ,fk τ∉rs->lp s' τ->lp s τ
def qe1{H:V aJ}{i:Nat}{b:V U}{own a:V (Nat×G)}(c:H[i]? =O (.cells b own)):(H.set i (.cells b a)).map bu=H.map bu:=by
 apply vbj;intro j;simp only[t8];by_cases d:i=j;.subst d;rw[o6 (ax c),c];rfl
 .rw[t7 d]
def dV{st:aF}{t k:Nat}{e:G}:lp st (Z,(t,k),e)↔((t,k),e)∈st.own:=Iff.rfl
def e9{a:aF}{i j:Nat}{e:G}:lp a (T,(i,j),e)↔∃b own,a.boxes[i]? =O (.cells b own)/\(j,e)∈own:=Iff.rfl
def BK{i a n c b:Nat}:(T,c,b)∈Id i a n↔c=i/\a<=b/\b<a+n:=by
 unfold Id;simp only[m8,vbG,Prod.mk.injEq,vck];constructor;.rintro⟨k,h,rfl,rfl⟩;exact⟨rfl,by omega,by omega⟩
 .rintro⟨rfl,d,e⟩;exact⟨b - a,by omega,rfl,by omega⟩
def jn{d:Nat}{own:V ((Nat×Nat)×G)}{x:(Nat×Nat)×G}(h:x∈own)(a:x.1.1≠d):x∈cU d own:=by unfold cU;exact va2.2 ⟨h,by simpa using a⟩
def Qr{t:G}{m k v:U}{H c:V aJ}(h:ka P t m k v H=O c):∃i a b,H[i]? =O (.map a)/\c=H.set i (.map b):=by
 unfold ka at h;split at h
 .rename_i o e i _ _;split at h
  .rename_i a n d _;split at h
   .split at h;.cases h;exact⟨_,a,_,d,rfl⟩
    .cases h;exact⟨_,a,_,d,rfl⟩
    .cases h
   .cases h
  .cases h
 .cases h
def jS{d:aF}{tm:V U}{h:V ((Nat×Nat)×G)}{i:Nat}{B:aJ}{b c:Nat}{e:G}(a:i≠b):lp ⟨tm,d.boxes.set i B,h⟩ (T,(b,c),e)↔lp d (T,(b,c),e):=by simp only[e9,t7 a]
def mM.eff{bi:Q (Nat×aJ)}{rw:List Nat}{o:M}{id:Nat}{s s':aF}{rs:List Rs}(h:mM P GE bi rw o id s s' rs):qxf P rw o s s' rs:=by
 have R:∀{d:Nat}{p:U}{L:List (Nat×G)}{rs:List Rs}{τ:qkf},(Z,d,0)∈rs->fk τ∉rs->lp ⟨s.tmps.set d p,s.boxes,(L.map λx=>((d,x.1),x.2))++cU d s.own⟩ τ->lp s τ:=by
  rintro d p L rs ⟨b,⟨t,k⟩,e⟩ c n a;cases b with
  |true=>exact a
  | false =>
   rcases vaQ.1 (dV.1 a)with a|a;.simp only[m8,Prod.mk.injEq]at a;obtain⟨x,_,⟨rfl,_⟩,_⟩:=a;exact absurd c n
   .exact(eZ a).1
 have q:∀{d:Nat}{p:U}{rs:List Rs}{τ:qkf},(Z,d,0)∈rs->fk τ∉rs->lp ⟨s.tmps.set d p,s.boxes,cU d s.own⟩ τ->lp s τ:=λ{d p rs τ} c n a=>R (L:=[]) c n a;cases h with
 |call d f args tys g first cap r ro ho c hf hcl X=>exact⟨by rw[c];exact⟨r,rfl⟩,λ_=>rfl,λτ n a=>R (by simp) n a⟩
 |alloc d t zs ho c hz=>exact⟨by rw[c];exact⟨_,rfl⟩,λ_=>rfl,λτ n a=>q (by simp) n a⟩
 |mkmap d t ho c=>exact⟨by rw[c];exact⟨_,rfl⟩,λ_=>rfl,λτ n a=>q (by simp) n a⟩
 |ev d p c hn hm X h=>exact⟨by rw[c];exact⟨_,rfl⟩,λ_=>rfl,λτ n a=>q (by simp) n a⟩
 |res d p L c h=>exact⟨by rw[c];exact⟨_,rfl⟩,λ_=>rfl,λτ n a=>R (by simp) n a⟩
 | app d t a4 e y es ns p c ho hT he hn hp hm =>
  refine⟨by rw[c];exact⟨_,rfl⟩,λ_=>rfl,?_⟩;rintro⟨b,⟨A,k⟩,e'⟩ n a;cases b with
  |true=>exact a
  | false =>
   rcases oL.1 (dV.1 a)with a|a;.cases a;exact absurd (by simp[fk]) n
   .exact(cK (eZ a).1).1
 | mv d t c ho hdt =>
  refine⟨by rw[c];exact⟨_,rfl⟩,λ_=>rfl,?_⟩;rintro⟨b,⟨A,k⟩,e'⟩ n a;cases b with
  |true=>exact a
  | false =>
   have a:=dV.1 a;simp only[vI,m8]at a;obtain⟨⟨⟨t2,k2⟩,e2⟩,hx,he⟩:=a;simp only[Prod.mk.injEq]at he;obtain⟨he,rfl⟩:=he;split at he;.cases he;exact absurd (by simp[fk]) n
   .cases he;exact(eZ hx).1
 | ld d a4 x i off cs own L p c ho hx w h hm =>
  refine⟨by rw[c];exact⟨_,rfl⟩,λ_=>qe1 w,?_⟩;rintro⟨b,⟨A,k⟩,e'⟩ n a;cases b with
  | true =>
   by_cases z:i=A;.subst z;let⟨S,F,B,E⟩:=e9.1 a;simp only[o6 (ax w),q8,aJ.cells.injEq]at B;obtain⟨rfl,rfl⟩:=B;exact⟨_,_,w,(cK E).1⟩
   .exact(jS z).1 a
  | false =>
   rcases vaQ.1 (dV.1 a)with a|a;.simp only[vch,m8,Prod.mk.injEq]at a;obtain⟨y,_,⟨rfl,_⟩,_⟩:=a;exact absurd (by simp[fk]) n
   .exact(eZ a).1
 | st a4 x y i off vs cs own c ho hx hvs w hp =>
  refine⟨by rw[c],λX=>absurd (by simp[cR,dh,ho]) X,?_⟩;rintro⟨b,⟨A,k⟩,e'⟩ n a;cases b with
  |false=>exact a
  | true =>
   by_cases z:i=A;.subst z;let⟨S,F,B,E⟩:=e9.1 a;simp only[o6 (ax w),q8,aJ.cells.injEq]at B;obtain⟨rfl,rfl⟩:=B;exact⟨_,_,w,(cK E).1⟩
   .exact(jS z).1 a
 | sto a4 x t i off vs cs own L c ho hx hvs w hp hk hm hn hl =>
  refine⟨by rw[c],λX=>absurd (by simp[cR,dh,ho]) X,?_⟩;rintro⟨b,⟨A,k⟩,e'⟩ n a;cases b with
  |false=>exact(cK (dV.1 a)).1
  | true =>
   by_cases z:i=A
   .subst z;let⟨S,F,B,E⟩:=e9.1 a;simp only[o6 (ax w),q8,aJ.cells.injEq]at B;obtain⟨rfl,rfl⟩:=B;rcases vaQ.1 E with E|E
    .simp only[vch,m8,Prod.mk.injEq]at E;obtain⟨y,hy,rfl,_⟩:=E;refine absurd (vaP _ (BK.2 ⟨rfl,?_,?_⟩)) n;.simp
     .have:=hl y hy;simp;omega
    .exact⟨_,_,w,(cK E).1⟩
   .exact(jS z).1 a
 | mu t m k x H c ho hp =>
  refine⟨by rw[c],λX=>absurd (by simp[cR,dh,ho]) X,?_⟩;obtain⟨i,es,a3,w,rfl⟩:=Qr hp;rintro⟨b,⟨A,k⟩,e'⟩ n a;cases b with
  |false=>exact a
  | true =>
   by_cases z:i=A;.subst z;let⟨S,F,B,E⟩:=e9.1 a;simp only[o6 (ax w),q8]at B;cases B
   .exact(jS z).1 a
 | callR d f args tys r ro oa ho c hg =>
  refine⟨by rw[c];exact⟨r,rfl⟩,λ_=>rfl,?_⟩;rintro⟨b,⟨A,k⟩,e'⟩ n a;cases b with
  |true=>exact a
  | false =>
   rcases vaQ.1 (dV.1 a)with a|a;.simp only[m8,Prod.mk.injEq]at a;obtain⟨x,_,⟨rfl,_⟩,_⟩:=a;exact absurd (by simp[fk]) n
   .exact(cK (eZ a).1).1
 | stR a4 x y i off cs S c ho hx w hp z =>
  refine⟨by rw[c],λX=>absurd (by simp[cR,dh,ho]) X,?_⟩;rintro⟨b,⟨A,k⟩,e'⟩ n a;cases b with
  |false=>exact a
  | true =>
   by_cases a0:i=A;.subst a0;let⟨a2,a1,k1,k2⟩:=e9.1 a;simp only[o6 (ax w),q8,aJ.cells.injEq]at k1;obtain⟨rfl,rfl⟩:=k1;cases k2
   .exact(jS a0).1 a
def qhY{H a:List aJ}(h:a.map bu=H.map bu){i:Nat}{b:List (U×U)}(d:H[i]? =O (.map b)):a[i]? =O (.map b):=by
 have:=qgc h i;rw[d]at this;cases c:a[i]? with
 |none=>rw[c]at this;cases this
 |some B=>rw[c]at this;cases B<;>simp[bu]at this;subst this;rfl
def MJ{H b:V aJ}(h:b.map bu=H.map bu){i:Nat}{B a:aJ}(c:bu a=bu B):(b.set i a).map bu=(H.set i B).map bu:=by rw[List.map_set,List.map_set,h,c]
def qdP{t:G}{m k v:U}{H e c:V aJ}(p:c.map bu=H.map bu)(h:ka P t m k v H=O e):∃i a,m=.mapr i/\e=H.set i (.map a)/\ka P t m k v c=O (c.set i (.map a)):=by
 unfold ka at h ⊢;split at h
 .split at h
  .rename_i q r n o;split at h
   .rename_i b;split at h;.rename_i d;cases h;refine⟨_,_,rfl,rfl,?_⟩;simp only[qhY p n,o,hU b,d]
    .rename_i d;cases h;refine⟨_,_,rfl,rfl,?_⟩;simp only[qhY p n,o,hU b,d]
    .cases h
   .cases h
  .cases h
 .cases h
structure qne(P:Program)(bs:cF)(rw:List Nat)(o:Oper)(st st' s s':aF)(rs:List Rs):Prop where
 tm:match o.dst with
  |some d=>∃p,st'.tmps=st.tmps.set d p/\s'.tmps=s.tmps.set d p
  |none=>st'.tmps=st.tmps/\s'.tmps=s.tmps
 b1:cR P rw o≠3->st'.boxes.map bu=st.boxes.map bu
 b2:cR P rw o=3->st'.boxes.map bu=s'.boxes.map bu
 keep:∀τ,fk τ∉rs->(τ.1=true->2 * τ.2.1.1∉rw)->lp st τ->lp st' τ
 got:∀τ,fk τ∈rs->lp s' τ->lp st' τ
 un:∀i:Nat,bs[i]? =some none->st'.boxes[i]? =st.boxes[i]?
def qbF{st:aF}{tm:List U}{d:Nat}{L:List (Nat×G)}{rs:List Rs}{R:qkf->Prop}(c:(Z,d,0)∈rs)(τ:qkf)(i:fk τ∉rs)(_:R τ)(h:lp st τ):lp ⟨tm,st.boxes,(L.map λx=>((d,x.1),x.2))++cU d st.own⟩ τ:=by let⟨b,⟨t,k⟩,e⟩:=τ;cases b with|true=>exact h|false=>exact vaM _ (jn (dV.1 h) λa=>by simp only at a;subst a;exact i c)
def qjw{i s:aF}{tm c:List U}{d:Nat}{L:List (Nat×G)}(τ:qkf)(a:fk τ∈[(Z,d,0)])(h:lp ⟨c,s.boxes,(L.map λx=>((d,x.1),x.2))++cU d s.own⟩ τ):lp ⟨tm,i.boxes,(L.map λx=>((d,x.1),x.2))++cU d i.own⟩ τ:=by
 let⟨b,⟨t,k⟩,e⟩:=τ;cases b with
 |true=>simp[fk]at a
 | false =>
  rcases vaQ.1 (dV.1 h)with h|h;.exact vaU _ h
  .have:=(eZ h).2;simp[fk]at a;exact absurd a this
section
variable{E:BP}{Γ:ca}{bs:cF}{c:Nat->Q rI}{w:J}{a:Act}{st:aF}
def VQ{t:G}{i b:Nat}{y:U}{m h:V U}{own:V (Nat×G)}{H q:V aJ}(e:bH y=O m)(r:H[i]? =O (.cells h own))(p:gB P t (.bptr i b) y H=O q){n:V aJ}{d:V (Nat×G)}(o:n[i]? =O (.cells h d)):gB P t (.bptr i b) y n=O (n.set i (.cells (h.take b++m++h.drop (b+m.length)) (d.filter λy=>y.1<b||b+m.length<=y.1))):=by
 simp only[gB,e,r]at p;simp only[gB,e,o];split at p;.rename_i s;rw[hU s]
 .cases p
def qjY{z:G}{i e:Nat}{y:U}{n d:V U}{m:V (Nat×G)}{H:V aJ}(b:gB P z (.bptr 0 e) y [.cells n []]=O [.cells d []])(r:H[i]? =O (.cells n m)):∃h,gB P z (.bptr i e) y H=O (H.set i (.cells d h)):=by
 unfold gB at b ⊢;split at b
 .rename_i t o x p q;cases p;simp only[List.getElem?_cons_zero]at b;simp only[q,r];split at b;.rename_i s;rw[hU s];simp only[List.set_cons_zero,q8,vbI,aJ.cells.injEq,vcj]at b;obtain⟨rfl,_⟩:=b;exact⟨_,rfl⟩
  .cases b
 .cases b
def mM.sound(h:SR P E Γ bs c w a.tmps st){bi:Option (Nat×aJ)}{rw:List Nat}{o:M}{id:Nat}{s s':aF}{rs:List Rs}(hs:mM P E.GE bi rw o id s s' rs)(bg:aR o.op=T->bs[id]? =O N/\st.boxes[id]? =th P o)(c7:∀i B,bi=O (i,B)->bs[i]? =O N/\st.boxes[i]? =O B)
    (A:∀x∈o.op.operands.toList,opv E.GE s.tmps x=opv E.GE st.tmps x) (a9:2<=cR P rw o->st.boxes.map bu=s.boxes.map bu) (a2:∀τ,fk τ∈rs->lp s τ->lp st τ) (ab:∀d,o.dst=O d->d<st.tmps.length)
    (Q:Exit->Act->J->Prop):
    o.wp P a w (λa' w'=>a'.defers=a.defers/\∃b5 a4 b3 st',SR P E b5 a4 b3 w' a'.tmps st'/\qne P bs rw o st st' s s' rs/\(a4=bs\/(aR o.op=T/\∃b,a4=bs.set id (O b))\/∃i B x,bi=O (i,B)/\a4=bs.set i x)) Q:=by
  have fin:∀{st'},qne P bs rw o st st' s s' rs->o.wp P a w (jw P E bs id (aR o.op) a.defers (·=st')) Q->o.wp P a w (λa' w'=>a'.defers=a.defers/\∃b5 a4 b3 st',SR P E b5 a4 b3 w' a'.tmps st'/\qne P bs rw o st st' s s' rs/\(a4=bs\/(aR o.op=T/\∃b,a4=bs.set id (O b))\/∃i B x,bi=O (i,B)/\a4=bs.set i x)) Q:=by intro st' hD hw;refine Oper.wp_mono (λa' w' hA=>?_) hw;obtain⟨h1,b5,a4,b3,c8,h2,rfl,h3⟩:=hA;exact⟨h1,b5,a4,b3,_,h2,hD,h3.imp_right .inl⟩
  have a5:aR o.op=T->bs[id]? =O N:=λhm=>(bg hm).1
  have ao:∀{x:Operand}{i off:Nat},opv E.GE st.tmps x=.bptr i off->∃b,bs[i]? =O (O b):=by intro x i off X;have hv:=h.opv a.defers x;rw[X]at hv;generalize (Act.mk a.tmps a.defers).eval x=vx at hv;cases hv with|bptr _ _ b hb=>exact⟨b,hb⟩
  cases hs with
  | call d f args b0 g first cap r ro n hd hf ar hc =>
    have an:∀x,x=f\/x∈args.toList->opv E.GE s.tmps x=opv E.GE st.tmps x:=λx X=>A x (by rw[n];simp[Op.operands,Call.operands];simpa using X)
    have be:args.toList.map (opv E.GE s.tmps)=args.toList.map (opv E.GE st.tmps):=vbq λx X=>an x (.inr X)
    rw[be]at ar hc
    rw[an f (.inl rfl)]at hf
    refine fin (st':=⟨st.tmps.set d r,st.boxes,(ro.map λx=>((d,x.1),x.2))++cU d st.own⟩) ⟨by rw[hd];exact⟨r,rfl,rfl⟩,λ_=>rfl,λhc=>a9 (by rw[hc];decide),qbF (by simp),qjw,λ_ _=>rfl⟩ ?_
    refine jw.of h a5 (by simp[sZ,n,hd,ab d hd]) ?_ Q
    unfold qdN
    rw[n]
    simp only[TE,hf]
    refine .inl ⟨ar,r,ro,hc,?_⟩
    rw[hd];rfl
  | alloc d t zs n hd hz =>
    have ad:=(bg (by rw[n];rfl)).2
    simp only[th,n,hz]at ad
    refine fin (st':=⟨st.tmps.set d (.bptr id 0),st.boxes,cU d st.own⟩) ⟨by rw[hd];exact⟨_,rfl,rfl⟩,λ_=>rfl,λhc=>by simp[cR,dh,n]at hc,qbF (L:=[]) (by simp),qjw (L:=[]),λ_ _=>rfl⟩ ?_
    refine jw.of h a5 (by simp[sZ,n]) ?_ Q
    unfold qdN
    rw[n]
    simp only[Ax,hz,oo,VZ ad]
    rw[hd];rfl
  | mkmap d t n hd =>
    have ad:=(bg (by rw[n];rfl)).2
    simp only[th,n]at ad
    refine fin (st':=⟨st.tmps.set d (.mapr id),st.boxes,cU d st.own⟩) ⟨by rw[hd];exact⟨_,rfl,rfl⟩,λ_=>rfl,λhc=>by simp[cR,dh,n]at hc,qbF (L:=[]) (by simp),qjw (L:=[]),λ_ _=>rfl⟩ ?_
    refine jw.of h a5 (by simp[sZ,n]) ?_ Q
    unfold qdN
    rw[n]
    simp only[Ax,VZ ad]
    rw[hd];rfl
  | ev d p hd hn hm hc hp =>
    have b8:∀f args b0,o.op≠.call {callee:=.value f,args,argTypes:=b0}:=λf args b0 e=>by rw[e]at hn;cases hn
    rw[UO b8]at a9
    have a3:=qtT (H2:=st.boxes) hc hm hp λh2=>a9 h2
    rw[qo1 A]at a3
    refine fin (st':=⟨st.tmps.set d p,st.boxes,cU d st.own⟩) ⟨by rw[hd];exact⟨_,rfl,rfl⟩,λ_=>rfl,λbr=>by rw[UO b8]at br;exact absurd br hc,qbF (L:=[]) (by simp),qjw (L:=[]),λ_ _=>rfl⟩ ?_
    refine jw.of h a5 ?_ ?_ Q
    . unfold sZ
      split
      .rename_i f args b0 n;exact absurd n (b8 _ _ _)
      .rfl
    . unfold qdN
      split
      .rename_i f args b0 n;exact absurd n (b8 _ _ _)
      . rw [a3]
        show Jj st o.dst p [] st.boxes=_
        rw[hd];rfl
  | res d p L hd q =>
    have ar:cR P rw o≠3:=by rcases q with⟨c9,len,S,e,n,_⟩|⟨c9,S,n,_⟩|⟨v,e,n|n,_⟩<;>simp[cR,dh,n]
    refine fin (st':=⟨st.tmps.set d p,st.boxes,(L.map λx=>((d,x.1),x.2))++cU d st.own⟩) ⟨by rw[hd];exact⟨_,rfl,rfl⟩,λ_=>rfl,λhc=>absurd hc ar,qbF (by simp),qjw,λ_ _=>rfl⟩ ?_
    rcases q with⟨c9,len,S,e,n,h1,h2,rfl⟩|⟨c9,S,n,h1,h2⟩|⟨v,e,n,h1,rfl,rfl⟩
    . have bn:(S.toList.map fun x => (x.1,opv E.GE s.tmps x.2)) = S.toList.map fun x => (x.1,opv E.GE st.tmps x.2):=vbq fun x X => by rw [A x.2 (by rw [n]; simp only [Op.operands]; exact m8.2 ⟨x,X,rfl⟩)]
      rw[bn]at h1
      exact JJ (K:=(·=_)) h n hd (ab d hd) h2 h1 rfl Q
    . have bn:(S.toList.map fun x => (x.1,opv E.GE s.tmps x.2)) = S.toList.map fun x => (x.1,opv E.GE st.tmps x.2):=vbq fun x X => by rw [A x.2 (by rw [n]; simp only [Op.operands]; exact m8.2 ⟨x,X,rfl⟩)]
      rw[bn]at h1 h2
      exact P3 (K:=(·=_)) h n hd (ab d hd) h1 h2 rfl Q
    .exact Xo (K:=(·=_)) h n hd (ab d hd) h1 rfl Q
  | app d t c9 e y es ns p hd n hT he hn hp hm =>
    have an:∀x,x=.tmp t\/x=y->opv E.GE s.tmps x=opv E.GE st.tmps x:=λx X=>A x (by rw[n];simp[Op.operands,Call.operands];rcases X with rfl|rfl<;>simp)
    have c1:st.tmps.getD t .undef=.slice es:=(an (.tmp t) (.inl rfl)).symm.trans he
    rw[an y (.inr rfl)]at hn
    have c3:((t,0),e)∈st.own:=a2 (Z,(t,0),e) (by simp[fk]) hm
    refine fin (st':=⟨st.tmps.set d p,st.boxes,((d,0),e)::cU d (st.own.filter λx=>x.1 !=(t,0))⟩) ⟨by rw[hd];exact⟨_,rfl,rfl⟩,λ_=>rfl,λhc=>by simp[cR,dh,n]at hc,?_,?_,λ_ _=>rfl⟩ (UL (K:=(·=_)) h n hd (ab d hd) hT c1 hn hp c3 rfl Q)
    . rintro ⟨b,⟨t',k⟩,e'⟩ F _ q
      cases b with
      |true=>exact q
      | false =>
        simp[fk]at F
        refine vaP _ (jn (va2.2 ⟨dV.1 q,?_⟩) F.1)
        simp only[bne_iff_ne,ne_eq,Prod.mk.injEq,not_and]
        exact λe=>absurd e F.2
    . rintro ⟨b,⟨t',k⟩,e'⟩ F q
      cases b with
      |true=>simp[fk]at F
      | false =>
        rcases oL.1 (dV.1 q)with q|q
        .rw[q];exact List.mem_cons_self
        . obtain ⟨h1,h2⟩:=eZ q
          let⟨h3,h4⟩:=cK h1
          have h5:((t',k),e')∈st.own:=a2 (Z,(t',k),e') F h3
          exact vaP _ (jn (va2.2 ⟨h5,h4⟩) h2)
  | mv d t hd n hdt =>
    have hg:s.tmps.getD t .undef=st.tmps.getD t .undef:=A (.tmp t) (by rcases n with n|n<;>rw[n]<;>simp[Op.operands])
    have ar:cR P rw o≠3:=by rcases n with n|n<;>simp[cR,dh,n]
    refine fin (st':=⟨st.tmps.set d (st.tmps.getD t .undef),st.boxes,vI d (λx=>if x.1=t then(d,x.2)else x) st.own⟩) ⟨by rw[hd];exact⟨_,rfl,by rw[hg]⟩,λ_=>rfl,λhc=>absurd hc ar,?_,?_,λ_ _=>rfl⟩ (TA (K:=(·=_)) h n hd (ab d hd) rfl Q)
    . rintro ⟨b,⟨t',k⟩,e'⟩ F _ q
      cases b with
      |true=>exact q
      | false =>
        simp[fk]at F
        refine m8.2 ⟨((t',k),e'),jn (dV.1 q) F.1,?_⟩
        simp only
        rw[hG F.2]
    . rintro ⟨b,⟨t',k⟩,e'⟩ F q
      cases b with
      |true=>simp[fk]at F
      | false =>
        obtain⟨⟨⟨t2,k2⟩,e2⟩,X,he⟩:=m8.1 (dV.1 q)
        simp only[Prod.mk.injEq]at he
        obtain⟨he,rfl⟩:=he
        let⟨h1,h2⟩:=eZ X
        by_cases ht:t2=t
        . subst ht
          rw[hU rfl]at he
          cases he
          have h5:((t2,k),e2)∈st.own:=a2 (Z,(t2,k),e2) (by simp[fk]) h1
          exact m8.2 ⟨((t2,k),e2),jn h5 h2,by simp⟩
        . rw [hG ht] at he
          cases he
          simp[fk]at F
          rcases F with F|F
          .exact absurd F h2
          .exact absurd F ht
  | ld d c9 x i off cs own L p hd n X hB q hm =>
    have a0:opv E.GE st.tmps x=.bptr i off:=(A x (by rw[n];simp[Op.operands])).symm.trans X
    let⟨bb,a8⟩:=ao a0
    let⟨own2,R⟩:=LS (a9 (by simp[cR,dh,n])) hB
    have b1:∀y∈L,(off+y.1,y.2)∈own2:=λy hy=>by let⟨a7,a1,e1,e2⟩:=e9.1 (a2 (T,(i,off+y.1),y.2) (vaP _ (m8.2 ⟨y,hy,rfl⟩)) ⟨cs,own,hB,hm y hy⟩);rw[R]at e1;cases e1;exact e2
    refine fin (st':=⟨st.tmps.set d p,st.boxes.set i (.cells cs (own2.filter λx=>!L.any λy=>x.1==off+y.1)),(L.map λy=>((d,y.1),y.2)).reverse++cU d st.own⟩)
      ⟨by rw[hd];exact⟨_,rfl,rfl⟩,λ_=>qe1 R,λhc=>by simp[cR,dh,n]at hc,?_,?_,λk hk=>by rw[t7 (λe=>by subst e;rw[a8]at hk;cases hk)]⟩ ?_
    . rintro ⟨b,⟨t',k⟩,e'⟩ F _ q
      cases b with
      |false=>exact vaM _ (jn (dV.1 q) λX=>F (by simp only at X;subst X;simp[fk]))
      | true =>
        by_cases hi:i=t'
        . subst hi
          let⟨a7,a1,e1,e2⟩:=e9.1 q
          rw[R]at e1;cases e1
          refine⟨_,_,o6 (ax R),va2.2 ⟨e2,?_⟩⟩
          simp only[vaV,vbk,o5]
          intro y hy e
          exact F (vaP _ (m8.2 ⟨y,hy,by simp[fk,e]⟩))
        .exact(jS hi).2 q
    . rintro ⟨b,⟨t',k⟩,e'⟩ F q
      cases b with
      | false =>
        rcases vaQ.1 (dV.1 q)with q|q
        .exact vaU _ q
        . have h2:=(eZ q).2
          simp[fk]at F
          exact absurd F h2
      | true =>
        exfalso
        have bq:(T,t',k)∈L.map λy=>(T,i,off+y.1):=by simpa[fk]using F
        let⟨y,hy,e⟩:=m8.1 bq
        simp only[Prod.mk.injEq,vck]at e
        obtain⟨rfl,rfl⟩:=e
        let⟨a7,a1,e1,e2⟩:=e9.1 q
        simp only[o6 (ax hB),q8,aJ.cells.injEq]at e1
        obtain⟨rfl,rfl⟩:=e1
        have:=(cK e2).2
        simp only[vaV,vbk,o5]at this
        exact this y hy rfl
    . rcases q with ⟨e,hT,hp,rfl⟩ | ⟨fs,l,hT,hp,rfl,hn,hl⟩
      . refine SO (K:=(· = _)) h n hd (ab d hd) hT a0 R hp (b1 _ (vcE _)) ?_ Q
        simp only[ox,vcd,vc4,List.reverse_nil,va6,List.singleton_append,aF.mk.injEq,vck,vcj]
        congr 3
        funext z
        simp[bne]
      . refine TH h (K:=(· = _)) ?_ Q
        unfold qcp
        simp only[n,hd]
        exact⟨i,off,cs,own2,L,l,⟨fs,hT⟩,a0,R,hp,b1,hn,hl,ab d hd,rfl⟩
  | st c9 x y i off vs cs own hd n X hvs hB hp =>
    have a0:opv E.GE st.tmps x=.bptr i off:=(A x (by rw[n];simp[Op.operands])).symm.trans X
    have b2:opv E.GE s.tmps y=opv E.GE st.tmps y:=A y (by rw[n];simp[Op.operands])
    rw[b2]at hvs hp
    let⟨bb,a8⟩:=ao a0
    have a6:=a9 (by simp[cR,dh,n])
    let⟨own2,R⟩:=LS a6 hB
    have a3:=VQ hvs hB hp R
    refine fin (st':=⟨st.tmps,st.boxes.set i (.cells (cs.take off++vs++cs.drop (off+vs.length)) (own2.filter λy=>y.1<off||off+vs.length<=y.1)),st.own⟩)
      ⟨by rw[hd];exact⟨rfl,rfl⟩,λhc=>absurd (by simp[cR,dh,n]) hc,λ_=>MJ a6 rfl,?_,?_,λk hk=>by rw[t7 (λe=>by subst e;rw[a8]at hk;cases hk)]⟩ ?_
    . rintro ⟨b,⟨t',k⟩,e'⟩ F _ q
      cases b with
      |false=>exact q
      | true =>
        by_cases hi:i=t'
        . subst hi
          let⟨a7,a1,e1,e2⟩:=e9.1 q
          rw[R]at e1;cases e1
          refine⟨_,_,o6 (ax R),va2.2 ⟨e2,?_⟩⟩
          simp only[va5,nm]
          by_cases h1:k<off
          .exact .inl h1
          .exact .inr (vbY λh2=>F (BK.2 ⟨rfl,by simp only;omega,by simp only;omega⟩))
        .exact(jS hi).2 q
    . rintro ⟨b,⟨t',k⟩,e'⟩ F q
      cases b with
      |false=>simp[fk,Id]at F
      | true =>
        exfalso
        obtain⟨rfl,h1,h2⟩:=BK.1 F
        let⟨a7,a1,e1,e2⟩:=e9.1 q
        simp only[o6 (ax hB),q8,aJ.cells.injEq]at e1
        obtain⟨rfl,rfl⟩:=e1
        have:=(cK e2).2
        simp only[va5,nm]at this
        simp only at h1 h2
        omega
    . refine jw.of h a5 (by simp [sZ,n]) ?_ Q
      unfold qdN
      rw[n]
      simp only[Ax,a0,a3,oo]
      rw[hd];rfl
  | sto c9 x t i off vs cs own L hd n X hvs hB hp hk hm hn hl =>
    have a0:opv E.GE st.tmps x=.bptr i off:=(A x (by rw[n];simp[Op.operands])).symm.trans X
    have b2:s.tmps.getD t .undef=st.tmps.getD t .undef:=A (.tmp t) (by rw[n];simp[Op.operands])
    rw[b2]at hvs hp hk
    let⟨bb,a8⟩:=ao a0
    have a6:=a9 (by simp[cR,dh,n])
    let⟨own2,R⟩:=LS a6 hB
    have a3:=VQ hvs hB hp R
    have b1:∀y∈L,((t,y.1),y.2)∈st.own:=λy hy=>a2 (Z,(t,y.1),y.2) (by simp[fk]) (hm y hy)
    have bc:=o6 (a:=aJ.cells (cs.take off++vs++cs.drop (off+vs.length)) (own2.filter λy=>y.1<off||off+vs.length<=y.1)) (ax R)
    refine fin (st':=⟨st.tmps,st.boxes.set i (.cells (cs.take off++vs++cs.drop (off+vs.length)) ((L.map λy=>(off+y.1,y.2)).reverse++own2.filter λy=>y.1<off||off+vs.length<=y.1)),st.own.filter λx=>!L.any λy=>x.1==(t,y.1)⟩)
      ⟨by rw[hd];exact⟨rfl,rfl⟩,λhc=>absurd (by simp[cR,dh,n]) hc,λ_=>MJ a6 rfl,?_,?_,λk hk=>by rw[t7 (λe=>by subst e;rw[a8]at hk;cases hk)]⟩ ?_
    . rintro ⟨b,⟨t',k⟩,e'⟩ F _ q
      cases b with
      | false =>
        refine va2.2 ⟨dV.1 q,?_⟩
        simp only[vaV,vbk,o5,Prod.mk.injEq,not_and]
        intro y hy e
        exact absurd (by simp[fk,e]) F
      | true =>
        by_cases hi:i=t'
        . subst hi
          let⟨a7,a1,e1,e2⟩:=e9.1 q
          rw[R]at e1;cases e1
          refine⟨_,_,o6 (ax R),vaM _ (va2.2 ⟨e2,?_⟩)⟩
          simp only[va5,nm]
          by_cases h1:k<off
          .exact .inl h1
          .exact .inr (vbY λh2=>F (vaP _ (BK.2 ⟨rfl,by simp only;omega,by simp only;omega⟩)))
        .exact(jS hi).2 q
    . rintro ⟨b,⟨t',k⟩,e'⟩ F q
      cases b with
      | false =>
        let⟨h1,h2⟩:=cK (dV.1 q)
        exact va2.2 ⟨a2 (Z,(t',k),e') F h1,h2⟩
      | true =>
        have bq:(T,t',k)∈Id i off vs.length:=by simpa[fk]using F
        obtain⟨rfl,h1,h2⟩:=BK.1 bq
        let⟨a7,a1,e1,e2⟩:=e9.1 q
        simp only[o6 (ax hB),q8,aJ.cells.injEq]at e1
        obtain⟨rfl,rfl⟩:=e1
        rcases vaQ.1 e2 with e2|e2
        .exact⟨_,_,o6 (ax R),vaU _ e2⟩
        . exfalso
          have:=(cK e2).2
          simp only[va5,nm]at this
          omega
    . rcases hk with ⟨l,hl⟩ | ⟨hone,e,rfl⟩
      . refine TH h (K:=(· = _)) ?_ Q
        unfold qcp
        simp only[n,hd]
        refine⟨i,off,_,_,_,L,l,a0,hl,by rw[<-hl];exact a3,bc,b1,hn,?_⟩
        rw[vbV]
      . refine QI (K:=(· = _)) h n a0 (by rw [a0]; exact a3) bc hone (b1 _ (vcE _)) ?_ Q
        rw[hd,vbV]
        simp only[Jj,ox,vcd,vc4,List.reverse_nil,va6,List.singleton_append,aF.mk.injEq,vck,Nat.add_zero]
        congr 1
        funext z
        simp[bne]
  | mu t m k x H hd n hp =>
    have a6:=a9 (by simp[cR,dh,n])
    have o1:opv E.GE s.tmps m=opv E.GE st.tmps m:=A m (by rw[n];simp[Op.operands])
    have o2:opv E.GE s.tmps k=opv E.GE st.tmps k:=A k (by rw[n];simp[Op.operands])
    have o3:opv E.GE s.tmps x=opv E.GE st.tmps x:=A x (by rw[n];simp[Op.operands])
    rw[o1,o2,o3]at hp
    obtain⟨i,c0,c4,rfl,a3⟩:=qdP a6 hp
    have bl:∃b,bs[i]? =O (O b):=by have hv:=h.opv a.defers m;rw[c4]at hv;generalize (Act.mk a.tmps a.defers).eval m=vx at hv;cases hv with|mapr _ b hb=>exact⟨b,hb⟩
    let⟨bb,a8⟩:=bl
    let⟨i2,es,c6,hB,c2⟩:=Qr a3
    refine fin (st':=⟨st.tmps,st.boxes.set i (.map c0),st.own⟩) ⟨by rw[hd];exact⟨rfl,rfl⟩,λhc=>absurd (by simp[cR,dh,n]) hc,λ_=>MJ a6 rfl,?_,?_,λk hk=>by rw[t7 (λe=>by subst e;rw[a8]at hk;cases hk)]⟩ ?_
    . rintro ⟨b,⟨t',k'⟩,e'⟩ F _ q
      cases b with
      |false=>exact q
      | true =>
        let⟨a7,a1,e1,e2⟩:=e9.1 q
        have c5:i2≠t':=λe=>by subst e;rw[hB]at e1;cases e1
        rw[c2]
        exact(jS c5).2 q
    . intro τ F
      simp at F
    . refine jw.of h a5 (by simp [sZ,n]) ?_ Q
      unfold qdN
      rw[n]
      simp only[Ax,a3,oo]
      rw[hd];rfl
  | callR d f args b0 r ro oa n hd hg =>
    have an:∀x,x=f\/x∈args.toList->opv E.GE s.tmps x=opv E.GE st.tmps x:=λx X=>A x (by rw[n];simp[Op.operands,Call.operands];simpa using X)
    have bt:∀x∈oa,((x.t,x.k),x.e)∈s.own->((x.t,x.k),x.e)∈st.own:=λx X hm=>a2 (Z,(x.t,x.k),x.e) (vaP _ (m8.2 ⟨x,X,rfl⟩)) hm
    refine fin (st':=⟨st.tmps.set d r,st.boxes,(ro.map λx=>((d,x.1),x.2))++cU d (st.own.filter λz=>!oa.any λx=>z.1==(x.t,x.k))⟩) ⟨by rw[hd];exact⟨_,rfl,rfl⟩,λ_=>rfl,λhc=>a9 (by rw[hc];decide),?_,?_,λ_ _=>rfl⟩ (HN (K:=(·=_)) h n hd (ab d hd) (hg st an bt) rfl Q)
    . rintro ⟨b,⟨t',k⟩,e'⟩ F _ q
      cases b with
      |true=>exact q
      | false =>
        simp only[fk,oL,Prod.mk.injEq,vck,vcj,m8,vdb,not_exists,not_and]at F
        refine vaM _ (jn (va2.2 ⟨dV.1 q,?_⟩) F.1)
        simp only[vaV,vbk,o5,Prod.mk.injEq,not_and]
        exact λx X e=>absurd e.symm (F.2 x X)
    . rintro ⟨b,⟨t',k⟩,e'⟩ F q
      cases b with
      |true=>simp[fk]at F
      | false =>
        rcases vaQ.1 (dV.1 q)with q|q
        .exact vaU _ q
        . obtain ⟨h1,h2⟩:=eZ q
          let⟨h3,h4⟩:=cK h1
          have h5:((t',k),e')∈st.own:=a2 (Z,(t',k),e') F h3
          exact vaM _ (jn (va2.2 ⟨h5,h4⟩) h2)
  | stR c9 x y i off cs a7 hd n X hB hp hi =>
    have a0:opv E.GE st.tmps x=.bptr i off:=(A x (by rw[n];simp[Op.operands])).symm.trans X
    have b2:opv E.GE s.tmps y=opv E.GE st.tmps y:=A y (by rw[n];simp[Op.operands])
    rw[b2]at hp
    let⟨bb,a8⟩:=ao a0
    have a6:=a9 (by simp[cR,dh,n])
    let⟨own2,R⟩:=LS a6 hB
    let⟨a1,a3⟩:=qjY hp R
    refine fin (st':=⟨st.tmps,st.boxes.set i (.cells a7 a1),st.own⟩)
      ⟨by rw[hd];exact⟨rfl,rfl⟩,λhc=>absurd (by simp[cR,dh,n]) hc,λ_=>MJ a6 rfl,?_,λτ F=>by simp at F,λk hk=>by rw[t7 (λe=>by subst e;rw[a8]at hk;cases hk)]⟩ ?_
    . rintro ⟨b,⟨t',k⟩,e'⟩ F hn q
      cases b with
      |false=>exact q
      |true=>exact(jS (λe=>hn rfl (by subst e;exact hi))).2 q
    . refine jw.of h a5 (by simp [sZ,n]) ?_ Q
      unfold qdN
      rw[n]
      simp only[Ax,a0,a3,oo]
      rw[hd];rfl
end
end
def qmY(τ:qkf)(a:V Rs):Prop:=fk τ∈a\/(τ.1=T/\(Z,τ.2.1.1,1)∈a)
def qbC(rw:List Nat)(o:M):K:=match o.op,o.dst with|.load _ _,O d=>rw.contains (8 * d+5)|_,_=>Z
def qdB(rw:List Nat)(o:M):K:=match o.op,o.dst with|.call {callee:=.value _,..},O d=>rw.contains (8 * d+7)|_,_=>Z
def uj(P:I)(rw:V Nat)(o:M):Nat:=if qbC rw o then 0 else if qdB rw o then 2 else cR P rw o
inductive uf(P:Program)(GE:List (Nat×List PVal))(bi:Option (Nat×aJ))(rw:List Nat)(o:Oper)(id:Nat)(s:aF):aF->List Rs->Prop where
 |old {s':aF} {rs:List Rs} (h:mM P GE bi rw o id s s' rs) (hu:qbC rw o=false) (hh:qdB rw o=false):uf P GE bi rw o id s s' rs
 |ldE (d:Nat) (T:TypeId) (x:Operand) (cs:List PVal) (p:PVal) (ho:o.op=.load T x) (hd:o.dst=some d) (hi:rw.contains (8 * d+5)=true) (hx:opv GE s.tmps x=.eptr cs) (hp:co P T cs=some p):uf P GE bi rw o id s ⟨s.tmps.set d p,s.boxes,cU d s.own⟩ [(false,d,0)]
 | callG (d:Nat) (f:Operand) (args:Array Operand) (tys:Array TypeId) (r:PVal) (ro:List (Nat×TypeId)) (oa:List OA) (ρ:List Nat) (F:List aJ→List aJ) (ho:o.op = .call { callee := .value f,args,argTypes:=tys }) (hd:o.dst = some d) (hi:rw.contains (8 * d + 1) = true) (hh:rw.contains (8 * d + 7) = false)
   (F1:∀(H:List aJ)(i:Nat),i∉ρ->(F H)[i]? =H[i]?) (F3:∀(H H2:List aJ)(i:Nat),H2.map bu=H.map bu->i∈ρ->(F H2)[i]? =(F H)[i]?)
   (hg:∀st:aF,(∀x,x=f\/x∈args.toList->opv GE s.tmps x=opv GE st.tmps x)->(∀x∈oa,((x.t,x.k),x.e)∈s.own->((x.t,x.k),x.e)∈st.own)->st.boxes.map bu=s.boxes.map bu->(∀i∈ρ,∀k e,lp s (true,(i,k),e)->lp st (true,(i,k),e))->T9 P GE f args.toList st r ro (F st.boxes) oa):
   uf P GE bi rw o id s ⟨s.tmps.set d r,F s.boxes,(ro.map λx=>((d,x.1),x.2))++cU d (s.own.filter λz=>!oa.any λx=>z.1==(x.t,x.k))⟩ (((false,d,0)::oa.map λx=>(false,x.t,0))++ρ.map λi=>(false,i,1))
 | callH (d:Nat) (f:Operand) (args:Array Operand) (tys:Array TypeId) (r:PVal) (ro:List (Nat×TypeId)) (oa:List OA) (ρ:List Nat) (F:List aJ→List aJ) (ho:o.op = .call { callee := .value f,args,argTypes:=tys }) (hd:o.dst = some d) (hi:rw.contains (8 * d + 7) = true)
   (F1:∀(H:List aJ)(i:Nat),i∉ρ->(F H)[i]? =H[i]?) (F4:∀H:List aJ,H.map bu=s.boxes.map bu->(F H).map bu=H.map bu) (F5:∀(H:List aJ)(i:Nat) cs own,i∈ρ->(F H)[i]? =some (.cells cs own)->own=[]) (F6:∀i∈ρ,2 * i∈rw/\8 * i+3∈rw)
   (hg:∀st:aF,(∀x,x=f\/x∈args.toList->opv GE s.tmps x=opv GE st.tmps x)->(∀x∈oa,((x.t,x.k),x.e)∈s.own->((x.t,x.k),x.e)∈st.own)->st.boxes.map bu=s.boxes.map bu->T9 P GE f args.toList st r ro (F st.boxes) oa):
   uf P GE bi rw o id s ⟨s.tmps.set d r,F s.boxes,(ro.map λx=>((d,x.1),x.2))++cU d (s.own.filter λz=>!oa.any λx=>z.1==(x.t,x.k))⟩ ((false,d,0)::oa.map λx=>(false,x.t,0))
section
variable{P:I}{GE:V (Nat×V U)}
def mM.nw{a:Q (Nat×aJ)}{rw:V Nat}{o:M}{id:Nat}{s b:aF}{rs:V Rs}(h:mM P GE a rw o id s b rs)(i:Nat):(Z,i,1)∉rs:=by cases h<;>simp[Id]
def mM.rs_of{a:Q (Nat×aJ)}{rw:V Nat}{o:M}{id:Nat}{s d:aF}{rs:V Rs}(h:mM P GE a rw o id s d rs){τ:qkf}(b:qmY τ rs):fk τ∈rs:=b.elim (λx=>x) λc=>absurd c.2 (h.nw _)
structure qnd(P:Program)(rw:List Nat)(o:Oper)(s s':aF)(rs:List Rs):Prop where
 tm:match o.dst with
  |some d=>∃p,s'.tmps=s.tmps.set d p
  |none=>s'.tmps=s.tmps
 bx:uj P rw o≠3->s'.boxes.map bu=s.boxes.map bu
 back:∀τ,¬qmY τ rs->lp s' τ->lp s τ
def WW{rw:V Nat}{o:M}(b:qbC rw o=Z)(a:qdB rw o=Z):uj P rw o=cR P rw o:=by unfold uj;rw[b,a];rfl
def qnJ{rw:V Nat}{o:M}{f:Operand}{args:Array Operand}{a:Array G}{d:Nat}(e:o.op=.call {callee:=.value f,args,argTypes:=a})(b:o.dst=O d)(c:rw.contains (8 * d+7)=T):uj P rw o=2:=by unfold uj qbC qdB;rw[e,b];simp only[c];rfl
def Bn{rw:V Nat}{o:M}{f:Operand}{args:Array Operand}{b:Array G}{d:Nat}(a:o.op=.call {callee:=.value f,args,argTypes:=b})(c:o.dst=O d)(h:rw.contains (8 * d+1)=T)(e:rw.contains (8 * d+7)=Z):uj P rw o=3:=by rw[WW (by unfold qbC;rw[a]) (by unfold qdB;rw[a,c];exact e)];unfold cR;rw[a,c];simp only[Option.any_some,h,if_true]
def qqZ{rw:V Nat}{o:M}{e:G}{x:Operand}{d:Nat}(c:o.op=.load e x)(a:o.dst=O d)(b:rw.contains (8 * d+5)=T):uj P rw o=0:=by unfold uj qbC;rw[c,a];simp only[b,if_true]
def uf.eff{z:Q (Nat×aJ)}{rw:List Nat}{o:M}{id:Nat}{s y:aF}{rs:List Rs}(h:uf P GE z rw o id s y rs):qnd P rw o s y rs:=by
 cases h with
 |old h hu a=>exact⟨h.eff.tm,by rw[WW hu a];exact h.eff.bx,λτ B a=>h.eff.back τ (λt=>B (.inl t)) a⟩
 |ldE d E x n p ho hd hi t hp=>refine⟨by rw[hd];exact⟨_,rfl⟩,λ_=>rfl,?_⟩;rintro⟨b,⟨m,k⟩,w⟩ i a;cases b with|true=>exact a|false=>exact(eZ a).1
 | callG d f args tys r ro oa ρ F ho hd hi a F1 F3 hg =>
  refine⟨by rw[hd];exact⟨r,rfl⟩,λA=>absurd (Bn ho hd hi a) A,?_⟩;rintro⟨b,⟨m,k⟩,w⟩ i a;cases b with
  |true=>have q:m∉ρ:=λt=>i (.inr ⟨rfl,vaM _ (m8.2 ⟨m,t,rfl⟩)⟩);let⟨n,own,c,e⟩:=e9.1 a;simp only at c;rw[F1 _ _ q]at c;exact⟨n,own,c,e⟩
  | false =>
   rcases vaQ.1 (dV.1 a)with a|a;.simp only[m8,Prod.mk.injEq]at a;obtain⟨x,_,⟨rfl,_⟩,_⟩:=a;exact absurd (.inl (by simp[fk])) i
   .exact(cK (eZ a).1).1
 | callH d f args tys r ro oa ρ F ho hd hi F1 F4 F5 F6 hg =>
  refine⟨by rw[hd];exact⟨r,rfl⟩,λ_=>F4 _ rfl,?_⟩;rintro⟨b,⟨m,k⟩,w⟩ i a;cases b with
  | true =>
   let⟨n,own,c,e⟩:=e9.1 a;simp only at c;by_cases q:m∈ρ;.rw[F5 _ _ _ _ q c]at e;cases e
   .rw[F1 _ _ q]at c;exact⟨n,own,c,e⟩
  | false =>
   rcases vaQ.1 (dV.1 a)with a|a;.simp only[m8,Prod.mk.injEq]at a;obtain⟨x,_,⟨rfl,_⟩,_⟩:=a;exact absurd (.inl (by simp[fk])) i
   .exact(cK (eZ a).1).1
def uf.cls{c:Q (Nat×aJ)}{rw:List Nat}{o:M}{id:Nat}{s e:aF}{b:List Rs}(h:uf P GE c rw o id s e b){i k:Nat}(a:(T,i,k)∈b):2<=uj P rw o:=by
 cases h with
 |ldE d m x cs p ho hd hi hx hp=>simp at a
 |callH d f args tys r ro oa ρ F ho hd hi F1 F4 F5 F6 hg=>simp at a
 |old h hu hh=>rw[WW hu hh];cases h with|ld d m x i off cs own L p hd ho hx hB h hm=>simp[cR,dh,ho]|st m x y i off vs cs own hd ho hx hvs hB hp=>simp[cR,dh,ho]|sto m x t i off vs cs own L hd ho hx hvs hB hp hk hm hn hl=>simp[cR,dh,ho]|_=>simp at a
 |callG d f args tys r ro oa ρ F ho hd hi hh F1 F3 hg=>rw[Bn ho hd hi hh];decide
def uf.whole{c:Q (Nat×aJ)}{rw:List Nat}{o:M}{id:Nat}{s e:aF}{b:List Rs}(h:uf P GE c rw o id s e b){i:Nat}(a:(Z,i,1)∈b):uj P rw o=3:=by cases h with|ldE d m x cs p ho hd hi hx hp=>simp at a|old h hu hh=>exact absurd a (h.nw i)|callH d f args tys r ro oa ρ F ho hd hi F1 F4 F5 F6 hg=>simp at a|callG d f args tys r ro oa ρ F ho hd hi hh F1 F3 hg=>exact Bn ho hd hi hh
def qcG{o:M}{i:List Rs}(h:i=match o.dst with
 |some d=>[(Z,d,0)]
 |none=>[]) {τ:qkf} (c:qmY τ i):fk τ∈i/\τ.1=false:=by
 subst h
 cases m:o.dst with
 |none=>rw[m]at c;rcases c with a|a<;>simp at a
 | some d =>
  rw[m]at c
  rcases c with a|a
  .refine⟨a,?_⟩
   let⟨b,⟨t,k⟩,e⟩:=τ
   cases b with
   |false=>rfl
   |true=>simp[fk]at a
  .simp at a
structure qnf(P:Program)(bs:cF)(rw:List Nat)(o:Oper)(st st' s s':aF)(rs:List Rs):Prop where
 tm:match o.dst with
  |some d=>∃p,st'.tmps=st.tmps.set d p/\s'.tmps=s.tmps.set d p
  |none=>st'.tmps=st.tmps/\s'.tmps=s.tmps
 b1:uj P rw o≠3->st'.boxes.map bu=st.boxes.map bu
 b2:uj P rw o=3->st'.boxes.map bu=s'.boxes.map bu
 keep:∀τ,¬qmY τ rs->(τ.1=true->2 * τ.2.1.1∉rw)->lp st τ->lp st' τ
 got:∀τ,qmY τ rs->lp s' τ->lp st' τ
 un:∀i:Nat,bs[i]? =some none->(false,i,1)∉rs->8 * i+3∉rw->st'.boxes[i]? =st.boxes[i]?
end
section
variable{P:I}{E:BP}{Γ:ca}{bs:cF}{c:Nat->Q rI}{w:J}{a:Act}{st:aF}
def uf.sound(h:SR P E Γ bs c w a.tmps st){bi:Option (Nat×aJ)}{rw:List Nat}{o:M}{id:Nat}{s s':aF}{rs:List Rs}(hs:uf P E.GE bi rw o id s s' rs)(ad:aR o.op=T->bs[id]? =O N/\st.boxes[id]? =th P o)(ab:∀i B,bi=O (i,B)->bs[i]? =O N/\st.boxes[i]? =O B)
    (a1:∀x∈o.op.operands.toList,opv E.GE s.tmps x=opv E.GE st.tmps x) (a3:2<=uj P rw o->st.boxes.map bu=s.boxes.map bu) (t:∀τ,qmY τ rs->lp s τ->lp st τ) (a5:∀d,o.dst=O d->d<st.tmps.length)
    (Q:Exit->Act->J->Prop):
    o.wp P a w (λa' w'=>a'.defers=a.defers/\∃A q y a4,SR P E A q y w' a'.tmps a4/\qnf P bs rw o st a4 s s' rs/\(q=bs\/(aR o.op=T/\∃b,q=bs.set id (O b))\/∃i B x,bi=O (i,B)/\q=bs.set i x)) Q:=by
  cases hs with
  | ldE d ar x cs p ho hd H m hp =>
    have ao:opv E.GE st.tmps x=.eptr cs:=(a1 x (by rw[ho];simp[Op.operands])).symm.trans m
    have hw:o.wp P a w (jw P E bs id (aR o.op) a.defers (·=⟨st.tmps.set d p,st.boxes,cU d st.own⟩)) Q:=by refine jw.of h (λhm=>by rw[ho]at hm;cases hm) (by simp[sZ,ho]) ?_ Q;unfold qdN;rw[ho];simp only[Ax,ao,qU,hp,oo];rw[hd];rfl
    refine Oper.wp_mono (λa' w' hA=>?_) hw
    obtain⟨h1,A,q,y,a9,h2,rfl,S⟩:=hA
    exact⟨h1,A,q,y,_,h2,⟨by rw[hd];exact⟨_,rfl,rfl⟩,λ_=>rfl,λhc=>absurd ((qqZ (P:=P) ho hd H).symm.trans hc) (by decide),λτ hr _ n=>qbF (st:=st) (tm:=st.tmps.set d p) (R:=λ_=>True) (rs:=[(Z,d,0)]) (d:=d) (L:=[]) (by simp) τ (λm=>hr (.inl m)) trivial n,
      λτ hr n=>qjw (L:=[]) (tm:=st.tmps.set d p) τ (hr.elim (λx=>x) λm=>by simp at m) n,λ_ _ _ _=>rfl⟩,S.imp_right .inl⟩
  | old hs hu n =>
    rw[WW hu n]at a3
    refine Oper.wp_mono (λa' w' hA=>?_) (hs.sound h ad ab a1 a3 (λτ ht=>t τ (.inl ht)) a5 Q)
    let⟨h1,A,q,y,a4,h2,S,h4⟩:=hA
    exact⟨h1,A,q,y,a4,h2,⟨S.tm,by rw[WW hu n];exact S.b1,by rw[WW hu n];exact S.b2,λτ ht=>S.keep τ λm=>ht (.inl m),λτ ht=>S.got τ (hs.rs_of ht),λi H _ _=>S.un i H⟩,h4⟩
  | callG d f args tys r ro oa ρ F ho hd H n F1 F3 hg =>
    have a6:∀x,x=f\/x∈args.toList->opv E.GE s.tmps x=opv E.GE st.tmps x:=λx m=>a1 x (by rw[ho];simp[Op.operands,Call.operands];simpa using m)
    have a2:∀x∈oa,((x.t,x.k),x.e)∈s.own->((x.t,x.k),x.e)∈st.own:=λx m hm=>t (Z,(x.t,x.k),x.e) (.inl (vaU _ (vaP _ (m8.2 ⟨x,m,rfl⟩)))) hm
    have a0:=a3 (by rw[Bn ho hd H n];decide)
    have a7:∀i∈ρ,∀k e,lp s (T,(i,k),e)->lp st (T,(i,k),e):=λi H k e n=>t _ (.inr ⟨rfl,vaM _ (m8.2 ⟨i,H,rfl⟩)⟩) n
    have hF:(F st.boxes).map bu=(F s.boxes).map bu:=by
      refine vbj λi=>?_;rw[t8,t8];by_cases H:i∈ρ;.rw[F3 _ _ i a0 H]
      .rw[F1 _ _ H,F1 _ _ H];exact qgc a0 i
    refine Oper.wp_mono (λa' w' hA=>?_) (HN (id:=id) (K:=(·=⟨st.tmps.set d r,F st.boxes,(ro.map λx=>((d,x.1),x.2))++cU d (st.own.filter λz=>!oa.any λx=>z.1==(x.t,x.k))⟩)) h ho hd (a5 d hd) (hg st a6 a2 a0 a7) rfl Q)
    obtain⟨h1,A,q,y,a9,h2,rfl,S⟩:=hA
    refine⟨h1,A,q,y,_,h2,⟨by rw[hd];exact⟨_,rfl,rfl⟩,λhc=>absurd (Bn ho hd H n) hc,λ_=>hF,?_,?_,λi hb hn _=>F1 _ _ λm=>hn (vaM _ (m8.2 ⟨i,m,rfl⟩))⟩,S.imp_right .inl⟩
    . rintro ⟨b,⟨t',k⟩,e'⟩ hr _ n
      cases b with
      | true =>
        have hn:t'∉ρ:=λm=>hr (.inr ⟨rfl,vaM _ (m8.2 ⟨t',m,rfl⟩)⟩)
        let⟨cs,own,k1,k2⟩:=e9.1 n
        exact⟨cs,own,by simp only;rw[F1 _ _ hn];exact k1,k2⟩
      | false =>
        have X:fk (Z,(t',k),e')∉((Z,d,0)::oa.map λx=>(Z,x.t,0)):=λm=>hr (.inl (vaU _ m))
        simp only[fk,oL,Prod.mk.injEq,vck,vcj,m8,vdb,not_exists,not_and]at X
        refine vaM _ (jn (va2.2 ⟨dV.1 n,?_⟩) X.1)
        simp only[vaV,vbk,o5,Prod.mk.injEq,not_and]
        exact λx m e=>absurd e.symm (X.2 x m)
    . rintro ⟨b,⟨t',k⟩,e'⟩ hr n
      cases b with
      | true =>
        have an:t'∈ρ:=by
          rcases hr with m|⟨_,m⟩;.simp[fk]at m
          . rcases vaQ.1 m with m | m
            .simp at m
            . obtain ⟨i,H,he⟩:=m8.1 m
              simp only[Prod.mk.injEq,vcj,vck]at he
              subst he;exact H
        let⟨cs,own,k1,k2⟩:=e9.1 n
        exact⟨cs,own,by simp only at k1 ⊢;rw[F3 _ _ t' a0 an];exact k1,k2⟩
      | false =>
        rcases vaQ.1 (dV.1 n)with n|n
        .exact vaU _ n
        . obtain ⟨h1,h2⟩:=eZ n
          let⟨S,h4⟩:=cK h1
          have h5:((t',k),e')∈st.own:=t (Z,(t',k),e') hr S
          exact vaM _ (jn (va2.2 ⟨h5,h4⟩) h2)
  | callH d f args tys r ro oa ρ F ho hd H F1 F4 F5 F6 hg =>
    have a6:∀x,x=f\/x∈args.toList->opv E.GE s.tmps x=opv E.GE st.tmps x:=λx m=>a1 x (by rw[ho];simp[Op.operands,Call.operands];simpa using m)
    have a2:∀x∈oa,((x.t,x.k),x.e)∈s.own->((x.t,x.k),x.e)∈st.own:=λx m hm=>t (Z,(x.t,x.k),x.e) (.inl (vaP _ (m8.2 ⟨x,m,rfl⟩))) hm
    have a0:=a3 (by rw[qnJ ho hd H];decide)
    refine Oper.wp_mono (λa' w' hA=>?_) (HN (id:=id) (K:=(·=⟨st.tmps.set d r,F st.boxes,(ro.map λx=>((d,x.1),x.2))++cU d (st.own.filter λz=>!oa.any λx=>z.1==(x.t,x.k))⟩)) h ho hd (a5 d hd) (hg st a6 a2 a0) rfl Q)
    obtain⟨h1,A,q,y,a9,h2,rfl,S⟩:=hA
    refine⟨h1,A,q,y,_,h2,⟨by rw[hd];exact⟨_,rfl,rfl⟩,λ_=>F4 _ a0,λhc=>absurd ((qnJ (P:=P) ho hd H).symm.trans hc) (by decide),?_,?_,λi _ _ hn=>F1 _ _ λm=>hn (F6 i m).2⟩,S.imp_right .inl⟩
    . rintro ⟨b,⟨t',k⟩,e'⟩ hr a8 n
      cases b with
      | true =>
        have hn:t'∉ρ:=λm=>a8 rfl (F6 t' m).1
        let⟨cs,own,k1,k2⟩:=e9.1 n
        exact⟨cs,own,by simp only;rw[F1 _ _ hn];exact k1,k2⟩
      | false =>
        have X:fk (Z,(t',k),e')∉((Z,d,0)::oa.map λx=>(Z,x.t,0)):=λm=>hr (.inl m)
        simp only[fk,oL,Prod.mk.injEq,vck,vcj,m8,vdb,not_exists,not_and]at X
        refine vaM _ (jn (va2.2 ⟨dV.1 n,?_⟩) X.1)
        simp only[vaV,vbk,o5,Prod.mk.injEq,not_and]
        exact λx m e=>absurd e.symm (X.2 x m)
    . rintro ⟨b,⟨t',k⟩,e'⟩ hr n
      cases b with
      | true =>
        rcases hr with m|⟨_,m⟩
        .simp[fk]at m
        .simp at m
      | false =>
        rcases vaQ.1 (dV.1 n)with n|n
        .exact vaU _ n
        . obtain ⟨h1,h2⟩:=eZ n
          let⟨S,h4⟩:=cK h1
          have h5:((t',k),e')∈st.own:=t (Z,(t',k),e') hr S
          exact vaM _ (jn (va2.2 ⟨h5,h4⟩) h2)
end
end Go.Proofs.YtibglelmlnfojaaGreatDoor
