/- PROVED: a part of the proof. Conditions: none. -/
import Derived.Test.YtibglelmlnfojaaGreatDoorPkM5
set_option linter.unusedSimpArgs false set_option linter.defProp false
set_option linter.unusedVariables false
noncomputable section
namespace Go.Proofs.YtibglelmlnfojaaGreatDoor
open Go
open Option renaming some→O,none→N
open Go renaming TypeId→G,Value→D,Program→I,Oper→M,World→J,Code→W
open Bool renaming true→T,false→Z
open Decidable renaming decide→Y
open Go.Proofs.YtibglelmlnfojaaGreatDoor renaming PVal→U
def MH(o:M):List Rs:=match o.dst with|some d=>[(Z,d,0)]|none=>[]
def G3(P:I)(GE:List (Nat×List U))(d:Q (Nat×aJ))(rw:List Nat)(a:Array M)(o:M)(id:Nat)(s c:aF)(b:List Rs):Prop:=match o.guard with|none=>uf P GE d rw o id s c b|some (j,want)=>∃x,FL a s.tmps j=O x/\(x=O want->uf P GE d rw o id s c b)/\(x≠O want->c=Jj s o.dst (.val undef) [] s.boxes/\b=MH o)
def pU(P:I)(GE:List (Nat×List U))(a:Nat->Q (Nat×aJ))(rw:List Nat)(b:Array M)(e:List (List Rs)->aF->Prop):List M->Nat->List (List Rs)->aF->Prop|[],_,lg,st=>e lg st| o :: rest,id,lg,st =>match o.guard with|none=>∃d c,uf P GE (a lg.length) rw o id st d c/\pU P GE a rw b e rest (id+if aR o.op then 1 else 0) (lg++[c]) d|some (j,want)=>match FL b st.tmps j with| some x => (x = O want→∃ d c,uf P GE (a lg.length) rw o id st d c∧pU P GE a rw b e rest (id + if aR o.op then 1 else 0) (lg ++ [c]) d) ∧ (x≠O want->pU P GE a rw b e rest (id+if aR o.op then 1 else 0) (lg++[MH o]) (Jj st o.dst (.val undef) [] st.boxes))|none=>False
section
variable{P:I}{GE:V (Nat×V U)}
def SG{b:Nat->Q (Nat×aJ)}{rw:List Nat}{d:Array M}{X:List (List Rs)->aF->Prop}:∀(a:List M)(id:Nat)(c:List (List Rs))(m:aF),pU P GE b rw d X a id c m->
  ∃(a0:Nat->aF)(R:List (List Rs)),a0 0=m/\R.length=a.length/\X (c++R) (a0 a.length)/\∀(k:Nat) o,a[k]? =O o->G3 P GE (b (c.length+k)) rw d o (id+de (a.take k)) (a0 k) (a0 (k+1)) (R.getD k [])
 |[],id,c,m,h=>⟨λ_=>m,[],rfl,rfl,by simpa[pU]using h,by simp⟩
 | o :: a,id,c,m,h => by
  have r:de [o]=if aR o.op then 1 else 0:=by unfold de;simp only[vbN,List.filter_nil];split<;>rfl
  have fin:∀i e,G3 P GE (b c.length) rw d o id m i e->pU P GE b rw d X a (id+if aR o.op then 1 else 0) (c++[e]) i->
    ∃(a0:Nat->aF)(R:List (List Rs)),a0 0=m/\R.length=a.length+1/\X (c++R) (a0 (a.length+1))/\∀(k:Nat) y,(o::a)[k]? =O y->G3 P GE (b (c.length+k)) rw d y (id+de ((o::a).take k)) (a0 k) (a0 (k+1)) (R.getD k []):=by
   intro i e p q
   let⟨a0,R,H,S,L,t2⟩:=SG a _ _ i q
   refine⟨λk=>match k with|0=>m|k+1=>a0 k,e::R,rfl,by simp[S],by simpa using L,λk y n=>?_⟩
   cases k with
   |zero=>simp at n;subst n;simp only[List.getD_cons_zero];rw[H];simpa[de]using p
   | succ k =>
    have:=t2 k y (by simpa using n)
    have B:id+(if aR o.op then 1 else 0)+de (a.take k)=id+de ((o::a).take (k+1)):=by
     simp only[List.take_succ_cons];have:de (o::a.take k)=de [o]+de (a.take k):=by unfold de;simp only[vbN,List.filter_nil];split<;>simp<;>omega
     rw[this,r];omega
    rw[B,show(c++[e]).length+k=c.length+(k+1) by simp;omega]at this
    simpa using this
  simp only[pU]at h;simp only[vz];split at h;.rename_i t;let⟨z,e,p,q⟩:=h;exact fin z e (by unfold G3;rw[t];exact p) q
  .rename_i j s t;split at h
   .rename_i x A;by_cases w:x=O s;.let⟨z,e,p,q⟩:=h.1 w;exact fin z e (by unfold G3;rw[t];exact⟨x,A,λ_=>p,λE=>absurd w E⟩) q
    .exact fin _ _ (by unfold G3;rw[t];exact⟨x,A,λF=>absurd F w,λ_=>⟨rfl,rfl⟩⟩) (h.2 w)
   .exact h.elim
end
def drawD(P:I)(rw:V Nat)(l:V M)(n:Nat)(b:V Nat):K:=
 let a (i j:Nat):K:=(b.getD j 0).testBit i
 let bY:=List.range l.length
 (b.length==l.length&&bY.all λj=>ku b (l.getD j default)==b.getD j 0)&&
 (l.all (λo=>o.dst.all λd=>Y (d<n))&&
 bY.all (λj=>(l.getD j default).after.all λe=>!Region.binds .any e||decide (e.on<j))&&
 bY.all (λj=>bY.all λi=>i==j||(l.getD i default).dst==N||(l.getD i default).dst !=(l.getD j default).dst)&&
 bY.all (λj=>(looks l.toArray (l.getD j default)).all λt=>bY.all λi=>i==j||(l.getD i default).dst !=O t||(if i<j then a i j else a j i))&&
 bY.all (λj=>bY.all λi=>!(Y (i<j))||uj P rw (l.getD i default)<2||uj P rw (l.getD j default)<2||(uj P rw (l.getD i default)!=3&&uj P rw (l.getD j default)!=3)||a i j))
def qmf(b:V Nat)(a:V (V Rs)):K:=
 let bY:=List.range a.length
 bY.all λj=>(a.getD j []).all λr=>bY.all λi=>!(Y (i<j))||!((a.getD i []).contains r)||(b.getD j 0).testBit i
structure qaf(P:Program)(rw:List Nat)(ops:Array Oper)(n:Nat):Prop where
 f1:∀(k:Nat) o d,ops[k]? =some o->o.dst=some d->d<n
 f2:∀(k:Nat) o,ops[k]? =some o->∀e∈o.after.toList,Region.binds .any e=true->e.on<k
 f3:∀(i j:Nat) oi oj d,ops[i]? =some oi->ops[j]? =some oj->i≠j->oi.dst=some d->oj.dst≠some d
 f4:∀(j:Nat) oj t,ops[j]? =some oj->t∈looks ops oj->∀(i:Nat) oi,ops[i]? =some oi->i≠j->oi.dst=some t->(i<j/\bf ops i j)\/(j<i/\bf ops j i)
 f5:∀(i j:Nat) oi oj,ops[i]? =some oi->ops[j]? =some oj->i<j->uj P rw oi<2\/uj P rw oj<2\/(uj P rw oi≠3/\uj P rw oj≠3)\/bf ops i j
def qdk{c a:List Nat}{o:M}(h:∀e∈o.after.toList,Region.binds .any e=T->c.getD e.on 0=a.getD e.on 0):ku c o=ku a o:=by
 unfold ku
 have d:∀(l:List Edge)(s:Nat),(∀e∈l,Region.binds .any e=T->c.getD e.on 0=a.getD e.on 0)->
   l.foldl (λs e=>if Region.binds .any e then s|||2 ^ e.on|||c.getD e.on 0 else s) s=l.foldl (λs e=>if Region.binds .any e then s|||2 ^ e.on|||a.getD e.on 0 else s) s:=by
  intro l
  induction l with
  |nil=>intro s _;rfl
  | cons e l ih =>
   intro s h
   simp only[List.foldl_cons]
   rw[ih _ λe i=>h e (by simp[i])]
   by_cases b:Region.binds .any e=T
   .rw[hU b,hU b,h e (by simp) b]
   .rw[hG b,hG b]
 exact d _ _ h
def qqB{l:List M}{an:List Nat}(c:an.length=l.length)(m:∀j,j<l.length->ku an (l.getD j default)=an.getD j 0)
  (a:∀j,j<l.length->∀e∈(l.getD j default).after.toList,Region.binds .any e=T->e.on<j):Tf l=an:=by
 have i:∀k,k<=l.length->Tf (l.take k)=an.take k:=by
  intro k;induction k with
  |zero=>intro _;simp[Tf]
  | succ k h =>
   intro q;have h:=h (by omega);have p:l.take (k+1)=l.take k++[l.getD k default]:=by rw[vcy,vap];simp[show k<l.length by omega]
   have d:an.take (k+1)=an.take k++[an.getD k 0]:=by rw[vcy,vap];simp[show k<an.length by omega]
   have b:Tf (l.take k++[l.getD k default])=Tf (l.take k)++[ku (Tf (l.take k)) (l.getD k default)]:=by unfold Tf;rw[vcz];rfl
   rw[p,b,h,d,<-m k (by omega)];congr 2;refine qdk λe o n=>?_;have:=a k (by omega) e o n;rw[vap,vap,vaG this]
 have:=i l.length (m7 _)
 rwa[vaY,<-c,vaY]at this
def qbp{P:I}{rw:V Nat}{c:Array M}{n:Nat}{an:V Nat}(h:drawD P rw c.toList n an=T):qaf P rw c n/\Tf c.toList=an:=by
 unfold drawD at h;simp only[ne,oR,vbG,va5,vaV,nm,bne_iff_ne,ne_eq,o5,vbx,Option.all_eq_true]at h;obtain⟨⟨y,z⟩,⟨⟨⟨R,F⟩,S⟩,X⟩,h5⟩:=h;have b:∀{k:Nat} {o},c[k]? =O o->c.toList[k]? =O o:=λx=>by simpa using x
 have r:Tf c.toList=an:=by
  refine qqB y z λj p e E A=>?_;rcases F j p e (by simpa using E)with a|a;.rw[A]at a;cases a
  .exact a
 refine⟨⟨λk o d x w=>?_,λk o x e E A=>?_,λi j H L d q p m w B=>?_,λj L t p ht i H q m w=>?_,λi j H L q p m=>?_⟩,r⟩;.exact R o (vaK (b x)) d w
 .have:=F k (ax (b x)) e (by rw[LR (b x)];simpa using E);rcases this with a|a;.rw[A]at a;cases a
  .exact a
 .have:=S j (ax (b p)) i (ax (b q));rw[LR (b q),LR (b p)]at this;rcases this with(a|a)|a;.exact m a
  .rw[w]at a;cases a
  .exact a (w.trans B.symm)
 .have:=X j (ax (b p)) t (by rw[LR (b p)];exact ht) i (ax (b q));rw[LR (b q)]at this;unfold bf;rw[r];rcases this with(a|a)|a;.exact absurd a m
  .exact absurd w a
  .by_cases s:i<j;.rw[hU s]at a;exact .inl ⟨s,a⟩
   .rw[hG s]at a;exact .inr ⟨by omega,a⟩
 .have:=h5 j (ax (b p)) i (ax (b q));rw[LR (b q),LR (b p)]at this;unfold bf;rw[r];rcases this with(((a|a)|a)|a)|a;.rw[va8]at a;exact absurd m a
  .exact .inl a
  .exact .inr (.inl a)
  .exact .inr (.inr (.inl a))
  .exact .inr (.inr (.inr a))
def qmg{e:V Nat}{lg:V (V Rs)}(h:qmf e lg=T){i j:Nat}{r:Rs}(b:i<j)(m:r∈lg.getD i [])(c:r∈lg.getD j []):(e.getD j 0).testBit i=true:=by
 unfold qmf at h;simp only[oR,vbG,va5,vaV,va8,vcT]at h;have d:j<lg.length:=by
  by_cases a:j<lg.length;.exact a
  .rw[vap,va0 (by omega)]at c;simp at c
 rcases h j d r c i (by omega)with(a|a)|a;.exact absurd b a
 .exact absurd m a
 .exact a
section
variable{P:I}{GE:V (Nat×V U)}{c:Nat->Q (Nat×aJ)}{rw:V Nat}{ops:Array M}{n base:Nat}{T:Nat->aF}{R:Nat->V Rs}
structure qB(P:Program)(GE:List (Nat×List PVal))(c:Nat->Option (Nat×aJ))(rw:List Nat)(ops:Array Oper)(n base:Nat)(T:Nat->aF)(R:Nat->List Rs):Prop where
 len:(T 0).tmps.length=n
 step:∀(k:Nat) o,ops[k]? =some o->G3 P GE (c k) rw ops o (base+de (ops.toList.take k)) (T k) (T (k+1)) (R k)
 log:∀(i j:Nat) r,i<j->r∈R i->r∈R j->bf ops i j
 row0:∀i,2 * i∈rw->∀k e,¬lp (T 0) (true,(i,k),e)
 rowl:∀j,j<ops.size->∀i,2 * i∈rw->∀k,(true,i,k)∉R j
 roww:∀j,j<ops.size->∀i,2 * i∈rw->(false,i,1)∉R j
 wl:∀j,j<ops.size->∀i,(false,i,1)∈R j->i<base/\∀k B,c k≠some (i,B)
 hd:∀i,8 * i+3∈rw->i<base/\∀k B,c k≠some (i,B)
 binj:∀(j k i:Nat) B B',c j=some (i,B)->c k=some (i,B')->j=k
def qpS{o:M}{s:aF}:qnd P rw o s (Jj s o.dst (.val undef) [] s.boxes) (MH o):=by unfold MH;cases a:o.dst with|none=>exact⟨by rw[a];rfl,λ_=>rfl,λτ _ h=>h⟩|some d=>refine⟨by rw[a];exact⟨_,rfl⟩,λ_=>rfl,?_⟩;rintro⟨b,⟨t,k⟩,e⟩ m i;cases b with|true=>exact i|false=>exact(eZ (by simpa[Jj]using dV.1 i)).1
def G3.cls{r:Q (Nat×aJ)}{o:M}{id:Nat}{s w:aF}{i:V Rs}(h:G3 P GE r rw ops o id s w i){τ:qkf}(q:τ.1=true)(a:qmY τ i):2<=uj P rw o/\((Z,τ.2.1.1,1)∈i->uj P rw o=3):=by
 have d:uf P GE r rw o id s w i->2<=uj P rw o/\((Z,τ.2.1.1,1)∈i->uj P rw o=3):=λp=>by
  refine⟨?_,λm=>p.whole m⟩;rcases a with a|a;.let⟨b,⟨t,k⟩,e⟩:=τ;simp only at q;subst q;exact p.cls a
  .rw[p.whole a.2];decide
 unfold G3 at h;split at h;.exact d h
 .let⟨x,_,y,z⟩:=h;by_cases m:x=O ‹K›;.exact d (y m)
  .obtain⟨_,rfl⟩:=z m;have:=(qcG (o:=o) rfl a).2;rw[q]at this;cases this
def G3.eff{d:Q (Nat×aJ)}{o:M}{id:Nat}{s b:aF}{rs:V Rs}(h:G3 P GE d rw ops o id s b rs):qnd P rw o s b rs:=by
 unfold G3 at h;split at h;.exact h.eff
 .let⟨x,_,e,i⟩:=h;by_cases a:x=O ‹K›;.exact(e a).eff
  .obtain⟨rfl,rfl⟩:=i a;exact qpS
def qB.all(e:qB P GE c rw ops n base T R):∀k,k<=ops.size->(T k).tmps.length=n:=by
 intro k;induction k with
 |zero=>intro _;exact e.len
 | succ k ih =>
  intro h;have d:=ih (by omega);have b:ops[k]? =O ops[k]:=by simp[show k<ops.size by omega]
  have a:=(e.step k _ b).eff.tm;split at a;.let⟨p,a⟩:=a;rw[a];simp[d]
  .rw[a];exact d
def qB.between(s:qB P GE c rw ops n base T R){t:Nat}:∀(m k:Nat),k+m<=ops.size->(∀(i:Nat) o,k<=i->i<k+m->ops[i]? =O o->o.dst≠O t)->(T (k+m)).tmps[t]? =(T k).tmps[t]?:=by
 intro m;induction m with
 |zero=>intro k _ _;rfl
 | succ m q =>
  intro k z b;have h:ops[k+m]? =O ops[k+m]:=by simp[show k+m<ops.size by omega]
  have a:=(s.step _ _ h).eff.tm;have x:=b (k+m) _ (by omega) (by omega) h;have q:=q k (by omega) λi o r y=>b i o r (by omega);rw[<-q,show k+(m+1)=k+m+1 from rfl];split at a;.rename_i d w;let⟨p,a⟩:=a;rw[a,t7 (λe=>x (by rw[w,e]))]
  .rw[a]
def qB.boxes(e:qB P GE c rw ops n base T R):∀(m k:Nat),k+m<=ops.size->(∀(i:Nat) o,k<=i->i<k+m->ops[i]? =O o->uj P rw o≠3)->(T (k+m)).boxes.map bu=(T k).boxes.map bu:=by
 intro m;induction m with
 |zero=>intro k _ _;rfl
 |succ m ih=>
  intro k p a;have b:ops[k+m]? =O ops[k+m]:=by simp[show k+m<ops.size by omega]
  rw[show k+(m+1)=k+m+1 from rfl,(e.step _ _ b).eff.bx (a (k+m) _ (by omega) (by omega) b)];exact ih k (by omega) λi o d h=>a i o d (by omega)
def qB.boxes_eq(e:qB P GE c rw ops n base T R){k m:Nat}(r:k<=ops.size)(s:m<=ops.size)(h:∀(i:Nat) o,ops[i]? =O o->uj P rw o=3->(i<k↔i<m)):(T k).boxes.map bu=(T m).boxes.map bu:=by
 rcases Nat.le_total k m with b|b
 .have:=e.boxes (m - k) k (by omega) λi o p q d a=>by have:=(h i o d a);omega
  rw[show k+(m - k)=m from by omega]at this;exact this.symm
 .have:=e.boxes (k - m) m (by omega) λi o p q d a=>by have:=(h i o d a);omega
  rw[show m+(k - m)=k from by omega]at this;exact this
def qB.back(e:qB P GE c rw ops n base T R){τ:qkf}:∀(m k:Nat),k+m<=ops.size->(∀i,k<=i->i<k+m->¬qmY τ (R i))->lp (T (k+m)) τ->lp (T k) τ:=by
 intro m;induction m with
 |zero=>intro k _ _ h;exact h
 |succ m ih=>
  intro k p a h;have b:ops[k+m]? =O ops[k+m]:=by simp[show k+m<ops.size by omega]
  exact ih k (by omega) (λi d o=>a i d (by omega)) ((e.step _ _ b).eff.back τ (a _ (by omega) (by omega)) h)
def qB.norow(b:qB P GE c rw ops n base T R){q i k:Nat}{e:G}(o:q<=ops.size)(d:2 * i∈rw):¬lp (T q) (true,(i,k),e):=λh=>by have:=b.back (τ:=(true,(i,k),e)) q 0 (by omega) (λj _ m a=>a.elim (λa=>b.rowl j (by omega) i d k (by simpa[fk]using a)) (λa=>b.roww j (by omega) i d a.2)) (by rw[ve];exact h);exact b.row0 i d k e this
def qB.tlog(t:qaf P rw ops n)(p:qB P GE c rw ops n base T R){i j:Nat}{τ:qkf}(d:i<j)(w:j<ops.size)(a:qmY τ (R i))(b:qmY τ (R j)):bf ops i j:=by
 have e:ops[i]? =O ops[i]:=vaX (by omega);have m:ops[j]? =O ops[j]:=vaX w;by_cases o:fk τ∈R i/\fk τ∈R j;.exact p.log i j _ d o.1 o.2
 .have q:τ.1=true:=by
   rcases a with a|a
   .rcases b with b|b
    .exact absurd ⟨a,b⟩ o
    .exact b.1
   .exact a.1
  let⟨x,r⟩:=(p.step i _ e).cls q a
  let⟨y,s⟩:=(p.step j _ m).cls q b
  rcases t.f5 i j _ _ e m d with h|h|h|h
  .omega
  .omega
  .rcases a with a|a
   .rcases b with b|b
    .exact absurd ⟨a,b⟩ o
    .exact absurd (s b.2) h.2
   .exact absurd (r a.2) h.1
  .exact h
variable{E:BP}{bs0:cF}{ds:V Deferred}
structure T8(P:Program)(E:BP)(c:Nat->Option (Nat×aJ))(rw:List Nat)(ops:Array Oper)(n base:Nat)(T:Nat->aF)(R:Nat->List Rs)(bs0:cF)(ds:List Deferred)(listed:Array Bool)(a:Act)(w:World):Prop where
 size:listed.size=ops.size
 defers:a.defers=ds
 down:qsE ops listed
 ex:∃Γ bs ow st,SR P E Γ bs ow w a.tmps st/\qni bs0 bs/\st.tmps.length=n/\
  (∀(k:Nat) o d,ops[k]? =some o->o.dst=some d->dT listed k->st.tmps[d]? =(T ops.size).tmps[d]?)/\
  (∀t,(∀(k:Nat) o,ops[k]? =some o->dT listed k->o.dst≠some t)->st.tmps[t]? =(T 0).tmps[t]?)/\
  (∃m,m<=ops.size/\(∀(i:Nat) o,ops[i]? =some o->uj P rw o=3->(dT listed i↔i<m))/\st.boxes.map bu=(T m).boxes.map bu)/\
  (∀(i:Nat) o,ops[i]? =some o->aR o.op=true->¬dT listed i->bs[Qc ops base i]? =some none/\st.boxes[Qc ops base i]? =th P o)/\
  (∀(τ:qkf)(m:Nat),m<=ops.size->(∀k,k<ops.size->qmY τ (R k)->(dT listed k↔k<m))->lp (T m) τ->lp st τ)/\
  (∀(k i:Nat) B,k<ops.size->c k=some (i,B)->¬dT listed k->bs[i]? =some none/\st.boxes[i]? =some B)
def qjp(hD:qaf P rw ops n)(hT:qB P E.GE c rw ops n base T R)(e1:bs0.length<=base)(bc:∀(k i:Nat) B,c k=O (i,B)->bs0.length<=i/\i<base){listed:Array K}{a:Act}{w:J}(hI:T8 P E c rw ops n base T R bs0 ds listed a w){j:Nat}(hj:j∈Region.ready .any ops listed)
  (Q:Exit->Act->J->Prop):wpOp P ops Q j (T8 P E c rw ops n base T R bs0 ds (listed.setIfInBounds j true)) a w:=by
 let⟨c4,oj,y,e6⟩:=mem_ready.1 hj
 have a6:j<ops.size:=(vao.1 y).1
 have a9:¬dT listed j:=by
  unfold dT;have:j<listed.size:=by rw[hI.size];exact a6
  simp[this]at c4 ⊢;exact c4
 have b8:∀e∈oj.after.toList,Region.binds .any e=true->dT listed e.on:=λe he H=>e6 e (by simpa using he) H
 have b1:∀i,bf ops i j->dT listed i:=WS hI.down j oj y b8
 have a2:∀(i:Nat) oi,ops[i]? =O oi->bf ops j i->¬dT listed i:=λi oi hi H bn=>a9 (WS hI.down i oi hi (hI.down i oi hi bn) j H)
 let⟨Γ,bs,ow,st,hS,hK,a8,cs,c0,⟨m,hm,c7,c6⟩,d2,cv,d1⟩:=hI.ex
 have ci:∀k,k<ops.size->∃o,ops[k]? =O o:=λk z=>⟨_,vaX z⟩
 have ao:∀t,t∈looks ops oj->st.tmps[t]? =(T j).tmps[t]?:=by
  intro t ht;by_cases bi:∃i oi,ops[i]? =O oi/\i≠j/\oi.dst=O t
  .let⟨i,oi,br,bl,bg⟩:=bi
   have a7:∀(k:Nat) o,ops[k]? =O o->o.dst=O t->k=i:=λk o r a5=>by
    by_cases c5:k=i;.exact c5
    .exact absurd bg (hD.f3 k i o oi t r br c5 a5)
   rcases hD.f4 j oj t y ht i oi br bl bg with⟨s,H⟩|⟨s,H⟩
   .rw[cs i oi t br bg (b1 i H)];have:=hT.between (t:=t) (ops.size - j) j (by omega) λk o h1 h2 r z=>by have:=a7 k o r z;omega
    rwa[show j+(ops.size - j)=ops.size from by omega]at this
   .rw[c0 t λk o r bq z=>by have:=a7 k o r z;subst this;exact a2 k o r H bq];have:=hT.between (t:=t) j 0 (by omega) λk o h1 h2 r z=>by have:=a7 k o r z;omega
    rw[ve]at this;exact this.symm
  .rw[c0 t λk o r bq z=>bi ⟨k,o,r,λe=>by subst e;exact a9 bq,z⟩];have:=hT.between (t:=t) j 0 (by omega) λk o h1 h2 r z=>bi ⟨k,o,r,by omega,z⟩;rw[ve]at this;exact this.symm
 have cn:∀x∈oj.op.operands.toList,opv E.GE (T j).tmps x=opv E.GE st.tmps x:=by intro x F;cases x with|tmp t=>have:t∈looks ops oj:=vaU _ (vb3.2 ⟨.tmp t,F,rfl⟩);show(T j).tmps.getD t .undef=st.tmps.getD t .undef;rw[vap,vap,ao t this]|const v=>rfl|global g=>rfl|func f=>rfl
 have X:2<=uj P rw oj->st.boxes.map bu=(T j).boxes.map bu:=by
  intro hc;rw[c6];refine hT.boxes_eq hm (by omega) λi o r a0=>?_;rw[<-c7 i o r a0];rcases vcA i j with s|rfl|s
  .rcases hD.f5 i j o oj r y s with h|h|h|h;.omega
   .omega
   .exact absurd a0 h.1
   .exact⟨λ_=>s,λ_=>b1 i h⟩
  .exact⟨λh=>absurd h a9,λh=>absurd h (vci _)⟩
  .rcases hD.f5 j i oj o y r s with h|h|h|h;.omega
   .omega
   .exact absurd a0 h.2
   .exact⟨λhl=>absurd hl (a2 i o r h),λF=>by omega⟩
 have A:j<listed.size:=by rw[hI.size];exact a6
 have e7:uj P rw oj=3->∀(i:Nat) o,ops[i]? =O o->uj P rw o=3->(dT (listed.setIfInBounds j true) i↔i<j+1):=by
  intro hc i o r a0;rw[gy A];rcases vcA i j with s|rfl|s
  .rcases hD.f5 i j o oj r y s with h|h|h|h;.omega
   .omega
   .exact absurd a0 h.1
   .exact⟨λ_=>by omega,λ_=>.inr (b1 i h)⟩
  .exact⟨λ_=>by omega,λ_=>.inl rfl⟩
  .rcases hD.f5 j i oj o y r s with h|h|h|h;.omega
   .omega
   .exact absurd a0 h.2
   .refine⟨λhl=>?_,λF=>by omega⟩;rcases hl with hl|hl;.omega
    .exact absurd hl (a2 i o r h)
 have d0:∀τ,qmY τ (R j)->lp (T j) τ->lp st τ:=λτ hr=>cv τ j (by omega) λk z an=>by
  rcases vcA k j with s|rfl|s;.exact⟨λ_=>s,λ_=>b1 k (hT.tlog hD s a6 an hr)⟩
  .exact⟨λh=>absurd h a9,λh=>absurd h (vci _)⟩
  .let⟨o,r⟩:=ci k z;exact⟨λhl=>absurd hl (a2 k o r (hT.tlog hD s z hr an)),λF=>by omega⟩
 have e0:=hT.all j (by omega)
 have fin:∀{b5:ca}{a4:cF}{b3:Nat->Option rI}{w':J}{a':Act}{b0:aF},a'.defers=ds->SR P E b5 a4 b3 w' a'.tmps b0->qnf P bs rw oj st b0 (T j) (T (j+1)) (R j)->
   (a4=bs\/(aR oj.op=true/\∃b,a4=bs.set (Qc ops base j) (O b))\/∃i B x,c j=O (i,B)/\a4=bs.set i x)->T8 P E c rw ops n base T R bs0 ds (listed.setIfInBounds j true) a' w':=by
  intro b5 a4 b3 w' a' b0 be bb hP ab
  refine⟨by simp[hI.size],be,λk o r z e he H=>?_,b5,a4,b3,b0,bb,?_,?_,?_,?_,?_,?_,?_,?_⟩
  .rw[gy A]at z ⊢
   rcases z with rfl|z
   .rw[y]at r;cases r
    exact .inr (b8 e he H)
   .exact .inr (hI.down k o r z e he H)
  .rcases ab with rfl|⟨_,b,rfl⟩|⟨i',B,x,H,rfl⟩
   .exact hK
   .intro i hi
    rw[t7 (by unfold Qc;omega)]
    exact hK i hi
   .intro i hi
    rw[t7 (by have:=(bc _ _ _ H).1;omega)]
    exact hK i hi
  .have:=hP.tm
   split at this
   .let⟨p,h1,_⟩:=this;rw[h1];simp[a8]
   .rw[this.1];exact a8
  .intro k o dk r a5 z
   rw[gy A]at z
   have S:=hP.tm
   by_cases ad:k=j
   .subst ad
    rw[y]at r;cases r
    rw[a5]at S
    let⟨p,h1,h2⟩:=S
    have:=hT.between (t:=dk) (ops.size - (k+1)) (k+1) (by omega) λi o h1 h2 r z=>hD.f3 k i oj o dk y r (by omega) a5 z
    rw[show k+1+(ops.size - (k+1))=ops.size from by omega]at this
    have c1:=hD.f1 k oj dk y a5
    rw[this,h1,h2,o6 (by rw[a8];exact c1),o6 (by rw[e0];exact c1)]
   .have a3:=cs k o dk r a5 (z.resolve_left ad)
    split at S
    .rename_i d hd
     let⟨p,h1,_⟩:=S
     have ar:d≠dk:=λe=>by subst e;exact hD.f3 j k oj o d y r (Ne.symm ad) hd a5
     rw[h1,t7 ar];exact a3
    .rw[S.1];exact a3
  .intro t cg
   have a3:=c0 t λk o r z=>cg k o r ((gy A).2 (.inr z))
   have S:=hP.tm
   split at S
   .rename_i d hd
    let⟨p,h1,_⟩:=S
    have ar:d≠t:=λe=>by subst e;exact cg j oj y ((gy A).2 (.inl rfl)) hd
    rw[h1,t7 ar];exact a3
   .rw[S.1];exact a3
  .by_cases hc:uj P rw oj=3
   .exact⟨j+1,by omega,e7 hc,hP.b2 hc⟩
   .refine⟨m,hm,λi o r a0=>?_,(hP.b1 hc).trans c6⟩
    rw[gy A,<-c7 i o r a0]
    constructor
    .rintro(rfl|F)
     .rw[y]at r;cases r;exact absurd a0 hc
     .exact F
    .exact .inr
  .intro i o r b2 c8
   have bl:i≠j:=λe=>by subst e;exact c8 ((gy A).2 (.inl rfl))
   let⟨u1,u2⟩:=d2 i o r b2 λF=>c8 ((gy A).2 (.inr F))
   refine⟨?_,(hP.un _ u1 (λF=>by have:=(hT.wl j a6 _ F).1;unfold Qc at this;omega) λF=>by have:=(hT.hd _ F).1;unfold Qc at this;omega).trans u2⟩
   rcases ab with rfl|⟨hmj,b,rfl⟩|⟨i',B,x,H,rfl⟩
   .exact u1
   .have ar:Qc ops base j≠Qc ops base i:=by
     rcases Nat.lt_or_gt_of_ne bl with s|s
     .have:=qkL (base:=base) r b2 s;omega
     .have:=qkL (base:=base) y hmj s;omega
    rw[t7 ar];exact u1
   .rw[t7 (by have:=(bc _ _ _ H).2;unfold Qc;omega)];exact u1
  .intro τ q hq bt hh
   by_cases hr:qmY τ (R j)
   .have eb:j<q:=(bt j a6 hr).1 ((gy A).2 (.inl rfl))
    refine hP.got τ hr ?_
    have:=hT.back (τ:=τ) (q - (j+1)) (j+1) (by omega) λi h1 h2 c3=>by
     have hi:i<ops.size:=by omega
     let⟨o,r⟩:=ci i hi;have bn:=(bt i hi c3).2 (by omega);rcases(gy A).1 bn with F|F;.omega
     .exact a2 i o r (hT.tlog hD (by omega) hi hr c3) F
    rw[show j+1+(q - (j+1))=q from by omega]at this
    exact this hh
   .refine hP.keep τ hr (λh1 h2=>?_) (cv τ q hq (λk z an=>?_) hh)
    .let⟨b,⟨t,k⟩,e⟩:=τ
     simp only at h1 h2
     subst h1
     exact hT.norow hq h2 hh
    rw[<-bt k z an,gy A]
    constructor
    .exact .inr
    .rintro(rfl|F)
     .exact absurd an hr
     .exact F
  .intro k i B z H c9
   have ad:k≠j:=λe=>by subst e;exact c9 ((gy A).2 (.inl rfl))
   let⟨u1,u2⟩:=d1 k i B z H λF=>c9 ((gy A).2 (.inr F))
   refine⟨?_,(hP.un _ u1 (λF=>(hT.wl j a6 _ F).2 k B H) λF=>(hT.hd _ F).2 k B H).trans u2⟩
   rcases ab with rfl|⟨_,b,rfl⟩|⟨i',B',x,hb',rfl⟩
   .exact u1
   .rw[t7 (by have:=(bc _ _ _ H).2;unfold Qc;omega)];exact u1
   .rw[t7 (λe=>by subst e;exact ad (hT.binj _ _ _ _ _ H hb'))];exact u1
 have e2:∀i B,c j=O (i,B)->bs[i]? =O N/\st.boxes[i]? =O B:=λi B H=>d1 j i B a6 H a9
 have e5:aR oj.op=true->bs[Qc ops base j]? =O N/\st.boxes[Qc ops base j]? =th P oj:=λb2=>d2 j oj y b2 a9
 have e3:∀d,oj.dst=O d->d<st.tmps.length:=λd hd=>by rw[a8];exact hD.f1 j oj d y hd
 have run:uf P E.GE (c j) rw oj (Qc ops base j) (T j) (T (j+1)) (R j)->oj.wp P a w (T8 P E c rw ops n base T R bs0 ds (listed.setIfInBounds j true)) Q:=by intro hs;refine Oper.wp_mono (λa' w' hA=>?_) (hs.sound hS e5 e2 cn X d0 e3 Q);let⟨be,b5,a4,b3,b0,bb,hP,H⟩:=hA;exact fin (be.trans hI.defers) bb hP H
 have skip:T (j+1)=Jj (T j) oj.dst (.val undef) [] (T j).boxes->R j=MH oj->T8 P E c rw ops n base T R bs0 ds (listed.setIfInBounds j true) (a.put oj.dst undef) w:=by intro dx dd;refine fin ((fh _ _ _).trans hI.defers) (hS.putv_nil (.val undef) oj.dst rfl) ?_ (.inl rfl);rw[dx,dd];cases hd:oj.dst with|none=>exact⟨by rw[hd];exact⟨rfl,rfl⟩,λ_=>rfl,λhc=>X (by omega),λτ _ _ h=>h,λτ hr=>by have:=(qcG (o:=oj) rfl hr).1;simp[hd]at this,λ_ _ _ _=>rfl⟩|some d=>refine⟨by rw[hd];exact⟨_,rfl,rfl⟩,λ_=>rfl,λhc=>X (by omega),λτ hr _ hh=>qbF (st:=st) (tm:=st.tmps.set d (.val undef)) (R:=λ_=>True) (rs:=MH oj) (d:=d) (L:=[]) (by simp[MH,hd]) τ (λF=>hr (.inl F)) trivial hh,?_,λ_ _ _ _=>rfl⟩;intro τ hr hh;exact qjw (L:=[]) τ (by simpa[MH,hd]using(qcG (o:=oj) rfl hr).1) hh
 have a1:=hT.step j oj y
 unfold wpOp
 rw[y]
 simp only
 unfold G3 at a1
 have c2:(Region.wanted oj (yielded ops a.tmps)=true->oj.wp P a w (T8 P E c rw ops n base T R bs0 ds (listed.setIfInBounds j true)) Q)/\
   (¬Region.wanted oj (yielded ops a.tmps)=true->T8 P E c rw ops n base T R bs0 ds (listed.setIfInBounds j true) (a.put oj.dst undef) w):=by
  split at a1
  .rename_i hg
   exact⟨λ_=>run a1,λhn=>absurd (by simp[Region.wanted,hg]) hn⟩
  .rename_i jg d3 hg
   let⟨x,F,h1,h2⟩:=a1
   have ea:FL ops st.tmps jg=O x:=by rw[<-F];unfold FL;cases e4:(ops[jg]?).bind (·.dst)with|none=>rfl|some t=>have:t∈looks ops oj:=vaM _ (by rw[hg];simp[e4]);simp only[ao t this]
   have hw:Region.wanted oj (yielded ops a.tmps)=(x==O d3):=by simp[Region.wanted,hg,Yp hS ea]
   rw[hw]
   refine⟨λhy=>run (h1 (by simpa using hy)),λhy=>?_⟩
   let⟨k1,k2⟩:=h2 (by simpa using hy)
   exact skip k1 k2
 by_cases hw:Region.wanted oj (yielded ops a.tmps)=true
 .rw[hU hw];exact .inl (c2.1 hw)
 .rw[hG hw];exact c2.2 hw
def qj1(h:qaf P rw ops n){listed:Array K}(q:listed.size=ops.size)(p:Region.ready .any ops listed=[]):∀j,j<ops.size->dT listed j:=by
 intro j;induction j using Nat.strongRecOn with
 | _ j ih =>
  intro o;by_cases b:dT listed j;.exact b
  .exfalso;have a:ops[j]? =O ops[j]:=by simp[o]
   have:j∈Region.ready .any ops listed:=mem_ready.2 ⟨by
    unfold dT at b;have:j<listed.size:=by omega
    simp[this]at b ⊢;exact b,_,a,λe m i=>by
    have d:=h.f2 j _ a e (by simpa using m) i;exact ih e.on d (by omega)⟩
   rw[p]at this;cases this
def SR.rights{Γ:ca}{x:cF}{H:Nat->Q rI}{w:J}{a:Array D}{p st2:aF}(h:SR P E Γ x H w a p)(y:st2.tmps=p.tmps)(z:st2.boxes.map bu=p.boxes.map bu)(A:∀τ,lp st2 τ->lp p τ):SR P E Γ x H w a st2:=
 { h with
  sz:=by rw[y];exact h.sz
  tm:=by rw[y];exact h.tm
  bl:=by have:=mx List.length z;simp at this;rw[h.bl,this]
  bx:=λi b B s r=>by
   have m:=qgc z i;rw[r]at m;cases d:p.boxes[i]? with
   |none=>rw[d]at m;cases m
   | some B1 =>
    rw[d]at m;let⟨k1,k2,F⟩:=h.bx i b B1 s d;refine⟨k1,k2,?_⟩;cases B<;>cases B1<;>simp[bu]at m;.subst m;exact F
    .subst m;exact F
    .trivial
  ot:=λt k e he=>h.ot t k e (A (Z,(t,k),e) he)
  ob:=λi j e L own b r hj s=>by let⟨q,o,S,X⟩:=e9.1 (A (true,(i,j),e) ⟨L,own,r,hj⟩);exact h.ob i j e q o b S X s}
def qlY(hD:qaf P rw ops n)(L:qB P E.GE c rw ops n base T R)(s:bs0.length<=base)(S:∀(k i:Nat) B,c k=O (i,B)->bs0.length<=i/\i<base){a7:Exit->Act->J->Prop}
  (hQ:∀a w,a.defers=ds->qg9 P E bs0 (T ops.size) a w->a7 .normal a w):∀(d:Nat)(listed:Array K)(a:Act)(w:J),T8 P E c rw ops n base T R bs0 ds listed a w->KT ops.size listed<=d->wpAny P .any ops a7 d listed a w:=by
 have r:∀(listed:Array K)(a:Act)(w:J),T8 P E c rw ops n base T R bs0 ds listed a w->(∀j,j<ops.size->dT listed j)->a7 .normal a w:=by
  intro listed a w q b;let⟨Γ,bs,ow,st,hS,hK,a6,a3,a4,⟨m,hm,a1,a0⟩,_,a5,_⟩:=q.ex;have e1:st.tmps=(T ops.size).tmps:=by
   apply vbj;intro t;by_cases x:∃(k:Nat)(o:M),ops[k]? =O o/\o.dst=O t;.let⟨k,o,h,A⟩:=x;exact a3 k o t h A (b k (vao.1 h).1)
   .rw[a4 t λk o h _ A=>x ⟨k,o,h,A⟩];have:=L.between (t:=t) ops.size 0 (by omega) λk o _ _ h A=>x ⟨k,o,h,A⟩;rw[ve]at this;exact this.symm
  have e2:st.boxes.map bu=(T ops.size).boxes.map bu:=by rw[a0];refine L.boxes_eq hm (m7 _) λi o h X=>?_;rw[<-a1 i o h X];have F:=(vao.1 h).1;exact⟨λ_=>F,λ_=>b i F⟩
  exact hQ a w q.defers ⟨Γ,bs,ow,hS.rights e1.symm e2.symm λτ hh=>a5 τ ops.size (m7 _) (λk hk _=>⟨λ_=>hk,λ_=>b k hk⟩) hh,hK⟩
 intro d
 induction d with
 | zero =>
  intro listed a w q hu
  have b:∀j,j<ops.size->dT listed j:=by
   intro j z;by_cases hl:dT listed j;.exact hl
   .exfalso;have:j∈(List.range ops.size).filter λi=>!listed.getD i false:=by rw[va2,vbG];exact⟨z,by unfold dT at hl;simpa using hl⟩
    have:=List.length_pos_of_mem this;unfold KT at hu;omega
  refine⟨?_,r listed a w q b⟩
  rw[vbB]
  intro j z
  let⟨y,o,h,_⟩:=mem_ready.1 z
  have p:=(vao.1 h).1
  have:=b j p
  unfold dT at this
  have e:j<listed.size:=by rw[q.size];exact p
  simp[e]at this y
  rw[this]at y;cases y
 | succ d ih =>
  intro listed a w q hu
  refine⟨λhr=>r listed a w q (qj1 hD q.size hr),λj z=>?_⟩
  refine wpOp_mono (λa' w' H=>ih _ a' w' H ?_) (qjp hD L s S q z a7)
  let⟨y,o,h,_⟩:=mem_ready.1 z
  have p:=(vao.1 h).1
  have e:j<listed.size:=by rw[q.size];exact p
  have:KT ops.size (listed.setIfInBounds j true)<KT ops.size listed:=by
   unfold KT;refine qhT (λi F=>?_) (vbG.2 p) ?_ ?_
   .have a2:¬dT (listed.setIfInBounds j true) i:=by unfold dT;simpa using F
    have:¬dT listed i:=λhx=>a2 ((gy e).2 (.inr hx));unfold dT at this;simpa using this
   .simp[e]at y;simp[e,y]
   .simp[e]
  omega
end
def qd6(a:List (Nat×Nat))(H:List aJ)(k:Nat):Q (Nat×aJ):=match a.find? (λx=>x.1==k)with|some x=>(H[x.2]?).map λB=>(x.2,B)|none=>N
def qtA(rw:V Nat)(a:V (Nat×Nat))(lo n:Nat):K:=(a.all (λx=>Y (lo<=x.2)&&Y (x.2<lo+n))&&a.all λx=>a.all λy=>x.2 !=y.2||x.1==y.1)&&rw.all λx=>x % 8 !=3||decide (x / 8<lo)
def qsA(rw:List Nat)(H:List aJ):K:=rw.all λx=>x % 2 !=0||match H[x / 2]? with|some (.cells _ [])=>T|_=>Z
def qgm(rw:V Nat)(a:V (V Rs)):K:=a.all λl=>l.all λr=>!(r.1&&rw.contains (2 * r.2.1))&&(r.2.2 !=1||r.1||(!rw.contains (2 * r.2.1)&&rw.contains (8 * r.2.1+3)))
def EA{a:V (Nat×Nat)}{H:V aJ}{k i:Nat}{B:aJ}(h:qd6 a H k=O (i,B)):(k,i)∈a/\H[i]? =O B:=by
 unfold qd6 at h;split at h;.rename_i x c;let⟨m,d,e⟩:=fJ h;cases e;have b:=vb5 c;simp only[o5]at b;subst b;exact⟨vby c,d⟩
 .cases h
def qgH(P:I)(GE:V (Nat×V U))(a:Array M)(d:V Nat)(X:V aJ)(e:V (Nat×Nat))(rw:V Nat)(i:aF->Prop)(b:aF):Prop:=drawD P rw a.toList b.tmps.length d=T/\(qtA rw e b.boxes.length X.length&&qsA rw (b.boxes++X))=T/\ pU P GE (qd6 e (b.boxes++X)) rw a (λh c=>(qmf d h&&qgm rw h)=T/\i c) a.toList (b.boxes.length+X.length) [] {b with boxes:=b.boxes++X++g9 P a.toList}
section
variable{P:I}{E:BP}{w:J}{a:Act}{st:aF}
def UZ{z:cF}{b:Array M}{an:V Nat}{X:V aJ}{br:V (Nat×Nat)}{rw:V Nat}{b5:aF->Prop}{b8:Exit->Act->J->Prop}(hR:qg9 P E z st a w)(hl:z.length<=st.boxes.length)
  (hQ:∀a' w' a4,a'.defers=a.defers->qg9 P E z a4 a' w'->b5 a4->b8 .normal a' w') (hp:qgH P E.GE b an X br rw b5 st):wpAny P .any b b8 b.size (Array.replicate b.size Z) a {w with drawn:=w.drawn+1}:=by
 let⟨ar,c,hp⟩:=hp
 rw[ne]at c
 let⟨c,a3⟩:=c
 let⟨hD,a7⟩:=qbp ar
 let⟨bb,R,t0,tl,⟨tlog,t1⟩,t2⟩:=SG b.toList _ _ _ hp
 rw[va6,ne]at tlog
 let⟨tlog,b1⟩:=tlog
 let⟨Γ,bs,ow,h,hk⟩:=hR
 have b0:(st.boxes++X).length=st.boxes.length+X.length:=by simp
 unfold qtA at c
 simp only[ne,oR,nm,va5,bne_iff_ne,ne_eq,o5]at c
 let⟨c,a1⟩:=c
 have H:∀j,j<b.size->∀r∈R.getD j [],(!(r.1&&rw.contains (2 * r.2.1))&&(r.2.2 !=1||r.1||(!rw.contains (2 * r.2.1)&&rw.contains (8 * r.2.1+3))))=true:=λj p r L=>by
  have a2:j<R.length:=by rw[tl];simpa using p
  have hm:R.getD j []∈R:=by rw[vap,m6 a2];exact m4 a2
  exact oR.1 (oR.1 b1 _ hm) _ L
 have hT:qB P E.GE (qd6 br (st.boxes++X)) rw b st.tmps.length (st.boxes.length+X.length) bb (λk=>R.getD k []):={
  len:=by rw[t0]
  step:=λk o S=>by have:=t2 k o (by simpa using S);simpa using this
  log:=λi j r a9 x p=>by unfold bf;rw[a7];exact qmg tlog a9 x p
  row0:=λi x k e hh=>by
   rw[t0]at hh;let⟨cs,own,e1,e2⟩:=e9.1 hh;have n:=oR.1 a3 _ x;rw[va5,show 2 * i / 2=i by omega]at n;rcases n with n|n;.rw[show 2 * i % 2=0 by omega]at n;cases n
   split at n;.rename_i b2 a0;simp only at e1;rw[B2 (ax a0),a0]at e1;cases e1;cases e2
   .cases n
  rowl:=λj p i x k L=>by have:=H j p _ L;simp[x]at this
  roww:=λj p i x L=>by have:=H j p _ L;simp[x]at this
  wl:=λj p i L=>by
   have:=H j p _ L;simp only[bne_self_eq_false,vb6,ne,vaV]at this;have h4:=a1 _ (vce.1 this.2.2);have h5:i<st.boxes.length:=by omega
   refine⟨by omega,λk B A=>?_⟩;have:=c.1 _ (EA A).1;simp only at this;omega
  hd:=λi x=>by
   have h4:=a1 _ x;have h5:i<st.boxes.length:=by omega
   refine⟨by omega,λk B A=>?_⟩;have:=c.1 _ (EA A).1;simp only at this;omega
  binj:=λj k i B B' h1 h2=>by
   have m1:=(EA h1).1;have m2:=(EA h2).1;rcases c.2 _ m1 _ m2 with y|y;.exact absurd rfl y
   .exact y}
 have a8:∀(k i:Nat) B,qd6 br (st.boxes++X) k=O (i,B)->z.length<=i/\i<st.boxes.length+X.length:=λk i B A=>by have:=c.1 _ (EA A).1;simp only at this;omega
 have a6:=(h.drew).extend X
 have hS:=a6.extend (g9 P b.toList)
 refine qlY hD hT (by omega) a8 (ds:=a.defers) (λa' w' hd a5=>hQ a' w' _ hd a5 (by simpa using t1)) b.size _ a _ ?_ ?_
 .refine⟨by simp,rfl,λj o S p=>?_,Γ,_,ow,_,hS,λi x=>?_,rfl,λk o d S hd F=>?_,λt _=>by rw[t0],⟨0,w0 _,λi o S hc=>?_,by rw[t0]⟩,λi o S hm _=>?_,λτ m hm ao hh=>?_,λk i B _ A _=>?_⟩
  .unfold dT at p
   rw[Bv]at p;cases p
  .rw[B2 (by rw[m3,h.bl];omega),B2 (by rw[h.bl];omega)];exact hk i x
  .unfold dT at F
   rw[Bv]at F;cases F
  .unfold dT
   rw[Bv]
   constructor
   .intro y;cases y
   .intro y;exact absurd y (va3 _)
  .have ad:b.toList[i]? =O o:=by simpa using S
   have s:=Vz (P:=P) b.toList i o ad hm
   have b3:de (b.toList.take i)<(g9 P b.toList).length:=by
    have:∃B,th P o=O B:=by cases y:o.op<;>simp[aR,y]at hm<;>exact⟨_,by simp[th,y];rfl⟩
    let⟨B,hB⟩:=this;rw[hB]at s;exact ax s
   have q:(bs++List.replicate X.length N).length=st.boxes.length+X.length:=by simp[h.bl]
   unfold Qc
   refine⟨?_,?_⟩
   .rw[vav (by rw[q];omega),va7,hU (by rw[q];omega)]
   .show(st.boxes++X++g9 P b.toList)[_]? =_
    rw[vav (by omega),b0,vcD]
    exact s
  .have:=hT.back (τ:=τ) m 0 (by omega) λi h1 h2 ab=>by
    have:=(ao i (by omega) ab).2 (by omega)
    unfold dT at this
    rw[Bv]at this;cases this
   rw[ve,t0]at this
   exact this hh
  .let⟨m1,m2⟩:=EA A
   have:=c.1 _ m1
   simp only at this
   have q:(bs++List.replicate X.length N).length=st.boxes.length+X.length:=by simp[h.bl]
   refine⟨?_,?_⟩
   .rw[B2 (by omega),vav (by rw[h.bl];omega),va7,hU (by rw[h.bl];omega)]
   .show(st.boxes++X++g9 P b.toList)[_]? =_
    rw[B2 (by omega)];exact m2
 .unfold KT
  have:=List.length_filter_le (λi=>!(Array.replicate b.size Z).getD i Z) (List.range b.size)
  simpa using this
end
set_option linter.unusedVariables false
def qo8(P:I)(a:Op):K:=!qek a&&!aR a&&dh P a !=3
def Bq(P:I)(GE:List (Nat×List U))(o:M)(sc:List It)(a:aF)(e:List It->List Rs->aF->Prop):Prop:=match o.dst with
 |some d=>match qo8 P o.op with|true=>qkE P GE o.op a.tmps a.boxes sc λp _ b=>iM a.tmps d p λtm=>cf (cU d a.own) λc=>e b [(Z,d,0)] ⟨tm,a.boxes,c⟩|false=>False
 |none=>False
def xj(a:aF)(d:Nat)(p:U)(L:V (Nat×G))(sc:V It)(c:V It->V Rs->aF->Prop):Prop:=iM a.tmps d p λtm=>cf ((L.map λx=>((d,x.1),x.2))++cU d a.own) λb=>c sc [(Z,d,0)] ⟨tm,a.boxes,b⟩
def SI (P:I) (GE:List (Nat×List U)) (p:G) (x:Operand) (m:U) (a:List U) (own:Q (Nat×List (Nat×G))) (sc:List It) (b:aF) (o:List It→List Rs→aF→Prop):Prop :=y3 GE b.tmps x λn=>match n with
 | .bptr i off => bH m = O a∧qN b.boxes i fun B => match B with
  | .cells cs ow => match Y (a.length = P.cellsOf p) && (P.info? p).isSome && Y (off + a.length ≤ cs.length) && a.all PVal.one with
   | true => cf (cs.take off ++ a ++ cs.drop (off + a.length)) fun d => cf (Id i off a.length) fun e => match own with|none=>cf (ow.filter λy=>y.1<off||off+a.length<=y.1) λc=>iM b.boxes i (.cells d c) λH=>o sc e ⟨b.tmps,H,b.own⟩|some (t,L)=>match xt (L.map (·.1))&&L.all (λy=>Y (y.1<a.length))with| true => cf ((L.map fun y => (off + y.1,y.2)).reverse ++ ow.filter fun y => y.1 < off || off + a.length ≤ y.1) fun c => iM b.boxes i (.cells d c) fun H =>cf (b.own.filter λx=>!L.any λy=>x.1==(t,y.1)) λh=>o sc ((Z,t,0)::e) ⟨b.tmps,H,h⟩|false=>False
   |false=>False
  |_=>False
 |_=>False
def qwl(L:List (Nat×G)):K:=match L with|[(0,_)]=>T|_=>Z
def qkD(P:I)(GE:List (Nat×List U))(rw:List Nat)(h:G)(x:Operand)(c:U)(a:List U)(sc:List It)(b:aF)(e:List It->List Rs->aF->Prop):Prop:=y3 GE b.tmps x λd=>match d with
 | .bptr i off => match rw.contains (2 * i) with
  |true=>qN b.boxes i λB=>match B with|.cells cs []=>gB P h (.bptr 0 off) c [.cells cs []]=O [.cells a []]/\iM b.boxes i (.cells a []) λH=>e sc [] ⟨b.tmps,H,b.own⟩|_=>False
  |false=>False
 |_=>False
def Q6 (P:I) (GE:List (Nat×List U)) (A:List Nat) (bi:Q (Nat×aJ)) (rw:List Nat) (o:M) (id:Nat) (sc:List It) (a:aF) (a0:List It→List Rs→aF→Prop):Prop :=
 match o.op,o.dst with
 | .call { callee := .value f,args,.. },O d => match sc with
  |.c r ro::sc'=>y3 GE a.tmps f λX=>match X with
   |.func (.func g) first cap=>qdM GE a.tmps args.toList λas=>CC P GE g (first++as++cap) r ro/\xj a d r ro sc' a0
   |_=>False
  | .cg c :: sc' => match c.ρ with
   | [] => kv P GE f args.toList c a fun _ => iM a.tmps d c.r fun tm => cf ((c.ro.map fun x => ((d,x.1),x.2)) ++ cU d (a.own.filter fun z => !c.oa.any fun x => z.1 == (x.t,x.k))) fun n =>
     cf ((Z,d,0)::c.oa.map λx=>(Z,x.t,0)) λE=>a0 sc' E ⟨tm,a.boxes,n⟩
   |_=>False
  |_=>False
 |.alloc t,O d=>match(ft P t).isSome with
  |true=>xj a d (.bptr id 0) [] sc a0
  |false=>False
 |.makeMap _ N,O d=>xj a d (.mapr id) [] sc a0
 |.buildSlice a1 len parts,O d=>L0 GE a.tmps parts.toList λR=>match sc,P.underlying a1 with
  |.v p::sc',O (.slice e)=>gV P a1 len R=O p/\xj a d p [(0,e)] sc' a0
  |_,_=>False
 |.build a1 parts,O d=>match sc with
  |.b p L::sc'=>L0 GE a.tmps parts.toList λR=>df P a1 R=O p/\Ce P a1 R L/\xj a d p L sc' a0
  |_=>Bq P GE o sc a a0
 |.assign (.const v),O d=>match DP P o.type v with
  |some e=>xj a d (.slice []) [(0,e)] sc a0
  |none=>Bq P GE o sc a a0
 |.move (.const v),O d=>match DP P o.type v with
  |some e=>xj a d (.slice []) [(0,e)] sc a0
  |none=>Bq P GE o sc a a0
 |.assign (.tmp t),O d=>match Y (d≠t)with
  |true=>IR a.tmps t λp=>iM a.tmps d p λtm=>cf (vI d (λx=>if x.1=t then(d,x.2)else x) a.own) λn=>a0 sc [(Z,d,0),(Z,t,0)] ⟨tm,a.boxes,n⟩
  |false=>False
 |.move (.tmp t),O d=>match Y (d∈A)&&Y (d≠t)with
  |true=>IR a.tmps t λp=>iM a.tmps d p λtm=>cf (vI d (λx=>if x.1=t then(d,x.2)else x) a.own) λn=>a0 sc [(Z,d,0),(Z,t,0)] ⟨tm,a.boxes,n⟩
  |false=>Bq P GE o sc a a0
 | .call { callee := .builtin .append,args:=⟨[.tmp t,y]⟩,argTypes:=⟨[a1,T']⟩ },O d => IR a.tmps t fun S => y3 GE a.tmps y fun vn => match S,vn,sc,P.underlying a1 with
  |.slice es,.slice ns,.v p::sc',O (.slice e)=>match Y (a1=T')&&Y (((t,0),e)∈a.own)with
   |true=>DR P a1 es ns=O p/\iM a.tmps d p λtm=>cf (((d,0),e)::cU d (a.own.filter λx=>x.1 !=(t,0))) λn=>a0 sc' [(Z,d,0),(Z,t,0)] ⟨tm,a.boxes,n⟩
   |false=>False
  |_,_,_,_=>False
 | .load a1 x,O d => match sc,P.underlying a1,Y (d ∈ A) with
  | .z l :: sc',O (.struct _),_ => y3 GE a.tmps x fun F => match F with
   | .bptr i off => qN a.boxes i fun B => match B with
    | .cells cs own => co P a1 (cs.drop off) = O (.agg l)∧cf (qk4 off (P.cellsOf a1) own) fun L => match xt (L.map (·.1)) with
     | true => iM a.tmps d (.agg l) fun tm => cf (own.filter fun x => !L.any fun y => x.1 == off + y.1) fun q => iM a.boxes i (.cells cs q) fun H =>
       cf ((L.map λy=>((d,y.1),y.2)).reverse++cU d a.own) λn=>cf ((Z,d,0)::L.map λy=>(T,i,off+y.1)) λE=>a0 sc' E ⟨tm,H,n⟩
     |false=>False
    |_=>False
   |_=>False
  | _,O (.slice e),T => y3 GE a.tmps x fun F => match F with
   | .bptr i off => qN a.boxes i fun B => match B with
    | .cells cs own => match Y ((off,e) ∈ own) && Y (off < cs.length) with
     | true => IR cs off fun p => iM a.tmps d p fun tm => cf (own.filter fun x => !([((0:Nat),e)].any fun y => x.1 == off + y.1)) fun q => iM a.boxes i (.cells cs q) fun H =>
       cf (([((0:Nat),e)].map λy=>((d,y.1),y.2)).reverse++cU d a.own) λn=>cf ((Z,d,0)::[((0:Nat),e)].map λy=>(T,i,off+y.1)) λE=>a0 sc E ⟨tm,H,n⟩
     |false=>False
    |_=>False
   |_=>False
  |_,_,_=>Bq P GE o sc a a0
 | .store a1 x (.tmp t),N => IR a.tmps t fun h => match sc with
  |.y vs::sc'=>cf (Yl t a.own) λL=>match h with
   |.agg l=>SI P GE a1 x (.agg l) vs (O (t,L)) sc' a a0
   |_=>False
  | .s :: sc' => match h.one with
   |true=>cf (Yl t a.own) λL=>match qwl L with
    |true=>SI P GE a1 x h [h] (O (t,L)) sc' a a0
    |false=>SI P GE a1 x h [h] N sc' a a0
   |false=>False
  |.x vs::sc'=>SI P GE a1 x h vs N sc' a a0
  |.w _ (.cells cs' [])::sc'=>qkD P GE rw a1 x h cs' sc' a a0
  |_=>False
 | .store a1 x y,N => y3 GE a.tmps y fun h => match sc with
  |.s::sc'=>match h.one with
   |true=>SI P GE a1 x h [h] N sc' a a0
   |false=>False
  |.x vs::sc'=>SI P GE a1 x h vs N sc' a a0
  |.w _ (.cells cs' [])::sc'=>qkD P GE rw a1 x h cs' sc' a a0
  |_=>False
 | .mapUpdate t m k x,N => y3 GE a.tmps m fun vm => y3 GE a.tmps k fun vk => y3 GE a.tmps x fun F => match vm,sc with
  |.mapr i,.w _ (.map es')::sc'=>qN a.boxes i λB=>match B with
   |.map es=>qeK P t es vk F=O es'/\iM a.boxes i (.map es') λH=>a0 sc' [] ⟨a.tmps,H,a.own⟩
   |_=>False
  |_,_=>False
 |_,_=>Bq P GE o sc a a0
def qjQ:aJ->K|.cells _ []=>T|_=>Z
def ZW(P:I)(GE:List (Nat×List U))(A:List Nat)(e:Q (Nat×aJ))(rw:List Nat)(o:M)(id:Nat)(sc:List It)(a:aF)(n:List It->List Rs->aF->Prop):Prop:=match o.op,o.dst,sc with
 | .call { callee := .value f,args,.. },O d,.cg c :: sc' => match rw.contains (8 * d + 7) with
  |true=>c.Bs'=c.Bs/\(match c.Bs.all qjQ&&c.ρ.all (λi=>rw.contains (2 * i)&&rw.contains (8 * i+3))with| true => kv P GE f args.toList c a fun H => iM a.tmps d c.r fun tm => cf ((c.ro.map fun x => ((d,x.1),x.2)) ++ cU d (a.own.filter fun z => !c.oa.any fun x => z.1 == (x.t,x.k))) fun b =>cf ((Z,d,0)::c.oa.map λx=>(Z,x.t,0)) λh=>n sc' h ⟨tm,H,b⟩|false=>False)
  |false=>match c.ρ with
  |[]=>Q6 P GE A e rw o id sc a n
  |_::_=>match rw.contains (8 * d+1)with| true => kv P GE f args.toList c a fun H => iM a.tmps d c.r fun tm => cf ((c.ro.map fun x => ((d,x.1),x.2)) ++ cU d (a.own.filter fun z => !c.oa.any fun x => z.1 == (x.t,x.k))) fun b =>cf (((Z,d,0)::c.oa.map λx=>(Z,x.t,0))++c.ρ.map λi=>(Z,i,1)) λh=>n sc' h ⟨tm,H,b⟩|false=>False
 | .load q x,O d,.v p :: sc' => match rw.contains (8 * d + 5) with
  |true=>y3 GE a.tmps x λm=>match m with|.eptr cs=>co P q cs=O p/\iM a.tmps d p λtm=>cf (cU d a.own) λb=>n sc' [(Z,d,0)] ⟨tm,a.boxes,b⟩|_=>False
  |false=>Q6 P GE A e rw o id sc a n
 |_,_,_=>match qbC rw o||qdB rw o with|true=>False|false=>Q6 P GE A e rw o id sc a n
def Tp(P:I)(GE:List (Nat×List U))(e:Nat->Q (Nat×aJ))(rw A:List Nat)(i:Array M)(p:List Nat)(r:List It->aF->Prop):List M->Nat->Nat->List It->List (List Rs)->aF->Prop
 |[],_,_,sc,lg,m=>match qmf p lg&&qgm rw lg with
  |true=>r sc m
  |false=>False
 | o :: rest,pos,id,sc,lg,m =>
  let d (sc:List It) (m:aF):Prop:=ZW P GE A (e lg.length) rw o id sc m λc q a=>cf (lg++[q]) λh=>Tp P GE e rw A i p r rest (pos+1) (id+if aR o.op then 1 else 0) c h a
  match o.guard with
  |none=>d sc m
  |some (j,want)=>ZV i j want pos sc m λb c a=>match b with
   |true=>d c a
   |false=>qdX a o.dst (.val undef) [] a.boxes λn=>cf (lg++[MH o]) λh=>Tp P GE e rw A i p r rest (pos+1) (id+if aR o.op then 1 else 0) c h n
section
variable{P:I}{GE:V (Nat×V U)}{A:V Nat}{ops:Array M}
def mQ{r:Q (Nat×aJ)}{rw:V Nat}{o:M}{id:Nat}{sc:V It}{q:aF}{x:V It->V Rs->aF->Prop}(h:Bq P GE o sc q x):∃s' n,mM P GE r rw o id q s' n/\∃a,x a n s':=by
 unfold Bq at h;split at h
 .rename_i d s;split at h;.rename_i b;unfold qo8 at b;simp only[ne,vaV,bne_iff_ne,ne_eq]at b;let⟨⟨t,i⟩,m⟩:=b;let⟨p,w,a,c,e,_⟩:=Yb (id:=id) h;simp only[cE,bp]at e;have:=qmK m i c;subst this;exact⟨_,_,.ev d p s t i m c,a,e⟩
  .exact h.elim
 .exact h.elim
def HG{q:Q (Nat×aJ)}{rw:V Nat}{o:M}{id:Nat}{E:G}{x y:Operand}{p:V U}{sc:V It}{e:aF}{z:V It->V Rs->aF->Prop}(t:o.op=.store E x y)(s:o.dst=N)(h:SI P GE E x (opv GE e.tmps y) p N sc e z):∃s' n,mM P GE q rw o id e s' n/\∃d,z d n s':=by
 unfold SI at h;rw[di]at h;split at h
 .rename_i i c w;let⟨b,h⟩:=h;let⟨B,m,h⟩:=fp h;split at h
  .rename_i r own;split at h;.rename_i a;simp only[bp,cE]at h;simp only[ne,nm]at a;exact⟨_,_,.st E x y i c p r own s t w b m (by simp only[gB,b,m];rw[hU ⟨a.1.1.1,a.1.1.2,a.1.2,a.2⟩]),sc,h⟩
   .exact h.elim
  .exact h.elim
 .exact h.elim
def U5{z:Q (Nat×aJ)}{rw:V Nat}{o:M}{id:Nat}{a1:G}{x:Operand}{t:Nat}{d:U}{w:V U}{L:V (Nat×G)}{sc:V It}{c:aF}{a0:V It->V Rs->aF->Prop}(S:o.op=.store a1 x (.tmp t))(F:o.dst=N)
  (n:c.tmps.getD t .undef=d) (H:(∃l,d=.agg l)\/(d.one=T/\∃e,L=[(0,e)])) (R:∀y∈L,((t,y.1),y.2)∈c.own) (h:SI P GE a1 x d w (O (t,L)) sc c a0):
  ∃s' s,mM P GE z rw o id c s' s/\∃q,a0 q s s':=by
 subst n
 unfold SI at h
 rw[di]at h
 split at h
 .rename_i i p X
  let⟨b,h⟩:=h
  let⟨B,r,h⟩:=fp h
  split at h
  .rename_i E own
   split at h
   .rename_i a
    simp only[bp]at h
    split at h
    .rename_i m
     simp only[cE]at h
     simp only[ne,nm,oR]at a m
     exact⟨_,_,.sto a1 x t i p w E own L F S X b r (by simp only[gB,b,r];rw[hU ⟨a.1.1.1,a.1.1.2,a.1.2,oR.2 a.2⟩]) H R (pe m.1) (λy hy=>by simpa using m.2 y hy),sc,h⟩
    .exact h.elim
   .exact h.elim
  .exact h.elim
 .exact h.elim
def Ya{n:Q (Nat×aJ)}{rw:V Nat}{o:M}{id:Nat}{F:G}{x y:Operand}{a:V U}{sc:V It}{d:aF}{E:V It->V Rs->aF->Prop}(w:o.op=.store F x y)(s:o.dst=N)(h:qkD P GE rw F x (opv GE d.tmps y) a sc d E):∃s' m,mM P GE n rw o id d s' m/\∃c,E c m s':=by
 unfold qkD at h;rw[di]at h;split at h
 .rename_i i b z;split at h
  .rename_i t;let⟨B,r,h⟩:=fp h;split at h;.rename_i p;let⟨q,e⟩:=h;rw[cE]at e;exact⟨_,_,.stR F x y i b p a s w z r q (by simpa using t),sc,e⟩
   .exact h.elim
  .exact h.elim
 .exact h.elim
def Xp{n:Nat}{a:V Operand}{own b:V ((Nat×Nat)×G)}{c:V OA}(h:qis n a own c=T)(e:∀x∈c,((x.t,x.k),x.e)∈own->((x.t,x.k),x.e)∈b):qis n a b c=true:=by unfold qis at h ⊢;rw[ne]at h ⊢;refine⟨oR.2 λx d=>?_,h.2⟩;have:=oR.1 h.1 x d;simp only[ne,va5,nm]at this ⊢;exact⟨this.1,this.2.imp_right λ⟨i,m⟩=>⟨e x d i,m⟩⟩
def qbr{f:Operand}{a:V Operand}{c:GC}{s:aF}{X:V aJ->Prop}(e:c.ρ=[])(h:kv P GE f a c s X):X s.boxes/\∀b:aF,(∀x,x=f\/x∈a->opv GE s.tmps x=opv GE b.tmps x)->(∀x∈c.oa,((x.t,x.k),x.e)∈s.own->((x.t,x.k),x.e)∈b.own)->T9 P GE f a b c.r c.ro b.boxes c.oa:=by
 have S:=h;unfold kv at h;rw[di]at h;split at h
 .rename_i g first cap hf
  rw[rW]at h;split at h
  .rename_i d;let⟨y,z,i,B,E,m⟩:=h;rw[wm]at m;have w:∀(H:V aJ),nv H c.ρ c.Bs'=H:=λH=>by rw[e];cases c.Bs'<;>rfl
   rw[w]at m;refine⟨m,λb t q=>?_⟩;have r:kv P GE f a c b (λH=>H=b.boxes):=by
    unfold kv;rw[di,<-t f (.inl rfl),hf];simp only;rw[rW,show a.map (opv GE b.tmps)=a.map (opv GE s.tmps)from vbq λx F=>(t x (.inr F)).symm];have p:(xt c.ρ&&qis first.length a b.own c.oa&&c.Bs.all Z5&&Y (c.Bs'.length=c.ρ.length))=true:=by simp only[ne]at d ⊢;exact⟨⟨⟨d.1.1.1,Xp d.1.1.2 q⟩,d.1.2⟩,d.2⟩
    rw[p];simp only;refine⟨y,z,?_,B,E,?_⟩;.rw[e]at i ⊢;cases n:c.Bs<;>cases o:c.Hc<;>rw[n,o]at i<;>first|exact i.elim|trivial
    .rw[wm,w]
   obtain⟨R,L,rfl⟩:=An r;exact L
  .exact h.elim
 .exact h.elim
def qdw{bi:Q (Nat×aJ)}{rw:V Nat}{o:M}{id:Nat}{sc:V It}{st:aF}{a7:V It->V Rs->aF->Prop}(h:Q6 P GE A bi rw o id sc st a7):∃s' rs,mM P GE bi rw o id st s' rs/\∃n,a7 n rs s':=by
 unfold Q6 at h;split at h
 .rename_i f H a3 d b a;split at h
  .rename_i r ro n;rw[di]at h;split at h
   .rename_i g first cap hf
    rw[rW]at h;let⟨⟨s,q⟩,h3⟩:=h;simp only[xj,cE,bp]at h3;exact⟨_,_,.call d f H a3 g first cap r ro b a hf s q,n,h3⟩
   .exact h.elim
  .rename_i c n;split at h;.rename_i a5;let⟨s,q⟩:=qbr a5 h;simp only[cE,bp]at s;exact⟨_,_,.callR d f H a3 c.r c.ro c.oa b a q,n,s⟩
   .exact h.elim
  .exact h.elim
 .rename_i t d b a;split at h;.rename_i hz;let⟨zs,hz⟩:=vaO.1 hz;simp only[xj,cE,bp]at h;exact⟨_,_,.alloc d t zs b a hz,sc,h⟩
  .exact h.elim
 .rename_i t d b a;simp only[xj,cE,bp]at h;exact⟨_,_,.mkmap d t b a,sc,h⟩
 .rename_i T len w d b a;rw[zH]at h;split at h;.rename_i p n e R;let⟨s,q⟩:=h;simp only[xj,cE,bp]at q;exact⟨_,_,.res d p [(0,e)] a (.inl ⟨T,len,w,e,b,s,R,rfl⟩),n,q⟩
  .exact h.elim
 .rename_i T w d b a;split at h;.rename_i p L n;rw[zH]at h;let⟨s,q,h3⟩:=h;simp only[xj,cE,bp]at h3;exact⟨_,_,.res d p L a (.inr (.inl ⟨T,w,b,s,q⟩)),n,h3⟩
  .exact mQ h
 .rename_i v d b a;split at h;.rename_i e he;simp only[xj,cE,bp]at h;exact⟨_,_,.res d (.slice []) [(0,e)] a (.inr (.inr ⟨v,e,.inl b,he,rfl,rfl⟩)),sc,h⟩
  .exact mQ h
 .rename_i v d b a;split at h;.rename_i e he;simp only[xj,cE,bp]at h;exact⟨_,_,.res d (.slice []) [(0,e)] a (.inr (.inr ⟨v,e,.inr b,he,rfl,rfl⟩)),sc,h⟩
  .exact mQ h
 .rename_i t d b a;split at h;.rename_i E;simp only[lm,cE,bp]at h;exact⟨_,_,.mv d t a (.inl b) (by simpa using E),sc,h⟩
  .exact h.elim
 .rename_i t d b a;split at h;.rename_i E;simp only[ne,nm]at E;simp only[lm,cE,bp]at h;exact⟨_,_,.mv d t a (.inr b) E.2,sc,h⟩
  .exact mQ h
 .rename_i t y T T' d b a;rw[lm,di]at h;split at h
  .rename_i es ns p n e he hn R;split at h;.rename_i X;simp only[ne,nm]at X;obtain⟨rfl,hm⟩:=X;let⟨s,q⟩:=h;simp only[cE,bp]at q;exact⟨_,_,.app d t T e y es ns p a b R he hn s hm,n,q⟩
   .exact h.elim
  .exact h.elim
 .rename_i T x d b a;split at h
  .rename_i l n fs R;rw[di]at h;split at h
   .rename_i i z hx;let⟨B,hB,h⟩:=fp h;split at h
    .rename_i S own;let⟨s,q⟩:=h;rw[bp]at q;split at q
     .rename_i hn;simp only[cE,bp]at q;have a1:l.length=P.cellsOf T:=by
       have hp:=s;unfold co at hp;rw[R]at hp;simp only at hp;split at hp;.rename_i hh;cases hp;rw[vbg];omega
       .cases hp
      exact⟨_,_,.ld d T x i z S own _ (.agg l) a b hx hB (.inr ⟨fs,l,R,s,rfl,pe hn,λy F=>by rw[a1];exact(Rc F).2⟩) (λy F=>(Rc F).1),n,q⟩
     .exact q.elim
    .exact h.elim
   .exact h.elim
  .rename_i e R _;rw[di]at h;split at h
   .rename_i i z hx;let⟨B,hB,h⟩:=fp h;split at h
    .rename_i S own;split at h
     .rename_i X;simp only[ne,nm]at X;simp only[lm,cE,bp]at h;have a0:S[z]? =O (S.getD z .undef):=by rw[vap,m6 X.2];rfl
      refine⟨_,_,.ld d T x i z S own [(0,e)] (S.getD z .undef) a b hx hB (.inl ⟨e,R,a0,rfl⟩) (λy F=>?_),_,h⟩;rw[vbS.1 F];exact X.1
     .exact h.elim
    .exact h.elim
   .exact h.elim
  .exact mQ h
 .rename_i T x t b a;rw[lm]at h;split at h
  .rename_i vs n;rw[bp]at h;split at h;.rename_i l hl;exact U5 b a hl (.inl ⟨l,rfl⟩) (λy F=>Rd F) h
   .exact h.elim
  .rename_i n;split at h
   .rename_i a2;rw[bp]at h;split at h
    .rename_i hL;refine U5 b a rfl (.inr ⟨a2,?_⟩) (λy F=>Rd F) h;unfold qwl at hL;split at hL;.rename_i e a4;exact⟨e,a4⟩
     .cases hL
    .exact HG b a h
   .exact h.elim
  .exact HG b a h
  .exact Ya b a h
  .exact h.elim
 .rename_i T x y _ b a;rw[di]at h;split at h
  .split at h;.exact HG b a h
   .exact h.elim
  .exact HG b a h
  .exact Ya b a h
  .exact h.elim
 .rename_i t m k x b a;simp only[di]at h;split at h
  .rename_i i j a6 n hv;let⟨B,hB,h⟩:=fp h;split at h;.rename_i es;let⟨s,q⟩:=h;rw[cE]at q;exact⟨_,_,.mu t m k x _ a b (by rw[hv];exact qiM hB s),n,q⟩
   .exact h.elim
  .exact h.elim
 .exact mQ h
def qre{p c q:aJ}(h:GI p q=q)(a:bu c=bu p)(i:∀e own,p=.cells e own->∀m b,c=.cells m b->∀x∈own,x∈b):GI c q=q:=by
 cases q with
 |dead=>cases c<;>rfl
 | map es =>cases p with|cells e own=>simp[GI]at h|dead=>simp[GI]at h|map es0=>cases c with|map es1=>simp only[bu,aJ.map.injEq]at a;subst a;exact h|cells e own=>simp[bu]at a|dead=>simp[bu]at a
 | cells e own =>
  cases p with
  |map es0=>simp[GI]at h
  |dead=>simp[GI]at h
  | cells cs0 own0 =>
   cases c with
   |map es1=>simp[bu]at a
   |dead=>simp[bu]at a
   | cells cs1 own1 =>
    simp only[bu,aJ.cells.injEq,vcj]at a;subst a;have i:=i _ _ rfl _ _ rfl;simp only[GI,aJ.cells.injEq]at h ⊢;refine⟨h.1,?_⟩
    have d:own.all (λx=>Y (x∈own1))=true:=oR.2 λx o=>by
     have n:=h.2;split at n;.rename_i r;have:=oR.1 r x o;simp only[nm]at this ⊢;exact i x this
     .subst n;simpa using i x o
    rw[d]
def qhX{l:List aJ}:∀{n:Nat}{k:aJ->Prop}{B:aJ},l[n]? =O B->k B->qN l n k:=by induction l with|nil=>intro n k B h;simp at h|cons x l ih=>intro n k B h a;cases n with|zero=>simp at h;subst h;exact a|succ n=>exact ih (by simpa using h) a
def qbB{ρ:List Nat}{H d:List aJ}(s:d.map bu=H.map bu):∀{m:List Nat}{n o:List aJ},(∀i∈m,∀p own,H[i]? =O (.cells p own)->∀b a,d[i]? =O (.cells b a)->∀x∈own,x∈a)->xl ρ H m n o->xl ρ d m n o
 |[],[],[],_,_=>trivial
 |[],_::_,_,_,h=>h.elim
 |[],[],_::_,_,h=>h.elim
 |_::_,[],_,_,h=>h.elim
 |_::_,_::_,[],_,h=>h.elim
 | j :: m,B :: n,Bc :: o,hm,h => by
  let⟨y,z⟩:=h;let⟨L,r,t,w⟩:=fp y;have c:=qgc s j;rw[r]at c;cases e:d[j]? with
  |none=>rw[e]at c;cases c
  |some B1=>rw[e]at c;simp only[oo,q8]at c;exact⟨qhX e ⟨qre t c λp own F b a q=>hm j (by simp) p own (by rw[r,F]) b a (by rw[e,q]),w⟩,qbB s (λi E=>hm i (vaP _ E)) z⟩
def qcF:∀(b:List Nat)(c H d:List aJ),d.length=H.length->b.length=c.length->∀i∈b,(nv d b c)[i]? =(nv H b c)[i]?
 |[],_,_,_,_,_,i,hi=>by cases hi
 |_::_,[],_,_,_,hl,_,_=>by simp at hl
 | j :: b,B :: c,H,d,hl,hn,i,hi => by
  simp only[nv];by_cases a:i∈b;.exact qcF b c (H.set j B) (d.set j B) (by simp[hl]) (by simpa using hn) i a
  .have:i=j:=(oL.1 hi).resolve_right a;subst this;rw[nc _ _ _ a,nc _ _ _ a,vbH,vbH];simp[hl]
def qdu{f:Operand}{a:V Operand}{c:GC}{s:aF}{a0:V aJ->Prop}(h:kv P GE f a c s a0):a0 (nv s.boxes c.ρ c.Bs')/\c.Bs'.length=c.ρ.length/\∀b:aF,(∀x,x=f\/x∈a->opv GE s.tmps x=opv GE b.tmps x)->(∀x∈c.oa,((x.t,x.k),x.e)∈s.own->((x.t,x.k),x.e)∈b.own)->b.boxes.map bu=s.boxes.map bu->(∀i∈c.ρ,∀k e,lp s (T,(i,k),e)->lp b (T,(i,k),e))->
   T9 P GE f a b c.r c.ro (nv b.boxes c.ρ c.Bs') c.oa:=by
 unfold kv at h
 rw[di]at h
 split at h
 .rename_i g first cap hf
  rw[rW]at h
  split at h
  .rename_i d
   let⟨S,X,h3,h4,h5,r⟩:=h
   rw[wm]at r
   refine⟨r,?_,λb t o hs n=>?_⟩
   .simp only[ne,nm]at d
    exact d.2
   have q:kv P GE f a c b (λH=>H=nv b.boxes c.ρ c.Bs'):=by
    unfold kv;rw[di,<-t f (.inl rfl),hf];simp only;rw[rW,show a.map (opv GE b.tmps)=a.map (opv GE s.tmps)from vbq λx p=>(t x (.inr p)).symm];have m:(xt c.ρ&&qis first.length a b.own c.oa&&c.Bs.all Z5&&Y (c.Bs'.length=c.ρ.length))=true:=by simp only[ne]at d ⊢;exact⟨⟨⟨d.1.1.1,Xp d.1.1.2 o⟩,d.1.2⟩,d.2⟩
    rw[m];simp only;refine⟨S,X,qbB hs (λi hi B own L E w R x p=>?_) h3,h4,h5,?_⟩;.let⟨F,y,z,q2⟩:=e9.1 (n i hi x.1 x.2 (e9.2 ⟨B,own,L,p⟩));rw[R]at z;cases z;exact q2
    .rw[wm]
   obtain⟨H',k1,rfl⟩:=An q
   exact k1
  .exact h.elim
 .exact h.elim
def qjs{p c:aJ}{a:List U}(h:GI p (.cells a [])=.cells a [])(b:bu c=bu p):GI c (.cells a [])=.cells a []/\bu c=.cells a []:=by cases p with|map es0=>simp[GI]at h|dead=>simp[GI]at h| cells cs0 own0 =>cases c with|map es1=>simp[bu]at b|dead=>simp[bu]at b|cells cs1 own1=>simp only[bu,aJ.cells.injEq,vcj]at b;subst b;simp only[GI,aJ.cells.injEq]at h ⊢;refine⟨⟨h.1,by simp⟩,?_⟩;simp only[bu];rw[h.1]
def qgE{B:aJ}(h:qjQ B=T):∃a,B=.cells a []:=by
 cases B with
 |cells a own=>cases own with
  |nil=>exact⟨a,rfl⟩
  |cons x l=>simp[qjQ]at h
 |map es=>simp[qjQ]at h
 |dead=>simp[qjQ]at h
def IS{ρ:List Nat}{H d:List aJ}(o:d.map bu=H.map bu):∀{i:List Nat}{c m:List aJ},c.all qjQ=T->xl ρ H i c m->xl ρ d i c m/\∀(k j:Nat) B,i[k]? =O j->c[k]? =O B->(d[j]?).map bu=O B
 |[],[],[],_,_=>⟨md,λk j B h _=>by simp at h⟩
 |[],_::_,_,_,h=>h.elim
 |[],[],_::_,_,h=>h.elim
 |_::_,[],_,_,h=>h.elim
 |_::_,_::_,[],_,h=>h.elim
 | j :: i,B :: c,Bc :: m,hp,h => by
  let⟨t,w⟩:=h;simp only[List.all_cons,ne]at hp;obtain⟨R,rfl⟩:=qgE hp.1;let⟨L,q,r,s⟩:=fp t;have b:=qgc o j;rw[q]at b;cases e:d[j]? with
  |none=>rw[e]at b;cases b
  | some B1 =>rw[e]at b;simp only[oo,q8]at b;let⟨y,z⟩:=qjs r b;let⟨E,F⟩:=IS o hp.2 w;refine⟨⟨qhX e ⟨y,s⟩,E⟩,λk x p n a=>?_⟩;cases k with|zero=>simp at n a;subst n;subst a;rw[e];exact mx O z|succ k=>exact F k x p (by simpa using n) (by simpa using a)
def TR:∀(a:List Nat)(b H:List aJ),a.Nodup->a.length=b.length->∀(k j:Nat) B,a[k]? =O j->b[k]? =O B->j<H.length->(nv H a b)[j]? =O B
 |[],_,_,_,_,k,j,B,h,_,_=>by simp at h
 |_::_,[],_,_,hl,_,_,_,_,_,_=>by simp at hl
 | i :: a,B0 :: b,H,hn,hl,k,j,B,hj,hB,hlt => by simp only[nv];rw[vb4]at hn;cases k with|zero=>simp at hj hB;subst hj;subst hB;rw[nc _ _ _ hn.1];simp[hlt]|succ k=>exact TR a b _ hn.2 (by simpa using hl) k j B (by simpa using hj) (by simpa using hB) (by simpa using hlt)
def qdv{f:Operand}{a:List Operand}{c:GC}{s:aF}{a2:List aJ->Prop}(r:c.Bs'=c.Bs)(m:c.Bs.all qjQ=T)(h:kv P GE f a c s a2):a2 (nv s.boxes c.ρ c.Bs')/\(∀H:List aJ,H.map bu=s.boxes.map bu->(nv H c.ρ c.Bs').map bu=H.map bu)/\(∀(H:List aJ)(i:Nat) E own,i∈c.ρ->(nv H c.ρ c.Bs')[i]? =O (.cells E own)->own=[])/\
   ∀e:aF,(∀x,x=f\/x∈a->opv GE s.tmps x=opv GE e.tmps x)->(∀x∈c.oa,((x.t,x.k),x.e)∈s.own->((x.t,x.k),x.e)∈e.own)->e.boxes.map bu=s.boxes.map bu->T9 P GE f a e c.r c.ro (nv e.boxes c.ρ c.Bs') c.oa:=by
 unfold kv at h
 rw[di]at h
 split at h
 .rename_i g first cap hf
  rw[rW]at h
  split at h
  .rename_i q
   let⟨h1,h2,h3,h4,h5,h6⟩:=h
   rw[wm]at h6
   have n:=q
   simp only[ne,nm]at n
   have hn:=pe n.1.1.1
   have b:=n.2
   refine⟨h6,λH X=>?_,λH i E own z w=>?_,λe ho S X=>?_⟩
   .let⟨_,L⟩:=IS X m h3
    refine vbj λi=>?_
    rw[t8,t8]
    by_cases z:i∈c.ρ
    .let⟨k,t⟩:=vbc.1 z
     have d:=ax t
     have y:c.Bs[k]? =O (c.Bs[k]'(by rw[<-r,b];exact d)):=m6 _
     have F:=L k i _ t y
     have p:i<H.length:=by
      cases hH:H[i]? with
      |none=>rw[hH]at F;cases F
      |some B=>exact ax hH
     rw[F,TR c.ρ c.Bs' H hn b.symm k i _ t (by rw[r];exact y) p]
     let⟨E,o⟩:=qgE (oR.1 m _ (m4 (by rw[<-r,b];exact d)))
     rw[o]
     rfl
    .rw[nc _ _ _ z]
   .let⟨k,t⟩:=vbc.1 z
    have d:=ax t
    have y:c.Bs[k]? =O (c.Bs[k]'(by rw[<-r,b];exact d)):=m6 _
    have p:i<H.length:=by have:=ax w;rwa[Ro]at this
    rw[TR c.ρ c.Bs' H hn b.symm k i _ t (by rw[r];exact y) p]at w
    let⟨a1,o⟩:=qgE (oR.1 m _ (m4 (by rw[<-r,b];exact d)))
    rw[o]at w
    cases w
    rfl
   have a0:kv P GE f a c e (λH=>H=nv e.boxes c.ρ c.Bs'):=by
    unfold kv;rw[di,<-ho f (.inl rfl),hf];simp only;rw[rW,show a.map (opv GE e.tmps)=a.map (opv GE s.tmps)from vbq λx w=>(ho x (.inr w)).symm];have R:(xt c.ρ&&qis first.length a e.own c.oa&&c.Bs.all Z5&&Y (c.Bs'.length=c.ρ.length))=true:=by simp only[ne]at q ⊢;exact⟨⟨⟨q.1.1.1,Xp q.1.1.2 S⟩,q.1.2⟩,q.2⟩
    rw[R];simp only;exact⟨h1,h2,(IS X m h3).1,h4,h5,by rw[wm]⟩
   obtain⟨H',k1,rfl⟩:=An a0
   exact k1
  .exact h.elim
 .exact h.elim
def qdx{E:Q (Nat×aJ)}{rw:V Nat}{o:M}{id:Nat}{sc:V It}{L:aF}{a0:V It->V Rs->aF->Prop}(h:ZW P GE A E rw o id sc L a0):∃s' w,uf P GE E rw o id L s' w/\∃a,a0 a w s':=by
 have t:qbC rw o=Z->qdB rw o=Z->Q6 P GE A E rw o id sc L a0->∃s' w,uf P GE E rw o id L s' w/\∃a,a0 a w s':=λs S h=>by let⟨s',w,b,m⟩:=qdw h;exact⟨s',w,.old b s S,m⟩
 unfold ZW at h;split at h
 .rename_i f e B d c a n y;have s:qbC rw o=false:=by unfold qbC;rw[n]
  split at h
  .rename_i F;let⟨hc,h⟩:=h;split at h;.rename_i r;rw[ne]at r;let⟨b,m,R,h4⟩:=qdv hc r.1 h;simp only[cE,bp]at b;refine⟨_,_,.callH d f e B c.r c.ro c.oa c.ρ (λH=>nv H c.ρ c.Bs') n y F (λH i z=>nc _ _ _ z) m R (λi q=>?_) h4,a,b⟩;have:=oR.1 r.2 i q;simp only[ne,vce]at this;exact this
   .exact h.elim
  rename_i F;have S:qdB rw o=false:=by unfold qdB;rw[n,y];exact F
  split at h;.exact t s S h
  .split at h;.rename_i q;let⟨b,m,R⟩:=qdu h;simp only[cE,bp]at b;exact⟨_,_,.callG d f e B c.r c.ro c.oa c.ρ (λH=>nv H c.ρ c.Bs') n y q F (λH i z=>nc _ _ _ z) (λH X i hs z=>qcF c.ρ c.Bs' H X (by simpa using mx List.length hs) m.symm i z) R,a,b⟩
   .exact h.elim
 .rename_i a1 x d p a n y;split at h
  .rename_i q;rw[di]at h;split at h;.rename_i cs hx;let⟨b,m⟩:=h;simp only[cE,bp]at m;exact⟨_,_,.ldE d a1 x cs p n y q hx b,a,m⟩
   .exact h.elim
  .rename_i q;refine t ?_ (by unfold qdB;rw[n]) h;unfold qbC;rw[n,y];simpa using q
 .split at h;.exact h.elim
  .rename_i s;rw[vcU]at s;exact t s.1 s.2 h
def DN{c:Nat->Q (Nat×aJ)}{rw r:List Nat}{R:List It->aF->Prop}:∀(a:List M)(n id:Nat)(sc:List It)(b:List (List Rs))(i:aF),Tp P GE c rw A ops r R a n id sc b i->
  pU P GE c rw ops (λb e=>(qmf r b&&qgm rw b)=T/\∃sc,R sc e) a id b i
 | [],_,_,sc,b,i,h => by
  simp only[Tp]at h;split at h;.rename_i E;exact⟨E,sc,h⟩
  .exact h.elim
 | o :: a,n,id,sc,b,i,h => by
  simp only[Tp]at h
  have m:∀sc i,ZW P GE A (c b.length) rw o id sc i (λd q e=>cf (b++[q]) λt=>Tp P GE c rw A ops r R a (n+1) (id+if aR o.op then 1 else 0) d t e)->
    ∃s' q,uf P GE (c b.length) rw o id i s' q/\pU P GE c rw ops (λb e=>(qmf r b&&qgm rw b)=T/\∃sc,R sc e) a (id+if aR o.op then 1 else 0) (b++[q]) s':=by
   intro sc i H
   let⟨s',q,z,d,w⟩:=qdx (id:=id) H
   rw[bp]at w
   exact⟨s',q,z,DN a _ _ d _ s' w⟩
  unfold pU;split at h
  .rename_i s;try simp only[s]
   exact m _ _ h
  .rename_i j y s;let⟨x,L,p⟩:=SH h;simp only[s,L];rcases p with⟨rfl,d,p⟩|⟨hne,d,p⟩;.exact⟨λ_=>m _ _ p,λF=>absurd rfl F⟩
   .refine⟨λB=>absurd B hne,λ_=>?_⟩;simp only[Ej,bp]at p;exact DN a _ _ d _ _ p
def fx.drawD{m:Nat}(z:P.follows .mixedOrders=T){id:Nat}{r:V Nat}{X:V aJ}{s:V (Nat×Nat)}{rw:V Nat}{Q:Exit->aF->Prop}{st:aF}(i:ops.toList.all iv=T)(h:qgH P GE ops r X s rw (Q .normal) st):fx P GE m (.region id ops T) Q st:=by
 intro F E c a w t B q;obtain⟨rfl,_,_,_⟩:=t;refine xh (P6 (Q:=λe b p=>e=.normal/\qdZ P E c a.defers Q .normal b p) z i (by rintro⟨_,_,h,_⟩;cases h) ?_) λe b p n=>by obtain⟨rfl,n⟩:=n;exact n
 exact UZ q q.len (λb p o y d x=>⟨rfl,y,o,d,x⟩) h
def To(P:I)(GE:List (Nat×List U))(A:List Nat)(ops:Array M)(c:List Nat)(X:List aJ)(d:List (Nat×Nat))(rw:List Nat)(e:List It->aF->Prop)(sc:List It)(a:aF):Prop:=match ops.toList.all iv&&(drawD P rw ops.toList a.tmps.length c&&qtA rw d a.boxes.length X.length)with
 |true=>qlJ a.boxes X λb=>match qsA rw b with|true=>qlJ b (g9 P ops.toList) λH=>Tp P GE (qd6 d b) rw A ops c e ops.toList 0 (a.boxes.length+X.length) sc [] ⟨a.tmps,H,a.own⟩|false=>False
 |false=>False
def U4{m:Nat}(o:P.follows .mixedOrders=T){id:Nat}{d:V Nat}{X:V aJ}{i:V (Nat×Nat)}{rw:V Nat}{q:V It->aF->Prop}{sc:V It}{st:aF}{Q:Exit->aF->Prop}(n:∀st,(∃sc,q sc st)->Q .normal st)
  (h:To P GE A ops d X i rw q sc st):fx P GE m (.region id ops T) Q st:=by
 unfold To at h
 split at h
 .rename_i a
  rw[ne,ne]at a
  let⟨b,a⟩:=a
  unfold qlJ at h
  rw[bp]at h
  split at h
  .rename_i p
   rw[bp]at h
   refine(fx.drawD (Q:=λe st=>e=.normal/\∃sc,q sc st) o b ⟨a.1,by rw[ne];exact⟨a.2,p⟩,?_⟩).imp λe st c=>by obtain⟨rfl,c⟩:=c;exact n st c
   have:=DN _ _ _ _ _ _ h
   simpa using this
  .exact h.elim
 .exact h.elim
end
end Go.Proofs.YtibglelmlnfojaaGreatDoor
