/- PROVED: a part of the proof. Conditions: none. -/
import Derived.Test.YtankopenjcbeeaaGreatDoorPkO6
import Derived.Test.YtankopenjcbeeaaGreatDoorPkO5
set_option linter.unusedSimpArgs false set_option linter.defProp false
set_option linter.unusedVariables false
noncomputable section
namespace Go.Proofs.YtankopenjcbeeaaGreatDoor
open Go
open Option renaming some→O,none→N
open Go renaming TypeId→G,Value→D,Program→I,Oper→M,World→J,Code→W
open Bool renaming true→T,false→Z
open Decidable renaming decide→Y
open YtankopenjcbeeaaGreatDoor renaming PVal→U
def IR(o:M):V Rs:=match o.dst with|some d=>[(Z,d,0)]|none=>[]
def Dp(P:I)(GE:V (Nat×V U))(d:Q (Nat×ay))(rw:V Nat)(a:Array M)(o:M)(id:Nat)(s c:az)(b:V Rs):Prop:=match o.guard with|none=>rr P GE d rw o id s c b|some (j,want)=>∃x,Ci a s.tmps j=O x/\(x=O want->rr P GE d rw o id s c b)/\(x≠O want->c=Fy s o.dst (.val undef) [] s.boxes/\b=IR o)
def oK(P:I)(GE:List (Nat×List U))(a:Nat->Q (Nat×ay))(rw:List Nat)(b:Array M)(e:List (List Rs)->az->Prop):List M->Nat->List (List Rs)->az->Prop|[],_,lg,st=>e lg st| o :: rest,id,lg,st =>match o.guard with|none=>∃d c,rr P GE (a lg.length) rw o id st d c/\oK P GE a rw b e rest (id+if aD o.op then 1 else 0) (lg++[c]) d|some (j,want)=>match Ci b st.tmps j with| some x => (x = O want→∃ d c,rr P GE (a lg.length) rw o id st d c∧oK P GE a rw b e rest (id + if aD o.op then 1 else 0) (lg ++ [c]) d) ∧ (x≠O want->oK P GE a rw b e rest (id+if aD o.op then 1 else 0) (lg++[IR o]) (Fy st o.dst (.val undef) [] st.boxes))|none=>False
section
variable{P:I}{GE:V (Nat×V U)}
def Nr{b:Nat->Q (Nat×ay)}{rw:List Nat}{d:Array M}{a0:List (List Rs)->az->Prop}:∀(a:List M)(id:Nat)(c:List (List Rs))(m:az),oK P GE b rw d a0 a id c m->
  ∃(a1:Nat->az)(R:List (List Rs)),a1 0=m/\R.length=a.length/\a0 (c++R) (a1 a.length)/\∀(k:Nat) o,a[k]? =O o->Dp P GE (b (c.length+k)) rw d o (id+cG (a.take k)) (a1 k) (a1 (k+1)) (R.getD k [])
 |[],id,c,m,h=>⟨λ_=>m,[],rfl,rfl,by simpa[oK]using h,by simp⟩
 | o :: a,id,c,m,h => by
  have s:cG [o]=if aD o.op then 1 else 0:=by unfold cG;simp only[vbD,List.filter_nil];split<;>rfl
  have fin:∀i e,Dp P GE (b c.length) rw d o id m i e->oK P GE b rw d a0 a (id+if aD o.op then 1 else 0) (c++[e]) i->
    ∃(a1:Nat->az)(R:List (List Rs)),a1 0=m/\R.length=a.length+1/\a0 (c++R) (a1 (a.length+1))/\∀(k:Nat) z,(o::a)[k]? =O z->Dp P GE (b (c.length+k)) rw d z (id+cG ((o::a).take k)) (a1 k) (a1 (k+1)) (R.getD k []):=by
   intro i e q r
   let⟨a1,R,L,X,S,t2⟩:=Nr a _ _ i r
   refine⟨λk=>match k with|0=>m|k+1=>a1 k,e::R,rfl,by simp[X],by simpa using S,λk z p=>?_⟩
   cases k with
   |zero=>simp at p;subst p;simp only[List.getD_cons_zero];rw[L];simpa[cG]using q
   | succ k =>
    have:=t2 k z (by simpa using p)
    have E:id+(if aD o.op then 1 else 0)+cG (a.take k)=id+cG ((o::a).take (k+1)):=by
     simp only[List.take_succ_cons];have:cG (o::a.take k)=cG [o]+cG (a.take k):=by unfold cG;simp only[vbD,List.filter_nil];split<;>simp<;>omega
     rw[this,s];omega
    rw[E,show(c++[e]).length+k=c.length+(k+1) by simp;omega]at this
    simpa using this
  simp only[oK]at h;simp only[p6];split at h;.rename_i w;let⟨A,e,q,r⟩:=h;exact fin A e (by unfold Dp;rw[w];exact q) r
  .rename_i j t w;split at h
   .rename_i x B;by_cases y:x=O t;.let⟨A,e,q,r⟩:=h.1 y;exact fin A e (by unfold Dp;rw[w];exact⟨x,B,λ_=>q,λF=>absurd y F⟩) r
    .exact fin _ _ (by unfold Dp;rw[w];exact⟨x,B,λH=>absurd H y,λ_=>⟨rfl,rfl⟩⟩) (h.2 y)
   .exact h.elim
end
def drawD(P:I)(rw:V Nat)(l:V M)(n:Nat)(b:V Nat):K:=
 let a (i j:Nat):K:=(b.getD j 0).testBit i
 let cJ:=List.range l.length
 (b.length==l.length&&cJ.all λj=>jX b (l.getD j default)==b.getD j 0)&&
 (l.all (λo=>o.dst.all λd=>Y (d<n))&&
 cJ.all (λj=>(l.getD j default).after.all λe=>!Region.binds .any e||decide (e.on<j))&&
 cJ.all (λj=>cJ.all λi=>i==j||(l.getD i default).dst==N||(l.getD i default).dst !=(l.getD j default).dst)&&
 cJ.all (λj=>(looks l.toArray (l.getD j default)).all λt=>cJ.all λi=>i==j||(l.getD i default).dst !=O t||(if i<j then a i j else a j i))&&
 cJ.all (λj=>cJ.all λi=>!(Y (i<j))||rv P rw (l.getD i default)<2||rv P rw (l.getD j default)<2||(rv P rw (l.getD i default)!=3&&rv P rw (l.getD j default)!=3)||a i j))
def qgt(b:V Nat)(a:V (V Rs)):K:=
 let cJ:=List.range a.length
 cJ.all λj=>(a.getD j []).all λr=>cJ.all λi=>!(Y (i<j))||!((a.getD i []).contains r)||(b.getD j 0).testBit i
structure UG(P:Program)(rw:List Nat)(ops:Array Oper)(n:Nat):Prop where
 f1:∀(k:Nat) o d,ops[k]? =some o->o.dst=some d->d<n
 f2:∀(k:Nat) o,ops[k]? =some o->∀e∈o.after.toList,Region.binds .any e=true->e.on<k
 f3:∀(i j:Nat) oi oj d,ops[i]? =some oi->ops[j]? =some oj->i≠j->oi.dst=some d->oj.dst≠some d
 f4:∀(j:Nat) oj t,ops[j]? =some oj->t∈looks ops oj->∀(i:Nat) oi,ops[i]? =some oi->i≠j->oi.dst=some t->(i<j/\bf ops i j)\/(j<i/\bf ops j i)
 f5:∀(i j:Nat) oi oj,ops[i]? =some oi->ops[j]? =some oj->i<j->rv P rw oi<2\/rv P rw oj<2\/(rv P rw oi≠3/\rv P rw oj≠3)\/bf ops i j
def WY{c a:V Nat}{o:M}(h:∀e∈o.after.toList,Region.binds .any e=T->c.getD e.on 0=a.getD e.on 0):jX c o=jX a o:=by
 unfold jX
 have d:∀(l:V Edge)(s:Nat),(∀e∈l,Region.binds .any e=T->c.getD e.on 0=a.getD e.on 0)->
   l.foldl (λs e=>if Region.binds .any e then s|||2 ^ e.on|||c.getD e.on 0 else s) s=l.foldl (λs e=>if Region.binds .any e then s|||2 ^ e.on|||a.getD e.on 0 else s) s:=by
  intro l
  induction l with
  |nil=>intro s _;rfl
  | cons e l ih =>
   intro s h
   simp only[List.foldl_cons]
   rw[ih _ λe i=>h e (by simp[i])]
   by_cases b:Region.binds .any e=T
   .rw[l7 b,l7 b,h e (by simp) b]
   .rw[hG b,hG b]
 exact d _ _ h
def qkL{l:V M}{an:V Nat}(c:an.length=l.length)(m:∀j,j<l.length->jX an (l.getD j default)=an.getD j 0)
  (a:∀j,j<l.length->∀e∈(l.getD j default).after.toList,Region.binds .any e=T->e.on<j):NQ l=an:=by
 have i:∀k,k<=l.length->NQ (l.take k)=an.take k:=by
  intro k;induction k with
  |zero=>intro _;simp[NQ]
  | succ k h =>
   intro r;have h:=h (by omega);have q:l.take (k+1)=l.take k++[l.getD k default]:=by rw[vcv,vav];simp[show k<l.length by omega]
   have d:an.take (k+1)=an.take k++[an.getD k 0]:=by rw[vcv,vav];simp[show k<an.length by omega]
   have b:NQ (l.take k++[l.getD k default])=NQ (l.take k)++[jX (NQ (l.take k)) (l.getD k default)]:=by unfold NQ;rw[vcy];rfl
   rw[q,b,h,d,<-m k (by omega)];congr 2;refine WY λe p o=>?_;have:=a k (by omega) e p o;rw[vav,vav,vay this]
 have:=i l.length (l8 _)
 rwa[vaR,<-c,vaR]at this
def Vk{P:I}{rw:V Nat}{c:Array M}{n:Nat}{an:V Nat}(h:drawD P rw c.toList n an=T):UG P rw c n/\NQ c.toList=an:=by
 unfold drawD at h;simp only[ne,vaE,vbF,vbh,va4,oy,bne_iff_ne,ne_eq,vbf,vbu,Option.all_eq_true]at h;obtain⟨⟨y,z⟩,⟨⟨⟨R,F⟩,S⟩,X⟩,h5⟩:=h;have b:∀{k:Nat} {o},c[k]? =O o->c.toList[k]? =O o:=λx=>by simpa using x
 have r:NQ c.toList=an:=by
  refine qkL y z λj p e E A=>?_;rcases F j p e (by simpa using E)with a|a;.rw[A]at a;cases a
  .exact a
 refine⟨⟨λk o d x w=>?_,λk o x e E A=>?_,λi j H L d q p m w B=>?_,λj L t p ht i H q m w=>?_,λi j H L q p m=>?_⟩,r⟩;.exact R o (vaD (b x)) d w
 .have:=F k (aq (b x)) e (by rw[HW (b x)];simpa using E);rcases this with a|a;.rw[A]at a;cases a
  .exact a
 .have:=S j (aq (b p)) i (aq (b q));rw[HW (b q),HW (b p)]at this;rcases this with(a|a)|a;.exact m a
  .rw[w]at a;cases a
  .exact a (w.trans B.symm)
 .have:=X j (aq (b p)) t (by rw[HW (b p)];exact ht) i (aq (b q));rw[HW (b q)]at this;unfold bf;rw[r];rcases this with(a|a)|a;.exact absurd a m
  .exact absurd w a
  .by_cases s:i<j;.rw[l7 s]at a;exact .inl ⟨s,a⟩
   .rw[hG s]at a;exact .inr ⟨by omega,a⟩
 .have:=h5 j (aq (b p)) i (aq (b q));rw[HW (b q),HW (b p)]at this;unfold bf;rw[r];rcases this with(((a|a)|a)|a)|a;.rw[vbn]at a;exact absurd m a
  .exact .inl a
  .exact .inr (.inl a)
  .exact .inr (.inr (.inl a))
  .exact .inr (.inr (.inr a))
def qgu{e:V Nat}{lg:V (V Rs)}(h:qgt e lg=T){i j:Nat}{r:Rs}(b:i<j)(m:r∈lg.getD i [])(c:r∈lg.getD j []):(e.getD j 0).testBit i=true:=by
 unfold qgt at h;simp only[vaE,vbF,vbh,va4,vbn,vcO]at h;have d:j<lg.length:=by
  by_cases a:j<lg.length;.exact a
  .rw[vav,vaU (by omega)]at c;simp at c
 rcases h j d r c i (by omega)with(a|a)|a;.exact absurd b a
 .exact absurd m a
 .exact a
section
variable{P:I}{GE:V (Nat×V U)}{c:Nat->Q (Nat×ay)}{rw:V Nat}{ops:Array M}{n base:Nat}{T:Nat->az}{R:Nat->V Rs}
structure pk(P:Program)(GE:List (Nat×List PVal))(c:Nat->Option (Nat×ay))(rw:List Nat)(ops:Array Oper)(n base:Nat)(T:Nat->az)(R:Nat->List Rs):Prop where
 len:(T 0).tmps.length=n
 step:∀(k:Nat) o,ops[k]? =some o->Dp P GE (c k) rw ops o (base+cG (ops.toList.take k)) (T k) (T (k+1)) (R k)
 log:∀(i j:Nat) r,i<j->r∈R i->r∈R j->bf ops i j
 row0:∀i,2 * i∈rw->∀k e,¬kL (T 0) (true,(i,k),e)
 rowl:∀j,j<ops.size->∀i,2 * i∈rw->∀k,(true,i,k)∉R j
 roww:∀j,j<ops.size->∀i,2 * i∈rw->(false,i,1)∉R j
 wl:∀j,j<ops.size->∀i,(false,i,1)∈R j->i<base/\∀k B,c k≠some (i,B)
 hd:∀i,8 * i+3∈rw->i<base/\∀k B,c k≠some (i,B)
 binj:∀(j k i:Nat) B B',c j=some (i,B)->c k=some (i,B')->j=k
def qj9{o:M}{s:az}:qhD P rw o s (Fy s o.dst (.val undef) [] s.boxes) (IR o):=by unfold IR;cases a:o.dst with|none=>exact⟨by rw[a];rfl,λ_=>rfl,λτ _ h=>h⟩|some d=>refine⟨by rw[a];exact⟨_,rfl⟩,λ_=>rfl,?_⟩;rintro⟨b,⟨t,k⟩,e⟩ m i;cases b with|true=>exact i|false=>exact(ed (by simpa[Fy]using cZ.1 i)).1
def Dp.cls{r:Q (Nat×ay)}{o:M}{id:Nat}{s w:az}{i:V Rs}(h:Dp P GE r rw ops o id s w i){τ:qep}(q:τ.1=true)(a:qhm τ i):2<=rv P rw o/\((Z,τ.2.1.1,1)∈i->rv P rw o=3):=by
 have d:rr P GE r rw o id s w i->2<=rv P rw o/\((Z,τ.2.1.1,1)∈i->rv P rw o=3):=λp=>by
  refine⟨?_,λm=>p.whole m⟩;rcases a with a|a;.let⟨b,⟨t,k⟩,e⟩:=τ;simp only at q;subst q;exact p.cls a
  .rw[p.whole a.2];decide
 unfold Dp at h;split at h;.exact d h
 .let⟨x,_,y,z⟩:=h;by_cases m:x=O ‹K›;.exact d (y m)
  .obtain⟨_,rfl⟩:=z m;have:=(WD (o:=o) rfl a).2;rw[q]at this;cases this
def Dp.eff{d:Q (Nat×ay)}{o:M}{id:Nat}{s b:az}{rs:V Rs}(h:Dp P GE d rw ops o id s b rs):qhD P rw o s b rs:=by
 unfold Dp at h;split at h;.exact h.eff
 .let⟨x,_,e,i⟩:=h;by_cases a:x=O ‹K›;.exact(e a).eff
  .obtain⟨rfl,rfl⟩:=i a;exact qj9
def pk.all(e:pk P GE c rw ops n base T R):∀k,k<=ops.size->(T k).tmps.length=n:=by
 intro k;induction k with
 |zero=>intro _;exact e.len
 | succ k ih =>
  intro h;have d:=ih (by omega);have b:ops[k]? =O ops[k]:=by simp[show k<ops.size by omega]
  have a:=(e.step k _ b).eff.tm;split at a;.let⟨p,a⟩:=a;rw[a];simp[d]
  .rw[a];exact d
def pk.between(s:pk P GE c rw ops n base T R){t:Nat}:∀(m k:Nat),k+m<=ops.size->(∀(i:Nat) o,k<=i->i<k+m->ops[i]? =O o->o.dst≠O t)->(T (k+m)).tmps[t]? =(T k).tmps[t]?:=by
 intro m;induction m with
 |zero=>intro k _ _;rfl
 | succ m q =>
  intro k z b;have h:ops[k+m]? =O ops[k+m]:=by simp[show k+m<ops.size by omega]
  have a:=(s.step _ _ h).eff.tm;have x:=b (k+m) _ (by omega) (by omega) h;have q:=q k (by omega) λi o r y=>b i o r (by omega);rw[<-q,show k+(m+1)=k+m+1 from rfl];split at a;.rename_i d w;let⟨p,a⟩:=a;rw[a,Pi (λe=>x (by rw[w,e]))]
  .rw[a]
def pk.boxes(e:pk P GE c rw ops n base T R):∀(m k:Nat),k+m<=ops.size->(∀(i:Nat) o,k<=i->i<k+m->ops[i]? =O o->rv P rw o≠3)->(T (k+m)).boxes.map aT=(T k).boxes.map aT:=by
 intro m;induction m with
 |zero=>intro k _ _;rfl
 |succ m ih=>
  intro k p a;have b:ops[k+m]? =O ops[k+m]:=by simp[show k+m<ops.size by omega]
  rw[show k+(m+1)=k+m+1 from rfl,(e.step _ _ b).eff.bx (a (k+m) _ (by omega) (by omega) b)];exact ih k (by omega) λi o d h=>a i o d (by omega)
def pk.boxes_eq(e:pk P GE c rw ops n base T R){k m:Nat}(r:k<=ops.size)(s:m<=ops.size)(h:∀(i:Nat) o,ops[i]? =O o->rv P rw o=3->(i<k↔i<m)):(T k).boxes.map aT=(T m).boxes.map aT:=by
 rcases Nat.le_total k m with b|b
 .have:=e.boxes (m - k) k (by omega) λi o p q d a=>by have:=(h i o d a);omega
  rw[show k+(m - k)=m from by omega]at this;exact this.symm
 .have:=e.boxes (k - m) m (by omega) λi o p q d a=>by have:=(h i o d a);omega
  rw[show m+(k - m)=k from by omega]at this;exact this
def pk.back(e:pk P GE c rw ops n base T R){τ:qep}:∀(m k:Nat),k+m<=ops.size->(∀i,k<=i->i<k+m->¬qhm τ (R i))->kL (T (k+m)) τ->kL (T k) τ:=by
 intro m;induction m with
 |zero=>intro k _ _ h;exact h
 |succ m ih=>
  intro k p a h;have b:ops[k+m]? =O ops[k+m]:=by simp[show k+m<ops.size by omega]
  exact ih k (by omega) (λi d o=>a i d (by omega)) ((e.step _ _ b).eff.back τ (a _ (by omega) (by omega)) h)
def pk.norow(b:pk P GE c rw ops n base T R){q i k:Nat}{e:G}(o:q<=ops.size)(d:2 * i∈rw):¬kL (T q) (true,(i,k),e):=λh=>by have:=b.back (τ:=(true,(i,k),e)) q 0 (by omega) (λj _ m a=>a.elim (λa=>b.rowl j (by omega) i d k (by simpa[ey]using a)) (λa=>b.roww j (by omega) i d a.2)) (by rw[s7];exact h);exact b.row0 i d k e this
def pk.tlog(t:UG P rw ops n)(p:pk P GE c rw ops n base T R){i j:Nat}{τ:qep}(d:i<j)(w:j<ops.size)(a:qhm τ (R i))(b:qhm τ (R j)):bf ops i j:=by
 have e:ops[i]? =O ops[i]:=vaM (by omega);have m:ops[j]? =O ops[j]:=vaM w;by_cases o:ey τ∈R i/\ey τ∈R j;.exact p.log i j _ d o.1 o.2
 .have q:τ.1=true:=by
   rcases a with a|a
   .rcases b with b|b
    .exact absurd ⟨a,b⟩ o
    .exact b.1
   .exact a.1
  let⟨x,r⟩:=(p.step i _ e).cls q a
  let⟨y,s⟩:=(p.step j _ m).cls q b
  rcases t.f5 i j _ _ e m d with h|h|h|h
  .omega
  .omega
  .rcases a with a|a
   .rcases b with b|b
    .exact absurd ⟨a,b⟩ o
    .exact absurd (s b.2) h.2
   .exact absurd (r a.2) h.1
  .exact h
variable{E:qy}{bs0:bC}{ds:V Deferred}
structure Pe(P:Program)(E:qy)(c:Nat->Option (Nat×ay))(rw:List Nat)(ops:Array Oper)(n base:Nat)(T:Nat->az)(R:Nat->List Rs)(bs0:bC)(ds:List Deferred)(listed:Array Bool)(a:Act)(w:World):Prop where
 size:listed.size=ops.size
 defers:a.defers=ds
 down:qmZ ops listed
 ex:∃Γ bs ow st,SR P E Γ bs ow w a.tmps st/\XH bs0 bs/\st.tmps.length=n/\
  (∀(k:Nat) o d,ops[k]? =some o->o.dst=some d->du listed k->st.tmps[d]? =(T ops.size).tmps[d]?)/\
  (∀t,(∀(k:Nat) o,ops[k]? =some o->du listed k->o.dst≠some t)->st.tmps[t]? =(T 0).tmps[t]?)/\
  (∃m,m<=ops.size/\(∀(i:Nat) o,ops[i]? =some o->rv P rw o=3->(du listed i↔i<m))/\st.boxes.map aT=(T m).boxes.map aT)/\
  (∀(i:Nat) o,ops[i]? =some o->aD o.op=true->¬du listed i->bs[K2 ops base i]? =some none/\st.boxes[K2 ops base i]? =qX P o)/\
  (∀(τ:qep)(m:Nat),m<=ops.size->(∀k,k<ops.size->qhm τ (R k)->(du listed k↔k<m))->kL (T m) τ->kL st τ)/\
  (∀(k i:Nat) B,k<ops.size->c k=some (i,B)->¬du listed k->bs[i]? =some none/\st.boxes[i]? =some B)
def qdi(hD:UG P rw ops n)(hT:pk P E.GE c rw ops n base T R)(d4:bs0.length<=base)(bb:∀(k i:Nat) B,c k=O (i,B)->bs0.length<=i/\i<base){listed:Array K}{a:Act}{w:J}(hI:Pe P E c rw ops n base T R bs0 ds listed a w){j:Nat}(hj:j∈Region.ready .any ops listed)
  (Q:Exit->Act->J->Prop):wpOp P ops Q j (Pe P E c rw ops n base T R bs0 ds (listed.setIfInBounds j true)) a w:=by
 let⟨c2,oj,y,dl⟩:=mem_ready.1 hj
 have a6:j<ops.size:=(vh.1 y).1
 have a9:¬du listed j:=by
  unfold du;have:j<listed.size:=by rw[hI.size];exact a6
  simp[this]at c2 ⊢;exact c2
 have b5:∀e∈oj.after.toList,Region.binds .any e=true->du listed e.on:=λe he H=>dl e (by simpa using he) H
 have b1:∀i,bf ops i j->du listed i:=Rj hI.down j oj y b5
 have a2:∀(i:Nat) oi,ops[i]? =O oi->bf ops j i->¬du listed i:=λi oi hi H bl=>a9 (Rj hI.down i oi hi (hI.down i oi hi bl) j H)
 let⟨Γ,bs,ow,st,hS,hK,a8,cg,br,⟨m,hm,c5,c4⟩,cv,ci,cs⟩:=hI.ex
 have c9:∀k,k<ops.size->∃o,ops[k]? =O o:=λk z=>⟨_,vaM z⟩
 have ao:∀t,t∈looks ops oj->st.tmps[t]? =(T j).tmps[t]?:=by
  intro t ht;by_cases bg:∃i oi,ops[i]? =O oi/\i≠j/\oi.dst=O t
  .let⟨i,oi,bn,bi,be⟩:=bg
   have a7:∀(k:Nat) o,ops[k]? =O o->o.dst=O t->k=i:=λk o r a5=>by
    by_cases c3:k=i;.exact c3
    .exact absurd be (hD.f3 k i o oi t r bn c3 a5)
   rcases hD.f4 j oj t y ht i oi bn bi be with⟨s,H⟩|⟨s,H⟩
   .rw[cg i oi t bn be (b1 i H)];have:=hT.between (t:=t) (ops.size - j) j (by omega) λk o h1 h2 r z=>by have:=a7 k o r z;omega
    rwa[show j+(ops.size - j)=ops.size from by omega]at this
   .rw[br t λk o r bm z=>by have:=a7 k o r z;subst this;exact a2 k o r H bm];have:=hT.between (t:=t) j 0 (by omega) λk o h1 h2 r z=>by have:=a7 k o r z;omega
    rw[s7]at this;exact this.symm
  .rw[br t λk o r bm z=>bg ⟨k,o,r,λe=>by subst e;exact a9 bm,z⟩];have:=hT.between (t:=t) j 0 (by omega) λk o h1 h2 r z=>bg ⟨k,o,r,by omega,z⟩;rw[s7]at this;exact this.symm
 have cd:∀x∈oj.op.operands.toList,opv E.GE (T j).tmps x=opv E.GE st.tmps x:=by intro x F;cases x with|tmp t=>have:t∈looks ops oj:=va7 _ (vc0.2 ⟨.tmp t,F,rfl⟩);show(T j).tmps.getD t .undef=st.tmps.getD t .undef;rw[vav,vav,ao t this]|const v=>rfl|global g=>rfl|func f=>rfl
 have X:2<=rv P rw oj->st.boxes.map aT=(T j).boxes.map aT:=by
  intro hc;rw[c4];refine hT.boxes_eq hm (by omega) λi o r a0=>?_;rw[<-c5 i o r a0];rcases vcz i j with s|rfl|s
  .rcases hD.f5 i j o oj r y s with h|h|h|h;.omega
   .omega
   .exact absurd a0 h.1
   .exact⟨λ_=>s,λ_=>b1 i h⟩
  .exact⟨λh=>absurd h a9,λh=>absurd h (vb5 _)⟩
  .rcases hD.f5 j i oj o y r s with h|h|h|h;.omega
   .omega
   .exact absurd a0 h.2
   .exact⟨λhl=>absurd hl (a2 i o r h),λF=>by omega⟩
 have A:j<listed.size:=by rw[hI.size];exact a6
 have dt:rv P rw oj=3->∀(i:Nat) o,ops[i]? =O o->rv P rw o=3->(du (listed.setIfInBounds j true) i↔i<j+1):=by
  intro hc i o r a0;rw[gf A];rcases vcz i j with s|rfl|s
  .rcases hD.f5 i j o oj r y s with h|h|h|h;.omega
   .omega
   .exact absurd a0 h.1
   .exact⟨λ_=>by omega,λ_=>.inr (b1 i h)⟩
  .exact⟨λ_=>by omega,λ_=>.inl rfl⟩
  .rcases hD.f5 j i oj o y r s with h|h|h|h;.omega
   .omega
   .exact absurd a0 h.2
   .refine⟨λhl=>?_,λF=>by omega⟩;rcases hl with hl|hl;.omega
    .exact absurd hl (a2 i o r h)
 have cn:∀τ,qhm τ (R j)->kL (T j) τ->kL st τ:=λτ hr=>ci τ j (by omega) λk z an=>by
  rcases vcz k j with s|rfl|s;.exact⟨λ_=>s,λ_=>b1 k (hT.tlog hD s a6 an hr)⟩
  .exact⟨λh=>absurd h a9,λh=>absurd h (vb5 _)⟩
  .let⟨o,r⟩:=c9 k z;exact⟨λhl=>absurd hl (a2 k o r (hT.tlog hD s z hr an)),λF=>by omega⟩
 have d3:=hT.all j (by omega)
 have fin:∀{b4:aS}{a4:bC}{b3:Nat->Option kg}{w':J}{a':Act}{b0:az},a'.defers=ds->SR P E b4 a4 b3 w' a'.tmps b0->qhF P bs rw oj st b0 (T j) (T (j+1)) (R j)->
   (a4=bs\/(aD oj.op=true/\∃b,a4=bs.set (K2 ops base j) (O b))\/∃i B x,c j=O (i,B)/\a4=bs.set i x)->Pe P E c rw ops n base T R bs0 ds (listed.setIfInBounds j true) a' w':=by
  intro b4 a4 b3 w' a' b0 bc b7 hP ab
  refine⟨by simp[hI.size],bc,λk o r z e he H=>?_,b4,a4,b3,b0,b7,?_,?_,?_,?_,?_,?_,?_,?_⟩
  .rw[gf A]at z ⊢
   rcases z with rfl|z
   .rw[y]at r;cases r
    exact .inr (b5 e he H)
   .exact .inr (hI.down k o r z e he H)
  .rcases ab with rfl|⟨_,b,rfl⟩|⟨i',B,x,H,rfl⟩
   .exact hK
   .intro i hi
    rw[Pi (by unfold K2;omega)]
    exact hK i hi
   .intro i hi
    rw[Pi (by have:=(bb _ _ _ H).1;omega)]
    exact hK i hi
  .have:=hP.tm
   split at this
   .let⟨p,h1,_⟩:=this;rw[h1];simp[a8]
   .rw[this.1];exact a8
  .intro k o dk r a5 z
   rw[gf A]at z
   have S:=hP.tm
   by_cases ad:k=j
   .subst ad
    rw[y]at r;cases r
    rw[a5]at S
    let⟨p,h1,h2⟩:=S
    have:=hT.between (t:=dk) (ops.size - (k+1)) (k+1) (by omega) λi o h1 h2 r z=>hD.f3 k i oj o dk y r (by omega) a5 z
    rw[show k+1+(ops.size - (k+1))=ops.size from by omega]at this
    have bt:=hD.f1 k oj dk y a5
    rw[this,h1,h2,pi (by rw[a8];exact bt),pi (by rw[d3];exact bt)]
   .have a3:=cg k o dk r a5 (z.resolve_left ad)
    split at S
    .rename_i d hd
     let⟨p,h1,_⟩:=S
     have ar:d≠dk:=λe=>by subst e;exact hD.f3 j k oj o d y r (Ne.symm ad) hd a5
     rw[h1,Pi ar];exact a3
    .rw[S.1];exact a3
  .intro t c8
   have a3:=br t λk o r z=>c8 k o r ((gf A).2 (.inr z))
   have S:=hP.tm
   split at S
   .rename_i d hd
    let⟨p,h1,_⟩:=S
    have ar:d≠t:=λe=>by subst e;exact c8 j oj y ((gf A).2 (.inl rfl)) hd
    rw[h1,Pi ar];exact a3
   .rw[S.1];exact a3
  .by_cases hc:rv P rw oj=3
   .exact⟨j+1,by omega,dt hc,hP.b2 hc⟩
   .refine⟨m,hm,λi o r a0=>?_,(hP.b1 hc).trans c4⟩
    rw[gf A,<-c5 i o r a0]
    constructor
    .rintro(rfl|F)
     .rw[y]at r;cases r;exact absurd a0 hc
     .exact F
    .exact .inr
  .intro i o r b2 c6
   have bi:i≠j:=λe=>by subst e;exact c6 ((gf A).2 (.inl rfl))
   let⟨u1,u2⟩:=cv i o r b2 λF=>c6 ((gf A).2 (.inr F))
   refine⟨?_,(hP.un _ u1 (λF=>by have:=(hT.wl j a6 _ F).1;unfold K2 at this;omega) λF=>by have:=(hT.hd _ F).1;unfold K2 at this;omega).trans u2⟩
   rcases ab with rfl|⟨hmj,b,rfl⟩|⟨i',B,x,H,rfl⟩
   .exact u1
   .have ar:K2 ops base j≠K2 ops base i:=by
     rcases Nat.lt_or_gt_of_ne bi with s|s
     .have:=qeT (base:=base) r b2 s;omega
     .have:=qeT (base:=base) y hmj s;omega
    rw[Pi ar];exact u1
   .rw[Pi (by have:=(bb _ _ _ H).2;unfold K2;omega)];exact u1
  .intro τ q hq bq hh
   by_cases hr:qhm τ (R j)
   .have e0:j<q:=(bq j a6 hr).1 ((gf A).2 (.inl rfl))
    refine hP.got τ hr ?_
    have:=hT.back (τ:=τ) (q - (j+1)) (j+1) (by omega) λi h1 h2 c1=>by
     have hi:i<ops.size:=by omega
     let⟨o,r⟩:=c9 i hi;have bl:=(bq i hi c1).2 (by omega);rcases(gf A).1 bl with F|F;.omega
     .exact a2 i o r (hT.tlog hD (by omega) hi hr c1) F
    rw[show j+1+(q - (j+1))=q from by omega]at this
    exact this hh
   .refine hP.keep τ hr (λh1 h2=>?_) (ci τ q hq (λk z an=>?_) hh)
    .let⟨b,⟨t,k⟩,e⟩:=τ
     simp only at h1 h2
     subst h1
     exact hT.norow hq h2 hh
    rw[<-bq k z an,gf A]
    constructor
    .exact .inr
    .rintro(rfl|F)
     .exact absurd an hr
     .exact F
  .intro k i B z H c7
   have ad:k≠j:=λe=>by subst e;exact c7 ((gf A).2 (.inl rfl))
   let⟨u1,u2⟩:=cs k i B z H λF=>c7 ((gf A).2 (.inr F))
   refine⟨?_,(hP.un _ u1 (λF=>(hT.wl j a6 _ F).2 k B H) λF=>(hT.hd _ F).2 k B H).trans u2⟩
   rcases ab with rfl|⟨_,b,rfl⟩|⟨i',B',x,hb',rfl⟩
   .exact u1
   .rw[Pi (by have:=(bb _ _ _ H).2;unfold K2;omega)];exact u1
   .rw[Pi (λe=>by subst e;exact ad (hT.binj _ _ _ _ _ H hb'))];exact u1
 have d5:∀i B,c j=O (i,B)->bs[i]? =O N/\st.boxes[i]? =O B:=λi B H=>cs j i B a6 H a9
 have de:aD oj.op=true->bs[K2 ops base j]? =O N/\st.boxes[K2 ops base j]? =qX P oj:=λb2=>cv j oj y b2 a9
 have d6:∀d,oj.dst=O d->d<st.tmps.length:=λd hd=>by rw[a8];exact hD.f1 j oj d y hd
 have run:rr P E.GE (c j) rw oj (K2 ops base j) (T j) (T (j+1)) (R j)->oj.wp P a w (Pe P E c rw ops n base T R bs0 ds (listed.setIfInBounds j true)) Q:=by intro hs;refine Oper.wp_mono (λa' w' hA=>?_) (hs.sound hS de d5 cd X cn d6 Q);let⟨bc,b4,a4,b3,b0,b7,hP,H⟩:=hA;exact fin (bc.trans hI.defers) b7 hP H
 have skip:T (j+1)=Fy (T j) oj.dst (.val undef) [] (T j).boxes->R j=IR oj->Pe P E c rw ops n base T R bs0 ds (listed.setIfInBounds j true) (a.put oj.dst undef) w:=by intro d2 d1;refine fin ((aW _ _ _).trans hI.defers) (hS.putv_nil (.val undef) oj.dst rfl) ?_ (.inl rfl);rw[d2,d1];cases hd:oj.dst with|none=>exact⟨by rw[hd];exact⟨rfl,rfl⟩,λ_=>rfl,λhc=>X (by omega),λτ _ _ h=>h,λτ hr=>by have:=(WD (o:=oj) rfl hr).1;simp[hd]at this,λ_ _ _ _=>rfl⟩|some d=>refine⟨by rw[hd];exact⟨_,rfl,rfl⟩,λ_=>rfl,λhc=>X (by omega),λτ hr _ hh=>S8 (st:=st) (tm:=st.tmps.set d (.val undef)) (R:=λ_=>True) (rs:=IR oj) (d:=d) (L:=[]) (by simp[IR,hd]) τ (λF=>hr (.inl F)) trivial hh,?_,λ_ _ _ _=>rfl⟩;intro τ hr hh;exact qbu (L:=[]) τ (by simpa[IR,hd]using(WD (o:=oj) rfl hr).1) hh
 have a1:=hT.step j oj y
 unfold wpOp
 rw[y]
 simp only
 unfold Dp at a1
 have c0:(Region.wanted oj (yielded ops a.tmps)=true->oj.wp P a w (Pe P E c rw ops n base T R bs0 ds (listed.setIfInBounds j true)) Q)/\
   (¬Region.wanted oj (yielded ops a.tmps)=true->Pe P E c rw ops n base T R bs0 ds (listed.setIfInBounds j true) (a.put oj.dst undef) w):=by
  split at a1
  .rename_i hg
   exact⟨λ_=>run a1,λhn=>absurd (by simp[Region.wanted,hg]) hn⟩
  .rename_i jg d0 hg
   let⟨x,F,h1,h2⟩:=a1
   have dx:Ci ops st.tmps jg=O x:=by rw[<-F];unfold Ci;cases dd:(ops[jg]?).bind (·.dst)with|none=>rfl|some t=>have:t∈looks ops oj:=vaZ _ (by rw[hg];simp[dd]);simp only[ao t this]
   have hw:Region.wanted oj (yielded ops a.tmps)=(x==O d0):=by simp[Region.wanted,hg,Th hS dx]
   rw[hw]
   refine⟨λhy=>run (h1 (by simpa using hy)),λhy=>?_⟩
   let⟨k1,k2⟩:=h2 (by simpa using hy)
   exact skip k1 k2
 by_cases hw:Region.wanted oj (yielded ops a.tmps)=true
 .rw[l7 hw];exact .inl (c0.1 hw)
 .rw[hG hw];exact c0.2 hw
def qea(h:UG P rw ops n){listed:Array K}(q:listed.size=ops.size)(p:Region.ready .any ops listed=[]):∀j,j<ops.size->du listed j:=by
 intro j;induction j using Nat.strongRecOn with
 | _ j ih =>
  intro o;by_cases b:du listed j;.exact b
  .exfalso;have a:ops[j]? =O ops[j]:=by simp[o]
   have:j∈Region.ready .any ops listed:=mem_ready.2 ⟨by
    unfold du at b;have:j<listed.size:=by omega
    simp[this]at b ⊢;exact b,_,a,λe m i=>by
    have d:=h.f2 j _ a e (by simpa using m) i;exact ih e.on d (by omega)⟩
   rw[p]at this;cases this
def SR.rights{Γ:aS}{x:bC}{H:Nat->Q kg}{w:J}{a:Array D}{p st2:az}(h:SR P E Γ x H w a p)(y:st2.tmps=p.tmps)(z:st2.boxes.map aT=p.boxes.map aT)(A:∀τ,kL st2 τ->kL p τ):SR P E Γ x H w a st2:=
 { h with
  sz:=by rw[y];exact h.sz
  tm:=by rw[y];exact h.tm
  bl:=by have:=m4 List.length z;simp at this;rw[h.bl,this]
  bx:=λi b B s r=>by
   have m:=ZN z i;rw[r]at m;cases d:p.boxes[i]? with
   |none=>rw[d]at m;cases m
   | some B1 =>
    rw[d]at m;let⟨k1,k2,F⟩:=h.bx i b B1 s d;refine⟨k1,k2,?_⟩;cases B<;>cases B1<;>simp[aT]at m;.subst m;exact F
    .subst m;exact F
    .trivial
  ot:=λt k e he=>h.ot t k e (A (Z,(t,k),e) he)
  ob:=λi j e L own b r hj s=>by let⟨q,o,S,X⟩:=eV.1 (A (true,(i,j),e) ⟨L,own,r,hj⟩);exact h.ob i j e q o b S X s}
def qf2(hD:UG P rw ops n)(L:pk P E.GE c rw ops n base T R)(s:bs0.length<=base)(S:∀(k i:Nat) B,c k=O (i,B)->bs0.length<=i/\i<base){a7:Exit->Act->J->Prop}
  (hQ:∀a w,a.defers=ds->Y5 P E bs0 (T ops.size) a w->a7 .normal a w):∀(d:Nat)(listed:Array K)(a:Act)(w:J),Pe P E c rw ops n base T R bs0 ds listed a w->Hk ops.size listed<=d->wpAny P .any ops a7 d listed a w:=by
 have r:∀(listed:Array K)(a:Act)(w:J),Pe P E c rw ops n base T R bs0 ds listed a w->(∀j,j<ops.size->du listed j)->a7 .normal a w:=by
  intro listed a w q b;let⟨Γ,bs,ow,st,hS,hK,a6,a3,a4,⟨m,hm,a1,a0⟩,_,a5,_⟩:=q.ex;have e1:st.tmps=(T ops.size).tmps:=by
   apply va2;intro t;by_cases x:∃(k:Nat)(o:M),ops[k]? =O o/\o.dst=O t;.let⟨k,o,h,A⟩:=x;exact a3 k o t h A (b k (vh.1 h).1)
   .rw[a4 t λk o h _ A=>x ⟨k,o,h,A⟩];have:=L.between (t:=t) ops.size 0 (by omega) λk o _ _ h A=>x ⟨k,o,h,A⟩;rw[s7]at this;exact this.symm
  have e2:st.boxes.map aT=(T ops.size).boxes.map aT:=by rw[a0];refine L.boxes_eq hm (l8 _) λi o h X=>?_;rw[<-a1 i o h X];have F:=(vh.1 h).1;exact⟨λ_=>F,λ_=>b i F⟩
  exact hQ a w q.defers ⟨Γ,bs,ow,hS.rights e1.symm e2.symm λτ hh=>a5 τ ops.size (l8 _) (λk hk _=>⟨λ_=>hk,λ_=>b k hk⟩) hh,hK⟩
 intro d
 induction d with
 | zero =>
  intro listed a w q hu
  have b:∀j,j<ops.size->du listed j:=by
   intro j z;by_cases hl:du listed j;.exact hl
   .exfalso;have:j∈(List.range ops.size).filter λi=>!listed.getD i false:=by rw[vaX,vbF];exact⟨z,by unfold du at hl;simpa using hl⟩
    have:=List.length_pos_of_mem this;unfold Hk at hu;omega
  refine⟨?_,r listed a w q b⟩
  rw[vbA]
  intro j z
  let⟨y,o,h,_⟩:=mem_ready.1 z
  have p:=(vh.1 h).1
  have:=b j p
  unfold du at this
  have e:j<listed.size:=by rw[q.size];exact p
  simp[e]at this y
  rw[this]at y;cases y
 | succ d ih =>
  intro listed a w q hu
  refine⟨λhr=>r listed a w q (qea hD q.size hr),λj z=>?_⟩
  refine wpOp_mono (λa' w' H=>ih _ a' w' H ?_) (qdi hD L s S q z a7)
  let⟨y,o,h,_⟩:=mem_ready.1 z
  have p:=(vh.1 h).1
  have e:j<listed.size:=by rw[q.size];exact p
  have:Hk ops.size (listed.setIfInBounds j true)<Hk ops.size listed:=by
   unfold Hk;refine qbm (λi F=>?_) (vbF.2 p) ?_ ?_
   .have a2:¬du (listed.setIfInBounds j true) i:=by unfold du;simpa using F
    have:¬du listed i:=λhx=>a2 ((gf e).2 (.inr hx));unfold du at this;simpa using this
   .simp[e]at y;simp[e,y]
   .simp[e]
  omega
end
def XQ(a:V (Nat×Nat))(H:V ay)(k:Nat):Q (Nat×ay):=match a.find? (λx=>x.1==k)with|some x=>(H[x.2]?).map λB=>(x.2,B)|none=>N
def qnE(rw:V Nat)(a:V (Nat×Nat))(lo n:Nat):K:=(a.all (λx=>Y (lo<=x.2)&&Y (x.2<lo+n))&&a.all λx=>a.all λy=>x.2 !=y.2||x.1==y.1)&&rw.all λx=>x % 8 !=3||decide (x / 8<lo)
def qmN(rw:V Nat)(H:V ay):K:=rw.all λx=>x % 2 !=0||match H[x / 2]? with|some (.cells _ [])=>T|_=>Z
def ZY(rw:V Nat)(a:V (V Rs)):K:=a.all λl=>l.all λr=>!(r.1&&rw.contains (2 * r.2.1))&&(r.2.2 !=1||r.1||(!rw.contains (2 * r.2.1)&&rw.contains (8 * r.2.1+3)))
def Bz{a:V (Nat×Nat)}{H:V ay}{k i:Nat}{B:ay}(h:XQ a H k=O (i,B)):(k,i)∈a/\H[i]? =O B:=by
 unfold XQ at h;split at h;.rename_i x c;let⟨m,d,e⟩:=fP h;cases e;have b:=vcj c;simp only[vbf]at b;subst b;exact⟨vbx c,d⟩
 .cases h
def qah(P:I)(GE:V (Nat×V U))(a:Array M)(d:V Nat)(X:V ay)(e:V (Nat×Nat))(rw:V Nat)(i:az->Prop)(b:az):Prop:=drawD P rw a.toList b.tmps.length d=T/\(qnE rw e b.boxes.length X.length&&qmN rw (b.boxes++X))=T/\ oK P GE (XQ e (b.boxes++X)) rw a (λh c=>(qgt d h&&ZY rw h)=T/\i c) a.toList (b.boxes.length+X.length) [] {b with boxes:=b.boxes++X++gG P a.toList}
section
variable{P:I}{E:qy}{w:J}{a:Act}{st:az}
def PO{A:bC}{b:Array M}{an:V Nat}{X:V ay}{br:V (Nat×Nat)}{rw:V Nat}{b4:az->Prop}{b5:Exit->Act->J->Prop}(hR:Y5 P E A st a w)(hl:A.length<=st.boxes.length)
  (hQ:∀a' w' a4,a'.defers=a.defers->Y5 P E A a4 a' w'->b4 a4->b5 .normal a' w') (hp:qah P E.GE b an X br rw b4 st):wpAny P .any b b5 b.size (Array.replicate b.size Z) a {w with drawn:=w.drawn+1}:=by
 let⟨ar,c,hp⟩:=hp
 rw[ne]at c
 let⟨c,a3⟩:=c
 let⟨hD,a7⟩:=Vk ar
 let⟨b7,R,t0,tl,⟨tlog,t1⟩,t2⟩:=Nr b.toList _ _ _ hp
 rw[va9,ne]at tlog
 let⟨tlog,b1⟩:=tlog
 let⟨Γ,bs,ow,h,hk⟩:=hR
 have b0:(st.boxes++X).length=st.boxes.length+X.length:=by simp
 unfold qnE at c
 simp only[ne,vaE,oy,vbh,bne_iff_ne,ne_eq,vbf]at c
 let⟨c,a1⟩:=c
 have L:∀j,j<b.size->∀r∈R.getD j [],(!(r.1&&rw.contains (2 * r.2.1))&&(r.2.2 !=1||r.1||(!rw.contains (2 * r.2.1)&&rw.contains (8 * r.2.1+3))))=true:=λj q r S=>by
  have a2:j<R.length:=by rw[tl];simpa using q
  have hm:R.getD j []∈R:=by rw[vav,m3 a2];exact mx a2
  exact vaE.1 (vaE.1 b1 _ hm) _ S
 have hT:pk P E.GE (XQ br (st.boxes++X)) rw b st.tmps.length (st.boxes.length+X.length) b7 (λk=>R.getD k []):={
  len:=by rw[t0]
  step:=λk o ho=>by have:=t2 k o (by simpa using ho);simpa using this
  log:=λi j r a9 y q=>by unfold bf;rw[a7];exact qgu tlog a9 y q
  row0:=λi y k e hh=>by
   rw[t0]at hh;let⟨cs,own,e1,e2⟩:=eV.1 hh;have p:=vaE.1 a3 _ y;rw[vbh,show 2 * i / 2=i by omega]at p;rcases p with p|p;.rw[show 2 * i % 2=0 by omega]at p;cases p
   split at p;.rename_i b2 a0;simp only at e1;rw[B2 (aq a0),a0]at e1;cases e1;cases e2
   .cases p
  rowl:=λj q i y k S=>by have:=L j q _ S;simp[y]at this
  roww:=λj q i y S=>by have:=L j q _ S;simp[y]at this
  wl:=λj q i S=>by
   have:=L j q _ S;simp only[bne_self_eq_false,vcf,ne,va4]at this;have h4:=a1 _ (List.contains_iff_mem.1 this.2.2);have h5:i<st.boxes.length:=by omega
   refine⟨by omega,λk B F=>?_⟩;have:=c.1 _ (Bz F).1;simp only at this;omega
  hd:=λi y=>by
   have h4:=a1 _ y;have h5:i<st.boxes.length:=by omega
   refine⟨by omega,λk B F=>?_⟩;have:=c.1 _ (Bz F).1;simp only at this;omega
  binj:=λj k i B B' h1 h2=>by
   have m1:=(Bz h1).1;have m2:=(Bz h2).1;rcases c.2 _ m1 _ m2 with z|z;.exact absurd rfl z
   .exact z}
 have a8:∀(k i:Nat) B,XQ br (st.boxes++X) k=O (i,B)->A.length<=i/\i<st.boxes.length+X.length:=λk i B F=>by have:=c.1 _ (Bz F).1;simp only at this;omega
 have a6:=(h.drew).extend X
 have hS:=a6.extend (gG P b.toList)
 refine qf2 hD hT (by omega) a8 (ds:=a.defers) (λa' w' hd a5=>hQ a' w' _ hd a5 (by simpa using t1)) b.size _ a _ ?_ ?_
 .refine⟨by simp,rfl,λj o ho q=>?_,Γ,_,ow,_,hS,λi y=>?_,rfl,λk o d ho hd H=>?_,λt _=>by rw[t0],⟨0,s5 _,λi o ho hc=>?_,by rw[t0]⟩,λi o ho hm _=>?_,λτ m hm ao hh=>?_,λk i B _ F _=>?_⟩
  .unfold du at q
   rw[B4]at q;cases q
  .rw[B2 (by rw[oo,h.bl];omega),B2 (by rw[h.bl];omega)];exact hk i y
  .unfold du at H
   rw[B4]at H;cases H
  .unfold du
   rw[B4]
   constructor
   .intro z;cases z
   .intro z;exact absurd z (w0 _)
  .have ad:b.toList[i]? =O o:=by simpa using ho
   have x:=Qu (P:=P) b.toList i o ad hm
   have b3:cG (b.toList.take i)<(gG P b.toList).length:=by
    have:∃B,qX P o=O B:=by cases z:o.op<;>simp[aD,z]at hm<;>exact⟨_,by simp[qX,z];rfl⟩
    let⟨B,hB⟩:=this;rw[hB]at x;exact aq x
   have s:(bs++List.replicate X.length N).length=st.boxes.length+X.length:=by simp[h.bl]
   unfold K2
   refine⟨?_,?_⟩
   .rw[Lf (by rw[s];omega),vaW,l7 (by rw[s];omega)]
   .show(st.boxes++X++gG P b.toList)[_]? =_
    rw[Lf (by omega),b0,vbs]
    exact x
  .have:=hT.back (τ:=τ) m 0 (by omega) λi h1 h2 ab=>by
    have:=(ao i (by omega) ab).2 (by omega)
    unfold du at this
    rw[B4]at this;cases this
   rw[s7,t0]at this
   exact this hh
  .let⟨m1,m2⟩:=Bz F
   have:=c.1 _ m1
   simp only at this
   have s:(bs++List.replicate X.length N).length=st.boxes.length+X.length:=by simp[h.bl]
   refine⟨?_,?_⟩
   .rw[B2 (by omega),Lf (by rw[h.bl];omega),vaW,l7 (by rw[h.bl];omega)]
   .show(st.boxes++X++gG P b.toList)[_]? =_
    rw[B2 (by omega)];exact m2
 .unfold Hk
  have:=va8 (λi=>!(Array.replicate b.size Z).getD i Z) (List.range b.size)
  simpa using this
end
def qjI(P:I)(a:Op):K:=!Ya a&&!aD a&&cW P a !=3
def yE(P:I)(GE:V (Nat×V U))(o:M)(sc:V It)(a:az)(e:V It->V Rs->az->Prop):Prop:=match o.dst with
 |some d=>match qjI P o.op with|true=>qeL P GE o.op a.tmps a.boxes sc λp _ b=>fX a.tmps d p λtm=>bA (bI d a.own) λc=>e b [(Z,d,0)] ⟨tm,a.boxes,c⟩|false=>False
 |none=>False
def uE(a:az)(d:Nat)(p:U)(L:V (Nat×G))(sc:V It)(c:V It->V Rs->az->Prop):Prop:=fX a.tmps d p λtm=>bA ((L.map λx=>((d,x.1),x.2))++bI d a.own) λb=>c sc [(Z,d,0)] ⟨tm,a.boxes,b⟩
def Nt (P:I) (GE:V (Nat×V U)) (q:G) (x:Operand) (m:U) (a:V U) (own:Q (Nat×V (Nat×G))) (sc:V It) (b:az) (p:V It→V Rs→az→Prop):Prop :=rD GE b.tmps x λo=>match o with
 | .bptr i off => bF m = O a∧oP b.boxes i fun B => match B with
  | .cells cs ow => match Y (a.length = P.cellsOf q) && (P.info? q).isSome && Y (off + a.length ≤ cs.length) && a.all PVal.one with
   | true => bA (cs.take off ++ a ++ cs.drop (off + a.length)) fun d => bA (Ex i off a.length) fun e => match own with|none=>bA (ow.filter λy=>y.1<off||off+a.length<=y.1) λc=>fX b.boxes i (.cells d c) λH=>p sc e ⟨b.tmps,H,b.own⟩|some (t,L)=>match uR (L.map (·.1))&&L.all (λy=>Y (y.1<a.length))with| true => bA ((L.map fun y => (off + y.1,y.2)).reverse ++ ow.filter fun y => y.1 < off || off + a.length ≤ y.1) fun c => fX b.boxes i (.cells d c) fun H =>bA (b.own.filter λx=>!L.any λy=>x.1==(t,y.1)) λh=>p sc ((Z,t,0)::e) ⟨b.tmps,H,h⟩|false=>False
   |false=>False
  |_=>False
 |_=>False
def qqV(L:V (Nat×G)):K:=match L with|[(0,_)]=>T|_=>Z
def qeK(P:I)(GE:V (Nat×V U))(rw:V Nat)(h:G)(x:Operand)(c:U)(a:V U)(sc:V It)(b:az)(e:V It->V Rs->az->Prop):Prop:=rD GE b.tmps x λd=>match d with
 | .bptr i off => match rw.contains (2 * i) with
  |true=>oP b.boxes i λB=>match B with|.cells cs []=>fE P h (.bptr 0 off) c [.cells cs []]=O [.cells a []]/\fX b.boxes i (.cells a []) λH=>e sc [] ⟨b.tmps,H,b.own⟩|_=>False
  |false=>False
 |_=>False
def Ma (P:I) (GE:V (Nat×V U)) (A:V Nat) (bi:Q (Nat×ay)) (rw:V Nat) (o:M) (id:Nat) (sc:V It) (a:az) (a0:V It→V Rs→az→Prop):Prop :=
 match o.op,o.dst with
 | .call { callee := .value f,args,.. },O d => match sc with
  |.c r ro::sc'=>rD GE a.tmps f λvf=>match vf with
   |.func (.func g) first cap=>V7 GE a.tmps args.toList λas=>CC P GE g (first++as++cap) r ro/\uE a d r ro sc' a0
   |_=>False
  | .cg c :: sc' => match c.ρ with
   | [] => jY P GE f args.toList c a fun _ => fX a.tmps d c.r fun tm => bA ((c.ro.map fun x => ((d,x.1),x.2)) ++ bI d (a.own.filter fun z => !c.oa.any fun x => z.1 == (x.t,x.k))) fun E =>
     bA ((Z,d,0)::c.oa.map λx=>(Z,x.t,0)) λX=>a0 sc' X ⟨tm,a.boxes,E⟩
   |_=>False
  | .ar i e n _ :: sc' => match bi,args with
   |some (j,.cells cs0 []),⟨[x]⟩=>rD GE a.tmps f λvf=>rD GE a.tmps x λR=>match vf,R,i==j with
    | .func (.func g) [] [],.slice ns,T => BF P g e∧(0 < P.cellsOf e∧(∀ x ∈ ns,x.length = P.cellsOf e∧∀ q ∈ x,q.one = T)∧ns.length ≤ bO)∧(n = ns.length∧cs0 = ns.flatten) ∧
      fX a.tmps d (.bsl i 0 n) λtm=>bA (bI d a.own) λE=>a0 sc' [(Z,d,0)] ⟨tm,a.boxes,E⟩
    |_,_,_=>False
   |_,_=>False
  |_=>False
 |.alloc t,O d=>match(eR P t).isSome with
  |true=>uE a d (.bptr id 0) [] sc a0
  |false=>False
 |.makeMap _ N,O d=>uE a d (.mapr id) [] sc a0
 |.buildSlice a1 len parts,O d=>Fc GE a.tmps parts.toList λS=>match sc,P.underlying a1 with
  |.v p::sc',O (.slice e)=>gu P a1 len S=O p/\uE a d p [(0,e)] sc' a0
  |_,_=>False
 | .build a1 parts,O d => match sc with
  |.b p L::sc'=>Fc GE a.tmps parts.toList λS=>dF P a1 S=O p/\Db P a1 S L/\uE a d p L sc' a0
  | .ar t k _ _ :: .v p :: sc' => match Y (d ≠ t) && (parts.toList.any fun x => Oj t x.2) with
   |true=>zm a.tmps t λh=>match h with
    | .slice _ => Fc GE a.tmps parts.toList fun S => dF P a1 S = O p∧quz P a1 (qch GE a.tmps parts.toList t) k ∧
      fX a.tmps d p λtm=>bA (ls d (λx=>if x=(t,0)then(d,k)else x) a.own) λE=>a0 sc' [(Z,d,0),(Z,t,0)] ⟨tm,a.boxes,E⟩
    |_=>False
   |false=>False
  |_=>yE P GE o sc a a0
 |.assign (.const v),O d=>match AS P o.type v with
  |some e=>uE a d (.slice []) [(0,e)] sc a0
  |none=>yE P GE o sc a a0
 |.move (.const v),O d=>match AS P o.type v with
  |some e=>uE a d (.slice []) [(0,e)] sc a0
  |none=>yE P GE o sc a a0
 |.assign (.tmp t),O d=>match Y (d≠t)with
  |true=>zm a.tmps t λp=>fX a.tmps d p λtm=>bA (ls d (λx=>if x.1=t then(d,x.2)else x) a.own) λE=>a0 sc [(Z,d,0),(Z,t,0)] ⟨tm,a.boxes,E⟩
  |false=>False
 |.move (.tmp t),O d=>match Y (d∈A)&&Y (d≠t)with
  |true=>zm a.tmps t λp=>fX a.tmps d p λtm=>bA (ls d (λx=>if x.1=t then(d,x.2)else x) a.own) λE=>a0 sc [(Z,d,0),(Z,t,0)] ⟨tm,a.boxes,E⟩
  |false=>yE P GE o sc a a0
 | .call { callee := .builtin .append,args:=⟨[.tmp t,y]⟩,argTypes:=⟨[a1,T']⟩ },O d => zm a.tmps t fun ve => rD GE a.tmps y fun vn => match ve,vn,sc,P.underlying a1 with
  |.slice es,.slice ns,.v p::sc',O (.slice e)=>match Y (a1=T')&&Y (((t,0),e)∈a.own)with
   |true=>ji P a1 es ns=O p/\fX a.tmps d p λtm=>bA (((d,0),e)::bI d (a.own.filter λx=>x.1 !=(t,0))) λE=>a0 sc' [(Z,d,0),(Z,t,0)] ⟨tm,a.boxes,E⟩
   |false=>False
  |_,_,_,_=>False
 | .load a1 x,O d => match sc,P.underlying a1,Y (d ∈ A) with
  | .z l :: sc',O (.struct _),_ => rD GE a.tmps x fun R => match R with
   | .bptr i off => oP a.boxes i fun B => match B with
    | .cells cs own => cO P a1 (cs.drop off) = O (.agg l)∧bA (qe9 off (P.cellsOf a1) own) fun L => match uR (L.map (·.1)) with
     | true => fX a.tmps d (.agg l) fun tm => bA (own.filter fun x => !L.any fun y => x.1 == off + y.1) fun F => fX a.boxes i (.cells cs F) fun H =>
       bA ((L.map λy=>((d,y.1),y.2)).reverse++bI d a.own) λE=>bA ((Z,d,0)::L.map λy=>(T,i,off+y.1)) λX=>a0 sc' X ⟨tm,H,E⟩
     |false=>False
    |_=>False
   |_=>False
  | _,O (.slice e),T => rD GE a.tmps x fun R => match R with
   | .bptr i off => oP a.boxes i fun B => match B with
    | .cells cs own => match Y ((off,e) ∈ own) && Y (off < cs.length) with
     | true => zm cs off fun p => fX a.tmps d p fun tm => bA (own.filter fun x => !([((0:Nat),e)].any fun y => x.1 == off + y.1)) fun F => fX a.boxes i (.cells cs F) fun H =>
       bA (([((0:Nat),e)].map λy=>((d,y.1),y.2)).reverse++bI d a.own) λE=>bA ((Z,d,0)::[((0:Nat),e)].map λy=>(T,i,off+y.1)) λX=>a0 sc X ⟨tm,H,E⟩
     |false=>False
    |_=>False
   |_=>False
  |_,_,_=>yE P GE o sc a a0
 | .store a1 x (.tmp t),N => zm a.tmps t fun h => match sc with
  |.y vs::sc'=>bA (Te t a.own) λL=>match h with
   |.agg l=>Nt P GE a1 x (.agg l) vs (O (t,L)) sc' a a0
   |_=>False
  | .s :: sc' => match h.one with
   |true=>bA (Te t a.own) λL=>match qqV L with
    |true=>Nt P GE a1 x h [h] (O (t,L)) sc' a a0
    |false=>Nt P GE a1 x h [h] N sc' a a0
   |false=>False
  |.x vs::sc'=>Nt P GE a1 x h vs N sc' a a0
  |.w _ (.cells cs' [])::sc'=>qeK P GE rw a1 x h cs' sc' a a0
  |_=>False
 | .store a1 x y,N => rD GE a.tmps y fun h => match sc with
  |.s::sc'=>match h.one with
   |true=>Nt P GE a1 x h [h] N sc' a a0
   |false=>False
  |.x vs::sc'=>Nt P GE a1 x h vs N sc' a a0
  |.w _ (.cells cs' [])::sc'=>qeK P GE rw a1 x h cs' sc' a a0
  |_=>False
 | .mapUpdate t m k x,N => rD GE a.tmps m fun vm => rD GE a.tmps k fun vk => rD GE a.tmps x fun R => match vm,sc with
  |.mapr i,.w _ (.map es')::sc'=>oP a.boxes i λB=>match B with
   |.map es=>Yy P t es vk R=O es'/\fX a.boxes i (.map es') λH=>a0 sc' [] ⟨a.tmps,H,a.own⟩
   |_=>False
  |_,_=>False
 |_,_=>yE P GE o sc a a0
def qdU:ay->K|.cells _ []=>T|_=>Z
def Un(P:I)(GE:V (Nat×V U))(A:V Nat)(e:Q (Nat×ay))(rw:V Nat)(o:M)(id:Nat)(sc:V It)(a:az)(q:V It->V Rs->az->Prop):Prop:=match o.op,o.dst,sc with
 | .call { callee := .value f,args,.. },O d,.cg c :: sc' => match rw.contains (8 * d + 7) with
  |true=>c.Bs'=c.Bs/\(match c.Bs.all qdU&&c.ρ.all (λi=>rw.contains (2 * i)&&rw.contains (8 * i+3))with| true => jY P GE f args.toList c a fun H => fX a.tmps d c.r fun tm => bA ((c.ro.map fun x => ((d,x.1),x.2)) ++ bI d (a.own.filter fun z => !c.oa.any fun x => z.1 == (x.t,x.k))) fun b =>bA ((Z,d,0)::c.oa.map λx=>(Z,x.t,0)) λh=>q sc' h ⟨tm,H,b⟩|false=>False)
  |false=>match c.ρ with
  |[]=>Ma P GE A e rw o id sc a q
  |_::_=>match rw.contains (8 * d+1)with| true => jY P GE f args.toList c a fun H => fX a.tmps d c.r fun tm => bA ((c.ro.map fun x => ((d,x.1),x.2)) ++ bI d (a.own.filter fun z => !c.oa.any fun x => z.1 == (x.t,x.k))) fun b =>bA (((Z,d,0)::c.oa.map λx=>(Z,x.t,0))++c.ρ.map λi=>(Z,i,1)) λh=>q sc' h ⟨tm,H,b⟩|false=>False
 | .load r x,O d,.v p :: sc' => match rw.contains (8 * d + 5) with
  |true=>rD GE a.tmps x λm=>match m with|.eptr cs=>cO P r cs=O p/\fX a.tmps d p λtm=>bA (bI d a.own) λb=>q sc' [(Z,d,0)] ⟨tm,a.boxes,b⟩|_=>False
  |false=>Ma P GE A e rw o id sc a q
 |_,_,_=>match VB rw o||Xf rw o with|true=>False|false=>Ma P GE A e rw o id sc a q
def Oa(P:I)(GE:List (Nat×List U))(e:Nat->Q (Nat×ay))(rw A:List Nat)(i:Array M)(q:List Nat)(s:List It->az->Prop):List M->Nat->Nat->List It->List (List Rs)->az->Prop
 |[],_,_,sc,lg,m=>match qgt q lg&&ZY rw lg with
  |true=>s sc m
  |false=>False
 | o :: rest,pos,id,sc,lg,m =>
  let d (sc:List It) (m:az):Prop:=Un P GE A (e lg.length) rw o id sc m λc r a=>bA (lg++[r]) λh=>Oa P GE e rw A i q s rest (pos+1) (id+if aD o.op then 1 else 0) c h a
  match o.guard with
  |none=>d sc m
  |some (j,want)=>Um i j want pos sc m λb c a=>match b with
   |true=>d c a
   |false=>XB a o.dst (.val undef) [] a.boxes λp=>bA (lg++[IR o]) λh=>Oa P GE e rw A i q s rest (pos+1) (id+if aD o.op then 1 else 0) c h p
section
variable{P:I}{GE:V (Nat×V U)}{A:V Nat}{ops:Array M}
def mm{s:Q (Nat×ay)}{rw:V Nat}{o:M}{id:Nat}{sc:V It}{r:az}{y:V It->V Rs->az->Prop}(h:yE P GE o sc r y):∃s' q,kE P GE s rw o id r s' q/\∃a,y a q s':=by
 unfold yE at h;split at h
 .rename_i d t;split at h;.rename_i b;unfold qjI at b;simp only[ne,va4,bne_iff_ne,ne_eq]at b;let⟨⟨w,i⟩,m⟩:=b;let⟨p,x,a,c,e,_⟩:=S4 (id:=id) h;simp only[bJ,aN]at e;have:=qg0 m i c;subst this;exact⟨_,_,.ev d p t w i m c,a,e⟩
  simp_all
 simp_all
def D1{q:Q (Nat×ay)}{rw:V Nat}{o:M}{id:Nat}{F:G}{x y:Operand}{p:V U}{sc:V It}{d:az}{E:V It->V Rs->az->Prop}(w:o.op=.store F x y)(t:o.dst=N)(h:Nt P GE F x (opv GE d.tmps y) p N sc d E):∃s' m,kE P GE q rw o id d s' m/\∃c,E c m s':=by
 unfold Nt at h;rw[bY]at h;split at h
 .rename_i i b z;let⟨a,h⟩:=h;let⟨B,e,h⟩:=eU h;split at h
  .rename_i r own;split at h;.rename_i s;simp only[aN,bJ]at h;simp only[ne,oy]at s;exact⟨_,_,.st F x y i b p r own t w z a e (by simp only[fE,a,e];grind),sc,h⟩
   simp_all
  simp_all
 simp_all
def PR{z:Q (Nat×ay)}{rw:V Nat}{o:M}{id:Nat}{a1:G}{x:Operand}{t:Nat}{c:U}{w:V U}{L:V (Nat×G)}{sc:V It}{b:az}{a0:V It->V Rs->az->Prop}(X:o.op=.store a1 x (.tmp t))(H:o.dst=N)
  (d:b.tmps.getD t .undef=c) (R:(∃l,c=.agg l)\/(c.one=T/\∃e,L=[(0,e)])) (S:∀y∈L,((t,y.1),y.2)∈b.own) (h:Nt P GE a1 x c w (O (t,L)) sc b a0):
  ∃s' s,kE P GE z rw o id b s' s/\∃p,a0 p s s':=by
 subst d
 unfold Nt at h
 rw[bY]at h
 split at h
 .rename_i i m hx
  let⟨a,h⟩:=h
  let⟨B,q,h⟩:=eU h
  split at h
  .rename_i E own
   split at h
   .rename_i F
    simp only[aN]at h
    split at h
    .rename_i r
     simp only[bJ]at h
     simp only[ne,oy,vaE]at F r
     exact⟨_,_,.sto a1 x t i m w E own L H X hx a q (by simp only[fE,a,q];grind) R S (n8 r.1) (λy hy=>by grind),sc,h⟩
    simp_all
   simp_all
  simp_all
 simp_all
def S3{p:Q (Nat×ay)}{rw:V Nat}{o:M}{id:Nat}{H:G}{x y:Operand}{a:V U}{sc:V It}{d:az}{F:V It->V Rs->az->Prop}(w:o.op=.store H x y)(t:o.dst=N)(h:qeK P GE rw H x (opv GE d.tmps y) a sc d F):∃s' m,kE P GE p rw o id d s' m/\∃c,F c m s':=by
 unfold qeK at h;rw[bY]at h;split at h
 .rename_i i b z;split at h
  .rename_i E;let⟨B,s,h⟩:=eU h;split at h;.rename_i q;let⟨r,e⟩:=h;rw[bJ]at e;exact⟨_,_,.stR H x y i b q a t w z s r (by simp_all),sc,e⟩
   simp_all
  simp_all
 simp_all
theorem Sg{n:Nat}{a:V Operand}{own b:V ((Nat×Nat)×G)}{c:V OA}(h:qbX n a own c=T)(d:∀x∈c,((x.t,x.k),x.e)∈own->((x.t,x.k),x.e)∈b):qbX n a b c=true:=by unfold qbX at h ⊢;grind
def Vm{f:Operand}{a:V Operand}{c:GC}{s:az}{a0:V ay->Prop}(d:c.ρ=[])(h:jY P GE f a c s a0):a0 s.boxes/\∀b:az,(∀x,x=f\/x∈a->opv GE s.tmps x=opv GE b.tmps x)->(∀x∈c.oa,((x.t,x.k),x.e)∈s.own->((x.t,x.k),x.e)∈b.own)->Pf P GE f a b c.r c.ro b.boxes c.oa:=by
 have S:=h;unfold jY at h;rw[bY]at h;split at h
 .rename_i g first cap hf
  rw[oS]at h;split at h
  .rename_i B;let⟨t,w,e,y,z,i⟩:=h;rw[ue]at i;have F:∀(H:V ay),mS H c.ρ c.Bs'=H:=λH=>by rw[d];cases c.Bs'<;>rfl
   rw[F]at i;refine⟨i,λb r E=>?_⟩;have q:jY P GE f a c b (λH=>H=b.boxes):=by
    unfold jY;rw[bY,<-r f (.inl rfl),hf];simp only;rw[oS,show a.map (opv GE b.tmps)=a.map (opv GE s.tmps)from vbi λx L=>(r x (.inr L)).symm];have p:(uR c.ρ&&qbX first.length a b.own c.oa&&c.Bs.all Uu&&Y (c.Bs'.length=c.ρ.length))=true:=by simp only[ne]at B ⊢;grind [Sg]
    rw[p];simp only;refine⟨t,w,?_,y,z,?_⟩;.rw[d]at e ⊢;cases m:c.Bs<;>cases o:c.Hc<;>rw[m,o]at e<;>first|exact e.elim|trivial
    grind [ue]
   obtain⟨R,X,rfl⟩:=xT q;omega
  simp_all
 simp_all
def W8{bi:Q (Nat×ay)}{rw:V Nat}{o:M}{id:Nat}{sc:V It}{st:az}{ab:V It->V Rs->az->Prop}(h:Ma P GE A bi rw o id sc st ab):∃s' rs,kE P GE bi rw o id st s' rs/\∃a,ab a rs s':=by
 unfold Ma at h;split at h
 .rename_i f H a1 d q b;split at h
  .rename_i r ro a;rw[bY]at h;split at h
   .rename_i g first cap hf
    rw[oS]at h;let⟨⟨z,s⟩,F⟩:=h;simp only[uE,bJ,aN]at F;exact⟨_,_,.call d f H a1 g first cap r ro q b hf z s,a,F⟩
   simp_all
  .rename_i c a;split at h;.rename_i a7;let⟨z,s⟩:=Vm a7 h;simp only[bJ,aN]at z;exact⟨_,_,.callR d f H a1 c.r c.ro c.oa q b s,a,z⟩
   simp_all
  .rename_i i e n X a;split at h
   .rename_i j a8 x;simp only[bY]at h;split at h;.rename_i g ns hf hx a3;simp only[vbf]at a3;subst a3;obtain⟨z,⟨s,F,h4⟩,⟨rfl,rfl⟩,h5⟩:=h;simp only[bJ,aN]at h5;exact⟨_,_,.cl d i f x a1 g e ns q b rfl hf hx z s F h4,a,h5⟩
    simp_all
   simp_all
  simp_all
 .rename_i t d q b;split at h;.rename_i hz;let⟨zs,hz⟩:=vaS.1 hz;simp only[uE,bJ,aN]at h;exact⟨_,_,.alloc d t zs q b hz,sc,h⟩
  simp_all
 .rename_i t d q b;simp only[uE,bJ,aN]at h;exact⟨_,_,.mkmap d t q b,sc,h⟩
 .rename_i T len w d q b;rw[tU]at h;split at h;.rename_i p a e hu;let⟨z,s⟩:=h;simp only[uE,bJ,aN]at s;exact⟨_,_,.res d p [(0,e)] b (.inl ⟨T,len,w,e,q,z,hu,rfl⟩),a,s⟩
  simp_all
 .rename_i T w d q b;split at h;.rename_i p L a;rw[tU]at h;let⟨z,s,F⟩:=h;simp only[uE,bJ,aN]at F;exact⟨_,_,.res d p L b (.inr (.inl ⟨T,w,q,z,s⟩)),a,F⟩
  .rename_i t k _ _ p a;split at h
   .rename_i R;rw[gW]at h;split at h;.rename_i es a6;rw[tU]at h;let⟨z,s,F⟩:=h;simp only[bJ,aN]at F;simp only[ne,oy]at R;exact⟨_,_,.bmv d t k T w p es b q R.1 a6 R.2 z s,a,F⟩
    simp_all
   simp_all
  .exact mm h
 .rename_i v d q b;split at h;.rename_i e he;simp only[uE,bJ,aN]at h;exact⟨_,_,.res d (.slice []) [(0,e)] b (.inr (.inr ⟨v,e,.inl q,he,rfl,rfl⟩)),sc,h⟩
  .exact mm h
 .rename_i v d q b;split at h;.rename_i e he;simp only[uE,bJ,aN]at h;exact⟨_,_,.res d (.slice []) [(0,e)] b (.inr (.inr ⟨v,e,.inr q,he,rfl,rfl⟩)),sc,h⟩
  .exact mm h
 .rename_i t d q b;split at h;.rename_i a0;simp only[gW,bJ,aN]at h;exact⟨_,_,.mv d t b (.inl q) (by simp_all),sc,h⟩
  simp_all
 .rename_i t d q b;split at h;.rename_i a0;simp only[ne,oy]at a0;simp only[gW,bJ,aN]at h;exact⟨_,_,.mv d t b (.inr q) a0.2,sc,h⟩
  .exact mm h
 .rename_i t y T T' d q b;rw[gW,bY]at h;split at h
  .rename_i es ns p a e he hn hu;split at h;.rename_i R;simp only[ne,oy]at R;obtain⟨rfl,hm⟩:=R;let⟨z,s⟩:=h;simp only[bJ,aN]at s;exact⟨_,_,.app d t T e y es ns p b q hu he hn z hm,a,s⟩
   simp_all
  simp_all
 .rename_i T x d q b;split at h
  .rename_i l a fs hu;rw[bY]at h;split at h
   .rename_i i E hx;let⟨B,hB,h⟩:=eU h;split at h
    .rename_i X own;let⟨z,s⟩:=h;rw[aN]at s;split at s
     .rename_i hn;simp only[bJ,aN]at s;have a4:l.length=P.cellsOf T:=by grind [cO,List.length_take]
      exact⟨_,_,.ld d T x i E X own _ (.agg l) b q hx hB (.inr ⟨fs,l,hu,z,rfl,n8 hn,λy S=>by rw[a4];exact(Mm S).2⟩) (λy S=>(Mm S).1),a,s⟩
     simp_all
    simp_all
   simp_all
  .rename_i e hu _;rw[bY]at h;split at h
   .rename_i i E hx;let⟨B,hB,h⟩:=eU h;split at h
    .rename_i X own;split at h
     .rename_i R;simp only[ne,oy]at R;simp only[gW,bJ,aN]at h;have a2:X[E]? =O (X.getD E .undef):=by simp_all
      refine⟨_,_,.ld d T x i E X own [(0,e)] (X.getD E .undef) b q hx hB (.inl ⟨e,hu,a2,rfl⟩) (λy S=>?_),_,h⟩;simp_all
     simp_all
    simp_all
   simp_all
  .exact mm h
 .rename_i T x t q b;rw[gW]at h;split at h
  .rename_i vs a;rw[aN]at h;split at h;.rename_i l hl;exact PR q b hl (.inl ⟨l,rfl⟩) (λy S=>Mn S) h
   simp_all
  .rename_i a;split at h
   .rename_i a5;rw[aN]at h;split at h;.rename_i hL;refine PR q b rfl (.inr ⟨a5,?_⟩) (λy S=>Mn S) h;unfold qqV at hL;grind
    .exact D1 q b h
   simp_all
  .exact D1 q b h
  .exact S3 q b h
  simp_all
 .rename_i T x y _ q b;rw[bY]at h;split at h
  .split at h;.exact D1 q b h
   simp_all
  .exact D1 q b h
  .exact S3 q b h
  simp_all
 .rename_i t m k x q b;simp only[bY]at h;split at h
  .rename_i i j a9 a hv;let⟨B,hB,h⟩:=eU h;split at h;.rename_i es;let⟨z,s⟩:=h;rw[bJ]at s;exact⟨_,_,.mu t m k x _ b q (by simp_all[qce]),a,s⟩
   simp_all
  simp_all
 .exact mm h
def qlc{p b q:ay}(h:C2 p q=q)(i:aT b=aT p)(e:∀c own,p=.cells c own->∀d a,b=.cells d a->∀x∈own,x∈a):C2 b q=q:=by
 cases q with
 |dead=>rfl
 | map es =>cases p with|cells c own=>grind [C2]|dead=>grind [C2]|map es0=>cases b with|map es1=>simp_all[aT,ay.map.injEq]|cells c own=>simp_all[aT]|dead=>simp_all[aT]
 | cells c own =>cases p with|map es0=>grind [C2]|dead=>grind [C2]| cells cs0 own0 =>cases b with|map es1=>simp_all[aT]|dead=>simp_all[aT]|cells cs1 fJ=>simp only[aT,ay.cells.injEq,vcm]at i;subst i;have e:=e _ _ rfl _ _ rfl;simp only[C2,ay.cells.injEq]at h ⊢;grind
def qbq{l:V ay}:∀{n:Nat}{k:ay->Prop}{B:ay},l[n]? =O B->k B->oP l n k:=by induction l with|nil=>simp|cons x l ih=>intro n k B h a;cases n with|zero=>simp at h;subst h;exact a|succ n=>exact ih (by simp_all) a
def Vy{ρ:List Nat}{H c:List ay}(r:c.map aT=H.map aT):∀{e:List Nat}{m o:List ay},(∀i∈e,∀p own,H[i]? =O (.cells p own)->∀b a,c[i]? =O (.cells b a)->∀x∈own,x∈a)->uI ρ H e m o->uI ρ c e m o
 |[],[],[],_,_=>trivial
 |[],_::_,_,_,h=>h.elim
 |[],[],_::_,_,h=>h.elim
 |_::_,[],_,_,h=>h.elim
 |_::_,_::_,[],_,h=>h.elim
 | j :: e,B :: m,Bc :: o,hm,h => by let⟨y,z⟩:=h;let⟨L,s,t,w⟩:=eU y;have d:=ZN r j;rw[s]at d;cases q:c[j]? with|none=>simp_all|some B1=>rw[q]at d;simp only[or,FS]at d;exact⟨qbq q ⟨qlc t d λp own R b a F=>hm j (by simp) p own (by simp_all) b a (by simp_all),w⟩,Vy r (λi E=>hm i (vaQ _ E)) z⟩
def WC:∀(a:List Nat)(b H c:List ay),c.length=H.length->a.length=b.length->∀i∈a,(mS c a b)[i]? =(mS H a b)[i]?
 |[],_,_,_,_,_,i,hi=>by grind
 |_::_,[],_,_,_,hl,_,_=>by simp_all
 | j :: a,B :: b,H,c,hl,hn,i,hi => by
  simp only[mS];by_cases d:i∈a;.exact WC a b (H.set j B) (c.set j B) (by grind) (by simp_all) i d
  grind [qp]
def W5{f:Operand}{a:V Operand}{c:GC}{s:az}{a1:V ay->Prop}(h:jY P GE f a c s a1):a1 (mS s.boxes c.ρ c.Bs')/\c.Bs'.length=c.ρ.length/\∀b:az,(∀x,x=f\/x∈a->opv GE s.tmps x=opv GE b.tmps x)->(∀x∈c.oa,((x.t,x.k),x.e)∈s.own->((x.t,x.k),x.e)∈b.own)->b.boxes.map aT=s.boxes.map aT->(∀i∈c.ρ,∀k e,kL s (T,(i,k),e)->kL b (T,(i,k),e))->
   Pf P GE f a b c.r c.ro (mS b.boxes c.ρ c.Bs') c.oa:=by
 unfold jY at h
 rw[bY]at h
 split at h
 .rename_i g first cap hf
  rw[oS]at h
  split at h
  .rename_i hb
   let⟨F,L,R,S,X,q⟩:=h
   rw[ue]at q
   refine⟨q,?_,λb r a0 hs m=>?_⟩
   .simp_all
   have p:jY P GE f a c b (λH=>H=mS b.boxes c.ρ c.Bs'):=by
    unfold jY;rw[bY,<-r f (.inl rfl),hf];simp only;rw[oS,show a.map (opv GE b.tmps)=a.map (opv GE s.tmps)from vbi λx o=>(r x (.inr o)).symm];have d:(uR c.ρ&&qbX first.length a b.own c.oa&&c.Bs.all Uu&&Y (c.Bs'.length=c.ρ.length))=true:=by simp only[ne]at hb ⊢;grind [Sg]
    rw[d];simp only;refine⟨F,L,Vy hs (λi hi y own E z t e2 x o=>?_) R,S,X,?_⟩;.let⟨B,w,q1,q2⟩:=eV.1 (m i hi x.1 x.2 (eV.2 ⟨y,own,E,o⟩));simp_all
    .rw[ue]
   obtain⟨H',k1,rfl⟩:=xT p
   omega
  simp_all
 simp_all
def qdo{p b:ay}{a:V U}(h:C2 p (.cells a [])=.cells a [])(c:aT b=aT p):C2 b (.cells a [])=.cells a []/\aT b=.cells a []:=by cases p with|map es0=>grind [C2]|dead=>grind [C2]|cells cs0 own0=>cases b with|map es1=>simp_all[aT]|dead=>simp_all[aT]|cells cs1 fJ=>simp_all[aT,ay.cells.injEq,vcm,C2]
def qad{B:ay}(h:qdU B=T):∃a,B=.cells a []:=by
 cases B with
 |cells a own=>cases own with
  |nil=>simp
  |cons x l=>grind [qdU]
 |map es=>grind [qdU]
 |dead=>grind [qdU]
theorem E4{ρ:V Nat}{H b:V ay}(m:b.map aT=H.map aT):∀{d:V Nat}{a e:V ay},a.all qdU=T->uI ρ H d a e->uI ρ b d a e/\∀(k j:Nat) B,d[k]? =O j->a[k]? =O B->(b[j]?).map aT=O B
 |[],[],[],_,_=>⟨hV,λk j B h _=>by grind⟩
 |[],_::_,_,_,h=>h.elim
 |[],[],_::_,_,h=>h.elim
 |_::_,[],_,_,h=>h.elim
 |_::_,_::_,[],_,h=>h.elim
 | j :: d,B :: a,Bc :: e,hp,h => by let⟨r,s⟩:=h;simp only[List.all_cons,ne]at hp;obtain⟨E,rfl⟩:=qad hp.1;let⟨z,o,p,q⟩:=eU r;have c:=ZN m j;rw[o]at c;cases i:b[j]? with|none=>simp_all|some B1=>rw[i]at c;simp only[or,FS]at c;let⟨w,R⟩:=qdo p c;let⟨x,S⟩:=E4 m hp.2 s;refine⟨⟨qbq i ⟨w,q⟩,x⟩,λk L y F t=>?_⟩;grind
def OT:∀(a:List Nat)(b H:List ay),a.Nodup->a.length=b.length->∀(k j:Nat) B,a[k]? =O j->b[k]? =O B->j<H.length->(mS H a b)[j]? =O B
 |[],_,_,_,_,k,j,B,h,_,_=>by grind
 |_::_,[],_,_,hl,_,_,_,_,_,_=>by simp_all
 |i::a,B0::b,H,hn,hl,k,j,B,hj,hB,hlt=>by simp only[mS];rw[vbI]at hn;cases k with|zero=>simp_all[qp]|succ k=>exact OT a b _ hn.2 (by simp_all) k j B (by simp_all) (by simp_all) (by simp_all)
def W6{f:Operand}{a:V Operand}{c:GC}{s:az}{a2:V ay->Prop}(t:c.Bs'=c.Bs)(o:c.Bs.all qdU=T)(h:jY P GE f a c s a2):a2 (mS s.boxes c.ρ c.Bs')/\(∀H:V ay,H.map aT=s.boxes.map aT->(mS H c.ρ c.Bs').map aT=H.map aT)/\(∀(H:V ay)(i:Nat) w own,i∈c.ρ->(mS H c.ρ c.Bs')[i]? =O (.cells w own)->own=[])/\
   ∀d:az,(∀x,x=f\/x∈a->opv GE s.tmps x=opv GE d.tmps x)->(∀x∈c.oa,((x.t,x.k),x.e)∈s.own->((x.t,x.k),x.e)∈d.own)->d.boxes.map aT=s.boxes.map aT->Pf P GE f a d c.r c.ro (mS d.boxes c.ρ c.Bs') c.oa:=by
 unfold jY at h
 rw[bY]at h
 split at h
 .rename_i g first cap hf
  rw[oS]at h
  split at h
  .rename_i p
   let⟨h1,h2,h3,h4,h5,R⟩:=h
   rw[ue]at R
   have e:=p
   simp only[ne,oy]at e
   have X:=n8 e.1.1.1
   have b:=e.2
   refine⟨R,λH hs=>?_,λH i w own z F=>?_,λd ho E hs=>?_⟩
   .let⟨_,y⟩:=E4 hs o h3
    refine va2 λi=>?_
    rw[o8,o8]
    by_cases z:i∈c.ρ
    .let⟨k,q⟩:=vbc.1 z
     have B:=aq q
     have S:c.Bs[k]? =O (c.Bs[k]'(by simp_all)):=m3 _
     have h7:=y k i _ q S
     have m:i<H.length:=by grind
     rw[h7,OT c.ρ c.Bs' H X b.symm k i _ q (by rw[t];omega) m]
     let⟨w,r⟩:=qad (vaE.1 o _ (mx (by rw[<-t,b];omega)))
     rw[r]
     rfl
    simp_all[qp]
   .let⟨k,q⟩:=vbc.1 z
    have B:=aq q
    have S:c.Bs[k]? =O (c.Bs[k]'(by simp_all)):=m3 _
    have m:i<H.length:=by grind [aq,My]
    rw[OT c.ρ c.Bs' H X b.symm k i _ q (by rw[t];omega) m]at F
    let⟨a0,r⟩:=qad (vaE.1 o _ (mx (by rw[<-t,b];omega)))
    simp_all
   have L:jY P GE f a c d (λH=>H=mS d.boxes c.ρ c.Bs'):=by
    unfold jY;rw[bY,<-ho f (.inl rfl),hf];simp only;rw[oS,show a.map (opv GE d.tmps)=a.map (opv GE s.tmps)from vbi λx F=>(ho x (.inr F)).symm];have a1:(uR c.ρ&&qbX first.length a d.own c.oa&&c.Bs.all Uu&&Y (c.Bs'.length=c.ρ.length))=true:=by simp only[ne]at p ⊢;exact⟨⟨⟨p.1.1.1,Sg p.1.1.2 E⟩,p.1.2⟩,p.2⟩
    grind [E4,ue]
   obtain⟨H',k1,rfl⟩:=xT L
   omega
  simp_all
 simp_all
def W9{w:Q (Nat×ay)}{rw:V Nat}{o:M}{id:Nat}{sc:V It}{E:az}{a1:V It->V Rs->az->Prop}(h:Un P GE A w rw o id sc E a1):∃s' q,rr P GE w rw o id E s' q/\∃a,a1 a q s':=by
 have a0:VB rw o=Z->Xf rw o=Z->Ma P GE A w rw o id sc E a1->∃s' q,rr P GE w rw o id E s' q/\∃a,a1 a q s':=λS R h=>by let⟨s',q,b,m⟩:=W8 h;exact⟨s',q,.old b S R,m⟩
 unfold Un at h;split at h
 .rename_i f e t d c a B y;have S:VB rw o=false:=by simp_all[VB]
  split at h
  .rename_i L;let⟨hc,h⟩:=h;split at h;.rename_i s;rw[ne]at s;let⟨b,m,F,h4⟩:=W6 hc s.1 h;simp only[bJ,aN]at b;refine⟨_,_,.callH d f e t c.r c.ro c.oa c.ρ (λH=>mS H c.ρ c.Bs') B y L (λH i r=>qp _ _ _ r) m F (λi z=>?_) h4,a,b⟩;simp_all
   simp_all
  rename_i L;have R:Xf rw o=false:=by simp_all[Xf]
  split at h;.simp_all
  .split at h;.rename_i z;let⟨b,m,F⟩:=W5 h;simp only[bJ,aN]at b;exact⟨_,_,.callG d f e t c.r c.ro c.oa c.ρ (λH=>mS H c.ρ c.Bs') B y z L (λH i r=>qp _ _ _ r) (λH X i hs r=>WC c.ρ c.Bs' H X (by simpa using m4 List.length hs) m.symm i r) F,a,b⟩
   simp_all
 .rename_i a2 x d p a B y;split at h
  .rename_i z;rw[bY]at h;split at h;.rename_i cs hx;let⟨b,m⟩:=h;simp only[bJ,aN]at m;exact⟨_,_,.ldE d a2 x cs p B y z hx b,a,m⟩
   simp_all
  simp_all[Xf,VB]
 grind
theorem AO{c:Nat->Q (Nat×ay)}{rw r:V Nat}{R:V It->az->Prop}:∀(a:V M)(m id:Nat)(sc:V It)(b:V (V Rs))(i:az),Oa P GE c rw A ops r R a m id sc b i->
  oK P GE c rw ops (λb e=>(qgt r b&&ZY rw b)=T/\∃sc,R sc e) a id b i
 | [],_,_,sc,b,i,h => by
  simp only[Oa]at h;split at h;.rename_i F;exact⟨F,sc,h⟩
  simp_all
 | o :: a,m,id,sc,b,i,h => by
  simp only[Oa]at h
  have w:∀sc i,Un P GE A (c b.length) rw o id sc i (λd p e=>bA (b++[p]) λs=>Oa P GE c rw A ops r R a (m+1) (id+if aD o.op then 1 else 0) d s e)->
    ∃s' p,rr P GE (c b.length) rw o id i s' p/\oK P GE c rw ops (λb e=>(qgt r b&&ZY rw b)=T/\∃sc,R sc e) a (id+if aD o.op then 1 else 0) (b++[p]) s':=by
   intro sc i H
   let⟨s',p,z,d,t⟩:=W9 (id:=id) H
   rw[aN]at t
   exact⟨s',p,z,AO a _ _ d _ s' t⟩
  unfold oK;split at h;.grind
  .rename_i j y E;let⟨x,L,q⟩:=Ns h;simp only[E,L];rcases q with⟨rfl,d,q⟩|⟨hne,d,q⟩;.grind
   .refine⟨λB=>absurd B hne,λ_=>?_⟩;simp only[Bn,aN]at q;exact AO a _ _ d _ _ q
def dz.drawD{m:Nat}(z:P.follows .mixedOrders=T){id:Nat}{r:V Nat}{X:V ay}{s:V (Nat×Nat)}{rw:V Nat}{Q:Exit->az->Prop}{st:az}(i:ops.toList.all eD=T)(h:qah P GE ops r X s rw (Q .normal) st):dz P GE m (.region id ops T) Q st:=by
 intro H E c a w t B q;obtain⟨rfl,_,_,_⟩:=t;refine gD (KN (Q:=λe b p=>e=.normal/\UH P E c a.defers Q .normal b p) z i (by rintro⟨_,_,h,_⟩;grind) ?_) λe b p F=>by simp_all
 exact PO q q.len (λb p o y d x=>⟨rfl,y,o,d,x⟩) h
def N9(P:I)(GE:V (Nat×V U))(A:V Nat)(ops:Array M)(c:V Nat)(X:V ay)(d:V (Nat×Nat))(rw:V Nat)(e:V It->az->Prop)(sc:V It)(a:az):Prop:=match ops.toList.all eD&&(drawD P rw ops.toList a.tmps.length c&&qnE rw d a.boxes.length X.length)with
 |true=>TJ a.boxes X λb=>match qmN rw b with|true=>TJ b (gG P ops.toList) λH=>Oa P GE (XQ d b) rw A ops c e ops.toList 0 (a.boxes.length+X.length) sc [] ⟨a.tmps,H,a.own⟩|false=>False
 |false=>False
theorem Zw{m:Nat}(i:P.follows .mixedOrders=T){id:Nat}{c:V Nat}{X:V ay}{d:V (Nat×Nat)}{rw:V Nat}{r:V It->az->Prop}{sc:V It}{st:az}{Q:Exit->az->Prop}(p:∀st,(∃sc,r sc st)->Q .normal st)
  (h:N9 P GE A ops c X d rw r sc st):dz P GE m (.region id ops T) Q st:=by
 unfold N9 at h
 split at h
 .rename_i a
  rw[ne,ne]at a
  let⟨b,a⟩:=a
  unfold TJ at h
  rw[aN]at h
  split at h
  .rename_i o
   rw[aN]at h
   refine(dz.drawD (Q:=λe st=>e=.normal/\∃sc,r sc st) i b ⟨a.1,by rw[ne];exact⟨a.2,o⟩,?_⟩).imp λe st q=>by grind
   grind [AO]
  simp_all
 simp_all
end
end Go.Proofs.YtankopenjcbeeaaGreatDoor
