/- PROVED: a part of the proof. Conditions: none. -/
import Derived.Test.YtoficachfgggjaaDoorPkF5
noncomputable section
namespace Go.Proofs.YtoficachfgggjaaDoor
open Go
def mW(o:Oper):List Rs:=match o.dst with
 |some d=>[(false,d,0)]
 |none=>[]
def nx(P:Program)(GE:List (Nat×List PVal))(bi:Option (Nat×ah))(rw:List Nat)(ops:Array Oper)(o:Oper)(id:Nat)(s s':aj)(rs:List Rs):Prop:=
 match o.guard with
 |none=>df P GE bi rw o id s s' rs
 |some (j,want)=>∃x,ku ops s.tmps j=some x/\(x=some want->df P GE bi rw o id s s' rs)/\(x≠some want->s'=lG s o.dst (.val undef) [] s.boxes/\rs=mW o)
def eQ(P:Program)(GE:List (Nat×List PVal))(bid:Nat->Option (Nat×ah))(rw:List Nat)(ops:Array Oper)(K:List (List Rs)->aj->Prop):List Oper->Nat->List (List Rs)->aj->Prop
 |[],_,lg,st=>K lg st
 | o :: rest,id,lg,st =>
  match o.guard with
  |none=>∃s' rs,df P GE (bid lg.length) rw o id st s' rs/\eQ P GE bid rw ops K rest (id+if ai o.op then 1 else 0) (lg++[rs]) s'
  |some (j,want)=>match ku ops st.tmps j with
   | some x => (x = some want→∃ s' rs,df P GE (bid lg.length) rw o id st s' rs∧eQ P GE bid rw ops K rest (id + if ai o.op then 1 else 0) (lg ++ [rs]) s') ∧
     (x≠some want->eQ P GE bid rw ops K rest (id+if ai o.op then 1 else 0) (lg++[mW o]) (lG st o.dst (.val undef) [] st.boxes))
   |none=>False
section
variable{P:Program}{GE:List (Nat×List PVal)}
theorem pg{bid:Nat->Option (Nat×ah)}{rw:List Nat}{ops:Array Oper}{K:List (List Rs)->aj->Prop}:∀(rest:List Oper) (id:Nat) (lg:List (List Rs)) (st:aj),eQ P GE bid rw ops K rest id lg st->
  ∃(T:Nat->aj) (R:List (List Rs)),T 0=st/\R.length=rest.length/\K (lg++R) (T rest.length)/\∀(k:Nat) o,rest[k]? =some o->nx P GE (bid (lg.length+k)) rw ops o (id+aD (rest.take k)) (T k) (T (k+1)) (R.getD k [])
 |[],id,lg,st,h=>⟨fun _=>st,[],rfl,rfl,by simpa[eQ]using h,by simp⟩
 | o :: rest,id,lg,st,h => by
  have hcnt:aD [o]=if ai o.op then 1 else 0:=by unfold aD;simp only[vbs,List.filter_nil];split<;>rfl
  have fin:∀st' rs,nx P GE (bid lg.length) rw ops o id st st' rs->eQ P GE bid rw ops K rest (id+if ai o.op then 1 else 0) (lg++[rs]) st'->
    ∃(T:Nat->aj) (R:List (List Rs)),T 0=st/\R.length=rest.length+1/\K (lg++R) (T (rest.length+1))/\∀(k:Nat) o',(o::rest)[k]? =some o'->nx P GE (bid (lg.length+k)) rw ops o' (id+aD ((o::rest).take k)) (T k) (T (k+1)) (R.getD k []):=by
   intro st' rs h1 h2
   obtain⟨T,R,t0,tl,t1,t2⟩:=pg rest _ _ st' h2
   refine⟨fun k=>match k with|0=>st|k+1=>T k,rs::R,rfl,by simp[tl],by simpa using t1,fun k o' ho'=>?_⟩
   cases k with
   |zero=>simp at ho';subst ho';simp only[List.getD_cons_zero];rw[t0];simpa[aD]using h1
   | succ k =>
    have:=t2 k o' (by simpa using ho')
    have he:id+(if ai o.op then 1 else 0)+aD (rest.take k)=id+aD ((o::rest).take (k+1)):=by
     simp only[List.take_succ_cons]
     have:aD (o::rest.take k)=aD [o]+aD (rest.take k):=by
      unfold aD;simp only[vbs,List.filter_nil];split<;>simp<;>omega
     rw[this,hcnt];omega
    rw[he,show(lg++[rs]).length+k=lg.length+(k+1) by simp;omega]at this
    simpa using this
  simp only[eQ]at h
  simp only[va5]
  split at h
  ·rename_i hg
   obtain⟨s',rs,h1,h2⟩:=h
   exact fin s' rs (by unfold nx;rw[hg];exact h1) h2
  ·rename_i j want hg
   split at h
   ·rename_i x hx
    by_cases hw:x=some want
    ·obtain⟨s',rs,h1,h2⟩:=h.1 hw
     exact fin s' rs (by unfold nx;rw[hg];exact⟨x,hx,fun _=>h1,fun hn=>absurd hw hn⟩) h2
    ·exact fin _ _ (by unfold nx;rw[hg];exact⟨x,hx,fun hy=>absurd hy hw,fun _=>⟨rfl,rfl⟩⟩) (h.2 hw)
   ·exact h.elim
end
def drawD(P:Program)(l:List Oper)(n:Nat)(an:List Nat):Bool:=
 let before (i j:Nat):Bool:=(an.getD j 0).testBit i
 let gk:=List.range l.length
 (an.length==l.length&&gk.all fun j=>da an (l.getD j default)==an.getD j 0)&&
 (l.all (fun o=>o.dst.all fun d=>decide (d<n))&&
 gk.all (fun j=>(l.getD j default).after.all fun e=>!Region.binds .any e||decide (e.on<j))&&
 gk.all (fun j=>gk.all fun i=>i==j||(l.getD i default).dst==none||(l.getD i default).dst !=(l.getD j default).dst)&&
 gk.all (fun j=>(looks l.toArray (l.getD j default)).all fun t=>gk.all fun i=>i==j||(l.getD i default).dst !=some t||(if i<j then before i j else before j i))&&
 gk.all (fun j=>gk.all fun i=>!(decide (i<j))||aq P (l.getD i default).op<2||aq P (l.getD j default).op<2||(aq P (l.getD i default).op !=3&&aq P (l.getD j default).op !=3)||before i j))
def Af(an:List Nat)(lg:List (List Rs)):Bool:=
 let gk:=List.range lg.length
 gk.all fun j=>(lg.getD j []).all fun r=>gk.all fun i=>!(decide (i<j))||!((lg.getD i []).contains r)||(an.getD j 0).testBit i
structure ww(P:Program)(ops:Array Oper)(n:Nat):Prop where
 f1:∀(k:Nat) o d,ops[k]? =some o->o.dst=some d->d<n
 f2:∀(k:Nat) o,ops[k]? =some o->∀e∈o.after.toList,Region.binds .any e=true->e.on<k
 f3:∀(i j:Nat) oi oj d,ops[i]? =some oi->ops[j]? =some oj->i≠j->oi.dst=some d->oj.dst≠some d
 f4:∀(j:Nat) oj t,ops[j]? =some oj->t∈looks ops oj->∀(i:Nat) oi,ops[i]? =some oi->i≠j->oi.dst=some t->(i<j/\bf ops i j)\/(j<i/\bf ops j i)
 f5:∀(i j:Nat) oi oj,ops[i]? =some oi->ops[j]? =some oj->i<j->aq P oi.op<2\/aq P oj.op<2\/(aq P oi.op≠3/\aq P oj.op≠3)\/bf ops i j
theorem vd{an an':List Nat}{o:Oper}(h:∀e∈o.after.toList,Region.binds .any e=true->an.getD e.on 0=an'.getD e.on 0):da an o=da an' o:=by
 unfold da
 have key:∀(l:List Edge) (s:Nat),(∀e∈l,Region.binds .any e=true->an.getD e.on 0=an'.getD e.on 0)->
   l.foldl (fun s e=>if Region.binds .any e then s|||2 ^ e.on|||an.getD e.on 0 else s) s=l.foldl (fun s e=>if Region.binds .any e then s|||2 ^ e.on|||an'.getD e.on 0 else s) s:=by
  intro l
  induction l with
  |nil=>intro s _;rfl
  | cons e l ih =>
   intro s h
   simp only[List.foldl_cons]
   rw[ih _ fun e he=>h e (by simp[he])]
   by_cases hb:Region.binds .any e=true
   ·rw[vas hb,vas hb,h e (by simp) hb]
   ·rw[vav hb,vav hb]
 exact key _ _ h
theorem BX{l:List Oper}{an:List Nat}(hlen:an.length=l.length)(ha:∀j,j<l.length->da an (l.getD j default)=an.getD j 0)
  (hedge:∀j,j<l.length->∀e∈(l.getD j default).after.toList,Region.binds .any e=true->e.on<j):pA l=an:=by
 have key:∀k,k<=l.length->pA (l.take k)=an.take k:=by
  intro k
  induction k with
  |zero=>intro _;simp[pA]
  | succ k ih =>
   intro hk
   have ih:=ih (by omega)
   have hl:l.take (k+1)=l.take k++[l.getD k default]:=by
    rw[vb9,vaj]
    simp[show k<l.length by omega]
   have han:an.take (k+1)=an.take k++[an.getD k 0]:=by
    rw[vb9,vaj]
    simp[show k<an.length by omega]
   have hstep:pA (l.take k++[l.getD k default])=pA (l.take k)++[da (pA (l.take k)) (l.getD k default)]:=by
    unfold pA;rw[List.foldl_append];rfl
   rw[hl,hstep,ih,han,<-ha k (by omega)]
   congr 2
   refine vd fun e he hb=>?_
   have:=hedge k (by omega) e he hb
   rw[vaj,vaj,vau this]
 have:=key l.length (vam _)
 rwa[vch,<-hlen,vch]at this
theorem tV{P:Program}{ops:Array Oper}{n:Nat}{an:List Nat}(h:drawD P ops.toList n an=true):ww P ops n/\pA ops.toList=an:=by
 unfold drawD at h
 simp only[vac,vao,vbi,vaO,vaK,vah,bne_iff_ne,ne_eq,vaJ,vba,Option.all_eq_true]at h
 obtain⟨⟨ha1,ha2⟩,⟨⟨⟨h1,h2⟩,h3⟩,h4⟩,h5⟩:=h
 have hl:∀{k:Nat} {o},ops[k]? =some o->ops.toList[k]? =some o:=fun hk=>by simpa using hk
 have han:pA ops.toList=an:=by
  refine BX ha1 ha2 fun j hj e he hb=>?_
  rcases h2 j hj e (by simpa using he)with hx|hx
  ·rw[hb]at hx;cases hx
  ·exact hx
 refine⟨⟨fun k o d hk hd=>?_,fun k o hk e he hb=>?_,fun i j oi oj d hi hj hij hd hd'=>?_,fun j oj t hj ht i oi hi hij hd=>?_,fun i j oi oj hi hj hij=>?_⟩,han⟩
 ·exact h1 o (var (hl hk)) d hd
 ·have:=h2 k (aa (hl hk)) e (by rw[mE (hl hk)];simpa using he)
  rcases this with hx|hx
  ·rw[hb]at hx;cases hx
  ·exact hx
 ·have:=h3 j (aa (hl hj)) i (aa (hl hi))
  rw[mE (hl hi),mE (hl hj)]at this
  rcases this with(hx|hx)|hx
  ·exact hij hx
  ·rw[hd]at hx;cases hx
  ·exact hx (hd.trans hd'.symm)
 ·have:=h4 j (aa (hl hj)) t (by rw[mE (hl hj)];exact ht) i (aa (hl hi))
  rw[mE (hl hi)]at this
  unfold bf
  rw[han]
  rcases this with(hx|hx)|hx
  ·exact absurd hx hij
  ·exact absurd hd hx
  ·by_cases hlt:i<j
   ·rw[vas hlt]at hx;exact .inl ⟨hlt,hx⟩
   ·rw[vav hlt]at hx;exact .inr ⟨by omega,hx⟩
 ·have:=h5 j (aa (hl hj)) i (aa (hl hi))
  rw[mE (hl hi),mE (hl hj)]at this
  unfold bf
  rw[han]
  rcases this with(((hx|hx)|hx)|hx)|hx
  ·rw[vbq]at hx;exact absurd hij hx
  ·exact .inl hx
  ·exact .inr (.inl hx)
  ·exact .inr (.inr (.inl hx))
  ·exact .inr (.inr (.inr hx))
theorem Ag{an:List Nat}{lg:List (List Rs)}(h:Af an lg=true){i j:Nat}{r:Rs}(hij:i<j)(hi:r∈lg.getD i [])(hj:r∈lg.getD j []):(an.getD j 0).testBit i=true:=by
 unfold Af at h
 simp only[vao,vbi,vaO,vaK,vbq,vcs]at h
 have hjl:j<lg.length:=by
  by_cases hx:j<lg.length
  ·exact hx
  ·rw[vaj,vaz (by omega)]at hj;simp at hj
 rcases h j hjl r hj i (by omega)with(hx|hx)|hx
 ·exact absurd hij hx
 ·exact absurd hi hx
 ·exact hx
section
variable{P:Program}{GE:List (Nat×List PVal)}{bid:Nat->Option (Nat×ah)}{rw:List Nat}{ops:Array Oper}{n base:Nat}{T:Nat->aj}{R:Nat->List Rs}
structure gu(P:Program)(GE:List (Nat×List PVal))(bid:Nat->Option (Nat×ah))(rw:List Nat)(ops:Array Oper)(n base:Nat)(T:Nat->aj)(R:Nat->List Rs):Prop where
 len:(T 0).tmps.length=n
 step:∀(k:Nat) o,ops[k]? =some o->nx P GE (bid k) rw ops o (base+aD (ops.toList.take k)) (T k) (T (k+1)) (R k)
 log:∀(i j:Nat) r,i<j->r∈R i->r∈R j->bf ops i j
 row0:∀i∈rw,∀k e,¬gV (T 0) (true,(i,k),e)
 rowl:∀j,j<ops.size->∀i∈rw,∀k,(true,i,k)∉R j
 binj:∀(j k i:Nat) B B',bid j=some (i,B)->bid k=some (i,B')->j=k
theorem BG{o:Oper}{s:aj}:CE P o s (lG s o.dst (.val undef) [] s.boxes) (mW o):=by
 unfold mW
 cases hd:o.dst with
 |none=>exact⟨by rw[hd];rfl,fun _=>rfl,fun τ _ h=>h⟩
 |some d=>
  refine⟨by rw[hd];exact⟨_,rfl⟩,fun _=>rfl,?_⟩
  rintro⟨b,⟨t,k⟩,e⟩ hr hh
  cases b with
  |true=>exact hh
  |false=>exact(bG (by simpa[lG]using aZ.1 hh)).1
theorem nx.eff{bi:Option (Nat×ah)}{o:Oper}{id:Nat}{s s':aj}{rs:List Rs}(h:nx P GE bi rw ops o id s s' rs):CE P o s s' rs:=by
 unfold nx at h
 split at h
 ·exact h.eff
 ·obtain⟨x,_,h1,h2⟩:=h
  by_cases hx:x=some ‹Bool›
  ·exact(h1 hx).eff
  ·obtain⟨rfl,rfl⟩:=h2 hx;exact BG
theorem gu.all(hT:gu P GE bid rw ops n base T R):∀k,k<=ops.size->(T k).tmps.length=n:=by
 intro k
 induction k with
 |zero=>intro _;exact hT.len
 | succ k ih =>
  intro hk
  have h1:=ih (by omega)
  have hok:ops[k]? =some ops[k]:=by simp[show k<ops.size by omega]
  have he:=(hT.step k _ hok).eff.tm
  split at he
  ·obtain⟨p,he⟩:=he;rw[he];simp[h1]
  ·rw[he];exact h1
theorem gu.between(hT:gu P GE bid rw ops n base T R){t:Nat}:∀(m k:Nat),k+m<=ops.size->(∀(i:Nat) o,k<=i->i<k+m->ops[i]? =some o->o.dst≠some t)->(T (k+m)).tmps[t]? =(T k).tmps[t]?:=by
 intro m
 induction m with
 |zero=>intro k _ _;rfl
 | succ m ih =>
  intro k hk hne
  have hok:ops[k+m]? =some ops[k+m]:=by simp[show k+m<ops.size by omega]
  have he:=(hT.step _ _ hok).eff.tm
  have hn:=hne (k+m) _ (by omega) (by omega) hok
  have ih:=ih k (by omega) fun i o h1 h2=>hne i o h1 (by omega)
  rw[<-ih,show k+(m+1)=k+m+1 from rfl]
  split at he
  ·rename_i d hd
   obtain⟨p,he⟩:=he
   rw[he,vak (fun e=>hn (by rw[hd,e]))]
  ·rw[he]
theorem gu.boxes(hT:gu P GE bid rw ops n base T R):∀(m k:Nat),k+m<=ops.size->(∀(i:Nat) o,k<=i->i<k+m->ops[i]? =some o->aq P o.op≠3)->(T (k+m)).boxes.map aH=(T k).boxes.map aH:=by
 intro m
 induction m with
 |zero=>intro k _ _;rfl
 |succ m ih=>
  intro k hk hne
  have hok:ops[k+m]? =some ops[k+m]:=by simp[show k+m<ops.size by omega]
  rw[show k+(m+1)=k+m+1 from rfl,(hT.step _ _ hok).eff.bx (hne (k+m) _ (by omega) (by omega) hok)]
  exact ih k (by omega) fun i o h1 h2=>hne i o h1 (by omega)
theorem gu.boxes_eq(hT:gu P GE bid rw ops n base T R){k m:Nat}(hk:k<=ops.size)(hm:m<=ops.size)(h:∀(i:Nat) o,ops[i]? =some o->aq P o.op=3->(i<k↔i<m)):(T k).boxes.map aH=(T m).boxes.map aH:=by
 rcases Nat.le_total k m with hle|hle
 ·have:=hT.boxes (m - k) k (by omega) fun i o h1 h2 ho hc=>by have:=(h i o ho hc);omega
  rw[show k+(m - k)=m from by omega]at this
  exact this.symm
 ·have:=hT.boxes (k - m) m (by omega) fun i o h1 h2 ho hc=>by have:=(h i o ho hc);omega
  rw[show m+(k - m)=k from by omega]at this
  exact this
theorem gu.back(hT:gu P GE bid rw ops n base T R){τ:BS}:∀(m k:Nat),k+m<=ops.size->(∀i,k<=i->i<k+m->bF τ∉R i)->gV (T (k+m)) τ->gV (T k) τ:=by
 intro m
 induction m with
 |zero=>intro k _ _ h;exact h
 |succ m ih=>
  intro k hk hne h
  have hok:ops[k+m]? =some ops[k+m]:=by simp[show k+m<ops.size by omega]
  exact ih k (by omega) (fun i h1 h2=>hne i h1 (by omega)) ((hT.step _ _ hok).eff.back τ (hne _ (by omega) (by omega)) h)
theorem gu.norow(hT:gu P GE bid rw ops n base T R){q i k:Nat}{e:TypeId}(hq:q<=ops.size)(hi:i∈rw):¬gV (T q) (true,(i,k),e):=fun h=>by
 have:=hT.back (τ:=(true,(i,k),e)) q 0 (by omega) (fun j _ h2 hr=>hT.rowl j (by omega) i hi k (by simpa[bF]using hr)) (by rw[vaB];exact h)
 exact hT.row0 i hi k e this
variable{E:kF}{bs0:aB}{ds:List Deferred}
structure pR(P:Program)(E:kF)(bid:Nat->Option (Nat×ah))(ops:Array Oper)(n base:Nat)(T:Nat->aj)(R:Nat->List Rs)(bs0:aB)(ds:List Deferred)(listed:Array Bool)(a:Act)(w:World):Prop where
 size:listed.size=ops.size
 defers:a.defers=ds
 down:CF ops listed
 ex:∃Γ bs ow st,SR P E Γ bs ow w a.tmps st/\AJ bs0 bs/\st.tmps.length=n/\
  (∀(k:Nat) o d,ops[k]? =some o->o.dst=some d->aO listed k->st.tmps[d]? =(T ops.size).tmps[d]?)/\
  (∀t,(∀(k:Nat) o,ops[k]? =some o->aO listed k->o.dst≠some t)->st.tmps[t]? =(T 0).tmps[t]?)/\
  (∃m,m<=ops.size/\(∀(i:Nat) o,ops[i]? =some o->aq P o.op=3->(aO listed i↔i<m))/\st.boxes.map aH=(T m).boxes.map aH)/\
  (∀(i:Nat) o,ops[i]? =some o->ai o.op=true->¬aO listed i->bs[pF ops base i]? =some none/\st.boxes[pF ops base i]? =gz P o)/\
  (∀(τ:BS) (m:Nat),m<=ops.size->(∀k,k<ops.size->bF τ∈R k->(aO listed k↔k<m))->gV (T m) τ->gV st τ)/\
  (∀(k i:Nat) B,k<ops.size->bid k=some (i,B)->¬aO listed k->bs[i]? =some none/\st.boxes[i]? =some B)
theorem yK(hD:ww P ops n)(hT:gu P E.GE bid rw ops n base T R)(hbase:bs0.length<=base)(hbd:∀(k i:Nat) B,bid k=some (i,B)->bs0.length<=i/\i<base){listed:Array Bool}{a:Act}{w:World}(hI:pR P E bid ops n base T R bs0 ds listed a w){j:Nat}(hj:j∈Region.ready .any ops listed)
  (Q:Exit->Act->World->Prop):wpOp P ops Q j (pR P E bid ops n base T R bs0 ds (listed.setIfInBounds j true)) a w:=by
 obtain⟨hj0,oj,hoj,hja⟩:=mem_ready.1 hj
 have hjs:j<ops.size:=(vai.1 hoj).1
 have hnl:¬aO listed j:=by
  unfold aO
  have:j<listed.size:=by rw[hI.size];exact hjs
  simp[this]at hj0 ⊢
  exact hj0
 have haft:∀e∈oj.after.toList,Region.binds .any e=true->aO listed e.on:=fun e he hb=>hja e (by simpa using he) hb
 have hbf:∀i,bf ops i j->aO listed i:=qW hI.down j oj hoj haft
 have hbf':∀(i:Nat) oi,ops[i]? =some oi->bf ops j i->¬aO listed i:=fun i oi hi hb hli=>hnl (qW hI.down i oi hi (hI.down i oi hi hli) j hb)
 obtain⟨Γ,bs,ow,st,hS,hK,hlen,ht1,ht2,⟨m,hm,hmw,hmb⟩,hun,htk,hub⟩:=hI.ex
 have hop:∀k,k<ops.size->∃o,ops[k]? =some o:=fun k hk=>⟨_,vaD hk⟩
 have hlook:∀t,t∈looks ops oj->st.tmps[t]? =(T j).tmps[t]?:=by
  intro t ht
  by_cases hex:∃i oi,ops[i]? =some oi/\i≠j/\oi.dst=some t
  ·obtain⟨i,oi,hoi,hij,hdi⟩:=hex
   have honly:∀(k:Nat) o,ops[k]? =some o->o.dst=some t->k=i:=fun k o ho hdk=>by
    by_cases hki:k=i
    ·exact hki
    ·exact absurd hdi (hD.f3 k i o oi t ho hoi hki hdk)
   rcases hD.f4 j oj t hoj ht i oi hoi hij hdi with⟨hlt,hb⟩|⟨hlt,hb⟩
   ·rw[ht1 i oi t hoi hdi (hbf i hb)]
    have:=hT.between (t:=t) (ops.size - j) j (by omega) fun k o h1 h2 ho hk=>by have:=honly k o ho hk;omega
    rwa[show j+(ops.size - j)=ops.size from by omega]at this
   ·rw[ht2 t fun k o ho hlk hk=>by have:=honly k o ho hk;subst this;exact hbf' k o ho hb hlk]
    have:=hT.between (t:=t) j 0 (by omega) fun k o h1 h2 ho hk=>by have:=honly k o ho hk;omega
    rw[vaB]at this
    exact this.symm
  ·rw[ht2 t fun k o ho hlk hk=>hex ⟨k,o,ho,fun e=>by subst e;exact hnl hlk,hk⟩]
   have:=hT.between (t:=t) j 0 (by omega) fun k o h1 h2 ho hk=>hex ⟨k,o,ho,by omega,hk⟩
   rw[vaB]at this
   exact this.symm
 have hopv:∀x∈oj.op.operands.toList,opv E.GE (T j).tmps x=opv E.GE st.tmps x:=by
  intro x hx
  cases x with
  |tmp t=>
   have:t∈looks ops oj:=vaW _ (vbD.2 ⟨.tmp t,hx,rfl⟩)
   show(T j).tmps.getD t .undef=st.tmps.getD t .undef
   rw[vaj,vaj,hlook t this]
  |const v=>rfl
  |global g=>rfl
  |func f=>rfl
 have hboxes:2<=aq P oj.op->st.boxes.map aH=(T j).boxes.map aH:=by
  intro hc
  rw[hmb]
  refine hT.boxes_eq hm (by omega) fun i o ho hco=>?_
  rw[<-hmw i o ho hco]
  rcases vca i j with hlt|rfl|hlt
  ·rcases hD.f5 i j o oj ho hoj hlt with h|h|h|h
   ·omega
   ·omega
   ·exact absurd hco h.1
   ·exact⟨fun _=>hlt,fun _=>hbf i h⟩
  ·exact⟨fun h=>absurd h hnl,fun h=>absurd h (vbB _)⟩
  ·rcases hD.f5 j i oj o hoj ho hlt with h|h|h|h
   ·omega
   ·omega
   ·exact absurd hco h.2
   ·exact⟨fun hl=>absurd hl (hbf' i o ho h),fun hx=>by omega⟩
 have hjl:j<listed.size:=by rw[hI.size];exact hjs
 have hwr:aq P oj.op=3->∀(i:Nat) o,ops[i]? =some o->aq P o.op=3->(aO (listed.setIfInBounds j true) i↔i<j+1):=by
  intro hc i o ho hco
  rw[bT hjl]
  rcases vca i j with hlt|rfl|hlt
  ·rcases hD.f5 i j o oj ho hoj hlt with h|h|h|h
   ·omega
   ·omega
   ·exact absurd hco h.1
   ·exact⟨fun _=>by omega,fun _=>.inr (hbf i h)⟩
  ·exact⟨fun _=>by omega,fun _=>.inl rfl⟩
  ·rcases hD.f5 j i oj o hoj ho hlt with h|h|h|h
   ·omega
   ·omega
   ·exact absurd hco h.2
   ·refine⟨fun hl=>?_,fun hx=>by omega⟩
    rcases hl with hl|hl
    ·omega
    ·exact absurd hl (hbf' i o ho h)
 have htok:∀τ,bF τ∈R j->gV (T j) τ->gV st τ:=fun τ hr=>htk τ j (by omega) fun k hk hkr=>by
  rcases vca k j with hlt|rfl|hlt
  ·exact⟨fun _=>hlt,fun _=>hbf k (hT.log k j _ hlt hkr hr)⟩
  ·exact⟨fun h=>absurd h hnl,fun h=>absurd h (vbB _)⟩
  ·obtain⟨o,ho⟩:=hop k hk
   exact⟨fun hl=>absurd hl (hbf' k o ho (hT.log j k _ hlt hr hkr)),fun hx=>by omega⟩
 have hTl:=hT.all j (by omega)
 have fin:∀{Γ':ax} {bs':aB} {ow':Nat->Option gY} {w':World} {a':Act} {st':aj},a'.defers=ds->SR P E Γ' bs' ow' w' a'.tmps st'->zi P bs rw oj st st' (T j) (T (j+1)) (R j)->
   (bs'=bs\/(ai oj.op=true/\∃b,bs'=bs.set (pF ops base j) (some b))\/∃i B x,bid j=some (i,B)/\bs'=bs.set i x)->pR P E bid ops n base T R bs0 ds (listed.setIfInBounds j true) a' w':=by
  intro Γ' bs' ow' w' a' st' hda hS' hP hbs'
  refine⟨by simp[hI.size],hda,fun k o ho hk e he hb=>?_,Γ',bs',ow',st',hS',?_,?_,?_,?_,?_,?_,?_,?_⟩
  ·rw[bT hjl]at hk ⊢
   rcases hk with rfl|hk
   ·rw[hoj]at ho;cases ho
    exact .inr (haft e he hb)
   ·exact .inr (hI.down k o ho hk e he hb)
  ·rcases hbs' with rfl|⟨_,b,rfl⟩|⟨i',B,x,hb,rfl⟩
   ·exact hK
   ·intro i hi
    rw[vak (by unfold pF;omega)]
    exact hK i hi
   ·intro i hi
    rw[vak (by have:=(hbd _ _ _ hb).1;omega)]
    exact hK i hi
  ·have:=hP.tm
   split at this
   ·obtain⟨p,h1,_⟩:=this;rw[h1];simp[hlen]
   ·rw[this.1];exact hlen
  ·intro k o dk ho hdk hk
   rw[bT hjl]at hk
   have hPt:=hP.tm
   by_cases hkj:k=j
   ·subst hkj
    rw[hoj]at ho;cases ho
    rw[hdk]at hPt
    obtain⟨p,h1,h2⟩:=hPt
    have:=hT.between (t:=dk) (ops.size - (k+1)) (k+1) (by omega) fun i o h1 h2 ho hk=>hD.f3 k i oj o dk hoj ho (by omega) hdk hk
    rw[show k+1+(ops.size - (k+1))=ops.size from by omega]at this
    have hdn:=hD.f1 k oj dk hoj hdk
    rw[this,h1,h2,vae (by rw[hlen];exact hdn),vae (by rw[hTl];exact hdn)]
   ·have hold:=ht1 k o dk ho hdk (hk.resolve_left hkj)
    split at hPt
    ·rename_i d hd
     obtain⟨p,h1,_⟩:=hPt
     have hne:d≠dk:=fun e=>by subst e;exact hD.f3 j k oj o d hoj ho (Ne.symm hkj) hd hdk
     rw[h1,vak hne];exact hold
    ·rw[hPt.1];exact hold
  ·intro t hnt
   have hold:=ht2 t fun k o ho hk=>hnt k o ho ((bT hjl).2 (.inr hk))
   have hPt:=hP.tm
   split at hPt
   ·rename_i d hd
    obtain⟨p,h1,_⟩:=hPt
    have hne:d≠t:=fun e=>by subst e;exact hnt j oj hoj ((bT hjl).2 (.inl rfl)) hd
    rw[h1,vak hne];exact hold
   ·rw[hPt.1];exact hold
  ·by_cases hc:aq P oj.op=3
   ·exact⟨j+1,by omega,hwr hc,hP.b2 hc⟩
   ·refine⟨m,hm,fun i o ho hco=>?_,(hP.b1 hc).trans hmb⟩
    rw[bT hjl,<-hmw i o ho hco]
    constructor
    ·rintro(rfl|hx)
     ·rw[hoj]at ho;cases ho;exact absurd hco hc
     ·exact hx
    ·exact .inr
  ·intro i o ho hmk hni
   have hij:i≠j:=fun e=>by subst e;exact hni ((bT hjl).2 (.inl rfl))
   obtain⟨u1,u2⟩:=hun i o ho hmk fun hx=>hni ((bT hjl).2 (.inr hx))
   refine⟨?_,(hP.un _ u1).trans u2⟩
   rcases hbs' with rfl|⟨hmj,b,rfl⟩|⟨i',B,x,hb,rfl⟩
   ·exact u1
   ·have hne:pF ops base j≠pF ops base i:=by
     rcases Nat.lt_or_gt_of_ne hij with hlt|hlt
     ·have:=zB (base:=base) ho hmk hlt;omega
     ·have:=zB (base:=base) hoj hmj hlt;omega
    rw[vak hne];exact u1
   ·rw[vak (by have:=(hbd _ _ _ hb).2;unfold pF;omega)];exact u1
  ·intro τ q hq hqk hh
   by_cases hr:bF τ∈R j
   ·have hjq:j<q:=(hqk j hjs hr).1 ((bT hjl).2 (.inl rfl))
    refine hP.got τ hr ?_
    have:=hT.back (τ:=τ) (q - (j+1)) (j+1) (by omega) fun i h1 h2 hir=>by
     have hi:i<ops.size:=by omega
     obtain⟨o,ho⟩:=hop i hi
     have hli:=(hqk i hi hir).2 (by omega)
     rcases(bT hjl).1 hli with hx|hx
     ·omega
     ·exact hbf' i o ho (hT.log j i _ (by omega) hr hir) hx
    rw[show j+1+(q - (j+1))=q from by omega]at this
    exact this hh
   ·refine hP.keep τ hr (fun h1 h2=>?_) (htk τ q hq (fun k hk hkr=>?_) hh)
    ·obtain⟨b,⟨t,k⟩,e⟩:=τ
     simp only at h1 h2
     subst h1
     exact hT.norow hq h2 hh
    rw[<-hqk k hk hkr,bT hjl]
    constructor
    ·exact .inr
    ·rintro(rfl|hx)
     ·exact absurd hkr hr
     ·exact hx
  ·intro k i B hk hb hnk
   have hkj:k≠j:=fun e=>by subst e;exact hnk ((bT hjl).2 (.inl rfl))
   obtain⟨u1,u2⟩:=hub k i B hk hb fun hx=>hnk ((bT hjl).2 (.inr hx))
   refine⟨?_,(hP.un _ u1).trans u2⟩
   rcases hbs' with rfl|⟨_,b,rfl⟩|⟨i',B',x,hb',rfl⟩
   ·exact u1
   ·rw[vak (by have:=(hbd _ _ _ hb).2;unfold pF;omega)];exact u1
   ·rw[vak (fun e=>by subst e;exact hkj (hT.binj _ _ _ _ _ hb hb'))];exact u1
 have hbi:∀i B,bid j=some (i,B)->bs[i]? =some none/\st.boxes[i]? =some B:=fun i B hb=>hub j i B hjs hb hnl
 have hid:ai oj.op=true->bs[pF ops base j]? =some none/\st.boxes[pF ops base j]? =gz P oj:=fun hmk=>hun j oj hoj hmk hnl
 have hdd:∀d,oj.dst=some d->d<st.tmps.length:=fun d hd=>by rw[hlen];exact hD.f1 j oj d hoj hd
 have run:df P E.GE (bid j) rw oj (pF ops base j) (T j) (T (j+1)) (R j)->oj.wp P a w (pR P E bid ops n base T R bs0 ds (listed.setIfInBounds j true)) Q:=by
  intro hs
  refine Oper.wp_mono (fun a' w' hA=>?_) (hs.sound hS hid hbi hopv hboxes htok hdd Q)
  obtain⟨hda,Γ',bs',ow',st',hS',hP,hb⟩:=hA
  exact fin (hda.trans hI.defers) hS' hP hb
 have skip:T (j+1)=lG (T j) oj.dst (.val undef) [] (T j).boxes->R j=mW oj->pR P E bid ops n base T R bs0 ds (listed.setIfInBounds j true) (a.put oj.dst undef) w:=by
  intro hT1 hR1
  refine fin ((aT _ _ _).trans hI.defers) (hS.putv_nil (.val undef) oj.dst rfl) ?_ (.inl rfl)
  rw[hT1,hR1]
  cases hd:oj.dst with
  |none=>exact⟨by rw[hd];exact⟨rfl,rfl⟩,fun _=>rfl,fun hc=>hboxes (by omega),fun τ _ _ h=>h,fun τ hr=>by simp[mW,hd]at hr,fun _ _=>rfl⟩
  |some d=>
   refine⟨by rw[hd];exact⟨_,rfl,rfl⟩,fun _=>rfl,fun hc=>hboxes (by omega),ui (L:=[]) (by simp[mW,hd]),?_,fun _ _=>rfl⟩
   intro τ hr hh
   exact yP (L:=[]) τ (by simpa[mW,hd]using hr) hh
 have hstep:=hT.step j oj hoj
 unfold wpOp
 rw[hoj]
 simp only
 unfold nx at hstep
 have hgo:(Region.wanted oj (yielded ops a.tmps)=true->oj.wp P a w (pR P E bid ops n base T R bs0 ds (listed.setIfInBounds j true)) Q)/\
   (¬Region.wanted oj (yielded ops a.tmps)=true->pR P E bid ops n base T R bs0 ds (listed.setIfInBounds j true) (a.put oj.dst undef) w):=by
  split at hstep
  ·rename_i hg
   exact⟨fun _=>run hstep,fun hn=>absurd (by simp[Region.wanted,hg]) hn⟩
  ·rename_i jg want hg
   obtain⟨x,hx,h1,h2⟩:=hstep
   have hx':ku ops st.tmps jg=some x:=by
    rw[<-hx]
    unfold ku
    cases hdg:(ops[jg]?).bind (·.dst)with
    |none=>rfl
    |some t=>
     have:t∈looks ops oj:=va0 _ (by rw[hg];simp[hdg])
     simp only[hlook t this]
   have hw:Region.wanted oj (yielded ops a.tmps)=(x==some want):=by simp[Region.wanted,hg,rY hS hx']
   rw[hw]
   refine⟨fun hy=>run (h1 (by simpa using hy)),fun hy=>?_⟩
   obtain⟨k1,k2⟩:=h2 (by simpa using hy)
   exact skip k1 k2
 by_cases hw:Region.wanted oj (yielded ops a.tmps)=true
 ·rw[vas hw];exact .inl (hgo.1 hw)
 ·rw[vav hw];exact hgo.2 hw
theorem y8(hD:ww P ops n){listed:Array Bool}(hs:listed.size=ops.size)(hr:Region.ready .any ops listed=[]):∀j,j<ops.size->aO listed j:=by
 intro j
 induction j using Nat.strongRecOn with
 | _ j ih =>
  intro hj
  by_cases hl:aO listed j
  ·exact hl
  ·exfalso
   have hoj:ops[j]? =some ops[j]:=by simp[hj]
   have:j∈Region.ready .any ops listed:=mem_ready.2 ⟨by
    unfold aO at hl
    have:j<listed.size:=by omega
    simp[this]at hl ⊢;exact hl,_,hoj,fun e he hb=>by
    have hlt:=hD.f2 j _ hoj e (by simpa using he) hb
    exact ih e.on hlt (by omega)⟩
   rw[hr]at this;cases this
theorem SR.rights{Γ:ax}{bs:aB}{ow:Nat->Option gY}{w:World}{a:Array Value}{st st2:aj}(h:SR P E Γ bs ow w a st)(h1:st2.tmps=st.tmps)(h2:st2.boxes.map aH=st.boxes.map aH)(h3:∀τ,gV st2 τ->gV st τ):SR P E Γ bs ow w a st2:=
 { h with
  sz:=by rw[h1];exact h.sz
  tm:=by rw[h1];exact h.tm
  bl:=by have:=vbh List.length h2;simp at this;rw[h.bl,this]
  bx:=fun i b B hb hB=>by
   have hg:=Ad h2 i
   rw[hB]at hg
   cases hB1:st.boxes[i]? with
   |none=>rw[hB1]at hg;cases hg
   | some B1 =>
    rw[hB1]at hg
    obtain⟨k1,k2,k3⟩:=h.bx i b B1 hb hB1
    refine⟨k1,k2,?_⟩
    cases B<;>cases B1<;>simp[aH]at hg
    ·subst hg;exact k3
    ·subst hg;exact k3
    ·trivial
  ot:=fun t k e he=>h.ot t k e (h3 (false,(t,k),e) he)
  ob:=fun i j e cs own b hB hj hb=>by
   obtain⟨cs',own',e1,e2⟩:=cz.1 (h3 (true,(i,j),e) ⟨cs,own,hB,hj⟩)
   exact h.ob i j e cs' own' b e1 e2 hb}
theorem z8(hD:ww P ops n)(hT:gu P E.GE bid rw ops n base T R)(hbase:bs0.length<=base)(hbd:∀(k i:Nat) B,bid k=some (i,B)->bs0.length<=i/\i<base){Q:Exit->Act->World->Prop}
  (hQ:∀a w,a.defers=ds->xo P E bs0 (T ops.size) a w->Q .normal a w):∀(fuel:Nat) (listed:Array Bool) (a:Act) (w:World),pR P E bid ops n base T R bs0 ds listed a w->mr ops.size listed<=fuel->wpAny P .any ops Q fuel listed a w:=by
 have hend:∀(listed:Array Bool) (a:Act) (w:World),pR P E bid ops n base T R bs0 ds listed a w->(∀j,j<ops.size->aO listed j)->Q .normal a w:=by
  intro listed a w hI hall
  obtain⟨Γ,bs,ow,st,hS,hK,hlen,ht1,ht2,⟨m,hm,hmw,hmb⟩,_,htk,_⟩:=hI.ex
  have e1:st.tmps=(T ops.size).tmps:=by
   apply va7
   intro t
   by_cases hex:∃(k:Nat) (o:Oper),ops[k]? =some o/\o.dst=some t
   ·obtain⟨k,o,ho,hd⟩:=hex
    exact ht1 k o t ho hd (hall k (vai.1 ho).1)
   ·rw[ht2 t fun k o ho _ hd=>hex ⟨k,o,ho,hd⟩]
    have:=hT.between (t:=t) ops.size 0 (by omega) fun k o _ _ ho hd=>hex ⟨k,o,ho,hd⟩
    rw[vaB]at this
    exact this.symm
  have e2:st.boxes.map aH=(T ops.size).boxes.map aH:=by
   rw[hmb]
   refine hT.boxes_eq hm (vam _) fun i o ho hco=>?_
   rw[<-hmw i o ho hco]
   have hi:=(vai.1 ho).1
   exact⟨fun _=>hi,fun _=>hall i hi⟩
  exact hQ a w hI.defers ⟨Γ,bs,ow,hS.rights e1.symm e2.symm fun τ hh=>htk τ ops.size (vam _) (fun k hk _=>⟨fun _=>hk,fun _=>hall k hk⟩) hh,hK⟩
 intro fuel
 induction fuel with
 | zero =>
  intro listed a w hI hu
  have hall:∀j,j<ops.size->aO listed j:=by
   intro j hj
   by_cases hl:aO listed j
   ·exact hl
   ·exfalso
    have:j∈(List.range ops.size).filter fun i=>!listed.getD i false:=by
     rw[vaQ,vbi]
     exact⟨hj,by unfold aO at hl;simpa using hl⟩
    have:=List.length_pos_of_mem this
    unfold mr at hu
    omega
  refine⟨?_,hend listed a w hI hall⟩
  rw[vbg]
  intro j hj
  obtain⟨h0,o,ho,_⟩:=mem_ready.1 hj
  have hlt:=(vai.1 ho).1
  have:=hall j hlt
  unfold aO at this
  have hls:j<listed.size:=by rw[hI.size];exact hlt
  simp[hls]at this h0
  rw[this]at h0;cases h0
 | succ fuel ih =>
  intro listed a w hI hu
  refine⟨fun hr=>hend listed a w hI (y8 hD hI.size hr),fun j hj=>?_⟩
  refine wpOp_mono (fun a' w' hI'=>ih _ a' w' hI' ?_) (yK hD hT hbase hbd hI hj Q)
  obtain⟨h0,o,ho,_⟩:=mem_ready.1 hj
  have hlt:=(vai.1 ho).1
  have hls:j<listed.size:=by rw[hI.size];exact hlt
  have:mr ops.size (listed.setIfInBounds j true)<mr ops.size listed:=by
   unfold mr
   refine xL (fun i hi=>?_) (vbi.2 hlt) ?_ ?_
   ·have hnl:¬aO (listed.setIfInBounds j true) i:=by unfold aO;simpa using hi
    have:¬aO listed i:=fun hx=>hnl ((bT hls).2 (.inr hx))
    unfold aO at this;simpa using this
   ·simp[hls]at h0;simp[hls,h0]
   ·simp[hls]
  omega
end
def vW(br:List (Nat×Nat))(H:List ah)(k:Nat):Option (Nat×ah):=match br.find? (fun x=>x.1==k)with
 |some x=>(H[x.2]?).map fun B=>(x.2,B)
 |none=>none
def CS(br:List (Nat×Nat))(lo n:Nat):Bool:=br.all (fun x=>decide (lo<=x.2)&&decide (x.2<lo+n))&&br.all fun x=>br.all fun y=>x.2 !=y.2||x.1==y.1
def Cy(rw:List Nat)(H:List ah):Bool:=rw.all fun i=>match H[i]? with
 |some (.cells _ [])=>true
 |_=>false
def um(rw:List Nat)(lg:List (List Rs)):Bool:=lg.all fun l=>l.all fun r=>!(r.1&&rw.contains r.2.1)
theorem oJ{br:List (Nat×Nat)}{H:List ah}{k i:Nat}{B:ah}(h:vW br H k=some (i,B)):(k,i)∈br/\H[i]? =some B:=by
 unfold vW at h
 split at h
 ·rename_i x hx
  obtain⟨B',h1,h2⟩:=bE h
  cases h2
  have h3:=vbE hx
  simp only[vaJ]at h3
  subst h3
  exact⟨vbc hx,h1⟩
 ·cases h
def w5(P:Program)(GE:List (Nat×List PVal))(ops:Array Oper)(an:List Nat)(X:List ah)(br:List (Nat×Nat))(rw:List Nat)(K:aj->Prop)(st:aj):Prop:=
 drawD P ops.toList st.tmps.length an=true/\(CS br st.boxes.length X.length&&Cy rw (st.boxes++X))=true/\
  eQ P GE (vW br (st.boxes++X)) rw ops (fun lg st'=>(Af an lg&&um rw lg)=true/\K st') ops.toList (st.boxes.length+X.length) [] {st with boxes:=st.boxes++X++bZ P ops.toList}
section
variable{P:Program}{E:kF}{w:World}{a:Act}{st:aj}
theorem qg{bs0:aB}{ops:Array Oper}{an:List Nat}{X:List ah}{br:List (Nat×Nat)}{rw:List Nat}{K:aj->Prop}{Q:Exit->Act->World->Prop}(hR:xo P E bs0 st a w)(hl:bs0.length<=st.boxes.length)
  (hQ:∀a' w' st',a'.defers=a.defers->xo P E bs0 st' a' w'->K st'->Q .normal a' w') (hp:w5 P E.GE ops an X br rw K st):wpAny P .any ops Q ops.size (Array.replicate ops.size false) a {w with drawn:=w.drawn+1}:=by
 obtain⟨hok,hbr,hp⟩:=hp
 rw[vac]at hbr
 obtain⟨hbr,hrow⟩:=hbr
 obtain⟨hD,han⟩:=tV hok
 obtain⟨T,R,t0,tl,⟨tlog,t1⟩,t2⟩:=pg ops.toList _ _ _ hp
 rw[vbF,vac]at tlog
 obtain⟨tlog,tlr⟩:=tlog
 obtain⟨Γ,bs,ow,h,hk⟩:=hR
 have hxl:(st.boxes++X).length=st.boxes.length+X.length:=by simp
 unfold CS at hbr
 simp only[vac,vao,vah,vaO,bne_iff_ne,ne_eq,vaJ]at hbr
 have hT:gu P E.GE (vW br (st.boxes++X)) rw ops st.tmps.length (st.boxes.length+X.length) T (fun k=>R.getD k []):={
  len:=by rw[t0]
  step:=fun k o ho=>by have:=t2 k o (by simpa using ho);simpa using this
  log:=fun i j r hij hi hj=>by unfold bf;rw[han];exact Ag tlog hij hi hj
  row0:=fun i hi k e hh=>by
   rw[t0]at hh
   obtain⟨cs,own,e1,e2⟩:=cz.1 hh
   have hri:=vao.1 hrow i hi
   split at hri
   ·rename_i cs' heq
    simp only at e1
    rw[vad (aa heq),heq]at e1
    cases e1;cases e2
   ·cases hri
  rowl:=fun j hj i hi k hr=>by
   unfold um at tlr
   simp only[vao]at tlr
   have hjl:j<R.length:=by rw[tl];simpa using hj
   have hm:R.getD j []∈R:=by
    rw[vaj,vaa hjl];exact vbr hjl
   have:=tlr _ hm _ hr
   simp[hi]at this
  binj:=fun j k i B B' h1 h2=>by
   have m1:=(oJ h1).1
   have m2:=(oJ h2).1
   rcases hbr.2 _ m1 _ m2 with hx|hx
   ·exact absurd rfl hx
   ·exact hx}
 have hbd:∀(k i:Nat) B,vW br (st.boxes++X) k=some (i,B)->bs0.length<=i/\i<st.boxes.length+X.length:=fun k i B hb=>by
  have:=hbr.1 _ (oJ hb).1
  simp only at this
  omega
 have hS0:=(h.drew).extend X
 have hS:=hS0.extend (bZ P ops.toList)
 refine z8 hD hT (by omega) hbd (ds:=a.defers) (fun a' w' hd hR'=>hQ a' w' _ hd hR' (by simpa using t1)) ops.size _ a _ ?_ ?_
 ·refine⟨by simp,rfl,fun j o ho hj=>?_,Γ,_,ow,_,hS,fun i hi=>?_,rfl,fun k o d ho hd hk'=>?_,fun t _=>by rw[t0],⟨0,vaF _,fun i o ho hc=>?_,by rw[t0]⟩,fun i o ho hm _=>?_,fun τ m hm hmk hh=>?_,fun k i B _ hb _=>?_⟩
  ·unfold aO at hj
   rw[ji]at hj;cases hj
  ·rw[vad (by rw[vaM,h.bl];omega),vad (by rw[h.bl];omega)];exact hk i hi
  ·unfold aO at hk'
   rw[ji]at hk';cases hk'
  ·unfold aO
   rw[ji]
   constructor
   ·intro hx;cases hx
   ·intro hx;exact absurd hx (vaY _)
  ·have hl':ops.toList[i]? =some o:=by simpa using ho
   have hget:=qF (P:=P) ops.toList i o hl' hm
   have hlt:aD (ops.toList.take i)<(bZ P ops.toList).length:=by
    have:∃B,gz P o=some B:=by cases hx:o.op<;>simp[ai,hx]at hm<;>exact⟨_,by simp[gz,hx];rfl⟩
    obtain⟨B,hB⟩:=this
    rw[hB]at hget
    exact aa hget
   have hbl2:(bs++List.replicate X.length none).length=st.boxes.length+X.length:=by simp[h.bl]
   unfold pF
   refine⟨?_,?_⟩
   ·rw[vaf (by rw[hbl2];omega),vaN,vas (by rw[hbl2];omega)]
   ·show(st.boxes++X++bZ P ops.toList)[_]? =_
    rw[vaf (by omega),hxl,vcc]
    exact hget
  ·have:=hT.back (τ:=τ) m 0 (by omega) fun i h1 h2 hir=>by
    have:=(hmk i (by omega) hir).2 (by omega)
    unfold aO at this
    rw[ji]at this;cases this
   rw[vaB,t0]at this
   exact this hh
  ·obtain⟨m1,m2⟩:=oJ hb
   have:=hbr.1 _ m1
   simp only at this
   have hbl2:(bs++List.replicate X.length none).length=st.boxes.length+X.length:=by simp[h.bl]
   refine⟨?_,?_⟩
   ·rw[vad (by omega),vaf (by rw[h.bl];omega),vaN,vas (by rw[h.bl];omega)]
   ·show(st.boxes++X++bZ P ops.toList)[_]? =_
    rw[vad (by omega)];exact m2
 ·unfold mr
  have:=List.length_filter_le (fun i=>!(Array.replicate ops.size false).getD i false) (List.range ops.size)
  simpa using this
end
def Bw(P:Program)(op:Op):Bool:=!wb op&&!ai op&&aJ P op !=3
def jh(P:Program)(GE:List (Nat×List PVal))(o:Oper)(sc:List It)(st:aj)(K:List It->List Rs->aj->Prop):Prop:=
 match o.dst with
 |some d=>match Bw P o.op with
  |true=>zt P GE o.op st.tmps st.boxes sc fun p _ sc'=>cC st.tmps d p fun tm=>ay (aF d st.own) fun ow=>K sc' [(false,d,0)] ⟨tm,st.boxes,ow⟩
  |false=>False
 |none=>False
def g9(st:aj)(d:Nat)(p:PVal)(L:List (Nat×TypeId))(sc:List It)(K:List It->List Rs->aj->Prop):Prop:=
 cC st.tmps d p fun tm=>ay ((L.map fun x=>((d,x.1),x.2))++aF d st.own) fun ow=>K sc [(false,d,0)] ⟨tm,st.boxes,ow⟩
def pk (P:Program) (GE:List (Nat×List PVal)) (T:TypeId) (x:Operand) (vt:PVal) (vs:List PVal) (own:Option (Nat×List (Nat×TypeId))) (sc:List It) (st:aj) (K:List It→List Rs→aj→Prop):Prop :=
 gW GE st.tmps x fun vx=>match vx with
 | .bptr i off => bw vt = some vs∧fg st.boxes i fun B => match B with
  | .cells cs ow => match decide (vs.length = P.cellsOf T) && (P.info? T).isSome && decide (off + vs.length ≤ cs.length) && vs.all PVal.one with
   | true => ay (cs.take off ++ vs ++ cs.drop (off + vs.length)) fun cs' => ay (mQ i off vs.length) fun rg => match own with
    |none=>ay (ow.filter fun y=>y.1<off||off+vs.length<=y.1) fun ow'=>cC st.boxes i (.cells cs' ow') fun H=>K sc rg ⟨st.tmps,H,st.own⟩
    |some (t,L)=>match kq (L.map (·.1))&&L.all (fun y=>decide (y.1<vs.length))with
     | true => ay ((L.map fun y => (off + y.1,y.2)).reverse ++ ow.filter fun y => y.1 < off || off + vs.length ≤ y.1) fun ow' => cC st.boxes i (.cells cs' ow') fun H =>
       ay (st.own.filter fun x=>!L.any fun y=>x.1==(t,y.1)) fun so=>K sc ((false,t,0)::rg) ⟨st.tmps,H,so⟩
     |false=>False
   |false=>False
  |_=>False
 |_=>False
def D0(L:List (Nat×TypeId)):Bool:=match L with
 |[(0,_)]=>true
 |_=>false
def zr(P:Program)(GE:List (Nat×List PVal))(rw:List Nat)(T:TypeId)(x:Operand)(vt:PVal)(cs':List PVal)(sc:List It)(st:aj)(K:List It->List Rs->aj->Prop):Prop:=
 gW GE st.tmps x fun vx=>match vx with
 | .bptr i off => match rw.contains i with
  |true=>fg st.boxes i fun B=>match B with
   |.cells cs []=>bq P T (.bptr 0 off) vt [.cells cs []]=some [.cells cs' []]/\cC st.boxes i (.cells cs' []) fun H=>K sc [] ⟨st.tmps,H,st.own⟩
   |_=>False
  |false=>False
 |_=>False
def te (P:Program) (GE:List (Nat×List PVal)) (A:List Nat) (bi:Option (Nat×ah)) (rw:List Nat) (o:Oper) (id:Nat) (sc:List It) (st:aj) (K:List It→List Rs→aj→Prop):Prop :=
 match o.op,o.dst with
 | .call { callee := .value f,args,.. },some d => match sc with
  |.c r ro::sc'=>gW GE st.tmps f fun vf=>match vf with
   |.func (.func g) first cap=>vL GE st.tmps args.toList fun as=>CC P GE g (first++as++cap) r ro/\g9 st d r ro sc' K
   |_=>False
  | .cg c :: sc' => match c.ρ with
   | [] => kX P GE f args.toList c st fun _ => cC st.tmps d c.r fun tm => ay ((c.ro.map fun x => ((d,x.1),x.2)) ++ aF d (st.own.filter fun z => !c.oa.any fun x => z.1 == (x.t,x.k))) fun ow =>
     ay ((false,d,0)::c.oa.map fun x=>(false,x.t,0)) fun rs=>K sc' rs ⟨tm,st.boxes,ow⟩
   |_=>False
  | .ar i e n _ :: sc' => match bi,args with
   |some (j,.cells cs0 []),⟨[x]⟩=>gW GE st.tmps f fun vf=>gW GE st.tmps x fun vx=>match vf,vx,i==j with
    | .func (.func g) [] [],.slice ns,true => j6 P g e∧(0 < P.cellsOf e∧(∀ x ∈ ns,x.length = P.cellsOf e∧∀ q ∈ x,q.one = true)∧ns.length ≤ dB)∧(n = ns.length∧cs0 = ns.flatten) ∧
      cC st.tmps d (.bsl i 0 n) fun tm=>ay (aF d st.own) fun ow=>K sc' [(false,d,0)] ⟨tm,st.boxes,ow⟩
    |_,_,_=>False
   |_,_=>False
  |_=>False
 |.alloc t,some d=>match(eS P t).isSome with
  |true=>g9 st d (.bptr id 0) [] sc K
  |false=>False
 |.makeMap _ none,some d=>g9 st d (.mapr id) [] sc K
 |.buildSlice T len parts,some d=>lF GE st.tmps parts.toList fun ps=>match sc,P.underlying T with
  |.v p::sc',some (.slice e)=>cp P T len ps=some p/\g9 st d p [(0,e)] sc' K
  |_,_=>False
 | .build T parts,some d => match sc with
  |.b p L::sc'=>lF GE st.tmps parts.toList fun ps=>ec P T ps=some p/\xa P T ps L/\g9 st d p L sc' K
  | .ar t k _ _ :: .v p :: sc' => match decide (d ≠ t) && (parts.toList.any fun x => pG t x.2) with
   |true=>lB st.tmps t fun vt=>match vt with
    | .slice _ => lF GE st.tmps parts.toList fun ps => ec P T ps = some p∧ER P T (yi GE st.tmps parts.toList t) k ∧
      cC st.tmps d p fun tm=>ay (dP d (fun x=>if x=(t,0)then(d,k)else x) st.own) fun ow=>K sc' [(false,d,0),(false,t,0)] ⟨tm,st.boxes,ow⟩
    |_=>False
   |false=>False
  |_=>jh P GE o sc st K
 |.assign (.const v),some d=>match jW P o.type v with
  |some e=>g9 st d (.slice []) [(0,e)] sc K
  |none=>jh P GE o sc st K
 |.move (.const v),some d=>match jW P o.type v with
  |some e=>g9 st d (.slice []) [(0,e)] sc K
  |none=>jh P GE o sc st K
 |.assign (.tmp t),some d=>match decide (d≠t)with
  |true=>lB st.tmps t fun p=>cC st.tmps d p fun tm=>ay (dP d (fun x=>if x.1=t then(d,x.2)else x) st.own) fun ow=>K sc [(false,d,0),(false,t,0)] ⟨tm,st.boxes,ow⟩
  |false=>False
 |.move (.tmp t),some d=>match decide (d∈A)&&decide (d≠t)with
  |true=>lB st.tmps t fun p=>cC st.tmps d p fun tm=>ay (dP d (fun x=>if x.1=t then(d,x.2)else x) st.own) fun ow=>K sc [(false,d,0),(false,t,0)] ⟨tm,st.boxes,ow⟩
  |false=>jh P GE o sc st K
 | .call { callee := .builtin .append,args:=⟨[.tmp t,y]⟩,argTypes:=⟨[T,T']⟩ },some d => lB st.tmps t fun ve => gW GE st.tmps y fun vn => match ve,vn,sc,P.underlying T with
  |.slice es,.slice ns,.v p::sc',some (.slice e)=>match decide (T=T')&&decide (((t,0),e)∈st.own)with
   |true=>fG P T es ns=some p/\cC st.tmps d p fun tm=>ay (((d,0),e)::aF d (st.own.filter fun x=>x.1 !=(t,0))) fun ow=>K sc' [(false,d,0),(false,t,0)] ⟨tm,st.boxes,ow⟩
   |false=>False
  |_,_,_,_=>False
 | .load T x,some d => match sc,P.underlying T,decide (d ∈ A) with
  | .z l :: sc',some (.struct _),_ => gW GE st.tmps x fun vx => match vx with
   | .bptr i off => fg st.boxes i fun B => match B with
    | .cells cs own => be P T (cs.drop off) = some (.agg l)∧ay (zJ off (P.cellsOf T) own) fun L => match kq (L.map (·.1)) with
     | true => cC st.tmps d (.agg l) fun tm => ay (own.filter fun x => !L.any fun y => x.1 == off + y.1) fun own' => cC st.boxes i (.cells cs own') fun H =>
       ay ((L.map fun y=>((d,y.1),y.2)).reverse++aF d st.own) fun ow=>ay ((false,d,0)::L.map fun y=>(true,i,off+y.1)) fun rs=>K sc' rs ⟨tm,H,ow⟩
     |false=>False
    |_=>False
   |_=>False
  | _,some (.slice e),true => gW GE st.tmps x fun vx => match vx with
   | .bptr i off => fg st.boxes i fun B => match B with
    | .cells cs own => match decide ((off,e) ∈ own) && decide (off < cs.length) with
     | true => lB cs off fun p => cC st.tmps d p fun tm => ay (own.filter fun x => !([((0:Nat),e)].any fun y => x.1 == off + y.1)) fun own' => cC st.boxes i (.cells cs own') fun H =>
       ay (([((0:Nat),e)].map fun y=>((d,y.1),y.2)).reverse++aF d st.own) fun ow=>ay ((false,d,0)::[((0:Nat),e)].map fun y=>(true,i,off+y.1)) fun rs=>K sc rs ⟨tm,H,ow⟩
     |false=>False
    |_=>False
   |_=>False
  |_,_,_=>jh P GE o sc st K
 | .store T x (.tmp t),none => lB st.tmps t fun vt => match sc with
  |.y vs::sc'=>ay (wh t st.own) fun L=>match vt with
   |.agg l=>pk P GE T x (.agg l) vs (some (t,L)) sc' st K
   |_=>False
  | .s :: sc' => match vt.one with
   |true=>ay (wh t st.own) fun L=>match D0 L with
    |true=>pk P GE T x vt [vt] (some (t,L)) sc' st K
    |false=>pk P GE T x vt [vt] none sc' st K
   |false=>False
  |.x vs::sc'=>pk P GE T x vt vs none sc' st K
  |.w _ (.cells cs' [])::sc'=>zr P GE rw T x vt cs' sc' st K
  |_=>False
 | .store T x y,none => gW GE st.tmps y fun vt => match sc with
  |.s::sc'=>match vt.one with
   |true=>pk P GE T x vt [vt] none sc' st K
   |false=>False
  |.x vs::sc'=>pk P GE T x vt vs none sc' st K
  |.w _ (.cells cs' [])::sc'=>zr P GE rw T x vt cs' sc' st K
  |_=>False
 | .mapUpdate t m k x,none => gW GE st.tmps m fun vm => gW GE st.tmps k fun vk => gW GE st.tmps x fun vx => match vm,sc with
  |.mapr i,.w _ (.map es')::sc'=>fg st.boxes i fun B=>match B with
   |.map es=>wl P t es vk vx=some es'/\cC st.boxes i (.map es') fun H=>K sc' [] ⟨st.tmps,H,st.own⟩
   |_=>False
  |_,_=>False
 |_,_=>jh P GE o sc st K
def pE(P:Program)(GE:List (Nat×List PVal))(bid:Nat->Option (Nat×ah))(rw:List Nat)(A:List Nat)(ops:Array Oper)(an:List Nat)(K:List It->aj->Prop):List Oper->Nat->Nat->List It->List (List Rs)->aj->Prop
 |[],_,_,sc,lg,st=>match Af an lg&&um rw lg with
  |true=>K sc st
  |false=>False
 | o :: rest,pos,id,sc,lg,st =>
  let step (sc:List It) (st:aj):Prop:=te P GE A (bid lg.length) rw o id sc st fun sc' rs st'=>ay (lg++[rs]) fun lg'=>pE P GE bid rw A ops an K rest (pos+1) (id+if ai o.op then 1 else 0) sc' lg' st'
  match o.guard with
  |none=>step sc st
  |some (j,want)=>td ops j want pos sc st fun b sc' st'=>match b with
   |true=>step sc' st'
   |false=>vP st' o.dst (.val undef) [] st'.boxes fun st''=>ay (lg++[mW o]) fun lg'=>pE P GE bid rw A ops an K rest (pos+1) (id+if ai o.op then 1 else 0) sc' lg' st''
section
variable{P:Program}{GE:List (Nat×List PVal)}{A:List Nat}{ops:Array Oper}
theorem dM{bi:Option (Nat×ah)}{rw:List Nat}{o:Oper}{id:Nat}{sc:List It}{st:aj}{K:List It->List Rs->aj->Prop}(h:jh P GE o sc st K):∃s' rs,df P GE bi rw o id st s' rs/\∃sc',K sc' rs s':=by
 unfold jh at h
 split at h
 ·rename_i d hd
  split at h
  ·rename_i hp
   unfold Bw at hp
   simp only[vac,vaK,bne_iff_ne,ne_eq]at hp
   obtain⟨⟨p1,p2⟩,p3⟩:=hp
   obtain⟨p,H',sc',k1,k2,_⟩:=rO (id:=id) h
   simp only[az,al]at k2
   have:=An p3 p2 k1
   subst this
   exact⟨_,_,.ev d p hd p1 p2 p3 k1,sc',k2⟩
  ·exact h.elim
 ·exact h.elim
theorem kZ{bi:Option (Nat×ah)}{rw:List Nat}{o:Oper}{id:Nat}{T:TypeId}{x y:Operand}{vs:List PVal}{sc:List It}{st:aj}{K:List It->List Rs->aj->Prop}(ho:o.op=.store T x y)(hd:o.dst=none)(h:pk P GE T x (opv GE st.tmps y) vs none sc st K):∃s' rs,df P GE bi rw o id st s' rs/\∃sc',K sc' rs s':=by
 unfold pk at h
 rw[aG]at h
 split at h
 ·rename_i i off hx
  obtain⟨hvs,h⟩:=h
  obtain⟨B,hB,h⟩:=bD h
  split at h
  ·rename_i cs own
   split at h
   ·rename_i hc
    simp only[al,az]at h
    simp only[vac,vah]at hc
    exact⟨_,_,.st T x y i off vs cs own hd ho hx hvs hB (by simp only[bq,hvs,hB];rw[vas ⟨hc.1.1.1,hc.1.1.2,hc.1.2,hc.2⟩]),sc,h⟩
   ·exact h.elim
  ·exact h.elim
 ·exact h.elim
theorem qk{bi:Option (Nat×ah)}{rw:List Nat}{o:Oper}{id:Nat}{T:TypeId}{x:Operand}{t:Nat}{vt:PVal}{vs:List PVal}{L:List (Nat×TypeId)}{sc:List It}{st:aj}{K:List It->List Rs->aj->Prop}(ho:o.op=.store T x (.tmp t))(hd:o.dst=none)
  (hvt:st.tmps.getD t .undef=vt) (hk:(∃l,vt=.agg l)\/(vt.one=true/\∃e,L=[(0,e)])) (hm:∀y∈L,((t,y.1),y.2)∈st.own) (h:pk P GE T x vt vs (some (t,L)) sc st K):
  ∃s' rs,df P GE bi rw o id st s' rs/\∃sc',K sc' rs s':=by
 subst hvt
 unfold pk at h
 rw[aG]at h
 split at h
 ·rename_i i off hx
  obtain⟨hvs,h⟩:=h
  obtain⟨B,hB,h⟩:=bD h
  split at h
  ·rename_i cs own
   split at h
   ·rename_i hc
    simp only[al]at h
    split at h
    ·rename_i hl
     simp only[az]at h
     simp only[vac,vah,vao]at hc hl
     exact⟨_,_,.sto T x t i off vs cs own L hd ho hx hvs hB (by simp only[bq,hvs,hB];rw[vas ⟨hc.1.1.1,hc.1.1.2,hc.1.2,vao.2 hc.2⟩]) hk hm (gJ hl.1) (fun y hy=>by simpa using hl.2 y hy),sc,h⟩
    ·exact h.elim
   ·exact h.elim
  ·exact h.elim
 ·exact h.elim
theorem rN{bi:Option (Nat×ah)}{rw:List Nat}{o:Oper}{id:Nat}{T:TypeId}{x y:Operand}{cs':List PVal}{sc:List It}{st:aj}{K:List It->List Rs->aj->Prop}(ho:o.op=.store T x y)(hd:o.dst=none)(h:zr P GE rw T x (opv GE st.tmps y) cs' sc st K):∃s' rs,df P GE bi rw o id st s' rs/\∃sc',K sc' rs s':=by
 unfold zr at h
 rw[aG]at h
 split at h
 ·rename_i i off hx
  split at h
  ·rename_i hi
   obtain⟨B,hB,h⟩:=bD h
   split at h
   ·rename_i cs
    obtain⟨h1,h2⟩:=h
    rw[az]at h2
    exact⟨_,_,.stR T x y i off cs cs' hd ho hx hB h1 (by simpa using hi),sc,h2⟩
   ·exact h.elim
  ·exact h.elim
 ·exact h.elim
theorem Aj{n:Nat}{args:List Operand}{own own':List ((Nat×Nat)×TypeId)}{oa:List OA}(h:Ai n args own oa=true)(hs:∀x∈oa,((x.t,x.k),x.e)∈own->((x.t,x.k),x.e)∈own'):Ai n args own' oa=true:=by
 unfold Ai at h ⊢
 rw[vac]at h ⊢
 refine⟨vao.2 fun x hx=>?_,h.2⟩
 have:=vao.1 h.1 x hx
 simp only[vac,vaO,vah]at this ⊢
 exact⟨this.1,this.2.imp_right fun⟨k1,k2⟩=>⟨hs x hx k1,k2⟩⟩
theorem tX{f:Operand}{args:List Operand}{c:GC}{s:aj}{K:List ah->Prop}(hρ:c.ρ=[])(h:kX P GE f args c s K):K s.boxes/\∀st:aj,(∀x,x=f\/x∈args->opv GE s.tmps x=opv GE st.tmps x)->(∀x∈c.oa,((x.t,x.k),x.e)∈s.own->((x.t,x.k),x.e)∈st.own)->xq P GE f args st c.r c.ro st.boxes c.oa:=by
 have h0:=h
 unfold kX at h
 rw[aG]at h
 split at h
 ·rename_i g first cap hf
  rw[jX]at h
  split at h
  ·rename_i hb
   obtain⟨h1,h2,h3,h4,h5,h6⟩:=h
   rw[oW]at h6
   have hs:∀(H:List ah),oo H c.ρ c.Bs'=H:=fun H=>by rw[hρ];cases c.Bs'<;>rfl
   rw[hs]at h6
   refine⟨h6,fun st ho how=>?_⟩
   have key:kX P GE f args c st (fun H=>H=st.boxes):=by
    unfold kX
    rw[aG,<-ho f (.inl rfl),hf]
    simp only
    rw[jX,show args.map (opv GE st.tmps)=args.map (opv GE s.tmps)from vaZ fun x hx=>(ho x (.inr hx)).symm]
    have hb2:(kq c.ρ&&Ai first.length args st.own c.oa&&c.Bs.all zG&&decide (c.Bs'.length=c.ρ.length))=true:=by
     simp only[vac]at hb ⊢
     exact⟨⟨⟨hb.1.1.1,Aj hb.1.1.2 how⟩,hb.1.2⟩,hb.2⟩
    rw[hb2]
    simp only
    refine⟨h1,h2,?_,h4,h5,?_⟩
    ·rw[hρ]at h3 ⊢
     cases hBs:c.Bs<;>cases hHc:c.Hc<;>rw[hBs,hHc]at h3<;>first|exact h3.elim|trivial
    ·rw[oW,hs]
   obtain⟨H',k1,rfl⟩:=ph key
   exact k1
  ·exact h.elim
 ·exact h.elim
theorem vB{bi:Option (Nat×ah)}{rw:List Nat}{o:Oper}{id:Nat}{sc:List It}{st:aj}{K:List It->List Rs->aj->Prop}(h:te P GE A bi rw o id sc st K):∃s' rs,df P GE bi rw o id st s' rs/\∃sc',K sc' rs s':=by
 unfold te at h
 split at h
 ·rename_i f args tys d ho hd
  split at h
  ·rename_i r ro sc'
   rw[aG]at h
   split at h
   ·rename_i g first cap hf
    rw[jX]at h
    obtain⟨⟨h1,h2⟩,h3⟩:=h
    simp only[g9,az,al]at h3
    exact⟨_,_,.call d f args tys g first cap r ro ho hd hf h1 h2,sc',h3⟩
   ·exact h.elim
  ·rename_i c sc'
   split at h
   ·rename_i hρ
    obtain⟨h1,h2⟩:=tX hρ h
    simp only[az,al]at h1
    exact⟨_,_,.callR d f args tys c.r c.ro c.oa ho hd h2,sc',h1⟩
   ·exact h.elim
  ·rename_i i e n cs sc'
   split at h
   ·rename_i j cs0 x
    simp only[aG]at h
    split at h
    ·rename_i g ns hf hx hij
     simp only[vaJ]at hij
     subst hij
     obtain⟨h1,⟨h2,h3,h4⟩,⟨rfl,rfl⟩,h5⟩:=h
     simp only[az,al]at h5
     exact⟨_,_,.cl d i f x tys g e ns ho hd rfl hf hx h1 h2 h3 h4,sc',h5⟩
    ·exact h.elim
   ·exact h.elim
  ·exact h.elim
 ·rename_i t d ho hd
  split at h
  ·rename_i hz
   obtain⟨zs,hz⟩:=vax.1 hz
   simp only[g9,az,al]at h
   exact⟨_,_,.alloc d t zs ho hd hz,sc,h⟩
  ·exact h.elim
 ·rename_i t d ho hd
  simp only[g9,az,al]at h
  exact⟨_,_,.mkmap d t ho hd,sc,h⟩
 ·rename_i T len parts d ho hd
  rw[gK]at h
  split at h
  ·rename_i p sc' e hu
   obtain⟨h1,h2⟩:=h
   simp only[g9,az,al]at h2
   exact⟨_,_,.res d p [(0,e)] hd (.inl ⟨T,len,parts,e,ho,h1,hu,rfl⟩),sc',h2⟩
  ·exact h.elim
 ·rename_i T parts d ho hd
  split at h
  ·rename_i p L sc'
   rw[gK]at h
   obtain⟨h1,h2,h3⟩:=h
   simp only[g9,az,al]at h3
   exact⟨_,_,.res d p L hd (.inr (.inl ⟨T,parts,ho,h1,h2⟩)),sc',h3⟩
  ·rename_i t k _ _ p sc'
   split at h
   ·rename_i hc
    rw[dt]at h
    split at h
    ·rename_i es hes
     rw[gK]at h
     obtain⟨h1,h2,h3⟩:=h
     simp only[az,al]at h3
     simp only[vac,vah]at hc
     exact⟨_,_,.bmv d t k T parts p es hd ho hc.1 hes hc.2 h1 h2,sc',h3⟩
    ·exact h.elim
   ·exact h.elim
  ·exact dM h
 ·rename_i v d ho hd
  split at h
  ·rename_i e he
   simp only[g9,az,al]at h
   exact⟨_,_,.res d (.slice []) [(0,e)] hd (.inr (.inr ⟨v,e,.inl ho,he,rfl,rfl⟩)),sc,h⟩
  ·exact dM h
 ·rename_i v d ho hd
  split at h
  ·rename_i e he
   simp only[g9,az,al]at h
   exact⟨_,_,.res d (.slice []) [(0,e)] hd (.inr (.inr ⟨v,e,.inr ho,he,rfl,rfl⟩)),sc,h⟩
  ·exact dM h
 ·rename_i t d ho hd
  split at h
  ·rename_i hdt
   simp only[dt,az,al]at h
   exact⟨_,_,.mv d t hd (.inl ho) (by simpa using hdt),sc,h⟩
  ·exact h.elim
 ·rename_i t d ho hd
  split at h
  ·rename_i hdt
   simp only[vac,vah]at hdt
   simp only[dt,az,al]at h
   exact⟨_,_,.mv d t hd (.inr ho) hdt.2,sc,h⟩
  ·exact dM h
 ·rename_i t y T T' d ho hd
  rw[dt,aG]at h
  split at h
  ·rename_i es ns p sc' e he hn hu
   split at h
   ·rename_i hc
    simp only[vac,vah]at hc
    obtain⟨rfl,hm⟩:=hc
    obtain⟨h1,h2⟩:=h
    simp only[az,al]at h2
    exact⟨_,_,.app d t T e y es ns p hd ho hu he hn h1 hm,sc',h2⟩
   ·exact h.elim
  ·exact h.elim
 ·rename_i T x d ho hd
  split at h
  ·rename_i l sc' fs hu
   rw[aG]at h
   split at h
   ·rename_i i off hx
    obtain⟨B,hB,h⟩:=bD h
    split at h
    ·rename_i cs own
     obtain⟨h1,h2⟩:=h
     rw[al]at h2
     split at h2
     ·rename_i hn
      simp only[az,al]at h2
      have hlen:l.length=P.cellsOf T:=by
       have hp:=h1
       unfold be at hp
       rw[hu]at hp
       simp only at hp
       split at hp
       ·rename_i hh;cases hp;rw[va4];omega
       ·cases hp
      exact⟨_,_,.ld d T x i off cs own _ (.agg l) hd ho hx hB (.inr ⟨fs,l,hu,h1,rfl,gJ hn,fun y hy=>by rw[hlen];exact(oQ hy).2⟩) (fun y hy=>(oQ hy).1),sc',h2⟩
     ·exact h2.elim
    ·exact h.elim
   ·exact h.elim
  ·rename_i e hu _
   rw[aG]at h
   split at h
   ·rename_i i off hx
    obtain⟨B,hB,h⟩:=bD h
    split at h
    ·rename_i cs own
     split at h
     ·rename_i hc
      simp only[vac,vah]at hc
      simp only[dt,az,al]at h
      have hget:cs[off]? =some (cs.getD off .undef):=by
       rw[vaj,vaa hc.2];rfl
      refine⟨_,_,.ld d T x i off cs own [(0,e)] (cs.getD off .undef) hd ho hx hB (.inl ⟨e,hu,hget,rfl⟩) (fun y hy=>?_),_,h⟩
      rw[List.mem_singleton.1 hy];exact hc.1
     ·exact h.elim
    ·exact h.elim
   ·exact h.elim
  ·exact dM h
 ·rename_i T x t ho hd
  rw[dt]at h
  split at h
  ·rename_i vs sc'
   rw[al]at h
   split at h
   ·rename_i l hl
    exact qk ho hd hl (.inl ⟨l,rfl⟩) (fun y hy=>rv hy) h
   ·exact h.elim
  ·rename_i sc'
   split at h
   ·rename_i hone
    rw[al]at h
    split at h
    ·rename_i hL
     refine qk ho hd rfl (.inr ⟨hone,?_⟩) (fun y hy=>rv hy) h
     unfold D0 at hL
     split at hL
     ·rename_i e heq;exact⟨e,heq⟩
     ·cases hL
    ·exact kZ ho hd h
   ·exact h.elim
  ·exact kZ ho hd h
  ·exact rN ho hd h
  ·exact h.elim
 ·rename_i T x y _ ho hd
  rw[aG]at h
  split at h
  ·split at h
   ·exact kZ ho hd h
   ·exact h.elim
  ·exact kZ ho hd h
  ·exact rN ho hd h
  ·exact h.elim
 ·rename_i t m k x ho hd
  simp only[aG]at h
  split at h
  ·rename_i i j es' sc' hv
   obtain⟨B,hB,h⟩:=bD h
   split at h
   ·rename_i es
    obtain⟨h1,h2⟩:=h
    rw[az]at h2
    exact⟨_,_,.mu t m k x _ hd ho (by rw[hv];exact yg hB h1),sc',h2⟩
   ·exact h.elim
  ·exact h.elim
 ·exact dM h
theorem jU{bid:Nat->Option (Nat×ah)}{rw:List Nat}{an:List Nat}{K:List It->aj->Prop}:∀(rest:List Oper) (pos id:Nat) (sc:List It) (lg:List (List Rs)) (st:aj),pE P GE bid rw A ops an K rest pos id sc lg st->
  eQ P GE bid rw ops (fun lg st'=>(Af an lg&&um rw lg)=true/\∃sc,K sc st') rest id lg st
 | [],_,_,sc,lg,st,h => by
  simp only[pE]at h
  split at h
  ·rename_i hl;exact⟨hl,sc,h⟩
  ·exact h.elim
 | o :: rest,pos,id,sc,lg,st,h => by
  simp only[pE]at h
  have step:∀sc st,te P GE A (bid lg.length) rw o id sc st (fun sc' rs st'=>ay (lg++[rs]) fun lg'=>pE P GE bid rw A ops an K rest (pos+1) (id+if ai o.op then 1 else 0) sc' lg' st')->
    ∃s' rs,df P GE (bid lg.length) rw o id st s' rs/\eQ P GE bid rw ops (fun lg st'=>(Af an lg&&um rw lg)=true/\∃sc,K sc st') rest (id+if ai o.op then 1 else 0) (lg++[rs]) s':=by
   intro sc st hs
   obtain⟨s',rs,h1,sc',h2⟩:=vB (id:=id) hs
   rw[al]at h2
   exact⟨s',rs,h1,jU rest _ _ sc' _ s' h2⟩
  unfold eQ
  split at h
  ·rename_i hg;try simp only[hg]
   exact step _ _ h
  ·rename_i j want hg
   obtain⟨x,hx,hc⟩:=pj h
   simp only[hg,hx]
   rcases hc with⟨rfl,sc',hc⟩|⟨hne,sc',hc⟩
   ·exact⟨fun _=>step _ _ hc,fun hn=>absurd rfl hn⟩
   ·refine⟨fun he=>absurd he hne,fun _=>?_⟩
    simp only[jY,al]at hc
    exact jU rest _ _ sc' _ _ hc
theorem aE.drawD{m:Nat}(hf:P.follows .mixedOrders=true){id:Nat}{an:List Nat}{X:List ah}{br:List (Nat×Nat)}{rw:List Nat}{Q:Exit->aj->Prop}{st:aj}(hnd:ops.toList.all du=true)(h:w5 P GE ops an X br rw (Q .normal) st):aE P GE m (.region id ops true) Q st:=by
 intro ro E bs0 a w hE hb hR
 obtain⟨rfl,_,_,_⟩:=hE
 refine jf (nV (Q:=fun e a' w'=>e=.normal/\tk P E bs0 a.defers Q .normal a' w') hf hnd (by rintro⟨_,_,h,_⟩;cases h) ?_) fun e a' w' hq=>by obtain⟨rfl,hq⟩:=hq;exact hq
 exact qg hR hR.len (fun a' w' st' hd hR' hK=>⟨rfl,hd,st',hR',hK⟩) h
def pD(P:Program)(GE:List (Nat×List PVal))(A:List Nat)(ops:Array Oper)(an:List Nat)(X:List ah)(br:List (Nat×Nat))(rw:List Nat)(K:List It->aj->Prop)(sc:List It)(st:aj):Prop:=
 match ops.toList.all du&&(drawD P ops.toList st.tmps.length an&&CS br st.boxes.length X.length)with
 |true=>vg st.boxes X fun H0=>match Cy rw H0 with
  |true=>vg H0 (bZ P ops.toList) fun H=>pE P GE (vW br H0) rw A ops an K ops.toList 0 (st.boxes.length+X.length) sc [] ⟨st.tmps,H,st.own⟩
  |false=>False
 |false=>False
theorem qj{m:Nat}(hf:P.follows .mixedOrders=true){id:Nat}{an:List Nat}{X:List ah}{br:List (Nat×Nat)}{rw:List Nat}{K:List It->aj->Prop}{sc:List It}{st:aj}{Q:Exit->aj->Prop}(hQ:∀st,(∃sc,K sc st)->Q .normal st)
  (h:pD P GE A ops an X br rw K sc st):aE P GE m (.region id ops true) Q st:=by
 unfold pD at h
 split at h
 ·rename_i hd
  rw[vac,vac]at hd
  obtain⟨hnd,hd⟩:=hd
  unfold vg at h
  rw[al]at h
  split at h
  ·rename_i hr
   rw[al]at h
   refine(aE.drawD (Q:=fun e st=>e=.normal/\∃sc,K sc st) hf hnd ⟨hd.1,by rw[vac];exact⟨hd.2,hr⟩,?_⟩).imp fun e st hx=>by obtain⟨rfl,hx⟩:=hx;exact hQ st hx
   have:=jU _ _ _ _ _ _ h
   simpa using this
  ·exact h.elim
 ·exact h.elim
end
mutual

def PVal.no(i:Nat):PVal->Prop
 |.undef|.int _ _|.bool _|.str _|.val _=>True
 |.agg cs=>Ah i cs
 |.tuple cs=>Ah i cs
 |.slice es=>yV i es
 |.eptr cs=>Ah i cs
 |.bptr j _=>j≠i
 |.bsl j _ _=>j≠i
 |.mapr j=>j≠i
 |.func _ f c=>Ah i f/\Ah i c
def Ah(i:Nat):List PVal->Prop
 |[]=>True
 |p::ps=>p.no i/\Ah i ps
def yV(i:Nat):List (List PVal)->Prop
 |[]=>True
 |p::ps=>Ah i p/\yV i ps
end
theorem ja{n:Nat}:∀{l:List PVal} {i:Nat} {p:PVal},Ah n l->l[i]? =some p->p.no n
 |[],i,p,_,h=>by simp at h
 |q::l,0,p,h,hp=>by simp at hp;subst hp;simp only[Ah]at h;exact h.1
 |q::l,i+1,p,h,hp=>by simp only[Ah]at h;exact ja h.2 (by simpa using hp)
theorem qC{n:Nat}:∀{l:List (List PVal)} {i:Nat} {p:List PVal},yV n l->l[i]? =some p->Ah n p
 |[],i,p,_,h=>by simp at h
 |q::l,0,p,h,hp=>by simp at hp;subst hp;simp only[yV]at h;exact h.1
 |q::l,i+1,p,h,hp=>by simp only[yV]at h;exact qC h.2 (by simpa using hp)
theorem VR.noi{Γ:ax}{bs bs':aB}{w:World}{p:PVal}{v:Value}{n:Nat}(h:VR Γ bs w p v)(hc:p.no n)
  (hb:∀(i b:Nat),i≠n->bs[i]? =some (some b)->bs'[i]? =some (some b)):VR Γ bs' w p v:=by
 induction h with
 |undef v=>exact .undef v
 |int k n=>exact .int k n
 |bool b=>exact .bool b
 |str l=>exact .str l
 |val v=>exact .val v
 |agg cs vs hl _ ih=>simp only[PVal.no]at hc;exact .agg cs vs hl fun i p v hp hv=>ih i p v hp hv (ja hc hp)
 |tuple cs vs hl _ ih=>simp only[PVal.no]at hc;exact .tuple cs vs hl fun i p v hp hv=>ih i p v hp hv (ja hc hp)
 |sliceNil=>exact .sliceNil
 |sliceE a cap=>exact .sliceE a cap
 |slice es b off cap n sz vals h0 hcap hg hn hsz hcc _ ih=>
  simp only[PVal.no]at hc
  exact .slice es b off cap n sz vals h0 hcap hg hn hsz hcc fun i e k p he hp=>ih i e k p he hp (ja (qC hc he) hp)
 |eptrE b off=>exact .eptrE b off
 |bsl i off k x cap hcap hnil h=>simp only[PVal.no]at hc;exact .bsl i off k x cap hcap hnil (h.imp_right fun⟨b,h1,h2⟩=>⟨b,h1,hb i b hc h2⟩)
 |eptr cs b off n vals hg hn hcc _ ih=>
  simp only[PVal.no]at hc
  exact .eptr cs b off n vals hg hn hcc fun k p hp=>ih k p hp (ja hc hp)
 |bptr i off b h=>simp only[PVal.no]at hc;exact .bptr i off b (hb i b hc h)
 |mapr i b h=>simp only[PVal.no]at hc;exact .mapr i b (hb i b hc h)
 |func fn first cap fs cs hl hl' _ _ ih ih'=>
  simp only[PVal.no]at hc
  exact .func fn first cap fs cs hl hl' (fun i p v hp hv=>ih i p v hp hv (ja hc.1 hp)) (fun i p v hp hv=>ih' i p v hp hv (ja hc.2 hp))
inductive Fz(i:Nat)(es:List (List PVal)):PVal->PVal->Prop where
 |u (p:PVal):Fz i es p .undef
 |k (p:PVal) (h:p.no i):Fz i es p p
 |s (n:Nat) (h:n=es.length):Fz i es (.bsl i 0 n) (.slice es)
 |b (off:Nat):Fz i es (.bptr i off) (.eptr (es.flatten.drop off))
 |f (fn:Fn) (f c f' c':List PVal) (hl:f.length=f'.length) (hl':c.length=c'.length) (h:∀(j:Nat) p q,f[j]? =some p->f'[j]? =some q->Fz i es p q) (h':∀(j:Nat) p q,c[j]? =some p->c'[j]? =some q->Fz i es p q):Fz i es (.func fn f c) (.func fn f' c')
def zk(i:Nat)(es:List (List PVal)):List PVal->List PVal->Prop
 |[],[]=>True
 |p::ps,q::qs=>Fz i es p q/\zk i es ps qs
 |_,_=>False
inductive CG(i:Nat)(es:List (List PVal)):ah->ah->Prop where
 |d (B:ah):CG i es B .dead
 |c (cs cs':List PVal) (own:List (Nat×TypeId)) (h:zk i es cs cs'):CG i es (.cells cs own) (.cells cs' own)
 |k (cs:List PVal) (own:List (Nat×TypeId)) (h:Ah i cs):CG i es (.cells cs own) (.cells cs own)
 |m (l:List (PVal×PVal)) (h:∀x∈l,x.1.no i/\x.2.no i):CG i es (.map l) (.map l)
def uY(i:Nat)(es:List (List PVal)):List ah->List ah->Prop
 |[],[]=>True
 |p::ps,q::qs=>CG i es p q/\uY i es ps qs
 |_,_=>False
theorem zk.len{i:Nat}{es:List (List PVal)}:∀{l r:List PVal},zk i es l r->l.length=r.length
 |[],[],_=>rfl
 |[],_::_,h=>h.elim
 |_::_,[],h=>h.elim
 |_::_,_::_,h=>by simp[zk.len h.2]
theorem zk.get{i:Nat}{es:List (List PVal)}:∀{l r:List PVal},zk i es l r->∀{j:Nat} {p q},l[j]? =some p->r[j]? =some q->Fz i es p q
 |[],[],_,j,p,q,hp,_=>by simp at hp
 |[],_::_,h,_,_,_,_,_=>h.elim
 |_::_,[],h,_,_,_,_,_=>h.elim
 |_::_,_::_,h,0,p,q,hp,hq=>by simp at hp hq;subst hp;subst hq;exact h.1
 |_::_,_::_,h,j+1,p,q,hp,hq=>zk.get h.2 (j:=j) (by simpa using hp) (by simpa using hq)
theorem uY.len{i:Nat}{es:List (List PVal)}:∀{l r:List ah},uY i es l r->l.length=r.length
 |[],[],_=>rfl
 |[],_::_,h=>h.elim
 |_::_,[],h=>h.elim
 |_::_,_::_,h=>by simp[uY.len h.2]
theorem uY.get{i:Nat}{es:List (List PVal)}:∀{l r:List ah},uY i es l r->∀{j:Nat} {p q},l[j]? =some p->r[j]? =some q->CG i es p q
 |[],[],_,j,p,q,hp,_=>by simp at hp
 |[],_::_,h,_,_,_,_,_=>h.elim
 |_::_,[],h,_,_,_,_,_=>h.elim
 |_::_,_::_,h,0,p,q,hp,hq=>by simp at hp hq;subst hp;subst hq;exact h.1
 |_::_,_::_,h,j+1,p,q,hp,hq=>uY.get h.2 (j:=j) (by simpa using hp) (by simpa using hq)
def FZ(m i:Nat)(es:List (List PVal))(st st':aj):Prop:=
 ((m % 1000<=i)/\∃sz,0<sz/\∀x∈es,x.length=sz)/\yV i es/\(∃own,st.boxes[i]? =some (.cells es.flatten own))/\st'.boxes[i]? =some .dead/\zk i es st.tmps st'.tmps/\uY i es st.boxes st'.boxes/\∀x∈st'.own,x∈st.own
theorem zy{sz:Nat}:∀{es:List (List PVal)},(∀x∈es,x.length=sz)->∀{i k:Nat} {e:List PVal} {p:PVal},es[i]? =some e->e[k]? =some p->es.flatten[i * sz+k]? =some p
 |[],_,i,k,e,p,h,_=>by simp at h
 |x::es,hl,0,k,e,p,h,hp=>by
  simp at h;subst h
  rw[List.flatten_cons,vcp,vaB,vad (aa hp)]
  exact hp
 |x::es,hl,i+1,k,e,p,h,hp=>by
  have hx:=hl x (by simp)
  rw[List.flatten_cons,vaf (by rw[hx,vaX];omega),hx,show(i+1) * sz+k - sz=i * sz+k by rw[vaX];omega]
  exact zy (fun y hy=>hl y (by simp[hy])) (by simpa using h) hp
theorem FZ.weak{P:Program}{m i:Nat}{es:List (List PVal)}{st st':aj}(h:FZ m i es st st'):nj P m st st':=by
 obtain⟨⟨hm,sz,hsz0,hsz⟩,hno,hBi,hBi',htm,hbx,how⟩:=h
 obtain⟨bown,hB⟩:=hBi
 have hB':=hBi'
 intro E bs0 a w hb0 hR
 obtain⟨Γ,bs,ow,hS,hk⟩:=hR
 have hil:i<bs.length:=by rw[hS.bl];exact aa hB
 obtain⟨x,hx⟩:∃x,bs[i]? =some x:=⟨_,vaa hil⟩
 have hsub:∀(j b:Nat),j≠i->bs[j]? =some (some b)->(bs.set i none)[j]? =some (some b):=fun j b hj hb=>by rw[vak (fun e=>hj e.symm)];exact hb
 have hback:∀{j b:Nat},(bs.set i none)[j]? =some (some b)->j≠i/\bs[j]? =some (some b):=fun{j b} hb=>by
  by_cases hj:j=i
  ·subst hj;rw[vae hil]at hb;cases hb
  ·rw[vak (fun e=>hj e.symm)]at hb;exact⟨hj,hb⟩
 obtain ⟨Γ',hle,hwi,hΓ,hslice,hkeep,hptr⟩:∃ Γ':ax,Γ.Le w Γ' w∧(∀ b n,Γ' b = some n→∃ c t fr,w.heap[b]? = some (.cells c t fr)∧n ≤ c.size)∧(∀ b,bs[i]? ≠ some (some b)→Γ' b = Γ b) ∧
   (∀n v,n=es.length->VR Γ bs w (.bsl i 0 n) v->VR Γ' (bs.set i none) w (.slice es) v)/\(∀b n,Γ b=some n->Γ' b=some n)/\(∀off v,VR Γ bs w (.bptr i off) v->VR Γ' (bs.set i none) w (.eptr (es.flatten.drop off)) v):=by
  cases x with
  | none =>
   refine⟨Γ,.refl _ _,hS.wi,fun _ _=>rfl,fun n v hn hv=>?_,fun _ _ h=>h,fun off v hv=>by cases hv with|bptr _ _ b hb=>rw[hx]at hb;cases hb⟩
   cases hv with
   | bsl _ _ _ x cap hcap hnil hxb =>
    have hes:es=[]:=by
     rcases hxb with h0|⟨b,_,hb⟩
     ·exact van (by omega)
     ·rw[hx]at hb;cases hb
    subst hes
    have hn0:n=0:=hn
    subst hn0
    cases x with
    |none=>rw[hnil rfl];exact .sliceNil
    |some ad=>exact .sliceE ad cap
  | some b =>
   obtain⟨hg,hlt,c,t,hheap,hcs,hcv⟩:=hS.bx i b _ hx hB
   have hflen:=xO hsz
   have hle:Γ.Le w (Γ.put b es.flatten.length) w:=fun b' n hb' _=>⟨n,(Γ.put_other (fun e=>by subst e;rw[hg]at hb';cases hb')).trans hb',vam _,fun _ _=>rfl⟩
   refine⟨Γ.put b es.flatten.length,hle,fun b' n hb'=>?_,fun b' hb'=>Γ.put_other (fun e=>hb' (by rw[e];exact hx)),fun n v hn hv=>?_,fun b' n hb'=>(Γ.put_other (fun e=>by subst e;rw[hg]at hb';cases hb')).trans hb',fun off v hv=>?_⟩
   ·by_cases hbb:b'=b
    ·subst hbb;rw[Γ.put_same]at hb';cases hb';exact⟨c,t,_,hheap,hcs⟩
    ·rw[Γ.put_other hbb]at hb';exact hS.wi b' n hb'
   ·cases hv with
    | bsl _ _ _ x cap hcap hnil hxb =>
     rcases hxb with h0|⟨b',hxb,hb'⟩
     ·subst h0
      have hes:es=[]:=van hn.symm
      subst hes
      cases x with
      |none=>rw[hnil rfl];exact .sliceNil
      |some ad=>exact .sliceE ad cap
     ·rw[hx]at hb';cases hb'
      subst hxb;subst hn
      refine mX hheap (Γ.put_same _ _) (by rw[hflen];exact vam _) hsz0 hcap (fun i x hx=>hsz x (var hx)) fun j x k q hxj hq=>?_
      have hfa:=zy hsz hxj hq
      have hlt2:j * sz+k<c.size:=vaA (aa hfa) hcs
      exact⟨c[j * sz+k],by simp[hlt2],((hcv _ _ _ hfa (by simp[hlt2])).noi (ja (qC hno hxj) hq) hsub).mono hle (.refl _)⟩
   ·cases hv with
    | bptr _ _ b' hb' =>
     rw[hx]at hb';cases hb'
     by_cases hoff:off<=es.flatten.length
     ·have hget:∀(k:Nat) q,(es.flatten.drop off)[k]? =some q->es.flatten[off+k]? =some q/\off+k<c.size:=fun k q hq=>by
       rw[vaR]at hq
       exact⟨hq,vaA (aa hq) hcs⟩
      refine .eptr _ b off es.flatten.length (fun k=>c.getD (off+k) undef) (Γ.put_same _ _) (by rw[vby];omega) (fun k q hq=>?_) (fun k q hq=>?_)
      ·obtain⟨h1,h2⟩:=hget k q hq
       rw[cell_of_row w b _ c t _ hheap]
       simp[vat,h2]
      ·obtain⟨h1,h2⟩:=hget k q hq
       have hc1:c[off+k]? =some (c.getD (off+k) undef):=by simp[vat,h2]
       have hnq:q.no i:=by
        obtain⟨y,hy1,hy2⟩:=uc hsz0 hsz h1
        exact ja (qC hno hy1) hy2
       exact((hcv _ _ _ h1 hc1).noi hnq hsub).mono hle (.refl _)
     ·rw[List.drop_of_length_le (by omega)];exact .eptrE _ _
 have fz:∀{p q:PVal} {v:Value},Fz i es p q->VR Γ bs w p v->VR Γ' (bs.set i none) w q v:=by
  intro p q v hf
  induction hf generalizing v with
  |u p=>exact fun _=>.undef _
  |k p h=>exact fun hv=>(hv.noi h hsub).mono hle (.refl _)
  |s n h=>exact fun hv=>hslice n _ h hv
  |b off=>exact fun hv=>hptr off _ hv
  | f fn f c f' c' hl hl' h h' ih ih' =>
   intro hv
   cases hv with
   | func _ _ _ fs cs k1 k2 k3 k4 =>
    refine .func fn f' c' fs cs (by omega) (by omega) (fun j q u hq hu=>?_) (fun j q u hq hu=>?_)
    ·have hj:=aa hq
     have hp:=vaa (l:=f) (i:=j) (by omega)
     exact ih j _ q hp hq (k3 j _ u hp hu)
    ·have hj:=aa hq
     have hp:=vaa (l:=c) (i:=j) (by omega)
     exact ih' j _ q hp hq (k4 j _ u hp hu)
 have hown:∀{v:Value} {e:TypeId},dC P Γ w v e->dC P Γ' w v e:=by
  intro v e ho
  obtain⟨n,xs,o1,o2⟩:=ho
  exact⟨n,xs,o1,fun b hb=>hkeep b _ (o2 b hb)⟩
 have hmem:∀y∈st'.own,y∈st.own:=how
 have hbnot:∀{j b:Nat},j≠i->bs[j]? =some (some b)->bs[i]? ≠some (some b):=fun hj hb hbi=>hj (hS.inj _ _ _ hb hbi)
 refine⟨Γ',bs.set i none,ow,?_,fun j hj=>?_⟩
 ·exact{
   wi:=hwi
   sz:=by rw[hS.sz];exact htm.len
   tm:=fun t q v hq hv=>by
    have hl:=htm.len
    have ht:=aa hq
    have hp:=vaa (l:=st.tmps) (i:=t) (by omega)
    exact fz (htm.get hp hq) (hS.tm t _ v hp hv)
   bl:=by rw[vcr,hS.bl];exact hbx.len
   bx:=fun j b C hb hC=>by
    obtain⟨hj,hb⟩:=hback hb
    have hl:=hbx.len
    have hjl:=aa hC
    have hp:=vaa (l:=st.boxes) (i:=j) (by omega)
    obtain⟨h1,h2,h3⟩:=hS.bx j b _ hb hp
    refine⟨(hΓ b (hbnot hj hb)).trans h1,h2,?_⟩
    have hf:=hbx.get hp hC
    generalize st.boxes[j]=B0 at hf h3
    cases hf with
    |d B=>trivial
    |c cs cs' own h=>
     obtain⟨c,t,e1,e2,e3⟩:=h3
     refine⟨c,t,e1,by rw[<-h.len];exact e2,fun k q v hq hv=>?_⟩
     have hk:=aa hq
     have hlen:=h.len
     have hpk:=vaa (l:=cs) (i:=k) (by omega)
     exact fz (h.get hpk hq) (e3 k _ v hpk hv)
    |k cs own h=>
     obtain⟨c,t,e1,e2,e3⟩:=h3
     exact⟨c,t,e1,e2,fun k q v hq hv=>((e3 k q v hq hv).noi (ja h hq) hsub).mono hle (.refl _)⟩
    |m l h=>
     obtain⟨c,t,e1,e2,e3⟩:=h3
     refine⟨c,t,e1,e2,fun k q u y hq hy=>?_⟩
     obtain⟨n1,n2⟩:=h _ (var hq)
     obtain⟨v1,v2⟩:=e3 k q u y hq hy
     exact⟨(v1.noi n1 hsub).mono hle (.refl _),(v2.noi n2 hsub).mono hle (.refl _)⟩
   inj:=fun j k b hj hk'=>hS.inj j k b (hback hj).2 (hback hk').2
   bn:=fun j b hb=>hS.bn j b (hback hb).2
   on:=hS.on
   ot:=fun t k e he=>by
    obtain⟨u,v,h1,h2,h3,h4⟩:=hS.ot t k e (hmem _ he)
    exact⟨u,v,h1,h2,hown h3,h4⟩
   ob:=fun j k e cs own b hC hk' hb=>by
    obtain⟨hj,hb⟩:=hback hb
    have hl:=hbx.len
    have hjl:=aa hC
    have hp:=vaa (l:=st.boxes) (i:=j) (by omega)
    have hf:=hbx.get hp hC
    generalize hB0:st.boxes[j]=B0 at hf hp
    cases hf with
    |c cs0 _ _ h=>
     obtain⟨v,h1,h2,h3⟩:=hS.ob j k e cs0 own b hp hk' hb
     exact⟨v,h1,hown h2,h3⟩
    |k _ _ h=>
     obtain⟨v,h1,h2,h3⟩:=hS.ob j k e cs own b hp hk' hb
     exact⟨v,h1,hown h2,h3⟩
   gl:=fun g cs hg=>((hS.gl g cs hg).mono hle (.refl _)).restrict (n:=0) (by simp only[PVal.cl];exact hS.gc g cs hg) (fun i b hi _=>absurd hi (vaY _))
   gc:=hS.gc
   gx:=hS.gx
   step:={hS.step with
    keep:=fun b hb hT=>by
     obtain⟨k1,k2⟩:=hS.step.keep b hb hT
     refine⟨k1,(hΓ b fun hbi=>?_).trans k2⟩
     rcases hS.bn i b hbi with h1|h1
     ·exact hT h1
     ·omega
    le:=hS.step.le.trans hle}}
 ·rw[vak (by omega)]
  exact hk j hj
def DS(i:Nat)(es:List (List PVal)):PVal->(PVal->Prop)->Prop
 |.undef,k=>k .undef
 |.int a n,k=>k (.int a n)
 |.bool b,k=>k (.bool b)
 |.str s,k=>k (.str s)
 |.val v,k=>k (.val v)
 |.bptr j off,k=>match j==i with
  |true=>ay (es.flatten.drop off) fun l=>k (.eptr l)
  |false=>k (.bptr j off)
 | .bsl j off n,k => match j == i with
  |true=>match off with
   |0=>n=es.length/\k (.slice es)
   |_+1=>False
  |false=>k (.bsl j off n)
 |.mapr j,k=>match j==i with
  |true=>False
  |false=>k (.mapr j)
 |p,k=>p.no i/\k p
def wR(i:Nat)(es:List (List PVal)):List PVal->(List PVal->Prop)->Prop
 |[],k=>k []
 |p::ps,k=>match p with
  |.func fn f c=>fzF i es f fun f'=>fzF i es c fun c'=>wR i es ps fun l=>k (.func fn f' c'::l)
  |p=>DS i es p fun q=>wR i es ps fun l=>k (q::l)
where
 fzF (i:Nat) (es:List (List PVal)):List PVal->(List PVal->Prop)->Prop
  |[],k=>k []
  |p::ps,k=>DS i es p fun q=>fzF i es ps fun l=>k (q::l)
def Dn(i:Nat)(es:List (List PVal))(lv:List Nat):Nat->List PVal->(List PVal->Prop)->Prop
 |_,[],k=>k []
 | n,p :: ps,k => match lv.contains n with
  |true=>match p with
   |.func fn f c=>wR.fzF i es f fun f'=>wR.fzF i es c fun c'=>Dn i es lv (n+1) ps fun l=>k (.func fn f' c'::l)
   |p=>DS i es p fun q=>Dn i es lv (n+1) ps fun l=>k (q::l)
  |false=>Dn i es lv (n+1) ps fun l=>k (.undef::l)
def B8(i:Nat)(es:List (List PVal))(rk:List Nat):Nat->List ah->(List ah->Prop)->Prop
 |_,[],k=>k []
 | n,B :: Bs,k => match n == i with
  |true=>B8 i es rk (n+1) Bs fun l=>k (.dead::l)
  | false => match B with
   |.dead=>B8 i es rk (n+1) Bs fun l=>k (.dead::l)
   |.cells cs own=>match rk.contains n with
    |true=>Ah i cs/\B8 i es rk (n+1) Bs fun l=>k (.cells cs own::l)
    |false=>wR i es cs fun cs'=>B8 i es rk (n+1) Bs fun l=>k (.cells cs' own::l)
   |.map m=>(∀x∈m,x.1.no i/\x.2.no i)/\B8 i es rk (n+1) Bs fun l=>k (.map m::l)
def Be(es:List (List PVal)):ah->Prop
 |.cells cs _=>cs=es.flatten
 |_=>False
theorem Bf{es:List (List PVal)}{H:List ah}{i:Nat}(h:fg H i (Be es)):∃own,H[i]? =some (.cells es.flatten own):=by
 obtain⟨B,hB,h⟩:=bD h
 unfold Be at h
 split at h
 ·subst h;exact⟨_,hB⟩
 ·exact h.elim
def A2(m:Nat):List It->aj->(List It->aj->Prop)->Prop
 |.fz i es lv rk::sc',st,k=>((m % 1000<=i)/\∃sz,0<sz/\∀x∈es,x.length=sz)/\yV i es/\fg st.boxes i (Be es)/\Dn i es lv 0 st.tmps fun tm=>B8 i es rk 0 st.boxes fun H=>ay (st.own.filter fun x=>lv.contains x.1.1) fun ow=>A2 m sc' ⟨tm,H,ow⟩ k
 |sc,st,k=>k sc st
theorem yO{i:Nat}{es:List (List PVal)}{p:PVal}{k:PVal->Prop}(h:DS i es p k):∃q,Fz i es p q/\k q:=by
 unfold DS at h
 split at h
 ·exact⟨_,.u _,h⟩
 ·exact⟨_,.k _ (by simp[PVal.no]),h⟩
 ·exact⟨_,.k _ (by simp[PVal.no]),h⟩
 ·exact⟨_,.k _ (by simp[PVal.no]),h⟩
 ·exact⟨_,.k _ (by simp[PVal.no]),h⟩
 ·rename_i j off
  split at h
  ·rename_i hj
   simp only[vaJ]at hj
   subst hj
   rw[al]at h
   exact⟨_,.b _,h⟩
  ·rename_i hj
   exact⟨_,.k _ (by simpa[PVal.no]using hj),h⟩
 ·rename_i j off n
  split at h
  ·rename_i hj
   simp only[vaJ]at hj
   subst hj
   split at h
   ·exact⟨_,.s _ h.1,h.2⟩
   ·exact h.elim
  ·rename_i hj
   exact⟨_,.k _ (by simpa[PVal.no]using hj),h⟩
 ·rename_i j
  split at h
  ·exact h.elim
  ·rename_i hj
   exact⟨_,.k _ (by simpa[PVal.no]using hj),h⟩
 ·exact⟨_,.k _ h.1,h.2⟩
theorem ud{i:Nat}{es:List (List PVal)}:∀{l:List PVal} {k:List PVal->Prop},wR.fzF i es l k->∃r,zk i es l r/\k r
 |[],k,h=>⟨[],trivial,h⟩
 |p::ps,k,h=>by
  unfold wR.fzF at h
  obtain⟨q,h1,h2⟩:=yO h
  obtain⟨r,h3,h4⟩:=ud h2
  exact⟨q::r,⟨h1,h3⟩,h4⟩
theorem Fz.fn{i:Nat}{es:List (List PVal)}(fn:Fn){f c f' c':List PVal}(h:zk i es f f')(h':zk i es c c'):Fz i es (.func fn f c) (.func fn f' c'):=
 .f fn f c f' c' h.len h'.len (fun _ _ _ hp hq=>h.get hp hq) (fun _ _ _ hp hq=>h'.get hp hq)
theorem wS{i:Nat}{es:List (List PVal)}:∀{l:List PVal} {k:List PVal->Prop},wR i es l k->∃r,zk i es l r/\k r
 |[],k,h=>⟨[],trivial,h⟩
 | p :: ps,k,h => by
  unfold wR at h
  split at h
  ·obtain⟨f',h1,h2⟩:=ud h
   obtain⟨c',h3,h4⟩:=ud h2
   obtain⟨r,h5,h6⟩:=wS h4
   exact⟨_::r,⟨.fn _ h1 h3,h5⟩,h6⟩
  ·obtain⟨q,h1,h2⟩:=yO h
   obtain⟨r,h3,h4⟩:=wS h2
   exact⟨q::r,⟨h1,h3⟩,h4⟩
theorem wQ{i:Nat}{es:List (List PVal)}{lv:List Nat}:∀{n:Nat} {l:List PVal} {k:List PVal->Prop},Dn i es lv n l k->∃r,zk i es l r/\k r
 |_,[],k,h=>⟨[],trivial,h⟩
 | n,p :: ps,k,h => by
  unfold Dn at h
  split at h
  ·split at h
   ·obtain⟨f',h1,h2⟩:=ud h
    obtain⟨c',h3,h4⟩:=ud h2
    obtain⟨r,h5,h6⟩:=wQ h4
    exact⟨_::r,⟨.fn _ h1 h3,h5⟩,h6⟩
   ·obtain⟨q,h1,h2⟩:=yO h
    obtain⟨r,h3,h4⟩:=wQ h2
    exact⟨q::r,⟨h1,h3⟩,h4⟩
  ·obtain⟨r,h3,h4⟩:=wQ h
   exact⟨.undef::r,⟨.u _,h3⟩,h4⟩
theorem A1{i:Nat}{es:List (List PVal)}{rk:List Nat}:∀{n:Nat} {l:List ah} {k:List ah->Prop},B8 i es rk n l k->∃r,uY i es l r/\(∀j B,l[j]? =some B->n+j=i->r[j]? =some .dead)/\k r
 |_,[],k,h=>⟨[],trivial,by simp,h⟩
 | n,B :: Bs,k,h => by
  have go:∀{B':ah} {k':List ah->Prop},CG i es B B'->(n=i->B'=.dead)->B8 i es rk (n+1) Bs k'->(∀r,k' r->k (B'::r))->∃r,uY i es (B::Bs) r/\(∀j C,(B::Bs)[j]? =some C->n+j=i->r[j]? =some .dead)/\k r:=by
   intro B' k' h1 h2 h3 h4
   obtain⟨r,r1,r2,r3⟩:=A1 h3
   refine⟨B'::r,⟨h1,r1⟩,fun j C hC hj=>?_,h4 r r3⟩
   cases j with
   |zero=>simp[h2 (by omega)]
   |succ j=>simpa using r2 j C (by simpa using hC) (by omega)
  unfold B8 at h
  split at h
  ·exact go (.d _) (fun _=>rfl) h (fun _ x=>x)
  ·rename_i hn
   have hn':n≠i:=by simpa using hn
   split at h
   ·exact go (.d _) (fun _=>rfl) h (fun _ x=>x)
   ·split at h
    ·exact go (.k _ _ h.1) (fun e=>absurd e hn') h.2 (fun _ x=>x)
    ·obtain⟨cs',h1,h2⟩:=wS h
     exact go (.c _ _ _ h1) (fun e=>absurd e hn') h2 (fun _ x=>x)
   ·exact go (.m _ h.1) (fun e=>absurd e hn') h.2 (fun _ x=>x)
theorem yN{P:Program}{m:Nat}:∀{sc:List It} {st:aj} {k:List It->aj->Prop},A2 m sc st k->∃sc' st',nj P m st st'/\k sc' st'
 |[],st,k,h=>⟨[],st,.refl _,by simpa[A2]using h⟩
 | x :: sc,st,k,h => by
  unfold A2 at h
  split at h
  ·rename_i i es lv rk sc' heq
   cases heq
   obtain⟨h1,h2,h3,h4⟩:=h
   obtain⟨own,hB⟩:=Bf h3
   obtain⟨tm,t1,h5⟩:=wQ h4
   obtain⟨H,b1,b2,h6⟩:=A1 h5
   rw[al]at h6
   obtain⟨sc2,st2,w1,h7⟩:=yN h6
   exact⟨sc2,st2,nj.trans (FZ.weak (st':=⟨tm,H,_⟩) ⟨h1,h2,⟨own,hB⟩,b2 i _ hB (by omega),t1,b1,fun x hx=>(vaQ.1 hx).1⟩) w1,h7⟩
  ·exact⟨_,_,.refl _,h⟩
end Go.Proofs.YtoficachfgggjaaDoor
