/- PROVED: a part of the proof. Conditions: none. -/
import Derived.Test.YtggeppllafbidaaGreatDoorPkB6
import Derived.Test.YtggeppllafbidaaGreatDoorPkB5
noncomputable section
namespace Go.Proofs.YtggeppllafbidaaGreatDoor
open Go
def rO(o:Oper):List Rs:=match o.dst with
 |some d=>[(false,d,0)]
 |none=>[]
def sP(P:Program)(GE:List (Nat×List PVal))(bi:Option (Nat×aw))(rw:List Nat)(ops:Array Oper)(o:Oper)(id:Nat)(s s':aq)(rs:List Rs):Prop:=
 match o.guard with
 |none=>eP P GE bi rw o id s s' rs
 |some (j,want)=>∃x,nH ops s.tmps j=some x/\(x=some want->eP P GE bi rw o id s s' rs)/\(x≠some want->s'=pM s o.dst (.val undef) [] s.boxes/\rs=rO o)
def kh(P:Program)(GE:List (Nat×List PVal))(bid:Nat->Option (Nat×aw))(rw:List Nat)(ops:Array Oper)(K:List (List Rs)->aq->Prop):List Oper->Nat->List (List Rs)->aq->Prop
 |[],_,lg,st=>K lg st
 | o :: rest,id,lg,st =>
  match o.guard with
  |none=>∃s' rs,eP P GE (bid lg.length) rw o id st s' rs/\kh P GE bid rw ops K rest (id+if au o.op then 1 else 0) (lg++[rs]) s'
  |some (j,want)=>match nH ops st.tmps j with
   | some x => (x = some want→∃ s' rs,eP P GE (bid lg.length) rw o id st s' rs∧kh P GE bid rw ops K rest (id + if au o.op then 1 else 0) (lg ++ [rs]) s') ∧
     (x≠some want->kh P GE bid rw ops K rest (id+if au o.op then 1 else 0) (lg++[rO o]) (pM st o.dst (.val undef) [] st.boxes))
   |none=>False
section
variable{P:Program}{GE:List (Nat×List PVal)}
theorem vq{bid:Nat->Option (Nat×aw)}{rw:List Nat}{ops:Array Oper}{K:List (List Rs)->aq->Prop}:∀(rest:List Oper) (id:Nat) (lg:List (List Rs)) (st:aq),kh P GE bid rw ops K rest id lg st->
  ∃(T:Nat->aq) (R:List (List Rs)),T 0=st/\R.length=rest.length/\K (lg++R) (T rest.length)/\∀(k:Nat) o,rest[k]? =some o->sP P GE (bid (lg.length+k)) rw ops o (id+bG (rest.take k)) (T k) (T (k+1)) (R.getD k [])
 |[],id,lg,st,h=>⟨fun _=>st,[],rfl,rfl,by simpa[kh]using h,by simp⟩
 | o :: rest,id,lg,st,h => by
  have hcnt:bG [o]=if au o.op then 1 else 0:=by unfold bG;simp only[vbp,List.filter_nil];split<;>rfl
  have fin:∀st' rs,sP P GE (bid lg.length) rw ops o id st st' rs->kh P GE bid rw ops K rest (id+if au o.op then 1 else 0) (lg++[rs]) st'->
    ∃(T:Nat->aq) (R:List (List Rs)),T 0=st/\R.length=rest.length+1/\K (lg++R) (T (rest.length+1))/\∀(k:Nat) o',(o::rest)[k]? =some o'->sP P GE (bid (lg.length+k)) rw ops o' (id+bG ((o::rest).take k)) (T k) (T (k+1)) (R.getD k []):=by
   intro st' rs h1 h2
   obtain⟨T,R,t0,tl,t1,t2⟩:=vq rest _ _ st' h2
   refine⟨fun k=>match k with|0=>st|k+1=>T k,rs::R,rfl,by simp[tl],by simpa using t1,fun k o' ho'=>?_⟩
   cases k with
   |zero=>simp at ho';subst ho';simp only[List.getD_cons_zero];rw[t0];simpa[bG]using h1
   | succ k =>
    have:=t2 k o' (by simpa using ho')
    have he:id+(if au o.op then 1 else 0)+bG (rest.take k)=id+bG ((o::rest).take (k+1)):=by
     simp only[List.take_succ_cons]
     have:bG (o::rest.take k)=bG [o]+bG (rest.take k):=by
      unfold bG;simp only[vbp,List.filter_nil];split<;>simp<;>omega
     rw[this,hcnt];omega
    rw[he,show(lg++[rs]).length+k=lg.length+(k+1) by simp;omega]at this
    simpa using this
  simp only[kh]at h
  simp only[vaS]
  split at h
  ·rename_i hg
   obtain⟨s',rs,h1,h2⟩:=h
   exact fin s' rs (by unfold sP;rw[hg];exact h1) h2
  ·rename_i j want hg
   split at h
   ·rename_i x hx
    by_cases hw:x=some want
    ·obtain⟨s',rs,h1,h2⟩:=h.1 hw
     exact fin s' rs (by unfold sP;rw[hg];exact⟨x,hx,fun _=>h1,fun hn=>absurd hw hn⟩) h2
    ·exact fin _ _ (by unfold sP;rw[hg];exact⟨x,hx,fun hy=>absurd hy hw,fun _=>⟨rfl,rfl⟩⟩) (h.2 hw)
   ·exact h.elim
end
def drawD(P:Program)(l:List Oper)(n:Nat)(an:List Nat):Bool:=
 let before (i j:Nat):Bool:=(an.getD j 0).testBit i
 let eh:=List.range l.length
 (an.length==l.length&&eh.all fun j=>fF an (l.getD j default)==an.getD j 0)&&
 (l.all (fun o=>o.dst.all fun d=>decide (d<n))&&
 eh.all (fun j=>(l.getD j default).after.all fun e=>!Region.binds .any e||decide (e.on<j))&&
 eh.all (fun j=>eh.all fun i=>i==j||(l.getD i default).dst==none||(l.getD i default).dst !=(l.getD j default).dst)&&
 eh.all (fun j=>(looks l.toArray (l.getD j default)).all fun t=>eh.all fun i=>i==j||(l.getD i default).dst !=some t||(if i<j then before i j else before j i))&&
 eh.all (fun j=>eh.all fun i=>!(decide (i<j))||aG P (l.getD i default).op<2||aG P (l.getD j default).op<2||(aG P (l.getD i default).op !=3&&aG P (l.getD j default).op !=3)||before i j))
def IX(an:List Nat)(lg:List (List Rs)):Bool:=
 let eh:=List.range lg.length
 eh.all fun j=>(lg.getD j []).all fun r=>eh.all fun i=>!(decide (i<j))||!((lg.getD i []).contains r)||(an.getD j 0).testBit i
structure EL(P:Program)(ops:Array Oper)(n:Nat):Prop where
 f1:∀(k:Nat) o d,ops[k]? =some o->o.dst=some d->d<n
 f2:∀(k:Nat) o,ops[k]? =some o->∀e∈o.after.toList,Region.binds .any e=true->e.on<k
 f3:∀(i j:Nat) oi oj d,ops[i]? =some oi->ops[j]? =some oj->i≠j->oi.dst=some d->oj.dst≠some d
 f4:∀(j:Nat) oj t,ops[j]? =some oj->t∈looks ops oj->∀(i:Nat) oi,ops[i]? =some oi->i≠j->oi.dst=some t->(i<j/\bf ops i j)\/(j<i/\bf ops j i)
 f5:∀(i j:Nat) oi oj,ops[i]? =some oi->ops[j]? =some oj->i<j->aG P oi.op<2\/aG P oj.op<2\/(aG P oi.op≠3/\aG P oj.op≠3)\/bf ops i j
theorem DD{an an':List Nat}{o:Oper}(h:∀e∈o.after.toList,Region.binds .any e=true->an.getD e.on 0=an'.getD e.on 0):fF an o=fF an' o:=by
 unfold fF
 have key:∀(l:List Edge) (s:Nat),(∀e∈l,Region.binds .any e=true->an.getD e.on 0=an'.getD e.on 0)->
   l.foldl (fun s e=>if Region.binds .any e then s|||2 ^ e.on|||an.getD e.on 0 else s) s=l.foldl (fun s e=>if Region.binds .any e then s|||2 ^ e.on|||an'.getD e.on 0 else s) s:=by
  intro l
  induction l with
  |nil=>intro s _;rfl
  | cons e l ih =>
   intro s h
   simp only[List.foldl_cons]
   rw[ih _ fun e he=>h e (by simp[he])]
   by_cases hb:Region.binds .any e=true
   ·rw[var hb,var hb,h e (by simp) hb]
   ·rw[vav hb,vav hb]
 exact key _ _ h
theorem K1{l:List Oper}{an:List Nat}(hlen:an.length=l.length)(ha:∀j,j<l.length->fF an (l.getD j default)=an.getD j 0)
  (hedge:∀j,j<l.length->∀e∈(l.getD j default).after.toList,Region.binds .any e=true->e.on<j):xD l=an:=by
 have key:∀k,k<=l.length->xD (l.take k)=an.take k:=by
  intro k
  induction k with
  |zero=>intro _;simp[xD]
  | succ k ih =>
   intro hk
   have ih:=ih (by omega)
   have hl:l.take (k+1)=l.take k++[l.getD k default]:=by
    rw[vb4,vag]
    simp[show k<l.length by omega]
   have han:an.take (k+1)=an.take k++[an.getD k 0]:=by
    rw[vb4,vag]
    simp[show k<an.length by omega]
   have hstep:xD (l.take k++[l.getD k default])=xD (l.take k)++[fF (xD (l.take k)) (l.getD k default)]:=by
    unfold xD;rw[List.foldl_append];rfl
   rw[hl,hstep,ih,han,<-ha k (by omega)]
   congr 2
   refine DD fun e he hb=>?_
   have:=hedge k (by omega) e he hb
   rw[vag,vag,vak this]
 have:=key l.length (vaq _)
 rwa[vbQ,<-hlen,vbQ]at this
theorem Hi{P:Program}{ops:Array Oper}{n:Nat}{an:List Nat}(h:drawD P ops.toList n an=true):EL P ops n/\xD ops.toList=an:=by
 unfold drawD at h
 simp only[vah,vau,vbj,vaU,vaW,vap,bne_iff_ne,ne_eq,vaP,vbk,Option.all_eq_true]at h
 obtain⟨⟨ha1,ha2⟩,⟨⟨⟨h1,h2⟩,h3⟩,h4⟩,h5⟩:=h
 have hl:∀{k:Nat} {o},ops[k]? =some o->ops.toList[k]? =some o:=fun hk=>by simpa using hk
 have han:xD ops.toList=an:=by
  refine K1 ha1 ha2 fun j hj e he hb=>?_
  rcases h2 j hj e (by simpa using he)with hx|hx
  ·rw[hb]at hx;cases hx
  ·exact hx
 refine⟨⟨fun k o d hk hd=>?_,fun k o hk e he hb=>?_,fun i j oi oj d hi hj hij hd hd'=>?_,fun j oj t hj ht i oi hi hij hd=>?_,fun i j oi oj hi hj hij=>?_⟩,han⟩
 ·exact h1 o (vaw (hl hk)) d hd
 ·have:=h2 k (aj (hl hk)) e (by rw[rn (hl hk)];simpa using he)
  rcases this with hx|hx
  ·rw[hb]at hx;cases hx
  ·exact hx
 ·have:=h3 j (aj (hl hj)) i (aj (hl hi))
  rw[rn (hl hi),rn (hl hj)]at this
  rcases this with(hx|hx)|hx
  ·exact hij hx
  ·rw[hd]at hx;cases hx
  ·exact hx (hd.trans hd'.symm)
 ·have:=h4 j (aj (hl hj)) t (by rw[rn (hl hj)];exact ht) i (aj (hl hi))
  rw[rn (hl hi)]at this
  unfold bf
  rw[han]
  rcases this with(hx|hx)|hx
  ·exact absurd hx hij
  ·exact absurd hd hx
  ·by_cases hlt:i<j
   ·rw[var hlt]at hx;exact .inl ⟨hlt,hx⟩
   ·rw[vav hlt]at hx;exact .inr ⟨by omega,hx⟩
 ·have:=h5 j (aj (hl hj)) i (aj (hl hi))
  rw[rn (hl hi),rn (hl hj)]at this
  unfold bf
  rw[han]
  rcases this with(((hx|hx)|hx)|hx)|hx
  ·rw[vbn]at hx;exact absurd hij hx
  ·exact .inl hx
  ·exact .inr (.inl hx)
  ·exact .inr (.inr (.inl hx))
  ·exact .inr (.inr (.inr hx))
theorem IY{an:List Nat}{lg:List (List Rs)}(h:IX an lg=true){i j:Nat}{r:Rs}(hij:i<j)(hi:r∈lg.getD i [])(hj:r∈lg.getD j []):(an.getD j 0).testBit i=true:=by
 unfold IX at h
 simp only[vau,vbj,vaU,vaW,vbn,vco]at h
 have hjl:j<lg.length:=by
  by_cases hx:j<lg.length
  ·exact hx
  ·rw[vag,vax (by omega)]at hj;simp at hj
 rcases h j hjl r hj i (by omega)with(hx|hx)|hx
 ·exact absurd hij hx
 ·exact absurd hi hx
 ·exact hx
section
variable{P:Program}{GE:List (Nat×List PVal)}{bid:Nat->Option (Nat×aw)}{rw:List Nat}{ops:Array Oper}{n base:Nat}{T:Nat->aq}{R:Nat->List Rs}
structure jE(P:Program)(GE:List (Nat×List PVal))(bid:Nat->Option (Nat×aw))(rw:List Nat)(ops:Array Oper)(n base:Nat)(T:Nat->aq)(R:Nat->List Rs):Prop where
 len:(T 0).tmps.length=n
 step:∀(k:Nat) o,ops[k]? =some o->sP P GE (bid k) rw ops o (base+bG (ops.toList.take k)) (T k) (T (k+1)) (R k)
 log:∀(i j:Nat) r,i<j->r∈R i->r∈R j->bf ops i j
 row0:∀i∈rw,∀k e,¬jY (T 0) (true,(i,k),e)
 rowl:∀j,j<ops.size->∀i∈rw,∀k,(true,i,k)∉R j
 binj:∀(j k i:Nat) B B',bid j=some (i,B)->bid k=some (i,B')->j=k
theorem KD{o:Oper}{s:aq}:Mn P o s (pM s o.dst (.val undef) [] s.boxes) (rO o):=by
 unfold rO
 cases hd:o.dst with
 |none=>exact⟨by rw[hd];rfl,fun _=>rfl,fun τ _ h=>h⟩
 |some d=>
  refine⟨by rw[hd];exact⟨_,rfl⟩,fun _=>rfl,?_⟩
  rintro⟨b,⟨t,k⟩,e⟩ hr hh
  cases b with
  |true=>exact hh
  |false=>exact(cV (by simpa[pM]using cp.1 hh)).1
theorem sP.eff{bi:Option (Nat×aw)}{o:Oper}{id:Nat}{s s':aq}{rs:List Rs}(h:sP P GE bi rw ops o id s s' rs):Mn P o s s' rs:=by
 unfold sP at h
 split at h
 ·exact h.eff
 ·obtain⟨x,_,h1,h2⟩:=h
  by_cases hx:x=some ‹Bool›
  ·exact(h1 hx).eff
  ·obtain⟨rfl,rfl⟩:=h2 hx;exact KD
theorem jE.all(hT:jE P GE bid rw ops n base T R):∀k,k<=ops.size->(T k).tmps.length=n:=by
 intro k
 induction k with
 |zero=>intro _;exact hT.len
 | succ k ih =>
  intro hk
  have h1:=ih (by omega)
  have hok:ops[k]? =some ops[k]:=by simp[show k<ops.size by omega]
  have he:=(hT.step k _ hok).eff.tm
  split at he
  ·obtain⟨p,he⟩:=he;rw[he];simp[h1]
  ·rw[he];exact h1
theorem jE.between(hT:jE P GE bid rw ops n base T R){t:Nat}:∀(m k:Nat),k+m<=ops.size->(∀(i:Nat) o,k<=i->i<k+m->ops[i]? =some o->o.dst≠some t)->(T (k+m)).tmps[t]? =(T k).tmps[t]?:=by
 intro m
 induction m with
 |zero=>intro k _ _;rfl
 | succ m ih =>
  intro k hk hne
  have hok:ops[k+m]? =some ops[k+m]:=by simp[show k+m<ops.size by omega]
  have he:=(hT.step _ _ hok).eff.tm
  have hn:=hne (k+m) _ (by omega) (by omega) hok
  have ih:=ih k (by omega) fun i o h1 h2=>hne i o h1 (by omega)
  rw[<-ih,show k+(m+1)=k+m+1 from rfl]
  split at he
  ·rename_i d hd
   obtain⟨p,he⟩:=he
   rw[he,vaj (fun e=>hn (by rw[hd,e]))]
  ·rw[he]
theorem jE.boxes(hT:jE P GE bid rw ops n base T R):∀(m k:Nat),k+m<=ops.size->(∀(i:Nat) o,k<=i->i<k+m->ops[i]? =some o->aG P o.op≠3)->(T (k+m)).boxes.map bL=(T k).boxes.map bL:=by
 intro m
 induction m with
 |zero=>intro k _ _;rfl
 |succ m ih=>
  intro k hk hne
  have hok:ops[k+m]? =some ops[k+m]:=by simp[show k+m<ops.size by omega]
  rw[show k+(m+1)=k+m+1 from rfl,(hT.step _ _ hok).eff.bx (hne (k+m) _ (by omega) (by omega) hok)]
  exact ih k (by omega) fun i o h1 h2=>hne i o h1 (by omega)
theorem jE.boxes_eq(hT:jE P GE bid rw ops n base T R){k m:Nat}(hk:k<=ops.size)(hm:m<=ops.size)(h:∀(i:Nat) o,ops[i]? =some o->aG P o.op=3->(i<k↔i<m)):(T k).boxes.map bL=(T m).boxes.map bL:=by
 rcases Nat.le_total k m with hle|hle
 ·have:=hT.boxes (m - k) k (by omega) fun i o h1 h2 ho hc=>by have:=(h i o ho hc);omega
  rw[show k+(m - k)=m from by omega]at this
  exact this.symm
 ·have:=hT.boxes (k - m) m (by omega) fun i o h1 h2 ho hc=>by have:=(h i o ho hc);omega
  rw[show m+(k - m)=k from by omega]at this
  exact this
theorem jE.back(hT:jE P GE bid rw ops n base T R){τ:KY}:∀(m k:Nat),k+m<=ops.size->(∀i,k<=i->i<k+m->cR τ∉R i)->jY (T (k+m)) τ->jY (T k) τ:=by
 intro m
 induction m with
 |zero=>intro k _ _ h;exact h
 |succ m ih=>
  intro k hk hne h
  have hok:ops[k+m]? =some ops[k+m]:=by simp[show k+m<ops.size by omega]
  exact ih k (by omega) (fun i h1 h2=>hne i h1 (by omega)) ((hT.step _ _ hok).eff.back τ (hne _ (by omega) (by omega)) h)
theorem jE.norow(hT:jE P GE bid rw ops n base T R){q i k:Nat}{e:TypeId}(hq:q<=ops.size)(hi:i∈rw):¬jY (T q) (true,(i,k),e):=fun h=>by
 have:=hT.back (τ:=(true,(i,k),e)) q 0 (by omega) (fun j _ h2 hr=>hT.rowl j (by omega) i hi k (by simpa[cR]using hr)) (by rw[vaB];exact h)
 exact hT.row0 i hi k e this
variable{E:ma}{bs0:ba}{ds:List Deferred}
structure xv(P:Program)(E:ma)(bid:Nat->Option (Nat×aw))(ops:Array Oper)(n base:Nat)(T:Nat->aq)(R:Nat->List Rs)(bs0:ba)(ds:List Deferred)(listed:Array Bool)(a:Act)(w:World):Prop where
 size:listed.size=ops.size
 defers:a.defers=ds
 down:Nq ops listed
 ex:∃Γ bs ow st,SR P E Γ bs ow w a.tmps st/\JA bs0 bs/\st.tmps.length=n/\
  (∀(k:Nat) o d,ops[k]? =some o->o.dst=some d->cD listed k->st.tmps[d]? =(T ops.size).tmps[d]?)/\
  (∀t,(∀(k:Nat) o,ops[k]? =some o->cD listed k->o.dst≠some t)->st.tmps[t]? =(T 0).tmps[t]?)/\
  (∃m,m<=ops.size/\(∀(i:Nat) o,ops[i]? =some o->aG P o.op=3->(cD listed i↔i<m))/\st.boxes.map bL=(T m).boxes.map bL)/\
  (∀(i:Nat) o,ops[i]? =some o->au o.op=true->¬cD listed i->bs[wK ops base i]? =some none/\st.boxes[wK ops base i]? =jJ P o)/\
  (∀(τ:KY) (m:Nat),m<=ops.size->(∀k,k<ops.size->cR τ∈R k->(cD listed k↔k<m))->jY (T m) τ->jY st τ)/\
  (∀(k i:Nat) B,k<ops.size->bid k=some (i,B)->¬cD listed k->bs[i]? =some none/\st.boxes[i]? =some B)
theorem Hj(hD:EL P ops n)(hT:jE P E.GE bid rw ops n base T R)(hbase:bs0.length<=base)(hbd:∀(k i:Nat) B,bid k=some (i,B)->bs0.length<=i/\i<base){listed:Array Bool}{a:Act}{w:World}(hI:xv P E bid ops n base T R bs0 ds listed a w){j:Nat}(hj:j∈Region.ready .any ops listed)
  (Q:Exit->Act->World->Prop):wpOp P ops Q j (xv P E bid ops n base T R bs0 ds (listed.setIfInBounds j true)) a w:=by
 obtain⟨hj0,oj,hoj,hja⟩:=mem_ready.1 hj
 have hjs:j<ops.size:=(vam.1 hoj).1
 have hnl:¬cD listed j:=by
  unfold cD
  have:j<listed.size:=by rw[hI.size];exact hjs
  simp[this]at hj0 ⊢
  exact hj0
 have haft:∀e∈oj.after.toList,Region.binds .any e=true->cD listed e.on:=fun e he hb=>hja e (by simpa using he) hb
 have hbf:∀i,bf ops i j->cD listed i:=Ea hI.down j oj hoj haft
 have hbf':∀(i:Nat) oi,ops[i]? =some oi->bf ops j i->¬cD listed i:=fun i oi hi hb hli=>hnl (Ea hI.down i oi hi (hI.down i oi hi hli) j hb)
 obtain⟨Γ,bs,ow,st,hS,hK,hlen,ht1,ht2,⟨m,hm,hmw,hmb⟩,hun,htk,hub⟩:=hI.ex
 have hop:∀k,k<ops.size->∃o,ops[k]? =some o:=fun k hk=>⟨_,vaV hk⟩
 have hlook:∀t,t∈looks ops oj->st.tmps[t]? =(T j).tmps[t]?:=by
  intro t ht
  by_cases hex:∃i oi,ops[i]? =some oi/\i≠j/\oi.dst=some t
  ·obtain⟨i,oi,hoi,hij,hdi⟩:=hex
   have honly:∀(k:Nat) o,ops[k]? =some o->o.dst=some t->k=i:=fun k o ho hdk=>by
    by_cases hki:k=i
    ·exact hki
    ·exact absurd hdi (hD.f3 k i o oi t ho hoi hki hdk)
   rcases hD.f4 j oj t hoj ht i oi hoi hij hdi with⟨hlt,hb⟩|⟨hlt,hb⟩
   ·rw[ht1 i oi t hoi hdi (hbf i hb)]
    have:=hT.between (t:=t) (ops.size - j) j (by omega) fun k o h1 h2 ho hk=>by have:=honly k o ho hk;omega
    rwa[show j+(ops.size - j)=ops.size from by omega]at this
   ·rw[ht2 t fun k o ho hlk hk=>by have:=honly k o ho hk;subst this;exact hbf' k o ho hb hlk]
    have:=hT.between (t:=t) j 0 (by omega) fun k o h1 h2 ho hk=>by have:=honly k o ho hk;omega
    rw[vaB]at this
    exact this.symm
  ·rw[ht2 t fun k o ho hlk hk=>hex ⟨k,o,ho,fun e=>by subst e;exact hnl hlk,hk⟩]
   have:=hT.between (t:=t) j 0 (by omega) fun k o h1 h2 ho hk=>hex ⟨k,o,ho,by omega,hk⟩
   rw[vaB]at this
   exact this.symm
 have hopv:∀x∈oj.op.operands.toList,opv E.GE (T j).tmps x=opv E.GE st.tmps x:=by
  intro x hx
  cases x with
  |tmp t=>
   have:t∈looks ops oj:=va3 _ (vbE.2 ⟨.tmp t,hx,rfl⟩)
   show(T j).tmps.getD t .undef=st.tmps.getD t .undef
   rw[vag,vag,hlook t this]
  |const v=>rfl
  |global g=>rfl
  |func f=>rfl
 have hboxes:2<=aG P oj.op->st.boxes.map bL=(T j).boxes.map bL:=by
  intro hc
  rw[hmb]
  refine hT.boxes_eq hm (by omega) fun i o ho hco=>?_
  rw[<-hmw i o ho hco]
  rcases vb5 i j with hlt|rfl|hlt
  ·rcases hD.f5 i j o oj ho hoj hlt with h|h|h|h
   ·omega
   ·omega
   ·exact absurd hco h.1
   ·exact⟨fun _=>hlt,fun _=>hbf i h⟩
  ·exact⟨fun h=>absurd h hnl,fun h=>absurd h (vbD _)⟩
  ·rcases hD.f5 j i oj o hoj ho hlt with h|h|h|h
   ·omega
   ·omega
   ·exact absurd hco h.2
   ·exact⟨fun hl=>absurd hl (hbf' i o ho h),fun hx=>by omega⟩
 have hjl:j<listed.size:=by rw[hI.size];exact hjs
 have hwr:aG P oj.op=3->∀(i:Nat) o,ops[i]? =some o->aG P o.op=3->(cD (listed.setIfInBounds j true) i↔i<j+1):=by
  intro hc i o ho hco
  rw[dj hjl]
  rcases vb5 i j with hlt|rfl|hlt
  ·rcases hD.f5 i j o oj ho hoj hlt with h|h|h|h
   ·omega
   ·omega
   ·exact absurd hco h.1
   ·exact⟨fun _=>by omega,fun _=>.inr (hbf i h)⟩
  ·exact⟨fun _=>by omega,fun _=>.inl rfl⟩
  ·rcases hD.f5 j i oj o hoj ho hlt with h|h|h|h
   ·omega
   ·omega
   ·exact absurd hco h.2
   ·refine⟨fun hl=>?_,fun hx=>by omega⟩
    rcases hl with hl|hl
    ·omega
    ·exact absurd hl (hbf' i o ho h)
 have htok:∀τ,cR τ∈R j->jY (T j) τ->jY st τ:=fun τ hr=>htk τ j (by omega) fun k hk hkr=>by
  rcases vb5 k j with hlt|rfl|hlt
  ·exact⟨fun _=>hlt,fun _=>hbf k (hT.log k j _ hlt hkr hr)⟩
  ·exact⟨fun h=>absurd h hnl,fun h=>absurd h (vbD _)⟩
  ·obtain⟨o,ho⟩:=hop k hk
   exact⟨fun hl=>absurd hl (hbf' k o ho (hT.log j k _ hlt hr hkr)),fun hx=>by omega⟩
 have hTl:=hT.all j (by omega)
 have fin:∀{Γ':aK} {bs':ba} {ow':Nat->Option iD} {w':World} {a':Act} {st':aq},a'.defers=ds->SR P E Γ' bs' ow' w' a'.tmps st'->HN P bs rw oj st st' (T j) (T (j+1)) (R j)->
   (bs'=bs\/(au oj.op=true/\∃b,bs'=bs.set (wK ops base j) (some b))\/∃i B x,bid j=some (i,B)/\bs'=bs.set i x)->xv P E bid ops n base T R bs0 ds (listed.setIfInBounds j true) a' w':=by
  intro Γ' bs' ow' w' a' st' hda hS' hP hbs'
  refine⟨by simp[hI.size],hda,fun k o ho hk e he hb=>?_,Γ',bs',ow',st',hS',?_,?_,?_,?_,?_,?_,?_,?_⟩
  ·rw[dj hjl]at hk ⊢
   rcases hk with rfl|hk
   ·rw[hoj]at ho;cases ho
    exact .inr (haft e he hb)
   ·exact .inr (hI.down k o ho hk e he hb)
  ·rcases hbs' with rfl|⟨_,b,rfl⟩|⟨i',B,x,hb,rfl⟩
   ·exact hK
   ·intro i hi
    rw[vaj (by unfold wK;omega)]
    exact hK i hi
   ·intro i hi
    rw[vaj (by have:=(hbd _ _ _ hb).1;omega)]
    exact hK i hi
  ·have:=hP.tm
   split at this
   ·obtain⟨p,h1,_⟩:=this;rw[h1];simp[hlen]
   ·rw[this.1];exact hlen
  ·intro k o dk ho hdk hk
   rw[dj hjl]at hk
   have hPt:=hP.tm
   by_cases hkj:k=j
   ·subst hkj
    rw[hoj]at ho;cases ho
    rw[hdk]at hPt
    obtain⟨p,h1,h2⟩:=hPt
    have:=hT.between (t:=dk) (ops.size - (k+1)) (k+1) (by omega) fun i o h1 h2 ho hk=>hD.f3 k i oj o dk hoj ho (by omega) hdk hk
    rw[show k+1+(ops.size - (k+1))=ops.size from by omega]at this
    have hdn:=hD.f1 k oj dk hoj hdk
    rw[this,h1,h2,vaf (by rw[hlen];exact hdn),vaf (by rw[hTl];exact hdn)]
   ·have hold:=ht1 k o dk ho hdk (hk.resolve_left hkj)
    split at hPt
    ·rename_i d hd
     obtain⟨p,h1,_⟩:=hPt
     have hne:d≠dk:=fun e=>by subst e;exact hD.f3 j k oj o d hoj ho (Ne.symm hkj) hd hdk
     rw[h1,vaj hne];exact hold
    ·rw[hPt.1];exact hold
  ·intro t hnt
   have hold:=ht2 t fun k o ho hk=>hnt k o ho ((dj hjl).2 (.inr hk))
   have hPt:=hP.tm
   split at hPt
   ·rename_i d hd
    obtain⟨p,h1,_⟩:=hPt
    have hne:d≠t:=fun e=>by subst e;exact hnt j oj hoj ((dj hjl).2 (.inl rfl)) hd
    rw[h1,vaj hne];exact hold
   ·rw[hPt.1];exact hold
  ·by_cases hc:aG P oj.op=3
   ·exact⟨j+1,by omega,hwr hc,hP.b2 hc⟩
   ·refine⟨m,hm,fun i o ho hco=>?_,(hP.b1 hc).trans hmb⟩
    rw[dj hjl,<-hmw i o ho hco]
    constructor
    ·rintro(rfl|hx)
     ·rw[hoj]at ho;cases ho;exact absurd hco hc
     ·exact hx
    ·exact .inr
  ·intro i o ho hmk hni
   have hij:i≠j:=fun e=>by subst e;exact hni ((dj hjl).2 (.inl rfl))
   obtain⟨u1,u2⟩:=hun i o ho hmk fun hx=>hni ((dj hjl).2 (.inr hx))
   refine⟨?_,(hP.un _ u1).trans u2⟩
   rcases hbs' with rfl|⟨hmj,b,rfl⟩|⟨i',B,x,hb,rfl⟩
   ·exact u1
   ·have hne:wK ops base j≠wK ops base i:=by
     rcases Nat.lt_or_gt_of_ne hij with hlt|hlt
     ·have:=H6 (base:=base) ho hmk hlt;omega
     ·have:=H6 (base:=base) hoj hmj hlt;omega
    rw[vaj hne];exact u1
   ·rw[vaj (by have:=(hbd _ _ _ hb).2;unfold wK;omega)];exact u1
  ·intro τ q hq hqk hh
   by_cases hr:cR τ∈R j
   ·have hjq:j<q:=(hqk j hjs hr).1 ((dj hjl).2 (.inl rfl))
    refine hP.got τ hr ?_
    have:=hT.back (τ:=τ) (q - (j+1)) (j+1) (by omega) fun i h1 h2 hir=>by
     have hi:i<ops.size:=by omega
     obtain⟨o,ho⟩:=hop i hi
     have hli:=(hqk i hi hir).2 (by omega)
     rcases(dj hjl).1 hli with hx|hx
     ·omega
     ·exact hbf' i o ho (hT.log j i _ (by omega) hr hir) hx
    rw[show j+1+(q - (j+1))=q from by omega]at this
    exact this hh
   ·refine hP.keep τ hr (fun h1 h2=>?_) (htk τ q hq (fun k hk hkr=>?_) hh)
    ·obtain⟨b,⟨t,k⟩,e⟩:=τ
     simp only at h1 h2
     subst h1
     exact hT.norow hq h2 hh
    rw[<-hqk k hk hkr,dj hjl]
    constructor
    ·exact .inr
    ·rintro(rfl|hx)
     ·exact absurd hkr hr
     ·exact hx
  ·intro k i B hk hb hnk
   have hkj:k≠j:=fun e=>by subst e;exact hnk ((dj hjl).2 (.inl rfl))
   obtain⟨u1,u2⟩:=hub k i B hk hb fun hx=>hnk ((dj hjl).2 (.inr hx))
   refine⟨?_,(hP.un _ u1).trans u2⟩
   rcases hbs' with rfl|⟨_,b,rfl⟩|⟨i',B',x,hb',rfl⟩
   ·exact u1
   ·rw[vaj (by have:=(hbd _ _ _ hb).2;unfold wK;omega)];exact u1
   ·rw[vaj (fun e=>by subst e;exact hkj (hT.binj _ _ _ _ _ hb hb'))];exact u1
 have hbi:∀i B,bid j=some (i,B)->bs[i]? =some none/\st.boxes[i]? =some B:=fun i B hb=>hub j i B hjs hb hnl
 have hid:au oj.op=true->bs[wK ops base j]? =some none/\st.boxes[wK ops base j]? =jJ P oj:=fun hmk=>hun j oj hoj hmk hnl
 have hdd:∀d,oj.dst=some d->d<st.tmps.length:=fun d hd=>by rw[hlen];exact hD.f1 j oj d hoj hd
 have run:eP P E.GE (bid j) rw oj (wK ops base j) (T j) (T (j+1)) (R j)->oj.wp P a w (xv P E bid ops n base T R bs0 ds (listed.setIfInBounds j true)) Q:=by
  intro hs
  refine Oper.wp_mono (fun a' w' hA=>?_) (hs.sound hS hid hbi hopv hboxes htok hdd Q)
  obtain⟨hda,Γ',bs',ow',st',hS',hP,hb⟩:=hA
  exact fin (hda.trans hI.defers) hS' hP hb
 have skip:T (j+1)=pM (T j) oj.dst (.val undef) [] (T j).boxes->R j=rO oj->xv P E bid ops n base T R bs0 ds (listed.setIfInBounds j true) (a.put oj.dst undef) w:=by
  intro hT1 hR1
  refine fin ((ck _ _ _).trans hI.defers) (hS.putv_nil (.val undef) oj.dst rfl) ?_ (.inl rfl)
  rw[hT1,hR1]
  cases hd:oj.dst with
  |none=>exact⟨by rw[hd];exact⟨rfl,rfl⟩,fun _=>rfl,fun hc=>hboxes (by omega),fun τ _ _ h=>h,fun τ hr=>by simp[rO,hd]at hr,fun _ _=>rfl⟩
  |some d=>
   refine⟨by rw[hd];exact⟨_,rfl,rfl⟩,fun _=>rfl,fun hc=>hboxes (by omega),Cq (L:=[]) (by simp[rO,hd]),?_,fun _ _=>rfl⟩
   intro τ hr hh
   exact Hn (L:=[]) τ (by simpa[rO,hd]using hr) hh
 have hstep:=hT.step j oj hoj
 unfold wpOp
 rw[hoj]
 simp only
 unfold sP at hstep
 have hgo:(Region.wanted oj (yielded ops a.tmps)=true->oj.wp P a w (xv P E bid ops n base T R bs0 ds (listed.setIfInBounds j true)) Q)/\
   (¬Region.wanted oj (yielded ops a.tmps)=true->xv P E bid ops n base T R bs0 ds (listed.setIfInBounds j true) (a.put oj.dst undef) w):=by
  split at hstep
  ·rename_i hg
   exact⟨fun _=>run hstep,fun hn=>absurd (by simp[Region.wanted,hg]) hn⟩
  ·rename_i jg want hg
   obtain⟨x,hx,h1,h2⟩:=hstep
   have hx':nH ops st.tmps jg=some x:=by
    rw[<-hx]
    unfold nH
    cases hdg:(ops[jg]?).bind (·.dst)with
    |none=>rfl
    |some t=>
     have:t∈looks ops oj:=va0 _ (by rw[hg];simp[hdg])
     simp only[hlook t this]
   have hw:Region.wanted oj (yielded ops a.tmps)=(x==some want):=by simp[Region.wanted,hg,Az hS hx']
   rw[hw]
   refine⟨fun hy=>run (h1 (by simpa using hy)),fun hy=>?_⟩
   obtain⟨k1,k2⟩:=h2 (by simpa using hy)
   exact skip k1 k2
 by_cases hw:Region.wanted oj (yielded ops a.tmps)=true
 ·rw[var hw];exact .inl (hgo.1 hw)
 ·rw[vav hw];exact hgo.2 hw
theorem HH(hD:EL P ops n){listed:Array Bool}(hs:listed.size=ops.size)(hr:Region.ready .any ops listed=[]):∀j,j<ops.size->cD listed j:=by
 intro j
 induction j using Nat.strongRecOn with
 | _ j ih =>
  intro hj
  by_cases hl:cD listed j
  ·exact hl
  ·exfalso
   have hoj:ops[j]? =some ops[j]:=by simp[hj]
   have:j∈Region.ready .any ops listed:=mem_ready.2 ⟨by
    unfold cD at hl
    have:j<listed.size:=by omega
    simp[this]at hl ⊢;exact hl,_,hoj,fun e he hb=>by
    have hlt:=hD.f2 j _ hoj e (by simpa using he) hb
    exact ih e.on hlt (by omega)⟩
   rw[hr]at this;cases this
theorem SR.rights{Γ:aK}{bs:ba}{ow:Nat->Option iD}{w:World}{a:Array Value}{st st2:aq}(h:SR P E Γ bs ow w a st)(h1:st2.tmps=st.tmps)(h2:st2.boxes.map bL=st.boxes.map bL)(h3:∀τ,jY st2 τ->jY st τ):SR P E Γ bs ow w a st2:=
 { h with
  sz:=by rw[h1];exact h.sz
  tm:=by rw[h1];exact h.tm
  bl:=by have:=vbe List.length h2;simp at this;rw[h.bl,this]
  bx:=fun i b B hb hB=>by
   have hg:=IU h2 i
   rw[hB]at hg
   cases hB1:st.boxes[i]? with
   |none=>rw[hB1]at hg;cases hg
   | some B1 =>
    rw[hB1]at hg
    obtain⟨k1,k2,k3⟩:=h.bx i b B1 hb hB1
    refine⟨k1,k2,?_⟩
    cases B<;>cases B1<;>simp[bL]at hg
    ·subst hg;exact k3
    ·subst hg;exact k3
    ·trivial
  ot:=fun t k e he=>h.ot t k e (h3 (false,(t,k),e) he)
  ob:=fun i j e cs own b hB hj hb=>by
   obtain⟨cs',own',e1,e2⟩:=eg.1 (h3 (true,(i,j),e) ⟨cs,own,hB,hj⟩)
   exact h.ob i j e cs' own' b e1 e2 hb}
theorem IM(hD:EL P ops n)(hT:jE P E.GE bid rw ops n base T R)(hbase:bs0.length<=base)(hbd:∀(k i:Nat) B,bid k=some (i,B)->bs0.length<=i/\i<base){Q:Exit->Act->World->Prop}
  (hQ:∀a w,a.defers=ds->FE P E bs0 (T ops.size) a w->Q .normal a w):∀(fuel:Nat) (listed:Array Bool) (a:Act) (w:World),xv P E bid ops n base T R bs0 ds listed a w->qH ops.size listed<=fuel->wpAny P .any ops Q fuel listed a w:=by
 have hend:∀(listed:Array Bool) (a:Act) (w:World),xv P E bid ops n base T R bs0 ds listed a w->(∀j,j<ops.size->cD listed j)->Q .normal a w:=by
  intro listed a w hI hall
  obtain⟨Γ,bs,ow,st,hS,hK,hlen,ht1,ht2,⟨m,hm,hmw,hmb⟩,_,htk,_⟩:=hI.ex
  have e1:st.tmps=(T ops.size).tmps:=by
   apply va5
   intro t
   by_cases hex:∃(k:Nat) (o:Oper),ops[k]? =some o/\o.dst=some t
   ·obtain⟨k,o,ho,hd⟩:=hex
    exact ht1 k o t ho hd (hall k (vam.1 ho).1)
   ·rw[ht2 t fun k o ho _ hd=>hex ⟨k,o,ho,hd⟩]
    have:=hT.between (t:=t) ops.size 0 (by omega) fun k o _ _ ho hd=>hex ⟨k,o,ho,hd⟩
    rw[vaB]at this
    exact this.symm
  have e2:st.boxes.map bL=(T ops.size).boxes.map bL:=by
   rw[hmb]
   refine hT.boxes_eq hm (vaq _) fun i o ho hco=>?_
   rw[<-hmw i o ho hco]
   have hi:=(vam.1 ho).1
   exact⟨fun _=>hi,fun _=>hall i hi⟩
  exact hQ a w hI.defers ⟨Γ,bs,ow,hS.rights e1.symm e2.symm fun τ hh=>htk τ ops.size (vaq _) (fun k hk _=>⟨fun _=>hk,fun _=>hall k hk⟩) hh,hK⟩
 intro fuel
 induction fuel with
 | zero =>
  intro listed a w hI hu
  have hall:∀j,j<ops.size->cD listed j:=by
   intro j hj
   by_cases hl:cD listed j
   ·exact hl
   ·exfalso
    have:j∈(List.range ops.size).filter fun i=>!listed.getD i false:=by
     rw[vaT,vbj]
     exact⟨hj,by unfold cD at hl;simpa using hl⟩
    have:=List.length_pos_of_mem this
    unfold qH at hu
    omega
  refine⟨?_,hend listed a w hI hall⟩
  rw[List.eq_nil_iff_forall_not_mem]
  intro j hj
  obtain⟨h0,o,ho,_⟩:=mem_ready.1 hj
  have hlt:=(vam.1 ho).1
  have:=hall j hlt
  unfold cD at this
  have hls:j<listed.size:=by rw[hI.size];exact hlt
  simp[hls]at this h0
  rw[this]at h0;cases h0
 | succ fuel ih =>
  intro listed a w hI hu
  refine⟨fun hr=>hend listed a w hI (HH hD hI.size hr),fun j hj=>?_⟩
  refine wpOp_mono (fun a' w' hI'=>ih _ a' w' hI' ?_) (Hj hD hT hbase hbd hI hj Q)
  obtain⟨h0,o,ho,_⟩:=mem_ready.1 hj
  have hlt:=(vam.1 ho).1
  have hls:j<listed.size:=by rw[hI.size];exact hlt
  have:qH ops.size (listed.setIfInBounds j true)<qH ops.size listed:=by
   unfold qH
   refine Ga (fun i hi=>?_) (vbj.2 hlt) ?_ ?_
   ·have hnl:¬cD (listed.setIfInBounds j true) i:=by unfold cD;simpa using hi
    have:¬cD listed i:=fun hx=>hnl ((dj hls).2 (.inr hx))
    unfold cD at this;simpa using this
   ·simp[hls]at h0;simp[hls,h0]
   ·simp[hls]
  omega
end
def Eb(br:List (Nat×Nat))(H:List aw)(k:Nat):Option (Nat×aw):=match br.find? (fun x=>x.1==k)with
 |some x=>(H[x.2]?).map fun B=>(x.2,B)
 |none=>none
def MD(br:List (Nat×Nat))(lo n:Nat):Bool:=br.all (fun x=>decide (lo<=x.2)&&decide (x.2<lo+n))&&br.all fun x=>br.all fun y=>x.2 !=y.2||x.1==y.1
def L8(rw:List Nat)(H:List aw):Bool:=rw.all fun i=>match H[i]? with
 |some (.cells _ [])=>true
 |_=>false
def Cw(rw:List Nat)(lg:List (List Rs)):Bool:=lg.all fun l=>l.all fun r=>!(r.1&&rw.contains r.2.1)
theorem uv{br:List (Nat×Nat)}{H:List aw}{k i:Nat}{B:aw}(h:Eb br H k=some (i,B)):(k,i)∈br/\H[i]? =some B:=by
 unfold Eb at h
 split at h
 ·rename_i x hx
  obtain⟨B',h1,h2⟩:=cP h
  cases h2
  have h3:=vbF hx
  simp only[vaP]at h3
  subst h3
  exact⟨vba hx,h1⟩
 ·cases h
def Ko(P:Program)(GE:List (Nat×List PVal))(ops:Array Oper)(an:List Nat)(X:List aw)(br:List (Nat×Nat))(rw:List Nat)(K:aq->Prop)(st:aq):Prop:=
 drawD P ops.toList st.tmps.length an=true/\(MD br st.boxes.length X.length&&L8 rw (st.boxes++X))=true/\
  kh P GE (Eb br (st.boxes++X)) rw ops (fun lg st'=>(IX an lg&&Cw rw lg)=true/\K st') ops.toList (st.boxes.length+X.length) [] {st with boxes:=st.boxes++X++ek P ops.toList}
section
variable{P:Program}{E:ma}{w:World}{a:Act}{st:aq}
theorem E4{bs0:ba}{ops:Array Oper}{an:List Nat}{X:List aw}{br:List (Nat×Nat)}{rw:List Nat}{K:aq->Prop}{Q:Exit->Act->World->Prop}(hR:FE P E bs0 st a w)(hl:bs0.length<=st.boxes.length)
  (hQ:∀a' w' st',a'.defers=a.defers->FE P E bs0 st' a' w'->K st'->Q .normal a' w') (hp:Ko P E.GE ops an X br rw K st):wpAny P .any ops Q ops.size (Array.replicate ops.size false) a {w with drawn:=w.drawn+1}:=by
 obtain⟨hok,hbr,hp⟩:=hp
 rw[vah]at hbr
 obtain⟨hbr,hrow⟩:=hbr
 obtain⟨hD,han⟩:=Hi hok
 obtain⟨T,R,t0,tl,⟨tlog,t1⟩,t2⟩:=vq ops.toList _ _ _ hp
 rw[va7,vah]at tlog
 obtain⟨tlog,tlr⟩:=tlog
 obtain⟨Γ,bs,ow,h,hk⟩:=hR
 have hxl:(st.boxes++X).length=st.boxes.length+X.length:=by simp
 unfold MD at hbr
 simp only[vah,vau,vap,vaU,bne_iff_ne,ne_eq,vaP]at hbr
 have hT:jE P E.GE (Eb br (st.boxes++X)) rw ops st.tmps.length (st.boxes.length+X.length) T (fun k=>R.getD k []):={
  len:=by rw[t0]
  step:=fun k o ho=>by have:=t2 k o (by simpa using ho);simpa using this
  log:=fun i j r hij hi hj=>by unfold bf;rw[han];exact IY tlog hij hi hj
  row0:=fun i hi k e hh=>by
   rw[t0]at hh
   obtain⟨cs,own,e1,e2⟩:=eg.1 hh
   have hri:=vau.1 hrow i hi
   split at hri
   ·rename_i cs' heq
    simp only at e1
    rw[vac (aj heq),heq]at e1
    cases e1;cases e2
   ·cases hri
  rowl:=fun j hj i hi k hr=>by
   unfold Cw at tlr
   simp only[vau]at tlr
   have hjl:j<R.length:=by rw[tl];simpa using hj
   have hm:R.getD j []∈R:=by
    rw[vag,vaa hjl];exact vaC hjl
   have:=tlr _ hm _ hr
   simp[hi]at this
  binj:=fun j k i B B' h1 h2=>by
   have m1:=(uv h1).1
   have m2:=(uv h2).1
   rcases hbr.2 _ m1 _ m2 with hx|hx
   ·exact absurd rfl hx
   ·exact hx}
 have hbd:∀(k i:Nat) B,Eb br (st.boxes++X) k=some (i,B)->bs0.length<=i/\i<st.boxes.length+X.length:=fun k i B hb=>by
  have:=hbr.1 _ (uv hb).1
  simp only at this
  omega
 have hS0:=(h.drew).extend X
 have hS:=hS0.extend (ek P ops.toList)
 refine IM hD hT (by omega) hbd (ds:=a.defers) (fun a' w' hd hR'=>hQ a' w' _ hd hR' (by simpa using t1)) ops.size _ a _ ?_ ?_
 ·refine⟨by simp,rfl,fun j o ho hj=>?_,Γ,_,ow,_,hS,fun i hi=>?_,rfl,fun k o d ho hd hk'=>?_,fun t _=>by rw[t0],⟨0,vaL _,fun i o ho hc=>?_,by rw[t0]⟩,fun i o ho hm _=>?_,fun τ m hm hmk hh=>?_,fun k i B _ hb _=>?_⟩
  ·unfold cD at hj
   rw[xO]at hj;cases hj
  ·rw[vac (by rw[vaY,h.bl];omega),vac (by rw[h.bl];omega)];exact hk i hi
  ·unfold cD at hk'
   rw[xO]at hk';cases hk'
  ·unfold cD
   rw[xO]
   constructor
   ·intro hx;cases hx
   ·intro hx;exact absurd hx (vaK _)
  ·have hl':ops.toList[i]? =some o:=by simpa using ho
   have hget:=yj (P:=P) ops.toList i o hl' hm
   have hlt:bG (ops.toList.take i)<(ek P ops.toList).length:=by
    have:∃B,jJ P o=some B:=by cases hx:o.op<;>simp[au,hx]at hm<;>exact⟨_,by simp[jJ,hx];rfl⟩
    obtain⟨B,hB⟩:=this
    rw[hB]at hget
    exact aj hget
   have hbl2:(bs++List.replicate X.length none).length=st.boxes.length+X.length:=by simp[h.bl]
   unfold wK
   refine⟨?_,?_⟩
   ·rw[vae (by rw[hbl2];omega),vaH,var (by rw[hbl2];omega)]
   ·show(st.boxes++X++ek P ops.toList)[_]? =_
    rw[vae (by omega),hxl,vb6]
    exact hget
  ·have:=hT.back (τ:=τ) m 0 (by omega) fun i h1 h2 hir=>by
    have:=(hmk i (by omega) hir).2 (by omega)
    unfold cD at this
    rw[xO]at this;cases this
   rw[vaB,t0]at this
   exact this hh
  ·obtain⟨m1,m2⟩:=uv hb
   have:=hbr.1 _ m1
   simp only at this
   have hbl2:(bs++List.replicate X.length none).length=st.boxes.length+X.length:=by simp[h.bl]
   refine⟨?_,?_⟩
   ·rw[vac (by omega),vae (by rw[h.bl];omega),vaH,var (by rw[h.bl];omega)]
   ·show(st.boxes++X++ek P ops.toList)[_]? =_
    rw[vac (by omega)];exact m2
 ·unfold qH
  have:=vcl (fun i=>!(Array.replicate ops.size false).getD i false) (List.range ops.size)
  simpa using this
end
def Ku(P:Program)(op:Op):Bool:=!Ek op&&!au op&&bP P op !=3
def lT(P:Program)(GE:List (Nat×List PVal))(o:Oper)(sc:List It)(st:aq)(K:List It->List Rs->aq->Prop):Prop:=
 match o.dst with
 |some d=>match Ku P o.op with
  |true=>HY P GE o.op st.tmps st.boxes sc fun p _ sc'=>ep st.tmps d p fun tm=>bh (bI d st.own) fun ow=>K sc' [(false,d,0)] ⟨tm,st.boxes,ow⟩
  |false=>False
 |none=>False
def ki(st:aq)(d:Nat)(p:PVal)(L:List (Nat×TypeId))(sc:List It)(K:List It->List Rs->aq->Prop):Prop:=
 ep st.tmps d p fun tm=>bh ((L.map fun x=>((d,x.1),x.2))++bI d st.own) fun ow=>K sc [(false,d,0)] ⟨tm,st.boxes,ow⟩
def vB (P:Program) (GE:List (Nat×List PVal)) (T:TypeId) (x:Operand) (vt:PVal) (vs:List PVal) (own:Option (Nat×List (Nat×TypeId))) (sc:List It) (st:aq) (K:List It→List Rs→aq→Prop):Prop :=
 j0 GE st.tmps x fun vx=>match vx with
 | .bptr i off => bZ vt = some vs∧ig st.boxes i fun B => match B with
  | .cells cs ow => match decide (vs.length = P.cellsOf T) && (P.info? T).isSome && decide (off + vs.length ≤ cs.length) && vs.all PVal.one with
   | true => bh (cs.take off ++ vs ++ cs.drop (off + vs.length)) fun cs' => bh (rH i off vs.length) fun rg => match own with
    |none=>bh (ow.filter fun y=>y.1<off||off+vs.length<=y.1) fun ow'=>ep st.boxes i (.cells cs' ow') fun H=>K sc rg ⟨st.tmps,H,st.own⟩
    |some (t,L)=>match pI (L.map (·.1))&&L.all (fun y=>decide (y.1<vs.length))with
     | true => bh ((L.map fun y => (off + y.1,y.2)).reverse ++ ow.filter fun y => y.1 < off || off + vs.length ≤ y.1) fun ow' => ep st.boxes i (.cells cs' ow') fun H =>
       bh (st.own.filter fun x=>!L.any fun y=>x.1==(t,y.1)) fun so=>K sc ((false,t,0)::rg) ⟨st.tmps,H,so⟩
     |false=>False
   |false=>False
  |_=>False
 |_=>False
def N8(L:List (Nat×TypeId)):Bool:=match L with
 |[(0,_)]=>true
 |_=>false
def HX(P:Program)(GE:List (Nat×List PVal))(rw:List Nat)(T:TypeId)(x:Operand)(vt:PVal)(cs':List PVal)(sc:List It)(st:aq)(K:List It->List Rs->aq->Prop):Prop:=
 j0 GE st.tmps x fun vx=>match vx with
 | .bptr i off => match rw.contains i with
  |true=>ig st.boxes i fun B=>match B with
   |.cells cs []=>cH P T (.bptr 0 off) vt [.cells cs []]=some [.cells cs' []]/\ep st.boxes i (.cells cs' []) fun H=>K sc [] ⟨st.tmps,H,st.own⟩
   |_=>False
  |false=>False
 |_=>False
def BK (P:Program) (GE:List (Nat×List PVal)) (A:List Nat) (bi:Option (Nat×aw)) (rw:List Nat) (o:Oper) (id:Nat) (sc:List It) (st:aq) (K:List It→List Rs→aq→Prop):Prop :=
 match o.op,o.dst with
 | .call { callee := .value f,args,.. },some d => match sc with
  |.c r ro::sc'=>j0 GE st.tmps f fun vf=>match vf with
   |.func (.func g) first cap=>DO GE st.tmps args.toList fun as=>CC P GE g (first++as++cap) r ro/\ki st d r ro sc' K
   |_=>False
  | .cg c :: sc' => match c.ρ with
   | [] => oH P GE f args.toList c st fun _ => ep st.tmps d c.r fun tm => bh ((c.ro.map fun x => ((d,x.1),x.2)) ++ bI d (st.own.filter fun z => !c.oa.any fun x => z.1 == (x.t,x.k))) fun ow =>
     bh ((false,d,0)::c.oa.map fun x=>(false,x.t,0)) fun rs=>K sc' rs ⟨tm,st.boxes,ow⟩
   |_=>False
  | .ar i e n _ :: sc' => match bi,args with
   |some (j,.cells cs0 []),⟨[x]⟩=>j0 GE st.tmps f fun vf=>j0 GE st.tmps x fun vx=>match vf,vx,i==j with
    | .func (.func g) [] [],.slice ns,true => kT P g e∧(0 < P.cellsOf e∧(∀ x ∈ ns,x.length = P.cellsOf e∧∀ q ∈ x,q.one = true)∧ns.length ≤ di)∧(n = ns.length∧cs0 = ns.flatten) ∧
      ep st.tmps d (.bsl i 0 n) fun tm=>bh (bI d st.own) fun ow=>K sc' [(false,d,0)] ⟨tm,st.boxes,ow⟩
    |_,_,_=>False
   |_,_=>False
  |_=>False
 |.alloc t,some d=>match(gI P t).isSome with
  |true=>ki st d (.bptr id 0) [] sc K
  |false=>False
 |.makeMap _ none,some d=>ki st d (.mapr id) [] sc K
 |.buildSlice T len parts,some d=>pJ GE st.tmps parts.toList fun ps=>match sc,P.underlying T with
  |.v p::sc',some (.slice e)=>dR P T len ps=some p/\ki st d p [(0,e)] sc' K
  |_,_=>False
 | .build T parts,some d => match sc with
  |.b p L::sc'=>pJ GE st.tmps parts.toList fun ps=>dc P T ps=some p/\rB P T ps L/\ki st d p L sc' K
  | .ar t k _ _ :: .v p :: sc' => match decide (d ≠ t) && (parts.toList.any fun x => wL t x.2) with
   |true=>pD st.tmps t fun vt=>match vt with
    | .slice _ => pJ GE st.tmps parts.toList fun ps => dc P T ps = some p∧Pa P T (GD GE st.tmps parts.toList t) k ∧
      ep st.tmps d p fun tm=>bh (fy d (fun x=>if x=(t,0)then(d,k)else x) st.own) fun ow=>K sc' [(false,d,0),(false,t,0)] ⟨tm,st.boxes,ow⟩
    |_=>False
   |false=>False
  |_=>lT P GE o sc st K
 |.assign (.const v),some d=>match mW P o.type v with
  |some e=>ki st d (.slice []) [(0,e)] sc K
  |none=>lT P GE o sc st K
 |.move (.const v),some d=>match mW P o.type v with
  |some e=>ki st d (.slice []) [(0,e)] sc K
  |none=>lT P GE o sc st K
 |.assign (.tmp t),some d=>match decide (d≠t)with
  |true=>pD st.tmps t fun p=>ep st.tmps d p fun tm=>bh (fy d (fun x=>if x.1=t then(d,x.2)else x) st.own) fun ow=>K sc [(false,d,0),(false,t,0)] ⟨tm,st.boxes,ow⟩
  |false=>False
 |.move (.tmp t),some d=>match decide (d∈A)&&decide (d≠t)with
  |true=>pD st.tmps t fun p=>ep st.tmps d p fun tm=>bh (fy d (fun x=>if x.1=t then(d,x.2)else x) st.own) fun ow=>K sc [(false,d,0),(false,t,0)] ⟨tm,st.boxes,ow⟩
  |false=>lT P GE o sc st K
 | .call { callee := .builtin .append,args:=⟨[.tmp t,y]⟩,argTypes:=⟨[T,T']⟩ },some d => pD st.tmps t fun ve => j0 GE st.tmps y fun vn => match ve,vn,sc,P.underlying T with
  |.slice es,.slice ns,.v p::sc',some (.slice e)=>match decide (T=T')&&decide (((t,0),e)∈st.own)with
   |true=>iz P T es ns=some p/\ep st.tmps d p fun tm=>bh (((d,0),e)::bI d (st.own.filter fun x=>x.1 !=(t,0))) fun ow=>K sc' [(false,d,0),(false,t,0)] ⟨tm,st.boxes,ow⟩
   |false=>False
  |_,_,_,_=>False
 | .load T x,some d => match sc,P.underlying T,decide (d ∈ A) with
  | .z l :: sc',some (.struct _),_ => j0 GE st.tmps x fun vx => match vx with
   | .bptr i off => ig st.boxes i fun B => match B with
    | .cells cs own => ch P T (cs.drop off) = some (.agg l)∧bh (Ii off (P.cellsOf T) own) fun L => match pI (L.map (·.1)) with
     | true => ep st.tmps d (.agg l) fun tm => bh (own.filter fun x => !L.any fun y => x.1 == off + y.1) fun own' => ep st.boxes i (.cells cs own') fun H =>
       bh ((L.map fun y=>((d,y.1),y.2)).reverse++bI d st.own) fun ow=>bh ((false,d,0)::L.map fun y=>(true,i,off+y.1)) fun rs=>K sc' rs ⟨tm,H,ow⟩
     |false=>False
    |_=>False
   |_=>False
  | _,some (.slice e),true => j0 GE st.tmps x fun vx => match vx with
   | .bptr i off => ig st.boxes i fun B => match B with
    | .cells cs own => match decide ((off,e) ∈ own) && decide (off < cs.length) with
     | true => pD cs off fun p => ep st.tmps d p fun tm => bh (own.filter fun x => !([((0:Nat),e)].any fun y => x.1 == off + y.1)) fun own' => ep st.boxes i (.cells cs own') fun H =>
       bh (([((0:Nat),e)].map fun y=>((d,y.1),y.2)).reverse++bI d st.own) fun ow=>bh ((false,d,0)::[((0:Nat),e)].map fun y=>(true,i,off+y.1)) fun rs=>K sc rs ⟨tm,H,ow⟩
     |false=>False
    |_=>False
   |_=>False
  |_,_,_=>lT P GE o sc st K
 | .store T x (.tmp t),none => pD st.tmps t fun vt => match sc with
  |.y vs::sc'=>bh (Et t st.own) fun L=>match vt with
   |.agg l=>vB P GE T x (.agg l) vs (some (t,L)) sc' st K
   |_=>False
  | .s :: sc' => match vt.one with
   |true=>bh (Et t st.own) fun L=>match N8 L with
    |true=>vB P GE T x vt [vt] (some (t,L)) sc' st K
    |false=>vB P GE T x vt [vt] none sc' st K
   |false=>False
  |.x vs::sc'=>vB P GE T x vt vs none sc' st K
  |.w _ (.cells cs' [])::sc'=>HX P GE rw T x vt cs' sc' st K
  |_=>False
 | .store T x y,none => j0 GE st.tmps y fun vt => match sc with
  |.s::sc'=>match vt.one with
   |true=>vB P GE T x vt [vt] none sc' st K
   |false=>False
  |.x vs::sc'=>vB P GE T x vt vs none sc' st K
  |.w _ (.cells cs' [])::sc'=>HX P GE rw T x vt cs' sc' st K
  |_=>False
 | .mapUpdate t m k x,none => j0 GE st.tmps m fun vm => j0 GE st.tmps k fun vk => j0 GE st.tmps x fun vx => match vm,sc with
  |.mapr i,.w _ (.map es')::sc'=>ig st.boxes i fun B=>match B with
   |.map es=>Ew P t es vk vx=some es'/\ep st.boxes i (.map es') fun H=>K sc' [] ⟨st.tmps,H,st.own⟩
   |_=>False
  |_,_=>False
 |_,_=>lT P GE o sc st K
def wI(P:Program)(GE:List (Nat×List PVal))(bid:Nat->Option (Nat×aw))(rw:List Nat)(A:List Nat)(ops:Array Oper)(an:List Nat)(K:List It->aq->Prop):List Oper->Nat->Nat->List It->List (List Rs)->aq->Prop
 |[],_,_,sc,lg,st=>match IX an lg&&Cw rw lg with
  |true=>K sc st
  |false=>False
 | o :: rest,pos,id,sc,lg,st =>
  let step (sc:List It) (st:aq):Prop:=BK P GE A (bid lg.length) rw o id sc st fun sc' rs st'=>bh (lg++[rs]) fun lg'=>wI P GE bid rw A ops an K rest (pos+1) (id+if au o.op then 1 else 0) sc' lg' st'
  match o.guard with
  |none=>step sc st
  |some (j,want)=>BJ ops j want pos sc st fun b sc' st'=>match b with
   |true=>step sc' st'
   |false=>DY st' o.dst (.val undef) [] st'.boxes fun st''=>bh (lg++[rO o]) fun lg'=>wI P GE bid rw A ops an K rest (pos+1) (id+if au o.op then 1 else 0) sc' lg' st''
section
variable{P:Program}{GE:List (Nat×List PVal)}{A:List Nat}{ops:Array Oper}
theorem fH{bi:Option (Nat×aw)}{rw:List Nat}{o:Oper}{id:Nat}{sc:List It}{st:aq}{K:List It->List Rs->aq->Prop}(h:lT P GE o sc st K):∃s' rs,eP P GE bi rw o id st s' rs/\∃sc',K sc' rs s':=by
 unfold lT at h
 split at h
 ·rename_i d hd
  split at h
  ·rename_i hp
   unfold Ku at hp
   simp only[vah,vaW,bne_iff_ne,ne_eq]at hp
   obtain⟨⟨p1,p2⟩,p3⟩:=hp
   obtain⟨p,H',sc',k1,k2,_⟩:=Ap (id:=id) h
   simp only[bm,aA]at k2
   have:=Ja p3 p2 k1
   subst this
   exact⟨_,_,.ev d p hd p1 p2 p3 k1,sc',k2⟩
  ·exact h.elim
 ·exact h.elim
theorem oJ{bi:Option (Nat×aw)}{rw:List Nat}{o:Oper}{id:Nat}{T:TypeId}{x y:Operand}{vs:List PVal}{sc:List It}{st:aq}{K:List It->List Rs->aq->Prop}(ho:o.op=.store T x y)(hd:o.dst=none)(h:vB P GE T x (opv GE st.tmps y) vs none sc st K):∃s' rs,eP P GE bi rw o id st s' rs/\∃sc',K sc' rs s':=by
 unfold vB at h
 rw[bK]at h
 split at h
 ·rename_i i off hx
  obtain⟨hvs,h⟩:=h
  obtain⟨B,hB,h⟩:=cM h
  split at h
  ·rename_i cs own
   split at h
   ·rename_i hc
    simp only[aA,bm]at h
    simp only[vah,vap]at hc
    exact⟨_,_,.st T x y i off vs cs own hd ho hx hvs hB (by simp only[cH,hvs,hB];rw[var ⟨hc.1.1.1,hc.1.1.2,hc.1.2,hc.2⟩]),sc,h⟩
   ·exact h.elim
  ·exact h.elim
 ·exact h.elim
theorem xK{bi:Option (Nat×aw)}{rw:List Nat}{o:Oper}{id:Nat}{T:TypeId}{x:Operand}{t:Nat}{vt:PVal}{vs:List PVal}{L:List (Nat×TypeId)}{sc:List It}{st:aq}{K:List It->List Rs->aq->Prop}(ho:o.op=.store T x (.tmp t))(hd:o.dst=none)
  (hvt:st.tmps.getD t .undef=vt) (hk:(∃l,vt=.agg l)\/(vt.one=true/\∃e,L=[(0,e)])) (hm:∀y∈L,((t,y.1),y.2)∈st.own) (h:vB P GE T x vt vs (some (t,L)) sc st K):
  ∃s' rs,eP P GE bi rw o id st s' rs/\∃sc',K sc' rs s':=by
 subst hvt
 unfold vB at h
 rw[bK]at h
 split at h
 ·rename_i i off hx
  obtain⟨hvs,h⟩:=h
  obtain⟨B,hB,h⟩:=cM h
  split at h
  ·rename_i cs own
   split at h
   ·rename_i hc
    simp only[aA]at h
    split at h
    ·rename_i hl
     simp only[bm]at h
     simp only[vah,vap,vau]at hc hl
     exact⟨_,_,.sto T x t i off vs cs own L hd ho hx hvs hB (by simp only[cH,hvs,hB];rw[var ⟨hc.1.1.1,hc.1.1.2,hc.1.2,vau.2 hc.2⟩]) hk hm (lc hl.1) (fun y hy=>by simpa using hl.2 y hy),sc,h⟩
    ·exact h.elim
   ·exact h.elim
  ·exact h.elim
 ·exact h.elim
theorem Ao{bi:Option (Nat×aw)}{rw:List Nat}{o:Oper}{id:Nat}{T:TypeId}{x y:Operand}{cs':List PVal}{sc:List It}{st:aq}{K:List It->List Rs->aq->Prop}(ho:o.op=.store T x y)(hd:o.dst=none)(h:HX P GE rw T x (opv GE st.tmps y) cs' sc st K):∃s' rs,eP P GE bi rw o id st s' rs/\∃sc',K sc' rs s':=by
 unfold HX at h
 rw[bK]at h
 split at h
 ·rename_i i off hx
  split at h
  ·rename_i hi
   obtain⟨B,hB,h⟩:=cM h
   split at h
   ·rename_i cs
    obtain⟨h1,h2⟩:=h
    rw[bm]at h2
    exact⟨_,_,.stR T x y i off cs cs' hd ho hx hB h1 (by simpa using hi),sc,h2⟩
   ·exact h.elim
  ·exact h.elim
 ·exact h.elim
theorem I2{n:Nat}{args:List Operand}{own own':List ((Nat×Nat)×TypeId)}{oa:List OA}(h:I1 n args own oa=true)(hs:∀x∈oa,((x.t,x.k),x.e)∈own->((x.t,x.k),x.e)∈own'):I1 n args own' oa=true:=by
 unfold I1 at h ⊢
 rw[vah]at h ⊢
 refine⟨vau.2 fun x hx=>?_,h.2⟩
 have:=vau.1 h.1 x hx
 simp only[vah,vaU,vap]at this ⊢
 exact⟨this.1,this.2.imp_right fun⟨k1,k2⟩=>⟨hs x hx k1,k2⟩⟩
theorem Cc{f:Operand}{args:List Operand}{c:GC}{s:aq}{K:List aw->Prop}(hρ:c.ρ=[])(h:oH P GE f args c s K):K s.boxes/\∀st:aq,(∀x,x=f\/x∈args->opv GE s.tmps x=opv GE st.tmps x)->(∀x∈c.oa,((x.t,x.k),x.e)∈s.own->((x.t,x.k),x.e)∈st.own)->FJ P GE f args st c.r c.ro st.boxes c.oa:=by
 have h0:=h
 unfold oH at h
 rw[bK]at h
 split at h
 ·rename_i g first cap hf
  rw[mX]at h
  split at h
  ·rename_i hb
   obtain⟨h1,h2,h3,h4,h5,h6⟩:=h
   rw[uK]at h6
   have hs:∀(H:List aw),uf H c.ρ c.Bs'=H:=fun H=>by rw[hρ];cases c.Bs'<;>rfl
   rw[hs]at h6
   refine⟨h6,fun st ho how=>?_⟩
   have key:oH P GE f args c st (fun H=>H=st.boxes):=by
    unfold oH
    rw[bK,<-ho f (.inl rfl),hf]
    simp only
    rw[mX,show args.map (opv GE st.tmps)=args.map (opv GE s.tmps)from vaZ fun x hx=>(ho x (.inr hx)).symm]
    have hb2:(pI c.ρ&&I1 first.length args st.own c.oa&&c.Bs.all If&&decide (c.Bs'.length=c.ρ.length))=true:=by
     simp only[vah]at hb ⊢
     exact⟨⟨⟨hb.1.1.1,I2 hb.1.1.2 how⟩,hb.1.2⟩,hb.2⟩
    rw[hb2]
    simp only
    refine⟨h1,h2,?_,h4,h5,?_⟩
    ·rw[hρ]at h3 ⊢
     cases hBs:c.Bs<;>cases hHc:c.Hc<;>rw[hBs,hHc]at h3<;>first|exact h3.elim|trivial
    ·rw[uK,hs]
   obtain⟨H',k1,rfl⟩:=vw key
   exact k1
  ·exact h.elim
 ·exact h.elim
theorem DH{bi:Option (Nat×aw)}{rw:List Nat}{o:Oper}{id:Nat}{sc:List It}{st:aq}{K:List It->List Rs->aq->Prop}(h:BK P GE A bi rw o id sc st K):∃s' rs,eP P GE bi rw o id st s' rs/\∃sc',K sc' rs s':=by
 unfold BK at h
 split at h
 ·rename_i f args tys d ho hd
  split at h
  ·rename_i r ro sc'
   rw[bK]at h
   split at h
   ·rename_i g first cap hf
    rw[mX]at h
    obtain⟨⟨h1,h2⟩,h3⟩:=h
    simp only[ki,bm,aA]at h3
    exact⟨_,_,.call d f args tys g first cap r ro ho hd hf h1 h2,sc',h3⟩
   ·exact h.elim
  ·rename_i c sc'
   split at h
   ·rename_i hρ
    obtain⟨h1,h2⟩:=Cc hρ h
    simp only[bm,aA]at h1
    exact⟨_,_,.callR d f args tys c.r c.ro c.oa ho hd h2,sc',h1⟩
   ·exact h.elim
  ·rename_i i e n cs sc'
   split at h
   ·rename_i j cs0 x
    simp only[bK]at h
    split at h
    ·rename_i g ns hf hx hij
     simp only[vaP]at hij
     subst hij
     obtain⟨h1,⟨h2,h3,h4⟩,⟨rfl,rfl⟩,h5⟩:=h
     simp only[bm,aA]at h5
     exact⟨_,_,.cl d i f x tys g e ns ho hd rfl hf hx h1 h2 h3 h4,sc',h5⟩
    ·exact h.elim
   ·exact h.elim
  ·exact h.elim
 ·rename_i t d ho hd
  split at h
  ·rename_i hz
   obtain⟨zs,hz⟩:=vaz.1 hz
   simp only[ki,bm,aA]at h
   exact⟨_,_,.alloc d t zs ho hd hz,sc,h⟩
  ·exact h.elim
 ·rename_i t d ho hd
  simp only[ki,bm,aA]at h
  exact⟨_,_,.mkmap d t ho hd,sc,h⟩
 ·rename_i T len parts d ho hd
  rw[jU]at h
  split at h
  ·rename_i p sc' e hu
   obtain⟨h1,h2⟩:=h
   simp only[ki,bm,aA]at h2
   exact⟨_,_,.res d p [(0,e)] hd (.inl ⟨T,len,parts,e,ho,h1,hu,rfl⟩),sc',h2⟩
  ·exact h.elim
 ·rename_i T parts d ho hd
  split at h
  ·rename_i p L sc'
   rw[jU]at h
   obtain⟨h1,h2,h3⟩:=h
   simp only[ki,bm,aA]at h3
   exact⟨_,_,.res d p L hd (.inr (.inl ⟨T,parts,ho,h1,h2⟩)),sc',h3⟩
  ·rename_i t k _ _ p sc'
   split at h
   ·rename_i hc
    rw[fe]at h
    split at h
    ·rename_i es hes
     rw[jU]at h
     obtain⟨h1,h2,h3⟩:=h
     simp only[bm,aA]at h3
     simp only[vah,vap]at hc
     exact⟨_,_,.bmv d t k T parts p es hd ho hc.1 hes hc.2 h1 h2,sc',h3⟩
    ·exact h.elim
   ·exact h.elim
  ·exact fH h
 ·rename_i v d ho hd
  split at h
  ·rename_i e he
   simp only[ki,bm,aA]at h
   exact⟨_,_,.res d (.slice []) [(0,e)] hd (.inr (.inr ⟨v,e,.inl ho,he,rfl,rfl⟩)),sc,h⟩
  ·exact fH h
 ·rename_i v d ho hd
  split at h
  ·rename_i e he
   simp only[ki,bm,aA]at h
   exact⟨_,_,.res d (.slice []) [(0,e)] hd (.inr (.inr ⟨v,e,.inr ho,he,rfl,rfl⟩)),sc,h⟩
  ·exact fH h
 ·rename_i t d ho hd
  split at h
  ·rename_i hdt
   simp only[fe,bm,aA]at h
   exact⟨_,_,.mv d t hd (.inl ho) (by simpa using hdt),sc,h⟩
  ·exact h.elim
 ·rename_i t d ho hd
  split at h
  ·rename_i hdt
   simp only[vah,vap]at hdt
   simp only[fe,bm,aA]at h
   exact⟨_,_,.mv d t hd (.inr ho) hdt.2,sc,h⟩
  ·exact fH h
 ·rename_i t y T T' d ho hd
  rw[fe,bK]at h
  split at h
  ·rename_i es ns p sc' e he hn hu
   split at h
   ·rename_i hc
    simp only[vah,vap]at hc
    obtain⟨rfl,hm⟩:=hc
    obtain⟨h1,h2⟩:=h
    simp only[bm,aA]at h2
    exact⟨_,_,.app d t T e y es ns p hd ho hu he hn h1 hm,sc',h2⟩
   ·exact h.elim
  ·exact h.elim
 ·rename_i T x d ho hd
  split at h
  ·rename_i l sc' fs hu
   rw[bK]at h
   split at h
   ·rename_i i off hx
    obtain⟨B,hB,h⟩:=cM h
    split at h
    ·rename_i cs own
     obtain⟨h1,h2⟩:=h
     rw[aA]at h2
     split at h2
     ·rename_i hn
      simp only[bm,aA]at h2
      have hlen:l.length=P.cellsOf T:=by
       have hp:=h1
       unfold ch at hp
       rw[hu]at hp
       simp only at hp
       split at hp
       ·rename_i hh;cases hp;rw[vbf];omega
       ·cases hp
      exact⟨_,_,.ld d T x i off cs own _ (.agg l) hd ho hx hB (.inr ⟨fs,l,hu,h1,rfl,lc hn,fun y hy=>by rw[hlen];exact(uF hy).2⟩) (fun y hy=>(uF hy).1),sc',h2⟩
     ·exact h2.elim
    ·exact h.elim
   ·exact h.elim
  ·rename_i e hu _
   rw[bK]at h
   split at h
   ·rename_i i off hx
    obtain⟨B,hB,h⟩:=cM h
    split at h
    ·rename_i cs own
     split at h
     ·rename_i hc
      simp only[vah,vap]at hc
      simp only[fe,bm,aA]at h
      have hget:cs[off]? =some (cs.getD off .undef):=by
       rw[vag,vaa hc.2];rfl
      refine⟨_,_,.ld d T x i off cs own [(0,e)] (cs.getD off .undef) hd ho hx hB (.inl ⟨e,hu,hget,rfl⟩) (fun y hy=>?_),_,h⟩
      rw[vbh.1 hy];exact hc.1
     ·exact h.elim
    ·exact h.elim
   ·exact h.elim
  ·exact fH h
 ·rename_i T x t ho hd
  rw[fe]at h
  split at h
  ·rename_i vs sc'
   rw[aA]at h
   split at h
   ·rename_i l hl
    exact xK ho hd hl (.inl ⟨l,rfl⟩) (fun y hy=>zI hy) h
   ·exact h.elim
  ·rename_i sc'
   split at h
   ·rename_i hone
    rw[aA]at h
    split at h
    ·rename_i hL
     refine xK ho hd rfl (.inr ⟨hone,?_⟩) (fun y hy=>zI hy) h
     unfold N8 at hL
     split at hL
     ·rename_i e heq;exact⟨e,heq⟩
     ·cases hL
    ·exact oJ ho hd h
   ·exact h.elim
  ·exact oJ ho hd h
  ·exact Ao ho hd h
  ·exact h.elim
 ·rename_i T x y _ ho hd
  rw[bK]at h
  split at h
  ·split at h
   ·exact oJ ho hd h
   ·exact h.elim
  ·exact oJ ho hd h
  ·exact Ao ho hd h
  ·exact h.elim
 ·rename_i t m k x ho hd
  simp only[bK]at h
  split at h
  ·rename_i i j es' sc' hv
   obtain⟨B,hB,h⟩:=cM h
   split at h
   ·rename_i es
    obtain⟨h1,h2⟩:=h
    rw[bm]at h2
    exact⟨_,_,.mu t m k x _ hd ho (by rw[hv];exact Gy hB h1),sc',h2⟩
   ·exact h.elim
  ·exact h.elim
 ·exact fH h
theorem rj{bid:Nat->Option (Nat×aw)}{rw:List Nat}{an:List Nat}{K:List It->aq->Prop}:∀(rest:List Oper) (pos id:Nat) (sc:List It) (lg:List (List Rs)) (st:aq),wI P GE bid rw A ops an K rest pos id sc lg st->
  kh P GE bid rw ops (fun lg st'=>(IX an lg&&Cw rw lg)=true/\∃sc,K sc st') rest id lg st
 | [],_,_,sc,lg,st,h => by
  simp only[wI]at h
  split at h
  ·rename_i hl;exact⟨hl,sc,h⟩
  ·exact h.elim
 | o :: rest,pos,id,sc,lg,st,h => by
  simp only[wI]at h
  have step:∀sc st,BK P GE A (bid lg.length) rw o id sc st (fun sc' rs st'=>bh (lg++[rs]) fun lg'=>wI P GE bid rw A ops an K rest (pos+1) (id+if au o.op then 1 else 0) sc' lg' st')->
    ∃s' rs,eP P GE (bid lg.length) rw o id st s' rs/\kh P GE bid rw ops (fun lg st'=>(IX an lg&&Cw rw lg)=true/\∃sc,K sc st') rest (id+if au o.op then 1 else 0) (lg++[rs]) s':=by
   intro sc st hs
   obtain⟨s',rs,h1,sc',h2⟩:=DH (id:=id) hs
   rw[aA]at h2
   exact⟨s',rs,h1,rj rest _ _ sc' _ s' h2⟩
  unfold kh
  split at h
  ·rename_i hg;try simp only[hg]
   exact step _ _ h
  ·rename_i j want hg
   obtain⟨x,hx,hc⟩:=vA h
   simp only[hg,hx]
   rcases hc with⟨rfl,sc',hc⟩|⟨hne,sc',hc⟩
   ·exact⟨fun _=>step _ _ hc,fun hn=>absurd rfl hn⟩
   ·refine⟨fun he=>absurd he hne,fun _=>?_⟩
    simp only[mZ,aA]at hc
    exact rj rest _ _ sc' _ _ hc
theorem aC.drawD{m:Nat}(hf:P.follows .mixedOrders=true){id:Nat}{an:List Nat}{X:List aw}{br:List (Nat×Nat)}{rw:List Nat}{Q:Exit->aq->Prop}{st:aq}(hnd:ops.toList.all dZ=true)(h:Ko P GE ops an X br rw (Q .normal) st):aC P GE m (.region id ops true) Q st:=by
 intro ro E bs0 a w hE hb hR
 obtain⟨rfl,_,_,_⟩:=hE
 refine lS (Cb (Q:=fun e a' w'=>e=.normal/\JB P E bs0 a.defers Q .normal a' w') hf hnd (by rintro⟨_,_,h,_⟩;cases h) ?_) fun e a' w' hq=>by obtain⟨rfl,hq⟩:=hq;exact hq
 exact E4 hR hR.len (fun a' w' st' hd hR' hK=>⟨rfl,hd,st',hR',hK⟩) h
def E6(P:Program)(GE:List (Nat×List PVal))(A:List Nat)(ops:Array Oper)(an:List Nat)(X:List aw)(br:List (Nat×Nat))(rw:List Nat)(K:List It->aq->Prop)(sc:List It)(st:aq):Prop:=
 match ops.toList.all dZ&&(drawD P ops.toList st.tmps.length an&&MD br st.boxes.length X.length)with
 |true=>EY st.boxes X fun H0=>match L8 rw H0 with
  |true=>EY H0 (ek P ops.toList) fun H=>wI P GE (Eb br H0) rw A ops an K ops.toList 0 (st.boxes.length+X.length) sc [] ⟨st.tmps,H,st.own⟩
  |false=>False
 |false=>False
theorem xJ{m:Nat}(hf:P.follows .mixedOrders=true){id:Nat}{an:List Nat}{X:List aw}{br:List (Nat×Nat)}{rw:List Nat}{K:List It->aq->Prop}{sc:List It}{st:aq}{Q:Exit->aq->Prop}(hQ:∀st,(∃sc,K sc st)->Q .normal st)
  (h:E6 P GE A ops an X br rw K sc st):aC P GE m (.region id ops true) Q st:=by
 unfold E6 at h
 split at h
 ·rename_i hd
  rw[vah,vah]at hd
  obtain⟨hnd,hd⟩:=hd
  unfold EY at h
  rw[aA]at h
  split at h
  ·rename_i hr
   rw[aA]at h
   refine(aC.drawD (Q:=fun e st=>e=.normal/\∃sc,K sc st) hf hnd ⟨hd.1,by rw[vah];exact⟨hd.2,hr⟩,?_⟩).imp fun e st hx=>by obtain⟨rfl,hx⟩:=hx;exact hQ st hx
   have:=rj _ _ _ _ _ _ h
   simpa using this
  ·exact h.elim
 ·exact h.elim
end
end Go.Proofs.YtggeppllafbidaaGreatDoor
