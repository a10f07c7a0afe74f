/- PROVED: a part of the proof. Conditions: none. -/
import Derived.Test.YtkdahfeiedaahaaGreatDoorPkR6
import Derived.Test.YtkdahfeiedaahaaGreatDoorPkR5
set_option linter.unusedSimpArgs false
set_option linter.unusedVariables false
noncomputable section
namespace Go.Proofs.YtkdahfeiedaahaaGreatDoor
open Go
def yp(o:Oper):List Rs:=match o.dst with
 |some d=>[(false,d,0)]
 |none=>[]
def ug(P:Program)(GE:List (Nat×List PVal))(bi:Option (Nat×aA))(rw:List Nat)(ops:Array Oper)(o:Oper)(id:Nat)(s s':aB)(rs:List Rs):Prop:=
 match o.guard with
 |none=>lZ P GE bi rw o id s s' rs
 |some (j,want)=>∃x,tj ops s.tmps j=some x/\(x=some want->lZ P GE bi rw o id s s' rs)/\(x≠some want->s'=vY s o.dst (.val undef) [] s.boxes/\rs=yp o)
def ku(P:Program)(GE:List (Nat×List PVal))(bid:Nat->Option (Nat×aA))(rw:List Nat)(ops:Array Oper)(K:List (List Rs)->aB->Prop):List Oper->Nat->List (List Rs)->aB->Prop
 |[],_,lg,st=>K lg st
 | o :: rest,id,lg,st =>
  match o.guard with
  |none=>∃s' rs,lZ P GE (bid lg.length) rw o id st s' rs/\ku P GE bid rw ops K rest (id+if aE o.op then 1 else 0) (lg++[rs]) s'
  |some (j,want)=>match tj ops st.tmps j with
   | some x => (x = some want→∃ s' rs,lZ P GE (bid lg.length) rw o id st s' rs∧ku P GE bid rw ops K rest (id + if aE o.op then 1 else 0) (lg ++ [rs]) s') ∧
     (x≠some want->ku P GE bid rw ops K rest (id+if aE o.op then 1 else 0) (lg++[yp o]) (vY st o.dst (.val undef) [] st.boxes))
   |none=>False
section
variable{P:Program}{GE:List (Nat×List PVal)}
theorem CP{bid:Nat->Option (Nat×aA)}{rw:List Nat}{ops:Array Oper}{K:List (List Rs)->aB->Prop}:∀(rest:List Oper) (id:Nat) (lg:List (List Rs)) (st:aB),ku P GE bid rw ops K rest id lg st->
  ∃(T:Nat->aB) (R:List (List Rs)),T 0=st/\R.length=rest.length/\K (lg++R) (T rest.length)/\∀(k:Nat) o,rest[k]? =some o->ug P GE (bid (lg.length+k)) rw ops o (id+ch (rest.take k)) (T k) (T (k+1)) (R.getD k [])
 |[],id,lg,st,h=>⟨λ_=>st,[],rfl,rfl,by simpa[ku]using h,by simp⟩
 | o :: rest,id,lg,st,h => by
  have hcnt:ch [o]=if aE o.op then 1 else 0:=by unfold ch;simp only[vbU,List.filter_nil];split<;>rfl
  have fin:∀st' rs,ug P GE (bid lg.length) rw ops o id st st' rs->ku P GE bid rw ops K rest (id+if aE o.op then 1 else 0) (lg++[rs]) st'->
    ∃(T:Nat->aB) (R:List (List Rs)),T 0=st/\R.length=rest.length+1/\K (lg++R) (T (rest.length+1))/\∀(k:Nat) o',(o::rest)[k]? =some o'->ug P GE (bid (lg.length+k)) rw ops o' (id+ch ((o::rest).take k)) (T k) (T (k+1)) (R.getD k []):=by
   intro st' rs h1 h2
   obtain⟨T,R,t0,tl,t1,t2⟩:=CP rest _ _ st' h2
   refine⟨λk=>match k with|0=>st|k+1=>T k,rs::R,rfl,by simp[tl],by simpa using t1,λk o' ho'=>?_⟩
   cases k with
   |zero=>simp at ho';subst ho';simp only[List.getD_cons_zero];rw[t0];simpa[ch]using h1
   | succ k =>
    have:=t2 k o' (by simpa using ho')
    have he:id+(if aE o.op then 1 else 0)+ch (rest.take k)=id+ch ((o::rest).take (k+1)):=by
     simp only[List.take_succ_cons]
     have:ch (o::rest.take k)=ch [o]+ch (rest.take k):=by
      unfold ch;simp only[vbU,List.filter_nil];split<;>simp<;>omega
     rw[this,hcnt];omega
    rw[he,show(lg++[rs]).length+k=lg.length+(k+1) by simp;omega]at this
    simpa using this
  simp only[ku]at h
  simp only[vau]
  split at h
  ·rename_i hg
   obtain⟨s',rs,h1,h2⟩:=h
   exact fin s' rs (by unfold ug;rw[hg];exact h1) h2
  ·rename_i j want hg
   split at h
   ·rename_i x hx
    by_cases hw:x=some want
    ·obtain⟨s',rs,h1,h2⟩:=h.1 hw
     exact fin s' rs (by unfold ug;rw[hg];exact⟨x,hx,λ_=>h1,λhn=>absurd hw hn⟩) h2
    ·exact fin _ _ (by unfold ug;rw[hg];exact⟨x,hx,λhy=>absurd hy hw,λ_=>⟨rfl,rfl⟩⟩) (h.2 hw)
   ·exact h.elim
end
def drawD(P:Program)(rw:List Nat)(l:List Oper)(n:Nat)(an:List Nat):Bool:=
 let before (i j:Nat):Bool:=(an.getD j 0).testBit i
 let ey:=List.range l.length
 (an.length==l.length&&ey.all λj=>gM an (l.getD j default)==an.getD j 0)&&
 (l.all (λo=>o.dst.all λd=>decide (d<n))&&
 ey.all (λj=>(l.getD j default).after.all λe=>!Region.binds .any e||decide (e.on<j))&&
 ey.all (λj=>ey.all λi=>i==j||(l.getD i default).dst==none||(l.getD i default).dst !=(l.getD j default).dst)&&
 ey.all (λj=>(looks l.toArray (l.getD j default)).all λt=>ey.all λi=>i==j||(l.getD i default).dst !=some t||(if i<j then before i j else before j i))&&
 ey.all (λj=>ey.all λi=>!(decide (i<j))||me P rw (l.getD i default)<2||me P rw (l.getD j default)<2||(me P rw (l.getD i default)!=3&&me P rw (l.getD j default)!=3)||before i j))
def UD(an:List Nat)(lg:List (List Rs)):Bool:=
 let ey:=List.range lg.length
 ey.all λj=>(lg.getD j []).all λr=>ey.all λi=>!(decide (i<j))||!((lg.getD i []).contains r)||(an.getD j 0).testBit i
structure J2(P:Program)(rw:List Nat)(ops:Array Oper)(n:Nat):Prop where
 f1:∀(k:Nat) o d,ops[k]? =some o->o.dst=some d->d<n
 f2:∀(k:Nat) o,ops[k]? =some o->∀e∈o.after.toList,Region.binds .any e=true->e.on<k
 f3:∀(i j:Nat) oi oj d,ops[i]? =some oi->ops[j]? =some oj->i≠j->oi.dst=some d->oj.dst≠some d
 f4:∀(j:Nat) oj t,ops[j]? =some oj->t∈looks ops oj->∀(i:Nat) oi,ops[i]? =some oi->i≠j->oi.dst=some t->(i<j/\bf ops i j)\/(j<i/\bf ops j i)
 f5:∀(i j:Nat) oi oj,ops[i]? =some oi->ops[j]? =some oj->i<j->me P rw oi<2\/me P rw oj<2\/(me P rw oi≠3/\me P rw oj≠3)\/bf ops i j
theorem MX{an an':List Nat}{o:Oper}(h:∀e∈o.after.toList,Region.binds .any e=true->an.getD e.on 0=an'.getD e.on 0):gM an o=gM an' o:=by
 unfold gM
 have key:∀(l:List Edge) (s:Nat),(∀e∈l,Region.binds .any e=true->an.getD e.on 0=an'.getD e.on 0)->
   l.foldl (λs e=>if Region.binds .any e then s|||2 ^ e.on|||an.getD e.on 0 else s) s=l.foldl (λs e=>if Region.binds .any e then s|||2 ^ e.on|||an'.getD e.on 0 else s) s:=by
  intro l
  induction l with
  |nil=>intro s _;rfl
  | cons e l ih =>
   intro s h
   simp only[List.foldl_cons]
   rw[ih _ λe he=>h e (by simp[he])]
   by_cases hb:Region.binds .any e=true
   ·rw[vah hb,vah hb,h e (by simp) hb]
   ·rw[van hb,van hb]
 exact key _ _ h
theorem XY{l:List Oper}{an:List Nat}(hlen:an.length=l.length)(ha:∀j,j<l.length->gM an (l.getD j default)=an.getD j 0)
  (hedge:∀j,j<l.length->∀e∈(l.getD j default).after.toList,Region.binds .any e=true->e.on<j):DF l=an:=by
 have key:∀k,k<=l.length->DF (l.take k)=an.take k:=by
  intro k
  induction k with
  |zero=>intro _;simp[DF]
  | succ k ih =>
   intro hk
   have ih:=ih (by omega)
   have hl:l.take (k+1)=l.take k++[l.getD k default]:=by
    rw[vcE,vaq]
    simp[show k<l.length by omega]
   have han:an.take (k+1)=an.take k++[an.getD k 0]:=by
    rw[vcE,vaq]
    simp[show k<an.length by omega]
   have hstep:DF (l.take k++[l.getD k default])=DF (l.take k)++[gM (DF (l.take k)) (l.getD k default)]:=by
    unfold DF;rw[vcG];rfl
   rw[hl,hstep,ih,han,<-ha k (by omega)]
   congr 2
   refine MX λe he hb=>?_
   have:=hedge k (by omega) e he hb
   rw[vaq,vaq,vap this]
 have:=key l.length (var _)
 rwa[vaG,<-hlen,vaG]at this
theorem K7{P:Program}{rw:List Nat}{ops:Array Oper}{n:Nat}{an:List Nat}(h:drawD P rw ops.toList n an=true):J2 P rw ops n/\DF ops.toList=an:=by
 unfold drawD at h
 simp only[vad,vas,vbw,va3,va0,vao,bne_iff_ne,ne_eq,vaP,vbv,Option.all_eq_true]at h
 obtain⟨⟨ha1,ha2⟩,⟨⟨⟨h1,h2⟩,h3⟩,h4⟩,h5⟩:=h
 have hl:∀{k:Nat} {o},ops[k]? =some o->ops.toList[k]? =some o:=λhk=>by simpa using hk
 have han:DF ops.toList=an:=by
  refine XY ha1 ha2 λj hj e he hb=>?_
  rcases h2 j hj e (by simpa using he)with hx|hx
  ·rw[hb]at hx;cases hx
  ·exact hx
 refine⟨⟨λk o d hk hd=>?_,λk o hk e he hb=>?_,λi j oi oj d hi hj hij hd hd'=>?_,λj oj t hj ht i oi hi hij hd=>?_,λi j oi oj hi hj hij=>?_⟩,han⟩
 ·exact h1 o (vaA (hl hk)) d hd
 ·have:=h2 k (aq (hl hk)) e (by rw[yc (hl hk)];simpa using he)
  rcases this with hx|hx
  ·rw[hb]at hx;cases hx
  ·exact hx
 ·have:=h3 j (aq (hl hj)) i (aq (hl hi))
  rw[yc (hl hi),yc (hl hj)]at this
  rcases this with(hx|hx)|hx
  ·exact hij hx
  ·rw[hd]at hx;cases hx
  ·exact hx (hd.trans hd'.symm)
 ·have:=h4 j (aq (hl hj)) t (by rw[yc (hl hj)];exact ht) i (aq (hl hi))
  rw[yc (hl hi)]at this
  unfold bf
  rw[han]
  rcases this with(hx|hx)|hx
  ·exact absurd hx hij
  ·exact absurd hd hx
  ·by_cases hlt:i<j
   ·rw[vah hlt]at hx;exact .inl ⟨hlt,hx⟩
   ·rw[van hlt]at hx;exact .inr ⟨by omega,hx⟩
 ·have:=h5 j (aq (hl hj)) i (aq (hl hi))
  rw[yc (hl hi),yc (hl hj)]at this
  unfold bf
  rw[han]
  rcases this with(((hx|hx)|hx)|hx)|hx
  ·rw[vbe]at hx;exact absurd hij hx
  ·exact .inl hx
  ·exact .inr (.inl hx)
  ·exact .inr (.inr (.inl hx))
  ·exact .inr (.inr (.inr hx))
theorem UE{an:List Nat}{lg:List (List Rs)}(h:UD an lg=true){i j:Nat}{r:Rs}(hij:i<j)(hi:r∈lg.getD i [])(hj:r∈lg.getD j []):(an.getD j 0).testBit i=true:=by
 unfold UD at h
 simp only[vas,vbw,va3,va0,vbe,vcX]at h
 have hjl:j<lg.length:=by
  by_cases hx:j<lg.length
  ·exact hx
  ·rw[vaq,vaK (by omega)]at hj;simp at hj
 rcases h j hjl r hj i (by omega)with(hx|hx)|hx
 ·exact absurd hij hx
 ·exact absurd hi hx
 ·exact hx
section
variable{P:Program}{GE:List (Nat×List PVal)}{bid:Nat->Option (Nat×aA)}{rw:List Nat}{ops:Array Oper}{n base:Nat}{T:Nat->aB}{R:Nat->List Rs}
structure kO(P:Program)(GE:List (Nat×List PVal))(bid:Nat->Option (Nat×aA))(rw:List Nat)(ops:Array Oper)(n base:Nat)(T:Nat->aB)(R:Nat->List Rs):Prop where
 len:(T 0).tmps.length=n
 step:∀(k:Nat) o,ops[k]? =some o->ug P GE (bid k) rw ops o (base+ch (ops.toList.take k)) (T k) (T (k+1)) (R k)
 log:∀(i j:Nat) r,i<j->r∈R i->r∈R j->bf ops i j
 row0:∀i,2 * i∈rw->∀k e,¬g9 (T 0) (true,(i,k),e)
 rowl:∀j,j<ops.size->∀i,2 * i∈rw->∀k,(true,i,k)∉R j
 roww:∀j,j<ops.size->∀i,2 * i∈rw->(false,i,1)∉R j
 wl:∀j,j<ops.size->∀i,(false,i,1)∈R j->i<base/\∀k B,bid k≠some (i,B)
 hd:∀i,8 * i+3∈rw->i<base/\∀k B,bid k≠some (i,B)
 binj:∀(j k i:Nat) B B',bid j=some (i,B)->bid k=some (i,B')->j=k
theorem Xw{o:Oper}{s:aB}:Vu P rw o s (vY s o.dst (.val undef) [] s.boxes) (yp o):=by
 unfold yp
 cases hd:o.dst with
 |none=>exact⟨by rw[hd];rfl,λ_=>rfl,λτ _ h=>h⟩
 |some d=>
  refine⟨by rw[hd];exact⟨_,rfl⟩,λ_=>rfl,?_⟩
  rintro⟨b,⟨t,k⟩,e⟩ hr hh
  cases b with
  |true=>exact hh
  |false=>exact(cE (by simpa[vY]using bT.1 hh)).1
theorem ug.cls{bi:Option (Nat×aA)}{o:Oper}{id:Nat}{s s':aB}{rs:List Rs}(h:ug P GE bi rw ops o id s s' rs){τ:S9}(ht:τ.1=true)(hr:Vg τ rs):2<=me P rw o/\((false,τ.2.1.1,1)∈rs->me P rw o=3):=by
 have key:lZ P GE bi rw o id s s' rs->2<=me P rw o/\((false,τ.2.1.1,1)∈rs->me P rw o=3):=λhs=>by
  refine⟨?_,λhx=>hs.whole hx⟩
  rcases hr with hr|hr
  ·obtain⟨b,⟨t,k⟩,e⟩:=τ
   simp only at ht;subst ht
   exact hs.cls hr
  ·rw[hs.whole hr.2];decide
 unfold ug at h
 split at h
 ·exact key h
 ·obtain⟨x,_,h1,h2⟩:=h
  by_cases hx:x=some ‹Bool›
  ·exact key (h1 hx)
  ·obtain⟨_,rfl⟩:=h2 hx
   have:=(Mf (o:=o) rfl hr).2
   rw[ht]at this;cases this
theorem ug.eff{bi:Option (Nat×aA)}{o:Oper}{id:Nat}{s s':aB}{rs:List Rs}(h:ug P GE bi rw ops o id s s' rs):Vu P rw o s s' rs:=by
 unfold ug at h
 split at h
 ·exact h.eff
 ·obtain⟨x,_,h1,h2⟩:=h
  by_cases hx:x=some ‹Bool›
  ·exact(h1 hx).eff
  ·obtain⟨rfl,rfl⟩:=h2 hx;exact Xw
theorem kO.all(hT:kO P GE bid rw ops n base T R):∀k,k<=ops.size->(T k).tmps.length=n:=by
 intro k
 induction k with
 |zero=>intro _;exact hT.len
 | succ k ih =>
  intro hk
  have h1:=ih (by omega)
  have hok:ops[k]? =some ops[k]:=by simp[show k<ops.size by omega]
  have he:=(hT.step k _ hok).eff.tm
  split at he
  ·obtain⟨p,he⟩:=he;rw[he];simp[h1]
  ·rw[he];exact h1
theorem kO.between(hT:kO P GE bid rw ops n base T R){t:Nat}:∀(m k:Nat),k+m<=ops.size->(∀(i:Nat) o,k<=i->i<k+m->ops[i]? =some o->o.dst≠some t)->(T (k+m)).tmps[t]? =(T k).tmps[t]?:=by
 intro m
 induction m with
 |zero=>intro k _ _;rfl
 | succ m ih =>
  intro k hk hne
  have hok:ops[k+m]? =some ops[k+m]:=by simp[show k+m<ops.size by omega]
  have he:=(hT.step _ _ hok).eff.tm
  have hn:=hne (k+m) _ (by omega) (by omega) hok
  have ih:=ih k (by omega) λi o h1 h2=>hne i o h1 (by omega)
  rw[<-ih,show k+(m+1)=k+m+1 from rfl]
  split at he
  ·rename_i d hd
   obtain⟨p,he⟩:=he
   rw[he,vai (λe=>hn (by rw[hd,e]))]
  ·rw[he]
theorem kO.boxes(hT:kO P GE bid rw ops n base T R):∀(m k:Nat),k+m<=ops.size->(∀(i:Nat) o,k<=i->i<k+m->ops[i]? =some o->me P rw o≠3)->(T (k+m)).boxes.map aL=(T k).boxes.map aL:=by
 intro m
 induction m with
 |zero=>intro k _ _;rfl
 |succ m ih=>
  intro k hk hne
  have hok:ops[k+m]? =some ops[k+m]:=by simp[show k+m<ops.size by omega]
  rw[show k+(m+1)=k+m+1 from rfl,(hT.step _ _ hok).eff.bx (hne (k+m) _ (by omega) (by omega) hok)]
  exact ih k (by omega) λi o h1 h2=>hne i o h1 (by omega)
theorem kO.boxes_eq(hT:kO P GE bid rw ops n base T R){k m:Nat}(hk:k<=ops.size)(hm:m<=ops.size)(h:∀(i:Nat) o,ops[i]? =some o->me P rw o=3->(i<k↔i<m)):(T k).boxes.map aL=(T m).boxes.map aL:=by
 rcases Nat.le_total k m with hle|hle
 ·have:=hT.boxes (m - k) k (by omega) λi o h1 h2 ho hc=>by have:=(h i o ho hc);omega
  rw[show k+(m - k)=m from by omega]at this
  exact this.symm
 ·have:=hT.boxes (k - m) m (by omega) λi o h1 h2 ho hc=>by have:=(h i o ho hc);omega
  rw[show m+(k - m)=k from by omega]at this
  exact this
theorem kO.back(hT:kO P GE bid rw ops n base T R){τ:S9}:∀(m k:Nat),k+m<=ops.size->(∀i,k<=i->i<k+m->¬Vg τ (R i))->g9 (T (k+m)) τ->g9 (T k) τ:=by
 intro m
 induction m with
 |zero=>intro k _ _ h;exact h
 |succ m ih=>
  intro k hk hne h
  have hok:ops[k+m]? =some ops[k+m]:=by simp[show k+m<ops.size by omega]
  exact ih k (by omega) (λi h1 h2=>hne i h1 (by omega)) ((hT.step _ _ hok).eff.back τ (hne _ (by omega) (by omega)) h)
theorem kO.norow(hT:kO P GE bid rw ops n base T R){q i k:Nat}{e:TypeId}(hq:q<=ops.size)(hi:2 * i∈rw):¬g9 (T q) (true,(i,k),e):=λh=>by
 have:=hT.back (τ:=(true,(i,k),e)) q 0 (by omega) (λj _ h2 hr=>hr.elim (λhr=>hT.rowl j (by omega) i hi k (by simpa[cJ]using hr)) (λhr=>hT.roww j (by omega) i hi hr.2)) (by rw[vaI];exact h)
 exact hT.row0 i hi k e this
theorem kO.tlog(hD:J2 P rw ops n)(hT:kO P GE bid rw ops n base T R){i j:Nat}{τ:S9}(hij:i<j)(hj:j<ops.size)(hi':Vg τ (R i))(hj':Vg τ (R j)):bf ops i j:=by
 have hoi:ops[i]? =some ops[i]:=vaE (by omega)
 have hoj:ops[j]? =some ops[j]:=vaE hj
 by_cases hb:cJ τ∈R i/\cJ τ∈R j
 ·exact hT.log i j _ hij hb.1 hb.2
 ·have ht:τ.1=true:=by
   rcases hi' with hi'|hi'
   ·rcases hj' with hj'|hj'
    ·exact absurd ⟨hi',hj'⟩ hb
    ·exact hj'.1
   ·exact hi'.1
  obtain⟨a1,a2⟩:=(hT.step i _ hoi).cls ht hi'
  obtain⟨b1,b2⟩:=(hT.step j _ hoj).cls ht hj'
  rcases hD.f5 i j _ _ hoi hoj hij with h|h|h|h
  ·omega
  ·omega
  ·rcases hi' with hi'|hi'
   ·rcases hj' with hj'|hj'
    ·exact absurd ⟨hi',hj'⟩ hb
    ·exact absurd (b2 hj'.2) h.2
   ·exact absurd (a2 hi'.2) h.1
  ·exact h
variable{E:lh}{bs0:be}{ds:List Deferred}
structure Ej(P:Program)(E:lh)(bid:Nat->Option (Nat×aA))(rw:List Nat)(ops:Array Oper)(n base:Nat)(T:Nat->aB)(R:Nat->List Rs)(bs0:be)(ds:List Deferred)(listed:Array Bool)(a:Act)(w:World):Prop where
 size:listed.size=ops.size
 defers:a.defers=ds
 down:Zv ops listed
 ex:∃Γ bs ow st,SR P E Γ bs ow w a.tmps st/\S8 bs0 bs/\st.tmps.length=n/\
  (∀(k:Nat) o d,ops[k]? =some o->o.dst=some d->cH listed k->st.tmps[d]? =(T ops.size).tmps[d]?)/\
  (∀t,(∀(k:Nat) o,ops[k]? =some o->cH listed k->o.dst≠some t)->st.tmps[t]? =(T 0).tmps[t]?)/\
  (∃m,m<=ops.size/\(∀(i:Nat) o,ops[i]? =some o->me P rw o=3->(cH listed i↔i<m))/\st.boxes.map aL=(T m).boxes.map aL)/\
  (∀(i:Nat) o,ops[i]? =some o->aE o.op=true->¬cH listed i->bs[As ops base i]? =some none/\st.boxes[As ops base i]? =lP P o)/\
  (∀(τ:S9) (m:Nat),m<=ops.size->(∀k,k<ops.size->Vg τ (R k)->(cH listed k↔k<m))->g9 (T m) τ->g9 st τ)/\
  (∀(k i:Nat) B,k<ops.size->bid k=some (i,B)->¬cH listed k->bs[i]? =some none/\st.boxes[i]? =some B)
theorem Sm(hD:J2 P rw ops n)(hT:kO P E.GE bid rw ops n base T R)(hbase:bs0.length<=base)(hbd:∀(k i:Nat) B,bid k=some (i,B)->bs0.length<=i/\i<base){listed:Array Bool}{a:Act}{w:World}(hI:Ej P E bid rw ops n base T R bs0 ds listed a w){j:Nat}(hj:j∈Region.ready .any ops listed)
  (Q:Exit->Act->World->Prop):wpOp P ops Q j (Ej P E bid rw ops n base T R bs0 ds (listed.setIfInBounds j true)) a w:=by
 obtain⟨hj0,oj,hoj,hja⟩:=mem_ready.1 hj
 have hjs:j<ops.size:=(vaj.1 hoj).1
 have hnl:¬cH listed j:=by
  unfold cH
  have:j<listed.size:=by rw[hI.size];exact hjs
  simp[this]at hj0 ⊢
  exact hj0
 have haft:∀e∈oj.after.toList,Region.binds .any e=true->cH listed e.on:=λe he hb=>hja e (by simpa using he) hb
 have hbf:∀i,bf ops i j->cH listed i:=G9 hI.down j oj hoj haft
 have hbf':∀(i:Nat) oi,ops[i]? =some oi->bf ops j i->¬cH listed i:=λi oi hi hb hli=>hnl (G9 hI.down i oi hi (hI.down i oi hi hli) j hb)
 obtain⟨Γ,bs,ow,st,hS,hK,hlen,ht1,ht2,⟨m,hm,hmw,hmb⟩,hun,htk,hub⟩:=hI.ex
 have hop:∀k,k<ops.size->∃o,ops[k]? =some o:=λk hk=>⟨_,vaE hk⟩
 have hlook:∀t,t∈looks ops oj->st.tmps[t]? =(T j).tmps[t]?:=by
  intro t ht
  by_cases hex:∃i oi,ops[i]? =some oi/\i≠j/\oi.dst=some t
  ·obtain⟨i,oi,hoi,hij,hdi⟩:=hex
   have honly:∀(k:Nat) o,ops[k]? =some o->o.dst=some t->k=i:=λk o ho hdk=>by
    by_cases hki:k=i
    ·exact hki
    ·exact absurd hdi (hD.f3 k i o oi t ho hoi hki hdk)
   rcases hD.f4 j oj t hoj ht i oi hoi hij hdi with⟨hlt,hb⟩|⟨hlt,hb⟩
   ·rw[ht1 i oi t hoi hdi (hbf i hb)]
    have:=hT.between (t:=t) (ops.size - j) j (by omega) λk o h1 h2 ho hk=>by have:=honly k o ho hk;omega
    rwa[show j+(ops.size - j)=ops.size from by omega]at this
   ·rw[ht2 t λk o ho hlk hk=>by have:=honly k o ho hk;subst this;exact hbf' k o ho hb hlk]
    have:=hT.between (t:=t) j 0 (by omega) λk o h1 h2 ho hk=>by have:=honly k o ho hk;omega
    rw[vaI]at this
    exact this.symm
  ·rw[ht2 t λk o ho hlk hk=>hex ⟨k,o,ho,λe=>by subst e;exact hnl hlk,hk⟩]
   have:=hT.between (t:=t) j 0 (by omega) λk o h1 h2 ho hk=>hex ⟨k,o,ho,by omega,hk⟩
   rw[vaI]at this
   exact this.symm
 have hopv:∀x∈oj.op.operands.toList,opv E.GE (T j).tmps x=opv E.GE st.tmps x:=by
  intro x hx
  cases x with
  |tmp t=>
   have:t∈looks ops oj:=va9 _ (vbA.2 ⟨.tmp t,hx,rfl⟩)
   show(T j).tmps.getD t .undef=st.tmps.getD t .undef
   rw[vaq,vaq,hlook t this]
  |const v=>rfl
  |global g=>rfl
  |func f=>rfl
 have hboxes:2<=me P rw oj->st.boxes.map aL=(T j).boxes.map aL:=by
  intro hc
  rw[hmb]
  refine hT.boxes_eq hm (by omega) λi o ho hco=>?_
  rw[<-hmw i o ho hco]
  rcases vcH i j with hlt|rfl|hlt
  ·rcases hD.f5 i j o oj ho hoj hlt with h|h|h|h
   ·omega
   ·omega
   ·exact absurd hco h.1
   ·exact⟨λ_=>hlt,λ_=>hbf i h⟩
  ·exact⟨λh=>absurd h hnl,λh=>absurd h (vb1 _)⟩
  ·rcases hD.f5 j i oj o hoj ho hlt with h|h|h|h
   ·omega
   ·omega
   ·exact absurd hco h.2
   ·exact⟨λhl=>absurd hl (hbf' i o ho h),λhx=>by omega⟩
 have hjl:j<listed.size:=by rw[hI.size];exact hjs
 have hwr:me P rw oj=3->∀(i:Nat) o,ops[i]? =some o->me P rw o=3->(cH (listed.setIfInBounds j true) i↔i<j+1):=by
  intro hc i o ho hco
  rw[eL hjl]
  rcases vcH i j with hlt|rfl|hlt
  ·rcases hD.f5 i j o oj ho hoj hlt with h|h|h|h
   ·omega
   ·omega
   ·exact absurd hco h.1
   ·exact⟨λ_=>by omega,λ_=>.inr (hbf i h)⟩
  ·exact⟨λ_=>by omega,λ_=>.inl rfl⟩
  ·rcases hD.f5 j i oj o hoj ho hlt with h|h|h|h
   ·omega
   ·omega
   ·exact absurd hco h.2
   ·refine⟨λhl=>?_,λhx=>by omega⟩
    rcases hl with hl|hl
    ·omega
    ·exact absurd hl (hbf' i o ho h)
 have htok:∀τ,Vg τ (R j)->g9 (T j) τ->g9 st τ:=λτ hr=>htk τ j (by omega) λk hk hkr=>by
  rcases vcH k j with hlt|rfl|hlt
  ·exact⟨λ_=>hlt,λ_=>hbf k (hT.tlog hD hlt hjs hkr hr)⟩
  ·exact⟨λh=>absurd h hnl,λh=>absurd h (vb1 _)⟩
  ·obtain⟨o,ho⟩:=hop k hk
   exact⟨λhl=>absurd hl (hbf' k o ho (hT.tlog hD hlt hk hr hkr)),λhx=>by omega⟩
 have hTl:=hT.all j (by omega)
 have fin:∀{Γ':aP} {bs':be} {ow':Nat->Option iL} {w':World} {a':Act} {st':aB},a'.defers=ds->SR P E Γ' bs' ow' w' a'.tmps st'->Vw P bs rw oj st st' (T j) (T (j+1)) (R j)->
   (bs'=bs\/(aE oj.op=true/\∃b,bs'=bs.set (As ops base j) (some b))\/∃i B x,bid j=some (i,B)/\bs'=bs.set i x)->Ej P E bid rw ops n base T R bs0 ds (listed.setIfInBounds j true) a' w':=by
  intro Γ' bs' ow' w' a' st' hda hS' hP hbs'
  refine⟨by simp[hI.size],hda,λk o ho hk e he hb=>?_,Γ',bs',ow',st',hS',?_,?_,?_,?_,?_,?_,?_,?_⟩
  ·rw[eL hjl]at hk ⊢
   rcases hk with rfl|hk
   ·rw[hoj]at ho;cases ho
    exact .inr (haft e he hb)
   ·exact .inr (hI.down k o ho hk e he hb)
  ·rcases hbs' with rfl|⟨_,b,rfl⟩|⟨i',B,x,hb,rfl⟩
   ·exact hK
   ·intro i hi
    rw[vai (by unfold As;omega)]
    exact hK i hi
   ·intro i hi
    rw[vai (by have:=(hbd _ _ _ hb).1;omega)]
    exact hK i hi
  ·have:=hP.tm
   split at this
   ·obtain⟨p,h1,_⟩:=this;rw[h1];simp[hlen]
   ·rw[this.1];exact hlen
  ·intro k o dk ho hdk hk
   rw[eL hjl]at hk
   have hPt:=hP.tm
   by_cases hkj:k=j
   ·subst hkj
    rw[hoj]at ho;cases ho
    rw[hdk]at hPt
    obtain⟨p,h1,h2⟩:=hPt
    have:=hT.between (t:=dk) (ops.size - (k+1)) (k+1) (by omega) λi o h1 h2 ho hk=>hD.f3 k i oj o dk hoj ho (by omega) hdk hk
    rw[show k+1+(ops.size - (k+1))=ops.size from by omega]at this
    have hdn:=hD.f1 k oj dk hoj hdk
    rw[this,h1,h2,vae (by rw[hlen];exact hdn),vae (by rw[hTl];exact hdn)]
   ·have hold:=ht1 k o dk ho hdk (hk.resolve_left hkj)
    split at hPt
    ·rename_i d hd
     obtain⟨p,h1,_⟩:=hPt
     have hne:d≠dk:=λe=>by subst e;exact hD.f3 j k oj o d hoj ho (Ne.symm hkj) hd hdk
     rw[h1,vai hne];exact hold
    ·rw[hPt.1];exact hold
  ·intro t hnt
   have hold:=ht2 t λk o ho hk=>hnt k o ho ((eL hjl).2 (.inr hk))
   have hPt:=hP.tm
   split at hPt
   ·rename_i d hd
    obtain⟨p,h1,_⟩:=hPt
    have hne:d≠t:=λe=>by subst e;exact hnt j oj hoj ((eL hjl).2 (.inl rfl)) hd
    rw[h1,vai hne];exact hold
   ·rw[hPt.1];exact hold
  ·by_cases hc:me P rw oj=3
   ·exact⟨j+1,by omega,hwr hc,hP.b2 hc⟩
   ·refine⟨m,hm,λi o ho hco=>?_,(hP.b1 hc).trans hmb⟩
    rw[eL hjl,<-hmw i o ho hco]
    constructor
    ·rintro(rfl|hx)
     ·rw[hoj]at ho;cases ho;exact absurd hco hc
     ·exact hx
    ·exact .inr
  ·intro i o ho hmk hni
   have hij:i≠j:=λe=>by subst e;exact hni ((eL hjl).2 (.inl rfl))
   obtain⟨u1,u2⟩:=hun i o ho hmk λhx=>hni ((eL hjl).2 (.inr hx))
   refine⟨?_,(hP.un _ u1 (λhx=>by have:=(hT.wl j hjs _ hx).1;unfold As at this;omega) λhx=>by have:=(hT.hd _ hx).1;unfold As at this;omega).trans u2⟩
   rcases hbs' with rfl|⟨hmj,b,rfl⟩|⟨i',B,x,hb,rfl⟩
   ·exact u1
   ·have hne:As ops base j≠As ops base i:=by
     rcases Nat.lt_or_gt_of_ne hij with hlt|hlt
     ·have:=TA (base:=base) ho hmk hlt;omega
     ·have:=TA (base:=base) hoj hmj hlt;omega
    rw[vai hne];exact u1
   ·rw[vai (by have:=(hbd _ _ _ hb).2;unfold As;omega)];exact u1
  ·intro τ q hq hqk hh
   by_cases hr:Vg τ (R j)
   ·have hjq:j<q:=(hqk j hjs hr).1 ((eL hjl).2 (.inl rfl))
    refine hP.got τ hr ?_
    have:=hT.back (τ:=τ) (q - (j+1)) (j+1) (by omega) λi h1 h2 hir=>by
     have hi:i<ops.size:=by omega
     obtain⟨o,ho⟩:=hop i hi
     have hli:=(hqk i hi hir).2 (by omega)
     rcases(eL hjl).1 hli with hx|hx
     ·omega
     ·exact hbf' i o ho (hT.tlog hD (by omega) hi hr hir) hx
    rw[show j+1+(q - (j+1))=q from by omega]at this
    exact this hh
   ·refine hP.keep τ hr (λh1 h2=>?_) (htk τ q hq (λk hk hkr=>?_) hh)
    ·obtain⟨b,⟨t,k⟩,e⟩:=τ
     simp only at h1 h2
     subst h1
     exact hT.norow hq h2 hh
    rw[<-hqk k hk hkr,eL hjl]
    constructor
    ·exact .inr
    ·rintro(rfl|hx)
     ·exact absurd hkr hr
     ·exact hx
  ·intro k i B hk hb hnk
   have hkj:k≠j:=λe=>by subst e;exact hnk ((eL hjl).2 (.inl rfl))
   obtain⟨u1,u2⟩:=hub k i B hk hb λhx=>hnk ((eL hjl).2 (.inr hx))
   refine⟨?_,(hP.un _ u1 (λhx=>(hT.wl j hjs _ hx).2 k B hb) λhx=>(hT.hd _ hx).2 k B hb).trans u2⟩
   rcases hbs' with rfl|⟨_,b,rfl⟩|⟨i',B',x,hb',rfl⟩
   ·exact u1
   ·rw[vai (by have:=(hbd _ _ _ hb).2;unfold As;omega)];exact u1
   ·rw[vai (λe=>by subst e;exact hkj (hT.binj _ _ _ _ _ hb hb'))];exact u1
 have hbi:∀i B,bid j=some (i,B)->bs[i]? =some none/\st.boxes[i]? =some B:=λi B hb=>hub j i B hjs hb hnl
 have hid:aE oj.op=true->bs[As ops base j]? =some none/\st.boxes[As ops base j]? =lP P oj:=λhmk=>hun j oj hoj hmk hnl
 have hdd:∀d,oj.dst=some d->d<st.tmps.length:=λd hd=>by rw[hlen];exact hD.f1 j oj d hoj hd
 have run:lZ P E.GE (bid j) rw oj (As ops base j) (T j) (T (j+1)) (R j)->oj.wp P a w (Ej P E bid rw ops n base T R bs0 ds (listed.setIfInBounds j true)) Q:=by
  intro hs
  refine Oper.wp_mono (λa' w' hA=>?_) (hs.sound hS hid hbi hopv hboxes htok hdd Q)
  obtain⟨hda,Γ',bs',ow',st',hS',hP,hb⟩:=hA
  exact fin (hda.trans hI.defers) hS' hP hb
 have skip:T (j+1)=vY (T j) oj.dst (.val undef) [] (T j).boxes->R j=yp oj->Ej P E bid rw ops n base T R bs0 ds (listed.setIfInBounds j true) (a.put oj.dst undef) w:=by
  intro hT1 hR1
  refine fin ((bC _ _ _).trans hI.defers) (hS.putv_nil (.val undef) oj.dst rfl) ?_ (.inl rfl)
  rw[hT1,hR1]
  cases hd:oj.dst with
  |none=>exact⟨by rw[hd];exact⟨rfl,rfl⟩,λ_=>rfl,λhc=>hboxes (by omega),λτ _ _ h=>h,λτ hr=>by have:=(Mf (o:=oj) rfl hr).1;simp[hd]at this,λ_ _ _ _=>rfl⟩
  |some d=>
   refine⟨by rw[hd];exact⟨_,rfl,rfl⟩,λ_=>rfl,λhc=>hboxes (by omega),λτ hr _ hh=>Ik (st:=st) (tm:=st.tmps.set d (.val undef)) (R:=λ_=>True) (rs:=yp oj) (d:=d) (L:=[]) (by simp[yp,hd]) τ (λhx=>hr (.inl hx)) trivial hh,?_,λ_ _ _ _=>rfl⟩
   intro τ hr hh
   exact QN (L:=[]) τ (by simpa[yp,hd]using(Mf (o:=oj) rfl hr).1) hh
 have hstep:=hT.step j oj hoj
 unfold wpOp
 rw[hoj]
 simp only
 unfold ug at hstep
 have hgo:(Region.wanted oj (yielded ops a.tmps)=true->oj.wp P a w (Ej P E bid rw ops n base T R bs0 ds (listed.setIfInBounds j true)) Q)/\
   (¬Region.wanted oj (yielded ops a.tmps)=true->Ej P E bid rw ops n base T R bs0 ds (listed.setIfInBounds j true) (a.put oj.dst undef) w):=by
  split at hstep
  ·rename_i hg
   exact⟨λ_=>run hstep,λhn=>absurd (by simp[Region.wanted,hg]) hn⟩
  ·rename_i jg want hg
   obtain⟨x,hx,h1,h2⟩:=hstep
   have hx':tj ops st.tmps jg=some x:=by
    rw[<-hx]
    unfold tj
    cases hdg:(ops[jg]?).bind (·.dst)with
    |none=>rfl
    |some t=>
     have:t∈looks ops oj:=vaU _ (by rw[hg];simp[hdg])
     simp only[hlook t this]
   have hw:Region.wanted oj (yielded ops a.tmps)=(x==some want):=by simp[Region.wanted,hg,Ix hS hx']
   rw[hw]
   refine⟨λhy=>run (h1 (by simpa using hy)),λhy=>?_⟩
   obtain⟨k1,k2⟩:=h2 (by simpa using hy)
   exact skip k1 k2
 by_cases hw:Region.wanted oj (yielded ops a.tmps)=true
 ·rw[vah hw];exact .inl (hgo.1 hw)
 ·rw[van hw];exact hgo.2 hw
theorem ST(hD:J2 P rw ops n){listed:Array Bool}(hs:listed.size=ops.size)(hr:Region.ready .any ops listed=[]):∀j,j<ops.size->cH listed j:=by
 intro j
 induction j using Nat.strongRecOn with
 | _ j ih =>
  intro hj
  by_cases hl:cH listed j
  ·exact hl
  ·exfalso
   have hoj:ops[j]? =some ops[j]:=by simp[hj]
   have:j∈Region.ready .any ops listed:=mem_ready.2 ⟨by
    unfold cH at hl
    have:j<listed.size:=by omega
    simp[this]at hl ⊢;exact hl,_,hoj,λe he hb=>by
    have hlt:=hD.f2 j _ hoj e (by simpa using he) hb
    exact ih e.on hlt (by omega)⟩
   rw[hr]at this;cases this
theorem SR.rights{Γ:aP}{bs:be}{ow:Nat->Option iL}{w:World}{a:Array Value}{st st2:aB}(h:SR P E Γ bs ow w a st)(h1:st2.tmps=st.tmps)(h2:st2.boxes.map aL=st.boxes.map aL)(h3:∀τ,g9 st2 τ->g9 st τ):SR P E Γ bs ow w a st2:=
 { h with
  sz:=by rw[h1];exact h.sz
  tm:=by rw[h1];exact h.tm
  bl:=by have:=vbd List.length h2;simp at this;rw[h.bl,this]
  bx:=λi b B hb hB=>by
   have hg:=Py h2 i
   rw[hB]at hg
   cases hB1:st.boxes[i]? with
   |none=>rw[hB1]at hg;cases hg
   | some B1 =>
    rw[hB1]at hg
    obtain⟨k1,k2,k3⟩:=h.bx i b B1 hb hB1
    refine⟨k1,k2,?_⟩
    cases B<;>cases B1<;>simp[aL]at hg
    ·subst hg;exact k3
    ·subst hg;exact k3
    ·trivial
  ot:=λt k e he=>h.ot t k e (h3 (false,(t,k),e) he)
  ob:=λi j e cs own b hB hj hb=>by
   obtain⟨cs',own',e1,e2⟩:=dK.1 (h3 (true,(i,j),e) ⟨cs,own,hB,hj⟩)
   exact h.ob i j e cs' own' b e1 e2 hb}
theorem Un(hD:J2 P rw ops n)(hT:kO P E.GE bid rw ops n base T R)(hbase:bs0.length<=base)(hbd:∀(k i:Nat) B,bid k=some (i,B)->bs0.length<=i/\i<base){Q:Exit->Act->World->Prop}
  (hQ:∀a w,a.defers=ds->OM P E bs0 (T ops.size) a w->Q .normal a w):∀(fuel:Nat) (listed:Array Bool) (a:Act) (w:World),Ej P E bid rw ops n base T R bs0 ds listed a w->xq ops.size listed<=fuel->wpAny P .any ops Q fuel listed a w:=by
 have hend:∀(listed:Array Bool) (a:Act) (w:World),Ej P E bid rw ops n base T R bs0 ds listed a w->(∀j,j<ops.size->cH listed j)->Q .normal a w:=by
  intro listed a w hI hall
  obtain⟨Γ,bs,ow,st,hS,hK,hlen,ht1,ht2,⟨m,hm,hmw,hmb⟩,_,htk,_⟩:=hI.ex
  have e1:st.tmps=(T ops.size).tmps:=by
   apply vbf
   intro t
   by_cases hex:∃(k:Nat) (o:Oper),ops[k]? =some o/\o.dst=some t
   ·obtain⟨k,o,ho,hd⟩:=hex
    exact ht1 k o t ho hd (hall k (vaj.1 ho).1)
   ·rw[ht2 t λk o ho _ hd=>hex ⟨k,o,ho,hd⟩]
    have:=hT.between (t:=t) ops.size 0 (by omega) λk o _ _ ho hd=>hex ⟨k,o,ho,hd⟩
    rw[vaI]at this
    exact this.symm
  have e2:st.boxes.map aL=(T ops.size).boxes.map aL:=by
   rw[hmb]
   refine hT.boxes_eq hm (var _) λi o ho hco=>?_
   rw[<-hmw i o ho hco]
   have hi:=(vaj.1 ho).1
   exact⟨λ_=>hi,λ_=>hall i hi⟩
  exact hQ a w hI.defers ⟨Γ,bs,ow,hS.rights e1.symm e2.symm λτ hh=>htk τ ops.size (var _) (λk hk _=>⟨λ_=>hk,λ_=>hall k hk⟩) hh,hK⟩
 intro fuel
 induction fuel with
 | zero =>
  intro listed a w hI hu
  have hall:∀j,j<ops.size->cH listed j:=by
   intro j hj
   by_cases hl:cH listed j
   ·exact hl
   ·exfalso
    have:j∈(List.range ops.size).filter λi=>!listed.getD i false:=by
     rw[va1,vbw]
     exact⟨hj,by unfold cH at hl;simpa using hl⟩
    have:=List.length_pos_of_mem this
    unfold xq at hu
    omega
  refine⟨?_,hend listed a w hI hall⟩
  rw[vbz]
  intro j hj
  obtain⟨h0,o,ho,_⟩:=mem_ready.1 hj
  have hlt:=(vaj.1 ho).1
  have:=hall j hlt
  unfold cH at this
  have hls:j<listed.size:=by rw[hI.size];exact hlt
  simp[hls]at this h0
  rw[this]at h0;cases h0
 | succ fuel ih =>
  intro listed a w hI hu
  refine⟨λhr=>hend listed a w hI (ST hD hI.size hr),λj hj=>?_⟩
  refine wpOp_mono (λa' w' hI'=>ih _ a' w' hI' ?_) (Sm hD hT hbase hbd hI hj Q)
  obtain⟨h0,o,ho,_⟩:=mem_ready.1 hj
  have hlt:=(vaj.1 ho).1
  have hls:j<listed.size:=by rw[hI.size];exact hlt
  have:xq ops.size (listed.setIfInBounds j true)<xq ops.size listed:=by
   unfold xq
   refine QI (λi hi=>?_) (vbw.2 hlt) ?_ ?_
   ·have hnl:¬cH (listed.setIfInBounds j true) i:=by unfold cH;simpa using hi
    have:¬cH listed i:=λhx=>hnl ((eL hls).2 (.inr hx))
    unfold cH at this;simpa using this
   ·simp[hls]at h0;simp[hls,h0]
   ·simp[hls]
  omega
end
def NF(br:List (Nat×Nat))(H:List aA)(k:Nat):Option (Nat×aA):=match br.find? (λx=>x.1==k)with
 |some x=>(H[x.2]?).map λB=>(x.2,B)
 |none=>none
def qaw(rw:List Nat)(br:List (Nat×Nat))(lo n:Nat):Bool:=(br.all (λx=>decide (lo<=x.2)&&decide (x.2<lo+n))&&br.all λx=>br.all λy=>x.2 !=y.2||x.1==y.1)&&rw.all λx=>x % 8 !=3||decide (x / 8<lo)
def Zs(rw:List Nat)(H:List aA):Bool:=rw.all λx=>x % 2 !=0||match H[x / 2]? with
 |some (.cells _ [])=>true
 |_=>false
def PH(rw:List Nat)(lg:List (List Rs)):Bool:=lg.all λl=>l.all λr=>!(r.1&&rw.contains (2 * r.2.1))&&(r.2.2 !=1||r.1||(!rw.contains (2 * r.2.1)&&rw.contains (8 * r.2.1+3)))
theorem rO{br:List (Nat×Nat)}{H:List aA}{k i:Nat}{B:aA}(h:NF br H k=some (i,B)):(k,i)∈br/\H[i]? =some B:=by
 unfold NF at h
 split at h
 ·rename_i x hx
  obtain⟨B',h1,h2⟩:=ef h
  cases h2
  have h3:=vbH hx
  simp only[vaP]at h3
  subst h3
  exact⟨vbj hx,h1⟩
 ·cases h
def PT(P:Program)(GE:List (Nat×List PVal))(ops:Array Oper)(an:List Nat)(X:List aA)(br:List (Nat×Nat))(rw:List Nat)(K:aB->Prop)(st:aB):Prop:=
 drawD P rw ops.toList st.tmps.length an=true/\(qaw rw br st.boxes.length X.length&&Zs rw (st.boxes++X))=true/\
  ku P GE (NF br (st.boxes++X)) rw ops (λlg st'=>(UD an lg&&PH rw lg)=true/\K st') ops.toList (st.boxes.length+X.length) [] {st with boxes:=st.boxes++X++fc P ops.toList}
section
variable{P:Program}{E:lh}{w:World}{a:Act}{st:aB}
theorem Fa{bs0:be}{ops:Array Oper}{an:List Nat}{X:List aA}{br:List (Nat×Nat)}{rw:List Nat}{K:aB->Prop}{Q:Exit->Act->World->Prop}(hR:OM P E bs0 st a w)(hl:bs0.length<=st.boxes.length)
  (hQ:∀a' w' st',a'.defers=a.defers->OM P E bs0 st' a' w'->K st'->Q .normal a' w') (hp:PT P E.GE ops an X br rw K st):wpAny P .any ops Q ops.size (Array.replicate ops.size false) a {w with drawn:=w.drawn+1}:=by
 obtain⟨hok,hbr,hp⟩:=hp
 rw[vad]at hbr
 obtain⟨hbr,hrow⟩:=hbr
 obtain⟨hD,han⟩:=K7 hok
 obtain⟨T,R,t0,tl,⟨tlog,t1⟩,t2⟩:=CP ops.toList _ _ _ hp
 rw[vaR,vad]at tlog
 obtain⟨tlog,tlr⟩:=tlog
 obtain⟨Γ,bs,ow,h,hk⟩:=hR
 have hxl:(st.boxes++X).length=st.boxes.length+X.length:=by simp
 unfold qaw at hbr
 simp only[vad,vas,vao,va3,bne_iff_ne,ne_eq,vaP]at hbr
 obtain⟨hbr,hhd⟩:=hbr
 have hlg:∀j,j<ops.size->∀r∈R.getD j [],(!(r.1&&rw.contains (2 * r.2.1))&&(r.2.2 !=1||r.1||(!rw.contains (2 * r.2.1)&&rw.contains (8 * r.2.1+3))))=true:=λj hj r hr=>by
  have hjl:j<R.length:=by rw[tl];simpa using hj
  have hm:R.getD j []∈R:=by
   rw[vaq,vab hjl];exact vaC hjl
  exact vas.1 (vas.1 tlr _ hm) _ hr
 have hT:kO P E.GE (NF br (st.boxes++X)) rw ops st.tmps.length (st.boxes.length+X.length) T (λk=>R.getD k []):={
  len:=by rw[t0]
  step:=λk o ho=>by have:=t2 k o (by simpa using ho);simpa using this
  log:=λi j r hij hi hj=>by unfold bf;rw[han];exact UE tlog hij hi hj
  row0:=λi hi k e hh=>by
   rw[t0]at hh
   obtain⟨cs,own,e1,e2⟩:=dK.1 hh
   have hri:=vas.1 hrow _ hi
   rw[va3,show 2 * i / 2=i by omega]at hri
   rcases hri with hri|hri
   ·rw[show 2 * i % 2=0 by omega]at hri;cases hri
   split at hri
   ·rename_i cs' heq
    simp only at e1
    rw[vac (aq heq),heq]at e1
    cases e1;cases e2
   ·cases hri
  rowl:=λj hj i hi k hr=>by
   have:=hlg j hj _ hr
   simp[hi]at this
  roww:=λj hj i hi hr=>by
   have:=hlg j hj _ hr
   simp[hi]at this
  wl:=λj hj i hr=>by
   have:=hlg j hj _ hr
   simp only[bne_self_eq_false,vb3,vad,va0]at this
   have h4:=hhd _ (vbs.1 this.2.2)
   have h5:i<st.boxes.length:=by omega
   refine⟨by omega,λk B hb=>?_⟩
   have:=hbr.1 _ (rO hb).1
   simp only at this
   omega
  hd:=λi hi=>by
   have h4:=hhd _ hi
   have h5:i<st.boxes.length:=by omega
   refine⟨by omega,λk B hb=>?_⟩
   have:=hbr.1 _ (rO hb).1
   simp only at this
   omega
  binj:=λj k i B B' h1 h2=>by
   have m1:=(rO h1).1
   have m2:=(rO h2).1
   rcases hbr.2 _ m1 _ m2 with hx|hx
   ·exact absurd rfl hx
   ·exact hx}
 have hbd:∀(k i:Nat) B,NF br (st.boxes++X) k=some (i,B)->bs0.length<=i/\i<st.boxes.length+X.length:=λk i B hb=>by
  have:=hbr.1 _ (rO hb).1
  simp only at this
  omega
 have hS0:=(h.drew).extend X
 have hS:=hS0.extend (fc P ops.toList)
 refine Un hD hT (by omega) hbd (ds:=a.defers) (λa' w' hd hR'=>hQ a' w' _ hd hR' (by simpa using t1)) ops.size _ a _ ?_ ?_
 ·refine⟨by simp,rfl,λj o ho hj=>?_,Γ,_,ow,_,hS,λi hi=>?_,rfl,λk o d ho hd hk'=>?_,λt _=>by rw[t0],⟨0,vaN _,λi o ho hc=>?_,by rw[t0]⟩,λi o ho hm _=>?_,λτ m hm hmk hh=>?_,λk i B _ hb _=>?_⟩
  ·unfold cH at hj
   rw[pW]at hj;cases hj
  ·rw[vac (by rw[vam,h.bl];omega),vac (by rw[h.bl];omega)];exact hk i hi
  ·unfold cH at hk'
   rw[pW]at hk';cases hk'
  ·unfold cH
   rw[pW]
   constructor
   ·intro hx;cases hx
   ·intro hx;exact absurd hx (vaS _)
  ·have hl':ops.toList[i]? =some o:=by simpa using ho
   have hget:=FK (P:=P) ops.toList i o hl' hm
   have hlt:ch (ops.toList.take i)<(fc P ops.toList).length:=by
    have:∃B,lP P o=some B:=by cases hx:o.op<;>simp[aE,hx]at hm<;>exact⟨_,by simp[lP,hx];rfl⟩
    obtain⟨B,hB⟩:=this
    rw[hB]at hget
    exact aq hget
   have hbl2:(bs++List.replicate X.length none).length=st.boxes.length+X.length:=by simp[h.bl]
   unfold As
   refine⟨?_,?_⟩
   ·rw[vaf (by rw[hbl2];omega),vaW,vah (by rw[hbl2];omega)]
   ·show(st.boxes++X++fc P ops.toList)[_]? =_
    rw[vaf (by omega),hxl,vbE]
    exact hget
  ·have:=hT.back (τ:=τ) m 0 (by omega) λi h1 h2 hir=>by
    have:=(hmk i (by omega) hir).2 (by omega)
    unfold cH at this
    rw[pW]at this;cases this
   rw[vaI,t0]at this
   exact this hh
  ·obtain⟨m1,m2⟩:=rO hb
   have:=hbr.1 _ m1
   simp only at this
   have hbl2:(bs++List.replicate X.length none).length=st.boxes.length+X.length:=by simp[h.bl]
   refine⟨?_,?_⟩
   ·rw[vac (by omega),vaf (by rw[h.bl];omega),vaW,vah (by rw[h.bl];omega)]
   ·show(st.boxes++X++fc P ops.toList)[_]? =_
    rw[vac (by omega)];exact m2
 ·unfold xq
  have:=vcS (λi=>!(Array.replicate ops.size false).getD i false) (List.range ops.size)
  simpa using this
end
def Xc(P:Program)(op:Op):Bool:=!NQ op&&!aE op&&bY P op !=3
def nC(P:Program)(GE:List (Nat×List PVal))(o:Oper)(sc:List It)(st:aB)(K:List It->List Rs->aB->Prop):Prop:=
 match o.dst with
 |some d=>match Xc P o.op with
  |true=>Ts P GE o.op st.tmps st.boxes sc λp _ sc'=>eu st.tmps d p λtm=>ba (bu d st.own) λow=>K sc' [(false,d,0)] ⟨tm,st.boxes,ow⟩
  |false=>False
 |none=>False
def nD(st:aB)(d:Nat)(p:PVal)(L:List (Nat×TypeId))(sc:List It)(K:List It->List Rs->aB->Prop):Prop:=
 eu st.tmps d p λtm=>ba ((L.map λx=>((d,x.1),x.2))++bu d st.own) λow=>K sc [(false,d,0)] ⟨tm,st.boxes,ow⟩
def CR (P:Program) (GE:List (Nat×List PVal)) (T:TypeId) (x:Operand) (vt:PVal) (vs:List PVal) (own:Option (Nat×List (Nat×TypeId))) (sc:List It) (st:aB) (K:List It→List Rs→aB→Prop):Prop :=
 lT GE st.tmps x λvx=>match vx with
 | .bptr i off => cj vt = some vs∧kw st.boxes i fun B => match B with
  | .cells cs ow => match decide (vs.length = P.cellsOf T) && (P.info? T).isSome && decide (off + vs.length ≤ cs.length) && vs.all PVal.one with
   | true => ba (cs.take off ++ vs ++ cs.drop (off + vs.length)) fun cs' => ba (uU i off vs.length) fun rg => match own with
    |none=>ba (ow.filter λy=>y.1<off||off+vs.length<=y.1) λow'=>eu st.boxes i (.cells cs' ow') λH=>K sc rg ⟨st.tmps,H,st.own⟩
    |some (t,L)=>match nO (L.map (·.1))&&L.all (λy=>decide (y.1<vs.length))with
     | true => ba ((L.map fun y => (off + y.1,y.2)).reverse ++ ow.filter fun y => y.1 < off || off + vs.length ≤ y.1) fun ow' => eu st.boxes i (.cells cs' ow') fun H =>
       ba (st.own.filter λx=>!L.any λy=>x.1==(t,y.1)) λso=>K sc ((false,t,0)::rg) ⟨st.tmps,H,so⟩
     |false=>False
   |false=>False
  |_=>False
 |_=>False
def qcj(L:List (Nat×TypeId)):Bool:=match L with
 |[(0,_)]=>true
 |_=>false
def Tp(P:Program)(GE:List (Nat×List PVal))(rw:List Nat)(T:TypeId)(x:Operand)(vt:PVal)(cs':List PVal)(sc:List It)(st:aB)(K:List It->List Rs->aB->Prop):Prop:=
 lT GE st.tmps x λvx=>match vx with
 | .bptr i off => match rw.contains (2 * i) with
  |true=>kw st.boxes i λB=>match B with
   |.cells cs []=>di P T (.bptr 0 off) vt [.cells cs []]=some [.cells cs' []]/\eu st.boxes i (.cells cs' []) λH=>K sc [] ⟨st.tmps,H,st.own⟩
   |_=>False
  |false=>False
 |_=>False
def BD (P:Program) (GE:List (Nat×List PVal)) (A:List Nat) (bi:Option (Nat×aA)) (rw:List Nat) (o:Oper) (id:Nat) (sc:List It) (st:aB) (K:List It→List Rs→aB→Prop):Prop :=
 match o.op,o.dst with
 | .call { callee := .value f,args,.. },some d => match sc with
  |.c r ro::sc'=>lT GE st.tmps f λvf=>match vf with
   |.func (.func g) first cap=>LM GE st.tmps args.toList λas=>CC P GE g (first++as++cap) r ro/\nD st d r ro sc' K
   |_=>False
  | .cg c :: sc' => match c.ρ with
   | [] => gN P GE f args.toList c st fun _ => eu st.tmps d c.r fun tm => ba ((c.ro.map fun x => ((d,x.1),x.2)) ++ bu d (st.own.filter fun z => !c.oa.any fun x => z.1 == (x.t,x.k))) fun ow =>
     ba ((false,d,0)::c.oa.map λx=>(false,x.t,0)) λrs=>K sc' rs ⟨tm,st.boxes,ow⟩
   |_=>False
  | .ar i e n _ :: sc' => match bi,args with
   |some (j,.cells cs0 []),⟨[x]⟩=>lT GE st.tmps f λvf=>lT GE st.tmps x λvx=>match vf,vx,i==j with
    | .func (.func g) [] [],.slice ns,true => qd P g e∧(0 < P.cellsOf e∧(∀ x ∈ ns,x.length = P.cellsOf e∧∀ q ∈ x,q.one = true)∧ns.length ≤ bo)∧(n = ns.length∧cs0 = ns.flatten) ∧
      eu st.tmps d (.bsl i 0 n) λtm=>ba (bu d st.own) λow=>K sc' [(false,d,0)] ⟨tm,st.boxes,ow⟩
    |_,_,_=>False
   |_,_=>False
  |_=>False
 |.alloc t,some d=>match(eD P t).isSome with
  |true=>nD st d (.bptr id 0) [] sc K
  |false=>False
 |.makeMap _ none,some d=>nD st d (.mapr id) [] sc K
 |.buildSlice T len parts,some d=>vX GE st.tmps parts.toList λps=>match sc,P.underlying T with
  |.v p::sc',some (.slice e)=>eV P T len ps=some p/\nD st d p [(0,e)] sc' K
  |_,_=>False
 | .build T parts,some d => match sc with
  |.b p L::sc'=>vX GE st.tmps parts.toList λps=>dh P T ps=some p/\FJ P T ps L/\nD st d p L sc' K
  | .ar t k _ _ :: .v p :: sc' => match decide (d ≠ t) && (parts.toList.any fun x => DP t x.2) with
   |true=>rv st.tmps t λvt=>match vt with
    | .slice _ => vX GE st.tmps parts.toList fun ps => dh P T ps = some p∧qd3 P T (Rn GE st.tmps parts.toList t) k ∧
      eu st.tmps d p λtm=>ba (gi d (λx=>if x=(t,0)then(d,k)else x) st.own) λow=>K sc' [(false,d,0),(false,t,0)] ⟨tm,st.boxes,ow⟩
    |_=>False
   |false=>False
  |_=>nC P GE o sc st K
 |.assign (.const v),some d=>match rC P o.type v with
  |some e=>nD st d (.slice []) [(0,e)] sc K
  |none=>nC P GE o sc st K
 |.move (.const v),some d=>match rC P o.type v with
  |some e=>nD st d (.slice []) [(0,e)] sc K
  |none=>nC P GE o sc st K
 |.assign (.tmp t),some d=>match decide (d≠t)with
  |true=>rv st.tmps t λp=>eu st.tmps d p λtm=>ba (gi d (λx=>if x.1=t then(d,x.2)else x) st.own) λow=>K sc [(false,d,0),(false,t,0)] ⟨tm,st.boxes,ow⟩
  |false=>False
 |.move (.tmp t),some d=>match decide (d∈A)&&decide (d≠t)with
  |true=>rv st.tmps t λp=>eu st.tmps d p λtm=>ba (gi d (λx=>if x.1=t then(d,x.2)else x) st.own) λow=>K sc [(false,d,0),(false,t,0)] ⟨tm,st.boxes,ow⟩
  |false=>nC P GE o sc st K
 |.extract (.tmp t) k,some d=>match decide (d∈A)&&decide (d≠t)with
  |true=>rv st.tmps t λvt=>Lq (nS vt k) λp=>eu st.tmps d p λtm=>ba (gi d (λx=>if x=(t,k)then(d,0)else x) st.own) λow=>K sc [(false,d,0),(false,t,0)] ⟨tm,st.boxes,ow⟩
  |false=>nC P GE o sc st K
 | .call { callee := .builtin .append,args:=⟨[.tmp t,y]⟩,argTypes:=⟨[T,T']⟩ },some d => rv st.tmps t fun ve => lT GE st.tmps y fun vn => match ve,vn,sc,P.underlying T with
  |.slice es,.slice ns,.v p::sc',some (.slice e)=>match decide (T=T')&&decide (((t,0),e)∈st.own)with
   |true=>hO P T es ns=some p/\eu st.tmps d p λtm=>ba (((d,0),e)::bu d (st.own.filter λx=>x.1 !=(t,0))) λow=>K sc' [(false,d,0),(false,t,0)] ⟨tm,st.boxes,ow⟩
   |false=>False
  | .slice [],.slice ns,.ar i e n _ :: sc',some (.slice e') => match bi with
   |some (j,.cells cs0 [])=>match decide (T=T')&&decide (((t,0),e)∈st.own)&&decide (i=j)&&decide (e=e')with
    |true=>P.underlying T=some (.slice e)/\(∃p,hO P T [] ns=some p)/\(n=ns.length/\cs0=ns.flatten)/\eu st.tmps d (.bsl i 0 n) λtm=>ba (bu d (st.own.filter λx=>x.1 !=(t,0))) λow=>K sc' [(false,d,0),(false,t,0)] ⟨tm,st.boxes,ow⟩
    |false=>False
   |_=>False
  |_,_,_,_=>False
 | .load T x,some d => match sc,P.underlying T,decide (d ∈ A) with
  | .z l :: sc',some (.struct _),_ => lT GE st.tmps x fun vx => match vx with
   | .bptr i off => kw st.boxes i fun B => match B with
    | .cells cs own => aY P T (cs.drop off) = some (.agg l)∧ba (TQ off (P.cellsOf T) own) fun L => match nO (L.map (·.1)) with
     | true => eu st.tmps d (.agg l) fun tm => ba (own.filter fun x => !L.any fun y => x.1 == off + y.1) fun own' => eu st.boxes i (.cells cs own') fun H =>
       ba ((L.map λy=>((d,y.1),y.2)).reverse++bu d st.own) λow=>ba ((false,d,0)::L.map λy=>(true,i,off+y.1)) λrs=>K sc' rs ⟨tm,H,ow⟩
     |false=>False
    |_=>False
   |_=>False
  | _,some (.slice e),true => lT GE st.tmps x fun vx => match vx with
   | .bptr i off => kw st.boxes i fun B => match B with
    | .cells cs own => match decide ((off,e) ∈ own) && decide (off < cs.length) with
     | true => rv cs off fun p => eu st.tmps d p fun tm => ba (own.filter fun x => !([((0:Nat),e)].any fun y => x.1 == off + y.1)) fun own' => eu st.boxes i (.cells cs own') fun H =>
       ba (([((0:Nat),e)].map λy=>((d,y.1),y.2)).reverse++bu d st.own) λow=>ba ((false,d,0)::[((0:Nat),e)].map λy=>(true,i,off+y.1)) λrs=>K sc rs ⟨tm,H,ow⟩
     |false=>False
    |_=>False
   |_=>False
  |_,_,_=>nC P GE o sc st K
 | .store T x (.tmp t),none => rv st.tmps t fun vt => match sc with
  |.y vs::sc'=>ba (Is t st.own) λL=>match vt with
   |.agg l=>CR P GE T x (.agg l) vs (some (t,L)) sc' st K
   |_=>False
  | .s :: sc' => match vt.one with
   |true=>ba (Is t st.own) λL=>match qcj L with
    |true=>CR P GE T x vt [vt] (some (t,L)) sc' st K
    |false=>CR P GE T x vt [vt] none sc' st K
   |false=>False
  |.x vs::sc'=>CR P GE T x vt vs none sc' st K
  |.w _ (.cells cs' [])::sc'=>Tp P GE rw T x vt cs' sc' st K
  |_=>False
 | .store T x y,none => lT GE st.tmps y fun vt => match sc with
  |.s::sc'=>match vt.one with
   |true=>CR P GE T x vt [vt] none sc' st K
   |false=>False
  |.x vs::sc'=>CR P GE T x vt vs none sc' st K
  |.w _ (.cells cs' [])::sc'=>Tp P GE rw T x vt cs' sc' st K
  |_=>False
 | .mapUpdate t m k x,none => lT GE st.tmps m fun vm => lT GE st.tmps k fun vk => lT GE st.tmps x fun vx => match vm,sc with
  |.mapr i,.w _ (.map es')::sc'=>kw st.boxes i λB=>match B with
   |.map es=>N9 P t es vk vx=some es'/\eu st.boxes i (.map es') λH=>K sc' [] ⟨st.tmps,H,st.own⟩
   |_=>False
  |_,_=>False
 |_,_=>nC P GE o sc st K
def SE:aA->Bool
 |.cells _ []=>true
 |_=>false
def JN(P:Program)(GE:List (Nat×List PVal))(A:List Nat)(bi:Option (Nat×aA))(rw:List Nat)(o:Oper)(id:Nat)(sc:List It)(st:aB)(K:List It->List Rs->aB->Prop):Prop:=
 match o.op,o.dst,sc with
 | .call { callee := .value f,args,.. },some d,.cg c :: sc' => match rw.contains (8 * d + 7) with
  |true=>c.Bs'=c.Bs/\(match c.Bs.all SE&&c.ρ.all (λi=>rw.contains (2 * i)&&rw.contains (8 * i+3))with
   | true => gN P GE f args.toList c st fun H => eu st.tmps d c.r fun tm => ba ((c.ro.map fun x => ((d,x.1),x.2)) ++ bu d (st.own.filter fun z => !c.oa.any fun x => z.1 == (x.t,x.k))) fun ow =>
     ba ((false,d,0)::c.oa.map λx=>(false,x.t,0)) λrs=>K sc' rs ⟨tm,H,ow⟩
   |false=>False)
  |false=>match c.ρ with
  |[]=>BD P GE A bi rw o id sc st K
  |_::_=>match rw.contains (8 * d+1)with
   | true => gN P GE f args.toList c st fun H => eu st.tmps d c.r fun tm => ba ((c.ro.map fun x => ((d,x.1),x.2)) ++ bu d (st.own.filter fun z => !c.oa.any fun x => z.1 == (x.t,x.k))) fun ow =>
     ba (((false,d,0)::c.oa.map λx=>(false,x.t,0))++c.ρ.map λi=>(false,i,1)) λrs=>K sc' rs ⟨tm,H,ow⟩
   |false=>False
 | .load T x,some d,.v p :: sc' => match rw.contains (8 * d + 5) with
  |true=>lT GE st.tmps x λvx=>match vx with
   |.eptr cs=>aY P T cs=some p/\eu st.tmps d p λtm=>ba (bu d st.own) λow=>K sc' [(false,d,0)] ⟨tm,st.boxes,ow⟩
   |_=>False
  |false=>BD P GE A bi rw o id sc st K
 |_,_,_=>match Lp rw o||Na rw o with
  |true=>False
  |false=>BD P GE A bi rw o id sc st K
def DK(P:Program)(GE:List (Nat×List PVal))(bid:Nat->Option (Nat×aA))(rw:List Nat)(A:List Nat)(ops:Array Oper)(an:List Nat)(K:List It->aB->Prop):List Oper->Nat->Nat->List It->List (List Rs)->aB->Prop
 |[],_,_,sc,lg,st=>match UD an lg&&PH rw lg with
  |true=>K sc st
  |false=>False
 | o :: rest,pos,id,sc,lg,st =>
  let step (sc:List It) (st:aB):Prop:=JN P GE A (bid lg.length) rw o id sc st λsc' rs st'=>ba (lg++[rs]) λlg'=>DK P GE bid rw A ops an K rest (pos+1) (id+if aE o.op then 1 else 0) sc' lg' st'
  match o.guard with
  |none=>step sc st
  |some (j,want)=>JM ops j want pos sc st λb sc' st'=>match b with
   |true=>step sc' st'
   |false=>Np st' o.dst (.val undef) [] st'.boxes λst''=>ba (lg++[yp o]) λlg'=>DK P GE bid rw A ops an K rest (pos+1) (id+if aE o.op then 1 else 0) sc' lg' st''
section
variable{P:Program}{GE:List (Nat×List PVal)}{A:List Nat}{ops:Array Oper}
theorem gB{bi:Option (Nat×aA)}{rw:List Nat}{o:Oper}{id:Nat}{sc:List It}{st:aB}{K:List It->List Rs->aB->Prop}(h:nC P GE o sc st K):∃s' rs,gy P GE bi rw o id st s' rs/\∃sc',K sc' rs s':=by
 unfold nC at h
 split at h
 ·rename_i d hd
  split at h
  ·rename_i hp
   unfold Xc at hp
   simp only[vad,va0,bne_iff_ne,ne_eq]at hp
   obtain⟨⟨p1,p2⟩,p3⟩:=hp
   obtain⟨p,H',sc',k1,k2,_⟩:=If (id:=id) h
   simp only[bk,aF]at k2
   have:=US p3 p2 k1
   subst this
   exact⟨_,_,.ev d p hd p1 p2 p3 k1,sc',k2⟩
  ·exact h.elim
 ·exact h.elim
theorem uF{bi:Option (Nat×aA)}{rw:List Nat}{o:Oper}{id:Nat}{T:TypeId}{x y:Operand}{vs:List PVal}{sc:List It}{st:aB}{K:List It->List Rs->aB->Prop}(ho:o.op=.store T x y)(hd:o.dst=none)(h:CR P GE T x (opv GE st.tmps y) vs none sc st K):∃s' rs,gy P GE bi rw o id st s' rs/\∃sc',K sc' rs s':=by
 unfold CR at h
 rw[bP]at h
 split at h
 ·rename_i i off hx
  obtain⟨hvs,h⟩:=h
  obtain⟨B,hB,h⟩:=dJ h
  split at h
  ·rename_i cs own
   split at h
   ·rename_i hc
    simp only[aF,bk]at h
    simp only[vad,vao]at hc
    exact⟨_,_,.st T x y i off vs cs own hd ho hx hvs hB (by simp only[di,hvs,hB];rw[vah ⟨hc.1.1.1,hc.1.1.2,hc.1.2,hc.2⟩]),sc,h⟩
   ·exact h.elim
  ·exact h.elim
 ·exact h.elim
theorem Fd{bi:Option (Nat×aA)}{rw:List Nat}{o:Oper}{id:Nat}{T:TypeId}{x:Operand}{t:Nat}{vt:PVal}{vs:List PVal}{L:List (Nat×TypeId)}{sc:List It}{st:aB}{K:List It->List Rs->aB->Prop}(ho:o.op=.store T x (.tmp t))(hd:o.dst=none)
  (hvt:st.tmps.getD t .undef=vt) (hk:(∃l,vt=.agg l)\/(vt.one=true/\∃e,L=[(0,e)])) (hm:∀y∈L,((t,y.1),y.2)∈st.own) (h:CR P GE T x vt vs (some (t,L)) sc st K):
  ∃s' rs,gy P GE bi rw o id st s' rs/\∃sc',K sc' rs s':=by
 subst hvt
 unfold CR at h
 rw[bP]at h
 split at h
 ·rename_i i off hx
  obtain⟨hvs,h⟩:=h
  obtain⟨B,hB,h⟩:=dJ h
  split at h
  ·rename_i cs own
   split at h
   ·rename_i hc
    simp only[aF]at h
    split at h
    ·rename_i hl
     simp only[bk]at h
     simp only[vad,vao,vas]at hc hl
     exact⟨_,_,.sto T x t i off vs cs own L hd ho hx hvs hB (by simp only[di,hvs,hB];rw[vah ⟨hc.1.1.1,hc.1.1.2,hc.1.2,vas.2 hc.2⟩]) hk hm (kj hl.1) (λy hy=>by simpa using hl.2 y hy),sc,h⟩
    ·exact h.elim
   ·exact h.elim
  ·exact h.elim
 ·exact h.elim
theorem Ie{bi:Option (Nat×aA)}{rw:List Nat}{o:Oper}{id:Nat}{T:TypeId}{x y:Operand}{cs':List PVal}{sc:List It}{st:aB}{K:List It->List Rs->aB->Prop}(ho:o.op=.store T x y)(hd:o.dst=none)(h:Tp P GE rw T x (opv GE st.tmps y) cs' sc st K):∃s' rs,gy P GE bi rw o id st s' rs/\∃sc',K sc' rs s':=by
 unfold Tp at h
 rw[bP]at h
 split at h
 ·rename_i i off hx
  split at h
  ·rename_i hi
   obtain⟨B,hB,h⟩:=dJ h
   split at h
   ·rename_i cs
    obtain⟨h1,h2⟩:=h
    rw[bk]at h2
    exact⟨_,_,.stR T x y i off cs cs' hd ho hx hB h1 (by simpa using hi),sc,h2⟩
   ·exact h.elim
  ·exact h.elim
 ·exact h.elim
theorem HD{n:Nat}{args:List Operand}{own own':List ((Nat×Nat)×TypeId)}{oa:List OA}(h:Q6 n args own oa=true)(hs:∀x∈oa,((x.t,x.k),x.e)∈own->((x.t,x.k),x.e)∈own'):Q6 n args own' oa=true:=by
 unfold Q6 at h ⊢
 rw[vad]at h ⊢
 refine⟨vas.2 λx hx=>?_,h.2⟩
 have:=vas.1 h.1 x hx
 simp only[vad,va3,vao]at this ⊢
 exact⟨this.1,this.2.imp_right λ⟨k1,k2⟩=>⟨hs x hx k1,k2⟩⟩
theorem K8{f:Operand}{args:List Operand}{c:GC}{s:aB}{K:List aA->Prop}(hρ:c.ρ=[])(h:gN P GE f args c s K):K s.boxes/\∀st:aB,(∀x,x=f\/x∈args->opv GE s.tmps x=opv GE st.tmps x)->(∀x∈c.oa,((x.t,x.k),x.e)∈s.own->((x.t,x.k),x.e)∈st.own)->El P GE f args st c.r c.ro st.boxes c.oa:=by
 have h0:=h
 unfold gN at h
 rw[bP]at h
 split at h
 ·rename_i g first cap hf
  rw[kz]at h
  split at h
  ·rename_i hb
   obtain⟨h1,h2,h3,h4,h5,h6⟩:=h
   rw[nf]at h6
   have hs:∀(H:List aA),jz H c.ρ c.Bs'=H:=λH=>by rw[hρ];cases c.Bs'<;>rfl
   rw[hs]at h6
   refine⟨h6,λst ho how=>?_⟩
   have key:gN P GE f args c st (λH=>H=st.boxes):=by
    unfold gN
    rw[bP,<-ho f (.inl rfl),hf]
    simp only
    rw[kz,show args.map (opv GE st.tmps)=args.map (opv GE s.tmps)from vbk λx hx=>(ho x (.inr hx)).symm]
    have hb2:(nO c.ρ&&Q6 first.length args st.own c.oa&&c.Bs.all JV&&decide (c.Bs'.length=c.ρ.length))=true:=by
     simp only[vad]at hb ⊢
     exact⟨⟨⟨hb.1.1.1,HD hb.1.1.2 how⟩,hb.1.2⟩,hb.2⟩
    rw[hb2]
    simp only
    refine⟨h1,h2,?_,h4,h5,?_⟩
    ·rw[hρ]at h3 ⊢
     cases hBs:c.Bs<;>cases hHc:c.Hc<;>rw[hBs,hHc]at h3<;>first|exact h3.elim|trivial
    ·rw[nf,hs]
   obtain⟨H',k1,rfl⟩:=pJ key
   exact k1
  ·exact h.elim
 ·exact h.elim
theorem M5{bi:Option (Nat×aA)}{rw:List Nat}{o:Oper}{id:Nat}{sc:List It}{st:aB}{K:List It->List Rs->aB->Prop}(h:BD P GE A bi rw o id sc st K):∃s' rs,gy P GE bi rw o id st s' rs/\∃sc',K sc' rs s':=by
 unfold BD at h
 split at h
 ·rename_i f args tys d ho hd
  split at h
  ·rename_i r ro sc'
   rw[bP]at h
   split at h
   ·rename_i g first cap hf
    rw[kz]at h
    obtain⟨⟨h1,h2⟩,h3⟩:=h
    simp only[nD,bk,aF]at h3
    exact⟨_,_,.call d f args tys g first cap r ro ho hd hf h1 h2,sc',h3⟩
   ·exact h.elim
  ·rename_i c sc'
   split at h
   ·rename_i hρ
    obtain⟨h1,h2⟩:=K8 hρ h
    simp only[bk,aF]at h1
    exact⟨_,_,.callR d f args tys c.r c.ro c.oa ho hd h2,sc',h1⟩
   ·exact h.elim
  ·rename_i i e n cs sc'
   split at h
   ·rename_i j cs0 x
    simp only[bP]at h
    split at h
    ·rename_i g ns hf hx hij
     simp only[vaP]at hij
     subst hij
     obtain⟨h1,⟨h2,h3,h4⟩,⟨rfl,rfl⟩,h5⟩:=h
     simp only[bk,aF]at h5
     exact⟨_,_,.cl d i f x tys g e ns ho hd rfl hf hx h1 h2 h3 h4,sc',h5⟩
    ·exact h.elim
   ·exact h.elim
  ·exact h.elim
 ·rename_i t d ho hd
  split at h
  ·rename_i hz
   obtain⟨zs,hz⟩:=vaT.1 hz
   simp only[nD,bk,aF]at h
   exact⟨_,_,.alloc d t zs ho hd hz,sc,h⟩
  ·exact h.elim
 ·rename_i t d ho hd
  simp only[nD,bk,aF]at h
  exact⟨_,_,.mkmap d t ho hd,sc,h⟩
 ·rename_i T len parts d ho hd
  rw[nb]at h
  split at h
  ·rename_i p sc' e hu
   obtain⟨h1,h2⟩:=h
   simp only[nD,bk,aF]at h2
   exact⟨_,_,.res d p [(0,e)] hd (.inl ⟨T,len,parts,e,ho,h1,hu,rfl⟩),sc',h2⟩
  ·exact h.elim
 ·rename_i T parts d ho hd
  split at h
  ·rename_i p L sc'
   rw[nb]at h
   obtain⟨h1,h2,h3⟩:=h
   simp only[nD,bk,aF]at h3
   exact⟨_,_,.res d p L hd (.inr (.inl ⟨T,parts,ho,h1,h2⟩)),sc',h3⟩
  ·rename_i t k _ _ p sc'
   split at h
   ·rename_i hc
    rw[fU]at h
    split at h
    ·rename_i es hes
     rw[nb]at h
     obtain⟨h1,h2,h3⟩:=h
     simp only[bk,aF]at h3
     simp only[vad,vao]at hc
     exact⟨_,_,.bmv d t k T parts p es hd ho hc.1 hes hc.2 h1 h2,sc',h3⟩
    ·exact h.elim
   ·exact h.elim
  ·exact gB h
 ·rename_i v d ho hd
  split at h
  ·rename_i e he
   simp only[nD,bk,aF]at h
   exact⟨_,_,.res d (.slice []) [(0,e)] hd (.inr (.inr ⟨v,e,.inl ho,he,rfl,rfl⟩)),sc,h⟩
  ·exact gB h
 ·rename_i v d ho hd
  split at h
  ·rename_i e he
   simp only[nD,bk,aF]at h
   exact⟨_,_,.res d (.slice []) [(0,e)] hd (.inr (.inr ⟨v,e,.inr ho,he,rfl,rfl⟩)),sc,h⟩
  ·exact gB h
 ·rename_i t d ho hd
  split at h
  ·rename_i hdt
   simp only[fU,bk,aF]at h
   exact⟨_,_,.mv d t hd (.inl ho) (by simpa using hdt),sc,h⟩
  ·exact h.elim
 ·rename_i t d ho hd
  split at h
  ·rename_i hdt
   simp only[vad,vao]at hdt
   simp only[fU,bk,aF]at h
   exact⟨_,_,.mv d t hd (.inr ho) hdt.2,sc,h⟩
  ·exact gB h
 ·rename_i t k d ho hd
  split at h
  ·rename_i hdt
   simp only[vad,vao]at hdt
   rw[fU]at h
   obtain⟨p,h1,h2⟩:=rx h
   simp only[bk,aF]at h2
   exact⟨_,_,.ext d t k p hd ho hdt.2 h1,sc,h2⟩
  ·exact gB h
 ·rename_i t y T T' d ho hd
  rw[fU,bP]at h
  split at h
  ·rename_i es ns p sc' e he hn hu
   split at h
   ·rename_i hc
    simp only[vad,vao]at hc
    obtain⟨rfl,hm⟩:=hc
    obtain⟨h1,h2⟩:=h
    simp only[bk,aF]at h2
    exact⟨_,_,.app d t T e y es ns p hd ho hu he hn h1 hm,sc',h2⟩
   ·exact h.elim
  ·rename_i ns i e n _ sc' e' he hn hu
   split at h
   ·rename_i j cs0
    split at h
    ·rename_i hc
     simp only[vad,vao]at hc
     obtain⟨⟨⟨rfl,hm⟩,rfl⟩,rfl⟩:=hc
     obtain⟨_,⟨p,h1⟩,⟨rfl,rfl⟩,h2⟩:=h
     simp only[bk,aF]at h2
     exact⟨_,_,.apb d t i T e y ns p hd ho rfl hu he hn h1 hm,sc',h2⟩
    ·exact h.elim
   ·exact h.elim
  ·exact h.elim
 ·rename_i T x d ho hd
  split at h
  ·rename_i l sc' fs hu
   rw[bP]at h
   split at h
   ·rename_i i off hx
    obtain⟨B,hB,h⟩:=dJ h
    split at h
    ·rename_i cs own
     obtain⟨h1,h2⟩:=h
     rw[aF]at h2
     split at h2
     ·rename_i hn
      simp only[bk,aF]at h2
      have hlen:l.length=P.cellsOf T:=by
       have hp:=h1
       unfold aY at hp
       rw[hu]at hp
       simp only at hp
       split at hp
       ·rename_i hh;cases hp;rw[vaQ];omega
       ·cases hp
      exact⟨_,_,.ld d T x i off cs own _ (.agg l) hd ho hx hB (.inr ⟨fs,l,hu,h1,rfl,kj hn,λy hy=>by rw[hlen];exact(BO hy).2⟩) (λy hy=>(BO hy).1),sc',h2⟩
     ·exact h2.elim
    ·exact h.elim
   ·exact h.elim
  ·rename_i e hu _
   rw[bP]at h
   split at h
   ·rename_i i off hx
    obtain⟨B,hB,h⟩:=dJ h
    split at h
    ·rename_i cs own
     split at h
     ·rename_i hc
      simp only[vad,vao]at hc
      simp only[fU,bk,aF]at h
      have hget:cs[off]? =some (cs.getD off .undef):=by
       rw[vaq,vab hc.2];rfl
      refine⟨_,_,.ld d T x i off cs own [(0,e)] (cs.getD off .undef) hd ho hx hB (.inl ⟨e,hu,hget,rfl⟩) (λy hy=>?_),_,h⟩
      rw[va4.1 hy];exact hc.1
     ·exact h.elim
    ·exact h.elim
   ·exact h.elim
  ·exact gB h
 ·rename_i T x t ho hd
  rw[fU]at h
  split at h
  ·rename_i vs sc'
   rw[aF]at h
   split at h
   ·rename_i l hl
    exact Fd ho hd hl (.inl ⟨l,rfl⟩) (λy hy=>BP hy) h
   ·exact h.elim
  ·rename_i sc'
   split at h
   ·rename_i hone
    rw[aF]at h
    split at h
    ·rename_i hL
     refine Fd ho hd rfl (.inr ⟨hone,?_⟩) (λy hy=>BP hy) h
     unfold qcj at hL
     split at hL
     ·rename_i e heq;exact⟨e,heq⟩
     ·cases hL
    ·exact uF ho hd h
   ·exact h.elim
  ·exact uF ho hd h
  ·exact Ie ho hd h
  ·exact h.elim
 ·rename_i T x y _ ho hd
  rw[bP]at h
  split at h
  ·split at h
   ·exact uF ho hd h
   ·exact h.elim
  ·exact uF ho hd h
  ·exact Ie ho hd h
  ·exact h.elim
 ·rename_i t m k x ho hd
  simp only[bP]at h
  split at h
  ·rename_i i j es' sc' hv
   obtain⟨B,hB,h⟩:=dJ h
   split at h
   ·rename_i es
    obtain⟨h1,h2⟩:=h
    rw[bk]at h2
    exact⟨_,_,.mu t m k x _ hd ho (by rw[hv];exact Rj hB h1),sc',h2⟩
   ·exact h.elim
  ·exact h.elim
 ·exact gB h
theorem Yl{p p' q:aA}(h:tS p q=q)(hs:aL p'=aL p)(hm:∀cs own,p=.cells cs own->∀cs' own',p'=.cells cs' own'->∀x∈own,x∈own'):tS p' q=q:=by
 cases q with
 |dead=>cases p'<;>rfl
 | map es =>
  cases p with
  |cells cs own=>simp[tS]at h
  |dead=>simp[tS]at h
  |map es0=>
   cases p' with
   |map es1=>simp only[aL,aA.map.injEq]at hs;subst hs;exact h
   |cells cs own=>simp[aL]at hs
   |dead=>simp[aL]at hs
 | cells cs own =>
  cases p with
  |map es0=>simp[tS]at h
  |dead=>simp[tS]at h
  | cells cs0 own0 =>
   cases p' with
   |map es1=>simp[aL]at hs
   |dead=>simp[aL]at hs
   | cells cs1 oJ =>
    simp only[aL,aA.cells.injEq,vci]at hs
    subst hs
    have hm:=hm _ _ rfl _ _ rfl
    simp only[tS,aA.cells.injEq]at h ⊢
    refine⟨h.1,?_⟩
    have hall:own.all (λx=>decide (x∈oJ))=true:=vas.2 λx hx=>by
     have h2:=h.2
     split at h2
     ·rename_i ha
      have:=vas.1 ha x hx
      simp only[vao]at this ⊢
      exact hm x this
     ·subst h2;simpa using hm x hx
    rw[hall]
theorem QK{l:List aA}:∀{n:Nat} {k:aA->Prop} {B:aA},l[n]? =some B->k B->kw l n k:=by
 induction l with
 |nil=>intro n k B h;simp at h
 |cons x l ih=>
  intro n k B h hk
  cases n with
  |zero=>simp at h;subst h;exact hk
  |succ n=>exact ih (by simpa using h) hk
theorem Ln{ρ:List Nat}{H H2:List aA}(hs:H2.map aL=H.map aL):∀{js:List Nat} {Bs Hc:List aA},(∀i∈js,∀cs own,H[i]? =some (.cells cs own)->∀cs' own',H2[i]? =some (.cells cs' own')->∀x∈own,x∈own')->nH ρ H js Bs Hc->nH ρ H2 js Bs Hc
 |[],[],[],_,_=>trivial
 |[],_::_,_,_,h=>h.elim
 |[],[],_::_,_,h=>h.elim
 |_::_,[],_,_,h=>h.elim
 |_::_,_::_,[],_,h=>h.elim
 | j :: js,B :: Bs,Bc :: Hc,hm,h => by
  obtain⟨h1,h2⟩:=h
  obtain⟨B0,e1,e2,e3⟩:=dJ h1
  have hg:=Py hs j
  rw[e1]at hg
  cases hB:H2[j]? with
  |none=>rw[hB]at hg;cases hg
  |some B1=>
   rw[hB]at hg
   simp only[vak,vax]at hg
   exact⟨QK hB ⟨Yl e2 hg λcs own hp cs' own' hp'=>hm j (by simp) cs own (by rw[e1,hp]) cs' own' (by rw[hB,hp']),e3⟩,Ln hs (λi hi=>hm i (vaZ _ hi)) h2⟩
theorem Md:∀(js:List Nat) (Bs:List aA) (H H2:List aA),H2.length=H.length->js.length=Bs.length->∀i∈js,(jz H2 js Bs)[i]? =(jz H js Bs)[i]?
 |[],_,_,_,_,_,i,hi=>by cases hi
 |_::_,[],_,_,_,hl,_,_=>by simp at hl
 | j :: js,B :: Bs,H,H2,hl,hn,i,hi => by
  simp only[jz]
  by_cases hin:i∈js
  ·exact Md js Bs (H.set j B) (H2.set j B) (by simp[hl]) (by simpa using hn) i hin
  ·have:i=j:=(vaB.1 hi).resolve_right hin
   subst this
   rw[iY _ _ _ hin,iY _ _ _ hin,vbc,vbc]
   simp[hl]
theorem M2{f:Operand}{args:List Operand}{c:GC}{s:aB}{K:List aA->Prop}(h:gN P GE f args c s K):K (jz s.boxes c.ρ c.Bs')/\c.Bs'.length=c.ρ.length/\∀st:aB,(∀x,x=f\/x∈args->opv GE s.tmps x=opv GE st.tmps x)->(∀x∈c.oa,((x.t,x.k),x.e)∈s.own->((x.t,x.k),x.e)∈st.own)->st.boxes.map aL=s.boxes.map aL->(∀i∈c.ρ,∀k e,g9 s (true,(i,k),e)->g9 st (true,(i,k),e))->
   El P GE f args st c.r c.ro (jz st.boxes c.ρ c.Bs') c.oa:=by
 unfold gN at h
 rw[bP]at h
 split at h
 ·rename_i g first cap hf
  rw[kz]at h
  split at h
  ·rename_i hb
   obtain⟨h1,h2,h3,h4,h5,h6⟩:=h
   rw[nf]at h6
   refine⟨h6,?_,λst ho how hs hbx=>?_⟩
   ·simp only[vad,vao]at hb
    exact hb.2
   have key:gN P GE f args c st (λH=>H=jz st.boxes c.ρ c.Bs'):=by
    unfold gN
    rw[bP,<-ho f (.inl rfl),hf]
    simp only
    rw[kz,show args.map (opv GE st.tmps)=args.map (opv GE s.tmps)from vbk λx hx=>(ho x (.inr hx)).symm]
    have hb2:(nO c.ρ&&Q6 first.length args st.own c.oa&&c.Bs.all JV&&decide (c.Bs'.length=c.ρ.length))=true:=by
     simp only[vad]at hb ⊢
     exact⟨⟨⟨hb.1.1.1,HD hb.1.1.2 how⟩,hb.1.2⟩,hb.2⟩
    rw[hb2]
    simp only
    refine⟨h1,h2,Ln hs (λi hi cs own e1 cs' own' e2 x hx=>?_) h3,h4,h5,?_⟩
    ·obtain⟨cs2,own2,q1,q2⟩:=dK.1 (hbx i hi x.1 x.2 (dK.2 ⟨cs,own,e1,hx⟩))
     rw[e2]at q1;cases q1
     exact q2
    ·rw[nf]
   obtain⟨H',k1,rfl⟩:=pJ key
   exact k1
  ·exact h.elim
 ·exact h.elim
theorem So{p p':aA}{cs:List PVal}(h:tS p (.cells cs [])=.cells cs [])(hs:aL p'=aL p):tS p' (.cells cs [])=.cells cs []/\aL p'=.cells cs []:=by
 cases p with
 |map es0=>simp[tS]at h
 |dead=>simp[tS]at h
 | cells cs0 own0 =>
  cases p' with
  |map es1=>simp[aL]at hs
  |dead=>simp[aL]at hs
  |cells cs1 oJ=>
   simp only[aL,aA.cells.injEq,vci]at hs
   subst hs
   simp only[tS,aA.cells.injEq]at h ⊢
   refine⟨⟨h.1,by simp⟩,?_⟩
   simp only[aL]
   rw[h.1]
theorem PP{B:aA}(h:SE B=true):∃cs,B=.cells cs []:=by
 cases B with
 |cells cs own=>cases own with
  |nil=>exact⟨cs,rfl⟩
  |cons x l=>simp[SE]at h
 |map es=>simp[SE]at h
 |dead=>simp[SE]at h
theorem vR{ρ:List Nat}{H H2:List aA}(hs:H2.map aL=H.map aL):∀{js:List Nat} {Bs Hc:List aA},Bs.all SE=true->nH ρ H js Bs Hc->nH ρ H2 js Bs Hc/\∀(k j:Nat) B,js[k]? =some j->Bs[k]? =some B->(H2[j]?).map aL=some B
 |[],[],[],_,_=>⟨vzz,λk j B h _=>by simp at h⟩
 |[],_::_,_,_,h=>h.elim
 |[],[],_::_,_,h=>h.elim
 |_::_,[],_,_,h=>h.elim
 |_::_,_::_,[],_,h=>h.elim
 | j :: js,B :: Bs,Bc :: Hc,hp,h => by
  obtain⟨h1,h2⟩:=h
  simp only[List.all_cons,vad]at hp
  obtain⟨cs,rfl⟩:=PP hp.1
  obtain⟨B0,e1,e2,e3⟩:=dJ h1
  have hg:=Py hs j
  rw[e1]at hg
  cases hB:H2[j]? with
  |none=>rw[hB]at hg;cases hg
  | some B1 =>
   rw[hB]at hg
   simp only[vak,vax]at hg
   obtain⟨q1,q2⟩:=So e2 hg
   obtain⟨r1,r2⟩:=vR hs hp.2 h2
   refine⟨⟨QK hB ⟨q1,e3⟩,r1⟩,λk j' B' hj hB'=>?_⟩
   cases k with
   |zero=>
    simp at hj hB'
    subst hj
    subst hB'
    rw[hB]
    exact vbd some q2
   |succ k=>exact r2 k j' B' (by simpa using hj) (by simpa using hB')
theorem D2:∀(js:List Nat) (Bs:List aA) (H:List aA),js.Nodup->js.length=Bs.length->∀(k j:Nat) B,js[k]? =some j->Bs[k]? =some B->j<H.length->(jz H js Bs)[j]? =some B
 |[],_,_,_,_,k,j,B,h,_,_=>by simp at h
 |_::_,[],_,_,hl,_,_,_,_,_,_=>by simp at hl
 | i :: js,B0 :: Bs,H,hn,hl,k,j,B,hj,hB,hlt => by
  simp only[jz]
  rw[vbu]at hn
  cases k with
  |zero=>
   simp at hj hB
   subst hj
   subst hB
   rw[iY _ _ _ hn.1]
   simp[hlt]
  |succ k=>exact D2 js Bs _ hn.2 (by simpa using hl) k j B (by simpa using hj) (by simpa using hB) (by simpa using hlt)
theorem M3{f:Operand}{args:List Operand}{c:GC}{s:aB}{K:List aA->Prop}(hc:c.Bs'=c.Bs)(hpl:c.Bs.all SE=true)(h:gN P GE f args c s K):K (jz s.boxes c.ρ c.Bs')/\(∀H:List aA,H.map aL=s.boxes.map aL->(jz H c.ρ c.Bs').map aL=H.map aL)/\(∀(H:List aA) (i:Nat) cs own,i∈c.ρ->(jz H c.ρ c.Bs')[i]? =some (.cells cs own)->own=[])/\
   ∀st:aB,(∀x,x=f\/x∈args->opv GE s.tmps x=opv GE st.tmps x)->(∀x∈c.oa,((x.t,x.k),x.e)∈s.own->((x.t,x.k),x.e)∈st.own)->st.boxes.map aL=s.boxes.map aL->El P GE f args st c.r c.ro (jz st.boxes c.ρ c.Bs') c.oa:=by
 unfold gN at h
 rw[bP]at h
 split at h
 ·rename_i g first cap hf
  rw[kz]at h
  split at h
  ·rename_i hb
   obtain⟨h1,h2,h3,h4,h5,h6⟩:=h
   rw[nf]at h6
   have hb':=hb
   simp only[vad,vao]at hb'
   have hn:=kj hb'.1.1.1
   have hlen:=hb'.2
   refine⟨h6,λH hs=>?_,λH i cs own hi hx=>?_,λst ho how hs=>?_⟩
   ·obtain⟨_,hat⟩:=vR hs hpl h3
    refine vbf λi=>?_
    rw[vav,vav]
    by_cases hi:i∈c.ρ
    ·obtain⟨k,hk⟩:=vbi.1 hi
     have hkl:=aq hk
     have hB:c.Bs[k]? =some (c.Bs[k]'(by rw[<-hc,hlen];exact hkl)):=vab _
     have h7:=hat k i _ hk hB
     have hlt:i<H.length:=by
      cases hH:H[i]? with
      |none=>rw[hH]at h7;cases h7
      |some B=>exact aq hH
     rw[h7,D2 c.ρ c.Bs' H hn hlen.symm k i _ hk (by rw[hc];exact hB) hlt]
     obtain⟨cs,hcs⟩:=PP (vas.1 hpl _ (vaC (by rw[<-hc,hlen];exact hkl)))
     rw[hcs]
     rfl
    ·rw[iY _ _ _ hi]
   ·obtain⟨k,hk⟩:=vbi.1 hi
    have hkl:=aq hk
    have hB:c.Bs[k]? =some (c.Bs[k]'(by rw[<-hc,hlen];exact hkl)):=vab _
    have hlt:i<H.length:=by
     have:=aq hx
     rwa[B3]at this
    rw[D2 c.ρ c.Bs' H hn hlen.symm k i _ hk (by rw[hc];exact hB) hlt]at hx
    obtain⟨cs',hcs⟩:=PP (vas.1 hpl _ (vaC (by rw[<-hc,hlen];exact hkl)))
    rw[hcs]at hx
    cases hx
    rfl
   have key:gN P GE f args c st (λH=>H=jz st.boxes c.ρ c.Bs'):=by
    unfold gN
    rw[bP,<-ho f (.inl rfl),hf]
    simp only
    rw[kz,show args.map (opv GE st.tmps)=args.map (opv GE s.tmps)from vbk λx hx=>(ho x (.inr hx)).symm]
    have hb2:(nO c.ρ&&Q6 first.length args st.own c.oa&&c.Bs.all JV&&decide (c.Bs'.length=c.ρ.length))=true:=by
     simp only[vad]at hb ⊢
     exact⟨⟨⟨hb.1.1.1,HD hb.1.1.2 how⟩,hb.1.2⟩,hb.2⟩
    rw[hb2]
    simp only
    exact⟨h1,h2,(vR hs hpl h3).1,h4,h5,by rw[nf]⟩
   obtain⟨H',k1,rfl⟩:=pJ key
   exact k1
  ·exact h.elim
 ·exact h.elim
theorem M6{bi:Option (Nat×aA)}{rw:List Nat}{o:Oper}{id:Nat}{sc:List It}{st:aB}{K:List It->List Rs->aB->Prop}(h:JN P GE A bi rw o id sc st K):∃s' rs,lZ P GE bi rw o id st s' rs/\∃sc',K sc' rs s':=by
 have old:Lp rw o=false->Na rw o=false->BD P GE A bi rw o id sc st K->∃s' rs,lZ P GE bi rw o id st s' rs/\∃sc',K sc' rs s':=λhu hh h=>by
  obtain⟨s',rs,h1,h2⟩:=M5 h
  exact⟨s',rs,.old h1 hu hh,h2⟩
 unfold JN at h
 split at h
 ·rename_i f args tys d c sc' ho hd
  have hu:Lp rw o=false:=by unfold Lp;rw[ho]
  split at h
  ·rename_i h7
   obtain⟨hc,h⟩:=h
   split at h
   ·rename_i hpl
    rw[vad]at hpl
    obtain⟨h1,h2,h3,h4⟩:=M3 hc hpl.1 h
    simp only[bk,aF]at h1
    refine⟨_,_,.callH d f args tys c.r c.ro c.oa c.ρ (λH=>jz H c.ρ c.Bs') ho hd h7 (λH i hn=>iY _ _ _ hn) h2 h3 (λi hi=>?_) h4,sc',h1⟩
    have:=vas.1 hpl.2 i hi
    simp only[vad,vbs]at this
    exact this
   ·exact h.elim
  rename_i h7
  have hh:Na rw o=false:=by unfold Na;rw[ho,hd];exact h7
  split at h
  ·exact old hu hh h
  ·split at h
   ·rename_i hi
    obtain⟨h1,h2,h3⟩:=M2 h
    simp only[bk,aF]at h1
    exact⟨_,_,.callG d f args tys c.r c.ro c.oa c.ρ (λH=>jz H c.ρ c.Bs') ho hd hi h7 (λH i hn=>iY _ _ _ hn) (λH H2 i hs hn=>Md c.ρ c.Bs' H H2 (by simpa using vbd List.length hs) h2.symm i hn) h3,sc',h1⟩
   ·exact h.elim
 ·rename_i T x d p sc' ho hd
  split at h
  ·rename_i hi
   rw[bP]at h
   split at h
   ·rename_i cs hx
    obtain⟨h1,h2⟩:=h
    simp only[bk,aF]at h2
    exact⟨_,_,.ldE d T x cs p ho hd hi hx h1,sc',h2⟩
   ·exact h.elim
  ·rename_i hi
   refine old ?_ (by unfold Na;rw[ho]) h
   unfold Lp
   rw[ho,hd]
   simpa using hi
 ·split at h
  ·exact h.elim
  ·rename_i hu
   rw[vcY]at hu
   exact old hu.1 hu.2 h
theorem ru{bid:Nat->Option (Nat×aA)}{rw:List Nat}{an:List Nat}{K:List It->aB->Prop}:∀(rest:List Oper) (pos id:Nat) (sc:List It) (lg:List (List Rs)) (st:aB),DK P GE bid rw A ops an K rest pos id sc lg st->
  ku P GE bid rw ops (λlg st'=>(UD an lg&&PH rw lg)=true/\∃sc,K sc st') rest id lg st
 | [],_,_,sc,lg,st,h => by
  simp only[DK]at h
  split at h
  ·rename_i hl;exact⟨hl,sc,h⟩
  ·exact h.elim
 | o :: rest,pos,id,sc,lg,st,h => by
  simp only[DK]at h
  have step:∀sc st,JN P GE A (bid lg.length) rw o id sc st (λsc' rs st'=>ba (lg++[rs]) λlg'=>DK P GE bid rw A ops an K rest (pos+1) (id+if aE o.op then 1 else 0) sc' lg' st')->
    ∃s' rs,lZ P GE (bid lg.length) rw o id st s' rs/\ku P GE bid rw ops (λlg st'=>(UD an lg&&PH rw lg)=true/\∃sc,K sc st') rest (id+if aE o.op then 1 else 0) (lg++[rs]) s':=by
   intro sc st hs
   obtain⟨s',rs,h1,sc',h2⟩:=M6 (id:=id) hs
   rw[aF]at h2
   exact⟨s',rs,h1,ru rest _ _ sc' _ s' h2⟩
  unfold ku
  split at h
  ·rename_i hg;try simp only[hg]
   exact step _ _ h
  ·rename_i j want hg
   obtain⟨x,hx,hc⟩:=CQ h
   simp only[hg,hx]
   rcases hc with⟨rfl,sc',hc⟩|⟨hne,sc',hc⟩
   ·exact⟨λ_=>step _ _ hc,λhn=>absurd rfl hn⟩
   ·refine⟨λhe=>absurd he hne,λ_=>?_⟩
    simp only[rG,aF]at hc
    exact ru rest _ _ sc' _ _ hc
theorem d8.drawD{m:Nat}(hf:P.follows .mixedOrders=true){id:Nat}{an:List Nat}{X:List aA}{br:List (Nat×Nat)}{rw:List Nat}{Q:Exit->aB->Prop}{st:aB}(hnd:ops.toList.all ee=true)(h:PT P GE ops an X br rw (Q .normal) st):d8 P GE m (.region id ops true) Q st:=by
 intro ro E bs0 a w hE hb hR
 obtain⟨rfl,_,_,_⟩:=hE
 refine ek (Ao (Q:=λe a' w'=>e=.normal/\Nw P E bs0 a.defers Q .normal a' w') hf hnd (by rintro⟨_,_,h,_⟩;cases h) ?_) λe a' w' hq=>by obtain⟨rfl,hq⟩:=hq;exact hq
 exact Fa hR hR.len (λa' w' st' hd hR' hK=>⟨rfl,hd,st',hR',hK⟩) h
def DJ(P:Program)(GE:List (Nat×List PVal))(A:List Nat)(ops:Array Oper)(an:List Nat)(X:List aA)(br:List (Nat×Nat))(rw:List Nat)(K:List It->aB->Prop)(sc:List It)(st:aB):Prop:=
 match ops.toList.all ee&&(drawD P rw ops.toList st.tmps.length an&&qaw rw br st.boxes.length X.length)with
 |true=>EZ st.boxes X λH0=>match Zs rw H0 with
  |true=>EZ H0 (fc P ops.toList) λH=>DK P GE (NF br H0) rw A ops an K ops.toList 0 (st.boxes.length+X.length) sc [] ⟨st.tmps,H,st.own⟩
  |false=>False
 |false=>False
theorem Fc{m:Nat}(hf:P.follows .mixedOrders=true){id:Nat}{an:List Nat}{X:List aA}{br:List (Nat×Nat)}{rw:List Nat}{K:List It->aB->Prop}{sc:List It}{st:aB}{Q:Exit->aB->Prop}(hQ:∀st,(∃sc,K sc st)->Q .normal st)
  (h:DJ P GE A ops an X br rw K sc st):d8 P GE m (.region id ops true) Q st:=by
 unfold DJ at h
 split at h
 ·rename_i hd
  rw[vad,vad]at hd
  obtain⟨hnd,hd⟩:=hd
  unfold EZ at h
  rw[aF]at h
  split at h
  ·rename_i hr
   rw[aF]at h
   refine(d8.drawD (Q:=λe st=>e=.normal/\∃sc,K sc st) hf hnd ⟨hd.1,by rw[vad];exact⟨hd.2,hr⟩,?_⟩).imp λe st hx=>by obtain⟨rfl,hx⟩:=hx;exact hQ st hx
   have:=ru _ _ _ _ _ _ h
   simpa using this
  ·exact h.elim
 ·exact h.elim
end
end Go.Proofs.YtkdahfeiedaahaaGreatDoor
